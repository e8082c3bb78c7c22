import Derived.Test.YtjnjpagegkcgfaaGreatDoorCobA13
set_option maxRecDepth 1000000
set_option maxHeartbeats 16000000
set_option linter.all false
open Go.Value renaming slice->O,int->Y,agg->J,bool->C,tuple->H
open Go.IntKind renaming i64->Z
open Option renaming none->X,some->M
open Go renaming World->I,Value->N
open Go.Obj renaming cells->F
namespace Go.Proofs.YtjnjpagegkcgfaaGreatDoor.Cop
section
open Go.RowKit Go.Shelf
attribute [local go_sem] Oper.semAt_some
def Kw(w:I)(v:N)(q:Rat)(h:Ab w v q)(g:Rb Fb q):Calls Tryz.prog 97 #[v] w fun e w'=>e=.returned (.string ⟨(mg q).toArray⟩)/\Ba w w':=by
 obtain⟨a,m,c,s,a2,m2,c2,rfl⟩:=h.form;have j:=Aa (fun(W:I)(p:Ba w W)=>Rj W (J #[O a2 m2 c2]) _ (h.rest.ext p));have z:=Aa (fun(W:I)(p:Ba w W)=>SC W (J #[O a m c,C s]) q.num (h.top.ext p) g.1);have Q:=Aa (fun(W:I)(p:Ba w W)=>Xn W _ q (h.ext p) (g.mono dM));have y:=Aa (fun(W:I)(v:N)(hv:vd W v (q.den:Int))=>SC W v (q.den:Int) hv g.2);have l1:=Xp g.1;have l2:=Xp g.2;unfold mg;obtain⟨R,n⟩:=gX (yd q.num);obtain⟨T2,o⟩:=gX (yd (q.den:Int));rw[n]at z l1 ⊢;rw[o]at y l2 ⊢;unfold Fb at l1 l2;obtain⟨d,T⟩:=gX q.den;rw[T]at j Q y ⊢;clear n o T h g;by_cases l:d=1
 ·have k:(((d:Nat):Int)-1==0)=true:=by simp[l]
  rw[k]at j;rw[if_pos l];clear k l;go_in;go_wp2_with(first|(go_at_call 166;refine cM (j.o _ eA) ?_;rintro e w1 ⟨rfl,f⟩;obtain⟨K,P⟩:=f.cells)|(go_at_call 167;refine cM (z.o _ eA) ?_;rintro e w2 ⟨rfl,t⟩));go_ret;exact⟨rfl,eA⟩
 ·have k:(((d:Nat):Int)-1==0)=false:=by simp;omega
  rw[k]at j;rw[if_neg l];clear k l;go_in;have g1:¬9223372036854775807<R.length+1:=oM;have g2:¬9223372036854775807<R.length+1+T2.length:=oM;go_upto_region 3 with (first|(go_at_call 166;refine cM (j.o _ eA) ?_;rintro e w1 ⟨rfl,f⟩;obtain⟨K,P⟩:=f.cells));refine Kc [(⟨w.heap.size,0,X⟩,O a m c),(⟨w.heap.size,1,X⟩,C s),(⟨w.heap.size,2,X⟩,O a2 m2 c2)] cA fun b=>?_;refine sN 0 ?_
  iterate 2 refine xb ?_
  refine oN ?_;refine Db (i:=4) ?_;refine Ub (i:=2) (z.o _ eA) ?_;rintro e w2 ⟨rfl,t⟩;refine⟨_,rfl,(cE b t),fun b=>?_⟩;have S:Ba w w2:=eA;refine Db (i:=3) ?_;refine Ub (i:=5) (Q.o _ S) ?_;rintro e w5 ⟨r5,rfl,r,u⟩;obtain⟨a5,m5,c5,s5,rfl⟩:=r.form;refine⟨_,rfl,(cE b u),fun b=>?_⟩;have X5:Ba w w5:=S.trans u;refine Ub (i:=6) (y.o _ _ r) ?_;rintro e w6 ⟨rfl,x⟩;refine⟨_,rfl,(cE b x),fun b=>?_⟩;refine sN 7 ?_
  iterate 2 refine xb ?_
  refine oN ?_;refine Wb ?_;go_wp2;go_ret;exact⟨by rw[show (⟨#[47]⟩:ByteArray)=⟨[47].toArray⟩from rfl,ll,ll];simp,X5.trans x⟩
def UC(w:I)(Q R:N)(x z:Rat)(u:Ab w Q x)(y:Ab w R z)(d:Rb Fb x)(f:Rb Fb z):∀v,(∃a m c s a2 m2 c2 a' m' c' s' a2' m2' c2',Q=J #[O a m c,C s,O a2 m2 c2]/\R=J #[O a' m' c',C s',O a2' m2' c2']/\v=J #[O a m c,C s,O a2 m2 c2,O a' m' c',C s',O a2' m2' c2']) ->Calls Tryz.prog 48 #[v] w fun e w'=>e=.returned (.string ⟨(qk x z).toArray⟩)/\Ba w w':=by
 rintro v ⟨a,m,c,s,a2,m2,c2,a',m',c',s',a2',m2',c2',rfl,rfl,rfl⟩;have HX:=Aa (fun(W:I)(n:Ba w W)=>Kw W _ x (u.ext n) d);have p:=Aa (fun(W:I)(n:Ba w W)=>Kw W _ z (y.ext n) f);have K:=iD d;have P:=iD f;unfold qk;obtain⟨l,g⟩:=gX (mg x);obtain⟨r,j⟩:=gX (mg z);rw[g]at HX K ⊢;rw[j]at p P ⊢;unfold Fb at K P;clear g j u y d f;have T:¬9223372036854775807<1+l.length:=oM;have g2:¬9223372036854775807<1+l.length+2:=oM;have g3:¬9223372036854775807<1+l.length+2+r.length:=oM;have g4:¬9223372036854775807<1+l.length+2+r.length+1:=oM;go_in;go_wp2;refine Kc [(⟨w.heap.size,0,X⟩,O a m c),(⟨w.heap.size,1,X⟩,C s),(⟨w.heap.size,2,X⟩,O a2 m2 c2),(⟨w.heap.size,3,X⟩,O a' m' c'),(⟨w.heap.size,4,X⟩,C s'),(⟨w.heap.size,5,X⟩,O a2' m2' c2')] cA fun b=>?_;refine sN 0 ?_
 iterate 2 refine xb ?_
 refine oN ?_;refine sN 5 ?_
 iterate 2 refine xb ?_
 refine oN ?_;refine Ub (i:=2) (HX.o _ eA) ?_;rintro e S ⟨rfl,o⟩;refine⟨_,rfl,(cE b o),fun b=>?_⟩;have t:Ba w S:=eA;refine sN 3 ?_
 iterate 2 refine xb ?_
 refine oN ?_;refine Ub (i:=7) (p.o _ t) ?_;rintro e w7 ⟨rfl,k⟩;refine⟨_,rfl,(cE b k),fun b=>?_⟩;refine sN 8 ?_
 iterate 3 refine xb ?_
 refine oN ?_;refine Wb ?_;go_wp2;go_ret;exact⟨by rw[show (⟨#[40]⟩:ByteArray)=⟨[40].toArray⟩from rfl,show (⟨#[44,32]⟩:ByteArray)=⟨[44,32].toArray⟩from rfl,show (⟨#[41]⟩:ByteArray)=⟨[41].toArray⟩from rfl,ll,ll,ll,ll];simp,t.trans k⟩
def nc(w:I)(v:N)(q:Rat):Prop:=
 ∃s a m c s2 a2 m2 c2,v=J #[Y Z s,O a m c,Y Z s2,O a2 m2 c2]/\xd w (J #[Y Z s,O a m c]) q.num/\(xd w (J #[Y Z s2,O a2 m2 c2]) (q.den:Int)\/(s2=0/\q.den=1))
section
variable {w w':I} {v:N} {q:Rat} {s s2:Int} {a a2:Option Addr} {m c m2 c2:Nat}
def nc.ext(h:nc w v q)(k:Ba w w'):nc w' v q:=by obtain⟨s,a,m,c,s2,a2,m2,c2,rfl,b,d⟩:=h;exact⟨s,a,m,c,s2,a2,m2,c2,rfl,b.ext k,d.imp (·.ext k) id⟩
def nc.keep(h:nc w v q)(k:Ia 3 w w'):nc w' v q:=by obtain⟨s,a,m,c,s2,a2,m2,c2,rfl,b,d⟩:=h;exact⟨s,a,m,c,s2,a2,m2,c2,rfl,b.keep k,d.imp (·.keep k) id⟩
def nc.form(h:nc w v q):∃s a m c s2 a2 m2 c2,v=J #[Y Z s,O a m c,Y Z s2,O a2 m2 c2]:=by obtain⟨s,a,m,c,s2,a2,m2,c2,rfl,b,d⟩:=h;exact⟨_,_,_,_,_,_,_,_,rfl⟩
def nc.top(h:nc w (J #[Y Z s,O a m c,Y Z s2,O a2 m2 c2]) q):xd w (J #[Y Z s,O a m c]) q.num:=by obtain⟨s,a,m,c,s2,a2,m2,c2,e,b,d⟩:=h;cases e;exact b
def nc.bot(h:nc w (J #[Y Z s,O a m c,Y Z s2,O a2 m2 c2]) q):xd w (J #[Y Z s2,O a2 m2 c2]) (q.den:Int)\/(s2=0/\q.den=1):=by obtain⟨s,a,m,c,s2,a2,m2,c2,e,d,b⟩:=h;cases e;exact b
def nc.mk(b:xd w (J #[Y Z s,O a m c]) q.num)(d:xd w (J #[Y Z s2,O a2 m2 c2]) (q.den:Int)):nc w (J #[Y Z s,O a m c,Y Z s2,O a2 m2 c2]) q:=
 ⟨_,_,_,_,_,_,_,_,rfl,b,.inl d⟩
def nc.zero(w:I):nc w (J #[Y Z 0,O X 0 0,Y Z 0,O X 0 0]) 0:=⟨_,_,_,_,_,_,_,_,rfl,xd.nil w,.inr ⟨rfl,rfl⟩⟩
end
def De(w:I)(q:Rat)(e:Ending)(w':I):Prop:=∃r,e=.returned r/\nc w' r q/\Ba w w'
def Ae:Nat:=100000
def kI(q:Rat):(q.den:Int).sign=1:=Int.sign_eq_one_of_pos (Yf q)
def ul(w:I)(v:N)(q:Rat)(h:nc w v q):Calls Tryz.prog 81 #[v] w (Ih w (q.den:Int)):=by
 obtain⟨s,a,m,c,s2,a2,m2,c2,rfl⟩:=h.form;rcases h.bot with b|⟨rfl,b⟩
 ·obtain rfl:s2=1:=by rw[b.sgn,kI]
  go_in;go_wp2;exact bR (v:=J #[Y Z 1,O a2 m2 c2]) (by simp[results,Tryz.results81,go_sem]) rfl ⟨_,rfl,b.ext eA,eA⟩
 ·rw[b];clear b;go_in;go_wp2_with(go_at_call 96;(with_reducible refine(Pn _ 1 dM dM).mono ?_);rintro e t ⟨r,rfl,d,i⟩;obtain⟨p,k,o,l,rfl,-⟩:=d.j;obtain⟨⟨g,n⟩,j,f⟩:=Zb w i);exact bR (v:=J #[Y Z p,O k o l]) (by simp[results,Tryz.results81,go_sem,g,f]) rfl ⟨_,rfl,d.keep kA,eA⟩
def No(w:I)(v:N)(q:Rat)(h:nc w v q):Calls Tryz.prog 140 #[v] w fun e w'=>e=.returned (Y Z q.num.sign)/\Ba w w':=by obtain⟨s,a,m,c,s2,a2,m2,c2,rfl⟩:=h.form;have b:=h.top.sgn;have d:=Aa b;clear b;go_in;go_wp2;go_ret;exact⟨Ij (Nj d.o),eA⟩
def LH(w:I)(n:Int)(r:-9223372036854775808<=n)(t:n<=9223372036854775807):Calls Tryz.prog 34 #[Y Z n] w (De w (n:Rat)):=by go_in;go_wp2_with(first|(go_at_call 96;(with_reducible refine(Pn _ n r t).mono ?_);rintro e Q ⟨K,rfl,b,l⟩;obtain⟨z,o,y,p,rfl,-⟩:=b.j;obtain⟨⟨j,u⟩,g⟩:=Md w l)|(go_at_call 96;(with_reducible refine(Pn _ 1 dM dM).mono ?_);rintro e R ⟨P,rfl,d,f⟩;obtain⟨s2,a2,m2,c2,rfl,-⟩:=d.j;obtain⟨⟨k,x⟩,i⟩:=Md w f));exact bR (v:=J #[Y Z z,O o y p,Y Z s2,O a2 m2 c2]) (by simp[results,Tryz.results34,go_sem,j,k,g,i]) rfl ⟨_,rfl,nc.keep (nc.mk (q:=(n:Rat)) (b.ext f) d) kA,eA⟩
def XQ(w:I)(q:Rat)(W:I):Prop:=
 ∃n d:Int,0<d/\Rat.divInt n d=q/\Lm Uc n/\Lm Uc d/\NB W w.heap.size n/\NB W (w.heap.size+1) d/\Ba w W/\
  W.heap[w.heap.size+1+1]?=M (F #[Y Z 0,O X 0 0,Y Z 0,O X 0 0] 68 (0,0))
def WQ(w:I)(q:Rat)(W:I):Prop:=
 NB W w.heap.size q.num/\NB W (w.heap.size+1) (q.den:Int)/\Ba w W/\
  W.heap[w.heap.size+1+1]?=M (F #[Y Z 0,O X 0 0,Y Z 0,O X 0 0] 68 (0,0))
def yr{W:I}{b b':Nat}{n g:Int}(h:NB W b n)(f:NB W b' g)(d:b≠b')(u v:N):NB ((W.setCell ⟨b',0,X⟩ u).setCell ⟨b',1,X⟩ v) b n:=
 (h.other (p:=⟨b',0,X⟩) (fun e=>d e.symm) f.not _).other (p:=⟨b',1,X⟩) (fun e=>d e.symm) (f.not.set _ _) _
def So{W:I}{b b':Nat}{o:Obj}(h:W.heap[b]?=M o)(d:b≠b')(u v:N):((W.setCell ⟨b',0,X⟩ u).setCell ⟨b',1,X⟩ v).heap[b]?=M o:=by rw[bS _ _ _ _ d,bS _ _ _ _ d];exact h
def Tt{w W:I}{b:Nat}(h:Ba w W)(d:w.heap.size<=b)(u v:N):Ba w ((W.setCell ⟨b,0,X⟩ u).setCell ⟨b,1,X⟩ v):=(h.set (p:=⟨b,0,X⟩) d _).set (p:=⟨b,1,X⟩) d _
def St(w:I)(va vb:N)(na nb:Int)(ha:xd w va na)(hb:xd w vb nb)(aU:Lm Uc na)(aV:Lm Uc nb)(hd:nb≠0):Calls Tryz.prog 146 #[va,vb] w (De w (Rat.divInt na nb)):=by
 obtain⟨s,a,m,c,rfl,hs⟩:=ha.j;obtain⟨s',a',m',c',rfl,aZ⟩:=hb.j;obtain⟨q,hq⟩:=gX (Rat.divInt na nb);rw[hq];have Hq:=Aa hq;have am:=Aa aU;have an:=Aa aV;have ar:=Aa aZ;clear hs aZ hq aU aV;go_in;go_upto_if 8 with fail;obtain⟨W0,b⟩:=gX (((w.alloc (F #[Y Z s,O a m c] 66)).alloc (F #[Y Z s',O a' m' c'] 66)).alloc (F #[Y Z 0,O X 0 0,Y Z 0,O X 0 0] 68));have X0:Ba w W0:=by rw[<-b];exact(((eR w).alloc _).alloc _).alloc _
 have aA:NB W0 w.heap.size na:=by rw[<-b];exact(NB.new (W0:=w) ha rfl).ext (((eR _).alloc _).alloc _)
 have aB:NB W0 (w.heap.size+1) nb:=by rw[<-b];exact(NB.new (W0:=w.alloc (F #[Y Z s,O a m c] 66)) (hb.ext ((eR _).alloc _)) sM).ext ((eR _).alloc _)
 have ah:W0.heap[w.heap.size+1+1]?=M (F #[Y Z 0,O X 0 0,Y Z 0,O X 0 0] 68 (0,0)):=by rw[<-b];exact Ec _ _ _ sM
 have p0:W0.cell? ⟨w.heap.size,0,X⟩=M (Y Z s):=by rw[<-b];clear b;go_simp
 have p1:W0.cell? ⟨w.heap.size,1,X⟩=M (O a m c):=by rw[<-b];clear b;go_simp
 have q0:W0.cell? ⟨w.heap.size+1,0,X⟩=M (Y Z s'):=by rw[<-b];clear b;go_simp
 have q1:W0.cell? ⟨w.heap.size+1,1,X⟩=M (O a' m' c'):=by rw[<-b];clear b;go_simp
 have f0:W0.frozen? ⟨w.heap.size,0,X⟩=false:=by rw[<-b];clear b;go_simp
 have f1:W0.frozen? ⟨w.heap.size,1,X⟩=false:=by rw[<-b];clear b;go_simp
 have f2:W0.frozen? ⟨w.heap.size+1,0,X⟩=false:=by rw[<-b];clear b;go_simp
 have f3:W0.frozen? ⟨w.heap.size+1,1,X⟩=false:=by rw[<-b];clear b;go_simp
 have z0:=Gb ah;have z1:w.heap.size<W0.heap.size:=oM;have z2:w.heap.size+1<W0.heap.size:=oM;rw[b];clear b;go_cut [5] (fun _ W=>XQ w q W)
 case first =>
  by_cases bx:nb<0
  ·have bh:s'<0:=by
    have:=ar.o;rcases Sh nb with ⟨e,h⟩|⟨e,h⟩|⟨e,h⟩<;>omega
   go_wp2;refine Nh (fun i=>decide (3<i)) (Da [(⟨w.heap.size,0,X⟩,Y Z s),(⟨w.heap.size,1,X⟩,O a m c),(⟨w.heap.size+1,0,X⟩,Y Z s'),(⟨w.heap.size+1,1,X⟩,O a' m' c')]) kM ?_ (fun o=>?_)
   ·exact cA
   refine Sf (i:=0) ?_;refine Sf (i:=2) ?_;refine Jc (i:=1) fun K Q=>?_;go_simp;(with_reducible refine cM (lr _ (J #[Y Z s,O a m c]) na (ha.ext X0.drew)) ?_);rintro e w1 ⟨r1,rfl,P,ae⟩;obtain⟨s1,a1,m1,c1,rfl,-⟩:=P.j;go_wp2;refine kO Q (fun _=>cE o ae) (fun o=>?_);clear Q K;replace o:=o rfl;refine Jc (i:=3) fun K Q=>?_;go_simp;(with_reducible refine cM (lr _ (J #[Y Z s',O a' m' c']) nb (hb.ext (X0.drew.trans ae))) ?_);rintro e w2 ⟨r2,rfl,aY,av⟩;obtain⟨s2,a2,m2,c2,rfl,-⟩:=aY.j;go_wp2;refine kO Q (fun _=>cE o av) (fun o=>?_);clear Q K;replace o:=o rfl;have X2:Ba W0 w2:=(eR W0).drew.trans (ae.trans av);have y1:w.heap.size<w2.heap.size:=X2.lt z1;have y2:w.heap.size+1<w2.heap.size:=X2.lt z2;obtain⟨bq,bt⟩:=X2.cells;refine Jc (i:=4) fun K Q=>?_;go_simp;refine kO Q (fun h=>nomatch h) (fun o=>?_);clear Q K;refine Jc (i:=5) fun K Q=>?_;go_simp;refine kO Q (fun h=>nomatch h) (fun o=>?_);clear Q K;refine Kb kM ?_ _;go_wp2;go_meet;have ac:=aA.ext X2;have a0:=aB.ext X2;refine⟨-na,-nb,by omega,by rw[Rat.neg_divInt_neg];exact Hq.o,am.o.neg,an.o.neg,?_,?_,?_,?_⟩
   ·exact yr (ac.put (P.ext av)) (yr a0 ac oM _ _) oM _ _
   ·exact(yr a0 ac oM _ _).put (aY.keep (((Ia.refl _ w2).x ac.not _).x (ac.not.set _ _) _))
   ·exact Tt (Tt (X0.trans X2) oM _ _) oM _ _
   ·exact So (So (X2.e ah) oM _ _) oM _ _
  ·have bh:¬s'<0:=by
    have:=ar.o;rcases Sh nb with ⟨e,h⟩|⟨e,h⟩|⟨e,h⟩<;>omega
   go_wp2;go_meet;exact⟨na,nb,by omega,Hq.o,am.o,an.o,aA,aB,X0,ah⟩
 case rest =>
  clear aA aB ah p0 p1 q0 q1 f0 f1 f2 f3 z0 z1 z2 X0 Hq am an ar ha hb hd;obtain⟨n,d,hd,hq,aX,aW,hn,z,hx,f⟩:=hcut;obtain⟨r1,r2,r3,r4,r5⟩:=oB (n:=n) (d:=d) oM;unfold rg at r1 r2 r3 r4 r5;rw[if_neg oM]at r1 r2 r3 r4 r5;rw[hq]at r4 r5;obtain⟨g,hg⟩:=gX ((Int.gcd n d:Int));rw[hg]at r1 r2 r3 r4 r5;have bw:0<g:=oM;have au:Lm Uc g:=by
   have:g<=d:=Int.le_of_dvd hd r3;unfold Lm at *;omega
  have Hg:=Aa hg;have R4:=Aa r4;have R5:=Aa r5;have aK:=Aa aX;have aH:=Aa aW;have aI:=Aa au;have aJ:Sa (Lm Bc g):=Aa (au.mono dM);have aG:Sa (Lm Bc 1):=Aa (Jp dM);have Hn:=Aa hn;have aL:=Aa z;have aj:=Aa f;obtain⟨sx,ax,mx,cx,bi,x0,x1,aC,aD,x2,aw⟩:=hn.rd;obtain⟨sy,ay,my,cy,bj,y0,y1,aE,aF,y2,az⟩:=z.rd;clear hg r1 r2 r3 r4 r5 aX aW au hn z f bi bj;go_upto_region 4 with (go_at_call 194;(with_reducible refine(JJ _ (J #[Y Z sx,O ax mx cx]) (J #[Y Z sy,O ay my cy]) n d aw az aK.o aH.o).mono ?_);rw[Hg.o];rintro e w3 ⟨r3,rfl,t,af⟩;obtain⟨s3,a3,m3,c3,rfl,-⟩:=t.j;obtain⟨ba,be⟩:=af.cells);obtain⟨r,p⟩:=gX (w3.alloc (F #[Y Z s3,O a3 m3 c3] 66));have x:Ba wc r:=by rw[<-p];exact af.alloc _
  have n3:NB r w.heap.size n:=Hn.o.ext x;have d3:NB r (w.heap.size+1) d:=aL.o.ext x;have g3:NB r w3.heap.size g:=by rw[<-p];exact NB.new t rfl
  have e0:=x.d x0;have e1:=x.d x1;have e2:=x.d y0;have e3:=x.d y1;have aM:r.frozen? ⟨w.heap.size,0,X⟩=false:=(x.cells.2 _ _ x2).trans aC;have aO:r.frozen? ⟨w.heap.size,1,X⟩=false:=(x.cells.2 _ _ x2).trans aD;have aP:r.frozen? ⟨w.heap.size+1,0,X⟩=false:=(x.cells.2 _ _ y2).trans aE;have aQ:r.frozen? ⟨w.heap.size+1,1,X⟩=false:=(x.cells.2 _ _ y2).trans aF;have e4:r.cell? ⟨w3.heap.size,0,X⟩=M (Y Z s3):=by rw[<-p];clear p;go_simp
  have e5:r.cell? ⟨w3.heap.size,1,X⟩=M (O a3 m3 c3):=by rw[<-p];clear p;go_simp
  have S:xd r (J #[Y Z s3,O a3 m3 c3]) g:=by rw[<-p];exact t.ext ((eR _).alloc _)
  have zg:w3.heap.size<r.heap.size:=by rw[<-p];simp
  have zl:wc.heap.size<=w3.heap.size:=af.size;have zr:=Gb aj.o;have zw:w.heap.size<r.heap.size:=oM;have ai:w.heap.size+1<r.heap.size:=oM;obtain⟨gg,aT⟩:=gX w3.heap.size;rw[p];rw[aT]at g3 e4 e5 zg zl ⊢;obtain⟨T,hT⟩:=gX ((g-1).sign);have aS:0<T ↔ 1<g:=by
   rw[<-hT];rcases Sh (g-1)with ⟨e,h⟩|⟨e,h⟩|⟨e,h⟩<;>omega
  have HT:=Aa hT;clear p aT ba be t af x0 x1 aC aD x2 y0 y1 aE aF y2 hT;go_cut [19] (fun bk W=>bk=C (decide (1<g))/\Ba r W)
  case first =>
   go_region_held3 (fun W=>W.cell? ⟨gg,0,X⟩=M (Y Z s3)/\W.cell? ⟨gg,1,X⟩=M (O a3 m3 c3)) ((repeat' (with_reducible refine And.intro ?_ ?_))<;>(first|(go_simp;done)|(refine ae.d ?_;go_simp;done))) (first|(go_at_call 96;(with_reducible refine(Pn _ 1 dM dM).mono ?_);rintro e w4 ⟨r4,rfl,aa,ag⟩;obtain⟨s4,a4,m4,c4,rfl,-⟩:=aa.j;obtain⟨br,bu⟩:=oo ag;(have z4:gg<w4.heap.size:=ag.lt zg))|(go_at_call 79;(with_reducible refine(MB _ (J #[Y Z s3,O a3 m3 c3]) (J #[Y Z s4,O a4 m4 c4]) g 1 ?_ aa aJ.o aG.o).mono ?_);(refine S.ext ?_;exact(eR r).drew.trans ag);rw[HT.o];rintro e y ⟨rfl,j⟩;obtain⟨bb,bf⟩:=oo j;(have z5:gg<y.heap.size:=j.lt z4)))
   all_goals go_wp2
   go_meet;exact⟨by simp[aS],(eR r).drew.trans (ag.trans j)⟩
  case rest =>
   obtain⟨rfl,l⟩:=hcut;have n4:=n3.ext l;have d4:=d3.ext l;have g4:=g3.ext l;have b0:=l.d e0;have b1:=l.d e1;have b2:=l.d e2;have b3:=l.d e3;have b4:=l.d e4;have b5:=l.d e5;have u0:w.heap.size<wc.heap.size:=l.lt zw;have u1:w.heap.size+1<wc.heap.size:=l.lt ai;have u2:gg<wc.heap.size:=l.lt zg;have ak:=aw.ext (x.trans l);have al:=az.ext (x.trans l);have R:=S.ext l;have XW:Ba w wc:=hx.trans (x.trans l);have aa:=(x.trans l).e aj.o;have aq:=Aa aa;have a7:Sa (∀(y:I)(k:Ba wc y)(u v:N),xd ((y.setCell ⟨w.heap.size,0,X⟩ u).setCell ⟨w.heap.size,1,X⟩ v) (J #[Y Z sy,O ay my cy]) d):=Aa fun y k u v =>
    (al.ext k).keep (((Ia.refl _ y).x (n4.ext k).not _).x ((n4.ext k).not.set _ _) _)
   have a5:Sa (∀(y:I)(k:Ba wc y)(u v:N),xd ((y.setCell ⟨w.heap.size,0,X⟩ u).setCell ⟨w.heap.size,1,X⟩ v) (J #[Y Z s3,O a3 m3 c3]) g):=Aa fun y k u v =>
    (R.ext k).keep (((Ia.refl _ y).x (n4.ext k).not _).x ((n4.ext k).not.set _ _) _)
   have ap:=Aa n4;have ao:=Aa d4;have bl:wc.frozen? ⟨w.heap.size,0,X⟩=false:=(l.cells.2 _ _ zw).trans aM;have bm:wc.frozen? ⟨w.heap.size,1,X⟩=false:=(l.cells.2 _ _ zw).trans aO;have bn:wc.frozen? ⟨w.heap.size+1,0,X⟩=false:=(l.cells.2 _ _ ai).trans aP;have bo:wc.frozen? ⟨w.heap.size+1,1,X⟩=false:=(l.cells.2 _ _ ai).trans aQ;have ug:w.heap.size+1+1<gg:=oM;have bA:¬gg=w.heap.size:=oM;have bB:¬w.heap.size=gg:=oM;clear n3 d3 g3 n4 d4 aa e0 e1 e2 e3 e4 e5 aM aO aP aQ x l aw az S Hn aL zw ai zg zl zr g4 aS;go_upto_if 19 with fail;go_cut [20] (fun _ W=>WQ w q W)
   case first =>
    by_cases aR:1<g
    ·(have kg:decide (1<g)=true:=by simpa using aR);go_wp2_with(first|(go_at_call 142;(with_reducible refine(Rt _ (J #[Y Z sx,O ax mx cx]) (J #[Y Z s3,O a3 m3 c3]) n g ak R aK.o aI.o oM).mono ?_);rintro e y ⟨r1,r2,rfl,P,-,j⟩;rw[R4.o]at P;obtain⟨s1,a1,m1,c1,rfl,-⟩:=P.j;obtain⟨bb,bf⟩:=j.cells;(have z5:w.heap.size<y.heap.size:=j.lt u0);(have bG:w.heap.size+1<y.heap.size:=j.lt u1);(have bp:gg<y.heap.size:=j.lt u2))|(go_at_call 142;(with_reducible refine(Rt _ (J #[Y Z sy,O ay my cy]) (J #[Y Z s3,O a3 m3 c3]) d g (a7.o _ j _ _) (a5.o _ j _ _) aH.o aI.o oM).mono ?_);rintro e w6 ⟨r3,r4,rfl,t,-,ab⟩;rw[R5.o]at t;obtain⟨s6,a6,m6,c6,rfl,-⟩:=t.j;obtain⟨bs,bv⟩:=ab.cells));go_meet;have k1:=ap.o.ext j;have k2:=yr (ao.o.ext j) k1 (show w.heap.size+1≠w.heap.size by omega) (Y Z s1) (O a1 m1 c1);have k3:=(k1.put P).ext ab;have k4:=k2.ext ab;refine⟨yr k3 k4 oM _ _,k4.put t,Tt ((Tt (XW.trans j) oM _ _).trans ab) oM _ _,So (ab.e (So (j.e aq.o) oM _ _)) oM _ _⟩
    ·(have kg:decide (1<g)=false:=by simpa using aR);obtain rfl:g=1:=oM;go_wp2;go_meet;have e1:=R4.o;have e2:=R5.o;rw[Int.ediv_one]at e1 e2;exact⟨e1▸ap.o,e2▸ao.o,XW,aq.o⟩
   case rest =>
    clear u0 u1 u2 bl bm bn bo b0 b1 b2 b3 b4 b5 XW aq ap ao ak al R;obtain⟨hn,z,bz,f⟩:=hcut;obtain⟨s8,a8,m8,c8,-,x0,x1,aC,aD,x2,bg⟩:=hn.rd;obtain⟨s9,a9,m9,c9,-,y0,y1,aE,aF,y2,bc⟩:=z.rd;have r0:=Ca f (i:=0) (u:=Y Z 0) rfl;have r1:=Ca f (i:=1) (u:=O X 0 0) rfl;have r2:=Ca f (i:=2) (u:=Y Z 0) rfl;have r3:=Ca f (i:=3) (u:=O X 0 0) rfl;have bC:=Ua f 0;have bD:=Ua f 1;have bE:=Ua f 2;have bF:=Ua f 3;have rz:=Gb f;(have ad:ld 3 wc (w.heap.size+1+1):=by intro cs fr e;rw[f]at e;cases e);clear hn z f;go_wp2;refine bR (v:=J #[Y Z s8,O a8 m8 c8,Y Z s9,O a9 m9 c9]) (by simp[results,Tryz.results146,go_sem,rz,r0,r1,r2,r3]) rfl ⟨_,rfl,nc.keep (nc.mk bg bc) ?_,eA⟩;exact((((Ia.refl _ wc).x ad _).x (ad.set _ _) _).x ((ad.set _ _).set _ _) _).x (((ad.set _ _).set _ _).set _ _) _
end
section
open Go.RowKit Go.Shelf Go.Sort Go.Lib
def Ll{g:LP}(h:Za g=true):mc g:=by unfold Za at h;rw[Bool.and_eq_true,List.all_eq_true]at h;obtain⟨d,l⟩:=h;unfold Ta at d;simp at d;refine⟨fun e=>by subst e;simp at d,fun p n=>?_,by omega⟩;obtain⟨i,k,rfl⟩:=List.mem_iff_getElem.1 n;have b:=l i (List.mem_range.2 k);unfold Gf at b;rw[gD,gE k,Option.getD_some]at b;simp only[Bool.and_eq_true,Bool.not_eq_true']at b;have f:=b.1;have j:=b.2.1;unfold og at f j;simp at f j;constructor<;>(unfold Bd;omega)
def Vc(g:LP)(p:Pl):Bool:=decide (Ra g<=Ra (Ea p))&&decide (Ya (Ea p)<=Ya g)
def Fd(g:LP)(ps:List Pl)(p:Pl):Bool:=re (Ea p) g&&!ps.any (Bf p)
def La{T:TypeId}{k:Nat}{α:Type}{P:I->List N->α->Prop}{w:I}{v:N}{xs:List α}(h:Sl T k P w v xs):∃a n c,v=O a n c:=by obtain⟨a,c,h⟩:=h.form;exact⟨a,_,c,h⟩
def WE(w:I)(l i:N)(ps:List Pl)(b:ByteArray)(t:∃a n c,l=O a n c)(h:Sb w i ps):Calls Tryz.prog 52 #[J #[l,i],.string b] w fun e w'=>e=.returned (C (ps.any (Uf b)))/\Ba w w':=by obtain⟨Q,S,R,rfl⟩:=t;have g:=fun W (r:Ba w W) (d:Nat) (z:W.cell? ⟨d,0,X⟩=M (.string b))=>QN W i ps d (Uf b) (h.f r) (fun W' f P p _ y=>BK W' P p b d y (f.d z));obtain⟨a,n,c,rfl⟩:=La h;obtain⟨x,k⟩:=gX (ps.any (Uf b));simp only[k]at g ⊢;have o:=Aa g;clear g k h;have u:∀(j:Fn)(first cap:Array N)(w:I),(Instr.makeFunc j first cap).run Tryz.prog w = .ok (.func j first cap) w:=fun _ _ _ _=>rfl;go_in;go_wp2_with(((go_at_call 129;refine cM (o.o _ eA _ ?_) ?_;(focus(go_simp;done));rintro e T ⟨rfl,K⟩)));go_ret;exact⟨rfl,eA⟩
def AD(w:I)(P Q vp:N)(g:LP)(ps:List Pl)(p:Pl)(r:Ja w P g)(h:Sb w Q ps)(hp:Ce w vp p)(k0:mc g)(k1:∀q∈ps,Fa q=true)(x:Fa p=true):Calls Tryz.prog 53 #[J #[P,Q],vp] w fun e w'=>e=.returned (C (Fd g ps p))/\Ba w w':=by
 obtain⟨s1,y,u1,rfl,z,k,K⟩:=hp;have j:=Aa (fun W (f:Ba w W) (o:Nat) (hq:W.heap[o]?=M (F (Je p s1 y u1) 128 (0,0)))=>SN W Q ps o (Bf p) (h.f f) (fun W' b vq q u t=>WL W' vq q p o s1 y u1 t ⟨b.e hq,z.f (f.trans b),k.f (f.trans b),K.f (f.trans b)⟩ (k1 q u) x));have l:=Aa (fun W (f:Ba w W)=>Tv W y P (Ea p) g (k.f f) (r.f f) (Lh x).1 k0);obtain⟨ga,gn,gc,rfl⟩:=La r;obtain⟨a,n,c,rfl⟩:=La h;obtain⟨ae,ag,af,rfl⟩:=La z;obtain⟨a1,n1,c1,rfl⟩:=La k;obtain⟨ah,aj,ai,rfl⟩:=La K;obtain⟨fr,R⟩:=gX (re (Ea p) g);obtain⟨cl,S⟩:=gX (ps.any (Bf p));unfold Fd;rw[R]at l ⊢;rw[S]at j ⊢;obtain⟨nm,sh,d,de,gx,gz,wy,ax,az,sk⟩:=p;clear R S r h z k K k0 k1 x;unfold Je at j ⊢;dsimp only at j ⊢;have ac:∀(T:Fn)(first cap:Array N)(w:I),(Instr.makeFunc T first cap).run Tryz.prog w = .ok (.func T first cap) w:=fun _ _ _ _=>rfl;cases fr with
 |false=>
  go_in;go_wp2_with(go_at_call 131;refine cM (l.o _ eA) ?_;rintro e w1 ⟨rfl,i⟩);go_ret;exact⟨rfl,eA⟩
 |true=>
  go_in;go_wp2_with(first|(go_at_call 131;refine cM (l.o _ eA) ?_;rintro e w1 ⟨rfl,i⟩;obtain⟨aa,ab⟩:=i.cells)|(go_at_call 129;refine cM (j.o _ eA _ ?_) ?_;(exact i.e (Ec _ _ _ sM));rintro e w2 ⟨rfl,ad⟩));go_ret;exact⟨rfl,eA⟩
def QC(w:I)(u vs vp:N)(g:LP)(p:Pl)(r:Ja w u g)(h:∃a n c,vs=O a n c)(hp:Ce w vp p)(K:mc g)(k2:Fa p=true):Calls Tryz.prog 51 #[J #[u,vs],vp] w fun e w'=>e=.returned (C (Vc g p))/\Ba w w':=by
 obtain⟨s1,l1,u1,rfl,p1,t,p3⟩:=hp;have P:=(Lh k2).1;have R:=Aa (fun(W:I)(f:Ba w W)=>Po W u g (r.f f) (List.length_pos_iff.2 K.1));have S:=Aa (fun(W:I)(f:Ba w W)=>Po W l1 (Ea p) (t.f f) (List.length_pos_iff.2 P.1));have T:=Aa (fun(W:I)(f:Ba w W)=>Yp W l1 (Ea p) (t.f f) (List.length_pos_iff.2 P.1));have HD:=Aa (fun(W:I)(f:Ba w W)=>Yp W u g (r.f f) (List.length_pos_iff.2 K.1));obtain⟨ga,gn,gc,rfl⟩:=La r;obtain⟨a,n,c,rfl⟩:=h;obtain⟨aa,ac,ab,rfl⟩:=La p1;obtain⟨a1,n1,c1,rfl⟩:=La t;obtain⟨ad,af,ae,rfl⟩:=La p3;unfold Vc;obtain⟨y,f1⟩:=gX (Ra g);obtain⟨gr,f2⟩:=gX (Ya g);obtain⟨Q,f3⟩:=gX (Ra (Ea p));obtain⟨pr,f4⟩:=gX (Ya (Ea p));simp only[f1,f2,f3,f4]at R S T HD ⊢;obtain⟨nm,sh,d,de,gx,gz,wy,ax,az,sk⟩:=p;clear f1 f2 f3 f4 r p1 t p3 K k2 P;unfold Je;dsimp only;go_in;go_wp2;refine Kc [(⟨w.heap.size,0,X⟩,O ga gn gc),(⟨w.heap.size+1,10,X⟩,O a1 n1 c1)] cA fun b=>?_;refine sN 0 ?_
 iterate 2 refine xb ?_
 refine oN ?_;refine sN 3 ?_
 iterate 2 refine xb ?_
 refine oN ?_;refine Ub (i:=2) (R.o _ eA) ?_;rintro e w3 ⟨rfl,z⟩;refine⟨_,rfl,(cE b z),fun b=>?_⟩;have X3:Ba w w3:=eA;refine Ub (i:=5) (S.o _ X3) ?_;rintro e w4 ⟨rfl,j⟩;refine⟨_,rfl,(cE b j),fun b=>?_⟩;have x:=X3.trans j;refine sN 6 ?_
 iterate 2 refine xb ?_
 refine oN ?_;by_cases g1:y<=Q
 ·have o:decide (y<=Q)=true:=by simpa using g1
  rw[o];refine sN 8 ?_
  iterate 2 refine xb ?_
  refine oN ?_;refine sN 11 ?_
  iterate 2 refine xb ?_
  refine oN ?_;refine Ub (i:=10) (T.o _ x) ?_;rintro e w5 ⟨rfl,k⟩;refine⟨_,rfl,(cE b k),fun b=>?_⟩;have X5:=x.trans k;refine Ub (i:=13) (HD.o _ X5) ?_;rintro e w6 ⟨rfl,l⟩;refine⟨_,rfl,(cE b l),fun b=>?_⟩;have X6:=X5.trans l;refine sN 14 ?_
  iterate 3 refine xb ?_
  refine oN ?_;refine Wb ?_;go_wp2;go_ret;exact⟨by rw[o];rfl,X6⟩
 ·have o:decide (y<=Q)=false:=by simpa using g1
  rw[o];refine sN 8 ?_
  iterate 2 refine Ee ?_
  refine oN ?_;refine sN 11 ?_
  iterate 2 refine Ee ?_
  refine oN ?_;refine Kd (i:=10) ?_;refine sN 13 ?_
  iterate 2 refine Ee ?_
  iterate 2 refine xb ?_
  refine oN ?_;refine Wb ?_;go_wp2;go_ret;exact⟨by simp,x⟩
def Df(g:LP)(done:List Pl)(p:Pl):Int:=if Fa p then (if Vc g p then (if done.any (Uf p.name)then 7 else 0)else 2)else 2
def jd(g:LP):List Pl->List Pl->Int
 | _,[]=>0
 | done,p::r=>if Df g done p=0 then jd g (done++[p]) r else Df g done p
def Kf(g:LP):List Pl->List Pl->Int
 | _,[]=>0
 | done,p::r=>if Fd g done p then Kf g (done++[p]) r else 12
def Bb(g:LP)(ps:List Pl):Int:=if Za g then (if 120<ps.length then 5 else if jd g [] ps=0 then Kf g [] ps else jd g [] ps)else 2
def qu{α:Type}{ps:List α}{i:Nat}{p:α}(h:ps[i]?=M p):ps.drop i=p::ps.drop (i+1):=by obtain⟨b,rfl⟩:=lS.1 h;exact List.drop_eq_getElem_cons b
def tE{g:LP}{ps:List Pl}{i:Nat}{p:Pl}(h:ps[i]?=M p)(b:Df g (ps.take i) p=0):jd g (ps.take i) (ps.drop i)=jd g (ps.take (i+1)) (ps.drop (i+1)):=by rw[qu h,Rf _ _ _ h,jd,if_pos b]
def Yt{g:LP}{ps:List Pl}{i:Nat}{p:Pl}(h:ps[i]?=M p)(b:Df g (ps.take i) p≠0):jd g (ps.take i) (ps.drop i)=Df g (ps.take i) p:=by rw[qu h,jd,if_neg b]
def sE{g:LP}{ps:List Pl}{i:Nat}{p:Pl}(h:ps[i]?=M p)(b:Fd g (ps.take i) p=true):Kf g (ps.take i) (ps.drop i)=Kf g (ps.take (i+1)) (ps.drop (i+1)):=by rw[qu h,Rf _ _ _ h,Kf,if_pos b]
def rE{g:LP}{ps:List Pl}{i:Nat}{p:Pl}(h:ps[i]?=M p)(b:Fd g (ps.take i) p=false):Kf g (ps.take i) (ps.drop i)=12:=by rw[qu h,Kf,b];rfl
def se(w:I)(base:Nat)(v:N)(ps:List Pl):Prop:=∃cs,Ka 128 12 w base v cs/\cs.length=ps.length/\∀(i:Nat) c p,cs[i]?=M c->ps[i]?=M p->Fl w c p
def se.las{w:I}{base:Nat}{v:N}{ps:List Pl}(h:se w base v ps):Sb w v ps:=by obtain⟨f,b,d,e⟩:=h;exact b.sl d e
def se.nil(w:I)(base:Nat):se w base (O X 0 0) []:=⟨[],Ka.nil _ _ _ _,rfl,fun i c p b=>by simp at b⟩
def se.i{w:I}{base:Nat}{v:N}{ps:List Pl}(h:se w base v ps):∃a n c,v=O a n c:=by obtain⟨d,b,_⟩:=h;exact b.i
def se.setOther{w:I}{base:Nat}{v:N}{ps:List Pl}{q:Addr}(h:se w base v ps)(k:v.ownBlock≠M q.block)(j:ld 43 w q.block)(u:N):se (w.setCell q u) base v ps:=by obtain⟨b,d,e,f⟩:=h;exact⟨b,d.setOther k u,e,fun i c p g l=>(f i c p g l).keep ((Ia.refl _ w).x j u)⟩
def se.lt{w:I}{base:Nat}{v:N}{ps:List Pl}(h:se w base v ps):∀j,v.ownBlock=M j->base<=j/\j<w.heap.size:=by obtain⟨d,b,_⟩:=h;exact b.lt
def se.app{wr f:I}{base:Nat}{k:N}{ps:List Pl}{cs:List (List N)}{d:List N}{p:Pl}(h:Ka 128 12 f base k (cs++[d]))(g:cs.length=ps.length)(j:∀(i:Nat) c p,cs[i]?=M c->ps[i]?=M p->Fl wr c p)(o:Ia 43 wr f)(l:Fl f d p):se f base k (ps++[p]):=by
 refine⟨cs++[d],h,by simp[g],fun i c x b e=>?_⟩;by_cases n:i<cs.length
 ·rw[List.getElem?_append_left n]at b;rw[List.getElem?_append_left oM]at e;exact(j i c x b e).keep o
 ·rw[List.getElem?_append_right oM]at b e;have r:=(lS.1 b).1;simp at r;have:i-cs.length=0:=oM;rw[this]at b;rw[show i-ps.length=0 by omega]at e;simp at b e;subst b e;exact l
def BH:(Tryz.prog.info? 128).map (fun i=>(i.zero,i.size,i.bytes))=M (M (J Qr),12,152):=kM
def Nn(W:I)(cs:Array N)(T:TypeId):∀(j:Nat) u,[cs.toList].flatten[j]?=M u->(W.alloc (F cs T)).cell? ((⟨W.heap.size,0,X⟩:Addr).add j)=M u:=by
 intro j u b;rw[List.flatten_cons,List.flatten_nil,List.append_nil,Array.getElem?_toList]at b;have e:=Ca (aN W (F cs T)) b;unfold Addr.add;split
 ·subst j;exact e
 ·rw[show (⟨W.heap.size,0,X⟩:Addr).off+j=j by simp];exact e
def Cm(w:I)(c:List N)(p:Pl):Prop:=∃v,c=(Dd p v).toList/\Ja w v p.shape/\0<=p.skin
def Cm.ext{w w':I}{c:List N}{p:Pl}(h:Cm w c p)(k:Ba w w'):Cm w' c p:=by obtain⟨v,b,d,e⟩:=h;exact⟨v,b,d.f k,e⟩
abbrev Pd(w:I)(v:N)(ps:List Pl):Prop:=Sl 47 10 Cm w v ps
def Pd.f{w w':I}{v:N}{ps:List Pl}(h:Pd w v ps)(k:Ba w w'):Pd w' v ps:=Sl.ext h (fun _ _ h=>Cm.ext h k) k
def Pd.at'{w:I}{a:Option Addr}{n c:Nat}{ps:List Pl}(h:Pd w (O a n c) ps){i:Nat}{p:Pl}(r:ps[i]?=M p):∃b o v,a=M ⟨b,o,X⟩/\b<w.heap.size/\Ja w v p.shape/\0<=p.skin/\∀(j:Nat) u,(Dd p v)[j]?=M u->w.cell? ⟨b,o+i*10+j,X⟩=M u:=by obtain⟨b,o,d,rfl,g,t,⟨v,rfl,e,f⟩,k⟩:=Sl.at h r;exact⟨b,o,v,rfl,g,e,f,fun j u l=>k j u (by rw[Array.getElem?_toList];exact l)⟩
def Mr:N:=J #[O X 0 0,O X 0 0]
def Ao(w:I)(b:N)(g:LP)(ps:List Pl)(e:Ending)(w':I):Prop:=
 (Bb g ps≠0/\e=.returned (H #[Mr,Y Z (Bb g ps)])/\Ba w w')\/(Bb g ps=0/\∃vs,e=.returned (H #[J #[b,vs],Y Z 0])/\Sb w' vs ps/\Ba w w')
def il(w:I)(d:Nat)(b e f:N)(W:I):Prop:=
 W.heap[w.heap.size]?=M (F #[b,e] 41 (0,0))/\W.heap[w.heap.size+1]?=M (F #[O X 0 0,O X 0 0] 124 (0,0))/\W.heap[d]?=M (F #[b,f] 124 (0,0))
def il.ext{w W W':I}{b:Nat}{d e f:N}(h:il w b d e f W)(k:Ba W W'):il w b d e f W':=⟨k.e h.1,k.e h.2.1,k.e h.2.2⟩
def il.below{w W W':I}{b:Nat}{d e f:N}(h:il w b d e f W)(k:Below (b+1) W W')(l:w.heap.size+1<b):il w b d e f W':=by obtain⟨g,i,j⟩:=h;exact⟨(k.block _ oM).trans g,(k.block _ oM).trans i,(k.block _ oM).trans j⟩
def il.put{w W:I}{b:Nat}{d e j:N}(h:il w b d e j W)(k:w.heap.size+1<b)(v:N):il w b d e v (W.setCell ⟨b,1,X⟩ v):=by
 obtain⟨f,g,i⟩:=h;refine⟨?_,?_,?_⟩
 ·rw[bS _ _ _ _ dO];exact f
 ·rw[bS _ _ _ _ dO];exact g
 ·simp[World.setCell,Array.getElem?_modify,i]
def uR(w:I)(b:Nat)(f j:N)(g:LP)(ps:List Pl)(e:Nat)(t28:N)(W:I):Prop:=
 ∃(i:Nat)(d:N),i<=ps.length/\t28=Y Z i/\e=ps.length-i/\Ba w W/\b+1<=W.heap.size/\il w b f j d W/\se W (b+1) d (ps.take i)/\jd g [] ps=jd g (ps.take i) (ps.drop i)/\∀p∈ps.take i,Fa p=true
def tR(w:I)(d:Nat)(j k:N)(e:N)(g:LP)(ps:List Pl)(f:Nat)(b:N)(W:I):Prop:=
 ∃i:Nat,i<=ps.length/\b=Y Z i/\f=ps.length-i/\Ba w W/\d+1<=W.heap.size/\il w d j k e W/\Sb W e ps/\Kf g [] ps=Kf g (ps.take i) (ps.drop i)
def Ba.isPts{w w':I}{v:N}{ps:LP}(h:Ja w v ps)(k:Ba w w'):Ja w' v ps:=h.f k
def ux(w:I)(vg vp:N)(g:LP)(ps:List Pl)(hg:Ja w vg g)(hp:Pd w vp ps)(bq:Gw w):Calls Tryz.prog 49 #[J #[vg,vp]] w (Ao w vg g ps):=by
 have HG:=Aa (fun(W:I)(hW:Ba w W)=>tO W vg g (hg.f hW));have bb:=Aa (fun(W:I)(hW:Ba w W)=>hg.f hW);have bX:=Aa (fun(W:I)(hW:Ba w W)=>hp.f hW);have bQ:=Aa bq;obtain⟨ga,gn,gc,rfl⟩:=La hg;obtain⟨pa,pn,aY,rfl⟩:=La hp;have bs:=hp.len;have bt:=hp.le;obtain⟨R,hR⟩:=gX (Ao w (O ga gn gc) g ps);rw[hR];have HR:=Aa hR;have Hn:=Aa bs.symm;have ct:pn<=9223372036854775807:=by unfold maxLen at bt;omega
 clear hg hp bq bs bt hR;obtain⟨G,hG⟩:=gX (Za g);have aw:=Aa hG;rw[hG]at HG;clear hG;cases G with
 |false=>
  have e:Bb g ps=2:=by unfold Bb;rw[aw.o];rfl
  have E:=Aa e;clear e;go_in;go_wp2_with(go_at_call 125;refine cM (HG.o _ eA) ?_;rintro e w3 ⟨rfl,ab⟩;obtain⟨ay,aB⟩:=ab.cells;have z3:=ab.size;simp only[wZ]at z3);have bz:w.heap.size<w3.heap.size:=oM;have bA:w.heap.size+1<w3.heap.size:=oM;refine bR (v:=H #[J #[O X 0 0,O X 0 0],Y Z 2]) (by simp[results,Tryz.results49,go_sem,ay,aB]) rfl ?_;rw[<-HR.o];exact .inl ⟨by rw[E.o];decide,by rw[E.o];rfl,eA⟩
 |true=>
  by_cases hn:120<pn
  ·have e:Bb g ps=5:=by unfold Bb;rw[aw.o,if_pos rfl,if_pos (by rw[Hn.o];exact hn)]
   have E:=Aa e;have cf:(120:Int)<(pn:Int):=oM;clear e hn;go_in;go_wp2_with(go_at_call 125;refine cM (HG.o _ eA) ?_;rintro e w3 ⟨rfl,ab⟩;obtain⟨ay,aB⟩:=ab.cells;have z3:=ab.size;simp only[wZ]at z3);have bz:w.heap.size<w3.heap.size:=oM;have bA:w.heap.size+1<w3.heap.size:=oM;refine bR (v:=H #[J #[O X 0 0,O X 0 0],Y Z 5]) (by simp[results,Tryz.results49,go_sem,ay,aB]) rfl ?_;rw[<-HR.o];exact .inl ⟨by rw[E.o];decide,by rw[E.o];rfl,eA⟩
  have e:Bb g ps=if jd g [] ps=0 then Kf g [] ps else jd g [] ps:=by unfold Bb;rw[aw.o,if_pos rfl,if_neg (by rw[Hn.o];exact hn)]
  have E:=Aa e;have cf:¬(120:Int)<(pn:Int):=oM;clear e;go_in;go_wp2_with(go_at_call 125;refine cM (HG.o _ eA) ?_;rintro e w3 ⟨rfl,ab⟩;obtain⟨ay,aB⟩:=ab.cells;have z3:=ab.size;simp only[wZ]at z3;have bz:w.heap.size<w3.heap.size:=oM;have bA:w.heap.size+1<w3.heap.size:=oM);obtain⟨d,aR⟩:=gX w3.heap.size;have bY:=Aa (show (w3.alloc (F #[O ga gn gc,O X 0 0] 124)).heap.size=d+1 by simp[aR]);have Hz:=Aa (show w.heap.size+1<d by omega);have Q:il w d (O ga gn gc) (O pa pn aY) (O X 0 0) (w3.alloc (F #[O ga gn gc,O X 0 0] 124)):=by
   have y:=(eR w3).alloc (F #[O ga gn gc,O X 0 0] 124);refine⟨y.e (ab.e ?_),y.e (ab.e (Ec _ _ _ sM)),Ec _ _ _ aR.symm⟩;rw[Ag,if_neg sM];exact Ec _ _ _ rfl
  have bi:Ba w w3:=eA;rw[aR]at *;clear ay aB ab;go_loopg [28] pn (uR w d (O ga gn gc) (O pa pn aY) g ps)
  case atStart =>
   exact⟨0,_,by omega,rfl,by rw[Hn.o];rfl,bi.alloc _,by rw[bY.o];omega,Q,se.nil _ _,by simp,fun p h=>by simp at h⟩
  case round =>
   clear Q bi;obtain⟨i,vs,hi,rfl,rfl,hx,aS,Q,l,x,am⟩:=hrel;rw[Hn.o]at hi;obtain⟨va,vn,vc,rfl⟩:=l.i;have HC:=Aa Q;have ba:=Aa l;have Hx:=Aa hx;have bW:=Aa am;have bT:=Aa x;have k0:=Ca Q.2.1 (i:=0) (u:=O X 0 0) rfl;have k1:=Ca Q.2.1 (i:=1) (u:=O X 0 0) rfl;have kf:=Ua Q.2.1;have m0:=Ca Q.2.2 (i:=0) (u:=O ga gn gc) rfl;have m1:=Ca Q.2.2 (i:=1) (u:=O va vn vc) rfl;have mf:=Ua Q.2.2;have zb:d<wr.heap.size:=oM;have zw:w.heap.size+1<wr.heap.size:=by have:=Hz.o;omega
   by_cases aH:i<pn
   ·obtain⟨p,hq⟩:∃q,ps[i]?=M q:=⟨ps[i]'(by rw[Hn.o];omega),by simp[Hn.o,aH]⟩;obtain⟨b,o,v,rfl,hb,d1,dk,r⟩:=(bX.o _ hx).at' hq;have aF:=Aa d1;have au:=Aa (fun W (hW:Ba wr W)=>iu W p v (d1.f hW) dk);have aO:=Aa (fun W (hW:Ba wr W) (h:Fa p=true)=>Du W p v (d1.f hW) h (bQ.o.ext (hx.trans hW)));obtain⟨aj,al,ak,rfl⟩:=La d1;have Hq:=Aa hq;obtain⟨ok,f1⟩:=gX (Fa p);have F1:=Aa f1;rw[f1]at au;have aQ:=r 0 (.string p.name) rfl;have bZ:=r 1 (O aj al ak) rfl;have b0:=r 2 (Y Z p.depth) rfl;have b1:=r 3 (Y Z p.density) rfl;have b2:=r 4 (Y Z p.gx) rfl;have b3:=r 5 (Y Z p.gz) rfl;have b5:=r 6 (Y Z p.way) rfl;have b6:=r 7 (Y Z p.ax) rfl;have b7:=r 8 (Y Z p.az) rfl;have b8:=r 9 (Y .u8 p.skin) rfl;simp only[Nat.add_zero]at aQ;have cu:d<wr.heap.size+1:=oM;have cv:w.heap.size+1<wr.heap.size+1:=oM;obtain⟨er,hE⟩:=gX (Df g (ps.take i) p);have aa:=hE;unfold Df at aa;unfold Dd at au aO;cases ok with
    |false=>
     have e:Bb g ps=2:=by
      (have h2:Df g (ps.take i) p=2:=by unfold Df;rw[f1];rfl);(have h1:jd g [] ps=2:=by rw[x,Yt hq (by rw[h2];decide),h2]);rw[E.o,h1];rfl
     have E2:=Aa e;clear e hE aa hq r f1 d1 Q x am l E;go_wp2_with(go_at_call 28;refine cM (au.o _ eA) ?_;rintro e n ⟨rfl,K⟩;obtain⟨aU,aX⟩:=K.cells;(have z5:=K.size);(try simp only[wZ,Cc]at z5);(have aZ:d<n.heap.size:=oM);(have a5:w.heap.size+1<n.heap.size:=oM);(have a4:w.heap.size+1<n.heap.size+1:=oM);(have a0:d<n.heap.size+1:=oM);(have a1:wr.heap.size<n.heap.size:=oM);(have a3:wr.heap.size<n.heap.size+1:=oM));have X5:Ba wr n:=eA;have K5:=X5.e HC.o.2.1;have x0:=Ca K5 (i:=0) (u:=O X 0 0) rfl;have x1:=Ca K5 (i:=1) (u:=O X 0 0) rfl;have xf:=Ua K5;refine bR (v:=H #[J #[O X 0 0,O X 0 0],Y Z 2]) (by simp[results,Tryz.results49,go_sem,x0,x1,xf]) rfl ?_;rw[<-HR.o];exact .inl ⟨by rw[E2.o];decide,by rw[E2.o];rfl,eA⟩
    |true=>
     rw[f1,if_pos rfl]at aa;have aA:∀q∈ps.take i++[p],Fa q=true:=fun q hq=>by
      rcases List.mem_append.1 hq with h|h
      ·exact am q h
      ·rw[List.mem_singleton.1 h];exact f1
     have HO:=Aa (fun W (hW:Ba wr W)=>aO.o W hW f1);have HH:=Aa (fun(W:I)(hW:Ba wr W)(bx:N)(h2:Ce W bx p)=>QC W (O ga gn gc) (O va vn vc) bx g p (bb.o _ (hx.trans hW)) ⟨_,_,_,rfl⟩ h2 (Ll aw.o) f1);have HN:=Aa (fun(W:I)(hW:Ba wr W)=>WE W (O ga gn gc) (O va vn vc) (ps.take i) p.name ⟨_,_,_,rfl⟩ (l.las.f hW));obtain⟨bh,f2⟩:=gX (Vc g p);obtain⟨bn,f3⟩:=gX ((ps.take i).any (Uf p.name));rw[f2]at HH aa;rw[f3]at HN aa;have aP:=Aa aA;clear aA aO;cases bh with
     |false=>
      have e:Bb g ps=2:=by
       (have h2:Df g (ps.take i) p=2:=by rw[hE,<-aa];rfl);(have h1:jd g [] ps=2:=by rw[x,Yt hq (by rw[h2];decide),h2]);rw[E.o,h1];rfl
      have E2:=Aa e;clear e hE aa hq r f1 f2 f3 d1 Q x am l E;go_wp2_with(first|(go_at_call 28;refine cM (au.o _ eA) ?_;rintro e n ⟨rfl,K⟩;obtain⟨aU,aX⟩:=K.cells;(have z5:=K.size);(try simp only[wZ,Cc]at z5);(have aZ:d<n.heap.size:=oM);(have a5:w.heap.size+1<n.heap.size:=oM);(have a4:w.heap.size+1<n.heap.size+1:=oM);(have a0:d<n.heap.size+1:=oM);(have a1:wr.heap.size<n.heap.size:=oM);(have a3:wr.heap.size<n.heap.size+1:=oM))|(go_at_call 50;refine cM (HO.o _ eA) ?_;rintro e P ⟨vl,vu,rfl,an,ao,ap⟩;obtain⟨ac,af,ae,rfl⟩:=La an;obtain⟨ag,ai,ah,rfl⟩:=La ao;obtain⟨bk,bo⟩:=ap.cells;(have z6:=ap.size);(try simp only[wZ,Cc]at z6);(have bB:d<P.heap.size:=oM);(have bL:w.heap.size+1<P.heap.size:=oM);(have bJ:w.heap.size+1<P.heap.size+1:=oM);(have bD:d<P.heap.size+1:=oM);(have bF:wr.heap.size<P.heap.size:=oM);(have bH:wr.heap.size<P.heap.size+1:=oM);try unfold Je)|(go_at_call 51;refine cM (HH.o _ eA _ ?_) ?_;(exact⟨_,_,_,rfl,Ba.isPts (w:=wr) aF.o eA,an.f eA,ao.f eA⟩);rintro e S ⟨rfl,aq⟩;obtain⟨bl,bp⟩:=aq.cells;(have z7:=aq.size);(try simp only[wZ,Cc]at z7);(have bC:d<S.heap.size:=oM);(have bM:w.heap.size+1<S.heap.size:=oM);(have bK:w.heap.size+1<S.heap.size+1:=oM);(have bE:d<S.heap.size+1:=oM);(have bG:wr.heap.size<S.heap.size:=oM);(have bI:wr.heap.size<S.heap.size+1:=oM);(have bN:P.heap.size<S.heap.size:=oM)));have X7:Ba wr S:=eA;have K7:=X7.e HC.o.2.1;have x0:=Ca K7 (i:=0) (u:=O X 0 0) rfl;have x1:=Ca K7 (i:=1) (u:=O X 0 0) rfl;have xf:=Ua K7;refine bR (v:=H #[J #[O X 0 0,O X 0 0],Y Z 2]) (by simp[results,Tryz.results49,go_sem,x0,x1,xf]) rfl ?_;rw[<-HR.o];exact .inl ⟨by rw[E2.o];decide,by rw[E2.o];rfl,eA⟩
     |true=>
      cases bn with
      |true=>
       have e:Bb g ps=7:=by
        (have h2:Df g (ps.take i) p=7:=by rw[hE,<-aa];rfl);(have h1:jd g [] ps=7:=by rw[x,Yt hq (by rw[h2];decide),h2]);rw[E.o,h1];rfl
       have E2:=Aa e;clear e hE aa hq r f1 f2 f3 d1 Q x am l E;go_wp2_with(first|(go_at_call 28;refine cM (au.o _ eA) ?_;rintro e n ⟨rfl,K⟩;obtain⟨aU,aX⟩:=K.cells;(have z5:=K.size);(try simp only[wZ,Cc]at z5);(have aZ:d<n.heap.size:=oM);(have a5:w.heap.size+1<n.heap.size:=oM);(have a4:w.heap.size+1<n.heap.size+1:=oM);(have a0:d<n.heap.size+1:=oM);(have a1:wr.heap.size<n.heap.size:=oM);(have a3:wr.heap.size<n.heap.size+1:=oM))|(go_at_call 50;refine cM (HO.o _ eA) ?_;rintro e P ⟨vl,vu,rfl,an,ao,ap⟩;obtain⟨ac,af,ae,rfl⟩:=La an;obtain⟨ag,ai,ah,rfl⟩:=La ao;obtain⟨bk,bo⟩:=ap.cells;(have z6:=ap.size);(try simp only[wZ,Cc]at z6);(have bB:d<P.heap.size:=oM);(have bL:w.heap.size+1<P.heap.size:=oM);(have bJ:w.heap.size+1<P.heap.size+1:=oM);(have bD:d<P.heap.size+1:=oM);(have bF:wr.heap.size<P.heap.size:=oM);(have bH:wr.heap.size<P.heap.size+1:=oM);try unfold Je)|(go_at_call 51;refine cM (HH.o _ eA _ ?_) ?_;(exact⟨_,_,_,rfl,Ba.isPts (w:=wr) aF.o eA,an.f eA,ao.f eA⟩);rintro e S ⟨rfl,aq⟩;obtain⟨bl,bp⟩:=aq.cells;(have z7:=aq.size);(try simp only[wZ,Cc]at z7);(have bC:d<S.heap.size:=oM);(have bM:w.heap.size+1<S.heap.size:=oM);(have bK:w.heap.size+1<S.heap.size+1:=oM);(have bE:d<S.heap.size+1:=oM);(have bG:wr.heap.size<S.heap.size:=oM);(have bI:wr.heap.size<S.heap.size+1:=oM);(have bN:P.heap.size<S.heap.size:=oM))|(go_at_call 52;refine cM (HN.o _ eA) ?_;rintro e w8 ⟨rfl,aE⟩;obtain⟨cd,ce⟩:=aE.cells;(have z8:=aE.size);(try simp only[wZ,Cc]at z8);(have cg:d<w8.heap.size:=oM);(have cl:w.heap.size+1<w8.heap.size:=oM);(have ck:w.heap.size+1<w8.heap.size+1:=oM);(have ch:d<w8.heap.size+1:=oM);(have ci:wr.heap.size<w8.heap.size:=oM);(have cj:wr.heap.size<w8.heap.size+1:=oM);(have cm:P.heap.size<w8.heap.size:=oM)));have X8:Ba wr w8:=eA;have K8:=X8.e HC.o.2.1;have x0:=Ca K8 (i:=0) (u:=O X 0 0) rfl;have x1:=Ca K8 (i:=1) (u:=O X 0 0) rfl;have xf:=Ua K8;refine bR (v:=H #[J #[O X 0 0,O X 0 0],Y Z 7]) (by simp[results,Tryz.results49,go_sem,x0,x1,xf]) rfl ?_;rw[<-HR.o];exact .inl ⟨by rw[E2.o];decide,by rw[E2.o];rfl,eA⟩
      |false=>
       (have h2:Df g (ps.take i) p=0:=by rw[hE,<-aa];rfl);have e:=x.trans (tE hq h2);have E2:=Aa e;have bv:ps.take (i+1)=ps.take i++[p]:=Rf _ _ _ hq;have bc:=Aa bv;obtain⟨cs,aW,aV,bm⟩:=l;have a6:=Aa aW;have bP:=Aa bm;have bO:=Aa aV;have bU:=Aa (show cs.length<=120 by rw[aV];simp;omega);have bV:=Aa (fun j (h:(Value.slice va vn vc).ownBlock=M j)=>aW.lt j h);clear e hE aa hq r f1 f2 f3 d1 Q x am E h2 bv aW aV bm;go_wp2_with(first|(go_at_call 28;refine cM (au.o _ eA) ?_;rintro e n ⟨rfl,K⟩;obtain⟨aU,aX⟩:=K.cells;(have z5:=K.size);(try simp only[wZ,Cc]at z5);(have aZ:d<n.heap.size:=oM);(have a5:w.heap.size+1<n.heap.size:=oM);(have a4:w.heap.size+1<n.heap.size+1:=oM);(have a0:d<n.heap.size+1:=oM);(have a1:wr.heap.size<n.heap.size:=oM);(have a3:wr.heap.size<n.heap.size+1:=oM))|(go_at_call 50;refine cM (HO.o _ eA) ?_;rintro e P ⟨vl,vu,rfl,an,ao,ap⟩;obtain⟨ac,af,ae,rfl⟩:=La an;obtain⟨ag,ai,ah,rfl⟩:=La ao;obtain⟨bk,bo⟩:=ap.cells;(have z6:=ap.size);(try simp only[wZ,Cc]at z6);(have bB:d<P.heap.size:=oM);(have bL:w.heap.size+1<P.heap.size:=oM);(have bJ:w.heap.size+1<P.heap.size+1:=oM);(have bD:d<P.heap.size+1:=oM);(have bF:wr.heap.size<P.heap.size:=oM);(have bH:wr.heap.size<P.heap.size+1:=oM);try unfold Je)|(go_at_call 51;refine cM (HH.o _ eA _ ?_) ?_;(exact⟨_,_,_,rfl,Ba.isPts (w:=wr) aF.o eA,an.f eA,ao.f eA⟩);rintro e S ⟨rfl,aq⟩;obtain⟨bl,bp⟩:=aq.cells;(have z7:=aq.size);(try simp only[wZ,Cc]at z7);(have bC:d<S.heap.size:=oM);(have bM:w.heap.size+1<S.heap.size:=oM);(have bK:w.heap.size+1<S.heap.size+1:=oM);(have bE:d<S.heap.size+1:=oM);(have bG:wr.heap.size<S.heap.size:=oM);(have bI:wr.heap.size<S.heap.size+1:=oM);(have bN:P.heap.size<S.heap.size:=oM))|(go_at_call 52;refine cM (HN.o _ eA) ?_;rintro e w8 ⟨rfl,aE⟩;obtain⟨cd,ce⟩:=aE.cells;(have z8:=aE.size);(try simp only[wZ,Cc]at z8);(have cg:d<w8.heap.size:=oM);(have cl:w.heap.size+1<w8.heap.size:=oM);(have ck:w.heap.size+1<w8.heap.size+1:=oM);(have ch:d<w8.heap.size+1:=oM);(have ci:wr.heap.size<w8.heap.size:=oM);(have cj:wr.heap.size<w8.heap.size+1:=oM);(have cm:P.heap.size<w8.heap.size:=oM))|(at_builtin;refine zh (T:=128) (t:=122) (z:=J Qr) (k:=12) (bytes:=152) (base:=d+1) (v:=O va vn vc) (cs:=cs) (m:=1) (c:=1) (ad:=⟨w8.heap.size,0,X⟩) BH rfl dM dM Tryz.underlying122 rfl _ _ rfl rfl (a6.o.ext eA) rfl [(Je p (O aj al ak) (O ac af ae) (O ag ai ah)).toList] rfl (by simp[Je]) (by exact Nn w8 (Je p (O aj al ak) (O ac af ae) (O ag ai ah)) 128) (by simp[Je,Value.oneCell']) (by have:=bU.o;omega) (by simp only[wZ];omega) ?_;intro v' w9 aD ar cp;obtain⟨a9,n9,c9,rfl⟩:=aD.i;(have av:Ba wr (w8.alloc (F (Je p (O aj al ak) (O ac af ae) (O ag ai ah)) 128)):=eA);(have hK:=av.e HC.o.2.2);(have hM:w9.heap[d]?=M (F #[O ga gn gc,O va vn vc] 124 (0,0)):=li ar hK (fun e=>by have:=(bV.o _ e.symm).1;omega));(have n1:=Ca hM (i:=1) (u:=O va vn vc) rfl);(have nf:=Ua hM)));go_roundg (pn-(i+1))
       case measure=>have:=Hn.o;omega
       case rel =>
        have bg:=a6.o.ext av;(have bj:d+1<=(w8.alloc (F (Je p (O aj al ak) (O ac af ae) (O ag ai ah)) 128)).heap.size:=by simp only[wZ];omega);have aT:=Mh (base:=d+1) ar bj (fun k hk=>(bg.lt k hk).1);have aG:=bg.keepT (T':=43) dM ar;have cc:Ba w (w8.alloc (F (Je p (O aj al ak) (O ac af ae) (O ag ai ah)) 128)):=Hx.o.trans av;have hz:=Hz.o;have ca:Ba w w9:=cc.y aT oM;have b9:il w d _ _ _ w9:=(HC.o.ext av).below aT hz;have aL:Ba P (w8.alloc (F (Je p (O aj al ak) (O ac af ae) (O ag ai ah)) 128)):=eA;have bf:se w9 (d+1) (O a9 n9 c9) (ps.take i++[p]):=se.app aD bO.o bP.o (av.keep.trans aG) ⟨_,_,_,rfl,((aF.o.f av).z aG),((an.f aL).z aG),((ao.f aL).z aG)⟩;refine⟨i+1,O a9 n9 c9,by rw[Hn.o];omega,by go_num,by rw[Hn.o],ca.set dO _,by rw[Bg];exact nT bj aT.size,b9.put hz _,?_,E2.o,by rw[bc.o];exact aP.o⟩;rw[bc.o];exact bf.setOther (fun e=>by have:=(bf.lt _ e).1;dsimp only at this;omega) (fun cs fr h=>by rw[hM]at h;cases h) _
   ·obtain rfl:i=pn:=oM;have e1:ps.take i=ps:=lT (by rw[Hn.o];exact nE _);have e2:ps.drop i=[]:=List.drop_of_length_le (by rw[Hn.o];exact nE _);rw[e1]at am l x;rw[e2,show jd g ps []=0 from rfl]at x;have hE:=E.o;rw[if_pos x]at hE;have E3:=Aa hE;have aJ:=Aa am;have f:=l.las;have aK:=f.len;rw[Hn.o]at aK;subst aK;have aI:=f.le;rw[Hn.o]at aI;have cq:vn<=vc:=aI.1;(have cr:vc<=9223372036854775807:=by have:=aI.2;unfold maxLen at this;omega);clear e1 e2 x hE l ba bW bT E am aI;go_wp2;go_loopg [59] vn (tR w d (O ga gn gc) (O pa vn aY) (O va vn vc) g ps)
    case atStart=>exact⟨0,by omega,rfl,by rw[Hn.o];rfl,Hx.o,by omega,HC.o,f,by simp⟩
    case round =>
     clear f Q HC Hx hx k0 k1 kf m0 m1 mf aS zb zw aH hi;obtain⟨i,hi,rfl,rfl,hx,aS,Q,f,aC⟩:=hrel;rw[Hn.o]at hi;have HC:=Aa Q;have Hx:=Aa hx;have k0:=Ca Q.2.1 (i:=0) (u:=O X 0 0) rfl;have k1:=Ca Q.2.1 (i:=1) (u:=O X 0 0) rfl;have kf:=Ua Q.2.1;have m0:=Ca Q.2.2 (i:=0) (u:=O ga gn gc) rfl;have m1:=Ca Q.2.2 (i:=1) (u:=O va vn vc) rfl;have mf:=Ua Q.2.2;have zb:d<wr.heap.size:=oM;(have zw:w.heap.size+1<wr.heap.size:=by have:=Hz.o;omega);by_cases aH:i<vn
     ·obtain⟨p,hq⟩:∃q,ps[i]?=M q:=⟨ps[i]'(by rw[Hn.o];omega),by simp[Hn.o,aH]⟩;obtain⟨b,o,s1,l1,u1,rfl,hb,d1,d2,d3,r⟩:=f.at' hq;have bw:Sb wr (O (M ⟨b,o,X⟩) i vc) (ps.take i):=f.take (by rw[Hn.o];omega) (by rw[Hn.o];omega) oM (nE _);have br:=aJ.o p (lM hq);have aM:=Aa (fun W (hW:Ba wr W)=>AD W (O ga gn gc) (O (M ⟨b,o,X⟩) i vc) (J (Je p s1 l1 u1)) g (ps.take i) p (bb.o _ (hx.trans hW)) (bw.f hW) ⟨_,_,_,rfl,d1.f hW,d2.f hW,d3.f hW⟩ (Ll aw.o) (fun q h=>aJ.o q (List.mem_of_mem_take h)) br);obtain⟨aj,al,ak,rfl⟩:=La d1;obtain⟨ac,af,ae,rfl⟩:=La d2;obtain⟨ag,ai,ah,rfl⟩:=La d3;obtain⟨cb,f1⟩:=gX (Fd g (ps.take i) p);rw[f1]at aM;unfold Je at aM;have aQ:=r 0 (.string p.name) rfl;have bZ:=r 1 (O aj al ak) rfl;have b0:=r 2 (Y Z p.depth) rfl;have b1:=r 3 (Y Z p.density) rfl;have b2:=r 4 (Y Z p.gx) rfl;have b3:=r 5 (Y Z p.gz) rfl;have b5:=r 6 (Y Z p.way) rfl;have b6:=r 7 (Y Z p.ax) rfl;have b7:=r 8 (Y Z p.az) rfl;have b8:=r 9 (Y .u8 p.skin) rfl;have cn:=r 10 (O ac af ae) rfl;have co:=r 11 (O ag ai ah) rfl;simp only[Nat.add_zero]at aQ;have Hq:=Aa hq;have a7:=Aa aC;have F1:=Aa f1;have a8:=Aa f;have p0:(0:Int)<=(i:Int):=oM;have p1:(i:Int)<=(vc:Int):=oM;have p2:i<=vc:=oM;clear r hq aC f1 f bw br d1 d2 d3 Q hx;go_wp2;refine Kc [(⟨d,0,X⟩,O ga gn gc),(⟨d,1,X⟩,O (M ⟨b,o,X⟩) vn vc),(⟨wr.heap.size,0,X⟩,.string p.name),(⟨wr.heap.size,1,X⟩,O aj al ak),(⟨wr.heap.size,2,X⟩,Y Z p.depth),(⟨wr.heap.size,3,X⟩,Y Z p.density),(⟨wr.heap.size,4,X⟩,Y Z p.gx),(⟨wr.heap.size,5,X⟩,Y Z p.gz),(⟨wr.heap.size,6,X⟩,Y Z p.way),(⟨wr.heap.size,7,X⟩,Y Z p.ax),(⟨wr.heap.size,8,X⟩,Y Z p.az),(⟨wr.heap.size,9,X⟩,Y .u8 p.skin),(⟨wr.heap.size,10,X⟩,O ac af ae),(⟨wr.heap.size,11,X⟩,O ag ai ah)] cA fun be=>?_;refine sN 0 ?_
      (iterate 8 refine xb ?_);refine oN ?_;refine Ub (i:=8) (aM.o _ eA) ?_;rintro e n ⟨rfl,K⟩;refine⟨_,rfl,(cE be K),fun be=>?_⟩;refine Db (i:=9) ?_;refine Wb ?_;have X5:Ba wr n:=eA;have K5:=X5.e HC.o.2.1;have y0:=Ca K5 (i:=0) (u:=O X 0 0) rfl;have y1:=Ca K5 (i:=1) (u:=O X 0 0) rfl;have yf:=Ua K5;cases cb with
      |false=>
       (have e:Bb g ps=12:=by rw[E3.o,a7.o,rE Hq.o F1.o]);have E2:=Aa e;clear e;have hx:=Hx.o;go_wp2;have X5:Ba wr n:=eA;have K5:=X5.e HC.o.2.1;have x0:=Ca K5 (i:=0) (u:=O X 0 0) rfl;have x1:=Ca K5 (i:=1) (u:=O X 0 0) rfl;have xf:=Ua K5;refine bR (v:=H #[J #[O X 0 0,O X 0 0],Y Z 12]) (by simp[results,Tryz.results49,go_sem,x0,x1,xf]) rfl ?_;rw[<-HR.o];exact .inl ⟨by rw[E2.o];decide,by rw[E2.o];rfl,eA⟩
      |true=>
       go_wp2;go_roundg (vn-(i+1))
       case measure=>have:=Hn.o;omega
       case rel=>exact⟨i+1,by rw[Hn.o];omega,by go_num,by rw[Hn.o],Hx.o.trans X5,nT aS X5.size,HC.o.ext X5,a8.o.f X5,a7.o.trans (sE Hq.o F1.o)⟩
     ·obtain rfl:i=vn:=oM;have e2:ps.drop i=[]:=List.drop_of_length_le (by rw[Hn.o];exact nE _);rw[e2]at aC;(have e:Bb g ps=0:=by rw[E3.o,aC];cases ps.take i<;>rfl);have E2:=Aa e;(have bu:w.heap.size+1≠d:=by have:=Hz.o;omega);clear e e2 aC Q;go_wp2;refine bR (v:=H #[J #[O ga gn gc,O va i vc],Y Z 0]) (by simp[results,Tryz.results49,go_sem,k0,k1,kf,m0,m1,bu]) rfl ?_;rw[<-HR.o];have hN:∀T,T≠124->ld T wr (w.heap.size+1):=fun T hT cs fr h=>by
       rw[HC.o.2.1]at h;cases h;exact hT rfl
      have hK:∀T u u',T≠124->Ia T wr ((wr.setCell ⟨w.heap.size+1,0,X⟩ u).setCell ⟨w.heap.size+1,1,X⟩ u'):=fun T u u' hT=>((Ia.refl _ wr).x (hN T hT) _).x ((hN T hT).set _ _) _;exact .inr ⟨E2.o,_,rfl,Sl.keep f (fun _ _ h=>Fl.keep h (hK _ _ _ dM)) (hK _ _ _ dM),(Hx.o.set dO _).set dO _⟩
end
section
open Go.RowKit Go.Shelf
attribute [local go_sem] Oper.semAt_some
def LO(w:I)(v:N)(q:Rat)(h:Ab w v q)(hl:Rb Fb q)(h0:0<=q.num):Calls Tryz.prog 60 #[v] w (nj w q.floor):=by
 obtain⟨a,m,c,s,a2,m2,c2,rfl⟩:=h.form;rw[Rat.floor_def];have HB:=Aa (fun(W:I)(hW:Ba w W)=>Xn W _ q (h.ext hW) (hl.mono dM));have HQ:=Aa (fun(W:I)(hW:Ba w W)(v:N)(hv:vd W v (q.den:Int))=>Vv W (J #[O a m c,C s]) v q.num (q.den:Int) (h.top.ext hW) hv (hl.1.mono dM) (hl.2.mono dM) (by have:=q.den_pos;omega) (.inl h0));clear h hl h0;go_in;go_upto_region 1 with fail;obtain⟨W0,b⟩:=gX ((w.alloc (F #[O a m c,C s,O a2 m2 c2] 63)).alloc (F #[O X 0 0,C false] 61));have X0:Ba w W0:=by rw[<-b];exact((eR w).alloc _).alloc _
 have kr:W0.heap[w.heap.size+1]?=M (F #[O X 0 0,C false] 61 (0,0)):=by rw[<-b];exact Ec _ _ _ sM
 have C0:Da [(⟨w.heap.size,0,X⟩,O a m c),(⟨w.heap.size,1,X⟩,C s),(⟨w.heap.size,2,X⟩,O a2 m2 c2)] W0.drew:=by
  rw[<-b];clear b;refine⟨?_,?_,?_,trivial⟩<;>go_simp
 rw[b];clear b;refine Vn [(9,3,F #[O X 0 0,C false] 61 (0,0)),(10,4,F #[O X 0 0,C false] 61 (0,0))] _ 12 3 (fun i=>decide (10<i)) (fun i=>i==7 || i==8) kM kM kM sM kM (by intro x hx;simp only[List.mem_cons,List.not_mem_nil,or_false]at hx;rcases hx with rfl|rfl<;>exact⟨_,rfl,rfl,fun a W=>by go_simp⟩) (fun _ _ d _ _ h=>by cases d<;>exact h) C0 (fun o=>?_);refine Wd (i:=0) ?_;refine Wd (i:=1) ?_;refine Wd (i:=2) ?_;refine Gh (i:=3) fun W3 j ab r K g=>?_;go_simp;refine cM (HB.o W3 (X0.drew.trans j)) ?_;rintro e w3 ⟨v3,rfl,y,P⟩;obtain⟨a3,m3,c3,s3,rfl⟩:=y.form;go_wp2;refine kO g (.of ab P) (fun _ _=>?_);clear g K r;refine Gh (i:=4) fun W4 k ac r K g=>?_;go_simp;refine cM (HQ.o W4 (X0.drew.trans (j.trans (P.trans k))) _ (y.ext k)) ?_;rintro e w4 ⟨v4,v5,rfl,z,ad,ae⟩;obtain⟨⟨R,T,S,s4,rfl⟩,a5,m5,c5,s5,rfl⟩:=And.intro z.form ad.form;go_wp2;refine kO g (.of ac ae) (fun _ _=>?_);clear g K r;refine Wd (i:=5) ?_;refine Wd (i:=6) ?_;refine Wd (i:=7) ?_;refine Wd (i:=8) ?_;refine df kM (fun W5 n l=>?_);intro b5 q5 y5 _ _ b6 q6 y6 Q _;have Q:b6≠b5:=by simpa using Q
 have X5:Ba W0 W5:=(eR W0).drew.trans l;have h4:=z.ext n;have zk:=Gb kr;have af:W0.heap.size<=b5:=by simpa using y5
 have ag:W0.heap.size<=b6:=by simpa using y6
 have xf:=Ua q5;have yf:=Ua q6;have x0:=Ca q5 (i:=0) (u:=O X 0 0) rfl;have x1:=Ca q5 (i:=1) (u:=C false) rfl;have u0:=Ca q6 (i:=0) (u:=O X 0 0) rfl;have u1:=Ca q6 (i:=1) (u:=C false) rfl;clear j P k ae n y z ad;refine Ld (i:=11) fun K g=>?_;go_simp;refine kO g (cE o (by(repeat refine Ba.set ?_ (by first|exact y5|exact y6) _);exact l)) (fun aa=>?_);clear g K;refine Ld (i:=12) fun K g=>?_;go_simp;refine kO g (cE o (by(repeat refine Ba.set ?_ (by first|exact y5|exact y6) _);exact l)) (fun aa=>?_);clear g K;refine Db (i:=13) ?_;refine Wb ?_;clear x0 x1 u0 u1 xf yf;obtain⟨W6,t⟩:=gX (Ig (Ig W5 b5 0 [O R T S,C s4]) b6 0 [O a5 m5 c5,C s5]);have e6:(((W5.setCell ⟨b5,0,X⟩ (O R T S)).setCell ⟨b5,1,X⟩ (C s4)).setCell ⟨b6,0,X⟩ (O a5 m5 c5)).setCell ⟨b6,1,X⟩ (C s5)=W6:=t;rw[e6];have TB:=Zn (cs:=[O X 0 0,C false]) (ds:=[O X 0 0,C false]) [O R T S,C s4] [O a5 m5 c5,C s5] q5 q6 Q rfl rfl;rw[t]at TB;obtain⟨K5,K6,tb,tk,te⟩:=TB;have X6:=te W0 X5 af ag;have h6:=h4.keep (tk 2 dM dM);have f:=X6.e kr;have zr:=Gb f;have z5:=Gb K5;have c0:=Ca K5 (i:=0) (u:=O R T S) rfl;have c1:=Ca K5 (i:=1) (u:=C s4) rfl;have r0:=Ca f (i:=0) (u:=O X 0 0) rfl;have r1:=Ca f (i:=1) (u:=C false) rfl;have rf:=Ua f;have kp:Ia 2 W6 ((W6.setCell ⟨w.heap.size+1,0,X⟩ (O R T S)).setCell ⟨w.heap.size+1,1,X⟩ (C s4)):=by
  have hn:ld 2 W6 (w.heap.size+1):=by intro cs fr e;rw[f]at e;cases e
  exact((Ia.refl _ W6).x hn _).x (hn.set _ _) _
 clear t e6 tb tk te h4 X5 q5 q6 f K5 K6 kr l aa o C0;go_wp2;exact bR (v:=J #[O R T S,C s4]) (by simp[results,Tryz.results60,go_sem,zr,r0,r1,rf]) rfl ⟨_,rfl,h6.keep kp,((X0.trans X6).set (p:=⟨w.heap.size+1,0,X⟩) (Nat.le_succ _) _).set (p:=⟨w.heap.size+1,1,X⟩) (Nat.le_succ _) _⟩
def RD(w:I)(n d:Int)(K:-9223372036854775808<=n)(P:n<=9223372036854775807)(Q:-9223372036854775808<=d)(R:d<=9223372036854775807)(S:d≠0):Calls Tryz.prog 74 #[Y Z n,Y Z d] w (De w (Rat.divInt n d)):=by have o:Sa (Lm Uc n):=Aa (Lm.mono (j:=3) (by unfold Lm B;omega) dM);have p:Sa (Lm Uc d):=Aa (Lm.mono (j:=3) (by unfold Lm B;omega) dM);obtain⟨q,x⟩:=gX (Rat.divInt n d);rw[x];have Hq:=Aa x;have T:=Aa S;have k:=Aa (fun W=>Pn W n K P);have l:=Aa (fun W=>Pn W d Q R);clear x S K P Q R;go_in;go_wp2_with(first|(go_at_call 146;(with_reducible refine(St _ (J #[Y Z s1,O a1 m1 c1]) (J #[Y Z s2,O a2 m2 c2]) n d (hr1.ext hx2) hr2 o.o p.o T.o).mono ?_);rw[Hq.o];rintro e w3 ⟨r3,rfl,b,z⟩;obtain⟨s3,a3,m3,c3,s4,a4,m4,c4,rfl⟩:=b.form;obtain⟨⟨u,ac⟩,i⟩:=Md w z)|(go_at_call 96;(with_reducible refine(l.o w1).mono ?_);rintro e w2 ⟨r2,rfl,hr2,hx2⟩;obtain⟨s2,a2,m2,c2,rfl,-⟩:=hr2.j;obtain⟨⟨t,ab⟩,g⟩:=Md w hx2)|(go_at_call 96;(with_reducible refine(k.o (w.alloc _)).mono ?_);rintro e w1 ⟨r1,rfl,hr1,y⟩;obtain⟨s1,a1,m1,c1,rfl,-⟩:=hr1.j;obtain⟨⟨r,aa⟩,f⟩:=Md w y));exact bR (v:=J #[Y Z s3,O a3 m3 c3,Y Z s4,O a4 m4 c4]) (by simp[results,Tryz.results74,go_sem,r,t,u,f,g,i]) rfl ⟨_,rfl,b.keep kA,eA⟩
def iH(w:I)(x:N)(p:Rat)(j:nc w x p):Calls Tryz.prog 170 #[x] w (De w (-p)):=by
 obtain⟨s,a,m,c,t,o,u,r,rfl⟩:=j.form;have n:=j.top;go_in;go_wp2;go_region_held3 (fun W=>W.cell? ⟨w.heap.size,0,X⟩=M (Y Z s)/\W.cell? ⟨w.heap.size,1,X⟩=M (O a m c)/\W.cell? ⟨w.heap.size,2,X⟩=M (Y Z t)/\W.cell? ⟨w.heap.size,3,X⟩=M (O o u r)) ((repeat' (with_reducible refine And.intro ?_ ?_))<;>(first|(go_simp;done)|(refine hx1.d ?_;go_simp;done))) (first|(go_at_call 193;(with_reducible refine(lr _ (J #[Y Z s,O a m c]) p.num ?_).mono ?_);(refine n.ext ?_;exact eA);rintro e w1 ⟨r1,rfl,b,hx1⟩;obtain⟨s1,K,m1,Q,rfl,-⟩:=b.j;obtain⟨⟨k,S⟩,y,g⟩:=Zb w hx1)|(go_at_call 81;(with_reducible refine(ul _ (J #[Y Z s,O a m c,Y Z t,O o u r]) p ?_).mono ?_);(refine j.ext ?_;exact eA);rintro e w3 ⟨r3,rfl,d,f⟩;obtain⟨s3,P,m3,R,rfl,-⟩:=d.j;obtain⟨⟨l,T⟩,z,i⟩:=Zb w f))
 all_goals go_wp2
 exact bR (v:=J #[Y Z s1,O K m1 Q,Y Z s3,O P m3 R]) (by simp[results,Tryz.results170,go_sem,k,l,g,i]) rfl ⟨_,rfl,nc.keep (nc.mk (q:=-p) (b.ext f) d) kA,eA⟩
def Em(w:I)(va vb:N)(p q:Rat)(S:nc w va p)(T:nc w vb q)(b:Rb Ae p)(d:Rb Ae q):Calls Tryz.prog 22 #[va,vb] w fun e w'=>e=.returned (Y Z (Eb p q))/\Ba w w':=by
 obtain⟨s,a,m,c,t,ea,em,ec,rfl⟩:=S.form;obtain⟨s',Q,m',R,t',i,k,j,rfl⟩:=T.form;have aq:=Aa b;have ar:=Aa d;have aa:=S.top;have ab:=T.top;have u:Sa (Lm Bc p.num):=Aa (b.1.mono dM);have x:Sa (Lm Bc q.num):=Aa (d.1.mono dM);have y:Sa (Lm Bc (p.den:Int)):=Aa (b.2.mono dM);have z:Sa (Lm Bc (q.den:Int)):=Aa (d.2.mono dM);have K:Sa (Lm Uc (p.num*q.den)):=Aa ((b.1.mul d.2).mono dM);have P:Sa (Lm Uc (q.num*p.den)):=Aa ((d.1.mul b.2).mono dM);have au:Sa (Lm Uc (p.num*q.num)):=Aa ((b.1.mul d.1).mono dM);have av:Sa (Lm Uc ((p.den:Int)*q.den)):=Aa ((b.2.mul d.2).mono dM);have aw:Sa (Lm Uc ((p.den:Int)*q.num)):=Aa ((b.2.mul d.1).mono dM);have f:Sa (Lm Bc (p.num*q.den)):=Aa (K.o.mono dM);have g:Sa (Lm Bc (q.num*p.den)):=Aa (P.o.mono dM);have ax:Sa (Lm Uc (p.num*q.den+q.num*p.den)):=Aa (((b.1.mul d.2).add (d.1.mul b.2)).mono dM);clear b d;go_in;go_wp2;go_region_held3 (fun W=>W.cell? ⟨w.heap.size,0,X⟩=M (Y Z s)/\W.cell? ⟨w.heap.size,1,X⟩=M (O a m c)/\W.cell? ⟨w.heap.size,2,X⟩=M (Y Z t)/\W.cell? ⟨w.heap.size,3,X⟩=M (O ea em ec)/\W.cell? ⟨w.heap.size+1,0,X⟩=M (Y Z s')/\W.cell? ⟨w.heap.size+1,1,X⟩=M (O Q m' R)/\W.cell? ⟨w.heap.size+1,2,X⟩=M (Y Z t')/\W.cell? ⟨w.heap.size+1,3,X⟩=M (O i k j)) ((repeat' (with_reducible refine And.intro ?_ ?_))<;>(first|(go_simp;done)|(refine hx1.d ?_;go_simp;done))) (first|(go_at_call 81;(with_reducible refine(ul _ (J #[Y Z s',O Q m' R,Y Z t',O i k j]) q ?_).mono ?_);(refine T.ext ?_;exact eA);rintro e w1 ⟨r1,rfl,l,hx1⟩;obtain⟨s1,a1,m1,c1,rfl,-⟩:=l.j;obtain⟨⟨ay,aD⟩,ag,ah⟩:=Zb w hx1)|(go_at_call 81;(with_reducible refine(ul _ (J #[Y Z s,O a m c,Y Z t,O ea em ec]) p ?_).mono ?_);(refine S.ext ?_;exact eA);rintro e w3 ⟨r3,rfl,o,ad⟩;obtain⟨s3,a3,m3,c3,rfl,-⟩:=o.j;obtain⟨⟨aA,aF⟩,ak,al⟩:=Zb w ad)|(go_at_call 80;(with_reducible refine(Um _ (J #[Y Z s,O a m c]) (J #[Y Z s1,O a1 m1 c1]) p.num (q.den:Int) ?_ ?_ u.o z.o).mono ?_);(refine aa.ext ?_;exact eA);(refine l.ext ?_;exact eA);rintro e w2 ⟨r2,rfl,n,ac⟩;obtain⟨s2,a2,m2,c2,rfl,-⟩:=n.j;obtain⟨⟨az,aE⟩,ai,aj⟩:=Zb w ac)|(go_at_call 80;(with_reducible refine(Um _ (J #[Y Z s',O Q m' R]) (J #[Y Z s3,O a3 m3 c3]) q.num (p.den:Int) ?_ ?_ x.o y.o).mono ?_);(refine ab.ext ?_;exact eA);(refine o.ext ?_;exact eA);rintro e w4 ⟨r4,rfl,r,ae⟩;obtain⟨s4,a4,m4,c4,rfl,-⟩:=r.j;obtain⟨⟨aB,aG⟩,am,an⟩:=Zb w ae)|(go_at_call 79;(with_reducible refine(MB _ (J #[Y Z s2,O a2 m2 c2]) (J #[Y Z s4,O a4 m4 c4]) (p.num*q.den) (q.num*p.den) ?_ ?_ f.o g.o).mono ?_);(refine n.ext ?_;exact eA);(refine r.ext ?_;exact eA);rintro e w5 ⟨rfl,af⟩;obtain⟨⟨aC,aH⟩,ao,ap⟩:=Zb w af))
 all_goals go_wp2
 go_ret;exact⟨rfl,eA⟩
def jv(w:I)(va vb:N)(p q:Rat)(ha:nc w va p)(hb:nc w vb q)(b:Rb Ae p)(d:Rb Ae q):Calls Tryz.prog 100 #[va,vb] w (De w (p+q)):=by
 obtain⟨s,a,m,c,t,ea,em,ec,rfl⟩:=ha.form;obtain⟨s',a',m',c',t',f,i,g,rfl⟩:=hb.form;have a0:=Aa b;have ba:=Aa d;have ax:=ha.top;have ay:=hb.top;have ag:Sa (Lm Bc p.num):=Aa (b.1.mono dM);have ah:Sa (Lm Bc q.num):=Aa (d.1.mono dM);have j:Sa (Lm Bc (p.den:Int)):=Aa (b.2.mono dM);have k:Sa (Lm Bc (q.den:Int)):=Aa (d.2.mono dM);have ai:Sa (Lm Uc (p.num*q.den)):=Aa ((b.1.mul d.2).mono dM);have aj:Sa (Lm Uc (q.num*p.den)):=Aa ((d.1.mul b.2).mono dM);have bb:Sa (Lm Uc (p.num*q.num)):=Aa ((b.1.mul d.1).mono dM);have ak:Sa (Lm Uc ((p.den:Int)*q.den)):=Aa ((b.2.mul d.2).mono dM);have bc:Sa (Lm Uc ((p.den:Int)*q.num)):=Aa ((b.2.mul d.1).mono dM);have l:Sa (Lm Bc (p.num*q.den)):=Aa (ai.o.mono dM);have n:Sa (Lm Bc (q.num*p.den)):=Aa (aj.o.mono dM);have al:Sa (Lm Uc (p.num*q.den+q.num*p.den)):=Aa (((b.1.mul d.2).add (d.1.mul b.2)).mono dM);clear b d;go_in;go_wp2;go_region_held3 (fun W=>W.cell? ⟨w.heap.size,0,X⟩=M (Y Z s)/\W.cell? ⟨w.heap.size,1,X⟩=M (O a m c)/\W.cell? ⟨w.heap.size,2,X⟩=M (Y Z t)/\W.cell? ⟨w.heap.size,3,X⟩=M (O ea em ec)/\W.cell? ⟨w.heap.size+1,0,X⟩=M (Y Z s')/\W.cell? ⟨w.heap.size+1,1,X⟩=M (O a' m' c')/\W.cell? ⟨w.heap.size+1,2,X⟩=M (Y Z t')/\W.cell? ⟨w.heap.size+1,3,X⟩=M (O f i g)) ((repeat' (with_reducible refine And.intro ?_ ?_))<;>(first|(go_simp;done)|(refine hx1.d ?_;go_simp;done))) (first|(go_at_call 81;(with_reducible refine(ul w6 (J #[Y Z s',O a' m' c',Y Z t',O f i g]) q ?_).mono ?_);(refine hb.ext ?_;exact eA);rintro e w7 ⟨r7,rfl,K,aE⟩;obtain⟨s7,a7,m7,c7,rfl,-⟩:=K.j;obtain⟨⟨au,bk⟩,aU,aV,ad⟩:=Yb w aE)|(go_at_call 81;(with_reducible refine(ul w5 (J #[Y Z s,O a m c,Y Z t,O ea em ec]) p ?_).mono ?_);(refine ha.ext ?_;exact eA);rintro e w6 ⟨r6,rfl,z,aD⟩;obtain⟨s6,a6,m6,c6,rfl,-⟩:=z.j;obtain⟨⟨ar,bj⟩,aS,aT,ac⟩:=Yb w aD)|(go_at_call 81;(with_reducible refine(ul w2 (J #[Y Z s,O a m c,Y Z t,O ea em ec]) p ?_).mono ?_);(refine ha.ext ?_;exact eA);rintro e w3 ⟨r3,rfl,u,aA⟩;obtain⟨s3,a3,m3,c3,rfl,-⟩:=u.j;obtain⟨⟨ao,bg⟩,aL,aM,T⟩:=Yb w aA)|(go_at_call 81;(with_reducible refine(ul _ (J #[Y Z s',O a' m' c',Y Z t',O f i g]) q ?_).mono ?_);(refine hb.ext ?_;exact eA);rintro e w1 ⟨r1,rfl,o,hx1⟩;obtain⟨s1,a1,m1,c1,rfl,-⟩:=o.j;obtain⟨⟨am,be⟩,aH,aI,R⟩:=Yb w hx1)|(go_at_call 80;(with_reducible refine(Um _ (J #[Y Z s,O a m c]) (J #[Y Z s1,O a1 m1 c1]) p.num (q.den:Int) ?_ ?_ ag.o k.o).mono ?_);(refine ax.ext ?_;exact eA);(refine o.ext ?_;exact eA);rintro e w2 ⟨r2,rfl,r,az⟩;obtain⟨s2,a2,m2,c2,rfl,-⟩:=r.j;obtain⟨⟨an,bf⟩,aJ,aK,S⟩:=Yb w az)|(go_at_call 80;(with_reducible refine(Um _ (J #[Y Z s',O a' m' c']) (J #[Y Z s3,O a3 m3 c3]) q.num (p.den:Int) ?_ ?_ ah.o j.o).mono ?_);(refine ay.ext ?_;exact eA);(refine u.ext ?_;exact eA);rintro e w4 ⟨r4,rfl,x,aB⟩;obtain⟨s4,a4,m4,c4,rfl,-⟩:=x.j;obtain⟨⟨ap,bh⟩,aO,aP,aa⟩:=Yb w aB)|(go_at_call 169;(with_reducible refine(OJ _ (J #[Y Z s2,O a2 m2 c2]) (J #[Y Z s4,O a4 m4 c4]) (p.num*q.den) (q.num*p.den) ?_ ?_ l.o n.o).mono ?_);(refine r.ext ?_;exact eA);(refine x.ext ?_;exact eA);rintro e w5 ⟨r5,rfl,y,aC⟩;obtain⟨s5,a5,m5,c5,rfl,-⟩:=y.j;obtain⟨⟨aq,bi⟩,aQ,aR,ab⟩:=Yb w aC)|(go_at_call 80;(with_reducible refine(Um _ (J #[Y Z s6,O a6 m6 c6]) (J #[Y Z s7,O a7 m7 c7]) (p.den:Int) (q.den:Int) ?_ ?_ j.o k.o).mono ?_);(refine z.ext ?_;exact eA);(refine K.ext ?_;exact eA);rintro e w8 ⟨r8,rfl,P,aF⟩;obtain⟨s8,a8,m8,c8,rfl,-⟩:=P.j;obtain⟨⟨av,bl⟩,aW,aX,ae⟩:=Yb w aF)|(go_at_call 146;(with_reducible refine(St _ (J #[Y Z s5,O a5 m5 c5]) (J #[Y Z s8,O a8 m8 c8]) (p.num*q.den+q.num*p.den) ((p.den:Int)*q.den) ?_ ?_ al.o ak.o (An p q)).mono ?_);(refine y.ext ?_;exact eA);(refine P.ext ?_;exact eA);rintro e w9 ⟨r9,rfl,Q,aG⟩;obtain⟨s9,a9,m9,c9,t9,e9,i9,j9,rfl⟩:=Q.form;obtain⟨⟨aw,bm⟩,aY,aZ,af⟩:=Yb w aG))
 all_goals go_wp2
 refine bR (v:=J #[Y Z s9,O a9 m9 c9,Y Z t9,O e9 i9 j9]) (by simp[results,Tryz.results100,go_sem,am,an,ao,ap,aq,ar,au,av,aw,R,S,T,aa,ab,ac,ad,ae,af]) rfl ⟨_,rfl,?_,eA⟩;rw[<-Pw];exact Q.keep kA
def Jy(w:I)(va vb:N)(p q:Rat)(ha:nc w va p)(hb:nc w vb q)(b:Rb Ae p)(d:Rb Ae q):Calls Tryz.prog 101 #[va,vb] w (De w (p*q)):=by
 obtain⟨s,a,m,c,t,ea,em,ec,rfl⟩:=ha.form;obtain⟨s',a',m',c',t',f,i,g,rfl⟩:=hb.form;have aB:=Aa b;have aC:=Aa d;have ah:=ha.top;have ai:=hb.top;have K:Sa (Lm Bc p.num):=Aa (b.1.mono dM);have P:Sa (Lm Bc q.num):=Aa (d.1.mono dM);have Q:Sa (Lm Bc (p.den:Int)):=Aa (b.2.mono dM);have R:Sa (Lm Bc (q.den:Int)):=Aa (d.2.mono dM);have S:Sa (Lm Uc (p.num*q.den)):=Aa ((b.1.mul d.2).mono dM);have T:Sa (Lm Uc (q.num*p.den)):=Aa ((d.1.mul b.2).mono dM);have aa:Sa (Lm Uc (p.num*q.num)):=Aa ((b.1.mul d.1).mono dM);have ab:Sa (Lm Uc ((p.den:Int)*q.den)):=Aa ((b.2.mul d.2).mono dM);have aD:Sa (Lm Uc ((p.den:Int)*q.num)):=Aa ((b.2.mul d.1).mono dM);have an:Sa (Lm Bc (p.num*q.den)):=Aa (S.o.mono dM);have ao:Sa (Lm Bc (q.num*p.den)):=Aa (T.o.mono dM);have aE:Sa (Lm Uc (p.num*q.den+q.num*p.den)):=Aa (((b.1.mul d.2).add (d.1.mul b.2)).mono dM);clear b d;go_in;go_wp2;go_region_held3 (fun W=>W.cell? ⟨w.heap.size,0,X⟩=M (Y Z s)/\W.cell? ⟨w.heap.size,1,X⟩=M (O a m c)/\W.cell? ⟨w.heap.size,2,X⟩=M (Y Z t)/\W.cell? ⟨w.heap.size,3,X⟩=M (O ea em ec)/\W.cell? ⟨w.heap.size+1,0,X⟩=M (Y Z s')/\W.cell? ⟨w.heap.size+1,1,X⟩=M (O a' m' c')/\W.cell? ⟨w.heap.size+1,2,X⟩=M (Y Z t')/\W.cell? ⟨w.heap.size+1,3,X⟩=M (O f i g)) ((repeat' (with_reducible refine And.intro ?_ ?_))<;>(first|(go_simp;done)|(refine hx1.d ?_;go_simp;done))) (first|(go_at_call 80;(with_reducible refine(Um _ (J #[Y Z s,O a m c]) (J #[Y Z s',O a' m' c']) p.num q.num ?_ ?_ K.o P.o).mono ?_);(refine ah.ext ?_;exact eA);(refine ai.ext ?_;exact eA);rintro e w1 ⟨r1,rfl,j,hx1⟩;obtain⟨s1,a1,m1,c1,rfl,-⟩:=j.j;obtain⟨⟨ac,aF⟩,ap,aq,r⟩:=Yb w hx1)|(go_at_call 81;(with_reducible refine(ul _ (J #[Y Z s,O a m c,Y Z t,O ea em ec]) p ?_).mono ?_);(refine ha.ext ?_;exact eA);rintro e w2 ⟨r2,rfl,k,aj⟩;obtain⟨s2,a2,m2,c2,rfl,-⟩:=k.j;obtain⟨⟨ad,aG⟩,ar,au,u⟩:=Yb w aj)|(go_at_call 81;(with_reducible refine(ul _ (J #[Y Z s',O a' m' c',Y Z t',O f i g]) q ?_).mono ?_);(refine hb.ext ?_;exact eA);rintro e w3 ⟨r3,rfl,l,ak⟩;obtain⟨s3,a3,m3,c3,rfl,-⟩:=l.j;obtain⟨⟨ae,aH⟩,av,aw,x⟩:=Yb w ak)|(go_at_call 80;(with_reducible refine(Um _ (J #[Y Z s2,O a2 m2 c2]) (J #[Y Z s3,O a3 m3 c3]) (p.den:Int) (q.den:Int) ?_ ?_ Q.o R.o).mono ?_);(refine k.ext ?_;exact eA);(refine l.ext ?_;exact eA);rintro e w4 ⟨r4,rfl,n,al⟩;obtain⟨s4,a4,m4,c4,rfl,-⟩:=n.j;obtain⟨⟨af,aI⟩,ax,ay,y⟩:=Yb w al)|(go_at_call 146;(with_reducible refine(St _ (J #[Y Z s1,O a1 m1 c1]) (J #[Y Z s4,O a4 m4 c4]) (p.num*q.num) ((p.den:Int)*q.den) ?_ ?_ aa.o ab.o (An p q)).mono ?_);(refine j.ext ?_;exact eA);(refine n.ext ?_;exact eA);rintro e w9 ⟨r9,rfl,o,am⟩;obtain⟨s9,a9,m9,c9,t9,e9,i9,j9,rfl⟩:=o.form;obtain⟨⟨ag,aJ⟩,az,aA,z⟩:=Yb w am))
 all_goals go_wp2
 refine bR (v:=J #[Y Z s9,O a9 m9 c9,Y Z t9,O e9 i9 j9]) (by simp[results,Tryz.results101,go_sem,ac,ad,ae,af,ag,r,u,x,y,z]) rfl ⟨_,rfl,?_,eA⟩;rw[<-Nw];exact o.keep kA
def jH(w:I)(va vb:N)(p q:Rat)(ha:nc w va p)(hb:nc w vb q)(b:Rb Ae p)(d:Rb Ae q)(hq:q≠0):Calls Tryz.prog 150 #[va,vb] w (De w (p/q)):=by
 have ab:Sa ((p.den:Int)*q.num≠0):=Aa (by
  have h1:q.num≠0:=fun h=>hq ((YJ q).1 h);have h2:=Yf p;intro h;rcases Int.mul_eq_zero.1 h with h|h
  ·omega
  ·exact h1 h)
 clear hq;obtain⟨s,a,m,c,t,ea,em,ec,rfl⟩:=ha.form;obtain⟨s',a',m',c',t',g,j,i,rfl⟩:=hb.form;have aB:=Aa b;have aC:=Aa d;have ah:=ha.top;have ai:=hb.top;have P:Sa (Lm Bc p.num):=Aa (b.1.mono dM);have Q:Sa (Lm Bc q.num):=Aa (d.1.mono dM);have R:Sa (Lm Bc (p.den:Int)):=Aa (b.2.mono dM);have S:Sa (Lm Bc (q.den:Int)):=Aa (d.2.mono dM);have f:Sa (Lm Uc (p.num*q.den)):=Aa ((b.1.mul d.2).mono dM);have T:Sa (Lm Uc (q.num*p.den)):=Aa ((d.1.mul b.2).mono dM);have aD:Sa (Lm Uc (p.num*q.num)):=Aa ((b.1.mul d.1).mono dM);have aE:Sa (Lm Uc ((p.den:Int)*q.den)):=Aa ((b.2.mul d.2).mono dM);have aa:Sa (Lm Uc ((p.den:Int)*q.num)):=Aa ((b.2.mul d.1).mono dM);have an:Sa (Lm Bc (p.num*q.den)):=Aa (f.o.mono dM);have ao:Sa (Lm Bc (q.num*p.den)):=Aa (T.o.mono dM);have aF:Sa (Lm Uc (p.num*q.den+q.num*p.den)):=Aa (((b.1.mul d.2).add (d.1.mul b.2)).mono dM);clear b d;go_in;go_wp2;go_region_held3 (fun W=>W.cell? ⟨w.heap.size,0,X⟩=M (Y Z s)/\W.cell? ⟨w.heap.size,1,X⟩=M (O a m c)/\W.cell? ⟨w.heap.size,2,X⟩=M (Y Z t)/\W.cell? ⟨w.heap.size,3,X⟩=M (O ea em ec)/\W.cell? ⟨w.heap.size+1,0,X⟩=M (Y Z s')/\W.cell? ⟨w.heap.size+1,1,X⟩=M (O a' m' c')/\W.cell? ⟨w.heap.size+1,2,X⟩=M (Y Z t')/\W.cell? ⟨w.heap.size+1,3,X⟩=M (O g j i)) ((repeat' (with_reducible refine And.intro ?_ ?_))<;>(first|(go_simp;done)|(refine hx1.d ?_;go_simp;done))) (first|(go_at_call 81;(with_reducible refine(ul _ (J #[Y Z s',O a' m' c',Y Z t',O g j i]) q ?_).mono ?_);(refine hb.ext ?_;exact eA);rintro e w1 ⟨r1,rfl,k,hx1⟩;obtain⟨s1,a1,m1,c1,rfl,-⟩:=k.j;obtain⟨⟨ac,aG⟩,ap,aq,u⟩:=Yb w hx1)|(go_at_call 80;(with_reducible refine(Um _ (J #[Y Z s,O a m c]) (J #[Y Z s1,O a1 m1 c1]) p.num (q.den:Int) ?_ ?_ P.o S.o).mono ?_);(refine ah.ext ?_;exact eA);(refine k.ext ?_;exact eA);rintro e w2 ⟨r2,rfl,l,aj⟩;obtain⟨s2,a2,m2,c2,rfl,-⟩:=l.j;obtain⟨⟨ad,aH⟩,ar,au,x⟩:=Yb w aj)|(go_at_call 81;(with_reducible refine(ul _ (J #[Y Z s,O a m c,Y Z t,O ea em ec]) p ?_).mono ?_);(refine ha.ext ?_;exact eA);rintro e w3 ⟨r3,rfl,n,ak⟩;obtain⟨s3,a3,m3,c3,rfl,-⟩:=n.j;obtain⟨⟨ae,aI⟩,av,aw,y⟩:=Yb w ak)|(go_at_call 80;(with_reducible refine(Um _ (J #[Y Z s3,O a3 m3 c3]) (J #[Y Z s',O a' m' c']) (p.den:Int) q.num ?_ ?_ R.o Q.o).mono ?_);(refine n.ext ?_;exact eA);(refine ai.ext ?_;exact eA);rintro e w4 ⟨r4,rfl,o,al⟩;obtain⟨s4,a4,m4,c4,rfl,-⟩:=o.j;obtain⟨⟨af,aJ⟩,ax,ay,z⟩:=Yb w al)|(go_at_call 146;(with_reducible refine(St _ (J #[Y Z s2,O a2 m2 c2]) (J #[Y Z s4,O a4 m4 c4]) (p.num*q.den) ((p.den:Int)*q.num) ?_ ?_ f.o aa.o ab.o).mono ?_);(refine l.ext ?_;exact eA);(refine o.ext ?_;exact eA);rintro e w9 ⟨r9,rfl,r,am⟩;obtain⟨s9,a9,m9,c9,t9,e9,i9,j9,rfl⟩:=r.form;obtain⟨⟨ag,aK⟩,az,aA,K⟩:=Yb w am))
 all_goals go_wp2
 refine bR (v:=J #[Y Z s9,O a9 m9 c9,Y Z t9,O e9 i9 j9]) (by simp[results,Tryz.results150,go_sem,ac,ad,ae,af,ag,u,x,y,z,K]) rfl ⟨_,rfl,?_,eA⟩;rw[<-Ow];exact r.keep kA
def Dn(w:I)(va vb:N)(p q:Rat)(S:nc w va p)(T:nc w vb q)(g:Rb Ae p)(i:Rb Ae q):Calls Tryz.prog 102 #[va,vb] w (De w (p-q)):=by
 obtain⟨s,a,m,c,t,P,R,Q,rfl⟩:=S.form;obtain⟨s',z,m',K,t',b,f,d,rfl⟩:=T.form;have o:=Aa g;have r:=Aa i.neg;clear g i;rw[Rat.sub_eq_add_neg];go_in;go_wp2;go_region_held3 (fun W=>W.cell? ⟨w.heap.size,0,X⟩=M (Y Z s)/\W.cell? ⟨w.heap.size,1,X⟩=M (O a m c)/\W.cell? ⟨w.heap.size,2,X⟩=M (Y Z t)/\W.cell? ⟨w.heap.size,3,X⟩=M (O P R Q)/\W.cell? ⟨w.heap.size+1,0,X⟩=M (Y Z s')/\W.cell? ⟨w.heap.size+1,1,X⟩=M (O z m' K)/\W.cell? ⟨w.heap.size+1,2,X⟩=M (Y Z t')/\W.cell? ⟨w.heap.size+1,3,X⟩=M (O b f d)) ((repeat' (with_reducible refine And.intro ?_ ?_))<;>(first|(go_simp;done)|(refine hx1.d ?_;go_simp;done))) (first|(go_at_call 170;(with_reducible refine(iH _ (J #[Y Z s',O z m' K,Y Z t',O b f d]) q ?_).mono ?_);(refine T.ext ?_;exact eA);rintro e w1 ⟨r1,rfl,j,hx1⟩;obtain⟨s1,a1,m1,c1,t1,e1,i1,j1,rfl⟩:=j.form;obtain⟨⟨u,ae⟩,aa,ab,l⟩:=Yb w hx1)|(go_at_call 100;(with_reducible refine(jv _ (J #[Y Z s,O a m c,Y Z t,O P R Q]) (J #[Y Z s1,O a1 m1 c1,Y Z t1,O e1 i1 j1]) p (-q) ?_ ?_ o.o r.o).mono ?_);(refine S.ext ?_;exact eA);(refine j.ext ?_;exact eA);rintro e w9 ⟨r9,rfl,k,y⟩;obtain⟨s9,a9,m9,c9,t9,e9,i9,j9,rfl⟩:=k.form;obtain⟨⟨x,af⟩,ac,ad,n⟩:=Yb w y))
 all_goals go_wp2
 exact bR (v:=J #[Y Z s9,O a9 m9 c9,Y Z t9,O e9 i9 j9]) (by simp[results,Tryz.results102,go_sem,u,x,l,n]) rfl ⟨_,rfl,k.keep kA,eA⟩
def PI(w:I)(v:N)(n:Int)(h:vd w v n)(h0:0<=n)(h1:n<281474976710656):Calls Tryz.prog 61 #[v] w fun e w'=>e=.returned (H #[Y Z n,C true])/\Ba w w':=by
 obtain⟨a,m,c,s,rfl⟩:=h.form;have hs:s=false:=by rw[h.sgn];simp;omega
 subst hs;have R:Lm Rc n:=Lm.mono (j:=2) ⟨by unfold B;omega,by unfold B;omega⟩ dM;have p:Lm Rc (-9223372036854775808):=Lm.mono (j:=3) ⟨by unfold B;omega,by unfold B;omega⟩ dM;have r:Lm Rc 9223372036854775807:=Lm.mono (j:=3) ⟨by unfold B;omega,by unfold B;omega⟩ dM;have z:=Aa (fun(W:I)=>Rq W (-9223372036854775808) dM dM);have K:=Aa (fun(W:I)=>Rq W 9223372036854775807 dM dM);have x:=Aa (fun(W:I)(o:Ba w W)(v:N)(hv:vd W v (-9223372036854775808))=>(tB W (J #[O a m c,C false]) v n (-9223372036854775808) (h.ext o) hv R p).mono fun e w' (q:e=.returned (Y Z (n - -9223372036854775808).sign)/\Ba W w')=>(show e=.returned (Y Z 1)/\Ba W w' from by rw[Int.sign_eq_one_of_pos oM]at q;exact q));have y:=Aa (fun(W:I)(o:Ba w W)(v:N)(hv:vd W v 9223372036854775807)=>(tB W (J #[O a m c,C false]) v n 9223372036854775807 (h.ext o) hv R r).mono fun e w' (q:e=.returned (Y Z (n-9223372036854775807).sign)/\Ba W w')=>(show e=.returned (Y Z (-1))/\Ba W w' from by rw[Int.sign_eq_neg_one_of_neg oM]at q;exact q));have HW:=Aa (fun(W:I)(o:Ba w W)=>Ft W (J #[O a m c]) n (by have:=h.dig;rw[show ((n.natAbs:Nat):Int)=n by omega]at this;exact this.ext o) ⟨by unfold B;omega,by unfold B;omega⟩);clear h R p r;go_in;go_wp2;refine Kc [(⟨w.heap.size,0,X⟩,O a m c),(⟨w.heap.size,1,X⟩,C false)] cA fun b=>?_;refine Db (i:=0) ?_;refine Ub (i:=1) (z.o _) ?_;rintro e w1 ⟨r1,rfl,d,t⟩;obtain⟨a1,m1,c1,s1,rfl⟩:=d.form;refine⟨_,rfl,(cE b t),fun b=>?_⟩;have P:Ba w w1:=eA;refine Ub (i:=2) (x.o _ P _ d) ?_;rintro e w2 ⟨rfl,g⟩;refine⟨_,rfl,(cE b g),fun b=>?_⟩;have S:Ba w w2:=P.trans g;refine sN 3 ?_
 iterate 3 refine xb ?_
 refine oN ?_;refine Ub (i:=6) (K.o _) ?_;rintro e w6 ⟨r6,rfl,f,k⟩;obtain⟨a6,m6,c6,s6,rfl⟩:=f.form;refine⟨_,rfl,(cE b k),fun b=>?_⟩;have Q:Ba w w6:=S.trans k;refine Ub (i:=7) (y.o _ Q _ f) ?_;rintro e w7 ⟨rfl,l⟩;refine⟨_,rfl,(cE b l),fun b=>?_⟩;have T:Ba w w7:=Q.trans l;refine sN 8 ?_
 iterate 2 refine xb ?_
 refine oN ?_;refine Wb ?_;obtain⟨d0,d1,_⟩:=b;have e1:IntKind.i64.wrap n=n:=iW _ oM;clear t g k l P S Q d f;go_wp2_with((go_at_call 138;refine cM (HW.o _ T) ?_;rintro e w8 ⟨rfl,u⟩;obtain⟨aa,ab⟩:=u.cells;(have z8:w.heap.size<w7.heap.size:=World.block_lt_of_cell? _ _ d0)));refine bR (v:=H #[Y Z n,C true]) (by simp[results,Tryz.results61,go_sem]) rfl ?_;exact⟨rfl,T.trans u⟩
end
section
open Go.RowKit Go.Shelf
def ie:List UInt8->Nat
 | []=>0
 | b::r=>(b.toNat-48)*10 ^ r.length+ie r
def jg(s:List UInt8):Prop:=∀b∈s,48<=b.toNat/\b.toNat<58
def jg.tail{b:UInt8}{s:List UInt8}(h:jg (b::s)):jg s:=fun x d=>h x (mC _ d)
def jg.app{s t:List UInt8}(h:jg s)(k:jg t):jg (s++t):=fun b d=>(List.mem_append.1 d).elim (h b) (k b)
def Xz:∀(s t:List UInt8),ie (s++t)=ie s*10 ^ t.length+ie t
 | [],t=>by simp[ie]
 | b::s,t=>by
  rw[List.cons_append,ie,ie,Xz s t,lA,Nat.pow_add,Nat.add_mul,Nat.mul_assoc,Nat.add_assoc]
def Fq:∀{s:List UInt8},jg s->ie s<10 ^ s.length
 | [],_=>by simp[ie]
 | b::s,h=>by
  have d:=Fq h.tail;have e:=h b sM;have f:(b.toNat-48)*10 ^ s.length<=9*10 ^ s.length:=Nat.mul_le_mul_right _ oM;rw[ie,List.length_cons,Nat.pow_succ];omega
def UA:∀{s t:List UInt8},jg s->jg t->s.length=t.length->ie s=ie t->s=t
 | [],[],_,_,_,_=>rfl
 | [],_::_,_,_,h,_=>by simp at h
 | _::_,[],_,_,h,_=>by simp at h
 | b::s,c::t,hs,ht,hl,hv=>by
  have d:s.length=t.length:=by simpa using hl
  rw[ie,ie,d]at hv;have e:=Fq hs.tail;have f:=Fq ht.tail;rw[d]at e;have o:=hs b sM;have p:=ht c sM;have g:∀(x y u v P:Nat),u<P->v<P->x*P+u=y*P+v->x<=y:=fun x y u v P z hv r=>by
   by_cases h:x<=y
   ·exact h
   ·have:(y+1)*P<=x*P:=Nat.mul_le_mul_right _ oM;rw[Nat.add_mul]at this;omega
  have l:=g _ _ _ _ _ e f hv;have n:=g _ _ _ _ _ f e hv.symm;have i:b.toNat-48=c.toNat-48:=oM;rw[i]at hv;have j:ie s=ie t:=oM;have k:b=c:=UInt8.toNat_inj.1 oM;rw[k,UA hs.tail ht.tail d j]
def JK(n:Nat)(h:n<10000000):ie (If n)=n:=by
 have e:∀d:Nat,(UInt8.ofNat (48+d%10)).toNat-48=d%10:=fun d=>by
  rw[UInt8.toNat_ofNat_of_lt' (by simp[UInt8.size];omega)];omega
 unfold If;simp only[List.map_cons,List.map_nil,ie,e,List.length_cons,List.length_nil];omega
def XJ(n:Nat):jg (If n):=by intro b e;unfold If at e;obtain⟨d,_,rfl⟩:=List.mem_map.1 e;rw[UInt8.toNat_ofNat_of_lt' (by simp[UInt8.size];omega)];omega
def Lw:∀(k n:Nat),n<k->ie (Wa k n).flatten=n/\jg (Wa k n).flatten
 | 0,_,h=>by omega
 | k+1,n,h=>by
  unfold Wa;split
  ·rename_i h0;exact⟨by rw[h0];rfl,fun b f=>by simp at f⟩
  ·obtain⟨d,e⟩:=Lw k (n/10000000) oM;rw[List.flatten_append,List.flatten_singleton];refine⟨?_,e.app (XJ _)⟩;rw[Xz,d,JK _ oM,TJ];omega
def Zv:∀{s:List UInt8},ie (Lib.trimLeftB s 48)=ie s
 | []=>rfl
 | b::s=>by
  unfold Lib.trimLeftB;rw[List.dropWhile_cons];split
  ·rename_i h;have e:b=48:=by simpa using h
   subst e;have:=Zv (s:=s);unfold Lib.trimLeftB at this;rw[this,ie];simp
  ·rfl
def RC:∀{s:List UInt8}{b:UInt8}{r:List UInt8},Lib.trimLeftB s 48=b::r->b≠48
 | [],b,r,h=>by cases h
 | c::s,b,r,h=>by
  unfold Lib.trimLeftB at h;rw[List.dropWhile_cons]at h;split at h
  ·exact RC (s:=s) h
  ·rename_i hc;cases h;simpa using hc
def WA{s:List UInt8}{n:Nat}(p:n≠0)(i:jg s)(hv:ie s=n)(y:10 ^ (s.length-1)<=n):Te n=s:=by
 obtain⟨l,o⟩:=Lw (n+1) n oM;have d:=Zv (s:=(Wa (n+1) n).flatten);rw[l]at d;have f:jg (Lib.trimLeftB (Wa (n+1) n).flatten 48):=fun b g=>o b ((List.dropWhile_suffix _).subset g);unfold Te;generalize ht:Lib.trimLeftB (Wa (n+1) n).flatten 48=t at *
 cases t with
 | nil=>exact absurd d.symm p
 | cons b r =>
  rw[if_neg sM];have g:=RC ht;have u:=f b sM;have x:49<=b.toNat:=by
   have:b.toNat≠48:=fun e=>g (UInt8.toNat_inj.1 (by simpa using e));omega
  have z:10 ^ r.length<=n:=by
   rw[<-d,ie];have:1*10 ^ r.length<=(b.toNat-48)*10 ^ r.length:=Nat.mul_le_mul_right _ oM;omega
  have j:=Fq f;have k:=Fq i;rw[d]at j;rw[hv]at k;have P:r.length<s.length:=(Nat.pow_lt_pow_iff_right (by decide:1<10)).1 (Nat.lt_of_le_of_lt z k);have K:s.length-1<(b::r).length:=(Nat.pow_lt_pow_iff_right (by decide:1<10)).1 (Nat.lt_of_le_of_lt y j);refine UA f i ?_ (by rw[d,hv]);rw[List.length_cons]at K ⊢;omega
def TK:yd 1=[49]:=by unfold yd;rw[if_neg dM];exact WA dM (fun b d=>by rw[List.mem_singleton.1 d];decide) dM dM
def iK{d:Nat}(f:d≠1):yd (d:Int)≠[49]:=by
 intro h;unfold yd at h;rw[if_neg oM,Int.natAbs_natCast]at h;obtain⟨e,g⟩:=Lw (d+1) d oM;have b:=Zv (s:=(Wa (d+1) d).flatten);unfold Te at h;split at h
 ·cases h
 ·rw[h,e]at b;exact f (b.symm.trans dM)
def MK{s:List UInt8}{V:Nat}{i k g:Nat}(j:jg s)(f:s.length=4*i+k)(hv:ie s=V+10000 ^ i*(g%10 ^ k)):jg (UInt8.ofNat (48+g/10 ^ k%10)::s)/\(UInt8.ofNat (48+g/10 ^ k%10)::s).length=4*i+(k+1)/\ie (UInt8.ofNat (48+g/10 ^ k%10)::s)=V+10000 ^ i*(g%10 ^ (k+1)):=by
 have e:(UInt8.ofNat (48+g/10 ^ k%10)).toNat=48+g/10 ^ k%10:=UInt8.toNat_ofNat_of_lt' (by simp[UInt8.size];omega);refine⟨fun b d=>?_,by rw[List.length_cons,f];omega,?_⟩
 ·rcases List.mem_cons.1 d with rfl|d
  ·omega
  ·exact j b d
 ·rw[ie,e,f,hv,Nat.mod_pow_succ,Nat.pow_add,Nat.pow_mul,Nat.add_sub_cancel_left,Nat.mul_add];generalize g/10 ^ k%10=x;have:x*((10 ^ 4) ^ i*10 ^ k)=10000 ^ i*(10 ^ k*x):=by
   rw[show (10:Nat) ^ 4=10000 from rfl,Nat.mul_comm x,Nat.mul_assoc]
  omega
def FG{n i k g:Nat}{s:List UInt8}{V:Nat}(l:jg s)(o:s.length=4*i+k)(hv:ie s=V+10000 ^ i*(g%10 ^ k))(p:g/10 ^ k=0)(r:0<k)(b:0<g/10 ^ (k-1))(d:n=V+10000 ^ i*g):Te n=s:=by
 have e:g<10 ^ k:=by
  rcases Nat.div_eq_zero_iff.1 p with h|h
  ·exact absurd h (Nat.ne_of_gt (Nat.pow_pos dM))
  ·exact h
 have f:10 ^ (k-1)<=g:=by
  by_cases h:10 ^ (k-1)<=g
  ·exact h
  ·rw[Nat.div_eq_of_lt oM]at b;omega
 rw[Nat.mod_eq_of_lt e,<-d]at hv;have j:10 ^ (s.length-1)<=n:=by
  rw[o,show 4*i+k-1=4*i+(k-1) by omega,Nat.pow_add,Nat.pow_mul,show (10:Nat) ^ 4=10000 from rfl,d];exact nT (Nat.mul_le_mul_left _ f) (Nat.le_add_left _ _)
 refine WA ?_ l hv j;have:0<10 ^ (s.length-1):=Nat.pow_pos dM;omega
