import Derived.Test.YtgimcmpeceifnaaGreatDoorComA09
set_option maxRecDepth 1000000
set_option maxHeartbeats 16000000
set_option linter.all false
open Go.Value renaming slice->O,int->Y,agg->M,pointer->C,tuple->F,bool->H
open Go.IntKind renaming i64->Z,u8->A
open Option renaming none->X,some->I
open Go renaming World->V,Value->J
open Go.Obj renaming cells->N
namespace Go.Proofs.YtgimcmpeceifnaaGreatDoor.Cop
section
open Go.RowKit Go.Shelf Go.Sort Go.Lib
def oH(w:V)(f:Pl->Bool)(ps:List Pl)(g:Nat)(b:J)(W:V):Prop:=
 ∃i:Nat,i<=ps.length/\b=Y Z i/\g=ps.length-i/\Ba w W/\∀j y,j<i->ps[j]?=I y->f y=false
def fP w v ps bq f(h:od w v ps)(hf:∀W,Ba w W->∀vp p,p∈ps->Sg W vp p->Calls Tryz.prog 160 #[vp,C (I ⟨bq,0,X⟩)] W fun e w'=>e=.returned (H (f p))/\Ba W w'):Calls Tryz.prog 199 #[v,.func (.func 160) #[] #[C (I ⟨bq,0,X⟩)]] w fun e w'=>e=.returned (Y Z (Pc f ps))/\Ba w w':=by
 obtain⟨a,c,rfl⟩:=h.form;obtain⟨n,hn⟩:=gX ps.length;rw[hn]at h ⊢;have t:=h.le;unfold maxLen at t;have au:n<=9223372036854775807:=oM;have k:=za hn;have Hf:=za hf;clear hn t hf;go_in;go_wp2;go_loopg [8] n (oH w f ps)
 case atStart=>exact⟨0,by omega,rfl,by rw[k.o];rfl,eR _,fun j y z=>by omega⟩
 case round =>
  obtain⟨i,hi,rfl,rfl,hx,l⟩:=hrel;rw[k.o]at hi;have g:=za l;clear l;by_cases ab:i<n
  ·obtain⟨p,K⟩:∃q,ps[i]?=I q:=⟨ps[i]'(by rw[k.o];omega),by simp[k.o,ab]⟩;obtain⟨b,o,s,vl,vu,rfl,hb,R,d2,d3,d⟩:=(h.f hx).at' K;have r:=za (fun W (x:Ba wr W)=>Hf.o W (hx.trans x) (M (tf p s vl vu)) p (lM K) ⟨_,_,_,rfl,R.f x,d2.f x,d3.f x⟩);obtain⟨ad,ae,rfl⟩:=R.form;obtain⟨a1,c1,rfl⟩:=d2.form;obtain⟨af,ag,rfl⟩:=d3.form;obtain⟨n1,f1⟩:=gX ((Ga p).length);obtain⟨m1,f3⟩:=gX ((Mb p).length);obtain⟨j1,f5⟩:=gX p.shape.length;obtain⟨fp,f7⟩:=gX (f p);rw[f1,f3,f5]at d r;rw[f7]at r;have F7:=za f7;have L:=d 0 (.string p.name) rfl;have aj:=d 1 (O ad j1 ae) rfl;have ak:=d 2 (Y Z p.depth) rfl;have al:=d 3 (Y Z p.density) rfl;have am:=d 4 (Y Z p.gx) rfl;have an:=d 5 (Y Z p.gz) rfl;have ao:=d 6 (Y Z p.way) rfl;have ap:=d 7 (Y Z p.ax) rfl;have aq:=d 8 (Y Z p.az) rfl;have ar:=d 9 (Y A p.skin) rfl;have ah:=d 10 (O a1 n1 c1) rfl;have ai:=d 11 (O af m1 ag) rfl;simp only[Nat.add_zero]at L;have Hq:=za K;unfold tf at r;clear K d R d2 d3 f1 f3 f5 f7;cases fp with
   |true=>
    have e:Pc f ps=(i:Int):=pp Hq.o F7.o g.o;have E:=za e;clear e;go_wp2_with(((go_at_call 160;refine cM (r.o _ eA) ?_;rintro e w1 ⟨rfl,ac⟩)));go_ret;exact⟨by rw[E.o];rfl,eA⟩
   |false=>
    go_wp2_with(((go_at_call 160;refine cM (r.o _ eA) ?_;rintro e w1 ⟨rfl,ac⟩)));go_roundg (n-(i+1))
    case measure=>have:=k.o;omega
    case rel =>
     refine⟨i+1,by have:=k.o;omega,by go_num,by rw[k.o],eA,fun j y z u=>?_⟩;by_cases aa:j=i
     ·subst aa;rw[Hq.o]at u;cases u;exact F7.o
     ·exact g.o j y oM u
  ·obtain rfl:i=n:=oM;have e:Pc f ps = -1:=Zo (fun j y z u=>g.o j y (by rw[k.o]at z;exact z) u);have E:=za e;clear e;go_wp2;go_ret;exact⟨by rw[E.o];rfl,hx⟩
def RP w v ps b f(h:od w v ps)(j:∀W,Ba w W->∀vp p,p∈ps->Sg W vp p->Calls Tryz.prog 160 #[vp,C (I ⟨b,0,X⟩)] W fun e w'=>e=.returned (H (f p))/\Ba W w'):Calls Tryz.prog 159 #[v,.func (.func 160) #[] #[C (I ⟨b,0,X⟩)]] w fun e w'=>e=.returned (H (ps.any f))/\Ba w w':=by
 rw[<-Zp];obtain⟨x,k⟩:=gX (Pc f ps);have i:=fun W (g:Ba w W)=>fP W v ps b f (h.f g) (fun W' d=>j W' (g.trans d));obtain⟨a,n,c,rfl⟩:∃a n c,v=O a n c:=by obtain⟨a,c,h⟩:=h.form;exact⟨a,_,c,h⟩
 rw[k]at *;have l:=za i;clear i k h j;go_in;go_wp2_with(((go_at_call 199;refine cM (l.o _ eA) ?_;rintro e r ⟨rfl,o⟩)));go_ret;exact⟨rfl,eA⟩
def kP w v ps bq f(h:od w v ps)(hf:∀W,Ba w W->∀vp p,p∈ps->Sg W vp p->Calls Tryz.prog 162 #[vp,C (I ⟨bq,0,X⟩)] W fun e w'=>e=.returned (H (f p))/\Ba W w'):Calls Tryz.prog 199 #[v,.func (.func 162) #[] #[C (I ⟨bq,0,X⟩)]] w fun e w'=>e=.returned (Y Z (Pc f ps))/\Ba w w':=by
 obtain⟨a,c,rfl⟩:=h.form;obtain⟨n,hn⟩:=gX ps.length;rw[hn]at h ⊢;have t:=h.le;unfold maxLen at t;have au:n<=9223372036854775807:=oM;have k:=za hn;have Hf:=za hf;clear hn t hf;go_in;go_wp2;go_loopg [8] n (oH w f ps)
 case atStart=>exact⟨0,by omega,rfl,by rw[k.o];rfl,eR _,fun j y z=>by omega⟩
 case round =>
  obtain⟨i,hi,rfl,rfl,hx,l⟩:=hrel;rw[k.o]at hi;have g:=za l;clear l;by_cases ab:i<n
  ·obtain⟨p,K⟩:∃q,ps[i]?=I q:=⟨ps[i]'(by rw[k.o];omega),by simp[k.o,ab]⟩;obtain⟨b,o,s,vl,vu,rfl,hb,R,d2,d3,d⟩:=(h.f hx).at' K;have r:=za (fun W (x:Ba wr W)=>Hf.o W (hx.trans x) (M (tf p s vl vu)) p (lM K) ⟨_,_,_,rfl,R.f x,d2.f x,d3.f x⟩);obtain⟨ad,ae,rfl⟩:=R.form;obtain⟨a1,c1,rfl⟩:=d2.form;obtain⟨af,ag,rfl⟩:=d3.form;obtain⟨n1,f1⟩:=gX ((Ga p).length);obtain⟨m1,f3⟩:=gX ((Mb p).length);obtain⟨j1,f5⟩:=gX p.shape.length;obtain⟨fp,f7⟩:=gX (f p);rw[f1,f3,f5]at d r;rw[f7]at r;have F7:=za f7;have L:=d 0 (.string p.name) rfl;have aj:=d 1 (O ad j1 ae) rfl;have ak:=d 2 (Y Z p.depth) rfl;have al:=d 3 (Y Z p.density) rfl;have am:=d 4 (Y Z p.gx) rfl;have an:=d 5 (Y Z p.gz) rfl;have ao:=d 6 (Y Z p.way) rfl;have ap:=d 7 (Y Z p.ax) rfl;have aq:=d 8 (Y Z p.az) rfl;have ar:=d 9 (Y A p.skin) rfl;have ah:=d 10 (O a1 n1 c1) rfl;have ai:=d 11 (O af m1 ag) rfl;simp only[Nat.add_zero]at L;have Hq:=za K;unfold tf at r;clear K d R d2 d3 f1 f3 f5 f7;cases fp with
   |true=>
    have e:Pc f ps=(i:Int):=pp Hq.o F7.o g.o;have E:=za e;clear e;go_wp2_with(((go_at_call 162;refine cM (r.o _ eA) ?_;rintro e w1 ⟨rfl,ac⟩)));go_ret;exact⟨by rw[E.o];rfl,eA⟩
   |false=>
    go_wp2_with(((go_at_call 162;refine cM (r.o _ eA) ?_;rintro e w1 ⟨rfl,ac⟩)));go_roundg (n-(i+1))
    case measure=>have:=k.o;omega
    case rel =>
     refine⟨i+1,by have:=k.o;omega,by go_num,by rw[k.o],eA,fun j y z u=>?_⟩;by_cases aa:j=i
     ·subst aa;rw[Hq.o]at u;cases u;exact F7.o
     ·exact g.o j y oM u
  ·obtain rfl:i=n:=oM;have e:Pc f ps = -1:=Zo (fun j y z u=>g.o j y (by rw[k.o]at z;exact z) u);have E:=za e;clear e;go_wp2;go_ret;exact⟨by rw[E.o];rfl,hx⟩
def VP w v ps b f(h:od w v ps)(j:∀W,Ba w W->∀vp p,p∈ps->Sg W vp p->Calls Tryz.prog 162 #[vp,C (I ⟨b,0,X⟩)] W fun e w'=>e=.returned (H (f p))/\Ba W w'):Calls Tryz.prog 159 #[v,.func (.func 162) #[] #[C (I ⟨b,0,X⟩)]] w fun e w'=>e=.returned (H (ps.any f))/\Ba w w':=by
 rw[<-Zp];obtain⟨x,k⟩:=gX (Pc f ps);have i:=fun W (g:Ba w W)=>kP W v ps b f (h.f g) (fun W' d=>j W' (g.trans d));obtain⟨a,n,c,rfl⟩:∃a n c,v=O a n c:=by obtain⟨a,c,h⟩:=h.form;exact⟨a,_,c,h⟩
 rw[k]at *;have l:=za i;clear i k h j;go_in;go_wp2_with(((go_at_call 199;refine cM (l.o _ eA) ?_;rintro e r ⟨rfl,o⟩)));go_ret;exact⟨rfl,eA⟩
end
section
open Go.RowKit Go.Shelf
attribute [local go_sem] Oper.semAt_some
def My{x y}(d:0<=x)(e:0<y):Int.gcd y (x%y)=Int.gcd x y:=by obtain⟨a,rfl⟩:=Int.eq_ofNat_of_zero_le d;obtain⟨b,rfl⟩:=Int.eq_ofNat_of_zero_le (Int.le_of_lt e);rw[<-Int.natCast_emod,Int.gcd_natCast_natCast,Int.gcd_natCast_natCast,Nat.gcd_comm b,<-Nat.gcd_rec,Nat.gcd_comm]
def FE{x}(b:0<=x):(Int.gcd x 0:Int)=x:=by rw[Int.gcd_zero_right];omega
def DM x y:Int.gcd (x.natAbs:Int) (y.natAbs:Int)=Int.gcd x y:=by simp[Int.gcd]
def Vr(w:V)(G:Nat)(g:Nat)(W:V):Prop:=
 ∃x y:Int,0<=x/\0<=y/\Int.gcd x y=G/\g=y.toNat/\Lm Ad x/\Lm Ad y/\Ba w W/\NB W w.heap.size x/\NB W (w.heap.size+1) y/\
  W.heap[w.heap.size+1+1]?=I (N #[Y Z 0,O X 0 0] 163 (0,0))
def Vr.ext{w W W' G g}(h:Vr w G g W)(k:Ba W W'):Vr w G g W':=by obtain⟨x,y,d,e,f,i,j,h6,l,n,o,b⟩:=h;exact⟨x,y,d,e,f,i,j,h6,l.trans k,n.ext k,o.ext k,k.e b⟩
def gU(d:V)(G:Nat)(t5 b:J)(W:V):Prop:=
 ∃u v:Int,t5=Y Z u/\b=Y Z v/\0<=u/\0<=v/\u<=10000000000000000/\v<=10000000000000000/\Int.gcd u v=G/\Ba d W
def AM w va vb na nb(ha:Cd w va na)(hb:Cd w vb nb)(aB:Lm Ad na)(aC:Lm Ad nb):Calls Tryz.prog 248 #[va,vb] w (Zh w (Int.gcd na nb:Int)):=by
 obtain⟨s,a,m,c,rfl,hs⟩:=ha.j;obtain⟨s',a',m',c',rfl,aO⟩:=hb.j;obtain⟨G,hG⟩:=gX (Int.gcd na nb);rw[hG];have HG:=za hG;have aI:=za aB;have aJ:=za aC;clear hs aO hG aB aC;go_in;go_wp2;obtain⟨W0,d⟩:=gX (((w.alloc (N #[Y Z s,O a m c] 163)).alloc (N #[Y Z s',O a' m' c'] 163)).alloc (N #[Y Z 0,O X 0 0] 163));have X0:Ba w W0:=by rw[<-d];exact(((eR w).alloc _).alloc _).alloc _
 have aF:NB W0 w.heap.size na:=by rw[<-d];exact(NB.new (W0:=w) ha rfl).ext (((eR _).alloc _).alloc _)
 have aG:NB W0 (w.heap.size+1) nb:=by rw[<-d];exact(NB.new (W0:=w.alloc (N #[Y Z s,O a m c] 163)) (hb.ext ((eR _).alloc _)) sM).ext ((eR _).alloc _)
 have an:W0.heap[w.heap.size+1+1]?=I (N #[Y Z 0,O X 0 0] 163 (0,0)):=by rw[<-d];exact mc _ _ _ sM
 have p0:W0.cell? ⟨w.heap.size,0,X⟩=I (Y Z s):=by rw[<-d];clear d;go_simp
 have p1:W0.cell? ⟨w.heap.size,1,X⟩=I (O a m c):=by rw[<-d];clear d;go_simp
 have q0:W0.cell? ⟨w.heap.size+1,0,X⟩=I (Y Z s'):=by rw[<-d];clear d;go_simp
 have q1:W0.cell? ⟨w.heap.size+1,1,X⟩=I (O a' m' c'):=by rw[<-d];clear d;go_simp
 have f0:W0.frozen? ⟨w.heap.size,0,X⟩=false:=by rw[<-d];clear d;go_simp
 have f1:W0.frozen? ⟨w.heap.size,1,X⟩=false:=by rw[<-d];clear d;go_simp
 have f2:W0.frozen? ⟨w.heap.size+1,0,X⟩=false:=by rw[<-d];clear d;go_simp
 have f3:W0.frozen? ⟨w.heap.size+1,1,X⟩=false:=by rw[<-d];clear d;go_simp
 have z0:=Ya an;have z1:w.heap.size<W0.heap.size:=oM;have z2:w.heap.size+1<W0.heap.size:=oM;rw[d];clear d;refine Ti (fun i=>decide (3<i)) (Da [(⟨w.heap.size,0,X⟩,Y Z s),(⟨w.heap.size,1,X⟩,O a m c),(⟨w.heap.size+1,0,X⟩,Y Z s'),(⟨w.heap.size+1,1,X⟩,O a' m' c')]) kM ?_ (fun f=>?_)
 ·exact cA
 refine so (i:=0) ?_;refine so (i:=2) ?_;refine Ed (i:=1) fun K k=>?_;go_simp;(with_reducible refine cM (KD _ (M #[Y Z s,O a m c]) na (ha.ext X0.drew)) ?_);rintro e w1 ⟨r1,rfl,o,ab⟩;obtain⟨s1,a1,m1,c1,rfl,-⟩:=o.j;go_wp2;refine kO k (fun _=>cE f ab) (fun f=>?_);clear k K;replace f:=f rfl;refine Ed (i:=3) fun K k=>?_;go_simp;(with_reducible refine cM (KD _ (M #[Y Z s',O a' m' c']) nb (hb.ext (X0.drew.trans ab))) ?_);rintro e w2 ⟨r2,rfl,n,ag⟩;obtain⟨s2,a2,m2,c2,rfl,-⟩:=n.j;go_wp2;refine kO k (fun _=>cE f ag) (fun f=>?_);clear k K;replace f:=f rfl;have X2:Ba W0 w2:=(eR W0).drew.trans (ab.trans ag);have y1:w.heap.size<w2.heap.size:=X2.lt z1;have y2:w.heap.size+1<w2.heap.size:=X2.lt z2;obtain⟨aK,aL⟩:=X2.cells;refine Ed (i:=4) fun K k=>?_;go_simp;refine kO k (fun h=>nomatch h) (fun f=>?_);clear k K;refine Ed (i:=5) fun K k=>?_;go_simp;refine kO k (fun h=>nomatch h) (fun f=>?_);clear k K;refine Ub kM ?_ _;have R:=aF.ext X2;have ai:=aG.ext X2;have aH:=X2.e an;have av:=X0.trans X2;go_wp2;go_loopg [7] ((nb.natAbs:Int).toNat) (fun g _ W=>Vr w G g W)
 case atStart =>
  refine⟨(na.natAbs:Int),(nb.natAbs:Int),by omega,by omega,by rw[DM,HG.o],rfl,aI.o.abs,aJ.o.abs,?_,?_,?_,?_⟩
  ·exact(((av.set (p:=⟨w.heap.size,0,X⟩) sM _).set (p:=⟨w.heap.size,1,X⟩) sM _).set (p:=⟨w.heap.size+1,0,X⟩) sM _).set (p:=⟨w.heap.size+1,1,X⟩) sM _
  ·exact((R.put (o.ext ag)).other (p:=⟨w.heap.size+1,0,X⟩) sM ((ai.not.set _ _).set _ _) _).other (p:=⟨w.heap.size+1,1,X⟩) sM (((ai.not.set _ _).set _ _).set _ _) _
  ·exact((ai.other (p:=⟨w.heap.size,0,X⟩) sM R.not _).other (p:=⟨w.heap.size,1,X⟩) sM (R.not.set _ _) _).put (n.keep (((Ja.refl _ w2).y R.not _).y (R.not.set _ _) _))
  ·rw[bS _ _ _ _ sM,bS _ _ _ _ sM,bS _ _ _ _ dO,bS _ _ _ _ dO];exact aH
 case round =>
  clear R ai aH av aK aL X2 y1 y2 o n ab ag aF aG an p0 p1 q0 q1 f0 f1 f2 f3 z0 z1 z2 X0 f HG;obtain⟨x,y,af,aQ,hG,rfl,aw,az,hx,al,am,l⟩:=hrel;have HG:=za hG;have ap:=za aw;have z:=za az;have aq:=za al;have ar:=za am;obtain⟨sx,ax,mx,cx,aP,x0,x1,a8,a9,x2,ad⟩:=al.rd;obtain⟨sy,ay,my,cy,ae,y0,y1,ba,bb,y2,L⟩:=am.rd;have r0:=Aa l 0 (Y Z 0);have r1:=Aa l 1 (O X 0 0);have a4:=Za l 0;have a6:=Za l 1;have rz:=Ya l;have t:=za l;clear hG aw az al am l aP;by_cases aR:y=0
  ·subst aR;obtain rfl:sy=0:=by rw[ae];rfl
   clear ae;go_wp2;refine bR (v:=M #[Y Z sx,O ax mx cx]) (by simp[results,Tryz.results248,go_sem,rz,r0,r1]) rfl ⟨_,rfl,?_,eA⟩;rw[<-HG.o,FE af];exact ad.keep (Tp t.o _ _)
  ·have r:0<y:=oM;obtain rfl:sy=1:=by rw[ae];exact Int.sign_eq_one_of_pos r
   clear ae;by_cases aY:mx<=4
   ·by_cases aZ:my<=4
    ·obtain⟨xs,xl,xi,xc,xv⟩:=ad.open;obtain⟨ys,yl,yi,yc,yv⟩:=L.open;have bx:x<10000000000000000:=by
      have h1:=(Yi Ok xc.1).2;have h2:=On (b:=C4) dM (show xs.length<=4 by omega);have h3:C4 ^ 4=10000000000000000:=dM;omega
     have bY:y<10000000000000000:=by
      have h1:=(Yi Ok yc.1).2;have h2:=On (b:=C4) dM (show ys.length<=4 by omega);have h3:C4 ^ 4=10000000000000000:=dM;omega
     clear xl xi xc xv yl yi yc yv;go_wp2;go_region_held3 (fun W=>W.cell? ⟨w.heap.size,0,X⟩=I (Y Z sx)/\W.cell? ⟨w.heap.size,1,X⟩=I (O ax mx cx)/\W.cell? ⟨w.heap.size+1,0,X⟩=I (Y Z 1)/\W.cell? ⟨w.heap.size+1,1,X⟩=I (O ay my cy)) ((repeat' (with_reducible refine And.intro ?_ ?_))<;>(first|(go_simp;done)|(refine ab.d ?_;go_simp;done))) (first|(go_at_call 276;(with_reducible refine(EF _ (M #[Y Z sx,O ax mx cx]) x ?_ oM oM).mono ?_);(refine ad.ext ?_;exact(eR wr).drew);rintro e w8 ⟨rfl,ac⟩;obtain⟨aU,aW⟩:=tp ac;(have z8:w.heap.size<w8.heap.size:=ac.lt x2);(have aT:w.heap.size+1<w8.heap.size:=ac.lt y2))|(go_at_call 276;(with_reducible refine(EF _ (M #[Y Z 1,O ay my cy]) y ?_ oM oM).mono ?_);(refine L.ext ?_;exact(eR wr).drew.trans ac);rintro e w9 ⟨rfl,ah⟩;obtain⟨aV,aX⟩:=tp ah;(have z9:w.heap.size<w9.heap.size:=ah.lt z8);(have bc:w.heap.size+1<w9.heap.size:=ah.lt aT)))
     all_goals go_wp2
     have X9:Ba wr w9:=(eR wr).drew.trans (ac.trans ah);have aa:=X9.e t.o;obtain⟨wo,rfl⟩:∃wo:V,wo=wr:=⟨_,rfl⟩;go_loopw [5,6] (gU w9 G) (fun _ t6 _=>(intOf t6).toNat)
     case atStart=>exact⟨x,y,rfl,rfl,af,aQ,by omega,by omega,HG.o,eR _⟩
     case round =>
      obtain⟨u,v,rfl,rfl,u0,v0,u1,v1,hG,Xi⟩:=hrel;have ao:=za hG;clear hG;by_cases hv:v=0
      ·subst hv;(have e:u=(G:Int):=by rw[<-ao.o,FE u0]);have t0:=Aa (Xi.e aa) 0 (Y Z 0);have t1:=Aa (Xi.e aa) 1 (O X 0 0);have a7:=Za (Xi.e aa) 0;have Rj:=Za (Xi.e aa) 1;have tz:=Ya (Xi.e aa);have XF:Ba w wr:=hx.trans (X9.trans Xi);have E:=za e;clear e;go_wp2_with(go_at_call 208;(with_reducible refine(Oo _ u oM oM).mono ?_);rintro e w5 ⟨r5,rfl,aD,j⟩;obtain⟨s5,a5,m5,c5,rfl,-⟩:=aD.j;obtain⟨ak,aA⟩:=j.cells);refine bR (v:=M #[Y Z s5,O a5 m5 c5]) (by simp[results,Tryz.results248,go_sem,ak,tz,t0,t1]) rfl ⟨_,rfl,?_,eA⟩;rw[<-E.o];exact aD.keep (Tp (j.e (Xi.e aa)) _ _)
      ·(have a0:(v != 0)=true:=by simpa using hv);have aE:0<v:=oM;obtain⟨rm,aM⟩:=gX (Int.tmod u v);(have aj:rm=u%v:=by rw[<-aM,Int.tmod_eq_emod_of_nonneg u0]);have k1:=Int.emod_lt_of_pos u aE;have k2:=Int.emod_nonneg u (show v≠0 by omega);have r9:0<=rm:=oM;have r8:rm<v:=oM;have au:=za aj;(have a3:(v==0)=false:=by simpa using hv);clear aj k1 k2;go_wp2;go_quiet (fail);go_wp2;go_roundw
       case rel=>exact⟨v,rm,rfl,rfl,by omega,r9,v1,by omega,by rw[au.o,My u0 aE,ao.o],eA⟩
       case measure=>simp[intOf];omega
    ·have h4:¬(my:Int)<=4:=oM;have h5:(mx:Int)<=4:=oM;go_wp2_with(go_at_call 249;(with_reducible refine(Iv _ (M #[Y Z sx,O ax mx cx]) (M #[Y Z 1,O ay my cy]) x y ad L ap.o z.o oM).mono ?_);rintro e w5 ⟨r1,r2,rfl,o,n,j⟩;obtain⟨s1,a1,m1,c1,rfl,-⟩:=o.j;obtain⟨s2,a2,m2,c2,rfl,-⟩:=n.j;obtain⟨ak,aA⟩:=j.cells;(have z5:w.heap.size<w5.heap.size:=j.lt x2);(have aS:w.heap.size+1<w5.heap.size:=j.lt y2));refine Ti (fun i=>decide (2<i)) (Da [(⟨w.heap.size+1,0,X⟩,Y Z 1),(⟨w.heap.size+1,1,X⟩,O ay my cy),(⟨w5.heap.size+1,0,X⟩,Y Z s2),(⟨w5.heap.size+1,1,X⟩,O a2 m2 c2)]) kM ?_ (fun f=>?_)
     ·exact cA
     refine sN 0 ?_
     (iterate 2 refine Ui ?_);refine oN ?_;refine Ed (i:=2) fun K k=>?_;go_simp;refine kO k (fun _=>?_) (fun f=>?_)
     ·exact cA
     clear k K;replace f:=f rfl;refine Ed (i:=3) fun K k=>?_;go_simp;refine kO k (fun h=>nomatch h) (fun f=>?_);clear k K;refine Ub kM ?_ _;go_wp2;go_roundg ((x%y).toNat)
     case measure=>have:=Int.emod_lt_of_pos x r;have:=Int.emod_nonneg x (show y≠0 by omega);omega
     case rel =>
      have k1:=Int.emod_lt_of_pos x r;have k2:=Int.emod_nonneg x (show y≠0 by omega);have nx:=aq.o.ext j;have ny:=ar.o.ext j;refine Vr.ext ?_ (((eR _).alloc _).alloc _).drew;refine⟨y,x%y,by omega,k2,by rw[My af r,HG.o],rfl,z.o,?_,?_,?_,?_,?_⟩
      ·have:=z.o;unfold Lm at *;omega
      ·exact((((hx.trans j).set (p:=⟨w.heap.size,0,X⟩) sM _).set (p:=⟨w.heap.size,1,X⟩) sM _).set (p:=⟨w.heap.size+1,0,X⟩) sM _).set (p:=⟨w.heap.size+1,1,X⟩) sM _
      ·exact((nx.put (L.ext j)).other (p:=⟨w.heap.size+1,0,X⟩) sM ((ny.not.set _ _).set _ _) _).other (p:=⟨w.heap.size+1,1,X⟩) sM (((ny.not.set _ _).set _ _).set _ _) _
      ·refine((ny.other (p:=⟨w.heap.size,0,X⟩) sM nx.not _).other (p:=⟨w.heap.size,1,X⟩) sM (nx.not.set _ _) _).put (n.keep (((Ja.refl _ w5).y nx.not _).y (nx.not.set _ _) _))
      ·rw[bS _ _ _ _ sM,bS _ _ _ _ sM,bS _ _ _ _ dO,bS _ _ _ _ dO];exact j.e t.o
   ·have h5:¬(mx:Int)<=4:=oM;go_wp2_with(go_at_call 249;(with_reducible refine(Iv _ (M #[Y Z sx,O ax mx cx]) (M #[Y Z 1,O ay my cy]) x y ad L ap.o z.o oM).mono ?_);rintro e w5 ⟨r1,r2,rfl,o,n,j⟩;obtain⟨s1,a1,m1,c1,rfl,-⟩:=o.j;obtain⟨s2,a2,m2,c2,rfl,-⟩:=n.j;obtain⟨ak,aA⟩:=j.cells;(have z5:w.heap.size<w5.heap.size:=j.lt x2);(have aS:w.heap.size+1<w5.heap.size:=j.lt y2));refine Ti (fun i=>decide (2<i)) (Da [(⟨w.heap.size+1,0,X⟩,Y Z 1),(⟨w.heap.size+1,1,X⟩,O ay my cy),(⟨w5.heap.size+1,0,X⟩,Y Z s2),(⟨w5.heap.size+1,1,X⟩,O a2 m2 c2)]) kM ?_ (fun f=>?_)
    ·exact cA
    refine sN 0 ?_
    (iterate 2 refine Ui ?_);refine oN ?_;refine Ed (i:=2) fun K k=>?_;go_simp;refine kO k (fun _=>?_) (fun f=>?_)
    ·exact cA
    clear k K;replace f:=f rfl;refine Ed (i:=3) fun K k=>?_;go_simp;refine kO k (fun h=>nomatch h) (fun f=>?_);clear k K;refine Ub kM ?_ _;go_wp2;go_roundg ((x%y).toNat)
    case measure=>have:=Int.emod_lt_of_pos x r;have:=Int.emod_nonneg x (show y≠0 by omega);omega
    case rel =>
     have k1:=Int.emod_lt_of_pos x r;have k2:=Int.emod_nonneg x (show y≠0 by omega);have nx:=aq.o.ext j;have ny:=ar.o.ext j;refine Vr.ext ?_ (((eR _).alloc _).alloc _).drew;refine⟨y,x%y,by omega,k2,by rw[My af r,HG.o],rfl,z.o,?_,?_,?_,?_,?_⟩
     ·have:=z.o;unfold Lm at *;omega
     ·exact((((hx.trans j).set (p:=⟨w.heap.size,0,X⟩) sM _).set (p:=⟨w.heap.size,1,X⟩) sM _).set (p:=⟨w.heap.size+1,0,X⟩) sM _).set (p:=⟨w.heap.size+1,1,X⟩) sM _
     ·exact((nx.put (L.ext j)).other (p:=⟨w.heap.size+1,0,X⟩) sM ((ny.not.set _ _).set _ _) _).other (p:=⟨w.heap.size+1,1,X⟩) sM (((ny.not.set _ _).set _ _).set _ _) _
     ·refine((ny.other (p:=⟨w.heap.size,0,X⟩) sM nx.not _).other (p:=⟨w.heap.size,1,X⟩) sM (nx.not.set _ _) _).put (n.keep (((Ja.refl _ w5).y nx.not _).y (nx.not.set _ _) _))
     ·rw[bS _ _ _ _ sM,bS _ _ _ _ sM,bS _ _ _ _ dO,bS _ _ _ _ dO];exact j.e t.o
def Re(w:V)(v:J)(q:Rat):Prop:=
 ∃s a m c s2 a2 m2 c2,v=M #[Y Z s,O a m c,Y Z s2,O a2 m2 c2]/\Cd w (M #[Y Z s,O a m c]) q.num/\(Cd w (M #[Y Z s2,O a2 m2 c2]) (q.den:Int)\/(s2=0/\q.den=1))
section
variable {w w':V} {v:J} {q:Rat} {s s2:Int} {a a2:Option Addr} {m c m2 c2:Nat}
def Re.ext(h:Re w v q)(k:Ba w w'):Re w' v q:=by obtain⟨s,a,m,c,s2,a2,m2,c2,rfl,b,d⟩:=h;exact⟨s,a,m,c,s2,a2,m2,c2,rfl,b.ext k,d.imp (·.ext k) id⟩
def Re.keep(h:Re w v q)(k:Ja 3 w w'):Re w' v q:=by obtain⟨s,a,m,c,s2,a2,m2,c2,rfl,b,d⟩:=h;exact⟨s,a,m,c,s2,a2,m2,c2,rfl,b.keep k,d.imp (·.keep k) id⟩
def Re.form(h:Re w v q):∃s a m c s2 a2 m2 c2,v=M #[Y Z s,O a m c,Y Z s2,O a2 m2 c2]:=by obtain⟨s,a,m,c,s2,a2,m2,c2,rfl,b,d⟩:=h;exact⟨_,_,_,_,_,_,_,_,rfl⟩
def Re.top(h:Re w (M #[Y Z s,O a m c,Y Z s2,O a2 m2 c2]) q):Cd w (M #[Y Z s,O a m c]) q.num:=by obtain⟨s,a,m,c,s2,a2,m2,c2,e,b,d⟩:=h;cases e;exact b
def Re.bot(h:Re w (M #[Y Z s,O a m c,Y Z s2,O a2 m2 c2]) q):Cd w (M #[Y Z s2,O a2 m2 c2]) (q.den:Int)\/(s2=0/\q.den=1):=by obtain⟨s,a,m,c,s2,a2,m2,c2,e,d,b⟩:=h;cases e;exact b
def Re.mk(b:Cd w (M #[Y Z s,O a m c]) q.num)(d:Cd w (M #[Y Z s2,O a2 m2 c2]) (q.den:Int)):Re w (M #[Y Z s,O a m c,Y Z s2,O a2 m2 c2]) q:=
 ⟨_,_,_,_,_,_,_,_,rfl,b,.inl d⟩
def Re.zero w:Re w (M #[Y Z 0,O X 0 0,Y Z 0,O X 0 0]) 0:=⟨_,_,_,_,_,_,_,_,rfl,Cd.nil w,.inr ⟨rfl,rfl⟩⟩
end
def Ph(w:V)(q:Rat)(e:Ending)(w':V):Prop:=∃r,e=.returned r/\Re w' r q/\Ba w w'
def vh:Nat:=100000
def rJ(q:Rat):(q.den:Int).sign=1:=Int.sign_eq_one_of_pos (Xg q)
def po w v q(h:Re w v q):Calls Tryz.prog 181 #[v] w (Zh w (q.den:Int)):=by
 obtain⟨s,a,m,c,s2,a2,m2,c2,rfl⟩:=h.form;rcases h.bot with b|⟨rfl,b⟩
 ·obtain rfl:s2=1:=by rw[b.sgn,rJ]
  go_in;go_wp2;exact bR (v:=M #[Y Z 1,O a2 m2 c2]) (by simp[results,Tryz.results181,go_sem]) rfl ⟨_,rfl,b.ext eA,eA⟩
 ·rw[b];clear b;go_in;go_wp2_with(go_at_call 208;(with_reducible refine(Oo _ 1 dM dM).mono ?_);rintro e t ⟨r,rfl,d,i⟩;obtain⟨p,k,o,l,rfl,-⟩:=d.j;obtain⟨⟨g,n⟩,j,f⟩:=Nb w i);exact bR (v:=M #[Y Z p,O k o l]) (by simp[results,Tryz.results181,go_sem,g,f]) rfl ⟨_,rfl,d.keep kA,eA⟩
def FQ w v q(h:Re w v q):Calls Tryz.prog 95 #[v] w fun e w'=>e=.returned (Y Z q.num.sign)/\Ba w w':=by obtain⟨s,a,m,c,s2,a2,m2,c2,rfl⟩:=h.form;have b:=h.top.sgn;have d:=za b;clear b;go_in;go_wp2;go_ret;exact⟨Uj (Ak d.o),eA⟩
def ZK w n(r:-9223372036854775808<=n)(t:n<=9223372036854775807):Calls Tryz.prog 174 #[Y Z n] w (Ph w (n:Rat)):=by go_in;go_wp2_with(first|(go_at_call 208;(with_reducible refine(Oo _ n r t).mono ?_);rintro e R ⟨K,rfl,b,l⟩;obtain⟨z,o,y,p,rfl,-⟩:=b.j;obtain⟨⟨j,u⟩,g⟩:=Jd w l)|(go_at_call 208;(with_reducible refine(Oo _ 1 dM dM).mono ?_);rintro e W ⟨L,rfl,d,f⟩;obtain⟨s2,a2,m2,c2,rfl,-⟩:=d.j;obtain⟨⟨k,x⟩,i⟩:=Jd w f));exact bR (v:=M #[Y Z z,O o y p,Y Z s2,O a2 m2 c2]) (by simp[results,Tryz.results174,go_sem,j,k,g,i]) rfl ⟨_,rfl,Re.keep (Re.mk (q:=(n:Rat)) (b.ext f) d) kA,eA⟩
def LU(w:V)(q:Rat)(W:V):Prop:=
 ∃n d:Int,0<d/\Rat.divInt n d=q/\Lm Ad n/\Lm Ad d/\NB W w.heap.size n/\NB W (w.heap.size+1) d/\Ba w W/\
  W.heap[w.heap.size+1+1]?=I (N #[Y Z 0,O X 0 0,Y Z 0,O X 0 0] 165 (0,0))
def KU(w:V)(q:Rat)(W:V):Prop:=
 NB W w.heap.size q.num/\NB W (w.heap.size+1) (q.den:Int)/\Ba w W/\
  W.heap[w.heap.size+1+1]?=I (N #[Y Z 0,O X 0 0,Y Z 0,O X 0 0] 165 (0,0))
def Vs{W b b' n g}(h:NB W b n)(f:NB W b' g)(d:b≠b') u v:NB ((W.setCell ⟨b',0,X⟩ u).setCell ⟨b',1,X⟩ v) b n:=
 (h.other (p:=⟨b',0,X⟩) (fun e=>d e.symm) f.not _).other (p:=⟨b',1,X⟩) (fun e=>d e.symm) (f.not.set _ _) _
def pq{W:V}{b b' o}(h:W.heap[b]?=I o)(d:b≠b') u v:((W.setCell ⟨b',0,X⟩ u).setCell ⟨b',1,X⟩ v).heap[b]?=I o:=by rw[bS _ _ _ _ d,bS _ _ _ _ d];exact h
def Jv{w W b}(h:Ba w W)(d:w.heap.size<=b) u v:Ba w ((W.setCell ⟨b,0,X⟩ u).setCell ⟨b,1,X⟩ v):=(h.set (p:=⟨b,0,X⟩) d _).set (p:=⟨b,1,X⟩) d _
def oy w va vb na nb(ha:Cd w va na)(hb:Cd w vb nb)(aW:Lm Ad na)(aX:Lm Ad nb)(hd:nb≠0):Calls Tryz.prog 209 #[va,vb] w (Ph w (Rat.divInt na nb)):=by
 obtain⟨s,a,m,c,rfl,hs⟩:=ha.j;obtain⟨s',a',m',c',rfl,a5⟩:=hb.j;obtain⟨q,hq⟩:=gX (Rat.divInt na nb);rw[hq];have Hq:=za hq;have ao:=za aW;have ap:=za aX;have av:=za a5;clear hs a5 hq aW aX;go_in;go_upto_if 8 with fail;obtain⟨W0,b⟩:=gX (((w.alloc (N #[Y Z s,O a m c] 163)).alloc (N #[Y Z s',O a' m' c'] 163)).alloc (N #[Y Z 0,O X 0 0,Y Z 0,O X 0 0] 165));have X0:Ba w W0:=by rw[<-b];exact(((eR w).alloc _).alloc _).alloc _
 have aC:NB W0 w.heap.size na:=by rw[<-b];exact(NB.new (W0:=w) ha rfl).ext (((eR _).alloc _).alloc _)
 have aD:NB W0 (w.heap.size+1) nb:=by rw[<-b];exact(NB.new (W0:=w.alloc (N #[Y Z s,O a m c] 163)) (hb.ext ((eR _).alloc _)) sM).ext ((eR _).alloc _)
 have aj:W0.heap[w.heap.size+1+1]?=I (N #[Y Z 0,O X 0 0,Y Z 0,O X 0 0] 165 (0,0)):=by rw[<-b];exact mc _ _ _ sM
 have p0:W0.cell? ⟨w.heap.size,0,X⟩=I (Y Z s):=by rw[<-b];clear b;go_simp
 have p1:W0.cell? ⟨w.heap.size,1,X⟩=I (O a m c):=by rw[<-b];clear b;go_simp
 have q0:W0.cell? ⟨w.heap.size+1,0,X⟩=I (Y Z s'):=by rw[<-b];clear b;go_simp
 have q1:W0.cell? ⟨w.heap.size+1,1,X⟩=I (O a' m' c'):=by rw[<-b];clear b;go_simp
 have f0:W0.frozen? ⟨w.heap.size,0,X⟩=false:=by rw[<-b];clear b;go_simp
 have f1:W0.frozen? ⟨w.heap.size,1,X⟩=false:=by rw[<-b];clear b;go_simp
 have f2:W0.frozen? ⟨w.heap.size+1,0,X⟩=false:=by rw[<-b];clear b;go_simp
 have f3:W0.frozen? ⟨w.heap.size+1,1,X⟩=false:=by rw[<-b];clear b;go_simp
 have z0:=Ya aj;have z1:w.heap.size<W0.heap.size:=oM;have z2:w.heap.size+1<W0.heap.size:=oM;rw[b];clear b;go_cut [5] (fun _ W=>LU w q W)
 case first =>
  by_cases bA:nb<0
  ·have bj:s'<0:=by
    have:=av.o;rcases vi nb with ⟨e,h⟩|⟨e,h⟩|⟨e,h⟩<;>omega
   go_wp2;refine Ti (fun i=>decide (3<i)) (Da [(⟨w.heap.size,0,X⟩,Y Z s),(⟨w.heap.size,1,X⟩,O a m c),(⟨w.heap.size+1,0,X⟩,Y Z s'),(⟨w.heap.size+1,1,X⟩,O a' m' c')]) kM ?_ (fun o=>?_)
   ·exact cA
   refine so (i:=0) ?_;refine so (i:=2) ?_;refine Ed (i:=1) fun K R=>?_;go_simp;(with_reducible refine cM (Dt _ (M #[Y Z s,O a m c]) na (ha.ext X0.drew)) ?_);rintro e w1 ⟨r1,rfl,L,ag⟩;obtain⟨s1,a1,m1,c1,rfl,-⟩:=L.j;go_wp2;refine kO R (fun _=>cE o ag) (fun o=>?_);clear R K;replace o:=o rfl;refine Ed (i:=3) fun K R=>?_;go_simp;(with_reducible refine cM (Dt _ (M #[Y Z s',O a' m' c']) nb (hb.ext (X0.drew.trans ag))) ?_);rintro e w2 ⟨r2,rfl,a0,az⟩;obtain⟨s2,a2,m2,c2,rfl,-⟩:=a0.j;go_wp2;refine kO R (fun _=>cE o az) (fun o=>?_);clear R K;replace o:=o rfl;have X2:Ba W0 w2:=(eR W0).drew.trans (ag.trans az);have y1:w.heap.size<w2.heap.size:=X2.lt z1;have y2:w.heap.size+1<w2.heap.size:=X2.lt z2;obtain⟨bs,bv⟩:=X2.cells;refine Ed (i:=4) fun K R=>?_;go_simp;refine kO R (fun h=>nomatch h) (fun o=>?_);clear R K;refine Ed (i:=5) fun K R=>?_;go_simp;refine kO R (fun h=>nomatch h) (fun o=>?_);clear R K;refine Ub kM ?_ _;go_wp2;go_meet;have ae:=aC.ext X2;have a7:=aD.ext X2;refine⟨-na,-nb,by omega,by rw[Rat.neg_divInt_neg];exact Hq.o,ao.o.neg,ap.o.neg,?_,?_,?_,?_⟩
   ·exact Vs (ae.put (L.ext az)) (Vs a7 ae oM _ _) oM _ _
   ·exact(Vs a7 ae oM _ _).put (a0.keep (((Ja.refl _ w2).y ae.not _).y (ae.not.set _ _) _))
   ·exact Jv (Jv (X0.trans X2) oM _ _) oM _ _
   ·exact pq (pq (X2.e aj) oM _ _) oM _ _
  ·have bj:¬s'<0:=by
    have:=av.o;rcases vi nb with ⟨e,h⟩|⟨e,h⟩|⟨e,h⟩<;>omega
   go_wp2;go_meet;exact⟨na,nb,by omega,Hq.o,ao.o,ap.o,aC,aD,X0,aj⟩
 case rest =>
  clear aC aD aj p0 p1 q0 q1 f0 f1 f2 f3 z0 z1 z2 X0 Hq ao ap av ha hb hd;obtain⟨n,d,hd,hq,aZ,aY,hn,z,hx,f⟩:=hcut;obtain⟨r1,r2,r3,r4,r5⟩:=kE (n:=n) (d:=d) oM;unfold rg at r1 r2 r3 r4 r5;rw[if_neg oM]at r1 r2 r3 r4 r5;rw[hq]at r4 r5;obtain⟨g,hg⟩:=gX ((Int.gcd n d:Int));rw[hg]at r1 r2 r3 r4 r5;have bz:0<g:=oM;have aw:Lm Ad g:=by
   have:g<=d:=Int.le_of_dvd hd r3;unfold Lm at *;omega
  have Hg:=za hg;have R4:=za r4;have R5:=za r5;have aM:=za aZ;have aJ:=za aY;have aK:=za aw;have aL:Ua (Lm Dc g):=za (aw.mono dM);have aI:Ua (Lm Dc 1):=za (qr dM);have Hn:=za hn;have aO:=za z;have al:=za f;obtain⟨sx,ax,mx,cx,bk,x0,x1,aE,aF,x2,aA⟩:=hn.rd;obtain⟨sy,ay,my,cy,bl,y0,y1,aG,aH,y2,aB⟩:=z.rd;clear hg r1 r2 r3 r4 r5 aZ aY aw hn z f bk bl;go_upto_region 4 with (go_at_call 248;(with_reducible refine(AM _ (M #[Y Z sx,O ax mx cx]) (M #[Y Z sy,O ay my cy]) n d aA aB aM.o aJ.o).mono ?_);rw[Hg.o];rintro e w3 ⟨r3,rfl,t,ah⟩;obtain⟨s3,a3,m3,c3,rfl,-⟩:=t.j;obtain⟨bc,bg⟩:=ah.cells);obtain⟨r,p⟩:=gX (w3.alloc (N #[Y Z s3,O a3 m3 c3] 163));have x:Ba wc r:=by rw[<-p];exact ah.alloc _
  have n3:NB r w.heap.size n:=Hn.o.ext x;have d3:NB r (w.heap.size+1) d:=aO.o.ext x;have g3:NB r w3.heap.size g:=by rw[<-p];exact NB.new t rfl
  have e0:=x.d x0;have e1:=x.d x1;have e2:=x.d y0;have e3:=x.d y1;have aP:r.frozen? ⟨w.heap.size,0,X⟩=false:=(x.cells.2 _ _ x2).trans aE;have aQ:r.frozen? ⟨w.heap.size,1,X⟩=false:=(x.cells.2 _ _ x2).trans aF;have aR:r.frozen? ⟨w.heap.size+1,0,X⟩=false:=(x.cells.2 _ _ y2).trans aG;have aS:r.frozen? ⟨w.heap.size+1,1,X⟩=false:=(x.cells.2 _ _ y2).trans aH;have e4:r.cell? ⟨w3.heap.size,0,X⟩=I (Y Z s3):=by rw[<-p];clear p;go_simp
  have e5:r.cell? ⟨w3.heap.size,1,X⟩=I (O a3 m3 c3):=by rw[<-p];clear p;go_simp
  have ab:Cd r (M #[Y Z s3,O a3 m3 c3]) g:=by rw[<-p];exact t.ext ((eR _).alloc _)
  have zg:w3.heap.size<r.heap.size:=by rw[<-p];simp
  have zl:wc.heap.size<=w3.heap.size:=ah.size;have zr:=Ya al.o;have zw:w.heap.size<r.heap.size:=oM;have ak:w.heap.size+1<r.heap.size:=oM;obtain⟨gg,aV⟩:=gX w3.heap.size;rw[p];rw[aV]at g3 e4 e5 zg zl ⊢;obtain⟨T,hT⟩:=gX ((g-1).sign);have aU:0<T ↔ 1<g:=by
   rw[<-hT];rcases vi (g-1)with ⟨e,h⟩|⟨e,h⟩|⟨e,h⟩<;>omega
  have HT:=za hT;clear p aV bc bg t ah x0 x1 aE aF x2 y0 y1 aG aH y2 hT;go_cut [19] (fun bm W=>bm=H (decide (1<g))/\Ba r W)
  case first =>
   go_region_held3 (fun W=>W.cell? ⟨gg,0,X⟩=I (Y Z s3)/\W.cell? ⟨gg,1,X⟩=I (O a3 m3 c3)) ((repeat' (with_reducible refine And.intro ?_ ?_))<;>(first|(go_simp;done)|(refine ag.d ?_;go_simp;done))) (first|(go_at_call 208;(with_reducible refine(Oo _ 1 dM dM).mono ?_);rintro e w4 ⟨r4,rfl,ac,ai⟩;obtain⟨s4,a4,m4,c4,rfl,-⟩:=ac.j;obtain⟨bt,bw⟩:=tp ai;(have z4:gg<w4.heap.size:=ai.lt zg))|(go_at_call 179;(with_reducible refine(ID _ (M #[Y Z s3,O a3 m3 c3]) (M #[Y Z s4,O a4 m4 c4]) g 1 ?_ ac aL.o aI.o).mono ?_);(refine ab.ext ?_;exact(eR r).drew.trans ai);rw[HT.o];rintro e y ⟨rfl,j⟩;obtain⟨be,bh⟩:=tp j;(have z5:gg<y.heap.size:=j.lt z4)))
   all_goals go_wp2
   go_meet;exact⟨by simp[aU],(eR r).drew.trans (ai.trans j)⟩
  case rest =>
   obtain⟨rfl,l⟩:=hcut;have n4:=n3.ext l;have d4:=d3.ext l;have g4:=g3.ext l;have b0:=l.d e0;have b1:=l.d e1;have b2:=l.d e2;have b3:=l.d e3;have b4:=l.d e4;have b5:=l.d e5;have u0:w.heap.size<wc.heap.size:=l.lt zw;have u1:w.heap.size+1<wc.heap.size:=l.lt ak;have u2:gg<wc.heap.size:=l.lt zg;have am:=aA.ext (x.trans l);have an:=aB.ext (x.trans l);have aa:=ab.ext l;have XW:Ba w wc:=hx.trans (x.trans l);have ac:=(x.trans l).e al.o;have au:=za ac;have bb:Ua (∀(y:V)(k:Ba wc y)(u v:J),Cd ((y.setCell ⟨w.heap.size,0,X⟩ u).setCell ⟨w.heap.size,1,X⟩ v) (M #[Y Z sy,O ay my cy]) d):=za fun y k u v =>
    (an.ext k).keep (((Ja.refl _ y).y (n4.ext k).not _).y ((n4.ext k).not.set _ _) _)
   have ba:Ua (∀(y:V)(k:Ba wc y)(u v:J),Cd ((y.setCell ⟨w.heap.size,0,X⟩ u).setCell ⟨w.heap.size,1,X⟩ v) (M #[Y Z s3,O a3 m3 c3]) g):=za fun y k u v =>
    (aa.ext k).keep (((Ja.refl _ y).y (n4.ext k).not _).y ((n4.ext k).not.set _ _) _)
   have ar:=za n4;have aq:=za d4;have bn:wc.frozen? ⟨w.heap.size,0,X⟩=false:=(l.cells.2 _ _ zw).trans aP;have bo:wc.frozen? ⟨w.heap.size,1,X⟩=false:=(l.cells.2 _ _ zw).trans aQ;have bp:wc.frozen? ⟨w.heap.size+1,0,X⟩=false:=(l.cells.2 _ _ ak).trans aR;have bq:wc.frozen? ⟨w.heap.size+1,1,X⟩=false:=(l.cells.2 _ _ ak).trans aS;have ug:w.heap.size+1+1<gg:=oM;have bC:¬gg=w.heap.size:=oM;have bD:¬w.heap.size=gg:=oM;clear n3 d3 g3 n4 d4 ac e0 e1 e2 e3 e4 e5 aP aQ aR aS x l aA aB ab Hn aO zw ak zg zl zr g4 aU;go_upto_if 19 with fail;go_cut [20] (fun _ W=>KU w q W)
   case first =>
    by_cases aT:1<g
    ·(have kg:decide (1<g)=true:=by simpa using aT);go_wp2_with(first|(go_at_call 249;(with_reducible refine(Iv _ (M #[Y Z sx,O ax mx cx]) (M #[Y Z s3,O a3 m3 c3]) n g am aa aM.o aK.o oM).mono ?_);rintro e y ⟨r1,r2,rfl,L,-,j⟩;rw[R4.o]at L;obtain⟨s1,a1,m1,c1,rfl,-⟩:=L.j;obtain⟨be,bh⟩:=j.cells;(have z5:w.heap.size<y.heap.size:=j.lt u0);(have bI:w.heap.size+1<y.heap.size:=j.lt u1);(have br:gg<y.heap.size:=j.lt u2))|(go_at_call 249;(with_reducible refine(Iv _ (M #[Y Z sy,O ay my cy]) (M #[Y Z s3,O a3 m3 c3]) d g (bb.o _ j _ _) (ba.o _ j _ _) aJ.o aK.o oM).mono ?_);rintro e w6 ⟨r3,r4,rfl,t,-,ad⟩;rw[R5.o]at t;obtain⟨s6,a6,m6,c6,rfl,-⟩:=t.j;obtain⟨bu,bx⟩:=ad.cells));go_meet;have k1:=ar.o.ext j;have k2:=Vs (aq.o.ext j) k1 (show w.heap.size+1≠w.heap.size by omega) (Y Z s1) (O a1 m1 c1);have k3:=(k1.put L).ext ad;have k4:=k2.ext ad;refine⟨Vs k3 k4 oM _ _,k4.put t,Jv ((Jv (XW.trans j) oM _ _).trans ad) oM _ _,pq (ad.e (pq (j.e au.o) oM _ _)) oM _ _⟩
    ·(have kg:decide (1<g)=false:=by simpa using aT);obtain rfl:g=1:=oM;go_wp2;go_meet;have e1:=R4.o;have e2:=R5.o;rw[Int.ediv_one]at e1 e2;exact⟨e1▸ar.o,e2▸aq.o,XW,au.o⟩
   case rest =>
    clear u0 u1 u2 bn bo bp bq b0 b1 b2 b3 b4 b5 XW au ar aq am an aa;obtain⟨hn,z,bB,f⟩:=hcut;obtain⟨s8,a8,m8,c8,-,x0,x1,aE,aF,x2,bi⟩:=hn.rd;obtain⟨s9,a9,m9,c9,-,y0,y1,aG,aH,y2,bf⟩:=z.rd;have r0:=Aa f 0 (Y Z 0);have r1:=Aa f 1 (O X 0 0);have r2:=Aa f 2 (Y Z 0);have r3:=Aa f 3 (O X 0 0);have bE:=Za f 0;have bF:=Za f 1;have bG:=Za f 2;have bH:=Za f 3;have rz:=Ya f;(have af:ud 3 wc (w.heap.size+1+1):=by intro cs fr e;rw[f]at e;cases e);clear hn z f;go_wp2;refine bR (v:=M #[Y Z s8,O a8 m8 c8,Y Z s9,O a9 m9 c9]) (by simp[results,Tryz.results209,go_sem,rz,r0,r1,r2,r3]) rfl ⟨_,rfl,Re.keep (Re.mk bi bf) ?_,eA⟩;exact((((Ja.refl _ wc).y af _).y (af.set _ _) _).y ((af.set _ _).set _ _) _).y (((af.set _ _).set _ _).set _ _) _
end
section
open Go.RowKit Go.Shelf Go.Sort Go.Lib
def Ys{g}(h:Bb g=true):ke g:=by unfold Bb at h;rw[Bool.and_eq_true,List.all_eq_true]at h;obtain⟨d,l⟩:=h;unfold Ra at d;simp at d;refine⟨fun e=>by subst e;simp at d,fun p n=>?_,by omega⟩;obtain⟨i,k,rfl⟩:=List.mem_iff_getElem.1 n;have b:=l i (List.mem_range.2 k);unfold Pf at b;rw[gD,gE k,Option.getD_some]at b;simp only[Bool.and_eq_true,Bool.not_eq_true']at b;have f:=b.1;have j:=b.2.1;unfold Uc at f j;simp at f j;constructor<;>(unfold Bd;omega)
def ve(g:LP)(p:Pl):Bool:=decide (ub g<=ub (Ga p))&&decide (Wb (Ga p)<=Wb g)
def Kf(g:LP)(ps:List Pl)(p:Pl):Bool:=We (Ga p) g&&!ps.any (Vf p)
def Ma{T k α P w v}{xs:List α}(h:Sl T k P w v xs):∃a n c,v=O a n c:=by obtain⟨a,c,h⟩:=h.form;exact⟨a,_,c,h⟩
def GT w l i ps b(t:∃a n c,l=O a n c)(h:od w i ps):Calls Tryz.prog 115 #[M #[l,i],.string b] w fun e w'=>e=.returned (H (ps.any (oh b)))/\Ba w w':=by obtain⟨R,gn,gc,rfl⟩:=t;have g:=fun W (r:Ba w W) (d:Nat) (z:W.cell? ⟨d,0,X⟩=I (.string b))=>RP W i ps d (oh b) (h.f r) (fun W' f L p _ y=>WM W' L p b d y (f.d z));obtain⟨a,n,c,rfl⟩:=Ma h;obtain⟨x,k⟩:=gX (ps.any (oh b));simp only[k]at g ⊢;have o:=za g;clear g k h;have u:∀(j:Fn)(first cap:Array J)(w:V),(Instr.makeFunc j first cap).run Tryz.prog w = .ok (.func j first cap) w:=fun _ _ _ _=>rfl;go_in;go_wp2_with(((go_at_call 159;refine cM (o.o _ eA _ ?_) ?_;(focus(go_simp;done));rintro e w1 ⟨rfl,K⟩)));go_ret;exact⟨rfl,eA⟩
def jQ w L R vp g ps p(r:Ia w L g)(h:od w R ps)(hp:Sg w vp p)(k0:ke g)(k1:∀q∈ps,Fa q=true)(x:Fa p=true):Calls Tryz.prog 116 #[M #[L,R],vp] w fun e w'=>e=.returned (H (Kf g ps p))/\Ba w w':=by
 obtain⟨s1,y,u1,rfl,z,k,K⟩:=hp;have j:=za (fun W (f:Ba w W) (o:Nat) (hq:W.heap[o]?=I (N (tf p s1 y u1) 202 (0,0)))=>VP W R ps o (Vf p) (h.f f) (fun W' b vq q u t=>UM W' vq q p o s1 y u1 t ⟨b.e hq,z.f (f.trans b),k.f (f.trans b),K.f (f.trans b)⟩ (k1 q u) x));have l:=za (fun W (f:Ba w W)=>qy W y L (Ga p) g (k.f f) (r.f f) (Dl x).1 k0);obtain⟨ga,gn,gc,rfl⟩:=Ma r;obtain⟨a,n,c,rfl⟩:=Ma h;obtain⟨ae,ag,af,rfl⟩:=Ma z;obtain⟨a1,n1,c1,rfl⟩:=Ma k;obtain⟨ah,aj,ai,rfl⟩:=Ma K;obtain⟨fr,f1⟩:=gX (We (Ga p) g);obtain⟨cl,f2⟩:=gX (ps.any (Vf p));unfold Kf;rw[f1]at l ⊢;rw[f2]at j ⊢;obtain⟨nm,sh,d,de,gx,gz,wy,ax,az,sk⟩:=p;clear f1 f2 r h z k K k0 k1 x;unfold tf at j ⊢;dsimp only at j ⊢;have ac:∀(fn:Fn)(first cap:Array J)(w:V),(Instr.makeFunc fn first cap).run Tryz.prog w = .ok (.func fn first cap) w:=fun _ _ _ _=>rfl;cases fr with
 |false=>
  go_in;go_wp2_with(go_at_call 161;refine cM (l.o _ eA) ?_;rintro e w1 ⟨rfl,i⟩);go_ret;exact⟨rfl,eA⟩
 |true=>
  go_in;go_wp2_with(first|(go_at_call 161;refine cM (l.o _ eA) ?_;rintro e w1 ⟨rfl,i⟩;obtain⟨aa,ab⟩:=i.cells)|(go_at_call 159;refine cM (j.o _ eA _ ?_) ?_;(exact i.e (mc _ _ _ sM));rintro e w2 ⟨rfl,ad⟩));go_ret;exact⟨rfl,eA⟩
def rP w u vs vp g p(r:Ia w u g)(h:∃a n c,vs=O a n c)(hp:Sg w vp p)(K:ke g)(k2:Fa p=true):Calls Tryz.prog 114 #[M #[u,vs],vp] w fun e w'=>e=.returned (H (ve g p))/\Ba w w':=by
 obtain⟨s1,l1,u1,rfl,p1,t,p3⟩:=hp;have L:=(Dl k2).1;have HA:=za (fun(W:V)(f:Ba w W)=>Yp W u g (r.f f) (List.length_pos_iff.2 K.1));have HB:=za (fun(W:V)(f:Ba w W)=>Yp W l1 (Ga p) (t.f f) (List.length_pos_iff.2 L.1));have HC:=za (fun(W:V)(f:Ba w W)=>Kr W l1 (Ga p) (t.f f) (List.length_pos_iff.2 L.1));have HD:=za (fun(W:V)(f:Ba w W)=>Kr W u g (r.f f) (List.length_pos_iff.2 K.1));obtain⟨ga,gn,gc,rfl⟩:=Ma r;obtain⟨a,n,c,rfl⟩:=h;obtain⟨aa,ac,ab,rfl⟩:=Ma p1;obtain⟨a1,n1,c1,rfl⟩:=Ma t;obtain⟨ad,af,ae,rfl⟩:=Ma p3;unfold ve;obtain⟨y,f1⟩:=gX (ub g);obtain⟨gr,f2⟩:=gX (Wb g);obtain⟨R,f3⟩:=gX (ub (Ga p));obtain⟨pr,f4⟩:=gX (Wb (Ga p));simp only[f1,f2,f3,f4]at HA HB HC HD ⊢;obtain⟨nm,sh,d,de,gx,gz,wy,ax,az,sk⟩:=p;clear f1 f2 f3 f4 r p1 t p3 K k2 L;unfold tf;dsimp only;go_in;go_wp2;refine jd [(⟨w.heap.size,0,X⟩,O ga gn gc),(⟨w.heap.size+1,10,X⟩,O a1 n1 c1)] cA fun b=>?_;refine sN 0 ?_
 iterate 2 refine Db ?_
 refine oN ?_;refine sN 3 ?_
 iterate 2 refine Db ?_
 refine oN ?_;refine Ac (i:=2) (HA.o _ eA) ?_;rintro e w3 ⟨rfl,z⟩;refine⟨_,rfl,(cE b z),fun b=>?_⟩;have X3:Ba w w3:=eA;refine Ac (i:=5) (HB.o _ X3) ?_;rintro e w4 ⟨rfl,j⟩;refine⟨_,rfl,(cE b j),fun b=>?_⟩;have x:=X3.trans j;refine sN 6 ?_
 iterate 2 refine Db ?_
 refine oN ?_;by_cases g1:y<=R
 ·have o:decide (y<=R)=true:=by simpa using g1
  rw[o];refine sN 8 ?_
  iterate 2 refine Db ?_
  refine oN ?_;refine sN 11 ?_
  iterate 2 refine Db ?_
  refine oN ?_;refine Ac (i:=10) (HC.o _ x) ?_;rintro e w5 ⟨rfl,k⟩;refine⟨_,rfl,(cE b k),fun b=>?_⟩;have X5:=x.trans k;refine Ac (i:=13) (HD.o _ X5) ?_;rintro e w6 ⟨rfl,l⟩;refine⟨_,rfl,(cE b l),fun b=>?_⟩;have X6:=X5.trans l;refine sN 14 ?_
  iterate 3 refine Db ?_
  refine oN ?_;refine Pb ?_;go_wp2;go_ret;exact⟨by rw[o];rfl,X6⟩
 ·have o:decide (y<=R)=false:=by simpa using g1
  rw[o];refine sN 8 ?_
  iterate 2 refine Ze ?_
  refine oN ?_;refine sN 11 ?_
  iterate 2 refine Ze ?_
  refine oN ?_;refine Pa (i:=10) ?_;refine sN 13 ?_
  iterate 2 refine Ze ?_
  iterate 2 refine Db ?_
  refine oN ?_;refine Pb ?_;go_wp2;go_ret;exact⟨by simp,x⟩
def Mf(g:LP)(done:List Pl)(p:Pl):Int:=if Fa p then (if ve g p then (if done.any (oh p.name)then 7 else 0)else 2)else 2
def Vc(g:LP):List Pl->List Pl->Int
 | _,[]=>0
 | done,p::r=>if Mf g done p=0 then Vc g (done++[p]) r else Mf g done p
def Sf(g:LP):List Pl->List Pl->Int
 | _,[]=>0
 | done,p::r=>if Kf g done p then Sf g (done++[p]) r else 12
def Eb(g:LP)(ps:List Pl):Int:=if Bb g then (if 120<ps.length then 5 else if Vc g [] ps=0 then Sf g [] ps else Vc g [] ps)else 2
def Vv{α:Type}{ps:List α}{i p}(h:ps[i]?=I p):ps.drop i=p::ps.drop (i+1):=by obtain⟨b,rfl⟩:=lS.1 h;exact List.drop_eq_getElem_cons b
def yF{g}{ps:List Pl}{i p}(h:ps[i]?=I p)(b:Mf g (ps.take i) p=0):Vc g (ps.take i) (ps.drop i)=Vc g (ps.take (i+1)) (ps.drop (i+1)):=by rw[Vv h,ze _ _ _ h,Vc,if_pos b]
def Pv{g}{ps:List Pl}{i p}(h:ps[i]?=I p)(b:Mf g (ps.take i) p≠0):Vc g (ps.take i) (ps.drop i)=Mf g (ps.take i) p:=by rw[Vv h,Vc,if_neg b]
def xF{g}{ps:List Pl}{i p}(h:ps[i]?=I p)(b:Kf g (ps.take i) p=true):Sf g (ps.take i) (ps.drop i)=Sf g (ps.take (i+1)) (ps.drop (i+1)):=by rw[Vv h,ze _ _ _ h,Sf,if_pos b]
def vF{g}{ps:List Pl}{i p}(h:ps[i]?=I p)(b:Kf g (ps.take i) p=false):Sf g (ps.take i) (ps.drop i)=12:=by rw[Vv h,Sf,b];rfl
def oe(w:V)(base:Nat)(v:J)(ps:List Pl):Prop:=∃cs,Ea 202 12 w base v cs/\cs.length=ps.length/\∀(i:Nat) c p,cs[i]?=I c->ps[i]?=I p->Bm w c p
def oe.las{w base v ps}(h:oe w base v ps):od w v ps:=by obtain⟨f,b,d,e⟩:=h;exact b.sl d e
def oe.ext{w w' base v ps}(h:oe w base v ps)(k:Ba w w'):oe w' base v ps:=by obtain⟨b,d,e,f⟩:=h;exact⟨b,d.ext k,e,fun i c p g j=>(f i c p g j).ext k⟩
def oe.nil w base:oe w base (O X 0 0) []:=⟨[],Ea.nil _ _ _ _,rfl,fun i c p b=>by simp at b⟩
def oe.i{w base v ps}(h:oe w base v ps):∃a n c,v=O a n c:=by obtain⟨d,b,_⟩:=h;exact b.i
def oe.setOther{w base v ps q}(h:oe w base v ps)(k:v.ownBlock≠I q.block)(j:ud 91 w q.block) u:oe (w.setCell q u) base v ps:=by obtain⟨b,d,e,f⟩:=h;exact⟨b,d.setOther k u,e,fun i c p g l=>(f i c p g l).keep ((Ja.refl _ w).y j u)⟩
def oe.lt{w base v ps}(h:oe w base v ps):∀j,v.ownBlock=I j->base<=j/\j<w.heap.size:=by obtain⟨d,b,_⟩:=h;exact b.lt
def oe.app{wr f base k ps cs d p}(h:Ea 202 12 f base k (cs++[d]))(g:cs.length=ps.length)(j:∀(i:Nat) c p,cs[i]?=I c->ps[i]?=I p->Bm wr c p)(o:Ja 91 wr f)(l:Bm f d p):oe f base k (ps++[p]):=by
 refine⟨cs++[d],h,by simp[g],fun i c x b e=>?_⟩;by_cases n:i<cs.length
 ·rw[List.getElem?_append_left n]at b;rw[List.getElem?_append_left oM]at e;exact(j i c x b e).keep o
 ·rw[List.getElem?_append_right oM]at b e;have r:=(lS.1 b).1;simp at r;have:i-cs.length=0:=oM;rw[this]at b;rw[show i-ps.length=0 by omega]at e;simp at b e;subst b e;exact l
def TK:(Tryz.prog.info? 202).map (fun i=>(i.zero,i.size,i.bytes))=I (I (M Tt),12,152):=kM
def Mo(W:V) cs T:∀ j  u,[cs.toList].flatten[j]?=I u->(W.alloc (N cs T)).cell? ((⟨W.heap.size,0,X⟩:Addr).add j)=I u:=by
 intro j u b;rw[List.flatten_cons,List.flatten_nil,List.append_nil,Array.getElem?_toList]at b;have e:=Lb (aN W (N cs T)) b;unfold Addr.add;split
 ·subst j;exact e
 ·rw[show (⟨W.heap.size,0,X⟩:Addr).off+j=j by simp];exact e
def Am(w:V)(c:List J)(p:Pl):Prop:=∃v,c=(Dd p v).toList/\Ia w v p.shape/\0<=p.skin
def Am.ext{w w' c p}(h:Am w c p)(k:Ba w w'):Am w' c p:=by obtain⟨v,b,d,e⟩:=h;exact⟨v,b,d.f k,e⟩
abbrev ld(w:V)(v:J)(ps:List Pl):Prop:=Sl 95 10 Am w v ps
def ld.f{w w' v ps}(h:ld w v ps)(k:Ba w w'):ld w' v ps:=Sl.ext h (fun _ _ h=>Am.ext h k) k
def ld.at'{w a n c ps}(h:ld w (O a n c) ps){i p}(r:ps[i]?=I p):∃b o v,a=I ⟨b,o,X⟩/\b<w.heap.size/\Ia w v p.shape/\0<=p.skin/\∀(j:Nat) u,(Dd p v)[j]?=I u->w.cell? ⟨b,o+i*10+j,X⟩=I u:=by obtain⟨b,o,d,rfl,g,t,⟨v,rfl,e,f⟩,k⟩:=Sl.at h r;exact⟨b,o,v,rfl,g,e,f,fun j u l=>k j u (by rw[Array.getElem?_toList];exact l)⟩
def Pt:J:=M #[O X 0 0,O X 0 0]
def Bn(w:V)(b:J)(g:LP)(ps:List Pl)(e:Ending)(w':V):Prop:=
 (Eb g ps≠0/\e=.returned (F #[Pt,Y Z (Eb g ps)])/\Ba w w')\/(Eb g ps=0/\∃vs,e=.returned (F #[M #[b,vs],Y Z 0])/\od w' vs ps/\Ba w w')
def Tl(w:V)(d:Nat)(b e f:J)(W:V):Prop:=
 W.heap[w.heap.size]?=I (N #[b,e] 39 (0,0))/\W.heap[w.heap.size+1]?=I (N #[O X 0 0,O X 0 0] 149 (0,0))/\W.heap[d]?=I (N #[b,f] 149 (0,0))
def Tl.ext{w W W' b d e f}(h:Tl w b d e f W)(k:Ba W W'):Tl w b d e f W':=⟨k.e h.1,k.e h.2.1,k.e h.2.2⟩
def Tl.below{w W W' b d e f}(h:Tl w b d e f W)(k:Below (b+1) W W')(l:w.heap.size+1<b):Tl w b d e f W':=by obtain⟨g,i,j⟩:=h;exact⟨(k.block _ oM).trans g,(k.block _ oM).trans i,(k.block _ oM).trans j⟩
def Tl.put{w W b d e j}(h:Tl w b d e j W)(k:w.heap.size+1<b) v:Tl w b d e v (W.setCell ⟨b,1,X⟩ v):=by
 obtain⟨f,g,i⟩:=h;refine⟨?_,?_,?_⟩
 ·rw[bS _ _ _ _ dO];exact f
 ·rw[bS _ _ _ _ dO];exact g
 ·simp[World.setCell,Array.getElem?_modify,i]
def gV(w:V)(b:Nat)(f j:J)(g:LP)(ps:List Pl)(e:Nat)(t28:J)(W:V):Prop:=
 ∃(i:Nat)(d:J),i<=ps.length/\t28=Y Z i/\e=ps.length-i/\Ba w W/\b+1<=W.heap.size/\Tl w b f j d W/\oe W (b+1) d (ps.take i)/\Vc g [] ps=Vc g (ps.take i) (ps.drop i)/\∀p∈ps.take i,Fa p=true
def fV(w:V)(d:Nat)(j k:J)(e:J)(g:LP)(ps:List Pl)(f:Nat)(b:J)(W:V):Prop:=
 ∃i:Nat,i<=ps.length/\b=Y Z i/\f=ps.length-i/\Ba w W/\d+1<=W.heap.size/\Tl w d j k e W/\od W e ps/\Sf g [] ps=Sf g (ps.take i) (ps.drop i)
def Ba.isPts{w w' v ps}(h:Ia w v ps)(k:Ba w w'):Ia w' v ps:=h.f k
def MF w vg vp g ps(hg:Ia w vg g)(hp:ld w vp ps)(bq:Gw w):Calls Tryz.prog 83 #[M #[vg,vp]] w (Bn w vg g ps):=by
 have HG:=za (fun(W:V)(hW:Ba w W)=>gR W vg g (hg.f hW));have bb:=za (fun(W:V)(hW:Ba w W)=>hg.f hW);have bX:=za (fun(W:V)(hW:Ba w W)=>hp.f hW);have bQ:=za bq;obtain⟨ga,gn,gc,rfl⟩:=Ma hg;obtain⟨pa,pn,aY,rfl⟩:=Ma hp;have bs:=hp.len;have bt:=hp.le;obtain⟨R,hR⟩:=gX (Bn w (O ga gn gc) g ps);rw[hR];have HR:=za hR;have Hn:=za bs.symm;have ct:pn<=9223372036854775807:=by unfold maxLen at bt;omega
 clear hg hp bq bs bt hR;obtain⟨G,hG⟩:=gX (Bb g);have aw:=za hG;rw[hG]at HG;clear hG;cases G with
 |false=>
  have e:Eb g ps=2:=by unfold Eb;rw[aw.o];rfl
  have E:=za e;clear e;go_in;go_wp2_with(go_at_call 111;refine cM (HG.o _ eA) ?_;rintro e w3 ⟨rfl,ab⟩;obtain⟨ay,aB⟩:=ab.cells;have z3:=ab.size;simp only[wZ]at z3);have bz:w.heap.size<w3.heap.size:=oM;have bA:w.heap.size+1<w3.heap.size:=oM;refine bR (v:=F #[M #[O X 0 0,O X 0 0],Y Z 2]) (by simp[results,Tryz.results83,go_sem,ay,aB]) rfl ?_;rw[<-HR.o];exact .inl ⟨by rw[E.o];decide,by rw[E.o];rfl,eA⟩
 |true=>
  by_cases hn:120<pn
  ·have e:Eb g ps=5:=by unfold Eb;rw[aw.o,if_pos rfl,if_pos (by rw[Hn.o];exact hn)]
   have E:=za e;have cf:(120:Int)<(pn:Int):=oM;clear e hn;go_in;go_wp2_with(go_at_call 111;refine cM (HG.o _ eA) ?_;rintro e w3 ⟨rfl,ab⟩;obtain⟨ay,aB⟩:=ab.cells;have z3:=ab.size;simp only[wZ]at z3);have bz:w.heap.size<w3.heap.size:=oM;have bA:w.heap.size+1<w3.heap.size:=oM;refine bR (v:=F #[M #[O X 0 0,O X 0 0],Y Z 5]) (by simp[results,Tryz.results83,go_sem,ay,aB]) rfl ?_;rw[<-HR.o];exact .inl ⟨by rw[E.o];decide,by rw[E.o];rfl,eA⟩
  have e:Eb g ps=if Vc g [] ps=0 then Sf g [] ps else Vc g [] ps:=by unfold Eb;rw[aw.o,if_pos rfl,if_neg (by rw[Hn.o];exact hn)]
  have E:=za e;have cf:¬(120:Int)<(pn:Int):=oM;clear e;go_in;go_wp2_with(go_at_call 111;refine cM (HG.o _ eA) ?_;rintro e w3 ⟨rfl,ab⟩;obtain⟨ay,aB⟩:=ab.cells;have z3:=ab.size;simp only[wZ]at z3;have bz:w.heap.size<w3.heap.size:=oM;have bA:w.heap.size+1<w3.heap.size:=oM);obtain⟨d,aR⟩:=gX w3.heap.size;have bY:=za (show (w3.alloc (N #[O ga gn gc,O X 0 0] 149)).heap.size=d+1 by simp[aR]);have Hz:=za (show w.heap.size+1<d by omega);have hC:Tl w d (O ga gn gc) (O pa pn aY) (O X 0 0) (w3.alloc (N #[O ga gn gc,O X 0 0] 149)):=by
   have y:=(eR w3).alloc (N #[O ga gn gc,O X 0 0] 149);refine⟨y.e (ab.e ?_),y.e (ab.e (mc _ _ _ sM)),mc _ _ _ aR.symm⟩;rw[tg,if_neg sM];exact mc _ _ _ rfl
  have bi:Ba w w3:=eA;rw[aR]at *;clear ay aB ab;go_loopg [28] pn (gV w d (O ga gn gc) (O pa pn aY) g ps)
  case atStart =>
   exact⟨0,_,by omega,rfl,by rw[Hn.o];rfl,bi.alloc _,by rw[bY.o];omega,hC,oe.nil _ _,by simp,fun p h=>by simp at h⟩
  case round =>
   clear hC bi;obtain⟨i,vs,hi,rfl,rfl,hx,aS,hC,l,x,am⟩:=hrel;rw[Hn.o]at hi;obtain⟨va,vn,vc,rfl⟩:=l.i;have HC:=za hC;have ba:=za l;have Hx:=za hx;have bW:=za am;have bT:=za x;have k0:=Aa hC.2.1 0 (O X 0 0);have k1:=Aa hC.2.1 1 (O X 0 0);have kf:=Za hC.2.1;have m0:=Aa hC.2.2 0 (O ga gn gc);have m1:=Aa hC.2.2 1 (O va vn vc);have mf:=Za hC.2.2;have zb:d<wr.heap.size:=oM;have zw:w.heap.size+1<wr.heap.size:=by have:=Hz.o;omega
   by_cases aH:i<pn
   ·obtain⟨p,hq⟩:∃q,ps[i]?=I q:=⟨ps[i]'(by rw[Hn.o];omega),by simp[Hn.o,aH]⟩;obtain⟨b,o,v,rfl,hb,d1,dk,r⟩:=(bX.o _ hx).at' hq;have aF:=za d1;have au:=za (fun W (hW:Ba wr W)=>RF W p v (d1.f hW) dk);have aO:=za (fun W (hW:Ba wr W) (h:Fa p=true)=>ZS W p v (d1.f hW) h (bQ.o.ext (hx.trans hW)));obtain⟨aj,al,ak,rfl⟩:=Ma d1;have Hq:=za hq;obtain⟨ok,f1⟩:=gX (Fa p);have F1:=za f1;rw[f1]at au;have aQ:=r 0 (.string p.name) rfl;have bZ:=r 1 (O aj al ak) rfl;have b0:=r 2 (Y Z p.depth) rfl;have b1:=r 3 (Y Z p.density) rfl;have b2:=r 4 (Y Z p.gx) rfl;have b3:=r 5 (Y Z p.gz) rfl;have b5:=r 6 (Y Z p.way) rfl;have b6:=r 7 (Y Z p.ax) rfl;have b7:=r 8 (Y Z p.az) rfl;have b8:=r 9 (Y A p.skin) rfl;simp only[Nat.add_zero]at aQ;have cu:d<wr.heap.size+1:=oM;have cv:w.heap.size+1<wr.heap.size+1:=oM;obtain⟨er,hE⟩:=gX (Mf g (ps.take i) p);have aa:=hE;unfold Mf at aa;unfold Dd at au aO;cases ok with
    |false=>
     have e:Eb g ps=2:=by
      (have h2:Mf g (ps.take i) p=2:=by unfold Mf;rw[f1];rfl);(have h1:Vc g [] ps=2:=by rw[x,Pv hq (by rw[h2];decide),h2]);rw[E.o,h1];rfl
     have E2:=za e;clear e hE aa hq r f1 d1 hC x am l E;go_wp2_with(go_at_call 112;refine cM (au.o _ eA) ?_;rintro e n ⟨rfl,K⟩;obtain⟨aU,aX⟩:=K.cells;(have z5:=K.size);(try simp only[wZ,Yb]at z5);(have aZ:d<n.heap.size:=oM);(have a5:w.heap.size+1<n.heap.size:=oM);(have a4:w.heap.size+1<n.heap.size+1:=oM);(have a0:d<n.heap.size+1:=oM);(have a1:wr.heap.size<n.heap.size:=oM);(have a3:wr.heap.size<n.heap.size+1:=oM));have X5:Ba wr n:=eA;have K5:=X5.e HC.o.2.1;have x0:=Aa K5 0 (O X 0 0);have x1:=Aa K5 1 (O X 0 0);have xf:=Za K5;refine bR (v:=F #[M #[O X 0 0,O X 0 0],Y Z 2]) (by simp[results,Tryz.results83,go_sem,x0,x1,xf]) rfl ?_;rw[<-HR.o];exact .inl ⟨by rw[E2.o];decide,by rw[E2.o];rfl,eA⟩
    |true=>
     rw[f1,if_pos rfl]at aa;have aA:∀q∈ps.take i++[p],Fa q=true:=fun q hq=>by
      rcases List.mem_append.1 hq with h|h
      ·exact am q h
      ·rw[List.mem_singleton.1 h];exact f1
     have HO:=za (fun W (hW:Ba wr W)=>aO.o W hW f1);have HH:=za (fun(W:V)(hW:Ba wr W)(bx:J)(h2:Sg W bx p)=>rP W (O ga gn gc) (O va vn vc) bx g p (bb.o _ (hx.trans hW)) ⟨_,_,_,rfl⟩ h2 (Ys aw.o) f1);have HN:=za (fun(W:V)(hW:Ba wr W)=>GT W (O ga gn gc) (O va vn vc) (ps.take i) p.name ⟨_,_,_,rfl⟩ (l.las.f hW));obtain⟨bh,f2⟩:=gX (ve g p);obtain⟨bn,f3⟩:=gX ((ps.take i).any (oh p.name));rw[f2]at HH aa;rw[f3]at HN aa;have aP:=za aA;clear aA aO;cases bh with
     |false=>
      have e:Eb g ps=2:=by
       (have h2:Mf g (ps.take i) p=2:=by rw[hE,<-aa];rfl);(have h1:Vc g [] ps=2:=by rw[x,Pv hq (by rw[h2];decide),h2]);rw[E.o,h1];rfl
      have E2:=za e;clear e hE aa hq r f1 f2 f3 d1 hC x am l E;go_wp2_with(first|(go_at_call 112;refine cM (au.o _ eA) ?_;rintro e n ⟨rfl,K⟩;obtain⟨aU,aX⟩:=K.cells;(have z5:=K.size);(try simp only[wZ,Yb]at z5);(have aZ:d<n.heap.size:=oM);(have a5:w.heap.size+1<n.heap.size:=oM);(have a4:w.heap.size+1<n.heap.size+1:=oM);(have a0:d<n.heap.size+1:=oM);(have a1:wr.heap.size<n.heap.size:=oM);(have a3:wr.heap.size<n.heap.size+1:=oM))|(go_at_call 113;refine cM (HO.o _ eA) ?_;rintro e L ⟨vl,vu,rfl,an,ao,ap⟩;obtain⟨ac,af,ae,rfl⟩:=Ma an;obtain⟨ag,ai,ah,rfl⟩:=Ma ao;obtain⟨bk,bo⟩:=ap.cells;(have z6:=ap.size);(try simp only[wZ,Yb]at z6);(have bB:d<L.heap.size:=oM);(have bL:w.heap.size+1<L.heap.size:=oM);(have bJ:w.heap.size+1<L.heap.size+1:=oM);(have bD:d<L.heap.size+1:=oM);(have bF:wr.heap.size<L.heap.size:=oM);(have bH:wr.heap.size<L.heap.size+1:=oM);try unfold tf)|(go_at_call 114;refine cM (HH.o _ eA _ ?_) ?_;(exact⟨_,_,_,rfl,Ba.isPts (w:=wr) aF.o eA,an.f eA,ao.f eA⟩);rintro e w7 ⟨rfl,aq⟩;obtain⟨bl,bp⟩:=aq.cells;(have z7:=aq.size);(try simp only[wZ,Yb]at z7);(have bC:d<w7.heap.size:=oM);(have bM:w.heap.size+1<w7.heap.size:=oM);(have bK:w.heap.size+1<w7.heap.size+1:=oM);(have bE:d<w7.heap.size+1:=oM);(have bG:wr.heap.size<w7.heap.size:=oM);(have bI:wr.heap.size<w7.heap.size+1:=oM);(have bN:L.heap.size<w7.heap.size:=oM)));have X7:Ba wr w7:=eA;have K7:=X7.e HC.o.2.1;have x0:=Aa K7 0 (O X 0 0);have x1:=Aa K7 1 (O X 0 0);have xf:=Za K7;refine bR (v:=F #[M #[O X 0 0,O X 0 0],Y Z 2]) (by simp[results,Tryz.results83,go_sem,x0,x1,xf]) rfl ?_;rw[<-HR.o];exact .inl ⟨by rw[E2.o];decide,by rw[E2.o];rfl,eA⟩
     |true=>
      cases bn with
      |true=>
       have e:Eb g ps=7:=by
        (have h2:Mf g (ps.take i) p=7:=by rw[hE,<-aa];rfl);(have h1:Vc g [] ps=7:=by rw[x,Pv hq (by rw[h2];decide),h2]);rw[E.o,h1];rfl
       have E2:=za e;clear e hE aa hq r f1 f2 f3 d1 hC x am l E;go_wp2_with(first|(go_at_call 112;refine cM (au.o _ eA) ?_;rintro e n ⟨rfl,K⟩;obtain⟨aU,aX⟩:=K.cells;(have z5:=K.size);(try simp only[wZ,Yb]at z5);(have aZ:d<n.heap.size:=oM);(have a5:w.heap.size+1<n.heap.size:=oM);(have a4:w.heap.size+1<n.heap.size+1:=oM);(have a0:d<n.heap.size+1:=oM);(have a1:wr.heap.size<n.heap.size:=oM);(have a3:wr.heap.size<n.heap.size+1:=oM))|(go_at_call 113;refine cM (HO.o _ eA) ?_;rintro e L ⟨vl,vu,rfl,an,ao,ap⟩;obtain⟨ac,af,ae,rfl⟩:=Ma an;obtain⟨ag,ai,ah,rfl⟩:=Ma ao;obtain⟨bk,bo⟩:=ap.cells;(have z6:=ap.size);(try simp only[wZ,Yb]at z6);(have bB:d<L.heap.size:=oM);(have bL:w.heap.size+1<L.heap.size:=oM);(have bJ:w.heap.size+1<L.heap.size+1:=oM);(have bD:d<L.heap.size+1:=oM);(have bF:wr.heap.size<L.heap.size:=oM);(have bH:wr.heap.size<L.heap.size+1:=oM);try unfold tf)|(go_at_call 114;refine cM (HH.o _ eA _ ?_) ?_;(exact⟨_,_,_,rfl,Ba.isPts (w:=wr) aF.o eA,an.f eA,ao.f eA⟩);rintro e w7 ⟨rfl,aq⟩;obtain⟨bl,bp⟩:=aq.cells;(have z7:=aq.size);(try simp only[wZ,Yb]at z7);(have bC:d<w7.heap.size:=oM);(have bM:w.heap.size+1<w7.heap.size:=oM);(have bK:w.heap.size+1<w7.heap.size+1:=oM);(have bE:d<w7.heap.size+1:=oM);(have bG:wr.heap.size<w7.heap.size:=oM);(have bI:wr.heap.size<w7.heap.size+1:=oM);(have bN:L.heap.size<w7.heap.size:=oM))|(go_at_call 115;refine cM (HN.o _ eA) ?_;rintro e w8 ⟨rfl,aE⟩;obtain⟨cd,ce⟩:=aE.cells;(have z8:=aE.size);(try simp only[wZ,Yb]at z8);(have cg:d<w8.heap.size:=oM);(have cl:w.heap.size+1<w8.heap.size:=oM);(have ck:w.heap.size+1<w8.heap.size+1:=oM);(have ch:d<w8.heap.size+1:=oM);(have ci:wr.heap.size<w8.heap.size:=oM);(have cj:wr.heap.size<w8.heap.size+1:=oM);(have cm:L.heap.size<w8.heap.size:=oM)));have X8:Ba wr w8:=eA;have K8:=X8.e HC.o.2.1;have x0:=Aa K8 0 (O X 0 0);have x1:=Aa K8 1 (O X 0 0);have xf:=Za K8;refine bR (v:=F #[M #[O X 0 0,O X 0 0],Y Z 7]) (by simp[results,Tryz.results83,go_sem,x0,x1,xf]) rfl ?_;rw[<-HR.o];exact .inl ⟨by rw[E2.o];decide,by rw[E2.o];rfl,eA⟩
      |false=>
       (have h2:Mf g (ps.take i) p=0:=by rw[hE,<-aa];rfl);have e:=x.trans (yF hq h2);have E2:=za e;have bv:ps.take (i+1)=ps.take i++[p]:=ze _ _ _ hq;have bc:=za bv;obtain⟨cs,aW,aV,bm⟩:=l;have a6:=za aW;have bP:=za bm;have bO:=za aV;have bU:=za (show cs.length<=120 by rw[aV];simp;omega);have bV:=za (fun j (h:(Value.slice va vn vc).ownBlock=I j)=>aW.lt j h);clear e hE aa hq r f1 f2 f3 d1 hC x am E h2 bv aW aV bm;go_wp2_with(first|(go_at_call 112;refine cM (au.o _ eA) ?_;rintro e n ⟨rfl,K⟩;obtain⟨aU,aX⟩:=K.cells;(have z5:=K.size);(try simp only[wZ,Yb]at z5);(have aZ:d<n.heap.size:=oM);(have a5:w.heap.size+1<n.heap.size:=oM);(have a4:w.heap.size+1<n.heap.size+1:=oM);(have a0:d<n.heap.size+1:=oM);(have a1:wr.heap.size<n.heap.size:=oM);(have a3:wr.heap.size<n.heap.size+1:=oM))|(go_at_call 113;refine cM (HO.o _ eA) ?_;rintro e L ⟨vl,vu,rfl,an,ao,ap⟩;obtain⟨ac,af,ae,rfl⟩:=Ma an;obtain⟨ag,ai,ah,rfl⟩:=Ma ao;obtain⟨bk,bo⟩:=ap.cells;(have z6:=ap.size);(try simp only[wZ,Yb]at z6);(have bB:d<L.heap.size:=oM);(have bL:w.heap.size+1<L.heap.size:=oM);(have bJ:w.heap.size+1<L.heap.size+1:=oM);(have bD:d<L.heap.size+1:=oM);(have bF:wr.heap.size<L.heap.size:=oM);(have bH:wr.heap.size<L.heap.size+1:=oM);try unfold tf)|(go_at_call 114;refine cM (HH.o _ eA _ ?_) ?_;(exact⟨_,_,_,rfl,Ba.isPts (w:=wr) aF.o eA,an.f eA,ao.f eA⟩);rintro e w7 ⟨rfl,aq⟩;obtain⟨bl,bp⟩:=aq.cells;(have z7:=aq.size);(try simp only[wZ,Yb]at z7);(have bC:d<w7.heap.size:=oM);(have bM:w.heap.size+1<w7.heap.size:=oM);(have bK:w.heap.size+1<w7.heap.size+1:=oM);(have bE:d<w7.heap.size+1:=oM);(have bG:wr.heap.size<w7.heap.size:=oM);(have bI:wr.heap.size<w7.heap.size+1:=oM);(have bN:L.heap.size<w7.heap.size:=oM))|(go_at_call 115;refine cM (HN.o _ eA) ?_;rintro e w8 ⟨rfl,aE⟩;obtain⟨cd,ce⟩:=aE.cells;(have z8:=aE.size);(try simp only[wZ,Yb]at z8);(have cg:d<w8.heap.size:=oM);(have cl:w.heap.size+1<w8.heap.size:=oM);(have ck:w.heap.size+1<w8.heap.size+1:=oM);(have ch:d<w8.heap.size+1:=oM);(have ci:wr.heap.size<w8.heap.size:=oM);(have cj:wr.heap.size<w8.heap.size+1:=oM);(have cm:L.heap.size<w8.heap.size:=oM))|(at_builtin;refine Mi (T:=202) (t:=147) (z:=M Tt) (k:=12) (bytes:=152) (base:=d+1) (v:=O va vn vc) (cs:=cs) (m:=1) (c:=1) (ad:=⟨w8.heap.size,0,X⟩) TK rfl dM dM Tryz.underlying147 rfl _ _ rfl rfl (a6.o.ext eA) rfl [(tf p (O aj al ak) (O ac af ae) (O ag ai ah)).toList] rfl (by simp[tf]) (by exact Mo w8 (tf p (O aj al ak) (O ac af ae) (O ag ai ah)) 202) (by simp[tf,Value.oneCell']) (by have:=bU.o;omega) (by simp only[wZ];omega) ?_;intro v' w9 aD ar cp;obtain⟨a9,n9,c9,rfl⟩:=aD.i;(have av:Ba wr (w8.alloc (N (tf p (O aj al ak) (O ac af ae) (O ag ai ah)) 202)):=eA);(have hK:=av.e HC.o.2.2);(have hM:w9.heap[d]?=I (N #[O ga gn gc,O va vn vc] 149 (0,0)):=Gh ar hK (fun e=>by have:=(bV.o _ e.symm).1;omega));(have n1:=Aa hM 1 (O va vn vc));(have nf:=Za hM)));go_roundg (pn-(i+1))
       case measure=>have:=Hn.o;omega
       case rel =>
        have bg:=a6.o.ext av;(have bj:d+1<=(w8.alloc (N (tf p (O aj al ak) (O ac af ae) (O ag ai ah)) 202)).heap.size:=by simp only[wZ];omega);have aT:=Yg (base:=d+1) ar bj (fun k hk=>(bg.lt k hk).1);have aG:=bg.keepT (T':=91) dM ar;have cc:Ba w (w8.alloc (N (tf p (O aj al ak) (O ac af ae) (O ag ai ah)) 202)):=Hx.o.trans av;have hz:=Hz.o;have ca:Ba w w9:=cc.D aT oM;have b9:Tl w d _ _ _ w9:=(HC.o.ext av).below aT hz;have aL:Ba L (w8.alloc (N (tf p (O aj al ak) (O ac af ae) (O ag ai ah)) 202)):=eA;have bf:oe w9 (d+1) (O a9 n9 c9) (ps.take i++[p]):=oe.app aD bO.o bP.o (av.keep.trans aG) ⟨_,_,_,rfl,((aF.o.f av).E aG),((an.f aL).E aG),((ao.f aL).E aG)⟩;refine⟨i+1,O a9 n9 c9,by rw[Hn.o];omega,by go_num,by rw[Hn.o],ca.set dO _,by rw[fg];exact nT bj aT.size,b9.put hz _,?_,E2.o,by rw[bc.o];exact aP.o⟩;rw[bc.o];exact bf.setOther (fun e=>by have:=(bf.lt _ e).1;dsimp only at this;omega) (fun cs fr h=>by rw[hM]at h;cases h) _
   ·obtain rfl:i=pn:=oM;have e1:ps.take i=ps:=lT (by rw[Hn.o];exact nE _);have e2:ps.drop i=[]:=List.drop_of_length_le (by rw[Hn.o];exact nE _);rw[e1]at am l x;rw[e2,show Vc g ps []=0 from rfl]at x;have hE:=E.o;rw[if_pos x]at hE;have E3:=za hE;have aJ:=za am;have f:=l.las;have aK:=f.len;rw[Hn.o]at aK;subst aK;have aI:=f.le;rw[Hn.o]at aI;have cq:vn<=vc:=aI.1;(have cr:vc<=9223372036854775807:=by have:=aI.2;unfold maxLen at this;omega);clear e1 e2 x hE l ba bW bT E am aI;go_wp2;go_loopg [59] vn (fV w d (O ga gn gc) (O pa vn aY) (O va vn vc) g ps)
    case atStart=>exact⟨0,by omega,rfl,by rw[Hn.o];rfl,Hx.o,by omega,HC.o,f,by simp⟩
    case round =>
     clear f hC HC Hx hx k0 k1 kf m0 m1 mf aS zb zw aH hi;obtain⟨i,hi,rfl,rfl,hx,aS,hC,f,aC⟩:=hrel;rw[Hn.o]at hi;have HC:=za hC;have Hx:=za hx;have k0:=Aa hC.2.1 0 (O X 0 0);have k1:=Aa hC.2.1 1 (O X 0 0);have kf:=Za hC.2.1;have m0:=Aa hC.2.2 0 (O ga gn gc);have m1:=Aa hC.2.2 1 (O va vn vc);have mf:=Za hC.2.2;have zb:d<wr.heap.size:=oM;(have zw:w.heap.size+1<wr.heap.size:=by have:=Hz.o;omega);by_cases aH:i<vn
     ·obtain⟨p,hq⟩:∃q,ps[i]?=I q:=⟨ps[i]'(by rw[Hn.o];omega),by simp[Hn.o,aH]⟩;obtain⟨b,o,s1,l1,u1,rfl,hb,d1,d2,d3,r⟩:=f.at' hq;have bw:od wr (O (I ⟨b,o,X⟩) i vc) (ps.take i):=f.take (by rw[Hn.o];omega) (by rw[Hn.o];omega) oM (nE _);have br:=aJ.o p (lM hq);have aM:=za (fun W (hW:Ba wr W)=>jQ W (O ga gn gc) (O (I ⟨b,o,X⟩) i vc) (M (tf p s1 l1 u1)) g (ps.take i) p (bb.o _ (hx.trans hW)) (bw.f hW) ⟨_,_,_,rfl,d1.f hW,d2.f hW,d3.f hW⟩ (Ys aw.o) (fun q h=>aJ.o q (List.mem_of_mem_take h)) br);obtain⟨aj,al,ak,rfl⟩:=Ma d1;obtain⟨ac,af,ae,rfl⟩:=Ma d2;obtain⟨ag,ai,ah,rfl⟩:=Ma d3;obtain⟨cb,f1⟩:=gX (Kf g (ps.take i) p);rw[f1]at aM;unfold tf at aM;have aQ:=r 0 (.string p.name) rfl;have bZ:=r 1 (O aj al ak) rfl;have b0:=r 2 (Y Z p.depth) rfl;have b1:=r 3 (Y Z p.density) rfl;have b2:=r 4 (Y Z p.gx) rfl;have b3:=r 5 (Y Z p.gz) rfl;have b5:=r 6 (Y Z p.way) rfl;have b6:=r 7 (Y Z p.ax) rfl;have b7:=r 8 (Y Z p.az) rfl;have b8:=r 9 (Y A p.skin) rfl;have cn:=r 10 (O ac af ae) rfl;have co:=r 11 (O ag ai ah) rfl;simp only[Nat.add_zero]at aQ;have Hq:=za hq;have a7:=za aC;have F1:=za f1;have a8:=za f;have p0:(0:Int)<=(i:Int):=oM;have p1:(i:Int)<=(vc:Int):=oM;have p2:i<=vc:=oM;clear r hq aC f1 f bw br d1 d2 d3 hC hx;go_wp2;refine jd [(⟨d,0,X⟩,O ga gn gc),(⟨d,1,X⟩,O (I ⟨b,o,X⟩) vn vc),(⟨wr.heap.size,0,X⟩,.string p.name),(⟨wr.heap.size,1,X⟩,O aj al ak),(⟨wr.heap.size,2,X⟩,Y Z p.depth),(⟨wr.heap.size,3,X⟩,Y Z p.density),(⟨wr.heap.size,4,X⟩,Y Z p.gx),(⟨wr.heap.size,5,X⟩,Y Z p.gz),(⟨wr.heap.size,6,X⟩,Y Z p.way),(⟨wr.heap.size,7,X⟩,Y Z p.ax),(⟨wr.heap.size,8,X⟩,Y Z p.az),(⟨wr.heap.size,9,X⟩,Y A p.skin),(⟨wr.heap.size,10,X⟩,O ac af ae),(⟨wr.heap.size,11,X⟩,O ag ai ah)] cA fun be=>?_;refine sN 0 ?_
      (iterate 8 refine Db ?_);refine oN ?_;refine Ac (i:=8) (aM.o _ eA) ?_;rintro e n ⟨rfl,K⟩;refine⟨_,rfl,(cE be K),fun be=>?_⟩;refine La (i:=9) ?_;refine Pb ?_;have X5:Ba wr n:=eA;have K5:=X5.e HC.o.2.1;have y0:=Aa K5 0 (O X 0 0);have y1:=Aa K5 1 (O X 0 0);have yf:=Za K5;cases cb with
      |false=>
       (have e:Eb g ps=12:=by rw[E3.o,a7.o,vF Hq.o F1.o]);have E2:=za e;clear e;have hx:=Hx.o;go_wp2;have X5:Ba wr n:=eA;have K5:=X5.e HC.o.2.1;have x0:=Aa K5 0 (O X 0 0);have x1:=Aa K5 1 (O X 0 0);have xf:=Za K5;refine bR (v:=F #[M #[O X 0 0,O X 0 0],Y Z 12]) (by simp[results,Tryz.results83,go_sem,x0,x1,xf]) rfl ?_;rw[<-HR.o];exact .inl ⟨by rw[E2.o];decide,by rw[E2.o];rfl,eA⟩
      |true=>
       go_wp2;go_roundg (vn-(i+1))
       case measure=>have:=Hn.o;omega
       case rel=>exact⟨i+1,by rw[Hn.o];omega,by go_num,by rw[Hn.o],Hx.o.trans X5,nT aS X5.size,HC.o.ext X5,a8.o.f X5,a7.o.trans (xF Hq.o F1.o)⟩
     ·obtain rfl:i=vn:=oM;have e2:ps.drop i=[]:=List.drop_of_length_le (by rw[Hn.o];exact nE _);rw[e2]at aC;(have e:Eb g ps=0:=by rw[E3.o,aC];cases ps.take i<;>rfl);have E2:=za e;(have bu:w.heap.size+1≠d:=by have:=Hz.o;omega);clear e e2 aC hC;go_wp2;refine bR (v:=F #[M #[O ga gn gc,O va i vc],Y Z 0]) (by simp[results,Tryz.results83,go_sem,k0,k1,kf,m0,m1,bu]) rfl ?_;rw[<-HR.o];have hN:∀T,T≠149->ud T wr (w.heap.size+1):=fun T hT cs fr h=>by
       rw[HC.o.2.1]at h;cases h;exact hT rfl
      have hK:∀T u u',T≠149->Ja T wr ((wr.setCell ⟨w.heap.size+1,0,X⟩ u).setCell ⟨w.heap.size+1,1,X⟩ u'):=fun T u u' hT=>((Ja.refl _ wr).y (hN T hT) _).y ((hN T hT).set _ _) _;exact .inr ⟨E2.o,_,rfl,Sl.keep f (fun _ _ h=>Bm.keep h (hK _ _ _ dM)) (hK _ _ _ dM),(Hx.o.set dO _).set dO _⟩
end
section
open Go.RowKit Go.Shelf
attribute [local go_sem] Oper.semAt_some
def jR w n d(K:-9223372036854775808<=n)(L:n<=9223372036854775807)(R:-9223372036854775808<=d)(h3:d<=9223372036854775807)(hd:d≠0):Calls Tryz.prog 177 #[Y Z n,Y Z d] w (Ph w (Rat.divInt n d)):=by have o:Ua (Lm Ad n):=za (Lm.mono (j:=3) (by unfold Lm B;omega) dM);have p:Ua (Lm Ad d):=za (Lm.mono (j:=3) (by unfold Lm B;omega) dM);obtain⟨q,x⟩:=gX (Rat.divInt n d);rw[x];have Hq:=za x;have Hd:=za hd;have k:=za (fun W=>Oo W n K L);have l:=za (fun W=>Oo W d R h3);clear x hd K L R h3;go_in;go_wp2_with(first|(go_at_call 209;(with_reducible refine(oy _ (M #[Y Z s1,O a1 m1 c1]) (M #[Y Z s2,O a2 m2 c2]) n d (hr1.ext hx2) hr2 o.o p.o Hd.o).mono ?_);rw[Hq.o];rintro e w3 ⟨r3,rfl,b,z⟩;obtain⟨s3,a3,m3,c3,s4,a4,m4,c4,rfl⟩:=b.form;obtain⟨⟨u,ac⟩,i⟩:=Jd w z)|(go_at_call 208;(with_reducible refine(l.o w1).mono ?_);rintro e w2 ⟨r2,rfl,hr2,hx2⟩;obtain⟨s2,a2,m2,c2,rfl,-⟩:=hr2.j;obtain⟨⟨t,ab⟩,g⟩:=Jd w hx2)|(go_at_call 208;(with_reducible refine(k.o (w.alloc _)).mono ?_);rintro e w1 ⟨r1,rfl,hr1,y⟩;obtain⟨s1,a1,m1,c1,rfl,-⟩:=hr1.j;obtain⟨⟨r,aa⟩,f⟩:=Jd w y));exact bR (v:=M #[Y Z s3,O a3 m3 c3,Y Z s4,O a4 m4 c4]) (by simp[results,Tryz.results177,go_sem,r,t,u,f,g,i]) rfl ⟨_,rfl,b.keep kA,eA⟩
def RH w x p(j:Re w x p):Calls Tryz.prog 176 #[x] w (Ph w (-p)):=by
 obtain⟨s,a,m,c,t,o,u,r,rfl⟩:=j.form;have n:=j.top;go_in;go_wp2;go_region_held3 (fun W=>W.cell? ⟨w.heap.size,0,X⟩=I (Y Z s)/\W.cell? ⟨w.heap.size,1,X⟩=I (O a m c)/\W.cell? ⟨w.heap.size,2,X⟩=I (Y Z t)/\W.cell? ⟨w.heap.size,3,X⟩=I (O o u r)) ((repeat' (with_reducible refine And.intro ?_ ?_))<;>(first|(go_simp;done)|(refine hx1.d ?_;go_simp;done))) (first|(go_at_call 211;(with_reducible refine(Dt _ (M #[Y Z s,O a m c]) p.num ?_).mono ?_);(refine n.ext ?_;exact eA);rintro e w1 ⟨r1,rfl,b,hx1⟩;obtain⟨s1,K,m1,R,rfl,-⟩:=b.j;obtain⟨⟨k,aa⟩,y,g⟩:=Nb w hx1)|(go_at_call 181;(with_reducible refine(po _ (M #[Y Z s,O a m c,Y Z t,O o u r]) p ?_).mono ?_);(refine j.ext ?_;exact eA);rintro e w3 ⟨r3,rfl,d,f⟩;obtain⟨s3,L,m3,c3,rfl,-⟩:=d.j;obtain⟨⟨l,ab⟩,z,i⟩:=Nb w f))
 all_goals go_wp2
 exact bR (v:=M #[Y Z s1,O K m1 R,Y Z s3,O L m3 c3]) (by simp[results,Tryz.results176,go_sem,k,l,g,i]) rfl ⟨_,rfl,Re.keep (Re.mk (q:=-p) (b.ext f) d) kA,eA⟩
def Uw w va vb p q(ha:Re w va p)(hb:Re w vb q)(b:Rb vh p)(d:Rb vh q):Calls Tryz.prog 136 #[va,vb] w fun e w'=>e=.returned (Y Z (yd p q))/\Ba w w':=by
 obtain⟨s,a,m,c,t,ea,em,ec,rfl⟩:=ha.form;obtain⟨s',R,m',c',t',i,k,j,rfl⟩:=hb.form;have aq:=za b;have ar:=za d;have aa:=ha.top;have ab:=hb.top;have u:Ua (Lm Dc p.num):=za (b.1.mono dM);have x:Ua (Lm Dc q.num):=za (d.1.mono dM);have y:Ua (Lm Dc (p.den:Int)):=za (b.2.mono dM);have z:Ua (Lm Dc (q.den:Int)):=za (d.2.mono dM);have K:Ua (Lm Ad (p.num*q.den)):=za ((b.1.mul d.2).mono dM);have L:Ua (Lm Ad (q.num*p.den)):=za ((d.1.mul b.2).mono dM);have au:Ua (Lm Ad (p.num*q.num)):=za ((b.1.mul d.1).mono dM);have av:Ua (Lm Ad ((p.den:Int)*q.den)):=za ((b.2.mul d.2).mono dM);have aw:Ua (Lm Ad ((p.den:Int)*q.num)):=za ((b.2.mul d.1).mono dM);have f:Ua (Lm Dc (p.num*q.den)):=za (K.o.mono dM);have g:Ua (Lm Dc (q.num*p.den)):=za (L.o.mono dM);have ax:Ua (Lm Ad (p.num*q.den+q.num*p.den)):=za (((b.1.mul d.2).add (d.1.mul b.2)).mono dM);clear b d;go_in;go_wp2;go_region_held3 (fun W=>W.cell? ⟨w.heap.size,0,X⟩=I (Y Z s)/\W.cell? ⟨w.heap.size,1,X⟩=I (O a m c)/\W.cell? ⟨w.heap.size,2,X⟩=I (Y Z t)/\W.cell? ⟨w.heap.size,3,X⟩=I (O ea em ec)/\W.cell? ⟨w.heap.size+1,0,X⟩=I (Y Z s')/\W.cell? ⟨w.heap.size+1,1,X⟩=I (O R m' c')/\W.cell? ⟨w.heap.size+1,2,X⟩=I (Y Z t')/\W.cell? ⟨w.heap.size+1,3,X⟩=I (O i k j)) ((repeat' (with_reducible refine And.intro ?_ ?_))<;>(first|(go_simp;done)|(refine hx1.d ?_;go_simp;done))) (first|(go_at_call 181;(with_reducible refine(po _ (M #[Y Z s',O R m' c',Y Z t',O i k j]) q ?_).mono ?_);(refine hb.ext ?_;exact eA);rintro e w1 ⟨r1,rfl,l,hx1⟩;obtain⟨s1,a1,m1,c1,rfl,-⟩:=l.j;obtain⟨⟨ay,aD⟩,ag,ah⟩:=Nb w hx1)|(go_at_call 181;(with_reducible refine(po _ (M #[Y Z s,O a m c,Y Z t,O ea em ec]) p ?_).mono ?_);(refine ha.ext ?_;exact eA);rintro e w3 ⟨r3,rfl,o,ad⟩;obtain⟨s3,a3,m3,c3,rfl,-⟩:=o.j;obtain⟨⟨aA,aF⟩,ak,al⟩:=Nb w ad)|(go_at_call 180;(with_reducible refine(fq _ (M #[Y Z s,O a m c]) (M #[Y Z s1,O a1 m1 c1]) p.num (q.den:Int) ?_ ?_ u.o z.o).mono ?_);(refine aa.ext ?_;exact eA);(refine l.ext ?_;exact eA);rintro e w2 ⟨r2,rfl,n,ac⟩;obtain⟨s2,a2,m2,c2,rfl,-⟩:=n.j;obtain⟨⟨az,aE⟩,ai,aj⟩:=Nb w ac)|(go_at_call 180;(with_reducible refine(fq _ (M #[Y Z s',O R m' c']) (M #[Y Z s3,O a3 m3 c3]) q.num (p.den:Int) ?_ ?_ x.o y.o).mono ?_);(refine ab.ext ?_;exact eA);(refine o.ext ?_;exact eA);rintro e w4 ⟨r4,rfl,r,ae⟩;obtain⟨s4,a4,m4,c4,rfl,-⟩:=r.j;obtain⟨⟨aB,aG⟩,am,an⟩:=Nb w ae)|(go_at_call 179;(with_reducible refine(ID _ (M #[Y Z s2,O a2 m2 c2]) (M #[Y Z s4,O a4 m4 c4]) (p.num*q.den) (q.num*p.den) ?_ ?_ f.o g.o).mono ?_);(refine n.ext ?_;exact eA);(refine r.ext ?_;exact eA);rintro e w5 ⟨rfl,af⟩;obtain⟨⟨aC,aH⟩,ao,ap⟩:=Nb w af))
 all_goals go_wp2
 go_ret;exact⟨rfl,eA⟩
def yB w va vb p q(ha:Re w va p)(hb:Re w vb q)(b:Rb vh p)(d:Rb vh q):Calls Tryz.prog 175 #[va,vb] w (Ph w (p+q)):=by
 obtain⟨s,a,m,c,t,ea,em,ec,rfl⟩:=ha.form;obtain⟨s',a',m',c',t',f,i,g,rfl⟩:=hb.form;have bc:=za b;have be:=za d;have aA:=ha.top;have aB:=hb.top;have aj:Ua (Lm Dc p.num):=za (b.1.mono dM);have ak:Ua (Lm Dc q.num):=za (d.1.mono dM);have j:Ua (Lm Dc (p.den:Int)):=za (b.2.mono dM);have k:Ua (Lm Dc (q.den:Int)):=za (d.2.mono dM);have al:Ua (Lm Ad (p.num*q.den)):=za ((b.1.mul d.2).mono dM);have am:Ua (Lm Ad (q.num*p.den)):=za ((d.1.mul b.2).mono dM);have bf:Ua (Lm Ad (p.num*q.num)):=za ((b.1.mul d.1).mono dM);have an:Ua (Lm Ad ((p.den:Int)*q.den)):=za ((b.2.mul d.2).mono dM);have bg:Ua (Lm Ad ((p.den:Int)*q.num)):=za ((b.2.mul d.1).mono dM);have l:Ua (Lm Dc (p.num*q.den)):=za (al.o.mono dM);have n:Ua (Lm Dc (q.num*p.den)):=za (am.o.mono dM);have ao:Ua (Lm Ad (p.num*q.den+q.num*p.den)):=za (((b.1.mul d.2).add (d.1.mul b.2)).mono dM);clear b d;go_in;go_wp2;go_region_held3 (fun W=>W.cell? ⟨w.heap.size,0,X⟩=I (Y Z s)/\W.cell? ⟨w.heap.size,1,X⟩=I (O a m c)/\W.cell? ⟨w.heap.size,2,X⟩=I (Y Z t)/\W.cell? ⟨w.heap.size,3,X⟩=I (O ea em ec)/\W.cell? ⟨w.heap.size+1,0,X⟩=I (Y Z s')/\W.cell? ⟨w.heap.size+1,1,X⟩=I (O a' m' c')/\W.cell? ⟨w.heap.size+1,2,X⟩=I (Y Z t')/\W.cell? ⟨w.heap.size+1,3,X⟩=I (O f i g)) ((repeat' (with_reducible refine And.intro ?_ ?_))<;>(first|(go_simp;done)|(refine hx1.d ?_;go_simp;done))) (first|(go_at_call 181;(with_reducible refine(po w6 (M #[Y Z s',O a' m' c',Y Z t',O f i g]) q ?_).mono ?_);(refine hb.ext ?_;exact eA);rintro e w7 ⟨r7,rfl,K,aH⟩;obtain⟨s7,a7,m7,c7,rfl,-⟩:=K.j;obtain⟨⟨ax,bn⟩,aX,aY,ag⟩:=Sb w aH)|(go_at_call 181;(with_reducible refine(po w5 (M #[Y Z s,O a m c,Y Z t,O ea em ec]) p ?_).mono ?_);(refine ha.ext ?_;exact eA);rintro e w6 ⟨r6,rfl,z,aG⟩;obtain⟨s6,a6,m6,c6,rfl,-⟩:=z.j;obtain⟨⟨aw,bm⟩,aV,aW,af⟩:=Sb w aG)|(go_at_call 181;(with_reducible refine(po w2 (M #[Y Z s,O a m c,Y Z t,O ea em ec]) p ?_).mono ?_);(refine ha.ext ?_;exact eA);rintro e w3 ⟨r3,rfl,u,aD⟩;obtain⟨s3,a3,m3,c3,rfl,-⟩:=u.j;obtain⟨⟨ar,bj⟩,aP,aQ,ac⟩:=Sb w aD)|(go_at_call 181;(with_reducible refine(po _ (M #[Y Z s',O a' m' c',Y Z t',O f i g]) q ?_).mono ?_);(refine hb.ext ?_;exact eA);rintro e w1 ⟨r1,rfl,o,hx1⟩;obtain⟨s1,a1,m1,c1,rfl,-⟩:=o.j;obtain⟨⟨ap,bh⟩,aK,aL,aa⟩:=Sb w hx1)|(go_at_call 180;(with_reducible refine(fq _ (M #[Y Z s,O a m c]) (M #[Y Z s1,O a1 m1 c1]) p.num (q.den:Int) ?_ ?_ aj.o k.o).mono ?_);(refine aA.ext ?_;exact eA);(refine o.ext ?_;exact eA);rintro e w2 ⟨r2,rfl,r,aC⟩;obtain⟨s2,a2,m2,c2,rfl,-⟩:=r.j;obtain⟨⟨aq,bi⟩,aM,aO,ab⟩:=Sb w aC)|(go_at_call 180;(with_reducible refine(fq _ (M #[Y Z s',O a' m' c']) (M #[Y Z s3,O a3 m3 c3]) q.num (p.den:Int) ?_ ?_ ak.o j.o).mono ?_);(refine aB.ext ?_;exact eA);(refine u.ext ?_;exact eA);rintro e w4 ⟨r4,rfl,x,aE⟩;obtain⟨s4,a4,m4,c4,rfl,-⟩:=x.j;obtain⟨⟨au,bk⟩,aR,aS,ad⟩:=Sb w aE)|(go_at_call 210;(with_reducible refine(FM _ (M #[Y Z s2,O a2 m2 c2]) (M #[Y Z s4,O a4 m4 c4]) (p.num*q.den) (q.num*p.den) ?_ ?_ l.o n.o).mono ?_);(refine r.ext ?_;exact eA);(refine x.ext ?_;exact eA);rintro e w5 ⟨r5,rfl,y,aF⟩;obtain⟨s5,a5,m5,c5,rfl,-⟩:=y.j;obtain⟨⟨av,bl⟩,aT,aU,ae⟩:=Sb w aF)|(go_at_call 180;(with_reducible refine(fq _ (M #[Y Z s6,O a6 m6 c6]) (M #[Y Z s7,O a7 m7 c7]) (p.den:Int) (q.den:Int) ?_ ?_ j.o k.o).mono ?_);(refine z.ext ?_;exact eA);(refine K.ext ?_;exact eA);rintro e w8 ⟨r8,rfl,L,aI⟩;obtain⟨s8,a8,m8,c8,rfl,-⟩:=L.j;obtain⟨⟨ay,bo⟩,aZ,a0,ah⟩:=Sb w aI)|(go_at_call 209;(with_reducible refine(oy _ (M #[Y Z s5,O a5 m5 c5]) (M #[Y Z s8,O a8 m8 c8]) (p.num*q.den+q.num*p.den) ((p.den:Int)*q.den) ?_ ?_ ao.o an.o (Eo p q)).mono ?_);(refine y.ext ?_;exact eA);(refine L.ext ?_;exact eA);rintro e w9 ⟨r9,rfl,R,aJ⟩;obtain⟨s9,a9,m9,c9,t9,e9,i9,j9,rfl⟩:=R.form;obtain⟨⟨az,bp⟩,ba,bb,ai⟩:=Sb w aJ))
 all_goals go_wp2
 refine bR (v:=M #[Y Z s9,O a9 m9 c9,Y Z t9,O e9 i9 j9]) (by simp[results,Tryz.results175,go_sem,ap,aq,ar,au,av,aw,ax,ay,az,aa,ab,ac,ad,ae,af,ag,ah,ai]) rfl ⟨_,rfl,?_,eA⟩;rw[<-iz];exact R.keep kA
def SH w va vb p q(ha:Re w va p)(hb:Re w vb q)(b:Rb vh p)(d:Rb vh q):Calls Tryz.prog 178 #[va,vb] w (Ph w (p*q)):=by
 obtain⟨s,a,m,c,t,ea,em,ec,rfl⟩:=ha.form;obtain⟨s',a',m',c',t',f,i,g,rfl⟩:=hb.form;have aE:=za b;have aF:=za d;have ak:=ha.top;have al:=hb.top;have K:Ua (Lm Dc p.num):=za (b.1.mono dM);have L:Ua (Lm Dc q.num):=za (d.1.mono dM);have R:Ua (Lm Dc (p.den:Int)):=za (b.2.mono dM);have aa:Ua (Lm Dc (q.den:Int)):=za (d.2.mono dM);have ab:Ua (Lm Ad (p.num*q.den)):=za ((b.1.mul d.2).mono dM);have ac:Ua (Lm Ad (q.num*p.den)):=za ((d.1.mul b.2).mono dM);have ad:Ua (Lm Ad (p.num*q.num)):=za ((b.1.mul d.1).mono dM);have ae:Ua (Lm Ad ((p.den:Int)*q.den)):=za ((b.2.mul d.2).mono dM);have aG:Ua (Lm Ad ((p.den:Int)*q.num)):=za ((b.2.mul d.1).mono dM);have aq:Ua (Lm Dc (p.num*q.den)):=za (ab.o.mono dM);have ar:Ua (Lm Dc (q.num*p.den)):=za (ac.o.mono dM);have aH:Ua (Lm Ad (p.num*q.den+q.num*p.den)):=za (((b.1.mul d.2).add (d.1.mul b.2)).mono dM);clear b d;go_in;go_wp2;go_region_held3 (fun W=>W.cell? ⟨w.heap.size,0,X⟩=I (Y Z s)/\W.cell? ⟨w.heap.size,1,X⟩=I (O a m c)/\W.cell? ⟨w.heap.size,2,X⟩=I (Y Z t)/\W.cell? ⟨w.heap.size,3,X⟩=I (O ea em ec)/\W.cell? ⟨w.heap.size+1,0,X⟩=I (Y Z s')/\W.cell? ⟨w.heap.size+1,1,X⟩=I (O a' m' c')/\W.cell? ⟨w.heap.size+1,2,X⟩=I (Y Z t')/\W.cell? ⟨w.heap.size+1,3,X⟩=I (O f i g)) ((repeat' (with_reducible refine And.intro ?_ ?_))<;>(first|(go_simp;done)|(refine hx1.d ?_;go_simp;done))) (first|(go_at_call 180;(with_reducible refine(fq _ (M #[Y Z s,O a m c]) (M #[Y Z s',O a' m' c']) p.num q.num ?_ ?_ K.o L.o).mono ?_);(refine ak.ext ?_;exact eA);(refine al.ext ?_;exact eA);rintro e w1 ⟨r1,rfl,j,hx1⟩;obtain⟨s1,a1,m1,c1,rfl,-⟩:=j.j;obtain⟨⟨af,aI⟩,au,av,r⟩:=Sb w hx1)|(go_at_call 181;(with_reducible refine(po _ (M #[Y Z s,O a m c,Y Z t,O ea em ec]) p ?_).mono ?_);(refine ha.ext ?_;exact eA);rintro e w2 ⟨r2,rfl,k,am⟩;obtain⟨s2,a2,m2,c2,rfl,-⟩:=k.j;obtain⟨⟨ag,aJ⟩,aw,ax,u⟩:=Sb w am)|(go_at_call 181;(with_reducible refine(po _ (M #[Y Z s',O a' m' c',Y Z t',O f i g]) q ?_).mono ?_);(refine hb.ext ?_;exact eA);rintro e w3 ⟨r3,rfl,l,an⟩;obtain⟨s3,a3,m3,c3,rfl,-⟩:=l.j;obtain⟨⟨ah,aK⟩,ay,az,x⟩:=Sb w an)|(go_at_call 180;(with_reducible refine(fq _ (M #[Y Z s2,O a2 m2 c2]) (M #[Y Z s3,O a3 m3 c3]) (p.den:Int) (q.den:Int) ?_ ?_ R.o aa.o).mono ?_);(refine k.ext ?_;exact eA);(refine l.ext ?_;exact eA);rintro e w4 ⟨r4,rfl,n,ao⟩;obtain⟨s4,a4,m4,c4,rfl,-⟩:=n.j;obtain⟨⟨ai,aL⟩,aA,aB,y⟩:=Sb w ao)|(go_at_call 209;(with_reducible refine(oy _ (M #[Y Z s1,O a1 m1 c1]) (M #[Y Z s4,O a4 m4 c4]) (p.num*q.num) ((p.den:Int)*q.den) ?_ ?_ ad.o ae.o (Eo p q)).mono ?_);(refine j.ext ?_;exact eA);(refine n.ext ?_;exact eA);rintro e w9 ⟨r9,rfl,o,ap⟩;obtain⟨s9,a9,m9,c9,t9,e9,i9,j9,rfl⟩:=o.form;obtain⟨⟨aj,aM⟩,aC,aD,z⟩:=Sb w ap))
 all_goals go_wp2
 refine bR (v:=M #[Y Z s9,O a9 m9 c9,Y Z t9,O e9 i9 j9]) (by simp[results,Tryz.results178,go_sem,af,ag,ah,ai,aj,r,u,x,y,z]) rfl ⟨_,rfl,?_,eA⟩;rw[<-Zy];exact o.keep kA
def sB w va vb p q(ha:Re w va p)(hb:Re w vb q)(g:Rb vh p)(i:Rb vh q):Calls Tryz.prog 134 #[va,vb] w (Ph w (p-q)):=by
 obtain⟨s,a,m,c,t,L,em,R,rfl⟩:=ha.form;obtain⟨s',z,m',K,t',b,f,d,rfl⟩:=hb.form;have o:=za g;have r:=za i.neg;clear g i;rw[Rat.sub_eq_add_neg];go_in;go_wp2;go_region_held3 (fun W=>W.cell? ⟨w.heap.size,0,X⟩=I (Y Z s)/\W.cell? ⟨w.heap.size,1,X⟩=I (O a m c)/\W.cell? ⟨w.heap.size,2,X⟩=I (Y Z t)/\W.cell? ⟨w.heap.size,3,X⟩=I (O L em R)/\W.cell? ⟨w.heap.size+1,0,X⟩=I (Y Z s')/\W.cell? ⟨w.heap.size+1,1,X⟩=I (O z m' K)/\W.cell? ⟨w.heap.size+1,2,X⟩=I (Y Z t')/\W.cell? ⟨w.heap.size+1,3,X⟩=I (O b f d)) ((repeat' (with_reducible refine And.intro ?_ ?_))<;>(first|(go_simp;done)|(refine hx1.d ?_;go_simp;done))) (first|(go_at_call 176;(with_reducible refine(RH _ (M #[Y Z s',O z m' K,Y Z t',O b f d]) q ?_).mono ?_);(refine hb.ext ?_;exact eA);rintro e w1 ⟨r1,rfl,j,hx1⟩;obtain⟨s1,a1,m1,c1,t1,e1,i1,j1,rfl⟩:=j.form;obtain⟨⟨u,ae⟩,aa,ab,l⟩:=Sb w hx1)|(go_at_call 175;(with_reducible refine(yB _ (M #[Y Z s,O a m c,Y Z t,O L em R]) (M #[Y Z s1,O a1 m1 c1,Y Z t1,O e1 i1 j1]) p (-q) ?_ ?_ o.o r.o).mono ?_);(refine ha.ext ?_;exact eA);(refine j.ext ?_;exact eA);rintro e w9 ⟨r9,rfl,k,y⟩;obtain⟨s9,a9,m9,c9,t9,e9,i9,j9,rfl⟩:=k.form;obtain⟨⟨x,af⟩,ac,ad,n⟩:=Sb w y))
 all_goals go_wp2
 exact bR (v:=M #[Y Z s9,O a9 m9 c9,Y Z t9,O e9 i9 j9]) (by simp[results,Tryz.results134,go_sem,u,x,l,n]) rfl ⟨_,rfl,k.keep kA,eA⟩
end
section
open Go.RowKit Go.Shelf Go.Sort Go.Lib
def jy{g}:∀{e done},Vc g done e=0->∀p∈e,Fa p=true
 | [],_,_,p,d=>by cases d
 | q::r,done,h,p,d=>by
  unfold Vc at h;by_cases b:Mf g done q=0
  ·rw[if_pos b]at h;rcases List.mem_cons.1 d with rfl|d
   ·cases hk:Fa p with
    | true=>rfl
    | false=>unfold Mf at b;rw[hk]at b;simp at b
   ·exact jy h p d
  ·rw[if_neg b]at h;exact absurd h b
def No{g ps}(h:Eb g ps=0):(∀p∈ps,Fa p=true)/\ps.length<=120/\Bb g=true:=by
 unfold Eb at h;cases hg:Bb g with
 | false=>rw[hg]at h;simp at h
 |true=>
  rw[hg,if_pos rfl]at h;by_cases d:120<ps.length
  ·rw[if_pos d]at h;exact absurd h dM
  ·rw[if_neg d]at h;by_cases b:Vc g [] ps=0
   ·exact⟨jy b,by omega,rfl⟩
   ·rw[if_neg b]at h;exact absurd h b
def uj(w:V)(base:Nat)(v:J)(ps:List Pl):Prop:=∃cs,Ea 95 10 w base v cs/\cs.length=ps.length/\∀(i:Nat) c p,cs[i]?=I c->ps[i]?=I p->Am w c p
def uj.pls{w base v ps}(h:uj w base v ps):ld w v ps:=by obtain⟨f,b,d,e⟩:=h;exact b.sl d e
def Vy w r t g ps(l:Ia w r g)(p:ld w t ps)(d:Gw w):Calls Tryz.prog 48 #[M #[r,t]] w fun e w'=>e=.returned (Y Z (Eb g ps))/\Ba w w':=by
 have u:=za (fun(W:V)(b:Ba w W)=>MF W r t g ps (l.f b) (p.f b) (d.ext b));obtain⟨y,K,z,rfl⟩:=Ma l;obtain⟨pa,pn,ab,rfl⟩:=Ma p;obtain⟨k,o⟩:=gX (Eb g ps);rw[o];have x:=za o;clear l p d o;have f:=za (fun(W:V)(b:Ba w W)=>(u.o W b).mono (fun(e:Ending)(w':V)(h:Bn W (O y K z) g ps e w')=>(show ∃a1 n1 c1 a2 n2 c2,e=.returned (F #[M #[O a1 n1 c1,O a2 n2 c2],Y Z k])/\Ba W w' from by
  rcases h with ⟨_,i,j⟩|⟨L,vs,i,j,R⟩
  ·exact⟨X,0,0,X,0,0,by rw[i,x.o];rfl,j⟩
  ·obtain⟨a,n,c,rfl⟩:=Ma j;exact⟨y,K,z,a,n,c,by rw[i,<-x.o,L],R⟩)))
 clear u;go_in;go_wp2_with(go_at_call 83;refine cM (f.o _ eA) ?_;rintro e w3 ⟨a1,n1,c1,a2,n2,c2,rfl,aa⟩);go_ret;exact⟨rfl,eA⟩
def td(f:Int×Int->Int):LP->Int×Int
 | []=>(0,0)
 | p::ps=>ps.foldl (fun o q=>(min o.1 (f q),max o.2 (f q))) (f p,f p)
def Tx{f}{ps:LP}{q}(h:ps≠[]):td f (ps++[q])=(min (td f ps).1 (f q),max (td f ps).2 (f q)):=by
 cases ps with
 | nil=>exact absurd rfl h
 | cons p ps=>simp[td]
def Ml(T:TypeId)(W:V)(b:Nat)(x z:Int):Prop:=W.heap[b]?=I (N #[Y Z x,Y Z z] T (0,0))
def Ml.ext{T W W' b x z}(h:Ml T W b x z)(k:Ba W W'):Ml T W' b x z:=k.e h
def Ml.put{T W b x z}(h:Ml T W b x z) d e:Ml T ((W.setCell ⟨b,0,X⟩ (Y Z d)).setCell ⟨b,1,X⟩ (Y Z e)) b d e:=by unfold Ml at *;simp[World.setCell,Array.getElem?_modify,h]
def Ml.other{T W b x z}(h:Ml T W b x z){p}(d:p.block≠b) u:Ml T (W.setCell p u) b x z:=by unfold Ml at *;rw[bS _ _ _ _ (Ne.symm d)];exact h
def xH(w:V)(f:Int×Int->Int)(ps:LP)(g:Nat)(b:J)(W:V):Prop:=
 ∃i:Nat,i<=ps.length/\b=Y Z i/\g=ps.length-i/\Ba w W/\Ml 111 W w.heap.size 0 0/\Ml 111 W (w.heap.size+1) (td f (ps.take i)).1 (td f (ps.take i)).2
def nC w x z:Calls Tryz.prog 85 #[M #[Y Z x,Y Z z]] w fun e w'=>e=.returned (Y Z x)/\Ba w w':=by go_in;go_wp2;go_ret;exact⟨rfl,eA⟩
def yT w v ps(h:Ia w v ps):Calls Tryz.prog 87 #[v,.func (.func 85) #[] #[]] w fun e w'=>e=.returned (M #[Y Z (td Prod.fst ps).1,Y Z (td Prod.fst ps).2])/\Ba w w':=by
 obtain⟨a,c,rfl⟩:=h.form;obtain⟨n,hn⟩:=gX ps.length;rw[hn]at h ⊢;have K:=h.le;unfold maxLen at K;have ae:n<=9223372036854775807:=oM;have d:=za hn;obtain⟨R,hR⟩:=gX ((fun(e:Ending)(w':V)=>e=.returned (M #[Y Z (td Prod.fst ps).1,Y Z (td Prod.fst ps).2])/\Ba w w'));rw[hR];have HR:=za hR;clear hn K hR;go_in;go_wp2;go_loopg [11] n (xH w Prod.fst ps)
 case atStart=>exact⟨0,by omega,rfl,by rw[d.o];rfl,eA,((eR _).alloc _).e (mc _ _ _ rfl),mc _ _ _ sM⟩
 case round =>
  obtain⟨i,hi,rfl,rfl,W,y,k⟩:=hrel;rw[d.o]at hi;obtain⟨r,g⟩:=gX ((td Prod.fst (ps.take i)).1);obtain⟨p,f⟩:=gX ((td Prod.fst (ps.take i)).2);rw[g,f]at k;have zB:=Ya k;have ag:w.heap.size+1<wr.heap.size+1:=oM;have HA:=za y;have HB:=za k;have Hx:=za W;by_cases ad:i<n
  ·obtain⟨⟨x,z⟩,hq⟩:∃q,ps[i]?=I q:=⟨ps[i]'(by rw[d.o];omega),by simp[d.o,ad]⟩;obtain⟨b,o,rfl,hb,d0,d1⟩:=(h.f W).at' hq;have Hq:=za hq;have L:ps.take (i+1)=ps.take i++[(x,z)]:=ze _ _ _ hq;have t:=za L;have ab:=za g;have aa:=za f;clear hq y W L g f;by_cases h0:i=0
   ·(have ac:((i:Int)==0)=true:=by simp;omega);have H0:=za h0;clear h0 k;go_wp2_with(go_at_call 85;(with_reducible refine(nC _ x z).mono ?_);rintro e w1 ⟨rfl,l⟩;(have u:Ba wr w1:=((eR wr).alloc _).trans l);(have j:=HB.o.ext u);have b0:=Aa j 0 (Y Z r);have b1:=Aa j 1 (Y Z p);have bf:=Za j);go_roundg (n-(i+1))
    case measure=>have:=d.o;omega
    case rel =>
     have e:td Prod.fst (ps.take (i+1))=(x,x):=by
      have:=H0.o;subst this;rw[t.o];simp[td]
     have W:=Hx.o;have P:=(j.put x x).put (min x x) (max x x);refine⟨i+1,by rw[d.o];omega,by go_num,by rw[d.o],eA,((((HA.o.ext u).other dO _).other dO _).other dO _).other dO _,?_⟩;rw[e];simpa using P
   ·(have ac:((i:Int)==0)=false:=by simp;omega);have H0:=za h0;clear h0 k;go_wp2_with(go_at_call 85;(with_reducible refine(nC _ x z).mono ?_);rintro e w1 ⟨rfl,l⟩;(have u:Ba wr w1:=((eR wr).alloc _).trans l);(have j:=HB.o.ext u);have b0:=Aa j 0 (Y Z r);have b1:=Aa j 1 (Y Z p);have bf:=Za j);go_roundg (n-(i+1))
    case measure=>have:=d.o;omega
    case rel =>
     have e:td Prod.fst (ps.take (i+1))=(min r x,max p x):=by
      rw[t.o,Tx,ab.o,aa.o];intro h;(have h2:(ps.take i).length=0:=by rw[h];rfl);rw[List.length_take,d.o]at h2;have:=H0.o;omega
     have W:=Hx.o;have P:=j.put (min r x) (max p x);refine⟨i+1,by rw[d.o];omega,by go_num,by rw[d.o],eA,((HA.o.ext u).other dO _).other dO _,?_⟩;rw[e];exact P
  ·obtain rfl:i=n:=oM;have e:ps.take i=ps:=lT (by rw[d.o];exact nE _);rw[e]at g f;have a0:=Aa y 0 (Y Z 0);have a1:=Aa y 1 (Y Z 0);have af:=Za y;have b0:=Aa k 0 (Y Z r);have b1:=Aa k 1 (Y Z p);go_wp2;refine bR (v:=M #[Y Z r,Y Z p]) (by simp[results,Tryz.results87,go_sem,a0,a1,af,b0,b1]) rfl ?_;rw[<-HR.o];exact⟨by rw[g,f],eA⟩
def lC w x z:Calls Tryz.prog 86 #[M #[Y Z x,Y Z z]] w fun e w'=>e=.returned (Y Z z)/\Ba w w':=by go_in;go_wp2;go_ret;exact⟨rfl,eA⟩
def xT w v ps(h:Ia w v ps):Calls Tryz.prog 87 #[v,.func (.func 86) #[] #[]] w fun e w'=>e=.returned (M #[Y Z (td Prod.snd ps).1,Y Z (td Prod.snd ps).2])/\Ba w w':=by
 obtain⟨a,c,rfl⟩:=h.form;obtain⟨n,hn⟩:=gX ps.length;rw[hn]at h ⊢;have K:=h.le;unfold maxLen at K;have ae:n<=9223372036854775807:=oM;have d:=za hn;obtain⟨R,hR⟩:=gX ((fun(e:Ending)(w':V)=>e=.returned (M #[Y Z (td Prod.snd ps).1,Y Z (td Prod.snd ps).2])/\Ba w w'));rw[hR];have HR:=za hR;clear hn K hR;go_in;go_wp2;go_loopg [11] n (xH w Prod.snd ps)
 case atStart=>exact⟨0,by omega,rfl,by rw[d.o];rfl,eA,((eR _).alloc _).e (mc _ _ _ rfl),mc _ _ _ sM⟩
 case round =>
  obtain⟨i,hi,rfl,rfl,W,y,k⟩:=hrel;rw[d.o]at hi;obtain⟨r,g⟩:=gX ((td Prod.snd (ps.take i)).1);obtain⟨p,f⟩:=gX ((td Prod.snd (ps.take i)).2);rw[g,f]at k;have zB:=Ya k;have ag:w.heap.size+1<wr.heap.size+1:=oM;have HA:=za y;have HB:=za k;have Hx:=za W;by_cases ad:i<n
  ·obtain⟨⟨x,z⟩,hq⟩:∃q,ps[i]?=I q:=⟨ps[i]'(by rw[d.o];omega),by simp[d.o,ad]⟩;obtain⟨b,o,rfl,hb,d0,d1⟩:=(h.f W).at' hq;have Hq:=za hq;have L:ps.take (i+1)=ps.take i++[(x,z)]:=ze _ _ _ hq;have t:=za L;have ab:=za g;have aa:=za f;clear hq y W L g f;by_cases h0:i=0
   ·(have ac:((i:Int)==0)=true:=by simp;omega);have H0:=za h0;clear h0 k;go_wp2_with(go_at_call 86;(with_reducible refine(lC _ x z).mono ?_);rintro e w1 ⟨rfl,l⟩;(have u:Ba wr w1:=((eR wr).alloc _).trans l);(have j:=HB.o.ext u);have b0:=Aa j 0 (Y Z r);have b1:=Aa j 1 (Y Z p);have bf:=Za j);go_roundg (n-(i+1))
    case measure=>have:=d.o;omega
    case rel =>
     have e:td Prod.snd (ps.take (i+1))=(z,z):=by
      have:=H0.o;subst this;rw[t.o];simp[td]
     have W:=Hx.o;have P:=(j.put z z).put (min z z) (max z z);refine⟨i+1,by rw[d.o];omega,by go_num,by rw[d.o],eA,((((HA.o.ext u).other dO _).other dO _).other dO _).other dO _,?_⟩;rw[e];simpa using P
   ·(have ac:((i:Int)==0)=false:=by simp;omega);have H0:=za h0;clear h0 k;go_wp2_with(go_at_call 86;(with_reducible refine(lC _ x z).mono ?_);rintro e w1 ⟨rfl,l⟩;(have u:Ba wr w1:=((eR wr).alloc _).trans l);(have j:=HB.o.ext u);have b0:=Aa j 0 (Y Z r);have b1:=Aa j 1 (Y Z p);have bf:=Za j);go_roundg (n-(i+1))
    case measure=>have:=d.o;omega
    case rel =>
     have e:td Prod.snd (ps.take (i+1))=(min r z,max p z):=by
      rw[t.o,Tx,ab.o,aa.o];intro h;(have h2:(ps.take i).length=0:=by rw[h];rfl);rw[List.length_take,d.o]at h2;have:=H0.o;omega
     have W:=Hx.o;have P:=j.put (min r z) (max p z);refine⟨i+1,by rw[d.o];omega,by go_num,by rw[d.o],eA,((HA.o.ext u).other dO _).other dO _,?_⟩;rw[e];exact P
  ·obtain rfl:i=n:=oM;have e:ps.take i=ps:=lT (by rw[d.o];exact nE _);rw[e]at g f;have a0:=Aa y 0 (Y Z 0);have a1:=Aa y 1 (Y Z 0);have af:=Za y;have b0:=Aa k 0 (Y Z r);have b1:=Aa k 1 (Y Z p);go_wp2;refine bR (v:=M #[Y Z r,Y Z p]) (by simp[results,Tryz.results87,go_sem,a0,a1,af,b0,b1]) rfl ?_;rw[<-HR.o];exact⟨by rw[g,f],eA⟩
def PI(_:V)(c:List J)(z:Int):Prop:=c=[Y Z z]
abbrev Ud(w:V)(v:J)(zs:List Int):Prop:=Sl 3 1 PI w v zs
def Ud.f{w w' v zs}(h:Ud w v zs)(k:Ba w w'):Ud w' v zs:=Sl.ext h (fun _ _ h=>h) k
def Ud.at'{w a n c zs}(h:Ud w (O a n c) zs){i z}(g:zs[i]?=I z):∃b o,a=I ⟨b,o,X⟩/\b<w.heap.size/\w.cell? ⟨b,o+i,X⟩=I (Y Z z):=by obtain⟨b,o,d,rfl,e,j,rfl,f⟩:=Sl.at h g;have:=f 0 _ rfl;rw[Nat.mul_one,Nat.add_zero]at this;exact⟨b,o,rfl,e,this⟩
def Ea.is{w base v zs}(h:Ea 3 1 w base v (zs.map ic)):Ud w v zs:=
 Ea.sl h sM (fun i c x b d=>by
  rw[lP,d]at b;cases b;rfl)
def qH(w:V)(f:Int->Bool)(zs:List Int)(g:Nat)(b:J)(W:V):Prop:=
 ∃i:Nat,i<=zs.length/\b=Y Z i/\g=zs.length-i/\Ba w W/\∀j y,j<i->zs[j]?=I y->f y=false
end
section
open Go.RowKit Go.Shelf Go.Sort
def JC(W:V){k}(e:k=W.heap.size) ps(f:ps.length<=1000):Ia (W.alloc (N (ps.map pc).flatten.toArray 91)) (O (I ⟨k,0,X⟩) ps.length ps.length) ps:=by
 subst e;exact⟨ps.map pc,by simp,Fs,⟨by rw[Fm Fs];simp,I ⟨W.heap.size,0,X⟩,ps.length,rfl,nE _,by unfold maxLen;omega,.inr ⟨W.heap.size,0,_,(0,0),rfl,aN _ _,fun i x b=>by simpa using b⟩⟩,
  fun i c x d b=>by rw[lP,b]at d;cases d;rfl⟩
def vP W{k base}(o:k=W.heap.size)(n:base<=W.heap.size)(d:List (Pl×J))(p:∀q∈d,Ia W q.2 q.1.shape/\0<=q.1.skin)(r:d.length<=1000):uj (W.alloc (N (d.map fun q=>(Dd q.1 q.2).toList).flatten.toArray 95)) base (O (I ⟨k,0,X⟩) d.length d.length) (d.map Prod.fst):=by
 subst o;have e:∀c∈(d.map fun q=>(Dd q.1 q.2).toList),c.length=10:=fun c j=>by
  obtain⟨q,_,rfl⟩:=List.mem_map.1 j;rfl
 have b:=Fm e;rw[lL]at b;refine⟨d.map fun q=>(Dd q.1 q.2).toList,⟨e,by rw[b,lL],.inr ⟨W.heap.size,d.length,_,by rw[lL],n,aN _ _,by rw[lL];exact nE _,by unfold maxLen;omega,by rw[List.size_toArray,b],by rw[lL,<-b];exact List.take_length⟩⟩,by simp,?_⟩;intro i c x j l;rw[lP,Option.map_eq_some_iff]at j l;obtain⟨q,f,rfl⟩:=j;obtain⟨t,g,rfl⟩:=l;rw[f]at g;cases g;have:=p q (lM f);exact⟨q.2,rfl,this.1.f ((eR W).alloc _),this.2⟩
def Mj:LP:=[(0,0),(200,0),(200,80),(0,80)]
def iS w:Calls Tryz.prog 106 #[] w fun e w'=>∃v,e=.returned (M #[.string ⟨#[98,114,105,99,107]⟩,v,Y Z 100,Y Z 2400,Y Z 1,Y Z 0])/\Ia w' v Mj/\Ba w w':=by go_in;go_wp2;refine bR (v:=M #[.string ⟨#[98,114,105,99,107]⟩,O (I ⟨w.heap.size+1,0,X⟩) 4 4,Y Z 100,Y Z 2400,Y Z 1,Y Z 0]) (by simp[results,Tryz.results106,go_sem]) rfl ⟨_,rfl,?_,eA⟩;exact JC _ sM Mj dM
def Ka(b:ByteArray)(x z:Int):Pl:=⟨b,Mj,100,2400,1,0,0,x,z,1⟩
def Fc:LP:=[(-1000,0),(1000,0)]
def Qh{W:V}{b cs T d}(h:W.heap[b]?=I (N cs T d)) i u:(W.setCell ⟨b,i,X⟩ u).heap[b]?=I (N (cs.setIfInBounds i u) T d):=by simp[World.setCell,Array.getElem?_modify,h]
end
section
open Go.RowKit Go.Shelf Go.Sort Go.Lib
structure JS where
 p:Pl
 k:Int
 x:Int×Int
 z:Int×Int
def Ib(i:Nat)(p:Pl):JS:=⟨p,i,td Prod.fst (Ca p),td Prod.snd (Ca p)⟩
def Se(ps:List Pl):List JS:=ps.mapIdx Ib
def Ah(j:JS×J):Array J:=#[.string j.1.p.name,j.2,Y Z j.1.p.depth,Y Z j.1.p.density,Y Z j.1.p.gx,Y Z j.1.p.gz,Y Z j.1.p.way,Y Z j.1.p.ax,Y Z j.1.p.az,Y A j.1.p.skin,Y Z j.1.k,Y Z j.1.x.1,Y Z j.1.x.2,Y Z j.1.z.1,Y Z j.1.z.2]
def jc(j:JS×J):List J:=(Ah j).toList
def yr{ps i p}(h:ps[i]?=I p):(Se ps)[i]?=I (Ib i p):=by unfold Se;rw[List.getElem?_mapIdx,h];rfl
def ko ps:(Se ps).length=ps.length:=by simp[Se]
def Pr:Array J:=#[.string ⟨#[]⟩,O X 0 0,Y Z 0,Y Z 0,Y Z 0,Y Z 0,Y Z 0,Y Z 0,Y Z 0,Y A 0,Y Z 0,Y Z 0,Y Z 0,Y Z 0,Y Z 0]
def xx:(Tryz.prog.info? 113).map (fun i=>(i.zero,i.size,i.bytes))=I (I (M Pr),15,144):=kM
def mU(w:V)(base:Nat)(ps:List Pl)(g:Nat)(t3 b:J)(W:V):Prop:=
 ∃(i:Nat)(js:List (JS×J)),i<=ps.length/\b=Y Z i/\g=ps.length-i/\Ba w W/\base<=W.heap.size/\Ea 113 15 W base t3 (js.map jc)/\js.map Prod.fst=(Se ps).take i/\∀j∈js,Ia w j.2 j.1.p.shape
def Bp(w:V)(ps:List Pl)(e:Ending)(w':V):Prop:=∃(v:J)(js:List (JS×J)),e=.returned v/\Ea 113 15 w' w.heap.size v (js.map jc)/\js.map Prod.fst=Se ps/\(∀j∈js,Ia w j.2 j.1.p.shape)/\Ba w w'
def AR w vg vp ps(hg:∃a n c,vg=O a n c)(hp:ld w vp ps)(ar:Gw w)(av:∀p∈ps,Fa p=true)(aO:ps.length<=120):Calls Tryz.prog 50 #[M #[vg,vp]] w (Bp w ps):=by
 obtain⟨ga,gn,gc,rfl⟩:=hg;have aR:=za (fun(W:V)(hW:Ba w W)=>hp.f hW);have aA:=za ar;have aE:=za av;obtain⟨pa,pn,a1,rfl⟩:=Ma hp;have ae:=hp.len;rw[<-ae]at aO;have Hn:=za ae.symm;obtain⟨R,hR⟩:=gX (Bp w ps);rw[hR];have HR:=za hR;have Hp:=za hp;clear hp ar av ae hR;go_in;go_wp2;go_loopg [3,13] pn (mU w w.heap.size ps)
 case atStart=>exact⟨0,[],by omega,rfl,by rw[Hn.o];rfl,eA,by simp,by simpa using Ea.nil _ _ _ _,by simp,fun j hj=>by cases hj⟩
 case round =>
  obtain⟨i,js,hi,rfl,rfl,hx,aJ,r,L,ac⟩:=hrel;rw[Hn.o]at hi;obtain⟨va,vn,vc,rfl⟩:=r.i;have au:js.length=i:=by
   have:=congrArg List.length L;rw[lL,List.length_take,ko,Hn.o]at this;omega
  have aD:=za (show (js.map jc).length<=120 by rw[lL,au];omega);have ao:=za (fun j (h:(Value.slice va vn vc).ownBlock=I j)=>r.lt j h);have ap:=za r;have Hx:=za hx;have aC:=za L;have aB:=za ac;by_cases aM:i<pn
  ·obtain⟨p,hq⟩:∃q,ps[i]?=I q:=⟨ps[i]'(by rw[Hn.o];omega),by simp[Hn.o,aM]⟩;obtain⟨b,o,v,rfl,aI,af,dk,aq⟩:=Hp.o.at' hq;have hb:b<wr.heap.size:=Nat.lt_of_lt_of_le aI hx.size;have d1:Ia wr v p.shape:=af.f hx;have x:∀(j:Nat) u,(Dd p v)[j]?=I u->wr.cell? ⟨b,o+i*10+j,X⟩=I u:=fun j u hj=>hx.d (aq j u hj);clear aq;have aG:=za af;have an:=za (fun W (hW:Ba wr W)=>zT W p v (d1.f hW) dk (aA.o.ext (hx.trans hW)));have aw:=aE.o p (lM hq);have aF:=za aw;obtain⟨d,g,f,rfl⟩:=Ma d1;have Hq:=za hq;have aH:=x 0 (.string p.name) rfl;have aS:=x 1 (O d g f) rfl;have aT:=x 2 (Y Z p.depth) rfl;have aU:=x 3 (Y Z p.density) rfl;have aV:=x 4 (Y Z p.gx) rfl;have aW:=x 5 (Y Z p.gz) rfl;have aX:=x 6 (Y Z p.way) rfl;have aY:=x 7 (Y Z p.ax) rfl;have aZ:=x 8 (Y Z p.az) rfl;have a0:=x 9 (Y A p.skin) rfl;simp only[Nat.add_zero]at aH;unfold Dd at an;clear x hq r hx L ac d1 af au aw;go_wp2_with(go_at_call 84;refine cM (an.o _ eA) ?_;rintro e w5 (⟨h5,rfl,ag⟩|⟨_,v5,rfl,ab,ag⟩);(focus(have:=aF.o;rw[h5]at this;cases this));obtain⟨a5,n5,c5,rfl⟩:=Ma ab;obtain⟨aK,aL⟩:=ag.cells);have X5:Ba wr w5:=eA;have K5:=ag.e (aN wr (N #[.string p.name,O d g f,Y Z p.depth,Y Z p.density,Y Z p.gx,Y Z p.gz,Y Z p.way,Y Z p.ax,Y Z p.az,Y A p.skin] 95));have e0:=Aa K5 0 (.string p.name);have e1:=Aa K5 1 (O d g f);have e2:=Aa K5 2 (Y Z p.depth);have e3:=Aa K5 3 (Y Z p.density);have e4:=Aa K5 4 (Y Z p.gx);have e5:=Aa K5 5 (Y Z p.gz);have e6:=Aa K5 6 (Y Z p.way);have e7:=Aa K5 7 (Y Z p.ax);have e8:=Aa K5 8 (Y Z p.az);have e9:=Aa K5 9 (Y A p.skin);obtain⟨xl,ai⟩:=gX ((td Prod.fst (Ca p)).1);obtain⟨xh,ah⟩:=gX ((td Prod.fst (Ca p)).2);obtain⟨zl,ak⟩:=gX ((td Prod.snd (Ca p)).1);obtain⟨zh,aj⟩:=gX ((td Prod.snd (Ca p)).2);have al:=za (fun W (hW:Ba w5 W)=>yT W (O a5 n5 c5) (Ca p) (ab.f hW));have am:=za (fun W (hW:Ba w5 W)=>xT W (O a5 n5 c5) (Ca p) (ab.f hW));simp only[ai,ah,ak,aj]at al am;have hj:jc (Ib i p,O d g f)=[.string p.name,O d g f,Y Z p.depth,Y Z p.density,Y Z p.gx,Y Z p.gz,Y Z p.way,Y Z p.ax,Y Z p.az,Y A p.skin,Y Z i,Y Z xl,Y Z xh,Y Z zl,Y Z zh]:=by
    unfold jc Ah Ib;dsimp only;rw[ai,ah,ak,aj]
   have Hj:=za hj;clear ai ah ak aj ab hj aK aL;refine jd [(⟨wr.heap.size,0,X⟩,.string p.name),(⟨wr.heap.size,1,X⟩,O d g f),(⟨wr.heap.size,2,X⟩,Y Z p.depth),(⟨wr.heap.size,3,X⟩,Y Z p.density),(⟨wr.heap.size,4,X⟩,Y Z p.gx),(⟨wr.heap.size,5,X⟩,Y Z p.gz),(⟨wr.heap.size,6,X⟩,Y Z p.way),(⟨wr.heap.size,7,X⟩,Y Z p.ax),(⟨wr.heap.size,8,X⟩,Y Z p.az),(⟨wr.heap.size,9,X⟩,Y A p.skin)] cA fun l=>?_;refine sN 0 ?_
   iterate 5 refine Db ?_
   refine oN ?_;refine sN 6 ?_
   iterate 2 refine Db ?_
   refine oN ?_;refine Ac (i:=5) (al.o _ eA) ?_;rintro e w6 ⟨rfl,aP⟩;refine⟨_,rfl,(cE l aP),fun l=>?_⟩;have X6:Ba w5 w6:=eA;refine Ac (i:=8) (am.o _ X6) ?_;rintro e w7 ⟨rfl,ay⟩;refine⟨_,rfl,(cE l ay),fun l=>?_⟩;have X7:Ba w5 w7:=X6.trans ay;refine La (i:=9) ?_;refine Te (i:=10) fun K hK=>?_;go_simp;refine kO hK (cE l ((eR _).alloc _)) (fun l=>?_);clear hK K;have hA:Ba wr (w7.alloc (N #[.string p.name,O d g f,Y Z p.depth,Y Z p.density,Y Z p.gx,Y Z p.gz,Y Z p.way,Y Z p.ax,Y Z p.az,Y A p.skin,Y Z i,Y Z xl,Y Z xh,Y Z zl,Y Z zh] 113)):=(X5.trans X7).alloc _;refine Te (i:=11) fun K hK=>?_;refine kp (T:=113) (t:=87) (z:=M Pr) (k:=15) (bytes:=144) (v:=O va vn vc) (base:=w.heap.size) xx rfl dM dM Tryz.underlying87 rfl _ _ rfl rfl (cs:=js.map jc) (ap.o.ext hA) (ad:=⟨w7.heap.size,0,X⟩) (m:=1) (c:=1) rfl [[.string p.name,O d g f,Y Z p.depth,Y Z p.density,Y Z p.gx,Y Z p.gz,Y Z p.way,Y Z p.ax,Y Z p.az,Y A p.skin,Y Z i,Y Z xl,Y Z xh,Y Z zl,Y Z zh]] rfl sM (by exact Mo w7 #[.string p.name,O d g f,Y Z p.depth,Y Z p.density,Y Z p.gx,Y Z p.gz,Y Z p.way,Y Z p.ax,Y Z p.az,Y A p.skin,Y Z i,Y Z xl,Y Z xh,Y Z zl,Y Z zh] 113) (by simp[Value.oneCell']) (by have:=aD.o;omega) (by have:=hA.size;omega) ?_;intro v' w9 aa y aQ;obtain⟨a9,n9,c9,rfl⟩:=aa.i;refine kO hK (Da.grown l y (fun q hq e=>?_)) (fun l=>?_)
   ·have h9:=(ao.o _ e.symm).2;simp at hq;rcases hq with rfl|rfl|rfl|rfl|rfl|rfl|rfl|rfl|rfl|rfl<;>(dsimp only at h9;omega)
   clear hK K;refine La (i:=12) ?_;refine Pb ?_;have hB:=Yg (base:=w.heap.size) y (by have:=hA.size;omega) (fun k hk=>(ao.o k hk).1);go_wp2;go_roundg (pn-(i+1))
   case measure=>have:=Hn.o;omega
   case rel =>
    refine⟨i+1,js++[(Ib i p,O d g f)],by rw[Hn.o];omega,by go_num,by rw[Hn.o],(Hx.o.trans hA).D hB (nE _),nT (nT aJ hA.size) hB.size,?_,?_,?_⟩
    ·rw[List.map_append,List.map_cons,List.map_nil,Hj.o];exact aa
    ·rw[List.map_append,aC.o,ze _ _ _ (yr Hq.o)];rfl
    ·intro j hj;rcases List.mem_append.1 hj with h|h
     ·exact aB.o j h
     ·rw[List.mem_singleton.1 h];exact aG.o
  ·obtain rfl:i=pn:=oM;have e:(Se ps).take i=Se ps:=lT (by rw[ko,Hn.o];exact nE _);rw[e]at L;go_wp2;rw[<-HR.o];exact⟨_,js,rfl,r,L,ac,hx⟩
def pH(w:V)(f:JS->Bool)(js:List (JS×J))(g:Nat)(b:J)(W:V):Prop:=
 ∃i:Nat,i<=js.length/\b=Y Z i/\g=js.length-i/\Ba w W/\∀j y,j<i->js[j]?=I y->f y.1=false
def PJ(_:V)(c:List J)(j:JS×J):Prop:=c=jc j
abbrev Ge(w:V)(v:J)(js:List (JS×J)):Prop:=Sl 113 15 PJ w v js
def Ge.f{w w' v js}(h:Ge w v js)(k:Ba w w'):Ge w' v js:=Sl.ext h (fun _ _ h=>h) k
def Ge.at'{w a n c js}(h:Ge w (O a n c) js){i j}(g:js[i]?=I j):∃b o,a=I ⟨b,o,X⟩/\b<w.heap.size/\∀(m:Nat) u,(Ah j)[m]?=I u->w.cell? ⟨b,o+i*15+m,X⟩=I u:=by obtain⟨b,o,d,rfl,e,l,rfl,f⟩:=Sl.at h g;exact⟨b,o,rfl,e,fun m u k=>f m u (by unfold jc;rw[Array.getElem?_toList];exact k)⟩
def Ea.js{w base v js}(h:Ea 113 15 w base v (js.map jc)):Ge w v js:=
 Ea.sl h sM (fun i c x b d=>by
  rw[lP,d]at b;cases b;rfl)
def Xj(w:V)(g o:Nat):List J->V
 | []=>w
 | u::us=>Xj (w.setCell ⟨g,o,X⟩ u) g (o+1) us
def Ea.putAll{T k base g n c i}:∀{us w b d j},Ea T k w base (O (I ⟨g,0,X⟩) n c) b->b[i]?=I d->j+us.length=k ->Ea T k (Xj w g (i*k+j) us) base (O (I ⟨g,0,X⟩) n c) (b.set i (d.take j++us))
 | [],w,b,d,j,h,f,l=>by
  have t:=h.1 d (lM f);have o:=(lS.1 f).1;have e:b.set i (d.take j++[])=b:=by
   rw[List.append_nil,lT (by simp at l;omega)];rw[<-(lS.1 f).2];exact List.set_getElem_self o
  rw[e];exact h
 | u::us,w,b,d,j,h,f,l=>by
  have t:=h.1 d (lM f);have o:=(lS.1 f).1;have p:j<k:=by simp at l;omega
  have r:=Ea.putAll (us:=us) (j:=j+1) (d:=d.set j u) (h.stored f p u) (by rw[List.getElem?_set_self o]) (by simp at l;omega);have e:(b.set i (d.set j u)).set i ((d.set j u).take (j+1)++us)=b.set i (d.take j++u::us):=by
   rw[List.set_set,ze _ _ u (by rw[List.getElem?_set_self oM]),List.take_set_of_le (nE _),List.append_assoc];rfl
  rw[e]at r;exact r
def Yn{α:Type}(f:α->Bool)(js:List α)(m c:Nat)(b:List α):Prop:=
 b.length=js.length/\c<m/\m<=js.length/\b.take c=(js.take m).filter (fun x=>!f x)/\∀j,m<=j->b[j]?=js[j]?
def Yn.start{α f js i}{x:α}(e:js[i]?=I x)(l:f x=true)(n:∀j y,j<i->js[j]?=I y->f y=false):Yn f js (i+1) i js:=by
 have o:=(lS.1 e).1;refine⟨rfl,by omega,by omega,?_,fun _ _=>rfl⟩;rw[ze _ _ _ e,List.filter_append];have g:(js.take i).filter (fun x=>!f x)=js.take i:=by
  rw[List.filter_eq_self];intro a k;obtain⟨j,b⟩:=List.mem_iff_getElem?.1 k;have d:=(lS.1 b).1;rw[List.length_take]at d;rw[List.getElem?_take_of_lt oM]at b;simp[n j a oM b]
 rw[g];simp[l]
def Yn.drop{α f js d m c}{x:α}(h:Yn f js m c d)(b:js[m]?=I x)(k:f x=true):Yn f js (m+1) c d:=by obtain⟨e,l,n,g,i⟩:=h;have o:=(lS.1 b).1;refine⟨e,by omega,by omega,?_,fun j p=>i j oM⟩;rw[ze _ _ _ b,List.filter_append,g];simp[k]
def Yn.keep{α f js b m c}{x:α}(h:Yn f js m c b)(d:js[m]?=I x)(k:f x=false):Yn f js (m+1) (c+1) (b.set c x):=by obtain⟨e,l,n,g,i⟩:=h;have o:=(lS.1 d).1;refine⟨by rw[List.length_set];exact e,by omega,by omega,?_,fun j p=>by rw[List.getElem?_set_ne oM];exact i j oM⟩;rw[ze _ _ _ d,List.filter_append,<-g,ze _ _ _ (show (b.set c x)[c]?=I x by rw[List.getElem?_set_self oM]),List.take_set_of_le (nE _)];simp[k]
def Yn.done{α f}{js b:List α}{c}(h:Yn f js js.length c b):b.take c=js.filter (fun x=>!f x):=by
 rw[h.2.2.2.1,List.take_length]
