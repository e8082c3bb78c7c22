import Derived.Test.YtjnjpagegkcgfaaGreatDoorCoqA02
import Derived.Sort.CutIn
import Derived.Deep.LoopGhost
import Derived.Deep.CutBlock
import Derived.Deep.DeepCutAuto
set_option maxRecDepth 1000000
set_option maxHeartbeats 16000000
set_option linter.all false
open Go.Value renaming slice->O,agg->X,bool->J,int->E,pointer->H
open Go renaming World->Y,Value->I,Addr->Q
open Option renaming none->Z,some->V
open Go.Obj renaming cells->N
open Go.IntKind renaming i64->F
namespace Go.Proofs.YtjnjpagegkcgfaaGreatDoor.Cop
section
open Go.RowKit Go.Shelf
attribute [local go_sem] Oper.semAt_some
def Aa.keepsFrom{B W W'}(h:Aa W W'):KeepsFrom B W W':=⟨h.size,fun _ _ _ a _=>h.e a⟩
def Fk{T w base v xs}(h:Db T w base v xs):Db T w.drew base v xs:=h
def Dg(w:Y) o k:(w.alloc o).heap[k]?=if k=w.heap.size then V o else w.heap[k]?:=by show (w.heap.push o)[k]?=_;rw[Array.getElem?_push]
def Db.stay{T w w' base v xs}(h:Db T w base v xs)(d:∀(g:Nat)(o:Obj),base<=g->w.heap[g]?=V o->w'.heap[g]?=V o):Db T w' base v xs:=by
 obtain⟨e,a⟩:=h;refine⟨e,?_⟩;rcases a with a|⟨g,cap,cur,hv,b,c,r⟩
 ·exact .inl a
 ·exact .inr ⟨g,cap,cur,hv,b,d _ _ b c,r⟩
def Ia.putObj{T w D x o}(h:w.heap[D]?=V (.deferred x)):Ia T w (w.putObj D o):=fun k b c a=>by
 rw[World.putObj_heap_other];exact a;rintro rfl;rw[h]at a;cases a
def Ug(w:Y)(a:I)(n:Nat)(L:Int)(i:Int)(os:List Int)(W:Y):Prop:=
 Aa w W/\w.heap.size+1+1+1+1+1+1+1+1<=W.heap.size/\W.heap[w.heap.size+1]?=V (N #[a] 59 (0,0))/\W.heap[w.heap.size+1+1]?=V (N #[O Z 0 0] 59 (0,0))/\
 (∃sl ds,W.heap[w.heap.size+1+1+1]?=V (N #[sl] 59 (0,0))/\Db 2 W (w.heap.size+1+1+1+1+1+1+1+1) sl ds/\xg B ds/\dv B ds=L)/\
 W.heap[w.heap.size+1+1+1+1+1]?=V (N #[O (V ⟨w.heap.size+1+1+1+1,0,Z⟩) n n] 57 (0,0))/\W.heap[w.heap.size+1+1+1+1+1+1]?=V (N #[E F i] 3 (0,0))/\
 Db 2 W (w.heap.size+1+1+1+1) (O (V ⟨w.heap.size+1+1+1+1,0,Z⟩) n n) os
def Ug.keep{w d n L i os W W'}(h:Ug w d n L i os W)(o:Aa w W')(a:∀T,Ia T W W')(r:W.heap.size<=W'.heap.size):Ug w d n L i os W':=by obtain⟨p,q,f,g,⟨sl,e,j,h6,k,l⟩,m,b,c⟩:=h;exact⟨o,by omega,a _ _ _ _ f,a _ _ _ _ g,⟨sl,e,a _ _ _ _ j,h6.keep (a _),k,l⟩,a _ _ _ _ m,a _ _ _ _ b,c.keep (a _)⟩
def Ug.ext{w a n L i os W W'}(h:Ug w a n L i os W)(k:Aa W W'):Ug w a n L i os W':=h.keep (h.1.trans k) (fun _=>k.keep) k.size
def Ug.left{w e n L i L' os W}(h:Ug w e n L i os W){sl ds}(q:Db 2 W (w.heap.size+1+1+1+1+1+1+1+1) sl ds)(p:xg B ds)(hv:dv B ds=L'):Ug w e n L' i os (W.setCell ⟨w.heap.size+1+1+1,0,Z⟩ sl):=by obtain⟨g,j,l,m,⟨r,f,d,h6,s,t⟩,o,b,c⟩:=h;have a:∀k,k≠w.heap.size+1+1+1->(W.setCell ⟨w.heap.size+1+1+1,0,Z⟩ sl).heap[k]?=W.heap[k]?:=fun k a=>bS _ _ _ _ a;refine⟨g.set dO _,by rw[yg];exact j,(a _ oM).trans l,(a _ oM).trans m,⟨sl,ds,one_setCell d,q.keep ((Ia.refl _ W).set d dM _),p,hv⟩,(a _ oM).trans o,(a _ oM).trans b,c.setOther (by simp[Value.ownBlock]) _⟩
def Ug.num{w g n L i os W}(h:Ug w g n L i os W) e:Ug w g n L e os (W.setCell ⟨w.heap.size+1+1+1+1+1+1,0,Z⟩ (E F e)):=by obtain⟨j,l,m,o,⟨f,c,p,h6,q,r⟩,s,b,d⟩:=h;have a:∀k,k≠w.heap.size+1+1+1+1+1+1->(W.setCell ⟨w.heap.size+1+1+1+1+1+1,0,Z⟩ (E F e)).heap[k]?=W.heap[k]?:=fun k a=>bS _ _ _ _ a;refine⟨j.set dO _,by rw[yg];exact l,(a _ oM).trans m,(a _ oM).trans o,⟨f,c,(a _ oM).trans p,h6.keep ((Ia.refl _ W).set b dM _),q,r⟩,(a _ oM).trans s,one_setCell b,d.setOther (by simp[Value.ownBlock]) _⟩
def Ug.o{w g n L i os W}(h:Ug w g n L i os W) j x:Ug w g n L i (os.set j x) (W.setCell ⟨w.heap.size+1+1+1+1,j,Z⟩ (E F x)):=by obtain⟨l,m,o,p,⟨f,b,q,h6,r,s⟩,t,c,d⟩:=h;have a:∀k,k≠w.heap.size+1+1+1+1->(W.setCell ⟨w.heap.size+1+1+1+1,j,Z⟩ (E F x)).heap[k]?=W.heap[k]?:=fun k a=>bS _ _ _ _ a;refine⟨l.set dO _,by rw[yg];exact m,(a _ oM).trans o,(a _ oM).trans p,⟨f,b,(a _ oM).trans q,h6.setOther ?_ _,r,s⟩,(a _ oM).trans t,(a _ oM).trans c,d.stored j x⟩;intro e;have:=(World.ownsRow.lt h6 _ e).1;dsimp only at this;omega
def Zo(w:Y) x:Db 2 (w.alloc (N #[E F x] 2)) w.heap.size (O (V ⟨w.heap.size,0,Z⟩) 1 1) [x]:=
 World.ownsRow_lit w #[E F x] 1 (nE _) dM rfl
def Sj(w:Y)(a D:Nat)(W W':Y):Prop:=KeepsFrom D W W'/\Re w a W W'
def Sj.refl w a D W:Sj w a D W W:=⟨KeepsFrom.refl _ _,Re.refl _ _ _⟩
def Sj.set{w a D W A}(h:Sj w a D W A){p}(c:w.heap.size<=p.block)(b:p.block≠a) u:Sj w a D W (A.setCell p u):=⟨h.1.trans ((KeepsOthers.setCell _ _ _).from _),h.2.set c b u⟩
def Sj.ext{w a D W A C}(h:Sj w a D W A)(k:Aa A C)(c:w.heap.size<=A.heap.size)(b:a<A.heap.size):Sj w a D W C:=⟨h.1.trans k.keepsFrom,h.2.ext k c b⟩
def Ug.rdI{w a n L i os W}(h:Ug w a n L i os W):W.cell? ⟨w.heap.size+1+1+1+1+1+1,0,Z⟩=V (E F i)/\W.frozen? ⟨w.heap.size+1+1+1+1+1+1,0,Z⟩=false:=⟨cell_of_one h.2.2.2.2.2.2.1,free_of_one h.2.2.2.2.2.2.1⟩
def Ug.rdB{w a n L i os W}(h:Ug w a n L i os W):W.cell? ⟨w.heap.size+1,0,Z⟩=V a:=cell_of_one h.2.2.1
def Ug.rdO{w a n L i os W}(h:Ug w a n L i os W):W.cell? ⟨w.heap.size+1+1+1+1+1,0,Z⟩=V (O (V ⟨w.heap.size+1+1+1+1,0,Z⟩) n n):=cell_of_one h.2.2.2.2.2.1
def Ug.rdL{w j n L i os W}(h:Ug w j n L i os W):∃a5 m5 c5,W.cell? ⟨w.heap.size+1+1+1,0,Z⟩=V (O a5 m5 c5)/\W.frozen? ⟨w.heap.size+1+1+1,0,Z⟩=false/\Gd W (X #[O a5 m5 c5]) L:=by obtain⟨k,l,m,o,⟨g,a,b,h6,e,f⟩,p,c,d⟩:=h;obtain⟨a5,c5,rfl⟩:=h6.form;exact⟨a5,_,c5,cell_of_one b,free_of_one b,Tg.u ⟨_,a,rfl,h6,e,f⟩⟩
def Ug.leftCell{w d n L i os W}(h:Ug w d n L i os W) sl:(W.setCell ⟨w.heap.size+1+1+1,0,Z⟩ sl).cell? ⟨w.heap.size+1+1+1,0,Z⟩=V sl:=by obtain⟨c,a,b,_⟩:=h.2.2.2.2.1;exact cell_of_one (one_setCell b)
def Ug.leftD{w f n L L' i os W}(h:Ug w f n L i os W){sl ds base}(a:Db 2 W base sl ds)(d:xg B ds)(hv:dv B ds=L'):Gd (W.setCell ⟨w.heap.size+1+1+1,0,Z⟩ sl) (X #[sl]) L':=by obtain⟨e,b,c,_⟩:=h.2.2.2.2.1;exact Tg.u ⟨_,ds,rfl,a.setOther (a.ne_block c dM) _,d,hv⟩
def ZE{a b}(h:a<b):decide (Gc a b<0)=true:=by simp only[Gc];grind
def Mo{a b}(h:¬a<b):decide (Gc a b<0)=false:=by simp only[Gc];grind
def tH{k}(a:0<=k)(b:k<18446744073709551616):Lm Mc k:=by refine Lm.mono (j:=3) ?_ dM;unfold Lm B;constructor<;>omega
def EK k:IntKind.u64.wrap k=k%18446744073709551616:=by simp[IntKind.wrap,IntKind.signed,IntKind.bits]
def Lm.le{k a b}(h:Lm k b)(c:0<=a)(d:a<=b):Lm k a:=by have:=jj Pn k;unfold Lm at *;omega
def QK{os:List Int}{j}(h:os[j]?=V 0):os.set j 0=os:=by obtain⟨a,b⟩:=lS.1 h;rw[<-b];exact List.set_getElem_self a
def Ip(w:Y)(a:I)(nb:Int)(n:Nat)(pre:List zj)(W:Y):Prop:=
 pre.length<=n/\∃os,Ug w a n (hv pre%nb) ((n:Int)-pre.length) os W/\os.length=n/\Ud B os/\dv B os=B ^ (n-pre.length)*(hv pre/nb)/\∀j,j<n-pre.length->os[j]?=V 0
def XM{os n p h x nb}(i:p<n)(g:os.length=n)(c:dv B os=B ^ (n-p)*(h/nb))(d:os[n-(p+1)]?=V 0)(f:0<nb):dv B (os.set (n-(p+1)) ((x+B*(h%nb))/nb))=B ^ (n-(p+1))*((x+B*h)/nb):=by
 rw[Up _ d,c,show n-p=(n-(p+1))+1 by omega,Int.pow_succ,Int.sub_zero];have e:(x+B*h)/nb=B*(h/nb)+(x+B*(h%nb))/nb:=by
  have a:h=nb*(h/nb)+h%nb:=(Int.mul_ediv_add_emod h nb).symm;have b:x+B*h=(x+B*(h%nb))+nb*(B*(h/nb)):=by
   generalize h/nb=q at *
   generalize h%nb=r at *
   subst a;grind
  rw[b,Int.add_mul_ediv_left _ _ oM,Int.add_comm]
 rw[e];generalize B ^ (n-(p+1))=P;generalize h/nb=q;generalize (x+B*(h%nb))/nb=r;grind
def YK{h x nb}(a:0<nb):(x+B*h)%nb=(x+B*(h%nb))%nb:=by rw[Int.add_emod,Int.mul_emod,<-Int.emod_emod_of_dvd h (Int.dvd_refl nb),<-Int.mul_emod,<-Int.add_emod];rw[Int.emod_emod_of_dvd h (Int.dvd_refl nb)]
def Qp{L x nb}(a:0<=L)(b:L<nb)(c:0<=x/\x<16777216):0<=(x+B*L)/nb/\(x+B*L)/nb<16777216:=by unfold B;refine⟨Int.ediv_nonneg oM oM,Int.ediv_lt_of_lt_mul oM ?_⟩;omega
def Ip.next{w l nb n pre x os W}(h:Ug w l n ((x.1+B*(hv pre%nb))%nb) ((n:Int)-pre.length-1) (os.set (n-(pre.length+1)) ((x.1+B*(hv pre%nb))/nb)) W)(o:pre.length<n)(c:os.length=n)(i:Ud B os)(b:dv B os=B ^ (n-pre.length)*(hv pre/nb))(f:∀j,j<n-pre.length->os[j]?=V 0)(a:0<nb):Ip w l nb n (pre++[x]) W:=by
 have p:=x.2;have k:=Qp (L:=hv pre%nb) (x:=x.1) (Int.emod_nonneg (hv pre) oM) (Int.emod_lt_of_pos (hv pre) a) p;refine⟨by simp;omega,os.set (n-(pre.length+1)) ((x.1+B*(hv pre%nb))/nb),?_,by simpa using c,?_,?_,?_⟩
 ·rw[WP,YK a,lA,List.length_singleton];have e:((n:Int)-((pre.length+1:Nat):Int))=(n:Int)-pre.length-1:=oM;rw[e];exact h
 ·intro d g;rcases List.mem_or_eq_of_mem_set g with g|rfl
  ·exact i d g
  ·unfold B at k ⊢;exact k
 ·rw[WP,lA,List.length_singleton];exact XM o c b (f _ oM) a
 ·intro j m;rw[lA,List.length_singleton]at m;rw[List.getElem?_set_ne oM];exact f j oM
def sR(w:Y)(b:I)(n:Nat)(L i:Int)(os:List Int)(a D:Nat)(W:Y)(t9:I)(wr:Y):Prop:=
 ∃k:Int,t9=E F k/\ -9223372036854775808<=k/\k<9223372036854775808/\Ug w b n L i os wr/\Sj w a D W wr
def uR(w:Y)(c:I)(n:Nat)(L i:Int)(os:List Int)(a D:Nat)(W:Y)(b:Bool)(t:I)(wr:Y):Prop:=
 t=J b/\Ug w c n L i os wr/\Sj w a D W wr
def Yp x:-9223372036854775808<=IntKind.i64.wrap x/\IntKind.i64.wrap x<9223372036854775808/\IntKind.i64.wrap x%18446744073709551616=x%18446744073709551616:=by simp[IntKind.wrap,IntKind.signed,IntKind.bits];omega
def VA{k d a L nb:Int}(h:d%18446744073709551616=(k-1)%18446744073709551616)(f:a=k%18446744073709551616)(e:0<=L)(c:L<nb*a):(d%18446744073709551616).toNat<(k%18446744073709551616).toNat:=by
 have b:a≠0:=by rintro b;rw[b]at c;simp at c;omega
 omega
def tR(w:Y)(b:I)(n:Nat)(L i:Int)(os:List Int)(a D:Nat)(W:Y)(wr:Y):Prop:=
 Ug w b n L i os wr/\Sj w a D W wr
def rR(w:Y)(b:I)(n:Nat)(L nb i:Int)(os:List Int)(a D:Nat)(W:Y)(t9:I)(wr:Y):Prop:=
 ∃k L2:Int,t9=E F k/\ -9223372036854775808<=k/\k<9223372036854775808/\0<=L2/\L2+nb*(k%18446744073709551616)=L/\Ug w b n L2 i os wr/\Sj w a D W wr
def Lm.dig{k ds}(h:Ud B ds)(a:ds.length<=k):Lm k (dv B ds):=by have c:=Uh Pn h;have d:=Qm (b:=B) dM a;have e:=jj Pn k;unfold Lm;omega
def rJ{a b}(h:b<=a):decide (0<=Gc a b)=true:=by simp only[Gc];grind
def JL{a b}(h:¬b<=a):decide (0<=Gc a b)=false:=by simp only[Gc];grind
def FH{nb L2 L a}(b:0<nb)(g:0<=a)(f:L2+nb*a=L)(j:nb<=L2)(e:L<B*nb):a+1<=L/nb/\a+1<16777217:=by
 have c:(a+1)*nb<=L:=by rw[<-f,Int.add_mul,Int.mul_comm a nb];omega
 have i:a+1<=L/nb:=(Int.le_ediv_iff_mul_le b).2 c;have d:L/nb<B:=Int.ediv_lt_of_lt_mul b e;unfold B at d;omega
def QJ{nb L2 L k}(a:0<nb)(c:L2+nb*(k%18446744073709551616)=L)(b:0<=L2)(l:¬nb<=L2)(e:L<B*nb)(f:-9223372036854775808<=k)(g:k<9223372036854775808):k=L/nb/\L2=L%nb:=by
 have i:L/nb=k%18446744073709551616:=by rw[<-c,Int.add_mul_ediv_left _ _ oM,Int.ediv_eq_zero_of_lt b oM];omega
 have j:L%nb=L2:=by rw[<-c,Int.add_mul_emod_self_left,Int.emod_eq_of_lt b oM]
 have d:L/nb<B:=Int.ediv_lt_of_lt_mul a e;unfold B at d;omega
def XK{x r L nb}(h:x+B*r=L)(b:x<16777216)(a:r<nb):L<B*nb:=by unfold B at *;omega
def Fd:Nat:=10000000
def ZM{zs os ds m a nb}(b:dv B zs=dv B os)(c:dv B os=B ^ (m-ds.reverse.length)*(hv ds.reverse/nb))(d:dv B (Fg ds)=a)(h4:ds.length=m):dv B zs=a/nb:=by rw[b,c,NM,d,List.length_reverse,h4,Nat.sub_self];simp
def YM{a ds b nb}(c:dv B a=hv ds.reverse%nb)(d:dv B (Fg ds)=b):dv B a=b%nb:=by rw[c,NM,d]
def AO{w d D tmps f nb a4 a5 b c zs a v2 v3 x}(t4:tmps.getD 4 undef=H (V ⟨w.heap.size+1+1,0,Z⟩))(t5:tmps.getD 5 undef=H (V ⟨w.heap.size+1+1+1,0,Z⟩))(m:d.heap[w.heap.size+1+1]?=V (N #[v2] 59 (0,0)))(q3:d.heap[w.heap.size+1+1+1]?=V (N #[v3] 59 (0,0)))(t:Db 2 d (w.heap.size+1+1+1+1) (O a4 zs.length b) zs)(u:Db 2 d (w.heap.size+1+1+1+1+1+1+1+1) (O a5 a.length c) a)(R:xg B zs)(P:xg B a)(W:dv B zs=f/nb)(hr:dv B a=f%nb)(l:Aa w d)(g:((d.setCell ⟨w.heap.size+1+1,0,Z⟩ (O a4 zs.length b)).setCell ⟨w.heap.size+1+1+1,0,Z⟩ (O a5 a.length c)).heap[D]?=V (.deferred x))(hD:w.heap.size+1+1+1+1+1+1+1+1<=D):LeavesInM Fence.wide 6 Tryz.prog Tryz.f182 tmps (fun e s=>∃q r,e=.returned (.tuple #[q,r])/\Tg s w.heap.size q (f/nb)/\Tg s w.heap.size r (f%nb)/\Aa w s) [] FrameMode.returning (((d.setCell ⟨w.heap.size+1+1,0,Z⟩ (O a4 zs.length b)).setCell ⟨w.heap.size+1+1+1,0,Z⟩ (O a5 a.length c)).putObj D (.deferred Z)):=by
 have r2:(d.setCell ⟨w.heap.size+1+1,0,Z⟩ (O a4 zs.length b)).heap[w.heap.size+1+1]?=V (N #[O a4 zs.length b] 59 (0,0)):=one_setCell m;have n:(d.setCell ⟨w.heap.size+1+1,0,Z⟩ (O a4 zs.length b)).heap[w.heap.size+1+1+1]?=V (N #[v3] 59 (0,0)):=(bS _ _ _ _ dO).trans q3;have v:=t.setOther (p:=⟨w.heap.size+1+1,0,Z⟩) (t.ne_block m dM) (O a4 zs.length b);have y:=u.setOther (p:=⟨w.heap.size+1+1,0,Z⟩) (u.ne_block m dM) (O a4 zs.length b);have i:=l.set (p:=⟨w.heap.size+1+1,0,Z⟩) dO (O a4 zs.length b);generalize d.setCell ⟨w.heap.size+1+1,0,Z⟩ (O a4 zs.length b)=w4 at *
 have s2:(w4.setCell ⟨w.heap.size+1+1+1,0,Z⟩ (O a5 a.length c)).heap[w.heap.size+1+1]?=V (N #[O a4 zs.length b] 59 (0,0)):=(bS _ _ _ _ dO).trans r2;have s3:(w4.setCell ⟨w.heap.size+1+1+1,0,Z⟩ (O a5 a.length c)).heap[w.heap.size+1+1+1]?=V (N #[O a5 a.length c] 59 (0,0)):=one_setCell n;have k4:=v.setOther (p:=⟨w.heap.size+1+1+1,0,Z⟩) (v.ne_block n dM) (O a5 a.length c);have k5:=y.setOther (p:=⟨w.heap.size+1+1+1,0,Z⟩) (y.ne_block n dM) (O a5 a.length c);have j:=i.set (p:=⟨w.heap.size+1+1+1,0,Z⟩) dO (O a5 a.length c);generalize w4.setCell ⟨w.heap.size+1+1+1,0,Z⟩ (O a5 a.length c)=w5 at *
 have z:=cell_of_one ((World.putObj_heap_other (w:=w5) (r:=D) (o:=.deferred Z) oM).trans s2);have K:=cell_of_one ((World.putObj_heap_other (w:=w5) (r:=D) (o:=.deferred Z) oM).trans s3);have m4:=k4.keep (Ia.putObj (o:=.deferred Z) g);have m5:=k5.keep (Ia.putObj (o:=.deferred Z) g);refine⟨.tuple #[X #[O a4 zs.length b],X #[O a5 a.length c]],?_,_,_,rfl,⟨_,zs,rfl,m4.mono oM,R,W⟩,⟨_,a,rfl,m5.mono oM,P,hr⟩,?_⟩
 ·simp only[Array.getD_eq_getD_getElem?]at t4 t5;simp[results,Tryz.results182,go_sem,t4,t5,z,K]
 ·exact j.y ((Below.refl D w5).grown (grownBy_putObj' w5 D _) (by have:=Jb g;omega) (fun k e=>by cases e;omega)) oM
def It w va vb na nb(ha:Gd w va na)(hb:Gd w vb nb)(bs:Lm Fd na)(cd:Lm Fd nb)(ai:0<nb):Calls Tryz.prog 182 #[va,vb] w fun e w'=>∃q r,e=.returned (.tuple #[q,r])/\Tg w' w.heap.size q (na/nb)/\Tg w' w.heap.size r (na%nb)/\Aa w w':=by
 obtain⟨a,m,c,rfl⟩:=ha.form;obtain⟨a',m',c',rfl⟩:=hb.form;obtain⟨xs,hl,hi,hc,hv⟩:=ha.open;have hm:=bs.len hc hv;rw[hl]at hm;unfold Fd at hm;obtain⟨ds,rfl⟩:=Sv hc.1;have Hl:=ka hl;have Hv:=ka hv;clear hl hv;have du:∀(fn:Fn)(first cap:Array I)(w:Y),(Instr.makeFunc fn first cap).run Tryz.prog w = .ok (.func fn first cap) w:=fun _ _ _ _=>rfl;refine(callsIn_wide (n:=6)).1 ?_;refine callsIn_of_wp_marks Tryz.func182 rfl trivial ?_ rfl;simp only[Tryz.ntmps182,List.size_toArray,List.length_cons,List.length_nil,Nat.reduceAdd,Nat.reduceSub,Array.replicate_succ,Array.replicate_zero,List.push_toArray,List.append_toArray,List.nil_append,List.cons_append]
 gi_wp2_with(first|(gi_at_make;refine nH Bl Tryz.underlying57 rfl _ _ rfl _ rfl rfl rfl oM ?_;intro cs ak)|(refine⟨trivial,?_⟩;gi_at_call 189;refine(callsIn_wide.2 (oC _ _ _ _)).mono ?_;rintro e w' ⟨rfl,rfl⟩))
 have bo:((((((((w.alloc (N #[O a m c] 59)).alloc (N #[O a' m' c'] 59)).alloc (N #[O Z 0 0] 59)).alloc (N #[O Z 0 0] 59)).alloc (N cs 2)).alloc (N #[O (V ⟨w.heap.size+1+1+1+1,0,Z⟩) m m] 57)).alloc (N #[E F m] 3)).alloc (N #[O a m c] 59)).cell? ⟨w.heap.size+1+1+1+1+1+1+1,0,Z⟩=V (O a m c):=by
  rw[World.cell?_alloc_at _ _ _ _ sM];rfl
 refine wpIn_rangeFunc_ownG rfl dM (gf:=237) (lb:=#[H (V ⟨w.heap.size+1+1+1+1+1+1+1,0,Z⟩)]) rfl trivial (enters_of Tryz.func237 kM rfl)
  (GE _ _ trivial rfl dM (w.heap.size+1+1+1+1+1+1+1) w _ _ ds bo sM hi eA) Re.trans (Re.put (by simp;omega) sM) (Below.refl _ _) (fun _=>rfl)
  (Ip w (O a' m' c') nb m) (fun _ _ _=>False) (Pm (fun s W h=>by obtain⟨_,os,h,_⟩:=h;have:=h.2.1;simp;omega) (fun s W W' h k=>?hsim)) (fun _=>Pm (fun _ _ h=>h.elim) (fun _ _ _ h _=>h)) ?h0
  (fun x=>{ tmps:=#[X #[O a m c],X #[O a' m' c'],H (V ⟨w.heap.size,0,Z⟩),H (V ⟨w.heap.size+1,0,Z⟩),H (V ⟨w.heap.size+1+1,0,Z⟩),H (V ⟨w.heap.size+1+1+1,0,Z⟩),H (V ⟨w.heap.size+1+1+1+1+1,0,Z⟩),H (V ⟨w.heap.size+1+1+1+1+1+1,0,Z⟩),E F x.1,undef,H (V ⟨w.heap.size,0,Z⟩),O a m c,E F m,O (V ⟨w.heap.size+1+1+1+1,0,Z⟩) m m,H (V ⟨w.heap.size,0,Z⟩),O a m c,E F m,X #[O a m c],.func (.func 237) #[] #[H (V ⟨w.heap.size+1+1+1+1+1+1+1,0,Z⟩)],E F x.1,undef,undef,undef,undef,undef,undef,undef,undef,undef,undef,undef,undef,undef,undef,undef,undef,undef,undef,undef,undef,undef,undef,undef,undef,undef,undef,undef,undef,undef,undef,undef,undef,undef,undef,undef,undef,undef,undef,undef,undef,undef,undef,undef,undef,undef,undef,undef,undef],defers:=[] }) ?assign ?body ?done ?stop
 case hsim =>
  obtain⟨h1,os,h2,h3⟩:=h;exact⟨h1,os,h2.keep (k.ext h2.1 (by simp;omega)) k.keep k.size,h3⟩
 case h0 =>
  refine⟨by simp,List.replicate m 0,⟨eA,by simp,(by simp only[Dg,wZ];simp),(by simp only[Dg,wZ];simp),⟨_,[],(by simp only[Dg,wZ];simp),Db.nil _ _ _,xg.nil _,by simp[hv,Fg]⟩,(by simp only[Dg,wZ];simp),by simp only[Dg,wZ];simp,?_⟩,by simp,?_,by rw[io];simp[hv,Fg],?_⟩
  ·simpa using ((ak.alloc _).alloc _).alloc _
  ·intro d hd;have:=(List.mem_replicate.1 hd).2;unfold B;omega
  ·intro j hj;simp at hj;simp[hj]
 case assign =>
  intro l x W K hK
  gi_wp2
  exact hK
 case body =>
  rintro l pre x W ⟨h1,os,aj,aH,ar,ae,aU⟩ cg;have da:=ka bs;have bk:=ka cd;clear bs cd;have cm:=x.2.1;have bv:=x.2.2;obtain⟨dh,dn⟩:=aj.rdI;obtain⟨a5,m5,c5,bV,b6,bH⟩:=aj.rdL;have dd:=aj.2.1;have db:=ka cg;have bl:=ka aH;have an:=ka ae;have aO:=ka aU;have cr:=ka aj;have cn:=ka bH;have cj:pre.length<m:=by have h5:=Hl.o;have h6:=kn ds;omega
  have dr:IntKind.i64.wrap ((m:Int)-pre.length-1)=(m:Int)-pre.length-1:=iW _ oM;clear cg aH ae aU aj bH ak bo;have am:=cr.o.num ((m:Int)-pre.length-1);obtain⟨W1,ah⟩:=gX (W.setCell ⟨w.heap.size+1+1+1+1+1+1,0,Z⟩ (E F ((m:Int)-pre.length-1)));rw[ah]at am;have cS:W1.heap.size=W.heap.size:=by rw[<-ah,yg]
  obtain⟨a6,m6,c6,bX,dp,bm⟩:=am.rdL;have bY:((W.setCell ⟨w.heap.size+1+1+1+1+1+1,0,Z⟩ (E F ((m:Int)-pre.length-1))).alloc (N #[E F x.1] 2)).cell? ⟨w.heap.size+1+1+1,0,Z⟩=V (O a6 m6 c6):=by
   rw[ah,World.cell?_alloc_lt _ _ _ dO];exact bX
  have cq:=ka am;have c3:=ka bm;have bi:=ka ah;obtain⟨es,b2,b1,b0,b5⟩:=bm.open;have bB:=ka b5;have c9:=ka b2;have aI:Db 2 ((W.setCell ⟨w.heap.size+1+1+1+1+1+1,0,Z⟩ (E F ((m:Int)-pre.length-1))).alloc (N #[E F x.1] 2)) W.heap.size (O (V ⟨W.heap.size,0,Z⟩) 1 1) [x.1]:=by
   rw[ah,<-cS];exact Zo W1 x.1
  have a2:Tc 2 ((W.setCell ⟨w.heap.size+1+1+1+1+1+1,0,Z⟩ (E F ((m:Int)-pre.length-1))).alloc (N #[E F x.1] 2)) (O a6 m6 c6) es:=by
   rw[ah];exact b1.ext eA
  have c0:es.length<=10000000:=by
   have:=Lm.len (bk.o.le (Int.emod_nonneg _ oM) (Int.le_of_lt (Int.emod_lt_of_pos (hv pre) ai))) b0 bB.o;exact this
  have b3:[x.1].length+es.length<=1000000000000:=by simp;omega
  have b4:([x.1]++es).length<=1000000000:=by simp;omega
  have bp:Ud B ([x.1]++es):=by
   intro y hy;rcases List.mem_append.1 hy with hy|hy
   ·cases List.mem_singleton.1 hy;exact⟨cm,bv⟩
   ·exact b0.1 y hy
  have cK:∀y∈[x.1]++es,-4611686018427387904<=y/\y<=4611686018427387904:=by
   intro y hy;have:=bp y hy;unfold B at this;omega
  have bq:0<=dv B ([x.1]++es):=(Uh Pn bp).1;obtain⟨L',bn⟩:∃L',x.1+B*(hv pre%nb)=L':=⟨_,rfl⟩;have a3:dv B ([x.1]++es)=L':=by rw[<-bn,<-bB.o];simp
  have bc:=ka bn;have aa:=ka a3;clear bn a3;have a0:W.heap.size<=((W.setCell ⟨w.heap.size+1+1+1+1+1+1,0,Z⟩ (E F ((m:Int)-pre.length-1))).alloc (N #[E F x.1] 2)).heap.size:=sM;clear ah bm bX am b5 b2 bV b6 cn b1
  gi_wp2_with(gi_at_builtin;go_loud (refine CJ Bl Tryz.underlying57 rfl _ _ rfl rfl aI rfl a2 b3 a0 ?_);intro v' w1 t P aR;have cT:=nT a0 P.size)
  refine⟨trivial,?_⟩;(with_reducible refine(CallsIn.inRound l (callsIn_wide.2 (qy W.heap.size v' ([x.1]++es) w1 t cT b4 cK bq))).mono ?_);rintro e w2 ⟨v2,zs,rfl,aX,al,R,bT,cJ⟩;obtain⟨a7,c7,rfl⟩:=R.form;have bx:Aa W1 w2:=by
   rw[bi.o]at P;exact(((eR W1).alloc _).y P oM).y bT oM
  have aw:=cq.o.ext bx;have aM:=aw.left (R.mono oM) aX (al.trans aa.o);obtain⟨_,_,_,cD,cL,_⟩:=aw.rdL;have cF:=aw.leftCell (O a7 zs.length c7);have bU:=aM.rdB;have bb:=aw.leftD R aX (al.trans aa.o);have aL:=hb.ext aM.1;have av:=ka aM;have bF:=ka al;have ag:=ka bx;clear aw aM al bx bY aI a2 P t cJ bT R aR;have aP:0<=L':=by rw[<-aa.o];exact bq
  by_cases aT:L'<nb
  ·have cH:=ZE aT
   gi_wp2_with(refine⟨trivial,?_⟩;gi_at_call 226;(with_reducible refine(CallsIn.inRound l (callsIn_wide.2 (Cu _ _ _ _ _ bb aL))).mono ?_);rintro e w4 ⟨rfl,u⟩)
   have hP:Sj w (w.heap.size+1+1+1+1+1+1+1) (w.heap.size+1+1+1+1+1+1+1+1) W w4:=by
    have h5:=(Sj.refl w (w.heap.size+1+1+1+1+1+1+1) (w.heap.size+1+1+1+1+1+1+1+1) W).set (p:=⟨w.heap.size+1+1+1+1+1+1,0,Z⟩) dO dO (E F ((m:Int)-pre.length-1));rw[bi.o]at h5;have h6:=ag.o.size;exact((h5.ext ag.o oM oM).set (p:=⟨w.heap.size+1+1+1,0,Z⟩) dO dO _).ext u (by rw[yg];omega) (by rw[yg];omega)
   have hI:Ip w (O a' m' c') nb m (pre++[x]) w4:=by
    refine Ip.next (os:=os) ?_ cj bl.o ar an.o aO.o ai;have h0:=bc.o;have h1:=(Qp (L:=hv pre%nb) (x:=x.1) (Int.emod_nonneg (hv pre) oM) (Int.emod_lt_of_pos (hv pre) ai) ⟨cm,bv⟩);rw[h0];(have aP:0<=L':=by rw[<-aa.o];exact bq);rw[Int.emod_eq_of_lt aP aT,Int.ediv_eq_zero_of_lt aP aT,QK (aO.o _ oM)];exact av.o.ext u
   refine⟨?_,hP.2,hI⟩;have:=hP.1;simpa using this
  ·have cH:=Mo aT;have bN:Sj w (w.heap.size+1+1+1+1+1+1+1) (w.heap.size+1+1+1+1+1+1+1+1) W (w2.setCell ⟨w.heap.size+1+1+1,0,Z⟩ (O a7 zs.length c7)):=by
    have h5:=(Sj.refl w (w.heap.size+1+1+1+1+1+1+1) (w.heap.size+1+1+1+1+1+1+1+1) W).set (p:=⟨w.heap.size+1+1+1+1+1+1,0,Z⟩) dO dO (E F ((m:Int)-pre.length-1));rw[bi.o]at h5;exact(h5.ext ag.o oM oM).set (p:=⟨w.heap.size+1+1+1,0,Z⟩) dO dO _
   have bA:=ka bN;clear bN
   gi_wp2_with(first|(refine⟨trivial,?_⟩;gi_at_call 226;(with_reducible refine(CallsIn.inRound l (callsIn_wide.2 (Cu _ _ _ _ _ bb aL))).mono ?_);rintro e w4 ⟨rfl,u⟩;obtain⟨a8,m8,c8,ab,aq,i⟩:=(av.o.ext u).rdL;have ac:=(av.o.ext u).rdB;have f:=aL.ext u)|(refine⟨trivial,?_⟩;gi_at_call 236;(with_reducible refine(CallsIn.inRound l (callsIn_wide.2 (xL _ _ _ _ _ i f (bk.o.mono dM)))).mono ?_);rintro e w5 ⟨⟨k0,rfl,br⟩,bw⟩))
   have bD:=(av.o.ext u).ext bw;have bP:=(bA.o.ext u (by rw[yg];have h6:=ag.o.size;omega) (by rw[yg];have h6:=ag.o.size;omega)).ext bw (by have h7:=u.size;rw[yg]at h7;have h6:=ag.o.size;omega) (by have h7:=u.size;rw[yg]at h7;have h6:=ag.o.size;omega);clear ab aq i ac f bb aL cD cL cF bU bA
   gi_loopw [9] (sR w (O a' m' c') m L' ((m:Int)-pre.length-1) os (w.heap.size+1+1+1+1+1+1+1) (w.heap.size+1+1+1+1+1+1+1+1) W) (fun t9 _=>(intOf t9%18446744073709551616).toNat)
   case atStart=>exact⟨k0,rfl,br.1,by have:=br.2;omega,bD,bP⟩
   case round =>
    clear bD bP u bw br;obtain⟨k,rfl,b7,b9,Ho,hP⟩:=hrel;obtain⟨a8,m8,c8,ab,aq,i⟩:=Ho.rdL;have ac:=Ho.rdB;have f:=hb.ext Ho.1;have HO:=ka Ho;have HP:=ka hP;have aV:=Ho.2.1;obtain⟨kk,ca⟩:=gX (IntKind.u64.wrap k);(have cb:kk=k%18446744073709551616:=by rw[<-ca,EK]);have ao:0<=kk:=oM;have aF:kk<18446744073709551616:=oM;have bh:=ka (tH ao aF);have bf:Ta (Lm Mc nb):=ka (bk.o.mono dM);have bj:=ka cb;clear Ho hP av cb
    gi_wp2
    gi_cut [42]from 1000 (uR w (O a' m' c') m L' ((m:Int)-pre.length-1) os (w.heap.size+1+1+1+1+1+1+1) (w.heap.size+1+1+1+1+1+1+1+1) W (decide (Gc L' (nb*kk)<0)))
    case first =>
     gi_region_with (first|(refine⟨trivial,?_⟩;gi_at_call 188;(with_reducible refine(CallsIn.inRound l (callsIn_wide.2 (Zp _ kk ao aF))).mono ?_);rintro e wa ⟨r1,rfl,aJ,b⟩;obtain⟨ax,mx,cx,rfl⟩:=aJ.u.form;have aC:=b.d ab;have bW:=b.d ac)|(refine⟨trivial,?_⟩;gi_at_call 195;(with_reducible refine(CallsIn.inRound l (callsIn_wide.2 (ND _ _ _ nb kk ?_ ?_ bf.o bh.o))).mono ?_);(refine f.ext ?_;exact eA);(refine aJ.u.ext ?_;exact eA);rintro e wb ⟨r2,rfl,aK,z⟩;obtain⟨ay,my,cy,rfl⟩:=aK.u.form;have a1:=z.d aC)|(refine⟨trivial,?_⟩;gi_at_call 226;(with_reducible refine(CallsIn.inRound l (callsIn_wide.2 (Cu _ _ _ L' (nb*kk) ?_ ?_))).mono ?_);(refine i.ext ?_;exact eA);(refine aK.u.ext ?_;exact eA);rintro e wz ⟨rfl,ap⟩))
     all_goals gi_wp2
     all_goals gi_meet
     all_goals
      have au:Aa wr wz:=by
       have h1:Aa wr wa:=(eR wr).drew.trans b;exact(h1.trans z).trans ap
      exact⟨rfl,HO.o.ext au,HP.o.ext au oM oM⟩
    case rest =>
     clear HO HP ab aq i ac f aV;obtain⟨rfl,Ho,hP⟩:=hcut;have HO:=ka Ho;have HP:=ka hP;clear Ho hP;by_cases bt:L'<nb*kk
     ·have aD:=ZE bt;obtain⟨k1,b8⟩:=gX (IntKind.i64.wrap (k-1));have ad:=Yp (k-1);rw[b8]at ad;rw[aD]
      gi_wp2
      go_roundw
      case rel=>exact⟨k1,rfl,ad.1,ad.2.1,HO.o,HP.o⟩
      case measure =>
       have:=VA ad.2.2 bj.o aP bt;simpa[intOf] using this
     ·have aD:=Mo bt;rw[aD];have cf:nb*kk<=L':=oM;have ci:0<=nb*kk:=Int.mul_nonneg oM ao;have be:Ta (Lm Mc L'):=ka (by rw[<-aa.o];exact Lm.dig bp (by unfold Mc;simp;omega));have bz:Ta (Lm Mc (nb*kk)):=ka (be.o.le ci cf);obtain⟨a8,m8,c8,ab,aq,i⟩:=HO.o.rdL;have ac:=HO.o.rdB;have f:=hb.ext HO.o.1;have aV:=HO.o.2.1
      gi_wp2
      gi_cut []from 1000 (tR w (O a' m' c') m (L' + -1*(nb*kk)) ((m:Int)-pre.length-1) os (w.heap.size+1+1+1+1+1+1+1) (w.heap.size+1+1+1+1+1+1+1+1) W)
      case first =>
       gi_region_with (first|(refine⟨trivial,?_⟩;gi_at_call 188;(with_reducible refine(CallsIn.inRound l (callsIn_wide.2 (Zp _ kk ao aF))).mono ?_);rintro e wa ⟨r1,rfl,aJ,b⟩;obtain⟨ax,mx,cx,rfl⟩:=aJ.u.form;have aC:=b.d ab;have bW:=b.d ac)|(refine⟨trivial,?_⟩;gi_at_call 195;(with_reducible refine(CallsIn.inRound l (callsIn_wide.2 (ND _ _ _ nb kk ?_ ?_ bf.o bh.o))).mono ?_);(refine f.ext ?_;exact eA);(refine aJ.u.ext ?_;exact eA);rintro e wb ⟨r2,rfl,aK,z⟩;obtain⟨ay,my,cy,rfl⟩:=aK.u.form;have a1:=z.d aC)|(refine⟨trivial,?_⟩;gi_at_call 187;(with_reducible refine(CallsIn.inRound l (callsIn_wide.2 (Br _ _ _ L' (nb*kk) (-1) ?_ ?_ be.o bz.o oM oM))).mono ?_);(refine i.ext ?_;exact eA);(refine aK.u.ext ?_;exact eA);rintro e wz ⟨r3,rfl,⟨cX,d3,rfl,aG,aE,bu⟩,ap⟩;obtain⟨az,cz,rfl⟩:=aG.form;have au:Aa wc wz:=(((eR wc).drew.trans b).trans z).trans ap;obtain⟨_,_,_,cG,cN,_⟩:=(HO.o.ext au).rdL))
       all_goals gi_wp2
       all_goals gi_meet
       all_goals
        have cU:=b.size;have cV:=z.size;have dw:=ap.size;exact⟨(HO.o.ext au).left (aG.mono (by simp only[World.size_drew]at *;omega)) aE bu,(HP.o.ext au oM oM).set dO dO _⟩
      case rest =>
       clear HO HP ab aq i ac f aV bh bz;obtain⟨bE,bQ⟩:=hcut;have bL:=XK bc.o bv (Int.emod_lt_of_pos (hv pre) ai)
       gi_wp2
       gi_loopw [9] (rR w (O a' m' c') m L' nb ((m:Int)-pre.length-1) os (w.heap.size+1+1+1+1+1+1+1) (w.heap.size+1+1+1+1+1+1+1+1) W) (fun t9 _=>(L'/nb-intOf t9%18446744073709551616).toNat)
       case atStart=>exact⟨k,L' + -1*(nb*kk),rfl,b7,b9,by omega,by rw[<-bj.o];omega,bE,bQ⟩
       case round =>
        clear bE bQ b7 b9 ca bj;obtain⟨k',L2,rfl,cQ,cR,bK,bM,Ho,hP⟩:=hrel;obtain⟨aA,mA,cA,ab,aq,i⟩:=Ho.rdL;have ac:=Ho.rdB;have f:=hb.ext Ho.1;have aV:=Ho.2.1;have ch:0<=k'%18446744073709551616:=oM;have cP:0<=nb*(k'%18446744073709551616):=Int.mul_nonneg oM ch;have bg:=ka bM;have co:Ta (Lm Mc L2):=ka (be.o.le bK oM);have HO:=ka Ho;have HP:=ka hP;clear Ho hP bM cP;by_cases aS:nb<=L2
        ·have bZ:=rJ aS;have cl:=FH ai ch bg.o aS bL;obtain⟨k3,cO⟩:=gX (IntKind.i64.wrap (k'+1));have ad:=Yp (k'+1);rw[cO]at ad;have ba:k3%18446744073709551616=k'%18446744073709551616+1:=oM;have bC:=ka ad;have aZ:=ka ba;have ct:=ka cl;clear ad ba cl
         gi_wp2_with(first|(refine⟨trivial,?_⟩;gi_at_call 226;(with_reducible refine(CallsIn.inRound l (callsIn_wide.2 (Cu _ _ _ _ _ i f))).mono ?_);rintro e w6 ⟨rfl,v⟩;obtain⟨aB,mB,cB,a1,c1,bI⟩:=(HO.o.ext v).rdL;have cY:=(HO.o.ext v).rdB;have bG:=f.ext v)|(refine⟨trivial,?_⟩;gi_at_call 187;(with_reducible refine(CallsIn.inRound l (callsIn_wide.2 (Br _ _ _ L2 nb (-1) bI bG co.o bf.o oM oM))).mono ?_);rintro e w7 ⟨r3,rfl,⟨cX,d3,rfl,aG,aE,bu⟩,aW⟩;obtain⟨az,cz,rfl⟩:=aG.form;obtain⟨_,_,_,cG,cN,_⟩:=((HO.o.ext v).ext aW).rdL))
         go_roundw
         case rel =>
          have cU:=v.size;have cV:=aW.size;refine⟨k3,L2 + -1*nb,rfl,bC.o.1,bC.o.2.1,by omega,?_,((HO.o.ext v).ext aW).left (aG.mono oM) aE bu,(((HP.o.ext v oM oM).ext aW oM oM)).set dO dO _⟩;rw[aZ.o,Int.mul_add,<-bg.o];omega
         case measure =>
          have h5:=aZ.o;have h6:=ct.o.1;simp only[intOf];omega
        ·have bZ:=JL aS;have a9:=QJ ai bg.o bK aS bL cQ cR;obtain⟨j,hj⟩:∃j:Nat,(m:Int)-pre.length-1=j/\j=m-(pre.length+1):=⟨m-(pre.length+1),by omega,rfl⟩;have dt:j<m:=oM;have aY:=ka a9;have Hj:=ka hj;clear a9 hj
         gi_wp2_with(refine⟨trivial,?_⟩;gi_at_call 226;(with_reducible refine(CallsIn.inRound l (callsIn_wide.2 (Cu _ _ _ _ _ i f))).mono ?_);rintro e w6 ⟨rfl,v⟩;have af:=HO.o.ext v;rw[Hj.o.1]at af;have di:=af.rdI.1;have dj:=af.rdO;have dk:=af.2.2.2.2.2.2.2.cell (aO.o j (by have:=Hj.o.2;omega));have dq:=af.2.2.2.2.2.2.2.frozen j;have cp:=ka af;clear af)
         have bO:=(HP.o.ext v oM oM).set (p:=⟨w.heap.size+1+1+1+1,j,Z⟩) dO dO (E F k');have hI:Ip w (O a' m' c') nb m (pre++[x]) (w6.setCell ⟨w.heap.size+1+1+1+1,j,Z⟩ (E F k')):=by
          refine Ip.next (os:=os) ?_ cj bl.o ar an.o aO.o ai;rw[bc.o,<-aY.o.1,<-aY.o.2,Hj.o.1,<-Hj.o.2];exact cp.o.o j k'
         refine⟨?_,bO.2,hI⟩;have:=bO.1;simpa using this
 case done =>
  rintro D ys W hD rfl ⟨h1,os,aj,aH,ar,ae,aU⟩ hK;obtain⟨g1,g2,g3,g4,⟨sl,dl,g5,g6,g7,g8⟩,g9,cu,cv⟩:=aj;obtain⟨a5,c5,rfl⟩:=g6.form;have de:=cell_of_one g4;have dm:=free_of_one g4;have bV:=cell_of_one g5;have b6:=free_of_one g5;have dg:=cell_of_one g9;have dc:w.heap.size<=D:=by simp at hD;omega
  have bl:=ka aH;have H4:=ka g4;have H5:=ka g5;have H8:=ka g8;have an:=ka ae;have ck:0<=dv B os:=(Uh Pn ar).1;have ce:os.length<=1000000000:=oM;clear aH g3 g4 g5 g8 g9 cu ae aU ak bo h1
  gi_wp2
  gi_region_with (first|(refine⟨trivial,?_⟩;gi_at_call 235;(with_reducible refine(callsIn_wide.2 (ur (w.heap.size+1+1+1+1) _ os _ (Fk cv) ?_ ce ?_ ck)).mono ?_);(simp only[World.size_drew];omega);(intro x hx;have:=ar x hx;unfold B at this;omega);rintro e w3 ⟨v',zs,rfl,aX,al,t,aQ,cI,cc,-⟩;obtain⟨cZ,c2⟩:=Yn aQ;obtain⟨a4,c4,rfl⟩:=t.form;have bF:=ka al;clear al;have cC:w3.heap[D]?=V (.deferred (V [])):=cI D _ hK (fun _ _ e=>by cases e)))
  all_goals gi_wp2
  all_goals
   have bJ:((w3.setCell ⟨w.heap.size+1+1,0,Z⟩ (O a4 zs.length c4)).setCell ⟨w.heap.size+1+1+1,0,Z⟩ (O a5 dl.length c5)).heap[D]?=V (.deferred (V [])):=by
    rw[bS _ _ _ _ (by simp at hD;dsimp only;omega),bS _ _ _ _ (by simp at hD;dsimp only;omega)];exact cC
   refine⟨by simp,.inl ⟨_,_,rfl,run_takeDeferred bJ,?_⟩⟩;have cw:w.heap.size+1+1+1+1+1+1+1+1<=D:=by simpa using hD
   have q2:w3.heap[w.heap.size+1+1]?=V (N #[O Z 0 0] 59 (0,0)):=(aQ.block _ oM).trans H4.o;have q3:w3.heap[w.heap.size+1+1+1]?=V (N #[O a5 dl.length c5] 59 (0,0)):=(aQ.block _ oM).trans H5.o;have o5:Db 2 w3 (w.heap.size+1+1+1+1+1+1+1+1) (O a5 dl.length c5) dl:=Db.stay (Fk g6) (fun g o hg hh=>cc ar g o hh (by simp[Value.ownBlock];omega));have cW:Aa w w3:=(g1.drew).y aQ oM;refine AO ?_ ?_ q2 q3 t o5 aX g7 (ZM bF.o an.o Hv.o (by have:=Hl.o;simpa[Fg] using this)) (YM H8.o Hv.o) cW bJ cw<;>rfl
 case stop =>
  rintro D c pre W _ _ h _;exact h.elim
end
section
open Go.RowKit Go.Shelf
def Jg(w:Y) p:w.drew.cell? p=w.cell? p:=rfl
def Ig(w:Y) p:w.drew.frozen? p=w.frozen? p:=rfl
def jc(w:Y):w.drew.heap.size=w.heap.size:=rfl
def Aa.lt{a b}(h:Aa a b){n}(c:n<a.heap.size):n<b.heap.size:=Nat.lt_of_lt_of_le c h.size
def oo{a c}{A:Prop}(h:Aa a c)(e:((∀b o,b<a.heap.size->c.cell? ⟨b,o,Z⟩=a.cell? ⟨b,o,Z⟩)/\(∀b o,b<a.heap.size->c.frozen? ⟨b,o,Z⟩=a.frozen? ⟨b,o,Z⟩))->A:=by(intro h;(try simp only[Jg,Ig,jc]at h);exact h)):A:=e h.cells
def oe(w:Y){a c A}(h:Aa a c)(d:w.heap.size<a.heap.size:=by go_simp)(e:((∀b o,b<a.heap.size->c.cell? ⟨b,o,Z⟩=a.cell? ⟨b,o,Z⟩)/\(∀b o,b<a.heap.size->c.frozen? ⟨b,o,Z⟩=a.frozen? ⟨b,o,Z⟩))->A:=by(intro h;(try simp only[Jg,Ig,jc]at h);exact h)):A/\w.heap.size<c.heap.size:=⟨e h.cells,h.lt d⟩
def Yb(w:Y){a c A}(h:Aa a c)(d:w.heap.size+1<a.heap.size:=by go_simp)(e:((∀b o,b<a.heap.size->c.cell? ⟨b,o,Z⟩=a.cell? ⟨b,o,Z⟩)/\(∀b o,b<a.heap.size->c.frozen? ⟨b,o,Z⟩=a.frozen? ⟨b,o,Z⟩))->A:=by(intro h;(try simp only[Jg,Ig,jc]at h);exact h)):A/\w.heap.size<c.heap.size/\w.heap.size+1<c.heap.size:=⟨e h.cells,h.lt oM,h.lt d⟩
def Ub(w:Y){a c A}(h:Aa a c)(d:w.heap.size+1+1<a.heap.size:=by go_simp)(e:((∀b o,b<a.heap.size->c.cell? ⟨b,o,Z⟩=a.cell? ⟨b,o,Z⟩)/\(∀b o,b<a.heap.size->c.frozen? ⟨b,o,Z⟩=a.frozen? ⟨b,o,Z⟩))->A:=by(intro h;(try simp only[Jg,Ig,jc]at h);exact h)):A/\w.heap.size<c.heap.size/\w.heap.size+1<c.heap.size/\w.heap.size+1+1<c.heap.size:=⟨e h.cells,h.lt oM,h.lt oM,h.lt d⟩
def Is(w:Y){a c A}(h:Aa a c)(d:w.heap.size+1+1+1<a.heap.size:=by go_simp)(e:((∀b o,b<a.heap.size->c.cell? ⟨b,o,Z⟩=a.cell? ⟨b,o,Z⟩)/\(∀b o,b<a.heap.size->c.frozen? ⟨b,o,Z⟩=a.frozen? ⟨b,o,Z⟩))->A:=by(intro h;(try simp only[Jg,Ig,jc]at h);exact h)):A/\w.heap.size<c.heap.size/\w.heap.size+1<c.heap.size/\w.heap.size+1+1<c.heap.size/\w.heap.size+1+1+1<c.heap.size:=⟨e h.cells,h.lt oM,h.lt oM,h.lt oM,h.lt d⟩
def td(T:TypeId)(w:Y)(b:Nat):Prop:=∀cs fr,w.heap[b]?≠V (N cs T fr)
def td.new{T T'}{w:Y}{b cs c}(g:b=w.heap.size)(f:T'≠T):td T (w.alloc (N cs T' c)) b:=by intro a d e;rw[Bc _ _ _ g]at e;cases e;exact f rfl
def td.old{T w b o}(h:td T w b)(d:b≠w.heap.size):td T (w.alloc o) b:=by intro a c e;rw[Dg,if_neg d]at e;exact h a c e
def td.ext{T w w' b}(h:td T w b)(k:Aa w w')(d:b<w.heap.size):td T w' b:=by intro a c e;rw[k.block d]at e;exact h a c e
def td.drew{T w b}(h:td T w b):td T w.drew b:=h
def td.drewN{T w b}(h:td T w b) n:td T (w.drewN n) b:=by intro a c e;exact h a c (by simpa[World.drewN] using e)
def td.set{T w b}(h:td T w b) p u:td T (w.setCell p u) b:=by
 intro c f e;by_cases a:b=p.block
 ·subst a;simp only[World.setCell,Array.getElem?_modify,if_pos]at e;cases hw:w.heap[p.block]? with
  | none=>rw[hw]at e;cases e
  | some o =>
   rw[hw]at e;cases o with
   | cells d T' g =>
    simp only[Option.map_some,Option.some.injEq,Obj.cells.injEq]at e;obtain⟨_,rfl,_⟩:=e;exact h _ _ hw
   | _=>simp at e
 ·rw[bS _ _ _ _ a]at e;exact h c f e
def Ia.x{T a b}(h:Ia T a b){p}(f:td T b p.block) u:Ia T a (b.setCell p u):=fun x d e g=>by
 have c:=h x d e g;rw[bS _ _ _ _ (by rintro rfl;exact f _ _ c)];exact c
def td.ext2{T w w' b}(a:b<w.heap.size)(k:Aa w w')(h:td T w b):td T w' b:=h.ext k a
def td.old2{T w b o}(a:b≠w.heap.size)(h:td T w b):td T (w.alloc o) b:=h.old a
def Ia.setN2{T a b p}(c:td T b p.block)(h:Ia T a b) u:Ia T a (b.setCell p u):=h.x c u
def nA{T w b}(h:td T w b:=by(repeat(first|with_reducible assumption|with_reducible refine td.set ?_ _ _|with_reducible refine td.drew ?_|with_reducible refine td.drewN ?_ _|(refine td.new ?_ ?_;(focus(first|omega|((try dsimp only);(try simp only[wZ,jc,yg]);(try omega);done)));(focus decide))|(refine td.old2 ?_ ?_;(focus(first|omega|((try dsimp only);(try simp only[wZ,jc,yg]);(try omega);done))))|(refine td.ext2 ?_ (by with_reducible assumption) ?_;(focus(first|omega|((try dsimp only);(try simp only[wZ,jc,yg]);(try omega);done))))))):td T w b:=h
def kA{T w a}(h:Ia T w a:=by repeat(first|with_reducible exact Ia.refl _ _|(refine Aa.keep ?_;(focus((with_reducible repeat(first|assumption|exact eR _|refine eX ?_|refine eT ?_|refine eS ?_));done)))|with_reducible refine Ia.alloc ?_ _|(with_reducible refine Ia.setN2 ?_ ?_ _;(focus(((repeat(first|with_reducible assumption|with_reducible refine td.set ?_ _ _|with_reducible refine td.drew ?_|with_reducible refine td.drewN ?_ _|(refine td.new ?_ ?_;(focus(first|omega|((try dsimp only);(try simp only[wZ,jc,yg]);(try omega);done)));(focus decide))|(refine td.old2 ?_ ?_;(focus(first|omega|((try dsimp only);(try simp only[wZ,jc,yg]);(try omega);done))))|(refine td.ext2 ?_ (by with_reducible assumption) ?_;(focus(first|omega|((try dsimp only);(try simp only[wZ,jc,yg]);(try omega);done)))))));done))))):Ia T w a:=h
def Id(w:Y)(v:I)(n:Int):Prop:=∃a m c s,v=X #[O a m c,J s]/\s=decide (n<0)/\Gd w (X #[O a m c]) (n.natAbs:Int)
def Id.ext{w w' v n}(h:Id w v n)(k:Aa w w'):Id w' v n:=by obtain⟨a,m,c,s,rfl,b,d⟩:=h;exact⟨a,m,c,s,rfl,b,d.ext k⟩
def Id.keep{w w' v n}(h:Id w v n)(k:Ia 2 w w'):Id w' v n:=by obtain⟨a,m,c,s,rfl,b,d⟩:=h;exact⟨a,m,c,s,rfl,b,d.keep k⟩
def Id.form{w v n}(h:Id w v n):∃a m c s,v=X #[O a m c,J s]:=by obtain⟨a,m,c,s,rfl,b,d⟩:=h;exact⟨a,m,c,s,rfl⟩
def Id.sgn{w a m c s n}(h:Id w (X #[O a m c,J s]) n):s=decide (n<0):=by obtain⟨a,m,c,s,e,b,d⟩:=h;cases e;exact b
def Id.dig{w a m c s n}(h:Id w (X #[O a m c,J s]) n):Gd w (X #[O a m c]) (n.natAbs:Int):=by obtain⟨a,m,c,s,e,d,b⟩:=h;cases e;exact b
def Lm.abs{k n}(h:Lm k n):Lm k (n.natAbs:Int):=by unfold Lm at *;omega
def Lm.neg{k n}(h:Lm k n):Lm k (-n):=by unfold Lm at *;omega
def sg(s:Bool)(n:Int):Int:=if s then -n else n
def Id.mk{w a m c n} b(h:Gd w (X #[O a m c]) n):Id w (X #[O a m c,J (b&&!(n==0))]) (sg b n):=by
 have d:=h.nonneg;refine⟨a,m,c,_,rfl,?_,?_⟩
 ·rw[Bool.eq_iff_iff];cases b<;>simp[sg]<;>omega
 ·have:((sg b n).natAbs:Int)=n:=by cases b<;>simp[sg]<;>omega
  rw[this];exact h
def Id.nil w:Id w (X #[O Z 0 0,J false]) 0:=⟨_,_,_,_,rfl,rfl,_,[],rfl,Tc.nil _ _,xg.nil _,rfl⟩
def Qg(w:Y)(n:Int)(e:Ending)(w':Y):Prop:=∃r,e=.returned r/\Id w' r n/\Aa w w'/\Dr w w'
def uj(w:Y)(n:Int)(e:Ending)(w':Y):Prop:=∃r,e=.returned r/\Id w' r n/\Aa w w'
def Er w d v n(h:Gd w v n):Calls Tryz.prog 183 #[J d,v] w (Qg w (sg d n)):=by
 obtain⟨a,m,c,rfl⟩:=h.form;cases d
 ·go_in;go_wp2
  go_region_with (fail)
  all_goals go_wp2
  all_goals exact bR (v:=X #[O a m c,J (false&&!(n==0))]) (by simp[results,Tryz.results183,go_sem]) rfl ⟨_,rfl,Id.mk false (h.ext eA),eA,dA⟩
 ·go_in;go_wp2;go_region_held3 (fun W=>W.cell? ⟨w.heap.size,0,Z⟩=V (O a m c)) ((repeat' (with_reducible refine And.intro ?_ ?_))<;>(first|(go_simp;done)|(refine hx1.d ?_;go_simp;done))) ((go_at_call 166;(with_reducible refine(sD _ (X #[O a m c]) n ?_).mono ?_);(refine h.ext ?_;exact eA);rintro e i ⟨rfl,hx1,f⟩;obtain⟨b,g⟩:=hx1.cells))
  all_goals go_wp2
  exact bR (v:=X #[O a m c,J (true&&!(n==0))]) (by simp[results,Tryz.results183,go_sem,b]) rfl ⟨_,rfl,Id.mk true (h.ext eA),eA,dA⟩
def Tl{f args w n}(h:Calls Tryz.prog f args w (Qg w n)):Calls Tryz.prog f args w (uj w n):=WM h
def Iu w a v n(h:Gd w v n):Calls Tryz.prog 183 #[J a,v] w (uj w (sg a n)):=Tl (Er w a v n h)
def DH{n s}(h:s=decide (n<0)):sg (!s) (n.natAbs:Int) = -n:=by subst h;by_cases h:n<0<;>simp[sg,h]<;>omega
def tA w v n(h:Id w v n):Calls Tryz.prog 186 #[v] w (Qg w (-n)):=by obtain⟨a,m,c,s,rfl⟩:=h.form;go_in;go_wp2_with((go_at_call 183;(with_reducible refine(Er _ (!s) (X #[O a m c]) n.natAbs ?_).mono ?_);(refine h.dig.ext ?_;exact eA);rintro e q ⟨p,rfl,b,f,j⟩;obtain⟨g,l,i,o,rfl⟩:=b.form;obtain⟨d,k⟩:=f.cells));refine bR (v:=X #[O g l i,J o]) (by simp[results,Tryz.results186,go_sem,d]) rfl ⟨_,rfl,?_,eA,dA⟩;rw[<-DH h.sgn];exact b.keep kA
def ku w v n(h:Id w v n):Calls Tryz.prog 186 #[v] w (uj w (-n)):=Tl (tA w v n h)
def Cv w v n(h:Id w v n):Calls Tryz.prog 163 #[v] w fun e j=>e=.returned (E F n.sign)/\Aa w j/\Dr w j:=by
 obtain⟨a,m,c,s,rfl⟩:=h.form;have k:=h.sgn;have q:=h.dig;have d:n=0->Calls Tryz.prog 163 #[X #[O a m c,J s]] w fun e j=>e=.returned (E F n.sign)/\Aa w j/\Dr w j:=by
  intro g;have r:((n.natAbs:Int)==0)=true:=by simp;omega
  obtain rfl:s=false:=by rw[k];simp;omega
  have e:n.sign=0:=by first|(subst g;rfl)|exact Int.sign_eq_neg_one_of_neg g|exact Int.sign_eq_one_of_pos g
  rw[e];clear e g k;go_in;go_wp2_with((go_at_call 166;(with_reducible refine(sD _ (X #[O a m c]) n.natAbs ?_).mono ?_);(refine q.ext ?_;exact eA);rintro e t ⟨rfl,i,o⟩;obtain⟨l,p⟩:=i.cells));go_ret;exact⟨rfl,eA,dA⟩
 have f:n<0->Calls Tryz.prog 163 #[X #[O a m c,J s]] w fun e j=>e=.returned (E F n.sign)/\Aa w j/\Dr w j:=by
  intro g;have r:((n.natAbs:Int)==0)=false:=by simp;omega
  obtain rfl:s=true:=by rw[k];simp;omega
  have e:n.sign = -1:=by first|(subst g;rfl)|exact Int.sign_eq_neg_one_of_neg g|exact Int.sign_eq_one_of_pos g
  rw[e];clear e g k;go_in;go_wp2_with((go_at_call 166;(with_reducible refine(sD _ (X #[O a m c]) n.natAbs ?_).mono ?_);(refine q.ext ?_;exact eA);rintro e t ⟨rfl,i,o⟩;obtain⟨l,p⟩:=i.cells));go_ret;exact⟨rfl,eA,dA⟩
 have b:0<n->Calls Tryz.prog 163 #[X #[O a m c,J s]] w fun e j=>e=.returned (E F n.sign)/\Aa w j/\Dr w j:=by
  intro g;have r:((n.natAbs:Int)==0)=false:=by simp;omega
  obtain rfl:s=false:=by rw[k];simp;omega
  have e:n.sign=1:=by first|(subst g;rfl)|exact Int.sign_eq_neg_one_of_neg g|exact Int.sign_eq_one_of_pos g
  rw[e];clear e g k;go_in;go_wp2_with((go_at_call 166;(with_reducible refine(sD _ (X #[O a m c]) n.natAbs ?_).mono ?_);(refine q.ext ?_;exact eA);rintro e t ⟨rfl,i,o⟩;obtain⟨l,p⟩:=i.cells));go_ret;exact⟨rfl,eA,dA⟩
 rcases Int.lt_trichotomy n 0 with g|g|g
 ·exact f g
 ·exact d g
 ·exact b g
def OA w v n(h:Id w v n):Calls Tryz.prog 163 #[v] w fun e a=>e=.returned (E F n.sign)/\Aa w a:=Gn (Cv w v n h)
def vH n(a:-9223372036854775808<=n)(b:n<0):IntKind.u64.wrap (-(IntKind.u64.wrap n)) = -n:=by simp[IntKind.wrap,IntKind.signed,IntKind.bits];omega
def QI n(a:n<=9223372036854775807)(b:0<=n):IntKind.u64.wrap n=n:=by simp[IntKind.wrap,IntKind.signed,IntKind.bits];omega
def Iw w n(u:-9223372036854775808<=n)(x:n<=9223372036854775807):Calls Tryz.prog 137 #[E F n] w (uj w n):=by
 by_cases y:n<0
 ·have z:=vH n u y;go_in;go_wp2_with(first|(go_at_call 188;(with_reducible refine(Zp _ (-n) oM oM).mono ?_);rintro e R ⟨K,rfl,a,i⟩;obtain⟨k,r,m,rfl⟩:=a.u.form;obtain⟨⟨f,p⟩,c⟩:=oe w i)|(go_at_call 183;(with_reducible refine(Iu _ true (X #[O k r m]) (-n) a.u).mono ?_);rintro e W ⟨P,rfl,b,j⟩;obtain⟨l,s,o,t,rfl⟩:=b.form;obtain⟨⟨g,q⟩,d⟩:=oe w j));refine bR (v:=X #[O l s o,J t]) (by simp[results,Tryz.results137,go_sem,f,g,c,d]) rfl ⟨_,rfl,?_,eA⟩;have e:n=sg true (-n):=by simp[sg]
  rw[e];exact b.keep kA
 ·have z:=QI n x oM;go_in;go_wp2_with(first|(go_at_call 188;(with_reducible refine(Zp _ n oM oM).mono ?_);rintro e R ⟨K,rfl,a,i⟩;obtain⟨k,r,m,rfl⟩:=a.u.form;obtain⟨⟨f,p⟩,c⟩:=oe w i)|(go_at_call 183;(with_reducible refine(Iu _ false (X #[O k r m]) n a.u).mono ?_);rintro e W ⟨P,rfl,b,j⟩;obtain⟨l,s,o,t,rfl⟩:=b.form;obtain⟨⟨g,q⟩,d⟩:=oe w j));exact bR (v:=X #[O l s o,J t]) (by simp[results,Tryz.results137,go_sem,f,g,c,d]) rfl ⟨_,rfl,b.keep kA,eA⟩
def rC{x y s}(a:s=decide (x<0))(b:s=decide (y<0)):sg s ((x.natAbs:Int)+1*(y.natAbs:Int))=x+y:=by cases s<;>simp[sg]at *<;>omega
def qP{x y s}(a:(!s)=decide (x<0))(b:s=decide (y<0))(h:(x.natAbs:Int)<y.natAbs):sg s ((y.natAbs:Int) + -1*(x.natAbs:Int))=x+y:=by cases s<;>simp[sg]at *<;>omega
def Qv{x y s}(a:s=decide (x<0))(b:(!s)=decide (y<0))(h:¬(x.natAbs:Int)<y.natAbs):sg s ((x.natAbs:Int) + -1*(y.natAbs:Int))=x+y:=by cases s<;>simp[sg]at *<;>omega
def Fz w va vb x y(ha:Id w va x)(hb:Id w vb y)(au:Lm Mc x)(av:Lm Mc y):Calls Tryz.prog 179 #[va,vb] w (Qg w (x+y)):=by
 obtain⟨a,m,c,s,rfl⟩:=ha.form;obtain⟨p,r,q,s',rfl⟩:=hb.form;have ae:=ka ha.sgn;have af:=ka hb.sgn;have n:=ha.dig;have o:=hb.dig;have ac:=ka au.abs;have ad:=ka av.abs;clear au av ha hb;have ah:s=true->s'=true->Calls Tryz.prog 179 #[X #[O a m c,J s],X #[O p r q,J s']] w (Qg w (x+y)):=by
  intro h1 h2;subst h1 h2;go_in;go_wp2;go_region_held3 (fun W=>W.cell? ⟨w.heap.size,0,Z⟩=V (O a m c)/\W.cell? ⟨w.heap.size,1,Z⟩=V (J true)/\W.cell? ⟨w.heap.size+1,0,Z⟩=V (O p r q)) ((repeat' (with_reducible refine And.intro ?_ ?_))<;>(first|(go_simp;done)|(refine hx1.d ?_;go_simp;done))) (first|((go_at_call 187;(with_reducible refine(kF _ (X #[O a m c]) (X #[O p r q]) x.natAbs y.natAbs 1 ?_ ?_ ac.o ad.o oM oM).mono ?_);(refine n.ext ?_;exact eA);(refine o.ext ?_;exact eA);rintro e w1 ⟨r1,rfl,b,hx1,aj⟩;obtain⟨a1,m1,c1,rfl⟩:=b.u.form;obtain⟨⟨i,al⟩,t,u,f⟩:=Ub w hx1))|((go_at_call 183;(with_reducible refine(Er _ true (X #[O a1 m1 c1]) ((x.natAbs:Int)+1*(y.natAbs:Int)) ?_).mono ?_);(refine b.u.ext ?_;exact eA);rintro e w2 ⟨r2,rfl,d,k,ak⟩;obtain⟨a2,m2,c2,s2,rfl⟩:=d.form;obtain⟨⟨j,am⟩,z,K,g⟩:=Ub w k)))
  all_goals go_wp2
  refine bR (v:=X #[O a2 m2 c2,J s2]) (by simp[results,Tryz.results179,go_sem,i,j,f,g]) rfl ⟨_,rfl,?_,eA,dA⟩;rw[<-rC ae.o af.o];exact d.keep kA
 have ab:s=false->s'=false->Calls Tryz.prog 179 #[X #[O a m c,J s],X #[O p r q,J s']] w (Qg w (x+y)):=by
  intro h1 h2;subst h1 h2;go_in;go_wp2;go_region_held3 (fun W=>W.cell? ⟨w.heap.size,0,Z⟩=V (O a m c)/\W.cell? ⟨w.heap.size,1,Z⟩=V (J false)/\W.cell? ⟨w.heap.size+1,0,Z⟩=V (O p r q)) ((repeat' (with_reducible refine And.intro ?_ ?_))<;>(first|(go_simp;done)|(refine hx1.d ?_;go_simp;done))) (first|((go_at_call 187;(with_reducible refine(kF _ (X #[O a m c]) (X #[O p r q]) x.natAbs y.natAbs 1 ?_ ?_ ac.o ad.o oM oM).mono ?_);(refine n.ext ?_;exact eA);(refine o.ext ?_;exact eA);rintro e w1 ⟨r1,rfl,b,hx1,aj⟩;obtain⟨a1,m1,c1,rfl⟩:=b.u.form;obtain⟨⟨i,al⟩,t,u,f⟩:=Ub w hx1))|((go_at_call 183;(with_reducible refine(Er _ false (X #[O a1 m1 c1]) ((x.natAbs:Int)+1*(y.natAbs:Int)) ?_).mono ?_);(refine b.u.ext ?_;exact eA);rintro e w2 ⟨r2,rfl,d,k,ak⟩;obtain⟨a2,m2,c2,s2,rfl⟩:=d.form;obtain⟨⟨j,am⟩,z,K,g⟩:=Ub w k)))
  all_goals go_wp2
  refine bR (v:=X #[O a2 m2 c2,J s2]) (by simp[results,Tryz.results179,go_sem,i,j,f,g]) rfl ⟨_,rfl,?_,eA,dA⟩;rw[<-rC ae.o af.o];exact d.keep kA
 have ag:s=true->s'=false->Calls Tryz.prog 179 #[X #[O a m c,J s],X #[O p r q,J s']] w (Qg w (x+y)):=by
  intro h1 h2;subst h1 h2;by_cases an:(x.natAbs:Int)<y.natAbs
  ·have ai:=ZE an;go_in;go_wp2_with((go_at_call 226;(with_reducible refine(PD _ (X #[O a m c]) (X #[O p r q]) x.natAbs y.natAbs ?_ ?_).mono ?_);(refine n.ext ?_;exact eA);(refine o.ext ?_;exact eA);rintro e w0 ⟨rfl,aa,aq⟩;obtain⟨⟨R,ar⟩,ao,ap,l⟩:=Ub w aa));go_region_held3 (fun W=>W.cell? ⟨w.heap.size,0,Z⟩=V (O a m c)/\W.cell? ⟨w.heap.size+1,1,Z⟩=V (J false)/\W.cell? ⟨w.heap.size+1,0,Z⟩=V (O p r q)) ((repeat' (with_reducible refine And.intro ?_ ?_))<;>(first|(go_simp;done)|(refine hx1.d ?_;go_simp;done))) (first|((go_at_call 187;(with_reducible refine(kF _ (X #[O p r q]) (X #[O a m c]) y.natAbs x.natAbs (-1) ?_ ?_ ad.o ac.o oM oM).mono ?_);(refine o.ext ?_;exact eA);(refine n.ext ?_;exact eA);rintro e w1 ⟨r1,rfl,b,hx1,aj⟩;obtain⟨a1,m1,c1,rfl⟩:=b.u.form;obtain⟨⟨i,al⟩,t,u,f⟩:=Ub w hx1))|((go_at_call 183;(with_reducible refine(Er _ false (X #[O a1 m1 c1]) ((y.natAbs:Int) + -1*(x.natAbs:Int)) ?_).mono ?_);(refine b.u.ext ?_;exact eA);rintro e w2 ⟨r2,rfl,d,k,ak⟩;obtain⟨a2,m2,c2,s2,rfl⟩:=d.form;obtain⟨⟨j,am⟩,z,K,g⟩:=Ub w k)))
   all_goals go_wp2
   refine bR (v:=X #[O a2 m2 c2,J s2]) (by simp[results,Tryz.results179,go_sem,R,i,j,l,f,g]) rfl ⟨_,rfl,?_,eA,dA⟩;rw[<-qP (s:=false) ae.o af.o oM];exact d.keep kA
  ·have ai:=Mo an;go_in;go_wp2_with((go_at_call 226;(with_reducible refine(PD _ (X #[O a m c]) (X #[O p r q]) x.natAbs y.natAbs ?_ ?_).mono ?_);(refine n.ext ?_;exact eA);(refine o.ext ?_;exact eA);rintro e w0 ⟨rfl,aa,aq⟩;obtain⟨⟨R,ar⟩,ao,ap,l⟩:=Ub w aa));go_region_held3 (fun W=>W.cell? ⟨w.heap.size,0,Z⟩=V (O a m c)/\W.cell? ⟨w.heap.size,1,Z⟩=V (J true)/\W.cell? ⟨w.heap.size+1,0,Z⟩=V (O p r q)) ((repeat' (with_reducible refine And.intro ?_ ?_))<;>(first|(go_simp;done)|(refine hx1.d ?_;go_simp;done))) (first|((go_at_call 187;(with_reducible refine(kF _ (X #[O a m c]) (X #[O p r q]) x.natAbs y.natAbs (-1) ?_ ?_ ac.o ad.o oM oM).mono ?_);(refine n.ext ?_;exact eA);(refine o.ext ?_;exact eA);rintro e w1 ⟨r1,rfl,b,hx1,aj⟩;obtain⟨a1,m1,c1,rfl⟩:=b.u.form;obtain⟨⟨i,al⟩,t,u,f⟩:=Ub w hx1))|((go_at_call 183;(with_reducible refine(Er _ true (X #[O a1 m1 c1]) ((x.natAbs:Int) + -1*(y.natAbs:Int)) ?_).mono ?_);(refine b.u.ext ?_;exact eA);rintro e w2 ⟨r2,rfl,d,k,ak⟩;obtain⟨a2,m2,c2,s2,rfl⟩:=d.form;obtain⟨⟨j,am⟩,z,K,g⟩:=Ub w k)))
   all_goals go_wp2
   refine bR (v:=X #[O a2 m2 c2,J s2]) (by simp[results,Tryz.results179,go_sem,R,i,j,l,f,g]) rfl ⟨_,rfl,?_,eA,dA⟩;rw[<-Qv (s:=true) ae.o af.o oM];exact d.keep kA
 have P:s=false->s'=true->Calls Tryz.prog 179 #[X #[O a m c,J s],X #[O p r q,J s']] w (Qg w (x+y)):=by
  intro h1 h2;subst h1 h2;by_cases an:(x.natAbs:Int)<y.natAbs
  ·have ai:=ZE an;go_in;go_wp2_with((go_at_call 226;(with_reducible refine(PD _ (X #[O a m c]) (X #[O p r q]) x.natAbs y.natAbs ?_ ?_).mono ?_);(refine n.ext ?_;exact eA);(refine o.ext ?_;exact eA);rintro e w0 ⟨rfl,aa,aq⟩;obtain⟨⟨R,ar⟩,ao,ap,l⟩:=Ub w aa));go_region_held3 (fun W=>W.cell? ⟨w.heap.size,0,Z⟩=V (O a m c)/\W.cell? ⟨w.heap.size+1,1,Z⟩=V (J true)/\W.cell? ⟨w.heap.size+1,0,Z⟩=V (O p r q)) ((repeat' (with_reducible refine And.intro ?_ ?_))<;>(first|(go_simp;done)|(refine hx1.d ?_;go_simp;done))) (first|((go_at_call 187;(with_reducible refine(kF _ (X #[O p r q]) (X #[O a m c]) y.natAbs x.natAbs (-1) ?_ ?_ ad.o ac.o oM oM).mono ?_);(refine o.ext ?_;exact eA);(refine n.ext ?_;exact eA);rintro e w1 ⟨r1,rfl,b,hx1,aj⟩;obtain⟨a1,m1,c1,rfl⟩:=b.u.form;obtain⟨⟨i,al⟩,t,u,f⟩:=Ub w hx1))|((go_at_call 183;(with_reducible refine(Er _ true (X #[O a1 m1 c1]) ((y.natAbs:Int) + -1*(x.natAbs:Int)) ?_).mono ?_);(refine b.u.ext ?_;exact eA);rintro e w2 ⟨r2,rfl,d,k,ak⟩;obtain⟨a2,m2,c2,s2,rfl⟩:=d.form;obtain⟨⟨j,am⟩,z,K,g⟩:=Ub w k)))
   all_goals go_wp2
   refine bR (v:=X #[O a2 m2 c2,J s2]) (by simp[results,Tryz.results179,go_sem,R,i,j,l,f,g]) rfl ⟨_,rfl,?_,eA,dA⟩;rw[<-qP (s:=true) ae.o af.o oM];exact d.keep kA
  ·have ai:=Mo an;go_in;go_wp2_with((go_at_call 226;(with_reducible refine(PD _ (X #[O a m c]) (X #[O p r q]) x.natAbs y.natAbs ?_ ?_).mono ?_);(refine n.ext ?_;exact eA);(refine o.ext ?_;exact eA);rintro e w0 ⟨rfl,aa,aq⟩;obtain⟨⟨R,ar⟩,ao,ap,l⟩:=Ub w aa));go_region_held3 (fun W=>W.cell? ⟨w.heap.size,0,Z⟩=V (O a m c)/\W.cell? ⟨w.heap.size,1,Z⟩=V (J false)/\W.cell? ⟨w.heap.size+1,0,Z⟩=V (O p r q)) ((repeat' (with_reducible refine And.intro ?_ ?_))<;>(first|(go_simp;done)|(refine hx1.d ?_;go_simp;done))) (first|((go_at_call 187;(with_reducible refine(kF _ (X #[O a m c]) (X #[O p r q]) x.natAbs y.natAbs (-1) ?_ ?_ ac.o ad.o oM oM).mono ?_);(refine n.ext ?_;exact eA);(refine o.ext ?_;exact eA);rintro e w1 ⟨r1,rfl,b,hx1,aj⟩;obtain⟨a1,m1,c1,rfl⟩:=b.u.form;obtain⟨⟨i,al⟩,t,u,f⟩:=Ub w hx1))|((go_at_call 183;(with_reducible refine(Er _ false (X #[O a1 m1 c1]) ((x.natAbs:Int) + -1*(y.natAbs:Int)) ?_).mono ?_);(refine b.u.ext ?_;exact eA);rintro e w2 ⟨r2,rfl,d,k,ak⟩;obtain⟨a2,m2,c2,s2,rfl⟩:=d.form;obtain⟨⟨j,am⟩,z,K,g⟩:=Ub w k)))
   all_goals go_wp2
   refine bR (v:=X #[O a2 m2 c2,J s2]) (by simp[results,Tryz.results179,go_sem,R,i,j,l,f,g]) rfl ⟨_,rfl,?_,eA,dA⟩;rw[<-Qv (s:=false) ae.o af.o oM];exact d.keep kA
 cases s<;>cases s'
 ·exact ab rfl rfl
 ·exact P rfl rfl
 ·exact ag rfl rfl
 ·exact ah rfl rfl
def yK w c d x y(e:Id w c x)(f:Id w d y)(a:Lm Mc x)(b:Lm Mc y):Calls Tryz.prog 179 #[c,d] w (uj w (x+y)):=Tl (Fz w c d x y e f a b)
def oG w P R x y(t:Id w P x)(u:Id w R y)(b:Lm Mc x)(d:Lm Mc y):Calls Tryz.prog 184 #[P,R] w (Qg w (x-y)):=by
 obtain⟨a,m,c,s,rfl⟩:=t.form;obtain⟨q,z,r,K,rfl⟩:=u.form;have k:=ka b;have l:=ka d.neg;clear b d;go_in;go_wp2;go_region_held3 (fun W=>W.cell? ⟨w.heap.size,0,Z⟩=V (O a m c)/\W.cell? ⟨w.heap.size,1,Z⟩=V (J s)/\W.cell? ⟨w.heap.size+1,0,Z⟩=V (O q z r)/\W.cell? ⟨w.heap.size+1,1,Z⟩=V (J K)) ((repeat' (with_reducible refine And.intro ?_ ?_))<;>(first|(go_simp;done)|(refine hx1.d ?_;go_simp;done))) (first|((go_at_call 186;(with_reducible refine(tA _ (X #[O q z r,J K]) y ?_).mono ?_);(refine u.ext ?_;exact eA);rintro e w1 ⟨r1,rfl,f,hx1,ae⟩;obtain⟨a1,m1,c1,s1,rfl⟩:=f.form;obtain⟨⟨n,ag⟩,aa,ab,i⟩:=Ub w hx1))|((go_at_call 179;(with_reducible refine(Fz _ (X #[O a m c,J s]) (X #[O a1 m1 c1,J s1]) x (-y) ?_ ?_ k.o l.o).mono ?_);(refine t.ext ?_;exact eA);(refine f.ext ?_;exact eA);rintro e w2 ⟨r2,rfl,g,p,af⟩;obtain⟨a2,m2,c2,s2,rfl⟩:=g.form;obtain⟨⟨o,ah⟩,ac,ad,j⟩:=Ub w p)))
 all_goals go_wp2
 exact bR (v:=X #[O a2 m2 c2,J s2]) (by simp[results,Tryz.results184,go_sem,n,o,i,j]) rfl ⟨_,rfl,g.keep kA,eA,dA⟩
def NH{x y s t}(a:s=decide (x<0))(b:t=decide (y<0)):sg (!(s==t)) ((x.natAbs:Int)*(y.natAbs:Int))=x*y:=by
 rw[<-Int.natCast_mul,<-Int.natAbs_mul];subst a b;rcases Int.lt_trichotomy x 0 with h|rfl|h<;>rcases Int.lt_trichotomy y 0 with k|rfl|k
 ·have:=Int.mul_pos_of_neg_of_neg h k;simp[sg,h,k];omega
 ·simp[sg]
 ·have:=Int.mul_neg_of_neg_of_pos h k;simp[sg,h,show ¬y<0 by omega];omega
 ·simp[sg]
 ·simp[sg]
 ·simp[sg]
 ·have:=Int.mul_neg_of_pos_of_neg h k;simp[sg,k,show ¬x<0 by omega];omega
 ·simp[sg]
 ·have:=Int.mul_pos h k;simp[sg,show ¬x<0 by omega,show ¬y<0 by omega];omega
def XL w va vb x y(k:Id w va x)(l:Id w vb y)(b:Lm Mc x)(d:Lm Mc y):Calls Tryz.prog 147 #[va,vb] w (Qg w (x*y)):=by
 obtain⟨a,m,c,s,rfl⟩:=k.form;obtain⟨P,m',R,s',rfl⟩:=l.form;have p:=ka k.sgn;have q:=ka l.sgn;have u:=k.dig;have z:=l.dig;have n:=ka b.abs;have o:=ka d.abs;clear b d k l;go_in;go_wp2;go_region_held3 (fun W=>W.cell? ⟨w.heap.size,0,Z⟩=V (O a m c)/\W.cell? ⟨w.heap.size,1,Z⟩=V (J s)/\W.cell? ⟨w.heap.size+1,0,Z⟩=V (O P m' R)/\W.cell? ⟨w.heap.size+1,1,Z⟩=V (J s')) ((repeat' (with_reducible refine And.intro ?_ ?_))<;>(first|(go_simp;done)|(refine hx1.d ?_;go_simp;done))) (first|((go_at_call 195;(with_reducible refine(pL _ (X #[O a m c]) (X #[O P m' R]) x.natAbs y.natAbs ?_ ?_ n.o o.o).mono ?_);(refine u.ext ?_;exact eA);(refine z.ext ?_;exact eA);rintro e w1 ⟨r1,rfl,f,hx1,ae⟩;obtain⟨a1,m1,c1,rfl⟩:=f.u.form;obtain⟨⟨r,ag⟩,aa,ab,i⟩:=Ub w hx1))|((go_at_call 183;(with_reducible refine(Er _ (!(s==s')) (X #[O a1 m1 c1]) ((x.natAbs:Int)*(y.natAbs:Int)) ?_).mono ?_);(refine f.u.ext ?_;exact eA);rintro e w2 ⟨r2,rfl,g,K,af⟩;obtain⟨a2,m2,c2,s2,rfl⟩:=g.form;obtain⟨⟨t,ah⟩,ac,ad,j⟩:=Ub w K)))
 all_goals go_wp2
 refine bR (v:=X #[O a2 m2 c2,J s2]) (by simp[results,Tryz.results147,go_sem,r,t,i,j]) rfl ⟨_,rfl,?_,eA,dA⟩;rw[<-NH p.o q.o];exact g.keep kA
def Qo w c d x y(e:Id w c x)(f:Id w d y)(a:Lm Mc x)(b:Lm Mc y):Calls Tryz.prog 147 #[c,d] w (uj w (x*y)):=Tl (XL w c d x y e f a b)
def Ez w n o x y(k:Id w n x)(l:Id w o y)(b:Lm Mc x)(d:Lm Mc y):Calls Tryz.prog 136 #[n,o] w fun e p=>e=.returned (E F (x-y).sign)/\Aa w p/\Dr w p:=by obtain⟨a,m,c,s,rfl⟩:=k.form;obtain⟨t,m',v,s',rfl⟩:=l.form;have g:=ka b;have i:=ka d;clear b d;go_in;go_wp2_with(first|((go_at_call 184;(with_reducible refine(oG _ (X #[O a m c,J s]) (X #[O t m' v,J s']) x y ?_ ?_ g.o i.o).mono ?_);(refine k.ext ?_;exact eA);(refine l.ext ?_;exact eA);rintro e w1 ⟨r1,rfl,f,j,P⟩;obtain⟨u,m1,z,s1,rfl⟩:=f.form;obtain⟨⟨K,W⟩,q,r⟩:=Yb w j))|((go_at_call 163;(with_reducible refine(Cv _ (X #[O u m1 z,J s1]) (x-y) ?_).mono ?_);(refine f.ext ?_;exact eA);rintro e w2 ⟨rfl,aa,R⟩)));go_ret;exact⟨rfl,eA,dA⟩
def EB w c d x y(f:Id w c x)(g:Id w d y)(a:Lm Mc x)(b:Lm Mc y):Calls Tryz.prog 136 #[c,d] w fun e i=>e=.returned (E F (x-y).sign)/\Aa w i:=Gn (Ez w c d x y f g a b)
end
section
open Go.RowKit Go.Shelf
attribute [local go_sem] Oper.semAt_some
def Zg(w:Y)(x y:Int)(W:Y):Prop:=
 Aa w W/\w.heap.size+1+1+1<=W.heap.size/\(∃sl,W.heap[w.heap.size]?=V (N #[sl] 59 (0,0))/\Gd W (X #[sl]) x)/\
 (∃sl,W.heap[w.heap.size+1]?=V (N #[sl] 59 (0,0))/\Gd W (X #[sl]) y)/\W.heap[w.heap.size+1+1]?=V (N #[O Z 0 0] 59 (0,0))
def Zg.ext{w x y W W'}(h:Zg w x y W)(k:Aa W W'):Zg w x y W':=by obtain⟨a,i,⟨f,b,c⟩,⟨g,d,h6⟩,e⟩:=h;have:=k.size;exact⟨a.trans k,by omega,⟨f,k.e b,c.ext k⟩,⟨g,k.e d,h6.ext k⟩,k.e e⟩
def Zg.setX{w x y x' W sl}(h:Zg w x y W)(i:Gd W (X #[sl]) x'):Zg w x' y (W.setCell ⟨w.heap.size,0,Z⟩ sl):=by obtain⟨d,e,⟨m,b,l⟩,⟨j,f,h6⟩,g⟩:=h;have a:∀k,k≠w.heap.size->(W.setCell ⟨w.heap.size,0,Z⟩ sl).heap[k]?=W.heap[k]?:=fun k a=>bS _ _ _ _ a;have c:Ia 2 W (W.setCell ⟨w.heap.size,0,Z⟩ sl):=(Ia.refl _ W).set b dM _;exact⟨d.set (nE _) _,by rw[yg];exact e,⟨sl,one_setCell b,i.keep c⟩,⟨j,(a _ oM).trans f,h6.keep c⟩,(a _ oM).trans g⟩
def Zg.setY{w x y d W sl}(h:Zg w x y W)(l:Gd W (X #[sl]) d):Zg w x d (W.setCell ⟨w.heap.size+1,0,Z⟩ sl):=by obtain⟨e,f,⟨m,g,i⟩,⟨n,b,h6⟩,j⟩:=h;have a:∀k,k≠w.heap.size+1->(W.setCell ⟨w.heap.size+1,0,Z⟩ sl).heap[k]?=W.heap[k]?:=fun k a=>bS _ _ _ _ a;have c:Ia 2 W (W.setCell ⟨w.heap.size+1,0,Z⟩ sl):=(Ia.refl _ W).set b dM _;exact⟨e.set dO _,by rw[yg];exact f,⟨m,(a _ oM).trans g,i.keep c⟩,⟨sl,one_setCell b,l.keep c⟩,(a _ oM).trans j⟩
def Zg.keepX{w x y W}(h:Zg w x y W) u:Ia 2 W (W.setCell ⟨w.heap.size,0,Z⟩ u):=by obtain⟨b,c,⟨e,a,d⟩,_⟩:=h;exact(Ia.refl _ W).set a dM _
def Zg.keepY{w x y W}(h:Zg w x y W) u:Ia 2 W (W.setCell ⟨w.heap.size+1,0,Z⟩ u):=by obtain⟨b,c,⟨g,d,e⟩,⟨i,a,h6⟩,f⟩:=h;exact(Ia.refl _ W).set a dM _
def Zg.setXY{w x y x' e W c d}(h:Zg w x y W)(a:Gd W (X #[c]) x')(b:Gd W (X #[d]) e):Zg w x' e ((W.setCell ⟨w.heap.size,0,Z⟩ c).setCell ⟨w.heap.size+1,0,Z⟩ d):=(h.setX a).setY (b.keep (h.keepX _))
def zu{k}{x n:Int}(h:2 ^ k*x=n)(a:x%2=0):2 ^ (k+1)*(x/2)=n:=by rw[Int.pow_succ,Int.mul_assoc,show 2*(x/2)=x by omega];exact h
def Zg.rdX{w x y W}(h:Zg w x y W):∃a m c,W.cell? ⟨w.heap.size,0,Z⟩=V (O a m c)/\W.frozen? ⟨w.heap.size,0,Z⟩=false/\Gd W (X #[O a m c]) x:=by obtain⟨f,g,⟨k,b,d⟩,⟨l,i,h6⟩,j⟩:=h;obtain⟨a,m,c,e⟩:=d.form;cases e;exact⟨a,m,c,cell_of_one b,free_of_one b,d⟩
def Zg.rdY{w x y W}(h:Zg w x y W):∃a m c,W.cell? ⟨w.heap.size+1,0,Z⟩=V (O a m c)/\W.frozen? ⟨w.heap.size+1,0,Z⟩=false/\Gd W (X #[O a m c]) y:=by obtain⟨d,f,⟨k,g,i⟩,⟨l,b,h6⟩,j⟩:=h;obtain⟨a,m,c,e⟩:=h6.form;cases e;exact⟨a,m,c,cell_of_one b,free_of_one b,h6⟩
def Zg.rdR{w x y W}(h:Zg w x y W):W.cell? ⟨w.heap.size+1+1,0,Z⟩=V (O Z 0 0)/\W.frozen? ⟨w.heap.size+1+1,0,Z⟩=false:=⟨cell_of_one h.2.2.2.2,free_of_one h.2.2.2.2⟩
def Zg.o{w x y g W sl}(h:Zg w x y W)(b:Gd W (X #[sl]) g):Gd (W.setCell ⟨w.heap.size+1+1,0,Z⟩ sl) (X #[sl]) g/\Aa w (W.setCell ⟨w.heap.size+1+1,0,Z⟩ sl)/\(W.setCell ⟨w.heap.size+1+1,0,Z⟩ sl).cell? ⟨w.heap.size+1+1,0,Z⟩=V sl:=by have a:=h.2.2.2.2;exact⟨b.keep ((Ia.refl _ W).set a dM _),h.1.set dO _,cell_of_one (one_setCell a)⟩
def KC{x y}(h:x%2=0)(b:y%2=1):Int.gcd (x/2) y=Int.gcd x y:=by
 have a:Nat.Coprime 2 y.natAbs:=by
  unfold Nat.Coprime;rw[Nat.gcd_rec,show y.natAbs%2=1 by omega];rfl
 have e:x.natAbs=2*(x/2).natAbs:=oM;unfold Int.gcd;rw[e];exact(Nat.Coprime.gcd_mul_left_cancel _ a).symm
def uK{x y}(a:0<=x)(h:x<=y):Int.gcd x (y + -1*x)=Int.gcd x y:=by unfold Int.gcd;rw[show (y + -1*x).natAbs=y.natAbs-x.natAbs by omega];exact Nat.gcd_sub_self_right oM
def LJ{x y a b k}(c:2 ^ k*x=a)(d:2 ^ k*y=b):(Int.gcd a b:Int)=2 ^ k*(Int.gcd x y:Int):=by rw[<-c,<-d,Int.gcd_mul_left];simp[Int.natAbs_pow]
def KI{k n}(h:(2:Int) ^ k<B ^ n):k<24*n:=by apply Classical.byContradiction;intro a;have e:B=(2:Int) ^ 24:=dM;rw[e,<-Int.pow_mul]at h;have:=Qm (b:=(2:Int)) dM (show 24*n<=k by omega);omega
def pN{k:Nat}{x n}(h:Lm Mc n)(f:0<x)(e:2 ^ k*x=n):k<2400000000/\(k:Int)<n:=by
 have c:(2:Int) ^ k*1<=2 ^ k*x:=Int.mul_le_mul_of_nonneg_left oM (Int.pow_nonneg dM);have a:(2:Int) ^ k<B ^ Mc:=by unfold Lm at h;omega
 have b:=KI a;have d:(k:Int)<2 ^ k:=by exact_mod_cast Nat.lt_two_pow_self (n:=k)
 unfold Mc at b;omega
def tw{k}{x n:Int}(d:0<x)(h:2 ^ k*x=n):x<=n:=by
 have a:(1:Int)<=2 ^ k:=by have:=jj (b:=(2:Int)) dM k;omega
 have c:1*x<=2 ^ k*x:=Int.mul_le_mul_of_nonneg_right a oM;omega
def vB{x y}(h:y%2=0)(a:x%2=1):Int.gcd x (y/2)=Int.gcd x y:=by rw[Int.gcd_comm,KC h a,Int.gcd_comm]
def Gd.lm{w a m c n}(h:Gd w (X #[O a m c]) n){k}(i:m<=k):Lm k n:=by obtain⟨e,f,g,b,d⟩:=h.open;rw[<-d];exact Lm.dig b.1 oM
def NP w x y(c:0<=x/\x<18446744073709551616)(d:0<=y/\y<18446744073709551616):Calls Tryz.prog 288 #[E .u64 x,E .u64 y] w fun e f=>e=.returned (E .u64 (Int.gcd x y:Nat))/\Aa w f:=by obtain⟨a,rfl⟩:=Int.eq_ofNat_of_zero_le c.1;obtain⟨b,rfl⟩:=Int.eq_ofNat_of_zero_le d.1;exact OP w a b oM oM
def FF{x}(h:Lm 2 x):x<281474976710656:=by have:B ^ 2=281474976710656:=dM;unfold Lm at h;omega
def MJ{x y}(h:0<x):(Int.gcd x y:Int)<=x:=Int.le_of_dvd h (Int.gcd_dvd_left ..)
def qS(w:Y)(a nb:Int)(g:Nat)(t5:I)(wr:Y):Prop:=
 ∃(k:Nat)(x y:Int),t5=E F k/\g=a.toNat-k/\0<x/\0<y/\2 ^ k*x=a/\2 ^ k*y=nb/\Zg w x y wr
def pS(w:Y)(a nb:Int)(t5:I)(wr:Y):Prop:=
 ∃(k:Nat)(x y:Int),t5=E F k/\0<x/\0<y/\(x%2=1\/y%2=1)/\2 ^ k*x=a/\2 ^ k*y=nb/\Zg w x y wr
def oS(w:Y)(G M:Int)(k:Nat)(g:Nat)(_:I)(wr:Y):Prop:=
 ∃(x y:Int),0<x/\0<y/\(x%2=1\/y%2=1)/\x<=M/\y<=M/\2 ^ k*(Int.gcd x y:Int)=G/\g=x.toNat/\Zg w x y wr
def nS(w:Y)(G M:Int)(k:Nat)(g:Nat)(_:I)(wr:Y):Prop:=
 ∃(x y:Int),0<x/\0<=y/\x%2=1/\x<=M/\y<=M/\2 ^ k*(Int.gcd x y:Int)=G/\g=(x+y).toNat/\Zg w x y wr
def mS(w:Y)(G M:Int)(k:Nat)(x y:Int)(g:Nat)(_:I)(wr:Y):Prop:=
 ∃(a:Int),0<a/\a<=y/\2 ^ k*(Int.gcd x a:Int)=G/\g=a.toNat/\Zg w x a wr
def kS(w:Y)(G M:Int)(k:Nat)(x y:Int)(_:I)(wr:Y):Prop:=
 ∃(a b:Int),0<a/\a<=b/\a%2=1/\b<=M/\b<x+y/\2 ^ k*(Int.gcd a b:Int)=G/\Zg w a b wr
def qO{a b}(h:b<a):decide (0<Gc a b)=true:=by simp only[Gc];grind
def sB{a b}(h:a<=b):decide (0<Gc a b)=false:=by simp only[Gc];grind
def TO w va vb na nb(ha:Gd w va na)(hb:Gd w vb nb)(bi:Lm Mc na)(bj:Lm Mc nb):Calls Tryz.prog 265 #[va,vb] w fun e w'=>∃r,e=.returned r/\Gd w' r (Int.gcd na nb:Nat)/\Aa w w':=by
 obtain⟨a,m,c,rfl⟩:=ha.form;obtain⟨a',m',c',rfl⟩:=hb.form;have h0:=ha.nonneg;have bC:=hb.nonneg;have aF:=ka bi;have ba:=ka bj;clear bi bj;have aM:Zg w na nb (((w.alloc (N #[O a m c] 59)).alloc (N #[O a' m' c'] 59)).alloc (N #[O Z 0 0] 59)):=by
  refine⟨eA,by simp,⟨_,?_,ha.ext eA⟩,⟨_,?_,hb.ext eA⟩,?_⟩
  ·rw[Dg,Dg,Dg];simp only[wZ];rw[if_neg oM,if_neg oM,if_pos trivial]
  ·rw[Dg,Dg];simp only[wZ];rw[if_neg oM,if_pos trivial]
  ·rw[Dg];simp only[wZ];rw[if_pos trivial]
 have aG:=ka aM;have aJ:=ha.ext aM.1;have bD:=hb.ext aM.1;clear aM;by_cases hz:na=0
 ·have bq:(na==0)=true:=by simpa using hz
  go_in;go_wp2_with(go_at_call 166;(with_reducible refine(Zj _ _ _ aJ).mono ?_);rintro e w1 ⟨rfl,b⟩;have ad:=aG.o.ext b;obtain⟨aY,mY,cY,P,R,d⟩:=ad.rdY;obtain⟨aj,ak⟩:=ad.rdR);obtain⟨o1,o2,o3⟩:=ad.o d;refine bR (v:=X #[O aY mY cY]) (by simp[results,Tryz.results265,go_sem,o3]) rfl ⟨_,rfl,?_,o2⟩;rw[hz];simpa[Int.natAbs_of_nonneg bC] using o1
 have ci:(na==0)=false:=by simpa using hz
 by_cases a5:nb=0
 ·have bq:(nb==0)=true:=by simpa using a5
  go_in;go_wp2_with(first|(go_at_call 166;(with_reducible refine(Zj _ _ _ aJ).mono ?_);rintro e w1 ⟨rfl,b⟩;have ad:=aG.o.ext b;obtain⟨aY,mY,cY,P,R,d⟩:=ad.rdY)|(go_at_call 166;(with_reducible refine(Zj _ _ _ d).mono ?_);rintro e w2 ⟨rfl,o⟩;have ax:=ad.ext o;obtain⟨aX,K,cX,an,ao,f⟩:=ax.rdX;obtain⟨aj,ak⟩:=ax.rdR));obtain⟨o1,o2,o3⟩:=ax.o f;refine bR (v:=X #[O aX K cX]) (by simp[results,Tryz.results265,go_sem,o3]) rfl ⟨_,rfl,?_,o2⟩;rw[a5];simpa[Int.natAbs_of_nonneg h0] using o1
 have bq:(nb==0)=false:=by simpa using a5
 obtain⟨G,hG⟩:∃G:Int,(Int.gcd na nb:Int)=G:=⟨_,rfl⟩;obtain⟨M,be,bf,hM⟩:∃M:Int,na<=M/\nb<=M/\Ta (Lm Mc M):=by
  rcases Int.le_total na nb with h|h
  ·exact⟨nb,h,Int.le_refl _,ba⟩
  ·exact⟨na,Int.le_refl _,h,aF⟩
 rw[hG];have HG:=ka hG;clear hG;go_in
 go_upto_block 1 with (first|(go_at_call 166;(with_reducible refine(Zj _ _ _ aJ).mono ?_);rintro e w1 ⟨rfl,b⟩;have ad:=aG.o.ext b;obtain⟨aY,mY,cY,P,R,d⟩:=ad.rdY)|(go_at_call 166;(with_reducible refine(Zj _ _ _ d).mono ?_);rintro e w2 ⟨rfl,o⟩;have ax:=ad.ext o))
 go_cut [5] (pS w na nb)
 case first =>
  go_wp2;go_loopg [5] na.toNat (qS w na nb)
  case atStart=>exact⟨0,na,nb,rfl,rfl,by omega,by omega,by simp,by simp,ax⟩
  case round =>
   clear ax ad b o P R d;obtain⟨k,x,y,rfl,rfl,n,t,am,au,g⟩:=hrel;obtain⟨aX,K,cX,an,ao,f⟩:=g.rdX;obtain⟨aY,mY,cY,P,R,d⟩:=g.rdY;obtain⟨aj,ak⟩:=g.rdR;have aa:w.heap.size<wr.heap.size:=(by have:=g.2.1;omega);have ab:w.heap.size+1<wr.heap.size:=(by have:=g.2.1;omega);have ac:w.heap.size+1+1<wr.heap.size:=(by have:=g.2.1;omega);have Hs:=ka g;clear g;have aH:=ka am;have aI:=ka au;have ce:=pN aF.o n am;have cf:IntKind.i64.wrap ((k:Int)+1)=(k:Int)+1:=iW _ oM;have aw:Ta (Lm Mc x):=ka (aF.o.le oM (tw n am));have aQ:Ta (Lm Mc y):=ka (ba.o.le oM (tw t au));clear am au;by_cases q:x%2=0
   ·(have af:(x%2==0)=true:=by simpa using q);by_cases av:y%2=0
    ·(have aV:(y%2==0)=true:=by simpa using av);go_wp2_with(first|(go_at_call 286;(with_reducible refine(Dj _ (X #[O aX K cX]) x ?_ n).mono ?_);(refine f.ext ?_;exact eA);rintro e w1 ⟨rfl,b⟩;obtain⟨⟨p,s⟩,i,j,l⟩:=Ub w b)|(go_at_call 286;(with_reducible refine(Dj _ (X #[O aY mY cY]) y ?_ t).mono ?_);(refine d.ext ?_;exact eA);rintro e w2 ⟨rfl,o⟩;obtain⟨⟨ay,az⟩,ag,ah,ai⟩:=Ub w o))
     go_region_with (first|((go_at_call 287;(with_reducible refine(qF _ (X #[O aX K cX]) x ?_ aw.o).mono ?_);(refine f.ext ?_;exact eA);rintro e w3 ⟨r3,rfl,aZ,a2⟩;obtain⟨b2,cj,b4,rfl⟩:=aZ.u.form;obtain⟨⟨bE,bH⟩,br,bs,bt⟩:=Ub w a2))|((go_at_call 287;(with_reducible refine(qF _ (X #[O aY mY cY]) y ?_ aQ.o).mono ?_);(refine d.ext ?_;exact eA);rintro e w4 ⟨r4,rfl,a0,a3⟩;obtain⟨b3,ck,b5,rfl⟩:=a0.u.form;obtain⟨⟨bF,bI⟩,bu,bv,bw⟩:=Ub w a3)))
     all_goals
      go_wp2;go_roundg (na.toNat-(k+1))
      case measure=>omega
      case rel=>first|exact⟨k+1,x/2,y/2,Kl oM,rfl,by omega,by omega,zu aH.o q,zu aI.o av,(Hs.o.ext eA).setXY (aZ.u.ext eA) a0.u⟩|((repeat apply Exists.intro);exact⟨⟨k+1,x/2,y/2,Kl oM,rfl,by omega,by omega,zu aH.o q,zu aI.o av,(Hs.o.ext eA).setXY (aZ.u.ext eA) a0.u⟩,rfl⟩)
    ·(have aV:(y%2==0)=false:=by simpa using av);go_wp2_with(first|(go_at_call 286;(with_reducible refine(Dj _ (X #[O aX K cX]) x ?_ n).mono ?_);(refine f.ext ?_;exact eA);rintro e w1 ⟨rfl,b⟩;obtain⟨⟨p,s⟩,i,j,l⟩:=Ub w b)|(go_at_call 286;(with_reducible refine(Dj _ (X #[O aY mY cY]) y ?_ t).mono ?_);(refine d.ext ?_;exact eA);rintro e w2 ⟨rfl,o⟩;obtain⟨⟨ay,az⟩,ag,ah,ai⟩:=Ub w o));go_meet;exact⟨k,x,y,rfl,n,t,.inr oM,aH.o,aI.o,Hs.o.ext eA⟩
   ·(have af:(x%2==0)=false:=by simpa using q);go_wp2_with(first|(go_at_call 286;(with_reducible refine(Dj _ (X #[O aX K cX]) x ?_ n).mono ?_);(refine f.ext ?_;exact eA);rintro e w1 ⟨rfl,b⟩;obtain⟨⟨p,s⟩,i,j,l⟩:=Ub w b));go_meet;exact⟨k,x,y,rfl,n,t,.inl oM,aH.o,aI.o,Hs.o.ext eA⟩
 case rest =>
  obtain⟨k,x0,y0,rfl,n,t,aL,am,au,g⟩:=hcut;have aB:2 ^ k*(Int.gcd x0 y0:Int)=G:=by rw[<-HG.o];exact(LJ am au).symm
  have al:=Int.le_trans (tw n am) be;have ar:=Int.le_trans (tw t au) bf;have a9:=ka (pN aF.o n am).1;clear am au be bf aJ bD aG;go_wp2;go_loopg [26] x0.toNat (oS w G M k)
  case atStart=>exact⟨x0,y0,n,t,aL,al,ar,aB,rfl,g⟩
  case round =>
   clear g aB al ar aL n t;obtain⟨x,y,n,t,aL,al,ar,hg,rfl,g⟩:=hrel;obtain⟨aX,K,cX,an,ao,f⟩:=g.rdX;obtain⟨aY,mY,cY,P,R,d⟩:=g.rdY;obtain⟨aj,ak⟩:=g.rdR;have aa:w.heap.size<wr.heap.size:=(by have:=g.2.1;omega);have ab:w.heap.size+1<wr.heap.size:=(by have:=g.2.1;omega);have ac:w.heap.size+1+1<wr.heap.size:=(by have:=g.2.1;omega);have Hs:=ka g;clear g;have Hg:=ka hg;clear hg;have aw:Ta (Lm Mc x):=ka (hM.o.le oM al);by_cases q:x%2=0
   ·(have af:(x%2==0)=true:=by simpa using q);go_wp2_with(first|(go_at_call 286;(with_reducible refine(Dj _ (X #[O aX K cX]) x ?_ n).mono ?_);(refine f.ext ?_;exact eA);rintro e w1 ⟨rfl,b⟩;obtain⟨⟨p,s⟩,i,j,l⟩:=Ub w b)|((go_at_call 287;(with_reducible refine(qF _ (X #[O aX K cX]) x ?_ aw.o).mono ?_);(refine f.ext ?_;exact eA);rintro e w2 ⟨r2,rfl,ap,o⟩;obtain⟨aS,a8,aT,rfl⟩:=ap.u.form;obtain⟨⟨ay,az⟩,ag,ah,ai⟩:=Ub w o)));go_roundg (x/2).toNat
    case measure=>omega
    case rel=>exact⟨x/2,y,by omega,t,.inr oM,by omega,ar,by rw[KC q oM];exact Hg.o,rfl,(Hs.o.ext eA).setX ap.u⟩
   ·(have af:(x%2==0)=false:=by simpa using q);have aD:x%2=1:=oM;go_wp2_with(first|(go_at_call 286;(with_reducible refine(Dj _ (X #[O aX K cX]) x ?_ n).mono ?_);(refine f.ext ?_;exact eA);rintro e w1 ⟨rfl,b⟩;obtain⟨⟨p,s⟩,i,j,l⟩:=Ub w b));go_loopg [30] (x+y).toNat (nS w G M k)
    case atStart=>exact⟨x,y,n,by omega,aD,al,ar,Hg.o,rfl,Hs.o.ext eA⟩
    case round =>
     clear b p s i j l an ao f P R d aj ak aa ab ac Hs Hg aw al ar aL n t q af aD;obtain⟨x,y,n,t,aD,al,ar,hg,rfl,g⟩:=hrel;obtain⟨aX,K,cX,an,ao,f⟩:=g.rdX;obtain⟨aY,mY,cY,P,R,d⟩:=g.rdY;obtain⟨aj,ak⟩:=g.rdR;have aa:w.heap.size<wr.heap.size:=(by have:=g.2.1;omega);have ab:w.heap.size+1<wr.heap.size:=(by have:=g.2.1;omega);have ac:w.heap.size+1+1<wr.heap.size:=(by have:=g.2.1;omega);have Hs:=ka g;clear g;have Hg:=ka hg;clear hg;have aw:Ta (Lm Mc x):=ka (hM.o.le oM al);by_cases a4:y=0
     ·(have bN:(y==0)=true:=by simpa using a4);(have HK:k<=10000000000:=by have:=a9.o;omega);go_wp2_with(first|(go_at_call 166;(with_reducible refine(Zj _ (X #[O aY mY cY]) y ?_).mono ?_);(refine d.ext ?_;exact eA);rintro e w1 ⟨rfl,b⟩;obtain⟨⟨p,s⟩,i,j,l⟩:=Ub w b)|((go_at_call 289;(with_reducible refine(QE _ (X #[O aX K cX]) x k ?_ aw.o HK).mono ?_);(refine f.ext ?_;exact eA);rintro e w2 ⟨r2,rfl,ap,o⟩;obtain⟨aS,a8,aT,rfl⟩:=ap.u.form;obtain⟨⟨ay,az⟩,ag,ah,ai⟩:=Ub w o)));obtain⟨o1,o2,o3⟩:=(Hs.o.ext (w:=w) (W':=w2) eA).o ap.u;refine bR (v:=X #[O aS a8 aT]) (by simp[results,Tryz.results265,go_sem,o3]) rfl ⟨_,rfl,?_,o2⟩;(have e:2 ^ k*x=G:=by rw[<-Hg.o,a4];simp[Int.natAbs_of_nonneg (show 0<=x by omega)]);rw[<-e];exact o1
     ·(have bN:(y==0)=false:=by simpa using a4);go_wp2_with(first|(go_at_call 166;(with_reducible refine(Zj _ (X #[O aY mY cY]) y ?_).mono ?_);(refine d.ext ?_;exact eA);rintro e w1 ⟨rfl,b⟩;obtain⟨⟨p,s⟩,i,j,l⟩:=Ub w b));go_loopg [33] y.toNat (mS w G M k x y)
      case atStart=>exact⟨y,by omega,Int.le_refl _,Hg.o,rfl,Hs.o.ext eA⟩
      case round =>
       clear b p s i j l an ao f P R d aj ak aa ab ac Hs Hg;obtain⟨u,aE,cg,hg,rfl,g⟩:=hrel;obtain⟨aX,K,cX,an,ao,f⟩:=g.rdX;obtain⟨aY,mY,cY,P,R,d⟩:=g.rdY;obtain⟨aj,ak⟩:=g.rdR;have aa:w.heap.size<wr.heap.size:=(by have:=g.2.1;omega);have ab:w.heap.size+1<wr.heap.size:=(by have:=g.2.1;omega);have ac:w.heap.size+1+1<wr.heap.size:=(by have:=g.2.1;omega);have Hs:=ka g;clear g;have Hg:=ka hg;clear hg;have aQ:Ta (Lm Mc u):=ka (hM.o.le oM oM);by_cases q:u%2=0
       ·(have af:(u%2==0)=true:=by simpa using q);go_wp2_with(first|(go_at_call 286;(with_reducible refine(Dj _ (X #[O aY mY cY]) u ?_ aE).mono ?_);(refine d.ext ?_;exact eA);rintro e w1 ⟨rfl,b⟩;obtain⟨⟨p,s⟩,i,j,l⟩:=Ub w b)|((go_at_call 287;(with_reducible refine(qF _ (X #[O aY mY cY]) u ?_ aQ.o).mono ?_);(refine d.ext ?_;exact eA);rintro e w2 ⟨r2,rfl,ap,o⟩;obtain⟨aS,a8,aT,rfl⟩:=ap.u.form;obtain⟨⟨ay,az⟩,ag,ah,ai⟩:=Ub w o)));go_roundg (u/2).toNat
        case measure=>omega
        case rel=>exact⟨u/2,by omega,by omega,by rw[vB q aD];exact Hg.o,rfl,(Hs.o.ext eA).setY ap.u⟩
       ·(have af:(u%2==0)=false:=by simpa using q);have bO:u%2=1:=oM;go_upto_if 40 with (first|(go_at_call 286;(with_reducible refine(Dj _ (X #[O aY mY cY]) u ?_ aE).mono ?_);(refine d.ext ?_;exact eA);rintro e w1 ⟨rfl,b⟩;obtain⟨⟨p,s⟩,i,j,l⟩:=Ub w b)|((go_at_call 226;(with_reducible refine(Cu _ (X #[O aX K cX]) (X #[O aY mY cY]) x u ?_ ?_).mono ?_);(refine f.ext ?_;exact eA);(refine d.ext ?_;exact eA);rintro e w2 ⟨rfl,o⟩;obtain⟨⟨ay,az⟩,ag,ah,ai⟩:=Ub w o)));go_cut [41] (kS w G M k x y)
        case first =>
         rcases Int.lt_or_le u x with aq|aq
         ·have aU:=qO aq;have bG:0<Gc x u:=of_decide_eq_true aU;have aR:=ka aq;clear aq;go_wp2;go_meet;exact⟨u,x,aE,by have:=aR.o;omega,bO,al,by omega,by rw[Int.gcd_comm];exact Hg.o,(Hs.o.ext (W':=w2) eA).setXY (d.ext eA) (f.ext eA)⟩
         ·have aU:=sB aq;(have bG:Gc x u<=0:=by have:=of_decide_eq_false aU;omega);have aR:=ka aq;clear aq;go_wp2;go_meet;exact⟨x,u,n,aR.o,aD,by omega,by omega,Hg.o,Hs.o.ext (W':=w2) eA⟩
        case rest =>
         clear b p s i j l o ay az ag ah ai an ao f P R d aj ak aa ab ac Hs Hg;obtain⟨x',u,aC,bp,aP,bQ,bP,hg,g⟩:=hcut;obtain⟨wr,rfl⟩:∃W,W=wc:=⟨_,rfl⟩;obtain⟨aX,K,cX,an,ao,f⟩:=g.rdX;obtain⟨aY,mY,cY,P,R,d⟩:=g.rdY;obtain⟨aj,ak⟩:=g.rdR;have aa:w.heap.size<wr.heap.size:=(by have:=g.2.1;omega);have ab:w.heap.size+1<wr.heap.size:=(by have:=g.2.1;omega);have ac:w.heap.size+1+1<wr.heap.size:=(by have:=g.2.1;omega);have Hs:=ka g;clear g;have aA:Ta (Lm Mc x'):=ka (hM.o.le oM oM);have aO:Ta (Lm Mc u):=ka (hM.o.le oM oM);(have bh:2 ^ k*(Int.gcd x' (u + -1*x'):Int)=G:=by rw[uK oM bp];exact hg);have Hg:=ka bh;clear hg bh;by_cases bk:K<=2
         ·(have bl:decide ((K:Int)<=2)=true:=by simp;omega);have bm:(K:Int)<=2:=oM;go_wp2_with(first|((go_at_call 187;(with_reducible refine(Br _ (X #[O aY mY cY]) (X #[O aX K cX]) u x' (-1) ?_ ?_ aO.o aA.o oM oM).mono ?_);(refine d.ext ?_;exact eA);(refine f.ext ?_;exact eA);rintro e w1 ⟨r1,rfl,ae,b⟩;obtain⟨a1,m1,c1,rfl⟩:=ae.u.form;obtain⟨⟨p,s⟩,i,j,l⟩:=Ub w b;rcases Nat.lt_or_ge 2 m1 with aW|aW)))
          ·go_roundg (x'+(u + -1*x')).toNat
           case measure=>omega
           case rel=>exact⟨x',u + -1*x',aC,by omega,aP,by omega,by omega,Hg.o,rfl,(Hs.o.ext eA).setY ae.u⟩
          ·(have HK:k<=10000000000:=by have:=a9.o;omega);obtain⟨z,hz⟩:=gX (u + -1*x');rw[hz]at ae Hg;have ch:0<=z:=oM;clear hz;have aK:Zg w x' u w1:=Hs.o.ext eA;have bg:=aK.setY (sl:=O a1 m1 c1) (ae.u);have bb:=(f.ext (w':=w1) eA).keep (aK.keepY (O a1 m1 c1));have bc:=ae.u.keep (aK.keepY (O a1 m1 c1));have bA:=ka (f.lm bk);have bB:=ka (ae.u.lm aW);have b6:=FF (f.lm bk);have b7:=FF (ae.u.lm aW);have bJ:=MJ (y:=z) aC;have aB:0<=(Int.gcd x' (z):Int):=Int.natCast_nonneg _;have bx:Ta (Lm Mc (Int.gcd x' (z):Int)):=ka (aA.o.le aB bJ);have bz:=ka bg;clear bg aK;go_region_held3 (fun W=>W.cell? ⟨w.heap.size,0,Z⟩=V (O aX K cX)/\W.cell? ⟨w.heap.size+1,0,Z⟩=V (O a1 m1 c1)) ((repeat' (with_reducible refine And.intro ?_ ?_))<;>(first|(go_simp;done)|(refine b.d ?_;go_simp;done))) (first|((go_at_call 138;(with_reducible refine(Pu _ (X #[O aX K cX]) x' ?_ bA.o).mono ?_);(refine bb.ext ?_;exact eA);rintro e w3 ⟨rfl,a2⟩;obtain⟨⟨bE,bH⟩,br,bs,bt⟩:=Ub w a2))|((go_at_call 138;(with_reducible refine(Pu _ (X #[O a1 m1 c1]) (z) ?_ bB.o).mono ?_);(refine bc.ext ?_;exact eA);rintro e w4 ⟨rfl,a3⟩;obtain⟨⟨bF,bI⟩,bu,bv,bw⟩:=Ub w a3))|((go_at_call 288;(with_reducible refine(NP _ x' (z) ⟨by omega,by omega⟩ ⟨by omega,by omega⟩).mono ?_);rintro e w5 ⟨rfl,bK⟩;obtain⟨⟨b8,cb⟩,bT,bU,bV⟩:=Ub w bK))|((go_at_call 188;(with_reducible refine(Zp _ (Int.gcd x' (z):Nat) aB oM).mono ?_);rintro e w6 ⟨r6,rfl,bn,bL⟩;obtain⟨a6,m6,c6,rfl⟩:=bn.u.form;obtain⟨⟨b9,cc⟩,bW,bX,bY⟩:=Ub w bL))|((go_at_call 289;(with_reducible refine(QE _ (X #[O a6 m6 c6]) (Int.gcd x' (z):Nat) k ?_ bx.o HK).mono ?_);(refine bn.u.ext ?_;exact eA);rintro e w7 ⟨r7,rfl,bo,bM⟩;obtain⟨a7,m7,c7,rfl⟩:=bo.u.form;obtain⟨⟨ca,cd⟩,bZ,b0,b1⟩:=Ub w bM)))
           all_goals go_wp2
           obtain⟨o1,o2,o3⟩:=(bz.o.ext (W':=w7) eA).o bo.u;refine bR (v:=X #[O a7 m7 c7]) (by simp[results,Tryz.results265,go_sem,o3]) rfl ⟨_,rfl,?_,o2⟩;rw[Hg.o]at o1;exact o1
         ·(have bl:decide ((K:Int)<=2)=false:=by simp;omega);have bm:2<(K:Int):=oM;go_wp2_with(first|((go_at_call 187;(with_reducible refine(Br _ (X #[O aY mY cY]) (X #[O aX K cX]) u x' (-1) ?_ ?_ aO.o aA.o oM oM).mono ?_);(refine d.ext ?_;exact eA);(refine f.ext ?_;exact eA);rintro e w1 ⟨r1,rfl,ae,b⟩;obtain⟨a1,m1,c1,rfl⟩:=ae.u.form;obtain⟨⟨p,s⟩,i,j,l⟩:=Ub w b)));go_roundg (x'+(u + -1*x')).toNat
          case measure=>omega
          case rel=>exact⟨x',u + -1*x',aC,by omega,aP,by omega,by omega,Hg.o,rfl,(Hs.o.ext eA).setY ae.u⟩
