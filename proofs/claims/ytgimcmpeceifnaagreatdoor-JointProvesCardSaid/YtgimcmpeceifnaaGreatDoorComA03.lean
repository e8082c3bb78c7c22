import Derived.Test.YtgimcmpeceifnaaGreatDoorComA02
import Derived.Sort.CutIn
import Derived.Deep.LoopGhost
import Derived.Deep.CutBlock
import Derived.Deep.DeepCutAuto
set_option maxRecDepth 1000000
set_option maxHeartbeats 16000000
set_option linter.all false
open Go.Value renaming slice->O,agg->X,bool->J,int->E,pointer->H
open Go renaming World->Y,Value->I,Addr->Q
open Option renaming none->Z,some->V
open Go.Obj renaming cells->N
open Go.IntKind renaming i64->F
namespace Go.Proofs.YtgimcmpeceifnaaGreatDoor.Cop
section
open Go.RowKit Go.Shelf
attribute [local go_sem] Oper.semAt_some
def Ba.keepsFrom{B W W'}(h:Ba W W'):KeepsFrom B W W':=⟨h.size,fun _ _ _ a _=>h.e a⟩
def Vk{T w base v xs}(h:Cb T w base v xs):Cb T w.drew base v xs:=h
def tg(w:Y) o k:(w.alloc o).heap[k]?=if k=w.heap.size then V o else w.heap[k]?:=by show (w.heap.push o)[k]?=_;rw[Array.getElem?_push]
def Cb.stay{T w w' base v xs}(h:Cb T w base v xs)(d:∀(g:Nat)(o:Obj),base<=g->w.heap[g]?=V o->w'.heap[g]?=V o):Cb T w' base v xs:=by
 obtain⟨e,a⟩:=h;refine⟨e,?_⟩;rcases a with a|⟨g,cap,cur,hv,b,c,r⟩
 ·exact .inl a
 ·exact .inr ⟨g,cap,cur,hv,b,d _ _ b c,r⟩
def Ja.putObj{T w D x o}(h:w.heap[D]?=V (.deferred x)):Ja T w (w.putObj D o):=fun k b c a=>by
 rw[World.putObj_heap_other];exact a;rintro rfl;rw[h]at a;cases a
def lh(w:Y)(a:I)(n:Nat)(L:Int)(i:Int)(os:List Int)(W:Y):Prop:=
 Ba w W/\w.heap.size+1+1+1+1+1+1+1+1<=W.heap.size/\W.heap[w.heap.size+1]?=V (N #[a] 177 (0,0))/\W.heap[w.heap.size+1+1]?=V (N #[O Z 0 0] 177 (0,0))/\
 (∃sl ds,W.heap[w.heap.size+1+1+1]?=V (N #[sl] 177 (0,0))/\Cb 2 W (w.heap.size+1+1+1+1+1+1+1+1) sl ds/\Cg B ds/\dv B ds=L)/\
 W.heap[w.heap.size+1+1+1+1+1]?=V (N #[O (V ⟨w.heap.size+1+1+1+1,0,Z⟩) n n] 175 (0,0))/\W.heap[w.heap.size+1+1+1+1+1+1]?=V (N #[E F i] 3 (0,0))/\
 Cb 2 W (w.heap.size+1+1+1+1) (O (V ⟨w.heap.size+1+1+1+1,0,Z⟩) n n) os
def lh.keep{w d n L i os W W'}(h:lh w d n L i os W)(o:Ba w W')(a:∀T,Ja T W W')(r:W.heap.size<=W'.heap.size):lh w d n L i os W':=by obtain⟨p,q,f,g,⟨sl,e,j,h6,k,l⟩,m,b,c⟩:=h;exact⟨o,by omega,a _ _ _ _ f,a _ _ _ _ g,⟨sl,e,a _ _ _ _ j,h6.keep (a _),k,l⟩,a _ _ _ _ m,a _ _ _ _ b,c.keep (a _)⟩
def lh.ext{w a n L i os W W'}(h:lh w a n L i os W)(k:Ba W W'):lh w a n L i os W':=h.keep (h.1.trans k) (fun _=>k.keep) k.size
def lh.left{w e n L i L' os W}(h:lh w e n L i os W){sl ds}(hi:Cb 2 W (w.heap.size+1+1+1+1+1+1+1+1) sl ds)(p:Cg B ds)(hv:dv B ds=L'):lh w e n L' i os (W.setCell ⟨w.heap.size+1+1+1,0,Z⟩ sl):=by obtain⟨g,j,l,m,⟨q,f,d,h6,r,s⟩,o,b,c⟩:=h;have a:∀k,k≠w.heap.size+1+1+1->(W.setCell ⟨w.heap.size+1+1+1,0,Z⟩ sl).heap[k]?=W.heap[k]?:=fun k a=>bS _ _ _ _ a;refine⟨g.set dO _,by rw[fg];exact j,(a _ oM).trans l,(a _ oM).trans m,⟨sl,ds,one_setCell d,hi.keep ((Ja.refl _ W).set d dM _),p,hv⟩,(a _ oM).trans o,(a _ oM).trans b,c.setOther (by simp[Value.ownBlock]) _⟩
def lh.num{w g n L i os W}(h:lh w g n L i os W) e:lh w g n L e os (W.setCell ⟨w.heap.size+1+1+1+1+1+1,0,Z⟩ (E F e)):=by obtain⟨j,l,m,o,⟨f,c,p,h6,q,r⟩,s,b,d⟩:=h;have a:∀k,k≠w.heap.size+1+1+1+1+1+1->(W.setCell ⟨w.heap.size+1+1+1+1+1+1,0,Z⟩ (E F e)).heap[k]?=W.heap[k]?:=fun k a=>bS _ _ _ _ a;refine⟨j.set dO _,by rw[fg];exact l,(a _ oM).trans m,(a _ oM).trans o,⟨f,c,(a _ oM).trans p,h6.keep ((Ja.refl _ W).set b dM _),q,r⟩,(a _ oM).trans s,one_setCell b,d.setOther (by simp[Value.ownBlock]) _⟩
def lh.o{w g n L i os W}(h:lh w g n L i os W) j x:lh w g n L i (os.set j x) (W.setCell ⟨w.heap.size+1+1+1+1,j,Z⟩ (E F x)):=by obtain⟨l,m,o,p,⟨f,b,q,h6,r,s⟩,t,c,d⟩:=h;have a:∀k,k≠w.heap.size+1+1+1+1->(W.setCell ⟨w.heap.size+1+1+1+1,j,Z⟩ (E F x)).heap[k]?=W.heap[k]?:=fun k a=>bS _ _ _ _ a;refine⟨l.set dO _,by rw[fg];exact m,(a _ oM).trans o,(a _ oM).trans p,⟨f,b,(a _ oM).trans q,h6.setOther ?_ _,r,s⟩,(a _ oM).trans t,(a _ oM).trans c,d.stored j x⟩;intro e;have:=(World.ownsRow.lt h6 _ e).1;dsimp only at this;omega
def yq(w:Y) x:Cb 2 (w.alloc (N #[E F x] 2)) w.heap.size (O (V ⟨w.heap.size,0,Z⟩) 1 1) [x]:=
 World.ownsRow_lit w #[E F x] 1 (nE _) dM rfl
def vk(w:Y)(a D:Nat)(W W':Y):Prop:=KeepsFrom D W W'/\Qe w a W W'
def vk.refl w a D W:vk w a D W W:=⟨KeepsFrom.refl _ _,Qe.refl _ _ _⟩
def vk.set{w a D W A}(h:vk w a D W A){p}(c:w.heap.size<=p.block)(b:p.block≠a) u:vk w a D W (A.setCell p u):=⟨h.1.trans ((KeepsOthers.setCell _ _ _).from _),h.2.set c b u⟩
def vk.ext{w a D W A C}(h:vk w a D W A)(k:Ba A C)(c:w.heap.size<=A.heap.size)(b:a<A.heap.size):vk w a D W C:=⟨h.1.trans k.keepsFrom,h.2.ext k c b⟩
def lh.rdI{w a n L i os W}(h:lh w a n L i os W):W.cell? ⟨w.heap.size+1+1+1+1+1+1,0,Z⟩=V (E F i)/\W.frozen? ⟨w.heap.size+1+1+1+1+1+1,0,Z⟩=false:=⟨cell_of_one h.2.2.2.2.2.2.1,free_of_one h.2.2.2.2.2.2.1⟩
def lh.rdB{w a n L i os W}(h:lh w a n L i os W):W.cell? ⟨w.heap.size+1,0,Z⟩=V a:=cell_of_one h.2.2.1
def lh.rdO{w a n L i os W}(h:lh w a n L i os W):W.cell? ⟨w.heap.size+1+1+1+1+1,0,Z⟩=V (O (V ⟨w.heap.size+1+1+1+1,0,Z⟩) n n):=cell_of_one h.2.2.2.2.2.1
def lh.rdL{w j n L i os W}(h:lh w j n L i os W):∃a5 m5 c5,W.cell? ⟨w.heap.size+1+1+1,0,Z⟩=V (O a5 m5 c5)/\W.frozen? ⟨w.heap.size+1+1+1,0,Z⟩=false/\Nd W (X #[O a5 m5 c5]) L:=by obtain⟨k,l,m,o,⟨g,a,b,h6,e,f⟩,p,c,d⟩:=h;obtain⟨a5,c5,rfl⟩:=h6.form;exact⟨a5,_,c5,cell_of_one b,free_of_one b,jh.u ⟨_,a,rfl,h6,e,f⟩⟩
def lh.leftCell{w d n L i os W}(h:lh w d n L i os W) sl:(W.setCell ⟨w.heap.size+1+1+1,0,Z⟩ sl).cell? ⟨w.heap.size+1+1+1,0,Z⟩=V sl:=by obtain⟨c,a,b,_⟩:=h.2.2.2.2.1;exact cell_of_one (one_setCell b)
def lh.leftD{w e n L L' i os W}(h:lh w e n L i os W){sl ds base}(hi:Cb 2 W base sl ds)(c:Cg B ds)(hv:dv B ds=L'):Nd (W.setCell ⟨w.heap.size+1+1+1,0,Z⟩ sl) (X #[sl]) L':=by obtain⟨d,a,b,_⟩:=h.2.2.2.2.1;exact jh.u ⟨_,ds,rfl,hi.setOther (hi.ne_block b dM) _,c,hv⟩
def Kv{a b}(h:a<b):decide (Gc a b<0)=true:=by simp only[Gc];grind
def Wv{a b}(h:¬a<b):decide (Gc a b<0)=false:=by simp only[Gc];grind
def NI{k}(a:0<=k)(b:k<18446744073709551616):Lm Rc k:=by refine Lm.mono (j:=3) ?_ dM;unfold Lm B;constructor<;>omega
def PL k:IntKind.u64.wrap k=k%18446744073709551616:=by simp[IntKind.wrap,IntKind.signed,IntKind.bits]
def Lm.le{k a b}(h:Lm k b)(c:0<=a)(d:a<=b):Lm k a:=by have:=Tj zj k;unfold Lm at *;omega
def ZL{os:List Int}{j}(h:os[j]?=V 0):os.set j 0=os:=by obtain⟨a,b⟩:=lS.1 h;rw[<-b];exact List.set_getElem_self a
def Qq(w:Y)(a:I)(nb:Int)(n:Nat)(pre:List Oj)(W:Y):Prop:=
 pre.length<=n/\∃os,lh w a n (hv pre%nb) ((n:Int)-pre.length) os W/\os.length=n/\Wd B os/\dv B os=B ^ (n-pre.length)*(hv pre/nb)/\∀j,j<n-pre.length->os[j]?=V 0
def yP{os n p h x nb}(i:p<n)(g:os.length=n)(c:dv B os=B ^ (n-p)*(h/nb))(d:os[n-(p+1)]?=V 0)(f:0<nb):dv B (os.set (n-(p+1)) ((x+B*(h%nb))/nb))=B ^ (n-(p+1))*((x+B*h)/nb):=by
 rw[Ko _ d,c,show n-p=(n-(p+1))+1 by omega,Int.pow_succ,Int.sub_zero];have e:(x+B*h)/nb=B*(h/nb)+(x+B*(h%nb))/nb:=by
  have a:h=nb*(h/nb)+h%nb:=(Int.mul_ediv_add_emod h nb).symm;have b:x+B*h=(x+B*(h%nb))+nb*(B*(h/nb)):=by
   generalize h/nb=q at *
   generalize h%nb=r at *
   subst a;grind
  rw[b,Int.add_mul_ediv_left _ _ oM,Int.add_comm]
 rw[e];generalize B ^ (n-(p+1))=P;generalize h/nb=q;generalize (x+B*(h%nb))/nb=r;grind
def KN{h x nb}(a:0<nb):(x+B*h)%nb=(x+B*(h%nb))%nb:=by rw[Int.add_emod,Int.mul_emod,<-Int.emod_emod_of_dvd h (Int.dvd_refl nb),<-Int.mul_emod,<-Int.add_emod];rw[Int.emod_emod_of_dvd h (Int.dvd_refl nb)]
def sF{L x nb}(a:0<=L)(b:L<nb)(c:0<=x/\x<16777216):0<=(x+B*L)/nb/\(x+B*L)/nb<16777216:=by unfold B;refine⟨Int.ediv_nonneg oM oM,Int.ediv_lt_of_lt_mul oM ?_⟩;omega
def Qq.next{w l nb n pre x os W}(h:lh w l n ((x.1+B*(hv pre%nb))%nb) ((n:Int)-pre.length-1) (os.set (n-(pre.length+1)) ((x.1+B*(hv pre%nb))/nb)) W)(o:pre.length<n)(c:os.length=n)(i:Wd B os)(b:dv B os=B ^ (n-pre.length)*(hv pre/nb))(f:∀j,j<n-pre.length->os[j]?=V 0)(a:0<nb):Qq w l nb n (pre++[x]) W:=by
 have p:=x.2;have k:=sF (L:=hv pre%nb) (x:=x.1) (Int.emod_nonneg (hv pre) oM) (Int.emod_lt_of_pos (hv pre) a) p;refine⟨by simp;omega,os.set (n-(pre.length+1)) ((x.1+B*(hv pre%nb))/nb),?_,by simpa using c,?_,?_,?_⟩
 ·rw[Ax,KN a,lA,List.length_singleton];have e:((n:Int)-((pre.length+1:Nat):Int))=(n:Int)-pre.length-1:=oM;rw[e];exact h
 ·intro d g;rcases List.mem_or_eq_of_mem_set g with g|rfl
  ·exact i d g
  ·unfold B at k ⊢;exact k
 ·rw[Ax,lA,List.length_singleton];exact yP o c b (f _ oM) a
 ·intro j m;rw[lA,List.length_singleton]at m;rw[List.getElem?_set_ne oM];exact f j oM
def NU(w:Y)(b:I)(n:Nat)(L i:Int)(os:List Int)(a D:Nat)(W:Y)(t9:I)(wr:Y):Prop:=
 ∃k:Int,t9=E F k/\ -9223372036854775808<=k/\k<9223372036854775808/\lh w b n L i os wr/\vk w a D W wr
def PU(w:Y)(c:I)(n:Nat)(L i:Int)(os:List Int)(a D:Nat)(W:Y)(b:Bool)(t:I)(wr:Y):Prop:=
 t=J b/\lh w c n L i os wr/\vk w a D W wr
def PG x:-9223372036854775808<=IntKind.i64.wrap x/\IntKind.i64.wrap x<9223372036854775808/\IntKind.i64.wrap x%18446744073709551616=x%18446744073709551616:=by simp[IntKind.wrap,IntKind.signed,IntKind.bits];omega
def CP{k d a L nb:Int}(h:d%18446744073709551616=(k-1)%18446744073709551616)(f:a=k%18446744073709551616)(e:0<=L)(c:L<nb*a):(d%18446744073709551616).toNat<(k%18446744073709551616).toNat:=by
 have b:a≠0:=by rintro b;rw[b]at c;simp at c;omega
 omega
def OU(w:Y)(b:I)(n:Nat)(L i:Int)(os:List Int)(a D:Nat)(W:Y)(wr:Y):Prop:=
 lh w b n L i os wr/\vk w a D W wr
def MU(w:Y)(b:I)(n:Nat)(L nb i:Int)(os:List Int)(a D:Nat)(W:Y)(t9:I)(wr:Y):Prop:=
 ∃k L2:Int,t9=E F k/\ -9223372036854775808<=k/\k<9223372036854775808/\0<=L2/\L2+nb*(k%18446744073709551616)=L/\lh w b n L2 i os wr/\vk w a D W wr
def Lm.dig{k ds}(h:Wd B ds)(a:ds.length<=k):Lm k (dv B ds):=by have c:=Yi zj h;have d:=On (b:=B) dM a;have e:=Tj zj k;unfold Lm;omega
def zK{a b}(h:b<=a):decide (0<=Gc a b)=true:=by simp only[Gc];grind
def TM{a b}(h:¬b<=a):decide (0<=Gc a b)=false:=by simp only[Gc];grind
def CL{nb L2 L a}(b:0<nb)(g:0<=a)(f:L2+nb*a=L)(j:nb<=L2)(e:L<B*nb):a+1<=L/nb/\a+1<16777217:=by
 have c:(a+1)*nb<=L:=by rw[<-f,Int.add_mul,Int.mul_comm a nb];omega
 have i:a+1<=L/nb:=(Int.le_ediv_iff_mul_le b).2 c;have d:L/nb<B:=Int.ediv_lt_of_lt_mul b e;unfold B at d;omega
def LN{nb L2 L k}(a:0<nb)(c:L2+nb*(k%18446744073709551616)=L)(b:0<=L2)(l:¬nb<=L2)(e:L<B*nb)(f:-9223372036854775808<=k)(g:k<9223372036854775808):k=L/nb/\L2=L%nb:=by
 have i:L/nb=k%18446744073709551616:=by rw[<-c,Int.add_mul_ediv_left _ _ oM,Int.ediv_eq_zero_of_lt b oM];omega
 have j:L%nb=L2:=by rw[<-c,Int.add_mul_emod_self_left,Int.emod_eq_of_lt b oM]
 have d:L/nb<B:=Int.ediv_lt_of_lt_mul a e;unfold B at d;omega
def JN{x r L nb}(h:x+B*r=L)(b:x<16777216)(a:r<nb):L<B*nb:=by unfold B at *;omega
def fe:Nat:=10000000
def AP{zs os ds m a nb}(b:dv B zs=dv B os)(c:dv B os=B ^ (m-ds.reverse.length)*(hv ds.reverse/nb))(d:dv B (Dg ds)=a)(h4:ds.length=m):dv B zs=a/nb:=by rw[b,c,Pw,d,List.length_reverse,h4,Nat.sub_self];simp
def zP{a ds b nb}(c:dv B a=hv ds.reverse%nb)(d:dv B (Dg ds)=b):dv B a=b%nb:=by rw[c,Pw,d]
def QQ{w d D tmps f nb a4 a5 b c zs a v2 v3 x}(t4:tmps.getD 4 undef=H (V ⟨w.heap.size+1+1,0,Z⟩))(t5:tmps.getD 5 undef=H (V ⟨w.heap.size+1+1+1,0,Z⟩))(m:d.heap[w.heap.size+1+1]?=V (N #[v2] 177 (0,0)))(q3:d.heap[w.heap.size+1+1+1]?=V (N #[v3] 177 (0,0)))(t:Cb 2 d (w.heap.size+1+1+1+1) (O a4 zs.length b) zs)(u:Cb 2 d (w.heap.size+1+1+1+1+1+1+1+1) (O a5 a.length c) a)(R:Cg B zs)(L:Cg B a)(W:dv B zs=f/nb)(hr:dv B a=f%nb)(l:Ba w d)(g:((d.setCell ⟨w.heap.size+1+1,0,Z⟩ (O a4 zs.length b)).setCell ⟨w.heap.size+1+1+1,0,Z⟩ (O a5 a.length c)).heap[D]?=V (.deferred x))(hD:w.heap.size+1+1+1+1+1+1+1+1<=D):LeavesInM Fence.wide 6 Tryz.prog Tryz.f309 tmps (fun e s=>∃q r,e=.returned (.tuple #[q,r])/\jh s w.heap.size q (f/nb)/\jh s w.heap.size r (f%nb)/\Ba w s) [] FrameMode.returning (((d.setCell ⟨w.heap.size+1+1,0,Z⟩ (O a4 zs.length b)).setCell ⟨w.heap.size+1+1+1,0,Z⟩ (O a5 a.length c)).putObj D (.deferred Z)):=by
 have r2:(d.setCell ⟨w.heap.size+1+1,0,Z⟩ (O a4 zs.length b)).heap[w.heap.size+1+1]?=V (N #[O a4 zs.length b] 177 (0,0)):=one_setCell m;have n:(d.setCell ⟨w.heap.size+1+1,0,Z⟩ (O a4 zs.length b)).heap[w.heap.size+1+1+1]?=V (N #[v3] 177 (0,0)):=(bS _ _ _ _ dO).trans q3;have v:=t.setOther (p:=⟨w.heap.size+1+1,0,Z⟩) (t.ne_block m dM) (O a4 zs.length b);have y:=u.setOther (p:=⟨w.heap.size+1+1,0,Z⟩) (u.ne_block m dM) (O a4 zs.length b);have i:=l.set (p:=⟨w.heap.size+1+1,0,Z⟩) dO (O a4 zs.length b);generalize d.setCell ⟨w.heap.size+1+1,0,Z⟩ (O a4 zs.length b)=w4 at *
 have s2:(w4.setCell ⟨w.heap.size+1+1+1,0,Z⟩ (O a5 a.length c)).heap[w.heap.size+1+1]?=V (N #[O a4 zs.length b] 177 (0,0)):=(bS _ _ _ _ dO).trans r2;have s3:(w4.setCell ⟨w.heap.size+1+1+1,0,Z⟩ (O a5 a.length c)).heap[w.heap.size+1+1+1]?=V (N #[O a5 a.length c] 177 (0,0)):=one_setCell n;have k4:=v.setOther (p:=⟨w.heap.size+1+1+1,0,Z⟩) (v.ne_block n dM) (O a5 a.length c);have k5:=y.setOther (p:=⟨w.heap.size+1+1+1,0,Z⟩) (y.ne_block n dM) (O a5 a.length c);have j:=i.set (p:=⟨w.heap.size+1+1+1,0,Z⟩) dO (O a5 a.length c);generalize w4.setCell ⟨w.heap.size+1+1+1,0,Z⟩ (O a5 a.length c)=w5 at *
 have z:=cell_of_one ((World.putObj_heap_other (w:=w5) (r:=D) (o:=.deferred Z) oM).trans s2);have K:=cell_of_one ((World.putObj_heap_other (w:=w5) (r:=D) (o:=.deferred Z) oM).trans s3);have m4:=k4.keep (Ja.putObj (o:=.deferred Z) g);have m5:=k5.keep (Ja.putObj (o:=.deferred Z) g);refine⟨.tuple #[X #[O a4 zs.length b],X #[O a5 a.length c]],?_,_,_,rfl,⟨_,zs,rfl,m4.mono oM,R,W⟩,⟨_,a,rfl,m5.mono oM,L,hr⟩,?_⟩
 ·simp only[Array.getD_eq_getD_getElem?]at t4 t5;simp[results,Tryz.results309,go_sem,t4,t5,z,K]
 ·exact j.D ((Below.refl D w5).grown (grownBy_putObj' w5 D _) (by have:=Ya g;omega) (fun k e=>by cases e;omega)) oM
def MN w va vb na nb(ha:Nd w va na)(hb:Nd w vb nb)(bt:Lm fe na)(ce:Lm fe nb)(aj:0<nb):Calls Tryz.prog 309 #[va,vb] w fun e w'=>∃q r,e=.returned (.tuple #[q,r])/\jh w' w.heap.size q (na/nb)/\jh w' w.heap.size r (na%nb)/\Ba w w':=by
 obtain⟨a,m,c,rfl⟩:=ha.form;obtain⟨a',m',c',rfl⟩:=hb.form;obtain⟨xs,hl,hi,hc,hv⟩:=ha.open;have hm:=bt.len hc hv;rw[hl]at hm;unfold fe at hm;obtain⟨ds,rfl⟩:=Fx hc.1;have Hl:=za hl;have Hv:=za hv;clear hl hv;have dx:∀(fn:Fn)(first cap:Array I)(w:Y),(Instr.makeFunc fn first cap).run Tryz.prog w = .ok (.func fn first cap) w:=fun _ _ _ _=>rfl;refine(callsIn_wide (n:=6)).1 ?_;refine callsIn_of_wp_marks Tryz.func309 rfl trivial ?_ rfl;simp only[Tryz.ntmps309,List.size_toArray,List.length_cons,List.length_nil,Nat.reduceAdd,Nat.reduceSub,Array.replicate_succ,Array.replicate_zero,List.push_toArray,List.append_toArray,List.nil_append,List.cons_append]
 gi_wp2_with(first|(gi_at_make;refine KI im Tryz.underlying175 rfl _ _ rfl _ rfl rfl rfl oM ?_;intro cs al)|(refine⟨trivial,?_⟩;gi_at_call 319;refine(callsIn_wide.2 (sE _ _ _ _)).mono ?_;rintro e w' ⟨rfl,rfl⟩))
 have bp:((((((((w.alloc (N #[O a m c] 177)).alloc (N #[O a' m' c'] 177)).alloc (N #[O Z 0 0] 177)).alloc (N #[O Z 0 0] 177)).alloc (N cs 2)).alloc (N #[O (V ⟨w.heap.size+1+1+1+1,0,Z⟩) m m] 175)).alloc (N #[E F m] 3)).alloc (N #[O a m c] 177)).cell? ⟨w.heap.size+1+1+1+1+1+1+1,0,Z⟩=V (O a m c):=by
  rw[World.cell?_alloc_at _ _ _ _ sM];rfl
 refine wpIn_rangeFunc_ownG rfl dM (gf:=322) (lb:=#[H (V ⟨w.heap.size+1+1+1+1+1+1+1,0,Z⟩)]) rfl trivial (enters_of Tryz.func322 kM rfl)
  (qG _ _ trivial rfl dM (w.heap.size+1+1+1+1+1+1+1) w _ _ ds bp sM hi eA) Qe.trans (Qe.put (by simp;omega) sM) (Below.refl _ _) (fun _=>rfl)
  (Qq w (O a' m' c') nb m) (fun _ _ _=>False) (Qk (fun s W h=>by obtain⟨_,os,h,_⟩:=h;have:=h.2.1;simp;omega) (fun s W W' h k=>?hsim)) (fun _=>Qk (fun _ _ h=>h.elim) (fun _ _ _ h _=>h)) ?h0
  (fun x=>{ tmps:=#[X #[O a m c],X #[O a' m' c'],H (V ⟨w.heap.size,0,Z⟩),H (V ⟨w.heap.size+1,0,Z⟩),H (V ⟨w.heap.size+1+1,0,Z⟩),H (V ⟨w.heap.size+1+1+1,0,Z⟩),H (V ⟨w.heap.size+1+1+1+1+1,0,Z⟩),H (V ⟨w.heap.size+1+1+1+1+1+1,0,Z⟩),E F x.1,undef,H (V ⟨w.heap.size,0,Z⟩),O a m c,E F m,O (V ⟨w.heap.size+1+1+1+1,0,Z⟩) m m,H (V ⟨w.heap.size,0,Z⟩),O a m c,E F m,X #[O a m c],.func (.func 322) #[] #[H (V ⟨w.heap.size+1+1+1+1+1+1+1,0,Z⟩)],E F x.1,undef,undef,undef,undef,undef,undef,undef,undef,undef,undef,undef,undef,undef,undef,undef,undef,undef,undef,undef,undef,undef,undef,undef,undef,undef,undef,undef,undef,undef,undef,undef,undef,undef,undef,undef,undef,undef,undef,undef,undef,undef,undef,undef,undef,undef,undef,undef,undef],defers:=[] }) ?assign ?body ?done ?stop
 case hsim =>
  obtain⟨h1,os,h2,h3⟩:=h;exact⟨h1,os,h2.keep (k.ext h2.1 (by simp;omega)) k.keep k.size,h3⟩
 case h0 =>
  refine⟨by simp,List.replicate m 0,⟨eA,by simp,(by simp only[tg,wZ];simp),(by simp only[tg,wZ];simp),⟨_,[],(by simp only[tg,wZ];simp),Cb.nil _ _ _,Cg.nil _,by simp[hv,Dg]⟩,(by simp only[tg,wZ];simp),by simp only[tg,wZ];simp,?_⟩,by simp,?_,by rw[Xo];simp[hv,Dg],?_⟩
  ·simpa using ((al.alloc _).alloc _).alloc _
  ·intro d hd;have:=(List.mem_replicate.1 hd).2;unfold B;omega
  ·intro j hj;simp at hj;simp[hj]
 case assign =>
  intro l x W K hK
  gi_wp2
  exact hK
 case body =>
  rintro l pre x W ⟨h1,os,ak,aI,au,af,aV⟩ ch;have dc:=za bt;have bl:=za ce;clear bt ce;have cn:=x.2.1;have bw:=x.2.2;obtain⟨dj,dq⟩:=ak.rdI;obtain⟨a5,m5,c5,bW,b7,bI⟩:=ak.rdL;have dg:=ak.2.1;have dd:=za ch;have bm:=za aI;have ao:=za af;have aP:=za aV;have ct:=za ak;have co:=za bI;have ck:pre.length<m:=by have h5:=Hl.o;have h6:=nw ds;omega
  have du:IntKind.i64.wrap ((m:Int)-pre.length-1)=(m:Int)-pre.length-1:=iW _ oM;clear ch aI af aV ak bI al bp;have an:=ct.o.num ((m:Int)-pre.length-1);obtain⟨W1,ai⟩:=gX (W.setCell ⟨w.heap.size+1+1+1+1+1+1,0,Z⟩ (E F ((m:Int)-pre.length-1)));rw[ai]at an;have cU:W1.heap.size=W.heap.size:=by rw[<-ai,fg]
  obtain⟨a6,m6,c6,bY,dr,bn⟩:=an.rdL;have bZ:((W.setCell ⟨w.heap.size+1+1+1+1+1+1,0,Z⟩ (E F ((m:Int)-pre.length-1))).alloc (N #[E F x.1] 2)).cell? ⟨w.heap.size+1+1+1,0,Z⟩=V (O a6 m6 c6):=by
   rw[ai,World.cell?_alloc_lt _ _ _ dO];exact bY
  have cr:=za an;have da:=za bn;have bj:=za ai;obtain⟨es,b3,b2,b1,b6⟩:=bn.open;have bC:=za b6;have db:=za b3;have aJ:Cb 2 ((W.setCell ⟨w.heap.size+1+1+1+1+1+1,0,Z⟩ (E F ((m:Int)-pre.length-1))).alloc (N #[E F x.1] 2)) W.heap.size (O (V ⟨W.heap.size,0,Z⟩) 1 1) [x.1]:=by
   rw[ai,<-cU];exact yq W1 x.1
  have a3:Mc 2 ((W.setCell ⟨w.heap.size+1+1+1+1+1+1,0,Z⟩ (E F ((m:Int)-pre.length-1))).alloc (N #[E F x.1] 2)) (O a6 m6 c6) es:=by
   rw[ai];exact b2.ext eA
  have c2:es.length<=10000000:=by
   have:=Lm.len (bl.o.le (Int.emod_nonneg _ oM) (Int.le_of_lt (Int.emod_lt_of_pos (hv pre) aj))) b1 bC.o;exact this
  have b4:[x.1].length+es.length<=1000000000000:=by simp;omega
  have b5:([x.1]++es).length<=1000000000:=by simp;omega
  have bq:Wd B ([x.1]++es):=by
   intro y hy;rcases List.mem_append.1 hy with hy|hy
   ·cases List.mem_singleton.1 hy;exact⟨cn,bw⟩
   ·exact b1.1 y hy
  have cN:∀y∈[x.1]++es,-4611686018427387904<=y/\y<=4611686018427387904:=by
   intro y hy;have:=bq y hy;unfold B at this;omega
  have br:0<=dv B ([x.1]++es):=(Yi zj bq).1;obtain⟨L',bo⟩:∃L',x.1+B*(hv pre%nb)=L':=⟨_,rfl⟩;have a9:dv B ([x.1]++es)=L':=by rw[<-bo,<-bC.o];simp
  have be:=za bo;have ab:=za a9;clear bo a9;have a1:W.heap.size<=((W.setCell ⟨w.heap.size+1+1+1+1+1+1,0,Z⟩ (E F ((m:Int)-pre.length-1))).alloc (N #[E F x.1] 2)).heap.size:=sM;clear ai bn bY an b6 b3 bW b7 co b2
  gi_wp2_with(gi_at_builtin;go_loud (refine LK im Tryz.underlying175 rfl _ _ rfl rfl aJ rfl a3 b4 a1 ?_);intro v' w1 t R aS;have cV:=nT a1 R.size)
  refine⟨trivial,?_⟩;(with_reducible refine(CallsIn.inRound l (callsIn_wide.2 (Mz W.heap.size v' ([x.1]++es) w1 t cV b5 cN br))).mono ?_);rintro e w2 ⟨v2,zs,rfl,aY,am,aa,bU,cL⟩;obtain⟨a7,c7,rfl⟩:=aa.form;have bz:Ba W1 w2:=by
   rw[bj.o]at R;exact(((eR W1).alloc _).D R oM).D bU oM
  have aC:=cr.o.ext bz;have aO:=aC.left (aa.mono oM) aY (am.trans ab.o);obtain⟨_,_,_,cG,cO,_⟩:=aC.rdL;have cH:=aC.leftCell (O a7 zs.length c7);have bV:=aO.rdB;have bc:=aC.leftD aa aY (am.trans ab.o);have aM:=hb.ext aO.1;have aw:=za aO;have bG:=za am;have ah:=za bz;clear aC aO am bz bZ aJ a3 R t cL bU aa aS;have aQ:0<=L':=by rw[<-ab.o];exact br
  by_cases aU:L'<nb
  ·have cJ:=Kv aU
   gi_wp2_with(refine⟨trivial,?_⟩;gi_at_call 292;(with_reducible refine(CallsIn.inRound l (callsIn_wide.2 (Er _ _ _ _ _ bc aM))).mono ?_);rintro e w4 ⟨rfl,u⟩)
   have hP:vk w (w.heap.size+1+1+1+1+1+1+1) (w.heap.size+1+1+1+1+1+1+1+1) W w4:=by
    have h5:=(vk.refl w (w.heap.size+1+1+1+1+1+1+1) (w.heap.size+1+1+1+1+1+1+1+1) W).set (p:=⟨w.heap.size+1+1+1+1+1+1,0,Z⟩) dO dO (E F ((m:Int)-pre.length-1));rw[bj.o]at h5;have h6:=ah.o.size;exact((h5.ext ah.o oM oM).set (p:=⟨w.heap.size+1+1+1,0,Z⟩) dO dO _).ext u (by rw[fg];omega) (by rw[fg];omega)
   have hI:Qq w (O a' m' c') nb m (pre++[x]) w4:=by
    refine Qq.next (os:=os) ?_ ck bm.o au ao.o aP.o aj;have h0:=be.o;have h1:=(sF (L:=hv pre%nb) (x:=x.1) (Int.emod_nonneg (hv pre) oM) (Int.emod_lt_of_pos (hv pre) aj) ⟨cn,bw⟩);rw[h0];(have aQ:0<=L':=by rw[<-ab.o];exact br);rw[Int.emod_eq_of_lt aQ aU,Int.ediv_eq_zero_of_lt aQ aU,ZL (aP.o _ oM)];exact aw.o.ext u
   refine⟨?_,hP.2,hI⟩;have:=hP.1;simpa using this
  ·have cJ:=Wv aU;have bO:vk w (w.heap.size+1+1+1+1+1+1+1) (w.heap.size+1+1+1+1+1+1+1+1) W (w2.setCell ⟨w.heap.size+1+1+1,0,Z⟩ (O a7 zs.length c7)):=by
    have h5:=(vk.refl w (w.heap.size+1+1+1+1+1+1+1) (w.heap.size+1+1+1+1+1+1+1+1) W).set (p:=⟨w.heap.size+1+1+1+1+1+1,0,Z⟩) dO dO (E F ((m:Int)-pre.length-1));rw[bj.o]at h5;exact(h5.ext ah.o oM oM).set (p:=⟨w.heap.size+1+1+1,0,Z⟩) dO dO _
   have bB:=za bO;clear bO
   gi_wp2_with(first|(refine⟨trivial,?_⟩;gi_at_call 292;(with_reducible refine(CallsIn.inRound l (callsIn_wide.2 (Er _ _ _ _ _ bc aM))).mono ?_);rintro e w4 ⟨rfl,u⟩;obtain⟨a8,m8,c8,ac,ar,i⟩:=(aw.o.ext u).rdL;have ad:=(aw.o.ext u).rdB;have f:=aM.ext u)|(refine⟨trivial,?_⟩;gi_at_call 320;(with_reducible refine(CallsIn.inRound l (callsIn_wide.2 (XN _ _ _ _ _ i f (bl.o.mono dM)))).mono ?_);rintro e w5 ⟨⟨k0,rfl,bs⟩,bx⟩))
   have bE:=(aw.o.ext u).ext bx;have bQ:=(bB.o.ext u (by rw[fg];have h6:=ah.o.size;omega) (by rw[fg];have h6:=ah.o.size;omega)).ext bx (by have h7:=u.size;rw[fg]at h7;have h6:=ah.o.size;omega) (by have h7:=u.size;rw[fg]at h7;have h6:=ah.o.size;omega);clear ac ar i ad f bc aM cG cO cH bV bB
   gi_loopw [9] (NU w (O a' m' c') m L' ((m:Int)-pre.length-1) os (w.heap.size+1+1+1+1+1+1+1) (w.heap.size+1+1+1+1+1+1+1+1) W) (fun t9 _=>(intOf t9%18446744073709551616).toNat)
   case atStart=>exact⟨k0,rfl,bs.1,by have:=bs.2;omega,bE,bQ⟩
   case round =>
    clear bE bQ u bx bs;obtain⟨k,rfl,b8,ca,Ho,hP⟩:=hrel;obtain⟨a8,m8,c8,ac,ar,i⟩:=Ho.rdL;have ad:=Ho.rdB;have f:=hb.ext Ho.1;have HO:=za Ho;have HP:=za hP;have aW:=Ho.2.1;obtain⟨kk,cb⟩:=gX (IntKind.u64.wrap k);(have cc:kk=k%18446744073709551616:=by rw[<-cb,PL]);have ap:0<=kk:=oM;have aG:kk<18446744073709551616:=oM;have bi:=za (NI ap aG);have bg:Ua (Lm Rc nb):=za (bl.o.mono dM);have bk:=za cc;clear Ho hP aw cc
    gi_wp2
    gi_cut [42]from 1000 (PU w (O a' m' c') m L' ((m:Int)-pre.length-1) os (w.heap.size+1+1+1+1+1+1+1) (w.heap.size+1+1+1+1+1+1+1+1) W (decide (Gc L' (nb*kk)<0)))
    case first =>
     gi_region_with (first|(refine⟨trivial,?_⟩;gi_at_call 281;(with_reducible refine(CallsIn.inRound l (callsIn_wide.2 (Gr _ kk ap aG))).mono ?_);rintro e wa ⟨r1,rfl,aK,b⟩;obtain⟨ax,mx,cx,rfl⟩:=aK.u.form;have aD:=b.d ac;have bX:=b.d ad)|(refine⟨trivial,?_⟩;gi_at_call 279;(with_reducible refine(CallsIn.inRound l (callsIn_wide.2 (PE _ _ _ nb kk ?_ ?_ bg.o bi.o))).mono ?_);(refine f.ext ?_;exact eA);(refine aK.u.ext ?_;exact eA);rintro e wb ⟨r2,rfl,aL,z⟩;obtain⟨ay,my,cy,rfl⟩:=aL.u.form;have a2:=z.d aD)|(refine⟨trivial,?_⟩;gi_at_call 292;(with_reducible refine(CallsIn.inRound l (callsIn_wide.2 (Er _ _ _ L' (nb*kk) ?_ ?_))).mono ?_);(refine i.ext ?_;exact eA);(refine aL.u.ext ?_;exact eA);rintro e wz ⟨rfl,aq⟩))
     all_goals gi_wp2
     all_goals gi_meet
     all_goals
      have av:Ba wr wz:=by
       have h1:Ba wr wa:=(eR wr).drew.trans b;exact(h1.trans z).trans aq
      exact⟨rfl,HO.o.ext av,HP.o.ext av oM oM⟩
    case rest =>
     clear HO HP ac ar i ad f aW;obtain⟨rfl,Ho,hP⟩:=hcut;have HO:=za Ho;have HP:=za hP;clear Ho hP;by_cases bu:L'<nb*kk
     ·have aE:=Kv bu;obtain⟨k1,b9⟩:=gX (IntKind.i64.wrap (k-1));have ae:=PG (k-1);rw[b9]at ae;rw[aE]
      gi_wp2
      go_roundw
      case rel=>exact⟨k1,rfl,ae.1,ae.2.1,HO.o,HP.o⟩
      case measure =>
       have:=CP ae.2.2 bk.o aQ bu;simpa[intOf] using this
     ·have aE:=Wv bu;rw[aE];have cg:nb*kk<=L':=oM;have cj:0<=nb*kk:=Int.mul_nonneg oM ap;have bf:Ua (Lm Rc L'):=za (by rw[<-ab.o];exact Lm.dig bq (by unfold Rc;simp;omega));have bA:Ua (Lm Rc (nb*kk)):=za (bf.o.le cj cg);obtain⟨a8,m8,c8,ac,ar,i⟩:=HO.o.rdL;have ad:=HO.o.rdB;have f:=hb.ext HO.o.1;have aW:=HO.o.2.1
      gi_wp2
      gi_cut []from 1000 (OU w (O a' m' c') m (L' + -1*(nb*kk)) ((m:Int)-pre.length-1) os (w.heap.size+1+1+1+1+1+1+1) (w.heap.size+1+1+1+1+1+1+1+1) W)
      case first =>
       gi_region_with (first|(refine⟨trivial,?_⟩;gi_at_call 281;(with_reducible refine(CallsIn.inRound l (callsIn_wide.2 (Gr _ kk ap aG))).mono ?_);rintro e wa ⟨r1,rfl,aK,b⟩;obtain⟨ax,mx,cx,rfl⟩:=aK.u.form;have aD:=b.d ac;have bX:=b.d ad)|(refine⟨trivial,?_⟩;gi_at_call 279;(with_reducible refine(CallsIn.inRound l (callsIn_wide.2 (PE _ _ _ nb kk ?_ ?_ bg.o bi.o))).mono ?_);(refine f.ext ?_;exact eA);(refine aK.u.ext ?_;exact eA);rintro e wb ⟨r2,rfl,aL,z⟩;obtain⟨ay,my,cy,rfl⟩:=aL.u.form;have a2:=z.d aD)|(refine⟨trivial,?_⟩;gi_at_call 280;(with_reducible refine(CallsIn.inRound l (callsIn_wide.2 (Ls _ _ _ L' (nb*kk) (-1) ?_ ?_ bf.o bA.o oM oM))).mono ?_);(refine i.ext ?_;exact eA);(refine aL.u.ext ?_;exact eA);rintro e wz ⟨r3,rfl,⟨cZ,d3,rfl,aH,aF,bv⟩,aq⟩;obtain⟨az,cz,rfl⟩:=aH.form;have av:Ba wc wz:=(((eR wc).drew.trans b).trans z).trans aq;obtain⟨_,_,_,cI,cP,_⟩:=(HO.o.ext av).rdL))
       all_goals gi_wp2
       all_goals gi_meet
       all_goals
        have cW:=b.size;have cX:=z.size;have dy:=aq.size;exact⟨(HO.o.ext av).left (aH.mono (by simp only[World.size_drew]at *;omega)) aF bv,(HP.o.ext av oM oM).set dO dO _⟩
      case rest =>
       clear HO HP ac ar i ad f aW bi bA;obtain⟨bF,bT⟩:=hcut;have bM:=JN be.o bw (Int.emod_lt_of_pos (hv pre) aj)
       gi_wp2
       gi_loopw [9] (MU w (O a' m' c') m L' nb ((m:Int)-pre.length-1) os (w.heap.size+1+1+1+1+1+1+1) (w.heap.size+1+1+1+1+1+1+1+1) W) (fun t9 _=>(L'/nb-intOf t9%18446744073709551616).toNat)
       case atStart=>exact⟨k,L' + -1*(nb*kk),rfl,b8,ca,by omega,by rw[<-bk.o];omega,bF,bT⟩
       case round =>
        clear bF bT b8 ca cb bk;obtain⟨k',L2,rfl,cS,cT,bL,bN,Ho,hP⟩:=hrel;obtain⟨aA,mA,cA,ac,ar,i⟩:=Ho.rdL;have ad:=Ho.rdB;have f:=hb.ext Ho.1;have aW:=Ho.2.1;have ci:0<=k'%18446744073709551616:=oM;have cR:0<=nb*(k'%18446744073709551616):=Int.mul_nonneg oM ci;have bh:=za bN;have cp:Ua (Lm Rc L2):=za (bf.o.le bL oM);have HO:=za Ho;have HP:=za hP;clear Ho hP bN cR;by_cases aT:nb<=L2
        ·have b0:=zK aT;have cm:=CL aj ci bh.o aT bM;obtain⟨k3,cQ⟩:=gX (IntKind.i64.wrap (k'+1));have ae:=PG (k'+1);rw[cQ]at ae;have bb:k3%18446744073709551616=k'%18446744073709551616+1:=oM;have bD:=za ae;have a0:=za bb;have cu:=za cm;clear ae bb cm
         gi_wp2_with(first|(refine⟨trivial,?_⟩;gi_at_call 292;(with_reducible refine(CallsIn.inRound l (callsIn_wide.2 (Er _ _ _ _ _ i f))).mono ?_);rintro e w6 ⟨rfl,v⟩;obtain⟨aB,mB,cB,a2,c3,bJ⟩:=(HO.o.ext v).rdL;have c0:=(HO.o.ext v).rdB;have bH:=f.ext v)|(refine⟨trivial,?_⟩;gi_at_call 280;(with_reducible refine(CallsIn.inRound l (callsIn_wide.2 (Ls _ _ _ L2 nb (-1) bJ bH cp.o bg.o oM oM))).mono ?_);rintro e w7 ⟨r3,rfl,⟨cZ,d3,rfl,aH,aF,bv⟩,aX⟩;obtain⟨az,cz,rfl⟩:=aH.form;obtain⟨_,_,_,cI,cP,_⟩:=((HO.o.ext v).ext aX).rdL))
         go_roundw
         case rel =>
          have cW:=v.size;have cX:=aX.size;refine⟨k3,L2 + -1*nb,rfl,bD.o.1,bD.o.2.1,by omega,?_,((HO.o.ext v).ext aX).left (aH.mono oM) aF bv,(((HP.o.ext v oM oM).ext aX oM oM)).set dO dO _⟩;rw[a0.o,Int.mul_add,<-bh.o];omega
         case measure =>
          have h5:=a0.o;have h6:=cu.o.1;simp only[intOf];omega
        ·have b0:=TM aT;have ba:=LN aj bh.o bL aT bM cS cT;obtain⟨j,hj⟩:∃j:Nat,(m:Int)-pre.length-1=j/\j=m-(pre.length+1):=⟨m-(pre.length+1),by omega,rfl⟩;have dw:j<m:=oM;have aZ:=za ba;have Hj:=za hj;clear ba hj
         gi_wp2_with(refine⟨trivial,?_⟩;gi_at_call 292;(with_reducible refine(CallsIn.inRound l (callsIn_wide.2 (Er _ _ _ _ _ i f))).mono ?_);rintro e w6 ⟨rfl,v⟩;have ag:=HO.o.ext v;rw[Hj.o.1]at ag;have dk:=ag.rdI.1;have dm:=ag.rdO;have dn:=ag.2.2.2.2.2.2.2.cell (aP.o j (by have:=Hj.o.2;omega));have dt:=ag.2.2.2.2.2.2.2.frozen j;have cq:=za ag;clear ag)
         have bP:=(HP.o.ext v oM oM).set (p:=⟨w.heap.size+1+1+1+1,j,Z⟩) dO dO (E F k');have hI:Qq w (O a' m' c') nb m (pre++[x]) (w6.setCell ⟨w.heap.size+1+1+1+1,j,Z⟩ (E F k')):=by
          refine Qq.next (os:=os) ?_ ck bm.o au ao.o aP.o aj;rw[be.o,<-aZ.o.1,<-aZ.o.2,Hj.o.1,<-Hj.o.2];exact cq.o.o j k'
         refine⟨?_,bP.2,hI⟩;have:=bP.1;simpa using this
 case done =>
  rintro D ys W hD rfl ⟨h1,os,ak,aI,au,af,aV⟩ hK;obtain⟨g1,g2,g3,g4,⟨sl,dl,g5,g6,g7,g8⟩,g9,cv,cC⟩:=ak;obtain⟨a5,c5,rfl⟩:=g6.form;have dh:=cell_of_one g4;have dp:=free_of_one g4;have bW:=cell_of_one g5;have b7:=free_of_one g5;have di:=cell_of_one g9;have de:w.heap.size<=D:=by simp at hD;omega
  have bm:=za aI;have H4:=za g4;have H5:=za g5;have H8:=za g8;have ao:=za af;have cl:0<=dv B os:=(Yi zj au).1;have cf:os.length<=1000000000:=oM;clear aI g3 g4 g5 g8 g9 cv af aV al bp h1
  gi_wp2
  gi_region_with (first|(refine⟨trivial,?_⟩;gi_at_call 298;(with_reducible refine(callsIn_wide.2 (Ez (w.heap.size+1+1+1+1) _ os _ (Vk cC) ?_ cf ?_ cl)).mono ?_);(simp only[World.size_drew];omega);(intro x hx;have:=au x hx;unfold B at this;omega);rintro e w3 ⟨v',zs,rfl,aY,am,t,aR,cK,cd,-⟩;obtain⟨c1,c9⟩:=jp aR;obtain⟨a4,c4,rfl⟩:=t.form;have bG:=za am;clear am;have cF:w3.heap[D]?=V (.deferred (V [])):=cK D _ hK (fun _ _ e=>by cases e)))
  all_goals gi_wp2
  all_goals
   have bK:((w3.setCell ⟨w.heap.size+1+1,0,Z⟩ (O a4 zs.length c4)).setCell ⟨w.heap.size+1+1+1,0,Z⟩ (O a5 dl.length c5)).heap[D]?=V (.deferred (V [])):=by
    rw[bS _ _ _ _ (by simp at hD;dsimp only;omega),bS _ _ _ _ (by simp at hD;dsimp only;omega)];exact cF
   refine⟨by simp,.inl ⟨_,_,rfl,run_takeDeferred bK,?_⟩⟩;have cD:w.heap.size+1+1+1+1+1+1+1+1<=D:=by simpa using hD
   have q2:w3.heap[w.heap.size+1+1]?=V (N #[O Z 0 0] 177 (0,0)):=(aR.block _ oM).trans H4.o;have q3:w3.heap[w.heap.size+1+1+1]?=V (N #[O a5 dl.length c5] 177 (0,0)):=(aR.block _ oM).trans H5.o;have o5:Cb 2 w3 (w.heap.size+1+1+1+1+1+1+1+1) (O a5 dl.length c5) dl:=Cb.stay (Vk g6) (fun g o hg hh=>cd au g o hh (by simp[Value.ownBlock];omega));have cY:Ba w w3:=(g1.drew).D aR oM;refine QQ ?_ ?_ q2 q3 t o5 aY g7 (AP bG.o ao.o Hv.o (by have:=Hl.o;simpa[Dg] using this)) (zP H8.o Hv.o) cY bK cD<;>rfl
 case stop =>
  rintro D c pre W _ _ h _;exact h.elim
end
section
open Go.RowKit Go.Shelf
def Ig(w:Y) p:w.drew.cell? p=w.cell? p:=rfl
def Gg(w:Y) p:w.drew.frozen? p=w.frozen? p:=rfl
def Yb(w:Y):w.drew.heap.size=w.heap.size:=rfl
def Ba.lt{a b}(h:Ba a b){n}(c:n<a.heap.size):n<b.heap.size:=Nat.lt_of_lt_of_le c h.size
def tp{a c}{A:Prop}(h:Ba a c)(e:((∀b o,b<a.heap.size->c.cell? ⟨b,o,Z⟩=a.cell? ⟨b,o,Z⟩)/\(∀b o,b<a.heap.size->c.frozen? ⟨b,o,Z⟩=a.frozen? ⟨b,o,Z⟩))->A:=by(intro h;(try simp only[Ig,Gg,Yb]at h);exact h)):A:=e h.cells
def Jd(w:Y){a c A}(h:Ba a c)(d:w.heap.size<a.heap.size:=by go_simp)(e:((∀b o,b<a.heap.size->c.cell? ⟨b,o,Z⟩=a.cell? ⟨b,o,Z⟩)/\(∀b o,b<a.heap.size->c.frozen? ⟨b,o,Z⟩=a.frozen? ⟨b,o,Z⟩))->A:=by(intro h;(try simp only[Ig,Gg,Yb]at h);exact h)):A/\w.heap.size<c.heap.size:=⟨e h.cells,h.lt d⟩
def Nb(w:Y){a c A}(h:Ba a c)(d:w.heap.size+1<a.heap.size:=by go_simp)(e:((∀b o,b<a.heap.size->c.cell? ⟨b,o,Z⟩=a.cell? ⟨b,o,Z⟩)/\(∀b o,b<a.heap.size->c.frozen? ⟨b,o,Z⟩=a.frozen? ⟨b,o,Z⟩))->A:=by(intro h;(try simp only[Ig,Gg,Yb]at h);exact h)):A/\w.heap.size<c.heap.size/\w.heap.size+1<c.heap.size:=⟨e h.cells,h.lt oM,h.lt d⟩
def Sb(w:Y){a c A}(h:Ba a c)(d:w.heap.size+1+1<a.heap.size:=by go_simp)(e:((∀b o,b<a.heap.size->c.cell? ⟨b,o,Z⟩=a.cell? ⟨b,o,Z⟩)/\(∀b o,b<a.heap.size->c.frozen? ⟨b,o,Z⟩=a.frozen? ⟨b,o,Z⟩))->A:=by(intro h;(try simp only[Ig,Gg,Yb]at h);exact h)):A/\w.heap.size<c.heap.size/\w.heap.size+1<c.heap.size/\w.heap.size+1+1<c.heap.size:=⟨e h.cells,h.lt oM,h.lt oM,h.lt d⟩
def ku(w:Y){a c A}(h:Ba a c)(d:w.heap.size+1+1+1<a.heap.size:=by go_simp)(e:((∀b o,b<a.heap.size->c.cell? ⟨b,o,Z⟩=a.cell? ⟨b,o,Z⟩)/\(∀b o,b<a.heap.size->c.frozen? ⟨b,o,Z⟩=a.frozen? ⟨b,o,Z⟩))->A:=by(intro h;(try simp only[Ig,Gg,Yb]at h);exact h)):A/\w.heap.size<c.heap.size/\w.heap.size+1<c.heap.size/\w.heap.size+1+1<c.heap.size/\w.heap.size+1+1+1<c.heap.size:=⟨e h.cells,h.lt oM,h.lt oM,h.lt oM,h.lt d⟩
def ud(T:TypeId)(w:Y)(b:Nat):Prop:=∀cs fr,w.heap[b]?≠V (N cs T fr)
def ud.new{T T'}{w:Y}{b cs c}(g:b=w.heap.size)(f:T'≠T):ud T (w.alloc (N cs T' c)) b:=by intro a d e;rw[mc _ _ _ g]at e;cases e;exact f rfl
def ud.old{T w b o}(h:ud T w b)(d:b≠w.heap.size):ud T (w.alloc o) b:=by intro a c e;rw[tg,if_neg d]at e;exact h a c e
def ud.ext{T w w' b}(h:ud T w b)(k:Ba w w')(d:b<w.heap.size):ud T w' b:=by intro a c e;rw[k.block d]at e;exact h a c e
def ud.drew{T w b}(h:ud T w b):ud T w.drew b:=h
def ud.drewN{T w b}(h:ud T w b) n:ud T (w.drewN n) b:=by intro a c e;exact h a c (by simpa[World.drewN] using e)
def ud.set{T w b}(h:ud T w b) p u:ud T (w.setCell p u) b:=by
 intro c f e;by_cases a:b=p.block
 ·subst a;simp only[World.setCell,Array.getElem?_modify,if_pos]at e;cases hw:w.heap[p.block]? with
  | none=>rw[hw]at e;cases e
  | some o =>
   rw[hw]at e;cases o with
   | cells d T' g =>
    simp only[Option.map_some,Option.some.injEq,Obj.cells.injEq]at e;obtain⟨_,rfl,_⟩:=e;exact h _ _ hw
   | _=>simp at e
 ·rw[bS _ _ _ _ a]at e;exact h c f e
def Ja.y{T a b}(h:Ja T a b){p}(f:ud T b p.block) u:Ja T a (b.setCell p u):=fun x d e g=>by
 have c:=h x d e g;rw[bS _ _ _ _ (by rintro rfl;exact f _ _ c)];exact c
def ud.ext2{T w w' b}(a:b<w.heap.size)(k:Ba w w')(h:ud T w b):ud T w' b:=h.ext k a
def ud.old2{T w b o}(a:b≠w.heap.size)(h:ud T w b):ud T (w.alloc o) b:=h.old a
def Ja.setN2{T a b p}(c:ud T b p.block)(h:Ja T a b) u:Ja T a (b.setCell p u):=h.y c u
def nA{T w b}(h:ud T w b:=by(repeat(first|with_reducible assumption|with_reducible refine ud.set ?_ _ _|with_reducible refine ud.drew ?_|with_reducible refine ud.drewN ?_ _|(refine ud.new ?_ ?_;(focus(first|omega|((try dsimp only);(try simp only[wZ,Yb,fg]);(try omega);done)));(focus decide))|(refine ud.old2 ?_ ?_;(focus(first|omega|((try dsimp only);(try simp only[wZ,Yb,fg]);(try omega);done))))|(refine ud.ext2 ?_ (by with_reducible assumption) ?_;(focus(first|omega|((try dsimp only);(try simp only[wZ,Yb,fg]);(try omega);done))))))):ud T w b:=h
def kA{T w a}(h:Ja T w a:=by repeat(first|with_reducible exact Ja.refl _ _|(refine Ba.keep ?_;(focus((with_reducible repeat(first|assumption|exact eR _|refine eX ?_|refine eT ?_|refine eS ?_));done)))|with_reducible refine Ja.alloc ?_ _|(with_reducible refine Ja.setN2 ?_ ?_ _;(focus(((repeat(first|with_reducible assumption|with_reducible refine ud.set ?_ _ _|with_reducible refine ud.drew ?_|with_reducible refine ud.drewN ?_ _|(refine ud.new ?_ ?_;(focus(first|omega|((try dsimp only);(try simp only[wZ,Yb,fg]);(try omega);done)));(focus decide))|(refine ud.old2 ?_ ?_;(focus(first|omega|((try dsimp only);(try simp only[wZ,Yb,fg]);(try omega);done))))|(refine ud.ext2 ?_ (by with_reducible assumption) ?_;(focus(first|omega|((try dsimp only);(try simp only[wZ,Yb,fg]);(try omega);done)))))));done))))):Ja T w a:=h
def re(w:Y)(v:I)(n:Int):Prop:=∃a m c s,v=X #[O a m c,J s]/\s=decide (n<0)/\Nd w (X #[O a m c]) (n.natAbs:Int)
def re.ext{w w' v n}(h:re w v n)(k:Ba w w'):re w' v n:=by obtain⟨a,m,c,s,rfl,b,d⟩:=h;exact⟨a,m,c,s,rfl,b,d.ext k⟩
def re.keep{w w' v n}(h:re w v n)(k:Ja 2 w w'):re w' v n:=by obtain⟨a,m,c,s,rfl,b,d⟩:=h;exact⟨a,m,c,s,rfl,b,d.keep k⟩
def re.form{w v n}(h:re w v n):∃a m c s,v=X #[O a m c,J s]:=by obtain⟨a,m,c,s,rfl,b,d⟩:=h;exact⟨a,m,c,s,rfl⟩
def re.sgn{w a m c s n}(h:re w (X #[O a m c,J s]) n):s=decide (n<0):=by obtain⟨a,m,c,s,e,b,d⟩:=h;cases e;exact b
def re.dig{w a m c s n}(h:re w (X #[O a m c,J s]) n):Nd w (X #[O a m c]) (n.natAbs:Int):=by obtain⟨a,m,c,s,e,d,b⟩:=h;cases e;exact b
def Lm.abs{k n}(h:Lm k n):Lm k (n.natAbs:Int):=by unfold Lm at *;omega
def Lm.neg{k n}(h:Lm k n):Lm k (-n):=by unfold Lm at *;omega
def sg(s:Bool)(n:Int):Int:=if s then -n else n
def re.mk{w a m c n} b(h:Nd w (X #[O a m c]) n):re w (X #[O a m c,J (b&&!(n==0))]) (sg b n):=by
 have d:=h.nonneg;refine⟨a,m,c,_,rfl,?_,?_⟩
 ·rw[Bool.eq_iff_iff];cases b<;>simp[sg]<;>omega
 ·have:((sg b n).natAbs:Int)=n:=by cases b<;>simp[sg]<;>omega
  rw[this];exact h
def re.nil w:re w (X #[O Z 0 0,J false]) 0:=⟨_,_,_,_,rfl,rfl,_,[],rfl,Mc.nil _ _,Cg.nil _,rfl⟩
def Rg(w:Y)(n:Int)(e:Ending)(w':Y):Prop:=∃r,e=.returned r/\re w' r n/\Ba w w'/\Dr w w'
def lk(w:Y)(n:Int)(e:Ending)(w':Y):Prop:=∃r,e=.returned r/\re w' r n/\Ba w w'
def fo w d v n(h:Nd w v n):Calls Tryz.prog 278 #[J d,v] w (Rg w (sg d n)):=by
 obtain⟨a,m,c,rfl⟩:=h.form;cases d
 ·go_in;go_wp2
  go_region_with (fail)
  all_goals go_wp2
  all_goals exact bR (v:=X #[O a m c,J (false&&!(n==0))]) (by simp[results,Tryz.results278,go_sem]) rfl ⟨_,rfl,re.mk false (h.ext eA),eA,dA⟩
 ·go_in;go_wp2;go_region_held3 (fun W=>W.cell? ⟨w.heap.size,0,Z⟩=V (O a m c)) ((repeat' (with_reducible refine And.intro ?_ ?_))<;>(first|(go_simp;done)|(refine hx1.d ?_;go_simp;done))) ((go_at_call 273;(with_reducible refine(Yr _ (X #[O a m c]) n ?_).mono ?_);(refine h.ext ?_;exact eA);rintro e i ⟨rfl,hx1,f⟩;obtain⟨b,g⟩:=hx1.cells))
  all_goals go_wp2
  exact bR (v:=X #[O a m c,J (true&&!(n==0))]) (by simp[results,Tryz.results278,go_sem,b]) rfl ⟨_,rfl,re.mk true (h.ext eA),eA,dA⟩
def Mm{f args w n}(h:Calls Tryz.prog f args w (Rg w n)):Calls Tryz.prog f args w (lk w n):=Qw h
def Bt w a v n(h:Nd w v n):Calls Tryz.prog 278 #[J a,v] w (lk w (sg a n)):=Mm (fo w a v n h)
def vI{n s}(h:s=decide (n<0)):sg (!s) (n.natAbs:Int) = -n:=by subst h;by_cases h:n<0<;>simp[sg,h]<;>omega
def gB w v n(h:re w v n):Calls Tryz.prog 287 #[v] w (Rg w (-n)):=by obtain⟨a,m,c,s,rfl⟩:=h.form;go_in;go_wp2_with((go_at_call 278;(with_reducible refine(fo _ (!s) (X #[O a m c]) n.natAbs ?_).mono ?_);(refine h.dig.ext ?_;exact eA);rintro e q ⟨p,rfl,b,f,j⟩;obtain⟨g,l,i,o,rfl⟩:=b.form;obtain⟨d,k⟩:=f.cells));refine bR (v:=X #[O g l i,J o]) (by simp[results,Tryz.results287,go_sem,d]) rfl ⟨_,rfl,?_,eA,dA⟩;rw[<-vI h.sgn];exact b.keep kA
def Av w v n(h:re w v n):Calls Tryz.prog 287 #[v] w (lk w (-n)):=Mm (gB w v n h)
def rC w v n(h:re w v n):Calls Tryz.prog 244 #[v] w fun e j=>e=.returned (E F n.sign)/\Ba w j/\Dr w j:=by
 obtain⟨a,m,c,s,rfl⟩:=h.form;have k:=h.sgn;have q:=h.dig;have d:n=0->Calls Tryz.prog 244 #[X #[O a m c,J s]] w fun e j=>e=.returned (E F n.sign)/\Ba w j/\Dr w j:=by
  intro g;have r:((n.natAbs:Int)==0)=true:=by simp;omega
  obtain rfl:s=false:=by rw[k];simp;omega
  have e:n.sign=0:=by first|(subst g;rfl)|exact Int.sign_eq_neg_one_of_neg g|exact Int.sign_eq_one_of_pos g
  rw[e];clear e g k;go_in;go_wp2_with((go_at_call 273;(with_reducible refine(Yr _ (X #[O a m c]) n.natAbs ?_).mono ?_);(refine q.ext ?_;exact eA);rintro e t ⟨rfl,i,o⟩;obtain⟨l,p⟩:=i.cells));go_ret;exact⟨rfl,eA,dA⟩
 have f:n<0->Calls Tryz.prog 244 #[X #[O a m c,J s]] w fun e j=>e=.returned (E F n.sign)/\Ba w j/\Dr w j:=by
  intro g;have r:((n.natAbs:Int)==0)=false:=by simp;omega
  obtain rfl:s=true:=by rw[k];simp;omega
  have e:n.sign = -1:=by first|(subst g;rfl)|exact Int.sign_eq_neg_one_of_neg g|exact Int.sign_eq_one_of_pos g
  rw[e];clear e g k;go_in;go_wp2_with((go_at_call 273;(with_reducible refine(Yr _ (X #[O a m c]) n.natAbs ?_).mono ?_);(refine q.ext ?_;exact eA);rintro e t ⟨rfl,i,o⟩;obtain⟨l,p⟩:=i.cells));go_ret;exact⟨rfl,eA,dA⟩
 have b:0<n->Calls Tryz.prog 244 #[X #[O a m c,J s]] w fun e j=>e=.returned (E F n.sign)/\Ba w j/\Dr w j:=by
  intro g;have r:((n.natAbs:Int)==0)=false:=by simp;omega
  obtain rfl:s=false:=by rw[k];simp;omega
  have e:n.sign=1:=by first|(subst g;rfl)|exact Int.sign_eq_neg_one_of_neg g|exact Int.sign_eq_one_of_pos g
  rw[e];clear e g k;go_in;go_wp2_with((go_at_call 273;(with_reducible refine(Yr _ (X #[O a m c]) n.natAbs ?_).mono ?_);(refine q.ext ?_;exact eA);rintro e t ⟨rfl,i,o⟩;obtain⟨l,p⟩:=i.cells));go_ret;exact⟨rfl,eA,dA⟩
 rcases Int.lt_trichotomy n 0 with g|g|g
 ·exact f g
 ·exact d g
 ·exact b g
def xO w v n(h:re w v n):Calls Tryz.prog 244 #[v] w fun e a=>e=.returned (E F n.sign)/\Ba w a:=Yu (rC w v n h)
def JH n(a:-9223372036854775808<=n)(b:n<0):IntKind.u64.wrap (-(IntKind.u64.wrap n)) = -n:=by simp[IntKind.wrap,IntKind.signed,IntKind.bits];omega
def kK n(a:n<=9223372036854775807)(b:0<=n):IntKind.u64.wrap n=n:=by simp[IntKind.wrap,IntKind.signed,IntKind.bits];omega
def vM w n(u:-9223372036854775808<=n)(x:n<=9223372036854775807):Calls Tryz.prog 284 #[E F n] w (lk w n):=by
 by_cases y:n<0
 ·have z:=JH n u y;go_in;go_wp2_with(first|(go_at_call 281;(with_reducible refine(Gr _ (-n) oM oM).mono ?_);rintro e R ⟨K,rfl,a,i⟩;obtain⟨k,r,m,rfl⟩:=a.u.form;obtain⟨⟨f,p⟩,c⟩:=Jd w i)|(go_at_call 278;(with_reducible refine(Bt _ true (X #[O k r m]) (-n) a.u).mono ?_);rintro e W ⟨L,rfl,b,j⟩;obtain⟨l,s,o,t,rfl⟩:=b.form;obtain⟨⟨g,q⟩,d⟩:=Jd w j));refine bR (v:=X #[O l s o,J t]) (by simp[results,Tryz.results284,go_sem,f,g,c,d]) rfl ⟨_,rfl,?_,eA⟩;have e:n=sg true (-n):=by simp[sg]
  rw[e];exact b.keep kA
 ·have z:=kK n x oM;go_in;go_wp2_with(first|(go_at_call 281;(with_reducible refine(Gr _ n oM oM).mono ?_);rintro e R ⟨K,rfl,a,i⟩;obtain⟨k,r,m,rfl⟩:=a.u.form;obtain⟨⟨f,p⟩,c⟩:=Jd w i)|(go_at_call 278;(with_reducible refine(Bt _ false (X #[O k r m]) n a.u).mono ?_);rintro e W ⟨L,rfl,b,j⟩;obtain⟨l,s,o,t,rfl⟩:=b.form;obtain⟨⟨g,q⟩,d⟩:=Jd w j));exact bR (v:=X #[O l s o,J t]) (by simp[results,Tryz.results284,go_sem,f,g,c,d]) rfl ⟨_,rfl,b.keep kA,eA⟩
def vE{x y s}(a:s=decide (x<0))(b:s=decide (y<0)):sg s ((x.natAbs:Int)+1*(y.natAbs:Int))=x+y:=by cases s<;>simp[sg]at *<;>omega
def oE{x y s}(a:(!s)=decide (x<0))(b:s=decide (y<0))(h:(x.natAbs:Int)<y.natAbs):sg s ((y.natAbs:Int) + -1*(x.natAbs:Int))=x+y:=by cases s<;>simp[sg]at *<;>omega
def mE{x y s}(a:s=decide (x<0))(b:(!s)=decide (y<0))(h:¬(x.natAbs:Int)<y.natAbs):sg s ((x.natAbs:Int) + -1*(y.natAbs:Int))=x+y:=by cases s<;>simp[sg]at *<;>omega
def jB w va vb x y(ha:re w va x)(hb:re w vb y)(au:Lm Rc x)(av:Lm Rc y):Calls Tryz.prog 261 #[va,vb] w (Rg w (x+y)):=by
 obtain⟨a,m,c,s,rfl⟩:=ha.form;obtain⟨p,r,q,s',rfl⟩:=hb.form;have ae:=za ha.sgn;have af:=za hb.sgn;have n:=ha.dig;have o:=hb.dig;have ac:=za au.abs;have ad:=za av.abs;clear au av ha hb;have ah:s=true->s'=true->Calls Tryz.prog 261 #[X #[O a m c,J s],X #[O p r q,J s']] w (Rg w (x+y)):=by
  intro h1 h2;subst h1 h2;go_in;go_wp2;go_region_held3 (fun W=>W.cell? ⟨w.heap.size,0,Z⟩=V (O a m c)/\W.cell? ⟨w.heap.size,1,Z⟩=V (J true)/\W.cell? ⟨w.heap.size+1,0,Z⟩=V (O p r q)) ((repeat' (with_reducible refine And.intro ?_ ?_))<;>(first|(go_simp;done)|(refine hx1.d ?_;go_simp;done))) (first|((go_at_call 280;(with_reducible refine(Jo _ (X #[O a m c]) (X #[O p r q]) x.natAbs y.natAbs 1 ?_ ?_ ac.o ad.o oM oM).mono ?_);(refine n.ext ?_;exact eA);(refine o.ext ?_;exact eA);rintro e w1 ⟨r1,rfl,b,hx1,aj⟩;obtain⟨a1,m1,c1,rfl⟩:=b.u.form;obtain⟨⟨i,al⟩,t,u,f⟩:=Sb w hx1))|((go_at_call 278;(with_reducible refine(fo _ true (X #[O a1 m1 c1]) ((x.natAbs:Int)+1*(y.natAbs:Int)) ?_).mono ?_);(refine b.u.ext ?_;exact eA);rintro e w2 ⟨r2,rfl,d,k,ak⟩;obtain⟨a2,m2,c2,s2,rfl⟩:=d.form;obtain⟨⟨j,am⟩,z,K,g⟩:=Sb w k)))
  all_goals go_wp2
  refine bR (v:=X #[O a2 m2 c2,J s2]) (by simp[results,Tryz.results261,go_sem,i,j,f,g]) rfl ⟨_,rfl,?_,eA,dA⟩;rw[<-vE ae.o af.o];exact d.keep kA
 have ab:s=false->s'=false->Calls Tryz.prog 261 #[X #[O a m c,J s],X #[O p r q,J s']] w (Rg w (x+y)):=by
  intro h1 h2;subst h1 h2;go_in;go_wp2;go_region_held3 (fun W=>W.cell? ⟨w.heap.size,0,Z⟩=V (O a m c)/\W.cell? ⟨w.heap.size,1,Z⟩=V (J false)/\W.cell? ⟨w.heap.size+1,0,Z⟩=V (O p r q)) ((repeat' (with_reducible refine And.intro ?_ ?_))<;>(first|(go_simp;done)|(refine hx1.d ?_;go_simp;done))) (first|((go_at_call 280;(with_reducible refine(Jo _ (X #[O a m c]) (X #[O p r q]) x.natAbs y.natAbs 1 ?_ ?_ ac.o ad.o oM oM).mono ?_);(refine n.ext ?_;exact eA);(refine o.ext ?_;exact eA);rintro e w1 ⟨r1,rfl,b,hx1,aj⟩;obtain⟨a1,m1,c1,rfl⟩:=b.u.form;obtain⟨⟨i,al⟩,t,u,f⟩:=Sb w hx1))|((go_at_call 278;(with_reducible refine(fo _ false (X #[O a1 m1 c1]) ((x.natAbs:Int)+1*(y.natAbs:Int)) ?_).mono ?_);(refine b.u.ext ?_;exact eA);rintro e w2 ⟨r2,rfl,d,k,ak⟩;obtain⟨a2,m2,c2,s2,rfl⟩:=d.form;obtain⟨⟨j,am⟩,z,K,g⟩:=Sb w k)))
  all_goals go_wp2
  refine bR (v:=X #[O a2 m2 c2,J s2]) (by simp[results,Tryz.results261,go_sem,i,j,f,g]) rfl ⟨_,rfl,?_,eA,dA⟩;rw[<-vE ae.o af.o];exact d.keep kA
 have ag:s=true->s'=false->Calls Tryz.prog 261 #[X #[O a m c,J s],X #[O p r q,J s']] w (Rg w (x+y)):=by
  intro h1 h2;subst h1 h2;by_cases an:(x.natAbs:Int)<y.natAbs
  ·have ai:=Kv an;go_in;go_wp2_with((go_at_call 292;(with_reducible refine(Bs _ (X #[O a m c]) (X #[O p r q]) x.natAbs y.natAbs ?_ ?_).mono ?_);(refine n.ext ?_;exact eA);(refine o.ext ?_;exact eA);rintro e w0 ⟨rfl,aa,aq⟩;obtain⟨⟨R,ar⟩,ao,ap,l⟩:=Sb w aa));go_region_held3 (fun W=>W.cell? ⟨w.heap.size,0,Z⟩=V (O a m c)/\W.cell? ⟨w.heap.size+1,1,Z⟩=V (J false)/\W.cell? ⟨w.heap.size+1,0,Z⟩=V (O p r q)) ((repeat' (with_reducible refine And.intro ?_ ?_))<;>(first|(go_simp;done)|(refine hx1.d ?_;go_simp;done))) (first|((go_at_call 280;(with_reducible refine(Jo _ (X #[O p r q]) (X #[O a m c]) y.natAbs x.natAbs (-1) ?_ ?_ ad.o ac.o oM oM).mono ?_);(refine o.ext ?_;exact eA);(refine n.ext ?_;exact eA);rintro e w1 ⟨r1,rfl,b,hx1,aj⟩;obtain⟨a1,m1,c1,rfl⟩:=b.u.form;obtain⟨⟨i,al⟩,t,u,f⟩:=Sb w hx1))|((go_at_call 278;(with_reducible refine(fo _ false (X #[O a1 m1 c1]) ((y.natAbs:Int) + -1*(x.natAbs:Int)) ?_).mono ?_);(refine b.u.ext ?_;exact eA);rintro e w2 ⟨r2,rfl,d,k,ak⟩;obtain⟨a2,m2,c2,s2,rfl⟩:=d.form;obtain⟨⟨j,am⟩,z,K,g⟩:=Sb w k)))
   all_goals go_wp2
   refine bR (v:=X #[O a2 m2 c2,J s2]) (by simp[results,Tryz.results261,go_sem,R,i,j,l,f,g]) rfl ⟨_,rfl,?_,eA,dA⟩;rw[<-oE (s:=false) ae.o af.o oM];exact d.keep kA
  ·have ai:=Wv an;go_in;go_wp2_with((go_at_call 292;(with_reducible refine(Bs _ (X #[O a m c]) (X #[O p r q]) x.natAbs y.natAbs ?_ ?_).mono ?_);(refine n.ext ?_;exact eA);(refine o.ext ?_;exact eA);rintro e w0 ⟨rfl,aa,aq⟩;obtain⟨⟨R,ar⟩,ao,ap,l⟩:=Sb w aa));go_region_held3 (fun W=>W.cell? ⟨w.heap.size,0,Z⟩=V (O a m c)/\W.cell? ⟨w.heap.size,1,Z⟩=V (J true)/\W.cell? ⟨w.heap.size+1,0,Z⟩=V (O p r q)) ((repeat' (with_reducible refine And.intro ?_ ?_))<;>(first|(go_simp;done)|(refine hx1.d ?_;go_simp;done))) (first|((go_at_call 280;(with_reducible refine(Jo _ (X #[O a m c]) (X #[O p r q]) x.natAbs y.natAbs (-1) ?_ ?_ ac.o ad.o oM oM).mono ?_);(refine n.ext ?_;exact eA);(refine o.ext ?_;exact eA);rintro e w1 ⟨r1,rfl,b,hx1,aj⟩;obtain⟨a1,m1,c1,rfl⟩:=b.u.form;obtain⟨⟨i,al⟩,t,u,f⟩:=Sb w hx1))|((go_at_call 278;(with_reducible refine(fo _ true (X #[O a1 m1 c1]) ((x.natAbs:Int) + -1*(y.natAbs:Int)) ?_).mono ?_);(refine b.u.ext ?_;exact eA);rintro e w2 ⟨r2,rfl,d,k,ak⟩;obtain⟨a2,m2,c2,s2,rfl⟩:=d.form;obtain⟨⟨j,am⟩,z,K,g⟩:=Sb w k)))
   all_goals go_wp2
   refine bR (v:=X #[O a2 m2 c2,J s2]) (by simp[results,Tryz.results261,go_sem,R,i,j,l,f,g]) rfl ⟨_,rfl,?_,eA,dA⟩;rw[<-mE (s:=true) ae.o af.o oM];exact d.keep kA
 have L:s=false->s'=true->Calls Tryz.prog 261 #[X #[O a m c,J s],X #[O p r q,J s']] w (Rg w (x+y)):=by
  intro h1 h2;subst h1 h2;by_cases an:(x.natAbs:Int)<y.natAbs
  ·have ai:=Kv an;go_in;go_wp2_with((go_at_call 292;(with_reducible refine(Bs _ (X #[O a m c]) (X #[O p r q]) x.natAbs y.natAbs ?_ ?_).mono ?_);(refine n.ext ?_;exact eA);(refine o.ext ?_;exact eA);rintro e w0 ⟨rfl,aa,aq⟩;obtain⟨⟨R,ar⟩,ao,ap,l⟩:=Sb w aa));go_region_held3 (fun W=>W.cell? ⟨w.heap.size,0,Z⟩=V (O a m c)/\W.cell? ⟨w.heap.size+1,1,Z⟩=V (J true)/\W.cell? ⟨w.heap.size+1,0,Z⟩=V (O p r q)) ((repeat' (with_reducible refine And.intro ?_ ?_))<;>(first|(go_simp;done)|(refine hx1.d ?_;go_simp;done))) (first|((go_at_call 280;(with_reducible refine(Jo _ (X #[O p r q]) (X #[O a m c]) y.natAbs x.natAbs (-1) ?_ ?_ ad.o ac.o oM oM).mono ?_);(refine o.ext ?_;exact eA);(refine n.ext ?_;exact eA);rintro e w1 ⟨r1,rfl,b,hx1,aj⟩;obtain⟨a1,m1,c1,rfl⟩:=b.u.form;obtain⟨⟨i,al⟩,t,u,f⟩:=Sb w hx1))|((go_at_call 278;(with_reducible refine(fo _ true (X #[O a1 m1 c1]) ((y.natAbs:Int) + -1*(x.natAbs:Int)) ?_).mono ?_);(refine b.u.ext ?_;exact eA);rintro e w2 ⟨r2,rfl,d,k,ak⟩;obtain⟨a2,m2,c2,s2,rfl⟩:=d.form;obtain⟨⟨j,am⟩,z,K,g⟩:=Sb w k)))
   all_goals go_wp2
   refine bR (v:=X #[O a2 m2 c2,J s2]) (by simp[results,Tryz.results261,go_sem,R,i,j,l,f,g]) rfl ⟨_,rfl,?_,eA,dA⟩;rw[<-oE (s:=true) ae.o af.o oM];exact d.keep kA
  ·have ai:=Wv an;go_in;go_wp2_with((go_at_call 292;(with_reducible refine(Bs _ (X #[O a m c]) (X #[O p r q]) x.natAbs y.natAbs ?_ ?_).mono ?_);(refine n.ext ?_;exact eA);(refine o.ext ?_;exact eA);rintro e w0 ⟨rfl,aa,aq⟩;obtain⟨⟨R,ar⟩,ao,ap,l⟩:=Sb w aa));go_region_held3 (fun W=>W.cell? ⟨w.heap.size,0,Z⟩=V (O a m c)/\W.cell? ⟨w.heap.size,1,Z⟩=V (J false)/\W.cell? ⟨w.heap.size+1,0,Z⟩=V (O p r q)) ((repeat' (with_reducible refine And.intro ?_ ?_))<;>(first|(go_simp;done)|(refine hx1.d ?_;go_simp;done))) (first|((go_at_call 280;(with_reducible refine(Jo _ (X #[O a m c]) (X #[O p r q]) x.natAbs y.natAbs (-1) ?_ ?_ ac.o ad.o oM oM).mono ?_);(refine n.ext ?_;exact eA);(refine o.ext ?_;exact eA);rintro e w1 ⟨r1,rfl,b,hx1,aj⟩;obtain⟨a1,m1,c1,rfl⟩:=b.u.form;obtain⟨⟨i,al⟩,t,u,f⟩:=Sb w hx1))|((go_at_call 278;(with_reducible refine(fo _ false (X #[O a1 m1 c1]) ((x.natAbs:Int) + -1*(y.natAbs:Int)) ?_).mono ?_);(refine b.u.ext ?_;exact eA);rintro e w2 ⟨r2,rfl,d,k,ak⟩;obtain⟨a2,m2,c2,s2,rfl⟩:=d.form;obtain⟨⟨j,am⟩,z,K,g⟩:=Sb w k)))
   all_goals go_wp2
   refine bR (v:=X #[O a2 m2 c2,J s2]) (by simp[results,Tryz.results261,go_sem,R,i,j,l,f,g]) rfl ⟨_,rfl,?_,eA,dA⟩;rw[<-mE (s:=false) ae.o af.o oM];exact d.keep kA
 cases s<;>cases s'
 ·exact ab rfl rfl
 ·exact L rfl rfl
 ·exact ag rfl rfl
 ·exact ah rfl rfl
def JL w c d x y(e:re w c x)(f:re w d y)(a:Lm Rc x)(b:Lm Rc y):Calls Tryz.prog 261 #[c,d] w (lk w (x+y)):=Mm (jB w c d x y e f a b)
def IH w L R x y(t:re w L x)(u:re w R y)(b:Lm Rc x)(d:Lm Rc y):Calls Tryz.prog 282 #[L,R] w (Rg w (x-y)):=by
 obtain⟨a,m,c,s,rfl⟩:=t.form;obtain⟨q,z,r,K,rfl⟩:=u.form;have k:=za b;have l:=za d.neg;clear b d;go_in;go_wp2;go_region_held3 (fun W=>W.cell? ⟨w.heap.size,0,Z⟩=V (O a m c)/\W.cell? ⟨w.heap.size,1,Z⟩=V (J s)/\W.cell? ⟨w.heap.size+1,0,Z⟩=V (O q z r)/\W.cell? ⟨w.heap.size+1,1,Z⟩=V (J K)) ((repeat' (with_reducible refine And.intro ?_ ?_))<;>(first|(go_simp;done)|(refine hx1.d ?_;go_simp;done))) (first|((go_at_call 287;(with_reducible refine(gB _ (X #[O q z r,J K]) y ?_).mono ?_);(refine u.ext ?_;exact eA);rintro e w1 ⟨r1,rfl,f,hx1,ae⟩;obtain⟨a1,m1,c1,s1,rfl⟩:=f.form;obtain⟨⟨n,ag⟩,aa,ab,i⟩:=Sb w hx1))|((go_at_call 261;(with_reducible refine(jB _ (X #[O a m c,J s]) (X #[O a1 m1 c1,J s1]) x (-y) ?_ ?_ k.o l.o).mono ?_);(refine t.ext ?_;exact eA);(refine f.ext ?_;exact eA);rintro e w2 ⟨r2,rfl,g,p,af⟩;obtain⟨a2,m2,c2,s2,rfl⟩:=g.form;obtain⟨⟨o,ah⟩,ac,ad,j⟩:=Sb w p)))
 all_goals go_wp2
 exact bR (v:=X #[O a2 m2 c2,J s2]) (by simp[results,Tryz.results282,go_sem,n,o,i,j]) rfl ⟨_,rfl,g.keep kA,eA,dA⟩
def GL{x y s t}(a:s=decide (x<0))(b:t=decide (y<0)):sg (!(s==t)) ((x.natAbs:Int)*(y.natAbs:Int))=x*y:=by
 rw[<-Int.natCast_mul,<-Int.natAbs_mul];subst a b;rcases Int.lt_trichotomy x 0 with h|rfl|h<;>rcases Int.lt_trichotomy y 0 with k|rfl|k
 ·have:=Int.mul_pos_of_neg_of_neg h k;simp[sg,h,k];omega
 ·simp[sg]
 ·have:=Int.mul_neg_of_neg_of_pos h k;simp[sg,h,show ¬y<0 by omega];omega
 ·simp[sg]
 ·simp[sg]
 ·simp[sg]
 ·have:=Int.mul_neg_of_pos_of_neg h k;simp[sg,k,show ¬x<0 by omega];omega
 ·simp[sg]
 ·have:=Int.mul_pos h k;simp[sg,show ¬x<0 by omega,show ¬y<0 by omega];omega
def Ow w va vb x y(k:re w va x)(l:re w vb y)(b:Lm Rc x)(d:Lm Rc y):Calls Tryz.prog 251 #[va,vb] w (Rg w (x*y)):=by
 obtain⟨a,m,c,s,rfl⟩:=k.form;obtain⟨L,m',R,s',rfl⟩:=l.form;have p:=za k.sgn;have q:=za l.sgn;have u:=k.dig;have z:=l.dig;have n:=za b.abs;have o:=za d.abs;clear b d k l;go_in;go_wp2;go_region_held3 (fun W=>W.cell? ⟨w.heap.size,0,Z⟩=V (O a m c)/\W.cell? ⟨w.heap.size,1,Z⟩=V (J s)/\W.cell? ⟨w.heap.size+1,0,Z⟩=V (O L m' R)/\W.cell? ⟨w.heap.size+1,1,Z⟩=V (J s')) ((repeat' (with_reducible refine And.intro ?_ ?_))<;>(first|(go_simp;done)|(refine hx1.d ?_;go_simp;done))) (first|((go_at_call 279;(with_reducible refine(iC _ (X #[O a m c]) (X #[O L m' R]) x.natAbs y.natAbs ?_ ?_ n.o o.o).mono ?_);(refine u.ext ?_;exact eA);(refine z.ext ?_;exact eA);rintro e w1 ⟨r1,rfl,f,hx1,ae⟩;obtain⟨a1,m1,c1,rfl⟩:=f.u.form;obtain⟨⟨r,ag⟩,aa,ab,i⟩:=Sb w hx1))|((go_at_call 278;(with_reducible refine(fo _ (!(s==s')) (X #[O a1 m1 c1]) ((x.natAbs:Int)*(y.natAbs:Int)) ?_).mono ?_);(refine f.u.ext ?_;exact eA);rintro e w2 ⟨r2,rfl,g,K,af⟩;obtain⟨a2,m2,c2,s2,rfl⟩:=g.form;obtain⟨⟨t,ah⟩,ac,ad,j⟩:=Sb w K)))
 all_goals go_wp2
 refine bR (v:=X #[O a2 m2 c2,J s2]) (by simp[results,Tryz.results251,go_sem,r,t,i,j]) rfl ⟨_,rfl,?_,eA,dA⟩;rw[<-GL p.o q.o];exact g.keep kA
def jq w c d x y(e:re w c x)(f:re w d y)(a:Lm Rc x)(b:Lm Rc y):Calls Tryz.prog 251 #[c,d] w (lk w (x*y)):=Mm (Ow w c d x y e f a b)
def Lm.sub{k x y}(h:Lm k x)(a:Lm k y):Lm (k+1) (x-y):=by
 have e:B ^ (k+1)=B ^ k*16777216:=by rw[Int.pow_succ];rfl
 unfold Lm at *;rw[e];omega
def KH w n o x y(k:re w n x)(l:re w o y)(b:Lm Rc x)(d:Lm Rc y):Calls Tryz.prog 253 #[n,o] w fun e p=>e=.returned (E F (x-y).sign)/\Ba w p/\Dr w p:=by obtain⟨a,m,c,s,rfl⟩:=k.form;obtain⟨t,m',v,s',rfl⟩:=l.form;have g:=za b;have i:=za d;clear b d;go_in;go_wp2_with(first|((go_at_call 282;(with_reducible refine(IH _ (X #[O a m c,J s]) (X #[O t m' v,J s']) x y ?_ ?_ g.o i.o).mono ?_);(refine k.ext ?_;exact eA);(refine l.ext ?_;exact eA);rintro e w1 ⟨r1,rfl,f,j,L⟩;obtain⟨u,m1,z,s1,rfl⟩:=f.form;obtain⟨⟨K,W⟩,q,r⟩:=Nb w j))|((go_at_call 244;(with_reducible refine(rC _ (X #[O u m1 z,J s1]) (x-y) ?_).mono ?_);(refine f.ext ?_;exact eA);rintro e w2 ⟨rfl,aa,R⟩)));go_ret;exact⟨rfl,eA,dA⟩
end
section
open Go.RowKit Go.Shelf
attribute [local go_sem] Oper.semAt_some
def th(w:Y)(x y:Int)(W:Y):Prop:=
 Ba w W/\w.heap.size+1+1+1<=W.heap.size/\(∃sl,W.heap[w.heap.size]?=V (N #[sl] 177 (0,0))/\Nd W (X #[sl]) x)/\
 (∃sl,W.heap[w.heap.size+1]?=V (N #[sl] 177 (0,0))/\Nd W (X #[sl]) y)/\W.heap[w.heap.size+1+1]?=V (N #[O Z 0 0] 177 (0,0))
def th.ext{w x y W W'}(h:th w x y W)(k:Ba W W'):th w x y W':=by obtain⟨a,i,⟨f,b,c⟩,⟨g,d,h6⟩,e⟩:=h;have:=k.size;exact⟨a.trans k,by omega,⟨f,k.e b,c.ext k⟩,⟨g,k.e d,h6.ext k⟩,k.e e⟩
def th.setX{w x y d W sl}(h:th w x y W)(j:Nd W (X #[sl]) d):th w d y (W.setCell ⟨w.heap.size,0,Z⟩ sl):=by obtain⟨e,f,⟨n,b,m⟩,⟨l,g,h6⟩,i⟩:=h;have a:∀k,k≠w.heap.size->(W.setCell ⟨w.heap.size,0,Z⟩ sl).heap[k]?=W.heap[k]?:=fun k a=>bS _ _ _ _ a;have c:Ja 2 W (W.setCell ⟨w.heap.size,0,Z⟩ sl):=(Ja.refl _ W).set b dM _;exact⟨e.set (nE _) _,by rw[fg];exact f,⟨sl,one_setCell b,j.keep c⟩,⟨l,(a _ oM).trans g,h6.keep c⟩,(a _ oM).trans i⟩
def th.setY{w x y d W sl}(h:th w x y W)(l:Nd W (X #[sl]) d):th w x d (W.setCell ⟨w.heap.size+1,0,Z⟩ sl):=by obtain⟨e,f,⟨m,g,i⟩,⟨n,b,h6⟩,j⟩:=h;have a:∀k,k≠w.heap.size+1->(W.setCell ⟨w.heap.size+1,0,Z⟩ sl).heap[k]?=W.heap[k]?:=fun k a=>bS _ _ _ _ a;have c:Ja 2 W (W.setCell ⟨w.heap.size+1,0,Z⟩ sl):=(Ja.refl _ W).set b dM _;exact⟨e.set dO _,by rw[fg];exact f,⟨m,(a _ oM).trans g,i.keep c⟩,⟨sl,one_setCell b,l.keep c⟩,(a _ oM).trans j⟩
def th.keepX{w x y W}(h:th w x y W) u:Ja 2 W (W.setCell ⟨w.heap.size,0,Z⟩ u):=by obtain⟨b,c,⟨e,a,d⟩,_⟩:=h;exact(Ja.refl _ W).set a dM _
def th.keepY{w x y W}(h:th w x y W) u:Ja 2 W (W.setCell ⟨w.heap.size+1,0,Z⟩ u):=by obtain⟨b,c,⟨g,d,e⟩,⟨i,a,h6⟩,f⟩:=h;exact(Ja.refl _ W).set a dM _
def th.setXY{w x y e f W c d}(h:th w x y W)(a:Nd W (X #[c]) e)(b:Nd W (X #[d]) f):th w e f ((W.setCell ⟨w.heap.size,0,Z⟩ c).setCell ⟨w.heap.size+1,0,Z⟩ d):=(h.setX a).setY (b.keep (h.keepX _))
def Fv{k}{x n:Int}(h:2 ^ k*x=n)(a:x%2=0):2 ^ (k+1)*(x/2)=n:=by rw[Int.pow_succ,Int.mul_assoc,show 2*(x/2)=x by omega];exact h
def th.rdX{w x y W}(h:th w x y W):∃a m c,W.cell? ⟨w.heap.size,0,Z⟩=V (O a m c)/\W.frozen? ⟨w.heap.size,0,Z⟩=false/\Nd W (X #[O a m c]) x:=by obtain⟨f,g,⟨k,b,d⟩,⟨l,i,h6⟩,j⟩:=h;obtain⟨a,m,c,e⟩:=d.form;cases e;exact⟨a,m,c,cell_of_one b,free_of_one b,d⟩
def th.rdY{w x y W}(h:th w x y W):∃a m c,W.cell? ⟨w.heap.size+1,0,Z⟩=V (O a m c)/\W.frozen? ⟨w.heap.size+1,0,Z⟩=false/\Nd W (X #[O a m c]) y:=by obtain⟨d,f,⟨k,g,i⟩,⟨l,b,h6⟩,j⟩:=h;obtain⟨a,m,c,e⟩:=h6.form;cases e;exact⟨a,m,c,cell_of_one b,free_of_one b,h6⟩
def th.rdR{w x y W}(h:th w x y W):W.cell? ⟨w.heap.size+1+1,0,Z⟩=V (O Z 0 0)/\W.frozen? ⟨w.heap.size+1+1,0,Z⟩=false:=⟨cell_of_one h.2.2.2.2,free_of_one h.2.2.2.2⟩
def th.o{w x y g W sl}(h:th w x y W)(b:Nd W (X #[sl]) g):Nd (W.setCell ⟨w.heap.size+1+1,0,Z⟩ sl) (X #[sl]) g/\Ba w (W.setCell ⟨w.heap.size+1+1,0,Z⟩ sl)/\(W.setCell ⟨w.heap.size+1+1,0,Z⟩ sl).cell? ⟨w.heap.size+1+1,0,Z⟩=V sl:=by have a:=h.2.2.2.2;exact⟨b.keep ((Ja.refl _ W).set a dM _),h.1.set dO _,cell_of_one (one_setCell a)⟩
def JD{x y}(h:x%2=0)(b:y%2=1):Int.gcd (x/2) y=Int.gcd x y:=by
 have a:Nat.Coprime 2 y.natAbs:=by
  unfold Nat.Coprime;rw[Nat.gcd_rec,show y.natAbs%2=1 by omega];rfl
 have e:x.natAbs=2*(x/2).natAbs:=oM;unfold Int.gcd;rw[e];exact(Nat.Coprime.gcd_mul_left_cancel _ a).symm
def CM{x y}(a:0<=x)(h:x<=y):Int.gcd x (y + -1*x)=Int.gcd x y:=by unfold Int.gcd;rw[show (y + -1*x).natAbs=y.natAbs-x.natAbs by omega];exact Nat.gcd_sub_self_right oM
def pL{x y a b k}(c:2 ^ k*x=a)(d:2 ^ k*y=b):(Int.gcd a b:Int)=2 ^ k*(Int.gcd x y:Int):=by rw[<-c,<-d,Int.gcd_mul_left];simp[Int.natAbs_pow]
def zL{k n}(h:(2:Int) ^ k<B ^ n):k<24*n:=by apply Classical.byContradiction;intro a;have e:B=(2:Int) ^ 24:=dM;rw[e,<-Int.pow_mul]at h;have:=On (b:=(2:Int)) dM (show 24*n<=k by omega);omega
def GC{k:Nat}{x n}(h:Lm Rc n)(f:0<x)(e:2 ^ k*x=n):k<2400000000/\(k:Int)<n:=by
 have c:(2:Int) ^ k*1<=2 ^ k*x:=Int.mul_le_mul_of_nonneg_left oM (Int.pow_nonneg dM);have a:(2:Int) ^ k<B ^ Rc:=by unfold Lm at h;omega
 have b:=zL a;have d:(k:Int)<2 ^ k:=by exact_mod_cast Nat.lt_two_pow_self (n:=k)
 unfold Rc at b;omega
def kv{k}{x n:Int}(d:0<x)(h:2 ^ k*x=n):x<=n:=by
 have a:(1:Int)<=2 ^ k:=by have:=Tj (b:=(2:Int)) dM k;omega
 have c:1*x<=2 ^ k*x:=Int.mul_le_mul_of_nonneg_right a oM;omega
def tQ{x y}(h:y%2=0)(a:x%2=1):Int.gcd x (y/2)=Int.gcd x y:=by rw[Int.gcd_comm,JD h a,Int.gcd_comm]
def Nd.lm{w a m c n}(h:Nd w (X #[O a m c]) n){k}(i:m<=k):Lm k n:=by obtain⟨e,f,g,b,d⟩:=h.open;rw[<-d];exact Lm.dig b.1 oM
def LS w x y(c:0<=x/\x<18446744073709551616)(d:0<=y/\y<18446744073709551616):Calls Tryz.prog 316 #[E .u64 x,E .u64 y] w fun e f=>e=.returned (E .u64 (Int.gcd x y:Nat))/\Ba w f:=by obtain⟨a,rfl⟩:=Int.eq_ofNat_of_zero_le c.1;obtain⟨b,rfl⟩:=Int.eq_ofNat_of_zero_le d.1;exact MS w a b oM oM
def TG{x}(h:Lm 2 x):x<281474976710656:=by have:B ^ 2=281474976710656:=dM;unfold Lm at h;omega
def qL{x y}(h:0<x):(Int.gcd x y:Int)<=x:=Int.le_of_dvd h (Int.gcd_dvd_left ..)
def NV(w:Y)(a nb:Int)(g:Nat)(t5:I)(wr:Y):Prop:=
 ∃(k:Nat)(x y:Int),t5=E F k/\g=a.toNat-k/\0<x/\0<y/\2 ^ k*x=a/\2 ^ k*y=nb/\th w x y wr
def MV(w:Y)(a nb:Int)(t5:I)(wr:Y):Prop:=
 ∃(k:Nat)(x y:Int),t5=E F k/\0<x/\0<y/\(x%2=1\/y%2=1)/\2 ^ k*x=a/\2 ^ k*y=nb/\th w x y wr
def LV(w:Y)(G M:Int)(k:Nat)(g:Nat)(_:I)(wr:Y):Prop:=
 ∃(x y:Int),0<x/\0<y/\(x%2=1\/y%2=1)/\x<=M/\y<=M/\2 ^ k*(Int.gcd x y:Int)=G/\g=x.toNat/\th w x y wr
def KV(w:Y)(G M:Int)(k:Nat)(g:Nat)(_:I)(wr:Y):Prop:=
 ∃(x y:Int),0<x/\0<=y/\x%2=1/\x<=M/\y<=M/\2 ^ k*(Int.gcd x y:Int)=G/\g=(x+y).toNat/\th w x y wr
def JV(w:Y)(G M:Int)(k:Nat)(x y:Int)(g:Nat)(_:I)(wr:Y):Prop:=
 ∃(a:Int),0<a/\a<=y/\2 ^ k*(Int.gcd x a:Int)=G/\g=a.toNat/\th w x a wr
def IV(w:Y)(G M:Int)(k:Nat)(x y:Int)(_:I)(wr:Y):Prop:=
 ∃(a b:Int),0<a/\a<=b/\a%2=1/\b<=M/\b<x+y/\2 ^ k*(Int.gcd a b:Int)=G/\th w a b wr
def fQ{a b}(h:b<a):decide (0<Gc a b)=true:=by simp only[Gc];grind
def gQ{a b}(h:a<=b):decide (0<Gc a b)=false:=by simp only[Gc];grind
def uS w va vb na nb(ha:Nd w va na)(hb:Nd w vb nb)(bi:Lm Rc na)(bj:Lm Rc nb):Calls Tryz.prog 308 #[va,vb] w fun e w'=>∃r,e=.returned r/\Nd w' r (Int.gcd na nb:Nat)/\Ba w w':=by
 obtain⟨a,m,c,rfl⟩:=ha.form;obtain⟨a',m',c',rfl⟩:=hb.form;have h0:=ha.nonneg;have bC:=hb.nonneg;have aF:=za bi;have ba:=za bj;clear bi bj;have aM:th w na nb (((w.alloc (N #[O a m c] 177)).alloc (N #[O a' m' c'] 177)).alloc (N #[O Z 0 0] 177)):=by
  refine⟨eA,by simp,⟨_,?_,ha.ext eA⟩,⟨_,?_,hb.ext eA⟩,?_⟩
  ·rw[tg,tg,tg];simp only[wZ];rw[if_neg oM,if_neg oM,if_pos trivial]
  ·rw[tg,tg];simp only[wZ];rw[if_neg oM,if_pos trivial]
  ·rw[tg];simp only[wZ];rw[if_pos trivial]
 have aG:=za aM;have aJ:=ha.ext aM.1;have bD:=hb.ext aM.1;clear aM;by_cases hz:na=0
 ·have bq:(na==0)=true:=by simpa using hz
  go_in;go_wp2_with(go_at_call 273;(with_reducible refine(Im _ _ _ aJ).mono ?_);rintro e w1 ⟨rfl,b⟩;have ad:=aG.o.ext b;obtain⟨aY,mY,cY,L,R,d⟩:=ad.rdY;obtain⟨aj,ak⟩:=ad.rdR);obtain⟨o1,o2,o3⟩:=ad.o d;refine bR (v:=X #[O aY mY cY]) (by simp[results,Tryz.results308,go_sem,o3]) rfl ⟨_,rfl,?_,o2⟩;rw[hz];simpa[Int.natAbs_of_nonneg bC] using o1
 have ci:(na==0)=false:=by simpa using hz
 by_cases a5:nb=0
 ·have bq:(nb==0)=true:=by simpa using a5
  go_in;go_wp2_with(first|(go_at_call 273;(with_reducible refine(Im _ _ _ aJ).mono ?_);rintro e w1 ⟨rfl,b⟩;have ad:=aG.o.ext b;obtain⟨aY,mY,cY,L,R,d⟩:=ad.rdY)|(go_at_call 273;(with_reducible refine(Im _ _ _ d).mono ?_);rintro e w2 ⟨rfl,o⟩;have ax:=ad.ext o;obtain⟨aX,K,cX,an,ao,f⟩:=ax.rdX;obtain⟨aj,ak⟩:=ax.rdR));obtain⟨o1,o2,o3⟩:=ax.o f;refine bR (v:=X #[O aX K cX]) (by simp[results,Tryz.results308,go_sem,o3]) rfl ⟨_,rfl,?_,o2⟩;rw[a5];simpa[Int.natAbs_of_nonneg h0] using o1
 have bq:(nb==0)=false:=by simpa using a5
 obtain⟨G,hG⟩:∃G:Int,(Int.gcd na nb:Int)=G:=⟨_,rfl⟩;obtain⟨M,be,bf,hM⟩:∃M:Int,na<=M/\nb<=M/\Ua (Lm Rc M):=by
  rcases Int.le_total na nb with h|h
  ·exact⟨nb,h,Int.le_refl _,ba⟩
  ·exact⟨na,Int.le_refl _,h,aF⟩
 rw[hG];have HG:=za hG;clear hG;go_in
 go_upto_block 1 with (first|(go_at_call 273;(with_reducible refine(Im _ _ _ aJ).mono ?_);rintro e w1 ⟨rfl,b⟩;have ad:=aG.o.ext b;obtain⟨aY,mY,cY,L,R,d⟩:=ad.rdY)|(go_at_call 273;(with_reducible refine(Im _ _ _ d).mono ?_);rintro e w2 ⟨rfl,o⟩;have ax:=ad.ext o))
 go_cut [5] (MV w na nb)
 case first =>
  go_wp2;go_loopg [5] na.toNat (NV w na nb)
  case atStart=>exact⟨0,na,nb,rfl,rfl,by omega,by omega,by simp,by simp,ax⟩
  case round =>
   clear ax ad b o L R d;obtain⟨k,x,y,rfl,rfl,n,t,am,au,g⟩:=hrel;obtain⟨aX,K,cX,an,ao,f⟩:=g.rdX;obtain⟨aY,mY,cY,L,R,d⟩:=g.rdY;obtain⟨aj,ak⟩:=g.rdR;have aa:w.heap.size<wr.heap.size:=(by have:=g.2.1;omega);have ab:w.heap.size+1<wr.heap.size:=(by have:=g.2.1;omega);have ac:w.heap.size+1+1<wr.heap.size:=(by have:=g.2.1;omega);have Hs:=za g;clear g;have aH:=za am;have aI:=za au;have ce:=GC aF.o n am;have cf:IntKind.i64.wrap ((k:Int)+1)=(k:Int)+1:=iW _ oM;have aw:Ua (Lm Rc x):=za (aF.o.le oM (kv n am));have aQ:Ua (Lm Rc y):=za (ba.o.le oM (kv t au));clear am au;by_cases q:x%2=0
   ·(have af:(x%2==0)=true:=by simpa using q);by_cases av:y%2=0
    ·(have aV:(y%2==0)=true:=by simpa using av);go_wp2_with(first|(go_at_call 314;(with_reducible refine(qo _ (X #[O aX K cX]) x ?_ n).mono ?_);(refine f.ext ?_;exact eA);rintro e w1 ⟨rfl,b⟩;obtain⟨⟨p,s⟩,i,j,l⟩:=Sb w b)|(go_at_call 314;(with_reducible refine(qo _ (X #[O aY mY cY]) y ?_ t).mono ?_);(refine d.ext ?_;exact eA);rintro e w2 ⟨rfl,o⟩;obtain⟨⟨ay,az⟩,ag,ah,ai⟩:=Sb w o))
     go_region_with (first|((go_at_call 315;(with_reducible refine(Gv _ (X #[O aX K cX]) x ?_ aw.o).mono ?_);(refine f.ext ?_;exact eA);rintro e w3 ⟨r3,rfl,aZ,a2⟩;obtain⟨b2,cj,b4,rfl⟩:=aZ.u.form;obtain⟨⟨bE,bH⟩,br,bs,bt⟩:=Sb w a2))|((go_at_call 315;(with_reducible refine(Gv _ (X #[O aY mY cY]) y ?_ aQ.o).mono ?_);(refine d.ext ?_;exact eA);rintro e w4 ⟨r4,rfl,a0,a3⟩;obtain⟨b3,ck,b5,rfl⟩:=a0.u.form;obtain⟨⟨bF,bI⟩,bu,bv,bw⟩:=Sb w a3)))
     all_goals
      go_wp2;go_roundg (na.toNat-(k+1))
      case measure=>omega
      case rel=>first|exact⟨k+1,x/2,y/2,Ak oM,rfl,by omega,by omega,Fv aH.o q,Fv aI.o av,(Hs.o.ext eA).setXY (aZ.u.ext eA) a0.u⟩|((repeat apply Exists.intro);exact⟨⟨k+1,x/2,y/2,Ak oM,rfl,by omega,by omega,Fv aH.o q,Fv aI.o av,(Hs.o.ext eA).setXY (aZ.u.ext eA) a0.u⟩,rfl⟩)
    ·(have aV:(y%2==0)=false:=by simpa using av);go_wp2_with(first|(go_at_call 314;(with_reducible refine(qo _ (X #[O aX K cX]) x ?_ n).mono ?_);(refine f.ext ?_;exact eA);rintro e w1 ⟨rfl,b⟩;obtain⟨⟨p,s⟩,i,j,l⟩:=Sb w b)|(go_at_call 314;(with_reducible refine(qo _ (X #[O aY mY cY]) y ?_ t).mono ?_);(refine d.ext ?_;exact eA);rintro e w2 ⟨rfl,o⟩;obtain⟨⟨ay,az⟩,ag,ah,ai⟩:=Sb w o));go_meet;exact⟨k,x,y,rfl,n,t,.inr oM,aH.o,aI.o,Hs.o.ext eA⟩
   ·(have af:(x%2==0)=false:=by simpa using q);go_wp2_with(first|(go_at_call 314;(with_reducible refine(qo _ (X #[O aX K cX]) x ?_ n).mono ?_);(refine f.ext ?_;exact eA);rintro e w1 ⟨rfl,b⟩;obtain⟨⟨p,s⟩,i,j,l⟩:=Sb w b));go_meet;exact⟨k,x,y,rfl,n,t,.inl oM,aH.o,aI.o,Hs.o.ext eA⟩
 case rest =>
  obtain⟨k,x0,y0,rfl,n,t,aL,am,au,g⟩:=hcut;have aB:2 ^ k*(Int.gcd x0 y0:Int)=G:=by rw[<-HG.o];exact(pL am au).symm
  have al:=Int.le_trans (kv n am) be;have ar:=Int.le_trans (kv t au) bf;have a9:=za (GC aF.o n am).1;clear am au be bf aJ bD aG;go_wp2;go_loopg [26] x0.toNat (LV w G M k)
  case atStart=>exact⟨x0,y0,n,t,aL,al,ar,aB,rfl,g⟩
  case round =>
   clear g aB al ar aL n t;obtain⟨x,y,n,t,aL,al,ar,hg,rfl,g⟩:=hrel;obtain⟨aX,K,cX,an,ao,f⟩:=g.rdX;obtain⟨aY,mY,cY,L,R,d⟩:=g.rdY;obtain⟨aj,ak⟩:=g.rdR;have aa:w.heap.size<wr.heap.size:=(by have:=g.2.1;omega);have ab:w.heap.size+1<wr.heap.size:=(by have:=g.2.1;omega);have ac:w.heap.size+1+1<wr.heap.size:=(by have:=g.2.1;omega);have Hs:=za g;clear g;have Hg:=za hg;clear hg;have aw:Ua (Lm Rc x):=za (hM.o.le oM al);by_cases q:x%2=0
   ·(have af:(x%2==0)=true:=by simpa using q);go_wp2_with(first|(go_at_call 314;(with_reducible refine(qo _ (X #[O aX K cX]) x ?_ n).mono ?_);(refine f.ext ?_;exact eA);rintro e w1 ⟨rfl,b⟩;obtain⟨⟨p,s⟩,i,j,l⟩:=Sb w b)|((go_at_call 315;(with_reducible refine(Gv _ (X #[O aX K cX]) x ?_ aw.o).mono ?_);(refine f.ext ?_;exact eA);rintro e w2 ⟨r2,rfl,ap,o⟩;obtain⟨aS,a8,aT,rfl⟩:=ap.u.form;obtain⟨⟨ay,az⟩,ag,ah,ai⟩:=Sb w o)));go_roundg (x/2).toNat
    case measure=>omega
    case rel=>exact⟨x/2,y,by omega,t,.inr oM,by omega,ar,by rw[JD q oM];exact Hg.o,rfl,(Hs.o.ext eA).setX ap.u⟩
   ·(have af:(x%2==0)=false:=by simpa using q);have aD:x%2=1:=oM;go_wp2_with(first|(go_at_call 314;(with_reducible refine(qo _ (X #[O aX K cX]) x ?_ n).mono ?_);(refine f.ext ?_;exact eA);rintro e w1 ⟨rfl,b⟩;obtain⟨⟨p,s⟩,i,j,l⟩:=Sb w b));go_loopg [30] (x+y).toNat (KV w G M k)
    case atStart=>exact⟨x,y,n,by omega,aD,al,ar,Hg.o,rfl,Hs.o.ext eA⟩
    case round =>
     clear b p s i j l an ao f L R d aj ak aa ab ac Hs Hg aw al ar aL n t q af aD;obtain⟨x,y,n,t,aD,al,ar,hg,rfl,g⟩:=hrel;obtain⟨aX,K,cX,an,ao,f⟩:=g.rdX;obtain⟨aY,mY,cY,L,R,d⟩:=g.rdY;obtain⟨aj,ak⟩:=g.rdR;have aa:w.heap.size<wr.heap.size:=(by have:=g.2.1;omega);have ab:w.heap.size+1<wr.heap.size:=(by have:=g.2.1;omega);have ac:w.heap.size+1+1<wr.heap.size:=(by have:=g.2.1;omega);have Hs:=za g;clear g;have Hg:=za hg;clear hg;have aw:Ua (Lm Rc x):=za (hM.o.le oM al);by_cases a4:y=0
     ·(have bN:(y==0)=true:=by simpa using a4);(have HK:k<=10000000000:=by have:=a9.o;omega);go_wp2_with(first|(go_at_call 273;(with_reducible refine(Im _ (X #[O aY mY cY]) y ?_).mono ?_);(refine d.ext ?_;exact eA);rintro e w1 ⟨rfl,b⟩;obtain⟨⟨p,s⟩,i,j,l⟩:=Sb w b)|((go_at_call 318;(with_reducible refine(gG _ (X #[O aX K cX]) x k ?_ aw.o HK).mono ?_);(refine f.ext ?_;exact eA);rintro e w2 ⟨r2,rfl,ap,o⟩;obtain⟨aS,a8,aT,rfl⟩:=ap.u.form;obtain⟨⟨ay,az⟩,ag,ah,ai⟩:=Sb w o)));obtain⟨o1,o2,o3⟩:=(Hs.o.ext (w:=w) (W':=w2) eA).o ap.u;refine bR (v:=X #[O aS a8 aT]) (by simp[results,Tryz.results308,go_sem,o3]) rfl ⟨_,rfl,?_,o2⟩;(have e:2 ^ k*x=G:=by rw[<-Hg.o,a4];simp[Int.natAbs_of_nonneg (show 0<=x by omega)]);rw[<-e];exact o1
     ·(have bN:(y==0)=false:=by simpa using a4);go_wp2_with(first|(go_at_call 273;(with_reducible refine(Im _ (X #[O aY mY cY]) y ?_).mono ?_);(refine d.ext ?_;exact eA);rintro e w1 ⟨rfl,b⟩;obtain⟨⟨p,s⟩,i,j,l⟩:=Sb w b));go_loopg [33] y.toNat (JV w G M k x y)
      case atStart=>exact⟨y,by omega,Int.le_refl _,Hg.o,rfl,Hs.o.ext eA⟩
      case round =>
       clear b p s i j l an ao f L R d aj ak aa ab ac Hs Hg;obtain⟨u,aE,cg,hg,rfl,g⟩:=hrel;obtain⟨aX,K,cX,an,ao,f⟩:=g.rdX;obtain⟨aY,mY,cY,L,R,d⟩:=g.rdY;obtain⟨aj,ak⟩:=g.rdR;have aa:w.heap.size<wr.heap.size:=(by have:=g.2.1;omega);have ab:w.heap.size+1<wr.heap.size:=(by have:=g.2.1;omega);have ac:w.heap.size+1+1<wr.heap.size:=(by have:=g.2.1;omega);have Hs:=za g;clear g;have Hg:=za hg;clear hg;have aQ:Ua (Lm Rc u):=za (hM.o.le oM oM);by_cases q:u%2=0
       ·(have af:(u%2==0)=true:=by simpa using q);go_wp2_with(first|(go_at_call 314;(with_reducible refine(qo _ (X #[O aY mY cY]) u ?_ aE).mono ?_);(refine d.ext ?_;exact eA);rintro e w1 ⟨rfl,b⟩;obtain⟨⟨p,s⟩,i,j,l⟩:=Sb w b)|((go_at_call 315;(with_reducible refine(Gv _ (X #[O aY mY cY]) u ?_ aQ.o).mono ?_);(refine d.ext ?_;exact eA);rintro e w2 ⟨r2,rfl,ap,o⟩;obtain⟨aS,a8,aT,rfl⟩:=ap.u.form;obtain⟨⟨ay,az⟩,ag,ah,ai⟩:=Sb w o)));go_roundg (u/2).toNat
        case measure=>omega
        case rel=>exact⟨u/2,by omega,by omega,by rw[tQ q aD];exact Hg.o,rfl,(Hs.o.ext eA).setY ap.u⟩
       ·(have af:(u%2==0)=false:=by simpa using q);have bO:u%2=1:=oM;go_upto_if 40 with (first|(go_at_call 314;(with_reducible refine(qo _ (X #[O aY mY cY]) u ?_ aE).mono ?_);(refine d.ext ?_;exact eA);rintro e w1 ⟨rfl,b⟩;obtain⟨⟨p,s⟩,i,j,l⟩:=Sb w b)|((go_at_call 292;(with_reducible refine(Er _ (X #[O aX K cX]) (X #[O aY mY cY]) x u ?_ ?_).mono ?_);(refine f.ext ?_;exact eA);(refine d.ext ?_;exact eA);rintro e w2 ⟨rfl,o⟩;obtain⟨⟨ay,az⟩,ag,ah,ai⟩:=Sb w o)));go_cut [41] (IV w G M k x y)
        case first =>
         rcases Int.lt_or_le u x with aq|aq
         ·have aU:=fQ aq;have bG:0<Gc x u:=of_decide_eq_true aU;have aR:=za aq;clear aq;go_wp2;go_meet;exact⟨u,x,aE,by have:=aR.o;omega,bO,al,by omega,by rw[Int.gcd_comm];exact Hg.o,(Hs.o.ext (W':=w2) eA).setXY (d.ext eA) (f.ext eA)⟩
         ·have aU:=gQ aq;(have bG:Gc x u<=0:=by have:=of_decide_eq_false aU;omega);have aR:=za aq;clear aq;go_wp2;go_meet;exact⟨x,u,n,aR.o,aD,by omega,by omega,Hg.o,Hs.o.ext (W':=w2) eA⟩
        case rest =>
         clear b p s i j l o ay az ag ah ai an ao f L R d aj ak aa ab ac Hs Hg;obtain⟨x',u,aC,bp,aP,bQ,bP,hg,g⟩:=hcut;obtain⟨wr,rfl⟩:∃W,W=wc:=⟨_,rfl⟩;obtain⟨aX,K,cX,an,ao,f⟩:=g.rdX;obtain⟨aY,mY,cY,L,R,d⟩:=g.rdY;obtain⟨aj,ak⟩:=g.rdR;have aa:w.heap.size<wr.heap.size:=(by have:=g.2.1;omega);have ab:w.heap.size+1<wr.heap.size:=(by have:=g.2.1;omega);have ac:w.heap.size+1+1<wr.heap.size:=(by have:=g.2.1;omega);have Hs:=za g;clear g;have aA:Ua (Lm Rc x'):=za (hM.o.le oM oM);have aO:Ua (Lm Rc u):=za (hM.o.le oM oM);(have bh:2 ^ k*(Int.gcd x' (u + -1*x'):Int)=G:=by rw[CM oM bp];exact hg);have Hg:=za bh;clear hg bh;by_cases bk:K<=2
         ·(have bl:decide ((K:Int)<=2)=true:=by simp;omega);have bm:(K:Int)<=2:=oM;go_wp2_with(first|((go_at_call 280;(with_reducible refine(Ls _ (X #[O aY mY cY]) (X #[O aX K cX]) u x' (-1) ?_ ?_ aO.o aA.o oM oM).mono ?_);(refine d.ext ?_;exact eA);(refine f.ext ?_;exact eA);rintro e w1 ⟨r1,rfl,ae,b⟩;obtain⟨a1,m1,c1,rfl⟩:=ae.u.form;obtain⟨⟨p,s⟩,i,j,l⟩:=Sb w b;rcases Nat.lt_or_ge 2 m1 with aW|aW)))
          ·go_roundg (x'+(u + -1*x')).toNat
           case measure=>omega
           case rel=>exact⟨x',u + -1*x',aC,by omega,aP,by omega,by omega,Hg.o,rfl,(Hs.o.ext eA).setY ae.u⟩
          ·(have HK:k<=10000000000:=by have:=a9.o;omega);obtain⟨z,hz⟩:=gX (u + -1*x');rw[hz]at ae Hg;have ch:0<=z:=oM;clear hz;have aK:th w x' u w1:=Hs.o.ext eA;have bg:=aK.setY (sl:=O a1 m1 c1) (ae.u);have bb:=(f.ext (w':=w1) eA).keep (aK.keepY (O a1 m1 c1));have bc:=ae.u.keep (aK.keepY (O a1 m1 c1));have bA:=za (f.lm bk);have bB:=za (ae.u.lm aW);have b6:=TG (f.lm bk);have b7:=TG (ae.u.lm aW);have bJ:=qL (y:=z) aC;have aB:0<=(Int.gcd x' (z):Int):=Int.natCast_nonneg _;have bx:Ua (Lm Rc (Int.gcd x' (z):Int)):=za (aA.o.le aB bJ);have bz:=za bg;clear bg aK;go_region_held3 (fun W=>W.cell? ⟨w.heap.size,0,Z⟩=V (O aX K cX)/\W.cell? ⟨w.heap.size+1,0,Z⟩=V (O a1 m1 c1)) ((repeat' (with_reducible refine And.intro ?_ ?_))<;>(first|(go_simp;done)|(refine b.d ?_;go_simp;done))) (first|((go_at_call 317;(with_reducible refine(OE _ (X #[O aX K cX]) x' ?_ bA.o).mono ?_);(refine bb.ext ?_;exact eA);rintro e w3 ⟨rfl,a2⟩;obtain⟨⟨bE,bH⟩,br,bs,bt⟩:=Sb w a2))|((go_at_call 317;(with_reducible refine(OE _ (X #[O a1 m1 c1]) (z) ?_ bB.o).mono ?_);(refine bc.ext ?_;exact eA);rintro e w4 ⟨rfl,a3⟩;obtain⟨⟨bF,bI⟩,bu,bv,bw⟩:=Sb w a3))|((go_at_call 316;(with_reducible refine(LS _ x' (z) ⟨by omega,by omega⟩ ⟨by omega,by omega⟩).mono ?_);rintro e w5 ⟨rfl,bK⟩;obtain⟨⟨b8,cb⟩,bT,bU,bV⟩:=Sb w bK))|((go_at_call 281;(with_reducible refine(Gr _ (Int.gcd x' (z):Nat) aB oM).mono ?_);rintro e w6 ⟨r6,rfl,bn,bL⟩;obtain⟨a6,m6,c6,rfl⟩:=bn.u.form;obtain⟨⟨b9,cc⟩,bW,bX,bY⟩:=Sb w bL))|((go_at_call 318;(with_reducible refine(gG _ (X #[O a6 m6 c6]) (Int.gcd x' (z):Nat) k ?_ bx.o HK).mono ?_);(refine bn.u.ext ?_;exact eA);rintro e w7 ⟨r7,rfl,bo,bM⟩;obtain⟨a7,m7,c7,rfl⟩:=bo.u.form;obtain⟨⟨ca,cd⟩,bZ,b0,b1⟩:=Sb w bM)))
           all_goals go_wp2
           obtain⟨o1,o2,o3⟩:=(bz.o.ext (W':=w7) eA).o bo.u;refine bR (v:=X #[O a7 m7 c7]) (by simp[results,Tryz.results308,go_sem,o3]) rfl ⟨_,rfl,?_,o2⟩;rw[Hg.o]at o1;exact o1
         ·(have bl:decide ((K:Int)<=2)=false:=by simp;omega);have bm:2<(K:Int):=oM;go_wp2_with(first|((go_at_call 280;(with_reducible refine(Ls _ (X #[O aY mY cY]) (X #[O aX K cX]) u x' (-1) ?_ ?_ aO.o aA.o oM oM).mono ?_);(refine d.ext ?_;exact eA);(refine f.ext ?_;exact eA);rintro e w1 ⟨r1,rfl,ae,b⟩;obtain⟨a1,m1,c1,rfl⟩:=ae.u.form;obtain⟨⟨p,s⟩,i,j,l⟩:=Sb w b)));go_roundg (x'+(u + -1*x')).toNat
          case measure=>omega
          case rel=>exact⟨x',u + -1*x',aC,by omega,aP,by omega,by omega,Hg.o,rfl,(Hs.o.ext eA).setY ae.u⟩
