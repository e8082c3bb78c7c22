import Derived.Test.YthgbjoahfnjadaaGreatDoorCopA02
import Derived.Sort.CutIn
import Derived.Deep.LoopGhost
import Derived.Deep.CutBlock
import Derived.Deep.DeepCutAuto
set_option maxRecDepth 1000000
set_option maxHeartbeats 16000000
set_option linter.all false
open Go.Value renaming slice->O,agg->X,bool->J,int->E,pointer->H
open Go renaming World->Y,Value->I,Addr->Q
open Option renaming none->Z,some->V
open Go.Obj renaming cells->N
open Go.IntKind renaming i64->F
namespace Go.Proofs.YthgbjoahfnjadaaGreatDoor.Cop
section
open Go.RowKit Go.Shelf
attribute [local go_sem] Oper.semAt_some
def oa.keepsFrom{B:Nat}{W W':Y}(h:oa W W'):KeepsFrom B W W':=⟨h.size,fun _ _ _ a _=>h.e a⟩
def zj{T:TypeId}{w:Y}{base:Nat}{v:I}{xs:List Int}(h:Kb T w base v xs):Kb T w.drew base v xs:=h
def Ef(w:Y)(o:Obj)(k:Nat):(w.alloc o).heap[k]?=if k=w.heap.size then V o else w.heap[k]?:=by show (w.heap.push o)[k]?=_;rw[Array.getElem?_push]
def Kb.stay{T:TypeId}{w w':Y}{base:Nat}{v:I}{xs:List Int}(h:Kb T w base v xs)(d:∀(g:Nat)(o:Obj),base<=g->w.heap[g]?=V o->w'.heap[g]?=V o):Kb T w' base v xs:=by
 obtain⟨e,a⟩:=h;refine⟨e,?_⟩;rcases a with a|⟨g,cap,cur,hv,b,c,r⟩
 ·exact .inl a
 ·exact .inr ⟨g,cap,cur,hv,b,d _ _ b c,r⟩
def Fa.putObj{T:TypeId}{w:Y}{D:Nat}{x:Option (List Deferred)}{o:Obj}(h:w.heap[D]?=V (.deferred x)):Fa T w (w.putObj D o):=fun k b c a=>by
 rw[World.putObj_heap_other];exact a;rintro rfl;rw[h]at a;cases a
def mg(w:Y)(a:I)(n:Nat)(L:Int)(i:Int)(os:List Int)(W:Y):Prop:=
 oa w W/\w.heap.size+1+1+1+1+1+1+1+1<=W.heap.size/\W.heap[w.heap.size+1]?=V (N #[a] 39 (0,0))/\W.heap[w.heap.size+1+1]?=V (N #[O Z 0 0] 39 (0,0))/\
 (∃sl ds,W.heap[w.heap.size+1+1+1]?=V (N #[sl] 39 (0,0))/\Kb 2 W (w.heap.size+1+1+1+1+1+1+1+1) sl ds/\Wg B ds/\dv B ds=L)/\
 W.heap[w.heap.size+1+1+1+1+1]?=V (N #[O (V ⟨w.heap.size+1+1+1+1,0,Z⟩) n n] 37 (0,0))/\W.heap[w.heap.size+1+1+1+1+1+1]?=V (N #[E F i] 3 (0,0))/\
 Kb 2 W (w.heap.size+1+1+1+1) (O (V ⟨w.heap.size+1+1+1+1,0,Z⟩) n n) os
def mg.keep{w:Y}{d:I}{n:Nat}{L i:Int}{os:List Int}{W W':Y}(h:mg w d n L i os W)(o:oa w W')(a:∀T,Fa T W W')(r:W.heap.size<=W'.heap.size):mg w d n L i os W':=by obtain⟨p,q,f,g,⟨sl,e,j,h6,k,l⟩,m,b,c⟩:=h;exact⟨o,by omega,a _ _ _ _ f,a _ _ _ _ g,⟨sl,e,a _ _ _ _ j,h6.keep (a _),k,l⟩,a _ _ _ _ m,a _ _ _ _ b,c.keep (a _)⟩
def mg.ext{w:Y}{a:I}{n:Nat}{L i:Int}{os:List Int}{W W':Y}(h:mg w a n L i os W)(k:oa W W'):mg w a n L i os W':=h.keep (h.1.trans k) (fun _=>k.keep) k.size
def mg.left{w:Y}{e:I}{n:Nat}{L i L':Int}{os:List Int}{W:Y}(h:mg w e n L i os W){sl:I}{ds:List Int}(hi:Kb 2 W (w.heap.size+1+1+1+1+1+1+1+1) sl ds)(p:Wg B ds)(hv:dv B ds=L'):mg w e n L' i os (W.setCell ⟨w.heap.size+1+1+1,0,Z⟩ sl):=by obtain⟨g,j,l,m,⟨q,f,d,h6,r,s⟩,o,b,c⟩:=h;have a:∀k,k≠w.heap.size+1+1+1->(W.setCell ⟨w.heap.size+1+1+1,0,Z⟩ sl).heap[k]?=W.heap[k]?:=fun k a=>bS _ _ _ _ a;refine⟨g.set dO _,by rw[sf];exact j,(a _ oM).trans l,(a _ oM).trans m,⟨sl,ds,one_setCell d,hi.keep ((Fa.refl _ W).set d dM _),p,hv⟩,(a _ oM).trans o,(a _ oM).trans b,c.setOther (by simp[Value.ownBlock]) _⟩
def mg.num{w:Y}{g:I}{n:Nat}{L i:Int}{os:List Int}{W:Y}(h:mg w g n L i os W)(e:Int):mg w g n L e os (W.setCell ⟨w.heap.size+1+1+1+1+1+1,0,Z⟩ (E F e)):=by obtain⟨j,l,m,o,⟨f,c,p,h6,q,r⟩,s,b,d⟩:=h;have a:∀k,k≠w.heap.size+1+1+1+1+1+1->(W.setCell ⟨w.heap.size+1+1+1+1+1+1,0,Z⟩ (E F e)).heap[k]?=W.heap[k]?:=fun k a=>bS _ _ _ _ a;refine⟨j.set dO _,by rw[sf];exact l,(a _ oM).trans m,(a _ oM).trans o,⟨f,c,(a _ oM).trans p,h6.keep ((Fa.refl _ W).set b dM _),q,r⟩,(a _ oM).trans s,one_setCell b,d.setOther (by simp[Value.ownBlock]) _⟩
def mg.o{w:Y}{g:I}{n:Nat}{L i:Int}{os:List Int}{W:Y}(h:mg w g n L i os W)(j:Nat)(x:Int):mg w g n L i (os.set j x) (W.setCell ⟨w.heap.size+1+1+1+1,j,Z⟩ (E F x)):=by obtain⟨l,m,o,p,⟨f,b,q,h6,r,s⟩,t,c,d⟩:=h;have a:∀k,k≠w.heap.size+1+1+1+1->(W.setCell ⟨w.heap.size+1+1+1+1,j,Z⟩ (E F x)).heap[k]?=W.heap[k]?:=fun k a=>bS _ _ _ _ a;refine⟨l.set dO _,by rw[sf];exact m,(a _ oM).trans o,(a _ oM).trans p,⟨f,b,(a _ oM).trans q,h6.setOther ?_ _,r,s⟩,(a _ oM).trans t,(a _ oM).trans c,d.stored j x⟩;intro e;have:=(World.ownsRow.lt h6 _ e).1;dsimp only at this;omega
def kn(w:Y)(x:Int):Kb 2 (w.alloc (N #[E F x] 2)) w.heap.size (O (V ⟨w.heap.size,0,Z⟩) 1 1) [x]:=
 World.ownsRow_lit w #[E F x] 1 (nE _) dM rfl
def Ri(w:Y)(a D:Nat)(W W':Y):Prop:=KeepsFrom D W W'/\Mc w a W W'
def Ri.refl(w:Y)(a D:Nat)(W:Y):Ri w a D W W:=⟨KeepsFrom.refl _ _,Mc.refl _ _ _⟩
def Ri.set{w:Y}{a D:Nat}{W A:Y}(h:Ri w a D W A){p:Q}(c:w.heap.size<=p.block)(b:p.block≠a)(u:I):Ri w a D W (A.setCell p u):=⟨h.1.trans ((KeepsOthers.setCell _ _ _).from _),h.2.set c b u⟩
def Ri.ext{w:Y}{a D:Nat}{W A C:Y}(h:Ri w a D W A)(k:oa A C)(c:w.heap.size<=A.heap.size)(b:a<A.heap.size):Ri w a D W C:=⟨h.1.trans k.keepsFrom,h.2.ext k c b⟩
def mg.rdI{w:Y}{a:I}{n:Nat}{L i:Int}{os:List Int}{W:Y}(h:mg w a n L i os W):W.cell? ⟨w.heap.size+1+1+1+1+1+1,0,Z⟩=V (E F i)/\W.frozen? ⟨w.heap.size+1+1+1+1+1+1,0,Z⟩=false:=⟨cell_of_one h.2.2.2.2.2.2.1,free_of_one h.2.2.2.2.2.2.1⟩
def mg.rdB{w:Y}{a:I}{n:Nat}{L i:Int}{os:List Int}{W:Y}(h:mg w a n L i os W):W.cell? ⟨w.heap.size+1,0,Z⟩=V a:=cell_of_one h.2.2.1
def mg.rdO{w:Y}{a:I}{n:Nat}{L i:Int}{os:List Int}{W:Y}(h:mg w a n L i os W):W.cell? ⟨w.heap.size+1+1+1+1+1,0,Z⟩=V (O (V ⟨w.heap.size+1+1+1+1,0,Z⟩) n n):=cell_of_one h.2.2.2.2.2.1
def mg.rdL{w:Y}{j:I}{n:Nat}{L i:Int}{os:List Int}{W:Y}(h:mg w j n L i os W):∃a5 m5 c5,W.cell? ⟨w.heap.size+1+1+1,0,Z⟩=V (O a5 m5 c5)/\W.frozen? ⟨w.heap.size+1+1+1,0,Z⟩=false/\Tc W (X #[O a5 m5 c5]) L:=by obtain⟨k,l,m,o,⟨g,a,b,h6,e,f⟩,p,c,d⟩:=h;obtain⟨a5,c5,rfl⟩:=h6.form;exact⟨a5,_,c5,cell_of_one b,free_of_one b,jg.z ⟨_,a,rfl,h6,e,f⟩⟩
def mg.leftCell{w:Y}{d:I}{n:Nat}{L i:Int}{os:List Int}{W:Y}(h:mg w d n L i os W)(sl:I):(W.setCell ⟨w.heap.size+1+1+1,0,Z⟩ sl).cell? ⟨w.heap.size+1+1+1,0,Z⟩=V sl:=by obtain⟨c,a,b,_⟩:=h.2.2.2.2.1;exact cell_of_one (one_setCell b)
def mg.leftD{w:Y}{e:I}{n:Nat}{L L' i:Int}{os:List Int}{W:Y}(h:mg w e n L i os W){sl:I}{ds:List Int}{base:Nat}(hi:Kb 2 W base sl ds)(c:Wg B ds)(hv:dv B ds=L'):Tc (W.setCell ⟨w.heap.size+1+1+1,0,Z⟩ sl) (X #[sl]) L':=by obtain⟨d,a,b,_⟩:=h.2.2.2.2.1;exact jg.z ⟨_,ds,rfl,hi.setOther (hi.ne_block b dM) _,c,hv⟩
def Cr{a b:Int}(h:a<b):decide (nc a b<0)=true:=by simp only[nc];grind
def Ir{a b:Int}(h:¬a<b):decide (nc a b<0)=false:=by simp only[nc];grind
def RC{k:Int}(a:0<=k)(b:k<18446744073709551616):Lm Cc k:=by refine Lm.mono (j:=3) ?_ dM;unfold Lm B;constructor<;>omega
def TF(k:Int):IntKind.u64.wrap k=k%18446744073709551616:=by simp[IntKind.wrap,IntKind.signed,IntKind.bits]
def Lm.le{k:Nat}{a b:Int}(h:Lm k b)(c:0<=a)(d:a<=b):Lm k a:=by have:=tj Yh k;unfold Lm at *;omega
def oF{os:List Int}{j:Nat}(h:os[j]?=V 0):os.set j 0=os:=by obtain⟨a,b⟩:=lS.1 h;rw[<-b];exact List.set_getElem_self a
def Jn(w:Y)(a:I)(nb:Int)(n:Nat)(pre:List ui)(W:Y):Prop:=
 pre.length<=n/\∃os,mg w a n (hv pre%nb) ((n:Int)-pre.length) os W/\os.length=n/\ke B os/\dv B os=B ^ (n-pre.length)*(hv pre/nb)/\∀j,j<n-pre.length->os[j]?=V 0
def sH{os:List Int}{n p:Nat}{h x nb:Int}(i:p<n)(g:os.length=n)(c:dv B os=B ^ (n-p)*(h/nb))(d:os[n-(p+1)]?=V 0)(f:0<nb):dv B (os.set (n-(p+1)) ((x+B*(h%nb))/nb))=B ^ (n-(p+1))*((x+B*h)/nb):=by
 rw[Tn _ d,c,show n-p=(n-(p+1))+1 by omega,Int.pow_succ,Int.sub_zero];have e:(x+B*h)/nb=B*(h/nb)+(x+B*(h%nb))/nb:=by
  have a:h=nb*(h/nb)+h%nb:=(Int.mul_ediv_add_emod h nb).symm;have b:x+B*h=(x+B*(h%nb))+nb*(B*(h/nb)):=by
   generalize h/nb=q at *
   generalize h%nb=r at *
   subst a;grind
  rw[b,Int.add_mul_ediv_left _ _ oM,Int.add_comm]
 rw[e];generalize B ^ (n-(p+1))=P;generalize h/nb=q;generalize (x+B*(h%nb))/nb=r;grind
def zF{h x nb:Int}(a:0<nb):(x+B*h)%nb=(x+B*(h%nb))%nb:=by rw[Int.add_emod,Int.mul_emod,<-Int.emod_emod_of_dvd h (Int.dvd_refl nb),<-Int.mul_emod,<-Int.add_emod];rw[Int.emod_emod_of_dvd h (Int.dvd_refl nb)]
def gB{L x nb:Int}(a:0<=L)(b:L<nb)(c:0<=x/\x<16777216):0<=(x+B*L)/nb/\(x+B*L)/nb<16777216:=by unfold B;refine⟨Int.ediv_nonneg oM oM,Int.ediv_lt_of_lt_mul oM ?_⟩;omega
def Jn.next{w:Y}{l:I}{nb:Int}{n:Nat}{pre:List ui}{x:ui}{os:List Int}{W:Y}(h:mg w l n ((x.1+B*(hv pre%nb))%nb) ((n:Int)-pre.length-1) (os.set (n-(pre.length+1)) ((x.1+B*(hv pre%nb))/nb)) W)(o:pre.length<n)(c:os.length=n)(i:ke B os)(b:dv B os=B ^ (n-pre.length)*(hv pre/nb))(f:∀j,j<n-pre.length->os[j]?=V 0)(a:0<nb):Jn w l nb n (pre++[x]) W:=by
 have p:=x.2;have k:=gB (L:=hv pre%nb) (x:=x.1) (Int.emod_nonneg (hv pre) oM) (Int.emod_lt_of_pos (hv pre) a) p;refine⟨by simp;omega,os.set (n-(pre.length+1)) ((x.1+B*(hv pre%nb))/nb),?_,by simpa using c,?_,?_,?_⟩
 ·rw[Ft,zF a,lA,List.length_singleton];have e:((n:Int)-((pre.length+1:Nat):Int))=(n:Int)-pre.length-1:=oM;rw[e];exact h
 ·intro d g;rcases List.mem_or_eq_of_mem_set g with g|rfl
  ·exact i d g
  ·unfold B at k ⊢;exact k
 ·rw[Ft,lA,List.length_singleton];exact sH o c b (f _ oM) a
 ·intro j m;rw[lA,List.length_singleton]at m;rw[List.getElem?_set_ne oM];exact f j oM
def mM(w:Y)(b:I)(n:Nat)(L i:Int)(os:List Int)(a D:Nat)(W:Y)(t9:I)(wr:Y):Prop:=
 ∃k:Int,t9=E F k/\ -9223372036854775808<=k/\k<9223372036854775808/\mg w b n L i os wr/\Ri w a D W wr
def pM(w:Y)(c:I)(n:Nat)(L i:Int)(os:List Int)(a D:Nat)(W:Y)(b:Bool)(t:I)(wr:Y):Prop:=
 t=J b/\mg w c n L i os wr/\Ri w a D W wr
def XB(x:Int):-9223372036854775808<=IntKind.i64.wrap x/\IntKind.i64.wrap x<9223372036854775808/\IntKind.i64.wrap x%18446744073709551616=x%18446744073709551616:=by simp[IntKind.wrap,IntKind.signed,IntKind.bits];omega
def vH{k d a L nb:Int}(h:d%18446744073709551616=(k-1)%18446744073709551616)(f:a=k%18446744073709551616)(e:0<=L)(c:L<nb*a):(d%18446744073709551616).toNat<(k%18446744073709551616).toNat:=by
 have b:a≠0:=by rintro b;rw[b]at c;simp at c;omega
 omega
def nM(w:Y)(b:I)(n:Nat)(L i:Int)(os:List Int)(a D:Nat)(W:Y)(wr:Y):Prop:=
 mg w b n L i os wr/\Ri w a D W wr
def jM(w:Y)(b:I)(n:Nat)(L nb i:Int)(os:List Int)(a D:Nat)(W:Y)(t9:I)(wr:Y):Prop:=
 ∃k L2:Int,t9=E F k/\ -9223372036854775808<=k/\k<9223372036854775808/\0<=L2/\L2+nb*(k%18446744073709551616)=L/\mg w b n L2 i os wr/\Ri w a D W wr
def Lm.dig{k:Nat}{ds:List Int}(h:ke B ds)(a:ds.length<=k):Lm k (dv B ds):=by have c:=ik Yh h;have d:=qo (b:=B) dM a;have e:=tj Yh k;unfold Lm;omega
def ZD{a b:Int}(h:b<=a):decide (0<=nc a b)=true:=by simp only[nc];grind
def VG{a b:Int}(h:¬b<=a):decide (0<=nc a b)=false:=by simp only[nc];grind
def vE{nb L2 L a:Int}(b:0<nb)(g:0<=a)(f:L2+nb*a=L)(j:nb<=L2)(e:L<B*nb):a+1<=L/nb/\a+1<16777217:=by
 have c:(a+1)*nb<=L:=by rw[<-f,Int.add_mul,Int.mul_comm a nb];omega
 have i:a+1<=L/nb:=(Int.le_ediv_iff_mul_le b).2 c;have d:L/nb<B:=Int.ediv_lt_of_lt_mul b e;unfold B at d;omega
def CF{nb L2 L k:Int}(a:0<nb)(c:L2+nb*(k%18446744073709551616)=L)(b:0<=L2)(l:¬nb<=L2)(e:L<B*nb)(f:-9223372036854775808<=k)(g:k<9223372036854775808):k=L/nb/\L2=L%nb:=by
 have i:L/nb=k%18446744073709551616:=by rw[<-c,Int.add_mul_ediv_left _ _ oM,Int.ediv_eq_zero_of_lt b oM];omega
 have j:L%nb=L2:=by rw[<-c,Int.add_mul_emod_self_left,Int.emod_eq_of_lt b oM]
 have d:L/nb<B:=Int.ediv_lt_of_lt_mul a e;unfold B at d;omega
def yF{x r L nb:Int}(h:x+B*r=L)(b:x<16777216)(a:r<nb):L<B*nb:=by unfold B at *;omega
def Qc:Nat:=10000000
def uH{zs os:List Int}{ds:List ui}{m:Nat}{a nb:Int}(b:dv B zs=dv B os)(c:dv B os=B ^ (m-ds.reverse.length)*(hv ds.reverse/nb))(d:dv B (Kf ds)=a)(e:ds.length=m):dv B zs=a/nb:=by rw[b,c,nt,d,List.length_reverse,e,Nat.sub_self];simp
def tH{a:List Int}{ds:List ui}{b nb:Int}(c:dv B a=hv ds.reverse%nb)(d:dv B (Kf ds)=b):dv B a=b%nb:=by rw[c,nt,d]
def VJ{w d:Y}{D:Nat}{tmps:Array I}{f nb:Int}{a4 a5:Option Q}{b c:Nat}{zs a:List Int}{v2 v3:I}{x:Option (List Deferred)}(t4:tmps.getD 4 undef=H (V ⟨w.heap.size+1+1,0,Z⟩))(t5:tmps.getD 5 undef=H (V ⟨w.heap.size+1+1+1,0,Z⟩))(m:d.heap[w.heap.size+1+1]?=V (N #[v2] 39 (0,0)))(q3:d.heap[w.heap.size+1+1+1]?=V (N #[v3] 39 (0,0)))(t:Kb 2 d (w.heap.size+1+1+1+1) (O a4 zs.length b) zs)(u:Kb 2 d (w.heap.size+1+1+1+1+1+1+1+1) (O a5 a.length c) a)(R:Wg B zs)(P:Wg B a)(T:dv B zs=f/nb)(W:dv B a=f%nb)(l:oa w d)(g:((d.setCell ⟨w.heap.size+1+1,0,Z⟩ (O a4 zs.length b)).setCell ⟨w.heap.size+1+1+1,0,Z⟩ (O a5 a.length c)).heap[D]?=V (.deferred x))(hD:w.heap.size+1+1+1+1+1+1+1+1<=D):LeavesInM Fence.wide 6 Tryz.prog Tryz.f192 tmps (fun e s=>∃q r,e=.returned (.tuple #[q,r])/\jg s w.heap.size q (f/nb)/\jg s w.heap.size r (f%nb)/\oa w s) [] FrameMode.returning (((d.setCell ⟨w.heap.size+1+1,0,Z⟩ (O a4 zs.length b)).setCell ⟨w.heap.size+1+1+1,0,Z⟩ (O a5 a.length c)).putObj D (.deferred Z)):=by
 have r2:(d.setCell ⟨w.heap.size+1+1,0,Z⟩ (O a4 zs.length b)).heap[w.heap.size+1+1]?=V (N #[O a4 zs.length b] 39 (0,0)):=one_setCell m;have n:(d.setCell ⟨w.heap.size+1+1,0,Z⟩ (O a4 zs.length b)).heap[w.heap.size+1+1+1]?=V (N #[v3] 39 (0,0)):=(bS _ _ _ _ dO).trans q3;have v:=t.setOther (p:=⟨w.heap.size+1+1,0,Z⟩) (t.ne_block m dM) (O a4 zs.length b);have y:=u.setOther (p:=⟨w.heap.size+1+1,0,Z⟩) (u.ne_block m dM) (O a4 zs.length b);have i:=l.set (p:=⟨w.heap.size+1+1,0,Z⟩) dO (O a4 zs.length b);generalize d.setCell ⟨w.heap.size+1+1,0,Z⟩ (O a4 zs.length b)=w4 at *
 have s2:(w4.setCell ⟨w.heap.size+1+1+1,0,Z⟩ (O a5 a.length c)).heap[w.heap.size+1+1]?=V (N #[O a4 zs.length b] 39 (0,0)):=(bS _ _ _ _ dO).trans r2;have s3:(w4.setCell ⟨w.heap.size+1+1+1,0,Z⟩ (O a5 a.length c)).heap[w.heap.size+1+1+1]?=V (N #[O a5 a.length c] 39 (0,0)):=one_setCell n;have k4:=v.setOther (p:=⟨w.heap.size+1+1+1,0,Z⟩) (v.ne_block n dM) (O a5 a.length c);have k5:=y.setOther (p:=⟨w.heap.size+1+1+1,0,Z⟩) (y.ne_block n dM) (O a5 a.length c);have j:=i.set (p:=⟨w.heap.size+1+1+1,0,Z⟩) dO (O a5 a.length c);generalize w4.setCell ⟨w.heap.size+1+1+1,0,Z⟩ (O a5 a.length c)=w5 at *
 have z:=cell_of_one ((World.putObj_heap_other (w:=w5) (r:=D) (o:=.deferred Z) oM).trans s2);have K:=cell_of_one ((World.putObj_heap_other (w:=w5) (r:=D) (o:=.deferred Z) oM).trans s3);have m4:=k4.keep (Fa.putObj (o:=.deferred Z) g);have m5:=k5.keep (Fa.putObj (o:=.deferred Z) g);refine⟨.tuple #[X #[O a4 zs.length b],X #[O a5 a.length c]],?_,_,_,rfl,⟨_,zs,rfl,m4.mono oM,R,T⟩,⟨_,a,rfl,m5.mono oM,P,W⟩,?_⟩
 ·simp only[Array.getD_eq_getD_getElem?]at t4 t5;simp[results,Tryz.results192,go_sem,t4,t5,z,K]
 ·exact j.E ((Below.refl D w5).grown (grownBy_putObj' w5 D _) (by have:=jc g;omega) (fun k e=>by cases e;omega)) oM
def Fy(w:Y)(va vb:I)(na nb:Int)(ha:Tc w va na)(hb:Tc w vb nb)(br:Lm Qc na)(cc:Lm Qc nb)(ai:0<nb):Calls Tryz.prog 192 #[va,vb] w fun e w'=>∃q r,e=.returned (.tuple #[q,r])/\jg w' w.heap.size q (na/nb)/\jg w' w.heap.size r (na%nb)/\oa w w':=by
 obtain⟨a,m,c,rfl⟩:=ha.form;obtain⟨a',m',c',rfl⟩:=hb.form;obtain⟨xs,hl,hi,hc,hv⟩:=ha.open;have hm:=br.len hc hv;rw[hl]at hm;unfold Qc at hm;obtain⟨ds,rfl⟩:=pt hc.1;have Hl:=ia hl;have Hv:=ia hv;clear hl hv;have dt:∀(fn:Fn)(first cap:Array I)(w:Y),(Instr.makeFunc fn first cap).run Tryz.prog w = .ok (.func fn first cap) w:=fun _ _ _ _=>rfl;refine(callsIn_wide (n:=6)).1 ?_;refine callsIn_of_wp_marks Tryz.func192 rfl trivial ?_ rfl;simp only[Tryz.ntmps192,List.size_toArray,List.length_cons,List.length_nil,Nat.reduceAdd,Nat.reduceSub,Array.replicate_succ,Array.replicate_zero,List.push_toArray,List.append_toArray,List.nil_append,List.cons_append]
 gi_wp2_with(first|(gi_at_make;refine PC nk Tryz.underlying37 rfl _ _ rfl _ rfl rfl rfl oM ?_;intro cs ak)|(refine⟨trivial,?_⟩;gi_at_call 215;refine(callsIn_wide.2 (gy _ _ _ _)).mono ?_;rintro e w' ⟨rfl,rfl⟩))
 have bn:((((((((w.alloc (N #[O a m c] 39)).alloc (N #[O a' m' c'] 39)).alloc (N #[O Z 0 0] 39)).alloc (N #[O Z 0 0] 39)).alloc (N cs 2)).alloc (N #[O (V ⟨w.heap.size+1+1+1+1,0,Z⟩) m m] 37)).alloc (N #[E F m] 3)).alloc (N #[O a m c] 39)).cell? ⟨w.heap.size+1+1+1+1+1+1+1,0,Z⟩=V (O a m c):=by
  rw[World.cell?_alloc_at _ _ _ _ sM];rfl
 refine wpIn_rangeFunc_ownG rfl dM (gf:=271) (lb:=#[H (V ⟨w.heap.size+1+1+1+1+1+1+1,0,Z⟩)]) rfl trivial (enters_of Tryz.func271 kM rfl)
  (qB _ _ trivial rfl dM (w.heap.size+1+1+1+1+1+1+1) w _ _ ds bn sM hi eA) Mc.trans (Mc.put (by simp;omega) sM) (Below.refl _ _) (fun _=>rfl)
  (Jn w (O a' m' c') nb m) (fun _ _ _=>False) (Zh (fun s W h=>by obtain⟨_,os,h,_⟩:=h;have:=h.2.1;simp;omega) (fun s W W' h k=>?hsim)) (fun _=>Zh (fun _ _ h=>h.elim) (fun _ _ _ h _=>h)) ?h0
  (fun x=>{ tmps:=#[X #[O a m c],X #[O a' m' c'],H (V ⟨w.heap.size,0,Z⟩),H (V ⟨w.heap.size+1,0,Z⟩),H (V ⟨w.heap.size+1+1,0,Z⟩),H (V ⟨w.heap.size+1+1+1,0,Z⟩),H (V ⟨w.heap.size+1+1+1+1+1,0,Z⟩),H (V ⟨w.heap.size+1+1+1+1+1+1,0,Z⟩),E F x.1,undef,H (V ⟨w.heap.size,0,Z⟩),O a m c,E F m,O (V ⟨w.heap.size+1+1+1+1,0,Z⟩) m m,H (V ⟨w.heap.size,0,Z⟩),O a m c,E F m,X #[O a m c],.func (.func 271) #[] #[H (V ⟨w.heap.size+1+1+1+1+1+1+1,0,Z⟩)],E F x.1,undef,undef,undef,undef,undef,undef,undef,undef,undef,undef,undef,undef,undef,undef,undef,undef,undef,undef,undef,undef,undef,undef,undef,undef,undef,undef,undef,undef,undef,undef,undef,undef,undef,undef,undef,undef,undef,undef,undef,undef,undef,undef,undef,undef,undef,undef,undef,undef],defers:=[] }) ?assign ?body ?done ?stop
 case hsim =>
  obtain⟨h1,os,h2,h3⟩:=h;exact⟨h1,os,h2.keep (k.ext h2.1 (by simp;omega)) k.keep k.size,h3⟩
 case h0 =>
  refine⟨by simp,List.replicate m 0,⟨eA,by simp,(by simp only[Ef,wZ];simp),(by simp only[Ef,wZ];simp),⟨_,[],(by simp only[Ef,wZ];simp),Kb.nil _ _ _,Wg.nil _,by simp[hv,Kf]⟩,(by simp only[Ef,wZ];simp),by simp only[Ef,wZ];simp,?_⟩,by simp,?_,by rw[po];simp[hv,Kf],?_⟩
  ·simpa using ((ak.alloc _).alloc _).alloc _
  ·intro d hd;have:=(List.mem_replicate.1 hd).2;unfold B;omega
  ·intro j hj;simp at hj;simp[hj]
 case assign =>
  intro l x W K hK
  gi_wp2
  exact hK
 case body =>
  rintro l pre x W ⟨h1,os,aj,aH,ar,ae,aU⟩ cf;have c9:=ia br;have bj:=ia cc;clear br cc;have cl:=x.2.1;have bu:=x.2.2;obtain⟨dg,dm⟩:=aj.rdI;obtain⟨a5,m5,c5,bU,b5,bG⟩:=aj.rdL;have dc:=aj.2.1;have da:=ia cf;have bk:=ia aH;have an:=ia ae;have aO:=ia aU;have cq:=ia aj;have cm:=ia bG;have ci:pre.length<m:=by have h5:=Hl.o;have h6:=Ds ds;omega
  have dq:IntKind.i64.wrap ((m:Int)-pre.length-1)=(m:Int)-pre.length-1:=iW _ oM;clear cf aH ae aU aj bG ak bn;have am:=cq.o.num ((m:Int)-pre.length-1);obtain⟨W1,ah⟩:=gX (W.setCell ⟨w.heap.size+1+1+1+1+1+1,0,Z⟩ (E F ((m:Int)-pre.length-1)));rw[ah]at am;have cR:W1.heap.size=W.heap.size:=by rw[<-ah,sf]
  obtain⟨a6,m6,c6,bW,dn,bl⟩:=am.rdL;have bX:((W.setCell ⟨w.heap.size+1+1+1+1+1+1,0,Z⟩ (E F ((m:Int)-pre.length-1))).alloc (N #[E F x.1] 2)).cell? ⟨w.heap.size+1+1+1,0,Z⟩=V (O a6 m6 c6):=by
   rw[ah,World.cell?_alloc_lt _ _ _ dO];exact bW
  have cp:=ia am;have c2:=ia bl;have bh:=ia ah;obtain⟨es,b1,b0,bZ,b4⟩:=bl.open;have bA:=ia b4;have c3:=ia b1;have aI:Kb 2 ((W.setCell ⟨w.heap.size+1+1+1+1+1+1,0,Z⟩ (E F ((m:Int)-pre.length-1))).alloc (N #[E F x.1] 2)) W.heap.size (O (V ⟨W.heap.size,0,Z⟩) 1 1) [x.1]:=by
   rw[ah,<-cR];exact kn W1 x.1
  have a2:Uc 2 ((W.setCell ⟨w.heap.size+1+1+1+1+1+1,0,Z⟩ (E F ((m:Int)-pre.length-1))).alloc (N #[E F x.1] 2)) (O a6 m6 c6) es:=by
   rw[ah];exact b0.ext eA
  have cZ:es.length<=10000000:=by
   have:=Lm.len (bj.o.le (Int.emod_nonneg _ oM) (Int.le_of_lt (Int.emod_lt_of_pos (hv pre) ai))) bZ bA.o;exact this
  have b2:[x.1].length+es.length<=1000000000000:=by simp;omega
  have b3:([x.1]++es).length<=1000000000:=by simp;omega
  have bo:ke B ([x.1]++es):=by
   intro y hy;rcases List.mem_append.1 hy with hy|hy
   ·cases List.mem_singleton.1 hy;exact⟨cl,bu⟩
   ·exact bZ.1 y hy
  have cJ:∀y∈[x.1]++es,-4611686018427387904<=y/\y<=4611686018427387904:=by
   intro y hy;have:=bo y hy;unfold B at this;omega
  have bp:0<=dv B ([x.1]++es):=(ik Yh bo).1;obtain⟨L',bm⟩:∃L',x.1+B*(hv pre%nb)=L':=⟨_,rfl⟩;have a3:dv B ([x.1]++es)=L':=by rw[<-bm,<-bA.o];simp
  have bc:=ia bm;have aa:=ia a3;clear bm a3;have a0:W.heap.size<=((W.setCell ⟨w.heap.size+1+1+1+1+1+1,0,Z⟩ (E F ((m:Int)-pre.length-1))).alloc (N #[E F x.1] 2)).heap.size:=sM;clear ah bl bW am b4 b1 bU b5 cm b0
  gi_wp2_with(gi_at_builtin;go_loud (refine lE nk Tryz.underlying37 rfl _ _ rfl rfl aI rfl a2 b2 a0 ?_);intro v' w1 t P aR;have cS:=nT a0 P.size)
  refine⟨trivial,?_⟩;(with_reducible refine(CallsIn.inRound l (callsIn_wide.2 (Ju W.heap.size v' ([x.1]++es) w1 t cS b3 cJ bp))).mono ?_);rintro e w2 ⟨v2,zs,rfl,aX,al,R,bQ,cI⟩;obtain⟨a7,c7,rfl⟩:=R.form;have bw:oa W1 w2:=by
   rw[bh.o]at P;exact(((eR W1).alloc _).E P oM).E bQ oM
  have aw:=cp.o.ext bw;have aM:=aw.left (R.mono oM) aX (al.trans aa.o);obtain⟨_,_,_,cC,cK,_⟩:=aw.rdL;have cD:=aw.leftCell (O a7 zs.length c7);have bT:=aM.rdB;have bb:=aw.leftD R aX (al.trans aa.o);have aL:=hb.ext aM.1;have av:=ia aM;have bE:=ia al;have ag:=ia bw;clear aw aM al bw bX aI a2 P t cI bQ R aR;have aP:0<=L':=by rw[<-aa.o];exact bp
  by_cases aT:L'<nb
  ·have cG:=Cr aT
   gi_wp2_with(refine⟨trivial,?_⟩;gi_at_call 153;(with_reducible refine(CallsIn.inRound l (callsIn_wide.2 (Zn _ _ _ _ _ bb aL))).mono ?_);rintro e w4 ⟨rfl,u⟩)
   have hP:Ri w (w.heap.size+1+1+1+1+1+1+1) (w.heap.size+1+1+1+1+1+1+1+1) W w4:=by
    have h5:=(Ri.refl w (w.heap.size+1+1+1+1+1+1+1) (w.heap.size+1+1+1+1+1+1+1+1) W).set (p:=⟨w.heap.size+1+1+1+1+1+1,0,Z⟩) dO dO (E F ((m:Int)-pre.length-1));rw[bh.o]at h5;have h6:=ag.o.size;exact((h5.ext ag.o oM oM).set (p:=⟨w.heap.size+1+1+1,0,Z⟩) dO dO _).ext u (by rw[sf];omega) (by rw[sf];omega)
   have hI:Jn w (O a' m' c') nb m (pre++[x]) w4:=by
    refine Jn.next (os:=os) ?_ ci bk.o ar an.o aO.o ai;have h0:=bc.o;have h1:=(gB (L:=hv pre%nb) (x:=x.1) (Int.emod_nonneg (hv pre) oM) (Int.emod_lt_of_pos (hv pre) ai) ⟨cl,bu⟩);rw[h0];(have aP:0<=L':=by rw[<-aa.o];exact bp);rw[Int.emod_eq_of_lt aP aT,Int.ediv_eq_zero_of_lt aP aT,oF (aO.o _ oM)];exact av.o.ext u
   refine⟨?_,hP.2,hI⟩;have:=hP.1;simpa using this
  ·have cG:=Ir aT;have bM:Ri w (w.heap.size+1+1+1+1+1+1+1) (w.heap.size+1+1+1+1+1+1+1+1) W (w2.setCell ⟨w.heap.size+1+1+1,0,Z⟩ (O a7 zs.length c7)):=by
    have h5:=(Ri.refl w (w.heap.size+1+1+1+1+1+1+1) (w.heap.size+1+1+1+1+1+1+1+1) W).set (p:=⟨w.heap.size+1+1+1+1+1+1,0,Z⟩) dO dO (E F ((m:Int)-pre.length-1));rw[bh.o]at h5;exact(h5.ext ag.o oM oM).set (p:=⟨w.heap.size+1+1+1,0,Z⟩) dO dO _
   have bz:=ia bM;clear bM
   gi_wp2_with(first|(refine⟨trivial,?_⟩;gi_at_call 153;(with_reducible refine(CallsIn.inRound l (callsIn_wide.2 (Zn _ _ _ _ _ bb aL))).mono ?_);rintro e w4 ⟨rfl,u⟩;obtain⟨a8,m8,c8,ab,aq,i⟩:=(av.o.ext u).rdL;have ac:=(av.o.ext u).rdB;have f:=aL.ext u)|(refine⟨trivial,?_⟩;gi_at_call 230;(with_reducible refine(CallsIn.inRound l (callsIn_wide.2 (ZH _ _ _ _ _ i f (bj.o.mono dM)))).mono ?_);rintro e w5 ⟨⟨k0,rfl,bq⟩,bv⟩))
   have bC:=(av.o.ext u).ext bv;have bO:=(bz.o.ext u (by rw[sf];have h6:=ag.o.size;omega) (by rw[sf];have h6:=ag.o.size;omega)).ext bv (by have h7:=u.size;rw[sf]at h7;have h6:=ag.o.size;omega) (by have h7:=u.size;rw[sf]at h7;have h6:=ag.o.size;omega);clear ab aq i ac f bb aL cC cK cD bT bz
   gi_loopw [9] (mM w (O a' m' c') m L' ((m:Int)-pre.length-1) os (w.heap.size+1+1+1+1+1+1+1) (w.heap.size+1+1+1+1+1+1+1+1) W) (fun t9 _=>(intOf t9%18446744073709551616).toNat)
   case atStart=>exact⟨k0,rfl,bq.1,by have:=bq.2;omega,bC,bO⟩
   case round =>
    clear bC bO u bv bq;obtain⟨k,rfl,b6,b8,Ho,hP⟩:=hrel;obtain⟨a8,m8,c8,ab,aq,i⟩:=Ho.rdL;have ac:=Ho.rdB;have f:=hb.ext Ho.1;have T:=ia Ho;have HP:=ia hP;have aV:=Ho.2.1;obtain⟨kk,b9⟩:=gX (IntKind.u64.wrap k);(have ca:kk=k%18446744073709551616:=by rw[<-b9,TF]);have ao:0<=kk:=oM;have aF:kk<18446744073709551616:=oM;have bg:=ia (RC ao aF);have be:zc (Lm Cc nb):=ia (bj.o.mono dM);have bi:=ia ca;clear Ho hP av ca
    gi_wp2
    gi_cut [42]from 1000 (pM w (O a' m' c') m L' ((m:Int)-pre.length-1) os (w.heap.size+1+1+1+1+1+1+1) (w.heap.size+1+1+1+1+1+1+1+1) W (decide (nc L' (nb*kk)<0)))
    case first =>
     gi_region_with (first|(refine⟨trivial,?_⟩;gi_at_call 148;(with_reducible refine(CallsIn.inRound l (callsIn_wide.2 (Yn _ kk ao aF))).mono ?_);rintro e wa ⟨r1,rfl,aJ,b⟩;obtain⟨ax,mx,cx,rfl⟩:=aJ.z.form;have aC:=b.d ab;have bV:=b.d ac)|(refine⟨trivial,?_⟩;gi_at_call 146;(with_reducible refine(CallsIn.inRound l (callsIn_wide.2 (Sz _ _ _ nb kk ?_ ?_ be.o bg.o))).mono ?_);(refine f.ext ?_;exact eA);(refine aJ.z.ext ?_;exact eA);rintro e wb ⟨r2,rfl,aK,z⟩;obtain⟨ay,my,cy,rfl⟩:=aK.z.form;have a1:=z.d aC)|(refine⟨trivial,?_⟩;gi_at_call 153;(with_reducible refine(CallsIn.inRound l (callsIn_wide.2 (Zn _ _ _ L' (nb*kk) ?_ ?_))).mono ?_);(refine i.ext ?_;exact eA);(refine aK.z.ext ?_;exact eA);rintro e wz ⟨rfl,ap⟩))
     all_goals gi_wp2
     all_goals gi_meet
     all_goals
      have au:oa wr wz:=by
       have h1:oa wr wa:=(eR wr).drew.trans b;exact(h1.trans z).trans ap
      exact⟨rfl,T.o.ext au,HP.o.ext au oM oM⟩
    case rest =>
     clear T HP ab aq i ac f aV;obtain⟨rfl,Ho,hP⟩:=hcut;have T:=ia Ho;have HP:=ia hP;clear Ho hP;by_cases bs:L'<nb*kk
     ·have aD:=Cr bs;obtain⟨k1,b7⟩:=gX (IntKind.i64.wrap (k-1));have ad:=XB (k-1);rw[b7]at ad;rw[aD]
      gi_wp2
      go_roundw
      case rel=>exact⟨k1,rfl,ad.1,ad.2.1,T.o,HP.o⟩
      case measure =>
       have:=vH ad.2.2 bi.o aP bs;simpa[intOf] using this
     ·have aD:=Ir bs;rw[aD];have ce:nb*kk<=L':=oM;have ch:0<=nb*kk:=Int.mul_nonneg oM ao;have bd:zc (Lm Cc L'):=ia (by rw[<-aa.o];exact Lm.dig bo (by unfold Cc;simp;omega));have bx:zc (Lm Cc (nb*kk)):=ia (bd.o.le ch ce);obtain⟨a8,m8,c8,ab,aq,i⟩:=T.o.rdL;have ac:=T.o.rdB;have f:=hb.ext T.o.1;have aV:=T.o.2.1
      gi_wp2
      gi_cut []from 1000 (nM w (O a' m' c') m (L' + -1*(nb*kk)) ((m:Int)-pre.length-1) os (w.heap.size+1+1+1+1+1+1+1) (w.heap.size+1+1+1+1+1+1+1+1) W)
      case first =>
       gi_region_with (first|(refine⟨trivial,?_⟩;gi_at_call 148;(with_reducible refine(CallsIn.inRound l (callsIn_wide.2 (Yn _ kk ao aF))).mono ?_);rintro e wa ⟨r1,rfl,aJ,b⟩;obtain⟨ax,mx,cx,rfl⟩:=aJ.z.form;have aC:=b.d ab;have bV:=b.d ac)|(refine⟨trivial,?_⟩;gi_at_call 146;(with_reducible refine(CallsIn.inRound l (callsIn_wide.2 (Sz _ _ _ nb kk ?_ ?_ be.o bg.o))).mono ?_);(refine f.ext ?_;exact eA);(refine aJ.z.ext ?_;exact eA);rintro e wb ⟨r2,rfl,aK,z⟩;obtain⟨ay,my,cy,rfl⟩:=aK.z.form;have a1:=z.d aC)|(refine⟨trivial,?_⟩;gi_at_call 147;(with_reducible refine(CallsIn.inRound l (callsIn_wide.2 (Uo _ _ _ L' (nb*kk) (-1) ?_ ?_ bd.o bx.o oM oM))).mono ?_);(refine i.ext ?_;exact eA);(refine aK.z.ext ?_;exact eA);rintro e wz ⟨r3,rfl,⟨cW,d3,rfl,aG,aE,bt⟩,ap⟩;obtain⟨az,cz,rfl⟩:=aG.form;have au:oa wc wz:=(((eR wc).drew.trans b).trans z).trans ap;obtain⟨_,_,_,cF,cL,_⟩:=(T.o.ext au).rdL))
       all_goals gi_wp2
       all_goals gi_meet
       all_goals
        have cT:=b.size;have cU:=z.size;have du:=ap.size;exact⟨(T.o.ext au).left (aG.mono (by simp only[World.size_drew]at *;omega)) aE bt,(HP.o.ext au oM oM).set dO dO _⟩
      case rest =>
       clear T HP ab aq i ac f aV bg bx;obtain⟨bD,bP⟩:=hcut;have bK:=yF bc.o bu (Int.emod_lt_of_pos (hv pre) ai)
       gi_wp2
       gi_loopw [9] (jM w (O a' m' c') m L' nb ((m:Int)-pre.length-1) os (w.heap.size+1+1+1+1+1+1+1) (w.heap.size+1+1+1+1+1+1+1+1) W) (fun t9 _=>(L'/nb-intOf t9%18446744073709551616).toNat)
       case atStart=>exact⟨k,L' + -1*(nb*kk),rfl,b6,b8,by omega,by rw[<-bi.o];omega,bD,bP⟩
       case round =>
        clear bD bP b6 b8 b9 bi;obtain⟨k',L2,rfl,cP,cQ,bJ,bL,Ho,hP⟩:=hrel;obtain⟨aA,mA,cA,ab,aq,i⟩:=Ho.rdL;have ac:=Ho.rdB;have f:=hb.ext Ho.1;have aV:=Ho.2.1;have cg:0<=k'%18446744073709551616:=oM;have cO:0<=nb*(k'%18446744073709551616):=Int.mul_nonneg oM cg;have bf:=ia bL;have cn:zc (Lm Cc L2):=ia (bd.o.le bJ oM);have T:=ia Ho;have HP:=ia hP;clear Ho hP bL cO;by_cases aS:nb<=L2
        ·have bY:=ZD aS;have ck:=vE ai cg bf.o aS bK;obtain⟨k3,cN⟩:=gX (IntKind.i64.wrap (k'+1));have ad:=XB (k'+1);rw[cN]at ad;have ba:k3%18446744073709551616=k'%18446744073709551616+1:=oM;have bB:=ia ad;have aZ:=ia ba;have cr:=ia ck;clear ad ba ck
         gi_wp2_with(first|(refine⟨trivial,?_⟩;gi_at_call 153;(with_reducible refine(CallsIn.inRound l (callsIn_wide.2 (Zn _ _ _ _ _ i f))).mono ?_);rintro e w6 ⟨rfl,v⟩;obtain⟨aB,mB,cB,a1,c0,bH⟩:=(T.o.ext v).rdL;have cX:=(T.o.ext v).rdB;have bF:=f.ext v)|(refine⟨trivial,?_⟩;gi_at_call 147;(with_reducible refine(CallsIn.inRound l (callsIn_wide.2 (Uo _ _ _ L2 nb (-1) bH bF cn.o be.o oM oM))).mono ?_);rintro e w7 ⟨r3,rfl,⟨cW,d3,rfl,aG,aE,bt⟩,aW⟩;obtain⟨az,cz,rfl⟩:=aG.form;obtain⟨_,_,_,cF,cL,_⟩:=((T.o.ext v).ext aW).rdL))
         go_roundw
         case rel =>
          have cT:=v.size;have cU:=aW.size;refine⟨k3,L2 + -1*nb,rfl,bB.o.1,bB.o.2.1,by omega,?_,((T.o.ext v).ext aW).left (aG.mono oM) aE bt,(((HP.o.ext v oM oM).ext aW oM oM)).set dO dO _⟩;rw[aZ.o,Int.mul_add,<-bf.o];omega
         case measure =>
          have h5:=aZ.o;have h6:=cr.o.1;simp only[intOf];omega
        ·have bY:=VG aS;have a9:=CF ai bf.o bJ aS bK cP cQ;obtain⟨j,hj⟩:∃j:Nat,(m:Int)-pre.length-1=j/\j=m-(pre.length+1):=⟨m-(pre.length+1),by omega,rfl⟩;have dr:j<m:=oM;have aY:=ia a9;have Hj:=ia hj;clear a9 hj
         gi_wp2_with(refine⟨trivial,?_⟩;gi_at_call 153;(with_reducible refine(CallsIn.inRound l (callsIn_wide.2 (Zn _ _ _ _ _ i f))).mono ?_);rintro e w6 ⟨rfl,v⟩;have af:=T.o.ext v;rw[Hj.o.1]at af;have dh:=af.rdI.1;have di:=af.rdO;have dj:=af.2.2.2.2.2.2.2.cell (aO.o j (by have:=Hj.o.2;omega));have dp:=af.2.2.2.2.2.2.2.frozen j;have co:=ia af;clear af)
         have bN:=(HP.o.ext v oM oM).set (p:=⟨w.heap.size+1+1+1+1,j,Z⟩) dO dO (E F k');have hI:Jn w (O a' m' c') nb m (pre++[x]) (w6.setCell ⟨w.heap.size+1+1+1+1,j,Z⟩ (E F k')):=by
          refine Jn.next (os:=os) ?_ ci bk.o ar an.o aO.o ai;rw[bc.o,<-aY.o.1,<-aY.o.2,Hj.o.1,<-Hj.o.2];exact co.o.o j k'
         refine⟨?_,bN.2,hI⟩;have:=bN.1;simpa using this
 case done =>
  rintro D ys W hD rfl ⟨h1,os,aj,aH,ar,ae,aU⟩ hK;obtain⟨g1,g2,g3,g4,⟨sl,dl,g5,g6,g7,g8⟩,g9,ct,cu⟩:=aj;obtain⟨a5,c5,rfl⟩:=g6.form;have dd:=cell_of_one g4;have dk:=free_of_one g4;have bU:=cell_of_one g5;have b5:=free_of_one g5;have de:=cell_of_one g9;have db:w.heap.size<=D:=by simp at hD;omega
  have bk:=ia aH;have H4:=ia g4;have H5:=ia g5;have H8:=ia g8;have an:=ia ae;have cj:0<=dv B os:=(ik Yh ar).1;have cd:os.length<=1000000000:=oM;clear aH g3 g4 g5 g8 g9 ct ae aU ak bn h1
  gi_wp2
  gi_region_with (first|(refine⟨trivial,?_⟩;gi_at_call 190;(with_reducible refine(callsIn_wide.2 (Xu (w.heap.size+1+1+1+1) _ os _ (zj cu) ?_ cd ?_ cj)).mono ?_);(simp only[World.size_drew];omega);(intro x hx;have:=ar x hx;unfold B at this;omega);rintro e w3 ⟨v',zs,rfl,aX,al,t,aQ,cH,cb,-⟩;obtain⟨cY,c1⟩:=jm aQ;obtain⟨a4,c4,rfl⟩:=t.form;have bE:=ia al;clear al;have cw:w3.heap[D]?=V (.deferred (V [])):=cH D _ hK (fun _ _ e=>by cases e)))
  all_goals gi_wp2
  all_goals
   have bI:((w3.setCell ⟨w.heap.size+1+1,0,Z⟩ (O a4 zs.length c4)).setCell ⟨w.heap.size+1+1+1,0,Z⟩ (O a5 dl.length c5)).heap[D]?=V (.deferred (V [])):=by
    rw[bS _ _ _ _ (by simp at hD;dsimp only;omega),bS _ _ _ _ (by simp at hD;dsimp only;omega)];exact cw
   refine⟨by simp,.inl ⟨_,_,rfl,run_takeDeferred bI,?_⟩⟩;have cv:w.heap.size+1+1+1+1+1+1+1+1<=D:=by simpa using hD
   have q2:w3.heap[w.heap.size+1+1]?=V (N #[O Z 0 0] 39 (0,0)):=(aQ.block _ oM).trans H4.o;have q3:w3.heap[w.heap.size+1+1+1]?=V (N #[O a5 dl.length c5] 39 (0,0)):=(aQ.block _ oM).trans H5.o;have o5:Kb 2 w3 (w.heap.size+1+1+1+1+1+1+1+1) (O a5 dl.length c5) dl:=Kb.stay (zj g6) (fun g o hg hh=>cb ar g o hh (by simp[Value.ownBlock];omega));have cV:oa w w3:=(g1.drew).E aQ oM;refine VJ ?_ ?_ q2 q3 t o5 aX g7 (uH bE.o an.o Hv.o (by have:=Hl.o;simpa[Kf] using this)) (tH H8.o Hv.o) cV bI cv<;>rfl
 case stop =>
  rintro D c pre W _ _ h _;exact h.elim
end
section
open Go.RowKit Go.Shelf
def Zf(w:Y)(p:Q):w.drew.cell? p=w.cell? p:=rfl
def Yf(w:Y)(p:Q):w.drew.frozen? p=w.frozen? p:=rfl
def Tb(w:Y):w.drew.heap.size=w.heap.size:=rfl
def oa.lt{a b:Y}(h:oa a b){n:Nat}(c:n<a.heap.size):n<b.heap.size:=Nat.lt_of_lt_of_le c h.size
def Jf(w:Y){a c:Y}{A:Prop}(h:oa a c)(d:w.heap.size<a.heap.size:=by go_simp)(e:((∀b o,b<a.heap.size->c.cell? ⟨b,o,Z⟩=a.cell? ⟨b,o,Z⟩)/\(∀b o,b<a.heap.size->c.frozen? ⟨b,o,Z⟩=a.frozen? ⟨b,o,Z⟩))->A:=by(intro h;(try simp only[Zf,Yf,Tb]at h);exact h)):A/\w.heap.size<c.heap.size:=⟨e h.cells,h.lt d⟩
def Oi(w:Y){a c:Y}{A:Prop}(h:oa a c)(d:w.heap.size+1<a.heap.size:=by go_simp)(e:((∀b o,b<a.heap.size->c.cell? ⟨b,o,Z⟩=a.cell? ⟨b,o,Z⟩)/\(∀b o,b<a.heap.size->c.frozen? ⟨b,o,Z⟩=a.frozen? ⟨b,o,Z⟩))->A:=by(intro h;(try simp only[Zf,Yf,Tb]at h);exact h)):A/\w.heap.size<c.heap.size/\w.heap.size+1<c.heap.size:=⟨e h.cells,h.lt oM,h.lt d⟩
def oc(w:Y){a c:Y}{A:Prop}(h:oa a c)(d:w.heap.size+1+1<a.heap.size:=by go_simp)(e:((∀b o,b<a.heap.size->c.cell? ⟨b,o,Z⟩=a.cell? ⟨b,o,Z⟩)/\(∀b o,b<a.heap.size->c.frozen? ⟨b,o,Z⟩=a.frozen? ⟨b,o,Z⟩))->A:=by(intro h;(try simp only[Zf,Yf,Tb]at h);exact h)):A/\w.heap.size<c.heap.size/\w.heap.size+1<c.heap.size/\w.heap.size+1+1<c.heap.size:=⟨e h.cells,h.lt oM,h.lt oM,h.lt d⟩
def Up(w:Y){a c:Y}{A:Prop}(h:oa a c)(d:w.heap.size+1+1+1<a.heap.size:=by go_simp)(e:((∀b o,b<a.heap.size->c.cell? ⟨b,o,Z⟩=a.cell? ⟨b,o,Z⟩)/\(∀b o,b<a.heap.size->c.frozen? ⟨b,o,Z⟩=a.frozen? ⟨b,o,Z⟩))->A:=by(intro h;(try simp only[Zf,Yf,Tb]at h);exact h)):A/\w.heap.size<c.heap.size/\w.heap.size+1<c.heap.size/\w.heap.size+1+1<c.heap.size/\w.heap.size+1+1+1<c.heap.size:=⟨e h.cells,h.lt oM,h.lt oM,h.lt oM,h.lt d⟩
def Wc(T:TypeId)(w:Y)(b:Nat):Prop:=∀cs fr,w.heap[b]?≠V (N cs T fr)
def Wc.new{T T':TypeId}{w:Y}{b:Nat}{cs:Array I}{c:Nat×Nat}(g:b=w.heap.size)(f:T'≠T):Wc T (w.alloc (N cs T' c)) b:=by intro a d e;rw[Kc _ _ _ g]at e;cases e;exact f rfl
def Wc.old{T:TypeId}{w:Y}{b:Nat}{o:Obj}(h:Wc T w b)(d:b≠w.heap.size):Wc T (w.alloc o) b:=by intro a c e;rw[Ef,if_neg d]at e;exact h a c e
def Wc.ext{T:TypeId}{w w':Y}{b:Nat}(h:Wc T w b)(k:oa w w')(d:b<w.heap.size):Wc T w' b:=by intro a c e;rw[k.block d]at e;exact h a c e
def Wc.drew{T:TypeId}{w:Y}{b:Nat}(h:Wc T w b):Wc T w.drew b:=h
def Wc.drewN{T:TypeId}{w:Y}{b:Nat}(h:Wc T w b)(n:Nat):Wc T (w.drewN n) b:=by intro a c e;exact h a c (by simpa[World.drewN] using e)
def Wc.set{T:TypeId}{w:Y}{b:Nat}(h:Wc T w b)(p:Q)(u:I):Wc T (w.setCell p u) b:=by
 intro c f e;by_cases a:b=p.block
 ·subst a;simp only[World.setCell,Array.getElem?_modify,if_pos]at e;cases hw:w.heap[p.block]? with
  | none=>rw[hw]at e;cases e
  | some o =>
   rw[hw]at e;cases o with
   | cells d T' g =>
    simp only[Option.map_some,Option.some.injEq,Obj.cells.injEq]at e;obtain⟨_,rfl,_⟩:=e;exact h _ _ hw
   | _=>simp at e
 ·rw[bS _ _ _ _ a]at e;exact h c f e
def Fa.D{T:TypeId}{a b:Y}(h:Fa T a b){p:Q}(f:Wc T b p.block)(u:I):Fa T a (b.setCell p u):=fun x d e g=>by
 have c:=h x d e g;rw[bS _ _ _ _ (by rintro rfl;exact f _ _ c)];exact c
def Wc.ext2{T:TypeId}{w w':Y}{b:Nat}(a:b<w.heap.size)(k:oa w w')(h:Wc T w b):Wc T w' b:=h.ext k a
def Wc.old2{T:TypeId}{w:Y}{b:Nat}{o:Obj}(a:b≠w.heap.size)(h:Wc T w b):Wc T (w.alloc o) b:=h.old a
def Fa.setN2{T:TypeId}{a b:Y}{p:Q}(c:Wc T b p.block)(h:Fa T a b)(u:I):Fa T a (b.setCell p u):=h.D c u
def nA{T:TypeId}{w:Y}{b:Nat}(h:Wc T w b:=by(repeat(first|with_reducible assumption|with_reducible refine Wc.set ?_ _ _|with_reducible refine Wc.drew ?_|with_reducible refine Wc.drewN ?_ _|(refine Wc.new ?_ ?_;(focus(first|omega|((try dsimp only);(try simp only[wZ,Tb,sf]);(try omega);done)));(focus decide))|(refine Wc.old2 ?_ ?_;(focus(first|omega|((try dsimp only);(try simp only[wZ,Tb,sf]);(try omega);done))))|(refine Wc.ext2 ?_ (by with_reducible assumption) ?_;(focus(first|omega|((try dsimp only);(try simp only[wZ,Tb,sf]);(try omega);done))))))):Wc T w b:=h
def kA{T:TypeId}{w a:Y}(h:Fa T w a:=by repeat(first|with_reducible exact Fa.refl _ _|(refine oa.keep ?_;(focus((with_reducible repeat(first|assumption|exact eR _|refine eX ?_|refine eT ?_|refine eS ?_));done)))|with_reducible refine Fa.alloc ?_ _|(with_reducible refine Fa.setN2 ?_ ?_ _;(focus(((repeat(first|with_reducible assumption|with_reducible refine Wc.set ?_ _ _|with_reducible refine Wc.drew ?_|with_reducible refine Wc.drewN ?_ _|(refine Wc.new ?_ ?_;(focus(first|omega|((try dsimp only);(try simp only[wZ,Tb,sf]);(try omega);done)));(focus decide))|(refine Wc.old2 ?_ ?_;(focus(first|omega|((try dsimp only);(try simp only[wZ,Tb,sf]);(try omega);done))))|(refine Wc.ext2 ?_ (by with_reducible assumption) ?_;(focus(first|omega|((try dsimp only);(try simp only[wZ,Tb,sf]);(try omega);done)))))));done))))):Fa T w a:=h
def Nc(w:Y)(v:I)(n:Int):Prop:=∃a m c s,v=X #[O a m c,J s]/\s=decide (n<0)/\Tc w (X #[O a m c]) (n.natAbs:Int)
def Nc.ext{w w':Y}{v:I}{n:Int}(h:Nc w v n)(k:oa w w'):Nc w' v n:=by obtain⟨a,m,c,s,rfl,b,d⟩:=h;exact⟨a,m,c,s,rfl,b,d.ext k⟩
def Nc.keep{w w':Y}{v:I}{n:Int}(h:Nc w v n)(k:Fa 2 w w'):Nc w' v n:=by obtain⟨a,m,c,s,rfl,b,d⟩:=h;exact⟨a,m,c,s,rfl,b,d.keep k⟩
def Nc.form{w:Y}{v:I}{n:Int}(h:Nc w v n):∃a m c s,v=X #[O a m c,J s]:=by obtain⟨a,m,c,s,rfl,b,d⟩:=h;exact⟨a,m,c,s,rfl⟩
def Nc.sgn{w:Y}{a:Option Q}{m c:Nat}{s:Bool}{n:Int}(h:Nc w (X #[O a m c,J s]) n):s=decide (n<0):=by obtain⟨a,m,c,s,e,b,d⟩:=h;cases e;exact b
def Nc.dig{w:Y}{a:Option Q}{m c:Nat}{s:Bool}{n:Int}(h:Nc w (X #[O a m c,J s]) n):Tc w (X #[O a m c]) (n.natAbs:Int):=by obtain⟨a,m,c,s,e,d,b⟩:=h;cases e;exact b
def Lm.abs{k:Nat}{n:Int}(h:Lm k n):Lm k (n.natAbs:Int):=by unfold Lm at *;omega
def Lm.neg{k:Nat}{n:Int}(h:Lm k n):Lm k (-n):=by unfold Lm at *;omega
def sg(s:Bool)(n:Int):Int:=if s then -n else n
def Nc.mk{w:Y}{a:Option Q}{m c:Nat}{n:Int}(b:Bool)(h:Tc w (X #[O a m c]) n):Nc w (X #[O a m c,J (b&&!(n==0))]) (sg b n):=by
 have d:=h.nonneg;refine⟨a,m,c,_,rfl,?_,?_⟩
 ·rw[Bool.eq_iff_iff];cases b<;>simp[sg]<;>omega
 ·have:((sg b n).natAbs:Int)=n:=by cases b<;>simp[sg]<;>omega
  rw[this];exact h
def Nc.nil(w:Y):Nc w (X #[O Z 0 0,J false]) 0:=⟨_,_,_,_,rfl,rfl,_,[],rfl,Uc.nil _ _,Wg.nil _,rfl⟩
def Uf(w:Y)(n:Int)(e:Ending)(w':Y):Prop:=∃r,e=.returned r/\Nc w' r n/\oa w w'/\Dr w w'
def qi(w:Y)(n:Int)(e:Ending)(w':Y):Prop:=∃r,e=.returned r/\Nc w' r n/\oa w w'
def ql(w:Y)(d:Bool)(v:I)(n:Int)(h:Tc w v n):Calls Tryz.prog 145 #[J d,v] w (Uf w (sg d n)):=by
 obtain⟨a,m,c,rfl⟩:=h.form;cases d
 ·go_in;go_wp2
  go_region_with (fail)
  all_goals go_wp2
  all_goals exact bR (v:=X #[O a m c,J (false&&!(n==0))]) (by simp[results,Tryz.results145,go_sem]) rfl ⟨_,rfl,Nc.mk false (h.ext eA),eA,dA⟩
 ·go_in;go_wp2;go_region_held3 (fun W=>W.cell? ⟨w.heap.size,0,Z⟩=V (O a m c)) ((repeat' (with_reducible refine And.intro ?_ ?_))<;>(first|(go_simp;done)|(refine hx1.d ?_;go_simp;done))) ((go_at_call 97;(with_reducible refine(Fo _ (X #[O a m c]) n ?_).mono ?_);(refine h.ext ?_;exact eA);rintro e i ⟨rfl,hx1,f⟩;obtain⟨b,g⟩:=hx1.cells))
  all_goals go_wp2
  exact bR (v:=X #[O a m c,J (true&&!(n==0))]) (by simp[results,Tryz.results145,go_sem,b]) rfl ⟨_,rfl,Nc.mk true (h.ext eA),eA,dA⟩
def Ck{f:FuncId}{args:Array I}{w:Y}{n:Int}(h:Calls Tryz.prog f args w (Uf w n)):Calls Tryz.prog f args w (qi w n):=Us h
def Wo(w:Y)(a:Bool)(v:I)(n:Int)(h:Tc w v n):Calls Tryz.prog 145 #[J a,v] w (qi w (sg a n)):=Ck (ql w a v n h)
def BD{n:Int}{s:Bool}(h:s=decide (n<0)):sg (!s) (n.natAbs:Int) = -n:=by subst h;by_cases h:n<0<;>simp[sg,h]<;>omega
def Iv(w:Y)(v:I)(n:Int)(h:Nc w v n):Calls Tryz.prog 151 #[v] w (Uf w (-n)):=by obtain⟨a,m,c,s,rfl⟩:=h.form;go_in;go_wp2_with((go_at_call 145;(with_reducible refine(ql _ (!s) (X #[O a m c]) n.natAbs ?_).mono ?_);(refine h.dig.ext ?_;exact eA);rintro e q ⟨p,rfl,b,f,j⟩;obtain⟨g,l,i,o,rfl⟩:=b.form;obtain⟨d,k⟩:=f.cells));refine bR (v:=X #[O g l i,J o]) (by simp[results,Tryz.results151,go_sem,d]) rfl ⟨_,rfl,?_,eA,dA⟩;rw[<-BD h.sgn];exact b.keep kA
def ir(w:Y)(v:I)(n:Int)(h:Nc w v n):Calls Tryz.prog 151 #[v] w (qi w (-n)):=Ck (Iv w v n h)
def sw(w:Y)(v:I)(n:Int)(h:Nc w v n):Calls Tryz.prog 69 #[v] w fun e j=>e=.returned (E F n.sign)/\oa w j/\Dr w j:=by
 obtain⟨a,m,c,s,rfl⟩:=h.form;have k:=h.sgn;have q:=h.dig;have d:n=0->Calls Tryz.prog 69 #[X #[O a m c,J s]] w fun e j=>e=.returned (E F n.sign)/\oa w j/\Dr w j:=by
  intro g;have r:((n.natAbs:Int)==0)=true:=by simp;omega
  obtain rfl:s=false:=by rw[k];simp;omega
  have e:n.sign=0:=by first|(subst g;rfl)|exact Int.sign_eq_neg_one_of_neg g|exact Int.sign_eq_one_of_pos g
  rw[e];clear e g k;go_in;go_wp2_with((go_at_call 97;(with_reducible refine(Fo _ (X #[O a m c]) n.natAbs ?_).mono ?_);(refine q.ext ?_;exact eA);rintro e t ⟨rfl,i,o⟩;obtain⟨l,p⟩:=i.cells));go_ret;exact⟨rfl,eA,dA⟩
 have f:n<0->Calls Tryz.prog 69 #[X #[O a m c,J s]] w fun e j=>e=.returned (E F n.sign)/\oa w j/\Dr w j:=by
  intro g;have r:((n.natAbs:Int)==0)=false:=by simp;omega
  obtain rfl:s=true:=by rw[k];simp;omega
  have e:n.sign = -1:=by first|(subst g;rfl)|exact Int.sign_eq_neg_one_of_neg g|exact Int.sign_eq_one_of_pos g
  rw[e];clear e g k;go_in;go_wp2_with((go_at_call 97;(with_reducible refine(Fo _ (X #[O a m c]) n.natAbs ?_).mono ?_);(refine q.ext ?_;exact eA);rintro e t ⟨rfl,i,o⟩;obtain⟨l,p⟩:=i.cells));go_ret;exact⟨rfl,eA,dA⟩
 have b:0<n->Calls Tryz.prog 69 #[X #[O a m c,J s]] w fun e j=>e=.returned (E F n.sign)/\oa w j/\Dr w j:=by
  intro g;have r:((n.natAbs:Int)==0)=false:=by simp;omega
  obtain rfl:s=false:=by rw[k];simp;omega
  have e:n.sign=1:=by first|(subst g;rfl)|exact Int.sign_eq_neg_one_of_neg g|exact Int.sign_eq_one_of_pos g
  rw[e];clear e g k;go_in;go_wp2_with((go_at_call 97;(with_reducible refine(Fo _ (X #[O a m c]) n.natAbs ?_).mono ?_);(refine q.ext ?_;exact eA);rintro e t ⟨rfl,i,o⟩;obtain⟨l,p⟩:=i.cells));go_ret;exact⟨rfl,eA,dA⟩
 rcases Int.lt_trichotomy n 0 with g|g|g
 ·exact f g
 ·exact d g
 ·exact b g
def lG(w:Y)(v:I)(n:Int)(h:Nc w v n):Calls Tryz.prog 69 #[v] w fun e a=>e=.returned (E F n.sign)/\oa w a:=Do (sw w v n h)
def uD(n:Int)(a:-9223372036854775808<=n)(b:n<0):IntKind.u64.wrap (-(IntKind.u64.wrap n)) = -n:=by simp[IntKind.wrap,IntKind.signed,IntKind.bits];omega
def kD(n:Int)(a:n<=9223372036854775807)(b:0<=n):IntKind.u64.wrap n=n:=by simp[IntKind.wrap,IntKind.signed,IntKind.bits];omega
def Po(w:Y)(n:Int)(u:-9223372036854775808<=n)(x:n<=9223372036854775807):Calls Tryz.prog 74 #[E F n] w (qi w n):=by
 by_cases y:n<0
 ·have z:=uD n u y;go_in;go_wp2_with(first|(go_at_call 148;(with_reducible refine(Yn _ (-n) oM oM).mono ?_);rintro e R ⟨K,rfl,a,i⟩;obtain⟨k,r,m,rfl⟩:=a.z.form;obtain⟨⟨f,p⟩,c⟩:=Jf w i)|(go_at_call 145;(with_reducible refine(Wo _ true (X #[O k r m]) (-n) a.z).mono ?_);rintro e T ⟨P,rfl,b,j⟩;obtain⟨l,s,o,t,rfl⟩:=b.form;obtain⟨⟨g,q⟩,d⟩:=Jf w j));refine bR (v:=X #[O l s o,J t]) (by simp[results,Tryz.results74,go_sem,f,g,c,d]) rfl ⟨_,rfl,?_,eA⟩;have e:n=sg true (-n):=by simp[sg]
  rw[e];exact b.keep kA
 ·have z:=kD n x oM;go_in;go_wp2_with(first|(go_at_call 148;(with_reducible refine(Yn _ n oM oM).mono ?_);rintro e R ⟨K,rfl,a,i⟩;obtain⟨k,r,m,rfl⟩:=a.z.form;obtain⟨⟨f,p⟩,c⟩:=Jf w i)|(go_at_call 145;(with_reducible refine(Wo _ false (X #[O k r m]) n a.z).mono ?_);rintro e T ⟨P,rfl,b,j⟩;obtain⟨l,s,o,t,rfl⟩:=b.form;obtain⟨⟨g,q⟩,d⟩:=Jf w j));exact bR (v:=X #[O l s o,J t]) (by simp[results,Tryz.results74,go_sem,f,g,c,d]) rfl ⟨_,rfl,b.keep kA,eA⟩
def jy{x y:Int}{s:Bool}(a:s=decide (x<0))(b:s=decide (y<0)):sg s ((x.natAbs:Int)+1*(y.natAbs:Int))=x+y:=by cases s<;>simp[sg]at *<;>omega
def ly{x y:Int}{s:Bool}(a:(!s)=decide (x<0))(b:s=decide (y<0))(h:(x.natAbs:Int)<y.natAbs):sg s ((y.natAbs:Int) + -1*(x.natAbs:Int))=x+y:=by cases s<;>simp[sg]at *<;>omega
def ky{x y:Int}{s:Bool}(a:s=decide (x<0))(b:(!s)=decide (y<0))(h:¬(x.natAbs:Int)<y.natAbs):sg s ((x.natAbs:Int) + -1*(y.natAbs:Int))=x+y:=by cases s<;>simp[sg]at *<;>omega
def Kv(w:Y)(va vb:I)(x y:Int)(ha:Nc w va x)(hb:Nc w vb y)(ar:Lm Cc x)(au:Lm Cc y):Calls Tryz.prog 76 #[va,vb] w (Uf w (x+y)):=by
 obtain⟨a,m,c,s,rfl⟩:=ha.form;obtain⟨p,r,q,s',rfl⟩:=hb.form;have ad:=ia ha.sgn;have ae:=ia hb.sgn;have n:=ha.dig;have o:=hb.dig;have ab:=ia ar.abs;have ac:=ia au.abs;clear ar au ha hb;have ag:s=true->s'=true->Calls Tryz.prog 76 #[X #[O a m c,J s],X #[O p r q,J s']] w (Uf w (x+y)):=by
  intro h1 h2;subst h1 h2;go_in;go_wp2;go_region_held3 (fun W=>W.cell? ⟨w.heap.size,0,Z⟩=V (O a m c)/\W.cell? ⟨w.heap.size,1,Z⟩=V (J true)/\W.cell? ⟨w.heap.size+1,0,Z⟩=V (O p r q)) ((repeat' (with_reducible refine And.intro ?_ ?_))<;>(first|(go_simp;done)|(refine hx1.d ?_;go_simp;done))) (first|((go_at_call 147;(with_reducible refine(Nl _ (X #[O a m c]) (X #[O p r q]) x.natAbs y.natAbs 1 ?_ ?_ ab.o ac.o oM oM).mono ?_);(refine n.ext ?_;exact eA);(refine o.ext ?_;exact eA);rintro e w1 ⟨r1,rfl,b,hx1,ai⟩;obtain⟨a1,m1,c1,rfl⟩:=b.z.form;obtain⟨⟨i,ak⟩,t,u,f⟩:=oc w hx1))|((go_at_call 145;(with_reducible refine(ql _ true (X #[O a1 m1 c1]) ((x.natAbs:Int)+1*(y.natAbs:Int)) ?_).mono ?_);(refine b.z.ext ?_;exact eA);rintro e w2 ⟨r2,rfl,d,k,aj⟩;obtain⟨a2,m2,c2,s2,rfl⟩:=d.form;obtain⟨⟨j,al⟩,z,K,g⟩:=oc w k)))
  all_goals go_wp2
  refine bR (v:=X #[O a2 m2 c2,J s2]) (by simp[results,Tryz.results76,go_sem,i,j,f,g]) rfl ⟨_,rfl,?_,eA,dA⟩;rw[<-jy ad.o ae.o];exact d.keep kA
 have aa:s=false->s'=false->Calls Tryz.prog 76 #[X #[O a m c,J s],X #[O p r q,J s']] w (Uf w (x+y)):=by
  intro h1 h2;subst h1 h2;go_in;go_wp2;go_region_held3 (fun W=>W.cell? ⟨w.heap.size,0,Z⟩=V (O a m c)/\W.cell? ⟨w.heap.size,1,Z⟩=V (J false)/\W.cell? ⟨w.heap.size+1,0,Z⟩=V (O p r q)) ((repeat' (with_reducible refine And.intro ?_ ?_))<;>(first|(go_simp;done)|(refine hx1.d ?_;go_simp;done))) (first|((go_at_call 147;(with_reducible refine(Nl _ (X #[O a m c]) (X #[O p r q]) x.natAbs y.natAbs 1 ?_ ?_ ab.o ac.o oM oM).mono ?_);(refine n.ext ?_;exact eA);(refine o.ext ?_;exact eA);rintro e w1 ⟨r1,rfl,b,hx1,ai⟩;obtain⟨a1,m1,c1,rfl⟩:=b.z.form;obtain⟨⟨i,ak⟩,t,u,f⟩:=oc w hx1))|((go_at_call 145;(with_reducible refine(ql _ false (X #[O a1 m1 c1]) ((x.natAbs:Int)+1*(y.natAbs:Int)) ?_).mono ?_);(refine b.z.ext ?_;exact eA);rintro e w2 ⟨r2,rfl,d,k,aj⟩;obtain⟨a2,m2,c2,s2,rfl⟩:=d.form;obtain⟨⟨j,al⟩,z,K,g⟩:=oc w k)))
  all_goals go_wp2
  refine bR (v:=X #[O a2 m2 c2,J s2]) (by simp[results,Tryz.results76,go_sem,i,j,f,g]) rfl ⟨_,rfl,?_,eA,dA⟩;rw[<-jy ad.o ae.o];exact d.keep kA
 have af:s=true->s'=false->Calls Tryz.prog 76 #[X #[O a m c,J s],X #[O p r q,J s']] w (Uf w (x+y)):=by
  intro h1 h2;subst h1 h2;by_cases am:(x.natAbs:Int)<y.natAbs
  ·have ah:=Cr am;go_in;go_wp2_with((go_at_call 153;(with_reducible refine(xo _ (X #[O a m c]) (X #[O p r q]) x.natAbs y.natAbs ?_ ?_).mono ?_);(refine n.ext ?_;exact eA);(refine o.ext ?_;exact eA);rintro e w0 ⟨rfl,T,ap⟩;obtain⟨⟨R,aq⟩,an,ao,l⟩:=oc w T));go_region_held3 (fun W=>W.cell? ⟨w.heap.size,0,Z⟩=V (O a m c)/\W.cell? ⟨w.heap.size+1,1,Z⟩=V (J false)/\W.cell? ⟨w.heap.size+1,0,Z⟩=V (O p r q)) ((repeat' (with_reducible refine And.intro ?_ ?_))<;>(first|(go_simp;done)|(refine hx1.d ?_;go_simp;done))) (first|((go_at_call 147;(with_reducible refine(Nl _ (X #[O p r q]) (X #[O a m c]) y.natAbs x.natAbs (-1) ?_ ?_ ac.o ab.o oM oM).mono ?_);(refine o.ext ?_;exact eA);(refine n.ext ?_;exact eA);rintro e w1 ⟨r1,rfl,b,hx1,ai⟩;obtain⟨a1,m1,c1,rfl⟩:=b.z.form;obtain⟨⟨i,ak⟩,t,u,f⟩:=oc w hx1))|((go_at_call 145;(with_reducible refine(ql _ false (X #[O a1 m1 c1]) ((y.natAbs:Int) + -1*(x.natAbs:Int)) ?_).mono ?_);(refine b.z.ext ?_;exact eA);rintro e w2 ⟨r2,rfl,d,k,aj⟩;obtain⟨a2,m2,c2,s2,rfl⟩:=d.form;obtain⟨⟨j,al⟩,z,K,g⟩:=oc w k)))
   all_goals go_wp2
   refine bR (v:=X #[O a2 m2 c2,J s2]) (by simp[results,Tryz.results76,go_sem,R,i,j,l,f,g]) rfl ⟨_,rfl,?_,eA,dA⟩;rw[<-ly (s:=false) ad.o ae.o oM];exact d.keep kA
  ·have ah:=Ir am;go_in;go_wp2_with((go_at_call 153;(with_reducible refine(xo _ (X #[O a m c]) (X #[O p r q]) x.natAbs y.natAbs ?_ ?_).mono ?_);(refine n.ext ?_;exact eA);(refine o.ext ?_;exact eA);rintro e w0 ⟨rfl,T,ap⟩;obtain⟨⟨R,aq⟩,an,ao,l⟩:=oc w T));go_region_held3 (fun W=>W.cell? ⟨w.heap.size,0,Z⟩=V (O a m c)/\W.cell? ⟨w.heap.size,1,Z⟩=V (J true)/\W.cell? ⟨w.heap.size+1,0,Z⟩=V (O p r q)) ((repeat' (with_reducible refine And.intro ?_ ?_))<;>(first|(go_simp;done)|(refine hx1.d ?_;go_simp;done))) (first|((go_at_call 147;(with_reducible refine(Nl _ (X #[O a m c]) (X #[O p r q]) x.natAbs y.natAbs (-1) ?_ ?_ ab.o ac.o oM oM).mono ?_);(refine n.ext ?_;exact eA);(refine o.ext ?_;exact eA);rintro e w1 ⟨r1,rfl,b,hx1,ai⟩;obtain⟨a1,m1,c1,rfl⟩:=b.z.form;obtain⟨⟨i,ak⟩,t,u,f⟩:=oc w hx1))|((go_at_call 145;(with_reducible refine(ql _ true (X #[O a1 m1 c1]) ((x.natAbs:Int) + -1*(y.natAbs:Int)) ?_).mono ?_);(refine b.z.ext ?_;exact eA);rintro e w2 ⟨r2,rfl,d,k,aj⟩;obtain⟨a2,m2,c2,s2,rfl⟩:=d.form;obtain⟨⟨j,al⟩,z,K,g⟩:=oc w k)))
   all_goals go_wp2
   refine bR (v:=X #[O a2 m2 c2,J s2]) (by simp[results,Tryz.results76,go_sem,R,i,j,l,f,g]) rfl ⟨_,rfl,?_,eA,dA⟩;rw[<-ky (s:=true) ad.o ae.o oM];exact d.keep kA
 have P:s=false->s'=true->Calls Tryz.prog 76 #[X #[O a m c,J s],X #[O p r q,J s']] w (Uf w (x+y)):=by
  intro h1 h2;subst h1 h2;by_cases am:(x.natAbs:Int)<y.natAbs
  ·have ah:=Cr am;go_in;go_wp2_with((go_at_call 153;(with_reducible refine(xo _ (X #[O a m c]) (X #[O p r q]) x.natAbs y.natAbs ?_ ?_).mono ?_);(refine n.ext ?_;exact eA);(refine o.ext ?_;exact eA);rintro e w0 ⟨rfl,T,ap⟩;obtain⟨⟨R,aq⟩,an,ao,l⟩:=oc w T));go_region_held3 (fun W=>W.cell? ⟨w.heap.size,0,Z⟩=V (O a m c)/\W.cell? ⟨w.heap.size+1,1,Z⟩=V (J true)/\W.cell? ⟨w.heap.size+1,0,Z⟩=V (O p r q)) ((repeat' (with_reducible refine And.intro ?_ ?_))<;>(first|(go_simp;done)|(refine hx1.d ?_;go_simp;done))) (first|((go_at_call 147;(with_reducible refine(Nl _ (X #[O p r q]) (X #[O a m c]) y.natAbs x.natAbs (-1) ?_ ?_ ac.o ab.o oM oM).mono ?_);(refine o.ext ?_;exact eA);(refine n.ext ?_;exact eA);rintro e w1 ⟨r1,rfl,b,hx1,ai⟩;obtain⟨a1,m1,c1,rfl⟩:=b.z.form;obtain⟨⟨i,ak⟩,t,u,f⟩:=oc w hx1))|((go_at_call 145;(with_reducible refine(ql _ true (X #[O a1 m1 c1]) ((y.natAbs:Int) + -1*(x.natAbs:Int)) ?_).mono ?_);(refine b.z.ext ?_;exact eA);rintro e w2 ⟨r2,rfl,d,k,aj⟩;obtain⟨a2,m2,c2,s2,rfl⟩:=d.form;obtain⟨⟨j,al⟩,z,K,g⟩:=oc w k)))
   all_goals go_wp2
   refine bR (v:=X #[O a2 m2 c2,J s2]) (by simp[results,Tryz.results76,go_sem,R,i,j,l,f,g]) rfl ⟨_,rfl,?_,eA,dA⟩;rw[<-ly (s:=true) ad.o ae.o oM];exact d.keep kA
  ·have ah:=Ir am;go_in;go_wp2_with((go_at_call 153;(with_reducible refine(xo _ (X #[O a m c]) (X #[O p r q]) x.natAbs y.natAbs ?_ ?_).mono ?_);(refine n.ext ?_;exact eA);(refine o.ext ?_;exact eA);rintro e w0 ⟨rfl,T,ap⟩;obtain⟨⟨R,aq⟩,an,ao,l⟩:=oc w T));go_region_held3 (fun W=>W.cell? ⟨w.heap.size,0,Z⟩=V (O a m c)/\W.cell? ⟨w.heap.size,1,Z⟩=V (J false)/\W.cell? ⟨w.heap.size+1,0,Z⟩=V (O p r q)) ((repeat' (with_reducible refine And.intro ?_ ?_))<;>(first|(go_simp;done)|(refine hx1.d ?_;go_simp;done))) (first|((go_at_call 147;(with_reducible refine(Nl _ (X #[O a m c]) (X #[O p r q]) x.natAbs y.natAbs (-1) ?_ ?_ ab.o ac.o oM oM).mono ?_);(refine n.ext ?_;exact eA);(refine o.ext ?_;exact eA);rintro e w1 ⟨r1,rfl,b,hx1,ai⟩;obtain⟨a1,m1,c1,rfl⟩:=b.z.form;obtain⟨⟨i,ak⟩,t,u,f⟩:=oc w hx1))|((go_at_call 145;(with_reducible refine(ql _ false (X #[O a1 m1 c1]) ((x.natAbs:Int) + -1*(y.natAbs:Int)) ?_).mono ?_);(refine b.z.ext ?_;exact eA);rintro e w2 ⟨r2,rfl,d,k,aj⟩;obtain⟨a2,m2,c2,s2,rfl⟩:=d.form;obtain⟨⟨j,al⟩,z,K,g⟩:=oc w k)))
   all_goals go_wp2
   refine bR (v:=X #[O a2 m2 c2,J s2]) (by simp[results,Tryz.results76,go_sem,R,i,j,l,f,g]) rfl ⟨_,rfl,?_,eA,dA⟩;rw[<-ky (s:=false) ad.o ae.o oM];exact d.keep kA
 cases s<;>cases s'
 ·exact aa rfl rfl
 ·exact P rfl rfl
 ·exact af rfl rfl
 ·exact ag rfl rfl
def OF(w:Y)(c d:I)(x y:Int)(e:Nc w c x)(f:Nc w d y)(a:Lm Cc x)(b:Lm Cc y):Calls Tryz.prog 76 #[c,d] w (qi w (x+y)):=Ck (Kv w c d x y e f a b)
def tD(w:Y)(P R:I)(x y:Int)(t:Nc w P x)(u:Nc w R y)(b:Lm Cc x)(d:Lm Cc y):Calls Tryz.prog 149 #[P,R] w (Uf w (x-y)):=by
 obtain⟨a,m,c,s,rfl⟩:=t.form;obtain⟨q,z,r,K,rfl⟩:=u.form;have k:=ia b;have l:=ia d.neg;clear b d;go_in;go_wp2;go_region_held3 (fun W=>W.cell? ⟨w.heap.size,0,Z⟩=V (O a m c)/\W.cell? ⟨w.heap.size,1,Z⟩=V (J s)/\W.cell? ⟨w.heap.size+1,0,Z⟩=V (O q z r)/\W.cell? ⟨w.heap.size+1,1,Z⟩=V (J K)) ((repeat' (with_reducible refine And.intro ?_ ?_))<;>(first|(go_simp;done)|(refine hx1.d ?_;go_simp;done))) (first|((go_at_call 151;(with_reducible refine(Iv _ (X #[O q z r,J K]) y ?_).mono ?_);(refine u.ext ?_;exact eA);rintro e w1 ⟨r1,rfl,f,hx1,ad⟩;obtain⟨a1,m1,c1,s1,rfl⟩:=f.form;obtain⟨⟨n,af⟩,T,aa,i⟩:=oc w hx1))|((go_at_call 76;(with_reducible refine(Kv _ (X #[O a m c,J s]) (X #[O a1 m1 c1,J s1]) x (-y) ?_ ?_ k.o l.o).mono ?_);(refine t.ext ?_;exact eA);(refine f.ext ?_;exact eA);rintro e w2 ⟨r2,rfl,g,p,ae⟩;obtain⟨a2,m2,c2,s2,rfl⟩:=g.form;obtain⟨⟨o,ag⟩,ab,ac,j⟩:=oc w p)))
 all_goals go_wp2
 exact bR (v:=X #[O a2 m2 c2,J s2]) (by simp[results,Tryz.results149,go_sem,n,o,i,j]) rfl ⟨_,rfl,g.keep kA,eA,dA⟩
def DE{x y:Int}{s t:Bool}(a:s=decide (x<0))(b:t=decide (y<0)):sg (!(s==t)) ((x.natAbs:Int)*(y.natAbs:Int))=x*y:=by
 rw[<-Int.natCast_mul,<-Int.natAbs_mul];subst a b;rcases Int.lt_trichotomy x 0 with h|rfl|h<;>rcases Int.lt_trichotomy y 0 with k|rfl|k
 ·have:=Int.mul_pos_of_neg_of_neg h k;simp[sg,h,k];omega
 ·simp[sg]
 ·have:=Int.mul_neg_of_neg_of_pos h k;simp[sg,h,show ¬y<0 by omega];omega
 ·simp[sg]
 ·simp[sg]
 ·simp[sg]
 ·have:=Int.mul_neg_of_pos_of_neg h k;simp[sg,k,show ¬x<0 by omega];omega
 ·simp[sg]
 ·have:=Int.mul_pos h k;simp[sg,show ¬x<0 by omega,show ¬y<0 by omega];omega
def Ts(w:Y)(va vb:I)(x y:Int)(k:Nc w va x)(l:Nc w vb y)(b:Lm Cc x)(d:Lm Cc y):Calls Tryz.prog 70 #[va,vb] w (Uf w (x*y)):=by
 obtain⟨a,m,c,s,rfl⟩:=k.form;obtain⟨P,T,R,s',rfl⟩:=l.form;have p:=ia k.sgn;have q:=ia l.sgn;have u:=k.dig;have z:=l.dig;have n:=ia b.abs;have o:=ia d.abs;clear b d k l;go_in;go_wp2;go_region_held3 (fun W=>W.cell? ⟨w.heap.size,0,Z⟩=V (O a m c)/\W.cell? ⟨w.heap.size,1,Z⟩=V (J s)/\W.cell? ⟨w.heap.size+1,0,Z⟩=V (O P T R)/\W.cell? ⟨w.heap.size+1,1,Z⟩=V (J s')) ((repeat' (with_reducible refine And.intro ?_ ?_))<;>(first|(go_simp;done)|(refine hx1.d ?_;go_simp;done))) (first|((go_at_call 146;(with_reducible refine(xw _ (X #[O a m c]) (X #[O P T R]) x.natAbs y.natAbs ?_ ?_ n.o o.o).mono ?_);(refine u.ext ?_;exact eA);(refine z.ext ?_;exact eA);rintro e w1 ⟨r1,rfl,f,hx1,ae⟩;obtain⟨a1,m1,c1,rfl⟩:=f.z.form;obtain⟨⟨r,ag⟩,aa,ab,i⟩:=oc w hx1))|((go_at_call 145;(with_reducible refine(ql _ (!(s==s')) (X #[O a1 m1 c1]) ((x.natAbs:Int)*(y.natAbs:Int)) ?_).mono ?_);(refine f.z.ext ?_;exact eA);rintro e w2 ⟨r2,rfl,g,K,af⟩;obtain⟨a2,m2,c2,s2,rfl⟩:=g.form;obtain⟨⟨t,ah⟩,ac,ad,j⟩:=oc w K)))
 all_goals go_wp2
 refine bR (v:=X #[O a2 m2 c2,J s2]) (by simp[results,Tryz.results70,go_sem,r,t,i,j]) rfl ⟨_,rfl,?_,eA,dA⟩;rw[<-DE p.o q.o];exact g.keep kA
def Sm(w:Y)(c d:I)(x y:Int)(e:Nc w c x)(f:Nc w d y)(a:Lm Cc x)(b:Lm Cc y):Calls Tryz.prog 70 #[c,d] w (qi w (x*y)):=Ck (Ts w c d x y e f a b)
def Lm.sub{k:Nat}{x y:Int}(h:Lm k x)(a:Lm k y):Lm (k+1) (x-y):=by
 have e:B ^ (k+1)=B ^ k*16777216:=by rw[Int.pow_succ];rfl
 unfold Lm at *;rw[e];omega
def Jv(w:Y)(n o:I)(x y:Int)(k:Nc w n x)(l:Nc w o y)(b:Lm Cc x)(d:Lm Cc y):Calls Tryz.prog 72 #[n,o] w fun e p=>e=.returned (E F (x-y).sign)/\oa w p/\Dr w p:=by obtain⟨a,m,c,s,rfl⟩:=k.form;obtain⟨t,m',v,s',rfl⟩:=l.form;have g:=ia b;have i:=ia d;clear b d;go_in;go_wp2_with(first|((go_at_call 149;(with_reducible refine(tD _ (X #[O a m c,J s]) (X #[O t m' v,J s']) x y ?_ ?_ g.o i.o).mono ?_);(refine k.ext ?_;exact eA);(refine l.ext ?_;exact eA);rintro e w1 ⟨r1,rfl,f,j,P⟩;obtain⟨u,m1,z,s1,rfl⟩:=f.form;obtain⟨⟨K,T⟩,q,r⟩:=Oi w j))|((go_at_call 69;(with_reducible refine(sw _ (X #[O u m1 z,J s1]) (x-y) ?_).mono ?_);(refine f.ext ?_;exact eA);rintro e w2 ⟨rfl,W,R⟩)));go_ret;exact⟨rfl,eA,dA⟩
def Ex(w:Y)(c d:I)(x y:Int)(f:Nc w c x)(g:Nc w d y)(a:Lm Cc x)(b:Lm Cc y):Calls Tryz.prog 72 #[c,d] w fun e i=>e=.returned (E F (x-y).sign)/\oa w i:=Do (Jv w c d x y f g a b)
end
section
open Go.RowKit Go.Shelf
attribute [local go_sem] Oper.semAt_some
def xg(w:Y)(x y:Int)(W:Y):Prop:=
 oa w W/\w.heap.size+1+1+1<=W.heap.size/\(∃sl,W.heap[w.heap.size]?=V (N #[sl] 39 (0,0))/\Tc W (X #[sl]) x)/\
 (∃sl,W.heap[w.heap.size+1]?=V (N #[sl] 39 (0,0))/\Tc W (X #[sl]) y)/\W.heap[w.heap.size+1+1]?=V (N #[O Z 0 0] 39 (0,0))
def xg.ext{w:Y}{x y:Int}{W W':Y}(h:xg w x y W)(k:oa W W'):xg w x y W':=by obtain⟨a,i,⟨f,b,c⟩,⟨g,d,h6⟩,e⟩:=h;have:=k.size;exact⟨a.trans k,by omega,⟨f,k.e b,c.ext k⟩,⟨g,k.e d,h6.ext k⟩,k.e e⟩
def xg.setX{w:Y}{x y d:Int}{W:Y}{sl:I}(h:xg w x y W)(j:Tc W (X #[sl]) d):xg w d y (W.setCell ⟨w.heap.size,0,Z⟩ sl):=by obtain⟨e,f,⟨n,b,m⟩,⟨l,g,h6⟩,i⟩:=h;have a:∀k,k≠w.heap.size->(W.setCell ⟨w.heap.size,0,Z⟩ sl).heap[k]?=W.heap[k]?:=fun k a=>bS _ _ _ _ a;have c:Fa 2 W (W.setCell ⟨w.heap.size,0,Z⟩ sl):=(Fa.refl _ W).set b dM _;exact⟨e.set (nE _) _,by rw[sf];exact f,⟨sl,one_setCell b,j.keep c⟩,⟨l,(a _ oM).trans g,h6.keep c⟩,(a _ oM).trans i⟩
def xg.setY{w:Y}{x y d:Int}{W:Y}{sl:I}(h:xg w x y W)(l:Tc W (X #[sl]) d):xg w x d (W.setCell ⟨w.heap.size+1,0,Z⟩ sl):=by obtain⟨e,f,⟨m,g,i⟩,⟨n,b,h6⟩,j⟩:=h;have a:∀k,k≠w.heap.size+1->(W.setCell ⟨w.heap.size+1,0,Z⟩ sl).heap[k]?=W.heap[k]?:=fun k a=>bS _ _ _ _ a;have c:Fa 2 W (W.setCell ⟨w.heap.size+1,0,Z⟩ sl):=(Fa.refl _ W).set b dM _;exact⟨e.set dO _,by rw[sf];exact f,⟨m,(a _ oM).trans g,i.keep c⟩,⟨sl,one_setCell b,l.keep c⟩,(a _ oM).trans j⟩
def xg.keepX{w:Y}{x y:Int}{W:Y}(h:xg w x y W)(u:I):Fa 2 W (W.setCell ⟨w.heap.size,0,Z⟩ u):=by obtain⟨b,c,⟨e,a,d⟩,_⟩:=h;exact(Fa.refl _ W).set a dM _
def xg.keepY{w:Y}{x y:Int}{W:Y}(h:xg w x y W)(u:I):Fa 2 W (W.setCell ⟨w.heap.size+1,0,Z⟩ u):=by obtain⟨b,c,⟨g,d,e⟩,⟨i,a,h6⟩,f⟩:=h;exact(Fa.refl _ W).set a dM _
def xg.setXY{w:Y}{x y e f:Int}{W:Y}{c d:I}(h:xg w x y W)(a:Tc W (X #[c]) e)(b:Tc W (X #[d]) f):xg w e f ((W.setCell ⟨w.heap.size,0,Z⟩ c).setCell ⟨w.heap.size+1,0,Z⟩ d):=(h.setX a).setY (b.keep (h.keepX _))
def tr{k:Nat}{x n:Int}(h:2 ^ k*x=n)(a:x%2=0):2 ^ (k+1)*(x/2)=n:=by rw[Int.pow_succ,Int.mul_assoc,show 2*(x/2)=x by omega];exact h
def xg.rdX{w:Y}{x y:Int}{W:Y}(h:xg w x y W):∃a m c,W.cell? ⟨w.heap.size,0,Z⟩=V (O a m c)/\W.frozen? ⟨w.heap.size,0,Z⟩=false/\Tc W (X #[O a m c]) x:=by obtain⟨f,g,⟨k,b,d⟩,⟨l,i,h6⟩,j⟩:=h;obtain⟨a,m,c,e⟩:=d.form;cases e;exact⟨a,m,c,cell_of_one b,free_of_one b,d⟩
def xg.rdY{w:Y}{x y:Int}{W:Y}(h:xg w x y W):∃a m c,W.cell? ⟨w.heap.size+1,0,Z⟩=V (O a m c)/\W.frozen? ⟨w.heap.size+1,0,Z⟩=false/\Tc W (X #[O a m c]) y:=by obtain⟨d,f,⟨k,g,i⟩,⟨l,b,h6⟩,j⟩:=h;obtain⟨a,m,c,e⟩:=h6.form;cases e;exact⟨a,m,c,cell_of_one b,free_of_one b,h6⟩
def xg.rdR{w:Y}{x y:Int}{W:Y}(h:xg w x y W):W.cell? ⟨w.heap.size+1+1,0,Z⟩=V (O Z 0 0)/\W.frozen? ⟨w.heap.size+1+1,0,Z⟩=false:=⟨cell_of_one h.2.2.2.2,free_of_one h.2.2.2.2⟩
def xg.o{w:Y}{x y g:Int}{W:Y}{sl:I}(h:xg w x y W)(b:Tc W (X #[sl]) g):Tc (W.setCell ⟨w.heap.size+1+1,0,Z⟩ sl) (X #[sl]) g/\oa w (W.setCell ⟨w.heap.size+1+1,0,Z⟩ sl)/\(W.setCell ⟨w.heap.size+1+1,0,Z⟩ sl).cell? ⟨w.heap.size+1+1,0,Z⟩=V sl:=by have a:=h.2.2.2.2;exact⟨b.keep ((Fa.refl _ W).set a dM _),h.1.set dO _,cell_of_one (one_setCell a)⟩
def Px{x y:Int}(h:x%2=0)(b:y%2=1):Int.gcd (x/2) y=Int.gcd x y:=by
 have a:Nat.Coprime 2 y.natAbs:=by
  unfold Nat.Coprime;rw[Nat.gcd_rec,show y.natAbs%2=1 by omega];rfl
 have e:x.natAbs=2*(x/2).natAbs:=oM;unfold Int.gcd;rw[e];exact(Nat.Coprime.gcd_mul_left_cancel _ a).symm
def BG{x y:Int}(a:0<=x)(h:x<=y):Int.gcd x (y + -1*x)=Int.gcd x y:=by unfold Int.gcd;rw[show (y + -1*x).natAbs=y.natAbs-x.natAbs by omega];exact Nat.gcd_sub_self_right oM
def OE{x y a b:Int}{k:Nat}(c:2 ^ k*x=a)(d:2 ^ k*y=b):(Int.gcd a b:Int)=2 ^ k*(Int.gcd x y:Int):=by rw[<-c,<-d,Int.gcd_mul_left];simp[Int.natAbs_pow]
def sE{k n:Nat}(h:(2:Int) ^ k<B ^ n):k<24*n:=by apply Classical.byContradiction;intro a;have e:B=(2:Int) ^ 24:=dM;rw[e,<-Int.pow_mul]at h;have:=qo (b:=(2:Int)) dM (show 24*n<=k by omega);omega
def Mw{k:Nat}{x n:Int}(h:Lm Cc n)(f:0<x)(e:2 ^ k*x=n):k<2400000000/\(k:Int)<n:=by
 have c:(2:Int) ^ k*1<=2 ^ k*x:=Int.mul_le_mul_of_nonneg_left oM (Int.pow_nonneg dM);have a:(2:Int) ^ k<B ^ Cc:=by unfold Lm at h;omega
 have b:=sE a;have d:(k:Int)<2 ^ k:=by exact_mod_cast Nat.lt_two_pow_self (n:=k)
 unfold Cc at b;omega
def Tq{k:Nat}{x n:Int}(d:0<x)(h:2 ^ k*x=n):x<=n:=by
 have a:(1:Int)<=2 ^ k:=by have:=tj (b:=(2:Int)) dM k;omega
 have c:1*x<=2 ^ k*x:=Int.mul_le_mul_of_nonneg_right a oM;omega
def LI{x y:Int}(h:y%2=0)(a:x%2=1):Int.gcd x (y/2)=Int.gcd x y:=by rw[Int.gcd_comm,Px h a,Int.gcd_comm]
def Tc.lm{w:Y}{a:Option Q}{m c:Nat}{n:Int}(h:Tc w (X #[O a m c]) n){k:Nat}(i:m<=k):Lm k n:=by obtain⟨e,f,g,b,d⟩:=h.open;rw[<-d];exact Lm.dig b.1 oM
def DK(w:Y)(x y:Int)(c:0<=x/\x<18446744073709551616)(d:0<=y/\y<18446744073709551616):Calls Tryz.prog 228 #[E .u64 x,E .u64 y] w fun e f=>e=.returned (E .u64 (Int.gcd x y:Nat))/\oa w f:=by obtain⟨a,rfl⟩:=Int.eq_ofNat_of_zero_le c.1;obtain⟨b,rfl⟩:=Int.eq_ofNat_of_zero_le d.1;exact EK w a b oM oM
def qC{x:Int}(h:Lm 2 x):x<281474976710656:=by have:B ^ 2=281474976710656:=dM;unfold Lm at h;omega
def PE{x y:Int}(h:0<x):(Int.gcd x y:Int)<=x:=Int.le_of_dvd h (Int.gcd_dvd_left ..)
def MM(w:Y)(a nb:Int)(g:Nat)(t5:I)(wr:Y):Prop:=
 ∃(k:Nat)(x y:Int),t5=E F k/\g=a.toNat-k/\0<x/\0<y/\2 ^ k*x=a/\2 ^ k*y=nb/\xg w x y wr
def LM(w:Y)(a nb:Int)(t5:I)(wr:Y):Prop:=
 ∃(k:Nat)(x y:Int),t5=E F k/\0<x/\0<y/\(x%2=1\/y%2=1)/\2 ^ k*x=a/\2 ^ k*y=nb/\xg w x y wr
def KM(w:Y)(G M:Int)(k:Nat)(g:Nat)(_:I)(wr:Y):Prop:=
 ∃(x y:Int),0<x/\0<y/\(x%2=1\/y%2=1)/\x<=M/\y<=M/\2 ^ k*(Int.gcd x y:Int)=G/\g=x.toNat/\xg w x y wr
def JM(w:Y)(G M:Int)(k:Nat)(g:Nat)(_:I)(wr:Y):Prop:=
 ∃(x y:Int),0<x/\0<=y/\x%2=1/\x<=M/\y<=M/\2 ^ k*(Int.gcd x y:Int)=G/\g=(x+y).toNat/\xg w x y wr
def IM(w:Y)(G M:Int)(k:Nat)(x y:Int)(g:Nat)(_:I)(wr:Y):Prop:=
 ∃(a:Int),0<a/\a<=y/\2 ^ k*(Int.gcd x a:Int)=G/\g=a.toNat/\xg w x a wr
def GM(w:Y)(G M:Int)(k:Nat)(x y:Int)(_:I)(wr:Y):Prop:=
 ∃(a b:Int),0<a/\a<=b/\a%2=1/\b<=M/\b<x+y/\2 ^ k*(Int.gcd a b:Int)=G/\xg w a b wr
def vI{a b:Int}(h:b<a):decide (0<nc a b)=true:=by simp only[nc];grind
def xI{a b:Int}(h:a<=b):decide (0<nc a b)=false:=by simp only[nc];grind
def sJ(w:Y)(va vb:I)(na nb:Int)(ha:Tc w va na)(hb:Tc w vb nb)(bg:Lm Cc na)(bh:Lm Cc nb):Calls Tryz.prog 191 #[va,vb] w fun e w'=>∃r,e=.returned r/\Tc w' r (Int.gcd na nb:Nat)/\oa w w':=by
 obtain⟨a,m,c,rfl⟩:=ha.form;obtain⟨a',m',c',rfl⟩:=hb.form;have h0:=ha.nonneg;have bA:=hb.nonneg;have aE:=ia bg;have a9:=ia bh;clear bg bh;have aL:xg w na nb (((w.alloc (N #[O a m c] 39)).alloc (N #[O a' m' c'] 39)).alloc (N #[O Z 0 0] 39)):=by
  refine⟨eA,by simp,⟨_,?_,ha.ext eA⟩,⟨_,?_,hb.ext eA⟩,?_⟩
  ·rw[Ef,Ef,Ef];simp only[wZ];rw[if_neg oM,if_neg oM,if_pos trivial]
  ·rw[Ef,Ef];simp only[wZ];rw[if_neg oM,if_pos trivial]
  ·rw[Ef];simp only[wZ];rw[if_pos trivial]
 have aF:=ia aL;have aI:=ha.ext aL.1;have bB:=hb.ext aL.1;clear aL;by_cases hz:na=0
 ·have bo:(na==0)=true:=by simpa using hz
  go_in;go_wp2_with(go_at_call 97;(with_reducible refine(Ti _ _ _ aI).mono ?_);rintro e w1 ⟨rfl,b⟩;have ac:=aF.o.ext b;obtain⟨aY,mY,cY,P,R,d⟩:=ac.rdY;obtain⟨ai,aj⟩:=ac.rdR);obtain⟨o1,o2,o3⟩:=ac.o d;refine bR (v:=X #[O aY mY cY]) (by simp[results,Tryz.results191,go_sem,o3]) rfl ⟨_,rfl,?_,o2⟩;rw[hz];simpa[Int.natAbs_of_nonneg bA] using o1
 have cg:(na==0)=false:=by simpa using hz
 by_cases a4:nb=0
 ·have bo:(nb==0)=true:=by simpa using a4
  go_in;go_wp2_with(first|(go_at_call 97;(with_reducible refine(Ti _ _ _ aI).mono ?_);rintro e w1 ⟨rfl,b⟩;have ac:=aF.o.ext b;obtain⟨aY,mY,cY,P,R,d⟩:=ac.rdY)|(go_at_call 97;(with_reducible refine(Ti _ _ _ d).mono ?_);rintro e w2 ⟨rfl,o⟩;have aw:=ac.ext o;obtain⟨aX,K,cX,am,an,f⟩:=aw.rdX;obtain⟨ai,aj⟩:=aw.rdR));obtain⟨o1,o2,o3⟩:=aw.o f;refine bR (v:=X #[O aX K cX]) (by simp[results,Tryz.results191,go_sem,o3]) rfl ⟨_,rfl,?_,o2⟩;rw[a4];simpa[Int.natAbs_of_nonneg h0] using o1
 have bo:(nb==0)=false:=by simpa using a4
 obtain⟨G,hG⟩:∃G:Int,(Int.gcd na nb:Int)=G:=⟨_,rfl⟩;obtain⟨M,bc,bd,hM⟩:∃M:Int,na<=M/\nb<=M/\zc (Lm Cc M):=by
  rcases Int.le_total na nb with h|h
  ·exact⟨nb,h,Int.le_refl _,a9⟩
  ·exact⟨na,Int.le_refl _,h,aE⟩
 rw[hG];have HG:=ia hG;clear hG;go_in
 go_upto_block 1 with (first|(go_at_call 97;(with_reducible refine(Ti _ _ _ aI).mono ?_);rintro e w1 ⟨rfl,b⟩;have ac:=aF.o.ext b;obtain⟨aY,mY,cY,P,R,d⟩:=ac.rdY)|(go_at_call 97;(with_reducible refine(Ti _ _ _ d).mono ?_);rintro e w2 ⟨rfl,o⟩;have aw:=ac.ext o))
 go_cut [5] (LM w na nb)
 case first =>
  go_wp2;go_loopg [5] na.toNat (MM w na nb)
  case atStart=>exact⟨0,na,nb,rfl,rfl,by omega,by omega,by simp,by simp,aw⟩
  case round =>
   clear aw ac b o P R d;obtain⟨k,x,y,rfl,rfl,n,t,al,ar,g⟩:=hrel;obtain⟨aX,K,cX,am,an,f⟩:=g.rdX;obtain⟨aY,mY,cY,P,R,d⟩:=g.rdY;obtain⟨ai,aj⟩:=g.rdR;have T:w.heap.size<wr.heap.size:=(by have:=g.2.1;omega);have aa:w.heap.size+1<wr.heap.size:=(by have:=g.2.1;omega);have ab:w.heap.size+1+1<wr.heap.size:=(by have:=g.2.1;omega);have Hs:=ia g;clear g;have aG:=ia al;have aH:=ia ar;have cc:=Mw aE.o n al;have cd:IntKind.i64.wrap ((k:Int)+1)=(k:Int)+1:=iW _ oM;have av:zc (Lm Cc x):=ia (aE.o.le oM (Tq n al));have aP:zc (Lm Cc y):=ia (a9.o.le oM (Tq t ar));clear al ar;by_cases q:x%2=0
   ·(have ae:(x%2==0)=true:=by simpa using q);by_cases au:y%2=0
    ·(have aU:(y%2==0)=true:=by simpa using au);go_wp2_with(first|(go_at_call 226;(with_reducible refine(Al _ (X #[O aX K cX]) x ?_ n).mono ?_);(refine f.ext ?_;exact eA);rintro e w1 ⟨rfl,b⟩;obtain⟨⟨p,s⟩,i,j,l⟩:=oc w b)|(go_at_call 226;(with_reducible refine(Al _ (X #[O aY mY cY]) y ?_ t).mono ?_);(refine d.ext ?_;exact eA);rintro e w2 ⟨rfl,o⟩;obtain⟨⟨ax,ay⟩,af,ag,ah⟩:=oc w o))
     go_region_with (first|((go_at_call 227;(with_reducible refine(Br _ (X #[O aX K cX]) x ?_ av.o).mono ?_);(refine f.ext ?_;exact eA);rintro e w3 ⟨r3,rfl,aW,a0⟩;obtain⟨b0,ch,b2,rfl⟩:=aW.z.form;obtain⟨⟨bC,bF⟩,bp,bq,br⟩:=oc w a0))|((go_at_call 227;(with_reducible refine(Br _ (X #[O aY mY cY]) y ?_ aP.o).mono ?_);(refine d.ext ?_;exact eA);rintro e w4 ⟨r4,rfl,aZ,a2⟩;obtain⟨b1,ci,b3,rfl⟩:=aZ.z.form;obtain⟨⟨bD,bG⟩,bs,bt,bu⟩:=oc w a2)))
     all_goals
      go_wp2;go_roundg (na.toNat-(k+1))
      case measure=>omega
      case rel=>first|exact⟨k+1,x/2,y/2,Lj oM,rfl,by omega,by omega,tr aG.o q,tr aH.o au,(Hs.o.ext eA).setXY (aW.z.ext eA) aZ.z⟩|((repeat apply Exists.intro);exact⟨⟨k+1,x/2,y/2,Lj oM,rfl,by omega,by omega,tr aG.o q,tr aH.o au,(Hs.o.ext eA).setXY (aW.z.ext eA) aZ.z⟩,rfl⟩)
    ·(have aU:(y%2==0)=false:=by simpa using au);go_wp2_with(first|(go_at_call 226;(with_reducible refine(Al _ (X #[O aX K cX]) x ?_ n).mono ?_);(refine f.ext ?_;exact eA);rintro e w1 ⟨rfl,b⟩;obtain⟨⟨p,s⟩,i,j,l⟩:=oc w b)|(go_at_call 226;(with_reducible refine(Al _ (X #[O aY mY cY]) y ?_ t).mono ?_);(refine d.ext ?_;exact eA);rintro e w2 ⟨rfl,o⟩;obtain⟨⟨ax,ay⟩,af,ag,ah⟩:=oc w o));go_meet;exact⟨k,x,y,rfl,n,t,.inr oM,aG.o,aH.o,Hs.o.ext eA⟩
   ·(have ae:(x%2==0)=false:=by simpa using q);go_wp2_with(first|(go_at_call 226;(with_reducible refine(Al _ (X #[O aX K cX]) x ?_ n).mono ?_);(refine f.ext ?_;exact eA);rintro e w1 ⟨rfl,b⟩;obtain⟨⟨p,s⟩,i,j,l⟩:=oc w b));go_meet;exact⟨k,x,y,rfl,n,t,.inl oM,aG.o,aH.o,Hs.o.ext eA⟩
 case rest =>
  obtain⟨k,x0,y0,rfl,n,t,aK,al,ar,g⟩:=hcut;have aA:2 ^ k*(Int.gcd x0 y0:Int)=G:=by rw[<-HG.o];exact(OE al ar).symm
  have ak:=Int.le_trans (Tq n al) bc;have aq:=Int.le_trans (Tq t ar) bd;have a8:=ia (Mw aE.o n al).1;clear al ar bc bd aI bB aF;go_wp2;go_loopg [26] x0.toNat (KM w G M k)
  case atStart=>exact⟨x0,y0,n,t,aK,ak,aq,aA,rfl,g⟩
  case round =>
   clear g aA ak aq aK n t;obtain⟨x,y,n,t,aK,ak,aq,hg,rfl,g⟩:=hrel;obtain⟨aX,K,cX,am,an,f⟩:=g.rdX;obtain⟨aY,mY,cY,P,R,d⟩:=g.rdY;obtain⟨ai,aj⟩:=g.rdR;have T:w.heap.size<wr.heap.size:=(by have:=g.2.1;omega);have aa:w.heap.size+1<wr.heap.size:=(by have:=g.2.1;omega);have ab:w.heap.size+1+1<wr.heap.size:=(by have:=g.2.1;omega);have Hs:=ia g;clear g;have Hg:=ia hg;clear hg;have av:zc (Lm Cc x):=ia (hM.o.le oM ak);by_cases q:x%2=0
   ·(have ae:(x%2==0)=true:=by simpa using q);go_wp2_with(first|(go_at_call 226;(with_reducible refine(Al _ (X #[O aX K cX]) x ?_ n).mono ?_);(refine f.ext ?_;exact eA);rintro e w1 ⟨rfl,b⟩;obtain⟨⟨p,s⟩,i,j,l⟩:=oc w b)|((go_at_call 227;(with_reducible refine(Br _ (X #[O aX K cX]) x ?_ av.o).mono ?_);(refine f.ext ?_;exact eA);rintro e w2 ⟨r2,rfl,ao,o⟩;obtain⟨aR,a5,aS,rfl⟩:=ao.z.form;obtain⟨⟨ax,ay⟩,af,ag,ah⟩:=oc w o)));go_roundg (x/2).toNat
    case measure=>omega
    case rel=>exact⟨x/2,y,by omega,t,.inr oM,by omega,aq,by rw[Px q oM];exact Hg.o,rfl,(Hs.o.ext eA).setX ao.z⟩
   ·(have ae:(x%2==0)=false:=by simpa using q);have aC:x%2=1:=oM;go_wp2_with(first|(go_at_call 226;(with_reducible refine(Al _ (X #[O aX K cX]) x ?_ n).mono ?_);(refine f.ext ?_;exact eA);rintro e w1 ⟨rfl,b⟩;obtain⟨⟨p,s⟩,i,j,l⟩:=oc w b));go_loopg [30] (x+y).toNat (JM w G M k)
    case atStart=>exact⟨x,y,n,by omega,aC,ak,aq,Hg.o,rfl,Hs.o.ext eA⟩
    case round =>
     clear b p s i j l am an f P R d ai aj T aa ab Hs Hg av ak aq aK n t q ae aC;obtain⟨x,y,n,t,aC,ak,aq,hg,rfl,g⟩:=hrel;obtain⟨aX,K,cX,am,an,f⟩:=g.rdX;obtain⟨aY,mY,cY,P,R,d⟩:=g.rdY;obtain⟨ai,aj⟩:=g.rdR;have T:w.heap.size<wr.heap.size:=(by have:=g.2.1;omega);have aa:w.heap.size+1<wr.heap.size:=(by have:=g.2.1;omega);have ab:w.heap.size+1+1<wr.heap.size:=(by have:=g.2.1;omega);have Hs:=ia g;clear g;have Hg:=ia hg;clear hg;have av:zc (Lm Cc x):=ia (hM.o.le oM ak);by_cases a3:y=0
     ·(have bL:(y==0)=true:=by simpa using a3);(have HK:k<=10000000000:=by have:=a8.o;omega);go_wp2_with(first|(go_at_call 97;(with_reducible refine(Ti _ (X #[O aY mY cY]) y ?_).mono ?_);(refine d.ext ?_;exact eA);rintro e w1 ⟨rfl,b⟩;obtain⟨⟨p,s⟩,i,j,l⟩:=oc w b)|((go_at_call 229;(with_reducible refine(KA _ (X #[O aX K cX]) x k ?_ av.o HK).mono ?_);(refine f.ext ?_;exact eA);rintro e w2 ⟨r2,rfl,ao,o⟩;obtain⟨aR,a5,aS,rfl⟩:=ao.z.form;obtain⟨⟨ax,ay⟩,af,ag,ah⟩:=oc w o)));obtain⟨o1,o2,o3⟩:=(Hs.o.ext (w:=w) (W':=w2) eA).o ao.z;refine bR (v:=X #[O aR a5 aS]) (by simp[results,Tryz.results191,go_sem,o3]) rfl ⟨_,rfl,?_,o2⟩;(have e:2 ^ k*x=G:=by rw[<-Hg.o,a3];simp[Int.natAbs_of_nonneg (show 0<=x by omega)]);rw[<-e];exact o1
     ·(have bL:(y==0)=false:=by simpa using a3);go_wp2_with(first|(go_at_call 97;(with_reducible refine(Ti _ (X #[O aY mY cY]) y ?_).mono ?_);(refine d.ext ?_;exact eA);rintro e w1 ⟨rfl,b⟩;obtain⟨⟨p,s⟩,i,j,l⟩:=oc w b));go_loopg [33] y.toNat (IM w G M k x y)
      case atStart=>exact⟨y,by omega,Int.le_refl _,Hg.o,rfl,Hs.o.ext eA⟩
      case round =>
       clear b p s i j l am an f P R d ai aj T aa ab Hs Hg;obtain⟨u,aD,ce,hg,rfl,g⟩:=hrel;obtain⟨aX,K,cX,am,an,f⟩:=g.rdX;obtain⟨aY,mY,cY,P,R,d⟩:=g.rdY;obtain⟨ai,aj⟩:=g.rdR;have T:w.heap.size<wr.heap.size:=(by have:=g.2.1;omega);have aa:w.heap.size+1<wr.heap.size:=(by have:=g.2.1;omega);have ab:w.heap.size+1+1<wr.heap.size:=(by have:=g.2.1;omega);have Hs:=ia g;clear g;have Hg:=ia hg;clear hg;have aP:zc (Lm Cc u):=ia (hM.o.le oM oM);by_cases q:u%2=0
       ·(have ae:(u%2==0)=true:=by simpa using q);go_wp2_with(first|(go_at_call 226;(with_reducible refine(Al _ (X #[O aY mY cY]) u ?_ aD).mono ?_);(refine d.ext ?_;exact eA);rintro e w1 ⟨rfl,b⟩;obtain⟨⟨p,s⟩,i,j,l⟩:=oc w b)|((go_at_call 227;(with_reducible refine(Br _ (X #[O aY mY cY]) u ?_ aP.o).mono ?_);(refine d.ext ?_;exact eA);rintro e w2 ⟨r2,rfl,ao,o⟩;obtain⟨aR,a5,aS,rfl⟩:=ao.z.form;obtain⟨⟨ax,ay⟩,af,ag,ah⟩:=oc w o)));go_roundg (u/2).toNat
        case measure=>omega
        case rel=>exact⟨u/2,by omega,by omega,by rw[LI q aC];exact Hg.o,rfl,(Hs.o.ext eA).setY ao.z⟩
       ·(have ae:(u%2==0)=false:=by simpa using q);have bM:u%2=1:=oM;go_upto_if 40 with (first|(go_at_call 226;(with_reducible refine(Al _ (X #[O aY mY cY]) u ?_ aD).mono ?_);(refine d.ext ?_;exact eA);rintro e w1 ⟨rfl,b⟩;obtain⟨⟨p,s⟩,i,j,l⟩:=oc w b)|((go_at_call 153;(with_reducible refine(Zn _ (X #[O aX K cX]) (X #[O aY mY cY]) x u ?_ ?_).mono ?_);(refine f.ext ?_;exact eA);(refine d.ext ?_;exact eA);rintro e w2 ⟨rfl,o⟩;obtain⟨⟨ax,ay⟩,af,ag,ah⟩:=oc w o)));go_cut [41] (GM w G M k x y)
        case first =>
         rcases Int.lt_or_le u x with ap|ap
         ·have aT:=vI ap;have bE:0<nc x u:=of_decide_eq_true aT;have aQ:=ia ap;clear ap;go_wp2;go_meet;exact⟨u,x,aD,by have:=aQ.o;omega,bM,ak,by omega,by rw[Int.gcd_comm];exact Hg.o,(Hs.o.ext (W':=w2) eA).setXY (d.ext eA) (f.ext eA)⟩
         ·have aT:=xI ap;(have bE:nc x u<=0:=by have:=of_decide_eq_false aT;omega);have aQ:=ia ap;clear ap;go_wp2;go_meet;exact⟨x,u,n,aQ.o,aC,by omega,by omega,Hg.o,Hs.o.ext (W':=w2) eA⟩
        case rest =>
         clear b p s i j l o ax ay af ag ah am an f P R d ai aj T aa ab Hs Hg;obtain⟨x',u,aB,bn,aO,bO,bN,hg,g⟩:=hcut;obtain⟨wr,rfl⟩:∃W,W=wc:=⟨_,rfl⟩;obtain⟨aX,K,cX,am,an,f⟩:=g.rdX;obtain⟨aY,mY,cY,P,R,d⟩:=g.rdY;obtain⟨ai,aj⟩:=g.rdR;have T:w.heap.size<wr.heap.size:=(by have:=g.2.1;omega);have aa:w.heap.size+1<wr.heap.size:=(by have:=g.2.1;omega);have ab:w.heap.size+1+1<wr.heap.size:=(by have:=g.2.1;omega);have Hs:=ia g;clear g;have az:zc (Lm Cc x'):=ia (hM.o.le oM oM);have aM:zc (Lm Cc u):=ia (hM.o.le oM oM);(have bf:2 ^ k*(Int.gcd x' (u + -1*x'):Int)=G:=by rw[BG oM bn];exact hg);have Hg:=ia bf;clear hg bf;by_cases bi:K<=2
         ·(have bj:decide ((K:Int)<=2)=true:=by simp;omega);have bk:(K:Int)<=2:=oM;go_wp2_with(first|((go_at_call 147;(with_reducible refine(Uo _ (X #[O aY mY cY]) (X #[O aX K cX]) u x' (-1) ?_ ?_ aM.o az.o oM oM).mono ?_);(refine d.ext ?_;exact eA);(refine f.ext ?_;exact eA);rintro e w1 ⟨r1,rfl,ad,b⟩;obtain⟨a1,m1,c1,rfl⟩:=ad.z.form;obtain⟨⟨p,s⟩,i,j,l⟩:=oc w b;rcases Nat.lt_or_ge 2 m1 with aV|aV)))
          ·go_roundg (x'+(u + -1*x')).toNat
           case measure=>omega
           case rel=>exact⟨x',u + -1*x',aB,by omega,aO,by omega,by omega,Hg.o,rfl,(Hs.o.ext eA).setY ad.z⟩
          ·(have HK:k<=10000000000:=by have:=a8.o;omega);obtain⟨z,hz⟩:=gX (u + -1*x');rw[hz]at ad Hg;have cf:0<=z:=oM;clear hz;have aJ:xg w x' u w1:=Hs.o.ext eA;have be:=aJ.setY (sl:=O a1 m1 c1) (ad.z);have ba:=(f.ext (w':=w1) eA).keep (aJ.keepY (O a1 m1 c1));have bb:=ad.z.keep (aJ.keepY (O a1 m1 c1));have bx:=ia (f.lm bi);have bz:=ia (ad.z.lm aV);have b4:=qC (f.lm bi);have b5:=qC (ad.z.lm aV);have bH:=PE (y:=z) aB;have aA:0<=(Int.gcd x' (z):Int):=Int.natCast_nonneg _;have bv:zc (Lm Cc (Int.gcd x' (z):Int)):=ia (az.o.le aA bH);have bw:=ia be;clear be aJ;go_region_held3 (fun W=>W.cell? ⟨w.heap.size,0,Z⟩=V (O aX K cX)/\W.cell? ⟨w.heap.size+1,0,Z⟩=V (O a1 m1 c1)) ((repeat' (with_reducible refine And.intro ?_ ?_))<;>(first|(go_simp;done)|(refine b.d ?_;go_simp;done))) (first|((go_at_call 175;(with_reducible refine(Kr _ (X #[O aX K cX]) x' ?_ bx.o).mono ?_);(refine ba.ext ?_;exact eA);rintro e w3 ⟨rfl,a0⟩;obtain⟨⟨bC,bF⟩,bp,bq,br⟩:=oc w a0))|((go_at_call 175;(with_reducible refine(Kr _ (X #[O a1 m1 c1]) (z) ?_ bz.o).mono ?_);(refine bb.ext ?_;exact eA);rintro e w4 ⟨rfl,a2⟩;obtain⟨⟨bD,bG⟩,bs,bt,bu⟩:=oc w a2))|((go_at_call 228;(with_reducible refine(DK _ x' (z) ⟨by omega,by omega⟩ ⟨by omega,by omega⟩).mono ?_);rintro e w5 ⟨rfl,bI⟩;obtain⟨⟨b6,b9⟩,bP,bQ,bT⟩:=oc w bI))|((go_at_call 148;(with_reducible refine(Yn _ (Int.gcd x' (z):Nat) aA oM).mono ?_);rintro e w6 ⟨r6,rfl,bl,bJ⟩;obtain⟨a6,m6,c6,rfl⟩:=bl.z.form;obtain⟨⟨b7,ca⟩,bU,bV,bW⟩:=oc w bJ))|((go_at_call 229;(with_reducible refine(KA _ (X #[O a6 m6 c6]) (Int.gcd x' (z):Nat) k ?_ bv.o HK).mono ?_);(refine bl.z.ext ?_;exact eA);rintro e w7 ⟨r7,rfl,bm,bK⟩;obtain⟨a7,m7,c7,rfl⟩:=bm.z.form;obtain⟨⟨b8,cb⟩,bX,bY,bZ⟩:=oc w bK)))
           all_goals go_wp2
           obtain⟨o1,o2,o3⟩:=(bw.o.ext (W':=w7) eA).o bm.z;refine bR (v:=X #[O a7 m7 c7]) (by simp[results,Tryz.results191,go_sem,o3]) rfl ⟨_,rfl,?_,o2⟩;rw[Hg.o]at o1;exact o1
         ·(have bj:decide ((K:Int)<=2)=false:=by simp;omega);have bk:2<(K:Int):=oM;go_wp2_with(first|((go_at_call 147;(with_reducible refine(Uo _ (X #[O aY mY cY]) (X #[O aX K cX]) u x' (-1) ?_ ?_ aM.o az.o oM oM).mono ?_);(refine d.ext ?_;exact eA);(refine f.ext ?_;exact eA);rintro e w1 ⟨r1,rfl,ad,b⟩;obtain⟨a1,m1,c1,rfl⟩:=ad.z.form;obtain⟨⟨p,s⟩,i,j,l⟩:=oc w b)));go_roundg (x'+(u + -1*x')).toNat
          case measure=>omega
          case rel=>exact⟨x',u + -1*x',aB,by omega,aO,by omega,by omega,Hg.o,rfl,(Hs.o.ext eA).setY ad.z⟩
