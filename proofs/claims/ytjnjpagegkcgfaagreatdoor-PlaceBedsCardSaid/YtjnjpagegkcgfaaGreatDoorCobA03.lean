import Derived.Test.YtjnjpagegkcgfaaGreatDoorCobA02
import Derived.Sort.CutIn
set_option maxRecDepth 1000000
set_option maxHeartbeats 16000000
set_option linter.all false
open Go.Value renaming slice->O,int->J,agg->N,pointer->E,bool->F
open Go renaming World->Y,Value->X,Addr->G
open Option renaming none->Z,some->V
open Go.Obj renaming cells->I
open Go.IntKind renaming i64->M
namespace Go.Proofs.YtjnjpagegkcgfaaGreatDoor.Cop
section
open Go.RowKit Go.Shelf
attribute [local go_sem] Oper.semAt_some
def Ba.keepsFrom{B:Nat}{W W':Y}(h:Ba W W'):KeepsFrom B W W':=⟨h.size,fun _ _ _ a _=>h.e a⟩
def vk{T:TypeId}{w:Y}{base:Nat}{v:X}{xs:List Int}(h:Mb T w base v xs):Mb T w.drew base v xs:=h
def Ag(w:Y)(o:Obj)(k:Nat):(w.alloc o).heap[k]?=if k=w.heap.size then V o else w.heap[k]?:=by show (w.heap.push o)[k]?=_;rw[Array.getElem?_push]
def Mb.stay{T:TypeId}{w w':Y}{base:Nat}{v:X}{xs:List Int}(h:Mb T w base v xs)(d:∀(g:Nat)(o:Obj),base<=g->w.heap[g]?=V o->w'.heap[g]?=V o):Mb T w' base v xs:=by
 obtain⟨e,a⟩:=h;refine⟨e,?_⟩;rcases a with a|⟨g,cap,cur,hv,b,c,r⟩
 ·exact .inl a
 ·exact .inr ⟨g,cap,cur,hv,b,d _ _ b c,r⟩
def Ia.putObj{T:TypeId}{w:Y}{D:Nat}{x:Option (List Deferred)}{o:Obj}(h:w.heap[D]?=V (.deferred x)):Ia T w (w.putObj D o):=fun k b c a=>by
 rw[World.putObj_heap_other];exact a;rintro rfl;rw[h]at a;cases a
def Xg(w:Y)(a:X)(n:Nat)(L:Int)(i:Int)(os:List Int)(W:Y):Prop:=
 Ba w W/\w.heap.size+1+1+1+1+1+1+1+1<=W.heap.size/\W.heap[w.heap.size+1]?=V (I #[a] 59 (0,0))/\W.heap[w.heap.size+1+1]?=V (I #[O Z 0 0] 59 (0,0))/\
 (∃sl ds,W.heap[w.heap.size+1+1+1]?=V (I #[sl] 59 (0,0))/\Mb 2 W (w.heap.size+1+1+1+1+1+1+1+1) sl ds/\yg B ds/\dv B ds=L)/\
 W.heap[w.heap.size+1+1+1+1+1]?=V (I #[O (V ⟨w.heap.size+1+1+1+1,0,Z⟩) n n] 57 (0,0))/\W.heap[w.heap.size+1+1+1+1+1+1]?=V (I #[J M i] 3 (0,0))/\
 Mb 2 W (w.heap.size+1+1+1+1) (O (V ⟨w.heap.size+1+1+1+1,0,Z⟩) n n) os
def Xg.keep{w:Y}{d:X}{n:Nat}{L i:Int}{os:List Int}{W W':Y}(h:Xg w d n L i os W)(o:Ba w W')(a:∀T,Ia T W W')(r:W.heap.size<=W'.heap.size):Xg w d n L i os W':=by obtain⟨p,q,f,g,⟨sl,e,j,h6,k,l⟩,m,b,c⟩:=h;exact⟨o,by omega,a _ _ _ _ f,a _ _ _ _ g,⟨sl,e,a _ _ _ _ j,h6.keep (a _),k,l⟩,a _ _ _ _ m,a _ _ _ _ b,c.keep (a _)⟩
def Xg.ext{w:Y}{a:X}{n:Nat}{L i:Int}{os:List Int}{W W':Y}(h:Xg w a n L i os W)(k:Ba W W'):Xg w a n L i os W':=h.keep (h.1.trans k) (fun _=>k.keep) k.size
def Xg.left{w:Y}{e:X}{n:Nat}{L i L':Int}{os:List Int}{W:Y}(h:Xg w e n L i os W){sl:X}{ds:List Int}(q:Mb 2 W (w.heap.size+1+1+1+1+1+1+1+1) sl ds)(p:yg B ds)(hv:dv B ds=L'):Xg w e n L' i os (W.setCell ⟨w.heap.size+1+1+1,0,Z⟩ sl):=by obtain⟨g,j,l,m,⟨r,f,d,h6,s,t⟩,o,b,c⟩:=h;have a:∀k,k≠w.heap.size+1+1+1->(W.setCell ⟨w.heap.size+1+1+1,0,Z⟩ sl).heap[k]?=W.heap[k]?:=fun k a=>bS _ _ _ _ a;refine⟨g.set dO _,by rw[Bg];exact j,(a _ oM).trans l,(a _ oM).trans m,⟨sl,ds,one_setCell d,q.keep ((Ia.refl _ W).set d dM _),p,hv⟩,(a _ oM).trans o,(a _ oM).trans b,c.setOther (by simp[Value.ownBlock]) _⟩
def Xg.num{w:Y}{g:X}{n:Nat}{L i:Int}{os:List Int}{W:Y}(h:Xg w g n L i os W)(e:Int):Xg w g n L e os (W.setCell ⟨w.heap.size+1+1+1+1+1+1,0,Z⟩ (J M e)):=by obtain⟨j,l,m,o,⟨f,c,p,h6,q,r⟩,s,b,d⟩:=h;have a:∀k,k≠w.heap.size+1+1+1+1+1+1->(W.setCell ⟨w.heap.size+1+1+1+1+1+1,0,Z⟩ (J M e)).heap[k]?=W.heap[k]?:=fun k a=>bS _ _ _ _ a;refine⟨j.set dO _,by rw[Bg];exact l,(a _ oM).trans m,(a _ oM).trans o,⟨f,c,(a _ oM).trans p,h6.keep ((Ia.refl _ W).set b dM _),q,r⟩,(a _ oM).trans s,one_setCell b,d.setOther (by simp[Value.ownBlock]) _⟩
def Xg.o{w:Y}{g:X}{n:Nat}{L i:Int}{os:List Int}{W:Y}(h:Xg w g n L i os W)(j:Nat)(x:Int):Xg w g n L i (os.set j x) (W.setCell ⟨w.heap.size+1+1+1+1,j,Z⟩ (J M x)):=by obtain⟨l,m,o,p,⟨f,b,q,h6,r,s⟩,t,c,d⟩:=h;have a:∀k,k≠w.heap.size+1+1+1+1->(W.setCell ⟨w.heap.size+1+1+1+1,j,Z⟩ (J M x)).heap[k]?=W.heap[k]?:=fun k a=>bS _ _ _ _ a;refine⟨l.set dO _,by rw[Bg];exact m,(a _ oM).trans o,(a _ oM).trans p,⟨f,b,(a _ oM).trans q,h6.setOther ?_ _,r,s⟩,(a _ oM).trans t,(a _ oM).trans c,d.stored j x⟩;intro e;have:=(World.ownsRow.lt h6 _ e).1;dsimp only at this;omega
def Xo(w:Y)(x:Int):Mb 2 (w.alloc (I #[J M x] 2)) w.heap.size (O (V ⟨w.heap.size,0,Z⟩) 1 1) [x]:=
 World.ownsRow_lit w #[J M x] 1 (nE _) dM rfl
def Lj(w:Y)(a D:Nat)(W W':Y):Prop:=KeepsFrom D W W'/\Se w a W W'
def Lj.refl(w:Y)(a D:Nat)(W:Y):Lj w a D W W:=⟨KeepsFrom.refl _ _,Se.refl _ _ _⟩
def Lj.set{w:Y}{a D:Nat}{W A:Y}(h:Lj w a D W A){p:G}(c:w.heap.size<=p.block)(b:p.block≠a)(u:X):Lj w a D W (A.setCell p u):=⟨h.1.trans ((KeepsOthers.setCell _ _ _).from _),h.2.set c b u⟩
def Lj.ext{w:Y}{a D:Nat}{W A C:Y}(h:Lj w a D W A)(k:Ba A C)(c:w.heap.size<=A.heap.size)(b:a<A.heap.size):Lj w a D W C:=⟨h.1.trans k.keepsFrom,h.2.ext k c b⟩
def Xg.rdI{w:Y}{a:X}{n:Nat}{L i:Int}{os:List Int}{W:Y}(h:Xg w a n L i os W):W.cell? ⟨w.heap.size+1+1+1+1+1+1,0,Z⟩=V (J M i)/\W.frozen? ⟨w.heap.size+1+1+1+1+1+1,0,Z⟩=false:=⟨cell_of_one h.2.2.2.2.2.2.1,free_of_one h.2.2.2.2.2.2.1⟩
def Xg.rdB{w:Y}{a:X}{n:Nat}{L i:Int}{os:List Int}{W:Y}(h:Xg w a n L i os W):W.cell? ⟨w.heap.size+1,0,Z⟩=V a:=cell_of_one h.2.2.1
def Xg.rdO{w:Y}{a:X}{n:Nat}{L i:Int}{os:List Int}{W:Y}(h:Xg w a n L i os W):W.cell? ⟨w.heap.size+1+1+1+1+1,0,Z⟩=V (O (V ⟨w.heap.size+1+1+1+1,0,Z⟩) n n):=cell_of_one h.2.2.2.2.2.1
def Xg.rdL{w:Y}{j:X}{n:Nat}{L i:Int}{os:List Int}{W:Y}(h:Xg w j n L i os W):∃a5 m5 c5,W.cell? ⟨w.heap.size+1+1+1,0,Z⟩=V (O a5 m5 c5)/\W.frozen? ⟨w.heap.size+1+1+1,0,Z⟩=false/\Jd W (N #[O a5 m5 c5]) L:=by obtain⟨k,l,m,o,⟨g,a,b,h6,e,f⟩,p,c,d⟩:=h;obtain⟨a5,c5,rfl⟩:=h6.form;exact⟨a5,_,c5,cell_of_one b,free_of_one b,Wg.u ⟨_,a,rfl,h6,e,f⟩⟩
def Xg.leftCell{w:Y}{d:X}{n:Nat}{L i:Int}{os:List Int}{W:Y}(h:Xg w d n L i os W)(sl:X):(W.setCell ⟨w.heap.size+1+1+1,0,Z⟩ sl).cell? ⟨w.heap.size+1+1+1,0,Z⟩=V sl:=by obtain⟨c,a,b,_⟩:=h.2.2.2.2.1;exact cell_of_one (one_setCell b)
def Xg.leftD{w:Y}{f:X}{n:Nat}{L L' i:Int}{os:List Int}{W:Y}(h:Xg w f n L i os W){sl:X}{ds:List Int}{base:Nat}(a:Mb 2 W base sl ds)(d:yg B ds)(hv:dv B ds=L'):Jd (W.setCell ⟨w.heap.size+1+1+1,0,Z⟩ sl) (N #[sl]) L':=by obtain⟨e,b,c,_⟩:=h.2.2.2.2.1;exact Wg.u ⟨_,ds,rfl,a.setOther (a.ne_block c dM) _,d,hv⟩
def Ut{a b:Int}(h:a<b):decide (Lc a b<0)=true:=by simp only[Lc];grind
def ru{a b:Int}(h:¬a<b):decide (Lc a b<0)=false:=by simp only[Lc];grind
def RG{k:Int}(a:0<=k)(b:k<18446744073709551616):Lm Rc k:=by refine Lm.mono (j:=3) ?_ dM;unfold Lm B;constructor<;>omega
def LK(k:Int):IntKind.u64.wrap k=k%18446744073709551616:=by simp[IntKind.wrap,IntKind.signed,IntKind.bits]
def Lm.le{k:Nat}{a b:Int}(h:Lm k b)(c:0<=a)(d:a<=b):Lm k a:=by have:=Ri Fi k;unfold Lm at *;omega
def nK{os:List Int}{j:Nat}(h:os[j]?=V 0):os.set j 0=os:=by obtain⟨a,b⟩:=lS.1 h;rw[<-b];exact List.set_getElem_self a
def Ap(w:Y)(a:X)(nb:Int)(n:Nat)(pre:List sj)(W:Y):Prop:=
 pre.length<=n/\∃os,Xg w a n (hv pre%nb) ((n:Int)-pre.length) os W/\os.length=n/\Zd B os/\dv B os=B ^ (n-pre.length)*(hv pre/nb)/\∀j,j<n-pre.length->os[j]?=V 0
def MM{os:List Int}{n p:Nat}{h x nb:Int}(i:p<n)(g:os.length=n)(c:dv B os=B ^ (n-p)*(h/nb))(d:os[n-(p+1)]?=V 0)(f:0<nb):dv B (os.set (n-(p+1)) ((x+B*(h%nb))/nb))=B ^ (n-(p+1))*((x+B*h)/nb):=by
 rw[Bn _ d,c,show n-p=(n-(p+1))+1 by omega,Int.pow_succ,Int.sub_zero];have e:(x+B*h)/nb=B*(h/nb)+(x+B*(h%nb))/nb:=by
  have a:h=nb*(h/nb)+h%nb:=(Int.mul_ediv_add_emod h nb).symm;have b:x+B*h=(x+B*(h%nb))+nb*(B*(h/nb)):=by
   generalize h/nb=q at *
   generalize h%nb=r at *
   subst a;grind
  rw[b,Int.add_mul_ediv_left _ _ oM,Int.add_comm]
 rw[e];generalize B ^ (n-(p+1))=P;generalize h/nb=q;generalize (x+B*(h%nb))/nb=r;grind
def xK{h x nb:Int}(a:0<nb):(x+B*h)%nb=(x+B*(h%nb))%nb:=by rw[Int.add_emod,Int.mul_emod,<-Int.emod_emod_of_dvd h (Int.dvd_refl nb),<-Int.mul_emod,<-Int.add_emod];rw[Int.emod_emod_of_dvd h (Int.dvd_refl nb)]
def vD{L x nb:Int}(a:0<=L)(b:L<nb)(c:0<=x/\x<16777216):0<=(x+B*L)/nb/\(x+B*L)/nb<16777216:=by unfold B;refine⟨Int.ediv_nonneg oM oM,Int.ediv_lt_of_lt_mul oM ?_⟩;omega
def Ap.next{w:Y}{l:X}{nb:Int}{n:Nat}{pre:List sj}{x:sj}{os:List Int}{W:Y}(h:Xg w l n ((x.1+B*(hv pre%nb))%nb) ((n:Int)-pre.length-1) (os.set (n-(pre.length+1)) ((x.1+B*(hv pre%nb))/nb)) W)(o:pre.length<n)(c:os.length=n)(i:Zd B os)(b:dv B os=B ^ (n-pre.length)*(hv pre/nb))(f:∀j,j<n-pre.length->os[j]?=V 0)(a:0<nb):Ap w l nb n (pre++[x]) W:=by
 have p:=x.2;have k:=vD (L:=hv pre%nb) (x:=x.1) (Int.emod_nonneg (hv pre) oM) (Int.emod_lt_of_pos (hv pre) a) p;refine⟨by simp;omega,os.set (n-(pre.length+1)) ((x.1+B*(hv pre%nb))/nb),?_,by simpa using c,?_,?_,?_⟩
 ·rw[Dv,xK a,lA,List.length_singleton];have e:((n:Int)-((pre.length+1:Nat):Int))=(n:Int)-pre.length-1:=oM;rw[e];exact h
 ·intro d g;rcases List.mem_or_eq_of_mem_set g with g|rfl
  ·exact i d g
  ·unfold B at k ⊢;exact k
 ·rw[Dv,lA,List.length_singleton];exact MM o c b (f _ oM) a
 ·intro j m;rw[lA,List.length_singleton]at m;rw[List.getElem?_set_ne oM];exact f j oM
def ZQ(w:Y)(b:X)(n:Nat)(L i:Int)(os:List Int)(a D:Nat)(W:Y)(t9:X)(wr:Y):Prop:=
 ∃k:Int,t9=J M k/\ -9223372036854775808<=k/\k<9223372036854775808/\Xg w b n L i os wr/\Lj w a D W wr
def jR(w:Y)(c:X)(n:Nat)(L i:Int)(os:List Int)(a D:Nat)(W:Y)(b:Bool)(t:X)(wr:Y):Prop:=
 t=F b/\Xg w c n L i os wr/\Lj w a D W wr
def SE(x:Int):-9223372036854775808<=IntKind.i64.wrap x/\IntKind.i64.wrap x<9223372036854775808/\IntKind.i64.wrap x%18446744073709551616=x%18446744073709551616:=by simp[IntKind.wrap,IntKind.signed,IntKind.bits];omega
def PM{k d a L nb:Int}(h:d%18446744073709551616=(k-1)%18446744073709551616)(f:a=k%18446744073709551616)(e:0<=L)(c:L<nb*a):(d%18446744073709551616).toNat<(k%18446744073709551616).toNat:=by
 have b:a≠0:=by rintro b;rw[b]at c;simp at c;omega
 omega
def iR(w:Y)(b:X)(n:Nat)(L i:Int)(os:List Int)(a D:Nat)(W:Y)(wr:Y):Prop:=
 Xg w b n L i os wr/\Lj w a D W wr
def YQ(w:Y)(b:X)(n:Nat)(L nb i:Int)(os:List Int)(a D:Nat)(W:Y)(t9:X)(wr:Y):Prop:=
 ∃k L2:Int,t9=J M k/\ -9223372036854775808<=k/\k<9223372036854775808/\0<=L2/\L2+nb*(k%18446744073709551616)=L/\Xg w b n L2 i os wr/\Lj w a D W wr
def Lm.dig{k:Nat}{ds:List Int}(h:Zd B ds)(a:ds.length<=k):Lm k (dv B ds):=by have c:=Gi Fi h;have d:=Im (b:=B) dM a;have e:=Ri Fi k;unfold Lm;omega
def tJ{a b:Int}(h:b<=a):decide (0<=Lc a b)=true:=by simp only[Lc];grind
def VL{a b:Int}(h:¬b<=a):decide (0<=Lc a b)=false:=by simp only[Lc];grind
def uI{nb L2 L a:Int}(b:0<nb)(g:0<=a)(f:L2+nb*a=L)(j:nb<=L2)(e:L<B*nb):a+1<=L/nb/\a+1<16777217:=by
 have c:(a+1)*nb<=L:=by rw[<-f,Int.add_mul,Int.mul_comm a nb];omega
 have i:a+1<=L/nb:=(Int.le_ediv_iff_mul_le b).2 c;have d:L/nb<B:=Int.ediv_lt_of_lt_mul b e;unfold B at d;omega
def zK{nb L2 L k:Int}(a:0<nb)(c:L2+nb*(k%18446744073709551616)=L)(b:0<=L2)(l:¬nb<=L2)(e:L<B*nb)(f:-9223372036854775808<=k)(g:k<9223372036854775808):k=L/nb/\L2=L%nb:=by
 have i:L/nb=k%18446744073709551616:=by rw[<-c,Int.add_mul_ediv_left _ _ oM,Int.ediv_eq_zero_of_lt b oM];omega
 have j:L%nb=L2:=by rw[<-c,Int.add_mul_emod_self_left,Int.emod_eq_of_lt b oM]
 have d:L/nb<B:=Int.ediv_lt_of_lt_mul a e;unfold B at d;omega
def vK{x r L nb:Int}(h:x+B*r=L)(b:x<16777216)(a:r<nb):L<B*nb:=by unfold B at *;omega
def Ed:Nat:=10000000
def OM{zs os:List Int}{ds:List sj}{m:Nat}{a nb:Int}(b:dv B zs=dv B os)(c:dv B os=B ^ (m-ds.reverse.length)*(hv ds.reverse/nb))(d:dv B (Jg ds)=a)(h4:ds.length=m):dv B zs=a/nb:=by rw[b,c,Uu,d,List.length_reverse,h4,Nat.sub_self];simp
def NM{a:List Int}{ds:List sj}{b nb:Int}(c:dv B a=hv ds.reverse%nb)(d:dv B (Jg ds)=b):dv B a=b%nb:=by rw[c,Uu,d]
def QO{w d:Y}{D:Nat}{tmps:Array X}{f nb:Int}{a4 a5:Option G}{b c:Nat}{zs a:List Int}{v2 v3:X}{x:Option (List Deferred)}(t4:tmps.getD 4 undef=E (V ⟨w.heap.size+1+1,0,Z⟩))(t5:tmps.getD 5 undef=E (V ⟨w.heap.size+1+1+1,0,Z⟩))(m:d.heap[w.heap.size+1+1]?=V (I #[v2] 59 (0,0)))(q3:d.heap[w.heap.size+1+1+1]?=V (I #[v3] 59 (0,0)))(t:Mb 2 d (w.heap.size+1+1+1+1) (O a4 zs.length b) zs)(u:Mb 2 d (w.heap.size+1+1+1+1+1+1+1+1) (O a5 a.length c) a)(Q:yg B zs)(P:yg B a)(R:dv B zs=f/nb)(S:dv B a=f%nb)(l:Ba w d)(g:((d.setCell ⟨w.heap.size+1+1,0,Z⟩ (O a4 zs.length b)).setCell ⟨w.heap.size+1+1+1,0,Z⟩ (O a5 a.length c)).heap[D]?=V (.deferred x))(hD:w.heap.size+1+1+1+1+1+1+1+1<=D):LeavesInM Fence.wide 6 Tryz.prog Tryz.f182 tmps (fun e s=>∃q r,e=.returned (.tuple #[q,r])/\Wg s w.heap.size q (f/nb)/\Wg s w.heap.size r (f%nb)/\Ba w s) [] FrameMode.returning (((d.setCell ⟨w.heap.size+1+1,0,Z⟩ (O a4 zs.length b)).setCell ⟨w.heap.size+1+1+1,0,Z⟩ (O a5 a.length c)).putObj D (.deferred Z)):=by
 have r2:(d.setCell ⟨w.heap.size+1+1,0,Z⟩ (O a4 zs.length b)).heap[w.heap.size+1+1]?=V (I #[O a4 zs.length b] 59 (0,0)):=one_setCell m;have n:(d.setCell ⟨w.heap.size+1+1,0,Z⟩ (O a4 zs.length b)).heap[w.heap.size+1+1+1]?=V (I #[v3] 59 (0,0)):=(bS _ _ _ _ dO).trans q3;have v:=t.setOther (p:=⟨w.heap.size+1+1,0,Z⟩) (t.ne_block m dM) (O a4 zs.length b);have y:=u.setOther (p:=⟨w.heap.size+1+1,0,Z⟩) (u.ne_block m dM) (O a4 zs.length b);have i:=l.set (p:=⟨w.heap.size+1+1,0,Z⟩) dO (O a4 zs.length b);generalize d.setCell ⟨w.heap.size+1+1,0,Z⟩ (O a4 zs.length b)=w4 at *
 have s2:(w4.setCell ⟨w.heap.size+1+1+1,0,Z⟩ (O a5 a.length c)).heap[w.heap.size+1+1]?=V (I #[O a4 zs.length b] 59 (0,0)):=(bS _ _ _ _ dO).trans r2;have s3:(w4.setCell ⟨w.heap.size+1+1+1,0,Z⟩ (O a5 a.length c)).heap[w.heap.size+1+1+1]?=V (I #[O a5 a.length c] 59 (0,0)):=one_setCell n;have T:=v.setOther (p:=⟨w.heap.size+1+1+1,0,Z⟩) (v.ne_block n dM) (O a5 a.length c);have W:=y.setOther (p:=⟨w.heap.size+1+1+1,0,Z⟩) (y.ne_block n dM) (O a5 a.length c);have j:=i.set (p:=⟨w.heap.size+1+1+1,0,Z⟩) dO (O a5 a.length c);generalize w4.setCell ⟨w.heap.size+1+1+1,0,Z⟩ (O a5 a.length c)=w5 at *
 have z:=cell_of_one ((World.putObj_heap_other (w:=w5) (r:=D) (o:=.deferred Z) oM).trans s2);have K:=cell_of_one ((World.putObj_heap_other (w:=w5) (r:=D) (o:=.deferred Z) oM).trans s3);have m4:=T.keep (Ia.putObj (o:=.deferred Z) g);have m5:=W.keep (Ia.putObj (o:=.deferred Z) g);refine⟨.tuple #[N #[O a4 zs.length b],N #[O a5 a.length c]],?_,_,_,rfl,⟨_,zs,rfl,m4.mono oM,Q,R⟩,⟨_,a,rfl,m5.mono oM,P,S⟩,?_⟩
 ·simp only[Array.getD_eq_getD_getElem?]at t4 t5;simp[results,Tryz.results182,go_sem,t4,t5,z,K]
 ·exact j.y ((Below.refl D w5).grown (grownBy_putObj' w5 D _) (by have:=Gb g;omega) (fun k e=>by cases e;omega)) oM
def tC(w:Y)(va vb:X)(na nb:Int)(ha:Jd w va na)(hb:Jd w vb nb)(bq:Lm Ed na)(cb:Lm Ed nb)(ag:0<nb):Calls Tryz.prog 182 #[va,vb] w fun e w'=>∃q r,e=.returned (.tuple #[q,r])/\Wg w' w.heap.size q (na/nb)/\Wg w' w.heap.size r (na%nb)/\Ba w w':=by
 obtain⟨a,m,c,rfl⟩:=ha.form;obtain⟨a',m',c',rfl⟩:=hb.form;obtain⟨xs,hl,hi,hc,hv⟩:=ha.open;have hm:=bq.len hc hv;rw[hl]at hm;unfold Ed at hm;obtain⟨ds,rfl⟩:=lv hc.1;have Hl:=Aa hl;have Hv:=Aa hv;clear hl hv;have dr:∀(fn:Fn)(first cap:Array X)(w:Y),(Instr.makeFunc fn first cap).run Tryz.prog w = .ok (.func fn first cap) w:=fun _ _ _ _=>rfl;refine(callsIn_wide (n:=6)).1 ?_;refine callsIn_of_wp_marks Tryz.func182 rfl trivial ?_ rfl;simp only[Tryz.ntmps182,List.size_toArray,List.length_cons,List.length_nil,Nat.reduceAdd,Nat.reduceSub,Array.replicate_succ,Array.replicate_zero,List.push_toArray,List.append_toArray,List.nil_append,List.cons_append]
 gi_wp2_with(first|(gi_at_make;refine OG tl Tryz.underlying57 rfl _ _ rfl _ rfl rfl rfl oM ?_;intro cs ai)|(refine⟨trivial,?_⟩;gi_at_call 189;refine(callsIn_wide.2 (lC _ _ _ _)).mono ?_;rintro e w' ⟨rfl,rfl⟩))
 have bm:((((((((w.alloc (I #[O a m c] 59)).alloc (I #[O a' m' c'] 59)).alloc (I #[O Z 0 0] 59)).alloc (I #[O Z 0 0] 59)).alloc (I cs 2)).alloc (I #[O (V ⟨w.heap.size+1+1+1+1,0,Z⟩) m m] 57)).alloc (I #[J M m] 3)).alloc (I #[O a m c] 59)).cell? ⟨w.heap.size+1+1+1+1+1+1+1,0,Z⟩=V (O a m c):=by
  rw[World.cell?_alloc_at _ _ _ _ sM];rfl
 refine wpIn_rangeFunc_ownG rfl dM (gf:=237) (lb:=#[E (V ⟨w.heap.size+1+1+1+1+1+1+1,0,Z⟩)]) rfl trivial (enters_of Tryz.func237 kM rfl)
  (WD _ _ trivial rfl dM (w.heap.size+1+1+1+1+1+1+1) w _ _ ds bm sM hi eA) Se.trans (Se.put (by simp;omega) sM) (Below.refl _ _) (fun _=>rfl)
  (Ap w (O a' m' c') nb m) (fun _ _ _=>False) (Gm (fun s W h=>by obtain⟨_,os,h,_⟩:=h;have:=h.2.1;simp;omega) (fun s W W' h k=>?hsim)) (fun _=>Gm (fun _ _ h=>h.elim) (fun _ _ _ h _=>h)) ?h0
  (fun x=>{ tmps:=#[N #[O a m c],N #[O a' m' c'],E (V ⟨w.heap.size,0,Z⟩),E (V ⟨w.heap.size+1,0,Z⟩),E (V ⟨w.heap.size+1+1,0,Z⟩),E (V ⟨w.heap.size+1+1+1,0,Z⟩),E (V ⟨w.heap.size+1+1+1+1+1,0,Z⟩),E (V ⟨w.heap.size+1+1+1+1+1+1,0,Z⟩),J M x.1,undef,E (V ⟨w.heap.size,0,Z⟩),O a m c,J M m,O (V ⟨w.heap.size+1+1+1+1,0,Z⟩) m m,E (V ⟨w.heap.size,0,Z⟩),O a m c,J M m,N #[O a m c],.func (.func 237) #[] #[E (V ⟨w.heap.size+1+1+1+1+1+1+1,0,Z⟩)],J M x.1,undef,undef,undef,undef,undef,undef,undef,undef,undef,undef,undef,undef,undef,undef,undef,undef,undef,undef,undef,undef,undef,undef,undef,undef,undef,undef,undef,undef,undef,undef,undef,undef,undef,undef,undef,undef,undef,undef,undef,undef,undef,undef,undef,undef,undef,undef,undef,undef],defers:=[] }) ?assign ?body ?done ?stop
 case hsim =>
  obtain⟨h1,os,h2,h3⟩:=h;exact⟨h1,os,h2.keep (k.ext h2.1 (by simp;omega)) k.keep k.size,h3⟩
 case h0 =>
  refine⟨by simp,List.replicate m 0,⟨eA,by simp,(by simp only[Ag,wZ];simp),(by simp only[Ag,wZ];simp),⟨_,[],(by simp only[Ag,wZ];simp),Mb.nil _ _ _,yg.nil _,by simp[hv,Jg]⟩,(by simp only[Ag,wZ];simp),by simp only[Ag,wZ];simp,?_⟩,by simp,?_,by rw[Un];simp[hv,Jg],?_⟩
  ·simpa using ((ai.alloc _).alloc _).alloc _
  ·intro d hd;have:=(List.mem_replicate.1 hd).2;unfold B;omega
  ·intro j hj;simp at hj;simp[hj]
 case assign =>
  intro l x W K hK
  gi_wp2
  exact hK
 case body =>
  rintro l pre x W ⟨h1,os,ah,aF,ap,ac,aS⟩ ce;have c3:=Aa bq;have bi:=Aa cb;clear bq cb;have ck:=x.2.1;have bt:=x.2.2;obtain⟨de,dk⟩:=ah.rdI;obtain⟨a5,m5,c5,bT,b4,bF⟩:=ah.rdL;have db:=ah.2.1;have c9:=Aa ce;have bj:=Aa aF;have al:=Aa ac;have aL:=Aa aS;have cp:=Aa ah;have cl:=Aa bF;have ch:pre.length<m:=by have h5:=Hl.o;have h6:=Bu ds;omega
  have dp:IntKind.i64.wrap ((m:Int)-pre.length-1)=(m:Int)-pre.length-1:=iW _ oM;clear ce aF ac aS ah bF ai bm;have ak:=cp.o.num ((m:Int)-pre.length-1);obtain⟨W1,af⟩:=gX (W.setCell ⟨w.heap.size+1+1+1+1+1+1,0,Z⟩ (J M ((m:Int)-pre.length-1)));rw[af]at ak;have cQ:W1.heap.size=W.heap.size:=by rw[<-af,Bg]
  obtain⟨a6,m6,c6,bV,dm,bk⟩:=ak.rdL;have bW:((W.setCell ⟨w.heap.size+1+1+1+1+1+1,0,Z⟩ (J M ((m:Int)-pre.length-1))).alloc (I #[J M x.1] 2)).cell? ⟨w.heap.size+1+1+1,0,Z⟩=V (O a6 m6 c6):=by
   rw[af,World.cell?_alloc_lt _ _ _ dO];exact bV
  have co:=Aa ak;have c1:=Aa bk;have bg:=Aa af;obtain⟨es,b0,bZ,bY,b3⟩:=bk.open;have bz:=Aa b3;have c2:=Aa b0;have aG:Mb 2 ((W.setCell ⟨w.heap.size+1+1+1+1+1+1,0,Z⟩ (J M ((m:Int)-pre.length-1))).alloc (I #[J M x.1] 2)) W.heap.size (O (V ⟨W.heap.size,0,Z⟩) 1 1) [x.1]:=by
   rw[af,<-cQ];exact Xo W1 x.1
  have a0:Pc 2 ((W.setCell ⟨w.heap.size+1+1+1+1+1+1,0,Z⟩ (J M ((m:Int)-pre.length-1))).alloc (I #[J M x.1] 2)) (O a6 m6 c6) es:=by
   rw[af];exact bZ.ext eA
  have cY:es.length<=10000000:=by
   have:=Lm.len (bi.o.le (Int.emod_nonneg _ oM) (Int.le_of_lt (Int.emod_lt_of_pos (hv pre) ag))) bY bz.o;exact this
  have b1:[x.1].length+es.length<=1000000000000:=by simp;omega
  have b2:([x.1]++es).length<=1000000000:=by simp;omega
  have bn:Zd B ([x.1]++es):=by
   intro y hy;rcases List.mem_append.1 hy with hy|hy
   ·cases List.mem_singleton.1 hy;exact⟨ck,bt⟩
   ·exact bY.1 y hy
  have cI:∀y∈[x.1]++es,-4611686018427387904<=y/\y<=4611686018427387904:=by
   intro y hy;have:=bn y hy;unfold B at this;omega
  have bo:0<=dv B ([x.1]++es):=(Gi Fi bn).1;obtain⟨L',bl⟩:∃L',x.1+B*(hv pre%nb)=L':=⟨_,rfl⟩;have a1:dv B ([x.1]++es)=L':=by rw[<-bl,<-bz.o];simp
  have ba:=Aa bl;have S:=Aa a1;clear bl a1;have aY:W.heap.size<=((W.setCell ⟨w.heap.size+1+1+1+1+1+1,0,Z⟩ (J M ((m:Int)-pre.length-1))).alloc (I #[J M x.1] 2)).heap.size:=sM;clear af bk bV ak b3 b0 bT b4 cl bZ
  gi_wp2_with(gi_at_builtin;go_loud (refine lJ tl Tryz.underlying57 rfl _ _ rfl rfl aG rfl a0 b1 aY ?_);intro v' w1 t P aP;have cR:=nT aY P.size)
  refine⟨trivial,?_⟩;(with_reducible refine(CallsIn.inRound l (callsIn_wide.2 (Zw W.heap.size v' ([x.1]++es) w1 t cR b2 cI bo))).mono ?_);rintro e w2 ⟨v2,zs,rfl,aV,aj,Q,bP,cH⟩;obtain⟨a7,c7,rfl⟩:=Q.form;have bv:Ba W1 w2:=by
   rw[bg.o]at P;exact(((eR W1).alloc _).y P oM).y bP oM
  have au:=co.o.ext bv;have aK:=au.left (Q.mono oM) aV (aj.trans S.o);obtain⟨_,_,_,cw,cJ,_⟩:=au.rdL;have cC:=au.leftCell (O a7 zs.length c7);have bQ:=aK.rdB;have a9:=au.leftD Q aV (aj.trans S.o);have aJ:=hb.ext aK.1;have ar:=Aa aK;have bD:=Aa aj;have ae:=Aa bv;clear au aK aj bv bW aG a0 P t cH bP Q aP;have aM:0<=L':=by rw[<-S.o];exact bo
  by_cases aR:L'<nb
  ·have cF:=Ut aR
   gi_wp2_with(refine⟨trivial,?_⟩;gi_at_call 226;(with_reducible refine(CallsIn.inRound l (callsIn_wide.2 (Np _ _ _ _ _ a9 aJ))).mono ?_);rintro e w4 ⟨rfl,u⟩)
   have hP:Lj w (w.heap.size+1+1+1+1+1+1+1) (w.heap.size+1+1+1+1+1+1+1+1) W w4:=by
    have h5:=(Lj.refl w (w.heap.size+1+1+1+1+1+1+1) (w.heap.size+1+1+1+1+1+1+1+1) W).set (p:=⟨w.heap.size+1+1+1+1+1+1,0,Z⟩) dO dO (J M ((m:Int)-pre.length-1));rw[bg.o]at h5;have h6:=ae.o.size;exact((h5.ext ae.o oM oM).set (p:=⟨w.heap.size+1+1+1,0,Z⟩) dO dO _).ext u (by rw[Bg];omega) (by rw[Bg];omega)
   have hI:Ap w (O a' m' c') nb m (pre++[x]) w4:=by
    refine Ap.next (os:=os) ?_ ch bj.o ap al.o aL.o ag;have h0:=ba.o;have h1:=(vD (L:=hv pre%nb) (x:=x.1) (Int.emod_nonneg (hv pre) oM) (Int.emod_lt_of_pos (hv pre) ag) ⟨ck,bt⟩);rw[h0];(have aM:0<=L':=by rw[<-S.o];exact bo);rw[Int.emod_eq_of_lt aM aR,Int.ediv_eq_zero_of_lt aM aR,nK (aL.o _ oM)];exact ar.o.ext u
   refine⟨?_,hP.2,hI⟩;have:=hP.1;simpa using this
  ·have cF:=ru aR;have bL:Lj w (w.heap.size+1+1+1+1+1+1+1) (w.heap.size+1+1+1+1+1+1+1+1) W (w2.setCell ⟨w.heap.size+1+1+1,0,Z⟩ (O a7 zs.length c7)):=by
    have h5:=(Lj.refl w (w.heap.size+1+1+1+1+1+1+1) (w.heap.size+1+1+1+1+1+1+1+1) W).set (p:=⟨w.heap.size+1+1+1+1+1+1,0,Z⟩) dO dO (J M ((m:Int)-pre.length-1));rw[bg.o]at h5;exact(h5.ext ae.o oM oM).set (p:=⟨w.heap.size+1+1+1,0,Z⟩) dO dO _
   have bx:=Aa bL;clear bL
   gi_wp2_with(first|(refine⟨trivial,?_⟩;gi_at_call 226;(with_reducible refine(CallsIn.inRound l (callsIn_wide.2 (Np _ _ _ _ _ a9 aJ))).mono ?_);rintro e w4 ⟨rfl,u⟩;obtain⟨a8,m8,c8,T,ao,i⟩:=(ar.o.ext u).rdL;have aa:=(ar.o.ext u).rdB;have f:=aJ.ext u)|(refine⟨trivial,?_⟩;gi_at_call 236;(with_reducible refine(CallsIn.inRound l (callsIn_wide.2 (jL _ _ _ _ _ i f (bi.o.mono dM)))).mono ?_);rintro e w5 ⟨⟨k0,rfl,bp⟩,bu⟩))
   have bB:=(ar.o.ext u).ext bu;have bN:=(bx.o.ext u (by rw[Bg];have h6:=ae.o.size;omega) (by rw[Bg];have h6:=ae.o.size;omega)).ext bu (by have h7:=u.size;rw[Bg]at h7;have h6:=ae.o.size;omega) (by have h7:=u.size;rw[Bg]at h7;have h6:=ae.o.size;omega);clear T ao i aa f a9 aJ cw cJ cC bQ bx
   gi_loopw [9] (ZQ w (O a' m' c') m L' ((m:Int)-pre.length-1) os (w.heap.size+1+1+1+1+1+1+1) (w.heap.size+1+1+1+1+1+1+1+1) W) (fun t9 _=>(intOf t9%18446744073709551616).toNat)
   case atStart=>exact⟨k0,rfl,bp.1,by have:=bp.2;omega,bB,bN⟩
   case round =>
    clear bB bN u bu bp;obtain⟨k,rfl,b5,b7,Ho,hP⟩:=hrel;obtain⟨a8,m8,c8,T,ao,i⟩:=Ho.rdL;have aa:=Ho.rdB;have f:=hb.ext Ho.1;have R:=Aa Ho;have HP:=Aa hP;have aT:=Ho.2.1;obtain⟨kk,b8⟩:=gX (IntKind.u64.wrap k);(have b9:kk=k%18446744073709551616:=by rw[<-b8,LK]);have am:0<=kk:=oM;have aD:kk<18446744073709551616:=oM;have bf:=Aa (RG am aD);have bc:Sa (Lm Rc nb):=Aa (bi.o.mono dM);have bh:=Aa b9;clear Ho hP ar b9
    gi_wp2
    gi_cut [42]from 1000 (jR w (O a' m' c') m L' ((m:Int)-pre.length-1) os (w.heap.size+1+1+1+1+1+1+1) (w.heap.size+1+1+1+1+1+1+1+1) W (decide (Lc L' (nb*kk)<0)))
    case first =>
     gi_region_with (first|(refine⟨trivial,?_⟩;gi_at_call 188;(with_reducible refine(CallsIn.inRound l (callsIn_wide.2 (Lp _ kk am aD))).mono ?_);rintro e wa ⟨r1,rfl,aH,b⟩;obtain⟨ax,mx,cx,rfl⟩:=aH.u.form;have av:=b.d T;have bU:=b.d aa)|(refine⟨trivial,?_⟩;gi_at_call 195;(with_reducible refine(CallsIn.inRound l (callsIn_wide.2 (YC _ _ _ nb kk ?_ ?_ bc.o bf.o))).mono ?_);(refine f.ext ?_;exact eA);(refine aH.u.ext ?_;exact eA);rintro e wb ⟨r2,rfl,aI,z⟩;obtain⟨ay,my,cy,rfl⟩:=aI.u.form;have aZ:=z.d av)|(refine⟨trivial,?_⟩;gi_at_call 226;(with_reducible refine(CallsIn.inRound l (callsIn_wide.2 (Np _ _ _ L' (nb*kk) ?_ ?_))).mono ?_);(refine i.ext ?_;exact eA);(refine aI.u.ext ?_;exact eA);rintro e wz ⟨rfl,an⟩))
     all_goals gi_wp2
     all_goals gi_meet
     all_goals
      have aq:Ba wr wz:=by
       have h1:Ba wr wa:=(eR wr).drew.trans b;exact(h1.trans z).trans an
      exact⟨rfl,R.o.ext aq,HP.o.ext aq oM oM⟩
    case rest =>
     clear R HP T ao i aa f aT;obtain⟨rfl,Ho,hP⟩:=hcut;have R:=Aa Ho;have HP:=Aa hP;clear Ho hP;by_cases br:L'<nb*kk
     ·have aw:=Ut br;obtain⟨k1,b6⟩:=gX (IntKind.i64.wrap (k-1));have ab:=SE (k-1);rw[b6]at ab;rw[aw]
      gi_wp2
      go_roundw
      case rel=>exact⟨k1,rfl,ab.1,ab.2.1,R.o,HP.o⟩
      case measure =>
       have:=PM ab.2.2 bh.o aM br;simpa[intOf] using this
     ·have aw:=ru br;rw[aw];have cd:nb*kk<=L':=oM;have cg:0<=nb*kk:=Int.mul_nonneg oM am;have bb:Sa (Lm Rc L'):=Aa (by rw[<-S.o];exact Lm.dig bn (by unfold Rc;simp;omega));have bw:Sa (Lm Rc (nb*kk)):=Aa (bb.o.le cg cd);obtain⟨a8,m8,c8,T,ao,i⟩:=R.o.rdL;have aa:=R.o.rdB;have f:=hb.ext R.o.1;have aT:=R.o.2.1
      gi_wp2
      gi_cut []from 1000 (iR w (O a' m' c') m (L' + -1*(nb*kk)) ((m:Int)-pre.length-1) os (w.heap.size+1+1+1+1+1+1+1) (w.heap.size+1+1+1+1+1+1+1+1) W)
      case first =>
       gi_region_with (first|(refine⟨trivial,?_⟩;gi_at_call 188;(with_reducible refine(CallsIn.inRound l (callsIn_wide.2 (Lp _ kk am aD))).mono ?_);rintro e wa ⟨r1,rfl,aH,b⟩;obtain⟨ax,mx,cx,rfl⟩:=aH.u.form;have av:=b.d T;have bU:=b.d aa)|(refine⟨trivial,?_⟩;gi_at_call 195;(with_reducible refine(CallsIn.inRound l (callsIn_wide.2 (YC _ _ _ nb kk ?_ ?_ bc.o bf.o))).mono ?_);(refine f.ext ?_;exact eA);(refine aH.u.ext ?_;exact eA);rintro e wb ⟨r2,rfl,aI,z⟩;obtain⟨ay,my,cy,rfl⟩:=aI.u.form;have aZ:=z.d av)|(refine⟨trivial,?_⟩;gi_at_call 187;(with_reducible refine(CallsIn.inRound l (callsIn_wide.2 (Tq _ _ _ L' (nb*kk) (-1) ?_ ?_ bb.o bw.o oM oM))).mono ?_);(refine i.ext ?_;exact eA);(refine aI.u.ext ?_;exact eA);rintro e wz ⟨r3,rfl,⟨cV,d3,rfl,aE,aC,bs⟩,an⟩;obtain⟨az,cz,rfl⟩:=aE.form;have aq:Ba wc wz:=(((eR wc).drew.trans b).trans z).trans an;obtain⟨_,_,_,cD,cK,_⟩:=(R.o.ext aq).rdL))
       all_goals gi_wp2
       all_goals gi_meet
       all_goals
        have cS:=b.size;have cT:=z.size;have dt:=an.size;exact⟨(R.o.ext aq).left (aE.mono (by simp only[World.size_drew]at *;omega)) aC bs,(HP.o.ext aq oM oM).set dO dO _⟩
      case rest =>
       clear R HP T ao i aa f aT bf bw;obtain⟨bC,bO⟩:=hcut;have bJ:=vK ba.o bt (Int.emod_lt_of_pos (hv pre) ag)
       gi_wp2
       gi_loopw [9] (YQ w (O a' m' c') m L' nb ((m:Int)-pre.length-1) os (w.heap.size+1+1+1+1+1+1+1) (w.heap.size+1+1+1+1+1+1+1+1) W) (fun t9 _=>(L'/nb-intOf t9%18446744073709551616).toNat)
       case atStart=>exact⟨k,L' + -1*(nb*kk),rfl,b5,b7,by omega,by rw[<-bh.o];omega,bC,bO⟩
       case round =>
        clear bC bO b5 b7 b8 bh;obtain⟨k',L2,rfl,cO,cP,bI,bK,Ho,hP⟩:=hrel;obtain⟨aA,mA,cA,T,ao,i⟩:=Ho.rdL;have aa:=Ho.rdB;have f:=hb.ext Ho.1;have aT:=Ho.2.1;have cf:0<=k'%18446744073709551616:=oM;have cN:0<=nb*(k'%18446744073709551616):=Int.mul_nonneg oM cf;have be:=Aa bK;have cm:Sa (Lm Rc L2):=Aa (bb.o.le bI oM);have R:=Aa Ho;have HP:=Aa hP;clear Ho hP bK cN;by_cases aQ:nb<=L2
        ·have bX:=tJ aQ;have cj:=uI ag cf be.o aQ bJ;obtain⟨k3,cL⟩:=gX (IntKind.i64.wrap (k'+1));have ab:=SE (k'+1);rw[cL]at ab;have a3:k3%18446744073709551616=k'%18446744073709551616+1:=oM;have bA:=Aa ab;have aX:=Aa a3;have cq:=Aa cj;clear ab a3 cj
         gi_wp2_with(first|(refine⟨trivial,?_⟩;gi_at_call 226;(with_reducible refine(CallsIn.inRound l (callsIn_wide.2 (Np _ _ _ _ _ i f))).mono ?_);rintro e w6 ⟨rfl,v⟩;obtain⟨aB,mB,cB,aZ,cZ,bG⟩:=(R.o.ext v).rdL;have cW:=(R.o.ext v).rdB;have bE:=f.ext v)|(refine⟨trivial,?_⟩;gi_at_call 187;(with_reducible refine(CallsIn.inRound l (callsIn_wide.2 (Tq _ _ _ L2 nb (-1) bG bE cm.o bc.o oM oM))).mono ?_);rintro e w7 ⟨r3,rfl,⟨cV,d3,rfl,aE,aC,bs⟩,aU⟩;obtain⟨az,cz,rfl⟩:=aE.form;obtain⟨_,_,_,cD,cK,_⟩:=((R.o.ext v).ext aU).rdL))
         go_roundw
         case rel =>
          have cS:=v.size;have cT:=aU.size;refine⟨k3,L2 + -1*nb,rfl,bA.o.1,bA.o.2.1,by omega,?_,((R.o.ext v).ext aU).left (aE.mono oM) aC bs,(((HP.o.ext v oM oM).ext aU oM oM)).set dO dO _⟩;rw[aX.o,Int.mul_add,<-be.o];omega
         case measure =>
          have h5:=aX.o;have h6:=cq.o.1;simp only[intOf];omega
        ·have bX:=VL aQ;have a2:=zK ag be.o bI aQ bJ cO cP;obtain⟨j,hj⟩:∃j:Nat,(m:Int)-pre.length-1=j/\j=m-(pre.length+1):=⟨m-(pre.length+1),by omega,rfl⟩;have dq:j<m:=oM;have aW:=Aa a2;have Hj:=Aa hj;clear a2 hj
         gi_wp2_with(refine⟨trivial,?_⟩;gi_at_call 226;(with_reducible refine(CallsIn.inRound l (callsIn_wide.2 (Np _ _ _ _ _ i f))).mono ?_);rintro e w6 ⟨rfl,v⟩;have ad:=R.o.ext v;rw[Hj.o.1]at ad;have dg:=ad.rdI.1;have dh:=ad.rdO;have di:=ad.2.2.2.2.2.2.2.cell (aL.o j (by have:=Hj.o.2;omega));have dn:=ad.2.2.2.2.2.2.2.frozen j;have cn:=Aa ad;clear ad)
         have bM:=(HP.o.ext v oM oM).set (p:=⟨w.heap.size+1+1+1+1,j,Z⟩) dO dO (J M k');have hI:Ap w (O a' m' c') nb m (pre++[x]) (w6.setCell ⟨w.heap.size+1+1+1+1,j,Z⟩ (J M k')):=by
          refine Ap.next (os:=os) ?_ ch bj.o ap al.o aL.o ag;rw[ba.o,<-aW.o.1,<-aW.o.2,Hj.o.1,<-Hj.o.2];exact cn.o.o j k'
         refine⟨?_,bM.2,hI⟩;have:=bM.1;simpa using this
 case done =>
  rintro D ys W hD rfl ⟨h1,os,ah,aF,ap,ac,aS⟩ hK;obtain⟨g1,g2,g3,g4,⟨sl,dl,g5,g6,g7,g8⟩,g9,cr,ct⟩:=ah;obtain⟨a5,c5,rfl⟩:=g6.form;have dc:=cell_of_one g4;have dj:=free_of_one g4;have bT:=cell_of_one g5;have b4:=free_of_one g5;have dd:=cell_of_one g9;have da:w.heap.size<=D:=by simp at hD;omega
  have bj:=Aa aF;have H4:=Aa g4;have H5:=Aa g5;have H8:=Aa g8;have al:=Aa ac;have ci:0<=dv B os:=(Gi Fi ap).1;have cc:os.length<=1000000000:=oM;clear aF g3 g4 g5 g8 g9 cr ac aS ai bm h1
  gi_wp2
  gi_region_with (first|(refine⟨trivial,?_⟩;gi_at_call 235;(with_reducible refine(callsIn_wide.2 (Ww (w.heap.size+1+1+1+1) _ os _ (vk ct) ?_ cc ?_ ci)).mono ?_);(simp only[World.size_drew];omega);(intro x hx;have:=ap x hx;unfold B at this;omega);rintro e w3 ⟨v',zs,rfl,aV,aj,t,aO,cG,ca,-⟩;obtain⟨cX,c0⟩:=Yn aO;obtain⟨a4,c4,rfl⟩:=t.form;have bD:=Aa aj;clear aj;have cv:w3.heap[D]?=V (.deferred (V [])):=cG D _ hK (fun _ _ e=>by cases e)))
  all_goals gi_wp2
  all_goals
   have bH:((w3.setCell ⟨w.heap.size+1+1,0,Z⟩ (O a4 zs.length c4)).setCell ⟨w.heap.size+1+1+1,0,Z⟩ (O a5 dl.length c5)).heap[D]?=V (.deferred (V [])):=by
    rw[bS _ _ _ _ (by simp at hD;dsimp only;omega),bS _ _ _ _ (by simp at hD;dsimp only;omega)];exact cv
   refine⟨by simp,.inl ⟨_,_,rfl,run_takeDeferred bH,?_⟩⟩;have cu:w.heap.size+1+1+1+1+1+1+1+1<=D:=by simpa using hD
   have q2:w3.heap[w.heap.size+1+1]?=V (I #[O Z 0 0] 59 (0,0)):=(aO.block _ oM).trans H4.o;have q3:w3.heap[w.heap.size+1+1+1]?=V (I #[O a5 dl.length c5] 59 (0,0)):=(aO.block _ oM).trans H5.o;have o5:Mb 2 w3 (w.heap.size+1+1+1+1+1+1+1+1) (O a5 dl.length c5) dl:=Mb.stay (vk g6) (fun g o hg hh=>ca ap g o hh (by simp[Value.ownBlock];omega));have cU:Ba w w3:=(g1.drew).y aO oM;refine QO ?_ ?_ q2 q3 t o5 aV g7 (OM bD.o al.o Hv.o (by have:=Hl.o;simpa[Jg] using this)) (NM H8.o Hv.o) cU bH cu<;>rfl
 case stop =>
  rintro D c pre W _ _ h _;exact h.elim
end
section
open Go.RowKit Go.Shelf
def Mg(w:Y)(p:G):w.drew.cell? p=w.cell? p:=rfl
def Lg(w:Y)(p:G):w.drew.frozen? p=w.frozen? p:=rfl
def Cc(w:Y):w.drew.heap.size=w.heap.size:=rfl
def Ba.lt{a b:Y}(h:Ba a b){n:Nat}(c:n<a.heap.size):n<b.heap.size:=Nat.lt_of_lt_of_le c h.size
def oo{a c:Y}{A:Prop}(h:Ba a c)(e:((∀b o,b<a.heap.size->c.cell? ⟨b,o,Z⟩=a.cell? ⟨b,o,Z⟩)/\(∀b o,b<a.heap.size->c.frozen? ⟨b,o,Z⟩=a.frozen? ⟨b,o,Z⟩))->A:=by(intro h;(try simp only[Mg,Lg,Cc]at h);exact h)):A:=e h.cells
def Md(w:Y){a c:Y}{A:Prop}(h:Ba a c)(d:w.heap.size<a.heap.size:=by go_simp)(e:((∀b o,b<a.heap.size->c.cell? ⟨b,o,Z⟩=a.cell? ⟨b,o,Z⟩)/\(∀b o,b<a.heap.size->c.frozen? ⟨b,o,Z⟩=a.frozen? ⟨b,o,Z⟩))->A:=by(intro h;(try simp only[Mg,Lg,Cc]at h);exact h)):A/\w.heap.size<c.heap.size:=⟨e h.cells,h.lt d⟩
def Zb(w:Y){a c:Y}{A:Prop}(h:Ba a c)(d:w.heap.size+1<a.heap.size:=by go_simp)(e:((∀b o,b<a.heap.size->c.cell? ⟨b,o,Z⟩=a.cell? ⟨b,o,Z⟩)/\(∀b o,b<a.heap.size->c.frozen? ⟨b,o,Z⟩=a.frozen? ⟨b,o,Z⟩))->A:=by(intro h;(try simp only[Mg,Lg,Cc]at h);exact h)):A/\w.heap.size<c.heap.size/\w.heap.size+1<c.heap.size:=⟨e h.cells,h.lt oM,h.lt d⟩
def Yb(w:Y){a c:Y}{A:Prop}(h:Ba a c)(d:w.heap.size+1+1<a.heap.size:=by go_simp)(e:((∀b o,b<a.heap.size->c.cell? ⟨b,o,Z⟩=a.cell? ⟨b,o,Z⟩)/\(∀b o,b<a.heap.size->c.frozen? ⟨b,o,Z⟩=a.frozen? ⟨b,o,Z⟩))->A:=by(intro h;(try simp only[Mg,Lg,Cc]at h);exact h)):A/\w.heap.size<c.heap.size/\w.heap.size+1<c.heap.size/\w.heap.size+1+1<c.heap.size:=⟨e h.cells,h.lt oM,h.lt oM,h.lt d⟩
def Zr(w:Y){a c:Y}{A:Prop}(h:Ba a c)(d:w.heap.size+1+1+1<a.heap.size:=by go_simp)(e:((∀b o,b<a.heap.size->c.cell? ⟨b,o,Z⟩=a.cell? ⟨b,o,Z⟩)/\(∀b o,b<a.heap.size->c.frozen? ⟨b,o,Z⟩=a.frozen? ⟨b,o,Z⟩))->A:=by(intro h;(try simp only[Mg,Lg,Cc]at h);exact h)):A/\w.heap.size<c.heap.size/\w.heap.size+1<c.heap.size/\w.heap.size+1+1<c.heap.size/\w.heap.size+1+1+1<c.heap.size:=⟨e h.cells,h.lt oM,h.lt oM,h.lt oM,h.lt d⟩
def ld(T:TypeId)(w:Y)(b:Nat):Prop:=∀cs fr,w.heap[b]?≠V (I cs T fr)
def ld.new{T T':TypeId}{w:Y}{b:Nat}{cs:Array X}{c:Nat×Nat}(g:b=w.heap.size)(f:T'≠T):ld T (w.alloc (I cs T' c)) b:=by intro a d e;rw[Ec _ _ _ g]at e;cases e;exact f rfl
def ld.old{T:TypeId}{w:Y}{b:Nat}{o:Obj}(h:ld T w b)(d:b≠w.heap.size):ld T (w.alloc o) b:=by intro a c e;rw[Ag,if_neg d]at e;exact h a c e
def ld.ext{T:TypeId}{w w':Y}{b:Nat}(h:ld T w b)(k:Ba w w')(d:b<w.heap.size):ld T w' b:=by intro a c e;rw[k.block d]at e;exact h a c e
def ld.drew{T:TypeId}{w:Y}{b:Nat}(h:ld T w b):ld T w.drew b:=h
def ld.drewN{T:TypeId}{w:Y}{b:Nat}(h:ld T w b)(n:Nat):ld T (w.drewN n) b:=by intro a c e;exact h a c (by simpa[World.drewN] using e)
def ld.set{T:TypeId}{w:Y}{b:Nat}(h:ld T w b)(p:G)(u:X):ld T (w.setCell p u) b:=by
 intro c f e;by_cases a:b=p.block
 ·subst a;simp only[World.setCell,Array.getElem?_modify,if_pos]at e;cases hw:w.heap[p.block]? with
  | none=>rw[hw]at e;cases e
  | some o =>
   rw[hw]at e;cases o with
   | cells d T' g =>
    simp only[Option.map_some,Option.some.injEq,Obj.cells.injEq]at e;obtain⟨_,rfl,_⟩:=e;exact h _ _ hw
   | _=>simp at e
 ·rw[bS _ _ _ _ a]at e;exact h c f e
def Ia.x{T:TypeId}{a b:Y}(h:Ia T a b){p:G}(f:ld T b p.block)(u:X):Ia T a (b.setCell p u):=fun x d e g=>by
 have c:=h x d e g;rw[bS _ _ _ _ (by rintro rfl;exact f _ _ c)];exact c
def ld.ext2{T:TypeId}{w w':Y}{b:Nat}(a:b<w.heap.size)(k:Ba w w')(h:ld T w b):ld T w' b:=h.ext k a
def ld.old2{T:TypeId}{w:Y}{b:Nat}{o:Obj}(a:b≠w.heap.size)(h:ld T w b):ld T (w.alloc o) b:=h.old a
def Ia.setN2{T:TypeId}{a b:Y}{p:G}(c:ld T b p.block)(h:Ia T a b)(u:X):Ia T a (b.setCell p u):=h.x c u
def nA{T:TypeId}{w:Y}{b:Nat}(h:ld T w b:=by(repeat(first|with_reducible assumption|with_reducible refine ld.set ?_ _ _|with_reducible refine ld.drew ?_|with_reducible refine ld.drewN ?_ _|(refine ld.new ?_ ?_;(focus(first|omega|((try dsimp only);(try simp only[wZ,Cc,Bg]);(try omega);done)));(focus decide))|(refine ld.old2 ?_ ?_;(focus(first|omega|((try dsimp only);(try simp only[wZ,Cc,Bg]);(try omega);done))))|(refine ld.ext2 ?_ (by with_reducible assumption) ?_;(focus(first|omega|((try dsimp only);(try simp only[wZ,Cc,Bg]);(try omega);done))))))):ld T w b:=h
def kA{T:TypeId}{w a:Y}(h:Ia T w a:=by repeat(first|with_reducible exact Ia.refl _ _|(refine Ba.keep ?_;(focus((with_reducible repeat(first|assumption|exact eR _|refine eX ?_|refine eT ?_|refine eS ?_));done)))|with_reducible refine Ia.alloc ?_ _|(with_reducible refine Ia.setN2 ?_ ?_ _;(focus(((repeat(first|with_reducible assumption|with_reducible refine ld.set ?_ _ _|with_reducible refine ld.drew ?_|with_reducible refine ld.drewN ?_ _|(refine ld.new ?_ ?_;(focus(first|omega|((try dsimp only);(try simp only[wZ,Cc,Bg]);(try omega);done)));(focus decide))|(refine ld.old2 ?_ ?_;(focus(first|omega|((try dsimp only);(try simp only[wZ,Cc,Bg]);(try omega);done))))|(refine ld.ext2 ?_ (by with_reducible assumption) ?_;(focus(first|omega|((try dsimp only);(try simp only[wZ,Cc,Bg]);(try omega);done)))))));done))))):Ia T w a:=h
def vd(w:Y)(v:X)(n:Int):Prop:=∃a m c s,v=N #[O a m c,F s]/\s=decide (n<0)/\Jd w (N #[O a m c]) (n.natAbs:Int)
def vd.ext{w w':Y}{v:X}{n:Int}(h:vd w v n)(k:Ba w w'):vd w' v n:=by obtain⟨a,m,c,s,rfl,b,d⟩:=h;exact⟨a,m,c,s,rfl,b,d.ext k⟩
def vd.keep{w w':Y}{v:X}{n:Int}(h:vd w v n)(k:Ia 2 w w'):vd w' v n:=by obtain⟨a,m,c,s,rfl,b,d⟩:=h;exact⟨a,m,c,s,rfl,b,d.keep k⟩
def vd.form{w:Y}{v:X}{n:Int}(h:vd w v n):∃a m c s,v=N #[O a m c,F s]:=by obtain⟨a,m,c,s,rfl,b,d⟩:=h;exact⟨a,m,c,s,rfl⟩
def vd.sgn{w:Y}{a:Option G}{m c:Nat}{s:Bool}{n:Int}(h:vd w (N #[O a m c,F s]) n):s=decide (n<0):=by obtain⟨a,m,c,s,e,b,d⟩:=h;cases e;exact b
def vd.dig{w:Y}{a:Option G}{m c:Nat}{s:Bool}{n:Int}(h:vd w (N #[O a m c,F s]) n):Jd w (N #[O a m c]) (n.natAbs:Int):=by obtain⟨a,m,c,s,e,d,b⟩:=h;cases e;exact b
def Lm.abs{k:Nat}{n:Int}(h:Lm k n):Lm k (n.natAbs:Int):=by unfold Lm at *;omega
def Lm.neg{k:Nat}{n:Int}(h:Lm k n):Lm k (-n):=by unfold Lm at *;omega
def sg(s:Bool)(n:Int):Int:=if s then -n else n
def vd.mk{w:Y}{a:Option G}{m c:Nat}{n:Int}(b:Bool)(h:Jd w (N #[O a m c]) n):vd w (N #[O a m c,F (b&&!(n==0))]) (sg b n):=by
 have d:=h.nonneg;refine⟨a,m,c,_,rfl,?_,?_⟩
 ·rw[Bool.eq_iff_iff];cases b<;>simp[sg]<;>omega
 ·have:((sg b n).natAbs:Int)=n:=by cases b<;>simp[sg]<;>omega
  rw[this];exact h
def vd.nil(w:Y):vd w (N #[O Z 0 0,F false]) 0:=⟨_,_,_,_,rfl,rfl,_,[],rfl,Pc.nil _ _,yg.nil _,rfl⟩
def Qg(w:Y)(n:Int)(e:Ending)(w':Y):Prop:=∃r,e=.returned r/\vd w' r n/\Ba w w'/\Dr w w'
def nj(w:Y)(n:Int)(e:Ending)(w':Y):Prop:=∃r,e=.returned r/\vd w' r n/\Ba w w'
def Sm(w:Y)(d:Bool)(v:X)(n:Int)(h:Jd w v n):Calls Tryz.prog 183 #[F d,v] w (Qg w (sg d n)):=by
 obtain⟨a,m,c,rfl⟩:=h.form;cases d
 ·go_in;go_wp2
  go_region_with (fail)
  all_goals go_wp2
  all_goals exact bR (v:=N #[O a m c,F (false&&!(n==0))]) (by simp[results,Tryz.results183,go_sem]) rfl ⟨_,rfl,vd.mk false (h.ext eA),eA,dA⟩
 ·go_in;go_wp2;go_region_held3 (fun W=>W.cell? ⟨w.heap.size,0,Z⟩=V (O a m c)) ((repeat' (with_reducible refine And.intro ?_ ?_))<;>(first|(go_simp;done)|(refine hx1.d ?_;go_simp;done))) ((go_at_call 166;(with_reducible refine(Cq _ (N #[O a m c]) n ?_).mono ?_);(refine h.ext ?_;exact eA);rintro e i ⟨rfl,hx1,f⟩;obtain⟨b,g⟩:=hx1.cells))
  all_goals go_wp2
  exact bR (v:=N #[O a m c,F (true&&!(n==0))]) (by simp[results,Tryz.results183,go_sem,b]) rfl ⟨_,rfl,vd.mk true (h.ext eA),eA,dA⟩
def Nl{f:FuncId}{args:Array X}{w:Y}{n:Int}(h:Calls Tryz.prog f args w (Qg w n)):Calls Tryz.prog f args w (nj w n):=Vu h
def qr(w:Y)(a:Bool)(v:X)(n:Int)(h:Jd w v n):Calls Tryz.prog 183 #[F a,v] w (nj w (sg a n)):=Nl (Sm w a v n h)
def UF{n:Int}{s:Bool}(h:s=decide (n<0)):sg (!s) (n.natAbs:Int) = -n:=by subst h;by_cases h:n<0<;>simp[sg,h]<;>omega
def Xy(w:Y)(v:X)(n:Int)(h:vd w v n):Calls Tryz.prog 186 #[v] w (Qg w (-n)):=by obtain⟨a,m,c,s,rfl⟩:=h.form;go_in;go_wp2_with((go_at_call 183;(with_reducible refine(Sm _ (!s) (N #[O a m c]) n.natAbs ?_).mono ?_);(refine h.dig.ext ?_;exact eA);rintro e q ⟨p,rfl,b,f,j⟩;obtain⟨g,l,i,o,rfl⟩:=b.form;obtain⟨d,k⟩:=f.cells));refine bR (v:=N #[O g l i,F o]) (by simp[results,Tryz.results186,go_sem,d]) rfl ⟨_,rfl,?_,eA,dA⟩;rw[<-UF h.sgn];exact b.keep kA
def Mt(w:Y)(v:X)(n:Int)(h:vd w v n):Calls Tryz.prog 186 #[v] w (nj w (-n)):=Nl (Xy w v n h)
def Vz(w:Y)(v:X)(n:Int)(h:vd w v n):Calls Tryz.prog 163 #[v] w fun e j=>e=.returned (J M n.sign)/\Ba w j/\Dr w j:=by
 obtain⟨a,m,c,s,rfl⟩:=h.form;have k:=h.sgn;have q:=h.dig;have d:n=0->Calls Tryz.prog 163 #[N #[O a m c,F s]] w fun e j=>e=.returned (J M n.sign)/\Ba w j/\Dr w j:=by
  intro g;have r:((n.natAbs:Int)==0)=true:=by simp;omega
  obtain rfl:s=false:=by rw[k];simp;omega
  have e:n.sign=0:=by first|(subst g;rfl)|exact Int.sign_eq_neg_one_of_neg g|exact Int.sign_eq_one_of_pos g
  rw[e];clear e g k;go_in;go_wp2_with((go_at_call 166;(with_reducible refine(Cq _ (N #[O a m c]) n.natAbs ?_).mono ?_);(refine q.ext ?_;exact eA);rintro e t ⟨rfl,i,o⟩;obtain⟨l,p⟩:=i.cells));go_ret;exact⟨rfl,eA,dA⟩
 have f:n<0->Calls Tryz.prog 163 #[N #[O a m c,F s]] w fun e j=>e=.returned (J M n.sign)/\Ba w j/\Dr w j:=by
  intro g;have r:((n.natAbs:Int)==0)=false:=by simp;omega
  obtain rfl:s=true:=by rw[k];simp;omega
  have e:n.sign = -1:=by first|(subst g;rfl)|exact Int.sign_eq_neg_one_of_neg g|exact Int.sign_eq_one_of_pos g
  rw[e];clear e g k;go_in;go_wp2_with((go_at_call 166;(with_reducible refine(Cq _ (N #[O a m c]) n.natAbs ?_).mono ?_);(refine q.ext ?_;exact eA);rintro e t ⟨rfl,i,o⟩;obtain⟨l,p⟩:=i.cells));go_ret;exact⟨rfl,eA,dA⟩
 have b:0<n->Calls Tryz.prog 163 #[N #[O a m c,F s]] w fun e j=>e=.returned (J M n.sign)/\Ba w j/\Dr w j:=by
  intro g;have r:((n.natAbs:Int)==0)=false:=by simp;omega
  obtain rfl:s=false:=by rw[k];simp;omega
  have e:n.sign=1:=by first|(subst g;rfl)|exact Int.sign_eq_neg_one_of_neg g|exact Int.sign_eq_one_of_pos g
  rw[e];clear e g k;go_in;go_wp2_with((go_at_call 166;(with_reducible refine(Cq _ (N #[O a m c]) n.natAbs ?_).mono ?_);(refine q.ext ?_;exact eA);rintro e t ⟨rfl,i,o⟩;obtain⟨l,p⟩:=i.cells));go_ret;exact⟨rfl,eA,dA⟩
 rcases Int.lt_trichotomy n 0 with g|g|g
 ·exact f g
 ·exact d g
 ·exact b g
def IL(w:Y)(v:X)(n:Int)(h:vd w v n):Calls Tryz.prog 163 #[v] w fun e a=>e=.returned (J M n.sign)/\Ba w a:=Jq (Vz w v n h)
def JF(n:Int)(a:-9223372036854775808<=n)(b:n<0):IntKind.u64.wrap (-(IntKind.u64.wrap n)) = -n:=by simp[IntKind.wrap,IntKind.signed,IntKind.bits];omega
def uG(n:Int)(a:n<=9223372036854775807)(b:0<=n):IntKind.u64.wrap n=n:=by simp[IntKind.wrap,IntKind.signed,IntKind.bits];omega
def Rq(w:Y)(n:Int)(u:-9223372036854775808<=n)(x:n<=9223372036854775807):Calls Tryz.prog 137 #[J M n] w (nj w n):=by
 by_cases y:n<0
 ·have z:=JF n u y;go_in;go_wp2_with(first|(go_at_call 188;(with_reducible refine(Lp _ (-n) oM oM).mono ?_);rintro e Q ⟨K,rfl,a,i⟩;obtain⟨k,r,m,rfl⟩:=a.u.form;obtain⟨⟨f,p⟩,c⟩:=Md w i)|(go_at_call 183;(with_reducible refine(qr _ true (N #[O k r m]) (-n) a.u).mono ?_);rintro e R ⟨P,rfl,b,j⟩;obtain⟨l,s,o,t,rfl⟩:=b.form;obtain⟨⟨g,q⟩,d⟩:=Md w j));refine bR (v:=N #[O l s o,F t]) (by simp[results,Tryz.results137,go_sem,f,g,c,d]) rfl ⟨_,rfl,?_,eA⟩;have e:n=sg true (-n):=by simp[sg]
  rw[e];exact b.keep kA
 ·have z:=uG n x oM;go_in;go_wp2_with(first|(go_at_call 188;(with_reducible refine(Lp _ n oM oM).mono ?_);rintro e Q ⟨K,rfl,a,i⟩;obtain⟨k,r,m,rfl⟩:=a.u.form;obtain⟨⟨f,p⟩,c⟩:=Md w i)|(go_at_call 183;(with_reducible refine(qr _ false (N #[O k r m]) n a.u).mono ?_);rintro e R ⟨P,rfl,b,j⟩;obtain⟨l,s,o,t,rfl⟩:=b.form;obtain⟨⟨g,q⟩,d⟩:=Md w j));exact bR (v:=N #[O l s o,F t]) (by simp[results,Tryz.results137,go_sem,f,g,c,d]) rfl ⟨_,rfl,b.keep kA,eA⟩
