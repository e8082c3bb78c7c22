/- Part 5. -/
import Derived.Test.YtjnjpagegkcgfaaGreatDoorCosA03
import Derived.Sort.CutIn
set_option maxRecDepth 1000000
set_option maxHeartbeats 16000000
set_option linter.unusedSimpArgs false
set_option linter.unusedVariables false
open Go.Value renaming slice->O,int->J,pointer->M
open Go renaming World->Y,Value->I
open Option renaming none->Z,some->X
open Go.Obj renaming cells->V
open Go.IntKind renaming i64->N
namespace Go.Proofs.YtjnjpagegkcgfaaGreatDoor.Cop
section
open Go.RowKit Go.Shelf
attribute [local go_sem] Oper.semAt_some
theorem Ext.keepsFrom{B:Nat}{W W':Y}(h:Ext W W'):KeepsFrom B W W':=⟨h.size,fun _ _ _ a _=>h.heapS a⟩
theorem ownDrew{T:TypeId}{w:Y}{base:Nat}{v:I}{xs:List Int}(h:Own T w base v xs):Own T w.drew base v xs:=h
theorem zaf(w:Y)(o:Obj)(k:Nat):(w.alloc o).heap[k]?=if k=w.heap.size then X o else w.heap[k]?:=by
 show (w.heap.push o)[k]?=_
 rw[Array.getElem?_push]
theorem Own.stay{T:TypeId}{w w':Y}{base:Nat}{v:I}{xs:List Int}(h:Own T w base v xs)(d:∀(g:Nat)(o:Obj),base<=g->w.heap[g]?=X o->w'.heap[g]?=X o):Own T w' base v xs:=by
 obtain⟨e,a⟩:=h;refine⟨e,?_⟩
 rcases a with a|⟨g,cap,cur,hv,b,c,r⟩
 ·exact .inl a
 ·exact .inr ⟨g,cap,cur,hv,b,d _ _ b c,r⟩
theorem KeepT.putObj{T:TypeId}{w:Y}{D:Nat}{x:Option (List Deferred)}{o:Obj}(h:w.heap[D]?=X (.deferred x)):KeepT T w (w.putObj D o):=fun k b c a=>by
 rw[World.putObj_heap_other];exact a;rintro rfl;rw[h]at a;cases a
def OvW(w:Y)(a:I)(n:Nat)(L:Int)(i:Int)(os:List Int)(W:Y):Prop:=
 Ext w W/\w.heap.size+1+1+1+1+1+1+1+1<=W.heap.size/\W.heap[w.heap.size+1]?=X (V #[a] 59 (0,0))/\W.heap[w.heap.size+1+1]?=X (V #[O Z 0 0] 59 (0,0)) /\
 (∃sl ds,W.heap[w.heap.size+1+1+1]?=X (V #[sl] 59 (0,0))/\Own 2 W (w.heap.size+1+1+1+1+1+1+1+1) sl ds/\Can B ds/\dv B ds=L) /\
 W.heap[w.heap.size+1+1+1+1+1]?=X (V #[O (X ⟨w.heap.size+1+1+1+1,0,Z⟩) n n] 57 (0,0))/\W.heap[w.heap.size+1+1+1+1+1+1]?=X (V #[J N i] 3 (0,0)) /\
 Own 2 W (w.heap.size+1+1+1+1) (O (X ⟨w.heap.size+1+1+1+1,0,Z⟩) n n) os
theorem OvW.keep{w:Y}{d:I}{n:Nat}{L i:Int}{os:List Int}{W W':Y}(h:OvW w d n L i os W)(o:Ext w W')(a:∀T,KeepT T W W')(r:W.heap.size<=W'.heap.size):OvW w d n L i os W':=by
 obtain⟨p,q,f,g,⟨sl,e,j,h6,k,l⟩,m,b,c⟩:=h;exact⟨o,by omega,a _ _ _ _ f,a _ _ _ _ g,⟨sl,e,a _ _ _ _ j,h6.keep (a _),k,l⟩,a _ _ _ _ m,a _ _ _ _ b,c.keep (a _)⟩
theorem OvW.ext{w:Y}{a:I}{n:Nat}{L i:Int}{os:List Int}{W W':Y}(h:OvW w a n L i os W)(k:Ext W W'):OvW w a n L i os W':=h.keep (h.1.trans k) (fun _=>k.keep) k.size
theorem OvW.left{w:Y}{e:I}{n:Nat}{L i L':Int}{os:List Int}{W:Y}(h:OvW w e n L i os W){sl:I}{ds:List Int}(q:Own 2 W (w.heap.size+1+1+1+1+1+1+1+1) sl ds)(p:Can B ds)(hv:dv B ds=L') :
  OvW w e n L' i os (W.setCell ⟨w.heap.size+1+1+1,0,Z⟩ sl):=by
 obtain⟨g,j,l,m,⟨r,f,d,h6,s,t⟩,o,b,c⟩:=h;have a:∀k,k≠w.heap.size+1+1+1->(W.setCell ⟨w.heap.size+1+1+1,0,Z⟩ sl).heap[k]?=W.heap[k]?:=fun k a=>bS _ _ _ _ a
 refine⟨g.set dO _,by rw[qcZ];exact j,(a _ oM).trans l,(a _ oM).trans m,⟨sl,ds,one_setCell d,q.keep ((KeepT.refl _ W).set d dM _),p,hv⟩,(a _ oM).trans o,(a _ oM).trans b,c.setOther (by simp[Value.ownBlock]) _⟩
theorem OvW.num{w:Y}{g:I}{n:Nat}{L i:Int}{os:List Int}{W:Y}(h:OvW w g n L i os W)(e:Int):OvW w g n L e os (W.setCell ⟨w.heap.size+1+1+1+1+1+1,0,Z⟩ (J N e)):=by
 obtain⟨j,l,m,o,⟨f,c,p,h6,q,r⟩,s,b,d⟩:=h;have a:∀k,k≠w.heap.size+1+1+1+1+1+1->(W.setCell ⟨w.heap.size+1+1+1+1+1+1,0,Z⟩ (J N e)).heap[k]?=W.heap[k]?:=fun k a=>bS _ _ _ _ a
 refine⟨j.set dO _,by rw[qcZ];exact l,(a _ oM).trans m,(a _ oM).trans o,⟨f,c,(a _ oM).trans p,h6.keep ((KeepT.refl _ W).set b dM _),q,r⟩,(a _ oM).trans s,one_setCell b,d.setOther (by simp[Value.ownBlock]) _⟩
theorem OvW.out{w:Y}{g:I}{n:Nat}{L i:Int}{os:List Int}{W:Y}(h:OvW w g n L i os W)(j:Nat)(x:Int):OvW w g n L i (os.set j x) (W.setCell ⟨w.heap.size+1+1+1+1,j,Z⟩ (J N x)):=by
 obtain⟨l,m,o,p,⟨f,b,q,h6,r,s⟩,t,c,d⟩:=h;have a:∀k,k≠w.heap.size+1+1+1+1->(W.setCell ⟨w.heap.size+1+1+1+1,j,Z⟩ (J N x)).heap[k]?=W.heap[k]?:=fun k a=>bS _ _ _ _ a
 refine⟨l.set dO _,by rw[qcZ];exact m,(a _ oM).trans o,(a _ oM).trans p,⟨f,b,(a _ oM).trans q,h6.setOther ?_ _,r,s⟩,(a _ oM).trans t,(a _ oM).trans c,d.stored j x⟩;intro e;have:=(World.ownsRow.lt h6 _ e).1;dsimp only at this;omega
theorem ownOne(w:Y)(x:Int):Own 2 (w.alloc (V #[J N x] 2)) w.heap.size (O (X ⟨w.heap.size,0,Z⟩) 1 1) [x]:=
 World.ownsRow_lit w #[J N x] 1 (nE _) dM rfl
def OvP(w:Y)(a D:Nat)(W W':Y):Prop:=KeepsFrom D W W'/\KpW w a W W'
theorem OvP.refl(w:Y)(a D:Nat)(W:Y):OvP w a D W W:=⟨KeepsFrom.refl _ _,KpW.refl _ _ _⟩
theorem OvP.set{w:Y}{a D:Nat}{W A:Y}(h:OvP w a D W A){p:Addr}(c:w.heap.size<=p.block)(b:p.block≠a)(u:I):OvP w a D W (A.setCell p u):=⟨h.1.trans ((KeepsOthers.setCell _ _ _).from _),h.2.set c b u⟩
theorem OvP.ext{w:Y}{a D:Nat}{W A C:Y}(h:OvP w a D W A)(k:Ext A C)(c:w.heap.size<=A.heap.size)(b:a<A.heap.size):OvP w a D W C:=⟨h.1.trans k.keepsFrom,h.2.ext k c b⟩
theorem OvW.rdI{w:Y}{a:I}{n:Nat}{L i:Int}{os:List Int}{W:Y}(h:OvW w a n L i os W):W.cell? ⟨w.heap.size+1+1+1+1+1+1,0,Z⟩=X (J N i)/\W.frozen? ⟨w.heap.size+1+1+1+1+1+1,0,Z⟩=false:=⟨cell_of_one h.2.2.2.2.2.2.1,free_of_one h.2.2.2.2.2.2.1⟩
theorem OvW.rdB{w:Y}{a:I}{n:Nat}{L i:Int}{os:List Int}{W:Y}(h:OvW w a n L i os W):W.cell? ⟨w.heap.size+1,0,Z⟩=X a:=cell_of_one h.2.2.1
theorem OvW.rdO{w:Y}{a:I}{n:Nat}{L i:Int}{os:List Int}{W:Y}(h:OvW w a n L i os W):W.cell? ⟨w.heap.size+1+1+1+1+1,0,Z⟩=X (O (X ⟨w.heap.size+1+1+1+1,0,Z⟩) n n):=cell_of_one h.2.2.2.2.2.1
theorem OvW.rdL{w:Y}{j:I}{n:Nat}{L i:Int}{os:List Int}{W:Y}(h:OvW w j n L i os W):∃a5 m5 c5,W.cell? ⟨w.heap.size+1+1+1,0,Z⟩=X (O a5 m5 c5)/\W.frozen? ⟨w.heap.size+1+1+1,0,Z⟩=false/\IsD W (.agg #[O a5 m5 c5]) L:=by
 obtain⟨k,l,m,o,⟨g,a,b,h6,e,f⟩,p,c,d⟩:=h;obtain⟨a5,c5,rfl⟩:=h6.form;exact⟨a5,_,c5,cell_of_one b,free_of_one b,OwnD.isD ⟨_,a,rfl,h6,e,f⟩⟩
theorem OvW.leftCell{w:Y}{d:I}{n:Nat}{L i:Int}{os:List Int}{W:Y}(h:OvW w d n L i os W)(sl:I):(W.setCell ⟨w.heap.size+1+1+1,0,Z⟩ sl).cell? ⟨w.heap.size+1+1+1,0,Z⟩=X sl:=by
 obtain⟨c,a,b,_⟩:=h.2.2.2.2.1;exact cell_of_one (one_setCell b)
theorem OvW.leftD{w:Y}{f:I}{n:Nat}{L L' i:Int}{os:List Int}{W:Y}(h:OvW w f n L i os W){sl:I}{ds:List Int}{base:Nat}(a:Own 2 W base sl ds)(d:Can B ds)(hv:dv B ds=L') :
  IsD (W.setCell ⟨w.heap.size+1+1+1,0,Z⟩ sl) (.agg #[sl]) L':=by
 obtain⟨e,b,c,_⟩:=h.2.2.2.2.1;exact OwnD.isD ⟨_,ds,rfl,a.setOther (a.ne_block c dM) _,d,hv⟩
theorem zdd{a b:Int}(h:a<b):decide (cmp3 a b<0)=true:=by simp only[cmp3];grind
theorem zcs{a b:Int}(h:¬a<b):decide (cmp3 a b<0)=false:=by simp only[cmp3];grind
theorem zod{k:Int}(a:0<=k)(b:k<18446744073709551616):Lm lim k:=by
 refine Lm.mono (j:=3) ?_ dM;unfold Lm B
 constructor<;>omega
theorem zlT(k:Int):IntKind.u64.wrap k=k % 18446744073709551616:=by
 simp[IntKind.wrap,IntKind.signed,IntKind.bits]
theorem Lm.le{k:Nat}{a b:Int}(h:Lm k b)(c:0<=a)(d:a<=b):Lm k a:=by
 have:=zap zbt k;unfold Lm at *;omega
theorem zlF{os:List Int}{j:Nat}(h:os[j]?=X 0):os.set j 0=os:=by
 obtain⟨a,b⟩:=lS.1 h;rw[<-b];exact List.set_getElem_self a
def OvI(w:Y)(a:I)(nb:Int)(n:Nat)(pre:List Dgt)(W:Y):Prop:=
 pre.length<=n/\∃os,OvW w a n (hv pre % nb) ((n:Int)-pre.length) os W/\os.length=n/\Dig B os/\dv B os=B ^ (n-pre.length)*(hv pre / nb)/\∀j,j<n-pre.length->os[j]?=X 0
theorem zjQ{os:List Int}{n p:Nat}{h x nb:Int}(i:p<n)(g:os.length=n)(c:dv B os=B ^ (n-p)*(h / nb))(d:os[n-(p+1)]?=X 0)(f:0<nb) :
  dv B (os.set (n-(p+1)) ((x+B*(h % nb)) / nb))=B ^ (n-(p+1))*((x+B*h) / nb):=by
 rw[zcY _ d,c,show n-p=(n-(p+1))+1 by omega,Int.pow_succ,Int.sub_zero]
 have e:(x+B*h) / nb=B*(h / nb)+(x+B*(h % nb)) / nb:=by
  have a:h=nb*(h / nb)+h % nb:=(Int.mul_ediv_add_emod h nb).symm
  have b:x+B*h=(x+B*(h % nb))+nb*(B*(h / nb)):=by
   generalize h / nb=q at *
   generalize h % nb=r at *
   subst a
   grind
  rw[b,Int.add_mul_ediv_left _ _ oM,Int.add_comm]
 rw[e]
 generalize B ^ (n-(p+1))=P
 generalize h / nb=q
 generalize (x+B*(h % nb)) / nb=r
 grind
theorem zlu{h x nb:Int}(a:0<nb):(x+B*h) % nb=(x+B*(h % nb)) % nb:=by
 rw[Int.add_emod,Int.mul_emod,<-Int.emod_emod_of_dvd h (Int.dvd_refl nb),<-Int.mul_emod,<-Int.add_emod];rw[Int.emod_emod_of_dvd h (Int.dvd_refl nb)]
theorem zeA{L x nb:Int}(a:0<=L)(b:L<nb)(c:0<=x/\x<16777216):0<=(x+B*L) / nb/\(x+B*L) / nb<16777216:=by
 unfold B;refine⟨Int.ediv_nonneg oM oM,Int.ediv_lt_of_lt_mul oM ?_⟩;omega
theorem OvI.next{w:Y}{l:I}{nb:Int}{n:Nat}{pre:List Dgt}{x:Dgt}{os:List Int}{W:Y}
  (h:OvW w l n ((x.1+B*(hv pre % nb)) % nb) ((n:Int)-pre.length-1) (os.set (n-(pre.length+1)) ((x.1+B*(hv pre % nb)) / nb)) W)
  (o:pre.length<n)(c:os.length=n)(i:Dig B os)(b:dv B os=B ^ (n-pre.length)*(hv pre / nb))(f:∀j,j<n-pre.length->os[j]?=X 0)(a:0<nb):OvI w l nb n (pre++[x]) W:=by
 have p:=x.2;have k:=zeA (L:=hv pre % nb) (x:=x.1) (Int.emod_nonneg (hv pre) oM) (Int.emod_lt_of_pos (hv pre) a) p;refine⟨by simp;omega,os.set (n-(pre.length+1)) ((x.1+B*(hv pre % nb)) / nb),?_,by simpa using c,?_,?_,?_⟩
 ·rw[zgl,zlu a,lA,List.length_singleton]
  have e:((n:Int)-((pre.length+1:Nat):Int))=(n:Int)-pre.length-1:=oM
  rw[e];exact h
 ·intro d g
  rcases List.mem_or_eq_of_mem_set g with g|rfl
  ·exact i d g
  ·unfold B at k ⊢;exact k
 ·rw[zgl,lA,List.length_singleton]
  exact zjQ o c b (f _ oM) a
 ·intro j m
  rw[lA,List.length_singleton]at m;rw[List.getElem?_set_ne oM];exact f j oM
def OvK(w:Y)(b:I)(n:Nat)(L i:Int)(os:List Int)(a D:Nat)(W:Y)(t9:I)(wr:Y):Prop:=
 ∃k:Int,t9=J N k /\ -9223372036854775808<=k/\k<9223372036854775808/\OvW w b n L i os wr/\OvP w a D W wr
def OvB(w:Y)(c:I)(n:Nat)(L i:Int)(os:List Int)(a D:Nat)(W:Y)(b:Bool)(t:I)(wr:Y):Prop:=
 t = .bool b/\OvW w c n L i os wr/\OvP w a D W wr
theorem zcg(x:Int) : -9223372036854775808<=IntKind.i64.wrap x/\IntKind.i64.wrap x<9223372036854775808/\IntKind.i64.wrap x % 18446744073709551616=x % 18446744073709551616:=by
 simp[IntKind.wrap,IntKind.signed,IntKind.bits];omega
theorem zjN{k d a L nb:Int}(h:d % 18446744073709551616=(k-1) % 18446744073709551616)(f:a=k % 18446744073709551616)(e:0<=L)(c:L<nb*a):(d % 18446744073709551616).toNat<(k % 18446744073709551616).toNat:=by
 have b:a≠0:=by rintro b;rw[b]at c;simp at c;omega
 omega
def OvC(w:Y)(b:I)(n:Nat)(L i:Int)(os:List Int)(a D:Nat)(W:Y)(wr:Y):Prop:=
 OvW w b n L i os wr/\OvP w a D W wr
def OvM(w:Y)(b:I)(n:Nat)(L nb i:Int)(os:List Int)(a D:Nat)(W:Y)(t9:I)(wr:Y):Prop:=
 ∃k L2:Int,t9=J N k /\ -9223372036854775808<=k/\k<9223372036854775808/\0<=L2/\L2+nb*(k % 18446744073709551616)=L/\OvW w b n L2 i os wr/\OvP w a D W wr
theorem Lm.dig{k:Nat}{ds:List Int}(h:Dig B ds)(a:ds.length<=k):Lm k (dv B ds):=by
 have c:=zak zbt h;have d:=zaD (b:=B) dM a;have e:=zap zbt k;unfold Lm;omega
theorem zmO{a b:Int}(h:b<=a):decide (0<=cmp3 a b)=true:=by simp only[cmp3];grind
theorem zkW{a b:Int}(h:¬b<=a):decide (0<=cmp3 a b)=false:=by simp only[cmp3];grind
theorem znm{nb L2 L a:Int}(b:0<nb)(g:0<=a)(f:L2+nb*a=L)(j:nb<=L2)(e:L<B*nb):a+1<=L / nb/\a+1<16777217:=by
 have c:(a+1)*nb<=L:=by rw[<-f,Int.add_mul,Int.mul_comm a nb];omega
 have i:a+1<=L / nb:=(Int.le_ediv_iff_mul_le b).2 c;have d:L / nb<B:=Int.ediv_lt_of_lt_mul b e;unfold B at d;omega
theorem zls{nb L2 L k:Int}(a:0<nb)(c:L2+nb*(k % 18446744073709551616)=L)(b:0<=L2)(l:¬nb<=L2)(e:L<B*nb)(f : -9223372036854775808<=k)(g:k<9223372036854775808):k=L / nb/\L2=L % nb:=by
 have i:L / nb=k % 18446744073709551616:=by rw[<-c,Int.add_mul_ediv_left _ _ oM,Int.ediv_eq_zero_of_lt b oM];omega
 have j:L % nb=L2:=by rw[<-c,Int.add_mul_emod_self_left,Int.emod_eq_of_lt b oM]
 have d:L / nb<B:=Int.ediv_lt_of_lt_mul a e;unfold B at d;omega
theorem zlv{x r L nb:Int}(h:x+B*r=L)(b:x<16777216)(a:r<nb):L<B*nb:=by unfold B at *;omega
def limA:Nat:=10000000
theorem zjO{zs os:List Int}{ds:List Dgt}{m:Nat}{a nb:Int}(b:dv B zs=dv B os)(c:dv B os=B ^ (m-ds.reverse.length)*(hv ds.reverse / nb))(d:dv B (vals ds)=a)(e:ds.length=m):dv B zs=a / nb:=by
 rw[b,c,zjk,d,List.length_reverse,e,Nat.sub_self];simp
theorem zjP{a:List Int}{ds:List Dgt}{b nb:Int}(c:dv B a=hv ds.reverse % nb)(d:dv B (vals ds)=b):dv B a=b % nb:=by
 rw[c,zjk,d]
theorem zh7{w d:Y}{D:Nat}{tmps:Array I}{f nb:Int}{a4 a5:Option Addr}{b c:Nat}{zs a:List Int}{v2 v3:I}{x:Option (List Deferred)}
  (t4:tmps.getD 4 undef=M (X ⟨w.heap.size+1+1,0,Z⟩))(t5:tmps.getD 5 undef=M (X ⟨w.heap.size+1+1+1,0,Z⟩))
  (m:d.heap[w.heap.size+1+1]?=X (V #[v2] 59 (0,0)))(q3:d.heap[w.heap.size+1+1+1]?=X (V #[v3] 59 (0,0)))
  (t:Own 2 d (w.heap.size+1+1+1+1) (O a4 zs.length b) zs)(u:Own 2 d (w.heap.size+1+1+1+1+1+1+1+1) (O a5 a.length c) a)
  (P:Can B zs)(L:Can B a)(Q:dv B zs=f / nb)(R:dv B a=f % nb)(l:Ext w d)
  (g:((d.setCell ⟨w.heap.size+1+1,0,Z⟩ (O a4 zs.length b)).setCell ⟨w.heap.size+1+1+1,0,Z⟩ (O a5 a.length c)).heap[D]?=X (.deferred x))
  (hD:w.heap.size+1+1+1+1+1+1+1+1<=D) :
  LeavesInM Fence.wide 6 Tryz.prog Tryz.f182 tmps (fun e s=>∃q r,e = .returned (.tuple #[q,r])/\OwnD s w.heap.size q (f / nb)/\OwnD s w.heap.size r (f % nb)/\Ext w s) [] FrameMode.returning
   (((d.setCell ⟨w.heap.size+1+1,0,Z⟩ (O a4 zs.length b)).setCell ⟨w.heap.size+1+1+1,0,Z⟩ (O a5 a.length c)).putObj D (.deferred Z)):=by
 have r2:(d.setCell ⟨w.heap.size+1+1,0,Z⟩ (O a4 zs.length b)).heap[w.heap.size+1+1]?=X (V #[O a4 zs.length b] 59 (0,0)):=one_setCell m;have n:(d.setCell ⟨w.heap.size+1+1,0,Z⟩ (O a4 zs.length b)).heap[w.heap.size+1+1+1]?=X (V #[v3] 59 (0,0)):=(bS _ _ _ _ dO).trans q3;have v:=t.setOther (p:=⟨w.heap.size+1+1,0,Z⟩) (t.ne_block m dM) (O a4 zs.length b);have y:=u.setOther (p:=⟨w.heap.size+1+1,0,Z⟩) (u.ne_block m dM) (O a4 zs.length b);have i:=l.set (p:=⟨w.heap.size+1+1,0,Z⟩) dO (O a4 zs.length b)
 generalize d.setCell ⟨w.heap.size+1+1,0,Z⟩ (O a4 zs.length b)=w4 at *
 have s2:(w4.setCell ⟨w.heap.size+1+1+1,0,Z⟩ (O a5 a.length c)).heap[w.heap.size+1+1]?=X (V #[O a4 zs.length b] 59 (0,0)):=(bS _ _ _ _ dO).trans r2;have s3:(w4.setCell ⟨w.heap.size+1+1+1,0,Z⟩ (O a5 a.length c)).heap[w.heap.size+1+1+1]?=X (V #[O a5 a.length c] 59 (0,0)):=one_setCell n;have T:=v.setOther (p:=⟨w.heap.size+1+1+1,0,Z⟩) (v.ne_block n dM) (O a5 a.length c);have W:=y.setOther (p:=⟨w.heap.size+1+1+1,0,Z⟩) (y.ne_block n dM) (O a5 a.length c);have j:=i.set (p:=⟨w.heap.size+1+1+1,0,Z⟩) dO (O a5 a.length c)
 generalize w4.setCell ⟨w.heap.size+1+1+1,0,Z⟩ (O a5 a.length c)=w5 at *
 have z:=cell_of_one ((World.putObj_heap_other (w:=w5) (r:=D) (o:=.deferred Z) oM).trans s2);have K:=cell_of_one ((World.putObj_heap_other (w:=w5) (r:=D) (o:=.deferred Z) oM).trans s3);have m4:=T.keep (KeepT.putObj (o:=.deferred Z) g);have m5:=W.keep (KeepT.putObj (o:=.deferred Z) g);refine⟨.tuple #[.agg #[O a4 zs.length b],.agg #[O a5 a.length c]],?_,_,_,rfl,⟨_,zs,rfl,m4.mono oM,P,Q⟩,⟨_,a,rfl,m5.mono oM,L,R⟩,?_⟩
 ·simp only[Array.getD_eq_getD_getElem?]at t4 t5
  simp[results,Tryz.results182,go_sem,t4,t5,z,K]
 ·exact j.thenB ((Below.refl D w5).grown (grownBy_putObj' w5 D _) (by have:=zaa g;omega) (fun k e=>by cases e;omega)) oM
theorem zhb(w:Y)(va vb:I)(na nb:Int)(ha:IsD w va na)(hb:IsD w vb nb)(br:Lm limA na)(cc:Lm limA nb)(ah:0<nb) :
  Calls Tryz.prog 182 #[va,vb] w fun e w'=>∃q r,e = .returned (.tuple #[q,r])/\OwnD w' w.heap.size q (na / nb)/\OwnD w' w.heap.size r (na % nb)/\Ext w w':=by
 obtain⟨a,m,c,rfl⟩:=ha.form;obtain⟨a',m',c',rfl⟩:=hb.form;obtain⟨xs,hl,hi,hc,hv⟩:=ha.open;have hm:=br.len hc hv;rw[hl]at hm;unfold limA at hm;obtain⟨ds,rfl⟩:=zgF hc.1;have Hl:=hd9 hl;have Hv:=hd9 hv;clear hl hv;have dt:∀(fn:Fn)(first cap:Array I)(w:Y),(Instr.makeFunc fn first cap).run Tryz.prog w = .ok (.func fn first cap) w:=fun _ _ _ _=>rfl
 refine(callsIn_wide (n:=6)).1 ?_;refine callsIn_of_wp_marks Tryz.func182 rfl trivial ?_ rfl;simp only[Tryz.ntmps182,List.size_toArray,List.length_cons,List.length_nil,Nat.reduceAdd,Nat.reduceSub,Array.replicate_succ,Array.replicate_zero,List.push_toArray,List.append_toArray,List.nil_append,List.cons_append]
 gi_wp2_with(first|(gi_at_make;refine zoh zaJ Tryz.underlying57 rfl _ _ rfl _ rfl rfl rfl oM ?_;intro cs aj)|(refine⟨trivial,?_⟩;gi_at_call 189;refine(callsIn_wide.2 (zgL _ _ _ _)).mono ?_;rintro e w' ⟨rfl,rfl⟩))
 have bn:((((((((w.alloc (V #[O a m c] 59)).alloc (V #[O a' m' c'] 59)).alloc (V #[O Z 0 0] 59)).alloc (V #[O Z 0 0] 59)).alloc (V cs 2)).alloc (V #[O (X ⟨w.heap.size+1+1+1+1,0,Z⟩) m m] 57)).alloc (V #[J N m] 3)).alloc (V #[O a m c] 59)).cell? ⟨w.heap.size+1+1+1+1+1+1+1,0,Z⟩=X (O a m c):=by
  rw[World.cell?_alloc_at _ _ _ _ sM];rfl
 refine wpIn_rangeFunc_ownG rfl dM (gf:=237) (lb:=#[M (X ⟨w.heap.size+1+1+1+1+1+1+1,0,Z⟩)]) rfl trivial (enters_of Tryz.func237 kM rfl)
  (zeo _ _ trivial rfl dM (w.heap.size+1+1+1+1+1+1+1) w _ _ ds bn sM hi eA) KpW.trans (KpW.put (by simp;omega) sM) (Below.refl _ _) (fun _=>rfl)
  (OvI w (O a' m' c') nb m) (fun _ _ _=>False) (zam (fun s W h=>by obtain⟨_,os,h,_⟩:=h;have:=h.2.1;simp;omega) (fun s W W' h k=>?hsim)) (fun _=>zam (fun _ _ h=>h.elim) (fun _ _ _ h _=>h)) ?h0
  (fun x=>{ tmps:=#[.agg #[O a m c],.agg #[O a' m' c'],M (X ⟨w.heap.size,0,Z⟩),M (X ⟨w.heap.size+1,0,Z⟩),M (X ⟨w.heap.size+1+1,0,Z⟩),M (X ⟨w.heap.size+1+1+1,0,Z⟩),M (X ⟨w.heap.size+1+1+1+1+1,0,Z⟩),M (X ⟨w.heap.size+1+1+1+1+1+1,0,Z⟩),J N x.1,undef,M (X ⟨w.heap.size,0,Z⟩),O a m c,J N m,O (X ⟨w.heap.size+1+1+1+1,0,Z⟩) m m,M (X ⟨w.heap.size,0,Z⟩),O a m c,J N m,.agg #[O a m c],.func (.func 237) #[] #[M (X ⟨w.heap.size+1+1+1+1+1+1+1,0,Z⟩)],J N x.1,undef,undef,undef,undef,undef,undef,undef,undef,undef,undef,undef,undef,undef,undef,undef,undef,undef,undef,undef,undef,undef,undef,undef,undef,undef,undef,undef,undef,undef,undef,undef,undef,undef,undef,undef,undef,undef,undef,undef,undef,undef,undef,undef,undef,undef,undef,undef,undef],defers:=[] }) ?assign ?body ?done ?stop
 case hsim =>
  obtain⟨h1,os,h2,h3⟩:=h;exact⟨h1,os,h2.keep (k.ext h2.1 (by simp;omega)) k.keep k.size,h3⟩
 case h0 =>
  refine⟨by simp,List.replicate m 0,⟨eA,by simp,(by simp only[zaf,wZ];simp),(by simp only[zaf,wZ];simp),⟨_,[],(by simp only[zaf,wZ];simp),Own.nil _ _ _,Can.nil _,by simp[hv,vals]⟩,(by simp only[zaf,wZ];simp),by simp only[zaf,wZ];simp,?_⟩,by simp,?_,by rw[zax];simp[hv,vals],?_⟩
  ·simpa using ((aj.alloc _).alloc _).alloc _
  ·intro d hd;have:=(List.mem_replicate.1 hd).2;unfold B;omega
  ·intro j hj;simp at hj;simp[hj]
 case assign =>
  intro l x W K hK
  gi_wp2
  exact hK
 case body =>
  rintro l pre x W ⟨h1,os,ai,aG,aq,ad,aT⟩ cf;have c9:=hd9 br;have bj:=hd9 cc;clear br cc;have cl:=x.2.1;have bu:=x.2.2;obtain⟨dg,dm⟩:=ai.rdI;obtain⟨a5,m5,c5,bU,b5,bG⟩:=ai.rdL;have dc:=ai.2.1;have da:=hd9 cf;have bk:=hd9 aG;have am:=hd9 ad;have aM:=hd9 aT;have cq:=hd9 ai;have cm:=hd9 bG;have ci:pre.length<m:=by have h5:=Hl.out;have h6:=zbJ ds;omega
  have dq:IntKind.i64.wrap ((m:Int)-pre.length-1)=(m:Int)-pre.length-1:=iW _ oM;clear cf aG ad aT ai bG aj bn;have al:=cq.out.num ((m:Int)-pre.length-1);obtain⟨W1,ag⟩:=gX (W.setCell ⟨w.heap.size+1+1+1+1+1+1,0,Z⟩ (J N ((m:Int)-pre.length-1)));rw[ag]at al;have cR:W1.heap.size=W.heap.size:=by rw[<-ag,qcZ]
  obtain⟨a6,m6,c6,bW,dn,bl⟩:=al.rdL
  have bX:((W.setCell ⟨w.heap.size+1+1+1+1+1+1,0,Z⟩ (J N ((m:Int)-pre.length-1))).alloc (V #[J N x.1] 2)).cell? ⟨w.heap.size+1+1+1,0,Z⟩=X (O a6 m6 c6):=by
   rw[ag,World.cell?_alloc_lt _ _ _ dO];exact bW
  have cp:=hd9 al;have c2:=hd9 bl;have bh:=hd9 ag;obtain⟨es,b1,b0,bZ,b4⟩:=bl.open;have bA:=hd9 b4;have c3:=hd9 b1
  have aH:Own 2 ((W.setCell ⟨w.heap.size+1+1+1+1+1+1,0,Z⟩ (J N ((m:Int)-pre.length-1))).alloc (V #[J N x.1] 2)) W.heap.size (O (X ⟨W.heap.size,0,Z⟩) 1 1) [x.1]:=by
   rw[ag,<-cR];exact ownOne W1 x.1
  have a1:Ints 2 ((W.setCell ⟨w.heap.size+1+1+1+1+1+1,0,Z⟩ (J N ((m:Int)-pre.length-1))).alloc (V #[J N x.1] 2)) (O a6 m6 c6) es:=by
   rw[ag];exact b0.ext eA
  have cZ:es.length<=10000000:=by
   have:=Lm.len (bj.out.le (Int.emod_nonneg _ oM) (Int.le_of_lt (Int.emod_lt_of_pos (hv pre) ah))) bZ bA.out;exact this
  have b2:[x.1].length+es.length<=1000000000000:=by simp;omega
  have b3:([x.1]++es).length<=1000000000:=by simp;omega
  have bo:Dig B ([x.1]++es):=by
   intro y hy
   rcases List.mem_append.1 hy with hy|hy
   ·cases List.mem_singleton.1 hy;exact⟨cl,bu⟩
   ·exact bZ.1 y hy
  have cJ:∀y∈[x.1]++es,-4611686018427387904<=y/\y<=4611686018427387904:=by
   intro y hy;have:=bo y hy;unfold B at this;omega
  have bp:0<=dv B ([x.1]++es):=(zak zbt bo).1;obtain⟨L',bm⟩:∃L',x.1+B*(hv pre % nb)=L':=⟨_,rfl⟩;have a2:dv B ([x.1]++es)=L':=by rw[<-bm,<-bA.out];simp
  have bb:=hd9 bm;have T:=hd9 a2;clear bm a2;have aZ:W.heap.size<=((W.setCell ⟨w.heap.size+1+1+1+1+1+1,0,Z⟩ (J N ((m:Int)-pre.length-1))).alloc (V #[J N x.1] 2)).heap.size:=sM
  clear ag bl bW al b4 b1 bU b5 cm b0
  gi_wp2_with(gi_at_builtin;go_loud (refine zmF zaJ Tryz.underlying57 rfl _ _ rfl rfl aH rfl a1 b2 aZ ?_);intro v' w1 t P aQ;have cS:=nT aZ P.size)
  refine⟨trivial,?_⟩
  (with_reducible refine(CallsIn.inRound l (callsIn_wide.2 (zcm W.heap.size v' ([x.1]++es) w1 t cS b3 cJ bp))).mono ?_)
  rintro e w2 ⟨v2,zs,rfl,aW,ak,Q,bQ,cI⟩;obtain⟨a7,c7,rfl⟩:=Q.form
  have bw:Ext W1 w2:=by
   rw[bh.out]at P;exact(((eR W1).alloc _).thenB P oM).thenB bQ oM
  have av:=cp.out.ext bw;have aL:=av.left (Q.mono oM) aW (ak.trans T.out);obtain⟨_,_,_,cC,cK,_⟩:=av.rdL;have cD:=av.leftCell (O a7 zs.length c7);have bT:=aL.rdB;have ba:=av.leftD Q aW (ak.trans T.out);have aK:=hb.ext aL.1;have au:=hd9 aL;have bE:=hd9 ak;have af:=hd9 bw;clear av aL ak bw bX aH a1 P t cI bQ Q aQ;have aO:0<=L':=by rw[<-T.out];exact bp
  by_cases aS:L'<nb
  ·have cG:=zdd aS
   gi_wp2_with(refine⟨trivial,?_⟩;gi_at_call 226;(with_reducible refine(CallsIn.inRound l (callsIn_wide.2 (zca _ _ _ _ _ ba aK))).mono ?_);rintro e w4 ⟨rfl,u⟩)
   have hP:OvP w (w.heap.size+1+1+1+1+1+1+1) (w.heap.size+1+1+1+1+1+1+1+1) W w4:=by
    have h5:=(OvP.refl w (w.heap.size+1+1+1+1+1+1+1) (w.heap.size+1+1+1+1+1+1+1+1) W).set (p:=⟨w.heap.size+1+1+1+1+1+1,0,Z⟩) dO dO (J N ((m:Int)-pre.length-1));rw[bh.out]at h5;have h6:=af.out.size;exact((h5.ext af.out oM oM).set (p:=⟨w.heap.size+1+1+1,0,Z⟩) dO dO _).ext u (by rw[qcZ];omega) (by rw[qcZ];omega)
   have hI:OvI w (O a' m' c') nb m (pre++[x]) w4:=by
    refine OvI.next (os:=os) ?_ ci bk.out aq am.out aM.out ah;have h0:=bb.out;have h1:=(zeA (L:=hv pre % nb) (x:=x.1) (Int.emod_nonneg (hv pre) oM) (Int.emod_lt_of_pos (hv pre) ah) ⟨cl,bu⟩);rw[h0];have aO:0<=L':=by rw[<-T.out];exact bp
    rw[Int.emod_eq_of_lt aO aS,Int.ediv_eq_zero_of_lt aO aS,zlF (aM.out _ oM)];exact au.out.ext u
   refine⟨?_,hP.2,hI⟩;have:=hP.1
   simpa using this
  ·have cG:=zcs aS
   have bM:OvP w (w.heap.size+1+1+1+1+1+1+1) (w.heap.size+1+1+1+1+1+1+1+1) W (w2.setCell ⟨w.heap.size+1+1+1,0,Z⟩ (O a7 zs.length c7)):=by
    have h5:=(OvP.refl w (w.heap.size+1+1+1+1+1+1+1) (w.heap.size+1+1+1+1+1+1+1+1) W).set (p:=⟨w.heap.size+1+1+1+1+1+1,0,Z⟩) dO dO (J N ((m:Int)-pre.length-1));rw[bh.out]at h5;exact(h5.ext af.out oM oM).set (p:=⟨w.heap.size+1+1+1,0,Z⟩) dO dO _
   have bz:=hd9 bM;clear bM
   gi_wp2_with(first|(refine⟨trivial,?_⟩;gi_at_call 226;(with_reducible refine(CallsIn.inRound l (callsIn_wide.2 (zca _ _ _ _ _ ba aK))).mono ?_);rintro e w4 ⟨rfl,u⟩;obtain⟨a8,m8,c8,aa,ap,i⟩:=(au.out.ext u).rdL;have ab:=(au.out.ext u).rdB;have f:=aK.ext u)|(refine⟨trivial,?_⟩;gi_at_call 236;(with_reducible refine(CallsIn.inRound l (callsIn_wide.2 (zki _ _ _ _ _ i f (bj.out.mono dM)))).mono ?_);rintro e w5 ⟨⟨k0,rfl,bq⟩,bv⟩))
   have bC:=(au.out.ext u).ext bv;have bO:=(bz.out.ext u (by rw[qcZ];have h6:=af.out.size;omega) (by rw[qcZ];have h6:=af.out.size;omega)).ext bv (by have h7:=u.size;rw[qcZ]at h7;have h6:=af.out.size;omega) (by have h7:=u.size;rw[qcZ]at h7;have h6:=af.out.size;omega);clear aa ap i ab f ba aK cC cK cD bT bz
   gi_loopw [9] (OvK w (O a' m' c') m L' ((m:Int)-pre.length-1) os (w.heap.size+1+1+1+1+1+1+1) (w.heap.size+1+1+1+1+1+1+1+1) W) (fun t9 _=>(intOf t9 % 18446744073709551616).toNat)
   case atStart=>exact⟨k0,rfl,bq.1,by have:=bq.2;omega,bC,bO⟩
   case round =>
    clear bC bO u bv bq;obtain⟨k,rfl,b6,b8,Ho,hP⟩:=hrel;obtain⟨a8,m8,c8,aa,ap,i⟩:=Ho.rdL;have ab:=Ho.rdB;have f:=hb.ext Ho.1;have R:=hd9 Ho;have HP:=hd9 hP;have aU:=Ho.2.1;obtain⟨kk,b9⟩:=gX (IntKind.u64.wrap k);have ca:kk=k % 18446744073709551616:=by rw[<-b9,zlT]
    have an:0<=kk:=oM
    have aE:kk<18446744073709551616:=oM
    have bg:=hd9 (zod an aE);have be:Hid (Lm lim nb):=hd9 (bj.out.mono dM);have bi:=hd9 ca;clear Ho hP au ca
    gi_wp2
    gi_cut [42]from 1000 (OvB w (O a' m' c') m L' ((m:Int)-pre.length-1) os (w.heap.size+1+1+1+1+1+1+1) (w.heap.size+1+1+1+1+1+1+1+1) W (decide (cmp3 L' (nb*kk)<0)))
    case first =>
     gi_region_with (first|(refine⟨trivial,?_⟩;gi_at_call 188;(with_reducible refine(CallsIn.inRound l (callsIn_wide.2 (zcd _ kk an aE))).mono ?_);rintro e wa ⟨r1,rfl,aI,b⟩;obtain⟨ax,mx,cx,rfl⟩:=aI.isD.form;have aw:=b.cellS aa;have bV:=b.cellS ab)|(refine⟨trivial,?_⟩;gi_at_call 195;(with_reducible refine(CallsIn.inRound l (callsIn_wide.2 (zfV _ _ _ nb kk ?_ ?_ be.out bg.out))).mono ?_);(refine f.ext ?_;exact eA);(refine aI.isD.ext ?_;exact eA);rintro e wb ⟨r2,rfl,aJ,z⟩;obtain⟨ay,my,cy,rfl⟩:=aJ.isD.form;have a0:=z.cellS aw)|(refine⟨trivial,?_⟩;gi_at_call 226;(with_reducible refine(CallsIn.inRound l (callsIn_wide.2 (zca _ _ _ L' (nb*kk) ?_ ?_))).mono ?_);(refine i.ext ?_;exact eA);(refine aJ.isD.ext ?_;exact eA);rintro e wz ⟨rfl,ao⟩))
     all_goals gi_wp2
     all_goals gi_meet
     all_goals
      have ar:Ext wr wz:=by
       have h1:Ext wr wa:=(eR wr).drew.trans b;exact(h1.trans z).trans ao
      exact⟨rfl,R.out.ext ar,HP.out.ext ar oM oM⟩
    case rest =>
     clear R HP aa ap i ab f aU;obtain⟨rfl,Ho,hP⟩:=hcut;have R:=hd9 Ho;have HP:=hd9 hP;clear Ho hP
     by_cases bs:L'<nb*kk
     ·have aC:=zdd bs
      obtain⟨k1,b7⟩:=gX (IntKind.i64.wrap (k-1));have ac:=zcg (k-1);rw[b7]at ac;rw[aC]
      gi_wp2
      go_roundw
      case rel=>exact⟨k1,rfl,ac.1,ac.2.1,R.out,HP.out⟩
      case measure =>
       have:=zjN ac.2.2 bi.out aO bs
       simpa[intOf] using this
     ·have aC:=zcs bs
      rw[aC];have ce:nb*kk<=L':=oM
      have ch:0<=nb*kk:=Int.mul_nonneg oM an;have bc:Hid (Lm lim L'):=hd9 (by rw[<-T.out];exact Lm.dig bo (by unfold lim;simp;omega));have bx:Hid (Lm lim (nb*kk)):=hd9 (bc.out.le ch ce);obtain⟨a8,m8,c8,aa,ap,i⟩:=R.out.rdL;have ab:=R.out.rdB;have f:=hb.ext R.out.1;have aU:=R.out.2.1
      gi_wp2
      gi_cut []from 1000 (OvC w (O a' m' c') m (L' + -1*(nb*kk)) ((m:Int)-pre.length-1) os (w.heap.size+1+1+1+1+1+1+1) (w.heap.size+1+1+1+1+1+1+1+1) W)
      case first =>
       gi_region_with (first|(refine⟨trivial,?_⟩;gi_at_call 188;(with_reducible refine(CallsIn.inRound l (callsIn_wide.2 (zcd _ kk an aE))).mono ?_);rintro e wa ⟨r1,rfl,aI,b⟩;obtain⟨ax,mx,cx,rfl⟩:=aI.isD.form;have aw:=b.cellS aa;have bV:=b.cellS ab)|(refine⟨trivial,?_⟩;gi_at_call 195;(with_reducible refine(CallsIn.inRound l (callsIn_wide.2 (zfV _ _ _ nb kk ?_ ?_ be.out bg.out))).mono ?_);(refine f.ext ?_;exact eA);(refine aI.isD.ext ?_;exact eA);rintro e wb ⟨r2,rfl,aJ,z⟩;obtain⟨ay,my,cy,rfl⟩:=aJ.isD.form;have a0:=z.cellS aw)|(refine⟨trivial,?_⟩;gi_at_call 187;(with_reducible refine(CallsIn.inRound l (callsIn_wide.2 (zcD _ _ _ L' (nb*kk) (-1) ?_ ?_ bc.out bx.out oM oM))).mono ?_);(refine i.ext ?_;exact eA);(refine aJ.isD.ext ?_;exact eA);rintro e wz ⟨r3,rfl,⟨cW,d3,rfl,aF,aD,bt⟩,ao⟩;obtain⟨az,cz,rfl⟩:=aF.form;have ar:Ext wc wz:=(((eR wc).drew.trans b).trans z).trans ao;obtain⟨_,_,_,cF,cL,_⟩:=(R.out.ext ar).rdL))
       all_goals gi_wp2
       all_goals gi_meet
       all_goals
        have cT:=b.size;have cU:=z.size;have du:=ao.size;exact⟨(R.out.ext ar).left (aF.mono (by simp only[World.size_drew]at *;omega)) aD bt,(HP.out.ext ar oM oM).set dO dO _⟩
      case rest =>
       clear R HP aa ap i ab f aU bg bx;obtain⟨bD,bP⟩:=hcut;have bK:=zlv bb.out bu (Int.emod_lt_of_pos (hv pre) ah)
       gi_wp2
       gi_loopw [9] (OvM w (O a' m' c') m L' nb ((m:Int)-pre.length-1) os (w.heap.size+1+1+1+1+1+1+1) (w.heap.size+1+1+1+1+1+1+1+1) W) (fun t9 _=>(L' / nb-intOf t9 % 18446744073709551616).toNat)
       case atStart=>exact⟨k,L' + -1*(nb*kk),rfl,b6,b8,by omega,by rw[<-bi.out];omega,bD,bP⟩
       case round =>
        clear bD bP b6 b8 b9 bi;obtain⟨k',L2,rfl,cP,cQ,bJ,bL,Ho,hP⟩:=hrel;obtain⟨aA,mA,cA,aa,ap,i⟩:=Ho.rdL;have ab:=Ho.rdB;have f:=hb.ext Ho.1;have aU:=Ho.2.1;have cg:0<=k' % 18446744073709551616:=oM
        have cO:0<=nb*(k' % 18446744073709551616):=Int.mul_nonneg oM cg;have bf:=hd9 bL;have cn:Hid (Lm lim L2):=hd9 (bc.out.le bJ oM);have R:=hd9 Ho;have HP:=hd9 hP;clear Ho hP bL cO
        by_cases aR:nb<=L2
        ·have bY:=zmO aR
         have ck:=znm ah cg bf.out aR bK;obtain⟨k3,cN⟩:=gX (IntKind.i64.wrap (k'+1));have ac:=zcg (k'+1);rw[cN]at ac;have a9:k3 % 18446744073709551616=k' % 18446744073709551616+1:=oM
         have bB:=hd9 ac;have aY:=hd9 a9;have cr:=hd9 ck;clear ac a9 ck
         gi_wp2_with(first|(refine⟨trivial,?_⟩;gi_at_call 226;(with_reducible refine(CallsIn.inRound l (callsIn_wide.2 (zca _ _ _ _ _ i f))).mono ?_);rintro e w6 ⟨rfl,v⟩;obtain⟨aB,mB,cB,a0,c0,bH⟩:=(R.out.ext v).rdL;have cX:=(R.out.ext v).rdB;have bF:=f.ext v)|(refine⟨trivial,?_⟩;gi_at_call 187;(with_reducible refine(CallsIn.inRound l (callsIn_wide.2 (zcD _ _ _ L2 nb (-1) bH bF cn.out be.out oM oM))).mono ?_);rintro e w7 ⟨r3,rfl,⟨cW,d3,rfl,aF,aD,bt⟩,aV⟩;obtain⟨az,cz,rfl⟩:=aF.form;obtain⟨_,_,_,cF,cL,_⟩:=((R.out.ext v).ext aV).rdL))
         go_roundw
         case rel =>
          have cT:=v.size;have cU:=aV.size;refine⟨k3,L2 + -1*nb,rfl,bB.out.1,bB.out.2.1,by omega,?_,((R.out.ext v).ext aV).left (aF.mono oM) aD bt,(((HP.out.ext v oM oM).ext aV oM oM)).set dO dO _⟩;rw[aY.out,Int.mul_add,<-bf.out];omega
         case measure =>
          have h5:=aY.out;have h6:=cr.out.1;simp only[intOf];omega
        ·have bY:=zkW aR
         have a3:=zls ah bf.out bJ aR bK cP cQ;obtain⟨j,hj⟩:∃j:Nat,(m:Int)-pre.length-1=j/\j=m-(pre.length+1):=⟨m-(pre.length+1),by omega,rfl⟩;have dr:j<m:=oM
         have aX:=hd9 a3;have Hj:=hd9 hj;clear a3 hj
         gi_wp2_with(refine⟨trivial,?_⟩;gi_at_call 226;(with_reducible refine(CallsIn.inRound l (callsIn_wide.2 (zca _ _ _ _ _ i f))).mono ?_);rintro e w6 ⟨rfl,v⟩;have ae:=R.out.ext v;rw[Hj.out.1]at ae;have dh:=ae.rdI.1;have di:=ae.rdO;have dj:=ae.2.2.2.2.2.2.2.cell (aM.out j (by have:=Hj.out.2;omega));have dp:=ae.2.2.2.2.2.2.2.frozen j;have co:=hd9 ae;clear ae)
         have bN:=(HP.out.ext v oM oM).set (p:=⟨w.heap.size+1+1+1+1,j,Z⟩) dO dO (J N k')
         have hI:OvI w (O a' m' c') nb m (pre++[x]) (w6.setCell ⟨w.heap.size+1+1+1+1,j,Z⟩ (J N k')):=by
          refine OvI.next (os:=os) ?_ ci bk.out aq am.out aM.out ah;rw[bb.out,<-aX.out.1,<-aX.out.2,Hj.out.1,<-Hj.out.2];exact co.out.out j k'
         refine⟨?_,bN.2,hI⟩;have:=bN.1
         simpa using this
 case done =>
  rintro D ys W hD rfl ⟨h1,os,ai,aG,aq,ad,aT⟩ hK;obtain⟨g1,g2,g3,g4,⟨sl,dl,g5,g6,g7,g8⟩,g9,ct,cu⟩:=ai;obtain⟨a5,c5,rfl⟩:=g6.form;have dd:=cell_of_one g4;have dk:=free_of_one g4;have bU:=cell_of_one g5;have b5:=free_of_one g5;have de:=cell_of_one g9;have db:w.heap.size<=D:=by simp at hD;omega
  have bk:=hd9 aG;have H4:=hd9 g4;have H5:=hd9 g5;have H8:=hd9 g8;have am:=hd9 ad;have cj:0<=dv B os:=(zak zbt aq).1;have cd:os.length<=1000000000:=oM
  clear aG g3 g4 g5 g8 g9 ct ad aT aj bn h1
  gi_wp2
  gi_region_with (first|(refine⟨trivial,?_⟩;gi_at_call 235;(with_reducible refine(callsIn_wide.2 (zbT (w.heap.size+1+1+1+1) _ os _ (ownDrew cu) ?_ cd ?_ cj)).mono ?_);(simp only[World.size_drew];omega);(intro x hx;have:=aq x hx;unfold B at this;omega);rintro e w3 ⟨v',zs,rfl,aW,ak,t,aP,cH,cb,-⟩;obtain⟨cY,c1⟩:=zaF aP;obtain⟨a4,c4,rfl⟩:=t.form;have bE:=hd9 ak;clear ak;have cw:w3.heap[D]?=X (.deferred (X [])):=cH D _ hK (fun _ _ e=>by cases e)))
  all_goals gi_wp2
  all_goals
   have bI:((w3.setCell ⟨w.heap.size+1+1,0,Z⟩ (O a4 zs.length c4)).setCell ⟨w.heap.size+1+1+1,0,Z⟩ (O a5 dl.length c5)).heap[D]?=X (.deferred (X [])):=by
    rw[bS _ _ _ _ (by simp at hD;dsimp only;omega),bS _ _ _ _ (by simp at hD;dsimp only;omega)];exact cw
   refine⟨by simp,.inl ⟨_,_,rfl,run_takeDeferred bI,?_⟩⟩;have cv:w.heap.size+1+1+1+1+1+1+1+1<=D:=by simpa using hD
   have q2:w3.heap[w.heap.size+1+1]?=X (V #[O Z 0 0] 59 (0,0)):=(aP.block _ oM).trans H4.out;have q3:w3.heap[w.heap.size+1+1+1]?=X (V #[O a5 dl.length c5] 59 (0,0)):=(aP.block _ oM).trans H5.out;have o5:Own 2 w3 (w.heap.size+1+1+1+1+1+1+1+1) (O a5 dl.length c5) dl:=Own.stay (ownDrew g6) (fun g o hg hh=>cb aq g o hh (by simp[Value.ownBlock];omega));have cV:Ext w w3:=(g1.drew).thenB aP oM;refine zh7 ?_ ?_ q2 q3 t o5 aW g7 (zjO bE.out am.out Hv.out (by have:=Hl.out;simpa[vals] using this)) (zjP H8.out Hv.out) cV bI cv<;>rfl
 case stop =>
  rintro D c pre W _ _ h _;exact h.elim
end
end Go.Proofs.YtjnjpagegkcgfaaGreatDoor.Cop
