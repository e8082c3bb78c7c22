/- Part 5: contracts of what the law calls. -/
import Derived.Test.YtjnjpagegkcgfaaGreatDoorCopA03
import Derived.Sort.CutIn
set_option maxRecDepth 1000000
set_option maxHeartbeats 16000000
set_option linter.unusedSimpArgs false
set_option linter.unusedVariables false
open Go.Value renaming slice→O,int→J,pointer→M
open Go renaming World→Y,Value→I
open Option renaming none→Z,some→X
open Go.Obj renaming cells→V
open Go.IntKind renaming i64→N
namespace Go.Proofs.YtjnjpagegkcgfaaGreatDoor.Cop
section
open Go.RowKit Go.Shelf
attribute [local go_sem] Oper.semAt_some
theorem Ext.keepsFrom {B:Nat} {W W':Y} (h:Ext W W'):KeepsFrom B W W':=⟨h.size,fun _ _ _ a _=>h.heapS a⟩
theorem ownDrew {T:TypeId} {w:Y} {base:Nat} {v:I} {xs:List Int} (h:Own T w base v xs):Own T w.drew base v xs:=h
theorem zag (w:Y) (o:Obj) (k:Nat):(w.alloc o).heap[k]?=if k=w.heap.size then X o else w.heap[k]?:=by
 show (w.heap.push o)[k]?=_
 rw [Array.getElem?_push]
theorem Own.stay {T:TypeId} {w w':Y} {base:Nat} {v:I} {xs:List Int} (h:Own T w base v xs) (d:∀(g:Nat) (o:Obj),base≤g→w.heap[g]?=X o→w'.heap[g]?=X o):Own T w' base v xs:=by
 obtain⟨e,a⟩:=h;refine⟨e,?_⟩
 rcases a with a|⟨g,cap,cur,hv,b,c,r⟩
 ·exact .inl a
 ·exact .inr ⟨g,cap,cur,hv,b,d _ _ b c,r⟩
theorem KeepT.putObj {T:TypeId} {w:Y} {D:Nat} {x:Option (List Deferred)} {o:Obj} (h:w.heap[D]?=X (.deferred x)):KeepT T w (w.putObj D o):=fun k b c a=>by
 rw [World.putObj_heap_other];exact a;rintro rfl;rw [h]at a;cases a
def OvW (w:Y) (a:I) (n:Nat) (L:Int) (i:Int) (os:List Int) (W:Y):Prop:=
 Ext w W∧w.heap.size+1+1+1+1+1+1+1+1≤W.heap.size∧W.heap[w.heap.size+1]?=X (V #[a] 59 (0,0))∧W.heap[w.heap.size+1+1]?=X (V #[O Z 0 0] 59 (0,0)) ∧
 (∃sl ds,W.heap[w.heap.size+1+1+1]?=X (V #[sl] 59 (0,0))∧Own 2 W (w.heap.size+1+1+1+1+1+1+1+1) sl ds∧Can B ds∧dv B ds=L) ∧
 W.heap[w.heap.size+1+1+1+1+1]?=X (V #[O (X ⟨w.heap.size+1+1+1+1,0,Z⟩) n n] 57 (0,0))∧W.heap[w.heap.size+1+1+1+1+1+1]?=X (V #[J N i] 3 (0,0)) ∧
 Own 2 W (w.heap.size+1+1+1+1) (O (X ⟨w.heap.size+1+1+1+1,0,Z⟩) n n) os
theorem OvW.keep {w:Y} {d:I} {n:Nat} {L i:Int} {os:List Int} {W W':Y} (h:OvW w d n L i os W) (o:Ext w W') (a:∀T,KeepT T W W') (r:W.heap.size≤W'.heap.size):OvW w d n L i os W':=by
 obtain⟨p,q,f,g,⟨sl,e,j,h6,k,l⟩,m,b,c⟩:=h;exact⟨o,by omega,a _ _ _ _ f,a _ _ _ _ g,⟨sl,e,a _ _ _ _ j,h6.keep (a _),k,l⟩,a _ _ _ _ m,a _ _ _ _ b,c.keep (a _)⟩
theorem OvW.ext {w:Y} {a:I} {n:Nat} {L i:Int} {os:List Int} {W W':Y} (h:OvW w a n L i os W) (k:Ext W W'):OvW w a n L i os W':=h.keep (h.1.trans k) (fun _=>k.keep) k.size
theorem OvW.left {w:Y} {e:I} {n:Nat} {L i L':Int} {os:List Int} {W:Y} (h:OvW w e n L i os W) {sl:I} {ds:List Int} (q:Own 2 W (w.heap.size+1+1+1+1+1+1+1+1) sl ds) (p:Can B ds) (hv:dv B ds=L') :
  OvW w e n L' i os (W.setCell ⟨w.heap.size+1+1+1,0,Z⟩ sl):=by
 obtain⟨g,j,l,m,⟨r,f,d,h6,s,t⟩,o,b,c⟩:=h;have a:∀k,k≠w.heap.size+1+1+1→(W.setCell ⟨w.heap.size+1+1+1,0,Z⟩ sl).heap[k]?=W.heap[k]?:=fun k a=>bS _ _ _ _ a
 refine⟨g.set dO _,by rw [qcZ];exact j,(a _ oM).trans l,(a _ oM).trans m,⟨sl,ds,one_setCell d,q.keep ((KeepT.refl _ W).set d dM _),p,hv⟩,(a _ oM).trans o,(a _ oM).trans b,c.setOther (by simp [Value.ownBlock]) _⟩
theorem OvW.num {w:Y} {g:I} {n:Nat} {L i:Int} {os:List Int} {W:Y} (h:OvW w g n L i os W) (e:Int):OvW w g n L e os (W.setCell ⟨w.heap.size+1+1+1+1+1+1,0,Z⟩ (J N e)):=by
 obtain⟨j,l,m,o,⟨f,c,p,h6,q,r⟩,s,b,d⟩:=h;have a:∀k,k≠w.heap.size+1+1+1+1+1+1→(W.setCell ⟨w.heap.size+1+1+1+1+1+1,0,Z⟩ (J N e)).heap[k]?=W.heap[k]?:=fun k a=>bS _ _ _ _ a
 refine⟨j.set dO _,by rw [qcZ];exact l,(a _ oM).trans m,(a _ oM).trans o,⟨f,c,(a _ oM).trans p,h6.keep ((KeepT.refl _ W).set b dM _),q,r⟩,(a _ oM).trans s,one_setCell b,d.setOther (by simp [Value.ownBlock]) _⟩
theorem OvW.out {w:Y} {g:I} {n:Nat} {L i:Int} {os:List Int} {W:Y} (h:OvW w g n L i os W) (j:Nat) (x:Int):OvW w g n L i (os.set j x) (W.setCell ⟨w.heap.size+1+1+1+1,j,Z⟩ (J N x)):=by
 obtain⟨l,m,o,p,⟨f,b,q,h6,r,s⟩,t,c,d⟩:=h;have a:∀k,k≠w.heap.size+1+1+1+1→(W.setCell ⟨w.heap.size+1+1+1+1,j,Z⟩ (J N x)).heap[k]?=W.heap[k]?:=fun k a=>bS _ _ _ _ a
 refine⟨l.set dO _,by rw [qcZ];exact m,(a _ oM).trans o,(a _ oM).trans p,⟨f,b,(a _ oM).trans q,h6.setOther ?_ _,r,s⟩,(a _ oM).trans t,(a _ oM).trans c,d.stored j x⟩;intro e;have:=(World.ownsRow.lt h6 _ e).1;dsimp only at this;omega
theorem ownOne (w:Y) (x:Int):Own 2 (w.alloc (V #[J N x] 2)) w.heap.size (O (X ⟨w.heap.size,0,Z⟩) 1 1) [x]:=
 World.ownsRow_lit w #[J N x] 1 (nE _) dM rfl
def OvP (w:Y) (a D:Nat) (W W':Y):Prop:=KeepsFrom D W W'∧KpW w a W W'
theorem OvP.refl (w:Y) (a D:Nat) (W:Y):OvP w a D W W:=⟨KeepsFrom.refl _ _,KpW.refl _ _ _⟩
theorem OvP.set {w:Y} {a D:Nat} {W A:Y} (h:OvP w a D W A) {p:Addr} (c:w.heap.size≤p.block) (b:p.block≠a) (u:I):OvP w a D W (A.setCell p u):=⟨h.1.trans ((KeepsOthers.setCell _ _ _).from _),h.2.set c b u⟩
theorem OvP.ext {w:Y} {a D:Nat} {W A C:Y} (h:OvP w a D W A) (k:Ext A C) (c:w.heap.size≤A.heap.size) (b:a<A.heap.size):OvP w a D W C:=⟨h.1.trans k.keepsFrom,h.2.ext k c b⟩
theorem OvW.rdI {w:Y} {a:I} {n:Nat} {L i:Int} {os:List Int} {W:Y} (h:OvW w a n L i os W):W.cell? ⟨w.heap.size+1+1+1+1+1+1,0,Z⟩=X (J N i)∧W.frozen? ⟨w.heap.size+1+1+1+1+1+1,0,Z⟩=false:=⟨cell_of_one h.2.2.2.2.2.2.1,free_of_one h.2.2.2.2.2.2.1⟩
theorem OvW.rdB {w:Y} {a:I} {n:Nat} {L i:Int} {os:List Int} {W:Y} (h:OvW w a n L i os W):W.cell? ⟨w.heap.size+1,0,Z⟩=X a:=cell_of_one h.2.2.1
theorem OvW.rdO {w:Y} {a:I} {n:Nat} {L i:Int} {os:List Int} {W:Y} (h:OvW w a n L i os W):W.cell? ⟨w.heap.size+1+1+1+1+1,0,Z⟩=X (O (X ⟨w.heap.size+1+1+1+1,0,Z⟩) n n):=cell_of_one h.2.2.2.2.2.1
theorem OvW.rdL {w:Y} {j:I} {n:Nat} {L i:Int} {os:List Int} {W:Y} (h:OvW w j n L i os W):∃a5 m5 c5,W.cell? ⟨w.heap.size+1+1+1,0,Z⟩=X (O a5 m5 c5)∧W.frozen? ⟨w.heap.size+1+1+1,0,Z⟩=false∧IsD W (.agg #[O a5 m5 c5]) L:=by
 obtain⟨k,l,m,o,⟨g,a,b,h6,e,f⟩,p,c,d⟩:=h;obtain⟨a5,c5,rfl⟩:=h6.form;exact⟨a5,_,c5,cell_of_one b,free_of_one b,OwnD.isD ⟨_,a,rfl,h6,e,f⟩⟩
theorem OvW.leftCell {w:Y} {d:I} {n:Nat} {L i:Int} {os:List Int} {W:Y} (h:OvW w d n L i os W) (sl:I):(W.setCell ⟨w.heap.size+1+1+1,0,Z⟩ sl).cell? ⟨w.heap.size+1+1+1,0,Z⟩=X sl:=by
 obtain⟨c,a,b,_⟩:=h.2.2.2.2.1;exact cell_of_one (one_setCell b)
theorem OvW.leftD {w:Y} {f:I} {n:Nat} {L L' i:Int} {os:List Int} {W:Y} (h:OvW w f n L i os W) {sl:I} {ds:List Int} {base:Nat} (a:Own 2 W base sl ds) (d:Can B ds) (hv:dv B ds=L') :
  IsD (W.setCell ⟨w.heap.size+1+1+1,0,Z⟩ sl) (.agg #[sl]) L':=by
 obtain⟨e,b,c,_⟩:=h.2.2.2.2.1;exact OwnD.isD ⟨_,ds,rfl,a.setOther (a.ne_block c dM) _,d,hv⟩
theorem zdr {a b:Int} (h:a<b):decide (cmp3 a b<0)=true:=by simp only [cmp3];grind
theorem zcB {a b:Int} (h:¬a<b):decide (cmp3 a b<0)=false:=by simp only [cmp3];grind
theorem zoD {k:Int} (a:0≤k) (b:k<18446744073709551616):Lm lim k:=by
 refine Lm.mono (j:=3) ?_ dM;unfold Lm B
 constructor<;>omega
theorem zl9 (k:Int):IntKind.u64.wrap k=k % 18446744073709551616:=by
 simp [IntKind.wrap,IntKind.signed,IntKind.bits]
theorem Lm.le {k:Nat} {a b:Int} (h:Lm k b) (c:0≤a) (d:a≤b):Lm k a:=by
 have:=zaq zbr k;unfold Lm at *;omega
theorem zlW {os:List Int} {j:Nat} (h:os[j]?=X 0):os.set j 0=os:=by
 obtain⟨a,b⟩:=lS.1 h;rw [←b];exact List.set_getElem_self a
def OvI (w:Y) (a:I) (nb:Int) (n:Nat) (pre:List Dgt) (W:Y):Prop:=
 pre.length≤n∧∃os,OvW w a n (hv pre % nb) ((n:Int)-pre.length) os W∧os.length=n∧Dig B os∧dv B os=B ^ (n-pre.length)*(hv pre / nb)∧∀j,j<n-pre.length→os[j]?=X 0
theorem zkf {os:List Int} {n p:Nat} {h x nb:Int} (i:p<n) (g:os.length=n) (c:dv B os=B ^ (n-p)*(h / nb)) (d:os[n-(p+1)]?=X 0) (f:0<nb) :
  dv B (os.set (n-(p+1)) ((x+B*(h % nb)) / nb))=B ^ (n-(p+1))*((x+B*h) / nb):=by
 rw [zdk _ d,c,show n-p=(n-(p+1))+1 by omega,Int.pow_succ,Int.sub_zero]
 have e:(x+B*h) / nb=B*(h / nb)+(x+B*(h % nb)) / nb:=by
  have a:h=nb*(h / nb)+h % nb:=(Int.mul_ediv_add_emod h nb).symm
  have b:x+B*h=(x+B*(h % nb))+nb*(B*(h / nb)):=by
   generalize h / nb=q at *
   generalize h % nb=r at *
   subst a
   grind
  rw [b,Int.add_mul_ediv_left _ _ oM,Int.add_comm]
 rw [e]
 generalize B ^ (n-(p+1))=P
 generalize h / nb=q
 generalize (x+B*(h % nb)) / nb=r
 grind
theorem zlN {h x nb:Int} (a:0<nb):(x+B*h) % nb=(x+B*(h % nb)) % nb:=by
 rw [Int.add_emod,Int.mul_emod,←Int.emod_emod_of_dvd h (Int.dvd_refl nb),←Int.mul_emod,←Int.add_emod];rw [Int.emod_emod_of_dvd h (Int.dvd_refl nb)]
theorem zeK {L x nb:Int} (a:0≤L) (b:L<nb) (c:0≤x∧x<16777216):0≤(x+B*L) / nb∧(x+B*L) / nb<16777216:=by
 unfold B;refine⟨Int.ediv_nonneg oM oM,Int.ediv_lt_of_lt_mul oM ?_⟩;omega
theorem OvI.next {w:Y} {l:I} {nb:Int} {n:Nat} {pre:List Dgt} {x:Dgt} {os:List Int} {W:Y}
  (h:OvW w l n ((x.1+B*(hv pre % nb)) % nb) ((n:Int)-pre.length-1) (os.set (n-(pre.length+1)) ((x.1+B*(hv pre % nb)) / nb)) W)
  (o:pre.length<n) (c:os.length=n) (i:Dig B os) (b:dv B os=B ^ (n-pre.length)*(hv pre / nb)) (f:∀j,j<n-pre.length→os[j]?=X 0) (a:0<nb):OvI w l nb n (pre++[x]) W:=by
 have p:=x.2;have k:=zeK (L:=hv pre % nb) (x:=x.1) (Int.emod_nonneg (hv pre) oM) (Int.emod_lt_of_pos (hv pre) a) p;refine⟨by simp;omega,os.set (n-(pre.length+1)) ((x.1+B*(hv pre % nb)) / nb),?_,by simpa using c,?_,?_,?_⟩
 ·rw [zgA,zlN a,lA,List.length_singleton]
  have e:((n:Int)-((pre.length+1:Nat):Int))=(n:Int)-pre.length-1:=oM
  rw [e];exact h
 ·intro d g
  rcases List.mem_or_eq_of_mem_set g with g|rfl
  ·exact i d g
  ·unfold B at k ⊢;exact k
 ·rw [zgA,lA,List.length_singleton]
  exact zkf o c b (f _ oM) a
 ·intro j m
  rw [lA,List.length_singleton]at m;rw [List.getElem?_set_ne oM];exact f j oM
def OvK (w:Y) (b:I) (n:Nat) (L i:Int) (os:List Int) (a D:Nat) (W:Y) (t9:I) (wr:Y):Prop:=
 ∃k:Int,t9=J N k ∧ -9223372036854775808≤k∧k<9223372036854775808∧OvW w b n L i os wr∧OvP w a D W wr
def OvB (w:Y) (c:I) (n:Nat) (L i:Int) (os:List Int) (a D:Nat) (W:Y) (b:Bool) (t:I) (wr:Y):Prop:=
 t = .bool b∧OvW w c n L i os wr∧OvP w a D W wr
theorem zcm (x:Int) : -9223372036854775808≤IntKind.i64.wrap x∧IntKind.i64.wrap x<9223372036854775808∧IntKind.i64.wrap x % 18446744073709551616=x % 18446744073709551616:=by
 simp [IntKind.wrap,IntKind.signed,IntKind.bits];omega
theorem zkc {k d a L nb:Int} (h:d % 18446744073709551616=(k-1) % 18446744073709551616) (f:a=k % 18446744073709551616) (e:0≤L) (c:L<nb*a):(d % 18446744073709551616).toNat<(k % 18446744073709551616).toNat:=by
 have b:a≠0:=by rintro b;rw [b]at c;simp at c;omega
 omega
def OvC (w:Y) (b:I) (n:Nat) (L i:Int) (os:List Int) (a D:Nat) (W:Y) (wr:Y):Prop:=
 OvW w b n L i os wr∧OvP w a D W wr
def OvM (w:Y) (b:I) (n:Nat) (L nb i:Int) (os:List Int) (a D:Nat) (W:Y) (t9:I) (wr:Y):Prop:=
 ∃k L2:Int,t9=J N k ∧ -9223372036854775808≤k∧k<9223372036854775808∧0≤L2∧L2+nb*(k % 18446744073709551616)=L∧OvW w b n L2 i os wr∧OvP w a D W wr
theorem Lm.dig {k:Nat} {ds:List Int} (h:Dig B ds) (a:ds.length≤k):Lm k (dv B ds):=by
 have c:=zak zbr h;have d:=zaC (b:=B) dM a;have e:=zaq zbr k;unfold Lm;omega
theorem zm4 {a b:Int} (h:b≤a):decide (0≤cmp3 a b)=true:=by simp only [cmp3];grind
theorem zlc {a b:Int} (h:¬b≤a):decide (0≤cmp3 a b)=false:=by simp only [cmp3];grind
theorem znH {nb L2 L a:Int} (b:0<nb) (g:0≤a) (f:L2+nb*a=L) (i:nb≤L2) (e:L<B*nb):a+1≤L / nb∧a+1<16777217:=by
 have c:(a+1)*nb≤L:=by rw [←f,Int.add_mul,Int.mul_comm a nb];omega
 have h:a+1≤L / nb:=(Int.le_ediv_iff_mul_le b).2 c;have d:L / nb<B:=Int.ediv_lt_of_lt_mul b e;unfold B at d;omega
theorem zlL {nb L2 L k:Int} (a:0<nb) (c:L2+nb*(k % 18446744073709551616)=L) (b:0≤L2) (j:¬nb≤L2) (e:L<B*nb) (f : -9223372036854775808≤k) (g:k<9223372036854775808):k=L / nb∧L2=L % nb:=by
 have h:L / nb=k % 18446744073709551616:=by rw [←c,Int.add_mul_ediv_left _ _ oM,Int.ediv_eq_zero_of_lt b oM];omega
 have i:L % nb=L2:=by rw [←c,Int.add_mul_emod_self_left,Int.emod_eq_of_lt b oM]
 have d:L / nb<B:=Int.ediv_lt_of_lt_mul a e;unfold B at d;omega
theorem zlO {x r L nb:Int} (h:x+B*r=L) (b:x<16777216) (a:r<nb):L<B*nb:=by unfold B at *;omega
def limA:Nat:=10000000
theorem zkd {zs os:List Int} {ds:List Dgt} {m:Nat} {a nb:Int} (b:dv B zs=dv B os) (c:dv B os=B ^ (m-ds.reverse.length)*(hv ds.reverse / nb)) (d:dv B (vals ds)=a) (e:ds.length=m):dv B zs=a / nb:=by
 rw [b,c,zjF,d,List.length_reverse,e,Nat.sub_self];simp
theorem zke {a:List Int} {ds:List Dgt} {b nb:Int} (c:dv B a=hv ds.reverse % nb) (d:dv B (vals ds)=b):dv B a=b % nb:=by
 rw [c,zjF,d]
theorem zim {w d:Y} {D:Nat} {tmps:Array I} {f nb:Int} {a4 a5:Option Addr} {b c:Nat} {zs a:List Int} {v2 v3:I} {x:Option (List Deferred)}
  (t4:tmps.getD 4 undef=M (X ⟨w.heap.size+1+1,0,Z⟩)) (t5:tmps.getD 5 undef=M (X ⟨w.heap.size+1+1+1,0,Z⟩))
  (l:d.heap[w.heap.size+1+1]?=X (V #[v2] 59 (0,0))) (q3:d.heap[w.heap.size+1+1+1]?=X (V #[v3] 59 (0,0)))
  (s:Own 2 d (w.heap.size+1+1+1+1) (O a4 zs.length b) zs) (t:Own 2 d (w.heap.size+1+1+1+1+1+1+1+1) (O a5 a.length c) a)
  (L:Can B zs) (K:Can B a) (P:dv B zs=f / nb) (Q:dv B a=f % nb) (j:Ext w d)
  (g:((d.setCell ⟨w.heap.size+1+1,0,Z⟩ (O a4 zs.length b)).setCell ⟨w.heap.size+1+1+1,0,Z⟩ (O a5 a.length c)).heap[D]?=X (.deferred x))
  (hD:w.heap.size+1+1+1+1+1+1+1+1≤D) :
  LeavesInM Fence.wide 6 Tryz.prog Tryz.f182 tmps (fun e n=>∃q r,e = .returned (.tuple #[q,r])∧OwnD n w.heap.size q (f / nb)∧OwnD n w.heap.size r (f % nb)∧Ext w n) [] FrameMode.returning
   (((d.setCell ⟨w.heap.size+1+1,0,Z⟩ (O a4 zs.length b)).setCell ⟨w.heap.size+1+1+1,0,Z⟩ (O a5 a.length c)).putObj D (.deferred Z)):=by
 have r2:(d.setCell ⟨w.heap.size+1+1,0,Z⟩ (O a4 zs.length b)).heap[w.heap.size+1+1]?=X (V #[O a4 zs.length b] 59 (0,0)):=one_setCell l;have m:(d.setCell ⟨w.heap.size+1+1,0,Z⟩ (O a4 zs.length b)).heap[w.heap.size+1+1+1]?=X (V #[v3] 59 (0,0)):=(bS _ _ _ _ dO).trans q3;have u:=s.setOther (p:=⟨w.heap.size+1+1,0,Z⟩) (s.ne_block l dM) (O a4 zs.length b);have v:=t.setOther (p:=⟨w.heap.size+1+1,0,Z⟩) (t.ne_block l dM) (O a4 zs.length b);have h:=j.set (p:=⟨w.heap.size+1+1,0,Z⟩) dO (O a4 zs.length b)
 generalize d.setCell ⟨w.heap.size+1+1,0,Z⟩ (O a4 zs.length b)=w4 at *
 have s2:(w4.setCell ⟨w.heap.size+1+1+1,0,Z⟩ (O a5 a.length c)).heap[w.heap.size+1+1]?=X (V #[O a4 zs.length b] 59 (0,0)):=(bS _ _ _ _ dO).trans r2;have s3:(w4.setCell ⟨w.heap.size+1+1+1,0,Z⟩ (O a5 a.length c)).heap[w.heap.size+1+1+1]?=X (V #[O a5 a.length c] 59 (0,0)):=one_setCell m;have R:=u.setOther (p:=⟨w.heap.size+1+1+1,0,Z⟩) (u.ne_block m dM) (O a5 a.length c);have S:=v.setOther (p:=⟨w.heap.size+1+1+1,0,Z⟩) (v.ne_block m dM) (O a5 a.length c);have i:=h.set (p:=⟨w.heap.size+1+1+1,0,Z⟩) dO (O a5 a.length c)
 generalize w4.setCell ⟨w.heap.size+1+1+1,0,Z⟩ (O a5 a.length c)=w5 at *
 have y:=cell_of_one ((World.putObj_heap_other (w:=w5) (r:=D) (o:=.deferred Z) oM).trans s2);have z:=cell_of_one ((World.putObj_heap_other (w:=w5) (r:=D) (o:=.deferred Z) oM).trans s3);have T:=R.keep (KeepT.putObj (o:=.deferred Z) g);have W:=S.keep (KeepT.putObj (o:=.deferred Z) g);refine⟨.tuple #[.agg #[O a4 zs.length b],.agg #[O a5 a.length c]],?_,_,_,rfl,⟨_,zs,rfl,T.mono oM,L,P⟩,⟨_,a,rfl,W.mono oM,K,Q⟩,?_⟩
 ·simp only [Array.getD_eq_getD_getElem?]at t4 t5
  simp [results,Tryz.results182,go_sem,t4,t5,y,z]
 ·exact i.thenB ((Below.refl D w5).grown (grownBy_putObj' w5 D _) (by have:=zaa g;omega) (fun k e=>by cases e;omega)) oM
theorem zht (w:Y) (va vb:I) (na nb:Int) (ha:IsD w va na) (hb:IsD w vb nb) (bq:Lm limA na) (cb:Lm limA nb) (ag:0<nb) :
  Calls Tryz.prog 182 #[va,vb] w fun e w'=>∃q r,e = .returned (.tuple #[q,r])∧OwnD w' w.heap.size q (na / nb)∧OwnD w' w.heap.size r (na % nb)∧Ext w w':=by
 obtain⟨a,m,c,rfl⟩:=ha.form;obtain⟨a',m',c',rfl⟩:=hb.form;obtain⟨xs,hl,hi,hc,hv⟩:=ha.open;have hm:=bq.len hc hv;rw [hl]at hm;unfold limA at hm;obtain⟨ds,rfl⟩:=zgT hc.1;have Hl:=hd9 hl;have Hv:=hd9 hv;clear hl hv;have dr:∀(fn:Fn) (first cap:Array I) (w:Y),(Instr.makeFunc fn first cap).run Tryz.prog w = .ok (.func fn first cap) w:=fun _ _ _ _=>rfl
 refine(callsIn_wide (n:=6)).1 ?_;refine callsIn_of_wp_marks Tryz.func182 rfl trivial ?_ rfl;simp only [Tryz.ntmps182,List.size_toArray,List.length_cons,List.length_nil,Nat.reduceAdd,Nat.reduceSub,Array.replicate_succ,Array.replicate_zero,List.push_toArray,List.append_toArray,List.nil_append,List.cons_append]
 gi_wp2_with(first|(gi_at_make;refine zoH zaK Tryz.underlying57 rfl _ _ rfl _ rfl rfl rfl oM ?_;intro cs ai)|(refine⟨trivial,?_⟩;gi_at_call 189;refine(callsIn_wide.2 (zgZ _ _ _ _)).mono ?_;rintro e w' ⟨rfl,rfl⟩))
 have bm:((((((((w.alloc (V #[O a m c] 59)).alloc (V #[O a' m' c'] 59)).alloc (V #[O Z 0 0] 59)).alloc (V #[O Z 0 0] 59)).alloc (V cs 2)).alloc (V #[O (X ⟨w.heap.size+1+1+1+1,0,Z⟩) m m] 57)).alloc (V #[J N m] 3)).alloc (V #[O a m c] 59)).cell? ⟨w.heap.size+1+1+1+1+1+1+1,0,Z⟩=X (O a m c):=by
  rw [World.cell?_alloc_at _ _ _ _ sM];rfl
 refine wpIn_rangeFunc_ownG rfl dM (gf:=237) (lb:=#[M (X ⟨w.heap.size+1+1+1+1+1+1+1,0,Z⟩)]) rfl trivial (enters_of Tryz.func237 kM rfl)
  (zey _ _ trivial rfl dM (w.heap.size+1+1+1+1+1+1+1) w _ _ ds bm sM hi eA) KpW.trans (KpW.put (by simp;omega) sM) (Below.refl _ _) (fun _=>rfl)
  (OvI w (O a' m' c') nb m) (fun _ _ _=>False) (zam (fun s W h=>by obtain⟨_,os,h,_⟩:=h;have:=h.2.1;simp;omega) (fun s W W' h k=>?hsim)) (fun _=>zam (fun _ _ h=>h.elim) (fun _ _ _ h _=>h)) ?h0
  (fun x=>{ tmps:=#[.agg #[O a m c],.agg #[O a' m' c'],M (X ⟨w.heap.size,0,Z⟩),M (X ⟨w.heap.size+1,0,Z⟩),M (X ⟨w.heap.size+1+1,0,Z⟩),M (X ⟨w.heap.size+1+1+1,0,Z⟩),M (X ⟨w.heap.size+1+1+1+1+1,0,Z⟩),M (X ⟨w.heap.size+1+1+1+1+1+1,0,Z⟩),J N x.1,undef,M (X ⟨w.heap.size,0,Z⟩),O a m c,J N m,O (X ⟨w.heap.size+1+1+1+1,0,Z⟩) m m,M (X ⟨w.heap.size,0,Z⟩),O a m c,J N m,.agg #[O a m c],.func (.func 237) #[] #[M (X ⟨w.heap.size+1+1+1+1+1+1+1,0,Z⟩)],J N x.1,undef,undef,undef,undef,undef,undef,undef,undef,undef,undef,undef,undef,undef,undef,undef,undef,undef,undef,undef,undef,undef,undef,undef,undef,undef,undef,undef,undef,undef,undef,undef,undef,undef,undef,undef,undef,undef,undef,undef,undef,undef,undef,undef,undef,undef,undef,undef,undef],defers:=[] }) ?assign ?body ?done ?stop
 case hsim =>
  obtain⟨h1,os,h2,h3⟩:=h;exact⟨h1,os,h2.keep (k.ext h2.1 (by simp;omega)) k.keep k.size,h3⟩
 case h0 =>
  refine⟨by simp,List.replicate m 0,⟨eA,by simp,(by simp only [zag,wZ];simp),(by simp only [zag,wZ];simp),⟨_,[],(by simp only [zag,wZ];simp),Own.nil _ _ _,Can.nil _,by simp [hv,vals]⟩,(by simp only [zag,wZ];simp),by simp only [zag,wZ];simp,?_⟩,by simp,?_,by rw [zaw];simp [hv,vals],?_⟩
  ·simpa using ((ai.alloc _).alloc _).alloc _
  ·intro d hd;have:=(List.mem_replicate.1 hd).2;unfold B;omega
  ·intro j hj;simp at hj;simp [hj]
 case assign =>
  intro l x W K hK
  gi_wp2
  exact hK
 case body =>
  rintro l pre x W ⟨h1,os,ah,aF,ap,ac,aS⟩ ce;have c3:=hd9 bq;have bi:=hd9 cb;clear bq cb;have ck:=x.2.1;have bt:=x.2.2;obtain⟨de,dk⟩:=ah.rdI;obtain⟨a5,m5,c5,bT,b4,bF⟩:=ah.rdL;have db:=ah.2.1;have c9:=hd9 ce;have bj:=hd9 aF;have al:=hd9 ac;have aL:=hd9 aS;have cp:=hd9 ah;have cl:=hd9 bF;have ch:pre.length<m:=by have h5:=Hl.out;have h6:=zbL ds;omega
  have dp:IntKind.i64.wrap ((m:Int)-pre.length-1)=(m:Int)-pre.length-1:=iW _ oM;clear ce aF ac aS ah bF ai bm;have ak:=cp.out.num ((m:Int)-pre.length-1);obtain⟨W1,af⟩:=gX (W.setCell ⟨w.heap.size+1+1+1+1+1+1,0,Z⟩ (J N ((m:Int)-pre.length-1)));rw [af]at ak;have cQ:W1.heap.size=W.heap.size:=by rw [←af,qcZ]
  obtain⟨a6,m6,c6,bV,dm,bk⟩:=ak.rdL
  have bW:((W.setCell ⟨w.heap.size+1+1+1+1+1+1,0,Z⟩ (J N ((m:Int)-pre.length-1))).alloc (V #[J N x.1] 2)).cell? ⟨w.heap.size+1+1+1,0,Z⟩=X (O a6 m6 c6):=by
   rw [af,World.cell?_alloc_lt _ _ _ dO];exact bV
  have co:=hd9 ak;have c1:=hd9 bk;have bg:=hd9 af;obtain⟨es,b0,bZ,bY,b3⟩:=bk.open;have bz:=hd9 b3;have c2:=hd9 b0
  have aG:Own 2 ((W.setCell ⟨w.heap.size+1+1+1+1+1+1,0,Z⟩ (J N ((m:Int)-pre.length-1))).alloc (V #[J N x.1] 2)) W.heap.size (O (X ⟨W.heap.size,0,Z⟩) 1 1) [x.1]:=by
   rw [af,←cQ];exact ownOne W1 x.1
  have a0:Ints 2 ((W.setCell ⟨w.heap.size+1+1+1+1+1+1,0,Z⟩ (J N ((m:Int)-pre.length-1))).alloc (V #[J N x.1] 2)) (O a6 m6 c6) es:=by
   rw [af];exact bZ.ext eA
  have cY:es.length≤10000000:=by
   have:=Lm.len (bi.out.le (Int.emod_nonneg _ oM) (Int.le_of_lt (Int.emod_lt_of_pos (hv pre) ag))) bY bz.out;exact this
  have b1:[x.1].length+es.length≤1000000000000:=by simp;omega
  have b2:([x.1]++es).length≤1000000000:=by simp;omega
  have bn:Dig B ([x.1]++es):=by
   intro y hy
   rcases List.mem_append.1 hy with hy|hy
   ·cases List.mem_singleton.1 hy;exact⟨ck,bt⟩
   ·exact bY.1 y hy
  have cI:∀y∈[x.1]++es,-4611686018427387904≤y∧y≤4611686018427387904:=by
   intro y hy;have:=bn y hy;unfold B at this;omega
  have bo:0≤dv B ([x.1]++es):=(zak zbr bn).1;obtain⟨L',bl⟩:∃L',x.1+B*(hv pre % nb)=L':=⟨_,rfl⟩;have a1:dv B ([x.1]++es)=L':=by rw [←bl,←bz.out];simp
  have ba:=hd9 bl;have S:=hd9 a1;clear bl a1;have aY:W.heap.size≤((W.setCell ⟨w.heap.size+1+1+1+1+1+1,0,Z⟩ (J N ((m:Int)-pre.length-1))).alloc (V #[J N x.1] 2)).heap.size:=sM
  clear af bk bV ak b3 b0 bT b4 cl bZ
  gi_wp2_with(gi_at_builtin;go_loud (refine zmT zaK Tryz.underlying57 rfl _ _ rfl rfl aG rfl a0 b1 aY ?_);intro v' w1 t P aP;have cR:=nT aY P.size)
  refine⟨trivial,?_⟩
  (with_reducible refine(CallsIn.inRound l (callsIn_wide.2 (zcv W.heap.size v' ([x.1]++es) w1 t cR b2 cI bo))).mono ?_)
  rintro e w2 ⟨v2,zs,rfl,aV,aj,Q,bP,cH⟩;obtain⟨a7,c7,rfl⟩:=Q.form
  have bv:Ext W1 w2:=by
   rw [bg.out]at P;exact(((eR W1).alloc _).thenB P oM).thenB bP oM
  have au:=co.out.ext bv;have aK:=au.left (Q.mono oM) aV (aj.trans S.out);obtain⟨_,_,_,cw,cJ,_⟩:=au.rdL;have cC:=au.leftCell (O a7 zs.length c7);have bQ:=aK.rdB;have a9:=au.leftD Q aV (aj.trans S.out);have aJ:=hb.ext aK.1;have ar:=hd9 aK;have bD:=hd9 aj;have ae:=hd9 bv;clear au aK aj bv bW aG a0 P t cH bP Q aP;have aM:0≤L':=by rw [←S.out];exact bo
  by_cases aR:L'<nb
  ·have cF:=zdr aR
   gi_wp2_with(refine⟨trivial,?_⟩;gi_at_call 226;(with_reducible refine(CallsIn.inRound l (callsIn_wide.2 (zci _ _ _ _ _ a9 aJ))).mono ?_);rintro e w4 ⟨rfl,u⟩)
   have hP:OvP w (w.heap.size+1+1+1+1+1+1+1) (w.heap.size+1+1+1+1+1+1+1+1) W w4:=by
    have h5:=(OvP.refl w (w.heap.size+1+1+1+1+1+1+1) (w.heap.size+1+1+1+1+1+1+1+1) W).set (p:=⟨w.heap.size+1+1+1+1+1+1,0,Z⟩) dO dO (J N ((m:Int)-pre.length-1));rw [bg.out]at h5;have h6:=ae.out.size;exact((h5.ext ae.out oM oM).set (p:=⟨w.heap.size+1+1+1,0,Z⟩) dO dO _).ext u (by rw [qcZ];omega) (by rw [qcZ];omega)
   have hI:OvI w (O a' m' c') nb m (pre++[x]) w4:=by
    refine OvI.next (os:=os) ?_ ch bj.out ap al.out aL.out ag;have h0:=ba.out;have h1:=(zeK (L:=hv pre % nb) (x:=x.1) (Int.emod_nonneg (hv pre) oM) (Int.emod_lt_of_pos (hv pre) ag) ⟨ck,bt⟩);rw [h0];have aM:0≤L':=by rw [←S.out];exact bo
    rw [Int.emod_eq_of_lt aM aR,Int.ediv_eq_zero_of_lt aM aR,zlW (aL.out _ oM)];exact ar.out.ext u
   refine⟨?_,hP.2,hI⟩;have:=hP.1
   simpa using this
  ·have cF:=zcB aR
   have bL:OvP w (w.heap.size+1+1+1+1+1+1+1) (w.heap.size+1+1+1+1+1+1+1+1) W (w2.setCell ⟨w.heap.size+1+1+1,0,Z⟩ (O a7 zs.length c7)):=by
    have h5:=(OvP.refl w (w.heap.size+1+1+1+1+1+1+1) (w.heap.size+1+1+1+1+1+1+1+1) W).set (p:=⟨w.heap.size+1+1+1+1+1+1,0,Z⟩) dO dO (J N ((m:Int)-pre.length-1));rw [bg.out]at h5;exact(h5.ext ae.out oM oM).set (p:=⟨w.heap.size+1+1+1,0,Z⟩) dO dO _
   have bx:=hd9 bL;clear bL
   gi_wp2_with(first|(refine⟨trivial,?_⟩;gi_at_call 226;(with_reducible refine(CallsIn.inRound l (callsIn_wide.2 (zci _ _ _ _ _ a9 aJ))).mono ?_);rintro e w4 ⟨rfl,u⟩;obtain⟨a8,m8,c8,T,ao,i⟩:=(ar.out.ext u).rdL;have aa:=(ar.out.ext u).rdB;have f:=aJ.ext u)|(refine⟨trivial,?_⟩;gi_at_call 236;(with_reducible refine(CallsIn.inRound l (callsIn_wide.2 (zkE _ _ _ _ _ i f (bi.out.mono dM)))).mono ?_);rintro e w5 ⟨⟨k0,rfl,bp⟩,bu⟩))
   have bB:=(ar.out.ext u).ext bu;have bN:=(bx.out.ext u (by rw [qcZ];have h6:=ae.out.size;omega) (by rw [qcZ];have h6:=ae.out.size;omega)).ext bu (by have h7:=u.size;rw [qcZ]at h7;have h6:=ae.out.size;omega) (by have h7:=u.size;rw [qcZ]at h7;have h6:=ae.out.size;omega);clear T ao i aa f a9 aJ cw cJ cC bQ bx
   gi_loopw [9] (OvK w (O a' m' c') m L' ((m:Int)-pre.length-1) os (w.heap.size+1+1+1+1+1+1+1) (w.heap.size+1+1+1+1+1+1+1+1) W) (fun t9 _=>(intOf t9 % 18446744073709551616).toNat)
   case atStart=>exact⟨k0,rfl,bp.1,by have:=bp.2;omega,bB,bN⟩
   case round =>
    clear bB bN u bu bp;obtain⟨k,rfl,b5,b7,Ho,hP⟩:=hrel;obtain⟨a8,m8,c8,T,ao,i⟩:=Ho.rdL;have aa:=Ho.rdB;have f:=hb.ext Ho.1;have R:=hd9 Ho;have HP:=hd9 hP;have aT:=Ho.2.1;obtain⟨kk,b8⟩:=gX (IntKind.u64.wrap k);have b9:kk=k % 18446744073709551616:=by rw [←b8,zl9]
    have am:0≤kk:=oM
    have aD:kk<18446744073709551616:=oM
    have bf:=hd9 (zoD am aD);have bc:Hid (Lm lim nb):=hd9 (bi.out.mono dM);have bh:=hd9 b9;clear Ho hP ar b9
    gi_wp2
    gi_cut [42]from 1000 (OvB w (O a' m' c') m L' ((m:Int)-pre.length-1) os (w.heap.size+1+1+1+1+1+1+1) (w.heap.size+1+1+1+1+1+1+1+1) W (decide (cmp3 L' (nb*kk)<0)))
    case first =>
     gi_region_with (first|(refine⟨trivial,?_⟩;gi_at_call 188;(with_reducible refine(CallsIn.inRound l (callsIn_wide.2 (zcl _ kk am aD))).mono ?_);rintro e wa ⟨r1,rfl,aH,b⟩;obtain⟨ax,mx,cx,rfl⟩:=aH.isD.form;have av:=b.cellS T;have bU:=b.cellS aa)|(refine⟨trivial,?_⟩;gi_at_call 195;(with_reducible refine(CallsIn.inRound l (callsIn_wide.2 (zgc _ _ _ nb kk ?_ ?_ bc.out bf.out))).mono ?_);(refine f.ext ?_;exact eA);(refine aH.isD.ext ?_;exact eA);rintro e wb ⟨r2,rfl,aI,z⟩;obtain⟨ay,my,cy,rfl⟩:=aI.isD.form;have aZ:=z.cellS av)|(refine⟨trivial,?_⟩;gi_at_call 226;(with_reducible refine(CallsIn.inRound l (callsIn_wide.2 (zci _ _ _ L' (nb*kk) ?_ ?_))).mono ?_);(refine i.ext ?_;exact eA);(refine aI.isD.ext ?_;exact eA);rintro e wz ⟨rfl,an⟩))
     all_goals gi_wp2
     all_goals gi_meet
     all_goals
      have aq:Ext wr wz:=by
       have h1:Ext wr wa:=(eR wr).drew.trans b;exact(h1.trans z).trans an
      exact⟨rfl,R.out.ext aq,HP.out.ext aq oM oM⟩
    case rest =>
     clear R HP T ao i aa f aT;obtain⟨rfl,Ho,hP⟩:=hcut;have R:=hd9 Ho;have HP:=hd9 hP;clear Ho hP
     by_cases br:L'<nb*kk
     ·have aw:=zdr br
      obtain⟨k1,b6⟩:=gX (IntKind.i64.wrap (k-1));have ab:=zcm (k-1);rw [b6]at ab;rw [aw]
      gi_wp2
      go_roundw
      case rel=>exact⟨k1,rfl,ab.1,ab.2.1,R.out,HP.out⟩
      case measure =>
       have:=zkc ab.2.2 bh.out aM br
       simpa [intOf] using this
     ·have aw:=zcB br
      rw [aw];have cd:nb*kk≤L':=oM
      have cg:0≤nb*kk:=Int.mul_nonneg oM am;have bb:Hid (Lm lim L'):=hd9 (by rw [←S.out];exact Lm.dig bn (by unfold lim;simp;omega));have bw:Hid (Lm lim (nb*kk)):=hd9 (bb.out.le cg cd);obtain⟨a8,m8,c8,T,ao,i⟩:=R.out.rdL;have aa:=R.out.rdB;have f:=hb.ext R.out.1;have aT:=R.out.2.1
      gi_wp2
      gi_cut []from 1000 (OvC w (O a' m' c') m (L' + -1*(nb*kk)) ((m:Int)-pre.length-1) os (w.heap.size+1+1+1+1+1+1+1) (w.heap.size+1+1+1+1+1+1+1+1) W)
      case first =>
       gi_region_with (first|(refine⟨trivial,?_⟩;gi_at_call 188;(with_reducible refine(CallsIn.inRound l (callsIn_wide.2 (zcl _ kk am aD))).mono ?_);rintro e wa ⟨r1,rfl,aH,b⟩;obtain⟨ax,mx,cx,rfl⟩:=aH.isD.form;have av:=b.cellS T;have bU:=b.cellS aa)|(refine⟨trivial,?_⟩;gi_at_call 195;(with_reducible refine(CallsIn.inRound l (callsIn_wide.2 (zgc _ _ _ nb kk ?_ ?_ bc.out bf.out))).mono ?_);(refine f.ext ?_;exact eA);(refine aH.isD.ext ?_;exact eA);rintro e wb ⟨r2,rfl,aI,z⟩;obtain⟨ay,my,cy,rfl⟩:=aI.isD.form;have aZ:=z.cellS av)|(refine⟨trivial,?_⟩;gi_at_call 187;(with_reducible refine(CallsIn.inRound l (callsIn_wide.2 (zcU _ _ _ L' (nb*kk) (-1) ?_ ?_ bb.out bw.out oM oM))).mono ?_);(refine i.ext ?_;exact eA);(refine aI.isD.ext ?_;exact eA);rintro e wz ⟨r3,rfl,⟨cV,d3,rfl,aE,aC,bs⟩,an⟩;obtain⟨az,cz,rfl⟩:=aE.form;have aq:Ext wc wz:=(((eR wc).drew.trans b).trans z).trans an;obtain⟨_,_,_,cD,cK,_⟩:=(R.out.ext aq).rdL))
       all_goals gi_wp2
       all_goals gi_meet
       all_goals
        have cS:=b.size;have cT:=z.size;have dt:=an.size;exact⟨(R.out.ext aq).left (aE.mono (by simp only [World.size_drew]at *;omega)) aC bs,(HP.out.ext aq oM oM).set dO dO _⟩
      case rest =>
       clear R HP T ao i aa f aT bf bw;obtain⟨bC,bO⟩:=hcut;have bJ:=zlO ba.out bt (Int.emod_lt_of_pos (hv pre) ag)
       gi_wp2
       gi_loopw [9] (OvM w (O a' m' c') m L' nb ((m:Int)-pre.length-1) os (w.heap.size+1+1+1+1+1+1+1) (w.heap.size+1+1+1+1+1+1+1+1) W) (fun t9 _=>(L' / nb-intOf t9 % 18446744073709551616).toNat)
       case atStart=>exact⟨k,L' + -1*(nb*kk),rfl,b5,b7,by omega,by rw [←bh.out];omega,bC,bO⟩
       case round =>
        clear bC bO b5 b7 b8 bh;obtain⟨k',L2,rfl,cO,cP,bI,bK,Ho,hP⟩:=hrel;obtain⟨aA,mA,cA,T,ao,i⟩:=Ho.rdL;have aa:=Ho.rdB;have f:=hb.ext Ho.1;have aT:=Ho.2.1;have cf:0≤k' % 18446744073709551616:=oM
        have cN:0≤nb*(k' % 18446744073709551616):=Int.mul_nonneg oM cf;have be:=hd9 bK;have cm:Hid (Lm lim L2):=hd9 (bb.out.le bI oM);have R:=hd9 Ho;have HP:=hd9 hP;clear Ho hP bK cN
        by_cases aQ:nb≤L2
        ·have bX:=zm4 aQ
         have cj:=znH ag cf be.out aQ bJ;obtain⟨k3,cL⟩:=gX (IntKind.i64.wrap (k'+1));have ab:=zcm (k'+1);rw [cL]at ab;have a3:k3 % 18446744073709551616=k' % 18446744073709551616+1:=oM
         have bA:=hd9 ab;have aX:=hd9 a3;have cq:=hd9 cj;clear ab a3 cj
         gi_wp2_with(first|(refine⟨trivial,?_⟩;gi_at_call 226;(with_reducible refine(CallsIn.inRound l (callsIn_wide.2 (zci _ _ _ _ _ i f))).mono ?_);rintro e w6 ⟨rfl,v⟩;obtain⟨aB,mB,cB,aZ,cZ,bG⟩:=(R.out.ext v).rdL;have cW:=(R.out.ext v).rdB;have bE:=f.ext v)|(refine⟨trivial,?_⟩;gi_at_call 187;(with_reducible refine(CallsIn.inRound l (callsIn_wide.2 (zcU _ _ _ L2 nb (-1) bG bE cm.out bc.out oM oM))).mono ?_);rintro e w7 ⟨r3,rfl,⟨cV,d3,rfl,aE,aC,bs⟩,aU⟩;obtain⟨az,cz,rfl⟩:=aE.form;obtain⟨_,_,_,cD,cK,_⟩:=((R.out.ext v).ext aU).rdL))
         go_roundw
         case rel =>
          have cS:=v.size;have cT:=aU.size;refine⟨k3,L2 + -1*nb,rfl,bA.out.1,bA.out.2.1,by omega,?_,((R.out.ext v).ext aU).left (aE.mono oM) aC bs,(((HP.out.ext v oM oM).ext aU oM oM)).set dO dO _⟩;rw [aX.out,Int.mul_add,←be.out];omega
         case measure =>
          have h5:=aX.out;have h6:=cq.out.1;simp only [intOf];omega
        ·have bX:=zlc aQ
         have a2:=zlL ag be.out bI aQ bJ cO cP;obtain⟨j,hj⟩:∃j:Nat,(m:Int)-pre.length-1=j∧j=m-(pre.length+1):=⟨m-(pre.length+1),by omega,rfl⟩;have dq:j<m:=oM
         have aW:=hd9 a2;have Hj:=hd9 hj;clear a2 hj
         gi_wp2_with(refine⟨trivial,?_⟩;gi_at_call 226;(with_reducible refine(CallsIn.inRound l (callsIn_wide.2 (zci _ _ _ _ _ i f))).mono ?_);rintro e w6 ⟨rfl,v⟩;have ad:=R.out.ext v;rw [Hj.out.1]at ad;have dg:=ad.rdI.1;have dh:=ad.rdO;have di:=ad.2.2.2.2.2.2.2.cell (aL.out j (by have:=Hj.out.2;omega));have dn:=ad.2.2.2.2.2.2.2.frozen j;have cn:=hd9 ad;clear ad)
         have bM:=(HP.out.ext v oM oM).set (p:=⟨w.heap.size+1+1+1+1,j,Z⟩) dO dO (J N k')
         have hI:OvI w (O a' m' c') nb m (pre++[x]) (w6.setCell ⟨w.heap.size+1+1+1+1,j,Z⟩ (J N k')):=by
          refine OvI.next (os:=os) ?_ ch bj.out ap al.out aL.out ag;rw [ba.out,←aW.out.1,←aW.out.2,Hj.out.1,←Hj.out.2];exact cn.out.out j k'
         refine⟨?_,bM.2,hI⟩;have:=bM.1
         simpa using this
 case done =>
  rintro D ys W hD rfl ⟨h1,os,ah,aF,ap,ac,aS⟩ hK;obtain⟨g1,g2,g3,g4,⟨sl,dl,g5,g6,g7,g8⟩,g9,cr,ct⟩:=ah;obtain⟨a5,c5,rfl⟩:=g6.form;have dc:=cell_of_one g4;have dj:=free_of_one g4;have bT:=cell_of_one g5;have b4:=free_of_one g5;have dd:=cell_of_one g9;have da:w.heap.size≤D:=by simp at hD;omega
  have bj:=hd9 aF;have H4:=hd9 g4;have H5:=hd9 g5;have H8:=hd9 g8;have al:=hd9 ac;have ci:0≤dv B os:=(zak zbr ap).1;have cc:os.length≤1000000000:=oM
  clear aF g3 g4 g5 g8 g9 cr ac aS ai bm h1
  gi_wp2
  gi_region_with (first|(refine⟨trivial,?_⟩;gi_at_call 235;(with_reducible refine(callsIn_wide.2 (zbY (w.heap.size+1+1+1+1) _ os _ (ownDrew ct) ?_ cc ?_ ci)).mono ?_);(simp only [World.size_drew];omega);(intro x hx;have:=ap x hx;unfold B at this;omega);rintro e w3 ⟨v',zs,rfl,aV,aj,t,aO,cG,ca,-⟩;obtain⟨cX,c0⟩:=zaE aO;obtain⟨a4,c4,rfl⟩:=t.form;have bD:=hd9 aj;clear aj;have cv:w3.heap[D]?=X (.deferred (X [])):=cG D _ hK (fun _ _ e=>by cases e)))
  all_goals gi_wp2
  all_goals
   have bH:((w3.setCell ⟨w.heap.size+1+1,0,Z⟩ (O a4 zs.length c4)).setCell ⟨w.heap.size+1+1+1,0,Z⟩ (O a5 dl.length c5)).heap[D]?=X (.deferred (X [])):=by
    rw [bS _ _ _ _ (by simp at hD;dsimp only;omega),bS _ _ _ _ (by simp at hD;dsimp only;omega)];exact cv
   refine⟨by simp,.inl ⟨_,_,rfl,run_takeDeferred bH,?_⟩⟩;have cu:w.heap.size+1+1+1+1+1+1+1+1≤D:=by simpa using hD
   have q2:w3.heap[w.heap.size+1+1]?=X (V #[O Z 0 0] 59 (0,0)):=(aO.block _ oM).trans H4.out;have q3:w3.heap[w.heap.size+1+1+1]?=X (V #[O a5 dl.length c5] 59 (0,0)):=(aO.block _ oM).trans H5.out;have o5:Own 2 w3 (w.heap.size+1+1+1+1+1+1+1+1) (O a5 dl.length c5) dl:=Own.stay (ownDrew g6) (fun g o hg hh=>ca ap g o hh (by simp [Value.ownBlock];omega));have cU:Ext w w3:=(g1.drew).thenB aO oM;refine zim ?_ ?_ q2 q3 t o5 aV g7 (zkd bD.out al.out Hv.out (by have:=Hl.out;simpa [vals] using this)) (zke H8.out Hv.out) cU bH cu<;>rfl
 case stop =>
  rintro D c pre W _ _ h _;exact h.elim
end
end Go.Proofs.YtjnjpagegkcgfaaGreatDoor.Cop
