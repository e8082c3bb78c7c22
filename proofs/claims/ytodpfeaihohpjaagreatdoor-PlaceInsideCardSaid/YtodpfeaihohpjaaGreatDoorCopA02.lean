/- Part 3: contracts of what the law calls. -/
import Derived.Test.YtodpfeaihohpjaaGreatDoorCopA01
import Derived.Sort.CutIn
set_option maxRecDepth 1000000
set_option maxHeartbeats 16000000
set_option linter.unusedSimpArgs false
set_option linter.unusedVariables false
open Go.Value renaming slice→O,int→J,pointer→M
open Go renaming World→Y,Value→I
open Option renaming none→Z,some→X
open Go.Obj renaming cells→V
open Go.IntKind renaming i64→N
namespace Go.Proofs.YtodpfeaihohpjaaGreatDoor.Cop
section
open Go.RowKit Go.Shelf
attribute [local go_sem] Oper.semAt_some
theorem Ext.keepsFrom {B:Nat} {W W':Y} (h:Ext W W'):KeepsFrom B W W':=⟨h.size,fun _ _ _ a _=>h.heapS a⟩
theorem ownDrew {T:TypeId} {w:Y} {base:Nat} {v:I} {xs:List Int} (h:Own T w base v xs):Own T w.drew base v xs:=h
theorem zai (w:Y) (o:Obj) (k:Nat):(w.alloc o).heap[k]?=if k=w.heap.size then X o else w.heap[k]?:=by
 show (w.heap.push o)[k]?=_
 rw [Array.getElem?_push]
theorem Own.stay {T:TypeId} {w w':Y} {base:Nat} {v:I} {xs:List Int} (h:Own T w base v xs) (d:∀(g:Nat) (o:Obj),base≤g→w.heap[g]?=X o→w'.heap[g]?=X o):Own T w' base v xs:=by
 obtain⟨e,a⟩:=h;refine⟨e,?_⟩
 rcases a with a|⟨g,cap,cur,hv,b,c,r⟩
 ·exact .inl a
 ·exact .inr ⟨g,cap,cur,hv,b,d _ _ b c,r⟩
theorem KeepT.putObj {T:TypeId} {w:Y} {D:Nat} {x:Option (List Deferred)} {o:Obj} (h:w.heap[D]?=X (.deferred x)):KeepT T w (w.putObj D o):=fun k b c a=>by
 rw [World.putObj_heap_other];exact a;rintro rfl;rw [h]at a;cases a
def OvW (w:Y) (a:I) (n:Nat) (L:Int) (i:Int) (os:List Int) (W:Y):Prop:=
 Ext w W∧w.heap.size+1+1+1+1+1+1+1+1≤W.heap.size∧W.heap[w.heap.size+1]?=X (V #[a] 61 (0,0))∧W.heap[w.heap.size+1+1]?=X (V #[O Z 0 0] 61 (0,0)) ∧
 (∃sl ds,W.heap[w.heap.size+1+1+1]?=X (V #[sl] 61 (0,0))∧Own 2 W (w.heap.size+1+1+1+1+1+1+1+1) sl ds∧Can B ds∧dv B ds=L) ∧
 W.heap[w.heap.size+1+1+1+1+1]?=X (V #[O (X ⟨w.heap.size+1+1+1+1,0,Z⟩) n n] 59 (0,0))∧W.heap[w.heap.size+1+1+1+1+1+1]?=X (V #[J N i] 3 (0,0)) ∧
 Own 2 W (w.heap.size+1+1+1+1) (O (X ⟨w.heap.size+1+1+1+1,0,Z⟩) n n) os
theorem OvW.keep {w:Y} {d:I} {n:Nat} {L i:Int} {os:List Int} {W W':Y} (h:OvW w d n L i os W) (o:Ext w W') (a:∀T,KeepT T W W') (r:W.heap.size≤W'.heap.size):OvW w d n L i os W':=by
 obtain⟨p,q,f,g,⟨sl,e,j,h6,k,l⟩,m,b,c⟩:=h;exact⟨o,by omega,a _ _ _ _ f,a _ _ _ _ g,⟨sl,e,a _ _ _ _ j,h6.keep (a _),k,l⟩,a _ _ _ _ m,a _ _ _ _ b,c.keep (a _)⟩
theorem OvW.ext {w:Y} {a:I} {n:Nat} {L i:Int} {os:List Int} {W W':Y} (h:OvW w a n L i os W) (k:Ext W W'):OvW w a n L i os W':=h.keep (h.1.trans k) (fun _=>k.keep) k.size
theorem OvW.left {w:Y} {e:I} {n:Nat} {L i L':Int} {os:List Int} {W:Y} (h:OvW w e n L i os W) {sl:I} {ds:List Int} (hi:Own 2 W (w.heap.size+1+1+1+1+1+1+1+1) sl ds) (p:Can B ds) (hv:dv B ds=L') :
  OvW w e n L' i os (W.setCell ⟨w.heap.size+1+1+1,0,Z⟩ sl):=by
 obtain⟨g,j,l,m,⟨q,f,d,h6,r,s⟩,o,b,c⟩:=h;have a:∀k,k≠w.heap.size+1+1+1→(W.setCell ⟨w.heap.size+1+1+1,0,Z⟩ sl).heap[k]?=W.heap[k]?:=fun k a=>bS _ _ _ _ a
 refine⟨g.set dO _,by rw [qcZ];exact j,(a _ oM).trans l,(a _ oM).trans m,⟨sl,ds,one_setCell d,hi.keep ((KeepT.refl _ W).set d dM _),p,hv⟩,(a _ oM).trans o,(a _ oM).trans b,c.setOther (by simp [Value.ownBlock]) _⟩
theorem OvW.num {w:Y} {g:I} {n:Nat} {L i:Int} {os:List Int} {W:Y} (h:OvW w g n L i os W) (e:Int):OvW w g n L e os (W.setCell ⟨w.heap.size+1+1+1+1+1+1,0,Z⟩ (J N e)):=by
 obtain⟨j,l,m,o,⟨f,c,p,h6,q,r⟩,s,b,d⟩:=h;have a:∀k,k≠w.heap.size+1+1+1+1+1+1→(W.setCell ⟨w.heap.size+1+1+1+1+1+1,0,Z⟩ (J N e)).heap[k]?=W.heap[k]?:=fun k a=>bS _ _ _ _ a
 refine⟨j.set dO _,by rw [qcZ];exact l,(a _ oM).trans m,(a _ oM).trans o,⟨f,c,(a _ oM).trans p,h6.keep ((KeepT.refl _ W).set b dM _),q,r⟩,(a _ oM).trans s,one_setCell b,d.setOther (by simp [Value.ownBlock]) _⟩
theorem OvW.out {w:Y} {g:I} {n:Nat} {L i:Int} {os:List Int} {W:Y} (h:OvW w g n L i os W) (j:Nat) (x:Int):OvW w g n L i (os.set j x) (W.setCell ⟨w.heap.size+1+1+1+1,j,Z⟩ (J N x)):=by
 obtain⟨l,m,o,p,⟨f,b,q,h6,r,s⟩,t,c,d⟩:=h;have a:∀k,k≠w.heap.size+1+1+1+1→(W.setCell ⟨w.heap.size+1+1+1+1,j,Z⟩ (J N x)).heap[k]?=W.heap[k]?:=fun k a=>bS _ _ _ _ a
 refine⟨l.set dO _,by rw [qcZ];exact m,(a _ oM).trans o,(a _ oM).trans p,⟨f,b,(a _ oM).trans q,h6.setOther ?_ _,r,s⟩,(a _ oM).trans t,(a _ oM).trans c,d.stored j x⟩;intro e;have:=(World.ownsRow.lt h6 _ e).1;dsimp only at this;omega
theorem ownOne (w:Y) (x:Int):Own 2 (w.alloc (V #[J N x] 2)) w.heap.size (O (X ⟨w.heap.size,0,Z⟩) 1 1) [x]:=
 World.ownsRow_lit w #[J N x] 1 (nE _) dM rfl
def OvP (w:Y) (a D:Nat) (W W':Y):Prop:=KeepsFrom D W W'∧KpW w a W W'
theorem OvP.refl (w:Y) (a D:Nat) (W:Y):OvP w a D W W:=⟨KeepsFrom.refl _ _,KpW.refl _ _ _⟩
theorem OvP.set {w:Y} {a D:Nat} {W A:Y} (h:OvP w a D W A) {p:Addr} (c:w.heap.size≤p.block) (b:p.block≠a) (u:I):OvP w a D W (A.setCell p u):=⟨h.1.trans ((KeepsOthers.setCell _ _ _).from _),h.2.set c b u⟩
theorem OvP.ext {w:Y} {a D:Nat} {W A C:Y} (h:OvP w a D W A) (k:Ext A C) (c:w.heap.size≤A.heap.size) (b:a<A.heap.size):OvP w a D W C:=⟨h.1.trans k.keepsFrom,h.2.ext k c b⟩
theorem OvW.rdI {w:Y} {a:I} {n:Nat} {L i:Int} {os:List Int} {W:Y} (h:OvW w a n L i os W):W.cell? ⟨w.heap.size+1+1+1+1+1+1,0,Z⟩=X (J N i)∧W.frozen? ⟨w.heap.size+1+1+1+1+1+1,0,Z⟩=false:=⟨cell_of_one h.2.2.2.2.2.2.1,free_of_one h.2.2.2.2.2.2.1⟩
theorem OvW.rdB {w:Y} {a:I} {n:Nat} {L i:Int} {os:List Int} {W:Y} (h:OvW w a n L i os W):W.cell? ⟨w.heap.size+1,0,Z⟩=X a:=cell_of_one h.2.2.1
theorem OvW.rdO {w:Y} {a:I} {n:Nat} {L i:Int} {os:List Int} {W:Y} (h:OvW w a n L i os W):W.cell? ⟨w.heap.size+1+1+1+1+1,0,Z⟩=X (O (X ⟨w.heap.size+1+1+1+1,0,Z⟩) n n):=cell_of_one h.2.2.2.2.2.1
theorem OvW.rdL {w:Y} {j:I} {n:Nat} {L i:Int} {os:List Int} {W:Y} (h:OvW w j n L i os W):∃a5 m5 c5,W.cell? ⟨w.heap.size+1+1+1,0,Z⟩=X (O a5 m5 c5)∧W.frozen? ⟨w.heap.size+1+1+1,0,Z⟩=false∧IsD W (.agg #[O a5 m5 c5]) L:=by
 obtain⟨k,l,m,o,⟨g,a,b,h6,e,f⟩,p,c,d⟩:=h;obtain⟨a5,c5,rfl⟩:=h6.form;exact⟨a5,_,c5,cell_of_one b,free_of_one b,OwnD.isD ⟨_,a,rfl,h6,e,f⟩⟩
theorem OvW.leftCell {w:Y} {d:I} {n:Nat} {L i:Int} {os:List Int} {W:Y} (h:OvW w d n L i os W) (sl:I):(W.setCell ⟨w.heap.size+1+1+1,0,Z⟩ sl).cell? ⟨w.heap.size+1+1+1,0,Z⟩=X sl:=by
 obtain⟨c,a,b,_⟩:=h.2.2.2.2.1;exact cell_of_one (one_setCell b)
theorem OvW.leftD {w:Y} {e:I} {n:Nat} {L L' i:Int} {os:List Int} {W:Y} (h:OvW w e n L i os W) {sl:I} {ds:List Int} {base:Nat} (hi:Own 2 W base sl ds) (c:Can B ds) (hv:dv B ds=L') :
  IsD (W.setCell ⟨w.heap.size+1+1+1,0,Z⟩ sl) (.agg #[sl]) L':=by
 obtain⟨d,a,b,_⟩:=h.2.2.2.2.1;exact OwnD.isD ⟨_,ds,rfl,hi.setOther (hi.ne_block b dM) _,c,hv⟩
theorem zdu {a b:Int} (h:a<b):decide (cmp3 a b<0)=true:=by simp only [cmp3];grind
theorem zcF {a b:Int} (h:¬a<b):decide (cmp3 a b<0)=false:=by simp only [cmp3];grind
theorem znQ {k:Int} (a:0≤k) (b:k<18446744073709551616):Lm lim k:=by
 refine Lm.mono (j:=3) ?_ dM;unfold Lm B
 constructor<;>omega
theorem zlR (k:Int):IntKind.u64.wrap k=k % 18446744073709551616:=by
 simp [IntKind.wrap,IntKind.signed,IntKind.bits]
theorem Lm.le {k:Nat} {a b:Int} (h:Lm k b) (c:0≤a) (d:a≤b):Lm k a:=by
 have:=zaE zbI k;unfold Lm at *;omega
theorem zlK {os:List Int} {j:Nat} (h:os[j]?=X 0):os.set j 0=os:=by
 obtain⟨a,b⟩:=lS.1 h;rw [←b];exact List.set_getElem_self a
def OvI (w:Y) (b:I) (a:Int) (n:Nat) (pre:List Dgt) (W:Y):Prop:=
 pre.length≤n∧∃os,OvW w b n (hv pre % a) ((n:Int)-pre.length) os W∧os.length=n∧Dig B os∧dv B os=B ^ (n-pre.length)*(hv pre / a)∧∀j,j<n-pre.length→os[j]?=X 0
theorem zka {os:List Int} {n p:Nat} {h x a:Int} (j:p<n) (i:os.length=n) (d:dv B os=B ^ (n-p)*(h / a)) (f:os[n-(p+1)]?=X 0) (g:0<a) :
  dv B (os.set (n-(p+1)) ((x+B*(h % a)) / a))=B ^ (n-(p+1))*((x+B*h) / a):=by
 rw [zeR _ f,d,show n-p=(n-(p+1))+1 by omega,Int.pow_succ,Int.sub_zero]
 have e:(x+B*h) / a=B*(h / a)+(x+B*(h % a)) / a:=by
  have b:h=a*(h / a)+h % a:=(Int.mul_ediv_add_emod h a).symm
  have c:x+B*h=(x+B*(h % a))+a*(B*(h / a)):=by
   generalize h / a=q at *
   generalize h % a=r at *
   subst b
   grind
  rw [c,Int.add_mul_ediv_left _ _ oM,Int.add_comm]
 rw [e]
 generalize B ^ (n-(p+1))=P
 generalize h / a=q
 generalize (x+B*(h % a)) / a=r
 grind
theorem zlC {h x a:Int} (b:0<a):(x+B*h) % a=(x+B*(h % a)) % a:=by
 rw [Int.add_emod,Int.mul_emod,←Int.emod_emod_of_dvd h (Int.dvd_refl a),←Int.mul_emod,←Int.add_emod];rw [Int.emod_emod_of_dvd h (Int.dvd_refl a)]
theorem zeZ {L x a:Int} (b:0≤L) (c:L<a) (d:0≤x∧x<16777216):0≤(x+B*L) / a∧(x+B*L) / a<16777216:=by
 unfold B;refine⟨Int.ediv_nonneg oM oM,Int.ediv_lt_of_lt_mul oM ?_⟩;omega
theorem OvI.next {w:Y} {m:I} {a:Int} {n:Nat} {pre:List Dgt} {x:Dgt} {os:List Int} {W:Y}
  (h:OvW w m n ((x.1+B*(hv pre % a)) % a) ((n:Int)-pre.length-1) (os.set (n-(pre.length+1)) ((x.1+B*(hv pre % a)) / a)) W)
  (p:pre.length<n) (f:os.length=n) (k:Dig B os) (c:dv B os=B ^ (n-pre.length)*(hv pre / a)) (g:∀j,j<n-pre.length→os[j]?=X 0) (b:0<a):OvI w m a n (pre++[x]) W:=by
 have q:=x.2;have l:=zeZ (L:=hv pre % a) (x:=x.1) (Int.emod_nonneg (hv pre) oM) (Int.emod_lt_of_pos (hv pre) b) q;refine⟨by simp;omega,os.set (n-(pre.length+1)) ((x.1+B*(hv pre % a)) / a),?_,by simpa using f,?_,?_,?_⟩
 ·rw [zgE,zlC b,lA,List.length_singleton]
  have e:((n:Int)-((pre.length+1:Nat):Int))=(n:Int)-pre.length-1:=oM
  rw [e];exact h
 ·intro d i
  rcases List.mem_or_eq_of_mem_set i with i|rfl
  ·exact k d i
  ·unfold B at l ⊢;exact l
 ·rw [zgE,lA,List.length_singleton]
  exact zka p f c (g _ oM) b
 ·intro j o
  rw [lA,List.length_singleton]at o;rw [List.getElem?_set_ne oM];exact g j oM
def OvK (w:Y) (b:I) (n:Nat) (L i:Int) (os:List Int) (a D:Nat) (W:Y) (t9:I) (wr:Y):Prop:=
 ∃k:Int,t9=J N k ∧ -9223372036854775808≤k∧k<9223372036854775808∧OvW w b n L i os wr∧OvP w a D W wr
def OvB (w:Y) (c:I) (n:Nat) (L i:Int) (os:List Int) (a D:Nat) (W:Y) (b:Bool) (t:I) (wr:Y):Prop:=
 t = .bool b∧OvW w c n L i os wr∧OvP w a D W wr
theorem zcu (x:Int) : -9223372036854775808≤IntKind.i64.wrap x∧IntKind.i64.wrap x<9223372036854775808∧IntKind.i64.wrap x % 18446744073709551616=x % 18446744073709551616:=by
 simp [IntKind.wrap,IntKind.signed,IntKind.bits];omega
theorem zj7 {k d a L e:Int} (h:d % 18446744073709551616=(k-1) % 18446744073709551616) (g:a=k % 18446744073709551616) (f:0≤L) (c:L<e*a):(d % 18446744073709551616).toNat<(k % 18446744073709551616).toNat:=by
 have b:a≠0:=by rintro b;rw [b]at c;simp at c;omega
 omega
def OvC (w:Y) (b:I) (n:Nat) (L i:Int) (os:List Int) (a D:Nat) (W:Y) (wr:Y):Prop:=
 OvW w b n L i os wr∧OvP w a D W wr
def OvM (w:Y) (c:I) (n:Nat) (L b i:Int) (os:List Int) (a D:Nat) (W:Y) (t9:I) (wr:Y):Prop:=
 ∃k L2:Int,t9=J N k ∧ -9223372036854775808≤k∧k<9223372036854775808∧0≤L2∧L2+b*(k % 18446744073709551616)=L∧OvW w c n L2 i os wr∧OvP w a D W wr
theorem Lm.dig {k:Nat} {ds:List Int} (h:Dig B ds) (a:ds.length≤k):Lm k (dv B ds):=by
 have c:=zaC zbI h;have d:=zbm (b:=B) dM a;have e:=zaE zbI k;unfold Lm;omega
theorem zmC {a b:Int} (h:b≤a):decide (0≤cmp3 a b)=true:=by simp only [cmp3];grind
theorem zk7 {a b:Int} (h:¬b≤a):decide (0≤cmp3 a b)=false:=by simp only [cmp3];grind
theorem znb {a L2 L b:Int} (c:0<a) (h:0≤b) (g:L2+a*b=L) (j:a≤L2) (f:L<B*a):b+1≤L / a∧b+1<16777217:=by
 have d:(b+1)*a≤L:=by rw [←g,Int.add_mul,Int.mul_comm b a];omega
 have i:b+1≤L / a:=(Int.le_ediv_iff_mul_le c).2 d;have e:L / a<B:=Int.ediv_lt_of_lt_mul c f;unfold B at e;omega
theorem zlB {a L2 L k:Int} (b:0<a) (d:L2+a*(k % 18446744073709551616)=L) (c:0≤L2) (l:¬a≤L2) (f:L<B*a) (g : -9223372036854775808≤k) (h:k<9223372036854775808):k=L / a∧L2=L % a:=by
 have i:L / a=k % 18446744073709551616:=by rw [←d,Int.add_mul_ediv_left _ _ oM,Int.ediv_eq_zero_of_lt c oM];omega
 have j:L % a=L2:=by rw [←d,Int.add_mul_emod_self_left,Int.emod_eq_of_lt c oM]
 have e:L / a<B:=Int.ediv_lt_of_lt_mul b f;unfold B at e;omega
theorem zlD {x r L a:Int} (h:x+B*r=L) (c:x<16777216) (b:r<a):L<B*a:=by unfold B at *;omega
def limA:Nat:=10000000
theorem zj8 {zs os:List Int} {ds:List Dgt} {m:Nat} {a b:Int} (c:dv B zs=dv B os) (d:dv B os=B ^ (m-ds.reverse.length)*(hv ds.reverse / b)) (e:dv B (vals ds)=a) (h4:ds.length=m):dv B zs=a / b:=by
 rw [c,d,zjr,e,List.length_reverse,h4,Nat.sub_self];simp
theorem zj9 {a:List Int} {ds:List Dgt} {b c:Int} (d:dv B a=hv ds.reverse % c) (e:dv B (vals ds)=b):dv B a=b % c:=by
 rw [d,zjr,e]
theorem zin {w d:Y} {D:Nat} {tmps:Array I} {f g:Int} {a4 a5:Option Addr} {b c:Nat} {zs a:List Int} {v2 v3:I} {x:Option (List Deferred)}
  (t4:tmps.getD 4 undef=M (X ⟨w.heap.size+1+1,0,Z⟩)) (t5:tmps.getD 5 undef=M (X ⟨w.heap.size+1+1+1,0,Z⟩))
  (m:d.heap[w.heap.size+1+1]?=X (V #[v2] 61 (0,0))) (q3:d.heap[w.heap.size+1+1+1]?=X (V #[v3] 61 (0,0)))
  (t:Own 2 d (w.heap.size+1+1+1+1) (O a4 zs.length b) zs) (u:Own 2 d (w.heap.size+1+1+1+1+1+1+1+1) (O a5 a.length c) a)
  (Q:Can B zs) (P:Can B a) (T:dv B zs=f / g) (W:dv B a=f % g) (l:Ext w d)
  (h:((d.setCell ⟨w.heap.size+1+1,0,Z⟩ (O a4 zs.length b)).setCell ⟨w.heap.size+1+1+1,0,Z⟩ (O a5 a.length c)).heap[D]?=X (.deferred x))
  (hD:w.heap.size+1+1+1+1+1+1+1+1≤D) :
  LeavesInM Fence.wide 6 Tryz.prog Tryz.f139 tmps (fun e s=>∃q r,e = .returned (.tuple #[q,r])∧OwnD s w.heap.size q (f / g)∧OwnD s w.heap.size r (f % g)∧Ext w s) [] FrameMode.returning
   (((d.setCell ⟨w.heap.size+1+1,0,Z⟩ (O a4 zs.length b)).setCell ⟨w.heap.size+1+1+1,0,Z⟩ (O a5 a.length c)).putObj D (.deferred Z)):=by
 have r2:(d.setCell ⟨w.heap.size+1+1,0,Z⟩ (O a4 zs.length b)).heap[w.heap.size+1+1]?=X (V #[O a4 zs.length b] 61 (0,0)):=one_setCell m;have n:(d.setCell ⟨w.heap.size+1+1,0,Z⟩ (O a4 zs.length b)).heap[w.heap.size+1+1+1]?=X (V #[v3] 61 (0,0)):=(bS _ _ _ _ dO).trans q3;have v:=t.setOther (p:=⟨w.heap.size+1+1,0,Z⟩) (t.ne_block m dM) (O a4 zs.length b);have y:=u.setOther (p:=⟨w.heap.size+1+1,0,Z⟩) (u.ne_block m dM) (O a4 zs.length b);have i:=l.set (p:=⟨w.heap.size+1+1,0,Z⟩) dO (O a4 zs.length b)
 generalize d.setCell ⟨w.heap.size+1+1,0,Z⟩ (O a4 zs.length b)=w4 at *
 have s2:(w4.setCell ⟨w.heap.size+1+1+1,0,Z⟩ (O a5 a.length c)).heap[w.heap.size+1+1]?=X (V #[O a4 zs.length b] 61 (0,0)):=(bS _ _ _ _ dO).trans r2;have s3:(w4.setCell ⟨w.heap.size+1+1+1,0,Z⟩ (O a5 a.length c)).heap[w.heap.size+1+1+1]?=X (V #[O a5 a.length c] 61 (0,0)):=one_setCell n;have k4:=v.setOther (p:=⟨w.heap.size+1+1+1,0,Z⟩) (v.ne_block n dM) (O a5 a.length c);have k5:=y.setOther (p:=⟨w.heap.size+1+1+1,0,Z⟩) (y.ne_block n dM) (O a5 a.length c);have j:=i.set (p:=⟨w.heap.size+1+1+1,0,Z⟩) dO (O a5 a.length c)
 generalize w4.setCell ⟨w.heap.size+1+1+1,0,Z⟩ (O a5 a.length c)=w5 at *
 have z:=cell_of_one ((World.putObj_heap_other (w:=w5) (r:=D) (o:=.deferred Z) oM).trans s2);have K:=cell_of_one ((World.putObj_heap_other (w:=w5) (r:=D) (o:=.deferred Z) oM).trans s3);have m4:=k4.keep (KeepT.putObj (o:=.deferred Z) h);have m5:=k5.keep (KeepT.putObj (o:=.deferred Z) h);refine⟨.tuple #[.agg #[O a4 zs.length b],.agg #[O a5 a.length c]],?_,_,_,rfl,⟨_,zs,rfl,m4.mono oM,Q,T⟩,⟨_,a,rfl,m5.mono oM,P,W⟩,?_⟩
 ·simp only [Array.getD_eq_getD_getElem?]at t4 t5
  simp [results,Tryz.results139,go_sem,t4,t5,z,K]
 ·exact j.thenB ((Below.refl D w5).grown (grownBy_putObj' w5 D _) (by have:=zaa h;omega) (fun k e=>by cases e;omega)) oM
theorem zhD (w:Y) (va vb:I) (na b:Int) (ha:IsD w va na) (hb:IsD w vb b) (br:Lm limA na) (cc:Lm limA b) (ai:0<b) :
  Calls Tryz.prog 139 #[va,vb] w fun e w'=>∃q r,e = .returned (.tuple #[q,r])∧OwnD w' w.heap.size q (na / b)∧OwnD w' w.heap.size r (na % b)∧Ext w w':=by
 obtain⟨a,m,c,rfl⟩:=ha.form;obtain⟨a',m',c',rfl⟩:=hb.form;obtain⟨xs,hl,hi,hc,hv⟩:=ha.open;have hm:=br.len hc hv;rw [hl]at hm;unfold limA at hm;obtain⟨ds,rfl⟩:=zg0 hc.1;have Hl:=hd9 hl;have Hv:=hd9 hv;clear hl hv;have dt:∀(fn:Fn) (first cap:Array I) (w:Y),(Instr.makeFunc fn first cap).run Tryz.prog w = .ok (.func fn first cap) w:=fun _ _ _ _=>rfl
 refine(callsIn_wide (n:=6)).1 ?_;refine callsIn_of_wp_marks Tryz.func139 rfl trivial ?_ rfl;simp only [Tryz.ntmps139,List.size_toArray,List.length_cons,List.length_nil,Nat.reduceAdd,Nat.reduceSub,Array.replicate_succ,Array.replicate_zero,List.push_toArray,List.append_toArray,List.nil_append,List.cons_append]
 gi_wp2_with(first|(gi_at_make;refine znS zaP Tryz.underlying59 rfl _ _ rfl _ rfl rfl rfl oM ?_;intro cs ak)|(refine⟨trivial,?_⟩;gi_at_call 141;refine(callsIn_wide.2 (zhb _ _ _ _)).mono ?_;rintro e w' ⟨rfl,rfl⟩))
 have bn:((((((((w.alloc (V #[O a m c] 61)).alloc (V #[O a' m' c'] 61)).alloc (V #[O Z 0 0] 61)).alloc (V #[O Z 0 0] 61)).alloc (V cs 2)).alloc (V #[O (X ⟨w.heap.size+1+1+1+1,0,Z⟩) m m] 59)).alloc (V #[J N m] 3)).alloc (V #[O a m c] 61)).cell? ⟨w.heap.size+1+1+1+1+1+1+1,0,Z⟩=X (O a m c):=by
  rw [World.cell?_alloc_at _ _ _ _ sM];rfl
 refine wpIn_rangeFunc_ownG rfl dM (gf:=181) (lb:=#[M (X ⟨w.heap.size+1+1+1+1+1+1+1,0,Z⟩)]) rfl trivial (enters_of Tryz.func181 kM rfl)
  (zeP _ _ trivial rfl dM (w.heap.size+1+1+1+1+1+1+1) w _ _ ds bn sM hi eA) KpW.trans (KpW.put (by simp;omega) sM) (Below.refl _ _) (fun _=>rfl)
  (OvI w (O a' m' c') b m) (fun _ _ _=>False) (zal (fun s W h=>by obtain⟨_,os,h,_⟩:=h;have:=h.2.1;simp;omega) (fun s W W' h k=>?hsim)) (fun _=>zal (fun _ _ h=>h.elim) (fun _ _ _ h _=>h)) ?h0
  (fun x=>{ tmps:=#[.agg #[O a m c],.agg #[O a' m' c'],M (X ⟨w.heap.size,0,Z⟩),M (X ⟨w.heap.size+1,0,Z⟩),M (X ⟨w.heap.size+1+1,0,Z⟩),M (X ⟨w.heap.size+1+1+1,0,Z⟩),M (X ⟨w.heap.size+1+1+1+1+1,0,Z⟩),M (X ⟨w.heap.size+1+1+1+1+1+1,0,Z⟩),J N x.1,undef,M (X ⟨w.heap.size,0,Z⟩),O a m c,J N m,O (X ⟨w.heap.size+1+1+1+1,0,Z⟩) m m,M (X ⟨w.heap.size,0,Z⟩),O a m c,J N m,.agg #[O a m c],.func (.func 181) #[] #[M (X ⟨w.heap.size+1+1+1+1+1+1+1,0,Z⟩)],J N x.1,undef,undef,undef,undef,undef,undef,undef,undef,undef,undef,undef,undef,undef,undef,undef,undef,undef,undef,undef,undef,undef,undef,undef,undef,undef,undef,undef,undef,undef,undef,undef,undef,undef,undef,undef,undef,undef,undef,undef,undef,undef,undef,undef,undef,undef,undef,undef,undef],defers:=[] }) ?assign ?body ?done ?stop
 case hsim =>
  obtain⟨h1,os,h2,h3⟩:=h;exact⟨h1,os,h2.keep (k.ext h2.1 (by simp;omega)) k.keep k.size,h3⟩
 case h0 =>
  refine⟨by simp,List.replicate m 0,⟨eA,by simp,(by simp only [zai,wZ];simp),(by simp only [zai,wZ];simp),⟨_,[],(by simp only [zai,wZ];simp),Own.nil _ _ _,Can.nil _,by simp [hv,vals]⟩,(by simp only [zai,wZ];simp),by simp only [zai,wZ];simp,?_⟩,by simp,?_,by rw [zaT];simp [hv,vals],?_⟩
  ·simpa using ((ak.alloc _).alloc _).alloc _
  ·intro d hd;have:=(List.mem_replicate.1 hd).2;unfold B;omega
  ·intro j hj;simp at hj;simp [hj]
 case assign =>
  intro l x W K hK
  gi_wp2
  exact hK
 case body =>
  rintro l pre x W ⟨h1,os,aj,aH,ar,ae,aU⟩ cf;have c9:=hd9 br;have bj:=hd9 cc;clear br cc;have cl:=x.2.1;have bu:=x.2.2;obtain⟨dg,dm⟩:=aj.rdI;obtain⟨a5,m5,c5,bU,b5,bG⟩:=aj.rdL;have dc:=aj.2.1;have da:=hd9 cf;have bk:=hd9 aH;have an:=hd9 ae;have aO:=hd9 aU;have cq:=hd9 aj;have cm:=hd9 bG;have ci:pre.length<m:=by have h5:=Hl.out;have h6:=zbU ds;omega
  have dq:IntKind.i64.wrap ((m:Int)-pre.length-1)=(m:Int)-pre.length-1:=iW _ oM;clear cf aH ae aU aj bG ak bn;have am:=cq.out.num ((m:Int)-pre.length-1);obtain⟨W1,ah⟩:=gX (W.setCell ⟨w.heap.size+1+1+1+1+1+1,0,Z⟩ (J N ((m:Int)-pre.length-1)));rw [ah]at am;have cR:W1.heap.size=W.heap.size:=by rw [←ah,qcZ]
  obtain⟨a6,m6,c6,bW,dn,bl⟩:=am.rdL
  have bX:((W.setCell ⟨w.heap.size+1+1+1+1+1+1,0,Z⟩ (J N ((m:Int)-pre.length-1))).alloc (V #[J N x.1] 2)).cell? ⟨w.heap.size+1+1+1,0,Z⟩=X (O a6 m6 c6):=by
   rw [ah,World.cell?_alloc_lt _ _ _ dO];exact bW
  have cp:=hd9 am;have c2:=hd9 bl;have bh:=hd9 ah;obtain⟨es,b1,b0,bZ,b4⟩:=bl.open;have bA:=hd9 b4;have c3:=hd9 b1
  have aI:Own 2 ((W.setCell ⟨w.heap.size+1+1+1+1+1+1,0,Z⟩ (J N ((m:Int)-pre.length-1))).alloc (V #[J N x.1] 2)) W.heap.size (O (X ⟨W.heap.size,0,Z⟩) 1 1) [x.1]:=by
   rw [ah,←cR];exact ownOne W1 x.1
  have a2:Ints 2 ((W.setCell ⟨w.heap.size+1+1+1+1+1+1,0,Z⟩ (J N ((m:Int)-pre.length-1))).alloc (V #[J N x.1] 2)) (O a6 m6 c6) es:=by
   rw [ah];exact b0.ext eA
  have cZ:es.length≤10000000:=by
   have:=Lm.len (bj.out.le (Int.emod_nonneg _ oM) (Int.le_of_lt (Int.emod_lt_of_pos (hv pre) ai))) bZ bA.out;exact this
  have b2:[x.1].length+es.length≤1000000000000:=by simp;omega
  have b3:([x.1]++es).length≤1000000000:=by simp;omega
  have bo:Dig B ([x.1]++es):=by
   intro y hy
   rcases List.mem_append.1 hy with hy|hy
   ·cases List.mem_singleton.1 hy;exact⟨cl,bu⟩
   ·exact bZ.1 y hy
  have cJ:∀y∈[x.1]++es,-4611686018427387904≤y∧y≤4611686018427387904:=by
   intro y hy;have:=bo y hy;unfold B at this;omega
  have bp:0≤dv B ([x.1]++es):=(zaC zbI bo).1;obtain⟨L',bm⟩:∃L',x.1+B*(hv pre % b)=L':=⟨_,rfl⟩;have a3:dv B ([x.1]++es)=L':=by rw [←bm,←bA.out];simp
  have bc:=hd9 bm;have aa:=hd9 a3;clear bm a3;have a0:W.heap.size≤((W.setCell ⟨w.heap.size+1+1+1+1+1+1,0,Z⟩ (J N ((m:Int)-pre.length-1))).alloc (V #[J N x.1] 2)).heap.size:=sM
  clear ah bl bW am b4 b1 bU b5 cm b0
  gi_wp2_with(gi_at_builtin;go_loud (refine zmx zaP Tryz.underlying59 rfl _ _ rfl rfl aI rfl a2 b2 a0 ?_);intro v' w1 u Q aR;have cS:=nT a0 Q.size)
  refine⟨trivial,?_⟩
  (with_reducible refine(CallsIn.inRound l (callsIn_wide.2 (zcA W.heap.size v' ([x.1]++es) w1 u cS b3 cJ bp))).mono ?_)
  rintro e w2 ⟨v2,zs,rfl,aX,al,T,bQ,cI⟩;obtain⟨a7,c7,rfl⟩:=T.form
  have bw:Ext W1 w2:=by
   rw [bh.out]at Q;exact(((eR W1).alloc _).thenB Q oM).thenB bQ oM
  have aw:=cp.out.ext bw;have aM:=aw.left (T.mono oM) aX (al.trans aa.out);obtain⟨_,_,_,cC,cK,_⟩:=aw.rdL;have cD:=aw.leftCell (O a7 zs.length c7);have bT:=aM.rdB;have bb:=aw.leftD T aX (al.trans aa.out);have aL:=hb.ext aM.1;have av:=hd9 aM;have bE:=hd9 al;have ag:=hd9 bw;clear aw aM al bw bX aI a2 Q u cI bQ T aR;have aP:0≤L':=by rw [←aa.out];exact bp
  by_cases aT:L'<b
  ·have cG:=zdu aT
   gi_wp2_with(refine⟨trivial,?_⟩;gi_at_call 125;(with_reducible refine(CallsIn.inRound l (callsIn_wide.2 (zcm _ _ _ _ _ bb aL))).mono ?_);rintro e w4 ⟨rfl,v⟩)
   have hP:OvP w (w.heap.size+1+1+1+1+1+1+1) (w.heap.size+1+1+1+1+1+1+1+1) W w4:=by
    have h5:=(OvP.refl w (w.heap.size+1+1+1+1+1+1+1) (w.heap.size+1+1+1+1+1+1+1+1) W).set (p:=⟨w.heap.size+1+1+1+1+1+1,0,Z⟩) dO dO (J N ((m:Int)-pre.length-1));rw [bh.out]at h5;have h6:=ag.out.size;exact((h5.ext ag.out oM oM).set (p:=⟨w.heap.size+1+1+1,0,Z⟩) dO dO _).ext v (by rw [qcZ];omega) (by rw [qcZ];omega)
   have hI:OvI w (O a' m' c') b m (pre++[x]) w4:=by
    refine OvI.next (os:=os) ?_ ci bk.out ar an.out aO.out ai;have h0:=bc.out;have h1:=(zeZ (L:=hv pre % b) (x:=x.1) (Int.emod_nonneg (hv pre) oM) (Int.emod_lt_of_pos (hv pre) ai) ⟨cl,bu⟩);rw [h0];have aP:0≤L':=by rw [←aa.out];exact bp
    rw [Int.emod_eq_of_lt aP aT,Int.ediv_eq_zero_of_lt aP aT,zlK (aO.out _ oM)];exact av.out.ext v
   refine⟨?_,hP.2,hI⟩;have:=hP.1
   simpa using this
  ·have cG:=zcF aT
   have bM:OvP w (w.heap.size+1+1+1+1+1+1+1) (w.heap.size+1+1+1+1+1+1+1+1) W (w2.setCell ⟨w.heap.size+1+1+1,0,Z⟩ (O a7 zs.length c7)):=by
    have h5:=(OvP.refl w (w.heap.size+1+1+1+1+1+1+1) (w.heap.size+1+1+1+1+1+1+1+1) W).set (p:=⟨w.heap.size+1+1+1+1+1+1,0,Z⟩) dO dO (J N ((m:Int)-pre.length-1));rw [bh.out]at h5;exact(h5.ext ag.out oM oM).set (p:=⟨w.heap.size+1+1+1,0,Z⟩) dO dO _
   have bz:=hd9 bM;clear bM
   gi_wp2_with(first|(refine⟨trivial,?_⟩;gi_at_call 125;(with_reducible refine(CallsIn.inRound l (callsIn_wide.2 (zcm _ _ _ _ _ bb aL))).mono ?_);rintro e w4 ⟨rfl,v⟩;obtain⟨a8,m8,c8,ab,aq,t⟩:=(av.out.ext v).rdL;have ac:=(av.out.ext v).rdB;have i:=aL.ext v)|(refine⟨trivial,?_⟩;gi_at_call 180;(with_reducible refine(CallsIn.inRound l (callsIn_wide.2 (zky _ _ _ _ _ t i (bj.out.mono dM)))).mono ?_);rintro e w5 ⟨⟨k0,rfl,bq⟩,bv⟩))
   have bC:=(av.out.ext v).ext bv;have bO:=(bz.out.ext v (by rw [qcZ];have h6:=ag.out.size;omega) (by rw [qcZ];have h6:=ag.out.size;omega)).ext bv (by have h7:=v.size;rw [qcZ]at h7;have h6:=ag.out.size;omega) (by have h7:=v.size;rw [qcZ]at h7;have h6:=ag.out.size;omega);clear ab aq t ac i bb aL cC cK cD bT bz
   gi_loopw [9] (OvK w (O a' m' c') m L' ((m:Int)-pre.length-1) os (w.heap.size+1+1+1+1+1+1+1) (w.heap.size+1+1+1+1+1+1+1+1) W) (fun t9 _=>(intOf t9 % 18446744073709551616).toNat)
   case atStart=>exact⟨k0,rfl,bq.1,by have:=bq.2;omega,bC,bO⟩
   case round =>
    clear bC bO v bv bq;obtain⟨k,rfl,b6,b8,Ho,hP⟩:=hrel;obtain⟨a8,m8,c8,ab,aq,t⟩:=Ho.rdL;have ac:=Ho.rdB;have i:=hb.ext Ho.1;have HO:=hd9 Ho;have HP:=hd9 hP;have aV:=Ho.2.1;obtain⟨kk,b9⟩:=gX (IntKind.u64.wrap k);have ca:kk=k % 18446744073709551616:=by rw [←b9,zlR]
    have ao:0≤kk:=oM
    have aF:kk<18446744073709551616:=oM
    have bg:=hd9 (znQ ao aF);have be:Hid (Lm lim b):=hd9 (bj.out.mono dM);have bi:=hd9 ca;clear Ho hP av ca
    gi_wp2
    gi_cut [42]from 1000 (OvB w (O a' m' c') m L' ((m:Int)-pre.length-1) os (w.heap.size+1+1+1+1+1+1+1) (w.heap.size+1+1+1+1+1+1+1+1) W (decide (cmp3 L' (b*kk)<0)))
    case first =>
     gi_region_with (first|(refine⟨trivial,?_⟩;gi_at_call 115;(with_reducible refine(CallsIn.inRound l (callsIn_wide.2 (zcr _ kk ao aF))).mono ?_);rintro e wa ⟨r1,rfl,aJ,f⟩;obtain⟨ax,mx,cx,rfl⟩:=aJ.isD.form;have aC:=f.cellS ab;have bV:=f.cellS ac)|(refine⟨trivial,?_⟩;gi_at_call 113;(with_reducible refine(CallsIn.inRound l (callsIn_wide.2 (zgm _ _ _ b kk ?_ ?_ be.out bg.out))).mono ?_);(refine i.ext ?_;exact eA);(refine aJ.isD.ext ?_;exact eA);rintro e wb ⟨r2,rfl,aK,P⟩;obtain⟨ay,my,cy,rfl⟩:=aK.isD.form;have a1:=P.cellS aC)|(refine⟨trivial,?_⟩;gi_at_call 125;(with_reducible refine(CallsIn.inRound l (callsIn_wide.2 (zcm _ _ _ L' (b*kk) ?_ ?_))).mono ?_);(refine t.ext ?_;exact eA);(refine aK.isD.ext ?_;exact eA);rintro e wz ⟨rfl,ap⟩))
     all_goals gi_wp2
     all_goals gi_meet
     all_goals
      have au:Ext wr wz:=by
       have h1:Ext wr wa:=(eR wr).drew.trans f;exact(h1.trans P).trans ap
      exact⟨rfl,HO.out.ext au,HP.out.ext au oM oM⟩
    case rest =>
     clear HO HP ab aq t ac i aV;obtain⟨rfl,Ho,hP⟩:=hcut;have HO:=hd9 Ho;have HP:=hd9 hP;clear Ho hP
     by_cases bs:L'<b*kk
     ·have aD:=zdu bs
      obtain⟨k1,b7⟩:=gX (IntKind.i64.wrap (k-1));have ad:=zcu (k-1);rw [b7]at ad;rw [aD]
      gi_wp2
      go_roundw
      case rel=>exact⟨k1,rfl,ad.1,ad.2.1,HO.out,HP.out⟩
      case measure =>
       have:=zj7 ad.2.2 bi.out aP bs
       simpa [intOf] using this
     ·have aD:=zcF bs
      rw [aD];have ce:b*kk≤L':=oM
      have ch:0≤b*kk:=Int.mul_nonneg oM ao;have bd:Hid (Lm lim L'):=hd9 (by rw [←aa.out];exact Lm.dig bo (by unfold lim;simp;omega));have bx:Hid (Lm lim (b*kk)):=hd9 (bd.out.le ch ce);obtain⟨a8,m8,c8,ab,aq,t⟩:=HO.out.rdL;have ac:=HO.out.rdB;have i:=hb.ext HO.out.1;have aV:=HO.out.2.1
      gi_wp2
      gi_cut []from 1000 (OvC w (O a' m' c') m (L' + -1*(b*kk)) ((m:Int)-pre.length-1) os (w.heap.size+1+1+1+1+1+1+1) (w.heap.size+1+1+1+1+1+1+1+1) W)
      case first =>
       gi_region_with (first|(refine⟨trivial,?_⟩;gi_at_call 115;(with_reducible refine(CallsIn.inRound l (callsIn_wide.2 (zcr _ kk ao aF))).mono ?_);rintro e wa ⟨r1,rfl,aJ,f⟩;obtain⟨ax,mx,cx,rfl⟩:=aJ.isD.form;have aC:=f.cellS ab;have bV:=f.cellS ac)|(refine⟨trivial,?_⟩;gi_at_call 113;(with_reducible refine(CallsIn.inRound l (callsIn_wide.2 (zgm _ _ _ b kk ?_ ?_ be.out bg.out))).mono ?_);(refine i.ext ?_;exact eA);(refine aJ.isD.ext ?_;exact eA);rintro e wb ⟨r2,rfl,aK,P⟩;obtain⟨ay,my,cy,rfl⟩:=aK.isD.form;have a1:=P.cellS aC)|(refine⟨trivial,?_⟩;gi_at_call 114;(with_reducible refine(CallsIn.inRound l (callsIn_wide.2 (zcR _ _ _ L' (b*kk) (-1) ?_ ?_ bd.out bx.out oM oM))).mono ?_);(refine t.ext ?_;exact eA);(refine aK.isD.ext ?_;exact eA);rintro e wz ⟨r3,rfl,⟨cW,d3,rfl,aG,aE,bt⟩,ap⟩;obtain⟨az,cz,rfl⟩:=aG.form;have au:Ext wc wz:=(((eR wc).drew.trans f).trans P).trans ap;obtain⟨_,_,_,cF,cL,_⟩:=(HO.out.ext au).rdL))
       all_goals gi_wp2
       all_goals gi_meet
       all_goals
        have cT:=f.size;have cU:=P.size;have du:=ap.size;exact⟨(HO.out.ext au).left (aG.mono (by simp only [World.size_drew]at *;omega)) aE bt,(HP.out.ext au oM oM).set dO dO _⟩
      case rest =>
       clear HO HP ab aq t ac i aV bg bx;obtain⟨bD,bP⟩:=hcut;have bK:=zlD bc.out bu (Int.emod_lt_of_pos (hv pre) ai)
       gi_wp2
       gi_loopw [9] (OvM w (O a' m' c') m L' b ((m:Int)-pre.length-1) os (w.heap.size+1+1+1+1+1+1+1) (w.heap.size+1+1+1+1+1+1+1+1) W) (fun t9 _=>(L' / b-intOf t9 % 18446744073709551616).toNat)
       case atStart=>exact⟨k,L' + -1*(b*kk),rfl,b6,b8,by omega,by rw [←bi.out];omega,bD,bP⟩
       case round =>
        clear bD bP b6 b8 b9 bi;obtain⟨k',L2,rfl,cP,cQ,bJ,bL,Ho,hP⟩:=hrel;obtain⟨aA,mA,cA,ab,aq,t⟩:=Ho.rdL;have ac:=Ho.rdB;have i:=hb.ext Ho.1;have aV:=Ho.2.1;have cg:0≤k' % 18446744073709551616:=oM
        have cO:0≤b*(k' % 18446744073709551616):=Int.mul_nonneg oM cg;have bf:=hd9 bL;have cn:Hid (Lm lim L2):=hd9 (bd.out.le bJ oM);have HO:=hd9 Ho;have HP:=hd9 hP;clear Ho hP bL cO
        by_cases aS:b≤L2
        ·have bY:=zmC aS
         have ck:=znb ai cg bf.out aS bK;obtain⟨k3,cN⟩:=gX (IntKind.i64.wrap (k'+1));have ad:=zcu (k'+1);rw [cN]at ad;have ba:k3 % 18446744073709551616=k' % 18446744073709551616+1:=oM
         have bB:=hd9 ad;have aZ:=hd9 ba;have cr:=hd9 ck;clear ad ba ck
         gi_wp2_with(first|(refine⟨trivial,?_⟩;gi_at_call 125;(with_reducible refine(CallsIn.inRound l (callsIn_wide.2 (zcm _ _ _ _ _ t i))).mono ?_);rintro e w6 ⟨rfl,z⟩;obtain⟨aB,mB,cB,a1,c0,bH⟩:=(HO.out.ext z).rdL;have cX:=(HO.out.ext z).rdB;have bF:=i.ext z)|(refine⟨trivial,?_⟩;gi_at_call 114;(with_reducible refine(CallsIn.inRound l (callsIn_wide.2 (zcR _ _ _ L2 b (-1) bH bF cn.out be.out oM oM))).mono ?_);rintro e w7 ⟨r3,rfl,⟨cW,d3,rfl,aG,aE,bt⟩,aW⟩;obtain⟨az,cz,rfl⟩:=aG.form;obtain⟨_,_,_,cF,cL,_⟩:=((HO.out.ext z).ext aW).rdL))
         go_roundw
         case rel =>
          have cT:=z.size;have cU:=aW.size;refine⟨k3,L2 + -1*b,rfl,bB.out.1,bB.out.2.1,by omega,?_,((HO.out.ext z).ext aW).left (aG.mono oM) aE bt,(((HP.out.ext z oM oM).ext aW oM oM)).set dO dO _⟩;rw [aZ.out,Int.mul_add,←bf.out];omega
         case measure =>
          have h5:=aZ.out;have h6:=cr.out.1;simp only [intOf];omega
        ·have bY:=zk7 aS
         have a9:=zlB ai bf.out bJ aS bK cP cQ;obtain⟨j,hj⟩:∃j:Nat,(m:Int)-pre.length-1=j∧j=m-(pre.length+1):=⟨m-(pre.length+1),by omega,rfl⟩;have dr:j<m:=oM
         have aY:=hd9 a9;have Hj:=hd9 hj;clear a9 hj
         gi_wp2_with(refine⟨trivial,?_⟩;gi_at_call 125;(with_reducible refine(CallsIn.inRound l (callsIn_wide.2 (zcm _ _ _ _ _ t i))).mono ?_);rintro e w6 ⟨rfl,z⟩;have af:=HO.out.ext z;rw [Hj.out.1]at af;have dh:=af.rdI.1;have di:=af.rdO;have dj:=af.2.2.2.2.2.2.2.cell (aO.out j (by have:=Hj.out.2;omega));have dp:=af.2.2.2.2.2.2.2.frozen j;have co:=hd9 af;clear af)
         have bN:=(HP.out.ext z oM oM).set (p:=⟨w.heap.size+1+1+1+1,j,Z⟩) dO dO (J N k')
         have hI:OvI w (O a' m' c') b m (pre++[x]) (w6.setCell ⟨w.heap.size+1+1+1+1,j,Z⟩ (J N k')):=by
          refine OvI.next (os:=os) ?_ ci bk.out ar an.out aO.out ai;rw [bc.out,←aY.out.1,←aY.out.2,Hj.out.1,←Hj.out.2];exact co.out.out j k'
         refine⟨?_,bN.2,hI⟩;have:=bN.1
         simpa using this
 case done =>
  rintro D ys W hD rfl ⟨h1,os,aj,aH,ar,ae,aU⟩ hK;obtain⟨g1,g2,g3,g4,⟨sl,dl,g5,g6,g7,g8⟩,g9,ct,cu⟩:=aj;obtain⟨a5,c5,rfl⟩:=g6.form;have dd:=cell_of_one g4;have dk:=free_of_one g4;have bU:=cell_of_one g5;have b5:=free_of_one g5;have de:=cell_of_one g9;have db:w.heap.size≤D:=by simp at hD;omega
  have bk:=hd9 aH;have H4:=hd9 g4;have H5:=hd9 g5;have H8:=hd9 g8;have an:=hd9 ae;have cj:0≤dv B os:=(zaC zbI ar).1;have cd:os.length≤1000000000:=oM
  clear aH g3 g4 g5 g8 g9 ct ae aU ak bn h1
  gi_wp2
  gi_region_with (first|(refine⟨trivial,?_⟩;gi_at_call 144;(with_reducible refine(callsIn_wide.2 (zce (w.heap.size+1+1+1+1) _ os _ (ownDrew cu) ?_ cd ?_ cj)).mono ?_);(simp only [World.size_drew];omega);(intro x hx;have:=ar x hx;unfold B at this;omega);rintro e w3 ⟨v',zs,rfl,aX,al,u,aQ,cH,cb,-⟩;obtain⟨cY,c1⟩:=zaG aQ;obtain⟨a4,c4,rfl⟩:=u.form;have bE:=hd9 al;clear al;have cw:w3.heap[D]?=X (.deferred (X [])):=cH D _ hK (fun _ _ e=>by cases e)))
  all_goals gi_wp2
  all_goals
   have bI:((w3.setCell ⟨w.heap.size+1+1,0,Z⟩ (O a4 zs.length c4)).setCell ⟨w.heap.size+1+1+1,0,Z⟩ (O a5 dl.length c5)).heap[D]?=X (.deferred (X [])):=by
    rw [bS _ _ _ _ (by simp at hD;dsimp only;omega),bS _ _ _ _ (by simp at hD;dsimp only;omega)];exact cw
   refine⟨by simp,.inl ⟨_,_,rfl,run_takeDeferred bI,?_⟩⟩;have cv:w.heap.size+1+1+1+1+1+1+1+1≤D:=by simpa using hD
   have q2:w3.heap[w.heap.size+1+1]?=X (V #[O Z 0 0] 61 (0,0)):=(aQ.block _ oM).trans H4.out;have q3:w3.heap[w.heap.size+1+1+1]?=X (V #[O a5 dl.length c5] 61 (0,0)):=(aQ.block _ oM).trans H5.out;have o5:Own 2 w3 (w.heap.size+1+1+1+1+1+1+1+1) (O a5 dl.length c5) dl:=Own.stay (ownDrew g6) (fun g o hg hh=>cb ar g o hh (by simp [Value.ownBlock];omega));have cV:Ext w w3:=(g1.drew).thenB aQ oM;refine zin ?_ ?_ q2 q3 u o5 aX g7 (zj8 bE.out an.out Hv.out (by have:=Hl.out;simpa [vals] using this)) (zj9 H8.out Hv.out) cV bI cv<;>rfl
 case stop =>
  rintro D c pre W _ _ h _;exact h.elim
end
end Go.Proofs.YtodpfeaihohpjaaGreatDoor.Cop
