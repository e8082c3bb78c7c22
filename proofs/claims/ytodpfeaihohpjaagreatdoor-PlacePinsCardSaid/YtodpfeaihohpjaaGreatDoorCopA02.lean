/- Part 3: contracts of what the law calls. -/
import Derived.Test.YtodpfeaihohpjaaGreatDoorCopA01
import Derived.Sort.CutIn
set_option maxRecDepth 1000000
set_option maxHeartbeats 16000000
set_option linter.unusedSimpArgs false
set_option linter.unusedVariables false
open Go.Value renaming slice→O,int→J,pointer→M
open Go renaming World→Y,Value→I
open Option renaming none→Z,some→X
open Go.Obj renaming cells→V
open Go.IntKind renaming i64→N
namespace Go.Proofs.YtodpfeaihohpjaaGreatDoor.Cop
section
open Go.RowKit Go.Shelf
attribute [local go_sem] Oper.semAt_some
theorem Ext.keepsFrom {B:Nat} {W W':Y} (h:Ext W W'):KeepsFrom B W W':=⟨h.size,fun _ _ _ hk _=>h.heapS hk⟩
theorem ownDrew {T:TypeId} {w:Y} {base:Nat} {v:I} {xs:List Int} (h:Own T w base v xs):Own T w.drew base v xs:=h
theorem zae (w:Y) (o:Obj) (k:Nat):(w.alloc o).heap[k]?=if k=w.heap.size then X o else w.heap[k]?:=by
 show (w.heap.push o)[k]?=_
 rw [Array.getElem?_push]
theorem Own.stay {T:TypeId} {w w':Y} {base:Nat} {v:I} {xs:List Int} (h:Own T w base v xs) (hk:∀(g:Nat) (o:Obj),base≤g→w.heap[g]?=X o→w'.heap[g]?=X o):Own T w' base v xs:=by
 obtain⟨hl,h2⟩:=h;refine⟨hl,?_⟩
 rcases h2 with h2|⟨g,cap,cur,hv,hg,hh,r⟩
 ·exact .inl h2
 ·exact .inr ⟨g,cap,cur,hv,hg,hk _ _ hg hh,r⟩
theorem KeepT.putObj {T:TypeId} {w:Y} {D:Nat} {x:Option (List Deferred)} {o:Obj} (h:w.heap[D]?=X (.deferred x)):KeepT T w (w.putObj D o):=fun k cs fr hk=>by
 rw [World.putObj_heap_other];exact hk;rintro rfl;rw [h]at hk;cases hk
def OvW (w:Y) (vb:I) (n:Nat) (L:Int) (i:Int) (os:List Int) (W:Y):Prop:=
 Ext w W∧w.heap.size+1+1+1+1+1+1+1+1≤W.heap.size∧W.heap[w.heap.size+1]?=X (V #[vb] 61 (0,0))∧W.heap[w.heap.size+1+1]?=X (V #[O Z 0 0] 61 (0,0)) ∧
 (∃sl ds,W.heap[w.heap.size+1+1+1]?=X (V #[sl] 61 (0,0))∧Own 2 W (w.heap.size+1+1+1+1+1+1+1+1) sl ds∧Can B ds∧dv B ds=L) ∧
 W.heap[w.heap.size+1+1+1+1+1]?=X (V #[O (X ⟨w.heap.size+1+1+1+1,0,Z⟩) n n] 59 (0,0))∧W.heap[w.heap.size+1+1+1+1+1+1]?=X (V #[J N i] 3 (0,0)) ∧
 Own 2 W (w.heap.size+1+1+1+1) (O (X ⟨w.heap.size+1+1+1+1,0,Z⟩) n n) os
theorem OvW.keep {w:Y} {vb:I} {n:Nat} {L i:Int} {os:List Int} {W W':Y} (h:OvW w vb n L i os W) (hx:Ext w W') (hk:∀T,KeepT T W W') (hs:W.heap.size≤W'.heap.size):OvW w vb n L i os W':=by
 obtain⟨h1,h2,h3,h4,⟨sl,ds,h5,h6,h7,h8⟩,h9,h10,h11⟩:=h;exact⟨hx,by omega,hk _ _ _ _ h3,hk _ _ _ _ h4,⟨sl,ds,hk _ _ _ _ h5,h6.keep (hk _),h7,h8⟩,hk _ _ _ _ h9,hk _ _ _ _ h10,h11.keep (hk _)⟩
theorem OvW.ext {w:Y} {vb:I} {n:Nat} {L i:Int} {os:List Int} {W W':Y} (h:OvW w vb n L i os W) (k:Ext W W'):OvW w vb n L i os W':=h.keep (h.1.trans k) (fun _=>k.keep) k.size
theorem OvW.left {w:Y} {vb:I} {n:Nat} {L i L':Int} {os:List Int} {W:Y} (h:OvW w vb n L i os W) {sl:I} {ds:List Int} (hi:Own 2 W (w.heap.size+1+1+1+1+1+1+1+1) sl ds) (hc:Can B ds) (hv:dv B ds=L') :
  OvW w vb n L' i os (W.setCell ⟨w.heap.size+1+1+1,0,Z⟩ sl):=by
 obtain⟨h1,h2,h3,h4,⟨sl0,ds0,h5,h6,h7,h8⟩,h9,h10,h11⟩:=h;have hk:∀k,k≠w.heap.size+1+1+1→(W.setCell ⟨w.heap.size+1+1+1,0,Z⟩ sl).heap[k]?=W.heap[k]?:=fun k hk=>bS _ _ _ _ hk
 refine⟨h1.set (by dsimp only;omega) _,by rw [qcZ];exact h2,(hk _ (by omega)).trans h3,(hk _ (by omega)).trans h4,⟨sl,ds,one_setCell h5,hi.keep ((KeepT.refl _ W).set h5 (by decide) _),hc,hv⟩,(hk _ (by omega)).trans h9,(hk _ (by omega)).trans h10,h11.setOther (by simp [Value.ownBlock]) _⟩
theorem OvW.num {w:Y} {vb:I} {n:Nat} {L i:Int} {os:List Int} {W:Y} (h:OvW w vb n L i os W) (i':Int):OvW w vb n L i' os (W.setCell ⟨w.heap.size+1+1+1+1+1+1,0,Z⟩ (J N i')):=by
 obtain⟨h1,h2,h3,h4,⟨sl0,ds0,h5,h6,h7,h8⟩,h9,h10,h11⟩:=h;have hk:∀k,k≠w.heap.size+1+1+1+1+1+1→(W.setCell ⟨w.heap.size+1+1+1+1+1+1,0,Z⟩ (J N i')).heap[k]?=W.heap[k]?:=fun k hk=>bS _ _ _ _ hk
 refine⟨h1.set (by dsimp only;omega) _,by rw [qcZ];exact h2,(hk _ (by omega)).trans h3,(hk _ (by omega)).trans h4,⟨sl0,ds0,(hk _ (by omega)).trans h5,h6.keep ((KeepT.refl _ W).set h10 (by decide) _),h7,h8⟩,(hk _ (by omega)).trans h9,one_setCell h10,h11.setOther (by simp [Value.ownBlock]) _⟩
theorem OvW.out {w:Y} {vb:I} {n:Nat} {L i:Int} {os:List Int} {W:Y} (h:OvW w vb n L i os W) (j:Nat) (x:Int):OvW w vb n L i (os.set j x) (W.setCell ⟨w.heap.size+1+1+1+1,j,Z⟩ (J N x)):=by
 obtain⟨h1,h2,h3,h4,⟨sl0,ds0,h5,h6,h7,h8⟩,h9,h10,h11⟩:=h;have hk:∀k,k≠w.heap.size+1+1+1+1→(W.setCell ⟨w.heap.size+1+1+1+1,j,Z⟩ (J N x)).heap[k]?=W.heap[k]?:=fun k hk=>bS _ _ _ _ hk
 refine⟨h1.set (by dsimp only;omega) _,by rw [qcZ];exact h2,(hk _ (by omega)).trans h3,(hk _ (by omega)).trans h4,⟨sl0,ds0,(hk _ (by omega)).trans h5,h6.setOther ?_ _,h7,h8⟩,(hk _ (by omega)).trans h9,(hk _ (by omega)).trans h10,h11.stored j x⟩;intro e;have:=(World.ownsRow.lt h6 _ e).1;dsimp only at this;omega
theorem ownOne (w:Y) (x:Int):Own 2 (w.alloc (V #[J N x] 2)) w.heap.size (O (X ⟨w.heap.size,0,Z⟩) 1 1) [x]:=
 World.ownsRow_lit w #[J N x] 1 (nE _) (by decide) rfl
def OvP (w:Y) (bx D:Nat) (W W':Y):Prop:=KeepsFrom D W W'∧KpW w bx W W'
theorem OvP.refl (w:Y) (bx D:Nat) (W:Y):OvP w bx D W W:=⟨KeepsFrom.refl _ _,KpW.refl _ _ _⟩
theorem OvP.set {w:Y} {bx D:Nat} {W A:Y} (h:OvP w bx D W A) {p:Addr} (hp:w.heap.size≤p.block) (hb:p.block≠bx) (u:I):OvP w bx D W (A.setCell p u):=⟨h.1.trans ((KeepsOthers.setCell _ _ _).from _),h.2.set hp hb u⟩
theorem OvP.ext {w:Y} {bx D:Nat} {W A C:Y} (h:OvP w bx D W A) (k:Ext A C) (hw:w.heap.size≤A.heap.size) (hb:bx<A.heap.size):OvP w bx D W C:=⟨h.1.trans k.keepsFrom,h.2.ext k hw hb⟩
theorem OvW.rdI {w:Y} {vb:I} {n:Nat} {L i:Int} {os:List Int} {W:Y} (h:OvW w vb n L i os W):W.cell? ⟨w.heap.size+1+1+1+1+1+1,0,Z⟩=X (J N i)∧W.frozen? ⟨w.heap.size+1+1+1+1+1+1,0,Z⟩=false:=⟨cell_of_one h.2.2.2.2.2.2.1,free_of_one h.2.2.2.2.2.2.1⟩
theorem OvW.rdB {w:Y} {vb:I} {n:Nat} {L i:Int} {os:List Int} {W:Y} (h:OvW w vb n L i os W):W.cell? ⟨w.heap.size+1,0,Z⟩=X vb:=cell_of_one h.2.2.1
theorem OvW.rdO {w:Y} {vb:I} {n:Nat} {L i:Int} {os:List Int} {W:Y} (h:OvW w vb n L i os W):W.cell? ⟨w.heap.size+1+1+1+1+1,0,Z⟩=X (O (X ⟨w.heap.size+1+1+1+1,0,Z⟩) n n):=cell_of_one h.2.2.2.2.2.1
theorem OvW.rdL {w:Y} {vb:I} {n:Nat} {L i:Int} {os:List Int} {W:Y} (h:OvW w vb n L i os W):∃a5 m5 c5,W.cell? ⟨w.heap.size+1+1+1,0,Z⟩=X (O a5 m5 c5)∧W.frozen? ⟨w.heap.size+1+1+1,0,Z⟩=false∧IsD W (.agg #[O a5 m5 c5]) L:=by
 obtain⟨h1,h2,h3,h4,⟨sl0,ds0,h5,h6,h7,h8⟩,h9,h10,h11⟩:=h;obtain⟨a5,c5,rfl⟩:=h6.form;exact⟨a5,_,c5,cell_of_one h5,free_of_one h5,OwnD.isD ⟨_,ds0,rfl,h6,h7,h8⟩⟩
theorem OvW.leftCell {w:Y} {vb:I} {n:Nat} {L i:Int} {os:List Int} {W:Y} (h:OvW w vb n L i os W) (sl:I):(W.setCell ⟨w.heap.size+1+1+1,0,Z⟩ sl).cell? ⟨w.heap.size+1+1+1,0,Z⟩=X sl:=by
 obtain⟨sl0,ds0,h5,_⟩:=h.2.2.2.2.1;exact cell_of_one (one_setCell h5)
theorem OvW.leftD {w:Y} {vb:I} {n:Nat} {L L' i:Int} {os:List Int} {W:Y} (h:OvW w vb n L i os W) {sl:I} {ds:List Int} {base:Nat} (hi:Own 2 W base sl ds) (hc:Can B ds) (hv:dv B ds=L') :
  IsD (W.setCell ⟨w.heap.size+1+1+1,0,Z⟩ sl) (.agg #[sl]) L':=by
 obtain⟨sl0,ds0,h5,_⟩:=h.2.2.2.2.1;exact OwnD.isD ⟨_,ds,rfl,hi.setOther (hi.ne_block h5 (by decide)) _,hc,hv⟩
theorem zdk {a b:Int} (h:a<b):decide (cmp3 a b<0)=true:=by simp only [cmp3];grind
theorem zcr {a b:Int} (h:¬a<b):decide (cmp3 a b<0)=false:=by simp only [cmp3];grind
theorem zmY {k:Int} (h0:0≤k) (h1:k<18446744073709551616):Lm lim k:=by
 refine Lm.mono (j:=3) ?_ (by decide);unfold Lm B
 constructor<;>omega
theorem zlm (k:Int):IntKind.u64.wrap k=k % 18446744073709551616:=by
 simp [IntKind.wrap,IntKind.signed,IntKind.bits]
theorem Lm.le {k:Nat} {a b:Int} (h:Lm k b) (h0:0≤a) (h1:a≤b):Lm k a:=by
 have:=zaB zbA k;unfold Lm at *;omega
theorem zlf {os:List Int} {j:Nat} (h:os[j]?=X 0):os.set j 0=os:=by
 obtain⟨h1,h2⟩:=lS.1 h;rw [←h2];exact List.set_getElem_self h1
def OvI (w:Y) (vb:I) (nb:Int) (n:Nat) (pre:List Dgt) (W:Y):Prop:=
 pre.length≤n∧∃os,OvW w vb n (hv pre % nb) ((n:Int)-pre.length) os W∧os.length=n∧Dig B os∧dv B os=B ^ (n-pre.length)*(hv pre / nb)∧∀j,j<n-pre.length→os[j]?=X 0
theorem zjF {os:List Int} {n p:Nat} {h x nb:Int} (hp:p<n) (hl:os.length=n) (hd:dv B os=B ^ (n-p)*(h / nb)) (hz:os[n-(p+1)]?=X 0) (hb:0<nb) :
  dv B (os.set (n-(p+1)) ((x+B*(h % nb)) / nb))=B ^ (n-(p+1))*((x+B*h) / nb):=by
 rw [zey _ hz,hd,show n-p=(n-(p+1))+1 by omega,Int.pow_succ,Int.sub_zero]
 have e:(x+B*h) / nb=B*(h / nb)+(x+B*(h % nb)) / nb:=by
  have h1:h=nb*(h / nb)+h % nb:=(Int.mul_ediv_add_emod h nb).symm
  have h2:x+B*h=(x+B*(h % nb))+nb*(B*(h / nb)):=by
   generalize h / nb=q at *
   generalize h % nb=r at *
   subst h1
   grind
  rw [h2,Int.add_mul_ediv_left _ _ (by omega),Int.add_comm]
 rw [e]
 generalize B ^ (n-(p+1))=P
 generalize h / nb=q
 generalize (x+B*(h % nb)) / nb=r
 grind
theorem zk3 {h x nb:Int} (hb:0<nb):(x+B*h) % nb=(x+B*(h % nb)) % nb:=by
 rw [Int.add_emod,Int.mul_emod,←Int.emod_emod_of_dvd h (Int.dvd_refl nb),←Int.mul_emod,←Int.add_emod];rw [Int.emod_emod_of_dvd h (Int.dvd_refl nb)]
theorem zeF {L x nb:Int} (h0:0≤L) (h1:L<nb) (hx:0≤x∧x<16777216):0≤(x+B*L) / nb∧(x+B*L) / nb<16777216:=by
 unfold B;refine⟨Int.ediv_nonneg (by omega) (by omega),Int.ediv_lt_of_lt_mul (by omega) ?_⟩;omega
theorem OvI.next {w:Y} {vb:I} {nb:Int} {n:Nat} {pre:List Dgt} {x:Dgt} {os:List Int} {W:Y}
  (h:OvW w vb n ((x.1+B*(hv pre % nb)) % nb) ((n:Int)-pre.length-1) (os.set (n-(pre.length+1)) ((x.1+B*(hv pre % nb)) / nb)) W)
  (hp:pre.length<n) (hol:os.length=n) (hod:Dig B os) (hodv:dv B os=B ^ (n-pre.length)*(hv pre / nb)) (hoz:∀j,j<n-pre.length→os[j]?=X 0) (hnb:0<nb):OvI w vb nb n (pre++[x]) W:=by
 have hx:=x.2;have hq:=zeF (L:=hv pre % nb) (x:=x.1) (Int.emod_nonneg (hv pre) (by omega)) (Int.emod_lt_of_pos (hv pre) hnb) hx;refine⟨by simp;omega,os.set (n-(pre.length+1)) ((x.1+B*(hv pre % nb)) / nb),?_,by simpa using hol,?_,?_,?_⟩
 ·rw [zgq,zk3 hnb,lA,List.length_singleton]
  have e:((n:Int)-((pre.length+1:Nat):Int))=(n:Int)-pre.length-1:=by omega
  rw [e];exact h
 ·intro d hd
  rcases List.mem_or_eq_of_mem_set hd with hd|rfl
  ·exact hod d hd
  ·unfold B at hq ⊢;exact hq
 ·rw [zgq,lA,List.length_singleton]
  exact zjF hp hol hodv (hoz _ (by omega)) hnb
 ·intro j hj
  rw [lA,List.length_singleton]at hj;rw [List.getElem?_set_ne (by omega)];exact hoz j (by omega)
def OvK (w:Y) (vb:I) (n:Nat) (L i:Int) (os:List Int) (bx D:Nat) (W:Y) (t9:I) (wr:Y):Prop:=
 ∃k:Int,t9=J N k ∧ -9223372036854775808≤k∧k<9223372036854775808∧OvW w vb n L i os wr∧OvP w bx D W wr
def OvB (w:Y) (vb:I) (n:Nat) (L i:Int) (os:List Int) (bx D:Nat) (W:Y) (b:Bool) (t:I) (wr:Y):Prop:=
 t = .bool b∧OvW w vb n L i os wr∧OvP w bx D W wr
theorem zcg (x:Int) : -9223372036854775808≤IntKind.i64.wrap x∧IntKind.i64.wrap x<9223372036854775808∧IntKind.i64.wrap x % 18446744073709551616=x % 18446744073709551616:=by
 simp [IntKind.wrap,IntKind.signed,IntKind.bits];omega
theorem zjC {k k1 kk L nb:Int} (h:k1 % 18446744073709551616=(k-1) % 18446744073709551616) (hk:kk=k % 18446744073709551616) (hL:0≤L) (hl:L<nb*kk):(k1 % 18446744073709551616).toNat<(k % 18446744073709551616).toNat:=by
 have h0:kk≠0:=by rintro h0;rw [h0]at hl;simp at hl;omega
 omega
def OvC (w:Y) (vb:I) (n:Nat) (L i:Int) (os:List Int) (bx D:Nat) (W:Y) (wr:Y):Prop:=
 OvW w vb n L i os wr∧OvP w bx D W wr
def OvM (w:Y) (vb:I) (n:Nat) (L nb i:Int) (os:List Int) (bx D:Nat) (W:Y) (t9:I) (wr:Y):Prop:=
 ∃k L2:Int,t9=J N k ∧ -9223372036854775808≤k∧k<9223372036854775808∧0≤L2∧L2+nb*(k % 18446744073709551616)=L∧OvW w vb n L2 i os wr∧OvP w bx D W wr
theorem Lm.dig {k:Nat} {ds:List Int} (h:Dig B ds) (hl:ds.length≤k):Lm k (dv B ds):=by
 have h1:=zay zbA h;have h2:=zbh (b:=B) (by decide) hl;have h3:=zaB zbA k;unfold Lm;omega
theorem zlY {a b:Int} (h:b≤a):decide (0≤cmp3 a b)=true:=by simp only [cmp3];grind
theorem zkA {a b:Int} (h:¬b≤a):decide (0≤cmp3 a b)=false:=by simp only [cmp3];grind
theorem zmn {nb L2 L kk:Int} (hnb:0<nb) (hk0:0≤kk) (he:L2+nb*kk=L) (hg:nb≤L2) (hL:L<B*nb):kk+1≤L / nb∧kk+1<16777217:=by
 have h1:(kk+1)*nb≤L:=by rw [←he,Int.add_mul,Int.mul_comm kk nb];omega
 have h2:kk+1≤L / nb:=(Int.le_ediv_iff_mul_le hnb).2 h1;have h3:L / nb<B:=Int.ediv_lt_of_lt_mul hnb hL;unfold B at h3;omega
theorem zk2 {nb L2 L k:Int} (hnb:0<nb) (he:L2+nb*(k % 18446744073709551616)=L) (h0:0≤L2) (hl:¬nb≤L2) (hL:L<B*nb) (hk1 : -9223372036854775808≤k) (hk2:k<9223372036854775808):k=L / nb∧L2=L % nb:=by
 have h1:L / nb=k % 18446744073709551616:=by rw [←he,Int.add_mul_ediv_left _ _ (by omega),Int.ediv_eq_zero_of_lt h0 (by omega)];omega
 have h2:L % nb=L2:=by rw [←he,Int.add_mul_emod_self_left,Int.emod_eq_of_lt h0 (by omega)]
 have h3:L / nb<B:=Int.ediv_lt_of_lt_mul hnb hL;unfold B at h3;omega
theorem zk4 {x r L nb:Int} (h:x+B*r=L) (hx:x<16777216) (hr:r<nb):L<B*nb:=by unfold B at *;omega
def limA:Nat:=10000000
theorem zjD {zs os:List Int} {ds:List Dgt} {m:Nat} {na nb:Int} (h1:dv B zs=dv B os) (h2:dv B os=B ^ (m-ds.reverse.length)*(hv ds.reverse / nb)) (h3:dv B (vals ds)=na) (h4:ds.length=m):dv B zs=na / nb:=by
 rw [h1,h2,zi6,h3,List.length_reverse,h4,Nat.sub_self];simp
theorem zjE {dl:List Int} {ds:List Dgt} {na nb:Int} (h1:dv B dl=hv ds.reverse % nb) (h3:dv B (vals ds)=na):dv B dl=na % nb:=by
 rw [h1,zi6,h3]
theorem zhZ {w w3:Y} {D:Nat} {tmps:Array I} {na nb:Int} {a4 a5:Option Addr} {c4 c5:Nat} {zs dl:List Int} {v2 v3:I} {x:Option (List Deferred)}
  (t4:tmps.getD 4 undef=M (X ⟨w.heap.size+1+1,0,Z⟩)) (t5:tmps.getD 5 undef=M (X ⟨w.heap.size+1+1+1,0,Z⟩))
  (q2:w3.heap[w.heap.size+1+1]?=X (V #[v2] 61 (0,0))) (q3:w3.heap[w.heap.size+1+1+1]?=X (V #[v3] 61 (0,0)))
  (o4:Own 2 w3 (w.heap.size+1+1+1+1) (O a4 zs.length c4) zs) (o5:Own 2 w3 (w.heap.size+1+1+1+1+1+1+1+1) (O a5 dl.length c5) dl)
  (cz:Can B zs) (cd:Can B dl) (hq:dv B zs=na / nb) (hr:dv B dl=na % nb) (hxw:Ext w w3)
  (hK:((w3.setCell ⟨w.heap.size+1+1,0,Z⟩ (O a4 zs.length c4)).setCell ⟨w.heap.size+1+1+1,0,Z⟩ (O a5 dl.length c5)).heap[D]?=X (.deferred x))
  (hD:w.heap.size+1+1+1+1+1+1+1+1≤D) :
  LeavesInM Fence.wide 6 Tryz.prog Tryz.f139 tmps (fun e w'=>∃q r,e = .returned (.tuple #[q,r])∧OwnD w' w.heap.size q (na / nb)∧OwnD w' w.heap.size r (na % nb)∧Ext w w') [] FrameMode.returning
   (((w3.setCell ⟨w.heap.size+1+1,0,Z⟩ (O a4 zs.length c4)).setCell ⟨w.heap.size+1+1+1,0,Z⟩ (O a5 dl.length c5)).putObj D (.deferred Z)):=by
 have r2:(w3.setCell ⟨w.heap.size+1+1,0,Z⟩ (O a4 zs.length c4)).heap[w.heap.size+1+1]?=X (V #[O a4 zs.length c4] 61 (0,0)):=one_setCell q2;have r3:(w3.setCell ⟨w.heap.size+1+1,0,Z⟩ (O a4 zs.length c4)).heap[w.heap.size+1+1+1]?=X (V #[v3] 61 (0,0)):=(bS _ _ _ _ (by dsimp only;omega)).trans q3;have p4:=o4.setOther (p:=⟨w.heap.size+1+1,0,Z⟩) (o4.ne_block q2 (by decide)) (O a4 zs.length c4);have p5:=o5.setOther (p:=⟨w.heap.size+1+1,0,Z⟩) (o5.ne_block q2 (by decide)) (O a4 zs.length c4);have hx1:=hxw.set (p:=⟨w.heap.size+1+1,0,Z⟩) (by dsimp only;omega) (O a4 zs.length c4)
 generalize w3.setCell ⟨w.heap.size+1+1,0,Z⟩ (O a4 zs.length c4)=w4 at *
 have s2:(w4.setCell ⟨w.heap.size+1+1+1,0,Z⟩ (O a5 dl.length c5)).heap[w.heap.size+1+1]?=X (V #[O a4 zs.length c4] 61 (0,0)):=(bS _ _ _ _ (by dsimp only;omega)).trans r2;have s3:(w4.setCell ⟨w.heap.size+1+1+1,0,Z⟩ (O a5 dl.length c5)).heap[w.heap.size+1+1+1]?=X (V #[O a5 dl.length c5] 61 (0,0)):=one_setCell r3;have k4:=p4.setOther (p:=⟨w.heap.size+1+1+1,0,Z⟩) (p4.ne_block r3 (by decide)) (O a5 dl.length c5);have k5:=p5.setOther (p:=⟨w.heap.size+1+1+1,0,Z⟩) (p5.ne_block r3 (by decide)) (O a5 dl.length c5);have hx2:=hx1.set (p:=⟨w.heap.size+1+1+1,0,Z⟩) (by dsimp only;omega) (O a5 dl.length c5)
 generalize w4.setCell ⟨w.heap.size+1+1+1,0,Z⟩ (O a5 dl.length c5)=w5 at *
 have c2:=cell_of_one ((World.putObj_heap_other (w:=w5) (r:=D) (o:=.deferred Z) (by omega)).trans s2);have c3:=cell_of_one ((World.putObj_heap_other (w:=w5) (r:=D) (o:=.deferred Z) (by omega)).trans s3);have m4:=k4.keep (KeepT.putObj (o:=.deferred Z) hK);have m5:=k5.keep (KeepT.putObj (o:=.deferred Z) hK);refine⟨.tuple #[.agg #[O a4 zs.length c4],.agg #[O a5 dl.length c5]],?_,_,_,rfl,⟨_,zs,rfl,m4.mono (by omega),cz,hq⟩,⟨_,dl,rfl,m5.mono (by omega),cd,hr⟩,?_⟩
 ·simp only [Array.getD_eq_getD_getElem?]at t4 t5
  simp [results,Tryz.results139,go_sem,t4,t5,c2,c3]
 ·exact hx2.thenB ((Below.refl D w5).grown (grownBy_putObj' w5 D _) (by have:=zaa hK;omega) (fun k e=>by cases e;omega)) (by omega)
theorem zhf (w:Y) (va vb:I) (na nb:Int) (ha:IsD w va na) (hb:IsD w vb nb) (hla:Lm limA na) (hlb:Lm limA nb) (hnb:0<nb) :
  Calls Tryz.prog 139 #[va,vb] w fun e w'=>∃q r,e = .returned (.tuple #[q,r])∧OwnD w' w.heap.size q (na / nb)∧OwnD w' w.heap.size r (na % nb)∧Ext w w':=by
 obtain⟨a,m,c,rfl⟩:=ha.form;obtain⟨a',m',c',rfl⟩:=hb.form;obtain⟨xs,hl,hi,hc,hv⟩:=ha.open;have hm:=hla.len hc hv;rw [hl]at hm;unfold limA at hm;obtain⟨ds,rfl⟩:=zgF hc.1;have Hl:=hd9 hl;have Hv:=hd9 hv;clear hl hv;have hmf:∀(fn:Fn) (first cap:Array I) (w:Y),(Instr.makeFunc fn first cap).run Tryz.prog w = .ok (.func fn first cap) w:=fun _ _ _ _=>rfl
 refine(callsIn_wide (n:=6)).1 ?_;refine callsIn_of_wp_marks Tryz.func139 rfl trivial ?_ rfl;simp only [Tryz.ntmps139,List.size_toArray,List.length_cons,List.length_nil,Nat.reduceAdd,Nat.reduceSub,Array.replicate_succ,Array.replicate_zero,List.push_toArray,List.append_toArray,List.nil_append,List.cons_append]
 gi_wp2_with(first|(gi_at_make;refine zmZ zaM Tryz.underlying59 rfl _ _ rfl _ rfl rfl rfl (by omega) ?_;intro cs hown1)|(refine⟨trivial,?_⟩;gi_at_call 141;refine(callsIn_wide.2 (zgR _ _ _ _)).mono ?_;rintro e w' ⟨rfl,rfl⟩))
 have hbx:((((((((w.alloc (V #[O a m c] 61)).alloc (V #[O a' m' c'] 61)).alloc (V #[O Z 0 0] 61)).alloc (V #[O Z 0 0] 61)).alloc (V cs 2)).alloc (V #[O (X ⟨w.heap.size+1+1+1+1,0,Z⟩) m m] 59)).alloc (V #[J N m] 3)).alloc (V #[O a m c] 61)).cell? ⟨w.heap.size+1+1+1+1+1+1+1,0,Z⟩=X (O a m c):=by
  rw [World.cell?_alloc_at _ _ _ _ (by simp)];rfl
 refine wpIn_rangeFunc_ownG rfl (by decide) (gf:=181) (lb:=#[M (X ⟨w.heap.size+1+1+1+1+1+1+1,0,Z⟩)]) rfl trivial (enters_of Tryz.func181 (by kernel_rfl) rfl)
  (zex _ _ trivial rfl (by decide) (w.heap.size+1+1+1+1+1+1+1) w _ _ ds hbx (by simp) hi eA) KpW.trans (KpW.put (by simp;omega) (by simp)) (Below.refl _ _) (fun _=>rfl)
  (OvI w (O a' m' c') nb m) (fun _ _ _=>False) (zaj (fun s W h=>by obtain⟨_,os,h,_⟩:=h;have:=h.2.1;simp;omega) (fun s W W' h k=>?hsim)) (fun _=>zaj (fun _ _ h=>h.elim) (fun _ _ _ h _=>h)) ?h0
  (fun x=>{ tmps:=#[.agg #[O a m c],.agg #[O a' m' c'],M (X ⟨w.heap.size,0,Z⟩),M (X ⟨w.heap.size+1,0,Z⟩),M (X ⟨w.heap.size+1+1,0,Z⟩),M (X ⟨w.heap.size+1+1+1,0,Z⟩),M (X ⟨w.heap.size+1+1+1+1+1,0,Z⟩),M (X ⟨w.heap.size+1+1+1+1+1+1,0,Z⟩),J N x.1,undef,M (X ⟨w.heap.size,0,Z⟩),O a m c,J N m,O (X ⟨w.heap.size+1+1+1+1,0,Z⟩) m m,M (X ⟨w.heap.size,0,Z⟩),O a m c,J N m,.agg #[O a m c],.func (.func 181) #[] #[M (X ⟨w.heap.size+1+1+1+1+1+1+1,0,Z⟩)],J N x.1,undef,undef,undef,undef,undef,undef,undef,undef,undef,undef,undef,undef,undef,undef,undef,undef,undef,undef,undef,undef,undef,undef,undef,undef,undef,undef,undef,undef,undef,undef,undef,undef,undef,undef,undef,undef,undef,undef,undef,undef,undef,undef,undef,undef,undef,undef,undef,undef],defers:=[] }) ?assign ?body ?done ?stop
 case hsim =>
  obtain⟨h1,os,h2,h3⟩:=h;exact⟨h1,os,h2.keep (k.ext h2.1 (by simp;omega)) k.keep k.size,h3⟩
 case h0 =>
  refine⟨by simp,List.replicate m 0,⟨eA,by simp,(by simp only [zae,wZ];simp),(by simp only [zae,wZ];simp),⟨_,[],(by simp only [zae,wZ];simp),Own.nil _ _ _,Can.nil _,by simp [hv,vals]⟩,(by simp only [zae,wZ];simp),by simp only [zae,wZ];simp,?_⟩,by simp,?_,by rw [zaP];simp [hv,vals],?_⟩
  ·simpa using ((hown1.alloc _).alloc _).alloc _
  ·intro d hd;have:=(List.mem_replicate.1 hd).2;unfold B;omega
  ·intro j hj;simp at hj;simp [hj]
 case assign =>
  intro l x W K hK
  gi_wp2
  exact hK
 case body =>
  rintro l pre x W ⟨h1,os,hov,hol,hod,hodv,hoz⟩ hlt;have Hla:=hd9 hla;have Hlb:=hd9 hlb;clear hla hlb;have hx0:=x.2.1;have hx1:=x.2.2;obtain⟨hc7,hf7⟩:=hov.rdI;obtain⟨a5,m5,c5,hc3,hf3,hD3⟩:=hov.rdL;have hW8:=hov.2.1;have Hlt:=hd9 hlt;have Hol:=hd9 hol;have Hodv:=hd9 hodv;have Hoz:=hd9 hoz;have Hov:=hd9 hov;have HD3:=hd9 hD3;have hpm:pre.length<m:=by have h5:=Hl.out;have h6:=zbL ds;omega
  have hi1:IntKind.i64.wrap ((m:Int)-pre.length-1)=(m:Int)-pre.length-1:=iW _ (by omega);clear hlt hol hodv hoz hov hD3 hown1 hbx;have Hnum:=Hov.out.num ((m:Int)-pre.length-1);obtain⟨W1,hW1⟩:=gX (W.setCell ⟨w.heap.size+1+1+1+1+1+1,0,Z⟩ (J N ((m:Int)-pre.length-1)));rw [hW1]at Hnum;have hs1:W1.heap.size=W.heap.size:=by rw [←hW1,qcZ]
  obtain⟨a6,m6,c6,hcN,hfN,hDN⟩:=Hnum.rdL
  have hcN':((W.setCell ⟨w.heap.size+1+1+1+1+1+1,0,Z⟩ (J N ((m:Int)-pre.length-1))).alloc (V #[J N x.1] 2)).cell? ⟨w.heap.size+1+1+1,0,Z⟩=X (O a6 m6 c6):=by
   rw [hW1,World.cell?_alloc_lt _ _ _ (by dsimp only;omega)];exact hcN
  have Hnm:=hd9 Hnum;have HDN:=hd9 hDN;have HW1:=hd9 hW1;obtain⟨es,hel,hei,hec,hev⟩:=hDN.open;have Hev:=hd9 hev;have Hel:=hd9 hel
  have hown2:Own 2 ((W.setCell ⟨w.heap.size+1+1+1+1+1+1,0,Z⟩ (J N ((m:Int)-pre.length-1))).alloc (V #[J N x.1] 2)) W.heap.size (O (X ⟨W.heap.size,0,Z⟩) 1 1) [x.1]:=by
   rw [hW1,←hs1];exact ownOne W1 x.1
  have hei2:Ints 2 ((W.setCell ⟨w.heap.size+1+1+1+1+1+1,0,Z⟩ (J N ((m:Int)-pre.length-1))).alloc (V #[J N x.1] 2)) (O a6 m6 c6) es:=by
   rw [hW1];exact hei.ext eA
  have hel2:es.length≤10000000:=by
   have:=Lm.len (Hlb.out.le (Int.emod_nonneg _ (by omega)) (Int.le_of_lt (Int.emod_lt_of_pos (hv pre) hnb))) hec Hev.out;exact this
  have hel3:[x.1].length+es.length≤1000000000000:=by simp;omega
  have hel4:([x.1]++es).length≤1000000000:=by simp;omega
  have hed:Dig B ([x.1]++es):=by
   intro y hy
   rcases List.mem_append.1 hy with hy|hy
   ·cases List.mem_singleton.1 hy;exact⟨hx0,hx1⟩
   ·exact hec.1 y hy
  have hex:∀y∈[x.1]++es,-4611686018427387904≤y∧y≤4611686018427387904:=by
   intro y hy;have:=hed y hy;unfold B at this;omega
  have hep:0≤dv B ([x.1]++es):=(zay zbA hed).1;obtain⟨L',hL'⟩:∃L',x.1+B*(hv pre % nb)=L':=⟨_,rfl⟩;have hev2:dv B ([x.1]++es)=L':=by rw [←hL',←Hev.out];simp
  have HL':=hd9 hL';have Hev2:=hd9 hev2;clear hL' hev2;have hbs2:W.heap.size≤((W.setCell ⟨w.heap.size+1+1+1+1+1+1,0,Z⟩ (J N ((m:Int)-pre.length-1))).alloc (V #[J N x.1] 2)).heap.size:=by simp
  clear hW1 hDN hcN Hnum hev hel hc3 hf3 HD3 hei
  gi_wp2_with(gi_at_builtin;go_loud (refine zlU zaM Tryz.underlying59 rfl _ _ rfl rfl hown2 rfl hei2 hel3 hbs2 ?_);intro v' w1 hown3 hbel3 helse3;have hs3:=nT hbs2 hbel3.size)
  refine⟨trivial,?_⟩
  (with_reducible refine(CallsIn.inRound l (callsIn_wide.2 (zaW W.heap.size v' ([x.1]++es) w1 hown3 hs3 hel4 hex hep))).mono ?_)
  rintro e w2 ⟨v2,zs,rfl,hzc,hzv,hown4,hb4,he4⟩;obtain⟨a7,c7,rfl⟩:=hown4.form
  have hxa:Ext W1 w2:=by
   rw [HW1.out]at hbel3;exact(((eR W1).alloc _).thenB hbel3 (by omega)).thenB hb4 (by omega)
  have Ho2:=Hnm.out.ext hxa;have Ho3:=Ho2.left (hown4.mono (by omega)) hzc (hzv.trans Hev2.out);obtain⟨_,_,_,hc8,hf8,_⟩:=Ho2.rdL;have hc9:=Ho2.leftCell (O a7 zs.length c7);have hc10:=Ho3.rdB;have HD7:=Ho2.leftD hown4 hzc (hzv.trans Hev2.out);have HB7:=hb.ext Ho3.1;have HO3:=hd9 Ho3;have Hzv:=hd9 hzv;have Hxa:=hd9 hxa;clear Ho2 Ho3 hzv hxa hcN' hown2 hei2 hbel3 hown3 he4 hb4 hown4 helse3;have hL0:0≤L':=by rw [←Hev2.out];exact hep
  by_cases hln:L'<nb
  ·have hcm:=zdk hln
   gi_wp2_with(refine⟨trivial,?_⟩;gi_at_call 125;(with_reducible refine(CallsIn.inRound l (callsIn_wide.2 (za0 _ _ _ _ _ HD7 HB7))).mono ?_);rintro e w4 ⟨rfl,hx4⟩)
   have hP:OvP w (w.heap.size+1+1+1+1+1+1+1) (w.heap.size+1+1+1+1+1+1+1+1) W w4:=by
    have h5:=(OvP.refl w (w.heap.size+1+1+1+1+1+1+1) (w.heap.size+1+1+1+1+1+1+1+1) W).set (p:=⟨w.heap.size+1+1+1+1+1+1,0,Z⟩) (by dsimp only;omega) (by dsimp only;omega) (J N ((m:Int)-pre.length-1));rw [HW1.out]at h5;have h6:=Hxa.out.size;exact((h5.ext Hxa.out (by omega) (by omega)).set (p:=⟨w.heap.size+1+1+1,0,Z⟩) (by dsimp only;omega) (by dsimp only;omega) _).ext hx4 (by rw [qcZ];omega) (by rw [qcZ];omega)
   have hI:OvI w (O a' m' c') nb m (pre++[x]) w4:=by
    refine OvI.next (os:=os) ?_ hpm Hol.out hod Hodv.out Hoz.out hnb;have h0:=HL'.out;have h1:=(zeF (L:=hv pre % nb) (x:=x.1) (Int.emod_nonneg (hv pre) (by omega)) (Int.emod_lt_of_pos (hv pre) hnb) ⟨hx0,hx1⟩);rw [h0];have hL0:0≤L':=by rw [←Hev2.out];exact hep
    rw [Int.emod_eq_of_lt hL0 hln,Int.ediv_eq_zero_of_lt hL0 hln,zlf (Hoz.out _ (by omega))];exact HO3.out.ext hx4
   refine⟨?_,hP.2,hI⟩;have:=hP.1
   simpa using this
  ·have hcm:=zcr hln
   have hP0:OvP w (w.heap.size+1+1+1+1+1+1+1) (w.heap.size+1+1+1+1+1+1+1+1) W (w2.setCell ⟨w.heap.size+1+1+1,0,Z⟩ (O a7 zs.length c7)):=by
    have h5:=(OvP.refl w (w.heap.size+1+1+1+1+1+1+1) (w.heap.size+1+1+1+1+1+1+1+1) W).set (p:=⟨w.heap.size+1+1+1+1+1+1,0,Z⟩) (by dsimp only;omega) (by dsimp only;omega) (J N ((m:Int)-pre.length-1));rw [HW1.out]at h5;exact(h5.ext Hxa.out (by omega) (by omega)).set (p:=⟨w.heap.size+1+1+1,0,Z⟩) (by dsimp only;omega) (by dsimp only;omega) _
   have HP0:=hd9 hP0;clear hP0
   gi_wp2_with(first|(refine⟨trivial,?_⟩;gi_at_call 125;(with_reducible refine(CallsIn.inRound l (callsIn_wide.2 (za0 _ _ _ _ _ HD7 HB7))).mono ?_);rintro e w4 ⟨rfl,hx4⟩;obtain⟨a8,m8,c8,hcA,hfA,hDA⟩:=(HO3.out.ext hx4).rdL;have hcB:=(HO3.out.ext hx4).rdB;have hBA:=HB7.ext hx4)|(refine⟨trivial,?_⟩;gi_at_call 180;(with_reducible refine(CallsIn.inRound l (callsIn_wide.2 (zj8 _ _ _ _ _ hDA hBA (Hlb.out.mono (by decide))))).mono ?_);rintro e w5 ⟨⟨k0,rfl,hk0⟩,hx5⟩))
   have Ho5:=(HO3.out.ext hx4).ext hx5;have hP5:=(HP0.out.ext hx4 (by rw [qcZ];have h6:=Hxa.out.size;omega) (by rw [qcZ];have h6:=Hxa.out.size;omega)).ext hx5 (by have h7:=hx4.size;rw [qcZ]at h7;have h6:=Hxa.out.size;omega) (by have h7:=hx4.size;rw [qcZ]at h7;have h6:=Hxa.out.size;omega);clear hcA hfA hDA hcB hBA HD7 HB7 hc8 hf8 hc9 hc10 HP0
   gi_loopw [9] (OvK w (O a' m' c') m L' ((m:Int)-pre.length-1) os (w.heap.size+1+1+1+1+1+1+1) (w.heap.size+1+1+1+1+1+1+1+1) W) (fun t9 _=>(intOf t9 % 18446744073709551616).toNat)
   case atStart=>exact⟨k0,rfl,hk0.1,by have:=hk0.2;omega,Ho5,hP5⟩
   case round =>
    clear Ho5 hP5 hx4 hx5 hk0;obtain⟨k,rfl,hk1,hk2,Ho,hP⟩:=hrel;obtain⟨a8,m8,c8,hcA,hfA,hDA⟩:=Ho.rdL;have hcB:=Ho.rdB;have hBA:=hb.ext Ho.1;have HO:=hd9 Ho;have HP:=hd9 hP;have hw8:=Ho.2.1;obtain⟨kk,hkk⟩:=gX (IntKind.u64.wrap k);have hkm:kk=k % 18446744073709551616:=by rw [←hkk,zlm]
    have hkk0:0≤kk:=by omega
    have hkk1:kk<18446744073709551616:=by omega
    have HLk:=hd9 (zmY hkk0 hkk1);have HLb:Hid (Lm lim nb):=hd9 (Hlb.out.mono (by decide));have Hkm:=hd9 hkm;clear Ho hP HO3 hkm
    gi_wp2
    gi_cut [42]from 1000 (OvB w (O a' m' c') m L' ((m:Int)-pre.length-1) os (w.heap.size+1+1+1+1+1+1+1) (w.heap.size+1+1+1+1+1+1+1+1) W (decide (cmp3 L' (nb*kk)<0)))
    case first =>
     gi_region_with (first|(refine⟨trivial,?_⟩;gi_at_call 115;(with_reducible refine(CallsIn.inRound l (callsIn_wide.2 (zbM _ kk hkk0 hkk1))).mono ?_);rintro e wa ⟨r1,rfl,hr1,hxa1⟩;obtain⟨ax,mx,cx,rfl⟩:=hr1.isD.form;have hcA1:=hxa1.cellS hcA;have hcB1:=hxa1.cellS hcB)|(refine⟨trivial,?_⟩;gi_at_call 113;(with_reducible refine(CallsIn.inRound l (callsIn_wide.2 (zeg _ _ _ nb kk ?_ ?_ HLb.out HLk.out))).mono ?_);(refine hBA.ext ?_;exact eA);(refine hr1.isD.ext ?_;exact eA);rintro e wb ⟨r2,rfl,hr2,hxa2⟩;obtain⟨ay,my,cy,rfl⟩:=hr2.isD.form;have hcA2:=hxa2.cellS hcA1)|(refine⟨trivial,?_⟩;gi_at_call 125;(with_reducible refine(CallsIn.inRound l (callsIn_wide.2 (za0 _ _ _ L' (nb*kk) ?_ ?_))).mono ?_);(refine hDA.ext ?_;exact eA);(refine hr2.isD.ext ?_;exact eA);rintro e wz ⟨rfl,hxa3⟩))
     all_goals gi_wp2
     all_goals gi_meet
     all_goals
      have hxz:Ext wr wz:=by
       have h1:Ext wr wa:=(eR wr).drew.trans hxa1;exact(h1.trans hxa2).trans hxa3
      exact⟨rfl,HO.out.ext hxz,HP.out.ext hxz (by omega) (by omega)⟩
    case rest =>
     clear HO HP hcA hfA hDA hcB hBA hw8;obtain⟨rfl,Ho,hP⟩:=hcut;have HO:=hd9 Ho;have HP:=hd9 hP;clear Ho hP
     by_cases hlk:L'<nb*kk
     ·have hcm2:=zdk hlk
      obtain⟨k1,hk1e⟩:=gX (IntKind.i64.wrap (k-1));have hkf:=zcg (k-1);rw [hk1e]at hkf;rw [hcm2]
      gi_wp2
      go_roundw
      case rel=>exact⟨k1,rfl,hkf.1,hkf.2.1,HO.out,HP.out⟩
      case measure =>
       have:=zjC hkf.2.2 Hkm.out hL0 hlk
       simpa [intOf] using this
     ·have hcm2:=zcr hlk
      rw [hcm2];have hlk':nb*kk≤L':=by omega
      have hnk0:0≤nb*kk:=Int.mul_nonneg (by omega) hkk0;have HLL:Hid (Lm lim L'):=hd9 (by rw [←Hev2.out];exact Lm.dig hed (by unfold lim;simp;omega));have HLP:Hid (Lm lim (nb*kk)):=hd9 (HLL.out.le hnk0 hlk');obtain⟨a8,m8,c8,hcA,hfA,hDA⟩:=HO.out.rdL;have hcB:=HO.out.rdB;have hBA:=hb.ext HO.out.1;have hw8:=HO.out.2.1
      gi_wp2
      gi_cut []from 1000 (OvC w (O a' m' c') m (L' + -1*(nb*kk)) ((m:Int)-pre.length-1) os (w.heap.size+1+1+1+1+1+1+1) (w.heap.size+1+1+1+1+1+1+1+1) W)
      case first =>
       gi_region_with (first|(refine⟨trivial,?_⟩;gi_at_call 115;(with_reducible refine(CallsIn.inRound l (callsIn_wide.2 (zbM _ kk hkk0 hkk1))).mono ?_);rintro e wa ⟨r1,rfl,hr1,hxa1⟩;obtain⟨ax,mx,cx,rfl⟩:=hr1.isD.form;have hcA1:=hxa1.cellS hcA;have hcB1:=hxa1.cellS hcB)|(refine⟨trivial,?_⟩;gi_at_call 113;(with_reducible refine(CallsIn.inRound l (callsIn_wide.2 (zeg _ _ _ nb kk ?_ ?_ HLb.out HLk.out))).mono ?_);(refine hBA.ext ?_;exact eA);(refine hr1.isD.ext ?_;exact eA);rintro e wb ⟨r2,rfl,hr2,hxa2⟩;obtain⟨ay,my,cy,rfl⟩:=hr2.isD.form;have hcA2:=hxa2.cellS hcA1)|(refine⟨trivial,?_⟩;gi_at_call 114;(with_reducible refine(CallsIn.inRound l (callsIn_wide.2 (zaN _ _ _ L' (nb*kk) (-1) ?_ ?_ HLL.out HLP.out (by omega) (by omega)))).mono ?_);(refine hDA.ext ?_;exact eA);(refine hr2.isD.ext ?_;exact eA);rintro e wz ⟨r3,rfl,⟨sl3,d3,rfl,ho3,hcn3,hv3⟩,hxa3⟩;obtain⟨az,cz,rfl⟩:=ho3.form;have hxz:Ext wc wz:=(((eR wc).drew.trans hxa1).trans hxa2).trans hxa3;obtain⟨_,_,_,hcZ,hfZ,_⟩:=(HO.out.ext hxz).rdL))
       all_goals gi_wp2
       all_goals gi_meet
       all_goals
        have hs4:=hxa1.size;have hs5:=hxa2.size;have hs6:=hxa3.size;exact⟨(HO.out.ext hxz).left (ho3.mono (by simp only [World.size_drew]at *;omega)) hcn3 hv3,(HP.out.ext hxz (by omega) (by omega)).set (by dsimp only;omega) (by dsimp only;omega) _⟩
      case rest =>
       clear HO HP hcA hfA hDA hcB hBA hw8 HLk HLP;obtain⟨Ho6,hP6⟩:=hcut;have hLB:=zk4 HL'.out hx1 (Int.emod_lt_of_pos (hv pre) hnb)
       gi_wp2
       gi_loopw [9] (OvM w (O a' m' c') m L' nb ((m:Int)-pre.length-1) os (w.heap.size+1+1+1+1+1+1+1) (w.heap.size+1+1+1+1+1+1+1+1) W) (fun t9 _=>(L' / nb-intOf t9 % 18446744073709551616).toNat)
       case atStart=>exact⟨k,L' + -1*(nb*kk),rfl,hk1,hk2,by omega,by rw [←Hkm.out];omega,Ho6,hP6⟩
       case round =>
        clear Ho6 hP6 hk1 hk2 hkk Hkm;obtain⟨k',L2,rfl,hq1,hq2,hL2,hLe,Ho,hP⟩:=hrel;obtain⟨aA,mA,cA,hcA,hfA,hDA⟩:=Ho.rdL;have hcB:=Ho.rdB;have hBA:=hb.ext Ho.1;have hw8:=Ho.2.1;have hm0:0≤k' % 18446744073709551616:=by omega
        have hp0:0≤nb*(k' % 18446744073709551616):=Int.mul_nonneg (by omega) hm0;have HLe:=hd9 hLe;have HL2:Hid (Lm lim L2):=hd9 (HLL.out.le hL2 (by omega));have HO:=hd9 Ho;have HP:=hd9 hP;clear Ho hP hLe hp0
        by_cases hge:nb≤L2
        ·have hcm3:=zlY hge
         have hup:=zmn hnb hm0 HLe.out hge hLB;obtain⟨k3,hk3⟩:=gX (IntKind.i64.wrap (k'+1));have hkf:=zcg (k'+1);rw [hk3]at hkf;have hk3m:k3 % 18446744073709551616=k' % 18446744073709551616+1:=by omega
         have Hkf:=hd9 hkf;have Hk3m:=hd9 hk3m;have Hup:=hd9 hup;clear hkf hk3m hup
         gi_wp2_with(first|(refine⟨trivial,?_⟩;gi_at_call 125;(with_reducible refine(CallsIn.inRound l (callsIn_wide.2 (za0 _ _ _ _ _ hDA hBA))).mono ?_);rintro e w6 ⟨rfl,hx6⟩;obtain⟨aB,mB,cB,hcA2,hfA2,hDA2⟩:=(HO.out.ext hx6).rdL;have hcB2:=(HO.out.ext hx6).rdB;have hBA2:=hBA.ext hx6)|(refine⟨trivial,?_⟩;gi_at_call 114;(with_reducible refine(CallsIn.inRound l (callsIn_wide.2 (zaN _ _ _ L2 nb (-1) hDA2 hBA2 HL2.out HLb.out (by omega) (by omega)))).mono ?_);rintro e w7 ⟨r3,rfl,⟨sl3,d3,rfl,ho3,hcn3,hv3⟩,hx7⟩;obtain⟨az,cz,rfl⟩:=ho3.form;obtain⟨_,_,_,hcZ,hfZ,_⟩:=((HO.out.ext hx6).ext hx7).rdL))
         go_roundw
         case rel =>
          have hs4:=hx6.size;have hs5:=hx7.size;refine⟨k3,L2 + -1*nb,rfl,Hkf.out.1,Hkf.out.2.1,by omega,?_,((HO.out.ext hx6).ext hx7).left (ho3.mono (by omega)) hcn3 hv3,(((HP.out.ext hx6 (by omega) (by omega)).ext hx7 (by omega) (by omega))).set (by dsimp only;omega) (by dsimp only;omega) _⟩;rw [Hk3m.out,Int.mul_add,←HLe.out];omega
         case measure =>
          have h5:=Hk3m.out;have h6:=Hup.out.1;simp only [intOf];omega
        ·have hcm3:=zkA hge
         have hfin:=zk2 hnb HLe.out hL2 hge hLB hq1 hq2;obtain⟨j,hj⟩:∃j:Nat,(m:Int)-pre.length-1=j∧j=m-(pre.length+1):=⟨m-(pre.length+1),by omega,rfl⟩;have hjm:j<m:=by omega
         have Hfin:=hd9 hfin;have Hj:=hd9 hj;clear hfin hj
         gi_wp2_with(refine⟨trivial,?_⟩;gi_at_call 125;(with_reducible refine(CallsIn.inRound l (callsIn_wide.2 (za0 _ _ _ _ _ hDA hBA))).mono ?_);rintro e w6 ⟨rfl,hx6⟩;have Ho4:=HO.out.ext hx6;rw [Hj.out.1]at Ho4;have hcI:=Ho4.rdI.1;have hcO:=Ho4.rdO;have hcQ:=Ho4.2.2.2.2.2.2.2.cell (Hoz.out j (by have:=Hj.out.2;omega));have hfQ:=Ho4.2.2.2.2.2.2.2.frozen j;have HO4:=hd9 Ho4;clear Ho4)
         have hP4:=(HP.out.ext hx6 (by omega) (by omega)).set (p:=⟨w.heap.size+1+1+1+1,j,Z⟩) (by dsimp only;omega) (by dsimp only;omega) (J N k')
         have hI:OvI w (O a' m' c') nb m (pre++[x]) (w6.setCell ⟨w.heap.size+1+1+1+1,j,Z⟩ (J N k')):=by
          refine OvI.next (os:=os) ?_ hpm Hol.out hod Hodv.out Hoz.out hnb;rw [HL'.out,←Hfin.out.1,←Hfin.out.2,Hj.out.1,←Hj.out.2];exact HO4.out.out j k'
         refine⟨?_,hP4.2,hI⟩;have:=hP4.1
         simpa using this
 case done =>
  rintro D ys W hD rfl ⟨h1,os,hov,hol,hod,hodv,hoz⟩ hK;obtain⟨g1,g2,g3,g4,⟨sl,dl,g5,g6,g7,g8⟩,g9,g10,g11⟩:=hov;obtain⟨a5,c5,rfl⟩:=g6.form;have hc2:=cell_of_one g4;have hf2:=free_of_one g4;have hc3:=cell_of_one g5;have hf3:=free_of_one g5;have hc5:=cell_of_one g9;have hDs:w.heap.size≤D:=by simp at hD;omega
  have Hol:=hd9 hol;have H4:=hd9 g4;have H5:=hd9 g5;have H8:=hd9 g8;have Hodv:=hd9 hodv;have hpos:0≤dv B os:=(zay zbA hod).1;have hlen:os.length≤1000000000:=by omega
  clear hol g3 g4 g5 g8 g9 g10 hodv hoz hown1 hbx h1
  gi_wp2
  gi_region_with (first|(refine⟨trivial,?_⟩;gi_at_call 144;(with_reducible refine(callsIn_wide.2 (zdg (w.heap.size+1+1+1+1) _ os _ (ownDrew g11) ?_ hlen ?_ hpos)).mono ?_);(simp only [World.size_drew];omega);(intro x hx;have:=hod x hx;unfold B at this;omega);rintro e w3 ⟨v',zs,rfl,hzc,hzv,hown3,hb3,he3,hkp3⟩;obtain⟨hcc3,hff3⟩:=zaE hb3;obtain⟨a4,c4,rfl⟩:=hown3.form;have Hzv:=hd9 hzv;clear hzv;have hK3:w3.heap[D]?=X (.deferred (X [])):=he3 D _ hK (fun _ _ e=>by cases e)))
  all_goals gi_wp2
  all_goals
   have hKf:((w3.setCell ⟨w.heap.size+1+1,0,Z⟩ (O a4 zs.length c4)).setCell ⟨w.heap.size+1+1+1,0,Z⟩ (O a5 dl.length c5)).heap[D]?=X (.deferred (X [])):=by
    rw [bS _ _ _ _ (by simp at hD;dsimp only;omega),bS _ _ _ _ (by simp at hD;dsimp only;omega)];exact hK3
   refine⟨by simp,.inl ⟨_,_,rfl,run_takeDeferred hKf,?_⟩⟩;have hD2:w.heap.size+1+1+1+1+1+1+1+1≤D:=by simpa using hD
   have q2:w3.heap[w.heap.size+1+1]?=X (V #[O Z 0 0] 61 (0,0)):=(hb3.block _ (by omega)).trans H4.out;have q3:w3.heap[w.heap.size+1+1+1]?=X (V #[O a5 dl.length c5] 61 (0,0)):=(hb3.block _ (by omega)).trans H5.out;have o5:Own 2 w3 (w.heap.size+1+1+1+1+1+1+1+1) (O a5 dl.length c5) dl:=Own.stay (ownDrew g6) (fun g o hg hh=>hkp3 hod g o hh (by simp [Value.ownBlock];omega));have hxw:Ext w w3:=(g1.drew).thenB hb3 (by omega);refine zhZ ?_ ?_ q2 q3 hown3 o5 hzc g7 (zjD Hzv.out Hodv.out Hv.out (by have:=Hl.out;simpa [vals] using this)) (zjE H8.out Hv.out) hxw hKf hD2<;>rfl
 case stop =>
  rintro D c pre W _ _ h _;exact h.elim
end
end Go.Proofs.YtodpfeaihohpjaaGreatDoor.Cop
