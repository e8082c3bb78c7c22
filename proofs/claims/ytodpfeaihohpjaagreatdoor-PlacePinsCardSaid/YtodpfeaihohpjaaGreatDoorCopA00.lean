/- Part 1: contracts of what the law calls. -/
import Derived.Test.YtodpfeaihohpjaaGreatDoorProg
import Derived.WalkKit
import Derived.Lib.Hide
import Derived.Deep.QuietTactic
import Derived.BigQuiet
import Derived.Deep.RegionHeld3
import Derived.WalkSpells
import Derived.WalkLawsBesides
import Derived.Maps.AppendAt
import Derived.Laws.CopyOwn
import Derived.Laws.AppendOwnNone
import Derived.OwnWalkIn
import Derived.RangeFuncNested
import Derived.RangeFuncBound
import Derived.RangeFuncCalls
import Derived.RangeFuncLeaves
import Derived.Shelf.Abstract
import Derived.Shelf.RegionOpen
import Derived.TacticsInMore
import Derived.LoopNIn
import Derived.LoopIn
set_option maxRecDepth 1000000
set_option maxHeartbeats 16000000
set_option linter.unusedSimpArgs false
set_option linter.unusedVariables false
open Go renaming World→O,Value→X,Addr→S
open Option renaming some→Y,none→M
open Go.Value renaming slice→Z,int→G,agg→U,pointer→Oa
open Go.IntKind renaming i64→N
open Go.Obj renaming cells→H
namespace Go.Proofs.YtodpfeaihohpjaaGreatDoor.Cop
section
def dv (b:Int):List Int→Int
 | []=>0
 | d::ds=>d+b*dv b ds
@[simp] theorem znF (b : Int) : dv b [] = 0 := rfl
@[simp] theorem zbR (b d : Int) (ds : List Int) : dv b (d :: ds) = d + b * dv b ds := rfl
theorem zaK (b:Int) (xs ys:List Int):dv b (xs++ys)=dv b xs+b ^ xs.length*dv b ys:=by
 induction xs with
 | nil=>simp
 | cons x xs ih=>simp only [List.cons_append,zbR,ih,List.length_cons];grind
theorem zcR (b:Int) (xs:List Int) (y:Int):dv b (xs++[y])=dv b xs+b ^ xs.length*y:=by
 rw [zaK];simp
theorem zaP (b:Int) (n:Nat):dv b (List.replicate n 0)=0:=by
 induction n with
 | zero=>rfl
 | succ n ih=>simp [List.replicate_succ,ih]
def Dig (b:Int) (ds:List Int):Prop:=∀d∈ds,0≤d∧d<b
def Can (b:Int) (ds:List Int):Prop:=Dig b ds∧ds.getLast?≠Y 0
theorem Dig.nil (b:Int):Dig b []:=by intro d h;cases h
theorem Dig.snoc {b:Int} {ds:List Int} (h:Dig b ds) {y:Int} (h0:0≤y) (h1:y<b):Dig b (ds++[y]):=by
 intro d hd
 rcases List.mem_append.1 hd with hd|hd
 ·exact h d hd
 ·simp at hd;subst hd;exact⟨h0,h1⟩
theorem Dig.of_append {b:Int} {xs ys:List Int} (h:Dig b (xs++ys)):Dig b xs∧Dig b ys:=
 ⟨fun d hd=>h d (List.mem_append.2 (.inl hd)),fun d hd=>h d (List.mem_append.2 (.inr hd))⟩
theorem Dig.append {b:Int} {xs ys:List Int} (h:Dig b xs) (k:Dig b ys):Dig b (xs++ys):=by
 intro d hd
 rcases List.mem_append.1 hd with hd|hd
 ·exact h d hd
 ·exact k d hd
theorem zaB {b:Int} (hb:0<b) (n:Nat):0<b ^ n:=Int.pow_pos hb
theorem zay {b:Int} (hb:0<b) {ds:List Int} (h:Dig b ds):0≤dv b ds∧dv b ds<b ^ ds.length:=by
 induction ds with
 | nil=>simp
 | cons d ds ih =>
  have hd:=h d (by simp);have ih:=ih (fun x hx=>h x (by simp [hx]));simp only [zbR,List.length_cons];have h1:b*dv b ds≤b*(b ^ ds.length-1):=Int.mul_le_mul_of_nonneg_left (by omega) (by omega);have h2:0≤b*dv b ds:=Int.mul_nonneg (by omega) ih.1;have h3:b ^ (ds.length+1)=b*b ^ ds.length:=by rw [Int.pow_succ,Int.mul_comm]
  have h4:b*(b ^ ds.length-1)=b*b ^ ds.length-b:=by grind
  omega
theorem zgg {b:Int} (hb:0<b) {ds:List Int} (h:Can b ds) (hne:ds≠[]):b ^ (ds.length-1)≤dv b ds:=by
 obtain⟨xs,y,rfl⟩:∃xs y,ds=xs++[y]:=⟨ds.dropLast,ds.getLast hne,(List.dropLast_concat_getLast hne).symm⟩;have hy:=h.1 y (by simp);have hy0:y≠0:=by intro e;apply h.2;simp [e]
 have hx:=zay hb (Dig.of_append h.1).1;rw [zcR];have hp:=zaB hb xs.length;have:b ^ xs.length*1≤b ^ xs.length*y:=Int.mul_le_mul_of_nonneg_left (by omega) (by omega);simp only [List.length_append,List.length_singleton,Nat.add_sub_cancel];omega
theorem zeT {b:Int} (hb:0<b) {ds:List Int} (h:Can b ds):dv b ds=0 ↔ ds=[]:=by
 constructor
 ·intro e
  by_cases hne:ds=[]
  ·exact hne
  ·have:=zgg hb h hne
   have:=zaB hb (ds.length-1);omega
 ·rintro rfl;rfl
theorem zbh {b:Int} (hb:1≤b) {m n:Nat} (h:m≤n):b ^ m≤b ^ n:=by
 obtain⟨k,rfl⟩:=Nat.exists_eq_add_of_le h
 induction k with
 | zero=>exact Int.le_refl _
 | succ k ih =>
  have ih:=ih (by omega);have hp:=zaB (b:=b) (by omega) (m+k);have e:b ^ (m+(k+1))=b*b ^ (m+k):=by rw [←Nat.add_assoc,Int.pow_succ,Int.mul_comm]
  have:1*b ^ (m+k)≤b*b ^ (m+k):=Int.mul_le_mul_of_nonneg_right hb (by omega);omega
theorem zet {b:Int} (hb:1≤b) {xs ys:List Int} (hx:Dig b xs) (hy:Can b ys) (h:xs.length<ys.length):dv b xs<dv b ys:=by
 have h1:=(zay (by omega) hx).2;have h2:=zgg (by omega) hy (by intro e;subst e;simp at h);have h3:=zbh hb (show xs.length≤ys.length-1 by omega);omega
theorem zeV {b:Int} (hb:1≤b) {xs ys zs:List Int} {x y:Int} (hx:Dig b xs) (hl:xs.length=ys.length) (hy:Dig b ys) (h:x<y) :
  dv b (xs++x::zs)<dv b (ys++y::zs):=by
 rw [zaK,zaK,hl];simp only [zbR];have h1:=(zay (by omega) hx).2;have h2:=(zay (by omega) hy).1;have hp:=zaB (b:=b) (by omega) ys.length;rw [hl]at h1;have:b ^ ys.length*(x+1+b*dv b zs)≤b ^ ys.length*(y+b*dv b zs):=Int.mul_le_mul_of_nonneg_left (by omega) (by omega);have e:b ^ ys.length*(x+1+b*dv b zs)=b ^ ys.length*(x+b*dv b zs)+b ^ ys.length:=by grind
 omega
theorem znx {b:Int} (hb:1≤b):∀{xs ys:List Int},Can b xs→Can b ys→dv b xs=dv b ys→xs=ys:=by
 intro xs
 induction xs with
 | nil =>
  intro ys _ hy e;exact((zeT (by omega) hy).1 e.symm).symm
 | cons x xs ih =>
  intro ys hx hy e
  cases ys with
  | nil=>exact absurd ((zeT (by omega) hx).1 e) (by simp)
  | cons y ys =>
   simp only [zbR]at e;have h1:=hx.1 x (by simp);have h2:=hy.1 y (by simp);have hm:(x+b*dv b xs) % b=(y+b*dv b ys) % b:=by rw [e]
   simp only [Int.add_mul_emod_self_left]at hm;rw [Int.emod_eq_of_lt h1.1 h1.2,Int.emod_eq_of_lt h2.1 h2.2]at hm;subst hm;have hbx:b*dv b xs=b*dv b ys:=by omega
   have hd:dv b xs=dv b ys:=Int.eq_of_mul_eq_mul_left (by omega) hbx;have cx:Can b xs:=⟨fun d hd=>hx.1 d (by simp [hd]),fun h=>hx.2 (by cases xs with|nil=>simp at h|cons a l=>simpa [List.getLast?_cons_cons] using h)⟩;have cy:Can b ys:=⟨fun d hd=>hy.1 d (by simp [hd]),fun h=>hy.2 (by cases ys with|nil=>simp at h|cons a l=>simpa [List.getLast?_cons_cons] using h)⟩;rw [ih cx cy hd]
theorem Can.nil (b:Int):Can b []:=⟨Dig.nil b,by simp⟩
end
section
open Go.RowKit
theorem zkQ {w:O} {b:Nat} {o:Obj} (h:w.heap[b]?=Y o):b<w.heap.size:=(Array.getElem?_eq_some_iff.1 h).1
def Ext (w w':O):Prop:=Below w.heap.size w w'
theorem Ext.refl (w:O):Ext w w:=Below.refl _ w
theorem Ext.trans {a b c:O} (h:Ext a b) (k:Ext b c):Ext a c:=Below.trans h (Below.mono k h.size)
theorem Ext.alloc {a b:O} (h:Ext a b) (o:Obj):Ext a (b.alloc o):=Below.alloc h h.size o
theorem Ext.drewN {a b:O} (h:Ext a b) (n:Nat):Ext a (b.drewN n):=below_drewN h n
theorem Ext.drew {a b:O} (h:Ext a b):Ext a b.drew:=Below.drew h
theorem Ext.set {a b:O} (h:Ext a b) {p:S} (hp:a.heap.size≤p.block) (u:X):Ext a (b.setCell p u):=Below.setCell h hp u
theorem hd9 {p:Prop} (h:p):Hid p:=h
theorem wZ (w:O) (o:Obj):(w.alloc o).heap.size=w.heap.size+1:=World.size_alloc w o
theorem lM {α:Type _} {l:List α} {i:Nat} {a:α} (h:l[i]?=Y a):a∈l:=List.mem_of_getElem? h
theorem lS {α:Type _} {l:List α} {i:Nat} {a:α}:l[i]?=Y a ↔ ∃h:i<l.length,l[i]=a:=List.getElem?_eq_some_iff
theorem lP {α β:Type _} {f:α→β} {l:List α} {i:Nat}:(l.map f)[i]?=l[i]?.map f:=List.getElem?_map ..
theorem lL {α β:Type _} {f:α→β} {l:List α}:(l.map f).length=l.length:=List.length_map ..
theorem lT {α:Type _} {l:List α} {n:Nat} (h:l.length≤n):l.take n=l:=List.take_of_length_le h
theorem eR (w:O):Ext w w:=Ext.refl w
theorem gX {α:Sort _} (a:α):∃x,a=x:=⟨a,rfl⟩
theorem nE (n:Nat):n≤n:=Nat.le_refl n
theorem nT {n m k:Nat} (h:n≤m) (h':m≤k):n≤k:=Nat.le_trans h h'
theorem gE {α:Type _} {l:List α} {i:Nat} (h:i<l.length):l[i]?=Y l[i]:=List.getElem?_eq_getElem h
theorem gD {α:Type _} {l:List α} {i:Nat} {a:α}:l.getD i a=l[i]?.getD a:=List.getD_eq_getElem?_getD
theorem aN (w:O) (o:Obj):(w.alloc o).heap[w.heap.size]?=Y o:=heap_alloc_new w o
theorem bS (w:O) (a:S) (u:X) (k:Nat) (h:k≠a.block):(w.setCell a u).heap[k]?=w.heap[k]?:=Below.heap_setCell w a u k h
theorem iW (n:Int) (h : -9223372036854775808≤n∧n≤9223372036854775807):IntKind.i64.wrap n=n:=IntWalk.i64_in n h
theorem mC {α:Type _} (y:α) {a:α} {l:List α} (h:a∈l):a∈y::l:=List.mem_cons_of_mem y h
theorem lA {α:Type _} {xs ys:List α}:(xs++ys).length=xs.length+ys.length:=List.length_append
theorem cM {P:Program} {f:FuncId} {args:Array X} {w:O} {R R':Ending→O→Prop} (h:Calls P f args w R) (hr:∀e w',R e w'→R' e w'):Calls P f args w R':=Calls.mono h hr
theorem bR {P:Program} {fn:Func} {R:Ending→O→Prop} {a:Act} {w:O} {v:X} (hr:(results fn a.tmps).run P w = .ok v w) (hd:a.defers=[]) (hR:R (.returned v) w):bodyPost P fn R .ret a w:=bodyPost_ret hr hd hR
class StQ (c:O) (b:outParam O):Prop where
 up:∀a:O,Ext a b→Ext a c
instance stA (b:O) (o:Obj):StQ (b.alloc o) b:=⟨fun _ h=>h.alloc o⟩
instance stD (b:O):StQ b.drew b:=⟨fun _ h=>h.drew⟩
instance stN (b:O) (n:Nat):StQ (b.drewN n) b:=⟨fun _ h=>h.drewN n⟩
theorem eX {a b c:O} [s:StQ c b] (h:Ext a b):Ext a c:=s.up a h
theorem eT {a b c:O} (h:Ext a b) (k:Ext b c:=by with_reducible assumption):Ext a c:=h.trans k
theorem eS {a b:O} {p:S} {u:X} (h:Ext a b) (hp:a.heap.size≤p.block:=by(dsimp only;omega)):Ext a (b.setCell p u):=h.set hp u
theorem eA {w w1:O} (h:Ext w w1:=by with_reducible repeat(first|assumption|exact eR _|refine eX ?_|refine eT ?_|refine eS ?_)):Ext w w1:=h
theorem gA {α:Type _} {l:List α} {i:Nat}:l.toArray[i]?=l[i]?:=List.getElem?_toArray
theorem gS {α:Type _} {a:α} {l:List α} {i:Nat}:(a::l)[i+1]?=l[i]?:=List.getElem?_cons_succ
theorem gZ {α:Type _} {a:α} {l:List α}:(a::l)[0]?=Y a:=List.getElem?_cons_zero
theorem sA {α:Type _} {l:List α} {i:Nat} {a:α}:l.toArray.setIfInBounds i a=(l.set i a).toArray:=List.setIfInBounds_toArray ..
theorem sZ {α:Type _} {l:List α} {a b:α}:(a::l).set 0 b=b::l:=List.set_cons_zero
theorem sS {α:Type _} {l:List α} {n:Nat} {a b:α}:(a::l).set (n+1) b=a::l.set n b:=List.set_cons_succ
theorem Ext.thenB {a b c:O} {n:Nat} (h:Ext a b) (k:Below n b c) (hn:a.heap.size≤n):Ext a c:=Below.trans h (Below.mono k hn)
theorem Ext.size {a b:O} (h:Ext a b):a.heap.size≤b.heap.size:=Below.size h
theorem Ext.block {a b:O} (h:Ext a b) {k:Nat} (hk:k<a.heap.size):b.heap[k]?=a.heap[k]?:=Below.block h k hk
theorem qhA (w:O) (o:Obj) (k:Nat) (h:k=w.heap.size):(w.alloc o).heap[k]?=Y o:=by subst h;exact heap_alloc_new w o
theorem Ext.cellS {a b:O} (h:Ext a b) {p:S} {v:X} (hp:a.cell? p=Y v):b.cell? p=Y v:=by rw [Below.cell h (World.block_lt_of_cell? a p hp)];exact hp
theorem Ext.heapS {a b:O} (h:Ext a b) {k:Nat} {o:Obj} (hk:a.heap[k]?=Y o):b.heap[k]?=Y o:=by rw [h.block (zkQ hk)];exact hk
theorem Ext.of_below {a b:O} {n:Nat} (h:Below n a b) (hn:a.heap.size≤n):Ext a b:=h.mono hn
theorem Ext.below {a b:O} {n:Nat} (h:Ext a b) (hn:n≤a.heap.size):Below n a b:=Below.mono h hn
theorem Ext.cells {W w1:O} (hb:Ext W w1):(∀b o,b<W.heap.size→w1.cell? ⟨b,o,M⟩=W.cell? ⟨b,o,M⟩)∧(∀b o,b<W.heap.size→w1.frozen? ⟨b,o,M⟩=W.frozen? ⟨b,o,M⟩):=
 ⟨fun b o h=>Below.cell hb (p:=⟨b,o,M⟩) h,fun b o h=>Below.frozen hb (p:=⟨b,o,M⟩) h⟩
theorem zaa {w:O} {b:Nat} {o:Obj} (h:w.heap[b]?=Y o):b<w.heap.size:=(Array.getElem?_eq_some_iff.1 h).1
def KeepT (T:TypeId) (w w':O):Prop:=∀(b:Nat) (cs:Array X) (fr:Nat×Nat),w.heap[b]?=Y (Obj.cells cs T fr)→w'.heap[b]?=Y (Obj.cells cs T fr)
theorem KeepT.refl (T:TypeId) (w:O):KeepT T w w:=fun _ _ _ h=>h
theorem KeepT.trans {T:TypeId} {a b c:O} (h:KeepT T a b) (k:KeepT T b c):KeepT T a c:=fun x cs fr hx=>k x cs fr (h x cs fr hx)
theorem KeepT.ext {T:TypeId} {a b c:O} (h:KeepT T a b) (k:Ext b c):KeepT T a c:=
 fun x cs fr hx=>by have:=h x cs fr hx;rw [k.block (zaa this)];exact this
theorem Ext.keep {T:TypeId} {a b:O} (h:Ext a b):KeepT T a b:=(KeepT.refl T a).ext h
theorem KeepT.alloc {T:TypeId} {a b:O} (h:KeepT T a b) (o:Obj):KeepT T a (b.alloc o):=h.ext ((Ext.refl b).alloc o)
theorem KeepT.set {T T':TypeId} {a b:O} (h:KeepT T a b) {p:S} {cs':Array X} {fr':Nat×Nat} (hp:b.heap[p.block]?=Y (H cs' T' fr')) (hT:T'≠T) (u:X):KeepT T a (b.setCell p u):=
 fun x cs fr hx=>by
  have h1:=h x cs fr hx;rw [Below.heap_setCell _ _ _ _ (by intro e;subst e;rw [h1]at hp;cases hp;exact hT rfl)];exact h1
theorem KeepT.setAt {T:TypeId} {a b:O} (h:KeepT T a b) {p:S} (hp:a.heap.size≤p.block) (u:X):KeepT T a (b.setCell p u):=
 fun x cs fr hx=>by
  have h1:=h x cs fr hx;have:=zaa hx;rw [Below.heap_setCell _ _ _ _ (by omega)];exact h1
def Rd (w:O) (T:TypeId) (k:Nat) (v:X) (n:Nat) (xs:List X):Prop:=
 xs.length=n*k∧∃a c,v=Z a n c∧n≤c∧c≤maxLen ∧
  ((n=0∧(a=M→c=0))∨∃b o cs fr,a=Y ⟨b,o,M⟩∧w.heap[b]?=Y (H cs T fr)∧∀(i:Nat) (x:X),xs[i]?=Y x→cs[o+i]?=Y x)
theorem Rd.keep {w w':O} {T:TypeId} {k:Nat} {v:X} {n:Nat} {xs:List X} (h:Rd w T k v n xs) (hk:KeepT T w w'):Rd w' T k v n xs:=by
 obtain⟨hl,a,c,rfl,h1,h2,h3⟩:=h;refine⟨hl,a,c,rfl,h1,h2,?_⟩
 rcases h3 with h3|⟨b,o,cs,fr,rfl,hb,hx⟩
 ·exact .inl h3
 ·exact .inr ⟨b,o,cs,fr,rfl,hk _ _ _ hb,hx⟩
theorem Rd.ext {w w':O} {T:TypeId} {k:Nat} {v:X} {n:Nat} {xs:List X} (h:Rd w T k v n xs) (hk:Ext w w'):Rd w' T k v n xs:=h.keep hk.keep
theorem Rd.form {w:O} {T:TypeId} {k:Nat} {v:X} {n:Nat} {xs:List X} (h:Rd w T k v n xs):∃a c,v=Z a n c:=by
 obtain⟨_,a,c,rfl,_⟩:=h;exact⟨a,c,rfl⟩
theorem Rd.eqn {w:O} {T:TypeId} {k:Nat} {a:Option S} {m c n:Nat} {xs:List X} (h:Rd w T k (Z a m c) n xs):m=n:=by
 obtain⟨_,a,c,e,_⟩:=h;cases e;rfl
theorem Rd.le {w:O} {T:TypeId} {k:Nat} {a:Option S} {m c n:Nat} {xs:List X} (h:Rd w T k (Z a m c) n xs):n≤c∧c≤maxLen:=by
 obtain⟨_,a,c,e,h1,h2,_⟩:=h;cases e;exact⟨h1,h2⟩
theorem Rd.open {w:O} {T:TypeId} {k:Nat} {a:Option S} {m c n:Nat} {xs:List X} (h:Rd w T k (Z a m c) n xs) (hn:0<n) :
  ∃b o,a=Y ⟨b,o,M⟩∧b<w.heap.size∧(∃cs fr,w.heap[b]?=Y (H cs T fr))∧∀(i:Nat) (x:X),xs[i]?=Y x→w.cell? ⟨b,o+i,M⟩=Y x:=by
 obtain⟨_,a,c,e,_,_,h3⟩:=h
 cases e
 rcases h3 with h3|⟨b,o,cs,fr,rfl,hb,hx⟩
 ·omega
 ·exact⟨b,o,rfl,zaa hb,⟨cs,fr,hb⟩,fun i x h=>by simp [World.cell?,hb,hx i x h]⟩
theorem Rd.nil (w:O) (T:TypeId) (k:Nat):Rd w T k (Z M 0 0) 0 []:=⟨by simp,M,0,rfl,by omega,by unfold maxLen;omega,.inl ⟨rfl,fun _=>rfl⟩⟩
theorem Rd.of_own {w:O} {base:Nat} {T:TypeId} {k:Nat} {v:X} {n:Nat} {xs:List X} (h:w.ownsRow base T k v n xs):Rd w T k v n xs:=by
 obtain⟨hl,h2⟩:=h;refine⟨hl,?_⟩
 rcases h2 with ⟨rfl,rfl⟩|⟨g,cap,cur,rfl,hg,hh,hn,hc,hs,ht⟩
 ·exact⟨M,0,rfl,by omega,by unfold maxLen;omega,.inl ⟨rfl,fun _=>rfl⟩⟩
 ·refine⟨_,_,rfl,hn,hc,.inr ⟨g,0,cur,_,rfl,hh,fun i x hx=>?_⟩⟩
  rw [←ht]at hx;rw [Nat.zero_add,←Array.getElem?_toList];rw [List.getElem?_take]at hx
  split at hx
  ·exact hx
  ·cases hx
theorem zcA {w:O} {base:Nat} {e:TypeId} {size:Nat} {v:X} {n:Nat} {xs:List X} (h:w.ownsRow base e size v n xs):∃a c,v=Z a n c:=by
 rcases h.2 with ⟨rfl,rfl⟩|⟨g,cap,cur,rfl,_⟩
 ·exact⟨_,_,rfl⟩
 ·exact⟨_,_,rfl⟩
theorem zhg {w:O} {base:Nat} {e:TypeId} {size:Nat} {a:Option S} {c:Nat} {n:Nat} {xs:List X} (h:w.ownsRow base e size (Z a n c) n xs) (hn:0<n):∃g,a=Y ⟨g,0,M⟩∧base≤g:=by
 rcases h.2 with ⟨h1,rfl⟩|⟨g,cap,cur,hv,hg,_⟩
 ·omega
 ·cases hv;exact⟨g,rfl,hg⟩
def lits (k:IntKind) (xs:List Int):List X:=xs.map (Value.int k)
@[simp] theorem zbG (k : IntKind) (xs : List Int) : (lits k xs).length = xs.length := by simp [lits]
theorem zkX (k:IntKind) (xs:List Int) (i:Nat) (x:Int):(lits k xs).set i (G k x)=lits k (xs.set i x):=by simp [lits,List.map_set]
theorem zbF (k:IntKind) (xs ys:List Int):lits k xs++lits k ys=lits k (xs++ys):=by simp [lits]
theorem zkV (k:IntKind) {xs:List Int} {i:Nat} {x:Int} (h:xs[i]?=Y x):(lits k xs)[i]?=Y (G k x):=by simp [lits,h]
theorem zkW (k:IntKind) (x:Int):lits k [x]=[G k x]:=rfl
def Own (T:TypeId) (w:O) (base:Nat) (v:X) (xs:List Int):Prop:=w.ownsRow base T 1 v xs.length (lits N xs)
def Ints (T:TypeId) (w:O) (v:X) (xs:List Int):Prop:=Rd w T 1 v xs.length (lits N xs)
section
variable {T:TypeId} {w:O} {base:Nat} {v:X} {xs:List Int} {a:Option S} {n c g:Nat}
theorem Own.ints (h:Own T w base v xs):Ints T w v xs:=Rd.of_own h
theorem Own.form (h:Own T w base v xs):∃a c,v=Z a xs.length c:=zcA h
theorem Own.len (h:Own T w base (Z a n c) xs):n=xs.length:=by obtain⟨a,c',h1⟩:=zcA h;cases h1;rfl
theorem Own.stored (h:Own T w base (Z (Y ⟨g,0,M⟩) n c) xs) (i:Nat) (x:Int) :
  Own T (w.setCell ⟨g,i,M⟩ (G N x)) base (Z (Y ⟨g,0,M⟩) n c) (xs.set i x):=by
 have hn:=h.len;subst hn;have:=(World.ownsRow.stored h i (G N x)).1;rw [zkX]at this
 simpa [Own] using this
theorem Own.cell (h:Own T w base (Z (Y ⟨g,0,M⟩) n c) xs) {i:Nat} {x:Int} (hx:xs[i]?=Y x):w.cell? ⟨g,i,M⟩=Y (G N x):=by
 have hn:=h.len;subst hn;have hi:i<xs.length:=(lS.1 hx).1;rw [World.ownsRow.cellAt h i (by omega)];simp [lits,hx]
theorem Own.frozen (h:Own T w base (Z (Y ⟨g,0,M⟩) n c) xs) (i:Nat):w.frozen? ⟨g,i,M⟩=false:=by
 have hn:=h.len;subst hn;exact World.ownsRow.frozenAt h i
theorem Own.blk (h:Own T w base (Z a n c) xs) (hn:0<xs.length):∃g,a=Y ⟨g,0,M⟩∧base≤g∧g<w.heap.size:=by
 have hn':=h.len;subst hn';obtain⟨g,rfl,hg⟩:=zhg h hn;exact⟨g,rfl,hg,(World.ownsRow.lt h g rfl).2⟩
theorem Own.pop {x:Int} (h:Own T w base (Z (.some ⟨g,0,M⟩) (n+1) c) (xs++[x])):Own T w base (Z (.some ⟨g,0,M⟩) n c) xs:=by
 have hn:=h.len;simp at hn;subst hn;refine ownsRow_pop (last:=lits N [x]) (by simp) ?_;rw [zbF]
 simpa [Own] using h
theorem Own.setOther (h:Own T w base v xs) {p:S} (hp:v.ownBlock ≠ .some p.block) (u:X):Own T (w.setCell p u) base v xs:=
 World.ownsRow.kept h (row:=.some p.block) ⟨rfl,rfl,rfl,by simp [World.setCell],fun k _ hne=>Below.heap_setCell _ _ _ _ (by intro e;exact hne (by rw [e]))⟩ (.inr hp)
theorem Own.alloc (h:Own T w base v xs) (o:Obj):Own T (w.alloc o) base v xs:=World.ownsRow.alloc h o
theorem Own.keep {w':O} (h:Own T w base v xs) (hk:KeepT T w w'):Own T w' base v xs:=by
 obtain⟨hl,h2⟩:=h;refine⟨hl,?_⟩
 rcases h2 with h2|⟨g,cap,cur,hv,hg,hh,r⟩
 ·exact .inl h2
 ·exact .inr ⟨g,cap,cur,hv,hg,hk _ _ _ hh,r⟩
theorem Own.nil (T:TypeId) (w:O) (base:Nat):Own T w base (Z M 0 0) []:=World.ownsRow_nil w base T 1
theorem Own.mono {b':Nat} (h:Own T w base v xs) (hb:b'≤base):Own T w b' v xs:=by
 obtain⟨hl,h2⟩:=h;refine⟨hl,?_⟩
 rcases h2 with h2|⟨g,cap,cur,hv,hg,r⟩
 ·exact .inl h2
 ·exact .inr ⟨g,cap,cur,hv,by omega,r⟩
theorem Ints.ext {w':O} (h:Ints T w v xs) (hk:Ext w w'):Ints T w' v xs:=Rd.ext h hk
theorem Ints.keep {w':O} (h:Ints T w v xs) (hk:KeepT T w w'):Ints T w' v xs:=Rd.keep h hk
theorem Ints.form (h:Ints T w v xs):∃a c,v=Z a xs.length c:=Rd.form h
theorem Ints.len (h:Ints T w (Z a n c) xs):n=xs.length:=Rd.eqn h
theorem Ints.le (h:Ints T w (Z a n c) xs):xs.length≤c∧c≤maxLen:=Rd.le h
theorem Ints.open (h:Ints T w (Z a n c) xs) (hn:0<xs.length) :
  ∃b o,a = .some ⟨b,o,M⟩∧b<w.heap.size∧∀(i:Nat) (x:Int),xs[i]? = .some x→w.cell? ⟨b,o+i,M⟩ = .some (G N x):=by
 obtain⟨b,o,rfl,hb,_,hx⟩:=Rd.open h hn;exact⟨b,o,rfl,hb,fun i x h=>hx i _ (zkV _ h)⟩
theorem Ints.nil (T:TypeId) (w:O):Ints T w (Z M 0 0) []:=Rd.nil w T 1
end
theorem zab {α:Type} (xs:List α) (i:Nat) (x:α) (h:xs[i]?=Y x):xs.take (i+1)=xs.take i++[x]:=by
 rw [List.take_add_one,h];rfl
theorem zd3 {α:Type} (ys xs:List α) (x y:α) (h:xs[ys.length]?=Y x):(ys++xs.drop ys.length).set ys.length y=(ys++[y])++xs.drop (ys.length+1):=by
 have hi:=(lS.1 h).1;rw [List.set_append_right _ _ (Nat.le_refl _),Nat.sub_self,List.drop_eq_getElem_cons hi,List.set_cons_zero];simp
theorem zdF {α:Type} (ys xs:List α) (x:α) (h:xs[ys.length]?=Y x):(ys++xs.drop ys.length)[ys.length]?=Y x:=by
 rw [List.getElem?_append_right (Nat.le_refl _),Nat.sub_self,List.getElem?_drop];simpa using h
theorem za7 (b:Int) (xs:List Int) (i:Nat) (x:Int) (h:xs[i]?=Y x):dv b (xs.take (i+1))=dv b (xs.take i)+b ^ i*x:=by
 have hi:=(lS.1 h).1;rw [zab _ _ _ h,zcR,List.length_take,Nat.min_eq_left (by omega)]
def Else (T:TypeId) (w w':O):Prop:=∀(k:Nat) (o:Obj),w.heap[k]?=Y o→(∀cs fr,o ≠ H cs T fr)→w'.heap[k]?=Y o
theorem Else.get {T T':TypeId} {w w':O} (h:Else T w w') {k:Nat} {cs:Array X} {fr:Nat×Nat} (hk:w.heap[k]?=Y (H cs T' fr)) (hT:T'≠T):w'.heap[k]?=Y (H cs T' fr):=
 h k _ hk (fun cs fr e=>by cases e;exact hT rfl)
theorem Else.keep {T T':TypeId} {w w':O} (h:Else T w w') (hT:T'≠T):KeepT T' w w':=fun _ _ _ hk=>h.get hk hT
theorem app1 {P:Program} {T t:TypeId} {w:O} {base:Nat} {v:X} {xs:List Int} {y:Int} {ops:Array Oper} {rest:List Oper} {o:Oper} {a:Act} {Q:Exit→Act→O→Prop}
  (hinfo:(P.info? T).map (fun i=>(i.zero,i.size,i.bytes))=Y (Y (G N 0),1,8)) (ht:P.underlying t=Y (.slice T)) (hgd:o.guard=M) (s x:Operand)
  (ho:o.op = .call { callee:=.builtin .append,args:=#[s,x],argTypes:=#[t,t] }) (hs:a.eval s=v) (hown:Own T w base v xs)
  (hx:a.eval x=Z (Y ⟨w.heap.size,0,M⟩) 1 1) (hlen:xs.length≤1000000000000) (hbase:base≤w.heap.size)
  (h:∀v' w',Own T w' base v' (xs++[y])→Below base w w'→Else T w w'→wpList P ops Q rest (a.put o.dst v') w'):wpList P ops Q (o::rest) a (w.alloc (H #[G N y] T)):=by
 obtain⟨i,hi,hz0,hz1,hz2⟩:=info_parts hinfo
 refine wpList_append_own _ hgd s x t ho base T i (G N 0) 1 8 ht hi hz0 hz1 hz2 rfl (by decide) v xs.length (lits N xs) hs (World.ownsRow.alloc hown _) ⟨w.heap.size,0,M⟩ 1 1 [G N y] hx rfl
  (cell_one_new _ _ _) (by simp [Value.oneCell']) (by unfold maxLen;omega) (by omega) (by simp;omega) ?_
 intro v' w' hown' hgrow _;refine h v' w' ?_ ?_ ?_
 ·unfold Own
  rw [←zbF,zkW,List.length_append];exact hown'
 ·have hb:Below base w (w.alloc (H #[G N y] T)):=(Below.refl _ _).alloc hbase _
  refine hb.grown hgrow (by simp;omega) (fun k hk=>?_);exact(World.ownsRow.lt hown k hk).1
 ·intro k ob hk hne
  have hlt:=zaa hk;rw [hgrow.block k (by simp;omega) ?_,Below.heap_alloc _ _ _ hlt]
  ·exact hk
  ·intro e
   rcases hown.2 with ⟨h1,_⟩|⟨g,cap,cur,hv,_,hh,_⟩
   ·rw [h1]at e;cases e
   ·rw [hv]at e
    cases e
    rw [hh]at hk
    cases hk
    exact hne _ _ rfl
theorem Else.refl (T:TypeId) (w:O):Else T w w:=fun _ _ h _=>h
theorem Else.trans {T:TypeId} {a b c:O} (h:Else T a b) (k:Else T b c):Else T a c:=fun x o hx hne=>k x o (h x o hx hne) hne
theorem Else.alloc {T:TypeId} {a b:O} (h:Else T a b) (o:Obj):Else T a (b.alloc o):=fun x o' hx hne=>by
 have h1:=h x o' hx hne;rw [Below.heap_alloc _ _ _ (zaa h1)];exact h1
theorem Else.setNew {T:TypeId} {a b:O} (h:Else T a b) {p:S} (hp:a.heap.size≤p.block) (u:X):Else T a (b.setCell p u):=fun x o' hx hne=>by
 have:=zaa hx;rw [Below.heap_setCell _ _ _ _ (by omega)];exact h x o' hx hne
theorem Else.setRow {T:TypeId} {a b:O} {base g n c i:Nat} {xs:List Int} (h:Else T a b) (hr:Own T b base (Z (Y ⟨g,0,M⟩) n c) xs) (u:X):Else T a (b.setCell ⟨g,i,M⟩ u):=fun x o' hx hne=>by
 have h1:=h x o' hx hne;rw [Below.heap_setCell _ _ _ _ ?_]
 ·exact h1
 ·rintro rfl
  rcases hr.2 with ⟨h2,_⟩|⟨g',cap,cur,hv,_,hh,_⟩
  ·cases h2
  ·cases hv;rw [hh]at h1;cases h1;exact hne _ _ rfl
theorem Else.ext {T:TypeId} {a b c:O} (h:Else T a b) (k:Ext b c):Else T a c:=fun x o' hx hne=>k.heapS (h x o' hx hne)
theorem Own.ne_block {T T':TypeId} {w:O} {base:Nat} {v:X} {xs:List Int} (h:Own T w base v xs) {k:Nat} {cs:Array X} {fr:Nat×Nat} (hk:w.heap[k]?=Y (H cs T' fr)) (hT:T'≠T):v.ownBlock≠Y k:=by
 intro e
 rcases h.2 with ⟨h1,_⟩|⟨g,cap,cur,hv,_,hh,_⟩
 ·rw [h1]at e;cases e
 ·rw [hv]at e;cases e;rw [hh]at hk;cases hk;exact hT rfl
theorem zid {α:Type} (xs:List α):xs=[]∨∃ys y,xs=ys++[y]:=by
 rcases List.eq_nil_or_concat xs with h|⟨ys,y,h⟩
 ·exact .inl h
 ·exact .inr ⟨ys,y,by simpa using h⟩
theorem zhm {P:Program} {T t:TypeId} (ty:TypeId) {w:O} {base:Nat} {v sl:X} {xs ys:List Int}
  (hinfo:(P.info? T).map (fun i=>(i.zero,i.size,i.bytes))=Y (Y (G N 0),1,8)) (ht:P.underlying t=Y (.slice T)) (hown:Own T w base v xs)
  (hsrc:Ints T w sl ys) (hlen:xs.length+ys.length≤1000000000000) (hbase:base≤w.heap.size) :
  ∃v' w',(Builtin.append_ #[t,t] ty #[v,sl]).run P w = .ok v' w'∧Own T w' base v' (xs++ys)∧Below base w w'∧Else T w w':=by
 obtain⟨i,hi,hz0,hz1,hz2⟩:=info_parts hinfo;obtain⟨ad,c,rfl⟩:=hsrc.form
 rcases ad with _|ad
 ·have h0:ys=[]:=by
   by_cases h:0<ys.length
   ·obtain⟨b,o,e,_⟩:=hsrc.open h;cases e
   ·exact List.eq_nil_of_length_eq_zero (by omega)
  subst h0
  have hc:c=0:=by
   obtain⟨_,a,c,e,_,_,h3⟩:=hsrc
   cases e
   rcases h3 with h3|⟨b,o,cs,fr,e,_⟩
   ·exact h3.2 rfl
   ·cases e
  subst hc;exact⟨v,w,run_append_owned_none (P:=P) (w:=w) base t ty T i 1 ht hi v xs.length (lits N xs) hown,by simpa using hown,Below.refl _ _,fun _ _ hk _=>hk⟩
 ·have hnews:∀(j:Nat) u,(lits N ys)[j]?=Y u→w.cell? (ad.add j)=Y u:=by
   intro j u hj;have hlt:0<ys.length:=by have:=(lS.1 hj).1;simp at this;omega
   obtain⟨b',o',e,hb,hx9⟩:=hsrc.open hlt
   cases e
   simp only [lits,lP,Option.map_eq_some_iff]at hj;obtain⟨x,hxj,rfl⟩:=hj;have:=hx9 j x hxj;unfold Addr.add
   split
   ·subst j;simpa using this
   ·exact this
  obtain⟨v',w',hrun,hown',hgrow,_⟩:=run_append_own (P:=P) w base t ty T i (G N 0) 1 8 ht hi hz0 hz1 hz2 rfl (by decide) v xs.length (lits N xs) hown ad ys.length c (lits N ys) (by simp)
   hnews (ints_oneCell N ys) (by unfold maxLen;omega) (by omega) hbase
  refine⟨v',w',hrun,?_,?_,?_⟩
  ·unfold Own
   rw [←zbF,List.length_append];exact hown'
  ·exact(Below.refl _ w).grown hgrow hbase (fun k hk=>(World.ownsRow.lt hown k hk).1)
  ·intro k ob hk hne
   have hlt:=zaa hk;rw [hgrow.block k hlt ?_]
   ·exact hk
   ·intro e
    rcases hown.2 with ⟨h1,_⟩|⟨g,cap,cur,hv,_,hh,_⟩
    ·rw [h1]at e;cases e
    ·rw [hv]at e
     cases e
     rw [hh]at hk
     cases hk
     exact hne _ _ rfl
theorem appN {P:Program} {T t:TypeId} {w:O} {base:Nat} {v sl:X} {xs ys:List Int} {ops:Array Oper} {rest:List Oper} {o:Oper} {a:Act} {Q:Exit→Act→O→Prop}
  (hinfo:(P.info? T).map (fun i=>(i.zero,i.size,i.bytes))=Y (Y (G N 0),1,8)) (ht:P.underlying t=Y (.slice T)) (hgd:o.guard=M) (s x:Operand)
  (ho:o.op = .call { callee:=.builtin .append,args:=#[s,x],argTypes:=#[t,t] }) (hs:a.eval s=v) (hown:Own T w base v xs)
  (hx:a.eval x=sl) (hsrc:Ints T w sl ys) (hlen:xs.length+ys.length≤1000000000000) (hbase:base≤w.heap.size)
  (h:∀v' w',Own T w' base v' (xs++ys)→Below base w w'→Else T w w'→wpList P ops Q rest (a.put o.dst v') w'):wpList P ops Q (o::rest) a w:=by
 obtain⟨v',w',hrun,h1,h2,h3⟩:=zhm (P:=P) o.type hinfo ht hown hsrc hlen hbase;refine wpList_plain hgd fun K hK=>?_
 unfold Oper.wp;simp [execOp,ho,resolve,invoke,builtin,hs,hx,hrun,Result.andThen];exact hK _ _ (h v' w' h1 h2 h3)
theorem zlU {F:Fence} {nF:Nat} {P:Program} {T t:TypeId} {w:O} {base:Nat} {v sl:X} {xs ys:List Int} {ops:Array Oper} {rest:List Oper} {o:Oper} {a:Act} {Q:Exit→Act→O→Prop}
  (hinfo:(P.info? T).map (fun i=>(i.zero,i.size,i.bytes))=Y (Y (G N 0),1,8)) (ht:P.underlying t=Y (.slice T)) (hgd:o.guard=M) (s x:Operand)
  (ho:o.op = .call { callee:=.builtin .append,args:=#[s,x],argTypes:=#[t,t] }) (hs:a.eval s=v) (hown:Own T w base v xs)
  (hx:a.eval x=sl) (hsrc:Ints T w sl ys) (hlen:xs.length+ys.length≤1000000000000) (hbase:base≤w.heap.size)
  (h:∀v' w',Own T w' base v' (xs++ys)→Below base w w'→Else T w w'→wpListIn F nF P ops Q rest (a.put o.dst v') w'):wpListIn F nF P ops Q (o::rest) a w:=by
 obtain⟨v',w',hrun,h1,h2,h3⟩:=zhm (P:=P) o.type hinfo ht hown hsrc hlen hbase;refine wpListIn_plain hgd fun K hK=>?_
 unfold Oper.wpIn;refine⟨?_,?_⟩
 ·simp [Oper.about,ho,resolve,Target.leads,Sem.run_pure]
 ·rw [Oper.semAt_plain F _ _ (by rw [ho];intro c hc';cases hc')]
  simp [execOp,ho,resolve,invoke,builtin,hs,hx,hrun,Result.andThen];exact hK _ _ (h v' w' h1 h2 h3)
theorem zaE {n:Nat} {W w1:O} (hb:Below n W w1):(∀b o,b<n→w1.cell? ⟨b,o,M⟩=W.cell? ⟨b,o,M⟩)∧(∀b o,b<n→w1.frozen? ⟨b,o,M⟩=W.frozen? ⟨b,o,M⟩):=
 ⟨fun b o h=>Below.cell hb (p:=⟨b,o,M⟩) h,fun b o h=>Below.frozen hb (p:=⟨b,o,M⟩) h⟩
theorem zaZ (n:Nat):(madeCells (Value.cells (G N 0)) (n*1)).toList=lits N (List.replicate n 0):=by
 rw [Nat.mul_one];show (madeCells #[G N 0] n).toList=_
 rw [toList_madeCells_one];simp [lits]
theorem mk0 {P:Program} {T t:TypeId} {w:O} {n:Nat} {ops:Array Oper} {rest:List Oper} {o:Oper} {a:Act} {Q:Exit→Act→O→Prop}
  (hinfo:(P.info? T).map (fun i=>(i.zero,i.size,i.bytes))=Y (Y (G N 0),1,8)) (ht:P.underlying t=Y (.slice T)) (hgd:o.guard=M) (l c:Operand)
  (ho:o.op = .makeSlice t l c) (L:Int) (hl:a.eval l=G N L) (hc:a.eval c=G N L) (hL:L=(n:Int)) (hn:n≤1000000000000)
  (h:∀w',Own T w' w.heap.size (Z (Y ⟨w.heap.size,0,M⟩) n n) (List.replicate n 0)→Ext w w'→w.heap.size<w'.heap.size→wpList P ops Q rest (a.put o.dst (Z (Y ⟨w.heap.size,0,M⟩) n n)) w'):wpList P ops Q (o::rest) a w:=by
 obtain⟨i,hi,hz0,hz1,hz2⟩:=info_parts hinfo;refine wpList_make_full w hgd l c t ho w.heap.size T i (G N 0) 1 ht hi hz0 hz1 N N L L n hl hc hL hL (by rw [hz2];omega) (by unfold maxLen;omega) (Nat.le_refl _) ?_;intro w' hown hgrow
 have hown2:Own T w' w.heap.size (Z (Y ⟨w.heap.size,0,M⟩) n n) (List.replicate n 0):=by
  unfold Own;rw [List.length_replicate,←zaZ];exact hown
 refine h w' hown2 ((Below.refl _ _).grown hgrow (Nat.le_refl _) (fun k hk=>by cases hk)) ?_;exact(World.ownsRow.lt hown2 _ rfl).2
theorem mkA {P:Program} {T t:TypeId} {w:O} {n:Nat} {ops:Array Oper} {rest:List Oper} {o:Oper} {a:Act} {Q:Exit→Act→O→Prop}
  (hinfo:(P.info? T).map (fun i=>(i.zero,i.size,i.bytes))=Y (Y (G N 0),1,8)) (ht:P.underlying t=Y (.slice T)) (hgd:o.guard=M) (l c:Operand)
  (ho:o.op = .makeSlice t l c) (L:Int) (hl:a.eval l=G N L) (hc:a.eval c=G N L) (hL:L=(n:Int)) (hn:n≤1000000000000)
  (h:∀cs,Own T (w.alloc (H cs T)) w.heap.size (Z (Y ⟨w.heap.size,0,M⟩) n n) (List.replicate n 0)→wpList P ops Q rest (a.put o.dst (Z (Y ⟨w.heap.size,0,M⟩) n n)) (w.alloc (H cs T))):wpList P ops Q (o::rest) a w:=by
 obtain⟨i,hi,hz0,hz1,hz2⟩:=info_parts hinfo;have hr:=run_make (P:=P) w t T i (G N 0) ht hi hz0 N N n n (by omega) (by omega) (by rw [hz2];omega) (by omega);simp only [Int.toNat_natCast]at hr;refine wpList_plain hgd fun K hK'=>?_
 unfold Oper.wp;subst hL;simp [execOp,ho,hl,hc,hr,Result.andThen];refine hK' _ _ (h _ ?_);refine⟨by simp,.inr ⟨w.heap.size,n,_,by simp,Nat.le_refl _,heap_alloc_new w _,by simp,by unfold maxLen;omega,by rw [hz1];simp [madeCells],?_⟩⟩;rw [hz1,zaZ];simp [lits]
theorem zmZ {F:Fence} {nF:Nat} {P:Program} {T t:TypeId} {w:O} {n:Nat} {ops:Array Oper} {rest:List Oper} {o:Oper} {a:Act} {Q:Exit→Act→O→Prop}
  (hinfo:(P.info? T).map (fun i=>(i.zero,i.size,i.bytes))=Y (Y (G N 0),1,8)) (ht:P.underlying t=Y (.slice T)) (hgd:o.guard=M) (l c:Operand)
  (ho:o.op = .makeSlice t l c) (L:Int) (hl:a.eval l=G N L) (hc:a.eval c=G N L) (hL:L=(n:Int)) (hn:n≤1000000000000)
  (h:∀cs,Own T (w.alloc (H cs T)) w.heap.size (Z (Y ⟨w.heap.size,0,M⟩) n n) (List.replicate n 0)→wpListIn F nF P ops Q rest (a.put o.dst (Z (Y ⟨w.heap.size,0,M⟩) n n)) (w.alloc (H cs T))):wpListIn F nF P ops Q (o::rest) a w:=by
 obtain⟨i,hi,hz0,hz1,hz2⟩:=info_parts hinfo;have hr:=run_make (P:=P) w t T i (G N 0) ht hi hz0 N N n n (by omega) (by omega) (by rw [hz2];omega) (by omega);simp only [Int.toNat_natCast]at hr;refine wpListIn_plain hgd fun K hK'=>?_
 unfold Oper.wpIn;subst hL;refine⟨?_,?_⟩
 ·simp [Oper.about,ho]
 ·rw [Oper.semAt_plain F _ _ (by rw [ho];intro c hc';cases hc')]
  simp [execOp,ho,hl,hc,hr,Result.andThen];refine hK' _ _ (h _ ?_);refine⟨by simp,.inr ⟨w.heap.size,n,_,by simp,Nat.le_refl _,heap_alloc_new w _,by simp,by unfold maxLen;omega,by rw [hz1];simp [madeCells],?_⟩⟩;rw [hz1,zaZ];simp [lits]
theorem mkc {P:Program} {T t:TypeId} {w:O} {n m:Nat} {ops:Array Oper} {rest:List Oper} {o:Oper} {a:Act} {Q:Exit→Act→O→Prop}
  (hinfo:(P.info? T).map (fun i=>(i.zero,i.size,i.bytes))=Y (Y (G N 0),1,8)) (ht:P.underlying t=Y (.slice T)) (hgd:o.guard=M) (l c:Operand)
  (ho:o.op = .makeSlice t l c) (L C:Int) (hl:a.eval l=G N L) (hc:a.eval c=G N C) (hL:L=(n:Int)) (hC:C=(m:Int)) (hnm:n≤m) (hm:m≤1000000000000)
  (h:∀w',Own T w' w.heap.size (Z (Y ⟨w.heap.size,0,M⟩) n m) (List.replicate n 0)→Ext w w'→w.heap.size<w'.heap.size→wpList P ops Q rest (a.put o.dst (Z (Y ⟨w.heap.size,0,M⟩) n m)) w'):wpList P ops Q (o::rest) a w:=by
 obtain⟨i,hi,hz0,hz1,hz2⟩:=info_parts hinfo;have hr:=run_make (P:=P) w t T i (G N 0) ht hi hz0 N N n m (by omega) (by omega) (by rw [hz2];omega) (by omega);simp only [Int.toNat_natCast]at hr;refine wpList_plain hgd fun K hK'=>?_
 unfold Oper.wp;subst hL hC;simp [execOp,ho,hl,hc,hr,Result.andThen];refine hK' _ _ (h _ ?_ ((Ext.refl w).alloc _) (by simp));refine⟨by simp,.inr ⟨w.heap.size,m,_,by simp,Nat.le_refl _,heap_alloc_new w _,by simp;omega,by unfold maxLen;omega,by rw [hz1];simp [madeCells],?_⟩⟩;rw [hz1,zaZ];simp [lits,List.take_replicate];omega
theorem cp0 {P:Program} {T t:TypeId} {w:O} {base g n cap:Nat} {os xs:List Int} {sl:X} {ops:Array Oper} {rest:List Oper} {o:Oper} {a:Act} {Q:Exit→Act→O→Prop}
  (hinfo:(P.info? T).map (fun i=>(i.zero,i.size,i.bytes))=Y (Y (G N 0),1,8)) (ht:P.underlying t=Y (.slice T)) (hgd:o.guard=M) (d s:Operand)
  (ho:o.op = .call { callee:=.builtin .copy,args:=#[d,s],argTypes:=#[t,t] }) (hd:a.eval d=Z (Y ⟨g,0,M⟩) n cap) (hs:a.eval s=sl)
  (hown:Own T w base (Z (Y ⟨g,0,M⟩) n cap) os) (hsrc:Ints T w sl xs) (hle:xs.length≤n)
  (h:∀w',Own T w' base (Z (Y ⟨g,0,M⟩) n cap) (xs++os.drop xs.length)→Below base w w'→Else T w w'→wpList P ops Q rest (a.put o.dst (goInt xs.length)) w'):wpList P ops Q (o::rest) a w:=by
 obtain⟨i,hi,hz0,hz1,hz2⟩:=info_parts hinfo;obtain⟨b,c,rfl⟩:=hsrc.form;have hn:=hown.len
 rcases hown.2 with ⟨h1,_⟩|⟨g',cap',cur,hv,hg,hh,hnc,hcm,hcs,htk⟩
 ·cases h1
 ·cases hv
  have h2:os.length≤cur.size:=by omega
  by_cases h0:xs=[]
  ·subst h0
   refine wpList_copy_nothing hgd d s t t ho T ht (by rw [hi];simp [hz1]) _ b os.length cap 0 c hd hs (by simp) ?_;exact h w (by simpa using hown) (Below.refl _ _) (fun _ _ hk _=>hk)
  ·have hp:0<xs.length:=List.length_pos_iff.2 h0
   obtain⟨b',o',rfl,hb,hx⟩:=hsrc.open hp
   have hsrc2:∀(j:Nat) v,(lits N xs)[j]?=Y v→w.cell? ((⟨b',o',M⟩:S).add j)=Y v:=by
    intro j v hj;simp only [lits,lP,Option.map_eq_some_iff]at hj;obtain⟨x,hxj,rfl⟩:=hj;have:=hx j x hxj;unfold Addr.add
    split
    ·subst j;simpa using this
    ·exact this
   refine wpList_copy_own hgd d s t t ho T ht (by rw [hi];simp [hz1]) g 0 os.length cap ⟨b',o',M⟩ xs.length c hd hs cur T hh (lits N xs) (by rw [zbG];exact(Nat.min_eq_left hle).symm) hsrc2 (by simp;omega) (ints_oneCell N xs) ?_;rw [zbG];refine h _ ⟨by simp,.inr ⟨g,cap,_,?_,hg,setRow_heap w g cur _ T _ hh,?_,hcm,?_,?_⟩⟩ (below_setRow (Below.refl _ _) hg _) ?_
   ·have e2:(xs++os.drop xs.length).length=os.length:=by simp;omega
    rw [e2]
   ·simp;omega
   ·simp;omega
   ·have e1:cur.toList.take (os.length*1)=lits N os:=htk
    have e2:(xs++os.drop xs.length).length*1=os.length:=by simp;omega
    rw [e2,←zbF,show lits N (os.drop xs.length)=(lits N os).drop xs.length by simp [lits,List.map_drop],←e1,Nat.mul_one,List.drop_take];simp only [List.take_zero,List.nil_append,Nat.zero_add,zbG];rw [List.take_append,lT (by simp;omega),zbG]
   ·intro k ob hk hne
    have hkg:k≠g:=by rintro rfl;rw [hh]at hk;cases hk;exact hne _ _ rfl
    rw [setRow_other w g k _ hkg];exact hk
theorem qcZ (w:O) (p:S) (u:X):(w.setCell p u).heap.size=w.heap.size:=by simp [World.setCell]
theorem zde {a b:X} (h:a=b):Ending.returned a = .returned b:=by rw [h]
theorem zby {k:IntKind} {a b:Int} (h:a=b):Value.int k a=G k b:=by rw [h]
end
section
open Go.RowKit
def B:Int:=16777216
theorem zbA:(0:Int)<B:=by decide
theorem and24 (y:Int):bits BinOp.and IntKind.i64 y 16777215=y % 16777216:=by
 show IntKind.i64.wrap (((BitVec.ofInt 64 y &&& BitVec.ofInt 64 16777215).toNat:Nat):Int)=_
 have h1:(BitVec.ofInt 64 y &&& BitVec.ofInt 64 16777215).toNat=(y % 18446744073709551616).toNat % 16777216:=by
  rw [BitVec.toNat_and,BitVec.toNat_ofInt];have:(BitVec.ofInt 64 16777215).toNat=2 ^ 24-1:=by decide
  rw [this,Nat.and_two_pow_sub_one_eq_mod];rfl
 rw [h1];simp [IntKind.wrap,IntKind.signed,IntKind.bits];omega
theorem zaM:(Tryz.prog.info? 2).map (fun i=>(i.zero,i.size,i.bytes))=Y (Y (G N 0),1,8):=by kernel_rfl
theorem zgx (ys xs:List Int) (i:Nat) (x cy:Int) (hl:ys.length=i) (hx:xs[i]?=Y x) (h:dv B (xs.take i)=dv B ys+B ^ i*cy) :
  dv B (xs.take (i+1))=dv B (ys++[(x+cy) % 16777216])+B ^ (i+1)*((x+cy) / 16777216):=by
 rw [za7 B xs i x hx,zcR,h,hl,Int.pow_succ];have e:x+cy=(x+cy) % 16777216+B*((x+cy) / 16777216):=by unfold B;omega
 generalize (x+cy) % 16777216=r at *
 generalize (x+cy) / 16777216=q at *
 have:B ^ i*(x+cy)=B ^ i*(r+B*q):=by rw [e]
 grind
theorem zgw (xs ys:List Int) (cy:Int) (h:dv B xs=dv B ys+B ^ ys.length*cy) :
  dv B xs=dv B (ys++[cy % 16777216])+B ^ (ys++[cy % 16777216]).length*(cy / 16777216):=by
 rw [zcR,h,lA,List.length_singleton,Int.pow_succ];have e:cy=cy % 16777216+B*(cy / 16777216):=by unfold B;omega
 generalize cy % 16777216=r at *
 generalize cy / 16777216=q at *
 subst e
 grind
theorem carry0 {x cy:Int} (h:0≤x∧x<B) (h':cy=0):(x+cy) / 16777216=0:=by unfold B at h;omega
def Kept (v:X) (w w':O):Prop:=∀(k:Nat) (o:Obj),w.heap[k]?=Y o→v.ownBlock≠Y k→w'.heap[k]?=Y o
theorem Kept.alloc {v:X} {a b:O} (h:Kept v a b) (o:Obj):Kept v a (b.alloc o):=fun x o' hx hne=>by
 have h1:=h x o' hx hne;rw [Below.heap_alloc _ _ _ (zaa h1)];exact h1
theorem Kept.setNew {v:X} {a b:O} (h:Kept v a b) {p:S} (hp:a.heap.size≤p.block) (u:X):Kept v a (b.setCell p u):=fun x o' hx hne=>by
 have:=zaa hx;rw [bS _ _ _ _ (by omega)];exact h x o' hx hne
theorem Kept.setOwn {v:X} {a b:O} (h:Kept v a b) {p:S} (hp:v.ownBlock=Y p.block) (u:X):Kept v a (b.setCell p u):=fun x o' hx hne=>by
 rw [bS _ _ _ _ (by rintro rfl;exact hne hp)];exact h x o' hx hne
def SetA (base:Nat) (xs:List Int) (n:Nat) (a:Option S) (c:Nat) (w:O) (t3 t7:X) (wr:O):Prop:=
 ∃(i:Nat) (ys:List Int) (cy:Int),i≤n∧t7=G N i∧t3=G N cy∧ys.length=i∧Dig B ys∧dv B (xs.take i)=dv B ys+B ^ i*cy ∧ -1099511627776≤cy∧cy≤1099511627776∧Own 2 wr base (Z a n c) (ys++xs.drop i)∧(Below base w wr∧Else 2 w wr∧Kept (Z a n c) w wr∧(Dig B xs→cy=0))∧w.heap.size<wr.heap.size∧wr.heap[w.heap.size]?=Y (H #[Z M 0 0] 61 (0,0))
def SetB (v:X) (base:Nat) (xs:List Int) (n:Nat) (w:O) (t0 t3:X) (wr:O):Prop:=
 ∃(ys:List Int) (cy:Int),t3=G N cy∧dv B xs=dv B ys+B ^ ys.length*cy∧Dig B ys∧0≤cy∧cy≤1099511627776∧ys.length≤n+2∧(0<cy→ys.length≤n+1)∧(65536<cy→ys.length≤n)∧Own 2 wr base t0 ys∧(Below base w wr∧Else 2 w wr∧(Dig B xs→cy=0∧Kept v w wr))∧w.heap.size<wr.heap.size∧wr.heap[w.heap.size]?=Y (H #[Z M 0 0] 61 (0,0))
def SetC (v:X) (base:Nat) (xs:List Int) (w:O) (t0:X) (wr:O):Prop:=
 ∃(ys:List Int),dv B ys=dv B xs∧Dig B ys∧ys.length≤1000000002∧Own 2 wr base t0 ys∧(Below base w wr∧Else 2 w wr∧(Dig B xs→Kept v w wr))∧w.heap.size<wr.heap.size∧wr.heap[w.heap.size]?=Y (H #[Z M 0 0] 61 (0,0))
theorem zdg (base:Nat) (v:X) (xs:List Int) (w:O) (hown:Own 2 w base v xs) (hbase:base≤w.heap.size)
  (hlen:xs.length≤1000000000) (hx:∀x∈xs,-4611686018427387904≤x∧x≤4611686018427387904) (hpos:0≤dv B xs) :
  Calls Tryz.prog 144 #[v] w fun e w'=>∃v' ys,e = .returned (U #[v'])∧Can B ys∧dv B ys=dv B xs∧Own 2 w' base v' ys∧Below base w w'∧Else 2 w w'∧(Dig B xs→Kept v w w'):=by
 obtain⟨a,c,rfl⟩:=hown.form;obtain⟨n,hn⟩:=gX xs.length;rw [hn]at hown hlen ⊢;have Hn:=hd9 hn;have hb2:base≤w.heap.size:=hbase;clear hn;go_enter Tryz.func144,Tryz.ntmps144;go_wp2
 go_loopw [3,7] (SetA base xs n a c w) (fun _ t7 _=>n-(intOf t7).toNat)
 case atStart=>exact⟨0,[],0,by omega,rfl,rfl,rfl,Dig.nil _,by simp,by omega,by omega,hown.alloc _,⟨(Below.refl _ _).alloc hbase _,(Else.refl _ _).alloc _,Kept.alloc (fun _ _ h _=>h) _,fun _=>rfl⟩,by simp,aN w _⟩
 case round =>
  obtain⟨i,ys,cy,hi,rfl,rfl,hyl,hyd,hv,hc1,hc2,hrow,⟨hbel,hels,hkp,hcz⟩,hsz,hres⟩:=hrel;have Hyl:=hd9 hyl;have Hv:=hd9 hv;have Hres:=hd9 hres;clear hyl hv hres
  by_cases hlt:i<n
  ·obtain⟨g,rfl,hg,hgs⟩:=hrow.blk (by simp [Hn.out,Hyl.out];omega)
   obtain⟨x,hxi⟩:∃x,xs[i]?=Y x:=⟨xs[i]'(by rw [Hn.out];exact hlt),by simp [Hn.out,hlt]⟩;have hxb:=hx x (lM hxi);have hcell:wr.cell? ⟨g,i,M⟩=Y (G N x):=hrow.cell (by have:=zdF ys xs x (by rw [Hyl.out];exact hxi);rwa [Hyl.out]at this);have hfr:wr.frozen? ⟨g,i,M⟩=false:=hrow.frozen i;have Hxi:=hd9 hxi;clear hxi;go_wp2
   go_roundw
   case rel =>
    have hgr:g≠w.heap.size:=by
     rintro rfl
     rcases hrow.2 with ⟨h1,_⟩|⟨g',cap',cur,h1,_,hh,_⟩
     ·cases h1
     ·cases h1;rw [Hres.out]at hh;cases hh
    refine⟨i+1,ys++[(x+cy) % 16777216],_,by omega,by go_num,rfl,by simp [Hyl.out],hyd.snoc (by omega) (by unfold B;omega),zgx ys xs i x cy Hyl.out Hxi.out Hv.out,by omega,by omega,?_,?_,?_,?_⟩
    ·rw [and24]
     have h1:=(hrow.stored i (x+cy)).stored i ((x+cy) % 16777216);rw [List.set_set]at h1;have h2:=zd3 ys xs x ((x+cy) % 16777216) (by rw [Hyl.out];exact Hxi.out);rw [Hyl.out]at h2;rw [←h2];exact h1
    ·exact⟨(hbel.setCell hg _).setCell hg _,(hels.setRow hrow _).setRow (hrow.stored i _) _,Kept.setOwn (p:=⟨g,i,M⟩) (Kept.setOwn (p:=⟨g,i,M⟩) hkp rfl _) rfl _,fun hd=>carry0 (hd x (lM Hxi.out)) (hcz hd)⟩
    ·simp only [qcZ];exact hsz
    ·rw [bS _ _ _ _ (by intro e;exact hgr e.symm),bS _ _ _ _ (by intro e;exact hgr e.symm)];exact Hres.out
   case measure=>simp [intOf];omega
  ·obtain rfl:i=n:=by omega
   have hcy0:0≤cy:=by
    have h1:=Hv.out;rw [lT (by rw [Hn.out];omega)]at h1;have h2:=(zay zbA hyd).2;rw [Hyl.out]at h2;have h3:=zaB zbA i
    by_cases h4:0≤cy
    ·exact h4
    ·have:B ^ i*cy≤B ^ i*(-1):=Int.mul_le_mul_of_nonneg_left (by omega) (by omega)
     omega
   go_wp2
   go_loopw [0,3] (SetB (Z a i c) base xs i w) (fun _ t3 _=>(intOf t3).toNat)
   case atStart =>
    refine⟨ys,cy,rfl,?_,hyd,hcy0,hc2,by rw [Hyl.out];omega,by rw [Hyl.out];omega,by rw [Hyl.out];omega,?_,⟨hbel,hels,fun hd=>⟨hcz hd,hkp⟩⟩,hsz,Hres.out⟩
    ·have h1:=Hv.out
     rw [lT (by rw [Hn.out];omega)]at h1;rw [Hyl.out];exact h1
    ·have h1:=hrow
     rw [List.drop_of_length_le (by rw [Hn.out];omega),List.append_nil]at h1;exact h1
   case round =>
    obtain⟨zs,cz,rfl,hv2,hzd,hz0,hz1,hl1,hl2,hl3,hown2,⟨hbel2,hels2,hkp2⟩,hsz2,hres2⟩:=hrel;have Hres2:=hd9 hres2;have Hv2:=hd9 hv2;obtain⟨a2,c2,rfl⟩:=hown2.form;clear hres2 hv2 Hv Hres hrow hbel hsz Hyl hcy0 hc1 hc2 hyd
    by_cases hc0:cz=0
    ·subst hc0
     go_wp2
     go_loopw [0] (SetC (Z a i c) base xs w) (fun t0 _=>match t0 with | Z _ n _=>n|_=>0)
     case atStart=>exact⟨zs,by have:=Hv2.out;rw [this];simp,hzd,by omega,hown2,⟨hbel2,hels2,fun hd=>(hkp2 hd).2⟩,hsz2,Hres2.out⟩
     case round =>
      clear hown2 hbel2 hsz2 Hres2 Hv2 hzd hl1 hl2 hl3;obtain⟨us,hv3,hud,hul,hown3,⟨hbel3,hels3,hkp3⟩,hsz3,hres3⟩:=hrel;obtain⟨a3,c3,rfl⟩:=hown3.form;have hrc:=cell_of_one hres3;have hrf:=free_of_one hres3;have Hres3:=hd9 hres3;have Hv3:=hd9 hv3;clear hres3 hv3
      rcases zid us with rfl|⟨us',x,rfl⟩
      ·have hd:decide ((0:Int)<(([]:List Int).length:Int))=false:=by simp
       go_wp2;refine bR (v:=U #[Z a3 0 c3]) (by simp [results,Tryz.results144,go_sem,hrc]) rfl ⟨_,[],rfl,Can.nil _,Hv3.out,?_,?_⟩
       ·exact hown3.setOther (p:=⟨w.heap.size,0,M⟩) (hown3.ne_block Hres3.out (by decide)) _
       ·exact⟨hbel3.setCell (p:=⟨w.heap.size,0,M⟩) hb2 _,hels3.setNew (by dsimp only;omega) _,fun hd=>(hkp3 hd).setNew (by dsimp only;omega) _⟩
      ·obtain⟨g,rfl,hg,hgs⟩:=hown3.blk (by simp)
       have hcell:wr.cell? ⟨g,us'.length,M⟩=Y (G N x):=hown3.cell (by simp);have hle:=hown3.ints.le;simp only [lA,List.length_singleton]at hown3 hle hul ⊢;unfold maxLen at hle
       by_cases hx0:x=0
       ·subst hx0
        go_wp2
        go_roundw
        case rel =>
         refine⟨us',?_,(Dig.of_append hud).1,by omega,hown3.pop,⟨hbel3,hels3,hkp3⟩,hsz3,Hres3.out⟩;have:=Hv3.out;rw [zcR]at this;omega
        case measure=>simp
       ·have hx1:(x==0)=false:=by simpa using hx0
        have Hx0:=hd9 hx0;clear hx0;go_wp2;refine bR (v:=U #[Z (Y ⟨g,0,M⟩) (us'.length+1) c3]) (by simp [results,Tryz.results144,go_sem,hrc]) rfl ⟨_,us'++[x],rfl,⟨hud,by simpa using Hx0.out⟩,Hv3.out,?_,?_⟩
        ·exact hown3.setOther (p:=⟨w.heap.size,0,M⟩) (hown3.ne_block Hres3.out (by decide)) _
        ·exact⟨hbel3.setCell (p:=⟨w.heap.size,0,M⟩) hb2 _,hels3.setNew (by dsimp only;omega) _,fun hd=>(hkp3 hd).setNew (by dsimp only;omega) _⟩
    ·have hc0':(cz != 0)=true:=by simpa using hc0
     have hzp:0<cz:=by omega
     have hl2':=hl2 hzp;clear hc0
     go_wp2_with(at_builtin;refine app1 zaM Tryz.underlying59 rfl _ _ rfl rfl hown2 rfl (by omega) (by omega) ?_;intro v' w1 hown3 hbel3 helse3)
     rw [and24]at hown3
     go_roundw
     case rel =>
      have h16:cz / 16777216≤65536:=by omega
      have h17:0<cz / 16777216→zs.length≤i:=fun h=>hl3 (by omega)
      refine⟨zs++[cz % 16777216],_,rfl,zgw xs zs cz Hv2.out,hzd.snoc (by omega) (by unfold B;omega),by omega,by omega,by simp;omega,fun h=>by have:=h17 h;simp;omega,fun h=>by omega,hown3,⟨hbel2.trans hbel3,hels2.trans helse3,fun hd=>absurd (hkp2 hd).1 (by omega)⟩,?_,?_⟩
      ·have:=hbel3.size;omega
      ·exact helse3.get Hres2.out (by decide)
     case measure=>simp [intOf];omega
theorem zaW (base:Nat) (v:X) (xs:List Int) (w:O) (hown:Own 2 w base v xs) (hbase:base≤w.heap.size)
  (hlen:xs.length≤1000000000) (hx:∀x∈xs,-4611686018427387904≤x∧x≤4611686018427387904) (hpos:0≤dv B xs) :
  Calls Tryz.prog 144 #[v] w fun e w'=>∃v' ys,e = .returned (U #[v'])∧Can B ys∧dv B ys=dv B xs∧Own 2 w' base v' ys∧Below base w w'∧Else 2 w w':=by
 refine(zdg base v xs w hown hbase hlen hx hpos).mono ?_;rintro e w' ⟨v',ys,h1,h2,h3,h4,h5,h6,_⟩;exact⟨v',ys,h1,h2,h3,h4,h5,h6⟩
def IsD (w:O) (v:X) (n:Int):Prop:=∃sl ds,v=U #[sl]∧Ints 2 w sl ds∧Can B ds∧dv B ds=n
def OwnD (w:O) (base:Nat) (v:X) (n:Int):Prop:=∃sl ds,v=U #[sl]∧Own 2 w base sl ds∧Can B ds∧dv B ds=n
theorem OwnD.isD {w:O} {base:Nat} {v:X} {n:Int} (h:OwnD w base v n):IsD w v n:=by
 obtain⟨sl,ds,h1,h2,h3,h4⟩:=h;exact⟨sl,ds,h1,h2.ints,h3,h4⟩
theorem ownM {w:O} {base b':Nat} {v:X} {xs:List Int} (hb:b'≤base) (h:Own 2 w base v xs):Own 2 w b' v xs:=h.mono hb
theorem IsD.ext {w w':O} {v:X} {n:Int} (h:IsD w v n) (k:Ext w w'):IsD w' v n:=by
 obtain⟨sl,ds,h1,h2,h3,h4⟩:=h;exact⟨sl,ds,h1,h2.ext k,h3,h4⟩
theorem IsD.keep {w w':O} {v:X} {n:Int} (h:IsD w v n) (k:KeepT 2 w w'):IsD w' v n:=by
 obtain⟨sl,ds,h1,h2,h3,h4⟩:=h;exact⟨sl,ds,h1,h2.keep k,h3,h4⟩
theorem IsD.nonneg {w:O} {v:X} {n:Int} (h:IsD w v n):0≤n:=by
 obtain⟨sl,ds,h1,h2,h3,h4⟩:=h;rw [←h4];exact(zay zbA h3.1).1
theorem IsD.form {w:O} {v:X} {n:Int} (h:IsD w v n):∃a m c,v=U #[Z a m c]:=by
 obtain⟨sl,ds,rfl,h2,h3,h4⟩:=h;obtain⟨a,c,rfl⟩:=h2.form;exact⟨_,_,_,rfl⟩
theorem IsD.open {w:O} {a:Option S} {m c:Nat} {n:Int} (h:IsD w (U #[Z a m c]) n):∃ds,ds.length=m∧Ints 2 w (Z a m c) ds∧Can B ds∧dv B ds=n:=by
 obtain⟨sl,ds,h1,h2,h3,h4⟩:=h
 cases h1
 exact⟨ds,h2.len.symm,h2,h3,h4⟩
def Lm (k:Nat) (n:Int):Prop:=-(B ^ k)<n∧n<B ^ k
theorem Lm.mono {j k:Nat} {n:Int} (h:Lm j n) (hk:j≤k):Lm k n:=by
 have:=zbh (b:=B) (by decide) hk;unfold Lm at *;omega
theorem Lm.len {k:Nat} {n:Int} {ds:List Int} (h:Lm k n) (hc:Can B ds) (hv:dv B ds=n):ds.length≤k:=by
 by_cases hne:ds=[]
 ·subst hne;simp
 ·have h1:=zgg zbA hc hne
  by_cases h2:ds.length≤k
  ·exact h2
  ·have:=zbh (b:=B) (by decide) (show k≤ds.length-1 by omega)
   unfold Lm at h;omega
abbrev lim:Nat:=100000000
def cmp3 (a b:Int):Int:=if a<b then -1 else if b<a then 1 else 0
theorem zan (w:O) (v:X) (n:Int) (h:IsD w v n) :
  Calls Tryz.prog 92 #[v] w fun e w'=>e = .returned (.bool (n==0))∧Ext w w':=by
 obtain⟨a,m,c,rfl⟩:=h.form;obtain⟨ds,hl,hi,hc,hv⟩:=h.open
 have hb:(n==0)=((m:Int)==0):=by
  rw [Bool.eq_iff_iff,beq_iff_eq,beq_iff_eq,←hv,zeT zbA hc,←List.length_eq_zero_iff];omega
 rw [hb];clear hb hv hc hi hl h;go_enter Tryz.func92,Tryz.ntmps92;go_wp2;go_ret;exact⟨rfl,(eR w).alloc _⟩
theorem zav {α:Type} {xs:List α} {j:Nat} {x:α} (h:xs[j]?=Y x):xs.drop j=x::xs.drop (j+1):=by
 obtain⟨hj,rfl⟩:=lS.1 h;exact List.drop_eq_getElem_cons hj
theorem zgS {xs ys:List Int} (hx:Dig B xs) (hy:Dig B ys) (hl:xs.length=ys.length) (j:Nat) {x y:Int} (h1:xs[j]?=Y x) (h2:ys[j]?=Y y)
  (he:xs.drop (j+1)=ys.drop (j+1)) (hlt:x<y):dv B xs<dv B ys:=by
 have e1:xs=xs.take j++x::ys.drop (j+1):=by rw [←he,←zav h1,List.take_append_drop]
 have e2:ys=ys.take j++y::ys.drop (j+1):=by rw [←zav h2,List.take_append_drop]
 have:=zeV (b:=B) (zs:=ys.drop (j+1)) (by decide) (fun d hd=>hx d (List.mem_of_mem_take hd)) (show (xs.take j).length=(ys.take j).length by rw [List.length_take,List.length_take,hl]) (fun d hd=>hy d (List.mem_of_mem_take hd)) hlt
 rwa [←e1,←e2]at this
def SizeI (w:O) (a b:X) (n:Nat) (xs ys:List Int) (t5:X) (wr:O):Prop:=
 ∃i:Nat,i≤n∧t5=G N ((i:Int)-1)∧xs.drop i=ys.drop i∧Ext w wr∧wr.cell? ⟨w.heap.size,0,M⟩=Y a∧wr.cell? ⟨w.heap.size+1,0,M⟩=Y b
theorem za0 (w:O) (va vb:X) (na nb:Int) (ha:IsD w va na) (hb:IsD w vb nb) :
  Calls Tryz.prog 125 #[va,vb] w fun e w'=>e = .returned (G N (cmp3 na nb))∧Ext w w':=by
 obtain⟨a,m,c,rfl⟩:=ha.form;obtain⟨a',m',c',rfl⟩:=hb.form;obtain⟨xs,hl,hi,hc,hv⟩:=ha.open;obtain⟨ys,hl',hi',hc',hv'⟩:=hb.open;have hm:=hi.le;have hm':=hi'.le;rw [hl]at hm;rw [hl']at hm';unfold maxLen at hm hm'
 rcases Nat.lt_trichotomy m m' with hlt|rfl|hgt
 ·have e1:na<nb:=by rw [←hv,←hv'];exact zet (by decide) hc.1 hc' (by omega)
  have e:cmp3 na nb = -1:=by unfold cmp3;rw [if_pos e1]
  rw [e];clear e e1 hv hv' hc hc' hi hi' hl hl' ha hb;go_enter Tryz.func125,Tryz.ntmps125;go_wp2;go_ret;exact⟨rfl,((eR w).alloc _).alloc _⟩
 ·have Hl:=hd9 hl
  have Hl':=hd9 hl';have Hv:=hd9 hv;have Hv':=hd9 hv';clear hl hl' hv hv';go_enter Tryz.func125,Tryz.ntmps125;go_wp2
  go_loopw [5] (SizeI w (Z a m c) (Z a' m c') m xs ys) (fun t5 _=>(intOf t5+1).toNat)
  case atStart=>exact⟨m,by omega,rfl,by rw [List.drop_of_length_le (by rw [Hl.out];omega),List.drop_of_length_le (by rw [Hl'.out];omega)],((eR w).alloc _).alloc _,by go_simp,by go_simp⟩
  case round =>
   obtain⟨i,hin,rfl,hd,hx,hc1,hc2⟩:=hrel;have Hd:=hd9 hd;clear hd
   rcases i with _|j
   ·have e:cmp3 na nb=0:=by
     have:=Hd.out;simp only [List.drop_zero]at this;rw [←Hv.out,←Hv'.out,this];simp [cmp3]
    have E:=hd9 e;clear e;go_wp2;go_ret;exact⟨zde (zby E.out.symm),hx⟩
   ·rw [show (((j+1:Nat):Int)-1)=(j:Int) by omega]
    obtain⟨b,o,rfl,hb1,hx1⟩:=(hi.ext hx).open (by rw [Hl.out];omega);obtain⟨b',o',rfl,hb1',hx1'⟩:=(hi'.ext hx).open (by rw [Hl'.out];omega);obtain⟨x,hxj⟩:∃x,xs[j]?=Y x:=⟨xs[j]'(by rw [Hl.out];omega),by simp [Hl.out]⟩;obtain⟨y,hyj⟩:∃y,ys[j]?=Y y:=⟨ys[j]'(by rw [Hl'.out];omega),by simp [Hl'.out]⟩;have hcx:=hx1 j x hxj;have hcy:=hx1' j y hyj;have Hxj:=hd9 hxj;have Hyj:=hd9 hyj;clear hx1 hx1' hxj hyj
    rcases Int.lt_trichotomy x y with hlt|heq|hgt
    ·have e:cmp3 na nb = -1:=by
      rw [←Hv.out,←Hv'.out];unfold cmp3;rw [if_pos (zgS hc.1 hc'.1 (by rw [Hl.out,Hl'.out]) j Hxj.out Hyj.out Hd.out hlt)]
     have E:=hd9 e;clear e;go_wp2
     go_quiet (fail)
     go_wp2;go_ret
     first|exact⟨zde (zby E.out.symm),hx.drewN _⟩|exact⟨zde (zby E.out.symm),(hx.drewN _).drewN _⟩
    ·subst heq
     go_wp2
     go_quiet (fail)
     go_wp2
     go_quiet (fail)
     go_wp2
     go_roundw
     case rel=>exact⟨j,by omega,by go_num,by rw [zav Hxj.out,zav Hyj.out,Hd.out],hx.drewN _,by go_simp,by go_simp⟩
     case measure=>simp [intOf]
    ·have e:cmp3 na nb=1:=by
      have:=zgS hc'.1 hc.1 (by rw [Hl.out,Hl'.out]) j Hyj.out Hxj.out Hd.out.symm hgt;rw [←Hv.out,←Hv'.out];unfold cmp3;rw [if_neg (by omega),if_pos this]
     have E:=hd9 e;clear e;go_wp2
     go_quiet (fail)
     go_wp2
     go_quiet (fail)
     go_wp2;go_ret
     first|exact⟨zde (zby E.out.symm),hx.drewN _⟩|exact⟨zde (zby E.out.symm),(hx.drewN _).drewN _⟩
 ·have e1:nb<na:=by rw [←hv,←hv'];exact zet (by decide) hc'.1 hc (by omega)
  have e:cmp3 na nb=1:=by unfold cmp3;rw [if_neg (by omega),if_pos e1]
  rw [e];clear e e1 hv hv' hc hc' hi hi' hl hl' ha hb;go_enter Tryz.func125,Tryz.ntmps125;go_wp2;go_ret;exact⟨rfl,((eR w).alloc _).alloc _⟩
theorem zjb (xs ys:List Int) (k:Int) (i:Nat) (os:List Int) (x y:Int) (hx:os[i]?=Y x) (hy:ys[i]?=Y y)
  (h:dv B os=dv B xs+k*dv B (ys.take i)):dv B (os.set i (x+k*y))=dv B xs+k*dv B (ys.take (i+1)):=by
 have hi:=(lS.1 hx).1;rw [za7 B ys i y hy,Int.mul_add,←Int.add_assoc,←h];have e:os=os.take i++x::os.drop (i+1):=by rw [←zav hx,List.take_append_drop]
 have e2:os.set i (x+k*y)=os.take i++(x+k*y)::os.drop (i+1):=by
  rw [List.set_eq_take_append_cons_drop,if_pos hi]
 rw [e2]
 conv=>rhs;rw [e]
 rw [zaK,zaK];simp only [zbR,List.length_take];rw [Nat.min_eq_left (by omega)]
 grind
def PlusB (os:List Int) (i:Nat):Prop:=∀j x,os[j]?=Y x → -16777216≤x∧x≤33554432∧(i≤j→0≤x∧x<16777216)
theorem PlusB.set {os:List Int} {i:Nat} (h:PlusB os i) {x:Int} (h1 : -16777216≤x) (h2:x≤33554432):PlusB (os.set i x) (i+1):=by
 intro j y hj;rw [List.getElem?_set]at hj
 split at hj
 ·subst j
  split at hj
  ·cases hj;exact⟨h1,h2,fun h=>by omega⟩
  ·cases hj
 ·have:=h j y hj
  exact⟨this.1,this.2.1,fun hh=>this.2.2 (by omega)⟩
def PlusI (w:O) (na:Int) (ys:List Int) (k:Int) (m' L:Nat) (t25:X) (wr:O):Prop:=
 ∃(i:Nat) (os:List Int),t25=G N i∧i≤m'∧os.length=L∧m'≤L∧L≤100000000 ∧
  Own 2 wr (w.heap.size+1+1+1) (Z (Y ⟨w.heap.size+1+1+1,0,M⟩) L L) os∧dv B os=na+k*dv B (ys.take i)∧PlusB os i∧Ext w wr∧w.heap.size+1+1+1<wr.heap.size ∧
  wr.heap[w.heap.size+1+1]?=Y (H #[Z M 0 0] 61 (0,0))
theorem zeA {xs ys os:List Int} {k na x y:Int} {i:Nat} (hv:dv B xs=na) (hx:os[i]?=Y x) (hy:ys[i]?=Y y) (h:dv B os=na+k*dv B (ys.take i)):dv B (os.set i (x+k*y))=na+k*dv B (ys.take (i+1)):=by
 subst hv;exact zjb xs ys k i os x y hx hy h
theorem zaN (w:O) (va vb:X) (na nb k:Int) (ha:IsD w va na) (hb:IsD w vb nb) (hla:Lm lim na) (hlb:Lm lim nb) (hk : -1≤k∧k≤1) (hp:0≤na+k*nb) :
  Calls Tryz.prog 114 #[va,vb,G N k] w fun e w'=>∃r,e = .returned r∧OwnD w' w.heap.size r (na+k*nb)∧Ext w w':=by
 obtain⟨a,m,c,rfl⟩:=ha.form;obtain⟨a',m',c',rfl⟩:=hb.form;obtain⟨xs,hl,hi,hc,hv⟩:=ha.open;obtain⟨ys,hl',hi',hc',hv'⟩:=hb.open;have hm:=hla.len hc hv;have hm':=hlb.len hc' hv';rw [hl]at hm;rw [hl']at hm';unfold lim at hm hm';have Hl:=hd9 hl;have Hl':=hd9 hl';have Hv:=hd9 hv;have Hv':=hd9 hv';clear hl hl' hv hv'
 rcases Nat.lt_or_ge m m' with hmm|hmm
 ·go_enter Tryz.func114,Tryz.ntmps114
  go_wp2_with(first|(at_make;refine mk0 zaM Tryz.underlying59 rfl _ _ rfl _ rfl rfl rfl (by omega) ?_;intro w1 hown1 hx1 hs1;obtain⟨hc1,hf1⟩:=hx1.cells;simp only [wZ]at hown1 hs1)|(refine cp0 zaM Tryz.underlying59 rfl _ _ rfl rfl rfl hown1 (hi.ext ((((eR w).alloc _).alloc _).alloc _ |>.trans hx1)) (by rw [Hl.out];omega) ?_;intro w2 hown2 hb2 he2;obtain⟨hc2,hf2⟩:=zaE hb2))
  go_loopw [25] (PlusI w na ys k m' m') (fun t25 _=>m'-(intOf t25).toNat)
  case atStart =>
   refine⟨0,_,rfl,by omega,?_,by omega,by omega,hown2,?_,?_,?_,?_,?_⟩
   ·have:=Hl.out;simp;omega
   ·rw [List.drop_replicate,zaK,zaP,Hv.out];simp
   ·intro j x hj
    rw [List.getElem?_append]at hj
    split at hj
    ·have:=hc.1 x (lM hj)
     unfold B at this;omega
    ·have:=List.mem_replicate.1 (List.mem_of_mem_drop (lM hj));omega
   ·exact(((((eR w).alloc _).alloc _).alloc _).trans hx1).thenB hb2 (by omega)
   ·have:=hb2.size;omega
   ·exact he2.get (by rw [hx1.block (by simp)];exact qhA _ _ _ (by simp)) (by decide)
  case round =>
   clear hown2 hown1 hx1 hc1 hf1 hc2 hf2 hs1 hb2 he2;obtain⟨i,os,rfl,him,hol,hmL,hL,hown,hdv,hpb,hx,hsz,hres⟩:=hrel;have Hol:=hd9 hol;have Hdv:=hd9 hdv;have Hres:=hd9 hres
   by_cases hlt:i<m'
   ·obtain⟨b',o',rfl,hb1',hx1'⟩:=(hi'.ext hx).open (by rw [Hl'.out];omega)
    obtain⟨y,hyj⟩:∃y,ys[i]?=Y y:=⟨ys[i]'(by rw [Hl'.out];omega),by simp [Hl'.out]⟩;obtain⟨x,hxj⟩:∃x,os[i]?=Y x:=⟨os[i]'(by rw [Hol.out];omega),by simp [Hol.out]⟩;have hcy:=hx1' i y hyj;have hcx:=hown.cell hxj;have hfx:=hown.frozen i;have hyb:=hc'.1 y (lM hyj);have hxb:=(hpb i x hxj).2.2 (nE _)
    have hky : -16777216<k*y∧k*y<16777216:=by
     unfold B at hyb;obtain h|h|h:k = -1∨k=0∨k=1:=by omega
     all_goals(subst h;omega)
    have Hxj:=hd9 hxj;have Hyj:=hd9 hyj;clear hx1' hyj hxj hol hdv hres;have Hyb:=hd9 hyb;clear hyb;go_wp2
    go_roundw
    case rel =>
     refine⟨i+1,os.set i (x+k*y),by go_num,by omega,by simp [Hol.out],hmL,hL,hown.stored i _,zeA Hv.out Hxj.out Hyj.out Hdv.out,hpb.set (by omega) (by omega),?_,?_,?_⟩
     ·exact hx.set (by simp;omega) _
     ·simp only [qcZ];exact hsz
     ·rw [bS _ _ _ _ (by simp)];exact Hres.out
    case measure=>simp [intOf];omega
   ·obtain rfl:i=m':=by omega
    have hpos:0≤dv B os:=by
     rw [hdv,lT (by rw [Hl'.out];omega),Hv'.out];exact hp
    clear hol hdv hres;have hrc:=cell_of_one Hres.out;have hrf:=free_of_one Hres.out
    go_wp2_with(go_at_call 144;refine(zaW (w.heap.size+1+1+1) _ os _ hown (by omega) (by rw [Hol.out];omega) (fun x hx=>by obtain⟨j,hj⟩:=List.mem_iff_getElem?.1 hx;have:=hpb j x hj;omega) hpos).mono ?_;rintro e w3 ⟨v',zs,rfl,hzc,hzv,hown3,hb3,he3⟩;obtain⟨hc3,hf3⟩:=zaE hb3;obtain⟨a4,c4,rfl⟩:=hown3.form;have Hzv:=hd9 hzv;clear hzv)
    refine bR (v:=U #[Z a4 zs.length c4]) (by simp [results,Tryz.results114,go_sem,hc3,hrc]) rfl ⟨_,rfl,⟨_,zs,rfl,ownM (by omega) (hown3.setOther (p:=⟨w.heap.size+1+1,0,M⟩) (hown3.ne_block ((hb3.block _ (by dsimp only;omega)).trans Hres.out) (by decide)) _),hzc,?_⟩,(hx.thenB hb3 (by omega)).set (by simp;omega) _⟩;rw [Hzv.out,Hdv.out,lT (by rw [Hl'.out];omega),Hv'.out]
 ·go_enter Tryz.func114,Tryz.ntmps114
  go_wp2_with(first|(at_make;refine mk0 zaM Tryz.underlying59 rfl _ _ rfl _ rfl rfl rfl (by omega) ?_;intro w1 hown1 hx1 hs1;obtain⟨hc1,hf1⟩:=hx1.cells;simp only [wZ]at hown1 hs1)|(refine cp0 zaM Tryz.underlying59 rfl _ _ rfl rfl rfl hown1 (hi.ext ((((eR w).alloc _).alloc _).alloc _ |>.trans hx1)) (by rw [Hl.out];omega) ?_;intro w2 hown2 hb2 he2;obtain⟨hc2,hf2⟩:=zaE hb2))
  go_loopw [25] (PlusI w na ys k m' m) (fun t25 _=>m'-(intOf t25).toNat)
  case atStart =>
   refine⟨0,_,rfl,by omega,?_,by omega,by omega,hown2,?_,?_,?_,?_,?_⟩
   ·have:=Hl.out;simp;omega
   ·rw [List.drop_replicate,zaK,zaP,Hv.out];simp
   ·intro j x hj
    rw [List.getElem?_append]at hj
    split at hj
    ·have:=hc.1 x (lM hj)
     unfold B at this;omega
    ·have:=List.mem_replicate.1 (List.mem_of_mem_drop (lM hj));omega
   ·exact(((((eR w).alloc _).alloc _).alloc _).trans hx1).thenB hb2 (by omega)
   ·have:=hb2.size;omega
   ·exact he2.get (by rw [hx1.block (by simp)];exact qhA _ _ _ (by simp)) (by decide)
  case round =>
   clear hown2 hown1 hx1 hc1 hf1 hc2 hf2 hs1 hb2 he2;obtain⟨i,os,rfl,him,hol,hmL,hL,hown,hdv,hpb,hx,hsz,hres⟩:=hrel;have Hol:=hd9 hol;have Hdv:=hd9 hdv;have Hres:=hd9 hres
   by_cases hlt:i<m'
   ·obtain⟨b',o',rfl,hb1',hx1'⟩:=(hi'.ext hx).open (by rw [Hl'.out];omega)
    obtain⟨y,hyj⟩:∃y,ys[i]?=Y y:=⟨ys[i]'(by rw [Hl'.out];omega),by simp [Hl'.out]⟩;obtain⟨x,hxj⟩:∃x,os[i]?=Y x:=⟨os[i]'(by rw [Hol.out];omega),by simp [Hol.out]⟩;have hcy:=hx1' i y hyj;have hcx:=hown.cell hxj;have hfx:=hown.frozen i;have hyb:=hc'.1 y (lM hyj);have hxb:=(hpb i x hxj).2.2 (nE _)
    have hky : -16777216<k*y∧k*y<16777216:=by
     unfold B at hyb;obtain h|h|h:k = -1∨k=0∨k=1:=by omega
     all_goals(subst h;omega)
    have Hxj:=hd9 hxj;have Hyj:=hd9 hyj;clear hx1' hyj hxj hol hdv hres;have Hyb:=hd9 hyb;clear hyb;go_wp2
    go_roundw
    case rel =>
     refine⟨i+1,os.set i (x+k*y),by go_num,by omega,by simp [Hol.out],hmL,hL,hown.stored i _,zeA Hv.out Hxj.out Hyj.out Hdv.out,hpb.set (by omega) (by omega),?_,?_,?_⟩
     ·exact hx.set (by simp;omega) _
     ·simp only [qcZ];exact hsz
     ·rw [bS _ _ _ _ (by simp)];exact Hres.out
    case measure=>simp [intOf];omega
   ·obtain rfl:i=m':=by omega
    have hpos:0≤dv B os:=by
     rw [hdv,lT (by rw [Hl'.out];omega),Hv'.out];exact hp
    clear hol hdv hres;have hrc:=cell_of_one Hres.out;have hrf:=free_of_one Hres.out
    go_wp2_with(go_at_call 144;refine(zaW (w.heap.size+1+1+1) _ os _ hown (by omega) (by rw [Hol.out];omega) (fun x hx=>by obtain⟨j,hj⟩:=List.mem_iff_getElem?.1 hx;have:=hpb j x hj;omega) hpos).mono ?_;rintro e w3 ⟨v',zs,rfl,hzc,hzv,hown3,hb3,he3⟩;obtain⟨hc3,hf3⟩:=zaE hb3;obtain⟨a4,c4,rfl⟩:=hown3.form;have Hzv:=hd9 hzv;clear hzv)
    refine bR (v:=U #[Z a4 zs.length c4]) (by simp [results,Tryz.results114,go_sem,hc3,hrc]) rfl ⟨_,rfl,⟨_,zs,rfl,ownM (by omega) (hown3.setOther (p:=⟨w.heap.size+1+1,0,M⟩) (hown3.ne_block ((hb3.block _ (by dsimp only;omega)).trans Hres.out) (by decide)) _),hzc,?_⟩,(hx.thenB hb3 (by omega)).set (by simp;omega) _⟩;rw [Hzv.out,Hdv.out,lT (by rw [Hl'.out];omega),Hv'.out]
theorem zey {b:Int} {os:List Int} {p:Nat} {z:Int} (u:Int) (h:os[p]?=Y z):dv b (os.set p u)=dv b os+b ^ p*(u-z):=by
 have hi:=(lS.1 h).1;have e:os=os.take p++z::os.drop (p+1):=by rw [←zav h,List.take_append_drop]
 have e2:os.set p u=os.take p++u::os.drop (p+1):=by rw [List.set_eq_take_append_cons_drop,if_pos hi]
 rw [e2]
 conv=>rhs;rw [e]
 rw [zaK,zaK];simp only [zbR,List.length_take];rw [Nat.min_eq_left (by omega)]
 grind
theorem Dig.set {b:Int} {os:List Int} (h:Dig b os) {u:Int} (h0:0≤u) (h1:u<b) (p:Nat):Dig b (os.set p u):=by
 intro d hd
 rcases List.mem_or_eq_of_mem_set hd with hd|rfl
 ·exact h d hd
 ·exact⟨h0,h1⟩
theorem Dig.get {b:Int} {os:List Int} (h:Dig b os) {p:Nat} {z:Int} (hz:os[p]?=Y z):0≤z∧z<b:=h z (lM hz)
def Zer (os:List Int) (p:Nat):Prop:=∀j x,os[j]?=Y x→p≤j→x=0
theorem Zer.set {os:List Int} {p q:Nat} (h:Zer os p) (hq:q<p) (u:Int):Zer (os.set q u) p:=by
 intro j x hj hp;rw [List.getElem?_set_ne (by omega)]at hj;exact h j x hj hp
theorem Zer.set_next {os:List Int} {p:Nat} (h:Zer os p) (u:Int):Zer (os.set p u) (p+1):=by
 intro j x hj hp;rw [List.getElem?_set_ne (by omega)]at hj;exact h j x hj (by omega)
theorem Zer.replicate (n p:Nat):Zer (List.replicate n 0) p:=fun j x hj _=>by
 have:=List.mem_replicate.1 (lM hj);exact this.2
theorem zhX {x y:Int} (hx:0≤x∧x<B) (hy:0≤y∧y<B):0≤x*y∧x*y≤281474943156225:=by
 unfold B at *;have h1:=Int.mul_nonneg hx.1 hy.1;have h2:x*y≤16777215*16777215:=Int.mul_le_mul (by omega) (by omega) hy.1 (by omega);omega
theorem zif {os ys:List Int} {i k:Nat} {x y z cy V:Int} (hz:os[i+k]?=Y z) (hy:ys[k]?=Y y)
  (h:dv B os+B ^ (i+k)*cy=V+B ^ i*(x*dv B (ys.take k))) :
  dv B (os.set (i+k) ((cy+(x*y+z)) % 16777216))+B ^ (i+(k+1))*((cy+(x*y+z)) / 16777216)=V+B ^ i*(x*dv B (ys.take (k+1))):=by
 rw [zey _ hz,za7 B ys k y hy,←Nat.add_assoc,Int.pow_succ,Int.pow_add];rw [Int.pow_add]at h;have e:cy+(x*y+z)=(cy+(x*y+z)) % 16777216+B*((cy+(x*y+z)) / 16777216):=by unfold B;omega
 generalize hr:(cy+(x*y+z)) % 16777216=r at *
 generalize hq:(cy+(x*y+z)) / 16777216=q at *
 clear hr hq;have e3:r=cy+(x*y+z)-B*q:=by omega
 subst e3
 grind
theorem zkd {us os xs ys:List Int} {i k:Nat} {x z cy:Int} (hz:us[i+k]?=Y z) (hz0:z=0) (hk:ys.length=k) (hx:xs[i]?=Y x)
  (h:dv B us+B ^ (i+k)*cy=dv B os+B ^ i*(x*dv B (ys.take k))) (ho:dv B os=dv B (xs.take i)*dv B ys):dv B (us.set (i+k) cy)=dv B (xs.take (i+1))*dv B ys:=by
 rw [zey _ hz,hz0,Int.sub_zero,h,ho,lT (l:=ys) (by omega),za7 B xs i x hx,Int.add_mul,Int.mul_assoc]
def TimO (w:O) (xs ys:List Int) (a':Option S) (m m' c':Nat) (t22:X) (wr:O):Prop:=
 ∃(i:Nat) (os:List Int),t22=G N i∧i≤m∧os.length=m+m'∧Own 2 wr (w.heap.size+1+1+1) (Z (Y ⟨w.heap.size+1+1+1,0,M⟩) (m+m') (m+m')) os ∧
  dv B os=dv B (xs.take i)*dv B ys∧Dig B os∧Zer os (i+m')∧Ext w wr∧w.heap.size+1+1+1<wr.heap.size∧wr.cell? ⟨w.heap.size+1,0,M⟩=Y (Z a' m' c') ∧
  wr.heap[w.heap.size+1+1]?=Y (H #[Z M 0 0] 61 (0,0))
def TimI (w:O) (x V:Int) (ys:List Int) (a':Option S) (i m m' c':Nat) (t8 t30:X) (wr:O):Prop:=
 ∃(k:Nat) (cy:Int) (os:List Int),t30=G N k∧t8=G N cy∧k≤m'∧0≤cy∧cy<16777216∧os.length=m+m'∧Own 2 wr (w.heap.size+1+1+1) (Z (Y ⟨w.heap.size+1+1+1,0,M⟩) (m+m') (m+m')) os ∧
  dv B os+B ^ (i+k)*cy=V+B ^ i*(x*dv B (ys.take k))∧Dig B os∧Zer os (i+m')∧Ext w wr∧w.heap.size+1+1+1<wr.heap.size∧wr.cell? ⟨w.heap.size+1,0,M⟩=Y (Z a' m' c') ∧
  wr.heap[w.heap.size+1+1]?=Y (H #[Z M 0 0] 61 (0,0))
theorem zeg (w:O) (va vb:X) (na nb:Int) (ha:IsD w va na) (hb:IsD w vb nb) (hla:Lm lim na) (hlb:Lm lim nb) :
  Calls Tryz.prog 113 #[va,vb] w fun e w'=>∃r,e = .returned r∧OwnD w' w.heap.size r (na*nb)∧Ext w w':=by
 obtain⟨a,m,c,rfl⟩:=ha.form;obtain⟨a',m',c',rfl⟩:=hb.form;obtain⟨xs,hl,hi,hc,hv⟩:=ha.open;obtain⟨ys,hl',hi',hc',hv'⟩:=hb.open;have hm:=hla.len hc hv;have hm':=hlb.len hc' hv';rw [hl]at hm;rw [hl']at hm';unfold lim at hm hm';have Hl:=hd9 hl;have Hl':=hd9 hl';have Hv:=hd9 hv;have Hv':=hd9 hv';clear hl hl' hv hv';go_enter Tryz.func113,Tryz.ntmps113
 go_wp2_with(at_make;refine mk0 (n:=m+m') zaM Tryz.underlying59 rfl _ _ rfl _ rfl rfl (by simp) (by omega) ?_;intro w1 hown1 hx1 hs1;obtain⟨hc1,hf1⟩:=hx1.cells;simp only [wZ]at hown1 hs1)
 go_loopw [22] (TimO w xs ys a' m m' c') (fun t22 _=>m-(intOf t22).toNat)
 case atStart =>
  refine⟨0,_,rfl,by omega,by simp,hown1,?_,?_,Zer.replicate _ _,(((eR w).alloc _).alloc _).alloc _ |>.trans hx1,by omega,?_,?_⟩
  ·rw [zaP];simp
  ·intro d hd;have:=(List.mem_replicate.1 hd).2;unfold B;omega
  ·rw [hc1 _ _ (by simp)];go_simp
  ·rw [hx1.block (by simp)];exact qhA _ _ _ (by simp)
 case round =>
  clear hown1 hx1 hc1 hf1 hs1;obtain⟨i,os,rfl,him,hol,hown,hdv,hdig,hzer,hx,hsz,hbx,hres⟩:=hrel;have Hol:=hd9 hol;have Hdv:=hd9 hdv;have Hres:=hd9 hres;clear hol hdv hres
  by_cases hlt:i<m
  ·obtain⟨b,o,rfl,hb1,hx1⟩:=(hi.ext hx).open (by rw [Hl.out];omega)
   obtain⟨x,hxj⟩:∃x,xs[i]?=Y x:=⟨xs[i]'(by rw [Hl.out];omega),by simp [Hl.out]⟩;have hcx:=hx1 i x hxj;have hxb:=hc.1 x (lM hxj);have Hxj:=hd9 hxj;have Hxb:=hd9 hxb;clear hx1 hxj hxb;go_wp2;obtain⟨wo,rfl⟩:∃wo:O,wo=wr:=⟨_,rfl⟩
   go_loopw [8,30] (TimI w x (dv B os) ys a' i m m' c') (fun _ t30 _=>m'-(intOf t30).toNat)
   case atStart=>exact⟨0,0,os,rfl,rfl,by omega,by omega,by omega,Hol.out,hown,by simp,hdig,hzer,hx,hsz,hbx,Hres.out⟩
   case round =>
    clear hown hx hsz hbx hcx hb1;obtain⟨k,cy,us,rfl,rfl,hkm,hcy0,hcy1,hul,hown,hdv,hud,huz,hx,hsz,hbx,hres⟩:=hrel;have Hul:=hd9 hul;have Hdv2:=hd9 hdv;have Hres2:=hd9 hres;clear hul hdv hres
    by_cases hlt2:k<m'
    ·obtain⟨b',o',rfl,hb1',hx1'⟩:=(hi'.ext hx).open (by rw [Hl'.out];omega)
     obtain⟨y,hyk⟩:∃y,ys[k]?=Y y:=⟨ys[k]'(by rw [Hl'.out];omega),by simp [Hl'.out]⟩;obtain⟨z,hzk⟩:∃z,us[i+k]?=Y z:=⟨us[i+k]'(by rw [Hul.out];omega),by simp [Hul.out]⟩;have hcy:=hx1' k y hyk;have hcz:=hown.cell hzk;have hfz:=hown.frozen (i+k);have hyb:=hc'.1 y (lM hyk);have hzb:=hud.get hzk;obtain⟨hm0,hm1⟩:=zhX Hxb.out hyb;unfold B at hzb;have Hyk:=hd9 hyk;have Hzk:=hd9 hzk;clear hx1' hyk hzk hyb;go_wp2
     go_roundw
     case rel =>
      rw [and24];refine⟨k+1,_,us.set (i+k) ((cy+(x*y+z)) % 16777216),by go_num,rfl,by omega,by omega,by omega,by simp [Hul.out],hown.stored _ _,zif Hzk.out Hyk.out Hdv2.out,hud.set (by omega) (by unfold B;omega) _,huz.set (by omega) _,hx.set (by simp;omega) _,by simp only [qcZ];exact hsz,by go_simp,?_⟩;rw [bS _ _ _ _ (by simp)];exact Hres2.out
     case measure=>simp [intOf];omega
    ·obtain rfl:k=m':=by omega
     obtain⟨z,hzk⟩:∃z,us[i+k]?=Y z:=⟨us[i+k]'(by rw [Hul.out];omega),by simp [Hul.out]⟩;have hcz:=hown.cell hzk;have hfz:=hown.frozen (i+k);have hz0:=huz _ z hzk (nE _);have Hz0:=hd9 hz0;have Hzk:=hd9 hzk;clear hz0 hzk;go_wp2
     go_roundw
     case rel =>
      refine⟨i+1,us.set (i+k) cy,by go_num,by omega,by simp [Hul.out],hown.stored _ _,?_,hud.set hcy0 hcy1 _,?_,hx.set (by simp;omega) _,by simp only [qcZ];exact hsz,by go_simp,?_⟩
      ·exact zkd Hzk.out Hz0.out Hl'.out Hxj.out Hdv2.out Hdv.out
      ·have:=huz.set_next cy
       rwa [show i+k+1=i+1+k by omega]at this
      ·rw [bS _ _ _ _ (by simp)];exact Hres2.out
     case measure=>simp [intOf];omega
  ·obtain rfl:i=m:=by omega
   have hrc:=cell_of_one Hres.out;have hrf:=free_of_one Hres.out;have hpos:0≤dv B os:=(zay zbA hdig).1
   go_wp2_with(go_at_call 144;refine(zaW (w.heap.size+1+1+1) _ os _ hown (by omega) (by rw [Hol.out];omega) (fun x hx=>by have:=hdig x hx;unfold B at this;omega) hpos).mono ?_;rintro e w3 ⟨v',zs,rfl,hzc,hzv,hown3,hb3,he3⟩;obtain⟨hc3,hf3⟩:=zaE hb3;obtain⟨a4,c4,rfl⟩:=hown3.form;have Hzv:=hd9 hzv;clear hzv)
   refine bR (v:=U #[Z a4 zs.length c4]) (by simp [results,Tryz.results113,go_sem,hc3,hrc]) rfl ⟨_,rfl,⟨_,zs,rfl,ownM (by omega) (hown3.setOther (p:=⟨w.heap.size+1+1,0,M⟩) (hown3.ne_block ((hb3.block _ (by dsimp only;omega)).trans Hres.out) (by decide)) _),hzc,?_⟩,(hx.thenB hb3 (by omega)).set (by simp;omega) _⟩;rw [Hzv.out,Hdv.out,lT (by rw [Hl.out];omega),Hv.out,Hv'.out]
theorem and1 (y:Int):bits BinOp.and IntKind.i64 y 1=y % 2:=by
 show IntKind.i64.wrap (((BitVec.ofInt 64 y &&& BitVec.ofInt 64 1).toNat:Nat):Int)=_
 have h1:(BitVec.ofInt 64 y &&& BitVec.ofInt 64 1).toNat=(y % 18446744073709551616).toNat % 2:=by
  rw [BitVec.toNat_and,BitVec.toNat_ofInt];have:(BitVec.ofInt 64 1).toNat=2 ^ 1-1:=by decide
  rw [this,Nat.and_two_pow_sub_one_eq_mod];rfl
 rw [h1];simp [IntKind.wrap,IntKind.signed,IntKind.bits];omega
theorem and24u (y:Int) (h0:0≤y) (h1:y<18446744073709551616):bits BinOp.and IntKind.u64 y 16777215=y % 16777216:=by
 obtain⟨n,rfl⟩:=Int.eq_ofNat_of_zero_le h0;have h:=bits_and_u64_nat n (2 ^ 24-1) (by omega) (by decide);rw [Nat.and_two_pow_sub_one_eq_mod]at h;have h2:((n % 2 ^ 24:Nat):Int)=(n:Int) % 16777216:=by omega
 rw [h2]at h;exact h
theorem ziR (ds:List Int) (x:Int):dv B (x::ds) % 2=x % 2:=by
 simp only [zbR];unfold B;omega
theorem zba (w:O) (va:X) (na:Int) (ha:IsD w va na) (hp:0<na) :
  Calls Tryz.prog 199 #[va] w fun e w'=>e = .returned (.bool (na % 2==0))∧Ext w w':=by
 obtain⟨a,m,c,rfl⟩:=ha.form;obtain⟨xs,hl,hi,hc,hv⟩:=ha.open
 cases xs with
 | nil=>simp at hv;omega
 | cons x xs =>
  obtain⟨b,o,rfl,hb,hx⟩:=hi.open (by simp);have hx0:w.cell? ⟨b,o,M⟩=Y (G N x):=by simpa using hx 0 x rfl
  have hl':(0:Int)<(m:Int):=by rw [←hl];simp
  have hA:=and1 x;have e:(na % 2==0)=(x % 2==0):=by rw [←hv,ziR]
  have E:=hd9 e;clear e hv hl hx hc hi ha;go_enter Tryz.func199,Tryz.ntmps199;go_wp2;go_ret;exact⟨zde (by rw [E.out];rfl),(eR w).alloc _⟩
def DivI (g:Nat) (t0 t1:X) (wr wr0:O):Prop:=∃a b:Nat,t0=G .u64 a∧t1=G .u64 b∧a<18446744073709551616∧b<18446744073709551616∧Nat.gcd a b=g∧Ext wr0 wr
theorem zgl (w:O) (a b:Nat) (ha:a<18446744073709551616) (hb:b<18446744073709551616) :
  Calls Tryz.prog 201 #[G .u64 a,G .u64 b] w fun e w'=>e = .returned (G .u64 (Nat.gcd a b:Nat))∧Ext w w':=by
 obtain⟨g,hg⟩:=gX (Nat.gcd a b);rw [hg];go_enter Tryz.func201,Tryz.ntmps201;go_wp2
 go_loopw [0,1] (fun t0 t1 wr=>DivI g t0 t1 wr w) (fun _ t1 _=>(intOf t1).toNat)
 case atStart=>exact⟨a,b,rfl,rfl,ha,hb,hg,eR w⟩
 case round =>
  clear ha hb hg;obtain⟨x,y,rfl,rfl,hx,hy,hg,hxt⟩:=hrel;have Hg:=hd9 hg;clear hg
  by_cases h0:y=0
  ·subst h0
   go_wp2;go_ret;exact⟨zde (zby (by rw [←Hg.out];simp)),hxt⟩
  ·have h1:((y:Int)==0)=false:=by simp;omega
   have h2:((y:Int) != 0)=true:=by simp;omega
   have h3:(1:Int)≤(y:Int):=by omega
   clear h0;go_wp2
   go_quiet (fail)
   go_wp2
   go_roundw
   case rel =>
    have hy0:0<y:=by omega
    have hlt:=Nat.mod_lt x hy0;exact⟨y,x % y,rfl,zby (by simp),hy,by omega,by rw [←Hg.out,Nat.gcd_comm x y,Nat.gcd_rec y x,Nat.gcd_comm],hxt.drewN _⟩
   case measure =>
    have hlt:=Int.emod_lt_of_pos (x:Int) (show (0:Int)<y by omega);have h0:=Int.emod_nonneg (x:Int) (show (y:Int)≠0 by omega);simp [intOf];omega
theorem zic (ys:List Int) (cy:Int):dv B (ys++[cy % 16777216])+B ^ (ys++[cy % 16777216]).length*(cy / 16777216)=dv B ys+B ^ ys.length*cy:=by
 rw [zcR,lA,List.length_singleton,Int.pow_succ];have e:cy=cy % 16777216+B*(cy / 16777216):=by unfold B;omega
 generalize cy % 16777216=r at *
 generalize cy / 16777216=q at *
 subst e
 grind
def WordI (w:O) (n:Int) (t0 t3:X) (wr:O):Prop:=
 ∃(m:Nat) (ys:List Int),t0=G .u64 m∧m<18446744073709551616∧Own 2 wr (w.heap.size+1) t3 ys∧dv B ys+B ^ ys.length*m=n∧Dig B ys∧(m=0→Can B ys)∧ys.length≤3∧(0<m→ys.length≤2)∧(65535<m→ys.length≤1)∧(1099511627775<m→ys.length=0)∧Ext w wr∧w.heap.size<wr.heap.size ∧
  wr.heap[w.heap.size]?=Y (H #[Z M 0 0] 61 (0,0))
theorem zbM (w:O) (n:Int) (h0:0≤n) (h1:n<18446744073709551616) :
  Calls Tryz.prog 115 #[G .u64 n] w fun e w'=>∃r,e = .returned r∧OwnD w' w.heap.size r n∧Ext w w':=by
 obtain⟨n,rfl⟩:=Int.eq_ofNat_of_zero_le h0;go_enter Tryz.func115,Tryz.ntmps115;go_wp2
 go_loopw [0,3] (WordI w n) (fun t0 _ _=>(intOf t0).toNat)
 case atStart=>exact⟨n,[],rfl,by omega,Own.nil _ _ _,by simp,Dig.nil _,fun _=>Can.nil _,by simp,by simp,by simp,by simp,(eR w).alloc _,by simp,aN _ _⟩
 case round =>
  clear h0 h1;obtain⟨m,ys,rfl,hm,hown,hv,hd,hcan,hl3,hl2,hl1,hl0,hx,hs,hres⟩:=hrel;have Hv:=hd9 hv;have Hres:=hd9 hres;obtain⟨a,c,rfl⟩:=hown.form;have hA:=and24u m (by omega) (by omega)
  by_cases hz:m=0
  ·subst hz
   have Hcan:=hd9 (hcan rfl);have hrc:=cell_of_one hres;have hrf:=free_of_one hres;clear hv hres hA hm hl2 hl1 hl0 hcan;go_wp2;refine bR (v:=U #[Z a ys.length c]) (by simp [results,Tryz.results115,go_sem,hrc]) rfl ⟨_,rfl,⟨_,ys,rfl,ownM (by omega) (hown.setOther (p:=⟨w.heap.size,0,M⟩) (hown.ne_block Hres.out (by decide)) _),Hcan.out,?_⟩,hx.set (by simp) _⟩;rw [←Hv.out];simp
  ·have hm0:(0:Int)<(m:Int):=by omega
   have HA:=hd9 hA;have hle2:=hl2 (by omega);clear hv hres hz hA hcan
   go_wp2_with(at_builtin;refine app1 zaM Tryz.underlying59 rfl _ _ rfl rfl hown rfl (by omega) (by omega) ?_;intro v' w1 hown3 hbel3 helse3)
   rw [HA.out,IntWalk.wrap64_in _ ⟨by omega,by omega⟩]at hown3
   go_roundw
   case rel =>
    have hn0:0<m:=by omega
    refine⟨m / 16777216,ys++[(m:Int) % 16777216],zby (by simp),by omega,hown3,?_,hd.snoc (by omega) (by unfold B;omega),?_,?_,?_,?_,?_,hx.thenB hbel3 (by omega),?_,helse3.get Hres.out (by decide)⟩
    ·rw [←Hv.out]
     have h2:=zic ys (m:Int)
     simpa using h2
    ·intro hz
     refine⟨hd.snoc (by omega) (by unfold B;omega),?_⟩;simp;omega
    ·simp;omega
    ·intro h;simp;exact hl1 (by omega)
    ·intro h;have:=hl0 (by omega);rw [lA,List.length_singleton];omega
    ·intro h;omega
    ·have:=hbel3.size;omega
   case measure=>simp [intOf];omega
theorem zi2 (x:Int) (h0:0≤x) (h1:x<16777216):0≤x / 2∧x / 2<8388608∧0≤x % 2∧x % 2≤1:=by omega
def HalfV (xs os:List Int) (i:Nat):Prop:=(i=0→dv B os=0)∧(0<i→2*dv B os=dv B (xs.take i)-dv B xs % 2)
theorem HalfV.step {xs os:List Int} {i:Nat} {x u:Int} (h:HalfV xs os i) (hx:xs[i]?=Y x) (hz:os[i]?=Y 0)
  (hu:(i=0→u=0)∧(0<i→∃z,os[i-1]?=Y z∧u=z+(x % 2)*8388608)) :
  HalfV xs (if i=0 then os.set i (x / 2)else (os.set i (x / 2)).set (i-1) u) (i+1):=by
 refine⟨fun h0=>by omega,fun _=>?_⟩
 rcases i with _|j
 ·cases xs with
  | nil=>simp at hx
  | cons y ys =>
   simp at hx;subst hx;rw [if_pos rfl,zey _ hz,h.1 rfl,ziR];simp;omega
 ·obtain⟨z,hz1,rfl⟩:=hu.2 (by omega)
  simp only [Nat.add_sub_cancel]at hz1;have h2:=h.2 (by omega);rw [if_neg (by omega),Nat.add_sub_cancel,zey (z:=z) _ (by rw [List.getElem?_set_ne (by omega)];exact hz1),zey _ hz,za7 B xs (j+1) x hx,Int.sub_zero,Int.pow_succ];have e:x=x % 2+2*(x / 2):=by omega
  generalize x % 2=r at *
  generalize x / 2=q at *
  subst e;have hB:B=2*8388608:=rfl
  generalize B ^ j=p at *
  generalize dv B xs % 2=s at *
  generalize dv B (List.take (j+1) xs)=t at *
  generalize dv B os=v at *
  rw [hB]
  grind
def HalfB (os:List Int) (i:Nat):Prop:=∀j x,os[j]?=Y x→0≤x∧x<16777216∧(i≤j+1→x<8388608)∧(i≤j→x=0)
def HalfI (w:O) (xs:List Int) (m:Nat) (t13:X) (wr:O):Prop:=
 ∃(i:Nat) (os:List Int),t13=G N i∧i≤m∧os.length=m∧Own 2 wr (w.heap.size+1+1) (Z (Y ⟨w.heap.size+1+1,0,M⟩) m m) os ∧
  HalfV xs os i∧HalfB os i∧Ext w wr∧w.heap.size+1+1<wr.heap.size∧wr.heap[w.heap.size+1]?=Y (H #[Z M 0 0] 61 (0,0))
theorem zdl (w:O) (va:X) (na:Int) (ha:IsD w va na) (hla:Lm lim na) :
  Calls Tryz.prog 200 #[va] w fun e w'=>∃r,e = .returned r∧OwnD w' w.heap.size r (na / 2)∧Ext w w':=by
 obtain⟨a,m,c,rfl⟩:=ha.form;obtain⟨xs,hl,hi,hc,hv⟩:=ha.open;have hm:=hla.len hc hv;rw [hl]at hm;unfold lim at hm;have Hl:=hd9 hl;have Hv:=hd9 hv;clear hl hv;go_enter Tryz.func200,Tryz.ntmps200
 go_wp2_with(at_make;refine mk0 (n:=m) zaM Tryz.underlying59 rfl _ _ rfl _ rfl rfl rfl (by omega) ?_;intro w1 hown1 hx1 hs1;obtain⟨hc1,hf1⟩:=hx1.cells;simp only [wZ]at hown1 hs1)
 go_loopw [13] (HalfI w xs m) (fun t13 _=>m-(intOf t13).toNat)
 case atStart =>
  refine⟨0,_,rfl,by omega,by simp,hown1,⟨fun _=>zaP _ _,fun h=>by omega⟩,?_,((eR w).alloc _).alloc _ |>.trans hx1,by omega,?_⟩
  ·intro j x hj;have:=(List.mem_replicate.1 (lM hj)).2;subst this;simp
  ·rw [hx1.block (by simp)];exact qhA _ _ _ (by simp)
 case round =>
  clear hown1 hx1 hc1 hf1 hs1;obtain⟨i,os,rfl,him,hol,hown,hdv,hob,hx,hsz,hres⟩:=hrel;have Hol:=hd9 hol;have Hres:=hd9 hres;clear hol hres
  by_cases hlt:i<m
  ·obtain⟨b,o,rfl,hb1,hx1⟩:=(hi.ext hx).open (by rw [Hl.out];omega)
   obtain⟨x,hxj⟩:∃x,xs[i]?=Y x:=⟨xs[i]'(by rw [Hl.out];omega),by simp [Hl.out]⟩;have hcx:=hx1 i x hxj;obtain⟨z0,hz0⟩:∃z,os[i]?=Y z:=⟨os[i]'(by rw [Hol.out];omega),by simp [Hol.out]⟩;have hzz:=(hob _ _ hz0).2.2.2 (nE _);subst hzz;have hc0:=hown.cell hz0;have hf0:=hown.frozen i;have hxb:=hc.1 x (lM hxj);have hxb2:=zi2 x hxb.1 hxb.2;have hA:=and1 x;have Hxj:=hd9 hxj;have Hz0:=hd9 hz0;clear hx1 hxj hz0 hxb
   rcases i with _|j
   ·simp only [Nat.add_zero]at hcx
    go_wp2
    go_roundw
    case rel =>
     have hst:=hdv.step (u:=0) Hxj.out Hz0.out ⟨fun _=>rfl,fun h=>by omega⟩;rw [if_pos rfl]at hst;refine⟨1,os.set 0 (x / 2),by go_num,by omega,by simp [Hol.out],hown.stored 0 _,hst,?_,hx.set (by dsimp only;omega) _,by simp only [qcZ];exact hsz,?_⟩
     ·intro j y hj
      rw [List.getElem?_set]at hj
      split at hj
      ·subst j;split at hj
       ·cases hj;omega
       ·cases hj
      ·have:=hob j y hj;omega
     ·rw [bS _ _ _ _ (by simp)];exact Hres.out
    case measure=>simp [intOf];omega
   ·obtain⟨z1,hz1⟩:∃z,os[j]?=Y z:=⟨os[j]'(by rw [Hol.out];omega),by simp [Hol.out]⟩
    have hzb:=hob _ _ hz1;have hzb2:=hzb.2.2.1 (nE _);have hzb1:=hzb.1;have hcz:=hown.cell hz1;have hfz:=hown.frozen j;have Hz1:=hd9 hz1;clear hz1 hzb;go_wp2
    go_roundw
    case rel =>
     have hst:=hdv.step (u:=z1+x % 2*8388608) Hxj.out Hz0.out ⟨fun h=>by omega,fun _=>⟨z1,Hz1.out,rfl⟩⟩;rw [if_neg (by omega),Nat.add_sub_cancel]at hst;refine⟨j+1+1,(os.set (j+1) (x / 2)).set j (z1+x % 2*8388608),by go_num,by omega,by simp [Hol.out],(hown.stored _ _).stored _ _,hst,?_,(hx.set (by simp;omega) _).set (by simp;omega) _,by simp only [qcZ];exact hsz,?_⟩
     ·intro q y hj
      rw [List.getElem?_set]at hj
      split at hj
      ·subst q;split at hj
       ·cases hj;omega
       ·cases hj
      ·rw [List.getElem?_set]at hj
       split at hj
       ·subst q;split at hj
        ·cases hj;omega
        ·cases hj
       ·have:=hob q y hj;omega
     ·rw [bS _ _ _ _ (by simp),bS _ _ _ _ (by simp)];exact Hres.out
    case measure=>simp [intOf];omega
  ·obtain rfl:i=m:=by omega
   have hrc:=cell_of_one Hres.out;have hrf:=free_of_one Hres.out;have hdig:Dig B os:=fun d hd=>by obtain⟨j,hj⟩:=List.mem_iff_getElem?.1 hd;have:=hob j d hj;exact⟨this.1,this.2.1⟩
   have hpos:0≤dv B os:=(zay zbA hdig).1
   go_wp2_with(go_at_call 144;refine(zaW (w.heap.size+1+1) _ os _ hown (by omega) (by rw [Hol.out];omega) (fun x hx=>by have:=hdig x hx;unfold B at this;omega) hpos).mono ?_;rintro e w3 ⟨v',zs,rfl,hzc,hzv,hown3,hb3,he3⟩;obtain⟨hc3,hf3⟩:=zaE hb3;obtain⟨a4,c4,rfl⟩:=hown3.form;have Hzv:=hd9 hzv;clear hzv)
   refine bR (v:=U #[Z a4 zs.length c4]) (by simp [results,Tryz.results200,go_sem,hc3,hrc]) rfl ⟨_,rfl,⟨_,zs,rfl,ownM (by omega) (hown3.setOther (p:=⟨w.heap.size+1,0,M⟩) (hown3.ne_block ((hb3.block _ (by dsimp only;omega)).trans Hres.out) (by decide)) _),hzc,?_⟩,(hx.thenB hb3 (by omega)).set (by simp) _⟩;rw [Hzv.out]
   rcases i with _|j
   ·rw [hdv.1 rfl,←Hv.out,List.eq_nil_of_length_eq_zero Hl.out];rfl
   ·have:=hdv.2 (by omega)
    rw [lT (by rw [Hl.out];omega),Hv.out]at this;omega
theorem zhO (b k:Int) (xs:List Int):dv b (xs.map (·*k))=k*dv b xs:=by
 induction xs with
 | nil=>simp
 | cons x xs ih=>simp only [List.map_cons,zbR,ih];grind
theorem zhi (r:Nat) (h:r<24):(1:Int)≤2 ^ r∧(2:Int) ^ r≤8388608:=by
 have h2:(2:Int) ^ r≤2 ^ 23:=by
  obtain⟨k,hk⟩:=Nat.exists_eq_add_of_le (show r≤23 by omega);have:(2:Int) ^ 23=2 ^ r*2 ^ k:=by rw [←Int.pow_add,←hk]
  have h1:(0:Int)<2 ^ k:=Int.pow_pos (by decide);have h3:(0:Int)<2 ^ r:=Int.pow_pos (by decide);have:(2:Int) ^ r*1≤2 ^ r*2 ^ k:=Int.mul_le_mul_of_nonneg_left (by omega) (by omega);omega
 have h3:(0:Int)<2 ^ r:=Int.pow_pos (by decide);exact⟨by omega,h2⟩
theorem znv (q:Nat):B ^ q=2 ^ (24*q):=by
 rw [Int.pow_mul];rfl
def ShI (w:O) (xs:List Int) (m k:Nat) (t5 t21:X) (wr:O):Prop:=
 ∃(i:Nat) (a2:Option S) (c2:Nat),t21=G N i∧i≤m∧t5=Z a2 (k / 24+i) c2∧Own 2 wr (w.heap.size+1+1) t5 (List.replicate (k / 24) 0++(xs.take i).map (·*2 ^ (k % 24))) ∧
  Ext w wr∧w.heap.size+1+1<wr.heap.size∧wr.heap[w.heap.size+1]?=Y (H #[Z M 0 0] 61 (0,0))
theorem zea (w:O) (va:X) (na:Int) (k:Nat) (ha:IsD w va na) (hla:Lm lim na) (hk:k≤10000000000) :
  Calls Tryz.prog 202 #[va,G N k] w fun e w'=>∃r,e = .returned r∧OwnD w' w.heap.size r (2 ^ k*na)∧Ext w w':=by
 obtain⟨a,m,c,rfl⟩:=ha.form;obtain⟨xs,hl,hi,hc,hv⟩:=ha.open;have hm:=hla.len hc hv;rw [hl]at hm;unfold lim at hm;have Hl:=hd9 hl;have Hv:=hd9 hv;clear hl hv;go_enter Tryz.func202,Tryz.ntmps202
 go_wp2_with(at_make;refine mkc (n:=k / 24) (m:=k / 24+m+1) zaM Tryz.underlying59 rfl _ _ rfl _ _ rfl rfl (by simp) (by simp) (by omega) (by omega) ?_;intro w1 hown1 hx1 hs1;obtain⟨hc1,hf1⟩:=hx1.cells;simp only [wZ]at hown1 hs1)
 go_loopw [5,21] (ShI w xs m k) (fun _ t21 _=>m-(intOf t21).toNat)
 case atStart =>
  refine⟨0,_,_,rfl,by omega,rfl,by simpa using hown1,((eR w).alloc _).alloc _ |>.trans hx1,by omega,?_⟩;rw [hx1.block (by simp)];exact qhA _ _ _ (by simp)
 case round =>
  clear hown1 hx1 hc1 hf1 hs1;obtain⟨i,a2,c2,rfl,him,rfl,hown,hx,hsz,hres⟩:=hrel;have Hres:=hd9 hres;clear hres
  by_cases hlt:i<m
  ·obtain⟨b,o,rfl,hb1,hx1⟩:=(hi.ext hx).open (by rw [Hl.out];omega)
   obtain⟨x,hxj⟩:∃x,xs[i]?=Y x:=⟨xs[i]'(by rw [Hl.out];omega),by simp [Hl.out]⟩;have hcx:=hx1 i x hxj;have hxb:=hc.1 x (lM hxj);have Hxj:=hd9 hxj;have Hxb:=hd9 hxb;have hr0:(0:Int)≤(k:Int) % 24:=by omega
   have hr1:(k:Int) % 24<24:=by omega
   clear hx1 hxj hxb
   go_wp2_with(at_builtin;refine app1 zaM Tryz.underlying59 rfl _ _ rfl rfl hown rfl (by simp;omega) (by omega) ?_;intro v' w2 hown3 hbel3 helse3)
   go_roundw
   case rel =>
    obtain⟨a3,c3,rfl⟩:=hown3.form;have hp:=zhi (k % 24) (Nat.mod_lt _ (by decide));have hxb:=Hxb.out;unfold B at hxb;have h1:0≤x*2 ^ (k % 24):=Int.mul_nonneg hxb.1 (by omega);have h2:x*2 ^ (k % 24)≤16777216*8388608:=Int.mul_le_mul (by omega) hp.2 (by omega) (by omega);rw [IntWalk.wrap64_in _ ⟨by omega,by omega⟩]at hown3 ⊢
    have hln:(List.replicate (k / 24) 0++List.map (fun x=>x*2 ^ (k % 24)) (List.take i xs)++[x*2 ^ (k % 24)]).length=k / 24+(i+1):=by
     have:=Hl.out;simp;omega
    rw [hln]at hown3 ⊢;refine⟨i+1,a3,c3,by go_num,by omega,rfl,?_,hx.thenB hbel3 (by omega),?_,helse3.get Hres.out (by decide)⟩
    ·rw [zab _ _ _ Hxj.out,List.map_append,←List.append_assoc];exact hown3
    ·have:=hbel3.size;omega
   case measure=>simp [intOf];omega
  ·obtain rfl:i=m:=by omega
   have hrc:=cell_of_one Hres.out;have hrf:=free_of_one Hres.out;rw [lT (by rw [Hl.out];omega)]at hown;obtain⟨os,hos⟩:∃os,os=List.replicate (k / 24) 0++xs.map (·*2 ^ (k % 24)):=⟨_,rfl⟩;have hol:os.length=k / 24+i:=by rw [hos];simp [Hl.out]
   rw [←hos]at hown
   have hval:dv B os=2 ^ k*na:=by
    rw [hos,zaK,zaP,zhO,List.length_replicate,Hv.out,znv,Int.zero_add,←Int.mul_assoc,←Int.pow_add]
    congr 2;omega
   have hent:∀x∈os,-4611686018427387904≤x∧x≤4611686018427387904:=by
    intro x hx;rw [hos]at hx
    rcases List.mem_append.1 hx with h|h
    ·have:=(List.mem_replicate.1 h).2;omega
    ·obtain⟨y,hy,rfl⟩:=List.mem_map.1 h
     have hyb:=hc.1 y hy;unfold B at hyb;have hp:=zhi (k % 24) (Nat.mod_lt _ (by decide));have h1:0≤y*2 ^ (k % 24):=Int.mul_nonneg hyb.1 (by omega);have h2:y*2 ^ (k % 24)≤16777216*8388608:=Int.mul_le_mul (by omega) hp.2 (by omega) (by omega);omega
   have hpos:0≤dv B os:=by rw [hval];exact Int.mul_nonneg (Int.le_of_lt (Int.pow_pos (by decide))) ha.nonneg
   have Hval:=hd9 hval;have Hol:=hd9 hol;clear hval hol hos hi ha hc
   go_wp2_with(go_at_call 144;with_reducible refine(zaW (w.heap.size+1+1) _ os _ hown (by omega) (by rw [Hol.out];omega) hent hpos).mono ?_;rintro e w3 ⟨v',zs,rfl,hzc,hzv,hown3,hb3,he3⟩;obtain⟨hc3,hf3⟩:=zaE hb3;obtain⟨a4,c4,rfl⟩:=hown3.form;have Hzv:=hd9 hzv;clear hzv)
   refine bR (v:=U #[Z a4 zs.length c4]) (by simp [results,Tryz.results202,go_sem,hc3,hrc]) rfl ⟨_,rfl,⟨_,zs,rfl,ownM (by omega) (hown3.setOther (p:=⟨w.heap.size+1,0,M⟩) (hown3.ne_block ((hb3.block _ (by dsimp only;omega)).trans Hres.out) (by decide)) _),hzc,?_⟩,(hx.thenB hb3 (by omega)).set (by dsimp only;omega) _⟩;rw [Hzv.out,Hval.out]
end
section
open Go.RowKit Go.Shelf
attribute [local go_sem] Oper.semAt_some
def Sim (B:Nat) (W W':O):Prop:=Below B W W'∧∀(k:Nat) (o:Obj),W.heap[k]?=Y o→o.isCells=true→W'.heap[k]?=Y o
theorem Sim.of_grown {B:Nat} {W W':O} {row:Option Nat} (hg:W.grownBy W' row) (hB:B≤W.heap.size) (hr:∀r,row=Y r→B≤r∧∃o:Obj,W.heap[r]?=Y o∧o.isCells=false):Sim B W W':=by
 refine⟨(Below.refl B W).grown hg hB (fun k hk=>(hr k hk).1),fun k o hk ho=>?_⟩;rw [hg.block k (zaa hk) (fun e=>by obtain⟨_,o',h1,h2⟩:=hr k e.symm;rw [h1]at hk;cases hk;rw [h2]at ho;cases ho)];exact hk
theorem Sim.keep {B:Nat} {W W':O} (h:Sim B W W') (T:TypeId):KeepT T W W':=fun b cs fr hb=>h.2 b _ hb rfl
theorem Sim.ext {B:Nat} {w W W':O} (h:Sim B W W') (k:Ext w W) (hB:w.heap.size≤B):Ext w W':=k.thenB h.1 hB
theorem Sim.heap {B:Nat} {W W':O} (h:Sim B W W') {b:Nat} {cs:Array X} {T:TypeId} {fr:Nat×Nat} (hb:W.heap[b]?=Y (H cs T fr)):W'.heap[b]?=Y (H cs T fr):=h.2 b _ hb rfl
theorem Sim.size {B:Nat} {W W':O} (h:Sim B W W'):W.heap.size≤W'.heap.size:=h.1.size
theorem zaj {β:Type} {B:Nat} {I:β→O→Prop} (hs:∀s W,I s W→B≤W.heap.size) (h:∀s W W',I s W→Sim B W W'→I s W'):OwnFrom B I:=
 fun s W W' _ hi hg hr=>h s W W' hi (Sim.of_grown hg (hs s W hi) hr)
theorem zgR (w:O) (sl:Option S) (n c:Nat) :
  Calls Tryz.prog 141 #[U #[Z sl n c]] w fun e w'=>e = .returned (.func (.func 181) #[] #[Oa (Y ⟨w.heap.size,0,M⟩)])∧w.alloc (H #[Z sl n c] 61)=w':=by
 have hmf:∀(fn:Fn) (first cap:Array X) (w:O),(Instr.makeFunc fn first cap).run Tryz.prog w = .ok (.func fn first cap) w:=fun _ _ _ _=>rfl
 go_enter Tryz.func141,Tryz.ntmps141;go_wp2;go_ret;exact⟨rfl,rfl⟩
abbrev Dgt:={ x:Int // 0≤x∧x<16777216 }
def vals (xs:List Dgt):List Int:=xs.map (·.1)
theorem zgF:∀{xs:List Int},Dig B xs→∃ds:List Dgt,vals ds=xs
 | [],_=>⟨[],rfl⟩
 | x::xs,h=>by
  obtain⟨ds,hd⟩:=zgF (fun d hd=>h d (mC _ hd):Dig B xs);exact⟨⟨x,h x (List.mem_cons_self)⟩::ds,congrArg (x::·) hd⟩
theorem zlp (xs:List Dgt):Dig B (vals xs):=by
 intro d hd;obtain⟨x,_,rfl⟩:=List.mem_map.1 hd;exact x.2
@[simp] theorem zbL (xs : List Dgt) : (vals xs).length = xs.length := by simp [vals]
def KpW (w:O) (bx:Nat) (W W':O):Prop:=Below w.heap.size W W'∧W'.heap[bx]?=W.heap[bx]?
theorem KpW.refl (w:O) (bx:Nat) (W:O):KpW w bx W W:=⟨Below.refl _ _,rfl⟩
theorem KpW.trans {w:O} {bx:Nat} {A B C:O} (h:KpW w bx A B) (k:KpW w bx B C):KpW w bx A C:=⟨h.1.trans k.1,k.2.trans h.2⟩
theorem KpW.put {w:O} {bx:Nat} {w0:O} (hw:w.heap.size≤w0.heap.size) (hb:bx<w0.heap.size) (W:O) (l:Nat) (o o':Obj) (hl:w0.heap.size≤l) (h:W.heap[l]?=Y o) (_:o.isCells=false) (_:o.isWalk=false):KpW w bx W (W.putObj l o'):=by
 have hg:=grownBy_putObj' W l o';have hlt:=zaa h;exact⟨(Below.refl _ W).grown hg (by omega) (fun k e=>by cases e;omega),hg.block bx (by omega) (by intro e;cases e;omega)⟩
theorem KpW.set {w:O} {bx:Nat} {A B:O} (h:KpW w bx A B) {p:S} (hp:w.heap.size≤p.block) (hb:p.block≠bx) (u:X):KpW w bx A (B.setCell p u):=
 ⟨h.1.setCell hp u,(bS _ _ _ _ (fun e=>hb e.symm)).trans h.2⟩
theorem KpW.ext {w:O} {bx:Nat} {A B C:O} (h:KpW w bx A B) (k:Ext B C) (hw:w.heap.size≤B.heap.size) (hb:bx<B.heap.size):KpW w bx A C:=⟨h.1.trans (Below.mono k hw),(k.block hb).trans h.2⟩
theorem KpW.below {w:O} {bx:Nat} {A B C:O} {n:Nat} (h:KpW w bx A B) (k:Below n B C) (hw:w.heap.size≤n) (hb:bx<n):KpW w bx A C:=⟨h.1.trans (Below.mono k hw),(k.block _ hb).trans h.2⟩
theorem KpW.drewN {w:O} {bx:Nat} {A B:O} (h:KpW w bx A B) (n:Nat):KpW w bx A (B.drewN n):=⟨below_drewN h.1 n,h.2⟩
theorem zkG (F:Fence) (n:Nat) (hf:F.fn 181) (hro:F.round=M) (hn:1≤n) (l bx:Nat) (w w0:O) (sl:X) (xs:List Dgt) (J Jx:List Dgt→O→Prop)
  (hY:∀pre x W,J pre W→pre.length<xs.length→YieldAt F (n-1) Tryz.prog l #[G N x.1] W fun e W' =>
   (e = .returned (.bool true)∧J (pre++[x]) W'∧KpW w bx W W')∨(e = .returned (.bool false)∧Jx (pre++[x]) W'))
  (hbx:w0.cell? ⟨bx,0,M⟩=Y sl) (hbl:bx<w0.heap.size) (hi:Ints 2 w sl (vals xs)) (hw:Ext w w0) (W:O) (hW:KpW w bx w0 W) (h0:J [] W) :
  CallsIn F n Tryz.prog 181 #[.func (.yield l) #[] #[],Oa (Y ⟨bx,0,M⟩)] W fun e W'=>(∃v,e = .returned v) ∧
   ((∃ys,ys=xs.reverse∧J ys W')∨(∃pre,pre <+: xs.reverse∧Jx pre W')):=by
 obtain⟨a,c,rfl⟩:=hi.form;have hle:=hi.le;obtain⟨m,hm⟩:=gX xs.length;rw [zbL,hm]at hi hbx hle;rw [hm]at hY;unfold maxLen at hle;have Hm:=hd9 hm;clear hm;have hbx1:W.cell? ⟨bx,0,M⟩=Y (Z a m c):=(World.cell?_of_block hW.2).trans hbx;refine callsIn_of_wp Tryz.func181 rfl hf ?_ hro;simp only [Tryz.ntmps181,List.size_toArray,List.length_cons,List.length_nil,Nat.reduceAdd,Nat.reduceSub,Array.replicate_succ,Array.replicate_zero,List.push_toArray,List.append_toArray,List.nil_append,List.cons_append]
 gi_wp2
 gi_loopw [3] (fun t3 wr=>∃k:Nat,k≤m∧t3=G N ((k:Int)-1)∧J (xs.drop k).reverse wr∧KpW w bx w0 wr)
  (fun t3 _=>(intOf t3+1).toNat)
 case atStart=>exact⟨m,nE _,rfl,by rw [List.drop_of_length_le (by rw [Hm.out];omega)];exact h0,hW⟩
 case round =>
  obtain⟨k,hkm,rfl,hJ,hx⟩:=hrel
  rcases k with _|k
  ·gi_wp2
   go_end0
   exact⟨⟨_,rfl⟩,.inl ⟨_,rfl,by simpa using hJ⟩⟩
  ·rw [show (((k+1:Nat):Int)-1)=(k:Int) by omega]
   obtain⟨b,o,rfl,hb,hc⟩:=(hi.ext (hw.thenB hx.1 (nE _))).open (by rw [zbL,Hm.out];omega);obtain⟨x,hxk⟩:∃x,xs[k]?=Y x:=⟨xs[k]'(by rw [Hm.out];omega),by simp [Hm.out]⟩;have hcx:=hc k x.1 (by simp [vals,hxk]);have hbx2:wr.cell? ⟨bx,0,M⟩=Y (Z (Y ⟨b,o,M⟩) m c):=(World.cell?_of_block hx.2).trans hbx;clear hc;obtain⟨fn,tmps,assign,body,hy,hR⟩:=hY _ x wr hJ (by simp only [List.length_reverse,List.length_drop,Hm.out];omega);have Hxk:=hd9 hxk;have hdr:(List.drop (k+1) xs).reverse++[x]=(xs.drop k).reverse:=by rw [zav Hxk.out,List.reverse_cons]
   have Hdr:=hd9 hdr;clear hxk hdr
   gi_wp2
   refine hR.mono ?_;rintro e W3 (⟨rfl,hJ3,hk3⟩|⟨rfl,hJx3⟩)
   ·gi_wp2
    go_roundw
    case rel=>exact⟨k,by omega,rfl,by rw [←Hdr.out];exact hJ3,hx.trans hk3⟩
    case measure=>simp [intOf]
   ·gi_wp2
    refine bR (results_none rfl _ _ _) rfl ?_;refine⟨⟨_,rfl⟩,.inr ⟨_,?_,hJx3⟩⟩;rw [Hdr.out];refine⟨(xs.take k).reverse,?_⟩;rw [←List.reverse_append,List.take_append_drop]
theorem zex (F:Fence) (n:Nat) (hf:F.fn 181) (hro:F.round=M) (hn:1≤n) (bx:Nat) (w w0:O) (sl:X) (xs:List Dgt)
  (hbx:w0.cell? ⟨bx,0,M⟩=Y sl) (hbl:bx<w0.heap.size) (hi:Ints 2 w sl (vals xs)) (hw:Ext w w0) :
  SeqStopsK F n Tryz.prog 181 #[Oa (Y ⟨bx,0,M⟩)] (fun x:Dgt=>#[G N x.1]) (KpW w bx) (fun ys=>ys=xs.reverse) (fun pre=>pre <+: xs.reverse) xs.length w0:=
 fun l J Jx W hW _ _ hY h0=>zkG F n hf hro hn l bx w w0 sl xs J Jx hY hbx hbl hi hw W ((KpW.refl w bx w0).ext hW hw.size hbl) h0
def hv (pre:List Dgt):Int:=dv B (vals pre).reverse
theorem zgq (pre:List Dgt) (x:Dgt):hv (pre++[x])=x.1+B*hv pre:=by simp [hv,vals]
theorem zi6 (xs:List Dgt):hv xs.reverse=dv B (vals xs):=by simp [hv,vals]
theorem zi5 (pre:List Dgt):0≤hv pre∧hv pre<B ^ pre.length:=by
 have:=zay zbA (show Dig B (vals pre).reverse from fun d hd=>zlp pre d (List.mem_reverse.1 hd))
 simpa [hv] using this
theorem or24u (n x:Int) (h0:0≤n) (h1:n<1099511627776) (h2:0≤x) (h3:x<16777216):bits BinOp.or IntKind.u64 (n*16777216) x=n*16777216+x:=by
 obtain⟨a,rfl⟩:=Int.eq_ofNat_of_zero_le h0;obtain⟨b,rfl⟩:=Int.eq_ofNat_of_zero_le h2;have e2:((a*16777216:Nat):Int)=(a:Int)*16777216:=by simp
 have e3:((a*16777216+b:Nat):Int)=(a:Int)*16777216+(b:Int):=by simp
 have hb1:a*16777216<18446744073709551616:=by omega
 have hb2:b<18446744073709551616:=by omega
 have e:a*16777216 ||| b=a*16777216+b:=by
  have:=Nat.shiftLeft_add_eq_or_of_lt (show b<2 ^ 24 by omega) a;rw [Nat.shiftLeft_eq]at this;exact this.symm
 have h:=bits_or_u64_nat (a*16777216) b hb1 hb2;rw [e,e2,e3]at h;exact h
def WmI (w:O) (pre:List Dgt) (W:O):Prop:=
 Ext w W∧w.heap.size+1+1+1≤W.heap.size∧W.heap[w.heap.size+1]?=Y (H #[G .u64 (hv pre)] 172 (0,0))
theorem zcI (w:O) (va:X) (na:Int) (ha:IsD w va na) (hla:Lm 2 na) :
  Calls Tryz.prog 107 #[va] w fun e w'=>e = .returned (G .u64 na)∧Ext w w':=by
 obtain⟨a,m,c,rfl⟩:=ha.form;obtain⟨xs,hl,hi,hc,hv⟩:=ha.open;have hm:=hla.len hc hv;obtain⟨ds,rfl⟩:=zgF hc.1;have Hl:=hd9 hl;have Hv:=hd9 hv;clear hl hv;refine(callsIn_wide (n:=5)).1 ?_;refine callsIn_of_wp_marks Tryz.func107 rfl trivial ?_ rfl;simp only [Tryz.ntmps107,List.size_toArray,List.length_cons,List.length_nil,Nat.reduceAdd,Nat.reduceSub,Array.replicate_succ,Array.replicate_zero,List.push_toArray,List.append_toArray,List.nil_append,List.cons_append]
 gi_wp2_with(refine⟨trivial,?_⟩;gi_at_call 141;refine(callsIn_wide.2 (zgR _ _ _ _)).mono ?_;rintro e w' ⟨rfl,rfl⟩)
 have hbx:(((w.alloc (H #[Z a m c] 61)).alloc (H #[G .u64 0] 172)).alloc (H #[Z a m c] 61)).cell? ⟨w.heap.size+1+1,0,M⟩=Y (Z a m c):=by
  rw [World.cell?_alloc_at _ _ _ _ (by simp)];rfl
 refine wpIn_rangeFunc_ownG rfl (by decide) (gf:=181) (lb:=#[Oa (Y ⟨w.heap.size+1+1,0,M⟩)]) rfl trivial (enters_of Tryz.func181 (by kernel_rfl) rfl)
  (zex _ _ trivial rfl (by decide) (w.heap.size+1+1) w _ _ ds hbx (by simp) hi ((((eR w).alloc _).alloc _).alloc _)) KpW.trans (KpW.put (by simp;omega) (by simp)) (Below.refl _ _) (fun _=>rfl)
  (WmI w) (fun _ _ _=>False) (zaj (fun s W h=>by have:=h.2.1;simp;omega) (fun s W W' h k=>?hsim)) (fun _=>zaj (fun _ _ h=>h.elim) (fun _ _ _ h _=>h)) ?h0
  (fun x=>{ tmps:=#[U #[Z a m c],Oa (Y ⟨w.heap.size,0,M⟩),G .u64 0,Oa (Y ⟨w.heap.size+1,0,M⟩),G N x.1,U #[Z a m c],.func (.func 181) #[] #[Oa (Y ⟨w.heap.size+1+1,0,M⟩)],G N x.1,undef,undef,undef,undef,undef,undef],defers:=[] }) ?assign ?body ?done ?stop
 case hsim =>
  obtain⟨h3,h4,h5⟩:=h;exact⟨k.ext h3 (by simp;omega),by have:=k.size;omega,k.heap h5⟩
 case h0=>exact⟨(((eR w).alloc _).alloc _).alloc _,by simp,by rw [Below.heap_alloc _ _ _ (by simp)];exact qhA _ _ _ (by simp)⟩
 case assign =>
  intro l x W K hK
  gi_wp2
  exact hK
 case body =>
  rintro l pre x W ⟨h3,h4,h5⟩ hlt;have hb:=zi5 pre;have hx0:=x.2.1;have hx1:=x.2.2
  have hpl:hv pre<16777216:=by
   have:=zbh (b:=B) (by decide) (show pre.length≤1 by have h5:=Hl.out;have h6:=zbL ds;omega);unfold B at *;omega
  have h1:=cell_of_one h5;have h2:=free_of_one h5;have H5:=hd9 h5;clear h5;obtain⟨n,hn⟩:=gX (hv pre);rw [hn]at h1 hb hpl;have hor:=or24u n x.1 hb.1 (by omega) hx0 hx1;have Hn:=hd9 hn;have hn0:=hb.1;clear hn hb
  gi_wp2
  refine⟨(KeepsOthers.setCell _ _ _).from _,(KpW.refl _ _ W).set (p:=⟨w.heap.size+1,0,M⟩) (by dsimp only;omega) (by simp) _,h3.set (by dsimp only;omega) _,by simp only [qcZ];exact h4,?_⟩;rw [one_setCell H5.out,zgq,Hn.out,show x.1+B*n=n*16777216+x.1 by unfold B;omega]
 case done =>
  rintro D ys W hD rfl ⟨h3,h4,h5⟩ hK;rw [zi6,Hv.out]at h5;have h1:=cell_of_one h5;have hDs:w.heap.size≤D:=by simp at hD;omega
  have H5:=hd9 h5;clear h5
  gi_wp2
  refine⟨by simp,.inl ⟨_,_,rfl,run_takeDeferred hK,?_⟩⟩;refine⟨_,results_tmp rfl _ _ _,rfl,?_⟩;exact h3.thenB ((Below.refl D W).grown (grownBy_putObj' W D _) (by have:=zaa hK;omega) (fun k e=>by cases e;omega)) hDs
 case stop =>
  rintro D c pre W _ _ h _;exact h.elim
end
end Go.Proofs.YtodpfeaihohpjaaGreatDoor.Cop
