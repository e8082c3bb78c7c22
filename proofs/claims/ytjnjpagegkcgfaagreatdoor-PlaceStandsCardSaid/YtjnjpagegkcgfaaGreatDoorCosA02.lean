/- Part 3. -/
import Derived.Test.YtjnjpagegkcgfaaGreatDoorProg
import Derived.WalkKit
import Derived.Lib.Hide
import Derived.Deep.QuietTactic
import Derived.BigQuiet
import Derived.Deep.RegionHeld3
import Derived.WalkSpells
import Derived.WalkLawsBesides
import Derived.Maps.AppendAt
import Derived.Laws.CopyOwn
import Derived.Laws.AppendOwnNone
import Derived.OwnWalkIn
import Derived.Test.YtjnjpagegkcgfaaGreatDoorCosA00
import Derived.RangeFuncNested
import Derived.RangeFuncBound
import Derived.RangeFuncCalls
import Derived.RangeFuncLeaves
import Derived.Shelf.Abstract
import Derived.Shelf.RegionOpen
import Derived.TacticsInMore
import Derived.LoopNIn
import Derived.LoopIn
set_option maxRecDepth 1000000
set_option maxHeartbeats 16000000
set_option linter.unusedSimpArgs false
set_option linter.unusedVariables false
open Go renaming World->O,Value->X,Addr->U
open Option renaming some->Y,none->M
open Go.Value renaming slice->Z,int->G,agg->Oa,pointer->Ob
open Go.IntKind renaming i64->N
open Go.Obj renaming cells->H
namespace Go.Proofs.YtjnjpagegkcgfaaGreatDoor.Cop
section
open Go.RowKit
theorem kM{p:Prop}(h:p:=by kernel_rfl):p:=h
theorem zli{w:O}{b:Nat}{o:Obj}(h:w.heap[b]?=Y o):b<w.heap.size:=(Array.getElem?_eq_some_iff.1 h).1
def Ext(w w':O):Prop:=Below w.heap.size w w'
theorem Ext.refl(w:O):Ext w w:=Below.refl _ w
theorem Ext.trans{a b c:O}(h:Ext a b)(k:Ext b c):Ext a c:=Below.trans h (Below.mono k h.size)
theorem Ext.alloc{a b:O}(h:Ext a b)(o:Obj):Ext a (b.alloc o):=Below.alloc h h.size o
theorem Ext.drewN{a b:O}(h:Ext a b)(n:Nat):Ext a (b.drewN n):=below_drewN h n
theorem Ext.drew{a b:O}(h:Ext a b):Ext a b.drew:=Below.drew h
theorem Ext.set{a b:O}(h:Ext a b){p:U}(d:a.heap.size<=p.block)(u:X):Ext a (b.setCell p u):=Below.setCell h d u
theorem hd9{p:Prop}(h:p):Hid p:=h
theorem wZ(w:O)(o:Obj):(w.alloc o).heap.size=w.heap.size+1:=World.size_alloc w o
theorem lM{α:Type _}{l:List α}{i:Nat}{a:α}(h:l[i]?=Y a):a∈l:=List.mem_of_getElem? h
theorem lS{α:Type _}{l:List α}{i:Nat}{a:α}:l[i]?=Y a ↔ ∃h:i<l.length,l[i]=a:=List.getElem?_eq_some_iff
theorem lP{α β:Type _}{f:α->β}{l:List α}{i:Nat}:(l.map f)[i]?=l[i]?.map f:=List.getElem?_map ..
theorem lL{α β:Type _}{f:α->β}{l:List α}:(l.map f).length=l.length:=List.length_map ..
theorem lT{α:Type _}{l:List α}{n:Nat}(h:l.length<=n):l.take n=l:=List.take_of_length_le h
theorem eR(w:O):Ext w w:=Ext.refl w
theorem gX{α:Sort _}(a:α):∃x,a=x:=⟨a,rfl⟩
theorem nE(n:Nat):n<=n:=Nat.le_refl n
theorem nT{n m k:Nat}(h:n<=m)(b:m<=k):n<=k:=Nat.le_trans h b
theorem gE{α:Type _}{l:List α}{i:Nat}(h:i<l.length):l[i]?=Y l[i]:=List.getElem?_eq_getElem h
theorem gD{α:Type _}{l:List α}{i:Nat}{a:α}:l.getD i a=l[i]?.getD a:=List.getD_eq_getElem?_getD
theorem aN(w:O)(o:Obj):(w.alloc o).heap[w.heap.size]?=Y o:=heap_alloc_new w o
theorem bS(w:O)(a:U)(u:X)(k:Nat)(h:k≠a.block):(w.setCell a u).heap[k]?=w.heap[k]?:=Below.heap_setCell w a u k h
theorem iW(n:Int)(h : -9223372036854775808<=n/\n<=9223372036854775807):IntKind.i64.wrap n=n:=IntWalk.i64_in n h
theorem mC{α:Type _}(y:α){a:α}{l:List α}(h:a∈l):a∈y::l:=List.mem_cons_of_mem y h
theorem lA{α:Type _}{xs b:List α}:(xs++b).length=xs.length+b.length:=List.length_append
theorem cM{P:Program}{f:FuncId}{args:Array X}{w:O}{R b:Ending->O->Prop}(h:Calls P f args w R)(d:∀e w',R e w'->b e w'):Calls P f args w b:=Calls.mono h d
theorem bR{P:Program}{b:Func}{R:Ending->O->Prop}{a:Act}{w:O}{v:X}(f:(results b a.tmps).run P w = .ok v w)(e:a.defers=[])(d:R (.returned v) w):bodyPost P b R .ret a w:=bodyPost_ret f e d
class StQ (c:O) (b:outParam O):Prop where
 up:∀a:O,Ext a b->Ext a c
instance stA (b:O) (o:Obj):StQ (b.alloc o) b:=⟨fun _ h=>h.alloc o⟩
instance stD (b:O):StQ b.drew b:=⟨fun _ h=>h.drew⟩
instance stN (b:O) (n:Nat):StQ (b.drewN n) b:=⟨fun _ h=>h.drewN n⟩
theorem eX{a b c:O}[s:StQ c b](h:Ext a b):Ext a c:=s.up a h
theorem eT{a b c:O}(h:Ext a b)(k:Ext b c:=by with_reducible assumption):Ext a c:=h.trans k
theorem eS{a b:O}{p:U}{u:X}(h:Ext a b)(d:a.heap.size<=p.block:=by(dsimp only;omega)):Ext a (b.setCell p u):=h.set d u
theorem eA{w b:O}(h:Ext w b:=by with_reducible repeat(first|assumption|exact eR _|refine eX ?_|refine eT ?_|refine eS ?_)):Ext w b:=h
theorem gA{α:Type _}{l:List α}{i:Nat}:l.toArray[i]?=l[i]?:=List.getElem?_toArray
theorem gS{α:Type _}{a:α}{l:List α}{i:Nat}:(a::l)[i+1]?=l[i]?:=List.getElem?_cons_succ
theorem gZ{α:Type _}{a:α}{l:List α}:(a::l)[0]?=Y a:=List.getElem?_cons_zero
theorem sA{α:Type _}{l:List α}{i:Nat}{a:α}:l.toArray.setIfInBounds i a=(l.set i a).toArray:=List.setIfInBounds_toArray ..
theorem sZ{α:Type _}{l:List α}{a b:α}:(a::l).set 0 b=b::l:=List.set_cons_zero
theorem sS{α:Type _}{l:List α}{n:Nat}{a b:α}:(a::l).set (n+1) b=a::l.set n b:=List.set_cons_succ
theorem Ext.thenB{a b c:O}{n:Nat}(h:Ext a b)(k:Below n b c)(d:a.heap.size<=n):Ext a c:=Below.trans h (Below.mono k d)
theorem Ext.size{a b:O}(h:Ext a b):a.heap.size<=b.heap.size:=Below.size h
theorem Ext.block{a b:O}(h:Ext a b){k:Nat}(d:k<a.heap.size):b.heap[k]?=a.heap[k]?:=Below.block h k d
theorem qhA(w:O)(o:Obj)(k:Nat)(h:k=w.heap.size):(w.alloc o).heap[k]?=Y o:=by subst h;exact heap_alloc_new w o
theorem Ext.cellS{a b:O}(h:Ext a b){p:U}{v:X}(d:a.cell? p=Y v):b.cell? p=Y v:=by rw[Below.cell h (World.block_lt_of_cell? a p d)];exact d
theorem Ext.heapS{a b:O}(h:Ext a b){k:Nat}{o:Obj}(d:a.heap[k]?=Y o):b.heap[k]?=Y o:=by rw[h.block (zli d)];exact d
theorem Ext.below{a b:O}{n:Nat}(h:Ext a b)(d:n<=a.heap.size):Below n a b:=Below.mono h d
theorem Ext.cells{W d:O}(e:Ext W d):(∀b o,b<W.heap.size->d.cell? ⟨b,o,M⟩=W.cell? ⟨b,o,M⟩)/\(∀b o,b<W.heap.size->d.frozen? ⟨b,o,M⟩=W.frozen? ⟨b,o,M⟩):=
 ⟨fun b o h=>Below.cell e (p:=⟨b,o,M⟩) h,fun b o h=>Below.frozen e (p:=⟨b,o,M⟩) h⟩
theorem zaa{w:O}{b:Nat}{o:Obj}(h:w.heap[b]?=Y o):b<w.heap.size:=(Array.getElem?_eq_some_iff.1 h).1
def KeepT(T:TypeId)(w w':O):Prop:=∀(b:Nat)(d:Array X)(e:Nat×Nat),w.heap[b]?=Y (Obj.cells d T e)->w'.heap[b]?=Y (Obj.cells d T e)
theorem KeepT.refl(T:TypeId)(w:O):KeepT T w w:=fun _ _ _ h=>h
theorem KeepT.trans{T:TypeId}{a b c:O}(h:KeepT T a b)(k:KeepT T b c):KeepT T a c:=fun x d e f=>k x d e (h x d e f)
theorem KeepT.ext{T:TypeId}{a b c:O}(h:KeepT T a b)(k:Ext b c):KeepT T a c:=
 fun x d e f=>by have:=h x d e f;rw[k.block (zaa this)];exact this
theorem Ext.keep{T:TypeId}{a b:O}(h:Ext a b):KeepT T a b:=(KeepT.refl T a).ext h
theorem KeepT.alloc{T:TypeId}{a b:O}(h:KeepT T a b)(o:Obj):KeepT T a (b.alloc o):=h.ext ((Ext.refl b).alloc o)
theorem KeepT.set{T T':TypeId}{a b:O}(h:KeepT T a b){p:U}{d:Array X}{f:Nat×Nat}(j:b.heap[p.block]?=Y (H d T' f))(o:T'≠T)(u:X):KeepT T a (b.setCell p u):=
 fun x k m q=>by
  have i:=h x k m q;rw[Below.heap_setCell _ _ _ _ (by intro e;subst e;rw[i]at j;cases j;exact o rfl)];exact i
def Rd(w:O)(T:TypeId)(k:Nat)(v:X)(n:Nat)(xs:List X):Prop:=
 xs.length=n*k/\∃a c,v=Z a n c/\n<=c/\c<=maxLen /\
  ((n=0/\(a=M->c=0))\/∃b o cs fr,a=Y ⟨b,o,M⟩/\w.heap[b]?=Y (H cs T fr)/\∀(i:Nat)(x:X),xs[i]?=Y x->cs[o+i]?=Y x)
theorem Rd.keep{w w':O}{T:TypeId}{k:Nat}{v:X}{n:Nat}{xs:List X}(h:Rd w T k v n xs)(p:KeepT T w w'):Rd w' T k v n xs:=by
 obtain⟨q,a,c,rfl,i,j,d⟩:=h;refine⟨q,a,c,rfl,i,j,?_⟩
 rcases d with d|⟨b,o,e,f,rfl,m,s⟩
 ·exact .inl d
 ·exact .inr ⟨b,o,e,f,rfl,p _ _ _ m,s⟩
theorem Rd.ext{w w':O}{T:TypeId}{k:Nat}{v:X}{n:Nat}{xs:List X}(h:Rd w T k v n xs)(b:Ext w w'):Rd w' T k v n xs:=h.keep b.keep
theorem Rd.form{w:O}{T:TypeId}{k:Nat}{v:X}{n:Nat}{xs:List X}(h:Rd w T k v n xs):∃a c,v=Z a n c:=by
 obtain⟨_,a,c,rfl,_⟩:=h;exact⟨a,c,rfl⟩
theorem Rd.eqn{w:O}{T:TypeId}{k:Nat}{a:Option U}{m c n:Nat}{xs:List X}(h:Rd w T k (Z a m c) n xs):m=n:=by
 obtain⟨_,a,c,e,_⟩:=h;cases e;rfl
theorem Rd.le{w:O}{T:TypeId}{k:Nat}{a:Option U}{m c n:Nat}{xs:List X}(h:Rd w T k (Z a m c) n xs):n<=c/\c<=maxLen:=by
 obtain⟨_,a,c,e,b,d,_⟩:=h;cases e;exact⟨b,d⟩
theorem Rd.open{w:O}{T:TypeId}{k:Nat}{a:Option U}{m c n:Nat}{xs:List X}(h:Rd w T k (Z a m c) n xs)(p:0<n) :
  ∃b o,a=Y ⟨b,o,M⟩/\b<w.heap.size/\(∃cs fr,w.heap[b]?=Y (H cs T fr))/\∀(i:Nat)(x:X),xs[i]?=Y x->w.cell? ⟨b,o+i,M⟩=Y x:=by
 obtain⟨_,a,c,e,_,_,f⟩:=h
 cases e
 rcases f with f|⟨b,o,cs,fr,rfl,d,j⟩
 ·omega
 ·exact⟨b,o,rfl,zaa d,⟨cs,fr,d⟩,fun i x h=>by simp[World.cell?,d,j i x h]⟩
theorem Rd.nil(w:O)(T:TypeId)(k:Nat):Rd w T k (Z M 0 0) 0 []:=⟨by simp,M,0,rfl,by omega,by unfold maxLen;omega,.inl ⟨rfl,fun _=>rfl⟩⟩
theorem Rd.of_own{w:O}{base:Nat}{T:TypeId}{k:Nat}{v:X}{n:Nat}{xs:List X}(h:w.ownsRow base T k v n xs):Rd w T k v n xs:=by
 obtain⟨j,d⟩:=h;refine⟨j,?_⟩
 rcases d with ⟨rfl,rfl⟩|⟨g,cap,cur,rfl,p,f,m,e,q,o⟩
 ·exact⟨M,0,rfl,by omega,by unfold maxLen;omega,.inl ⟨rfl,fun _=>rfl⟩⟩
 ·refine⟨_,_,rfl,m,e,.inr ⟨g,0,cur,_,rfl,f,fun i x b=>?_⟩⟩
  rw[<-o]at b;rw[Nat.zero_add,<-Array.getElem?_toList];rw[List.getElem?_take]at b
  split at b
  ·exact b
  ·cases b
theorem zcC{w:O}{base:Nat}{e:TypeId}{size:Nat}{v:X}{n:Nat}{xs:List X}(h:w.ownsRow base e size v n xs):∃a c,v=Z a n c:=by
 rcases h.2 with ⟨rfl,rfl⟩|⟨g,cap,cur,rfl,_⟩
 ·exact⟨_,_,rfl⟩
 ·exact⟨_,_,rfl⟩
theorem zhc{w:O}{base:Nat}{e:TypeId}{size:Nat}{a:Option U}{c:Nat}{n:Nat}{xs:List X}(h:w.ownsRow base e size (Z a n c) n xs)(f:0<n):∃g,a=Y ⟨g,0,M⟩/\base<=g:=by
 rcases h.2 with ⟨d,rfl⟩|⟨g,cap,cur,hv,b,_⟩
 ·omega
 ·cases hv;exact⟨g,rfl,b⟩
def lits(k:IntKind)(xs:List Int):List X:=xs.map (Value.int k)
@[simp] theorem zbF(k : IntKind)(xs : List Int) : (lits k xs).length = xs.length := by simp[lits]
theorem zln(k:IntKind)(xs:List Int)(i:Nat)(x:Int):(lits k xs).set i (G k x)=lits k (xs.set i x):=by simp[lits,List.map_set]
theorem zbf(k:IntKind)(xs b:List Int):lits k xs++lits k b=lits k (xs++b):=by simp[lits]
theorem zlm(k:IntKind){xs:List Int}{i:Nat}{x:Int}(h:xs[i]?=Y x):(lits k xs)[i]?=Y (G k x):=by simp[lits,h]
theorem zg3(k:IntKind)(x:Int):lits k [x]=[G k x]:=rfl
def Own(T:TypeId)(w:O)(base:Nat)(v:X)(xs:List Int):Prop:=w.ownsRow base T 1 v xs.length (lits N xs)
def Ints(T:TypeId)(w:O)(v:X)(xs:List Int):Prop:=Rd w T 1 v xs.length (lits N xs)
section
variable {T:TypeId} {w:O} {base:Nat} {v:X} {xs:List Int} {a:Option U} {n c g:Nat}
theorem Own.ints(h:Own T w base v xs):Ints T w v xs:=Rd.of_own h
theorem Own.form(h:Own T w base v xs):∃a c,v=Z a xs.length c:=zcC h
theorem Own.len(h:Own T w base (Z a n c) xs):n=xs.length:=by obtain⟨a,d,b⟩:=zcC h;cases b;rfl
theorem Own.stored(h:Own T w base (Z (Y ⟨g,0,M⟩) n c) xs)(i:Nat)(x:Int) :
  Own T (w.setCell ⟨g,i,M⟩ (G N x)) base (Z (Y ⟨g,0,M⟩) n c) (xs.set i x):=by
 have b:=h.len;subst b;have:=(World.ownsRow.stored h i (G N x)).1;rw[zln]at this
 simpa[Own] using this
theorem Own.cell(h:Own T w base (Z (Y ⟨g,0,M⟩) n c) xs){i:Nat}{x:Int}(b:xs[i]?=Y x):w.cell? ⟨g,i,M⟩=Y (G N x):=by
 have d:=h.len;subst d;have e:i<xs.length:=(lS.1 b).1;rw[World.ownsRow.cellAt h i oM];simp[lits,b]
theorem Own.frozen(h:Own T w base (Z (Y ⟨g,0,M⟩) n c) xs)(i:Nat):w.frozen? ⟨g,i,M⟩=false:=by
 have b:=h.len;subst b;exact World.ownsRow.frozenAt h i
theorem Own.blk(h:Own T w base (Z a n c) xs)(e:0<xs.length):∃g,a=Y ⟨g,0,M⟩/\base<=g/\g<w.heap.size:=by
 have b:=h.len;subst b;obtain⟨g,rfl,d⟩:=zhc h e;exact⟨g,rfl,d,(World.ownsRow.lt h g rfl).2⟩
theorem Own.pop{x:Int}(h:Own T w base (Z (.some ⟨g,0,M⟩) (n+1) c) (xs++[x])):Own T w base (Z (.some ⟨g,0,M⟩) n c) xs:=by
 have b:=h.len;simp at b;subst b;refine ownsRow_pop (last:=lits N [x]) sM ?_;rw[zbf]
 simpa[Own] using h
theorem Own.setOther(h:Own T w base v xs){p:U}(d:v.ownBlock ≠ .some p.block)(u:X):Own T (w.setCell p u) base v xs:=
 World.ownsRow.kept h (row:=.some p.block) ⟨rfl,rfl,rfl,by simp[World.setCell],fun k _ b=>Below.heap_setCell _ _ _ _ (by intro e;exact b (by rw[e]))⟩ (.inr d)
theorem Own.alloc(h:Own T w base v xs)(o:Obj):Own T (w.alloc o) base v xs:=World.ownsRow.alloc h o
theorem Own.keep{w':O}(h:Own T w base v xs)(f:KeepT T w w'):Own T w' base v xs:=by
 obtain⟨i,b⟩:=h;refine⟨i,?_⟩
 rcases b with b|⟨g,cap,cur,hv,d,e,r⟩
 ·exact .inl b
 ·exact .inr ⟨g,cap,cur,hv,d,f _ _ _ e,r⟩
theorem Own.nil(T:TypeId)(w:O)(base:Nat):Own T w base (Z M 0 0) []:=World.ownsRow_nil w base T 1
theorem Own.mono{b':Nat}(h:Own T w base v xs)(e:b'<=base):Own T w b' v xs:=by
 obtain⟨d,b⟩:=h;refine⟨d,?_⟩
 rcases b with b|⟨g,cap,cur,hv,f,r⟩
 ·exact .inl b
 ·exact .inr ⟨g,cap,cur,hv,by omega,r⟩
theorem Ints.ext{w':O}(h:Ints T w v xs)(b:Ext w w'):Ints T w' v xs:=Rd.ext h b
theorem Ints.keep{w':O}(h:Ints T w v xs)(b:KeepT T w w'):Ints T w' v xs:=Rd.keep h b
theorem Ints.form(h:Ints T w v xs):∃a c,v=Z a xs.length c:=Rd.form h
theorem Ints.len(h:Ints T w (Z a n c) xs):n=xs.length:=Rd.eqn h
theorem Ints.le(h:Ints T w (Z a n c) xs):xs.length<=c/\c<=maxLen:=Rd.le h
theorem Ints.open(h:Ints T w (Z a n c) xs)(e:0<xs.length) :
  ∃b o,a = .some ⟨b,o,M⟩/\b<w.heap.size/\∀(i:Nat)(x:Int),xs[i]? = .some x->w.cell? ⟨b,o+i,M⟩ = .some (G N x):=by
 obtain⟨b,o,rfl,d,_,f⟩:=Rd.open h e;exact⟨b,o,rfl,d,fun i x h=>f i _ (zlm _ h)⟩
theorem Ints.nil(T:TypeId)(w:O):Ints T w (Z M 0 0) []:=Rd.nil w T 1
end
theorem zab{α:Type}(xs:List α)(i:Nat)(x:α)(h:xs[i]?=Y x):xs.take (i+1)=xs.take i++[x]:=by
 rw[List.take_add_one,h];rfl
theorem zd2{α:Type}(b xs:List α)(x y:α)(h:xs[b.length]?=Y x):(b++xs.drop b.length).set b.length y=(b++[y])++xs.drop (b.length+1):=by
 have d:=(lS.1 h).1;rw[List.set_append_right _ _ (Nat.le_refl _),Nat.sub_self,List.drop_eq_getElem_cons d,List.set_cons_zero];simp
theorem zdD{α:Type}(b xs:List α)(x:α)(h:xs[b.length]?=Y x):(b++xs.drop b.length)[b.length]?=Y x:=by
 rw[List.getElem?_append_right (Nat.le_refl _),Nat.sub_self,List.getElem?_drop];simpa using h
theorem zan(b:Int)(xs:List Int)(i:Nat)(x:Int)(h:xs[i]?=Y x):dv b (xs.take (i+1))=dv b (xs.take i)+b ^ i*x:=by
 have d:=(lS.1 h).1;rw[zab _ _ _ h,zbu,List.length_take,Nat.min_eq_left oM]
def Else(T:TypeId)(w w':O):Prop:=∀(k:Nat)(o:Obj),w.heap[k]?=Y o->(∀cs fr,o ≠ H cs T fr)->w'.heap[k]?=Y o
theorem Else.get{T T':TypeId}{w w':O}(h:Else T w w'){k:Nat}{cs:Array X}{b:Nat×Nat}(f:w.heap[k]?=Y (H cs T' b))(d:T'≠T):w'.heap[k]?=Y (H cs T' b):=
 h k _ f (fun cs b e=>by cases e;exact d rfl)
theorem Else.keep{T T':TypeId}{w w':O}(h:Else T w w')(b:T'≠T):KeepT T' w w':=fun _ _ _ d=>h.get d b
theorem app1{P:Program}{T t:TypeId}{w:O}{base:Nat}{v:X}{xs:List Int}{y:Int}{ops:Array Oper}{rest:List Oper}{o:Oper}{a:Act}{Q:Exit->Act->O->Prop}
  (j:(P.info? T).map (fun i=>(i.zero,i.size,i.bytes))=Y (Y (G N 0),1,8))(ht:P.underlying t=Y (.slice T))(q:o.guard=M)(s x:Operand)
  (ho:o.op = .call { callee:=.builtin .append,args:=#[s,x],argTypes:=#[t,t] })(hs:a.eval s=v)(d:Own T w base v xs)
  (hx:a.eval x=Z (Y ⟨w.heap.size,0,M⟩) 1 1)(R:xs.length<=1000000000000)(f:base<=w.heap.size)
  (h:∀v' w',Own T w' base v' (xs++[y])->Below base w w'->Else T w w'->wpList P ops Q rest (a.put o.dst v') w'):wpList P ops Q (o::rest) a (w.alloc (H #[G N y] T)):=by
 obtain⟨i,hi,D,K,L⟩:=info_parts j
 refine wpList_append_own _ q s x t ho base T i (G N 0) 1 8 ht hi D K L rfl dM v xs.length (lits N xs) hs (World.ownsRow.alloc d _) ⟨w.heap.size,0,M⟩ 1 1 [G N y] hx rfl
  (cell_one_new _ _ _) (by simp[Value.oneCell']) (by unfold maxLen;omega) oM (by simp;omega) ?_
 intro v' w' m b _;refine h v' w' ?_ ?_ ?_
 ·unfold Own
  rw[<-zbf,zg3,List.length_append];exact m
 ·have hb:Below base w (w.alloc (H #[G N y] T)):=(Below.refl _ _).alloc f _
  refine hb.grown b (by simp;omega) (fun k p=>?_);exact(World.ownsRow.lt d k p).1
 ·intro k ob p z
  have u:=zaa p;rw[b.block k (by simp;omega) ?_,Below.heap_alloc _ _ _ u]
  ·exact p
  ·intro e
   rcases d.2 with ⟨W,_⟩|⟨g,cap,cur,hv,_,hh,_⟩
   ·rw[W]at e;cases e
   ·rw[hv]at e
    cases e
    rw[hh]at p
    cases p
    exact z _ _ rfl
theorem Else.refl(T:TypeId)(w:O):Else T w w:=fun _ _ h _=>h
theorem Else.trans{T:TypeId}{a b c:O}(h:Else T a b)(k:Else T b c):Else T a c:=fun x o e d=>k x o (h x o e d) d
theorem Else.alloc{T:TypeId}{a b:O}(h:Else T a b)(o:Obj):Else T a (b.alloc o):=fun x i f d=>by
 have e:=h x i f d;rw[Below.heap_alloc _ _ _ (zaa e)];exact e
theorem Else.setNew{T:TypeId}{a b:O}(h:Else T a b){p:U}(i:a.heap.size<=p.block)(u:X):Else T a (b.setCell p u):=fun x f e d=>by
 have:=zaa e;rw[Below.heap_setCell _ _ _ _ oM];exact h x f e d
theorem Else.setRow{T:TypeId}{a b:O}{base g n c i:Nat}{xs:List Int}(h:Else T a b)(k:Own T b base (Z (Y ⟨g,0,M⟩) n c) xs)(u:X):Else T a (b.setCell ⟨g,i,M⟩ u):=fun x o m d=>by
 have e:=h x o m d;rw[Below.heap_setCell _ _ _ _ ?_]
 ·exact e
 ·rintro rfl
  rcases k.2 with ⟨f,_⟩|⟨p,cap,cur,hv,_,j,_⟩
  ·cases f
  ·cases hv;rw[j]at e;cases e;exact d _ _ rfl
theorem Else.ext{T:TypeId}{a b c:O}(h:Else T a b)(k:Ext b c):Else T a c:=fun x f e d=>k.heapS (h x f e d)
theorem Own.ne_block{T T':TypeId}{w:O}{base:Nat}{v:X}{xs:List Int}(h:Own T w base v xs){k:Nat}{cs:Array X}{d:Nat×Nat}(b:w.heap[k]?=Y (H cs T' d))(i:T'≠T):v.ownBlock≠Y k:=by
 intro e
 rcases h.2 with ⟨f,_⟩|⟨g,cap,cur,hv,_,j,_⟩
 ·rw[f]at e;cases e
 ·rw[hv]at e;cases e;rw[j]at b;cases b;exact i rfl
theorem zeE{α:Type}(xs:List α):xs=[]\/∃ys y,xs=ys++[y]:=by
 rcases List.eq_nil_or_concat xs with h|⟨ys,y,h⟩
 ·exact .inl h
 ·exact .inr ⟨ys,y,by simpa using h⟩
theorem ze1{P:Program}{T t:TypeId}(ty:TypeId){w:O}{base:Nat}{v sl:X}{xs q:List Int}
  (y:(P.info? T).map (fun i=>(i.zero,i.size,i.bytes))=Y (Y (G N 0),1,8))(ht:P.underlying t=Y (.slice T))(d:Own T w base v xs)
  (f:Ints T w sl q)(ah:xs.length+q.length<=1000000000000)(m:base<=w.heap.size) :
  ∃v' w',(Builtin.append_ #[t,t] ty #[v,sl]).run P w = .ok v' w'/\Own T w' base v' (xs++q)/\Below base w w'/\Else T w w':=by
 obtain⟨i,hi,ae,af,ag⟩:=info_parts y;obtain⟨Q,c,rfl⟩:=f.form
 rcases Q with _|Q
 ·have h0:q=[]:=by
   by_cases h:0<q.length
   ·obtain⟨b,o,e,_⟩:=f.open h;cases e
   ·exact List.eq_nil_of_length_eq_zero oM
  subst h0
  have hc:c=0:=by
   obtain⟨_,a,c,e,_,_,R⟩:=f
   cases e
   rcases R with R|⟨b,o,cs,fr,e,_⟩
   ·exact R.2 rfl
   ·cases e
  subst hc;exact⟨v,w,run_append_owned_none (P:=P) (w:=w) base t ty T i 1 ht hi v xs.length (lits N xs) d,by simpa using d,Below.refl _ _,fun _ _ s _=>s⟩
 ·have D:∀(j:Nat) u,(lits N q)[j]?=Y u->w.cell? (Q.add j)=Y u:=by
   intro j u W;have z:0<q.length:=by have:=(lS.1 W).1;simp at this;omega
   obtain⟨b',o',e,hb,ab⟩:=f.open z
   cases e
   simp only[lits,lP,Option.map_eq_some_iff]at W;obtain⟨x,ac,rfl⟩:=W;have:=ab j x ac;unfold Addr.add
   split
   ·subst j;simpa using this
   ·exact this
  obtain⟨v',w',L,K,p,_⟩:=run_append_own (P:=P) w base t ty T i (G N 0) 1 8 ht hi ae af ag rfl dM v xs.length (lits N xs) d Q q.length c (lits N q) sM
   D (ints_oneCell N q) (by unfold maxLen;omega) oM m
  refine⟨v',w',L,?_,?_,?_⟩
  ·unfold Own
   rw[<-zbf,List.length_append];exact K
  ·exact(Below.refl _ w).grown p m (fun k s=>(World.ownsRow.lt d k s).1)
  ·intro k ob s aa
   have z:=zaa s;rw[p.block k z ?_]
   ·exact s
   ·intro e
    rcases d.2 with ⟨h1,_⟩|⟨g,cap,cur,hv,_,hh,_⟩
    ·rw[h1]at e;cases e
    ·rw[hv]at e
     cases e
     rw[hh]at s
     cases s
     exact aa _ _ rfl
theorem appN{P:Program}{T t:TypeId}{w:O}{base:Nat}{v sl:X}{xs p:List Int}{ops:Array Oper}{rest:List Oper}{o:Oper}{a:Act}{Q:Exit->Act->O->Prop}
  (d:(P.info? T).map (fun i=>(i.zero,i.size,i.bytes))=Y (Y (G N 0),1,8))(R:P.underlying t=Y (.slice T))(m:o.guard=M)(s x:Operand)
  (D:o.op = .call { callee:=.builtin .append,args:=#[s,x],argTypes:=#[t,t] })(L:a.eval s=v)(f:Own T w base v xs)
  (W:a.eval x=sl)(k:Ints T w sl p)(e:xs.length+p.length<=1000000000000)(b:base<=w.heap.size)
  (h:∀v' w',Own T w' base v' (xs++p)->Below base w w'->Else T w w'->wpList P ops Q rest (a.put o.dst v') w'):wpList P ops Q (o::rest) a w:=by
 obtain⟨v',w',j,q,u,y⟩:=ze1 (P:=P) o.type d R f k e b;refine wpList_plain m fun K z=>?_
 unfold Oper.wp;simp[execOp,D,resolve,invoke,builtin,L,W,j,Result.andThen];exact z _ _ (h v' w' q u y)
theorem zmF{F:Fence}{y:Nat}{P:Program}{T t:TypeId}{w:O}{base:Nat}{v sl:X}{xs u:List Int}{ops:Array Oper}{rest:List Oper}{o:Oper}{a:Act}{Q:Exit->Act->O->Prop}
  (d:(P.info? T).map (fun i=>(i.zero,i.size,i.bytes))=Y (Y (G N 0),1,8))(ht:P.underlying t=Y (.slice T))(p:o.guard=M)(s x:Operand)
  (q:o.op = .call { callee:=.builtin .append,args:=#[s,x],argTypes:=#[t,t] })(W:a.eval s=v)(f:Own T w base v xs)
  (hx:a.eval x=sl)(k:Ints T w sl u)(e:xs.length+u.length<=1000000000000)(b:base<=w.heap.size)
  (h:∀v' w',Own T w' base v' (xs++u)->Below base w w'->Else T w w'->wpListIn F y P ops Q rest (a.put o.dst v') w'):wpListIn F y P ops Q (o::rest) a w:=by
 obtain⟨v',w',j,z,D,L⟩:=ze1 (P:=P) o.type d ht f k e b;refine wpListIn_plain p fun K R=>?_
 unfold Oper.wpIn;refine⟨?_,?_⟩
 ·simp[Oper.about,q,resolve,Target.leads,Sem.run_pure]
 ·rw[Oper.semAt_plain F _ _ (by rw[q];intro c m;cases m)]
  simp[execOp,q,resolve,invoke,builtin,W,hx,j,Result.andThen];exact R _ _ (h v' w' z D L)
theorem zaF{n:Nat}{W d:O}(e:Below n W d):(∀b o,b<n->d.cell? ⟨b,o,M⟩=W.cell? ⟨b,o,M⟩)/\(∀b o,b<n->d.frozen? ⟨b,o,M⟩=W.frozen? ⟨b,o,M⟩):=
 ⟨fun b o h=>Below.cell e (p:=⟨b,o,M⟩) h,fun b o h=>Below.frozen e (p:=⟨b,o,M⟩) h⟩
theorem zaV(n:Nat):(madeCells (Value.cells (G N 0)) (n*1)).toList=lits N (List.replicate n 0):=by
 rw[Nat.mul_one];show (madeCells #[G N 0] n).toList=_
 rw[toList_madeCells_one];simp[lits]
theorem mk0{P:Program}{T t:TypeId}{w:O}{n:Nat}{ops:Array Oper}{rest:List Oper}{o:Oper}{a:Act}{Q:Exit->Act->O->Prop}
  (e:(P.info? T).map (fun i=>(i.zero,i.size,i.bytes))=Y (Y (G N 0),1,8))(K:P.underlying t=Y (.slice T))(j:o.guard=M)(l c:Operand)
  (D:o.op = .makeSlice t l c)(L:Int)(z:a.eval l=G N L)(u:a.eval c=G N L)(s:L=(n:Int))(R:n<=1000000000000)
  (h:∀w',Own T w' w.heap.size (Z (Y ⟨w.heap.size,0,M⟩) n n) (List.replicate n 0)->Ext w w'->w.heap.size<w'.heap.size->wpList P ops Q rest (a.put o.dst (Z (Y ⟨w.heap.size,0,M⟩) n n)) w'):wpList P ops Q (o::rest) a w:=by
 obtain⟨i,x,m,p,q⟩:=info_parts e;refine wpList_make_full w j l c t D w.heap.size T i (G N 0) 1 K x m p N N L L n z u s s (by rw[q];omega) (by unfold maxLen;omega) (Nat.le_refl _) ?_;intro w' f d
 have b:Own T w' w.heap.size (Z (Y ⟨w.heap.size,0,M⟩) n n) (List.replicate n 0):=by
  unfold Own;rw[List.length_replicate,<-zaV];exact f
 refine h w' b ((Below.refl _ _).grown d (Nat.le_refl _) (fun k y=>by cases y)) ?_;exact(World.ownsRow.lt b _ rfl).2
theorem mkA{P:Program}{T t:TypeId}{w:O}{n:Nat}{ops:Array Oper}{rest:List Oper}{o:Oper}{a:Act}{Q:Exit->Act->O->Prop}
  (b:(P.info? T).map (fun i=>(i.zero,i.size,i.bytes))=Y (Y (G N 0),1,8))(y:P.underlying t=Y (.slice T))(f:o.guard=M)(l c:Operand)
  (x:o.op = .makeSlice t l c)(L:Int)(u:a.eval l=G N L)(q:a.eval c=G N L)(p:L=(n:Int))(z:n<=1000000000000)
  (h:∀cs,Own T (w.alloc (H cs T)) w.heap.size (Z (Y ⟨w.heap.size,0,M⟩) n n) (List.replicate n 0)->wpList P ops Q rest (a.put o.dst (Z (Y ⟨w.heap.size,0,M⟩) n n)) (w.alloc (H cs T))):wpList P ops Q (o::rest) a w:=by
 obtain⟨i,s,j,d,k⟩:=info_parts b;have m:=run_make (P:=P) w t T i (G N 0) y s j N N n n oM oM (by rw[k];omega) oM;simp only[Int.toNat_natCast]at m;refine wpList_plain f fun K e=>?_
 unfold Oper.wp;subst p;simp[execOp,x,u,q,m,Result.andThen];refine e _ _ (h _ ?_);refine⟨by simp,.inr ⟨w.heap.size,n,_,by simp,Nat.le_refl _,heap_alloc_new w _,by simp,by unfold maxLen;omega,by rw[d];simp[madeCells],?_⟩⟩;rw[d,zaV];simp[lits]
theorem zoh{F:Fence}{s:Nat}{P:Program}{T t:TypeId}{w:O}{n:Nat}{ops:Array Oper}{rest:List Oper}{o:Oper}{a:Act}{Q:Exit->Act->O->Prop}
  (b:(P.info? T).map (fun i=>(i.zero,i.size,i.bytes))=Y (Y (G N 0),1,8))(D:P.underlying t=Y (.slice T))(j:o.guard=M)(l c:Operand)
  (k:o.op = .makeSlice t l c)(L:Int)(z:a.eval l=G N L)(x:a.eval c=G N L)(u:L=(n:Int))(R:n<=1000000000000)
  (h:∀cs,Own T (w.alloc (H cs T)) w.heap.size (Z (Y ⟨w.heap.size,0,M⟩) n n) (List.replicate n 0)->wpListIn F s P ops Q rest (a.put o.dst (Z (Y ⟨w.heap.size,0,M⟩) n n)) (w.alloc (H cs T))):wpListIn F s P ops Q (o::rest) a w:=by
 obtain⟨i,y,m,d,p⟩:=info_parts b;have q:=run_make (P:=P) w t T i (G N 0) D y m N N n n oM oM (by rw[p];omega) oM;simp only[Int.toNat_natCast]at q;refine wpListIn_plain j fun K e=>?_
 unfold Oper.wpIn;subst u;refine⟨?_,?_⟩
 ·simp[Oper.about,k]
 ·rw[Oper.semAt_plain F _ _ (by rw[k];intro c f;cases f)]
  simp[execOp,k,z,x,q,Result.andThen];refine e _ _ (h _ ?_);refine⟨by simp,.inr ⟨w.heap.size,n,_,by simp,Nat.le_refl _,heap_alloc_new w _,by simp,by unfold maxLen;omega,by rw[d];simp[madeCells],?_⟩⟩;rw[d,zaV];simp[lits]
theorem mkc{P:Program}{T t:TypeId}{w:O}{n m:Nat}{ops:Array Oper}{rest:List Oper}{o:Oper}{a:Act}{Q:Exit->Act->O->Prop}
  (b:(P.info? T).map (fun i=>(i.zero,i.size,i.bytes))=Y (Y (G N 0),1,8))(R:P.underlying t=Y (.slice T))(f:o.guard=M)(l c:Operand)
  (D:o.op = .makeSlice t l c)(L C:Int)(y:a.eval l=G N L)(u:a.eval c=G N C)(s:L=(n:Int))(q:C=(m:Int))(z:n<=m)(W:m<=1000000000000)
  (h:∀w',Own T w' w.heap.size (Z (Y ⟨w.heap.size,0,M⟩) n m) (List.replicate n 0)->Ext w w'->w.heap.size<w'.heap.size->wpList P ops Q rest (a.put o.dst (Z (Y ⟨w.heap.size,0,M⟩) n m)) w'):wpList P ops Q (o::rest) a w:=by
 obtain⟨i,x,j,d,k⟩:=info_parts b;have p:=run_make (P:=P) w t T i (G N 0) R x j N N n m oM oM (by rw[k];omega) oM;simp only[Int.toNat_natCast]at p;refine wpList_plain f fun K e=>?_
 unfold Oper.wp;subst s q;simp[execOp,D,y,u,p,Result.andThen];refine e _ _ (h _ ?_ ((Ext.refl w).alloc _) sM);refine⟨by simp,.inr ⟨w.heap.size,m,_,by simp,Nat.le_refl _,heap_alloc_new w _,by simp;omega,by unfold maxLen;omega,by rw[d];simp[madeCells],?_⟩⟩;rw[d,zaV];simp[lits,List.take_replicate];omega
theorem qcZ(w:O)(p:U)(u:X):(w.setCell p u).heap.size=w.heap.size:=by simp[World.setCell]
theorem zbh{a b:X}(h:a=b):Ending.returned a = .returned b:=by rw[h]
theorem zbn{k:IntKind}{a b:Int}(h:a=b):Value.int k a=G k b:=by rw[h]
end
section
theorem rlt{a b c:Rat}(h:a<=b)(k:b<c):a<c:=Rat.not_le.1 fun d=>Rat.not_le.2 k (Rat.le_trans d h)
theorem ltr{a b c:Rat}(h:a<b)(k:b<=c):a<c:=Rat.not_le.1 fun d=>Rat.not_le.2 h (Rat.le_trans k d)
theorem rtr{a b c:Rat}(h:a<b)(k:b<c):a<c:=ltr h (Rat.le_of_lt k)
theorem rirr{a:Rat}:¬a<a:=fun h=>Rat.not_le.2 h Rat.le_refl
section
variable {α:Type} (l r:α->Int) (lo up:α->Int->Rat)
def AbK(i j:α):Prop:=max (l i) (l j)<min (r i) (r j)/\∀k:Int,max (l i) (l j)<=k->k<min (r i) (r j)->up j k<=lo i k
structure ApK (S:List α):Prop where
 fat:∀i∈S,∀k,l i<=k->k<r i->lo i k<up i k
 two:∀i∈S,∀j∈S,i≠j->max (l i) (l j)<min (r i) (r j)->AbK l r lo up i j\/AbK l r lo up j i
variable {l r lo up}
theorem ApK.key{S:List α}(h:ApK l r lo up S){a m b:α}(j:a∈S)(z:m∈S)(k:b∈S)(x:AbK l r lo up a m)(y:AbK l r lo up m b)(L:r m<=r a)(P:r m<=r b):AbK l r lo up a b:=by
 obtain⟨D,t⟩:=x;obtain⟨K,u⟩:=y;have o:=t (r m-1) oM oM;have p:=u (r m-1) oM oM;have q:=h.fat m z (r m-1) oM oM;have i:=h.fat a j (r m-1) oM oM;have s:=h.fat b k (r m-1) oM oM;have d:up b (r m-1)<lo a (r m-1):=ltr (rlt p q) o
 have f:a≠b:=by
  rintro rfl;exact rirr (rtr d i)
 rcases h.two a j b k f oM with e|e
 ·exact e
 ·have:=e.2 (r m-1) oM oM
  exact absurd (rtr (ltr (rtr d i) this) s) rirr
theorem ApK.sub{S T:List α}(h:ApK l r lo up S)(d:∀x∈T,x∈S):ApK l r lo up T:=
 ⟨fun i b=>h.fat i (d i b),fun i b j e=>h.two i (d i b) j (d j e)⟩
theorem zfz(r:α->Int):∀{S:List α},S≠[]->∃m∈S,∀x∈S,r m<=r x
 | [a],_=>⟨a,by simp,fun x d=>by rw[List.mem_singleton.1 d];exact Int.le_refl _⟩
 | a::b::t,_=>by
  obtain⟨m,i,e⟩:=zfz r (S:=b::t) sM
  by_cases f:r a<=r m
  ·refine⟨a,by simp,fun x d=>?_⟩
   rcases List.mem_cons.1 d with rfl|d
   ·exact Int.le_refl _
   ·exact Int.le_trans f (e x d)
  ·refine⟨m,mC _ i,fun x d=>?_⟩
   rcases List.mem_cons.1 d with rfl|d
   ·omega
   ·exact e x d
end
end
section
open Go.RowKit
def Dr(w w':O):Prop:=w.drawn<=w'.drawn
theorem Dr.refl(w:O):Dr w w:=nE _
theorem Dr.trans{a b c:O}(h:Dr a b)(k:Dr b c):Dr a c:=nT h k
theorem Dr.alloc{a b:O}(h:Dr a b)(o:Obj):Dr a (b.alloc o):=h
theorem Dr.set{a b:O}(h:Dr a b)(p:U)(u:X):Dr a (b.setCell p u):=h
theorem Dr.drew{a b:O}(h:Dr a b):Dr a b.drew:=nT h (Nat.le_succ _)
theorem Dr.drewN{a b:O}(h:Dr a b)(n:Nat):Dr a (b.drewN n):=nT h (Nat.le_add_right _ _)
theorem Dr.row{a b:O}(h:Dr a b)(g:Nat)(cs:Array X):Dr a (b.setRow g cs):=h
class StD (c:O) (b:outParam O):Prop where
 up:∀a:O,Dr a b->Dr a c
instance sdA (b:O) (o:Obj):StD (b.alloc o) b:=⟨fun _ h=>h.alloc o⟩
instance sdS (b:O) (p:U) (u:X):StD (b.setCell p u) b:=⟨fun _ h=>h.set p u⟩
instance sdD (b:O):StD b.drew b:=⟨fun _ h=>h.drew⟩
instance sdN (b:O) (n:Nat):StD (b.drewN n) b:=⟨fun _ h=>h.drewN n⟩
theorem dX{a b c:O}[s:StD c b](h:Dr a b):Dr a c:=s.up a h
theorem dT{a b c:O}(h:Dr a b)(k:Dr b c:=by with_reducible assumption):Dr a c:=h.trans k
theorem dA{w b:O}(h:Dr w b:=by with_reducible repeat(first|assumption|exact Dr.refl _|refine dX ?_|refine dT ?_)):Dr w b:=h
theorem ziz{P:Program}{T t:TypeId}(D:TypeId){w:O}{base:Nat}{v:X}{xs:List Int}{y:Int}{ad:U}{v':X}{w':O}
  (f:(P.info? T).map (fun i=>(i.zero,i.size,i.bytes))=Y (Y (G N 0),1,8))(L:P.underlying t=Y (.slice T))(e:Own T w base v xs)
  (q:w.cell? ad=Y (G N y))(R:xs.length<=1000000000000)
  (p:(Builtin.append_ #[t,t] D #[v,Z (Y ad) 1 1]).run P w = .ok v' w'):Dr w w':=by
 obtain⟨i,K,x,d,z⟩:=info_parts f
 have b:∀(j:Nat) u,[(Value.int N y)][j]?=Y u->w.cell? (ad.add j)=Y u:=by
  intro j u o
  match j,o with
  | 0,o=>simp at o;subst o;simpa[Addr.add] using q
  | j+1,o=>simp at o
 rcases e.2 with ⟨rfl,h0⟩|⟨g,cap,cur,rfl,W,hg,ac,aa,ab,Q⟩
 ·have s:=run_append_nil (P:=P) w t D T i (G N 0) L K x ad 1 1 [G N y] (by simp[d]) b oM oM (by rw[z];omega)
  rw[s]at p
  cases p
  exact(Dr.refl w).drew.alloc _
 ·by_cases m:xs.length+1<=cap
  ·have s:=run_append_room (P:=P) w t D T i L K g xs.length cap cur hg ad 1 1 [G N y] (by simp[d]) b (by simp[Value.oneCell']) m (by rw[d];simp;omega)
   rw[s]at p
   cases p
   exact(Dr.refl w).row _ _
  ·have k:∀j u,(lits N xs)[j]?=Y u->w.cell? ((⟨g,0,M⟩:U).add j)=Y u:=World.ownsRow.cells (g:=g) e rfl
   have s:=run_append_grow (P:=P) w t D T i (G N 0) L K x ⟨g,0,M⟩ xs.length cap (lits N xs) (by simp[d]) k ad 1 1 [G N y] (by simp[d]) b oM oM (growslice_fits oM (by rw[z];omega));rw[s]at p
   cases p
   exact(Dr.refl w).drew.alloc _
theorem app1d{P:Program}{T t:TypeId}{w:O}{base:Nat}{v:X}{xs:List Int}{y:Int}{ops:Array Oper}{rest:List Oper}{o:Oper}{a:Act}{Q:Exit->Act->O->Prop}
  (d:(P.info? T).map (fun i=>(i.zero,i.size,i.bytes))=Y (Y (G N 0),1,8))(ht:P.underlying t=Y (.slice T))(D:o.guard=M)(s x:Operand)
  (ho:o.op = .call { callee:=.builtin .append,args:=#[s,x],argTypes:=#[t,t] })(hs:a.eval s=v)(b:Own T w base v xs)
  (hx:a.eval x=Z (Y ⟨w.heap.size,0,M⟩) 1 1)(m:xs.length<=1000000000000)(f:base<=w.heap.size)
  (h:∀v' w',Own T w' base v' (xs++[y])->Below base w w'->Else T w w'->Dr w w'->wpList P ops Q rest (a.put o.dst v') w'):wpList P ops Q (o::rest) a (w.alloc (H #[G N y] T)):=by
 have p:∃v' w',(Builtin.append_ #[t,t] o.type #[v,Z (Y ⟨w.heap.size,0,M⟩) 1 1]).run P (w.alloc (H #[G N y] T)) = .ok v' w'/\Own T w' base v' (xs++[y])/\Below base w w'/\Else T w w':=by
  obtain⟨i,hi,W,aa,ab⟩:=info_parts d;obtain⟨v',w',u,z,q,-⟩:=run_append_own (P:=P) (w.alloc (H #[G N y] T)) base t o.type T i (G N 0) 1 8 ht hi W aa ab rfl dM v xs.length (lits N xs) (World.ownsRow.alloc b _) ⟨w.heap.size,0,M⟩ 1 1 [G N y] rfl (cell_one_new _ _ _) (by simp[Value.oneCell']) (by unfold maxLen;omega) oM (by simp;omega);refine⟨v',w',u,?_,?_,?_⟩
  ·unfold Own
   rw[<-zbf,zg3,lA];exact z
  ·have hb:Below base w (w.alloc (H #[G N y] T)):=(Below.refl _ _).alloc f _
   exact hb.grown q (by simp;omega) (fun k j=>(World.ownsRow.lt b k j).1)
  ·intro k ob j R
   have L:=zaa j;rw[q.block k (by simp;omega) ?_,Below.heap_alloc _ _ _ L]
   ·exact j
   ·intro e
    rcases b.2 with ⟨u,_⟩|⟨g,cap,cur,hv,_,hh,_⟩
    ·rw[u]at e;cases e
    ·rw[hv]at e
     cases e
     rw[hh]at j
     cases j
     exact R _ _ rfl
 obtain⟨v',w',hr,z,q,h4⟩:=p;have hd:Dr (w.alloc (H #[G N y] T)) w':=ziz (base:=base) o.type d ht (b.alloc _) (cell_of_one (aN w _)) m hr;refine wpList_plain D fun K hK=>?_
 unfold Oper.wp;simp[execOp,ho,resolve,invoke,builtin,hs,hx,hr,Result.andThen];exact hK _ _ (h v' w' z q h4 hd)
theorem mk0d{P:Program}{T t:TypeId}{w:O}{n:Nat}{ops:Array Oper}{rest:List Oper}{o:Oper}{a:Act}{Q:Exit->Act->O->Prop}
  (b:(P.info? T).map (fun i=>(i.zero,i.size,i.bytes))=Y (Y (G N 0),1,8))(q:P.underlying t=Y (.slice T))(e:o.guard=M)(l c:Operand)
  (p:o.op = .makeSlice t l c)(L:Int)(k:a.eval l=G N L)(j:a.eval c=G N L)(f:L=(n:Int))(m:n<=1000000000000)
  (h:∀w',Own T w' w.heap.size (Z (Y ⟨w.heap.size,0,M⟩) n n) (List.replicate n 0)->Ext w w'->w.heap.size<w'.heap.size->Dr w w'->wpList P ops Q rest (a.put o.dst (Z (Y ⟨w.heap.size,0,M⟩) n n)) w'):wpList P ops Q (o::rest) a w:=
 mkA b q e l c p L k j f m fun s d=>h _ d ((eR w).alloc _) sM (Dr.alloc (Dr.refl w) _)
theorem cp0d{P:Program}{T t:TypeId}{w:O}{base g n cap:Nat}{os xs:List Int}{sl:X}{ops:Array Oper}{rest:List Oper}{o:Oper}{a:Act}{Q:Exit->Act->O->Prop}
  (m:(P.info? T).map (fun i=>(i.zero,i.size,i.bytes))=Y (Y (G N 0),1,8))(ht:P.underlying t=Y (.slice T))(q:o.guard=M)(d s:Operand)
  (ho:o.op = .call { callee:=.builtin .copy,args:=#[d,s],argTypes:=#[t,t] })(hd:a.eval d=Z (Y ⟨g,0,M⟩) n cap)(hs:a.eval s=sl)
  (e:Own T w base (Z (Y ⟨g,0,M⟩) n cap) os)(f:Ints T w sl xs)(R:xs.length<=n)
  (h:∀w',Own T w' base (Z (Y ⟨g,0,M⟩) n cap) (xs++os.drop xs.length)->Below base w w'->Else T w w'->Dr w w'->wpList P ops Q rest (a.put o.dst (goInt xs.length)) w'):wpList P ops Q (o::rest) a w:=by
 obtain⟨i,hi,af,y,ag⟩:=info_parts m;obtain⟨b,c,rfl⟩:=f.form;have hn:=e.len
 rcases e.2 with ⟨h1,_⟩|⟨g',ac,cur,hv,hg,K,ae,D,ad,aa⟩
 ·cases h1
 ·cases hv
  have h2:os.length<=cur.size:=oM
  by_cases h0:xs=[]
  ·subst h0
   refine wpList_copy_nothing q d s t t ho T ht (by rw[hi];simp[y]) _ b os.length cap 0 c hd hs sM ?_;exact h w (by simpa using e) (Below.refl _ _) (fun _ _ u _=>u) (Dr.refl w)
  ·have hp:0<xs.length:=List.length_pos_iff.2 h0
   obtain⟨b',o',rfl,hb,hx⟩:=f.open hp
   have p:∀(j:Nat) v,(lits N xs)[j]?=Y v->w.cell? ((⟨b',o',M⟩:U).add j)=Y v:=by
    intro j v hj;simp only[lits,lP,Option.map_eq_some_iff]at hj;obtain⟨x,ab,rfl⟩:=hj;have:=hx j x ab;unfold Addr.add
    split
    ·subst j;simpa using this
    ·exact this
   refine wpList_copy_own q d s t t ho T ht (by rw[hi];simp[y]) g 0 os.length cap ⟨b',o',M⟩ xs.length c hd hs cur T K (lits N xs) (by rw[zbF];exact(Nat.min_eq_left R).symm) p (by simp;omega) (ints_oneCell N xs) ?_;rw[zbF];refine h _ ⟨by simp,.inr ⟨g,cap,_,?_,hg,setRow_heap w g cur _ T _ K,?_,D,?_,?_⟩⟩ (below_setRow (Below.refl _ _) hg _) ?_ (Dr.row (Dr.refl w) _ _)
   ·have z:(xs++os.drop xs.length).length=os.length:=by simp;omega
    rw[z]
   ·simp;omega
   ·simp;omega
   ·have e1:cur.toList.take (os.length*1)=lits N os:=aa
    have z:(xs++os.drop xs.length).length*1=os.length:=by simp;omega
    rw[z,<-zbf,show lits N (os.drop xs.length)=(lits N os).drop xs.length by simp[lits,List.map_drop],<-e1,Nat.mul_one,List.drop_take];simp only[List.take_zero,List.nil_append,Nat.zero_add,zbF];rw[List.take_append,lT (by simp;omega),zbF]
   ·intro k ob u W
    have L:k≠g:=by rintro rfl;rw[K]at u;cases u;exact W _ _ rfl
    rw[setRow_other w g k _ L];exact u
def B:Int:=16777216
theorem zbt:(0:Int)<B:=dM
theorem and24(y:Int):bits BinOp.and IntKind.i64 y 16777215=y % 16777216:=by
 show IntKind.i64.wrap (((BitVec.ofInt 64 y &&& BitVec.ofInt 64 16777215).toNat:Nat):Int)=_
 have b:(BitVec.ofInt 64 y &&& BitVec.ofInt 64 16777215).toNat=(y % 18446744073709551616).toNat % 16777216:=by
  rw[BitVec.toNat_and,BitVec.toNat_ofInt];have:(BitVec.ofInt 64 16777215).toNat=2 ^ 24-1:=dM
  rw[this,Nat.and_two_pow_sub_one_eq_mod];rfl
 rw[b];simp[IntKind.wrap,IntKind.signed,IntKind.bits];omega
theorem zaJ:(Tryz.prog.info? 2).map (fun i=>(i.zero,i.size,i.bytes))=Y (Y (G N 0),1,8):=kM
theorem zgA(d xs:List Int)(i:Nat)(x b:Int)(f:d.length=i)(j:xs[i]?=Y x)(h:dv B (xs.take i)=dv B d+B ^ i*b) :
  dv B (xs.take (i+1))=dv B (d++[(x+b) % 16777216])+B ^ (i+1)*((x+b) / 16777216):=by
 rw[zan B xs i x j,zbu,h,f,Int.pow_succ];have e:x+b=(x+b) % 16777216+B*((x+b) / 16777216):=by unfold B;omega
 generalize (x+b) % 16777216=r at *
 generalize (x+b) / 16777216=q at *
 have:B ^ i*(x+b)=B ^ i*(r+B*q):=by rw[e]
 grind
theorem zgz(xs d:List Int)(b:Int)(h:dv B xs=dv B d+B ^ d.length*b) :
  dv B xs=dv B (d++[b % 16777216])+B ^ (d++[b % 16777216]).length*(b / 16777216):=by
 rw[zbu,h,lA,List.length_singleton,Int.pow_succ];have e:b=b % 16777216+B*(b / 16777216):=by unfold B;omega
 generalize b % 16777216=r at *
 generalize b / 16777216=q at *
 subst e
 grind
theorem carry0{x b:Int}(h:0<=x/\x<B)(d:b=0):(x+b) / 16777216=0:=by unfold B at h;omega
def Kept(v:X)(w w':O):Prop:=∀(k:Nat)(o:Obj),w.heap[k]?=Y o->v.ownBlock≠Y k->w'.heap[k]?=Y o
theorem Kept.alloc{v:X}{a b:O}(h:Kept v a b)(o:Obj):Kept v a (b.alloc o):=fun x i f d=>by
 have e:=h x i f d;rw[Below.heap_alloc _ _ _ (zaa e)];exact e
theorem Kept.setNew{v:X}{a b:O}(h:Kept v a b){p:U}(i:a.heap.size<=p.block)(u:X):Kept v a (b.setCell p u):=fun x f e d=>by
 have:=zaa e;rw[bS _ _ _ _ oM];exact h x f e d
theorem Kept.setOwn{v:X}{a b:O}(h:Kept v a b){p:U}(e:v.ownBlock=Y p.block)(u:X):Kept v a (b.setCell p u):=fun x i f d=>by
 rw[bS _ _ _ _ (by rintro rfl;exact d e)];exact h x i f d
def SetA(base:Nat)(xs:List Int)(n:Nat)(a:Option U)(c:Nat)(w:O)(t3 e:X)(wr:O):Prop:=
 ∃(i:Nat)(d:List Int)(b:Int),i<=n/\e=G N i/\t3=G N b/\d.length=i/\Dig B d/\dv B (xs.take i)=dv B d+B ^ i*b /\ -1099511627776<=b/\b<=1099511627776/\Own 2 wr base (Z a n c) (d++xs.drop i)/\(Below base w wr/\Else 2 w wr/\Kept (Z a n c) w wr/\(Dig B xs->b=0)/\Dr w wr)/\w.heap.size<wr.heap.size/\wr.heap[w.heap.size]?=Y (H #[Z M 0 0] 59 (0,0))
def SetB(v:X)(base:Nat)(xs:List Int)(n:Nat)(w:O)(t0 t3:X)(wr:O):Prop:=
 ∃(d:List Int)(b:Int),t3=G N b/\dv B xs=dv B d+B ^ d.length*b/\Dig B d/\0<=b/\b<=1099511627776/\d.length<=n+2/\(0<b->d.length<=n+1)/\(65536<b->d.length<=n)/\Own 2 wr base t0 d/\(Below base w wr/\Else 2 w wr/\(Dig B xs->b=0/\Kept v w wr)/\Dr w wr)/\w.heap.size<wr.heap.size/\wr.heap[w.heap.size]?=Y (H #[Z M 0 0] 59 (0,0))
def SetC(v:X)(base:Nat)(xs:List Int)(w:O)(t0:X)(wr:O):Prop:=
 ∃(b:List Int),dv B b=dv B xs/\Dig B b/\b.length<=1000000002/\Own 2 wr base t0 b/\(Below base w wr/\Else 2 w wr/\(Dig B xs->Kept v w wr)/\Dr w wr)/\w.heap.size<wr.heap.size/\wr.heap[w.heap.size]?=Y (H #[Z M 0 0] 59 (0,0))
theorem zbT(base:Nat)(v:X)(xs:List Int)(w:O)(W:Own 2 w base v xs)(K:base<=w.heap.size)
  (aC:xs.length<=1000000000)(hx:∀x∈xs,-4611686018427387904<=x/\x<=4611686018427387904)(aW:0<=dv B xs) :
  Calls Tryz.prog 235 #[v] w fun e w'=>∃v' ys,e = .returned (Oa #[v'])/\Can B ys/\dv B ys=dv B xs/\Own 2 w' base v' ys/\Below base w w'/\Else 2 w w'/\(Dig B xs->Kept v w w')/\Dr w w':=by
 obtain⟨a,c,rfl⟩:=W.form;obtain⟨n,hn⟩:=gX xs.length;rw[hn]at W aC ⊢;have Hn:=hd9 hn;have au:base<=w.heap.size:=K;clear hn;go_enter Tryz.func235,Tryz.ntmps235;go_wp2
 go_loopw [3,7] (SetA base xs n a c w) (fun _ t7 _=>n-(intOf t7).toNat)
 case atStart=>exact⟨0,[],0,by omega,rfl,rfl,rfl,Dig.nil _,by simp,by omega,by omega,W.alloc _,⟨(Below.refl _ _).alloc K _,(Else.refl _ _).alloc _,Kept.alloc (fun _ _ h _=>h) _,fun _=>rfl,dA⟩,by simp,aN w _⟩
 case round =>
  obtain⟨i,ys,cy,hi,rfl,rfl,aJ,ad,hv,aM,av,d,⟨L,ah,ay,aw,aO⟩,aq,aj⟩:=hrel;have f:=hd9 aJ;have Hv:=hd9 hv;have u:=hd9 aj;clear aJ hv aj
  by_cases aD:i<n
  ·obtain⟨g,rfl,hg,aP⟩:=d.blk (by simp[Hn.out,f.out];omega)
   obtain⟨x,ac⟩:∃x,xs[i]?=Y x:=⟨xs[i]'(by rw[Hn.out];exact aD),by simp[Hn.out,aD]⟩;have a1:=hx x (lM ac);have ap:wr.cell? ⟨g,i,M⟩=Y (G N x):=d.cell (by have:=zdD ys xs x (by rw[f.out];exact ac);rwa [f.out]at this);have aY:wr.frozen? ⟨g,i,M⟩=false:=d.frozen i;have an:=hd9 ac;clear ac;go_wp2
   go_roundw
   case rel =>
    have ax:g≠w.heap.size:=by
     rintro rfl
     rcases d.2 with ⟨y,_⟩|⟨g',aT,cur,y,_,hh,_⟩
     ·cases y
     ·cases y;rw[u.out]at hh;cases hh
    refine⟨i+1,ys++[(x+cy) % 16777216],_,by omega,by go_num,rfl,by simp[f.out],ad.snoc oM (by unfold B;omega),zgA ys xs i x cy f.out an.out Hv.out,by omega,by omega,?_,?_,?_,?_⟩
    ·rw[and24]
     have y:=(d.stored i (x+cy)).stored i ((x+cy) % 16777216);rw[List.set_set]at y;have h2:=zd2 ys xs x ((x+cy) % 16777216) (by rw[f.out];exact an.out);rw[f.out]at h2;rw[<-h2];exact y
    ·exact⟨(L.setCell hg _).setCell hg _,(ah.setRow d _).setRow (d.stored i _) _,Kept.setOwn (p:=⟨g,i,M⟩) (Kept.setOwn (p:=⟨g,i,M⟩) ay rfl _) rfl _,fun D=>carry0 (D x (lM an.out)) (aw D),dA⟩
    ·simp only[qcZ];exact aq
    ·rw[bS _ _ _ _ (by intro e;exact ax e.symm),bS _ _ _ _ (by intro e;exact ax e.symm)];exact u.out
   case measure=>simp[intOf];omega
  ·obtain rfl:i=n:=oM
   have af:0<=cy:=by
    have y:=Hv.out;rw[lT (by rw[Hn.out];omega)]at y;have h2:=(zak zbt ad).2;rw[f.out]at h2;have h3:=zap zbt i
    by_cases h4:0<=cy
    ·exact h4
    ·have:B ^ i*cy<=B ^ i*(-1):=Int.mul_le_mul_of_nonneg_left oM oM
     omega
   go_wp2
   go_loopw [0,3] (SetB (Z a i c) base xs i w) (fun _ t3 _=>(intOf t3).toNat)
   case atStart =>
    refine⟨ys,cy,rfl,?_,ad,af,av,by rw[f.out];omega,by rw[f.out];omega,by rw[f.out];omega,?_,⟨L,ah,fun D=>⟨aw D,ay⟩,aO⟩,aq,u.out⟩
    ·have y:=Hv.out
     rw[lT (by rw[Hn.out];omega)]at y;rw[f.out];exact y
    ·have y:=d
     rw[List.drop_of_length_le (by rw[Hn.out];omega),List.append_nil]at y;exact y
   case round =>
    obtain⟨zs,cz,rfl,aH,ar,a4,a5,aQ,az,aA,k,⟨s,Q,ai,ag⟩,ak,aa⟩:=hrel;have o:=hd9 aa;have al:=hd9 aH;obtain⟨a2,c2,rfl⟩:=k.form;clear aa aH Hv u d L aq f af aM av ad
    by_cases ao:cz=0
    ·subst ao
     go_wp2
     go_loopw [0] (SetC (Z a i c) base xs w) (fun t0 _=>match t0 with | Z _ n _=>n|_=>0)
     case atStart=>exact⟨zs,by have:=al.out;rw[this];simp,ar,by omega,k,⟨s,Q,fun D=>(ai D).2,ag⟩,ak,o.out⟩
     case round =>
      clear k s ak o al ar aQ az aA;obtain⟨us,aI,aG,aR,b,⟨j,t,R,P⟩,aF,m⟩:=hrel;obtain⟨a3,c3,rfl⟩:=b.form;have aE:=cell_of_one m;have aZ:=free_of_one m;have q:=hd9 m;have am:=hd9 aI;clear m aI
      rcases zeE us with rfl|⟨ae,x,rfl⟩
      ·have D:decide ((0:Int)<(([]:List Int).length:Int))=false:=sM
       go_wp2;refine bR (v:=Oa #[Z a3 0 c3]) (by simp[results,Tryz.results235,go_sem,aE]) rfl ⟨_,[],rfl,Can.nil _,am.out,?_,?_⟩
       ·exact b.setOther (p:=⟨w.heap.size,0,M⟩) (b.ne_block q.out dM) _
       ·exact⟨j.setCell (p:=⟨w.heap.size,0,M⟩) au _,t.setNew dO _,fun D=>(R D).setNew dO _,dA⟩
      ·obtain⟨g,rfl,hg,aP⟩:=b.blk sM
       have ap:wr.cell? ⟨g,ae.length,M⟩=Y (G N x):=b.cell sM;have aB:=b.ints.le;simp only[lA,List.length_singleton]at b aB aR ⊢;unfold maxLen at aB
       by_cases ab:x=0
       ·subst ab
        go_wp2
        go_roundw
        case rel =>
         refine⟨ae,?_,(Dig.of_append aG).1,by omega,b.pop,⟨j,t,R,P⟩,aF,q.out⟩;have:=am.out;rw[zbu]at this;omega
        case measure=>simp
       ·have a0:(x==0)=false:=by simpa using ab
        have aK:=hd9 ab;clear ab;go_wp2;refine bR (v:=Oa #[Z (Y ⟨g,0,M⟩) (ae.length+1) c3]) (by simp[results,Tryz.results235,go_sem,aE]) rfl ⟨_,ae++[x],rfl,⟨aG,by simpa using aK.out⟩,am.out,?_,?_⟩
        ·exact b.setOther (p:=⟨w.heap.size,0,M⟩) (b.ne_block q.out dM) _
        ·exact⟨j.setCell (p:=⟨w.heap.size,0,M⟩) au _,t.setNew dO _,fun D=>(R D).setNew dO _,dA⟩
    ·have aU:(cz != 0)=true:=by simpa using ao
     have aS:0<cz:=oM
     have aV:=az aS;clear ao
     go_wp2_with(at_builtin;refine app1d zaJ Tryz.underlying57 rfl _ _ rfl rfl k rfl oM oM ?_;intro v' w1 b j z P)
     rw[and24]at b
     go_roundw
     case rel =>
      have aX:cz / 16777216<=65536:=oM
      have aL:0<cz / 16777216->zs.length<=i:=fun h=>aA oM
      refine⟨zs++[cz % 16777216],_,rfl,zgz xs zs cz al.out,ar.snoc oM (by unfold B;omega),by omega,by omega,by simp;omega,fun h=>by have:=aL h;simp;omega,fun h=>by omega,b,⟨s.trans j,Q.trans z,fun D=>absurd (ai D).1 oM,ag.trans P⟩,?_,?_⟩
      ·have:=j.size;omega
      ·exact z.get o.out dM
     case measure=>simp[intOf];omega
theorem zd9(base:Nat)(v:X)(xs:List Int)(w:O)(f:Own 2 w base v xs)(b:base<=w.heap.size)
  (d:xs.length<=1000000000)(t:∀x∈xs,-4611686018427387904<=x/\x<=4611686018427387904)(i:0<=dv B xs) :
  Calls Tryz.prog 235 #[v] w fun e j=>∃v' ys,e = .returned (Oa #[v'])/\Can B ys/\dv B ys=dv B xs/\Own 2 j base v' ys/\Below base w j/\Else 2 w j/\Dr w j:=by
 refine(zbT base v xs w f b d t i).mono ?_;rintro e j ⟨v',ys,k,m,o,p,q,h6,_,s⟩;exact⟨v',ys,k,m,o,p,q,h6,s⟩
theorem zcm(base:Nat)(v:X)(xs:List Int)(w:O)(f:Own 2 w base v xs)(b:base<=w.heap.size)
  (d:xs.length<=1000000000)(s:∀x∈xs,-4611686018427387904<=x/\x<=4611686018427387904)(i:0<=dv B xs) :
  Calls Tryz.prog 235 #[v] w fun e j=>∃v' ys,e = .returned (Oa #[v'])/\Can B ys/\dv B ys=dv B xs/\Own 2 j base v' ys/\Below base w j/\Else 2 w j:=by
 refine(zbT base v xs w f b d s i).mono ?_;rintro e j ⟨v',ys,k,m,o,p,q,h6,_,_⟩;exact⟨v',ys,k,m,o,p,q,h6⟩
def IsD(w:O)(v:X)(n:Int):Prop:=∃sl ds,v=Oa #[sl]/\Ints 2 w sl ds/\Can B ds/\dv B ds=n
def OwnD(w:O)(base:Nat)(v:X)(n:Int):Prop:=∃sl ds,v=Oa #[sl]/\Own 2 w base sl ds/\Can B ds/\dv B ds=n
theorem OwnD.isD{w:O}{base:Nat}{v:X}{n:Int}(h:OwnD w base v n):IsD w v n:=by
 obtain⟨sl,b,d,e,f,i⟩:=h;exact⟨sl,b,d,e.ints,f,i⟩
theorem ownM{w:O}{base b':Nat}{v:X}{xs:List Int}(b:b'<=base)(h:Own 2 w base v xs):Own 2 w b' v xs:=h.mono b
theorem IsD.ext{w w':O}{v:X}{n:Int}(h:IsD w v n)(k:Ext w w'):IsD w' v n:=by
 obtain⟨sl,b,d,e,f,i⟩:=h;exact⟨sl,b,d,e.ext k,f,i⟩
theorem IsD.keep{w w':O}{v:X}{n:Int}(h:IsD w v n)(k:KeepT 2 w w'):IsD w' v n:=by
 obtain⟨sl,b,d,e,f,i⟩:=h;exact⟨sl,b,d,e.keep k,f,i⟩
theorem IsD.nonneg{w:O}{v:X}{n:Int}(h:IsD w v n):0<=n:=by
 obtain⟨sl,e,f,i,b,d⟩:=h;rw[<-d];exact(zak zbt b.1).1
theorem IsD.form{w:O}{v:X}{n:Int}(h:IsD w v n):∃a m c,v=Oa #[Z a m c]:=by
 obtain⟨sl,d,rfl,b,e,f⟩:=h;obtain⟨a,c,rfl⟩:=b.form;exact⟨_,_,_,rfl⟩
theorem IsD.open{w:O}{a:Option U}{m c:Nat}{n:Int}(h:IsD w (Oa #[Z a m c]) n):∃ds,ds.length=m/\Ints 2 w (Z a m c) ds/\Can B ds/\dv B ds=n:=by
 obtain⟨sl,ds,d,b,e,f⟩:=h
 cases d
 exact⟨ds,b.len.symm,b,e,f⟩
def Lm(k:Nat)(n:Int):Prop:=-(B ^ k)<n/\n<B ^ k
theorem Lm.mono{j k:Nat}{n:Int}(h:Lm j n)(d:j<=k):Lm k n:=by
 have:=zaD (b:=B) dM d;unfold Lm at *;omega
theorem Lm.len{k:Nat}{n:Int}{ds:List Int}(h:Lm k n)(f:Can B ds)(hv:dv B ds=n):ds.length<=k:=by
 by_cases d:ds=[]
 ·subst d;simp
 ·have i:=zeI zbt f d
  by_cases e:ds.length<=k
  ·exact e
  ·have:=zaD (b:=B) dM (show k<=ds.length-1 by omega)
   unfold Lm at h;omega
abbrev lim:Nat:=100000000
def cmp3(a b:Int):Int:=if a<b then -1 else if b<a then 1 else 0
theorem zfA(w:O)(v:X)(n:Int)(h:IsD w v n) :
  Calls Tryz.prog 166 #[v] w fun e f=>e = .returned (.bool (n==0))/\Ext w f/\Dr w f:=by
 obtain⟨a,m,c,rfl⟩:=h.form;obtain⟨k,j,i,d,hv⟩:=h.open
 have b:(n==0)=((m:Int)==0):=by
  rw[Bool.eq_iff_iff,beq_iff_eq,beq_iff_eq,<-hv,zgK zbt d,<-List.length_eq_zero_iff];omega
 rw[b];clear b hv d i j h;go_enter Tryz.func166,Tryz.ntmps166;go_wp2;go_ret;exact⟨rfl,(eR w).alloc _,dA⟩
theorem zfk{P:Program}{f:FuncId}{args:Array X}{w:O}{p:Ending->Prop}(h:Calls P f args w fun e b=>p e/\Ext w b/\Dr w b):Calls P f args w fun e b=>p e/\Ext w b:=h.mono fun _ _ h=>⟨h.1,h.2.1⟩
theorem zaB(w:O)(v:X)(n:Int)(h:IsD w v n) :
  Calls Tryz.prog 166 #[v] w fun e b=>e = .returned (.bool (n==0))/\Ext w b:=zfk (zfA w v n h)
theorem zaz{α:Type}{xs:List α}{j:Nat}{x:α}(h:xs[j]?=Y x):xs.drop j=x::xs.drop (j+1):=by
 obtain⟨b,rfl⟩:=lS.1 h;exact List.drop_eq_getElem_cons b
theorem zgM{xs e:List Int}(t:Dig B xs)(u:Dig B e)(s:xs.length=e.length)(j:Nat){x y:Int}(o:xs[j]?=Y x)(p:e[j]?=Y y)
  (q:xs.drop (j+1)=e.drop (j+1))(i:x<y):dv B xs<dv B e:=by
 have k:xs=xs.take j++x::e.drop (j+1):=by rw[<-q,<-zaz o,List.take_append_drop]
 have m:e=e.take j++y::e.drop (j+1):=by rw[<-zaz p,List.take_append_drop]
 have:=zbC (b:=B) (zs:=e.drop (j+1)) dM (fun d f=>t d (List.mem_of_mem_take f)) (show (xs.take j).length=(e.take j).length by rw[List.length_take,List.length_take,s]) (fun d f=>u d (List.mem_of_mem_take f)) i
 rwa [<-k,<-m]at this
def SizeI(w:O)(a b:X)(n:Nat)(xs d:List Int)(t5:X)(wr:O):Prop:=
 ∃i:Nat,i<=n/\t5=G N ((i:Int)-1)/\xs.drop i=d.drop i/\(Ext w wr/\Dr w wr)/\wr.cell? ⟨w.heap.size,0,M⟩=Y a/\wr.cell? ⟨w.heap.size+1,0,M⟩=Y b
theorem zfQ(w:O)(va vb:X)(s nb:Int)(ha:IsD w va s)(hb:IsD w vb nb) :
  Calls Tryz.prog 226 #[va,vb] w fun e w'=>e = .returned (G N (cmp3 s nb))/\Ext w w'/\Dr w w':=by
 obtain⟨a,m,c,rfl⟩:=ha.form;obtain⟨a',m',c',rfl⟩:=hb.form;obtain⟨xs,hl,hi,R,hv⟩:=ha.open;obtain⟨ys,p,q,f,k⟩:=hb.open;have hm:=hi.le;have ac:=q.le;rw[hl]at hm;rw[p]at ac;unfold maxLen at hm ac
 rcases Nat.lt_trichotomy m m' with ab|rfl|aa
 ·have W:s<nb:=by rw[<-hv,<-k];exact zbx dM R.1 f oM
  have e:cmp3 s nb = -1:=by unfold cmp3;rw[if_pos W]
  rw[e];clear e W hv k R f hi q hl p ha hb;go_enter Tryz.func226,Tryz.ntmps226;go_wp2;go_ret;exact⟨rfl,((eR w).alloc _).alloc _,dA⟩
 ·have Q:=hd9 hl
  have d:=hd9 p;have Hv:=hd9 hv;have z:=hd9 k;clear hl p hv k;go_enter Tryz.func226,Tryz.ntmps226;go_wp2
  go_loopw [5] (SizeI w (Z a m c) (Z a' m c') m xs ys) (fun t5 _=>(intOf t5+1).toNat)
  case atStart=>exact⟨m,by omega,rfl,by rw[List.drop_of_length_le (by rw[Q.out];omega),List.drop_of_length_le (by rw[d.out];omega)],⟨((eR w).alloc _).alloc _,dA⟩,by go_simp,by go_simp⟩
  case round =>
   obtain⟨i,am,rfl,hd,⟨t,ae⟩,ai,aj⟩:=hrel;have Hd:=hd9 hd;clear hd
   rcases i with _|j
   ·have e:cmp3 s nb=0:=by
     have:=Hd.out;simp only[List.drop_zero]at this;rw[<-Hv.out,<-z.out,this];simp[cmp3]
    have E:=hd9 e;clear e;go_wp2;go_ret;exact⟨zbh (zbn E.out.symm),t,ae⟩
   ·rw[show (((j+1:Nat):Int)-1)=(j:Int) by omega]
    obtain⟨b,o,rfl,ah,ad⟩:=(hi.ext t).open (by rw[Q.out];omega);obtain⟨b',o',rfl,ag,u⟩:=(q.ext t).open (by rw[d.out];omega);obtain⟨x,L⟩:∃x,xs[j]?=Y x:=⟨xs[j]'(by rw[Q.out];omega),by simp[Q.out]⟩;obtain⟨y,P⟩:∃y,ys[j]?=Y y:=⟨ys[j]'(by rw[d.out];omega),by simp[d.out]⟩;have ak:=ad j x L;have al:=u j y P;have D:=hd9 L;have K:=hd9 P;clear ad u L P
    rcases Int.lt_trichotomy x y with ab|af|aa
    ·have e:cmp3 s nb = -1:=by
      rw[<-Hv.out,<-z.out];unfold cmp3;rw[if_pos (zgM R.1 f.1 (by rw[Q.out,d.out]) j D.out K.out Hd.out ab)]
     have E:=hd9 e;clear e;go_wp2
     go_quiet (fail)
     go_wp2;go_ret
     first|exact⟨zbh (zbn E.out.symm),t.drewN _,dA⟩|exact⟨zbh (zbn E.out.symm),(t.drewN _).drewN _,dA⟩
    ·subst af
     go_wp2
     go_quiet (fail)
     go_wp2
     go_quiet (fail)
     go_wp2
     go_roundw
     case rel=>exact⟨j,by omega,by go_num,by rw[zaz D.out,zaz K.out,Hd.out],⟨t.drewN _,dA⟩,by go_simp,by go_simp⟩
     case measure=>simp[intOf]
    ·have e:cmp3 s nb=1:=by
      have:=zgM f.1 R.1 (by rw[Q.out,d.out]) j K.out D.out Hd.out.symm aa;rw[<-Hv.out,<-z.out];unfold cmp3;rw[if_neg oM,if_pos this]
     have E:=hd9 e;clear e;go_wp2
     go_quiet (fail)
     go_wp2
     go_quiet (fail)
     go_wp2;go_ret
     first|exact⟨zbh (zbn E.out.symm),t.drewN _,dA⟩|exact⟨zbh (zbn E.out.symm),(t.drewN _).drewN _,dA⟩
 ·have W:nb<s:=by rw[<-hv,<-k];exact zbx dM f.1 R oM
  have e:cmp3 s nb=1:=by unfold cmp3;rw[if_neg oM,if_pos W]
  rw[e];clear e W hv k R f hi q hl p ha hb;go_enter Tryz.func226,Tryz.ntmps226;go_wp2;go_ret;exact⟨rfl,((eR w).alloc _).alloc _,dA⟩
theorem zca(w:O)(d f:X)(b nb:Int)(i:IsD w d b)(j:IsD w f nb) :
  Calls Tryz.prog 226 #[d,f] w fun e k=>e = .returned (G N (cmp3 b nb))/\Ext w k:=zfk (zfQ w d f b nb i j)
theorem zjp(xs b:List Int)(k:Int)(i:Nat)(os:List Int)(x y:Int)(d:os[i]?=Y x)(m:b[i]?=Y y)
  (h:dv B os=dv B xs+k*dv B (b.take i)):dv B (os.set i (x+k*y))=dv B xs+k*dv B (b.take (i+1)):=by
 have j:=(lS.1 d).1;rw[zan B b i y m,Int.mul_add,<-Int.add_assoc,<-h];have e:os=os.take i++x::os.drop (i+1):=by rw[<-zaz d,List.take_append_drop]
 have f:os.set i (x+k*y)=os.take i++(x+k*y)::os.drop (i+1):=by
  rw[List.set_eq_take_append_cons_drop,if_pos j]
 rw[f]
 conv=>rhs;rw[e]
 rw[zaG,zaG];simp only[zbd,List.length_take];rw[Nat.min_eq_left oM]
 grind
def PlusB(os:List Int)(i:Nat):Prop:=∀j x,os[j]?=Y x -> -16777216<=x/\x<=33554432/\(i<=j->0<=x/\x<16777216)
theorem PlusB.set{os:List Int}{i:Nat}(h:PlusB os i){x:Int}(d : -16777216<=x)(e:x<=33554432):PlusB (os.set i x) (i+1):=by
 intro j y b;rw[List.getElem?_set]at b
 split at b
 ·subst j
  split at b
  ·cases b;exact⟨d,e,fun h=>by omega⟩
  ·cases b
 ·have:=h j y b
  exact⟨this.1,this.2.1,fun f=>this.2.2 oM⟩
def PlusI(w:O)(e:Int)(f:List Int)(k:Int)(d L:Nat)(t25:X)(wr:O):Prop:=
 ∃(i:Nat)(b:List Int),t25=G N i/\i<=d/\b.length=L/\d<=L/\L<=100000000 /\
  Own 2 wr (w.heap.size+1+1+1) (Z (Y ⟨w.heap.size+1+1+1,0,M⟩) L L) b/\dv B b=e+k*dv B (f.take i)/\PlusB b i/\(Ext w wr/\Dr w wr)/\w.heap.size+1+1+1<wr.heap.size /\
  wr.heap[w.heap.size+1+1]?=Y (H #[Z M 0 0] 59 (0,0))
theorem zew{xs b os:List Int}{k d x y:Int}{i:Nat}(hv:dv B xs=d)(e:os[i]?=Y x)(f:b[i]?=Y y)(h:dv B os=d+k*dv B (b.take i)):dv B (os.set i (x+k*y))=d+k*dv B (b.take (i+1)):=by
 subst hv;exact zjp xs b k i os x y e f h
theorem zc8(w:O)(va vb:X)(na nb k:Int)(ha:IsD w va na)(hb:IsD w vb nb)(aQ:Lm lim na)(aR:Lm lim nb)(hk : -1<=k/\k<=1)(hp:0<=na+k*nb) :
  Calls Tryz.prog 187 #[va,vb,G N k] w fun e w'=>∃r,e = .returned r/\OwnD w' w.heap.size r (na+k*nb)/\Ext w w'/\Dr w w':=by
 obtain⟨a,m,c,rfl⟩:=ha.form;obtain⟨a',m',c',rfl⟩:=hb.form;obtain⟨xs,hl,hi,hc,hv⟩:=ha.open;obtain⟨ys,ar,aB,al,ax⟩:=hb.open;have hm:=aQ.len hc hv;have aC:=aR.len al ax;rw[hl]at hm;rw[ar]at aC;unfold lim at hm aC;have Hl:=hd9 hl;have u:=hd9 ar;have Hv:=hd9 hv;have ah:=hd9 ax;clear hl ar hv ax
 rcases Nat.lt_or_ge m m' with aT|aT
 ·go_enter Tryz.func187,Tryz.ntmps187
  go_wp2_with(first|(at_make;refine mk0d zaJ Tryz.underlying57 rfl _ _ rfl _ rfl rfl rfl oM ?_;intro w1 b t af aG;obtain⟨am,ap⟩:=t.cells;simp only[wZ]at b af)|(refine cp0d zaJ Tryz.underlying57 rfl _ _ rfl rfl rfl b (hi.ext ((((eR w).alloc _).alloc _).alloc _ |>.trans t)) (by rw[Hl.out];omega) ?_;intro w2 q D ad aH;obtain⟨an,aq⟩:=zaF D))
  go_loopw [25] (PlusI w na ys k m' m') (fun az _=>m'-(intOf az).toNat)
  case atStart =>
   refine⟨0,_,rfl,by omega,?_,by omega,by omega,q,?_,?_,?_,?_,?_⟩
   ·have:=Hl.out;simp;omega
   ·rw[List.drop_replicate,zaG,zax,Hv.out];simp
   ·intro j x hj
    rw[List.getElem?_append]at hj
    split at hj
    ·have:=hc.1 x (lM hj)
     unfold B at this;omega
    ·have:=List.mem_replicate.1 (List.mem_of_mem_drop (lM hj));omega
   ·exact⟨(((((eR w).alloc _).alloc _).alloc _).trans t).thenB D oM,dA⟩
   ·have:=D.size;omega
   ·exact ad.get (by rw[t.block sM];exact qhA _ _ _ sM) dM
  case round =>
   clear q b t am ap an aq af D ad;obtain⟨i,os,rfl,aO,W,au,hL,o,K,aa,⟨hx,aJ⟩,aw,s⟩:=hrel;have z:=hd9 W;have ac:=hd9 K;have f:=hd9 s
   by_cases aS:i<m'
   ·obtain⟨b',o',rfl,aA,Q⟩:=(aB.ext hx).open (by rw[u.out];omega)
    obtain⟨y,P⟩:∃y,ys[i]?=Y y:=⟨ys[i]'(by rw[u.out];omega),by simp[u.out]⟩;obtain⟨x,L⟩:∃x,os[i]?=Y x:=⟨os[i]'(by rw[z.out];omega),by simp[z.out]⟩;have aF:=Q i y P;have aE:=o.cell L;have aM:=o.frozen i;have ab:=al.1 y (lM P);have aV:=(aa i x L).2.2 (nE _)
    have aP : -16777216<k*y/\k*y<16777216:=by
     unfold B at ab;obtain h|h|h:k = -1\/k=0\/k=1:=oM
     all_goals(subst h;omega)
    have ai:=hd9 L;have aj:=hd9 P;clear Q P L W K s;have aD:=hd9 ab;clear ab;go_wp2
    go_roundw
    case rel =>
     refine⟨i+1,os.set i (x+k*y),by go_num,by omega,by simp[z.out],au,hL,o.stored i _,zew Hv.out ai.out aj.out ac.out,aa.set oM oM,?_,?_,?_⟩
     ·exact⟨hx.set (by simp;omega) _,dA⟩
     ·simp only[qcZ];exact aw
     ·rw[bS _ _ _ _ sM];exact f.out
    case measure=>simp[intOf];omega
   ·obtain rfl:i=m':=oM
    have ae:0<=dv B os:=by
     rw[K,lT (by rw[u.out];omega),ah.out];exact hp
    clear W K s;have av:=cell_of_one f.out;have aU:=free_of_one f.out
    go_wp2_with(go_at_call 235;refine(zd9 (w.heap.size+1+1+1) _ os _ o oM (by rw[z.out];omega) (fun x hx=>by obtain⟨j,hj⟩:=List.mem_iff_getElem?.1 hx;have:=aa j x hj;omega) ae).mono ?_;rintro e w3 ⟨v',zs,rfl,ay,ag,d,R,aK,aI⟩;obtain⟨ao,aL⟩:=zaF R;obtain⟨a4,c4,rfl⟩:=d.form;have ak:=hd9 ag;clear ag)
    refine bR (v:=Oa #[Z a4 zs.length c4]) (by simp[results,Tryz.results187,go_sem,ao,av]) rfl ⟨_,rfl,⟨_,zs,rfl,ownM oM (d.setOther (p:=⟨w.heap.size+1+1,0,M⟩) (d.ne_block ((R.block _ dO).trans f.out) dM) _),ay,?_⟩,(hx.thenB R oM).set (by simp;omega) _,dA⟩;rw[ak.out,ac.out,lT (by rw[u.out];omega),ah.out]
 ·go_enter Tryz.func187,Tryz.ntmps187
  go_wp2_with(first|(at_make;refine mk0d zaJ Tryz.underlying57 rfl _ _ rfl _ rfl rfl rfl oM ?_;intro w1 b t af aG;obtain⟨am,ap⟩:=t.cells;simp only[wZ]at b af)|(refine cp0d zaJ Tryz.underlying57 rfl _ _ rfl rfl rfl b (hi.ext ((((eR w).alloc _).alloc _).alloc _ |>.trans t)) (by rw[Hl.out];omega) ?_;intro w2 q D ad aH;obtain⟨an,aq⟩:=zaF D))
  go_loopw [25] (PlusI w na ys k m' m) (fun az _=>m'-(intOf az).toNat)
  case atStart =>
   refine⟨0,_,rfl,by omega,?_,by omega,by omega,q,?_,?_,?_,?_,?_⟩
   ·have:=Hl.out;simp;omega
   ·rw[List.drop_replicate,zaG,zax,Hv.out];simp
   ·intro j x hj
    rw[List.getElem?_append]at hj
    split at hj
    ·have:=hc.1 x (lM hj)
     unfold B at this;omega
    ·have:=List.mem_replicate.1 (List.mem_of_mem_drop (lM hj));omega
   ·exact⟨(((((eR w).alloc _).alloc _).alloc _).trans t).thenB D oM,dA⟩
   ·have:=D.size;omega
   ·exact ad.get (by rw[t.block sM];exact qhA _ _ _ sM) dM
  case round =>
   clear q b t am ap an aq af D ad;obtain⟨i,os,rfl,aO,W,au,hL,o,K,aa,⟨hx,aJ⟩,aw,s⟩:=hrel;have z:=hd9 W;have ac:=hd9 K;have f:=hd9 s
   by_cases aS:i<m'
   ·obtain⟨b',o',rfl,aA,Q⟩:=(aB.ext hx).open (by rw[u.out];omega)
    obtain⟨y,P⟩:∃y,ys[i]?=Y y:=⟨ys[i]'(by rw[u.out];omega),by simp[u.out]⟩;obtain⟨x,L⟩:∃x,os[i]?=Y x:=⟨os[i]'(by rw[z.out];omega),by simp[z.out]⟩;have aF:=Q i y P;have aE:=o.cell L;have aM:=o.frozen i;have ab:=al.1 y (lM P);have aV:=(aa i x L).2.2 (nE _)
    have aP : -16777216<k*y/\k*y<16777216:=by
     unfold B at ab;obtain h|h|h:k = -1\/k=0\/k=1:=oM
     all_goals(subst h;omega)
    have ai:=hd9 L;have aj:=hd9 P;clear Q P L W K s;have aD:=hd9 ab;clear ab;go_wp2
    go_roundw
    case rel =>
     refine⟨i+1,os.set i (x+k*y),by go_num,by omega,by simp[z.out],au,hL,o.stored i _,zew Hv.out ai.out aj.out ac.out,aa.set oM oM,?_,?_,?_⟩
     ·exact⟨hx.set (by simp;omega) _,dA⟩
     ·simp only[qcZ];exact aw
     ·rw[bS _ _ _ _ sM];exact f.out
    case measure=>simp[intOf];omega
   ·obtain rfl:i=m':=oM
    have ae:0<=dv B os:=by
     rw[K,lT (by rw[u.out];omega),ah.out];exact hp
    clear W K s;have av:=cell_of_one f.out;have aU:=free_of_one f.out
    go_wp2_with(go_at_call 235;refine(zd9 (w.heap.size+1+1+1) _ os _ o oM (by rw[z.out];omega) (fun x hx=>by obtain⟨j,hj⟩:=List.mem_iff_getElem?.1 hx;have:=aa j x hj;omega) ae).mono ?_;rintro e w3 ⟨v',zs,rfl,ay,ag,d,R,aK,aI⟩;obtain⟨ao,aL⟩:=zaF R;obtain⟨a4,c4,rfl⟩:=d.form;have ak:=hd9 ag;clear ag)
    refine bR (v:=Oa #[Z a4 zs.length c4]) (by simp[results,Tryz.results187,go_sem,ao,av]) rfl ⟨_,rfl,⟨_,zs,rfl,ownM oM (d.setOther (p:=⟨w.heap.size+1+1,0,M⟩) (d.ne_block ((R.block _ dO).trans f.out) dM) _),ay,?_⟩,(hx.thenB R oM).set (by simp;omega) _,dA⟩;rw[ak.out,ac.out,lT (by rw[u.out];omega),ah.out]
theorem zcD(w:O)(i j:X)(b nb k:Int)(s:IsD w i b)(t:IsD w j nb)(d:Lm lim b)(f:Lm lim nb)(u : -1<=k/\k<=1)(x:0<=b+k*nb) :
  Calls Tryz.prog 187 #[i,j,G N k] w fun e m=>∃r,e = .returned r/\OwnD m w.heap.size r (b+k*nb)/\Ext w m:=by
 refine(zc8 w i j b nb k s t d f u x).mono ?_;rintro e m ⟨r,o,p,q,-⟩;exact⟨r,o,p,q⟩
theorem zcY{b:Int}{os:List Int}{p:Nat}{z:Int}(u:Int)(h:os[p]?=Y z):dv b (os.set p u)=dv b os+b ^ p*(u-z):=by
 have f:=(lS.1 h).1;have e:os=os.take p++z::os.drop (p+1):=by rw[<-zaz h,List.take_append_drop]
 have d:os.set p u=os.take p++u::os.drop (p+1):=by rw[List.set_eq_take_append_cons_drop,if_pos f]
 rw[d]
 conv=>rhs;rw[e]
 rw[zaG,zaG];simp only[zbd,List.length_take];rw[Nat.min_eq_left oM]
 grind
theorem Dig.set{b:Int}{os:List Int}(h:Dig b os){u:Int}(f:0<=u)(i:u<b)(p:Nat):Dig b (os.set p u):=by
 intro d e
 rcases List.mem_or_eq_of_mem_set e with e|rfl
 ·exact h d e
 ·exact⟨f,i⟩
theorem Dig.get{b:Int}{os:List Int}(h:Dig b os){p:Nat}{z:Int}(d:os[p]?=Y z):0<=z/\z<b:=h z (lM d)
def Zer(os:List Int)(p:Nat):Prop:=∀j x,os[j]?=Y x->p<=j->x=0
theorem Zer.set{os:List Int}{p q:Nat}(h:Zer os p)(e:q<p)(u:Int):Zer (os.set q u) p:=by
 intro j x b d;rw[List.getElem?_set_ne oM]at b;exact h j x b d
theorem Zer.set_next{os:List Int}{p:Nat}(h:Zer os p)(u:Int):Zer (os.set p u) (p+1):=by
 intro j x b d;rw[List.getElem?_set_ne oM]at b;exact h j x b oM
theorem Zer.replicate(n p:Nat):Zer (List.replicate n 0) p:=fun j x b _=>by
 have:=List.mem_replicate.1 (lM b);exact this.2
theorem zh4{x y:Int}(d:0<=x/\x<B)(b:0<=y/\y<B):0<=x*y/\x*y<=281474943156225:=by
 unfold B at *;have e:=Int.mul_nonneg d.1 b.1;have f:x*y<=16777215*16777215:=Int.mul_le_mul oM oM b.1 oM;omega
theorem zim{os d:List Int}{i k:Nat}{x y z b V:Int}(m:os[i+k]?=Y z)(j:d[k]?=Y y)
  (h:dv B os+B ^ (i+k)*b=V+B ^ i*(x*dv B (d.take k))) :
  dv B (os.set (i+k) ((b+(x*y+z)) % 16777216))+B ^ (i+(k+1))*((b+(x*y+z)) / 16777216)=V+B ^ i*(x*dv B (d.take (k+1))):=by
 rw[zcY _ m,zan B d k y j,<-Nat.add_assoc,Int.pow_succ,Int.pow_add];rw[Int.pow_add]at h;have e:b+(x*y+z)=(b+(x*y+z)) % 16777216+B*((b+(x*y+z)) / 16777216):=by unfold B;omega
 generalize hr:(b+(x*y+z)) % 16777216=r at *
 generalize hq:(b+(x*y+z)) / 16777216=q at *
 clear hr hq;have f:r=b+(x*y+z)-B*q:=oM
 subst f
 grind
theorem zkt{e os xs b:List Int}{i k:Nat}{x z f:Int}(o:e[i+k]?=Y z)(d:z=0)(p:b.length=k)(m:xs[i]?=Y x)
  (h:dv B e+B ^ (i+k)*f=dv B os+B ^ i*(x*dv B (b.take k)))(j:dv B os=dv B (xs.take i)*dv B b):dv B (e.set (i+k) f)=dv B (xs.take (i+1))*dv B b:=by
 rw[zcY _ o,d,Int.sub_zero,h,j,lT (l:=b) oM,zan B xs i x m,Int.add_mul,Int.mul_assoc]
def TimO(w:O)(xs f:List Int)(e:Option U)(m b c':Nat)(t22:X)(wr:O):Prop:=
 ∃(i:Nat)(d:List Int),t22=G N i/\i<=m/\d.length=m+b/\Own 2 wr (w.heap.size+1+1+1) (Z (Y ⟨w.heap.size+1+1+1,0,M⟩) (m+b) (m+b)) d /\
  dv B d=dv B (xs.take i)*dv B f/\Dig B d/\Zer d (i+b)/\(Ext w wr/\Dr w wr)/\w.heap.size+1+1+1<wr.heap.size/\wr.cell? ⟨w.heap.size+1,0,M⟩=Y (Z e b c') /\
  wr.heap[w.heap.size+1+1]?=Y (H #[Z M 0 0] 59 (0,0))
def TimI(w:O)(x V:Int)(p:List Int)(j:Option U)(i m b c':Nat)(o f:X)(wr:O):Prop:=
 ∃(k:Nat)(e:Int)(d:List Int),f=G N k/\o=G N e/\k<=b/\0<=e/\e<16777216/\d.length=m+b/\Own 2 wr (w.heap.size+1+1+1) (Z (Y ⟨w.heap.size+1+1+1,0,M⟩) (m+b) (m+b)) d /\
  dv B d+B ^ (i+k)*e=V+B ^ i*(x*dv B (p.take k))/\Dig B d/\Zer d (i+b)/\(Ext w wr/\Dr w wr)/\w.heap.size+1+1+1<wr.heap.size/\wr.cell? ⟨w.heap.size+1,0,M⟩=Y (Z j b c') /\
  wr.heap[w.heap.size+1+1]?=Y (H #[Z M 0 0] 59 (0,0))
theorem zks(w:O)(va vb:X)(na nb:Int)(ha:IsD w va na)(hb:IsD w vb nb)(aT:Lm lim na)(aU:Lm lim nb) :
  Calls Tryz.prog 195 #[va,vb] w fun e w'=>∃r,e = .returned r/\OwnD w' w.heap.size r (na*nb)/\Ext w w'/\Dr w w':=by
 obtain⟨a,m,c,rfl⟩:=ha.form;obtain⟨a',m',c',rfl⟩:=hb.form;obtain⟨xs,hl,hi,hc,hv⟩:=ha.open;obtain⟨ys,aj,aS,ap,am⟩:=hb.open;have hm:=aT.len hc hv;have av:=aU.len ap am;rw[hl]at hm;rw[aj]at av;unfold lim at hm av;have Hl:=hd9 hl;have aa:=hd9 aj;have Hv:=hd9 hv;have aF:=hd9 am;clear hl aj hv am;go_enter Tryz.func195,Tryz.ntmps195
 go_wp2_with(at_make;refine mk0d (n:=m+m') zaJ Tryz.underlying57 rfl _ _ rfl _ rfl rfl sM oM ?_;intro w1 s u ay a3;obtain⟨aq,aQ⟩:=u.cells;simp only[wZ]at s ay)
 go_loopw [22] (TimO w xs ys a' m m' c') (fun aY _=>m-(intOf aY).toNat)
 case atStart =>
  refine⟨0,_,rfl,by omega,by simp,s,?_,?_,Zer.replicate _ _,⟨(((eR w).alloc _).alloc _).alloc _ |>.trans u,dA⟩,by omega,?_,?_⟩
  ·rw[zax];simp
  ·intro d hd;have:=(List.mem_replicate.1 hd).2;unfold B;omega
  ·rw[aq _ _ sM];go_simp
  ·rw[u.block sM];exact qhA _ _ _ sM
 case round =>
  clear s u aq aQ ay;obtain⟨i,os,rfl,a8,aw,f,Q,P,aD,⟨W,ai⟩,R,ah,q⟩:=hrel;have ao:=hd9 aw;have an:=hd9 Q;have D:=hd9 q;clear aw Q q
  by_cases ba:i<m
  ·obtain⟨b,o,rfl,aL,u⟩:=(hi.ext W).open (by rw[Hl.out];omega)
   obtain⟨x,ab⟩:∃x,xs[i]?=Y x:=⟨xs[i]'(by rw[Hl.out];omega),by simp[Hl.out]⟩;have aO:=u i x ab;have aA:=hc.1 x (lM ab);have aH:=hd9 ab;have aG:=hd9 aA;clear u ab aA;go_wp2;obtain⟨wo,rfl⟩:∃wo:O,wo=wr:=⟨_,rfl⟩
   go_loopw [8,30] (TimI w x (dv B os) ys a' i m m' c') (fun _ aZ _=>m'-(intOf aZ).toNat)
   case atStart=>exact⟨0,0,os,rfl,rfl,by omega,by omega,by omega,ao.out,f,by simp,P,aD,⟨W,ai⟩,R,ah,D.out⟩
   case round =>
    clear f W ai R ah aO aL;obtain⟨k,cy,us,rfl,rfl,a9,ar,au,az,f,Q,ak,al,⟨W,ai⟩,R,ah,q⟩:=hrel;have K:=hd9 az;have ad:=hd9 Q;have L:=hd9 q;clear az Q q
    by_cases a1:k<m'
    ·obtain⟨b',o',rfl,a0,ae⟩:=(aS.ext W).open (by rw[aa.out];omega)
     obtain⟨y,ac⟩:∃y,ys[k]?=Y y:=⟨ys[k]'(by rw[aa.out];omega),by simp[aa.out]⟩;obtain⟨z,j⟩:∃z,us[i+k]?=Y z:=⟨us[i+k]'(by rw[K.out];omega),by simp[K.out]⟩;have a2:=ae k y ac;have aP:=f.cell j;have aR:=f.frozen (i+k);have aB:=ap.1 y (lM ac);have aW:=ak.get j;obtain⟨bb,bc⟩:=zh4 aG.out aB;unfold B at aW;have aI:=hd9 ac;have af:=hd9 j;clear ae ac j aB;go_wp2
     go_roundw
     case rel =>
      rw[and24];refine⟨k+1,_,us.set (i+k) ((cy+(x*y+z)) % 16777216),by go_num,rfl,by omega,by omega,by omega,by simp[K.out],f.stored _ _,zim af.out aI.out ad.out,ak.set oM (by unfold B;omega) _,al.set oM _,⟨W.set (by simp;omega) _,dA⟩,by simp only[qcZ];exact R,by go_simp,?_⟩;rw[bS _ _ _ _ sM];exact L.out
     case measure=>simp[intOf];omega
    ·obtain rfl:k=m':=oM
     obtain⟨z,j⟩:∃z,us[i+k]?=Y z:=⟨us[i+k]'(by rw[K.out];omega),by simp[K.out]⟩;have aP:=f.cell j;have aR:=f.frozen (i+k);have aC:=al _ z j (nE _);have aJ:=hd9 aC;have af:=hd9 j;clear aC j;go_wp2
     go_roundw
     case rel =>
      refine⟨i+1,us.set (i+k) cy,by go_num,by omega,by simp[K.out],f.stored _ _,?_,ak.set ar au _,?_,⟨W.set (by simp;omega) _,dA⟩,by simp only[qcZ];exact R,by go_simp,?_⟩
      ·exact zkt af.out aJ.out aa.out aH.out ad.out an.out
      ·have:=al.set_next cy
       rwa [show i+k+1=i+1+k by omega]at this
      ·rw[bS _ _ _ _ sM];exact L.out
     case measure=>simp[intOf];omega
  ·obtain rfl:i=m:=oM
   have aV:=cell_of_one D.out;have be:=free_of_one D.out;have ax:0<=dv B os:=(zak zbt P).1
   go_wp2_with(go_at_call 235;refine(zd9 (w.heap.size+1+1+1) _ os _ f oM (by rw[ao.out];omega) (fun x W=>by have:=P x W;unfold B at this;omega) ax).mono ?_;rintro e w3 ⟨v',zs,rfl,aX,aE,t,ag,a6,a5⟩;obtain⟨aM,a7⟩:=zaF ag;obtain⟨a4,c4,rfl⟩:=t.form;have aK:=hd9 aE;clear aE)
   refine bR (v:=Oa #[Z a4 zs.length c4]) (by simp[results,Tryz.results195,go_sem,aM,aV]) rfl ⟨_,rfl,⟨_,zs,rfl,ownM oM (t.setOther (p:=⟨w.heap.size+1+1,0,M⟩) (t.ne_block ((ag.block _ dO).trans D.out) dM) _),aX,?_⟩,(W.thenB ag oM).set (by simp;omega) _,dA⟩;rw[aK.out,an.out,lT (by rw[Hl.out];omega),Hv.out,aF.out]
theorem zjR{P:Program}{f:FuncId}{args:Array X}{w:O}{p:O->X->Prop}(h:Calls P f args w fun e b=>∃r,e = .returned r/\p b r/\Ext w b/\Dr w b):Calls P f args w fun e b=>∃r,e = .returned r/\p b r/\Ext w b:=h.mono fun _ _ ⟨r,d,i,j,_⟩=>⟨r,d,i,j⟩
theorem zfV(w:O)(i j:X)(b nb:Int)(m:IsD w i b)(o:IsD w j nb)(d:Lm lim b)(f:Lm lim nb) :
  Calls Tryz.prog 195 #[i,j] w fun e k=>∃r,e = .returned r/\OwnD k w.heap.size r (b*nb)/\Ext w k:=zjR (zks w i j b nb m o d f)
theorem and1(y:Int):bits BinOp.and IntKind.i64 y 1=y % 2:=by
 show IntKind.i64.wrap (((BitVec.ofInt 64 y &&& BitVec.ofInt 64 1).toNat:Nat):Int)=_
 have b:(BitVec.ofInt 64 y &&& BitVec.ofInt 64 1).toNat=(y % 18446744073709551616).toNat % 2:=by
  rw[BitVec.toNat_and,BitVec.toNat_ofInt];have:(BitVec.ofInt 64 1).toNat=2 ^ 1-1:=dM
  rw[this,Nat.and_two_pow_sub_one_eq_mod];rfl
 rw[b];simp[IntKind.wrap,IntKind.signed,IntKind.bits];omega
theorem and24u(y:Int)(b:0<=y)(e:y<18446744073709551616):bits BinOp.and IntKind.u64 y 16777215=y % 16777216:=by
 obtain⟨n,rfl⟩:=Int.eq_ofNat_of_zero_le b;have h:=bits_and_u64_nat n (2 ^ 24-1) oM dM;rw[Nat.and_two_pow_sub_one_eq_mod]at h;have d:((n % 2 ^ 24:Nat):Int)=(n:Int) % 16777216:=oM
 rw[d]at h;exact h
theorem ziS(ds:List Int)(x:Int):dv B (x::ds) % 2=x % 2:=by
 simp only[zbd];unfold B;omega
theorem za3(w:O)(p:X)(d:Int)(f:IsD w p d)(D:0<d) :
  Calls Tryz.prog 286 #[p] w fun e u=>e = .returned (.bool (d % 2==0))/\Ext w u:=by
 obtain⟨a,m,c,rfl⟩:=f.form;obtain⟨xs,j,i,q,hv⟩:=f.open
 cases xs with
 | nil=>simp at hv;omega
 | cons x xs =>
  obtain⟨b,o,rfl,z,k⟩:=i.open sM;have t:w.cell? ⟨b,o,M⟩=Y (G N x):=by simpa using k 0 x rfl
  have s:(0:Int)<(m:Int):=by rw[<-j];simp
  have y:=and1 x;have e:(d % 2==0)=(x % 2==0):=by rw[<-hv,ziS]
  have E:=hd9 e;clear e hv j k q i f;go_enter Tryz.func286,Tryz.ntmps286;go_wp2;go_ret;exact⟨zbh (by rw[E.out];rfl),(eR w).alloc _⟩
def DivI(g:Nat)(t0 e:X)(wr d:O):Prop:=∃a b:Nat,t0=G .u64 a/\e=G .u64 b/\a<18446744073709551616/\b<18446744073709551616/\Nat.gcd a b=g/\Ext d wr
theorem zgb(w:O)(a b:Nat)(p:a<18446744073709551616)(q:b<18446744073709551616) :
  Calls Tryz.prog 288 #[G .u64 a,G .u64 b] w fun e u=>e = .returned (G .u64 (Nat.gcd a b:Nat))/\Ext w u:=by
 obtain⟨g,d⟩:=gX (Nat.gcd a b);rw[d];go_enter Tryz.func288,Tryz.ntmps288;go_wp2
 go_loopw [0,1] (fun t m wr=>DivI g t m wr w) (fun _ m _=>(intOf m).toNat)
 case atStart=>exact⟨a,b,rfl,rfl,p,q,d,eR w⟩
 case round =>
  clear p q d;obtain⟨x,y,rfl,rfl,L,s,d,f⟩:=hrel;have o:=hd9 d;clear d
  by_cases i:y=0
  ·subst i
   go_wp2;go_ret;exact⟨zbh (zbn (by rw[<-o.out];simp)),f⟩
  ·have z:((y:Int)==0)=false:=by simp;omega
   have D:((y:Int) != 0)=true:=by simp;omega
   have K:(1:Int)<=(y:Int):=oM
   clear i;go_wp2
   go_quiet (fail)
   go_wp2
   go_roundw
   case rel =>
    have k:0<y:=oM
    have j:=Nat.mod_lt x k;exact⟨y,x % y,rfl,zbn sM,s,by omega,by rw[<-o.out,Nat.gcd_comm x y,Nat.gcd_rec y x,Nat.gcd_comm],f.drewN _⟩
   case measure =>
    have j:=Int.emod_lt_of_pos (x:Int) (show (0:Int)<y by omega);have i:=Int.emod_nonneg (x:Int) (show (y:Int)≠0 by omega);simp[intOf];omega
theorem zij(d:List Int)(b:Int):dv B (d++[b % 16777216])+B ^ (d++[b % 16777216]).length*(b / 16777216)=dv B d+B ^ d.length*b:=by
 rw[zbu,lA,List.length_singleton,Int.pow_succ];have e:b=b % 16777216+B*(b / 16777216):=by unfold B;omega
 generalize b % 16777216=r at *
 generalize b / 16777216=q at *
 subst e
 grind
def WordI(w:O)(n:Int)(t0 t3:X)(wr:O):Prop:=
 ∃(m:Nat)(b:List Int),t0=G .u64 m/\m<18446744073709551616/\Own 2 wr (w.heap.size+1) t3 b/\dv B b+B ^ b.length*m=n/\Dig B b/\(m=0->Can B b)/\b.length<=3/\(0<m->b.length<=2)/\(65535<m->b.length<=1)/\(1099511627775<m->b.length=0)/\(Ext w wr/\Dr w wr)/\w.heap.size<wr.heap.size /\
  wr.heap[w.heap.size]?=Y (H #[Z M 0 0] 59 (0,0))
theorem zmy(w:O)(n:Int)(R:0<=n)(h1:n<18446744073709551616) :
  Calls Tryz.prog 188 #[G .u64 n] w fun e P=>∃r,e = .returned r/\OwnD P w.heap.size r n/\Ext w P/\Dr w P:=by
 obtain⟨n,rfl⟩:=Int.eq_ofNat_of_zero_le R;go_enter Tryz.func188,Tryz.ntmps188;go_wp2
 go_loopw [0,3] (WordI w n) (fun t0 _ _=>(intOf t0).toNat)
 case atStart=>exact⟨n,[],rfl,by omega,Own.nil _ _ _,by simp,Dig.nil _,fun _=>Can.nil _,by simp,by simp,by simp,by simp,⟨(eR w).alloc _,dA⟩,by simp,aN _ _⟩
 case round =>
  clear R h1;obtain⟨m,x,rfl,hm,d,hv,W,i,ab,u,t,s,⟨hx,D⟩,hs,b⟩:=hrel;have Q:=hd9 hv;have o:=hd9 b;obtain⟨a,c,rfl⟩:=d.form;have y:=and24u m oM oM
  by_cases L:m=0
  ·subst L
   have q:=hd9 (i rfl);have K:=cell_of_one b;have ae:=free_of_one b;clear hv b y hm u t s i;go_wp2;refine bR (v:=Oa #[Z a x.length c]) (by simp[results,Tryz.results188,go_sem,K]) rfl ⟨_,rfl,⟨_,x,rfl,ownM oM (d.setOther (p:=⟨w.heap.size,0,M⟩) (d.ne_block o.out dM) _),q.out,?_⟩,hx.set sM _,dA⟩;rw[<-Q.out];simp
  ·have ac:(0:Int)<(m:Int):=oM
   have HA:=hd9 y;have aa:=u oM;clear hv b L y i
   go_wp2_with(at_builtin;refine app1d zaJ Tryz.underlying57 rfl _ _ rfl rfl d rfl oM oM ?_;intro v' w1 j f k z)
   rw[HA.out,IntWalk.wrap64_in _ ⟨by omega,by omega⟩]at j
   go_roundw
   case rel =>
    have ad:0<m:=oM
    refine⟨m / 16777216,x++[(m:Int) % 16777216],zbn sM,by omega,j,?_,W.snoc oM (by unfold B;omega),?_,?_,?_,?_,?_,⟨hx.thenB f oM,D.trans z⟩,?_,k.get o.out dM⟩
    ·rw[<-Q.out]
     have h2:=zij x (m:Int)
     simpa using h2
    ·intro L
     refine⟨W.snoc oM (by unfold B;omega),?_⟩;simp;omega
    ·simp;omega
    ·intro h;simp;exact t oM
    ·intro h;have:=s oM;rw[lA,List.length_singleton];omega
    ·intro h;omega
    ·have:=f.size;omega
   case measure=>simp[intOf];omega
theorem zcd(w:O)(n:Int)(d:0<=n)(f:n<18446744073709551616) :
  Calls Tryz.prog 188 #[G .u64 n] w fun e b=>∃r,e = .returned r/\OwnD b w.heap.size r n/\Ext w b:=zjR (zmy w n d f)
theorem zjg(x:Int)(b:0<=x)(d:x<16777216):0<=x / 2/\x / 2<8388608/\0<=x % 2/\x % 2<=1:=oM
def HalfV(xs os:List Int)(i:Nat):Prop:=(i=0->dv B os=0)/\(0<i->2*dv B os=dv B (xs.take i)-dv B xs % 2)
theorem HalfV.step{xs os:List Int}{i:Nat}{x u:Int}(h:HalfV xs os i)(d:xs[i]?=Y x)(f:os[i]?=Y 0)
  (m:(i=0->u=0)/\(0<i->∃z,os[i-1]?=Y z/\u=z+(x % 2)*8388608)) :
  HalfV xs (if i=0 then os.set i (x / 2)else (os.set i (x / 2)).set (i-1) u) (i+1):=by
 refine⟨fun o=>by omega,fun _=>?_⟩
 rcases i with _|j
 ·cases xs with
  | nil=>simp at d
  | cons y K =>
   simp at d;subst d;rw[if_pos rfl,zcY _ f,h.1 rfl,ziS];simp;omega
 ·obtain⟨z,b,rfl⟩:=m.2 oM
  simp only[Nat.add_sub_cancel]at b;have D:=h.2 oM;rw[if_neg oM,Nat.add_sub_cancel,zcY (z:=z) _ (by rw[List.getElem?_set_ne oM];exact b),zcY _ f,zan B xs (j+1) x d,Int.sub_zero,Int.pow_succ];have e:x=x % 2+2*(x / 2):=oM
  generalize x % 2=r at *
  generalize x / 2=q at *
  subst e;have k:B=2*8388608:=rfl
  generalize B ^ j=p at *
  generalize dv B xs % 2=s at *
  generalize dv B (List.take (j+1) xs)=t at *
  generalize dv B os=v at *
  rw[k]
  grind
def HalfB(os:List Int)(i:Nat):Prop:=∀j x,os[j]?=Y x->0<=x/\x<16777216/\(i<=j+1->x<8388608)/\(i<=j->x=0)
def HalfI(w:O)(xs:List Int)(m:Nat)(d:X)(wr:O):Prop:=
 ∃(i:Nat)(b:List Int),d=G N i/\i<=m/\b.length=m/\Own 2 wr (w.heap.size+1+1) (Z (Y ⟨w.heap.size+1+1,0,M⟩) m m) b /\
  HalfV xs b i/\HalfB b i/\Ext w wr/\w.heap.size+1+1<wr.heap.size/\wr.heap[w.heap.size+1]?=Y (H #[Z M 0 0] 59 (0,0))
theorem zdh(w:O)(va:X)(na:Int)(ha:IsD w va na)(aw:Lm lim na) :
  Calls Tryz.prog 287 #[va] w fun e w'=>∃r,e = .returned r/\OwnD w' w.heap.size r (na / 2)/\Ext w w':=by
 obtain⟨a,m,c,rfl⟩:=ha.form;obtain⟨xs,hl,hi,hc,hv⟩:=ha.open;have hm:=aw.len hc hv;rw[hl]at hm;unfold lim at hm;have Hl:=hd9 hl;have Hv:=hd9 hv;clear hl hv;go_enter Tryz.func287,Tryz.ntmps287
 go_wp2_with(at_make;refine mk0 (n:=m) zaJ Tryz.underlying57 rfl _ _ rfl _ rfl rfl rfl oM ?_;intro w1 D L al;obtain⟨aq,av⟩:=L.cells;simp only[wZ]at D al)
 go_loopw [13] (HalfI w xs m) (fun aA _=>m-(intOf aA).toNat)
 case atStart =>
  refine⟨0,_,rfl,by omega,by simp,D,⟨fun _=>zax _ _,fun h=>by omega⟩,?_,((eR w).alloc _).alloc _ |>.trans L,by omega,?_⟩
  ·intro j x k;have:=(List.mem_replicate.1 (lM k)).2;subst this;simp
  ·rw[L.block sM];exact qhA _ _ _ sM
 case round =>
  clear D L aq av al;obtain⟨i,os,rfl,aL,aj,f,R,P,hx,am,ad⟩:=hrel;have t:=hd9 aj;have s:=hd9 ad;clear aj ad
  by_cases aM:i<m
  ·obtain⟨b,o,rfl,aE,L⟩:=(hi.ext hx).open (by rw[Hl.out];omega)
   obtain⟨x,W⟩:∃x,xs[i]?=Y x:=⟨xs[i]'(by rw[Hl.out];omega),by simp[Hl.out]⟩;have au:=L i x W;obtain⟨z0,aa⟩:∃z,os[i]?=Y z:=⟨os[i]'(by rw[t.out];omega),by simp[t.out]⟩;have az:=(P _ _ aa).2.2.2 (nE _);subst az;have aF:=f.cell aa;have aI:=f.frozen i;have af:=hc.1 x (lM W);have aB:=zjg x af.1 af.2;have hA:=and1 x;have ah:=hd9 W;have ai:=hd9 aa;clear L W aa af
   rcases i with _|j
   ·simp only[Nat.add_zero]at au
    go_wp2
    go_roundw
    case rel =>
     have Q:=R.step (u:=0) ah.out ai.out ⟨fun _=>rfl,fun h=>by omega⟩;rw[if_pos rfl]at Q;refine⟨1,os.set 0 (x / 2),by go_num,by omega,by simp[t.out],f.stored 0 _,Q,?_,hx.set dO _,by simp only[qcZ];exact am,?_⟩
     ·intro j y k
      rw[List.getElem?_set]at k
      split at k
      ·subst j;split at k
       ·cases k;omega
       ·cases k
      ·have:=P j y k;omega
     ·rw[bS _ _ _ _ sM];exact s.out
    case measure=>simp[intOf];omega
   ·obtain⟨z1,ab⟩:∃z,os[j]?=Y z:=⟨os[j]'(by rw[t.out];omega),by simp[t.out]⟩
    have ag:=P _ _ ab;have aD:=ag.2.2.1 (nE _);have aC:=ag.1;have aG:=f.cell ab;have aK:=f.frozen j;have ao:=hd9 ab;clear ab ag;go_wp2
    go_roundw
    case rel =>
     have Q:=R.step (u:=z1+x % 2*8388608) ah.out ai.out ⟨fun h=>by omega,fun _=>⟨z1,ao.out,rfl⟩⟩;rw[if_neg oM,Nat.add_sub_cancel]at Q;refine⟨j+1+1,(os.set (j+1) (x / 2)).set j (z1+x % 2*8388608),by go_num,by omega,by simp[t.out],(f.stored _ _).stored _ _,Q,?_,(hx.set (by simp;omega) _).set (by simp;omega) _,by simp only[qcZ];exact am,?_⟩
     ·intro q y k
      rw[List.getElem?_set]at k
      split at k
      ·subst q;split at k
       ·cases k;omega
       ·cases k
      ·rw[List.getElem?_set]at k
       split at k
       ·subst q;split at k
        ·cases k;omega
        ·cases k
       ·have:=P q y k;omega
     ·rw[bS _ _ _ _ sM,bS _ _ _ _ sM];exact s.out
    case measure=>simp[intOf];omega
  ·obtain rfl:i=m:=oM
   have ax:=cell_of_one s.out;have aO:=free_of_one s.out;have ac:Dig B os:=fun d hd=>by obtain⟨j,k⟩:=List.mem_iff_getElem?.1 hd;have:=P j d k;exact⟨this.1,this.2.1⟩
   have ak:0<=dv B os:=(zak zbt ac).1
   go_wp2_with(go_at_call 235;refine(zcm (w.heap.size+1+1) _ os _ f oM (by rw[t.out];omega) (fun x hx=>by have:=ac x hx;unfold B at this;omega) ak).mono ?_;rintro e w3 ⟨v',zs,rfl,ay,an,K,ae,aH⟩;obtain⟨ar,aJ⟩:=zaF ae;obtain⟨a4,c4,rfl⟩:=K.form;have ap:=hd9 an;clear an)
   refine bR (v:=Oa #[Z a4 zs.length c4]) (by simp[results,Tryz.results287,go_sem,ar,ax]) rfl ⟨_,rfl,⟨_,zs,rfl,ownM oM (K.setOther (p:=⟨w.heap.size+1,0,M⟩) (K.ne_block ((ae.block _ dO).trans s.out) dM) _),ay,?_⟩,(hx.thenB ae oM).set sM _⟩;rw[ap.out]
   rcases i with _|j
   ·rw[R.1 rfl,<-Hv.out,List.eq_nil_of_length_eq_zero Hl.out];rfl
   ·have:=R.2 oM
    rw[lT (by rw[Hl.out];omega),Hv.out]at this;omega
theorem zhT(b k:Int)(xs:List Int):dv b (xs.map (·*k))=k*dv b xs:=by
 induction xs with
 | nil=>simp
 | cons x xs d=>simp only[List.map_cons,zbd,d];grind
theorem zhe(r:Nat)(h:r<24):(1:Int)<=2 ^ r/\(2:Int) ^ r<=8388608:=by
 have b:(2:Int) ^ r<=2 ^ 23:=by
  obtain⟨k,e⟩:=Nat.exists_eq_add_of_le (show r<=23 by omega);have:(2:Int) ^ 23=2 ^ r*2 ^ k:=by rw[<-Int.pow_add,<-e]
  have f:(0:Int)<2 ^ k:=Int.pow_pos dM;have d:(0:Int)<2 ^ r:=Int.pow_pos dM;have:(2:Int) ^ r*1<=2 ^ r*2 ^ k:=Int.mul_le_mul_of_nonneg_left oM oM;omega
 have d:(0:Int)<2 ^ r:=Int.pow_pos dM;exact⟨by omega,b⟩
theorem zoI(q:Nat):B ^ q=2 ^ (24*q):=by
 rw[Int.pow_mul];rfl
def ShI(w:O)(xs:List Int)(m k:Nat)(t5 t21:X)(wr:O):Prop:=
 ∃(i:Nat)(b:Option U)(d:Nat),t21=G N i/\i<=m/\t5=Z b (k / 24+i) d/\Own 2 wr (w.heap.size+1+1) t5 (List.replicate (k / 24) 0++(xs.take i).map (·*2 ^ (k % 24))) /\
  Ext w wr/\w.heap.size+1+1<wr.heap.size/\wr.heap[w.heap.size+1]?=Y (H #[Z M 0 0] 59 (0,0))
theorem zea(w:O)(va:X)(na:Int)(k:Nat)(ha:IsD w va na)(ao:Lm lim na)(hk:k<=10000000000) :
  Calls Tryz.prog 289 #[va,G N k] w fun e w'=>∃r,e = .returned r/\OwnD w' w.heap.size r (2 ^ k*na)/\Ext w w':=by
 obtain⟨a,m,c,rfl⟩:=ha.form;obtain⟨xs,hl,hi,hc,hv⟩:=ha.open;have hm:=ao.len hc hv;rw[hl]at hm;unfold lim at hm;have W:=hd9 hl;have Hv:=hd9 hv;clear hl hv;go_enter Tryz.func289,Tryz.ntmps289
 go_wp2_with(at_make;refine mkc (n:=k / 24) (m:=k / 24+m+1) zaJ Tryz.underlying57 rfl _ _ rfl _ _ rfl rfl sM sM oM oM ?_;intro w1 f j ae;obtain⟨al,an⟩:=j.cells;simp only[wZ]at f ae)
 go_loopw [5,21] (ShI w xs m k) (fun _ au _=>m-(intOf au).toNat)
 case atStart =>
  refine⟨0,_,_,rfl,by omega,rfl,by simpa using f,((eR w).alloc _).alloc _ |>.trans j,by omega,?_⟩;rw[j.block sM];exact qhA _ _ _ sM
 case round =>
  clear f j al an ae;obtain⟨i,a2,c2,rfl,az,rfl,s,hx,aE,P⟩:=hrel;have q:=hd9 P;clear P
  by_cases aA:i<m
  ·obtain⟨b,o,rfl,av,j⟩:=(hi.ext hx).open (by rw[W.out];omega)
   obtain⟨x,L⟩:∃x,xs[i]?=Y x:=⟨xs[i]'(by rw[W.out];omega),by simp[W.out]⟩;have aw:=j i x L;have D:=hc.1 x (lM L);have aj:=hd9 L;have ai:=hd9 D;have aB:(0:Int)<=(k:Int) % 24:=oM
   have aC:(k:Int) % 24<24:=oM
   clear j L D
   go_wp2_with(at_builtin;refine app1 zaJ Tryz.underlying57 rfl _ _ rfl rfl s rfl (by simp;omega) oM ?_;intro v' w2 d t K)
   go_roundw
   case rel =>
    obtain⟨a3,c3,rfl⟩:=d.form;have hp:=zhe (k % 24) (Nat.mod_lt _ dM);have D:=ai.out;unfold B at D;have h1:0<=x*2 ^ (k % 24):=Int.mul_nonneg D.1 oM;have h2:x*2 ^ (k % 24)<=16777216*8388608:=Int.mul_le_mul oM hp.2 oM oM;rw[IntWalk.wrap64_in _ ⟨by omega,by omega⟩]at d ⊢
    have ap:(List.replicate (k / 24) 0++List.map (fun x=>x*2 ^ (k % 24)) (List.take i xs)++[x*2 ^ (k % 24)]).length=k / 24+(i+1):=by
     have:=W.out;simp;omega
    rw[ap]at d ⊢;refine⟨i+1,a3,c3,by go_num,by omega,rfl,?_,hx.thenB t oM,?_,K.get q.out dM⟩
    ·rw[zab _ _ _ aj.out,List.map_append,<-List.append_assoc];exact d
    ·have:=t.size;omega
   case measure=>simp[intOf];omega
  ·obtain rfl:i=m:=oM
   have aq:=cell_of_one q.out;have aD:=free_of_one q.out;rw[lT (by rw[W.out];omega)]at s;obtain⟨R,u⟩:∃R,R=List.replicate (k / 24) 0++xs.map (·*2 ^ (k % 24)):=⟨_,rfl⟩;have ac:R.length=k / 24+i:=by rw[u];simp[W.out]
   rw[<-u]at s
   have z:dv B R=2 ^ k*na:=by
    rw[u,zaG,zax,zhT,List.length_replicate,Hv.out,zoI,Int.zero_add,<-Int.mul_assoc,<-Int.pow_add]
    congr 2;omega
   have ab:∀x∈R,-4611686018427387904<=x/\x<=4611686018427387904:=by
    intro x hx;rw[u]at hx
    rcases List.mem_append.1 hx with h|h
    ·have:=(List.mem_replicate.1 h).2;omega
    ·obtain⟨y,hy,rfl⟩:=List.mem_map.1 h
     have af:=hc.1 y hy;unfold B at af;have hp:=zhe (k % 24) (Nat.mod_lt _ dM);have h1:0<=y*2 ^ (k % 24):=Int.mul_nonneg af.1 oM;have h2:y*2 ^ (k % 24)<=16777216*8388608:=Int.mul_le_mul oM hp.2 oM oM;omega
   have ad:0<=dv B R:=by rw[z];exact Int.mul_nonneg (Int.le_of_lt (Int.pow_pos dM)) ha.nonneg
   have aa:=hd9 z;have ah:=hd9 ac;clear z ac u hi ha hc
   go_wp2_with(go_at_call 235;with_reducible refine(zcm (w.heap.size+1+1) _ R _ s oM (by rw[ah.out];omega) ab ad).mono ?_;rintro e w3 ⟨v',zs,rfl,ar,ag,d,Q,ax⟩;obtain⟨am,ay⟩:=zaF Q;obtain⟨a4,c4,rfl⟩:=d.form;have ak:=hd9 ag;clear ag)
   refine bR (v:=Oa #[Z a4 zs.length c4]) (by simp[results,Tryz.results289,go_sem,am,aq]) rfl ⟨_,rfl,⟨_,zs,rfl,ownM oM (d.setOther (p:=⟨w.heap.size+1,0,M⟩) (d.ne_block ((Q.block _ dO).trans q.out) dM) _),ar,?_⟩,(hx.thenB Q oM).set dO _⟩;rw[ak.out,aa.out]
end
section
open Go.RowKit Go.Shelf
attribute [local go_sem] Oper.semAt_some
def Sim(B:Nat)(W W':O):Prop:=Below B W W'/\∀(k:Nat)(o:Obj),W.heap[k]?=Y o->o.isCells=true->W'.heap[k]?=Y o
theorem Sim.of_grown{B:Nat}{W W':O}{row:Option Nat}(d:W.grownBy W' row)(p:B<=W.heap.size)(i:∀r,row=Y r->B<=r/\∃o:Obj,W.heap[r]?=Y o/\o.isCells=false):Sim B W W':=by
 refine⟨(Below.refl B W).grown d p (fun k b=>(i k b).1),fun k o b f=>?_⟩;rw[d.block k (zaa b) (fun e=>by obtain⟨_,q,j,m⟩:=i k e.symm;rw[j]at b;cases b;rw[m]at f;cases f)];exact b
theorem Sim.keep{B:Nat}{W W':O}(h:Sim B W W')(T:TypeId):KeepT T W W':=fun b e f d=>h.2 b _ d rfl
theorem Sim.ext{B:Nat}{w W W':O}(h:Sim B W W')(k:Ext w W)(b:w.heap.size<=B):Ext w W':=k.thenB h.1 b
theorem Sim.heap{B:Nat}{W W':O}(h:Sim B W W'){b:Nat}{cs:Array X}{T:TypeId}{d:Nat×Nat}(e:W.heap[b]?=Y (H cs T d)):W'.heap[b]?=Y (H cs T d):=h.2 b _ e rfl
theorem Sim.size{B:Nat}{W W':O}(h:Sim B W W'):W.heap.size<=W'.heap.size:=h.1.size
theorem zam{β:Type}{B:Nat}{I:β->O->Prop}(f:∀s W,I s W->B<=W.heap.size)(h:∀s W W',I s W->Sim B W W'->I s W'):OwnFrom B I:=
 fun s W W' _ b d e=>h s W W' b (Sim.of_grown d (f s W b) e)
theorem zgL(w:O)(sl:Option U)(n c:Nat) :
  Calls Tryz.prog 189 #[Oa #[Z sl n c]] w fun e f=>e = .returned (.func (.func 237) #[] #[Ob (Y ⟨w.heap.size,0,M⟩)])/\w.alloc (H #[Z sl n c] 59)=f:=by
 have d:∀(b:Fn)(first cap:Array X)(w:O),(Instr.makeFunc b first cap).run Tryz.prog w = .ok (.func b first cap) w:=fun _ _ _ _=>rfl
 go_enter Tryz.func189,Tryz.ntmps189;go_wp2;go_ret;exact⟨rfl,rfl⟩
abbrev Dgt:={ x:Int // 0<=x/\x<16777216 }
def vals(xs:List Dgt):List Int:=xs.map (·.1)
theorem zgF:∀{xs:List Int},Dig B xs->∃ds:List Dgt,vals ds=xs
 | [],_=>⟨[],rfl⟩
 | x::xs,h=>by
  obtain⟨ds,b⟩:=zgF (fun d b=>h d (mC _ b):Dig B xs);exact⟨⟨x,h x (List.mem_cons_self)⟩::ds,congrArg (x::·) b⟩
theorem zlW(xs:List Dgt):Dig B (vals xs):=by
 intro d b;obtain⟨x,_,rfl⟩:=List.mem_map.1 b;exact x.2
@[simp] theorem zbJ(xs : List Dgt) : (vals xs).length = xs.length := by simp[vals]
def KpW(w:O)(bx:Nat)(W W':O):Prop:=Below w.heap.size W W'/\W'.heap[bx]?=W.heap[bx]?
theorem KpW.refl(w:O)(b:Nat)(W:O):KpW w b W W:=⟨Below.refl _ _,rfl⟩
theorem KpW.trans{w:O}{b:Nat}{A B C:O}(h:KpW w b A B)(k:KpW w b B C):KpW w b A C:=⟨h.1.trans k.1,k.2.trans h.2⟩
theorem KpW.put{w:O}{b:Nat}{w0:O}(p:w.heap.size<=w0.heap.size)(j:b<w0.heap.size)(W:O)(l:Nat)(o f:Obj)(m:w0.heap.size<=l)(h:W.heap[l]?=Y o)(_:o.isCells=false)(_:o.isWalk=false):KpW w b W (W.putObj l f):=by
 have d:=grownBy_putObj' W l f;have i:=zaa h;exact⟨(Below.refl _ W).grown d oM (fun k e=>by cases e;omega),d.block b oM (by intro e;cases e;omega)⟩
theorem KpW.set{w:O}{b:Nat}{A B:O}(h:KpW w b A B){p:U}(f:w.heap.size<=p.block)(d:p.block≠b)(u:X):KpW w b A (B.setCell p u):=
 ⟨h.1.setCell f u,(bS _ _ _ _ (fun e=>d e.symm)).trans h.2⟩
theorem KpW.ext{w:O}{b:Nat}{A B C:O}(h:KpW w b A B)(k:Ext B C)(e:w.heap.size<=B.heap.size)(d:b<B.heap.size):KpW w b A C:=⟨h.1.trans (Below.mono k e),(k.block d).trans h.2⟩
theorem KpW.below{w:O}{b:Nat}{A B C:O}{n:Nat}(h:KpW w b A B)(k:Below n B C)(e:w.heap.size<=n)(d:b<n):KpW w b A C:=⟨h.1.trans (Below.mono k e),(k.block _ d).trans h.2⟩
theorem KpW.drewN{w:O}{b:Nat}{A B:O}(h:KpW w b A B)(n:Nat):KpW w b A (B.drewN n):=⟨below_drewN h.1 n,h.2⟩
theorem zk2(F:Fence)(n:Nat)(hf:F.fn 237)(L:F.round=M)(hn:1<=n)(l d:Nat)(w w0:O)(sl:X)(xs:List Dgt)(J R:List Dgt->O->Prop)
  (hY:∀pre x W,J pre W->pre.length<xs.length->YieldAt F (n-1) Tryz.prog l #[G N x.1] W fun e W' =>
   (e = .returned (.bool true)/\J (pre++[x]) W'/\KpW w d W W')\/(e = .returned (.bool false)/\R (pre++[x]) W'))
  (f:w0.cell? ⟨d,0,M⟩=Y sl)(ac:d<w0.heap.size)(u:Ints 2 w sl (vals xs))(hw:Ext w w0)(W:O)(hW:KpW w d w0 W)(h0:J [] W) :
  CallsIn F n Tryz.prog 237 #[.func (.yield l) #[] #[],Ob (Y ⟨d,0,M⟩)] W fun e W'=>(∃v,e = .returned v) /\
   ((∃ys,ys=xs.reverse/\J ys W')\/(∃pre,pre <+: xs.reverse/\R pre W')):=by
 obtain⟨a,c,rfl⟩:=u.form;have t:=u.le;obtain⟨m,y⟩:=gX xs.length;rw[zbJ,y]at u f t;rw[y]at hY;unfold maxLen at t;have p:=hd9 y;clear y;have aa:W.cell? ⟨d,0,M⟩=Y (Z a m c):=(World.cell?_of_block hW.2).trans f;refine callsIn_of_wp Tryz.func237 rfl hf ?_ L;simp only[Tryz.ntmps237,List.size_toArray,List.length_cons,List.length_nil,Nat.reduceAdd,Nat.reduceSub,Array.replicate_succ,Array.replicate_zero,List.push_toArray,List.append_toArray,List.nil_append,List.cons_append]
 gi_wp2
 gi_loopw [3] (fun Q wr=>∃k:Nat,k<=m/\Q=G N ((k:Int)-1)/\J (xs.drop k).reverse wr/\KpW w d w0 wr)
  (fun Q _=>(intOf Q+1).toNat)
 case atStart=>exact⟨m,nE _,rfl,by rw[List.drop_of_length_le (by rw[p.out];omega)];exact h0,hW⟩
 case round =>
  obtain⟨k,ae,rfl,hJ,P⟩:=hrel
  rcases k with _|k
  ·gi_wp2
   go_end0
   exact⟨⟨_,rfl⟩,.inl ⟨_,rfl,by simpa using hJ⟩⟩
  ·rw[show (((k+1:Nat):Int)-1)=(k:Int) by omega]
   obtain⟨b,o,rfl,hb,hc⟩:=(u.ext (hw.thenB P.1 (nE _))).open (by rw[zbJ,p.out];omega);obtain⟨x,i⟩:∃x,xs[k]?=Y x:=⟨xs[k]'(by rw[p.out];omega),by simp[p.out]⟩;have ad:=hc k x.1 (by simp[vals,i]);have ab:wr.cell? ⟨d,0,M⟩=Y (Z (Y ⟨b,o,M⟩) m c):=(World.cell?_of_block P.2).trans f;clear hc;obtain⟨fn,tmps,assign,body,hy,hR⟩:=hY _ x wr hJ (by simp only[List.length_reverse,List.length_drop,p.out];omega);have z:=hd9 i;have s:(List.drop (k+1) xs).reverse++[x]=(xs.drop k).reverse:=by rw[zaz z.out,List.reverse_cons]
   have j:=hd9 s;clear i s
   gi_wp2
   refine hR.mono ?_;rintro e W3 (⟨rfl,D,K⟩|⟨rfl,q⟩)
   ·gi_wp2
    go_roundw
    case rel=>exact⟨k,by omega,rfl,by rw[<-j.out];exact D,P.trans K⟩
    case measure=>simp[intOf]
   ·gi_wp2
    refine bR (results_none rfl _ _ _) rfl ?_;refine⟨⟨_,rfl⟩,.inr ⟨_,?_,q⟩⟩;rw[j.out];refine⟨(xs.take k).reverse,?_⟩;rw[<-List.reverse_append,List.take_append_drop]
theorem zeo(F:Fence)(n:Nat)(p:F.fn 237)(f:F.round=M)(s:1<=n)(b:Nat)(w w0:O)(sl:X)(xs:List Dgt)
  (e:w0.cell? ⟨b,0,M⟩=Y sl)(d:b<w0.heap.size)(q:Ints 2 w sl (vals xs))(i:Ext w w0) :
  SeqStopsK F n Tryz.prog 237 #[Ob (Y ⟨b,0,M⟩)] (fun x:Dgt=>#[G N x.1]) (KpW w b) (fun t=>t=xs.reverse) (fun pre=>pre <+: xs.reverse) xs.length w0:=
 fun l J j W m _ _ o k=>zk2 F n p f s l b w w0 sl xs J j o e d q i W ((KpW.refl w b w0).ext m i.size d) k
def hv(pre:List Dgt):Int:=dv B (vals pre).reverse
theorem zgl(pre:List Dgt)(x:Dgt):hv (pre++[x])=x.1+B*hv pre:=by simp[hv,vals]
theorem zjk(xs:List Dgt):hv xs.reverse=dv B (vals xs):=by simp[hv,vals]
theorem zjj(pre:List Dgt):0<=hv pre/\hv pre<B ^ pre.length:=by
 have:=zak zbt (show Dig B (vals pre).reverse from fun d b=>zlW pre d (List.mem_reverse.1 b))
 simpa[hv] using this
theorem or24u(n x:Int)(k:0<=n)(o:n<1099511627776)(m:0<=x)(p:x<16777216):bits BinOp.or IntKind.u64 (n*16777216) x=n*16777216+x:=by
 obtain⟨a,rfl⟩:=Int.eq_ofNat_of_zero_le k;obtain⟨b,rfl⟩:=Int.eq_ofNat_of_zero_le m;have i:((a*16777216:Nat):Int)=(a:Int)*16777216:=sM
 have j:((a*16777216+b:Nat):Int)=(a:Int)*16777216+(b:Int):=sM
 have d:a*16777216<18446744073709551616:=oM
 have f:b<18446744073709551616:=oM
 have e:a*16777216 ||| b=a*16777216+b:=by
  have:=Nat.shiftLeft_add_eq_or_of_lt (show b<2 ^ 24 by omega) a;rw[Nat.shiftLeft_eq]at this;exact this.symm
 have h:=bits_or_u64_nat (a*16777216) b d f;rw[e,i,j]at h;exact h
def WmI(w:O)(pre:List Dgt)(W:O):Prop:=
 Ext w W/\w.heap.size+1+1+1<=W.heap.size/\W.heap[w.heap.size+1]?=Y (H #[G .u64 (hv pre)] 214 (0,0))
theorem zcH(w:O)(va:X)(Q:Int)(ha:IsD w va Q)(u:Lm 2 Q) :
  Calls Tryz.prog 138 #[va] w fun e w'=>e = .returned (G .u64 Q)/\Ext w w':=by
 obtain⟨a,m,c,rfl⟩:=ha.form;obtain⟨xs,hl,hi,hc,hv⟩:=ha.open;have hm:=u.len hc hv;obtain⟨ds,rfl⟩:=zgF hc.1;have Hl:=hd9 hl;have Hv:=hd9 hv;clear hl hv;refine(callsIn_wide (n:=5)).1 ?_;refine callsIn_of_wp_marks Tryz.func138 rfl trivial ?_ rfl;simp only[Tryz.ntmps138,List.size_toArray,List.length_cons,List.length_nil,Nat.reduceAdd,Nat.reduceSub,Array.replicate_succ,Array.replicate_zero,List.push_toArray,List.append_toArray,List.nil_append,List.cons_append]
 gi_wp2_with(refine⟨trivial,?_⟩;gi_at_call 189;refine(callsIn_wide.2 (zgL _ _ _ _)).mono ?_;rintro e w' ⟨rfl,rfl⟩)
 have t:(((w.alloc (H #[Z a m c] 59)).alloc (H #[G .u64 0] 214)).alloc (H #[Z a m c] 59)).cell? ⟨w.heap.size+1+1,0,M⟩=Y (Z a m c):=by
  rw[World.cell?_alloc_at _ _ _ _ sM];rfl
 refine wpIn_rangeFunc_ownG rfl dM (gf:=237) (lb:=#[Ob (Y ⟨w.heap.size+1+1,0,M⟩)]) rfl trivial (enters_of Tryz.func237 kM rfl)
  (zeo _ _ trivial rfl dM (w.heap.size+1+1) w _ _ ds t sM hi ((((eR w).alloc _).alloc _).alloc _)) KpW.trans (KpW.put (by simp;omega) sM) (Below.refl _ _) (fun _=>rfl)
  (WmI w) (fun _ _ _=>False) (zam (fun s W h=>by have:=h.2.1;simp;omega) (fun s W W' h k=>?hsim)) (fun _=>zam (fun _ _ h=>h.elim) (fun _ _ _ h _=>h)) ?h0
  (fun x=>{ tmps:=#[Oa #[Z a m c],Ob (Y ⟨w.heap.size,0,M⟩),G .u64 0,Ob (Y ⟨w.heap.size+1,0,M⟩),G N x.1,Oa #[Z a m c],.func (.func 237) #[] #[Ob (Y ⟨w.heap.size+1+1,0,M⟩)],G N x.1,undef,undef,undef,undef,undef,undef],defers:=[] }) ?assign ?body ?done ?stop
 case hsim =>
  obtain⟨f,o,d⟩:=h;exact⟨k.ext f (by simp;omega),by have:=k.size;omega,k.heap d⟩
 case h0=>exact⟨(((eR w).alloc _).alloc _).alloc _,by simp,by rw[Below.heap_alloc _ _ _ sM];exact qhA _ _ _ sM⟩
 case assign =>
  intro l x W K i
  gi_wp2
  exact i
 case body =>
  rintro l pre x W ⟨f,o,d⟩ aa;have j:=zjj pre;have L:=x.2.1;have P:=x.2.2
  have z:hv pre<16777216:=by
   have:=zaD (b:=B) dM (show pre.length<=1 by have d:=Hl.out;have h6:=zbJ ds;omega);unfold B at *;omega
  have h1:=cell_of_one d;have h2:=free_of_one d;have R:=hd9 d;clear d;obtain⟨n,y⟩:=gX (hv pre);rw[y]at h1 j z;have ac:=or24u n x.1 j.1 oM L P;have Hn:=hd9 y;have ab:=j.1;clear y j
  gi_wp2
  refine⟨(KeepsOthers.setCell _ _ _).from _,(KpW.refl _ _ W).set (p:=⟨w.heap.size+1,0,M⟩) dO sM _,f.set dO _,by simp only[qcZ];exact o,?_⟩;rw[one_setCell R.out,zgl,Hn.out,show x.1+B*n=n*16777216+x.1 by unfold B;omega]
 case done =>
  rintro D ys W hD rfl ⟨f,o,d⟩ i;rw[zjk,Hv.out]at d;have h1:=cell_of_one d;have q:w.heap.size<=D:=by simp at hD;omega
  have R:=hd9 d;clear d
  gi_wp2
  refine⟨by simp,.inl ⟨_,_,rfl,run_takeDeferred i,?_⟩⟩;refine⟨_,results_tmp rfl _ _ _,rfl,?_⟩;exact f.thenB ((Below.refl D W).grown (grownBy_putObj' W D _) (by have:=zaa i;omega) (fun k e=>by cases e;omega)) q
 case stop =>
  rintro D c pre W _ _ h _;exact h.elim
end
end Go.Proofs.YtjnjpagegkcgfaaGreatDoor.Cop
