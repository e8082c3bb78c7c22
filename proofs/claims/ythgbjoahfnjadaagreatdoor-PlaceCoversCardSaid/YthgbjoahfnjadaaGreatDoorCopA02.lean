import Derived.Test.YthgbjoahfnjadaaGreatDoorProg
import Derived.WalkKit
import Derived.Lib.Hide
import Derived.Deep.QuietTactic
import Derived.BigQuiet
import Derived.Deep.RegionHeld3
import Derived.WalkSpells
import Derived.WalkLawsBesides
import Derived.Maps.AppendAt
import Derived.Laws.CopyOwn
import Derived.Laws.AppendOwnNone
import Derived.OwnWalkIn
import Derived.Test.YthgbjoahfnjadaaGreatDoorCopA00
import Derived.RangeFuncNested
import Derived.RangeFuncBound
import Derived.RangeFuncCalls
import Derived.RangeFuncLeaves
import Derived.Shelf.Abstract
import Derived.Shelf.RegionOpen
import Derived.TacticsInMore
import Derived.LoopNIn
import Derived.LoopIn
import Derived.Deep.RegionWith
import Derived.Laws.FloatArith
set_option maxRecDepth 1000000
set_option maxHeartbeats 16000000
set_option linter.all false
open Go renaming World->O,Value->X,Addr->U
open Option renaming some->Y,none->M
open Go.Value renaming slice->Z,int->G,agg->Oa,pointer->Ob
open Go.IntKind renaming i64->N
open Go.Obj renaming cells->H
namespace Go.Proofs.YthgbjoahfnjadaaGreatDoor.Cop
section
open Go.RowKit
def kM{p:Prop}(h:p:=by kernel_rfl):p:=h
def pH{w:O}{b:Nat}{o:Obj}(h:w.heap[b]?=Y o):b<w.heap.size:=(Array.getElem?_eq_some_iff.1 h).1
def oa(w w':O):Prop:=Below w.heap.size w w'
def oa.refl(w:O):oa w w:=Below.refl _ w
def oa.trans{a b c:O}(h:oa a b)(k:oa b c):oa a c:=Below.trans h (Below.mono k h.size)
def oa.alloc{a b:O}(h:oa a b)(o:Obj):oa a (b.alloc o):=Below.alloc h h.size o
def oa.drewN{a b:O}(h:oa a b)(n:Nat):oa a (b.drewN n):=below_drewN h n
def oa.drew{a b:O}(h:oa a b):oa a b.drew:=Below.drew h
def oa.set{a b:O}(h:oa a b){p:U}(d:a.heap.size<=p.block)(u:X):oa a (b.setCell p u):=Below.setCell h d u
def zc(p:Prop):Prop:=p
def zc.o{p:Prop}(h:zc p):p:=h
def ia{p:Prop}(h:p):zc p:=h
def wZ(w:O)(o:Obj):(w.alloc o).heap.size=w.heap.size+1:=World.size_alloc w o
def lM{α:Type _}{l:List α}{i:Nat}{a:α}(h:l[i]?=Y a):a∈l:=List.mem_of_getElem? h
def lS{α:Type _}{l:List α}{i:Nat}{a:α}:l[i]?=Y a ↔ ∃h:i<l.length,l[i]=a:=List.getElem?_eq_some_iff
def lP{α β:Type _}{f:α->β}{l:List α}{i:Nat}:(l.map f)[i]?=l[i]?.map f:=List.getElem?_map ..
def lL{α β:Type _}{f:α->β}{l:List α}:(l.map f).length=l.length:=List.length_map ..
def lT{α:Type _}{l:List α}{n:Nat}(h:l.length<=n):l.take n=l:=List.take_of_length_le h
def eR(w:O):oa w w:=oa.refl w
def gX{α:Sort _}(a:α):∃x,a=x:=⟨a,rfl⟩
def nE(n:Nat):n<=n:=Nat.le_refl n
def nT{n m k:Nat}(h:n<=m)(b:m<=k):n<=k:=Nat.le_trans h b
def gE{α:Type _}{l:List α}{i:Nat}(h:i<l.length):l[i]?=Y l[i]:=List.getElem?_eq_getElem h
def gD{α:Type _}{l:List α}{i:Nat}{a:α}:l.getD i a=l[i]?.getD a:=List.getD_eq_getElem?_getD
def aN(w:O)(o:Obj):(w.alloc o).heap[w.heap.size]?=Y o:=heap_alloc_new w o
def bS(w:O)(a:U)(u:X)(k:Nat)(h:k≠a.block):(w.setCell a u).heap[k]?=w.heap[k]?:=Below.heap_setCell w a u k h
def iW(n:Int)(h:-9223372036854775808<=n/\n<=9223372036854775807):IntKind.i64.wrap n=n:=IntWalk.i64_in n h
def mC{α:Type _}(y:α){a:α}{l:List α}(h:a∈l):a∈y::l:=List.mem_cons_of_mem y h
def lA{α:Type _}{xs b:List α}:(xs++b).length=xs.length+b.length:=List.length_append
def cM{P:Program}{f:FuncId}{args:Array X}{w:O}{R b:Ending->O->Prop}(h:Calls P f args w R)(d:∀e w',R e w'->b e w'):Calls P f args w b:=Calls.mono h d
def bR{P:Program}{b:Func}{R:Ending->O->Prop}{a:Act}{w:O}{v:X}(i:(results b a.tmps).run P w = .ok v w)(e:a.defers=[])(d:R (.returned v) w):bodyPost P b R .ret a w:=bodyPost_ret i e d
class StQ (c:O) (b:outParam O):Prop where
 up:∀a:O,oa a b->oa a c
instance XM (b:O) (o:Obj):StQ (b.alloc o) b:=⟨fun _ h=>h.alloc o⟩
instance WM (b:O):StQ b.drew b:=⟨fun _ h=>h.drew⟩
instance VM (b:O) (n:Nat):StQ (b.drewN n) b:=⟨fun _ h=>h.drewN n⟩
def eX{a b c:O}[s:StQ c b](h:oa a b):oa a c:=s.up a h
def eT{a b c:O}(h:oa a b)(k:oa b c:=by with_reducible assumption):oa a c:=h.trans k
def eS{a b:O}{p:U}{u:X}(h:oa a b)(d:a.heap.size<=p.block:=by(dsimp only;omega)):oa a (b.setCell p u):=h.set d u
def eA{w b:O}(h:oa w b:=by with_reducible repeat(first|assumption|exact eR _|refine eX ?_|refine eT ?_|refine eS ?_)):oa w b:=h
def gA{α:Type _}{l:List α}{i:Nat}:l.toArray[i]?=l[i]?:=List.getElem?_toArray
def gS{α:Type _}{a:α}{l:List α}{i:Nat}:(a::l)[i+1]?=l[i]?:=List.getElem?_cons_succ
def gZ{α:Type _}{a:α}{l:List α}:(a::l)[0]?=Y a:=List.getElem?_cons_zero
def sA{α:Type _}{l:List α}{i:Nat}{a:α}:l.toArray.setIfInBounds i a=(l.set i a).toArray:=List.setIfInBounds_toArray ..
def sZ{α:Type _}{l:List α}{a b:α}:(a::l).set 0 b=b::l:=List.set_cons_zero
def sS{α:Type _}{l:List α}{n:Nat}{a b:α}:(a::l).set (n+1) b=a::l.set n b:=List.set_cons_succ
def oa.E{a b c:O}{n:Nat}(h:oa a b)(k:Below n b c)(d:a.heap.size<=n):oa a c:=Below.trans h (Below.mono k d)
def oa.size{a b:O}(h:oa a b):a.heap.size<=b.heap.size:=Below.size h
def oa.block{a b:O}(h:oa a b){k:Nat}(d:k<a.heap.size):b.heap[k]?=a.heap[k]?:=Below.block h k d
def Kc(w:O)(o:Obj)(k:Nat)(h:k=w.heap.size):(w.alloc o).heap[k]?=Y o:=by subst h;exact heap_alloc_new w o
def oa.d{a b:O}(h:oa a b){p:U}{v:X}(d:a.cell? p=Y v):b.cell? p=Y v:=by rw[Below.cell h (World.block_lt_of_cell? a p d)];exact d
def oa.e{a b:O}(h:oa a b){k:Nat}{o:Obj}(d:a.heap[k]?=Y o):b.heap[k]?=Y o:=by rw[h.block (pH d)];exact d
def oa.below{a b:O}{n:Nat}(h:oa a b)(d:n<=a.heap.size):Below n a b:=Below.mono h d
def oa.cells{W d:O}(e:oa W d):(∀b o,b<W.heap.size->d.cell? ⟨b,o,M⟩=W.cell? ⟨b,o,M⟩)/\(∀b o,b<W.heap.size->d.frozen? ⟨b,o,M⟩=W.frozen? ⟨b,o,M⟩):=
 ⟨fun b o h=>Below.cell e (p:=⟨b,o,M⟩) h,fun b o h=>Below.frozen e (p:=⟨b,o,M⟩) h⟩
def jc{w:O}{b:Nat}{o:Obj}(h:w.heap[b]?=Y o):b<w.heap.size:=(Array.getElem?_eq_some_iff.1 h).1
def Fa(T:TypeId)(w w':O):Prop:=∀(b:Nat)(d:Array X)(e:Nat×Nat),w.heap[b]?=Y (Obj.cells d T e)->w'.heap[b]?=Y (Obj.cells d T e)
def Fa.refl(T:TypeId)(w:O):Fa T w w:=fun _ _ _ h=>h
def Fa.trans{T:TypeId}{a b c:O}(h:Fa T a b)(k:Fa T b c):Fa T a c:=fun x d e i=>k x d e (h x d e i)
def Fa.ext{T:TypeId}{a b c:O}(h:Fa T a b)(k:oa b c):Fa T a c:=
 fun x d e i=>by have:=h x d e i;rw[k.block (jc this)];exact this
def oa.keep{T:TypeId}{a b:O}(h:oa a b):Fa T a b:=(Fa.refl T a).ext h
def Fa.alloc{T:TypeId}{a b:O}(h:Fa T a b)(o:Obj):Fa T a (b.alloc o):=h.ext ((oa.refl b).alloc o)
def Fa.set{T T':TypeId}{a b:O}(h:Fa T a b){p:U}{d:Array X}{i:Nat×Nat}(k:b.heap[p.block]?=Y (H d T' i))(q:T'≠T)(u:X):Fa T a (b.setCell p u):=
 fun x m o s=>by
  have j:=h x m o s;rw[Below.heap_setCell _ _ _ _ (by intro e;subst e;rw[j]at k;cases k;exact q rfl)];exact j
def Rd(w:O)(T:TypeId)(k:Nat)(v:X)(n:Nat)(xs:List X):Prop:=
 xs.length=n*k/\∃a c,v=Z a n c/\n<=c/\c<=maxLen/\
  ((n=0/\(a=M->c=0))\/∃b o cs fr,a=Y ⟨b,o,M⟩/\w.heap[b]?=Y (H cs T fr)/\∀(i:Nat)(x:X),xs[i]?=Y x->cs[o+i]?=Y x)
def Rd.keep{w w':O}{T:TypeId}{k:Nat}{v:X}{n:Nat}{xs:List X}(h:Rd w T k v n xs)(q:Fa T w w'):Rd w' T k v n xs:=by
 obtain⟨s,a,c,rfl,j,m,d⟩:=h;refine⟨s,a,c,rfl,j,m,?_⟩;rcases d with d|⟨b,o,e,i,rfl,p,t⟩
 ·exact .inl d
 ·exact .inr ⟨b,o,e,i,rfl,q _ _ _ p,t⟩
def Rd.ext{w w':O}{T:TypeId}{k:Nat}{v:X}{n:Nat}{xs:List X}(h:Rd w T k v n xs)(b:oa w w'):Rd w' T k v n xs:=h.keep b.keep
def Rd.form{w:O}{T:TypeId}{k:Nat}{v:X}{n:Nat}{xs:List X}(h:Rd w T k v n xs):∃a c,v=Z a n c:=by obtain⟨_,a,c,rfl,_⟩:=h;exact⟨a,c,rfl⟩
def Rd.eqn{w:O}{T:TypeId}{k:Nat}{a:Option U}{m c n:Nat}{xs:List X}(h:Rd w T k (Z a m c) n xs):m=n:=by obtain⟨_,a,c,e,_⟩:=h;cases e;rfl
def Rd.le{w:O}{T:TypeId}{k:Nat}{a:Option U}{m c n:Nat}{xs:List X}(h:Rd w T k (Z a m c) n xs):n<=c/\c<=maxLen:=by obtain⟨_,a,c,e,b,d,_⟩:=h;cases e;exact⟨b,d⟩
def Rd.open{w:O}{T:TypeId}{k:Nat}{a:Option U}{m c n:Nat}{xs:List X}(h:Rd w T k (Z a m c) n xs)(q:0<n):∃b o,a=Y ⟨b,o,M⟩/\b<w.heap.size/\(∃cs fr,w.heap[b]?=Y (H cs T fr))/\∀(i:Nat)(x:X),xs[i]?=Y x->w.cell? ⟨b,o+i,M⟩=Y x:=by
 obtain⟨_,a,c,e,_,_,j⟩:=h;cases e;rcases j with j|⟨b,o,cs,fr,rfl,d,p⟩
 ·omega
 ·exact⟨b,o,rfl,jc d,⟨cs,fr,d⟩,fun i x h=>by simp[World.cell?,d,p i x h]⟩
def Rd.nil(w:O)(T:TypeId)(k:Nat):Rd w T k (Z M 0 0) 0 []:=⟨by simp,M,0,rfl,by omega,by unfold maxLen;omega,.inl ⟨rfl,fun _=>rfl⟩⟩
def Rd.of_own{w:O}{base:Nat}{T:TypeId}{k:Nat}{v:X}{n:Nat}{xs:List X}(h:w.ownsRow base T k v n xs):Rd w T k v n xs:=by
 obtain⟨m,d⟩:=h;refine⟨m,?_⟩;rcases d with ⟨rfl,rfl⟩|⟨g,cap,cur,rfl,q,j,o,e,s,p⟩
 ·exact⟨M,0,rfl,by omega,by unfold maxLen;omega,.inl ⟨rfl,fun _=>rfl⟩⟩
 ·refine⟨_,_,rfl,o,e,.inr ⟨g,0,cur,_,rfl,j,fun i x b=>?_⟩⟩;rw[<-p]at b;rw[Nat.zero_add,<-Array.getElem?_toList];rw[List.getElem?_take]at b;split at b
  ·exact b
  ·cases b
def Vo{w:O}{base:Nat}{e:TypeId}{size:Nat}{v:X}{n:Nat}{xs:List X}(h:w.ownsRow base e size v n xs):∃a c,v=Z a n c:=by
 rcases h.2 with ⟨rfl,rfl⟩|⟨g,cap,cur,rfl,_⟩
 ·exact⟨_,_,rfl⟩
 ·exact⟨_,_,rfl⟩
def Ey{w:O}{base:Nat}{e:TypeId}{size:Nat}{a:Option U}{c:Nat}{n:Nat}{xs:List X}(h:w.ownsRow base e size (Z a n c) n xs)(i:0<n):∃g,a=Y ⟨g,0,M⟩/\base<=g:=by
 rcases h.2 with ⟨d,rfl⟩|⟨g,cap,cur,hv,b,_⟩
 ·omega
 ·cases hv;exact⟨g,rfl,b⟩
def Bc(k:IntKind)(xs:List Int):List X:=xs.map (Value.int k)
@[simp] theorem Ur(k:IntKind)(xs:List Int):(Bc k xs).length=xs.length := by simp[Bc]
def LF(k:IntKind)(xs:List Int)(i:Nat)(x:Int):(Bc k xs).set i (G k x)=Bc k (xs.set i x):=by simp[Bc,List.map_set]
def Yo(k:IntKind)(xs b:List Int):Bc k xs++Bc k b=Bc k (xs++b):=by simp[Bc]
def iH(k:IntKind){xs:List Int}{i:Nat}{x:Int}(h:xs[i]?=Y x):(Bc k xs)[i]?=Y (G k x):=by simp[Bc,h]
def Ly(k:IntKind)(x:Int):Bc k [x]=[G k x]:=rfl
def Kb(T:TypeId)(w:O)(base:Nat)(v:X)(xs:List Int):Prop:=w.ownsRow base T 1 v xs.length (Bc N xs)
def Uc(T:TypeId)(w:O)(v:X)(xs:List Int):Prop:=Rd w T 1 v xs.length (Bc N xs)
section
variable {T:TypeId} {w:O} {base:Nat} {v:X} {xs:List Int} {a:Option U} {n c g:Nat}
def Kb.ints(h:Kb T w base v xs):Uc T w v xs:=Rd.of_own h
def Kb.form(h:Kb T w base v xs):∃a c,v=Z a xs.length c:=Vo h
def Kb.len(h:Kb T w base (Z a n c) xs):n=xs.length:=by obtain⟨a,d,b⟩:=Vo h;cases b;rfl
def Kb.stored(h:Kb T w base (Z (Y ⟨g,0,M⟩) n c) xs)(i:Nat)(x:Int):Kb T (w.setCell ⟨g,i,M⟩ (G N x)) base (Z (Y ⟨g,0,M⟩) n c) (xs.set i x):=by have b:=h.len;subst b;have:=(World.ownsRow.stored h i (G N x)).1;rw[LF]at this;simpa[Kb] using this
def Kb.cell(h:Kb T w base (Z (Y ⟨g,0,M⟩) n c) xs){i:Nat}{x:Int}(b:xs[i]?=Y x):w.cell? ⟨g,i,M⟩=Y (G N x):=by have d:=h.len;subst d;have hi:i<xs.length:=(lS.1 b).1;rw[World.ownsRow.cellAt h i oM];simp[Bc,b]
def Kb.frozen(h:Kb T w base (Z (Y ⟨g,0,M⟩) n c) xs)(i:Nat):w.frozen? ⟨g,i,M⟩=false:=by have b:=h.len;subst b;exact World.ownsRow.frozenAt h i
def Kb.blk(h:Kb T w base (Z a n c) xs)(e:0<xs.length):∃g,a=Y ⟨g,0,M⟩/\base<=g/\g<w.heap.size:=by have b:=h.len;subst b;obtain⟨g,rfl,d⟩:=Ey h e;exact⟨g,rfl,d,(World.ownsRow.lt h g rfl).2⟩
def Kb.pop{x:Int}(h:Kb T w base (Z (.some ⟨g,0,M⟩) (n+1) c) (xs++[x])):Kb T w base (Z (.some ⟨g,0,M⟩) n c) xs:=by have b:=h.len;simp at b;subst b;refine ownsRow_pop (last:=Bc N [x]) sM ?_;rw[Yo];simpa[Kb] using h
def Kb.setOther(h:Kb T w base v xs){p:U}(d:v.ownBlock ≠ .some p.block)(u:X):Kb T (w.setCell p u) base v xs:=
 World.ownsRow.kept h (row:=.some p.block) ⟨rfl,rfl,rfl,by simp[World.setCell],fun k _ b=>Below.heap_setCell _ _ _ _ (by intro e;exact b (by rw[e]))⟩ (.inr d)
def Kb.alloc(h:Kb T w base v xs)(o:Obj):Kb T (w.alloc o) base v xs:=World.ownsRow.alloc h o
def Kb.keep{w':O}(h:Kb T w base v xs)(i:Fa T w w'):Kb T w' base v xs:=by
 obtain⟨j,b⟩:=h;refine⟨j,?_⟩;rcases b with b|⟨g,cap,cur,hv,d,e,r⟩
 ·exact .inl b
 ·exact .inr ⟨g,cap,cur,hv,d,i _ _ _ e,r⟩
def Kb.nil(T:TypeId)(w:O)(base:Nat):Kb T w base (Z M 0 0) []:=World.ownsRow_nil w base T 1
def Kb.mono{b':Nat}(h:Kb T w base v xs)(e:b'<=base):Kb T w b' v xs:=by
 obtain⟨d,b⟩:=h;refine⟨d,?_⟩;rcases b with b|⟨g,cap,cur,hv,i,r⟩
 ·exact .inl b
 ·exact .inr ⟨g,cap,cur,hv,by omega,r⟩
def Uc.ext{w':O}(h:Uc T w v xs)(b:oa w w'):Uc T w' v xs:=Rd.ext h b
def Uc.keep{w':O}(h:Uc T w v xs)(b:Fa T w w'):Uc T w' v xs:=Rd.keep h b
def Uc.form(h:Uc T w v xs):∃a c,v=Z a xs.length c:=Rd.form h
def Uc.len(h:Uc T w (Z a n c) xs):n=xs.length:=Rd.eqn h
def Uc.le(h:Uc T w (Z a n c) xs):xs.length<=c/\c<=maxLen:=Rd.le h
def Uc.open(h:Uc T w (Z a n c) xs)(e:0<xs.length):∃b o,a = .some ⟨b,o,M⟩/\b<w.heap.size/\∀(i:Nat)(x:Int),xs[i]? = .some x->w.cell? ⟨b,o+i,M⟩ = .some (G N x):=by obtain⟨b,o,rfl,d,_,j⟩:=Rd.open h e;exact⟨b,o,rfl,d,fun i x h=>j i _ (iH _ h)⟩
def Uc.nil(T:TypeId)(w:O):Uc T w (Z M 0 0) []:=Rd.nil w T 1
end
def Xf{α:Type}(xs:List α)(i:Nat)(x:α)(h:xs[i]?=Y x):xs.take (i+1)=xs.take i++[x]:=by rw[List.take_add_one,h];rfl
def oL{α:Type}(b xs:List α)(x y:α)(h:xs[b.length]?=Y x):(b++xs.drop b.length).set b.length y=(b++[y])++xs.drop (b.length+1):=by have hi:=(lS.1 h).1;rw[List.set_append_right _ _ (Nat.le_refl _),Nat.sub_self,List.drop_eq_getElem_cons hi,List.set_cons_zero];simp
def sL{α:Type}(b xs:List α)(x:α)(h:xs[b.length]?=Y x):(b++xs.drop b.length)[b.length]?=Y x:=by rw[List.getElem?_append_right (Nat.le_refl _),Nat.sub_self,List.getElem?_drop];simpa using h
def yp(b:Int)(xs:List Int)(i:Nat)(x:Int)(h:xs[i]?=Y x):dv b (xs.take (i+1))=dv b (xs.take i)+b ^ i*x:=by have hi:=(lS.1 h).1;rw[Xf _ _ _ h,Un,List.length_take,Nat.min_eq_left oM]
def Vc(T:TypeId)(w w':O):Prop:=∀(k:Nat)(o:Obj),w.heap[k]?=Y o->(∀cs fr,o ≠ H cs T fr)->w'.heap[k]?=Y o
def Vc.get{T T':TypeId}{w w':O}(h:Vc T w w'){k:Nat}{cs:Array X}{b:Nat×Nat}(i:w.heap[k]?=Y (H cs T' b))(d:T'≠T):w'.heap[k]?=Y (H cs T' b):=
 h k _ i (fun cs b e=>by cases e;exact d rfl)
def Vc.keep{T T':TypeId}{w w':O}(h:Vc T w w')(b:T'≠T):Fa T' w w':=fun _ _ _ d=>h.get d b
def lv{P:Program}{T t:TypeId}{w:O}{base:Nat}{v:X}{xs:List Int}{y:Int}{ops:Array Oper}{rest:List Oper}{o:Oper}{a:Act}{Q:Exit->Act->O->Prop}(m:(P.info? T).map (fun i=>(i.zero,i.size,i.bytes))=Y (Y (G N 0),1,8))(ht:P.underlying t=Y (.slice T))(u:o.guard=M)(s x:Operand)(ho:o.op = .call { callee:=.builtin .append,args:=#[s,x],argTypes:=#[t,t] })(hs:a.eval s=v)(d:Kb T w base v xs)
  (hx:a.eval x=Z (Y ⟨w.heap.size,0,M⟩) 1 1)(ab:xs.length<=1000000000000)(j:base<=w.heap.size)
  (h:∀v' w',Kb T w' base v' (xs++[y])->Below base w w'->Vc T w w'->wpList P ops Q rest (a.put o.dst v') w'):wpList P ops Q (o::rest) a (w.alloc (H #[G N y] T)):=by
 obtain⟨i,hi,R,W,aa⟩:=info_parts m;refine wpList_append_own _ u s x t ho base T i (G N 0) 1 8 ht hi R W aa rfl dM v xs.length (Bc N xs) hs (World.ownsRow.alloc d _) ⟨w.heap.size,0,M⟩ 1 1 [G N y] hx rfl
  (cell_one_new _ _ _) (by simp[Value.oneCell']) (by unfold maxLen;omega) oM (by simp;omega) ?_
 intro v' w' p b _;refine h v' w' ?_ ?_ ?_
 ·unfold Kb;rw[<-Yo,Ly,List.length_append];exact p
 ·have hb:Below base w (w.alloc (H #[G N y] T)):=(Below.refl _ _).alloc j _;refine hb.grown b (by simp;omega) (fun k q=>?_);exact(World.ownsRow.lt d k q).1
 ·intro k ob q K;have z:=jc q;rw[b.block k (by simp;omega) ?_,Below.heap_alloc _ _ _ z]
  ·exact q
  ·intro e;rcases d.2 with ⟨h1,_⟩|⟨g,cap,cur,hv,_,hh,_⟩
   ·rw[h1]at e;cases e
   ·rw[hv]at e;cases e;rw[hh]at q;cases q;exact K _ _ rfl
def Vc.refl(T:TypeId)(w:O):Vc T w w:=fun _ _ h _=>h
def Vc.trans{T:TypeId}{a b c:O}(h:Vc T a b)(k:Vc T b c):Vc T a c:=fun x o e d=>k x o (h x o e d) d
def Vc.alloc{T:TypeId}{a b:O}(h:Vc T a b)(o:Obj):Vc T a (b.alloc o):=fun x j i d=>by
 have e:=h x j i d;rw[Below.heap_alloc _ _ _ (jc e)];exact e
def Vc.setNew{T:TypeId}{a b:O}(h:Vc T a b){p:U}(j:a.heap.size<=p.block)(u:X):Vc T a (b.setCell p u):=fun x i e d=>by
 have:=jc e;rw[Below.heap_setCell _ _ _ _ oM];exact h x i e d
def Vc.setRow{T:TypeId}{a b:O}{base g n c i:Nat}{xs:List Int}(h:Vc T a b)(m:Kb T b base (Z (Y ⟨g,0,M⟩) n c) xs)(u:X):Vc T a (b.setCell ⟨g,i,M⟩ u):=fun x p o d=>by
 have e:=h x p o d;rw[Below.heap_setCell _ _ _ _ ?_]
 ·exact e
 ·rintro rfl;rcases m.2 with ⟨j,_⟩|⟨q,cap,cur,hv,_,k,_⟩
  ·cases j
  ·cases hv;rw[k]at e;cases e;exact d _ _ rfl
def Vc.ext{T:TypeId}{a b c:O}(h:Vc T a b)(k:oa b c):Vc T a c:=fun x i e d=>k.e (h x i e d)
def Kb.ne_block{T T':TypeId}{w:O}{base:Nat}{v:X}{xs:List Int}(h:Kb T w base v xs){k:Nat}{cs:Array X}{d:Nat×Nat}(b:w.heap[k]?=Y (H cs T' d))(j:T'≠T):v.ownBlock≠Y k:=by
 intro e;rcases h.2 with ⟨i,_⟩|⟨g,cap,cur,hv,_,m,_⟩
 ·rw[i]at e;cases e
 ·rw[hv]at e;cases e;rw[m]at b;cases b;exact j rfl
def GJ{α:Type}(xs:List α):xs=[]\/∃ys y,xs=ys++[y]:=by
 rcases List.eq_nil_or_concat xs with h|⟨ys,y,h⟩
 ·exact .inl h
 ·exact .inr ⟨ys,y,by simpa using h⟩
def pF{P:Program}{T t:TypeId}(ty:TypeId){w:O}{base:Nat}{v sl:X}{xs s:List Int}(z:(P.info? T).map (fun i=>(i.zero,i.size,i.bytes))=Y (Y (G N 0),1,8))(ht:P.underlying t=Y (.slice T))(d:Kb T w base v xs)(m:Uc T w sl s)(ai:xs.length+s.length<=1000000000000)(p:base<=w.heap.size):∃v' w',(Builtin.append_ #[t,t] ty #[v,sl]).run P w = .ok v' w'/\Kb T w' base v' (xs++s)/\Below base w w'/\Vc T w w':=by
 obtain⟨i,hi,af,ag,ah⟩:=info_parts z;obtain⟨ad,c,rfl⟩:=m.form;rcases ad with _|ad
 ·have h0:s=[]:=by
   by_cases h:0<s.length
   ·obtain⟨b,o,e,_⟩:=m.open h;cases e
   ·exact List.eq_nil_of_length_eq_zero oM
  subst h0;have hc:c=0:=by
   obtain⟨_,a,c,e,_,_,h3⟩:=m;cases e;rcases h3 with h3|⟨b,o,cs,fr,e,_⟩
   ·exact h3.2 rfl
   ·cases e
  subst hc;exact⟨v,w,run_append_owned_none (P:=P) (w:=w) base t ty T i 1 ht hi v xs.length (Bc N xs) d,by simpa using d,Below.refl _ _,fun _ _ y _=>y⟩
 ·have R:∀(j:Nat) u,(Bc N s)[j]?=Y u->w.cell? (ad.add j)=Y u:=by
   intro j u hj;have K:0<s.length:=by have:=(lS.1 hj).1;simp at this;omega
   obtain⟨b',o',e,hb,ac⟩:=m.open K;cases e;simp only[Bc,lP,Option.map_eq_some_iff]at hj;obtain⟨x,ae,rfl⟩:=hj;have:=ac j x ae;unfold Addr.add;split
   ·subst j;simpa using this
   ·exact this
  obtain⟨v',w',aa,W,q,_⟩:=run_append_own (P:=P) w base t ty T i (G N 0) 1 8 ht hi af ag ah rfl dM v xs.length (Bc N xs) d ad s.length c (Bc N s) sM
   R (ints_oneCell N s) (by unfold maxLen;omega) oM p
  refine⟨v',w',aa,?_,?_,?_⟩
  ·unfold Kb;rw[<-Yo,List.length_append];exact W
  ·exact(Below.refl _ w).grown q p (fun k y=>(World.ownsRow.lt d k y).1)
  ·intro k ob y ab;have K:=jc y;rw[q.block k K ?_]
   ·exact y
   ·intro e;rcases d.2 with ⟨h1,_⟩|⟨g,cap,cur,hv,_,hh,_⟩
    ·rw[h1]at e;cases e
    ·rw[hv]at e;cases e;rw[hh]at y;cases y;exact ab _ _ rfl
def lE{F:Fence}{z:Nat}{P:Program}{T t:TypeId}{w:O}{base:Nat}{v sl:X}{xs y:List Int}{ops:Array Oper}{rest:List Oper}{o:Oper}{a:Act}{Q:Exit->Act->O->Prop}(d:(P.info? T).map (fun i=>(i.zero,i.size,i.bytes))=Y (Y (G N 0),1,8))(ht:P.underlying t=Y (.slice T))(q:o.guard=M)(s x:Operand)(u:o.op = .call { callee:=.builtin .append,args:=#[s,x],argTypes:=#[t,t] })(hs:a.eval s=v)(j:Kb T w base v xs)
  (hx:a.eval x=sl)(m:Uc T w sl y)(e:xs.length+y.length<=1000000000000)(b:base<=w.heap.size)
  (h:∀v' w',Kb T w' base v' (xs++y)->Below base w w'->Vc T w w'->wpListIn F z P ops Q rest (a.put o.dst v') w'):wpListIn F z P ops Q (o::rest) a w:=by
 obtain⟨v',w',k,R,W,h3⟩:=pF (P:=P) o.type d ht j m e b;refine wpListIn_plain q fun K hK=>?_;unfold Oper.wpIn;refine⟨?_,?_⟩
 ·simp[Oper.about,u,resolve,Target.leads,Sem.run_pure]
 ·rw[Oper.semAt_plain F _ _ (by rw[u];intro c p;cases p)];simp[execOp,u,resolve,invoke,builtin,hs,hx,k,Result.andThen];exact hK _ _ (h v' w' R W h3)
def jm{n:Nat}{W d:O}(e:Below n W d):(∀b o,b<n->d.cell? ⟨b,o,M⟩=W.cell? ⟨b,o,M⟩)/\(∀b o,b<n->d.frozen? ⟨b,o,M⟩=W.frozen? ⟨b,o,M⟩):=
 ⟨fun b o h=>Below.cell e (p:=⟨b,o,M⟩) h,fun b o h=>Below.frozen e (p:=⟨b,o,M⟩) h⟩
def Fs(n:Nat):(madeCells (Value.cells (G N 0)) (n*1)).toList=Bc N (List.replicate n 0):=by rw[Nat.mul_one];show (madeCells #[G N 0] n).toList=_;rw[toList_madeCells_one];simp[Bc]
def BL{P:Program}{T t:TypeId}{w:O}{n:Nat}{ops:Array Oper}{rest:List Oper}{o:Oper}{a:Act}{Q:Exit->Act->O->Prop}(e:(P.info? T).map (fun i=>(i.zero,i.size,i.bytes))=Y (Y (G N 0),1,8))(R:P.underlying t=Y (.slice T))(m:o.guard=M)(l c:Operand)(K:o.op = .makeSlice t l c)(L:Int)(z:a.eval l=G N L)(x:a.eval c=G N L)(u:L=(n:Int))(W:n<=1000000000000)(h:∀w',Kb T w' w.heap.size (Z (Y ⟨w.heap.size,0,M⟩) n n) (List.replicate n 0)->oa w w'->w.heap.size<w'.heap.size->wpList P ops Q rest (a.put o.dst (Z (Y ⟨w.heap.size,0,M⟩) n n)) w'):wpList P ops Q (o::rest) a w:=by
 obtain⟨i,hi,p,q,s⟩:=info_parts e;refine wpList_make_full w m l c t K w.heap.size T i (G N 0) 1 R hi p q N N L L n z x u u (by rw[s];omega) (by unfold maxLen;omega) (Nat.le_refl _) ?_;intro w' j d;have b:Kb T w' w.heap.size (Z (Y ⟨w.heap.size,0,M⟩) n n) (List.replicate n 0):=by
  unfold Kb;rw[List.length_replicate,<-Fs];exact j
 refine h w' b ((Below.refl _ _).grown d (Nat.le_refl _) (fun k y=>by cases y)) ?_;exact(World.ownsRow.lt b _ rfl).2
def zL{P:Program}{T t:TypeId}{w:O}{n:Nat}{ops:Array Oper}{rest:List Oper}{o:Oper}{a:Act}{Q:Exit->Act->O->Prop}(b:(P.info? T).map (fun i=>(i.zero,i.size,i.bytes))=Y (Y (G N 0),1,8))(y:P.underlying t=Y (.slice T))(j:o.guard=M)(l c:Operand)(x:o.op = .makeSlice t l c)(L:Int)(u:a.eval l=G N L)(s:a.eval c=G N L)(q:L=(n:Int))(z:n<=1000000000000)(h:∀cs,Kb T (w.alloc (H cs T)) w.heap.size (Z (Y ⟨w.heap.size,0,M⟩) n n) (List.replicate n 0)->wpList P ops Q rest (a.put o.dst (Z (Y ⟨w.heap.size,0,M⟩) n n)) (w.alloc (H cs T))):wpList P ops Q (o::rest) a w:=by obtain⟨i,hi,k,d,m⟩:=info_parts b;have p:=run_make (P:=P) w t T i (G N 0) y hi k N N n n oM oM (by rw[m];omega) oM;simp only[Int.toNat_natCast]at p;refine wpList_plain j fun K e=>?_;unfold Oper.wp;subst q;simp[execOp,x,u,s,p,Result.andThen];refine e _ _ (h _ ?_);refine⟨by simp,.inr ⟨w.heap.size,n,_,by simp,Nat.le_refl _,heap_alloc_new w _,by simp,by unfold maxLen;omega,by rw[d];simp[madeCells],?_⟩⟩;rw[d,Fs];simp[Bc]
def PC{F:Fence}{u:Nat}{P:Program}{T t:TypeId}{w:O}{n:Nat}{ops:Array Oper}{rest:List Oper}{o:Oper}{a:Act}{Q:Exit->Act->O->Prop}(b:(P.info? T).map (fun i=>(i.zero,i.size,i.bytes))=Y (Y (G N 0),1,8))(R:P.underlying t=Y (.slice T))(k:o.guard=M)(l c:Operand)(m:o.op = .makeSlice t l c)(L:Int)(z:a.eval l=G N L)(y:a.eval c=G N L)(x:L=(n:Int))(W:n<=1000000000000)(h:∀cs,Kb T (w.alloc (H cs T)) w.heap.size (Z (Y ⟨w.heap.size,0,M⟩) n n) (List.replicate n 0)->wpListIn F u P ops Q rest (a.put o.dst (Z (Y ⟨w.heap.size,0,M⟩) n n)) (w.alloc (H cs T))):wpListIn F u P ops Q (o::rest) a w:=by
 obtain⟨i,hi,p,d,q⟩:=info_parts b;have s:=run_make (P:=P) w t T i (G N 0) R hi p N N n n oM oM (by rw[q];omega) oM;simp only[Int.toNat_natCast]at s;refine wpListIn_plain k fun K e=>?_;unfold Oper.wpIn;subst x;refine⟨?_,?_⟩
 ·simp[Oper.about,m]
 ·rw[Oper.semAt_plain F _ _ (by rw[m];intro c j;cases j)];simp[execOp,m,z,y,s,Result.andThen];refine e _ _ (h _ ?_);refine⟨by simp,.inr ⟨w.heap.size,n,_,by simp,Nat.le_refl _,heap_alloc_new w _,by simp,by unfold maxLen;omega,by rw[d];simp[madeCells],?_⟩⟩;rw[d,Fs];simp[Bc]
def xL{P:Program}{T t:TypeId}{w:O}{n m:Nat}{ops:Array Oper}{rest:List Oper}{o:Oper}{a:Act}{Q:Exit->Act->O->Prop}(b:(P.info? T).map (fun i=>(i.zero,i.size,i.bytes))=Y (Y (G N 0),1,8))(W:P.underlying t=Y (.slice T))(j:o.guard=M)(l c:Operand)(R:o.op = .makeSlice t l c)(L C:Int)(y:a.eval l=G N L)(x:a.eval c=G N C)(u:L=(n:Int))(s:C=(m:Int))(z:n<=m)(hm:m<=1000000000000)(h:∀w',Kb T w' w.heap.size (Z (Y ⟨w.heap.size,0,M⟩) n m) (List.replicate n 0)->oa w w'->w.heap.size<w'.heap.size->wpList P ops Q rest (a.put o.dst (Z (Y ⟨w.heap.size,0,M⟩) n m)) w'):wpList P ops Q (o::rest) a w:=by obtain⟨i,hi,k,d,p⟩:=info_parts b;have q:=run_make (P:=P) w t T i (G N 0) W hi k N N n m oM oM (by rw[p];omega) oM;simp only[Int.toNat_natCast]at q;refine wpList_plain j fun K e=>?_;unfold Oper.wp;subst u s;simp[execOp,R,y,x,q,Result.andThen];refine e _ _ (h _ ?_ ((oa.refl w).alloc _) sM);refine⟨by simp,.inr ⟨w.heap.size,m,_,by simp,Nat.le_refl _,heap_alloc_new w _,by simp;omega,by unfold maxLen;omega,by rw[d];simp[madeCells],?_⟩⟩;rw[d,Fs];simp[Bc,List.take_replicate];omega
def sf(w:O)(p:U)(u:X):(w.setCell p u).heap.size=w.heap.size:=by simp[World.setCell]
def Ml{a b:X}(h:a=b):Ending.returned a = .returned b:=by rw[h]
def Lj{k:IntKind}{a b:Int}(h:a=b):Value.int k a=G k b:=by rw[h]
end
section
def vL{a b c:Rat}(h:a<=b)(k:b<c):a<c:=Rat.not_le.1 fun d=>Rat.not_le.2 k (Rat.le_trans d h)
def jv{a b c:Rat}(h:a<b)(k:b<=c):a<c:=Rat.not_le.1 fun d=>Rat.not_le.2 h (Rat.le_trans k d)
def gv{a b c:Rat}(h:a<b)(k:b<c):a<c:=jv h (Rat.le_of_lt k)
def Gp{a:Rat}:¬a<a:=fun h=>Rat.not_le.2 h Rat.le_refl
section
variable {α:Type} (l r:α->Int) (lo up:α->Int->Rat)
def Bq(i j:α):Prop:=max (l i) (l j)<min (r i) (r j)/\∀k:Int,max (l i) (l j)<=k->k<min (r i) (r j)->up j k<=lo i k
structure Aq (S:List α):Prop where
 fat:∀i∈S,∀k,l i<=k->k<r i->lo i k<up i k
 two:∀i∈S,∀j∈S,i≠j->max (l i) (l j)<min (r i) (r j)->Bq l r lo up i j\/Bq l r lo up j i
variable {l r lo up}
def Aq.key{S:List α}(h:Aq l r lo up S){a m b:α}(k:a∈S)(K:m∈S)(o:b∈S)(y:Bq l r lo up a m)(z:Bq l r lo up m b)(W:r m<=r a)(rb:r m<=r b):Bq l r lo up a b:=by
 obtain⟨P,u⟩:=y;obtain⟨R,x⟩:=z;have p:=u (r m-1) oM oM;have q:=x (r m-1) oM oM;have s:=h.fat m K (r m-1) oM oM;have j:=h.fat a k (r m-1) oM oM;have t:=h.fat b o (r m-1) oM oM;have d:up b (r m-1)<lo a (r m-1):=jv (vL q s) p;have i:a≠b:=by
  rintro rfl;exact Gp (gv d j)
 rcases h.two a k b o i oM with e|e
 ·exact e
 ·have:=e.2 (r m-1) oM oM;exact absurd (gv (jv (gv d j) this) t) Gp
def Aq.sub{S T:List α}(h:Aq l r lo up S)(b:∀x∈T,x∈S):Aq l r lo up T:=
 ⟨fun i hi=>h.fat i (b i hi),fun i hi j d=>h.two i (b i hi) j (b j d)⟩
def CA(r:α->Int):∀{S:List α},S≠[]->∃m∈S,∀x∈S,r m<=r x
 | [a],_=>⟨a,by simp,fun x d=>by rw[List.mem_singleton.1 d];exact Int.le_refl _⟩
 | a::b::t,_=>by
  obtain⟨m,j,e⟩:=CA r (S:=b::t) sM;by_cases i:r a<=r m
  ·refine⟨a,by simp,fun x d=>?_⟩;rcases List.mem_cons.1 d with rfl|d
   ·exact Int.le_refl _
   ·exact Int.le_trans i (e x d)
  ·refine⟨m,mC _ j,fun x d=>?_⟩;rcases List.mem_cons.1 d with rfl|d
   ·omega
   ·exact e x d
end
abbrev Pq:=Rat×Rat
def Ru{x y:Rat}(h:¬x*y<0)(j:x<0):y<=0:=by
 rcases(Rat.le_total:y<=0\/0<=y)with b|b
 ·exact b
 ·by_cases e:y=0
  ·rw[e];exact Rat.le_refl
  ·exfalso;have d:0<y:=by grind
   apply h;have i:0<(-x)*y:=Rat.mul_pos (by grind) d;grind
def iB{x y:Rat}(h:¬x*y<0)(b:y<0):x<=0:=Ru (by rw[Rat.mul_comm];exact h) b
section
variable (J:Pq->Pq->Rat) (f:Pq->Rat)
def Ua:List Pq->Rat
 | a::b::t=>J a b+Ua (b::t)
 | _=>0
variable {J f}
def Dd(J:Pq->Pq->Rat)(l:List Pq):Rat:=match l with | []=>0|a::t=>Ua J (a::t++[a])
end
end
section
open Go.RowKit
def Dr(w w':O):Prop:=w.drawn<=w'.drawn
def Dr.refl(w:O):Dr w w:=nE _
def Dr.trans{a b c:O}(h:Dr a b)(k:Dr b c):Dr a c:=nT h k
def Dr.alloc{a b:O}(h:Dr a b)(o:Obj):Dr a (b.alloc o):=h
def Dr.set{a b:O}(h:Dr a b)(p:U)(u:X):Dr a (b.setCell p u):=h
def Dr.drew{a b:O}(h:Dr a b):Dr a b.drew:=nT h (Nat.le_succ _)
def Dr.drewN{a b:O}(h:Dr a b)(n:Nat):Dr a (b.drewN n):=nT h (Nat.le_add_right _ _)
def Dr.row{a b:O}(h:Dr a b)(g:Nat)(cs:Array X):Dr a (b.setRow g cs):=h
class StD (c:O) (b:outParam O):Prop where
 up:∀a:O,Dr a b->Dr a c
instance gN (b:O) (o:Obj):StD (b.alloc o) b:=⟨fun _ h=>h.alloc o⟩
instance YM (b:O) (p:U) (u:X):StD (b.setCell p u) b:=⟨fun _ h=>h.set p u⟩
instance fN (b:O):StD b.drew b:=⟨fun _ h=>h.drew⟩
instance ZM (b:O) (n:Nat):StD (b.drewN n) b:=⟨fun _ h=>h.drewN n⟩
def dX{a b c:O}[s:StD c b](h:Dr a b):Dr a c:=s.up a h
def dT{a b c:O}(h:Dr a b)(k:Dr b c:=by with_reducible assumption):Dr a c:=h.trans k
def dA{w b:O}(h:Dr w b:=by with_reducible repeat(first|assumption|exact Dr.refl _|refine dX ?_|refine dT ?_)):Dr w b:=h
def BI{P:Program}{T t:TypeId}(R:TypeId){w:O}{base:Nat}{v:X}{xs:List Int}{y:Int}{ad:U}{v':X}{w':O}(k:(P.info? T).map (fun i=>(i.zero,i.size,i.bytes))=Y (Y (G N 0),1,8))(W:P.underlying t=Y (.slice T))(e:Kb T w base v xs)(s:w.cell? ad=Y (G N y))(ab:xs.length<=1000000000000)(q:(Builtin.append_ #[t,t] R #[v,Z (Y ad) 1 1]).run P w = .ok v' w'):Dr w w':=by
 obtain⟨i,hi,z,d,K⟩:=info_parts k;have b:∀(j:Nat) u,[(Value.int N y)][j]?=Y u->w.cell? (ad.add j)=Y u:=by
  intro j u p
  match j,p with
  | 0,p=>simp at p;subst p;simpa[Addr.add] using s
  | j+1,p=>simp at p
 rcases e.2 with ⟨rfl,h0⟩|⟨g,cap,cur,rfl,ac,hg,ag,ae,af,aa⟩
 ·have x:=run_append_nil (P:=P) w t R T i (G N 0) W hi z ad 1 1 [G N y] (by simp[d]) b oM oM (by rw[K];omega);rw[x]at q;cases q;exact(Dr.refl w).drew.alloc _
 ·by_cases o:xs.length+1<=cap
  ·have x:=run_append_room (P:=P) w t R T i W hi g xs.length cap cur hg ad 1 1 [G N y] (by simp[d]) b (by simp[Value.oneCell']) o (by rw[d];simp;omega);rw[x]at q;cases q;exact(Dr.refl w).row _ _
  ·have m:∀j u,(Bc N xs)[j]?=Y u->w.cell? ((⟨g,0,M⟩:U).add j)=Y u:=World.ownsRow.cells (g:=g) e rfl;have x:=run_append_grow (P:=P) w t R T i (G N 0) W hi z ⟨g,0,M⟩ xs.length cap (Bc N xs) (by simp[d]) m ad 1 1 [G N y] (by simp[d]) b oM oM (growslice_fits oM (by rw[K];omega));rw[x]at q;cases q;exact(Dr.refl w).drew.alloc _
def Am{P:Program}{T t:TypeId}{w:O}{base:Nat}{v:X}{xs:List Int}{y:Int}{ops:Array Oper}{rest:List Oper}{o:Oper}{a:Act}{Q:Exit->Act->O->Prop}(d:(P.info? T).map (fun i=>(i.zero,i.size,i.bytes))=Y (Y (G N 0),1,8))(ht:P.underlying t=Y (.slice T))(W:o.guard=M)(s x:Operand)(ho:o.op = .call { callee:=.builtin .append,args:=#[s,x],argTypes:=#[t,t] })(hs:a.eval s=v)(b:Kb T w base v xs)
  (hx:a.eval x=Z (Y ⟨w.heap.size,0,M⟩) 1 1)(p:xs.length<=1000000000000)(j:base<=w.heap.size)
  (h:∀v' w',Kb T w' base v' (xs++[y])->Below base w w'->Vc T w w'->Dr w w'->wpList P ops Q rest (a.put o.dst v') w'):wpList P ops Q (o::rest) a (w.alloc (H #[G N y] T)):=by
 have q:∃v' w',(Builtin.append_ #[t,t] o.type #[v,Z (Y ⟨w.heap.size,0,M⟩) 1 1]).run P (w.alloc (H #[G N y] T)) = .ok v' w'/\Kb T w' base v' (xs++[y])/\Below base w w'/\Vc T w w':=by
  obtain⟨i,hi,ac,ad,ae⟩:=info_parts d;obtain⟨v',w',z,R,u,-⟩:=run_append_own (P:=P) (w.alloc (H #[G N y] T)) base t o.type T i (G N 0) 1 8 ht hi ac ad ae rfl dM v xs.length (Bc N xs) (World.ownsRow.alloc b _) ⟨w.heap.size,0,M⟩ 1 1 [G N y] rfl (cell_one_new _ _ _) (by simp[Value.oneCell']) (by unfold maxLen;omega) oM (by simp;omega);refine⟨v',w',z,?_,?_,?_⟩
  ·unfold Kb;rw[<-Yo,Ly,lA];exact R
  ·have hb:Below base w (w.alloc (H #[G N y] T)):=(Below.refl _ _).alloc j _;exact hb.grown u (by simp;omega) (fun k m=>(World.ownsRow.lt b k m).1)
  ·intro k ob m ab;have aa:=jc m;rw[u.block k (by simp;omega) ?_,Below.heap_alloc _ _ _ aa]
   ·exact m
   ·intro e;rcases b.2 with ⟨z,_⟩|⟨g,cap,cur,hv,_,hh,_⟩
    ·rw[z]at e;cases e
    ·rw[hv]at e;cases e;rw[hh]at m;cases m;exact ab _ _ rfl
 obtain⟨v',w',hr,R,u,h4⟩:=q;have hd:Dr (w.alloc (H #[G N y] T)) w':=BI (base:=base) o.type d ht (b.alloc _) (cell_of_one (aN w _)) p hr;refine wpList_plain W fun K hK=>?_;unfold Oper.wp;simp[execOp,ho,resolve,invoke,builtin,hs,hx,hr,Result.andThen];exact hK _ _ (h v' w' R u h4 hd)
def mn{P:Program}{T t:TypeId}{w:O}{n:Nat}{ops:Array Oper}{rest:List Oper}{o:Oper}{a:Act}{Q:Exit->Act->O->Prop}(b:(P.info? T).map (fun i=>(i.zero,i.size,i.bytes))=Y (Y (G N 0),1,8))(s:P.underlying t=Y (.slice T))(e:o.guard=M)(l c:Operand)(q:o.op = .makeSlice t l c)(L:Int)(m:a.eval l=G N L)(k:a.eval c=G N L)(j:L=(n:Int))(p:n<=1000000000000)(h:∀w',Kb T w' w.heap.size (Z (Y ⟨w.heap.size,0,M⟩) n n) (List.replicate n 0)->oa w w'->w.heap.size<w'.heap.size->Dr w w'->wpList P ops Q rest (a.put o.dst (Z (Y ⟨w.heap.size,0,M⟩) n n)) w'):wpList P ops Q (o::rest) a w:=
 zL b s e l c q L m k j p fun u d=>h _ d ((eR w).alloc _) sM (Dr.alloc (Dr.refl w) _)
def Qp{P:Program}{T t:TypeId}{w:O}{base g n cap:Nat}{os xs:List Int}{sl:X}{ops:Array Oper}{rest:List Oper}{o:Oper}{a:Act}{Q:Exit->Act->O->Prop}(p:(P.info? T).map (fun i=>(i.zero,i.size,i.bytes))=Y (Y (G N 0),1,8))(ht:P.underlying t=Y (.slice T))(u:o.guard=M)(d s:Operand)(ho:o.op = .call { callee:=.builtin .copy,args:=#[d,s],argTypes:=#[t,t] })(hd:a.eval d=Z (Y ⟨g,0,M⟩) n cap)(hs:a.eval s=sl)
  (e:Kb T w base (Z (Y ⟨g,0,M⟩) n cap) os)(m:Uc T w sl xs)(ab:xs.length<=n)
  (h:∀w',Kb T w' base (Z (Y ⟨g,0,M⟩) n cap) (xs++os.drop xs.length)->Below base w w'->Vc T w w'->Dr w w'->wpList P ops Q rest (a.put o.dst (goInt xs.length)) w'):wpList P ops Q (o::rest) a w:=by
 obtain⟨i,hi,ai,z,aj⟩:=info_parts p;obtain⟨b,c,rfl⟩:=m.form;have hn:=e.len;rcases e.2 with ⟨h1,_⟩|⟨g',af,cur,hv,hg,W,ah,R,ag,ad⟩
 ·cases h1
 ·cases hv;have h2:os.length<=cur.size:=oM;by_cases h0:xs=[]
  ·subst h0;refine wpList_copy_nothing u d s t t ho T ht (by rw[hi];simp[z]) _ b os.length cap 0 c hd hs sM ?_;exact h w (by simpa using e) (Below.refl _ _) (fun _ _ y _=>y) (Dr.refl w)
  ·have hp:0<xs.length:=List.length_pos_iff.2 h0;obtain⟨b',o',rfl,hb,hx⟩:=m.open hp;have q:∀(j:Nat) v,(Bc N xs)[j]?=Y v->w.cell? ((⟨b',o',M⟩:U).add j)=Y v:=by
    intro j v hj;simp only[Bc,lP,Option.map_eq_some_iff]at hj;obtain⟨x,ae,rfl⟩:=hj;have:=hx j x ae;unfold Addr.add;split
    ·subst j;simpa using this
    ·exact this
   refine wpList_copy_own u d s t t ho T ht (by rw[hi];simp[z]) g 0 os.length cap ⟨b',o',M⟩ xs.length c hd hs cur T W (Bc N xs) (by rw[Ur];exact(Nat.min_eq_left ab).symm) q (by simp;omega) (ints_oneCell N xs) ?_;rw[Ur];refine h _ ⟨by simp,.inr ⟨g,cap,_,?_,hg,setRow_heap w g cur _ T _ W,?_,R,?_,?_⟩⟩ (below_setRow (Below.refl _ _) hg _) ?_ (Dr.row (Dr.refl w) _ _)
   ·(have K:(xs++os.drop xs.length).length=os.length:=by simp;omega);rw[K]
   ·simp;omega
   ·simp;omega
   ·have e1:cur.toList.take (os.length*1)=Bc N os:=ad;(have K:(xs++os.drop xs.length).length*1=os.length:=by simp;omega);rw[K,<-Yo,show Bc N (os.drop xs.length)=(Bc N os).drop xs.length by simp[Bc,List.map_drop],<-e1,Nat.mul_one,List.drop_take];simp only[List.take_zero,List.nil_append,Nat.zero_add,Ur];rw[List.take_append,lT (by simp;omega),Ur]
   ·intro k ob y ac;(have aa:k≠g:=by rintro rfl;rw[W]at y;cases y;exact ac _ _ rfl);rw[setRow_other w g k _ aa];exact y
end
section
section
variable (lo hi px qx:Rat)
def Zd(z:Rat):Rat:=if z<=lo then 0 else if z<=hi then z-lo else hi-lo
def ig(z:Rat):Rat:=if z<=lo then 0 else if z<=hi then (z-lo)*(z-lo)/2 else (hi-lo)*(hi-lo)/2+(hi-lo)*(z-hi)
def Gg(x:Rat):Rat:=if x<=px then px else if x<=qx then x else qx
def Re(a b:Pq):Rat:=(b.2-a.2)/(b.1-a.1)
def Mb(a b:Pq)(x:Rat):Rat:=a.2+Re a b*(x-a.1)
def Eb(a b:Pq):Rat:=
 if a.1=b.1 then 0 else if Re a b=0 then Zd lo hi a.2*(Gg px qx b.1-Gg px qx a.1)
 else (ig lo hi (Mb a b (Gg px qx b.1))-ig lo hi (Mb a b (Gg px qx a.1)))/Re a b
variable {lo hi px qx}
def Uy(a b:Pq):Re b a=Re a b:=by
 unfold Re;by_cases h:b.1-a.1=0
 ·have:a.1-b.1=0:=by grind
  rw[h,this];grind
 ·have:a.1-b.1≠0:=by grind
  grind
def Iy{a b:Pq}(h:a.1≠b.1)(x:Rat):Mb b a x=Mb a b x:=by
 unfold Mb;rw[Uy];have:b.1-a.1≠0:=by grind
 unfold Re;grind
def FH(a b:Pq):Eb lo hi px qx b a = -Eb lo hi px qx a b:=by
 unfold Eb;by_cases h:a.1=b.1
 ·rw[if_pos h,if_pos h.symm];grind
 ·rw[if_neg h,if_neg (fun e=>h e.symm),Uy,Iy h,Iy h];by_cases d:Re a b=0
  ·rw[if_pos d,if_pos d];have e:b.2=a.2:=by
    (have:b.1-a.1≠0:=by grind);unfold Re at d;grind
   rw[e];grind
  ·rw[if_neg d,if_neg d];grind
def ms{a b:Pq}(h:Gg px qx a.1=Gg px qx b.1):Eb lo hi px qx a b=0:=by unfold Eb;rw[h];grind
def GH{a b:Pq}(d:a.1<=px)(e:b.1<=px):Eb lo hi px qx a b=0:=ms (by unfold Gg;rw[if_pos d,if_pos e])
def SA{a b:Pq}(i:px<qx)(d:qx<=a.1)(e:qx<=b.1):Eb lo hi px qx a b=0:=ms (by unfold Gg;grind)
def mE{a b:Pq}(t:px<=a.1)(u:a.1<=qx)(x:px<=b.1)(y:b.1<=qx)(a3:lo<=a.2)(a4:a.2<=hi)(j:lo<=b.2)(k:b.2<=hi):Eb lo hi px qx a b=(b.1-a.1)*((a.2+b.2)/2-lo):=by
 have m:Gg px qx a.1=a.1:=by unfold Gg;grind
 have o:Gg px qx b.1=b.1:=by unfold Gg;grind
 have P:∀z,lo<=z->z<=hi->ig lo hi z=(z-lo)*(z-lo)/2:=fun z K R=>by
  unfold ig;by_cases e:z=lo
  ·subst e;grind
  ·grind
 have Q:Zd lo hi a.2=a.2-lo:=by unfold Zd;grind
 unfold Eb;rw[m,o];by_cases h:a.1=b.1
 ·rw[if_pos h,h];grind
 ·have d:b.1-a.1≠0:=by grind
  have q:Mb a b a.1=a.2:=by unfold Mb;grind
  have s:Mb a b b.1=b.2:=by unfold Mb Re;grind
  rw[if_neg h,q,s,P _ a3 a4,P _ j k,Q];by_cases i:Re a b=0
  ·rw[if_pos i];have e:b.2=a.2:=by unfold Re at i;grind
   rw[e];grind
  ·rw[if_neg i];have e:Re a b*(b.1-a.1)=b.2-a.2:=by unfold Re;grind
   have p:((b.2-lo)*(b.2-lo)/2-(a.2-lo)*(a.2-lo)/2)=Re a b*((b.1-a.1)*((a.2+b.2)/2-lo)):=by
    rw[<-Rat.mul_assoc,e];grind
   rw[p];grind
end
end
section
open Go.RowKit
def B:Int:=16777216
def Yh:(0:Int)<B:=dM
def Ok(y:Int):bits BinOp.and IntKind.i64 y 16777215=y%16777216:=by
 show IntKind.i64.wrap (((BitVec.ofInt 64 y &&& BitVec.ofInt 64 16777215).toNat:Nat):Int)=_;have b:(BitVec.ofInt 64 y &&& BitVec.ofInt 64 16777215).toNat=(y%18446744073709551616).toNat%16777216:=by
  rw[BitVec.toNat_and,BitVec.toNat_ofInt];have:(BitVec.ofInt 64 16777215).toNat=2 ^ 24-1:=dM;rw[this,Nat.and_two_pow_sub_one_eq_mod];rfl
 rw[b];simp[IntKind.wrap,IntKind.signed,IntKind.bits];omega
def nk:(Tryz.prog.info? 2).map (fun i=>(i.zero,i.size,i.bytes))=Y (Y (G N 0),1,8):=kM
def uK(d xs:List Int)(i:Nat)(x b:Int)(j:d.length=i)(k:xs[i]?=Y x)(h:dv B (xs.take i)=dv B d+B ^ i*b):dv B (xs.take (i+1))=dv B (d++[(x+b)%16777216])+B ^ (i+1)*((x+b)/16777216):=by
 rw[yp B xs i x k,Un,h,j,Int.pow_succ];have e:x+b=(x+b)%16777216+B*((x+b)/16777216):=by unfold B;omega
 generalize (x+b)%16777216=r at *
 generalize (x+b)/16777216=q at *
 have:B ^ i*(x+b)=B ^ i*(r+B*q):=by rw[e]
 grind
def vK(xs d:List Int)(b:Int)(h:dv B xs=dv B d+B ^ d.length*b):dv B xs=dv B (d++[b%16777216])+B ^ (d++[b%16777216]).length*(b/16777216):=by
 rw[Un,h,lA,List.length_singleton,Int.pow_succ];have e:b=b%16777216+B*(b/16777216):=by unfold B;omega
 generalize b%16777216=r at *
 generalize b/16777216=q at *
 subst e;grind
def yn{x b:Int}(h:0<=x/\x<B)(d:b=0):(x+b)/16777216=0:=by unfold B at h;omega
def og(v:X)(w w':O):Prop:=∀(k:Nat)(o:Obj),w.heap[k]?=Y o->v.ownBlock≠Y k->w'.heap[k]?=Y o
def og.alloc{v:X}{a b:O}(h:og v a b)(o:Obj):og v a (b.alloc o):=fun x j i d=>by
 have e:=h x j i d;rw[Below.heap_alloc _ _ _ (jc e)];exact e
def og.setNew{v:X}{a b:O}(h:og v a b){p:U}(j:a.heap.size<=p.block)(u:X):og v a (b.setCell p u):=fun x i e d=>by
 have:=jc e;rw[bS _ _ _ _ oM];exact h x i e d
def og.setOwn{v:X}{a b:O}(h:og v a b){p:U}(e:v.ownBlock=Y p.block)(u:X):og v a (b.setCell p u):=fun x j i d=>by
 rw[bS _ _ _ _ (by rintro rfl;exact d e)];exact h x j i d
def xv(base:Nat)(xs:List Int)(n:Nat)(a:Option U)(c:Nat)(w:O)(t3 e:X)(wr:O):Prop:=
 ∃(i:Nat)(d:List Int)(b:Int),i<=n/\e=G N i/\t3=G N b/\d.length=i/\ke B d/\dv B (xs.take i)=dv B d+B ^ i*b/\ -1099511627776<=b/\b<=1099511627776/\Kb 2 wr base (Z a n c) (d++xs.drop i)/\(Below base w wr/\Vc 2 w wr/\og (Z a n c) w wr/\(ke B xs->b=0)/\Dr w wr)/\w.heap.size<wr.heap.size/\wr.heap[w.heap.size]?=Y (H #[Z M 0 0] 39 (0,0))
def uv(v:X)(base:Nat)(xs:List Int)(n:Nat)(w:O)(t0 t3:X)(wr:O):Prop:=
 ∃(d:List Int)(b:Int),t3=G N b/\dv B xs=dv B d+B ^ d.length*b/\ke B d/\0<=b/\b<=1099511627776/\d.length<=n+2/\(0<b->d.length<=n+1)/\(65536<b->d.length<=n)/\Kb 2 wr base t0 d/\(Below base w wr/\Vc 2 w wr/\(ke B xs->b=0/\og v w wr)/\Dr w wr)/\w.heap.size<wr.heap.size/\wr.heap[w.heap.size]?=Y (H #[Z M 0 0] 39 (0,0))
def tv(v:X)(base:Nat)(xs:List Int)(w:O)(t0:X)(wr:O):Prop:=
 ∃(b:List Int),dv B b=dv B xs/\ke B b/\b.length<=1000000002/\Kb 2 wr base t0 b/\(Below base w wr/\Vc 2 w wr/\(ke B xs->og v w wr)/\Dr w wr)/\w.heap.size<wr.heap.size/\wr.heap[w.heap.size]?=Y (H #[Z M 0 0] 39 (0,0))
def Xu(base:Nat)(v:X)(xs:List Int)(w:O)(ad:Kb 2 w base v xs)(R:base<=w.heap.size)(aG:xs.length<=1000000000)(hx:∀x∈xs,-4611686018427387904<=x/\x<=4611686018427387904)(a0:0<=dv B xs):Calls Tryz.prog 190 #[v] w fun e w'=>∃v' ys,e=.returned (Oa #[v'])/\Wg B ys/\dv B ys=dv B xs/\Kb 2 w' base v' ys/\Below base w w'/\Vc 2 w w'/\(ke B xs->og v w w')/\Dr w w':=by
 obtain⟨a,c,rfl⟩:=ad.form;obtain⟨n,hn⟩:=gX xs.length;rw[hn]at ad aG ⊢;have Hn:=ia hn;have ay:base<=w.heap.size:=R;clear hn;go_in;go_wp2;go_loopw [3,7] (xv base xs n a c w) (fun _ t7 _=>n-(intOf t7).toNat)
 case atStart=>exact⟨0,[],0,by omega,rfl,rfl,rfl,ke.nil _,by simp,by omega,by omega,ad.alloc _,⟨(Below.refl _ _).alloc R _,(Vc.refl _ _).alloc _,og.alloc (fun _ _ h _=>h) _,fun _=>rfl,dA⟩,by simp,aN w _⟩
 case round =>
  obtain⟨i,ys,cy,hi,rfl,rfl,aO,ah,hv,aR,az,d,⟨W,al,aC,aA,aS⟩,aw,an⟩:=hrel;have j:=ia aO;have Hv:=ia hv;have y:=ia an;clear aO hv an;by_cases aH:i<n
  ·obtain⟨g,rfl,hg,aT⟩:=d.blk (by simp[Hn.o,j.o];omega);obtain⟨x,ag⟩:∃x,xs[i]?=Y x:=⟨xs[i]'(by rw[Hn.o];exact aH),by simp[Hn.o,aH]⟩;have a7:=hx x (lM ag);have av:wr.cell? ⟨g,i,M⟩=Y (G N x):=d.cell (by have:=sL ys xs x (by rw[j.o];exact ag);rwa [j.o]at this);have a4:wr.frozen? ⟨g,i,M⟩=false:=d.frozen i;have ar:=ia ag;clear ag;go_wp2;go_roundw
   case rel =>
    have aB:g≠w.heap.size:=by
     rintro rfl;rcases d.2 with ⟨z,_⟩|⟨g',aX,cur,z,_,hh,_⟩
     ·cases z
     ·cases z;rw[y.o]at hh;cases hh
    refine⟨i+1,ys++[(x+cy)%16777216],_,by omega,by go_num,rfl,by simp[j.o],ah.snoc oM (by unfold B;omega),uK ys xs i x cy j.o ar.o Hv.o,by omega,by omega,?_,?_,?_,?_⟩
    ·rw[Ok];have z:=(d.stored i (x+cy)).stored i ((x+cy)%16777216);rw[List.set_set]at z;have h2:=oL ys xs x ((x+cy)%16777216) (by rw[j.o];exact ar.o);rw[j.o]at h2;rw[<-h2];exact z
    ·exact⟨(W.setCell hg _).setCell hg _,(al.setRow d _).setRow (d.stored i _) _,og.setOwn (p:=⟨g,i,M⟩) (og.setOwn (p:=⟨g,i,M⟩) aC rfl _) rfl _,fun P=>yn (P x (lM ar.o)) (aA P),dA⟩
    ·simp only[sf];exact aw
    ·rw[bS _ _ _ _ (by intro e;exact aB e.symm),bS _ _ _ _ (by intro e;exact aB e.symm)];exact y.o
   case measure=>simp[intOf];omega
  ·obtain rfl:i=n:=oM;have aj:0<=cy:=by
    have z:=Hv.o;rw[lT (by rw[Hn.o];omega)]at z;have h2:=(ik Yh ah).2;rw[j.o]at h2;have h3:=tj Yh i;by_cases h4:0<=cy
    ·exact h4
    ·have:B ^ i*cy<=B ^ i*(-1):=Int.mul_le_mul_of_nonneg_left oM oM;omega
   go_wp2;go_loopw [0,3] (uv (Z a i c) base xs i w) (fun _ t3 _=>(intOf t3).toNat)
   case atStart =>
    refine⟨ys,cy,rfl,?_,ah,aj,az,by rw[j.o];omega,by rw[j.o];omega,by rw[j.o];omega,?_,⟨W,al,fun P=>⟨aA P,aC⟩,aS⟩,aw,y.o⟩
    ·have z:=Hv.o;rw[lT (by rw[Hn.o];omega)]at z;rw[j.o];exact z
    ·have z:=d;rw[List.drop_of_length_le (by rw[Hn.o];omega),List.append_nil]at z;exact z
   case round =>
    obtain⟨zs,cz,rfl,aL,ax,a8,a9,aU,aD,aE,m,⟨t,ab,am,ak⟩,ao,ae⟩:=hrel;have q:=ia ae;have ap:=ia aL;obtain⟨a2,c2,rfl⟩:=m.form;clear ae aL Hv y d W aw j aj aR az ah;by_cases au:cz=0
    ·subst au;go_wp2;go_loopw [0] (tv (Z a i c) base xs w) (fun t0 _=>match t0 with | Z _ n _=>n|_=>0)
     case atStart=>exact⟨zs,by have:=ap.o;rw[this];simp,ax,by omega,m,⟨t,ab,fun P=>(am P).2,ak⟩,ao,q.o⟩
     case round =>
      clear m t ao q ap ax aU aD aE;obtain⟨us,aM,aK,aV,b,⟨k,u,ac,aa⟩,aJ,o⟩:=hrel;obtain⟨a3,c3,rfl⟩:=b.form;have aI:=cell_of_one o;have a5:=free_of_one o;have s:=ia o;have aq:=ia aM;clear o aM;rcases GJ us with rfl|⟨ai,x,rfl⟩
      ·have P:decide ((0:Int)<(([]:List Int).length:Int))=false:=sM;go_wp2;refine bR (v:=Oa #[Z a3 0 c3]) (by simp[results,Tryz.results190,go_sem,aI]) rfl ⟨_,[],rfl,Wg.nil _,aq.o,?_,?_⟩
       ·exact b.setOther (p:=⟨w.heap.size,0,M⟩) (b.ne_block s.o dM) _
       ·exact⟨k.setCell (p:=⟨w.heap.size,0,M⟩) ay _,u.setNew dO _,fun P=>(ac P).setNew dO _,dA⟩
      ·obtain⟨g,rfl,hg,aT⟩:=b.blk sM;have av:wr.cell? ⟨g,ai.length,M⟩=Y (G N x):=b.cell sM;have aF:=b.ints.le;simp only[lA,List.length_singleton]at b aF aV ⊢;unfold maxLen at aF;by_cases af:x=0
       ·subst af;go_wp2;go_roundw
        case rel =>
         refine⟨ai,?_,(ke.of_append aK).1,by omega,b.pop,⟨k,u,ac,aa⟩,aJ,s.o⟩;have:=aq.o;rw[Un]at this;omega
        case measure=>simp
       ·(have a6:(x==0)=false:=by simpa using af);have aP:=ia af;clear af;go_wp2;refine bR (v:=Oa #[Z (Y ⟨g,0,M⟩) (ai.length+1) c3]) (by simp[results,Tryz.results190,go_sem,aI]) rfl ⟨_,ai++[x],rfl,⟨aK,by simpa using aP.o⟩,aq.o,?_,?_⟩
        ·exact b.setOther (p:=⟨w.heap.size,0,M⟩) (b.ne_block s.o dM) _
        ·exact⟨k.setCell (p:=⟨w.heap.size,0,M⟩) ay _,u.setNew dO _,fun P=>(ac P).setNew dO _,dA⟩
    ·(have aY:(cz != 0)=true:=by simpa using au);have aW:0<cz:=oM;have aZ:=aD aW;clear au;go_wp2_with(at_builtin;refine Am nk Tryz.underlying37 rfl _ _ rfl rfl m rfl oM oM ?_;intro v' w1 b k K aa);rw[Ok]at b;go_roundw
     case rel =>
      have a1:cz/16777216<=65536:=oM;have aQ:0<cz/16777216->zs.length<=i:=fun h=>aE oM;refine⟨zs++[cz%16777216],_,rfl,vK xs zs cz ap.o,ax.snoc oM (by unfold B;omega),by omega,by omega,by simp;omega,fun h=>by have:=aQ h;simp;omega,fun h=>by omega,b,⟨t.trans k,ab.trans K,fun P=>absurd (am P).1 oM,ak.trans aa⟩,?_,?_⟩
      ·have:=k.size;omega
      ·exact K.get q.o dM
     case measure=>simp[intOf];omega
def fu(base:Nat)(v:X)(xs:List Int)(w:O)(i:Kb 2 w base v xs)(b:base<=w.heap.size)(d:xs.length<=1000000000)(u:∀x∈xs,-4611686018427387904<=x/\x<=4611686018427387904)(j:0<=dv B xs):Calls Tryz.prog 190 #[v] w fun e k=>∃v' ys,e=.returned (Oa #[v'])/\Wg B ys/\dv B ys=dv B xs/\Kb 2 k base v' ys/\Below base w k/\Vc 2 w k/\Dr w k:=by refine(Xu base v xs w i b d u j).mono ?_;rintro e k ⟨v',ys,m,o,p,q,s,h6,_,t⟩;exact⟨v',ys,m,o,p,q,s,h6,t⟩
def Ju(base:Nat)(v:X)(xs:List Int)(w:O)(i:Kb 2 w base v xs)(b:base<=w.heap.size)(d:xs.length<=1000000000)(t:∀x∈xs,-4611686018427387904<=x/\x<=4611686018427387904)(j:0<=dv B xs):Calls Tryz.prog 190 #[v] w fun e k=>∃v' ys,e=.returned (Oa #[v'])/\Wg B ys/\dv B ys=dv B xs/\Kb 2 k base v' ys/\Below base w k/\Vc 2 w k:=by refine(Xu base v xs w i b d t j).mono ?_;rintro e k ⟨v',ys,m,o,p,q,s,h6,_,_⟩;exact⟨v',ys,m,o,p,q,s,h6⟩
end
section
section
def JC(f:Pq->Rat):Prop:=∃u v k:Rat,∀p,f p=u*p.1+v*p.2+k
variable {f g:Pq->Rat}
def JC.at(d:JC g){a b:Pq}{t:Rat}(c:Pq)(e:c.1=a.1+(b.1-a.1)*t)(i:c.2=a.2+(b.2-a.2)*t):g c=g a+(g b-g a)*t:=by obtain⟨u,v,k,d⟩:=d;rw[d,d,d,e,i];grind
def Dy(J J':Pq->Pq->Rat):∀l,Ua (fun a b=>J a b+J' a b) l=Ua J l+Ua J' l
 | []=>by show (0:Rat)=0+0;grind
 | [a]=>by show (0:Rat)=0+0;grind
 | a::b::t=>by
  show J a b+J' a b+Ua _ (b::t)=J a b+Ua J (b::t)+(J' a b+Ua J' (b::t));rw[Dy J J' (b::t)];grind
def ZA(E:Pq->Rat):∀(a z:Pq)(l:List Pq),Ua (fun a b=>E b-E a) (a::l++[z])=E z-E a
 | a,z,[]=>by show E z-E a+0=_;grind
 | a,z,b::l=>by
  show E b-E a+Ua _ (b::l++[z])=_;rw[ZA E b z l];grind
def To(J J':Pq->Pq->Rat)(l:List Pq):Dd (fun a b=>J a b+J' a b) l=Dd J l+Dd J' l:=by
 cases l with
 | nil=>show (0:Rat)=0+0;grind
 | cons a t=>exact Dy J J' _
def ns(E:Pq->Rat)(l:List Pq):Dd (fun a b=>E b-E a) l=0:=by
 cases l with
 | nil=>rfl
 | cons a t =>
  show Ua _ (a::t++[a])=0;rw[ZA];grind
def fB{J J':Pq->Pq->Rat}{S:Pq->Prop}(h:∀a b,S a->S b->J a b=J' a b):∀l,(∀p∈l,S p)->Ua J l=Ua J' l
 | [],_=>rfl
 | [a],_=>rfl
 | a::b::t,hs=>by
  show J a b+Ua J (b::t)=J' a b+Ua J' (b::t);rw[h a b (hs a (by simp)) (hs b (by simp)),fB h (b::t) (fun p d=>hs p (mC _ d))]
def Xo{J J':Pq->Pq->Rat}{S:Pq->Prop}(h:∀a b,S a->S b->J a b=J' a b){l:List Pq}(e:∀p∈l,S p):Dd J l=Dd J' l:=by
 cases l with
 | nil=>rfl
 | cons a t =>
  refine fB h _ (fun p d=>?_);rcases List.mem_append.1 d with d|d
  ·exact e p d
  ·rw[List.mem_singleton.1 d];exact e a sM
variable {lo hi px qx:Rat}
def Pa(a b:Pq):Rat:=a.1*b.2-a.2*b.1
end
end
section
open Go.RowKit
def Tc(w:O)(v:X)(n:Int):Prop:=∃sl ds,v=Oa #[sl]/\Uc 2 w sl ds/\Wg B ds/\dv B ds=n
def jg(w:O)(base:Nat)(v:X)(n:Int):Prop:=∃sl ds,v=Oa #[sl]/\Kb 2 w base sl ds/\Wg B ds/\dv B ds=n
def jg.z{w:O}{base:Nat}{v:X}{n:Int}(h:jg w base v n):Tc w v n:=by obtain⟨sl,b,d,e,i,j⟩:=h;exact⟨sl,b,d,e.ints,i,j⟩
def Mj{w:O}{base b':Nat}{v:X}{xs:List Int}(b:b'<=base)(h:Kb 2 w base v xs):Kb 2 w b' v xs:=h.mono b
def Tc.ext{w w':O}{v:X}{n:Int}(h:Tc w v n)(k:oa w w'):Tc w' v n:=by obtain⟨sl,b,d,e,i,j⟩:=h;exact⟨sl,b,d,e.ext k,i,j⟩
def Tc.keep{w w':O}{v:X}{n:Int}(h:Tc w v n)(k:Fa 2 w w'):Tc w' v n:=by obtain⟨sl,b,d,e,i,j⟩:=h;exact⟨sl,b,d,e.keep k,i,j⟩
def Tc.nonneg{w:O}{v:X}{n:Int}(h:Tc w v n):0<=n:=by obtain⟨sl,e,i,j,b,d⟩:=h;rw[<-d];exact(ik Yh b.1).1
def Tc.form{w:O}{v:X}{n:Int}(h:Tc w v n):∃a m c,v=Oa #[Z a m c]:=by obtain⟨sl,d,rfl,b,e,i⟩:=h;obtain⟨a,c,rfl⟩:=b.form;exact⟨_,_,_,rfl⟩
def Tc.open{w:O}{a:Option U}{m c:Nat}{n:Int}(h:Tc w (Oa #[Z a m c]) n):∃ds,ds.length=m/\Uc 2 w (Z a m c) ds/\Wg B ds/\dv B ds=n:=by obtain⟨sl,ds,d,b,e,i⟩:=h;cases d;exact⟨ds,b.len.symm,b,e,i⟩
def Lm(k:Nat)(n:Int):Prop:=-(B ^ k)<n/\n<B ^ k
def Lm.mono{j k:Nat}{n:Int}(h:Lm j n)(d:j<=k):Lm k n:=by have:=qo (b:=B) dM d;unfold Lm at *;omega
def Lm.len{k:Nat}{n:Int}{ds:List Int}(h:Lm k n)(i:Wg B ds)(hv:dv B ds=n):ds.length<=k:=by
 by_cases d:ds=[]
 ·subst d;simp
 ·have j:=Ct Yh i d;by_cases e:ds.length<=k
  ·exact e
  ·have:=qo (b:=B) dM (show k<=ds.length-1 by omega);unfold Lm at h;omega
abbrev Cc:Nat:=100000000
def nc(a b:Int):Int:=if a<b then -1 else if b<a then 1 else 0
def Fo(w:O)(v:X)(n:Int)(h:Tc w v n):Calls Tryz.prog 97 #[v] w fun e i=>e=.returned (.bool (n==0))/\oa w i/\Dr w i:=by
 obtain⟨a,m,c,rfl⟩:=h.form;obtain⟨k,j,hi,d,hv⟩:=h.open;have b:(n==0)=((m:Int)==0):=by
  rw[Bool.eq_iff_iff,beq_iff_eq,beq_iff_eq,<-hv,XG Yh d,<-List.length_eq_zero_iff];omega
 rw[b];clear b hv d hi j h;go_in;go_wp2;go_ret;exact⟨rfl,(eR w).alloc _,dA⟩
def Do{P:Program}{f:FuncId}{args:Array X}{w:O}{p:Ending->Prop}(h:Calls P f args w fun e b=>p e/\oa w b/\Dr w b):Calls P f args w fun e b=>p e/\oa w b:=h.mono fun _ _ h=>⟨h.1,h.2.1⟩
def Ti(w:O)(v:X)(n:Int)(h:Tc w v n):Calls Tryz.prog 97 #[v] w fun e b=>e=.returned (.bool (n==0))/\oa w b:=Do (Fo w v n h)
def Um{α:Type}{xs:List α}{j:Nat}{x:α}(h:xs[j]?=Y x):xs.drop j=x::xs.drop (j+1):=by obtain⟨b,rfl⟩:=lS.1 h;exact List.drop_eq_getElem_cons b
def Zx{xs e:List Int}(u:ke B xs)(z:ke B e)(t:xs.length=e.length)(j:Nat){x y:Int}(p:xs[j]?=Y x)(q:e[j]?=Y y)(s:xs.drop (j+1)=e.drop (j+1))(k:x<y):dv B xs<dv B e:=by
 have m:xs=xs.take j++x::e.drop (j+1):=by rw[<-s,<-Um p,List.take_append_drop]
 have o:e=e.take j++y::e.drop (j+1):=by rw[<-Um q,List.take_append_drop]
 have:=pL (b:=B) (zs:=e.drop (j+1)) dM (fun d i=>u d (List.mem_of_mem_take i)) (show (xs.take j).length=(e.take j).length by rw[List.length_take,List.length_take,t]) (fun d i=>z d (List.mem_of_mem_take i)) k
 rwa [<-m,<-o]at this
def jq(w:O)(a b:X)(n:Nat)(xs d:List Int)(t5:X)(wr:O):Prop:=
 ∃i:Nat,i<=n/\t5=G N ((i:Int)-1)/\xs.drop i=d.drop i/\(oa w wr/\Dr w wr)/\wr.cell? ⟨w.heap.size,0,M⟩=Y a/\wr.cell? ⟨w.heap.size+1,0,M⟩=Y b
def xo(w:O)(va vb:X)(t nb:Int)(ha:Tc w va t)(hb:Tc w vb nb):Calls Tryz.prog 153 #[va,vb] w fun e w'=>e=.returned (G N (nc t nb))/\oa w w'/\Dr w w':=by
 obtain⟨a,m,c,rfl⟩:=ha.form;obtain⟨a',m',c',rfl⟩:=hb.form;obtain⟨xs,hl,hi,hc,hv⟩:=ha.open;obtain⟨ys,q,s,k,p⟩:=hb.open;have hm:=hi.le;have ad:=s.le;rw[hl]at hm;rw[q]at ad;unfold maxLen at hm ad;rcases Nat.lt_trichotomy m m' with ac|rfl|ab
 ·have e1:t<nb:=by rw[<-hv,<-p];exact EA dM hc.1 k oM
  have e:nc t nb = -1:=by unfold nc;rw[if_pos e1]
  rw[e];clear e e1 hv p hc k hi s hl q ha hb;go_in;go_wp2;go_ret;exact⟨rfl,((eR w).alloc _).alloc _,dA⟩
 ·have Hl:=ia hl;have d:=ia q;have Hv:=ia hv;have K:=ia p;clear hl q hv p;go_in;go_wp2;go_loopw [5] (jq w (Z a m c) (Z a' m c') m xs ys) (fun t5 _=>(intOf t5+1).toNat)
  case atStart=>exact⟨m,by omega,rfl,by rw[List.drop_of_length_le (by rw[Hl.o];omega),List.drop_of_length_le (by rw[d.o];omega)],⟨((eR w).alloc _).alloc _,dA⟩,by go_simp,by go_simp⟩
  case round =>
   obtain⟨i,an,rfl,hd,⟨u,af⟩,aj,ak⟩:=hrel;have Hd:=ia hd;clear hd;rcases i with _|j
   ·have e:nc t nb=0:=by
     have:=Hd.o;simp only[List.drop_zero]at this;rw[<-Hv.o,<-K.o,this];simp[nc]
    have E:=ia e;clear e;go_wp2;go_ret;exact⟨Ml (Lj E.o.symm),u,af⟩
   ·rw[show (((j+1:Nat):Int)-1)=(j:Int) by omega];obtain⟨b,o,rfl,ai,ae⟩:=(hi.ext u).open (by rw[Hl.o];omega);obtain⟨b',o',rfl,ah,z⟩:=(s.ext u).open (by rw[d.o];omega);obtain⟨x,W⟩:∃x,xs[j]?=Y x:=⟨xs[j]'(by rw[Hl.o];omega),by simp[Hl.o]⟩;obtain⟨y,aa⟩:∃y,ys[j]?=Y y:=⟨ys[j]'(by rw[d.o];omega),by simp[d.o]⟩;have al:=ae j x W;have am:=z j y aa;have P:=ia W;have R:=ia aa;clear ae z W aa;rcases Int.lt_trichotomy x y with ac|ag|ab
    ·have e:nc t nb = -1:=by
      rw[<-Hv.o,<-K.o];unfold nc;rw[if_pos (Zx hc.1 k.1 (by rw[Hl.o,d.o]) j P.o R.o Hd.o ac)]
     have E:=ia e;clear e;go_wp2;go_quiet (fail);go_wp2;go_ret
     first|exact⟨Ml (Lj E.o.symm),u.drewN _,dA⟩|exact⟨Ml (Lj E.o.symm),(u.drewN _).drewN _,dA⟩
    ·subst ag;go_wp2;go_quiet (fail);go_wp2;go_quiet (fail);go_wp2;go_roundw
     case rel=>exact⟨j,by omega,by go_num,by rw[Um P.o,Um R.o,Hd.o],⟨u.drewN _,dA⟩,by go_simp,by go_simp⟩
     case measure=>simp[intOf]
    ·have e:nc t nb=1:=by
      have:=Zx k.1 hc.1 (by rw[Hl.o,d.o]) j R.o P.o Hd.o.symm ab;rw[<-Hv.o,<-K.o];unfold nc;rw[if_neg oM,if_pos this]
     have E:=ia e;clear e;go_wp2;go_quiet (fail);go_wp2;go_quiet (fail);go_wp2;go_ret
     first|exact⟨Ml (Lj E.o.symm),u.drewN _,dA⟩|exact⟨Ml (Lj E.o.symm),(u.drewN _).drewN _,dA⟩
 ·have e1:nb<t:=by rw[<-hv,<-p];exact EA dM k.1 hc oM
  have e:nc t nb=1:=by unfold nc;rw[if_neg oM,if_pos e1]
  rw[e];clear e e1 hv p hc k hi s hl q ha hb;go_in;go_wp2;go_ret;exact⟨rfl,((eR w).alloc _).alloc _,dA⟩
def Zn(w:O)(d i:X)(b nb:Int)(j:Tc w d b)(k:Tc w i nb):Calls Tryz.prog 153 #[d,i] w fun e m=>e=.returned (G N (nc b nb))/\oa w m:=Do (xo w d i b nb j k)
def CI(xs b:List Int)(k:Int)(i:Nat)(os:List Int)(x y:Int)(d:os[i]?=Y x)(m:b[i]?=Y y)(h:dv B os=dv B xs+k*dv B (b.take i)):dv B (os.set i (x+k*y))=dv B xs+k*dv B (b.take (i+1)):=by
 have hi:=(lS.1 d).1;rw[yp B b i y m,Int.mul_add,<-Int.add_assoc,<-h];have e:os=os.take i++x::os.drop (i+1):=by rw[<-Um d,List.take_append_drop]
 have j:os.set i (x+k*y)=os.take i++(x+k*y)::os.drop (i+1):=by
  rw[List.set_eq_take_append_cons_drop,if_pos hi]
 rw[j]
 conv=>rhs;rw[e]
 rw[kl,kl];simp only[Pm,List.length_take];rw[Nat.min_eq_left oM];grind
def Jj(os:List Int)(i:Nat):Prop:=∀j x,os[j]?=Y x -> -16777216<=x/\x<=33554432/\(i<=j->0<=x/\x<16777216)
def Jj.set{os:List Int}{i:Nat}(h:Jj os i){x:Int}(d:-16777216<=x)(e:x<=33554432):Jj (os.set i x) (i+1):=by
 intro j y b;rw[List.getElem?_set]at b;split at b
 ·subst j;split at b
  ·cases b;exact⟨d,e,fun h=>by omega⟩
  ·cases b
 ·have:=h j y b;exact⟨this.1,this.2.1,fun k=>this.2.2 oM⟩
def Jm(w:O)(e:Int)(j:List Int)(k:Int)(d L:Nat)(t25:X)(wr:O):Prop:=
 ∃(i:Nat)(b:List Int),t25=G N i/\i<=d/\b.length=L/\d<=L/\L<=100000000/\
  Kb 2 wr (w.heap.size+1+1+1) (Z (Y ⟨w.heap.size+1+1+1,0,M⟩) L L) b/\dv B b=e+k*dv B (j.take i)/\Jj b i/\(oa w wr/\Dr w wr)/\w.heap.size+1+1+1<wr.heap.size/\
  wr.heap[w.heap.size+1+1]?=Y (H #[Z M 0 0] 39 (0,0))
def nB{xs b os:List Int}{k d x y:Int}{i:Nat}(hv:dv B xs=d)(e:os[i]?=Y x)(j:b[i]?=Y y)(h:dv B os=d+k*dv B (b.take i)):dv B (os.set i (x+k*y))=d+k*dv B (b.take (i+1)):=by subst hv;exact CI xs b k i os x y e j h
def Nl(w:O)(va vb:X)(na nb k:Int)(ha:Tc w va na)(hb:Tc w vb nb)(aU:Lm Cc na)(aV:Lm Cc nb)(hk:-1<=k/\k<=1)(hp:0<=na+k*nb):Calls Tryz.prog 147 #[va,vb,G N k] w fun e w'=>∃r,e=.returned r/\jg w' w.heap.size r (na+k*nb)/\oa w w'/\Dr w w':=by
 obtain⟨a,m,c,rfl⟩:=ha.form;obtain⟨a',m',c',rfl⟩:=hb.form;obtain⟨xs,hl,hi,hc,hv⟩:=ha.open;obtain⟨ys,ax,aF,ap,aB⟩:=hb.open;have hm:=aU.len hc hv;have aG:=aV.len ap aB;rw[hl]at hm;rw[ax]at aG;unfold Cc at hm aG;have Hl:=ia hl;have z:=ia ax;have Hv:=ia hv;have al:=ia aB;clear hl ax hv aB;rcases Nat.lt_or_ge m m' with aX|aX
 ·go_in;go_wp2_with(first|(at_make;refine mn nk Tryz.underlying37 rfl _ _ rfl _ rfl rfl rfl oM ?_;intro w1 b u aj aK;obtain⟨aq,av⟩:=u.cells;simp only[wZ]at b aj)|(refine Qp nk Tryz.underlying37 rfl _ _ rfl rfl rfl b (hi.ext ((((eR w).alloc _).alloc _).alloc _ |>.trans u)) (by rw[Hl.o];omega) ?_;intro w2 s P ah aL;obtain⟨ar,aw⟩:=jm P));go_loopw [25] (Jm w na ys k m' m') (fun aD _=>m'-(intOf aD).toNat)
  case atStart =>
   refine⟨0,_,rfl,by omega,?_,by omega,by omega,s,?_,?_,?_,?_,?_⟩
   ·have:=Hl.o;simp;omega
   ·rw[List.drop_replicate,kl,po,Hv.o];simp
   ·intro j x hj;rw[List.getElem?_append]at hj;split at hj
    ·have:=hc.1 x (lM hj);unfold B at this;omega
    ·have:=List.mem_replicate.1 (List.mem_of_mem_drop (lM hj));omega
   ·exact⟨(((((eR w).alloc _).alloc _).alloc _).trans u).E P oM,dA⟩
   ·have:=P.size;omega
   ·exact ah.get (by rw[u.block sM];exact Kc _ _ _ sM) dM
  case round =>
   clear s b u aq av ar aw aj P ah;obtain⟨i,os,rfl,aS,ad,ay,hL,q,R,ae,⟨hx,aO⟩,aA,t⟩:=hrel;have K:=ia ad;have ag:=ia R;have o:=ia t;by_cases aW:i<m'
   ·obtain⟨b',o',rfl,aE,ab⟩:=(aF.ext hx).open (by rw[z.o];omega);obtain⟨y,aa⟩:∃y,ys[i]?=Y y:=⟨ys[i]'(by rw[z.o];omega),by simp[z.o]⟩;obtain⟨x,W⟩:∃x,os[i]?=Y x:=⟨os[i]'(by rw[K.o];omega),by simp[K.o]⟩;have aJ:=ab i y aa;have aI:=q.cell W;have aR:=q.frozen i;have af:=ap.1 y (lM aa);have aZ:=(ae i x W).2.2 (nE _);have aT:-16777216<k*y/\k*y<16777216:=by
     unfold B at af;obtain h|h|h:k = -1\/k=0\/k=1:=oM
     all_goals(subst h;omega)
    have am:=ia W;have an:=ia aa;clear ab aa W ad R t;have aH:=ia af;clear af;go_wp2;go_roundw
    case rel =>
     refine⟨i+1,os.set i (x+k*y),by go_num,by omega,by simp[K.o],ay,hL,q.stored i _,nB Hv.o am.o an.o ag.o,ae.set oM oM,?_,?_,?_⟩
     ·exact⟨hx.set (by simp;omega) _,dA⟩
     ·simp only[sf];exact aA
     ·rw[bS _ _ _ _ sM];exact o.o
    case measure=>simp[intOf];omega
   ·obtain rfl:i=m':=oM;have ai:0<=dv B os:=by
     rw[R,lT (by rw[z.o];omega),al.o];exact hp
    clear ad R t;have az:=cell_of_one o.o;have aY:=free_of_one o.o;go_wp2_with(go_at_call 190;refine(fu (w.heap.size+1+1+1) _ os _ q oM (by rw[K.o];omega) (fun x hx=>by obtain⟨j,hj⟩:=List.mem_iff_getElem?.1 hx;have:=ae j x hj;omega) ai).mono ?_;rintro e w3 ⟨v',zs,rfl,aC,ak,d,ac,aP,aM⟩;obtain⟨au,aQ⟩:=jm ac;obtain⟨a4,c4,rfl⟩:=d.form;have ao:=ia ak;clear ak);refine bR (v:=Oa #[Z a4 zs.length c4]) (by simp[results,Tryz.results147,go_sem,au,az]) rfl ⟨_,rfl,⟨_,zs,rfl,Mj oM (d.setOther (p:=⟨w.heap.size+1+1,0,M⟩) (d.ne_block ((ac.block _ dO).trans o.o) dM) _),aC,?_⟩,(hx.E ac oM).set (by simp;omega) _,dA⟩;rw[ao.o,ag.o,lT (by rw[z.o];omega),al.o]
 ·go_in;go_wp2_with(first|(at_make;refine mn nk Tryz.underlying37 rfl _ _ rfl _ rfl rfl rfl oM ?_;intro w1 b u aj aK;obtain⟨aq,av⟩:=u.cells;simp only[wZ]at b aj)|(refine Qp nk Tryz.underlying37 rfl _ _ rfl rfl rfl b (hi.ext ((((eR w).alloc _).alloc _).alloc _ |>.trans u)) (by rw[Hl.o];omega) ?_;intro w2 s P ah aL;obtain⟨ar,aw⟩:=jm P));go_loopw [25] (Jm w na ys k m' m) (fun aD _=>m'-(intOf aD).toNat)
  case atStart =>
   refine⟨0,_,rfl,by omega,?_,by omega,by omega,s,?_,?_,?_,?_,?_⟩
   ·have:=Hl.o;simp;omega
   ·rw[List.drop_replicate,kl,po,Hv.o];simp
   ·intro j x hj;rw[List.getElem?_append]at hj;split at hj
    ·have:=hc.1 x (lM hj);unfold B at this;omega
    ·have:=List.mem_replicate.1 (List.mem_of_mem_drop (lM hj));omega
   ·exact⟨(((((eR w).alloc _).alloc _).alloc _).trans u).E P oM,dA⟩
   ·have:=P.size;omega
   ·exact ah.get (by rw[u.block sM];exact Kc _ _ _ sM) dM
  case round =>
   clear s b u aq av ar aw aj P ah;obtain⟨i,os,rfl,aS,ad,ay,hL,q,R,ae,⟨hx,aO⟩,aA,t⟩:=hrel;have K:=ia ad;have ag:=ia R;have o:=ia t;by_cases aW:i<m'
   ·obtain⟨b',o',rfl,aE,ab⟩:=(aF.ext hx).open (by rw[z.o];omega);obtain⟨y,aa⟩:∃y,ys[i]?=Y y:=⟨ys[i]'(by rw[z.o];omega),by simp[z.o]⟩;obtain⟨x,W⟩:∃x,os[i]?=Y x:=⟨os[i]'(by rw[K.o];omega),by simp[K.o]⟩;have aJ:=ab i y aa;have aI:=q.cell W;have aR:=q.frozen i;have af:=ap.1 y (lM aa);have aZ:=(ae i x W).2.2 (nE _);have aT:-16777216<k*y/\k*y<16777216:=by
     unfold B at af;obtain h|h|h:k = -1\/k=0\/k=1:=oM
     all_goals(subst h;omega)
    have am:=ia W;have an:=ia aa;clear ab aa W ad R t;have aH:=ia af;clear af;go_wp2;go_roundw
    case rel =>
     refine⟨i+1,os.set i (x+k*y),by go_num,by omega,by simp[K.o],ay,hL,q.stored i _,nB Hv.o am.o an.o ag.o,ae.set oM oM,?_,?_,?_⟩
     ·exact⟨hx.set (by simp;omega) _,dA⟩
     ·simp only[sf];exact aA
     ·rw[bS _ _ _ _ sM];exact o.o
    case measure=>simp[intOf];omega
   ·obtain rfl:i=m':=oM;have ai:0<=dv B os:=by
     rw[R,lT (by rw[z.o];omega),al.o];exact hp
    clear ad R t;have az:=cell_of_one o.o;have aY:=free_of_one o.o;go_wp2_with(go_at_call 190;refine(fu (w.heap.size+1+1+1) _ os _ q oM (by rw[K.o];omega) (fun x hx=>by obtain⟨j,hj⟩:=List.mem_iff_getElem?.1 hx;have:=ae j x hj;omega) ai).mono ?_;rintro e w3 ⟨v',zs,rfl,aC,ak,d,ac,aP,aM⟩;obtain⟨au,aQ⟩:=jm ac;obtain⟨a4,c4,rfl⟩:=d.form;have ao:=ia ak;clear ak);refine bR (v:=Oa #[Z a4 zs.length c4]) (by simp[results,Tryz.results147,go_sem,au,az]) rfl ⟨_,rfl,⟨_,zs,rfl,Mj oM (d.setOther (p:=⟨w.heap.size+1+1,0,M⟩) (d.ne_block ((ac.block _ dO).trans o.o) dM) _),aC,?_⟩,(hx.E ac oM).set (by simp;omega) _,dA⟩;rw[ao.o,ag.o,lT (by rw[z.o];omega),al.o]
def Uo(w:O)(j m:X)(b nb k:Int)(t:Tc w j b)(u:Tc w m nb)(d:Lm Cc b)(i:Lm Cc nb)(x:-1<=k/\k<=1)(y:0<=b+k*nb):Calls Tryz.prog 147 #[j,m,G N k] w fun e o=>∃r,e=.returned r/\jg o w.heap.size r (b+k*nb)/\oa w o:=by refine(Nl w j m b nb k t u d i x y).mono ?_;rintro e o ⟨r,p,q,s,-⟩;exact⟨r,p,q,s⟩
end
section
section
variable {lo hi px qx:Rat}
def Jg(lo hi:Rat)(a b:Pq):List Rat->Rat
 | s::t::l=>(t-s)*((Zd lo hi (Mb a b s)+Zd lo hi (Mb a b t))/2)+Jg lo hi a b (t::l)
 | _=>0
def Jl(lo hi z w:Rat):Prop:=(z<=lo/\w<=lo)\/(lo<=z/\z<=hi/\lo<=w/\w<=hi)\/(hi<=z/\hi<=w)
def ni(lo hi:Rat)(a b:Pq):List Rat->Prop
 | s::t::l=>Jl lo hi (Mb a b s) (Mb a b t)/\ni lo hi a b (t::l)
 | _=>True
def QH(q:lo<hi){z w:Rat}(h:Jl lo hi z w):ig lo hi w-ig lo hi z=(w-z)*((Zd lo hi z+Zd lo hi w)/2):=by
 have j:∀z,lo<=z->z<=hi->ig lo hi z=(z-lo)*(z-lo)/2/\Zd lo hi z=z-lo:=fun z b d=>by
  unfold ig Zd;by_cases e:z=lo
  ·subst e;grind
  ·grind
 have k:∀z,hi<=z->ig lo hi z=(hi-lo)*(hi-lo)/2+(hi-lo)*(z-hi)/\Zd lo hi z=hi-lo:=fun z m=>by
  unfold ig Zd;by_cases e:z=hi
  ·subst e;grind
  ·grind
 have i:∀z,z<=lo->ig lo hi z=0/\Zd lo hi z=0:=fun z m=>by
  unfold ig Zd;rw[if_pos m,if_pos m];exact⟨rfl,rfl⟩
 rcases h with ⟨b,d⟩|⟨b,d,o,p⟩|⟨b,d⟩
 ·rw[(i z b).1,(i z b).2,(i w d).1,(i w d).2];grind
 ·rw[(j z b d).1,(j z b d).2,(j w o p).1,(j w o p).2];grind
 ·rw[(k z b).1,(k z b).2,(k w d).1,(k w d).2];grind
def Pz(d:lo<hi)(a b:Pq):∀(s:Rat)(l:List Rat)(z:Rat),(s::l).getLast?=Y z->ni lo hi a b (s::l)->Re a b*Jg lo hi a b (s::l)=ig lo hi (Mb a b z)-ig lo hi (Mb a b s)
 | s,[],z,h,_=>by
  simp at h;subst h;show Re a b*0=_;grind
 | s,t::l,z,h,hs=>by
  have j:(t::l).getLast?=Y z:=by simpa using h
  have k:=Pz d a b t l z j hs.2;have e:=QH d hs.1;show Re a b*((t-s)*((Zd lo hi (Mb a b s)+Zd lo hi (Mb a b t))/2)+Jg lo hi a b (t::l))=_;have i:Mb a b t-Mb a b s=Re a b*(t-s):=by unfold Mb;grind
  rw[i]at e;grind
def Qz(a b:Pq)(h:Re a b=0):∀(s:Rat)(l:List Rat)(z:Rat),(s::l).getLast?=Y z->Jg lo hi a b (s::l)=Zd lo hi a.2*(z-s)
 | s,[],z,d=>by
  simp at d;subst d;show (0:Rat)=_;grind
 | s,t::l,z,d=>by
  have e:(t::l).getLast?=Y z:=by simpa using d
  have i:=Qz a b h t l z e;show (t-s)*((Zd lo hi (Mb a b s)+Zd lo hi (Mb a b t))/2)+Jg lo hi a b (t::l)=_;have o:∀x,Mb a b x=a.2:=fun x=>by unfold Mb;rw[h];grind
  rw[i,o,o];grind
def Oz(k:lo<hi){a b:Pq}(hv:a.1≠b.1){s z:Rat}{l:List Rat}(i:s=Gg px qx a.1)(j:z=Gg px qx b.1)(e:(s::l).getLast?=Y z)(m:ni lo hi a b (s::l)):Jg lo hi a b (s::l)=Eb lo hi px qx a b:=by
 unfold Eb;rw[if_neg hv,<-i,<-j];by_cases d:Re a b=0
 ·rw[if_pos d];exact Qz a b d s l z e
 ·rw[if_neg d,<-Pz k a b s l z e m];grind
def Ww(o:lo<hi){z w:Rat}(j:¬(z-lo)*(w-lo)<0)(k:¬(z-hi)*(w-hi)<0):Jl lo hi z w:=by
 unfold Jl;by_cases d:z<lo
 ·exact .inl ⟨Rat.le_of_lt d,by have:=Ru j (by grind);grind⟩
 by_cases e:w<lo
 ·exact .inl ⟨by have:=iB j (y:=w-lo) (by grind);grind,Rat.le_of_lt e⟩
 by_cases i:hi<z
 ·refine .inr (.inr ⟨Rat.le_of_lt i,?_⟩);by_cases b:w<hi
  ·have:=iB k (y:=w-hi) (by grind);grind
  ·exact Rat.not_lt.1 b
 by_cases b:hi<w
 ·refine .inr (.inr ⟨?_,Rat.le_of_lt b⟩);by_cases m:z<hi
  ·have:=Ru k (by grind);grind
  ·exact Rat.not_lt.1 m
 exact .inr (.inl ⟨Rat.not_lt.1 d,Rat.not_lt.1 i,Rat.not_lt.1 e,Rat.not_lt.1 b⟩)
end
end
section
open Go.RowKit
def Tn{b:Int}{os:List Int}{p:Nat}{z:Int}(u:Int)(h:os[p]?=Y z):dv b (os.set p u)=dv b os+b ^ p*(u-z):=by
 have hi:=(lS.1 h).1;have e:os=os.take p++z::os.drop (p+1):=by rw[<-Um h,List.take_append_drop]
 have d:os.set p u=os.take p++u::os.drop (p+1):=by rw[List.set_eq_take_append_cons_drop,if_pos hi]
 rw[d]
 conv=>rhs;rw[e]
 rw[kl,kl];simp only[Pm,List.length_take];rw[Nat.min_eq_left oM];grind
def ke.set{b:Int}{os:List Int}(h:ke b os){u:Int}(i:0<=u)(j:u<b)(p:Nat):ke b (os.set p u):=by
 intro d e;rcases List.mem_or_eq_of_mem_set e with e|rfl
 ·exact h d e
 ·exact⟨i,j⟩
def ke.get{b:Int}{os:List Int}(h:ke b os){p:Nat}{z:Int}(d:os[p]?=Y z):0<=z/\z<b:=h z (lM d)
def Pk(os:List Int)(p:Nat):Prop:=∀j x,os[j]?=Y x->p<=j->x=0
def Pk.set{os:List Int}{p q:Nat}(h:Pk os p)(e:q<p)(u:Int):Pk (os.set q u) p:=by intro j x b d;rw[List.getElem?_set_ne oM]at b;exact h j x b d
def Pk.set_next{os:List Int}{p:Nat}(h:Pk os p)(u:Int):Pk (os.set p u) (p+1):=by intro j x b d;rw[List.getElem?_set_ne oM]at b;exact h j x b oM
def Pk.replicate(n p:Nat):Pk (List.replicate n 0) p:=fun j x b _=>by
 have:=List.mem_replicate.1 (lM b);exact this.2
def YJ{x y:Int}(d:0<=x/\x<B)(b:0<=y/\y<B):0<=x*y/\x*y<=281474943156225:=by unfold B at *;have e:=Int.mul_nonneg d.1 b.1;have i:x*y<=16777215*16777215:=Int.mul_le_mul oM oM b.1 oM;omega
def DJ{os d:List Int}{i k:Nat}{x y z b V:Int}(o:os[i+k]?=Y z)(m:d[k]?=Y y)(h:dv B os+B ^ (i+k)*b=V+B ^ i*(x*dv B (d.take k))):dv B (os.set (i+k) ((b+(x*y+z))%16777216))+B ^ (i+(k+1))*((b+(x*y+z))/16777216)=V+B ^ i*(x*dv B (d.take (k+1))):=by
 rw[Tn _ o,yp B d k y m,<-Nat.add_assoc,Int.pow_succ,Int.pow_add];rw[Int.pow_add]at h;have e:b+(x*y+z)=(b+(x*y+z))%16777216+B*((b+(x*y+z))/16777216):=by unfold B;omega
 generalize hr:(b+(x*y+z))%16777216=r at *
 generalize hq:(b+(x*y+z))/16777216=q at *
 clear hr hq;have j:r=b+(x*y+z)-B*q:=oM;subst j;grind
def yG{e os xs b:List Int}{i k:Nat}{x z j:Int}(p:e[i+k]?=Y z)(d:z=0)(q:b.length=k)(o:xs[i]?=Y x)(h:dv B e+B ^ (i+k)*j=dv B os+B ^ i*(x*dv B (b.take k)))(m:dv B os=dv B (xs.take i)*dv B b):dv B (e.set (i+k) j)=dv B (xs.take (i+1))*dv B b:=by rw[Tn _ p,d,Int.sub_zero,h,m,lT (l:=b) oM,yp B xs i x o,Int.add_mul,Int.mul_assoc]
def ov(w:O)(xs j:List Int)(e:Option U)(m b c':Nat)(t22:X)(wr:O):Prop:=
 ∃(i:Nat)(d:List Int),t22=G N i/\i<=m/\d.length=m+b/\Kb 2 wr (w.heap.size+1+1+1) (Z (Y ⟨w.heap.size+1+1+1,0,M⟩) (m+b) (m+b)) d/\
  dv B d=dv B (xs.take i)*dv B j/\ke B d/\Pk d (i+b)/\(oa w wr/\Dr w wr)/\w.heap.size+1+1+1<wr.heap.size/\wr.cell? ⟨w.heap.size+1,0,M⟩=Y (Z e b c')/\
  wr.heap[w.heap.size+1+1]?=Y (H #[Z M 0 0] 39 (0,0))
def qv(w:O)(x V:Int)(q:List Int)(o:Option U)(i m b c':Nat)(p j:X)(wr:O):Prop:=
 ∃(k:Nat)(e:Int)(d:List Int),j=G N k/\p=G N e/\k<=b/\0<=e/\e<16777216/\d.length=m+b/\Kb 2 wr (w.heap.size+1+1+1) (Z (Y ⟨w.heap.size+1+1+1,0,M⟩) (m+b) (m+b)) d/\
  dv B d+B ^ (i+k)*e=V+B ^ i*(x*dv B (q.take k))/\ke B d/\Pk d (i+b)/\(oa w wr/\Dr w wr)/\w.heap.size+1+1+1<wr.heap.size/\wr.cell? ⟨w.heap.size+1,0,M⟩=Y (Z o b c')/\
  wr.heap[w.heap.size+1+1]?=Y (H #[Z M 0 0] 39 (0,0))
def xw(w:O)(va vb:X)(na nb:Int)(ha:Tc w va na)(hb:Tc w vb nb)(aW:Lm Cc na)(aX:Lm Cc nb):Calls Tryz.prog 146 #[va,vb] w fun e w'=>∃r,e=.returned r/\jg w' w.heap.size r (na*nb)/\oa w w'/\Dr w w':=by
 obtain⟨a,m,c,rfl⟩:=ha.form;obtain⟨a',m',c',rfl⟩:=hb.form;obtain⟨xs,hl,hi,hc,hv⟩:=ha.open;obtain⟨ys,am,aV,au,ap⟩:=hb.open;have hm:=aW.len hc hv;have ay:=aX.len au ap;rw[hl]at hm;rw[am]at ay;unfold Cc at hm ay;have Hl:=ia hl;have ad:=ia am;have Hv:=ia hv;have aI:=ia ap;clear hl am hv ap;go_in;go_wp2_with(at_make;refine mn (n:=m+m') nk Tryz.underlying37 rfl _ _ rfl _ rfl rfl sM oM ?_;intro w1 t K aB a7;obtain⟨av,aT⟩:=K.cells;simp only[wZ]at t aB);go_loopw [22] (ov w xs ys a' m m' c') (fun a1 _=>m-(intOf a1).toNat)
 case atStart =>
  refine⟨0,_,rfl,by omega,by simp,t,?_,?_,Pk.replicate _ _,⟨(((eR w).alloc _).alloc _).alloc _ |>.trans K,dA⟩,by omega,?_,?_⟩
  ·rw[po];simp
  ·intro d hd;have:=(List.mem_replicate.1 hd).2;unfold B;omega
  ·rw[av _ _ sM];go_simp
  ·rw[K.block sM];exact Kc _ _ _ sM
 case round =>
  clear t K av aT aB;obtain⟨i,os,rfl,bb,az,j,ab,aa,aG,⟨hx,al⟩,ac,ak,s⟩:=hrel;have ar:=ia az;have aq:=ia ab;have P:=ia s;clear az ab s;by_cases bd:i<m
  ·obtain⟨b,o,rfl,aP,K⟩:=(hi.ext hx).open (by rw[Hl.o];omega);obtain⟨x,ae⟩:∃x,xs[i]?=Y x:=⟨xs[i]'(by rw[Hl.o];omega),by simp[Hl.o]⟩;have aR:=K i x ae;have aD:=hc.1 x (lM ae);have aK:=ia ae;have aJ:=ia aD;clear K ae aD;go_wp2;obtain⟨wo,rfl⟩:∃wo:O,wo=wr:=⟨_,rfl⟩;go_loopw [8,30] (qv w x (dv B os) ys a' i m m' c') (fun _ a2 _=>m'-(intOf a2).toNat)
   case atStart=>exact⟨0,0,os,rfl,rfl,by omega,by omega,by omega,ar.o,j,by simp,aa,aG,⟨hx,al⟩,ac,ak,P.o⟩
   case round =>
    clear j hx al ac ak aR aP;obtain⟨k,cy,us,rfl,rfl,bc,aw,ax,aC,j,ab,an,ao,⟨hx,al⟩,ac,ak,s⟩:=hrel;have R:=ia aC;have ag:=ia ab;have W:=ia s;clear aC ab s;by_cases a5:k<m'
    ·obtain⟨b',o',rfl,a3,ah⟩:=(aV.ext hx).open (by rw[ad.o];omega);obtain⟨y,af⟩:∃y,ys[k]?=Y y:=⟨ys[k]'(by rw[ad.o];omega),by simp[ad.o]⟩;obtain⟨z,q⟩:∃z,us[i+k]?=Y z:=⟨us[i+k]'(by rw[R.o];omega),by simp[R.o]⟩;have a6:=ah k y af;have aS:=j.cell q;have aU:=j.frozen (i+k);have aE:=au.1 y (lM af);have aZ:=an.get q;obtain⟨be,bf⟩:=YJ aJ.o aE;unfold B at aZ;have aL:=ia af;have ai:=ia q;clear ah af q aE;go_wp2;go_roundw
     case rel =>
      rw[Ok];refine⟨k+1,_,us.set (i+k) ((cy+(x*y+z))%16777216),by go_num,rfl,by omega,by omega,by omega,by simp[R.o],j.stored _ _,DJ ai.o aL.o ag.o,an.set oM (by unfold B;omega) _,ao.set oM _,⟨hx.set (by simp;omega) _,dA⟩,by simp only[sf];exact ac,by go_simp,?_⟩;rw[bS _ _ _ _ sM];exact W.o
     case measure=>simp[intOf];omega
    ·obtain rfl:k=m':=oM;obtain⟨z,q⟩:∃z,us[i+k]?=Y z:=⟨us[i+k]'(by rw[R.o];omega),by simp[R.o]⟩;have aS:=j.cell q;have aU:=j.frozen (i+k);have aF:=ao _ z q (nE _);have aM:=ia aF;have ai:=ia q;clear aF q;go_wp2;go_roundw
     case rel =>
      refine⟨i+1,us.set (i+k) cy,by go_num,by omega,by simp[R.o],j.stored _ _,?_,an.set aw ax _,?_,⟨hx.set (by simp;omega) _,dA⟩,by simp only[sf];exact ac,by go_simp,?_⟩
      ·exact yG ai.o aM.o ad.o aK.o ag.o aq.o
      ·have:=ao.set_next cy
       rwa [show i+k+1=i+1+k by omega]at this
      ·rw[bS _ _ _ _ sM];exact W.o
     case measure=>simp[intOf];omega
  ·obtain rfl:i=m:=oM;have aY:=cell_of_one P.o;have bg:=free_of_one P.o;have aA:0<=dv B os:=(ik Yh aa).1;go_wp2_with(go_at_call 190;refine(fu (w.heap.size+1+1+1) _ os _ j oM (by rw[ar.o];omega) (fun x hx=>by have:=aa x hx;unfold B at this;omega) aA).mono ?_;rintro e w3 ⟨v',zs,rfl,a0,aH,u,aj,a9,a8⟩;obtain⟨aQ,ba⟩:=jm aj;obtain⟨a4,c4,rfl⟩:=u.form;have aO:=ia aH;clear aH);refine bR (v:=Oa #[Z a4 zs.length c4]) (by simp[results,Tryz.results146,go_sem,aQ,aY]) rfl ⟨_,rfl,⟨_,zs,rfl,Mj oM (u.setOther (p:=⟨w.heap.size+1+1,0,M⟩) (u.ne_block ((aj.block _ dO).trans P.o) dM) _),a0,?_⟩,(hx.E aj oM).set (by simp;omega) _,dA⟩;rw[aO.o,aq.o,lT (by rw[Hl.o];omega),Hv.o,aI.o]
def Us{P:Program}{f:FuncId}{args:Array X}{w:O}{p:O->X->Prop}(h:Calls P f args w fun e b=>∃r,e=.returned r/\p b r/\oa w b/\Dr w b):Calls P f args w fun e b=>∃r,e=.returned r/\p b r/\oa w b:=h.mono fun _ _ ⟨r,d,i,j,_⟩=>⟨r,d,i,j⟩
def Sz(w:O)(j k:X)(b nb:Int)(o:Tc w j b)(p:Tc w k nb)(d:Lm Cc b)(i:Lm Cc nb):Calls Tryz.prog 146 #[j,k] w fun e m=>∃r,e=.returned r/\jg m w.heap.size r (b*nb)/\oa w m:=Us (xw w j k b nb o p d i)
def Zp(y:Int):bits BinOp.and IntKind.i64 y 1=y%2:=by
 show IntKind.i64.wrap (((BitVec.ofInt 64 y &&& BitVec.ofInt 64 1).toNat:Nat):Int)=_;have b:(BitVec.ofInt 64 y &&& BitVec.ofInt 64 1).toNat=(y%18446744073709551616).toNat%2:=by
  rw[BitVec.toNat_and,BitVec.toNat_ofInt];have:(BitVec.ofInt 64 1).toNat=2 ^ 1-1:=dM;rw[this,Nat.and_two_pow_sub_one_eq_mod];rfl
 rw[b];simp[IntKind.wrap,IntKind.signed,IntKind.bits];omega
def Cn(y:Int)(b:0<=y)(e:y<18446744073709551616):bits BinOp.and IntKind.u64 y 16777215=y%16777216:=by obtain⟨n,rfl⟩:=Int.eq_ofNat_of_zero_le b;have h:=bits_and_u64_nat n (2 ^ 24-1) oM dM;rw[Nat.and_two_pow_sub_one_eq_mod]at h;have d:((n%2 ^ 24:Nat):Int)=(n:Int)%16777216:=oM;rw[d]at h;exact h
def Dx(ds:List Int)(x:Int):dv B (x::ds)%2=x%2:=by simp only[Pm];unfold B;omega
def Al(w:O)(p:X)(d:Int)(i:Tc w p d)(K:0<d):Calls Tryz.prog 226 #[p] w fun e u=>e=.returned (.bool (d%2==0))/\oa w u:=by
 obtain⟨a,m,c,rfl⟩:=i.form;obtain⟨xs,j,hi,q,hv⟩:=i.open;cases xs with
 | nil=>simp at hv;omega
 | cons x xs =>
  obtain⟨b,o,rfl,z,k⟩:=hi.open sM;have t:w.cell? ⟨b,o,M⟩=Y (G N x):=by simpa using k 0 x rfl
  have s:(0:Int)<(m:Int):=by rw[<-j];simp
  have y:=Zp x;have e:(d%2==0)=(x%2==0):=by rw[<-hv,Dx]
  have E:=ia e;clear e hv j k q hi i;go_in;go_wp2;go_ret;exact⟨Ml (by rw[E.o];rfl),(eR w).alloc _⟩
def Cv(g:Nat)(t0 e:X)(wr d:O):Prop:=∃a b:Nat,t0=G .u64 a/\e=G .u64 b/\a<18446744073709551616/\b<18446744073709551616/\Nat.gcd a b=g/\oa d wr
def EK(w:O)(a b:Nat)(q:a<18446744073709551616)(s:b<18446744073709551616):Calls Tryz.prog 228 #[G .u64 a,G .u64 b] w fun e z=>e=.returned (G .u64 (Nat.gcd a b:Nat))/\oa w z:=by
 obtain⟨g,d⟩:=gX (Nat.gcd a b);rw[d];go_in;go_wp2;go_loopw [0,1] (fun u o wr=>Cv g u o wr w) (fun _ o _=>(intOf o).toNat)
 case atStart=>exact⟨a,b,rfl,rfl,q,s,d,eR w⟩
 case round =>
  clear q s d;obtain⟨x,y,rfl,rfl,W,t,d,i⟩:=hrel;have p:=ia d;clear d;by_cases j:y=0
  ·subst j;go_wp2;go_ret;exact⟨Ml (Lj (by rw[<-p.o];simp)),i⟩
  ·have K:((y:Int)==0)=false:=by simp;omega
   have P:((y:Int) != 0)=true:=by simp;omega
   have R:(1:Int)<=(y:Int):=oM;clear j;go_wp2;go_quiet (fail);go_wp2;go_roundw
   case rel =>
    have m:0<y:=oM;have k:=Nat.mod_lt x m;exact⟨y,x%y,rfl,Lj sM,t,by omega,by rw[<-p.o,Nat.gcd_comm x y,Nat.gcd_rec y x,Nat.gcd_comm],i.drewN _⟩
   case measure =>
    have k:=Int.emod_lt_of_pos (x:Int) (show (0:Int)<y by omega);have j:=Int.emod_nonneg (x:Int) (show (y:Int)≠0 by omega);simp[intOf];omega
def JJ(d:List Int)(b:Int):dv B (d++[b%16777216])+B ^ (d++[b%16777216]).length*(b/16777216)=dv B d+B ^ d.length*b:=by
 rw[Un,lA,List.length_singleton,Int.pow_succ];have e:b=b%16777216+B*(b/16777216):=by unfold B;omega
 generalize b%16777216=r at *
 generalize b/16777216=q at *
 subst e;grind
def fq(w:O)(n:Int)(t0 t3:X)(wr:O):Prop:=
 ∃(m:Nat)(b:List Int),t0=G .u64 m/\m<18446744073709551616/\Kb 2 wr (w.heap.size+1) t3 b/\dv B b+B ^ b.length*m=n/\ke B b/\(m=0->Wg B b)/\b.length<=3/\(0<m->b.length<=2)/\(65535<m->b.length<=1)/\(1099511627775<m->b.length=0)/\(oa w wr/\Dr w wr)/\w.heap.size<wr.heap.size/\
  wr.heap[w.heap.size]?=Y (H #[Z M 0 0] 39 (0,0))
def Mv(w:O)(n:Int)(h0:0<=n)(h1:n<18446744073709551616):Calls Tryz.prog 148 #[G .u64 n] w fun e w'=>∃r,e=.returned r/\jg w' w.heap.size r n/\oa w w'/\Dr w w':=by
 obtain⟨n,rfl⟩:=Int.eq_ofNat_of_zero_le h0;go_in;go_wp2;go_loopw [0,3] (fq w n) (fun t0 _ _=>(intOf t0).toNat)
 case atStart=>exact⟨n,[],rfl,by omega,Kb.nil _ _ _,by simp,ke.nil _,fun _=>Wg.nil _,by simp,by simp,by simp,by simp,⟨(eR w).alloc _,dA⟩,by simp,aN _ _⟩
 case round =>
  clear h0 h1;obtain⟨m,y,rfl,hm,d,hv,hd,j,ab,x,u,t,⟨hx,P⟩,hs,b⟩:=hrel;have Hv:=ia hv;have q:=ia b;obtain⟨a,c,rfl⟩:=d.form;have z:=Cn m oM oM;by_cases W:m=0
  ·subst W;have s:=ia (j rfl);have R:=cell_of_one b;have ae:=free_of_one b;clear hv b z hm x u t j;go_wp2;refine bR (v:=Oa #[Z a y.length c]) (by simp[results,Tryz.results148,go_sem,R]) rfl ⟨_,rfl,⟨_,y,rfl,Mj oM (d.setOther (p:=⟨w.heap.size,0,M⟩) (d.ne_block q.o dM) _),s.o,?_⟩,hx.set sM _,dA⟩;rw[<-Hv.o];simp
  ·have ac:(0:Int)<(m:Int):=oM;have HA:=ia z;have aa:=x oM;clear hv b W z j;go_wp2_with(at_builtin;refine Am nk Tryz.underlying37 rfl _ _ rfl rfl d rfl oM oM ?_;intro v' w1 k i o K);rw[HA.o,IntWalk.wrap64_in _ ⟨by omega,by omega⟩]at k;go_roundw
   case rel =>
    have ad:0<m:=oM;refine⟨m/16777216,y++[(m:Int)%16777216],Lj sM,by omega,k,?_,hd.snoc oM (by unfold B;omega),?_,?_,?_,?_,?_,⟨hx.E i oM,P.trans K⟩,?_,o.get q.o dM⟩
    ·rw[<-Hv.o];have h2:=JJ y (m:Int);simpa using h2
    ·intro W;refine⟨hd.snoc oM (by unfold B;omega),?_⟩;simp;omega
    ·simp;omega
    ·intro h;simp;exact u oM
    ·intro h;have:=t oM;rw[lA,List.length_singleton];omega
    ·intro h;omega
    ·have:=i.size;omega
   case measure=>simp[intOf];omega
def Yn(w:O)(n:Int)(d:0<=n)(i:n<18446744073709551616):Calls Tryz.prog 148 #[G .u64 n] w fun e b=>∃r,e=.returned r/\jg b w.heap.size r n/\oa w b:=Us (Mv w n d i)
def GI(x:Int)(b:0<=x)(d:x<16777216):0<=x/2/\x/2<8388608/\0<=x%2/\x%2<=1:=oM
def Kj(xs os:List Int)(i:Nat):Prop:=(i=0->dv B os=0)/\(0<i->2*dv B os=dv B (xs.take i)-dv B xs%2)
def Kj.step{xs os:List Int}{i:Nat}{x u:Int}(h:Kj xs os i)(d:xs[i]?=Y x)(k:os[i]?=Y 0)(o:(i=0->u=0)/\(0<i->∃z,os[i-1]?=Y z/\u=z+(x%2)*8388608)):Kj xs (if i=0 then os.set i (x/2)else (os.set i (x/2)).set (i-1) u) (i+1):=by
 refine⟨fun K=>by omega,fun _=>?_⟩;rcases i with _|j
 ·cases xs with
  | nil=>simp at d
  | cons y R =>
   simp at d;subst d;rw[if_pos rfl,Tn _ k,h.1 rfl,Dx];simp;omega
 ·obtain⟨z,b,rfl⟩:=o.2 oM;simp only[Nat.add_sub_cancel]at b;have P:=h.2 oM;rw[if_neg oM,Nat.add_sub_cancel,Tn (z:=z) _ (by rw[List.getElem?_set_ne oM];exact b),Tn _ k,yp B xs (j+1) x d,Int.sub_zero,Int.pow_succ];have e:x=x%2+2*(x/2):=oM;generalize x%2=r at *
  generalize x/2=q at *
  subst e;have m:B=2*8388608:=rfl;generalize B ^ j=p at *
  generalize dv B xs%2=s at *
  generalize dv B (List.take (j+1) xs)=t at *
  generalize dv B os=v at *
  rw[m];grind
def xq(os:List Int)(i:Nat):Prop:=∀j x,os[j]?=Y x->0<=x/\x<16777216/\(i<=j+1->x<8388608)/\(i<=j->x=0)
def uq(w:O)(xs:List Int)(m:Nat)(d:X)(wr:O):Prop:=
 ∃(i:Nat)(b:List Int),d=G N i/\i<=m/\b.length=m/\Kb 2 wr (w.heap.size+1+1) (Z (Y ⟨w.heap.size+1+1,0,M⟩) m m) b/\
  Kj xs b i/\xq b i/\oa w wr/\w.heap.size+1+1<wr.heap.size/\wr.heap[w.heap.size+1]?=Y (H #[Z M 0 0] 39 (0,0))
def Br(w:O)(va:X)(na:Int)(ha:Tc w va na)(aA:Lm Cc na):Calls Tryz.prog 227 #[va] w fun e w'=>∃r,e=.returned r/\jg w' w.heap.size r (na/2)/\oa w w':=by
 obtain⟨a,m,c,rfl⟩:=ha.form;obtain⟨xs,hl,hi,hc,hv⟩:=ha.open;have hm:=aA.len hc hv;rw[hl]at hm;unfold Cc at hm;have Hl:=ia hl;have Hv:=ia hv;clear hl hv;go_in;go_wp2_with(at_make;refine BL (n:=m) nk Tryz.underlying37 rfl _ _ rfl _ rfl rfl rfl oM ?_;intro w1 P W ap;obtain⟨aw,az⟩:=W.cells;simp only[wZ]at P ap);go_loopw [13] (uq w xs m) (fun aE _=>m-(intOf aE).toNat)
 case atStart =>
  refine⟨0,_,rfl,by omega,by simp,P,⟨fun _=>po _ _,fun h=>by omega⟩,?_,((eR w).alloc _).alloc _ |>.trans W,by omega,?_⟩
  ·intro j x s;have:=(List.mem_replicate.1 (lM s)).2;subst this;simp
  ·rw[W.block sM];exact Kc _ _ _ sM
 case round =>
  clear P W aw az ap;obtain⟨i,os,rfl,aQ,an,k,ac,aa,hx,aq,ah⟩:=hrel;have K:=ia an;have t:=ia ah;clear an ah;by_cases aR:i<m
  ·obtain⟨b,o,rfl,aI,W⟩:=(hi.ext hx).open (by rw[Hl.o];omega);obtain⟨x,ad⟩:∃x,xs[i]?=Y x:=⟨xs[i]'(by rw[Hl.o];omega),by simp[Hl.o]⟩;have ay:=W i x ad;obtain⟨z0,ae⟩:∃z,os[i]?=Y z:=⟨os[i]'(by rw[K.o];omega),by simp[K.o]⟩;have aD:=(aa _ _ ae).2.2.2 (nE _);subst aD;have aJ:=k.cell ae;have aM:=k.frozen i;have aj:=hc.1 x (lM ad);have aF:=GI x aj.1 aj.2;have hA:=Zp x;have al:=ia ad;have am:=ia ae;clear W ad ae aj;rcases i with _|j
   ·simp only[Nat.add_zero]at ay;go_wp2;go_roundw
    case rel =>
     have ab:=ac.step (u:=0) al.o am.o ⟨fun _=>rfl,fun h=>by omega⟩;rw[if_pos rfl]at ab;refine⟨1,os.set 0 (x/2),by go_num,by omega,by simp[K.o],k.stored 0 _,ab,?_,hx.set dO _,by simp only[sf];exact aq,?_⟩
     ·intro j y s;rw[List.getElem?_set]at s;split at s
      ·subst j;split at s
       ·cases s;omega
       ·cases s
      ·have:=aa j y s;omega
     ·rw[bS _ _ _ _ sM];exact t.o
    case measure=>simp[intOf];omega
   ·obtain⟨z1,af⟩:∃z,os[j]?=Y z:=⟨os[j]'(by rw[K.o];omega),by simp[K.o]⟩;have ak:=aa _ _ af;have aH:=ak.2.2.1 (nE _);have aG:=ak.1;have aK:=k.cell af;have aP:=k.frozen j;have au:=ia af;clear af ak;go_wp2;go_roundw
    case rel =>
     have ab:=ac.step (u:=z1+x%2*8388608) al.o am.o ⟨fun h=>by omega,fun _=>⟨z1,au.o,rfl⟩⟩;rw[if_neg oM,Nat.add_sub_cancel]at ab;refine⟨j+1+1,(os.set (j+1) (x/2)).set j (z1+x%2*8388608),by go_num,by omega,by simp[K.o],(k.stored _ _).stored _ _,ab,?_,(hx.set (by simp;omega) _).set (by simp;omega) _,by simp only[sf];exact aq,?_⟩
     ·intro q y s;rw[List.getElem?_set]at s;split at s
      ·subst q;split at s
       ·cases s;omega
       ·cases s
      ·rw[List.getElem?_set]at s;split at s
       ·subst q;split at s
        ·cases s;omega
        ·cases s
       ·have:=aa q y s;omega
     ·rw[bS _ _ _ _ sM,bS _ _ _ _ sM];exact t.o
    case measure=>simp[intOf];omega
  ·obtain rfl:i=m:=oM;have aB:=cell_of_one t.o;have aS:=free_of_one t.o;have ag:ke B os:=fun d hd=>by obtain⟨j,s⟩:=List.mem_iff_getElem?.1 hd;have:=aa j d s;exact⟨this.1,this.2.1⟩
   have ao:0<=dv B os:=(ik Yh ag).1;go_wp2_with(go_at_call 190;refine(Ju (w.heap.size+1+1) _ os _ k oM (by rw[K.o];omega) (fun x hx=>by have:=ag x hx;unfold B at this;omega) ao).mono ?_;rintro e w3 ⟨v',zs,rfl,aC,ar,R,ai,aL⟩;obtain⟨ax,aO⟩:=jm ai;obtain⟨a4,c4,rfl⟩:=R.form;have av:=ia ar;clear ar);refine bR (v:=Oa #[Z a4 zs.length c4]) (by simp[results,Tryz.results227,go_sem,ax,aB]) rfl ⟨_,rfl,⟨_,zs,rfl,Mj oM (R.setOther (p:=⟨w.heap.size+1,0,M⟩) (R.ne_block ((ai.block _ dO).trans t.o) dM) _),aC,?_⟩,(hx.E ai oM).set sM _⟩;rw[av.o];rcases i with _|j
   ·rw[ac.1 rfl,<-Hv.o,List.eq_nil_of_length_eq_zero Hl.o];rfl
   ·have:=ac.2 oM;rw[lT (by rw[Hl.o];omega),Hv.o]at this;omega
def mJ(b k:Int)(xs:List Int):dv b (xs.map (·*k))=k*dv b xs:=by
 induction xs with
 | nil=>simp
 | cons x xs d=>simp only[List.map_cons,Pm,d];grind
def xy(r:Nat)(h:r<24):(1:Int)<=2 ^ r/\(2:Int) ^ r<=8388608:=by
 have b:(2:Int) ^ r<=2 ^ 23:=by
  obtain⟨k,e⟩:=Nat.exists_eq_add_of_le (show r<=23 by omega);have:(2:Int) ^ 23=2 ^ r*2 ^ k:=by rw[<-Int.pow_add,<-e]
  have i:(0:Int)<2 ^ k:=Int.pow_pos dM;have d:(0:Int)<2 ^ r:=Int.pow_pos dM;have:(2:Int) ^ r*1<=2 ^ r*2 ^ k:=Int.mul_le_mul_of_nonneg_left oM oM;omega
 have d:(0:Int)<2 ^ r:=Int.pow_pos dM;exact⟨by omega,b⟩
def sD(q:Nat):B ^ q=2 ^ (24*q):=by rw[Int.pow_mul];rfl
def WL(w:O)(xs:List Int)(m k:Nat)(t5 t21:X)(wr:O):Prop:=
 ∃(i:Nat)(b:Option U)(d:Nat),t21=G N i/\i<=m/\t5=Z b (k/24+i) d/\Kb 2 wr (w.heap.size+1+1) t5 (List.replicate (k/24) 0++(xs.take i).map (·*2 ^ (k%24)))/\
  oa w wr/\w.heap.size+1+1<wr.heap.size/\wr.heap[w.heap.size+1]?=Y (H #[Z M 0 0] 39 (0,0))
def KA(w:O)(va:X)(na:Int)(k:Nat)(ha:Tc w va na)(aq:Lm Cc na)(hk:k<=10000000000):Calls Tryz.prog 229 #[va,G N k] w fun e w'=>∃r,e=.returned r/\jg w' w.heap.size r (2 ^ k*na)/\oa w w':=by
 obtain⟨a,m,c,rfl⟩:=ha.form;obtain⟨xs,hl,hi,hc,hv⟩:=ha.open;have hm:=aq.len hc hv;rw[hl]at hm;unfold Cc at hm;have Hl:=ia hl;have Hv:=ia hv;clear hl hv;go_in;go_wp2_with(at_make;refine xL (n:=k/24) (m:=k/24+m+1) nk Tryz.underlying37 rfl _ _ rfl _ _ rfl rfl sM sM oM oM ?_;intro w1 j q ag;obtain⟨an,ap⟩:=q.cells;simp only[wZ]at j ag);go_loopw [5,21] (WL w xs m k) (fun _ aw _=>m-(intOf aw).toNat)
 case atStart =>
  refine⟨0,_,_,rfl,by omega,rfl,by simpa using j,((eR w).alloc _).alloc _ |>.trans q,by omega,?_⟩;rw[q.block sM];exact Kc _ _ _ sM
 case round =>
  clear j q an ap ag;obtain⟨i,a2,c2,rfl,aB,rfl,t,hx,aG,aa⟩:=hrel;have s:=ia aa;clear aa;by_cases aC:i<m
  ·obtain⟨b,o,rfl,ax,q⟩:=(hi.ext hx).open (by rw[Hl.o];omega);obtain⟨x,W⟩:∃x,xs[i]?=Y x:=⟨xs[i]'(by rw[Hl.o];omega),by simp[Hl.o]⟩;have ay:=q i x W;have P:=hc.1 x (lM W);have al:=ia W;have ak:=ia P;have aD:(0:Int)<=(k:Int)%24:=oM;have aE:(k:Int)%24<24:=oM;clear q W P;go_wp2_with(at_builtin;refine lv nk Tryz.underlying37 rfl _ _ rfl rfl t rfl (by simp;omega) oM ?_;intro v' w2 d u R);go_roundw
   case rel =>
    obtain⟨a3,c3,rfl⟩:=d.form;have hp:=xy (k%24) (Nat.mod_lt _ dM);have P:=ak.o;unfold B at P;have h1:0<=x*2 ^ (k%24):=Int.mul_nonneg P.1 oM;have h2:x*2 ^ (k%24)<=16777216*8388608:=Int.mul_le_mul oM hp.2 oM oM;rw[IntWalk.wrap64_in _ ⟨by omega,by omega⟩]at d ⊢;have ar:(List.replicate (k/24) 0++List.map (fun x=>x*2 ^ (k%24)) (List.take i xs)++[x*2 ^ (k%24)]).length=k/24+(i+1):=by
     have:=Hl.o;simp;omega
    rw[ar]at d ⊢;refine⟨i+1,a3,c3,by go_num,by omega,rfl,?_,hx.E u oM,?_,R.get s.o dM⟩
    ·rw[Xf _ _ _ al.o,List.map_append,<-List.append_assoc];exact d
    ·have:=u.size;omega
   case measure=>simp[intOf];omega
  ·obtain rfl:i=m:=oM;have au:=cell_of_one s.o;have aF:=free_of_one s.o;rw[lT (by rw[Hl.o];omega)]at t;obtain⟨os,z⟩:∃os,os=List.replicate (k/24) 0++xs.map (·*2 ^ (k%24)):=⟨_,rfl⟩;have ae:os.length=k/24+i:=by rw[z];simp[Hl.o]
   rw[<-z]at t;have K:dv B os=2 ^ k*na:=by
    rw[z,kl,po,mJ,List.length_replicate,Hv.o,sD,Int.zero_add,<-Int.mul_assoc,<-Int.pow_add]
    congr 2;omega
   have ad:∀x∈os,-4611686018427387904<=x/\x<=4611686018427387904:=by
    intro x hx;rw[z]at hx;rcases List.mem_append.1 hx with h|h
    ·have:=(List.mem_replicate.1 h).2;omega
    ·obtain⟨y,hy,rfl⟩:=List.mem_map.1 h;have ah:=hc.1 y hy;unfold B at ah;have hp:=xy (k%24) (Nat.mod_lt _ dM);have h1:0<=y*2 ^ (k%24):=Int.mul_nonneg ah.1 oM;have h2:y*2 ^ (k%24)<=16777216*8388608:=Int.mul_le_mul oM hp.2 oM oM;omega
   have af:0<=dv B os:=by rw[K];exact Int.mul_nonneg (Int.le_of_lt (Int.pow_pos dM)) ha.nonneg
   have ac:=ia K;have aj:=ia ae;clear K ae z hi ha hc;go_wp2_with(go_at_call 190;with_reducible refine(Ju (w.heap.size+1+1) _ os _ t oM (by rw[aj.o];omega) ad af).mono ?_;rintro e w3 ⟨v',zs,rfl,av,ai,d,ab,az⟩;obtain⟨ao,aA⟩:=jm ab;obtain⟨a4,c4,rfl⟩:=d.form;have am:=ia ai;clear ai);refine bR (v:=Oa #[Z a4 zs.length c4]) (by simp[results,Tryz.results229,go_sem,ao,au]) rfl ⟨_,rfl,⟨_,zs,rfl,Mj oM (d.setOther (p:=⟨w.heap.size+1,0,M⟩) (d.ne_block ((ab.block _ dO).trans s.o) dM) _),av,?_⟩,(hx.E ab oM).set dO _⟩;rw[am.o,ac.o]
end
section
open Go.RowKit Go.Shelf
attribute [local go_sem] Oper.semAt_some
def Uh(B:Nat)(W W':O):Prop:=Below B W W'/\∀(k:Nat)(o:Obj),W.heap[k]?=Y o->o.isCells=true->W'.heap[k]?=Y o
def Uh.of_grown{B:Nat}{W W':O}{row:Option Nat}(d:W.grownBy W' row)(q:B<=W.heap.size)(j:∀r,row=Y r->B<=r/\∃o:Obj,W.heap[r]?=Y o/\o.isCells=false):Uh B W W':=by refine⟨(Below.refl B W).grown d q (fun k b=>(j k b).1),fun k o b i=>?_⟩;rw[d.block k (jc b) (fun e=>by obtain⟨_,s,m,p⟩:=j k e.symm;rw[m]at b;cases b;rw[p]at i;cases i)];exact b
def Uh.keep{B:Nat}{W W':O}(h:Uh B W W')(T:TypeId):Fa T W W':=fun b e i d=>h.2 b _ d rfl
def Uh.ext{B:Nat}{w W W':O}(h:Uh B W W')(k:oa w W)(b:w.heap.size<=B):oa w W':=k.E h.1 b
def Uh.heap{B:Nat}{W W':O}(h:Uh B W W'){b:Nat}{cs:Array X}{T:TypeId}{d:Nat×Nat}(e:W.heap[b]?=Y (H cs T d)):W'.heap[b]?=Y (H cs T d):=h.2 b _ e rfl
def Uh.size{B:Nat}{W W':O}(h:Uh B W W'):W.heap.size<=W'.heap.size:=h.1.size
def Zh{β:Type}{B:Nat}{I:β->O->Prop}(e:∀s W,I s W->B<=W.heap.size)(h:∀s W W',I s W->Uh B W W'->I s W'):OwnFrom B I:=
 fun s W W' _ hi b d=>h s W W' hi (Uh.of_grown b (e s W hi) d)
def gy(w:O)(sl:Option U)(n c:Nat):Calls Tryz.prog 215 #[Oa #[Z sl n c]] w fun e i=>e=.returned (.func (.func 271) #[] #[Ob (Y ⟨w.heap.size,0,M⟩)])/\w.alloc (H #[Z sl n c] 39)=i:=by have d:∀(b:Fn)(first cap:Array X)(w:O),(Instr.makeFunc b first cap).run Tryz.prog w = .ok (.func b first cap) w:=fun _ _ _ _=>rfl;go_in;go_wp2;go_ret;exact⟨rfl,rfl⟩
abbrev ui:={ x:Int // 0<=x/\x<16777216 }
def Kf(xs:List ui):List Int:=xs.map (·.1)
def pt:∀{xs:List Int},ke B xs->∃ds:List ui,Kf ds=xs
 | [],_=>⟨[],rfl⟩
 | x::xs,h=>by
  obtain⟨ds,b⟩:=pt (fun d b=>h d (mC _ b):ke B xs);exact⟨⟨x,h x (List.mem_cons_self)⟩::ds,congrArg (x::·) b⟩
def RF(xs:List ui):ke B (Kf xs):=by intro d b;obtain⟨x,_,rfl⟩:=List.mem_map.1 b;exact x.2
@[simp] theorem Ds(xs:List ui):(Kf xs).length=xs.length := by simp[Kf]
def Mc(w:O)(bx:Nat)(W W':O):Prop:=Below w.heap.size W W'/\W'.heap[bx]?=W.heap[bx]?
def Mc.refl(w:O)(b:Nat)(W:O):Mc w b W W:=⟨Below.refl _ _,rfl⟩
def Mc.trans{w:O}{b:Nat}{A B C:O}(h:Mc w b A B)(k:Mc w b B C):Mc w b A C:=⟨h.1.trans k.1,k.2.trans h.2⟩
def Mc.put{w:O}{b:Nat}{w0:O}(q:w.heap.size<=w0.heap.size)(m:b<w0.heap.size)(W:O)(l:Nat)(o i:Obj)(p:w0.heap.size<=l)(h:W.heap[l]?=Y o)(_:o.isCells=false)(_:o.isWalk=false):Mc w b W (W.putObj l i):=by have d:=grownBy_putObj' W l i;have j:=jc h;exact⟨(Below.refl _ W).grown d oM (fun k e=>by cases e;omega),d.block b oM (by intro e;cases e;omega)⟩
def Mc.set{w:O}{b:Nat}{A B:O}(h:Mc w b A B){p:U}(i:w.heap.size<=p.block)(d:p.block≠b)(u:X):Mc w b A (B.setCell p u):=
 ⟨h.1.setCell i u,(bS _ _ _ _ (fun e=>d e.symm)).trans h.2⟩
def Mc.ext{w:O}{b:Nat}{A B C:O}(h:Mc w b A B)(k:oa B C)(e:w.heap.size<=B.heap.size)(d:b<B.heap.size):Mc w b A C:=⟨h.1.trans (Below.mono k e),(k.block d).trans h.2⟩
def Mc.below{w:O}{b:Nat}{A B C:O}{n:Nat}(h:Mc w b A B)(k:Below n B C)(e:w.heap.size<=n)(d:b<n):Mc w b A C:=⟨h.1.trans (Below.mono k e),(k.block _ d).trans h.2⟩
def Mc.drewN{w:O}{b:Nat}{A B:O}(h:Mc w b A B)(n:Nat):Mc w b A (B.drewN n):=⟨below_drewN h.1 n,h.2⟩
def MG(F:Fence)(n:Nat)(hf:F.fn 271)(R:F.round=M)(hn:1<=n)(l d:Nat)(w w0:O)(sl:X)(xs:List ui)(J Jx:List ui->O->Prop)(hY:∀pre x W,J pre W->pre.length<xs.length->YieldAt F (n-1) Tryz.prog l #[G N x.1] W fun e W' =>
   (e=.returned (.bool true)/\J (pre++[x]) W'/\Mc w d W W')\/(e=.returned (.bool false)/\Jx (pre++[x]) W'))
  (i:w0.cell? ⟨d,0,M⟩=Y sl)(ac:d<w0.heap.size)(hi:Uc 2 w sl (Kf xs))(hw:oa w w0)(W:O)(hW:Mc w d w0 W)(h0:J [] W) :
  CallsIn F n Tryz.prog 271 #[.func (.yield l) #[] #[],Ob (Y ⟨d,0,M⟩)] W fun e W'=>(∃v,e=.returned v)/\
   ((∃ys,ys=xs.reverse/\J ys W')\/(∃pre,pre <+: xs.reverse/\Jx pre W')):=by
 obtain⟨a,c,rfl⟩:=hi.form;have u:=hi.le;obtain⟨m,y⟩:=gX xs.length;rw[Ds,y]at hi i u;rw[y]at hY;unfold maxLen at u;have q:=ia y;clear y;have aa:W.cell? ⟨d,0,M⟩=Y (Z a m c):=(World.cell?_of_block hW.2).trans i;refine callsIn_of_wp Tryz.func271 rfl hf ?_ R;simp only[Tryz.ntmps271,List.size_toArray,List.length_cons,List.length_nil,Nat.reduceAdd,Nat.reduceSub,Array.replicate_succ,Array.replicate_zero,List.push_toArray,List.append_toArray,List.nil_append,List.cons_append]
 gi_wp2
 gi_loopw [3] (fun t3 wr=>∃k:Nat,k<=m/\t3=G N ((k:Int)-1)/\J (xs.drop k).reverse wr/\Mc w d w0 wr)
  (fun t3 _=>(intOf t3+1).toNat)
 case atStart=>exact⟨m,nE _,rfl,by rw[List.drop_of_length_le (by rw[q.o];omega)];exact h0,hW⟩
 case round =>
  obtain⟨k,ae,rfl,hJ,hx⟩:=hrel;rcases k with _|k
  ·gi_wp2
   go_end0
   exact⟨⟨_,rfl⟩,.inl ⟨_,rfl,by simpa using hJ⟩⟩
  ·rw[show (((k+1:Nat):Int)-1)=(k:Int) by omega];obtain⟨b,o,rfl,hb,hc⟩:=(hi.ext (hw.E hx.1 (nE _))).open (by rw[Ds,q.o];omega);obtain⟨x,j⟩:∃x,xs[k]?=Y x:=⟨xs[k]'(by rw[q.o];omega),by simp[q.o]⟩;have ad:=hc k x.1 (by simp[Kf,j]);have ab:wr.cell? ⟨d,0,M⟩=Y (Z (Y ⟨b,o,M⟩) m c):=(World.cell?_of_block hx.2).trans i;clear hc;obtain⟨fn,tmps,assign,body,hy,hR⟩:=hY _ x wr hJ (by simp only[List.length_reverse,List.length_drop,q.o];omega);have z:=ia j;have t:(List.drop (k+1) xs).reverse++[x]=(xs.drop k).reverse:=by rw[Um z.o,List.reverse_cons]
   have p:=ia t;clear j t
   gi_wp2
   refine hR.mono ?_;rintro e W3 (⟨rfl,K,P⟩|⟨rfl,s⟩)
   ·gi_wp2
    go_roundw
    case rel=>exact⟨k,by omega,rfl,by rw[<-p.o];exact K,hx.trans P⟩
    case measure=>simp[intOf]
   ·gi_wp2
    refine bR (results_none rfl _ _ _) rfl ?_;refine⟨⟨_,rfl⟩,.inr ⟨_,?_,s⟩⟩;rw[p.o];refine⟨(xs.take k).reverse,?_⟩;rw[<-List.reverse_append,List.take_append_drop]
def qB(F:Fence)(n:Nat)(q:F.fn 271)(i:F.round=M)(s:1<=n)(b:Nat)(w w0:O)(sl:X)(xs:List ui)(e:w0.cell? ⟨b,0,M⟩=Y sl)(d:b<w0.heap.size)(hi:Uc 2 w sl (Kf xs))(j:oa w w0):SeqStopsK F n Tryz.prog 271 #[Ob (Y ⟨b,0,M⟩)] (fun x:ui=>#[G N x.1]) (Mc w b) (fun t=>t=xs.reverse) (fun pre=>pre <+: xs.reverse) xs.length w0:=
 fun l J k W o _ _ p m=>MG F n q i s l b w w0 sl xs J k p e d hi j W ((Mc.refl w b w0).ext o j.size d) m
def hv(pre:List ui):Int:=dv B (Kf pre).reverse
def Ft(pre:List ui)(x:ui):hv (pre++[x])=x.1+B*hv pre:=by simp[hv,Kf]
def nt(xs:List ui):hv xs.reverse=dv B (Kf xs):=by simp[hv,Kf]
def FI(pre:List ui):0<=hv pre/\hv pre<B ^ pre.length:=by have:=ik Yh (show ke B (Kf pre).reverse from fun d b=>RF pre d (List.mem_reverse.1 b));simpa[hv] using this
def Ip(n x:Int)(m:0<=n)(p:n<1099511627776)(o:0<=x)(q:x<16777216):bits BinOp.or IntKind.u64 (n*16777216) x=n*16777216+x:=by
 obtain⟨a,rfl⟩:=Int.eq_ofNat_of_zero_le m;obtain⟨b,rfl⟩:=Int.eq_ofNat_of_zero_le o;have j:((a*16777216:Nat):Int)=(a:Int)*16777216:=sM;have k:((a*16777216+b:Nat):Int)=(a:Int)*16777216+(b:Int):=sM;have d:a*16777216<18446744073709551616:=oM;have i:b<18446744073709551616:=oM;have e:a*16777216 ||| b=a*16777216+b:=by
  have:=Nat.shiftLeft_add_eq_or_of_lt (show b<2 ^ 24 by omega) a;rw[Nat.shiftLeft_eq]at this;exact this.symm
 have h:=bits_or_u64_nat (a*16777216) b d i;rw[e,j,k]at h;exact h
def LL(w:O)(pre:List ui)(W:O):Prop:=
 oa w W/\w.heap.size+1+1+1<=W.heap.size/\W.heap[w.heap.size+1]?=Y (H #[G .u64 (hv pre)] 220 (0,0))
def Kr(w:O)(va:X)(na:Int)(ha:Tc w va na)(y:Lm 2 na):Calls Tryz.prog 175 #[va] w fun e w'=>e=.returned (G .u64 na)/\oa w w':=by
 obtain⟨a,m,c,rfl⟩:=ha.form;obtain⟨xs,hl,hi,hc,hv⟩:=ha.open;have hm:=y.len hc hv;obtain⟨ds,rfl⟩:=pt hc.1;have Hl:=ia hl;have Hv:=ia hv;clear hl hv;refine(callsIn_wide (n:=5)).1 ?_;refine callsIn_of_wp_marks Tryz.func175 rfl trivial ?_ rfl;simp only[Tryz.ntmps175,List.size_toArray,List.length_cons,List.length_nil,Nat.reduceAdd,Nat.reduceSub,Array.replicate_succ,Array.replicate_zero,List.push_toArray,List.append_toArray,List.nil_append,List.cons_append]
 gi_wp2_with(refine⟨trivial,?_⟩;gi_at_call 215;refine(callsIn_wide.2 (gy _ _ _ _)).mono ?_;rintro e w' ⟨rfl,rfl⟩)
 have u:(((w.alloc (H #[Z a m c] 39)).alloc (H #[G .u64 0] 220)).alloc (H #[Z a m c] 39)).cell? ⟨w.heap.size+1+1,0,M⟩=Y (Z a m c):=by
  rw[World.cell?_alloc_at _ _ _ _ sM];rfl
 refine wpIn_rangeFunc_ownG rfl dM (gf:=271) (lb:=#[Ob (Y ⟨w.heap.size+1+1,0,M⟩)]) rfl trivial (enters_of Tryz.func271 kM rfl)
  (qB _ _ trivial rfl dM (w.heap.size+1+1) w _ _ ds u sM hi ((((eR w).alloc _).alloc _).alloc _)) Mc.trans (Mc.put (by simp;omega) sM) (Below.refl _ _) (fun _=>rfl)
  (LL w) (fun _ _ _=>False) (Zh (fun s W h=>by have:=h.2.1;simp;omega) (fun s W W' h k=>?hsim)) (fun _=>Zh (fun _ _ h=>h.elim) (fun _ _ _ h _=>h)) ?h0
  (fun x=>{ tmps:=#[Oa #[Z a m c],Ob (Y ⟨w.heap.size,0,M⟩),G .u64 0,Ob (Y ⟨w.heap.size+1,0,M⟩),G N x.1,Oa #[Z a m c],.func (.func 271) #[] #[Ob (Y ⟨w.heap.size+1+1,0,M⟩)],G N x.1,undef,undef,undef,undef,undef,undef],defers:=[] }) ?assign ?body ?done ?stop
 case hsim =>
  obtain⟨i,q,d⟩:=h;exact⟨k.ext i (by simp;omega),by have:=k.size;omega,k.heap d⟩
 case h0=>exact⟨(((eR w).alloc _).alloc _).alloc _,by simp,by rw[Below.heap_alloc _ _ _ sM];exact Kc _ _ _ sM⟩
 case assign =>
  intro l x W K j
  gi_wp2
  exact j
 case body =>
  rintro l pre x W ⟨i,q,d⟩ ab;have o:=FI pre;have R:=x.2.1;have aa:=x.2.2;have P:hv pre<16777216:=by
   have:=qo (b:=B) dM (show pre.length<=1 by have d:=Hl.o;have h6:=Ds ds;omega);unfold B at *;omega
  have h1:=cell_of_one d;have h2:=free_of_one d;have H5:=ia d;clear d;obtain⟨n,z⟩:=gX (hv pre);rw[z]at h1 o P;have ad:=Ip n x.1 o.1 oM R aa;have Hn:=ia z;have ac:=o.1;clear z o
  gi_wp2
  refine⟨(KeepsOthers.setCell _ _ _).from _,(Mc.refl _ _ W).set (p:=⟨w.heap.size+1,0,M⟩) dO sM _,i.set dO _,by simp only[sf];exact q,?_⟩;rw[one_setCell H5.o,Ft,Hn.o,show x.1+B*n=n*16777216+x.1 by unfold B;omega]
 case done =>
  rintro D ys W hD rfl ⟨i,q,d⟩ j;rw[nt,Hv.o]at d;have h1:=cell_of_one d;have t:w.heap.size<=D:=by simp at hD;omega
  have H5:=ia d;clear d
  gi_wp2
  refine⟨by simp,.inl ⟨_,_,rfl,run_takeDeferred j,?_⟩⟩;refine⟨_,results_tmp rfl _ _ _,rfl,?_⟩;exact i.E ((Below.refl D W).grown (grownBy_putObj' W D _) (by have:=jc j;omega) (fun k e=>by cases e;omega)) t
 case stop =>
  rintro D c pre W _ _ h _;exact h.elim
end
section
open Go.RowKit Go.Shelf
def Pj(b:BinOp)(p q:Nat)(w:O):Nat:=
 match floatBits b .f64 p q with
 | some r=>r
 | none=>(Question.nanBits .f64 p q).cut (w.tape w.drawn (Question.nanBits .f64 p q))
def Rj(b:BinOp)(p q:Nat):Nat:=
 match floatBits b .f64 p q with
 | some _=>0
 | none=>1
def Xs(P:Program)(b:BinOp)(d:b = .add\/b = .mul\/b = .quo)(t:TypeId)(p q:Nat)(w:O):(binOp b t (.float .f64 p) (.float .f64 q)).run P w = .ok (.float .f64 (Pj b p q w)) (w.drewN (Rj b p q)):=by
 cases h:floatBits b .f64 p q with
 | some r=>rw[run_float_arith w b t .f64 p q r h];simp[Pj,Rj,h,World.drewN]
 |none=>
  rcases d with rfl|rfl|rfl
  all_goals
   have e:=h;simp only[floatBits]at h;simp[binOp,Op.floatArith,h,Pj,Rj,e,choose,Sem.run,Question.forced,World.drewN]
def PJ(P:Program)(t:TypeId)(p q:Nat)(w:O):(binOp .add t (.float .f64 p) (.float .f64 q)).run P w = .ok (.float .f64 (Pj .add p q w)) (w.drewN (Rj .add p q)):=Xs P _ sM t p q w
def OJ(P:Program)(t:TypeId)(p q:Nat)(w:O):(binOp .mul t (.float .f64 p) (.float .f64 q)).run P w = .ok (.float .f64 (Pj .mul p q w)) (w.drewN (Rj .mul p q)):=Xs P _ sM t p q w
def NJ(P:Program)(t:TypeId)(p q:Nat)(w:O):(binOp .quo t (.float .f64 p) (.float .f64 q)).run P w = .ok (.float .f64 (Pj .quo p q w)) (w.drewN (Rj .quo p q)):=Xs P _ sM t p q w
def Fi(b:Nat)(w:O):Int:=
 match floatToIntVal .f64 b N with
 | some n=>n
 | none=>IntKind.i64.wrap ((Question.floatToInt .f64 b N).cut (w.tape w.drawn (Question.floatToInt .f64 b N)))
def Nk(b:Nat):Nat:=
 match floatToIntVal .f64 b N with
 | some _=>0
 | none=>1
def nJ(b:Nat)(w:O):-9223372036854775808<=Fi b w/\Fi b w<=9223372036854775807:=by
 unfold Fi;split
 ·rename_i n h;have:=floatToIntVal_wf h;simp[Lit.wf,IntKind.min,IntKind.max,IntKind.signed,IntKind.bits]at this;omega
 ·rw[IntKind.wrap_i64];omega
def FD(P:Program)(e d:TypeId)(o:(P.underlying e).isSome=true)(j:P.underlying d=Y (.int N))(b:Nat)(w:O):(convert e d (.float .f64 b)).run P w = .ok (G N (Fi b w)) (w.drewN (Nk b)):=by
 cases h:floatToIntVal .f64 b N with
 | some n=>rw[run_convert_float_int w e d .f64 N b n o j h];simp[Fi,Nk,h,World.drewN]
 |none=>
  obtain⟨u,i⟩:=Option.isSome_iff_exists.1 o;have k:=h;unfold floatToIntVal at h;split at h
  ·rename_i m he;split at h
   ·cases h
   ·rename_i hb;cases u<;>simp[convert,run_underlying i,run_underlying j,Conv.floatToInt,he,hb,Fi,Nk,k,choose,Sem.run,Question.forced,World.drewN]<;>(intro p q;exact absurd (And.intro p q) hb)
  ·rename_i he;cases u<;>simp[convert,run_underlying i,run_underlying j,Conv.floatToInt,he,Fi,Nk,k,choose,Sem.run,Question.forced,World.drewN]
def Bm(e:Ending):Prop:=∃b,e=.returned (.float .f64 b)
def iq(e:Ending):Prop:=∃k:Int,e=.returned (G N k)/\ -9223372036854775808<=k/\k<=9223372036854775807
def WK(w:O)(k:Nat)(i:Int)(a:Option U)(n c:Nat)(xs:List Int)(s:w.cell? ⟨k,0,M⟩=Y (Z a n c))(hi:Uc 2 w (Z a n c) xs):Calls Tryz.prog 297 #[G N i,Ob (Y ⟨k,0,M⟩)] w fun e u=>Bm e/\w=u:=by
 have d:=hi.len;by_cases p:0<=i
 ·by_cases y:i<n
  ·obtain⟨j,rfl⟩:=Int.eq_ofNat_of_zero_le p;obtain⟨b,o,rfl,q,m⟩:=hi.open oM;have t:=m j xs[j] (gE oM);generalize xs[j]=x at t;clear m q d;go_in;go_wp2;go_ret;exact⟨⟨_,rfl⟩,rfl⟩
  ·clear d;go_in;go_wp2;go_ret;exact⟨⟨_,rfl⟩,rfl⟩
 ·clear d;go_in;go_wp2;go_ret;exact⟨⟨_,rfl⟩,rfl⟩
attribute [local go_sem] PJ OJ NJ
def KB(w:O)(o:X)(x:Int)(i:Tc w o x)(p:Int)(y:-1000000000000<=p/\p<=1000000000000):Calls Tryz.prog 273 #[o,G N p] w fun e q=>Bm e/\oa w q:=by
 obtain⟨a,m,c,rfl⟩:=i.form;obtain⟨xs,t,hi,s,hv⟩:=i.open;clear t hv s i;have u:∀(k:Fn)(first cap:Array X)(w:O),(Instr.makeFunc k first cap).run Tryz.prog w = .ok (.func k first cap) w:=fun _ _ _ _=>rfl;have j:Uc 2 (w.alloc (H #[Z a m c] 39)) (Z a m c) xs:=hi.ext ((eR w).alloc _);have d:(w.alloc (H #[Z a m c] 39)).cell? ⟨w.heap.size,0,M⟩=Y (Z a m c):=by rw[World.cell?_alloc_at _ _ _ _ rfl];rfl
 go_in;go_wp2_with(go_at_call 297;refine(WK _ w.heap.size _ a m c xs (by first|exact d|exact d) (by exact j)).mono ?_;rintro e q ⟨⟨b,rfl⟩,rfl⟩);go_ret;exact⟨⟨_,rfl⟩,by repeat(first|exact(eR w).alloc _|refine oa.drewN ?_ _)⟩
def Il(w:O)(b:Nat):(convert 335 2 (.float .f64 b)).run Tryz.prog w = .ok (G N (Fi b w)) (w.drewN (Nk b)):=FD Tryz.prog _ _ kM Tryz.underlying2 b w
attribute [local go_sem] Il
def ZH(w:O)(x y:X)(u nb:Int)(q:Tc w x u)(i:Tc w y nb)(o:Lm Cc nb):Calls Tryz.prog 230 #[x,y] w fun e W=>iq e/\oa w W:=by
 obtain⟨a,m,c,rfl⟩:=q.form;obtain⟨z,p,P,rfl⟩:=i.form;obtain⟨xs,t,hi,s,hv⟩:=i.open;have d:=o.len s hv;rw[t]at d;unfold Cc at d;clear t hi s hv;have R:IntKind.i64.wrap ((p:Int)+1)=(p:Int)+1:=iW _ oM;go_in;go_wp2
 go_region_with (first|(go_at_call 273;(with_reducible refine(KB _ (Oa #[Z a m c]) u ?_ _ ?_).mono ?_);(refine q.ext ?_;exact eA);omega;rintro e w1 ⟨⟨K,rfl⟩,b⟩;obtain⟨j,k⟩:=b.cells)|(go_at_call 273;(with_reducible refine(KB _ (Oa #[Z z p P]) nb ?_ _ ?_).mono ?_);(refine i.ext ?_;exact eA);omega;rintro e w1 ⟨⟨K,rfl⟩,b⟩;obtain⟨j,k⟩:=b.cells))
 all_goals go_wp2
 all_goals go_ret
 all_goals exact⟨⟨_,rfl,nJ _ _⟩,eA⟩
