import Derived.Test.YtgimcmpeceifnaaGreatDoorProg
import Derived.WalkKit
import Derived.Lib.Hide
import Derived.Deep.QuietTactic
import Derived.BigQuiet
import Derived.Deep.RegionHeld3
import Derived.WalkSpells
import Derived.WalkLawsBesides
import Derived.Maps.AppendAt
import Derived.Laws.CopyOwn
import Derived.Laws.AppendOwnNone
import Derived.OwnWalkIn
import Derived.Test.YtgimcmpeceifnaaGreatDoorComA00
import Derived.RangeFuncNested
import Derived.RangeFuncBound
import Derived.RangeFuncCalls
import Derived.RangeFuncLeaves
import Derived.Shelf.Abstract
import Derived.Shelf.RegionOpen
import Derived.TacticsInMore
import Derived.LoopNIn
import Derived.LoopIn
import Derived.Deep.RegionWith
import Derived.Laws.FloatArith
set_option maxRecDepth 1000000
set_option maxHeartbeats 16000000
set_option linter.all false
open Go renaming World->O,Value->X,Addr->U
open Option renaming some->Y,none->M
open Go.Value renaming slice->Z,int->G,agg->Oa,pointer->Ob
open Go.IntKind renaming i64->N
open Go.Obj renaming cells->H
namespace Go.Proofs.YtgimcmpeceifnaaGreatDoor.Cop
section
open Go.RowKit
def kM{p:Prop}(h:p:=by kernel_rfl):p:=h
def uN{w:O}{b o}(h:w.heap[b]?=Y o):b<w.heap.size:=(Array.getElem?_eq_some_iff.1 h).1
def Ba(w w':O):Prop:=Below w.heap.size w w'
def Ba.refl w:Ba w w:=Below.refl _ w
def Ba.trans{a b c}(h:Ba a b)(k:Ba b c):Ba a c:=Below.trans h (Below.mono k h.size)
def Ba.alloc{a b}(h:Ba a b) o:Ba a (b.alloc o):=Below.alloc h h.size o
def Ba.drewN{a b}(h:Ba a b) n:Ba a (b.drewN n):=below_drewN h n
def Ba.drew{a b}(h:Ba a b):Ba a b.drew:=Below.drew h
def Ba.set{a b}(h:Ba a b){p}(d:a.heap.size<=p.block) u:Ba a (b.setCell p u):=Below.setCell h d u
def Ua(p:Prop):Prop:=p
def Ua.o{p}(h:Ua p):p:=h
def za{p}(h:p):Ua p:=h
def wZ(w:O) o:(w.alloc o).heap.size=w.heap.size+1:=World.size_alloc w o
def lM{α}{l:List α}{i:Nat}{a}(h:l[i]?=Y a):a∈l:=List.mem_of_getElem? h
def lS{α}{l:List α}{i a}:l[i]?=Y a ↔ ∃h:i<l.length,l[i]=a:=List.getElem?_eq_some_iff
def lP{α β}{f:α->β}{l:List α}{i:Nat}:(l.map f)[i]?=l[i]?.map f:=List.getElem?_map ..
def lL{α β}{f:α->β}{l:List α}:(l.map f).length=l.length:=List.length_map ..
def lT{α}{l:List α}{n}(h:l.length<=n):l.take n=l:=List.take_of_length_le h
def eR w:Ba w w:=Ba.refl w
def gX{α}(a:α):∃x,a=x:=⟨a,rfl⟩
def nE(n:Nat):n<=n:=Nat.le_refl n
def nT{n m k:Nat}(h:n<=m)(b:m<=k):n<=k:=Nat.le_trans h b
def gE{α}{l:List α}{i}(h:i<l.length):l[i]?=Y l[i]:=List.getElem?_eq_getElem h
def gD{α}{l:List α}{i a}:l.getD i a=l[i]?.getD a:=List.getD_eq_getElem?_getD
def aN(w:O) o:(w.alloc o).heap[w.heap.size]?=Y o:=heap_alloc_new w o
def bS(w:O) a u k(h:k≠a.block):(w.setCell a u).heap[k]?=w.heap[k]?:=Below.heap_setCell w a u k h
def iW n(h:-9223372036854775808<=n/\n<=9223372036854775807):IntKind.i64.wrap n=n:=IntWalk.i64_in n h
def mC{α} y{a}{l:List α}(h:a∈l):a∈y::l:=List.mem_cons_of_mem y h
def lA{α}{xs b:List α}:(xs++b).length=xs.length+b.length:=List.length_append
def cM{P f args w R b}(h:Calls P f args w R)(d:∀e w',R e w'->b e w'):Calls P f args w b:=Calls.mono h d
def bR{P b R a w v}(f:(results b a.tmps).run P w = .ok v w)(e:a.defers=[])(d:R (.returned v) w):bodyPost P b R .ret a w:=bodyPost_ret f e d
class StQ (c:O) (b:outParam O):Prop where
 up:∀a:O,Ba a b->Ba a c
instance tW (b:O) (o:Obj):StQ (b.alloc o) b:=⟨fun _ h=>h.alloc o⟩
instance sW (b:O):StQ b.drew b:=⟨fun _ h=>h.drew⟩
instance rW (b:O) (n:Nat):StQ (b.drewN n) b:=⟨fun _ h=>h.drewN n⟩
def eX{a b c}[s:StQ c b](h:Ba a b):Ba a c:=s.up a h
def eT{a b c}(h:Ba a b)(k:Ba b c:=by with_reducible assumption):Ba a c:=h.trans k
def eS{a b p u}(h:Ba a b)(d:a.heap.size<=p.block:=by(dsimp only;omega)):Ba a (b.setCell p u):=h.set d u
def eA{w b}(h:Ba w b:=by with_reducible repeat(first|assumption|exact eR _|refine eX ?_|refine eT ?_|refine eS ?_)):Ba w b:=h
def gA{α}{l:List α}{i:Nat}:l.toArray[i]?=l[i]?:=List.getElem?_toArray
def gS{α a}{l:List α}{i}:(a::l)[i+1]?=l[i]?:=List.getElem?_cons_succ
def gZ{α a}{l:List α}:(a::l)[0]?=Y a:=List.getElem?_cons_zero
def sA{α}{l:List α}{i a}:l.toArray.setIfInBounds i a=(l.set i a).toArray:=List.setIfInBounds_toArray ..
def sZ{α l}{a b:α}:(a::l).set 0 b=b::l:=List.set_cons_zero
def sS{α l n}{a b:α}:(a::l).set (n+1) b=a::l.set n b:=List.set_cons_succ
def Ba.D{a b c n}(h:Ba a b)(k:Below n b c)(d:a.heap.size<=n):Ba a c:=Below.trans h (Below.mono k d)
def Ba.size{a b}(h:Ba a b):a.heap.size<=b.heap.size:=Below.size h
def Ba.block{a b}(h:Ba a b){k}(d:k<a.heap.size):b.heap[k]?=a.heap[k]?:=Below.block h k d
def mc(w:O) o k(h:k=w.heap.size):(w.alloc o).heap[k]?=Y o:=by subst h;exact heap_alloc_new w o
def Ba.d{a b}(h:Ba a b){p v}(d:a.cell? p=Y v):b.cell? p=Y v:=by rw[Below.cell h (World.block_lt_of_cell? a p d)];exact d
def Ba.e{a b}(h:Ba a b){k:Nat}{o}(d:a.heap[k]?=Y o):b.heap[k]?=Y o:=by rw[h.block (uN d)];exact d
def Ba.below{a b n}(h:Ba a b)(d:n<=a.heap.size):Below n a b:=Below.mono h d
def Ba.cells{W d}(e:Ba W d):(∀b o,b<W.heap.size->d.cell? ⟨b,o,M⟩=W.cell? ⟨b,o,M⟩)/\(∀b o,b<W.heap.size->d.frozen? ⟨b,o,M⟩=W.frozen? ⟨b,o,M⟩):=
 ⟨fun b o h=>Below.cell e (p:=⟨b,o,M⟩) h,fun b o h=>Below.frozen e (p:=⟨b,o,M⟩) h⟩
def Ya{w:O}{b o}(h:w.heap[b]?=Y o):b<w.heap.size:=(Array.getElem?_eq_some_iff.1 h).1
def Ja(T:TypeId)(w w':O):Prop:=∀(b:Nat)(d:Array X)(e:Nat×Nat),w.heap[b]?=Y (Obj.cells d T e)->w'.heap[b]?=Y (Obj.cells d T e)
def Ja.refl T w:Ja T w w:=fun _ _ _ h=>h
def Ja.trans{T a b c}(h:Ja T a b)(k:Ja T b c):Ja T a c:=fun x d e f=>k x d e (h x d e f)
def Ja.ext{T a b c}(h:Ja T a b)(k:Ba b c):Ja T a c:=
 fun x d e f=>by have:=h x d e f;rw[k.block (Ya this)];exact this
def Ba.keep{T a b}(h:Ba a b):Ja T a b:=(Ja.refl T a).ext h
def Ja.alloc{T a b}(h:Ja T a b) o:Ja T a (b.alloc o):=h.ext ((Ba.refl b).alloc o)
def Ja.set{T T' a b}(h:Ja T a b){p d f}(j:b.heap[p.block]?=Y (H d T' f))(o:T'≠T) u:Ja T a (b.setCell p u):=
 fun x k m q=>by
  have i:=h x k m q;rw[Below.heap_setCell _ _ _ _ (by intro e;subst e;rw[i]at j;cases j;exact o rfl)];exact i
def Rd(w:O)(T:TypeId)(k:Nat)(v:X)(n:Nat)(xs:List X):Prop:=
 xs.length=n*k/\∃a c,v=Z a n c/\n<=c/\c<=maxLen/\
  ((n=0/\(a=M->c=0))\/∃b o cs fr,a=Y ⟨b,o,M⟩/\w.heap[b]?=Y (H cs T fr)/\∀(i:Nat)(x:X),xs[i]?=Y x->cs[o+i]?=Y x)
def Rd.keep{w w' T k v n xs}(h:Rd w T k v n xs)(p:Ja T w w'):Rd w' T k v n xs:=by
 obtain⟨q,a,c,rfl,i,j,d⟩:=h;refine⟨q,a,c,rfl,i,j,?_⟩;rcases d with d|⟨b,o,e,f,rfl,m,s⟩
 ·exact .inl d
 ·exact .inr ⟨b,o,e,f,rfl,p _ _ _ m,s⟩
def Rd.ext{w w' T k v n xs}(h:Rd w T k v n xs)(b:Ba w w'):Rd w' T k v n xs:=h.keep b.keep
def Rd.form{w T k v n xs}(h:Rd w T k v n xs):∃a c,v=Z a n c:=by obtain⟨_,a,c,rfl,_⟩:=h;exact⟨a,c,rfl⟩
def Rd.eqn{w T k a m c n xs}(h:Rd w T k (Z a m c) n xs):m=n:=by obtain⟨_,a,c,e,_⟩:=h;cases e;rfl
def Rd.le{w T k a m c n xs}(h:Rd w T k (Z a m c) n xs):n<=c/\c<=maxLen:=by obtain⟨_,a,c,e,b,d,_⟩:=h;cases e;exact⟨b,d⟩
def Rd.open{w T k a m c n xs}(h:Rd w T k (Z a m c) n xs)(p:0<n):∃b o,a=Y ⟨b,o,M⟩/\b<w.heap.size/\(∃cs fr,w.heap[b]?=Y (H cs T fr))/\∀(i:Nat)(x:X),xs[i]?=Y x->w.cell? ⟨b,o+i,M⟩=Y x:=by
 obtain⟨_,a,c,e,_,_,f⟩:=h;cases e;rcases f with f|⟨b,o,cs,fr,rfl,d,j⟩
 ·omega
 ·exact⟨b,o,rfl,Ya d,⟨cs,fr,d⟩,fun i x h=>by simp[World.cell?,d,j i x h]⟩
def Rd.nil w T k:Rd w T k (Z M 0 0) 0 []:=⟨by simp,M,0,rfl,by omega,by unfold maxLen;omega,.inl ⟨rfl,fun _=>rfl⟩⟩
def Rd.of_own{w base T k v n xs}(h:w.ownsRow base T k v n xs):Rd w T k v n xs:=by
 obtain⟨j,d⟩:=h;refine⟨j,?_⟩;rcases d with ⟨rfl,rfl⟩|⟨g,cap,cur,rfl,p,f,m,e,q,o⟩
 ·exact⟨M,0,rfl,by omega,by unfold maxLen;omega,.inl ⟨rfl,fun _=>rfl⟩⟩
 ·refine⟨_,_,rfl,m,e,.inr ⟨g,0,cur,_,rfl,f,fun i x b=>?_⟩⟩;rw[<-o]at b;rw[Nat.zero_add,<-Array.getElem?_toList];rw[List.getElem?_take]at b;split at b
  ·exact b
  ·cases b
def Ms{w:O}{base e size v n xs}(h:w.ownsRow base e size v n xs):∃a c,v=Z a n c:=by
 rcases h.2 with ⟨rfl,rfl⟩|⟨g,cap,cur,rfl,_⟩
 ·exact⟨_,_,rfl⟩
 ·exact⟨_,_,rfl⟩
def qD{w:O}{base e size a c n xs}(h:w.ownsRow base e size (Z a n c) n xs)(f:0<n):∃g,a=Y ⟨g,0,M⟩/\base<=g:=by
 rcases h.2 with ⟨d,rfl⟩|⟨g,cap,cur,hv,b,_⟩
 ·omega
 ·cases hv;exact⟨g,rfl,b⟩
def nc(k:IntKind)(xs:List Int):List X:=xs.map (Value.int k)
@[simp] theorem qw k xs:(nc k xs).length=xs.length := by simp[nc]
def fN k xs i x:(nc k xs).set i (G k x)=nc k (xs.set i x):=by simp[nc,List.map_set]
def Et k xs b:nc k xs++nc k b=nc k (xs++b):=by simp[nc]
def jN k{xs}{i:Nat}{x}(h:xs[i]?=Y x):(nc k xs)[i]?=Y (G k x):=by simp[nc,h]
def xD k x:nc k [x]=[G k x]:=rfl
def Cb(T:TypeId)(w:O)(base:Nat)(v:X)(xs:List Int):Prop:=w.ownsRow base T 1 v xs.length (nc N xs)
def Mc(T:TypeId)(w:O)(v:X)(xs:List Int):Prop:=Rd w T 1 v xs.length (nc N xs)
section
variable {T:TypeId} {w:O} {base:Nat} {v:X} {xs:List Int} {a:Option U} {n c g:Nat}
def Cb.ints(h:Cb T w base v xs):Mc T w v xs:=Rd.of_own h
def Cb.form(h:Cb T w base v xs):∃a c,v=Z a xs.length c:=Ms h
def Cb.len(h:Cb T w base (Z a n c) xs):n=xs.length:=by obtain⟨a,d,b⟩:=Ms h;cases b;rfl
def Cb.stored(h:Cb T w base (Z (Y ⟨g,0,M⟩) n c) xs) i x:Cb T (w.setCell ⟨g,i,M⟩ (G N x)) base (Z (Y ⟨g,0,M⟩) n c) (xs.set i x):=by have b:=h.len;subst b;have:=(World.ownsRow.stored h i (G N x)).1;rw[fN]at this;simpa[Cb] using this
def Cb.cell(h:Cb T w base (Z (Y ⟨g,0,M⟩) n c) xs){i x}(b:xs[i]?=Y x):w.cell? ⟨g,i,M⟩=Y (G N x):=by have d:=h.len;subst d;have e:i<xs.length:=(lS.1 b).1;rw[World.ownsRow.cellAt h i oM];simp[nc,b]
def Cb.frozen(h:Cb T w base (Z (Y ⟨g,0,M⟩) n c) xs) i:w.frozen? ⟨g,i,M⟩=false:=by have b:=h.len;subst b;exact World.ownsRow.frozenAt h i
def Cb.blk(h:Cb T w base (Z a n c) xs)(e:0<xs.length):∃g,a=Y ⟨g,0,M⟩/\base<=g/\g<w.heap.size:=by have b:=h.len;subst b;obtain⟨g,rfl,d⟩:=qD h e;exact⟨g,rfl,d,(World.ownsRow.lt h g rfl).2⟩
def Cb.pop{x}(h:Cb T w base (Z (.some ⟨g,0,M⟩) (n+1) c) (xs++[x])):Cb T w base (Z (.some ⟨g,0,M⟩) n c) xs:=by have b:=h.len;simp at b;subst b;refine ownsRow_pop (last:=nc N [x]) sM ?_;rw[Et];simpa[Cb] using h
def Cb.setOther(h:Cb T w base v xs){p}(d:v.ownBlock ≠ .some p.block) u:Cb T (w.setCell p u) base v xs:=
 World.ownsRow.kept h (row:=.some p.block) ⟨rfl,rfl,rfl,by simp[World.setCell],fun k _ b=>Below.heap_setCell _ _ _ _ (by intro e;exact b (by rw[e]))⟩ (.inr d)
def Cb.alloc(h:Cb T w base v xs) o:Cb T (w.alloc o) base v xs:=World.ownsRow.alloc h o
def Cb.keep{w'}(h:Cb T w base v xs)(f:Ja T w w'):Cb T w' base v xs:=by
 obtain⟨i,b⟩:=h;refine⟨i,?_⟩;rcases b with b|⟨g,cap,cur,hv,d,e,r⟩
 ·exact .inl b
 ·exact .inr ⟨g,cap,cur,hv,d,f _ _ _ e,r⟩
def Cb.nil T w base:Cb T w base (Z M 0 0) []:=World.ownsRow_nil w base T 1
def Cb.mono{b'}(h:Cb T w base v xs)(e:b'<=base):Cb T w b' v xs:=by
 obtain⟨d,b⟩:=h;refine⟨d,?_⟩;rcases b with b|⟨g,cap,cur,hv,f,r⟩
 ·exact .inl b
 ·exact .inr ⟨g,cap,cur,hv,by omega,r⟩
def Mc.ext{w'}(h:Mc T w v xs)(b:Ba w w'):Mc T w' v xs:=Rd.ext h b
def Mc.keep{w'}(h:Mc T w v xs)(b:Ja T w w'):Mc T w' v xs:=Rd.keep h b
def Mc.form(h:Mc T w v xs):∃a c,v=Z a xs.length c:=Rd.form h
def Mc.len(h:Mc T w (Z a n c) xs):n=xs.length:=Rd.eqn h
def Mc.le(h:Mc T w (Z a n c) xs):xs.length<=c/\c<=maxLen:=Rd.le h
def Mc.open(h:Mc T w (Z a n c) xs)(e:0<xs.length):∃b o,a = .some ⟨b,o,M⟩/\b<w.heap.size/\∀(i:Nat)(x:Int),xs[i]? = .some x->w.cell? ⟨b,o+i,M⟩ = .some (G N x):=by obtain⟨b,o,rfl,d,_,f⟩:=Rd.open h e;exact⟨b,o,rfl,d,fun i x h=>f i _ (jN _ h)⟩
def Mc.nil T w:Mc T w (Z M 0 0) []:=Rd.nil w T 1
end
def ze{α:Type}(xs:List α) i x(h:xs[i]?=Y x):xs.take (i+1)=xs.take i++[x]:=by rw[List.take_add_one,h];rfl
def IT{α:Type}(b xs:List α) x y(h:xs[b.length]?=Y x):(b++xs.drop b.length).set b.length y=(b++[y])++xs.drop (b.length+1):=by have d:=(lS.1 h).1;rw[List.set_append_right _ _ (Nat.le_refl _),Nat.sub_self,List.drop_eq_getElem_cons d,List.set_cons_zero];simp
def ET{α:Type}(b xs:List α) x(h:xs[b.length]?=Y x):(b++xs.drop b.length)[b.length]?=Y x:=by rw[List.getElem?_append_right (Nat.le_refl _),Nat.sub_self,List.getElem?_drop];simpa using h
def Pn b(xs:List Int) i x(h:xs[i]?=Y x):dv b (xs.take (i+1))=dv b (xs.take i)+b ^ i*x:=by have d:=(lS.1 h).1;rw[ze _ _ _ h,Nn,List.length_take,Nat.min_eq_left oM]
def vd(T:TypeId)(w w':O):Prop:=∀(k:Nat)(o:Obj),w.heap[k]?=Y o->(∀cs fr,o ≠ H cs T fr)->w'.heap[k]?=Y o
def vd.get{T T' w w'}(h:vd T w w'){k:Nat}{cs b}(f:w.heap[k]?=Y (H cs T' b))(d:T'≠T):w'.heap[k]?=Y (H cs T' b):=
 h k _ f (fun cs b e=>by cases e;exact d rfl)
def vd.keep{T T' w w'}(h:vd T w w')(b:T'≠T):Ja T' w w':=fun _ _ _ d=>h.get d b
def lj{P T t w base v xs y ops rest o a Q}(j:(P.info? T).map (fun i=>(i.zero,i.size,i.bytes))=Y (Y (G N 0),1,8))(ht:P.underlying t=Y (.slice T))(q:o.guard=M) s x(ho:o.op = .call { callee:=.builtin .append,args:=#[s,x],argTypes:=#[t,t] })(hs:a.eval s=v)(d:Cb T w base v xs)
  (hx:a.eval x=Z (Y ⟨w.heap.size,0,M⟩) 1 1)(W:xs.length<=1000000000000)(f:base<=w.heap.size)
  (h:∀v' w',Cb T w' base v' (xs++[y])->Below base w w'->vd T w w'->wpList P ops Q rest (a.put o.dst v') w'):wpList P ops Q (o::rest) a (w.alloc (H #[G N y] T)):=by
 obtain⟨i,hi,K,L,R⟩:=info_parts j;refine wpList_append_own _ q s x t ho base T i (G N 0) 1 8 ht hi K L R rfl dM v xs.length (nc N xs) hs (World.ownsRow.alloc d _) ⟨w.heap.size,0,M⟩ 1 1 [G N y] hx rfl
  (cell_one_new _ _ _) (by simp[Value.oneCell']) (by unfold maxLen;omega) oM (by simp;omega) ?_
 intro v' w' m b _;refine h v' w' ?_ ?_ ?_
 ·unfold Cb;rw[<-Et,xD,List.length_append];exact m
 ·have hb:Below base w (w.alloc (H #[G N y] T)):=(Below.refl _ _).alloc f _;refine hb.grown b (by simp;omega) (fun k p=>?_);exact(World.ownsRow.lt d k p).1
 ·intro k ob p z;have u:=Ya p;rw[b.block k (by simp;omega) ?_,Below.heap_alloc _ _ _ u]
  ·exact p
  ·intro e;rcases d.2 with ⟨h1,_⟩|⟨g,cap,cur,hv,_,hh,_⟩
   ·rw[h1]at e;cases e
   ·rw[hv]at e;cases e;rw[hh]at p;cases p;exact z _ _ rfl
def vd.refl T w:vd T w w:=fun _ _ h _=>h
def vd.trans{T a b c}(h:vd T a b)(k:vd T b c):vd T a c:=fun x o e d=>k x o (h x o e d) d
def vd.alloc{T a b}(h:vd T a b) o:vd T a (b.alloc o):=fun x i f d=>by
 have e:=h x i f d;rw[Below.heap_alloc _ _ _ (Ya e)];exact e
def vd.setNew{T a b}(h:vd T a b){p}(i:a.heap.size<=p.block) u:vd T a (b.setCell p u):=fun x f e d=>by
 have:=Ya e;rw[Below.heap_setCell _ _ _ _ oM];exact h x f e d
def vd.setRow{T a b base g n c i xs}(h:vd T a b)(k:Cb T b base (Z (Y ⟨g,0,M⟩) n c) xs) u:vd T a (b.setCell ⟨g,i,M⟩ u):=fun x o m d=>by
 have e:=h x o m d;rw[Below.heap_setCell _ _ _ _ ?_]
 ·exact e
 ·rintro rfl;rcases k.2 with ⟨f,_⟩|⟨p,cap,cur,hv,_,j,_⟩
  ·cases f
  ·cases hv;rw[j]at e;cases e;exact d _ _ rfl
def vd.ext{T a b c}(h:vd T a b)(k:Ba b c):vd T a c:=fun x f e d=>k.e (h x f e d)
def Cb.ne_block{T T' w base v xs}(h:Cb T w base v xs){k cs d}(b:w.heap[k]?=Y (H cs T' d))(i:T'≠T):v.ownBlock≠Y k:=by
 intro e;rcases h.2 with ⟨f,_⟩|⟨g,cap,cur,hv,_,j,_⟩
 ·rw[f]at e;cases e
 ·rw[hv]at e;cases e;rw[j]at b;cases b;exact i rfl
def lF{α:Type}(xs:List α):xs=[]\/∃ys y,xs=ys++[y]:=by
 rcases List.eq_nil_or_concat xs with h|⟨ys,y,h⟩
 ·exact .inl h
 ·exact .inr ⟨ys,y,by simpa using h⟩
def Wx{P T t} ty{w base v sl xs q}(y:(P.info? T).map (fun i=>(i.zero,i.size,i.bytes))=Y (Y (G N 0),1,8))(ht:P.underlying t=Y (.slice T))(d:Cb T w base v xs)(f:Mc T w sl q)(ah:xs.length+q.length<=1000000000000)(m:base<=w.heap.size):∃v' w',(Builtin.append_ #[t,t] ty #[v,sl]).run P w = .ok v' w'/\Cb T w' base v' (xs++q)/\Below base w w'/\vd T w w':=by
 obtain⟨i,hi,ae,af,ag⟩:=info_parts y;obtain⟨W,c,rfl⟩:=f.form;rcases W with _|W
 ·have h0:q=[]:=by
   by_cases h:0<q.length
   ·obtain⟨b,o,e,_⟩:=f.open h;cases e
   ·exact List.eq_nil_of_length_eq_zero oM
  subst h0;have hc:c=0:=by
   obtain⟨_,a,c,e,_,_,h3⟩:=f;cases e;rcases h3 with h3|⟨b,o,cs,fr,e,_⟩
   ·exact h3.2 rfl
   ·cases e
  subst hc;exact⟨v,w,run_append_owned_none (P:=P) (w:=w) base t ty T i 1 ht hi v xs.length (nc N xs) d,by simpa using d,Below.refl _ _,fun _ _ s _=>s⟩
 ·have K:∀(j:Nat) u,(nc N q)[j]?=Y u->w.cell? (W.add j)=Y u:=by
   intro j u hj;have z:0<q.length:=by have:=(lS.1 hj).1;simp at this;omega
   obtain⟨b',o',e,hb,ab⟩:=f.open z;cases e;simp only[nc,lP,Option.map_eq_some_iff]at hj;obtain⟨x,ac,rfl⟩:=hj;have:=ab j x ac;unfold Addr.add;split
   ·subst j;simpa using this
   ·exact this
  obtain⟨v',w',R,L,p,_⟩:=run_append_own (P:=P) w base t ty T i (G N 0) 1 8 ht hi ae af ag rfl dM v xs.length (nc N xs) d W q.length c (nc N q) sM
   K (ints_oneCell N q) (by unfold maxLen;omega) oM m
  refine⟨v',w',R,?_,?_,?_⟩
  ·unfold Cb;rw[<-Et,List.length_append];exact L
  ·exact(Below.refl _ w).grown p m (fun k s=>(World.ownsRow.lt d k s).1)
  ·intro k ob s aa;have z:=Ya s;rw[p.block k z ?_]
   ·exact s
   ·intro e;rcases d.2 with ⟨h1,_⟩|⟨g,cap,cur,hv,_,hh,_⟩
    ·rw[h1]at e;cases e
    ·rw[hv]at e;cases e;rw[hh]at s;cases s;exact aa _ _ rfl
def nu{P T t w base v sl xs p ops rest o a Q}(d:(P.info? T).map (fun i=>(i.zero,i.size,i.bytes))=Y (Y (G N 0),1,8))(W:P.underlying t=Y (.slice T))(m:o.guard=M) s x(L:o.op = .call { callee:=.builtin .append,args:=#[s,x],argTypes:=#[t,t] })(R:a.eval s=v)(f:Cb T w base v xs)
  (hx:a.eval x=sl)(k:Mc T w sl p)(e:xs.length+p.length<=1000000000000)(b:base<=w.heap.size)
  (h:∀v' w',Cb T w' base v' (xs++p)->Below base w w'->vd T w w'->wpList P ops Q rest (a.put o.dst v') w'):wpList P ops Q (o::rest) a w:=by obtain⟨v',w',j,q,u,y⟩:=Wx (P:=P) o.type d W f k e b;refine wpList_plain m fun K z=>?_;unfold Oper.wp;simp[execOp,L,resolve,invoke,builtin,R,hx,j,Result.andThen];exact z _ _ (h v' w' q u y)
def LK{F y P T t w base v sl xs u ops rest o a Q}(d:(P.info? T).map (fun i=>(i.zero,i.size,i.bytes))=Y (Y (G N 0),1,8))(ht:P.underlying t=Y (.slice T))(p:o.guard=M) s x(q:o.op = .call { callee:=.builtin .append,args:=#[s,x],argTypes:=#[t,t] })(hs:a.eval s=v)(f:Cb T w base v xs)
  (hx:a.eval x=sl)(k:Mc T w sl u)(e:xs.length+u.length<=1000000000000)(b:base<=w.heap.size)
  (h:∀v' w',Cb T w' base v' (xs++u)->Below base w w'->vd T w w'->wpListIn F y P ops Q rest (a.put o.dst v') w'):wpListIn F y P ops Q (o::rest) a w:=by
 obtain⟨v',w',j,z,L,R⟩:=Wx (P:=P) o.type d ht f k e b;refine wpListIn_plain p fun K W=>?_;unfold Oper.wpIn;refine⟨?_,?_⟩
 ·simp[Oper.about,q,resolve,Target.leads,Sem.run_pure]
 ·rw[Oper.semAt_plain F _ _ (by rw[q];intro c m;cases m)];simp[execOp,q,resolve,invoke,builtin,hs,hx,j,Result.andThen];exact W _ _ (h v' w' z L R)
def jp{n W d}(e:Below n W d):(∀b o,b<n->d.cell? ⟨b,o,M⟩=W.cell? ⟨b,o,M⟩)/\(∀b o,b<n->d.frozen? ⟨b,o,M⟩=W.frozen? ⟨b,o,M⟩):=
 ⟨fun b o h=>Below.cell e (p:=⟨b,o,M⟩) h,fun b o h=>Below.frozen e (p:=⟨b,o,M⟩) h⟩
def uw n:(madeCells (Value.cells (G N 0)) (n*1)).toList=nc N (List.replicate n 0):=by rw[Nat.mul_one];show (madeCells #[G N 0] n).toList=_;rw[toList_madeCells_one];simp[nc]
def yw{P T t w}{n:Nat}{ops rest o a Q}(e:(P.info? T).map (fun i=>(i.zero,i.size,i.bytes))=Y (Y (G N 0),1,8))(R:P.underlying t=Y (.slice T))(j:o.guard=M) l c(K:o.op = .makeSlice t l c) L(z:a.eval l=G N L)(u:a.eval c=G N L)(s:L=(n:Int))(W:n<=1000000000000)(h:∀w',Cb T w' w.heap.size (Z (Y ⟨w.heap.size,0,M⟩) n n) (List.replicate n 0)->Ba w w'->w.heap.size<w'.heap.size->wpList P ops Q rest (a.put o.dst (Z (Y ⟨w.heap.size,0,M⟩) n n)) w'):wpList P ops Q (o::rest) a w:=by
 obtain⟨i,x,m,p,q⟩:=info_parts e;refine wpList_make_full w j l c t K w.heap.size T i (G N 0) 1 R x m p N N L L n z u s s (by rw[q];omega) (by unfold maxLen;omega) (Nat.le_refl _) ?_;intro w' f d;have b:Cb T w' w.heap.size (Z (Y ⟨w.heap.size,0,M⟩) n n) (List.replicate n 0):=by
  unfold Cb;rw[List.length_replicate,<-uw];exact f
 refine h w' b ((Below.refl _ _).grown d (Nat.le_refl _) (fun k y=>by cases y)) ?_;exact(World.ownsRow.lt b _ rfl).2
def NT{P T t w}{n:Nat}{ops rest o a Q}(b:(P.info? T).map (fun i=>(i.zero,i.size,i.bytes))=Y (Y (G N 0),1,8))(y:P.underlying t=Y (.slice T))(f:o.guard=M) l c(x:o.op = .makeSlice t l c) L(u:a.eval l=G N L)(q:a.eval c=G N L)(p:L=(n:Int))(z:n<=1000000000000)(h:∀cs,Cb T (w.alloc (H cs T)) w.heap.size (Z (Y ⟨w.heap.size,0,M⟩) n n) (List.replicate n 0)->wpList P ops Q rest (a.put o.dst (Z (Y ⟨w.heap.size,0,M⟩) n n)) (w.alloc (H cs T))):wpList P ops Q (o::rest) a w:=by obtain⟨i,s,j,d,k⟩:=info_parts b;have m:=run_make (P:=P) w t T i (G N 0) y s j N N n n oM oM (by rw[k];omega) oM;simp only[Int.toNat_natCast]at m;refine wpList_plain f fun K e=>?_;unfold Oper.wp;subst p;simp[execOp,x,u,q,m,Result.andThen];refine e _ _ (h _ ?_);refine⟨by simp,.inr ⟨w.heap.size,n,_,by simp,Nat.le_refl _,heap_alloc_new w _,by simp,by unfold maxLen;omega,by rw[d];simp[madeCells],?_⟩⟩;rw[d,uw];simp[nc]
def KI{F s P T t w}{n:Nat}{ops rest o a Q}(b:(P.info? T).map (fun i=>(i.zero,i.size,i.bytes))=Y (Y (G N 0),1,8))(R:P.underlying t=Y (.slice T))(j:o.guard=M) l c(k:o.op = .makeSlice t l c) L(z:a.eval l=G N L)(x:a.eval c=G N L)(u:L=(n:Int))(W:n<=1000000000000)(h:∀cs,Cb T (w.alloc (H cs T)) w.heap.size (Z (Y ⟨w.heap.size,0,M⟩) n n) (List.replicate n 0)->wpListIn F s P ops Q rest (a.put o.dst (Z (Y ⟨w.heap.size,0,M⟩) n n)) (w.alloc (H cs T))):wpListIn F s P ops Q (o::rest) a w:=by
 obtain⟨i,y,m,d,p⟩:=info_parts b;have q:=run_make (P:=P) w t T i (G N 0) R y m N N n n oM oM (by rw[p];omega) oM;simp only[Int.toNat_natCast]at q;refine wpListIn_plain j fun K e=>?_;unfold Oper.wpIn;subst u;refine⟨?_,?_⟩
 ·simp[Oper.about,k]
 ·rw[Oper.semAt_plain F _ _ (by rw[k];intro c f;cases f)];simp[execOp,k,z,x,q,Result.andThen];refine e _ _ (h _ ?_);refine⟨by simp,.inr ⟨w.heap.size,n,_,by simp,Nat.le_refl _,heap_alloc_new w _,by simp,by unfold maxLen;omega,by rw[d];simp[madeCells],?_⟩⟩;rw[d,uw];simp[nc]
def MT{P T t w}{n m:Nat}{ops rest o a Q}(b:(P.info? T).map (fun i=>(i.zero,i.size,i.bytes))=Y (Y (G N 0),1,8))(W:P.underlying t=Y (.slice T))(f:o.guard=M) l c(R:o.op = .makeSlice t l c) L C(y:a.eval l=G N L)(u:a.eval c=G N C)(s:L=(n:Int))(q:C=(m:Int))(z:n<=m)(hm:m<=1000000000000)(h:∀w',Cb T w' w.heap.size (Z (Y ⟨w.heap.size,0,M⟩) n m) (List.replicate n 0)->Ba w w'->w.heap.size<w'.heap.size->wpList P ops Q rest (a.put o.dst (Z (Y ⟨w.heap.size,0,M⟩) n m)) w'):wpList P ops Q (o::rest) a w:=by obtain⟨i,x,j,d,k⟩:=info_parts b;have p:=run_make (P:=P) w t T i (G N 0) W x j N N n m oM oM (by rw[k];omega) oM;simp only[Int.toNat_natCast]at p;refine wpList_plain f fun K e=>?_;unfold Oper.wp;subst s q;simp[execOp,R,y,u,p,Result.andThen];refine e _ _ (h _ ?_ ((Ba.refl w).alloc _) sM);refine⟨by simp,.inr ⟨w.heap.size,m,_,by simp,Nat.le_refl _,heap_alloc_new w _,by simp;omega,by unfold maxLen;omega,by rw[d];simp[madeCells],?_⟩⟩;rw[d,uw];simp[nc,List.take_replicate];omega
def fg(w:O) p u:(w.setCell p u).heap.size=w.heap.size:=by simp[World.setCell]
def Uj{a b}(h:a=b):Ending.returned a = .returned b:=by rw[h]
def Ak{k a b}(h:a=b):Value.int k a=G k b:=by rw[h]
end
section
def LT{a b c:Rat}(h:a<=b)(k:b<c):a<c:=Rat.not_le.1 fun d=>Rat.not_le.2 k (Rat.le_trans d h)
def Zz{a b c:Rat}(h:a<b)(k:b<=c):a<c:=Rat.not_le.1 fun d=>Rat.not_le.2 h (Rat.le_trans k d)
def Wz{a b c:Rat}(h:a<b)(k:b<c):a<c:=Zz h (Rat.le_of_lt k)
def Rt{a:Rat}:¬a<a:=fun h=>Rat.not_le.2 h Rat.le_refl
section
variable {α:Type} (l r:α->Int) (lo up:α->Int->Rat)
def Nu(i j:α):Prop:=max (l i) (l j)<min (r i) (r j)/\∀k:Int,max (l i) (l j)<=k->k<min (r i) (r j)->up j k<=lo i k
structure Mu (S:List α):Prop where
 fat:∀i∈S,∀k,l i<=k->k<r i->lo i k<up i k
 two:∀i∈S,∀j∈S,i≠j->max (l i) (l j)<min (r i) (r j)->Nu l r lo up i j\/Nu l r lo up j i
variable {l r lo up}
def Mu.key{S}(h:Mu l r lo up S){a m b}(j:a∈S)(z:m∈S)(k:b∈S)(x:Nu l r lo up a m)(y:Nu l r lo up m b)(R:r m<=r a)(W:r m<=r b):Nu l r lo up a b:=by
 obtain⟨K,t⟩:=x;obtain⟨L,u⟩:=y;have o:=t (r m-1) oM oM;have p:=u (r m-1) oM oM;have q:=h.fat m z (r m-1) oM oM;have i:=h.fat a j (r m-1) oM oM;have s:=h.fat b k (r m-1) oM oM;have d:up b (r m-1)<lo a (r m-1):=Zz (LT p q) o;have f:a≠b:=by
  rintro rfl;exact Rt (Wz d i)
 rcases h.two a j b k f oM with e|e
 ·exact e
 ·have:=e.2 (r m-1) oM oM;exact absurd (Wz (Zz (Wz d i) this) s) Rt
def Mu.sub{S T}(h:Mu l r lo up S)(d:∀x∈T,x∈S):Mu l r lo up T:=
 ⟨fun i b=>h.fat i (d i b),fun i b j e=>h.two i (d i b) j (d j e)⟩
def xE(r:α->Int):∀{S},S≠[]->∃m∈S,∀x∈S,r m<=r x
 | [a],_=>⟨a,by simp,fun x d=>by rw[List.mem_singleton.1 d];exact Int.le_refl _⟩
 | a::b::t,_=>by
  obtain⟨m,i,e⟩:=xE r (S:=b::t) sM;by_cases f:r a<=r m
  ·refine⟨a,by simp,fun x d=>?_⟩;rcases List.mem_cons.1 d with rfl|d
   ·exact Int.le_refl _
   ·exact Int.le_trans f (e x d)
  ·refine⟨m,mC _ i,fun x d=>?_⟩;rcases List.mem_cons.1 d with rfl|d
   ·omega
   ·exact e x d
end
end
section
open Go.RowKit
def Dr(w w':O):Prop:=w.drawn<=w'.drawn
def Dr.refl w:Dr w w:=nE _
def Dr.trans{a b c}(h:Dr a b)(k:Dr b c):Dr a c:=nT h k
def Dr.alloc{a b}(h:Dr a b) o:Dr a (b.alloc o):=h
def Dr.set{a b}(h:Dr a b) p u:Dr a (b.setCell p u):=h
def Dr.drew{a b}(h:Dr a b):Dr a b.drew:=nT h (Nat.le_succ _)
def Dr.drewN{a b}(h:Dr a b) n:Dr a (b.drewN n):=nT h (Nat.le_add_right _ _)
def Dr.row{a b}(h:Dr a b) g cs:Dr a (b.setRow g cs):=h
class StD (c:O) (b:outParam O):Prop where
 up:∀a:O,Dr a b->Dr a c
instance yW (b:O) (o:Obj):StD (b.alloc o) b:=⟨fun _ h=>h.alloc o⟩
instance uW (b:O) (p:U) (u:X):StD (b.setCell p u) b:=⟨fun _ h=>h.set p u⟩
instance xW (b:O):StD b.drew b:=⟨fun _ h=>h.drew⟩
instance vW (b:O) (n:Nat):StD (b.drewN n) b:=⟨fun _ h=>h.drewN n⟩
def dX{a b c}[s:StD c b](h:Dr a b):Dr a c:=s.up a h
def dT{a b c}(h:Dr a b)(k:Dr b c:=by with_reducible assumption):Dr a c:=h.trans k
def dA{w b}(h:Dr w b:=by with_reducible repeat(first|assumption|exact Dr.refl _|refine dX ?_|refine dT ?_)):Dr w b:=h
def rQ{P T t} K{w base v xs y ad v' w'}(f:(P.info? T).map (fun i=>(i.zero,i.size,i.bytes))=Y (Y (G N 0),1,8))(R:P.underlying t=Y (.slice T))(e:Cb T w base v xs)(q:w.cell? ad=Y (G N y))(aa:xs.length<=1000000000000)(p:(Builtin.append_ #[t,t] K #[v,Z (Y ad) 1 1]).run P w = .ok v' w'):Dr w w':=by
 obtain⟨i,L,x,d,z⟩:=info_parts f;have b:∀(j:Nat) u,[(Value.int N y)][j]?=Y u->w.cell? (ad.add j)=Y u:=by
  intro j u o
  match j,o with
  | 0,o=>simp at o;subst o;simpa[Addr.add] using q
  | j+1,o=>simp at o
 rcases e.2 with ⟨rfl,h0⟩|⟨g,cap,cur,rfl,ab,hg,af,ac,ae,W⟩
 ·have s:=run_append_nil (P:=P) w t K T i (G N 0) R L x ad 1 1 [G N y] (by simp[d]) b oM oM (by rw[z];omega);rw[s]at p;cases p;exact(Dr.refl w).drew.alloc _
 ·by_cases m:xs.length+1<=cap
  ·have s:=run_append_room (P:=P) w t K T i R L g xs.length cap cur hg ad 1 1 [G N y] (by simp[d]) b (by simp[Value.oneCell']) m (by rw[d];simp;omega);rw[s]at p;cases p;exact(Dr.refl w).row _ _
  ·have k:∀j u,(nc N xs)[j]?=Y u->w.cell? ((⟨g,0,M⟩:U).add j)=Y u:=World.ownsRow.cells (g:=g) e rfl;have s:=run_append_grow (P:=P) w t K T i (G N 0) R L x ⟨g,0,M⟩ xs.length cap (nc N xs) (by simp[d]) k ad 1 1 [G N y] (by simp[d]) b oM oM (growslice_fits oM (by rw[z];omega));rw[s]at p;cases p;exact(Dr.refl w).drew.alloc _
def xp{P T t w base v xs y ops rest o a Q}(d:(P.info? T).map (fun i=>(i.zero,i.size,i.bytes))=Y (Y (G N 0),1,8))(ht:P.underlying t=Y (.slice T))(L:o.guard=M) s x(ho:o.op = .call { callee:=.builtin .append,args:=#[s,x],argTypes:=#[t,t] })(hs:a.eval s=v)(b:Cb T w base v xs)
  (hx:a.eval x=Z (Y ⟨w.heap.size,0,M⟩) 1 1)(m:xs.length<=1000000000000)(f:base<=w.heap.size)
  (h:∀v' w',Cb T w' base v' (xs++[y])->Below base w w'->vd T w w'->Dr w w'->wpList P ops Q rest (a.put o.dst v') w'):wpList P ops Q (o::rest) a (w.alloc (H #[G N y] T)):=by
 have p:∃v' w',(Builtin.append_ #[t,t] o.type #[v,Z (Y ⟨w.heap.size,0,M⟩) 1 1]).run P (w.alloc (H #[G N y] T)) = .ok v' w'/\Cb T w' base v' (xs++[y])/\Below base w w'/\vd T w w':=by
  obtain⟨i,hi,aa,ab,ac⟩:=info_parts d;obtain⟨v',w',u,z,q,-⟩:=run_append_own (P:=P) (w.alloc (H #[G N y] T)) base t o.type T i (G N 0) 1 8 ht hi aa ab ac rfl dM v xs.length (nc N xs) (World.ownsRow.alloc b _) ⟨w.heap.size,0,M⟩ 1 1 [G N y] rfl (cell_one_new _ _ _) (by simp[Value.oneCell']) (by unfold maxLen;omega) oM (by simp;omega);refine⟨v',w',u,?_,?_,?_⟩
  ·unfold Cb;rw[<-Et,xD,lA];exact z
  ·have hb:Below base w (w.alloc (H #[G N y] T)):=(Below.refl _ _).alloc f _;exact hb.grown q (by simp;omega) (fun k j=>(World.ownsRow.lt b k j).1)
  ·intro k ob j W;have R:=Ya j;rw[q.block k (by simp;omega) ?_,Below.heap_alloc _ _ _ R]
   ·exact j
   ·intro e;rcases b.2 with ⟨u,_⟩|⟨g,cap,cur,hv,_,hh,_⟩
    ·rw[u]at e;cases e
    ·rw[hv]at e;cases e;rw[hh]at j;cases j;exact W _ _ rfl
 obtain⟨v',w',hr,z,q,h4⟩:=p;have hd:Dr (w.alloc (H #[G N y] T)) w':=rQ (base:=base) o.type d ht (b.alloc _) (cell_of_one (aN w _)) m hr;refine wpList_plain L fun K hK=>?_;unfold Oper.wp;simp[execOp,ho,resolve,invoke,builtin,hs,hx,hr,Result.andThen];exact hK _ _ (h v' w' z q h4 hd)
def Aq{P T t w}{n:Nat}{ops rest o a Q}(b:(P.info? T).map (fun i=>(i.zero,i.size,i.bytes))=Y (Y (G N 0),1,8))(q:P.underlying t=Y (.slice T))(e:o.guard=M) l c(p:o.op = .makeSlice t l c) L(k:a.eval l=G N L)(j:a.eval c=G N L)(f:L=(n:Int))(m:n<=1000000000000)(h:∀w',Cb T w' w.heap.size (Z (Y ⟨w.heap.size,0,M⟩) n n) (List.replicate n 0)->Ba w w'->w.heap.size<w'.heap.size->Dr w w'->wpList P ops Q rest (a.put o.dst (Z (Y ⟨w.heap.size,0,M⟩) n n)) w'):wpList P ops Q (o::rest) a w:=
 NT b q e l c p L k j f m fun s d=>h _ d ((eR w).alloc _) sM (Dr.alloc (Dr.refl w) _)
def iu{P T t w base g n cap os xs sl ops rest o a Q}(m:(P.info? T).map (fun i=>(i.zero,i.size,i.bytes))=Y (Y (G N 0),1,8))(ht:P.underlying t=Y (.slice T))(q:o.guard=M) d s(ho:o.op = .call { callee:=.builtin .copy,args:=#[d,s],argTypes:=#[t,t] })(hd:a.eval d=Z (Y ⟨g,0,M⟩) n cap)(hs:a.eval s=sl)
  (e:Cb T w base (Z (Y ⟨g,0,M⟩) n cap) os)(f:Mc T w sl xs)(W:xs.length<=n)
  (h:∀w',Cb T w' base (Z (Y ⟨g,0,M⟩) n cap) (xs++os.drop xs.length)->Below base w w'->vd T w w'->Dr w w'->wpList P ops Q rest (a.put o.dst (goInt xs.length)) w'):wpList P ops Q (o::rest) a w:=by
 obtain⟨i,hi,ag,y,ah⟩:=info_parts m;obtain⟨b,c,rfl⟩:=f.form;have hn:=e.len;rcases e.2 with ⟨h1,_⟩|⟨g',ad,cur,hv,hg,L,af,K,ae,ab⟩
 ·cases h1
 ·cases hv;have h2:os.length<=cur.size:=oM;by_cases h0:xs=[]
  ·subst h0;refine wpList_copy_nothing q d s t t ho T ht (by rw[hi];simp[y]) _ b os.length cap 0 c hd hs sM ?_;exact h w (by simpa using e) (Below.refl _ _) (fun _ _ u _=>u) (Dr.refl w)
  ·have hp:0<xs.length:=List.length_pos_iff.2 h0;obtain⟨b',o',rfl,hb,hx⟩:=f.open hp;have p:∀(j:Nat) v,(nc N xs)[j]?=Y v->w.cell? ((⟨b',o',M⟩:U).add j)=Y v:=by
    intro j v hj;simp only[nc,lP,Option.map_eq_some_iff]at hj;obtain⟨x,ac,rfl⟩:=hj;have:=hx j x ac;unfold Addr.add;split
    ·subst j;simpa using this
    ·exact this
   refine wpList_copy_own q d s t t ho T ht (by rw[hi];simp[y]) g 0 os.length cap ⟨b',o',M⟩ xs.length c hd hs cur T L (nc N xs) (by rw[qw];exact(Nat.min_eq_left W).symm) p (by simp;omega) (ints_oneCell N xs) ?_;rw[qw];refine h _ ⟨by simp,.inr ⟨g,cap,_,?_,hg,setRow_heap w g cur _ T _ L,?_,K,?_,?_⟩⟩ (below_setRow (Below.refl _ _) hg _) ?_ (Dr.row (Dr.refl w) _ _)
   ·(have z:(xs++os.drop xs.length).length=os.length:=by simp;omega);rw[z]
   ·simp;omega
   ·simp;omega
   ·have e1:cur.toList.take (os.length*1)=nc N os:=ab;(have z:(xs++os.drop xs.length).length*1=os.length:=by simp;omega);rw[z,<-Et,show nc N (os.drop xs.length)=(nc N os).drop xs.length by simp[nc,List.map_drop],<-e1,Nat.mul_one,List.drop_take];simp only[List.take_zero,List.nil_append,Nat.zero_add,qw];rw[List.take_append,lT (by simp;omega),qw]
   ·intro k ob u aa;(have R:k≠g:=by rintro rfl;rw[L]at u;cases u;exact aa _ _ rfl);rw[setRow_other w g k _ R];exact u
def B:Int:=16777216
def zj:(0:Int)<B:=dM
def An y:bits BinOp.and IntKind.i64 y 16777215=y%16777216:=by
 show IntKind.i64.wrap (((BitVec.ofInt 64 y &&& BitVec.ofInt 64 16777215).toNat:Nat):Int)=_;have b:(BitVec.ofInt 64 y &&& BitVec.ofInt 64 16777215).toNat=(y%18446744073709551616).toNat%16777216:=by
  rw[BitVec.toNat_and,BitVec.toNat_ofInt];have:(BitVec.ofInt 64 16777215).toNat=2 ^ 24-1:=dM;rw[this,Nat.and_two_pow_sub_one_eq_mod];rfl
 rw[b];simp[IntKind.wrap,IntKind.signed,IntKind.bits];omega
def im:(Tryz.prog.info? 2).map (fun i=>(i.zero,i.size,i.bytes))=Y (Y (G N 0),1,8):=kM
def TS(d xs:List Int) i x b(f:d.length=i)(j:xs[i]?=Y x)(h:dv B (xs.take i)=dv B d+B ^ i*b):dv B (xs.take (i+1))=dv B (d++[(x+b)%16777216])+B ^ (i+1)*((x+b)/16777216):=by
 rw[Pn B xs i x j,Nn,h,f,Int.pow_succ];have e:x+b=(x+b)%16777216+B*((x+b)/16777216):=by unfold B;omega
 generalize (x+b)%16777216=r at *
 generalize (x+b)/16777216=q at *
 have:B ^ i*(x+b)=B ^ i*(r+B*q):=by rw[e]
 grind
def US xs d b(h:dv B xs=dv B d+B ^ d.length*b):dv B xs=dv B (d++[b%16777216])+B ^ (d++[b%16777216]).length*(b/16777216):=by
 rw[Nn,h,lA,List.length_singleton,Int.pow_succ];have e:b=b%16777216+B*(b/16777216):=by unfold B;omega
 generalize b%16777216=r at *
 generalize b/16777216=q at *
 subst e;grind
def Fq{x b}(h:0<=x/\x<B)(d:b=0):(x+b)/16777216=0:=by unfold B at h;omega
def mh(v:X)(w w':O):Prop:=∀(k:Nat)(o:Obj),w.heap[k]?=Y o->v.ownBlock≠Y k->w'.heap[k]?=Y o
def mh.alloc{v a b}(h:mh v a b) o:mh v a (b.alloc o):=fun x i f d=>by
 have e:=h x i f d;rw[Below.heap_alloc _ _ _ (Ya e)];exact e
def mh.setNew{v a b}(h:mh v a b){p}(i:a.heap.size<=p.block) u:mh v a (b.setCell p u):=fun x f e d=>by
 have:=Ya e;rw[bS _ _ _ _ oM];exact h x f e d
def mh.setOwn{v a b}(h:mh v a b){p}(e:v.ownBlock=Y p.block) u:mh v a (b.setCell p u):=fun x i f d=>by
 rw[bS _ _ _ _ (by rintro rfl;exact d e)];exact h x i f d
def AA(base:Nat)(xs:List Int)(n:Nat)(a:Option U)(c:Nat)(w:O)(t3 e:X)(wr:O):Prop:=
 ∃(i:Nat)(d:List Int)(b:Int),i<=n/\e=G N i/\t3=G N b/\d.length=i/\Wd B d/\dv B (xs.take i)=dv B d+B ^ i*b/\ -1099511627776<=b/\b<=1099511627776/\Cb 2 wr base (Z a n c) (d++xs.drop i)/\(Below base w wr/\vd 2 w wr/\mh (Z a n c) w wr/\(Wd B xs->b=0)/\Dr w wr)/\w.heap.size<wr.heap.size/\wr.heap[w.heap.size]?=Y (H #[Z M 0 0] 177 (0,0))
def zA(v:X)(base:Nat)(xs:List Int)(n:Nat)(w:O)(t0 t3:X)(wr:O):Prop:=
 ∃(d:List Int)(b:Int),t3=G N b/\dv B xs=dv B d+B ^ d.length*b/\Wd B d/\0<=b/\b<=1099511627776/\d.length<=n+2/\(0<b->d.length<=n+1)/\(65536<b->d.length<=n)/\Cb 2 wr base t0 d/\(Below base w wr/\vd 2 w wr/\(Wd B xs->b=0/\mh v w wr)/\Dr w wr)/\w.heap.size<wr.heap.size/\wr.heap[w.heap.size]?=Y (H #[Z M 0 0] 177 (0,0))
def yA(v:X)(base:Nat)(xs:List Int)(w:O)(t0:X)(wr:O):Prop:=
 ∃(b:List Int),dv B b=dv B xs/\Wd B b/\b.length<=1000000002/\Cb 2 wr base t0 b/\(Below base w wr/\vd 2 w wr/\(Wd B xs->mh v w wr)/\Dr w wr)/\w.heap.size<wr.heap.size/\wr.heap[w.heap.size]?=Y (H #[Z M 0 0] 177 (0,0))
def Ez base v xs w(ac:Cb 2 w base v xs)(L:base<=w.heap.size)(aF:xs.length<=1000000000)(hx:∀x∈xs,-4611686018427387904<=x/\x<=4611686018427387904)(aZ:0<=dv B xs):Calls Tryz.prog 298 #[v] w fun e w'=>∃v' ys,e=.returned (Oa #[v'])/\Cg B ys/\dv B ys=dv B xs/\Cb 2 w' base v' ys/\Below base w w'/\vd 2 w w'/\(Wd B xs->mh v w w')/\Dr w w':=by
 obtain⟨a,c,rfl⟩:=ac.form;obtain⟨n,hn⟩:=gX xs.length;rw[hn]at ac aF ⊢;have Hn:=za hn;have ax:base<=w.heap.size:=L;clear hn;go_in;go_wp2;go_loopw [3,7] (AA base xs n a c w) (fun _ t7 _=>n-(intOf t7).toNat)
 case atStart=>exact⟨0,[],0,by omega,rfl,rfl,rfl,Wd.nil _,by simp,by omega,by omega,ac.alloc _,⟨(Below.refl _ _).alloc L _,(vd.refl _ _).alloc _,mh.alloc (fun _ _ h _=>h) _,fun _=>rfl,dA⟩,by simp,aN w _⟩
 case round =>
  obtain⟨i,ys,cy,hi,rfl,rfl,aM,ag,hv,aQ,ay,d,⟨R,ak,aB,az,aR⟩,av,am⟩:=hrel;have f:=za aM;have Hv:=za hv;have u:=za am;clear aM hv am;by_cases aG:i<n
  ·obtain⟨g,rfl,hg,aS⟩:=d.blk (by simp[Hn.o,f.o];omega);obtain⟨x,af⟩:∃x,xs[i]?=Y x:=⟨xs[i]'(by rw[Hn.o];exact aG),by simp[Hn.o,aG]⟩;have a6:=hx x (lM af);have au:wr.cell? ⟨g,i,M⟩=Y (G N x):=d.cell (by have:=ET ys xs x (by rw[f.o];exact af);rwa [f.o]at this);have a1:wr.frozen? ⟨g,i,M⟩=false:=d.frozen i;have aq:=za af;clear af;go_wp2;go_roundw
   case rel =>
    have aA:g≠w.heap.size:=by
     rintro rfl;rcases d.2 with ⟨y,_⟩|⟨g',aW,cur,y,_,hh,_⟩
     ·cases y
     ·cases y;rw[u.o]at hh;cases hh
    refine⟨i+1,ys++[(x+cy)%16777216],_,by omega,by go_num,rfl,by simp[f.o],ag.snoc oM (by unfold B;omega),TS ys xs i x cy f.o aq.o Hv.o,by omega,by omega,?_,?_,?_,?_⟩
    ·rw[An];have y:=(d.stored i (x+cy)).stored i ((x+cy)%16777216);rw[List.set_set]at y;have h2:=IT ys xs x ((x+cy)%16777216) (by rw[f.o];exact aq.o);rw[f.o]at h2;rw[<-h2];exact y
    ·exact⟨(R.setCell hg _).setCell hg _,(ak.setRow d _).setRow (d.stored i _) _,mh.setOwn (p:=⟨g,i,M⟩) (mh.setOwn (p:=⟨g,i,M⟩) aB rfl _) rfl _,fun K=>Fq (K x (lM aq.o)) (az K),dA⟩
    ·simp only[fg];exact av
    ·rw[bS _ _ _ _ (by intro e;exact aA e.symm),bS _ _ _ _ (by intro e;exact aA e.symm)];exact u.o
   case measure=>simp[intOf];omega
  ·obtain rfl:i=n:=oM;have ai:0<=cy:=by
    have y:=Hv.o;rw[lT (by rw[Hn.o];omega)]at y;have h2:=(Yi zj ag).2;rw[f.o]at h2;have h3:=Tj zj i;by_cases h4:0<=cy
    ·exact h4
    ·have:B ^ i*cy<=B ^ i*(-1):=Int.mul_le_mul_of_nonneg_left oM oM;omega
   go_wp2;go_loopw [0,3] (zA (Z a i c) base xs i w) (fun _ t3 _=>(intOf t3).toNat)
   case atStart =>
    refine⟨ys,cy,rfl,?_,ag,ai,ay,by rw[f.o];omega,by rw[f.o];omega,by rw[f.o];omega,?_,⟨R,ak,fun K=>⟨az K,aB⟩,aR⟩,av,u.o⟩
    ·have y:=Hv.o;rw[lT (by rw[Hn.o];omega)]at y;rw[f.o];exact y
    ·have y:=d;rw[List.drop_of_length_le (by rw[Hn.o];omega),List.append_nil]at y;exact y
   case round =>
    obtain⟨zs,cz,rfl,aK,aw,a7,a8,aT,aC,aD,k,⟨s,aa,al,aj⟩,an,ad⟩:=hrel;have o:=za ad;have ao:=za aK;obtain⟨a2,c2,rfl⟩:=k.form;clear ad aK Hv u d R av f ai aQ ay ag;by_cases ar:cz=0
    ·subst ar;go_wp2;go_loopw [0] (yA (Z a i c) base xs w) (fun t0 _=>match t0 with | Z _ n _=>n|_=>0)
     case atStart=>exact⟨zs,by have:=ao.o;rw[this];simp,aw,by omega,k,⟨s,aa,fun K=>(al K).2,aj⟩,an,o.o⟩
     case round =>
      clear k s an o ao aw aT aC aD;obtain⟨us,aL,aJ,aU,b,⟨j,t,ab,W⟩,aI,m⟩:=hrel;obtain⟨a3,c3,rfl⟩:=b.form;have aH:=cell_of_one m;have a4:=free_of_one m;have q:=za m;have ap:=za aL;clear m aL;rcases lF us with rfl|⟨ah,x,rfl⟩
      ·have K:decide ((0:Int)<(([]:List Int).length:Int))=false:=sM;go_wp2;refine bR (v:=Oa #[Z a3 0 c3]) (by simp[results,Tryz.results298,go_sem,aH]) rfl ⟨_,[],rfl,Cg.nil _,ap.o,?_,?_⟩
       ·exact b.setOther (p:=⟨w.heap.size,0,M⟩) (b.ne_block q.o dM) _
       ·exact⟨j.setCell (p:=⟨w.heap.size,0,M⟩) ax _,t.setNew dO _,fun K=>(ab K).setNew dO _,dA⟩
      ·obtain⟨g,rfl,hg,aS⟩:=b.blk sM;have au:wr.cell? ⟨g,ah.length,M⟩=Y (G N x):=b.cell sM;have aE:=b.ints.le;simp only[lA,List.length_singleton]at b aE aU ⊢;unfold maxLen at aE;by_cases ae:x=0
       ·subst ae;go_wp2;go_roundw
        case rel =>
         refine⟨ah,?_,(Wd.of_append aJ).1,by omega,b.pop,⟨j,t,ab,W⟩,aI,q.o⟩;have:=ap.o;rw[Nn]at this;omega
        case measure=>simp
       ·(have a5:(x==0)=false:=by simpa using ae);have aO:=za ae;clear ae;go_wp2;refine bR (v:=Oa #[Z (Y ⟨g,0,M⟩) (ah.length+1) c3]) (by simp[results,Tryz.results298,go_sem,aH]) rfl ⟨_,ah++[x],rfl,⟨aJ,by simpa using aO.o⟩,ap.o,?_,?_⟩
        ·exact b.setOther (p:=⟨w.heap.size,0,M⟩) (b.ne_block q.o dM) _
        ·exact⟨j.setCell (p:=⟨w.heap.size,0,M⟩) ax _,t.setNew dO _,fun K=>(ab K).setNew dO _,dA⟩
    ·(have aX:(cz != 0)=true:=by simpa using ar);have aV:0<cz:=oM;have aY:=aC aV;clear ar;go_wp2_with(at_builtin;refine xp im Tryz.underlying175 rfl _ _ rfl rfl k rfl oM oM ?_;intro v' w1 b j z W);rw[An]at b;go_roundw
     case rel =>
      have a0:cz/16777216<=65536:=oM;have aP:0<cz/16777216->zs.length<=i:=fun h=>aD oM;refine⟨zs++[cz%16777216],_,rfl,US xs zs cz ao.o,aw.snoc oM (by unfold B;omega),by omega,by omega,by simp;omega,fun h=>by have:=aP h;simp;omega,fun h=>by omega,b,⟨s.trans j,aa.trans z,fun K=>absurd (al K).1 oM,aj.trans W⟩,?_,?_⟩
      ·have:=j.size;omega
      ·exact z.get o.o dM
     case measure=>simp[intOf];omega
def Qy base v xs w(f:Cb 2 w base v xs)(b:base<=w.heap.size)(d:xs.length<=1000000000)(t:∀x∈xs,-4611686018427387904<=x/\x<=4611686018427387904)(i:0<=dv B xs):Calls Tryz.prog 298 #[v] w fun e j=>∃v' ys,e=.returned (Oa #[v'])/\Cg B ys/\dv B ys=dv B xs/\Cb 2 j base v' ys/\Below base w j/\vd 2 w j/\Dr w j:=by refine(Ez base v xs w f b d t i).mono ?_;rintro e j ⟨v',ys,k,m,o,p,q,h6,_,s⟩;exact⟨v',ys,k,m,o,p,q,h6,s⟩
def Mz base v xs w(f:Cb 2 w base v xs)(b:base<=w.heap.size)(d:xs.length<=1000000000)(s:∀x∈xs,-4611686018427387904<=x/\x<=4611686018427387904)(i:0<=dv B xs):Calls Tryz.prog 298 #[v] w fun e j=>∃v' ys,e=.returned (Oa #[v'])/\Cg B ys/\dv B ys=dv B xs/\Cb 2 j base v' ys/\Below base w j/\vd 2 w j:=by refine(Ez base v xs w f b d s i).mono ?_;rintro e j ⟨v',ys,k,m,o,p,q,h6,_,_⟩;exact⟨v',ys,k,m,o,p,q,h6⟩
def Nd(w:O)(v:X)(n:Int):Prop:=∃sl ds,v=Oa #[sl]/\Mc 2 w sl ds/\Cg B ds/\dv B ds=n
def jh(w:O)(base:Nat)(v:X)(n:Int):Prop:=∃sl ds,v=Oa #[sl]/\Cb 2 w base sl ds/\Cg B ds/\dv B ds=n
def jh.u{w base v n}(h:jh w base v n):Nd w v n:=by obtain⟨sl,b,d,e,f,i⟩:=h;exact⟨sl,b,d,e.ints,f,i⟩
def El{w base b' v xs}(b:b'<=base)(h:Cb 2 w base v xs):Cb 2 w b' v xs:=h.mono b
def Nd.ext{w w' v n}(h:Nd w v n)(k:Ba w w'):Nd w' v n:=by obtain⟨sl,b,d,e,f,i⟩:=h;exact⟨sl,b,d,e.ext k,f,i⟩
def Nd.keep{w w' v n}(h:Nd w v n)(k:Ja 2 w w'):Nd w' v n:=by obtain⟨sl,b,d,e,f,i⟩:=h;exact⟨sl,b,d,e.keep k,f,i⟩
def Nd.nonneg{w v n}(h:Nd w v n):0<=n:=by obtain⟨sl,e,f,i,b,d⟩:=h;rw[<-d];exact(Yi zj b.1).1
def Nd.form{w v n}(h:Nd w v n):∃a m c,v=Oa #[Z a m c]:=by obtain⟨sl,d,rfl,b,e,f⟩:=h;obtain⟨a,c,rfl⟩:=b.form;exact⟨_,_,_,rfl⟩
def Nd.open{w a m c n}(h:Nd w (Oa #[Z a m c]) n):∃ds,ds.length=m/\Mc 2 w (Z a m c) ds/\Cg B ds/\dv B ds=n:=by obtain⟨sl,ds,d,b,e,f⟩:=h;cases d;exact⟨ds,b.len.symm,b,e,f⟩
def Lm(k:Nat)(n:Int):Prop:=-(B ^ k)<n/\n<B ^ k
def Lm.mono{j k n}(h:Lm j n)(d:j<=k):Lm k n:=by have:=On (b:=B) dM d;unfold Lm at *;omega
def Lm.len{k n ds}(h:Lm k n)(f:Cg B ds)(hv:dv B ds=n):ds.length<=k:=by
 by_cases d:ds=[]
 ·subst d;simp
 ·have i:=qv zj f d;by_cases e:ds.length<=k
  ·exact e
  ·have:=On (b:=B) dM (show k<=ds.length-1 by omega);unfold Lm at h;omega
abbrev Rc:Nat:=100000000
def Gc(a b:Int):Int:=if a<b then -1 else if b<a then 1 else 0
def Yr w v n(h:Nd w v n):Calls Tryz.prog 273 #[v] w fun e f=>e=.returned (.bool (n==0))/\Ba w f/\Dr w f:=by
 obtain⟨a,m,c,rfl⟩:=h.form;obtain⟨k,j,i,d,hv⟩:=h.open;have b:(n==0)=((m:Int)==0):=by
  rw[Bool.eq_iff_iff,beq_iff_eq,beq_iff_eq,<-hv,tE zj d,<-List.length_eq_zero_iff];omega
 rw[b];clear b hv d i j h;go_in;go_wp2;go_ret;exact⟨rfl,(eR w).alloc _,dA⟩
def Yu{P f args w}{p:Ending->Prop}(h:Calls P f args w fun e b=>p e/\Ba w b/\Dr w b):Calls P f args w fun e b=>p e/\Ba w b:=h.mono fun _ _ h=>⟨h.1,h.2.1⟩
def Im w v n(h:Nd w v n):Calls Tryz.prog 273 #[v] w fun e b=>e=.returned (.bool (n==0))/\Ba w b:=Yu (Yr w v n h)
def kq{α:Type}{xs:List α}{j x}(h:xs[j]?=Y x):xs.drop j=x::xs.drop (j+1):=by obtain⟨b,rfl⟩:=lS.1 h;exact List.drop_eq_getElem_cons b
def rE{xs e}(t:Wd B xs)(u:Wd B e)(s:xs.length=e.length) j{x y}(o:xs[j]?=Y x)(p:e[j]?=Y y)(q:xs.drop (j+1)=e.drop (j+1))(i:x<y):dv B xs<dv B e:=by
 have k:xs=xs.take j++x::e.drop (j+1):=by rw[<-q,<-kq o,List.take_append_drop]
 have m:e=e.take j++y::e.drop (j+1):=by rw[<-kq p,List.take_append_drop]
 have:=Sz (b:=B) (zs:=e.drop (j+1)) dM (fun d f=>t d (List.mem_of_mem_take f)) (show (xs.take j).length=(e.take j).length by rw[List.length_take,List.length_take,s]) (fun d f=>u d (List.mem_of_mem_take f)) i
 rwa [<-k,<-m]at this
def uu(w:O)(a b:X)(n:Nat)(xs d:List Int)(t5:X)(wr:O):Prop:=
 ∃i:Nat,i<=n/\t5=G N ((i:Int)-1)/\xs.drop i=d.drop i/\(Ba w wr/\Dr w wr)/\wr.cell? ⟨w.heap.size,0,M⟩=Y a/\wr.cell? ⟨w.heap.size+1,0,M⟩=Y b
def Bs w va vb s nb(ha:Nd w va s)(hb:Nd w vb nb):Calls Tryz.prog 292 #[va,vb] w fun e w'=>e=.returned (G N (Gc s nb))/\Ba w w'/\Dr w w':=by
 obtain⟨a,m,c,rfl⟩:=ha.form;obtain⟨a',m',c',rfl⟩:=hb.form;obtain⟨xs,hl,hi,hc,hv⟩:=ha.open;obtain⟨ys,p,q,f,k⟩:=hb.open;have hm:=hi.le;have ab:=q.le;rw[hl]at hm;rw[p]at ab;unfold maxLen at hm ab;rcases Nat.lt_trichotomy m m' with aa|rfl|Af
 ·have e1:s<nb:=by rw[<-hv,<-k];exact It dM hc.1 f oM
  have e:Gc s nb = -1:=by unfold Gc;rw[if_pos e1]
  rw[e];clear e e1 hv k hc f hi q hl p ha hb;go_in;go_wp2;go_ret;exact⟨rfl,((eR w).alloc _).alloc _,dA⟩
 ·have Hl:=za hl;have d:=za p;have Hv:=za hv;have z:=za k;clear hl p hv k;go_in;go_wp2;go_loopw [5] (uu w (Z a m c) (Z a' m c') m xs ys) (fun t5 _=>(intOf t5+1).toNat)
  case atStart=>exact⟨m,by omega,rfl,by rw[List.drop_of_length_le (by rw[Hl.o];omega),List.drop_of_length_le (by rw[d.o];omega)],⟨((eR w).alloc _).alloc _,dA⟩,by go_simp,by go_simp⟩
  case round =>
   obtain⟨i,al,rfl,hd,⟨t,ad⟩,ah,ai⟩:=hrel;have Hd:=za hd;clear hd;rcases i with _|j
   ·have e:Gc s nb=0:=by
     have:=Hd.o;simp only[List.drop_zero]at this;rw[<-Hv.o,<-z.o,this];simp[Gc]
    have E:=za e;clear e;go_wp2;go_ret;exact⟨Uj (Ak E.o.symm),t,ad⟩
   ·rw[show (((j+1:Nat):Int)-1)=(j:Int) by omega];obtain⟨b,o,rfl,ag,ac⟩:=(hi.ext t).open (by rw[Hl.o];omega);obtain⟨b',o',rfl,af,u⟩:=(q.ext t).open (by rw[d.o];omega);obtain⟨x,R⟩:∃x,xs[j]?=Y x:=⟨xs[j]'(by rw[Hl.o];omega),by simp[Hl.o]⟩;obtain⟨y,W⟩:∃y,ys[j]?=Y y:=⟨ys[j]'(by rw[d.o];omega),by simp[d.o]⟩;have aj:=ac j x R;have ak:=u j y W;have K:=za R;have L:=za W;clear ac u R W;rcases Int.lt_trichotomy x y with aa|ae|Af
    ·have e:Gc s nb = -1:=by
      rw[<-Hv.o,<-z.o];unfold Gc;rw[if_pos (rE hc.1 f.1 (by rw[Hl.o,d.o]) j K.o L.o Hd.o aa)]
     have E:=za e;clear e;go_wp2;go_quiet (fail);go_wp2;go_ret
     first|exact⟨Uj (Ak E.o.symm),t.drewN _,dA⟩|exact⟨Uj (Ak E.o.symm),(t.drewN _).drewN _,dA⟩
    ·subst ae;go_wp2;go_quiet (fail);go_wp2;go_quiet (fail);go_wp2;go_roundw
     case rel=>exact⟨j,by omega,by go_num,by rw[kq K.o,kq L.o,Hd.o],⟨t.drewN _,dA⟩,by go_simp,by go_simp⟩
     case measure=>simp[intOf]
    ·have e:Gc s nb=1:=by
      have:=rE f.1 hc.1 (by rw[Hl.o,d.o]) j L.o K.o Hd.o.symm Af;rw[<-Hv.o,<-z.o];unfold Gc;rw[if_neg oM,if_pos this]
     have E:=za e;clear e;go_wp2;go_quiet (fail);go_wp2;go_quiet (fail);go_wp2;go_ret
     first|exact⟨Uj (Ak E.o.symm),t.drewN _,dA⟩|exact⟨Uj (Ak E.o.symm),(t.drewN _).drewN _,dA⟩
 ·have e1:nb<s:=by rw[<-hv,<-k];exact It dM f.1 hc oM
  have e:Gc s nb=1:=by unfold Gc;rw[if_neg oM,if_pos e1]
  rw[e];clear e e1 hv k hc f hi q hl p ha hb;go_in;go_wp2;go_ret;exact⟨rfl,((eR w).alloc _).alloc _,dA⟩
def Er w d f b nb(i:Nd w d b)(j:Nd w f nb):Calls Tryz.prog 292 #[d,f] w fun e k=>e=.returned (G N (Gc b nb))/\Ba w k:=Yu (Bs w d f b nb i j)
def oP(xs b:List Int) k i os x y(d:os[i]?=Y x)(m:b[i]?=Y y)(h:dv B os=dv B xs+k*dv B (b.take i)):dv B (os.set i (x+k*y))=dv B xs+k*dv B (b.take (i+1)):=by
 have j:=(lS.1 d).1;rw[Pn B b i y m,Int.mul_add,<-Int.add_assoc,<-h];have e:os=os.take i++x::os.drop (i+1):=by rw[<-kq d,List.take_append_drop]
 have f:os.set i (x+k*y)=os.take i++(x+k*y)::os.drop (i+1):=by
  rw[List.set_eq_take_append_cons_drop,if_pos j]
 rw[f]
 conv=>rhs;rw[e]
 rw[Km,Km];simp only[Em,List.length_take];rw[Nat.min_eq_left oM];grind
def pl(os:List Int)(i:Nat):Prop:=∀j x,os[j]?=Y x -> -16777216<=x/\x<=33554432/\(i<=j->0<=x/\x<16777216)
def pl.set{os i}(h:pl os i){x}(d:-16777216<=x)(e:x<=33554432):pl (os.set i x) (i+1):=by
 intro j y b;rw[List.getElem?_set]at b;split at b
 ·subst j;split at b
  ·cases b;exact⟨d,e,fun h=>by omega⟩
  ·cases b
 ·have:=h j y b;exact⟨this.1,this.2.1,fun f=>this.2.2 oM⟩
def Lp(w:O)(e:Int)(f:List Int)(k:Int)(d L:Nat)(t25:X)(wr:O):Prop:=
 ∃(i:Nat)(b:List Int),t25=G N i/\i<=d/\b.length=L/\d<=L/\L<=100000000/\
  Cb 2 wr (w.heap.size+1+1+1) (Z (Y ⟨w.heap.size+1+1+1,0,M⟩) L L) b/\dv B b=e+k*dv B (f.take i)/\pl b i/\(Ba w wr/\Dr w wr)/\w.heap.size+1+1+1<wr.heap.size/\
  wr.heap[w.heap.size+1+1]?=Y (H #[Z M 0 0] 177 (0,0))
def AF{xs b os:List Int}{k d x y i}(hv:dv B xs=d)(e:os[i]?=Y x)(f:b[i]?=Y y)(h:dv B os=d+k*dv B (b.take i)):dv B (os.set i (x+k*y))=d+k*dv B (b.take (i+1)):=by subst hv;exact oP xs b k i os x y e f h
def Jo w va vb na nb k(ha:Nd w va na)(hb:Nd w vb nb)(aT:Lm Rc na)(aU:Lm Rc nb)(hk:-1<=k/\k<=1)(hp:0<=na+k*nb):Calls Tryz.prog 280 #[va,vb,G N k] w fun e w'=>∃r,e=.returned r/\jh w' w.heap.size r (na+k*nb)/\Ba w w'/\Dr w w':=by
 obtain⟨a,m,c,rfl⟩:=ha.form;obtain⟨a',m',c',rfl⟩:=hb.form;obtain⟨xs,hl,hi,hc,hv⟩:=ha.open;obtain⟨ys,aw,aE,ao,aA⟩:=hb.open;have hm:=aT.len hc hv;have aF:=aU.len ao aA;rw[hl]at hm;rw[aw]at aF;unfold Rc at hm aF;have Hl:=za hl;have u:=za aw;have Hv:=za hv;have ak:=za aA;clear hl aw hv aA;rcases Nat.lt_or_ge m m' with aW|aW
 ·go_in;go_wp2_with(first|(at_make;refine Aq im Tryz.underlying175 rfl _ _ rfl _ rfl rfl rfl oM ?_;intro w1 b t ai aJ;obtain⟨ap,au⟩:=t.cells;simp only[wZ]at b ai)|(refine iu im Tryz.underlying175 rfl _ _ rfl rfl rfl b (hi.ext ((((eR w).alloc _).alloc _).alloc _ |>.trans t)) (by rw[Hl.o];omega) ?_;intro w2 q K ag aK;obtain⟨aq,av⟩:=jp K));go_loopw [25] (Lp w na ys k m' m') (fun aC _=>m'-(intOf aC).toNat)
  case atStart =>
   refine⟨0,_,rfl,by omega,?_,by omega,by omega,q,?_,?_,?_,?_,?_⟩
   ·have:=Hl.o;simp;omega
   ·rw[List.drop_replicate,Km,Xo,Hv.o];simp
   ·intro j x hj;rw[List.getElem?_append]at hj;split at hj
    ·have:=hc.1 x (lM hj);unfold B at this;omega
    ·have:=List.mem_replicate.1 (List.mem_of_mem_drop (lM hj));omega
   ·exact⟨(((((eR w).alloc _).alloc _).alloc _).trans t).D K oM,dA⟩
   ·have:=K.size;omega
   ·exact ag.get (by rw[t.block sM];exact mc _ _ _ sM) dM
  case round =>
   clear q b t ap au aq av ai K ag;obtain⟨i,os,rfl,aR,ac,ax,hL,o,L,ad,⟨hx,aM⟩,az,s⟩:=hrel;have z:=za ac;have af:=za L;have f:=za s;by_cases aV:i<m'
   ·obtain⟨b',o',rfl,aD,aa⟩:=(aE.ext hx).open (by rw[u.o];omega);obtain⟨y,W⟩:∃y,ys[i]?=Y y:=⟨ys[i]'(by rw[u.o];omega),by simp[u.o]⟩;obtain⟨x,R⟩:∃x,os[i]?=Y x:=⟨os[i]'(by rw[z.o];omega),by simp[z.o]⟩;have aI:=aa i y W;have aH:=o.cell R;have aQ:=o.frozen i;have ae:=ao.1 y (lM W);have aY:=(ad i x R).2.2 (nE _);have aS:-16777216<k*y/\k*y<16777216:=by
     unfold B at ae;obtain h|h|h:k = -1\/k=0\/k=1:=oM
     all_goals(subst h;omega)
    have al:=za R;have am:=za W;clear aa W R ac L s;have aG:=za ae;clear ae;go_wp2;go_roundw
    case rel =>
     refine⟨i+1,os.set i (x+k*y),by go_num,by omega,by simp[z.o],ax,hL,o.stored i _,AF Hv.o al.o am.o af.o,ad.set oM oM,?_,?_,?_⟩
     ·exact⟨hx.set (by simp;omega) _,dA⟩
     ·simp only[fg];exact az
     ·rw[bS _ _ _ _ sM];exact f.o
    case measure=>simp[intOf];omega
   ·obtain rfl:i=m':=oM;have ah:0<=dv B os:=by
     rw[L,lT (by rw[u.o];omega),ak.o];exact hp
    clear ac L s;have ay:=cell_of_one f.o;have aX:=free_of_one f.o;go_wp2_with(go_at_call 298;refine(Qy (w.heap.size+1+1+1) _ os _ o oM (by rw[z.o];omega) (fun x hx=>by obtain⟨j,hj⟩:=List.mem_iff_getElem?.1 hx;have:=ad j x hj;omega) ah).mono ?_;rintro e w3 ⟨v',zs,rfl,aB,aj,d,ab,aO,aL⟩;obtain⟨ar,aP⟩:=jp ab;obtain⟨a4,c4,rfl⟩:=d.form;have an:=za aj;clear aj);refine bR (v:=Oa #[Z a4 zs.length c4]) (by simp[results,Tryz.results280,go_sem,ar,ay]) rfl ⟨_,rfl,⟨_,zs,rfl,El oM (d.setOther (p:=⟨w.heap.size+1+1,0,M⟩) (d.ne_block ((ab.block _ dO).trans f.o) dM) _),aB,?_⟩,(hx.D ab oM).set (by simp;omega) _,dA⟩;rw[an.o,af.o,lT (by rw[u.o];omega),ak.o]
 ·go_in;go_wp2_with(first|(at_make;refine Aq im Tryz.underlying175 rfl _ _ rfl _ rfl rfl rfl oM ?_;intro w1 b t ai aJ;obtain⟨ap,au⟩:=t.cells;simp only[wZ]at b ai)|(refine iu im Tryz.underlying175 rfl _ _ rfl rfl rfl b (hi.ext ((((eR w).alloc _).alloc _).alloc _ |>.trans t)) (by rw[Hl.o];omega) ?_;intro w2 q K ag aK;obtain⟨aq,av⟩:=jp K));go_loopw [25] (Lp w na ys k m' m) (fun aC _=>m'-(intOf aC).toNat)
  case atStart =>
   refine⟨0,_,rfl,by omega,?_,by omega,by omega,q,?_,?_,?_,?_,?_⟩
   ·have:=Hl.o;simp;omega
   ·rw[List.drop_replicate,Km,Xo,Hv.o];simp
   ·intro j x hj;rw[List.getElem?_append]at hj;split at hj
    ·have:=hc.1 x (lM hj);unfold B at this;omega
    ·have:=List.mem_replicate.1 (List.mem_of_mem_drop (lM hj));omega
   ·exact⟨(((((eR w).alloc _).alloc _).alloc _).trans t).D K oM,dA⟩
   ·have:=K.size;omega
   ·exact ag.get (by rw[t.block sM];exact mc _ _ _ sM) dM
  case round =>
   clear q b t ap au aq av ai K ag;obtain⟨i,os,rfl,aR,ac,ax,hL,o,L,ad,⟨hx,aM⟩,az,s⟩:=hrel;have z:=za ac;have af:=za L;have f:=za s;by_cases aV:i<m'
   ·obtain⟨b',o',rfl,aD,aa⟩:=(aE.ext hx).open (by rw[u.o];omega);obtain⟨y,W⟩:∃y,ys[i]?=Y y:=⟨ys[i]'(by rw[u.o];omega),by simp[u.o]⟩;obtain⟨x,R⟩:∃x,os[i]?=Y x:=⟨os[i]'(by rw[z.o];omega),by simp[z.o]⟩;have aI:=aa i y W;have aH:=o.cell R;have aQ:=o.frozen i;have ae:=ao.1 y (lM W);have aY:=(ad i x R).2.2 (nE _);have aS:-16777216<k*y/\k*y<16777216:=by
     unfold B at ae;obtain h|h|h:k = -1\/k=0\/k=1:=oM
     all_goals(subst h;omega)
    have al:=za R;have am:=za W;clear aa W R ac L s;have aG:=za ae;clear ae;go_wp2;go_roundw
    case rel =>
     refine⟨i+1,os.set i (x+k*y),by go_num,by omega,by simp[z.o],ax,hL,o.stored i _,AF Hv.o al.o am.o af.o,ad.set oM oM,?_,?_,?_⟩
     ·exact⟨hx.set (by simp;omega) _,dA⟩
     ·simp only[fg];exact az
     ·rw[bS _ _ _ _ sM];exact f.o
    case measure=>simp[intOf];omega
   ·obtain rfl:i=m':=oM;have ah:0<=dv B os:=by
     rw[L,lT (by rw[u.o];omega),ak.o];exact hp
    clear ac L s;have ay:=cell_of_one f.o;have aX:=free_of_one f.o;go_wp2_with(go_at_call 298;refine(Qy (w.heap.size+1+1+1) _ os _ o oM (by rw[z.o];omega) (fun x hx=>by obtain⟨j,hj⟩:=List.mem_iff_getElem?.1 hx;have:=ad j x hj;omega) ah).mono ?_;rintro e w3 ⟨v',zs,rfl,aB,aj,d,ab,aO,aL⟩;obtain⟨ar,aP⟩:=jp ab;obtain⟨a4,c4,rfl⟩:=d.form;have an:=za aj;clear aj);refine bR (v:=Oa #[Z a4 zs.length c4]) (by simp[results,Tryz.results280,go_sem,ar,ay]) rfl ⟨_,rfl,⟨_,zs,rfl,El oM (d.setOther (p:=⟨w.heap.size+1+1,0,M⟩) (d.ne_block ((ab.block _ dO).trans f.o) dM) _),aB,?_⟩,(hx.D ab oM).set (by simp;omega) _,dA⟩;rw[an.o,af.o,lT (by rw[u.o];omega),ak.o]
def Ls w i j b nb k(s:Nd w i b)(t:Nd w j nb)(d:Lm Rc b)(f:Lm Rc nb)(u:-1<=k/\k<=1)(x:0<=b+k*nb):Calls Tryz.prog 280 #[i,j,G N k] w fun e m=>∃r,e=.returned r/\jh m w.heap.size r (b+k*nb)/\Ba w m:=by refine(Jo w i j b nb k s t d f u x).mono ?_;rintro e m ⟨r,o,p,q,-⟩;exact⟨r,o,p,q⟩
def Ko{b os p z} u(h:os[p]?=Y z):dv b (os.set p u)=dv b os+b ^ p*(u-z):=by
 have f:=(lS.1 h).1;have e:os=os.take p++z::os.drop (p+1):=by rw[<-kq h,List.take_append_drop]
 have d:os.set p u=os.take p++u::os.drop (p+1):=by rw[List.set_eq_take_append_cons_drop,if_pos f]
 rw[d]
 conv=>rhs;rw[e]
 rw[Km,Km];simp only[Em,List.length_take];rw[Nat.min_eq_left oM];grind
def Wd.set{b os}(h:Wd b os){u}(f:0<=u)(i:u<b) p:Wd b (os.set p u):=by
 intro d e;rcases List.mem_or_eq_of_mem_set e with e|rfl
 ·exact h d e
 ·exact⟨f,i⟩
def Wd.get{b os}(h:Wd b os){p:Nat}{z}(d:os[p]?=Y z):0<=z/\z<b:=h z (lM d)
def Ll(os:List Int)(p:Nat):Prop:=∀j x,os[j]?=Y x->p<=j->x=0
def Ll.set{os p q}(h:Ll os p)(e:q<p) u:Ll (os.set q u) p:=by intro j x b d;rw[List.getElem?_set_ne oM]at b;exact h j x b d
def Ll.set_next{os p}(h:Ll os p) u:Ll (os.set p u) (p+1):=by intro j x b d;rw[List.getElem?_set_ne oM]at b;exact h j x b oM
def Ll.replicate n p:Ll (List.replicate n 0) p:=fun j x b _=>by
 have:=List.mem_replicate.1 (lM b);exact this.2
def TQ{x y}(d:0<=x/\x<B)(b:0<=y/\y<B):0<=x*y/\x*y<=281474943156225:=by unfold B at *;have e:=Int.mul_nonneg d.1 b.1;have f:x*y<=16777215*16777215:=Int.mul_le_mul oM oM b.1 oM;omega
def xR{os d:List Int}{i k x y z b V}(m:os[i+k]?=Y z)(j:d[k]?=Y y)(h:dv B os+B ^ (i+k)*b=V+B ^ i*(x*dv B (d.take k))):dv B (os.set (i+k) ((b+(x*y+z))%16777216))+B ^ (i+(k+1))*((b+(x*y+z))/16777216)=V+B ^ i*(x*dv B (d.take (k+1))):=by
 rw[Ko _ m,Pn B d k y j,<-Nat.add_assoc,Int.pow_succ,Int.pow_add];rw[Int.pow_add]at h;have e:b+(x*y+z)=(b+(x*y+z))%16777216+B*((b+(x*y+z))/16777216):=by unfold B;omega
 generalize hr:(b+(x*y+z))%16777216=r at *
 generalize hq:(b+(x*y+z))/16777216=q at *
 clear hr hq;have f:r=b+(x*y+z)-B*q:=oM;subst f;grind
def QN{us os xs b:List Int}{i k x z e}(m:us[i+k]?=Y z)(d:z=0)(o:b.length=k)(j:xs[i]?=Y x)(h:dv B us+B ^ (i+k)*e=dv B os+B ^ i*(x*dv B (b.take k)))(f:dv B os=dv B (xs.take i)*dv B b):dv B (us.set (i+k) e)=dv B (xs.take (i+1))*dv B b:=by rw[Ko _ m,d,Int.sub_zero,h,f,lT (l:=b) oM,Pn B xs i x j,Int.add_mul,Int.mul_assoc]
def tA(w:O)(xs f:List Int)(e:Option U)(m b c':Nat)(t22:X)(wr:O):Prop:=
 ∃(i:Nat)(d:List Int),t22=G N i/\i<=m/\d.length=m+b/\Cb 2 wr (w.heap.size+1+1+1) (Z (Y ⟨w.heap.size+1+1+1,0,M⟩) (m+b) (m+b)) d/\
  dv B d=dv B (xs.take i)*dv B f/\Wd B d/\Ll d (i+b)/\(Ba w wr/\Dr w wr)/\w.heap.size+1+1+1<wr.heap.size/\wr.cell? ⟨w.heap.size+1,0,M⟩=Y (Z e b c')/\
  wr.heap[w.heap.size+1+1]?=Y (H #[Z M 0 0] 177 (0,0))
def uA(w:O)(x V:Int)(p:List Int)(j:Option U)(i m b c':Nat)(o f:X)(wr:O):Prop:=
 ∃(k:Nat)(e:Int)(d:List Int),f=G N k/\o=G N e/\k<=b/\0<=e/\e<16777216/\d.length=m+b/\Cb 2 wr (w.heap.size+1+1+1) (Z (Y ⟨w.heap.size+1+1+1,0,M⟩) (m+b) (m+b)) d/\
  dv B d+B ^ (i+k)*e=V+B ^ i*(x*dv B (p.take k))/\Wd B d/\Ll d (i+b)/\(Ba w wr/\Dr w wr)/\w.heap.size+1+1+1<wr.heap.size/\wr.cell? ⟨w.heap.size+1,0,M⟩=Y (Z j b c')/\
  wr.heap[w.heap.size+1+1]?=Y (H #[Z M 0 0] 177 (0,0))
def iC w va vb na nb(ha:Nd w va na)(hb:Nd w vb nb)(aV:Lm Rc na)(aW:Lm Rc nb):Calls Tryz.prog 279 #[va,vb] w fun e w'=>∃r,e=.returned r/\jh w' w.heap.size r (na*nb)/\Ba w w'/\Dr w w':=by
 obtain⟨a,m,c,rfl⟩:=ha.form;obtain⟨a',m',c',rfl⟩:=hb.form;obtain⟨xs,hl,hi,hc,hv⟩:=ha.open;obtain⟨ys,al,aU,ar,ao⟩:=hb.open;have hm:=aV.len hc hv;have ax:=aW.len ar ao;rw[hl]at hm;rw[al]at ax;unfold Rc at hm ax;have Hl:=za hl;have ac:=za al;have Hv:=za hv;have aH:=za ao;clear hl al hv ao;go_in;go_wp2_with(at_make;refine Aq (n:=m+m') im Tryz.underlying175 rfl _ _ rfl _ rfl rfl sM oM ?_;intro w1 s u aA a6;obtain⟨au,aS⟩:=u.cells;simp only[wZ]at s aA);go_loopw [22] (tA w xs ys a' m m' c') (fun a0 _=>m-(intOf a0).toNat)
 case atStart =>
  refine⟨0,_,rfl,by omega,by simp,s,?_,?_,Ll.replicate _ _,⟨(((eR w).alloc _).alloc _).alloc _ |>.trans u,dA⟩,by omega,?_,?_⟩
  ·rw[Xo];simp
  ·intro d hd;have:=(List.mem_replicate.1 hd).2;unfold B;omega
  ·rw[au _ _ sM];go_simp
  ·rw[u.block sM];exact mc _ _ _ sM
 case round =>
  clear s u au aS aA;obtain⟨i,os,rfl,ba,ay,f,aa,W,aF,⟨hx,ak⟩,ab,aj,q⟩:=hrel;have aq:=za ay;have ap:=za aa;have K:=za q;clear ay aa q;by_cases bc:i<m
  ·obtain⟨b,o,rfl,aO,u⟩:=(hi.ext hx).open (by rw[Hl.o];omega);obtain⟨x,ad⟩:∃x,xs[i]?=Y x:=⟨xs[i]'(by rw[Hl.o];omega),by simp[Hl.o]⟩;have aQ:=u i x ad;have aC:=hc.1 x (lM ad);have aJ:=za ad;have aI:=za aC;clear u ad aC;go_wp2;obtain⟨wo,rfl⟩:∃wo:O,wo=wr:=⟨_,rfl⟩;go_loopw [8,30] (uA w x (dv B os) ys a' i m m' c') (fun _ a1 _=>m'-(intOf a1).toNat)
   case atStart=>exact⟨0,0,os,rfl,rfl,by omega,by omega,by omega,aq.o,f,by simp,W,aF,⟨hx,ak⟩,ab,aj,K.o⟩
   case round =>
    clear f hx ak ab aj aQ aO;obtain⟨k,cy,us,rfl,rfl,bb,av,aw,aB,f,aa,am,an,⟨hx,ak⟩,ab,aj,q⟩:=hrel;have L:=za aB;have af:=za aa;have R:=za q;clear aB aa q;by_cases a3:k<m'
    ·obtain⟨b',o',rfl,a2,ag⟩:=(aU.ext hx).open (by rw[ac.o];omega);obtain⟨y,ae⟩:∃y,ys[k]?=Y y:=⟨ys[k]'(by rw[ac.o];omega),by simp[ac.o]⟩;obtain⟨z,j⟩:∃z,us[i+k]?=Y z:=⟨us[i+k]'(by rw[L.o];omega),by simp[L.o]⟩;have a5:=ag k y ae;have aR:=f.cell j;have aT:=f.frozen (i+k);have aD:=ar.1 y (lM ae);have aY:=am.get j;obtain⟨be,bf⟩:=TQ aI.o aD;unfold B at aY;have aK:=za ae;have ah:=za j;clear ag ae j aD;go_wp2;go_roundw
     case rel =>
      rw[An];refine⟨k+1,_,us.set (i+k) ((cy+(x*y+z))%16777216),by go_num,rfl,by omega,by omega,by omega,by simp[L.o],f.stored _ _,xR ah.o aK.o af.o,am.set oM (by unfold B;omega) _,an.set oM _,⟨hx.set (by simp;omega) _,dA⟩,by simp only[fg];exact ab,by go_simp,?_⟩;rw[bS _ _ _ _ sM];exact R.o
     case measure=>simp[intOf];omega
    ·obtain rfl:k=m':=oM;obtain⟨z,j⟩:∃z,us[i+k]?=Y z:=⟨us[i+k]'(by rw[L.o];omega),by simp[L.o]⟩;have aR:=f.cell j;have aT:=f.frozen (i+k);have aE:=an _ z j (nE _);have aL:=za aE;have ah:=za j;clear aE j;go_wp2;go_roundw
     case rel =>
      refine⟨i+1,us.set (i+k) cy,by go_num,by omega,by simp[L.o],f.stored _ _,?_,am.set av aw _,?_,⟨hx.set (by simp;omega) _,dA⟩,by simp only[fg];exact ab,by go_simp,?_⟩
      ·exact QN ah.o aL.o ac.o aJ.o af.o ap.o
      ·have:=an.set_next cy
       rwa [show i+k+1=i+1+k by omega]at this
      ·rw[bS _ _ _ _ sM];exact R.o
     case measure=>simp[intOf];omega
  ·obtain rfl:i=m:=oM;have aX:=cell_of_one K.o;have bg:=free_of_one K.o;have az:0<=dv B os:=(Yi zj W).1;go_wp2_with(go_at_call 298;refine(Qy (w.heap.size+1+1+1) _ os _ f oM (by rw[aq.o];omega) (fun x hx=>by have:=W x hx;unfold B at this;omega) az).mono ?_;rintro e w3 ⟨v',zs,rfl,aZ,aG,t,ai,a8,a7⟩;obtain⟨aP,a9⟩:=jp ai;obtain⟨a4,c4,rfl⟩:=t.form;have aM:=za aG;clear aG);refine bR (v:=Oa #[Z a4 zs.length c4]) (by simp[results,Tryz.results279,go_sem,aP,aX]) rfl ⟨_,rfl,⟨_,zs,rfl,El oM (t.setOther (p:=⟨w.heap.size+1+1,0,M⟩) (t.ne_block ((ai.block _ dO).trans K.o) dM) _),aZ,?_⟩,(hx.D ai oM).set (by simp;omega) _,dA⟩;rw[aM.o,ap.o,lT (by rw[Hl.o];omega),Hv.o,aH.o]
def Qw{P f args w}{p:O->X->Prop}(h:Calls P f args w fun e b=>∃r,e=.returned r/\p b r/\Ba w b/\Dr w b):Calls P f args w fun e b=>∃r,e=.returned r/\p b r/\Ba w b:=h.mono fun _ _ ⟨r,d,i,j,_⟩=>⟨r,d,i,j⟩
def PE w i j b nb(m:Nd w i b)(o:Nd w j nb)(d:Lm Rc b)(f:Lm Rc nb):Calls Tryz.prog 279 #[i,j] w fun e k=>∃r,e=.returned r/\jh k w.heap.size r (b*nb)/\Ba w k:=Qw (iC w i j b nb m o d f)
def pu y:bits BinOp.and IntKind.i64 y 1=y%2:=by
 show IntKind.i64.wrap (((BitVec.ofInt 64 y &&& BitVec.ofInt 64 1).toNat:Nat):Int)=_;have b:(BitVec.ofInt 64 y &&& BitVec.ofInt 64 1).toNat=(y%18446744073709551616).toNat%2:=by
  rw[BitVec.toNat_and,BitVec.toNat_ofInt];have:(BitVec.ofInt 64 1).toNat=2 ^ 1-1:=dM;rw[this,Nat.and_two_pow_sub_one_eq_mod];rfl
 rw[b];simp[IntKind.wrap,IntKind.signed,IntKind.bits];omega
def Lq y(b:0<=y)(e:y<18446744073709551616):bits BinOp.and IntKind.u64 y 16777215=y%16777216:=by obtain⟨n,rfl⟩:=Int.eq_ofNat_of_zero_le b;have h:=bits_and_u64_nat n (2 ^ 24-1) oM dM;rw[Nat.and_two_pow_sub_one_eq_mod]at h;have d:((n%2 ^ 24:Nat):Int)=(n:Int)%16777216:=oM;rw[d]at h;exact h
def iD ds x:dv B (x::ds)%2=x%2:=by simp only[Em];unfold B;omega
def qo w p d(f:Nd w p d)(K:0<d):Calls Tryz.prog 314 #[p] w fun e u=>e=.returned (.bool (d%2==0))/\Ba w u:=by
 obtain⟨a,m,c,rfl⟩:=f.form;obtain⟨xs,j,i,q,hv⟩:=f.open;cases xs with
 | nil=>simp at hv;omega
 | cons x xs =>
  obtain⟨b,o,rfl,z,k⟩:=i.open sM;have t:w.cell? ⟨b,o,M⟩=Y (G N x):=by simpa using k 0 x rfl
  have s:(0:Int)<(m:Int):=by rw[<-j];simp
  have y:=pu x;have e:(d%2==0)=(x%2==0):=by rw[<-hv,iD]
  have E:=za e;clear e hv j k q i f;go_in;go_wp2;go_ret;exact⟨Uj (by rw[E.o];rfl),(eR w).alloc _⟩
def MA(g:Nat)(t0 e:X)(wr d:O):Prop:=∃a b:Nat,t0=G .u64 a/\e=G .u64 b/\a<18446744073709551616/\b<18446744073709551616/\Nat.gcd a b=g/\Ba d wr
def MS w(a b:Nat)(p:a<18446744073709551616)(q:b<18446744073709551616):Calls Tryz.prog 316 #[G .u64 a,G .u64 b] w fun e u=>e=.returned (G .u64 (Nat.gcd a b:Nat))/\Ba w u:=by
 obtain⟨g,d⟩:=gX (Nat.gcd a b);rw[d];go_in;go_wp2;go_loopw [0,1] (fun t m wr=>MA g t m wr w) (fun _ m _=>(intOf m).toNat)
 case atStart=>exact⟨a,b,rfl,rfl,p,q,d,eR w⟩
 case round =>
  clear p q d;obtain⟨x,y,rfl,rfl,R,s,d,f⟩:=hrel;have o:=za d;clear d;by_cases i:y=0
  ·subst i;go_wp2;go_ret;exact⟨Uj (Ak (by rw[<-o.o];simp)),f⟩
  ·have z:((y:Int)==0)=false:=by simp;omega
   have K:((y:Int) != 0)=true:=by simp;omega
   have L:(1:Int)<=(y:Int):=oM;clear i;go_wp2;go_quiet (fail);go_wp2;go_roundw
   case rel =>
    have k:0<y:=oM;have j:=Nat.mod_lt x k;exact⟨y,x%y,rfl,Ak sM,s,by omega,by rw[<-o.o,Nat.gcd_comm x y,Nat.gcd_rec y x,Nat.gcd_comm],f.drewN _⟩
   case measure =>
    have j:=Int.emod_lt_of_pos (x:Int) (show (0:Int)<y by omega);have i:=Int.emod_nonneg (x:Int) (show (y:Int)≠0 by omega);simp[intOf];omega
def DR d b:dv B (d++[b%16777216])+B ^ (d++[b%16777216]).length*(b/16777216)=dv B d+B ^ d.length*b:=by
 rw[Nn,lA,List.length_singleton,Int.pow_succ];have e:b=b%16777216+B*(b/16777216):=by unfold B;omega
 generalize b%16777216=r at *
 generalize b/16777216=q at *
 subst e;grind
def qu(w:O)(n:Int)(t0 t3:X)(wr:O):Prop:=
 ∃(m:Nat)(b:List Int),t0=G .u64 m/\m<18446744073709551616/\Cb 2 wr (w.heap.size+1) t3 b/\dv B b+B ^ b.length*m=n/\Wd B b/\(m=0->Cg B b)/\b.length<=3/\(0<m->b.length<=2)/\(65535<m->b.length<=1)/\(1099511627775<m->b.length=0)/\(Ba w wr/\Dr w wr)/\w.heap.size<wr.heap.size/\
  wr.heap[w.heap.size]?=Y (H #[Z M 0 0] 177 (0,0))
def lB w n(h0:0<=n)(h1:n<18446744073709551616):Calls Tryz.prog 281 #[G .u64 n] w fun e W=>∃r,e=.returned r/\jh W w.heap.size r n/\Ba w W/\Dr w W:=by
 obtain⟨n,rfl⟩:=Int.eq_ofNat_of_zero_le h0;go_in;go_wp2;go_loopw [0,3] (qu w n) (fun t0 _ _=>(intOf t0).toNat)
 case atStart=>exact⟨n,[],rfl,by omega,Cb.nil _ _ _,by simp,Wd.nil _,fun _=>Cg.nil _,by simp,by simp,by simp,by simp,⟨(eR w).alloc _,dA⟩,by simp,aN _ _⟩
 case round =>
  clear h0 h1;obtain⟨m,x,rfl,hm,d,hv,hd,i,ab,u,t,s,⟨hx,K⟩,hs,b⟩:=hrel;have Hv:=za hv;have o:=za b;obtain⟨a,c,rfl⟩:=d.form;have y:=Lq m oM oM;by_cases R:m=0
  ·subst R;have q:=za (i rfl);have L:=cell_of_one b;have ae:=free_of_one b;clear hv b y hm u t s i;go_wp2;refine bR (v:=Oa #[Z a x.length c]) (by simp[results,Tryz.results281,go_sem,L]) rfl ⟨_,rfl,⟨_,x,rfl,El oM (d.setOther (p:=⟨w.heap.size,0,M⟩) (d.ne_block o.o dM) _),q.o,?_⟩,hx.set sM _,dA⟩;rw[<-Hv.o];simp
  ·have ac:(0:Int)<(m:Int):=oM;have HA:=za y;have aa:=u oM;clear hv b R y i;go_wp2_with(at_builtin;refine xp im Tryz.underlying175 rfl _ _ rfl rfl d rfl oM oM ?_;intro v' w1 j f k z);rw[HA.o,IntWalk.wrap64_in _ ⟨by omega,by omega⟩]at j;go_roundw
   case rel =>
    have ad:0<m:=oM;refine⟨m/16777216,x++[(m:Int)%16777216],Ak sM,by omega,j,?_,hd.snoc oM (by unfold B;omega),?_,?_,?_,?_,?_,⟨hx.D f oM,K.trans z⟩,?_,k.get o.o dM⟩
    ·rw[<-Hv.o];have h2:=DR x (m:Int);simpa using h2
    ·intro R;refine⟨hd.snoc oM (by unfold B;omega),?_⟩;simp;omega
    ·simp;omega
    ·intro h;simp;exact t oM
    ·intro h;have:=s oM;rw[lA,List.length_singleton];omega
    ·intro h;omega
    ·have:=f.size;omega
   case measure=>simp[intOf];omega
def Gr w n(d:0<=n)(f:n<18446744073709551616):Calls Tryz.prog 281 #[G .u64 n] w fun e b=>∃r,e=.returned r/\jh b w.heap.size r n/\Ba w b:=Qw (lB w n d f)
def sP(x:Int)(b:0<=x)(d:x<16777216):0<=x/2/\x/2<8388608/\0<=x%2/\x%2<=1:=oM
def ul(xs os:List Int)(i:Nat):Prop:=(i=0->dv B os=0)/\(0<i->2*dv B os=dv B (xs.take i)-dv B xs%2)
def ul.step{xs os i x u}(h:ul xs os i)(d:xs[i]?=Y x)(f:os[i]?=Y 0)(m:(i=0->u=0)/\(0<i->∃z,os[i-1]?=Y z/\u=z+(x%2)*8388608)):ul xs (if i=0 then os.set i (x/2)else (os.set i (x/2)).set (i-1) u) (i+1):=by
 refine⟨fun o=>by omega,fun _=>?_⟩;rcases i with _|j
 ·cases xs with
  | nil=>simp at d
  | cons y L =>
   simp at d;subst d;rw[if_pos rfl,Ko _ f,h.1 rfl,iD];simp;omega
 ·obtain⟨z,b,rfl⟩:=m.2 oM;simp only[Nat.add_sub_cancel]at b;have K:=h.2 oM;rw[if_neg oM,Nat.add_sub_cancel,Ko (z:=z) _ (by rw[List.getElem?_set_ne oM];exact b),Ko _ f,Pn B xs (j+1) x d,Int.sub_zero,Int.pow_succ];have e:x=x%2+2*(x/2):=oM;generalize x%2=r at *
  generalize x/2=q at *
  subst e;have k:B=2*8388608:=rfl;generalize B ^ j=p at *
  generalize dv B xs%2=s at *
  generalize dv B (List.take (j+1) xs)=t at *
  generalize dv B os=v at *
  rw[k];grind
def Iu(os:List Int)(i:Nat):Prop:=∀j x,os[j]?=Y x->0<=x/\x<16777216/\(i<=j+1->x<8388608)/\(i<=j->x=0)
def Hu(w:O)(xs:List Int)(m:Nat)(d:X)(wr:O):Prop:=
 ∃(i:Nat)(b:List Int),d=G N i/\i<=m/\b.length=m/\Cb 2 wr (w.heap.size+1+1) (Z (Y ⟨w.heap.size+1+1,0,M⟩) m m) b/\
  ul xs b i/\Iu b i/\Ba w wr/\w.heap.size+1+1<wr.heap.size/\wr.heap[w.heap.size+1]?=Y (H #[Z M 0 0] 177 (0,0))
def Gv w va na(ha:Nd w va na)(az:Lm Rc na):Calls Tryz.prog 315 #[va] w fun e w'=>∃r,e=.returned r/\jh w' w.heap.size r (na/2)/\Ba w w':=by
 obtain⟨a,m,c,rfl⟩:=ha.form;obtain⟨xs,hl,hi,hc,hv⟩:=ha.open;have hm:=az.len hc hv;rw[hl]at hm;unfold Rc at hm;have Hl:=za hl;have Hv:=za hv;clear hl hv;go_in;go_wp2_with(at_make;refine yw (n:=m) im Tryz.underlying175 rfl _ _ rfl _ rfl rfl rfl oM ?_;intro w1 K R ao;obtain⟨av,ay⟩:=R.cells;simp only[wZ]at K ao);go_loopw [13] (Hu w xs m) (fun aD _=>m-(intOf aD).toNat)
 case atStart =>
  refine⟨0,_,rfl,by omega,by simp,K,⟨fun _=>Xo _ _,fun h=>by omega⟩,?_,((eR w).alloc _).alloc _ |>.trans R,by omega,?_⟩
  ·intro j x k;have:=(List.mem_replicate.1 (lM k)).2;subst this;simp
  ·rw[R.block sM];exact mc _ _ _ sM
 case round =>
  clear K R av ay ao;obtain⟨i,os,rfl,aP,am,f,ab,W,hx,ap,ag⟩:=hrel;have t:=za am;have s:=za ag;clear am ag;by_cases aQ:i<m
  ·obtain⟨b,o,rfl,aH,R⟩:=(hi.ext hx).open (by rw[Hl.o];omega);obtain⟨x,ac⟩:∃x,xs[i]?=Y x:=⟨xs[i]'(by rw[Hl.o];omega),by simp[Hl.o]⟩;have ax:=R i x ac;obtain⟨z0,ad⟩:∃z,os[i]?=Y z:=⟨os[i]'(by rw[t.o];omega),by simp[t.o]⟩;have aC:=(W _ _ ad).2.2.2 (nE _);subst aC;have aI:=f.cell ad;have aL:=f.frozen i;have ai:=hc.1 x (lM ac);have aE:=sP x ai.1 ai.2;have hA:=pu x;have ak:=za ac;have al:=za ad;clear R ac ad ai;rcases i with _|j
   ·simp only[Nat.add_zero]at ax;go_wp2;go_roundw
    case rel =>
     have aa:=ab.step (u:=0) ak.o al.o ⟨fun _=>rfl,fun h=>by omega⟩;rw[if_pos rfl]at aa;refine⟨1,os.set 0 (x/2),by go_num,by omega,by simp[t.o],f.stored 0 _,aa,?_,hx.set dO _,by simp only[fg];exact ap,?_⟩
     ·intro j y k;rw[List.getElem?_set]at k;split at k
      ·subst j;split at k
       ·cases k;omega
       ·cases k
      ·have:=W j y k;omega
     ·rw[bS _ _ _ _ sM];exact s.o
    case measure=>simp[intOf];omega
   ·obtain⟨z1,ae⟩:∃z,os[j]?=Y z:=⟨os[j]'(by rw[t.o];omega),by simp[t.o]⟩;have aj:=W _ _ ae;have aG:=aj.2.2.1 (nE _);have aF:=aj.1;have aJ:=f.cell ae;have aO:=f.frozen j;have ar:=za ae;clear ae aj;go_wp2;go_roundw
    case rel =>
     have aa:=ab.step (u:=z1+x%2*8388608) ak.o al.o ⟨fun h=>by omega,fun _=>⟨z1,ar.o,rfl⟩⟩;rw[if_neg oM,Nat.add_sub_cancel]at aa;refine⟨j+1+1,(os.set (j+1) (x/2)).set j (z1+x%2*8388608),by go_num,by omega,by simp[t.o],(f.stored _ _).stored _ _,aa,?_,(hx.set (by simp;omega) _).set (by simp;omega) _,by simp only[fg];exact ap,?_⟩
     ·intro q y k;rw[List.getElem?_set]at k;split at k
      ·subst q;split at k
       ·cases k;omega
       ·cases k
      ·rw[List.getElem?_set]at k;split at k
       ·subst q;split at k
        ·cases k;omega
        ·cases k
       ·have:=W q y k;omega
     ·rw[bS _ _ _ _ sM,bS _ _ _ _ sM];exact s.o
    case measure=>simp[intOf];omega
  ·obtain rfl:i=m:=oM;have aA:=cell_of_one s.o;have aR:=free_of_one s.o;have af:Wd B os:=fun d hd=>by obtain⟨j,k⟩:=List.mem_iff_getElem?.1 hd;have:=W j d k;exact⟨this.1,this.2.1⟩
   have an:0<=dv B os:=(Yi zj af).1;go_wp2_with(go_at_call 298;refine(Mz (w.heap.size+1+1) _ os _ f oM (by rw[t.o];omega) (fun x hx=>by have:=af x hx;unfold B at this;omega) an).mono ?_;rintro e w3 ⟨v',zs,rfl,aB,aq,L,ah,aK⟩;obtain⟨aw,aM⟩:=jp ah;obtain⟨a4,c4,rfl⟩:=L.form;have au:=za aq;clear aq);refine bR (v:=Oa #[Z a4 zs.length c4]) (by simp[results,Tryz.results315,go_sem,aw,aA]) rfl ⟨_,rfl,⟨_,zs,rfl,El oM (L.setOther (p:=⟨w.heap.size+1,0,M⟩) (L.ne_block ((ah.block _ dO).trans s.o) dM) _),aB,?_⟩,(hx.D ah oM).set sM _⟩;rw[au.o];rcases i with _|j
   ·rw[ab.1 rfl,<-Hv.o,List.eq_nil_of_length_eq_zero Hl.o];rfl
   ·have:=ab.2 oM;rw[lT (by rw[Hl.o];omega),Hv.o]at this;omega
def mS b k xs:dv b (xs.map (·*k))=k*dv b xs:=by
 induction xs with
 | nil=>simp
 | cons x xs d=>simp only[List.map_cons,Em,d];grind
def oD r(h:r<24):(1:Int)<=2 ^ r/\(2:Int) ^ r<=8388608:=by
 have b:(2:Int) ^ r<=2 ^ 23:=by
  obtain⟨k,e⟩:=Nat.exists_eq_add_of_le (show r<=23 by omega);have:(2:Int) ^ 23=2 ^ r*2 ^ k:=by rw[<-Int.pow_add,<-e]
  have f:(0:Int)<2 ^ k:=Int.pow_pos dM;have d:(0:Int)<2 ^ r:=Int.pow_pos dM;have:(2:Int) ^ r*1<=2 ^ r*2 ^ k:=Int.mul_le_mul_of_nonneg_left oM oM;omega
 have d:(0:Int)<2 ^ r:=Int.pow_pos dM;exact⟨by omega,b⟩
def GH q:B ^ q=2 ^ (24*q):=by rw[Int.pow_mul];rfl
def qU(w:O)(xs:List Int)(m k:Nat)(t5 t21:X)(wr:O):Prop:=
 ∃(i:Nat)(b:Option U)(d:Nat),t21=G N i/\i<=m/\t5=Z b (k/24+i) d/\Cb 2 wr (w.heap.size+1+1) t5 (List.replicate (k/24) 0++(xs.take i).map (·*2 ^ (k%24)))/\
  Ba w wr/\w.heap.size+1+1<wr.heap.size/\wr.heap[w.heap.size+1]?=Y (H #[Z M 0 0] 177 (0,0))
def gG w va na(k:Nat)(ha:Nd w va na)(ap:Lm Rc na)(hk:k<=10000000000):Calls Tryz.prog 318 #[va,G N k] w fun e w'=>∃r,e=.returned r/\jh w' w.heap.size r (2 ^ k*na)/\Ba w w':=by
 obtain⟨a,m,c,rfl⟩:=ha.form;obtain⟨xs,hl,hi,hc,hv⟩:=ha.open;have hm:=ap.len hc hv;rw[hl]at hm;unfold Rc at hm;have Hl:=za hl;have Hv:=za hv;clear hl hv;go_in;go_wp2_with(at_make;refine MT (n:=k/24) (m:=k/24+m+1) im Tryz.underlying175 rfl _ _ rfl _ _ rfl rfl sM sM oM oM ?_;intro w1 f j af;obtain⟨am,ao⟩:=j.cells;simp only[wZ]at f af);go_loopw [5,21] (qU w xs m k) (fun _ av _=>m-(intOf av).toNat)
 case atStart =>
  refine⟨0,_,_,rfl,by omega,rfl,by simpa using f,((eR w).alloc _).alloc _ |>.trans j,by omega,?_⟩;rw[j.block sM];exact mc _ _ _ sM
 case round =>
  clear f j am ao af;obtain⟨i,a2,c2,rfl,aA,rfl,s,hx,aF,W⟩:=hrel;have q:=za W;clear W;by_cases aB:i<m
  ·obtain⟨b,o,rfl,aw,j⟩:=(hi.ext hx).open (by rw[Hl.o];omega);obtain⟨x,R⟩:∃x,xs[i]?=Y x:=⟨xs[i]'(by rw[Hl.o];omega),by simp[Hl.o]⟩;have ax:=j i x R;have K:=hc.1 x (lM R);have ak:=za R;have aj:=za K;have aC:(0:Int)<=(k:Int)%24:=oM;have aD:(k:Int)%24<24:=oM;clear j R K;go_wp2_with(at_builtin;refine lj im Tryz.underlying175 rfl _ _ rfl rfl s rfl (by simp;omega) oM ?_;intro v' w2 d t L);go_roundw
   case rel =>
    obtain⟨a3,c3,rfl⟩:=d.form;have hp:=oD (k%24) (Nat.mod_lt _ dM);have K:=aj.o;unfold B at K;have h1:0<=x*2 ^ (k%24):=Int.mul_nonneg K.1 oM;have h2:x*2 ^ (k%24)<=16777216*8388608:=Int.mul_le_mul oM hp.2 oM oM;rw[IntWalk.wrap64_in _ ⟨by omega,by omega⟩]at d ⊢;have aq:(List.replicate (k/24) 0++List.map (fun x=>x*2 ^ (k%24)) (List.take i xs)++[x*2 ^ (k%24)]).length=k/24+(i+1):=by
     have:=Hl.o;simp;omega
    rw[aq]at d ⊢;refine⟨i+1,a3,c3,by go_num,by omega,rfl,?_,hx.D t oM,?_,L.get q.o dM⟩
    ·rw[ze _ _ _ ak.o,List.map_append,<-List.append_assoc];exact d
    ·have:=t.size;omega
   case measure=>simp[intOf];omega
  ·obtain rfl:i=m:=oM;have ar:=cell_of_one q.o;have aE:=free_of_one q.o;rw[lT (by rw[Hl.o];omega)]at s;obtain⟨os,u⟩:∃os,os=List.replicate (k/24) 0++xs.map (·*2 ^ (k%24)):=⟨_,rfl⟩;have ad:os.length=k/24+i:=by rw[u];simp[Hl.o]
   rw[<-u]at s;have z:dv B os=2 ^ k*na:=by
    rw[u,Km,Xo,mS,List.length_replicate,Hv.o,GH,Int.zero_add,<-Int.mul_assoc,<-Int.pow_add]
    congr 2;omega
   have ac:∀x∈os,-4611686018427387904<=x/\x<=4611686018427387904:=by
    intro x hx;rw[u]at hx;rcases List.mem_append.1 hx with h|h
    ·have:=(List.mem_replicate.1 h).2;omega
    ·obtain⟨y,hy,rfl⟩:=List.mem_map.1 h;have ag:=hc.1 y hy;unfold B at ag;have hp:=oD (k%24) (Nat.mod_lt _ dM);have h1:0<=y*2 ^ (k%24):=Int.mul_nonneg ag.1 oM;have h2:y*2 ^ (k%24)<=16777216*8388608:=Int.mul_le_mul oM hp.2 oM oM;omega
   have ae:0<=dv B os:=by rw[z];exact Int.mul_nonneg (Int.le_of_lt (Int.pow_pos dM)) ha.nonneg
   have ab:=za z;have ai:=za ad;clear z ad u hi ha hc;go_wp2_with(go_at_call 298;with_reducible refine(Mz (w.heap.size+1+1) _ os _ s oM (by rw[ai.o];omega) ac ae).mono ?_;rintro e w3 ⟨v',zs,rfl,au,ah,d,aa,ay⟩;obtain⟨an,az⟩:=jp aa;obtain⟨a4,c4,rfl⟩:=d.form;have al:=za ah;clear ah);refine bR (v:=Oa #[Z a4 zs.length c4]) (by simp[results,Tryz.results318,go_sem,an,ar]) rfl ⟨_,rfl,⟨_,zs,rfl,El oM (d.setOther (p:=⟨w.heap.size+1,0,M⟩) (d.ne_block ((aa.block _ dO).trans q.o) dM) _),au,?_⟩,(hx.D aa oM).set dO _⟩;rw[al.o,ab.o]
end
section
open Go.RowKit Go.Shelf
attribute [local go_sem] Oper.semAt_some
def jk(B:Nat)(W W':O):Prop:=Below B W W'/\∀(k:Nat)(o:Obj),W.heap[k]?=Y o->o.isCells=true->W'.heap[k]?=Y o
def jk.of_grown{B W W' row}(d:W.grownBy W' row)(p:B<=W.heap.size)(i:∀r,row=Y r->B<=r/\∃o:Obj,W.heap[r]?=Y o/\o.isCells=false):jk B W W':=by refine⟨(Below.refl B W).grown d p (fun k b=>(i k b).1),fun k o b f=>?_⟩;rw[d.block k (Ya b) (fun e=>by obtain⟨_,q,j,m⟩:=i k e.symm;rw[j]at b;cases b;rw[m]at f;cases f)];exact b
def jk.keep{B W W'}(h:jk B W W') T:Ja T W W':=fun b e f d=>h.2 b _ d rfl
def jk.ext{B w W W'}(h:jk B W W')(k:Ba w W)(b:w.heap.size<=B):Ba w W':=k.D h.1 b
def jk.heap{B W W'}(h:jk B W W'){b:Nat}{cs T d}(e:W.heap[b]?=Y (H cs T d)):W'.heap[b]?=Y (H cs T d):=h.2 b _ e rfl
def jk.size{B W W'}(h:jk B W W'):W.heap.size<=W'.heap.size:=h.1.size
def Qk{β B}{I:β->O->Prop}(f:∀s W,I s W->B<=W.heap.size)(h:∀s W W',I s W->jk B W W'->I s W'):OwnFrom B I:=
 fun s W W' _ b d e=>h s W W' b (jk.of_grown d (f s W b) e)
def sE w sl n c:Calls Tryz.prog 319 #[Oa #[Z sl n c]] w fun e f=>e=.returned (.func (.func 322) #[] #[Ob (Y ⟨w.heap.size,0,M⟩)])/\w.alloc (H #[Z sl n c] 177)=f:=by have d:∀(b:Fn)(first cap:Array X)(w:O),(Instr.makeFunc b first cap).run Tryz.prog w = .ok (.func b first cap) w:=fun _ _ _ _=>rfl;go_in;go_wp2;go_ret;exact⟨rfl,rfl⟩
abbrev Oj:={ x:Int // 0<=x/\x<16777216 }
def Dg(xs:List Oj):List Int:=xs.map (·.1)
def Fx:∀{xs},Wd B xs->∃ds,Dg ds=xs
 | [],_=>⟨[],rfl⟩
 | x::xs,h=>by
  obtain⟨ds,b⟩:=Fx (fun d b=>h d (mC _ b):Wd B xs);exact⟨⟨x,h x (List.mem_cons_self)⟩::ds,congrArg (x::·) b⟩
def ML xs:Wd B (Dg xs):=by intro d b;obtain⟨x,_,rfl⟩:=List.mem_map.1 b;exact x.2
@[simp] theorem nw xs:(Dg xs).length=xs.length := by simp[Dg]
def Qe(w:O)(bx:Nat)(W W':O):Prop:=Below w.heap.size W W'/\W'.heap[bx]?=W.heap[bx]?
def Qe.refl w b W:Qe w b W W:=⟨Below.refl _ _,rfl⟩
def Qe.trans{w b A B C}(h:Qe w b A B)(k:Qe w b B C):Qe w b A C:=⟨h.1.trans k.1,k.2.trans h.2⟩
def Qe.put{w b}{w0:O}(p:w.heap.size<=w0.heap.size)(j:b<w0.heap.size) W l o f(m:w0.heap.size<=l)(h:W.heap[l]?=Y o)(_:o.isCells=false)(_:o.isWalk=false):Qe w b W (W.putObj l f):=by have d:=grownBy_putObj' W l f;have i:=Ya h;exact⟨(Below.refl _ W).grown d oM (fun k e=>by cases e;omega),d.block b oM (by intro e;cases e;omega)⟩
def Qe.set{w b A B}(h:Qe w b A B){p}(f:w.heap.size<=p.block)(d:p.block≠b) u:Qe w b A (B.setCell p u):=
 ⟨h.1.setCell f u,(bS _ _ _ _ (fun e=>d e.symm)).trans h.2⟩
def Qe.ext{w b A B C}(h:Qe w b A B)(k:Ba B C)(e:w.heap.size<=B.heap.size)(d:b<B.heap.size):Qe w b A C:=⟨h.1.trans (Below.mono k e),(k.block d).trans h.2⟩
def Qe.below{w b A B C n}(h:Qe w b A B)(k:Below n B C)(e:w.heap.size<=n)(d:b<n):Qe w b A C:=⟨h.1.trans (Below.mono k e),(k.block _ d).trans h.2⟩
def Qe.drewN{w b A B}(h:Qe w b A B) n:Qe w b A (B.drewN n):=⟨below_drewN h.1 n,h.2⟩
def LM F n(hf:F.fn 322)(L:F.round=M)(hn:1<=n) l d w w0 sl xs(J Jx:List Oj->O->Prop)(hY:∀pre x W,J pre W->pre.length<xs.length->YieldAt F (n-1) Tryz.prog l #[G N x.1] W fun e W' =>
   (e=.returned (.bool true)/\J (pre++[x]) W'/\Qe w d W W')\/(e=.returned (.bool false)/\Jx (pre++[x]) W'))
  (f:w0.cell? ⟨d,0,M⟩=Y sl)(ac:d<w0.heap.size)(hi:Mc 2 w sl (Dg xs))(hw:Ba w w0) W(hW:Qe w d w0 W)(h0:J [] W) :
  CallsIn F n Tryz.prog 322 #[.func (.yield l) #[] #[],Ob (Y ⟨d,0,M⟩)] W fun e W'=>(∃v,e=.returned v)/\
   ((∃ys,ys=xs.reverse/\J ys W')\/(∃pre,pre <+: xs.reverse/\Jx pre W')):=by
 obtain⟨a,c,rfl⟩:=hi.form;have t:=hi.le;obtain⟨m,u⟩:=gX xs.length;rw[nw,u]at hi f t;rw[u]at hY;unfold maxLen at t;have p:=za u;clear u;have aa:W.cell? ⟨d,0,M⟩=Y (Z a m c):=(World.cell?_of_block hW.2).trans f;refine callsIn_of_wp Tryz.func322 rfl hf ?_ L;simp only[Tryz.ntmps322,List.size_toArray,List.length_cons,List.length_nil,Nat.reduceAdd,Nat.reduceSub,Array.replicate_succ,Array.replicate_zero,List.push_toArray,List.append_toArray,List.nil_append,List.cons_append]
 gi_wp2
 gi_loopw [3] (fun t3 wr=>∃k:Nat,k<=m/\t3=G N ((k:Int)-1)/\J (xs.drop k).reverse wr/\Qe w d w0 wr)
  (fun t3 _=>(intOf t3+1).toNat)
 case atStart=>exact⟨m,nE _,rfl,by rw[List.drop_of_length_le (by rw[p.o];omega)];exact h0,hW⟩
 case round =>
  obtain⟨k,ae,rfl,hJ,R⟩:=hrel;rcases k with _|k
  ·gi_wp2
   go_end0
   exact⟨⟨_,rfl⟩,.inl ⟨_,rfl,by simpa using hJ⟩⟩
  ·rw[show (((k+1:Nat):Int)-1)=(k:Int) by omega];obtain⟨b,o,rfl,hb,hc⟩:=(hi.ext (hw.D R.1 (nE _))).open (by rw[nw,p.o];omega);obtain⟨x,i⟩:∃x,xs[k]?=Y x:=⟨xs[k]'(by rw[p.o];omega),by simp[p.o]⟩;have ad:=hc k x.1 (by simp[Dg,i]);have ab:wr.cell? ⟨d,0,M⟩=Y (Z (Y ⟨b,o,M⟩) m c):=(World.cell?_of_block R.2).trans f;clear hc;obtain⟨fn,tmps,assign,body,hy,hR⟩:=hY _ x wr hJ (by simp only[List.length_reverse,List.length_drop,p.o];omega);have y:=za i;have s:(List.drop (k+1) xs).reverse++[x]=(xs.drop k).reverse:=by rw[kq y.o,List.reverse_cons]
   have j:=za s;clear i s
   gi_wp2
   refine hR.mono ?_;rintro e W3 (⟨rfl,z,K⟩|⟨rfl,q⟩)
   ·gi_wp2
    go_roundw
    case rel=>exact⟨k,by omega,rfl,by rw[<-j.o];exact z,R.trans K⟩
    case measure=>simp[intOf]
   ·gi_wp2
    refine bR (results_none rfl _ _ _) rfl ?_;refine⟨⟨_,rfl⟩,.inr ⟨_,?_,q⟩⟩;rw[j.o];refine⟨(xs.take k).reverse,?_⟩;rw[<-List.reverse_append,List.take_append_drop]
def qG F n(p:F.fn 322)(f:F.round=M)(q:1<=n) b w w0 sl xs(e:w0.cell? ⟨b,0,M⟩=Y sl)(d:b<w0.heap.size)(hi:Mc 2 w sl (Dg xs))(i:Ba w w0):SeqStopsK F n Tryz.prog 322 #[Ob (Y ⟨b,0,M⟩)] (fun x:Oj=>#[G N x.1]) (Qe w b) (fun s=>s=xs.reverse) (fun pre=>pre <+: xs.reverse) xs.length w0:=
 fun l J j W m _ _ o k=>LM F n p f q l b w w0 sl xs J j o e d hi i W ((Qe.refl w b w0).ext m i.size d) k
def hv(pre:List Oj):Int:=dv B (Dg pre).reverse
def Ax pre x:hv (pre++[x])=x.1+B*hv pre:=by simp[hv,Dg]
def Pw xs:hv xs.reverse=dv B (Dg xs):=by simp[hv,Dg]
def qP pre:0<=hv pre/\hv pre<B ^ pre.length:=by have:=Yi zj (show Wd B (Dg pre).reverse from fun d b=>ML pre d (List.mem_reverse.1 b));simpa[hv] using this
def St n x(k:0<=n)(o:n<1099511627776)(m:0<=x)(p:x<16777216):bits BinOp.or IntKind.u64 (n*16777216) x=n*16777216+x:=by
 obtain⟨a,rfl⟩:=Int.eq_ofNat_of_zero_le k;obtain⟨b,rfl⟩:=Int.eq_ofNat_of_zero_le m;have i:((a*16777216:Nat):Int)=(a:Int)*16777216:=sM;have j:((a*16777216+b:Nat):Int)=(a:Int)*16777216+(b:Int):=sM;have d:a*16777216<18446744073709551616:=oM;have f:b<18446744073709551616:=oM;have e:a*16777216 ||| b=a*16777216+b:=by
  have:=Nat.shiftLeft_add_eq_or_of_lt (show b<2 ^ 24 by omega) a;rw[Nat.shiftLeft_eq]at this;exact this.symm
 have h:=bits_or_u64_nat (a*16777216) b d f;rw[e,i,j]at h;exact h
def ZT(w:O)(pre:List Oj)(W:O):Prop:=
 Ba w W/\w.heap.size+1+1+1<=W.heap.size/\W.heap[w.heap.size+1]?=Y (H #[G .u64 (hv pre)] 217 (0,0))
def OE w va na(ha:Nd w va na)(u:Lm 2 na):Calls Tryz.prog 317 #[va] w fun e w'=>e=.returned (G .u64 na)/\Ba w w':=by
 obtain⟨a,m,c,rfl⟩:=ha.form;obtain⟨xs,hl,hi,hc,hv⟩:=ha.open;have hm:=u.len hc hv;obtain⟨ds,rfl⟩:=Fx hc.1;have Hl:=za hl;have Hv:=za hv;clear hl hv;refine(callsIn_wide (n:=5)).1 ?_;refine callsIn_of_wp_marks Tryz.func317 rfl trivial ?_ rfl;simp only[Tryz.ntmps317,List.size_toArray,List.length_cons,List.length_nil,Nat.reduceAdd,Nat.reduceSub,Array.replicate_succ,Array.replicate_zero,List.push_toArray,List.append_toArray,List.nil_append,List.cons_append]
 gi_wp2_with(refine⟨trivial,?_⟩;gi_at_call 319;refine(callsIn_wide.2 (sE _ _ _ _)).mono ?_;rintro e w' ⟨rfl,rfl⟩)
 have t:(((w.alloc (H #[Z a m c] 177)).alloc (H #[G .u64 0] 217)).alloc (H #[Z a m c] 177)).cell? ⟨w.heap.size+1+1,0,M⟩=Y (Z a m c):=by
  rw[World.cell?_alloc_at _ _ _ _ sM];rfl
 refine wpIn_rangeFunc_ownG rfl dM (gf:=322) (lb:=#[Ob (Y ⟨w.heap.size+1+1,0,M⟩)]) rfl trivial (enters_of Tryz.func322 kM rfl)
  (qG _ _ trivial rfl dM (w.heap.size+1+1) w _ _ ds t sM hi ((((eR w).alloc _).alloc _).alloc _)) Qe.trans (Qe.put (by simp;omega) sM) (Below.refl _ _) (fun _=>rfl)
  (ZT w) (fun _ _ _=>False) (Qk (fun s W h=>by have:=h.2.1;simp;omega) (fun s W W' h k=>?hsim)) (fun _=>Qk (fun _ _ h=>h.elim) (fun _ _ _ h _=>h)) ?h0
  (fun x=>{ tmps:=#[Oa #[Z a m c],Ob (Y ⟨w.heap.size,0,M⟩),G .u64 0,Ob (Y ⟨w.heap.size+1,0,M⟩),G N x.1,Oa #[Z a m c],.func (.func 322) #[] #[Ob (Y ⟨w.heap.size+1+1,0,M⟩)],G N x.1,undef,undef,undef,undef,undef,undef],defers:=[] }) ?assign ?body ?done ?stop
 case hsim =>
  obtain⟨f,o,d⟩:=h;exact⟨k.ext f (by simp;omega),by have:=k.size;omega,k.heap d⟩
 case h0=>exact⟨(((eR w).alloc _).alloc _).alloc _,by simp,by rw[Below.heap_alloc _ _ _ sM];exact mc _ _ _ sM⟩
 case assign =>
  intro l x W K i
  gi_wp2
  exact i
 case body =>
  rintro l pre x W ⟨f,o,d⟩ aa;have j:=qP pre;have L:=x.2.1;have R:=x.2.2;have z:hv pre<16777216:=by
   have:=On (b:=B) dM (show pre.length<=1 by have d:=Hl.o;have h6:=nw ds;omega);unfold B at *;omega
  have h1:=cell_of_one d;have h2:=free_of_one d;have H5:=za d;clear d;obtain⟨n,y⟩:=gX (hv pre);rw[y]at h1 j z;have ac:=St n x.1 j.1 oM L R;have Hn:=za y;have ab:=j.1;clear y j
  gi_wp2
  refine⟨(KeepsOthers.setCell _ _ _).from _,(Qe.refl _ _ W).set (p:=⟨w.heap.size+1,0,M⟩) dO sM _,f.set dO _,by simp only[fg];exact o,?_⟩;rw[one_setCell H5.o,Ax,Hn.o,show x.1+B*n=n*16777216+x.1 by unfold B;omega]
 case done =>
  rintro D ys W hD rfl ⟨f,o,d⟩ i;rw[Pw,Hv.o]at d;have h1:=cell_of_one d;have q:w.heap.size<=D:=by simp at hD;omega
  have H5:=za d;clear d
  gi_wp2
  refine⟨by simp,.inl ⟨_,_,rfl,run_takeDeferred i,?_⟩⟩;refine⟨_,results_tmp rfl _ _ _,rfl,?_⟩;exact f.D ((Below.refl D W).grown (grownBy_putObj' W D _) (by have:=Ya i;omega) (fun k e=>by cases e;omega)) q
 case stop =>
  rintro D c pre W _ _ h _;exact h.elim
end
section
open Go.RowKit Go.Shelf
def Il(b:BinOp)(p q:Nat)(w:O):Nat:=
 match floatBits b .f64 p q with
 | some r=>r
 | none=>(Question.nanBits .f64 p q).cut (w.tape w.drawn (Question.nanBits .f64 p q))
def Jl(b:BinOp)(p q:Nat):Nat:=
 match floatBits b .f64 p q with
 | some _=>0
 | none=>1
def Mw P b(d:b = .add\/b = .mul\/b = .quo) t p q w:(binOp b t (.float .f64 p) (.float .f64 q)).run P w = .ok (.float .f64 (Il b p q w)) (w.drewN (Jl b p q)):=by
 cases h:floatBits b .f64 p q with
 | some r=>rw[run_float_arith w b t .f64 p q r h];simp[Il,Jl,h,World.drewN]
 |none=>
  rcases d with rfl|rfl|rfl
  all_goals
   have e:=h;simp only[floatBits]at h;simp[binOp,Op.floatArith,h,Il,Jl,e,choose,Sem.run,Question.forced,World.drewN]
def IR P t p q w:(binOp .add t (.float .f64 p) (.float .f64 q)).run P w = .ok (.float .f64 (Il .add p q w)) (w.drewN (Jl .add p q)):=Mw P _ sM t p q w
def GR P t p q w:(binOp .mul t (.float .f64 p) (.float .f64 q)).run P w = .ok (.float .f64 (Il .mul p q w)) (w.drewN (Jl .mul p q)):=Mw P _ sM t p q w
def FR P t p q w:(binOp .quo t (.float .f64 p) (.float .f64 q)).run P w = .ok (.float .f64 (Il .quo p q w)) (w.drewN (Jl .quo p q)):=Mw P _ sM t p q w
def ik(b:Nat)(w:O):Int:=
 match floatToIntVal .f64 b N with
 | some n=>n
 | none=>IntKind.i64.wrap ((Question.floatToInt .f64 b N).cut (w.tape w.drawn (Question.floatToInt .f64 b N)))
def xn(b:Nat):Nat:=
 match floatToIntVal .f64 b N with
 | some _=>0
 | none=>1
def oS b w:-9223372036854775808<=ik b w/\ik b w<=9223372036854775807:=by
 unfold ik;split
 ·rename_i n h;have:=floatToIntVal_wf h;simp[Lit.wf,IntKind.min,IntKind.max,IntKind.signed,IntKind.bits]at this;omega
 ·rw[IntKind.wrap_i64];omega
def xI P e d(k:(P.underlying e).isSome=true)(i:P.underlying d=Y (.int N)) b w:(convert e d (.float .f64 b)).run P w = .ok (G N (ik b w)) (w.drewN (xn b)):=by
 cases h:floatToIntVal .f64 b N with
 | some n=>rw[run_convert_float_int w e d .f64 N b n k i h];simp[ik,xn,h,World.drewN]
 |none=>
  obtain⟨u,f⟩:=Option.isSome_iff_exists.1 k;have j:=h;unfold floatToIntVal at h;split at h
  ·rename_i m he;split at h
   ·cases h
   ·rename_i hb;cases u<;>simp[convert,run_underlying f,run_underlying i,Conv.floatToInt,he,hb,ik,xn,j,choose,Sem.run,Question.forced,World.drewN]<;>(intro o p;exact absurd (And.intro o p) hb)
  ·rename_i he;cases u<;>simp[convert,run_underlying f,run_underlying i,Conv.floatToInt,he,ik,xn,j,choose,Sem.run,Question.forced,World.drewN]
def Ap(e:Ending):Prop:=∃b,e=.returned (.float .f64 b)
def tu(e:Ending):Prop:=∃k:Int,e=.returned (G N k)/\ -9223372036854775808<=k/\k<=9223372036854775807
def fT w f i a n c xs(q:w.cell? ⟨f,0,M⟩=Y (Z a n c))(hi:Mc 2 w (Z a n c) xs):Calls Tryz.prog 324 #[G N i,Ob (Y ⟨f,0,M⟩)] w fun e t=>Ap e/\w=t:=by
 have d:=hi.len;by_cases m:0<=i
 ·by_cases u:i<n
  ·obtain⟨j,rfl⟩:=Int.eq_ofNat_of_zero_le m;obtain⟨b,o,rfl,p,k⟩:=hi.open oM;have s:=k j xs[j] (gE oM);generalize xs[j]=x at s;clear k p d;go_in;go_wp2;go_ret;exact⟨⟨_,rfl⟩,rfl⟩
  ·clear d;go_in;go_wp2;go_ret;exact⟨⟨_,rfl⟩,rfl⟩
 ·clear d;go_in;go_wp2;go_ret;exact⟨⟨_,rfl⟩,rfl⟩
attribute [local go_sem] IR GR FR
def LF w k x(f:Nd w k x) p(y:-1000000000000<=p/\p<=1000000000000):Calls Tryz.prog 323 #[k,G N p] w fun e o=>Ap e/\Ba w o:=by
 obtain⟨a,m,c,rfl⟩:=f.form;obtain⟨xs,t,s,q,hv⟩:=f.open;clear t hv q f;have u:∀(j:Fn)(first cap:Array X)(w:O),(Instr.makeFunc j first cap).run Tryz.prog w = .ok (.func j first cap) w:=fun _ _ _ _=>rfl;have i:Mc 2 (w.alloc (H #[Z a m c] 177)) (Z a m c) xs:=s.ext ((eR w).alloc _);have d:(w.alloc (H #[Z a m c] 177)).cell? ⟨w.heap.size,0,M⟩=Y (Z a m c):=by rw[World.cell?_alloc_at _ _ _ _ rfl];rfl
 go_in;go_wp2_with(go_at_call 324;refine(fT _ w.heap.size _ a m c xs (by first|exact d|exact d) (by exact i)).mono ?_;rintro e o ⟨⟨b,rfl⟩,rfl⟩);go_ret;exact⟨⟨_,rfl⟩,by repeat(first|exact(eR w).alloc _|refine Ba.drewN ?_ _)⟩
def Bo w b:(convert 379 2 (.float .f64 b)).run Tryz.prog w = .ok (G N (ik b w)) (w.drewN (xn b)):=xI Tryz.prog _ _ kM Tryz.underlying2 b w
attribute [local go_sem] Bo
def XN w u x t nb(p:Nd w u t)(f:Nd w x nb)(k:Lm Rc nb):Calls Tryz.prog 320 #[u,x] w fun e W=>tu e/\Ba w W:=by
 obtain⟨a,m,c,rfl⟩:=p.form;obtain⟨y,o,K,rfl⟩:=f.form;obtain⟨xs,s,L,q,hv⟩:=f.open;have d:=k.len q hv;rw[s]at d;unfold Rc at d;clear s L q hv;have R:IntKind.i64.wrap ((o:Int)+1)=(o:Int)+1:=iW _ oM;go_in;go_wp2
 go_region_with (first|(go_at_call 323;(with_reducible refine(LF _ (Oa #[Z a m c]) t ?_ _ ?_).mono ?_);(refine p.ext ?_;exact eA);omega;rintro e w1 ⟨⟨z,rfl⟩,b⟩;obtain⟨i,j⟩:=b.cells)|(go_at_call 323;(with_reducible refine(LF _ (Oa #[Z y o K]) nb ?_ _ ?_).mono ?_);(refine f.ext ?_;exact eA);omega;rintro e w1 ⟨⟨z,rfl⟩,b⟩;obtain⟨i,j⟩:=b.cells))
 all_goals go_wp2
 all_goals go_ret
 all_goals exact⟨⟨_,rfl,oS _ _⟩,eA⟩
