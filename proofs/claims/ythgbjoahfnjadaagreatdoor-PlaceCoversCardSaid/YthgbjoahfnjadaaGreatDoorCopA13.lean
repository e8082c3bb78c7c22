import Derived.Test.YthgbjoahfnjadaaGreatDoorCopA12
set_option maxRecDepth 1000000
set_option maxHeartbeats 16000000
set_option linter.all false
open Option renaming none->O,some->V
open Go.Value renaming slice->Y,int->Z,bool->N
open Go.IntKind renaming i64->X
open Go renaming World->I,Value->M
namespace Go.Proofs.YthgbjoahfnjadaaGreatDoor.Cop
section
section
variable {lo hi:Rat}
def yy(a:lo<hi){z w:Rat}(h:z<=w):Zd lo hi z<=Zd lo hi w:=by unfold Zd;grind
def lw(a:lo<hi)(z:Rat):0<=Zd lo hi z/\Zd lo hi z<=hi-lo:=by unfold Zd;grind
def Hi(l:List (Rat×Rat)):Prop:=(∀p∈l,p.1<=p.2)/\l.Pairwise fun p q=>p.2<=q.1\/q.2<=p.1
def Te(lo hi:Rat):List (Rat×Rat)->Rat
 | []=>0
 | p::t=>(Zd lo hi p.2-Zd lo hi p.1)+Te lo hi t
def zG{l m:List (Rat×Rat)}(h:l.Perm m):Te lo hi l=Te lo hi m:=by
 induction h with
 | nil=>rfl
 | cons x _ c=>show _+_=_+_;rw[c]
 | swap x y t=>show _+(_+_)=_+(_+_);grind
 | trans _ _ a b=>rw[a,b]
def FJ{l m:List (Rat×Rat)}(h:l.Perm m)(c:Hi l):Hi m:=
 ⟨fun p d=>c.1 p (h.mem_iff.2 d),h.pairwise c.2 (fun {a b} h=>h.symm)⟩
def Xz:∀l:List (Rat×Rat),l≠[]->∃p t,l.Perm (p::t)/\∀q∈t,q.1<=p.1
 | [],h=>absurd rfl h
 | [p],_=>⟨p,[],.refl _,fun q d=>by cases d⟩
 | p::q::t,_=>by
  obtain⟨x,s,c,b⟩:=Xz (q::t) sM;rcases(Rat.le_total:x.1<=p.1\/p.1<=x.1)with h|h
  ·exact⟨p,q::t,.refl _,fun y a=>by
    rcases List.mem_cons.1 (c.mem_iff.1 a)with rfl|a
    ·exact h
    ·exact Rat.le_trans (b y a) h⟩
  ·exact⟨x,p::s,(c.cons p).trans (.swap x p s),fun y a=>by
    rcases List.mem_cons.1 a with rfl|a
    ·exact h
    ·exact b y a⟩
def Nt(f:lo<hi):∀(n:Nat)(l:List (Rat×Rat))(B:Rat),l.length<=n->Hi l->(∀p∈l,p.2<=B)->Te lo hi l<=Zd lo hi B
 | _,[],B,_,_,_=>(lw f B).1
 | 0,_::_,_,h,_,_=>by simp at h
 | n+1,x::l,B,hn,hs,hB=>by
  obtain⟨p,t,g,j⟩:=Xz (x::l) sM;have c:=FJ g hs;have d:∀q∈p::t,q.2<=B:=fun q b=>hB q (g.mem_iff.2 b);have a:t.length<=n:=by
   have:=g.length_eq;simp at this hn;omega
  obtain⟨m,o⟩:=List.pairwise_cons.1 c.2;have i:Hi t:=⟨fun q b=>c.1 q (mC _ b),o⟩;have k:=c.1 p sM;rw[zG g];show (Zd lo hi p.2-Zd lo hi p.1)+Te lo hi t<=_;by_cases r:p.2<=p.1
  ·have e:p.2=p.1:=by grind
   have:=Nt f n t B a i (fun q b=>d q (mC _ b));rw[e];grind
  ·have:=Nt f n t p.1 a i (fun q b=>by
    rcases m q b with h|h
    ·exfalso;have:=j q b;grind
    ·exact h)
   have:=yy (lo:=lo) (hi:=hi) f (d p sM);grind
def gF(c:lo<hi){l:List (Rat×Rat)}(d:Hi l):0<=Te lo hi l/\Te lo hi l<=hi-lo:=by
 constructor
 ·have:∀l:List (Rat×Rat),(∀p∈l,p.1<=p.2)->0<=Te lo hi l:=by
   intro l;induction l with
   | nil=>intro _;exact Rat.le_refl
   | cons p t e =>
    intro h;have:=e (fun q a=>h q (mC _ a));have:=yy (lo:=lo) (hi:=hi) c (h p sM);show 0<=(Zd lo hi p.2-Zd lo hi p.1)+Te lo hi t;grind
  exact this l d.1
 ·obtain⟨B,b⟩:∃B,∀p∈l,p.2<=B:=by
   clear d;induction l with
   | nil=>exact⟨0,fun p h=>by cases h⟩
   | cons p t e =>
    obtain⟨B,b⟩:=e;rcases(Rat.le_total:p.2<=B\/B<=p.2)with h|h
    ·exact⟨B,fun q a=>by rcases List.mem_cons.1 a with rfl|a;exact h;exact b q a⟩
    ·exact⟨p.2,fun q a=>by rcases List.mem_cons.1 a with rfl|a;exact Rat.le_refl;exact Rat.le_trans (b q a) h⟩
  exact Rat.le_trans (Nt c l.length l B (nE _) d b) (lw c B).2
def Qk(l:List (Rat×Rat)):Prop:=(∀p∈l,p.1<=p.2)/\l.Pairwise fun p q=>p.2<=q.1\/q.2<=p.1\/p.2<=p.1\/q.2<=q.1
def Ci(p:Rat×Rat):Bool:=decide (p.1<p.2)
def OA:∀{l:List (Rat×Rat)},(∀p∈l,p.1<=p.2)->Te lo hi (l.filter Ci)=Te lo hi l
 | [],_=>rfl
 | p::t,h=>by
  have a:=OA (l:=t) (fun q b=>h q (mC _ b));have d:=h p sM;rw[List.filter_cons];by_cases c:p.1<p.2
  ·rw[if_pos (show Ci p=true from decide_eq_true c)];show _+Te lo hi (t.filter Ci)=_+Te lo hi t;rw[a]
  ·rw[if_neg (by unfold Ci;rw[decide_eq_false c];decide),a];have e:p.2=p.1:=by grind
   show _=(Zd lo hi p.2-Zd lo hi p.1)+Te lo hi t;rw[e];grind
def jz(c:lo<hi){l:List (Rat×Rat)}(b:Qk l):0<=Te lo hi l/\Te lo hi l<=hi-lo:=by
 rw[<-OA b.1];refine gF c ⟨fun p a=>b.1 p (List.mem_filter.1 a).1,(b.2.filter Ci).imp_of_mem fun {p q} a d h=>?_⟩;have e:p.1<p.2:=of_decide_eq_true (List.mem_filter.1 a).2;have f:q.1<q.2:=of_decide_eq_true (List.mem_filter.1 d).2;rcases h with h|h|h|h
 ·exact .inl h
 ·exact .inr h
 ·exfalso;grind
 ·exfalso;grind
end
section
variable (J:Pq->Pq->Rat)
def ur:∀(A:List Pq)(x:Pq)(B:List Pq),Ua J (A++x::B)=Ua J (A++[x])+Ua J (x::B)
 | [],x,B=>by
  show Ua J (x::B)=0+Ua J (x::B);grind
 | [a],x,B=>by
  show J a x+Ua J (x::B)=(J a x+0)+Ua J (x::B);grind
 | a::b::A,x,B=>by
  have c:=ur (b::A) x B;show J a b+Ua J (b::A++x::B)=(J a b+Ua J (b::A++[x]))+Ua J (x::B);rw[c];grind
def py(A B:List Pq):Dd J (B++A)=Dd J (A++B):=by
 cases A with
 | nil=>rw[List.append_nil,List.nil_append]
 | cons a A =>
  cases B with
  | nil=>rw[List.append_nil,List.nil_append]
  | cons b B =>
   show Ua J (b::(B++a::A)++[b])=Ua J (a::(A++b::B)++[a]);have c:b::(B++a::A)++[b]=(b::B)++a::(A++[b]):=sM;have d:a::(A++b::B)++[a]=(a::A)++b::(B++[a]):=sM;rw[c,d,ur J (b::B) a,ur J (a::A) b];show Ua J (b::B++[a])+Ua J (a::A++[b])=Ua J (a::A++[b])+Ua J (b::B++[a]);grind
def Cy(f:Pq->Pq):∀l:List Pq,Ua J (l.map f)=Ua (fun a b=>J (f a) (f b)) l
 | []=>rfl
 | [a]=>rfl
 | a::b::t=>by
  have c:=Cy f (b::t);show J (f a) (f b)+Ua J ((b::t).map f)=J (f a) (f b)+Ua _ (b::t);rw[c]
def sF(f:Pq->Pq)(l:List Pq):Dd J (l.map f)=Dd (fun a b=>J (f a) (f b)) l:=by
 cases l with
 | nil=>rfl
 | cons a t =>
  show Ua J (f a::t.map f++[f a])=Ua _ (a::t++[a]);rw[<-Cy J f (a::t++[a])];simp
def By:∀l:List Pq,Ua J l.reverse=Ua (fun a b=>J b a) l
 | []=>rfl
 | [a]=>rfl
 | a::b::t=>by
  have c:=By (b::t);show Ua J (a::b::t).reverse=J b a+Ua (fun a b=>J b a) (b::t);rw[<-c,List.reverse_cons,List.reverse_cons,List.append_assoc];show Ua J (t.reverse++b::[a])=_;rw[ur J t.reverse b [a]];show Ua J (t.reverse++[b])+(J b a+0)=_;grind
def rF(l:List Pq):Dd J l.reverse=Dd (fun a b=>J b a) l:=by
 cases l with
 | nil=>rfl
 | cons a t =>
  rw[List.reverse_cons,py J [a] t.reverse];show Ua J (a::t.reverse++[a])=Ua _ (a::t++[a]);rw[<-By J (a::t++[a])];simp
end
def LH(d:Pq)(l:List Pq):Dd Pa (l.map fun p=>(p.1+d.1,p.2+d.2))=Dd Pa l:=by rw[sF];have e:=Xo (J:=fun a b:Pq=>Pa (a.1+d.1,a.2+d.2) (b.1+d.1,b.2+d.2)) (J':=fun a b=>Pa a b+((fun p:Pq=>d.1*p.2-d.2*p.1) b-(fun p:Pq=>d.1*p.2-d.2*p.1) a)) (S:=fun _=>True) (fun a b _ _=>by unfold Pa;grind) (l:=l) (fun _ _=>trivial);rw[e,To,ns];grind
def De(l:LP):Rat:=Dd Pa (l.map qp)
def nz(d:Int×Int)(l:LP):De (l.map fun p=>(p.1+d.1,p.2+d.2))=De l:=by
 unfold De;rw[<-LH (qp d) (l.map qp),List.map_map,List.map_map]
 congr 1
 refine List.map_congr_left fun p _=>?_;show qp (p.1+d.1,p.2+d.2)=((qp p).1+(qp d).1,(qp p).2+(qp d).2);unfold qp;rw[Rat.intCast_add,Rat.intCast_add]
def lF(l:LP)(k:Nat):De (l.drop k++l.take k)=De l:=by unfold De;rw[List.map_append,py,<-List.map_append,List.take_append_drop]
def xK(l:LP):De (Nb l)=De l:=by
 unfold Nb;have e:=nz (-(Ab l).1,-(Ab l).2) (l.drop (Pf l)++l.take (Pf l));rw[lF]at e;rw[<-e]
 congr 1
def oJ(way:Int)(a b:Int×Int):Pa (qp (jb way a)) (qp (jb way b))=if 3<way then -Pa (qp a) (qp b)else Pa (qp a) (qp b):=by
 obtain⟨c,d⟩:=a;obtain⟨e,f⟩:=b;unfold jb Pa qp;by_cases h:3<way
 ·rw[if_pos h,if_pos h,if_pos h];dsimp only;split
  ·dsimp only;rw[Rat.intCast_neg,Rat.intCast_neg];grind
  ·split
   ·dsimp only;simp only[Rat.intCast_neg];grind
   ·split
    ·dsimp only;simp only[Rat.intCast_neg];grind
    ·dsimp only;simp only[Rat.intCast_neg];grind
 ·rw[if_neg h,if_neg h,if_neg h];dsimp only;split
  ·rfl
  ·split
   ·dsimp only;simp only[Rat.intCast_neg];grind
   ·split
    ·dsimp only;simp only[Rat.intCast_neg];grind
    ·dsimp only;simp only[Rat.intCast_neg];grind
def ny(way:Int)(l:LP):De (l.map (jb way))=if 3<way then -De l else De l:=by
 have key:∀m:List Md,qb Pa (m.map fun e=>(jb way e.1,jb way e.2))=if 3<way then -qb Pa m else qb Pa m:=by
  intro m;induction m with
  |nil=>
   show (0:Rat)=if 3<way then -(0:Rat)else 0;split<;>grind
  | cons e t c =>
   show Pa (qp (jb way e.1)) (qp (jb way e.2))+qb Pa (t.map _)=if 3<way then -(Pa (qp e.1) (qp e.2)+qb Pa t)else Pa (qp e.1) (qp e.2)+qb Pa t;rw[c,oJ];by_cases h:3<way
   ·rw[if_pos h,if_pos h,if_pos h];grind
   ·rw[if_neg h,if_neg h,if_neg h]
 have b:∀m:LP,yb (m.map (jb way))=(yb m).map fun e=>(jb way e.1,jb way e.2):=by
  intro m;unfold yb;rw[<-List.map_tail,List.zip_map];rfl
 unfold De;rw[Pr,Pr];cases l with
 |nil=>
  show (0:Rat)=if 3<way then -(0:Rat)else 0;split<;>grind
 | cons a t =>
  show qb Pa (yb (jb way a::t.map (jb way)++[jb way a]))=if 3<way then -qb Pa (yb (a::t++[a]))else qb Pa (yb (a::t++[a]));rw[<-key,<-b];simp
def mF(l:LP):De l.reverse = -De l:=by unfold De;rw[List.map_reverse,rF];have e:=To Pa (fun a b=>Pa b a) (l.map qp);have c:=Xo (J:=fun a b=>Pa a b+Pa b a) (J':=fun a b=>(fun _:Pq=>(0:Rat)) b-(fun _:Pq=>(0:Rat)) a) (S:=fun _=>True) (fun a b _ _=>by unfold Pa;grind) (l:=l.map qp) (fun _ _=>trivial);rw[ns]at c;grind
def sK(way:Int)(l:LP):De (Lb way l)=De l:=by
 unfold Lb;rw[xK];by_cases h:3<way
 ·rw[if_pos h,mF,ny,if_pos h];grind
 ·rw[if_neg h,ny,if_neg h]
def yK(p:Pl):De (Ba p)=De p.shape:=by unfold Ba;rw[nz (p.ax,p.az),sK]
section
variable {lo hi:Rat}
def Zq{e:Md}(h:e.1.1<e.2.1)(x:Rat):Ug x e=Mb (qp e.1) (qp e.2) x:=by
 have a:(e.1.1:Rat)<(e.2.1:Rat):=Rat.intCast_lt_intCast.2 h;unfold Ug Mb Re qp;rw[Rat.intCast_sub,Rat.intCast_sub];show (e.1.2:Rat)+((x-(e.1.1:Rat))*((e.2.2:Rat)-(e.1.2:Rat)))/((e.2.1:Rat)-(e.1.1:Rat))=(e.1.2:Rat)+((e.2.2:Rat)-(e.1.2:Rat))/((e.2.1:Rat)-(e.1.1:Rat))*(x-(e.1.1:Rat));have:(e.2.1:Rat)-(e.1.1:Rat)≠0:=by grind
 grind
def Oo{l:LP}(h:Bb l){e:Md}(a:e∈yb l):e.1.1<e.2.1:=by obtain⟨u,v⟩:=e;obtain⟨A,B,rfl⟩:=Ng.1 a;exact(List.pairwise_cons.1 (List.pairwise_append.1 h).2.1).1 v sM
def Sj(lo hi:Rat)(e:Md):List Rat:=[(e.1.1:Rat),(e.2.1:Rat)]++Ge lo (qp e.1) (qp e.2) (e.1.1:Rat) (e.2.1:Rat)++Ge hi (qp e.1) (qp e.2) (e.1.1:Rat) (e.2.1:Rat)
def Ps(lo hi s t:Rat)(e:Md):Prop:=∀c∈Sj lo hi e,¬(s<c/\c<t)
def QI(p:lo<hi){s t:Rat}(f:s<t){e:Md}(h:e.1.1<e.2.1)(g:Ps lo hi s t e):(((e.2.1:Rat)<=s\/t<=(e.1.1:Rat))/\Eb lo hi s t (qp e.1) (qp e.2)=0) \/ (((e.1.1:Rat)<=s/\t<=(e.2.1:Rat))/\Eb lo hi s t (qp e.1) (qp e.2)=(t-s)*((Zd lo hi (Ug s e)+Zd lo hi (Ug t e))/2)):=by
 have w:(e.1.1:Rat)<(e.2.1:Rat):=Rat.intCast_lt_intCast.2 h;have x:=g (e.1.1:Rat) (by unfold Sj;simp);have y:=g (e.2.1:Rat) (by unfold Sj;simp);by_cases m:(e.2.1:Rat)<=s
 ·exact .inl ⟨.inl m,GH (a:=qp e.1) (b:=qp e.2) (by show (e.1.1:Rat)<=s;grind) m⟩
 by_cases n:t<=(e.1.1:Rat)
 ·exact .inl ⟨.inr n,SA (a:=qp e.1) (b:=qp e.2) f n (by show t<=(e.2.1:Rat);grind)⟩
 have i:(e.1.1:Rat)<=s:=by grind
 have o:t<=(e.2.1:Rat):=by grind
 refine .inr ⟨⟨i,o⟩,?_⟩;have q:∀k,(∀c∈Ge k (qp e.1) (qp e.2) (e.1.1:Rat) (e.2.1:Rat),¬(s<c/\c<t))->¬(Mb (qp e.1) (qp e.2) s-k)*(Mb (qp e.1) (qp e.2) t-k)<0:=fun k v hneg=>by
  obtain⟨c,d,r,u⟩:=iC i (Rat.le_of_lt f) o hneg;exact v c d ⟨r,u⟩
 have j:=Ww p (q lo (fun c d=>g c (by unfold Sj;simp[d]))) (q hi (fun c d=>g c (by unfold Sj;simp[d])));rw[<-Oz (px:=s) (qx:=t) p (a:=qp e.1) (b:=qp e.2) (s:=s) (z:=t) (l:=[t]) (by show (e.1.1:Rat)≠(e.2.1:Rat);grind) (by show s=Gg s t (e.1.1:Rat);unfold Gg;rw[if_pos i]) (by show t=Gg s t (e.2.1:Rat);unfold Gg;grind) rfl ⟨j,trivial⟩,Zq h,Zq h];show (t-s)*((Zd lo hi (Mb (qp e.1) (qp e.2) s)+Zd lo hi (Mb (qp e.1) (qp e.2) t))/2)+0=_;grind
def Xy{J:Pq->Pq->Rat}:∀{l:List Md},(∀e∈l,J (qp e.1) (qp e.2)=0)->qb J l=0
 | [],_=>rfl
 | e::t,h=>by
  show J (qp e.1) (qp e.2)+qb J t=0;rw[h e (by simp),Xy (fun x a=>h x (mC _ a))];grind
def Yz(p:lo<hi){s t:Rat}(c:s<t):∀{l:LP},Bb l->(∀e∈yb l,Ps lo hi s t e) ->qb (Eb lo hi s t) (yb l)=0/\(∀e∈yb l,(e.2.1:Rat)<=s\/t<=(e.1.1:Rat)) \/ ∃e∈yb l,((e.1.1:Rat)<=s/\t<=(e.2.1:Rat))/\qb (Eb lo hi s t) (yb l)=(t-s)*((Zd lo hi (Ug s e)+Zd lo hi (Ug t e))/2)
 | [],_,_=>.inl ⟨rfl,fun e h=>by simp[yb]at h⟩
 | [a],_,_=>.inl ⟨rfl,fun e h=>by simp[yb]at h⟩
 | a::b::r,hr,hn=>by
  obtain⟨R,o⟩:=List.pairwise_cons.1 hr;have i:a.1<b.1:=R b sM;rw[Rm]at hn ⊢;have y:=QI p c (e:=(a,b)) i (hn (a,b) sM);have P:=Yz p c o (fun e h=>hn e (mC _ h));have q:qb (Eb lo hi s t) ((a,b)::yb (b::r))=Eb lo hi s t (qp a) (qp b)+qb (Eb lo hi s t) (yb (b::r)):=rfl;rw[q];rcases y with ⟨f,d⟩|⟨⟨f,d⟩,x⟩
  ·rw[show Eb lo hi s t (qp a) (qp b)=0 from d];rcases P with ⟨m,n⟩|⟨e,m,n,K⟩
   ·left
    refine⟨by rw[m];grind,fun e h=>?_⟩;rcases List.mem_cons.1 h with rfl|h
    ·exact f
    ·exact n e h
   ·right
    exact⟨e,mC _ m,n,by rw[K];grind⟩
  ·right
   refine⟨(a,b),by simp,⟨f,d⟩,?_⟩;have z:qb (Eb lo hi s t) (yb (b::r))=0:=Xy fun e h=>by
    have j:b.1<=e.1.1:=by
     obtain⟨u,v⟩:=e;obtain⟨A,B,g⟩:=Ng.1 h;(have k:u∈b::r:=by rw[g];simp);rcases List.mem_cons.1 k with rfl|k
     ·exact Int.le_refl _
     ·exact Int.le_of_lt ((List.pairwise_cons.1 o).1 u k)
    have T:(b.1:Rat)<=(e.1.1:Rat):=Rat.intCast_le_intCast.2 j;have W:(e.1.1:Rat)<(e.2.1:Rat):=Rat.intCast_lt_intCast.2 (Oo o h);have w:t<=(b.1:Rat):=d;exact SA (a:=qp e.1) (b:=qp e.2) c (by show t<=(e.1.1:Rat);grind) (by show t<=(e.2.1:Rat);grind)
   rw[z,show Eb lo hi s t (qp a) (qp b)=_ from x];grind
end
end
section
open Go.RowKit Go.Shelf
attribute [local go_sem] Oper.semAt_some
def KJ(w:I)(sl:Option Addr)(n c:Nat):Calls Tryz.prog 155 #[Y sl n c] w fun e d=>e=.returned (.func (.func 197) #[] #[.pointer (V ⟨w.heap.size,0,O⟩)])/\w.alloc (.cells #[Y sl n c] 32)=d:=by have b:∀(a:Fn)(first cap:Array M)(w:I),(Instr.makeFunc a first cap).run Tryz.prog w = .ok (.func a first cap) w:=fun _ _ _ _=>rfl;go_in;go_wp2;go_ret;exact⟨rfl,rfl⟩
def Du(ps:LP):(fd ps).length=ps.length:=by
 cases ps with
 | nil=>rfl
 | cons a t=>show (yb (a::t++[a])).length=_;rw[Xq];simp
def NH{ps:LP}{i:Nat}{p:Int×Int}(c:ps[i]?=V p):(fd ps)[i]?=V (p,ye ps ((i+1:Nat):Int)):=by
 have hi:=(lS.1 c).1;cases ps with
 | nil=>simp at hi
 | cons a t =>
  refine Cx (l:=a::t++[a]) (by rw[List.getElem?_append_left hi];exact c) ?_;unfold ye;by_cases h:i+1<(a::t).length
  ·rw[List.getElem?_append_left h];have e:(((i+1:Nat):Int)+((a::t).length:Nat))%((a::t).length:Nat)=((i+1:Nat):Int):=by
    rw[Int.add_emod_right];exact Int.emod_eq_of_lt oM oM
   rw[e,Int.toNat_natCast,gD,gE h,Option.getD_some]
  ·have b:i+1=(a::t).length:=oM;have e:(((i+1:Nat):Int)+((a::t).length:Nat))%((a::t).length:Nat)=0:=by
    rw[b,Int.add_emod_right,Int.emod_self]
   rw[e,b,List.getElem?_append_right oM];simp
def LJ{β:Type}(f:β->Md)(n:Nat)(hn:1<=n)(l p:Nat)(w w0:I)(sl:M)(ps:LP)(d:List β)(ac:d.map f=fd ps)(J Jx:List β->I->Prop)(hY:∀pre x W,J pre W->pre.length<d.length->YieldAt Fence.wide (n-1) Tryz.prog l (Oh (f x)) W fun e W' =>
   (e=.returned (N true)/\J (pre++[x]) W'/\Mc w p W W')\/(e=.returned (N false)/\Jx (pre++[x]) W'))
  (aa:∀pre W W',J pre W->oa W W'->J pre W')(u:w0.cell? ⟨p,0,O⟩=V sl)(ar:p<w0.heap.size)(hi:Aa w sl ps)(ap:ps.length<=1000)(hw:oa w w0)(W:I)(hW:Mc w p w0 W)(h0:J [] W) :
  CallsIn Fence.wide n Tryz.prog 197 #[.func (.yield l) #[] #[],.pointer (V ⟨p,0,O⟩)] W fun e W'=>(∃v,e=.returned v)/\
   ((∃ys,ys=d/\J ys W')\/(∃pre,pre <+: d/\Jx pre W')):=by
 obtain⟨a,c,rfl⟩:=hi.form;obtain⟨m,hm⟩:=gX ps.length;rw[hm]at hi u ap;have s:d.length=m:=by have:=congrArg List.length ac;rw[lL,Du,hm]at this;exact this
 rw[s]at hY;have av:m<=9223372036854775807:=oM;have Hm:=ia hm;clear hm;have aq:W.cell? ⟨p,0,O⟩=V (Y a m c):=(World.cell?_of_block hW.2).trans u;refine callsIn_of_wp Tryz.func197 rfl trivial ?_ rfl;simp only[Tryz.ntmps197,List.size_toArray,List.length_cons,List.length_nil,Nat.reduceAdd,Nat.reduceSub,Array.replicate_succ,Array.replicate_zero,List.push_toArray,List.append_toArray,List.nil_append,List.cons_append]
 gi_wp2
 gi_loopw [6] (fun t6 wr=>∃j:Nat,j<=m/\t6=Z X (j:Int)/\J (d.take j) wr/\Mc w p w0 wr)
  (fun t6 _=>(m+1-intOf t6).toNat)
 case atStart=>exact⟨0,by omega,rfl,by simpa using h0,hW⟩
 case round =>
  obtain⟨j,hj,rfl,hJ,hx⟩:=hrel;by_cases au:j<m
  ·have t:wr.cell? ⟨p,0,O⟩=V (Y a m c):=(World.cell?_of_block hx.2).trans u;obtain⟨⟨x,z⟩,hp⟩:∃q,ps[j]?=V q:=⟨ps[j]'(by rw[Hm.o];omega),by simp⟩;have he:=NH hp;obtain⟨y,P⟩:∃y,d[j]?=V y:=⟨d[j]'(by rw[s];omega),by simp⟩;obtain⟨⟨x',z'⟩,hq⟩:∃q,ye ps ((j+1:Nat):Int)=q:=⟨_,rfl⟩;have ad:f y=((x,z),(x',z')):=by
    rw[<-ac,lP,P,hq]at he;exact Option.some.inj he
   have Xw:oa w wr:=hw.E hx.1 (nE _);obtain⟨b,o,rfl,hb,d0,d1⟩:=(hi.i Xw).at' hp;have R:=ia (fun(W:I)(hW:oa wr W)=>hq▸Xv W _ ps ((j+1:Nat):Int) (hi.i (Xw.trans hW)) (by rw[Hm.o];omega) (by rw[Hm.o];omega) (by rw[Hm.o];omega) oM);dsimp only at R;have ae:d.take j++[y]=d.take (j+1):=(Xf _ _ _ P).symm;have k:=fun W' al=>hY (d.take j) y W' al (by rw[List.length_take,s];omega);rw[ae,ad]at k;unfold Oh at k;dsimp only at k;have ak:=ia k;have HJ:=ia hJ;have HX:=ia hx;have ai:=ia aa;have ah:w.heap.size<=wr.heap.size:=Xw.size;have ag:p<wr.heap.size:=World.block_lt_of_cell? wr _ t;have Hz:=ia (And.intro ah ag);have p1:(0:Int)<=(j:Int):=oM;have p2:(j:Int)<(m:Int):=oM;have u1:IntKind.i64.wrap ((j:Int)+1)=((j+1:Nat):Int):=by rw[iW _ ⟨by omega,by omega⟩];rfl
   clear hY k ae he P ad hp hq hJ hx aa Xw ah ag
   gi_wp2
   refine jL (fun i=>decide (8<i)) (Ca [(⟨p,0,O⟩,Y (V ⟨b,o,O⟩) m c),(⟨b,o+j*2,O⟩,Z X x),(⟨b,o+j*2+1,O⟩,Z X z)]) kM ⟨t,d0,d1,trivial⟩ (fun r=>?_);refine om (i:=0) ?_;refine om (i:=1) ?_;refine om (i:=2) ?_;refine om (i:=3) ?_;refine om (i:=4) ?_;refine om (i:=5) ?_;refine om (i:=6) ?_;refine om (i:=7) ?_;refine Ms (i:=8) fun K g=>?_;go_simp
   try rw[u1]
   refine⟨trivial,(callsIn_wide.2 (R.o _ (eR _).drew)).mono ?_⟩;rintro e w4 ⟨rfl,af⟩;dsimp only;refine kO g (fun _=>cE r af) (fun r=>?_);clear g K;have r:=r rfl;have X4:oa wr w4:=((eR wr).drew).trans af;have T:=ai.o _ _ _ HJ.o X4;have aj:=ia (HX.o.ext X4 Hz.o.1 Hz.o.2);obtain⟨fn,tmps,assign,body,hy,hR⟩:=ak.o w4 T;have ab:=Bw hR;have HR:=ia ab;clear T hR ab;refine Ms (i:=9) fun K g=>?_;go_simp;refine RoundIn.mono HR.o ?_;rintro e W3 ⟨bb,rfl,hA,hB⟩;dsimp only;refine kO g (fun h=>nomatch h) (fun _=>?_);clear g K;cases bb
   ·have an:=hB rfl;clear hA hB;refine Ms (i:=10) fun K g=>?_;go_simp;refine kO g (fun h=>nomatch h) (fun _=>?_);clear g K;refine Kk kM ?_ _
    gi_wp2
    refine bR (results_none rfl _ _ _) rfl ?_;exact⟨⟨_,rfl⟩,.inr ⟨_,⟨d.drop (j+1),List.take_append_drop _ _⟩,an⟩⟩
   ·obtain⟨am,ao⟩:=hA rfl;clear hA hB;refine Ms (i:=10) fun K g=>?_;go_simp;refine kO g (fun h=>nomatch h) (fun _=>?_);clear g K;refine Kk kM ?_ _
    gi_wp2
    go_roundw
    case rel=>exact⟨j+1,by omega,by go_num,am,aj.o.trans ao⟩
    case measure=>simp[intOf];omega
  ·have e:d.take j=d:=lT (by rw[s];omega);rw[e]at hJ;have p3:¬(j:Int)<(m:Int):=oM;clear e
   gi_wp2
   go_end0
   exact⟨⟨_,rfl⟩,.inl hJ⟩
def AK{β:Type}(f:β->Md)(n:Nat)(t:1<=n)(a:Nat)(w w0:I)(sl:M)(ps:LP)(b:List β)(g:b.map f=fd ps)(d:w0.cell? ⟨a,0,O⟩=V sl)(c:a<w0.heap.size)(hi:Aa w sl ps)(j:ps.length<=1000)(m:oa w w0):SeqStopsK Fence.wide n Tryz.prog 197 #[.pointer (V ⟨a,0,O⟩)] (fun x=>Oh (f x)) (Mc w a) (fun u=>u=b) (fun pre=>pre <+: b) b.length w0:=
 fun l J o W q hJ _ s p=>LJ f n t l a w w0 sl ps b g J o s (fun pre W W' h k=>hJ _ _ _ O h ⟨k.os,k.tape,k.output,k.size,fun i hi _=>k.block hi⟩ (fun r e=>by cases e)) d c hi j m W ((Mc.refl w a w0).ext q m.size c) p
end
section
section
variable {lo hi:Rat}
def qA{s:Rat}:∀{l:LP},Bb l->l≠[]->(Ka l:Rat)<=s->s<(Ma l:Rat)->∃e∈yb l,(e.1.1:Rat)<=s/\s<(e.2.1:Rat)
 | [],_,h,_,_=>absurd rfl h
 | [a],_,_,g,d=>by
  have j:Ka [a]=a.1:=rfl;have f:Ma [a]=a.1:=rfl;rw[j]at g;rw[f]at d;grind
 | a::b::r,hr,_,g,d=>by
  obtain⟨o,n⟩:=List.pairwise_cons.1 hr;rw[Rm];have i:(a.1:Rat)<=s:=g;by_cases c:s<(b.1:Rat)
  ·exact⟨(a,b),by simp,i,c⟩
  ·have f:Ma (a::b::r)=Ma (b::r):=by
    unfold Ma;simp[gD]
   rw[f]at d;obtain⟨e,m,k⟩:=qA n sM (show (b.1:Rat)<=s by grind) d;exact⟨e,mC _ m,k⟩
def SD{l:LP}{e:Md}(h:e∈yb l):e.1∈l/\e.2∈l:=by obtain⟨u,v⟩:=e;obtain⟨A,B,rfl⟩:=Ng.1 h;simp
def kB(m:lo<hi){s t:Rat}(g:s<t){l:LP}(c:Bb l)(b:l≠[])(n:∀e∈yb l,Ps lo hi s t e):qb (Eb lo hi s t) (yb l)=if (Ka l:Rat)<=s/\t<=(Ma l:Rat)then (t-s)*((Zd lo hi (Sb l s)+Zd lo hi (Sb l t))/2)else 0:=by
 obtain⟨-,-,i⟩:=c.ends b;rcases Yz m g c n with ⟨d,f⟩|⟨e,a,⟨d,f⟩,k⟩
 ·rw[if_neg,d];rintro ⟨j,u⟩;obtain⟨e,a,v,w⟩:=qA c b j (show s<(Ma l:Rat) by grind);rcases f e a with h|h<;>grind
 ·obtain⟨o,p⟩:=SD a;have q:(Ka l:Rat)<=(e.1.1:Rat):=Rat.intCast_le_intCast.2 (i _ o).1;have r:(e.2.1:Rat)<=(Ma l:Rat):=Rat.intCast_le_intCast.2 (i _ p).2;rw[if_pos ⟨Rat.le_trans q d,Rat.le_trans f r⟩,k,Yk c a d (by grind),Yk c a (by grind) f]
abbrev Li:=LP×LP
structure mj (P:List Li):Prop where
 rise:∀p∈P,Bb p.1/\Bb p.2
 ends:∀p∈P,Ka p.2=Ka p.1/\Ma p.2=Ma p.1/\p.1≠[]/\p.2≠[]
 fat:∀p∈P,∀x:Rat,(Ka p.1:Rat)<=x->x<=(Ma p.1:Rat)->Sb p.1 x<=Sb p.2 x
 free:P.Pairwise fun p q=>(Ka p.1:Rat)<(Ma q.1:Rat)->(Ka q.1:Rat)<(Ma p.1:Rat)->∀x:Rat,(Ka p.1:Rat)<=x->x<=(Ma p.1:Rat)->(Ka q.1:Rat)<=x->x<=(Ma q.1:Rat)->Sb p.2 x<=Sb q.1 x\/Sb q.2 x<=Sb p.1 x\/Sb p.2 x<=Sb p.1 x\/Sb q.2 x<=Sb q.1 x
def mj.tail{p:Li}{P:List Li}(h:mj (p::P)):mj P:=
 ⟨fun q a=>h.rise q (mC _ a),fun q a=>h.ends q (mC _ a),fun q a=>h.fat q (mC _ a),(List.pairwise_cons.1 h.free).2⟩
def Lc(lo hi px qx:Rat):List Li->Rat
 | []=>0
 | p::t=>We lo hi px qx p.1 p.2+Lc lo hi px qx t
def Gi(lo hi:Rat)(P:List Li):List Rat:=P.flatMap fun p=>(yb p.1++yb p.2).flatMap (Sj lo hi)
def tf(s t:Rat)(p:Li):Bool:=decide ((Ka p.1:Rat)<=s)&&decide (t<=(Ma p.1:Rat))
def Xp(x:Rat)(p:Li):Rat×Rat:=(Sb p.1 x,Sb p.2 x)
def vA(g:lo<hi){s t:Rat}(b:s<t):∀{P:List Li},mj P->(∀c∈Gi lo hi P,¬(s<c/\c<t)) ->Lc lo hi s t P=(t-s)*((Te lo hi ((P.filter (tf s t)).map (Xp s))+Te lo hi ((P.filter (tf s t)).map (Xp t)))/2)
 | [],_,_=>by show (0:Rat)=(t-s)*((0+0)/2);grind
 | p::P,h,hn=>by
  have k:=vA g b h.tail (fun c d=>hn c (by unfold Gi at d ⊢;rw[List.flatMap_cons];exact List.mem_append_right _ d));have i:=h.rise p sM;have a:=h.ends p sM;have nb:∀e∈yb p.1++yb p.2,Ps lo hi s t e:=fun e a c d=>hn c (by unfold Gi;rw[List.flatMap_cons];exact List.mem_append_left _ (List.mem_flatMap.2 ⟨e,a,d⟩));have l:=kB g b i.1 a.2.2.1 (fun e a=>nb e (List.mem_append_left _ a));have j:=kB g b i.2 a.2.2.2 (fun e a=>nb e (List.mem_append_right _ a));rw[a.1,a.2.1]at j;show We lo hi s t p.1 p.2+Lc lo hi s t P=_;unfold We;rw[l,j,k];by_cases c:(Ka p.1:Rat)<=s/\t<=(Ma p.1:Rat)
  ·have f:tf s t p=true:=by unfold tf;simp[c.1,c.2]
   rw[if_pos c,if_pos c,List.filter_cons,if_pos f,List.map_cons,List.map_cons];show _=(t-s)*(((Zd lo hi (Sb p.2 s)-Zd lo hi (Sb p.1 s))+_+((Zd lo hi (Sb p.2 t)-Zd lo hi (Sb p.1 t))+_))/2);grind
  ·have f:tf s t p=false:=by
    unfold tf;rw[Bool.and_eq_false_iff];rcases Classical.not_and_iff_not_or_not.1 c with q|q
    ·exact .inl (decide_eq_false q)
    ·exact .inr (decide_eq_false q)
   rw[if_neg c,if_neg c,List.filter_cons,if_neg (by rw[f];decide)];grind
def pu{s t:Rat}{p:Li}(h:tf s t p=true):(Ka p.1:Rat)<=s/\t<=(Ma p.1:Rat):=by unfold tf at h;simpa using h
def Ty{s t:Rat}(e:s<t){x:Rat}(i:s<=x)(j:x<=t){P:List Li}(h:mj P):Qk ((P.filter (tf s t)).map (Xp x)):=by
 constructor
 ·intro q c;obtain⟨p,a,rfl⟩:=List.mem_map.1 c;obtain⟨a,d⟩:=List.mem_filter.1 a;obtain⟨f,g⟩:=pu d;exact h.fat p a x (by grind) (by grind)
 ·rw[List.pairwise_map];refine(h.free.filter (tf s t)).imp_of_mem fun {p q} a c b=>?_;obtain⟨f,g⟩:=pu (List.mem_filter.1 a).2;obtain⟨k,l⟩:=pu (List.mem_filter.1 c).2;exact b (by grind) (by grind) x (by grind) (by grind) (by grind) (by grind)
def ku{px m qx:Rat}(a:px<m)(b:m<qx):∀P:List Li,Lc lo hi px m P+Lc lo hi m qx P=Lc lo hi px qx P
 | []=>by show (0:Rat)+0=0;grind
 | p::P=>by
  have c:=ku a b P;have:=sI (lo:=lo) (hi:=hi) a b p.1 p.2;show We lo hi px m p.1 p.2+Lc lo hi px m P+(We lo hi m qx p.1 p.2+Lc lo hi m qx P)=We lo hi px qx p.1 p.2+Lc lo hi px qx P;grind
def th(s t c:Rat):Bool:=decide (s<c)&&decide (c<t)
def pd{s t c:Rat}:th s t c=true ↔ s<c/\c<t:=by unfold th;simp
def yu{α:Type}{f g:α->Bool}(a:∀x,f x=true->g x=true):∀{l:List α}{c:α},c∈l->g c=true->f c=false->(l.filter f).length<(l.filter g).length
 | [],_,h,_,_=>by cases h
 | x::l,c,h,hg,hf=>by
  have b:(l.filter f).length<=(l.filter g).length:=by
   rw[<-List.countP_eq_length_filter,<-List.countP_eq_length_filter];exact List.countP_mono_left fun y _=>a y
  rcases List.mem_cons.1 h with rfl|h
  ·rw[List.filter_cons,if_neg (by rw[hf];decide),List.filter_cons,if_pos hg,List.length_cons];omega
  ·have d:=yu a h hg hf;rw[List.filter_cons,List.filter_cons];by_cases q:f x=true
   ·rw[if_pos q,if_pos (a x q),List.length_cons,List.length_cons];omega
   ·rw[if_neg q];split
    ·rw[List.length_cons];omega
    ·exact d
def XD(k:lo<hi){P:List Li}(h:mj P):∀(n:Nat)(s t:Rat),s<t->((Gi lo hi P).filter (th s t)).length<=n->0<=Lc lo hi s t P/\Lc lo hi s t P<=(t-s)*(hi-lo):=by
 intro n;induction n with
 |zero=>
  intro s t d z;have l:∀c∈Gi lo hi P,¬(s<c/\c<t):=fun c j e=>by
   have:c∈(Gi lo hi P).filter (th s t):=List.mem_filter.2 ⟨j,pd.2 e⟩;have:=List.length_pos_of_mem this;omega
  rw[vA k d h l];have w:=jz k (Ty d (Rat.le_refl) (Rat.le_of_lt d) h);have y:=jz k (Ty d (Rat.le_of_lt d) (Rat.le_refl) h);obtain⟨u,K⟩:=gX (Te lo hi ((P.filter (tf s t)).map (Xp s)));obtain⟨v,hv⟩:=gX (Te lo hi ((P.filter (tf s t)).map (Xp t)));rw[K]at w ⊢;rw[hv]at y ⊢;have R:=Rat.mul_nonneg (a:=t-s) (b:=(u+v)/2) (by grind) (by grind);have p2:=Rat.mul_nonneg (a:=t-s) (b:=(hi-lo)-(u+v)/2) (by grind) (by grind);exact⟨R,by grind⟩
 | succ n m =>
  intro s t d z;by_cases he:((Gi lo hi P).filter (th s t)).length=0
  ·exact m s t d oM
  ·obtain⟨c,j⟩:=List.exists_mem_of_length_pos (show 0<((Gi lo hi P).filter (th s t)).length by omega);obtain⟨r,e⟩:=List.mem_filter.1 j;obtain⟨o,p⟩:=pd.1 e;have T:=yu (f:=th s c) (g:=th s t) (fun x i=>pd.2 ⟨(pd.1 i).1,by have:=(pd.1 i).2;grind⟩) r e (by
    cases q:th s c c
    ·rfl
    ·have:=(pd.1 q).2;grind)
   have W:=yu (f:=th c t) (g:=th s t) (fun x i=>pd.2 ⟨by have:=(pd.1 i).1;grind,(pd.1 i).2⟩) r e (by
    cases q:th c t c
    ·rfl
    ·have:=(pd.1 q).1;grind)
   have i1:=m s c o oM;have i2:=m c t p oM;have Ag:=ku (lo:=lo) (hi:=hi) o p P;constructor<;>grind
end
section
variable {lo hi px qx:Rat}
def tE(a:lo<hi)(z:Rat):(if lo<=(if hi<=z then hi else z)then (if hi<=z then hi else z)else lo)-lo=Zd lo hi z:=by unfold Zd;grind
def RI(d:px<qx){a b:Pq}(c:a.1<b.1){x y:Rat}(e:x=if px<=a.1 then a.1 else px)(f:y=if b.1<=qx then b.1 else qx)(h:¬x<y):Eb lo hi px qx a b=0:=by refine ms ?_;unfold Gg;grind
def SI(d:px<qx){a b:Pq}(c:a.1<b.1){x y:Rat}(e:x=if px<=a.1 then a.1 else px)(f:y=if b.1<=qx then b.1 else qx)(h:x<y):x=Gg px qx a.1/\y=Gg px qx b.1:=by unfold Gg;constructor<;>grind
end
end
section
open Go.RowKit Go.Shelf
attribute [local go_sem] Oper.semAt_some
def Eu(w:I)(c d:M)(s:Sp)(a:Int)(f:Aa w c s.over)(g:Aa w d s.under)(b:Dg s)(e:a=0):Calls Tryz.prog 165 #[Lh s c d,Z X a] w (Fj w (Jc s a)):=by
 cases hno:Ud s a with
 | true=>exact uF w c d s a f g b (by subst e;unfold Bd;omega) hno
 | false=>exact TJ w c d s a f g b (by subst e;unfold Bd;omega) hno (by subst e;exact EF hno)
structure Be where
 num:Int
 fx:Rat
 fz:Rat
 tx:Rat
 tz:Rat
 d1:Int×Int
 d2:Int×Int
def gh(p:Pl)(t:LP)(b a:Int):Option Be:=
 if (Ic (za p) t).lo<(Ic (za p) t).hi then
  (Jc (Ic (za p) t) a).map fun o=>⟨b,o.1,Sb (za p) o.1,o.2,Sb (za p) o.2,xd t o.1 o.2,xd t o.2 o.2⟩
 else O
def pj(w:I)(c:List M)(b:Be):Prop:=
 ∃f t:List M,c=Z X b.num::(f++(t++[Z X b.d1.1,Z X b.d1.2,Z X b.d2.1,Z X b.d2.2]))/\Xj w (.agg f.toArray) b.fx b.fz/\Xj w (.agg t.toArray) b.tx b.tz
def pj.ext{w w':I}{c:List M}{b:Be}(h:pj w c b)(k:oa w w'):pj w' c b:=by obtain⟨f,t,a,d,e⟩:=h;exact⟨f,t,a,d.ext k,e.ext k⟩
def Ej:Array M:=#[Z X 0,Y O 0 0,N false,Y O 0 0,Y O 0 0,N false,Y O 0 0,Y O 0 0,N false,Y O 0 0,Y O 0 0,N false,Y O 0 0,Z X 0,Z X 0,Z X 0,Z X 0]
def Df(w:I)(o:Option Be)(e:Ending)(w':I):Prop:=
 oa w w'/\((o=O/\e=.returned (.tuple #[.agg Ej,N false]))\/(∃b c,o=V b/\e=.returned (.tuple #[.agg c.toArray,N true])/\pj w' c b))
def nu{w W:I}{b:Nat}(h:oa w W)(j:w.heap.size<=b)(k l m n o p q r u8 s a c d e f g i:M):oa w (((((((((((((((((W.setCell ⟨b,0,O⟩ k).setCell ⟨b,1,O⟩ l).setCell ⟨b,2,O⟩ m).setCell ⟨b,3,O⟩ n).setCell ⟨b,4,O⟩ o).setCell ⟨b,5,O⟩ p).setCell ⟨b,6,O⟩ q).setCell ⟨b,7,O⟩ r).setCell ⟨b,8,O⟩ u8).setCell ⟨b,9,O⟩ s).setCell ⟨b,10,O⟩ a).setCell ⟨b,11,O⟩ c).setCell ⟨b,12,O⟩ d).setCell ⟨b,13,O⟩ e).setCell ⟨b,14,O⟩ f).setCell ⟨b,15,O⟩ g).setCell ⟨b,16,O⟩ i):=by
 repeat(refine oa.set ?_ j _)
 exact h
def WA{W:I}{T:TypeId}{b:Nat}(j:Wc T W b)(k l m n o p q r u8 s a c d e f g i:M):Fa T W (((((((((((((((((W.setCell ⟨b,0,O⟩ k).setCell ⟨b,1,O⟩ l).setCell ⟨b,2,O⟩ m).setCell ⟨b,3,O⟩ n).setCell ⟨b,4,O⟩ o).setCell ⟨b,5,O⟩ p).setCell ⟨b,6,O⟩ q).setCell ⟨b,7,O⟩ r).setCell ⟨b,8,O⟩ u8).setCell ⟨b,9,O⟩ s).setCell ⟨b,10,O⟩ a).setCell ⟨b,11,O⟩ c).setCell ⟨b,12,O⟩ d).setCell ⟨b,13,O⟩ e).setCell ⟨b,14,O⟩ f).setCell ⟨b,15,O⟩ g).setCell ⟨b,16,O⟩ i):=by repeat(first|with_reducible exact Fa.refl _ _|(with_reducible refine Fa.D ?_ ?_ _)|with_reducible exact j|with_reducible refine Wc.set ?_ _ _)
def Ca.set17{L:List (Addr×M)}{W:I}{b:Nat}(h:Ca L W)(a:∀q∈L,b≠q.1.block)(k l m n o r s t u8 u c d e f g i j:M):Ca L (((((((((((((((((W.setCell ⟨b,0,O⟩ k).setCell ⟨b,1,O⟩ l).setCell ⟨b,2,O⟩ m).setCell ⟨b,3,O⟩ n).setCell ⟨b,4,O⟩ o).setCell ⟨b,5,O⟩ r).setCell ⟨b,6,O⟩ s).setCell ⟨b,7,O⟩ t).setCell ⟨b,8,O⟩ u8).setCell ⟨b,9,O⟩ u).setCell ⟨b,10,O⟩ c).setCell ⟨b,11,O⟩ d).setCell ⟨b,12,O⟩ e).setCell ⟨b,13,O⟩ f).setCell ⟨b,14,O⟩ g).setCell ⟨b,15,O⟩ i).setCell ⟨b,16,O⟩ j):=
 (Ca.set (p:=⟨b,16,O⟩) (Ca.set (p:=⟨b,15,O⟩) (Ca.set (p:=⟨b,14,O⟩) (Ca.set (p:=⟨b,13,O⟩) (Ca.set (p:=⟨b,12,O⟩) (Ca.set (p:=⟨b,11,O⟩) (Ca.set (p:=⟨b,10,O⟩) (Ca.set (p:=⟨b,9,O⟩) (Ca.set (p:=⟨b,8,O⟩) (Ca.set (p:=⟨b,7,O⟩) (Ca.set (p:=⟨b,6,O⟩) (Ca.set (p:=⟨b,5,O⟩) (Ca.set (p:=⟨b,4,O⟩) (Ca.set (p:=⟨b,3,O⟩) (Ca.set (p:=⟨b,2,O⟩) (Ca.set (p:=⟨b,1,O⟩) (Ca.set (p:=⟨b,0,O⟩) h a _) a _) a _) a _) a _) a _) a _) a _) a _) a _) a _) a _) a _) a _) a _) a _) a _)
def Xj.keep{w w':I}{v:M}{x z:Rat}(h:Xj w v x z)(k:Fa 2 w w'):Xj w' v x z:=by obtain⟨a,m,c,s,d,p,f,b,n,l,t,e,q,o,g,i,j⟩:=h;exact⟨a,m,c,s,d,p,f,b,n,l,t,e,q,o,g,i.keep k,j.keep k⟩
def gH(w:I)(W vs:M)(ps:List Pl)(a:Nat)(p:Pl)(m:Int)(hg:∃a n c,W=Y a n c)(e:Ub w vs ps)(g:ps[a]?=V p):Calls Tryz.prog 100 #[.agg #[W,vs],Z X a,Z X a,Z X m] w (Df w O):=by
 obtain⟨ga,gn,gc,rfl⟩:=hg;obtain⟨sa,n,sc,rfl⟩:=Ia e;have hl:=e.len;have i:=e.le;obtain⟨b,o,s,vl,vu,rfl,hb,P,R,T,d⟩:=e.at' g;obtain⟨q,t,r,rfl⟩:=Ia P;obtain⟨j,l,k,rfl⟩:=Ia R;obtain⟨u,y,x,rfl⟩:=Ia T;have hi:=(lS.1 g).1;have p1:(0:Int)<=(a:Int):=oM;have p2:(a:Int)<(n:Int):=oM;have p3:a<n:=oM;have f:=d 0 (.string p.name) rfl;have aa:=d 1 (Y q t r) rfl;have ab:=d 2 (Z X p.depth) rfl;have ac:=d 3 (Z X p.density) rfl;have ad:=d 4 (Z X p.gx) rfl;have ae:=d 5 (Z X p.gz) rfl;have af:=d 6 (Z X p.way) rfl;have ag:=d 7 (Z X p.ax) rfl;have ah:=d 8 (Z X p.az) rfl;have ai:=d 9 (Z .u8 p.skin) rfl;have z:=d 10 (Y j l k) rfl;have K:=d 11 (Y u y x) rfl;simp only[Nat.add_zero]at f;clear e g d P R T hl i hi;go_in;go_wp2;refine Ke [] trivial fun aj=>?_;refine sN 0 ?_
 iterate 4 refine Fc ?_
 iterate 14 refine fi ?_
 refine Fc ?_;refine oN ?_;refine Wd ?_;go_wp2;refine bR (v:=.tuple #[.agg Ej,N false]) (by unfold Ej;simp[results,Tryz.results100,go_sem]) rfl ?_;exact⟨eA,.inl ⟨rfl,rfl⟩⟩
end
section
open Go.RowKit Go.Shelf Go.Sort Go.Lib
def iL(zs:List Int)(h:zs.Pairwise (·<=·)):(compact zs).Pairwise (·<·):=by
 have d:∀j,(hj:j<zs.length)->zs.toArray[j]! = zs[j]:=fun j hj=>by rw[getElem!_pos _ _ (by simpa using hj)];simp
 unfold compact compactUpTo;rw[List.pairwise_map];have g:((List.range zs.length).filter (keeps zs.toArray)).Pairwise (·<·):=List.Pairwise.filter _ List.pairwise_lt_range;refine List.Pairwise.imp_of_mem (fun {i j} hi hj k=>?_) g;have c:=List.mem_filter.1 hj;have a:=List.mem_range.1 c.1;have b:=c.2;unfold keeps at b;rw[decide_eq_true_eq]at b;rw[d j a,d (j-1) oM]at b;rw[d i oM,d j a];have f:=List.pairwise_iff_getElem.1 h;have l:zs[i]<=zs[j-1]:=by
  by_cases e:i=j-1
  ·subst e;exact Int.le_refl _
  ·exact f i (j-1) oM oM oM
 have m:=f (j-1) j oM a oM;rcases b with b|b
 ·omega
 ·omega
def mH(zs:List Int):(Af zs).Pairwise (·<=·):=by unfold Af;have:=List.pairwise_mergeSort (le:=fun x y:Int=>decide (x<=y)) (fun a b c d e=>by simp at *;omega) (fun a b=>by simp;omega) zs;exact this.imp fun h=>by simpa using h
def QA(s:Sp):(Qa s).Pairwise (·<·):=iL _ (mH _)
def Ye{s:Sp}{z:Int}:z∈Qa s ↔ (z=s.lo\/z=s.hi\/(s.lo<z/\z<s.hi/\∃q∈s.over++s.under,q.1=z)):=by
 constructor
 ·intro h;have a:=Zg.1 (jC h);rcases List.mem_cons.1 a with a|a
  ·exact .inl a
  rcases List.mem_cons.1 a with a|a
  ·exact .inr (.inl a)
  ·unfold If at a;obtain⟨c,b⟩:=List.mem_filter.1 a;obtain⟨q,d,rfl⟩:=List.mem_map.1 c;unfold vo at b;simp at b;exact .inr (.inr ⟨b.1,b.2,q,d,rfl⟩)
 ·intro h;obtain⟨y,f,e⟩:=List.mem_map.1 (XF h);have:y=z:=by exact_mod_cast e
  rwa [<-this]
def Tm{s:Sp}(h:s.lo<s.hi){z:Int}(c:z∈Qa s):s.lo<=z/\z<=s.hi:=by rcases Ye.1 c with e|e|⟨a,b,_⟩<;>omega
def BA{s:Sp}(h:s.lo<s.hi){i:Nat}{a b:Int}(n:(Qa s)[i]?=V a)(o:(Qa s)[i+1]?=V b):a<b/\∀q∈s.over++s.under,¬(a<q.1/\q.1<b):=by
 have t:=(lS.1 o);obtain⟨d,l⟩:=t;obtain⟨c,g⟩:=lS.1 n;have m:=List.pairwise_iff_getElem.1 (QA s);have k:a<b:=by rw[<-g,<-l];exact m i (i+1) c d oM
 refine⟨k,fun q v w=>?_⟩;have x:=Tm h (lM n);have y:=Tm h (lM o);have u:q.1∈Qa s:=Ye.2 (.inr (.inr ⟨by omega,by omega,q,v,rfl⟩));obtain⟨j,p,e⟩:=List.getElem_of_mem u;rcases Nat.lt_trichotomy j i with f|f|f
 ·have:=m j i p c f;omega
 ·subst f;omega
 ·by_cases r:j=i+1
  ·subst r;omega
  ·have:=m (i+1) j d p oM;omega
def Js{l:LP}(d:Bb l)(u:l≠[]){a b:Int}(i:a<b)(r:Ka l<=a)(w:b<=Ma l)(s:∀q∈l,¬(a<q.1/\q.1<b)){x:Rat}(o:(a:Rat)<=x)(p:x<=(b:Rat)):((b:Rat)-(a:Rat))*Sb l x=((b:Rat)-x)*Sb l (a:Rat)+(x-(a:Rat))*Sb l (b:Rat):=by
 obtain⟨e,c,m,v,_⟩:=Vq u r (k:=a) oM;have t:=d.between c;have n:b<=e.2.1:=by
  have:=s e.2 t.2.1;omega
 have f:((e.1.1:Int):Rat)<=(a:Rat):=Rat.intCast_le_intCast.2 m;have g:(b:Rat)<=((e.2.1:Int):Rat):=Rat.intCast_le_intCast.2 n;have j:(a:Rat)<=(b:Rat):=Rat.intCast_le_intCast.2 (Int.le_of_lt i);rw[Yk d c (Rat.le_trans f o) (Rat.le_trans p g),Yk d c f (Rat.le_trans j g),Yk d c (Rat.le_trans f j) g];exact fC e _ _ _
section
variable {L U:LP} (rL:Bb L) (rU:Bb U) (nL:L≠[]) (nU:U≠[])
include rL rU nL nU
theorem ZK(h:(Ic L U).lo<(Ic L U).hi){i:Nat}{a b:Int}(j:(Qa (Ic L U))[i]?=V a)(k:(Qa (Ic L U))[i+1]?=V b){x:Rat}(f:(a:Rat)<=x)(g:x<=(b:Rat)):((b:Rat)-(a:Rat))*Db (Ic L U) x=((b:Rat)-x)*Db (Ic L U) (a:Rat)+(x-(a:Rat))*Db (Ic L U) (b:Rat):=by
 obtain⟨c,d⟩:=BA h j k;have l:=Tm h (lM j);have m:=Tm h (lM k);have n:Ka L<=a/\Ka U<=a:=by unfold Ic at l;dsimp only at l;omega
 have o:b<=Ma L/\b<=Ma U:=by unfold Ic at m;dsimp only at m;omega
 have p:=Js rL nL c n.1 o.1 (fun q e=>d q (List.mem_append.2 (.inl e))) f g;have r:=Js rU nU c n.2 o.2 (fun q e=>d q (List.mem_append.2 (.inr e))) f g;unfold Db;unfold Ic;dsimp only;grind
end
def CD{s:Sp}(h:s.lo<s.hi){x:Rat}(t:((s.lo:Int):Rat)<=x)(w:x<=((s.hi:Int):Rat)):∃(i:Nat)(a b:Int),(Qa s)[i]?=V a/\(Qa s)[i+1]?=V b/\(a:Rat)<=x/\x<=(b:Rat):=by
 have K:=List.pairwise_iff_getElem.1 (QA s);have k:s.lo∈Qa s:=Ye.2 (.inl rfl);have f:s.hi∈Qa s:=Ye.2 (.inr (.inl rfl));obtain⟨p,z,u⟩:=List.getElem_of_mem k;obtain⟨q,l,eq⟩:=List.getElem_of_mem f;have key:∀(n:Nat),n<(Qa s).length->x<=(((Qa s).getD n 0:Int):Rat)->n=0\/(∃(i:Nat)(a b:Int),(Qa s)[i]?=V a/\(Qa s)[i+1]?=V b/\(a:Rat)<=x/\x<=(b:Rat))\/x<=(((Qa s).getD 0 0:Int):Rat):=by
  intro n;induction n with
  | zero=>intro _ _;exact .inl rfl
  | succ n R =>
   intro y P
   right
   by_cases d:(((Qa s).getD n 0:Int):Rat)<=x
   ·refine .inl ⟨n,(Qa s).getD n 0,(Qa s).getD (n+1) 0,?_,?_,d,P⟩
    ·rw[gD,gE oM];rfl
    ·rw[gD,gE y];rfl
   ·rcases R oM (Rat.le_of_lt (Rat.not_le.1 d))with rfl|c
    ·right
     exact Rat.le_of_lt (Rat.not_le.1 d)
    ·exact c
 have r:(Qa s).getD 0 0=s.lo:=by
  have g:0<(Qa s).length:=oM;rw[gD,gE g];show (Qa s)[0]=s.lo;have T:=Tm h (List.getElem_mem g);by_cases e:p=0
  ·subst e;exact u
  ·have:=K 0 p g z oM;omega
 have m:q≠0:=by
  rintro rfl;have:(Qa s).getD 0 0=s.hi:=by rw[gD,gE l];exact eq
  omega
 have o:x<=(((Qa s).getD q 0:Int):Rat):=by
  rw[gD,gE l];show x<=(((Qa s)[q]:Int):Rat);rw[eq];exact w
 rcases key q l o with e|c|c
 ·exact absurd e m
 ·exact c
 ·rw[r]at c;have v:x=((s.lo:Int):Rat):=Rat.le_antisymm c t;have j:1<(Qa s).length:=oM;refine⟨0,(Qa s)[0],(Qa s)[1],gE _,gE _,?_,?_⟩
  ·have:(Qa s)[0]=s.lo:=by rw[<-r,gD,gE oM];rfl
   rw[this];exact t
  ·rw[v];have:=(Tm h (List.getElem_mem j)).1;exact Rat.intCast_le_intCast.2 this
end
section
open Go.RowKit Go.Shelf
attribute [local go_sem] Oper.semAt_some
def yt{q:Pl}{s b c:M}{m:Nat}{u:M}(h:(pe q s)[m]?=V u):(Jd q s b c)[m]?=V u:=by
 have a:=(Array.getElem?_eq_some_iff.1 h).1;unfold pe at h a;unfold Jd
 match m,a with
 | 0,_|1,_|2,_|3,_|4,_|5,_|6,_|7,_|8,_|9,_=>simpa using h
 | m+10,a=>exact absurd a (by simp only[List.size_toArray,List.length_cons,List.length_nil];omega)
def Dv(w:I)(c d:M)(a:Array M)(b:M)(W:I):Prop:=
 b=N false/\oa w W/\W.heap[w.heap.size]?=V (.cells #[c,d] 110 (0,0))/\W.heap[w.heap.size+1]?=V (.cells Ej 92 (0,0))/\W.heap[w.heap.size+1+1]?=V (.cells a 118 (0,0))
def Tj{W:I}{b:Nat}(h:W.heap[b]?=V (.cells Ej 92 (0,0))):W.cell? ⟨b,0,O⟩=V (Z X 0)/\W.cell? ⟨b,1,O⟩=V (Y O 0 0)/\W.cell? ⟨b,2,O⟩=V (N false)/\W.cell? ⟨b,3,O⟩=V (Y O 0 0)/\W.cell? ⟨b,4,O⟩=V (Y O 0 0)/\W.cell? ⟨b,5,O⟩=V (N false)/\W.cell? ⟨b,6,O⟩=V (Y O 0 0)/\W.cell? ⟨b,7,O⟩=V (Y O 0 0)/\W.cell? ⟨b,8,O⟩=V (N false)/\W.cell? ⟨b,9,O⟩=V (Y O 0 0)/\W.cell? ⟨b,10,O⟩=V (Y O 0 0)/\W.cell? ⟨b,11,O⟩=V (N false)/\W.cell? ⟨b,12,O⟩=V (Y O 0 0)/\W.cell? ⟨b,13,O⟩=V (Z X 0)/\W.cell? ⟨b,14,O⟩=V (Z X 0)/\W.cell? ⟨b,15,O⟩=V (Z X 0)/\W.cell? ⟨b,16,O⟩=V (Z X 0):=
 ⟨Gb h rfl,Gb h rfl,Gb h rfl,Gb h rfl,Gb h rfl,Gb h rfl,Gb h rfl,Gb h rfl,Gb h rfl,Gb h rfl,Gb h rfl,Gb h rfl,Gb h rfl,Gb h rfl,Gb h rfl,Gb h rfl,Gb h rfl⟩
def AI(w:I)(vg vs:M)(ps:List Pl)(a:Nat)(p:Pl)(b ak:Int)(hg:∃a n c,vg=Y a n c)(P:Ub w vs ps)(ha:ps[a]?=V p)(g:Nat)(ad:b=(g:Int))(q:Pl)(hq:ps[g]?=V q)(T:jd p q=false)(ag:(a:Int)≠b):Calls Tryz.prog 100 #[.agg #[vg,vs],Z X a,Z X b,Z X ak] w (Df w O):=by
 subst ad;obtain⟨ga,gn,gc,rfl⟩:=hg;obtain⟨sa,n,sc,rfl⟩:=Ia P;have hl:=P.len;have af:=P.le;obtain⟨j,o,s,vl,vu,rfl,aO,d1,d2,d3,k⟩:=P.at' ha;obtain⟨t,z,x,rfl⟩:=Ia d1;obtain⟨ah,aj,ai,rfl⟩:=Ia d2;obtain⟨av,ay,aw,rfl⟩:=Ia d3;have hi:=(lS.1 ha).1;have p1:(0:Int)<=(a:Int):=oM;have p2:(a:Int)<(n:Int):=oM;have p3:a<n:=oM;have aa:=k 0 (.string p.name) rfl;have aE:=k 1 (Y t z x) rfl;have aF:=k 2 (Z X p.depth) rfl;have aG:=k 3 (Z X p.density) rfl;have aH:=k 4 (Z X p.gx) rfl;have aI:=k 5 (Z X p.gz) rfl;have aJ:=k 6 (Z X p.way) rfl;have aK:=k 7 (Z X p.ax) rfl;have aL:=k 8 (Z X p.az) rfl;have aM:=k 9 (Z .u8 p.skin) rfl;have aA:=k 10 (Y ah aj ai) rfl;have aB:=k 11 (Y av ay aw) rfl;simp only[Nat.add_zero]at aa;have aS:((a:Int)==(g:Int))=false:=by simpa using ag
 obtain⟨b1,o1,s',a3,a4,e9,aP,R,ab,ac,d⟩:=P.at' hq;cases e9;have aR:(0:Int)<=(g:Int):=oM;have aQ:decide ((0:Int)<=(g:Int))=true:=sM;have aC:j<w.heap.size+1:=oM;have aD:j<w.heap.size+1+1:=oM;obtain⟨u,K,y,rfl⟩:=Ia R;have ae:=(lS.1 hq).1;have r2:(g:Int)<(n:Int):=oM;have r4:g<n:=oM;have al:=d 0 (.string q.name) rfl;have aU:=d 1 (Y u K y) rfl;have aV:=d 2 (Z X q.depth) rfl;have aW:=d 3 (Z X q.density) rfl;have aX:=d 4 (Z X q.gx) rfl;have aY:=d 5 (Z X q.gz) rfl;have aZ:=d 6 (Z X q.way) rfl;have a0:=d 7 (Z X q.ax) rfl;have a1:=d 8 (Z X q.az) rfl;have a2:=d 9 (Z .u8 q.skin) rfl;simp only[Nat.add_zero]at al;have l:=ia (fun(W:I)=>jo W p q (Y t z x) (Y u K y) ⟨_,_,_,rfl⟩ ⟨_,_,_,rfl⟩);rw[T]at l;unfold pe at l;clear P ha k d hq T R ab ac ae d1 d2 d3 hl af hi;go_in;go_wp2;refine Ke [(⟨w.heap.size+1+1,0,O⟩,.string p.name),(⟨w.heap.size+1+1,1,O⟩,Y t z x),(⟨w.heap.size+1+1,2,O⟩,Z X p.depth),(⟨w.heap.size+1+1,3,O⟩,Z X p.density),(⟨w.heap.size+1+1,4,O⟩,Z X p.gx),(⟨w.heap.size+1+1,5,O⟩,Z X p.gz),(⟨w.heap.size+1+1,6,O⟩,Z X p.way),(⟨w.heap.size+1+1,7,O⟩,Z X p.ax),(⟨w.heap.size+1+1,8,O⟩,Z X p.az),(⟨w.heap.size+1+1,9,O⟩,Z .u8 p.skin),(⟨w.heap.size,1,O⟩,Y (V ⟨j,o,O⟩) n sc),(⟨j,o+g*12,O⟩,.string q.name),(⟨j,o+g*12+1,O⟩,Y u K y),(⟨j,o+g*12+2,O⟩,Z X q.depth),(⟨j,o+g*12+3,O⟩,Z X q.density),(⟨j,o+g*12+4,O⟩,Z X q.gx),(⟨j,o+g*12+5,O⟩,Z X q.gz),(⟨j,o+g*12+6,O⟩,Z X q.way),(⟨j,o+g*12+7,O⟩,Z X q.ax),(⟨j,o+g*12+8,O⟩,Z X q.az),(⟨j,o+g*12+9,O⟩,Z .u8 q.skin)] cA fun m=>?_;refine sN 0 ?_
 iterate 15 refine Fc ?_
 refine oN ?_;refine Ec (i:=15) (l.o _) ?_;rintro e w3 ⟨rfl,r⟩;refine⟨_,rfl,(cE m r),fun m=>?_⟩;refine sN 16 ?_
 iterate 3 refine Fc ?_
 refine oN ?_;refine Wd ?_;have X3:oa w w3:=((((eR w).alloc _).alloc _).alloc _).drew.trans r;have f:w3.heap[w.heap.size+1]?=V (.cells Ej 92 (0,0)):=r.e ((((eR _).alloc _).drew).e (Kc _ _ _ sM));have aT:∀i,w3.frozen? ⟨w.heap.size+1,i,O⟩=false:=fun i=>Vb f i;have u0:=ja f 0 (Z X 0);have u1:=ja f 1 (Y O 0 0);have u2:=ja f 2 (N false);have u3:=ja f 3 (Y O 0 0);have u4:=ja f 4 (Y O 0 0);have u5:=ja f 5 (N false);have u6:=ja f 6 (Y O 0 0);have u7:=ja f 7 (Y O 0 0);have u8:=ja f 8 (N false);have u9:=ja f 9 (Y O 0 0);have am:=ja f 10 (Y O 0 0);have an:=ja f 11 (N false);have ao:=ja f 12 (Y O 0 0);have ap:=ja f 13 (Z X 0);have aq:=ja f 14 (Z X 0);have ar:=ja f 15 (Z X 0);have au:=ja f 16 (Z X 0);clear m;have a5:=jc f;go_wp2;refine bR (v:=.tuple #[.agg Ej,N false]) (by unfold Ej;simp[results,Tryz.results100,go_sem,u0,u1,u2,u3,u4,u5,u6,u7,u8,u9,am,an,ao,ap,aq,ar,au]) rfl ?_;exact⟨eA,.inl ⟨rfl,rfl⟩⟩
