import Derived.Test.YtgimcmpeceifnaaGreatDoorCopT12
import Derived.Test.YtgimcmpeceifnaaGreatDoorComA22
import Derived.Laws.StructEq
set_option maxRecDepth 1000000
set_option maxHeartbeats 16000000
set_option linter.all false
open Go.Value renaming int->O,slice->M,pointer->Oa,bool->Ob,agg->Od
open Go.IntKind renaming i64->Y
open Option renaming none->Z,some->I
open Go renaming World->N,Value->G
open Go.Obj renaming cells->A
namespace Go.Proofs.YtgimcmpeceifnaaGreatDoor.Cop
section
open Go.RowKit Go.Shelf Go.Sort Go.Lib Go.Maps
structure xA (ks:List (JS×G)) (L:List Jt) (rs:List Int):Prop where
 jts:∀j∈L,Fh j
 stones:∀x∈ks,fW x.1
 few:ks.length<=120
 len:L.length<=14400
 rlen:rs.length=L.length
 rbd:∀z∈rs,Bd 1000000 z
def sT{p}(h:Fa p=true):Bd 10000 p.depth:=by unfold Fa pd at h;simp only[Bool.and_eq_true]at h;have a:=h.1.1.1.2;unfold Ra at a;simp at a;unfold Bd;omega
def FG{α β:Type}(f:α->List β) m:∀(l:List α),(∀x∈l,(f x).length<=m)->(l.flatMap f).length<=l.length*m
 | [],_=>by simp
 | x::l,h=>by
  have b:=FG f m l (fun y a=>h y (mC _ a));have c:=h x sM;rw[List.flatMap_cons,lA,List.length_cons,Nat.succ_mul];omega
def Wp{r ps j}(h:j∈Kb r ps):j∈Se ps:=(List.mem_filter.1 h).1
def XA{r ps ks L rs}(c:∀p∈ps,Fa p=true)(w:ps.length<=120)(h:il r ps ks L rs):xA ks L rs:=by
 have n:(Kb r ps).length<=120:=by
  have t:(Kb r ps).length<=(Se ps).length:=List.length_filter_le _ _;rw[ko]at t;omega
 have m:ks.length<=120:=by
  have u:=congrArg List.length h.skin;rw[lL]at u;omega
 have l:∀j∈L,Fh j:=by
  intro j l;have f:=h.perm.mem_iff.1 l;unfold Fg at f;obtain⟨a,o,d⟩:=List.mem_flatMap.1 f;unfold xg at d;obtain⟨b,v,rfl⟩:=List.mem_map.1 d;exact tC c w (Wp o) (Wp (List.mem_filter.1 v).1)
 refine⟨l,fun x q=>?_,m,?_,by rw[h.roots,Tn],by rw[h.roots];exact zv l _⟩
 ·have f:x.1∈Kb r ps:=h.skin▸List.mem_map_of_mem q;have d:=Wp f;have g:=Qp c d;obtain⟨k,e,z⟩:=Ay h.skin q;obtain⟨p,y,i,s⟩:=uC d;exact⟨g.1.1,g.1.2,g.2.1,g.2.2,by rw[s];exact sT (c p y),k,e,by omega⟩
 ·rw[h.perm.length_eq];unfold Fg;refine nT (FG _ 120 _ (fun a o=>?_)) oM;unfold xg;rw[lL];exact nT (List.length_filter_le _ _) n
def pB{ps a b}(f:a∈Se ps)(g:b∈Se ps)(h:a.k=b.k):a=b:=by
 obtain⟨i,c⟩:=List.getElem?_of_mem f;obtain⟨j,d⟩:=List.getElem?_of_mem g;unfold Se at c d;rw[List.getElem?_mapIdx]at c d;cases hp:ps[i]? with
 | none=>rw[hp]at c;cases c
 | some p =>
  cases hq:ps[j]? with
  | none=>rw[hq]at d;cases d
  | some q =>
   rw[hp]at c;rw[hq]at d;cases c;cases d;have e:i=j:=by unfold Ib at h;dsimp only at h;omega
   subst e;rw[hp]at hq;cases hq;rfl
def CJ{r ps x y}(e:x∈Fg r (Kb r ps))(f:y∈Fg r (Kb r ps))(l:¬fh y x<0)(m:¬fh x y<0):x=y:=by unfold Fg xg at e f;obtain⟨a,p,n⟩:=List.mem_flatMap.1 e;obtain⟨b,q,rfl⟩:=List.mem_map.1 n;obtain⟨c,s,o⟩:=List.mem_flatMap.1 f;obtain⟨d,t,rfl⟩:=List.mem_map.1 o;rw[Fo]at l m;have g:(qe a b).a=(qe c d).a:=oM;have i:(qe a b).b=(qe c d).b:=oM;have j:a=c:=pB (Wp p) (Wp s) g;have k:b=d:=pB (Wp (List.mem_filter.1 q).1) (Wp (List.mem_filter.1 t).1) i;rw[j,k]
def FH{r c ps ks d L L' rs f}(h:il r ps ks L rs)(e:il c ps d L' f)(l:c.skin=r.skin)(m:c.wide=r.wide):L'=L/\d.map Prod.fst=ks.map Prod.fst:=by
 have g:Kb c ps=Kb r ps:=by
  unfold Kb
  congr 1
  funext j
  unfold Xf;rw[l]
 have k:Fg c (Kb c ps)=Fg r (Kb r ps):=by
  rw[g];unfold Fg
  congr 1
  funext a
  unfold xg
  congr 1
  congr 1
  funext b
  unfold Gd;rw[m]
 refine⟨?_,by rw[h.skin,e.skin,g]⟩;have i:L'.Perm L:=(e.perm.trans (by rw[k])).trans h.perm.symm;refine List.Perm.eq_of_pairwise (le:=fun a b=>¬fh b a<0) (fun a b n o p q=>?_) e.ord h.ord i;exact CJ (h.perm.mem_iff.1 (i.mem_iff.1 n)) (h.perm.mem_iff.1 o) p q
end
section
open Go.RowKit Go.Shelf Go.Sort
def Id(j:Jt)(out:List Jt):Nat->Nat
 | 0=>0
 | n+1=>match out[n]? with|some x=>if fh j x<0 then Id j out n else n+1|none=>n+1
def Zg(out:List Jt)(j:Jt):List Jt:=out.take (Id j out out.length)++j::out.drop (Id j out out.length)
def Gn(l:List Jt):Prop:=l.Pairwise fun a b=>¬fh b a<0
def nz j out:∀n,n<=out.length->Id j out n<=n/\(∀i x,Id j out n<=i->i<n->out[i]?=I x->fh j x<0)/\(∀x,0<Id j out n->out[Id j out n-1]?=I x->¬fh j x<0)
 | 0,_=>⟨nE _,fun i x _ h _=>by omega,fun x h _=>absurd h (Nat.lt_irrefl _)⟩
 | n+1,h=>by
  obtain⟨x,c⟩:∃x,out[n]?=I x:=⟨_,gE oM⟩;have e:Id j out (n+1)=if fh j x<0 then Id j out n else n+1:=by rw[Id,c]
  rw[e];split
  ·rename_i hc;obtain⟨l,f,g⟩:=nz j out n oM;refine⟨by omega,fun i y d k a=>?_,g⟩;by_cases b:i=n
   ·subst b;rw[c]at a;cases a;exact hc
   ·exact f i y d oM a
  ·rename_i hc;refine⟨nE _,fun i y d k _=>by omega,fun y _ a=>?_⟩;rw[Nat.add_sub_cancel,c]at a;cases a;exact hc
def IB{a b c}(d:¬fh b a<0)(e:¬fh c b<0):¬fh c a<0:=by rw[Fo]at *;omega
def JB{a b}(h:fh a b<0):¬fh b a<0:=by rw[Fo]at *;omega
def EE out j:(Zg out j).Perm (j::out):=by unfold Zg;refine List.perm_middle.trans ?_;rw[List.take_append_drop]
def qN{out}(h:Gn out) j:Gn (Zg out j):=by
 obtain⟨s,p,q⟩:=nz j out out.length (nE _);generalize hm:Id j out out.length=m at *
 have r:=List.pairwise_iff_getElem.1 h;have c:∀a∈out.take m,¬fh j a<0:=fun a l=>by
  obtain⟨i,n,e⟩:=List.getElem_of_mem l;rw[List.length_take]at n;rw[List.getElem_take]at e;have k:m-1<out.length:=oM;have g:=q (out[m-1]'k) oM (gE k);by_cases o:i=m-1
  ·subst o;rw[<-e];exact g
  ·rw[<-e];exact IB (r i (m-1) oM k oM) g
 have d:∀b∈out.drop m,fh j b<0:=fun b f=>by
  obtain⟨i,n,e⟩:=List.getElem_of_mem f;rw[List.length_drop]at n;rw[List.getElem_drop]at e;exact p (m+i) b oM oM (by rw[<-e];exact gE _)
 unfold Zg Gn;rw[hm,List.pairwise_append];refine⟨h.sublist (List.take_sublist _ _),List.pairwise_cons.2 ⟨fun b f=>JB (d b f),h.sublist (List.drop_sublist _ _)⟩,fun a l b f=>?_⟩;rcases List.mem_cons.1 f with rfl|f
 ·exact c a l
 ·exact IB (c a l) (JB (d b f))
def AD:∀(l out:List Jt),Gn out->Gn (l.foldl Zg out)/\(l.foldl Zg out).Perm (out++l)
 | [],out,h=>⟨h,by rw[List.append_nil];exact List.Perm.refl _⟩
 | j::l,out,h=>by
  obtain⟨a,b⟩:=AD l (Zg out j) (qN h j);refine⟨a,b.trans ?_⟩;refine((EE out j).append_right l).trans ?_;rw[List.cons_append];exact List.perm_middle.symm
def Xz{r ps ks L rs}(h:il r ps ks L rs):(Fg r (Kb r ps)).foldl Zg []=L:=by obtain⟨b,a⟩:=AD (Fg r (Kb r ps)) [] List.Pairwise.nil;rw[List.nil_append]at a;exact(FH h ⟨h.skin,a,b,rfl⟩ rfl rfl).1
end
section
open Go.RowKit Go.Shelf Go.Sort Go.Lib Go.Maps
end
section
open Go.RowKit Go.Shelf Go.Sort Go.Lib
def Hh(r:Ru)(L:List Jt)(ro:List Int):Prop:=
 ∀k j,L[k]?=I j->ro.getD k 0<=j.fr/\j.til-r.run<=ro.getD k 0/\∀i∈Wf r L k,ro.getD k 0<=ro.getD i 0
def Dj(r:Ru)(js:List JS)(a:JS)(k:Nat):List Jt:=(((js.take k).filter (Xf r)).filter (Gd r (js.filter (Xf r)) a)).map (qe a)
def qi(r:Ru)(js:List JS)(i:Nat):List Jt:=((js.take i).filter (Xf r)).flatMap (xg r (js.filter (Xf r)))
def jE r js a:Dj r js a js.length=xg r (js.filter (Xf r)) a:=by unfold Dj xg;rw[List.take_length]
def VE r{js} a{k b}(h:js[k]?=I b):Dj r js a (k+1)=Dj r js a k++if (Xf r b&&Gd r (js.filter (Xf r)) a b)=true then [qe a b]else []:=by
 unfold Dj;rw[ze _ _ _ h,List.filter_append,List.filter_append,List.map_append]
 congr 1
 cases h1:Xf r b
 ·simp[h1]
 ·cases h2:Gd r (js.filter (Xf r)) a b
  ·simp[h1,h2]
  ·simp[h1,h2]
def Ty r{js i a}(h:js[i]?=I a):qi r js (i+1)=qi r js i++if Xf r a=true then xg r (js.filter (Xf r)) a else []:=by
 unfold qi;rw[ze _ _ _ h,List.filter_append,List.flatMap_append]
 congr 1
 cases h1:Xf r a
 ·simp[h1]
 ·simp[h1]
def tM r ps:qi r (Se ps) (Se ps).length=Fg r (Kb r ps):=by unfold qi Fg Kb;rw[List.take_length]
def ij(r:Ru)(js:List JS)(i:Nat):List Jt:=(qi r js i).foldl Zg []
def Gl(r:Ru)(js:List JS)(i:Nat)(a:JS)(k:Nat):List Jt:=(Dj r js a k).foldl Zg (ij r js i)
def yM r js i a:Gl r js i a 0=ij r js i:=by unfold Gl Dj;simp
def kL{r js i a b k}(h:js[k]?=I b)(c:(Xf r b&&Gd r (js.filter (Xf r)) a b)=true):Gl r js i a (k+1)=Zg (Gl r js i a k) (qe a b):=by unfold Gl;rw[VE r a h,if_pos c,List.foldl_append];rfl
def UH{r js i a b k}(h:js[k]?=I b)(c:(Xf r b&&Gd r (js.filter (Xf r)) a b)=false):Gl r js i a (k+1)=Gl r js i a k:=by unfold Gl;rw[VE r a h,if_neg (by rw[c];decide),List.append_nil]
def oL{r js i a}(h:js[i]?=I a)(b:Xf r a=true):ij r js (i+1)=Gl r js i a js.length:=by unfold ij Gl;rw[Ty r h,if_pos b,List.foldl_append,jE];rfl
def VH{r js i a}(h:js[i]?=I a)(b:Xf r a=false):ij r js (i+1)=ij r js i:=by unfold ij;rw[Ty r h,if_neg (by rw[b];decide),List.append_nil]
def Cx{r ps ks L rs}(h:il r ps ks L rs):ij r (Se ps) (Se ps).length=L:=by unfold ij;rw[tM];exact Xz h
def BR{α:Type}{out:List α}{k y x}(f:0<k)(a:out[k-1]?=I x):(out.take k++y::out.drop k).set k x=out.take (k-1)++x::out.drop (k-1):=by
 have e:=(lS.1 a).1;have b:(out.take k).length=k:=by rw[List.length_take];omega
 rw[List.set_append_right _ _ oM,b,Nat.sub_self,List.set_cons_zero];have c:out.take k=out.take (k-1)++[x]:=by
  have:=ze out (k-1) x a;rw[show k-1+1=k by omega]at this;exact this
 have d:out.drop (k-1)=x::out.drop k:=by
  rw[List.drop_eq_getElem_cons e,show k-1+1=k by omega]
  congr 1
  exact(lS.1 a).2
 rw[c,d,List.append_assoc];rfl
def XL{α:Type}{out:List α}{k y x}(b:0<k)(a:out[k-1]?=I x):(out.take k++y::out.drop k)[k-1]?=I x:=by have c:=(lS.1 a).1;rw[List.getElem?_append_left (by rw[List.length_take];omega),List.getElem?_take_of_lt oM];exact a
def WN{α:Type}{out:List α}{k y j}(b:k<=out.length):(out.take k++y::out.drop k).set k j=out.take k++j::out.drop k:=by
 have a:(out.take k).length=k:=by rw[List.length_take];omega
 rw[List.set_append_right _ _ oM,a,Nat.sub_self,List.set_cons_zero]
def YQ{j out n x}(h:out[n]?=I x):Id j out (n+1)=if fh j x<0 then Id j out n else n+1:=by rw[Id,h]
def rN out j:(Zg out j).length=out.length+1:=(EE out j).length_eq
def ry:∀(l out:List Jt),(l.foldl Zg out).length=out.length+l.length
 | [],out=>rfl
 | j::l,out=>by
  rw[List.foldl_cons,ry l,rN,List.length_cons];omega
def iE r js a k:(Dj r js a k).length<=k:=by unfold Dj;rw[lL];refine nT (List.length_filter_le _ _) (nT (List.length_filter_le _ _) ?_);rw[List.length_take];omega
def lE r js:∀i,(qi r js i).length<=i*js.length
 | 0=>by simp[qi]
 | i+1=>by
  have c:=lE r js i;cases h:js[i]? with
  |none=>
   have e:qi r js (i+1)=qi r js i:=by
    unfold qi;have:=List.getElem?_eq_none_iff.1 h;rw[lT oM,lT oM]
   rw[e,Nat.succ_mul];omega
  | some a =>
   rw[Ty r h,lA,Nat.succ_mul];have b:=iE r js a js.length;rw[jE]at b;split
   ·omega
   ·simp;omega
def jD r js i:(ij r js i).length<=i*js.length:=by unfold ij;rw[ry];have:=lE r js i;simp;omega
def mL r js i a k:(Gl r js i a k).length<=i*js.length+k:=by unfold Gl;rw[ry];have:=jD r js i;have:=iE r js a k;omega
def Xh(r:Ru)(js:List JS)(i:Nat)(a:JS)(k:Nat):List Jt:=if Xf r a=true then Gl r js i a k else ij r js i
def FN r js i a:Xh r js i a 0=ij r js i:=by
 unfold Xh;split
 ·exact yM r js i a
 ·rfl
def iL r js i a k:(Xh r js i a k).length<=i*js.length+k:=by
 unfold Xh;split
 ·exact mL r js i a k
 ·have:=jD r js i;omega
def jL{r js i a}(h:js[i]?=I a):Xh r js i a js.length=ij r js (i+1):=by
 unfold Xh;cases h1:Xf r a
 ·rw[if_neg dM,VH h h1]
 ·rw[if_pos rfl,oL h h1]
def gL{r js i a k}(h:Xf r a=false):Xh r js i a (k+1)=Xh r js i a k:=by unfold Xh;rw[h];rfl
def tr{r js i a b k}(h:js[k]?=I b)(c:(Xf r b&&Gd r (js.filter (Xf r)) a b)=false):Xh r js i a (k+1)=Xh r js i a k:=by unfold Xh;rw[UH h c]
def fL{r js i a b k}(h:js[k]?=I b)(c:Xf r a=true)(d:(Xf r b&&Gd r (js.filter (Xf r)) a b)=true):Xh r js i a (k+1)=Zg (Xh r js i a k) (qe a b):=by unfold Xh;rw[if_pos c,if_pos c,kL h d]
end
section
open Go.RowKit Go.Shelf Go.Sort
def Di(r:Ru)(L:List Jt)(rs:List Int)(k:Nat)(a:Int)(i:Nat):Int:=(((List.range i).filter (Pe r L k)).foldl (fun o i=>min o (rs.getD i 0)) a)
def NR r L rs k a i:Di r L rs k a (i+1)=if Pe r L k i=true/\rs.getD i 0<Di r L rs k a i then rs.getD i 0 else Di r L rs k a i:=by
 unfold Di;rw[List.range_succ,List.filter_append];by_cases h:Pe r L k i=true
 ·rw[List.filter_cons_of_pos h,List.filter_nil,List.foldl_append];simp only[List.foldl_cons,List.foldl_nil,h,true_and];split<;>omega
 ·rw[List.filter_cons_of_neg h,List.filter_nil,List.append_nil,if_neg (fun b=>h b.1)]
def PW{r L}(h:Gn L){k i}(c:Pe r L k i=true):i<k:=by
 unfold Pe at c;cases hi:L[i]? with
 | none=>rw[hi]at c;cases c
 | some a =>
  cases hk:L[k]? with
  | none=>rw[hi,hk]at c;cases c
  | some b =>
   rw[hi,hk]at c;unfold Qd at c;simp only[Bool.and_eq_true,decide_eq_true_eq]at c;obtain⟨j,d⟩:=lS.1 hi;obtain⟨l,e⟩:=lS.1 hk;by_cases f:i<k
   ·exact f
   ·by_cases g:i=k
    ·subst g;rw[hi]at hk;cases hk;omega
    ·have:=List.pairwise_iff_getElem.1 h k i l j oM;rw[d,e,Fo]at this;omega
def FW{r L}(h:Gn L){k i}:i∈Wf r L k ↔ Pe r L k i=true:=by unfold Wf;rw[List.mem_filter,List.mem_range];exact⟨fun a=>a.2,fun a=>⟨PW h a,a⟩⟩
def rk(r:Ru)(L:List Jt)(ro:List Int)(k:Nat)(j:Jt):Prop:=
 ¬j.fr<ro.getD k 0/\¬r.run<IntKind.i64.wrap (j.til-ro.getD k 0)/\¬IntKind.i64.wrap (j.til-ro.getD k 0)<0/\∀i,Pe r L k i=true->ro.getD k 0<=ro.getD i 0
def JW z(a:0<=z)(b:z<18446744073709551616):(z<=9223372036854775807/\IntKind.i64.wrap z=z)\/(9223372036854775807<z/\IntKind.i64.wrap z<0):=by
 by_cases h:z<=9223372036854775807
 ·exact .inl ⟨h,iW _ oM⟩
 ·refine .inr ⟨by omega,?_⟩;have e:IntKind.i64.wrap z=z-18446744073709551616:=by
   unfold IntKind.wrap;simp[IntKind.bits,IntKind.signed];omega
  rw[e];omega
def QW{r L ro}(h:Gn L)(q:0<=r.run/\r.run<=1000000)(w:∀j∈L,Bd 1000000 j.fr/\Bd 1000000 j.til/\j.fr<j.til)(n:∀k,-9223372036854775808<=ro.getD k 0/\ro.getD k 0<=9223372036854775807):(∀k j,L[k]?=I j->rk r L ro k j) ↔ Hh r L ro:=by
 unfold Hh rk;have key:∀k j,L[k]?=I j->((¬j.fr<ro.getD k 0/\¬r.run<IntKind.i64.wrap (j.til-ro.getD k 0)/\¬IntKind.i64.wrap (j.til-ro.getD k 0)<0) ↔ (ro.getD k 0<=j.fr/\j.til-r.run<=ro.getD k 0)):=by
  intro k j e;obtain⟨s,t,x⟩:=w j (lM e);obtain⟨y,z⟩:=n k;unfold Bd at s t;by_cases p:j.fr<ro.getD k 0
  ·exact⟨fun f=>absurd p f.1,fun f=>absurd p oM⟩
  ·rcases JW (j.til-ro.getD k 0) oM oM with ⟨v,o⟩|⟨v,o⟩
   ·rw[o];omega
   ·omega
 constructor
 ·intro f k j e;obtain⟨a,b,c,d⟩:=f k j e;obtain⟨g,l⟩:=(key k j e).1 ⟨a,b,c⟩;exact⟨g,l,fun i m=>d i ((FW h).1 m)⟩
 ·intro f k j e;obtain⟨a,b,c⟩:=f k j e;obtain⟨g,l,u⟩:=(key k j e).2 ⟨a,b⟩;exact⟨g,l,u,fun i m=>c i ((FW h).2 m)⟩
end
section
open Go.RowKit Go.Shelf Go.Sort
attribute [local go_sem] Oper.semAt_some
def CW(r:Ru)(L:List Jt)(ro:List Int)(k:Nat)(j:Jt):Prop:=ro.getD k 0<=j.fr/\j.til-r.run<=ro.getD k 0/\∀i∈Wf r L k,ro.getD k 0<=ro.getD i 0
def gv(s e:Nat)(c:Option Addr)(b d:Nat)(a:Act):Prop:=
 a.tmps.size=73/\a.tmps.getD 4 undef=Oa (I ⟨s+1,0,Z⟩)/\a.tmps.getD 5 undef=Oa (I ⟨s+1+1,0,Z⟩)/\a.tmps.getD 6 undef=Oa (I ⟨s+1+1+1,0,Z⟩)/\a.tmps.getD 7 undef=Oa (I ⟨e,0,Z⟩)/\a.tmps.getD 33 undef=M c b d/\a.tmps.getD 34 undef=O Y b
def EW(c:N)(s l:Nat)(e:Option Addr)(g f:Nat)(r:Ru)(L:List Jt)(ro:List Int)(d:Nat)(a:Act)(W:N):Prop:=
 (∃(i:Nat)(b:List Nat),i<=L.length/\a.tmps.getD 35 undef=O Y (i:Nat)/\d=L.length-i/\Ba c W/\a.defers=rj b/\Vb W b/\(∀D∈b,c.heap.size<=D)/\∀k j,k<i->L[k]?=I j->CW r L ro k j)/\gv s l e g f a
def DW(wr:N)(ro:List Int)(i:Nat)(pre:List {x:Nat // x<i})(W:N):Prop:=
 Ba wr W/\wr.heap.size+1+1+1+1<=W.heap.size/\W.heap[wr.heap.size]?=I (A #[O Y i] 3 (0,0))/\∀x∈pre,ro.getD i 0<=ro.getD x.1 0
def BW(wr:N)(a:Nat)(ro:List Int)(i:Nat)(c:Code)(pre:List {x:Nat // x<i})(W:N):Prop:=
 c = .ret/\wr.grownBy W (I a)/\wr.heap.size+1+1+1+1<=W.heap.size/\W.heap[a]?=I (A #[Ob false] 4 (0,0))/\∃x∈pre,¬ro.getD i 0<=ro.getD x.1 0
def SW{a b c row}(h:Ba a b)(g:b.grownBy c row):a.grownBy c row:=
 ⟨g.os.trans h.os,g.tape.trans h.tape,g.output.trans h.output,nT h.size g.size,fun i d e=>(g.block i (Nat.lt_of_lt_of_le d h.size) e).trans (h.block d)⟩
def TB(s b:Nat)(x:Nat)(a:Act):Prop:=
 a.tmps.size=73/\a.tmps.getD 5 undef=Oa (I ⟨s+1+1,0,Z⟩)/\a.tmps.getD 6 undef=Oa (I ⟨s+1+1+1,0,Z⟩)/\a.tmps.getD 9 undef=Oa (I ⟨b,0,Z⟩)/\a.tmps.getD 11 undef=O Y (x:Nat)/\a.defers=[]
def VW Q w s sb vg vp vs vr r(a2:0<=r.run/\r.run<=10000) qa qn qc L ra rn rc ro(aD:Ye w (M qa qn qc) L)(bK:qn<=14400)(aR:∀j∈L,Fh j)(aF:Ud w (M ra rn rc) ro)(a1:ro.length=L.length)(hS:w.heap[sb]?=I (A (nj r vg vp vs (M qa qn qc) vr) 89 (0,0)))(ag:w.heap[s+1]?=I (A (Uf r) 32 (0,0)))(aQ:w.heap[s+1+1]?=I (A #[M ra rn rc] 47 (0,0)))(aA:w.heap[s+1+1+1]?=I (A #[Ob false] 4 (0,0))) a0(bq:gv s sb qa qn qc a0)(bw:a0.tmps.getD 35 undef=O Y (0:Nat))(bu:a0.defers=rj [])(aS:∀a W Ds,gv s sb qa qn qc a->a.defers=rj Ds->Ba w W->Vb W Ds->(∀D∈Ds,w.heap.size<=D)->Hh r L ro->Q (.exit 0) a W)(aT:∀a W Ds,(a.tmps.size=73/\a.tmps.getD 6 undef=Oa (I ⟨s+1+1+1,0,Z⟩))->a.defers=rj Ds->w.grownBy W (I (s+1+1+1))->W.heap[s+1+1+1]?=I (A #[Ob false] 4 (0,0))->Vb W Ds->(∀D∈Ds,w.heap.size<=D)->¬Hh r L ro->Q .ret a W):(Code.loop (Tb Tryz.f18 0)).wpIn Fence.wide 5 Tryz.prog Q a0 w:=by
 have bT:=Ya aA;have b:=za aD.len.symm;have bg:=za aF.len;have aK:=za aD;have aH:=za aR;have aL:=za aF;have al:=za a1;have HS:=za hS;have bc:=za ag;have aG:=za aQ;have ab:=za aA;have be:=za aS;have aI:=za aT;clear aD aR aF a1 hS ag aQ aA aS aT;unfold Tb;simp only[Tryz.f18,Jb,List.cons_append,List.nil_append,List.append_nil,List.getD_cons_succ,List.getD_cons_zero];refine wpIn_loop_ghost_k (EW w s sb qa qn qc r L ro) qn ?h0 ?round
 case h0=>exact⟨⟨0,[],by omega,bw,by rw[b.o];rfl,eR _,bu,Vb.nil _,(fun D hD=>by cases hD),fun k j hk=>by omega⟩,bq⟩
 case round =>
  intro gk aa wr hinv;obtain⟨tt,dd⟩:=aa;obtain⟨⟨i,Ds,hi,ao,rfl,hx,aV,aW,aP,ax⟩,f1,f4,f5,f6,f7,am,an⟩:=hinv;dsimp only at f1 f4 f5 f6 f7 am an ao aV;subst aV;obtain⟨u,hu,ht⟩:=Qf tt 73 f1;simp only[hu]at f4 f5 f6 f7 am an ao;clear hu f1;subst ht;simp only[List.range,List.range.loop,List.map_cons,List.map_nil,f4,f5,f6,f7,am,an,ao];intro J K hJ hK;clear f4 f5 f6 f7 am an ao;rw[b.o]at hi;have k2:=Aa (hx.e aG.o) 0 (M ra rn rc);have k3:=Aa (hx.e ab.o) 0 (Ob false);have bH:=Za (hx.e ab.o);have zs:=hx.size;have y0:s+1+1<wr.heap.size:=oM;have y1:s+1+1+1<wr.heap.size:=oM;have y2:s+1<wr.heap.size:=oM;have y3:s+1+1<wr.heap.size+1:=oM;have y4:s+1+1+1<wr.heap.size+1:=oM;have y5:s+1<wr.heap.size+1:=oM;have HX:=za hx;have ac:=za aW;have aj:=za aP;have av:=za ax;clear hx aW aP ax;by_cases aE:i<qn
  ·obtain⟨⟨ja,jb,jl,jr,jf,jt⟩,ap⟩:∃q,L[i]?=I q:=⟨L[i]'(by rw[b.o];omega),by simp[b.o,aE]⟩;obtain⟨q,hq⟩:∃q,ro[i]?=I q:=⟨ro[i]'(by rw[al.o,b.o];omega),gE _⟩;have bA:=aH.o _ (lM ap);obtain⟨_,_,_,_,_,t⟩:=bA;dsimp only at t;obtain⟨bk,o,e0,hb,hc⟩:=(aK.o.f HX.o).at' ap;subst e0;unfold yh at hc;dsimp only at hc;have aO:=hc 0 (O Y ja) rfl;have bi:=hc 1 (O Y jb) rfl;have bj:=hc 2 (O Y jl) rfl;have bl:=hc 3 (O Y jr) rfl;have bm:=hc 4 (O Y jf) rfl;have bn:=hc 5 (O Y jt) rfl;simp only[Nat.add_zero]at aO;obtain⟨br,or,e1,bL,aU⟩:=(aL.o.f HX.o).at' hq;subst e1;have ag:=HX.o.e bc.o;obtain⟨sk,au,R,ar,step,f,g⟩:=r;dsimp only at a2;have a8:=Aa ag 5 (O Y f);have aZ:ro.getD i 0=q:=by rw[gD,hq];rfl
   have aX:=bg.o;have bD:rn=qn:=by rw[aX,al.o,b.o]
   have p1:(0:Int)<=(i:Int):=oM;have p2:(i:Int)<(rn:Int):=oM;have p3:(i:Int)<(qn:Int):=oM;have p4:i<rn:=oM;have ak:=za ap;have ad:=za aZ;have bP:IntKind.i64.wrap (jt-f)=jt-f:=iW _ (by unfold Bd at t;exact⟨by omega,by omega⟩);have bQ:wrap64 (jt-f)=jt-f:=IntWalk.wrap64_in _ (by unfold Bd at t;exact⟨by omega,by omega⟩);clear hc ap aZ aX bD ag hq t
   gi_wp2
   obtain⟨W7,ae⟩:=gX ((wr.alloc (A #[O Y i] 3)).alloc (A #[O Y ja,O Y jb,O Y jl,O Y jr,O Y jf,O Y jt] 82));have p:Ba wr W7:=by rw[<-ae];exact((eR wr).alloc _).alloc _
   have bE:W7.heap.size=wr.heap.size+1+1:=by rw[<-ae];simp
   have ai:W7.heap[wr.heap.size]?=I (A #[O Y i] 3 (0,0)):=by rw[<-ae];exact Iy wr _ _
   have ah:W7.heap[wr.heap.size+1]?=I (A #[O Y ja,O Y jb,O Y jl,O Y jr,O Y jf,O Y jt] 82 (0,0)):=by rw[<-ae];exact Up wr _ _
   rw[ae];have m2:=p.d k2;have bI:=p.d a8;have mr:=p.d aU;have bJ:=Za (p.e (HX.o.e ab.o));have m9:=Aa ai 0 (O Y i);have a9:=Aa ah 4 (O Y jf);have ba:=Aa ah 5 (O Y jt);have m3:=p.d k3;have ay:=za p;have bf:=za ai;clear ae p ai ah k2 a8 aU k3 bH aO bi bj bl bm bn;have HW:=za (show ∀(W:N),Ba W7 W->¬Hh ⟨sk,au,R,ar,step,f,g⟩ L ro->∀a:Act,(a.tmps.size=73/\a.tmps.getD 6 undef=Oa (I ⟨s+1+1+1,0,Z⟩))->a.defers=rj Ds->Q .ret a (W.setCell ⟨s+1+1+1,0,Z⟩ (Ob false))from fun W hW hP a ha hd=>by
    have X9:Ba w W:=HX.o.trans (ay.o.trans hW);have h9:=X9.e ab.o;exact aI.o a _ Ds ha hd (Bk (Ck (Mn w _) X9) 0 _) (Sk h9 0 _) ((ac.o.ext (ay.o.trans hW)).set h9 _) aj.o hP)
   by_cases hA:jf<q
   ·have m:¬Hh ⟨sk,au,R,ar,step,f,g⟩ L ro:=fun hp=>by
     have:=(hp i _ ak.o).1;rw[ad.o]at this;dsimp only at this;omega
    refine QG (S:=Da [(⟨s+1+1,0,Z⟩,M (I ⟨br,or,Z⟩) rn rc),(⟨wr.heap.size,0,Z⟩,O Y i),(⟨br,or+i,Z⟩,O Y q),(⟨wr.heap.size+1,4,Z⟩,O Y jf)]) kM kM ?_ (fun az=>?_)
    ·exact cA
    refine La (i:=0) ?_;refine La (i:=1) ?_;refine La (i:=2) ?_;refine La (i:=3) ?_;refine La (i:=4) ?_;refine La (i:=5) ?_;refine La (i:=6) ?_;refine La (i:=7) ?_;refine Pa (i:=8) ?_;refine Pa (i:=9) ?_;refine Pa (i:=10) ?_;refine Pa (i:=11) ?_;refine Pa (i:=12) ?_;refine Pa (i:=13) ?_;refine Pa (i:=14) ?_;refine Pa (i:=15) ?_;refine Pa (i:=16) ?_;refine Pa (i:=17) ?_;refine La (i:=18) ?_;refine Pb ?_;unfold NQ
    gi_wp2
    exact HW.o _ (eR _).drew m _ ⟨rfl,rfl⟩ rfl
   ·have bo:q<=jf:=Int.not_lt.1 hA;obtain⟨d,hd⟩:=gX (decide (q<jt-f));have bv:decide (jf<q)=false:=decide_eq_false hA;have Hd:=za hd;refine QG (S:=Da [(⟨s+1+1,0,Z⟩,M (I ⟨br,or,Z⟩) rn rc),(⟨wr.heap.size,0,Z⟩,O Y i),(⟨br,or+i,Z⟩,O Y q),(⟨wr.heap.size+1,4,Z⟩,O Y jf),(⟨wr.heap.size+1,5,Z⟩,O Y jt),(⟨s+1,5,Z⟩,O Y f)]) kM kM ?_ (fun az=>?_)
    ·exact cA
    refine La (i:=0) ?_;refine La (i:=1) ?_;refine La (i:=2) ?_;refine La (i:=3) ?_;refine La (i:=4) ?_;refine La (i:=5) ?_;refine La (i:=6) ?_;refine La (i:=7) ?_;refine La (i:=8) ?_;refine La (i:=9) ?_;refine La (i:=10) ?_;refine La (i:=11) ?_;refine La (i:=12) ?_;refine La (i:=13) ?_;refine La (i:=14) ?_;refine La (i:=15) ?_;refine La (i:=16) ?_;refine La (i:=17) ?_;refine La (i:=18) ?_;refine Pb ?_;unfold NQ;cases d with
    |true=>
     have m:¬Hh ⟨sk,au,R,ar,step,f,g⟩ L ro:=fun hp=>by
      have:=(hp i _ ak.o).2.1;rw[ad.o]at this;dsimp only at this;have:=of_decide_eq_true Hd.o;omega
     gi_wp2
     exact HW.o _ (eR _).drew m _ ⟨rfl,rfl⟩ rfl
    |false=>
     have bb:=Hd.o;obtain⟨W8,af⟩:=gX W7.drew;(have a4:Ba wr W8:=by rw[<-af];exact ay.o.drew);(have m9:W8.cell? ⟨wr.heap.size,0,Z⟩=I (O Y i):=by rw[<-af];exact m9);(have bx:W8.heap[wr.heap.size]?=I (A #[O Y i] 3 (0,0)):=by rw[<-af];exact bf.o);(have aq:W8.heap.size=wr.heap.size+1+1:=by rw[<-af];exact bE);rw[af];clear az af m2 m3 a9 ba bI bb bJ mr bv
     gi_wp2_with(refine⟨trivial,?_⟩;gi_at_call 47;refine(callsIn_wide.2 (TF _ sb i)).mono ?_;rintro e w' ⟨rfl,rfl⟩)
     obtain⟨W9,n⟩:=gX (((W8.alloc (A #[Oa (I ⟨sb,0,Z⟩)] 84)).alloc (A #[O Y i] 3)));(have a5:Ba wr W9:=by rw[<-n];exact(a4.alloc _).alloc _);(have bM:W9.heap.size=wr.heap.size+1+1+1+1:=by rw[<-n];simp[aq]);(have bt:W9.heap[wr.heap.size+1+1]?=I (A #[Oa (I ⟨sb,0,Z⟩)] 84 (0,0)):=by rw[<-n,<-aq];exact Iy W8 _ _);(have ai:W9.heap[wr.heap.size+1+1+1]?=I (A #[O Y i] 3 (0,0)):=by rw[<-n,<-aq];exact Up W8 _ _);rw[n];(have bz:W9.heap[wr.heap.size]?=I (A #[O Y i] 3 (0,0)):=by rw[<-n];exact(((eR W8).alloc _).alloc _).e bx);clear n aq a4;have bB:=aK.o.f HX.o;have a3:=aL.o.f HX.o;refine wpIn_rangeFunc_ownH rfl dM (gf:=81) (lb:=#[Oa (I ⟨wr.heap.size+1+1+1,0,Z⟩),Oa (I ⟨wr.heap.size+1+1,0,Z⟩)]) rfl trivial (enters_of Tryz.func81 kM rfl)
      (LE _ dM (wr.heap.size+1+1) wr W9 sb ⟨sk,au,R,ar,step,f,g⟩ vg vp vs (M (I ⟨bk,o,Z⟩) qn qc) vr L i (by rw[b.o];exact aE) aH.o (HX.o.e HS.o) bB bt ai a5) qh.trans (qh.put oM oM) (Below.refl _ _) (fun _=>rfl)
      (DW wr ro i) (BW wr (s+1+1+1) ro i) (Qk (fun s W h=>by have:=h.2.1;omega) (fun s W W' h k=>⟨k.ext h.1 oM,nT h.2.1 k.size,k.heap h.2.2.1,h.2.2.2⟩)) (fun c=>Qk (fun s W h=>by have:=h.2.2.1;omega) (fun s W W' h k=>⟨h.1,Ck h.2.1 (Below.mono k.1 oM),nT h.2.2.1 k.size,k.heap h.2.2.2.1,h.2.2.2.2⟩)) ⟨a5,by omega,bz,fun x hx=>by cases hx⟩
      (fun x a' _=>TB s wr.heap.size x.1 a') (fun x a'=>ownFrom_pure _ (fun _=>TB s wr.heap.size x.1 a')) ?assign ?body ?done ?stop
     case assign =>
      rintro l pre x W K hI hK
      gi_wp2
      refine hK _ _ (KeepsFrom.refl _ _) (qh.refl _ _ _) hI ⟨rfl,rfl,rfl,rfl,rfl,rfl⟩
     case body =>
      rintro l pre x a' W hl ⟨rr,hr⟩ hI hA aE;obtain⟨tt,dd⟩:=a';obtain⟨g1,g2,g3,g4,g5,g6⟩:=hA;dsimp only at g1 g2 g3 g4 g5 g6;subst g6;obtain⟨v,hu,ht⟩:=Qf tt 73 g1;simp only[hu]at g2 g3 g4 g5;clear hu;subst ht;simp only[List.range,List.range.loop,List.map_cons,List.map_nil,g2,g3,g4,g5];clear g1 g2 g3 g4 g5;obtain⟨x,bF⟩:=x;obtain⟨h1,h2,h4,h3⟩:=hI;obtain⟨z,hz⟩:∃z,ro[x]?=I z:=⟨ro[x]'(by rw[al.o,b.o];omega),gE _⟩;(have a7:ro.getD x 0=z:=by rw[gD,hz];rfl);have hq:ro[i]?=I q:=by
       have h9:=ad.o;rw[gD]at h9;obtain⟨y,hy⟩:∃y,ro[i]?=I y:=⟨ro[i]'(by rw[al.o,b.o];omega),gE _⟩;rw[hy]at h9 ⊢;exact congrArg I h9
      obtain⟨b2,o2,e2,_,d2⟩:=(a3.f h1).at' hz;obtain⟨b3,o3,e3,_,d3⟩:=(a3.f h1).at' hq;cases e2;cases e3;have n5:=Aa (h1.e (HX.o.e aG.o)) 0 (M (I ⟨br,or,Z⟩) rn rc);have h6:=h1.e (HX.o.e ab.o);have n6:=Aa h6 0 (Ob false);have bO:=Za h6;have n9:=Aa h4 0 (O Y i);have zw:=h1.size;have p5:(0:Int)<=(x:Int):=oM;have p6:(x:Int)<(rn:Int):=oM;have p7:x<rn:=oM;have H1:=za h1;have H3:=za h3;have H4:=za h4;have H6:=za h6;have aM:=za a7;have aw:=za ad.o;obtain⟨d,hd⟩:=gX (decide (z<q));have aJ:=za hd;clear hz hq a7 h1 h3 h4 h6
      gi_wp2
      refine Mr (S:=Da [(⟨s+1+1,0,Z⟩,M (I ⟨br,or,Z⟩) rn rc),(⟨wr.heap.size,0,Z⟩,O Y i),(⟨br,or+i,Z⟩,O Y q),(⟨br,or+x,Z⟩,O Y z)]) kM kM ?_ (fun az=>?_)
      ·exact cA
      refine La (i:=0) ?_;refine La (i:=1) ?_;refine La (i:=2) ?_;refine La (i:=3) ?_;refine La (i:=4) ?_;refine La (i:=5) ?_;refine La (i:=6) ?_;refine La (i:=7) ?_;refine La (i:=8) ?_;refine Pb ?_;unfold NQ;cases d with
      |true=>
       have bG:=of_decide_eq_true aJ.o
       gi_wp2
       have h9:W.drew.heap[s+1+1+1]?=I (A #[Ob false] 4 (0,0)):=H6.o;refine⟨(Yo ((eR W).drew)).trans ((KeepsOthers.setCell _ _ _).from _),rfl,Bk (Ck (Mn wr _) H1.o.drew) 0 _,by rw[Yb,fg];exact h2,Sk h9 0 _,⟨x,bF⟩,by simp,?_⟩;rw[aM.o,aw.o];omega
      |false=>
       have bG:=of_decide_eq_false aJ.o
       gi_wp2
       refine⟨Yo ((eR W).drew),(qh.refl wr (wr.heap.size+1+1) W).ext ((eR W).drew) H1.o.size oM,H1.o.drew,h2,H4.o,fun y hy=>?_⟩;rcases List.mem_append.1 hy with hy|hy
       ·exact H3.o y hy
       ·rw[List.mem_singleton.1 hy,aM.o,aw.o];omega
     case done =>
      rintro D ys W hD a6 ⟨h1,h2,h4,h3⟩ bp;have zw:=h1.size;have HH:=za h3;have bh:=za a6;clear h3 a6 h4
      gi_wp2
      refine Handed.intro (qn-(i+1)) (by have:=b.o;omega) (hJ _ _ _ ⟨⟨i+1,D::Ds,by have:=b.o;omega,?_,by rw[b.o],HX.o.trans h1,rfl,(ac.o.ext h1).cons bp (fun aC=>by have:=Ya (ac.o.2 D aC);omega),?_,?_⟩,rfl,rfl,rfl,rfl,rfl,rfl,rfl⟩)
      ·show (_:G)=_;go_num
      ·intro E hE;rcases List.mem_cons.1 hE with rfl|hE
       ·omega
       ·exact aj.o E hE
      ·intro k j hk hj;by_cases bC:k<i
       ·exact av.o k j bC hj
       ·obtain rfl:k=i:=oM;rw[ak.o]at hj;cases hj;have h9:=Hd.o;refine⟨by rw[ad.o];exact bo,by rw[ad.o];have:=of_decide_eq_false h9;dsimp only;omega,fun y hy=>?_⟩;rw[<-bh.o]at hy;obtain⟨x,hx,rfl⟩:=List.mem_map.1 hy;exact HH.o x hx
     case stop =>
      rintro D c pre W hD aY ⟨rfl,aB,bN,bs,x,hx,m⟩ hK;have zw:=aB.size
      gi_wp2
      refine aI.o _ _ (D::Ds) ⟨rfl,rfl⟩ rfl (SW HX.o aB) bs ((ac.o.grown aB (fun r hr=>by cases hr;exact⟨_,_,_,HX.o.e ab.o⟩)).cons hK (fun aC=>by have:=Ya (ac.o.2 D aC);omega)) (fun E hE=>?_) (fun hp=>Int.not_le.2 m ?_)
      ·rcases List.mem_cons.1 hE with rfl|hE
       ·omega
       ·exact aj.o E hE
      ·exact(hp i _ ak.o).2.2 x.1 (aY.subset (List.mem_map_of_mem hx))
  ·obtain rfl:qn=i:=oM
   gi_wp2
   exact be.o _ _ Ds ⟨rfl,rfl,rfl,rfl,rfl,rfl,rfl⟩ rfl HX.o ac.o aj.o (fun k j hj=>av.o k j (by have:=(lS.1 hj).1;rw[b.o]at this;exact this) hj)
def tk(w:N)(g:LP)(ps:List Pl)(r:Ru)(ro:List Int)(e:Ending)(w':N):Prop:=
 Ba w w'/\((gh g ps r≠0/\e=.returned (Ob false))\/(gh g ps r=0/\∃ks L rs b,il r ps ks L rs/\e=.returned (Ob b)/\(b=true ↔ ro.length=L.length/\Hh r L ro)))
def Qx{g ps r}(h:gh g ps r=0):Eb g ps=0/\0<=r.run/\r.run<=10000:=by
 unfold gh at h;by_cases a:Eb g ps=0
 ·rw[if_pos a]at h;unfold Cc at h
  repeat(first|(split at h;(focus(cases h;done))))
  simp[Kg]at *;omega
 ·rw[if_neg a]at h;exact absurd h a
def IW w vg vp ax g ps r ro(hg:Ia w vg g)(hp:ld w vp ps)(am:Gw w)(x:Ud w ax ro):Calls Tryz.prog 18 #[Od #[vg,vp],Od (Uf r),ax] w (tk w g ps r ro):=by
 have HB:=za (fun W (hW:Ba w W)=>Zu W vg vp g ps r (hg.f hW) (hp.f hW) (am.ext hW));obtain⟨ga,gn,gc,rfl⟩:=Ma hg;obtain⟨pa,pn,aI,rfl⟩:=Ma hp;obtain⟨ra,rn,rc,rfl⟩:=Ma x;obtain⟨R,hR⟩:=gX (tk w g ps r ro);rw[hR];have HR:=za hR;obtain⟨k,hk⟩:=gX (gh g ps r);have y:=za hk;have aC:=za x;have l:=za x.len;obtain⟨sk,av,ab,ar,step,aw,q⟩:=r;unfold Uf at HB ⊢;dsimp only at HB;clear hg hp am hR x;refine(callsIn_wide (n:=5)).1 ?_;refine callsIn_of_wp_marks Tryz.func18 rfl trivial ?_ rfl;simp only[Tryz.ntmps18,List.size_toArray,List.length_cons,List.length_nil,Nat.reduceAdd,Nat.reduceSub,Array.replicate_succ,Array.replicate_zero,List.push_toArray,List.append_toArray,List.nil_append,List.cons_append];have HF:=za (show ∀(W:N),Ba w W->W.heap[w.heap.size+1+1+1]?=I (A #[Ob false] 4 (0,0))->Ba w (W.setCell ⟨w.heap.size+1+1+1,0,Z⟩ (Ob false))/\(W.setCell ⟨w.heap.size+1+1+1,0,Z⟩ (Ob false)).heap[w.heap.size+1+1+1]?=I (A #[Ob false] 4 (0,0))from fun W hW h=>⟨hW.set dO _,Sk h 0 _⟩);by_cases h0:k=0
 ·subst h0;clear hk;obtain⟨ao,aa⟩:=Qx y.o;dsimp only at aa
  gi_wp2_with(refine⟨trivial,?_⟩;gi_at_call 38;(with_reducible refine(callsIn_wide.2 (HB.o _ ?_)).mono ?_);exact eA;rintro e j (⟨ap,_⟩|⟨_,sb,vs,vj,vr,ks,L,rs,rfl,sv,ah,f⟩);(focus(exact absurd y.o ap)))
  have K1:j.heap[w.heap.size+1]?=I (A #[O .u8 sk,O Y av,O Y ab,O Y ar,O Y step,O Y aw,O Y q] 32 (0,0)):=f.e (((((eR _).alloc _).alloc _)).e (Up w _ _));have K2:j.heap[w.heap.size+1+1]?=I (A #[M ra rn rc] 47 (0,0)):=f.e (((eR ((w.alloc _).alloc _ |>.alloc _)).alloc _).e (mc _ _ _ (by rw[wZ,wZ])));have z:j.heap[w.heap.size+1+1+1]?=I (A #[Ob false] 4 (0,0)):=f.e (mc _ _ _ sM);have X3:Ba w j:=eA;have al:=XA (No ao).1 (No ao).2.1 ah;obtain⟨ja,jn,ag,rfl⟩:=Ma sv.joints;have n2:=Aa K2 0 (M ra rn rc);have n3:=Aa z 0 (Ob false);have au:=Za z;have aH:=Aa sv.blk 10 (M ja jn ag);have an:=sv.joints.len;have ak:=za sv;have m:=za ah;have ai:=za al;have s:=za an;have az:=za K1;have aA:=za K2;have ac:=za z;have c:=za X3;clear sv ah al an f K1 K2 z X3;obtain⟨d,hd⟩:=gX (((rn:Int) != (jn:Int)));have Hd:=za hd;refine QG (S:=Da [(⟨w.heap.size+1+1,0,Z⟩,M ra rn rc),(⟨sb,10,Z⟩,M ja jn ag)]) kM kM ?_ (fun aE=>?_)
  ·exact cA
  refine La (i:=0) ?_;refine La (i:=1) ?_;refine La (i:=2) ?_;refine La (i:=3) ?_;refine La (i:=4) ?_;refine La (i:=5) ?_;refine La (i:=6) ?_;refine La (i:=7) ?_;refine La (i:=8) ?_;refine La (i:=9) ?_;refine La (i:=10) ?_;refine La (i:=11) ?_;refine Pb ?_;unfold NQ;cases d with
  |true=>
   gi_wp2
   obtain⟨q1,q2⟩:=HF.o j c.o ac.o;refine tq [] _ (Vb.nil _) (fun W' b=>?_);have o:=b w.heap.size (fun D hD=>by cases hD);have c9:=Aa (o.heap q2) 0 (Ob false);refine⟨Ob false,by simp[results,Tryz.results18,go_sem,c9],?_⟩;rw[<-HR.o];exact⟨o.ext q1.drew (nE _),.inr ⟨y.o,ks,L,rs,false,m.o,rfl,by simp,fun h=>by have:=Hd.o;rw[l.o,h.1,<-s.o]at this;simp at this⟩⟩
  |false=>
   have aq:rn=jn:=by have:=Hd.o;simp at this;omega
   gi_wp2
   refine VW _ j.drew w.heap.size sb _ _ _ _ ⟨sk,av,ab,ar,step,aw,q⟩ aa ja jn ag L ra rn rc ro (ak.o.joints.f (eR j).drew) (by rw[s.o];exact ai.o.len) ai.o.jts (aC.o.f c.o.drew) (by rw[<-l.o,<-s.o];exact aq) ak.o.blk az.o aA.o ac.o _ ⟨rfl,rfl,rfl,rfl,rfl,rfl,rfl⟩ rfl rfl (fun a W Ds af p hx v t hP=>?_) (fun a W Ds af p aG aF v t hP=>?_)
   ·obtain⟨tt,dd⟩:=a;obtain⟨f1,f4,f5,K,f7,ad,ae⟩:=af;dsimp only at f1 f4 f5 K f7 ad ae p;subst p;obtain⟨u,hu,ht⟩:=Qf tt 73 f1;simp only[hu]at f4 f5 K f7 ad ae;clear hu;subst ht;simp only[List.range,List.range.loop,List.map_cons,List.map_nil,K];have h3:=hx.e (show j.drew.heap[w.heap.size+1+1+1]?=_ from ac.o);have n3:=Aa h3 0 (Ob false);have au:=Za h3;have ay:=za t;have aB:=za v;clear f1 f4 f5 K f7 ad ae t v
    gi_wp2
    refine tq Ds _ (aB.o.set h3 _) (fun W' b=>?_);have o:=b w.heap.size (fun D hD=>nT c.o.size (ay.o D hD));have c9:=Aa (o.heap (Sk h3 0 (Ob true))) 0 (Ob true);refine⟨Ob true,by simp[results,Tryz.results18,go_sem,c9],?_⟩;rw[<-HR.o];exact⟨o.ext ((c.o.drew.trans hx).set dO _) (nE _),.inr ⟨y.o,ks,L,rs,true,m.o,rfl,fun _=>⟨by rw[<-l.o,<-s.o];exact aq,hP⟩,fun _=>rfl⟩⟩
   ·obtain⟨tt,dd⟩:=a;obtain⟨f1,K⟩:=af;dsimp only at f1 K p;subst p;refine tq Ds _ v (fun W' b=>?_);have o:=b w.heap.size (fun D hD=>nT c.o.size (t D hD));have c9:=Aa (o.heap aF) 0 (Ob false);(have aD:tt[6]?.getD undef=Oa (I ⟨w.heap.size+1+1+1,0,Z⟩):=by simpa using K);refine⟨Ob false,by simp[results,Tryz.results18,go_sem,K,aD,c9],?_⟩;rw[<-HR.o];exact⟨o.ext (Rp c.o.drew aG oM) (nE _),.inr ⟨y.o,ks,L,rs,false,m.o,rfl,by simp,fun h=>absurd h.2 hP⟩⟩
 ·have u0:(k != 0)=true:=by simpa using h0
  have aj:=za h0;clear h0 hk
  gi_wp2_with(refine⟨trivial,?_⟩;gi_at_call 38;(with_reducible refine(callsIn_wide.2 (HB.o _ ?_)).mono ?_);exact eA;rintro e j (⟨ap,rfl,f⟩|⟨h0,_⟩);rotate_left 1;(focus(exact absurd (y.o.symm.trans h0) aj.o));rw[y.o])
  have z:j.heap[w.heap.size+1+1+1]?=I (A #[Ob false] 4 (0,0)):=f.e (mc _ _ _ sM);have X3:Ba w j:=eA;have n3:=Aa z 0 (Ob false);have au:=Za z;refine QG (S:=Da []) kM kM trivial (fun aE=>?_);refine La (i:=0) ?_;refine La (i:=1) ?_;refine La (i:=2) ?_;refine Pa (i:=3) ?_;refine Pa (i:=4) ?_;refine Pa (i:=5) ?_;refine Pa (i:=6) ?_;refine Pa (i:=7) ?_;refine Pa (i:=8) ?_;refine Pa (i:=9) ?_;refine Pa (i:=10) ?_;refine La (i:=11) ?_;refine Pb ?_;unfold NQ
  gi_wp2
  obtain⟨q1,q2⟩:=HF.o j X3 z;refine tq [] _ (Vb.nil _) (fun W' b=>?_);have o:=b w.heap.size (fun D hD=>by cases hD);have c9:=Aa (o.heap q2) 0 (Ob false);refine⟨Ob false,by simp[results,Tryz.results18,go_sem,c9],?_⟩;rw[<-HR.o];exact⟨o.ext q1.drew (nE _),.inl ⟨by rw[y.o];exact aj.o,rfl⟩⟩
end
section
open Go.RowKit Go.Shelf Go.Sort Go.Lib
attribute [local go_sem] Oper.semAt_some
def FJ(s:Nat)(v5 d e b c:G)(a:Act):Prop:=a.tmps.size=161/\a.tmps.getD 2 undef=Oa (I ⟨s,0,Z⟩)/\a.tmps.getD 3 undef=Oa (I ⟨s+1,0,Z⟩)/\a.tmps.getD 5 undef=v5/\a.tmps.getD 6 undef=d/\a.tmps.getD 7 undef=e/\a.tmps.getD 16 undef=b/\a.tmps.getD 17 undef=c/\a.defers=[]
abbrev Fe(w:N)(base:Nat)(v:G)(l:List Jt):Prop:=Ea 97 6 w base v (l.map Vg)
def Fe.at{w base a n c l}(h:Fe w base (M a n c) l){i x}(k:l[i]?=I x):∃g,a=I ⟨g,0,Z⟩/\base<=g/\g<w.heap.size/\Da [(⟨g,i*6,Z⟩,O Y x.a),(⟨g,i*6+1,Z⟩,O Y x.b),(⟨g,i*6+2,Z⟩,O Y x.left),(⟨g,i*6+3,Z⟩,O Y x.right),(⟨g,i*6+4,Z⟩,O Y x.fr),(⟨g,i*6+5,Z⟩,O Y x.til)] w:=by
 have d:(l.map Vg)[i]?=I (Vg x):=by rw[lP,k];rfl
 have m:=(lS.1 d).1;obtain⟨g,rfl,e,f⟩:=h.blk oM;exact⟨g,rfl,e,f,h.cell (j:=0) d rfl,h.cell (j:=1) d rfl,h.cell (j:=2) d rfl,h.cell (j:=3) d rfl,h.cell (j:=4) d rfl,h.cell (j:=5) d rfl,trivial⟩
def Fe.put{w base g n c i l}(h:Fe w base (M (I ⟨g,0,Z⟩) n c) l){x y}(b:l[i]?=I x):Fe (Xj w g (i*6) (Vg y)) base (M (I ⟨g,0,Z⟩) n c) (l.set i y):=by have a:=Ea.putAll (j:=0) (us:=Vg y) h (i:=i) (d:=Vg x) (by rw[lP,b];rfl) rfl;unfold Fe;rw[List.map_set];exact a
def nV(W0:N)(s:Nat)(v5 d e b:G)(j:Jt)(out:List Jt)(n:Nat)(c:Nat)(a:Act)(W:N):Prop:=
 ∃m:Nat,m<=n/\c=m/\Ba W0 W/\Id j out m=Id j out n/\FJ s v5 d e b (O Y m) a
def BH Q W0 s n R base c a5 v6 v7 j out a0(hF:FJ s (M a5 n R) v6 v7 (Oa (I ⟨c,0,Z⟩)) (O Y n) a0)(ae:n<=1000000)(ho:Fe W0 base (M a5 n R) out)(hb:Da [(⟨c,0,Z⟩,O Y j.a),(⟨c,1,Z⟩,O Y j.b),(⟨c,2,Z⟩,O Y j.left),(⟨c,3,Z⟩,O Y j.right),(⟨c,4,Z⟩,O Y j.fr),(⟨c,5,Z⟩,O Y j.til)] W0)(t:En Q)(hQ:∀a' W',FJ s (M a5 n R) v6 v7 (Oa (I ⟨c,0,Z⟩)) (O Y (Id j out n)) a'->Ba W0 W'->Q (.exit 4) a' W'):(Code.loop (Tb Tryz.f16 2)).wp Tryz.prog Q a0 W0:=by
 have HQ:=za hQ;have f:=za t;have Ho:=za ho;have Hb:=za hb;have hn:n=out.length:=by have:=ho.len;rw[lL]at this;exact this
 have Hn:=za hn;clear hQ t ho hb hn;unfold Tb;simp only[Tryz.f16,Jb,List.cons_append,List.nil_append,List.append_nil,List.getD_cons_succ,List.getD_cons_zero];refine wp_loop_ghost_k (nV W0 s (M a5 n R) v6 v7 (Oa (I ⟨c,0,Z⟩)) j out n) n ⟨n,nE _,rfl,eR _,rfl,hF⟩ ?round;clear hF;intro gk aa wr hinv;obtain⟨m,hm,ab,hx,v,hF⟩:=hinv;obtain rfl:=ab.symm;have HX:=za hx;have o:=za v;clear v;obtain⟨tt,dd⟩:=aa;obtain⟨f0,f2,f3,f5,f6,f7,k,l,y⟩:=hF;dsimp only at f0 f2 f3 f5 f6 f7 k l  y;subst y;obtain⟨u,hu,ht⟩:=Qf tt 161 f0;simp only[hu]at f2 f3 f5 f6 f7 k l;clear hu f0;subst ht;simp only[List.range,List.range.loop,List.map_cons,List.map_nil,f2,f3,f5,f6,f7,k,l ];clear f2 f3 f5 f6 f7 k l;intro J K hJ hK;obtain⟨x0,x1,x2,x3,x4,x5,-⟩:=cE Hb.o hx;clear hx;by_cases h0:m=0
 ·subst h0;have e0:decide ((0:Int)<((0:Nat):Int))=false:=rfl;have e:Id j out n=0:=o.o.symm.trans rfl;have E:=za e;clear e hJ hK;go_wp2;refine jd [(⟨c,0,Z⟩,O Y j.a),(⟨c,1,Z⟩,O Y j.b),(⟨c,2,Z⟩,O Y j.left),(⟨c,3,Z⟩,O Y j.right),(⟨c,4,Z⟩,O Y j.fr),(⟨c,5,Z⟩,O Y j.til)] (cE (show Da [(⟨c,0,Z⟩,O Y j.a),(⟨c,1,Z⟩,O Y j.b),(⟨c,2,Z⟩,O Y j.left),(⟨c,3,Z⟩,O Y j.right),(⟨c,4,Z⟩,O Y j.fr),(⟨c,5,Z⟩,O Y j.til)] wr from⟨x0,x1,x2,x3,x4,x5,trivial⟩) (eR _).drew) fun p=>?_;refine La (i:=0) (h4:=Ic f) ?_;refine La (i:=1) (h4:=Ic f) ?_;refine La (i:=2) (h4:=Ic f) ?_;refine Pa (i:=3) (h4:=Ic f) ?_;refine Pa (i:=4) (h4:=Ic f) ?_;refine Pa (i:=5) (h4:=Ic f) ?_;refine Pa (i:=6) (h4:=Ic f) ?_;refine Pa (i:=7) (h4:=Ic f) ?_;refine Pa (i:=8) (h4:=Ic f) ?_;refine Pa (i:=9) (h4:=Ic f) ?_;refine La (i:=10) (h4:=Ic f) ?_;refine Pb ?_;go_wp2;refine HQ.o _ _ ⟨rfl,rfl,rfl,rfl,rfl,rfl,rfl,?_,rfl⟩ HX.o.drew;rw[E.o];rfl
 ·obtain⟨x,q⟩:∃x,out[m-1]?=I x:=⟨_,gE (by have:=Hn.o;omega)⟩;obtain⟨g,rfl,-,-,w⟩:=Fe.at (Ho.o.ext HX.o) q;have z:Id j out m=if fh j x<0 then Id j out (m-1)else m:=by
   have:=YQ (j:=j) (n:=m-1) q;rw[show m-1+1=m by omega]at this;exact this
  have r:=za z;have HC:=za (fun W=>mR W j x);obtain⟨d,hd⟩:=gX (decide (fh j x<0));rw[hd]at HC;have Hd:=za hd;have g2:(0:Int)<=(m:Int)-1:=oM;have g3:(m:Int)-1<(n:Int):=oM;have g4:((m:Int)-1).toNat=m-1:=oM;have kw:IntKind.i64.wrap ((m:Int)-1)=(m:Int)-1:=iW _ oM;clear z hd q;go_wp2;have e0:decide ((0:Int)<(m:Int))=true:=decide_eq_true oM;have ac:decide (0<m)=true:=decide_eq_true oM;have ad:(1:Int)<=(m:Int):=oM;refine jd [(⟨c,0,Z⟩,O Y j.a),(⟨c,1,Z⟩,O Y j.b),(⟨c,2,Z⟩,O Y j.left),(⟨c,3,Z⟩,O Y j.right),(⟨c,4,Z⟩,O Y j.fr),(⟨c,5,Z⟩,O Y j.til),(⟨g,(m-1)*6,Z⟩,O Y x.a),(⟨g,(m-1)*6+1,Z⟩,O Y x.b),(⟨g,(m-1)*6+2,Z⟩,O Y x.left),(⟨g,(m-1)*6+3,Z⟩,O Y x.right),(⟨g,(m-1)*6+4,Z⟩,O Y x.fr),(⟨g,(m-1)*6+5,Z⟩,O Y x.til)] (cE (show Da [(⟨c,0,Z⟩,O Y j.a),(⟨c,1,Z⟩,O Y j.b),(⟨c,2,Z⟩,O Y j.left),(⟨c,3,Z⟩,O Y j.right),(⟨c,4,Z⟩,O Y j.fr),(⟨c,5,Z⟩,O Y j.til),(⟨g,(m-1)*6,Z⟩,O Y x.a),(⟨g,(m-1)*6+1,Z⟩,O Y x.b),(⟨g,(m-1)*6+2,Z⟩,O Y x.left),(⟨g,(m-1)*6+3,Z⟩,O Y x.right),(⟨g,(m-1)*6+4,Z⟩,O Y x.fr),(⟨g,(m-1)*6+5,Z⟩,O Y x.til)] wr from⟨x0,x1,x2,x3,x4,x5,w⟩) (eR _).drew) fun p=>?_;clear w x0 x1 x2 x3 x4 x5;unfold yh at HC;refine La (i:=0) (h4:=Ic f) ?_;refine La (i:=1) (h4:=Ic f) ?_;refine La (i:=2) (h4:=Ic f) ?_;refine La (i:=3) (h4:=Ic f) ?_;refine La (i:=4) (h4:=Ic f) ?_;refine La (i:=5) (h4:=Ic f) ?_;refine La (i:=6) (h4:=Ic f) ?_;refine La (i:=7) (h4:=Ic f) ?_;refine La (i:=8) (h4:=Ic f) ?_;refine Ac (i:=9) (HC.o _) ?_;rintro e w3 ⟨rfl,L⟩;refine⟨_,rfl,(cE p L),fun p=>?_⟩;have X3:=HX.o.drew.trans L;refine La (i:=10) (h4:=Ic f) ?_;refine Pb ?_;cases d with
  |true=>
   go_wp2;refine Handed.intro (m-1) oM (hJ _ _ _ ⟨m-1,by omega,rfl,X3,?_,⟨rfl,rfl,rfl,rfl,rfl,rfl,rfl,?_,rfl⟩⟩)
   ·rw[<-o.o,r.o,if_pos (of_decide_eq_true Hd.o)]
   ·show (_:G)=_;go_num
  |false=>
   have e:Id j out n=m:=by rw[<-o.o,r.o,if_neg (of_decide_eq_false Hd.o)]
   have E:=za e;clear e hJ hK;go_wp2;refine HQ.o _ _ ⟨rfl,rfl,rfl,rfl,rfl,rfl,rfl,?_,rfl⟩ X3;rw[E.o];rfl
def mV(e W0:N)(s g base n at' d:Nat)(i j c:G)(out:List Jt)(f:Nat)(a:Act)(W:N):Prop:=
 ∃(k:Nat)(y:Jt),at'<=k/\k<=n/\f=k-at'/\Ba e W/\Fe W base (M (I ⟨g,0,Z⟩) (n+1) d) (out.take k++y::out.drop k)/\(∀b o,b≠g->W0.heap[b]?=I o->W.heap[b]?=I o)/\FJ s (M (I ⟨g,0,Z⟩) (n+1) d) i j c (O Y at') a/\a.tmps.getD 18 undef=O Y k
def nF{b g}(c:b≠g):∀ a  o  W ,(Xj W g o a).heap[b]?=W.heap[b]?
 | [],_,_=>rfl
 | u::a,o,W=>by
  unfold Xj;rw[nF c a];exact bS _ _ _ _ (by exact c)
def Ux{w g}(b:w.heap.size<=g):∀ a  o {W},Ba w W->Ba w (Xj W g o a)
 | [],_,_,h=>h
 | u::a,o,W,h=>by
  unfold Xj;exact Ux b a _ (h.set (by exact b) _)
def EN Q U0 W0(s g base n at' m:Nat) v6 v7 l out y a0(hF:FJ s (M (I ⟨g,0,Z⟩) (n+1) m) v6 v7 l (O Y at') a0)(a:a0.tmps.getD 18 undef=O Y n)(ab:at'<=n)(hn:out.length=n)(ai:n<=1000000)(w:Fe W0 base (M (I ⟨g,0,Z⟩) (n+1) m) (out++[y]))(W:Ba U0 W0)(hU:U0.heap.size<=g)(hQ:∀a' W' z,FJ s (M (I ⟨g,0,Z⟩) (n+1) m) v6 v7 l (O Y at') a'->Fe W' base (M (I ⟨g,0,Z⟩) (n+1) m) (out.take at'++z::out.drop at')->Ba U0 W'->(∀b o,b≠g->W0.heap[b]?=I o->W'.heap[b]?=I o)->Q (.exit 6) a' W'):(Code.loop (Tb Tryz.f16 3)).wp Tryz.prog Q a0 W0:=by
 have HQ:=za hQ;have HU:=za hU;have Hn:=za hn;have L:Fe W0 base (M (I ⟨g,0,Z⟩) (n+1) m) (out.take n++y::out.drop n):=by
  rw[lT oM,List.drop_of_length_le oM];exact w
 clear hQ hU w hn;unfold Tb;simp only[Tryz.f16,Jb,List.cons_append,List.nil_append,List.append_nil,List.getD_cons_succ,List.getD_cons_zero];refine wp_loop_ghost_k (mV U0 W0 s g base n at' m v6 v7 l out) (n-at') ⟨n,y,ab,nE _,rfl,W,L,fun _ _ _ h=>h,hF,a⟩ ?round;clear hF a W L;intro gk aa wr hinv;obtain⟨k,y,af,ag,ac,W,w,r,hF,a⟩:=hinv;obtain rfl:=ac.symm;have q:=za w;have HX:=za W;have p:=za r;clear W r w;obtain⟨tt,dd⟩:=aa;obtain⟨f0,f2,f3,f5,f6,f7,c,d,t⟩:=hF;dsimp only at f0 f2 f3 f5 f6 f7 c d a t;subst t;obtain⟨u,hu,ht⟩:=Qf tt 161 f0;simp only[hu]at f2 f3 f5 f6 f7 c d a;clear hu f0;subst ht;simp only[List.range,List.range.loop,List.map_cons,List.map_nil,f2,f3,f5,f6,f7,c,d ,a];clear f2 f3 f5 f6 f7 c d a;intro J K hJ hK;by_cases ah:at'<k
 ·obtain⟨x,j⟩:∃x,out[k-1]?=I x:=⟨_,gE (by have:=Hn.o;omega)⟩;have v:=XL (y:=y) (show 0<k by omega) j;have R:=BR (y:=y) (show 0<k by omega) j;have f:(out.take k++y::out.drop k)[k]?=I y:=by
   rw[List.getElem?_append_right (by rw[List.length_take];omega),List.length_take,Nat.min_eq_left (by have:=Hn.o;omega),Nat.sub_self];rfl
  obtain⟨g',e,-,zg,x0,x1,x2,x3,x4,x5,-⟩:=Fe.at q.o v;cases e;obtain⟨g',e,-,-,y0,y1,y2,y3,y4,y5,-⟩:=Fe.at q.o f;cases e;have hP:=Fe.put (y:=x) q.o f;rw[R]at hP;have HP:=za hP;have yf:∀i,wr.frozen? ⟨g,i,Z⟩=false:=fun i=>q.o.frozen i;have g0:(0:Int)<=(k:Int):=oM;have g1:(k:Int)<((n+1:Nat):Int):=oM;have ad:(k:Int)<(n:Int)+1:=oM;have g2:(0:Int)<=(k:Int)-1:=oM;have g3:(k:Int)-1<((n+1:Nat):Int):=oM;have ae:(k:Int)-1<(n:Int)+1:=oM;have g4:((k:Int)-1).toNat=k-1:=oM;have kw:IntKind.i64.wrap ((k:Int)-1)=(k:Int)-1:=iW _ oM;have e0:(at':Int)<(k:Int):=oM;clear hP R v f j;go_wp2;refine Handed.intro (k-1-at') oM (hJ _ _ _ ⟨k-1,x,by omega,by omega,rfl,Ux HU.o (Vg x) (k*6) HX.o,HP.o,fun b o hb h=>(nF hb (Vg x) (k*6) wr).trans (p.o b o hb h),⟨rfl,rfl,rfl,rfl,rfl,rfl,rfl,rfl,rfl⟩,?_⟩);show (_:G)=_;go_num
 ·obtain rfl:k=at':=oM;have e0:¬(k:Int)<(k:Int):=oM;clear hJ hK;go_wp2;exact HQ.o _ _ _ ⟨rfl,rfl,rfl,rfl,rfl,rfl,rfl,rfl,rfl⟩ q.o HX.o p.o
abbrev pk(w:N)(v:G)(l:List Jt):Prop:=Sl 97 6 gH w v l
def pk.f{w w' v l}(h:pk w v l)(k:Ba w w'):pk w' v l:=Sl.ext h (fun _ _ h=>h) k
def pk.at'{w a n c l}(h:pk w (M a n c) l){i j}(g:l[i]?=I j):∃b o,a=I ⟨b,o,Z⟩/\b<w.heap.size/\∀(m:Nat) u,(yh j)[m]?=I u->w.cell? ⟨b,o+i*6+m,Z⟩=I u:=by obtain⟨b,o,d,rfl,e,p,rfl,f⟩:=Sl.at h g;exact⟨b,o,rfl,e,fun m u k=>f m u (by unfold Vg;rw[Array.getElem?_toList];exact k)⟩
def vU(U:N)(r:Ru)(L:List Jt)(t5 a:G)(W:N):Prop:=
 ∃i:Nat,a=O Y i/\i<=L.length/\Cb 3 W U.heap.size t5 (Wa r L i)/\Ba U W
def xU(U:N)(r:Ru)(L:List Jt)(rs:List Int)(i:Nat)(a:Int)(b c:G)(W:N):Prop:=
 ∃k:Nat,c=O Y k/\k<=i/\b=O Y (Di r L rs i a k)/\Ba U W
def Fp(w:N)(l:List Int)(e:Ending)(w':N):Prop:=∃v base,e=.returned v/\Cb 3 w' base v l/\w.heap.size<=base/\Ba w w'
def lG w v r L(h:pk w v L)(hB:∀j∈L,Fh j)(aB:L.length<=1000000):Calls Tryz.prog 17 #[Od (Uf r),v] w (Fp w (Wa r L L.length)):=by
 obtain⟨a,c,rfl⟩:=h.form;obtain⟨n,hn⟩:=gX L.length;rw[hn]at h aB ⊢;have Hn:=za hn;have HL:=za h;have HB:=za hB;obtain⟨R,hR⟩:=gX (Fp w (Wa r L n));rw[hR];have HR:=za hR;have HF:=za (fun(W:N)(j k:Jt)(hj:j∈L)(hk:k∈L)=>FD W r j k (hB j hj) (hB k hk));unfold Uf at HF ⊢;clear h hB hn hR;go_in;go_wp2;obtain⟨U,hU⟩:=gX (w.alloc (A #[O .u8 r.skin,O Y r.pin,O Y r.wide,O Y r.lap,O Y r.step,O Y r.run,O Y r.level] 27));have X1:Ba w U:=by rw[<-hU];exact(eR _).alloc _
 have K2:U.heap[w.heap.size]?=I (A #[O .u8 r.skin,O Y r.pin,O Y r.wide,O Y r.lap,O Y r.step,O Y r.run,O Y r.level] 27 (0,0)):=by rw[<-hU];exact aN w _
 obtain⟨s,l⟩:=gX w.heap.size;rw[hU];simp only[l]at K2 ⊢;have HC:Ua (Da [(⟨s,0,Z⟩,O .u8 r.skin),(⟨s,1,Z⟩,O Y r.pin),(⟨s,2,Z⟩,O Y r.wide),(⟨s,3,Z⟩,O Y r.lap),(⟨s,4,Z⟩,O Y r.step),(⟨s,5,Z⟩,O Y r.run),(⟨s,6,Z⟩,O Y r.level)] U):=za ⟨Lb K2 (i:=0) rfl,Lb K2 (i:=1) rfl,Lb K2 (i:=2) rfl,Lb K2 (i:=3) rfl,Lb K2 (i:=4) rfl,Lb K2 (i:=5) rfl,Lb K2 (i:=6) rfl,trivial⟩;have ap:=za X1;have af:=za (HL.o.f X1);clear hU X1 K2 l HL;go_loopw [5,6] (vU U r L) (fun _ t6 _=>n-(intOf t6).toNat)
 case atStart=>exact⟨0,rfl,by omega,Cb.nil _ _ _,eR _⟩
 case round =>
  obtain⟨i,rfl,hi,f,hx⟩:=hrel;rw[Hn.o]at hi;obtain⟨rs,am⟩:=gX (Wa r L i);have u:=Tn r L i;rw[am]at f u;have aq:=za am;obtain⟨a5,c5,rfl⟩:=f.form;rw[u]at f ⊢;have ab:=za f;have aa:=za u;have HX:=za hx;clear f hx am u;by_cases aA:i<n
  ·obtain⟨j,ak⟩:∃j,L[i]?=I j:=⟨_,gE (by rw[Hn.o];exact aA)⟩;obtain⟨b,o,rfl,hb,hc⟩:=(af.o.f HX.o).at' ak;have ac:=za ak;unfold yh at hc;have c4:=hc 4 (O Y j.fr) rfl;have g0:(0:Int)<=(i:Int):=oM;have g1:(i:Int)<(n:Int):=oM;clear hc ak hb;go_wp2;obtain⟨V,hV⟩:∃V:N,V=wr:=⟨_,rfl⟩;rw[<-hV]at HX ab ⊢;clear c4 hV wr;go_loopw [7,8] (xU V r L rs i j.fr) (fun _ t8 _=>i-(intOf t8).toNat)
   case atStart=>exact⟨0,rfl,by omega,rfl,eR _⟩
   case round =>
    obtain⟨k,rfl,hk,rfl,hx⟩:=hrel;have z:=za hx;have f:=ab.o.keep hx.keep;clear hx;by_cases av:k<i
    ·obtain⟨q,ad⟩:∃q,L[k]?=I q:=⟨_,gE (by rw[Hn.o];omega)⟩;obtain⟨b1,o1,e1,-,p⟩:=(af.o.f (HX.o.trans z.o)).at' ac.o;cases e1;obtain⟨b2,o2,e2,-,t⟩:=(af.o.f (HX.o.trans z.o)).at' ad;cases e2;obtain⟨x,ao⟩:∃x,rs[k]?=I x:=⟨_,gE (by rw[aa.o];exact av)⟩;obtain⟨g5,rfl,-⟩:∃g,a5=I ⟨g,0,Z⟩/\True:=by
      obtain⟨aD,h9|⟨g,cap,cur,hv,-⟩⟩:=f
      ·exfalso;have:=h9.2;have:=aa.o;omega
      ·cases hv;exact⟨_,rfl,trivial⟩
     have au:=f.cell ao;have ae:=za (fun W=>HF.o W q j (lM ad) (lM ac.o));have l:=NR r L rs i j.fr k;(have hf:Pe r L i k=Qd r q j:=by unfold Pe;rw[ac.o,ad]);rw[hf,gD,ao]at l;obtain⟨m,hm⟩:=gX (Di r L rs i j.fr k);obtain⟨d,hd⟩:=gX (Qd r q j);rw[hm,hd]at l;rw[hd]at ae;rw[hm];dsimp only[Option.getD_some]at l;have K:=za l;unfold yh at p t ae;have p0:=p 0 (O Y j.a) rfl;have q0:=t 0 (O Y q.a) rfl;have p1:=p 1 (O Y j.b) rfl;have q1:=t 1 (O Y q.b) rfl;have p2:=p 2 (O Y j.left) rfl;have q2:=t 2 (O Y q.left) rfl;have p3:=p 3 (O Y j.right) rfl;have q3:=t 3 (O Y q.right) rfl;have p4:=p 4 (O Y j.fr) rfl;have q4:=t 4 (O Y q.fr) rfl;have p5:=p 5 (O Y j.til) rfl;have q5:=t 5 (O Y q.til) rfl;simp only[Nat.add_zero]at p0 q0;have r7:=cE HC.o (HX.o.trans z.o);have h0:(0:Int)<=(k:Int):=oM;have h1:(k:Int)<(n:Int):=oM;have h2:(k:Int)<(i:Int):=oM;have C2:Da [(⟨s,0,Z⟩,O .u8 r.skin),(⟨s,1,Z⟩,O Y r.pin),(⟨s,2,Z⟩,O Y r.wide),(⟨s,3,Z⟩,O Y r.lap),(⟨s,4,Z⟩,O Y r.step),(⟨s,5,Z⟩,O Y r.run),(⟨s,6,Z⟩,O Y r.level),(⟨b,o+i*6,Z⟩,O Y j.a),(⟨b,o+i*6+1,Z⟩,O Y j.b),(⟨b,o+i*6+2,Z⟩,O Y j.left),(⟨b,o+i*6+3,Z⟩,O Y j.right),(⟨b,o+i*6+4,Z⟩,O Y j.fr),(⟨b,o+i*6+5,Z⟩,O Y j.til),(⟨b,o+k*6,Z⟩,O Y q.a),(⟨b,o+k*6+1,Z⟩,O Y q.b),(⟨b,o+k*6+2,Z⟩,O Y q.left),(⟨b,o+k*6+3,Z⟩,O Y q.right),(⟨b,o+k*6+4,Z⟩,O Y q.fr),(⟨b,o+k*6+5,Z⟩,O Y q.til),(⟨g5,k,Z⟩,O Y x)] wr:=by
      obtain⟨r0,r1,r2,r3,r4,r5,r6,-⟩:=r7;exact⟨r0,r1,r2,r3,r4,r5,r6,p0,p1,p2,p3,p4,p5,q0,q1,q2,q3,q4,q5,au,trivial⟩
     clear p t ad ao au p0 p1 p2 p3 p4 p5 q0 q1 q2 q3 q4 q5 hf l hm hd f;go_upto_region 9 with fail;refine jd _ (cE C2 (eR _).drew) fun ai=>?_;clear C2 r7;refine La (i:=0) ?_;refine La (i:=1) ?_;refine La (i:=2) ?_;refine La (i:=3) ?_;refine La (i:=4) ?_;refine La (i:=5) ?_;refine La (i:=6) ?_;refine La (i:=7) ?_;refine La (i:=8) ?_;refine Ac (i:=9) (ae.o _) ?_;rintro e w3 ⟨rfl,an⟩;refine⟨_,rfl,(cE ai an),fun ai=>?_⟩;have ag:=za (z.o.trans ((eR _).drew.trans an));clear an;cases d with
     |true=>
      refine La (i:=10) ?_;refine La (i:=11) ?_;refine La (i:=12) ?_;refine La (i:=13) ?_;refine La (i:=14) ?_;refine La (i:=15) ?_;by_cases h3:x<m
      ·have l:=K.o;rw[if_pos ⟨rfl,h3⟩]at l;have Hs:=za l;have ay:=ai;obtain⟨-,-,-,-,-,-,-,-,-,-,-,-,-,-,-,-,-,-,-,k9,-⟩:=ay;clear l K;refine sN 16 ?_
       (iterate 2 refine Db ?_);refine oN ?_;refine Pb ?_;go_wp2;go_roundw
       case rel=>exact⟨k+1,by go_num,by omega,by rw[Hs.o],ag.o⟩
       case measure=>simp[intOf];omega
      ·have l:=K.o;rw[if_neg (fun h9=>h3 h9.2)]at l;have Hs:=za l;clear l K;refine sN 16 ?_
       (iterate 2 refine Db ?_);refine oN ?_;refine Pb ?_;go_wp2;go_roundw
       case rel=>exact⟨k+1,by go_num,by omega,by rw[Hs.o],ag.o⟩
       case measure=>simp[intOf];omega
     |false=>
      have l:=K.o;rw[if_neg (fun h9=>by cases h9.1)]at l;have Hs:=za l;clear l K;refine La (i:=10) ?_;refine Pa (i:=11) ?_;refine Pa (i:=12) ?_;refine Pa (i:=13) ?_;refine Pa (i:=14) ?_;refine Pa (i:=15) ?_;refine Pa (i:=16) ?_;refine La (i:=17) ?_;refine Pb ?_;go_wp2;go_roundw
      case rel=>exact⟨k+1,by go_num,by omega,by rw[Hs.o],ag.o⟩
      case measure=>simp[intOf];omega
    ·obtain rfl:k=i:=oM;have aw:Di r L rs k j.fr k=Jh r L rs k j.fr:=rfl;rw[aw];(have ax:Wa r L (k+1)=rs++[Jh r L rs k j.fr]:=by rw[Wa,aq.o,ac.o]);have ar:=za ax;obtain⟨y,hy⟩:=gX (Jh r L rs k j.fr);rw[hy]at ar ⊢;have ah:=za f;have aE:=HX.o.size;have aC:=z.o.size;clear ax hy f aw;go_wp2_with(at_builtin;refine lj (y:=y) Ek Tryz.underlying47 rfl _ _ rfl rfl ah.o rfl (by rw[aa.o];omega) oM ?_;intro v' w1 al aj az);have X4:Ba U w1:=(HX.o.trans z.o).D aj (nE _);go_roundw
     case rel=>exact⟨k+1,by go_num,by rw[Hn.o];omega,by rw[ar.o];exact al,X4⟩
     case measure=>simp[intOf];omega
  ·obtain rfl:i=n:=oM;go_wp2;rw[<-HR.o];exact⟨_,_,rfl,by rw[aq.o];exact ab.o,ap.o.size,ap.o.trans HX.o⟩
abbrev gj(T:TypeId)(w:N)(v:G)(l:List Int):Prop:=Sl T 1 PI w v l
def gj.f{T w w' v l}(h:gj T w v l)(k:Ba w w'):gj T w' v l:=Sl.ext h (fun _ _ h=>h) k
def gj.at'{T w a n c l}(h:gj T w (M a n c) l){i z}(g:l[i]?=I z):∃b o,a=I ⟨b,o,Z⟩/\b<w.heap.size/\w.cell? ⟨b,o+i,Z⟩=I (O Y z):=by obtain⟨b,o,d,rfl,e,j,rfl,f⟩:=Sl.at h g;have:=f 0 _ rfl;rw[Nat.mul_one,Nat.add_zero]at this;exact⟨b,o,rfl,e,this⟩
def xX(U:N)(r:Ru)(L:List Jt)(ro:List Int)(n:Nat)(a:G)(W:N):Prop:=
 ∃k:Nat,a=O Y k/\k<=n/\(∀m j,m<k->L[m]?=I j->rk r L ro m j)/\Ba U W
def vX(V:N)(r:Ru)(L:List Jt)(ro:List Int)(n k:Nat)(a:G)(W:N):Prop:=
 ∃i:Nat,a=O Y i/\i<=n/\(∀m,m<i->Pe r L k m=true->ro.getD k 0<=ro.getD m 0)/\Ba V W
def jm(w:N)(r:Ru)(L:List Jt)(ro:List Int)(e:Ending)(w':N):Prop:=
 ∃b,e=.returned (Ob b)/\(b=true ↔ ro.length=L.length/\∀k j,L[k]?=I j->rk r L ro k j)/\Ba w w'
def TW{r L k i}(h:Pe r L k i=true):i<L.length:=by
 unfold Pe at h;rcases Nat.lt_or_ge i L.length with q|q
 ·exact q
 ·rw[List.getElem?_eq_none q]at h;simp at h
def YW w v vr r L ro T(h:pk w v L)(ag:gj T w vr ro)(hB:∀j∈L,Fh j)(aK:L.length<=1000000):Calls Tryz.prog 19 #[Od (Uf r),v,vr] w (jm w r L ro):=by
 obtain⟨a,c,rfl⟩:=h.form;obtain⟨ra,rc,rfl⟩:=ag.form;obtain⟨n,hn⟩:=gX L.length;obtain⟨rn,ax⟩:=gX ro.length;rw[hn]at h aK ⊢;rw[ax]at ag ⊢;have Hn:=za hn;have ae:=za ax;have HL:=za h;have HO:=za ag;obtain⟨R,hR⟩:=gX (jm w r L ro);rw[hR];have HR:=za hR;have HF:=za (fun(W:N)(j k:Jt)(hj:j∈L)(hk:k∈L)=>FD W r j k (hB j hj) (hB k hk));unfold Uf at HF ⊢;clear h ag hB hn ax hR;go_in;by_cases av:rn=n;rotate_left 1
 ·have e0:((rn:Int) != (n:Int))=true:=by simp;omega
  have aH:=za av;clear av;go_wp2;rw[<-HR.o];exact⟨false,rfl,⟨fun h=>(by cases h),fun h=>absurd (by rw[<-ae.o,h.1,Hn.o]) aH.o⟩,(eR _).alloc _⟩
 subst av;have e0:((rn:Int) != (rn:Int))=false:=sM;go_wp2;obtain⟨U,hU⟩:=gX (w.alloc (A #[O .u8 r.skin,O Y r.pin,O Y r.wide,O Y r.lap,O Y r.step,O Y r.run,O Y r.level] 27));have X1:Ba w U:=by rw[<-hU];exact(eR _).alloc _
 have K2:U.heap[w.heap.size]?=I (A #[O .u8 r.skin,O Y r.pin,O Y r.wide,O Y r.lap,O Y r.step,O Y r.run,O Y r.level] 27 (0,0)):=by rw[<-hU];exact aN w _
 obtain⟨s,hs⟩:=gX w.heap.size;rw[hU];simp only[hs]at K2 ⊢;have HC:Ua (Da [(⟨s,0,Z⟩,O .u8 r.skin),(⟨s,1,Z⟩,O Y r.pin),(⟨s,2,Z⟩,O Y r.wide),(⟨s,3,Z⟩,O Y r.lap),(⟨s,4,Z⟩,O Y r.step),(⟨s,5,Z⟩,O Y r.run),(⟨s,6,Z⟩,O Y r.level)] U):=za ⟨Lb K2 (i:=0) rfl,Lb K2 (i:=1) rfl,Lb K2 (i:=2) rfl,Lb K2 (i:=3) rfl,Lb K2 (i:=4) rfl,Lb K2 (i:=5) rfl,Lb K2 (i:=6) rfl,trivial⟩;have ao:=za X1;have am:=za (HL.o.f X1);have an:=za (HO.o.f X1);clear hU X1 K2 hs HL HO e0;go_loopw [7] (xX U r L ro rn) (fun t7 _=>rn-(intOf t7).toNat)
 case atStart=>exact⟨0,rfl,by omega,fun m j hm=>by omega,eR _⟩
 case round =>
  obtain⟨k,rfl,hk,f,hx⟩:=hrel;have HX:=za hx;have aj:=za f;clear f hx;by_cases aF:k<rn
  ·obtain⟨j,au⟩:∃j,L[k]?=I j:=⟨_,gE (by rw[Hn.o];exact aF)⟩;obtain⟨x,ah⟩:∃x,ro[k]?=I x:=⟨_,gE (by rw[ae.o];exact aF)⟩;obtain⟨b,o,rfl,-,hc⟩:=(am.o.f HX.o).at' au;obtain⟨g,p,rfl,-,ad⟩:=(an.o.f HX.o).at' ah;have az:ro.getD k 0=x:=by rw[gD,ah];rfl
   have aa:=za au;have ac:=za az;have aJ:=za ah;unfold yh at hc;have c4:=hc 4 (O Y j.fr) rfl;have c5:=hc 5 (O Y j.til) rfl;have r7:=cE HC.o HX.o;have g0:(0:Int)<=(k:Int):=oM;have g1:(k:Int)<(rn:Int):=oM;have C1:Da [(⟨s,0,Z⟩,O .u8 r.skin),(⟨s,1,Z⟩,O Y r.pin),(⟨s,2,Z⟩,O Y r.wide),(⟨s,3,Z⟩,O Y r.lap),(⟨s,4,Z⟩,O Y r.step),(⟨s,5,Z⟩,O Y r.run),(⟨s,6,Z⟩,O Y r.level),(⟨b,o+k*6+4,Z⟩,O Y j.fr),(⟨b,o+k*6+5,Z⟩,O Y j.til),(⟨g,p+k,Z⟩,O Y x)] wr:=by
    obtain⟨r0,r1,r2,r3,r4,r5,r6,-⟩:=r7;exact⟨r0,r1,r2,r3,r4,r5,r6,c4,c5,ad,trivial⟩
   obtain⟨z,hz⟩:=gX (IntKind.i64.wrap (j.til-x));have aL:wrap64 (j.til-x)=z:=(IntWalk.i64_left _).symm.trans hz;have Hz:=za hz;have K:(j.fr<x/\¬rk r L ro k j)\/(¬j.fr<x/\r.run<z/\¬rk r L ro k j)\/(¬j.fr<x/\¬r.run<z/\z<0/\¬rk r L ro k j)\/(¬j.fr<x/\¬r.run<z/\¬z<0/\True):=by
    unfold rk;rw[az,hz];by_cases h1:j.fr<x<;>by_cases h2:r.run<z<;>by_cases h3:z<0<;>simp[h1,h2,h3]
   clear hc au ah az ad c4 c5 r7;go_upto_region 6 with fail;refine jd _ (cE C1 (eR _).drew) fun ab=>?_;clear C1;rcases K with ⟨h1,u⟩|⟨h1,h2,u⟩|⟨h1,h2,h3,u⟩|⟨h1,h2,h3,u⟩
   all_goals
    have aq:=za u;clear u;refine La (i:=0) ?_;refine La (i:=1) ?_;refine La (i:=2) ?_;refine La (i:=3) ?_;refine La (i:=4) ?_;refine La (i:=5) ?_;refine La (i:=6) ?_;refine La (i:=7) ?_;refine La (i:=8) ?_;refine La (i:=9) ?_;refine La (i:=10) ?_
    first|(refine Pa (i:=11) ?_;refine Pa (i:=12) ?_;refine Pa (i:=13) ?_;refine Pa (i:=14) ?_;refine Pa (i:=15) ?_;refine Pa (i:=16) ?_;refine Pa (i:=17) ?_;refine Pa (i:=18) ?_;refine Pa (i:=19) ?_;refine Pa (i:=20) ?_;refine Pa (i:=21) ?_;refine Pa (i:=22) ?_;refine Pa (i:=23) ?_)|(refine La (i:=11) ?_;refine La (i:=12) ?_;refine La (i:=13) ?_;refine La (i:=14) ?_;refine La (i:=15) ?_;refine La (i:=16) ?_;refine La (i:=17) ?_;refine La (i:=18) ?_;refine La (i:=19) ?_;refine La (i:=20) ?_;refine La (i:=21) ?_;refine La (i:=22) ?_;refine La (i:=23) ?_)
    refine sN 24 ?_
    (iterate 2 refine Db ?_);refine oN ?_
    first|(refine Pa (i:=26) ?_;refine Pa (i:=27) ?_;refine Pa (i:=28) ?_;refine Pa (i:=29) ?_;refine Pa (i:=30) ?_;refine Pa (i:=31) ?_;refine Pa (i:=32) ?_;refine Pa (i:=33) ?_;refine Pa (i:=34) ?_;refine Pa (i:=35) ?_;refine Pa (i:=36) ?_)|(refine La (i:=26) ?_;refine La (i:=27) ?_;refine La (i:=28) ?_;refine La (i:=29) ?_;refine La (i:=30) ?_;refine La (i:=31) ?_;refine La (i:=32) ?_;refine La (i:=33) ?_;refine La (i:=34) ?_;refine La (i:=35) ?_;refine La (i:=36) ?_)
    refine La (i:=37) ?_;refine Pb ?_;clear ab
   rotate_left 3
   ·obtain⟨V,hV⟩:∃V:N,V=wr.drew:=⟨_,rfl⟩;have ap:Ua (Ba U V):=za (by rw[hV];exact HX.o.drew);have Hp:=za (And.intro h1 (And.intro h2 h3));rw[<-hV];clear hV h1 h2 h3 HX hz aL wr;go_wp2;go_loopw [8] (vX V r L ro rn k) (fun t8 _=>rn-(intOf t8).toNat)
    case atStart=>exact⟨0,rfl,by omega,fun m hm=>by omega,eR _⟩
    case round =>
     obtain⟨i,rfl,hi,f,hx⟩:=hrel;have aC:=za hx;have ai:=za f;have hX:Ba U wr:=ap.o.trans hx;clear f hx;by_cases ak:i<rn
     ·obtain⟨q,af⟩:∃j,L[i]?=I j:=⟨_,gE (by rw[Hn.o];exact ak)⟩;obtain⟨y,aB⟩:∃x,ro[i]?=I x:=⟨_,gE (by rw[ae.o];exact ak)⟩;obtain⟨b1,o1,e1,-,l⟩:=(am.o.f hX).at' aa.o;cases e1;obtain⟨b2,o2,e2,-,t⟩:=(am.o.f hX).at' af;cases e2;obtain⟨aM,p1,e3,-,ad⟩:=(an.o.f hX).at' aJ.o;cases e3;obtain⟨g2,p2,e4,-,aE⟩:=(an.o.f hX).at' aB;cases e4;(have aA:ro.getD i 0=y:=by rw[gD,aB];rfl);have al:=za (fun W=>HF.o W q j (lM af) (lM aa.o));(have hf:Pe r L k i=Qd r q j:=by unfold Pe;rw[aa.o,af]);obtain⟨d,hd⟩:=gX (Qd r q j);rw[hd]at al hf;have K:(d=true/\y<x/\¬rk r L ro k j)\/(d=true/\¬y<x/\(Pe r L k i=true->ro.getD k 0<=ro.getD i 0))\/(d=false/\(Pe r L k i=true->ro.getD k 0<=ro.getD i 0)):=by
       cases d
       ·exact .inr (.inr ⟨rfl,fun h9=>by rw[hf]at h9;cases h9⟩)
       ·by_cases h9:y<x
        ·refine .inl ⟨rfl,h9,fun h8=>?_⟩;have:=h8.2.2.2 i hf;rw[ac.o,aA]at this;omega
        ·exact .inr (.inl ⟨rfl,h9,fun _=>by rw[ac.o,aA];omega⟩)
      unfold yh at l t al;have p0:=l 0 (O Y j.a) rfl;have q0:=t 0 (O Y q.a) rfl;have p1:=l 1 (O Y j.b) rfl;have q1:=t 1 (O Y q.b) rfl;have p2:=l 2 (O Y j.left) rfl;have q2:=t 2 (O Y q.left) rfl;have p3:=l 3 (O Y j.right) rfl;have q3:=t 3 (O Y q.right) rfl;have p4:=l 4 (O Y j.fr) rfl;have q4:=t 4 (O Y q.fr) rfl;have p5:=l 5 (O Y j.til) rfl;have q5:=t 5 (O Y q.til) rfl;simp only[Nat.add_zero]at p0 q0;have r7:=cE HC.o hX;have h0:(0:Int)<=(i:Int):=oM;have h1:(i:Int)<(rn:Int):=oM;have C2:Da [(⟨s,0,Z⟩,O .u8 r.skin),(⟨s,1,Z⟩,O Y r.pin),(⟨s,2,Z⟩,O Y r.wide),(⟨s,3,Z⟩,O Y r.lap),(⟨s,4,Z⟩,O Y r.step),(⟨s,5,Z⟩,O Y r.run),(⟨s,6,Z⟩,O Y r.level),(⟨b,o+k*6,Z⟩,O Y j.a),(⟨b,o+k*6+1,Z⟩,O Y j.b),(⟨b,o+k*6+2,Z⟩,O Y j.left),(⟨b,o+k*6+3,Z⟩,O Y j.right),(⟨b,o+k*6+4,Z⟩,O Y j.fr),(⟨b,o+k*6+5,Z⟩,O Y j.til),(⟨b,o+i*6,Z⟩,O Y q.a),(⟨b,o+i*6+1,Z⟩,O Y q.b),(⟨b,o+i*6+2,Z⟩,O Y q.left),(⟨b,o+i*6+3,Z⟩,O Y q.right),(⟨b,o+i*6+4,Z⟩,O Y q.fr),(⟨b,o+i*6+5,Z⟩,O Y q.til),(⟨g,p+k,Z⟩,O Y x),(⟨g,p+i,Z⟩,O Y y)] wr:=by
       obtain⟨r0,r1,r2,r3,r4,r5,r6,-⟩:=r7;exact⟨r0,r1,r2,r3,r4,r5,r6,p0,p1,p2,p3,p4,p5,q0,q1,q2,q3,q4,q5,ad,aE,trivial⟩
      clear l t af aB ad aE p0 p1 p2 p3 p4 p5 q0 q1 q2 q3 q4 q5 hf hd aA hX r7;go_upto_region 11 with fail;refine jd _ (cE C2 (eR _).drew) fun ab=>?_;clear C2;refine La (i:=0) ?_;refine La (i:=1) ?_;refine La (i:=2) ?_;refine La (i:=3) ?_;refine La (i:=4) ?_;refine La (i:=5) ?_;refine La (i:=6) ?_;refine La (i:=7) ?_;refine La (i:=8) ?_;refine Ac (i:=9) (al.o _) ?_;rintro e w4 ⟨rfl,ay⟩;refine⟨_,rfl,(cE ab ay),fun ab=>?_⟩;have aD:=za (aC.o.trans ((eR _).drew.trans ay));clear ay;rcases K with ⟨rfl,he,u⟩|⟨rfl,he,aw⟩|⟨rfl,aw⟩
      ·have aq:=za u;clear u;refine La (i:=10) ?_;refine La (i:=11) ?_;refine La (i:=12) ?_;refine La (i:=13) ?_;refine La (i:=14) ?_;refine La (i:=15) ?_;refine La (i:=16) ?_;refine La (i:=17) ?_;refine La (i:=18) ?_;refine La (i:=19) ?_;refine La (i:=20) ?_;refine Pb ?_;clear ab;go_wp2;rw[<-HR.o];exact⟨false,rfl,⟨fun h=>(by cases h),fun h=>absurd (h.2 k j aa.o) aq.o⟩,ao.o.trans (ap.o.trans aD.o)⟩
      all_goals
       have aI:=za aw;clear aw;refine La (i:=10) ?_
       first|(refine Pa (i:=11) ?_;refine Pa (i:=12) ?_;refine Pa (i:=13) ?_;refine Pa (i:=14) ?_;refine Pa (i:=15) ?_;refine Pa (i:=16) ?_;refine Pa (i:=17) ?_;refine Pa (i:=18) ?_;refine Pa (i:=19) ?_)|(refine La (i:=11) ?_;refine La (i:=12) ?_;refine La (i:=13) ?_;refine La (i:=14) ?_;refine La (i:=15) ?_;refine La (i:=16) ?_;refine La (i:=17) ?_;refine La (i:=18) ?_;refine La (i:=19) ?_)
       refine La (i:=20) ?_;refine Pb ?_;clear ab;go_wp2;go_roundw
       case rel =>
        refine⟨i+1,by go_num,by omega,fun m hm hf=>?_,aD.o⟩;by_cases q:m=i
        ·subst q;exact aI.o hf
        ·exact ai.o m oM hf
       case measure=>simp[intOf];omega
     ·obtain rfl:rn=i:=oM;have X5:=ap.o.trans aC.o;have aG:=za X5;clear X5 hX;go_wp2;go_roundw
      case rel =>
       refine⟨k+1,by go_num,by omega,fun m j' hm ar=>?_,aG.o⟩;by_cases q:m=k
       ·subst q;rw[aa.o]at ar;cases ar;refine⟨?_,?_,?_,fun i hf=>ai.o i (by have:=TW hf;rw[Hn.o]at this;exact this) hf⟩
        ·rw[ac.o];exact Int.not_lt.2 Hp.o.1
        ·rw[ac.o,Hz.o];exact Int.not_lt.2 Hp.o.2.1
        ·rw[ac.o,Hz.o];exact Int.not_lt.2 Hp.o.2.2
       ·exact aj.o m j' oM ar
      case measure=>simp[intOf];omega
   all_goals
    go_wp2;rw[<-HR.o];exact⟨false,rfl,⟨fun h=>(by cases h),fun h=>absurd (h.2 k j aa.o) aq.o⟩,ao.o.trans HX.o.drew⟩
  ·obtain rfl:rn=k:=oM;go_wp2;rw[<-HR.o];exact⟨true,rfl,⟨fun _=>⟨by rw[ae.o,Hn.o],fun m j hj=>aj.o m j (by have:=(lS.1 hj).1;rw[Hn.o]at this;exact this) hj⟩,fun _=>rfl⟩,ao.o.trans HX.o⟩
def VK:(Tryz.prog.info? 97).map (fun i=>(i.zero,i.size,i.bytes))=I (I (Od #[O Y 0,O Y 0,O Y 0,O Y 0,O Y 0,O Y 0]),6,48):=kM
def uU(b:N)(s n i:Nat)(r:Ru)(ps:List Pl)(p:Pl)(c:Nat)(a:Act)(W:N):Prop:=
 ∃k v5 v16 v17,k<=n/\c=n-k/\Ba b W/\Fe W b.heap.size v5 (Xh r (Se ps) i (Ib i p) k)/\FJ s v5 (O Y i) (O Y k) v16 v17 a
def TH Q U0 W0(s n be gn gc i:Nat) ga pa v5 aP aQ r ps p a0(hF:FJ s v5 (O Y i) (O Y (0:Nat)) aP aQ a0)(bs:ps[i]?=I p)(hn:ps.length=n)(bW:n<=120)(hx:Ba U0 W0)(ho:Fe W0 U0.heap.size v5 (ij r (Se ps) i))(HC:Ua (Da [(⟨s,0,Z⟩,M ga gn gc),(⟨s,1,Z⟩,M pa n be),(⟨s+1,0,Z⟩,O .u8 r.skin),(⟨s+1,1,Z⟩,O Y r.pin),(⟨s+1,2,Z⟩,O Y r.wide),(⟨s+1,3,Z⟩,O Y r.lap),(⟨s+1,4,Z⟩,O Y r.step),(⟨s+1,5,Z⟩,O Y r.run),(⟨s+1,6,Z⟩,O Y r.level)] U0))(HP:Ua (Cf U0 (M pa n be) ps))(aR:Ua (∀p∈ps,Fa p=true))(bN:En Q)(hQ:∀a' W' v5 aP aQ,FJ s v5 (O Y i) (O Y n) aP aQ a'->Fe W' U0.heap.size v5 (ij r (Se ps) (i+1))->Ba U0 W'->Q (.exit 2) a' W'):(Code.loop (Tb Tryz.f16 1)).wp Tryz.prog Q a0 W0:=by
 have HQ:=za hQ;have f:=za bN;have Hn:=za hn;have a3:=za bs;have cj:i<n:=by rw[<-hn];exact(lS.1 bs).1
 clear hQ bN hn bs;unfold Tb;simp only[Tryz.f16,Jb,List.cons_append,List.nil_append,List.append_nil,List.getD_cons_succ,List.getD_cons_zero];refine wp_loop_ghost_k (uU U0 s n i r ps p) n ⟨0,v5,aP,aQ,Nat.zero_le _,rfl,hx,by rw[FN];exact ho,hF⟩ ?round;clear hF hx ho v5 aP aQ;intro gk aa wr hinv;obtain⟨k,v5,aP,aQ,hk,cd,hx,ho,hF⟩:=hinv;subst cd;obtain⟨a5,c5,rfl⟩:=ho.form;rw[lL]at ho hF;have bi:=iL r (Se ps) i (Ib i p) k;rw[ko,Hn.o]at bi;have aV:(Xh r (Se ps) i (Ib i p) k).length<=100000:=by
  have:i*n<=120*120:=Nat.mul_le_mul oM bW;omega
 have Ho:=za ho;have HX:=za hx;obtain⟨out,aW⟩:=gX (Xh r (Se ps) i (Ib i p) k);have L:=za aW;rw[aW]at Ho hF aV;obtain⟨n5,br⟩:=gX out.length;have aM:=za br;rw[br]at Ho hF aV;clear ho bi aW br;obtain⟨tt,dd⟩:=aa;obtain⟨f0,f2,f3,f5,f6,f7,ab,ac,aC⟩:=hF;dsimp only at f0 f2 f3 f5 f6 f7 ab ac  aC;subst aC;obtain⟨u,hu,ht⟩:=Qf tt 161 f0;simp only[hu]at f2 f3 f5 f6 f7 ab ac;clear hu f0;subst ht;simp only[List.range,List.range.loop,List.map_cons,List.map_nil,f2,f3,f5,f6,f7,ab,ac ];clear f2 f3 f5 f6 f7 ab ac;intro J K hJ hK;obtain⟨s0,s1,r0,r1,r2,r3,r4,r5,r6,-⟩:=cE HC.o hx;have a4:=HP.o.f hx;clear hx;by_cases ce:k<n
 ·obtain⟨q,ba⟩:∃q,ps[k]?=I q:=⟨_,gE (by rw[Hn.o];exact ce)⟩;obtain⟨b,o,v1,rfl,hb,bb,b0,ag⟩:=a4.at' a3.o;obtain⟨b',o',v2,e,-,bc,b1,ah⟩:=a4.at' ba;cases e;have bY:=aR.o p (lM a3.o);have bZ:=aR.o q (lM ba);have aK:=za (fun W (hW:Ba wr W)=>py W v1 p (bb.f hW) bY);have aL:=za (fun W (hW:Ba wr W)=>py W v2 q (bc.f hW) bZ);have a1:=za (fun W=>Ky W p v1 r.skin (by obtain⟨a,n,c,e⟩:=bb.i;exact⟨a,n,c,e⟩));have a2:=za (fun W=>Ky W q v2 r.skin (by obtain⟨a,n,c,e⟩:=bc.i;exact⟨a,n,c,e⟩));have bQ:=yr a3.o;have bq:=yr ba;have a7:=Qp aR.o (lM bQ);have a8:=Qp aR.o (lM bq);have bB:=za (fun W (hW:Ba wr W) (j:Jt)=>EM W (M ga gn gc) (M (I ⟨b,o,Z⟩) n be) ps r j ⟨_,_,_,rfl⟩ (a4.f hW) aR.o (by rw[Hn.o];exact bW));have am:Gd r ((Se ps).filter (Xf r)) (Ib i p) (Ib k q)=(((i:Int) != (k:Int))&&(decide ((qe (Ib i p) (Ib k q)).left<=(qe (Ib i p) (Ib k q)).right)&&(decide ((qe (Ib i p) (Ib k q)).right-(qe (Ib i p) (Ib k q)).left<=r.wide)&&(decide ((qe (Ib i p) (Ib k q)).fr<(qe (Ib i p) (Ib k q)).til)&&!Vd (Kb r ps) (qe (Ib i p) (Ib k q)))))):=rfl;have al:qe (Ib i p) (Ib k q)=⟨i,k,(td Prod.fst (Ca p)).2,(td Prod.fst (Ca q)).1,max (td Prod.snd (Ca p)).1 (td Prod.snd (Ca q)).1,min (td Prod.snd (Ca p)).2 (td Prod.snd (Ca q)).2⟩:=rfl;have bt:Xf r (Ib i p)=(p.skin==r.skin || p.skin==3):=rfl;have bu:Xf r (Ib k q)=(q.skin==r.skin || q.skin==3):=rfl;obtain⟨sa,sn,sc,rfl⟩:=bb.i;obtain⟨ta,tn,tc,rfl⟩:=bc.i;have e1:td Prod.fst (Ca p)=(Ib i p).x:=rfl;have e2:td Prod.snd (Ca p)=(Ib i p).z:=rfl;have e3:td Prod.fst (Ca q)=(Ib k q).x:=rfl;have e4:td Prod.snd (Ca q)=(Ib k q).z:=rfl;rw[e1,e2,e3,e4]at al;rw[e1,e2]at aK;rw[e3,e4]at aL;obtain⟨⟨xl,xh⟩,h1⟩:∃x,(Ib i p).x=x:=⟨_,rfl⟩;obtain⟨⟨zl,zh⟩,h2⟩:∃x,(Ib i p).z=x:=⟨_,rfl⟩;obtain⟨⟨g,cl⟩,h3⟩:∃x,(Ib k q).x=x:=⟨_,rfl⟩;obtain⟨⟨bA,bz⟩,h4⟩:∃x,(Ib k q).z=x:=⟨_,rfl⟩;rw[h1,h2,h3,h4]at al;rw[h1,h2]at aK a7;rw[h3,h4]at aL a8;dsimp only at al aK aL a7 a8;obtain⟨j,hj⟩:=gX (qe (Ib i p) (Ib k q));rw[hj]at al am;obtain⟨k1,bT⟩:=gX ((p.skin==r.skin || p.skin==3));obtain⟨k2,bU⟩:=gX ((q.skin==r.skin || q.skin==3));rw[bT]at bt a1;rw[bU]at bu a2;have bF:=za am;have Hj:=za hj;have b7:=za al;have Hs:=za (And.intro bt bu);have aE:=za bq;have g0:(0:Int)<=(i:Int):=oM;have g1:(i:Int)<(n:Int):=oM;have g2:(0:Int)<=(k:Int):=oM;have g3:(k:Int)<(n:Int):=oM;have kw:IntKind.i64.wrap (g-xh)=g-xh:=iW _ (by unfold Bd at a7 a8;omega);unfold Dd at ag ah aK aL a1 a2;have ak:=ag 0 (.string p.name) rfl;have d0:=ah 0 (.string q.name) rfl;have ao:=ag 1 (M sa sn sc) rfl;have d1:=ah 1 (M ta tn tc) rfl;have ap:=ag 2 (O Y p.depth) rfl;have d2:=ah 2 (O Y q.depth) rfl;have aq:=ag 3 (O Y p.density) rfl;have d3:=ah 3 (O Y q.density) rfl;have ar:=ag 4 (O Y p.gx) rfl;have d4:=ah 4 (O Y q.gx) rfl;have au:=ag 5 (O Y p.gz) rfl;have d5:=ah 5 (O Y q.gz) rfl;have av:=ag 6 (O Y p.way) rfl;have d6:=ah 6 (O Y q.way) rfl;have aw:=ag 7 (O Y p.ax) rfl;have d7:=ah 7 (O Y q.ax) rfl;have ay:=ag 8 (O Y p.az) rfl;have d8:=ah 8 (O Y q.az) rfl;have aA:=ag 9 (O .u8 p.skin) rfl;have d9:=ah 9 (O .u8 q.skin) rfl;simp only[Nat.add_zero]at ak d0;have CR:Da [(⟨s,0,Z⟩,M ga gn gc),(⟨s,1,Z⟩,M (I ⟨b,o,Z⟩) n be),(⟨s+1,0,Z⟩,O .u8 r.skin),(⟨s+1,1,Z⟩,O Y r.pin),(⟨s+1,2,Z⟩,O Y r.wide),(⟨s+1,3,Z⟩,O Y r.lap),(⟨s+1,4,Z⟩,O Y r.step),(⟨s+1,5,Z⟩,O Y r.run),(⟨s+1,6,Z⟩,O Y r.level),(⟨b,o+i*10,Z⟩,.string p.name),(⟨b,o+i*10+1,Z⟩,M sa sn sc),(⟨b,o+i*10+2,Z⟩,O Y p.depth),(⟨b,o+i*10+3,Z⟩,O Y p.density),(⟨b,o+i*10+4,Z⟩,O Y p.gx),(⟨b,o+i*10+5,Z⟩,O Y p.gz),(⟨b,o+i*10+6,Z⟩,O Y p.way),(⟨b,o+i*10+7,Z⟩,O Y p.ax),(⟨b,o+i*10+8,Z⟩,O Y p.az),(⟨b,o+i*10+9,Z⟩,O .u8 p.skin),(⟨b,o+k*10,Z⟩,.string q.name),(⟨b,o+k*10+1,Z⟩,M ta tn tc),(⟨b,o+k*10+2,Z⟩,O Y q.depth),(⟨b,o+k*10+3,Z⟩,O Y q.density),(⟨b,o+k*10+4,Z⟩,O Y q.gx),(⟨b,o+k*10+5,Z⟩,O Y q.gz),(⟨b,o+k*10+6,Z⟩,O Y q.way),(⟨b,o+k*10+7,Z⟩,O Y q.ax),(⟨b,o+k*10+8,Z⟩,O Y q.az),(⟨b,o+k*10+9,Z⟩,O .u8 q.skin)] wr:=⟨s0,s1,r0,r1,r2,r3,r4,r5,r6,ak,ao,ap,aq,ar,au,av,aw,ay,aA,d0,d1,d2,d3,d4,d5,d6,d7,d8,d9,trivial⟩;have aZ:=za CR;have D:Ba wr wr.drew:=(eR wr).drew;clear am hj al bt bu bQ bq a7 a8 ag ah bb bc b0 b1 bY bZ ba e1 e2 e3 e4 h1 h2 h3 h4 bT bU a4 s0 r0 r1 r2 r3 r4 r5 r6 ak ao ap aq ar au av aw ay aA d0 d1 d2 d3 d4 d5 d6 d7 d8 d9 CR;go_upto_region 8 with fail;refine jd _ (cE aZ.o D) fun aO=>?_;clear s1;by_cases aU:i=k
  ·have e0:((i:Int)==(k:Int))=true:=by simp[aU]
   have l:Xh r (Se ps) i (Ib i p) (k+1)=out:=by
    rw[tr aE.o (by rw[bF.o,show ((i:Int) != (k:Int))=false by simp[aU]];exact Bool.and_false _),L.o]
   have ae:=za l;clear l aU;refine La (i:=0) (h4:=Ic f) ?_;refine La (i:=1) (h4:=Ic f) ?_;refine La (i:=2) (h4:=Ic f) ?_;refine La (i:=3) (h4:=Ic f) ?_;refine Pa (i:=4) (h4:=Ic f) ?_;refine Pa (i:=5) (h4:=Ic f) ?_;refine Pa (i:=6) (h4:=Ic f) ?_;refine Pa (i:=7) (h4:=Ic f) ?_;refine Pa (i:=8) (h4:=Ic f) ?_;refine Pa (i:=9) (h4:=Ic f) ?_;refine Pa (i:=10) (h4:=Ic f) ?_;refine Pa (i:=11) (h4:=Ic f) ?_;refine Pa (i:=12) (h4:=Ic f) ?_;refine La (i:=13) (h4:=Ic f) ?_;refine La (i:=14) (h4:=Ic f) ?_;refine Pa (i:=15) (h4:=Ic f) ?_;refine Pa (i:=16) (h4:=Ic f) ?_;refine Pa (i:=17) (h4:=Ic f) ?_;refine Pa (i:=18) (h4:=Ic f) ?_;refine Pa (i:=19) (h4:=Ic f) ?_;refine Pa (i:=20) (h4:=Ic f) ?_;refine Pa (i:=21) (h4:=Ic f) ?_;refine Pa (i:=22) (h4:=Ic f) ?_;refine Pa (i:=23) (h4:=Ic f) ?_;refine La (i:=24) (h4:=Ic f) ?_;refine Pb ?_;go_wp2;refine Handed.intro (n-(k+1)) oM (hJ _ _ _ ⟨k+1,_,_,_,by omega,rfl,HX.o.trans D,by rw[ae.o];exact Ho.o.ext D,⟨rfl,rfl,rfl,rfl,rfl,?_,rfl,rfl,rfl⟩⟩);show (_:G)=_;go_num
  have e0:((i:Int)==(k:Int))=false:=by simp;omega
  have ci:(i==k)=false:=by simpa using aU
  have bM:((i:Int) != (k:Int))=true:=by simp;omega
  have bE:=za bM;clear bM aU;refine La (i:=0) (h4:=Ic f) ?_;refine La (i:=1) (h4:=Ic f) ?_;refine La (i:=2) (h4:=Ic f) ?_;refine La (i:=3) (h4:=Ic f) ?_;refine La (i:=4) (h4:=Ic f) ?_;refine La (i:=5) (h4:=Ic f) ?_;refine La (i:=6) (h4:=Ic f) ?_;refine La (i:=7) (h4:=Ic f) ?_;refine La (i:=8) (h4:=Ic f) ?_;refine La (i:=9) (h4:=Ic f) ?_;refine La (i:=10) (h4:=Ic f) ?_;refine Ac (i:=11) (a1.o _) ?_;rintro e w3 ⟨rfl,bv⟩;refine⟨_,rfl,(cE aO bv),fun aO=>?_⟩;have X3:=D.trans bv;cases k1 with
  |false=>
   have l:Xh r (Se ps) i (Ib i p) (k+1)=out:=by rw[gL Hs.o.1,L.o]
   have ae:=za l;clear l;refine La (i:=12) (h4:=Ic f) ?_;refine La (i:=13) (h4:=Ic f) ?_;refine La (i:=14) (h4:=Ic f) ?_;refine Pa (i:=15) (h4:=Ic f) ?_;refine Pa (i:=16) (h4:=Ic f) ?_;refine Pa (i:=17) (h4:=Ic f) ?_;refine Pa (i:=18) (h4:=Ic f) ?_;refine Pa (i:=19) (h4:=Ic f) ?_;refine Pa (i:=20) (h4:=Ic f) ?_;refine Pa (i:=21) (h4:=Ic f) ?_;refine Pa (i:=22) (h4:=Ic f) ?_;refine Pa (i:=23) (h4:=Ic f) ?_;refine La (i:=24) (h4:=Ic f) ?_;refine Pb ?_;go_wp2;refine Handed.intro (n-(k+1)) oM (hJ _ _ _ ⟨k+1,_,_,_,by omega,rfl,HX.o.trans X3,by rw[ae.o];exact Ho.o.ext X3,⟨rfl,rfl,rfl,rfl,rfl,?_,rfl,rfl,rfl⟩⟩);show (_:G)=_;go_num
  |true=>
   refine La (i:=12) (h4:=Ic f) ?_;refine La (i:=13) (h4:=Ic f) ?_;refine La (i:=14) (h4:=Ic f) ?_;refine La (i:=15) (h4:=Ic f) ?_;refine La (i:=16) (h4:=Ic f) ?_;refine La (i:=17) (h4:=Ic f) ?_;refine La (i:=18) (h4:=Ic f) ?_;refine La (i:=19) (h4:=Ic f) ?_;refine La (i:=20) (h4:=Ic f) ?_;refine La (i:=21) (h4:=Ic f) ?_;refine Ac (i:=22) (a2.o _) ?_;rintro e w4 ⟨rfl,bw⟩;refine⟨_,rfl,(cE aO bw),fun aO=>?_⟩;have X4:=X3.trans bw;cases k2 with
   |false=>
    (have l:Xh r (Se ps) i (Ib i p) (k+1)=out:=by rw[tr aE.o (by rw[Hs.o.2];rfl),L.o]);have ae:=za l;clear l;refine La (i:=23) (h4:=Ic f) ?_;refine La (i:=24) (h4:=Ic f) ?_;refine Pb ?_;go_wp2;refine Handed.intro (n-(k+1)) oM (hJ _ _ _ ⟨k+1,_,_,_,by omega,rfl,HX.o.trans X4,by rw[ae.o];exact Ho.o.ext X4,⟨rfl,rfl,rfl,rfl,rfl,?_,rfl,rfl,rfl⟩⟩);show (_:G)=_;go_num
   |true=>
    refine La (i:=23) (h4:=Ic f) ?_;refine La (i:=24) (h4:=Ic f) ?_;refine Pb ?_;clear aO a1 a2;obtain⟨s0,s1,r0,r1,r2,r3,r4,r5,r6,ak,ao,ap,aq,ar,au,av,aw,ay,aA,d0,d1,d2,d3,d4,d5,d6,d7,d8,d9,-⟩:=cE aZ.o (X4);go_upto_region 10 with (go_at_call 43;refine cM (aK.o _ X4) ?_;rintro e w5 ⟨rfl,b2⟩);clear s0 s1 r0 r1 r2 r3 r4 r5 r6 ak ao ap aq ar au av aw ay aA d0 d1 d2 d3 d4 d5 d6 d7 d8 d9;have X5:=X4.trans b2;obtain⟨s0,s1,r0,r1,r2,r3,r4,r5,r6,ak,ao,ap,aq,ar,au,av,aw,ay,aA,d0,d1,d2,d3,d4,d5,d6,d7,d8,d9,-⟩:=cE aZ.o (X5);go_upto_if 89 with (go_at_call 43;refine cM (aL.o _ X5) ?_;rintro e w6 ⟨rfl,b3⟩);clear s0 s1 r0 r1 r2 r3 r4 r5 r6 ak ao ap aq ar au av aw ay aA d0 d1 d2 d3 d4 d5 d6 d7 d8 d9;have X6:=X5.trans b3;clear bv bw b2 b3 X3 X4 X5 aK aL;have bC:=za X6;obtain⟨R,aB⟩:=gX w6.heap.size;obtain⟨W7,a6⟩:=gX (w6.alloc (A #[O Y i,O Y k,O Y xh,O Y g,O Y zl,O Y zh] 97));(have K7:W7.heap[R]?=I (A #[O Y i,O Y k,O Y xh,O Y g,O Y zl,O Y zh] 97 (0,0)):=by rw[<-a6,<-aB];exact aN w6 _);(have X7:Ba w6 W7:=by rw[<-a6];exact(eR _).alloc _);have b5:w6.heap.size<=R:=Nat.le_of_eq aB;rw[a6,aB];have bI:=za aB;clear a6 aB X6;obtain⟨mx,cg⟩:=gX (max zl bA);obtain⟨mn,cf⟩:=gX (min zh bz);have al:=b7.o;rw[cg,cf]at al;subst al;go_cut [16]from 19 to 161 (fun bx W=>bx=Oa (I ⟨R,0,Z⟩)/\W.heap[R]?=I (A #[O Y i,O Y k,O Y xh,O Y g,O Y mx,O Y zh] 97 (0,0))/\Ba w6 W)
    case first =>
     by_cases hc:zl<bA
     ·obtain rfl:bA=mx:=oM;have x4:=Aa K7 4 (O Y zl);have xf:=Za K7;go_wp2;go_meet;exact⟨rfl,Sk K7 4 _,X7.set (by exact b5) _⟩
     ·obtain rfl:zl=mx:=oM;go_wp2;go_meet;exact⟨rfl,K7,X7⟩
    case rest =>
     obtain⟨W8,rfl⟩:∃V,V=wc:=⟨_,rfl⟩;obtain⟨rfl,K8,X8⟩:=hcut;clear K7 X7;go_upto_if 94 with fail;go_cut [16]from 19 to 161 (fun bx W=>bx=Oa (I ⟨R,0,Z⟩)/\W.heap[R]?=I (A #[O Y i,O Y k,O Y xh,O Y g,O Y mx,O Y mn] 97 (0,0))/\Ba w6 W)
     case first =>
      by_cases hc:bz<zh
      ·obtain rfl:bz=mn:=oM;have x4:=Aa K8 5 (O Y zh);have xf:=Za K8;go_wp2;go_meet;exact⟨rfl,Sk K8 5 _,X8.set (by exact b5) _⟩
      ·obtain rfl:zh=mn:=oM;go_wp2;go_meet;exact⟨rfl,K8,X8⟩
     case rest =>
      obtain⟨W9,rfl⟩:∃V,V=wc:=⟨_,rfl⟩;obtain⟨rfl,K9,X9⟩:=hcut;clear K8 X8;have XW:=bC.o.trans X9;have ai:=za XW;have b6:=za K9;have am:=bF.o;dsimp only at am;rw[bE.o]at am;obtain⟨F,hF⟩:=gX (Vd (Kb r ps) ⟨(i:Int),(k:Int),xh,g,mx,mn⟩);have aJ:=za (fun W (hW:Ba wr W)=>bB.o W hW ⟨(i:Int),(k:Int),xh,g,mx,mn⟩);rw[hF]at am aJ;unfold yh Uf at aJ;dsimp only at aJ;have an:=za am;obtain⟨s0,s1,r0,r1,r2,r3,r4,r5,r6,ak,ao,ap,aq,ar,au,av,aw,ay,aA,d0,d1,d2,d3,d4,d5,d6,d7,d8,d9,-⟩:=cE aZ.o (XW);have x0:=Aa K9 0 (O Y i);have x1:=Aa K9 1 (O Y k);have x2:=Aa K9 2 (O Y xh);have x3:=Aa K9 3 (O Y g);have x4:=Aa K9 4 (O Y mx);have x5:=Aa K9 5 (O Y mn);clear am hF bB X9 K9 XW;by_cases hA:g<xh
      ·have l:Xh r (Se ps) i (Ib i p) (k+1)=out:=by
        rw[tr aE.o (by rw[an.o,show decide (xh<=g)=false by simp;omega];exact Bool.and_false _),L.o]
       have ae:=za l;clear l;go_wp2;refine Handed.intro (n-(k+1)) oM (hJ _ _ _ ⟨k+1,_,_,_,by omega,rfl,HX.o.trans ai.o,by rw[ae.o];exact Ho.o.ext ai.o,⟨rfl,rfl,rfl,rfl,rfl,?_,rfl,rfl,rfl⟩⟩);show (_:G)=_;go_num
      by_cases hB:r.wide<g-xh
      ·have l:Xh r (Se ps) i (Ib i p) (k+1)=out:=by
        rw[tr aE.o (by rw[an.o,show decide (g-xh<=r.wide)=false by simp;omega];simp),L.o]
       have ae:=za l;clear l;go_wp2;refine Handed.intro (n-(k+1)) oM (hJ _ _ _ ⟨k+1,_,_,_,by omega,rfl,HX.o.trans ai.o,by rw[ae.o];exact Ho.o.ext ai.o,⟨rfl,rfl,rfl,rfl,rfl,?_,rfl,rfl,rfl⟩⟩);show (_:G)=_;go_num
      by_cases hC:mn<=mx
      ·have l:Xh r (Se ps) i (Ib i p) (k+1)=out:=by
        rw[tr aE.o (by rw[an.o,show decide (mx<mn)=false by simp;omega];simp),L.o]
       have ae:=za l;clear l;go_wp2;refine Handed.intro (n-(k+1)) oM (hJ _ _ _ ⟨k+1,_,_,_,by omega,rfl,HX.o.trans ai.o,by rw[ae.o];exact Ho.o.ext ai.o,⟨rfl,rfl,rfl,rfl,rfl,?_,rfl,rfl,rfl⟩⟩);show (_:G)=_;go_num
      cases F with
      |true=>
       have l:Xh r (Se ps) i (Ib i p) (k+1)=out:=by
        rw[tr aE.o (by rw[an.o];simp),L.o]
       have ae:=za l;clear l;go_wp2_with(go_at_call 44;refine cM (aJ.o _ ai.o) ?_;rintro e b4 ⟨rfl,aj⟩);refine Handed.intro (n-(k+1)) oM (hJ _ _ _ ⟨k+1,_,_,_,by omega,rfl,HX.o.trans (ai.o.trans aj),by rw[ae.o];exact(Ho.o.ext (ai.o.trans aj)),⟨rfl,rfl,rfl,rfl,rfl,?_,rfl,rfl,rfl⟩⟩);show (_:G)=_;go_num
      |false=>
       have bm:Xh r (Se ps) i (Ib i p) (k+1)=Zg out ⟨(i:Int),(k:Int),xh,g,mx,mn⟩:=by
        rw[fL aE.o Hs.o.1 (by rw[an.o,Hs.o.2,show decide (xh<=g)=true by simp;omega,show decide (g-xh<=r.wide)=true by simp;omega,show decide (mx<mn)=true by simp;omega];rfl),L.o,Hj.o]
       have bH:=za bm;clear bm;go_wp2_with(go_at_call 44;refine cM (aJ.o _ ai.o) ?_;rintro e b4 ⟨rfl,aj⟩);have bK:=ai.o.trans aj;have bg:=za bK;have aF:=za (aj.e b6.o);clear s0 s1 r0 r1 r2 r3 r4 r5 r6 ak ao ap aq ar au av aw ay aA d0 d1 d2 d3 d4 d5 d6 d7 d8 d9;clear x0 x1 x2 x3 x4 x5 aJ aj bK aO;refine BH _ b4 s n5 c5 U0.heap.size R a5 _ _ ⟨(i:Int),(k:Int),xh,g,mx,mn⟩ out _ ⟨rfl,rfl,rfl,rfl,rfl,rfl,rfl,rfl,rfl⟩ oM (Ho.o.ext bg.o) ⟨Lb aF.o (i:=0) rfl,Lb aF.o (i:=1) rfl,Lb aF.o (i:=2) rfl,Lb aF.o (i:=3) rfl,Lb aF.o (i:=4) rfl,Lb aF.o (i:=5) rfl,trivial⟩ (fun c a d v w h=>f.o c a d v w h) (fun a' bo hF aY=>?_);obtain⟨at',bp⟩:∃m,Id ⟨(i:Int),(k:Int),xh,g,mx,mn⟩ out n5=m:=⟨_,rfl⟩;rw[bp]at hF;have bD:=za bp;have aS:=za (bg.o.trans aY);have af:=za (aY.e aF.o);clear bp aY;obtain⟨tt,dd⟩:=a';obtain⟨f0,f2,f3,f5,f6,f7,ab,ac,aC⟩:=hF;dsimp only at f0 f2 f3 f5 f6 f7 ab ac  aC;subst aC;obtain⟨u,hu,ht⟩:=Qf tt 161 f0;simp only[hu]at f2 f3 f5 f6 f7 ab ac;clear hu f0;subst ht;simp only[List.range,List.range.loop,List.map_cons,List.map_nil,f2,f3,f5,f6,f7,ab,ac ];clear f2 f3 f5 f6 f7 ab ac;have x0:=Aa af.o 0 (O Y i);have x1:=Aa af.o 1 (O Y k);have x2:=Aa af.o 2 (O Y xh);have x3:=Aa af.o 3 (O Y g);have x4:=Aa af.o 4 (O Y mx);have x5:=Aa af.o 5 (O Y mn);have bh:=Ho.o.ext aS.o;have bk:∀m,(Value.slice a5 n5 c5).ownBlock=I m->U0.heap.size<=m/\m<R:=fun m hm=>by
        have h1:=(Ho.o.lt m hm).2;have h2:=(Ho.o.lt m hm).1;have h3:=bC.o.size;have h4:=bI.o;omega
       have aT:=za bk;have bG:=za (HX.o.trans aS.o).size;have ch:IntKind.i64.wrap (n5:Int)=(n5:Int):=iW _ oM;(have ck:IntKind.i64.wrap (((n5+1:Nat):Int)-1)=(n5:Int):=by rw[show ((n5+1:Nat):Int)-1=(n5:Int) by omega];exact ch);(have bV:(out.map Vg).length=n5:=by rw[lL];exact aM.o);clear bk;go_wp2_with(at_builtin;(refine Mi (T:=97) (t:=44) (z:=Od #[O Y 0,O Y 0,O Y 0,O Y 0,O Y 0,O Y 0]) (k:=6) (bytes:=48) (base:=U0.heap.size) (v:=M a5 n5 c5) (cs:=out.map Vg) (m:=1) (c:=1) (ad:=⟨bo.heap.size,0,Z⟩) VK rfl dM dM Tryz.underlying44 rfl _ _ rfl rfl (bh.ext ((eR _).alloc _)) rfl [[O Y i,O Y k,O Y xh,O Y g,O Y mx,O Y mn]] rfl sM (by exact Mo bo #[O Y i,O Y k,O Y xh,O Y g,O Y mx,O Y mn] 97) (by simp[Value.oneCell']) oM (by have:=bG.o;simp only[wZ];omega) ?_);intro v' bf aD aH bj;obtain⟨a9,n9,c9,rfl⟩:=aD.i;have e9:n9=n5+1:=(by rw[aD.len,lA,bV];rfl);subst e9);obtain⟨g9,rfl,cb,cc⟩:=aD.blk sM;have ca:=Ya af.o;have bX:R≠g9:=by
        intro e;subst e;rcases bj with h|h
        ·have:=(aT.o R h.symm).2;omega
        ·have:=Option.some.inj h;simp only[wZ]at this;omega
       have bJ:bf.heap[R]?=I (A #[O Y i,O Y k,O Y xh,O Y g,O Y mx,O Y mn] 97 (0,0)):=(aH.block R (by simp only[wZ];omega) (fun e=>by have:=(aT.o R e.symm).2;omega)).trans (((eR bo).alloc _).e af.o);have bL:Ba U0 bf:=((HX.o.trans aS.o).alloc _).D (Yg (base:=U0.heap.size) aH (by have:=bG.o;simp only[wZ];omega) (fun m hm=>(aT.o m hm).1)) (nE _);have aX:Fe bf U0.heap.size (M (I ⟨g9,0,Z⟩) (n5+1) c9) (out++[⟨(i:Int),(k:Int),xh,g,mx,mn⟩]):=by
        unfold Fe;rw[List.map_append];exact aD
       (have bO:at'<=n5:=by rw[<-bD.o];exact(nz _ out n5 (by rw[aM.o];omega)).1);have HL:=za (And.intro bX (And.intro bJ (And.intro cb bO)));clear x0 x1 x2 x3 x4 x5 aD aH bj bX bJ cc ca bh bV bO;refine EN _ U0 bf s g9 U0.heap.size n5 at' c9 _ _ _ out ⟨(i:Int),(k:Int),xh,g,mx,mn⟩ _ ⟨rfl,rfl,rfl,rfl,rfl,rfl,rfl,rfl,rfl⟩ rfl HL.o.2.2.2 aM.o oM aX bL HL.o.2.2.1 (fun b9 b8 z hF aI bl bP=>?_);have aG:=bP R _ HL.o.1 HL.o.2.1;have hz:(out.take at'++z::out.drop at')[at']?=I z:=by
        rw[List.getElem?_append_right (by rw[List.length_take];omega),List.length_take,Nat.min_eq_left (by rw[aM.o];exact HL.o.2.2.2),Nat.sub_self];rfl
       obtain⟨g',e,-,zg,y0,y1,y2,y3,y4,y5,-⟩:=Fe.at aI hz;cases e;have hP:=Fe.put (y:=⟨(i:Int),(k:Int),xh,g,mx,mn⟩) aI hz;rw[WN (by rw[aM.o];exact HL.o.2.2.2)]at hP;have hI:Xh r (Se ps) i (Ib i p) (k+1)=out.take at'++⟨(i:Int),(k:Int),xh,g,mx,mn⟩::out.drop at':=by
        rw[bH.o];unfold Zg;rw[aM.o,bD.o]
       have bn:=za (And.intro hP (And.intro hI bl));have yf:∀i,b8.frozen? ⟨g9,i,Z⟩=false:=fun i=>aI.frozen i;have x0:=Aa aG 0 (O Y i);have x1:=Aa aG 1 (O Y k);have x2:=Aa aG 2 (O Y xh);have x3:=Aa aG 3 (O Y g);have x4:=Aa aG 4 (O Y mx);have x5:=Aa aG 5 (O Y mn);have q0:(0:Int)<=(at':Int):=oM;(have q1:(at':Int)<(n5:Int)+1:=by have:=HL.o.2.2.2;omega);(have q2:(at':Int)<((n5+1:Nat):Int):=by have:=HL.o.2.2.2;omega);clear hP hI bl aI hz aX bL bP aG;obtain⟨tt,dd⟩:=b9;obtain⟨f0,f2,f3,f5,f6,f7,ab,ac,aC⟩:=hF;dsimp only at f0 f2 f3 f5 f6 f7 ab ac  aC;subst aC;obtain⟨u,hu,ht⟩:=Qf tt 161 f0;simp only[hu]at f2 f3 f5 f6 f7 ab ac;clear hu f0;subst ht;simp only[List.range,List.range.loop,List.map_cons,List.map_nil,f2,f3,f5,f6,f7,ab,ac ];clear f2 f3 f5 f6 f7 ab ac;go_wp2;refine Handed.intro (n-(k+1)) oM (hJ _ _ _ ⟨k+1,_,_,_,by omega,rfl,Ux HL.o.2.2.1 (Vg ⟨(i:Int),(k:Int),xh,g,mx,mn⟩) (at'*6) bn.o.2.2,by rw[bn.o.2.1];exact bn.o.1,⟨rfl,rfl,rfl,rfl,rfl,?_,rfl,rfl,rfl⟩⟩);show (_:G)=_;go_num
 ·obtain rfl:k=n:=oM;have e:out=ij r (Se ps) (i+1):=by
   rw[<-L.o];have:=jL (r:=r) (yr a3.o);rw[ko,Hn.o]at this;exact this
  have E:=za e;clear e hJ hK;go_wp2;refine HQ.o _ _ _ _ _ ⟨rfl,rfl,rfl,rfl,rfl,rfl,rfl,rfl,rfl⟩ ?_ HX.o;rw[<-E.o];exact Ho.o
structure Ln (r:Ru) (L:List Jt) (rs:List Int) (last:Nat) (cn:List Nat) (k:Nat):Prop where
 top:cn.head?=I last
 low:cn.getLast?=I k
 fol:∀i a b,cn[i]?=I a->cn[i+1]?=I b->Pe r L a b=true
 all:∀x∈cn,x<L.length/\rs.getD x 0=rs.getD last 0
 fst:∀i a b,cn[i]?=I a->cn[i+1]?=I b->(∀y,y<b->Pe r L a y=true->rs.getD y 0≠rs.getD a 0)/\∀j,L[a]?=I j->j.fr≠rs.getD a 0
 high:∀j,j<last->Af L rs j<Af L rs last
 len:cn.length+k<=last+1
def Ln.snoc{r L rs last g k i}(h:Ln r L rs last g k)(p:Pe r L k i=true)(hi:i<L.length)(t:rs.getD i 0=rs.getD k 0)(q:i<k)(n:(∀y,y<i->Pe r L k y=true->rs.getD y 0≠rs.getD k 0)/\∀j,L[k]?=I j->j.fr≠rs.getD k 0):Ln r L rs last (g++[i]) i:=by
 have s:=h.all k (List.mem_of_getLast? h.low);refine⟨by rw[List.head?_append,h.top];rfl,by simp,fun j a b d c=>?_,fun x m=>?_,fun j a b d c=>?_,h.high,by have:=h.len;rw[lA,List.length_singleton];omega⟩
 ·have o:=(lS.1 c).1;rw[lA,List.length_singleton]at o;by_cases f:j+1<g.length
  ·rw[List.getElem?_append_left f]at c;rw[List.getElem?_append_left oM]at d;exact h.fol j a b d c
  ·have e:g.length=j+1:=oM;rw[List.getElem?_append_right oM,e,Nat.sub_self]at c;rw[List.getElem?_append_left oM]at d;have l:=h.low;rw[List.getLast?_eq_getElem?,e,Nat.add_sub_cancel,d]at l;cases l;cases c;exact p
 ·rcases List.mem_append.1 m with m|m
  ·exact h.all x m
  ·rw[List.mem_singleton.1 m];exact⟨hi,t.trans s.2⟩
 ·have o:=(lS.1 c).1;rw[lA,List.length_singleton]at o;by_cases f:j+1<g.length
  ·rw[List.getElem?_append_left f]at c;rw[List.getElem?_append_left oM]at d;exact h.fst j a b d c
  ·have e:g.length=j+1:=oM;rw[List.getElem?_append_right oM,e,Nat.sub_self]at c;rw[List.getElem?_append_left oM]at d;have l:=h.low;rw[List.getLast?_eq_getElem?,e,Nat.add_sub_cancel,d]at l;cases l;cases c;exact n
def iN(a:List Nat):List Int:=a.map fun x:Nat=>(x:Int)
end
section
open Go.RowKit Go.Shelf Go.Sort Go.Lib
def NW{r ps ks L rs}(h:il r ps ks L rs){j}(f:j∈L):j.fr<j.til:=by have c:=h.perm.mem_iff.1 f;unfold Fg at c;obtain⟨a,_,c⟩:=List.mem_flatMap.1 c;unfold xg at c;obtain⟨b,e,rfl⟩:=List.mem_map.1 c;have d:=(List.mem_filter.1 e).2;unfold Gd at d;simp only[Bool.and_eq_true,decide_eq_true_eq]at d;exact d.2.2.2.1
def Ln.up{r L rs last a k}(h:Ln r L rs last a k):(iN a).reverse.length=a.length/\(iN a).reverse[0]?=I (k:Int)/\(iN a).reverse[a.length-1]?=I (last:Int)/\0<a.length:=by
 have b:a≠[]:=fun e=>by have:=h.top;rw[e]at this;cases this
 have c:=List.length_pos_iff.2 b;refine⟨by simp[iN],?_,?_,c⟩
 ·rw[List.getElem?_reverse (by simpa[iN] using c)];have:=h.low;rw[List.getLast?_eq_getElem?]at this;simp only[iN,lL,lP];rw[show a.length-1-0=a.length-1 by omega,this];rfl
 ·rw[List.getElem?_reverse (by simp only[iN,lL];omega)];have:=h.top;rw[List.head?_eq_getElem?]at this;simp only[iN,lL,lP];rw[show a.length-1-(a.length-1)=0 by omega,this];rfl
def Ln.at{r L rs last a k}(h:Ln r L rs last a k){i}(hi:i<a.length):∃x:Nat,(iN a).reverse[i]?=I (x:Int)/\x<L.length/\(0<i->∃y:Nat,(iN a).reverse[i-1]?=I (y:Int)/\y<L.length/\Pe r L x y=true):=by
 have e:∀j,j<a.length->(iN a).reverse[j]?=(a[a.length-1-j]?).map fun x:Nat=>(x:Int):=fun j d=>by
  rw[List.getElem?_reverse (by simpa[iN] using d)];simp only[iN,lL,lP]
 obtain⟨x,b⟩:∃x,a[a.length-1-i]?=I x:=⟨_,gE oM⟩;refine⟨x,by rw[e i hi,b];rfl,(h.all x (lM b)).1,fun f=>?_⟩;obtain⟨y,c⟩:∃y,a[a.length-1-(i-1)]?=I y:=⟨_,gE oM⟩;refine⟨y,by rw[e (i-1) oM,c];rfl,(h.all y (lM c)).1,h.fol (a.length-1-i) x y b (by rw[show a.length-1-i+1=a.length-1-(i-1) by omega];exact c)⟩
def gj.ints{T w v l}(h:gj T w v l):Mc T w v l:=by
 obtain⟨a,f,g,b,d⟩:=h;have e:a=l.map ic:=by
  refine List.ext_getElem? fun i=>?_;rw[lP];cases hl:l[i]? with
  |none=>
   rw[List.getElem?_eq_none_iff]at hl;rw[List.getElem?_eq_none oM];rfl
  | some z =>
   have j:=(lS.1 hl).1;have c:a[i]?=I (a[i]' oM):=gE oM;rw[c,d i _ z c hl];rfl
 rw[e,Ar]at b;exact b
def UW{P T T' t} ty{w base v sl xs n}(q:(P.info? T).map (fun i=>(i.zero,i.size,i.bytes))=I (I (O Y 0),1,8))(ht:P.underlying t=I (.slice T))(d:Cb T w base v xs)(f:Mc T' w sl n)(ag:xs.length+n.length<=1000000000000)(l:base<=w.heap.size):∃v' w',(Builtin.append_ #[t,t] ty #[v,sl]).run P w = .ok v' w'/\Cb T w' base v' (xs++n)/\Below base w w'/\vd T w w':=by
 obtain⟨i,hi,ac,ae,af⟩:=info_parts q;obtain⟨K,c,rfl⟩:=f.form;rcases K with _|K
 ·have h0:n=[]:=by
   by_cases h:0<n.length
   ·obtain⟨b,o,e,_⟩:=f.open h;cases e
   ·exact List.eq_nil_of_length_eq_zero oM
  subst h0;have hc:c=0:=by
   obtain⟨_,a,c,e,_,_,L⟩:=f;cases e;rcases L with L|⟨b,o,cs,fr,e,_⟩
   ·exact L.2 rfl
   ·cases e
  subst hc;exact⟨v,w,run_append_owned_none (P:=P) (w:=w) base t ty T i 1 ht hi v xs.length (nc Y xs) d,by simpa using d,Below.refl _ _,fun _ _ p _=>p⟩
 ·have s:∀(j:Nat) u,(nc Y n)[j]?=I u->w.cell? (K.add j)=I u:=by
   intro j u R;have r:0<n.length:=by have:=(lS.1 R).1;simp at this;omega
   obtain⟨b',o',e,hb,aa⟩:=f.open r;cases e;simp only[nc,lP,Option.map_eq_some_iff]at R;obtain⟨x,ab,rfl⟩:=R;have:=aa j x ab;unfold Addr.add;split
   ·subst j;simpa using this
   ·exact this
  obtain⟨v',w',z,y,m,_⟩:=run_append_own (P:=P) w base t ty T i (O Y 0) 1 8 ht hi ac ae af rfl dM v xs.length (nc Y xs) d K n.length c (nc Y n) sM
   s (ints_oneCell Y n) (by unfold maxLen;omega) oM l
  refine⟨v',w',z,?_,?_,?_⟩
  ·unfold Cb;rw[<-Et,lA];exact y
  ·exact(Below.refl _ w).grown m l (fun k p=>(World.ownsRow.lt d k p).1)
  ·intro k ob p W;have r:=Ya p;rw[m.block k r ?_]
   ·exact p
   ·intro e;rcases d.2 with ⟨h1,_⟩|⟨g,cap,cur,hv,_,hh,_⟩
    ·rw[h1]at e;cases e
    ·rw[hv]at e;cases e;rw[hh]at p;cases p;exact W _ _ rfl
def AW{P T T' t w base v sl xs k ops o a K Q E}(c:(P.info? T).map (fun i=>(i.zero,i.size,i.bytes))=I (I (O Y 0),1,8))(q:P.underlying t=I (.slice T))(j:o.guard=Z) s x(n:o.op = .call { callee:=.builtin .append,args:=#[s,x],argTypes:=#[t,t] })(p:a.eval s=v)(e:Cb T w base v xs)
  (u:a.eval x=sl)(g:Mc T' w sl k)(d:xs.length+k.length<=1000000000000)(b:base<=w.heap.size)
  (h:∀v' w',Cb T w' base v' (xs++k)->Below base w w'->K (a.put o.dst v') w') :
  if Region.wanted o (yielded ops a.tmps)=true then Oper.wp P o a w K Q else E:=by
 have r:Region.wanted o (yielded ops a.tmps)=true:=by simp[Region.wanted,j]
 rw[if_pos r];obtain⟨v',w',f,l,m,y⟩:=UW (P:=P) o.type c q e g d b;unfold Oper.wp;simp[execOp,n,resolve,invoke,builtin,p,u,f,Result.andThen];exact h v' w' l m
def xq(z:Int):Prop:=-9223372036854775808<=z/\z<=9223372036854775807
def RW{l:List Int}(h:∀z∈l,xq z) k:-9223372036854775808<=l.getD k 0/\l.getD k 0<=9223372036854775807:=by
 rw[gD];cases hk:l[k]? with
 | none=>simp
 | some z=>exact h z (lM hk)
def OW r ps:∃(c:List (JS×G))(L:List Jt)(rs:List Int),il r ps c L rs:=by obtain⟨b,a⟩:=AD (Fg r (Kb r ps)) [] List.Pairwise.nil;rw[List.nil_append]at a;exact⟨(Kb r ps).map fun j=>(j,undef),_,_,by rw[List.map_map];exact List.map_id' _,a,b,rfl⟩
def WW{g ps r}(y:gh g ps r=0){ks L rs}(i:il r ps ks L rs) ro(t:∀z∈ro,xq z):∃b,(∀(W:N)(k l c:G),Ia W k g->ld W l ps->Gw W->Ud W c ro->Calls Tryz.prog 18 #[Od #[k,l],Od (Uf r),c] W fun e d=>e=.returned (Ob b)/\Ba W d)/\∀(W:N)(v m:G)(T:TypeId),pk W v L->gj T W m ro->Calls Tryz.prog 19 #[Od (Uf r),v,m] W fun e d=>e=.returned (Ob b)/\Ba W d:=by
 obtain⟨R,s,aa⟩:=Qx y;have f:=XA (No R).1 (No R).2.1 i;obtain⟨b,K⟩:∃b:Bool,b=true ↔ (ro.length=L.length/\Hh r L ro):=by
  rcases Classical.em (ro.length=L.length/\Hh r L ro)with h|h
  ·exact⟨true,fun _=>h,fun _=>rfl⟩
  ·exact⟨false,fun n=>(by cases n),fun n=>absurd n h⟩
 refine⟨b,fun W k l c hg hp o hv=>?_,fun W v m T hv u=>?_⟩
 ·refine(IW W k l c g ps r ro hg hp o hv).mono ?_;rintro e d ⟨w,⟨q,_⟩|⟨_,ab,L',ac,b',x,rfl,a⟩⟩
  ·exact absurd y q
  ·have e1:L'=L:=by rw[<-Cx x,Cx i]
   subst e1;exact⟨by rw[Bool.eq_iff_iff.2 (a.trans K.symm)],w⟩
 ·refine(YW W v m r L ro T hv u f.jts (by have:=f.len;omega)).mono ?_;rintro e d ⟨b',rfl,a,w⟩;have hi:=QW (r:=r) (L:=L) (ro:=ro) i.ord ⟨s,by omega⟩ (fun j p=>⟨(f.jts j p).2.2.2.2.1,(f.jts j p).2.2.2.2.2,NW i p⟩) (RW t);rw[hi]at a;exact⟨by rw[Bool.eq_iff_iff.2 (a.trans K.symm)],w⟩
end
section
open Go.RowKit Go.Shelf Go.Sort Go.Lib
attribute [local go_sem] Oper.semAt_some
def UA(b:N)(s n:Nat)(r:Ru)(ps:List Pl)(c:Nat)(a:Act)(W:N):Prop:=
 ∃i v5 v7 v16 v17,i<=n/\c=n-i/\Ba b W/\Fe W b.heap.size v5 (ij r (Se ps) i)/\FJ s v5 (O Y i) v7 v16 v17 a
def Ip(w:N)(L:List Jt)(e:Ending)(w':N):Prop:=∃v base,e=.returned v/\Fe w' base v L/\w.heap.size<=base/\Ba w w'
def FS w vg vp ps r(hg:∃a n c,vg=M a n c)(hp:Cf w vp ps)(ab:∀p∈ps,Fa p=true)(L:ps.length<=120):Calls Tryz.prog 16 #[Od #[vg,vp],Od (Uf r)] w (Ip w (ij r (Se ps) (Se ps).length)):=by
 obtain⟨ga,gn,gc,rfl⟩:=hg;have HP:=za hp;have ad:=za ab;obtain⟨pa,t,rfl⟩:=hp.form;obtain⟨n,hn⟩:=gX ps.length;rw[ko,hn];rw[hn]at L HP;have Hn:=za hn;obtain⟨R,hR⟩:=gX (Ip w (ij r (Se ps) n));rw[hR];have HR:=za hR;clear hp ab hn hR;unfold Uf;go_in;go_wp2;obtain⟨y,f⟩:=gX (((w.alloc (A #[M ga gn gc,M pa n t] 25)).alloc (A #[O .u8 r.skin,O Y r.pin,O Y r.wide,O Y r.lap,O Y r.step,O Y r.run,O Y r.level] 27)));have X1:Ba w y:=by rw[<-f];exact((eR _).alloc _).alloc _
 have K2:y.heap[w.heap.size]?=I (A #[M ga gn gc,M pa n t] 25 (0,0)):=by rw[<-f];exact((eR _).alloc _).e (aN w _)
 have j:y.heap[w.heap.size+1]?=I (A #[O .u8 r.skin,O Y r.pin,O Y r.wide,O Y r.lap,O Y r.step,O Y r.run,O Y r.level] 27 (0,0)):=by rw[<-f];exact mc _ _ _ sM
 obtain⟨s,hs⟩:=gX w.heap.size;rw[f];simp only[hs]at K2 j ⊢;have HC:Ua (Da [(⟨s,0,Z⟩,M ga gn gc),(⟨s,1,Z⟩,M pa n t),(⟨s+1,0,Z⟩,O .u8 r.skin),(⟨s+1,1,Z⟩,O Y r.pin),(⟨s+1,2,Z⟩,O Y r.wide),(⟨s+1,3,Z⟩,O Y r.lap),(⟨s+1,4,Z⟩,O Y r.step),(⟨s+1,5,Z⟩,O Y r.run),(⟨s+1,6,Z⟩,O Y r.level)] y):=za ⟨Lb K2 (i:=0) rfl,Lb K2 (i:=1) rfl,Lb j (i:=0) rfl,Lb j (i:=1) rfl,Lb j (i:=2) rfl,Lb j (i:=3) rfl,Lb j (i:=4) rfl,Lb j (i:=5) rfl,Lb j (i:=6) rfl,trivial⟩;have z:=za X1;have ae:=za (HP.o.f X1);clear f X1 K2 j hs;refine wp_loop_ghost_k (UA y s n r ps) n ⟨0,_,_,_,_,Nat.zero_le _,rfl,eR _,by unfold ij qi;simp;exact Ea.nil _ _ _ _,⟨rfl,rfl,rfl,rfl,rfl,rfl,rfl,rfl,rfl⟩⟩ ?round;intro gk aa wr hinv;obtain⟨i,v5,v7,am,an,hi,ah,hx,ho,hF⟩:=hinv;subst ah;have HX:=za hx;have Ho:=za ho;obtain⟨-,c1,-⟩:=cE HC.o hx;clear hx ho;obtain⟨tt,dd⟩:=aa;obtain⟨x,k,l,m,o,q,b,e,g⟩:=hF;dsimp only at x k l m o q b e  g;subst g;obtain⟨u,hu,ht⟩:=Qf tt 161 x;simp only[hu]at k l m o q b e;clear hu x;subst ht;simp only[List.range,List.range.loop,List.map_cons,List.map_nil,k,l,m,o,q,b,e ];clear k l m o q b e;intro J K hJ hK;by_cases ai:i<n
 ·obtain⟨p,aj⟩:∃p,ps[i]?=I p:=⟨_,gE (by rw[Hn.o];exact ai)⟩;have e0:(i:Int)<(n:Int):=oM;go_wp2;refine TH _ y wr s n t gn gc i ga pa v5 _ _ r ps p _ ⟨rfl,rfl,rfl,rfl,rfl,rfl,rfl,rfl,rfl⟩ aj Hn.o L HX.o Ho.o HC ae ad (fun c a d v w h=>by cases d<;>exact h) (fun a' W' u5 ak al hF W ac=>?_);have af:=za ac;have ag:=za W;clear ac W c1;obtain⟨tt,dd⟩:=a';obtain⟨x,k,l,m,o,q,b,e,g⟩:=hF;dsimp only at x k l m o q b e  g;subst g;obtain⟨u,hu,ht⟩:=Qf tt 161 x;simp only[hu]at k l m o q b e;clear hu x;subst ht;simp only[List.range,List.range.loop,List.map_cons,List.map_nil,k,l,m,o,q,b,e ];clear k l m o q b e;go_wp2;refine Handed.intro (n-(i+1)) oM (hJ _ _ _ ⟨i+1,_,_,_,_,by omega,rfl,af.o,ag.o,⟨rfl,rfl,rfl,rfl,?_,rfl,rfl,rfl,rfl⟩⟩);show (_:G)=_;go_num
 ·obtain rfl:i=n:=oM;clear hJ hK;go_wp2;rw[<-HR.o];exact⟨_,_,rfl,Ho.o,z.o.size,z.o.trans HX.o⟩
def WQ{g ps r}:gh g ps r=if Eb g ps=0 then (if uh r=true then 0 else 2)else Eb g ps:=by
 unfold gh;split
 ·have h:=lO r;by_cases a:Cc r=0
  ·rw[a]at h;rw[h,a];rfl
  ·have b:Cc r=2:=by
    unfold Cc at a ⊢
    repeat' split
    all_goals first|rfl|(exfalso;apply a;simp_all)
   have c:uh r=false:=by rw[h];simpa using a
   rw[c,b];rfl
 ·rfl
def UQ w K L g ps r(x:Ab w K g)(z:Cf w L ps)(t:∀p∈ps,p.name.size<=1000000)(hl:g.length<=1000000):Calls Tryz.prog 14 #[Od #[K,L],Od (Uf r)] w fun e w'=>e=.returned (O Y (gh g ps r))/\Ba w w':=by
 have a:=za (fun W (R:Ba w W)=>lR W K L g ps (x.f R) (z.f R) t hl);have d:=za (fun W=>iR W r);obtain⟨ga,gn,gc,rfl⟩:=x.i;obtain⟨pa,ae,rfl⟩:=z.form;obtain⟨n,hn⟩:=gX ps.length;rw[hn]at a ⊢;have f:=WQ (g:=g) (ps:=ps) (r:=r);obtain⟨E,m⟩:=gX (gh g ps r);obtain⟨k,y⟩:=gX (Eb g ps);obtain⟨b,v⟩:=gX (uh r);rw[m,y,v]at f;rw[m];rw[y]at a;rw[v]at d;clear x z t hl hn m y v;unfold Uf at d ⊢;by_cases u:k=0
 ·subst u;rw[if_pos rfl]at f;cases b with
  |false=>
   rw[if_neg dM]at f;subst f;go_in;go_wp2_with(first|(go_at_call 21;refine cM (a.o _ eA) ?_;rintro e w1 ⟨rfl,c⟩;obtain⟨⟨q,s⟩,j,l⟩:=Nb w c)|(go_at_call 13;refine cM (d.o _) ?_;rintro e w2 ⟨rfl,o⟩));go_ret;exact⟨rfl,eA⟩
  |true=>
   rw[if_pos rfl]at f;subst f;go_in;go_wp2_with(first|(go_at_call 21;refine cM (a.o _ eA) ?_;rintro e w1 ⟨rfl,c⟩;obtain⟨⟨q,s⟩,j,l⟩:=Nb w c)|(go_at_call 13;refine cM (d.o _) ?_;rintro e w2 ⟨rfl,o⟩));go_ret;exact⟨rfl,eA⟩
 ·rw[if_neg u]at f;subst f;have e0:(E != 0)=true:=by simpa using u
  have i:True:=trivial;go_in;go_wp2_with(first|(go_at_call 21;have _t:=i;(with_reducible refine(a.o _ ?_).mono ?_);exact eA;rintro e w1 ⟨rfl,c⟩;obtain⟨⟨q,s⟩,j,l⟩:=Nb w c;clear i)|(go_at_call 21;(with_reducible refine(a.o _ ?_).mono ?_);exact eA;rintro e w2 ⟨rfl,o⟩;obtain⟨⟨ac,ad⟩,aa,ab⟩:=Nb w o));go_ret;exact⟨rfl,eA⟩
def iI{g ps}(h:Ji g ps=true):∀p∈ps,p.name.size<=1000000:=by unfold Ji at h;simp only[Bool.and_eq_true,Bool.not_eq_true',List.any_eq_false,decide_eq_true_eq]at h;intro p a;have:=h.1 p a;unfold Gi at this;simp at this;omega
def Fe.gj'{w base v l}(h:Fe w base v l):pk w v l:=
 Ea.sl h sM (fun i c x a b=>by
  rw[lP,b]at a;cases a;rfl)
def Cb.is'{w base v l}(h:Cb 3 w base v l):Ud w v l:=
 Ea.is (base:=base) ⟨ms,by rw[Ar,lL];exact h⟩
def fX{r L}(a:∀j∈L,Fh j):∀z∈Wa r L L.length,xq z:=fun z b=>by
 have:=zv (r:=r) a L.length z b;unfold Bd at this;unfold xq;omega
def KW w vg vp bz g ps r own ro bh s T(hg:Ab w vg g)(hp:Cf w vp ps)(a5:Gw w)(be:gj T w bz ro)(bv:∀z∈ro,xq z)(aF:0<=bh/\bh<256):Calls Tryz.prog 4 #[Od #[vg,vp],Od (Uf r),Ob own,bz,O .u8 bh,O Y s] w fun e w'=>e=.returned (Ob true)/\Ba w w':=by
 have HF:=za (fun(W:N)(hW:Ba w W)=>vL W vg vp g ps (hg.f hW) (hp.f hW));have HW:=za (fun(hf:Ji g ps=true)(W:N)(hW:Ba w W)=>CO W vg vp g ps (hg.f hW) (hp.f hW) (ov hf).1 (by have:=(ov hf).2.1;omega) (ov hf).2.2);have ak:=za (fun(hf:Ji g ps=true)(W:N)(hW:Ba w W)=>UQ W vg vp g ps r (hg.f hW) (hp.f hW) (iI hf) (by have:=(ov hf).1;omega));have aj:=za (fun(h0:Eb g ps=0)(W:N)(hW:Ba w W)=>FS W vg vp ps r (by obtain⟨a,n,c,e⟩:=hg.i;exact⟨a,n,c,e⟩) (hp.f hW) (No h0).1 (No h0).2.1);have HA:=za (fun(W:N)(hW:Ba w W)=>qQ W (a5.ext hW));have ax:=za (fun(W:N)(v:G)(L:List Jt)=>lG W v r L);have az:=za (fun(bN:gh g ps r≠0)(W:N)(v1 v2 v3:G)(h1:Ia W v1 g)(h2:ld W v2 ps)(h3:Gw W)(h4:Ud W v3 ro)=>(IW W v1 v2 v3 g ps r ro h1 h2 h3 h4).mono (R':=fun e w'=>e=.returned (Ob false)/\Ba W w') fun e w' ⟨hx,h⟩=>⟨(h.resolve_right fun h9=>bN h9.1).2,hx⟩);have ay:=za (fun(h0:gh g ps r=0)(ks:List (JS×G))(L:List Jt)(rs:List Int)(sv:il r ps ks L rs)=>WW h0 sv);have HB:=za (fun(h0:gh g ps r=0)(ks:List (JS×G))(L:List Jt)(rs:List Int)(sv:il r ps ks L rs)=>XA (No (Qx h0).1).1 (No (Qx h0).1).2.1 sv);have aJ:=za a5;have HO:=za be;have bF:=za bv;obtain⟨ga,gc,rfl⟩:=hg.form;obtain⟨pa,aH,rfl⟩:=hp.form;obtain⟨ra,rc,rfl⟩:=be.form;obtain⟨gn,a3⟩:=gX g.length;obtain⟨pn,a7⟩:=gX ps.length;obtain⟨rn,aQ⟩:=gX ro.length;rw[a3,a7]at HF HW ak aj;rw[a3,a7,aQ];rw[aQ]at HO;have bo:=za aQ;obtain⟨ks,L,rs,sv⟩:=OW r ps;have HS:=za sv;have a2:=aj.o;rw[Cx sv]at a2;have aj:=za a2;clear hg hp a5 a3 a7 aQ be bv a2 sv;obtain⟨sk,am,aa,al,step,an,o⟩:=r;unfold Uf at ak aj ax az ay ⊢;dsimp only at ak aj ax az ay ⊢;by_cases aG:Ji g ps=false\/(Ji g ps=true/\30<rn)
 ·clear HW ak aj ax az ay HB;obtain⟨bO,br⟩:=gX (Ji g ps);rw[br]at HF aG;clear br;rcases aG with rfl|⟨rfl,bL⟩
  all_goals
   go_in
   try(have bx:(30:Int)<(rn:Int):=oM)
   go_wp2_with(first|(go_at_call 8;refine cM (HF.o _ eA) ?_;rintro e w1 ⟨rfl,bf⟩;have X1:Ba w w1:=eA)|(go_at_call 9;refine cM (HA.o _ X1) ?_;rintro e w2 ⟨rfl,aR⟩));go_ret;exact⟨rfl,X1.trans aR⟩
 have ao:Ji g ps=true:=by
  cases h:Ji g ps
  ·exact absurd (.inl h) aG
  ·rfl
 have bQ:rn<=30:=by
  rcases Nat.lt_or_ge 30 rn with h|h
  ·exact absurd (.inr ⟨ao,h⟩) aG
  ·exact h
 rw[ao]at HF;have aK:=za (HW.o ao);have aC:=za (ak.o ao);clear aG ao HW ak;obtain⟨E,hE⟩:=gX (gh g ps ⟨sk,am,aa,al,step,an,o⟩);have HE:=za hE;rw[hE]at aC;have ak:=aC;clear hE aC;have bx:¬(30:Int)<(rn:Int):=oM;go_in;go_upto_region 3 with (go_at_call 8;refine cM (HF.o _ eA) ?_;rintro e w1 ⟨rfl,bf⟩;have X1:Ba w w1:=eA;obtain⟨⟨bI,bJ⟩,bA,bB⟩:=Nb w bf);have C1:Da [(⟨w.heap.size,0,Z⟩,M ga gn gc),(⟨w.heap.size,1,Z⟩,M pa pn aH),(⟨w.heap.size+1,0,Z⟩,O .u8 sk),(⟨w.heap.size+1,1,Z⟩,O Y am),(⟨w.heap.size+1,2,Z⟩,O Y aa),(⟨w.heap.size+1,3,Z⟩,O Y al),(⟨w.heap.size+1,4,Z⟩,O Y step),(⟨w.heap.size+1,5,Z⟩,O Y an),(⟨w.heap.size+1,6,Z⟩,O Y o)] w1:=by
  refine⟨?_,?_,?_,?_,?_,?_,?_,?_,?_,trivial⟩<;>go_simp
 have HC:=za C1;have k:=za X1;have bm:=za (HO.o.f X1);clear bf bI bJ bA bB C1 X1 HF HO bx;obtain⟨s0,s1,r0,r1,r2,r3,r4,r5,r6,-⟩:=cE HC.o (eR _);by_cases h0:E=0;rotate_left 1
 ·have e0:(E==0)=false:=by simpa using h0
  have ar:=za (az.o (by rw[HE.o];exact h0));clear h0 az ay HB aj ax HS;go_upto_region 4 with (go_at_call 14;refine cM (ak.o _ (k.o)) ?_;rintro e w9 ⟨rfl,ah⟩);have l:=za ah;have ag:=za (bm.o.f ah);have av:=za (show ro.length<=1000000 by rw[bo.o];omega);clear ah;go_upto_region 11 with fail;clear s0 s1 r0 r1 r2 r3 r4 r5 r6;have q:=za (l.o.drew);refine jd [(⟨w.heap.size,0,Z⟩,M ga gn gc),(⟨w.heap.size,1,Z⟩,M pa pn aH),(⟨w.heap.size+1,0,Z⟩,O .u8 sk),(⟨w.heap.size+1,1,Z⟩,O Y am),(⟨w.heap.size+1,2,Z⟩,O Y aa),(⟨w.heap.size+1,3,Z⟩,O Y al),(⟨w.heap.size+1,4,Z⟩,O Y step),(⟨w.heap.size+1,5,Z⟩,O Y an),(⟨w.heap.size+1,6,Z⟩,O Y o)] (cE HC.o q.o) fun b=>?_;refine La (i:=0) ?_;refine sN 2 ?_
  iterate 2 refine Db ?_
  refine oN ?_;refine La (i:=6) ?_;refine Ac (i:=1) (aK.o _ (k.o.trans q.o)) ?_;rintro e w3 ⟨bk,bl,rfl,t,u,y⟩;obtain⟨⟨aU,aW,aV,rfl⟩,bg,bj,bi,rfl⟩:=And.intro (Ma t) (Ma u.pls);refine⟨_,rfl,(cE b y),fun b=>?_⟩;have X3:Ba w9 w3:=(eR w9).drew.trans y;refine Te (i:=4) fun K hK=>?_;refine AW Ek Tryz.underlying47 rfl _ _ rfl rfl (Cb.nil _ _ w3.heap.size) rfl (gj.ints (ag.o.f X3)) (by simp only[List.length_nil];have:=av.o;omega) (nE _) ?_;intro v4 w4 d j;have f:Ba w3 w4:=j;refine kO hK (cE b f) (fun b=>?_);clear hK K;rw[List.nil_append]at d;obtain⟨a4,c4,rfl⟩:=d.form;refine Ac (i:=5) (ar.o w4 _ _ _ (t.f f) (u.pls.f f) (aJ.o.ext (k.o.trans (l.o.trans (X3.trans f)))) d.is') ?_;rintro e w5 ⟨rfl,R⟩;refine⟨_,rfl,(cE b R),fun b=>?_⟩;have X5:Ba w9 w5:=X3.trans (f.trans R);have ab:=za X5;clear t u X3 y f R X5 d j;refine La (i:=7) ?_;refine Pa (i:=8) ?_;refine Pa (i:=9) ?_;refine Pa (i:=10) ?_;refine Pa (i:=11) ?_;have ad:=za ab.o;refine sN 12 ?_
  iterate 3 refine Db ?_
  refine oN ?_;refine Ac (i:=15) (HA.o _ (k.o.trans (l.o.trans ad.o))) ?_;rintro e w7 ⟨rfl,af⟩;refine⟨_,rfl,(cE b af),fun b=>?_⟩;refine sN 16 ?_
  iterate 2 refine Db ?_
  refine oN ?_;refine Pb ?_;go_wp2;go_ret;exact⟨rfl,k.o.trans (l.o.trans (ad.o.trans af))⟩
 ·subst h0;have aX:=HB.o HE.o ks L rs HS.o;have aI:=za aX;have ai:=za (ay.o HE.o ks L rs HS.o);have aw:=za (aj.o (Qx HE.o).1);have aT:=za (fX (r:=⟨sk,am,aa,al,step,an,o⟩) aX.jts);clear aX az ay HB aj;go_upto_region 4 with (go_at_call 14;refine cM (ak.o _ (k.o)) ?_;rintro e w2 ⟨rfl,aR⟩);have au:=za aR;clear aR;clear s0 s1 r0 r1 r2 r3 r4 r5 r6;obtain⟨s0,s1,r0,r1,r2,r3,r4,r5,r6,-⟩:=cE HC.o (au.o);cases own with
  |true=>
   go_upto_region 11 with (go_at_call 16;refine cM (aw.o _ (k.o.trans au.o)) ?_;rintro e w9 ⟨v9,base,rfl,ac,-,ah⟩;obtain⟨ba,bn,bc,a0⟩:=Ea.i ac;subst a0);have l:=za (au.o.trans ah);have Ho:=za ac.gj';have ag:=za (bm.o.f l.o);have av:=za (show ro.length<=1000000 by rw[bo.o];omega);obtain⟨b0,ap,aq⟩:=ai.o ro bF.o;have ar:=za ap;have aB:=za aq;clear ah ac ap aq ai aw;clear s0 s1 r0 r1 r2 r3 r4 r5 r6;have q:=za (l.o.drew);refine jd [(⟨w.heap.size,0,Z⟩,M ga gn gc),(⟨w.heap.size,1,Z⟩,M pa pn aH),(⟨w.heap.size+1,0,Z⟩,O .u8 sk),(⟨w.heap.size+1,1,Z⟩,O Y am),(⟨w.heap.size+1,2,Z⟩,O Y aa),(⟨w.heap.size+1,3,Z⟩,O Y al),(⟨w.heap.size+1,4,Z⟩,O Y step),(⟨w.heap.size+1,5,Z⟩,O Y an),(⟨w.heap.size+1,6,Z⟩,O Y o)] (cE HC.o q.o) fun b=>?_;refine La (i:=0) ?_;refine sN 2 ?_
   iterate 2 refine Db ?_
   refine oN ?_;refine La (i:=6) ?_;refine Ac (i:=1) (aK.o _ (k.o.trans q.o)) ?_;rintro e w3 ⟨bk,bl,rfl,t,u,y⟩;obtain⟨⟨aU,aW,aV,rfl⟩,bg,bj,bi,rfl⟩:=And.intro (Ma t) (Ma u.pls);refine⟨_,rfl,(cE b y),fun b=>?_⟩;have X3:Ba w9 w3:=(eR w9).drew.trans y;refine Te (i:=4) fun K hK=>?_;refine AW Ek Tryz.underlying47 rfl _ _ rfl rfl (Cb.nil _ _ w3.heap.size) rfl (gj.ints (ag.o.f X3)) (by simp only[List.length_nil];have:=av.o;omega) (nE _) ?_;intro v4 w4 d j;have f:Ba w3 w4:=j;refine kO hK (cE b f) (fun b=>?_);clear hK K;rw[List.nil_append]at d;obtain⟨a4,c4,rfl⟩:=d.form;refine Ac (i:=5) (ar.o w4 _ _ _ (t.f f) (u.pls.f f) (aJ.o.ext (k.o.trans (l.o.trans (X3.trans f)))) d.is') ?_;rintro e w5 ⟨rfl,R⟩;refine⟨_,rfl,(cE b R),fun b=>?_⟩;have X5:Ba w9 w5:=X3.trans (f.trans R);have ab:=za X5;clear t u X3 y f R X5 d j;refine La (i:=7) ?_;refine La (i:=8) ?_;refine La (i:=9) ?_;refine La (i:=10) ?_;refine Ac (i:=11) (aB.o w5 _ _ _ (Ho.o.f ab.o) (ag.o.f ab.o)) ?_;rintro e w6 ⟨rfl,ae⟩;refine⟨_,rfl,(cE b ae),fun b=>?_⟩;have ad:=za (ab.o.trans ae);clear ae;refine sN 12 ?_
   iterate 3 refine Db ?_
   refine oN ?_;refine Ac (i:=15) (HA.o _ (k.o.trans (l.o.trans ad.o))) ?_;rintro e w7 ⟨rfl,af⟩;refine⟨_,rfl,(cE b af),fun b=>?_⟩;refine sN 16 ?_
   iterate 2 refine Db ?_
   refine oN ?_;refine Pb ?_;go_wp2;go_ret;exact⟨rfl,k.o.trans (l.o.trans (ad.o.trans af))⟩
  |false=>
   obtain⟨q9,a8⟩:=gX (Wa ⟨sk,am,aa,al,step,an,o⟩ L L.length);have aA:=za (fun(W:N)(v:G)(h:pk W v L)=>ax.o W v L h aI.o.jts (by have:=aI.o.len;omega));have bu:q9.length<=14400:=by rw[<-a8,Tn];exact aI.o.len
   have bb:=zv (r:=⟨sk,am,aa,al,step,an,o⟩) aI.o.jts L.length;rw[a8]at aA aT bb;obtain⟨n9,bt⟩:=gX q9.length;have bE:=za bb;have aO:=za bu;have aD:=za bt;clear a8 ax bu bb bt;go_upto_region 9 with (first|(go_at_call 16;refine cM (aw.o _ (k.o.trans au.o)) ?_;rintro e w8 ⟨v8,base,rfl,aP,-,aS⟩;obtain⟨ba,bn,bc,a0⟩:=Ea.i aP;subst a0;obtain⟨s0,s1,r0,r1,r2,r3,r4,r5,r6,-⟩:=cE HC.o (au.o.trans aS))|(go_at_call 17;refine cM (aA.o _ _ aP.gj') ?_;rintro e w9 ⟨v9,aE,rfl,ac,bH,ah⟩;obtain⟨a9,c9,rfl⟩:=ac.form));rw[aD.o]at ac ⊢;have aM:=za (aP.gj'.f ah);have aL:=za (au.o.trans (aS.trans ah));have bG:w1.heap.size<=aE:=nT (au.o.trans aS).size bH;clear aP aS ah aA aw;by_cases hm:0<n9/\ -10000<s/\s<10000
   ·obtain⟨m1,m2,m3⟩:=hm;obtain⟨p,rfl⟩:=Int.eq_ofNat_of_zero_le aF.1;have k1:(0:Int)<(n9:Int):=oM;(have k2:((n9:Int)==0)=false:=by simp;omega);have k3:¬(n9:Int)=0:=oM;have bU:wrap64 (p:Int)=p:=IntWalk.wrap64_in _ ⟨by omega,by have:=aF.2;omega⟩;have bV:IntKind.i64.wrap (p:Int)=p:=iW _ ⟨by omega,by have:=aF.2;omega⟩;have k4:Int.tmod (p:Int) (n9:Int)=((p%n9:Nat):Int):=rfl;obtain⟨m,a6⟩:=gX (p%n9);(have bM:m<n9:=by rw[<-a6];exact Nat.mod_lt _ m1);rw[a6]at k4;have k5:IntKind.i64.wrap ((m:Nat):Int)=m:=iW _ ⟨by have:=aO.o;have:=aD.o;omega,by have:=aO.o;have:=aD.o;omega⟩;have k7:(0:Int)<=(m:Int):=oM;have k8:(m:Int)<(n9:Int):=oM;obtain⟨x,hx⟩:∃x,q9[m]?=I x:=⟨_,gE (by rw[aD.o];exact bM)⟩;have a1:=bE.o x (lM hx);unfold Bd at a1;have k9:IntKind.i64.wrap (x+s)=x+s:=iW _ ⟨by omega,by omega⟩;have bT:wrap64 (x+s)=x+s:=IntWalk.wrap64_in _ ⟨by omega,by omega⟩;obtain⟨g9,rfl,bK,cur,bs⟩:∃g,a9=I ⟨g,0,Z⟩/\aE<=g/\∃cur,w9.heap[g]?=I (A cur 3 (0,0)):=by
     obtain⟨bP,h9|⟨g,cap,cur,hv,hg,hh,-⟩⟩:=ac
     ·exfalso;have:=h9.2;have:=aD.o;omega
     ·cases hv;exact⟨_,rfl,hg,cur,hh⟩
    have y1:=ac.cell hx;have y2:=ac.frozen m;have bw:=ac.stored m (x+s);have bp:=za bw;have bC:=za bs;have bD:=za (nT bG bK);have Hk:=za (And.intro a1 (And.intro m2 m3));clear bw ac hx a6 a1 aF bs;go_upto_region 11 with fail;have kT:=(Ja.refl 97 w9).set (p:=⟨g9,m,Z⟩) bC.o dM (O Y (x+s));have hX:=aL.o.set (p:=⟨g9,m,Z⟩) bD.o (O Y (x+s));have aY:pk (w9.setCell ⟨g9,m,Z⟩ (O Y (x+s))) _ L:=Sl.keep aM.o (fun _ _ h=>h) kT;have aZ:=bp.o.is';obtain⟨w9,bq⟩:=gX (w9.setCell ⟨g9,m,Z⟩ (O Y (x+s)));rw[bq]at hX aY aZ ⊢;obtain⟨b0,ap,aq⟩:=ai.o (q9.set m (x+s)) (fun z hz=>by
     rcases List.mem_or_eq_of_mem_set hz with h|rfl
     ·exact aT.o z h
     ·have:=Hk.o;unfold xq;omega)
    have ar:=za ap;have aB:=za aq;have l:=za hX;have Ho:=za aY;have ag:=za aZ;have av:=za (show (q9.set m (x+s)).length<=1000000 by rw[List.length_set];have:=aO.o;omega);clear kT hX aY aZ bq ap aq ai aL aM bp y1 y2;clear s0 s1 r0 r1 r2 r3 r4 r5 r6;have q:=za (l.o.drew);refine jd [(⟨w.heap.size,0,Z⟩,M ga gn gc),(⟨w.heap.size,1,Z⟩,M pa pn aH),(⟨w.heap.size+1,0,Z⟩,O .u8 sk),(⟨w.heap.size+1,1,Z⟩,O Y am),(⟨w.heap.size+1,2,Z⟩,O Y aa),(⟨w.heap.size+1,3,Z⟩,O Y al),(⟨w.heap.size+1,4,Z⟩,O Y step),(⟨w.heap.size+1,5,Z⟩,O Y an),(⟨w.heap.size+1,6,Z⟩,O Y o)] (cE HC.o q.o) fun b=>?_;refine La (i:=0) ?_;refine sN 2 ?_
    (iterate 2 refine Db ?_);refine oN ?_;refine La (i:=6) ?_;refine Ac (i:=1) (aK.o _ (k.o.trans q.o)) ?_;rintro e w3 ⟨bk,bl,rfl,t,u,y⟩;obtain⟨⟨aU,aW,aV,rfl⟩,bg,bj,bi,rfl⟩:=And.intro (Ma t) (Ma u.pls);refine⟨_,rfl,(cE b y),fun b=>?_⟩;have X3:Ba w9 w3:=(eR w9).drew.trans y;refine Te (i:=4) fun K hK=>?_;refine AW Ek Tryz.underlying47 rfl _ _ rfl rfl (Cb.nil _ _ w3.heap.size) rfl (gj.ints (ag.o.f X3)) (by simp only[List.length_nil];have:=av.o;omega) (nE _) ?_;intro v4 w4 d j;have f:Ba w3 w4:=j;refine kO hK (cE b f) (fun b=>?_);clear hK K;rw[List.nil_append]at d;obtain⟨a4,c4,rfl⟩:=d.form;refine Ac (i:=5) (ar.o w4 _ _ _ (t.f f) (u.pls.f f) (aJ.o.ext (k.o.trans (l.o.trans (X3.trans f)))) d.is') ?_;rintro e w5 ⟨rfl,R⟩;refine⟨_,rfl,(cE b R),fun b=>?_⟩;have X5:Ba w9 w5:=X3.trans (f.trans R);have ab:=za X5;clear t u X3 y f R X5 d j;refine La (i:=7) ?_;refine La (i:=8) ?_;refine La (i:=9) ?_;refine La (i:=10) ?_;refine Ac (i:=11) (aB.o w5 _ _ _ (Ho.o.f ab.o) (ag.o.f ab.o)) ?_;rintro e w6 ⟨rfl,ae⟩;refine⟨_,rfl,(cE b ae),fun b=>?_⟩;have ad:=za (ab.o.trans ae);clear ae;refine sN 12 ?_
    (iterate 3 refine Db ?_);refine oN ?_;refine Ac (i:=15) (HA.o _ (k.o.trans (l.o.trans ad.o))) ?_;rintro e w7 ⟨rfl,af⟩;refine⟨_,rfl,(cE b af),fun b=>?_⟩;refine sN 16 ?_
    (iterate 2 refine Db ?_);refine oN ?_;refine Pb ?_;go_wp2;go_ret;exact⟨rfl,k.o.trans (l.o.trans (ad.o.trans af))⟩
   ·have hc:n9=0\/(0<n9/\s <= -10000)\/(0<n9/\ -10000<s/\10000<=s):=oM;obtain⟨b0,ap,aq⟩:=ai.o q9 aT.o;have ar:=za ap;have aB:=za aq;have l:=aL;have Ho:=aM;have ag:=za ac.is';have av:=za (show q9.length<=1000000 by have:=aO.o;omega);clear hm ap aq ai ac aL aM aF;rcases hc with rfl|⟨m1,m2⟩|⟨m1,m2,m3⟩
    all_goals
     (try(have k1:(0:Int)<(n9:Int):=oM));go_upto_region 11 with fail;clear s0 s1 r0 r1 r2 r3 r4 r5 r6;have q:=za (l.o.drew);refine jd [(⟨w.heap.size,0,Z⟩,M ga gn gc),(⟨w.heap.size,1,Z⟩,M pa pn aH),(⟨w.heap.size+1,0,Z⟩,O .u8 sk),(⟨w.heap.size+1,1,Z⟩,O Y am),(⟨w.heap.size+1,2,Z⟩,O Y aa),(⟨w.heap.size+1,3,Z⟩,O Y al),(⟨w.heap.size+1,4,Z⟩,O Y step),(⟨w.heap.size+1,5,Z⟩,O Y an),(⟨w.heap.size+1,6,Z⟩,O Y o)] (cE HC.o q.o) fun b=>?_;refine La (i:=0) ?_;refine sN 2 ?_
     (iterate 2 refine Db ?_);refine oN ?_;refine La (i:=6) ?_;refine Ac (i:=1) (aK.o _ (k.o.trans q.o)) ?_;rintro e w3 ⟨bk,bl,rfl,t,u,y⟩;obtain⟨⟨aU,aW,aV,rfl⟩,bg,bj,bi,rfl⟩:=And.intro (Ma t) (Ma u.pls);refine⟨_,rfl,(cE b y),fun b=>?_⟩;have X3:Ba w9 w3:=(eR w9).drew.trans y;refine Te (i:=4) fun K hK=>?_;refine AW Ek Tryz.underlying47 rfl _ _ rfl rfl (Cb.nil _ _ w3.heap.size) rfl (gj.ints (ag.o.f X3)) (by simp only[List.length_nil];have:=av.o;omega) (nE _) ?_;intro v4 w4 d j;have f:Ba w3 w4:=j;refine kO hK (cE b f) (fun b=>?_);clear hK K;rw[List.nil_append]at d;obtain⟨a4,c4,rfl⟩:=d.form;refine Ac (i:=5) (ar.o w4 _ _ _ (t.f f) (u.pls.f f) (aJ.o.ext (k.o.trans (l.o.trans (X3.trans f)))) d.is') ?_;rintro e w5 ⟨rfl,R⟩;refine⟨_,rfl,(cE b R),fun b=>?_⟩;have X5:Ba w9 w5:=X3.trans (f.trans R);have ab:=za X5;clear t u X3 y f R X5 d j;refine La (i:=7) ?_;refine La (i:=8) ?_;refine La (i:=9) ?_;refine La (i:=10) ?_;refine Ac (i:=11) (aB.o w5 _ _ _ (Ho.o.f ab.o) (ag.o.f ab.o)) ?_;rintro e w6 ⟨rfl,ae⟩;refine⟨_,rfl,(cE b ae),fun b=>?_⟩;have ad:=za (ab.o.trans ae);clear ae;refine sN 12 ?_
     (iterate 3 refine Db ?_);refine oN ?_;refine Ac (i:=15) (HA.o _ (k.o.trans (l.o.trans ad.o))) ?_;rintro e w7 ⟨rfl,af⟩;refine⟨_,rfl,(cE b af),fun b=>?_⟩;refine sN 16 ?_
     (iterate 2 refine Db ?_);refine oN ?_;refine Pb ?_;go_wp2;go_ret;exact⟨rfl,k.o.trans (l.o.trans (ad.o.trans af))⟩
end
section
open Go Go.ChangeShapes Go.WideShapes Go.ChangeAt Go.RowKit
def LW{H enc w spare held r t v}{d:DataW H}{p}(hv:Value.okWide Tryz.prog w r t 47 v)(h:DataW.Trod enc Tryz.prog w 0 spare held 47 v d p):∃(T:TypeId)(l:List Int),gj T w v l/\∀z∈l,xq z:=by
 obtain⟨a,n,c,rfl⟩:=okWide_slice Tryz.underlying47 hv;obtain⟨fuel,L⟩:=h;obtain⟨s,m,u,T,j,e,hl,W,hr,K⟩:=jG Tryz.underlying47 (k:=1) kM oM L;have e:[Value.slice a n c]=[M s m u]:=e;cases e;obtain⟨zs,q,o⟩:=Yw (α:=Int) (Q:=fun c z=>c=[O Y z]/\xq z) (fun d h=>by
  obtain⟨f,y,hy⟩:=K d h;obtain⟨z,e,w9⟩:=DataW.trod_int Tryz.underlying3 hy;have b:=GW w9.2;rw[show IntKind.i64.min = -9223372036854775808 by decide,show IntKind.i64.max=9223372036854775807 by decide]at b;exact⟨z,e,b⟩)
 refine⟨T,zs,⟨j,q,W,by rw[<-q,hl];exact hr,fun i c z x g=>(o i c z x g).1⟩,fun z hm=>?_⟩;obtain⟨i,g⟩:=List.getElem?_of_mem hm;have R:=(lS.1 g).1;exact(o i _ z (gE oM) g).2
def te os(d:os.Started) H(enc:TypeId×G->H) :
  ReturnsInHanded {} Tryz.checked os 4 .any (fun w args=>(Rows.jointProvesSpec.pre enc Tryz.prog Tryz.f4 [] false w args/\laidMetH Tryz.prog [("copestone/stone.ways",Rows.laid_copestone_stone_ways)] w)/\sizedMet enc Tryz.prog Tryz.f4 (OpenSpec.ofChange Rows.jointProvesSpec) false w args)
   (Rows.jointProvesSpec.post enc Tryz.prog Tryz.f4 false true false false):=by
 refine returnsInHanded_of_change_and (C:=Tryz.checked) (X:=fun w _=>laidMetH Tryz.prog [("copestone/stone.ways",Rows.laid_copestone_stone_ways)] w) (fun _ _ _ hh h=>h.of_heap hh) IN d kM Tryz.func4
  (ChangeSpec.witness_shaped (enc:=enc) (C:=Tryz.checked) (os:=os) (X:=fun w _=>laidMetH Tryz.prog [("copestone/stone.ways",Rows.laid_copestone_stone_ways)] w) false (World.doorLaid Tryz.prog 14 os) #[Od #[M Z 0 0,M Z 0 0],Od #[O .u8 0,O Y 0,O Y 0,O Y 0,O Y 0,O Y 0,O Y 0],Ob false,M Z 0 0,O .u8 0,O Y 0] 8 rfl (World.shaped_of_RefB kM kM) kM kM kM (MM os _)) ?_
 intro W base args ds gs n c hW _ _ hL _;have a:∀(j:Nat) t v,Tryz.f4.params[j]?=I t->args[j]?=I v->Value.okWide Tryz.prog W .any base t v:=c;have b:=hW;obtain⟨p,q,i,hV,rfl,ag,ah⟩:=hW;have hA:DataW.TrodAll enc Tryz.prog W 0 (fun _=>true) true Tryz.f4.params.toList args.toList ds p:=i;rw[Tryz.params4]at hA a;obtain⟨v0,ai,d0,aa,z,q0,u,rfl,rfl,h0,r0⟩:=trodAll_cons hA;obtain⟨v1,aj,d1,ab,K,q1,rfl,rfl,rfl,h1,r1⟩:=trodAll_cons r0;obtain⟨v2,ak,d2,ac,p2,q2,rfl,rfl,rfl,h2,r2⟩:=trodAll_cons r1;obtain⟨R,al,d3,ad,L,q3,rfl,rfl,rfl,h3,r3⟩:=trodAll_cons r2;obtain⟨v4,am,d4,ae,p4,q4,rfl,rfl,rfl,h4,r4⟩:=trodAll_cons r3;obtain⟨v5,an,d5,af,p5,q5,rfl,rfl,rfl,h5,r5⟩:=trodAll_cons r4;obtain⟨rfl,rfl,rfl⟩:=trodAll_nil r5;obtain rfl:args=#[v0,v1,v2,R,v4,v5]:=by cases args;simp_all
 obtain⟨rfl,rfl⟩:=trodVars_none hV;have o:=h0;have r:=h1;have s:=h3;obtain⟨vg,vp,g,ps,rfl,hg,hp⟩:=pT (a 0 _ _ rfl rfl) h0;obtain⟨ru,rfl⟩:=AT (a 1 _ _ rfl rfl) h1;obtain⟨own,rfl,rfl,rfl⟩:=open_bool Tryz.underlying4 (a 2 _ v2 rfl rfl) h2;obtain⟨T3,ro,ho,y⟩:=LW (a 3 _ R rfl rfl) h3;obtain⟨a4,rfl,rfl,rfl,w4⟩:=open_int Tryz.underlying5 (a 4 _ v4 rfl rfl) h4;obtain⟨a5,rfl,rfl,rfl,w5⟩:=open_int Tryz.underlying3 (a 5 _ v5 rfl rfl) h5;have b4:=GW w4;rw[show IntKind.u8.min=0 by decide,show IntKind.u8.max=255 by decide]at b4;clear i c;rw[List.append_nil (z++(K++([]++(L++([]++([]++[]))))))]at b;have k:∀x∈z,x.block<W.heap.size:=fun x f=>b.lt x (by simp[f]);have l:∀x∈K,x.block<W.heap.size:=fun x f=>b.lt x (by simp[f]);have m:∀x∈L,x.block<W.heap.size:=fun x f=>b.lt x (by simp[f]);refine(KW W vg vp R g ps ru own ro a4 a5 T3 hg hp (ZQ hL) ho y ⟨b4.1,by omega⟩).mono fun e W' ⟨he,f⟩=>?_;subst he;exact⟨_,rfl,_,_,_,[],z++(K++([]++(L++([]++([]++[]))))),[],b,trodAll_cons_mk (shut_bool Tryz.underlying4 _) trodAll_mk0,
  trodAll_cons_mk (Below.trod iy kM (of_decide_eq_true kM) o f k) (trodAll_cons_mk (Below.trod iy kM (of_decide_eq_true kM) r f l) (trodAll_cons_mk (shut_bool Tryz.underlying4 own) (trodAll_cons_mk (Below.trod iy kM (of_decide_eq_true kM) s f m) (trodAll_cons_mk (shut_int Tryz.underlying5 w4) (trodAll_cons_mk (shut_int Tryz.underlying3 w5) trodAll_mk0))))),
  rfl,Below.frame f _,fun h=>by cases h⟩
def MW:Rows.JointProvesSaid:=
 OpenClaim.holds_of_wide 4 Tryz.f4 rfl rfl rfl rfl rfl rfl rfl ⟨rfl,rfl,rfl,rfl,rfl⟩ rfl rfl rfl rfl rfl kM Tryz.func4 zx
  (of_decide_eq_true kM) (by unfold Func.isWrapper;first|(rw[if_pos (by decide +kernel)];kernel_rfl)|(rw[if_neg (by decide +kernel)];exact⟨rfl,rfl⟩))
  (fun b a H enc _=>te b a H enc)
