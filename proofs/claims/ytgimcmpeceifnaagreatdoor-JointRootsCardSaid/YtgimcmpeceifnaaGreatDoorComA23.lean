import Derived.Test.YtgimcmpeceifnaaGreatDoorComA22
import Derived.Laws.StructEq
set_option maxRecDepth 1000000
set_option maxHeartbeats 16000000
set_option linter.all false
open Go.Value renaming int->O,slice->M,pointer->A,tuple->Oc
open Go.IntKind renaming i64->Y
open Option renaming none->Z,some->I
open Go renaming World->N,Value->G
open Go.Obj renaming cells->Oa
namespace Go.Proofs.YtgimcmpeceifnaaGreatDoor.Cop
section
open Go.RowKit Go.Shelf Go.Sort Go.Lib Go.Maps
structure xA (ks:List (JS×G)) (L:List Jt) (rs:List Int):Prop where
 jts:∀j∈L,Fh j
 stones:∀x∈ks,fW x.1
 few:ks.length<=120
 len:L.length<=14400
 rlen:rs.length=L.length
 rbd:∀z∈rs,Bd 1000000 z
def sT{p}(h:Fa p=true):Bd 10000 p.depth:=by unfold Fa pd at h;simp only[Bool.and_eq_true]at h;have a:=h.1.1.1.2;unfold Ra at a;simp at a;unfold Bd;omega
def FG{α β:Type}(f:α->List β) m:∀(l:List α),(∀x∈l,(f x).length<=m)->(l.flatMap f).length<=l.length*m
 | [],_=>by simp
 | x::l,h=>by
  have b:=FG f m l (fun y a=>h y (mC _ a));have c:=h x sM;rw[List.flatMap_cons,lA,List.length_cons,Nat.succ_mul];omega
def Wp{r ps j}(h:j∈Kb r ps):j∈Se ps:=(List.mem_filter.1 h).1
def XA{r ps ks L rs}(c:∀p∈ps,Fa p=true)(w:ps.length<=120)(h:il r ps ks L rs):xA ks L rs:=by
 have n:(Kb r ps).length<=120:=by
  have t:(Kb r ps).length<=(Se ps).length:=List.length_filter_le _ _;rw[ko]at t;omega
 have m:ks.length<=120:=by
  have u:=congrArg List.length h.skin;rw[lL]at u;omega
 have l:∀j∈L,Fh j:=by
  intro j l;have f:=h.perm.mem_iff.1 l;unfold Fg at f;obtain⟨a,o,d⟩:=List.mem_flatMap.1 f;unfold xg at d;obtain⟨b,v,rfl⟩:=List.mem_map.1 d;exact tC c w (Wp o) (Wp (List.mem_filter.1 v).1)
 refine⟨l,fun x q=>?_,m,?_,by rw[h.roots,Tn],by rw[h.roots];exact zv l _⟩
 ·have f:x.1∈Kb r ps:=h.skin▸List.mem_map_of_mem q;have d:=Wp f;have g:=Qp c d;obtain⟨k,e,z⟩:=Ay h.skin q;obtain⟨p,y,i,s⟩:=uC d;exact⟨g.1.1,g.1.2,g.2.1,g.2.2,by rw[s];exact sT (c p y),k,e,by omega⟩
 ·rw[h.perm.length_eq];unfold Fg;refine nT (FG _ 120 _ (fun a o=>?_)) oM;unfold xg;rw[lL];exact nT (List.length_filter_le _ _) n
def pB{ps a b}(f:a∈Se ps)(g:b∈Se ps)(h:a.k=b.k):a=b:=by
 obtain⟨i,c⟩:=List.getElem?_of_mem f;obtain⟨j,d⟩:=List.getElem?_of_mem g;unfold Se at c d;rw[List.getElem?_mapIdx]at c d;cases hp:ps[i]? with
 | none=>rw[hp]at c;cases c
 | some p =>
  cases hq:ps[j]? with
  | none=>rw[hq]at d;cases d
  | some q =>
   rw[hp]at c;rw[hq]at d;cases c;cases d;have e:i=j:=by unfold Ib at h;dsimp only at h;omega
   subst e;rw[hp]at hq;cases hq;rfl
def CJ{r ps x y}(e:x∈Fg r (Kb r ps))(f:y∈Fg r (Kb r ps))(l:¬fh y x<0)(m:¬fh x y<0):x=y:=by unfold Fg xg at e f;obtain⟨a,p,n⟩:=List.mem_flatMap.1 e;obtain⟨b,q,rfl⟩:=List.mem_map.1 n;obtain⟨c,s,o⟩:=List.mem_flatMap.1 f;obtain⟨d,t,rfl⟩:=List.mem_map.1 o;rw[Fo]at l m;have g:(qe a b).a=(qe c d).a:=oM;have i:(qe a b).b=(qe c d).b:=oM;have j:a=c:=pB (Wp p) (Wp s) g;have k:b=d:=pB (Wp (List.mem_filter.1 q).1) (Wp (List.mem_filter.1 t).1) i;rw[j,k]
def FH{r c ps ks d L L' rs f}(h:il r ps ks L rs)(e:il c ps d L' f)(l:c.skin=r.skin)(m:c.wide=r.wide):L'=L/\d.map Prod.fst=ks.map Prod.fst:=by
 have g:Kb c ps=Kb r ps:=by
  unfold Kb
  congr 1
  funext j
  unfold Xf;rw[l]
 have k:Fg c (Kb c ps)=Fg r (Kb r ps):=by
  rw[g];unfold Fg
  congr 1
  funext a
  unfold xg
  congr 1
  congr 1
  funext b
  unfold Gd;rw[m]
 refine⟨?_,by rw[h.skin,e.skin,g]⟩;have i:L'.Perm L:=(e.perm.trans (by rw[k])).trans h.perm.symm;refine List.Perm.eq_of_pairwise (le:=fun a b=>¬fh b a<0) (fun a b n o p q=>?_) e.ord h.ord i;exact CJ (h.perm.mem_iff.1 (i.mem_iff.1 n)) (h.perm.mem_iff.1 o) p q
end
section
open Go.RowKit Go.Shelf Go.Sort
def Id(j:Jt)(out:List Jt):Nat->Nat
 | 0=>0
 | n+1=>match out[n]? with|some x=>if fh j x<0 then Id j out n else n+1|none=>n+1
def Zg(out:List Jt)(j:Jt):List Jt:=out.take (Id j out out.length)++j::out.drop (Id j out out.length)
def Gn(l:List Jt):Prop:=l.Pairwise fun a b=>¬fh b a<0
def nz j out:∀n,n<=out.length->Id j out n<=n/\(∀i x,Id j out n<=i->i<n->out[i]?=I x->fh j x<0)/\(∀x,0<Id j out n->out[Id j out n-1]?=I x->¬fh j x<0)
 | 0,_=>⟨nE _,fun i x _ h _=>by omega,fun x h _=>absurd h (Nat.lt_irrefl _)⟩
 | n+1,h=>by
  obtain⟨x,c⟩:∃x,out[n]?=I x:=⟨_,gE oM⟩;have e:Id j out (n+1)=if fh j x<0 then Id j out n else n+1:=by rw[Id,c]
  rw[e];split
  ·rename_i hc;obtain⟨l,f,g⟩:=nz j out n oM;refine⟨by omega,fun i y d k a=>?_,g⟩;by_cases b:i=n
   ·subst b;rw[c]at a;cases a;exact hc
   ·exact f i y d oM a
  ·rename_i hc;refine⟨nE _,fun i y d k _=>by omega,fun y _ a=>?_⟩;rw[Nat.add_sub_cancel,c]at a;cases a;exact hc
def IB{a b c}(d:¬fh b a<0)(e:¬fh c b<0):¬fh c a<0:=by rw[Fo]at *;omega
def JB{a b}(h:fh a b<0):¬fh b a<0:=by rw[Fo]at *;omega
def EE out j:(Zg out j).Perm (j::out):=by unfold Zg;refine List.perm_middle.trans ?_;rw[List.take_append_drop]
def qN{out}(h:Gn out) j:Gn (Zg out j):=by
 obtain⟨s,p,q⟩:=nz j out out.length (nE _);generalize hm:Id j out out.length=m at *
 have r:=List.pairwise_iff_getElem.1 h;have c:∀a∈out.take m,¬fh j a<0:=fun a l=>by
  obtain⟨i,n,e⟩:=List.getElem_of_mem l;rw[List.length_take]at n;rw[List.getElem_take]at e;have k:m-1<out.length:=oM;have g:=q (out[m-1]'k) oM (gE k);by_cases o:i=m-1
  ·subst o;rw[<-e];exact g
  ·rw[<-e];exact IB (r i (m-1) oM k oM) g
 have d:∀b∈out.drop m,fh j b<0:=fun b f=>by
  obtain⟨i,n,e⟩:=List.getElem_of_mem f;rw[List.length_drop]at n;rw[List.getElem_drop]at e;exact p (m+i) b oM oM (by rw[<-e];exact gE _)
 unfold Zg Gn;rw[hm,List.pairwise_append];refine⟨h.sublist (List.take_sublist _ _),List.pairwise_cons.2 ⟨fun b f=>JB (d b f),h.sublist (List.drop_sublist _ _)⟩,fun a l b f=>?_⟩;rcases List.mem_cons.1 f with rfl|f
 ·exact c a l
 ·exact IB (c a l) (JB (d b f))
def AD:∀(l out:List Jt),Gn out->Gn (l.foldl Zg out)/\(l.foldl Zg out).Perm (out++l)
 | [],out,h=>⟨h,by rw[List.append_nil];exact List.Perm.refl _⟩
 | j::l,out,h=>by
  obtain⟨a,b⟩:=AD l (Zg out j) (qN h j);refine⟨a,b.trans ?_⟩;refine((EE out j).append_right l).trans ?_;rw[List.cons_append];exact List.perm_middle.symm
def Xz{r ps ks L rs}(h:il r ps ks L rs):(Fg r (Kb r ps)).foldl Zg []=L:=by obtain⟨b,a⟩:=AD (Fg r (Kb r ps)) [] List.Pairwise.nil;rw[List.nil_append]at a;exact(FH h ⟨h.skin,a,b,rfl⟩ rfl rfl).1
end
section
open Go.RowKit Go.Shelf Go.Sort Go.Lib Go.Maps
end
section
open Go.RowKit Go.Shelf Go.Sort Go.Lib
def Dj(r:Ru)(js:List JS)(a:JS)(k:Nat):List Jt:=(((js.take k).filter (Xf r)).filter (Gd r (js.filter (Xf r)) a)).map (qe a)
def qi(r:Ru)(js:List JS)(i:Nat):List Jt:=((js.take i).filter (Xf r)).flatMap (xg r (js.filter (Xf r)))
def jE r js a:Dj r js a js.length=xg r (js.filter (Xf r)) a:=by unfold Dj xg;rw[List.take_length]
def VE r{js} a{k b}(h:js[k]?=I b):Dj r js a (k+1)=Dj r js a k++if (Xf r b&&Gd r (js.filter (Xf r)) a b)=true then [qe a b]else []:=by
 unfold Dj;rw[ze _ _ _ h,List.filter_append,List.filter_append,List.map_append]
 congr 1
 cases h1:Xf r b
 ·simp[h1]
 ·cases h2:Gd r (js.filter (Xf r)) a b
  ·simp[h1,h2]
  ·simp[h1,h2]
def Ty r{js i a}(h:js[i]?=I a):qi r js (i+1)=qi r js i++if Xf r a=true then xg r (js.filter (Xf r)) a else []:=by
 unfold qi;rw[ze _ _ _ h,List.filter_append,List.flatMap_append]
 congr 1
 cases h1:Xf r a
 ·simp[h1]
 ·simp[h1]
def tM r ps:qi r (Se ps) (Se ps).length=Fg r (Kb r ps):=by unfold qi Fg Kb;rw[List.take_length]
def ij(r:Ru)(js:List JS)(i:Nat):List Jt:=(qi r js i).foldl Zg []
def Gl(r:Ru)(js:List JS)(i:Nat)(a:JS)(k:Nat):List Jt:=(Dj r js a k).foldl Zg (ij r js i)
def yM r js i a:Gl r js i a 0=ij r js i:=by unfold Gl Dj;simp
def kL{r js i a b k}(h:js[k]?=I b)(c:(Xf r b&&Gd r (js.filter (Xf r)) a b)=true):Gl r js i a (k+1)=Zg (Gl r js i a k) (qe a b):=by unfold Gl;rw[VE r a h,if_pos c,List.foldl_append];rfl
def UH{r js i a b k}(h:js[k]?=I b)(c:(Xf r b&&Gd r (js.filter (Xf r)) a b)=false):Gl r js i a (k+1)=Gl r js i a k:=by unfold Gl;rw[VE r a h,if_neg (by rw[c];decide),List.append_nil]
def oL{r js i a}(h:js[i]?=I a)(b:Xf r a=true):ij r js (i+1)=Gl r js i a js.length:=by unfold ij Gl;rw[Ty r h,if_pos b,List.foldl_append,jE];rfl
def VH{r js i a}(h:js[i]?=I a)(b:Xf r a=false):ij r js (i+1)=ij r js i:=by unfold ij;rw[Ty r h,if_neg (by rw[b];decide),List.append_nil]
def Cx{r ps ks L rs}(h:il r ps ks L rs):ij r (Se ps) (Se ps).length=L:=by unfold ij;rw[tM];exact Xz h
def BR{α:Type}{out:List α}{k y x}(f:0<k)(a:out[k-1]?=I x):(out.take k++y::out.drop k).set k x=out.take (k-1)++x::out.drop (k-1):=by
 have e:=(lS.1 a).1;have b:(out.take k).length=k:=by rw[List.length_take];omega
 rw[List.set_append_right _ _ oM,b,Nat.sub_self,List.set_cons_zero];have c:out.take k=out.take (k-1)++[x]:=by
  have:=ze out (k-1) x a;rw[show k-1+1=k by omega]at this;exact this
 have d:out.drop (k-1)=x::out.drop k:=by
  rw[List.drop_eq_getElem_cons e,show k-1+1=k by omega]
  congr 1
  exact(lS.1 a).2
 rw[c,d,List.append_assoc];rfl
def XL{α:Type}{out:List α}{k y x}(b:0<k)(a:out[k-1]?=I x):(out.take k++y::out.drop k)[k-1]?=I x:=by have c:=(lS.1 a).1;rw[List.getElem?_append_left (by rw[List.length_take];omega),List.getElem?_take_of_lt oM];exact a
def WN{α:Type}{out:List α}{k y j}(b:k<=out.length):(out.take k++y::out.drop k).set k j=out.take k++j::out.drop k:=by
 have a:(out.take k).length=k:=by rw[List.length_take];omega
 rw[List.set_append_right _ _ oM,a,Nat.sub_self,List.set_cons_zero]
def YQ{j out n x}(h:out[n]?=I x):Id j out (n+1)=if fh j x<0 then Id j out n else n+1:=by rw[Id,h]
def rN out j:(Zg out j).length=out.length+1:=(EE out j).length_eq
def ry:∀(l out:List Jt),(l.foldl Zg out).length=out.length+l.length
 | [],out=>rfl
 | j::l,out=>by
  rw[List.foldl_cons,ry l,rN,List.length_cons];omega
def iE r js a k:(Dj r js a k).length<=k:=by unfold Dj;rw[lL];refine nT (List.length_filter_le _ _) (nT (List.length_filter_le _ _) ?_);rw[List.length_take];omega
def lE r js:∀i,(qi r js i).length<=i*js.length
 | 0=>by simp[qi]
 | i+1=>by
  have c:=lE r js i;cases h:js[i]? with
  |none=>
   have e:qi r js (i+1)=qi r js i:=by
    unfold qi;have:=List.getElem?_eq_none_iff.1 h;rw[lT oM,lT oM]
   rw[e,Nat.succ_mul];omega
  | some a =>
   rw[Ty r h,lA,Nat.succ_mul];have b:=iE r js a js.length;rw[jE]at b;split
   ·omega
   ·simp;omega
def jD r js i:(ij r js i).length<=i*js.length:=by unfold ij;rw[ry];have:=lE r js i;simp;omega
def mL r js i a k:(Gl r js i a k).length<=i*js.length+k:=by unfold Gl;rw[ry];have:=jD r js i;have:=iE r js a k;omega
def Xh(r:Ru)(js:List JS)(i:Nat)(a:JS)(k:Nat):List Jt:=if Xf r a=true then Gl r js i a k else ij r js i
def FN r js i a:Xh r js i a 0=ij r js i:=by
 unfold Xh;split
 ·exact yM r js i a
 ·rfl
def iL r js i a k:(Xh r js i a k).length<=i*js.length+k:=by
 unfold Xh;split
 ·exact mL r js i a k
 ·have:=jD r js i;omega
def jL{r js i a}(h:js[i]?=I a):Xh r js i a js.length=ij r js (i+1):=by
 unfold Xh;cases h1:Xf r a
 ·rw[if_neg dM,VH h h1]
 ·rw[if_pos rfl,oL h h1]
def gL{r js i a k}(h:Xf r a=false):Xh r js i a (k+1)=Xh r js i a k:=by unfold Xh;rw[h];rfl
def tr{r js i a b k}(h:js[k]?=I b)(c:(Xf r b&&Gd r (js.filter (Xf r)) a b)=false):Xh r js i a (k+1)=Xh r js i a k:=by unfold Xh;rw[UH h c]
def fL{r js i a b k}(h:js[k]?=I b)(c:Xf r a=true)(d:(Xf r b&&Gd r (js.filter (Xf r)) a b)=true):Xh r js i a (k+1)=Zg (Xh r js i a k) (qe a b):=by unfold Xh;rw[if_pos c,if_pos c,kL h d]
end
section
open Go.RowKit Go.Shelf Go.Sort
def Di(r:Ru)(L:List Jt)(rs:List Int)(k:Nat)(a:Int)(i:Nat):Int:=(((List.range i).filter (Pe r L k)).foldl (fun o i=>min o (rs.getD i 0)) a)
def NR r L rs k a i:Di r L rs k a (i+1)=if Pe r L k i=true/\rs.getD i 0<Di r L rs k a i then rs.getD i 0 else Di r L rs k a i:=by
 unfold Di;rw[List.range_succ,List.filter_append];by_cases h:Pe r L k i=true
 ·rw[List.filter_cons_of_pos h,List.filter_nil,List.foldl_append];simp only[List.foldl_cons,List.foldl_nil,h,true_and];split<;>omega
 ·rw[List.filter_cons_of_neg h,List.filter_nil,List.append_nil,if_neg (fun b=>h b.1)]
end
section
open Go.RowKit Go.Shelf Go.Sort
attribute [local go_sem] Oper.semAt_some
def Qx{g ps r}(h:gh g ps r=0):Eb g ps=0/\0<=r.run/\r.run<=10000:=by
 unfold gh at h;by_cases a:Eb g ps=0
 ·rw[if_pos a]at h;unfold Cc at h
  repeat(first|(split at h;(focus(cases h;done))))
  simp[Kg]at *;omega
 ·rw[if_neg a]at h;exact absurd h a
end
section
open Go.RowKit Go.Shelf Go.Sort Go.Lib
attribute [local go_sem] Oper.semAt_some
def FJ(s:Nat)(v5 d e b c:G)(a:Act):Prop:=a.tmps.size=161/\a.tmps.getD 2 undef=A (I ⟨s,0,Z⟩)/\a.tmps.getD 3 undef=A (I ⟨s+1,0,Z⟩)/\a.tmps.getD 5 undef=v5/\a.tmps.getD 6 undef=d/\a.tmps.getD 7 undef=e/\a.tmps.getD 16 undef=b/\a.tmps.getD 17 undef=c/\a.defers=[]
abbrev Fe(w:N)(base:Nat)(v:G)(l:List Jt):Prop:=Ea 97 6 w base v (l.map Vg)
def Fe.at{w base a n c l}(h:Fe w base (M a n c) l){i x}(k:l[i]?=I x):∃g,a=I ⟨g,0,Z⟩/\base<=g/\g<w.heap.size/\Da [(⟨g,i*6,Z⟩,O Y x.a),(⟨g,i*6+1,Z⟩,O Y x.b),(⟨g,i*6+2,Z⟩,O Y x.left),(⟨g,i*6+3,Z⟩,O Y x.right),(⟨g,i*6+4,Z⟩,O Y x.fr),(⟨g,i*6+5,Z⟩,O Y x.til)] w:=by
 have d:(l.map Vg)[i]?=I (Vg x):=by rw[lP,k];rfl
 have m:=(lS.1 d).1;obtain⟨g,rfl,e,f⟩:=h.blk oM;exact⟨g,rfl,e,f,h.cell (j:=0) d rfl,h.cell (j:=1) d rfl,h.cell (j:=2) d rfl,h.cell (j:=3) d rfl,h.cell (j:=4) d rfl,h.cell (j:=5) d rfl,trivial⟩
def Fe.put{w base g n c i l}(h:Fe w base (M (I ⟨g,0,Z⟩) n c) l){x y}(b:l[i]?=I x):Fe (Xj w g (i*6) (Vg y)) base (M (I ⟨g,0,Z⟩) n c) (l.set i y):=by have a:=Ea.putAll (j:=0) (us:=Vg y) h (i:=i) (d:=Vg x) (by rw[lP,b];rfl) rfl;unfold Fe;rw[List.map_set];exact a
def nV(W0:N)(s:Nat)(v5 d e b:G)(j:Jt)(out:List Jt)(n:Nat)(c:Nat)(a:Act)(W:N):Prop:=
 ∃m:Nat,m<=n/\c=m/\Ba W0 W/\Id j out m=Id j out n/\FJ s v5 d e b (O Y m) a
def BH Q W0 s n R base c a5 v6 v7 j out a0(hF:FJ s (M a5 n R) v6 v7 (A (I ⟨c,0,Z⟩)) (O Y n) a0)(ae:n<=1000000)(ho:Fe W0 base (M a5 n R) out)(hb:Da [(⟨c,0,Z⟩,O Y j.a),(⟨c,1,Z⟩,O Y j.b),(⟨c,2,Z⟩,O Y j.left),(⟨c,3,Z⟩,O Y j.right),(⟨c,4,Z⟩,O Y j.fr),(⟨c,5,Z⟩,O Y j.til)] W0)(t:En Q)(hQ:∀a' W',FJ s (M a5 n R) v6 v7 (A (I ⟨c,0,Z⟩)) (O Y (Id j out n)) a'->Ba W0 W'->Q (.exit 4) a' W'):(Code.loop (Tb Tryz.f16 2)).wp Tryz.prog Q a0 W0:=by
 have HQ:=za hQ;have f:=za t;have Ho:=za ho;have Hb:=za hb;have hn:n=out.length:=by have:=ho.len;rw[lL]at this;exact this
 have Hn:=za hn;clear hQ t ho hb hn;unfold Tb;simp only[Tryz.f16,Jb,List.cons_append,List.nil_append,List.append_nil,List.getD_cons_succ,List.getD_cons_zero];refine wp_loop_ghost_k (nV W0 s (M a5 n R) v6 v7 (A (I ⟨c,0,Z⟩)) j out n) n ⟨n,nE _,rfl,eR _,rfl,hF⟩ ?round;clear hF;intro gk aa wr hinv;obtain⟨m,hm,ab,hx,v,hF⟩:=hinv;obtain rfl:=ab.symm;have HX:=za hx;have o:=za v;clear v;obtain⟨tt,dd⟩:=aa;obtain⟨f0,f2,f3,f5,f6,f7,k,l,y⟩:=hF;dsimp only at f0 f2 f3 f5 f6 f7 k l  y;subst y;obtain⟨u,hu,ht⟩:=Qf tt 161 f0;simp only[hu]at f2 f3 f5 f6 f7 k l;clear hu f0;subst ht;simp only[List.range,List.range.loop,List.map_cons,List.map_nil,f2,f3,f5,f6,f7,k,l ];clear f2 f3 f5 f6 f7 k l;intro J K hJ hK;obtain⟨x0,x1,x2,x3,x4,x5,-⟩:=cE Hb.o hx;clear hx;by_cases h0:m=0
 ·subst h0;have e0:decide ((0:Int)<((0:Nat):Int))=false:=rfl;have e:Id j out n=0:=o.o.symm.trans rfl;have E:=za e;clear e hJ hK;go_wp2;refine jd [(⟨c,0,Z⟩,O Y j.a),(⟨c,1,Z⟩,O Y j.b),(⟨c,2,Z⟩,O Y j.left),(⟨c,3,Z⟩,O Y j.right),(⟨c,4,Z⟩,O Y j.fr),(⟨c,5,Z⟩,O Y j.til)] (cE (show Da [(⟨c,0,Z⟩,O Y j.a),(⟨c,1,Z⟩,O Y j.b),(⟨c,2,Z⟩,O Y j.left),(⟨c,3,Z⟩,O Y j.right),(⟨c,4,Z⟩,O Y j.fr),(⟨c,5,Z⟩,O Y j.til)] wr from⟨x0,x1,x2,x3,x4,x5,trivial⟩) (eR _).drew) fun p=>?_;refine La (i:=0) (h4:=Ic f) ?_;refine La (i:=1) (h4:=Ic f) ?_;refine La (i:=2) (h4:=Ic f) ?_;refine Pa (i:=3) (h4:=Ic f) ?_;refine Pa (i:=4) (h4:=Ic f) ?_;refine Pa (i:=5) (h4:=Ic f) ?_;refine Pa (i:=6) (h4:=Ic f) ?_;refine Pa (i:=7) (h4:=Ic f) ?_;refine Pa (i:=8) (h4:=Ic f) ?_;refine Pa (i:=9) (h4:=Ic f) ?_;refine La (i:=10) (h4:=Ic f) ?_;refine Pb ?_;go_wp2;refine HQ.o _ _ ⟨rfl,rfl,rfl,rfl,rfl,rfl,rfl,?_,rfl⟩ HX.o.drew;rw[E.o];rfl
 ·obtain⟨x,q⟩:∃x,out[m-1]?=I x:=⟨_,gE (by have:=Hn.o;omega)⟩;obtain⟨g,rfl,-,-,w⟩:=Fe.at (Ho.o.ext HX.o) q;have z:Id j out m=if fh j x<0 then Id j out (m-1)else m:=by
   have:=YQ (j:=j) (n:=m-1) q;rw[show m-1+1=m by omega]at this;exact this
  have r:=za z;have HC:=za (fun W=>mR W j x);obtain⟨d,hd⟩:=gX (decide (fh j x<0));rw[hd]at HC;have Hd:=za hd;have g2:(0:Int)<=(m:Int)-1:=oM;have g3:(m:Int)-1<(n:Int):=oM;have g4:((m:Int)-1).toNat=m-1:=oM;have kw:IntKind.i64.wrap ((m:Int)-1)=(m:Int)-1:=iW _ oM;clear z hd q;go_wp2;have e0:decide ((0:Int)<(m:Int))=true:=decide_eq_true oM;have ac:decide (0<m)=true:=decide_eq_true oM;have ad:(1:Int)<=(m:Int):=oM;refine jd [(⟨c,0,Z⟩,O Y j.a),(⟨c,1,Z⟩,O Y j.b),(⟨c,2,Z⟩,O Y j.left),(⟨c,3,Z⟩,O Y j.right),(⟨c,4,Z⟩,O Y j.fr),(⟨c,5,Z⟩,O Y j.til),(⟨g,(m-1)*6,Z⟩,O Y x.a),(⟨g,(m-1)*6+1,Z⟩,O Y x.b),(⟨g,(m-1)*6+2,Z⟩,O Y x.left),(⟨g,(m-1)*6+3,Z⟩,O Y x.right),(⟨g,(m-1)*6+4,Z⟩,O Y x.fr),(⟨g,(m-1)*6+5,Z⟩,O Y x.til)] (cE (show Da [(⟨c,0,Z⟩,O Y j.a),(⟨c,1,Z⟩,O Y j.b),(⟨c,2,Z⟩,O Y j.left),(⟨c,3,Z⟩,O Y j.right),(⟨c,4,Z⟩,O Y j.fr),(⟨c,5,Z⟩,O Y j.til),(⟨g,(m-1)*6,Z⟩,O Y x.a),(⟨g,(m-1)*6+1,Z⟩,O Y x.b),(⟨g,(m-1)*6+2,Z⟩,O Y x.left),(⟨g,(m-1)*6+3,Z⟩,O Y x.right),(⟨g,(m-1)*6+4,Z⟩,O Y x.fr),(⟨g,(m-1)*6+5,Z⟩,O Y x.til)] wr from⟨x0,x1,x2,x3,x4,x5,w⟩) (eR _).drew) fun p=>?_;clear w x0 x1 x2 x3 x4 x5;unfold yh at HC;refine La (i:=0) (h4:=Ic f) ?_;refine La (i:=1) (h4:=Ic f) ?_;refine La (i:=2) (h4:=Ic f) ?_;refine La (i:=3) (h4:=Ic f) ?_;refine La (i:=4) (h4:=Ic f) ?_;refine La (i:=5) (h4:=Ic f) ?_;refine La (i:=6) (h4:=Ic f) ?_;refine La (i:=7) (h4:=Ic f) ?_;refine La (i:=8) (h4:=Ic f) ?_;refine Ac (i:=9) (HC.o _) ?_;rintro e w3 ⟨rfl,L⟩;refine⟨_,rfl,(cE p L),fun p=>?_⟩;have X3:=HX.o.drew.trans L;refine La (i:=10) (h4:=Ic f) ?_;refine Pb ?_;cases d with
  |true=>
   go_wp2;refine Handed.intro (m-1) oM (hJ _ _ _ ⟨m-1,by omega,rfl,X3,?_,⟨rfl,rfl,rfl,rfl,rfl,rfl,rfl,?_,rfl⟩⟩)
   ·rw[<-o.o,r.o,if_pos (of_decide_eq_true Hd.o)]
   ·show (_:G)=_;go_num
  |false=>
   have e:Id j out n=m:=by rw[<-o.o,r.o,if_neg (of_decide_eq_false Hd.o)]
   have E:=za e;clear e hJ hK;go_wp2;refine HQ.o _ _ ⟨rfl,rfl,rfl,rfl,rfl,rfl,rfl,?_,rfl⟩ X3;rw[E.o];rfl
def mV(e W0:N)(s g base n at' d:Nat)(i j c:G)(out:List Jt)(f:Nat)(a:Act)(W:N):Prop:=
 ∃(k:Nat)(y:Jt),at'<=k/\k<=n/\f=k-at'/\Ba e W/\Fe W base (M (I ⟨g,0,Z⟩) (n+1) d) (out.take k++y::out.drop k)/\(∀b o,b≠g->W0.heap[b]?=I o->W.heap[b]?=I o)/\FJ s (M (I ⟨g,0,Z⟩) (n+1) d) i j c (O Y at') a/\a.tmps.getD 18 undef=O Y k
def nF{b g}(c:b≠g):∀ a  o  W ,(Xj W g o a).heap[b]?=W.heap[b]?
 | [],_,_=>rfl
 | u::a,o,W=>by
  unfold Xj;rw[nF c a];exact bS _ _ _ _ (by exact c)
def Ux{w g}(b:w.heap.size<=g):∀ a  o {W},Ba w W->Ba w (Xj W g o a)
 | [],_,_,h=>h
 | u::a,o,W,h=>by
  unfold Xj;exact Ux b a _ (h.set (by exact b) _)
def EN Q U0 W0(s g base n at' m:Nat) v6 v7 l out y a0(hF:FJ s (M (I ⟨g,0,Z⟩) (n+1) m) v6 v7 l (O Y at') a0)(a:a0.tmps.getD 18 undef=O Y n)(ab:at'<=n)(hn:out.length=n)(ai:n<=1000000)(w:Fe W0 base (M (I ⟨g,0,Z⟩) (n+1) m) (out++[y]))(W:Ba U0 W0)(hU:U0.heap.size<=g)(hQ:∀a' W' z,FJ s (M (I ⟨g,0,Z⟩) (n+1) m) v6 v7 l (O Y at') a'->Fe W' base (M (I ⟨g,0,Z⟩) (n+1) m) (out.take at'++z::out.drop at')->Ba U0 W'->(∀b o,b≠g->W0.heap[b]?=I o->W'.heap[b]?=I o)->Q (.exit 6) a' W'):(Code.loop (Tb Tryz.f16 3)).wp Tryz.prog Q a0 W0:=by
 have HQ:=za hQ;have HU:=za hU;have Hn:=za hn;have L:Fe W0 base (M (I ⟨g,0,Z⟩) (n+1) m) (out.take n++y::out.drop n):=by
  rw[lT oM,List.drop_of_length_le oM];exact w
 clear hQ hU w hn;unfold Tb;simp only[Tryz.f16,Jb,List.cons_append,List.nil_append,List.append_nil,List.getD_cons_succ,List.getD_cons_zero];refine wp_loop_ghost_k (mV U0 W0 s g base n at' m v6 v7 l out) (n-at') ⟨n,y,ab,nE _,rfl,W,L,fun _ _ _ h=>h,hF,a⟩ ?round;clear hF a W L;intro gk aa wr hinv;obtain⟨k,y,af,ag,ac,W,w,r,hF,a⟩:=hinv;obtain rfl:=ac.symm;have q:=za w;have HX:=za W;have p:=za r;clear W r w;obtain⟨tt,dd⟩:=aa;obtain⟨f0,f2,f3,f5,f6,f7,c,d,t⟩:=hF;dsimp only at f0 f2 f3 f5 f6 f7 c d a t;subst t;obtain⟨u,hu,ht⟩:=Qf tt 161 f0;simp only[hu]at f2 f3 f5 f6 f7 c d a;clear hu f0;subst ht;simp only[List.range,List.range.loop,List.map_cons,List.map_nil,f2,f3,f5,f6,f7,c,d ,a];clear f2 f3 f5 f6 f7 c d a;intro J K hJ hK;by_cases ah:at'<k
 ·obtain⟨x,j⟩:∃x,out[k-1]?=I x:=⟨_,gE (by have:=Hn.o;omega)⟩;have v:=XL (y:=y) (show 0<k by omega) j;have R:=BR (y:=y) (show 0<k by omega) j;have f:(out.take k++y::out.drop k)[k]?=I y:=by
   rw[List.getElem?_append_right (by rw[List.length_take];omega),List.length_take,Nat.min_eq_left (by have:=Hn.o;omega),Nat.sub_self];rfl
  obtain⟨g',e,-,zg,x0,x1,x2,x3,x4,x5,-⟩:=Fe.at q.o v;cases e;obtain⟨g',e,-,-,y0,y1,y2,y3,y4,y5,-⟩:=Fe.at q.o f;cases e;have hP:=Fe.put (y:=x) q.o f;rw[R]at hP;have HP:=za hP;have yf:∀i,wr.frozen? ⟨g,i,Z⟩=false:=fun i=>q.o.frozen i;have g0:(0:Int)<=(k:Int):=oM;have g1:(k:Int)<((n+1:Nat):Int):=oM;have ad:(k:Int)<(n:Int)+1:=oM;have g2:(0:Int)<=(k:Int)-1:=oM;have g3:(k:Int)-1<((n+1:Nat):Int):=oM;have ae:(k:Int)-1<(n:Int)+1:=oM;have g4:((k:Int)-1).toNat=k-1:=oM;have kw:IntKind.i64.wrap ((k:Int)-1)=(k:Int)-1:=iW _ oM;have e0:(at':Int)<(k:Int):=oM;clear hP R v f j;go_wp2;refine Handed.intro (k-1-at') oM (hJ _ _ _ ⟨k-1,x,by omega,by omega,rfl,Ux HU.o (Vg x) (k*6) HX.o,HP.o,fun b o hb h=>(nF hb (Vg x) (k*6) wr).trans (p.o b o hb h),⟨rfl,rfl,rfl,rfl,rfl,rfl,rfl,rfl,rfl⟩,?_⟩);show (_:G)=_;go_num
 ·obtain rfl:k=at':=oM;have e0:¬(k:Int)<(k:Int):=oM;clear hJ hK;go_wp2;exact HQ.o _ _ _ ⟨rfl,rfl,rfl,rfl,rfl,rfl,rfl,rfl,rfl⟩ q.o HX.o p.o
abbrev pk(w:N)(v:G)(l:List Jt):Prop:=Sl 97 6 gH w v l
def pk.f{w w' v l}(h:pk w v l)(k:Ba w w'):pk w' v l:=Sl.ext h (fun _ _ h=>h) k
def pk.at'{w a n c l}(h:pk w (M a n c) l){i j}(g:l[i]?=I j):∃b o,a=I ⟨b,o,Z⟩/\b<w.heap.size/\∀(m:Nat) u,(yh j)[m]?=I u->w.cell? ⟨b,o+i*6+m,Z⟩=I u:=by obtain⟨b,o,d,rfl,e,p,rfl,f⟩:=Sl.at h g;exact⟨b,o,rfl,e,fun m u k=>f m u (by unfold Vg;rw[Array.getElem?_toList];exact k)⟩
def vU(U:N)(r:Ru)(L:List Jt)(t5 a:G)(W:N):Prop:=
 ∃i:Nat,a=O Y i/\i<=L.length/\Cb 3 W U.heap.size t5 (Wa r L i)/\Ba U W
def xU(U:N)(r:Ru)(L:List Jt)(rs:List Int)(i:Nat)(a:Int)(b c:G)(W:N):Prop:=
 ∃k:Nat,c=O Y k/\k<=i/\b=O Y (Di r L rs i a k)/\Ba U W
def Fp(w:N)(l:List Int)(e:Ending)(w':N):Prop:=∃v base,e=.returned v/\Cb 3 w' base v l/\w.heap.size<=base/\Ba w w'
def lG w v r L(h:pk w v L)(hB:∀j∈L,Fh j)(aB:L.length<=1000000):Calls Tryz.prog 17 #[.agg (Uf r),v] w (Fp w (Wa r L L.length)):=by
 obtain⟨a,c,rfl⟩:=h.form;obtain⟨n,hn⟩:=gX L.length;rw[hn]at h aB ⊢;have Hn:=za hn;have HL:=za h;have HB:=za hB;obtain⟨R,hR⟩:=gX (Fp w (Wa r L n));rw[hR];have HR:=za hR;have HF:=za (fun(W:N)(j k:Jt)(hj:j∈L)(hk:k∈L)=>FD W r j k (hB j hj) (hB k hk));unfold Uf at HF ⊢;clear h hB hn hR;go_in;go_wp2;obtain⟨U,hU⟩:=gX (w.alloc (Oa #[O .u8 r.skin,O Y r.pin,O Y r.wide,O Y r.lap,O Y r.step,O Y r.run,O Y r.level] 27));have X1:Ba w U:=by rw[<-hU];exact(eR _).alloc _
 have K2:U.heap[w.heap.size]?=I (Oa #[O .u8 r.skin,O Y r.pin,O Y r.wide,O Y r.lap,O Y r.step,O Y r.run,O Y r.level] 27 (0,0)):=by rw[<-hU];exact aN w _
 obtain⟨s,l⟩:=gX w.heap.size;rw[hU];simp only[l]at K2 ⊢;have HC:Ua (Da [(⟨s,0,Z⟩,O .u8 r.skin),(⟨s,1,Z⟩,O Y r.pin),(⟨s,2,Z⟩,O Y r.wide),(⟨s,3,Z⟩,O Y r.lap),(⟨s,4,Z⟩,O Y r.step),(⟨s,5,Z⟩,O Y r.run),(⟨s,6,Z⟩,O Y r.level)] U):=za ⟨Lb K2 (i:=0) rfl,Lb K2 (i:=1) rfl,Lb K2 (i:=2) rfl,Lb K2 (i:=3) rfl,Lb K2 (i:=4) rfl,Lb K2 (i:=5) rfl,Lb K2 (i:=6) rfl,trivial⟩;have ap:=za X1;have af:=za (HL.o.f X1);clear hU X1 K2 l HL;go_loopw [5,6] (vU U r L) (fun _ t6 _=>n-(intOf t6).toNat)
 case atStart=>exact⟨0,rfl,by omega,Cb.nil _ _ _,eR _⟩
 case round =>
  obtain⟨i,rfl,hi,f,hx⟩:=hrel;rw[Hn.o]at hi;obtain⟨rs,am⟩:=gX (Wa r L i);have u:=Tn r L i;rw[am]at f u;have aq:=za am;obtain⟨a5,c5,rfl⟩:=f.form;rw[u]at f ⊢;have ab:=za f;have aa:=za u;have HX:=za hx;clear f hx am u;by_cases aA:i<n
  ·obtain⟨j,ak⟩:∃j,L[i]?=I j:=⟨_,gE (by rw[Hn.o];exact aA)⟩;obtain⟨b,o,rfl,hb,hc⟩:=(af.o.f HX.o).at' ak;have ac:=za ak;unfold yh at hc;have c4:=hc 4 (O Y j.fr) rfl;have g0:(0:Int)<=(i:Int):=oM;have g1:(i:Int)<(n:Int):=oM;clear hc ak hb;go_wp2;obtain⟨V,hV⟩:∃V:N,V=wr:=⟨_,rfl⟩;rw[<-hV]at HX ab ⊢;clear c4 hV wr;go_loopw [7,8] (xU V r L rs i j.fr) (fun _ t8 _=>i-(intOf t8).toNat)
   case atStart=>exact⟨0,rfl,by omega,rfl,eR _⟩
   case round =>
    obtain⟨k,rfl,hk,rfl,hx⟩:=hrel;have z:=za hx;have f:=ab.o.keep hx.keep;clear hx;by_cases av:k<i
    ·obtain⟨q,ad⟩:∃q,L[k]?=I q:=⟨_,gE (by rw[Hn.o];omega)⟩;obtain⟨b1,o1,e1,-,p⟩:=(af.o.f (HX.o.trans z.o)).at' ac.o;cases e1;obtain⟨b2,o2,e2,-,t⟩:=(af.o.f (HX.o.trans z.o)).at' ad;cases e2;obtain⟨x,ao⟩:∃x,rs[k]?=I x:=⟨_,gE (by rw[aa.o];exact av)⟩;obtain⟨g5,rfl,-⟩:∃g,a5=I ⟨g,0,Z⟩/\True:=by
      obtain⟨aD,h9|⟨g,cap,cur,hv,-⟩⟩:=f
      ·exfalso;have:=h9.2;have:=aa.o;omega
      ·cases hv;exact⟨_,rfl,trivial⟩
     have au:=f.cell ao;have ae:=za (fun W=>HF.o W q j (lM ad) (lM ac.o));have l:=NR r L rs i j.fr k;(have hf:Pe r L i k=Qd r q j:=by unfold Pe;rw[ac.o,ad]);rw[hf,gD,ao]at l;obtain⟨m,hm⟩:=gX (Di r L rs i j.fr k);obtain⟨d,hd⟩:=gX (Qd r q j);rw[hm,hd]at l;rw[hd]at ae;rw[hm];dsimp only[Option.getD_some]at l;have K:=za l;unfold yh at p t ae;have p0:=p 0 (O Y j.a) rfl;have q0:=t 0 (O Y q.a) rfl;have p1:=p 1 (O Y j.b) rfl;have q1:=t 1 (O Y q.b) rfl;have p2:=p 2 (O Y j.left) rfl;have q2:=t 2 (O Y q.left) rfl;have p3:=p 3 (O Y j.right) rfl;have q3:=t 3 (O Y q.right) rfl;have p4:=p 4 (O Y j.fr) rfl;have q4:=t 4 (O Y q.fr) rfl;have p5:=p 5 (O Y j.til) rfl;have q5:=t 5 (O Y q.til) rfl;simp only[Nat.add_zero]at p0 q0;have r7:=cE HC.o (HX.o.trans z.o);have h0:(0:Int)<=(k:Int):=oM;have h1:(k:Int)<(n:Int):=oM;have h2:(k:Int)<(i:Int):=oM;have C2:Da [(⟨s,0,Z⟩,O .u8 r.skin),(⟨s,1,Z⟩,O Y r.pin),(⟨s,2,Z⟩,O Y r.wide),(⟨s,3,Z⟩,O Y r.lap),(⟨s,4,Z⟩,O Y r.step),(⟨s,5,Z⟩,O Y r.run),(⟨s,6,Z⟩,O Y r.level),(⟨b,o+i*6,Z⟩,O Y j.a),(⟨b,o+i*6+1,Z⟩,O Y j.b),(⟨b,o+i*6+2,Z⟩,O Y j.left),(⟨b,o+i*6+3,Z⟩,O Y j.right),(⟨b,o+i*6+4,Z⟩,O Y j.fr),(⟨b,o+i*6+5,Z⟩,O Y j.til),(⟨b,o+k*6,Z⟩,O Y q.a),(⟨b,o+k*6+1,Z⟩,O Y q.b),(⟨b,o+k*6+2,Z⟩,O Y q.left),(⟨b,o+k*6+3,Z⟩,O Y q.right),(⟨b,o+k*6+4,Z⟩,O Y q.fr),(⟨b,o+k*6+5,Z⟩,O Y q.til),(⟨g5,k,Z⟩,O Y x)] wr:=by
      obtain⟨r0,r1,r2,r3,r4,r5,r6,-⟩:=r7;exact⟨r0,r1,r2,r3,r4,r5,r6,p0,p1,p2,p3,p4,p5,q0,q1,q2,q3,q4,q5,au,trivial⟩
     clear p t ad ao au p0 p1 p2 p3 p4 p5 q0 q1 q2 q3 q4 q5 hf l hm hd f;go_upto_region 9 with fail;refine jd _ (cE C2 (eR _).drew) fun ai=>?_;clear C2 r7;refine La (i:=0) ?_;refine La (i:=1) ?_;refine La (i:=2) ?_;refine La (i:=3) ?_;refine La (i:=4) ?_;refine La (i:=5) ?_;refine La (i:=6) ?_;refine La (i:=7) ?_;refine La (i:=8) ?_;refine Ac (i:=9) (ae.o _) ?_;rintro e w3 ⟨rfl,an⟩;refine⟨_,rfl,(cE ai an),fun ai=>?_⟩;have ag:=za (z.o.trans ((eR _).drew.trans an));clear an;cases d with
     |true=>
      refine La (i:=10) ?_;refine La (i:=11) ?_;refine La (i:=12) ?_;refine La (i:=13) ?_;refine La (i:=14) ?_;refine La (i:=15) ?_;by_cases h3:x<m
      ·have l:=K.o;rw[if_pos ⟨rfl,h3⟩]at l;have Hs:=za l;have ay:=ai;obtain⟨-,-,-,-,-,-,-,-,-,-,-,-,-,-,-,-,-,-,-,k9,-⟩:=ay;clear l K;refine sN 16 ?_
       (iterate 2 refine Db ?_);refine oN ?_;refine Pb ?_;go_wp2;go_roundw
       case rel=>exact⟨k+1,by go_num,by omega,by rw[Hs.o],ag.o⟩
       case measure=>simp[intOf];omega
      ·have l:=K.o;rw[if_neg (fun h9=>h3 h9.2)]at l;have Hs:=za l;clear l K;refine sN 16 ?_
       (iterate 2 refine Db ?_);refine oN ?_;refine Pb ?_;go_wp2;go_roundw
       case rel=>exact⟨k+1,by go_num,by omega,by rw[Hs.o],ag.o⟩
       case measure=>simp[intOf];omega
     |false=>
      have l:=K.o;rw[if_neg (fun h9=>by cases h9.1)]at l;have Hs:=za l;clear l K;refine La (i:=10) ?_;refine Pa (i:=11) ?_;refine Pa (i:=12) ?_;refine Pa (i:=13) ?_;refine Pa (i:=14) ?_;refine Pa (i:=15) ?_;refine Pa (i:=16) ?_;refine La (i:=17) ?_;refine Pb ?_;go_wp2;go_roundw
      case rel=>exact⟨k+1,by go_num,by omega,by rw[Hs.o],ag.o⟩
      case measure=>simp[intOf];omega
    ·obtain rfl:k=i:=oM;have aw:Di r L rs k j.fr k=Jh r L rs k j.fr:=rfl;rw[aw];(have ax:Wa r L (k+1)=rs++[Jh r L rs k j.fr]:=by rw[Wa,aq.o,ac.o]);have ar:=za ax;obtain⟨y,hy⟩:=gX (Jh r L rs k j.fr);rw[hy]at ar ⊢;have ah:=za f;have aE:=HX.o.size;have aC:=z.o.size;clear ax hy f aw;go_wp2_with(at_builtin;refine lj (y:=y) Ek Tryz.underlying47 rfl _ _ rfl rfl ah.o rfl (by rw[aa.o];omega) oM ?_;intro v' w1 al aj az);have X4:Ba U w1:=(HX.o.trans z.o).D aj (nE _);go_roundw
     case rel=>exact⟨k+1,by go_num,by rw[Hn.o];omega,by rw[ar.o];exact al,X4⟩
     case measure=>simp[intOf];omega
  ·obtain rfl:i=n:=oM;go_wp2;rw[<-HR.o];exact⟨_,_,rfl,by rw[aq.o];exact ab.o,ap.o.size,ap.o.trans HX.o⟩
def VK:(Tryz.prog.info? 97).map (fun i=>(i.zero,i.size,i.bytes))=I (I (.agg #[O Y 0,O Y 0,O Y 0,O Y 0,O Y 0,O Y 0]),6,48):=kM
def uU(b:N)(s n i:Nat)(r:Ru)(ps:List Pl)(p:Pl)(c:Nat)(a:Act)(W:N):Prop:=
 ∃k v5 v16 v17,k<=n/\c=n-k/\Ba b W/\Fe W b.heap.size v5 (Xh r (Se ps) i (Ib i p) k)/\FJ s v5 (O Y i) (O Y k) v16 v17 a
def TH Q U0 W0(s n be gn gc i:Nat) ga pa v5 aP aQ r ps p a0(hF:FJ s v5 (O Y i) (O Y (0:Nat)) aP aQ a0)(bs:ps[i]?=I p)(hn:ps.length=n)(bW:n<=120)(hx:Ba U0 W0)(ho:Fe W0 U0.heap.size v5 (ij r (Se ps) i))(HC:Ua (Da [(⟨s,0,Z⟩,M ga gn gc),(⟨s,1,Z⟩,M pa n be),(⟨s+1,0,Z⟩,O .u8 r.skin),(⟨s+1,1,Z⟩,O Y r.pin),(⟨s+1,2,Z⟩,O Y r.wide),(⟨s+1,3,Z⟩,O Y r.lap),(⟨s+1,4,Z⟩,O Y r.step),(⟨s+1,5,Z⟩,O Y r.run),(⟨s+1,6,Z⟩,O Y r.level)] U0))(HP:Ua (Cf U0 (M pa n be) ps))(aR:Ua (∀p∈ps,Fa p=true))(bN:En Q)(hQ:∀a' W' v5 aP aQ,FJ s v5 (O Y i) (O Y n) aP aQ a'->Fe W' U0.heap.size v5 (ij r (Se ps) (i+1))->Ba U0 W'->Q (.exit 2) a' W'):(Code.loop (Tb Tryz.f16 1)).wp Tryz.prog Q a0 W0:=by
 have HQ:=za hQ;have f:=za bN;have Hn:=za hn;have a3:=za bs;have cj:i<n:=by rw[<-hn];exact(lS.1 bs).1
 clear hQ bN hn bs;unfold Tb;simp only[Tryz.f16,Jb,List.cons_append,List.nil_append,List.append_nil,List.getD_cons_succ,List.getD_cons_zero];refine wp_loop_ghost_k (uU U0 s n i r ps p) n ⟨0,v5,aP,aQ,Nat.zero_le _,rfl,hx,by rw[FN];exact ho,hF⟩ ?round;clear hF hx ho v5 aP aQ;intro gk aa wr hinv;obtain⟨k,v5,aP,aQ,hk,cd,hx,ho,hF⟩:=hinv;subst cd;obtain⟨a5,c5,rfl⟩:=ho.form;rw[lL]at ho hF;have bi:=iL r (Se ps) i (Ib i p) k;rw[ko,Hn.o]at bi;have aV:(Xh r (Se ps) i (Ib i p) k).length<=100000:=by
  have:i*n<=120*120:=Nat.mul_le_mul oM bW;omega
 have Ho:=za ho;have HX:=za hx;obtain⟨out,aW⟩:=gX (Xh r (Se ps) i (Ib i p) k);have L:=za aW;rw[aW]at Ho hF aV;obtain⟨n5,br⟩:=gX out.length;have aM:=za br;rw[br]at Ho hF aV;clear ho bi aW br;obtain⟨tt,dd⟩:=aa;obtain⟨f0,f2,f3,f5,f6,f7,ab,ac,aC⟩:=hF;dsimp only at f0 f2 f3 f5 f6 f7 ab ac  aC;subst aC;obtain⟨u,hu,ht⟩:=Qf tt 161 f0;simp only[hu]at f2 f3 f5 f6 f7 ab ac;clear hu f0;subst ht;simp only[List.range,List.range.loop,List.map_cons,List.map_nil,f2,f3,f5,f6,f7,ab,ac ];clear f2 f3 f5 f6 f7 ab ac;intro J K hJ hK;obtain⟨s0,s1,r0,r1,r2,r3,r4,r5,r6,-⟩:=cE HC.o hx;have a4:=HP.o.f hx;clear hx;by_cases ce:k<n
 ·obtain⟨q,ba⟩:∃q,ps[k]?=I q:=⟨_,gE (by rw[Hn.o];exact ce)⟩;obtain⟨b,o,v1,rfl,hb,bb,b0,ag⟩:=a4.at' a3.o;obtain⟨b',o',v2,e,-,bc,b1,ah⟩:=a4.at' ba;cases e;have bY:=aR.o p (lM a3.o);have bZ:=aR.o q (lM ba);have aK:=za (fun W (hW:Ba wr W)=>py W v1 p (bb.f hW) bY);have aL:=za (fun W (hW:Ba wr W)=>py W v2 q (bc.f hW) bZ);have a1:=za (fun W=>Ky W p v1 r.skin (by obtain⟨a,n,c,e⟩:=bb.i;exact⟨a,n,c,e⟩));have a2:=za (fun W=>Ky W q v2 r.skin (by obtain⟨a,n,c,e⟩:=bc.i;exact⟨a,n,c,e⟩));have bQ:=yr a3.o;have bq:=yr ba;have a7:=Qp aR.o (lM bQ);have a8:=Qp aR.o (lM bq);have bB:=za (fun W (hW:Ba wr W) (j:Jt)=>EM W (M ga gn gc) (M (I ⟨b,o,Z⟩) n be) ps r j ⟨_,_,_,rfl⟩ (a4.f hW) aR.o (by rw[Hn.o];exact bW));have am:Gd r ((Se ps).filter (Xf r)) (Ib i p) (Ib k q)=(((i:Int) != (k:Int))&&(decide ((qe (Ib i p) (Ib k q)).left<=(qe (Ib i p) (Ib k q)).right)&&(decide ((qe (Ib i p) (Ib k q)).right-(qe (Ib i p) (Ib k q)).left<=r.wide)&&(decide ((qe (Ib i p) (Ib k q)).fr<(qe (Ib i p) (Ib k q)).til)&&!Vd (Kb r ps) (qe (Ib i p) (Ib k q)))))):=rfl;have al:qe (Ib i p) (Ib k q)=⟨i,k,(td Prod.fst (Ca p)).2,(td Prod.fst (Ca q)).1,max (td Prod.snd (Ca p)).1 (td Prod.snd (Ca q)).1,min (td Prod.snd (Ca p)).2 (td Prod.snd (Ca q)).2⟩:=rfl;have bt:Xf r (Ib i p)=(p.skin==r.skin || p.skin==3):=rfl;have bu:Xf r (Ib k q)=(q.skin==r.skin || q.skin==3):=rfl;obtain⟨sa,sn,sc,rfl⟩:=bb.i;obtain⟨ta,tn,tc,rfl⟩:=bc.i;have e1:td Prod.fst (Ca p)=(Ib i p).x:=rfl;have e2:td Prod.snd (Ca p)=(Ib i p).z:=rfl;have e3:td Prod.fst (Ca q)=(Ib k q).x:=rfl;have e4:td Prod.snd (Ca q)=(Ib k q).z:=rfl;rw[e1,e2,e3,e4]at al;rw[e1,e2]at aK;rw[e3,e4]at aL;obtain⟨⟨xl,xh⟩,h1⟩:∃x,(Ib i p).x=x:=⟨_,rfl⟩;obtain⟨⟨zl,zh⟩,h2⟩:∃x,(Ib i p).z=x:=⟨_,rfl⟩;obtain⟨⟨g,cl⟩,h3⟩:∃x,(Ib k q).x=x:=⟨_,rfl⟩;obtain⟨⟨bA,bz⟩,h4⟩:∃x,(Ib k q).z=x:=⟨_,rfl⟩;rw[h1,h2,h3,h4]at al;rw[h1,h2]at aK a7;rw[h3,h4]at aL a8;dsimp only at al aK aL a7 a8;obtain⟨j,hj⟩:=gX (qe (Ib i p) (Ib k q));rw[hj]at al am;obtain⟨k1,bT⟩:=gX ((p.skin==r.skin || p.skin==3));obtain⟨k2,bU⟩:=gX ((q.skin==r.skin || q.skin==3));rw[bT]at bt a1;rw[bU]at bu a2;have bF:=za am;have Hj:=za hj;have b7:=za al;have Hs:=za (And.intro bt bu);have aE:=za bq;have g0:(0:Int)<=(i:Int):=oM;have g1:(i:Int)<(n:Int):=oM;have g2:(0:Int)<=(k:Int):=oM;have g3:(k:Int)<(n:Int):=oM;have kw:IntKind.i64.wrap (g-xh)=g-xh:=iW _ (by unfold Bd at a7 a8;omega);unfold Dd at ag ah aK aL a1 a2;have ak:=ag 0 (.string p.name) rfl;have d0:=ah 0 (.string q.name) rfl;have ao:=ag 1 (M sa sn sc) rfl;have d1:=ah 1 (M ta tn tc) rfl;have ap:=ag 2 (O Y p.depth) rfl;have d2:=ah 2 (O Y q.depth) rfl;have aq:=ag 3 (O Y p.density) rfl;have d3:=ah 3 (O Y q.density) rfl;have ar:=ag 4 (O Y p.gx) rfl;have d4:=ah 4 (O Y q.gx) rfl;have au:=ag 5 (O Y p.gz) rfl;have d5:=ah 5 (O Y q.gz) rfl;have av:=ag 6 (O Y p.way) rfl;have d6:=ah 6 (O Y q.way) rfl;have aw:=ag 7 (O Y p.ax) rfl;have d7:=ah 7 (O Y q.ax) rfl;have ay:=ag 8 (O Y p.az) rfl;have d8:=ah 8 (O Y q.az) rfl;have aA:=ag 9 (O .u8 p.skin) rfl;have d9:=ah 9 (O .u8 q.skin) rfl;simp only[Nat.add_zero]at ak d0;have CR:Da [(⟨s,0,Z⟩,M ga gn gc),(⟨s,1,Z⟩,M (I ⟨b,o,Z⟩) n be),(⟨s+1,0,Z⟩,O .u8 r.skin),(⟨s+1,1,Z⟩,O Y r.pin),(⟨s+1,2,Z⟩,O Y r.wide),(⟨s+1,3,Z⟩,O Y r.lap),(⟨s+1,4,Z⟩,O Y r.step),(⟨s+1,5,Z⟩,O Y r.run),(⟨s+1,6,Z⟩,O Y r.level),(⟨b,o+i*10,Z⟩,.string p.name),(⟨b,o+i*10+1,Z⟩,M sa sn sc),(⟨b,o+i*10+2,Z⟩,O Y p.depth),(⟨b,o+i*10+3,Z⟩,O Y p.density),(⟨b,o+i*10+4,Z⟩,O Y p.gx),(⟨b,o+i*10+5,Z⟩,O Y p.gz),(⟨b,o+i*10+6,Z⟩,O Y p.way),(⟨b,o+i*10+7,Z⟩,O Y p.ax),(⟨b,o+i*10+8,Z⟩,O Y p.az),(⟨b,o+i*10+9,Z⟩,O .u8 p.skin),(⟨b,o+k*10,Z⟩,.string q.name),(⟨b,o+k*10+1,Z⟩,M ta tn tc),(⟨b,o+k*10+2,Z⟩,O Y q.depth),(⟨b,o+k*10+3,Z⟩,O Y q.density),(⟨b,o+k*10+4,Z⟩,O Y q.gx),(⟨b,o+k*10+5,Z⟩,O Y q.gz),(⟨b,o+k*10+6,Z⟩,O Y q.way),(⟨b,o+k*10+7,Z⟩,O Y q.ax),(⟨b,o+k*10+8,Z⟩,O Y q.az),(⟨b,o+k*10+9,Z⟩,O .u8 q.skin)] wr:=⟨s0,s1,r0,r1,r2,r3,r4,r5,r6,ak,ao,ap,aq,ar,au,av,aw,ay,aA,d0,d1,d2,d3,d4,d5,d6,d7,d8,d9,trivial⟩;have aZ:=za CR;have D:Ba wr wr.drew:=(eR wr).drew;clear am hj al bt bu bQ bq a7 a8 ag ah bb bc b0 b1 bY bZ ba e1 e2 e3 e4 h1 h2 h3 h4 bT bU a4 s0 r0 r1 r2 r3 r4 r5 r6 ak ao ap aq ar au av aw ay aA d0 d1 d2 d3 d4 d5 d6 d7 d8 d9 CR;go_upto_region 8 with fail;refine jd _ (cE aZ.o D) fun aO=>?_;clear s1;by_cases aU:i=k
  ·have e0:((i:Int)==(k:Int))=true:=by simp[aU]
   have l:Xh r (Se ps) i (Ib i p) (k+1)=out:=by
    rw[tr aE.o (by rw[bF.o,show ((i:Int) != (k:Int))=false by simp[aU]];exact Bool.and_false _),L.o]
   have ae:=za l;clear l aU;refine La (i:=0) (h4:=Ic f) ?_;refine La (i:=1) (h4:=Ic f) ?_;refine La (i:=2) (h4:=Ic f) ?_;refine La (i:=3) (h4:=Ic f) ?_;refine Pa (i:=4) (h4:=Ic f) ?_;refine Pa (i:=5) (h4:=Ic f) ?_;refine Pa (i:=6) (h4:=Ic f) ?_;refine Pa (i:=7) (h4:=Ic f) ?_;refine Pa (i:=8) (h4:=Ic f) ?_;refine Pa (i:=9) (h4:=Ic f) ?_;refine Pa (i:=10) (h4:=Ic f) ?_;refine Pa (i:=11) (h4:=Ic f) ?_;refine Pa (i:=12) (h4:=Ic f) ?_;refine La (i:=13) (h4:=Ic f) ?_;refine La (i:=14) (h4:=Ic f) ?_;refine Pa (i:=15) (h4:=Ic f) ?_;refine Pa (i:=16) (h4:=Ic f) ?_;refine Pa (i:=17) (h4:=Ic f) ?_;refine Pa (i:=18) (h4:=Ic f) ?_;refine Pa (i:=19) (h4:=Ic f) ?_;refine Pa (i:=20) (h4:=Ic f) ?_;refine Pa (i:=21) (h4:=Ic f) ?_;refine Pa (i:=22) (h4:=Ic f) ?_;refine Pa (i:=23) (h4:=Ic f) ?_;refine La (i:=24) (h4:=Ic f) ?_;refine Pb ?_;go_wp2;refine Handed.intro (n-(k+1)) oM (hJ _ _ _ ⟨k+1,_,_,_,by omega,rfl,HX.o.trans D,by rw[ae.o];exact Ho.o.ext D,⟨rfl,rfl,rfl,rfl,rfl,?_,rfl,rfl,rfl⟩⟩);show (_:G)=_;go_num
  have e0:((i:Int)==(k:Int))=false:=by simp;omega
  have ci:(i==k)=false:=by simpa using aU
  have bM:((i:Int) != (k:Int))=true:=by simp;omega
  have bE:=za bM;clear bM aU;refine La (i:=0) (h4:=Ic f) ?_;refine La (i:=1) (h4:=Ic f) ?_;refine La (i:=2) (h4:=Ic f) ?_;refine La (i:=3) (h4:=Ic f) ?_;refine La (i:=4) (h4:=Ic f) ?_;refine La (i:=5) (h4:=Ic f) ?_;refine La (i:=6) (h4:=Ic f) ?_;refine La (i:=7) (h4:=Ic f) ?_;refine La (i:=8) (h4:=Ic f) ?_;refine La (i:=9) (h4:=Ic f) ?_;refine La (i:=10) (h4:=Ic f) ?_;refine Ac (i:=11) (a1.o _) ?_;rintro e w3 ⟨rfl,bv⟩;refine⟨_,rfl,(cE aO bv),fun aO=>?_⟩;have X3:=D.trans bv;cases k1 with
  |false=>
   have l:Xh r (Se ps) i (Ib i p) (k+1)=out:=by rw[gL Hs.o.1,L.o]
   have ae:=za l;clear l;refine La (i:=12) (h4:=Ic f) ?_;refine La (i:=13) (h4:=Ic f) ?_;refine La (i:=14) (h4:=Ic f) ?_;refine Pa (i:=15) (h4:=Ic f) ?_;refine Pa (i:=16) (h4:=Ic f) ?_;refine Pa (i:=17) (h4:=Ic f) ?_;refine Pa (i:=18) (h4:=Ic f) ?_;refine Pa (i:=19) (h4:=Ic f) ?_;refine Pa (i:=20) (h4:=Ic f) ?_;refine Pa (i:=21) (h4:=Ic f) ?_;refine Pa (i:=22) (h4:=Ic f) ?_;refine Pa (i:=23) (h4:=Ic f) ?_;refine La (i:=24) (h4:=Ic f) ?_;refine Pb ?_;go_wp2;refine Handed.intro (n-(k+1)) oM (hJ _ _ _ ⟨k+1,_,_,_,by omega,rfl,HX.o.trans X3,by rw[ae.o];exact Ho.o.ext X3,⟨rfl,rfl,rfl,rfl,rfl,?_,rfl,rfl,rfl⟩⟩);show (_:G)=_;go_num
  |true=>
   refine La (i:=12) (h4:=Ic f) ?_;refine La (i:=13) (h4:=Ic f) ?_;refine La (i:=14) (h4:=Ic f) ?_;refine La (i:=15) (h4:=Ic f) ?_;refine La (i:=16) (h4:=Ic f) ?_;refine La (i:=17) (h4:=Ic f) ?_;refine La (i:=18) (h4:=Ic f) ?_;refine La (i:=19) (h4:=Ic f) ?_;refine La (i:=20) (h4:=Ic f) ?_;refine La (i:=21) (h4:=Ic f) ?_;refine Ac (i:=22) (a2.o _) ?_;rintro e w4 ⟨rfl,bw⟩;refine⟨_,rfl,(cE aO bw),fun aO=>?_⟩;have X4:=X3.trans bw;cases k2 with
   |false=>
    (have l:Xh r (Se ps) i (Ib i p) (k+1)=out:=by rw[tr aE.o (by rw[Hs.o.2];rfl),L.o]);have ae:=za l;clear l;refine La (i:=23) (h4:=Ic f) ?_;refine La (i:=24) (h4:=Ic f) ?_;refine Pb ?_;go_wp2;refine Handed.intro (n-(k+1)) oM (hJ _ _ _ ⟨k+1,_,_,_,by omega,rfl,HX.o.trans X4,by rw[ae.o];exact Ho.o.ext X4,⟨rfl,rfl,rfl,rfl,rfl,?_,rfl,rfl,rfl⟩⟩);show (_:G)=_;go_num
   |true=>
    refine La (i:=23) (h4:=Ic f) ?_;refine La (i:=24) (h4:=Ic f) ?_;refine Pb ?_;clear aO a1 a2;obtain⟨s0,s1,r0,r1,r2,r3,r4,r5,r6,ak,ao,ap,aq,ar,au,av,aw,ay,aA,d0,d1,d2,d3,d4,d5,d6,d7,d8,d9,-⟩:=cE aZ.o (X4);go_upto_region 10 with (go_at_call 43;refine cM (aK.o _ X4) ?_;rintro e w5 ⟨rfl,b2⟩);clear s0 s1 r0 r1 r2 r3 r4 r5 r6 ak ao ap aq ar au av aw ay aA d0 d1 d2 d3 d4 d5 d6 d7 d8 d9;have X5:=X4.trans b2;obtain⟨s0,s1,r0,r1,r2,r3,r4,r5,r6,ak,ao,ap,aq,ar,au,av,aw,ay,aA,d0,d1,d2,d3,d4,d5,d6,d7,d8,d9,-⟩:=cE aZ.o (X5);go_upto_if 89 with (go_at_call 43;refine cM (aL.o _ X5) ?_;rintro e w6 ⟨rfl,b3⟩);clear s0 s1 r0 r1 r2 r3 r4 r5 r6 ak ao ap aq ar au av aw ay aA d0 d1 d2 d3 d4 d5 d6 d7 d8 d9;have X6:=X5.trans b3;clear bv bw b2 b3 X3 X4 X5 aK aL;have bC:=za X6;obtain⟨R,aB⟩:=gX w6.heap.size;obtain⟨W7,a6⟩:=gX (w6.alloc (Oa #[O Y i,O Y k,O Y xh,O Y g,O Y zl,O Y zh] 97));(have K7:W7.heap[R]?=I (Oa #[O Y i,O Y k,O Y xh,O Y g,O Y zl,O Y zh] 97 (0,0)):=by rw[<-a6,<-aB];exact aN w6 _);(have X7:Ba w6 W7:=by rw[<-a6];exact(eR _).alloc _);have b5:w6.heap.size<=R:=Nat.le_of_eq aB;rw[a6,aB];have bI:=za aB;clear a6 aB X6;obtain⟨mx,cg⟩:=gX (max zl bA);obtain⟨mn,cf⟩:=gX (min zh bz);have al:=b7.o;rw[cg,cf]at al;subst al;go_cut [16]from 19 to 161 (fun bx W=>bx=A (I ⟨R,0,Z⟩)/\W.heap[R]?=I (Oa #[O Y i,O Y k,O Y xh,O Y g,O Y mx,O Y zh] 97 (0,0))/\Ba w6 W)
    case first =>
     by_cases hc:zl<bA
     ·obtain rfl:bA=mx:=oM;have x4:=Aa K7 4 (O Y zl);have xf:=Za K7;go_wp2;go_meet;exact⟨rfl,Sk K7 4 _,X7.set (by exact b5) _⟩
     ·obtain rfl:zl=mx:=oM;go_wp2;go_meet;exact⟨rfl,K7,X7⟩
    case rest =>
     obtain⟨W8,rfl⟩:∃V,V=wc:=⟨_,rfl⟩;obtain⟨rfl,K8,X8⟩:=hcut;clear K7 X7;go_upto_if 94 with fail;go_cut [16]from 19 to 161 (fun bx W=>bx=A (I ⟨R,0,Z⟩)/\W.heap[R]?=I (Oa #[O Y i,O Y k,O Y xh,O Y g,O Y mx,O Y mn] 97 (0,0))/\Ba w6 W)
     case first =>
      by_cases hc:bz<zh
      ·obtain rfl:bz=mn:=oM;have x4:=Aa K8 5 (O Y zh);have xf:=Za K8;go_wp2;go_meet;exact⟨rfl,Sk K8 5 _,X8.set (by exact b5) _⟩
      ·obtain rfl:zh=mn:=oM;go_wp2;go_meet;exact⟨rfl,K8,X8⟩
     case rest =>
      obtain⟨W9,rfl⟩:∃V,V=wc:=⟨_,rfl⟩;obtain⟨rfl,K9,X9⟩:=hcut;clear K8 X8;have XW:=bC.o.trans X9;have ai:=za XW;have b6:=za K9;have am:=bF.o;dsimp only at am;rw[bE.o]at am;obtain⟨F,hF⟩:=gX (Vd (Kb r ps) ⟨(i:Int),(k:Int),xh,g,mx,mn⟩);have aJ:=za (fun W (hW:Ba wr W)=>bB.o W hW ⟨(i:Int),(k:Int),xh,g,mx,mn⟩);rw[hF]at am aJ;unfold yh Uf at aJ;dsimp only at aJ;have an:=za am;obtain⟨s0,s1,r0,r1,r2,r3,r4,r5,r6,ak,ao,ap,aq,ar,au,av,aw,ay,aA,d0,d1,d2,d3,d4,d5,d6,d7,d8,d9,-⟩:=cE aZ.o (XW);have x0:=Aa K9 0 (O Y i);have x1:=Aa K9 1 (O Y k);have x2:=Aa K9 2 (O Y xh);have x3:=Aa K9 3 (O Y g);have x4:=Aa K9 4 (O Y mx);have x5:=Aa K9 5 (O Y mn);clear am hF bB X9 K9 XW;by_cases hA:g<xh
      ·have l:Xh r (Se ps) i (Ib i p) (k+1)=out:=by
        rw[tr aE.o (by rw[an.o,show decide (xh<=g)=false by simp;omega];exact Bool.and_false _),L.o]
       have ae:=za l;clear l;go_wp2;refine Handed.intro (n-(k+1)) oM (hJ _ _ _ ⟨k+1,_,_,_,by omega,rfl,HX.o.trans ai.o,by rw[ae.o];exact Ho.o.ext ai.o,⟨rfl,rfl,rfl,rfl,rfl,?_,rfl,rfl,rfl⟩⟩);show (_:G)=_;go_num
      by_cases hB:r.wide<g-xh
      ·have l:Xh r (Se ps) i (Ib i p) (k+1)=out:=by
        rw[tr aE.o (by rw[an.o,show decide (g-xh<=r.wide)=false by simp;omega];simp),L.o]
       have ae:=za l;clear l;go_wp2;refine Handed.intro (n-(k+1)) oM (hJ _ _ _ ⟨k+1,_,_,_,by omega,rfl,HX.o.trans ai.o,by rw[ae.o];exact Ho.o.ext ai.o,⟨rfl,rfl,rfl,rfl,rfl,?_,rfl,rfl,rfl⟩⟩);show (_:G)=_;go_num
      by_cases hC:mn<=mx
      ·have l:Xh r (Se ps) i (Ib i p) (k+1)=out:=by
        rw[tr aE.o (by rw[an.o,show decide (mx<mn)=false by simp;omega];simp),L.o]
       have ae:=za l;clear l;go_wp2;refine Handed.intro (n-(k+1)) oM (hJ _ _ _ ⟨k+1,_,_,_,by omega,rfl,HX.o.trans ai.o,by rw[ae.o];exact Ho.o.ext ai.o,⟨rfl,rfl,rfl,rfl,rfl,?_,rfl,rfl,rfl⟩⟩);show (_:G)=_;go_num
      cases F with
      |true=>
       have l:Xh r (Se ps) i (Ib i p) (k+1)=out:=by
        rw[tr aE.o (by rw[an.o];simp),L.o]
       have ae:=za l;clear l;go_wp2_with(go_at_call 44;refine cM (aJ.o _ ai.o) ?_;rintro e b4 ⟨rfl,aj⟩);refine Handed.intro (n-(k+1)) oM (hJ _ _ _ ⟨k+1,_,_,_,by omega,rfl,HX.o.trans (ai.o.trans aj),by rw[ae.o];exact(Ho.o.ext (ai.o.trans aj)),⟨rfl,rfl,rfl,rfl,rfl,?_,rfl,rfl,rfl⟩⟩);show (_:G)=_;go_num
      |false=>
       have bm:Xh r (Se ps) i (Ib i p) (k+1)=Zg out ⟨(i:Int),(k:Int),xh,g,mx,mn⟩:=by
        rw[fL aE.o Hs.o.1 (by rw[an.o,Hs.o.2,show decide (xh<=g)=true by simp;omega,show decide (g-xh<=r.wide)=true by simp;omega,show decide (mx<mn)=true by simp;omega];rfl),L.o,Hj.o]
       have bH:=za bm;clear bm;go_wp2_with(go_at_call 44;refine cM (aJ.o _ ai.o) ?_;rintro e b4 ⟨rfl,aj⟩);have bK:=ai.o.trans aj;have bg:=za bK;have aF:=za (aj.e b6.o);clear s0 s1 r0 r1 r2 r3 r4 r5 r6 ak ao ap aq ar au av aw ay aA d0 d1 d2 d3 d4 d5 d6 d7 d8 d9;clear x0 x1 x2 x3 x4 x5 aJ aj bK aO;refine BH _ b4 s n5 c5 U0.heap.size R a5 _ _ ⟨(i:Int),(k:Int),xh,g,mx,mn⟩ out _ ⟨rfl,rfl,rfl,rfl,rfl,rfl,rfl,rfl,rfl⟩ oM (Ho.o.ext bg.o) ⟨Lb aF.o (i:=0) rfl,Lb aF.o (i:=1) rfl,Lb aF.o (i:=2) rfl,Lb aF.o (i:=3) rfl,Lb aF.o (i:=4) rfl,Lb aF.o (i:=5) rfl,trivial⟩ (fun c a d v w h=>f.o c a d v w h) (fun a' bo hF aY=>?_);obtain⟨at',bp⟩:∃m,Id ⟨(i:Int),(k:Int),xh,g,mx,mn⟩ out n5=m:=⟨_,rfl⟩;rw[bp]at hF;have bD:=za bp;have aS:=za (bg.o.trans aY);have af:=za (aY.e aF.o);clear bp aY;obtain⟨tt,dd⟩:=a';obtain⟨f0,f2,f3,f5,f6,f7,ab,ac,aC⟩:=hF;dsimp only at f0 f2 f3 f5 f6 f7 ab ac  aC;subst aC;obtain⟨u,hu,ht⟩:=Qf tt 161 f0;simp only[hu]at f2 f3 f5 f6 f7 ab ac;clear hu f0;subst ht;simp only[List.range,List.range.loop,List.map_cons,List.map_nil,f2,f3,f5,f6,f7,ab,ac ];clear f2 f3 f5 f6 f7 ab ac;have x0:=Aa af.o 0 (O Y i);have x1:=Aa af.o 1 (O Y k);have x2:=Aa af.o 2 (O Y xh);have x3:=Aa af.o 3 (O Y g);have x4:=Aa af.o 4 (O Y mx);have x5:=Aa af.o 5 (O Y mn);have bh:=Ho.o.ext aS.o;have bk:∀m,(Value.slice a5 n5 c5).ownBlock=I m->U0.heap.size<=m/\m<R:=fun m hm=>by
        have h1:=(Ho.o.lt m hm).2;have h2:=(Ho.o.lt m hm).1;have h3:=bC.o.size;have h4:=bI.o;omega
       have aT:=za bk;have bG:=za (HX.o.trans aS.o).size;have ch:IntKind.i64.wrap (n5:Int)=(n5:Int):=iW _ oM;(have ck:IntKind.i64.wrap (((n5+1:Nat):Int)-1)=(n5:Int):=by rw[show ((n5+1:Nat):Int)-1=(n5:Int) by omega];exact ch);(have bV:(out.map Vg).length=n5:=by rw[lL];exact aM.o);clear bk;go_wp2_with(at_builtin;(refine Mi (T:=97) (t:=44) (z:=.agg #[O Y 0,O Y 0,O Y 0,O Y 0,O Y 0,O Y 0]) (k:=6) (bytes:=48) (base:=U0.heap.size) (v:=M a5 n5 c5) (cs:=out.map Vg) (m:=1) (c:=1) (ad:=⟨bo.heap.size,0,Z⟩) VK rfl dM dM Tryz.underlying44 rfl _ _ rfl rfl (bh.ext ((eR _).alloc _)) rfl [[O Y i,O Y k,O Y xh,O Y g,O Y mx,O Y mn]] rfl sM (by exact Mo bo #[O Y i,O Y k,O Y xh,O Y g,O Y mx,O Y mn] 97) (by simp[Value.oneCell']) oM (by have:=bG.o;simp only[wZ];omega) ?_);intro v' bf aD aH bj;obtain⟨a9,n9,c9,rfl⟩:=aD.i;have e9:n9=n5+1:=(by rw[aD.len,lA,bV];rfl);subst e9);obtain⟨g9,rfl,cb,cc⟩:=aD.blk sM;have ca:=Ya af.o;have bX:R≠g9:=by
        intro e;subst e;rcases bj with h|h
        ·have:=(aT.o R h.symm).2;omega
        ·have:=Option.some.inj h;simp only[wZ]at this;omega
       have bJ:bf.heap[R]?=I (Oa #[O Y i,O Y k,O Y xh,O Y g,O Y mx,O Y mn] 97 (0,0)):=(aH.block R (by simp only[wZ];omega) (fun e=>by have:=(aT.o R e.symm).2;omega)).trans (((eR bo).alloc _).e af.o);have bL:Ba U0 bf:=((HX.o.trans aS.o).alloc _).D (Yg (base:=U0.heap.size) aH (by have:=bG.o;simp only[wZ];omega) (fun m hm=>(aT.o m hm).1)) (nE _);have aX:Fe bf U0.heap.size (M (I ⟨g9,0,Z⟩) (n5+1) c9) (out++[⟨(i:Int),(k:Int),xh,g,mx,mn⟩]):=by
        unfold Fe;rw[List.map_append];exact aD
       (have bO:at'<=n5:=by rw[<-bD.o];exact(nz _ out n5 (by rw[aM.o];omega)).1);have HL:=za (And.intro bX (And.intro bJ (And.intro cb bO)));clear x0 x1 x2 x3 x4 x5 aD aH bj bX bJ cc ca bh bV bO;refine EN _ U0 bf s g9 U0.heap.size n5 at' c9 _ _ _ out ⟨(i:Int),(k:Int),xh,g,mx,mn⟩ _ ⟨rfl,rfl,rfl,rfl,rfl,rfl,rfl,rfl,rfl⟩ rfl HL.o.2.2.2 aM.o oM aX bL HL.o.2.2.1 (fun b9 b8 z hF aI bl bP=>?_);have aG:=bP R _ HL.o.1 HL.o.2.1;have hz:(out.take at'++z::out.drop at')[at']?=I z:=by
        rw[List.getElem?_append_right (by rw[List.length_take];omega),List.length_take,Nat.min_eq_left (by rw[aM.o];exact HL.o.2.2.2),Nat.sub_self];rfl
       obtain⟨g',e,-,zg,y0,y1,y2,y3,y4,y5,-⟩:=Fe.at aI hz;cases e;have hP:=Fe.put (y:=⟨(i:Int),(k:Int),xh,g,mx,mn⟩) aI hz;rw[WN (by rw[aM.o];exact HL.o.2.2.2)]at hP;have hI:Xh r (Se ps) i (Ib i p) (k+1)=out.take at'++⟨(i:Int),(k:Int),xh,g,mx,mn⟩::out.drop at':=by
        rw[bH.o];unfold Zg;rw[aM.o,bD.o]
       have bn:=za (And.intro hP (And.intro hI bl));have yf:∀i,b8.frozen? ⟨g9,i,Z⟩=false:=fun i=>aI.frozen i;have x0:=Aa aG 0 (O Y i);have x1:=Aa aG 1 (O Y k);have x2:=Aa aG 2 (O Y xh);have x3:=Aa aG 3 (O Y g);have x4:=Aa aG 4 (O Y mx);have x5:=Aa aG 5 (O Y mn);have q0:(0:Int)<=(at':Int):=oM;(have q1:(at':Int)<(n5:Int)+1:=by have:=HL.o.2.2.2;omega);(have q2:(at':Int)<((n5+1:Nat):Int):=by have:=HL.o.2.2.2;omega);clear hP hI bl aI hz aX bL bP aG;obtain⟨tt,dd⟩:=b9;obtain⟨f0,f2,f3,f5,f6,f7,ab,ac,aC⟩:=hF;dsimp only at f0 f2 f3 f5 f6 f7 ab ac  aC;subst aC;obtain⟨u,hu,ht⟩:=Qf tt 161 f0;simp only[hu]at f2 f3 f5 f6 f7 ab ac;clear hu f0;subst ht;simp only[List.range,List.range.loop,List.map_cons,List.map_nil,f2,f3,f5,f6,f7,ab,ac ];clear f2 f3 f5 f6 f7 ab ac;go_wp2;refine Handed.intro (n-(k+1)) oM (hJ _ _ _ ⟨k+1,_,_,_,by omega,rfl,Ux HL.o.2.2.1 (Vg ⟨(i:Int),(k:Int),xh,g,mx,mn⟩) (at'*6) bn.o.2.2,by rw[bn.o.2.1];exact bn.o.1,⟨rfl,rfl,rfl,rfl,rfl,?_,rfl,rfl,rfl⟩⟩);show (_:G)=_;go_num
 ·obtain rfl:k=n:=oM;have e:out=ij r (Se ps) (i+1):=by
   rw[<-L.o];have:=jL (r:=r) (yr a3.o);rw[ko,Hn.o]at this;exact this
  have E:=za e;clear e hJ hK;go_wp2;refine HQ.o _ _ _ _ _ ⟨rfl,rfl,rfl,rfl,rfl,rfl,rfl,rfl,rfl⟩ ?_ HX.o;rw[<-E.o];exact Ho.o
def pN w base g n c(zs:List Int)(h:Ea 3 1 w base (M (I ⟨g,0,Z⟩) n c) (zs.map ic))(p:zs.length<=1000000000):Calls Tryz.prog 65 #[M (I ⟨g,0,Z⟩) n c] w fun e a=>e=.returned (Oc #[])/\Ea 3 1 a base (M (I ⟨g,0,Z⟩) n c) (zs.reverse.map ic)/\w.grownBy a (I g):=by
 obtain⟨b,m,rfl,f,i,j,cur,h6,k,o⟩:=h.ints;refine(Tryz.slices_Reverse_int g 0 c zs w j oM).mono ?_;rintro e a ⟨rfl,q,rfl⟩;have l:∀d,w.grownBy (putRow (Value.int Y) (Sort.ahead w q) g 0 d) (I g):=fun d=>by
  have:=grownBy_sortedI (w:=w) (g:=g) (n:=q) (os:=#[]) d
  rwa [grow_empty]at this
 refine⟨rfl,⟨ms,?_⟩,l _⟩;have:=ownsRow_sortedI (base:=base) (n:=q) (os:=#[]) (ss:=zs) (ts:=zs.reverse) (List.length_reverse ..) b h6 f i k;rw[grow_empty]at this;rw[Ar,lL,List.length_reverse];exact this
def MK{F L P T t k bytes z w base v cs ops rest o a Q}(d:(P.info? T).map (fun i=>(i.zero,i.size,i.bytes))=I (I z,k,bytes))(y:z.cells.size=k)(hk:0<k)(n:bytes<=1000)(ht:P.underlying t=I (.slice T))(q:o.guard=Z) s x(r:o.op = .call { callee:=.builtin .append,args:=#[s,x],argTypes:=#[t,t] })(hs:a.eval s=v)(g:Ea T k w base v cs){ad m c}(hx:a.eval x=M (I ad) m c)
   ds(hm:ds.length=m)(hd:∀c∈ds,c.length=k)(e:∀(j:Nat) u,ds.flatten[j]?=I u->w.cell? (ad.add j)=I u)(R:∀u∈ds.flatten,u.oneCell'=true)(f:cs.length+m<=100000000000)(b:base<=w.heap.size)
  (h:∀v' w',Ea T k w' base v' (cs++ds)->w.grownBy w' v.ownBlock->(v'.ownBlock=v.ownBlock\/v'.ownBlock=I w.heap.size)->wpListIn F L P ops Q rest (a.put o.dst v') w'):wpListIn F L P ops Q (o::rest) a w:=by
 obtain⟨v',w',l,W,h3,h4⟩:=Dv (P:=P) o.type d y hk n ht g hm hd e R f b (c:=c);refine wpListIn_plain q fun K hK=>?_;unfold Oper.wpIn;refine⟨?_,?_⟩
 ·simp[Oper.about,r,resolve,Target.leads,Sem.run_pure]
 ·rw[Oper.semAt_plain F _ _ (by rw[r];intro c p;cases p)];simp[execOp,r,resolve,invoke,builtin,hs,hx,l,Result.andThen];exact hK _ _ (h v' w' W h3 h4)
def BL{w:N}{base} z(a:base<=w.heap.size):Ea 3 1 (w.alloc (Oa #[O Y z] 3)) base (M (I ⟨w.heap.size,0,Z⟩) 1 1) [ic z]:=
 ⟨fun c b=>by rw[List.mem_singleton.1 b];rfl,⟨by simp[ic],.inr ⟨w.heap.size,1,#[O Y z],rfl,a,aN w _,by simp,by simp[maxLen],by simp,by simp[ic]⟩⟩⟩
structure Ln (r:Ru) (L:List Jt) (rs:List Int) (last:Nat) (cn:List Nat) (k:Nat):Prop where
 top:cn.head?=I last
 low:cn.getLast?=I k
 fol:∀i a b,cn[i]?=I a->cn[i+1]?=I b->Pe r L a b=true
 all:∀x∈cn,x<L.length/\rs.getD x 0=rs.getD last 0
 fst:∀i a b,cn[i]?=I a->cn[i+1]?=I b->(∀y,y<b->Pe r L a y=true->rs.getD y 0≠rs.getD a 0)/\∀j,L[a]?=I j->j.fr≠rs.getD a 0
 high:∀j,j<last->Af L rs j<Af L rs last
 len:cn.length+k<=last+1
def Ln.one{r L rs last}(h:last<L.length)(d:∀j,j<last->Af L rs j<Af L rs last):Ln r L rs last [last] last:=
 ⟨rfl,rfl,fun i a b _ c=>by simp at c,fun x e=>by rw[List.mem_singleton.1 e];exact⟨h,rfl⟩,fun i a b _ c=>by simp at c,d,by simp;omega⟩
def Ln.snoc{r L rs last g k i}(h:Ln r L rs last g k)(p:Pe r L k i=true)(hi:i<L.length)(t:rs.getD i 0=rs.getD k 0)(q:i<k)(n:(∀y,y<i->Pe r L k y=true->rs.getD y 0≠rs.getD k 0)/\∀j,L[k]?=I j->j.fr≠rs.getD k 0):Ln r L rs last (g++[i]) i:=by
 have s:=h.all k (List.mem_of_getLast? h.low);refine⟨by rw[List.head?_append,h.top];rfl,by simp,fun j a b d c=>?_,fun x m=>?_,fun j a b d c=>?_,h.high,by have:=h.len;rw[lA,List.length_singleton];omega⟩
 ·have o:=(lS.1 c).1;rw[lA,List.length_singleton]at o;by_cases f:j+1<g.length
  ·rw[List.getElem?_append_left f]at c;rw[List.getElem?_append_left oM]at d;exact h.fol j a b d c
  ·have e:g.length=j+1:=oM;rw[List.getElem?_append_right oM,e,Nat.sub_self]at c;rw[List.getElem?_append_left oM]at d;have l:=h.low;rw[List.getLast?_eq_getElem?,e,Nat.add_sub_cancel,d]at l;cases l;cases c;exact p
 ·rcases List.mem_append.1 m with m|m
  ·exact h.all x m
  ·rw[List.mem_singleton.1 m];exact⟨hi,t.trans s.2⟩
 ·have o:=(lS.1 c).1;rw[lA,List.length_singleton]at o;by_cases f:j+1<g.length
  ·rw[List.getElem?_append_left f]at c;rw[List.getElem?_append_left oM]at d;exact h.fst j a b d c
  ·have e:g.length=j+1:=oM;rw[List.getElem?_append_right oM,e,Nat.sub_self]at c;rw[List.getElem?_append_left oM]at d;have l:=h.low;rw[List.getLast?_eq_getElem?,e,Nat.add_sub_cancel,d]at l;cases l;cases c;exact n
def kQ{r L k x p}(h:p++[x] <+: Wf r L k):∀y,y<x->Pe r L k y=true->y∈p:=by
 intro y g e;obtain⟨t,c⟩:=h;have b:(Wf r L k).Pairwise (·<·):=by unfold Wf;exact List.Pairwise.filter _ List.pairwise_lt_range
 have d:x∈Wf r L k:=by rw[<-c];simp
 have f:x<k:=by unfold Wf at d;exact List.mem_range.1 (List.mem_filter.1 d).1
 have a:y∈Wf r L k:=by unfold Wf;exact List.mem_filter.2 ⟨List.mem_range.2 oM,e⟩
 rw[<-c]at a b;rcases List.mem_append.1 a with a|a
 ·rcases List.mem_append.1 a with a|a
  ·exact a
  ·rw[List.mem_singleton.1 a]at g;omega
 ·have:=(List.pairwise_append.1 b).2.2 x sM y a;omega
def KG(f:Nat->Int):∀(l:List Nat) a ,l.foldl (fun o i=>min o (f i)) a=a\/∃i∈l,l.foldl (fun o i=>min o (f i)) a=f i
 | [],a=>.inl rfl
 | x::l,a=>by
  rw[List.foldl_cons];rcases KG f l (min a (f x))with h|⟨i,b,h⟩
  ·rw[h];by_cases q:a<=f x
   ·exact .inl (by omega)
   ·exact .inr ⟨x,by simp,by omega⟩
  ·exact .inr ⟨i,mC _ b,h⟩
def jO{r L k j}(d:L[k]?=I j)(a:j.fr≠(Wa r L L.length).getD k 0):∃i∈Wf r L k,(Wa r L L.length).getD i 0=(Wa r L L.length).getD k 0:=by
 have f:=(lS.1 d).1;have e:(Wa r L L.length).getD k 0=Jh r L (Wa r L k) k j.fr:=by
  rw[Yy r L L.length (k+1) k oM oM];show (Wa r L k++_).getD k 0=_;rw[gD,List.getElem?_append_right (by rw[Tn];omega),Tn,Nat.sub_self,d];rfl
 rw[e]at a ⊢;unfold Jh at a ⊢;rcases KG (fun i=>(Wa r L k).getD i 0) (Wf r L k) j.fr with h|⟨i,b,h⟩
 ·exact absurd h.symm a
 ·have c:i<k:=by unfold Wf at b;exact List.mem_range.1 (List.mem_filter.1 b).1
  exact⟨i,b,by rw[Yy r L L.length k i c oM];exact h.symm⟩
def lV(d:N)(b:Nat)(L:List Jt)(rs:List Int)(c:Nat)(a:Act)(W:N):Prop:=
 (∃(i last:Nat),i<=L.length/\a.tmps.getD 8 undef=O Y (last:Nat)/\a.tmps.getD 32 undef=O Y (i:Nat)/\c=L.length-i/\last<L.length/\(∀j,j<i->Af L rs j<=Af L rs last)/\(∀j,j<last->Af L rs j<Af L rs last)/\Ba d W)/\
 a.tmps.size=95/\a.tmps.getD 7 undef=A (I ⟨b,0,Z⟩)/\a.tmps.getD 31 undef=O Y L.length/\a.defers=[]
def lN Q R b7 sb r vg vp vs vj vr ks L rs(ag:Sv R sb r vg vp vs vj vr ks L rs)(hB:xA ks L rs)(af:0<L.length)(ac:R.heap[b7]?=I (Oa #[A (I ⟨sb,0,Z⟩)] 84 (0,0))) a0(aj:a0.tmps.size=95/\a0.tmps.getD 7 undef=A (I ⟨b7,0,Z⟩)/\a0.tmps.getD 31 undef=O Y L.length/\a0.defers=[])(h8:a0.tmps.getD 8 undef=O Y (0:Nat))(ai:a0.tmps.getD 32 undef=O Y (0:Nat))(hQ:∀a W last,(a.tmps.size=95/\a.tmps.getD 7 undef=A (I ⟨b7,0,Z⟩)/\a.defers=[])->a.tmps.getD 8 undef=O Y (last:Nat)->last<L.length->(∀j,j<L.length->Af L rs j<=Af L rs last)/\(∀j,j<last->Af L rs j<Af L rs last)->Ba R W->Q (.exit 0) a W):(Code.loop (Tb Tryz.f25 0)).wpIn Fence.wide 5 Tryz.prog Q a0 R:=by
 have HH:=za (fun(W:N)(hW:Ba R W)(k:Nat)(hk:k<L.length)=>DF W sb k r vg vp vs vj vr ks L rs (ag.ext hW) hk hB.rlen hB.jts hB.rbd);obtain⟨n,hn⟩:=gX L.length;have c:=za hn;have ah:=za ac;have HQ:=za hQ;have ak:=hB.len;clear ag hB ac hQ;unfold Tb;simp only[Tryz.f25,Jb,List.cons_append,List.nil_append,List.append_nil,List.getD_cons_succ,List.getD_cons_zero];refine wpIn_loop_ghost_k (lV R b7 L rs) n ?h0 ?round
 case h0=>exact⟨⟨0,0,by omega,h8,ai,by rw[hn];rfl,af,fun j hj=>by omega,fun j hj=>by omega,eR _⟩,aj⟩
 case round =>
  intro gk aa wr hinv;obtain⟨tt,dd⟩:=aa;obtain⟨⟨i,last,hi,f8,m,rfl,hl,x,w,hx⟩,f1,f7,f,ad⟩:=hinv;dsimp only at f1 f7 f8 f m ad;subst ad;obtain⟨u,hu,ht⟩:=Qf tt 95 f1;simp only[hu]at f7 f8 f m;clear hu f1;subst ht;rw[hn]at f;simp only[List.range,List.range.loop,List.map_cons,List.map_nil,f7,f8,f,m];clear f7 f8 f m;intro J K hJ hK;have k7:=Aa (hx.e ah.o) 0 (A (I ⟨sb,0,Z⟩));rw[hn]at hi hl ak;have HX:=za hx;have b:=za x;have v:=za w;have Hl:=za hl;clear hx x w hn af;by_cases ae:i<n
  ·have p1:(i:Int)<(n:Int):=oM;obtain⟨d,hd⟩:=gX (decide (Af L rs last<Af L rs i));obtain⟨al,p⟩:=gX (Af L rs i);obtain⟨am,s⟩:=gX (Af L rs last);have H1:=HH.o;have HA:=za (fun W hW=>HH.o W hW i (by rw[c.o];exact ae));have HB:=za (fun W hW=>HH.o W hW last (by rw[c.o];exact hl));rw[p]at HA;rw[s]at HB;rw[p,s]at hd;have Hd:=za hd;have g:=za p;have l:=za s;clear H1 p s
   gi_wp2
   refine QG (S:=Da [(⟨b7,0,Z⟩,A (I ⟨sb,0,Z⟩))]) kM kM ?_ (fun o=>?_)
   ·exact cA
   refine La (i:=0) ?_;refine La (i:=1) ?_;refine La (i:=3) ?_;refine La (i:=4) ?_;refine Ac (i:=2) (HA.o _ HX.o.drew) ?_;rintro e w1 ⟨rfl,t⟩;refine⟨_,rfl,(cE o t),fun o=>?_⟩;refine Ac (i:=5) (HB.o _ (HX.o.drew.trans t)) ?_;rintro e w2 ⟨rfl,z⟩;refine⟨_,rfl,(cE o z),fun o=>?_⟩;refine La (i:=6) ?_;refine Pb ?_;unfold NQ;have X9:=HX.o.drew.trans (t.trans z);have ab:=za X9;clear X9 t z;cases d with
   |true=>
    have y:=of_decide_eq_true Hd.o
    gi_wp2
    refine Handed.intro (n-(i+1)) (by have:=c.o;omega) (hJ _ _ _ ⟨⟨i+1,i,by have:=c.o;omega,rfl,?_,by rw[c.o],by rw[c.o];exact ae,fun j hj=>?_,fun j hj=>?_,ab.o⟩,rfl,rfl,by rw[c.o];rfl,rfl⟩)
    ·show (_:G)=_;go_num
    ·rw[g.o];by_cases q:j=i
     ·rw[q,g.o];exact Int.le_refl _
     ·have:=b.o j oM;rw[l.o]at this;omega
    ·have:=b.o j hj;rw[l.o]at this;rw[g.o];omega
   |false=>
    have y:=of_decide_eq_false Hd.o
    gi_wp2
    refine Handed.intro (n-(i+1)) (by have:=c.o;omega) (hJ _ _ _ ⟨⟨i+1,last,by have:=c.o;omega,rfl,?_,by rw[c.o],by rw[c.o];exact Hl.o,fun j hj=>?_,v.o,ab.o⟩,rfl,rfl,by rw[c.o];rfl,rfl⟩)
    ·show (_:G)=_;go_num
    ·rw[l.o];by_cases q:j=i
     ·rw[q,g.o];exact y
     ·have:=b.o j oM;rw[l.o]at this;omega
  ·obtain rfl:n=i:=oM
   gi_wp2
   exact HQ.o _ _ last ⟨rfl,rfl,rfl⟩ rfl (by rw[c.o];exact Hl.o) ⟨by rw[c.o];exact b.o,v.o⟩ HX.o
def iN(a:List Nat):List Int:=a.map fun x:Nat=>(x:Int)
def kH(b:Nat)(h:Int)(a:Act):Prop:=a.tmps.size=95/\a.tmps.getD 5 undef=O Y h/\a.tmps.getD 7 undef=A (I ⟨b,0,Z⟩)
def mH(c:N)(f:Nat)(h:Int)(r:Ru)(L:List Jt)(rs:List Int)(last:Nat)(g:Nat)(a:Act)(W:N):Prop:=
 (∃(k:Nat)(e:List Nat)(v:G)(b:Nat)(d:List Nat),k=g/\a.tmps.getD 4 undef=v/\a.tmps.getD 10 undef=A (I ⟨b,0,Z⟩)/\W.heap[b]?=I (Oa #[O Y k] 3 (0,0))/\c.heap.size<=b/\Ea 3 1 W c.heap.size v ((iN e).map ic)/\v.ownBlock≠I b/\
  Ba c W/\a.defers=rj d/\Vb W d/\(∀D∈d,c.heap.size<=D)/\Ln r L rs last e k/\e.length+k<=last+1)/\kH f h a
def kV(wr:N)(rs:List Int)(k:Nat)(pre:List {x:Nat // x<k})(W:N):Prop:=
 Ba wr W/\wr.heap.size+1+1<=W.heap.size/\∀x∈pre,rs.getD x.1 0≠rs.getD k 0
def iV(wr:N)(b:Nat)(rs:List Int)(k:Nat)(c:Code)(pre:List {x:Nat // x<k})(W:N):Prop:=
 c = .exit 4/\wr.grownBy W (I b)/\wr.heap.size+1+1<=W.heap.size/\∃p x,pre=p++[x]/\W.heap[b]?=I (Oa #[O Y x.1] 3 (0,0))/\rs.getD x.1 0=rs.getD k 0/\∀y∈p,rs.getD y.1 0≠rs.getD k 0
def lH(c b:Nat)(x:Nat)(a:Act):Prop:=
 a.tmps.size=95/\a.tmps.getD 7 undef=A (I ⟨c,0,Z⟩)/\a.tmps.getD 10 undef=A (I ⟨b,0,Z⟩)/\a.tmps.getD 11 undef=O Y (x:Nat)/\a.defers=[]
def PN(W:N) z T:∀ j  u,[ic z].flatten[j]?=I u->(W.alloc (Oa #[O Y z] T)).cell? ((⟨W.heap.size,0,Z⟩:Addr).add j)=I u:=by
 intro j u a
 match j,a with
 | 0,a=>simp[ic]at a;subst a;simp[Addr.add]
 | j+1,a=>simp[ic]at a
def kN Q w5 b7 sb h r vg vp vs vj vr ks L rs(q:Sv w5 sb r vg vp vs vj vr ks L rs)(hB:xA ks L rs)(aW:rs=Wa r L L.length) last(hl:last<L.length)(aM:w5.heap[b7]?=I (Oa #[A (I ⟨sb,0,Z⟩)] 84 (0,0))) a0 W0(bc:∃gk,gk<=L.length/\mH w5 b7 h r L rs last gk a0 W0)(hQ:∀a W Ds cn k v,kH b7 h a->a.tmps.getD 4 undef=v->a.defers=rj Ds->Ba w5 W->Vb W Ds->(∀D∈Ds,w5.heap.size<=D)->Ea 3 1 W w5.heap.size v ((iN cn).map ic)->Ln r L rs last cn k->cn.length<=last+1->(∃j,L[k]?=I j/\j.fr=rs.getD k 0)->Q (.exit 2) a W):(Code.loop (Tb Tryz.f25 1)).wpIn Fence.wide 5 Tryz.prog Q a0 W0:=by
 obtain⟨a9,bt,aL⟩:=bc;obtain⟨qa,qn,qc,rfl⟩:=Ma q.joints;obtain⟨ra,rn,rc,rfl⟩:=Ma q.roots;have aD:=za q.joints.len.symm;have a7:=za q.roots.len;have aC:=za q.joints;have aE:=za q.roots;have HS:=za q.blk;have HB:=za hB;have aF:=za aW;have a5:=za aM;have HQ:=za hQ;have a4:=za aL;clear q hB aM hQ aL aW;unfold Tb;simp only[Tryz.f25,Jb,List.cons_append,List.nil_append,List.append_nil,List.getD_cons_succ,List.getD_cons_zero];refine wpIn_loop_ghost_k (mH w5 b7 h r L rs last) a9 a4.o ?round;intro gk aa wr hinv;obtain⟨tt,dd⟩:=aa;obtain⟨⟨k,cn,v,b,Ds,rfl,f4,ai,hb,bp,n,aY,hx,aS,ad,aK,t,aR⟩,f1,f5,f7⟩:=hinv;dsimp only at f1 f4 f5 f7 ai aS;subst aS;obtain⟨u,hu,ht⟩:=Qf tt 95 f1;simp only[hu]at f4 f5 f7 ai;clear hu f1;subst ht;simp only[List.range,List.range.loop,List.map_cons,List.map_nil,f4,f5,f7,ai];clear f4 f5 f7 ai;intro J K hJ hK;have ak:=t.all k (List.mem_of_getLast? t.low);obtain⟨j,hj⟩:∃j,L[k]?=I j:=⟨L[k]'ak.1,gE _⟩;obtain⟨rk,av⟩:∃z,rs[k]?=I z:=⟨rs[k]'(by rw[HB.o.rlen];exact ak.1),gE _⟩;have aV:rs.getD k 0=rk:=by rw[gD,av];rfl
 obtain⟨bk,o,e0,bq,hc⟩:=(aC.o.f hx).at' hj;obtain⟨br,or,e1,bs,bb⟩:=(aE.o.f hx).at' av;subst e0;subst e1;have Hj:=za hj;obtain⟨ja,jb,jl,jr,jf,jt⟩:=j;unfold yh at hc;dsimp only at hc;have a8:=hc 4 (O Y jf) rfl;have ag:=hx.e HS.o;have k7:=Aa (hx.e a5.o) 0 (A (I ⟨sb,0,Z⟩));have bm:=Aa ag 10 (M (I ⟨bk,o,Z⟩) qn qc);have bn:=Aa ag 11 (M (I ⟨br,or,Z⟩) rn rc);have kb:=Aa hb 0 (O Y k);have bi:k<qn:=by rw[<-aD.o];exact ak.1
 have bu:k<rn:=by rw[a7.o,HB.o.rlen];exact ak.1
 have p1:(0:Int)<=(k:Int):=oM;have p2:(k:Int)<(qn:Int):=oM;have p3:(k:Int)<(rn:Int):=oM;have zb:=Ya hb;have HX:=za hx;have f:=za n;have aG:=za aY;have ab:=za ad;have az:=za aK;have ah:=za t;have ap:=za aR;have aq:=za aV;have Hb:=za hb;obtain⟨d,hd⟩:=gX ((jf != rk));have Hd:=za hd;clear hx n aY ad aK t aR aV hb hc hj ag av
 gi_wp2
 refine QG (S:=Da [(⟨b7,0,Z⟩,A (I ⟨sb,0,Z⟩)),(⟨sb,10,Z⟩,M (I ⟨bk,o,Z⟩) qn qc),(⟨b,0,Z⟩,O Y k),(⟨bk,o+k*6+4,Z⟩,O Y jf),(⟨sb,11,Z⟩,M (I ⟨br,or,Z⟩) rn rc),(⟨br,or+k,Z⟩,O Y rk)]) kM kM ?_ (fun aJ=>?_)
 ·exact cA
 refine La (i:=0) ?_;refine La (i:=1) ?_;refine La (i:=2) ?_;refine La (i:=3) ?_;refine La (i:=4) ?_;refine La (i:=5) ?_;refine La (i:=6) ?_;refine La (i:=7) ?_;refine La (i:=8) ?_;refine La (i:=9) ?_;refine La (i:=10) ?_;refine La (i:=11) ?_;refine La (i:=12) ?_;refine La (i:=13) ?_;refine La (i:=14) ?_;refine La (i:=15) ?_;refine Pb ?_;unfold NQ;cases d with
 |false=>
  have w:jf=rk:=by have:=Hd.o;simpa using this
  gi_wp2
  exact HQ.o _ _ Ds cn k v ⟨rfl,rfl,rfl⟩ rfl rfl HX.o.drew (ab.o.ext (eR wr).drew) az.o (f.o.ext (eR wr).drew) ah.o (by have:=ap.o;omega) ⟨_,Hj.o,by rw[aq.o];exact w⟩
 |true=>
  have w:jf≠rk:=by have:=Hd.o;simpa using this
  clear aJ bm a8 bb;obtain⟨W8,aj⟩:=gX wr.drew;have al:Ba wr W8:=by rw[<-aj];exact(eR wr).drew
  have aw:W8.heap.size=wr.heap.size:=by rw[<-aj];rfl
  have m7:=al.d k7;have mb:=al.d kb;rw[aj];clear aj
  gi_wp2_with(refine⟨trivial,?_⟩;gi_at_call 47;refine(callsIn_wide.2 (TF _ sb k)).mono ?_;rintro e w' ⟨rfl,rfl⟩)
  obtain⟨W9,R⟩:=gX (((W8.alloc (Oa #[A (I ⟨sb,0,Z⟩)] 84)).alloc (Oa #[O Y k] 3)));have aZ:Ba wr W9:=by rw[<-R];exact(al.alloc _).alloc _
  have bw:W9.heap.size=wr.heap.size+1+1:=by rw[<-R];simp[aw]
  have ba:W9.heap[wr.heap.size]?=I (Oa #[A (I ⟨sb,0,Z⟩)] 84 (0,0)):=by rw[<-R,<-aw];exact Iy W8 _ _
  have bg:W9.heap[wr.heap.size+1]?=I (Oa #[O Y k] 3 (0,0)):=by rw[<-R,<-aw];exact Up W8 _ _
  rw[R];clear R al m7 mb;have bf:=aC.o.f HX.o;have aX:=aE.o.f HX.o;have bh:k<L.length:=by rw[aD.o];exact bi
  refine wpIn_rangeFunc_ownH rfl dM (gf:=81) (lb:=#[A (I ⟨wr.heap.size+1,0,Z⟩),A (I ⟨wr.heap.size,0,Z⟩)]) rfl trivial (enters_of Tryz.func81 kM rfl)
   (LE _ dM wr.heap.size wr W9 sb r vg vp vs (M (I ⟨bk,o,Z⟩) qn qc) (M (I ⟨br,or,Z⟩) rn rc) L k bh HB.o.jts (HX.o.e HS.o) bf ba bg aZ) qh.trans (qh.put oM oM) (Below.refl _ _) (fun _=>rfl)
   (kV wr rs k) (iV wr b rs k) (Qk (fun s W h=>by have:=h.2.1;omega) (fun s W W' h k=>⟨k.ext h.1 oM,nT h.2.1 k.size,h.2.2⟩))
   (fun c=>Qk (fun s W h=>by have:=h.2.2.1;omega) (fun s W W' h k=>⟨h.1,Ck h.2.1 (Below.mono k.1 oM),nT h.2.2.1 k.size,by obtain⟨p,x,h1,h2,h3⟩:=h.2.2.2;exact⟨p,x,h1,k.heap h2,h3⟩⟩)) ⟨aZ,by omega,fun x hx=>by cases hx⟩
   (fun x a' _=>lH b7 b x.1 a') (fun x a'=>ownFrom_pure _ (fun _=>lH b7 b x.1 a')) ?assign ?body ?done ?stop
  case assign =>
   rintro l pre x W K hI hK
   gi_wp2
   refine hK _ _ (KeepsFrom.refl _ _) (qh.refl _ _ _) hI ⟨rfl,rfl,rfl,rfl,rfl⟩
  case body =>
   rintro l pre x a' W hl ⟨rr,hr⟩ hI hA bv;obtain⟨tt,dd⟩:=a';obtain⟨g1,g2,g3,g4,g5⟩:=hA;dsimp only at g1 g2 g3 g4 g5;subst g5;obtain⟨v',hu,ht⟩:=Qf tt 95 g1;simp only[hu]at g2 g3 g4;clear hu;subst ht;simp only[List.range,List.range.loop,List.map_cons,List.map_nil,g2,g3,g4];clear g1 g2 g3 g4;obtain⟨x,bj⟩:=x;obtain⟨h1,h2,h3⟩:=hI;obtain⟨z,hz⟩:∃z,rs[x]?=I z:=⟨rs[x]'(by rw[HB.o.rlen];omega),gE _⟩;obtain⟨zk,ay⟩:∃z,rs[k]?=I z:=⟨rs[k]'(by rw[HB.o.rlen];omega),gE _⟩;have a3:rs.getD x 0=z:=by rw[gD,hz];rfl
   have ao:rs.getD k 0=zk:=by rw[gD,ay];rfl
   obtain⟨b2,o2,e2,_,d2⟩:=(aX.f h1).at' hz;obtain⟨b3,o3,e3,_,d3⟩:=(aX.f h1).at' ay;cases e2;cases e3;have n7:=h1.d k7;have bA:=h1.d bn;have h6:=h1.e Hb.o;have n6:=Aa h6 0 (O Y k);have bB:=Za h6;have p5:(0:Int)<=(x:Int):=oM;have p6:(x:Int)<(rn:Int):=oM;have p7:x<rn:=oM;have H1:=za h1;have H3:=za h3;have H6:=za h6;have aH:=za a3;have aI:=za ao;obtain⟨d,hd⟩:=gX ((z==zk));have aA:=za hd;clear hz ay a3 ao h1 h3 h6
   gi_wp2
   refine Mr (S:=Da [(⟨b7,0,Z⟩,A (I ⟨sb,0,Z⟩)),(⟨sb,11,Z⟩,M (I ⟨br,or,Z⟩) rn rc),(⟨b,0,Z⟩,O Y k),(⟨br,or+x,Z⟩,O Y z),(⟨br,or+k,Z⟩,O Y zk)]) kM kM ?_ (fun aJ=>?_)
   ·exact cA
   refine La (i:=0) ?_;refine La (i:=1) ?_;refine La (i:=2) ?_;refine La (i:=3) ?_;refine La (i:=4) ?_;refine La (i:=5) ?_;refine La (i:=6) ?_;refine La (i:=7) ?_;refine La (i:=8) ?_;refine La (i:=9) ?_;refine La (i:=10) ?_;refine La (i:=11) ?_;refine La (i:=12) ?_;refine La (i:=13) ?_;refine La (i:=14) ?_;refine Pb ?_;unfold NQ;cases d with
   |true=>
    have ax:z=zk:=by have:=aA.o;simpa using this
    gi_wp2
    have h9:W.drew.heap[b]?=I (Oa #[O Y k] 3 (0,0)):=H6.o;refine⟨(Yo ((eR W).drew)).trans ((KeepsOthers.setCell _ _ _).from _),rfl,Bk (Ck (Mn wr _) H1.o.drew) 0 _,by rw[Yb,fg];exact h2,pre,⟨x,bj⟩,rfl,Sk h9 0 _,?_,H3.o⟩;rw[aH.o,aI.o];exact ax
   |false=>
    have ax:z≠zk:=by have:=aA.o;simpa using this
    gi_wp2
    refine⟨Yo ((eR W).drew),(qh.refl wr wr.heap.size W).ext ((eR W).drew) H1.o.size oM,H1.o.drew,h2,fun y hy=>?_⟩;rcases List.mem_append.1 hy with hy|hy
    ·exact H3.o y hy
    ·rw[List.mem_singleton.1 hy,aH.o,aI.o];exact ax
  case done =>
   rintro D ys W hD bl ⟨h1,h2,h3⟩ bo;exfalso;obtain⟨i,hi,hr⟩:=jO (r:=r) Hj.o (by rw[<-aF.o,aq.o];exact w);rw[<-bl]at hi;obtain⟨x,hx,rfl⟩:=List.mem_map.1 hi;rw[<-aF.o]at hr;exact h3 x hx hr
  case stop =>
   rintro D c pre W hD af ⟨rfl,m,bx,p,x,rfl,ar,aP,an⟩ hK;have zw:=m.size;obtain⟨x,a2⟩:=x;rw[List.map_append]at af;have aT:=fun y hy hf=>(List.mem_map.1 (kQ af y hy hf)).elim fun z hz=>hz.2▸an z hz.1;have a1:x∈Wf r L k:=af.subset sM;have hf:Pe r L k x=true:=by unfold Wf at a1;exact(List.mem_filter.1 a1).2
   have n:=f.o.grown m (.inr aG.o);have t:=ah.o.snoc hf oM aP a2 ⟨aT,fun j hj=>by rw[Hj.o]at hj;cases hj;rw[aq.o];exact w⟩;have ad:=(ab.o.grown m (fun r hr=>by cases hr;exact⟨_,_,_,Hb.o⟩)).cons hK (fun be=>by have:=Ya (ab.o.2 D be);omega);have nb:=Aa ar 0 (O Y x);have aU:Ba w5 W:=⟨m.os.trans HX.o.os,m.tape.trans HX.o.tape,m.output.trans HX.o.output,nT HX.o.size m.size,fun i hi=>(m.block i (Nat.lt_of_lt_of_le hi HX.o.size) (by simp;omega)).trans (HX.o.block hi)⟩;have f:=za n;have ah:=za t;have ab:=za ad;have aB:=za aU;have a6:=za ar;clear n t ad aU ar aT an;have au:((iN cn).map ic).length+1<=100000000000:=by have:=ap.o;have:=HB.o.len;simp only[iN,lL];omega
   have am:w5.heap.size<=(W.alloc (Oa #[O Y x] 3)).heap.size:=by rw[wZ];have:=aB.o.size;omega
   gi_wp2_with(gi_at_builtin;go_loud (refine MK (k:=1) (bytes:=8) (z:=O Y 0) yC rfl dM dM Tryz.underlying47 rfl _ _ rfl rfl (f.o.ext ((eR W).alloc _)) rfl [ic x] rfl (by simp[ic]) (PN W x 3) (by simp[ic,Value.oneCell']) au am ?_);intro v' w1 ae ac bz;have aQ:=Gh ac (((eR W).alloc _).e a6.o) (fun e=>aG.o e.symm);have bC:=Aa aQ 0 (O Y x))
   have hA:Ba W (W.alloc (Oa #[O Y x] 3)):=(eR W).alloc _;have aO:Ba w5 w1:=(aB.o.trans hA).D (Yg (base:=w5.heap.size) ac am (fun k hk=>(f.o.lt k hk).1)) (nE _);refine Handed.intro x a2 (hJ _ _ _ ⟨⟨x,cn++[x],v',w1.heap.size,D::Ds,rfl,rfl,rfl,aN _ _,aO.size,?_,fun e=>by have:=(ae.lt _ e).2;omega,aO.alloc _,rfl,?_,?_,ah.o,?_⟩,rfl,rfl,rfl⟩)
   ·rw[show (iN (cn++[x])).map ic=(iN cn).map ic++[ic x] by simp[iN]];exact ae.ext ((eR w1).alloc _)
   ·exact((ab.o.ext hA).grown ac (fun r hr=>by
     rcases(f.o.ext hA).2.2 with ⟨q1,_⟩|⟨g,cap,cur,hv,_,hh,_⟩
     ·rw[q1]at hr;cases hr
     ·rw[hv]at hr;cases hr;exact⟨_,_,_,hh⟩)).ext ((eR w1).alloc _)
   ·intro E hE;rcases List.mem_cons.1 hE with rfl|hE
    ·have:=HX.o.size;omega
    ·exact az.o E hE
   ·have:=ap.o;rw[lA,List.length_singleton];omega
def Cn(w:N)(g:LP)(ps:List Pl)(r:Ru)(e:Ending)(w':N):Prop:=
 Ba w w'/\((gh g ps r≠0/\e=.returned (Oc #[M Z 0 0,O Y 0,O Y (gh g ps r)])) \/
 (gh g ps r=0/\∃ks L rs,il r ps ks L rs/\((L.length=0/\e=.returned (Oc #[M Z 0 0,O Y 0,O Y 8])) \/
  (∃v cn last k,e=.returned (Oc #[v,O Y (Af L rs last),O Y 0])/\Ud w' v (iN cn).reverse/\last<L.length/\(∀i,i<L.length->Af L rs i<=Af L rs last)/\Ln r L rs last cn k/\∃j,L[k]?=I j/\j.fr=rs.getD k 0))))
def vS w vg vp g ps r(hg:Ia w vg g)(hp:ld w vp ps)(ap:Gw w):Calls Tryz.prog 25 #[.agg #[vg,vp],.agg (Uf r)] w (Cn w g ps r):=by
 have HB:=za (fun W (hW:Ba w W)=>Zu W vg vp g ps r (hg.f hW) (hp.f hW) (ap.ext hW));obtain⟨ga,gn,gc,rfl⟩:=Ma hg;obtain⟨pa,pn,aO,rfl⟩:=Ma hp;obtain⟨R,hR⟩:=gX (Cn w g ps r);rw[hR];have HR:=za hR;obtain⟨k,hk⟩:=gX (gh g ps r);have m:=za hk;obtain⟨sk,ax,K,aw,step,ay,i⟩:=r;unfold Uf at HB ⊢;dsimp only at HB;clear hg hp ap hR;refine(callsIn_wide (n:=5)).1 ?_;refine callsIn_of_wp_marks Tryz.func25 rfl trivial ?_ rfl;simp only[Tryz.ntmps25,List.size_toArray,List.length_cons,List.length_nil,Nat.reduceAdd,Nat.reduceSub,Array.replicate_succ,Array.replicate_zero,List.push_toArray,List.append_toArray,List.nil_append,List.cons_append];by_cases h0:k=0
 ·subst h0;clear hk
  gi_wp2_with(refine⟨trivial,?_⟩;gi_at_call 38;(with_reducible refine(callsIn_wide.2 (HB.o _ ?_)).mono ?_);exact eA;rintro e l (⟨s,_⟩|⟨_,sb,vs,vj,vr,ks,L,rs,rfl,sv,t,av⟩);(focus(exact absurd m.o s));obtain⟨ja,jn,aK,aI⟩:=Ma sv.joints;subst aI;have aM:=Aa sv.blk 10 (M ja jn aK);have zb:=Ya sv.blk;rcases Nat.eq_zero_or_pos jn with q|q;(have e0:((jn:Int)==0)=true:=by simp[q]);rotate_left 1;(have e0:((jn:Int)==0)=false:=by simp;omega))
  ·have hB:=XA (No (Qx m.o).1).1 (No (Qx m.o).1).2.1 t;obtain⟨W5,p⟩:=gX (l.alloc (Oa #[A (I ⟨sb,0,Z⟩)] 84));have af:Ba l W5:=by rw[<-p];exact(eR l).alloc _
   have an:W5.heap[l.heap.size]?=I (Oa #[A (I ⟨sb,0,Z⟩)] 84 (0,0)):=by rw[<-p];exact aN l _
   rw[p];have X3:Ba w l:=eA;have aq:=sv.joints.len;have aC:=za (X3.trans af);have az:=sv.ext af;have ab:=za az;have c:=za hB;have aa:=za an;have ah:=za t;have aj:=za aq;clear p af an X3 sv az t av aq hB;refine lN _ W5 l.heap.size sb ⟨sk,ax,K,aw,step,ay,i⟩ _ _ vs _ vr ks L rs ab.o c.o (by rw[<-aj.o];exact q) aa.o _ ⟨rfl,rfl,by rw[<-aj.o];rfl,rfl⟩ rfl rfl (fun a W last ad h8 hl y hx=>?_);obtain⟨tt,dd⟩:=a;obtain⟨f1,o,f⟩:=ad;dsimp only at f1 o h8 f;subst f;obtain⟨u,hu,ht⟩:=Qf tt 95 f1;simp only[hu]at o h8;clear hu;subst ht;simp only[List.range,List.range.loop,List.map_cons,List.map_nil,o,h8];clear f1 o h8;have HH:=za (fun(W':N)(hW:Ba W W')=>DF W' sb last _ _ _ _ _ _ ks L rs ((ab.o.ext hx).ext hW) hl c.o.rlen c.o.jts c.o.rbd);obtain⟨h,hh⟩:=gX (Af L rs last);rw[hh]at HH;have k7:=Aa (hx.e aa.o) 0 (A (I ⟨sb,0,Z⟩));have Hh:=za hh;have x:=za y;have HX:=za hx;have Hl:=za hl;clear hh y hx hl
   gi_wp2_with(refine⟨trivial,?_⟩;gi_at_call 64;(with_reducible refine(callsIn_wide.2 (HH.o _ ?_)).mono ?_);exact eA;rintro e j ⟨rfl,ag⟩)
   have aJ:(Value.slice (I ⟨j.heap.size,0,Z⟩) 1 1).ownBlock≠I (j.heap.size+1):=fun e=>by simp[Value.ownBlock]at e
   refine kN _ j l.heap.size sb h ⟨sk,ax,K,aw,step,ay,i⟩ _ _ vs _ vr ks L rs (ab.o.ext (HX.o.trans ag)) c.o ah.o.roots last Hl.o ((HX.o.trans ag).e aa.o) _ _
    ⟨last,Nat.le_of_lt Hl.o,⟨last,[last],_,j.heap.size+1,[],rfl,rfl,rfl,Up j _ _,by omega,(BL (w:=j) (last:Nat) (nE _)).ext ((eR _).alloc _),aJ,((eR j).alloc _).alloc _,rfl,Vb.nil _,(fun D hD=>by cases hD),Ln.one Hl.o x.o.2,by simp;omega⟩,rfl,rfl,rfl⟩ (fun a W2 Ds cn k v ad h4 f au ar am b ac aL hj=>?_)
   obtain⟨tt,dd⟩:=a;obtain⟨f1,f5,o⟩:=ad;dsimp only at f1 f5 o h4 f;subst f;obtain⟨u2,hu,ht⟩:=Qf tt 95 f1;simp only[hu]at f5 o h4;clear hu;subst ht;simp only[List.range,List.range.loop,List.map_cons,List.map_nil,f5,o,h4];clear f1 f5 o h4;have s:cn≠[]:=fun e=>by have:=ac.top;rw[e]at this;cases this
   have aH:(iN cn).length<=1000000000:=by
    have:=Hl.o;have:=c.o.len;rw[iN,lL];omega
   obtain⟨va,vn,vc,rfl⟩:=b.i;obtain⟨gv,rfl,aG,_⟩:=b.blk (by rw[lL,iN,lL];exact List.length_pos_iff.2 s);have aB:=za (pN W2 j.heap.size gv vn vc (iN cn) b aH);have aE:=za ar;have aA:=za am;have aD:=za ac;have Hj:=za hj;have ai:=za au;have al:=za b;clear ar am ac hj au b
   gi_wp2_with(refine⟨trivial,?_⟩;gi_at_call 65;(with_reducible refine(callsIn_wide.2 aB.o).mono ?_);rintro e w7 ⟨rfl,ae,z⟩)
   refine tq Ds _ (aE.o.grown z (fun r hr=>by cases hr;obtain⟨cur,hc⟩:=al.o.frz;exact⟨_,_,_,hc⟩)) (fun W' d=>?_);have aF:Ba j w7:=ai.o.D (Yg (base:=j.heap.size) z ai.o.size (fun k hk=>by cases hk;exact aG)) (nE _);have ao:Ba w j:=aC.o.trans (HX.o.trans ag);have hS:=d w.heap.size (fun D hD=>nT ao.size (aA.o D hD));refine⟨Oc #[M (I ⟨gv,0,Z⟩) vn vc,O Y h,O Y 0],by simp[results,Tryz.results25,go_sem],?_⟩;rw[<-HR.o];exact⟨hS.ext (ao.trans aF) (nE _),.inr ⟨m.o,ks,L,rs,ah.o,.inr ⟨_,cn,last,k,by rw[Hh.o],ae.is.keep (hS.keep _),Hl.o,x.o.1,aD.o,Hj.o⟩⟩⟩
  ·have X3:Ba w l:=eA;refine tq [] _ (Vb.nil _) (fun W' d=>?_);have hS:=d w.heap.size (fun D hD=>by cases hD);refine⟨Oc #[M Z 0 0,O Y 0,O Y 8],by simp[results,Tryz.results25,go_sem],?_⟩;rw[<-HR.o];exact⟨hS.ext (X3.alloc _) (nE _),.inr ⟨m.o,ks,L,rs,t,.inl ⟨by rw[<-sv.joints.len];exact q,rfl⟩⟩⟩
 ·have u0:(k != 0)=true:=by simpa using h0
  have ak:=za h0;clear h0 hk
  gi_wp2_with(refine⟨trivial,?_⟩;gi_at_call 38;(with_reducible refine(callsIn_wide.2 (HB.o _ ?_)).mono ?_);exact eA;rintro e l (⟨s,rfl,av⟩|⟨h0,_⟩);rotate_left 1;(focus(exact absurd (m.o.symm.trans h0) ak.o));rw[m.o])
  refine tq [] _ (Vb.nil _) (fun W' d=>?_);have hS:=d w.heap.size (fun D hD=>by cases hD);refine⟨Oc #[M Z 0 0,O Y 0,O Y k],by simp[results,Tryz.results25,go_sem],?_⟩;rw[<-HR.o];exact⟨hS.ext eA (nE _),.inl ⟨by rw[m.o];exact ak.o,by rw[m.o]⟩⟩
def tN{L rs a last n}(b:∀j,j<n->Af L rs j<=Af L rs a)(c:∀j,j<a->Af L rs j<Af L rs a)(d:∀j,j<n->Af L rs j<=Af L rs last)(h4:∀j,j<last->Af L rs j<Af L rs last)(e:a<n)(f:last<n):a=last:=by
 rcases Nat.lt_trichotomy a last with h|h|h
 ·have:=h4 a h;have:=b last f;omega
 ·exact h
 ·have:=c last h;have:=d a e;omega
def YK{a:List Nat}{i b:Nat}(h:a[i+1]?=I b):(iN (a.take (i+1+1))).reverse=[(b:Int)]++(iN (a.take (i+1))).reverse:=by rw[ze _ _ _ h];simp[iN]
def rB{L rs k j x}(a:L[k]?=I j)(b:rs[k]?=I x):Af L rs k=j.til-x:=by unfold Af;rw[a,gD,b];rfl
def mJ{b:List Nat}{m}(h:b.head?=I m):(iN (b.take (0+1))).reverse=[(m:Int)]:=by
 cases b with
 | nil=>cases h
 | cons a t=>cases h;rfl
def Zt:G->Nat
 | M _ n _=>n
 | _=>0
def tV(U:N)(L:List Jt)(rs:List Int)(n:Nat)(b c:G)(W:N):Prop:=
 ∃a i:Nat,b=O Y a/\c=O Y i/\1<=i/\i<=n/\a<i/\(∀j,j<i->Af L rs j<=Af L rs a)/\(∀j,j<a->Af L rs j<Af L rs a)/\Ba U W
def sV(U:N)(c:List Nat)(d b:G)(W:N):Prop:=
 ∃i a:Nat,d=O Y a/\c[i]?=I a/\Cb 3 W U.heap.size b (iN (c.take (i+1))).reverse/\Ba U W
def rV(V:N)(a b:Nat)(d c:G)(W:N):Prop:=d=O Y a/\∃k:Nat,c=O Y k/\k<=b/\Ba V W
def Gp(w:N)(l:List Int)(h:Int)(e:Ending)(w':N):Prop:=∃v base,e=.returned (Oc #[v,O Y h])/\Cb 3 w' base v l/\w.heap.size<=base/\Ba w w'
def PQ w v r L rs last kl cn(h:pk w v L)(hB:∀j∈L,Fh j)(bh:L.length<=1000000)(an:rs=Wa r L L.length)(hl:last<L.length)(aV:∀j,j<L.length->Af L rs j<=Af L rs last)(a9:Ln r L rs last cn kl)(bg:∃j,L[kl]?=I j/\j.fr=rs.getD kl 0):Calls Tryz.prog 27 #[.agg (Uf r),v] w (Gp w (iN cn).reverse (Af L rs last)):=by
 have HG:=za (fun(W:N)(hW:Ba w W)=>lG W v r L (h.f hW) hB bh);obtain⟨a,c,rfl⟩:=h.form;obtain⟨n,hn⟩:=gX L.length;have bi:rs.length=n:=by rw[an,Tn,hn]
 have az:=zv (r:=r) hB L.length;rw[<-an]at az;rw[hn]at h bh hl aV HG ⊢;have Hn:=za hn;have HL:=za h;have HB:=za hB;have bB:=za az;have a1:=za bi;have l:=za a9;have bn:=za bg;have Hl:=za hl;have bp:=za aV;rw[hn]at an;rw[<-an]at HG;obtain⟨R,hR⟩:=gX (Gp w (iN cn).reverse (Af L rs last));rw[hR];have HR:=za hR;have HF:=za (fun(W:N)(j k:Jt)(hj:j∈L)(hk:k∈L)=>FD W r j k (hB j hj) (hB k hk));unfold Uf at HF HG ⊢;have bE:0<n:=oM;have a3:∀k,k<n->∃j x,L[k]?=I j/\rs[k]?=I x/\Bd 1000000 j.til/\Bd 1000000 x:=fun k hk=>by
  have e1:L[k]?=I (L[k]' oM):=gE oM;have e2:rs[k]?=I (rs[k]' oM):=gE oM;exact⟨_,_,e1,e2,(hB _ (lM e1)).2.2.2.2.2,az _ (lM e2)⟩
 have ap:=za a3;clear h hB hn hR bi az a9 bg hl aV an a3;go_in;go_wp2_with(go_at_call 17;refine cM (HG.o _ ((eR _).alloc _)) ?_;rintro e U ⟨v6,bt,rfl,p,a7,aW⟩);obtain⟨a6,c6,rfl⟩:=p.form;rw[a1.o]at p ⊢;have K2:=aW.e (aN w (Oa #[O .u8 r.skin,O Y r.pin,O Y r.wide,O Y r.lap,O Y r.step,O Y r.run,O Y r.level] 27));have X1:Ba w U:=((eR _).alloc _).trans aW;obtain⟨s,hs⟩:=gX w.heap.size;simp only[hs]at K2 ⊢;have HC:Ua (Da [(⟨s,0,Z⟩,O .u8 r.skin),(⟨s,1,Z⟩,O Y r.pin),(⟨s,2,Z⟩,O Y r.wide),(⟨s,3,Z⟩,O Y r.lap),(⟨s,4,Z⟩,O Y r.step),(⟨s,5,Z⟩,O Y r.run),(⟨s,6,Z⟩,O Y r.level)] U):=za ⟨Lb K2 (i:=0) rfl,Lb K2 (i:=1) rfl,Lb K2 (i:=2) rfl,Lb K2 (i:=3) rfl,Lb K2 (i:=4) rfl,Lb K2 (i:=5) rfl,Lb K2 (i:=6) rfl,trivial⟩;have a0:=za X1;have ad:=za (HL.o.f X1);obtain⟨g6,rfl,-⟩:∃g,a6=I ⟨g,0,Z⟩/\True:=by
  obtain⟨bD,h9|⟨g,cap,cur,hv,-⟩⟩:=p
  ·exfalso;have:=h9.2;have:=a1.o;omega
  ·cases hv;exact⟨_,rfl,trivial⟩
 have K:=za p;clear K2 hs HL HG aW X1 p a7;go_loopw [7,8] (tV U L rs n) (fun _ t8 _=>n-(intOf t8).toNat)
 case atStart=>exact⟨0,1,rfl,rfl,by omega,by omega,by omega,fun j hj=>by rw[show j=0 by omega];exact Int.le_refl _,fun j hj=>by omega,eR _⟩
 case round =>
  obtain⟨m,i,rfl,rfl,h1,hi,hm,aG,aH,hx⟩:=hrel;have HX:=za hx;have u:=za aG;have ah:=za aH;have f:=K.o.keep hx.keep;obtain⟨jm,xm,ax,aC,bu,bv⟩:=ap.o m oM;obtain⟨b,o,rfl,hb,aS⟩:=(ad.o.f hx).at' ax;have bo:=za ax;have bs:=za aC;have aA:=f.cell aC;unfold yh at aS;have m5:=aS 5 (O Y jm.til) rfl;have aq:=za (rB ax aC);unfold Bd at bu bv;have g2:(0:Int)<=(m:Int):=oM;have g3:(m:Int)<(n:Int):=oM;have w1:IntKind.i64.wrap (jm.til-xm)=jm.til-xm:=iW _ ⟨by omega,by omega⟩;have w2:wrap64 (jm.til-xm)=jm.til-xm:=IntWalk.wrap64_in _ ⟨by omega,by omega⟩;clear hx aG aH aS ax aC;by_cases ab:i<n
  ·obtain⟨j,x,aU,aY,b1,b2⟩:=ap.o i ab;obtain⟨b',o',e',-,hc⟩:=(ad.o.f HX.o).at' aU;cases e';have hu:=f.cell aY;unfold yh at hc;have c5:=hc 5 (O Y j.til) rfl;have aK:=za (rB aU aY);unfold Bd at b1 b2;have g0:(0:Int)<=(i:Int):=oM;have g1:(i:Int)<(n:Int):=oM;have w3:IntKind.i64.wrap (j.til-x)=j.til-x:=iW _ ⟨by omega,by omega⟩;have w4:wrap64 (j.til-x)=j.til-x:=IntWalk.wrap64_in _ ⟨by omega,by omega⟩;clear hc aU aY f;go_upto_region 6 with fail;refine jd [(⟨b,o+m*6+5,Z⟩,O Y jm.til),(⟨g6,m,Z⟩,O Y xm),(⟨b,o+i*6+5,Z⟩,O Y j.til),(⟨g6,i,Z⟩,O Y x)] (cE (show Da _ wr from⟨m5,aA,c5,hu,trivial⟩) (eR _).drew) fun aa=>?_;clear m5 aA c5 hu;refine La (i:=0) ?_;refine La (i:=1) ?_;refine La (i:=2) ?_;refine La (i:=3) ?_;refine La (i:=4) ?_;refine La (i:=5) ?_;refine La (i:=6) ?_;refine La (i:=7) ?_;refine La (i:=8) ?_;refine La (i:=9) ?_;refine La (i:=10) ?_;refine La (i:=11) ?_;refine La (i:=12) ?_;refine La (i:=13) ?_;refine La (i:=14) ?_;refine La (i:=15) ?_;refine La (i:=16) ?_;refine La (i:=17) ?_;refine La (i:=18) ?_;refine La (i:=19) ?_;by_cases h3:jm.til-xm<j.til-x
   ·skip
    refine La (i:=20) ?_;refine Pb ?_;go_wp2;go_roundw
    case rel =>
     refine⟨i,i+1,rfl,by go_num,by omega,by omega,by omega,fun k hk=>?_,fun k hk=>?_,HX.o.drew⟩
     ·by_cases q:k=i
      ·rw[q];exact Int.le_refl _
      ·have:=u.o k oM;rw[aq.o]at this;rw[aK.o];omega
     ·have:=u.o k hk;rw[aq.o]at this;rw[aK.o];omega
    case measure=>simp[intOf];omega
   ·skip
    refine La (i:=20) ?_;refine Pb ?_;go_wp2;go_roundw
    case rel =>
     refine⟨m,i+1,rfl,by go_num,by omega,by omega,by omega,fun k hk=>?_,ah.o,HX.o.drew⟩;by_cases q:k=i
     ·rw[q,aq.o,aK.o];omega
     ·exact u.o k oM
    case measure=>simp[intOf];omega
  ·obtain rfl:n=i:=oM;obtain rfl:m=last:=tN u.o ah.o bp.o l.o.high hm Hl.o;go_upto_region 8 with fail;refine jd [(⟨b,o+m*6+5,Z⟩,O Y jm.til),(⟨g6,m,Z⟩,O Y xm)] (cE (show Da _ wr from⟨m5,aA,trivial⟩) (eR _).drew) fun aa=>?_;clear m5 aA f;refine La (i:=0) ?_;refine La (i:=1) ?_;refine La (i:=2) ?_;refine La (i:=3) ?_;refine La (i:=4) ?_;refine La (i:=5) ?_;refine La (i:=6) ?_;refine La (i:=7) ?_;refine La (i:=8) ?_;refine La (i:=9) ?_;refine La (i:=10) ?_;refine Pb ?_;obtain⟨V,hV⟩:∃V:N,V=wr.drew:=⟨_,rfl⟩;have af:Ua (Ba U V):=za (by rw[hV];exact HX.o.drew);rw[<-hV];clear hV;clear u ah HX bo bs;go_wp2;go_loopw [7,10] (sV V cn) (fun _ bz _=>cn.length-Zt bz)
   case atStart=>exact⟨0,m,rfl,by rw[<-List.head?_eq_getElem?];exact l.o.top,by rw[mJ l.o.top];exact Mx V 3 m,(eR _).alloc _⟩
   case round =>
    obtain⟨i,a,rfl,aw,f,hx⟩:=hrel;have bC:i<cn.length:=(lS.1 aw).1;(have al:(iN (cn.take (i+1))).reverse.length=i+1:=by simp[iN];omega);obtain⟨av,cv,rfl⟩:=f.form;rw[al]at f ⊢;have a2:=l.o.all a (lM aw);have aE:=a2.1;rw[Hn.o]at aE;obtain⟨t,xa,aT,aB,-,-⟩:=ap.o a aE;obtain⟨b1,o1,e1,-,aQ⟩:=(ad.o.f (af.o.trans hx)).at' aT;cases e1;have bj:=(K.o.keep (af.o.trans hx).keep).cell aB;(have bk:rs.getD a 0=xa:=by rw[gD,aB];rfl);have ai:=za aw;have aj:=za aT;have ar:=za bk;have br:=za aB;unfold yh at aQ;have c4:=aQ 4 (O Y t.fr) rfl;have g0:(0:Int)<=(a:Int):=oM;have g1:(a:Int)<(n:Int):=oM;obtain⟨d,hd⟩:=gX ((t.fr != xa));have Hd:=za hd;have ak:=za f;have HX:=za hx;have aD:=za al;clear aQ aw aT bk aB f hx al a2;go_upto_region 10 with fail;refine jd [(⟨b,o+a*6+4,Z⟩,O Y t.fr),(⟨g6,a,Z⟩,O Y xa)] (cE (show Da _ wr from⟨c4,bj,trivial⟩) (eR _).drew) fun aa=>?_;clear c4 bj;refine La (i:=0) ?_;refine La (i:=1) ?_;refine La (i:=2) ?_;refine La (i:=3) ?_;refine La (i:=4) ?_;refine La (i:=5) ?_;refine La (i:=6) ?_;refine La (i:=7) ?_;refine La (i:=8) ?_;refine La (i:=9) ?_;refine Pb ?_;clear aa;cases d with
    |false=>
     (have hf:t.fr=xa:=by have:=Hd.o;simpa using this);have bf:cn.take (i+1)=cn:=by
      rcases Nat.lt_or_ge (i+1) cn.length with q|q
      ·exact absurd (hf.trans ar.o.symm) ((l.o.fst i a _ ai.o (gE q)).2 t aj.o)
      ·exact lT q
     go_wp2;rw[<-HR.o,aq.o];exact⟨_,_,rfl,by have:=ak.o;rw[bf]at this;exact this,nT a0.o.size af.o.size,a0.o.trans (af.o.trans HX.o.drew)⟩
    |true=>
     (have hf:t.fr≠xa:=by have:=Hd.o;simpa using this);obtain⟨bb,aO⟩:∃bb,cn[i+1]?=I bb:=by
      rcases Nat.lt_or_ge (i+1) cn.length with q|q
      ·exact⟨_,gE q⟩
      ·exfalso;have h9:=l.o.low;rw[List.getLast?_eq_getElem?,show cn.length-1=i by omega,ai.o]at h9;obtain⟨j9,h8,h7⟩:=bn.o;cases h9;rw[aj.o]at h8;cases h8;exact hf (h7.trans ar.o)
     have aM:=l.o.all bb (lM aO);have a4:=aM.1;rw[Hn.o]at a4;have aF:=(l.o.all a (lM ai.o)).2;(have a8:rs.getD bb 0=xa:=by rw[aM.2,<-aF,ar.o]);have ag:=za aO;have bm:=za a8;obtain⟨V2,au⟩:∃V2:N,V2=wr.drew:=⟨_,rfl⟩;have aJ:Ua (Ba V V2):=za (by rw[au];exact HX.o.drew);have aL:=za (show Cb 3 V2 V.heap.size (M av (i+1) cv) _ by rw[au];exact ak.o);rw[<-au];clear au HX ak aO a8 aM hf aF hd wr;go_wp2;go_loopw [7,11] (rV V2 a bb) (fun _ bA _=>bb+1-(intOf bA).toNat)
     case atStart=>exact⟨rfl,0,rfl,by omega,eR _⟩
     case round =>
      obtain⟨rfl,k,rfl,hk,hx⟩:=hrel;obtain⟨q,xq,ay,aZ,-,-⟩:=ap.o k oM;have bl:=za hx;have hX:Ba U wr:=af.o.trans (aJ.o.trans hx);obtain⟨b1,o1,e1,-,y⟩:=(ad.o.f hX).at' aj.o;cases e1;obtain⟨b2,o2,e2,-,z⟩:=(ad.o.f hX).at' ay;cases e2;have f:=K.o.keep hX.keep;have ba:=f.cell aZ;have bc:=f.cell br.o;have aI:=za (fun W=>HF.o W q t (lM ay) (lM aj.o));(have hf:Pe r L a k=Qd r q t:=by unfold Pe;rw[aj.o,ay]);(have ao:rs.getD k 0=xq:=by rw[gD,aZ];rfl);obtain⟨d2,be⟩:=gX (Qd r q t);rw[be]at aI hf;have aR:(k=bb/\d2=true/\(xq==xa)=true)\/(k<bb/\d2=true/\(xq==xa)=false)\/(k<bb/\d2=false):=by
       by_cases e:k=bb
       ·refine .inl ⟨e,?_,?_⟩
        ·rw[<-hf,e];exact l.o.fol i a bb ai.o ag.o
        ·rw[<-ao,e,bm.o];simp
       ·have ab:k<bb:=oM;cases d2
        ·exact .inr (.inr ⟨ab,rfl⟩)
        ·refine .inr (.inl ⟨ab,rfl,?_⟩);have h9:=(l.o.fst i a bb ai.o ag.o).1 k ab hf;rw[ao,ar.o]at h9;simpa using h9
      unfold yh at y z aI;have p0:=y 0 (O Y t.a) rfl;have q0:=z 0 (O Y q.a) rfl;have p1:=y 1 (O Y t.b) rfl;have q1:=z 1 (O Y q.b) rfl;have p2:=y 2 (O Y t.left) rfl;have q2:=z 2 (O Y q.left) rfl;have p3:=y 3 (O Y t.right) rfl;have q3:=z 3 (O Y q.right) rfl;have p4:=y 4 (O Y t.fr) rfl;have q4:=z 4 (O Y q.fr) rfl;have p5:=y 5 (O Y t.til) rfl;have q5:=z 5 (O Y q.til) rfl;simp only[Nat.add_zero]at p0 q0;have r7:=cE HC.o hX;have h0:(0:Int)<=(k:Int):=oM;have h1:(k:Int)<(n:Int):=oM;have C2:Da [(⟨s,0,Z⟩,O .u8 r.skin),(⟨s,1,Z⟩,O Y r.pin),(⟨s,2,Z⟩,O Y r.wide),(⟨s,3,Z⟩,O Y r.lap),(⟨s,4,Z⟩,O Y r.step),(⟨s,5,Z⟩,O Y r.run),(⟨s,6,Z⟩,O Y r.level),(⟨b,o+a*6,Z⟩,O Y t.a),(⟨b,o+a*6+1,Z⟩,O Y t.b),(⟨b,o+a*6+2,Z⟩,O Y t.left),(⟨b,o+a*6+3,Z⟩,O Y t.right),(⟨b,o+a*6+4,Z⟩,O Y t.fr),(⟨b,o+a*6+5,Z⟩,O Y t.til),(⟨b,o+k*6,Z⟩,O Y q.a),(⟨b,o+k*6+1,Z⟩,O Y q.b),(⟨b,o+k*6+2,Z⟩,O Y q.left),(⟨b,o+k*6+3,Z⟩,O Y q.right),(⟨b,o+k*6+4,Z⟩,O Y q.fr),(⟨b,o+k*6+5,Z⟩,O Y q.til),(⟨g6,k,Z⟩,O Y xq),(⟨g6,a,Z⟩,O Y xa)] wr:=by
       obtain⟨r0,r1,r2,r3,r4,r5,r6,-⟩:=r7;exact⟨r0,r1,r2,r3,r4,r5,r6,p0,p1,p2,p3,p4,p5,q0,q1,q2,q3,q4,q5,ba,bc,trivial⟩
      clear y z ay aZ ba bc p0 p1 p2 p3 p4 p5 q0 q1 q2 q3 q4 q5 hf be f ao hX hx r7;go_upto_region 14 with fail;refine jd _ (cE C2 (eR _).drew) fun aa=>?_;clear C2;refine La (i:=0) ?_;refine La (i:=1) ?_;refine La (i:=2) ?_;refine La (i:=3) ?_;refine La (i:=4) ?_;refine La (i:=5) ?_;refine La (i:=6) ?_;refine La (i:=7) ?_;refine La (i:=8) ?_;refine Ac (i:=9) (aI.o _) ?_;rintro e w4 ⟨rfl,aX⟩;refine⟨_,rfl,(cE aa aX),fun aa=>?_⟩;have ae:=za (bl.o.trans ((eR _).drew.trans aX));clear aX;rcases aR with ⟨rfl,rfl,he⟩|⟨ab,rfl,he⟩|⟨ab,rfl⟩
      ·skip
       refine La (i:=10) ?_;refine La (i:=11) ?_;refine La (i:=12) ?_;refine La (i:=13) ?_;refine La (i:=14) ?_;refine La (i:=15) ?_;refine La (i:=16) ?_;refine La (i:=17) ?_;refine La (i:=18) ?_;refine La (i:=19) ?_;refine La (i:=20) ?_;refine Pb ?_;clear aa;have am:=aL.o.keep ae.o.keep;have bq:=za am;clear am;have bx:V.heap.size<=w4.heap.size:=nT aJ.o.size ae.o.size;go_wp2_with(at_builtin;(refine nu Ek Tryz.underlying47 rfl _ _ rfl rfl ((Mx w4 3 k).mono bx) rfl (bq.o.alloc _).ints (by have:=aD.o;have:=l.o.len;simp only[List.length_singleton];omega) (by rw[wZ];omega) ?_);intro v' w5 ac aP bw);obtain⟨a5,c5,rfl⟩:=ac.form;rw[lA,aD.o,List.length_singleton]at ac ⊢;have X5:Ba V w5:=((aJ.o.trans ae.o).alloc _).D aP (nE _);go_roundw
       case rel=>exact⟨i+1,k,rfl,ag.o,by rw[YK ag.o];exact ac,X5⟩
       case measure=>have:=(lS.1 ag.o).1;simp only[Zt];omega
      ·skip
       refine La (i:=10) ?_;refine La (i:=11) ?_;refine La (i:=12) ?_;refine La (i:=13) ?_;refine La (i:=14) ?_;refine La (i:=15) ?_;refine La (i:=16) ?_;refine La (i:=17) ?_;refine La (i:=18) ?_;refine La (i:=19) ?_;refine La (i:=20) ?_;refine Pb ?_;go_wp2;go_roundw
       case rel=>exact⟨rfl,k+1,by go_num,by omega,ae.o⟩
       case measure=>simp[intOf];omega
      ·skip
       refine La (i:=10) ?_;refine Pa (i:=11) ?_;refine Pa (i:=12) ?_;refine Pa (i:=13) ?_;refine Pa (i:=14) ?_;refine Pa (i:=15) ?_;refine Pa (i:=16) ?_;refine Pa (i:=17) ?_;refine Pa (i:=18) ?_;refine Pa (i:=19) ?_;refine La (i:=20) ?_;refine Pb ?_;go_wp2;go_roundw
       case rel=>exact⟨rfl,k+1,by go_num,by omega,ae.o⟩
       case measure=>simp[intOf];omega
def UA(b:N)(s n:Nat)(r:Ru)(ps:List Pl)(c:Nat)(a:Act)(W:N):Prop:=
 ∃i v5 v7 v16 v17,i<=n/\c=n-i/\Ba b W/\Fe W b.heap.size v5 (ij r (Se ps) i)/\FJ s v5 (O Y i) v7 v16 v17 a
def Ip(w:N)(L:List Jt)(e:Ending)(w':N):Prop:=∃v base,e=.returned v/\Fe w' base v L/\w.heap.size<=base/\Ba w w'
def FS w vg vp ps r(hg:∃a n c,vg=M a n c)(hp:Cf w vp ps)(ab:∀p∈ps,Fa p=true)(L:ps.length<=120):Calls Tryz.prog 16 #[.agg #[vg,vp],.agg (Uf r)] w (Ip w (ij r (Se ps) (Se ps).length)):=by
 obtain⟨ga,gn,gc,rfl⟩:=hg;have HP:=za hp;have ad:=za ab;obtain⟨pa,t,rfl⟩:=hp.form;obtain⟨n,hn⟩:=gX ps.length;rw[ko,hn];rw[hn]at L HP;have Hn:=za hn;obtain⟨R,hR⟩:=gX (Ip w (ij r (Se ps) n));rw[hR];have HR:=za hR;clear hp ab hn hR;unfold Uf;go_in;go_wp2;obtain⟨y,f⟩:=gX (((w.alloc (Oa #[M ga gn gc,M pa n t] 25)).alloc (Oa #[O .u8 r.skin,O Y r.pin,O Y r.wide,O Y r.lap,O Y r.step,O Y r.run,O Y r.level] 27)));have X1:Ba w y:=by rw[<-f];exact((eR _).alloc _).alloc _
 have K2:y.heap[w.heap.size]?=I (Oa #[M ga gn gc,M pa n t] 25 (0,0)):=by rw[<-f];exact((eR _).alloc _).e (aN w _)
 have j:y.heap[w.heap.size+1]?=I (Oa #[O .u8 r.skin,O Y r.pin,O Y r.wide,O Y r.lap,O Y r.step,O Y r.run,O Y r.level] 27 (0,0)):=by rw[<-f];exact mc _ _ _ sM
 obtain⟨s,hs⟩:=gX w.heap.size;rw[f];simp only[hs]at K2 j ⊢;have HC:Ua (Da [(⟨s,0,Z⟩,M ga gn gc),(⟨s,1,Z⟩,M pa n t),(⟨s+1,0,Z⟩,O .u8 r.skin),(⟨s+1,1,Z⟩,O Y r.pin),(⟨s+1,2,Z⟩,O Y r.wide),(⟨s+1,3,Z⟩,O Y r.lap),(⟨s+1,4,Z⟩,O Y r.step),(⟨s+1,5,Z⟩,O Y r.run),(⟨s+1,6,Z⟩,O Y r.level)] y):=za ⟨Lb K2 (i:=0) rfl,Lb K2 (i:=1) rfl,Lb j (i:=0) rfl,Lb j (i:=1) rfl,Lb j (i:=2) rfl,Lb j (i:=3) rfl,Lb j (i:=4) rfl,Lb j (i:=5) rfl,Lb j (i:=6) rfl,trivial⟩;have z:=za X1;have ae:=za (HP.o.f X1);clear f X1 K2 j hs;refine wp_loop_ghost_k (UA y s n r ps) n ⟨0,_,_,_,_,Nat.zero_le _,rfl,eR _,by unfold ij qi;simp;exact Ea.nil _ _ _ _,⟨rfl,rfl,rfl,rfl,rfl,rfl,rfl,rfl,rfl⟩⟩ ?round;intro gk aa wr hinv;obtain⟨i,v5,v7,am,an,hi,ah,hx,ho,hF⟩:=hinv;subst ah;have HX:=za hx;have Ho:=za ho;obtain⟨-,c1,-⟩:=cE HC.o hx;clear hx ho;obtain⟨tt,dd⟩:=aa;obtain⟨x,k,l,m,o,q,b,e,g⟩:=hF;dsimp only at x k l m o q b e  g;subst g;obtain⟨u,hu,ht⟩:=Qf tt 161 x;simp only[hu]at k l m o q b e;clear hu x;subst ht;simp only[List.range,List.range.loop,List.map_cons,List.map_nil,k,l,m,o,q,b,e ];clear k l m o q b e;intro J K hJ hK;by_cases ai:i<n
 ·obtain⟨p,aj⟩:∃p,ps[i]?=I p:=⟨_,gE (by rw[Hn.o];exact ai)⟩;have e0:(i:Int)<(n:Int):=oM;go_wp2;refine TH _ y wr s n t gn gc i ga pa v5 _ _ r ps p _ ⟨rfl,rfl,rfl,rfl,rfl,rfl,rfl,rfl,rfl⟩ aj Hn.o L HX.o Ho.o HC ae ad (fun c a d v w h=>by cases d<;>exact h) (fun a' W' u5 ak al hF W ac=>?_);have af:=za ac;have ag:=za W;clear ac W c1;obtain⟨tt,dd⟩:=a';obtain⟨x,k,l,m,o,q,b,e,g⟩:=hF;dsimp only at x k l m o q b e  g;subst g;obtain⟨u,hu,ht⟩:=Qf tt 161 x;simp only[hu]at k l m o q b e;clear hu x;subst ht;simp only[List.range,List.range.loop,List.map_cons,List.map_nil,k,l,m,o,q,b,e ];clear k l m o q b e;go_wp2;refine Handed.intro (n-(i+1)) oM (hJ _ _ _ ⟨i+1,_,_,_,_,by omega,rfl,af.o,ag.o,⟨rfl,rfl,rfl,rfl,?_,rfl,rfl,rfl,rfl⟩⟩);show (_:G)=_;go_num
 ·obtain rfl:i=n:=oM;clear hJ hK;go_wp2;rw[<-HR.o];exact⟨_,_,rfl,Ho.o,z.o.size,z.o.trans HX.o⟩
def WQ{g ps r}:gh g ps r=if Eb g ps=0 then (if uh r=true then 0 else 2)else Eb g ps:=by
 unfold gh;split
 ·have h:=lO r;by_cases a:Cc r=0
  ·rw[a]at h;rw[h,a];rfl
  ·have b:Cc r=2:=by
    unfold Cc at a ⊢
    repeat' split
    all_goals first|rfl|(exfalso;apply a;simp_all)
   have c:uh r=false:=by rw[h];simpa using a
   rw[c,b];rfl
 ·rfl
def UQ w K L g ps r(x:Ab w K g)(z:Cf w L ps)(t:∀p∈ps,p.name.size<=1000000)(hl:g.length<=1000000):Calls Tryz.prog 14 #[.agg #[K,L],.agg (Uf r)] w fun e w'=>e=.returned (O Y (gh g ps r))/\Ba w w':=by
 have a:=za (fun W (R:Ba w W)=>lR W K L g ps (x.f R) (z.f R) t hl);have d:=za (fun W=>iR W r);obtain⟨ga,gn,gc,rfl⟩:=x.i;obtain⟨pa,ae,rfl⟩:=z.form;obtain⟨n,hn⟩:=gX ps.length;rw[hn]at a ⊢;have f:=WQ (g:=g) (ps:=ps) (r:=r);obtain⟨E,m⟩:=gX (gh g ps r);obtain⟨k,y⟩:=gX (Eb g ps);obtain⟨b,v⟩:=gX (uh r);rw[m,y,v]at f;rw[m];rw[y]at a;rw[v]at d;clear x z t hl hn m y v;unfold Uf at d ⊢;by_cases u:k=0
 ·subst u;rw[if_pos rfl]at f;cases b with
  |false=>
   rw[if_neg dM]at f;subst f;go_in;go_wp2_with(first|(go_at_call 21;refine cM (a.o _ eA) ?_;rintro e w1 ⟨rfl,c⟩;obtain⟨⟨q,s⟩,j,l⟩:=Nb w c)|(go_at_call 13;refine cM (d.o _) ?_;rintro e w2 ⟨rfl,o⟩));go_ret;exact⟨rfl,eA⟩
  |true=>
   rw[if_pos rfl]at f;subst f;go_in;go_wp2_with(first|(go_at_call 21;refine cM (a.o _ eA) ?_;rintro e w1 ⟨rfl,c⟩;obtain⟨⟨q,s⟩,j,l⟩:=Nb w c)|(go_at_call 13;refine cM (d.o _) ?_;rintro e w2 ⟨rfl,o⟩));go_ret;exact⟨rfl,eA⟩
 ·rw[if_neg u]at f;subst f;have e0:(E != 0)=true:=by simpa using u
  have i:True:=trivial;go_in;go_wp2_with(first|(go_at_call 21;have _t:=i;(with_reducible refine(a.o _ ?_).mono ?_);exact eA;rintro e w1 ⟨rfl,c⟩;obtain⟨⟨q,s⟩,j,l⟩:=Nb w c;clear i)|(go_at_call 21;(with_reducible refine(a.o _ ?_).mono ?_);exact eA;rintro e w2 ⟨rfl,o⟩;obtain⟨⟨ac,ad⟩,aa,ab⟩:=Nb w o));go_ret;exact⟨rfl,eA⟩
def iI{g ps}(h:Ji g ps=true):∀p∈ps,p.name.size<=1000000:=by unfold Ji at h;simp only[Bool.and_eq_true,Bool.not_eq_true',List.any_eq_false,decide_eq_true_eq]at h;intro p a;have:=h.1 p a;unfold Gi at this;simp at this;omega
def Fe.gj{w base v l}(h:Fe w base v l):pk w v l:=
 Ea.sl h sM (fun i c x a b=>by
  rw[lP,b]at a;cases a;rfl)
def Cb.oc{w base v l}(h:Cb 3 w base v l):Ea 3 1 w base v (l.map ic):=
 ⟨fun c a=>by obtain⟨z,-,rfl⟩:=List.mem_map.1 a;rfl,by rw[Ar,lL];exact h⟩
def DE{w a b l}(c:Ud w a l)(d:Ud w b l):Calls Tryz.prog 26 #[a,b] w fun e g=>e=.returned (.bool true)/\Ba w g:=
 (ky w a b l l c d).mono fun _ _ ⟨h,f⟩=>⟨by rw[h];simp,f⟩
def KP{w g ps r ks L rs e w'}(h:Cn w g ps r e w')(l:gh g ps r=0)(c:il r ps ks L rs):Ba w w'/\((L.length=0/\e=.returned (Oc #[M Z 0 0,O Y 0,O Y 8])) \/ (∃v cn last k,e=.returned (Oc #[v,O Y (Af L rs last),O Y 0])/\Ud w' v (iN cn).reverse/\last<L.length/\(∀i,i<L.length->Af L rs i<=Af L rs last)/\Ln r L rs last cn k/\∃j,L[k]?=I j/\j.fr=rs.getD k 0)):=by
 obtain⟨m,h|⟨_,n,L',b,a,h⟩⟩:=h
 ·exact absurd l h.1
 ·have d:L'=L:=by rw[<-Cx a,Cx c]
  subst d;have f:b=rs:=by rw[a.roots,c.roots]
  subst f;exact⟨m,h⟩
def MR w vg vp g ps r(hg:Ab w vg g)(hp:Cf w vp ps)(aE:Gw w):Calls Tryz.prog 6 #[.agg #[vg,vp],.agg (Uf r)] w fun e w'=>e=.returned (.bool true)/\Ba w w':=by
 have HF:=za (fun(W:N)(hW:Ba w W)=>vL W vg vp g ps (hg.f hW) (hp.f hW));have HW:=za (fun(hf:Ji g ps=true)(W:N)(hW:Ba w W)=>CO W vg vp g ps (hg.f hW) (hp.f hW) (ov hf).1 (by have:=(ov hf).2.1;omega) (ov hf).2.2);have o:=za (fun(hf:Ji g ps=true)(W:N)(hW:Ba w W)=>UQ W vg vp g ps r (hg.f hW) (hp.f hW) (iI hf) (by have:=(ov hf).1;omega));have u:=za (fun(h0:Eb g ps=0)(W:N)(hW:Ba w W)=>FS W vg vp ps r (by obtain⟨a,n,c,e⟩:=hg.i;exact⟨a,n,c,e⟩) (hp.f hW) (No h0).1 (No h0).2.1);have aj:=za (fun(W:N)(v1 v2:G)(hW:Ba w W)(h1:Ia W v1 g)(h2:ld W v2 ps)=>WE W v1 v2 g ps r h1 h2 (aE.ext hW));have an:=za (fun(W:N)(v1 v2:G)(hW:Ba w W)(h1:Ia W v1 g)(h2:ld W v2 ps)=>vS W v1 v2 g ps r h1 h2 (aE.ext hW));have HA:=za (fun(W:N)(hW:Ba w W)=>qQ W (aE.ext hW));obtain⟨ga,gc,rfl⟩:=hg.form;obtain⟨pa,bl,rfl⟩:=hp.form;obtain⟨gn,bf⟩:=gX g.length;obtain⟨pn,bj⟩:=gX ps.length;rw[bf,bj]at HF HW o u ⊢;clear hg hp aE bf bj;obtain⟨ru,bB⟩:=gX r;have am:=za (fun(W:N)(v:G)(L:List Jt)=>lG W v r L);have ak:=za (fun(W:N)(v:G)(L:List Jt)(rs:List Int)(last kl:Nat)(cn:List Nat)=>PQ W v r L rs last kl cn);obtain⟨sk,ae,l,ad,step,af,b⟩:=r;unfold Uf at o u aj an am ak ⊢;dsimp only at o u aj an am ak ⊢;cases hfew:Ji g ps with
 |false=>
  rw[hfew]at HF;clear HW o u aj an am ak;go_in;go_wp2_with(first|(go_at_call 8;refine cM (HF.o _ eA) ?_;rintro e w1 ⟨rfl,aZ⟩;have X1:Ba w w1:=eA)|(go_at_call 9;refine cM (HA.o _ X1) ?_;rintro e w2 ⟨rfl,bC⟩));go_ret;exact⟨rfl,X1.trans bC⟩
 |true=>
  rw[hfew]at HF;have a3:=za (HW.o hfew);have ao:=za (o.o hfew);clear hfew HW o;obtain⟨E,hE⟩:=gX (gh g ps ⟨sk,ae,l,ad,step,af,b⟩);have HE:=za hE;rw[hE]at ao;have o:=ao;clear hE ao bB;go_in;go_upto_region 3 with (go_at_call 8;refine cM (HF.o _ eA) ?_;rintro e w1 ⟨rfl,aZ⟩;have X1:Ba w w1:=eA;obtain⟨⟨bx,bz⟩,bo,bp⟩:=Nb w aZ);have C1:Da [(⟨w.heap.size,0,Z⟩,M ga gn gc),(⟨w.heap.size,1,Z⟩,M pa pn bl),(⟨w.heap.size+1,0,Z⟩,O .u8 sk),(⟨w.heap.size+1,1,Z⟩,O Y ae),(⟨w.heap.size+1,2,Z⟩,O Y l),(⟨w.heap.size+1,3,Z⟩,O Y ad),(⟨w.heap.size+1,4,Z⟩,O Y step),(⟨w.heap.size+1,5,Z⟩,O Y af),(⟨w.heap.size+1,6,Z⟩,O Y b)] w1:=by
   refine⟨?_,?_,?_,?_,?_,?_,?_,?_,?_,trivial⟩<;>go_simp
  have HC:=za C1;have a4:=za X1;clear aZ bx bz bo bp HF;refine Jz [(3,5,Oa #[M Z 0 0,M Z 0 0] 39 (0,0)),(4,6,Oa #[O .u8 0,O Y 0,O Y 0,O Y 0,O Y 0,O Y 0,O Y 0] 32 (0,0))] _ 5 3 (fun i=>decide (4<i)) (fun i=>i==2) kM kM kM sM kM (by intro x hx;simp only[List.mem_cons,List.not_mem_nil,or_false]at hx;rcases hx with rfl|rfl<;>exact⟨_,rfl,rfl,fun a W=>by go_simp⟩) (fun _ _ d _ _ h=>by cases d<;>exact h) (cE HC.o (eR _).drew) (fun aP=>?_);refine Rj (i:=0) ?_;refine Rj (i:=2) ?_;refine Eq (i:=1) fun W3 aq a9 bv K hK=>?_;go_simp;refine cM (a3.o _ (X1.drew.trans aq)) ?_;rintro e w3 ⟨bM,bN,rfl,aT,aW,a0⟩;obtain⟨⟨aB,aD,aC,rfl⟩,av,ax,aw,rfl⟩:=And.intro (Ma aT) (Ma aW.pls);go_wp2;refine kO hK (.of a9 a0) (fun _ _=>?_);clear hK K bv;refine df kM (fun W5 ah aR=>?_);intro b5 m y5 _ _ b6 j y6 aF _;have aF:b6≠b5:=by simpa using aF
  have X5:Ba w1 W5:=((eR w1).drew.trans aq).trans (a0.trans ah);have be:=aT.f ah;have bi:=aW.pls.f ah;have xf:=Za m;have yf:=Za j;have x0:=Aa m 0 (M Z 0 0);have x1:=Aa m 1 (M Z 0 0);have u0:=Aa j 0 (O .u8 0);have u1:=Aa j 1 (O Y 0);have u2:=Aa j 2 (O Y 0);have u3:=Aa j 3 (O Y 0);have u4:=Aa j 4 (O Y 0);have u5:=Aa j 5 (O Y 0);have u6:=Aa j 6 (O Y 0);clear aq a0 ah aT aW C1;refine Te (i:=5) fun K hK=>?_;go_simp;refine kO hK (cE aP (by(repeat refine Ba.set ?_ (by first|exact y5|exact y6) _);exact aR)) (fun a8=>?_);clear hK K;refine Te (i:=6) fun K hK=>?_;go_simp;refine kO hK (cE aP (by(repeat refine Ba.set ?_ (by first|exact y5|exact y6) _);exact aR)) (fun a8=>?_);clear hK K;refine Pb ?_;clear x0 x1 u0 u1 u2 u3 u4 u5 u6 xf yf;obtain⟨W6,aQ⟩:=gX (Cj (Cj W5 b5 0 [M aB aD aC,M av ax aw]) b6 0 [O .u8 sk,O Y ae,O Y l,O Y ad,O Y step,O Y af,O Y b]);have e6:((((((((W5.setCell ⟨b5,0,Z⟩ (M aB aD aC)).setCell ⟨b5,1,Z⟩ (M av ax aw)).setCell ⟨b6,0,Z⟩ (O .u8 sk)).setCell ⟨b6,1,Z⟩ (O Y ae)).setCell ⟨b6,2,Z⟩ (O Y l)).setCell ⟨b6,3,Z⟩ (O Y ad)).setCell ⟨b6,4,Z⟩ (O Y step)).setCell ⟨b6,5,Z⟩ (O Y af)).setCell ⟨b6,6,Z⟩ (O Y b)=W6:=aQ;rw[e6];have TB:=IO (cs:=[M Z 0 0,M Z 0 0]) (ds:=[O .u8 0,O Y 0,O Y 0,O Y 0,O Y 0,O Y 0,O Y 0]) [M aB aD aC,M av ax aw] [O .u8 sk,O Y ae,O Y l,O Y ad,O Y step,O Y af,O Y b] m j aF rfl rfl;rw[aQ]at TB;obtain⟨K5,K6,tb,tk,te⟩:=TB;have X6:=te w1 X5 y5 y6;have a1:=tk 91 dM dM;have az:=za (be.E a1);have aA:=za (show ld W6 (M av ax aw) ps from Sl.keep bi (fun _ _ h=>Am.keep h a1) (tk 95 dM dM));have t:Ua (Da [(⟨w.heap.size,0,Z⟩,M ga gn gc),(⟨w.heap.size,1,Z⟩,M pa pn bl),(⟨w.heap.size+1,0,Z⟩,O .u8 sk),(⟨w.heap.size+1,1,Z⟩,O Y ae),(⟨w.heap.size+1,2,Z⟩,O Y l),(⟨w.heap.size+1,3,Z⟩,O Y ad),(⟨w.heap.size+1,4,Z⟩,O Y step),(⟨w.heap.size+1,5,Z⟩,O Y af),(⟨w.heap.size+1,6,Z⟩,O Y b),(⟨b5,0,Z⟩,M aB aD aC),(⟨b5,1,Z⟩,M av ax aw),(⟨b6,0,Z⟩,O .u8 sk),(⟨b6,1,Z⟩,O Y ae),(⟨b6,2,Z⟩,O Y l),(⟨b6,3,Z⟩,O Y ad),(⟨b6,4,Z⟩,O Y step),(⟨b6,5,Z⟩,O Y af),(⟨b6,6,Z⟩,O Y b)] W6):=za (by
   obtain⟨s0,s1,y,z,R,r3,r4,r5,r6,-⟩:=cE HC.o X6;exact⟨s0,s1,y,z,R,r3,r4,r5,r6,Lb K5 (i:=0) rfl,Lb K5 (i:=1) rfl,Lb K6 (i:=0) rfl,Lb K6 (i:=1) rfl,Lb K6 (i:=2) rfl,Lb K6 (i:=3) rfl,Lb K6 (i:=4) rfl,Lb K6 (i:=5) rfl,Lb K6 (i:=6) rfl,trivial⟩)
  have f:=za (a4.o.trans X6);clear aQ e6 tb tk te a1 be bi X5 X6 m j a3 K5 K6 y5 y6 aF aR HC a4 aP a8 X1;obtain⟨s0,s1,y,z,R,r3,r4,r5,r6,t0,t1,q0,q1,q2,q3,q4,m,j,-⟩:=cE t.o (eR _);by_cases h0:E=0
  ·subst h0;have ag:Eb g ps=0:=(Qx HE.o).1;have aH:=za (u.o ag);have HB:=za (fun(ks:List (JS×G))(L:List Jt)(rs:List Int)(sv:il ⟨sk,ae,l,ad,step,af,b⟩ ps ks L rs)=>XA (No ag).1 (No ag).2.1 sv);clear u ag;go_upto_region 5 with (go_at_call 24;refine cM (aj.o _ _ _ f.o az.o aA.o) ?_;rintro e w7 (⟨bA,_⟩|⟨_,v7,L,ks,rs,rfl,aX,aG,k⟩);(focus(exact absurd HE.o bA));obtain⟨a7,n7,c7,rfl⟩:=Ma aX);have bt:=za aX;have HS:=za aG;have ap:=za k;have ay:=za (HB.o ks L rs aG);have aU:=aH.o;rw[Cx aG]at aU;have u:=za aU;clear aX aG k aU aH HB aj;clear s0 s1 y z R r3 r4 r5 r6 t0 t1 q0 q1 q2 q3 q4 m j;obtain⟨s0,s1,y,z,R,r3,r4,r5,r6,t0,t1,q0,q1,q2,q3,q4,m,j,-⟩:=cE t.o (ap.o);go_upto_region 6 with (go_at_call 25;refine cM (an.o _ _ _ (f.o.trans ap.o) (az.o.f ap.o) (aA.o.f ap.o)) ?_;rintro e w8 h8;obtain⟨p,⟨ag,rfl⟩|⟨v8,cn,last,kl,rfl,aY,hl,bh,bb,hj⟩⟩:=KP h8 HE.o HS.o)
   all_goals
    (try(have bs:=za ag;clear ag));have aM:=za (ap.o.trans p);have H8:=za p;clear p;clear s0 s1 y z R r3 r4 r5 r6 t0 t1 q0 q1 q2 q3 q4 m j;obtain⟨s0,s1,y,z,R,r3,r4,r5,r6,t0,t1,q0,q1,q2,q3,q4,m,j,-⟩:=cE t.o (aM.o);go_upto_region 8 with (go_at_call 14;refine cM (o.o _ (f.o.trans aM.o)) ?_;rintro e w9 ⟨rfl,ac⟩);have aO:=za (aM.o.trans ac);have H9:=za ac;clear ac;clear s0 s1 y z R r3 r4 r5 r6 t0 t1 q0 q1 q2 q3 q4 m j;obtain⟨s0,s1,y,z,R,r3,r4,r5,r6,t0,t1,q0,q1,q2,q3,q4,m,j,-⟩:=cE t.o (aO.o);go_upto_region 9 with (go_at_call 16;refine cM (u.o _ (f.o.trans aO.o)) ?_;rintro e bm ⟨bJ,base,rfl,ai,-,q⟩;obtain⟨ba,bn,bc,bw⟩:=Ea.i ai;subst bw);have aS:=Ea.len ai;rw[lL]at aS;have a6:=za aS;have aI:=za (aO.o.trans q);have a2:=za (H9.o.trans q);have aJ:=za (Fe.gj ai);clear q ai aS;clear s0 s1 y z R r3 r4 r5 r6 t0 t1 q0 q1 q2 q3 q4 m j;obtain⟨s0,s1,y,z,R,r3,r4,r5,r6,t0,t1,q0,q1,q2,q3,q4,m,j,-⟩:=cE t.o (aI.o);go_upto_region 11 with (first|(go_at_call 17;refine cM (am.o _ _ L aJ.o ay.o.jts (by have:=ay.o.len;omega)) ?_;rintro e bD ⟨bK,bq,rfl,ar,-,s⟩;rw[<-HS.o.roots]at ar;obtain⟨bF,bH,rfl⟩:=ar.form)|(go_at_call 26;(with_reducible refine(DE (bt.o.f ((H8.o.trans a2.o).trans s)) ar.oc.is).mono ?_);rintro e bO ⟨rfl,au⟩));have aa:=za (aI.o.trans (s.trans au));have a5:=za (s.trans au);clear s au;clear s0 s1 y z R r3 r4 r5 r6 t0 t1 q0 q1 q2 q3 q4 m j
   ·have hz:bn=0:=a6.o.trans bs.o;subst hz;go_wp2_with(go_at_call 9;refine cM (HA.o _ (f.o.trans aa.o)) ?_;rintro e bE ⟨rfl,ab⟩);go_ret;exact⟨rfl,(f.o.trans aa.o).trans ab⟩
   ·(have e0:((bn:Int)==0)=false:=by have:=a6.o;simp;omega);obtain⟨hh,aV⟩:=gX (Af L rs last);have Hh:=za aV;have al:=za (fun(W:N)(hW:Ba bm W)=>ak.o W _ L rs last kl cn (aJ.o.f hW) ay.o.jts (by have:=ay.o.len;omega) HS.o.roots hl bh bb hj);obtain⟨l9,bg⟩:=gX ((iN cn).reverse);rw[bg]at al aY;rw[aV]at al ⊢;have bu:=za aY;clear aV hl bh bb hj aY bg;obtain⟨s0,s1,y,z,R,r3,r4,r5,r6,t0,t1,q0,q1,q2,q3,q4,m,j,-⟩:=cE t.o (aa.o);go_upto_region 14 with (go_at_call 27;refine cM (al.o _ a5.o) ?_;rintro e bE ⟨bL,br,rfl,aK,-,ab⟩;obtain⟨bG,bI,rfl⟩:=aK.form);clear s0 s1 y z R r3 r4 r5 r6 t0 t1 q0 q1 q2 q3 q4 m j;go_wp2_with(first|(go_at_call 26;(with_reducible refine(DE (bu.o.f ((a2.o.trans a5.o).trans ab)) aK.oc.is).mono ?_);rintro e bP ⟨rfl,aL⟩)|(go_at_call 9;refine cM (HA.o _ ((f.o.trans aa.o).trans (ab.trans aL))) ?_;rintro e bQ ⟨rfl,bk⟩));go_ret;exact⟨rfl,((f.o.trans aa.o).trans (ab.trans aL)).trans bk⟩
  ·have e0:(E != 0)=true:=by simpa using h0
   clear u am ak;go_upto_region 5 with (go_at_call 24;refine cM (aj.o _ _ _ f.o az.o aA.o) ?_;rintro e w7 (⟨_,rfl,k⟩|⟨h9,_⟩);rotate_left 1;(focus(exact absurd (HE.o.symm.trans h9) h0));rw[HE.o]);clear s0 s1 y z R r3 r4 r5 r6 t0 t1 q0 q1 q2 q3 q4 m j;obtain⟨s0,s1,y,z,R,r3,r4,r5,r6,t0,t1,q0,q1,q2,q3,q4,m,j,-⟩:=cE t.o (k);go_upto_region 6 with (go_at_call 25;refine cM (an.o _ _ _ (f.o.trans k) (az.o.f k) (aA.o.f k)) ?_;rintro e w8 ⟨p,⟨_,rfl⟩|⟨h9,_⟩⟩;rotate_left 1;(focus(exact absurd (HE.o.symm.trans h9) h0));rw[HE.o]);clear s0 s1 y z R r3 r4 r5 r6 t0 t1 q0 q1 q2 q3 q4 m j;obtain⟨s0,s1,y,z,R,r3,r4,r5,r6,t0,t1,q0,q1,q2,q3,q4,m,j,-⟩:=cE t.o (k.trans p);go_upto_region 7 with (go_at_call 14;refine cM (o.o _ (f.o.trans (k.trans p))) ?_;rintro e w9 ⟨rfl,ac⟩);clear s0 s1 y z R r3 r4 r5 r6 t0 t1 q0 q1 q2 q3 q4 m j;obtain⟨s0,s1,y,z,R,r3,r4,r5,r6,t0,t1,q0,q1,q2,q3,q4,m,j,-⟩:=cE t.o ((k.trans p).trans ac);go_wp2_with(first|(go_at_call 14;refine cM (o.o _ (f.o.trans ((k.trans p).trans ac))) ?_;rintro e bm ⟨rfl,q⟩)|(go_at_call 9;refine cM (HA.o _ (f.o.trans (((k.trans p).trans ac).trans q))) ?_;rintro e bD ⟨rfl,s⟩));go_ret;exact⟨rfl,(f.o.trans (((k.trans p).trans ac).trans q)).trans s⟩
end
section
open Go Go.ChangeShapes Go.WideShapes Go.ChangeAt Go.RowKit
def Uh os(c:os.Started) H(enc:TypeId×G->H) :
  ReturnsInHanded {} Tryz.checked os 6 .any (fun w args=>(Rows.jointRootsSpec.pre enc Tryz.prog Tryz.f6 [] false w args/\laidMetH Tryz.prog [("copestone/stone.ways",Rows.laid_copestone_stone_ways)] w)/\sizedMet enc Tryz.prog Tryz.f6 (OpenSpec.ofChange Rows.jointRootsSpec) false w args)
   (Rows.jointRootsSpec.post enc Tryz.prog Tryz.f6 false true false false):=by
 refine returnsInHanded_of_change_and (C:=Tryz.checked) (X:=fun w _=>laidMetH Tryz.prog [("copestone/stone.ways",Rows.laid_copestone_stone_ways)] w) (fun _ _ _ hh h=>h.of_heap hh) IN c kM Tryz.func6
  (ChangeSpec.witness_shaped (enc:=enc) (C:=Tryz.checked) (os:=os) (X:=fun w _=>laidMetH Tryz.prog [("copestone/stone.ways",Rows.laid_copestone_stone_ways)] w) false (World.doorLaid Tryz.prog 14 os) #[.agg #[M Z 0 0,M Z 0 0],.agg #[O .u8 0,O Y 0,O Y 0,O Y 0,O Y 0,O Y 0,O Y 0]] 8 rfl (World.shaped_of_RefB kM kM) kM kM kM (MM os _)) ?_
 intro W base args R gs m b L _ _ hL _;have a:∀(j:Nat) t v,Tryz.f6.params[j]?=I t->args[j]?=I v->Value.okWide Tryz.prog W .any base t v:=b;have d:=L;obtain⟨p,q,i,hV,rfl,ac,ad⟩:=L;have K:DataW.TrodAll enc Tryz.prog W 0 (fun _=>true) true Tryz.f6.params.toList args.toList R p:=i;rw[Tryz.params6]at K a;obtain⟨v0,ae,d0,aa,s,q0,r,rfl,rfl,y,r0⟩:=trodAll_cons K;obtain⟨v1,af,d1,ab,u,q1,rfl,rfl,rfl,z,r1⟩:=trodAll_cons r0;obtain⟨rfl,rfl,rfl⟩:=trodAll_nil r1;obtain rfl:args=#[v0,v1]:=by cases args;simp_all
 obtain⟨rfl,rfl⟩:=trodVars_none hV;have n:=y;have o:=z;obtain⟨vg,vp,g,ps,rfl,hg,hp⟩:=pT (a 0 _ _ rfl rfl) y;obtain⟨ru,rfl⟩:=AT (a 1 _ _ rfl rfl) z;clear i b;rw[List.append_nil (s++(u++[]))]at d;have k:∀x∈s,x.block<W.heap.size:=fun x f=>d.lt x (by simp[f]);have l:∀x∈u,x.block<W.heap.size:=fun x f=>d.lt x (by simp[f]);refine(MR W vg vp g ps ru hg hp (ZQ hL)).mono fun e W' ⟨he,f⟩=>?_;subst he;exact⟨_,rfl,_,_,_,[],s++(u++[]),[],d,trodAll_cons_mk (shut_bool Tryz.underlying4 _) trodAll_mk0,
  trodAll_cons_mk (Below.trod iy kM (of_decide_eq_true kM) n f k) (trodAll_cons_mk (Below.trod iy kM (of_decide_eq_true kM) o f l) trodAll_mk0),
  rfl,Below.frame f _,fun h=>by cases h⟩
def JT:Rows.JointRootsSaid:=
 OpenClaim.holds_of_wide 6 Tryz.f6 rfl rfl rfl rfl rfl rfl rfl ⟨rfl,rfl,rfl,rfl,rfl⟩ rfl rfl rfl rfl rfl kM Tryz.func6 Vt
  (of_decide_eq_true kM) (by unfold Func.isWrapper;first|(rw[if_pos (by decide +kernel)];kernel_rfl)|(rw[if_neg (by decide +kernel)];exact⟨rfl,rfl⟩))
  (fun b a H enc _=>Uh b a H enc)
