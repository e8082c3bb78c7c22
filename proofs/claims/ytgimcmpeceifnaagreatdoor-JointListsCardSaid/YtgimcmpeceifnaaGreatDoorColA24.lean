import Derived.Test.YtgimcmpeceifnaaGreatDoorColA23
import Derived.Laws.StructEq
set_option maxRecDepth 1000000
set_option maxHeartbeats 16000000
set_option linter.all false
open Go.Value renaming int->O,slice->I,pointer->A,agg->P
open Go.IntKind renaming i64->Y
open Option renaming none->Z,some->M
open Go renaming World->N,Value->G,Act->S
namespace Go.Proofs.YtgimcmpeceifnaaGreatDoor.Cop
section
open Go.RowKit Go.Shelf Go.Sort Go.Lib Go.Maps
def nv{r:Ru}{ps:List Pl}{j:JS}(h:j∈Pb r ps):j∈Me ps:=(List.mem_filter.1 h).1
def VA{ps:List Pl}{a b:JS}(f:a∈Me ps)(g:b∈Me ps)(h:a.k=b.k):a=b:=by
 obtain⟨i,c⟩:=List.getElem?_of_mem f;obtain⟨j,d⟩:=List.getElem?_of_mem g;unfold Me at c d;rw[List.getElem?_mapIdx]at c d;cases hp:ps[i]? with
 | none=>rw[hp]at c;cases c
 | some p =>
  cases hq:ps[j]? with
  | none=>rw[hq]at d;cases d
  | some q =>
   rw[hp]at c;rw[hq]at d;cases c;cases d;have e:i=j:=by unfold Ib at h;dsimp only at h;omega
   subst e;rw[hp]at hq;cases hq;rfl
def zK{r:Ru}{ps:List Pl}{x y:Jt}(e:x∈oh r (Pb r ps))(f:y∈oh r (Pb r ps))(l:¬Ug y x<0)(m:¬Ug x y<0):x=y:=by unfold oh Qg at e f;obtain⟨a,p,n⟩:=List.mem_flatMap.1 e;obtain⟨b,q,rfl⟩:=List.mem_map.1 n;obtain⟨c,s,o⟩:=List.mem_flatMap.1 f;obtain⟨d,t,rfl⟩:=List.mem_map.1 o;rw[Bo]at l m;have g:(pe a b).a=(pe c d).a:=oM;have i:(pe a b).b=(pe c d).b:=oM;have j:a=c:=VA (nv p) (nv s) g;have k:b=d:=VA (nv (List.mem_filter.1 q).1) (nv (List.mem_filter.1 t).1) i;rw[j,k]
def QH{r c:Ru}{ps:List Pl}{ks d:List (JS×G)}{L L':List Jt}{rs f:List Int}(h:On r ps ks L rs)(e:On c ps d L' f)(l:c.skin=r.skin)(m:c.wide=r.wide):L'=L/\d.map Prod.fst=ks.map Prod.fst:=by
 have g:Pb c ps=Pb r ps:=by
  unfold Pb
  congr 1
  funext j
  unfold Nf;rw[l]
 have k:oh c (Pb c ps)=oh r (Pb r ps):=by
  rw[g];unfold oh
  congr 1
  funext a
  unfold Qg
  congr 1
  congr 1
  funext b
  unfold Ed;rw[m]
 refine⟨?_,by rw[h.skin,e.skin,g]⟩;have i:L'.Perm L:=(e.perm.trans (by rw[k])).trans h.perm.symm;refine List.Perm.eq_of_pairwise (le:=fun a b=>¬Ug b a<0) (fun a b n o p q=>?_) e.ord h.ord i;exact zK (h.perm.mem_iff.1 (i.mem_iff.1 n)) (h.perm.mem_iff.1 o) p q
end
section
open Go.RowKit Go.Shelf Go.Sort
def Gd(j:Jt)(out:List Jt):Nat->Nat
 | 0=>0
 | n+1=>match out[n]? with|some x=>if Ug j x<0 then Gd j out n else n+1|none=>n+1
def Tg(out:List Jt)(j:Jt):List Jt:=out.take (Gd j out out.length)++j::out.drop (Gd j out out.length)
def Cn(l:List Jt):Prop:=l.Pairwise fun a b=>¬Ug b a<0
def Ry(j:Jt)(out:List Jt):∀n,n<=out.length->Gd j out n<=n/\(∀i x,Gd j out n<=i->i<n->out[i]?=M x->Ug j x<0)/\(∀x,0<Gd j out n->out[Gd j out n-1]?=M x->¬Ug j x<0)
 | 0,_=>⟨nE _,fun i x _ h _=>by omega,fun x h _=>absurd h (Nat.lt_irrefl _)⟩
 | n+1,h=>by
  obtain⟨x,c⟩:∃x,out[n]?=M x:=⟨_,gE oM⟩;have e:Gd j out (n+1)=if Ug j x<0 then Gd j out n else n+1:=by rw[Gd,c]
  rw[e];split
  ·rename_i hc;obtain⟨l,f,g⟩:=Ry j out n oM;refine⟨by omega,fun i y d k a=>?_,g⟩;by_cases b:i=n
   ·subst b;rw[c]at a;cases a;exact hc
   ·exact f i y d oM a
  ·rename_i hc;refine⟨nE _,fun i y d k _=>by omega,fun y _ a=>?_⟩;rw[Nat.add_sub_cancel,c]at a;cases a;exact hc
def tB{a b c:Jt}(d:¬Ug b a<0)(e:¬Ug c b<0):¬Ug c a<0:=by rw[Bo]at *;omega
def uB{a b:Jt}(h:Ug a b<0):¬Ug b a<0:=by rw[Bo]at *;omega
def yE(out:List Jt)(j:Jt):(Tg out j).Perm (j::out):=by unfold Tg;refine List.perm_middle.trans ?_;rw[List.take_append_drop]
def OL{out:List Jt}(h:Cn out)(j:Jt):Cn (Tg out j):=by
 obtain⟨s,p,q⟩:=Ry j out out.length (nE _);generalize hm:Gd j out out.length=m at *
 have r:=List.pairwise_iff_getElem.1 h;have c:∀a∈out.take m,¬Ug j a<0:=fun a l=>by
  obtain⟨i,n,e⟩:=List.getElem_of_mem l;rw[List.length_take]at n;rw[List.getElem_take]at e;have k:m-1<out.length:=oM;have g:=q (out[m-1]'k) oM (gE k);by_cases o:i=m-1
  ·subst o;rw[<-e];exact g
  ·rw[<-e];exact tB (r i (m-1) oM k oM) g
 have d:∀b∈out.drop m,Ug j b<0:=fun b f=>by
  obtain⟨i,n,e⟩:=List.getElem_of_mem f;rw[List.length_drop]at n;rw[List.getElem_drop]at e;exact p (m+i) b oM oM (by rw[<-e];exact gE _)
 unfold Tg Cn;rw[hm,List.pairwise_append];refine⟨h.sublist (List.take_sublist _ _),List.pairwise_cons.2 ⟨fun b f=>uB (d b f),h.sublist (List.drop_sublist _ _)⟩,fun a l b f=>?_⟩;rcases List.mem_cons.1 f with rfl|f
 ·exact c a l
 ·exact tB (c a l) (uB (d b f))
def kE:∀(l out:List Jt),Cn out->Cn (l.foldl Tg out)/\(l.foldl Tg out).Perm (out++l)
 | [],out,h=>⟨h,by rw[List.append_nil];exact List.Perm.refl _⟩
 | j::l,out,h=>by
  obtain⟨a,b⟩:=kE l (Tg out j) (OL h j);refine⟨a,b.trans ?_⟩;refine((yE out j).append_right l).trans ?_;rw[List.cons_append];exact List.perm_middle.symm
def Mz{r:Ru}{ps:List Pl}{ks:List (JS×G)}{L:List Jt}{rs:List Int}(h:On r ps ks L rs):(oh r (Pb r ps)).foldl Tg []=L:=by obtain⟨b,a⟩:=kE (oh r (Pb r ps)) [] List.Pairwise.nil;rw[List.nil_append]at a;exact(QH h ⟨h.skin,a,b,rfl⟩ rfl rfl).1
end
section
open Go.RowKit Go.Shelf Go.Sort Go.Lib
def Dj(r:Ru)(js:List JS)(a:JS)(k:Nat):List Jt:=(((js.take k).filter (Nf r)).filter (Ed r (js.filter (Nf r)) a)).map (pe a)
def li(r:Ru)(js:List JS)(i:Nat):List Jt:=((js.take i).filter (Nf r)).flatMap (Qg r (js.filter (Nf r)))
def lD(r:Ru)(js:List JS)(a:JS):Dj r js a js.length=Qg r (js.filter (Nf r)) a:=by unfold Dj Qg;rw[List.take_length]
def ME(r:Ru){js:List JS}(a:JS){k:Nat}{b:JS}(h:js[k]?=M b):Dj r js a (k+1)=Dj r js a k++if (Nf r b&&Ed r (js.filter (Nf r)) a b)=true then [pe a b]else []:=by
 unfold Dj;rw[Ce _ _ _ h,List.filter_append,List.filter_append,List.map_append]
 congr 1
 cases h1:Nf r b
 ·simp[h1]
 ·cases h2:Ed r (js.filter (Nf r)) a b
  ·simp[h1,h2]
  ·simp[h1,h2]
def uy(r:Ru){js:List JS}{i:Nat}{a:JS}(h:js[i]?=M a):li r js (i+1)=li r js i++if Nf r a=true then Qg r (js.filter (Nf r)) a else []:=by
 unfold li;rw[Ce _ _ _ h,List.filter_append,List.flatMap_append]
 congr 1
 cases h1:Nf r a
 ·simp[h1]
 ·simp[h1]
def JM(r:Ru)(ps:List Pl):li r (Me ps) (Me ps).length=oh r (Pb r ps):=by unfold li oh Pb;rw[List.take_length]
def jj(r:Ru)(js:List JS)(i:Nat):List Jt:=(li r js i).foldl Tg []
def ul(r:Ru)(js:List JS)(i:Nat)(a:JS)(k:Nat):List Jt:=(Dj r js a k).foldl Tg (jj r js i)
def iM(r:Ru)(js:List JS)(i:Nat)(a:JS):ul r js i a 0=jj r js i:=by unfold ul Dj;simp
def TJ{r:Ru}{js:List JS}{i:Nat}{a b:JS}{k:Nat}(h:js[k]?=M b)(c:(Nf r b&&Ed r (js.filter (Nf r)) a b)=true):ul r js i a (k+1)=Tg (ul r js i a k) (pe a b):=by unfold ul;rw[ME r a h,if_pos c,List.foldl_append];rfl
def JI{r:Ru}{js:List JS}{i:Nat}{a b:JS}{k:Nat}(h:js[k]?=M b)(c:(Nf r b&&Ed r (js.filter (Nf r)) a b)=false):ul r js i a (k+1)=ul r js i a k:=by unfold ul;rw[ME r a h,if_neg (by rw[c];decide),List.append_nil]
def VJ{r:Ru}{js:List JS}{i:Nat}{a:JS}(h:js[i]?=M a)(b:Nf r a=true):jj r js (i+1)=ul r js i a js.length:=by unfold jj ul;rw[uy r h,if_pos b,List.foldl_append,lD];rfl
def KI{r:Ru}{js:List JS}{i:Nat}{a:JS}(h:js[i]?=M a)(b:Nf r a=false):jj r js (i+1)=jj r js i:=by unfold jj;rw[uy r h,if_neg (by rw[b];decide),List.append_nil]
def FC{r:Ru}{ps:List Pl}{ks:List (JS×G)}{L:List Jt}{rs:List Int}(h:On r ps ks L rs):jj r (Me ps) (Me ps).length=L:=by unfold jj;rw[JM];exact Mz h
def tQ{α:Type}{out:List α}{k:Nat}{y x:α}(f:0<k)(a:out[k-1]?=M x):(out.take k++y::out.drop k).set k x=out.take (k-1)++x::out.drop (k-1):=by
 have e:=(lS.1 a).1;have b:(out.take k).length=k:=by rw[List.length_take];omega
 rw[List.set_append_right _ _ oM,b,Nat.sub_self,List.set_cons_zero];have c:out.take k=out.take (k-1)++[x]:=by
  have:=Ce out (k-1) x a;rw[show k-1+1=k by omega]at this;exact this
 have d:out.drop (k-1)=x::out.drop k:=by
  rw[List.drop_eq_getElem_cons e,show k-1+1=k by omega]
  congr 1
  exact(lS.1 a).2
 rw[c,d,List.append_assoc];rfl
def AM{α:Type}{out:List α}{k:Nat}{y x:α}(b:0<k)(a:out[k-1]?=M x):(out.take k++y::out.drop k)[k-1]?=M x:=by have c:=(lS.1 a).1;rw[List.getElem?_append_left (by rw[List.length_take];omega),List.getElem?_take_of_lt oM];exact a
def jP{α:Type}{out:List α}{k:Nat}{y j:α}(b:k<=out.length):(out.take k++y::out.drop k).set k j=out.take k++j::out.drop k:=by
 have a:(out.take k).length=k:=by rw[List.length_take];omega
 rw[List.set_append_right _ _ oM,a,Nat.sub_self,List.set_cons_zero]
def ZR{j:Jt}{out:List Jt}{n:Nat}{x:Jt}(h:out[n]?=M x):Gd j out (n+1)=if Ug j x<0 then Gd j out n else n+1:=by rw[Gd,h]
def PL(out:List Jt)(j:Jt):(Tg out j).length=out.length+1:=(yE out j).length_eq
def Mx:∀(l out:List Jt),(l.foldl Tg out).length=out.length+l.length
 | [],out=>rfl
 | j::l,out=>by
  rw[List.foldl_cons,Mx l,PL,List.length_cons];omega
def kD(r:Ru)(js:List JS)(a:JS)(k:Nat):(Dj r js a k).length<=k:=by unfold Dj;rw[lL];refine nT (List.length_filter_le _ _) (nT (List.length_filter_le _ _) ?_);rw[List.length_take];omega
def oD(r:Ru)(js:List JS):∀i,(li r js i).length<=i*js.length
 | 0=>by simp[li]
 | i+1=>by
  have c:=oD r js i;cases h:js[i]? with
  |none=>
   have e:li r js (i+1)=li r js i:=by
    unfold li;have:=List.getElem?_eq_none_iff.1 h;rw[lT oM,lT oM]
   rw[e,Nat.succ_mul];omega
  | some a =>
   rw[uy r h,lA,Nat.succ_mul];have b:=kD r js a js.length;rw[lD]at b;split
   ·omega
   ·simp;omega
def Ix(r:Ru)(js:List JS)(i:Nat):(jj r js i).length<=i*js.length:=by unfold jj;rw[Mx];have:=oD r js i;simp;omega
def UJ(r:Ru)(js:List JS)(i:Nat)(a:JS)(k:Nat):(ul r js i a k).length<=i*js.length+k:=by unfold ul;rw[Mx];have:=Ix r js i;have:=kD r js a k;omega
def Th(r:Ru)(js:List JS)(i:Nat)(a:JS)(k:Nat):List Jt:=if Nf r a=true then ul r js i a k else jj r js i
def ZL(r:Ru)(js:List JS)(i:Nat)(a:JS):Th r js i a 0=jj r js i:=by
 unfold Th;split
 ·exact iM r js i a
 ·rfl
def RJ(r:Ru)(js:List JS)(i:Nat)(a:JS)(k:Nat):(Th r js i a k).length<=i*js.length+k:=by
 unfold Th;split
 ·exact UJ r js i a k
 ·have:=Ix r js i;omega
def SJ{r:Ru}{js:List JS}{i:Nat}{a:JS}(h:js[i]?=M a):Th r js i a js.length=jj r js (i+1):=by
 unfold Th;cases h1:Nf r a
 ·rw[if_neg dM,KI h h1]
 ·rw[if_pos rfl,VJ h h1]
def QJ{r:Ru}{js:List JS}{i:Nat}{a:JS}{k:Nat}(h:Nf r a=false):Th r js i a (k+1)=Th r js i a k:=by unfold Th;rw[h];rfl
def Rq{r:Ru}{js:List JS}{i:Nat}{a b:JS}{k:Nat}(h:js[k]?=M b)(c:(Nf r b&&Ed r (js.filter (Nf r)) a b)=false):Th r js i a (k+1)=Th r js i a k:=by unfold Th;rw[JI h c]
def OJ{r:Ru}{js:List JS}{i:Nat}{a b:JS}{k:Nat}(h:js[k]?=M b)(c:Nf r a=true)(d:(Nf r b&&Ed r (js.filter (Nf r)) a b)=true):Th r js i a (k+1)=Tg (Th r js i a k) (pe a b):=by unfold Th;rw[if_pos c,if_pos c,TJ h d]
end
section
open Go.RowKit Go.Shelf Go.Sort Go.Lib
attribute [local go_sem] Oper.semAt_some
def tW(R:Exit->S->N->Prop):Prop:=∀(c:List PanicEntry)(a:S)(d:Option Nat)(v:G)(w:N),R (.panic c) (a.put d v) w->R (.panic c) a w
def sW{R:Exit->S->N->Prop}(f:Va (tW R)){d:Option Nat}{v:G}:∀(c:List PanicEntry)(a:S)(w:N),R (.panic c) (a.put d v) w->R (.panic c) a w:=fun c a w h=>f.o c a d v w h
def FJ(s:Nat)(v5 d e b c:G)(a:S):Prop:=a.tmps.size=161/\a.tmps.getD 2 undef=A (M ⟨s,0,Z⟩)/\a.tmps.getD 3 undef=A (M ⟨s+1,0,Z⟩)/\a.tmps.getD 5 undef=v5/\a.tmps.getD 6 undef=d/\a.tmps.getD 7 undef=e/\a.tmps.getD 16 undef=b/\a.tmps.getD 17 undef=c/\a.defers=[]
abbrev Pe(w:N)(base:Nat)(v:G)(l:List Jt):Prop:=Fa 97 6 w base v (l.map Sg)
def Pe.at{w:N}{base:Nat}{a:Option Addr}{n c:Nat}{l:List Jt}(h:Pe w base (I a n c) l){i:Nat}{x:Jt}(k:l[i]?=M x):∃g,a=M ⟨g,0,Z⟩/\base<=g/\g<w.heap.size/\Ea [(⟨g,i*6,Z⟩,O Y x.a),(⟨g,i*6+1,Z⟩,O Y x.b),(⟨g,i*6+2,Z⟩,O Y x.left),(⟨g,i*6+3,Z⟩,O Y x.right),(⟨g,i*6+4,Z⟩,O Y x.fr),(⟨g,i*6+5,Z⟩,O Y x.til)] w:=by
 have d:(l.map Sg)[i]?=M (Sg x):=by rw[lP,k];rfl
 have m:=(lS.1 d).1;obtain⟨g,rfl,e,f⟩:=h.blk oM;exact⟨g,rfl,e,f,h.cell (j:=0) d rfl,h.cell (j:=1) d rfl,h.cell (j:=2) d rfl,h.cell (j:=3) d rfl,h.cell (j:=4) d rfl,h.cell (j:=5) d rfl,trivial⟩
def Pe.put{w:N}{base g n c i:Nat}{l:List Jt}(h:Pe w base (I (M ⟨g,0,Z⟩) n c) l){x y:Jt}(b:l[i]?=M x):Pe (Wj w g (i*6) (Sg y)) base (I (M ⟨g,0,Z⟩) n c) (l.set i y):=by have a:=Fa.putAll (j:=0) (us:=Sg y) h (i:=i) (d:=Sg x) (by rw[lP,b];rfl) rfl;unfold Pe;rw[List.map_set];exact a
def iV(W0:N)(s:Nat)(v5 d e b:G)(j:Jt)(out:List Jt)(n:Nat)(c:Nat)(a:S)(W:N):Prop:=
 ∃m:Nat,m<=n/\c=m/\Ba W0 W/\Gd j out m=Gd j out n/\FJ s v5 d e b (O Y m) a
def MH(Q:Exit->S->N->Prop)(W0:N)(s n R base c:Nat)(a5:Option Addr)(v6 v7:G)(j:Jt)(out:List Jt)(a0:S)(hF:FJ s (I a5 n R) v6 v7 (A (M ⟨c,0,Z⟩)) (O Y n) a0)(ae:n<=1000000)(ho:Pe W0 base (I a5 n R) out)(hb:Ea [(⟨c,0,Z⟩,O Y j.a),(⟨c,1,Z⟩,O Y j.b),(⟨c,2,Z⟩,O Y j.left),(⟨c,3,Z⟩,O Y j.right),(⟨c,4,Z⟩,O Y j.fr),(⟨c,5,Z⟩,O Y j.til)] W0)(t:tW Q)(hQ:∀a' W',FJ s (I a5 n R) v6 v7 (A (M ⟨c,0,Z⟩)) (O Y (Gd j out n)) a'->Ba W0 W'->Q (.exit 4) a' W'):(Code.loop (Qc Tryz.f16 2)).wp Tryz.prog Q a0 W0:=by
 have HQ:=Aa hQ;have f:=Aa t;have Ho:=Aa ho;have Hb:=Aa hb;have hn:n=out.length:=by have:=ho.len;rw[lL]at this;exact this
 have Hn:=Aa hn;clear hQ t ho hb hn;unfold Qc;simp only[Tryz.f16,Qb,List.cons_append,List.nil_append,List.append_nil,List.getD_cons_succ,List.getD_cons_zero];refine wp_loop_ghost_k (iV W0 s (I a5 n R) v6 v7 (A (M ⟨c,0,Z⟩)) j out n) n ⟨n,nE _,rfl,eR _,rfl,hF⟩ ?round;clear hF;intro gk aa wr hinv;obtain⟨m,hm,ab,hx,v,hF⟩:=hinv;obtain rfl:=ab.symm;have HX:=Aa hx;have o:=Aa v;clear v;obtain⟨tt,dd⟩:=aa;obtain⟨f0,f2,f3,f5,f6,f7,k,l,y⟩:=hF;dsimp only at f0 f2 f3 f5 f6 f7 k l  y;subst y;obtain⟨u,hu,ht⟩:=Jg tt 161 f0;simp only[hu]at f2 f3 f5 f6 f7 k l;clear hu f0;subst ht;simp only[List.range,List.range.loop,List.map_cons,List.map_nil,f2,f3,f5,f6,f7,k,l ];clear f2 f3 f5 f6 f7 k l;intro J K hJ hK;obtain⟨x0,x1,x2,x3,x4,x5,-⟩:=cE Hb.o hx;clear hx;by_cases h0:m=0
 ·subst h0;have e0:decide ((0:Int)<((0:Nat):Int))=false:=rfl;have e:Gd j out n=0:=o.o.symm.trans rfl;have E:=Aa e;clear e hJ hK;go_wp2;refine od [(⟨c,0,Z⟩,O Y j.a),(⟨c,1,Z⟩,O Y j.b),(⟨c,2,Z⟩,O Y j.left),(⟨c,3,Z⟩,O Y j.right),(⟨c,4,Z⟩,O Y j.fr),(⟨c,5,Z⟩,O Y j.til)] (cE (show Ea [(⟨c,0,Z⟩,O Y j.a),(⟨c,1,Z⟩,O Y j.b),(⟨c,2,Z⟩,O Y j.left),(⟨c,3,Z⟩,O Y j.right),(⟨c,4,Z⟩,O Y j.fr),(⟨c,5,Z⟩,O Y j.til)] wr from⟨x0,x1,x2,x3,x4,x5,trivial⟩) (eR _).drew) fun p=>?_;refine Qa (i:=0) (h4:=sW f) ?_;refine Qa (i:=1) (h4:=sW f) ?_;refine Qa (i:=2) (h4:=sW f) ?_;refine Sa (i:=3) (h4:=sW f) ?_;refine Sa (i:=4) (h4:=sW f) ?_;refine Sa (i:=5) (h4:=sW f) ?_;refine Sa (i:=6) (h4:=sW f) ?_;refine Sa (i:=7) (h4:=sW f) ?_;refine Sa (i:=8) (h4:=sW f) ?_;refine Sa (i:=9) (h4:=sW f) ?_;refine Qa (i:=10) (h4:=sW f) ?_;refine Tb ?_;go_wp2;refine HQ.o _ _ ⟨rfl,rfl,rfl,rfl,rfl,rfl,rfl,?_,rfl⟩ HX.o.drew;rw[E.o];rfl
 ·obtain⟨x,q⟩:∃x,out[m-1]?=M x:=⟨_,gE (by have:=Hn.o;omega)⟩;obtain⟨g,rfl,-,-,w⟩:=Pe.at (Ho.o.ext HX.o) q;have z:Gd j out m=if Ug j x<0 then Gd j out (m-1)else m:=by
   have:=ZR (j:=j) (n:=m-1) q;rw[show m-1+1=m by omega]at this;exact this
  have r:=Aa z;have HC:=Aa (fun W=>DR W j x);obtain⟨d,hd⟩:=gX (decide (Ug j x<0));rw[hd]at HC;have Hd:=Aa hd;have g2:(0:Int)<=(m:Int)-1:=oM;have g3:(m:Int)-1<(n:Int):=oM;have g4:((m:Int)-1).toNat=m-1:=oM;have kw:IntKind.i64.wrap ((m:Int)-1)=(m:Int)-1:=iW _ oM;clear z hd q;go_wp2;have e0:decide ((0:Int)<(m:Int))=true:=decide_eq_true oM;have ac:decide (0<m)=true:=decide_eq_true oM;have ad:(1:Int)<=(m:Int):=oM;refine od [(⟨c,0,Z⟩,O Y j.a),(⟨c,1,Z⟩,O Y j.b),(⟨c,2,Z⟩,O Y j.left),(⟨c,3,Z⟩,O Y j.right),(⟨c,4,Z⟩,O Y j.fr),(⟨c,5,Z⟩,O Y j.til),(⟨g,(m-1)*6,Z⟩,O Y x.a),(⟨g,(m-1)*6+1,Z⟩,O Y x.b),(⟨g,(m-1)*6+2,Z⟩,O Y x.left),(⟨g,(m-1)*6+3,Z⟩,O Y x.right),(⟨g,(m-1)*6+4,Z⟩,O Y x.fr),(⟨g,(m-1)*6+5,Z⟩,O Y x.til)] (cE (show Ea [(⟨c,0,Z⟩,O Y j.a),(⟨c,1,Z⟩,O Y j.b),(⟨c,2,Z⟩,O Y j.left),(⟨c,3,Z⟩,O Y j.right),(⟨c,4,Z⟩,O Y j.fr),(⟨c,5,Z⟩,O Y j.til),(⟨g,(m-1)*6,Z⟩,O Y x.a),(⟨g,(m-1)*6+1,Z⟩,O Y x.b),(⟨g,(m-1)*6+2,Z⟩,O Y x.left),(⟨g,(m-1)*6+3,Z⟩,O Y x.right),(⟨g,(m-1)*6+4,Z⟩,O Y x.fr),(⟨g,(m-1)*6+5,Z⟩,O Y x.til)] wr from⟨x0,x1,x2,x3,x4,x5,w⟩) (eR _).drew) fun p=>?_;clear w x0 x1 x2 x3 x4 x5;unfold ij at HC;refine Qa (i:=0) (h4:=sW f) ?_;refine Qa (i:=1) (h4:=sW f) ?_;refine Qa (i:=2) (h4:=sW f) ?_;refine Qa (i:=3) (h4:=sW f) ?_;refine Qa (i:=4) (h4:=sW f) ?_;refine Qa (i:=5) (h4:=sW f) ?_;refine Qa (i:=6) (h4:=sW f) ?_;refine Qa (i:=7) (h4:=sW f) ?_;refine Qa (i:=8) (h4:=sW f) ?_;refine mc (i:=9) (HC.o _) ?_;rintro e w3 ⟨rfl,L⟩;refine⟨_,rfl,(cE p L),fun p=>?_⟩;have X3:=HX.o.drew.trans L;refine Qa (i:=10) (h4:=sW f) ?_;refine Tb ?_;cases d with
  |true=>
   go_wp2;refine Handed.intro (m-1) oM (hJ _ _ _ ⟨m-1,by omega,rfl,X3,?_,⟨rfl,rfl,rfl,rfl,rfl,rfl,rfl,?_,rfl⟩⟩)
   ·rw[<-o.o,r.o,if_pos (of_decide_eq_true Hd.o)]
   ·show (_:G)=_;go_num
  |false=>
   have e:Gd j out n=m:=by rw[<-o.o,r.o,if_neg (of_decide_eq_false Hd.o)]
   have E:=Aa e;clear e hJ hK;go_wp2;refine HQ.o _ _ ⟨rfl,rfl,rfl,rfl,rfl,rfl,rfl,?_,rfl⟩ X3;rw[E.o];rfl
def ZU(e W0:N)(s g base n at' d:Nat)(i j c:G)(out:List Jt)(f:Nat)(a:S)(W:N):Prop:=
 ∃(k:Nat)(y:Jt),at'<=k/\k<=n/\f=k-at'/\Ba e W/\Pe W base (I (M ⟨g,0,Z⟩) (n+1) d) (out.take k++y::out.drop k)/\(∀b o,b≠g->W0.heap[b]?=M o->W.heap[b]?=M o)/\FJ s (I (M ⟨g,0,Z⟩) (n+1) d) i j c (O Y at') a/\a.tmps.getD 18 undef=O Y k
def TE{b g:Nat}(c:b≠g):∀(a:List G)(o:Nat)(W:N),(Wj W g o a).heap[b]?=W.heap[b]?
 | [],_,_=>rfl
 | u::a,o,W=>by
  unfold Wj;rw[TE c a];exact bS _ _ _ _ (by exact c)
def Tx{w:N}{g:Nat}(b:w.heap.size<=g):∀(a:List G)(o:Nat){W:N},Ba w W->Ba w (Wj W g o a)
 | [],_,_,h=>h
 | u::a,o,W,h=>by
  unfold Wj;exact Tx b a _ (h.set (by exact b) _)
def YL(Q:Exit->S->N->Prop)(U0 W0:N)(s g base n at' m:Nat)(v6 v7 l:G)(out:List Jt)(y:Jt)(a0:S)(hF:FJ s (I (M ⟨g,0,Z⟩) (n+1) m) v6 v7 l (O Y at') a0)(a:a0.tmps.getD 18 undef=O Y n)(ab:at'<=n)(hn:out.length=n)(ai:n<=1000000)(w:Pe W0 base (I (M ⟨g,0,Z⟩) (n+1) m) (out++[y]))(W:Ba U0 W0)(hU:U0.heap.size<=g)(hQ:∀a' W' z,FJ s (I (M ⟨g,0,Z⟩) (n+1) m) v6 v7 l (O Y at') a'->Pe W' base (I (M ⟨g,0,Z⟩) (n+1) m) (out.take at'++z::out.drop at')->Ba U0 W'->(∀b o,b≠g->W0.heap[b]?=M o->W'.heap[b]?=M o)->Q (.exit 6) a' W'):(Code.loop (Qc Tryz.f16 3)).wp Tryz.prog Q a0 W0:=by
 have HQ:=Aa hQ;have HU:=Aa hU;have Hn:=Aa hn;have L:Pe W0 base (I (M ⟨g,0,Z⟩) (n+1) m) (out.take n++y::out.drop n):=by
  rw[lT oM,List.drop_of_length_le oM];exact w
 clear hQ hU w hn;unfold Qc;simp only[Tryz.f16,Qb,List.cons_append,List.nil_append,List.append_nil,List.getD_cons_succ,List.getD_cons_zero];refine wp_loop_ghost_k (ZU U0 W0 s g base n at' m v6 v7 l out) (n-at') ⟨n,y,ab,nE _,rfl,W,L,fun _ _ _ h=>h,hF,a⟩ ?round;clear hF a W L;intro gk aa wr hinv;obtain⟨k,y,af,ag,ac,W,w,r,hF,a⟩:=hinv;obtain rfl:=ac.symm;have q:=Aa w;have HX:=Aa W;have p:=Aa r;clear W r w;obtain⟨tt,dd⟩:=aa;obtain⟨f0,f2,f3,f5,f6,f7,c,d,t⟩:=hF;dsimp only at f0 f2 f3 f5 f6 f7 c d a t;subst t;obtain⟨u,hu,ht⟩:=Jg tt 161 f0;simp only[hu]at f2 f3 f5 f6 f7 c d a;clear hu f0;subst ht;simp only[List.range,List.range.loop,List.map_cons,List.map_nil,f2,f3,f5,f6,f7,c,d ,a];clear f2 f3 f5 f6 f7 c d a;intro J K hJ hK;by_cases ah:at'<k
 ·obtain⟨x,j⟩:∃x,out[k-1]?=M x:=⟨_,gE (by have:=Hn.o;omega)⟩;have v:=AM (y:=y) (show 0<k by omega) j;have R:=tQ (y:=y) (show 0<k by omega) j;have f:(out.take k++y::out.drop k)[k]?=M y:=by
   rw[List.getElem?_append_right (by rw[List.length_take];omega),List.length_take,Nat.min_eq_left (by have:=Hn.o;omega),Nat.sub_self];rfl
  obtain⟨g',e,-,zg,x0,x1,x2,x3,x4,x5,-⟩:=Pe.at q.o v;cases e;obtain⟨g',e,-,-,y0,y1,y2,y3,y4,y5,-⟩:=Pe.at q.o f;cases e;have hP:=Pe.put (y:=x) q.o f;rw[R]at hP;have HP:=Aa hP;have yf:∀i,wr.frozen? ⟨g,i,Z⟩=false:=fun i=>q.o.frozen i;have g0:(0:Int)<=(k:Int):=oM;have g1:(k:Int)<((n+1:Nat):Int):=oM;have ad:(k:Int)<(n:Int)+1:=oM;have g2:(0:Int)<=(k:Int)-1:=oM;have g3:(k:Int)-1<((n+1:Nat):Int):=oM;have ae:(k:Int)-1<(n:Int)+1:=oM;have g4:((k:Int)-1).toNat=k-1:=oM;have kw:IntKind.i64.wrap ((k:Int)-1)=(k:Int)-1:=iW _ oM;have e0:(at':Int)<(k:Int):=oM;clear hP R v f j;go_wp2;refine Handed.intro (k-1-at') oM (hJ _ _ _ ⟨k-1,x,by omega,by omega,rfl,Tx HU.o (Sg x) (k*6) HX.o,HP.o,fun b o hb h=>(TE hb (Sg x) (k*6) wr).trans (p.o b o hb h),⟨rfl,rfl,rfl,rfl,rfl,rfl,rfl,rfl,rfl⟩,?_⟩);show (_:G)=_;go_num
 ·obtain rfl:k=at':=oM;have e0:¬(k:Int)<(k:Int):=oM;clear hJ hK;go_wp2;exact HQ.o _ _ _ ⟨rfl,rfl,rfl,rfl,rfl,rfl,rfl,rfl,rfl⟩ q.o HX.o p.o
def KJ:(Tryz.prog.info? 97).map (fun i=>(i.zero,i.size,i.bytes))=M (M (P #[O Y 0,O Y 0,O Y 0,O Y 0,O Y 0,O Y 0]),6,48):=kM
def pU(b:N)(s n i:Nat)(r:Ru)(ps:List Pl)(p:Pl)(c:Nat)(a:S)(W:N):Prop:=
 ∃k v5 v16 v17,k<=n/\c=n-k/\Ba b W/\Pe W b.heap.size v5 (Th r (Me ps) i (Ib i p) k)/\FJ s v5 (O Y i) (O Y k) v16 v17 a
def II(Q:Exit->S->N->Prop)(U0 W0:N)(s n be gn gc i:Nat)(ga pa:Option Addr)(v5 aP aQ:G)(r:Ru)(ps:List Pl)(p:Pl)(a0:S)(hF:FJ s v5 (O Y i) (O Y (0:Nat)) aP aQ a0)(bs:ps[i]?=M p)(hn:ps.length=n)(bW:n<=120)(hx:Ba U0 W0)(ho:Pe W0 U0.heap.size v5 (jj r (Me ps) i))(HC:Va (Ea [(⟨s,0,Z⟩,I ga gn gc),(⟨s,1,Z⟩,I pa n be),(⟨s+1,0,Z⟩,O .u8 r.skin),(⟨s+1,1,Z⟩,O Y r.pin),(⟨s+1,2,Z⟩,O Y r.wide),(⟨s+1,3,Z⟩,O Y r.lap),(⟨s+1,4,Z⟩,O Y r.step),(⟨s+1,5,Z⟩,O Y r.run),(⟨s+1,6,Z⟩,O Y r.level)] U0))(HP:Va (pf U0 (I pa n be) ps))(aR:Va (∀p∈ps,Ia p=true))(bN:tW Q)(hQ:∀a' W' v5 aP aQ,FJ s v5 (O Y i) (O Y n) aP aQ a'->Pe W' U0.heap.size v5 (jj r (Me ps) (i+1))->Ba U0 W'->Q (.exit 2) a' W'):(Code.loop (Qc Tryz.f16 1)).wp Tryz.prog Q a0 W0:=by
 have HQ:=Aa hQ;have f:=Aa bN;have Hn:=Aa hn;have a3:=Aa bs;have cj:i<n:=by rw[<-hn];exact(lS.1 bs).1
 clear hQ bN hn bs;unfold Qc;simp only[Tryz.f16,Qb,List.cons_append,List.nil_append,List.append_nil,List.getD_cons_succ,List.getD_cons_zero];refine wp_loop_ghost_k (pU U0 s n i r ps p) n ⟨0,v5,aP,aQ,Nat.zero_le _,rfl,hx,by rw[ZL];exact ho,hF⟩ ?round;clear hF hx ho v5 aP aQ;intro gk aa wr hinv;obtain⟨k,v5,aP,aQ,hk,cd,hx,ho,hF⟩:=hinv;subst cd;obtain⟨a5,c5,rfl⟩:=ho.form;rw[lL]at ho hF;have bi:=RJ r (Me ps) i (Ib i p) k;rw[Yn,Hn.o]at bi;have aV:(Th r (Me ps) i (Ib i p) k).length<=100000:=by
  have:i*n<=120*120:=Nat.mul_le_mul oM bW;omega
 have Ho:=Aa ho;have HX:=Aa hx;obtain⟨out,aW⟩:=gX (Th r (Me ps) i (Ib i p) k);have L:=Aa aW;rw[aW]at Ho hF aV;obtain⟨n5,br⟩:=gX out.length;have aM:=Aa br;rw[br]at Ho hF aV;clear ho bi aW br;obtain⟨tt,dd⟩:=aa;obtain⟨f0,f2,f3,f5,f6,f7,ab,ac,aC⟩:=hF;dsimp only at f0 f2 f3 f5 f6 f7 ab ac  aC;subst aC;obtain⟨u,hu,ht⟩:=Jg tt 161 f0;simp only[hu]at f2 f3 f5 f6 f7 ab ac;clear hu f0;subst ht;simp only[List.range,List.range.loop,List.map_cons,List.map_nil,f2,f3,f5,f6,f7,ab,ac ];clear f2 f3 f5 f6 f7 ab ac;intro J K hJ hK;obtain⟨s0,s1,r0,r1,r2,r3,r4,r5,r6,-⟩:=cE HC.o hx;have a4:=HP.o.f hx;clear hx;by_cases ce:k<n
 ·obtain⟨q,ba⟩:∃q,ps[k]?=M q:=⟨_,gE (by rw[Hn.o];exact ce)⟩;obtain⟨b,o,v1,rfl,hb,bb,b0,ag⟩:=a4.at' a3.o;obtain⟨b',o',v2,e,-,bc,b1,ah⟩:=a4.at' ba;cases e;have bY:=aR.o p (lM a3.o);have bZ:=aR.o q (lM ba);have aK:=Aa (fun W (hW:Ba wr W)=>py W v1 p (bb.f hW) bY);have aL:=Aa (fun W (hW:Ba wr W)=>py W v2 q (bc.f hW) bZ);have a1:=Aa (fun W=>Ey W p v1 r.skin (by obtain⟨a,n,c,e⟩:=bb.i;exact⟨a,n,c,e⟩));have a2:=Aa (fun W=>Ey W q v2 r.skin (by obtain⟨a,n,c,e⟩:=bc.i;exact⟨a,n,c,e⟩));have bQ:=Wq a3.o;have bq:=Wq ba;have a7:=Tq aR.o (lM bQ);have a8:=Tq aR.o (lM bq);have bB:=Aa (fun W (hW:Ba wr W) (j:Jt)=>oO W (I ga gn gc) (I (M ⟨b,o,Z⟩) n be) ps r j ⟨_,_,_,rfl⟩ (a4.f hW) aR.o (by rw[Hn.o];exact bW));have am:Ed r ((Me ps).filter (Nf r)) (Ib i p) (Ib k q)=(((i:Int) != (k:Int))&&(decide ((pe (Ib i p) (Ib k q)).left<=(pe (Ib i p) (Ib k q)).right)&&(decide ((pe (Ib i p) (Ib k q)).right-(pe (Ib i p) (Ib k q)).left<=r.wide)&&(decide ((pe (Ib i p) (Ib k q)).fr<(pe (Ib i p) (Ib k q)).til)&&!Td (Pb r ps) (pe (Ib i p) (Ib k q)))))):=rfl;have al:pe (Ib i p) (Ib k q)=⟨i,k,(pd Prod.fst (Ca p)).2,(pd Prod.fst (Ca q)).1,max (pd Prod.snd (Ca p)).1 (pd Prod.snd (Ca q)).1,min (pd Prod.snd (Ca p)).2 (pd Prod.snd (Ca q)).2⟩:=rfl;have bt:Nf r (Ib i p)=(p.skin==r.skin || p.skin==3):=rfl;have bu:Nf r (Ib k q)=(q.skin==r.skin || q.skin==3):=rfl;obtain⟨sa,sn,sc,rfl⟩:=bb.i;obtain⟨ta,tn,tc,rfl⟩:=bc.i;have e1:pd Prod.fst (Ca p)=(Ib i p).x:=rfl;have e2:pd Prod.snd (Ca p)=(Ib i p).z:=rfl;have e3:pd Prod.fst (Ca q)=(Ib k q).x:=rfl;have e4:pd Prod.snd (Ca q)=(Ib k q).z:=rfl;rw[e1,e2,e3,e4]at al;rw[e1,e2]at aK;rw[e3,e4]at aL;obtain⟨⟨xl,xh⟩,h1⟩:∃x,(Ib i p).x=x:=⟨_,rfl⟩;obtain⟨⟨zl,zh⟩,h2⟩:∃x,(Ib i p).z=x:=⟨_,rfl⟩;obtain⟨⟨g,cl⟩,h3⟩:∃x,(Ib k q).x=x:=⟨_,rfl⟩;obtain⟨⟨bA,bz⟩,h4⟩:∃x,(Ib k q).z=x:=⟨_,rfl⟩;rw[h1,h2,h3,h4]at al;rw[h1,h2]at aK a7;rw[h3,h4]at aL a8;dsimp only at al aK aL a7 a8;obtain⟨j,hj⟩:=gX (pe (Ib i p) (Ib k q));rw[hj]at al am;obtain⟨k1,bT⟩:=gX ((p.skin==r.skin || p.skin==3));obtain⟨k2,bU⟩:=gX ((q.skin==r.skin || q.skin==3));rw[bT]at bt a1;rw[bU]at bu a2;have bF:=Aa am;have Hj:=Aa hj;have b7:=Aa al;have Hs:=Aa (And.intro bt bu);have aE:=Aa bq;have g0:(0:Int)<=(i:Int):=oM;have g1:(i:Int)<(n:Int):=oM;have g2:(0:Int)<=(k:Int):=oM;have g3:(k:Int)<(n:Int):=oM;have kw:IntKind.i64.wrap (g-xh)=g-xh:=iW _ (by unfold Bd at a7 a8;omega);unfold Dd at ag ah aK aL a1 a2;have ak:=ag 0 (.string p.name) rfl;have d0:=ah 0 (.string q.name) rfl;have ao:=ag 1 (I sa sn sc) rfl;have d1:=ah 1 (I ta tn tc) rfl;have ap:=ag 2 (O Y p.depth) rfl;have d2:=ah 2 (O Y q.depth) rfl;have aq:=ag 3 (O Y p.density) rfl;have d3:=ah 3 (O Y q.density) rfl;have ar:=ag 4 (O Y p.gx) rfl;have d4:=ah 4 (O Y q.gx) rfl;have au:=ag 5 (O Y p.gz) rfl;have d5:=ah 5 (O Y q.gz) rfl;have av:=ag 6 (O Y p.way) rfl;have d6:=ah 6 (O Y q.way) rfl;have aw:=ag 7 (O Y p.ax) rfl;have d7:=ah 7 (O Y q.ax) rfl;have ay:=ag 8 (O Y p.az) rfl;have d8:=ah 8 (O Y q.az) rfl;have aA:=ag 9 (O .u8 p.skin) rfl;have d9:=ah 9 (O .u8 q.skin) rfl;simp only[Nat.add_zero]at ak d0;have CR:Ea [(⟨s,0,Z⟩,I ga gn gc),(⟨s,1,Z⟩,I (M ⟨b,o,Z⟩) n be),(⟨s+1,0,Z⟩,O .u8 r.skin),(⟨s+1,1,Z⟩,O Y r.pin),(⟨s+1,2,Z⟩,O Y r.wide),(⟨s+1,3,Z⟩,O Y r.lap),(⟨s+1,4,Z⟩,O Y r.step),(⟨s+1,5,Z⟩,O Y r.run),(⟨s+1,6,Z⟩,O Y r.level),(⟨b,o+i*10,Z⟩,.string p.name),(⟨b,o+i*10+1,Z⟩,I sa sn sc),(⟨b,o+i*10+2,Z⟩,O Y p.depth),(⟨b,o+i*10+3,Z⟩,O Y p.density),(⟨b,o+i*10+4,Z⟩,O Y p.gx),(⟨b,o+i*10+5,Z⟩,O Y p.gz),(⟨b,o+i*10+6,Z⟩,O Y p.way),(⟨b,o+i*10+7,Z⟩,O Y p.ax),(⟨b,o+i*10+8,Z⟩,O Y p.az),(⟨b,o+i*10+9,Z⟩,O .u8 p.skin),(⟨b,o+k*10,Z⟩,.string q.name),(⟨b,o+k*10+1,Z⟩,I ta tn tc),(⟨b,o+k*10+2,Z⟩,O Y q.depth),(⟨b,o+k*10+3,Z⟩,O Y q.density),(⟨b,o+k*10+4,Z⟩,O Y q.gx),(⟨b,o+k*10+5,Z⟩,O Y q.gz),(⟨b,o+k*10+6,Z⟩,O Y q.way),(⟨b,o+k*10+7,Z⟩,O Y q.ax),(⟨b,o+k*10+8,Z⟩,O Y q.az),(⟨b,o+k*10+9,Z⟩,O .u8 q.skin)] wr:=⟨s0,s1,r0,r1,r2,r3,r4,r5,r6,ak,ao,ap,aq,ar,au,av,aw,ay,aA,d0,d1,d2,d3,d4,d5,d6,d7,d8,d9,trivial⟩;have aZ:=Aa CR;have D:Ba wr wr.drew:=(eR wr).drew;clear am hj al bt bu bQ bq a7 a8 ag ah bb bc b0 b1 bY bZ ba e1 e2 e3 e4 h1 h2 h3 h4 bT bU a4 s0 r0 r1 r2 r3 r4 r5 r6 ak ao ap aq ar au av aw ay aA d0 d1 d2 d3 d4 d5 d6 d7 d8 d9 CR;go_upto_region 8 with fail;refine od _ (cE aZ.o D) fun aO=>?_;clear s1;by_cases aU:i=k
  ·have e0:((i:Int)==(k:Int))=true:=by simp[aU]
   have l:Th r (Me ps) i (Ib i p) (k+1)=out:=by
    rw[Rq aE.o (by rw[bF.o,show ((i:Int) != (k:Int))=false by simp[aU]];exact Bool.and_false _),L.o]
   have ae:=Aa l;clear l aU;refine Qa (i:=0) (h4:=sW f) ?_;refine Qa (i:=1) (h4:=sW f) ?_;refine Qa (i:=2) (h4:=sW f) ?_;refine Qa (i:=3) (h4:=sW f) ?_;refine Sa (i:=4) (h4:=sW f) ?_;refine Sa (i:=5) (h4:=sW f) ?_;refine Sa (i:=6) (h4:=sW f) ?_;refine Sa (i:=7) (h4:=sW f) ?_;refine Sa (i:=8) (h4:=sW f) ?_;refine Sa (i:=9) (h4:=sW f) ?_;refine Sa (i:=10) (h4:=sW f) ?_;refine Sa (i:=11) (h4:=sW f) ?_;refine Sa (i:=12) (h4:=sW f) ?_;refine Qa (i:=13) (h4:=sW f) ?_;refine Qa (i:=14) (h4:=sW f) ?_;refine Sa (i:=15) (h4:=sW f) ?_;refine Sa (i:=16) (h4:=sW f) ?_;refine Sa (i:=17) (h4:=sW f) ?_;refine Sa (i:=18) (h4:=sW f) ?_;refine Sa (i:=19) (h4:=sW f) ?_;refine Sa (i:=20) (h4:=sW f) ?_;refine Sa (i:=21) (h4:=sW f) ?_;refine Sa (i:=22) (h4:=sW f) ?_;refine Sa (i:=23) (h4:=sW f) ?_;refine Qa (i:=24) (h4:=sW f) ?_;refine Tb ?_;go_wp2;refine Handed.intro (n-(k+1)) oM (hJ _ _ _ ⟨k+1,_,_,_,by omega,rfl,HX.o.trans D,by rw[ae.o];exact Ho.o.ext D,⟨rfl,rfl,rfl,rfl,rfl,?_,rfl,rfl,rfl⟩⟩);show (_:G)=_;go_num
  have e0:((i:Int)==(k:Int))=false:=by simp;omega
  have ci:(i==k)=false:=by simpa using aU
  have bM:((i:Int) != (k:Int))=true:=by simp;omega
  have bE:=Aa bM;clear bM aU;refine Qa (i:=0) (h4:=sW f) ?_;refine Qa (i:=1) (h4:=sW f) ?_;refine Qa (i:=2) (h4:=sW f) ?_;refine Qa (i:=3) (h4:=sW f) ?_;refine Qa (i:=4) (h4:=sW f) ?_;refine Qa (i:=5) (h4:=sW f) ?_;refine Qa (i:=6) (h4:=sW f) ?_;refine Qa (i:=7) (h4:=sW f) ?_;refine Qa (i:=8) (h4:=sW f) ?_;refine Qa (i:=9) (h4:=sW f) ?_;refine Qa (i:=10) (h4:=sW f) ?_;refine mc (i:=11) (a1.o _) ?_;rintro e w3 ⟨rfl,bv⟩;refine⟨_,rfl,(cE aO bv),fun aO=>?_⟩;have X3:=D.trans bv;cases k1 with
  |false=>
   have l:Th r (Me ps) i (Ib i p) (k+1)=out:=by rw[QJ Hs.o.1,L.o]
   have ae:=Aa l;clear l;refine Qa (i:=12) (h4:=sW f) ?_;refine Qa (i:=13) (h4:=sW f) ?_;refine Qa (i:=14) (h4:=sW f) ?_;refine Sa (i:=15) (h4:=sW f) ?_;refine Sa (i:=16) (h4:=sW f) ?_;refine Sa (i:=17) (h4:=sW f) ?_;refine Sa (i:=18) (h4:=sW f) ?_;refine Sa (i:=19) (h4:=sW f) ?_;refine Sa (i:=20) (h4:=sW f) ?_;refine Sa (i:=21) (h4:=sW f) ?_;refine Sa (i:=22) (h4:=sW f) ?_;refine Sa (i:=23) (h4:=sW f) ?_;refine Qa (i:=24) (h4:=sW f) ?_;refine Tb ?_;go_wp2;refine Handed.intro (n-(k+1)) oM (hJ _ _ _ ⟨k+1,_,_,_,by omega,rfl,HX.o.trans X3,by rw[ae.o];exact Ho.o.ext X3,⟨rfl,rfl,rfl,rfl,rfl,?_,rfl,rfl,rfl⟩⟩);show (_:G)=_;go_num
  |true=>
   refine Qa (i:=12) (h4:=sW f) ?_;refine Qa (i:=13) (h4:=sW f) ?_;refine Qa (i:=14) (h4:=sW f) ?_;refine Qa (i:=15) (h4:=sW f) ?_;refine Qa (i:=16) (h4:=sW f) ?_;refine Qa (i:=17) (h4:=sW f) ?_;refine Qa (i:=18) (h4:=sW f) ?_;refine Qa (i:=19) (h4:=sW f) ?_;refine Qa (i:=20) (h4:=sW f) ?_;refine Qa (i:=21) (h4:=sW f) ?_;refine mc (i:=22) (a2.o _) ?_;rintro e w4 ⟨rfl,bw⟩;refine⟨_,rfl,(cE aO bw),fun aO=>?_⟩;have X4:=X3.trans bw;cases k2 with
   |false=>
    (have l:Th r (Me ps) i (Ib i p) (k+1)=out:=by rw[Rq aE.o (by rw[Hs.o.2];rfl),L.o]);have ae:=Aa l;clear l;refine Qa (i:=23) (h4:=sW f) ?_;refine Qa (i:=24) (h4:=sW f) ?_;refine Tb ?_;go_wp2;refine Handed.intro (n-(k+1)) oM (hJ _ _ _ ⟨k+1,_,_,_,by omega,rfl,HX.o.trans X4,by rw[ae.o];exact Ho.o.ext X4,⟨rfl,rfl,rfl,rfl,rfl,?_,rfl,rfl,rfl⟩⟩);show (_:G)=_;go_num
   |true=>
    refine Qa (i:=23) (h4:=sW f) ?_;refine Qa (i:=24) (h4:=sW f) ?_;refine Tb ?_;clear aO a1 a2;obtain⟨s0,s1,r0,r1,r2,r3,r4,r5,r6,ak,ao,ap,aq,ar,au,av,aw,ay,aA,d0,d1,d2,d3,d4,d5,d6,d7,d8,d9,-⟩:=cE aZ.o (X4);go_upto_region 10 with (go_at_call 43;refine cM (aK.o _ X4) ?_;rintro e w5 ⟨rfl,b2⟩);clear s0 s1 r0 r1 r2 r3 r4 r5 r6 ak ao ap aq ar au av aw ay aA d0 d1 d2 d3 d4 d5 d6 d7 d8 d9;have X5:=X4.trans b2;obtain⟨s0,s1,r0,r1,r2,r3,r4,r5,r6,ak,ao,ap,aq,ar,au,av,aw,ay,aA,d0,d1,d2,d3,d4,d5,d6,d7,d8,d9,-⟩:=cE aZ.o (X5);go_upto_if 89 with (go_at_call 43;refine cM (aL.o _ X5) ?_;rintro e w6 ⟨rfl,b3⟩);clear s0 s1 r0 r1 r2 r3 r4 r5 r6 ak ao ap aq ar au av aw ay aA d0 d1 d2 d3 d4 d5 d6 d7 d8 d9;have X6:=X5.trans b3;clear bv bw b2 b3 X3 X4 X5 aK aL;have bC:=Aa X6;obtain⟨R,aB⟩:=gX w6.heap.size;obtain⟨W7,a6⟩:=gX (w6.alloc (.cells #[O Y i,O Y k,O Y xh,O Y g,O Y zl,O Y zh] 97));(have K7:W7.heap[R]?=M (.cells #[O Y i,O Y k,O Y xh,O Y g,O Y zl,O Y zh] 97 (0,0)):=by rw[<-a6,<-aB];exact aN w6 _);(have X7:Ba w6 W7:=by rw[<-a6];exact(eR _).alloc _);have b5:w6.heap.size<=R:=Nat.le_of_eq aB;rw[a6,aB];have bI:=Aa aB;clear a6 aB X6;obtain⟨mx,cg⟩:=gX (max zl bA);obtain⟨mn,cf⟩:=gX (min zh bz);have al:=b7.o;rw[cg,cf]at al;subst al;go_cut [16]from 19 to 161 (fun bx W=>bx=A (M ⟨R,0,Z⟩)/\W.heap[R]?=M (.cells #[O Y i,O Y k,O Y xh,O Y g,O Y mx,O Y zh] 97 (0,0))/\Ba w6 W)
    case first =>
     by_cases hc:zl<bA
     ·obtain rfl:bA=mx:=oM;have x4:=Da K7 (i:=4) (u:=O Y zl) rfl;have xf:=Za K7;go_wp2;go_meet;exact⟨rfl,Kk K7 4 _,X7.set (by exact b5) _⟩
     ·obtain rfl:zl=mx:=oM;go_wp2;go_meet;exact⟨rfl,K7,X7⟩
    case rest =>
     obtain⟨W8,rfl⟩:∃V,V=wc:=⟨_,rfl⟩;obtain⟨rfl,K8,X8⟩:=hcut;clear K7 X7;go_upto_if 94 with fail;go_cut [16]from 19 to 161 (fun bx W=>bx=A (M ⟨R,0,Z⟩)/\W.heap[R]?=M (.cells #[O Y i,O Y k,O Y xh,O Y g,O Y mx,O Y mn] 97 (0,0))/\Ba w6 W)
     case first =>
      by_cases hc:bz<zh
      ·obtain rfl:bz=mn:=oM;have x4:=Da K8 (i:=5) (u:=O Y zh) rfl;have xf:=Za K8;go_wp2;go_meet;exact⟨rfl,Kk K8 5 _,X8.set (by exact b5) _⟩
      ·obtain rfl:zh=mn:=oM;go_wp2;go_meet;exact⟨rfl,K8,X8⟩
     case rest =>
      obtain⟨W9,rfl⟩:∃V,V=wc:=⟨_,rfl⟩;obtain⟨rfl,K9,X9⟩:=hcut;clear K8 X8;have XW:=bC.o.trans X9;have ai:=Aa XW;have b6:=Aa K9;have am:=bF.o;dsimp only at am;rw[bE.o]at am;obtain⟨F,hF⟩:=gX (Td (Pb r ps) ⟨(i:Int),(k:Int),xh,g,mx,mn⟩);have aJ:=Aa (fun W (hW:Ba wr W)=>bB.o W hW ⟨(i:Int),(k:Int),xh,g,mx,mn⟩);rw[hF]at am aJ;unfold ij xg at aJ;dsimp only at aJ;have an:=Aa am;obtain⟨s0,s1,r0,r1,r2,r3,r4,r5,r6,ak,ao,ap,aq,ar,au,av,aw,ay,aA,d0,d1,d2,d3,d4,d5,d6,d7,d8,d9,-⟩:=cE aZ.o (XW);have x0:=Da K9 (i:=0) (u:=O Y i) rfl;have x1:=Da K9 (i:=1) (u:=O Y k) rfl;have x2:=Da K9 (i:=2) (u:=O Y xh) rfl;have x3:=Da K9 (i:=3) (u:=O Y g) rfl;have x4:=Da K9 (i:=4) (u:=O Y mx) rfl;have x5:=Da K9 (i:=5) (u:=O Y mn) rfl;clear am hF bB X9 K9 XW;by_cases hA:g<xh
      ·have l:Th r (Me ps) i (Ib i p) (k+1)=out:=by
        rw[Rq aE.o (by rw[an.o,show decide (xh<=g)=false by simp;omega];exact Bool.and_false _),L.o]
       have ae:=Aa l;clear l;go_wp2;refine Handed.intro (n-(k+1)) oM (hJ _ _ _ ⟨k+1,_,_,_,by omega,rfl,HX.o.trans ai.o,by rw[ae.o];exact Ho.o.ext ai.o,⟨rfl,rfl,rfl,rfl,rfl,?_,rfl,rfl,rfl⟩⟩);show (_:G)=_;go_num
      by_cases hB:r.wide<g-xh
      ·have l:Th r (Me ps) i (Ib i p) (k+1)=out:=by
        rw[Rq aE.o (by rw[an.o,show decide (g-xh<=r.wide)=false by simp;omega];simp),L.o]
       have ae:=Aa l;clear l;go_wp2;refine Handed.intro (n-(k+1)) oM (hJ _ _ _ ⟨k+1,_,_,_,by omega,rfl,HX.o.trans ai.o,by rw[ae.o];exact Ho.o.ext ai.o,⟨rfl,rfl,rfl,rfl,rfl,?_,rfl,rfl,rfl⟩⟩);show (_:G)=_;go_num
      by_cases hC:mn<=mx
      ·have l:Th r (Me ps) i (Ib i p) (k+1)=out:=by
        rw[Rq aE.o (by rw[an.o,show decide (mx<mn)=false by simp;omega];simp),L.o]
       have ae:=Aa l;clear l;go_wp2;refine Handed.intro (n-(k+1)) oM (hJ _ _ _ ⟨k+1,_,_,_,by omega,rfl,HX.o.trans ai.o,by rw[ae.o];exact Ho.o.ext ai.o,⟨rfl,rfl,rfl,rfl,rfl,?_,rfl,rfl,rfl⟩⟩);show (_:G)=_;go_num
      cases F with
      |true=>
       have l:Th r (Me ps) i (Ib i p) (k+1)=out:=by
        rw[Rq aE.o (by rw[an.o];simp),L.o]
       have ae:=Aa l;clear l;go_wp2_with(go_at_call 44;refine cM (aJ.o _ ai.o) ?_;rintro e b4 ⟨rfl,aj⟩);refine Handed.intro (n-(k+1)) oM (hJ _ _ _ ⟨k+1,_,_,_,by omega,rfl,HX.o.trans (ai.o.trans aj),by rw[ae.o];exact(Ho.o.ext (ai.o.trans aj)),⟨rfl,rfl,rfl,rfl,rfl,?_,rfl,rfl,rfl⟩⟩);show (_:G)=_;go_num
      |false=>
       have bm:Th r (Me ps) i (Ib i p) (k+1)=Tg out ⟨(i:Int),(k:Int),xh,g,mx,mn⟩:=by
        rw[OJ aE.o Hs.o.1 (by rw[an.o,Hs.o.2,show decide (xh<=g)=true by simp;omega,show decide (g-xh<=r.wide)=true by simp;omega,show decide (mx<mn)=true by simp;omega];rfl),L.o,Hj.o]
       have bH:=Aa bm;clear bm;go_wp2_with(go_at_call 44;refine cM (aJ.o _ ai.o) ?_;rintro e b4 ⟨rfl,aj⟩);have bK:=ai.o.trans aj;have bg:=Aa bK;have aF:=Aa (aj.e b6.o);clear s0 s1 r0 r1 r2 r3 r4 r5 r6 ak ao ap aq ar au av aw ay aA d0 d1 d2 d3 d4 d5 d6 d7 d8 d9;clear x0 x1 x2 x3 x4 x5 aJ aj bK aO;refine MH _ b4 s n5 c5 U0.heap.size R a5 _ _ ⟨(i:Int),(k:Int),xh,g,mx,mn⟩ out _ ⟨rfl,rfl,rfl,rfl,rfl,rfl,rfl,rfl,rfl⟩ oM (Ho.o.ext bg.o) ⟨Da aF.o (i:=0) rfl,Da aF.o (i:=1) rfl,Da aF.o (i:=2) rfl,Da aF.o (i:=3) rfl,Da aF.o (i:=4) rfl,Da aF.o (i:=5) rfl,trivial⟩ (fun c a d v w h=>f.o c a d v w h) (fun a' bo hF aY=>?_);obtain⟨at',bp⟩:∃m,Gd ⟨(i:Int),(k:Int),xh,g,mx,mn⟩ out n5=m:=⟨_,rfl⟩;rw[bp]at hF;have bD:=Aa bp;have aS:=Aa (bg.o.trans aY);have af:=Aa (aY.e aF.o);clear bp aY;obtain⟨tt,dd⟩:=a';obtain⟨f0,f2,f3,f5,f6,f7,ab,ac,aC⟩:=hF;dsimp only at f0 f2 f3 f5 f6 f7 ab ac  aC;subst aC;obtain⟨u,hu,ht⟩:=Jg tt 161 f0;simp only[hu]at f2 f3 f5 f6 f7 ab ac;clear hu f0;subst ht;simp only[List.range,List.range.loop,List.map_cons,List.map_nil,f2,f3,f5,f6,f7,ab,ac ];clear f2 f3 f5 f6 f7 ab ac;have x0:=Da af.o (i:=0) (u:=O Y i) rfl;have x1:=Da af.o (i:=1) (u:=O Y k) rfl;have x2:=Da af.o (i:=2) (u:=O Y xh) rfl;have x3:=Da af.o (i:=3) (u:=O Y g) rfl;have x4:=Da af.o (i:=4) (u:=O Y mx) rfl;have x5:=Da af.o (i:=5) (u:=O Y mn) rfl;have bh:=Ho.o.ext aS.o;have bk:∀m,(Value.slice a5 n5 c5).ownBlock=M m->U0.heap.size<=m/\m<R:=fun m hm=>by
        have h1:=(Ho.o.lt m hm).2;have h2:=(Ho.o.lt m hm).1;have h3:=bC.o.size;have h4:=bI.o;omega
       have aT:=Aa bk;have bG:=Aa (HX.o.trans aS.o).size;have ch:IntKind.i64.wrap (n5:Int)=(n5:Int):=iW _ oM;(have ck:IntKind.i64.wrap (((n5+1:Nat):Int)-1)=(n5:Int):=by rw[show ((n5+1:Nat):Int)-1=(n5:Int) by omega];exact ch);(have bV:(out.map Sg).length=n5:=by rw[lL];exact aM.o);clear bk;go_wp2_with(at_builtin;(refine Mi (T:=97) (t:=44) (z:=P #[O Y 0,O Y 0,O Y 0,O Y 0,O Y 0,O Y 0]) (k:=6) (bytes:=48) (base:=U0.heap.size) (v:=I a5 n5 c5) (cs:=out.map Sg) (m:=1) (c:=1) (ad:=⟨bo.heap.size,0,Z⟩) KJ rfl dM dM Tryz.underlying44 rfl _ _ rfl rfl (bh.ext ((eR _).alloc _)) rfl [[O Y i,O Y k,O Y xh,O Y g,O Y mx,O Y mn]] rfl sM (by exact Wn bo #[O Y i,O Y k,O Y xh,O Y g,O Y mx,O Y mn] 97) (by simp[Value.oneCell']) oM (by have:=bG.o;simp only[wZ];omega) ?_);intro v' bf aD aH bj;obtain⟨a9,n9,c9,rfl⟩:=aD.i;have e9:n9=n5+1:=(by rw[aD.len,lA,bV];rfl);subst e9);obtain⟨g9,rfl,cb,cc⟩:=aD.blk sM;have ca:=Ya af.o;have bX:R≠g9:=by
        intro e;subst e;rcases bj with h|h
        ·have:=(aT.o R h.symm).2;omega
        ·have:=Option.some.inj h;simp only[wZ]at this;omega
       have bJ:bf.heap[R]?=M (.cells #[O Y i,O Y k,O Y xh,O Y g,O Y mx,O Y mn] 97 (0,0)):=(aH.block R (by simp only[wZ];omega) (fun e=>by have:=(aT.o R e.symm).2;omega)).trans (((eR bo).alloc _).e af.o);have bL:Ba U0 bf:=((HX.o.trans aS.o).alloc _).D (Yg (base:=U0.heap.size) aH (by have:=bG.o;simp only[wZ];omega) (fun m hm=>(aT.o m hm).1)) (nE _);have aX:Pe bf U0.heap.size (I (M ⟨g9,0,Z⟩) (n5+1) c9) (out++[⟨(i:Int),(k:Int),xh,g,mx,mn⟩]):=by
        unfold Pe;rw[List.map_append];exact aD
       (have bO:at'<=n5:=by rw[<-bD.o];exact(Ry _ out n5 (by rw[aM.o];omega)).1);have HL:=Aa (And.intro bX (And.intro bJ (And.intro cb bO)));clear x0 x1 x2 x3 x4 x5 aD aH bj bX bJ cc ca bh bV bO;refine YL _ U0 bf s g9 U0.heap.size n5 at' c9 _ _ _ out ⟨(i:Int),(k:Int),xh,g,mx,mn⟩ _ ⟨rfl,rfl,rfl,rfl,rfl,rfl,rfl,rfl,rfl⟩ rfl HL.o.2.2.2 aM.o oM aX bL HL.o.2.2.1 (fun b9 b8 z hF aI bl bP=>?_);have aG:=bP R _ HL.o.1 HL.o.2.1;have hz:(out.take at'++z::out.drop at')[at']?=M z:=by
        rw[List.getElem?_append_right (by rw[List.length_take];omega),List.length_take,Nat.min_eq_left (by rw[aM.o];exact HL.o.2.2.2),Nat.sub_self];rfl
       obtain⟨g',e,-,zg,y0,y1,y2,y3,y4,y5,-⟩:=Pe.at aI hz;cases e;have hP:=Pe.put (y:=⟨(i:Int),(k:Int),xh,g,mx,mn⟩) aI hz;rw[jP (by rw[aM.o];exact HL.o.2.2.2)]at hP;have hI:Th r (Me ps) i (Ib i p) (k+1)=out.take at'++⟨(i:Int),(k:Int),xh,g,mx,mn⟩::out.drop at':=by
        rw[bH.o];unfold Tg;rw[aM.o,bD.o]
       have bn:=Aa (And.intro hP (And.intro hI bl));have yf:∀i,b8.frozen? ⟨g9,i,Z⟩=false:=fun i=>aI.frozen i;have x0:=Da aG (i:=0) (u:=O Y i) rfl;have x1:=Da aG (i:=1) (u:=O Y k) rfl;have x2:=Da aG (i:=2) (u:=O Y xh) rfl;have x3:=Da aG (i:=3) (u:=O Y g) rfl;have x4:=Da aG (i:=4) (u:=O Y mx) rfl;have x5:=Da aG (i:=5) (u:=O Y mn) rfl;have q0:(0:Int)<=(at':Int):=oM;(have q1:(at':Int)<(n5:Int)+1:=by have:=HL.o.2.2.2;omega);(have q2:(at':Int)<((n5+1:Nat):Int):=by have:=HL.o.2.2.2;omega);clear hP hI bl aI hz aX bL bP aG;obtain⟨tt,dd⟩:=b9;obtain⟨f0,f2,f3,f5,f6,f7,ab,ac,aC⟩:=hF;dsimp only at f0 f2 f3 f5 f6 f7 ab ac  aC;subst aC;obtain⟨u,hu,ht⟩:=Jg tt 161 f0;simp only[hu]at f2 f3 f5 f6 f7 ab ac;clear hu f0;subst ht;simp only[List.range,List.range.loop,List.map_cons,List.map_nil,f2,f3,f5,f6,f7,ab,ac ];clear f2 f3 f5 f6 f7 ab ac;go_wp2;refine Handed.intro (n-(k+1)) oM (hJ _ _ _ ⟨k+1,_,_,_,by omega,rfl,Tx HL.o.2.2.1 (Sg ⟨(i:Int),(k:Int),xh,g,mx,mn⟩) (at'*6) bn.o.2.2,by rw[bn.o.2.1];exact bn.o.1,⟨rfl,rfl,rfl,rfl,rfl,?_,rfl,rfl,rfl⟩⟩);show (_:G)=_;go_num
 ·obtain rfl:k=n:=oM;have e:out=jj r (Me ps) (i+1):=by
   rw[<-L.o];have:=SJ (r:=r) (Wq a3.o);rw[Yn,Hn.o]at this;exact this
  have E:=Aa e;clear e hJ hK;go_wp2;refine HQ.o _ _ _ _ _ ⟨rfl,rfl,rfl,rfl,rfl,rfl,rfl,rfl,rfl⟩ ?_ HX.o;rw[<-E.o];exact Ho.o
def IA(b:N)(s n:Nat)(r:Ru)(ps:List Pl)(c:Nat)(a:S)(W:N):Prop:=
 ∃i v5 v7 v16 v17,i<=n/\c=n-i/\Ba b W/\Pe W b.heap.size v5 (jj r (Me ps) i)/\FJ s v5 (O Y i) v7 v16 v17 a
def yp(w:N)(L:List Jt)(e:Ending)(w':N):Prop:=∃v base,e=.returned v/\Pe w' base v L/\w.heap.size<=base/\Ba w w'
def iT(w:N)(vg vp:G)(ps:List Pl)(r:Ru)(hg:∃a n c,vg=I a n c)(hp:pf w vp ps)(ab:∀p∈ps,Ia p=true)(L:ps.length<=120):Calls Tryz.prog 16 #[P #[vg,vp],P (xg r)] w (yp w (jj r (Me ps) (Me ps).length)):=by
 obtain⟨ga,gn,gc,rfl⟩:=hg;have HP:=Aa hp;have ad:=Aa ab;obtain⟨pa,t,rfl⟩:=hp.form;obtain⟨n,hn⟩:=gX ps.length;rw[Yn,hn];rw[hn]at L HP;have Hn:=Aa hn;obtain⟨R,hR⟩:=gX (yp w (jj r (Me ps) n));rw[hR];have HR:=Aa hR;clear hp ab hn hR;unfold xg;go_in;go_wp2;obtain⟨y,f⟩:=gX (((w.alloc (.cells #[I ga gn gc,I pa n t] 25)).alloc (.cells #[O .u8 r.skin,O Y r.pin,O Y r.wide,O Y r.lap,O Y r.step,O Y r.run,O Y r.level] 27)));have X1:Ba w y:=by rw[<-f];exact((eR _).alloc _).alloc _
 have K2:y.heap[w.heap.size]?=M (.cells #[I ga gn gc,I pa n t] 25 (0,0)):=by rw[<-f];exact((eR _).alloc _).e (aN w _)
 have j:y.heap[w.heap.size+1]?=M (.cells #[O .u8 r.skin,O Y r.pin,O Y r.wide,O Y r.lap,O Y r.step,O Y r.run,O Y r.level] 27 (0,0)):=by rw[<-f];exact kc _ _ _ sM
 obtain⟨s,hs⟩:=gX w.heap.size;rw[f];simp only[hs]at K2 j ⊢;have HC:Va (Ea [(⟨s,0,Z⟩,I ga gn gc),(⟨s,1,Z⟩,I pa n t),(⟨s+1,0,Z⟩,O .u8 r.skin),(⟨s+1,1,Z⟩,O Y r.pin),(⟨s+1,2,Z⟩,O Y r.wide),(⟨s+1,3,Z⟩,O Y r.lap),(⟨s+1,4,Z⟩,O Y r.step),(⟨s+1,5,Z⟩,O Y r.run),(⟨s+1,6,Z⟩,O Y r.level)] y):=Aa ⟨Da K2 (i:=0) rfl,Da K2 (i:=1) rfl,Da j (i:=0) rfl,Da j (i:=1) rfl,Da j (i:=2) rfl,Da j (i:=3) rfl,Da j (i:=4) rfl,Da j (i:=5) rfl,Da j (i:=6) rfl,trivial⟩;have z:=Aa X1;have ae:=Aa (HP.o.f X1);clear f X1 K2 j hs;refine wp_loop_ghost_k (IA y s n r ps) n ⟨0,_,_,_,_,Nat.zero_le _,rfl,eR _,by unfold jj li;simp;exact Fa.nil _ _ _ _,⟨rfl,rfl,rfl,rfl,rfl,rfl,rfl,rfl,rfl⟩⟩ ?round;intro gk aa wr hinv;obtain⟨i,v5,v7,am,an,hi,ah,hx,ho,hF⟩:=hinv;subst ah;have HX:=Aa hx;have Ho:=Aa ho;obtain⟨-,c1,-⟩:=cE HC.o hx;clear hx ho;obtain⟨tt,dd⟩:=aa;obtain⟨x,k,l,m,o,q,b,e,g⟩:=hF;dsimp only at x k l m o q b e  g;subst g;obtain⟨u,hu,ht⟩:=Jg tt 161 x;simp only[hu]at k l m o q b e;clear hu x;subst ht;simp only[List.range,List.range.loop,List.map_cons,List.map_nil,k,l,m,o,q,b,e ];clear k l m o q b e;intro J K hJ hK;by_cases ai:i<n
 ·obtain⟨p,aj⟩:∃p,ps[i]?=M p:=⟨_,gE (by rw[Hn.o];exact ai)⟩;have e0:(i:Int)<(n:Int):=oM;go_wp2;refine II _ y wr s n t gn gc i ga pa v5 _ _ r ps p _ ⟨rfl,rfl,rfl,rfl,rfl,rfl,rfl,rfl,rfl⟩ aj Hn.o L HX.o Ho.o HC ae ad (fun c a d v w h=>by cases d<;>exact h) (fun a' W' u5 ak al hF W ac=>?_);have af:=Aa ac;have ag:=Aa W;clear ac W c1;obtain⟨tt,dd⟩:=a';obtain⟨x,k,l,m,o,q,b,e,g⟩:=hF;dsimp only at x k l m o q b e  g;subst g;obtain⟨u,hu,ht⟩:=Jg tt 161 x;simp only[hu]at k l m o q b e;clear hu x;subst ht;simp only[List.range,List.range.loop,List.map_cons,List.map_nil,k,l,m,o,q,b,e ];clear k l m o q b e;go_wp2;refine Handed.intro (n-(i+1)) oM (hJ _ _ _ ⟨i+1,_,_,_,_,by omega,rfl,af.o,ag.o,⟨rfl,rfl,rfl,rfl,?_,rfl,rfl,rfl,rfl⟩⟩);show (_:G)=_;go_num
 ·obtain rfl:i=n:=oM;clear hJ hK;go_wp2;rw[<-HR.o];exact⟨_,_,rfl,Ho.o,z.o.size,z.o.trans HX.o⟩
def YR{g:LP}{ps:List Pl}{r:Ru}:Ch g ps r=if Fb g ps=0 then (if yg r=true then 0 else 2)else Fb g ps:=by
 unfold Ch;split
 ·have h:=NE r;by_cases a:Lb r=0
  ·rw[a]at h;rw[h,a];rfl
  ·have b:Lb r=2:=by
    unfold Lb at a ⊢
    repeat' split
    all_goals first|rfl|(exfalso;apply a;simp_all)
   have c:yg r=false:=by rw[h];simpa using a
   rw[c,b];rfl
 ·rfl
def OQ(w:N)(K L:G)(g:LP)(ps:List Pl)(r:Ru)(x:Ab w K g)(z:pf w L ps)(t:∀p∈ps,p.name.size<=1000000)(hl:g.length<=1000000):Calls Tryz.prog 14 #[P #[K,L],P (xg r)] w fun e w'=>e=.returned (O Y (Ch g ps r))/\Ba w w':=by
 have a:=Aa (fun W (R:Ba w W)=>BR W K L g ps (x.f R) (z.f R) t hl);have d:=Aa (fun W=>YF W r);obtain⟨ga,gn,gc,rfl⟩:=x.i;obtain⟨pa,ae,rfl⟩:=z.form;obtain⟨n,hn⟩:=gX ps.length;rw[hn]at a ⊢;have f:=YR (g:=g) (ps:=ps) (r:=r);obtain⟨E,m⟩:=gX (Ch g ps r);obtain⟨k,y⟩:=gX (Fb g ps);obtain⟨b,v⟩:=gX (yg r);rw[m,y,v]at f;rw[m];rw[y]at a;rw[v]at d;clear x z t hl hn m y v;unfold xg at d ⊢;by_cases u:k=0
 ·subst u;rw[if_pos rfl]at f;cases b with
  |false=>
   rw[if_neg dM]at f;subst f;go_in;go_wp2_with(first|(go_at_call 21;refine cM (a.o _ eA) ?_;rintro e w1 ⟨rfl,c⟩;obtain⟨⟨q,s⟩,j,l⟩:=Mb w c)|(go_at_call 13;refine cM (d.o _) ?_;rintro e w2 ⟨rfl,o⟩));go_ret;exact⟨rfl,eA⟩
  |true=>
   rw[if_pos rfl]at f;subst f;go_in;go_wp2_with(first|(go_at_call 21;refine cM (a.o _ eA) ?_;rintro e w1 ⟨rfl,c⟩;obtain⟨⟨q,s⟩,j,l⟩:=Mb w c)|(go_at_call 13;refine cM (d.o _) ?_;rintro e w2 ⟨rfl,o⟩));go_ret;exact⟨rfl,eA⟩
 ·rw[if_neg u]at f;subst f;have e0:(E != 0)=true:=by simpa using u
  have i:True:=trivial;go_in;go_wp2_with(first|(go_at_call 21;have _t:=i;(with_reducible refine(a.o _ ?_).mono ?_);exact eA;rintro e w1 ⟨rfl,c⟩;obtain⟨⟨q,s⟩,j,l⟩:=Mb w c;clear i)|(go_at_call 21;(with_reducible refine(a.o _ ?_).mono ?_);exact eA;rintro e w2 ⟨rfl,o⟩;obtain⟨⟨ac,ad⟩,aa,ab⟩:=Mb w o));go_ret;exact⟨rfl,eA⟩
def SI{g:LP}{ps:List Pl}(h:Ji g ps=true):∀p∈ps,p.name.size<=1000000:=by unfold Ji at h;simp only[Bool.and_eq_true,Bool.not_eq_true',List.any_eq_false,decide_eq_true_eq]at h;intro p a;have:=h.1 p a;unfold Gi at this;simp at this;omega
def XU(w:N)(n:Nat)(t5:G)(W:N):Prop:=∃i:Nat,t5=O Y i/\i<=n/\Ba w W
def uS(w:N)(x y:G)(base:Nat)(L:List Jt)(m:Re w x L)(l:Pe w base y L)(s:L.length<=1000000):Calls Tryz.prog 15 #[x,y] w fun e w'=>e=.returned (.bool true)/\Ba w w':=by
 obtain⟨a1,u,rfl⟩:=m.form;obtain⟨a2,k,v,rfl⟩:=Fa.i l;have f:=Fa.len l;rw[lL]at f;obtain⟨n,r⟩:=gX L.length;rw[r]at m f s ⊢;subst f;have z:=Aa m;have K:=Aa l;have R:=Aa r;clear m l r;go_in;have e0:((k:Int) != (k:Int))=false:=sM;go_wp2;go_loopw [5] (XU w k) (fun t5 _=>k-(intOf t5).toNat)
 case atStart=>exact⟨0,rfl,by omega,eR _⟩
 case round =>
  obtain⟨i,rfl,hi,p⟩:=hrel;have HX:=Aa p;by_cases q:i<k
  ·obtain⟨j,d⟩:∃j,L[i]?=M j:=⟨_,gE (by rw[R.o];exact q)⟩;obtain⟨b,o,rfl,l,c⟩:=(z.o.f p).at' d;obtain⟨g,rfl,-,-,d0,d1,d2,d3,d4,d5,-⟩:=Pe.at (Fa.ext K.o p) d;unfold ij at c;have t:=c 0 (O Y j.a) rfl;have u:=c 1 (O Y j.b) rfl;have v:=c 2 (O Y j.left) rfl;have W:=c 3 (O Y j.right) rfl;have c4:=c 4 (O Y j.fr) rfl;have c5:=c 5 (O Y j.til) rfl;simp only[Nat.add_zero]at t;have g0:(0:Int)<=(i:Int):=oM;have g1:(i:Int)<(k:Int):=oM;clear c d p;go_wp2;refine od [(⟨b,o+i*6,Z⟩,O Y j.a),(⟨b,o+i*6+1,Z⟩,O Y j.b),(⟨b,o+i*6+2,Z⟩,O Y j.left),(⟨b,o+i*6+3,Z⟩,O Y j.right),(⟨b,o+i*6+4,Z⟩,O Y j.fr),(⟨b,o+i*6+5,Z⟩,O Y j.til),(⟨g,i*6,Z⟩,O Y j.a),(⟨g,i*6+1,Z⟩,O Y j.b),(⟨g,i*6+2,Z⟩,O Y j.left),(⟨g,i*6+3,Z⟩,O Y j.right),(⟨g,i*6+4,Z⟩,O Y j.fr),(⟨g,i*6+5,Z⟩,O Y j.til)] (cE (show Ea [(⟨b,o+i*6,Z⟩,O Y j.a),(⟨b,o+i*6+1,Z⟩,O Y j.b),(⟨b,o+i*6+2,Z⟩,O Y j.left),(⟨b,o+i*6+3,Z⟩,O Y j.right),(⟨b,o+i*6+4,Z⟩,O Y j.fr),(⟨b,o+i*6+5,Z⟩,O Y j.til),(⟨g,i*6,Z⟩,O Y j.a),(⟨g,i*6+1,Z⟩,O Y j.b),(⟨g,i*6+2,Z⟩,O Y j.left),(⟨g,i*6+3,Z⟩,O Y j.right),(⟨g,i*6+4,Z⟩,O Y j.fr),(⟨g,i*6+5,Z⟩,O Y j.til)] wr from⟨t,u,v,W,c4,c5,d0,d1,d2,d3,d4,d5,trivial⟩) (eR _).drew) fun aa=>?_;refine Qa (i:=0) ?_;refine Qa (i:=1) ?_;refine Qa (i:=2) ?_;refine Qa (i:=3) ?_;refine Qa (i:=4) ?_;refine Qa (i:=5) ?_;refine Qa (i:=6) ?_;refine Qa (i:=7) ?_;refine Qa (i:=8) ?_;refine Tb ?_;go_wp2;go_roundw
   case rel=>exact⟨i+1,by go_num,by omega,HX.o.drew⟩
   case measure=>simp[intOf];omega
  ·obtain rfl:i=k:=oM;go_wp2;go_ret;exact⟨rfl,HX.o⟩
def GO(w:N)(vg vp:G)(g:LP)(ps:List Pl)(r:Ru)(hg:Ab w vg g)(hp:pf w vp ps)(al:Gw w):Calls Tryz.prog 3 #[P #[vg,vp],P (xg r)] w fun e w'=>e=.returned (.bool true)/\Ba w w':=by
 have HF:=Aa (fun(W:N)(x:Ba w W)=>zL W vg vp g ps (hg.f x) (hp.f x));have HW:=Aa (fun(hf:Ji g ps=true)(W:N)(x:Ba w W)=>qN W vg vp g ps (hg.f x) (hp.f x) (Pu hf).1 (by have:=(Pu hf).2.1;omega) (Pu hf).2.2);have j:=Aa (fun(hf:Ji g ps=true)(W:N)(x:Ba w W)=>OQ W vg vp g ps r (hg.f x) (hp.f x) (SI hf) (by have:=(Pu hf).1;omega));have p:=Aa (fun(h0:Fb g ps=0)(W:N)(x:Ba w W)=>iT W vg vp ps r (by obtain⟨a,n,c,e⟩:=hg.i;exact⟨a,n,c,e⟩) (hp.f x) (Bs h0).1 (Bs h0).2.1);have s:=Aa (fun(W:N)(v1 v2:G)(x:Ba w W)(h1:Ja W v1 g)(h2:Jd W v2 ps)=>SF W v1 v2 g ps r h1 h2 (al.ext x));have HA:=Aa (fun(W:N)(x:Ba w W)=>VQ W (al.ext x));have t:=Aa (fun(W:N)=>Ly W r);have z:=Aa (fun(W:N)=>YF W r);have u:=NE r;have af:Lb r=0\/Lb r=2:=by
  unfold Lb
  repeat' split
  all_goals simp
 obtain⟨ga,gc,rfl⟩:=hg.form;obtain⟨pa,aB,rfl⟩:=hp.form;obtain⟨gn,aw⟩:=gX g.length;obtain⟨pn,az⟩:=gX ps.length;rw[aw,az]at HF HW j p ⊢;clear hg hp al aw az;obtain⟨q,hq⟩:=gX (Lb r);obtain⟨b,hb⟩:=gX (yg r);rw[hq]at t u af;rw[hb]at z u;obtain⟨sk,ai,y,ah,step,aj,m⟩:=r;unfold xg at j p s t z ⊢;dsimp only at j p s t z ⊢;have Hq:=Aa hq;clear hq hb;cases hfew:Ji g ps with
 |false=>
  rw[hfew]at HF;clear HW j p s t z;go_in;go_wp2_with(first|(go_at_call 8;refine cM (HF.o _ eA) ?_;rintro e w1 ⟨rfl,ao⟩;have X1:Ba w w1:=eA)|(go_at_call 9;refine cM (HA.o _ X1) ?_;rintro e w2 ⟨rfl,ap⟩));go_ret;exact⟨rfl,X1.trans ap⟩
 |true=>
  rw[hfew]at HF;have ak:=Aa (HW.o hfew);have aa:=Aa (j.o hfew);clear hfew HW j;obtain⟨E,hE⟩:=gX (Ch g ps ⟨sk,ai,y,ah,step,aj,m⟩);have HE:=Aa hE;rw[hE]at aa;have j:=aa;clear hE aa;go_in;go_upto_region 3 with (go_at_call 8;refine cM (HF.o _ eA) ?_;rintro e w1 ⟨rfl,ao⟩;have X1:Ba w w1:=eA;obtain⟨⟨aG,aH⟩,aC,aD⟩:=Mb w ao);have C1:Ea [(⟨w.heap.size,0,Z⟩,I ga gn gc),(⟨w.heap.size,1,Z⟩,I pa pn aB),(⟨w.heap.size+1,0,Z⟩,O .u8 sk),(⟨w.heap.size+1,1,Z⟩,O Y ai),(⟨w.heap.size+1,2,Z⟩,O Y y),(⟨w.heap.size+1,3,Z⟩,O Y ah),(⟨w.heap.size+1,4,Z⟩,O Y step),(⟨w.heap.size+1,5,Z⟩,O Y aj),(⟨w.heap.size+1,6,Z⟩,O Y m)] w1:=by
   refine⟨?_,?_,?_,?_,?_,?_,?_,?_,?_,trivial⟩<;>go_simp
  have HC:=Aa C1;have ab:=Aa X1;clear ao aG aH aC aD C1 X1 HF;obtain⟨s0,s1,r0,r1,r2,r3,r4,r5,r6,-⟩:=cE HC.o (eR _);go_upto_region 4 with (go_at_call 10;refine cM (t.o _) ?_;rintro e w2 ⟨rfl,ap⟩);clear s0 s1 r0 r1 r2 r3 r4 r5 r6;have D2:Ba w1 w2.drew:=ap.drew;refine od [(⟨w.heap.size,0,Z⟩,I ga gn gc),(⟨w.heap.size,1,Z⟩,I pa pn aB),(⟨w.heap.size+1,0,Z⟩,O .u8 sk),(⟨w.heap.size+1,1,Z⟩,O Y ai),(⟨w.heap.size+1,2,Z⟩,O Y y),(⟨w.heap.size+1,3,Z⟩,O Y ah),(⟨w.heap.size+1,4,Z⟩,O Y step),(⟨w.heap.size+1,5,Z⟩,O Y aj),(⟨w.heap.size+1,6,Z⟩,O Y m)] (cE HC.o D2) fun o=>?_;refine Qa (i:=0) ?_;refine Qa (i:=2) ?_;refine mc (i:=1) (ak.o _ (ab.o.trans D2)) ?_;rintro e w3 ⟨aT,aU,rfl,ac,ad,ag⟩;obtain⟨aL,aO,aM,rfl⟩:=Ma ac;refine⟨_,rfl,(cE o ag),fun o=>?_⟩;obtain⟨aQ,aS,aR,aI⟩:=Ma ad.pls;subst aI;have X3:=D2.trans ag;by_cases h0:E=0
  ·subst h0;have ae:Fb g ps=0:=by
    have:=HE.o;unfold Ch at this;split at this
    ·assumption
    ·rename_i h9;exact absurd this h9
   have aJ:q=0:=by
    have h9:=HE.o;unfold Ch at h9;rw[if_pos ae,Hq.o]at h9;exact h9
   subst aJ;obtain rfl:b=true:=by rw[u];rfl
   clear u af;refine mc (i:=3) (s.o w3 _ _ (ab.o.trans X3) ac ad.pls) ?_;rintro e w4 (⟨an,_⟩|⟨_,v4,L,ks,rs,rfl,am,sv,v⟩)
   ·exact absurd HE.o an
   obtain⟨ja,aP,rfl⟩:=am.form;refine⟨_,rfl,cE o v,fun o=>?_⟩;refine Qa (i:=4) ?_;refine Qa (i:=5) ?_;refine Qa (i:=6) ?_;refine Qa (i:=7) ?_;refine Qa (i:=8) ?_;refine Tb ?_;have X4:=X3.trans v;have R:=p.o ae;rw[FC sv]at R;have ar:=Aa R;have av:L.length<=1000000:=by
    have h1:=Ix ⟨sk,ai,y,ah,step,aj,m⟩ (Me ps) (Me ps).length;rw[FC sv,Yn]at h1;have h2:=(Bs ae).2.1;have h3:ps.length*ps.length<=120*120:=Nat.mul_le_mul h2 h2;omega
   have aE:=Aa av;have au:=Aa am;have l:=Aa (ab.o.trans X4);have f:=Aa X4;obtain⟨n4,ax⟩:=gX L.length;rw[ax]at au ⊢;clear p R av am sv ag v ac ad X3 X4 o s ak t ax ae;obtain⟨s0,s1,r0,r1,r2,r3,r4,r5,r6,-⟩:=cE HC.o (f.o);go_upto_region 7 with (go_at_call 13;refine cM (z.o _) ?_;rintro e w5 ⟨rfl,d⟩);clear s0 s1 r0 r1 r2 r3 r4 r5 r6;obtain⟨s0,s1,r0,r1,r2,r3,r4,r5,r6,-⟩:=cE HC.o (f.o.trans d);go_upto_region 9 with (go_at_call 14;refine cM (j.o _ (l.o.trans d)) ?_;rintro e w6 ⟨rfl,k⟩);clear s0 s1 r0 r1 r2 r3 r4 r5 r6;obtain⟨s0,s1,r0,r1,r2,r3,r4,r5,r6,-⟩:=cE HC.o ((f.o.trans d).trans k);go_wp2_with(first|(go_at_call 16;refine cM (ar.o _ ((l.o.trans d).trans k)) ?_;rintro e w7 ⟨v7,base,rfl,ay,-,K⟩;obtain⟨ba,bn,bc,aF⟩:=Fa.i ay;subst aF)|(go_at_call 15;(with_reducible refine(uS w7 _ _ base L (au.o.f ((d.trans k).trans K)) ay aE.o).mono ?_);rintro e w8 ⟨rfl,aA⟩)|(go_at_call 9;refine cM (HA.o _ ((((l.o.trans d).trans k).trans K).trans aA)) ?_;rintro e w9 ⟨rfl,aq⟩));go_ret;exact⟨rfl,((((l.o.trans d).trans k).trans K).trans aA).trans aq⟩
  ·refine mc (i:=3) (s.o w3 _ _ (ab.o.trans X3) ac ad.pls) ?_;rintro e w4 (⟨an,rfl,v⟩|⟨h9,_⟩);rotate_left 1
   ·exact absurd (HE.o.symm.trans h9) h0
   rw[HE.o];refine⟨_,rfl,cE o v,fun o=>?_⟩;refine Qa (i:=4) ?_;refine Qa (i:=5) ?_;refine Qa (i:=6) ?_;refine Qa (i:=7) ?_;refine Qa (i:=8) ?_;refine Tb ?_;have X4:=X3.trans v;have l:=Aa (ab.o.trans X4);have f:=Aa X4;have e0:(E != 0)=true:=by simpa using h0
   clear p ag v ac ad X3 X4 o s ak t an h0;have aK:(q=0/\b=true)\/(q=2/\b=false):=by
    rcases af with rfl|rfl
    ·exact .inl ⟨rfl,by rw[u];rfl⟩
    ·exact .inr ⟨rfl,by rw[u];rfl⟩
   clear u af;rcases aK with ⟨rfl,rfl⟩|⟨rfl,rfl⟩
   all_goals
    obtain⟨s0,s1,r0,r1,r2,r3,r4,r5,r6,-⟩:=cE HC.o (f.o);go_upto_region 7 with (go_at_call 13;refine cM (z.o _) ?_;rintro e w5 ⟨rfl,d⟩);clear s0 s1 r0 r1 r2 r3 r4 r5 r6;obtain⟨s0,s1,r0,r1,r2,r3,r4,r5,r6,-⟩:=cE HC.o (f.o.trans d);go_upto_region 8 with (go_at_call 14;refine cM (j.o _ (l.o.trans d)) ?_;rintro e w6 ⟨rfl,k⟩);clear s0 s1 r0 r1 r2 r3 r4 r5 r6;obtain⟨s0,s1,r0,r1,r2,r3,r4,r5,r6,-⟩:=cE HC.o ((f.o.trans d).trans k);go_wp2_with(first|(go_at_call 14;refine cM (j.o _ ((l.o.trans d).trans k)) ?_;rintro e w7 ⟨rfl,K⟩)|(go_at_call 9;refine cM (HA.o _ (((l.o.trans d).trans k).trans K)) ?_;rintro e w9 ⟨rfl,aq⟩));go_ret;exact⟨rfl,(((l.o.trans d).trans k).trans K).trans aq⟩
end
section
open Go Go.ChangeShapes Go.WideShapes Go.ChangeAt Go.RowKit
def Qh(os:Os)(c:os.Started)(H:Type)(enc:TypeId×G->H) :
  ReturnsInHanded {} Tryz.checked os 3 .any (fun w args=>(Rows.jointListsSpec.pre enc Tryz.prog Tryz.f3 [] false w args/\laidMetH Tryz.prog [("copestone/stone.ways",Rows.laid_copestone_stone_ways)] w)/\sizedMet enc Tryz.prog Tryz.f3 (OpenSpec.ofChange Rows.jointListsSpec) false w args)
   (Rows.jointListsSpec.post enc Tryz.prog Tryz.f3 false true false false):=by
 refine returnsInHanded_of_change_and (fun _ _ _ hh h=>h.of_heap hh) MM c kM Tryz.func3
  (ChangeSpec.witness_shaped (enc:=enc) (C:=Tryz.checked) (os:=os) (X:=fun w _=>laidMetH Tryz.prog [("copestone/stone.ways",Rows.laid_copestone_stone_ways)] w) false (World.doorLaid Tryz.prog 14 os) #[P #[I Z 0 0,I Z 0 0],P #[O .u8 0,O Y 0,O Y 0,O Y 0,O Y 0,O Y 0,O Y 0]] 8 rfl (World.shaped_of_RefB kM kM) kM kM kM (IN os _)) ?_
 intro W base args R gs m b L _ _ hL _;have a:∀(j:Nat) t v,Tryz.f3.params[j]?=M t->args[j]?=M v->Value.okWide Tryz.prog W .any base t v:=b;have d:=L;obtain⟨p,q,i,hV,rfl,ac,ad⟩:=L;have K:DataW.TrodAll enc Tryz.prog W 0 (fun _=>true) true Tryz.f3.params.toList args.toList R p:=i;rw[Tryz.params3]at K a;obtain⟨v0,ae,d0,aa,s,q0,r,rfl,rfl,y,r0⟩:=trodAll_cons K;obtain⟨v1,af,d1,ab,u,q1,rfl,rfl,rfl,z,r1⟩:=trodAll_cons r0;obtain⟨rfl,rfl,rfl⟩:=trodAll_nil r1;obtain rfl:args=#[v0,v1]:=by cases args;simp_all
 obtain⟨rfl,rfl⟩:=trodVars_none hV;have n:=y;have o:=z;obtain⟨vg,vp,g,ps,rfl,hg,hp⟩:=XS (a 0 _ _ rfl rfl) y;obtain⟨ru,rfl⟩:=qT (a 1 _ _ rfl rfl) z;clear i b;rw[List.append_nil (s++(u++[]))]at d;have k:∀x∈s,x.block<W.heap.size:=fun x f=>d.lt x (by simp[f]);have l:∀x∈u,x.block<W.heap.size:=fun x f=>d.lt x (by simp[f]);refine(GO W vg vp g ps ru hg hp (iS hL)).mono fun e W' ⟨he,f⟩=>?_;subst he;exact⟨_,rfl,_,_,_,[],s++(u++[]),[],d,trodAll_cons_mk (shut_bool Tryz.underlying4 _) trodAll_mk0,
  trodAll_cons_mk (Below.trod jy kM (of_decide_eq_true kM) n f k) (trodAll_cons_mk (Below.trod jy kM (of_decide_eq_true kM) o f l) trodAll_mk0),
  rfl,Below.frame f _,fun h=>by cases h⟩
def zT:Rows.JointListsSaid:=
 OpenClaim.holds_of_wide 3 Tryz.f3 rfl rfl rfl rfl rfl rfl rfl ⟨rfl,rfl,rfl,rfl,rfl⟩ rfl rfl rfl rfl rfl kM Tryz.func3 Lt
  (of_decide_eq_true kM) (by unfold Func.isWrapper;first|(rw[if_pos (by decide +kernel)];kernel_rfl)|(rw[if_neg (by decide +kernel)];exact⟨rfl,rfl⟩))
  (fun b a H enc _=>Qh b a H enc)
