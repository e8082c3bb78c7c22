import Derived.Test.YtjnjpagegkcgfaaGreatDoorCobA07
import Derived.Test.YtjnjpagegkcgfaaGreatDoorCobA08
import Derived.Laws.StructEq
set_option maxRecDepth 1000000
set_option maxHeartbeats 16000000
set_option linter.all false
open Go.Value renaming int->O,slice->X
open Go.IntKind renaming i64->Y
open Option renaming some->Z,none->J
open Go renaming World->V,Value->I
namespace Go.Proofs.YtjnjpagegkcgfaaGreatDoor.Cop
section
open Go.RowKit Go.Shelf
def zn(xs:LP)(i:Nat)(a:LP):Prop:=a.length=xs.length/\∀j,j<xs.length->a[j]?=if j<i\/xs.length<=j+i then xs[xs.length-1-j]? else xs[j]?
def zn.start(xs:LP):zn xs 0 xs:=⟨rfl,fun j a=>by rw[if_neg oM]⟩
def zn.step{xs c:LP}{i:Nat}(h:zn xs i c)(o:2*i+1<xs.length){p q:Int×Int}(m:c[i]?=Z p)(n:c[xs.length-1-i]?=Z q):zn xs (i+1) ((c.set i q).set (xs.length-1-i) p):=by
 obtain⟨g,d⟩:=h;have a:=d i oM;have b:=d (xs.length-1-i) oM;rw[if_neg oM,m]at a;rw[if_neg oM,n]at b;refine⟨by simp[g],fun j l=>?_⟩;by_cases e:j=xs.length-1-i
 ·subst e;rw[List.getElem?_set_self (by simp[g];omega),if_pos oM,show xs.length-1-(xs.length-1-i)=i by omega];exact a
 ·rw[List.getElem?_set_ne oM];by_cases f:j=i
  ·subst f;rw[List.getElem?_set_self oM,if_pos oM];exact b
  ·rw[List.getElem?_set_ne oM,d j l];by_cases k:j<i\/xs.length<=j+i
   ·rw[if_pos k,if_pos oM]
   ·rw[if_neg k,if_neg oM]
def zn.done{xs c:LP}{i:Nat}(h:zn xs i c)(f:xs.length<=2*i+1):c=xs.reverse:=by
 obtain⟨e,d⟩:=h;apply List.ext_getElem?;intro j;by_cases b:j<xs.length
 ·rw[d j b,List.getElem?_reverse b];by_cases a:j<i\/xs.length<=j+i
  ·rw[if_pos a]
  ·rw[if_neg a];congr 1;omega
 ·rw[List.getElem?_eq_none oM,List.getElem?_eq_none (by simp;omega)]
def JQ(w:V)(base:Nat)(v:I)(xs:LP)(g:Nat)(b t3:I)(W:V):Prop:=
 ∃(i:Nat)(a:LP),b=O Y i/\t3=O Y ((xs.length:Int)-1-i)/\g=xs.length+1-i/\2*i<=xs.length+1/\zn xs i a/\Ka 43 2 W base v (a.map pc)/\w.grownBy W v.ownBlock
def Xt(a:LP)(i:Nat)(q:Int×Int):(a.map pc).set i [O Y q.1,O Y q.2]=(a.set i q).map pc:=by rw[List.map_set];rfl
def oI(w:V)(base:Nat)(v:I)(xs:LP)(h:Ka 43 2 w base v (xs.map pc))(ac:xs.length<=1000000):Calls Tryz.prog 198 #[v] w fun e w'=>e=.returned (.tuple #[])/\Ka 43 2 w' base v (xs.reverse.map pc)/\w.grownBy w' v.ownBlock:=by
 obtain⟨a,c,rfl⟩:=h.form;rw[lL]at h ⊢;obtain⟨n,hn⟩:=gX xs.length;rw[hn]at h ac ⊢;have f:=Aa hn;have hh:=h;clear hn;have e0:((0:Nat):Int)=0:=rfl;go_in;go_wp2;go_loopg [2,3] (n+1) (JQ w base (X a n c) xs)
 case atStart=>exact⟨0,xs,rfl,by rw[f.o];go_num,by rw[f.o];rfl,by omega,zn.start xs,h,World.grownBy.refl _ _⟩
 case round =>
  clear h hh;obtain⟨i,k,rfl,rfl,rfl,hi,K,b,z⟩:=hrel;rw[f.o]at hi ⊢;have r:=K.1;rw[f.o]at r;by_cases ab:2*i+1<n
  ·have aa:=Ka.len b;obtain⟨g,rfl,ae,W⟩:=Ka.blk b (by rw[lL,r];omega);obtain⟨⟨Q,R⟩,hp⟩:∃q,k[i]?=Z q:=⟨k[i]' oM,by simp⟩;obtain⟨m,S⟩:=gX (n-1-i);obtain⟨⟨x,y⟩,hq⟩:∃q,k[m]?=Z q:=⟨k[m]' oM,by simp⟩;have l:(k.map pc)[i]?=Z (pc (Q,R)):=by rw[lP,hp];rfl
   have o:(k.map pc)[m]?=Z (pc (x,y)):=by rw[lP,hq];rfl
   have c0:=b.cell (j:=0) l rfl;have c1:=b.cell (j:=1) l rfl;have c2:=b.cell (j:=0) o rfl;have c3:=b.cell (j:=1) o rfl;simp only[Nat.add_zero]at c0 c2;dsimp only at c0 c1 c2 c3;have f0:=b.frozen;have P:((n:Int)-1-(i:Int))=(m:Int):=oM;rw[P];have af:m≠i:=oM;have s:=(b.pair l (O Y x) (O Y y));have d:=s.pair (i:=m) (p:=(x,y)) (by rw[List.getElem?_set_ne oM];exact o) (O Y Q) (O Y R);rw[show (((k.map pc).set i [O Y x,O Y y]).set m [O Y Q,O Y R])=((k.set i (x,y)).set m (Q,R)).map pc by rw[<-Xt,<-Xt]]at d;have u:=K.step (by rw[f.o];exact ab) hp (by rw[f.o,S];exact hq);rw[f.o,S]at u;have t:=Aa d;have T:=Aa u;have Hm:=Aa S;have p1:(0:Int)<=(i:Int):=oM;have p2:(i:Int)<(n:Int):=oM;have p3:(0:Int)<=(m:Int):=oM;have p4:(m:Int)<(n:Int):=oM;have p5:(i:Int)<(m:Int):=oM;have p6:i*2+1<m*2:=oM;clear s d u l o hp hq S K aa r b P;have ad:g<wr.heap.size:=W;go_wp2
   go_region_with fail
   all_goals go_wp2
   all_goals
    go_roundg (n+1-(i+1))
    case measure=>have:=f.o;omega
    case rel=>exact⟨i+1,(k.set i (x,y)).set m (Q,R),by go_num,by rw[f.o];have:=Hm.o;exact Nj oM,by rw[f.o],by rw[f.o];omega,T.o,t.o,Rm (Rm (Rm (Rm (RH z) _ _) _ _) _ _) _ _⟩
  ·have e:k=xs.reverse:=K.done (by rw[f.o];omega);have E:=Aa e;have q1:(n:Int)-1-(i:Int)<=(i:Int):=oM;clear e K r;go_wp2
   go_end0
   exact⟨rfl,by rw[<-E.o];exact b,z⟩
def KO{P:Program}{T t:TypeId}{k:Nat}{z:I}{w:V}{base g n cap m o c2:Nat}{cs:List (List I)}(hz:∀w,(zeroValue T).run P w = .ok z w)(ab:z.cells.size=k)(aa:∀u∈z.cells.toList,u.oneCell'=true)(ht:P.underlying t=Z (.slice T))(a:Ka T k w base (X (Z ⟨g,0,J⟩) n cap) cs)(hm:m<n)(ho:o=m*k):∃w',(∀ty,(Builtin.clear_ #[t] ty #[X (Z ⟨g,o,J⟩) (n-m) c2]).run P w = .ok (.tuple #[]) w')/\Ka T k w' base (X (Z ⟨g,0,J⟩) m cap) (cs.take m)/\w.grownBy w' (Z g):=by
 have hn:=a.len;subst hn ho;rcases a.2.2 with ⟨h2,_⟩|⟨g',ac,cur,hv,hg,hh,S,x,y,W⟩
 ·cases h2
 ·cases hv;have l:(Builtin.zeroCells z.cells (cs.length-m)).toList.length=(cs.length-m)*k:=by simp[Builtin.zeroCells,ab]
  have p:∀u∈(Builtin.zeroCells z.cells (cs.length-m)).toList,u.oneCell'=true:=by
   intro u i;simp[Builtin.zeroCells]at i;obtain⟨j,q,i⟩:=i;have d:0<z.cells.size:=by
    rcases Nat.eq_zero_or_pos z.cells.size with s|s
    ·rw[s]at q;simp at q
    ·exact s
   have Q:j%z.cells.size<z.cells.size:=Nat.mod_lt _ d;rw[getElem!_pos z.cells _ Q]at i;exact aa u (by rw[<-i];simp)
  have K:cs.length*k<=cur.size:=by rw[y];exact Nat.mul_le_mul_right _ S
  have R:m*k+(cs.length-m)*k=cs.length*k:=by rw[<-Nat.add_mul];congr 1;omega
  have f:=run_storeCells_at P g (m*k) T (Builtin.zeroCells z.cells (cs.length-m)).toList 0 cur w hh (by rw[l,Nat.add_zero,R];exact K) p;refine⟨w.setRow g (cur.toList.take (m*k+0)++(Builtin.zeroCells z.cells (cs.length-m)).toList++cur.toList.drop (m*k+0+(Builtin.zeroCells z.cells (cs.length-m)).toList.length)).toArray,?_,⟨fun c v=>a.1 c (List.mem_of_mem_take v),?_,?_⟩,⟨rfl,rfl,rfl,by simp,fun j _ q=>setRow_other w g j _ (fun e=>q (by simp[e]))⟩⟩
  ·intro ty;obtain⟨r,hr⟩:∃r,cs.length-m=r+1:=⟨cs.length-m-1,by omega⟩;rw[hr]at f ⊢;simp[Builtin.clear_,run_underlying ht,hz,f]
  ·rw[Jl (fun c v=>a.1 c (List.mem_of_mem_take v))]
  ·have hl:(cs.take m).length=m:=by rw[List.length_take];omega
   rw[hl];refine .inr ⟨g,cap,_,rfl,hg,setRow_heap w g cur _ T _ hh,by omega,x,?_,?_⟩
   ·rw[List.size_toArray,lA,lA,l,List.length_take,List.length_drop,Array.length_toList];omega
   ·(have b:m*k<=cur.size:=by have:=Nat.mul_le_mul_right k (show m<=cs.length by omega);omega);rw[<-Jr m a.1 oM,<-W,List.take_take,Nat.min_eq_left (Nat.mul_le_mul_right _ oM)];rw[List.append_assoc,List.take_append,List.length_take,Nat.add_zero,Array.length_toList,Nat.min_eq_left b,Nat.sub_self,List.take_zero,List.append_nil,List.take_take,Nat.min_self]
def Na{α:Type}[DecidableEq α]:List α->List α
 | []=>[]
 | [a]=>[a]
 | a::b::r=>if a=b then Na (b::r)else a::Na (b::r)
def Ir{α:Type}[DecidableEq α]:∀(d:List α)(a b:α),Na (d++[a]++[b])=if a=b then Na (d++[a])else Na (d++[a])++[b]
 | [],a,b=>by
  by_cases h:a=b<;>simp[Na,h]
 | [x],a,b=>by
  have:=Ir [] a b;simp only[List.nil_append,List.cons_append]at this ⊢;by_cases c:x=a
  ·simp only[Na,if_pos c];simp only[Na]at this;exact this
  ·by_cases h:a=b
   ·simp[Na,c,h]
   ·simp[Na,c,h]
 | x::y::d,a,b=>by
  have:=Ir (y::d) a b;simp only[List.cons_append]at this ⊢;by_cases c:x=y
  ·simp only[Na,if_pos c];exact this
  ·simp only[Na,if_neg c,this];split<;>rfl
def Gu{α:Type}[DecidableEq α]:∀(c:List α),(∀(j:Nat)(a b:α),c[j]?=Z a->c[j+1]?=Z b->a≠b)->Na c=c
 | [],_=>rfl
 | [a],_=>rfl
 | a::b::r,h=>by
  rw[Na,if_neg (h 0 a b rfl rfl),Gu (b::r) (fun j x y d e=>h (j+1) x y (by simpa using d) (by simpa using e))]
def Fc(way:Int)(ps:LP):LP:=Sc (if 3<way then (ps.map (Wc way)).reverse else ps.map (Wc way))
def Vw{nb:Bool}{ps:LP}{d g b c:Int}(h:Cd nb ps d g b c=true):3<=ps.length/\ps.length<=12/\xg 2000 ps/\Bd 100 b/\Bd 100 c:=by
 unfold Cd at h;simp only[Bool.and_eq_true]at h;obtain⟨⟨⟨⟨_,a⟩,_⟩,_⟩,e⟩:=h;have i:ub ps=true:=by
  cases hcc:ub ps
  ·rw[Cu hcc]at a;cases a
  ·rfl
 have j:ps.any Xe=false:=by
  cases hff:ps.any Xe
  ·rfl
  ·rw[LD hff]at a;cases a
 have f:=Cx i;unfold Qd Ta at e;simp at e;exact⟨f.1,f.2,Oy j,by unfold Bd;omega,by unfold Bd;omega⟩
def zG{k way x z:Int}(a:Bd k x)(b:Bd k z):Bd k (Wc way (x,z)).1/\Bd k (Wc way (x,z)).2:=by
 have c:Bd k (-x):=by unfold Bd at *;omega
 have d:Bd k (-z):=by unfold Bd at *;omega
 have e:Bd k (- -x):=by unfold Bd at *;omega
 unfold Wc;dsimp only;split<;>split<;>(try split)<;>(try split)<;>exact⟨by assumption,by assumption⟩
def xg.way{k way:Int}{ps:LP}(h:xg k ps):xg k (ps.map (Wc way)):=fun p b=>by
 obtain⟨q,a,rfl⟩:=List.mem_map.1 b;exact zG (h q a).1 (h q a).2
def xg.rev{k:Int}{ps:LP}(h:xg k ps):xg k ps.reverse:=fun p a=>h p (List.mem_reverse.1 a)
def Xk(W:V)(b:Nat)(f:ByteArray)(v:I)(d a c e:Int):Prop:=W.heap[b]?=Z (.cells #[.string f,v,O Y d,O Y a,O Y c,O Y e] 45 (0,0))
def Mu(w:V)(k base:Nat)(f:ByteArray)(v:I)(d b c e way:Int)(ps:LP)(g:Nat)(a:I)(W:V):Prop:=
 ∃(i:Nat)(j:I),i<=ps.length/\a=O Y i/\g=ps.length-i/\Ba w W/\base<=W.heap.size/\Xk W k f j d b c e/\Ka 43 2 W base j (((ps.take i).map (Wc way)).map pc)/\
  Xk W w.heap.size f v d b c e/\W.heap[w.heap.size+1]?=Z (.cells #[O Y way] 3 (0,0))/\W.heap[w.heap.size+1+1]?=Z (.cells #[.string ⟨#[]⟩,X J 0 0,O Y 0,O Y 0,O Y 0,O Y 0] 45 (0,0))/\Gw W
def Xk.set{W:V}{b:Nat}{f:ByteArray}{v:I}{d a c e:Int}(h:Xk W b f v d a c e)(u:I):Xk (W.setCell ⟨b,1,J⟩ u) b f u d a c e:=by unfold Xk at *;simp[World.setCell,Array.getElem?_modify,h]
def Mu.step{w wr c:V}{a:Nat}{r:ByteArray}{v v3 v4:I}{d g j l way:Int}{ps:LP}{n i:Nat}(z:ps.length=n)(y:i<n)(R:Ba w wr)(P:w.heap.size+1+1<a)(t:Xk wr a r v3 d g j l)(m:Xk wr w.heap.size r v d g j l)(p:wr.heap[w.heap.size+1]?=Z (.cells #[O Y way] 3 (0,0)))(q:wr.heap[w.heap.size+1+1]?=Z (.cells #[.string ⟨#[]⟩,X J 0 0,O Y 0,O Y 0,O Y 0,O Y 0] 45 (0,0)))(x:Gw w)(f:Below (a+1) wr c)(b:Ka 43 2 c (a+1) v4 (((ps.take (i+1)).map (Wc way)).map pc)):Mu w a (a+1) r v d g j l way ps (n-(i+1)) (O Y ((i:Int)+1)) (c.setCell ⟨a,1,J⟩ v4):=by
 have T:a<wr.heap.size:=Gb t;have u:Ba w c:=R.y f oM;have Q:=f.size;have E:∀{k:Nat}{o:Obj},k<a->wr.heap[k]?=Z o->(c.setCell ⟨a,1,J⟩ v4).heap[k]?=Z o:=fun S K=>by
  rw[bS _ _ _ _ dO,f.block _ oM];exact K
 have s:Ba w (c.setCell ⟨a,1,J⟩ v4):=u.set dO _;refine⟨i+1,v4,by omega,by go_num,by rw[z],s,by simp only[Bg];omega,Xk.set (v:=v3) ((f.block a oM).trans t) _,b.setOther (fun e=>?_) _,E oM m,E oM p,E oM q,x.ext s⟩;have:=(b.lt _ e).1;dsimp only at this;omega
def Ka.pts{w:V}{base:Nat}{v:I}{b:LP}(h:Ka 43 2 w base v (b.map pc)):Ja w v b:=
 Ka.sl h sM (fun i c x a d=>by
  rw[lP,d]at a;cases a;rfl)
def Fs(w:V)(b:ByteArray)(d a:Int)(g:Int×Int)(qs:LP)(e:Ending)(w':V):Prop:=
 ∃v',e=.returned (.tuple #[.agg #[.string b,v',O Y d,O Y a,O Y g.1,O Y g.2],O Y 0])/\Ka 43 2 w' w.heap.size v' (qs.map pc)/\Ba w w'
def lN(w:V)(Q:ByteArray)(v:I)(ps:LP)(d P s t way:Int)(h:Ja w v ps)(hB:Cd (Ie Q) ps d P s t=true)(aW:0<=way)(aX:way<=7)(hg:Gw w):Calls Tryz.prog 153 #[.agg #[.string Q,v,O Y d,O Y P,O Y s,O Y t],O Y way] w (Fs w Q d P (Wc way (s,t)) (Fc way ps)):=by
 obtain⟨a,c,rfl⟩:=h.form;obtain⟨h3,yj,a8,ba,bb⟩:=Vw hB;have aj:=fun W (hW:Ba w W)=>BD W Q _ ps d P s t (h.f hW);rw[hB]at aj;simp only[if_true]at aj;have bj:Ta way 0 7=true:=by simp[Ta];omega
 obtain⟨n,hn⟩:=gX ps.length;rw[hn]at h aj ⊢;have bm:=Aa aj;have aE:=Aa a8;have a2:=Aa ba;have a3:=Aa bb;have Hn:=Aa hn;have bs:=Aa bj;have Hg:=Aa hg;obtain⟨R,hR⟩:=gX (Fs w Q d P (Wc way (s,t)) (Fc way ps));rw[hR];have HR:=Aa hR;have bG:∀(fn:Fn)(first cap:Array I)(w:V),(Instr.makeFunc fn first cap).run Tryz.prog w = .ok (.func fn first cap) w:=fun _ _ _ _=>rfl;clear aj a8 ba bb bj hg hB hR;rw[hn]at h3 yj;clear hn;go_in;go_wp2_with(first|((go_at_call 91;refine cM (bm.o _ eA) ?_;rintro e w1 ⟨rfl,aY⟩;obtain⟨⟨bt,bw⟩,aB,aC,aD⟩:=Yb w aY))|((go_at_call 160;(with_reducible refine(Th _ way 0 7).mono ?_);rw[bs.o];rintro e w2 ⟨rfl,af⟩;obtain⟨bu,bx⟩:=af.cells;have bk:=af.lt aB;have bl:=af.lt aC;have au:=af.lt aD)));have ay:Ba w w2:=eA;have az:Ba (((w.alloc (.cells #[.string Q,X a n c,O Y d,O Y P,O Y s,O Y t] 45)).alloc (.cells #[O Y way] 3)).alloc (.cells #[.string ⟨#[]⟩,X J 0 0,O Y 0,O Y 0,O Y 0,O Y 0] 45)) w2:=aY.trans af;obtain⟨g,aq⟩:=gX w2.heap.size;have a6:=Aa aq;rw[aq];rw[aq]at au;have bH:w.heap.size<=g:=by rw[<-aq];exact ay.size
 clear aq;go_loopg [27] n (Mu w g (g+1) Q (X a n c) d P s t way ps)
 case atStart =>
  have hy:=(eR w2).alloc (.cells #[.string Q,X J 0 0,O Y d,O Y P,O Y s,O Y t] 45);refine⟨0,X J 0 0,by omega,rfl,by rw[Hn.o];rfl,ay.alloc _,by simp[a6.o],Ec _ _ _ a6.o.symm,by simpa using Ka.nil _ _ _ _,hy.e (az.e ?_),hy.e (az.e ?_),hy.e (az.e (Ec _ _ _ sM)),(Hg.o.ext ay).ext hy⟩
  ·rw[Ag,if_neg (by simp;omega),Ag,if_neg sM];exact Ec _ _ _ rfl
  ·rw[Ag,if_neg sM];exact Ec _ _ _ sM
 case round =>
  have bB:w.heap.size+1+1<g:=au;clear bt bw bu bx aY af ay az aB aC aD bk bl au;obtain⟨i,vv,hi,rfl,rfl,hx,bi,h8,ao,aT,ax,aU,aw⟩:=hrel;rw[Hn.o]at hi;obtain⟨va,vn,vc,rfl⟩:=ao.i;have c8:=Ca h8 (i:=1) (u:=X va vn vc) rfl;have f8:=Ua h8;have cw:=Ca ax (i:=0) (u:=O Y way) rfl;have z8:g<wr.heap.size:=Gb h8;have H8:=Aa h8;have ad:=Aa ao;have aI:=Aa aT;have aJ:=Aa ax;have aK:=Aa aU;have bE:=Aa aw;have bF:wr.heap.size+1<=wr.heap.size+1:=nE _;by_cases be:i<n
  ·obtain⟨⟨x,z⟩,hq⟩:∃q,ps[i]?=Z q:=⟨ps[i]'(by rw[Hn.o];omega),by simp[Hn.o,be]⟩;obtain⟨b,o,rfl,hb,d0,d1⟩:=(h.f hx).at' hq;have av:=aE.o (x,z) (lM hq);have bD:=Aa av;obtain⟨⟨x2,z2⟩,a0⟩:∃q,Wc way (x,z)=q:=⟨_,rfl⟩;have aV:=fun(W:V)(hW:Ba wr W)=>Iw W x z way (w.heap.size+1) (hW.d cw) aW aX (aw.ext hW) (av.1.mono dM) (av.2.mono dM);rw[a0]at aV;have br:=Aa aV;have bh:((ps.take (i+1)).map (Wc way)).map pc=((ps.take i).map (Wc way)).map pc++[pc (x2,z2)]:=by
    rw[Rf _ _ _ hq,List.map_append,List.map_append,<-a0];rfl
   have bq:=Aa bh;have bc:(((ps.take i).map (Wc way)).map pc).length+1<=100000000000:=by simp;omega
   have bn:=Aa bc;have p1:(0:Int)<=(i:Int):=oM;have p2:(i:Int)<(n:Int):=oM;clear hq av aV bh bc aw aT ax aU h8 a0;go_wp2
   go_region_law (first|(go_simp;go_at_call 197;go_wp2_with(go_at_call 197;(with_reducible refine(br.o _ ?_).mono ?_);exact eA;rintro e j ⟨rfl,aZ⟩;obtain⟨bv,bz⟩:=aZ.cells;(try simp only[Mg,Lg,Cc]at bv bz);(have y3:=aZ.lt (n:=g) (by simp only[wZ,Cc];omega));(have y4:=aZ.lt (n:=wr.heap.size) (by simp only[wZ,Cc];omega))))|(refine ir (v:=X va vn vc) (base:=g+1) Wm rfl dM dM Tryz.underlying38 (by rfl) _ _ (by rfl) (by rfl) (cs:=((ps.take i).map (Wc way)).map pc) (ad.o.ext ?_) (by rfl) [pc (x2,z2)] rfl (by simp[pc]) (tv _ _ _ _) (Ko _ _) bn.o ?_ ?_;exact eA;(simp only[wZ,Cc];omega);intro v4 w4 ap aQ bC;obtain⟨a4,n4,c4,rfl⟩:=ap.i;(have B4:Below (g+1) wr w4:=by(refine Below.trans (Below.mono (B':=g+1) (show Ba wr _ from ?_) bi) (Mh aQ ?_ (fun k hk=>(ad.o.lt k hk).1));exact eA;(simp only[wZ,Cc];omega)));(have r:=(B4.block g oM).trans H8.o);(have c9:=Ca r (i:=1) (u:=X va vn vc) rfl);(have f9:=Ua r 1)))
   all_goals go_wp2
   all_goals
    go_roundg (n-(i+1))
    case measure=>have:=Hn.o;omega
    case rel=>exact Mu.step Hn.o be hx bB H8.o aI.o aJ.o aK.o Hg.o B4 (by rw[bq.o];exact ap)
  ·obtain rfl:i=n:=oM;have e:(ps.take i).map (Wc way)=ps.map (Wc way):=by rw[lT (by rw[Hn.o];exact nE _)]
   have ab:=ad.o;rw[e]at ab;have aA:(ps.map (Wc way)).length=i:=by simp[Hn.o]
   have a7:xg 1000000 (ps.map (Wc way)):=fun p hp=>⟨(aE.o.way p hp).1.mono dM,(aE.o.way p hp).2.mono dM⟩;have S:=Aa ab;have ah:=Aa aA;have a1:=Aa a7;clear e ao ab aA a7 aw aT ax aU h8 ad;by_cases ae:3<way
   ·(have k3:decide (3<way)=true:=by simpa using ae);have bg:=oI wr (g+1) (X va vn vc) (ps.map (Wc way)) S.o (by rw[ah.o];omega);have bp:=Aa bg;obtain⟨ls,l⟩:=gX ((ps.map (Wc way)).reverse);have HL:Sa (Fc way ps=Sc ls):=Aa (by unfold Fc;rw[if_pos ae,l]);(have ak:ls.length=i:=by rw[<-l,List.length_reverse];exact ah.o);(have al:xg 1000000 ls:=by rw[<-l];exact a1.o.rev);have bo:=Aa l;have ag:=Aa ak;have aG:=Aa al;clear bg l ak al ae;go_wp2_with(((go_at_call 198;(with_reducible refine bp.o.mono ?_);rintro e j ⟨rfl,aa,a9⟩)));have B3:Below (g+1) wr j:=Mh a9 bi (fun k hk=>(S.o.lt k hk).1);rw[bo.o]at aa;have aH:=Aa aa;clear aa a9;have r:Xk j g Q (X va vn vc) d P s t:=(B3.block g oM).trans H8.o;have E0:Xk j w.heap.size Q _ d P s t:=(B3.block w.heap.size oM).trans aI.o;have E1:=(B3.block (w.heap.size+1) oM).trans aJ.o;have K:=(B3.block (w.heap.size+1+1) oM).trans aK.o;have X3:Ba w j:=hx.y B3 oM;have b0:=Ca r (i:=0) (u:=.string Q) rfl;have b1:=Ca r (i:=1) (u:=X va vn vc) rfl;have b2:=Ca r (i:=2) (u:=O Y d) rfl;have b3:=Ca r (i:=3) (u:=O Y P) rfl;have b4:=Ca r (i:=4) (u:=O Y s) rfl;have b5:=Ca r (i:=5) (u:=O Y t) rfl;have bf:=Ua r;have a4:=Ca E0 (i:=4) (u:=O Y s) rfl;have a5:=Ca E0 (i:=5) (u:=O Y t) rfl;have e0:=Ca K (i:=0) (u:=.string ⟨#[]⟩) rfl;have e1:=Ca K (i:=1) (u:=X J 0 0) rfl;have e2:=Ca K (i:=2) (u:=O Y 0) rfl;have e3:=Ca K (i:=3) (u:=O Y 0) rfl;have e4:=Ca K (i:=4) (u:=O Y 0) rfl;have e5:=Ca K (i:=5) (u:=O Y 0) rfl;have ef:=Ua K;have y0:g<j.heap.size:=Gb r;have y1:w.heap.size+1+1<j.heap.size:=oM;have y2:w.heap.size<j.heap.size:=oM;have ar:=fun(W:V)(hW:Ba j W)=>NE W (X va vn vc) ls (aH.o.pts.f hW) (by rw[ag.o];omega) (by rw[ag.o];omega) aG.o;obtain⟨⟨g1,g2⟩,T⟩:∃q,Wc way (s,t)=q:=⟨_,rfl⟩;have ac:=fun(W:V)(hW:Ba j W)=>Iw W s t way (w.heap.size+1) (hW.d (Ca E1 (i:=0) rfl)) aW aX ((Hg.o.ext X3).ext hW) (a2.o.mono dM) (a3.o.mono dM);rw[T]at ac;have aL:=Aa ar;have aM:=Aa ac;have aF:=Aa T;clear ar ac T E0 E1 K r
    first|(go_region_with (first|((go_at_call 199;refine cM (aL.o _ eA) ?_;rintro e w4 ⟨v4,rfl,y,m⟩;obtain⟨q4,n4,c4,rfl⟩:=y.i;obtain⟨ai,aP⟩:=m.cells;(try simp only[Mg,Lg,Cc]at ai aP);have u0:=m.lt (n:=g) y0;have u1:=m.lt (n:=w.heap.size+1+1) y1;have u2:=m.lt (n:=w.heap.size) y2;have X4:Ba j w4:=(eR j).drew.trans m))|((go_at_call 197;refine cM (aM.o _ eA) ?_;rintro e w5 ⟨rfl,f⟩;obtain⟨aO,bA⟩:=f.cells;have t0:=f.lt u0;have t1:=f.lt u1;have t2:=f.lt u2))))|fail
    all_goals go_wp2
    all_goals
     have an:(Value.slice q4 n4 c4).ownBlock≠Z g:=fun e=>by
      have:=(y.lt _ e).1;simp only[Cc]at this;omega
     have am:(Value.slice q4 n4 c4).ownBlock≠Z (w.heap.size+1+1):=fun e=>by
      have:=(y.lt _ e).1;simp only[Cc]at this;omega
     have X5:Ba w w5:=(X3.trans X4).trans f;have aR:¬g=w.heap.size+1+1:=oM;have aS:¬w.heap.size+1+1=g:=oM;refine bR (v:=.tuple #[.agg #[.string Q,X q4 n4 c4,O Y d,O Y P,O Y g1,O Y g2],O Y 0]) (by simp[results,Tryz.results153,go_sem,aO,ai,u1,y1,e0,e1,e2,e3,e4,e5,aR,aS]) rfl ?_;rw[<-HR.o,aF.o,HL.o];refine⟨_,rfl,Ka.mono (b':=w.heap.size) ?_ X3.size,eA⟩
     repeat(refine Ka.setOther ?_ (by first|exact an|exact am) _)
     exact Ka.ext y f
   ·(have k3:decide (3<way)=false:=by simpa using ae);obtain⟨ls,l⟩:=gX (ps.map (Wc way));have HL:Sa (Fc way ps=Sc ls):=Aa (by unfold Fc;rw[if_neg ae,l]);(have ak:ls.length=i:=by rw[<-l];exact ah.o);(have al:xg 1000000 ls:=by rw[<-l];exact a1.o);have aa:=S.o;rw[l]at aa;have aH:=Aa aa;have ag:=Aa ak;have aG:=Aa al;clear l ak al ae aa;obtain⟨j,rfl⟩:∃j,j=wr:=⟨_,rfl⟩;have B3:Below (g+1) j j:=Below.refl _ _;go_wp2;have r:Xk j g Q (X va vn vc) d P s t:=(B3.block g oM).trans H8.o;have E0:Xk j w.heap.size Q _ d P s t:=(B3.block w.heap.size oM).trans aI.o;have E1:=(B3.block (w.heap.size+1) oM).trans aJ.o;have K:=(B3.block (w.heap.size+1+1) oM).trans aK.o;have X3:Ba w j:=hx.y B3 oM;have b0:=Ca r (i:=0) (u:=.string Q) rfl;have b1:=Ca r (i:=1) (u:=X va vn vc) rfl;have b2:=Ca r (i:=2) (u:=O Y d) rfl;have b3:=Ca r (i:=3) (u:=O Y P) rfl;have b4:=Ca r (i:=4) (u:=O Y s) rfl;have b5:=Ca r (i:=5) (u:=O Y t) rfl;have bf:=Ua r;have a4:=Ca E0 (i:=4) (u:=O Y s) rfl;have a5:=Ca E0 (i:=5) (u:=O Y t) rfl;have e0:=Ca K (i:=0) (u:=.string ⟨#[]⟩) rfl;have e1:=Ca K (i:=1) (u:=X J 0 0) rfl;have e2:=Ca K (i:=2) (u:=O Y 0) rfl;have e3:=Ca K (i:=3) (u:=O Y 0) rfl;have e4:=Ca K (i:=4) (u:=O Y 0) rfl;have e5:=Ca K (i:=5) (u:=O Y 0) rfl;have ef:=Ua K;have y0:g<j.heap.size:=Gb r;have y1:w.heap.size+1+1<j.heap.size:=oM;have y2:w.heap.size<j.heap.size:=oM;have ar:=fun(W:V)(hW:Ba j W)=>NE W (X va vn vc) ls (aH.o.pts.f hW) (by rw[ag.o];omega) (by rw[ag.o];omega) aG.o;obtain⟨⟨g1,g2⟩,T⟩:∃q,Wc way (s,t)=q:=⟨_,rfl⟩;have ac:=fun(W:V)(hW:Ba j W)=>Iw W s t way (w.heap.size+1) (hW.d (Ca E1 (i:=0) rfl)) aW aX ((Hg.o.ext X3).ext hW) (a2.o.mono dM) (a3.o.mono dM);rw[T]at ac;have aL:=Aa ar;have aM:=Aa ac;have aF:=Aa T;clear ar ac T E0 E1 K r
    first|(go_region_with (first|((go_at_call 199;refine cM (aL.o _ eA) ?_;rintro e w4 ⟨v4,rfl,y,m⟩;obtain⟨q4,n4,c4,rfl⟩:=y.i;obtain⟨ai,aP⟩:=m.cells;(try simp only[Mg,Lg,Cc]at ai aP);have u0:=m.lt (n:=g) y0;have u1:=m.lt (n:=w.heap.size+1+1) y1;have u2:=m.lt (n:=w.heap.size) y2;have X4:Ba j w4:=(eR j).drew.trans m))|((go_at_call 197;refine cM (aM.o _ eA) ?_;rintro e w5 ⟨rfl,f⟩;obtain⟨aO,bA⟩:=f.cells;have t0:=f.lt u0;have t1:=f.lt u1;have t2:=f.lt u2))))|fail
    all_goals go_wp2
    all_goals
     have an:(Value.slice q4 n4 c4).ownBlock≠Z g:=fun e=>by
      have:=(y.lt _ e).1;simp only[Cc]at this;omega
     have am:(Value.slice q4 n4 c4).ownBlock≠Z (w.heap.size+1+1):=fun e=>by
      have:=(y.lt _ e).1;simp only[Cc]at this;omega
     have X5:Ba w w5:=(X3.trans X4).trans f;have aR:¬g=w.heap.size+1+1:=oM;have aS:¬w.heap.size+1+1=g:=oM;refine bR (v:=.tuple #[.agg #[.string Q,X q4 n4 c4,O Y d,O Y P,O Y g1,O Y g2],O Y 0]) (by simp[results,Tryz.results153,go_sem,aO,ai,u1,y1,e0,e1,e2,e3,e4,e5,aR,aS]) rfl ?_;rw[<-HR.o,aF.o,HL.o];refine⟨_,rfl,Ka.mono (b':=w.heap.size) ?_ X3.size,eA⟩
     repeat(refine Ka.setOther ?_ (by first|exact an|exact am) _)
     exact Ka.ext y f
def Gs(base:Nat)(w:V)(v:I)(qs:LP)(e:Ending)(w':V):Prop:=∃v',e=.returned v'/\Ka 43 2 w' base v' (qs.map pc)/\w.grownBy w' v.ownBlock/\(v'.ownBlock=v.ownBlock)
def QR(w:V)(base:Nat)(v:I)(ps:LP)(g:Nat)(t3:I)(W:V):Prop:=
 ∃m:Nat,m+1<=ps.length/\t3=O Y ((m+1:Nat):Int)/\g=ps.length-(m+1)/\(∀(j:Nat)(a b:Int×Int),j+1<m+1->ps[j]?=Z a->ps[j+1]?=Z b->a≠b)/\Ka 43 2 W base v (ps.map pc)/\w.grownBy W v.ownBlock
def Mj(ps:LP)(k a c:Nat)(b:LP):Prop:=
 b.length=ps.length/\1<=c/\c<=k+a/\k+a+1<=ps.length/\b.take c=Na (ps.take (k+a+1))/\∀j,k+a<=j->b[j]?=ps[j]?
def TR(w:V)(base:Nat)(v:I)(ps:LP)(k:Nat)(g:Nat)(t3 t5:I)(W:V):Prop:=
 ∃(a c:Nat)(b:LP),t5=O Y ((a+1:Nat):Int)/\t3=O Y (c:Int)/\g=ps.length-(a+1)/\Mj ps k a c b/\Ka 43 2 W base v (b.map pc)/\w.grownBy W v.ownBlock
def iw{α:Type}{xs:List α}{m:Nat}{a b:α}(c:xs[m]?=Z a)(d:xs[m+1]?=Z b):xs.take (m+2)=xs.take m++[a]++[b]:=by rw[Rf _ _ _ d,Rf _ _ _ c]
def Mj.start{ps:LP}{m:Nat}{a:Int×Int}(h:∀(j:Nat)(a b:Int×Int),j+1<m+1->ps[j]?=Z a->ps[j+1]?=Z b->a≠b)(e:ps[m]?=Z a)(f:ps[m+1]?=Z a):Mj ps (m+1) 0 (m+1) ps:=by
 have g:=(lS.1 f).1;refine⟨rfl,by omega,by omega,by omega,?_,fun _ _=>rfl⟩;rw[show m+1+0+1=m+2 by omega,iw e f,Ir,if_pos rfl,<-Rf _ _ _ e,Gu];intro j x y d c;rw[List.getElem?_take]at d c;split at c
 ·rename_i h2;rw[if_pos oM]at d;exact h j x y h2 d c
 ·cases c
def Mj.same{ps e:LP}{k a c:Nat}{p:Int×Int}(h:Mj ps k a c e)(b:ps[k+a]?=Z p)(d:ps[k+a+1]?=Z p):Mj ps k (a+1) c e:=by obtain⟨f,g,l,m,i,h6⟩:=h;have o:=(lS.1 d).1;refine⟨f,g,by omega,by omega,?_,fun j n=>h6 j oM⟩;rw[i,show k+(a+1)+1=k+a+2 by omega,iw b d,Ir,if_pos rfl,<-Rf _ _ _ b]
def Mj.other{ps d:LP}{k a c:Nat}{p q:Int×Int}(h:Mj ps k a c d)(e:ps[k+a]?=Z p)(f:ps[k+a+1]?=Z q)(b:p≠q):Mj ps k (a+1) (c+1) (d.set c q):=by obtain⟨g,l,m,n,i,h6⟩:=h;have r:=(lS.1 f).1;refine⟨by rw[List.length_set];exact g,by omega,by omega,by omega,?_,fun j o=>by rw[List.getElem?_set_ne oM];exact h6 j oM⟩;rw[show k+(a+1)+1=k+a+2 by omega,iw e f,Ir,if_neg b,<-Rf _ _ _ e,<-i,Rf _ _ _ (show (d.set c q)[c]?=Z q by rw[List.getElem?_set_self oM]),List.take_set_of_le (nE _)]
def Mj.get{ps b:LP}{k a c:Nat}(h:Mj ps k a c b){j:Nat}(d:k+a<=j){q:Int×Int}(e:ps[j]?=Z q):(b.map pc)[j]?=Z (pc q):=by rw[lP,h.2.2.2.2.2 j d,e];rfl
def FE(w:V)(base:Nat)(v:I)(ps:LP)(h:Ka 43 2 w base v (ps.map pc))(aH:ps.length<=1000000):Calls Tryz.prog 128 #[v] w (Gs base w v (Na ps)):=by
 obtain⟨a,n,c,rfl⟩:=h.i;have hl:=h.len;rw[lL]at hl;obtain⟨R,hR⟩:=gX (Gs base w (X a n c) (Na ps));rw[hR];have HR:=Aa hR;have p:Sa (ps.length=n):=Aa hl.symm;clear hR;by_cases h2:n<2
 ·have e:Na ps=ps:=by
   apply Gu;intro j x y hx hy;have:=(lS.1 hy).1;omega
  have E:=Aa e;have aA:(n:Int)<2:=oM;clear hl e h2;go_in;go_wp2;rw[<-HR.o,E.o];exact⟨_,rfl,h,World.grownBy.refl _ _,rfl⟩
 ·obtain⟨g,rfl,aR,aS⟩:=h.blk (by rw[lL];omega);have aA:¬(n:Int)<2:=oM;have aI:n<=c:=by
   rcases h.2.2 with ⟨h9,_⟩|⟨g',cap,cur,hv,_,_,au,_⟩
   ·cases h9
   ·cases hv;rw[lL]at au;omega
  have aC:c<=9223372036854775807:=by
   rcases h.2.2 with ⟨h9,_⟩|⟨g',cap,cur,hv,_,_,au,aF,_⟩
   ·cases h9
   ·cases hv;unfold maxLen at aF;omega
  rw[<-hl]at aH;clear hl;go_in;go_wp2;go_loopg [3] (n-1) (QR w base (X (Z ⟨g,0,J⟩) n c) ps)
  case atStart=>exact⟨0,by rw[p.o];omega,rfl,by rw[p.o],fun j a b hj=>by omega,h,World.grownBy.refl _ _⟩
  case round =>
   clear h;obtain⟨m,hm,rfl,rfl,ab,f,Q⟩:=hrel;rw[p.o]at hm;have S:=Aa ab;have T:=Aa f;have ad:=Aa Q;by_cases aT:m+1<n
   ·obtain⟨⟨x,z⟩,hq⟩:∃q,ps[m+1]?=Z q:=⟨ps[m+1]'(by rw[p.o];omega),by simp⟩;obtain⟨⟨x',z'⟩,ae⟩:∃q,ps[m]?=Z q:=⟨ps[m]'(by rw[p.o];omega),by simp⟩;have d0:=f.cell (i:=m+1) (j:=0) (d:=pc (x,z)) (by rw[lP,hq];rfl) rfl;have d1:=f.cell (i:=m+1) (j:=1) (d:=pc (x,z)) (by rw[lP,hq];rfl) rfl;have d2:=f.cell (i:=m) (j:=0) (d:=pc (x',z')) (by rw[lP,ae];rfl) rfl;have d3:=f.cell (i:=m) (j:=1) (d:=pc (x',z')) (by rw[lP,ae];rfl) rfl;simp only[Nat.add_zero]at d0 d2;dsimp only at d0 d1 d2 d3;have u1:((m+1:Nat):Int)-1=(m:Int):=oM;have p1:(0:Int)<=(m:Int):=oM;have p2:(m:Int)<(n:Int):=oM;have p3:((m+1:Nat):Int)<(n:Int):=oM;have Hq:=Aa hq;have aj:=Aa ae;clear ab f Q hq ae;by_cases K:x=x'
    ·(have f1:(x==x')=true:=by simpa using K);by_cases W:z=z'
     ·(have f2:(z==z')=true:=by simpa using W);(have aw:Mj ps (m+1) 0 (m+1) ps:=by subst K W;exact Mj.start S.o aj.o Hq.o);have ax:=Aa aw;have p4:((m+1:Nat):Int)<=(n:Int):=oM;have p5:(n:Int)<=(c:Int):=oM;have p6:((m+1:Nat):Int)<(c:Int):=oM;clear K W aw;go_wp2;go_quiet (fail);clear d0 d1 d2 d3;go_wp2;obtain⟨L,hL⟩:=gX (n-(m+1));obtain⟨kk,am⟩:=gX ((m+1)*2);rw[hL,am];have aq:Sa (n-(m+1)=L/\(m+1)*2=kk):=Aa ⟨hL,am⟩;have aO:L+m+1=n:=oM;clear hL am;have af:=Up ad.o nq;go_loopg [3,5] (n-1) (TR w base (X (Z ⟨g,0,J⟩) n c) ps (m+1))
      case atStart=>exact⟨0,m+1,ps,rfl,rfl,by rw[p.o],ax.o,T.o,af⟩
      case round =>
       clear af;obtain⟨k,r,ys,rfl,rfl,rfl,hL,f,Q⟩:=hrel;have aB:=hL.2.2.2.1;rw[p.o]at aB;have aP:=hL.2.2.1;by_cases aM:k+1<L
       ·obtain⟨⟨qx,qz⟩,ao⟩:∃q,ps[m+1+k+1]?=Z q:=⟨ps[m+1+k+1]'(by rw[p.o];omega),by simp⟩;obtain⟨⟨px,pz⟩,an⟩:∃q,ps[m+1+k]?=Z q:=⟨ps[m+1+k]'(by rw[p.o];omega),by simp⟩;have gq:=hL.get oM ao;have gp:=hL.get oM an;have d0:=f.cell (j:=0) gq rfl;have d1:=f.cell (j:=1) gq rfl;have d2:=f.cell (j:=0) gp rfl;have d3:=f.cell (j:=1) gp rfl;(have a0:(m+1+k+1)*2+0=kk+(k+1)*2:=by have:=aq.o.2;omega);have a1:(m+1+k+1)*2+1=kk+(k+1)*2+1:=oM;(have a2:(m+1+k)*2+0=kk+k*2:=by have:=aq.o.2;omega);have a3:(m+1+k)*2+1=kk+k*2+1:=oM;rw[a0]at d0;rw[a1]at d1;rw[a2]at d2;rw[a3]at d3;dsimp only at d0 d1 d2 d3;have aQ:=f.frozen;have u:=Aa f;have aa:=Aa Q;have ag:=Aa hL;have ak:=Aa ao;have ai:=Aa an;have u1:((k+1:Nat):Int)-1=(k:Int):=oM;have aV:(0:Int)<=(k:Int):=oM;have aW:(k:Int)<(L:Int):=oM;have aX:((k+1:Nat):Int)<(L:Int):=oM;have aD:r<n:=oM;have aK:(r:Int)<(n:Int):=oM;have aJ:(0:Int)<=(r:Int):=oM;obtain⟨⟨rx,rz⟩,hr⟩:∃q,ys[r]?=Z q:=⟨ys[r]'(by rw[hL.1,p.o];exact aD),by simp⟩;(have gr:(ys.map pc)[r]?=Z (pc (rx,rz)):=by rw[lP,hr];rfl);have d4:=f.cell (j:=0) gr rfl;have d5:=f.cell (j:=1) gr rfl;simp only[Nat.add_zero]at d4;dsimp only at d4 d5;have ap:=Aa gr;clear f Q hL ao an gq gp a0 a1 a2 a3 gr hr;by_cases K:qx=px
        ·(have g1:(qx != px)=false:=by simpa using K);(have ay:(qx==px)=true:=by simpa using K);by_cases W:qz=pz
         ·(have g2:(qz != pz)=false:=by simpa using W);(have az:(qz==pz)=true:=by simpa using W);(have l:Mj ps (m+1) (k+1) r ys:=by subst K W;exact ag.o.same ai.o ak.o);have s:=Aa l;clear K W l;go_wp2;go_quiet (fail);go_wp2;go_roundg (n-(k+1+1))
          case measure=>have:=p.o;omega
          case rel=>exact⟨k+1,r,ys,by go_num,rfl,by rw[p.o],s.o,u.o,Up aa.o _⟩
         ·(have g2:(qz != pz)=true:=by simpa using W);(have az:(qz==pz)=false:=by simpa using W);have l:Mj ps (m+1) (k+1) (r+1) (ys.set r (qx,qz)):=ag.o.other ai.o ak.o (by simp;omega);have s:=Aa l;clear K W l;go_wp2;go_quiet (fail);go_wp2;go_roundg (n-(k+1+1))
          case measure=>have:=p.o;omega
          case rel =>
           refine⟨k+1,r+1,ys.set r (qx,qz),by go_num,by go_num,by rw[p.o],s.o,?_,Rm (Rm (Up aa.o _) _ _) _ _⟩;rw[<-Xt];exact Ka.pair (u.o.ext ((eR _).drewN _)) ap.o _ _
        ·(have g1:(qx != px)=true:=by simpa using K);(have ay:(qx==px)=false:=by simpa using K);have l:Mj ps (m+1) (k+1) (r+1) (ys.set r (qx,qz)):=ag.o.other ai.o ak.o (by simp;omega);have s:=Aa l;clear K l;go_wp2;go_quiet (fail);go_wp2;go_roundg (n-(k+1+1))
         case measure=>have:=p.o;omega
         case rel =>
          refine⟨k+1,r+1,ys.set r (qx,qz),by go_num,by go_num,by rw[p.o],s.o,?_,Rm (Rm (Up aa.o _) _ _) _ _⟩;rw[<-Xt];exact Ka.pair (u.o.ext ((eR _).drewN _)) ap.o _ _
       ·have aU:m+1+k+1=n:=oM;(have aE:(ys.take r)=Na ps:=by rw[hL.2.2.2.2.1,lT (by rw[p.o];omega)]);have ar:r<n:=oM;obtain⟨wc,aL,av,aG⟩:=KO (P:=Tryz.prog) (t:=121) (z:=.agg #[O Y 0,O Y 0]) (w:=wr) (o:=r*2) (c2:=c-r) (fun w=>Tryz.zeroValue43 w) rfl (by simp[Value.cells];rfl) Tryz.underlying121 f ar rfl;have c1:(0:Int)<=(r:Int):=oM;have c2:(r:Int)<=(n:Int):=oM;have c3:(n:Int)<=(c:Int):=oM;have c4:(r:Int)<(c:Int):=oM;have c5:r<c:=oM;go_wp2;rw[<-HR.o];refine⟨_,rfl,?_,Q.trans aG,rfl⟩;rw[<-List.map_take,aE]at av;exact av
     ·(have f2:(z==z')=false:=by simpa using W);(have ac:((x',z'):Int×Int)≠(x,z):=by simp;omega);have ah:=Aa ac;clear K W ac;go_wp2;go_quiet (fail);go_wp2;go_roundg (n-(m+1+1))
      case measure=>have:=p.o;omega
      case rel =>
       refine⟨m+1,by have:=p.o;omega,by go_num,by rw[p.o],fun j a b hj ha hb=>?_,T.o,Up ad.o _⟩;by_cases al:j=m
       ·subst al;rw[aj.o]at ha;rw[Hq.o]at hb;cases ha;cases hb;exact ah.o
       ·exact S.o j a b oM ha hb
    ·(have f1:(x==x')=false:=by simpa using K);(have ac:((x',z'):Int×Int)≠(x,z):=by simp;omega);have ah:=Aa ac;clear K ac;go_wp2;go_quiet (fail);go_wp2;go_roundg (n-(m+1+1))
     case measure=>have:=p.o;omega
     case rel =>
      refine⟨m+1,by have:=p.o;omega,by go_num,by rw[p.o],fun j a b hj ha hb=>?_,T.o,Up ad.o _⟩;by_cases al:j=m
      ·subst al;rw[aj.o]at ha;rw[Hq.o]at hb;cases ha;cases hb;exact ah.o
      ·exact S.o j a b oM ha hb
   ·have e:Na ps=ps:=Gu ps (fun j a b ha hb=>S.o j a b (by have:=(lS.1 hb).1;rw[p.o]at this;omega) ha hb);have E:=Aa e;have p3:¬((m+1:Nat):Int)<(n:Int):=oM;clear e ab f Q;go_wp2;rw[<-HR.o,E.o];exact⟨_,rfl,T.o,ad.o,rfl⟩
