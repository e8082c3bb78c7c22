import Derived.Test.YtgimcmpeceifnaaGreatDoorComA06
set_option maxRecDepth 1000000
set_option maxHeartbeats 16000000
set_option linter.all false
namespace Go.Proofs.YtgimcmpeceifnaaGreatDoor.Cop
section
open Go.RowKit Go.Shelf
def Pf(ps:LP)(i:Nat):Bool:=!Uc (ps.getD i (0,0)).1&&(!Uc (ps.getD i (0,0)).2&&(i==0 || decide ((ps.getD (i-1) (0,0)).1<(ps.getD i (0,0)).1)))
def Bb(ps:LP):Bool:=Ra ps.length 2 40&&(List.range ps.length).all (Pf ps)
def Qv{ps i}(h:i<ps.length)(a:Pf ps i=false):Bb ps=false:=by
 unfold Bb;rw[Bool.and_eq_false_iff]
 right
 rw[List.all_eq_false];exact⟨i,List.mem_range.2 h,by simp[a]⟩
def CS{ps}(a:Ra ps.length 2 40=true)(h:∀i,i<ps.length->Pf ps i=true):Bb ps=true:=by unfold Bb;rw[a,Bool.true_and,List.all_eq_true];exact fun i b=>h i (List.mem_range.1 b)
def Rn(ps:LP)(i:Nat)(x z:Int):Prop:=(ps.getD i (0,0)).1=x/\(ps.getD i (0,0)).2=z
def pV(w:World)(ps:LP)(g:Nat)(a:Value)(W:World):Prop:=
 ∃i:Nat,i<=ps.length/\a = .int .i64 i/\g=ps.length-i/\Ba w W/\∀j,j<i->Pf ps j=true
def gR w v ps(h:Ia w v ps):Calls Tryz.prog 111 #[v] w fun e w'=>e=.returned (.bool (Bb ps))/\Ba w w':=by
 obtain⟨a,c,rfl⟩:=h.form;obtain⟨n,L⟩:=gX ps.length;rw[L]at h ⊢;by_cases hw:2<=n/\n<=40
 ·obtain⟨h2,ag⟩:=hw;have HW:Ua (Ra ps.length 2 40=true):=za (by rw[L];simp[Ra];omega);have f:=za L;obtain⟨⟨x0,z0⟩,ac⟩:∃p,ps[0]?=some p:=⟨ps[0]' oM,by simp⟩;obtain⟨b,o,rfl,ai,_,_⟩:=h.at' ac;clear L ac;have q1:(2:Int)<=(n:Int):=oM;have q2:(n:Int)<=40:=oM;go_in;go_wp2;go_loopg [15] n (pV w ps)
  case atStart=>exact⟨0,by omega,rfl,by rw[f.o];rfl,eR _,fun j hj=>by omega⟩
  case round =>
   obtain⟨i,hi,rfl,rfl,hx,s⟩:=hrel;rw[f.o]at hi;have g:=za s;clear s;by_cases l:i<n
   ·obtain⟨⟨x,z⟩,hq⟩:∃q,ps[i]?=some q:=⟨ps[i]'(by rw[f.o];omega),by simp[f.o,l]⟩;obtain⟨b',o',e',ah,d0,d1⟩:=(h.f hx).at' hq;cases e';have Hq:=za hq;clear hq;have ab:Rn ps i x z:=⟨by rw[gD,Hq.o];rfl,by rw[gD,Hq.o];rfl⟩;have d:=za ab;clear ab;have p1:(0:Int)<=(i:Int):=oM;have p2:(i:Int)<(n:Int):=oM;have fx:=fun W=>ZE W x;have r:=fun W=>ZE W z;cases k1:Uc x
    ·rw[k1]at fx;have Fx:=za fx;clear fx;cases k2:Uc z
     ·rw[k2]at r;have t:=za r;clear r;by_cases h0:i=0
      ·subst h0;have K:Ua (Pf ps 0=true):=za (by unfold Pf;rw[d.o.1,d.o.2,k1,k2];rfl);have ad:decide ((0:Int)<0)=false:=dM;simp only[Nat.zero_mul,Nat.add_zero]at d0 d1;go_wp2;go_quiet (((first|(go_at_call 152;exact Calls.quiet_of_same (Fx.o _))|(go_at_call 152;exact Calls.quiet_of_same (t.o _)))));go_wp2;go_roundg (n-(0+1))
       case measure=>have:=f.o;omega
       case rel =>
        refine⟨0+1,by have:=f.o;omega,by go_num,by rw[f.o],eA,fun j hj=>?_⟩;by_cases u:j=0
        ·subst u;exact K.o
        ·exact g.o j oM
      ·obtain⟨m,rfl⟩:∃m,i=m+1:=⟨i-1,by omega⟩;obtain⟨⟨x',z'⟩,R⟩:∃q,ps[m]?=some q:=⟨ps[m]'(by rw[f.o];omega),by simp⟩;obtain⟨b',o',e',af,d2,d3⟩:=(h.f hx).at' R;cases e';have aa:=za R;clear R d3;(have u0:IntKind.i64.wrap (((m+1:Nat):Int)-1)=(m:Int):=by rw[show ((m+1:Nat):Int)-1=(m:Int) by omega];exact iW _ ⟨by omega,by omega⟩);have u1:((m+1:Nat):Int)-1=(m:Int):=oM;have ad:decide ((0:Int)<((m+1:Nat):Int))=true:=sM;have p3:(0:Int)<=(m:Int):=oM;have p4:(m:Int)<(n:Int):=oM;by_cases k3:x'<x
       ·have K:Ua (Pf ps (m+1)=true):=za (by
         unfold Pf;rw[d.o.1,d.o.2,k1,k2,Nat.add_sub_cancel,gD,aa.o];simpa using k3)
        (have ae:decide (x<=x')=false:=by simpa using k3);go_wp2;go_quiet (((first|(go_at_call 152;exact Calls.quiet_of_same (Fx.o _))|(go_at_call 152;exact Calls.quiet_of_same (t.o _)))));go_wp2;go_roundg (n-((m+1)+1))
        case measure=>have:=f.o;omega
        case rel =>
         refine⟨(m+1)+1,by have:=f.o;omega,by go_num,by rw[f.o],eA,fun j hj=>?_⟩;by_cases u:j=(m+1)
         ·subst u;exact K.o
         ·exact g.o j oM
       ·have K:Ua (Pf ps (m+1)=false):=za (by
         unfold Pf;rw[d.o.1,d.o.2,k1,k2,Nat.add_sub_cancel,gD,aa.o];simpa using k3)
        (have ae:decide (x<=x')=true:=by simp;omega);have E:Ua (Bb ps=false):=za (Qv (by rw[f.o];exact l) K.o);go_wp2;go_quiet (((first|(go_at_call 152;exact Calls.quiet_of_same (Fx.o _))|(go_at_call 152;exact Calls.quiet_of_same (t.o _)))));go_wp2;go_ret;exact⟨by rw[E.o];rfl,eA⟩
     ·rw[k2]at r;have t:=za r;clear r;have K:Ua (Pf ps i=false):=za (by unfold Pf;rw[d.o.1,d.o.2,k2];simp);have E:Ua (Bb ps=false):=za (Qv (by rw[f.o];exact l) K.o);go_wp2;go_quiet (((first|(go_at_call 152;exact Calls.quiet_of_same (Fx.o _))|(go_at_call 152;exact Calls.quiet_of_same (t.o _)))));go_wp2;go_ret;exact⟨by rw[E.o];rfl,eA⟩
    ·rw[k1]at fx;have Fx:=za fx;have t:=za r;clear fx r;have K:Ua (Pf ps i=false):=za (by unfold Pf;rw[d.o.1,k1];simp);have E:Ua (Bb ps=false):=za (Qv (by rw[f.o];exact l) K.o);go_wp2;go_quiet (((first|(go_at_call 152;exact Calls.quiet_of_same (Fx.o _))|(go_at_call 152;exact Calls.quiet_of_same (t.o _)))));go_wp2;go_ret;exact⟨by rw[E.o];rfl,eA⟩
   ·obtain rfl:i=n:=oM;have e:Bb ps=true:=CS HW.o (fun j hj=>g.o j (by rw[f.o]at hj;exact hj));have E:=za e;clear e;go_wp2;go_ret;exact⟨by rw[E.o];rfl,hx⟩
 ·have e:Bb ps=false:=by
   unfold Bb;rw[show Ra ps.length 2 40=false by rw[L];simp[Ra];omega];rfl
  rw[e];have y:=h.le;unfold maxLen at y;have aj:n<=9223372036854775807:=oM;by_cases k:n<2
  ·have k1:(n:Int)<2:=oM;clear e L h hw y;go_in;go_wp2;go_ret;exact⟨rfl,eR _⟩
  ·have k1:(2:Int)<=n:=oM;have k2:(40:Int)<n:=oM;clear e L h hw y;go_in;go_wp2;go_ret;exact⟨rfl,eR _⟩
def Do(xs:LP)(i:Nat)(a:LP):Prop:=a.length=xs.length/\∀j,j<xs.length->a[j]?=if j<i\/xs.length<=j+i then xs[xs.length-1-j]? else xs[j]?
def Do.start xs:Do xs 0 xs:=⟨rfl,fun j a=>by rw[if_neg oM]⟩
def Do.step{xs c i}(h:Do xs i c)(hi:2*i+1<xs.length){p q}(m:c[i]?=some p)(n:c[xs.length-1-i]?=some q):Do xs (i+1) ((c.set i q).set (xs.length-1-i) p):=by
 obtain⟨g,d⟩:=h;have a:=d i oM;have b:=d (xs.length-1-i) oM;rw[if_neg oM,m]at a;rw[if_neg oM,n]at b;refine⟨by simp[g],fun j l=>?_⟩;by_cases e:j=xs.length-1-i
 ·subst e;rw[List.getElem?_set_self (by simp[g];omega),if_pos oM,show xs.length-1-(xs.length-1-i)=i by omega];exact a
 ·rw[List.getElem?_set_ne oM];by_cases f:j=i
  ·subst f;rw[List.getElem?_set_self oM,if_pos oM];exact b
  ·rw[List.getElem?_set_ne oM,d j l];by_cases k:j<i\/xs.length<=j+i
   ·rw[if_pos k,if_pos oM]
   ·rw[if_neg k,if_neg oM]
def Do.done{xs c i}(h:Do xs i c)(hi:xs.length<=2*i+1):c=xs.reverse:=by
 obtain⟨e,d⟩:=h;apply List.ext_getElem?;intro j;by_cases b:j<xs.length
 ·rw[d j b,List.getElem?_reverse b];by_cases a:j<i\/xs.length<=j+i
  ·rw[if_pos a]
  ·rw[if_neg a];congr 1;omega
 ·rw[List.getElem?_eq_none oM,List.getElem?_eq_none (by simp;omega)]
def tU(w:World)(base:Nat)(v:Value)(xs:LP)(g:Nat)(b t3:Value)(W:World):Prop:=
 ∃(i:Nat)(a:LP),b = .int .i64 i/\t3 = .int .i64 ((xs.length:Int)-1-i)/\g=xs.length+1-i/\2*i<=xs.length+1/\Do xs i a/\Ea 91 2 W base v (a.map pc)/\w.grownBy W v.ownBlock
def Ov(a:LP) i q:(a.map pc).set i [.int .i64 q.1,.int .i64 q.2]=(a.set i q).map pc:=by rw[List.map_set];rfl
def vJ w base v(xs:LP)(h:Ea 91 2 w base v (xs.map pc))(ae:xs.length<=1000000):Calls Tryz.prog 203 #[v] w fun e w'=>e=.returned (.tuple #[])/\Ea 91 2 w' base v (xs.reverse.map pc)/\w.grownBy w' v.ownBlock:=by
 obtain⟨a,c,rfl⟩:=h.form;rw[lL]at h ⊢;obtain⟨n,hn⟩:=gX xs.length;rw[hn]at h ae ⊢;have f:=za hn;have hh:=h;clear hn;have e0:((0:Nat):Int)=0:=rfl;go_in;go_wp2;go_loopg [2,3] (n+1) (tU w base (.slice a n c) xs)
 case atStart=>exact⟨0,xs,rfl,by rw[f.o];go_num,by rw[f.o];rfl,by omega,Do.start xs,h,World.grownBy.refl _ _⟩
 case round =>
  clear h hh;obtain⟨i,k,rfl,rfl,rfl,hi,K,b,z⟩:=hrel;rw[f.o]at hi ⊢;have r:=K.1;rw[f.o]at r;by_cases ad:2*i+1<n
  ·have ac:=Ea.len b;obtain⟨g,rfl,ag,ab⟩:=Ea.blk b (by rw[lL,r];omega);obtain⟨⟨R,W⟩,hp⟩:∃q,k[i]?=some q:=⟨k[i]' oM,by simp⟩;obtain⟨m,hm⟩:=gX (n-1-i);obtain⟨⟨x,y⟩,hq⟩:∃q,k[m]?=some q:=⟨k[m]' oM,by simp⟩;have l:(k.map pc)[i]?=some (pc (R,W)):=by rw[lP,hp];rfl
   have o:(k.map pc)[m]?=some (pc (x,y)):=by rw[lP,hq];rfl
   have c0:=b.cell (j:=0) l rfl;have c1:=b.cell (j:=1) l rfl;have c2:=b.cell (j:=0) o rfl;have c3:=b.cell (j:=1) o rfl;simp only[Nat.add_zero]at c0 c2;dsimp only at c0 c1 c2 c3;have f0:=b.frozen;have L:((n:Int)-1-(i:Int))=(m:Int):=oM;rw[L];have ah:m≠i:=oM;have s:=(b.pair l (.int .i64 x) (.int .i64 y));have d:=s.pair (i:=m) (p:=(x,y)) (by rw[List.getElem?_set_ne oM];exact o) (.int .i64 R) (.int .i64 W);rw[show (((k.map pc).set i [.int .i64 x,.int .i64 y]).set m [.int .i64 R,.int .i64 W])=((k.set i (x,y)).set m (R,W)).map pc by rw[<-Ov,<-Ov]]at d;have u:=K.step (by rw[f.o];exact ad) hp (by rw[f.o,hm];exact hq);rw[f.o,hm]at u;have t:=za d;have aa:=za u;have Hm:=za hm;have p1:(0:Int)<=(i:Int):=oM;have p2:(i:Int)<(n:Int):=oM;have p3:(0:Int)<=(m:Int):=oM;have p4:(m:Int)<(n:Int):=oM;have p5:(i:Int)<(m:Int):=oM;have p6:i*2+1<m*2:=oM;clear s d u l o hp hq hm K ac r b L;have af:g<wr.heap.size:=ab;go_wp2
   go_region_with fail
   all_goals go_wp2
   all_goals
    go_roundg (n+1-(i+1))
    case measure=>have:=f.o;omega
    case rel=>exact⟨i+1,(k.set i (x,y)).set m (R,W),by go_num,by rw[f.o];have:=Hm.o;exact Ak oM,by rw[f.o],by rw[f.o];omega,aa.o,t.o,Bk (Bk (Bk (Bk (sL z) _ _) _ _) _ _) _ _⟩
  ·have e:k=xs.reverse:=K.done (by rw[f.o];omega);have E:=za e;have q1:(n:Int)-1-(i:Int)<=(i:Int):=oM;clear e K r;go_wp2
   go_end0
   exact⟨rfl,by rw[<-E.o];exact b,z⟩
def oF{P T t k z w base g n cap m o c2 cs}(hz:∀w,(zeroValue T).run P w = .ok z w)(ac:z.cells.size=k)(ab:∀u∈z.cells.toList,u.oneCell'=true)(ht:P.underlying t=some (.slice T))(a:Ea T k w base (.slice (some ⟨g,0,none⟩) n cap) cs)(hm:m<n)(ho:o=m*k):∃w',(∀ty,(Builtin.clear_ #[t] ty #[.slice (some ⟨g,o,none⟩) (n-m) c2]).run P w = .ok (.tuple #[]) w')/\Ea T k w' base (.slice (some ⟨g,0,none⟩) m cap) (cs.take m)/\w.grownBy w' (some g):=by
 have hn:=a.len;subst hn ho;rcases a.2.2 with ⟨h2,_⟩|⟨g',ad,cur,hv,hg,hh,W,x,y,aa⟩
 ·cases h2
 ·cases hv;have l:(Builtin.zeroCells z.cells (cs.length-m)).toList.length=(cs.length-m)*k:=by simp[Builtin.zeroCells,ac]
  have p:∀u∈(Builtin.zeroCells z.cells (cs.length-m)).toList,u.oneCell'=true:=by
   intro u i;simp[Builtin.zeroCells]at i;obtain⟨j,q,i⟩:=i;have d:0<z.cells.size:=by
    rcases Nat.eq_zero_or_pos z.cells.size with s|s
    ·rw[s]at q;simp at q
    ·exact s
   have L:j%z.cells.size<z.cells.size:=Nat.mod_lt _ d;rw[getElem!_pos z.cells _ L]at i;exact ab u (by rw[<-i];simp)
  have K:cs.length*k<=cur.size:=by rw[y];exact Nat.mul_le_mul_right _ W
  have R:m*k+(cs.length-m)*k=cs.length*k:=by rw[<-Nat.add_mul];congr 1;omega
  have f:=run_storeCells_at P g (m*k) T (Builtin.zeroCells z.cells (cs.length-m)).toList 0 cur w hh (by rw[l,Nat.add_zero,R];exact K) p;refine⟨w.setRow g (cur.toList.take (m*k+0)++(Builtin.zeroCells z.cells (cs.length-m)).toList++cur.toList.drop (m*k+0+(Builtin.zeroCells z.cells (cs.length-m)).toList.length)).toArray,?_,⟨fun c v=>a.1 c (List.mem_of_mem_take v),?_,?_⟩,⟨rfl,rfl,rfl,by simp,fun j _ q=>setRow_other w g j _ (fun e=>q (by simp[e]))⟩⟩
  ·intro ty;obtain⟨r,hr⟩:∃r,cs.length-m=r+1:=⟨cs.length-m-1,by omega⟩;rw[hr]at f ⊢;simp[Builtin.clear_,run_underlying ht,hz,f]
  ·rw[Fm (fun c v=>a.1 c (List.mem_of_mem_take v))]
  ·have hl:(cs.take m).length=m:=by rw[List.length_take];omega
   rw[hl];refine .inr ⟨g,cap,_,rfl,hg,setRow_heap w g cur _ T _ hh,by omega,x,?_,?_⟩
   ·rw[List.size_toArray,lA,lA,l,List.length_take,List.length_drop,Array.length_toList];omega
   ·(have b:m*k<=cur.size:=by have:=Nat.mul_le_mul_right k (show m<=cs.length by omega);omega);rw[<-Kt m a.1 oM,<-aa,List.take_take,Nat.min_eq_left (Nat.mul_le_mul_right _ oM)];rw[List.append_assoc,List.take_append,List.length_take,Nat.add_zero,Array.length_toList,Nat.min_eq_left b,Nat.sub_self,List.take_zero,List.append_nil,List.take_take,Nat.min_self]
def Na{α:Type}[DecidableEq α]:List α->List α
 | []=>[]
 | [a]=>[a]
 | a::b::r=>if a=b then Na (b::r)else a::Na (b::r)
def Mt{α}[DecidableEq α]:∀ d (a b:α),Na (d++[a]++[b])=if a=b then Na (d++[a])else Na (d++[a])++[b]
 | [],a,b=>by
  by_cases h:a=b<;>simp[Na,h]
 | [x],a,b=>by
  have:=Mt [] a b;simp only[List.nil_append,List.cons_append]at this ⊢;by_cases c:x=a
  ·simp only[Na,if_pos c];simp only[Na]at this;exact this
  ·by_cases h:a=b
   ·simp[Na,c,h]
   ·simp[Na,c,h]
 | x::y::d,a,b=>by
  have:=Mt (y::d) a b;simp only[List.cons_append]at this ⊢;by_cases c:x=y
  ·simp only[Na,if_pos c];exact this
  ·simp only[Na,if_neg c,this];split<;>rfl
def sw{α}[DecidableEq α]:∀ c ,(∀(j:Nat)(a b:α),c[j]?=some a->c[j+1]?=some b->a≠b)->Na c=c
 | [],_=>rfl
 | [a],_=>rfl
 | a::b::r,h=>by
  rw[Na,if_neg (h 0 a b rfl rfl),sw (b::r) (fun j x y d e=>h (j+1) x y (by simpa using d) (by simpa using e))]
