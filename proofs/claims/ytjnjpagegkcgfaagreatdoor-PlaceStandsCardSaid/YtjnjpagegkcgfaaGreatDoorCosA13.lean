/- Part 14. -/
import Derived.Test.YtjnjpagegkcgfaaGreatDoorCosA10
import Derived.Test.YtjnjpagegkcgfaaGreatDoorCosA11
set_option maxRecDepth 1000000
set_option maxHeartbeats 16000000
set_option linter.unusedSimpArgs false
set_option linter.unusedVariables false
namespace Go.Proofs.YtjnjpagegkcgfaaGreatDoor.Cop
section
open Go.RowKit Go.Shelf
def RvL(xs:LP)(i:Nat)(a:LP):Prop:=a.length=xs.length/\∀j,j<xs.length->a[j]?=if j<i\/xs.length<=j+i then xs[xs.length-1-j]? else xs[j]?
theorem RvL.start(xs:LP):RvL xs 0 xs:=⟨rfl,fun j a=>by rw[if_neg oM]⟩
theorem RvL.step{xs c:LP}{i:Nat}(h:RvL xs i c)(o:2*i+1<xs.length){p q:Int×Int}(m:c[i]?=some p)(n:c[xs.length-1-i]?=some q) :
  RvL xs (i+1) ((c.set i q).set (xs.length-1-i) p):=by
 obtain⟨g,d⟩:=h;have a:=d i oM;have b:=d (xs.length-1-i) oM;rw[if_neg oM,m]at a;rw[if_neg oM,n]at b;refine⟨by simp[g],fun j l=>?_⟩
 by_cases e:j=xs.length-1-i
 ·subst e
  rw[List.getElem?_set_self (by simp[g];omega),if_pos oM,show xs.length-1-(xs.length-1-i)=i by omega];exact a
 ·rw[List.getElem?_set_ne oM]
  by_cases f:j=i
  ·subst f
   rw[List.getElem?_set_self oM,if_pos oM];exact b
  ·rw[List.getElem?_set_ne oM,d j l]
   by_cases k:j<i\/xs.length<=j+i
   ·rw[if_pos k,if_pos oM]
   ·rw[if_neg k,if_neg oM]
theorem RvL.done{xs c:LP}{i:Nat}(h:RvL xs i c)(f:xs.length<=2*i+1):c=xs.reverse:=by
 obtain⟨e,d⟩:=h
 apply List.ext_getElem?
 intro j
 by_cases b:j<xs.length
 ·rw[d j b,List.getElem?_reverse b]
  by_cases a:j<i\/xs.length<=j+i
  ·rw[if_pos a]
  ·rw[if_neg a];congr 1;omega
 ·rw[List.getElem?_eq_none oM,List.getElem?_eq_none (by simp;omega)]
def RvS(w:World)(base:Nat)(v:Value)(xs:LP)(g:Nat)(b t3:Value)(W:World):Prop:=
 ∃(i:Nat)(a:LP),b = .int .i64 i/\t3 = .int .i64 ((xs.length:Int)-1-i)/\g=xs.length+1-i/\2*i<=xs.length+1/\RvL xs i a/\OwnC 43 2 W base v (a.map pc)/\w.grownBy W v.ownBlock
theorem zbX(a:LP)(i:Nat)(q:Int×Int):(a.map pc).set i [.int .i64 q.1,.int .i64 q.2]=(a.set i q).map pc:=by rw[List.map_set];rfl
theorem znv(w:World)(base:Nat)(v:Value)(xs:LP)(h:OwnC 43 2 w base v (xs.map pc))(ab:xs.length<=1000000) :
  Calls Tryz.prog 198 #[v] w fun e w'=>e = .returned (.tuple #[])/\OwnC 43 2 w' base v (xs.reverse.map pc)/\w.grownBy w' v.ownBlock:=by
 obtain⟨a,c,rfl⟩:=h.form;rw[lL]at h ⊢;obtain⟨n,hn⟩:=gX xs.length;rw[hn]at h ab ⊢;have f:=hd9 hn;have hh:=h;clear hn;have e0:((0:Nat):Int)=0:=rfl;go_enter Tryz.func198,Tryz.ntmps198;go_wp2
 go_loopg [2,3] (n+1) (RvS w base (.slice a n c) xs)
 case atStart=>exact⟨0,xs,rfl,by rw[f.out];go_num,by rw[f.out];rfl,by omega,RvL.start xs,h,World.grownBy.refl _ _⟩
 case round =>
  clear h hh;obtain⟨i,k,rfl,rfl,rfl,hi,D,b,z⟩:=hrel;rw[f.out]at hi ⊢;have r:=D.1;rw[f.out]at r
  by_cases aa:2*i+1<n
  ·have W:=OwnC.len b
   obtain⟨g,rfl,ad,T⟩:=OwnC.blk b (by rw[lL,r];omega);obtain⟨⟨L,P⟩,hp⟩:∃q,k[i]?=some q:=⟨k[i]' oM,by simp⟩;obtain⟨m,Q⟩:=gX (n-1-i);obtain⟨⟨x,y⟩,hq⟩:∃q,k[m]?=some q:=⟨k[m]' oM,by simp⟩;have l:(k.map pc)[i]?=some (pc (L,P)):=by rw[lP,hp];rfl
   have o:(k.map pc)[m]?=some (pc (x,y)):=by rw[lP,hq];rfl
   have c0:=b.cell (j:=0) l rfl;have c1:=b.cell (j:=1) l rfl;have c2:=b.cell (j:=0) o rfl;have c3:=b.cell (j:=1) o rfl;simp only[Nat.add_zero]at c0 c2;dsimp only at c0 c1 c2 c3;have f0:=b.frozen;have K:((n:Int)-1-(i:Int))=(m:Int):=oM
   rw[K];have ae:m≠i:=oM
   have s:=(b.pair l (.int .i64 x) (.int .i64 y));have d:=s.pair (i:=m) (p:=(x,y)) (by rw[List.getElem?_set_ne oM];exact o) (.int .i64 L) (.int .i64 P);rw[show (((k.map pc).set i [.int .i64 x,.int .i64 y]).set m [.int .i64 L,.int .i64 P])=((k.set i (x,y)).set m (L,P)).map pc by rw[<-zbX,<-zbX]]at d;have u:=D.step (by rw[f.out];exact aa) hp (by rw[f.out,Q];exact hq);rw[f.out,Q]at u;have t:=hd9 d;have R:=hd9 u;have Hm:=hd9 Q;have p1:(0:Int)<=(i:Int):=oM
   have p2:(i:Int)<(n:Int):=oM
   have p3:(0:Int)<=(m:Int):=oM
   have p4:(m:Int)<(n:Int):=oM
   have p5:(i:Int)<(m:Int):=oM
   have p6:i*2+1<m*2:=oM
   clear s d u l o hp hq Q D W r b K;have ac:g<wr.heap.size:=T;go_wp2
   go_region_with fail
   all_goals go_wp2
   all_goals
    go_roundg (n+1-(i+1))
    case measure=>have:=f.out;omega
    case rel=>exact⟨i+1,(k.set i (x,y)).set m (L,P),by go_num,by rw[f.out];have:=Hm.out;exact zbn oM,by rw[f.out],by rw[f.out];omega,R.out,t.out,zcZ (zcZ (zcZ (zcZ (zm1 z) _ _) _ _) _ _) _ _⟩
  ·have e:k=xs.reverse:=D.done (by rw[f.out];omega)
   have E:=hd9 e;have q1:(n:Int)-1-(i:Int)<=(i:Int):=oM
   clear e D r;go_wp2
   go_end0
   exact⟨rfl,by rw[<-E.out];exact b,z⟩
theorem zie{P:Program}{T t:TypeId}{k:Nat}{z:Value}{w:World}{base g n cap m o c2:Nat}{cs:List (List Value)}
  (hz:∀w,(zeroValue T).run P w = .ok z w)(aa:z.cells.size=k)(W:∀u∈z.cells.toList,u.oneCell'=true)(ht:P.underlying t=some (.slice T))(a:OwnC T k w base (.slice (some ⟨g,0,none⟩) n cap) cs)(hm:m<n)(ho:o=m*k) :
  ∃w',(∀ty,(Builtin.clear_ #[t] ty #[.slice (some ⟨g,o,none⟩) (n-m) c2]).run P w = .ok (.tuple #[]) w')/\OwnC T k w' base (.slice (some ⟨g,0,none⟩) m cap) (cs.take m)/\w.grownBy w' (some g):=by
 have hn:=a.len;subst hn ho
 rcases a.2.2 with ⟨h2,_⟩|⟨g',ab,cur,hv,hg,hh,Q,x,y,R⟩
 ·cases h2
 ·cases hv
  have l:(Builtin.zeroCells z.cells (cs.length-m)).toList.length=(cs.length-m)*k:=by simp[Builtin.zeroCells,aa]
  have p:∀u∈(Builtin.zeroCells z.cells (cs.length-m)).toList,u.oneCell'=true:=by
   intro u i;simp[Builtin.zeroCells]at i;obtain⟨j,q,i⟩:=i
   have d:0<z.cells.size:=by
    rcases Nat.eq_zero_or_pos z.cells.size with s|s
    ·rw[s]at q;simp at q
    ·exact s
   have K:j % z.cells.size<z.cells.size:=Nat.mod_lt _ d;rw[getElem!_pos z.cells _ K]at i;exact W u (by rw[<-i];simp)
  have D:cs.length*k<=cur.size:=by rw[y];exact Nat.mul_le_mul_right _ Q
  have L:m*k+(cs.length-m)*k=cs.length*k:=by rw[<-Nat.add_mul];congr 1;omega
  have f:=run_storeCells_at P g (m*k) T (Builtin.zeroCells z.cells (cs.length-m)).toList 0 cur w hh (by rw[l,Nat.add_zero,L];exact D) p;refine⟨w.setRow g (cur.toList.take (m*k+0)++(Builtin.zeroCells z.cells (cs.length-m)).toList++cur.toList.drop (m*k+0+(Builtin.zeroCells z.cells (cs.length-m)).toList.length)).toArray,?_,⟨fun c v=>a.1 c (List.mem_of_mem_take v),?_,?_⟩,⟨rfl,rfl,rfl,by simp,fun j _ q=>setRow_other w g j _ (fun e=>q (by simp[e]))⟩⟩
  ·intro ty
   obtain⟨r,hr⟩:∃r,cs.length-m=r+1:=⟨cs.length-m-1,by omega⟩;rw[hr]at f ⊢;simp[Builtin.clear_,run_underlying ht,hz,f]
  ·rw[zar (fun c v=>a.1 c (List.mem_of_mem_take v))]
  ·have hl:(cs.take m).length=m:=by rw[List.length_take];omega
   rw[hl];refine .inr ⟨g,cap,_,rfl,hg,setRow_heap w g cur _ T _ hh,by omega,x,?_,?_⟩
   ·rw[List.size_toArray,lA,lA,l,List.length_take,List.length_drop,Array.length_toList]
    omega
   ·have b:m*k<=cur.size:=by have:=Nat.mul_le_mul_right k (show m<=cs.length by omega);omega
    rw[<-zaY m a.1 oM,<-R,List.take_take,Nat.min_eq_left (Nat.mul_le_mul_right _ oM)];rw[List.append_assoc,List.take_append,List.length_take,Nat.add_zero,Array.length_toList,Nat.min_eq_left b,Nat.sub_self,List.take_zero,List.append_nil,List.take_take,Nat.min_self]
def compactP{α:Type}[DecidableEq α]:List α->List α
 | []=>[]
 | [a]=>[a]
 | a::b::r=>if a=b then compactP (b::r)else a::compactP (b::r)
theorem zaN{α:Type}[DecidableEq α]:∀(d:List α)(a b:α),compactP (d++[a]++[b])=if a=b then compactP (d++[a])else compactP (d++[a])++[b]
 | [],a,b=>by
  by_cases h:a=b<;>simp[compactP,h]
 | [x],a,b=>by
  have:=zaN [] a b;simp only[List.nil_append,List.cons_append]at this ⊢
  by_cases c:x=a
  ·simp only[compactP,if_pos c];simp only[compactP]at this;exact this
  ·by_cases h:a=b
   ·simp[compactP,c,h]
   ·simp[compactP,c,h]
 | x::y::d,a,b=>by
  have:=zaN (y::d) a b;simp only[List.cons_append]at this ⊢
  by_cases c:x=y
  ·simp only[compactP,if_pos c];exact this
  ·simp only[compactP,if_neg c,this];split<;>rfl
theorem zbB{α:Type}[DecidableEq α]:∀(c:List α),(∀(j:Nat)(a b:α),c[j]?=some a->c[j+1]?=some b->a≠b)->compactP c=c
 | [],_=>rfl
 | [a],_=>rfl
 | a::b::r,h=>by
  rw[compactP,if_neg (h 0 a b rfl rfl),zbB (b::r) (fun j x y d e=>h (j+1) x y (by simpa using d) (by simpa using e))]
end
end Go.Proofs.YtjnjpagegkcgfaaGreatDoor.Cop
