/- Part 10: contracts of what the law calls. -/
import Derived.Test.YtodpfeaihohpjaaGreatDoorCopA08
import Derived.Test.YtodpfeaihohpjaaGreatDoorCopA07
import Derived.Laws.StructEq
import Derived.Deep.CutBlock
import Derived.Deep.DeepCutAuto
set_option maxRecDepth 1000000
set_option maxHeartbeats 16000000
set_option linter.unusedSimpArgs false
set_option linter.unusedVariables false
open Go.Value renaming int→O,slice→X
open Go.IntKind renaming i64→Y
open Option renaming some→Z
open Go renaming World→V,Value→J
namespace Go.Proofs.YtodpfeaihohpjaaGreatDoor.Cop
section
open Go.RowKit Go.Shelf
def RvL (xs:List (Int×Int)) (i:Nat) (ys:List (Int×Int)):Prop:=ys.length=xs.length∧∀j,j<xs.length→ys[j]?=if j<i∨xs.length≤j+i then xs[xs.length-1-j]? else xs[j]?
theorem RvL.start (xs:List (Int×Int)):RvL xs 0 xs:=⟨rfl,fun j hj=>by rw [if_neg (by omega)]⟩
theorem RvL.step {xs ys:List (Int×Int)} {i:Nat} (h:RvL xs i ys) (hi:2*i+1<xs.length) {p q:Int×Int} (hp:ys[i]?=Z p) (hq:ys[xs.length-1-i]?=Z q) :
  RvL xs (i+1) ((ys.set i q).set (xs.length-1-i) p):=by
 obtain⟨h1,h2⟩:=h;have hp2:=h2 i (by omega);have hq2:=h2 (xs.length-1-i) (by omega);rw [if_neg (by omega),hp]at hp2;rw [if_neg (by omega),hq]at hq2;refine⟨by simp [h1],fun j hj=>?_⟩
 by_cases hj1:j=xs.length-1-i
 ·subst hj1
  rw [List.getElem?_set_self (by simp [h1];omega),if_pos (by omega),show xs.length-1-(xs.length-1-i)=i by omega];exact hp2
 ·rw [List.getElem?_set_ne (by omega)]
  by_cases hj2:j=i
  ·subst hj2
   rw [List.getElem?_set_self (by omega),if_pos (by omega)];exact hq2
  ·rw [List.getElem?_set_ne (by omega),h2 j hj]
   by_cases hc:j<i∨xs.length≤j+i
   ·rw [if_pos hc,if_pos (by omega)]
   ·rw [if_neg hc,if_neg (by omega)]
theorem RvL.done {xs ys:List (Int×Int)} {i:Nat} (h:RvL xs i ys) (hi:xs.length≤2*i+1):ys=xs.reverse:=by
 obtain⟨h1,h2⟩:=h
 apply List.ext_getElem?
 intro j
 by_cases hj:j<xs.length
 ·rw [h2 j hj,List.getElem?_reverse hj]
  by_cases hc:j<i∨xs.length≤j+i
  ·rw [if_pos hc]
  ·rw [if_neg hc];congr 1;omega
 ·rw [List.getElem?_eq_none (by omega),List.getElem?_eq_none (by simp;omega)]
def RvS (w:V) (base:Nat) (v:J) (xs:List (Int×Int)) (g:Nat) (t2 t3:J) (W:V):Prop:=
 ∃(i:Nat) (ys:List (Int×Int)),t2=O Y i∧t3=O Y ((xs.length:Int)-1-i)∧g=xs.length+1-i∧2*i≤xs.length+1∧RvL xs i ys∧OwnC 33 2 W base v (ys.map pc)∧w.grownBy W v.ownBlock
theorem zb0 (ys:List (Int×Int)) (i:Nat) (q:Int×Int):(ys.map pc).set i [O Y q.1,O Y q.2]=(ys.set i q).map pc:=by rw [List.map_set];rfl
theorem zmv (w:V) (base:Nat) (v:J) (xs:List (Int×Int)) (h:OwnC 33 2 w base v (xs.map pc)) (hn9:xs.length≤1000000) :
  Calls Tryz.prog 157 #[v] w fun e w'=>e = .returned (.tuple #[])∧OwnC 33 2 w' base v (xs.reverse.map pc)∧w.grownBy w' v.ownBlock:=by
 obtain⟨a,c,rfl⟩:=h.form;rw [lL]at h ⊢;obtain⟨n,hn⟩:=gX xs.length;rw [hn]at h hn9 ⊢;have Hn:=hd9 hn;have hh:=h;clear hn;have e0:((0:Nat):Int)=0:=rfl;go_enter Tryz.func157,Tryz.ntmps157;go_wp2
 go_loopg [2,3] (n+1) (RvS w base (X a n c) xs)
 case atStart=>exact⟨0,xs,rfl,by rw [Hn.out];go_num,by rw [Hn.out];rfl,by omega,RvL.start xs,h,World.grownBy.refl _ _⟩
 case round =>
  clear h hh;obtain⟨i,ys,rfl,rfl,rfl,hi,hl,hown,hgb⟩:=hrel;rw [Hn.out]at hi ⊢;have hyl:=hl.1;rw [Hn.out]at hyl
  by_cases hlt:2*i+1<n
  ·have hl2:=OwnC.len hown
   obtain⟨g,rfl,hg1,hg2⟩:=OwnC.blk hown (by rw [lL,hyl];omega);obtain⟨⟨px,pz⟩,hp⟩:∃q,ys[i]?=Z q:=⟨ys[i]'(by omega),by simp⟩;obtain⟨m,hm⟩:=gX (n-1-i);obtain⟨⟨qx,qz⟩,hq⟩:∃q,ys[m]?=Z q:=⟨ys[m]'(by omega),by simp⟩;have hpm:(ys.map pc)[i]?=Z (pc (px,pz)):=by rw [lP,hp];rfl
   have hqm:(ys.map pc)[m]?=Z (pc (qx,qz)):=by rw [lP,hq];rfl
   have c0:=hown.cell (j:=0) hpm rfl;have c1:=hown.cell (j:=1) hpm rfl;have c2:=hown.cell (j:=0) hqm rfl;have c3:=hown.cell (j:=1) hqm rfl;simp only [Nat.add_zero]at c0 c2;dsimp only at c0 c1 c2 c3;have f0:=hown.frozen;have hme:((n:Int)-1-(i:Int))=(m:Int):=by omega
   rw [hme];have hne:m≠i:=by omega
   have hset:=(hown.pair hpm (O Y qx) (O Y qz));have hset2:=hset.pair (i:=m) (p:=(qx,qz)) (by rw [List.getElem?_set_ne (by omega)];exact hqm) (O Y px) (O Y pz);rw [show (((ys.map pc).set i [O Y qx,O Y qz]).set m [O Y px,O Y pz])=((ys.set i (qx,qz)).set m (px,pz)).map pc by rw [←zb0,←zb0]]at hset2;have hst:=hl.step (by rw [Hn.out];exact hlt) hp (by rw [Hn.out,hm];exact hq);rw [Hn.out,hm]at hst;have Hset2:=hd9 hset2;have Hst:=hd9 hst;have Hm:=hd9 hm;have p1:(0:Int)≤(i:Int):=by omega
   have p2:(i:Int)<(n:Int):=by omega
   have p3:(0:Int)≤(m:Int):=by omega
   have p4:(m:Int)<(n:Int):=by omega
   have p5:(i:Int)<(m:Int):=by omega
   have p6:i*2+1<m*2:=by omega
   clear hset hset2 hst hpm hqm hp hq hm hl hl2 hyl hown hme;have hg2':g<wr.heap.size:=hg2;go_wp2
   go_region_with fail
   all_goals go_wp2
   all_goals
    go_roundg (n+1-(i+1))
    case measure=>have:=Hn.out;omega
    case rel=>exact⟨i+1,(ys.set i (qx,qz)).set m (px,pz),by go_num,by rw [Hn.out];have:=Hm.out;exact zby (by omega),by rw [Hn.out],by rw [Hn.out];omega,Hst.out,Hset2.out,zcv (zcv (zcv (zcv (zma hgb) _ _) _ _) _ _) _ _⟩
  ·have e:ys=xs.reverse:=hl.done (by rw [Hn.out];omega)
   have E:=hd9 e;have q1:(n:Int)-1-(i:Int)≤(i:Int):=by omega
   clear e hl hyl;go_wp2
   go_end0
   exact⟨rfl,by rw [←E.out];exact hown,hgb⟩
theorem zh7 {P:Program} {T t:TypeId} {k:Nat} {z:J} {w:V} {base g n cap m o c2:Nat} {cs:List (List J)}
  (hz:∀w,(zeroValue T).run P w = .ok z w) (hzs:z.cells.size=k) (hzo:∀u∈z.cells.toList,u.oneCell'=true) (ht:P.underlying t=Z (.slice T)) (hown:OwnC T k w base (X (Z ⟨g,0,none⟩) n cap) cs) (hm:m<n) (ho:o=m*k) :
  ∃w',(∀ty,(Builtin.clear_ #[t] ty #[X (Z ⟨g,o,none⟩) (n-m) c2]).run P w = .ok (.tuple #[]) w')∧OwnC T k w' base (X (Z ⟨g,0,none⟩) m cap) (cs.take m)∧w.grownBy w' (Z g):=by
 have hn:=hown.len;subst hn ho
 rcases hown.2.2 with ⟨h2,_⟩|⟨g',cap',cur,hv,hg,hh,hnc,hcm,hcs,htk⟩
 ·cases h2
 ·cases hv
  have hzl:(Builtin.zeroCells z.cells (cs.length-m)).toList.length=(cs.length-m)*k:=by simp [Builtin.zeroCells,hzs]
  have hzo2:∀u∈(Builtin.zeroCells z.cells (cs.length-m)).toList,u.oneCell'=true:=by
   intro u hu;simp [Builtin.zeroCells]at hu;obtain⟨j,hj,hu⟩:=hu
   have hpos:0<z.cells.size:=by
    rcases Nat.eq_zero_or_pos z.cells.size with h9|h9
    ·rw [h9]at hj;simp at hj
    ·exact h9
   have hlt:j % z.cells.size<z.cells.size:=Nat.mod_lt _ hpos;rw [getElem!_pos z.cells _ hlt]at hu;exact hzo u (by rw [←hu];simp)
  have hle:cs.length*k≤cur.size:=by rw [hcs];exact Nat.mul_le_mul_right _ hnc
  have hmk:m*k+(cs.length-m)*k=cs.length*k:=by rw [←Nat.add_mul];congr 1;omega
  have hst:=run_storeCells_at P g (m*k) T (Builtin.zeroCells z.cells (cs.length-m)).toList 0 cur w hh (by rw [hzl,Nat.add_zero,hmk];exact hle) hzo2;refine⟨w.setRow g (cur.toList.take (m*k+0)++(Builtin.zeroCells z.cells (cs.length-m)).toList++cur.toList.drop (m*k+0+(Builtin.zeroCells z.cells (cs.length-m)).toList.length)).toArray,?_,⟨fun c hc=>hown.1 c (List.mem_of_mem_take hc),?_,?_⟩,⟨rfl,rfl,rfl,by simp,fun j _ hj=>setRow_other w g j _ (fun e=>hj (by simp [e]))⟩⟩
  ·intro ty
   obtain⟨r,hr⟩:∃r,cs.length-m=r+1:=⟨cs.length-m-1,by omega⟩;rw [hr]at hst ⊢;simp [Builtin.clear_,run_underlying ht,hz,hst]
  ·rw [zaq (fun c hc=>hown.1 c (List.mem_of_mem_take hc))]
  ·have hl:(cs.take m).length=m:=by rw [List.length_take];omega
   rw [hl];refine .inr ⟨g,cap,_,rfl,hg,setRow_heap w g cur _ T _ hh,by omega,hcm,?_,?_⟩
   ·rw [List.size_toArray,lA,lA,hzl,List.length_take,List.length_drop,Array.length_toList]
    omega
   ·have hmk2:m*k≤cur.size:=by have:=Nat.mul_le_mul_right k (show m≤cs.length by omega);omega
    rw [←za8 m hown.1 (by omega),←htk,List.take_take,Nat.min_eq_left (Nat.mul_le_mul_right _ (by omega))];rw [List.append_assoc,List.take_append,List.length_take,Nat.add_zero,Array.length_toList,Nat.min_eq_left hmk2,Nat.sub_self,List.take_zero,List.append_nil,List.take_take,Nat.min_self]
def compactP {α:Type} [DecidableEq α]:List α→List α
 | []=>[]
 | [a]=>[a]
 | a::b::r=>if a=b then compactP (b::r)else a::compactP (b::r)
theorem zaR {α:Type} [DecidableEq α]:∀(xs:List α) (a b:α),compactP (xs++[a]++[b])=if a=b then compactP (xs++[a])else compactP (xs++[a])++[b]
 | [],a,b=>by
  by_cases h:a=b<;>simp [compactP,h]
 | [x],a,b=>by
  have:=zaR [] a b;simp only [List.nil_append,List.cons_append]at this ⊢
  by_cases hx:x=a
  ·simp only [compactP,if_pos hx];simp only [compactP]at this;exact this
  ·by_cases h:a=b
   ·simp [compactP,hx,h]
   ·simp [compactP,hx,h]
 | x::y::xs,a,b=>by
  have:=zaR (y::xs) a b;simp only [List.cons_append]at this ⊢
  by_cases hx:x=y
  ·simp only [compactP,if_pos hx];exact this
  ·simp only [compactP,if_neg hx,this];split<;>rfl
theorem zbB {α:Type} [DecidableEq α]:∀(xs:List α),(∀(j:Nat) (a b:α),xs[j]?=Z a→xs[j+1]?=Z b→a≠b)→compactP xs=xs
 | [],_=>rfl
 | [a],_=>rfl
 | a::b::r,h=>by
  rw [compactP,if_neg (h 0 a b rfl rfl),zbB (b::r) (fun j x y hx hy=>h (j+1) x y (by simpa using hx) (by simpa using hy))]
def RetK (base:Nat) (w:V) (v:J) (qs:List (Int×Int)) (e:Ending) (w':V):Prop:=∃v',e = .returned v'∧OwnC 33 2 w' base v' (qs.map pc)∧w.grownBy w' v.ownBlock∧(v'.ownBlock=v.ownBlock)
def CkS (w:V) (base:Nat) (v:J) (ps:List (Int×Int)) (g:Nat) (t3:J) (W:V):Prop:=
 ∃m:Nat,m+1≤ps.length∧t3=O Y ((m+1:Nat):Int)∧g=ps.length-(m+1)∧(∀(j:Nat) (a b:Int×Int),j+1<m+1→ps[j]?=Z a→ps[j+1]?=Z b→a≠b)∧OwnC 33 2 W base v (ps.map pc)∧w.grownBy W v.ownBlock
def CiL (ps:List (Int×Int)) (k m2 c:Nat) (ys:List (Int×Int)):Prop:=
 ys.length=ps.length∧1≤c∧c≤k+m2∧k+m2+1≤ps.length∧ys.take c=compactP (ps.take (k+m2+1))∧∀j,k+m2≤j→ys[j]?=ps[j]?
def CiS (w:V) (base:Nat) (v:J) (ps:List (Int×Int)) (k:Nat) (g:Nat) (t3 t5:J) (W:V):Prop:=
 ∃(m2 c:Nat) (ys:List (Int×Int)),t5=O Y ((m2+1:Nat):Int)∧t3=O Y (c:Int)∧g=ps.length-(m2+1)∧CiL ps k m2 c ys∧OwnC 33 2 W base v (ys.map pc)∧w.grownBy W v.ownBlock
theorem zfi {α:Type} {xs:List α} {m:Nat} {a b:α} (ha:xs[m]?=Z a) (hb:xs[m+1]?=Z b):xs.take (m+2)=xs.take m++[a]++[b]:=by
 rw [zab _ _ _ hb,zab _ _ _ ha]
theorem CiL.start {ps:List (Int×Int)} {m:Nat} {a:Int×Int} (h:∀(j:Nat) (a b:Int×Int),j+1<m+1→ps[j]?=Z a→ps[j+1]?=Z b→a≠b) (ha:ps[m]?=Z a) (hb:ps[m+1]?=Z a):CiL ps (m+1) 0 (m+1) ps:=by
 have hl:=(lS.1 hb).1;refine⟨rfl,by omega,by omega,by omega,?_,fun _ _=>rfl⟩;rw [show m+1+0+1=m+2 by omega,zfi ha hb,zaR,if_pos rfl,←zab _ _ _ ha,zbB];intro j x y hx hy;rw [List.getElem?_take]at hx hy
 split at hy
 ·rename_i h2
  rw [if_pos (by omega)]at hx;exact h j x y h2 hx hy
 ·cases hy
theorem CiL.same {ps ys:List (Int×Int)} {k m2 c:Nat} {p:Int×Int} (h:CiL ps k m2 c ys) (hp:ps[k+m2]?=Z p) (hq:ps[k+m2+1]?=Z p):CiL ps k (m2+1) c ys:=by
 obtain⟨h1,h2,h3,h4,h5,h6⟩:=h;have hl:=(lS.1 hq).1;refine⟨h1,h2,by omega,by omega,?_,fun j hj=>h6 j (by omega)⟩;rw [h5,show k+(m2+1)+1=k+m2+2 by omega,zfi hp hq,zaR,if_pos rfl,←zab _ _ _ hp]
theorem CiL.other {ps ys:List (Int×Int)} {k m2 c:Nat} {p q:Int×Int} (h:CiL ps k m2 c ys) (hp:ps[k+m2]?=Z p) (hq:ps[k+m2+1]?=Z q) (hne:p≠q):CiL ps k (m2+1) (c+1) (ys.set c q):=by
 obtain⟨h1,h2,h3,h4,h5,h6⟩:=h;have hl:=(lS.1 hq).1;refine⟨by rw [List.length_set];exact h1,by omega,by omega,by omega,?_,fun j hj=>by rw [List.getElem?_set_ne (by omega)];exact h6 j (by omega)⟩;rw [show k+(m2+1)+1=k+m2+2 by omega,zfi hp hq,zaR,if_neg hne,←zab _ _ _ hp,←h5,zab _ _ _ (show (ys.set c q)[c]?=Z q by rw [List.getElem?_set_self (by omega)]),List.take_set_of_le (nE _)]
theorem CiL.get {ps ys:List (Int×Int)} {k m2 c:Nat} (h:CiL ps k m2 c ys) {j:Nat} (hj:k+m2≤j) {q:Int×Int} (hq:ps[j]?=Z q):(ys.map pc)[j]?=Z (pc q):=by
 rw [lP,h.2.2.2.2.2 j hj,hq];rfl
theorem zdx (w:V) (base:Nat) (v:J) (ps:List (Int×Int)) (h:OwnC 33 2 w base v (ps.map pc)) (hn9:ps.length≤1000000) :
  Calls Tryz.prog 101 #[v] w (RetK base w v (compactP ps)):=by
 obtain⟨a,n,c,rfl⟩:=h.form3;have hl:=h.len;rw [lL]at hl;obtain⟨R,hR⟩:=gX (RetK base w (X a n c) (compactP ps));rw [hR];have HR:=hd9 hR;have Hn:Hid (ps.length=n):=hd9 hl.symm;clear hR
 by_cases h2:n<2
 ·have e:compactP ps=ps:=by
   apply zbB
   intro j x y hx hy;have:=(lS.1 hy).1;omega
  have E:=hd9 e;have h2':(n:Int)<2:=by omega
  clear hl e h2;go_enter Tryz.func101,Tryz.ntmps101;go_wp2;rw [←HR.out,E.out];exact⟨_,rfl,h,World.grownBy.refl _ _,rfl⟩
 ·obtain⟨g,rfl,hg1,hg2⟩:=h.blk (by rw [lL];omega)
  have h2':¬(n:Int)<2:=by omega
  have hcap:n≤c:=by
   rcases h.2.2 with ⟨h9,_⟩|⟨g',cap,cur,hv,_,_,hnc,_⟩
   ·cases h9
   ·cases hv;rw [lL]at hnc;omega
  have hcap2:c≤9223372036854775807:=by
   rcases h.2.2 with ⟨h9,_⟩|⟨g',cap,cur,hv,_,_,hnc,hcm,_⟩
   ·cases h9
   ·cases hv;unfold maxLen at hcm;omega
  rw [←hl]at hn9;clear hl;go_enter Tryz.func101,Tryz.ntmps101;go_wp2
  go_loopg [3] (n-1) (CkS w base (X (Z ⟨g,0,none⟩) n c) ps)
  case atStart=>exact⟨0,by rw [Hn.out];omega,rfl,by rw [Hn.out],fun j a b hj=>by omega,h,World.grownBy.refl _ _⟩
  case round =>
   clear h;obtain⟨m,hm,rfl,rfl,hall,hown,hgb⟩:=hrel;rw [Hn.out]at hm;have Hall:=hd9 hall;have Hown:=hd9 hown;have Hgb:=hd9 hgb
   by_cases hlt:m+1<n
   ·obtain⟨⟨x,z⟩,hq⟩:∃q,ps[m+1]?=Z q:=⟨ps[m+1]'(by rw [Hn.out];omega),by simp⟩
    obtain⟨⟨x',z'⟩,hq'⟩:∃q,ps[m]?=Z q:=⟨ps[m]'(by rw [Hn.out];omega),by simp⟩;have d0:=hown.cell (i:=m+1) (j:=0) (d:=pc (x,z)) (by rw [lP,hq];rfl) rfl;have d1:=hown.cell (i:=m+1) (j:=1) (d:=pc (x,z)) (by rw [lP,hq];rfl) rfl;have d2:=hown.cell (i:=m) (j:=0) (d:=pc (x',z')) (by rw [lP,hq'];rfl) rfl;have d3:=hown.cell (i:=m) (j:=1) (d:=pc (x',z')) (by rw [lP,hq'];rfl) rfl;simp only [Nat.add_zero]at d0 d2;dsimp only at d0 d1 d2 d3;have u1:((m+1:Nat):Int)-1=(m:Int):=by omega
    have p1:(0:Int)≤(m:Int):=by omega
    have p2:(m:Int)<(n:Int):=by omega
    have p3:((m+1:Nat):Int)<(n:Int):=by omega
    have Hq:=hd9 hq;have Hq':=hd9 hq';clear hall hown hgb hq hq'
    by_cases e1:x=x'
    ·have f1:(x==x')=true:=by simpa using e1
     by_cases e2:z=z'
     ·have f2:(z==z')=true:=by simpa using e2
      have hst:CiL ps (m+1) 0 (m+1) ps:=by subst e1 e2;exact CiL.start Hall.out Hq'.out Hq.out
      have Hst:=hd9 hst;have p4:((m+1:Nat):Int)≤(n:Int):=by omega
      have p5:(n:Int)≤(c:Int):=by omega
      have p6:((m+1:Nat):Int)<(c:Int):=by omega
      clear e1 e2 hst;go_wp2
      go_quiet (fail)
      clear d0 d1 d2 d3;go_wp2;obtain⟨L,hL⟩:=gX (n-(m+1));obtain⟨kk,hkk⟩:=gX ((m+1)*2);rw [hL,hkk];have HkL:Hid (n-(m+1)=L∧(m+1)*2=kk):=hd9 ⟨hL,hkk⟩;have hLn:L+m+1=n:=by omega
      clear hL hkk;have hgb9:=zbZ Hgb.out nq
      go_loopg [3,5] (n-1) (CiS w base (X (Z ⟨g,0,none⟩) n c) ps (m+1))
      case atStart=>exact⟨0,m+1,ps,rfl,rfl,by rw [Hn.out],Hst.out,Hown.out,hgb9⟩
      case round =>
       clear hgb9;obtain⟨m2,cc,ys,rfl,rfl,rfl,hL,hown,hgb⟩:=hrel;have hLl:=hL.2.2.2.1;rw [Hn.out]at hLl;have hcl:=hL.2.2.1
       by_cases hlt2:m2+1<L
       ·obtain⟨⟨qx,qz⟩,hq2⟩:∃q,ps[m+1+m2+1]?=Z q:=⟨ps[m+1+m2+1]'(by rw [Hn.out];omega),by simp⟩
        obtain⟨⟨px,pz⟩,hp2⟩:∃q,ps[m+1+m2]?=Z q:=⟨ps[m+1+m2]'(by rw [Hn.out];omega),by simp⟩;have gq:=hL.get (by omega) hq2;have gp:=hL.get (by omega) hp2;have d0:=hown.cell (j:=0) gq rfl;have d1:=hown.cell (j:=1) gq rfl;have d2:=hown.cell (j:=0) gp rfl;have d3:=hown.cell (j:=1) gp rfl;have a0:(m+1+m2+1)*2+0=kk+(m2+1)*2:=by have:=HkL.out.2;omega
        have a1:(m+1+m2+1)*2+1=kk+(m2+1)*2+1:=by omega
        have a2:(m+1+m2)*2+0=kk+m2*2:=by have:=HkL.out.2;omega
        have a3:(m+1+m2)*2+1=kk+m2*2+1:=by omega
        rw [a0]at d0;rw [a1]at d1;rw [a2]at d2;rw [a3]at d3;dsimp only at d0 d1 d2 d3;have hff:=hown.frozen;have Hown2:=hd9 hown;have Hgb2:=hd9 hgb;have HL2:=hd9 hL;have Hq2:=hd9 hq2;have Hp2:=hd9 hp2;have u1:((m2+1:Nat):Int)-1=(m2:Int):=by omega
        have p1':(0:Int)≤(m2:Int):=by omega
        have p2':(m2:Int)<(L:Int):=by omega
        have p3':((m2+1:Nat):Int)<(L:Int):=by omega
        have hcc:cc<n:=by omega
        have hccI:(cc:Int)<(n:Int):=by omega
        have hcc0:(0:Int)≤(cc:Int):=by omega
        obtain⟨⟨rx,rz⟩,hr⟩:∃q,ys[cc]?=Z q:=⟨ys[cc]'(by rw [hL.1,Hn.out];exact hcc),by simp⟩;have gr:(ys.map pc)[cc]?=Z (pc (rx,rz)):=by rw [lP,hr];rfl
        have d4:=hown.cell (j:=0) gr rfl;have d5:=hown.cell (j:=1) gr rfl;simp only [Nat.add_zero]at d4;dsimp only at d4 d5;have Hgr:=hd9 gr;clear hown hgb hL hq2 hp2 gq gp a0 a1 a2 a3 gr hr
        by_cases e1:qx=px
        ·have g1:(qx != px)=false:=by simpa using e1
         have g1':(qx==px)=true:=by simpa using e1
         by_cases e2:qz=pz
         ·have g2:(qz != pz)=false:=by simpa using e2
          have g2':(qz==pz)=true:=by simpa using e2
          have hst2:CiL ps (m+1) (m2+1) cc ys:=by subst e1 e2;exact HL2.out.same Hp2.out Hq2.out
          have Hst2:=hd9 hst2;clear e1 e2 hst2;go_wp2
          go_quiet (fail)
          go_wp2
          go_roundg (n-(m2+1+1))
          case measure=>have:=Hn.out;omega
          case rel=>exact⟨m2+1,cc,ys,by go_num,rfl,by rw [Hn.out],Hst2.out,Hown2.out,zbZ Hgb2.out _⟩
         ·have g2:(qz != pz)=true:=by simpa using e2
          have g2':(qz==pz)=false:=by simpa using e2
          have hst2:CiL ps (m+1) (m2+1) (cc+1) (ys.set cc (qx,qz)):=HL2.out.other Hp2.out Hq2.out (by simp;omega);have Hst2:=hd9 hst2;clear e1 e2 hst2;go_wp2
          go_quiet (fail)
          go_wp2
          go_roundg (n-(m2+1+1))
          case measure=>have:=Hn.out;omega
          case rel =>
           refine⟨m2+1,cc+1,ys.set cc (qx,qz),by go_num,by go_num,by rw [Hn.out],Hst2.out,?_,zcv (zcv (zbZ Hgb2.out _) _ _) _ _⟩;rw [←zb0];exact OwnC.pair (Hown2.out.ext ((eR _).drewN _)) Hgr.out _ _
        ·have g1:(qx != px)=true:=by simpa using e1
         have g1':(qx==px)=false:=by simpa using e1
         have hst2:CiL ps (m+1) (m2+1) (cc+1) (ys.set cc (qx,qz)):=HL2.out.other Hp2.out Hq2.out (by simp;omega);have Hst2:=hd9 hst2;clear e1 hst2;go_wp2
         go_quiet (fail)
         go_wp2
         go_roundg (n-(m2+1+1))
         case measure=>have:=Hn.out;omega
         case rel =>
          refine⟨m2+1,cc+1,ys.set cc (qx,qz),by go_num,by go_num,by rw [Hn.out],Hst2.out,?_,zcv (zcv (zbZ Hgb2.out _) _ _) _ _⟩;rw [←zb0];exact OwnC.pair (Hown2.out.ext ((eR _).drewN _)) Hgr.out _ _
       ·have hm2:m+1+m2+1=n:=by omega
        have hcf:(ys.take cc)=compactP ps:=by rw [hL.2.2.2.2.1,lT (by rw [Hn.out];omega)]
        have hccn:cc<n:=by omega
        obtain⟨wc,hclr,hoc,hgc⟩:=zh7 (P:=Tryz.prog) (t:=99) (z:=.agg #[O Y 0,O Y 0]) (w:=wr) (o:=cc*2) (c2:=c-cc) (fun w=>Tryz.zeroValue33 w) rfl (by simp [Value.cells];rfl) Tryz.underlying99 hown hccn rfl;have c1:(0:Int)≤(cc:Int):=by omega
        have c2:(cc:Int)≤(n:Int):=by omega
        have c3:(n:Int)≤(c:Int):=by omega
        have c4:(cc:Int)<(c:Int):=by omega
        have c5:cc<c:=by omega
        go_wp2;rw [←HR.out];refine⟨_,rfl,?_,hgb.trans hgc,rfl⟩;rw [←List.map_take,hcf]at hoc;exact hoc
     ·have f2:(z==z')=false:=by simpa using e2
      have hne:((x',z'):Int×Int)≠(x,z):=by simp;omega
      have Hne:=hd9 hne;clear e1 e2 hne;go_wp2
      go_quiet (fail)
      go_wp2
      go_roundg (n-(m+1+1))
      case measure=>have:=Hn.out;omega
      case rel =>
       refine⟨m+1,by have:=Hn.out;omega,by go_num,by rw [Hn.out],fun j a b hj ha hb=>?_,Hown.out,zbZ Hgb.out _⟩
       by_cases hjm:j=m
       ·subst hjm;rw [Hq'.out]at ha;rw [Hq.out]at hb;cases ha;cases hb;exact Hne.out
       ·exact Hall.out j a b (by omega) ha hb
    ·have f1:(x==x')=false:=by simpa using e1
     have hne:((x',z'):Int×Int)≠(x,z):=by simp;omega
     have Hne:=hd9 hne;clear e1 hne;go_wp2
     go_quiet (fail)
     go_wp2
     go_roundg (n-(m+1+1))
     case measure=>have:=Hn.out;omega
     case rel =>
      refine⟨m+1,by have:=Hn.out;omega,by go_num,by rw [Hn.out],fun j a b hj ha hb=>?_,Hown.out,zbZ Hgb.out _⟩
      by_cases hjm:j=m
      ·subst hjm;rw [Hq'.out]at ha;rw [Hq.out]at hb;cases ha;cases hb;exact Hne.out
      ·exact Hall.out j a b (by omega) ha hb
   ·have e:compactP ps=ps:=zbB ps (fun j a b ha hb=>Hall.out j a b (by have:=(lS.1 hb).1;rw [Hn.out]at this;omega) ha hb)
    have E:=hd9 e;have p3:¬((m+1:Nat):Int)<(n:Int):=by omega
    clear e hall hown hgb;go_wp2;rw [←HR.out,E.out];exact⟨_,rfl,Hown.out,Hgb.out,rfl⟩
def oddB (r:Int):Bool:=!(decide (97≤r)&&decide (r≤122))&&!(decide (48≤r)&&decide (r≤57))
theorem zmj (w:V) (r:Int):Calls Tryz.prog 164 #[O .i32 r] w fun e w'=>e = .returned (.bool (oddB r))∧w'=w:=by
 unfold oddB
 by_cases h1:97≤r
 ·have f1:decide (97≤r)=true:=by simpa using h1
  by_cases h2:r≤122
  ·have f2:decide (r≤122)=true:=by simpa using h2
   go_enter Tryz.func164,Tryz.ntmps164;go_wp2;go_ret;exact⟨by simp [f1,f2],rfl⟩
  ·have f2:decide (r≤122)=false:=by simpa using h2
   have f3:decide (48≤r)=true:=by simp;omega
   have f4:decide (r≤57)=false:=by simp;omega
   go_enter Tryz.func164,Tryz.ntmps164;go_wp2;go_ret;exact⟨by simp [f1,f2,f3,f4],rfl⟩
 ·have f1:decide (97≤r)=false:=by simpa using h1
  by_cases h3:48≤r
  ·have f3:decide (48≤r)=true:=by simpa using h3
   go_enter Tryz.func164,Tryz.ntmps164;go_wp2;go_ret;exact⟨by simp [f1,f3],rfl⟩
  ·have f3:decide (48≤r)=false:=by simpa using h3
   go_enter Tryz.func164,Tryz.ntmps164;go_wp2;go_ret;exact⟨by simp [f1,f3],rfl⟩
def grainB (gx gz:Int):Bool:=(!(gx==0) || !(gz==0))&&wthn gx (-100) 100&&wthn gz (-100) 100
def stoneB (nb:Bool) (ps:List (Int×Int)) (d de gx gz:Int):Bool:=nb&&placedB ps&&wthn d 1 2000&&wthn de 1 10000&&grainB gx gz
def ChS (w:V) (s:ByteArray) (a:Option Addr) (n c:Nat) (d de gx gz:Int) (t4:J) (W:V):Prop:=
 t4 = .bool (grainB gx gz)∧Ext w W∧W.heap[w.heap.size]?=Z (.cells #[.string s,X a n c,O Y d,O Y de,O Y gx,O Y gz] 35 (0,0))
theorem zhG (w:V) (s:ByteArray) (v:J) (ps:List (Int×Int)) (d de gx gz:Int) (nb:Bool) (h:IsPts w v ps)
  (hnm:∀W,Calls Tryz.prog 135 #[.string s] W fun e w'=>e = .returned (.bool nb)∧Ext W w') :
  Calls Tryz.prog 98 #[.agg #[.string s,v,O Y d,O Y de,O Y gx,O Y gz]] w fun e w'=>e = .returned (O Y (if stoneB nb ps d de gx gz then 0 else 2))∧Ext w w':=by
 obtain⟨a,c,rfl⟩:=h.form;obtain⟨n,hn⟩:=gX ps.length;rw [hn]at h ⊢;have Hnm:=hd9 hnm;have hpl:=fun W (hW:Ext w W)=>zh2 W (X a n c) ps (h.ext' hW)
 obtain⟨pb,hpb⟩:=gX (placedB ps);rw [hpb]at hpl;obtain⟨R,hR⟩:∃R:Int,(if stoneB nb ps d de gx gz then (0:Int)else 2)=R:=⟨_,rfl⟩;rw [hR];unfold stoneB at hR;rw [hpb]at hR;have Hpl:=hd9 hpl;have HR:=hd9 hR;clear hnm hpl hR hpb hn h;go_enter Tryz.func98,Tryz.ntmps98
 go_upto_region 2 with fail
 go_cut [4] (ChS w s a n c d de gx gz)
 case first =>
  by_cases hz:gx=0∧gz=0
  ·obtain⟨rfl,rfl⟩:=hz
   go_wp2;go_meet;exact⟨rfl,eA,by rw [zae,if_neg (by simp)];exact qhA _ _ _ rfl⟩
  ·have hzz:(gx≠0)∨(gx=0∧gz≠0):=by
    by_cases e:gx=0
    ·exact .inr ⟨e,fun e2=>hz ⟨e,e2⟩⟩
    ·exact .inl e
   clear hz
   rcases hzz with e1|⟨e1,e2⟩
   ·have f1:(gx==0)=false:=(by simpa using e1);clear e1
    have hG:grainB gx gz=(wthn gx (-100) 100&&wthn gz (-100) 100):=by unfold grainB;simp [*]
    have HG:=hd9 hG;clear hG
    by_cases k1:wthn gx (-100) 100=true
    ·by_cases k2:wthn gz (-100) 100=true
     ·have HG2:Hid (grainB gx gz=true):=hd9 (by rw [HG.out,k1,k2];rfl)
      go_wp2_with(first|((go_at_call 134;(with_reducible refine(zah _ gx (-100) 100).mono ?_);rintro e w1 ⟨rfl,hx1⟩;obtain⟨hc1,hf1⟩:=hx1.cells;(try(refine Ext.useLt hx1 (n:=w.heap.size) ?_ (fun _=>?_);focus(first|(go_simp;done)|omega)));(try(refine Ext.useLt hx1 (n:=w.heap.size+1) ?_ (fun _=>?_);focus(first|(go_simp;done)|omega)))))|((go_at_call 134;(with_reducible refine(zah _ gz (-100) 100).mono ?_);rintro e w2 ⟨rfl,hx2⟩;obtain⟨hc2,hf2⟩:=hx2.cells;(try(refine Ext.useLt hx2 (n:=w.heap.size) ?_ (fun _=>?_);focus(first|(go_simp;done)|omega)));(try(refine Ext.useLt hx2 (n:=w.heap.size+1) ?_ (fun _=>?_);focus(first|(go_simp;done)|omega))))))
      go_meet;exact⟨by rw [HG2.out],eA,by rw [Ext.block (a:=(w.alloc (.cells #[.string s,X a n c,O Y d,O Y de,O Y gx,O Y gz] 35))) eA (by simp)];exact qhA _ _ _ rfl⟩
     ·have k2':wthn gz (-100) 100=false:=by simpa using k2
      have HG2:Hid (grainB gx gz=false):=hd9 (by rw [HG.out,k1,k2'];rfl);clear k2
      go_wp2_with(first|((go_at_call 134;(with_reducible refine(zah _ gx (-100) 100).mono ?_);rintro e w1 ⟨rfl,hx1⟩;obtain⟨hc1,hf1⟩:=hx1.cells;(try(refine Ext.useLt hx1 (n:=w.heap.size) ?_ (fun _=>?_);focus(first|(go_simp;done)|omega)));(try(refine Ext.useLt hx1 (n:=w.heap.size+1) ?_ (fun _=>?_);focus(first|(go_simp;done)|omega)))))|((go_at_call 134;(with_reducible refine(zah _ gz (-100) 100).mono ?_);rintro e w2 ⟨rfl,hx2⟩;obtain⟨hc2,hf2⟩:=hx2.cells;(try(refine Ext.useLt hx2 (n:=w.heap.size) ?_ (fun _=>?_);focus(first|(go_simp;done)|omega)));(try(refine Ext.useLt hx2 (n:=w.heap.size+1) ?_ (fun _=>?_);focus(first|(go_simp;done)|omega))))))
      go_meet;exact⟨by rw [HG2.out],eA,by rw [Ext.block (a:=(w.alloc (.cells #[.string s,X a n c,O Y d,O Y de,O Y gx,O Y gz] 35))) eA (by simp)];exact qhA _ _ _ rfl⟩
    ·have k1':wthn gx (-100) 100=false:=by simpa using k1
     have HG2:Hid (grainB gx gz=false):=hd9 (by rw [HG.out,k1'];rfl);clear k1
     go_wp2_with(first|((go_at_call 134;(with_reducible refine(zah _ gx (-100) 100).mono ?_);rintro e w1 ⟨rfl,hx1⟩;obtain⟨hc1,hf1⟩:=hx1.cells;(try(refine Ext.useLt hx1 (n:=w.heap.size) ?_ (fun _=>?_);focus(first|(go_simp;done)|omega)));(try(refine Ext.useLt hx1 (n:=w.heap.size+1) ?_ (fun _=>?_);focus(first|(go_simp;done)|omega))))))
     go_meet;exact⟨by rw [HG2.out],eA,by rw [Ext.block (a:=(w.alloc (.cells #[.string s,X a n c,O Y d,O Y de,O Y gx,O Y gz] 35))) eA (by simp)];exact qhA _ _ _ rfl⟩
   ·have f1:(gx==0)=true:=(by simpa using e1);have f2:(gz==0)=false:=(by simpa using e2);clear e1 e2
    have hG:grainB gx gz=(wthn gx (-100) 100&&wthn gz (-100) 100):=by unfold grainB;simp [*]
    have HG:=hd9 hG;clear hG
    by_cases k1:wthn gx (-100) 100=true
    ·by_cases k2:wthn gz (-100) 100=true
     ·have HG2:Hid (grainB gx gz=true):=hd9 (by rw [HG.out,k1,k2];rfl)
      go_wp2_with(first|((go_at_call 134;(with_reducible refine(zah _ gx (-100) 100).mono ?_);rintro e w1 ⟨rfl,hx1⟩;obtain⟨hc1,hf1⟩:=hx1.cells;(try(refine Ext.useLt hx1 (n:=w.heap.size) ?_ (fun _=>?_);focus(first|(go_simp;done)|omega)));(try(refine Ext.useLt hx1 (n:=w.heap.size+1) ?_ (fun _=>?_);focus(first|(go_simp;done)|omega)))))|((go_at_call 134;(with_reducible refine(zah _ gz (-100) 100).mono ?_);rintro e w2 ⟨rfl,hx2⟩;obtain⟨hc2,hf2⟩:=hx2.cells;(try(refine Ext.useLt hx2 (n:=w.heap.size) ?_ (fun _=>?_);focus(first|(go_simp;done)|omega)));(try(refine Ext.useLt hx2 (n:=w.heap.size+1) ?_ (fun _=>?_);focus(first|(go_simp;done)|omega))))))
      go_meet;exact⟨by rw [HG2.out],eA,by rw [Ext.block (a:=(w.alloc (.cells #[.string s,X a n c,O Y d,O Y de,O Y gx,O Y gz] 35))) eA (by simp)];exact qhA _ _ _ rfl⟩
     ·have k2':wthn gz (-100) 100=false:=by simpa using k2
      have HG2:Hid (grainB gx gz=false):=hd9 (by rw [HG.out,k1,k2'];rfl);clear k2
      go_wp2_with(first|((go_at_call 134;(with_reducible refine(zah _ gx (-100) 100).mono ?_);rintro e w1 ⟨rfl,hx1⟩;obtain⟨hc1,hf1⟩:=hx1.cells;(try(refine Ext.useLt hx1 (n:=w.heap.size) ?_ (fun _=>?_);focus(first|(go_simp;done)|omega)));(try(refine Ext.useLt hx1 (n:=w.heap.size+1) ?_ (fun _=>?_);focus(first|(go_simp;done)|omega)))))|((go_at_call 134;(with_reducible refine(zah _ gz (-100) 100).mono ?_);rintro e w2 ⟨rfl,hx2⟩;obtain⟨hc2,hf2⟩:=hx2.cells;(try(refine Ext.useLt hx2 (n:=w.heap.size) ?_ (fun _=>?_);focus(first|(go_simp;done)|omega)));(try(refine Ext.useLt hx2 (n:=w.heap.size+1) ?_ (fun _=>?_);focus(first|(go_simp;done)|omega))))))
      go_meet;exact⟨by rw [HG2.out],eA,by rw [Ext.block (a:=(w.alloc (.cells #[.string s,X a n c,O Y d,O Y de,O Y gx,O Y gz] 35))) eA (by simp)];exact qhA _ _ _ rfl⟩
    ·have k1':wthn gx (-100) 100=false:=by simpa using k1
     have HG2:Hid (grainB gx gz=false):=hd9 (by rw [HG.out,k1'];rfl);clear k1
     go_wp2_with(first|((go_at_call 134;(with_reducible refine(zah _ gx (-100) 100).mono ?_);rintro e w1 ⟨rfl,hx1⟩;obtain⟨hc1,hf1⟩:=hx1.cells;(try(refine Ext.useLt hx1 (n:=w.heap.size) ?_ (fun _=>?_);focus(first|(go_simp;done)|omega)));(try(refine Ext.useLt hx1 (n:=w.heap.size+1) ?_ (fun _=>?_);focus(first|(go_simp;done)|omega))))))
     go_meet;exact⟨by rw [HG2.out],eA,by rw [Ext.block (a:=(w.alloc (.cells #[.string s,X a n c,O Y d,O Y de,O Y gx,O Y gz] 35))) eA (by simp)];exact qhA _ _ _ rfl⟩
 case rest =>
  obtain⟨rfl,hx,hB⟩:=hcut;have b0:=qcB hB (i:=0) (u:=.string s) rfl;have b1:=qcB hB (i:=1) (u:=X a n c) rfl;have b2:=qcB hB (i:=2) (u:=O Y d) rfl;have b3:=qcB hB (i:=3) (u:=O Y de) rfl;have zb:=zaa hB;clear hB;have hR:=HR.out;obtain⟨G,hG⟩:=gX (grainB gx gz);rw [hG]at hR ⊢;clear hG HR
  cases nb
  ·have HR:Hid (R=2):=hd9 (by simpa using hR.symm)
   clear hR
   go_wp2_with(first|((go_at_call 135;(with_reducible refine(Hnm.out _).mono ?_);rintro e w1 ⟨rfl,hx1⟩;obtain⟨hc1,hf1⟩:=hx1.cells;(have y1:=hx1.lt zb))))
   go_ret;exact⟨by rw [HR.out];rfl,eA⟩
  cases pb
  ·have HR:Hid (R=2):=hd9 (by simpa using hR.symm)
   clear hR
   go_wp2_with(first|((go_at_call 135;(with_reducible refine(Hnm.out _).mono ?_);rintro e w1 ⟨rfl,hx1⟩;obtain⟨hc1,hf1⟩:=hx1.cells;(have y1:=hx1.lt zb)))|((go_at_call 136;(with_reducible refine(Hpl.out _ ?_).mono ?_);exact eA;rintro e w2 ⟨rfl,hx2⟩;obtain⟨hc2,hf2⟩:=hx2.cells;(have y2:=hx2.lt y1))))
   go_ret;exact⟨by rw [HR.out];rfl,eA⟩
  by_cases k1:wthn d 1 2000=true
  ·by_cases k2:wthn de 1 10000=true
   ·cases G
    ·have HR:Hid (R=2):=hd9 (by simpa [k1,k2] using hR.symm)
     clear hR
     go_wp2_with(first|((go_at_call 135;(with_reducible refine(Hnm.out _).mono ?_);rintro e w1 ⟨rfl,hx1⟩;obtain⟨hc1,hf1⟩:=hx1.cells;(have y1:=hx1.lt zb)))|((go_at_call 136;(with_reducible refine(Hpl.out _ ?_).mono ?_);exact eA;rintro e w2 ⟨rfl,hx2⟩;obtain⟨hc2,hf2⟩:=hx2.cells;(have y2:=hx2.lt y1)))|((go_at_call 134;(with_reducible refine(zah _ d 1 2000).mono ?_);rintro e w3 ⟨rfl,hx3⟩;obtain⟨hc3,hf3⟩:=hx3.cells;(try(refine Ext.useLt hx3 (n:=w.heap.size) ?_ (fun _=>?_);focus(first|(go_simp;done)|omega)));(try(refine Ext.useLt hx3 (n:=w.heap.size+1) ?_ (fun _=>?_);focus(first|(go_simp;done)|omega)))))|((go_at_call 134;(with_reducible refine(zah _ de 1 10000).mono ?_);rintro e w4 ⟨rfl,hx4⟩;obtain⟨hc4,hf4⟩:=hx4.cells;(try(refine Ext.useLt hx4 (n:=w.heap.size) ?_ (fun _=>?_);focus(first|(go_simp;done)|omega)));(try(refine Ext.useLt hx4 (n:=w.heap.size+1) ?_ (fun _=>?_);focus(first|(go_simp;done)|omega))))))
     go_ret;exact⟨by rw [HR.out];rfl,eA⟩
    ·have HR:Hid (R=0):=hd9 (by simpa [k1,k2] using hR.symm)
     clear hR
     go_wp2_with(first|((go_at_call 135;(with_reducible refine(Hnm.out _).mono ?_);rintro e w1 ⟨rfl,hx1⟩;obtain⟨hc1,hf1⟩:=hx1.cells;(have y1:=hx1.lt zb)))|((go_at_call 136;(with_reducible refine(Hpl.out _ ?_).mono ?_);exact eA;rintro e w2 ⟨rfl,hx2⟩;obtain⟨hc2,hf2⟩:=hx2.cells;(have y2:=hx2.lt y1)))|((go_at_call 134;(with_reducible refine(zah _ d 1 2000).mono ?_);rintro e w3 ⟨rfl,hx3⟩;obtain⟨hc3,hf3⟩:=hx3.cells;(try(refine Ext.useLt hx3 (n:=w.heap.size) ?_ (fun _=>?_);focus(first|(go_simp;done)|omega)));(try(refine Ext.useLt hx3 (n:=w.heap.size+1) ?_ (fun _=>?_);focus(first|(go_simp;done)|omega)))))|((go_at_call 134;(with_reducible refine(zah _ de 1 10000).mono ?_);rintro e w4 ⟨rfl,hx4⟩;obtain⟨hc4,hf4⟩:=hx4.cells;(try(refine Ext.useLt hx4 (n:=w.heap.size) ?_ (fun _=>?_);focus(first|(go_simp;done)|omega)));(try(refine Ext.useLt hx4 (n:=w.heap.size+1) ?_ (fun _=>?_);focus(first|(go_simp;done)|omega))))))
     go_ret;exact⟨by rw [HR.out];rfl,eA⟩
   ·have k2':wthn de 1 10000=false:=by simpa using k2
    have HR:Hid (R=2):=hd9 (by simpa [k1,k2'] using hR.symm);clear hR k2
    go_wp2_with(first|((go_at_call 135;(with_reducible refine(Hnm.out _).mono ?_);rintro e w1 ⟨rfl,hx1⟩;obtain⟨hc1,hf1⟩:=hx1.cells;(have y1:=hx1.lt zb)))|((go_at_call 136;(with_reducible refine(Hpl.out _ ?_).mono ?_);exact eA;rintro e w2 ⟨rfl,hx2⟩;obtain⟨hc2,hf2⟩:=hx2.cells;(have y2:=hx2.lt y1)))|((go_at_call 134;(with_reducible refine(zah _ d 1 2000).mono ?_);rintro e w3 ⟨rfl,hx3⟩;obtain⟨hc3,hf3⟩:=hx3.cells;(try(refine Ext.useLt hx3 (n:=w.heap.size) ?_ (fun _=>?_);focus(first|(go_simp;done)|omega)));(try(refine Ext.useLt hx3 (n:=w.heap.size+1) ?_ (fun _=>?_);focus(first|(go_simp;done)|omega)))))|((go_at_call 134;(with_reducible refine(zah _ de 1 10000).mono ?_);rintro e w4 ⟨rfl,hx4⟩;obtain⟨hc4,hf4⟩:=hx4.cells;(try(refine Ext.useLt hx4 (n:=w.heap.size) ?_ (fun _=>?_);focus(first|(go_simp;done)|omega)));(try(refine Ext.useLt hx4 (n:=w.heap.size+1) ?_ (fun _=>?_);focus(first|(go_simp;done)|omega))))))
    go_ret;exact⟨by rw [HR.out];rfl,eA⟩
  ·have k1':wthn d 1 2000=false:=by simpa using k1
   have HR:Hid (R=2):=hd9 (by simpa [k1'] using hR.symm);clear hR k1
   go_wp2_with(first|((go_at_call 135;(with_reducible refine(Hnm.out _).mono ?_);rintro e w1 ⟨rfl,hx1⟩;obtain⟨hc1,hf1⟩:=hx1.cells;(have y1:=hx1.lt zb)))|((go_at_call 136;(with_reducible refine(Hpl.out _ ?_).mono ?_);exact eA;rintro e w2 ⟨rfl,hx2⟩;obtain⟨hc2,hf2⟩:=hx2.cells;(have y2:=hx2.lt y1)))|((go_at_call 134;(with_reducible refine(zah _ d 1 2000).mono ?_);rintro e w3 ⟨rfl,hx3⟩;obtain⟨hc3,hf3⟩:=hx3.cells;(try(refine Ext.useLt hx3 (n:=w.heap.size) ?_ (fun _=>?_);focus(first|(go_simp;done)|omega)));(try(refine Ext.useLt hx3 (n:=w.heap.size+1) ?_ (fun _=>?_);focus(first|(go_simp;done)|omega))))))
   go_ret;exact⟨by rw [HR.out];rfl,eA⟩
def namedB (s:ByteArray):Bool:=wthn s.size 1 16&&!decide (0≤Lib.idxFunc (fun r:Nat=>oddB r) true s)
theorem zm3 (w:V):PredAt Tryz.prog 164 #[] encR (fun r:Nat=>oddB r) w:=fun W r _=>by
 unfold FnGives;rw [show #[encR r]++(#[]:Array J)=#[O .i32 r]from rfl];exact(zmj W r).mono fun e w' ⟨h1,h2⟩=>⟨h1,0,h2⟩
theorem ziJ (w:V) (s:ByteArray):Calls Tryz.prog 165 #[.string s,.func (.func 164) #[] #[]] w fun e w'=>e = .returned (.bool (decide (0≤Lib.idxFunc (fun r:Nat=>oddB r) true s)))∧Ext w w':=
 Tryz.strings_ContainsFunc 164 #[] (enters_of Tryz.func164 (by kernel_rfl) rfl) _ s w (zm3 w)
theorem zjw (w:V) (s:ByteArray):Calls Tryz.prog 135 #[.string s] w fun e w'=>e = .returned (.bool (namedB s))∧Ext w w':=by
 obtain⟨I,hI⟩:=gX (decide (0≤Lib.idxFunc (fun r:Nat=>oddB r) true s));have hc:=fun W=>ziJ W s
 unfold namedB;rw [hI]at hc ⊢;have Hc:=hd9 hc;clear hc hI
 by_cases h:wthn s.size 1 16=true
 ·rw [h]
  go_enter Tryz.func135,Tryz.ntmps135
  go_wp2_with(first|((go_at_call 134;(with_reducible refine(zah _ s.size 1 16).mono ?_);rw [h];rintro e w1 ⟨rfl,hx1⟩))|((go_at_call 165;(with_reducible refine(Hc.out _).mono ?_);rintro e w2 ⟨rfl,hx2⟩)))
  go_ret;exact⟨by simp,eA⟩
 ·have h':wthn s.size 1 16=false:=by simpa using h
  rw [h'];go_enter Tryz.func135,Tryz.ntmps135
  go_wp2_with(first|((go_at_call 134;(with_reducible refine(zah _ s.size 1 16).mono ?_);rw [h'];rintro e w1 ⟨rfl,hx1⟩)))
  go_ret;exact⟨by simp,eA⟩
theorem zfr (w:V) (s:ByteArray) (v:J) (ps:List (Int×Int)) (d de gx gz:Int) (h:IsPts w v ps) :
  Calls Tryz.prog 98 #[.agg #[.string s,v,O Y d,O Y de,O Y gx,O Y gz]] w fun e w'=>e = .returned (O Y (if stoneB (namedB s) ps d de gx gz then 0 else 2))∧Ext w w':=
 zhG w s v ps d de gx gz (namedB s) h (fun W=>zjw W s)
end
end Go.Proofs.YtodpfeaihohpjaaGreatDoor.Cop
