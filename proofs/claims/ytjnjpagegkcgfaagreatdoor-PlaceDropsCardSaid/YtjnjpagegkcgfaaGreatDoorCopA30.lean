/- Part 31: contracts of what the law calls. -/
import Derived.Test.YtjnjpagegkcgfaaGreatDoorCopA26
import Derived.Test.YtjnjpagegkcgfaaGreatDoorCopA19
import Derived.Test.YtjnjpagegkcgfaaGreatDoorCopA09
import Derived.Test.YtjnjpagegkcgfaaGreatDoorCopA18
import Derived.Test.YtjnjpagegkcgfaaGreatDoorCopA25
import Derived.Test.YtjnjpagegkcgfaaGreatDoorCopA02
import Derived.Test.YtjnjpagegkcgfaaGreatDoorCopA17
set_option maxRecDepth 1000000
set_option maxHeartbeats 16000000
set_option linter.unusedSimpArgs false
set_option linter.unusedVariables false
open Go.Value renaming slice→O,bool→Z,agg→J,pointer→E,int→F
open Option renaming none→Y,some→N
open Go renaming World→X,Value→I,Addr→G
open Go.Obj renaming cells→C
namespace Go.Proofs.YtjnjpagegkcgfaaGreatDoor.Cop
section
open Go.RowKit Go.Shelf
theorem ziC (w:X) (d f:I) (b:Int) (m:b<0) (g:∃a n c,d=O a n c) (h:∃a n c,f=O a n c) :
  Calls Tryz.prog 76 #[J #[d,f],F .i64 b] w fun e i=>e = .returned d∧Ext w i:=by
 obtain⟨j,l,k,rfl⟩:=g;obtain⟨o,p,sc,rfl⟩:=h;go_enter Tryz.func76,Tryz.ntmps76;go_wp2;go_ret;exact⟨rfl,eA⟩
theorem zkO (w:X) (k l:I) (ps:List Pl) (i:Nat) (p:Pl) (u:∃a n c,k=O a n c) (d:IsLas w l ps) (h:ps[i]?=N p) :
  Calls Tryz.prog 76 #[J #[k,l],F .i64 i] w fun e m=>∃v,e = .returned v∧IsPts m v (upP2 p)∧Ext w m:=by
 obtain⟨P,R,Q,rfl⟩:=u;obtain⟨sa,n,sc,rfl⟩:=form3 d;have y:=d.len;have g:=d.le;obtain⟨b,o,s,vl,vu,rfl,S,r,t,f,j⟩:=d.at' h;obtain⟨z,K,D,rfl⟩:=form3 f;have L:=j 11 (O z K D) rfl;have x:=(lS.1 h).1;have T:(0:Int)≤(i:Int):=oM
 have W:(i:Int)<(n:Int):=oM
 have p3:i<n:=oM
 have p4:¬(i:Int)<0:=oM
 have q:=hd9 f;clear d h j r t f y g x;go_enter Tryz.func76,Tryz.ntmps76;go_wp2;go_ret;exact⟨_,rfl,q.out.ext' eA,eA⟩
def wrongB (n:Nat) (i a:Int):Bool:=decide (i<0) || (decide ((n:Int)≤i) || (decide (a<0) || decide (50<a)))
theorem zkV (w:X) (h:I) (k:Option G) (n sc:Nat) (i b:Int) (j:∃a n c,h=O a n c) :
  Calls Tryz.prog 71 #[J #[h,O k n sc],F .i64 i,F .i64 b] w fun e l=>e = .returned (Z (wrongB n i b))∧Ext w l:=by
 obtain⟨m,p,o,rfl⟩:=j
 by_cases d:i<0
 ·have e:wrongB n i b=true:=by unfold wrongB;simp [d]
  rw [e];go_enter Tryz.func71,Tryz.ntmps71;go_wp2;go_ret;exact⟨rfl,eA⟩
 by_cases f:(n:Int)≤i
 ·have e:wrongB n i b=true:=by unfold wrongB;simp [f]
  rw [e];go_enter Tryz.func71,Tryz.ntmps71;go_wp2;go_ret;exact⟨rfl,eA⟩
 by_cases g:b<0
 ·have e:wrongB n i b=true:=by unfold wrongB;simp [g]
  rw [e];go_enter Tryz.func71,Tryz.ntmps71;go_wp2;go_ret;exact⟨rfl,eA⟩
 ·have e:wrongB n i b=decide (50<b):=by unfold wrongB;rw [decide_eq_false d,decide_eq_false f,decide_eq_false g];rfl
  rw [e];go_enter Tryz.func71,Tryz.ntmps71;go_wp2;go_ret;exact⟨rfl,eA⟩
theorem zkR (w:X) (o a:Obj):((w.alloc o).alloc a).heap[w.heap.size+1]?=N a:=qhA _ _ _ sM
def IsV (w:X) (v:I) (x z:Rat):Prop:=∃a m c s a2 m2 c2 b n k t b2 n2 k2,v=J #[O a m c,Z s,O a2 m2 c2,O b n k,Z t,O b2 n2 k2]∧IsR w (J #[O a m c,Z s,O a2 m2 c2]) x∧IsR w (J #[O b n k,Z t,O b2 n2 k2]) z
theorem IsV.ext {w w':X} {v:I} {x z:Rat} (h:IsV w v x z) (k:Ext w w'):IsV w' v x z:=by
 obtain⟨a,m,c,s,d,p,f,b,n,l,t,e,q,o,g,i,j⟩:=h;exact⟨a,m,c,s,d,p,f,b,n,l,t,e,q,o,g,i.ext k,j.ext k⟩
theorem zc7 (w:X) (vx:I) (x:Rat) (p:Pl) (m:Nat) (s vl vu:I) (z:IsR w vx x) (hb:Rb 1000 x) (j:w.heap[m]?=N (C (lac p s vl vu) 128 (0,0))) (hl:IsPts w vl (lowP2 p)) (ab:LnOk (lowP2 p)) :
  Calls Tryz.prog 144 #[vx,E (N ⟨m,0,Y⟩)] w fun e w'=>∃v,e = .returned v∧IsV w' v x (atR (lowP2 p) x)∧Ext w w':=by
 have HA:=hd9 (fun W (hW:Ext w W)=>zgD W vl vx (lowP2 p) x (hl.ext' hW) ab (z.ext hW) hb);obtain⟨L,Q,P,R,d,g,f,rfl⟩:=z.form;obtain⟨la,ln,lc,rfl⟩:=form3 hl;have ad:=qcB j (i:=10) (u:=O la ln lc) rfl;have zb:=zaa j;have ae:m<w.heap.size+1:=oM
 have af:m<w.heap.size+1+1:=oM
 obtain⟨q,y⟩:=gX (atR (lowP2 p) x);rw [y]at HA ⊢;have Hx:=hd9 z;clear hl j z y;go_enter Tryz.func144,Tryz.ntmps144;go_wp2;refine wp_region_held_drew (S:=CellL [(⟨w.heap.size,0,Y⟩,O L Q P),(⟨w.heap.size,1,Y⟩,Z R),(⟨w.heap.size,2,Y⟩,O d g f),(⟨m,10,Y⟩,O la ln lc)]) kM cA (fun c=>?_);refine sN 0 ?_
 iterate 4
  refine tkn ?_
 refine oN ?_;refine cl1 (i:=4) fun K o=>?_
 go_simp
 (with_reducible refine cM (HA.out _ eA) ?_)
 rintro e D ⟨v3,rfl,k,l⟩;obtain⟨a3,m3,c3,s3,b3,n3,k3,rfl⟩:=k.form
 go_wp2_with fail
 refine kO o (cE c l) (fun c=>?_);clear o K;refine tk1 (i:=5) ?_;have b:=l.heapS (zkR w (C #[O L Q P,Z R,O d g f] 63) (C #[O Y 0 0,Z false,O Y 0 0,O Y 0 0,Z false,O Y 0 0] 77));have k0:=qcB b (i:=0) (u:=O Y 0 0) rfl;have k1:=qcB b (i:=1) (u:=Z false) rfl;have k2:=qcB b (i:=2) (u:=O Y 0 0) rfl;have ac:=qcB b (i:=3) (u:=O Y 0 0) rfl;have k4:=qcB b (i:=4) (u:=Z false) rfl;have k5:=qcB b (i:=5) (u:=O Y 0 0) rfl;have kf:=qfB b;have r:Ext w D:=((((eR w).alloc _).alloc _).drew).trans l
 have a:=hd9 (show ∀q∈[((⟨w.heap.size,0,Y⟩:G),Value.slice L Q P),(⟨w.heap.size,1,Y⟩,Z R),(⟨w.heap.size,2,Y⟩,O d g f),(⟨m,10,Y⟩,O la ln lc)],w.heap.size+1≠q.1.block from fun q y h=>by
  simp at y
  rcases y with rfl|rfl|rfl|rfl<;>(dsimp only at h;omega))
 have T:=hd9 b;have n:=hd9 r;have aa:=hd9 k;clear b r k;refine cl1 (i:=6) fun K o=>?_
 go_simp;refine kO o (CellL.set (p:=⟨w.heap.size+1,5,Y⟩) (CellL.set (p:=⟨w.heap.size+1,4,Y⟩) (CellL.set (p:=⟨w.heap.size+1,3,Y⟩) (CellL.set (p:=⟨w.heap.size+1,2,Y⟩) (CellL.set (p:=⟨w.heap.size+1,1,Y⟩) (CellL.set (p:=⟨w.heap.size+1,0,Y⟩) c a.out _) a.out _) a.out _) a.out _) a.out _) a.out _) (fun c=>?_);clear o K;refine wpAnyH_done kM ?_ _;go_wp2;have n0:NoT 2 D (w.heap.size+1):=by intro cs fr e;rw [T.out]at e;cases e
 have t:∀(u0 u1 u2 u3 u4 u5:I),KeepT 2 D ((((((D.setCell ⟨w.heap.size+1,0,Y⟩ u0).setCell ⟨w.heap.size+1,1,Y⟩ u1).setCell ⟨w.heap.size+1,2,Y⟩ u2).setCell ⟨w.heap.size+1,3,Y⟩ u3).setCell ⟨w.heap.size+1,4,Y⟩ u4).setCell ⟨w.heap.size+1,5,Y⟩ u5):=fun u0 u1 u2 u3 u4 u5=>by
  repeat(first|with_reducible exact KeepT.refl _ _|(with_reducible refine KeepT.setN ?_ ?_ _)|with_reducible exact n0|with_reducible refine NoT.set ?_ _ _)
 refine bR (v:=J #[O L Q P,Z R,O d g f,O a3 m3 c3,Z s3,O b3 n3 k3]) (by simp [results,Tryz.results144,go_sem,k0,k1,k2,ac,k4,k5,kf]) rfl ⟨_,rfl,⟨_,_,_,_,_,_,_,_,_,_,_,_,_,_,rfl,(Hx.out.ext n.out).keep (t _ _ _ _ _ _),aa.out.keep (t _ _ _ _ _ _)⟩,?_⟩
 repeat(first|with_reducible exact n.out|(with_reducible refine Ext.set ?_ dO _))
end
section
open Go.RowKit Go.Shelf
attribute [local go_sem] Oper.semAt_some
def widR (o:Rat×Rat) (x:Rat):Rat×Rat:=(foldR (-1) [o.1,x],foldR 1 [o.2,x])
def reachStep (f:Rat→Rat) (o:Rat×Rat) (x:Rat):Rat×Rat:=if (f x).num.sign≤0 then widR o x else o
def crossR (f:Rat→Rat) (y x:Rat):Rat:=y+f y / (f y-f x)*(x-y)
def reachCross (f:Rat→Rat) (o:Rat×Rat) (y x:Rat):Rat×Rat:=if (f x).num.sign*(f y).num.sign<0 then widR o (crossR f y x)else o
def reachN (f:Rat→Rat) (a:List Rat) (o:Rat×Rat):Nat→Rat×Rat
 | 0=>o
 | i+1=>if i=0 then reachStep f (reachN f a o i) (a.getD i 0)else reachCross f (reachStep f (reachN f a o i) (a.getD i 0)) (a.getD (i-1) 0) (a.getD i 0)
def pinG (s:Sp) (a:Int) (x:Rat):Rat:=gapR s x-(a:Rat)
def reachNo (s:Sp) (a:Int):Bool:=decide ((leastR s).2.num.sign<0) || decide (0<rcmp (leastR s).2 (a:Rat))
def reachP (s:Sp) (a:Int):Option (Rat×Rat):=
 if reachNo s a=true then Y else N (reachN (pinG s a) (stopsR s) ((leastR s).1,(leastR s).1) (stopsR s).length)
theorem Rb.up {j k:Nat} {q:Rat} (h:Rb j q) (a:j≤k):Rb k q:=by exact⟨h.1.mono a,h.2.mono a⟩
theorem zfB {P:Rat→Prop} (way:Int) {p q:Rat} (a:P p) (b:P q):P (foldR way [p,q]):=by
 show P (pickR way p q)
 rcases zfU way p q with e|e<;>rw [e]<;>assumption
theorem Rb.wid {k:Nat} {o:Rat×Rat} {x:Rat} (h:Rb k o.1∧Rb k o.2) (a:Rb k x):Rb k (widR o x).1∧Rb k (widR o x).2:=⟨zfB _ h.1 a,zfB _ h.2 a⟩
theorem Rb.pin_g {s:Sp} {a:Int} {x:Rat} (c:Rb 1 x) (h:SpOk s) (b:Bd 104000 a):Rb 47 (pinG s a x):=
 (Rb.gap c h).sub (Rb.int (by unfold Bd at b;unfold Lm;have d:(B:Int) ^ 23 ≥ 104001:=dM;omega) dM)
theorem Rb.cross {f:Rat→Rat} {y x:Rat} (b:Rb 1 y) (e:Rb 1 x) (a:Rb 47 (f y)) (d:Rb 47 (f x)):Rb 291 (crossR f y x):=by
 have c:Rb (47+(2*47+1)+(2*1+1)) (f y / (f y-f x)*(x-y)):=(a.div (a.sub d) dM).mul (e.sub b);exact(b.up (by decide:1≤145)).add c
theorem Rb.reach_n {f:Rat→Rat} {a:List Rat} {o:Rat×Rat} (j:Rb 300 o.1∧Rb 300 o.2) (e:∀q∈a,Rb 1 q) (h:∀q∈a,Rb 47 (f q)):∀n,n≤a.length→Rb 300 (reachN f a o n).1∧Rb 300 (reachN f a o n).2:=by
 intro n
 induction n with
 | zero=>intro _;exact j
 | succ i k =>
  intro l;have g:=k oM;have d:a.getD i 0∈a:=by rw [gD,gE oM];exact List.getElem_mem _
  have c:Rb 300 (reachStep f (reachN f a o i) (a.getD i 0)).1∧Rb 300 (reachStep f (reachN f a o i) (a.getD i 0)).2:=by
   unfold reachStep
   split
   ·exact Rb.wid g ((e _ d).up dM)
   ·exact g
  unfold reachN
  split
  ·exact c
  ·have b:a.getD (i-1) 0∈a:=by rw [gD,gE oM];exact List.getElem_mem _
   unfold reachCross
   split
   ·exact Rb.wid c ((Rb.cross (e _ b) (e _ d) (h _ b) (h _ d)).up dM)
   ·exact c
theorem OwnR.setOther {w:X} {base:Nat} {v:I} {b:List Rat} (h:OwnR w base v b) {p:G} (m:p.block<base) (k:NoT 2 w p.block) (u:I):OwnR (w.setCell p u) base v b:=by
 obtain⟨d,a,f,g⟩:=h;refine⟨d,a.setOther (fun e=>?_) u,f,fun i c q j l=>IsR.keep (g i c q j l) (KeepT.setN (KeepT.refl _ _) k u)⟩;have:=(a.lt _ e).1;omega
def RcW (w:X) (s:Sp) (b c d:I) (a:List Rat) (o:Rat×Rat) (W:X):Prop:=
 Ext w W∧w.heap.size+1+1+1≤W.heap.size∧W.heap[w.heap.size]?=N (C #[b,c,F .i64 s.lo,F .i64 s.hi] 138 (0,0)) ∧
  RB W (w.heap.size+1) o.1∧RB W (w.heap.size+1+1) o.2∧OwnR W (w.heap.size+1+1+1) d a
theorem RcW.ext {w:X} {s:Sp} {b c d:I} {a:List Rat} {o:Rat×Rat} {W W':X} (h:RcW w s b c d a o W) (k:Ext W W'):RcW w s b c d a o W':=
 ⟨h.1.trans k,nT h.2.1 k.size,k.heapS h.2.2.1,h.2.2.2.1.ext k,h.2.2.2.2.1.ext k,h.2.2.2.2.2.ext k⟩
theorem zbN (W:X) {b:Nat} (y:b=W.heap.size) {a g e j:Option G} {m c o c2 n k r l:Nat} {s t:Bool} {p q:Rat} (v:IsR W (J #[O a m c,Z s,O g o c2]) p) (w:IsR W (J #[O e n k,Z t,O j r l]) q) :
  IsRs (W.alloc (C #[O a m c,Z s,O g o c2,O e n k,Z t,O j r l] 63)) (O (N ⟨b,0,Y⟩) 2 2) [p,q]:=by
 subst y;have u:Ext W (W.alloc (C #[O a m c,Z s,O g o c2,O e n k,Z t,O j r l] 63)):=(eR W).alloc _;refine⟨[[O a m c,Z s,O g o c2],[O e n k,Z t,O j r l]],rfl,by simp,⟨rfl,_,_,rfl,nE _,by unfold maxLen;decide,.inr ⟨_,0,_,_,rfl,aN W _,fun i x h=>by simpa using h⟩⟩,fun i z x d f=>?_⟩
 match i,d,f with
 | 0,d,f=>cases d;cases f;exact v.ext u
 | 1,d,f=>cases d;cases f;exact w.ext u
 | i+2,d,f=>simp at d
theorem RcW.put2 {w:X} {s:Sp} {v1 v2 vq:I} {qs:List Rat} {o:Rat×Rat} {W:X} (h:RcW w s v1 v2 vq qs o W) {a l e x:Option G} {m c L c2 n k P D:Nat} {Q t:Bool} {p q:Rat}
  (y:IsR W (J #[O a m c,Z Q,O l L c2]) p) (z:IsR W (J #[O e n k,Z t,O x P D]) q) {j g:X}
  (d:((W.setCell ⟨w.heap.size+1,0,Y⟩ (O a m c)).setCell ⟨w.heap.size+1,1,Y⟩ (Z Q)).setCell ⟨w.heap.size+1,2,Y⟩ (O l L c2)=j)
  (f:((j.setCell ⟨w.heap.size+1+1,0,Y⟩ (O e n k)).setCell ⟨w.heap.size+1+1,1,Y⟩ (Z t)).setCell ⟨w.heap.size+1+1,2,Y⟩ (O x P D)=g) :
  RcW w s v1 v2 vq qs (p,q) g∧g.heap.size=W.heap.size∧(∀b r,w.heap.size+1+1<b→RB W b r→RB g b r):=by
 obtain⟨h1,h2,h3,T,h5,h6⟩:=h;obtain⟨q1,q2,q3,q4,q5,q6⟩:=RB.copy2 T h5 oM y z d f;have i:=T.not;have N2:=h5.not;refine⟨⟨q6 w h1 oM oM,by omega,?_,q1,q2,?_⟩,q5,fun b r hb=>q3 b r oM oM⟩
 ·rw [←f,←d]
  repeat rw [bS _ _ _ _ dO]
  exact h3
 ·have u:w.heap.size+1<w.heap.size+1+1+1:=oM
  have v:w.heap.size+1+1<w.heap.size+1+1+1:=oM
  have R:=((h6.setOther (p:=⟨w.heap.size+1,0,Y⟩) u i (O a m c)).setOther (p:=⟨w.heap.size+1,1,Y⟩) u (i.set _ _) (Z Q)).setOther (p:=⟨w.heap.size+1,2,Y⟩) u ((i.set _ _).set _ _) (O l L c2);rw [d]at R;have K:NoT 2 j (w.heap.size+1+1):=by rw [←d];exact((N2.set _ _).set _ _).set _ _
  have S:=((R.setOther (p:=⟨w.heap.size+1+1,0,Y⟩) v K (O e n k)).setOther (p:=⟨w.heap.size+1+1,1,Y⟩) v (K.set _ _) (Z t)).setOther (p:=⟨w.heap.size+1+1,2,Y⟩) v ((K.set _ _).set _ _) (O x P D);rw [f]at S;exact S
end
section
open Go.RowKit Go.Shelf Go.Sort
theorem zkj {β:Type} [Inhabited β] {lt:β→β→Bool} (hO:SWO lt) (d:Array β) (l:Nat):(pdq lt d 0 d.size l true true).toList.Pairwise fun x y=>lt y x=false:=by
 obtain⟨⟨g,_,_⟩,f⟩:=pdq_sorts lt hO d 0 d.size l true true (Nat.zero_le _) (nE _) (Or.inl rfl);rw [List.pairwise_iff_getElem];intro i j c e a;simp at c e;have b:=f i j (Nat.zero_le _) a oM;rw [getElem!_pos _ i c,getElem!_pos _ j e]at b
 simpa using b
theorem zcw {ps:List (Int×Int)} (h:∀x∈ps,BP x):(sortX ps).Pairwise fun x y=>x.1≤y.1:=by
 unfold sortX sortBy;rw [dif_pos h];rw [List.pairwise_map];have b:=@zkj {x // BP x} ⟨BP0⟩ _ swoX (ps.attachWith BP h).toArray (Lib.bitLen ps.length);rw [show (ps.attachWith BP h).toArray.size=ps.length by simp]at b;refine b.imp fun {x y} a=>?_
 rw [ltX]at a
 simpa using a
theorem zcC {α:Type} [DecidableEq α]:∀(a:α) (r:List α),∃t,compactP (a::r)=a::t
 | a,[]=>⟨[],rfl⟩
 | a,b::r=>by
  by_cases h:a=b
  ·obtain⟨t,e⟩:=zcC b r
   exact⟨t,by rw [compactP,if_pos h,e,h]⟩
  ·exact⟨compactP (b::r),by rw [compactP,if_neg h]⟩
theorem LnUp.cons {a b:Int×Int} {r:List (Int×Int)} (d:a.1≤b.1) (f:a≠b) (h:LnUp (b::r)):LnUp (a::b::r):=by
 intro e c;unfold eds at c
 rcases List.mem_cons.1 c with rfl|c
 ·exact⟨d,f⟩
 ·exact h e c
theorem zdD:∀(l:List (Int×Int)),l.Pairwise (fun x y=>x.1≤y.1)→LnUp (compactP l)
 | [],_=>by intro e f;simp [compactP,eds]at f
 | [a],_=>by intro e f;simp [compactP,eds]at f
 | a::b::r,h=>by
  have d:=zdD (b::r) (List.pairwise_cons.1 h).2
  by_cases c:a=b
  ·rw [compactP,if_pos c];exact d
  ·rw [compactP,if_neg c]
   obtain⟨t,e⟩:=zcC b r;rw [e]at d ⊢;exact LnUp.cons ((List.pairwise_cons.1 h).1 b List.mem_cons_self) c d
theorem zjV {k:Int} {a:List (Int×Int)} (c:PBd k a) (b:k≤1000000):LnUp (lineOf a):=
 zdD _ (zcw fun x d=>by
  have:=c x d;unfold BP;exact⟨this.1.mono b,this.2.mono b⟩)
theorem zn5 {p:Pl} (h:placedOk p=true):LnUp (upP2 p):=by
 obtain⟨a,c,h12⟩:=zaM h;have b:=zfX a (nE _);exact zjV b.2 dM
theorem zjv {g:List (Int×Int)} (h:groundB g=true):LnUp g:=by
 unfold groundB at h;simp only [Bool.and_eq_true,List.all_eq_true,List.mem_range]at h;intro e d;unfold eds at d;obtain⟨i,f,rfl⟩:=List.getElem_of_mem d;have c:i+1<g.length:=by rw [List.length_zip,List.length_tail]at f;omega
 have a:=h.2 (i+1) c;unfold grdR at a;simp only [Bool.and_eq_true,Bool.or_eq_true,decide_eq_true_eq,beq_iff_eq,Nat.add_one_ne_zero,false_or,Nat.add_sub_cancel]at a;have b:=a.2.2;rw [gD,gD,gE oM,gE c]at b;simp only [Option.getD_some]at b;have j:(g.zip g.tail)[i]'f=(g[i]' oM,g[i+1]'c):=sM
 rw [j];exact⟨by dsimp only;omega,fun e=>by dsimp only at e;rw [e]at b;omega⟩
end
section
open Go.RowKit Go.Shelf
attribute [local go_sem] Oper.semAt_some
def RetRc (w:X) (o:Option (Rat×Rat)) (e:Ending) (w':X):Prop:=Ext w w'∧∃r1 r2,IsR w' r1 (o.getD (0,0)).1∧IsR w' r2 (o.getD (0,0)).2∧e = .returned (.tuple #[r1,r2,Z o.isSome])
theorem zkl {k:Nat} {a:Int} (h:Bd 104000 a) (b:1≤k):Rb k (a:Rat):=(zaD h).up b
theorem zlU (w:X) (v1 v2:I) (s:Sp) (d:Int) (h1:IsPts w v1 s.over) (h2:IsPts w v2 s.under) (T:SpOk s) (hp:Bd 104000 d) (o:reachNo s d=true) :
  Calls Tryz.prog 143 #[spc s v1 v2,F .i64 d] w (RetRc w (reachP s d)):=by
 have HS:=hd9 (fun(W:X) (hW:Ext w W)=>zcj W v1 v2 s (h1.ext' hW) (h2.ext' hW) T);obtain⟨a1,m1,rfl⟩:=h1.form;obtain⟨a2,m2,rfl⟩:=h2.form;obtain⟨n1,f1⟩:=gX s.over.length;obtain⟨n2,f2⟩:=gX s.under.length;obtain⟨lo,an⟩:=gX s.lo;obtain⟨hi,am⟩:=gX s.hi;have al:=hd9 (show Rb 23 (leastR s).2 by obtain⟨j1,j2⟩:=zaJ (gapR s) (zbc s);unfold leastR;rw [j2];exact Rb.gap (zap T _ j1) T);have Hp:=hd9 hp;have ay : -9223372036854775808≤d:=by unfold Bd at hp;omega
 have az:d≤9223372036854775807:=by unfold Bd at hp;omega
 have HC:=hd9 (fun(W:X) (va vb:I) (ha:IsR W va (leastR s).2) (hb:IsR W vb (d:Rat))=>zaI W va vb _ _ ha hb (zav al.out oM) (zav (zkl (k:=1) Hp.out oM) oM));have hR:reachP s d=Y:=by unfold reachP;rw [if_pos o]
 rw [hR];unfold reachNo at o;obtain⟨q1,ap⟩:=gX ((leastR s).1);obtain⟨q2,ae⟩:=gX ((leastR s).2);unfold spc at HS ⊢;rw [ae]at o HC al;rw [ap,ae]at HS;simp only [f1,f2,an,am]at HS ⊢;clear h1 h2 T f1 f2 an am hR ap ae hp;go_enter Tryz.func143,Tryz.ntmps143
 go_wp2_with(((go_at_call 59;(with_reducible refine(HS.out _ ?_).mono ?_);exact eA;rintro e R ⟨r1,r2,rfl,aq,P,Q⟩;obtain⟨a4,m4,c4,s4,b4,n4,k4,rfl⟩:=aq.form;obtain⟨a5,m5,c5,s5,b5,n5,k5,rfl⟩:=P.form;obtain⟨⟨aw,ax⟩,aA,aB,aC⟩:=cK3 w Q)))
 obtain⟨j,f⟩:=gX (((R.alloc (C #[O a4 m4 c4,Z s4,O b4 n4 k4] 63)).alloc (C #[O a5 m5 c5,Z s5,O b5 n5 k5] 63)));have g:Ext R j:=by rw [←f];exact((eR _).alloc _).alloc _
 have ao:Ext w j:=(((((eR w).alloc _).alloc _).alloc _).trans Q).trans g;have g1:RB j R.heap.size q1:=by rw [←f];exact(RB.new aq rfl).ext ((eR _).alloc _)
 have g2:RB j (R.heap.size+1) q2:=by rw [←f];exact RB.new (P.ext ((eR _).alloc _)) sM
 have g3:RB j (w.heap.size+1) 0:=(((RB.new (IsR.zero _) sM).ext ((eR _).alloc _)).ext Q).ext g;have g4:RB j (w.heap.size+1+1) 0:=((RB.new (IsR.zero _) sM).ext Q).ext g;have zW:R.heap.size+1<j.heap.size:=by rw [←f];simp
 have aD:=qcB (show j.heap[R.heap.size+1]?=N (C #[O a5 m5 c5,Z s5,O b5 n5 k5] 63 (0,0)) by rw [←f];exact qhA _ _ _ sM) (i:=0) (u:=O a5 m5 c5) rfl;have aE:=qcB (show j.heap[R.heap.size+1]?=N (C #[O a5 m5 c5,Z s5,O b5 n5 k5] 63 (0,0)) by rw [←f];exact qhA _ _ _ sM) (i:=1) (u:=Z s5) rfl;have aF:=qcB (show j.heap[R.heap.size+1]?=N (C #[O a5 m5 c5,Z s5,O b5 n5 k5] 63 (0,0)) by rw [←f];exact qhA _ _ _ sM) (i:=2) (u:=O b5 n5 k5) rfl;have HX:=hd9 g;have ak:=hd9 ao;rw [f];obtain⟨s1,au⟩:=gX R.heap.size;simp only [au]at *;clear f aw ax Q g ao HS au;obtain⟨k,hk⟩:=gX q2.num.sign;have aj:=hd9 (fun(W:X) (v:I) (h:IsR W v q2)=>hk▸zbX W v q2 h);rw [hk]at o;clear hk
 by_cases aa:k<0
 ·have hd:decide (k<0)=true:=by simp [aa]
  refine wp_region_held_drew (S:=CellL [(⟨s1+1,0,Y⟩,O a5 m5 c5),(⟨s1+1,1,Y⟩,Z s5),(⟨s1+1,2,Y⟩,O b5 n5 k5)]) kM cA (fun a=>?_);refine tk1 (i:=0) ?_;refine cl1 (i:=1) fun K b=>?_
  go_simp
  (with_reducible refine cM (aj.out _ _ (P.ext (Ext.trans HX.out eA))) ?_)
  rintro e w3 ⟨rfl,x⟩
  skip
  go_wp2_with fail
  refine kO b (cE a x) (fun a=>?_);clear b K;refine sN 2 ?_
  iterate 2
   refine tkn ?_
  iterate 5
   refine tkgn ?_
  refine tkn ?_;refine oN ?_;refine wpAnyH_done kM ?_ _;go_wp2;have X3:Ext j w3:=((eR j).drew).trans x;have y:=g3.ext X3;have z:=g4.ext X3;obtain⟨pa,pm,q,ps,p,t,r,p0,p1,p2,ag,ah,ai,pz,D⟩:=y.rd;obtain⟨ea,em,ec,es,l,n,m,e0,e1,e2,ab,ac,ad,ez,L⟩:=z.rd;refine zae (fun i=>decide (2<i)) (CellL [(⟨w.heap.size+1,0,Y⟩,O pa pm q),(⟨w.heap.size+1,1,Y⟩,Z ps),(⟨w.heap.size+1,2,Y⟩,O p t r),(⟨w.heap.size+1+1,0,Y⟩,O ea em ec),(⟨w.heap.size+1+1,1,Y⟩,Z es),(⟨w.heap.size+1+1,2,Y⟩,O l n m)]) kM ?_ (fun a=>?_)
  ·exact cA
  refine sN 0 ?_
  iterate 2
   refine tun ?_
  refine oN ?_;refine cu1 (i:=2) fun K b=>?_
  go_simp;refine kO b (fun _=>?_) (fun a=>?_)
  ·exact cA
  clear b K;have a:=a rfl;refine cu1 (i:=3) fun K b=>?_
  go_simp;refine kO b (fun h=>nomatch h) (fun a=>?_);clear b K;refine cu1 (i:=4) fun K b=>?_
  go_simp;refine kO b (fun h=>nomatch h) (fun a=>?_);clear b K;refine doneHU kM ?_ _;go_wp2;refine bR (v:=.tuple #[J #[O pa pm q,Z ps,O p t r],J #[O ea em ec,Z es,O l n m],Z false]) (by simp [results,Tryz.results143,go_sem,p0,p1,p2,ag,ah,ai,e0,e1,e2,ab,ac,ad]) rfl ?_;obtain⟨P1,P2,P3,P4,P5,P6⟩:=RB.copy2 y z oM D L rfl rfl;refine⟨(P6 w (ak.out.trans X3) oM oM).drew,J #[O pa pm q,Z ps,O p t r],J #[O ea em ec,Z es,O l n m],?_,?_,rfl⟩
  ·exact(D.keep P4).ext (eR _).drew
  ·exact(L.keep P4).ext (eR _).drew
 ·have hd:decide (k<0)=false:=by simp [aa]
  rw [hd,Bool.false_or]at o;obtain⟨c,hc⟩:=gX (rcmp q2 (d:Rat));rw [hc]at o HC;clear hc;have aG:0<c:=by simpa using o
  refine wp_region_held_drew (S:=CellL [(⟨s1+1,0,Y⟩,O a5 m5 c5),(⟨s1+1,1,Y⟩,Z s5),(⟨s1+1,2,Y⟩,O b5 n5 k5)]) kM cA (fun a=>?_);have E0:Ext R j.drew:=HX.out.trans (eR j).drew;refine tk1 (i:=0) ?_;refine cl1 (i:=1) fun K b=>?_
  go_simp
  (with_reducible refine cM (aj.out _ _ (P.ext E0)) ?_)
  rintro e w3 ⟨rfl,x⟩
  skip
  go_wp2_with fail
  refine kO b (cE a x) (fun a=>?_);clear b K;refine sN 2 ?_
  iterate 4
   refine tkn ?_
  refine oN ?_;refine cl1 (i:=6) fun K b=>?_
  go_simp
  (with_reducible refine cM (za8 _ d ay az) ?_)
  rintro e w4 ⟨r4,rfl,ar,af⟩;obtain⟨a6,m6,c6,s6,b6,n6,k6,rfl⟩:=ar.form
  go_wp2_with fail
  refine kO b (cE a af) (fun a=>?_);clear b K;refine cl1 (i:=7) fun K b=>?_
  go_simp
  (with_reducible refine cM (HC.out _ _ _ (P.ext (E0.trans (x.trans af))) ar) ?_)
  rintro e w5 ⟨rfl,av⟩
  skip
  go_wp2_with fail
  refine kO b (cE a av) (fun a=>?_);clear b K;refine sN 8 ?_
  iterate 2
   refine tkn ?_
  refine oN ?_;refine wpAnyH_done kM ?_ _;have X3:Ext j w5:=((eR j).drew).trans (x.trans (af.trans av));have y:=g3.ext X3;have z:=g4.ext X3;go_wp2;obtain⟨pa,pm,q,ps,p,t,r,p0,p1,p2,ag,ah,ai,pz,D⟩:=y.rd;obtain⟨ea,em,ec,es,l,n,m,e0,e1,e2,ab,ac,ad,ez,L⟩:=z.rd;refine zae (fun i=>decide (2<i)) (CellL [(⟨w.heap.size+1,0,Y⟩,O pa pm q),(⟨w.heap.size+1,1,Y⟩,Z ps),(⟨w.heap.size+1,2,Y⟩,O p t r),(⟨w.heap.size+1+1,0,Y⟩,O ea em ec),(⟨w.heap.size+1+1,1,Y⟩,Z es),(⟨w.heap.size+1+1,2,Y⟩,O l n m)]) kM ?_ (fun a=>?_)
  ·exact cA
  refine sN 0 ?_
  iterate 2
   refine tun ?_
  refine oN ?_;refine cu1 (i:=2) fun K b=>?_
  go_simp;refine kO b (fun _=>?_) (fun a=>?_)
  ·exact cA
  clear b K;have a:=a rfl;refine cu1 (i:=3) fun K b=>?_
  go_simp;refine kO b (fun h=>nomatch h) (fun a=>?_);clear b K;refine cu1 (i:=4) fun K b=>?_
  go_simp;refine kO b (fun h=>nomatch h) (fun a=>?_);clear b K;refine doneHU kM ?_ _;go_wp2;refine bR (v:=.tuple #[J #[O pa pm q,Z ps,O p t r],J #[O ea em ec,Z es,O l n m],Z false]) (by simp [results,Tryz.results143,go_sem,p0,p1,p2,ag,ah,ai,e0,e1,e2,ab,ac,ad]) rfl ?_;obtain⟨P1,P2,P3,P4,P5,P6⟩:=RB.copy2 y z oM D L rfl rfl;refine⟨(P6 w (ak.out.trans X3) oM oM).drew,J #[O pa pm q,Z ps,O p t r],J #[O ea em ec,Z es,O l n m],?_,?_,rfl⟩
  ·exact(D.keep P4).ext (eR _).drew
  ·exact(L.keep P4).ext (eR _).drew
end
section
open Go.RowKit Go.Shelf Go.Sort
theorem zoj {x y:Int} (h:0<x) (k:x*y≤0):y≤0:=by
 by_cases a:y≤0
 ·exact a
 ·have:=Int.mul_pos h (show 0<y by omega)
  omega
theorem zoi {x y:Int} (h:0<x) (k:x*y<0):y<0:=by
 by_cases a:y<0
 ·exact a
 ·have:=Int.mul_nonneg (Int.le_of_lt h) (show 0≤y by omega)
  omega
theorem zkQ {c g d i f h:Int} (l:0<c) (m:d≤0) (n:0<f) (j:0<c*h-g*f) (k:0<d*h-i*f):c*i-g*d<0:=by
 have e:f*(c*i-g*d)=d*(c*h-g*f)-c*(d*h-i*f):=by grind
 have a:=Int.mul_pos l k;have b:d*(c*h-g*f)≤0:=Int.mul_nonpos_of_nonpos_of_nonneg m (Int.le_of_lt j);exact zoi n oM
theorem zfP {f g c h d i:Int} (n:0<f) (l:c<0) (m:0<d) (j:0≤f*h-g*c) (k:0≤f*i-g*d):c*i-h*d≤0:=by
 have e:f*(c*i-h*d)=c*(f*i-g*d)-d*(f*h-g*c):=by grind
 have a:0≤d*(f*h-g*c):=Int.mul_nonneg (Int.le_of_lt m) j;have b:c*(f*i-g*d)≤0:=Int.mul_nonpos_of_nonpos_of_nonneg (Int.le_of_lt l) k;exact zoj n oM
def LowE (cs:List (Int×Int)) (u v:Int×Int):Prop:=EdgC cs u v∧u.1<v.1
def LowV (cs:List (Int×Int)) (q:Int×Int):Prop:=∃u v,LowE cs u v∧(q=u∨q=v)
theorem Cvx.left0 {cs:List (Int×Int)} (h:Cvx cs) {u v c:Int×Int} (d:EdgC cs u v) (b:c∈cs):0≤trn u v c:=by
 by_cases a:c=u
 ·subst a;unfold trn;grind
 ·by_cases hv:c=v
  ·subst hv;unfold trn;grind
  ·exact Int.le_of_lt (h.left u v d c b a hv)
theorem LowV.mem {cs:List (Int×Int)} {q:Int×Int} (h:LowV cs q):q∈cs:=by
 obtain⟨u,v,⟨a,_⟩,rfl|rfl⟩:=h
 ·exact a.mem.1
 ·exact a.mem.2
theorem LowV.uniq {cs:List (Int×Int)} (h:Cvx cs) {u w:Int×Int} (f:LowV cs u) (c:LowV cs w) (d:u.1=w.1):u=w:=by
 have key:∀{u w:Int×Int},LowV cs u→LowV cs w→u.1=w.1→¬u.2<w.2:=by
  intro u w f c d m;obtain⟨a,b,⟨j,i⟩,c⟩:=c;have g:=h.left0 j f.mem;unfold trn at g
  rcases c with rfl|rfl
  ·have e:(b.1-w.1)*(u.2-b.2)-(b.2-w.2)*(u.1-b.1)=(b.1-w.1)*(u.2-w.2):=by rw [d];grind
   rw [e]at g;have:=Int.mul_neg_of_pos_of_neg (show 0<b.1-w.1 by omega) (show u.2-w.2<0 by omega);omega
  ·have e:(w.1-a.1)*(u.2-w.2)-(w.2-a.2)*(u.1-w.1)=(w.1-a.1)*(u.2-w.2):=by rw [d];grind
   rw [e]at g;have:=Int.mul_neg_of_pos_of_neg (show 0<w.1-a.1 by omega) (show u.2-w.2<0 by omega);omega
 have k:=key f c d;have l:=key c f d.symm;exact Prod.ext d oM
theorem EdgC.next {cs:List (Int×Int)} {a:Int×Int} (h:a∈cs) (b:2≤cs.length):∃s,EdgC cs a s:=by
 obtain⟨A,B,rfl⟩:=List.append_of_mem h
 cases B with
 | cons s B=>exact⟨s,.inl ⟨A,B,rfl⟩⟩
 | nil =>
  cases A with
  | nil=>simp at b
  | cons v M=>exact⟨v,.inr ⟨M,by simp⟩⟩
theorem LowV.goes {cs:List (Int×Int)} (h:Cvx cs) {a b:Int×Int} (f:LowV cs a) (n:b∈cs) (q:a.1<b.1):∃b',LowE cs a b':=by
 obtain⟨u,v,⟨d,l⟩,f⟩:=f
 rcases f with rfl|rfl
 ·exact⟨v,d,l⟩
 ·obtain⟨s,j⟩:=EdgC.next d.mem.2 (by have:=h.three;omega)
  by_cases k:a.1<s.1
  ·exact⟨s,j,k⟩
  ·exfalso
   have g:b≠s:=by rintro rfl;omega
   have c:b≠a:=by rintro rfl;omega
   have i:b≠u:=by rintro rfl;omega
   have m:=h.left u a d b n i c;have e:=h.left a s j b n c g;have p:=h.left0 d j.mem.2;unfold trn at m e p;have o:(s.1-a.1)*(b.2-s.2)-(s.2-a.2)*(b.1-s.1)=(s.1-a.1)*(b.2-a.2)-(s.2-a.2)*(b.1-a.1):=by grind
   rw [o]at e;have:=zkQ (show 0<a.1-u.1 by omega) (show s.1-a.1≤0 by omega) (show 0<b.1-a.1 by omega) m e;omega
theorem LowV.edge {cs:List (Int×Int)} (h:Cvx cs) {a b:Int×Int} (y:LowV cs a) (l:LowV cs b) (m:a.1<b.1) (r:∀q,LowV cs q→¬(a.1<q.1∧q.1<b.1)):LowE cs a b:=by
 obtain⟨e,i,u⟩:=y.goes h l.mem m;have f:LowV cs e:=⟨a,e,⟨i,u⟩,.inr rfl⟩
 by_cases o:e.1=b.1
 ·rw [←f.uniq h l o];exact⟨i,u⟩
 ·have D:b.1<e.1:=by
   have:=r e f;omega
  exfalso
  have n:b≠a:=by rintro rfl;omega
  have g:b≠e:=by rintro rfl;omega
  have s:=h.left a e i b l.mem n g;obtain⟨c,d,⟨t,z⟩,p⟩:=l;have j:=h.left0 t i.mem.1;have k:=h.left0 t i.mem.2;unfold trn at s j k;have v:(e.1-a.1)*(b.2-e.2)-(e.2-a.2)*(b.1-e.1)=(a.1-b.1)*(e.2-b.2)-(a.2-b.2)*(e.1-b.1):=by grind
  rw [v]at s
  rcases p with rfl|rfl
  ·have w:(d.1-b.1)*(a.2-d.2)-(d.2-b.2)*(a.1-d.1)=(d.1-b.1)*(a.2-b.2)-(d.2-b.2)*(a.1-b.1):=by grind
   have x:(d.1-b.1)*(e.2-d.2)-(d.2-b.2)*(e.1-d.1)=(d.1-b.1)*(e.2-b.2)-(d.2-b.2)*(e.1-b.1):=by grind
   rw [w]at j;rw [x]at k;have:=zfP (show 0<d.1-b.1 by omega) (show a.1-b.1<0 by omega) (show 0<e.1-b.1 by omega) j k;omega
  ·have:=zfP (show 0<b.1-c.1 by omega) (show a.1-b.1<0 by omega) (show 0<e.1-b.1 by omega) j k
   omega
end
section
open Go.RowKit Go.Shelf Go.Sort Go.Lib
theorem zbq {l m:List (Int×Int)} (s:l.Perm m) (q:∀x∈l,BP x) (c:m.Pairwise fun x y=>x.1<y.1):sortX l=m:=by
 have n:=zcw q;have f:=(zaX l).trans s;refine List.Perm.eq_of_pairwise (le:=fun x y=>x.1≤y.1) ?_ n (c.imp fun h=>by omega) f;intro a b o e p r;have d:a∈m:=f.mem_iff.1 o;obtain⟨i,g,rfl⟩:=List.getElem_of_mem d;obtain⟨j,k,rfl⟩:=List.getElem_of_mem e;rw [List.pairwise_iff_getElem]at c
 rcases Nat.lt_trichotomy i j with h|h|h
 ·have:=c i j g k h;omega
 ·subst h;rfl
 ·have:=c j i k g h;omega
def insI (z:Int):List Int→List Int
 | []=>[z]
 | y::ys=>if z≤y then z::y::ys else y::insI z ys
def sortI:List Int→List Int
 | []=>[]
 | z::zs=>insI z (sortI zs)
theorem zdR (z:Int):∀ys,(insI z ys).Perm (z::ys)
 | []=>List.Perm.refl _
 | y::ys=>by
  unfold insI
  split
  ·exact List.Perm.refl _
  ·exact((zdR z ys).cons y).trans (List.Perm.swap _ _ _)
theorem zeE (z:Int):∀ys,ys.Pairwise (fun x y:Int=>x≤y)→(insI z ys).Pairwise (fun x y:Int=>x≤y)
 | [],_=>by unfold insI;exact List.pairwise_singleton _ _
 | y::ys,h=>by
  obtain⟨c,d⟩:=List.pairwise_cons.1 h;unfold insI
  split
  ·rename_i hz
   refine List.pairwise_cons.2 ⟨fun a b=>?_,h⟩
   rcases List.mem_cons.1 b with rfl|b
   ·exact hz
   ·exact Int.le_trans hz (c a b)
  ·rename_i hz
   refine List.pairwise_cons.2 ⟨fun a b=>?_,zeE z ys d⟩
   rcases List.mem_cons.1 ((zdR z ys).mem_iff.1 b)with rfl|b
   ·omega
   ·exact c a b
theorem zeQ:∀zs,(sortI zs).Perm zs
 | []=>List.Perm.refl _
 | z::zs=>(zdR z _).trans ((zeQ zs).cons z)
theorem zel:∀zs,(sortI zs).Pairwise (fun x y:Int=>x≤y)
 | []=>List.Pairwise.nil
 | z::zs=>zeE z _ (zel zs)
theorem zcO:isort=sortI:=by
 funext zs
 unfold isort;refine List.Perm.eq_of_pairwise (le:=fun x y:Int=>x≤y) (fun a b _ _ d e=>Int.le_antisymm d e) ?_ (zel zs) ((List.mergeSort_perm zs _).trans (zeQ zs).symm);have:=List.pairwise_mergeSort (le:=fun x y:Int=>decide (x≤y)) (fun a b c d e=>by simp at *;omega) (fun a b=>by simp;omega) zs;exact this.imp fun h=>by simpa using h
end
section
open Go.RowKit Go.Shelf Go.Sort
def ngP (p:Int×Int):Int×Int:=(-p.1,-p.2)
theorem zaR (p:Int×Int):ngP (ngP p)=p:=by unfold ngP;simp
theorem Cvx.ng {cs:List (Int×Int)} (h:Cvx cs):Cvx (cs.map ngP):=
 h.map _ (fun u v c=>by unfold trn ngP;dsimp only;grind) (fun x y e=>by rw [←zaR x,e,zaR])
theorem EdgC.maps {cs:List (Int×Int)} (f:Int×Int→Int×Int) {u v:Int×Int} (h:EdgC cs u v):EdgC (cs.map f) (f u) (f v):=by
 rcases h with ⟨A,B,rfl⟩|⟨M,rfl⟩
 ·exact .inl ⟨A.map f,B.map f,by simp⟩
 ·exact .inr ⟨M.map f,by simp⟩
theorem EdgC.ng {cs:List (Int×Int)} {u v:Int×Int} (h:EdgC (cs.map ngP) u v):EdgC cs (ngP u) (ngP v):=by
 have:=h.maps ngP
 rwa [List.map_map,show ngP ∘ ngP=id from funext zaR,List.map_id]at this
def UpE (cs:List (Int×Int)) (u v:Int×Int):Prop:=EdgC cs u v∧v.1<u.1
def UpV (cs:List (Int×Int)) (q:Int×Int):Prop:=∃u v,UpE cs u v∧(q=u∨q=v)
theorem UpE.ng {cs:List (Int×Int)} {u v:Int×Int}:UpE cs u v ↔ LowE (cs.map ngP) (ngP u) (ngP v):=by
 constructor
 ·rintro ⟨h,k⟩
  exact⟨h.maps ngP,by unfold ngP;dsimp only;omega⟩
 ·rintro ⟨h,k⟩
  have:=h.ng;rw [zaR,zaR]at this;exact⟨this,by unfold ngP at k;dsimp only at k;omega⟩
theorem UpV.ng {cs:List (Int×Int)} {q:Int×Int}:UpV cs q ↔ LowV (cs.map ngP) (ngP q):=by
 constructor
 ·rintro ⟨u,v,h,a⟩
  exact⟨ngP u,ngP v,UpE.ng.1 h,by rcases a with rfl|rfl<;>simp⟩
 ·rintro ⟨u,v,h,a⟩
  refine⟨ngP u,ngP v,UpE.ng.2 (by rw [zaR,zaR];exact h),?_⟩
  rcases a with rfl|rfl
  ·exact .inl (zaR q).symm
  ·exact .inr (zaR q).symm
theorem UpV.uniq {cs:List (Int×Int)} (h:Cvx cs) {u w:Int×Int} (a:UpV cs u) (b:UpV cs w) (c:u.1=w.1):u=w:=by
 have:=LowV.uniq h.ng (UpV.ng.1 a) (UpV.ng.1 b) (by unfold ngP;dsimp only;omega);rw [←zaR u,this,zaR]
theorem UpV.edge {cs:List (Int×Int)} (h:Cvx cs) {a b:Int×Int} (e:UpV cs a) (g:UpV cs b) (f:a.1<b.1) (c:∀q,UpV cs q→¬(a.1<q.1∧q.1<b.1)):UpE cs b a:=by
 refine UpE.ng.2 (LowV.edge h.ng (UpV.ng.1 g) (UpV.ng.1 e) (by unfold ngP;dsimp only;omega) (fun q i d=>?_));refine c (ngP q) (UpV.ng.2 (by rw [zaR];exact i)) ?_;unfold ngP at d ⊢;dsimp only at d ⊢;omega
theorem zbP {cs:List (Int×Int)} (c:2≤cs.length) {u v:Int×Int}:EdgC cs u v ↔ ∃i,i<cs.length∧cs.getD i (0,0)=u∧cs.getD ((i+1) % cs.length) (0,0)=v:=by
 constructor
 ·rintro (⟨A,B,e⟩|⟨M,e⟩)
  ·have k:A.length+1<cs.length:=by rw [e];simp
   refine⟨A.length,by omega,?_,?_⟩
   ·rw [gD,e];simp
   ·rw [Nat.mod_eq_of_lt k,gD,e];simp
  ·have l:cs.length=M.length+2:=by rw [e];simp
   refine⟨M.length+1,by omega,?_,?_⟩
   ·rw [gD,e];simp
   ·rw [show M.length+1+1=cs.length by omega,Nat.mod_self,gD,e];simp
 ·rintro ⟨i,b,rfl,rfl⟩
  have g:∀j,(hj:j<cs.length)→cs.getD j (0,0)=cs[j]:=fun j hj=>by rw [gD,gE hj];rfl
  by_cases a:i+1<cs.length
  ·rw [Nat.mod_eq_of_lt a,g i b,g (i+1) a]
   refine .inl ⟨cs.take i,cs.drop (i+1+1),?_⟩;rw [←List.drop_eq_getElem_cons a,←List.drop_eq_getElem_cons b,List.take_append_drop]
  ·have e:i+1=cs.length:=oM
   rw [e,Nat.mod_self,g i b,g 0 oM]
   right
   cases cs with
   | nil=>simp at c
   | cons v r =>
    have d:r≠[]:=by rintro rfl;simp at c
    refine⟨r.dropLast,?_⟩
    have h:(v::r)[i]=r.getLast d:=by
     rw [List.getLast_eq_getElem];simp only [List.length_cons]at e;obtain⟨f,rfl⟩:∃f,i=f+1:=⟨i-1,by have:=List.length_pos_iff.2 d;omega⟩;simp only [List.getElem_cons_succ]
     congr 1
     omega
    rw [h];simp [List.dropLast_concat_getLast]
theorem zdb {cs:List (Int×Int)} (c:2≤cs.length) {q:Int×Int}:q∈lowRaw cs cs.length ↔ LowV cs q:=by
 unfold lowRaw LowV LowE;rw [List.mem_flatMap]
 constructor
 ·rintro ⟨i,b,a⟩
  rw [List.mem_range]at b;unfold edgeLow at a
  split at a
  ·rename_i hx
   refine⟨_,_,⟨(zbP c).2 ⟨i,b,rfl,rfl⟩,hx⟩,?_⟩
   simpa using a
  ·cases a
 ·rintro ⟨u,v,⟨d,hx⟩,a⟩
  obtain⟨i,b,rfl,rfl⟩:=(zbP c).1 d;refine⟨i,List.mem_range.2 b,?_⟩;unfold edgeLow;rw [if_pos hx]
  simpa using a
theorem zdX {cs:List (Int×Int)} (c:2≤cs.length) {q:Int×Int}:q∈upRaw cs cs.length ↔ UpV cs q:=by
 unfold upRaw UpV UpE;rw [List.mem_flatMap]
 constructor
 ·rintro ⟨i,b,a⟩
  rw [List.mem_range]at b;unfold edgeUp at a
  split at a
  ·rename_i hx
   refine⟨_,_,⟨(zbP c).2 ⟨i,b,rfl,rfl⟩,hx⟩,?_⟩
   simpa using a
  ·cases a
 ·rintro ⟨u,v,⟨d,hx⟩,a⟩
  obtain⟨i,b,rfl,rfl⟩:=(zbP c).1 d;refine⟨i,List.mem_range.2 b,?_⟩;unfold edgeUp;rw [if_pos hx]
  simpa using a
theorem zbn {α:Type} [DecidableEq α]:∀{c:List α} {x:α},x∈c→x∈compactP c
 | [a],x,h=>by simpa [compactP] using h
 | a::b::r,x,h=>by
  rw [compactP]
  split
  ·rename_i e
   subst e
   rcases List.mem_cons.1 h with rfl|h
   ·exact zbn (by simp)
   ·exact zbn h
  ·rcases List.mem_cons.1 h with rfl|h
   ·simp
   ·exact mC _ (zbn h)
theorem zeJ {a:List (Int×Int)} {q:Int×Int}:q∈lineOf a ↔ q∈a:=
 ⟨fun h=>(zaX a).mem_iff.1 (za3 h),fun h=>zbn ((zaX a).mem_iff.2 h)⟩
def Rise (l:List (Int×Int)):Prop:=l.Pairwise fun x y=>x.1<y.1
theorem zcD:∀(l:List (Int×Int)),l.Pairwise (fun x y=>x.1≤y.1)→(∀x∈l,∀y∈l,x.1=y.1→x=y)→Rise (compactP l)
 | [],_,_=>List.Pairwise.nil
 | [a],_,_=>by unfold Rise;simp [compactP]
 | a::b::r,h,hu=>by
  obtain⟨f,g⟩:=List.pairwise_cons.1 h;have i:=zcD (b::r) g (fun x m y d=>hu x (mC _ m) y (mC _ d));rw [compactP]
  split
  ·exact i
  ·rename_i hne
   refine List.pairwise_cons.2 ⟨fun y d=>?_,i⟩;have c:=za3 d;have k:=f y c;have n:=f b sM
   have j:b.1≤y.1:=by
    rcases List.mem_cons.1 c with rfl|c
    ·exact Int.le_refl _
    ·exact(List.pairwise_cons.1 g).1 y c
   have:a.1≠b.1:=fun e=>hne (hu a sM b sM e)
   omega
theorem zdU {k:Int} {a:List (Int×Int)} (e:PBd k a) (c:k≤1000000) (f:∀x∈a,∀y∈a,x.1=y.1→x=y):Rise (lineOf a):=by
 have d:=zaX a
 exact zcD _ (zcw fun x b=>by
  have:=e x b;unfold BP;exact⟨this.1.mono c,this.2.mono c⟩) (fun x b y g=>f x (d.mem_iff.1 b) y (d.mem_iff.1 g))
theorem Rise.between {l:List (Int×Int)} (h:Rise l) {e:Edg} (d:e∈eds l):e.1∈l∧e.2∈l∧e.1.1<e.2.1∧∀q∈l,¬(e.1.1<q.1∧q.1<e.2.1):=by
 unfold eds at d;obtain⟨i,f,rfl⟩:=List.getElem_of_mem d;have b:i+1<l.length:=by rw [List.length_zip,List.length_tail]at f;omega
 have k:(l.zip l.tail)[i]'f=(l[i]' oM,l[i+1]'b):=sM
 rw [k];have c:=List.pairwise_iff_getElem.1 h;refine⟨List.getElem_mem _,List.getElem_mem _,c i (i+1) oM b oM,fun q n=>?_⟩;obtain⟨j,g,rfl⟩:=List.getElem_of_mem n;dsimp only;rintro ⟨o,p⟩
 rcases Nat.lt_trichotomy j i with a|rfl|a
 ·have:=c j i g oM a;omega
 ·omega
 ·rcases Nat.lt_or_eq_of_le (show i+1≤j from a)with m|rfl
  ·have:=c (i+1) j b g m;omega
  ·omega
theorem zaL {p:Pl} (h:placedOk p=true):Rise (lowP2 p)∧(∀q,q∈lowP2 p ↔ LowV (cornersP p) q)∧∀e∈eds (lowP2 p),LowE (cornersP p) e.1 e.2:=by
 have c:=zbg h;have b:2≤(cornersP p).length:=by have:=c.three;omega
 obtain⟨i,r,h12⟩:=zaM h;have l:=zfX i (nE _);have a:∀q,q∈lowP2 p ↔ LowV (cornersP p) q:=fun q=>by unfold lowP2;rw [zeJ,zdb b]
 have g:Rise (lowP2 p):=zdU l.1 dM (fun x f y m e=>LowV.uniq c ((zdb b).1 f) ((zdb b).1 m) e);refine⟨g,a,fun e j=>?_⟩;obtain⟨n,o,f,d⟩:=g.between j;exact LowV.edge c ((a _).1 n) ((a _).1 o) f (fun q k=>d q ((a q).2 k))
theorem zb0 {p:Pl} (h:placedOk p=true):Rise (upP2 p)∧(∀q,q∈upP2 p ↔ UpV (cornersP p) q)∧∀e∈eds (upP2 p),UpE (cornersP p) e.2 e.1:=by
 have c:=zbg h;have b:2≤(cornersP p).length:=by have:=c.three;omega
 obtain⟨i,r,h12⟩:=zaM h;have l:=zfX i (nE _);have a:∀q,q∈upP2 p ↔ UpV (cornersP p) q:=fun q=>by unfold upP2;rw [zeJ,zdX b]
 have g:Rise (upP2 p):=zdU l.2 dM (fun x f y m e=>UpV.uniq c ((zdX b).1 f) ((zdX b).1 m) e);refine⟨g,a,fun e j=>?_⟩;obtain⟨n,o,f,d⟩:=g.between j;exact UpV.edge c ((a _).1 n) ((a _).1 o) f (fun q k=>d q ((a q).2 k))
def xh (k:Int):Rat:=((2*k+1:Int):Rat) / 2
theorem zhA (x y:Rat):rcmp x y≤0 ↔ x≤y:=by
 rw [←Int.not_lt,zku,Rat.not_lt]
theorem zmN (k:Int):xh k*2=((2*k+1:Int):Rat):=by unfold xh;rw [Rat.div_mul_cancel dM]
theorem zpi (k m:Int):xh k≤(m:Rat) ↔ k<m:=by
 have c:(0:Rat)≤2:=dM
 have b:(m:Rat)*2=((m*2:Int):Rat):=by rw [Rat.intCast_mul];rfl
 constructor
 ·intro h
  have:=Rat.mul_le_mul_of_nonneg_right h c;rw [zmN,b,Rat.intCast_le_intCast]at this;omega
 ·intro h
  refine Rat.not_lt.1 fun a=>?_
  have:=Rat.mul_le_mul_of_nonneg_right (Rat.le_of_lt a) c;rw [zmN,b,Rat.intCast_le_intCast]at this;omega
theorem zfE (k:Int):∀(l:List (Int×Int)) (a:Int×Int),a.1≤k→(∃b∈l,k<b.1)→∃e∈eds (a::l),e.1.1≤k∧k<e.2.1∧(eds (a::l)).find? (xLe (xh k))=N e
 | [],a,_,⟨b,d,_⟩=>by cases d
 | b::r,a,ha,h=>by
  have e:eds (a::b::r)=(a,b)::eds (b::r):=rfl
  have j:xLe (xh k) (a,b)=decide (k<b.1):=by
   unfold xLe;rw [decide_eq_decide,zhA,zpi]
  rw [e]
  by_cases d:k<b.1
  ·refine⟨(a,b),by simp,ha,d,?_⟩
   rw [List.find?_cons,j,decide_eq_true d]
  ·obtain⟨m,c,i⟩:=h
   have f:∃b∈r,k<b.1:=by
    rcases List.mem_cons.1 c with rfl|c
    ·exact absurd i d
    ·exact⟨m,c,i⟩
   obtain⟨n,g,o,p,q⟩:=zfE k r b oM f;refine⟨n,mC _ g,o,p,?_⟩;rw [List.find?_cons,j,decide_eq_false d];exact q
theorem znp {l:List (Int×Int)} {k:Int} (d:l≠[]) (i:lineL l≤k) (c:k<lineR l):∃e∈eds l,e.1.1≤k∧k<e.2.1∧atR l (xh k)=atE (xh k) e:=by
 cases l with
 | nil=>exact absurd rfl d
 | cons a r =>
  have j:a.1≤k:=i
  have n:∃b∈r,k<b.1:=by
   cases r with
   | nil=>unfold lineR at c;simp at c;omega
   | cons b r =>
    refine⟨(b::r).getLast sM,List.getLast_mem _,?_⟩;unfold lineR at c;rw [gD,gE sM]at c;simp only [Option.getD_some]at c;rw [List.getLast_eq_getElem]
    simpa using c
  obtain⟨e,m,f,g,h⟩:=zfE k r a j n;refine⟨e,m,f,g,?_⟩;unfold atR;rw [h]
theorem third {cs:List (Int×Int)} (h:Cvx cs) (u v:Int×Int):∃c∈cs,c≠u∧c≠v:=by
 apply Classical.byContradiction
 intro d
 have f:∀c∈cs,c∈[u,v]:=fun c b=>by
  apply Classical.byContradiction
  intro a;exact d ⟨c,b,fun e=>a (by simp [e]),fun e=>a (by simp [e])⟩
 have:=List.Nodup.length_le_of_subset h.nd f;have:=h.three;simp at *;omega
theorem EdgC.ne {cs:List (Int×Int)} (h:Cvx cs) {u v:Int×Int} (f:EdgC cs u v):u≠v:=by
 rintro rfl;obtain⟨c,d,a,b⟩:=third h u u;have:=h.left u u f c d a b;unfold trn at this;have e:(u.1-u.1)*(c.2-u.2)-(u.2-u.2)*(c.1-u.1)=0:=by grind
 omega
theorem Cvx.minLow {cs:List (Int×Int)} (h:Cvx cs):∃u,LowV cs u∧∀c∈cs,u.1≤c.1:=by
 obtain⟨v,hv,a⟩:=zfN (fun q:Int×Int=>q.1) (S:=cs) (by rintro rfl;have:=h.three;simp at this);have r:2≤cs.length:=by have:=h.three;omega
 obtain⟨s,j⟩:=EdgC.next hv r
 by_cases n:v.1<s.1
 ·exact⟨v,⟨v,s,⟨j,n⟩,.inl rfl⟩,a⟩
 have d:=j.mem.2;have o:s.1=v.1:=by have:=a s d;omega
 obtain⟨t,k⟩:=EdgC.next d r
 by_cases l:s.1<t.1
 ·exact⟨s,⟨s,t,⟨k,l⟩,.inl rfl⟩,fun c i=>by rw [o];exact a c i⟩
 exfalso
 have f:=k.mem.2;have y:t.1=v.1:=by have:=a t f;omega
 by_cases g:t=v
 ·subst g
  obtain⟨c,i,p,w⟩:=third h t s;have b:=h.left t s j c i p w;have x:=h.left s t k c i w p;unfold trn at b x;have e:(s.1-t.1)*(c.2-s.2)-(s.2-t.2)*(c.1-s.1)+((t.1-s.1)*(c.2-t.2)-(t.2-s.2)*(c.1-t.1))=0:=by grind
  omega
 ·have m:t≠s:=fun e=>(k.ne h) e.symm
  have b:=h.left v s j t f g m;unfold trn at b;rw [o,y,Int.sub_self]at b;simp at b
def mzP (p:Int×Int):Int×Int:=(p.1,-p.2)
theorem zff (p:Int×Int):mzP (mzP p)=p:=by unfold mzP;simp
theorem Cvx.mz {cs:List (Int×Int)} (h:Cvx cs):Cvx (cs.map mzP).reverse:=
 h.flip _ (fun u v c=>by unfold trn mzP;dsimp only;grind) (fun x y e=>by rw [←zff x,e,zff])
theorem LowV.mz {cs:List (Int×Int)} {q:Int×Int} (h:LowV (cs.map mzP).reverse q):UpV cs (mzP q):=by
 obtain⟨u,v,⟨e,d⟩,f⟩:=h;obtain⟨i,g,b,c,a⟩:=(EdgC.rev e).map;refine⟨i,g,⟨a,?_⟩,?_⟩
 ·rw [b,c]at d
  exact d
 ·rcases f with rfl|rfl
  ·right;rw [c,zff]
  ·left;rw [b,zff]
theorem Cvx.minUp {cs:List (Int×Int)} (h:Cvx cs):∃u,UpV cs u∧∀c∈cs,u.1≤c.1:=by
 obtain⟨u,d,b⟩:=h.mz.minLow;refine⟨mzP u,d.mz,fun c a=>?_⟩;exact b (mzP c) (List.mem_reverse.2 (List.mem_map_of_mem a))
theorem Cvx.maxLow {cs:List (Int×Int)} (h:Cvx cs):∃u,LowV cs u∧∀c∈cs,c.1≤u.1:=by
 obtain⟨u,d,b⟩:=h.ng.minUp;refine⟨ngP u,?_,fun c a=>?_⟩
 ·have:=UpV.ng.1 d
  rwa [List.map_map,show ngP ∘ ngP=id from funext zaR,List.map_id]at this
 ·have:=b (ngP c) (List.mem_map_of_mem a)
  unfold ngP at *;dsimp only at *;omega
theorem Cvx.maxUp {cs:List (Int×Int)} (h:Cvx cs):∃u,UpV cs u∧∀c∈cs,c.1≤u.1:=by
 obtain⟨u,d,b⟩:=h.ng.minLow;refine⟨ngP u,UpV.ng.2 (by rw [zaR];exact d),fun c a=>?_⟩;have:=b (ngP c) (List.mem_map_of_mem a);unfold ngP at *;dsimp only at *;omega
theorem Rise.ends {l:List (Int×Int)} (h:Rise l) (c:l≠[]):(∃q∈l,q.1=lineL l)∧(∃q∈l,q.1=lineR l)∧∀q∈l,lineL l≤q.1∧q.1≤lineR l:=by
 have a:=List.length_pos_iff.2 c;have j:=List.pairwise_iff_getElem.1 h;have d:lineL l=(l[0]'a).1:=by unfold lineL;rw [gD,gE a];rfl
 have e:lineR l=(l[l.length-1]' oM).1:=by unfold lineR;rw [gD,gE oM];rfl
 refine⟨⟨_,List.getElem_mem a,d.symm⟩,⟨_,List.getElem_mem oM,e.symm⟩,fun q k=>?_⟩;obtain⟨i,g,rfl⟩:=List.getElem_of_mem k;rw [d,e]
 constructor
 ·rcases Nat.eq_zero_or_pos i with rfl|b
  ·exact Int.le_refl _
  ·have:=j 0 i a g b;omega
 ·rcases Nat.lt_or_ge i (l.length-1)with f|f
  ·have:=j i (l.length-1) g oM f;omega
  ·have:i=l.length-1:=oM
   subst this;exact Int.le_refl _
theorem UpV.mem {cs:List (Int×Int)} {q:Int×Int} (h:UpV cs q):q∈cs:=by
 obtain⟨u,v,⟨a,_⟩,rfl|rfl⟩:=h
 ·exact a.mem.1
 ·exact a.mem.2
theorem zaW {p:Pl} (h:placedOk p=true):lineL (upP2 p)=lineL (lowP2 p)∧lineR (upP2 p)=lineR (lowP2 p)∧lineL (lowP2 p)<lineR (lowP2 p)∧lowP2 p≠[]∧upP2 p≠[]:=by
 have s:=zbg h;obtain⟨W,k,d1⟩:=zaL h;obtain⟨r2,l,d2⟩:=zb0 h;obtain⟨a,z,f⟩:=s.minLow;obtain⟨b,L,g⟩:=s.minUp;obtain⟨c,D,i⟩:=s.maxLow;obtain⟨d,T,j⟩:=s.maxUp;have R:lowP2 p≠[]:=fun e=>by have:=(k a).2 z;rw [e]at this;cases this
 have S:upP2 p≠[]:=fun e=>by have:=(l b).2 L;rw [e]at this;cases this
 obtain⟨⟨t,m,e1⟩,⟨w,n,e2⟩,r⟩:=W.ends R;obtain⟨⟨x,o,e3⟩,⟨y,q,e4⟩,K⟩:=r2.ends S;have g1:=r a ((k a).2 z);have g2:=K b ((l b).2 L);have g3:=r c ((k c).2 D);have g4:=K d ((l d).2 T);have k1:=f x ((l x).1 o).mem;have k2:=g t ((k t).1 m).mem;have k3:=i y ((l y).1 q).mem;have k4:=j w ((k w).1 n).mem;have k5:=f t ((k t).1 m).mem;have k6:=g x ((l x).1 o).mem;have k7:=i w ((k w).1 n).mem;have k8:=j y ((l y).1 q).mem;refine⟨by omega,by omega,?_,R,S⟩;obtain⟨u,v,⟨P,Q⟩,_⟩:=z;have hu:=r u ((k u).2 ⟨u,v,⟨P,Q⟩,.inl rfl⟩);have hv:=r v ((k v).2 ⟨u,v,⟨P,Q⟩,.inr rfl⟩);omega
end
section
open Go.RowKit Go.Shelf
def betL (by':Int) (a b:Int×Int):Prop:=a.1<b.1∨(a.1=b.1∧by'*(a.2-b.2)<0)
instance (by':Int) (a b:Int×Int):Decidable (betL by' a b):=by unfold betL;infer_instance
def staN (l:List (Int×Int)) (by':Int):Nat→Nat
 | 0=>0
 | i+1=>if betL by' (ptN l i) (ptN l (staN l by' i))then i else staN l by' i
theorem zkH (l:List (Int×Int)) {by':Int} (d:by'=1∨by' = -1):∀n,staN l by' (n+1)<n+1∧∀j,j<n+1→¬betL by' (ptN l j) (ptN l (staN l by' (n+1))):=by
 intro n
 induction n with
 | zero =>
  have e:staN l by' 1=0:=by unfold staN;split<;>rfl
  rw [e];refine⟨by omega,fun j g=>?_⟩;obtain rfl:j=0:=oM
  unfold betL
  rcases d with rfl|rfl<;>omega
 | succ n m =>
  obtain⟨h,b⟩:=m;have k:staN l by' (n+1+1)=if betL by' (ptN l (n+1)) (ptN l (staN l by' (n+1)))then n+1 else staN l by' (n+1):=rfl
  rw [k];obtain⟨f,i⟩:=gX (staN l by' (n+1));rw [i]at h b ⊢
  by_cases c:betL by' (ptN l (n+1)) (ptN l f)
  ·rw [if_pos c]
   refine⟨by omega,fun j g=>?_⟩
   by_cases a:j=n+1
   ·subst a
    unfold betL
    rcases d with rfl|rfl<;>omega
   ·have:=b j oM
    unfold betL at *
    rcases d with rfl|rfl<;>omega
  ·rw [if_neg c]
   refine⟨by omega,fun j g=>?_⟩
   by_cases a:j=n+1
   ·subst a;exact c
   ·exact b j oM
def ixN (n s:Nat) (by':Int) (k:Nat):Nat:=(((s:Int)+by'*(k:Int)) % (n:Int)).toNat
theorem zii {n s k:Nat} {by':Int} (h:0<n):ixN n s by' k<n:=by
 unfold ixN;have a:=Int.emod_nonneg ((s:Int)+by'*(k:Int)) (show (n:Int)≠0 by omega);have b:=Int.emod_lt_of_pos ((s:Int)+by'*(k:Int)) (show 0<(n:Int) by omega);omega
theorem zgC {n s:Nat} {by':Int} (h:s<n):ixN n s by' 0=s:=by
 unfold ixN;simp only [Int.natCast_zero,Int.mul_zero,Int.add_zero];rw [Int.emod_eq_of_lt oM oM];omega
theorem ze8 {n s k:Nat} {by':Int} (h:0<n):(ixN n s by' k:Int)=((s:Int)+by'*(k:Int)) % (n:Int):=by
 unfold ixN;have a:=Int.emod_nonneg ((s:Int)+by'*(k:Int)) (show (n:Int)≠0 by omega);omega
theorem zgB {n s k:Nat} {by':Int} (h:0<n):(((ixN n s by' k:Nat):Int)+by'+(n:Int)) % (n:Int)=((ixN n s by' (k+1):Nat):Int):=by
 rw [ze8 h,ze8 h,Int.add_emod_right,Int.emod_add_emod]
 congr 1
 rw [Int.natCast_add]
 grind
theorem zjM {n s k:Nat} (h:0<n):(ixN n s 1 k+1) % n=ixN n s 1 (k+1):=by
 have:=zgB (n:=n) (s:=s) (k:=k) (by':=1) h;rw [Int.add_emod_right]at this;have e:(((ixN n s 1 k+1) % n:Nat):Int)=((ixN n s 1 k:Nat)+1:Int) % n:=by rw [Int.natCast_emod,Int.natCast_add];rfl
 omega
theorem zjN {n s k:Nat} (h:0<n):(ixN n s (-1) (k+1)+1) % n=ixN n s (-1) k:=by
 have a:=ze8 (n:=n) (s:=s) (k:=k+1) (by':=-1) h;have b:=ze8 (n:=n) (s:=s) (k:=k) (by':=-1) h;have e:(((ixN n s (-1) (k+1)+1) % n:Nat):Int)=((ixN n s (-1) (k+1):Nat)+1:Int) % n:=by rw [Int.natCast_emod,Int.natCast_add];rfl
 have:(((ixN n s (-1) (k+1)+1) % n:Nat):Int)=((ixN n s (-1) k:Nat):Int):=by
  rw [e,a,b,Int.emod_add_emod]
  congr 1
  rw [Int.natCast_add]
  grind
 omega
structure ChL (cs:List (Int×Int)) (by':Int) (L:List (Int×Int)):Prop where
 ne:L≠[]
 pos:0<cs.length
 at':∀k,k<L.length→ptN L k=ptN cs (ixN cs.length (staN cs by' cs.length) by' k)
 up:∀k,k+1<L.length→(ptN L k).1<(ptN L (k+1)).1
 stop:(ptN cs (ixN cs.length (staN cs by' cs.length) by' L.length)).1≤(ptN L (L.length-1)).1
theorem zan {l:List (Int×Int)} {i:Nat} (h:i<l.length):ptN l i=l[i]:=by
 unfold ptN;rw [gD,gE h];rfl
theorem zau {l:List (Int×Int)} {i:Nat} (h:i<l.length):ptN l i∈l:=by rw [zan h];exact List.getElem_mem h
theorem zkn {l:List (Int×Int)} (h:l.Nodup) {i j:Nat} (b:i<l.length) (c:j<l.length) (e:ptN l i=ptN l j):i=j:=by
 rw [zan b,zan c]at e;have d:=List.pairwise_iff_getElem.1 h
 rcases Nat.lt_trichotomy i j with a|a|a
 ·exact absurd e (d i j b c a)
 ·exact a
 ·exact absurd e.symm (d j i c b a)
theorem zmo {l:List (Int×Int)} {k:Nat} (h:k+1<l.length):(ptN l k,ptN l (k+1))∈eds l:=by
 refine lM (i:=k) (zgs ?_ ?_)
 ·rw [zan oM];exact gE _
 ·rw [zan h];exact gE _
theorem zdf {l:List (Int×Int)} (h:Rise l) {i j:Nat} (a:i<j) (b:j<l.length):(ptN l i).1<(ptN l j).1:=by
 rw [zan oM,zan b];exact List.pairwise_iff_getElem.1 h i j oM b a
theorem zml {cs L:List (Int×Int)} {by':Int} (v:by'=1∨by' = -1) (g:cs.Nodup) (W:3≤cs.length) (R:Rise L) (l:L≠[]) (p:∀q∈L,q∈cs)
  (y:∀c∈cs,c≠ptN L 0→betL by' (ptN L 0) c)
  (t:∀k,k+1<L.length→∃i,i<cs.length∧(by'=1→ptN cs i=ptN L k∧ptN cs ((i+1) % cs.length)=ptN L (k+1))∧(by' = -1→ptN cs i=ptN L (k+1)∧ptN cs ((i+1) % cs.length)=ptN L k))
  (f:∀i j,i<cs.length→j<cs.length→ptN cs i=ptN L (L.length-1)→(by'=1→j=(i+1) % cs.length)→(by' = -1→i=(j+1) % cs.length)→(ptN cs j).1≤(ptN L (L.length-1)).1):ChL cs by' L:=by
 have P:=List.length_pos_iff.2 l;obtain⟨n,Q⟩:∃n,cs.length=n+1:=⟨cs.length-1,by omega⟩;obtain⟨u,w⟩:=zkH cs v n;rw [←Q]at u w
 have d:∀k,k<L.length→ptN L k=ptN cs (ixN cs.length (staN cs by' cs.length) by' k):=by
  intro k
  induction k with
  | zero =>
   intro _;rw [zgC u]
   by_cases e:ptN cs (staN cs by' cs.length)=ptN L 0
   ·exact e.symm
   ·exfalso
    obtain⟨j,K,x⟩:=List.getElem_of_mem (p _ (zau P));have:=w j oM;rw [zan K,x]at this;exact this (y _ (zau u) e)
  | succ k o =>
   intro r;have o:=o oM;obtain⟨i,D,S,T⟩:=t k r
   rcases v with rfl|rfl
   ·obtain⟨a,b⟩:=S rfl
    rw [o]at a;have:=zkn g D (zii oM) a;rw [←b,this,zjM oM]
   ·obtain⟨a,b⟩:=T rfl
    rw [o]at b;have m:=zkn g (Nat.mod_lt _ oM) (zii oM) b
    have:i=ixN cs.length (staN cs (-1) cs.length) (-1) (k+1):=by
     have z:=zjN (n:=cs.length) (s:=staN cs (-1) cs.length) (k:=k) oM;have h7:=zii (n:=cs.length) (s:=staN cs (-1) cs.length) (k:=k+1) (by':=-1) oM;rw [←z]at m;rw [mod2 oM,mod2 oM]at m
     split at m<;>split at m<;>omega
    rw [←a,this]
 refine⟨l,by omega,d,fun k r=>zdf R oM r,?_⟩;have e:=d (L.length-1) oM;refine f _ _ (zii oM) (zii oM) e.symm (fun h=>?_) (fun h=>?_)
 ·subst h
  rw [zjM oM,show L.length-1+1=L.length by omega]
 ·subst h
  have:=zjN (n:=cs.length) (s:=staN cs (-1) cs.length) (k:=L.length-1) oM;rw [show L.length-1+1=L.length by omega]at this;exact this.symm
theorem zn7 {u v c:Int×Int} (e:c.1=u.1) (d:u.1<v.1) (h:0<trn u v c):u.2<c.2:=by
 unfold trn at h;rw [e]at h;have a:(v.1-u.1)*(c.2-v.2)-(v.2-u.2)*(u.1-v.1)=(v.1-u.1)*(c.2-u.2):=by grind
 rw [a]at h
 by_cases b:u.2<c.2
 ·exact b
 ·have:=Int.mul_nonpos_of_nonneg_of_nonpos (show 0≤v.1-u.1 by omega) (show c.2-u.2≤0 by omega)
  omega
theorem zm8 {u v c:Int×Int} (e:c.1=v.1) (d:v.1<u.1) (h:0<trn u v c):c.2<v.2:=by
 unfold trn at h;rw [e]at h;have a:(v.1-u.1)*(c.2-v.2)-(v.2-u.2)*(v.1-v.1)=(u.1-v.1)*(v.2-c.2):=by grind
 rw [a]at h
 by_cases b:c.2<v.2
 ·exact b
 ·have:=Int.mul_nonpos_of_nonneg_of_nonpos (show 0≤u.1-v.1 by omega) (show v.2-c.2≤0 by omega)
  omega
theorem zlG {cs L:List (Int×Int)} (w:Cvx cs) (r:Rise L) (m:∀q,q∈L ↔ LowV cs q) (d:∀e∈eds L,LowE cs e.1 e.2) (ne:L≠[]):ChL cs 1 L:=by
 have K:=List.length_pos_iff.2 ne;have T:=w.three;obtain⟨a,W,h⟩:=w.minLow
 have g:∀c∈cs,(ptN L 0).1≤c.1:=fun c f=>by
  have s:=(m a).2 W;obtain⟨i,p,e⟩:=List.getElem_of_mem s;have S:=h c f
  rcases Nat.eq_zero_or_pos i with rfl|n
  ·rw [zan K,e];exact S
  ·have:=zdf r n p
   rw [zan p,e]at this;omega
 refine zml (.inl rfl) w.nd T r ne (fun q b=>((m q).1 b).mem) ?_ ?_ ?_
 ·intro c f z
  have s:=g c f;unfold betL
  by_cases e:(ptN L 0).1<c.1
  ·exact .inl e
  ·right
   refine⟨by omega,?_⟩;obtain⟨u,v,⟨o,l⟩,b⟩:=(m _).1 (zau K)
   rcases b with b|b
   ·have x:c≠v:=fun n=>by rw [n,b]at e;exact e l
    have:=w.left u v o c f (by rw [←b];exact z) x;rw [←b]at this l;have:=zn7 oM l this;omega
   ·exfalso
    have:=g u o.mem.1;rw [b]at this;omega
 ·intro k hk
  obtain⟨o,l⟩:=d _ (zmo hk);obtain⟨i,p,Q,R⟩:=(zbP oM).1 o;exact⟨i,p,fun _=>⟨Q,R⟩,fun e=>absurd e dM⟩
 ·intro i j p hj e s _
  have y:=s rfl
  by_cases l:(ptN cs j).1≤(ptN L (L.length-1)).1
  ·exact l
  ·exfalso
   have o:EdgC cs (ptN cs i) (ptN cs j):=(zbP oM).2 ⟨i,p,rfl,by rw [y];rfl⟩;have b:ptN cs j∈L:=(m _).2 ⟨_,_,⟨o,by rw [e];omega⟩,.inr rfl⟩;obtain⟨t,P,D⟩:=List.getElem_of_mem b
   rcases Nat.lt_or_ge t (L.length-1)with n|n
   ·have:=zdf r n oM
    rw [zan P,D]at this;omega
   ·have:t=L.length-1:=oM
    rw [←this,zan P,D]at l;omega
theorem zn6 {cs L:List (Int×Int)} (w:Cvx cs) (r:Rise L) (m:∀q,q∈L ↔ UpV cs q) (d:∀e∈eds L,UpE cs e.2 e.1) (ne:L≠[]):ChL cs (-1) L:=by
 have K:=List.length_pos_iff.2 ne;have T:=w.three;obtain⟨a,W,h⟩:=w.minUp
 have g:∀c∈cs,(ptN L 0).1≤c.1:=fun c f=>by
  have s:=(m a).2 W;obtain⟨i,p,e⟩:=List.getElem_of_mem s;have S:=h c f
  rcases Nat.eq_zero_or_pos i with rfl|n
  ·rw [zan K,e];exact S
  ·have:=zdf r n p
   rw [zan p,e]at this;omega
 refine zml (.inr rfl) w.nd T r ne (fun q b=>((m q).1 b).mem) ?_ ?_ ?_
 ·intro c f z
  have s:=g c f;unfold betL
  by_cases e:(ptN L 0).1<c.1
  ·exact .inl e
  ·right
   refine⟨by omega,?_⟩;obtain⟨u,v,⟨o,l⟩,b⟩:=(m _).1 (zau K)
   rcases b with b|b
   ·exfalso
    have:=g v o.mem.2;rw [b]at this;omega
   ·have x:c≠u:=fun n=>by rw [n,b]at e;exact e l
    have:=w.left u v o c f x (by rw [←b];exact z);rw [←b]at this l;have:=zm8 oM l this;omega
 ·intro k hk
  obtain⟨o,l⟩:=d _ (zmo hk);obtain⟨i,p,Q,R⟩:=(zbP oM).1 o;exact⟨i,p,fun e=>absurd e dM,fun _=>⟨Q,R⟩⟩
 ·intro i j p hj e _ s
  have y:=s rfl
  by_cases l:(ptN cs j).1≤(ptN L (L.length-1)).1
  ·exact l
  ·exfalso
   have o:EdgC cs (ptN cs j) (ptN cs i):=(zbP oM).2 ⟨j,hj,rfl,by rw [←y];rfl⟩;have b:ptN cs j∈L:=(m _).2 ⟨_,_,⟨o,by rw [e];omega⟩,.inl rfl⟩;obtain⟨t,P,D⟩:=List.getElem_of_mem b
   rcases Nat.lt_or_ge t (L.length-1)with n|n
   ·have:=zdf r n oM
    rw [zan P,D]at this;omega
   ·have:t=L.length-1:=oM
    rw [←this,zan P,D]at l;omega
theorem znw {p:Pl} (h:placedOk p=true):ChL (cornersP p) 1 (lowP2 p):=
 zlG (zbg h) (zaL h).1 (zaL h).2.1 (zaL h).2.2 (zaW h).2.2.2.1
theorem zo8 {p:Pl} (h:placedOk p=true):ChL (cornersP p) (-1) (upP2 p):=
 zn6 (zbg h) (zb0 h).1 (zb0 h).2.1 (zb0 h).2.2 (zaW h).2.2.2.2
end
section
open Go.RowKit Go.Shelf Go.Sort Go.Lib
theorem zgX (a b:Int×Int):atE (a.1:Rat) (a,b)=(a.2:Rat):=by
 unfold atE;dsimp only;rw [Rat.sub_self,Rat.zero_mul,Rat.div_def,Rat.zero_mul,Rat.add_zero]
theorem zfr (a b:Int×Int) (h:a.1<b.1):atE (b.1:Rat) (a,b)=(b.2:Rat):=by
 have e:((b.1-a.1:Int):Rat)≠0:=by
  intro f;have:(b.1-a.1:Int)=0:=by exact_mod_cast f
  omega
 unfold atE;dsimp only
 generalize hq:(((b.1:Int):Rat)-((a.1:Int):Rat))*((b.2-a.2:Int):Rat) / ((b.1-a.1:Int):Rat)=q
 have d:q*((b.1-a.1:Int):Rat)=(((b.1:Int):Rat)-((a.1:Int):Rat))*((b.2-a.2:Int):Rat):=by rw [←hq,Rat.div_mul_cancel e]
 rw [←Rat.intCast_sub,Rat.mul_comm]at d
 have:q=((b.2-a.2:Int):Rat):=by
  have c:(q-((b.2-a.2:Int):Rat))*((b.1-a.1:Int):Rat)=0:=by grind
  rcases Rat.mul_eq_zero.1 c with c|c
  ·grind
  ·exact absurd c e
 rw [this,Rat.intCast_sub]
 grind
theorem ziR (x:Rat) (a b:Int×Int) (k:((a.1:Int):Rat)≤x) (o:x≤((b.1:Int):Rat)):∀(l:List (Int×Int)),Rise l→(a,b)∈eds l→∃e,(eds l).find? (xLe x)=N e∧atE x e=atE x (a,b)
 | [],_,h=>by simp [eds]at h
 | [c],_,h=>by simp [eds]at h
 | c::d::r,hR,h=>by
  have e:eds (c::d::r)=(c,d)::eds (d::r):=rfl
  have t:xLe x (c,d)=decide (x≤((d.1:Int):Rat)):=by
   unfold xLe;rw [decide_eq_decide,zhA]
  obtain⟨p,f⟩:=List.pairwise_cons.1 hR;rw [e]at h ⊢;rw [List.find?_cons,t]
  rcases List.mem_cons.1 h with h|h
  ·cases h
   rw [decide_eq_true o];exact⟨_,rfl,rfl⟩
  ·by_cases j:x≤((d.1:Int):Rat)
   ·rw [decide_eq_true j]
    refine⟨_,rfl,?_⟩;have i:=(Rise.between f h).1
    have s:d.1≤a.1:=by
     rcases List.mem_cons.1 i with g|g
     ·dsimp only at g;rw [g];exact Int.le_refl _
     ·have:=(List.pairwise_cons.1 f).1 _ g;dsimp only at this;omega
    have q:a.1≤d.1:=by
     have:=Rat.le_trans k j;exact Rat.intCast_le_intCast.1 this
    have m:a=d:=by
     rcases List.mem_cons.1 i with g|g
     ·exact g
     ·have:=(List.pairwise_cons.1 f).1 _ g;dsimp only at this;omega
    subst m;have n:x=((a.1:Int):Rat):=Rat.le_antisymm j k;rw [n,zgX,zfr _ _ (p a sM)]
   ·rw [decide_eq_false j]
    exact ziR x a b k o (d::r) f h
theorem zpf {x:Rat} {l:List (Int×Int)} (c:Rise l) {e:Edg} (h:e∈eds l) (d:((e.1.1:Int):Rat)≤x) (g:x≤((e.2.1:Int):Rat)):atR l x=atE x e:=by
 obtain⟨f,a,b⟩:=ziR x e.1 e.2 d g l c h;unfold atR;rw [a];exact b
theorem zfs (e:Edg) (s t x:Rat):(t-s)*atE x e=(t-x)*atE s e+(x-s)*atE t e:=by
 unfold atE;simp only [Rat.div_def]
 grind
theorem zfF {zs:List Int} {z:Int} (h:z∈zs):z∈compact zs:=by
 obtain⟨i,a,rfl⟩:=List.getElem_of_mem h;have b:∀j,(hj:j<zs.length)→zs.toArray[j]! = zs[j]:=fun j hj=>by rw [getElem!_pos _ _ (by simpa using hj)];simp
 have key:∀i,(a:i<zs.length)→∃j,j<zs.length∧keeps zs.toArray j=true∧zs.toArray[j]! = zs[i]:=by
  intro i
  induction i with
  | zero=>intro a;exact⟨0,a,by simp [keeps],b 0 a⟩
  | succ i f =>
   intro a
   cases hk:keeps zs.toArray (i+1)with
   | true=>exact⟨i+1,a,hk,b _ a⟩
   | false =>
    obtain⟨j,c,d,e⟩:=f oM;refine⟨j,c,d,?_⟩;rw [e,←b _ a,←b i oM];simp [keeps]at hk
    grind
 obtain⟨j,c,d,e⟩:=key i a;unfold compact compactUpTo;refine List.mem_map.2 ⟨j,List.mem_filter.2 ⟨List.mem_range.2 c,d⟩,e⟩
theorem zl0 {s:Sp} {z:Int} (h:z=s.lo∨z=s.hi∨(s.lo<z∧z<s.hi∧∃q∈s.over++s.under,q.1=z)):(z:Rat)∈stopsR s:=by
 unfold stopsR stopsZ;refine List.mem_map_of_mem (zfF (isort_mem.2 ?_))
 rcases h with rfl|rfl|⟨a,b,q,c,rfl⟩
 ·simp
 ·simp
 ·refine mC _ (mC _ ?_)
  unfold midP;refine List.mem_filter.2 ⟨List.mem_map_of_mem c,?_⟩;unfold inP;simp [a,b]
theorem znW {q:Rat} (h:0≤q.num.sign):0≤q:=by
 have:0≤q.num:=Int.sign_nonneg_iff.1 h;exact Rat.num_nonneg.1 this
end
section
open Go.RowKit Go.Shelf
attribute [local go_sem] Oper.semAt_some
def RcI (w:X) (s:Sp) (d e f:I) (b:Int) (a:List Rat) (o:Rat×Rat) (g:Nat) (c:I) (W:X):Prop:=
 ∃i:Nat,i≤a.length∧c=F .i64 i∧g=a.length-i∧RcW w s d e f a (reachN (pinG s b) a o i) W
theorem zgl {w W i b:X} {o:Obj} {p u v:Rat} {a g:Option G} {m c h c2:Nat} {s:Bool} (t:Ext w W) (D:w.heap.size+1+1+1≤W.heap.size) (K:W.heap[w.heap.size]?=N o) (q:RB W (w.heap.size+1) u) (r:RB W (w.heap.size+1+1) v)
  (j:IsR W (J #[O a m c,Z s,O g h c2]) p)
  (d:((W.setCell ⟨w.heap.size+1,0,Y⟩ (O a m c)).setCell ⟨w.heap.size+1,1,Y⟩ (Z s)).setCell ⟨w.heap.size+1,2,Y⟩ (O g h c2)=i)
  (e:((i.setCell ⟨w.heap.size+1+1,0,Y⟩ (O a m c)).setCell ⟨w.heap.size+1+1,1,Y⟩ (Z s)).setCell ⟨w.heap.size+1+1,2,Y⟩ (O g h c2)=b) :
  Ext w b.drew∧w.heap.size+1+1+1≤b.drew.heap.size∧b.drew.heap[w.heap.size]?=N o∧RB b.drew (w.heap.size+1) p∧RB b.drew (w.heap.size+1+1) p:=by
 obtain⟨k,l,x,y,z,n⟩:=RB.copy2 q r oM j j d e;have f:Ext b b.drew:=(eR _).drew;refine⟨(n w t oM oM).drew,nT oM f.size,f.heapS ?_,k.ext f,l.ext f⟩;rw [←e,←d]
 repeat rw [bS _ _ _ _ dO]
 exact K
theorem RcW.box {w:X} {s:Sp} {P Q j:I} {k:List Rat} {o:Rat×Rat} {W:X} (h:RcW w s P Q j k o W) {a y:Option G} {m c K c2 b:Nat} {x:Bool} {p p0:Rat}
  (hb:w.heap.size+1+1+1≤b) (hv:j.ownBlock≠N b) (z:RB W b p0) (hz:IsR W (J #[O a m c,Z x,O y K c2]) p) {g:X}
  (d:((W.setCell ⟨b,0,Y⟩ (O a m c)).setCell ⟨b,1,Y⟩ (Z x)).setCell ⟨b,2,Y⟩ (O y K c2)=g) :
  RcW w s P Q j k o g∧RB g b p∧(∀b' r,b'≠b→RB W b' r→RB g b' r)∧g.heap.size=W.heap.size:=by
 obtain⟨S,T,h3,h4,h5,h6⟩:=h;have t:=z.not;have v:=t.set ⟨b,0,Y⟩ (O a m c);have L:=v.set ⟨b,1,Y⟩ (Z x)
 have l:∀b' r,b'≠b→RB W b' r→RB g b' r:=fun b' r f hr=>by
  rw [←d];exact((hr.other (Ne.symm f) t _).other (Ne.symm f) v _).other (Ne.symm f) L _
 have e:∀(V:X) (u:I) (q:G),q.block=b→OwnR V (w.heap.size+1+1+1) j k→NoT 2 V b→OwnR (V.setCell q u) (w.heap.size+1+1+1) j k:=fun V u q D ho hn=>by
  obtain⟨R,k1,k2,k3⟩:=ho;exact⟨R,k1.setOther (by rw [D];exact hv) _,k2,fun i c q' hc n=>IsR.keep (k3 i c q' hc n) (KeepT.setN (KeepT.refl _ _) (by rw [D];exact hn) u)⟩
 refine⟨⟨?_,?_,?_,l _ _ oM h4,l _ _ oM h5,?_⟩,?_,l,?_⟩
 ·rw [←d];exact((S.set dO _).set dO _).set dO _
 ·rw [←d];simpa using T
 ·rw [←d]
  repeat rw [bS _ _ _ _ dO]
  exact h3
 ·rw [←d]
  exact e _ _ _ rfl (e _ _ _ rfl (e _ _ _ rfl h6 t) v) L
 ·rw [←d];exact z.put hz
 ·rw [←d];simp
theorem zeO (q:Rat) : -1≤q.num.sign∧q.num.sign≤1:=by
 rcases Int.lt_trichotomy q.num 0 with h|h|h
 ·rw [Int.sign_eq_neg_one_of_neg h];decide
 ·rw [h];decide
 ·rw [Int.sign_eq_one_of_pos h];decide
def Rc1 (w:X) (s:Sp) (e f h:I) (d:List Rat) (o:Rat×Rat) (i:Nat) (x g:Rat) (a b c:I) (W:X):Prop:=
 ∃b11 b12,a=F .i64 (i:Int)∧b=E (N ⟨b11,0,Y⟩)∧c=E (N ⟨b12,0,Y⟩)∧w.heap.size+1+1+1≤b11∧b11<b12∧b12<W.heap.size∧RcW w s e f h d o W∧RB W b11 x∧RB W b12 g
def Rc2 (w:X) (s:Sp) (f j k:I) (e:List Rat) (o:Rat×Rat) (i:Nat) (x g h:Rat) (a b c d:I) (W:X):Prop:=
 ∃b13,Rc1 w s f j k e o i x g a b c W∧d=E (N ⟨b13,0,Y⟩)∧b13<W.heap.size∧RB W b13 h
theorem zfn {w:X} {s:Sp} {T v2 vq:I} {R:List Rat} {o:Rat×Rat} {W:X} (h:RcW w s T v2 vq R o W) {a D e K:Option G} {m c P c2 n k Q L:Nat} {S t:Bool} {p q x g:Rat} {b d i:Nat}
  (u:IsR W (J #[O a m c,Z S,O D P c2]) p) (v:IsR W (J #[O e n k,Z t,O K Q L]) q) (z1:w.heap.size+1+1+1≤b) (z2:b<d) (z3:d<W.heap.size) (h1:RB W b x) (h2:RB W d g) {z f:X}
  (l:((W.setCell ⟨w.heap.size+1,0,Y⟩ (O a m c)).setCell ⟨w.heap.size+1,1,Y⟩ (Z S)).setCell ⟨w.heap.size+1,2,Y⟩ (O D P c2)=z)
  (r:((z.setCell ⟨w.heap.size+1+1,0,Y⟩ (O e n k)).setCell ⟨w.heap.size+1+1,1,Y⟩ (Z t)).setCell ⟨w.heap.size+1+1,2,Y⟩ (O K Q L)=f) :
  Rc1 w s T v2 vq R (p,q) i x g (F .i64 (i:Int)) (E (N ⟨b,0,Y⟩)) (E (N ⟨d,0,Y⟩)) f:=by
 obtain⟨P1,P2,y⟩:=RcW.put2 h u v l r;have j:Ext f f:=eR _;exact⟨b,d,rfl,rfl,rfl,z1,z2,Nat.lt_of_lt_of_le oM j.size,P1.ext j,(y _ _ oM h1).ext j,(y _ _ oM h2).ext j⟩
theorem zkt {w:X} {s:Sp} {u v j:I} {q:List Rat} {o:Rat×Rat} {W:X} (h:RcW w s u v j q o W) {a n:Option G} {m c p c2:Nat} {t:Bool} {x g r Q:Rat} {d e b i:Nat}
  (P:IsR W (J #[O a m c,Z t,O n p c2]) r) (R:w.heap.size+1+1+1≤d) (S:d<e) (z3:e<b) (z4:b<W.heap.size) (D:RB W d x) (K:RB W e g) (L:RB W b Q) (hv:j.ownBlock≠N b) {l:X}
  (f:((W.setCell ⟨b,0,Y⟩ (O a m c)).setCell ⟨b,1,Y⟩ (Z t)).setCell ⟨b,2,Y⟩ (O n p c2)=l) :
  Rc2 w s u v j q o i x g r (F .i64 (i:Int)) (E (N ⟨d,0,Y⟩)) (E (N ⟨e,0,Y⟩)) (E (N ⟨b,0,Y⟩)) l:=by
 obtain⟨y,z,k,T⟩:=RcW.box h oM hv L P f;exact⟨b,⟨d,e,rfl,rfl,rfl,R,S,by omega,y,k _ _ oM D,k _ _ oM K⟩,rfl,by omega,z⟩
end
end Go.Proofs.YtjnjpagegkcgfaaGreatDoor.Cop
