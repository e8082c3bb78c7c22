/- Part 27. -/
import Derived.Test.YtjnjpagegkcgfaaGreatDoorCosA23
import Derived.Test.YtjnjpagegkcgfaaGreatDoorCosA17
import Derived.Test.YtjnjpagegkcgfaaGreatDoorCosA08
import Derived.Test.YtjnjpagegkcgfaaGreatDoorCosA16
import Derived.Test.YtjnjpagegkcgfaaGreatDoorCosA22
import Derived.Test.YtjnjpagegkcgfaaGreatDoorCosA02
import Derived.Test.YtjnjpagegkcgfaaGreatDoorCosA15
set_option maxRecDepth 1000000
set_option maxHeartbeats 16000000
set_option linter.unusedSimpArgs false
set_option linter.unusedVariables false
open Go.Value renaming slice->O,bool->Z,agg->J,pointer->E,int->F
open Option renaming none->Y,some->N
open Go renaming World->X,Value->I,Addr->G
open Go.Obj renaming cells->C
namespace Go.Proofs.YtjnjpagegkcgfaaGreatDoor.Cop
section
open Go.RowKit Go.Shelf
theorem zin(w:X)(d f:I)(b:Int)(o:b<0)(g:∃a n c,d=O a n c)(i:∃a n c,f=O a n c) :
  Calls Tryz.prog 76 #[J #[d,f],F .i64 b] w fun e j=>e = .returned d/\Ext w j:=by
 obtain⟨k,m,l,rfl⟩:=g;obtain⟨p,q,sc,rfl⟩:=i;go_enter Tryz.func76,Tryz.ntmps76;go_wp2;go_ret;exact⟨rfl,eA⟩
theorem zku(w:X)(l m:I)(ps:List Pl)(i:Nat)(p:Pl)(x:∃a n c,l=O a n c)(d:IsLas w m ps)(j:ps[i]?=N p) :
  Calls Tryz.prog 76 #[J #[l,m],F .i64 i] w fun e q=>∃v,e = .returned v/\IsPts q v (upP2 p)/\Ext w q:=by
 obtain⟨Q,T,R,rfl⟩:=x;obtain⟨sa,n,sc,rfl⟩:=form3 d;have z:=d.len;have g:=d.le;obtain⟨b,o,s,vl,vu,rfl,W,t,u,f,k⟩:=d.at' j;obtain⟨D,L,K,rfl⟩:=form3 f;have P:=k 11 (O D L K) rfl;have y:=(lS.1 j).1;have p1:(0:Int)<=(i:Int):=oM
 have p2:(i:Int)<(n:Int):=oM
 have p3:i<n:=oM
 have p4:¬(i:Int)<0:=oM
 have r:=hd9 f;clear d j k t u f z g y;go_enter Tryz.func76,Tryz.ntmps76;go_wp2;go_ret;exact⟨_,rfl,r.out.ext' eA,eA⟩
def wrongB(n:Nat)(i a:Int):Bool:=decide (i<0) || (decide ((n:Int)<=i) || (decide (a<0) || decide (50<a)))
theorem zkF(w:X)(j:I)(l:Option G)(n sc:Nat)(i b:Int)(k:∃a n c,j=O a n c) :
  Calls Tryz.prog 71 #[J #[j,O l n sc],F .i64 i,F .i64 b] w fun e m=>e = .returned (Z (wrongB n i b))/\Ext w m:=by
 obtain⟨o,q,p,rfl⟩:=k
 by_cases d:i<0
 ·have e:wrongB n i b=true:=by unfold wrongB;simp[d]
  rw[e];go_enter Tryz.func71,Tryz.ntmps71;go_wp2;go_ret;exact⟨rfl,eA⟩
 by_cases f:(n:Int)<=i
 ·have e:wrongB n i b=true:=by unfold wrongB;simp[f]
  rw[e];go_enter Tryz.func71,Tryz.ntmps71;go_wp2;go_ret;exact⟨rfl,eA⟩
 by_cases g:b<0
 ·have e:wrongB n i b=true:=by unfold wrongB;simp[g]
  rw[e];go_enter Tryz.func71,Tryz.ntmps71;go_wp2;go_ret;exact⟨rfl,eA⟩
 ·have e:wrongB n i b=decide (50<b):=by unfold wrongB;rw[decide_eq_false d,decide_eq_false f,decide_eq_false g];rfl
  rw[e];go_enter Tryz.func71,Tryz.ntmps71;go_wp2;go_ret;exact⟨rfl,eA⟩
theorem zkz(w:X)(o a:Obj):((w.alloc o).alloc a).heap[w.heap.size+1]?=N a:=qhA _ _ _ sM
def IsV(w:X)(v:I)(x z:Rat):Prop:=∃a m c s a2 m2 c2 b n k t b2 n2 k2,v=J #[O a m c,Z s,O a2 m2 c2,O b n k,Z t,O b2 n2 k2]/\IsR w (J #[O a m c,Z s,O a2 m2 c2]) x/\IsR w (J #[O b n k,Z t,O b2 n2 k2]) z
theorem IsV.ext{w w':X}{v:I}{x z:Rat}(h:IsV w v x z)(k:Ext w w'):IsV w' v x z:=by
 obtain⟨a,m,c,s,d,p,f,b,n,l,t,e,q,o,g,i,j⟩:=h;exact⟨a,m,c,s,d,p,f,b,n,l,t,e,q,o,g,i.ext k,j.ext k⟩
theorem zcJ(w:X)(vx:I)(x:Rat)(p:Pl)(m:Nat)(s vl vu:I)(z:IsR w vx x)(hb:Rb 1000 x)(j:w.heap[m]?=N (C (lac p s vl vu) 128 (0,0)))(hl:IsPts w vl (lowP2 p))(ab:LnOk (lowP2 p)) :
  Calls Tryz.prog 144 #[vx,E (N ⟨m,0,Y⟩)] w fun e w'=>∃v,e = .returned v/\IsV w' v x (atR (lowP2 p) x)/\Ext w w':=by
 have HA:=hd9 (fun W (hW:Ext w W)=>zdI W vl vx (lowP2 p) x (hl.ext' hW) ab (z.ext hW) hb);obtain⟨L,Q,P,R,d,g,f,rfl⟩:=z.form;obtain⟨la,ln,lc,rfl⟩:=form3 hl;have ad:=qcB j (i:=10) (u:=O la ln lc) rfl;have zb:=zaa j;have ae:m<w.heap.size+1:=oM
 have af:m<w.heap.size+1+1:=oM
 obtain⟨q,y⟩:=gX (atR (lowP2 p) x);rw[y]at HA ⊢;have Hx:=hd9 z;clear hl j z y;go_enter Tryz.func144,Tryz.ntmps144;go_wp2;refine wp_region_held_drew (S:=CellL [(⟨w.heap.size,0,Y⟩,O L Q P),(⟨w.heap.size,1,Y⟩,Z R),(⟨w.heap.size,2,Y⟩,O d g f),(⟨m,10,Y⟩,O la ln lc)]) kM cA (fun c=>?_);refine sN 0 ?_
 iterate 4
  refine tkn ?_
 refine oN ?_;refine cl1 (i:=4) fun K o=>?_
 go_simp
 (with_reducible refine cM (HA.out _ eA) ?_)
 rintro e D ⟨v3,rfl,k,l⟩;obtain⟨a3,m3,c3,s3,b3,n3,k3,rfl⟩:=k.form
 go_wp2_with fail
 refine kO o (cE c l) (fun c=>?_);clear o K;refine tk1 (i:=5) ?_;have b:=l.heapS (zkz w (C #[O L Q P,Z R,O d g f] 63) (C #[O Y 0 0,Z false,O Y 0 0,O Y 0 0,Z false,O Y 0 0] 77));have k0:=qcB b (i:=0) (u:=O Y 0 0) rfl;have k1:=qcB b (i:=1) (u:=Z false) rfl;have k2:=qcB b (i:=2) (u:=O Y 0 0) rfl;have ac:=qcB b (i:=3) (u:=O Y 0 0) rfl;have k4:=qcB b (i:=4) (u:=Z false) rfl;have k5:=qcB b (i:=5) (u:=O Y 0 0) rfl;have kf:=qfB b;have r:Ext w D:=((((eR w).alloc _).alloc _).drew).trans l
 have a:=hd9 (show ∀q∈[((⟨w.heap.size,0,Y⟩:G),Value.slice L Q P),(⟨w.heap.size,1,Y⟩,Z R),(⟨w.heap.size,2,Y⟩,O d g f),(⟨m,10,Y⟩,O la ln lc)],w.heap.size+1≠q.1.block from fun q y h=>by
  simp at y
  rcases y with rfl|rfl|rfl|rfl<;>(dsimp only at h;omega))
 have T:=hd9 b;have n:=hd9 r;have aa:=hd9 k;clear b r k;refine cl1 (i:=6) fun K o=>?_
 go_simp;refine kO o (CellL.set (p:=⟨w.heap.size+1,5,Y⟩) (CellL.set (p:=⟨w.heap.size+1,4,Y⟩) (CellL.set (p:=⟨w.heap.size+1,3,Y⟩) (CellL.set (p:=⟨w.heap.size+1,2,Y⟩) (CellL.set (p:=⟨w.heap.size+1,1,Y⟩) (CellL.set (p:=⟨w.heap.size+1,0,Y⟩) c a.out _) a.out _) a.out _) a.out _) a.out _) a.out _) (fun c=>?_);clear o K;refine wpAnyH_done kM ?_ _;go_wp2;have n0:NoT 2 D (w.heap.size+1):=by intro cs fr e;rw[T.out]at e;cases e
 have t:∀(u0 u1 u2 u3 u4 u5:I),KeepT 2 D ((((((D.setCell ⟨w.heap.size+1,0,Y⟩ u0).setCell ⟨w.heap.size+1,1,Y⟩ u1).setCell ⟨w.heap.size+1,2,Y⟩ u2).setCell ⟨w.heap.size+1,3,Y⟩ u3).setCell ⟨w.heap.size+1,4,Y⟩ u4).setCell ⟨w.heap.size+1,5,Y⟩ u5):=fun u0 u1 u2 u3 u4 u5=>by
  repeat(first|with_reducible exact KeepT.refl _ _|(with_reducible refine KeepT.setN ?_ ?_ _)|with_reducible exact n0|with_reducible refine NoT.set ?_ _ _)
 refine bR (v:=J #[O L Q P,Z R,O d g f,O a3 m3 c3,Z s3,O b3 n3 k3]) (by simp[results,Tryz.results144,go_sem,k0,k1,k2,ac,k4,k5,kf]) rfl ⟨_,rfl,⟨_,_,_,_,_,_,_,_,_,_,_,_,_,_,rfl,(Hx.out.ext n.out).keep (t _ _ _ _ _ _),aa.out.keep (t _ _ _ _ _ _)⟩,?_⟩
 repeat(first|with_reducible exact n.out|(with_reducible refine Ext.set ?_ dO _))
end
section
open Go.RowKit Go.Shelf
attribute [local go_sem] Oper.semAt_some
def widR(o:Rat×Rat)(x:Rat):Rat×Rat:=(foldR (-1) [o.1,x],foldR 1 [o.2,x])
def reachStep(f:Rat->Rat)(o:Rat×Rat)(x:Rat):Rat×Rat:=if (f x).num.sign<=0 then widR o x else o
def crossR(f:Rat->Rat)(y x:Rat):Rat:=y+f y / (f y-f x)*(x-y)
def reachCross(f:Rat->Rat)(o:Rat×Rat)(y x:Rat):Rat×Rat:=if (f x).num.sign*(f y).num.sign<0 then widR o (crossR f y x)else o
def reachN(f:Rat->Rat)(a:List Rat)(o:Rat×Rat):Nat->Rat×Rat
 | 0=>o
 | i+1=>if i=0 then reachStep f (reachN f a o i) (a.getD i 0)else reachCross f (reachStep f (reachN f a o i) (a.getD i 0)) (a.getD (i-1) 0) (a.getD i 0)
def pinG(s:Sp)(a:Int)(x:Rat):Rat:=gapR s x-(a:Rat)
def reachNo(s:Sp)(a:Int):Bool:=decide ((leastR s).2.num.sign<0) || decide (0<rcmp (leastR s).2 (a:Rat))
def reachP(s:Sp)(a:Int):Option (Rat×Rat):=
 if reachNo s a=true then Y else N (reachN (pinG s a) (stopsR s) ((leastR s).1,(leastR s).1) (stopsR s).length)
theorem Rb.up{j k:Nat}{q:Rat}(h:Rb j q)(a:j<=k):Rb k q:=by exact⟨h.1.mono a,h.2.mono a⟩
theorem zfl{P:Rat->Prop}(way:Int){p q:Rat}(a:P p)(b:P q):P (foldR way [p,q]):=by
 show P (pickR way p q)
 rcases zfG way p q with e|e<;>rw[e]<;>assumption
theorem Rb.wid{k:Nat}{o:Rat×Rat}{x:Rat}(h:Rb k o.1/\Rb k o.2)(a:Rb k x):Rb k (widR o x).1/\Rb k (widR o x).2:=⟨zfl _ h.1 a,zfl _ h.2 a⟩
theorem Rb.pin_g{s:Sp}{a:Int}{x:Rat}(c:Rb 1 x)(h:SpOk s)(b:Bd 104000 a):Rb 47 (pinG s a x):=
 (Rb.gap c h).sub (Rb.int (by unfold Bd at b;unfold Lm;have d:(B:Int) ^ 23 ≥ 104001:=dM;omega) dM)
theorem Rb.cross{f:Rat->Rat}{y x:Rat}(b:Rb 1 y)(e:Rb 1 x)(a:Rb 47 (f y))(d:Rb 47 (f x)):Rb 291 (crossR f y x):=by
 have c:Rb (47+(2*47+1)+(2*1+1)) (f y / (f y-f x)*(x-y)):=(a.div (a.sub d) dM).mul (e.sub b);exact(b.up (by decide:1<=145)).add c
theorem Rb.reach_n{f:Rat->Rat}{a:List Rat}{o:Rat×Rat}(k:Rb 300 o.1/\Rb 300 o.2)(e:∀q∈a,Rb 1 q)(j:∀q∈a,Rb 47 (f q)):∀n,n<=a.length->Rb 300 (reachN f a o n).1/\Rb 300 (reachN f a o n).2:=by
 intro n
 induction n with
 | zero=>intro _;exact k
 | succ i l =>
  intro m;have g:=l oM;have d:a.getD i 0∈a:=by rw[gD,gE oM];exact List.getElem_mem _
  have c:Rb 300 (reachStep f (reachN f a o i) (a.getD i 0)).1/\Rb 300 (reachStep f (reachN f a o i) (a.getD i 0)).2:=by
   unfold reachStep
   split
   ·exact Rb.wid g ((e _ d).up dM)
   ·exact g
  unfold reachN
  split
  ·exact c
  ·have b:a.getD (i-1) 0∈a:=by rw[gD,gE oM];exact List.getElem_mem _
   unfold reachCross
   split
   ·exact Rb.wid c ((Rb.cross (e _ b) (e _ d) (j _ b) (j _ d)).up dM)
   ·exact c
theorem OwnR.setOther{w:X}{base:Nat}{v:I}{b:List Rat}(h:OwnR w base v b){p:G}(m:p.block<base)(k:NoT 2 w p.block)(u:I):OwnR (w.setCell p u) base v b:=by
 obtain⟨d,a,f,g⟩:=h;refine⟨d,a.setOther (fun e=>?_) u,f,fun i c q j l=>IsR.keep (g i c q j l) (KeepT.setN (KeepT.refl _ _) k u)⟩;have:=(a.lt _ e).1;omega
def RcW(w:X)(s:Sp)(b c d:I)(a:List Rat)(o:Rat×Rat)(W:X):Prop:=
 Ext w W/\w.heap.size+1+1+1<=W.heap.size/\W.heap[w.heap.size]?=N (C #[b,c,F .i64 s.lo,F .i64 s.hi] 138 (0,0)) /\
  RB W (w.heap.size+1) o.1/\RB W (w.heap.size+1+1) o.2/\OwnR W (w.heap.size+1+1+1) d a
theorem RcW.ext{w:X}{s:Sp}{b c d:I}{a:List Rat}{o:Rat×Rat}{W W':X}(h:RcW w s b c d a o W)(k:Ext W W'):RcW w s b c d a o W':=
 ⟨h.1.trans k,nT h.2.1 k.size,k.heapS h.2.2.1,h.2.2.2.1.ext k,h.2.2.2.2.1.ext k,h.2.2.2.2.2.ext k⟩
theorem zbj(W:X){b:Nat}(y:b=W.heap.size){a g e j:Option G}{m c o c2 n k r l:Nat}{s t:Bool}{p q:Rat}(v:IsR W (J #[O a m c,Z s,O g o c2]) p)(w:IsR W (J #[O e n k,Z t,O j r l]) q) :
  IsRs (W.alloc (C #[O a m c,Z s,O g o c2,O e n k,Z t,O j r l] 63)) (O (N ⟨b,0,Y⟩) 2 2) [p,q]:=by
 subst y;have u:Ext W (W.alloc (C #[O a m c,Z s,O g o c2,O e n k,Z t,O j r l] 63)):=(eR W).alloc _;refine⟨[[O a m c,Z s,O g o c2],[O e n k,Z t,O j r l]],rfl,by simp,⟨rfl,_,_,rfl,nE _,by unfold maxLen;decide,.inr ⟨_,0,_,_,rfl,aN W _,fun i x h=>by simpa using h⟩⟩,fun i z x d f=>?_⟩
 match i,d,f with
 | 0,d,f=>cases d;cases f;exact v.ext u
 | 1,d,f=>cases d;cases f;exact w.ext u
 | i+2,d,f=>simp at d
theorem RcW.put2{w:X}{s:Sp}{v1 v2 vq:I}{qs:List Rat}{o:Rat×Rat}{W:X}(h:RcW w s v1 v2 vq qs o W){a l e x:Option G}{m c L c2 n k P D:Nat}{Q t:Bool}{p q:Rat}
  (y:IsR W (J #[O a m c,Z Q,O l L c2]) p)(z:IsR W (J #[O e n k,Z t,O x P D]) q){j g:X}
  (d:((W.setCell ⟨w.heap.size+1,0,Y⟩ (O a m c)).setCell ⟨w.heap.size+1,1,Y⟩ (Z Q)).setCell ⟨w.heap.size+1,2,Y⟩ (O l L c2)=j)
  (f:((j.setCell ⟨w.heap.size+1+1,0,Y⟩ (O e n k)).setCell ⟨w.heap.size+1+1,1,Y⟩ (Z t)).setCell ⟨w.heap.size+1+1,2,Y⟩ (O x P D)=g) :
  RcW w s v1 v2 vq qs (p,q) g/\g.heap.size=W.heap.size/\(∀b r,w.heap.size+1+1<b->RB W b r->RB g b r):=by
 obtain⟨h1,h2,h3,h4,h5,h6⟩:=h;obtain⟨q1,q2,q3,q4,q5,q6⟩:=RB.copy2 h4 h5 oM y z d f;have i:=h4.not;have N2:=h5.not;refine⟨⟨q6 w h1 oM oM,by omega,?_,q1,q2,?_⟩,q5,fun b r hb=>q3 b r oM oM⟩
 ·rw[<-f,<-d]
  repeat rw[bS _ _ _ _ dO]
  exact h3
 ·have u:w.heap.size+1<w.heap.size+1+1+1:=oM
  have v:w.heap.size+1+1<w.heap.size+1+1+1:=oM
  have R:=((h6.setOther (p:=⟨w.heap.size+1,0,Y⟩) u i (O a m c)).setOther (p:=⟨w.heap.size+1,1,Y⟩) u (i.set _ _) (Z Q)).setOther (p:=⟨w.heap.size+1,2,Y⟩) u ((i.set _ _).set _ _) (O l L c2);rw[d]at R;have K:NoT 2 j (w.heap.size+1+1):=by rw[<-d];exact((N2.set _ _).set _ _).set _ _
  have T:=((R.setOther (p:=⟨w.heap.size+1+1,0,Y⟩) v K (O e n k)).setOther (p:=⟨w.heap.size+1+1,1,Y⟩) v (K.set _ _) (Z t)).setOther (p:=⟨w.heap.size+1+1,2,Y⟩) v ((K.set _ _).set _ _) (O x P D);rw[f]at T;exact T
end
section
open Go.RowKit Go.Shelf Go.Sort
theorem zjU{β:Type}[Inhabited β]{lt:β->β->Bool}(hO:SWO lt)(d:Array β)(l:Nat):(pdq lt d 0 d.size l true true).toList.Pairwise fun x y=>lt y x=false:=by
 obtain⟨⟨g,_,_⟩,f⟩:=pdq_sorts lt hO d 0 d.size l true true (Nat.zero_le _) (nE _) (Or.inl rfl);rw[List.pairwise_iff_getElem];intro i j c e a;simp at c e;have b:=f i j (Nat.zero_le _) a oM;rw[getElem!_pos _ i c,getElem!_pos _ j e]at b
 simpa using b
theorem zcn{ps:LP}(h:∀x∈ps,BP x):(sortX ps).Pairwise fun x y=>x.1<=y.1:=by
 unfold sortX sortBy;rw[dif_pos h];rw[List.pairwise_map];have b:=@zjU {x // BP x} ⟨BP0⟩ _ swoX (ps.attachWith BP h).toArray (Lib.bitLen ps.length);rw[show (ps.attachWith BP h).toArray.size=ps.length by simp]at b;refine b.imp fun {x y} a=>?_
 rw[ltX]at a
 simpa using a
theorem zct{α:Type}[DecidableEq α]:∀(a:α)(r:List α),∃t,compactP (a::r)=a::t
 | a,[]=>⟨[],rfl⟩
 | a,b::r=>by
  by_cases h:a=b
  ·obtain⟨t,e⟩:=zct b r
   exact⟨t,by rw[compactP,if_pos h,e,h]⟩
  ·exact⟨compactP (b::r),by rw[compactP,if_neg h]⟩
theorem LnUp.cons{a b:Int×Int}{r:LP}(d:a.1<=b.1)(f:a≠b)(h:LnUp (b::r)):LnUp (a::b::r):=by
 intro e c;unfold eds at c
 rcases List.mem_cons.1 c with rfl|c
 ·exact⟨d,f⟩
 ·exact h e c
theorem zds:∀(l:LP),l.Pairwise (fun x y=>x.1<=y.1)->LnUp (compactP l)
 | [],_=>by intro e f;simp[compactP,eds]at f
 | [a],_=>by intro e f;simp[compactP,eds]at f
 | a::b::r,h=>by
  have d:=zds (b::r) (List.pairwise_cons.1 h).2
  by_cases c:a=b
  ·rw[compactP,if_pos c];exact d
  ·rw[compactP,if_neg c]
   obtain⟨t,e⟩:=zct b r;rw[e]at d ⊢;exact LnUp.cons ((List.pairwise_cons.1 h).1 b List.mem_cons_self) c d
theorem zjA{k:Int}{a:LP}(c:PBd k a)(b:k<=1000000):LnUp (lineOf a):=
 zds _ (zcn fun x d=>by
  have:=c x d;unfold BP;exact⟨this.1.mono b,this.2.mono b⟩)
theorem znJ{p:Pl}(h:placedOk p=true):LnUp (upP2 p):=by
 obtain⟨a,c,h12⟩:=zaK h;have b:=zfJ a (nE _);exact zjA b.2 dM
theorem zjb{g:LP}(h:groundB g=true):LnUp g:=by
 unfold groundB at h;simp only[Bool.and_eq_true,List.all_eq_true,List.mem_range]at h;intro e d;unfold eds at d;obtain⟨i,f,rfl⟩:=List.getElem_of_mem d;have c:i+1<g.length:=by rw[List.length_zip,List.length_tail]at f;omega
 have a:=h.2 (i+1) c;unfold grdR at a;simp only[Bool.and_eq_true,Bool.or_eq_true,decide_eq_true_eq,beq_iff_eq,Nat.add_one_ne_zero,false_or,Nat.add_sub_cancel]at a;have b:=a.2.2;rw[gD,gD,gE oM,gE c]at b;simp only[Option.getD_some]at b;have j:(g.zip g.tail)[i]'f=(g[i]' oM,g[i+1]'c):=sM
 rw[j];exact⟨by dsimp only;omega,fun e=>by dsimp only at e;rw[e]at b;omega⟩
end
section
open Go.RowKit Go.Shelf
attribute [local go_sem] Oper.semAt_some
def RetRc(w:X)(o:Option (Rat×Rat))(e:Ending)(w':X):Prop:=Ext w w'/\∃r1 r2,IsR w' r1 (o.getD (0,0)).1/\IsR w' r2 (o.getD (0,0)).2/\e = .returned (.tuple #[r1,r2,Z o.isSome])
theorem zjW{k:Nat}{a:Int}(h:Bd 104000 a)(b:1<=k):Rb k (a:Rat):=(zaC h).up b
theorem zlD(w:X)(v1 v2:I)(s:Sp)(d:Int)(h1:IsPts w v1 s.over)(h2:IsPts w v2 s.under)(T:SpOk s)(hp:Bd 104000 d)(o:reachNo s d=true) :
  Calls Tryz.prog 143 #[spc s v1 v2,F .i64 d] w (RetRc w (reachP s d)):=by
 have HS:=hd9 (fun(W:X)(hW:Ext w W)=>zcb W v1 v2 s (h1.ext' hW) (h2.ext' hW) T);obtain⟨a1,m1,rfl⟩:=h1.form;obtain⟨a2,m2,rfl⟩:=h2.form;obtain⟨n1,f1⟩:=gX s.over.length;obtain⟨n2,f2⟩:=gX s.under.length;obtain⟨lo,an⟩:=gX s.lo;obtain⟨hi,am⟩:=gX s.hi;have al:=hd9 (show Rb 23 (leastR s).2 by obtain⟨j1,j2⟩:=zaM (gapR s) (zbs s);unfold leastR;rw[j2];exact Rb.gap (zas T _ j1) T);have Hp:=hd9 hp;have ay : -9223372036854775808<=d:=by unfold Bd at hp;omega
 have az:d<=9223372036854775807:=by unfold Bd at hp;omega
 have HC:=hd9 (fun(W:X)(va vb:I)(ha:IsR W va (leastR s).2)(hb:IsR W vb (d:Rat))=>zaE W va vb _ _ ha hb (zat al.out oM) (zat (zjW (k:=1) Hp.out oM) oM));have hR:reachP s d=Y:=by unfold reachP;rw[if_pos o]
 rw[hR];unfold reachNo at o;obtain⟨q1,ap⟩:=gX ((leastR s).1);obtain⟨q2,ae⟩:=gX ((leastR s).2);unfold spc at HS ⊢;rw[ae]at o HC al;rw[ap,ae]at HS;simp only[f1,f2,an,am]at HS ⊢;clear h1 h2 T f1 f2 an am hR ap ae hp;go_enter Tryz.func143,Tryz.ntmps143
 go_wp2_with(((go_at_call 59;(with_reducible refine(HS.out _ ?_).mono ?_);exact eA;rintro e R ⟨r1,r2,rfl,aq,P,Q⟩;obtain⟨a4,m4,c4,s4,b4,n4,k4,rfl⟩:=aq.form;obtain⟨a5,m5,c5,s5,b5,n5,k5,rfl⟩:=P.form;obtain⟨⟨aw,ax⟩,aA,aB,aC⟩:=cK3 w Q)))
 obtain⟨j,f⟩:=gX (((R.alloc (C #[O a4 m4 c4,Z s4,O b4 n4 k4] 63)).alloc (C #[O a5 m5 c5,Z s5,O b5 n5 k5] 63)));have g:Ext R j:=by rw[<-f];exact((eR _).alloc _).alloc _
 have ao:Ext w j:=(((((eR w).alloc _).alloc _).alloc _).trans Q).trans g;have g1:RB j R.heap.size q1:=by rw[<-f];exact(RB.new aq rfl).ext ((eR _).alloc _)
 have g2:RB j (R.heap.size+1) q2:=by rw[<-f];exact RB.new (P.ext ((eR _).alloc _)) sM
 have g3:RB j (w.heap.size+1) 0:=(((RB.new (IsR.zero _) sM).ext ((eR _).alloc _)).ext Q).ext g;have g4:RB j (w.heap.size+1+1) 0:=((RB.new (IsR.zero _) sM).ext Q).ext g;have zW:R.heap.size+1<j.heap.size:=by rw[<-f];simp
 have aD:=qcB (show j.heap[R.heap.size+1]?=N (C #[O a5 m5 c5,Z s5,O b5 n5 k5] 63 (0,0)) by rw[<-f];exact qhA _ _ _ sM) (i:=0) (u:=O a5 m5 c5) rfl;have aE:=qcB (show j.heap[R.heap.size+1]?=N (C #[O a5 m5 c5,Z s5,O b5 n5 k5] 63 (0,0)) by rw[<-f];exact qhA _ _ _ sM) (i:=1) (u:=Z s5) rfl;have aF:=qcB (show j.heap[R.heap.size+1]?=N (C #[O a5 m5 c5,Z s5,O b5 n5 k5] 63 (0,0)) by rw[<-f];exact qhA _ _ _ sM) (i:=2) (u:=O b5 n5 k5) rfl;have HX:=hd9 g;have ak:=hd9 ao;rw[f];obtain⟨s1,au⟩:=gX R.heap.size;simp only[au]at *;clear f aw ax Q g ao HS au;obtain⟨k,hk⟩:=gX q2.num.sign;have aj:=hd9 (fun(W:X)(v:I)(h:IsR W v q2)=>hk▸zbz W v q2 h);rw[hk]at o;clear hk
 by_cases aa:k<0
 ·have hd:decide (k<0)=true:=by simp[aa]
  refine wp_region_held_drew (S:=CellL [(⟨s1+1,0,Y⟩,O a5 m5 c5),(⟨s1+1,1,Y⟩,Z s5),(⟨s1+1,2,Y⟩,O b5 n5 k5)]) kM cA (fun a=>?_);refine tk1 (i:=0) ?_;refine cl1 (i:=1) fun K b=>?_
  go_simp
  (with_reducible refine cM (aj.out _ _ (P.ext (Ext.trans HX.out eA))) ?_)
  rintro e w3 ⟨rfl,x⟩
  skip
  go_wp2_with fail
  refine kO b (cE a x) (fun a=>?_);clear b K;refine sN 2 ?_
  iterate 2
   refine tkn ?_
  iterate 5
   refine tkgn ?_
  refine tkn ?_;refine oN ?_;refine wpAnyH_done kM ?_ _;go_wp2;have X3:Ext j w3:=((eR j).drew).trans x;have y:=g3.ext X3;have z:=g4.ext X3;obtain⟨pa,pm,q,ps,p,t,r,p0,p1,p2,ag,ah,ai,pz,D⟩:=y.rd;obtain⟨ea,em,ec,es,l,n,m,e0,e1,e2,ab,ac,ad,ez,L⟩:=z.rd;refine zae (fun i=>decide (2<i)) (CellL [(⟨w.heap.size+1,0,Y⟩,O pa pm q),(⟨w.heap.size+1,1,Y⟩,Z ps),(⟨w.heap.size+1,2,Y⟩,O p t r),(⟨w.heap.size+1+1,0,Y⟩,O ea em ec),(⟨w.heap.size+1+1,1,Y⟩,Z es),(⟨w.heap.size+1+1,2,Y⟩,O l n m)]) kM ?_ (fun a=>?_)
  ·exact cA
  refine sN 0 ?_
  iterate 2
   refine tun ?_
  refine oN ?_;refine cu1 (i:=2) fun K b=>?_
  go_simp;refine kO b (fun _=>?_) (fun a=>?_)
  ·exact cA
  clear b K;have a:=a rfl;refine cu1 (i:=3) fun K b=>?_
  go_simp;refine kO b (fun h=>nomatch h) (fun a=>?_);clear b K;refine cu1 (i:=4) fun K b=>?_
  go_simp;refine kO b (fun h=>nomatch h) (fun a=>?_);clear b K;refine doneHU kM ?_ _;go_wp2;refine bR (v:=.tuple #[J #[O pa pm q,Z ps,O p t r],J #[O ea em ec,Z es,O l n m],Z false]) (by simp[results,Tryz.results143,go_sem,p0,p1,p2,ag,ah,ai,e0,e1,e2,ab,ac,ad]) rfl ?_;obtain⟨P1,P2,P3,P4,P5,P6⟩:=RB.copy2 y z oM D L rfl rfl;refine⟨(P6 w (ak.out.trans X3) oM oM).drew,J #[O pa pm q,Z ps,O p t r],J #[O ea em ec,Z es,O l n m],?_,?_,rfl⟩
  ·exact(D.keep P4).ext (eR _).drew
  ·exact(L.keep P4).ext (eR _).drew
 ·have hd:decide (k<0)=false:=by simp[aa]
  rw[hd,Bool.false_or]at o;obtain⟨c,hc⟩:=gX (rcmp q2 (d:Rat));rw[hc]at o HC;clear hc;have aG:0<c:=by simpa using o
  refine wp_region_held_drew (S:=CellL [(⟨s1+1,0,Y⟩,O a5 m5 c5),(⟨s1+1,1,Y⟩,Z s5),(⟨s1+1,2,Y⟩,O b5 n5 k5)]) kM cA (fun a=>?_);have E0:Ext R j.drew:=HX.out.trans (eR j).drew;refine tk1 (i:=0) ?_;refine cl1 (i:=1) fun K b=>?_
  go_simp
  (with_reducible refine cM (aj.out _ _ (P.ext E0)) ?_)
  rintro e w3 ⟨rfl,x⟩
  skip
  go_wp2_with fail
  refine kO b (cE a x) (fun a=>?_);clear b K;refine sN 2 ?_
  iterate 4
   refine tkn ?_
  refine oN ?_;refine cl1 (i:=6) fun K b=>?_
  go_simp
  (with_reducible refine cM (zaP _ d ay az) ?_)
  rintro e w4 ⟨r4,rfl,ar,af⟩;obtain⟨a6,m6,c6,s6,b6,n6,k6,rfl⟩:=ar.form
  go_wp2_with fail
  refine kO b (cE a af) (fun a=>?_);clear b K;refine cl1 (i:=7) fun K b=>?_
  go_simp
  (with_reducible refine cM (HC.out _ _ _ (P.ext (E0.trans (x.trans af))) ar) ?_)
  rintro e w5 ⟨rfl,av⟩
  skip
  go_wp2_with fail
  refine kO b (cE a av) (fun a=>?_);clear b K;refine sN 8 ?_
  iterate 2
   refine tkn ?_
  refine oN ?_;refine wpAnyH_done kM ?_ _;have X3:Ext j w5:=((eR j).drew).trans (x.trans (af.trans av));have y:=g3.ext X3;have z:=g4.ext X3;go_wp2;obtain⟨pa,pm,q,ps,p,t,r,p0,p1,p2,ag,ah,ai,pz,D⟩:=y.rd;obtain⟨ea,em,ec,es,l,n,m,e0,e1,e2,ab,ac,ad,ez,L⟩:=z.rd;refine zae (fun i=>decide (2<i)) (CellL [(⟨w.heap.size+1,0,Y⟩,O pa pm q),(⟨w.heap.size+1,1,Y⟩,Z ps),(⟨w.heap.size+1,2,Y⟩,O p t r),(⟨w.heap.size+1+1,0,Y⟩,O ea em ec),(⟨w.heap.size+1+1,1,Y⟩,Z es),(⟨w.heap.size+1+1,2,Y⟩,O l n m)]) kM ?_ (fun a=>?_)
  ·exact cA
  refine sN 0 ?_
  iterate 2
   refine tun ?_
  refine oN ?_;refine cu1 (i:=2) fun K b=>?_
  go_simp;refine kO b (fun _=>?_) (fun a=>?_)
  ·exact cA
  clear b K;have a:=a rfl;refine cu1 (i:=3) fun K b=>?_
  go_simp;refine kO b (fun h=>nomatch h) (fun a=>?_);clear b K;refine cu1 (i:=4) fun K b=>?_
  go_simp;refine kO b (fun h=>nomatch h) (fun a=>?_);clear b K;refine doneHU kM ?_ _;go_wp2;refine bR (v:=.tuple #[J #[O pa pm q,Z ps,O p t r],J #[O ea em ec,Z es,O l n m],Z false]) (by simp[results,Tryz.results143,go_sem,p0,p1,p2,ag,ah,ai,e0,e1,e2,ab,ac,ad]) rfl ?_;obtain⟨P1,P2,P3,P4,P5,P6⟩:=RB.copy2 y z oM D L rfl rfl;refine⟨(P6 w (ak.out.trans X3) oM oM).drew,J #[O pa pm q,Z ps,O p t r],J #[O ea em ec,Z es,O l n m],?_,?_,rfl⟩
  ·exact(D.keep P4).ext (eR _).drew
  ·exact(L.keep P4).ext (eR _).drew
end
section
open Go.RowKit Go.Shelf Go.Sort
theorem znW{x y:Int}(h:0<x)(k:x*y<=0):y<=0:=by
 by_cases a:y<=0
 ·exact a
 ·have:=Int.mul_pos h (show 0<y by omega)
  omega
theorem znV{x y:Int}(h:0<x)(k:x*y<0):y<0:=by
 by_cases a:y<0
 ·exact a
 ·have:=Int.mul_nonneg (Int.le_of_lt h) (show 0<=y by omega)
  omega
theorem zkw{c g d j f i:Int}(m:0<c)(n:d<=0)(o:0<f)(k:0<c*i-g*f)(l:0<d*i-j*f):c*j-g*d<0:=by
 have e:f*(c*j-g*d)=d*(c*i-g*f)-c*(d*i-j*f):=by grind
 have a:=Int.mul_pos m l;have b:d*(c*i-g*f)<=0:=Int.mul_nonpos_of_nonpos_of_nonneg n (Int.le_of_lt k);exact znV o oM
theorem zfB{f g c i d j:Int}(o:0<f)(m:c<0)(n:0<d)(k:0<=f*i-g*c)(l:0<=f*j-g*d):c*j-i*d<=0:=by
 have e:f*(c*j-i*d)=c*(f*j-g*d)-d*(f*i-g*c):=by grind
 have a:0<=d*(f*i-g*c):=Int.mul_nonneg (Int.le_of_lt n) k;have b:c*(f*j-g*d)<=0:=Int.mul_nonpos_of_nonpos_of_nonneg (Int.le_of_lt m) l;exact znW o oM
def LowE(cs:LP)(u v:Int×Int):Prop:=EdgC cs u v/\u.1<v.1
def LowV(cs:LP)(q:Int×Int):Prop:=∃u v,LowE cs u v/\(q=u\/q=v)
theorem Cvx.left0{cs:LP}(h:Cvx cs){u v c:Int×Int}(d:EdgC cs u v)(b:c∈cs):0<=trn u v c:=by
 by_cases a:c=u
 ·subst a;unfold trn;grind
 ·by_cases hv:c=v
  ·subst hv;unfold trn;grind
  ·exact Int.le_of_lt (h.left u v d c b a hv)
theorem LowV.mem{cs:LP}{q:Int×Int}(h:LowV cs q):q∈cs:=by
 obtain⟨u,v,⟨a,_⟩,rfl|rfl⟩:=h
 ·exact a.mem.1
 ·exact a.mem.2
theorem LowV.uniq{cs:LP}(h:Cvx cs){u w:Int×Int}(f:LowV cs u)(c:LowV cs w)(d:u.1=w.1):u=w:=by
 have key:∀{u w:Int×Int},LowV cs u->LowV cs w->u.1=w.1->¬u.2<w.2:=by
  intro u w f c d m;obtain⟨a,b,⟨j,i⟩,c⟩:=c;have g:=h.left0 j f.mem;unfold trn at g
  rcases c with rfl|rfl
  ·have e:(b.1-w.1)*(u.2-b.2)-(b.2-w.2)*(u.1-b.1)=(b.1-w.1)*(u.2-w.2):=by rw[d];grind
   rw[e]at g;have:=Int.mul_neg_of_pos_of_neg (show 0<b.1-w.1 by omega) (show u.2-w.2<0 by omega);omega
  ·have e:(w.1-a.1)*(u.2-w.2)-(w.2-a.2)*(u.1-w.1)=(w.1-a.1)*(u.2-w.2):=by rw[d];grind
   rw[e]at g;have:=Int.mul_neg_of_pos_of_neg (show 0<w.1-a.1 by omega) (show u.2-w.2<0 by omega);omega
 have k:=key f c d;have l:=key c f d.symm;exact Prod.ext d oM
theorem EdgC.next{cs:LP}{a:Int×Int}(h:a∈cs)(b:2<=cs.length):∃s,EdgC cs a s:=by
 obtain⟨A,B,rfl⟩:=List.append_of_mem h
 cases B with
 | cons s B=>exact⟨s,.inl ⟨A,B,rfl⟩⟩
 | nil =>
  cases A with
  | nil=>simp at b
  | cons v M=>exact⟨v,.inr ⟨M,by simp⟩⟩
theorem LowV.goes{cs:LP}(h:Cvx cs){a b:Int×Int}(f:LowV cs a)(n:b∈cs)(q:a.1<b.1):∃b',LowE cs a b':=by
 obtain⟨u,v,⟨d,l⟩,f⟩:=f
 rcases f with rfl|rfl
 ·exact⟨v,d,l⟩
 ·obtain⟨s,j⟩:=EdgC.next d.mem.2 (by have:=h.three;omega)
  by_cases k:a.1<s.1
  ·exact⟨s,j,k⟩
  ·exfalso
   have g:b≠s:=by rintro rfl;omega
   have c:b≠a:=by rintro rfl;omega
   have i:b≠u:=by rintro rfl;omega
   have m:=h.left u a d b n i c;have e:=h.left a s j b n c g;have p:=h.left0 d j.mem.2;unfold trn at m e p;have o:(s.1-a.1)*(b.2-s.2)-(s.2-a.2)*(b.1-s.1)=(s.1-a.1)*(b.2-a.2)-(s.2-a.2)*(b.1-a.1):=by grind
   rw[o]at e;have:=zkw (show 0<a.1-u.1 by omega) (show s.1-a.1<=0 by omega) (show 0<b.1-a.1 by omega) m e;omega
theorem LowV.edge{cs:LP}(h:Cvx cs){a b:Int×Int}(y:LowV cs a)(l:LowV cs b)(m:a.1<b.1)(r:∀q,LowV cs q->¬(a.1<q.1/\q.1<b.1)):LowE cs a b:=by
 obtain⟨e,i,u⟩:=y.goes h l.mem m;have f:LowV cs e:=⟨a,e,⟨i,u⟩,.inr rfl⟩
 by_cases o:e.1=b.1
 ·rw[<-f.uniq h l o];exact⟨i,u⟩
 ·have D:b.1<e.1:=by
   have:=r e f;omega
  exfalso
  have n:b≠a:=by rintro rfl;omega
  have g:b≠e:=by rintro rfl;omega
  have s:=h.left a e i b l.mem n g;obtain⟨c,d,⟨t,z⟩,p⟩:=l;have j:=h.left0 t i.mem.1;have k:=h.left0 t i.mem.2;unfold trn at s j k;have v:(e.1-a.1)*(b.2-e.2)-(e.2-a.2)*(b.1-e.1)=(a.1-b.1)*(e.2-b.2)-(a.2-b.2)*(e.1-b.1):=by grind
  rw[v]at s
  rcases p with rfl|rfl
  ·have w:(d.1-b.1)*(a.2-d.2)-(d.2-b.2)*(a.1-d.1)=(d.1-b.1)*(a.2-b.2)-(d.2-b.2)*(a.1-b.1):=by grind
   have x:(d.1-b.1)*(e.2-d.2)-(d.2-b.2)*(e.1-d.1)=(d.1-b.1)*(e.2-b.2)-(d.2-b.2)*(e.1-b.1):=by grind
   rw[w]at j;rw[x]at k;have:=zfB (show 0<d.1-b.1 by omega) (show a.1-b.1<0 by omega) (show 0<e.1-b.1 by omega) j k;omega
  ·have:=zfB (show 0<b.1-c.1 by omega) (show a.1-b.1<0 by omega) (show 0<e.1-b.1 by omega) j k
   omega
end
section
open Go.RowKit Go.Shelf Go.Sort Go.Lib
theorem zbr{l m:LP}(s:l.Perm m)(q:∀x∈l,BP x)(c:m.Pairwise fun x y=>x.1<y.1):sortX l=m:=by
 have n:=zcn q;have f:=(zaS l).trans s;refine List.Perm.eq_of_pairwise (le:=fun x y=>x.1<=y.1) ?_ n (c.imp fun h=>by omega) f;intro a b o e p r;have d:a∈m:=f.mem_iff.1 o;obtain⟨i,g,rfl⟩:=List.getElem_of_mem d;obtain⟨j,k,rfl⟩:=List.getElem_of_mem e;rw[List.pairwise_iff_getElem]at c
 rcases Nat.lt_trichotomy i j with h|h|h
 ·have:=c i j g k h;omega
 ·subst h;rfl
 ·have:=c j i k g h;omega
def insI(z:Int):List Int->List Int
 | []=>[z]
 | y::ys=>if z<=y then z::y::ys else y::insI z ys
def sortI:List Int->List Int
 | []=>[]
 | z::zs=>insI z (sortI zs)
theorem zdG(z:Int):∀ys,(insI z ys).Perm (z::ys)
 | []=>List.Perm.refl _
 | y::ys=>by
  unfold insI
  split
  ·exact List.Perm.refl _
  ·exact((zdG z ys).cons y).trans (List.Perm.swap _ _ _)
theorem zex(z:Int):∀ys,ys.Pairwise (fun x y:Int=>x<=y)->(insI z ys).Pairwise (fun x y:Int=>x<=y)
 | [],_=>by unfold insI;exact List.pairwise_singleton _ _
 | y::ys,h=>by
  obtain⟨c,d⟩:=List.pairwise_cons.1 h;unfold insI
  split
  ·rename_i hz
   refine List.pairwise_cons.2 ⟨fun a b=>?_,h⟩
   rcases List.mem_cons.1 b with rfl|b
   ·exact hz
   ·exact Int.le_trans hz (c a b)
  ·rename_i hz
   refine List.pairwise_cons.2 ⟨fun a b=>?_,zex z ys d⟩
   rcases List.mem_cons.1 ((zdG z ys).mem_iff.1 b)with rfl|b
   ·omega
   ·exact c a b
theorem zeF:∀zs,(sortI zs).Perm zs
 | []=>List.Perm.refl _
 | z::zs=>(zdG z _).trans ((zeF zs).cons z)
theorem zec:∀zs,(sortI zs).Pairwise (fun x y:Int=>x<=y)
 | []=>List.Pairwise.nil
 | z::zs=>zex z _ (zec zs)
theorem zcz:isort=sortI:=by
 funext zs
 unfold isort;refine List.Perm.eq_of_pairwise (le:=fun x y:Int=>x<=y) (fun a b _ _ d e=>Int.le_antisymm d e) ?_ (zec zs) ((List.mergeSort_perm zs _).trans (zeF zs).symm);have:=List.pairwise_mergeSort (le:=fun x y:Int=>decide (x<=y)) (fun a b c d e=>by simp at *;omega) (fun a b=>by simp;omega) zs;exact this.imp fun h=>by simpa using h
end
section
open Go.RowKit Go.Shelf Go.Sort
def ngP(p:Int×Int):Int×Int:=(-p.1,-p.2)
theorem zaO(p:Int×Int):ngP (ngP p)=p:=by unfold ngP;simp
theorem Cvx.ng{cs:LP}(h:Cvx cs):Cvx (cs.map ngP):=
 h.map _ (fun u v c=>by unfold trn ngP;dsimp only;grind) (fun x y e=>by rw[<-zaO x,e,zaO])
theorem EdgC.maps{cs:LP}(f:Int×Int->Int×Int){u v:Int×Int}(h:EdgC cs u v):EdgC (cs.map f) (f u) (f v):=by
 rcases h with ⟨A,B,rfl⟩|⟨M,rfl⟩
 ·exact .inl ⟨A.map f,B.map f,by simp⟩
 ·exact .inr ⟨M.map f,by simp⟩
theorem EdgC.ng{cs:LP}{u v:Int×Int}(h:EdgC (cs.map ngP) u v):EdgC cs (ngP u) (ngP v):=by
 have:=h.maps ngP
 rwa [List.map_map,show ngP ∘ ngP=id from funext zaO,List.map_id]at this
def UpE(cs:LP)(u v:Int×Int):Prop:=EdgC cs u v/\v.1<u.1
def UpV(cs:LP)(q:Int×Int):Prop:=∃u v,UpE cs u v/\(q=u\/q=v)
theorem UpE.ng{cs:LP}{u v:Int×Int}:UpE cs u v ↔ LowE (cs.map ngP) (ngP u) (ngP v):=by
 constructor
 ·rintro ⟨h,k⟩
  exact⟨h.maps ngP,by unfold ngP;dsimp only;omega⟩
 ·rintro ⟨h,k⟩
  have:=h.ng;rw[zaO,zaO]at this;exact⟨this,by unfold ngP at k;dsimp only at k;omega⟩
theorem UpV.ng{cs:LP}{q:Int×Int}:UpV cs q ↔ LowV (cs.map ngP) (ngP q):=by
 constructor
 ·rintro ⟨u,v,h,a⟩
  exact⟨ngP u,ngP v,UpE.ng.1 h,by rcases a with rfl|rfl<;>simp⟩
 ·rintro ⟨u,v,h,a⟩
  refine⟨ngP u,ngP v,UpE.ng.2 (by rw[zaO,zaO];exact h),?_⟩
  rcases a with rfl|rfl
  ·exact .inl (zaO q).symm
  ·exact .inr (zaO q).symm
theorem UpV.uniq{cs:LP}(h:Cvx cs){u w:Int×Int}(a:UpV cs u)(b:UpV cs w)(c:u.1=w.1):u=w:=by
 have:=LowV.uniq h.ng (UpV.ng.1 a) (UpV.ng.1 b) (by unfold ngP;dsimp only;omega);rw[<-zaO u,this,zaO]
theorem UpV.edge{cs:LP}(h:Cvx cs){a b:Int×Int}(e:UpV cs a)(g:UpV cs b)(f:a.1<b.1)(c:∀q,UpV cs q->¬(a.1<q.1/\q.1<b.1)):UpE cs b a:=by
 refine UpE.ng.2 (LowV.edge h.ng (UpV.ng.1 g) (UpV.ng.1 e) (by unfold ngP;dsimp only;omega) (fun q i d=>?_));refine c (ngP q) (UpV.ng.2 (by rw[zaO];exact i)) ?_;unfold ngP at d ⊢;dsimp only at d ⊢;omega
theorem zbN{cs:LP}(c:2<=cs.length){u v:Int×Int}:EdgC cs u v ↔ ∃i,i<cs.length/\cs.getD i (0,0)=u/\cs.getD ((i+1) % cs.length) (0,0)=v:=by
 constructor
 ·rintro (⟨A,B,e⟩|⟨M,e⟩)
  ·have l:A.length+1<cs.length:=by rw[e];simp
   refine⟨A.length,by omega,?_,?_⟩
   ·rw[gD,e];simp
   ·rw[Nat.mod_eq_of_lt l,gD,e];simp
  ·have m:cs.length=M.length+2:=by rw[e];simp
   refine⟨M.length+1,by omega,?_,?_⟩
   ·rw[gD,e];simp
   ·rw[show M.length+1+1=cs.length by omega,Nat.mod_self,gD,e];simp
 ·rintro ⟨i,b,rfl,rfl⟩
  have g:∀j,(hj:j<cs.length)->cs.getD j (0,0)=cs[j]:=fun j hj=>by rw[gD,gE hj];rfl
  by_cases a:i+1<cs.length
  ·rw[Nat.mod_eq_of_lt a,g i b,g (i+1) a]
   refine .inl ⟨cs.take i,cs.drop (i+1+1),?_⟩;rw[<-List.drop_eq_getElem_cons a,<-List.drop_eq_getElem_cons b,List.take_append_drop]
  ·have e:i+1=cs.length:=oM
   rw[e,Nat.mod_self,g i b,g 0 oM]
   right
   cases cs with
   | nil=>simp at c
   | cons v r =>
    have d:r≠[]:=by rintro rfl;simp at c
    refine⟨r.dropLast,?_⟩
    have k:(v::r)[i]=r.getLast d:=by
     rw[List.getLast_eq_getElem];simp only[List.length_cons]at e;obtain⟨f,rfl⟩:∃f,i=f+1:=⟨i-1,by have:=List.length_pos_iff.2 d;omega⟩;simp only[List.getElem_cons_succ]
     congr 1
     omega
    rw[k];simp[List.dropLast_concat_getLast]
theorem zcO{cs:LP}(c:2<=cs.length){q:Int×Int}:q∈lowRaw cs cs.length ↔ LowV cs q:=by
 unfold lowRaw LowV LowE;rw[List.mem_flatMap]
 constructor
 ·rintro ⟨i,b,a⟩
  rw[List.mem_range]at b;unfold edgeLow at a
  split at a
  ·rename_i hx
   refine⟨_,_,⟨(zbN c).2 ⟨i,b,rfl,rfl⟩,hx⟩,?_⟩
   simpa using a
  ·cases a
 ·rintro ⟨u,v,⟨d,hx⟩,a⟩
  obtain⟨i,b,rfl,rfl⟩:=(zbN c).1 d;refine⟨i,List.mem_range.2 b,?_⟩;unfold edgeLow;rw[if_pos hx]
  simpa using a
theorem zdO{cs:LP}(c:2<=cs.length){q:Int×Int}:q∈upRaw cs cs.length ↔ UpV cs q:=by
 unfold upRaw UpV UpE;rw[List.mem_flatMap]
 constructor
 ·rintro ⟨i,b,a⟩
  rw[List.mem_range]at b;unfold edgeUp at a
  split at a
  ·rename_i hx
   refine⟨_,_,⟨(zbN c).2 ⟨i,b,rfl,rfl⟩,hx⟩,?_⟩
   simpa using a
  ·cases a
 ·rintro ⟨u,v,⟨d,hx⟩,a⟩
  obtain⟨i,b,rfl,rfl⟩:=(zbN c).1 d;refine⟨i,List.mem_range.2 b,?_⟩;unfold edgeUp;rw[if_pos hx]
  simpa using a
theorem zbl{α:Type}[DecidableEq α]:∀{c:List α}{x:α},x∈c->x∈compactP c
 | [a],x,h=>by simpa[compactP] using h
 | a::b::r,x,h=>by
  rw[compactP]
  split
  ·rename_i e
   subst e
   rcases List.mem_cons.1 h with rfl|h
   ·exact zbl (by simp)
   ·exact zbl h
  ·rcases List.mem_cons.1 h with rfl|h
   ·simp
   ·exact mC _ (zbl h)
theorem zez{a:LP}{q:Int×Int}:q∈lineOf a ↔ q∈a:=
 ⟨fun h=>(zaS a).mem_iff.1 (zaX h),fun h=>zbl ((zaS a).mem_iff.2 h)⟩
def Rise(l:LP):Prop:=l.Pairwise fun x y=>x.1<y.1
theorem zcu:∀(l:LP),l.Pairwise (fun x y=>x.1<=y.1)->(∀x∈l,∀y∈l,x.1=y.1->x=y)->Rise (compactP l)
 | [],_,_=>List.Pairwise.nil
 | [a],_,_=>by unfold Rise;simp[compactP]
 | a::b::r,h,hu=>by
  obtain⟨f,g⟩:=List.pairwise_cons.1 h;have i:=zcu (b::r) g (fun x m y d=>hu x (mC _ m) y (mC _ d));rw[compactP]
  split
  ·exact i
  ·rename_i hne
   refine List.pairwise_cons.2 ⟨fun y d=>?_,i⟩;have c:=zaX d;have k:=f y c;have n:=f b sM
   have j:b.1<=y.1:=by
    rcases List.mem_cons.1 c with rfl|c
    ·exact Int.le_refl _
    ·exact(List.pairwise_cons.1 g).1 y c
   have:a.1≠b.1:=fun e=>hne (hu a sM b sM e)
   omega
theorem zdK{k:Int}{a:LP}(e:PBd k a)(c:k<=1000000)(f:∀x∈a,∀y∈a,x.1=y.1->x=y):Rise (lineOf a):=by
 have d:=zaS a
 exact zcu _ (zcn fun x b=>by
  have:=e x b;unfold BP;exact⟨this.1.mono c,this.2.mono c⟩) (fun x b y g=>f x (d.mem_iff.1 b) y (d.mem_iff.1 g))
theorem Rise.between{l:LP}(h:Rise l){e:Edg}(d:e∈eds l):e.1∈l/\e.2∈l/\e.1.1<e.2.1/\∀q∈l,¬(e.1.1<q.1/\q.1<e.2.1):=by
 unfold eds at d;obtain⟨i,f,rfl⟩:=List.getElem_of_mem d;have b:i+1<l.length:=by rw[List.length_zip,List.length_tail]at f;omega
 have k:(l.zip l.tail)[i]'f=(l[i]' oM,l[i+1]'b):=sM
 rw[k];have c:=List.pairwise_iff_getElem.1 h;refine⟨List.getElem_mem _,List.getElem_mem _,c i (i+1) oM b oM,fun q n=>?_⟩;obtain⟨j,g,rfl⟩:=List.getElem_of_mem n;dsimp only;rintro ⟨o,p⟩
 rcases Nat.lt_trichotomy j i with a|rfl|a
 ·have:=c j i g oM a;omega
 ·omega
 ·rcases Nat.lt_or_eq_of_le (show i+1<=j from a)with m|rfl
  ·have:=c (i+1) j b g m;omega
  ·omega
theorem zbp{p:Pl}(h:placedOk p=true):Rise (lowP2 p)/\(∀q,q∈lowP2 p ↔ LowV (cornersP p) q)/\∀e∈eds (lowP2 p),LowE (cornersP p) e.1 e.2:=by
 have c:=zaQ h;have b:2<=(cornersP p).length:=by have:=c.three;omega
 obtain⟨i,r,h12⟩:=zaK h;have l:=zfJ i (nE _);have a:∀q,q∈lowP2 p ↔ LowV (cornersP p) q:=fun q=>by unfold lowP2;rw[zez,zcO b]
 have g:Rise (lowP2 p):=zdK l.1 dM (fun x f y m e=>LowV.uniq c ((zcO b).1 f) ((zcO b).1 m) e);refine⟨g,a,fun e j=>?_⟩;obtain⟨n,o,f,d⟩:=g.between j;exact LowV.edge c ((a _).1 n) ((a _).1 o) f (fun q k=>d q ((a q).2 k))
theorem zcT{p:Pl}(h:placedOk p=true):Rise (upP2 p)/\(∀q,q∈upP2 p ↔ UpV (cornersP p) q)/\∀e∈eds (upP2 p),UpE (cornersP p) e.2 e.1:=by
 have c:=zaQ h;have b:2<=(cornersP p).length:=by have:=c.three;omega
 obtain⟨i,r,h12⟩:=zaK h;have l:=zfJ i (nE _);have a:∀q,q∈upP2 p ↔ UpV (cornersP p) q:=fun q=>by unfold upP2;rw[zez,zdO b]
 have g:Rise (upP2 p):=zdK l.2 dM (fun x f y m e=>UpV.uniq c ((zdO b).1 f) ((zdO b).1 m) e);refine⟨g,a,fun e j=>?_⟩;obtain⟨n,o,f,d⟩:=g.between j;exact UpV.edge c ((a _).1 n) ((a _).1 o) f (fun q k=>d q ((a q).2 k))
def xh(k:Int):Rat:=((2*k+1:Int):Rat) / 2
theorem zhi(x y:Rat):rcmp x y<=0 ↔ x<=y:=by
 rw[<-Int.not_lt,zeZ,Rat.not_lt]
theorem zmz(k:Int):xh k*2=((2*k+1:Int):Rat):=by unfold xh;rw[Rat.div_mul_cancel dM]
theorem zoM(k m:Int):xh k<=(m:Rat) ↔ k<m:=by
 have c:(0:Rat)<=2:=dM
 have b:(m:Rat)*2=((m*2:Int):Rat):=by rw[Rat.intCast_mul];rfl
 constructor
 ·intro h
  have:=Rat.mul_le_mul_of_nonneg_right h c;rw[zmz,b,Rat.intCast_le_intCast]at this;omega
 ·intro h
  refine Rat.not_lt.1 fun a=>?_
  have:=Rat.mul_le_mul_of_nonneg_right (Rat.le_of_lt a) c;rw[zmz,b,Rat.intCast_le_intCast]at this;omega
theorem zfp(k:Int):∀(l:LP)(a:Int×Int),a.1<=k->(∃b∈l,k<b.1)->∃e∈eds (a::l),e.1.1<=k/\k<e.2.1/\(eds (a::l)).find? (xLe (xh k))=N e
 | [],a,_,⟨b,d,_⟩=>by cases d
 | b::r,a,ha,h=>by
  have e:eds (a::b::r)=(a,b)::eds (b::r):=rfl
  have j:xLe (xh k) (a,b)=decide (k<b.1):=by
   unfold xLe;rw[decide_eq_decide,zhi,zoM]
  rw[e]
  by_cases d:k<b.1
  ·refine⟨(a,b),by simp,ha,d,?_⟩
   rw[List.find?_cons,j,decide_eq_true d]
  ·obtain⟨m,c,i⟩:=h
   have f:∃b∈r,k<b.1:=by
    rcases List.mem_cons.1 c with rfl|c
    ·exact absurd i d
    ·exact⟨m,c,i⟩
   obtain⟨n,g,o,p,q⟩:=zfp k r b oM f;refine⟨n,mC _ g,o,p,?_⟩;rw[List.find?_cons,j,decide_eq_false d];exact q
theorem zm5{l:LP}{k:Int}(d:l≠[])(j:lineL l<=k)(c:k<lineR l):∃e∈eds l,e.1.1<=k/\k<e.2.1/\atR l (xh k)=atE (xh k) e:=by
 cases l with
 | nil=>exact absurd rfl d
 | cons a r =>
  have m:a.1<=k:=j
  have o:∃b∈r,k<b.1:=by
   cases r with
   | nil=>unfold lineR at c;simp at c;omega
   | cons b r =>
    refine⟨(b::r).getLast sM,List.getLast_mem _,?_⟩;unfold lineR at c;rw[gD,gE sM]at c;simp only[Option.getD_some]at c;rw[List.getLast_eq_getElem]
    simpa using c
  obtain⟨e,n,f,g,i⟩:=zfp k r a m o;refine⟨e,n,f,g,?_⟩;unfold atR;rw[i]
theorem third{cs:LP}(h:Cvx cs)(u v:Int×Int):∃c∈cs,c≠u/\c≠v:=by
 apply Classical.byContradiction
 intro d
 have f:∀c∈cs,c∈[u,v]:=fun c b=>by
  apply Classical.byContradiction
  intro a;exact d ⟨c,b,fun e=>a (by simp[e]),fun e=>a (by simp[e])⟩
 have:=List.Nodup.length_le_of_subset h.nd f;have:=h.three;simp at *;omega
theorem EdgC.ne{cs:LP}(h:Cvx cs){u v:Int×Int}(f:EdgC cs u v):u≠v:=by
 rintro rfl;obtain⟨c,d,a,b⟩:=third h u u;have:=h.left u u f c d a b;unfold trn at this;have e:(u.1-u.1)*(c.2-u.2)-(u.2-u.2)*(c.1-u.1)=0:=by grind
 omega
theorem Cvx.minLow{cs:LP}(h:Cvx cs):∃u,LowV cs u/\∀c∈cs,u.1<=c.1:=by
 obtain⟨v,hv,a⟩:=zfz (fun q:Int×Int=>q.1) (S:=cs) (by rintro rfl;have:=h.three;simp at this);have r:2<=cs.length:=by have:=h.three;omega
 obtain⟨s,j⟩:=EdgC.next hv r
 by_cases n:v.1<s.1
 ·exact⟨v,⟨v,s,⟨j,n⟩,.inl rfl⟩,a⟩
 have d:=j.mem.2;have o:s.1=v.1:=by have:=a s d;omega
 obtain⟨t,k⟩:=EdgC.next d r
 by_cases l:s.1<t.1
 ·exact⟨s,⟨s,t,⟨k,l⟩,.inl rfl⟩,fun c i=>by rw[o];exact a c i⟩
 exfalso
 have f:=k.mem.2;have y:t.1=v.1:=by have:=a t f;omega
 by_cases g:t=v
 ·subst g
  obtain⟨c,i,p,w⟩:=third h t s;have b:=h.left t s j c i p w;have x:=h.left s t k c i w p;unfold trn at b x;have e:(s.1-t.1)*(c.2-s.2)-(s.2-t.2)*(c.1-s.1)+((t.1-s.1)*(c.2-t.2)-(t.2-s.2)*(c.1-t.1))=0:=by grind
  omega
 ·have m:t≠s:=fun e=>(k.ne h) e.symm
  have b:=h.left v s j t f g m;unfold trn at b;rw[o,y,Int.sub_self]at b;simp at b
def mzP(p:Int×Int):Int×Int:=(p.1,-p.2)
theorem zeV(p:Int×Int):mzP (mzP p)=p:=by unfold mzP;simp
theorem Cvx.mz{cs:LP}(h:Cvx cs):Cvx (cs.map mzP).reverse:=
 h.flip _ (fun u v c=>by unfold trn mzP;dsimp only;grind) (fun x y e=>by rw[<-zeV x,e,zeV])
theorem LowV.mz{cs:LP}{q:Int×Int}(h:LowV (cs.map mzP).reverse q):UpV cs (mzP q):=by
 obtain⟨u,v,⟨e,d⟩,f⟩:=h;obtain⟨i,g,b,c,a⟩:=(EdgC.rev e).map;refine⟨i,g,⟨a,?_⟩,?_⟩
 ·rw[b,c]at d
  exact d
 ·rcases f with rfl|rfl
  ·right;rw[c,zeV]
  ·left;rw[b,zeV]
theorem Cvx.minUp{cs:LP}(h:Cvx cs):∃u,UpV cs u/\∀c∈cs,u.1<=c.1:=by
 obtain⟨u,d,b⟩:=h.mz.minLow;refine⟨mzP u,d.mz,fun c a=>?_⟩;exact b (mzP c) (List.mem_reverse.2 (List.mem_map_of_mem a))
theorem Cvx.maxLow{cs:LP}(h:Cvx cs):∃u,LowV cs u/\∀c∈cs,c.1<=u.1:=by
 obtain⟨u,d,b⟩:=h.ng.minUp;refine⟨ngP u,?_,fun c a=>?_⟩
 ·have:=UpV.ng.1 d
  rwa [List.map_map,show ngP ∘ ngP=id from funext zaO,List.map_id]at this
 ·have:=b (ngP c) (List.mem_map_of_mem a)
  unfold ngP at *;dsimp only at *;omega
theorem Cvx.maxUp{cs:LP}(h:Cvx cs):∃u,UpV cs u/\∀c∈cs,c.1<=u.1:=by
 obtain⟨u,d,b⟩:=h.ng.minLow;refine⟨ngP u,UpV.ng.2 (by rw[zaO];exact d),fun c a=>?_⟩;have:=b (ngP c) (List.mem_map_of_mem a);unfold ngP at *;dsimp only at *;omega
theorem Rise.ends{l:LP}(h:Rise l)(c:l≠[]):(∃q∈l,q.1=lineL l)/\(∃q∈l,q.1=lineR l)/\∀q∈l,lineL l<=q.1/\q.1<=lineR l:=by
 have a:=List.length_pos_iff.2 c;have j:=List.pairwise_iff_getElem.1 h;have d:lineL l=(l[0]'a).1:=by unfold lineL;rw[gD,gE a];rfl
 have e:lineR l=(l[l.length-1]' oM).1:=by unfold lineR;rw[gD,gE oM];rfl
 refine⟨⟨_,List.getElem_mem a,d.symm⟩,⟨_,List.getElem_mem oM,e.symm⟩,fun q k=>?_⟩;obtain⟨i,g,rfl⟩:=List.getElem_of_mem k;rw[d,e]
 constructor
 ·rcases Nat.eq_zero_or_pos i with rfl|b
  ·exact Int.le_refl _
  ·have:=j 0 i a g b;omega
 ·rcases Nat.lt_or_ge i (l.length-1)with f|f
  ·have:=j i (l.length-1) g oM f;omega
  ·have:i=l.length-1:=oM
   subst this;exact Int.le_refl _
theorem UpV.mem{cs:LP}{q:Int×Int}(h:UpV cs q):q∈cs:=by
 obtain⟨u,v,⟨a,_⟩,rfl|rfl⟩:=h
 ·exact a.mem.1
 ·exact a.mem.2
theorem zba{p:Pl}(h:placedOk p=true):lineL (upP2 p)=lineL (lowP2 p)/\lineR (upP2 p)=lineR (lowP2 p)/\lineL (lowP2 p)<lineR (lowP2 p)/\lowP2 p≠[]/\upP2 p≠[]:=by
 have s:=zaQ h;obtain⟨r1,k,d1⟩:=zbp h;obtain⟨r2,l,d2⟩:=zcT h;obtain⟨a,z,f⟩:=s.minLow;obtain⟨b,L,g⟩:=s.minUp;obtain⟨c,D,i⟩:=s.maxLow;obtain⟨d,W,j⟩:=s.maxUp;have R:lowP2 p≠[]:=fun e=>by have:=(k a).2 z;rw[e]at this;cases this
 have T:upP2 p≠[]:=fun e=>by have:=(l b).2 L;rw[e]at this;cases this
 obtain⟨⟨t,m,e1⟩,⟨w,n,e2⟩,r⟩:=r1.ends R;obtain⟨⟨x,o,e3⟩,⟨y,q,e4⟩,K⟩:=r2.ends T;have g1:=r a ((k a).2 z);have g2:=K b ((l b).2 L);have g3:=r c ((k c).2 D);have g4:=K d ((l d).2 W);have k1:=f x ((l x).1 o).mem;have k2:=g t ((k t).1 m).mem;have k3:=i y ((l y).1 q).mem;have k4:=j w ((k w).1 n).mem;have k5:=f t ((k t).1 m).mem;have k6:=g x ((l x).1 o).mem;have k7:=i w ((k w).1 n).mem;have k8:=j y ((l y).1 q).mem;refine⟨by omega,by omega,?_,R,T⟩;obtain⟨u,v,⟨P,Q⟩,_⟩:=z;have hu:=r u ((k u).2 ⟨u,v,⟨P,Q⟩,.inl rfl⟩);have hv:=r v ((k v).2 ⟨u,v,⟨P,Q⟩,.inr rfl⟩);omega
end
section
open Go.RowKit Go.Shelf
def betL(by':Int)(a b:Int×Int):Prop:=a.1<b.1\/(a.1=b.1/\by'*(a.2-b.2)<0)
instance (by':Int) (a b:Int×Int):Decidable (betL by' a b):=by unfold betL;infer_instance
def staN(l:LP)(by':Int):Nat->Nat
 | 0=>0
 | i+1=>if betL by' (ptN l i) (ptN l (staN l by' i))then i else staN l by' i
theorem zkn(l:LP){by':Int}(d:by'=1\/by' = -1):∀n,staN l by' (n+1)<n+1/\∀j,j<n+1->¬betL by' (ptN l j) (ptN l (staN l by' (n+1))):=by
 intro n
 induction n with
 | zero =>
  have e:staN l by' 1=0:=by unfold staN;split<;>rfl
  rw[e];refine⟨by omega,fun j g=>?_⟩;obtain rfl:j=0:=oM
  unfold betL
  rcases d with rfl|rfl<;>omega
 | succ n o =>
  obtain⟨i,b⟩:=o;have m:staN l by' (n+1+1)=if betL by' (ptN l (n+1)) (ptN l (staN l by' (n+1)))then n+1 else staN l by' (n+1):=rfl
  rw[m];obtain⟨f,k⟩:=gX (staN l by' (n+1));rw[k]at i b ⊢
  by_cases c:betL by' (ptN l (n+1)) (ptN l f)
  ·rw[if_pos c]
   refine⟨by omega,fun j g=>?_⟩
   by_cases a:j=n+1
   ·subst a
    unfold betL
    rcases d with rfl|rfl<;>omega
   ·have:=b j oM
    unfold betL at *
    rcases d with rfl|rfl<;>omega
  ·rw[if_neg c]
   refine⟨by omega,fun j g=>?_⟩
   by_cases a:j=n+1
   ·subst a;exact c
   ·exact b j oM
def ixN(n s:Nat)(by':Int)(k:Nat):Nat:=(((s:Int)+by'*(k:Int)) % (n:Int)).toNat
theorem zh0{n s k:Nat}{by':Int}(h:0<n):ixN n s by' k<n:=by
 unfold ixN;have a:=Int.emod_nonneg ((s:Int)+by'*(k:Int)) (show (n:Int)≠0 by omega);have b:=Int.emod_lt_of_pos ((s:Int)+by'*(k:Int)) (show 0<(n:Int) by omega);omega
theorem zgn{n s:Nat}{by':Int}(h:s<n):ixN n s by' 0=s:=by
 unfold ixN;simp only[Int.natCast_zero,Int.mul_zero,Int.add_zero];rw[Int.emod_eq_of_lt oM oM];omega
theorem zeP{n s k:Nat}{by':Int}(h:0<n):(ixN n s by' k:Int)=((s:Int)+by'*(k:Int)) % (n:Int):=by
 unfold ixN;have a:=Int.emod_nonneg ((s:Int)+by'*(k:Int)) (show (n:Int)≠0 by omega);omega
theorem zgm{n s k:Nat}{by':Int}(h:0<n):(((ixN n s by' k:Nat):Int)+by'+(n:Int)) % (n:Int)=((ixN n s by' (k+1):Nat):Int):=by
 rw[zeP h,zeP h,Int.add_emod_right,Int.emod_add_emod]
 congr 1
 rw[Int.natCast_add]
 grind
theorem zjr{n s k:Nat}(h:0<n):(ixN n s 1 k+1) % n=ixN n s 1 (k+1):=by
 have:=zgm (n:=n) (s:=s) (k:=k) (by':=1) h;rw[Int.add_emod_right]at this;have e:(((ixN n s 1 k+1) % n:Nat):Int)=((ixN n s 1 k:Nat)+1:Int) % n:=by rw[Int.natCast_emod,Int.natCast_add];rfl
 omega
theorem zjs{n s k:Nat}(h:0<n):(ixN n s (-1) (k+1)+1) % n=ixN n s (-1) k:=by
 have a:=zeP (n:=n) (s:=s) (k:=k+1) (by':=-1) h;have b:=zeP (n:=n) (s:=s) (k:=k) (by':=-1) h;have e:(((ixN n s (-1) (k+1)+1) % n:Nat):Int)=((ixN n s (-1) (k+1):Nat)+1:Int) % n:=by rw[Int.natCast_emod,Int.natCast_add];rfl
 have:(((ixN n s (-1) (k+1)+1) % n:Nat):Int)=((ixN n s (-1) k:Nat):Int):=by
  rw[e,a,b,Int.emod_add_emod]
  congr 1
  rw[Int.natCast_add]
  grind
 omega
structure ChL (cs:LP) (by':Int) (L:LP):Prop where
 ne:L≠[]
 pos:0<cs.length
 at':∀k,k<L.length->ptN L k=ptN cs (ixN cs.length (staN cs by' cs.length) by' k)
 up:∀k,k+1<L.length->(ptN L k).1<(ptN L (k+1)).1
 stop:(ptN cs (ixN cs.length (staN cs by' cs.length) by' L.length)).1<=(ptN L (L.length-1)).1
theorem zal{l:LP}{i:Nat}(h:i<l.length):ptN l i=l[i]:=by
 unfold ptN;rw[gD,gE h];rfl
theorem zaw{l:LP}{i:Nat}(h:i<l.length):ptN l i∈l:=by rw[zal h];exact List.getElem_mem h
theorem zjY{l:LP}(h:l.Nodup){i j:Nat}(b:i<l.length)(c:j<l.length)(e:ptN l i=ptN l j):i=j:=by
 rw[zal b,zal c]at e;have d:=List.pairwise_iff_getElem.1 h
 rcases Nat.lt_trichotomy i j with a|a|a
 ·exact absurd e (d i j b c a)
 ·exact a
 ·exact absurd e.symm (d j i c b a)
theorem zl9{l:LP}{k:Nat}(h:k+1<l.length):(ptN l k,ptN l (k+1))∈eds l:=by
 refine lM (i:=k) (zgd ?_ ?_)
 ·rw[zal oM];exact gE _
 ·rw[zal h];exact gE _
theorem zcS{l:LP}(h:Rise l){i j:Nat}(a:i<j)(b:j<l.length):(ptN l i).1<(ptN l j).1:=by
 rw[zal oM,zal b];exact List.pairwise_iff_getElem.1 h i j oM b a
theorem zl7{cs L:LP}{by':Int}(v:by'=1\/by' = -1)(g:cs.Nodup)(h3:3<=cs.length)(R:Rise L)(l:L≠[])(p:∀q∈L,q∈cs)
  (y:∀c∈cs,c≠ptN L 0->betL by' (ptN L 0) c)
  (t:∀k,k+1<L.length->∃i,i<cs.length/\(by'=1->ptN cs i=ptN L k/\ptN cs ((i+1) % cs.length)=ptN L (k+1))/\(by' = -1->ptN cs i=ptN L (k+1)/\ptN cs ((i+1) % cs.length)=ptN L k))
  (f:∀i j,i<cs.length->j<cs.length->ptN cs i=ptN L (L.length-1)->(by'=1->j=(i+1) % cs.length)->(by' = -1->i=(j+1) % cs.length)->(ptN cs j).1<=(ptN L (L.length-1)).1):ChL cs by' L:=by
 have P:=List.length_pos_iff.2 l;obtain⟨n,Q⟩:∃n,cs.length=n+1:=⟨cs.length-1,by omega⟩;obtain⟨u,w⟩:=zkn cs v n;rw[<-Q]at u w
 have d:∀k,k<L.length->ptN L k=ptN cs (ixN cs.length (staN cs by' cs.length) by' k):=by
  intro k
  induction k with
  | zero =>
   intro _;rw[zgn u]
   by_cases e:ptN cs (staN cs by' cs.length)=ptN L 0
   ·exact e.symm
   ·exfalso
    obtain⟨j,K,x⟩:=List.getElem_of_mem (p _ (zaw P));have:=w j oM;rw[zal K,x]at this;exact this (y _ (zaw u) e)
  | succ k o =>
   intro r;have o:=o oM;obtain⟨i,D,T,W⟩:=t k r
   rcases v with rfl|rfl
   ·obtain⟨a,b⟩:=T rfl
    rw[o]at a;have:=zjY g D (zh0 oM) a;rw[<-b,this,zjr oM]
   ·obtain⟨a,b⟩:=W rfl
    rw[o]at b;have m:=zjY g (Nat.mod_lt _ oM) (zh0 oM) b
    have:i=ixN cs.length (staN cs (-1) cs.length) (-1) (k+1):=by
     have z:=zjs (n:=cs.length) (s:=staN cs (-1) cs.length) (k:=k) oM;have h7:=zh0 (n:=cs.length) (s:=staN cs (-1) cs.length) (k:=k+1) (by':=-1) oM;rw[<-z]at m;rw[mod2 oM,mod2 oM]at m
     split at m<;>split at m<;>omega
    rw[<-a,this]
 refine⟨l,by omega,d,fun k r=>zcS R oM r,?_⟩;have e:=d (L.length-1) oM;refine f _ _ (zh0 oM) (zh0 oM) e.symm (fun h=>?_) (fun h=>?_)
 ·subst h
  rw[zjr oM,show L.length-1+1=L.length by omega]
 ·subst h
  have:=zjs (n:=cs.length) (s:=staN cs (-1) cs.length) (k:=L.length-1) oM;rw[show L.length-1+1=L.length by omega]at this;exact this.symm
theorem znL{u v c:Int×Int}(e:c.1=u.1)(d:u.1<v.1)(h:0<trn u v c):u.2<c.2:=by
 unfold trn at h;rw[e]at h;have a:(v.1-u.1)*(c.2-v.2)-(v.2-u.2)*(u.1-v.1)=(v.1-u.1)*(c.2-u.2):=by grind
 rw[a]at h
 by_cases b:u.2<c.2
 ·exact b
 ·have:=Int.mul_nonpos_of_nonneg_of_nonpos (show 0<=v.1-u.1 by omega) (show c.2-u.2<=0 by omega)
  omega
theorem zmS{u v c:Int×Int}(e:c.1=v.1)(d:v.1<u.1)(h:0<trn u v c):c.2<v.2:=by
 unfold trn at h;rw[e]at h;have a:(v.1-u.1)*(c.2-v.2)-(v.2-u.2)*(v.1-v.1)=(u.1-v.1)*(v.2-c.2):=by grind
 rw[a]at h
 by_cases b:c.2<v.2
 ·exact b
 ·have:=Int.mul_nonpos_of_nonneg_of_nonpos (show 0<=u.1-v.1 by omega) (show v.2-c.2<=0 by omega)
  omega
theorem zlp{cs L:LP}(x:Cvx cs)(r:Rise L)(m:∀q,q∈L ↔ LowV cs q)(d:∀e∈eds L,LowE cs e.1 e.2)(ne:L≠[]):ChL cs 1 L:=by
 have P:=List.length_pos_iff.2 ne;have h3:=x.three;obtain⟨a,ha,l⟩:=x.minLow
 have g:∀c∈cs,(ptN L 0).1<=c.1:=fun c f=>by
  have w:=(m a).2 ha;obtain⟨i,s,e⟩:=List.getElem_of_mem w;have W:=l c f
  rcases Nat.eq_zero_or_pos i with rfl|o
  ·rw[zal P,e];exact W
  ·have:=zcS r o s
   rw[zal s,e]at this;omega
 refine zl7 (.inl rfl) x.nd h3 r ne (fun q b=>((m q).1 b).mem) ?_ ?_ ?_
 ·intro c f D
  have w:=g c f;unfold betL
  by_cases e:(ptN L 0).1<c.1
  ·exact .inl e
  ·right
   refine⟨by omega,?_⟩;obtain⟨u,v,⟨p,n⟩,b⟩:=(m _).1 (zaw P)
   rcases b with b|b
   ·have y:c≠v:=fun o=>by rw[o,b]at e;exact e n
    have:=x.left u v p c f (by rw[<-b];exact D) y;rw[<-b]at this n;have:=znL oM n this;omega
   ·exfalso
    have:=g u p.mem.1;rw[b]at this;omega
 ·intro k hk
  obtain⟨p,n⟩:=d _ (zl9 hk);obtain⟨i,s,R,T⟩:=(zbN oM).1 p;exact⟨i,s,fun _=>⟨R,T⟩,fun e=>absurd e dM⟩
 ·intro i j s hj e w _
  have z:=w rfl
  by_cases n:(ptN cs j).1<=(ptN L (L.length-1)).1
  ·exact n
  ·exfalso
   have p:EdgC cs (ptN cs i) (ptN cs j):=(zbN oM).2 ⟨i,s,rfl,by rw[z];rfl⟩;have b:ptN cs j∈L:=(m _).2 ⟨_,_,⟨p,by rw[e];omega⟩,.inr rfl⟩;obtain⟨t,Q,K⟩:=List.getElem_of_mem b
   rcases Nat.lt_or_ge t (L.length-1)with o|o
   ·have:=zcS r o oM
    rw[zal Q,K]at this;omega
   ·have:t=L.length-1:=oM
    rw[<-this,zal Q,K]at n;omega
theorem znK{cs L:LP}(x:Cvx cs)(r:Rise L)(m:∀q,q∈L ↔ UpV cs q)(d:∀e∈eds L,UpE cs e.2 e.1)(ne:L≠[]):ChL cs (-1) L:=by
 have P:=List.length_pos_iff.2 ne;have h3:=x.three;obtain⟨a,ha,l⟩:=x.minUp
 have g:∀c∈cs,(ptN L 0).1<=c.1:=fun c f=>by
  have w:=(m a).2 ha;obtain⟨i,s,e⟩:=List.getElem_of_mem w;have W:=l c f
  rcases Nat.eq_zero_or_pos i with rfl|o
  ·rw[zal P,e];exact W
  ·have:=zcS r o s
   rw[zal s,e]at this;omega
 refine zl7 (.inr rfl) x.nd h3 r ne (fun q b=>((m q).1 b).mem) ?_ ?_ ?_
 ·intro c f D
  have w:=g c f;unfold betL
  by_cases e:(ptN L 0).1<c.1
  ·exact .inl e
  ·right
   refine⟨by omega,?_⟩;obtain⟨u,v,⟨p,n⟩,b⟩:=(m _).1 (zaw P)
   rcases b with b|b
   ·exfalso
    have:=g v p.mem.2;rw[b]at this;omega
   ·have y:c≠u:=fun o=>by rw[o,b]at e;exact e n
    have:=x.left u v p c f y (by rw[<-b];exact D);rw[<-b]at this n;have:=zmS oM n this;omega
 ·intro k hk
  obtain⟨p,n⟩:=d _ (zl9 hk);obtain⟨i,s,R,T⟩:=(zbN oM).1 p;exact⟨i,s,fun e=>absurd e dM,fun _=>⟨R,T⟩⟩
 ·intro i j s hj e _ w
  have z:=w rfl
  by_cases n:(ptN cs j).1<=(ptN L (L.length-1)).1
  ·exact n
  ·exfalso
   have p:EdgC cs (ptN cs j) (ptN cs i):=(zbN oM).2 ⟨j,hj,rfl,by rw[<-z];rfl⟩;have b:ptN cs j∈L:=(m _).2 ⟨_,_,⟨p,by rw[e];omega⟩,.inl rfl⟩;obtain⟨t,Q,K⟩:=List.getElem_of_mem b
   rcases Nat.lt_or_ge t (L.length-1)with o|o
   ·have:=zcS r o oM
    rw[zal Q,K]at this;omega
   ·have:t=L.length-1:=oM
    rw[<-this,zal Q,K]at n;omega
theorem znb{p:Pl}(h:placedOk p=true):ChL (cornersP p) 1 (lowP2 p):=
 zlp (zaQ h) (zbp h).1 (zbp h).2.1 (zbp h).2.2 (zba h).2.2.2.1
theorem zoC{p:Pl}(h:placedOk p=true):ChL (cornersP p) (-1) (upP2 p):=
 znK (zaQ h) (zcT h).1 (zcT h).2.1 (zcT h).2.2 (zba h).2.2.2.2
end
section
open Go.RowKit Go.Shelf Go.Sort Go.Lib
theorem zgJ(a b:Int×Int):atE (a.1:Rat) (a,b)=(a.2:Rat):=by
 unfold atE;dsimp only;rw[Rat.sub_self,Rat.zero_mul,Rat.div_def,Rat.zero_mul,Rat.add_zero]
theorem zfc(a b:Int×Int)(h:a.1<b.1):atE (b.1:Rat) (a,b)=(b.2:Rat):=by
 have e:((b.1-a.1:Int):Rat)≠0:=by
  intro f;have:(b.1-a.1:Int)=0:=by exact_mod_cast f
  omega
 unfold atE;dsimp only
 generalize hq:(((b.1:Int):Rat)-((a.1:Int):Rat))*((b.2-a.2:Int):Rat) / ((b.1-a.1:Int):Rat)=q
 have d:q*((b.1-a.1:Int):Rat)=(((b.1:Int):Rat)-((a.1:Int):Rat))*((b.2-a.2:Int):Rat):=by rw[<-hq,Rat.div_mul_cancel e]
 rw[<-Rat.intCast_sub,Rat.mul_comm]at d
 have:q=((b.2-a.2:Int):Rat):=by
  have c:(q-((b.2-a.2:Int):Rat))*((b.1-a.1:Int):Rat)=0:=by grind
  rcases Rat.mul_eq_zero.1 c with c|c
  ·grind
  ·exact absurd c e
 rw[this,Rat.intCast_sub]
 grind
theorem ziA(x:Rat)(a b:Int×Int)(k:((a.1:Int):Rat)<=x)(o:x<=((b.1:Int):Rat)):∀(l:LP),Rise l->(a,b)∈eds l->∃e,(eds l).find? (xLe x)=N e/\atE x e=atE x (a,b)
 | [],_,h=>by simp[eds]at h
 | [c],_,h=>by simp[eds]at h
 | c::d::r,hR,h=>by
  have e:eds (c::d::r)=(c,d)::eds (d::r):=rfl
  have t:xLe x (c,d)=decide (x<=((d.1:Int):Rat)):=by
   unfold xLe;rw[decide_eq_decide,zhi]
  obtain⟨p,f⟩:=List.pairwise_cons.1 hR;rw[e]at h ⊢;rw[List.find?_cons,t]
  rcases List.mem_cons.1 h with h|h
  ·cases h
   rw[decide_eq_true o];exact⟨_,rfl,rfl⟩
  ·by_cases j:x<=((d.1:Int):Rat)
   ·rw[decide_eq_true j]
    refine⟨_,rfl,?_⟩;have i:=(Rise.between f h).1
    have s:d.1<=a.1:=by
     rcases List.mem_cons.1 i with g|g
     ·dsimp only at g;rw[g];exact Int.le_refl _
     ·have:=(List.pairwise_cons.1 f).1 _ g;dsimp only at this;omega
    have q:a.1<=d.1:=by
     have:=Rat.le_trans k j;exact Rat.intCast_le_intCast.1 this
    have m:a=d:=by
     rcases List.mem_cons.1 i with g|g
     ·exact g
     ·have:=(List.pairwise_cons.1 f).1 _ g;dsimp only at this;omega
    subst m;have n:x=((a.1:Int):Rat):=Rat.le_antisymm j k;rw[n,zgJ,zfc _ _ (p a sM)]
   ·rw[decide_eq_false j]
    exact ziA x a b k o (d::r) f h
theorem zoK{x:Rat}{l:LP}(c:Rise l){e:Edg}(i:e∈eds l)(d:((e.1.1:Int):Rat)<=x)(g:x<=((e.2.1:Int):Rat)):atR l x=atE x e:=by
 obtain⟨f,a,b⟩:=ziA x e.1 e.2 d g l c i;unfold atR;rw[a];exact b
theorem zfd(e:Edg)(s t x:Rat):(t-s)*atE x e=(t-x)*atE s e+(x-s)*atE t e:=by
 unfold atE;simp only[Rat.div_def]
 grind
theorem zfr{zs:List Int}{z:Int}(h:z∈zs):z∈compact zs:=by
 obtain⟨i,a,rfl⟩:=List.getElem_of_mem h;have b:∀j,(hj:j<zs.length)->zs.toArray[j]! = zs[j]:=fun j hj=>by rw[getElem!_pos _ _ (by simpa using hj)];simp
 have key:∀i,(a:i<zs.length)->∃j,j<zs.length/\keeps zs.toArray j=true/\zs.toArray[j]! = zs[i]:=by
  intro i
  induction i with
  | zero=>intro a;exact⟨0,a,by simp[keeps],b 0 a⟩
  | succ i f =>
   intro a
   cases hk:keeps zs.toArray (i+1)with
   | true=>exact⟨i+1,a,hk,b _ a⟩
   | false =>
    obtain⟨j,c,d,e⟩:=f oM;refine⟨j,c,d,?_⟩;rw[e,<-b _ a,<-b i oM];simp[keeps]at hk
    grind
 obtain⟨j,c,d,e⟩:=key i a;unfold compact compactUpTo;refine List.mem_map.2 ⟨j,List.mem_filter.2 ⟨List.mem_range.2 c,d⟩,e⟩
theorem zlL{s:Sp}{z:Int}(h:z=s.lo\/z=s.hi\/(s.lo<z/\z<s.hi/\∃q∈s.over++s.under,q.1=z)):(z:Rat)∈stopsR s:=by
 unfold stopsR stopsZ;refine List.mem_map_of_mem (zfr (isort_mem.2 ?_))
 rcases h with rfl|rfl|⟨a,b,q,c,rfl⟩
 ·simp
 ·simp
 ·refine mC _ (mC _ ?_)
  unfold midP;refine List.mem_filter.2 ⟨List.mem_map_of_mem c,?_⟩;unfold inP;simp[a,b]
theorem znA{q:Rat}(h:0<=q.num.sign):0<=q:=by
 have:0<=q.num:=Int.sign_nonneg_iff.1 h;exact Rat.num_nonneg.1 this
end
section
open Go.RowKit Go.Shelf
attribute [local go_sem] Oper.semAt_some
def RcI(w:X)(s:Sp)(d e f:I)(b:Int)(a:List Rat)(o:Rat×Rat)(g:Nat)(c:I)(W:X):Prop:=
 ∃i:Nat,i<=a.length/\c=F .i64 i/\g=a.length-i/\RcW w s d e f a (reachN (pinG s b) a o i) W
theorem zf7{w W j b:X}{o:Obj}{p v x:Rat}{a g:Option G}{m c i c2:Nat}{s:Bool}(u:Ext w W)(L:w.heap.size+1+1+1<=W.heap.size)(K:W.heap[w.heap.size]?=N o)(r:RB W (w.heap.size+1) v)(t:RB W (w.heap.size+1+1) x)
  (k:IsR W (J #[O a m c,Z s,O g i c2]) p)
  (d:((W.setCell ⟨w.heap.size+1,0,Y⟩ (O a m c)).setCell ⟨w.heap.size+1,1,Y⟩ (Z s)).setCell ⟨w.heap.size+1,2,Y⟩ (O g i c2)=j)
  (e:((j.setCell ⟨w.heap.size+1+1,0,Y⟩ (O a m c)).setCell ⟨w.heap.size+1+1,1,Y⟩ (Z s)).setCell ⟨w.heap.size+1+1,2,Y⟩ (O g i c2)=b) :
  Ext w b.drew/\w.heap.size+1+1+1<=b.drew.heap.size/\b.drew.heap[w.heap.size]?=N o/\RB b.drew (w.heap.size+1) p/\RB b.drew (w.heap.size+1+1) p:=by
 obtain⟨l,n,y,z,D,q⟩:=RB.copy2 r t oM k k d e;have f:Ext b b.drew:=(eR _).drew;refine⟨(q w u oM oM).drew,nT oM f.size,f.heapS ?_,l.ext f,n.ext f⟩;rw[<-e,<-d]
 repeat rw[bS _ _ _ _ dO]
 exact K
theorem RcW.box{w:X}{s:Sp}{P Q j:I}{k:List Rat}{o:Rat×Rat}{W:X}(h:RcW w s P Q j k o W){a y:Option G}{m c K c2 b:Nat}{x:Bool}{p p0:Rat}
  (hb:w.heap.size+1+1+1<=b)(hv:j.ownBlock≠N b)(z:RB W b p0)(hz:IsR W (J #[O a m c,Z x,O y K c2]) p){g:X}
  (d:((W.setCell ⟨b,0,Y⟩ (O a m c)).setCell ⟨b,1,Y⟩ (Z x)).setCell ⟨b,2,Y⟩ (O y K c2)=g) :
  RcW w s P Q j k o g/\RB g b p/\(∀b' r,b'≠b->RB W b' r->RB g b' r)/\g.heap.size=W.heap.size:=by
 obtain⟨T,h2,h3,h4,h5,h6⟩:=h;have t:=z.not;have v:=t.set ⟨b,0,Y⟩ (O a m c);have L:=v.set ⟨b,1,Y⟩ (Z x)
 have l:∀b' r,b'≠b->RB W b' r->RB g b' r:=fun b' r f hr=>by
  rw[<-d];exact((hr.other (Ne.symm f) t _).other (Ne.symm f) v _).other (Ne.symm f) L _
 have e:∀(V:X)(u:I)(q:G),q.block=b->OwnR V (w.heap.size+1+1+1) j k->NoT 2 V b->OwnR (V.setCell q u) (w.heap.size+1+1+1) j k:=fun V u q D ho hn=>by
  obtain⟨R,k1,k2,k3⟩:=ho;exact⟨R,k1.setOther (by rw[D];exact hv) _,k2,fun i c q' hc n=>IsR.keep (k3 i c q' hc n) (KeepT.setN (KeepT.refl _ _) (by rw[D];exact hn) u)⟩
 refine⟨⟨?_,?_,?_,l _ _ oM h4,l _ _ oM h5,?_⟩,?_,l,?_⟩
 ·rw[<-d];exact((T.set dO _).set dO _).set dO _
 ·rw[<-d];simpa using h2
 ·rw[<-d]
  repeat rw[bS _ _ _ _ dO]
  exact h3
 ·rw[<-d]
  exact e _ _ _ rfl (e _ _ _ rfl (e _ _ _ rfl h6 t) v) L
 ·rw[<-d];exact z.put hz
 ·rw[<-d];simp
theorem zeD(q:Rat) : -1<=q.num.sign/\q.num.sign<=1:=by
 rcases Int.lt_trichotomy q.num 0 with h|h|h
 ·rw[Int.sign_eq_neg_one_of_neg h];decide
 ·rw[h];decide
 ·rw[Int.sign_eq_one_of_pos h];decide
def Rc1(w:X)(s:Sp)(e f j:I)(d:List Rat)(o:Rat×Rat)(i:Nat)(x g:Rat)(a b c:I)(W:X):Prop:=
 ∃b11 b12,a=F .i64 (i:Int)/\b=E (N ⟨b11,0,Y⟩)/\c=E (N ⟨b12,0,Y⟩)/\w.heap.size+1+1+1<=b11/\b11<b12/\b12<W.heap.size/\RcW w s e f j d o W/\RB W b11 x/\RB W b12 g
def Rc2(w:X)(s:Sp)(f j k:I)(e:List Rat)(o:Rat×Rat)(i:Nat)(x g h:Rat)(a b c d:I)(W:X):Prop:=
 ∃b13,Rc1 w s f j k e o i x g a b c W/\d=E (N ⟨b13,0,Y⟩)/\b13<W.heap.size/\RB W b13 h
theorem ze9{w:X}{s:Sp}{v1 v2 vq:I}{R:List Rat}{o:Rat×Rat}{W:X}(h:RcW w s v1 v2 vq R o W){a D e K:Option G}{m c P c2 n k Q L:Nat}{T t:Bool}{p q x g:Rat}{b d i:Nat}
  (u:IsR W (J #[O a m c,Z T,O D P c2]) p)(v:IsR W (J #[O e n k,Z t,O K Q L]) q)(z1:w.heap.size+1+1+1<=b)(z2:b<d)(z3:d<W.heap.size)(h1:RB W b x)(h2:RB W d g){z f:X}
  (l:((W.setCell ⟨w.heap.size+1,0,Y⟩ (O a m c)).setCell ⟨w.heap.size+1,1,Y⟩ (Z T)).setCell ⟨w.heap.size+1,2,Y⟩ (O D P c2)=z)
  (r:((z.setCell ⟨w.heap.size+1+1,0,Y⟩ (O e n k)).setCell ⟨w.heap.size+1+1,1,Y⟩ (Z t)).setCell ⟨w.heap.size+1+1,2,Y⟩ (O K Q L)=f) :
  Rc1 w s v1 v2 vq R (p,q) i x g (F .i64 (i:Int)) (E (N ⟨b,0,Y⟩)) (E (N ⟨d,0,Y⟩)) f:=by
 obtain⟨P1,P2,y⟩:=RcW.put2 h u v l r;have j:Ext f f:=eR _;exact⟨b,d,rfl,rfl,rfl,z1,z2,Nat.lt_of_lt_of_le oM j.size,P1.ext j,(y _ _ oM h1).ext j,(y _ _ oM h2).ext j⟩
theorem zj7{w:X}{s:Sp}{u v j:I}{q:List Rat}{o:Rat×Rat}{W:X}(h:RcW w s u v j q o W){a n:Option G}{m c p c2:Nat}{t:Bool}{x g r Q:Rat}{d e b i:Nat}
  (P:IsR W (J #[O a m c,Z t,O n p c2]) r)(R:w.heap.size+1+1+1<=d)(T:d<e)(z3:e<b)(z4:b<W.heap.size)(D:RB W d x)(K:RB W e g)(L:RB W b Q)(hv:j.ownBlock≠N b){l:X}
  (f:((W.setCell ⟨b,0,Y⟩ (O a m c)).setCell ⟨b,1,Y⟩ (Z t)).setCell ⟨b,2,Y⟩ (O n p c2)=l) :
  Rc2 w s u v j q o i x g r (F .i64 (i:Int)) (E (N ⟨d,0,Y⟩)) (E (N ⟨e,0,Y⟩)) (E (N ⟨b,0,Y⟩)) l:=by
 obtain⟨y,z,k,P4⟩:=RcW.box h oM hv L P f;exact⟨b,⟨d,e,rfl,rfl,rfl,R,T,by omega,y,k _ _ oM D,k _ _ oM K⟩,rfl,by omega,z⟩
end
end Go.Proofs.YtjnjpagegkcgfaaGreatDoor.Cop
