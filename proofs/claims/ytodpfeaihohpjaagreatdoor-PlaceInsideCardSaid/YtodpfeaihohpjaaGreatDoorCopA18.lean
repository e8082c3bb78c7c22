/- Part 19: contracts of what the law calls. -/
import Derived.Test.YtodpfeaihohpjaaGreatDoorCopA17
import Derived.Test.YtodpfeaihohpjaaGreatDoorCopA16
set_option maxRecDepth 1000000
set_option maxHeartbeats 16000000
set_option linter.unusedSimpArgs false
set_option linter.unusedVariables false
open Option renaming none→O,some→V
open Go.Value renaming int→Y,slice→X
open Go.IntKind renaming i64→Z
namespace Go.Proofs.YtodpfeaihohpjaaGreatDoor.Cop
section
open Go.RowKit Go.Shelf
attribute [local go_sem] Oper.semAt_some
theorem zei (w:World) (b c:Value) (s:Sp) (pin:Int) (d:IsPts w b s.over) (e:IsPts w c s.under) (a:SpOk s) (f:Bd 104000 pin) :
  Calls Tryz.prog 108 #[spc s b c,Y Z pin] w (RetRc w (reachP s pin)):=by
 cases hno:reachNo s pin with
 | true=>exact zlG w b c s pin d e a f hno
 | false=>exact zis w b c s pin d e a f hno
structure Be where
 num:Int
 fx:Rat
 fz:Rat
 tx:Rat
 tz:Rat
 d1:Int×Int
 d2:Int×Int
def bedO (p:Pl) (t:List (Int×Int)) (b pin:Int):Option Be:=
 if (btw (lowP2 p) t).lo<(btw (lowP2 p) t).hi then
  (reachP (btw (lowP2 p) t) pin).map fun o=>⟨b,o.1,atR (lowP2 p) o.1,o.2,atR (lowP2 p) o.2,slopeR t o.1 o.2,slopeR t o.2 o.2⟩
 else O
def PBe (w:World) (c:List Value) (b:Be):Prop:=
 ∃f t:List Value,c=Y Z b.num::(f++(t++[Y Z b.d1.1,Y Z b.d1.2,Y Z b.d2.1,Y Z b.d2.2]))∧IsV w (.agg f.toArray) b.fx b.fz∧IsV w (.agg t.toArray) b.tx b.tz
theorem PBe.ext {w w':World} {c:List Value} {b:Be} (h:PBe w c b) (k:Ext w w'):PBe w' c b:=by
 obtain⟨f,t,a,d,e⟩:=h;exact⟨f,t,a,d.ext k,e.ext k⟩
def be0:Array Value:=#[Y Z 0,X O 0 0,.bool false,X O 0 0,X O 0 0,.bool false,X O 0 0,X O 0 0,.bool false,X O 0 0,X O 0 0,.bool false,X O 0 0,Y Z 0,Y Z 0,Y Z 0,Y Z 0]
def RetBe (w:World) (o:Option Be) (e:Ending) (w':World):Prop:=
 Ext w w'∧((o=O∧e = .returned (.tuple #[.agg be0,.bool false]))∨(∃b c,o=V b∧e = .returned (.tuple #[.agg c.toArray,.bool true])∧PBe w' c b))
theorem zee {w W:World} {b:Nat} (h:Ext w W) (j:w.heap.size≤b) (k l m n o p q r u8 s a c d e f g i:Value):Ext w (((((((((((((((((W.setCell ⟨b,0,O⟩ k).setCell ⟨b,1,O⟩ l).setCell ⟨b,2,O⟩ m).setCell ⟨b,3,O⟩ n).setCell ⟨b,4,O⟩ o).setCell ⟨b,5,O⟩ p).setCell ⟨b,6,O⟩ q).setCell ⟨b,7,O⟩ r).setCell ⟨b,8,O⟩ u8).setCell ⟨b,9,O⟩ s).setCell ⟨b,10,O⟩ a).setCell ⟨b,11,O⟩ c).setCell ⟨b,12,O⟩ d).setCell ⟨b,13,O⟩ e).setCell ⟨b,14,O⟩ f).setCell ⟨b,15,O⟩ g).setCell ⟨b,16,O⟩ i):=by
 repeat(refine Ext.set ?_ j _)
 exact h
theorem ze2 {W:World} {T:TypeId} {b:Nat} (i:NoT T W b) (j k l m n o p q u8 r a c d e f g h:Value):KeepT T W (((((((((((((((((W.setCell ⟨b,0,O⟩ j).setCell ⟨b,1,O⟩ k).setCell ⟨b,2,O⟩ l).setCell ⟨b,3,O⟩ m).setCell ⟨b,4,O⟩ n).setCell ⟨b,5,O⟩ o).setCell ⟨b,6,O⟩ p).setCell ⟨b,7,O⟩ q).setCell ⟨b,8,O⟩ u8).setCell ⟨b,9,O⟩ r).setCell ⟨b,10,O⟩ a).setCell ⟨b,11,O⟩ c).setCell ⟨b,12,O⟩ d).setCell ⟨b,13,O⟩ e).setCell ⟨b,14,O⟩ f).setCell ⟨b,15,O⟩ g).setCell ⟨b,16,O⟩ h):=by
 repeat(first|with_reducible exact KeepT.refl _ _|(with_reducible refine KeepT.setN ?_ ?_ _)|with_reducible exact i|with_reducible refine NoT.set ?_ _ _)
theorem CellL.set17 {L:List (Addr×Value)} {W:World} {b:Nat} (h:CellL L W) (a:∀q∈L,b≠q.1.block) (k l m n o r s t u8 u c d e f g i j:Value):CellL L (((((((((((((((((W.setCell ⟨b,0,O⟩ k).setCell ⟨b,1,O⟩ l).setCell ⟨b,2,O⟩ m).setCell ⟨b,3,O⟩ n).setCell ⟨b,4,O⟩ o).setCell ⟨b,5,O⟩ r).setCell ⟨b,6,O⟩ s).setCell ⟨b,7,O⟩ t).setCell ⟨b,8,O⟩ u8).setCell ⟨b,9,O⟩ u).setCell ⟨b,10,O⟩ c).setCell ⟨b,11,O⟩ d).setCell ⟨b,12,O⟩ e).setCell ⟨b,13,O⟩ f).setCell ⟨b,14,O⟩ g).setCell ⟨b,15,O⟩ i).setCell ⟨b,16,O⟩ j):=
 (CellL.set (p:=⟨b,16,O⟩) (CellL.set (p:=⟨b,15,O⟩) (CellL.set (p:=⟨b,14,O⟩) (CellL.set (p:=⟨b,13,O⟩) (CellL.set (p:=⟨b,12,O⟩) (CellL.set (p:=⟨b,11,O⟩) (CellL.set (p:=⟨b,10,O⟩) (CellL.set (p:=⟨b,9,O⟩) (CellL.set (p:=⟨b,8,O⟩) (CellL.set (p:=⟨b,7,O⟩) (CellL.set (p:=⟨b,6,O⟩) (CellL.set (p:=⟨b,5,O⟩) (CellL.set (p:=⟨b,4,O⟩) (CellL.set (p:=⟨b,3,O⟩) (CellL.set (p:=⟨b,2,O⟩) (CellL.set (p:=⟨b,1,O⟩) (CellL.set (p:=⟨b,0,O⟩) h a _) a _) a _) a _) a _) a _) a _) a _) a _) a _) a _) a _) a _) a _) a _) a _) a _)
theorem IsV.keep {w w':World} {v:Value} {x z:Rat} (h:IsV w v x z) (k:KeepT 2 w w'):IsV w' v x z:=by
 obtain⟨a,m,c,s,d,p,f,b,n,l,t,e,q,o,g,i,j⟩:=h;exact⟨a,m,c,s,d,p,f,b,n,l,t,e,q,o,g,i.keep k,j.keep k⟩
theorem zk0 (w:World) (P Q:Value) (ps:List Pl) (a:Nat) (p:Pl) (pin:Int) (hg:∃a n c,P=X a n c) (e:IsLas w Q ps) (g:ps[a]?=V p) :
  Calls Tryz.prog 58 #[.agg #[P,Q],Y Z a,Y Z a,Y Z pin] w (RetBe w O):=by
 obtain⟨ga,gn,gc,rfl⟩:=hg;obtain⟨sa,n,sc,rfl⟩:=form3 e;have hl:=e.len;have h:=e.le;obtain⟨b,o,s,vl,vu,rfl,hb,z,D,K,d⟩:=e.at' g;obtain⟨l,q,m,rfl⟩:=form3 z;obtain⟨i,k,j,rfl⟩:=form3 D;obtain⟨r,u,t,rfl⟩:=form3 K;have hi:=(lS.1 g).1;have p1:(0:Int)≤(a:Int):=oM
 have p2:(a:Int)<(n:Int):=oM
 have p3:a<n:=oM
 have f:=d 0 (.string p.name) rfl;have T:=d 1 (X l q m) rfl;have W:=d 2 (Y Z p.depth) rfl;have aa:=d 3 (Y Z p.density) rfl;have ab:=d 4 (Y Z p.gx) rfl;have ac:=d 5 (Y Z p.gz) rfl;have ad:=d 6 (Y Z p.way) rfl;have ae:=d 7 (Y Z p.ax) rfl;have af:=d 8 (Y Z p.az) rfl;have ag:=d 9 (Y .u8 p.skin) rfl;have x:=d 10 (X i k j) rfl;have y:=d 11 (X r u t) rfl;simp only [Nat.add_zero]at f;clear e g d z D K hl h hi;go_enter Tryz.func58,Tryz.ntmps58;go_wp2;refine wp_region_held_drew (S:=CellL []) kM trivial (fun ah=>?_);refine sN 0 ?_
 iterate 4
  refine tkn ?_
 iterate 14
  refine tkgn ?_
 refine tkn ?_;refine oN ?_;refine wpAnyH_done kM ?_ _;go_wp2;refine bR (v:=.tuple #[.agg be0,.bool false]) (by unfold be0;simp [results,Tryz.results58,go_sem]) rfl ?_;exact⟨eA,.inl ⟨rfl,rfl⟩⟩
end
section
open Go.RowKit Go.Shelf Go.Sort Go.Lib
theorem zfJ (zs:List Int) (h:zs.Pairwise (·≤·)):(compact zs).Pairwise (·<·):=by
 have d:∀j,(hj:j<zs.length)→zs.toArray[j]! = zs[j]:=fun j hj=>by rw [getElem!_pos _ _ (by simpa using hj)];simp
 unfold compact compactUpTo;rw [List.pairwise_map];have g:((List.range zs.length).filter (keeps zs.toArray)).Pairwise (·<·):=List.Pairwise.filter _ List.pairwise_lt_range;refine List.Pairwise.imp_of_mem (fun {i j} l hj k=>?_) g;have c:=List.mem_filter.1 hj;have a:=List.mem_range.1 c.1;have b:=c.2;unfold keeps at b;rw [decide_eq_true_eq]at b;rw [d j a,d (j-1) oM]at b;rw [d i oM,d j a];have f:=List.pairwise_iff_getElem.1 h
 have m:zs[i]≤zs[j-1]:=by
  by_cases e:i=j-1
  ·subst e;exact Int.le_refl _
  ·exact f i (j-1) oM oM oM
 have n:=f (j-1) j oM a oM
 rcases b with b|b
 ·omega
 ·omega
theorem zlt (zs:List Int):(isort zs).Pairwise (·≤·):=by
 unfold isort;have:=List.pairwise_mergeSort (le:=fun x y:Int=>decide (x≤y)) (fun a b c d e=>by simp at *;omega) (fun a b=>by simp;omega) zs;exact this.imp fun h=>by simpa using h
theorem zfb (s:Sp):(stopsZ s).Pairwise (·<·):=zfJ _ (zlt _)
theorem mem_stopsZ {s:Sp} {z:Int}:z∈stopsZ s ↔ (z=s.lo∨z=s.hi∨(s.lo<z∧z<s.hi∧∃q∈s.over++s.under,q.1=z)):=by
 constructor
 ·intro h
  have a:=isort_mem.1 (zdm h)
  rcases List.mem_cons.1 a with a|a
  ·exact .inl a
  rcases List.mem_cons.1 a with a|a
  ·exact .inr (.inl a)
  ·unfold midP at a
   obtain⟨c,b⟩:=List.mem_filter.1 a;obtain⟨q,d,rfl⟩:=List.mem_map.1 c;unfold inP at b;simp at b;exact .inr (.inr ⟨b.1,b.2,q,d,rfl⟩)
 ·intro h
  obtain⟨y,f,e⟩:=List.mem_map.1 (zfz h);have:y=z:=by exact_mod_cast e
  rwa [←this]
theorem zaF {s:Sp} (h:s.lo<s.hi) {z:Int} (c:z∈stopsZ s):s.lo≤z∧z≤s.hi:=by
 rcases mem_stopsZ.1 c with e|e|⟨a,b,_⟩<;>omega
theorem zcb {s:Sp} (h:s.lo<s.hi) {i:Nat} {a b:Int} (n:(stopsZ s)[i]?=V a) (o:(stopsZ s)[i+1]?=V b):a<b∧∀q∈s.over++s.under,¬(a<q.1∧q.1<b):=by
 have t:=(lS.1 o);obtain⟨d,l⟩:=t;obtain⟨c,g⟩:=lS.1 n;have m:=List.pairwise_iff_getElem.1 (zfb s);have k:a<b:=by rw [←g,←l];exact m i (i+1) c d oM
 refine⟨k,fun q v w=>?_⟩;have x:=zaF h (lM n);have y:=zaF h (lM o);have u:q.1∈stopsZ s:=mem_stopsZ.2 (.inr (.inr ⟨by omega,by omega,q,v,rfl⟩));obtain⟨j,p,e⟩:=List.getElem_of_mem u
 rcases Nat.lt_trichotomy j i with f|f|f
 ·have:=m j i p c f;omega
 ·subst f;omega
 ·by_cases r:j=i+1
  ·subst r;omega
  ·have:=m (i+1) j d p oM;omega
theorem zaL {l:List (Int×Int)} (d:Rise l) (t:l≠[]) {a b:Int} (h:a<b) (p:lineL l≤a) (v:b≤lineR l) (r:∀q∈l,¬(a<q.1∧q.1<b)) {x:Rat} (n:(a:Rat)≤x) (o:x≤(b:Rat)) :
  ((b:Rat)-(a:Rat))*atR l x=((b:Rat)-x)*atR l (a:Rat)+(x-(a:Rat))*atR l (b:Rat):=by
 obtain⟨e,c,j,u,_⟩:=zbL t p (k:=a) oM;have s:=d.between c
 have m:b≤e.2.1:=by
  have:=r e.2 s.2.1;omega
 have f:((e.1.1:Int):Rat)≤(a:Rat):=Rat.intCast_le_intCast.2 j;have g:(b:Rat)≤((e.2.1:Int):Rat):=Rat.intCast_le_intCast.2 m;have i:(a:Rat)≤(b:Rat):=Rat.intCast_le_intCast.2 (Int.le_of_lt h);rw [zc7 d c (Rat.le_trans f n) (Rat.le_trans o g),zc7 d c f (Rat.le_trans i g),zc7 d c (Rat.le_trans f i) g];exact zbe e _ _ _
section
variable {L U:List (Int×Int)} (rL:Rise L) (rU:Rise U) (nL:L≠[]) (nU:U≠[])
include rL rU nL nU
theorem zbY (h:(btw L U).lo<(btw L U).hi) {i:Nat} {a b:Int} (j:(stopsZ (btw L U))[i]?=V a) (k:(stopsZ (btw L U))[i+1]?=V b) {x:Rat} (f:(a:Rat)≤x) (g:x≤(b:Rat)) :
  ((b:Rat)-(a:Rat))*gapR (btw L U) x=((b:Rat)-x)*gapR (btw L U) (a:Rat)+(x-(a:Rat))*gapR (btw L U) (b:Rat):=by
 obtain⟨c,d⟩:=zcb h j k;have l:=zaF h (lM j);have m:=zaF h (lM k);have n:lineL L≤a∧lineL U≤a:=by unfold btw at l;dsimp only at l;omega
 have o:b≤lineR L∧b≤lineR U:=by unfold btw at m;dsimp only at m;omega
 have p:=zaL rL nL c n.1 o.1 (fun q e=>d q (List.mem_append.2 (.inl e))) f g;have r:=zaL rU nU c n.2 o.2 (fun q e=>d q (List.mem_append.2 (.inr e))) f g;unfold gapR;unfold btw;dsimp only
 grind
end
theorem zkt {s:Sp} (h:s.lo<s.hi) {x:Rat} (t:((s.lo:Int):Rat)≤x) (w:x≤((s.hi:Int):Rat)) :
  ∃(i:Nat) (a b:Int),(stopsZ s)[i]?=V a∧(stopsZ s)[i+1]?=V b∧(a:Rat)≤x∧x≤(b:Rat):=by
 have D:=List.pairwise_iff_getElem.1 (zfb s);have k:s.lo∈stopsZ s:=mem_stopsZ.2 (.inl rfl);have f:s.hi∈stopsZ s:=mem_stopsZ.2 (.inr (.inl rfl));obtain⟨p,z,u⟩:=List.getElem_of_mem k;obtain⟨q,l,eq⟩:=List.getElem_of_mem f
 have key:∀(n:Nat),n<(stopsZ s).length→x≤(((stopsZ s).getD n 0:Int):Rat)→n=0∨(∃(i:Nat) (a b:Int),(stopsZ s)[i]?=V a∧(stopsZ s)[i+1]?=V b∧(a:Rat)≤x∧x≤(b:Rat))∨x≤(((stopsZ s).getD 0 0:Int):Rat):=by
  intro n
  induction n with
  | zero=>intro _ _;exact .inl rfl
  | succ n P =>
   intro y K
   right
   by_cases d:(((stopsZ s).getD n 0:Int):Rat)≤x
   ·refine .inl ⟨n,(stopsZ s).getD n 0,(stopsZ s).getD (n+1) 0,?_,?_,d,K⟩
    ·rw [gD,gE oM];rfl
    ·rw [gD,gE y];rfl
   ·rcases P oM (Rat.le_of_lt (Rat.not_le.1 d))with rfl|c
    ·right
     exact Rat.le_of_lt (Rat.not_le.1 d)
    ·exact c
 have r:(stopsZ s).getD 0 0=s.lo:=by
  have g:0<(stopsZ s).length:=oM
  rw [gD,gE g]
  show (stopsZ s)[0]=s.lo
  have Q:=zaF h (List.getElem_mem g)
  by_cases e:p=0
  ·subst e;exact u
  ·have:=D 0 p g z oM;omega
 have m:q≠0:=by
  rintro rfl;have:(stopsZ s).getD 0 0=s.hi:=by rw [gD,gE l];exact eq
  omega
 have o:x≤(((stopsZ s).getD q 0:Int):Rat):=by
  rw [gD,gE l]
  show x≤(((stopsZ s)[q]:Int):Rat)
  rw [eq];exact w
 rcases key q l o with e|c|c
 ·exact absurd e m
 ·exact c
 ·rw [r]at c
  have v:x=((s.lo:Int):Rat):=Rat.le_antisymm c t;have j:1<(stopsZ s).length:=oM
  refine⟨0,(stopsZ s)[0],(stopsZ s)[1],gE _,gE _,?_,?_⟩
  ·have:(stopsZ s)[0]=s.lo:=by rw [←r,gD,gE oM];rfl
   rw [this];exact t
  ·rw [v]
   have:=(zaF h (List.getElem_mem j)).1;exact Rat.intCast_le_intCast.2 this
end
section
open Go.RowKit Go.Shelf Go.Sort Go.Lib
theorem zgQ (x y:Rat):rcmp x y = -1 ↔ x<y:=by
 rw [←za0];unfold rcmp
 rcases Int.lt_trichotomy (x.num*y.den-y.num*x.den) 0 with h|h|h
 ·rw [Int.sign_eq_neg_one_of_neg h];decide
 ·rw [h];decide
 ·rw [Int.sign_eq_one_of_pos h];decide
theorem zgR (x y:Rat):rcmp x y=1 ↔ y<x:=by
 rw [←zeh];unfold rcmp
 rcases Int.lt_trichotomy (x.num*y.den-y.num*x.den) 0 with h|h|h
 ·rw [Int.sign_eq_neg_one_of_neg h];decide
 ·rw [h];decide
 ·rw [Int.sign_eq_one_of_pos h];decide
theorem num_lt0 {q:Rat}:q.num<0 ↔ q<0:=by rw [Rat.lt_iff];simp
theorem num_gt0 {q:Rat}:0<q.num ↔ 0<q:=by rw [Rat.lt_iff];simp
theorem sign_le0 {q:Rat}:q.num.sign≤0 ↔ q≤0:=by
 rw [←Rat.not_lt,←num_gt0,←Int.sign_pos_iff];omega
def EndS (o:Rat×Rat) (S:Rat→Prop):Prop:=S o.1∧S o.2∧∀x,S x→o.1≤x∧x≤o.2
theorem EndS.wid {o:Rat×Rat} {S:Rat→Prop} (h:EndS o S) (y:Rat):EndS (widR o y) fun x=>S x∨x=y:=by
 obtain⟨d,f,e⟩:=h
 have b:(widR o y).1=if y<o.1 then y else o.1:=by
  show pickR (-1) o.1 y=_
  unfold pickR;simp only [zgQ]
 have c:(widR o y).2=if o.2<y then y else o.2:=by
  show pickR 1 o.2 y=_
  unfold pickR;simp only [zgR]
 refine⟨?_,?_,fun x a=>?_⟩
 ·rw [b];split
  ·exact .inr rfl
  ·exact .inl d
 ·rw [c];split
  ·exact .inr rfl
  ·exact .inl f
 ·rw [b,c]
  rcases a with a|rfl
  ·have:=e x a
   constructor<;>split<;>grind
  ·have:=e _ d
   constructor<;>split<;>grind
theorem EndS.of {o:Rat×Rat} {S a:Rat→Prop} (h:EndS o S) (e:∀x,a x ↔ S x):EndS o a:=by
 obtain⟨b,c,d⟩:=h;exact⟨(e _).2 b,(e _).2 c,fun x f=>d x ((e x).1 f)⟩
def RcS (f:Rat→Rat) (a:List Rat) (m:Rat):Nat→Rat→Prop
 | 0,x=>x=m
 | i+1,x=>RcS f a m i x∨(f (a.getD i 0)≤0∧x=a.getD i 0)∨(i≠0∧f (a.getD i 0)*f (a.getD (i-1) 0)<0∧x=crossR f (a.getD (i-1) 0) (a.getD i 0))
theorem zdz (x y:Rat):x.num.sign*y.num.sign<0 ↔ x*y<0:=by
 have e:x.num.sign = -1∧x<0∨x.num.sign=0∧x=0∨x.num.sign=1∧0<x:=by
  rcases Int.lt_trichotomy x.num 0 with h|h|h
  ·exact .inl ⟨Int.sign_eq_neg_one_of_neg h,num_lt0.1 h⟩
  ·exact .inr (.inl ⟨by rw [h];rfl,Rat.num_eq_zero.1 h⟩)
  ·exact .inr (.inr ⟨Int.sign_eq_one_of_pos h,num_gt0.1 h⟩)
 have f:y.num.sign = -1∧y<0∨y.num.sign=0∧y=0∨y.num.sign=1∧0<y:=by
  rcases Int.lt_trichotomy y.num 0 with h|h|h
  ·exact .inl ⟨Int.sign_eq_neg_one_of_neg h,num_lt0.1 h⟩
  ·exact .inr (.inl ⟨by rw [h];rfl,Rat.num_eq_zero.1 h⟩)
  ·exact .inr (.inr ⟨Int.sign_eq_one_of_pos h,num_gt0.1 h⟩)
 rcases e with ⟨a,b⟩|⟨a,b⟩|⟨a,b⟩<;>rcases f with ⟨c,d⟩|⟨c,d⟩|⟨c,d⟩<;>rw [a,c]
 ·have:=Rat.mul_pos (show 0 < -x by grind) (show 0 < -y by grind)
  exact⟨fun h=>absurd h dM,fun h=>by grind⟩
 ·rw [d,Rat.mul_zero];decide
 ·have:=Rat.mul_pos (show 0 < -x by grind) d
  exact⟨fun _=>by grind,fun _=>by decide⟩
 ·rw [b,Rat.zero_mul];decide
 ·rw [b,Rat.zero_mul];decide
 ·rw [b,Rat.zero_mul];decide
 ·have:=Rat.mul_pos b (show 0 < -y by grind)
  exact⟨fun _=>by grind,fun _=>by decide⟩
 ·rw [d,Rat.mul_zero];decide
 ·have:=Rat.mul_pos b d
  exact⟨fun h=>absurd h dM,fun h=>by grind⟩
theorem zgd (f:Rat→Rat) (a:List Rat) (m:Rat):∀n,EndS (reachN f a (m,m) n) (RcS f a m n)
 | 0=>⟨rfl,rfl,fun x j=>by cases j;exact⟨Rat.le_refl,Rat.le_refl⟩⟩
 | i+1=>by
  have g:=zgd f a m i
  have e:EndS (reachStep f (reachN f a (m,m) i) (a.getD i 0)) fun x=>RcS f a m i x∨(f (a.getD i 0)≤0∧x=a.getD i 0):=by
   unfold reachStep
   by_cases c:f (a.getD i 0)≤0
   ·rw [if_pos (sign_le0.2 c)]
    exact(g.wid _).of fun x=>⟨fun h=>h.imp id fun h=>h.2,fun h=>h.imp id fun h=>⟨c,h⟩⟩
   ·rw [if_neg (fun h=>c (sign_le0.1 h))]
    exact g.of fun x=>⟨fun h=>h.elim id fun h=>absurd h.1 c,fun h=>.inl h⟩
  unfold reachN
  by_cases b:i=0
  ·rw [if_pos b]
   exact e.of fun x=>⟨fun h=>h.elim .inl fun h=>h.elim .inr fun h=>absurd b h.1,fun h=>h.elim .inl fun h=>.inr (.inl h)⟩
  ·rw [if_neg b]
   unfold reachCross
   by_cases d:f (a.getD i 0)*f (a.getD (i-1) 0)<0
   ·rw [if_pos ((zdz _ _).2 d)]
    exact(e.wid _).of fun x=>⟨fun h=>h.elim (fun h=>.inl (.inl h)) fun h=>h.elim (fun h=>.inl (.inr h)) fun h=>.inr h.2.2,fun h=>h.elim (fun h=>h.elim .inl fun h=>.inr (.inl h)) fun h=>.inr (.inr ⟨b,d,h⟩)⟩
   ·rw [if_neg (fun h=>d ((zdz _ _).1 h))]
    exact e.of fun x=>⟨fun h=>h.elim .inl fun h=>h.elim .inr fun h=>absurd h.2.1 d,fun h=>h.elim .inl fun h=>.inr (.inl h)⟩
theorem RcS.mono {f:Rat→Rat} {a:List Rat} {m:Rat}:∀{n k:Nat} {x:Rat},RcS f a m n x→n≤k→RcS f a m k x
 | n,0,x,h,b=>by
  obtain rfl:n=0:=oM
  exact h
 | n,k+1,x,h,b=>by
  by_cases e:n=k+1
  ·subst e;exact h
  ·exact .inl (RcS.mono h oM)
theorem zfg {f:Rat→Rat} {a b:Rat} (o:a<b) (m:f b*f a<0) (q:∀x,a≤x→x≤b→(b-a)*f x=(b-x)*f a+(x-a)*f b):a≤crossR f a b∧crossR f a b≤b∧f (crossR f a b)=0:=by
 have g:f a-f b≠0:=by
  intro h;have e:f a=f b:=by grind
  rw [e]at m
  have:0≤f b*f b:=by
   by_cases c:0≤f b
   ·exact Rat.mul_nonneg c c
   ·have:=Rat.mul_nonneg (show 0 ≤ -(f b) by grind) (show 0 ≤ -(f b) by grind)
    grind
  grind
 obtain⟨t,n⟩:=gX (f a / (f a-f b));have r:t*(f a-f b)=f a:=by rw [←n,Rat.div_mul_cancel g]
 have d:crossR f a b=a+t*(b-a):=by unfold crossR;rw [n]
 have i:0≤t∧t≤1:=by
  by_cases c:0<f a
  ·have p:f b<0:=by
    refine Rat.not_le.1 fun h=>?_
    have:=Rat.mul_nonneg h (Rat.le_of_lt c)
    grind
   constructor
   ·refine Rat.not_lt.1 fun h=>?_
    have:=Rat.mul_pos (show 0 < -t by grind) (show 0<f a-f b by grind)
    grind
   ·refine Rat.not_lt.1 fun h=>?_
    have:=Rat.mul_pos (show 0<t-1 by grind) (show 0<f a-f b by grind)
    grind
  ·have s:f a<0:=by
    by_cases h:f a=0
    ·rw [h]at m;grind
    ·grind
   have p:0<f b:=by
    refine Rat.not_le.1 fun h=>?_
    have:=Rat.mul_nonneg (show 0 ≤ -(f b) by grind) (show 0 ≤ -(f a) by grind)
    grind
   constructor
   ·refine Rat.not_lt.1 fun h=>?_
    have:=Rat.mul_pos (show 0 < -t by grind) (show 0 < -(f a-f b) by grind)
    grind
   ·refine Rat.not_lt.1 fun h=>?_
    have:=Rat.mul_pos (show 0<t-1 by grind) (show 0 < -(f a-f b) by grind)
    grind
 have l:0<b-a:=by grind
 have u:=Rat.mul_nonneg i.1 (Rat.le_of_lt l);have v:=Rat.mul_nonneg (show 0≤1-t by grind) (Rat.le_of_lt l);have j:a≤a+t*(b-a):=by grind
 have k:a+t*(b-a)≤b:=by grind
 refine⟨by rw [d];exact j,by rw [d];exact k,?_⟩;have:=q _ j k;rw [d]
 have e:(b-a)*f (a+t*(b-a))=0:=by
  rw [this]
  grind
 rcases Rat.mul_eq_zero.1 e with h|h
 ·grind
 ·exact h
end
end Go.Proofs.YtodpfeaihohpjaaGreatDoor.Cop
