/- Part 7: contracts of what the law calls. -/
import Derived.Test.YtjnjpagegkcgfaaGreatDoorCopA05
import Derived.Deep.LoopGhost
import Derived.Deep.CutBlock
import Derived.Deep.DeepCutAuto
set_option maxRecDepth 1000000
set_option maxHeartbeats 16000000
set_option linter.unusedSimpArgs false
set_option linter.unusedVariables false
open Go.Value renaming slice→O,agg→Z
open Go renaming World→Y,Value→V
open Option renaming none→X
namespace Go.Proofs.YtjnjpagegkcgfaaGreatDoor.Cop
section
open Go.RowKit Go.Shelf
attribute [local go_sem] Oper.semAt_some
def CmS (w:Y) (x y:Int) (W:Y):Prop:=
 Ext w W∧w.heap.size+1+1+1≤W.heap.size∧(∃sl,W.heap[w.heap.size]?=some (.cells #[sl] 59 (0,0))∧IsD W (Z #[sl]) x) ∧
 (∃sl,W.heap[w.heap.size+1]?=some (.cells #[sl] 59 (0,0))∧IsD W (Z #[sl]) y)∧W.heap[w.heap.size+1+1]?=some (.cells #[O X 0 0] 59 (0,0))
theorem CmS.ext {w:Y} {x y:Int} {W W':Y} (h:CmS w x y W) (k:Ext W W'):CmS w x y W':=by
 obtain⟨a,i,⟨f,b,c⟩,⟨g,d,h6⟩,e⟩:=h;have:=k.size;exact⟨a.trans k,by omega,⟨f,k.heapS b,c.ext k⟩,⟨g,k.heapS d,h6.ext k⟩,k.heapS e⟩
theorem CmS.setX {w:Y} {x y d:Int} {W:Y} {sl:V} (h:CmS w x y W) (j:IsD W (Z #[sl]) d):CmS w d y (W.setCell ⟨w.heap.size,0,X⟩ sl):=by
 obtain⟨e,f,⟨n,b,m⟩,⟨l,g,h6⟩,i⟩:=h;have a:∀k,k≠w.heap.size→(W.setCell ⟨w.heap.size,0,X⟩ sl).heap[k]?=W.heap[k]?:=fun k a=>bS _ _ _ _ a
 have c:KeepT 2 W (W.setCell ⟨w.heap.size,0,X⟩ sl):=(KeepT.refl _ W).set b dM _;exact⟨e.set (nE _) _,by rw [qcZ];exact f,⟨sl,one_setCell b,j.keep c⟩,⟨l,(a _ oM).trans g,h6.keep c⟩,(a _ oM).trans i⟩
theorem CmS.setY {w:Y} {x y d:Int} {W:Y} {sl:V} (h:CmS w x y W) (l:IsD W (Z #[sl]) d):CmS w x d (W.setCell ⟨w.heap.size+1,0,X⟩ sl):=by
 obtain⟨e,f,⟨m,g,i⟩,⟨n,b,h6⟩,j⟩:=h;have a:∀k,k≠w.heap.size+1→(W.setCell ⟨w.heap.size+1,0,X⟩ sl).heap[k]?=W.heap[k]?:=fun k a=>bS _ _ _ _ a
 have c:KeepT 2 W (W.setCell ⟨w.heap.size+1,0,X⟩ sl):=(KeepT.refl _ W).set b dM _;exact⟨e.set dO _,by rw [qcZ];exact f,⟨m,(a _ oM).trans g,i.keep c⟩,⟨sl,one_setCell b,l.keep c⟩,(a _ oM).trans j⟩
theorem CmS.keepX {w:Y} {x y:Int} {W:Y} (h:CmS w x y W) (u:V):KeepT 2 W (W.setCell ⟨w.heap.size,0,X⟩ u):=by
 obtain⟨b,c,⟨e,a,d⟩,_⟩:=h;exact(KeepT.refl _ W).set a dM _
theorem CmS.keepY {w:Y} {x y:Int} {W:Y} (h:CmS w x y W) (u:V):KeepT 2 W (W.setCell ⟨w.heap.size+1,0,X⟩ u):=by
 obtain⟨b,c,⟨g,d,e⟩,⟨i,a,h6⟩,f⟩:=h;exact(KeepT.refl _ W).set a dM _
theorem CmS.setXY {w:Y} {x y e f:Int} {W:Y} {c d:V} (h:CmS w x y W) (a:IsD W (Z #[c]) e) (b:IsD W (Z #[d]) f) :
  CmS w e f ((W.setCell ⟨w.heap.size,0,X⟩ c).setCell ⟨w.heap.size+1,0,X⟩ d):=(h.setX a).setY (b.keep (h.keepX _))
theorem zdv {k:Nat} {x n:Int} (h:2 ^ k*x=n) (a:x % 2=0):2 ^ (k+1)*(x / 2)=n:=by
 rw [Int.pow_succ,Int.mul_assoc,show 2*(x / 2)=x by omega];exact h
theorem CmS.rdX {w:Y} {x y:Int} {W:Y} (h:CmS w x y W):∃a m c,W.cell? ⟨w.heap.size,0,X⟩=some (O a m c)∧W.frozen? ⟨w.heap.size,0,X⟩=false∧IsD W (Z #[O a m c]) x:=by
 obtain⟨f,g,⟨k,b,d⟩,⟨l,i,h6⟩,j⟩:=h;obtain⟨a,m,c,e⟩:=d.form
 cases e
 exact⟨a,m,c,cell_of_one b,free_of_one b,d⟩
theorem CmS.rdY {w:Y} {x y:Int} {W:Y} (h:CmS w x y W):∃a m c,W.cell? ⟨w.heap.size+1,0,X⟩=some (O a m c)∧W.frozen? ⟨w.heap.size+1,0,X⟩=false∧IsD W (Z #[O a m c]) y:=by
 obtain⟨d,f,⟨k,g,i⟩,⟨l,b,h6⟩,j⟩:=h;obtain⟨a,m,c,e⟩:=h6.form
 cases e
 exact⟨a,m,c,cell_of_one b,free_of_one b,h6⟩
theorem CmS.rdR {w:Y} {x y:Int} {W:Y} (h:CmS w x y W):W.cell? ⟨w.heap.size+1+1,0,X⟩=some (O X 0 0)∧W.frozen? ⟨w.heap.size+1+1,0,X⟩=false:=⟨cell_of_one h.2.2.2.2,free_of_one h.2.2.2.2⟩
theorem CmS.out {w:Y} {x y g:Int} {W:Y} {sl:V} (h:CmS w x y W) (b:IsD W (Z #[sl]) g) :
  IsD (W.setCell ⟨w.heap.size+1+1,0,X⟩ sl) (Z #[sl]) g∧Ext w (W.setCell ⟨w.heap.size+1+1,0,X⟩ sl)∧(W.setCell ⟨w.heap.size+1+1,0,X⟩ sl).cell? ⟨w.heap.size+1+1,0,X⟩=some sl:=by
 have a:=h.2.2.2.2;exact⟨b.keep ((KeepT.refl _ W).set a dM _),h.1.set dO _,cell_of_one (one_setCell a)⟩
theorem zhb {x y:Int} (h:x % 2=0) (b:y % 2=1):Int.gcd (x / 2) y=Int.gcd x y:=by
 have a:Nat.Coprime 2 y.natAbs:=by
  unfold Nat.Coprime;rw [Nat.gcd_rec,show y.natAbs % 2=1 by omega];rfl
 have e:x.natAbs=2*(x / 2).natAbs:=oM
 unfold Int.gcd;rw [e];exact(Nat.Coprime.gcd_mul_left_cancel _ a).symm
theorem zlu {x y:Int} (a:0≤x) (h:x≤y):Int.gcd x (y + -1*x)=Int.gcd x y:=by
 unfold Int.gcd;rw [show (y + -1*x).natAbs=y.natAbs-x.natAbs by omega];exact Nat.gcd_sub_self_right oM
theorem znm {x y a b:Int} {k:Nat} (c:2 ^ k*x=a) (d:2 ^ k*y=b):(Int.gcd a b:Int)=2 ^ k*(Int.gcd x y:Int):=by
 rw [←c,←d,Int.gcd_mul_left];simp [Int.natAbs_pow]
theorem znL {k n:Nat} (h:(2:Int) ^ k<B ^ n):k<24*n:=by
 apply Classical.byContradiction
 intro a;have e:B=(2:Int) ^ 24:=dM
 rw [e,←Int.pow_mul]at h;have:=zaC (b:=(2:Int)) dM (show 24*n≤k by omega);omega
theorem zjW {k:Nat} {x n:Int} (h:Lm lim n) (f:0<x) (e:2 ^ k*x=n):k<2400000000∧(k:Int)<n:=by
 have c:(2:Int) ^ k*1≤2 ^ k*x:=Int.mul_le_mul_of_nonneg_left oM (Int.pow_nonneg dM);have a:(2:Int) ^ k<B ^ lim:=by unfold Lm at h;omega
 have b:=znL a;have d:(k:Int)<2 ^ k:=by exact_mod_cast Nat.lt_two_pow_self (n:=k)
 unfold lim at b;omega
theorem zfd {k:Nat} {x n:Int} (d:0<x) (h:2 ^ k*x=n):x≤n:=by
 have a:(1:Int)≤2 ^ k:=by have:=zaq (b:=(2:Int)) dM k;omega
 have c:1*x≤2 ^ k*x:=Int.mul_le_mul_of_nonneg_right a oM;omega
theorem zjp {x y:Int} (h:y % 2=0) (a:x % 2=1):Int.gcd x (y / 2)=Int.gcd x y:=by
 rw [Int.gcd_comm,zhb h a,Int.gcd_comm]
theorem IsD.lm {w:Y} {a:Option Addr} {m c:Nat} {n:Int} (h:IsD w (Z #[O a m c]) n) {k:Nat} (i:m≤k):Lm k n:=by
 obtain⟨e,f,g,b,d⟩:=h.open;rw [←d];exact Lm.dig b.1 oM
theorem zgr (w:Y) (x y:Int) (c:0≤x∧x<18446744073709551616) (d:0≤y∧y<18446744073709551616) :
  Calls Tryz.prog 288 #[.int .u64 x,.int .u64 y] w fun e f=>e = .returned (.int .u64 (Int.gcd x y:Nat))∧Ext w f:=by
 obtain⟨a,rfl⟩:=Int.eq_ofNat_of_zero_le c.1;obtain⟨b,rfl⟩:=Int.eq_ofNat_of_zero_le d.1;exact zgq w a b oM oM
theorem lm2 {x:Int} (h:Lm 2 x):x<281474976710656:=by
 have:B ^ 2=281474976710656:=dM
 unfold Lm at h;omega
theorem znl {x y:Int} (h:0<x):(Int.gcd x y:Int)≤x:=Int.le_of_dvd h (Int.gcd_dvd_left ..)
def CmA (w:Y) (a nb:Int) (g:Nat) (t5:V) (wr:Y):Prop:=
 ∃(k:Nat) (x y:Int),t5 = .int .i64 k∧g=a.toNat-k∧0<x∧0<y∧2 ^ k*x=a∧2 ^ k*y=nb∧CmS w x y wr
def CmB (w:Y) (a nb:Int) (t5:V) (wr:Y):Prop:=
 ∃(k:Nat) (x y:Int),t5 = .int .i64 k∧0<x∧0<y∧(x % 2=1∨y % 2=1)∧2 ^ k*x=a∧2 ^ k*y=nb∧CmS w x y wr
def CmC (w:Y) (G M:Int) (k:Nat) (g:Nat) (_:V) (wr:Y):Prop:=
 ∃(x y:Int),0<x∧0<y∧(x % 2=1∨y % 2=1)∧x≤M∧y≤M∧2 ^ k*(Int.gcd x y:Int)=G∧g=x.toNat∧CmS w x y wr
def CmD (w:Y) (G M:Int) (k:Nat) (g:Nat) (_:V) (wr:Y):Prop:=
 ∃(x y:Int),0<x∧0≤y∧x % 2=1∧x≤M∧y≤M∧2 ^ k*(Int.gcd x y:Int)=G∧g=(x+y).toNat∧CmS w x y wr
def CmE (w:Y) (G M:Int) (k:Nat) (x y:Int) (g:Nat) (_:V) (wr:Y):Prop:=
 ∃(a:Int),0<a∧a≤y∧2 ^ k*(Int.gcd x a:Int)=G∧g=a.toNat∧CmS w x a wr
def CmF (w:Y) (G M:Int) (k:Nat) (x y:Int) (_:V) (wr:Y):Prop:=
 ∃(a b:Int),0<a∧a≤b∧a % 2=1∧b≤M∧b<x+y∧2 ^ k*(Int.gcd a b:Int)=G∧CmS w a b wr
theorem ziY {a b:Int} (h:b<a):decide (0<cmp3 a b)=true:=by simp only [cmp3];grind
theorem ziX {a b:Int} (h:a≤b):decide (0<cmp3 a b)=false:=by simp only [cmp3];grind
theorem zh0 (w:Y) (va vb:V) (na nb:Int) (ha:IsD w va na) (hb:IsD w vb nb) (be:Lm lim na) (bf:Lm lim nb) :
  Calls Tryz.prog 265 #[va,vb] w fun e w'=>∃r,e = .returned r∧IsD w' r (Int.gcd na nb:Nat)∧Ext w w':=by
 obtain⟨a,m,c,rfl⟩:=ha.form;obtain⟨a',m',c',rfl⟩:=hb.form;have h0:=ha.nonneg;have bx:=hb.nonneg;have aB:=hd9 be;have a4:=hd9 bf;clear be bf
 have aI:CmS w na nb (((w.alloc (.cells #[O a m c] 59)).alloc (.cells #[O a' m' c'] 59)).alloc (.cells #[O X 0 0] 59)):=by
  refine⟨eA,by simp,⟨_,?_,ha.ext eA⟩,⟨_,?_,hb.ext eA⟩,?_⟩
  ·rw [zag,zag,zag];simp only [wZ];rw [if_neg oM,if_neg oM,if_pos trivial]
  ·rw [zag,zag];simp only [wZ];rw [if_neg oM,if_pos trivial]
  ·rw [zag];simp only [wZ];rw [if_pos trivial]
 have aC:=hd9 aI;have aF:=ha.ext aI.1;have bz:=hb.ext aI.1;clear aI
 by_cases hz:na=0
 ·have bm:(na==0)=true:=by simpa using hz
  go_enter Tryz.func265,Tryz.ntmps265
  go_wp2_with(go_at_call 166;(with_reducible refine(zaA _ _ _ aF).mono ?_);rintro e w1 ⟨rfl,b⟩;have T:=aC.out.ext b;obtain⟨aY,mY,cY,K,L,d⟩:=T.rdY;obtain⟨af,ag⟩:=T.rdR)
  obtain⟨o1,o2,o3⟩:=T.out d;refine bR (v:=Z #[O aY mY cY]) (by simp [results,Tryz.results265,go_sem,o3]) rfl ⟨_,rfl,?_,o2⟩;rw [hz];simpa [Int.natAbs_of_nonneg bx] using o1
 have ce:(na==0)=false:=by simpa using hz
 by_cases a0:nb=0
 ·have bm:(nb==0)=true:=by simpa using a0
  go_enter Tryz.func265,Tryz.ntmps265
  go_wp2_with(first|(go_at_call 166;(with_reducible refine(zaA _ _ _ aF).mono ?_);rintro e w1 ⟨rfl,b⟩;have T:=aC.out.ext b;obtain⟨aY,mY,cY,K,L,d⟩:=T.rdY)|(go_at_call 166;(with_reducible refine(zaA _ _ _ d).mono ?_);rintro e w2 ⟨rfl,o⟩;have ar:=T.ext o;obtain⟨aX,D,cX,aj,ak,f⟩:=ar.rdX;obtain⟨af,ag⟩:=ar.rdR))
  obtain⟨o1,o2,o3⟩:=ar.out f;refine bR (v:=Z #[O aX D cX]) (by simp [results,Tryz.results265,go_sem,o3]) rfl ⟨_,rfl,?_,o2⟩;rw [a0];simpa [Int.natAbs_of_nonneg h0] using o1
 have bm:(nb==0)=false:=by simpa using a0
 obtain⟨G,hG⟩:∃G:Int,(Int.gcd na nb:Int)=G:=⟨_,rfl⟩
 obtain⟨M,a9,ba,hM⟩:∃M:Int,na≤M∧nb≤M∧Hid (Lm lim M):=by
  rcases Int.le_total na nb with h|h
  ·exact⟨nb,h,Int.le_refl _,a4⟩
  ·exact⟨na,Int.le_refl _,h,aB⟩
 rw [hG];have HG:=hd9 hG;clear hG;go_enter Tryz.func265,Tryz.ntmps265
 go_upto_block 1 with (first|(go_at_call 166;(with_reducible refine(zaA _ _ _ aF).mono ?_);rintro e w1 ⟨rfl,b⟩;have T:=aC.out.ext b;obtain⟨aY,mY,cY,K,L,d⟩:=T.rdY)|(go_at_call 166;(with_reducible refine(zaA _ _ _ d).mono ?_);rintro e w2 ⟨rfl,o⟩;have ar:=T.ext o))
 go_cut [5] (CmB w na nb)
 case first =>
  go_wp2
  go_loopg [5] na.toNat (CmA w na nb)
  case atStart=>exact⟨0,na,nb,rfl,rfl,by omega,by omega,by simp,by simp,ar⟩
  case round =>
   clear ar T b o K L d;obtain⟨k,x,y,rfl,rfl,n,t,ai,ao,g⟩:=hrel;obtain⟨aX,D,cX,aj,ak,f⟩:=g.rdX;obtain⟨aY,mY,cY,K,L,d⟩:=g.rdY;obtain⟨af,ag⟩:=g.rdR;have P:w.heap.size<wr.heap.size:=(by have:=g.2.1;omega);have Q:w.heap.size+1<wr.heap.size:=(by have:=g.2.1;omega);have R:w.heap.size+1+1<wr.heap.size:=(by have:=g.2.1;omega);have S:=hd9 g;clear g;have aD:=hd9 ai;have aE:=hd9 ao;have ca:=zjW aB.out n ai;have cb:IntKind.i64.wrap ((k:Int)+1)=(k:Int)+1:=iW _ oM;have aq:Hid (Lm lim x):=hd9 (aB.out.le oM (zfd n ai));have aL:Hid (Lm lim y):=hd9 (a4.out.le oM (zfd t ao));clear ai ao
   by_cases q:x % 2=0
   ·have ab:(x % 2==0)=true:=by simpa using q
    by_cases ap:y % 2=0
    ·have aR:(y % 2==0)=true:=by simpa using ap
     go_wp2_with(first|(go_at_call 286;(with_reducible refine(zba _ (Z #[O aX D cX]) x ?_ n).mono ?_);(refine f.ext ?_;exact eA);rintro e w1 ⟨rfl,b⟩;obtain⟨⟨p,s⟩,i,j,l⟩:=cK3 w b)|(go_at_call 286;(with_reducible refine(zba _ (Z #[O aY mY cY]) y ?_ t).mono ?_);(refine d.ext ?_;exact eA);rintro e w2 ⟨rfl,o⟩;obtain⟨⟨au,av⟩,ac,ad,ae⟩:=cK3 w o))
     go_region_with (first|((go_at_call 287;(with_reducible refine(zdt _ (Z #[O aX D cX]) x ?_ aq.out).mono ?_);(refine f.ext ?_;exact eA);rintro e w3 ⟨r3,rfl,aT,aV⟩;obtain⟨bY,cf,b0,rfl⟩:=aT.isD.form;obtain⟨⟨bA,bD⟩,bn,bo,bp⟩:=cK3 w aV))|((go_at_call 287;(with_reducible refine(zdt _ (Z #[O aY mY cY]) y ?_ aL.out).mono ?_);(refine d.ext ?_;exact eA);rintro e w4 ⟨r4,rfl,aU,aW⟩;obtain⟨bZ,cg,b1,rfl⟩:=aU.isD.form;obtain⟨⟨bB,bE⟩,bq,br,bs⟩:=cK3 w aW)))
     all_goals
      go_wp2
      go_roundg (na.toNat-(k+1))
      case measure=>omega
      case rel=>first|exact⟨k+1,x / 2,y / 2,zbj oM,rfl,by omega,by omega,zdv aD.out q,zdv aE.out ap,(S.out.ext eA).setXY (aT.isD.ext eA) aU.isD⟩|((repeat apply Exists.intro);exact⟨⟨k+1,x / 2,y / 2,zbj oM,rfl,by omega,by omega,zdv aD.out q,zdv aE.out ap,(S.out.ext eA).setXY (aT.isD.ext eA) aU.isD⟩,rfl⟩)
    ·have aR:(y % 2==0)=false:=by simpa using ap
     go_wp2_with(first|(go_at_call 286;(with_reducible refine(zba _ (Z #[O aX D cX]) x ?_ n).mono ?_);(refine f.ext ?_;exact eA);rintro e w1 ⟨rfl,b⟩;obtain⟨⟨p,s⟩,i,j,l⟩:=cK3 w b)|(go_at_call 286;(with_reducible refine(zba _ (Z #[O aY mY cY]) y ?_ t).mono ?_);(refine d.ext ?_;exact eA);rintro e w2 ⟨rfl,o⟩;obtain⟨⟨au,av⟩,ac,ad,ae⟩:=cK3 w o))
     go_meet;exact⟨k,x,y,rfl,n,t,.inr oM,aD.out,aE.out,S.out.ext eA⟩
   ·have ab:(x % 2==0)=false:=by simpa using q
    go_wp2_with(first|(go_at_call 286;(with_reducible refine(zba _ (Z #[O aX D cX]) x ?_ n).mono ?_);(refine f.ext ?_;exact eA);rintro e w1 ⟨rfl,b⟩;obtain⟨⟨p,s⟩,i,j,l⟩:=cK3 w b))
    go_meet;exact⟨k,x,y,rfl,n,t,.inl oM,aD.out,aE.out,S.out.ext eA⟩
 case rest =>
  obtain⟨k,x0,y0,rfl,n,t,aH,ai,ao,g⟩:=hcut;have ax:2 ^ k*(Int.gcd x0 y0:Int)=G:=by rw [←HG.out];exact(znm ai ao).symm
  have ah:=Int.le_trans (zfd n ai) a9;have an:=Int.le_trans (zfd t ao) ba;have a3:=hd9 (zjW aB.out n ai).1;clear ai ao a9 ba aF bz aC;go_wp2
  go_loopg [26] x0.toNat (CmC w G M k)
  case atStart=>exact⟨x0,y0,n,t,aH,ah,an,ax,rfl,g⟩
  case round =>
   clear g ax ah an aH n t;obtain⟨x,y,n,t,aH,ah,an,hg,rfl,g⟩:=hrel;obtain⟨aX,D,cX,aj,ak,f⟩:=g.rdX;obtain⟨aY,mY,cY,K,L,d⟩:=g.rdY;obtain⟨af,ag⟩:=g.rdR;have P:w.heap.size<wr.heap.size:=(by have:=g.2.1;omega);have Q:w.heap.size+1<wr.heap.size:=(by have:=g.2.1;omega);have R:w.heap.size+1+1<wr.heap.size:=(by have:=g.2.1;omega);have S:=hd9 g;clear g;have Hg:=hd9 hg;clear hg;have aq:Hid (Lm lim x):=hd9 (hM.out.le oM ah)
   by_cases q:x % 2=0
   ·have ab:(x % 2==0)=true:=by simpa using q
    go_wp2_with(first|(go_at_call 286;(with_reducible refine(zba _ (Z #[O aX D cX]) x ?_ n).mono ?_);(refine f.ext ?_;exact eA);rintro e w1 ⟨rfl,b⟩;obtain⟨⟨p,s⟩,i,j,l⟩:=cK3 w b)|((go_at_call 287;(with_reducible refine(zdt _ (Z #[O aX D cX]) x ?_ aq.out).mono ?_);(refine f.ext ?_;exact eA);rintro e w2 ⟨r2,rfl,al,o⟩;obtain⟨aO,a2,aP,rfl⟩:=al.isD.form;obtain⟨⟨au,av⟩,ac,ad,ae⟩:=cK3 w o)))
    go_roundg (x / 2).toNat
    case measure=>omega
    case rel=>exact⟨x / 2,y,by omega,t,.inr oM,by omega,an,by rw [zhb q oM];exact Hg.out,rfl,(S.out.ext eA).setX al.isD⟩
   ·have ab:(x % 2==0)=false:=by simpa using q
    have az:x % 2=1:=oM
    go_wp2_with(first|(go_at_call 286;(with_reducible refine(zba _ (Z #[O aX D cX]) x ?_ n).mono ?_);(refine f.ext ?_;exact eA);rintro e w1 ⟨rfl,b⟩;obtain⟨⟨p,s⟩,i,j,l⟩:=cK3 w b))
    go_loopg [30] (x+y).toNat (CmD w G M k)
    case atStart=>exact⟨x,y,n,by omega,az,ah,an,Hg.out,rfl,S.out.ext eA⟩
    case round =>
     clear b p s i j l aj ak f K L d af ag P Q R S Hg aq ah an aH n t q ab az;obtain⟨x,y,n,t,az,ah,an,hg,rfl,g⟩:=hrel;obtain⟨aX,D,cX,aj,ak,f⟩:=g.rdX;obtain⟨aY,mY,cY,K,L,d⟩:=g.rdY;obtain⟨af,ag⟩:=g.rdR;have P:w.heap.size<wr.heap.size:=(by have:=g.2.1;omega);have Q:w.heap.size+1<wr.heap.size:=(by have:=g.2.1;omega);have R:w.heap.size+1+1<wr.heap.size:=(by have:=g.2.1;omega);have S:=hd9 g;clear g;have Hg:=hd9 hg;clear hg;have aq:Hid (Lm lim x):=hd9 (hM.out.le oM ah)
     by_cases aZ:y=0
     ·have bJ:(y==0)=true:=by simpa using aZ
      have HK:k≤10000000000:=by have:=a3.out;omega
      go_wp2_with(first|(go_at_call 166;(with_reducible refine(zaA _ (Z #[O aY mY cY]) y ?_).mono ?_);(refine d.ext ?_;exact eA);rintro e w1 ⟨rfl,b⟩;obtain⟨⟨p,s⟩,i,j,l⟩:=cK3 w b)|((go_at_call 289;(with_reducible refine(zej _ (Z #[O aX D cX]) x k ?_ aq.out HK).mono ?_);(refine f.ext ?_;exact eA);rintro e w2 ⟨r2,rfl,al,o⟩;obtain⟨aO,a2,aP,rfl⟩:=al.isD.form;obtain⟨⟨au,av⟩,ac,ad,ae⟩:=cK3 w o)))
      obtain⟨o1,o2,o3⟩:=(S.out.ext (w:=w) (W':=w2) eA).out al.isD;refine bR (v:=Z #[O aO a2 aP]) (by simp [results,Tryz.results265,go_sem,o3]) rfl ⟨_,rfl,?_,o2⟩;have e:2 ^ k*x=G:=by rw [←Hg.out,aZ];simp [Int.natAbs_of_nonneg (show 0≤x by omega)]
      rw [←e];exact o1
     ·have bJ:(y==0)=false:=by simpa using aZ
      go_wp2_with(first|(go_at_call 166;(with_reducible refine(zaA _ (Z #[O aY mY cY]) y ?_).mono ?_);(refine d.ext ?_;exact eA);rintro e w1 ⟨rfl,b⟩;obtain⟨⟨p,s⟩,i,j,l⟩:=cK3 w b))
      go_loopg [33] y.toNat (CmE w G M k x y)
      case atStart=>exact⟨y,by omega,Int.le_refl _,Hg.out,rfl,S.out.ext eA⟩
      case round =>
       clear b p s i j l aj ak f K L d af ag P Q R S Hg;obtain⟨u,aA,cc,hg,rfl,g⟩:=hrel;obtain⟨aX,D,cX,aj,ak,f⟩:=g.rdX;obtain⟨aY,mY,cY,K,L,d⟩:=g.rdY;obtain⟨af,ag⟩:=g.rdR;have P:w.heap.size<wr.heap.size:=(by have:=g.2.1;omega);have Q:w.heap.size+1<wr.heap.size:=(by have:=g.2.1;omega);have R:w.heap.size+1+1<wr.heap.size:=(by have:=g.2.1;omega);have S:=hd9 g;clear g;have Hg:=hd9 hg;clear hg;have aL:Hid (Lm lim u):=hd9 (hM.out.le oM oM)
       by_cases q:u % 2=0
       ·have ab:(u % 2==0)=true:=by simpa using q
        go_wp2_with(first|(go_at_call 286;(with_reducible refine(zba _ (Z #[O aY mY cY]) u ?_ aA).mono ?_);(refine d.ext ?_;exact eA);rintro e w1 ⟨rfl,b⟩;obtain⟨⟨p,s⟩,i,j,l⟩:=cK3 w b)|((go_at_call 287;(with_reducible refine(zdt _ (Z #[O aY mY cY]) u ?_ aL.out).mono ?_);(refine d.ext ?_;exact eA);rintro e w2 ⟨r2,rfl,al,o⟩;obtain⟨aO,a2,aP,rfl⟩:=al.isD.form;obtain⟨⟨au,av⟩,ac,ad,ae⟩:=cK3 w o)))
        go_roundg (u / 2).toNat
        case measure=>omega
        case rel=>exact⟨u / 2,by omega,by omega,by rw [zjp q az];exact Hg.out,rfl,(S.out.ext eA).setY al.isD⟩
       ·have ab:(u % 2==0)=false:=by simpa using q
        have bK:u % 2=1:=oM
        go_upto_if 40 with (first|(go_at_call 286;(with_reducible refine(zba _ (Z #[O aY mY cY]) u ?_ aA).mono ?_);(refine d.ext ?_;exact eA);rintro e w1 ⟨rfl,b⟩;obtain⟨⟨p,s⟩,i,j,l⟩:=cK3 w b)|((go_at_call 226;(with_reducible refine(zci _ (Z #[O aX D cX]) (Z #[O aY mY cY]) x u ?_ ?_).mono ?_);(refine f.ext ?_;exact eA);(refine d.ext ?_;exact eA);rintro e w2 ⟨rfl,o⟩;obtain⟨⟨au,av⟩,ac,ad,ae⟩:=cK3 w o)))
        go_cut [41] (CmF w G M k x y)
        case first =>
         rcases Int.lt_or_le u x with am|am
         ·have aQ:=ziY am
          have bC:0<cmp3 x u:=of_decide_eq_true aQ;have aM:=hd9 am;clear am;go_wp2;go_meet;exact⟨u,x,aA,by have:=aM.out;omega,bK,ah,by omega,by rw [Int.gcd_comm];exact Hg.out,(S.out.ext (W':=w2) eA).setXY (d.ext eA) (f.ext eA)⟩
         ·have aQ:=ziX am
          have bC:cmp3 x u≤0:=by have:=of_decide_eq_false aQ;omega
          have aM:=hd9 am;clear am;go_wp2;go_meet;exact⟨x,u,n,aM.out,az,by omega,by omega,Hg.out,S.out.ext (W':=w2) eA⟩
        case rest =>
         clear b p s i j l o au av ac ad ae aj ak f K L d af ag P Q R S Hg;obtain⟨x',u,ay,bl,aK,bM,bL,hg,g⟩:=hcut;obtain⟨wr,rfl⟩:∃W,W=wc:=⟨_,rfl⟩;obtain⟨aX,D,cX,aj,ak,f⟩:=g.rdX;obtain⟨aY,mY,cY,K,L,d⟩:=g.rdY;obtain⟨af,ag⟩:=g.rdR;have P:w.heap.size<wr.heap.size:=(by have:=g.2.1;omega);have Q:w.heap.size+1<wr.heap.size:=(by have:=g.2.1;omega);have R:w.heap.size+1+1<wr.heap.size:=(by have:=g.2.1;omega);have S:=hd9 g;clear g;have aw:Hid (Lm lim x'):=hd9 (hM.out.le oM oM);have aJ:Hid (Lm lim u):=hd9 (hM.out.le oM oM);have bc:2 ^ k*(Int.gcd x' (u + -1*x'):Int)=G:=by rw [zlu oM bl];exact hg
         have Hg:=hd9 bc;clear hg bc
         by_cases bg:D≤2
         ·have bh:decide ((D:Int)≤2)=true:=by simp;omega
          have bi:(D:Int)≤2:=oM
          go_wp2_with(first|((go_at_call 187;(with_reducible refine(zcU _ (Z #[O aY mY cY]) (Z #[O aX D cX]) u x' (-1) ?_ ?_ aJ.out aw.out oM oM).mono ?_);(refine d.ext ?_;exact eA);(refine f.ext ?_;exact eA);rintro e w1 ⟨r1,rfl,aa,b⟩;obtain⟨a1,m1,c1,rfl⟩:=aa.isD.form;obtain⟨⟨p,s⟩,i,j,l⟩:=cK3 w b;rcases Nat.lt_or_ge 2 m1 with aS|aS)))
          ·go_roundg (x'+(u + -1*x')).toNat
           case measure=>omega
           case rel=>exact⟨x',u + -1*x',ay,by omega,aK,by omega,by omega,Hg.out,rfl,(S.out.ext eA).setY aa.isD⟩
          ·have HK:k≤10000000000:=by have:=a3.out;omega
           obtain⟨z,hz⟩:=gX (u + -1*x');rw [hz]at aa Hg;have cd:0≤z:=oM
           clear hz;have aG:CmS w x' u w1:=S.out.ext eA;have bb:=aG.setY (sl:=O a1 m1 c1) (aa.isD);have a5:=(f.ext (w':=w1) eA).keep (aG.keepY (O a1 m1 c1));have a8:=aa.isD.keep (aG.keepY (O a1 m1 c1));have bv:=hd9 (f.lm bg);have bw:=hd9 (aa.isD.lm aS);have b2:=lm2 (f.lm bg);have b3:=lm2 (aa.isD.lm aS);have bF:=znl (y:=z) ay;have ax:0≤(Int.gcd x' (z):Int):=Int.natCast_nonneg _;have bt:Hid (Lm lim (Int.gcd x' (z):Int)):=hd9 (aw.out.le ax bF);have bu:=hd9 bb;clear bb aG
           go_region_held3 (fun W=>W.cell? ⟨w.heap.size,0,X⟩=some (O aX D cX)∧W.cell? ⟨w.heap.size+1,0,X⟩=some (O a1 m1 c1)) ((repeat' (with_reducible refine And.intro ?_ ?_))<;>(first|(go_simp;done)|(refine b.cellS ?_;go_simp;done))) (first|((go_at_call 138;(with_reducible refine(zc3 _ (Z #[O aX D cX]) x' ?_ bv.out).mono ?_);(refine a5.ext ?_;exact eA);rintro e w3 ⟨rfl,aV⟩;obtain⟨⟨bA,bD⟩,bn,bo,bp⟩:=cK3 w aV))|((go_at_call 138;(with_reducible refine(zc3 _ (Z #[O a1 m1 c1]) (z) ?_ bw.out).mono ?_);(refine a8.ext ?_;exact eA);rintro e w4 ⟨rfl,aW⟩;obtain⟨⟨bB,bE⟩,bq,br,bs⟩:=cK3 w aW))|((go_at_call 288;(with_reducible refine(zgr _ x' (z) ⟨by omega,by omega⟩ ⟨by omega,by omega⟩).mono ?_);rintro e w5 ⟨rfl,bG⟩;obtain⟨⟨b4,b7⟩,bN,bO,bP⟩:=cK3 w bG))|((go_at_call 188;(with_reducible refine(zcl _ (Int.gcd x' (z):Nat) ax oM).mono ?_);rintro e w6 ⟨r6,rfl,bj,bH⟩;obtain⟨a6,m6,c6,rfl⟩:=bj.isD.form;obtain⟨⟨b5,b8⟩,bQ,bT,bU⟩:=cK3 w bH))|((go_at_call 289;(with_reducible refine(zej _ (Z #[O a6 m6 c6]) (Int.gcd x' (z):Nat) k ?_ bt.out HK).mono ?_);(refine bj.isD.ext ?_;exact eA);rintro e w7 ⟨r7,rfl,bk,bI⟩;obtain⟨a7,m7,c7,rfl⟩:=bk.isD.form;obtain⟨⟨b6,b9⟩,bV,bW,bX⟩:=cK3 w bI)))
           all_goals go_wp2
           obtain⟨o1,o2,o3⟩:=(bu.out.ext (W':=w7) eA).out bk.isD;refine bR (v:=Z #[O a7 m7 c7]) (by simp [results,Tryz.results265,go_sem,o3]) rfl ⟨_,rfl,?_,o2⟩;rw [Hg.out]at o1;exact o1
         ·have bh:decide ((D:Int)≤2)=false:=by simp;omega
          have bi:2<(D:Int):=oM
          go_wp2_with(first|((go_at_call 187;(with_reducible refine(zcU _ (Z #[O aY mY cY]) (Z #[O aX D cX]) u x' (-1) ?_ ?_ aJ.out aw.out oM oM).mono ?_);(refine d.ext ?_;exact eA);(refine f.ext ?_;exact eA);rintro e w1 ⟨r1,rfl,aa,b⟩;obtain⟨a1,m1,c1,rfl⟩:=aa.isD.form;obtain⟨⟨p,s⟩,i,j,l⟩:=cK3 w b)))
          go_roundg (x'+(u + -1*x')).toNat
          case measure=>omega
          case rel=>exact⟨x',u + -1*x',ay,by omega,aK,by omega,by omega,Hg.out,rfl,(S.out.ext eA).setY aa.isD⟩
end
end Go.Proofs.YtjnjpagegkcgfaaGreatDoor.Cop
