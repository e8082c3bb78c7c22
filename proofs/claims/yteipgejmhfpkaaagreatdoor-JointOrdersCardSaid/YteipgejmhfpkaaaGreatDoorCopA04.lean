/- Part 5 of 44: contracts of what the law calls. -/
import Derived.Test.YteipgejmhfpkaaaGreatDoorCopA03
import Derived.Deep.LoopGhost
import Derived.Deep.CutBlock
import Derived.Deep.DeepCutAuto
set_option maxRecDepth 1000000
set_option maxHeartbeats 16000000
set_option linter.unusedSimpArgs false
set_option linter.unusedVariables false
namespace Go.Proofs.YteipgejmhfpkaaaGreatDoor.Cop
open Go.RowKit Go.Shelf
attribute [local go_sem] Oper.semAt_some
def CmS (w:World) (x y:Int) (W:World):Prop:=
 Ext w W∧w.heap.size+1+1+1≤W.heap.size∧(∃sl,W.heap[w.heap.size]?=some (.cells #[sl] 52 (0,0))∧IsD W (.agg #[sl]) x) ∧
 (∃sl,W.heap[w.heap.size+1]?=some (.cells #[sl] 52 (0,0))∧IsD W (.agg #[sl]) y)∧W.heap[w.heap.size+1+1]?=some (.cells #[.slice none 0 0] 52 (0,0))
theorem CmS.ext {w:World} {x y:Int} {W W':World} (h:CmS w x y W) (k:Ext W W'):CmS w x y W':=by
 obtain⟨h1,h2,⟨s1,h3,h4⟩,⟨s2,h5,h6⟩,h7⟩:=h;have:=k.size;exact⟨h1.trans k,by omega,⟨s1,k.heapS h3,h4.ext k⟩,⟨s2,k.heapS h5,h6.ext k⟩,k.heapS h7⟩
theorem CmS.setX {w:World} {x y x':Int} {W:World} {sl:Value} (h:CmS w x y W) (hd:IsD W (.agg #[sl]) x'):CmS w x' y (W.setCell ⟨w.heap.size,0,none⟩ sl):=by
 obtain⟨h1,h2,⟨s1,h3,h4⟩,⟨s2,h5,h6⟩,h7⟩:=h;have hk:∀k,k≠w.heap.size→(W.setCell ⟨w.heap.size,0,none⟩ sl).heap[k]?=W.heap[k]?:=fun k hk=>Below.heap_setCell _ _ _ _ hk
 have hT:KeepT 2 W (W.setCell ⟨w.heap.size,0,none⟩ sl):=(KeepT.refl _ W).set h3 (by decide) _;exact⟨h1.set (Nat.le_refl _) _,by rw [qcZ];exact h2,⟨sl,one_setCell h3,hd.keep hT⟩,⟨s2,(hk _ (by omega)).trans h5,h6.keep hT⟩,(hk _ (by omega)).trans h7⟩
theorem CmS.setY {w:World} {x y y':Int} {W:World} {sl:Value} (h:CmS w x y W) (hd:IsD W (.agg #[sl]) y'):CmS w x y' (W.setCell ⟨w.heap.size+1,0,none⟩ sl):=by
 obtain⟨h1,h2,⟨s1,h3,h4⟩,⟨s2,h5,h6⟩,h7⟩:=h;have hk:∀k,k≠w.heap.size+1→(W.setCell ⟨w.heap.size+1,0,none⟩ sl).heap[k]?=W.heap[k]?:=fun k hk=>Below.heap_setCell _ _ _ _ hk
 have hT:KeepT 2 W (W.setCell ⟨w.heap.size+1,0,none⟩ sl):=(KeepT.refl _ W).set h5 (by decide) _;exact⟨h1.set (by dsimp only;omega) _,by rw [qcZ];exact h2,⟨s1,(hk _ (by omega)).trans h3,h4.keep hT⟩,⟨sl,one_setCell h5,hd.keep hT⟩,(hk _ (by omega)).trans h7⟩
theorem CmS.keepX {w:World} {x y:Int} {W:World} (h:CmS w x y W) (u:Value):KeepT 2 W (W.setCell ⟨w.heap.size,0,none⟩ u):=by
 obtain⟨h1,h2,⟨s1,h3,h4⟩,_⟩:=h;exact(KeepT.refl _ W).set h3 (by decide) _
theorem CmS.keepY {w:World} {x y:Int} {W:World} (h:CmS w x y W) (u:Value):KeepT 2 W (W.setCell ⟨w.heap.size+1,0,none⟩ u):=by
 obtain⟨h1,h2,⟨s1,h3,h4⟩,⟨s2,h5,h6⟩,h7⟩:=h;exact(KeepT.refl _ W).set h5 (by decide) _
theorem CmS.setXY {w:World} {x y x' y':Int} {W:World} {s1 s2:Value} (h:CmS w x y W) (hd1:IsD W (.agg #[s1]) x') (hd2:IsD W (.agg #[s2]) y') :
  CmS w x' y' ((W.setCell ⟨w.heap.size,0,none⟩ s1).setCell ⟨w.heap.size+1,0,none⟩ s2):=(h.setX hd1).setY (hd2.keep (h.keepX _))
theorem pow_half {k:Nat} {x n:Int} (h:2 ^ k*x=n) (he:x % 2=0):2 ^ (k+1)*(x / 2)=n:=by
 rw [Int.pow_succ,Int.mul_assoc,show 2*(x / 2)=x by omega];exact h
theorem CmS.rdX {w:World} {x y:Int} {W:World} (h:CmS w x y W):∃a m c,W.cell? ⟨w.heap.size,0,none⟩=some (.slice a m c)∧W.frozen? ⟨w.heap.size,0,none⟩=false∧IsD W (.agg #[.slice a m c]) x:=by
 obtain⟨h1,h2,⟨s1,h3,h4⟩,⟨s2,h5,h6⟩,h7⟩:=h;obtain⟨a,m,c,e⟩:=h4.form
 cases e
 exact⟨a,m,c,cell_of_one h3,free_of_one h3,h4⟩
theorem CmS.rdY {w:World} {x y:Int} {W:World} (h:CmS w x y W):∃a m c,W.cell? ⟨w.heap.size+1,0,none⟩=some (.slice a m c)∧W.frozen? ⟨w.heap.size+1,0,none⟩=false∧IsD W (.agg #[.slice a m c]) y:=by
 obtain⟨h1,h2,⟨s1,h3,h4⟩,⟨s2,h5,h6⟩,h7⟩:=h;obtain⟨a,m,c,e⟩:=h6.form
 cases e
 exact⟨a,m,c,cell_of_one h5,free_of_one h5,h6⟩
theorem CmS.rdR {w:World} {x y:Int} {W:World} (h:CmS w x y W):W.cell? ⟨w.heap.size+1+1,0,none⟩=some (.slice none 0 0)∧W.frozen? ⟨w.heap.size+1+1,0,none⟩=false:=⟨cell_of_one h.2.2.2.2,free_of_one h.2.2.2.2⟩
theorem CmS.out {w:World} {x y g:Int} {W:World} {sl:Value} (h:CmS w x y W) (hd:IsD W (.agg #[sl]) g) :
  IsD (W.setCell ⟨w.heap.size+1+1,0,none⟩ sl) (.agg #[sl]) g∧Ext w (W.setCell ⟨w.heap.size+1+1,0,none⟩ sl)∧(W.setCell ⟨w.heap.size+1+1,0,none⟩ sl).cell? ⟨w.heap.size+1+1,0,none⟩=some sl:=by
 have h7:=h.2.2.2.2;exact⟨hd.keep ((KeepT.refl _ W).set h7 (by decide) _),h.1.set (by dsimp only;omega) _,cell_of_one (one_setCell h7)⟩
theorem gcd_half {x y:Int} (h:x % 2=0) (hy:y % 2=1):Int.gcd (x / 2) y=Int.gcd x y:=by
 have hc:Nat.Coprime 2 y.natAbs:=by
  unfold Nat.Coprime;rw [Nat.gcd_rec,show y.natAbs % 2=1 by omega];rfl
 have e:x.natAbs=2*(x / 2).natAbs:=by omega
 unfold Int.gcd;rw [e];exact(Nat.Coprime.gcd_mul_left_cancel _ hc).symm
theorem gcd_less {x y:Int} (h0:0≤x) (h:x≤y):Int.gcd x (y + -1*x)=Int.gcd x y:=by
 unfold Int.gcd;rw [show (y + -1*x).natAbs=y.natAbs-x.natAbs by omega];exact Nat.gcd_sub_self_right (by omega)
theorem gcd_pow {x y a b:Int} {k:Nat} (hx:2 ^ k*x=a) (hy:2 ^ k*y=b):(Int.gcd a b:Int)=2 ^ k*(Int.gcd x y:Int):=by
 rw [←hx,←hy,Int.gcd_mul_left];simp [Int.natAbs_pow]
theorem pow2_lt {k n:Nat} (h:(2:Int) ^ k<B ^ n):k<24*n:=by
 apply Classical.byContradiction
 intro hn;have e:B=(2:Int) ^ 24:=by decide
 rw [e,←Int.pow_mul]at h;have:=pow_le_pow (b:=(2:Int)) (by decide) (show 24*n≤k by omega);omega
theorem lm_pow2 {k:Nat} {x n:Int} (h:Lm lim n) (hx:0<x) (he:2 ^ k*x=n):k<2400000000∧(k:Int)<n:=by
 have h1:(2:Int) ^ k*1≤2 ^ k*x:=Int.mul_le_mul_of_nonneg_left (by omega) (Int.pow_nonneg (by decide));have h2:(2:Int) ^ k<B ^ lim:=by unfold Lm at h;omega
 have h3:=pow2_lt h2;have h4:(k:Int)<2 ^ k:=by exact_mod_cast Nat.lt_two_pow_self (n:=k)
 unfold lim at h3;omega
theorem le_pow2 {k:Nat} {x n:Int} (hx:0<x) (h:2 ^ k*x=n):x≤n:=by
 have h1:(1:Int)≤2 ^ k:=by have:=pow_pos' (b:=(2:Int)) (by decide) k;omega
 have h2:1*x≤2 ^ k*x:=Int.mul_le_mul_of_nonneg_right h1 (by omega);omega
theorem gcd_halfR {x y:Int} (h:y % 2=0) (hx:x % 2=1):Int.gcd x (y / 2)=Int.gcd x y:=by
 rw [Int.gcd_comm,gcd_half h hx,Int.gcd_comm]
theorem IsD.lm {w:World} {a:Option Addr} {m c:Nat} {n:Int} (h:IsD w (.agg #[.slice a m c]) n) {k:Nat} (hk:m≤k):Lm k n:=by
 obtain⟨ds,h1,h2,h3,h4⟩:=h.open;rw [←h4];exact Lm.dig h3.1 (by omega)
theorem divisor_int (w:World) (x y:Int) (hx:0≤x∧x<18446744073709551616) (hy:0≤y∧y<18446744073709551616) :
  Calls Tryz.prog 236 #[.int .u64 x,.int .u64 y] w fun e w'=>e = .returned (.int .u64 (Int.gcd x y:Nat))∧Ext w w':=by
 obtain⟨a,rfl⟩:=Int.eq_ofNat_of_zero_le hx.1;obtain⟨b,rfl⟩:=Int.eq_ofNat_of_zero_le hy.1;exact divisor_any w a b (by omega) (by omega)
theorem lm2 {x:Int} (h:Lm 2 x):x<281474976710656:=by
 have:B ^ 2=281474976710656:=by decide
 unfold Lm at h;omega
theorem gcd_le1 {x y:Int} (h:0<x):(Int.gcd x y:Int)≤x:=Int.le_of_dvd h (Int.gcd_dvd_left ..)
def CmA (w:World) (na nb:Int) (g:Nat) (t5:Value) (wr:World):Prop:=
 ∃(k:Nat) (x y:Int),t5 = .int .i64 k∧g=na.toNat-k∧0<x∧0<y∧2 ^ k*x=na∧2 ^ k*y=nb∧CmS w x y wr
def CmB (w:World) (na nb:Int) (t5:Value) (wr:World):Prop:=
 ∃(k:Nat) (x y:Int),t5 = .int .i64 k∧0<x∧0<y∧(x % 2=1∨y % 2=1)∧2 ^ k*x=na∧2 ^ k*y=nb∧CmS w x y wr
def CmC (w:World) (G M:Int) (k:Nat) (g:Nat) (_:Value) (wr:World):Prop:=
 ∃(x y:Int),0<x∧0<y∧(x % 2=1∨y % 2=1)∧x≤M∧y≤M∧2 ^ k*(Int.gcd x y:Int)=G∧g=x.toNat∧CmS w x y wr
def CmD (w:World) (G M:Int) (k:Nat) (g:Nat) (_:Value) (wr:World):Prop:=
 ∃(x y:Int),0<x∧0≤y∧x % 2=1∧x≤M∧y≤M∧2 ^ k*(Int.gcd x y:Int)=G∧g=(x+y).toNat∧CmS w x y wr
def CmE (w:World) (G M:Int) (k:Nat) (x y:Int) (g:Nat) (_:Value) (wr:World):Prop:=
 ∃(y':Int),0<y'∧y'≤y∧2 ^ k*(Int.gcd x y':Int)=G∧g=y'.toNat∧CmS w x y' wr
def CmF (w:World) (G M:Int) (k:Nat) (x y:Int) (_:Value) (wr:World):Prop:=
 ∃(x' y':Int),0<x'∧x'≤y'∧x' % 2=1∧y'≤M∧y'<x+y∧2 ^ k*(Int.gcd x' y':Int)=G∧CmS w x' y' wr
theorem cmp3_posT {a b:Int} (h:b<a):decide (0<cmp3 a b)=true:=by simp only [cmp3];grind
theorem cmp3_posF {a b:Int} (h:a≤b):decide (0<cmp3 a b)=false:=by simp only [cmp3];grind
theorem common_any (w:World) (va vb:Value) (na nb:Int) (ha:IsD w va na) (hb:IsD w vb nb) (hla:Lm lim na) (hlb:Lm lim nb) :
  Calls Tryz.prog 223 #[va,vb] w fun e w'=>∃r,e = .returned r∧IsD w' r (Int.gcd na nb:Nat)∧Ext w w':=by
 obtain⟨a,m,c,rfl⟩:=ha.form;obtain⟨a',m',c',rfl⟩:=hb.form;have h0:=ha.nonneg;have h0':=hb.nonneg;have Hla:=hd9 hla;have Hlb:=hd9 hlb;clear hla hlb
 have hs0:CmS w na nb (((w.alloc (.cells #[.slice a m c] 52)).alloc (.cells #[.slice a' m' c'] 52)).alloc (.cells #[.slice none 0 0] 52)):=by
  refine⟨eA,by simp,⟨_,?_,ha.ext eA⟩,⟨_,?_,hb.ext eA⟩,?_⟩
  ·rw [heap_get,heap_get,heap_get];simp only [wZ];rw [if_neg (by omega),if_neg (by omega),if_pos trivial]
  ·rw [heap_get,heap_get];simp only [wZ];rw [if_neg (by omega),if_pos trivial]
  ·rw [heap_get];simp only [wZ];rw [if_pos trivial]
 have Hs0:=hd9 hs0;have hDa:=ha.ext hs0.1;have hDb:=hb.ext hs0.1;clear hs0
 by_cases hz:na=0
 ·have hzb:(na==0)=true:=by simpa using hz
  go_enter Tryz.func223,Tryz.ntmps223
  go_wp2_with(go_at_call 182;(with_reducible refine(none_any _ _ _ hDa).mono ?_);rintro e w1 ⟨rfl,hx1⟩;have Hs1:=Hs0.out.ext hx1;obtain⟨aY,mY,cY,hcY,hfY,hDY⟩:=Hs1.rdY;obtain⟨hcR,hfR⟩:=Hs1.rdR)
  obtain⟨o1,o2,o3⟩:=Hs1.out hDY;refine bodyPost_ret (v:=.agg #[.slice aY mY cY]) (by simp [results,Tryz.results223,go_sem,o3]) rfl ⟨_,rfl,?_,o2⟩;rw [hz];simpa [Int.natAbs_of_nonneg h0'] using o1
 have hza:(na==0)=false:=by simpa using hz
 by_cases hz2:nb=0
 ·have hzb:(nb==0)=true:=by simpa using hz2
  go_enter Tryz.func223,Tryz.ntmps223
  go_wp2_with(first|(go_at_call 182;(with_reducible refine(none_any _ _ _ hDa).mono ?_);rintro e w1 ⟨rfl,hx1⟩;have Hs1:=Hs0.out.ext hx1;obtain⟨aY,mY,cY,hcY,hfY,hDY⟩:=Hs1.rdY)|(go_at_call 182;(with_reducible refine(none_any _ _ _ hDY).mono ?_);rintro e w2 ⟨rfl,hx2⟩;have Hs2:=Hs1.ext hx2;obtain⟨aX,mX,cX,hcX,hfX,hDX⟩:=Hs2.rdX;obtain⟨hcR,hfR⟩:=Hs2.rdR))
  obtain⟨o1,o2,o3⟩:=Hs2.out hDX;refine bodyPost_ret (v:=.agg #[.slice aX mX cX]) (by simp [results,Tryz.results223,go_sem,o3]) rfl ⟨_,rfl,?_,o2⟩;rw [hz2];simpa [Int.natAbs_of_nonneg h0] using o1
 have hzb:(nb==0)=false:=by simpa using hz2
 obtain⟨G,hG⟩:∃G:Int,(Int.gcd na nb:Int)=G:=⟨_,rfl⟩
 obtain⟨M,hM1,hM2,hM⟩:∃M:Int,na≤M∧nb≤M∧Hid (Lm lim M):=by
  rcases Int.le_total na nb with h|h
  ·exact⟨nb,h,Int.le_refl _,Hlb⟩
  ·exact⟨na,Int.le_refl _,h,Hla⟩
 rw [hG];have HG:=hd9 hG;clear hG;go_enter Tryz.func223,Tryz.ntmps223
 go_upto_block 1 with (first|(go_at_call 182;(with_reducible refine(none_any _ _ _ hDa).mono ?_);rintro e w1 ⟨rfl,hx1⟩;have Hs1:=Hs0.out.ext hx1;obtain⟨aY,mY,cY,hcY,hfY,hDY⟩:=Hs1.rdY)|(go_at_call 182;(with_reducible refine(none_any _ _ _ hDY).mono ?_);rintro e w2 ⟨rfl,hx2⟩;have Hs2:=Hs1.ext hx2))
 go_cut [5] (CmB w na nb)
 case first =>
  go_wp2
  go_loopg [5] na.toNat (CmA w na nb)
  case atStart=>exact⟨0,na,nb,rfl,rfl,by omega,by omega,by simp,by simp,Hs2⟩
  case round =>
   clear Hs2 Hs1 hx1 hx2 hcY hfY hDY;obtain⟨k,x,y,rfl,rfl,hx0,hy0,hxe,hye,hs⟩:=hrel;obtain⟨aX,mX,cX,hcX,hfX,hDX⟩:=hs.rdX;obtain⟨aY,mY,cY,hcY,hfY,hDY⟩:=hs.rdY;obtain⟨hcR,hfR⟩:=hs.rdR;have zr_0:w.heap.size<wr.heap.size:=(by have:=hs.2.1;omega);have zr_1:w.heap.size+1<wr.heap.size:=(by have:=hs.2.1;omega);have zr_2:w.heap.size+1+1<wr.heap.size:=(by have:=hs.2.1;omega);have Hs:=hd9 hs;clear hs;have Hxe:=hd9 hxe;have Hye:=hd9 hye;have hkb:=lm_pow2 Hla.out hx0 hxe;have hkw:IntKind.i64.wrap ((k:Int)+1)=(k:Int)+1:=IntWalk.i64_in _ (by omega);have HLx:Hid (Lm lim x):=hd9 (Hla.out.le (by omega) (le_pow2 hx0 hxe));have HLy:Hid (Lm lim y):=hd9 (Hlb.out.le (by omega) (le_pow2 hy0 hye));clear hxe hye
   by_cases hev:x % 2=0
   ·have hevb:(x % 2==0)=true:=by simpa using hev
    by_cases hev2:y % 2=0
    ·have hevb2:(y % 2==0)=true:=by simpa using hev2
     go_wp2_with(first|(go_at_call 234;(with_reducible refine(even_any _ (.agg #[.slice aX mX cX]) x ?_ hx0).mono ?_);(refine hDX.ext ?_;exact eA);rintro e w1 ⟨rfl,hx1⟩;obtain⟨hc1,hf1⟩:=hx1.cells;(try simp only [qcD,qfD,qdZ]at hc1 hf1);have z1_0:=hx1.lt (n:=w.heap.size) (by go_simp);have z1_1:=hx1.lt (n:=w.heap.size+1) (by go_simp);have z1_2:=hx1.lt (n:=w.heap.size+1+1) (by go_simp))|(go_at_call 234;(with_reducible refine(even_any _ (.agg #[.slice aY mY cY]) y ?_ hy0).mono ?_);(refine hDY.ext ?_;exact eA);rintro e w2 ⟨rfl,hx2⟩;obtain⟨hc2,hf2⟩:=hx2.cells;(try simp only [qcD,qfD,qdZ]at hc2 hf2);have z2_0:=hx2.lt (n:=w.heap.size) (by go_simp);have z2_1:=hx2.lt (n:=w.heap.size+1) (by go_simp);have z2_2:=hx2.lt (n:=w.heap.size+1+1) (by go_simp)))
     go_region_with (first|((go_at_call 235;(with_reducible refine(half_any _ (.agg #[.slice aX mX cX]) x ?_ HLx.out).mono ?_);(refine hDX.ext ?_;exact eA);rintro e w3 ⟨r3,rfl,hr3,hx3⟩;obtain⟨aR3,mR3,cR3,rfl⟩:=hr3.isD.form;obtain⟨hc3,hf3⟩:=hx3.cells;(try simp only [qcD,qfD,qdZ]at hc3 hf3);have z3_0:=hx3.lt (n:=w.heap.size) (by go_simp);have z3_1:=hx3.lt (n:=w.heap.size+1) (by go_simp);have z3_2:=hx3.lt (n:=w.heap.size+1+1) (by go_simp)))|((go_at_call 235;(with_reducible refine(half_any _ (.agg #[.slice aY mY cY]) y ?_ HLy.out).mono ?_);(refine hDY.ext ?_;exact eA);rintro e w4 ⟨r4,rfl,hr4,hx4⟩;obtain⟨aR4,mR4,cR4,rfl⟩:=hr4.isD.form;obtain⟨hc4,hf4⟩:=hx4.cells;(try simp only [qcD,qfD,qdZ]at hc4 hf4);have z4_0:=hx4.lt (n:=w.heap.size) (by go_simp);have z4_1:=hx4.lt (n:=w.heap.size+1) (by go_simp);have z4_2:=hx4.lt (n:=w.heap.size+1+1) (by go_simp))))
     all_goals
      go_wp2
      go_roundg (na.toNat-(k+1))
      case measure=>omega
      case rel=>first|exact⟨k+1,x / 2,y / 2,int_eq (by omega),rfl,by omega,by omega,pow_half Hxe.out hev,pow_half Hye.out hev2,(Hs.out.ext eA).setXY (hr3.isD.ext eA) hr4.isD⟩|((repeat apply Exists.intro);exact⟨⟨k+1,x / 2,y / 2,int_eq (by omega),rfl,by omega,by omega,pow_half Hxe.out hev,pow_half Hye.out hev2,(Hs.out.ext eA).setXY (hr3.isD.ext eA) hr4.isD⟩,rfl⟩)
    ·have hevb2:(y % 2==0)=false:=by simpa using hev2
     go_wp2_with(first|(go_at_call 234;(with_reducible refine(even_any _ (.agg #[.slice aX mX cX]) x ?_ hx0).mono ?_);(refine hDX.ext ?_;exact eA);rintro e w1 ⟨rfl,hx1⟩;obtain⟨hc1,hf1⟩:=hx1.cells;(try simp only [qcD,qfD,qdZ]at hc1 hf1);have z1_0:=hx1.lt (n:=w.heap.size) (by go_simp);have z1_1:=hx1.lt (n:=w.heap.size+1) (by go_simp);have z1_2:=hx1.lt (n:=w.heap.size+1+1) (by go_simp))|(go_at_call 234;(with_reducible refine(even_any _ (.agg #[.slice aY mY cY]) y ?_ hy0).mono ?_);(refine hDY.ext ?_;exact eA);rintro e w2 ⟨rfl,hx2⟩;obtain⟨hc2,hf2⟩:=hx2.cells;(try simp only [qcD,qfD,qdZ]at hc2 hf2);have z2_0:=hx2.lt (n:=w.heap.size) (by go_simp);have z2_1:=hx2.lt (n:=w.heap.size+1) (by go_simp);have z2_2:=hx2.lt (n:=w.heap.size+1+1) (by go_simp)))
     go_meet;exact⟨k,x,y,rfl,hx0,hy0,.inr (by omega),Hxe.out,Hye.out,Hs.out.ext eA⟩
   ·have hevb:(x % 2==0)=false:=by simpa using hev
    go_wp2_with(first|(go_at_call 234;(with_reducible refine(even_any _ (.agg #[.slice aX mX cX]) x ?_ hx0).mono ?_);(refine hDX.ext ?_;exact eA);rintro e w1 ⟨rfl,hx1⟩;obtain⟨hc1,hf1⟩:=hx1.cells;(try simp only [qcD,qfD,qdZ]at hc1 hf1);have z1_0:=hx1.lt (n:=w.heap.size) (by go_simp);have z1_1:=hx1.lt (n:=w.heap.size+1) (by go_simp);have z1_2:=hx1.lt (n:=w.heap.size+1+1) (by go_simp)))
    go_meet;exact⟨k,x,y,rfl,hx0,hy0,.inl (by omega),Hxe.out,Hye.out,Hs.out.ext eA⟩
 case rest =>
  obtain⟨k,x0,y0,rfl,hx0,hy0,hod,hxe,hye,hs⟩:=hcut;have hg0:2 ^ k*(Int.gcd x0 y0:Int)=G:=by rw [←HG.out];exact(gcd_pow hxe hye).symm
  have hxM:=Int.le_trans (le_pow2 hx0 hxe) hM1;have hyM:=Int.le_trans (le_pow2 hy0 hye) hM2;have Hkb:=hd9 (lm_pow2 Hla.out hx0 hxe).1;clear hxe hye hM1 hM2 hDa hDb Hs0;go_wp2
  go_loopg [26] x0.toNat (CmC w G M k)
  case atStart=>exact⟨x0,y0,hx0,hy0,hod,hxM,hyM,hg0,rfl,hs⟩
  case round =>
   clear hs hg0 hxM hyM hod hx0 hy0;obtain⟨x,y,hx0,hy0,hod,hxM,hyM,hg,rfl,hs⟩:=hrel;obtain⟨aX,mX,cX,hcX,hfX,hDX⟩:=hs.rdX;obtain⟨aY,mY,cY,hcY,hfY,hDY⟩:=hs.rdY;obtain⟨hcR,hfR⟩:=hs.rdR;have zr_0:w.heap.size<wr.heap.size:=(by have:=hs.2.1;omega);have zr_1:w.heap.size+1<wr.heap.size:=(by have:=hs.2.1;omega);have zr_2:w.heap.size+1+1<wr.heap.size:=(by have:=hs.2.1;omega);have Hs:=hd9 hs;clear hs;have Hg:=hd9 hg;clear hg;have HLx:Hid (Lm lim x):=hd9 (hM.out.le (by omega) hxM)
   by_cases hev:x % 2=0
   ·have hevb:(x % 2==0)=true:=by simpa using hev
    go_wp2_with(first|(go_at_call 234;(with_reducible refine(even_any _ (.agg #[.slice aX mX cX]) x ?_ hx0).mono ?_);(refine hDX.ext ?_;exact eA);rintro e w1 ⟨rfl,hx1⟩;obtain⟨hc1,hf1⟩:=hx1.cells;(try simp only [qcD,qfD,qdZ]at hc1 hf1);have z1_0:=hx1.lt (n:=w.heap.size) (by go_simp);have z1_1:=hx1.lt (n:=w.heap.size+1) (by go_simp);have z1_2:=hx1.lt (n:=w.heap.size+1+1) (by go_simp))|((go_at_call 235;(with_reducible refine(half_any _ (.agg #[.slice aX mX cX]) x ?_ HLx.out).mono ?_);(refine hDX.ext ?_;exact eA);rintro e w2 ⟨r2,rfl,hr2,hx2⟩;obtain⟨aR2,mR2,cR2,rfl⟩:=hr2.isD.form;obtain⟨hc2,hf2⟩:=hx2.cells;(try simp only [qcD,qfD,qdZ]at hc2 hf2);have z2_0:=hx2.lt (n:=w.heap.size) (by go_simp);have z2_1:=hx2.lt (n:=w.heap.size+1) (by go_simp);have z2_2:=hx2.lt (n:=w.heap.size+1+1) (by go_simp))))
    go_roundg (x / 2).toNat
    case measure=>omega
    case rel=>exact⟨x / 2,y,by omega,hy0,.inr (by omega),by omega,hyM,by rw [gcd_half hev (by omega)];exact Hg.out,rfl,(Hs.out.ext eA).setX hr2.isD⟩
   ·have hevb:(x % 2==0)=false:=by simpa using hev
    have hxo:x % 2=1:=by omega
    go_wp2_with(first|(go_at_call 234;(with_reducible refine(even_any _ (.agg #[.slice aX mX cX]) x ?_ hx0).mono ?_);(refine hDX.ext ?_;exact eA);rintro e w1 ⟨rfl,hx1⟩;obtain⟨hc1,hf1⟩:=hx1.cells;(try simp only [qcD,qfD,qdZ]at hc1 hf1);have z1_0:=hx1.lt (n:=w.heap.size) (by go_simp);have z1_1:=hx1.lt (n:=w.heap.size+1) (by go_simp);have z1_2:=hx1.lt (n:=w.heap.size+1+1) (by go_simp)))
    go_loopg [30] (x+y).toNat (CmD w G M k)
    case atStart=>exact⟨x,y,hx0,by omega,hxo,hxM,hyM,Hg.out,rfl,Hs.out.ext eA⟩
    case round =>
     clear hx1 hc1 hf1 z1_0 z1_1 z1_2 hcX hfX hDX hcY hfY hDY hcR hfR zr_0 zr_1 zr_2 Hs Hg HLx hxM hyM hod hx0 hy0 hev hevb hxo;obtain⟨x,y,hx0,hy0,hxo,hxM,hyM,hg,rfl,hs⟩:=hrel;obtain⟨aX,mX,cX,hcX,hfX,hDX⟩:=hs.rdX;obtain⟨aY,mY,cY,hcY,hfY,hDY⟩:=hs.rdY;obtain⟨hcR,hfR⟩:=hs.rdR;have zr_0:w.heap.size<wr.heap.size:=(by have:=hs.2.1;omega);have zr_1:w.heap.size+1<wr.heap.size:=(by have:=hs.2.1;omega);have zr_2:w.heap.size+1+1<wr.heap.size:=(by have:=hs.2.1;omega);have Hs:=hd9 hs;clear hs;have Hg:=hd9 hg;clear hg;have HLx:Hid (Lm lim x):=hd9 (hM.out.le (by omega) hxM)
     by_cases hy1:y=0
     ·have hyb:(y==0)=true:=by simpa using hy1
      have HK:k≤10000000000:=by have:=Hkb.out;omega
      go_wp2_with(first|(go_at_call 182;(with_reducible refine(none_any _ (.agg #[.slice aY mY cY]) y ?_).mono ?_);(refine hDY.ext ?_;exact eA);rintro e w1 ⟨rfl,hx1⟩;obtain⟨hc1,hf1⟩:=hx1.cells;(try simp only [qcD,qfD,qdZ]at hc1 hf1);have z1_0:=hx1.lt (n:=w.heap.size) (by go_simp);have z1_1:=hx1.lt (n:=w.heap.size+1) (by go_simp);have z1_2:=hx1.lt (n:=w.heap.size+1+1) (by go_simp))|((go_at_call 238;(with_reducible refine(shifted_any _ (.agg #[.slice aX mX cX]) x k ?_ HLx.out HK).mono ?_);(refine hDX.ext ?_;exact eA);rintro e w2 ⟨r2,rfl,hr2,hx2⟩;obtain⟨aR2,mR2,cR2,rfl⟩:=hr2.isD.form;obtain⟨hc2,hf2⟩:=hx2.cells;(try simp only [qcD,qfD,qdZ]at hc2 hf2);have z2_0:=hx2.lt (n:=w.heap.size) (by go_simp);have z2_1:=hx2.lt (n:=w.heap.size+1) (by go_simp);have z2_2:=hx2.lt (n:=w.heap.size+1+1) (by go_simp))))
      obtain⟨o1,o2,o3⟩:=(Hs.out.ext (w:=w) (W':=w2) eA).out hr2.isD;refine bodyPost_ret (v:=.agg #[.slice aR2 mR2 cR2]) (by simp [results,Tryz.results223,go_sem,o3]) rfl ⟨_,rfl,?_,o2⟩;have e:2 ^ k*x=G:=by rw [←Hg.out,hy1];simp [Int.natAbs_of_nonneg (show 0≤x by omega)]
      rw [←e];exact o1
     ·have hyb:(y==0)=false:=by simpa using hy1
      go_wp2_with(first|(go_at_call 182;(with_reducible refine(none_any _ (.agg #[.slice aY mY cY]) y ?_).mono ?_);(refine hDY.ext ?_;exact eA);rintro e w1 ⟨rfl,hx1⟩;obtain⟨hc1,hf1⟩:=hx1.cells;(try simp only [qcD,qfD,qdZ]at hc1 hf1);have z1_0:=hx1.lt (n:=w.heap.size) (by go_simp);have z1_1:=hx1.lt (n:=w.heap.size+1) (by go_simp);have z1_2:=hx1.lt (n:=w.heap.size+1+1) (by go_simp)))
      go_loopg [33] y.toNat (CmE w G M k x y)
      case atStart=>exact⟨y,by omega,Int.le_refl _,Hg.out,rfl,Hs.out.ext eA⟩
      case round =>
       clear hx1 hc1 hf1 z1_0 z1_1 z1_2 hcX hfX hDX hcY hfY hDY hcR hfR zr_0 zr_1 zr_2 Hs Hg;obtain⟨y',hy0',hyy,hg,rfl,hs⟩:=hrel;obtain⟨aX,mX,cX,hcX,hfX,hDX⟩:=hs.rdX;obtain⟨aY,mY,cY,hcY,hfY,hDY⟩:=hs.rdY;obtain⟨hcR,hfR⟩:=hs.rdR;have zr_0:w.heap.size<wr.heap.size:=(by have:=hs.2.1;omega);have zr_1:w.heap.size+1<wr.heap.size:=(by have:=hs.2.1;omega);have zr_2:w.heap.size+1+1<wr.heap.size:=(by have:=hs.2.1;omega);have Hs:=hd9 hs;clear hs;have Hg:=hd9 hg;clear hg;have HLy:Hid (Lm lim y'):=hd9 (hM.out.le (by omega) (by omega))
       by_cases hev:y' % 2=0
       ·have hevb:(y' % 2==0)=true:=by simpa using hev
        go_wp2_with(first|(go_at_call 234;(with_reducible refine(even_any _ (.agg #[.slice aY mY cY]) y' ?_ hy0').mono ?_);(refine hDY.ext ?_;exact eA);rintro e w1 ⟨rfl,hx1⟩;obtain⟨hc1,hf1⟩:=hx1.cells;(try simp only [qcD,qfD,qdZ]at hc1 hf1);have z1_0:=hx1.lt (n:=w.heap.size) (by go_simp);have z1_1:=hx1.lt (n:=w.heap.size+1) (by go_simp);have z1_2:=hx1.lt (n:=w.heap.size+1+1) (by go_simp))|((go_at_call 235;(with_reducible refine(half_any _ (.agg #[.slice aY mY cY]) y' ?_ HLy.out).mono ?_);(refine hDY.ext ?_;exact eA);rintro e w2 ⟨r2,rfl,hr2,hx2⟩;obtain⟨aR2,mR2,cR2,rfl⟩:=hr2.isD.form;obtain⟨hc2,hf2⟩:=hx2.cells;(try simp only [qcD,qfD,qdZ]at hc2 hf2);have z2_0:=hx2.lt (n:=w.heap.size) (by go_simp);have z2_1:=hx2.lt (n:=w.heap.size+1) (by go_simp);have z2_2:=hx2.lt (n:=w.heap.size+1+1) (by go_simp))))
        go_roundg (y' / 2).toNat
        case measure=>omega
        case rel=>exact⟨y' / 2,by omega,by omega,by rw [gcd_halfR hev hxo];exact Hg.out,rfl,(Hs.out.ext eA).setY hr2.isD⟩
       ·have hevb:(y' % 2==0)=false:=by simpa using hev
        have hyo:y' % 2=1:=by omega
        go_upto_if 40 with (first|(go_at_call 234;(with_reducible refine(even_any _ (.agg #[.slice aY mY cY]) y' ?_ hy0').mono ?_);(refine hDY.ext ?_;exact eA);rintro e w1 ⟨rfl,hx1⟩;obtain⟨hc1,hf1⟩:=hx1.cells;(try simp only [qcD,qfD,qdZ]at hc1 hf1);have z1_0:=hx1.lt (n:=w.heap.size) (by go_simp);have z1_1:=hx1.lt (n:=w.heap.size+1) (by go_simp);have z1_2:=hx1.lt (n:=w.heap.size+1+1) (by go_simp))|((go_at_call 197;(with_reducible refine(size_any _ (.agg #[.slice aX mX cX]) (.agg #[.slice aY mY cY]) x y' ?_ ?_).mono ?_);(refine hDX.ext ?_;exact eA);(refine hDY.ext ?_;exact eA);rintro e w2 ⟨rfl,hx2⟩;obtain⟨hc2,hf2⟩:=hx2.cells;(try simp only [qcD,qfD,qdZ]at hc2 hf2);have z2_0:=hx2.lt (n:=w.heap.size) (by go_simp);have z2_1:=hx2.lt (n:=w.heap.size+1) (by go_simp);have z2_2:=hx2.lt (n:=w.heap.size+1+1) (by go_simp))))
        go_cut [41] (CmF w G M k x y)
        case first =>
         rcases Int.lt_or_le y' x with hcm|hcm
         ·have hcb:=cmp3_posT hcm
          have hcq:0<cmp3 x y':=of_decide_eq_true hcb;have Hcm:=hd9 hcm;clear hcm;go_wp2;go_meet;exact⟨y',x,hy0',by have:=Hcm.out;omega,hyo,hxM,by omega,by rw [Int.gcd_comm];exact Hg.out,(Hs.out.ext (W':=w2) eA).setXY (hDY.ext eA) (hDX.ext eA)⟩
         ·have hcb:=cmp3_posF hcm
          have hcq:cmp3 x y'≤0:=by have:=of_decide_eq_false hcb;omega
          have Hcm:=hd9 hcm;clear hcm;go_wp2;go_meet;exact⟨x,y',hx0,Hcm.out,hxo,by omega,by omega,Hg.out,Hs.out.ext (W':=w2) eA⟩
        case rest =>
         clear hx1 hc1 hf1 z1_0 z1_1 z1_2 hx2 hc2 hf2 z2_0 z2_1 z2_2 hcX hfX hDX hcY hfY hDY hcR hfR zr_0 zr_1 zr_2 Hs Hg;obtain⟨x',y',hx0',hxy',hxo',hyM',hlt',hg,hs⟩:=hcut;obtain⟨wr,rfl⟩:∃W,W=wc:=⟨_,rfl⟩;obtain⟨aX,mX,cX,hcX,hfX,hDX⟩:=hs.rdX;obtain⟨aY,mY,cY,hcY,hfY,hDY⟩:=hs.rdY;obtain⟨hcR,hfR⟩:=hs.rdR;have zr_0:w.heap.size<wr.heap.size:=(by have:=hs.2.1;omega);have zr_1:w.heap.size+1<wr.heap.size:=(by have:=hs.2.1;omega);have zr_2:w.heap.size+1+1<wr.heap.size:=(by have:=hs.2.1;omega);have Hs:=hd9 hs;clear hs;have HLx':Hid (Lm lim x'):=hd9 (hM.out.le (by omega) (by omega));have HLy':Hid (Lm lim y'):=hd9 (hM.out.le (by omega) (by omega));have hg':2 ^ k*(Int.gcd x' (y' + -1*x'):Int)=G:=by rw [gcd_less (by omega) hxy'];exact hg
         have Hg:=hd9 hg';clear hg hg'
         by_cases hm1:mX≤2
         ·have hm1b:decide ((mX:Int)≤2)=true:=by simp;omega
          have hm1p:(mX:Int)≤2:=by omega
          go_wp2_with(first|((go_at_call 185;(with_reducible refine(plus_any _ (.agg #[.slice aY mY cY]) (.agg #[.slice aX mX cX]) y' x' (-1) ?_ ?_ HLy'.out HLx'.out (by omega) (by omega)).mono ?_);(refine hDY.ext ?_;exact eA);(refine hDX.ext ?_;exact eA);rintro e w1 ⟨r1,rfl,hr1,hx1⟩;obtain⟨a1,m1,c1,rfl⟩:=hr1.isD.form;obtain⟨hc1,hf1⟩:=hx1.cells;(try simp only [qcD,qfD,qdZ]at hc1 hf1);have z1_0:=hx1.lt (n:=w.heap.size) (by go_simp);have z1_1:=hx1.lt (n:=w.heap.size+1) (by go_simp);have z1_2:=hx1.lt (n:=w.heap.size+1+1) (by go_simp);rcases Nat.lt_or_ge 2 m1 with hm2|hm2)))
          ·go_roundg (x'+(y' + -1*x')).toNat
           case measure=>omega
           case rel=>exact⟨x',y' + -1*x',hx0',by omega,hxo',by omega,by omega,Hg.out,rfl,(Hs.out.ext eA).setY hr1.isD⟩
          ·have HK:k≤10000000000:=by have:=Hkb.out;omega
           obtain⟨z,hz⟩:∃z,y' + -1*x'=z:=⟨_,rfl⟩;rw [hz]at hr1 Hg;have hz0:0≤z:=by omega
           clear hz;have hS1:CmS w x' y' w1:=Hs.out.ext eA;have hS2:=hS1.setY (sl:=.slice a1 m1 c1) (hr1.isD);have hDX2:=(hDX.ext (w':=w1) eA).keep (hS1.keepY (.slice a1 m1 c1));have hDY2:=hr1.isD.keep (hS1.keepY (.slice a1 m1 c1));have Hl2:=hd9 (hDX.lm hm1);have Hl3:=hd9 (hr1.isD.lm hm2);have hb2:=lm2 (hDX.lm hm1);have hb3:=lm2 (hr1.isD.lm hm2);have hgl:=gcd_le1 (y:=z) hx0';have hg0:0≤(Int.gcd x' (z):Int):=Int.natCast_nonneg _;have HLg:Hid (Lm lim (Int.gcd x' (z):Int)):=hd9 (HLx'.out.le hg0 hgl);have HS2:=hd9 hS2;clear hS2 hS1
           go_region_held3 (fun W=>W.cell? ⟨w.heap.size,0,none⟩=some (.slice aX mX cX)∧W.cell? ⟨w.heap.size+1,0,none⟩=some (.slice a1 m1 c1)) ((repeat' (with_reducible refine And.intro ?_ ?_))<;>(first|(go_simp;done)|(refine hx1.cellS ?_;go_simp;done))) (first|((go_at_call 237;(with_reducible refine(wordm_any _ (.agg #[.slice aX mX cX]) x' ?_ Hl2.out).mono ?_);(refine hDX2.ext ?_;exact eA);rintro e w3 ⟨rfl,hx3⟩;obtain⟨hc3,hf3⟩:=hx3.cells;(try simp only [qcD,qfD,qdZ]at hc3 hf3);have z3_0:=hx3.lt (n:=w.heap.size) (by go_simp);have z3_1:=hx3.lt (n:=w.heap.size+1) (by go_simp);have z3_2:=hx3.lt (n:=w.heap.size+1+1) (by go_simp)))|((go_at_call 237;(with_reducible refine(wordm_any _ (.agg #[.slice a1 m1 c1]) (z) ?_ Hl3.out).mono ?_);(refine hDY2.ext ?_;exact eA);rintro e w4 ⟨rfl,hx4⟩;obtain⟨hc4,hf4⟩:=hx4.cells;(try simp only [qcD,qfD,qdZ]at hc4 hf4);have z4_0:=hx4.lt (n:=w.heap.size) (by go_simp);have z4_1:=hx4.lt (n:=w.heap.size+1) (by go_simp);have z4_2:=hx4.lt (n:=w.heap.size+1+1) (by go_simp)))|((go_at_call 236;(with_reducible refine(divisor_int _ x' (z) ⟨by omega,by omega⟩ ⟨by omega,by omega⟩).mono ?_);rintro e w5 ⟨rfl,hx5⟩;obtain⟨hc5,hf5⟩:=hx5.cells;(try simp only [qcD,qfD,qdZ]at hc5 hf5);have z5_0:=hx5.lt (n:=w.heap.size) (by go_simp);have z5_1:=hx5.lt (n:=w.heap.size+1) (by go_simp);have z5_2:=hx5.lt (n:=w.heap.size+1+1) (by go_simp)))|((go_at_call 186;(with_reducible refine(word_any _ (Int.gcd x' (z):Nat) hg0 (by omega)).mono ?_);rintro e w6 ⟨r6,rfl,hr6,hx6⟩;obtain⟨a6,m6,c6,rfl⟩:=hr6.isD.form;obtain⟨hc6,hf6⟩:=hx6.cells;(try simp only [qcD,qfD,qdZ]at hc6 hf6);have z6_0:=hx6.lt (n:=w.heap.size) (by go_simp);have z6_1:=hx6.lt (n:=w.heap.size+1) (by go_simp);have z6_2:=hx6.lt (n:=w.heap.size+1+1) (by go_simp)))|((go_at_call 238;(with_reducible refine(shifted_any _ (.agg #[.slice a6 m6 c6]) (Int.gcd x' (z):Nat) k ?_ HLg.out HK).mono ?_);(refine hr6.isD.ext ?_;exact eA);rintro e w7 ⟨r7,rfl,hr7,hx7⟩;obtain⟨a7,m7,c7,rfl⟩:=hr7.isD.form;obtain⟨hc7,hf7⟩:=hx7.cells;(try simp only [qcD,qfD,qdZ]at hc7 hf7);have z7_0:=hx7.lt (n:=w.heap.size) (by go_simp);have z7_1:=hx7.lt (n:=w.heap.size+1) (by go_simp);have z7_2:=hx7.lt (n:=w.heap.size+1+1) (by go_simp))))
           all_goals go_wp2
           obtain⟨o1,o2,o3⟩:=(HS2.out.ext (W':=w7) eA).out hr7.isD;refine bodyPost_ret (v:=.agg #[.slice a7 m7 c7]) (by simp [results,Tryz.results223,go_sem,o3]) rfl ⟨_,rfl,?_,o2⟩;rw [Hg.out]at o1;exact o1
         ·have hm1b:decide ((mX:Int)≤2)=false:=by simp;omega
          have hm1p:2<(mX:Int):=by omega
          go_wp2_with(first|((go_at_call 185;(with_reducible refine(plus_any _ (.agg #[.slice aY mY cY]) (.agg #[.slice aX mX cX]) y' x' (-1) ?_ ?_ HLy'.out HLx'.out (by omega) (by omega)).mono ?_);(refine hDY.ext ?_;exact eA);(refine hDX.ext ?_;exact eA);rintro e w1 ⟨r1,rfl,hr1,hx1⟩;obtain⟨a1,m1,c1,rfl⟩:=hr1.isD.form;obtain⟨hc1,hf1⟩:=hx1.cells;(try simp only [qcD,qfD,qdZ]at hc1 hf1);have z1_0:=hx1.lt (n:=w.heap.size) (by go_simp);have z1_1:=hx1.lt (n:=w.heap.size+1) (by go_simp);have z1_2:=hx1.lt (n:=w.heap.size+1+1) (by go_simp))))
          go_roundg (x'+(y' + -1*x')).toNat
          case measure=>omega
          case rel=>exact⟨x',y' + -1*x',hx0',by omega,hxo',by omega,by omega,Hg.out,rfl,(Hs.out.ext eA).setY hr1.isD⟩
end Go.Proofs.YteipgejmhfpkaaaGreatDoor.Cop
