/- Part 7. -/
import Derived.Test.YtjnjpagegkcgfaaGreatDoorCosA05
import Derived.Deep.LoopGhost
import Derived.Deep.CutBlock
import Derived.Deep.DeepCutAuto
set_option maxRecDepth 1000000
set_option maxHeartbeats 16000000
set_option linter.unusedSimpArgs false
set_option linter.unusedVariables false
open Go.Value renaming slice->O,bool->Y,agg->X,int->E
open Go renaming World->Z,Value->I
open Option renaming none->V,some->N
open Go.Obj renaming cells->J
namespace Go.Proofs.YtjnjpagegkcgfaaGreatDoor.Cop
section
open Go.RowKit Go.Shelf
attribute [local go_sem] Oper.semAt_some
def CmS(w:Z)(x y:Int)(W:Z):Prop:=
 Ext w W/\w.heap.size+1+1+1<=W.heap.size/\(∃sl,W.heap[w.heap.size]?=N (J #[sl] 59 (0,0))/\IsD W (X #[sl]) x) /\
 (∃sl,W.heap[w.heap.size+1]?=N (J #[sl] 59 (0,0))/\IsD W (X #[sl]) y)/\W.heap[w.heap.size+1+1]?=N (J #[O V 0 0] 59 (0,0))
theorem CmS.ext{w:Z}{x y:Int}{W W':Z}(h:CmS w x y W)(k:Ext W W'):CmS w x y W':=by
 obtain⟨b,l,⟨i,d,e⟩,⟨j,f,h6⟩,g⟩:=h;have:=k.size;exact⟨b.trans k,by omega,⟨i,k.heapS d,e.ext k⟩,⟨j,k.heapS f,h6.ext k⟩,k.heapS g⟩
theorem CmS.setX{w:Z}{x y f:Int}{W:Z}{sl:I}(h:CmS w x y W)(n:IsD W (X #[sl]) f):CmS w f y (W.setCell ⟨w.heap.size,0,V⟩ sl):=by
 obtain⟨g,i,⟨r,d,p⟩,⟨o,j,h6⟩,l⟩:=h;have b:∀k,k≠w.heap.size->(W.setCell ⟨w.heap.size,0,V⟩ sl).heap[k]?=W.heap[k]?:=fun k b=>bS _ _ _ _ b
 have e:KeepT 2 W (W.setCell ⟨w.heap.size,0,V⟩ sl):=(KeepT.refl _ W).set d dM _;exact⟨g.set (nE _) _,by rw[qcZ];exact i,⟨sl,one_setCell d,n.keep e⟩,⟨o,(b _ oM).trans j,h6.keep e⟩,(b _ oM).trans l⟩
theorem CmS.setY{w:Z}{x y f:Int}{W:Z}{sl:I}(h:CmS w x y W)(o:IsD W (X #[sl]) f):CmS w x f (W.setCell ⟨w.heap.size+1,0,V⟩ sl):=by
 obtain⟨g,i,⟨p,j,l⟩,⟨r,d,h6⟩,n⟩:=h;have b:∀k,k≠w.heap.size+1->(W.setCell ⟨w.heap.size+1,0,V⟩ sl).heap[k]?=W.heap[k]?:=fun k b=>bS _ _ _ _ b
 have e:KeepT 2 W (W.setCell ⟨w.heap.size+1,0,V⟩ sl):=(KeepT.refl _ W).set d dM _;exact⟨g.set dO _,by rw[qcZ];exact i,⟨p,(b _ oM).trans j,l.keep e⟩,⟨sl,one_setCell d,o.keep e⟩,(b _ oM).trans n⟩
theorem CmS.keepX{w:Z}{x y:Int}{W:Z}(h:CmS w x y W)(u:I):KeepT 2 W (W.setCell ⟨w.heap.size,0,V⟩ u):=by
 obtain⟨d,e,⟨g,b,f⟩,_⟩:=h;exact(KeepT.refl _ W).set b dM _
theorem CmS.keepY{w:Z}{x y:Int}{W:Z}(h:CmS w x y W)(u:I):KeepT 2 W (W.setCell ⟨w.heap.size+1,0,V⟩ u):=by
 obtain⟨d,e,⟨j,f,g⟩,⟨k,b,h6⟩,i⟩:=h;exact(KeepT.refl _ W).set b dM _
theorem CmS.setXY{w:Z}{x y g i:Int}{W:Z}{e f:I}(h:CmS w x y W)(b:IsD W (X #[e]) g)(d:IsD W (X #[f]) i) :
  CmS w g i ((W.setCell ⟨w.heap.size,0,V⟩ e).setCell ⟨w.heap.size+1,0,V⟩ f):=(h.setX b).setY (d.keep (h.keepX _))
theorem zdj{k:Nat}{x n:Int}(h:2 ^ k*x=n)(b:x % 2=0):2 ^ (k+1)*(x / 2)=n:=by
 rw[Int.pow_succ,Int.mul_assoc,show 2*(x / 2)=x by omega];exact h
theorem CmS.rdX{w:Z}{x y:Int}{W:Z}(h:CmS w x y W):∃a m c,W.cell? ⟨w.heap.size,0,V⟩=N (O a m c)/\W.frozen? ⟨w.heap.size,0,V⟩=false/\IsD W (X #[O a m c]) x:=by
 obtain⟨f,g,⟨k,b,d⟩,⟨l,i,h6⟩,j⟩:=h;obtain⟨a,m,c,e⟩:=d.form
 cases e
 exact⟨a,m,c,cell_of_one b,free_of_one b,d⟩
theorem CmS.rdY{w:Z}{x y:Int}{W:Z}(h:CmS w x y W):∃a m c,W.cell? ⟨w.heap.size+1,0,V⟩=N (O a m c)/\W.frozen? ⟨w.heap.size+1,0,V⟩=false/\IsD W (X #[O a m c]) y:=by
 obtain⟨d,f,⟨k,g,i⟩,⟨l,b,h6⟩,j⟩:=h;obtain⟨a,m,c,e⟩:=h6.form
 cases e
 exact⟨a,m,c,cell_of_one b,free_of_one b,h6⟩
theorem CmS.rdR{w:Z}{x y:Int}{W:Z}(h:CmS w x y W):W.cell? ⟨w.heap.size+1+1,0,V⟩=N (O V 0 0)/\W.frozen? ⟨w.heap.size+1+1,0,V⟩=false:=⟨cell_of_one h.2.2.2.2,free_of_one h.2.2.2.2⟩
theorem CmS.out{w:Z}{x y g:Int}{W:Z}{sl:I}(h:CmS w x y W)(d:IsD W (X #[sl]) g) :
  IsD (W.setCell ⟨w.heap.size+1+1,0,V⟩ sl) (X #[sl]) g/\Ext w (W.setCell ⟨w.heap.size+1+1,0,V⟩ sl)/\(W.setCell ⟨w.heap.size+1+1,0,V⟩ sl).cell? ⟨w.heap.size+1+1,0,V⟩=N sl:=by
 have b:=h.2.2.2.2;exact⟨d.keep ((KeepT.refl _ W).set b dM _),h.1.set dO _,cell_of_one (one_setCell b)⟩
theorem zgV{x y:Int}(h:x % 2=0)(d:y % 2=1):Int.gcd (x / 2) y=Int.gcd x y:=by
 have b:Nat.Coprime 2 y.natAbs:=by
  unfold Nat.Coprime;rw[Nat.gcd_rec,show y.natAbs % 2=1 by omega];rfl
 have e:x.natAbs=2*(x / 2).natAbs:=oM
 unfold Int.gcd;rw[e];exact(Nat.Coprime.gcd_mul_left_cancel _ b).symm
theorem zld{x y:Int}(b:0<=x)(h:x<=y):Int.gcd x (y + -1*x)=Int.gcd x y:=by
 unfold Int.gcd;rw[show (y + -1*x).natAbs=y.natAbs-x.natAbs by omega];exact Nat.gcd_sub_self_right oM
theorem zm4{x y a b:Int}{k:Nat}(d:2 ^ k*x=a)(e:2 ^ k*y=b):(Int.gcd a b:Int)=2 ^ k*(Int.gcd x y:Int):=by
 rw[<-d,<-e,Int.gcd_mul_left];simp[Int.natAbs_pow]
theorem znq{k n:Nat}(h:(2:Int) ^ k<B ^ n):k<24*n:=by
 apply Classical.byContradiction
 intro d;have e:B=(2:Int) ^ 24:=dM
 rw[e,<-Int.pow_mul]at h;have:=zaD (b:=(2:Int)) dM (show 24*n<=k by omega);omega
theorem zjB{k:Nat}{x n:Int}(h:Lm lim n)(i:0<x)(g:2 ^ k*x=n):k<2400000000/\(k:Int)<n:=by
 have e:(2:Int) ^ k*1<=2 ^ k*x:=Int.mul_le_mul_of_nonneg_left oM (Int.pow_nonneg dM);have b:(2:Int) ^ k<B ^ lim:=by unfold Lm at h;omega
 have d:=znq b;have f:(k:Int)<2 ^ k:=by exact_mod_cast Nat.lt_two_pow_self (n:=k)
 unfold lim at d;omega
theorem zeT{k:Nat}{x n:Int}(f:0<x)(h:2 ^ k*x=n):x<=n:=by
 have d:(1:Int)<=2 ^ k:=by have:=zap (b:=(2:Int)) dM k;omega
 have e:1*x<=2 ^ k*x:=Int.mul_le_mul_of_nonneg_right d oM;omega
theorem zi3{x y:Int}(h:y % 2=0)(b:x % 2=1):Int.gcd x (y / 2)=Int.gcd x y:=by
 rw[Int.gcd_comm,zgV h b,Int.gcd_comm]
theorem IsD.lm{w:Z}{a:Option Addr}{m c:Nat}{n:Int}(h:IsD w (X #[O a m c]) n){k:Nat}(i:m<=k):Lm k n:=by
 obtain⟨e,f,g,b,d⟩:=h.open;rw[<-d];exact Lm.dig b.1 oM
theorem zgc(w:Z)(x y:Int)(d:0<=x/\x<18446744073709551616)(f:0<=y/\y<18446744073709551616) :
  Calls Tryz.prog 288 #[E .u64 x,E .u64 y] w fun e w'=>e = .returned (E .u64 (Int.gcd x y:Nat))/\Ext w w':=by
 obtain⟨a,rfl⟩:=Int.eq_ofNat_of_zero_le d.1;obtain⟨b,rfl⟩:=Int.eq_ofNat_of_zero_le f.1;exact zgb w a b oM oM
theorem lm2{x:Int}(h:Lm 2 x):x<281474976710656:=by
 have:B ^ 2=281474976710656:=dM
 unfold Lm at h;omega
theorem zm3{x y:Int}(h:0<x):(Int.gcd x y:Int)<=x:=Int.le_of_dvd h (Int.gcd_dvd_left ..)
def CmA(w:Z)(b nb:Int)(g:Nat)(t5:I)(wr:Z):Prop:=
 ∃(k:Nat)(x y:Int),t5=E .i64 k/\g=b.toNat-k/\0<x/\0<y/\2 ^ k*x=b/\2 ^ k*y=nb/\CmS w x y wr
def CmB(w:Z)(b nb:Int)(t5:I)(wr:Z):Prop:=
 ∃(k:Nat)(x y:Int),t5=E .i64 k/\0<x/\0<y/\(x % 2=1\/y % 2=1)/\2 ^ k*x=b/\2 ^ k*y=nb/\CmS w x y wr
def CmC(w:Z)(G M:Int)(k:Nat)(g:Nat)(_:I)(wr:Z):Prop:=
 ∃(x y:Int),0<x/\0<y/\(x % 2=1\/y % 2=1)/\x<=M/\y<=M/\2 ^ k*(Int.gcd x y:Int)=G/\g=x.toNat/\CmS w x y wr
def CmD(w:Z)(G M:Int)(k:Nat)(g:Nat)(_:I)(wr:Z):Prop:=
 ∃(x y:Int),0<x/\0<=y/\x % 2=1/\x<=M/\y<=M/\2 ^ k*(Int.gcd x y:Int)=G/\g=(x+y).toNat/\CmS w x y wr
def CmE(w:Z)(G M:Int)(k:Nat)(x y:Int)(g:Nat)(_:I)(wr:Z):Prop:=
 ∃(b:Int),0<b/\b<=y/\2 ^ k*(Int.gcd x b:Int)=G/\g=b.toNat/\CmS w x b wr
def CmF(w:Z)(G M:Int)(k:Nat)(x y:Int)(_:I)(wr:Z):Prop:=
 ∃(b d:Int),0<b/\b<=d/\b % 2=1/\d<=M/\d<x+y/\2 ^ k*(Int.gcd b d:Int)=G/\CmS w b d wr
theorem ziG{a b:Int}(h:b<a):decide (0<cmp3 a b)=true:=by simp only[cmp3];grind
theorem ziF{a b:Int}(h:a<=b):decide (0<cmp3 a b)=false:=by simp only[cmp3];grind
theorem zhN(w:Z)(va vb:I)(na nb:Int)(ha:IsD w va na)(hb:IsD w vb nb)(bh:Lm lim na)(bi:Lm lim nb) :
  Calls Tryz.prog 265 #[va,vb] w fun e w'=>∃r,e = .returned r/\IsD w' r (Int.gcd na nb:Nat)/\Ext w w':=by
 obtain⟨a,m,c,rfl⟩:=ha.form;obtain⟨a',m',c',rfl⟩:=hb.form;have h0:=ha.nonneg;have bB:=hb.nonneg;have aD:=hd9 bh;have a9:=hd9 bi;clear bh bi
 have aK:CmS w na nb (((w.alloc (J #[O a m c] 59)).alloc (J #[O a' m' c'] 59)).alloc (J #[O V 0 0] 59)):=by
  refine⟨eA,by simp,⟨_,?_,ha.ext eA⟩,⟨_,?_,hb.ext eA⟩,?_⟩
  ·rw[zaf,zaf,zaf];simp only[wZ];rw[if_neg oM,if_neg oM,if_pos trivial]
  ·rw[zaf,zaf];simp only[wZ];rw[if_neg oM,if_pos trivial]
  ·rw[zaf];simp only[wZ];rw[if_pos trivial]
 have aE:=hd9 aK;have aH:=ha.ext aK.1;have bC:=hb.ext aK.1;clear aK
 by_cases hz:na=0
 ·have bp:(na==0)=true:=by simpa using hz
  go_enter Tryz.func265,Tryz.ntmps265
  go_wp2_with(go_at_call 166;(with_reducible refine(zaB _ _ _ aH).mono ?_);rintro e w1 ⟨rfl,b⟩;have ab:=aE.out.ext b;obtain⟨aY,mY,cY,P,Q,d⟩:=ab.rdY;obtain⟨ah,ai⟩:=ab.rdR)
  obtain⟨o1,o2,o3⟩:=ab.out d;refine bR (v:=X #[O aY mY cY]) (by simp[results,Tryz.results265,go_sem,o3]) rfl ⟨_,rfl,?_,o2⟩;rw[hz];simpa[Int.natAbs_of_nonneg bB] using o1
 have ch:(na==0)=false:=by simpa using hz
 by_cases a4:nb=0
 ·have bp:(nb==0)=true:=by simpa using a4
  go_enter Tryz.func265,Tryz.ntmps265
  go_wp2_with(first|(go_at_call 166;(with_reducible refine(zaB _ _ _ aH).mono ?_);rintro e w1 ⟨rfl,b⟩;have ab:=aE.out.ext b;obtain⟨aY,mY,cY,P,Q,d⟩:=ab.rdY)|(go_at_call 166;(with_reducible refine(zaB _ _ _ d).mono ?_);rintro e w2 ⟨rfl,o⟩;have av:=ab.ext o;obtain⟨aX,L,cX,al,am,f⟩:=av.rdX;obtain⟨ah,ai⟩:=av.rdR))
  obtain⟨o1,o2,o3⟩:=av.out f;refine bR (v:=X #[O aX L cX]) (by simp[results,Tryz.results265,go_sem,o3]) rfl ⟨_,rfl,?_,o2⟩;rw[a4];simpa[Int.natAbs_of_nonneg h0] using o1
 have bp:(nb==0)=false:=by simpa using a4
 obtain⟨G,hG⟩:∃G:Int,(Int.gcd na nb:Int)=G:=⟨_,rfl⟩
 obtain⟨M,bc,be,hM⟩:∃M:Int,na<=M/\nb<=M/\Hid (Lm lim M):=by
  rcases Int.le_total na nb with h|h
  ·exact⟨nb,h,Int.le_refl _,a9⟩
  ·exact⟨na,Int.le_refl _,h,aD⟩
 rw[hG];have HG:=hd9 hG;clear hG;go_enter Tryz.func265,Tryz.ntmps265
 go_upto_block 1 with (first|(go_at_call 166;(with_reducible refine(zaB _ _ _ aH).mono ?_);rintro e w1 ⟨rfl,b⟩;have ab:=aE.out.ext b;obtain⟨aY,mY,cY,P,Q,d⟩:=ab.rdY)|(go_at_call 166;(with_reducible refine(zaB _ _ _ d).mono ?_);rintro e w2 ⟨rfl,o⟩;have av:=ab.ext o))
 go_cut [5] (CmB w na nb)
 case first =>
  go_wp2
  go_loopg [5] na.toNat (CmA w na nb)
  case atStart=>exact⟨0,na,nb,rfl,rfl,by omega,by omega,by simp,by simp,av⟩
  case round =>
   clear av ab b o P Q d;obtain⟨k,x,y,rfl,rfl,n,D,ak,aq,g⟩:=hrel;obtain⟨aX,L,cX,al,am,f⟩:=g.rdX;obtain⟨aY,mY,cY,P,Q,d⟩:=g.rdY;obtain⟨ah,ai⟩:=g.rdR;have R:w.heap.size<wr.heap.size:=(by have:=g.2.1;omega);have T:w.heap.size+1<wr.heap.size:=(by have:=g.2.1;omega);have aa:w.heap.size+1+1<wr.heap.size:=(by have:=g.2.1;omega);have Hs:=hd9 g;clear g;have aF:=hd9 ak;have aG:=hd9 aq;have cd:=zjB aD.out n ak;have ce:IntKind.i64.wrap ((k:Int)+1)=(k:Int)+1:=iW _ oM;have au:Hid (Lm lim x):=hd9 (aD.out.le oM (zeT n ak));have aO:Hid (Lm lim y):=hd9 (a9.out.le oM (zeT D aq));clear ak aq
   by_cases t:x % 2=0
   ·have ad:(x % 2==0)=true:=by simpa using t
    by_cases ar:y % 2=0
    ·have aT:(y % 2==0)=true:=by simpa using ar
     go_wp2_with(first|(go_at_call 286;(with_reducible refine(za3 _ (X #[O aX L cX]) x ?_ n).mono ?_);(refine f.ext ?_;exact eA);rintro e w1 ⟨rfl,b⟩;obtain⟨⟨p,u⟩,i,j,l⟩:=cK3 w b)|(go_at_call 286;(with_reducible refine(za3 _ (X #[O aY mY cY]) y ?_ D).mono ?_);(refine d.ext ?_;exact eA);rintro e w2 ⟨rfl,o⟩;obtain⟨⟨aw,ax⟩,ae,af,ag⟩:=cK3 w o))
     go_region_with (first|((go_at_call 287;(with_reducible refine(zdh _ (X #[O aX L cX]) x ?_ au.out).mono ?_);(refine f.ext ?_;exact eA);rintro e w3 ⟨r3,rfl,aV,aZ⟩;obtain⟨b1,ci,b3,rfl⟩:=aV.isD.form;obtain⟨⟨bD,bG⟩,bq,br,bs⟩:=cK3 w aZ))|((go_at_call 287;(with_reducible refine(zdh _ (X #[O aY mY cY]) y ?_ aO.out).mono ?_);(refine d.ext ?_;exact eA);rintro e w4 ⟨r4,rfl,aW,a0⟩;obtain⟨b2,cj,b4,rfl⟩:=aW.isD.form;obtain⟨⟨bE,bH⟩,bt,bu,bv⟩:=cK3 w a0)))
     all_goals
      go_wp2
      go_roundg (na.toNat-(k+1))
      case measure=>omega
      case rel=>first|exact⟨k+1,x / 2,y / 2,zbn oM,rfl,by omega,by omega,zdj aF.out t,zdj aG.out ar,(Hs.out.ext eA).setXY (aV.isD.ext eA) aW.isD⟩|((repeat apply Exists.intro);exact⟨⟨k+1,x / 2,y / 2,zbn oM,rfl,by omega,by omega,zdj aF.out t,zdj aG.out ar,(Hs.out.ext eA).setXY (aV.isD.ext eA) aW.isD⟩,rfl⟩)
    ·have aT:(y % 2==0)=false:=by simpa using ar
     go_wp2_with(first|(go_at_call 286;(with_reducible refine(za3 _ (X #[O aX L cX]) x ?_ n).mono ?_);(refine f.ext ?_;exact eA);rintro e w1 ⟨rfl,b⟩;obtain⟨⟨p,u⟩,i,j,l⟩:=cK3 w b)|(go_at_call 286;(with_reducible refine(za3 _ (X #[O aY mY cY]) y ?_ D).mono ?_);(refine d.ext ?_;exact eA);rintro e w2 ⟨rfl,o⟩;obtain⟨⟨aw,ax⟩,ae,af,ag⟩:=cK3 w o))
     go_meet;exact⟨k,x,y,rfl,n,D,.inr oM,aF.out,aG.out,Hs.out.ext eA⟩
   ·have ad:(x % 2==0)=false:=by simpa using t
    go_wp2_with(first|(go_at_call 286;(with_reducible refine(za3 _ (X #[O aX L cX]) x ?_ n).mono ?_);(refine f.ext ?_;exact eA);rintro e w1 ⟨rfl,b⟩;obtain⟨⟨p,u⟩,i,j,l⟩:=cK3 w b))
    go_meet;exact⟨k,x,y,rfl,n,D,.inl oM,aF.out,aG.out,Hs.out.ext eA⟩
 case rest =>
  obtain⟨k,x0,y0,rfl,n,D,aJ,ak,aq,g⟩:=hcut;have az:2 ^ k*(Int.gcd x0 y0:Int)=G:=by rw[<-HG.out];exact(zm4 ak aq).symm
  have aj:=Int.le_trans (zeT n ak) bc;have ap:=Int.le_trans (zeT D aq) be;have a8:=hd9 (zjB aD.out n ak).1;clear ak aq bc be aH bC aE;go_wp2
  go_loopg [26] x0.toNat (CmC w G M k)
  case atStart=>exact⟨x0,y0,n,D,aJ,aj,ap,az,rfl,g⟩
  case round =>
   clear g az aj ap aJ n D;obtain⟨x,y,n,D,aJ,aj,ap,hg,rfl,g⟩:=hrel;obtain⟨aX,L,cX,al,am,f⟩:=g.rdX;obtain⟨aY,mY,cY,P,Q,d⟩:=g.rdY;obtain⟨ah,ai⟩:=g.rdR;have R:w.heap.size<wr.heap.size:=(by have:=g.2.1;omega);have T:w.heap.size+1<wr.heap.size:=(by have:=g.2.1;omega);have aa:w.heap.size+1+1<wr.heap.size:=(by have:=g.2.1;omega);have Hs:=hd9 g;clear g;have Hg:=hd9 hg;clear hg;have au:Hid (Lm lim x):=hd9 (hM.out.le oM aj)
   by_cases t:x % 2=0
   ·have ad:(x % 2==0)=true:=by simpa using t
    go_wp2_with(first|(go_at_call 286;(with_reducible refine(za3 _ (X #[O aX L cX]) x ?_ n).mono ?_);(refine f.ext ?_;exact eA);rintro e w1 ⟨rfl,b⟩;obtain⟨⟨p,u⟩,i,j,l⟩:=cK3 w b)|((go_at_call 287;(with_reducible refine(zdh _ (X #[O aX L cX]) x ?_ au.out).mono ?_);(refine f.ext ?_;exact eA);rintro e w2 ⟨r2,rfl,an,o⟩;obtain⟨aQ,a5,aR,rfl⟩:=an.isD.form;obtain⟨⟨aw,ax⟩,ae,af,ag⟩:=cK3 w o)))
    go_roundg (x / 2).toNat
    case measure=>omega
    case rel=>exact⟨x / 2,y,by omega,D,.inr oM,by omega,ap,by rw[zgV t oM];exact Hg.out,rfl,(Hs.out.ext eA).setX an.isD⟩
   ·have ad:(x % 2==0)=false:=by simpa using t
    have aB:x % 2=1:=oM
    go_wp2_with(first|(go_at_call 286;(with_reducible refine(za3 _ (X #[O aX L cX]) x ?_ n).mono ?_);(refine f.ext ?_;exact eA);rintro e w1 ⟨rfl,b⟩;obtain⟨⟨p,u⟩,i,j,l⟩:=cK3 w b))
    go_loopg [30] (x+y).toNat (CmD w G M k)
    case atStart=>exact⟨x,y,n,by omega,aB,aj,ap,Hg.out,rfl,Hs.out.ext eA⟩
    case round =>
     clear b p u i j l al am f P Q d ah ai R T aa Hs Hg au aj ap aJ n D t ad aB;obtain⟨x,y,n,D,aB,aj,ap,hg,rfl,g⟩:=hrel;obtain⟨aX,L,cX,al,am,f⟩:=g.rdX;obtain⟨aY,mY,cY,P,Q,d⟩:=g.rdY;obtain⟨ah,ai⟩:=g.rdR;have R:w.heap.size<wr.heap.size:=(by have:=g.2.1;omega);have T:w.heap.size+1<wr.heap.size:=(by have:=g.2.1;omega);have aa:w.heap.size+1+1<wr.heap.size:=(by have:=g.2.1;omega);have Hs:=hd9 g;clear g;have Hg:=hd9 hg;clear hg;have au:Hid (Lm lim x):=hd9 (hM.out.le oM aj)
     by_cases a3:y=0
     ·have bM:(y==0)=true:=by simpa using a3
      have HK:k<=10000000000:=by have:=a8.out;omega
      go_wp2_with(first|(go_at_call 166;(with_reducible refine(zaB _ (X #[O aY mY cY]) y ?_).mono ?_);(refine d.ext ?_;exact eA);rintro e w1 ⟨rfl,b⟩;obtain⟨⟨p,u⟩,i,j,l⟩:=cK3 w b)|((go_at_call 289;(with_reducible refine(zea _ (X #[O aX L cX]) x k ?_ au.out HK).mono ?_);(refine f.ext ?_;exact eA);rintro e w2 ⟨r2,rfl,an,o⟩;obtain⟨aQ,a5,aR,rfl⟩:=an.isD.form;obtain⟨⟨aw,ax⟩,ae,af,ag⟩:=cK3 w o)))
      obtain⟨o1,o2,o3⟩:=(Hs.out.ext (w:=w) (W':=w2) eA).out an.isD;refine bR (v:=X #[O aQ a5 aR]) (by simp[results,Tryz.results265,go_sem,o3]) rfl ⟨_,rfl,?_,o2⟩;have e:2 ^ k*x=G:=by rw[<-Hg.out,a3];simp[Int.natAbs_of_nonneg (show 0<=x by omega)]
      rw[<-e];exact o1
     ·have bM:(y==0)=false:=by simpa using a3
      go_wp2_with(first|(go_at_call 166;(with_reducible refine(zaB _ (X #[O aY mY cY]) y ?_).mono ?_);(refine d.ext ?_;exact eA);rintro e w1 ⟨rfl,b⟩;obtain⟨⟨p,u⟩,i,j,l⟩:=cK3 w b))
      go_loopg [33] y.toNat (CmE w G M k x y)
      case atStart=>exact⟨y,by omega,Int.le_refl _,Hg.out,rfl,Hs.out.ext eA⟩
      case round =>
       clear b p u i j l al am f P Q d ah ai R T aa Hs Hg;obtain⟨K,aC,cf,hg,rfl,g⟩:=hrel;obtain⟨aX,L,cX,al,am,f⟩:=g.rdX;obtain⟨aY,mY,cY,P,Q,d⟩:=g.rdY;obtain⟨ah,ai⟩:=g.rdR;have R:w.heap.size<wr.heap.size:=(by have:=g.2.1;omega);have T:w.heap.size+1<wr.heap.size:=(by have:=g.2.1;omega);have aa:w.heap.size+1+1<wr.heap.size:=(by have:=g.2.1;omega);have Hs:=hd9 g;clear g;have Hg:=hd9 hg;clear hg;have aO:Hid (Lm lim K):=hd9 (hM.out.le oM oM)
       by_cases t:K % 2=0
       ·have ad:(K % 2==0)=true:=by simpa using t
        go_wp2_with(first|(go_at_call 286;(with_reducible refine(za3 _ (X #[O aY mY cY]) K ?_ aC).mono ?_);(refine d.ext ?_;exact eA);rintro e w1 ⟨rfl,b⟩;obtain⟨⟨p,u⟩,i,j,l⟩:=cK3 w b)|((go_at_call 287;(with_reducible refine(zdh _ (X #[O aY mY cY]) K ?_ aO.out).mono ?_);(refine d.ext ?_;exact eA);rintro e w2 ⟨r2,rfl,an,o⟩;obtain⟨aQ,a5,aR,rfl⟩:=an.isD.form;obtain⟨⟨aw,ax⟩,ae,af,ag⟩:=cK3 w o)))
        go_roundg (K / 2).toNat
        case measure=>omega
        case rel=>exact⟨K / 2,by omega,by omega,by rw[zi3 t aB];exact Hg.out,rfl,(Hs.out.ext eA).setY an.isD⟩
       ·have ad:(K % 2==0)=false:=by simpa using t
        have bN:K % 2=1:=oM
        go_upto_if 40 with (first|(go_at_call 286;(with_reducible refine(za3 _ (X #[O aY mY cY]) K ?_ aC).mono ?_);(refine d.ext ?_;exact eA);rintro e w1 ⟨rfl,b⟩;obtain⟨⟨p,u⟩,i,j,l⟩:=cK3 w b)|((go_at_call 226;(with_reducible refine(zca _ (X #[O aX L cX]) (X #[O aY mY cY]) x K ?_ ?_).mono ?_);(refine f.ext ?_;exact eA);(refine d.ext ?_;exact eA);rintro e w2 ⟨rfl,o⟩;obtain⟨⟨aw,ax⟩,ae,af,ag⟩:=cK3 w o)))
        go_cut [41] (CmF w G M k x y)
        case first =>
         rcases Int.lt_or_le K x with ao|ao
         ·have aS:=ziG ao
          have bF:0<cmp3 x K:=of_decide_eq_true aS;have aP:=hd9 ao;clear ao;go_wp2;go_meet;exact⟨K,x,aC,by have:=aP.out;omega,bN,aj,by omega,by rw[Int.gcd_comm];exact Hg.out,(Hs.out.ext (W':=w2) eA).setXY (d.ext eA) (f.ext eA)⟩
         ·have aS:=ziF ao
          have bF:cmp3 x K<=0:=by have:=of_decide_eq_false aS;omega
          have aP:=hd9 ao;clear ao;go_wp2;go_meet;exact⟨x,K,n,aP.out,aB,by omega,by omega,Hg.out,Hs.out.ext (W':=w2) eA⟩
        case rest =>
         clear b p u i j l o aw ax ae af ag al am f P Q d ah ai R T aa Hs Hg;obtain⟨x',K,aA,bo,aM,bP,bO,hg,g⟩:=hcut;obtain⟨wr,rfl⟩:∃W,W=wc:=⟨_,rfl⟩;obtain⟨aX,L,cX,al,am,f⟩:=g.rdX;obtain⟨aY,mY,cY,P,Q,d⟩:=g.rdY;obtain⟨ah,ai⟩:=g.rdR;have R:w.heap.size<wr.heap.size:=(by have:=g.2.1;omega);have T:w.heap.size+1<wr.heap.size:=(by have:=g.2.1;omega);have aa:w.heap.size+1+1<wr.heap.size:=(by have:=g.2.1;omega);have Hs:=hd9 g;clear g;have ay:Hid (Lm lim x'):=hd9 (hM.out.le oM oM);have aL:Hid (Lm lim K):=hd9 (hM.out.le oM oM);have bg:2 ^ k*(Int.gcd x' (K + -1*x'):Int)=G:=by rw[zld oM bo];exact hg
         have Hg:=hd9 bg;clear hg bg
         by_cases bj:L<=2
         ·have bk:decide ((L:Int)<=2)=true:=by simp;omega
          have bl:(L:Int)<=2:=oM
          go_wp2_with(first|((go_at_call 187;(with_reducible refine(zcD _ (X #[O aY mY cY]) (X #[O aX L cX]) K x' (-1) ?_ ?_ aL.out ay.out oM oM).mono ?_);(refine d.ext ?_;exact eA);(refine f.ext ?_;exact eA);rintro e w1 ⟨r1,rfl,ac,b⟩;obtain⟨a1,m1,c1,rfl⟩:=ac.isD.form;obtain⟨⟨p,u⟩,i,j,l⟩:=cK3 w b;rcases Nat.lt_or_ge 2 m1 with aU|aU)))
          ·go_roundg (x'+(K + -1*x')).toNat
           case measure=>omega
           case rel=>exact⟨x',K + -1*x',aA,by omega,aM,by omega,by omega,Hg.out,rfl,(Hs.out.ext eA).setY ac.isD⟩
          ·have HK:k<=10000000000:=by have:=a8.out;omega
           obtain⟨z,hz⟩:=gX (K + -1*x');rw[hz]at ac Hg;have cg:0<=z:=oM
           clear hz;have aI:CmS w x' K w1:=Hs.out.ext eA;have bf:=aI.setY (sl:=O a1 m1 c1) (ac.isD);have ba:=(f.ext (w':=w1) eA).keep (aI.keepY (O a1 m1 c1));have bb:=ac.isD.keep (aI.keepY (O a1 m1 c1));have bz:=hd9 (f.lm bj);have bA:=hd9 (ac.isD.lm aU);have b5:=lm2 (f.lm bj);have b6:=lm2 (ac.isD.lm aU);have bI:=zm3 (y:=z) aA;have az:0<=(Int.gcd x' (z):Int):=Int.natCast_nonneg _;have bw:Hid (Lm lim (Int.gcd x' (z):Int)):=hd9 (ay.out.le az bI);have bx:=hd9 bf;clear bf aI
           go_region_held3 (fun W=>W.cell? ⟨w.heap.size,0,V⟩=N (O aX L cX)/\W.cell? ⟨w.heap.size+1,0,V⟩=N (O a1 m1 c1)) ((repeat' (with_reducible refine And.intro ?_ ?_))<;>(first|(go_simp;done)|(refine b.cellS ?_;go_simp;done))) (first|((go_at_call 138;(with_reducible refine(zcH _ (X #[O aX L cX]) x' ?_ bz.out).mono ?_);(refine ba.ext ?_;exact eA);rintro e w3 ⟨rfl,aZ⟩;obtain⟨⟨bD,bG⟩,bq,br,bs⟩:=cK3 w aZ))|((go_at_call 138;(with_reducible refine(zcH _ (X #[O a1 m1 c1]) (z) ?_ bA.out).mono ?_);(refine bb.ext ?_;exact eA);rintro e w4 ⟨rfl,a0⟩;obtain⟨⟨bE,bH⟩,bt,bu,bv⟩:=cK3 w a0))|((go_at_call 288;(with_reducible refine(zgc _ x' (z) ⟨by omega,by omega⟩ ⟨by omega,by omega⟩).mono ?_);rintro e w5 ⟨rfl,bJ⟩;obtain⟨⟨b7,ca⟩,bQ,bT,bU⟩:=cK3 w bJ))|((go_at_call 188;(with_reducible refine(zcd _ (Int.gcd x' (z):Nat) az oM).mono ?_);rintro e w6 ⟨r6,rfl,bm,bK⟩;obtain⟨a6,m6,c6,rfl⟩:=bm.isD.form;obtain⟨⟨b8,cb⟩,bV,bW,bX⟩:=cK3 w bK))|((go_at_call 289;(with_reducible refine(zea _ (X #[O a6 m6 c6]) (Int.gcd x' (z):Nat) k ?_ bw.out HK).mono ?_);(refine bm.isD.ext ?_;exact eA);rintro e w7 ⟨r7,rfl,bn,bL⟩;obtain⟨a7,m7,c7,rfl⟩:=bn.isD.form;obtain⟨⟨b9,cc⟩,bY,bZ,b0⟩:=cK3 w bL)))
           all_goals go_wp2
           obtain⟨o1,o2,o3⟩:=(bx.out.ext (W':=w7) eA).out bn.isD;refine bR (v:=X #[O a7 m7 c7]) (by simp[results,Tryz.results265,go_sem,o3]) rfl ⟨_,rfl,?_,o2⟩;rw[Hg.out]at o1;exact o1
         ·have bk:decide ((L:Int)<=2)=false:=by simp;omega
          have bl:2<(L:Int):=oM
          go_wp2_with(first|((go_at_call 187;(with_reducible refine(zcD _ (X #[O aY mY cY]) (X #[O aX L cX]) K x' (-1) ?_ ?_ aL.out ay.out oM oM).mono ?_);(refine d.ext ?_;exact eA);(refine f.ext ?_;exact eA);rintro e w1 ⟨r1,rfl,ac,b⟩;obtain⟨a1,m1,c1,rfl⟩:=ac.isD.form;obtain⟨⟨p,u⟩,i,j,l⟩:=cK3 w b)))
          go_roundg (x'+(K + -1*x')).toNat
          case measure=>omega
          case rel=>exact⟨x',K + -1*x',aA,by omega,aM,by omega,by omega,Hg.out,rfl,(Hs.out.ext eA).setY ac.isD⟩
end
section
open Go.RowKit Go.Shelf
theorem zl0(w:Z)(K L:I)(x y:Int)(n:IsZ w K x)(o:IsZ w L y)(b:Lm lim x)(d:Lm lim y) :
  Calls Tryz.prog 225 #[K,L] w (RetZ w (Int.gcd x y:Nat)):=by
 obtain⟨a,m,c,s,rfl⟩:=n.form;obtain⟨W,m',c',s',rfl⟩:=o.form;have t:=n.dig;have u:=o.dig;have k:=hd9 b.abs;have l:=hd9 d.abs;clear b d n o;have e:(Int.gcd x y:Int)=(Int.gcd (x.natAbs:Int) (y.natAbs:Int):Nat):=by simp[Int.gcd]
 rw[e];clear e;go_enter Tryz.func225,Tryz.ntmps225
 go_wp2_with(first|((go_at_call 265;(with_reducible refine(zhN _ (X #[O a m c]) (X #[O W m' c']) x.natAbs y.natAbs ?_ ?_ k.out l.out).mono ?_);(refine t.ext ?_;exact eA);(refine u.ext ?_;exact eA);rintro e w1 ⟨r1,rfl,f,z⟩;obtain⟨a1,m1,c1,rfl⟩:=f.form;obtain⟨⟨p,aa⟩,P,Q,i⟩:=cK3 w z))|((go_at_call 183;(with_reducible refine(zcA _ false (X #[O a1 m1 c1]) (Int.gcd (x.natAbs:Int) (y.natAbs:Int):Nat) ?_).mono ?_);(refine f.ext ?_;exact eA);rintro e w2 ⟨r2,rfl,g,D⟩;obtain⟨a2,m2,c2,s2,rfl⟩:=g.form;obtain⟨⟨r,ab⟩,R,T,j⟩:=cK3 w D)))
 exact bR (v:=X #[O a2 m2 c2,Y s2]) (by simp[results,Tryz.results225,go_sem,p,r,i,j]) rfl ⟨_,rfl,g.keep kA,eA⟩
def QtS(w:Z)(d:I)(b:Bool)(q r:Int)(W:Z):Prop:=
 Ext w W/\W.heap[w.heap.size+1]?=N (J #[d,Y b] 61 (0,0)) /\
 ∃aq mq cq sq ar mr cr sr,W.heap[w.heap.size+1+1]?=N (J #[O aq mq cq,Y sq] 61 (0,0))/\IsZ W (X #[O aq mq cq,Y sq]) q /\
  W.heap[w.heap.size+1+1+1]?=N (J #[O ar mr cr,Y sr] 61 (0,0))/\IsZ W (X #[O ar mr cr,Y sr]) r
def QtR(w:Z)(d:I)(b:Bool)(x y:Int)(_:I)(W:Z):Prop:=∃q,QtS w d b q (x % y) W/\(if b then -q else q)=x / y
theorem znr{x y:Int}(s t:Bool)(i:s=decide (x<0))(n:t=decide (y<0))(o:y≠0)(h:s=false\/(x.natAbs:Int) % (y.natAbs:Int)=0) :
  (if t then -(sg s ((x.natAbs:Int) / (y.natAbs:Int)))else sg s ((x.natAbs:Int) / (y.natAbs:Int)))=x / y/\(x.natAbs:Int) % (y.natAbs:Int)=x % y:=by
 have l:x % y=x % (y.natAbs:Int):=by
  rcases Int.natAbs_eq y with h|h
  ·rw[<-h]
  ·conv=>lhs;rw[h,Int.emod_neg]
 have d:s=false->(x.natAbs:Int)=x:=fun h=>by subst i;simp at h;omega
 have b:s=true->(x.natAbs:Int) = -x:=fun h=>by subst i;simp at h;omega
 have k:x / y=if t then -(x / (y.natAbs:Int))else x / (y.natAbs:Int):=by
  subst n
  by_cases h:y<0
  ·simp only[h,decide_true,if_true]
   rw[show (y.natAbs:Int) = -y by omega,Int.ediv_neg,Int.neg_neg]
  ·simp only[h,decide_false,Bool.false_eq_true,if_false]
   rw[show (y.natAbs:Int)=y by omega]
 have e:(y.natAbs:Int)≠0:=oM
 rw[k,l]
 cases s
 ·rw[d rfl];simp[sg]
 ·rw[b rfl]at h ⊢
  have f:(-x) % (y.natAbs:Int)=0:=by rcases h with h|h;cases h;exact h
  have g:x % (y.natAbs:Int)=0:=by
   have:=Int.dvd_of_emod_eq_zero f;exact Int.emod_eq_zero_of_dvd (by simpa using Int.dvd_neg.2 this)
  refine⟨?_,by rw[f,g]⟩
  have j:(-x) / (y.natAbs:Int) = -(x / (y.natAbs:Int)):=by
   apply Int.ediv_eq_of_eq_mul_left e
   rw[Int.neg_mul,Int.ediv_mul_cancel (Int.dvd_of_emod_eq_zero g)]
  simp[sg,j]
def RetQ(w:Z)(q r:Int)(e:Ending)(w':Z):Prop:=∃vq vr,e = .returned (.tuple #[vq,vr,E .i64 0])/\IsZ w' vq q/\IsZ w' vr r/\Ext w w'
theorem QtS.ext{w:Z}{d:I}{b:Bool}{q r:Int}{W W':Z}(h:QtS w d b q r W)(k:Ext W W'):QtS w d b q r W':=by
 obtain⟨j,l,e,t,g,x,f,u,i,y,n,o,p,h6⟩:=h;exact⟨j.trans k,k.heapS l,e,t,g,x,f,u,i,y,k.heapS n,o.ext k,k.heapS p,h6.ext k⟩
theorem zaj{W:Z}{g:Nat}{x y:I}{T:TypeId}{b:Nat×Nat}(h:W.heap[g]?=N (J #[x,y] T b))(u v:I) :
  ((W.setCell ⟨g,0,V⟩ u).setCell ⟨g,1,V⟩ v).heap[g]?=N (J #[u,v] T b):=by
 simp[World.setCell,Array.getElem?_modify,h]
theorem zay{W:Z}{g i:Nat}{v:I}(h:W.cell? ⟨g,i,V⟩=N v):W.setCell ⟨g,i,V⟩ v=W:=by
 have e:(W.setCell ⟨g,i,V⟩ v).heap=W.heap:=by
  apply Array.ext_getElem?
  intro k
  by_cases d:k=g
  ·subst d
   simp only[World.setCell,Array.getElem?_modify,if_pos];unfold World.cell? at h
   cases hw:W.heap[k]? with
   | none=>rfl
   | some o =>
    cases o with
    | cells b T l =>
     simp[hw]at h
     have:b.setIfInBounds i v=b:=by
      apply Array.ext_getElem?
      intro j;rw[Array.getElem?_setIfInBounds]
      split
      ·subst_vars
       split
       ·exact h.symm
       ·rename_i h2;rw[Array.getElem?_eq_none oM]
      ·rfl
     simp[this]
    | _=>simp
  ·exact bS _ _ _ _ d
 have f:W.setCell ⟨g,i,V⟩ v={ W with heap:=(W.setCell ⟨g,i,V⟩ v).heap }:=rfl;rw[f,e]
theorem qcB{W:Z}{g:Nat}{cs:Array I}{T:TypeId}{b:Nat×Nat}(h:W.heap[g]?=N (J cs T b)){i:Nat}{u:I}(d:cs[i]?=N u):W.cell? ⟨g,i,V⟩=N u:=by
 simp[World.cell?,h,d]
theorem qfB{W:Z}{g:Nat}{cs:Array I}{T:TypeId}(h:W.heap[g]?=N (J cs T (0,0)))(i:Nat):W.frozen? ⟨g,i,V⟩=false:=by
 simp[World.frozen?,h]
theorem QtS.setQ{w:Z}{d:I}{l:Bool}{q j r:Int}{W:Z}(h:QtS w d l q r W){a:Option Addr}{m c:Nat}{s:Bool}(x:IsZ W (X #[O a m c,Y s]) j) :
  QtS w d l j r ((W.setCell ⟨w.heap.size+1+1,0,V⟩ (O a m c)).setCell ⟨w.heap.size+1+1,1,V⟩ (Y s)):=by
 obtain⟨p,t,D,R,K,T,n,y,o,z,f,Q,u,h6⟩:=h;have b:∀k,k≠w.heap.size+1+1->((W.setCell ⟨w.heap.size+1+1,0,V⟩ (O a m c)).setCell ⟨w.heap.size+1+1,1,V⟩ (Y s)).heap[k]?=W.heap[k]?:=fun k b=>by rw[bS _ _ _ _ b,bS _ _ _ _ b]
 have i:NoT 2 W (w.heap.size+1+1):=fun L P e=>by rw[f]at e;cases e
 have g:KeepT 2 W ((W.setCell ⟨w.heap.size+1+1,0,V⟩ (O a m c)).setCell ⟨w.heap.size+1+1,1,V⟩ (Y s)):=((KeepT.refl _ W).setN i _).setN (i.set _ _) _;exact⟨(p.set dO _).set dO _,(b _ oM).trans t,a,m,c,s,n,y,o,z,zaj f _ _,x.keep g,(b _ oM).trans u,h6.keep g⟩
theorem zfb(w:Z)(va vb:I)(x y:Int)(ha:IsZ w va x)(hb:IsZ w vb y)(au:Lm limA x)(av:Lm limA y)(hy:y≠0)(aT:0<=x\/y ∣ x) :
  Calls Tryz.prog 134 #[va,vb] w (RetQ w (x / y) (x % y)):=by
 obtain⟨a,m,c,s,rfl⟩:=ha.form;obtain⟨z,K,D,r,rfl⟩:=hb.form;have an:=hd9 ha.sgn;have aM:=hd9 hb.sgn;have aQ:=ha.dig;have ap:=hb.dig;have aK:=hd9 au.abs;have aL:=hd9 av.abs;have bB:((y.natAbs:Int)==0)=false:=by simp;omega
 have aU:0<(y.natAbs:Int):=oM
 clear au av ha;go_enter Tryz.func134,Tryz.ntmps134
 go_wp2_with(first|((go_at_call 166;(with_reducible refine(zaB _ (X #[O z K D]) y.natAbs ?_).mono ?_);(refine ap.ext ?_;exact eA);rintro e w1 ⟨rfl,aA⟩;obtain⟨⟨bq,bv⟩,aZ,a0,a1,a6⟩:=cK4 w aA))|((go_at_call 182;(with_reducible refine(zhb _ (X #[O a m c]) (X #[O z K D]) x.natAbs y.natAbs ?_ ?_ aK.out aL.out aU).mono ?_);(refine aQ.ext ?_;exact eA);(refine ap.ext ?_;exact eA);rintro e L ⟨r2,r3,rfl,ax,aj,aS⟩;obtain⟨a2,m2,c2,rfl⟩:=ax.isD.form;obtain⟨a3,m3,c3,rfl⟩:=aj.isD.form;obtain⟨⟨br,bw⟩,a7,a8,ba,bb⟩:=cK4 w aS;have aC:w.heap.size<L.heap.size+1:=oM;have aD:w.heap.size<L.heap.size+1+1:=oM;have aE:w.heap.size+1<L.heap.size+1:=oM;have aF:w.heap.size+1<L.heap.size+1+1:=oM;have aG:w.heap.size+1+1<L.heap.size+1:=oM;have aH:w.heap.size+1+1<L.heap.size+1+1:=oM;have aI:w.heap.size+1+1+1<L.heap.size+1:=oM;have aJ:w.heap.size+1+1+1<L.heap.size+1+1:=oM)))
 go_region_held3 (fun W=>W.cell? ⟨w.heap.size,1,V⟩=N (Y s)/\W.cell? ⟨L.heap.size,0,V⟩=N (O a2 m2 c2)/\W.cell? ⟨L.heap.size+1,0,V⟩=N (O a3 m3 c3)) ((repeat' (with_reducible refine And.intro ?_ ?_))<;>(first|(go_simp;done)|(refine aA.cellS ?_;go_simp;done))) (first|((go_at_call 183;(with_reducible refine(zcA _ s (X #[O a2 m2 c2]) ((x.natAbs:Int) / (y.natAbs:Int)) ?_).mono ?_);(refine ax.isD.ext ?_;exact eA);rintro e w3 ⟨r4,rfl,ay,ak⟩;obtain⟨a4,m4,c4,s4,rfl⟩:=ay.form;obtain⟨⟨bs,bx⟩,bc,be,bf,bg⟩:=cK4 w ak;have aV:=ak.lt (n:=L.heap.size) (by go_simp);have aW:=ak.lt (n:=L.heap.size+1) (by go_simp)))|((go_at_call 183;(with_reducible refine(zcA _ false (X #[O a3 m3 c3]) ((x.natAbs:Int) % (y.natAbs:Int)) ?_).mono ?_);(refine aj.isD.ext ?_;exact eA);rintro e f ⟨r5,rfl,az,al⟩;obtain⟨a5,m5,c5,s5,rfl⟩:=az.form;obtain⟨⟨bt,bz⟩,bh,bi,bj,bk⟩:=cK4 w al;have aX:=al.lt (n:=L.heap.size) (by go_simp);have aY:=al.lt (n:=L.heap.size+1) (by go_simp))))
 have ao:=aj.isD.ext (w':=f) eA;have P:Ext ((((w.alloc (J #[O a m c,Y s] 61)).alloc (J #[O z K D,Y r] 61)).alloc (J #[O V 0 0,Y false] 61)).alloc (J #[O V 0 0,Y false] 61)) f:=eA
 have aw:QtS w (O z K D) r (sg s ((x.natAbs:Int) / (y.natAbs:Int))) ((x.natAbs:Int) % (y.natAbs:Int)) ((((f.setCell ⟨w.heap.size+1+1,0,V⟩ (O a4 m4 c4)).setCell ⟨w.heap.size+1+1,1,V⟩ (Y s4)).setCell ⟨w.heap.size+1+1+1,0,V⟩ (O a5 m5 c5)).setCell ⟨w.heap.size+1+1+1,1,V⟩ (Y s5)):=by
  have P:Ext ((((w.alloc (J #[O a m c,Y s] 61)).alloc (J #[O z K D,Y r] 61)).alloc (J #[O V 0 0,Y false] 61)).alloc (J #[O V 0 0,Y false] 61)) f:=eA;have e1:f.heap[w.heap.size+1]?=N (J #[O z K D,Y r] 61 (0,0)):=P.heapS (by rw[zaf,zaf,zaf];simp);have e2:f.heap[w.heap.size+1+1]?=N (J #[O V 0 0,Y false] 61 (0,0)):=P.heapS (by rw[zaf,zaf];simp);have e3:f.heap[w.heap.size+1+1+1]?=N (J #[O V 0 0,Y false] 61 (0,0)):=P.heapS (by rw[zaf];simp);have k1:∀k,k≠w.heap.size+1+1->((f.setCell ⟨w.heap.size+1+1,0,V⟩ (O a4 m4 c4)).setCell ⟨w.heap.size+1+1,1,V⟩ (Y s4)).heap[k]?=f.heap[k]?:=fun k hk=>by rw[bS _ _ _ _ hk,bS _ _ _ _ hk]
  have k2:∀(W:Z) k,k≠w.heap.size+1+1+1->((W.setCell ⟨w.heap.size+1+1+1,0,V⟩ (O a5 m5 c5)).setCell ⟨w.heap.size+1+1+1,1,V⟩ (Y s5)).heap[k]?=W.heap[k]?:=fun W k hk=>by rw[bS _ _ _ _ hk,bS _ _ _ _ hk]
  have n2:NoT 2 f (w.heap.size+1+1):=fun cs fr e=>by rw[e2]at e;cases e
  have n3:NoT 2 f (w.heap.size+1+1+1):=fun cs fr e=>by rw[e3]at e;cases e
  have hK:KeepT 2 f ((((f.setCell ⟨w.heap.size+1+1,0,V⟩ (O a4 m4 c4)).setCell ⟨w.heap.size+1+1,1,V⟩ (Y s4)).setCell ⟨w.heap.size+1+1+1,0,V⟩ (O a5 m5 c5)).setCell ⟨w.heap.size+1+1+1,1,V⟩ (Y s5)):=
   ((((KeepT.refl _ f).setN n2 _).setN (n2.set _ _) _).setN ((n3.set _ _).set _ _) _).setN (((n3.set _ _).set _ _).set _ _) _
  exact⟨eA,((k2 _ _ oM).trans (k1 _ oM)).trans e1,a4,m4,c4,s4,a5,m5,c5,s5,(k2 _ _ oM).trans (zaj e2 _ _),(ay.ext eA).keep hK,zaj ((k1 _ oM).trans e3) _ _,az.keep hK⟩
 have aO:IsD ((((f.setCell ⟨w.heap.size+1+1,0,V⟩ (O a4 m4 c4)).setCell ⟨w.heap.size+1+1,1,V⟩ (Y s4)).setCell ⟨w.heap.size+1+1+1,0,V⟩ (O a5 m5 c5)).setCell ⟨w.heap.size+1+1+1,1,V⟩ (Y s5)) (X #[O a3 m3 c3]) ((x.natAbs:Int) % (y.natAbs:Int)):=by
  refine ao.keep ?_;have e2:f.heap[w.heap.size+1+1]?=N (J #[O V 0 0,Y false] 61 (0,0)):=P.heapS (by rw[zaf,zaf];simp);have e3:f.heap[w.heap.size+1+1+1]?=N (J #[O V 0 0,Y false] 61 (0,0)):=P.heapS (by rw[zaf];simp);have n2:NoT 2 f (w.heap.size+1+1):=fun cs fr e=>by rw[e2]at e;cases e
  have n3:NoT 2 f (w.heap.size+1+1+1):=fun cs fr e=>by rw[e3]at e;cases e
  exact((((KeepT.refl _ f).setN n2 _).setN (n2.set _ _) _).setN ((n3.set _ _).set _ _) _).setN (((n3.set _ _).set _ _).set _ _) _
 have am:=hd9 aw;clear aw
 by_cases hA:s=false\/(x.natAbs:Int) % (y.natAbs:Int)=0
 ·have ai:=znr s r an.out aM.out hy hA
  have t:=hd9 ai;clear ai
  cases s
  ·go_upto_if 34 with fail
   go_cut [38] (QtR w (O z K D) r x y)
   case first =>
    go_wp2;go_meet;exact⟨_,by rw[<-t.out.2];exact am.out,t.out.1⟩
   case rest =>
    obtain⟨q,hS,hq⟩:=hcut;have HS:=hd9 hS;obtain⟨hx,g,R,mq,T,sq,ar,mr,cr,sr,b,h4,d,h6⟩:=hS;have b0:=qcB g (i:=0) (u:=O z K D) rfl;have b1:=qcB g (i:=1) (u:=Y r) rfl;have q0:=qcB b (i:=0) (u:=O R mq T) rfl;have q1:=qcB b (i:=1) (u:=Y sq) rfl;have r0:=qcB d (i:=0) (u:=O ar mr cr) rfl;have r1:=qcB d (i:=1) (u:=Y sr) rfl;have aa:=qfB b 0;have ab:=qfB b 1;have ac:=qfB d 0;have ad:=qfB d 1;have ag:=zaa b;have ah:=zaa d;have Q:=hd9 g;clear b d g
    go_upto_if 43 with fail
    go_cut [44] (fun _ W=>QtS w (O z K D) r (x / y) (x % y) W)
    case first =>
     cases r
     ·go_wp2
      go_meet;simp at hq;rw[<-hq];exact HS.out
     ·go_wp2_with(first|((go_at_call 186;(with_reducible refine(zdm _ (X #[O R mq T,Y sq]) q ?_).mono ?_);(refine h4.ext ?_;exact eA);rintro e w9 ⟨r9,rfl,ae,af⟩;obtain⟨a9,m9,c9,s9,rfl⟩:=ae.form;obtain⟨aP,aR⟩:=af.cells)))
      go_meet;simp at hq;rw[<-hq];exact(HS.out.ext af).setQ ae
    case rest =>
     clear hx h4 h6 b0 b1 q0 q1 r0 r1 aa ab ac ad ag ah HS hq Q;obtain⟨wd,rfl⟩:∃W,W=wc:=⟨_,rfl⟩;have hS:=hcut;have HS:=hd9 hS;obtain⟨hx,g,R,mq,T,sq,ar,mr,cr,sr,b,h4,d,h6⟩:=hS;have b0:=qcB g (i:=0) (u:=O z K D) rfl;have b1:=qcB g (i:=1) (u:=Y r) rfl;have q0:=qcB b (i:=0) (u:=O R mq T) rfl;have q1:=qcB b (i:=1) (u:=Y sq) rfl;have r0:=qcB d (i:=0) (u:=O ar mr cr) rfl;have r1:=qcB d (i:=1) (u:=Y sr) rfl;have aa:=qfB b 0;have ab:=qfB b 1;have ac:=qfB d 0;have ad:=qfB d 1;have ag:=zaa b;have ah:=zaa d;have Q:=hd9 g;clear b d g;have j:=zay q0;have l:=zay q1;have o:=zay r0;have p:=zay r1;go_wp2
     go_region_with (fail)
     all_goals go_wp2
     all_goals exact bR (v:=.tuple #[X #[O R mq T,Y sq],X #[O ar mr cr,Y sr],E .i64 0]) (by simp[results,Tryz.results134,go_sem,q0,q1,r0,r1,j,l,o,p]) rfl ⟨_,_,rfl,by(try simp only[j,l,o,p]);exact h4.ext eA,by(try simp only[j,l,o,p]);exact h6.ext eA,by(try simp only[j,l,o,p]);(repeat(first|with_reducible assumption|with_reducible refine Ext.drew ?_))⟩
  ·have h0:(x.natAbs:Int) % (y.natAbs:Int)=0:=by simpa using hA
   have bp:((x.natAbs:Int) % (y.natAbs:Int)==0)=true:=by simpa using h0
   have H0:=hd9 h0;clear h0 hA
   go_upto_if 34 with (first|((go_at_call 166;(with_reducible refine(zaB _ (X #[O a3 m3 c3]) ((x.natAbs:Int) % (y.natAbs:Int)) ?_).mono ?_);(refine aO.ext ?_;exact eA);rintro e w5 ⟨rfl,aB⟩;obtain⟨⟨bu,bA⟩,bl,bm,bn,bo⟩:=cK4 w aB)))
   go_cut [38] (QtR w (O z K D) r x y)
   case first =>
    go_wp2;go_meet;exact⟨_,by rw[<-t.out.2];exact am.out.ext aB,t.out.1⟩
   case rest =>
    obtain⟨q,hS,hq⟩:=hcut;have HS:=hd9 hS;obtain⟨hx,g,R,mq,T,sq,ar,mr,cr,sr,b,h4,d,h6⟩:=hS;have b0:=qcB g (i:=0) (u:=O z K D) rfl;have b1:=qcB g (i:=1) (u:=Y r) rfl;have q0:=qcB b (i:=0) (u:=O R mq T) rfl;have q1:=qcB b (i:=1) (u:=Y sq) rfl;have r0:=qcB d (i:=0) (u:=O ar mr cr) rfl;have r1:=qcB d (i:=1) (u:=Y sr) rfl;have aa:=qfB b 0;have ab:=qfB b 1;have ac:=qfB d 0;have ad:=qfB d 1;have ag:=zaa b;have ah:=zaa d;have Q:=hd9 g;clear b d g
    go_upto_if 43 with fail
    go_cut [44] (fun _ W=>QtS w (O z K D) r (x / y) (x % y) W)
    case first =>
     cases r
     ·go_wp2
      go_meet;simp at hq;rw[<-hq];exact HS.out
     ·go_wp2_with(first|((go_at_call 186;(with_reducible refine(zdm _ (X #[O R mq T,Y sq]) q ?_).mono ?_);(refine h4.ext ?_;exact eA);rintro e w9 ⟨r9,rfl,ae,af⟩;obtain⟨a9,m9,c9,s9,rfl⟩:=ae.form;obtain⟨aP,aR⟩:=af.cells)))
      go_meet;simp at hq;rw[<-hq];exact(HS.out.ext af).setQ ae
    case rest =>
     clear hx h4 h6 b0 b1 q0 q1 r0 r1 aa ab ac ad ag ah HS hq Q;obtain⟨wd,rfl⟩:∃W,W=wc:=⟨_,rfl⟩;have hS:=hcut;have HS:=hd9 hS;obtain⟨hx,g,R,mq,T,sq,ar,mr,cr,sr,b,h4,d,h6⟩:=hS;have b0:=qcB g (i:=0) (u:=O z K D) rfl;have b1:=qcB g (i:=1) (u:=Y r) rfl;have q0:=qcB b (i:=0) (u:=O R mq T) rfl;have q1:=qcB b (i:=1) (u:=Y sq) rfl;have r0:=qcB d (i:=0) (u:=O ar mr cr) rfl;have r1:=qcB d (i:=1) (u:=Y sr) rfl;have aa:=qfB b 0;have ab:=qfB b 1;have ac:=qfB d 0;have ad:=qfB d 1;have ag:=zaa b;have ah:=zaa d;have Q:=hd9 g;clear b d g;have j:=zay q0;have l:=zay q1;have o:=zay r0;have p:=zay r1;go_wp2
     go_region_with (fail)
     all_goals go_wp2
     all_goals exact bR (v:=.tuple #[X #[O R mq T,Y sq],X #[O ar mr cr,Y sr],E .i64 0]) (by simp[results,Tryz.results134,go_sem,q0,q1,r0,r1,j,l,o,p]) rfl ⟨_,_,rfl,by(try simp only[j,l,o,p]);exact h4.ext eA,by(try simp only[j,l,o,p]);exact h6.ext eA,by(try simp only[j,l,o,p]);(repeat(first|with_reducible assumption|with_reducible refine Ext.drew ?_))⟩
 ·exfalso
  rcases aT with h|h
  ·exact hA (.inl (by rw[an.out];simp;omega))
  ·exact hA (.inr (Int.emod_eq_zero_of_dvd (by simpa using Int.natAbs_dvd.2 (Int.dvd_natAbs.2 h))))
def IsR(w:Z)(v:I)(q:Rat):Prop:=
 ∃a m c s a2 m2 c2,v=X #[O a m c,Y s,O a2 m2 c2]/\IsZ w (X #[O a m c,Y s]) q.num/\IsD w (X #[O a2 m2 c2]) ((q.den:Int)-1)
section
variable {w w':Z} {v:I} {q:Rat} {a a2:Option Addr} {m c m2 c2:Nat} {s:Bool}
theorem IsR.ext(h:IsR w v q)(k:Ext w w'):IsR w' v q:=by
 obtain⟨a,m,c,s,a2,m2,c2,rfl,b,d⟩:=h;exact⟨a,m,c,s,a2,m2,c2,rfl,b.ext k,d.ext k⟩
theorem IsR.keep(h:IsR w v q)(k:KeepT 2 w w'):IsR w' v q:=by
 obtain⟨a,m,c,s,a2,m2,c2,rfl,b,d⟩:=h;exact⟨a,m,c,s,a2,m2,c2,rfl,b.keep k,d.keep k⟩
theorem IsR.form(h:IsR w v q):∃a m c s a2 m2 c2,v=X #[O a m c,Y s,O a2 m2 c2]:=by
 obtain⟨a,m,c,s,a2,m2,c2,rfl,b,d⟩:=h;exact⟨a,m,c,s,a2,m2,c2,rfl⟩
theorem IsR.top(h:IsR w (X #[O a m c,Y s,O a2 m2 c2]) q):IsZ w (X #[O a m c,Y s]) q.num:=by
 obtain⟨a,m,c,s,a2,m2,c2,e,b,d⟩:=h;cases e;exact b
theorem IsR.rest(h:IsR w (X #[O a m c,Y s,O a2 m2 c2]) q):IsD w (X #[O a2 m2 c2]) ((q.den:Int)-1):=by
 obtain⟨a,m,c,s,a2,m2,c2,e,d,b⟩:=h;cases e;exact b
theorem IsR.mk(b:IsZ w (X #[O a m c,Y s]) q.num)(d:IsD w (X #[O a2 m2 c2]) ((q.den:Int)-1)):IsR w (X #[O a m c,Y s,O a2 m2 c2]) q:=
 ⟨_,_,_,_,_,_,_,rfl,b,d⟩
theorem IsD.nil(w:Z):IsD w (X #[O V 0 0]) 0:=⟨_,[],rfl,Ints.nil _ _,Can.nil _,rfl⟩
theorem IsR.zero(w:Z):IsR w (X #[O V 0 0,Y false,O V 0 0]) 0:=IsR.mk (IsZ.nil w) (IsD.nil w)
end
def Rb(k:Nat)(q:Rat):Prop:=Lm k q.num/\Lm k (q.den:Int)
theorem Rb.mono{j k:Nat}{q:Rat}(h:Rb j q)(b:j<=k):Rb k q:=⟨h.1.mono b,h.2.mono b⟩
def RetR(w:Z)(q:Rat)(e:Ending)(w':Z):Prop:=∃r,e = .returned r/\IsR w' r q/\Ext w w'
def limR:Nat:=1000000
theorem den_pos(q:Rat):0<(q.den:Int):=by have:=q.den_pos;omega
theorem zey{k:Nat}(b:1<=k):Lm k 1:=Lm.mono (j:=1) (by unfold Lm B;omega) b
theorem zbz(w:Z)(v:I)(q:Rat)(h:IsR w v q):Calls Tryz.prog 93 #[v] w fun e w'=>e = .returned (E .i64 q.num.sign)/\Ext w w':=by
 obtain⟨a,m,c,s,a2,m2,c2,rfl⟩:=h.form;go_enter Tryz.func93,Tryz.ntmps93
 go_wp2_with(((go_at_call 163;(with_reducible refine(zkI _ (X #[O a m c,Y s]) q.num ?_).mono ?_);(refine h.top.ext ?_;exact eA);rintro e i ⟨rfl,b⟩;obtain⟨⟨f,g⟩,d⟩:=cK1 w b)))
 go_ret;exact⟨rfl,eA⟩
theorem zdX(w:Z)(v:I)(q:Rat)(h:IsR w v q)(l:Rb limR q):Calls Tryz.prog 135 #[v] w (RetZd w (q.den:Int)):=by
 obtain⟨a,m,c,s,a2,m2,c2,rfl⟩:=h.form;have K:=den_pos q;have r:Hid (Lm lim ((q.den:Int)-1)):=hd9 ((l.2.mono dM).le oM oM);have p:Hid (Lm lim 1):=hd9 (zey dM);have Q:=h.rest;clear l h;go_enter Tryz.func135,Tryz.ntmps135;go_wp2
 go_region_held3 (fun W=>W.cell? ⟨w.heap.size,2,V⟩=N (O a2 m2 c2)) ((repeat' (with_reducible refine And.intro ?_ ?_))<;>(first|(go_simp;done)|(refine hx1.cellS ?_;go_simp;done))) (first|((go_at_call 188;(with_reducible refine(zmy _ 1 dM dM).mono ?_);rintro e w1 ⟨r1,rfl,b,hx1,z⟩;obtain⟨t,R,x,rfl⟩:=b.isD.form;obtain⟨⟨i,L⟩,n,f⟩:=cK2 w hx1))|((go_at_call 187;(with_reducible refine(zc8 _ (X #[O a2 m2 c2]) (X #[O t R x]) ((q.den:Int)-1) 1 1 ?_ ?_ r.out p.out dM oM).mono ?_);(refine Q.ext ?_;exact eA);(refine b.isD.ext ?_;exact eA);rintro e w2 ⟨r2,rfl,d,k,D⟩;obtain⟨u,T,y,rfl⟩:=d.isD.form;obtain⟨⟨j,P⟩,o,g⟩:=cK2 w k)))
 all_goals go_wp2
 refine bR (v:=X #[O u T y,Y false]) (by simp[results,Tryz.results135,go_sem,i,j,f,g]) rfl ⟨_,rfl,IsZ.keep (w:=w2) ?_ kA,eA,dA⟩;refine⟨_,_,_,_,rfl,by simp,?_⟩;have e:(((q.den:Int).natAbs:Nat):Int)=(q.den:Int)-1+1*1:=oM
 rw[e];exact d.isD
theorem zaH(w:Z)(v:I)(q:Rat)(h:IsR w v q)(b:Rb limR q):Calls Tryz.prog 135 #[v] w (RetZ w (q.den:Int)):=z_dr (zdX w v q h b)
theorem zii(w:Z)(v:I)(n:Int)(h:IsZ w v n):Calls Tryz.prog 200 #[v] w (RetR w (n:Rat)):=by
 obtain⟨a,m,c,s,rfl⟩:=h.form;go_enter Tryz.func200,Tryz.ntmps200;go_wp2;exact bR (v:=X #[O a m c,Y s,O V 0 0]) (by simp[results,Tryz.results200,go_sem]) rfl ⟨_,rfl,IsR.mk (h.ext eA) (IsD.nil _),eA⟩
theorem znw(w:Z)(n:Int)(u : -9223372036854775808<=n)(x:n<=9223372036854775807):Calls Tryz.prog 154 #[E .i64 n] w (RetR w (n:Rat)):=by
 go_enter Tryz.func154,Tryz.ntmps154
 go_wp2_with(first|((go_at_call 137;(with_reducible refine(zcI _ n u x).mono ?_);rintro e T ⟨Q,rfl,b,k⟩;obtain⟨o,D,r,L,rfl⟩:=b.form;obtain⟨⟨i,y⟩,f⟩:=cK1 w k))|((go_at_call 200;(with_reducible refine(zii _ (X #[O o D r,Y L]) n b).mono ?_);rintro e W ⟨R,rfl,d,l⟩;obtain⟨a2,m2,c2,P,p,K,t,rfl⟩:=d.form;obtain⟨⟨j,z⟩,g⟩:=cK1 w l)))
 exact bR (v:=X #[O a2 m2 c2,Y P,O p K t]) (by simp[results,Tryz.results154,go_sem,i,j,f,g]) rfl ⟨_,rfl,d.keep kA,eA⟩
theorem zlE(w:Z)(v:I)(q:Rat)(h:IsR w v q):Calls Tryz.prog 177 #[v] w (RetR w (-q)):=by
 obtain⟨a,m,c,s,a2,m2,c2,rfl⟩:=h.form;go_enter Tryz.func177,Tryz.ntmps177;go_wp2
 go_region_held3 (fun W=>W.cell? ⟨w.heap.size,0,V⟩=N (O a m c)/\W.cell? ⟨w.heap.size,1,V⟩=N (Y s)/\W.cell? ⟨w.heap.size,2,V⟩=N (O a2 m2 c2)) ((repeat' (with_reducible refine And.intro ?_ ?_))<;>(first|(go_simp;done)|(refine hx1.cellS ?_;go_simp;done))) (((go_at_call 186;(with_reducible refine(zdm _ (X #[O a m c,Y s]) q.num ?_).mono ?_);(refine h.top.ext ?_;exact eA);rintro e p ⟨o,rfl,b,hx1⟩;obtain⟨i,l,j,n,rfl⟩:=b.form;obtain⟨⟨f,k⟩,g,d⟩:=cK2 w hx1)))
 all_goals go_wp2
 exact bR (v:=X #[O i l j,Y n,O a2 m2 c2]) (by simp[results,Tryz.results177,go_sem,f,d]) rfl ⟨_,rfl,IsR.keep (IsR.mk b (h.rest.ext eA)) kA,eA⟩
def rg(n d:Int):Int:=if d<0 then -(Int.gcd n d:Int)else (Int.gcd n d:Int)
theorem zhj{n d:Int}(f:d≠0):rg n d≠0/\rg n d ∣ n/\rg n d ∣ d/\n / rg n d=(Rat.divInt n d).num/\d / rg n d=((Rat.divInt n d).den:Int):=by
 have g:0<Int.gcd n d:=Int.gcd_pos_of_ne_zero_right n f;have e:(Int.gcd n d:Int) ∣ n:=Int.gcd_dvd_left ..;have b:(Int.gcd n d:Int) ∣ d:=Int.gcd_dvd_right ..;rw[Rat.num_divInt,Rat.den_divInt,if_neg f,Int.gcd_comm d n];unfold rg
 by_cases h:d<0
 ·rw[if_pos h]
  refine⟨by omega,Int.neg_dvd.2 e,Int.neg_dvd.2 b,?_,?_⟩
  ·rw[Int.sign_eq_neg_one_of_neg h,Int.ediv_neg,Int.neg_mul,Int.one_mul,Int.neg_ediv_of_dvd e]
  ·rw[Int.ediv_neg,Int.natCast_ediv,Int.ofNat_natAbs_of_nonpos oM,Int.neg_ediv_of_dvd b]
 ·rw[if_neg h]
  refine⟨by omega,e,b,?_,?_⟩
  ·rw[Int.sign_eq_one_of_pos oM,Int.one_mul]
  ·rw[Int.natCast_ediv,Int.natAbs_of_nonneg oM]
theorem zoL{k:Nat}{n d:Int}(f:d≠0)(h:Lm k d):Lm k (rg n d):=by
 have b:(Int.gcd n d:Int)<=d.natAbs:=Int.le_of_dvd oM (Int.dvd_natAbs.2 (Int.gcd_dvd_right ..));have e:0<=(Int.gcd n d:Int):=Int.natCast_nonneg _;unfold rg Lm at *
 split<;>omega
theorem zfh{n d:Int}(b:d≠0){k:Nat}(h:Lm k d):Lm k ((Rat.divInt n d).den:Int):=by
 have e:(Rat.divInt n d).den<=d.natAbs:=by
  rw[Rat.den_divInt,if_neg b];exact Nat.div_le_self _ _
 unfold Lm at *;omega
theorem zg9{n d:Int}(b:d≠0){k:Nat}(h:Lm k n):Lm k (Rat.divInt n d).num:=by
 have e:(Rat.divInt n d).num.natAbs<=n.natAbs:=by
  rw[Rat.num_divInt,Int.natAbs_ediv_of_dvd]
  ·rw[Int.natAbs_mul]
   have:d.sign.natAbs=1:=by rw[Int.natAbs_sign];simp[b]
   rw[this,Nat.one_mul];exact Nat.div_le_self _ _
  ·exact Int.dvd_trans (Int.gcd_dvd_right ..) (Int.dvd_mul_left ..)
 unfold Lm at *;omega
end
end Go.Proofs.YtjnjpagegkcgfaaGreatDoor.Cop
