/- Part 24: contracts of what the law calls. -/
import Derived.Test.YtodpfeaihohpjaaGreatDoorCopA22
import Derived.Test.YtodpfeaihohpjaaGreatDoorCopA05
import Derived.Test.YtodpfeaihohpjaaGreatDoorCopA02
import Derived.Test.YtodpfeaihohpjaaGreatDoorCopA04
import Derived.Test.YtodpfeaihohpjaaGreatDoorCopA14
import Derived.Test.YtodpfeaihohpjaaGreatDoorCopA07
import Derived.Laws.IdiomStrings
import Derived.Test.YtodpfeaihohpjaaGreatDoorCopA16
import Derived.Test.YtodpfeaihohpjaaGreatDoorCopA17
set_option maxRecDepth 1000000
set_option maxHeartbeats 16000000
set_option linter.unusedSimpArgs false
set_option linter.unusedVariables false
open Go.Value renaming slice→O,agg→I,int→J,bool→M
open Go renaming World→Y,Value→V
open Option renaming none→Z,some→X
namespace Go.Proofs.YtodpfeaihohpjaaGreatDoor.Cop
section
open Go.RowKit Go.Shelf Go.Sort
theorem zlo {l:List (Int×Int)} (rl:Rise l) (nl:l≠[]) {k:Int} (h1:lineL l≤k) (h2:k<lineR l) {x:Rat} (x1:(k:Rat)≤x) (x2:x≤((k+1:Int):Rat)) :
  atR l x=(((k+1:Int):Rat)-x)*atR l (k:Rat)+(x-(k:Rat))*atR l ((k+1:Int):Rat):=by
 obtain⟨e,he,a1,a2,_⟩:=zbC nl h1 h2;have c1:((e.1.1:Int):Rat)≤(k:Rat):=Rat.intCast_le_intCast.2 a1;have c2:((k+1:Int):Rat)≤((e.2.1:Int):Rat):=Rat.intCast_le_intCast.2 (by omega);have c3:(k:Rat)≤((k+1:Int):Rat):=Rat.intCast_le_intCast.2 (by omega);rw [zcL rl he (Rat.le_trans c1 x1) (Rat.le_trans x2 c2),zcL rl he c1 (Rat.le_trans c3 c2),zcL rl he (Rat.le_trans c1 c3) c2];have s:=za1 e (k:Rat) ((k+1:Int):Rat) x
 have o:((k+1:Int):Rat)-(k:Rat)=1:=by
  rw [Rat.intCast_add];have:((1:Int):Rat)=1:=rfl
  grind
 rw [o,Rat.one_mul]at s;exact s
theorem zeQ (k:Int) (e:Edg) (h:e.1.1<e.2.1):atE (k:Rat) e*((e.2.1-e.1.1:Int):Rat)=(((e.2.1-e.1.1)*e.1.2+(k-e.1.1)*(e.2.2-e.1.2):Int):Rat):=by
 have hw:((e.2.1-e.1.1:Int):Rat)≠0:=by
  intro h0;have:(e.2.1-e.1.1:Int)=0:=by exact_mod_cast h0
  omega
 unfold atE
 generalize hq:(((k:Rat)-((e.1.1:Int):Rat))*((e.2.2-e.1.2:Int):Rat)) / ((e.2.1-e.1.1:Int):Rat)=q
 have hqw:q*((e.2.1-e.1.1:Int):Rat)=((k:Rat)-((e.1.1:Int):Rat))*((e.2.2-e.1.2:Int):Rat):=by rw [←hq,Rat.div_mul_cancel hw]
 simp only [Rat.intCast_add,Rat.intCast_mul,Rat.intCast_sub]at hqw ⊢
 grind
theorem zej {p:Pl} (h:placedOk p=true) {k:Int} (h1:lineL (lowP2 p)≤k) (h2:k<lineR (lowP2 p)) :
  ∃a b c d,LowE (cornersP p) a b∧UpE (cornersP p) c d∧a.1≤k∧k<b.1∧d.1≤k∧k<c.1∧a∈lowP2 p∧(a,b)∈eds (lowP2 p)∧(d,c)∈eds (upP2 p):=by
 obtain⟨s1,s2,_,n1,n2⟩:=zag h;obtain⟨r1,_,d1⟩:=zar h;obtain⟨_,_,d2⟩:=zaJ h;obtain⟨⟨a,b⟩,he,a1,a2,e1⟩:=zbC n1 h1 h2;obtain⟨⟨d,c⟩,hf,b1,b2,e2⟩:=zbC n2 (by rw [s1];exact h1) (by rw [s2];exact h2);exact⟨a,b,c,d,d1 _ he,d2 _ hf,a1,a2,b1,b2,(r1.between he).1,he,hf⟩
theorem ziT {p:Pl} (h:placedOk p=true) {k:Int} (h1:lineL (lowP2 p)<k) (h2:k<lineR (lowP2 p)):atR (lowP2 p) (k:Rat)<atR (upP2 p) (k:Rat):=by
 have hc:=zaU h;obtain⟨r1,m1,_⟩:=zar h;obtain⟨r2,_,_⟩:=zaJ h;obtain⟨a,b,c,d,⟨hE,hab⟩,⟨hF,hcd⟩,a1,a2,b1,b2,ha,he,hf⟩:=zej h (by omega) h2;have c0:=hc.left0 hE hF.mem.1;have c1:=hc.left0 hE hF.mem.2;have q1:atR (lowP2 p) (k:Rat)=atE (k:Rat) (a,b):=zcL r1 he (Rat.intCast_le_intCast.2 a1) (Rat.intCast_le_intCast.2 (by dsimp only;omega));have q2:atR (upP2 p) (k:Rat)=atE (k:Rat) (d,c):=zcL r2 hf (Rat.intCast_le_intCast.2 b1) (Rat.intCast_le_intCast.2 (by dsimp only;omega));rw [q1,q2]
 have hon:∀q,q∈cornersP p→trn a b q=0→q=a∨q=b:=fun q hq z=>by
  apply Classical.byContradiction
  intro h9;have:=hc.left a b hE q hq (fun e=>h9 (.inl e)) (fun e=>h9 (.inr e));omega
 have p1:0≤(k-d.1)*trn a b c:=Int.mul_nonneg (by omega) c0;have p2:0≤(c.1-k)*trn a b d:=Int.mul_nonneg (by omega) c1
 have hpos:0<(k-d.1)*trn a b c+(c.1-k)*trn a b d:=by
  apply Classical.byContradiction
  intro hn
  have z1:trn a b d=0:=by
   rcases Int.lt_or_eq_of_le c1 with hl|hl
   ·have:=Int.mul_pos (show 0<c.1-k by omega) hl
    omega
   ·exact hl.symm
  have z0:(k-d.1)*trn a b c=0:=by omega
  rcases hon d hF.mem.2 z1 with rfl|rfl
  ·rcases Int.mul_eq_zero.1 z0 with z|z
   ·
    obtain⟨a',b',c',d',⟨hE',hab'⟩,_,x1,x2,_,_,_,he',_⟩:=zej h (k:=k-1) (by omega) (by omega);have hbw:=r1.between he';dsimp only at hbw
    have hb1:b'.1=k:=by
     have:=hbw.2.2.2 d ha;omega
    have hbd:b'=d:=LowV.uniq hc ((m1 b').1 hbw.2.1) ((m1 d).1 ha) (by omega);subst hbd;have w1:=hc.left a' b' hE' c hF.mem.1 (fun e=>by subst e;omega) (fun e=>by subst e;omega);have w2:=hc.left c b' hF a' hE'.mem.1 (fun e=>by subst e;omega) (fun e=>by subst e;omega);have:trn a' b' c+trn c b' a'=0:=by unfold trn;grind
    omega
   ·rcases hon c hF.mem.1 z with rfl|rfl
    ·omega
    ·obtain⟨q,hq,h8,h9⟩:=third hc d c
     have w1:=hc.left d c hE q hq h8 h9;have w2:=hc.left c d hF q hq h9 h8;have:trn d c q+trn c d q=0:=by unfold trn;grind
     omega
  ·omega
 refine zfQ (p:=b.1-a.1) (q:=c.1-d.1) (by omega) (by omega) (zeQ k (a,b) (by dsimp only;omega)) (zeQ k (d,c) (by dsimp only;omega)) ?_;dsimp only
 have e:((c.1-d.1)*d.2+(k-d.1)*(c.2-d.2))*(b.1-a.1)-((b.1-a.1)*a.2+(k-a.1)*(b.2-a.2))*(c.1-d.1)=(k-d.1)*trn a b c+(c.1-k)*trn a b d:=by
  unfold trn
  grind
 omega
theorem zl6 (k:Int):xh k=(1-1 / 2)*(k:Rat)+1 / 2*((k+1:Int):Rat):=by
 unfold xh;rw [Rat.intCast_add,Rat.intCast_add,Rat.intCast_mul,Rat.div_def,Rat.div_def];have:((1:Int):Rat)=1:=rfl;have:((2:Int):Rat)=2:=rfl
 grind
theorem zly {p:Pl} (h:placedOk p=true) {k:Int} (h1:lineL (lowP2 p)≤k) (h2:k≤lineR (lowP2 p)):atR (lowP2 p) (k:Rat)≤atR (upP2 p) (k:Rat):=by
 have hc:=zaU h;obtain⟨r1,_,_⟩:=zar h;obtain⟨r2,_,_⟩:=zaJ h;obtain⟨_,_,s3,_,_⟩:=zag h
 obtain⟨k',hk1,hk2,hk3,hk4⟩:∃k',lineL (lowP2 p)≤k'∧k'<lineR (lowP2 p)∧k'≤k∧k≤k'+1:=by
  by_cases h9:k=lineR (lowP2 p)
  ·exact⟨k-1,by omega,by omega,by omega,by omega⟩
  ·exact⟨k,by omega,by omega,by omega,by omega⟩
 obtain⟨a,b,c,d,⟨hE,hab⟩,⟨hF,hcd⟩,a1,a2,b1,b2,_,he,hf⟩:=zej h hk1 hk2;have c0:=hc.left0 hE hF.mem.1;have c1:=hc.left0 hE hF.mem.2;have q1:atR (lowP2 p) (k:Rat)=atE (k:Rat) (a,b):=zcL r1 he (Rat.intCast_le_intCast.2 (by dsimp only;omega)) (Rat.intCast_le_intCast.2 (by dsimp only;omega));have q2:atR (upP2 p) (k:Rat)=atE (k:Rat) (d,c):=zcL r2 hf (Rat.intCast_le_intCast.2 (by dsimp only;omega)) (Rat.intCast_le_intCast.2 (by dsimp only;omega));rw [q1,q2];have p1:0≤(k-d.1)*trn a b c:=Int.mul_nonneg (by omega) c0;have p2:0≤(c.1-k)*trn a b d:=Int.mul_nonneg (by omega) c1;refine Rat.not_lt.1 fun hlt=>?_
 have hA:=zeQ k (a,b) (by dsimp only;omega);have hB:=zeQ k (d,c) (by dsimp only;omega);dsimp only at hA hB
 have e:((c.1-d.1)*d.2+(k-d.1)*(c.2-d.2))*(b.1-a.1)-((b.1-a.1)*a.2+(k-a.1)*(b.2-a.2))*(c.1-d.1)=(k-d.1)*trn a b c+(c.1-k)*trn a b d:=by
  unfold trn
  grind
 have hp':(0:Rat)<((b.1-a.1:Int):Rat):=by exact_mod_cast (show 0<b.1-a.1 by omega)
 have hq':(0:Rat)<((c.1-d.1:Int):Rat):=by exact_mod_cast (show 0<c.1-d.1 by omega)
 have hm:=Rat.mul_lt_mul_of_pos_right (Rat.mul_lt_mul_of_pos_right hlt hp') hq';have hm2:atE (k:Rat) (d,c)*((c.1-d.1:Int):Rat)*((b.1-a.1:Int):Rat)<atE (k:Rat) (a,b)*((b.1-a.1:Int):Rat)*((c.1-d.1:Int):Rat):=by grind
 rw [hA,hB,←Rat.intCast_mul,←Rat.intCast_mul,Rat.intCast_lt_intCast]at hm2;omega
theorem h12:(0:Rat)<1 / 2:=by decide +kernel
theorem h121:(1 / 2:Rat)<1:=by decide +kernel
def linR (t a b:Rat):Rat:=(1-t)*a+t*b
theorem zfc {n d:Rat} (hn:0<n) (hd:n<d):∃t:Rat,0<t∧t<1∧t*d=n:=by
 have hd0:0<d:=by grind
 have hne:d≠0:=fun e=>by rw [e]at hd0;exact Rat.lt_irrefl hd0
 refine⟨n / d,?_,?_,Rat.div_mul_cancel hne⟩
 ·refine Rat.not_le.1 fun h=>?_
  have:=Rat.mul_le_mul_of_nonneg_right h (Rat.le_of_lt hd0);rw [Rat.div_mul_cancel hne]at this
  grind
 ·refine Rat.not_le.1 fun h=>?_
  have:=Rat.mul_le_mul_of_nonneg_right h (Rat.le_of_lt hd0);rw [Rat.div_mul_cancel hne]at this
  grind
theorem zdN {t a b:Rat} (ht:0<t) (ht1:t<1) (ha:0≤a) (hb:0≤b) (hab:0<a+b):0<linR t a b:=by
 unfold linR;have h1:0<1-t:=by grind
 have m1:=Rat.mul_nonneg (Rat.le_of_lt h1) ha;have m2:=Rat.mul_nonneg (Rat.le_of_lt ht) hb
 by_cases c:0<a
 ·have:=Rat.mul_pos h1 c
  grind
 ·have:0<b:=by grind
  have:=Rat.mul_pos ht this
  grind
theorem zjO {a b:Rat} (h:0<a∨0<b):∃t:Rat,0<t∧t<1∧0<linR t a b:=by
 by_cases c:0≤a∧0≤b
 ·exact⟨1 / 2,h12,h121,zdN h12 h121 c.1 c.2 (by grind)⟩
 ·by_cases ca:0<a
  ·have hb:b<0:=by grind
   obtain⟨t,t1,t2,t3⟩:=zfc (n:=a) (d:=2*(a-b)) ca (by grind);exact⟨t,t1,t2,by unfold linR;grind⟩
  ·have hb:0<b:=by grind
   have ha:a<0:=by grind
   obtain⟨t,t1,t2,t3⟩:=zfc (n:=b-2*a) (d:=2*(b-a)) (by grind) (by grind);exact⟨t,t1,t2,by unfold linR;grind⟩
theorem zky {f0 f1 g0 g1:Rat} (hs:∀t:Rat,0<t→t<1→0<linR t f0 f1+linR t g0 g1) (hf:0<f0∨0<f1) (hg:0<g0∨0<g1):∃t:Rat,0<t∧t<1∧0<linR t f0 f1∧0<linR t g0 g1:=by
 have le:∀{a0 a1 b0 b1 t:Rat},0<t→t<1→a0≤b0→a1≤b1→linR t a0 a1≤linR t b0 b1:=fun {a0 a1 b0 b1 t} t0 t1 h0 h1=>by
  have m0:=Rat.mul_le_mul_of_nonneg_left h0 (show 0≤1-t by grind);have m1:=Rat.mul_le_mul_of_nonneg_left h1 (Rat.le_of_lt t0);unfold linR
  grind
 by_cases c1:g0≤f0∧g1≤f1
 ·obtain⟨t,t0,t1,h⟩:=zjO hg
  have:=le t0 t1 c1.1 c1.2;exact⟨t,t0,t1,by grind,h⟩
 ·by_cases c2:f0≤g0∧f1≤g1
  ·obtain⟨t,t0,t1,h⟩:=zjO hf
   have:=le t0 t1 c2.1 c2.2;exact⟨t,t0,t1,h,by grind⟩
  ·by_cases c3:g0<f0
   ·have c4:f1<g1:=by grind
    obtain⟨t,t0,t1,h⟩:=zfc (n:=f0-g0) (d:=(f0-g0)+(g1-f1)) (by grind) (by grind);have e:linR t f0 f1=linR t g0 g1:=by unfold linR;grind
    have:=hs t t0 t1;exact⟨t,t0,t1,by grind,by grind⟩
   ·have c4:g1<f1:=by grind
    have c5:f0<g0:=by grind
    obtain⟨t,t0,t1,h⟩:=zfc (n:=g0-f0) (d:=(g0-f0)+(f1-g1)) (by grind) (by grind);have e:linR t f0 f1=linR t g0 g1:=by unfold linR;grind
    have:=hs t t0 t1;exact⟨t,t0,t1,by grind,by grind⟩
theorem zhp {F G:Int→Rat} {lo hi x0 x1:Int} (hi':∀k,lo<k→k<hi→0<F k+G k) (h0:lo≤x0) (h01:x0≤x1) (h1:x1≤hi) (hl:lo<hi) (hF:0<F x0) (hG:0<G x1) :
  ∃k,lo≤k∧k<hi∧(0<F k∨0<F (k+1))∧(0<G k∨0<G (k+1)):=by
 apply Classical.byContradiction
 intro hn
 have hU:∀k,lo≤k→k<hi→(0<F k∨0<F (k+1))→G k≤0∧G (k+1)≤0:=fun k k1 k2 k3=>by
  refine⟨Rat.not_lt.1 fun h=>hn ⟨k,k1,k2,k3,.inl h⟩,Rat.not_lt.1 fun h=>hn ⟨k,k1,k2,k3,.inr h⟩⟩
 have key:∀n:Nat,x0+n≤x1→G (x0+n)≤0∧(x0+n<hi→0<F (x0+n)):=by
  intro n
  induction n with
  | zero =>
   intro _;rw [Int.natCast_zero,Int.add_zero];refine⟨?_,fun _=>hF⟩
   by_cases c:x0<hi
   ·exact(hU x0 h0 c (.inl hF)).1
   ·have:=(hU (x0-1) (by omega) (by omega) (.inr (by rw [Int.sub_add_cancel];exact hF))).2
    rw [Int.sub_add_cancel]at this;exact this
  | succ n ih =>
   intro h;obtain⟨i1,i2⟩:=ih (by omega);have i3:=(hU (x0+n) (by omega) (by omega) (.inl (i2 (by omega)))).2;rw [show x0+((n+1:Nat):Int)=x0+(n:Int)+1 by omega];refine⟨i3,fun h9=>?_⟩;have:=hi' (x0+(n:Int)+1) (by omega) h9
   grind
 have:=(key (x1-x0).toNat (by omega)).1;rw [show x0+((x1-x0).toNat:Int)=x1 by omega]at this
 grind
theorem zhc {L U:List (Int×Int)} (h:freeB L U=false):(btw L U).lo<(btw L U).hi∧∃z:Int,(btw L U).lo≤z∧z≤(btw L U).hi∧atR L (z:Rat)<atR U (z:Rat):=by
 unfold freeB at h
 by_cases ho:(btw L U).lo<(btw L U).hi
 ·refine⟨ho,?_⟩
  rw [if_pos ho,decide_eq_false_iff_not]at h;obtain⟨hm,he⟩:=zax (gapR (btw L U)) (zaD (btw L U));obtain⟨z,hz,ez⟩:=List.mem_map.1 hm;have hin:=zbc ho hz;refine⟨z,hin.1,hin.2,?_⟩
  have hlt:(leastR (btw L U)).2<0:=by
   rw [←num_lt0,←Int.sign_neg_iff];omega
  unfold leastR at hlt;rw [he,←ez]at hlt;unfold gapR btw at hlt;dsimp only at hlt
  grind
 ·rw [if_neg ho]at h
  cases h
theorem zcZ {l:List (Int×Int)} (rl:Rise l) (nl:l≠[]) {k:Int} (h1:lineL l≤k) (h2:k<lineR l) {t:Rat} (t0:0≤t) (t1:t≤1) :
  atR l ((k:Rat)+t)=linR t (atR l (k:Rat)) (atR l ((k+1:Int):Rat)):=by
 have e1:((k+1:Int):Rat)=(k:Rat)+1:=by rw [Rat.intCast_add];rfl
 rw [zlo rl nl h1 h2 (x:=(k:Rat)+t) (by grind) (by rw [e1];grind)];unfold linR;rw [e1]
 grind
theorem ziU {p:Pl} (h:placedOk p=true) {k:Int} (h1:lineL (lowP2 p)≤k) (h2:k<lineR (lowP2 p)) :
  0≤atR (upP2 p) (k:Rat)-atR (lowP2 p) (k:Rat)∧0≤atR (upP2 p) ((k+1:Int):Rat)-atR (lowP2 p) ((k+1:Int):Rat)∧0<(atR (upP2 p) (k:Rat)-atR (lowP2 p) (k:Rat))+(atR (upP2 p) ((k+1:Int):Rat)-atR (lowP2 p) ((k+1:Int):Rat)):=by
 obtain⟨s1,s2,_,n1,n2⟩:=zag h;have a:=zly h h1 (Int.le_of_lt h2);have b:=zly h (k:=k+1) (by omega) (by omega);have c:=zeX h h1 h2;have e1:((k+1:Int):Rat)=(k:Rat)+1:=by rw [Rat.intCast_add];rfl
 have ex:xh k=(k:Rat)+1 / 2:=by rw [zl6,e1];grind
 rw [ex,zcZ (zar h).1 n1 h1 h2 (Rat.le_of_lt h12) (Rat.le_of_lt h121),zcZ (zaJ h).1 n2 (by omega) (by omega) (Rat.le_of_lt h12) (Rat.le_of_lt h121)]at c;unfold linR at c;refine⟨by grind,by grind,by grind⟩
theorem znz {p q:Pl} (hp:placedOk p=true) (hq:placedOk q=true) (h5:relP p q=5) :
  ∃(k:Int) (t:Rat),max (lineL (lowP2 p)) (lineL (lowP2 q))≤k∧k<min (lineR (lowP2 p)) (lineR (lowP2 q))∧0<t∧t<1 ∧
   atR (lowP2 p) ((k:Rat)+t)<atR (upP2 p) ((k:Rat)+t)∧atR (lowP2 q) ((k:Rat)+t)<atR (upP2 q) ((k:Rat)+t) ∧
   atR (lowP2 p) ((k:Rat)+t)<atR (upP2 q) ((k:Rat)+t)∧atR (lowP2 q) ((k:Rat)+t)<atR (upP2 p) ((k:Rat)+t):=by
 obtain⟨a1,a2,a3,a4,a5⟩:=zag hp;obtain⟨b1,b2,b3,b4,b5⟩:=zag hq
 have hf:freeB (lowP2 p) (upP2 q)=false∧freeB (lowP2 q) (upP2 p)=false:=by
  unfold relP at h5
  cases f1:freeB (lowP2 p) (upP2 q)<;>cases f2:freeB (lowP2 q) (upP2 p)<;>simp only [f1,f2,if_true]at h5 ⊢
  all_goals(split at h5<;>first|omega|(split at h5<;>first|omega|simp_all))
 obtain⟨o1,z0,i1,i2,i3⟩:=zhc hf.1;obtain⟨o2,z1,j1,j2,j3⟩:=zhc hf.2;unfold btw at o1 i1 i2 o2 j1 j2;dsimp only at o1 i1 i2 o2 j1 j2;obtain⟨lo,elo⟩:=gX (max (lineL (lowP2 p)) (lineL (lowP2 q)));obtain⟨hi,ehi⟩:=gX (min (lineR (lowP2 p)) (lineR (lowP2 q)));obtain⟨F,eF⟩:∃F:Int→Rat,F=fun k:Int=>atR (upP2 q) (k:Rat)-atR (lowP2 p) (k:Rat):=⟨_,rfl⟩
 obtain⟨G,eG⟩:∃G:Int→Rat,G=fun k:Int=>atR (upP2 p) (k:Rat)-atR (lowP2 q) (k:Rat):=⟨_,rfl⟩
 have hF:0<F z0:=by rw [eF];dsimp only;grind
 have hG:0<G z1:=by rw [eG];dsimp only;grind
 have hin:∀k,lo<k→k<hi→0<F k+G k:=fun k k1 k2=>by
  have u:=ziT hp (k:=k) (by omega) (by omega);have v:=ziT hq (k:=k) (by omega) (by omega);rw [eF,eG];dsimp only
  grind
 have hk:∃k,lo≤k∧k<hi∧(0<F k∨0<F (k+1))∧(0<G k∨0<G (k+1)):=by
  by_cases c:z0≤z1
  ·exact zhp hin (by omega) c (by omega) (by omega) hF hG
  ·obtain⟨k,k1,k2,k3,k4⟩:=zhp (F:=G) (G:=F) (lo:=lo) (hi:=hi) (fun k h1 h2=>by have:=hin k h1 h2;grind) (x0:=z1) (x1:=z0) (by omega) (by omega) (by omega) (by omega) hG hF
   exact⟨k,k1,k2,k4,k3⟩
 obtain⟨k,k1,k2,k3,k4⟩:=hk;obtain⟨u1,u2,u3⟩:=ziU hp (k:=k) (by omega) (by omega);obtain⟨v1,v2,v3⟩:=ziU hq (k:=k) (by omega) (by omega)
 have hs:∀t:Rat,0<t→t<1→0<linR t (F k) (F (k+1))+linR t (G k) (G (k+1)):=fun t t0 t1=>by
  have x1:=zdN t0 t1 u1 u2 u3;have x2:=zdN t0 t1 v1 v2 v3;rw [eF,eG];unfold linR at x1 x2 ⊢;dsimp only
  grind
 obtain⟨t,t0,t1,w1,w2⟩:=zky hs k3 k4;have x1:=zdN t0 t1 u1 u2 u3;have x2:=zdN t0 t1 v1 v2 v3;have y1:=zcZ (zar hp).1 a4 (k:=k) (by omega) (by omega) (Rat.le_of_lt t0) (Rat.le_of_lt t1);have y2:=zcZ (zaJ hp).1 a5 (k:=k) (by omega) (by omega) (Rat.le_of_lt t0) (Rat.le_of_lt t1);have y3:=zcZ (zar hq).1 b4 (k:=k) (by omega) (by omega) (Rat.le_of_lt t0) (Rat.le_of_lt t1);have y4:=zcZ (zaJ hq).1 b5 (k:=k) (by omega) (by omega) (Rat.le_of_lt t0) (Rat.le_of_lt t1);rw [eF]at w1;rw [eG]at w2;unfold linR at x1 x2 y1 y2 y3 y4 w1 w2;dsimp only at w1 w2;refine⟨k,t,by omega,by omega,t0,t1,?_,?_,?_,?_⟩
 ·rw [y1,y2];grind
 ·rw [y3,y4];grind
 ·rw [y1,y4];grind
 ·rw [y2,y3];grind
theorem zdG {g:List (Int×Int)} (h:groundB g=true):Rise g:=by
 unfold groundB at h;rw [Bool.and_eq_true,List.all_eq_true]at h;obtain⟨h1,h2⟩:=h
 have hs:∀i,(hi:i+1<g.length)→g[i].1<g[i+1].1:=fun i hi=>by
  have h3:=h2 (i+1) (List.mem_range.2 hi);unfold grdR at h3;rw [Nat.add_sub_cancel,gD,gE hi,Option.getD_some,gD,gE (by omega),Option.getD_some]at h3;simp only [Bool.and_eq_true,Bool.or_eq_true,beq_iff_eq,decide_eq_true_eq]at h3
  rcases h3.2.2 with h4|h4
  ·omega
  ·exact h4
 unfold Rise;rw [List.pairwise_iff_getElem];intro i j hi hj hij;obtain⟨d,rfl⟩:∃d,j=i+d+1:=⟨j-i-1,by omega⟩
 induction d with
 | zero=>exact hs i hj
 | succ d ih =>
  have:=ih (by omega) (by omega);have:=hs (i+d+1) (by omega)
  show g[i].1<g[i+(d+1)+1].1
  have e:i+(d+1)+1=i+d+1+1:=by omega
  simp only [e];omega
theorem zmQ {l:List (Int×Int)} (rl:Rise l) (hl:LnOk l) (hlt:lineL l<lineR l) {z:Int} (h1:lineL l≤z) (h2:z≤lineR l):((-104000:Int):Rat)≤atR l (z:Rat)∧atR l (z:Rat)≤((104000:Int):Rat):=by
 obtain⟨nl,hb,_⟩:=hl
 obtain⟨k,k1,k2,k3,k4⟩:∃k,lineL l≤k∧k<lineR l∧k≤z∧z≤k+1:=by
  by_cases c:z=lineR l
  ·exact⟨z-1,by omega,by omega,by omega,by omega⟩
  ·exact⟨z,by omega,by omega,by omega,by omega⟩
 obtain⟨⟨a,b⟩,he,a1,a2,_⟩:=zbC nl k1 k2;obtain⟨m1,m2,m3,_⟩:=rl.between he;dsimp only at a1 a2 m1 m2 m3;have ba:=hb a m1;have bb:=hb b m2;unfold Bd at ba bb;have q1:((a.1:Int):Rat)≤(z:Rat):=Rat.intCast_le_intCast.2 (by omega);have q2:(z:Rat)≤((b.1:Int):Rat):=Rat.intCast_le_intCast.2 (by omega);rw [zcL rl he q1 q2];have s:=za1 (a,b) (a.1:Rat) (b.1:Rat) (z:Rat);rw [zgL,zfo a b m3]at s
 have w0:(0:Rat)<((b.1:Int):Rat)-((a.1:Int):Rat):=by
  have:=Rat.intCast_lt_intCast.2 m3
  grind
 obtain⟨y,hy⟩:=gX (atE (z:Rat) (a,b));rw [hy]at s ⊢;have u1:((-104000:Int):Rat)≤((a.2:Int):Rat):=Rat.intCast_le_intCast.2 (by omega);have u2:((a.2:Int):Rat)≤((104000:Int):Rat):=Rat.intCast_le_intCast.2 (by omega);have u3:((-104000:Int):Rat)≤((b.2:Int):Rat):=Rat.intCast_le_intCast.2 (by omega);have u4:((b.2:Int):Rat)≤((104000:Int):Rat):=Rat.intCast_le_intCast.2 (by omega);have z1:0≤((b.1:Int):Rat)-(z:Rat):=by grind
 have z2:0≤(z:Rat)-((a.1:Int):Rat):=by grind
 have v1:=Rat.mul_le_mul_of_nonneg_left u1 z1;have v2:=Rat.mul_le_mul_of_nonneg_left u2 z1;have v3:=Rat.mul_le_mul_of_nonneg_left u3 z2;have v4:=Rat.mul_le_mul_of_nonneg_left u4 z2;refine⟨Rat.not_lt.1 fun h=>?_,Rat.not_lt.1 fun h=>?_⟩
 ·have:=Rat.mul_lt_mul_of_pos_left h w0
  grind
 ·have:=Rat.mul_lt_mul_of_pos_left h w0
  grind
theorem ziX {l t:List (Int×Int)} (rl:Rise l) (rt:Rise t) (hl:LnOk l) (ht:LnOk t) (ho:(btw l t).lo<(btw l t).hi):gapT l t≤((208000:Int):Rat):=by
 unfold gapT leastR;obtain⟨hm,he⟩:=zax (gapR (btw l t)) (zaD (btw l t));obtain⟨z,hz,ez⟩:=List.mem_map.1 hm;have hin:=zbc ho hz;rw [he,←ez];unfold btw at ho hin;dsimp only at ho hin;have a:=zmQ rl hl (by omega) (z:=z) (by omega) (by omega);have b:=zmQ rt ht (by omega) (z:=z) (by omega) (by omega);unfold gapR btw;dsimp only;have e1:((208000:Int):Rat)=((104000:Int):Rat)-((-104000:Int):Rat):=by rw [←Rat.intCast_sub];rfl
 rw [e1]
 grind
theorem ziM {g:List (Int×Int)} {ps:List Pl} {p:Pl} (h0:laidP g ps=0) (hp:placedOk p=true) (hh:holdsB g p=true) (hc:clearB g ps p=true):0≤dropR g ps p∧0≤dropP g ps p∧dropP g ps p≤208000:=by
 obtain⟨hok,_,hg⟩:=zaH h0;obtain⟨⟨t,ht,e⟩,_⟩:=zbm (gapT (lowP2 p)) (l:=topsP g ps p) (by unfold topsP;simp);have h1:=zf3 h0 hp hh hc t ht
 have h2:gapT (lowP2 p) t≤((208000:Int):Rat):=by
  unfold topsP at ht
  rcases List.mem_cons.1 ht with e9|ht
  ·rw [e9]
   exact ziX (zar hp).1 (zdG hg) (zam hp).1 (zbl hg) (zbI h0 hp hh hc)
  ·obtain⟨o,ho,rfl⟩:=List.mem_map.1 ht
   obtain⟨ho1,ho2⟩:=List.mem_filter.1 ho;rw [Bool.and_eq_true,beq_iff_eq]at ho2;exact ziX (zar hp).1 (zaJ (hok o ho1)).1 (zam hp).1 (zam (hok o ho1)).2 (zd1 hp (hok o ho1) ho2.2).1
 refine⟨by unfold dropR;rw [e];exact h1,ziO h0 hp hh hc,?_⟩;have h3:=Rat.floor_le (dropR g ps p);have h4:((dropP g ps p:Int):Rat)≤((208000:Int):Rat):=Rat.le_trans h3 (by unfold dropR;rw [e];exact h2);exact Rat.intCast_le_intCast.1 h4
end
section
open Go.RowKit Go.Shelf
attribute [local go_sem] Oper.semAt_some
def fix7 (n:Nat):List UInt8:=[n / 1000000,n / 100000,n / 10000,n / 1000,n / 100,n / 10,n].map fun d=>UInt8.ofNat (48+d % 10)
def chunksF:Nat→Nat→List (List UInt8)
 | 0,_=>[]
 | k+1,n=>if n=0 then []else chunksF k (n / 10000000)++[fix7 (n % 10000000)]
def textN (n:Nat):List UInt8:=if Lib.trimLeftB (chunksF (n+1) n).flatten 48=[]then [48]else Lib.trimLeftB (chunksF (n+1) n).flatten 48
theorem znp (n:Nat):(fix7 n).length=7:=rfl
theorem ziV (n:Nat):(fix7 n).map (fun b=>Value.int .u8 (b.toNat:Int))=[n / 1000000,n / 100000,n / 10000,n / 1000,n / 100,n / 10,n].map fun d=>Value.int .u8 ((48+d % 10:Nat):Int):=by
 unfold fix7;rw [List.map_map];refine List.map_congr_left fun d _=>?_
 have:(UInt8.ofNat (48+d % 10)).toNat=48+d % 10:=UInt8.toNat_ofNat_of_lt' (by simp [UInt8.size];omega);simp only [Function.comp_apply,this]
def fixC (n:Nat):Nat→List Int
 | 0=>[0,0,0,0,0,0,0]
 | i+1=>(fixC n i).set (6-i) ((48+n / 10 ^ i % 10:Nat):Int)
def fixA (n i:Nat):Array V:=((fixC n i).map (Value.int .u8)).toArray
theorem zgX (n:Nat):∀i,(fixC n i).length=7
 | 0=>rfl
 | i+1=>by rw [fixC,List.length_set,zgX n i]
theorem zkK (n:Nat):fixA n 7=((fix7 n).map fun b=>Value.int .u8 (b.toNat:Int)).toArray:=by
 rw [ziV];simp [fixA,fixC]
theorem zkL (n:Nat) {i:Nat} (hi:i<7):(fixA n i).setIfInBounds (6-i) (J .u8 ((48+n / 10 ^ i % 10:Nat):Int))=fixA n (i+1):=by
 unfold fixA;rw [List.setIfInBounds_toArray,fixC,List.map_set]
theorem zgi {k n:Nat} (h:n<k) (h0:n≠0):∃k',k=k'+1∧n / 10000000<k'∧chunksF k n=chunksF k' (n / 10000000)++[fix7 (n % 10000000)]:=by
 obtain⟨k',rfl⟩:∃k',k=k'+1:=⟨k-1,by omega⟩;exact⟨k',rfl,by omega,by rw [chunksF,if_neg h0]⟩
theorem zcj (k:Nat):chunksF k 0=[]:=by cases k<;>simp [chunksF]
def sc (s:List UInt8):List V:=[.string ⟨s.toArray⟩]
def limT:Nat:=100000
def TxS (w:Y) (n0:Nat) (g:Nat) (t3:V) (W:Y):Prop:=
 ∃(n k:Nat) (ps:List (List UInt8)) (a:Option Addr) (m c:Nat),g=n∧n<k∧chunksF (n0+1) n0=chunksF k n++ps∧ps.length≤2*limT∧n*2 ^ (23*ps.length)≤n0∧(∀s∈ps,s.length=7)∧Ext w W ∧
  W.heap[w.heap.size]?=X (.cells #[O a m c] 61 (0,0))∧IsD W (I #[O a m c]) n∧OwnC 9 1 W w.heap.size t3 (ps.map sc)∧w.heap.size<W.heap.size
def TiS (W0:Y) (n:Nat) (b:Nat) (g:Nat) (t6 t25:V) (W:Y):Prop:=
 ∃i:Nat,i≤7∧g=7-i∧t25=J .i64 i∧t6=J .u64 ((n / 10 ^ i:Nat):Int)∧Ext W0 W∧W.heap[b]?=X (.cells (fixA n i) 5 (0,0))
theorem TxS.step {n0 n k:Nat} {ps:List (List UInt8)} (hl:Lm limT n0) (h0:n≠0) (hk:n<k) (hc:chunksF (n0+1) n0=chunksF k n++ps) (hp:n*2 ^ (23*ps.length)≤n0) :
  ∃k',n / 10000000<k'∧chunksF (n0+1) n0=chunksF k' (n / 10000000)++(fix7 (n % 10000000)::ps)∧(fix7 (n % 10000000)::ps).length≤2*limT∧n / 10000000*2 ^ (23*(fix7 (n % 10000000)::ps).length)≤n0:=by
 obtain⟨k',rfl,h1,h2⟩:=zgi hk h0;refine⟨k',h1,by rw [hc,h2,List.append_assoc];rfl,?_,?_⟩
 ·have hn0:(n0:Int)<B ^ limT:=hl.2
  have e:(B:Int) ^ limT=((2 ^ (24*limT):Nat):Int):=by
   rw [Nat.pow_mul];unfold B;rw [Int.natCast_pow];rfl
  rw [e]at hn0;have hn1:n0<2 ^ (24*limT):=by exact_mod_cast hn0
  have h3:2 ^ (23*ps.length)≤n0:=nT (Nat.le_mul_of_pos_left _ (Nat.pos_of_ne_zero h0)) hp;have h4:23*ps.length<24*limT:=(Nat.pow_lt_pow_iff_right (by decide:1<2)).1 (Nat.lt_of_le_of_lt h3 hn1);rw [List.length_cons];unfold limT at *;omega
 ·rw [List.length_cons,Nat.mul_add,Nat.pow_add]
  have:n / 10000000*8388608≤n:=by omega
  have e:n / 10000000*(2 ^ (23*ps.length)*2 ^ (23*1))=(n / 10000000*8388608)*2 ^ (23*ps.length):=by
   rw [show (2:Nat) ^ (23*1)=8388608 from rfl,Nat.mul_comm (2 ^ (23*ps.length)),Nat.mul_assoc]
  exact nT (Nat.le_of_eq e) (nT (Nat.mul_le_mul_right _ this) hp)
theorem zml (W:Y) {x:Int} (h0:0<x) (h1:x<B):IsD (W.alloc (.cells #[J .i64 x] 2)) (I #[O (X ⟨W.heap.size,0,Z⟩) 1 1]) x:=by
 refine⟨_,[x],rfl,⟨rfl,_,1,rfl,nE _,by unfold maxLen;omega,.inr ⟨W.heap.size,0,_,(0,0),rfl,aN _ _,?_⟩⟩,⟨?_,?_⟩,by simp⟩
 ·intro i v hv
  match i,hv with
  | 0,hv=>simpa [lits] using hv
  | i+1,hv=>simp [lits]at hv
 ·intro d hd
  rw [List.mem_singleton.1 hd];exact⟨Int.le_of_lt h0,h1⟩
 ·simp
  omega
theorem zee {P:Program} {T t:TypeId} {k bytes:Nat} {z:V} {w:Y} {base:Nat} {v sl:V} {cs:List (List V)} {ops:Array Oper} {o:Oper} {a:Act} {K:Act→Y→Prop} {Q:Exit→Act→Y→Prop} {E:Prop}
  (hinfo:(P.info? T).map (fun i=>(i.zero,i.size,i.bytes))=X (X z,k,bytes)) (hzs:z.cells.size=k) (hk:0<k) (hby:bytes≤1000) (ht:P.underlying t=X (.slice T)) (hgd:o.guard=Z) (s x:Operand)
  (ho:o.op = .call { callee:=.builtin .append,args:=#[s,x],argTypes:=#[t,t] }) (hs:a.eval s=v) (hown:OwnC T k w base v cs) (hx:a.eval x=sl)
  (ds:List (List V)) (hd:∀c∈ds,c.length=k) (hsrc:Rd w T k sl ds.length ds.flatten) (h1:∀u∈ds.flatten,u.oneCell'=true) (hlen:cs.length+ds.length≤100000000000) (hbase:base≤w.heap.size)
  (h:∀v' w',OwnC T k w' base v' (cs++ds)→w.grownBy w' v.ownBlock→(v'.ownBlock=v.ownBlock∨v'.ownBlock=X w.heap.size)→K (a.put o.dst v') w') :
  if Region.wanted o (yielded ops a.tmps)=true then Oper.wp P o a w K Q else E:=by
 have hw:Region.wanted o (yielded ops a.tmps)=true:=by simp [Region.wanted,hgd]
 rw [if_pos hw];obtain⟨v',w',hrun,h2,h3,h4⟩:=zhn (P:=P) o.type hinfo hzs hk hby ht hown hd hsrc h1 hlen hbase;unfold Oper.wp;simp [execOp,ho,resolve,invoke,builtin,hs,hx,hrun,Result.andThen];exact h v' w' h2 h3 h4
theorem mk7 (W:Y):(Instr.makeSlice 42 (J .i64 7) (J .i64 7)).run Tryz.prog W = .ok (O (X ⟨W.heap.size,0,Z⟩) 7 7) (W.alloc (.cells #[J .u8 0,J .u8 0,J .u8 0,J .u8 0,J .u8 0,J .u8 0,J .u8 0] 5)):=by
 kernel_rfl
theorem conv7 {W:Y} {b q:Nat} {fr:Nat×Nat} (h:W.heap[b]?=X (.cells (fixA q 7) 5 fr)):(convert 42 9 (O (X ⟨b,0,Z⟩) 7 7)).run Tryz.prog W = .ok (.string ⟨(fix7 q).toArray⟩) W:=by
 refine run_convert_bytes_back W 42 9 5 ⟨b,0,Z⟩ 7 (fix7 q) Tryz.underlying42 Tryz.underlying5 Tryz.underlying9 fun j hj=>?_
 have e:((⟨b,0,Z⟩:Addr).add j)=⟨b,j,Z⟩:=by unfold Addr.add;split<;>simp_all
 rw [e];rw [zkK]at h;refine qcB h ?_;rw [List.getElem?_toArray,lP,gE hj];rfl
theorem zm6 {w:Y} {base:Nat} (s:List UInt8) (hb:base≤w.heap.size):OwnC 9 1 (w.alloc (.cells #[.string ⟨s.toArray⟩] 9)) base (O (X ⟨w.heap.size,0,Z⟩) 1 1) [sc s]:=
 ⟨fun c hc=>by rw [List.mem_singleton.1 hc];rfl,⟨by simp [sc],.inr ⟨w.heap.size,1,#[.string ⟨s.toArray⟩],rfl,hb,aN w _,by simp,by simp [maxLen],by simp,by simp [sc]⟩⟩⟩
theorem znb {ps:List (List UInt8)}:∀u∈(ps.map sc).flatten,u.oneCell'=true:=by
 intro u hu;obtain⟨d,hd,hu⟩:=List.mem_flatten.1 hu;obtain⟨p,_,rfl⟩:=List.mem_map.1 hd;rw [List.mem_singleton.1 hu];rfl
theorem zna {ps:List (List UInt8)}:∀c∈ps.map sc,c.length=1:=by
 intro c hc;obtain⟨p,_,rfl⟩:=List.mem_map.1 hc;rfl
theorem zkR:(Tryz.prog.info? 9).map (fun i=>(i.zero,i.size,i.bytes))=X (X (.string ⟨#[]⟩),1,16):=by kernel_rfl
theorem ze1:∀xs:List (List UInt8),Lib.join xs []=xs.flatten
 | []=>rfl
 | [x]=>by simp [Lib.join]
 | x::y::r=>by
  have:=ze1 (y::r);simp only [Lib.join,List.flatten_cons]at this ⊢
  simpa using this
theorem flat7:∀{ps:List (List UInt8)},(∀s∈ps,s.length=7)→ps.flatten.length=7*ps.length
 | [],_=>rfl
 | s::ps,h=>by
  rw [List.flatten_cons,lA,flat7 (fun x hx=>h x (mC _ hx)),h s (by simp),List.length_cons];omega
theorem zj0:∀ps:List (List UInt8),(ps.map sc).flatten=ps.map fun s=>Value.string ⟨s.toArray⟩
 | []=>rfl
 | s::ps=>by
  rw [List.map_cons,List.flatten_cons,zj0 ps,List.map_cons];rfl
theorem zkT (w:Y) (v:V) (base:Nat) (ps:List (List UInt8)) (h:OwnC 9 1 w base v (ps.map sc)) (hl:ps.length≤2*limT) (h7:∀s∈ps,s.length=7) :
  Calls Tryz.prog 163 #[v,.string ⟨#[]⟩] w fun e w'=>e = .returned (.string ⟨ps.flatten.toArray⟩)∧Ext w w':=by
 obtain⟨a,n,c,rfl⟩:=h.form3;have hn:=h.len;rw [lL]at hn;subst hn
 by_cases h0:ps=[]
 ·subst h0
  refine(Tryz.strings_Join_none a c ⟨#[]⟩ w).mono ?_;rintro e w' ⟨rfl,rfl⟩;exact⟨rfl,eR _⟩
 ·have hr:=h.rd
  rw [lL]at hr;obtain⟨bk,o,rfl,hb,_,hc⟩:=hr.open (List.length_pos_iff.2 h0);have hcap:=hr.le;have e1:(ps.map fun s:List UInt8=>(⟨s.toArray⟩:ByteArray)).length=ps.length:=lL ..
  have e2:((ps.map fun s:List UInt8=>(⟨s.toArray⟩:ByteArray)).map (·.data.toList))=ps:=by
   rw [List.map_map]
   conv=>rhs;rw [←List.map_id ps]
   exact List.map_congr_left fun s _=>by simp
  have hf:=flat7 h7
  have h9:=Tryz.strings_Join bk o c (ps.map fun s:List UInt8=>(⟨s.toArray⟩:ByteArray)) ⟨#[]⟩ w (fun j x hx=>by
   rw [lP]at hx
   cases hp:ps[j]? with
   | none=>rw [hp]at hx;cases hx
   | some s =>
    rw [hp]at hx
    cases hx
    refine hc j _ ?_;rw [zj0,lP,hp];rfl) hb (by rw [e1];unfold limT at hl;omega) (by rw [e1];exact hcap.1) (by rw [e2,ze1,hf];unfold limT at hl;omega)
  rw [e1,e2,ze1]at h9;exact h9
theorem ziQ (w:Y) (va:V) (n0:Nat) (ha:IsD w va n0) (hl:Lm limT n0) :
  Calls Tryz.prog 132 #[va] w fun e w'=>e = .returned (.string ⟨(textN n0).toArray⟩)∧Ext w w':=by
 obtain⟨a0,m0,c0,rfl⟩:=ha.form;have Hl:=hd9 hl;have Ha:=hd9 ha;obtain⟨Tx,hTx⟩:=gX (textN n0);rw [hTx];have HTx:=hd9 hTx;clear ha hl hTx;go_enter Tryz.func132,Tryz.ntmps132;go_wp2
 go_loopg [3] n0 (TxS w n0)
 case atStart=>exact⟨n0,n0+1,[],a0,m0,c0,rfl,by omega,by rw [List.append_nil],by simp,by simp,fun s hs=>(by cases hs),(eR _).alloc _,aN _ _,Ha.out.ext ((eR _).alloc _),OwnC.nil _ _ _ _,by simp⟩
 case round =>
  obtain⟨n,k,ps,a,m,c,hg,hk,hck,hpl,hpw,h7,hx,hb,hd,ho,hz⟩:=hrel;have Hx:=hd9 hx;have Hd:=hd9 hd;have k1:=cell_of_one hb;have kf:=free_of_one hb;have kf:=free_of_one hb
  by_cases h0:n=0
  ·have h0b:((n:Int)==0)=true:=by simp [h0]
   have hps:chunksF (n0+1) n0=ps:=by rw [hck,h0,zcj,List.nil_append]
   have HJ:=hd9 (fun(W:Y) (hW:Ext wr W)=>zkT W u3 w.heap.size ps (ho.ext hW) hpl h7);obtain⟨va,vn,vc,rfl⟩:=ho.form3;obtain⟨T,hT⟩:=gX (Lib.trimLeftB ps.flatten 48);have htx:Tx=if T=[]then [48]else T:=by rw [←HTx.out];unfold textN;rw [hps,hT]
   have HT:=hd9 hT;have Htx:=hd9 htx;clear hg hk hck hpl hpw h7 hd ho hps hT htx HTx
   cases T with
   | nil =>
    go_wp2_with(first|((go_at_call 92;(with_reducible refine(zan _ (I #[O a m c]) n ?_).mono ?_);(refine Hd.out.ext ?_;exact eA);rintro e w1 ⟨rfl,hx1⟩))|(go_at_call 163;(with_reducible refine(HJ.out _ ?_).mono ?_);exact eA;rintro e w2 ⟨rfl,hx2⟩)|(go_at_call 162;(with_reducible refine(Tryz.strings_TrimLeft_one _ 48 (by decide) _).mono ?_);rintro e w3 ⟨rfl,rfl⟩;rw [HT.out]))
    go_ret;have e:Tx=[48]:=by have:=Htx.out;simpa using this
    exact⟨by rw [e];rfl,Hx.out.trans eA⟩
   | cons t T =>
    go_wp2_with(first|((go_at_call 92;(with_reducible refine(zan _ (I #[O a m c]) n ?_).mono ?_);(refine Hd.out.ext ?_;exact eA);rintro e w1 ⟨rfl,hx1⟩))|(go_at_call 163;(with_reducible refine(HJ.out _ ?_).mono ?_);exact eA;rintro e w2 ⟨rfl,hx2⟩)|(go_at_call 162;(with_reducible refine(Tryz.strings_TrimLeft_one _ 48 (by decide) _).mono ?_);rintro e w3 ⟨rfl,rfl⟩;rw [HT.out]))
    go_ret;have e:Tx=t::T:=by have:=Htx.out;simpa using this
    exact⟨by rw [e];rfl,Hx.out.trans eA⟩
  ·have h0b:((n:Int)==0)=false:=by simp [h0]
   obtain⟨k',hk1,hk2,hk3,hk4⟩:=TxS.step Hl.out h0 hk hck hpw
   have hln:Lm limA (n:Int):=by
    have h9:=Hl.out;have h8:n≤n0:=nT (Nat.le_mul_of_pos_right _ (Nat.pow_pos (by decide))) hpw;have h7:Lm limA (n0:Int):=h9.mono (by decide);exact⟨by have:=h7.1;have:(0:Int)≤B ^ limA:=Int.le_of_lt (zaB zbA _);omega,by have:=h7.2;omega⟩
   have Hln:=hd9 hln;have Hkk':Hid (n / 10000000<k'∧chunksF (n0+1) n0=chunksF k' (n / 10000000)++(fix7 (n % 10000000)::ps)∧(fix7 (n % 10000000)::ps).length≤2*limT∧n / 10000000*2 ^ (23*(fix7 (n % 10000000)::ps).length)≤n0):=hd9 ⟨hk1,hk2,hk3,hk4⟩;have Hl7:=hd9 (show Lm limA 10000000 from Lm.mono (j:=1) ⟨by decide,by decide⟩ (by decide));clear hln hk1 hk2 hk3 hk4 hck hpl hpw;obtain⟨q0,hq0⟩:=gX (n % 10000000);have hr2:(n:Int) % 10000000=(q0:Int):=by omega
   have hlr:Lm 2 (q0:Int):=⟨by unfold B;omega,by unfold B;omega⟩;have Hlr:=hd9 hlr;clear hlr
   go_upto_region 5 with (first|((go_at_call 92;(with_reducible refine(zan _ (I #[O a m c]) n ?_).mono ?_);(refine Hd.out.ext ?_;exact eA);rintro e w1 ⟨rfl,hx1⟩;obtain⟨hc1,hf1⟩:=hx1.cells;(have z1:w.heap.size<w1.heap.size:=by have:=hx1.size;omega)))|((go_at_call 139;(with_reducible refine(zhf _ (I #[O a m c]) (I #[O (X ⟨w1.heap.size,0,Z⟩) 1 1]) n 10000000 ?_ ?_ Hln.out Hl7.out (by decide)).mono ?_);(refine Hd.out.ext ?_;exact eA);(exact zml w1 (by decide) (by decide));rintro e w2 ⟨q,r,rfl,hq,hr,hx2⟩;rw [hr2]at hr;obtain⟨⟨aq,mq,cq,rfl⟩,⟨ar,mr,cr,rfl⟩⟩:=And.intro hq.isD.form hr.isD.form;obtain⟨hc2,hf2⟩:=hx2.cells;(have z2:w.heap.size<w2.heap.size:=by have:=hx2.size;simp only [wZ]at this;omega)))|((go_at_call 107;(with_reducible refine(zcI _ (I #[O ar mr cr]) (q0:Int) ?_ Hlr.out).mono ?_);(refine hr.isD.ext ?_;exact eA);rintro e w3 ⟨rfl,hx3⟩;(have z3:w2.heap.size+1+1≤w3.heap.size:=by have:=hx3.size;simp only [wZ]at this;omega))))
   clear hc1 hf1 hc2 hf2;have X3:Ext wr w3:=eA;obtain⟨wo,rfl⟩:∃W,W=wr:=⟨_,rfl⟩;have hmk:=mk7;go_wp2
   go_loopg [6,25] 7 (TiS w3 q0 w3.heap.size)
   case atStart=>exact⟨0,by omega,rfl,rfl,by rw [Nat.pow_zero,Nat.div_one],(eR _).alloc _,aN _ _⟩
   case round =>
    obtain⟨i,hi,hgi,rfl,rfl,hxi,hbi⟩:=hrel
    by_cases hlt:i<7
    ·obtain⟨x,hxx⟩:=gX (q0 / 10 ^ i)
     rw [hxx]
     have hxl:x<10000000:=by
      have:q0 / 10 ^ i≤q0:=Nat.div_le_self _ _;omega
     obtain⟨j,hj⟩:=gX (6-i);obtain⟨u,hu⟩:∃u,(fixA q0 i)[j]?=X u:=⟨_,Array.getElem?_eq_getElem (by unfold fixA;rw [List.size_toArray,lL,zgX];omega)⟩;have ki:=qcB hbi hu;have kif:=qfB hbi;have e6:IntKind.i64.wrap (6-(i:Int))=(j:Int):=by rw [iW _ (by omega)];omega
     obtain⟨y,hy⟩:=gX (48+x % 10);have e7:IntKind.u64.wrap (48+(x:Int) % 10)=(y:Int):=by rw [IntWalk.u64_in _ (by omega)];omega
     have e8:IntKind.u8.wrap (y:Int)=(y:Int):=IntWalk.u8_in _ (by omega);have z9:=hxi.size;go_wp2
     go_roundg (7-(i+1))
     case measure=>omega
     case rel =>
      refine⟨i+1,by omega,rfl,by go_num,?_,hxi.set (nE _) _,?_⟩
      ·rw [show q0 / 10 ^ (i+1)=x / 10 by rw [Nat.pow_succ,←Nat.div_div_eq_div_mul,hxx]]
       simp
      ·have h9:=zkL q0 hlt
       rw [hxx,hy,hj]at h9;rw [←h9];simp [World.setCell,Array.getElem?_modify,hbi]
    ·obtain rfl:i=7:=by omega
     have Hbi:=hd9 hbi;clear hbi
     go_upto_region 12 with fail
     have hcv:(convert 42 9 (O (X ⟨w3.heap.size,0,Z⟩) 7 7)).run Tryz.prog wr.drew = .ok (.string ⟨(fix7 q0).toArray⟩) wr.drew:=conv7 (W:=wr.drew) Hbi.out
     have c4:wr.cell? ⟨w2.heap.size,0,Z⟩=X (O aq mq cq):=by
      have h1:(w2.alloc (.cells #[O aq mq cq] 61)).cell? ⟨w2.heap.size,0,Z⟩=X (O aq mq cq):=by go_simp
      exact hxi.cellS (hx3.cellS (Ext.cellS ((eR _).alloc _) h1))
     refine wp_region_held_drew (S:=CellL [(⟨w2.heap.size,0,Z⟩,O aq mq cq)]) (by kernel_rfl) cA (fun h9H=>?_);refine tk1 (i:=0) ?_;refine tk1 (i:=3) ?_;refine tk1 (i:=5) ?_;refine cl1 (i:=1) fun K hK=>?_
     go_simp;refine kO hK h9H (fun h9H=>?_);clear hK K hcv;refine cl1 (i:=2) fun K hK=>?_
     go_simp;refine kO hK (cE h9H ((eR _).alloc _)) (fun h9H=>?_);clear hK K;refine cl1 (i:=4) fun K hK=>?_
     have hA:Ext w wr:=Hx.out.trans (X3.trans hxi);refine zee (T:=9) (t:=228) (z:=.string ⟨#[]⟩) (k:=1) (bytes:=16) (v:=O (X ⟨wr.heap.size,0,Z⟩) 1 1) (base:=w.heap.size) zkR rfl (by decide) (by decide) Tryz.underlying228 rfl _ _ rfl rfl (zm6 (fix7 q0) hA.size) rfl (ps.map sc) zna ((ho.ext (((X3.trans hxi).alloc _).drew)).rd) znb ?_ ?_ ?_
     ·rw [lL,List.length_singleton]
      have h9:=Hkk'.out.2.2.1;unfold limT at h9;rw [List.length_cons]at h9;omega
     ·have:=hA.size
      simp only [qdZ,wZ];omega
     intro v' w9 hown9 hgrow hlie;obtain⟨a9,n9,c9,rfl⟩:=hown9.form3;have zb:w2.heap.size<wr.heap.size:=by have:=hxi.size;omega
     refine kO hK (CellL.grown h9H hgrow (fun q hq e=>?_)) (fun h9H=>?_)
     ·have h9:wr.heap.size=w2.heap.size:=by
       simp at hq;subst hq;exact Option.some.inj e.symm
      omega
     clear hK K;have X9:Ext wr w9:=(((eR wr).alloc (.cells #[.string ⟨(fix7 q0).toArray⟩] 9)).drew).thenB (zad (base:=wr.heap.size) hgrow (by simp only [qdZ,wZ];omega) (fun k hk=>by cases hk;exact nE _)) (nE _);have hb9:w9.heap[w.heap.size]?=X (.cells #[O a m c] 61 (0,0)):=((X3.trans hxi).trans X9).heapS hb;have kb9:=cell_of_one hb9;have kf9:=free_of_one hb9;refine tk1 (i:=6) ?_
     have hq9:IsD w9 (I #[O aq mq cq]) ((n / 10000000:Nat):Int):=by
      have h9:IsD w2 (I #[O aq mq cq]) ((n / 10000000:Nat):Int):=by rw [show ((n / 10000000:Nat):Int)=(n:Int) / 10000000 by omega];exact hq.isD
      exact((h9.ext ((((eR _).alloc _).alloc _).trans hx3)).ext hxi).ext X9
     have hT:KeepT 2 w9 (w9.setCell ⟨w.heap.size,0,Z⟩ (O aq mq cq)):=(KeepT.refl _ w9).set hb9 (by decide) _;have hT2:KeepT 9 w9 (w9.setCell ⟨w.heap.size,0,Z⟩ (O aq mq cq)):=(KeepT.refl _ w9).set hb9 (by decide) _
     have hne:∀q∈[((⟨w2.heap.size,0,Z⟩:Addr),Value.slice aq mq cq)],(⟨w.heap.size,0,Z⟩:Addr).block≠q.1.block:=by
      intro q hq;simp at hq;subst hq;dsimp only;omega
     refine cl1 (i:=7) fun K hK=>?_
     go_simp;refine kO hK (CellL.set h9H hne _) (fun h9H=>?_);clear hK K;refine wpAnyH_done (by kernel_rfl) ?_ _;go_wp2;have Hb9:=hd9 hb9
     go_roundg (n / 10000000)
     case measure=>omega
     case rel =>
      obtain⟨g1,g2,g3,g4⟩:=Hkk'.out;rw [hq0]at g2 g3 g4;refine⟨n / 10000000,k',fix7 q0::ps,aq,mq,cq,rfl,g1,g2,g3,g4,?_,?_,?_,?_,?_,?_⟩
      ·intro s hs
       rcases List.mem_cons.1 hs with rfl|hs
       ·rfl
       ·exact h7 s hs
      ·exact Ext.set (p:=⟨w.heap.size,0,Z⟩) (hA.trans X9) (nE _) _
      ·exact one_setCell Hb9.out
      ·exact hq9.keep hT
      ·exact hown9.keep hT2
      ·have:=hA.size
       have:=X9.size;simp;omega
def textZ (n:Int):List UInt8:=if n<0 then 45::textN n.natAbs else textN n.natAbs
def textR (q:Rat):List UInt8:=if q.den=1 then textZ q.num else textZ q.num++(47::textZ q.den)
def textV (x z:Rat):List UInt8:=40::(textR x++(44::32::(textR z++[41])))
theorem zev:∀(k n:Nat),n<k→n≠0→0<(chunksF k n).length∧2 ^ (23*((chunksF k n).length-1))≤n
 | 0,_,h,_=>by omega
 | k+1,n,h,h0=>by
  rw [chunksF,if_neg h0,lA,List.length_singleton];refine⟨by omega,?_⟩;rw [Nat.add_sub_cancel]
  by_cases h1:n / 10000000=0
  ·rw [h1,zcj]
   simp;omega
  ·obtain⟨g1,g2⟩:=zev k (n / 10000000) (by omega) h1
   obtain⟨L,hL⟩:∃L,(chunksF k (n / 10000000)).length=L+1:=⟨_,(Nat.succ_pred_eq_of_pos g1).symm⟩;rw [hL]at g2 ⊢;rw [Nat.add_sub_cancel]at g2;rw [Nat.mul_add,Nat.pow_add,show (2:Nat) ^ (23*1)=8388608 from rfl];have:n / 10000000*8388608≤n:=by omega
   exact nT (Nat.mul_le_mul_right _ g2) this
theorem zc3:∀(k n:Nat),∀s∈chunksF k n,s.length=7
 | 0,_,s,h=>by simp [chunksF]at h
 | k+1,n,s,h=>by
  unfold chunksF at h
  split at h
  ·cases h
  ·rcases List.mem_append.1 h with h|h
   ·exact zc3 k _ s h
   ·rw [List.mem_singleton.1 h];rfl
theorem zef {n:Nat} (h:Lm limT (n:Int)):(textN n).length≤20*limT:=by
 have h1:(chunksF (n+1) n).length≤2*limT:=by
  by_cases h0:n=0
  ·rw [h0,zcj];exact Nat.zero_le _
  ·obtain⟨g1,g2⟩:=zev (n+1) n (by omega) h0
   have hn0:(n:Int)<B ^ limT:=h.2
   have e:(B:Int) ^ limT=((2 ^ (24*limT):Nat):Int):=by
    rw [Nat.pow_mul];unfold B;rw [Int.natCast_pow];rfl
   rw [e]at hn0;have hn1:n<2 ^ (24*limT):=by exact_mod_cast hn0
   have h4:23*((chunksF (n+1) n).length-1)<24*limT:=(Nat.pow_lt_pow_iff_right (by decide:1<2)).1 (Nat.lt_of_le_of_lt g2 hn1);unfold limT at *;omega
 have h2:=flat7 (zc3 (n+1) n);have h3:(Lib.trimLeftB (chunksF (n+1) n).flatten 48).length≤(chunksF (n+1) n).flatten.length:=List.IsSuffix.length_le (List.dropWhile_suffix _);unfold textN
 split
 ·unfold limT;simp
 ·omega
theorem zcF {n:Int} (h:Lm limT n):(textZ n).length≤21*limT:=by
 have:=zef (n:=n.natAbs) h.abs;unfold textZ
 split
 ·rw [List.length_cons];unfold limT at *;omega
 ·omega
theorem zf1 {q:Rat} (h:Rb limT q):(textR q).length≤43*limT:=by
 have h1:=zcF h.1;have h2:=zcF h.2;unfold textR
 split
 ·omega
 ·rw [lA,List.length_cons]
  unfold limT at *;omega
theorem zco (a b:List UInt8):(⟨a.toArray⟩:ByteArray)++(⟨b.toArray⟩:ByteArray)=⟨(a++b).toArray⟩:=by
 apply ByteArray.ext
 rw [ByteArray.data_append];simp
theorem zgd (w:Y) (v:V) (n:Int) (h:IsZ w v n) (hl:Lm limT n) :
  Calls Tryz.prog 93 #[v] w fun e w'=>e = .returned (.string ⟨(textZ n).toArray⟩)∧Ext w w':=by
 obtain⟨a,m,c,s,rfl⟩:=h.form;have HD:=hd9 (fun(W:Y) (hW:Ext w W)=>ziQ W (I #[O a m c]) n.natAbs (h.dig.ext hW) hl.abs);have hs:=h.sgn;unfold textZ;clear h
 cases s with
 | true =>
  have hn:n<0:=by simpa using hs.symm
  rw [if_pos hn];obtain⟨T,hT⟩:=gX (textN n.natAbs);rw [hT]at HD ⊢;have hTl:T.length≤20*limT:=by rw [←hT];exact zef hl.abs
  unfold limT at hTl;clear hs hn hT hl;go_enter Tryz.func93,Tryz.ntmps93
  go_wp2_with((go_at_call 132;(with_reducible refine(HD.out _ ?_).mono ?_);exact eA;rintro e w1 ⟨rfl,hx1⟩))
  go_ret;exact⟨by rw [show (⟨#[45]⟩:ByteArray)=⟨[45].toArray⟩from rfl,zco];rfl,eA⟩
 | false =>
  have hn:¬n<0:=by simpa using hs.symm
  rw [if_neg hn];obtain⟨T,hT⟩:=gX (textN n.natAbs);rw [hT]at HD ⊢;have hTl:T.length≤20*limT:=by rw [←hT];exact zef hl.abs
  unfold limT at hTl;clear hs hn hT hl;go_enter Tryz.func93,Tryz.ntmps93
  go_wp2_with((go_at_call 132;(with_reducible refine(HD.out _ ?_).mono ?_);exact eA;rintro e w1 ⟨rfl,hx1⟩))
  go_ret;exact⟨rfl,eA⟩
theorem zfU (w:Y) (v:V) (q:Rat) (h:IsR w v q) (hl:Rb limT q) :
  Calls Tryz.prog 36 #[v] w fun e w'=>e = .returned (.string ⟨(textR q).toArray⟩)∧Ext w w':=by
 obtain⟨a,m,c,s,a2,m2,c2,rfl⟩:=h.form;have HN:=hd9 (fun(W:Y) (hW:Ext w W)=>zan W (I #[O a2 m2 c2]) _ (h.rest.ext hW));have HZ:=hd9 (fun(W:Y) (hW:Ext w W)=>zgd W (I #[O a m c,M s]) q.num (h.top.ext hW) hl.1);have HB:=hd9 (fun(W:Y) (hW:Ext w W)=>zas W _ q (h.ext hW) (hl.mono (by decide)));have HD:=hd9 (fun(W:Y) (v:V) (hv:IsZ W v (q.den:Int))=>zgd W v (q.den:Int) hv hl.2);have l1:=zcF hl.1;have l2:=zcF hl.2;unfold textR;obtain⟨T1,hT1⟩:=gX (textZ q.num);obtain⟨T2,hT2⟩:=gX (textZ (q.den:Int));rw [hT1]at HZ l1 ⊢;rw [hT2]at HD l2 ⊢;unfold limT at l1 l2;obtain⟨d,hd⟩:=gX q.den;rw [hd]at HN HB HD ⊢;clear hT1 hT2 hd h hl
 by_cases h1:d=1
 ·have e1:(((d:Nat):Int)-1==0)=true:=by simp [h1]
  rw [e1]at HN;rw [if_pos h1];clear e1 h1;go_enter Tryz.func36,Tryz.ntmps36
  go_wp2_with(first|(go_at_call 92;(with_reducible refine(HN.out _ ?_).mono ?_);exact eA;rintro e w1 ⟨rfl,hx1⟩;obtain⟨hc1,hf1⟩:=hx1.cells)|(go_at_call 93;(with_reducible refine(HZ.out _ ?_).mono ?_);exact eA;rintro e w2 ⟨rfl,hx2⟩))
  go_ret;exact⟨rfl,eA⟩
 ·have e1:(((d:Nat):Int)-1==0)=false:=by simp;omega
  rw [e1]at HN;rw [if_neg h1];clear e1 h1;go_enter Tryz.func36,Tryz.ntmps36;have g1:¬9223372036854775807<T1.length+1:=by omega
  have g2:¬9223372036854775807<T1.length+1+T2.length:=by omega
  go_upto_region 3 with (first|(go_at_call 92;(with_reducible refine(HN.out _ ?_).mono ?_);exact eA;rintro e w1 ⟨rfl,hx1⟩;obtain⟨hc1,hf1⟩:=hx1.cells))
  refine wp_region_held_drew (S:=CellL [(⟨w.heap.size,0,Z⟩,O a m c),(⟨w.heap.size,1,Z⟩,M s),(⟨w.heap.size,2,Z⟩,O a2 m2 c2)]) (by kernel_rfl) cA (fun h9H=>?_);refine sN 0 ?_
  iterate 2
   refine tkn ?_
  refine oN ?_;refine tk1 (i:=4) ?_;refine cl1 (i:=2) fun K hK=>?_
  go_simp
  (with_reducible refine cM (HZ.out _ eA) ?_)
  rintro e w2 ⟨rfl,hx2⟩
  skip
  go_wp2_with fail
  refine kO hK (cE h9H hx2) (fun h9H=>?_);clear hK K;have X2:Ext w w2:=eA;refine tk1 (i:=3) ?_;refine cl1 (i:=5) fun K hK=>?_
  go_simp
  (with_reducible refine cM (HB.out _ X2) ?_)
  rintro e w5 ⟨r5,rfl,hr5,hx5⟩;obtain⟨a5,m5,c5,s5,rfl⟩:=hr5.form
  go_wp2_with fail
  refine kO hK (cE h9H hx5) (fun h9H=>?_);clear hK K;have X5:Ext w w5:=X2.trans hx5;refine cl1 (i:=6) fun K hK=>?_
  go_simp
  (with_reducible refine cM (HD.out _ _ hr5) ?_)
  rintro e w6 ⟨rfl,hx6⟩
  skip
  go_wp2_with fail
  refine kO hK (cE h9H hx6) (fun h9H=>?_);clear hK K;refine sN 7 ?_
  iterate 2
   refine tkn ?_
  refine oN ?_;refine wpAnyH_done (by kernel_rfl) ?_ _;go_wp2;go_ret;exact⟨by rw [show (⟨#[47]⟩:ByteArray)=⟨[47].toArray⟩from rfl,zco,zco];simp,X5.trans hx6⟩
theorem zf7 (w:Y) (vx vz:V) (x z:Rat) (hx:IsR w vx x) (hz:IsR w vz z) (hlx:Rb limT x) (hlz:Rb limT z) :
  ∀v,(∃a m c s a2 m2 c2 a' m' c' s' a2' m2' c2',vx=I #[O a m c,M s,O a2 m2 c2]∧vz=I #[O a' m' c',M s',O a2' m2' c2']∧v=I #[O a m c,M s,O a2 m2 c2,O a' m' c',M s',O a2' m2' c2']) →
  Calls Tryz.prog 37 #[v] w fun e w'=>e = .returned (.string ⟨(textV x z).toArray⟩)∧Ext w w':=by
 rintro v ⟨a,m,c,s,a2,m2,c2,a',m',c',s',a2',m2',c2',rfl,rfl,rfl⟩;have HX:=hd9 (fun(W:Y) (hW:Ext w W)=>zfU W _ x (hx.ext hW) hlx);have HZ:=hd9 (fun(W:Y) (hW:Ext w W)=>zfU W _ z (hz.ext hW) hlz);have l1:=zf1 hlx;have l2:=zf1 hlz;unfold textV;obtain⟨T1,hT1⟩:=gX (textR x);obtain⟨T2,hT2⟩:=gX (textR z);rw [hT1]at HX l1 ⊢;rw [hT2]at HZ l2 ⊢;unfold limT at l1 l2;clear hT1 hT2 hx hz hlx hlz;have g1:¬9223372036854775807<1+T1.length:=by omega
 have g2:¬9223372036854775807<1+T1.length+2:=by omega
 have g3:¬9223372036854775807<1+T1.length+2+T2.length:=by omega
 have g4:¬9223372036854775807<1+T1.length+2+T2.length+1:=by omega
 go_enter Tryz.func37,Tryz.ntmps37;go_wp2;refine wp_region_held_drew (S:=CellL [(⟨w.heap.size,0,Z⟩,O a m c),(⟨w.heap.size,1,Z⟩,M s),(⟨w.heap.size,2,Z⟩,O a2 m2 c2),(⟨w.heap.size,3,Z⟩,O a' m' c'),(⟨w.heap.size,4,Z⟩,M s'),(⟨w.heap.size,5,Z⟩,O a2' m2' c2')]) (by kernel_rfl) cA (fun h9H=>?_);refine sN 0 ?_
 iterate 2
  refine tkn ?_
 refine oN ?_;refine sN 5 ?_
 iterate 2
  refine tkn ?_
 refine oN ?_;refine cl1 (i:=2) fun K hK=>?_
 go_simp
 (with_reducible refine cM (HX.out _ eA) ?_)
 rintro e w2 ⟨rfl,hx2⟩
 skip
 go_wp2_with fail
 refine kO hK (cE h9H hx2) (fun h9H=>?_);clear hK K;have X2:Ext w w2:=eA;refine sN 3 ?_
 iterate 2
  refine tkn ?_
 refine oN ?_;refine cl1 (i:=7) fun K hK=>?_
 go_simp
 (with_reducible refine cM (HZ.out _ X2) ?_)
 rintro e w7 ⟨rfl,hx7⟩
 skip
 go_wp2_with fail
 refine kO hK (cE h9H hx7) (fun h9H=>?_);clear hK K;refine sN 8 ?_
 iterate 3
  refine tkn ?_
 refine oN ?_;refine wpAnyH_done (by kernel_rfl) ?_ _;go_wp2;go_ret;exact⟨by rw [show (⟨#[40]⟩:ByteArray)=⟨[40].toArray⟩from rfl,show (⟨#[44,32]⟩:ByteArray)=⟨[44,32].toArray⟩from rfl,show (⟨#[41]⟩:ByteArray)=⟨[41].toArray⟩from rfl,zco,zco,zco,zco];simp,X2.trans hx7⟩
end
section
open Go.RowKit Go.Shelf Go.Sort Go.Lib
def exA:Pl:=brickP ⟨#[97]⟩ 0 0
def exB:Pl:=brickP ⟨#[98]⟩ 200 0
def exC:Pl:=brickP ⟨#[99]⟩ 100 80
def exD:Pl:=brickP ⟨#[100]⟩ 50 300
theorem zdP:lowP2 exA=[(0,0),(0+200,0)]:=by
 unfold exA lowP2 lineOf;rw [show lowRaw (cornersP (brickP ⟨#[97]⟩ 0 0)) (cornersP (brickP ⟨#[97]⟩ 0 0)).length=[(0,0),(0+200,0)] by decide,zbu (List.Perm.refl _) (by decide) (by decide)]
 decide
theorem zhq:upP2 exA=[(0,0+80),(0+200,0+80)]:=by
 unfold exA upP2 lineOf;rw [show upRaw (cornersP (brickP ⟨#[97]⟩ 0 0)) (cornersP (brickP ⟨#[97]⟩ 0 0)).length=[(0+200,0+80),(0,0+80)] by decide,zbu (List.Perm.swap _ _ _) (by decide) (by decide)]
 decide
theorem zlI:placedOk exA=true:=by decide +kernel
theorem zdQ:lowP2 exB=[(200,0),(200+200,0)]:=by
 unfold exB lowP2 lineOf;rw [show lowRaw (cornersP (brickP ⟨#[98]⟩ 200 0)) (cornersP (brickP ⟨#[98]⟩ 200 0)).length=[(200,0),(200+200,0)] by decide,zbu (List.Perm.refl _) (by decide) (by decide)]
 decide
theorem zhr:upP2 exB=[(200,0+80),(200+200,0+80)]:=by
 unfold exB upP2 lineOf;rw [show upRaw (cornersP (brickP ⟨#[98]⟩ 200 0)) (cornersP (brickP ⟨#[98]⟩ 200 0)).length=[(200+200,0+80),(200,0+80)] by decide,zbu (List.Perm.swap _ _ _) (by decide) (by decide)]
 decide
theorem zlJ:placedOk exB=true:=by decide +kernel
theorem ze9:lowP2 exC=[(100,80),(100+200,80)]:=by
 unfold exC lowP2 lineOf;rw [show lowRaw (cornersP (brickP ⟨#[99]⟩ 100 80)) (cornersP (brickP ⟨#[99]⟩ 100 80)).length=[(100,80),(100+200,80)] by decide,zbu (List.Perm.refl _) (by decide) (by decide)]
 decide
theorem zhs:upP2 exC=[(100,80+80),(100+200,80+80)]:=by
 unfold exC upP2 lineOf;rw [show upRaw (cornersP (brickP ⟨#[99]⟩ 100 80)) (cornersP (brickP ⟨#[99]⟩ 100 80)).length=[(100+200,80+80),(100,80+80)] by decide,zbu (List.Perm.swap _ _ _) (by decide) (by decide)]
 decide
theorem znH:placedOk exC=true:=by decide +kernel
theorem zjo:lowP2 exD=[(50,300),(50+200,300)]:=by
 unfold exD lowP2 lineOf;rw [show lowRaw (cornersP (brickP ⟨#[100]⟩ 50 300)) (cornersP (brickP ⟨#[100]⟩ 50 300)).length=[(50,300),(50+200,300)] by decide,zbu (List.Perm.refl _) (by decide) (by decide)]
 decide
theorem zlQ:upP2 exD=[(50,300+80),(50+200,300+80)]:=by
 unfold exD upP2 lineOf;rw [show upRaw (cornersP (brickP ⟨#[100]⟩ 50 300)) (cornersP (brickP ⟨#[100]⟩ 50 300)).length=[(50+200,300+80),(50,300+80)] by decide,zbu (List.Perm.swap _ _ _) (by decide) (by decide)]
 decide
theorem zm4:placedOk exD=true:=by decide +kernel
theorem zm8:relP exA exB=1:=by
 unfold relP;rw [zdP,zdQ]
 decide
def ex3:List Pl:=[exA,exB,exC]
theorem ze2:laidP exG ex3=0:=by
 unfold ex3 laidP;simp only [laid1,laid2,addE,clearB,clashB,List.any_cons,List.any_nil,List.nil_append,List.cons_append,relP,freeB,leastR,stopsR,stopsZ,zcy,holdsB,zdP,zdQ,ze9,zhq,zhr,zhs]
 decide +kernel
theorem zlZ:dropP exG ex3 exD=140:=by
 unfold dropP dropR topsP ex3;simp only [List.filter,List.map_cons,List.map_nil,minG,List.foldl_cons,List.foldl_nil,gapT,relP,freeB,leastR,stopsR,stopsZ,zcy,zdP,zdQ,ze9,zjo,zhq,zhr,zhs,zlQ]
 decide +kernel
instance:DecidableEq Be:=fun⟨a,b,c,d,e,f,g⟩ ⟨a',b',c',d',e',f',g'⟩=>decidable_of_iff (a=a'∧b=b'∧c=c'∧d=d'∧e=e'∧f=f'∧g=g') (by simp)
theorem zlX:bedsN exG ex3 2 exC 0 4=[⟨0,100,80,200,80,(1,0),(1,0)⟩,⟨1,200,80,300,80,(1,0),(1,0)⟩]:=by
 unfold bedsN ex3;simp only [bedAt,bedO,reachP,reachNo,leastR,stopsR,stopsZ,zcy,zdP,zdQ,ze9,zhq,zhr,zhs]
 decide +kernel
theorem zmA:textV 100 80=[40,49,48,48,44,32,56,48,41]:=by decide +kernel
end
end Go.Proofs.YtodpfeaihohpjaaGreatDoor.Cop
