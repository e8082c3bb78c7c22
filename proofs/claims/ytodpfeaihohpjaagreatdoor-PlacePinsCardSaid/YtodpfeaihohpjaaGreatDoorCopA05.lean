/- Part 6: contracts of what the law calls. -/
import Derived.Test.YtodpfeaihohpjaaGreatDoorCopA04
import Derived.Shelf.SlSortCmp.WholeK
import Derived.Deep.LoopGhost
set_option maxRecDepth 1000000
set_option maxHeartbeats 16000000
set_option linter.unusedSimpArgs false
set_option linter.unusedVariables false
open Go.Value renaming slice→O,bool→X,int→M,agg→N
open Option renaming some→Y,none→Z
open Go renaming Value→V,World→I,Addr→H
open Go.IntKind renaming i64→J
open Go.Obj renaming cells→C
namespace Go.Proofs.YtodpfeaihohpjaaGreatDoor.Cop
section
open Go.RowKit Go.Shelf
theorem Ext.useLt {a b:I} (h:Ext a b) {n:Nat} {G:Prop} (hn:n<a.heap.size) (k:n<b.heap.size→G):G:=k (h.lt hn)
theorem Lm.mul {j k:Nat} {x y:Int} (h:Lm j x) (h':Lm k y):Lm (j+k) (x*y):=by
 have e:B ^ (j+k)=B ^ j*B ^ k:=by rw [Int.pow_add]
 have p1:=zaB zbA j;have p2:=zaB zbA k;unfold Lm at *;have hx:(x.natAbs:Int)<B ^ j:=by omega
 have hy:(y.natAbs:Int)<B ^ k:=by omega
 have h3:((x*y).natAbs:Int)<B ^ (j+k):=by
  rw [Int.natAbs_mul,e,Int.natCast_mul];exact Int.lt_of_le_of_lt (Int.mul_le_mul_of_nonneg_left (Int.le_of_lt hy) (by omega)) (Int.mul_lt_mul_of_pos_right hx p2)
 omega
theorem Lm.add {k:Nat} {x y:Int} (h:Lm k x) (h':Lm k y):Lm (k+1) (x+y):=by
 have e:B ^ (k+1)=B ^ k*16777216:=by rw [Int.pow_succ];rfl
 unfold Lm at *;rw [e];omega
theorem zeI (p q:Rat):Rat.divInt (p.num*q.den+q.num*p.den) ((p.den:Int)*q.den)=p+q:=by
 rw [Rat.add_def',←Rat.divInt_ofNat,Int.natCast_mul]
theorem zeK (p q:Rat):Rat.divInt (p.num*q.num) ((p.den:Int)*q.den)=p*q:=by
 rw [Rat.mul_def',←Rat.divInt_ofNat,Int.natCast_mul]
theorem zeJ (p q:Rat):Rat.divInt (p.num*q.den) ((p.den:Int)*q.num)=p / q:=by
 rw [Rat.div_def,Rat.inv_def,←Rat.divInt_mul_divInt,Rat.num_divInt_den]
theorem zhM (p q:Rat):(p.den:Int)*q.den≠0:=by
 have:=Int.mul_pos (den_pos p) (den_pos q);omega
theorem Rb.add {k:Nat} {p q:Rat} (h:Rb k p) (h':Rb k q):Rb (2*k+1) (p+q):=by
 rw [←zeI];refine⟨zjy (zhM p q) ?_,zgQ (zhM p q) ((Lm.mul h.2 h'.2).mono (by omega))⟩;rw [show 2*k+1=(k+k)+1 by omega];exact(h.1.mul h'.2).add (h'.1.mul h.2)
theorem Rb.mul {j k:Nat} {p q:Rat} (h:Rb j p) (h':Rb k q):Rb (j+k) (p*q):=by
 rw [←zeK];exact⟨zjy (zhM p q) (h.1.mul h'.1),zgQ (zhM p q) (h.2.mul h'.2)⟩
theorem Rb.neg {k:Nat} {p:Rat} (h:Rb k p):Rb k (-p):=⟨h.1.neg,h.2⟩
theorem Rb.sub {k:Nat} {p q:Rat} (h:Rb k p) (h':Rb k q):Rb (2*k+1) (p-q):=by
 rw [Rat.sub_eq_add_neg];exact h.add h'.neg
theorem Rb.int {k:Nat} {n:Int} (h:Lm k n) (hk:1≤k):Rb k (n:Rat):=⟨h,zg7 hk⟩
theorem Rb.div {j k:Nat} {p q:Rat} (h:Rb j p) (h':Rb k q) (hk:1≤j+k):Rb (j+k) (p / q):=by
 by_cases hq:q=0
 ·subst hq
  have:p / 0=((0:Int):Rat):=by rw [Rat.div_def,Rat.inv_zero,Rat.mul_zero];rfl
  rw [this];exact Rb.int (by have:=zaB zbA (j+k);unfold Lm;omega) hk
 ·have hn:q.num≠0:=fun e=>hq (by rw [←Rat.num_divInt_den q,e];simp)
  have hd:(p.den:Int)*q.num≠0:=Int.mul_ne_zero (by have:=den_pos p;omega) hn;rw [←zeJ];exact⟨zjy hd (h.1.mul h'.2),zgQ hd (h.2.mul h'.1)⟩
def rcmp (p q:Rat):Int:=(p.num*q.den-q.num*p.den).sign
theorem zbx (p q:Rat):rcmp p q<0 ↔ p<q:=by
 unfold rcmp;rw [Rat.lt_iff,Int.sign_neg_iff];omega
theorem zcl (p q:Rat):0<rcmp p q ↔ q<p:=by
 unfold rcmp;rw [Rat.lt_iff,Int.sign_pos_iff];omega
def S3R (w:I) (a:Option H) (m c:Nat) (s:Bool) (a2:Option H) (m2 c2:Nat) (a':Option H) (m' c':Nat) (s':Bool) (a2':Option H) (m2' c2':Nat) (W:I):Prop:=
 W.cell? ⟨w.heap.size,0,Z⟩=Y (O a m c)∧W.cell? ⟨w.heap.size,1,Z⟩=Y (X s)∧W.cell? ⟨w.heap.size,2,Z⟩=Y (O a2 m2 c2)∧W.cell? ⟨w.heap.size+1,0,Z⟩=Y (O a' m' c')∧W.cell? ⟨w.heap.size+1,1,Z⟩=Y (X s')∧W.cell? ⟨w.heap.size+1,2,Z⟩=Y (O a2' m2' c2')
theorem zao (w:I) (va vb:V) (p q:Rat) (ha:IsR w va p) (hb:IsR w vb q) (hba:Rb limR p) (hbb:Rb limR q) :
  Calls Tryz.prog 19 #[va,vb] w fun e w'=>e = .returned (M J (rcmp p q))∧Ext w w':=by
 obtain⟨a,m,c,s,a2,m2,c2,rfl⟩:=ha.form;obtain⟨a',m',c',s',a2',m2',c2',rfl⟩:=hb.form;have HBa:=hd9 hba;have HBb:=hd9 hbb;have hta:=ha.top;have htb:=hb.top;have HL1:Hid (Lm lim p.num):=hd9 (hba.1.mono (by decide));have HL2:Hid (Lm lim q.num):=hd9 (hbb.1.mono (by decide));have HL3:Hid (Lm lim (p.den:Int)):=hd9 (hba.2.mono (by decide));have HL4:Hid (Lm lim (q.den:Int)):=hd9 (hbb.2.mono (by decide));have HL5:Hid (Lm limA (p.num*q.den)):=hd9 ((hba.1.mul hbb.2).mono (by decide));have HL6:Hid (Lm limA (q.num*p.den)):=hd9 ((hbb.1.mul hba.2).mono (by decide));have HL7:Hid (Lm limA (p.num*q.num)):=hd9 ((hba.1.mul hbb.1).mono (by decide));have HL8:Hid (Lm limA ((p.den:Int)*q.den)):=hd9 ((hba.2.mul hbb.2).mono (by decide));have HL9:Hid (Lm limA ((p.den:Int)*q.num)):=hd9 ((hba.2.mul hbb.1).mono (by decide));have HL5':Hid (Lm lim (p.num*q.den)):=hd9 (HL5.out.mono (by decide));have HL6':Hid (Lm lim (q.num*p.den)):=hd9 (HL6.out.mono (by decide));clear hba hbb;go_enter Tryz.func19,Tryz.ntmps19;go_wp2
 go_region_held3 (fun W=>W.cell? ⟨w.heap.size,0,Z⟩=Y (O a m c)∧W.cell? ⟨w.heap.size,1,Z⟩=Y (X s)∧W.cell? ⟨w.heap.size,2,Z⟩=Y (O a2 m2 c2)∧W.cell? ⟨w.heap.size+1,0,Z⟩=Y (O a' m' c')∧W.cell? ⟨w.heap.size+1,1,Z⟩=Y (X s')∧W.cell? ⟨w.heap.size+1,2,Z⟩=Y (O a2' m2' c2')) ((repeat' (with_reducible refine And.intro ?_ ?_))<;>(first|(go_simp;done)|(refine hx1.cellS ?_;go_simp;done))) (first|((go_at_call 64;(with_reducible refine(zas _ (N #[O a' m' c',X s',O a2' m2' c2']) q ?_ HBb.out).mono ?_);(refine hb.ext ?_;exact eA);rintro e w1 ⟨r1,rfl,hr1,hx1⟩;obtain⟨b1,n1,k1,t1,rfl⟩:=hr1.form;obtain⟨⟨hc1,hf1⟩,z1_0,z1_1⟩:=cK2 w hx1))|((go_at_call 64;(with_reducible refine(zas _ (N #[O a m c,X s,O a2 m2 c2]) p ?_ HBa.out).mono ?_);(refine ha.ext ?_;exact eA);rintro e w3 ⟨r3,rfl,hr3,hx3⟩;obtain⟨b3,n3,k3,t3,rfl⟩:=hr3.form;obtain⟨⟨hc3,hf3⟩,z3_0,z3_1⟩:=cK2 w hx3))|((go_at_call 63;(with_reducible refine(zbe _ (N #[O a m c,X s]) (N #[O b1 n1 k1,X t1]) p.num (q.den:Int) ?_ ?_ HL1.out HL4.out).mono ?_);(refine hta.ext ?_;exact eA);(refine hr1.ext ?_;exact eA);rintro e w2 ⟨r2,rfl,hr2,hx2⟩;obtain⟨b2,n2,k2,t2,rfl⟩:=hr2.form;obtain⟨⟨hc2,hf2⟩,z2_0,z2_1⟩:=cK2 w hx2))|((go_at_call 63;(with_reducible refine(zbe _ (N #[O a' m' c',X s']) (N #[O b3 n3 k3,X t3]) q.num (p.den:Int) ?_ ?_ HL2.out HL3.out).mono ?_);(refine htb.ext ?_;exact eA);(refine hr3.ext ?_;exact eA);rintro e w4 ⟨r4,rfl,hr4,hx4⟩;obtain⟨b4,n4,k4,t4,rfl⟩:=hr4.form;obtain⟨⟨hc4,hf4⟩,z4_0,z4_1⟩:=cK2 w hx4))|((go_at_call 65;(with_reducible refine(zfl _ (N #[O b2 n2 k2,X t2]) (N #[O b4 n4 k4,X t4]) (p.num*q.den) (q.num*p.den) ?_ ?_ HL5'.out HL6'.out).mono ?_);(refine hr2.ext ?_;exact eA);(refine hr4.ext ?_;exact eA);rintro e w5 ⟨rfl,hx5⟩;obtain⟨⟨hc5,hf5⟩,z5_0,z5_1⟩:=cK2 w hx5)))
 all_goals go_wp2
 go_ret;exact⟨rfl,eA⟩
theorem zcd (w:I) (va vb:V) (p q:Rat) (ha:IsR w va p) (hb:IsR w vb q) (hba:Rb limR p) (hbb:Rb limR q) :
  Calls Tryz.prog 27 #[va,vb] w (RetR w (p*q)):=by
 obtain⟨a,m,c,s,a2,m2,c2,rfl⟩:=ha.form;obtain⟨a',m',c',s',a2',m2',c2',rfl⟩:=hb.form;have HBa:=hd9 hba;have HBb:=hd9 hbb;have hta:=ha.top;have htb:=hb.top;have HL1:Hid (Lm lim p.num):=hd9 (hba.1.mono (by decide));have HL2:Hid (Lm lim q.num):=hd9 (hbb.1.mono (by decide));have HL3:Hid (Lm lim (p.den:Int)):=hd9 (hba.2.mono (by decide));have HL4:Hid (Lm lim (q.den:Int)):=hd9 (hbb.2.mono (by decide));have HL5:Hid (Lm limA (p.num*q.den)):=hd9 ((hba.1.mul hbb.2).mono (by decide));have HL6:Hid (Lm limA (q.num*p.den)):=hd9 ((hbb.1.mul hba.2).mono (by decide));have HL7:Hid (Lm limA (p.num*q.num)):=hd9 ((hba.1.mul hbb.1).mono (by decide));have HL8:Hid (Lm limA ((p.den:Int)*q.den)):=hd9 ((hba.2.mul hbb.2).mono (by decide));have HL9:Hid (Lm limA ((p.den:Int)*q.num)):=hd9 ((hba.2.mul hbb.1).mono (by decide));have HL5':Hid (Lm lim (p.num*q.den)):=hd9 (HL5.out.mono (by decide));have HL6':Hid (Lm lim (q.num*p.den)):=hd9 (HL6.out.mono (by decide));clear hba hbb;go_enter Tryz.func27,Tryz.ntmps27;go_wp2
 go_region_held3 (fun W=>W.cell? ⟨w.heap.size,0,Z⟩=Y (O a m c)∧W.cell? ⟨w.heap.size,1,Z⟩=Y (X s)∧W.cell? ⟨w.heap.size,2,Z⟩=Y (O a2 m2 c2)∧W.cell? ⟨w.heap.size+1,0,Z⟩=Y (O a' m' c')∧W.cell? ⟨w.heap.size+1,1,Z⟩=Y (X s')∧W.cell? ⟨w.heap.size+1,2,Z⟩=Y (O a2' m2' c2')) ((repeat' (with_reducible refine And.intro ?_ ?_))<;>(first|(go_simp;done)|(refine hx1.cellS ?_;go_simp;done))) (first|((go_at_call 63;(with_reducible refine(zbe _ (N #[O a m c,X s]) (N #[O a' m' c',X s']) p.num q.num ?_ ?_ HL1.out HL2.out).mono ?_);(refine hta.ext ?_;exact eA);(refine htb.ext ?_;exact eA);rintro e w1 ⟨r1,rfl,hr1,hx1⟩;obtain⟨b1,n1,k1,t1,rfl⟩:=hr1.form;obtain⟨⟨hc1,hf1⟩,z1_0,z1_1,z1_2⟩:=cK3 w hx1))|((go_at_call 64;(with_reducible refine(zas _ (N #[O a m c,X s,O a2 m2 c2]) p ?_ HBa.out).mono ?_);(refine ha.ext ?_;exact eA);rintro e w2 ⟨r2,rfl,hr2,hx2⟩;obtain⟨b2,n2,k2,t2,rfl⟩:=hr2.form;obtain⟨⟨hc2,hf2⟩,z2_0,z2_1,z2_2⟩:=cK3 w hx2))|((go_at_call 64;(with_reducible refine(zas _ (N #[O a' m' c',X s',O a2' m2' c2']) q ?_ HBb.out).mono ?_);(refine hb.ext ?_;exact eA);rintro e w3 ⟨r3,rfl,hr3,hx3⟩;obtain⟨b3,n3,k3,t3,rfl⟩:=hr3.form;obtain⟨⟨hc3,hf3⟩,z3_0,z3_1,z3_2⟩:=cK3 w hx3))|((go_at_call 63;(with_reducible refine(zbe _ (N #[O b2 n2 k2,X t2]) (N #[O b3 n3 k3,X t3]) (p.den:Int) (q.den:Int) ?_ ?_ HL3.out HL4.out).mono ?_);(refine hr2.ext ?_;exact eA);(refine hr3.ext ?_;exact eA);rintro e w4 ⟨r4,rfl,hr4,hx4⟩;obtain⟨b4,n4,k4,t4,rfl⟩:=hr4.form;obtain⟨⟨hc4,hf4⟩,z4_0,z4_1,z4_2⟩:=cK3 w hx4))|((go_at_call 82;(with_reducible refine(zdY _ (N #[O b1 n1 k1,X t1]) (N #[O b4 n4 k4,X t4]) (p.num*q.num) ((p.den:Int)*q.den) ?_ ?_ HL7.out HL8.out (zhM p q)).mono ?_);(refine hr1.ext ?_;exact eA);(refine hr4.ext ?_;exact eA);rintro e w5 ⟨r5,rfl,hr5,hx5⟩;obtain⟨b5,n5,k5,t5,b6,n6,k6,rfl⟩:=hr5.form;obtain⟨⟨hc5,hf5⟩,z5_0,z5_1,z5_2⟩:=cK3 w hx5)))
 all_goals go_wp2
 refine bR (v:=N #[O b5 n5 k5,X t5,O b6 n6 k6]) (by simp [results,Tryz.results27,go_sem,hc1,hc2,hc3,hc4,hc5,z1_2,z2_2,z3_2,z4_2]) rfl ⟨_,rfl,?_,eA⟩;rw [←zeK];exact hr5.keep kA
theorem zjX (w:I) (va vb:V) (p q:Rat) (ha:IsR w va p) (hb:IsR w vb q) (hadd:∀(W:I) (va vb:V) (p q:Rat),IsR W va p→IsR W vb q→Rb limR p→Rb limR q→Calls Tryz.prog 26 #[va,vb] W (RetR W (p+q))) (hba:Rb limR p) (hbb:Rb limR q) :
  Calls Tryz.prog 20 #[va,vb] w (RetR w (p-q)):=by
 obtain⟨a,m,c,s,a2,m2,c2,rfl⟩:=ha.form;obtain⟨a',m',c',s',a2',m2',c2',rfl⟩:=hb.form;have HBa:=hd9 hba;have HBb:=hd9 hbb.neg;have Hadd:=hd9 hadd;clear hba hbb hadd;rw [Rat.sub_eq_add_neg];go_enter Tryz.func20,Tryz.ntmps20;go_wp2
 go_region_held3 (fun W=>W.cell? ⟨w.heap.size,0,Z⟩=Y (O a m c)∧W.cell? ⟨w.heap.size,1,Z⟩=Y (X s)∧W.cell? ⟨w.heap.size,2,Z⟩=Y (O a2 m2 c2)∧W.cell? ⟨w.heap.size+1,0,Z⟩=Y (O a' m' c')∧W.cell? ⟨w.heap.size+1,1,Z⟩=Y (X s')∧W.cell? ⟨w.heap.size+1,2,Z⟩=Y (O a2' m2' c2')) ((repeat' (with_reducible refine And.intro ?_ ?_))<;>(first|(go_simp;done)|(refine hx1.cellS ?_;go_simp;done))) (first|((go_at_call 66;(with_reducible refine(zle _ (N #[O a' m' c',X s',O a2' m2' c2']) q ?_).mono ?_);(refine hb.ext ?_;exact eA);rintro e w1 ⟨r1,rfl,hr1,hx1⟩;obtain⟨b1,n1,k1,t1,b2,n2,k2,rfl⟩:=hr1.form;obtain⟨⟨hc1,hf1⟩,z1_0,z1_1,z1_2⟩:=cK3 w hx1))|((go_at_call 26;(with_reducible refine(Hadd.out _ (N #[O a m c,X s,O a2 m2 c2]) (N #[O b1 n1 k1,X t1,O b2 n2 k2]) p (-q) ?_ ?_ HBa.out HBb.out).mono ?_);(refine ha.ext ?_;exact eA);(refine hr1.ext ?_;exact eA);rintro e w5 ⟨r5,rfl,hr5,hx5⟩;obtain⟨b5,n5,k5,t5,b6,n6,k6,rfl⟩:=hr5.form;obtain⟨⟨hc5,hf5⟩,z5_0,z5_1,z5_2⟩:=cK3 w hx5)))
 all_goals go_wp2
 exact bR (v:=N #[O b5 n5 k5,X t5,O b6 n6 k6]) (by simp [results,Tryz.results20,go_sem,hc1,hc5,z1_2]) rfl ⟨_,rfl,hr5.keep kA,eA⟩
theorem zno (q:Rat):(q.num=0) ↔ q=0:=by
 constructor
 ·intro h;rw [←Rat.num_divInt_den q,h];simp
 ·rintro rfl;rfl
theorem zk9 (w:I) (va vb:V) (p q:Rat) (ha:IsR w va p) (hb:IsR w vb q) (hba:Rb limR p) (hbb:Rb limR q) :
  Calls Tryz.prog 143 #[va,vb] w fun e w'=>∃r,e = .returned (.tuple #[r,M J (if (p.den:Int)*q.num=0 then 9 else 0)])∧IsR w' r (p / q)∧Ext w w':=by
 obtain⟨a,m,c,s,a2,m2,c2,rfl⟩:=ha.form;obtain⟨a',m',c',s',a2',m2',c2',rfl⟩:=hb.form;have HBa:=hd9 hba;have HBb:=hd9 hbb;have hta:=ha.top;have htb:=hb.top;have HL1:Hid (Lm lim p.num):=hd9 (hba.1.mono (by decide));have HL2:Hid (Lm lim q.num):=hd9 (hbb.1.mono (by decide));have HL3:Hid (Lm lim (p.den:Int)):=hd9 (hba.2.mono (by decide));have HL4:Hid (Lm lim (q.den:Int)):=hd9 (hbb.2.mono (by decide));have HL5:Hid (Lm limA (p.num*q.den)):=hd9 ((hba.1.mul hbb.2).mono (by decide));have HL6:Hid (Lm limA (q.num*p.den)):=hd9 ((hbb.1.mul hba.2).mono (by decide));have HL7:Hid (Lm limA (p.num*q.num)):=hd9 ((hba.1.mul hbb.1).mono (by decide));have HL8:Hid (Lm limA ((p.den:Int)*q.den)):=hd9 ((hba.2.mul hbb.2).mono (by decide));have HL9:Hid (Lm limA ((p.den:Int)*q.num)):=hd9 ((hba.2.mul hbb.1).mono (by decide));have HL5':Hid (Lm lim (p.num*q.den)):=hd9 (HL5.out.mono (by decide));have HL6':Hid (Lm lim (q.num*p.den)):=hd9 (HL6.out.mono (by decide));clear hba hbb;obtain⟨er,her⟩:∃er:Int,er=if (p.den:Int)*q.num=0 then 9 else 0:=⟨_,rfl⟩
 rw [←her];have Her:=hd9 her;clear her;go_enter Tryz.func143,Tryz.ntmps143;go_wp2
 go_region_held3 (fun W=>W.cell? ⟨w.heap.size,0,Z⟩=Y (O a m c)∧W.cell? ⟨w.heap.size,1,Z⟩=Y (X s)∧W.cell? ⟨w.heap.size,2,Z⟩=Y (O a2 m2 c2)∧W.cell? ⟨w.heap.size+1,0,Z⟩=Y (O a' m' c')∧W.cell? ⟨w.heap.size+1,1,Z⟩=Y (X s')∧W.cell? ⟨w.heap.size+1,2,Z⟩=Y (O a2' m2' c2')) ((repeat' (with_reducible refine And.intro ?_ ?_))<;>(first|(go_simp;done)|(refine hx1.cellS ?_;go_simp;done))) (first|((go_at_call 64;(with_reducible refine(zas _ (N #[O a' m' c',X s',O a2' m2' c2']) q ?_ HBb.out).mono ?_);(refine hb.ext ?_;exact eA);rintro e w1 ⟨r1,rfl,hr1,hx1⟩;obtain⟨b1,n1,k1,t1,rfl⟩:=hr1.form;obtain⟨⟨hc1,hf1⟩,z1_0,z1_1,z1_2⟩:=cK3 w hx1))|((go_at_call 63;(with_reducible refine(zbe _ (N #[O a m c,X s]) (N #[O b1 n1 k1,X t1]) p.num (q.den:Int) ?_ ?_ HL1.out HL4.out).mono ?_);(refine hta.ext ?_;exact eA);(refine hr1.ext ?_;exact eA);rintro e w2 ⟨r2,rfl,hr2,hx2⟩;obtain⟨b2,n2,k2,t2,rfl⟩:=hr2.form;obtain⟨⟨hc2,hf2⟩,z2_0,z2_1,z2_2⟩:=cK3 w hx2))|((go_at_call 64;(with_reducible refine(zas _ (N #[O a m c,X s,O a2 m2 c2]) p ?_ HBa.out).mono ?_);(refine ha.ext ?_;exact eA);rintro e w3 ⟨r3,rfl,hr3,hx3⟩;obtain⟨b3,n3,k3,t3,rfl⟩:=hr3.form;obtain⟨⟨hc3,hf3⟩,z3_0,z3_1,z3_2⟩:=cK3 w hx3))|((go_at_call 63;(with_reducible refine(zbe _ (N #[O b3 n3 k3,X t3]) (N #[O a' m' c',X s']) (p.den:Int) q.num ?_ ?_ HL3.out HL2.out).mono ?_);(refine hr3.ext ?_;exact eA);(refine htb.ext ?_;exact eA);rintro e w4 ⟨r4,rfl,hr4,hx4⟩;obtain⟨b4,n4,k4,t4,rfl⟩:=hr4.form;obtain⟨⟨hc4,hf4⟩,z4_0,z4_1,z4_2⟩:=cK3 w hx4))|((go_at_call 81;(with_reducible refine(zmk _ (N #[O b2 n2 k2,X t2]) (N #[O b4 n4 k4,X t4]) (p.num*q.den) ((p.den:Int)*q.num) ?_ ?_ HL5.out HL9.out).mono ?_);(refine hr2.ext ?_;exact eA);(refine hr4.ext ?_;exact eA);rw [←Her.out];rintro e w5 ⟨r5,rfl,hr5,hx5⟩;obtain⟨b5,n5,k5,t5,b6,n6,k6,rfl⟩:=hr5.form;obtain⟨⟨hc5,hf5⟩,z5_0,z5_1,z5_2⟩:=cK3 w hx5)))
 all_goals go_wp2
 refine bR (v:=.tuple #[N #[O b5 n5 k5,X t5,O b6 n6 k6],M J er]) (by simp [results,Tryz.results143,go_sem,hc1,hc2,hc3,hc4,hc5,z1_2,z2_2,z3_2,z4_2]) rfl ⟨_,rfl,?_,eA⟩;rw [←zeJ];exact hr5.keep kA
def AdS (w:I) (p q:Rat) (a:Option H) (m c:Nat) (s:Bool) (a':Option H) (m' c':Nat) (s':Bool) (t5 t6:V) (W:I):Prop:=
 ∃(b5 b6:Nat) (x y:Option H) (mx cx my cy:Nat) (sx sy:Bool),t5 = .pointer (Y ⟨b5,0,Z⟩)∧t6 = .pointer (Y ⟨b6,0,Z⟩)∧w.heap.size+1+1<b5∧w.heap.size+1+1<b6∧Ext w W∧NoT 2 W (w.heap.size+1+1) ∧
 IsZ W (N #[O x mx cx,X sx]) (p.den:Int)∧IsZ W (N #[O y my cy,X sy]) (q.den:Int) ∧
 W.cell? ⟨b5,0,Z⟩=Y (O x mx cx)∧W.cell? ⟨b5,1,Z⟩=Y (X sx)∧W.cell? ⟨b6,0,Z⟩=Y (O y my cy)∧W.cell? ⟨b6,1,Z⟩=Y (X sy) ∧
 W.cell? ⟨w.heap.size,0,Z⟩=Y (O a m c)∧W.cell? ⟨w.heap.size,1,Z⟩=Y (X s)∧W.cell? ⟨w.heap.size+1,0,Z⟩=Y (O a' m' c')∧W.cell? ⟨w.heap.size+1,1,Z⟩=Y (X s') ∧
 W.cell? ⟨w.heap.size+1+1,0,Z⟩=Y (O Z 0 0)∧W.cell? ⟨w.heap.size+1+1,1,Z⟩=Y (X false)∧W.cell? ⟨w.heap.size+1+1,2,Z⟩=Y (O Z 0 0) ∧
 (∀i,W.frozen? ⟨w.heap.size+1+1,i,Z⟩=false)
theorem zbs (w:I) (va vb:V) (p q:Rat) (ha:IsR w va p) (hb:IsR w vb q) (hba:Rb limR p) (hbb:Rb limR q) :
  Calls Tryz.prog 26 #[va,vb] w (RetR w (p+q)):=by
 obtain⟨a,m,c,s,a2,m2,c2,rfl⟩:=ha.form;obtain⟨a',m',c',s',a2',m2',c2',rfl⟩:=hb.form;have HBa:=hd9 hba;have HBb:=hd9 hbb;have hta:=ha.top;have htb:=hb.top;have HL1:Hid (Lm lim p.num):=hd9 (hba.1.mono (by decide));have HL2:Hid (Lm lim q.num):=hd9 (hbb.1.mono (by decide));have HL3:Hid (Lm lim (p.den:Int)):=hd9 (hba.2.mono (by decide));have HL4:Hid (Lm lim (q.den:Int)):=hd9 (hbb.2.mono (by decide));have HL5:Hid (Lm limA (p.num*q.den)):=hd9 ((hba.1.mul hbb.2).mono (by decide));have HL6:Hid (Lm limA (q.num*p.den)):=hd9 ((hbb.1.mul hba.2).mono (by decide));have HL7:Hid (Lm limA (p.num*q.num)):=hd9 ((hba.1.mul hbb.1).mono (by decide));have HL8:Hid (Lm limA ((p.den:Int)*q.den)):=hd9 ((hba.2.mul hbb.2).mono (by decide));have HL9:Hid (Lm limA ((p.den:Int)*q.num)):=hd9 ((hba.2.mul hbb.1).mono (by decide));have HL5':Hid (Lm lim (p.num*q.den)):=hd9 (HL5.out.mono (by decide));have HL6':Hid (Lm lim (q.num*p.den)):=hd9 (HL6.out.mono (by decide));clear hba hbb;go_enter Tryz.func26,Tryz.ntmps26
 go_upto_region 1 with fail
 go_cut [5,6] (AdS w p q a m c s a' m' c' s')
 case first =>
  go_region_held3 (fun W=>W.cell? ⟨w.heap.size,0,Z⟩=Y (O a m c)∧W.cell? ⟨w.heap.size,1,Z⟩=Y (X s)∧W.cell? ⟨w.heap.size,2,Z⟩=Y (O a2 m2 c2)∧W.cell? ⟨w.heap.size+1,0,Z⟩=Y (O a' m' c')∧W.cell? ⟨w.heap.size+1,1,Z⟩=Y (X s')∧W.cell? ⟨w.heap.size+1,2,Z⟩=Y (O a2' m2' c2')) ((repeat' (with_reducible refine And.intro ?_ ?_))<;>(first|(go_simp;done)|(refine hx1.cellS ?_;go_simp;done))) (first|((go_at_call 64;(with_reducible refine(zas _ (N #[O a m c,X s,O a2 m2 c2]) p ?_ HBa.out).mono ?_);(refine ha.ext ?_;exact eA);rintro e w1 ⟨r1,rfl,hr1,hx1⟩;obtain⟨b1,n1,k1,t1,rfl⟩:=hr1.form;obtain⟨⟨hc1,hf1⟩,z1_0,z1_1,z1_2⟩:=cK3 w hx1;have e1_0_0:w.heap.size<w1.heap.size+1:=(by omega);have e1_0_1:w.heap.size<w1.heap.size+1+1:=(by omega);have e1_1_0:w.heap.size+1<w1.heap.size+1:=(by omega);have e1_1_1:w.heap.size+1<w1.heap.size+1+1:=(by omega);have e1_2_0:w.heap.size+1+1<w1.heap.size+1:=(by omega);have e1_2_1:w.heap.size+1+1<w1.heap.size+1+1:=(by omega);(try(refine Ext.useLt hx1 (n:=w.heap.size+1+1+1) ?_ (fun _=>?_);focus(go_simp;done)));(try(refine Ext.useLt hx1 (n:=w.heap.size+1+1+1+1) ?_ (fun _=>?_);focus(go_simp;done)));(try(refine Ext.useLt hx1 (n:=w1.heap.size) ?_ (fun _=>?_);focus(go_simp;done)));(try(refine Ext.useLt hx1 (n:=w1.heap.size+1) ?_ (fun _=>?_);focus(go_simp;done)))))|((go_at_call 64;(with_reducible refine(zas _ (N #[O a' m' c',X s',O a2' m2' c2']) q ?_ HBb.out).mono ?_);(refine hb.ext ?_;exact eA);rintro e w2 ⟨r2,rfl,hr2,hx2⟩;obtain⟨b2,n2,k2,t2,rfl⟩:=hr2.form;obtain⟨⟨hc2,hf2⟩,z2_0,z2_1,z2_2⟩:=cK3 w hx2;have e2_0_0:w.heap.size<w2.heap.size+1:=(by omega);have e2_0_1:w.heap.size<w2.heap.size+1+1:=(by omega);have e2_1_0:w.heap.size+1<w2.heap.size+1:=(by omega);have e2_1_1:w.heap.size+1<w2.heap.size+1+1:=(by omega);have e2_2_0:w.heap.size+1+1<w2.heap.size+1:=(by omega);have e2_2_1:w.heap.size+1+1<w2.heap.size+1+1:=(by omega);(try(refine Ext.useLt hx2 (n:=w.heap.size+1+1+1) ?_ (fun _=>?_);focus(go_simp;done)));(try(refine Ext.useLt hx2 (n:=w.heap.size+1+1+1+1) ?_ (fun _=>?_);focus(go_simp;done)));(try(refine Ext.useLt hx2 (n:=w1.heap.size) ?_ (fun _=>?_);focus(go_simp;done)));(try(refine Ext.useLt hx2 (n:=w1.heap.size+1) ?_ (fun _=>?_);focus(go_simp;done))))))
  all_goals go_wp2
  all_goals go_meet
  all_goals refine⟨_,_,b1,b2,n1,k1,n2,k2,t1,t2,rfl,rfl,by omega,by omega,eA,nA,hr1.keep kA,hr2.keep kA,?_,?_,?_,?_,?_,?_,?_,?_,?_,?_,?_,fun i=>?_⟩
  all_goals first|(go_simp;done)|(have u1:w1.heap.size<w1.heap.size+1+1:=(by omega);have u2:w2.cell? ⟨w1.heap.size,0,Z⟩=Y (O Z 0 0):=((hc2 _ _ (by first|exact u1|(simp only [wZ,qdZ];exact u1))).trans (by go_simp));have u3:w2.cell? ⟨w1.heap.size,1,Z⟩=Y (X false):=((hc2 _ _ (by first|exact u1|(simp only [wZ,qdZ];exact u1))).trans (by go_simp));go_simp)
 case rest =>
  obtain⟨b5,b6,x,y,mx,cx,my,cy,sx,sy,rfl,rfl,hb5,hb6,hx,hN,hzx,hzy,c50,c51,c60,c61,ca0,ca1,cb0,cb1,cr0,cr1,cr2,hfr⟩:=hcut;have ne5:¬b5=w.heap.size+1+1:=by omega
  have ne5':¬w.heap.size+1+1=b5:=by omega
  have ne6:¬b6=w.heap.size+1+1:=by omega
  have ne6':¬w.heap.size+1+1=b6:=by omega
  have zb5:b5<wc.heap.size:=World.block_lt_of_cell? wc _ c50;have zb6:b6<wc.heap.size:=World.block_lt_of_cell? wc _ c60;have zc_0:w.heap.size<wc.heap.size:=World.block_lt_of_cell? wc _ ca0;have zc_1:w.heap.size+1<wc.heap.size:=World.block_lt_of_cell? wc _ cb0;have zc_2:w.heap.size+1+1<wc.heap.size:=World.block_lt_of_cell? wc _ cr0
  have HLs:Hid (Lm limA (p.num*q.den+q.num*p.den)):=by
   have h1:=((HBa.out.1.mul HBb.out.2).add (HBb.out.1.mul HBa.out.2)).mono (show limR+limR+1≤limA by decide);exact hd9 h1
  have hta':=hta.ext hx;have htb':=htb.ext hx;go_wp2
  go_region_held3 (fun W=>W.cell? ⟨w.heap.size,0,Z⟩=Y (O a m c)∧W.cell? ⟨w.heap.size,1,Z⟩=Y (X s)∧W.cell? ⟨w.heap.size+1,0,Z⟩=Y (O a' m' c')∧W.cell? ⟨w.heap.size+1,1,Z⟩=Y (X s')∧W.cell? ⟨b5,0,Z⟩=Y (O x mx cx)∧W.cell? ⟨b5,1,Z⟩=Y (X sx)∧W.cell? ⟨b6,0,Z⟩=Y (O y my cy)∧W.cell? ⟨b6,1,Z⟩=Y (X sy)) ((repeat' (with_reducible refine And.intro ?_ ?_))<;>(first|(go_simp;done)|(refine hx1.cellS ?_;go_simp;done))) (first|((go_at_call 63;(with_reducible refine(zbe _ (N #[O a m c,X s]) (N #[O y my cy,X sy]) p.num (q.den:Int) ?_ ?_ HL1.out HL4.out).mono ?_);(refine hta'.ext ?_;exact eA);(refine hzy.ext ?_;exact eA);rintro e w1 ⟨r1,rfl,hr1,hx1⟩;obtain⟨b1,n1,k1,t1,rfl⟩:=hr1.form;obtain⟨⟨hc1,hf1⟩,z1_0,z1_1,z1_2⟩:=cK3 w hx1;(have p5_1:=hx1.lt (n:=b5) (by go_simp));(have p6_1:=hx1.lt (n:=b6) (by go_simp))))|((go_at_call 63;(with_reducible refine(zbe _ (N #[O a' m' c',X s']) (N #[O x mx cx,X sx]) q.num (p.den:Int) ?_ ?_ HL2.out HL3.out).mono ?_);(refine htb'.ext ?_;exact eA);(refine hzx.ext ?_;exact eA);rintro e w2 ⟨r2,rfl,hr2,hx2⟩;obtain⟨b2,n2,k2,t2,rfl⟩:=hr2.form;obtain⟨⟨hc2,hf2⟩,z2_0,z2_1,z2_2⟩:=cK3 w hx2;(have p5_2:=hx2.lt (n:=b5) (by go_simp));(have p6_2:=hx2.lt (n:=b6) (by go_simp))))|((go_at_call 83;(with_reducible refine(zhA _ (N #[O b1 n1 k1,X t1]) (N #[O b2 n2 k2,X t2]) (p.num*q.den) (q.num*p.den) ?_ ?_ HL5'.out HL6'.out).mono ?_);(refine hr1.ext ?_;exact eA);(refine hr2.ext ?_;exact eA);rintro e w3 ⟨r3,rfl,hr3,hx3⟩;obtain⟨b3,n3,k3,t3,rfl⟩:=hr3.form;obtain⟨⟨hc3,hf3⟩,z3_0,z3_1,z3_2⟩:=cK3 w hx3;(have p5_3:=hx3.lt (n:=b5) (by go_simp));(have p6_3:=hx3.lt (n:=b6) (by go_simp))))|((go_at_call 63;(with_reducible refine(zbe _ (N #[O x mx cx,X sx]) (N #[O y my cy,X sy]) (p.den:Int) (q.den:Int) ?_ ?_ HL3.out HL4.out).mono ?_);(refine hzx.ext ?_;exact eA);(refine hzy.ext ?_;exact eA);rintro e w4 ⟨r4,rfl,hr4,hx4⟩;obtain⟨b4,n4,k4,t4,rfl⟩:=hr4.form;obtain⟨⟨hc4,hf4⟩,z4_0,z4_1,z4_2⟩:=cK3 w hx4;(have p5_4:=hx4.lt (n:=b5) (by go_simp));(have p6_4:=hx4.lt (n:=b6) (by go_simp))))|((go_at_call 82;(with_reducible refine(zdY _ (N #[O b3 n3 k3,X t3]) (N #[O b4 n4 k4,X t4]) (p.num*q.den+q.num*p.den) ((p.den:Int)*q.den) ?_ ?_ HLs.out HL8.out (zhM p q)).mono ?_);(refine hr3.ext ?_;exact eA);(refine hr4.ext ?_;exact eA);rintro e w5 ⟨r5,rfl,hr5,hx5⟩;obtain⟨b7,n5,k5,t5,b8,n6,k6,rfl⟩:=hr5.form;obtain⟨⟨hc5,hf5⟩,z5_0,z5_1,z5_2⟩:=cK3 w hx5;(have p5_5:=hx5.lt (n:=b5) (by go_simp));(have p6_5:=hx5.lt (n:=b6) (by go_simp)))))
  all_goals go_wp2
  refine bR (v:=N #[O b7 n5 k5,X t5,O b8 n6 k6]) (by simp [results,Tryz.results26,go_sem,hc1,hc2,hc3,hc4,hc5,zc_2,z1_2,z2_2,z3_2,z4_2,cr0,cr1,cr2]) rfl ⟨_,rfl,?_,?_⟩
  ·rw [←zeI]
   exact hr5.keep kA
  ·have hw1:Ext w w1:=hx.trans ((eR wc).drew.trans hx1)
   exact eA
theorem zaC (w:I) (va vb:V) (p q:Rat) (ha:IsR w va p) (hb:IsR w vb q) (hba:Rb limR p) (hbb:Rb limR q) :
  Calls Tryz.prog 20 #[va,vb] w (RetR w (p-q)):=zjX w va vb p q ha hb zbs hba hbb
def RB (W:I) (b:Nat) (q:Rat):Prop:=∃a m c s a2 m2 c2,W.heap[b]?=Y (C #[O a m c,X s,O a2 m2 c2] 65 (0,0))∧IsR W (N #[O a m c,X s,O a2 m2 c2]) q
theorem zfj {W:I} {g:Nat} {x y z:V} {T:TypeId} {fr:Nat×Nat} (h:W.heap[g]?=Y (C #[x,y,z] T fr)) (u v t:V) :
  (((W.setCell ⟨g,0,Z⟩ u).setCell ⟨g,1,Z⟩ v).setCell ⟨g,2,Z⟩ t).heap[g]?=Y (C #[u,v,t] T fr):=by
 simp [World.setCell,Array.getElem?_modify,h]
section
variable {W W':I} {b b':Nat} {n n':Rat}
theorem RB.ext (h:RB W b n) (k:Ext W W'):RB W' b n:=by
 obtain⟨a,m,c,s,a2,m2,c2,h1,h2⟩:=h;exact⟨a,m,c,s,a2,m2,c2,k.heapS h1,h2.ext k⟩
theorem RB.not (h:RB W b n):NoT 2 W b:=by
 obtain⟨a,m,c,s,a2,m2,c2,h1,h2⟩:=h;intro cs fr e;rw [h1]at e;cases e
theorem RB.rd (h:RB W b n):∃a m c s a2 m2 c2,W.cell? ⟨b,0,Z⟩=Y (O a m c)∧W.cell? ⟨b,1,Z⟩=Y (X s)∧W.cell? ⟨b,2,Z⟩=Y (O a2 m2 c2)∧W.frozen? ⟨b,0,Z⟩=false∧W.frozen? ⟨b,1,Z⟩=false∧W.frozen? ⟨b,2,Z⟩=false∧b<W.heap.size∧IsR W (N #[O a m c,X s,O a2 m2 c2]) n:=by
 obtain⟨a,m,c,s,a2,m2,c2,h1,h2⟩:=h;exact⟨a,m,c,s,a2,m2,c2,qcB h1 (i:=0) rfl,qcB h1 (i:=1) rfl,qcB h1 (i:=2) rfl,qfB h1 0,qfB h1 1,qfB h1 2,zaa h1,h2⟩
theorem RB.put {a a2:Option H} {m c m2 c2:Nat} {s:Bool} (h:RB W b n) (hz:IsR W (N #[O a m c,X s,O a2 m2 c2]) n'):RB (((W.setCell ⟨b,0,Z⟩ (O a m c)).setCell ⟨b,1,Z⟩ (X s)).setCell ⟨b,2,Z⟩ (O a2 m2 c2)) b n':=by
 have hn:=h.not;obtain⟨a0,m0,c0,s0,a3,m3,c3,h1,h2⟩:=h;exact⟨a,m,c,s,a2,m2,c2,zfj h1 _ _ _,hz.keep ((((KeepT.refl _ W).setN hn _).setN (hn.set _ _) _).setN ((hn.set _ _).set _ _) _)⟩
theorem RB.other {p:H} (h:RB W b n) (hb:p.block≠b) (hn:NoT 2 W p.block) (u:V):RB (W.setCell p u) b n:=by
 obtain⟨a,m,c,s,a2,m2,c2,h1,h2⟩:=h;exact⟨a,m,c,s,a2,m2,c2,(bS _ _ _ _ (fun e=>hb e.symm)).trans h1,h2.keep ((KeepT.refl _ W).setN hn _)⟩
theorem RB.new {W0:I} {a a2:Option H} {m c m2 c2:Nat} {s:Bool} (hz:IsR W0 (N #[O a m c,X s,O a2 m2 c2]) n) (hb:b=W0.heap.size):RB (W0.alloc (C #[O a m c,X s,O a2 m2 c2] 65)) b n:=
 ⟨a,m,c,s,a2,m2,c2,qhA _ _ _ hb,hz.ext ((eR _).alloc _)⟩
end
theorem zaI (w:I) (n:Int) (h0 : -9223372036854775808≤n) (h1:n≤9223372036854775807):Calls Tryz.prog 59 #[M J n] w (RetR w (n:Rat)):=by
 go_enter Tryz.func59,Tryz.ntmps59
 go_wp2_with(((go_at_call 22;(with_reducible refine(zjV _ n h0 h1).mono ?_);rintro e w2 ⟨r2,rfl,hr2,hx2⟩;obtain⟨a2,m2,c2,s2,a3,m3,c3,rfl⟩:=hr2.form;obtain⟨⟨hc2,hf2⟩,z2_0⟩:=cK1 w hx2)))
 exact bR (v:=N #[O a2 m2 c2,X s2,O a3 m3 c3]) (by simp [results,Tryz.results59,go_sem,hc2]) rfl ⟨_,rfl,hr2.keep kA,eA⟩
theorem zcB (w:I) (va vb:V) (p q:Rat) (ha:IsR w va p) (hb:IsR w vb q) (hba:Rb limR p) (hbb:Rb limR q) :
  Calls Tryz.prog 111 #[va,vb] w (RetR w (p / q)):=by
 obtain⟨a,m,c,s,a2,m2,c2,rfl⟩:=ha.form;obtain⟨a',m',c',s',a2',m2',c2',rfl⟩:=hb.form;have HBa:=hd9 hba;have HBb:=hd9 hbb;clear hba hbb;obtain⟨er,her⟩:∃er:Int,er=if (p.den:Int)*q.num=0 then 9 else 0:=⟨_,rfl⟩
 have Her:=hd9 her;clear her;go_enter Tryz.func111,Tryz.ntmps111
 go_wp2_with(((go_at_call 143;(with_reducible refine(zk9 _ (N #[O a m c,X s,O a2 m2 c2]) (N #[O a' m' c',X s',O a2' m2' c2']) p q ?_ ?_ HBa.out HBb.out).mono ?_);(refine ha.ext ?_;exact eA);(refine hb.ext ?_;exact eA);rw [←Her.out];rintro e w1 ⟨r1,rfl,hr1,hx1⟩;obtain⟨b1,n1,k1,t1,b2,n2,k2,rfl⟩:=hr1.form;obtain⟨⟨hc1,hf1⟩,z1_0,z1_1,z1_2⟩:=cK3 w hx1;have e1_0_0:w.heap.size<w1.heap.size+1:=(by omega);have e1_1_0:w.heap.size+1<w1.heap.size+1:=(by omega);have e1_2_0:w.heap.size+1+1<w1.heap.size+1:=(by omega))))
 exact bR (v:=N #[O b1 n1 k1,X t1,O b2 n2 k2]) (by simp [results,Tryz.results111,go_sem,hc1,z1_2]) rfl ⟨_,rfl,hr1.keep kA,eA⟩
theorem zbk {k:Nat}:∀{cs:List (List V)} {i j:Nat} {c:List V},(∀c∈cs,c.length=k)→cs[i]?=Y c→j<k→cs.flatten[i*k+j]?=c[j]?
 | [],i,j,c,_,h,_=>by simp at h
 | d::cs,0,j,c,hk,h,hj=>by
  simp at h;subst h;rw [List.flatten_cons,Nat.zero_mul,Nat.zero_add,List.getElem?_append_left (by rw [hk d (by simp)];exact hj)]
 | d::cs,i+1,j,c,hk,h,hj=>by
  have hd:=hk d (by simp);rw [List.flatten_cons,List.getElem?_append_right (by rw [hd,Nat.add_mul];omega),hd,show (i+1)*k+j-k=i*k+j by rw [Nat.add_mul];omega];exact zbk (fun c hc=>hk c (mC _ hc)) (by simpa using h) hj
def Sl {α:Type} (T:TypeId) (k:Nat) (P:I→List V→α→Prop) (w:I) (v:V) (xs:List α):Prop:=
 ∃cs:List (List V),cs.length=xs.length∧(∀c∈cs,c.length=k)∧Rd w T k v xs.length cs.flatten∧∀(i:Nat) c x,cs[i]?=Y c→xs[i]?=Y x→P w c x
section
variable {α:Type} {T:TypeId} {k:Nat} {P:I→List V→α→Prop} {w w':I} {v:V} {xs:List α} {a:Option H} {n c:Nat}
theorem Sl.form (h:Sl T k P w v xs):∃a c,v=O a xs.length c:=by
 obtain⟨cs,_,_,h,_⟩:=h;exact h.form
theorem Sl.len (h:Sl T k P w (O a n c) xs):n=xs.length:=by
 obtain⟨cs,_,_,h,_⟩:=h;exact h.eqn
theorem Sl.le (h:Sl T k P w (O a n c) xs):xs.length≤c∧c≤maxLen:=by
 obtain⟨cs,_,_,h,_⟩:=h;exact h.le
theorem Sl.ext (h:Sl T k P w v xs) (hP:∀c x,P w c x→P w' c x) (hk:Ext w w'):Sl T k P w' v xs:=by
 obtain⟨cs,h1,h2,h3,h4⟩:=h;exact⟨cs,h1,h2,h3.ext hk,fun i c x hc hx=>hP _ _ (h4 i c x hc hx)⟩
theorem Sl.keep (h:Sl T k P w v xs) (hP:∀c x,P w c x→P w' c x) (hk:KeepT T w w'):Sl T k P w' v xs:=by
 obtain⟨cs,h1,h2,h3,h4⟩:=h;exact⟨cs,h1,h2,h3.keep hk,fun i c x hc hx=>hP _ _ (h4 i c x hc hx)⟩
theorem Sl.at (h:Sl T k P w (O a n c) xs) {i:Nat} {x:α} (hx:xs[i]?=Y x) :
  ∃b o d,a=Y ⟨b,o,Z⟩∧b<w.heap.size∧d.length=k∧P w d x∧∀(j:Nat) u,d[j]?=Y u→w.cell? ⟨b,o+i*k+j,Z⟩=Y u:=by
 obtain⟨cs,h1,h2,h3,h4⟩:=h;have hi:=(lS.1 hx).1;obtain⟨d,hd⟩:∃d,cs[i]?=Y d:=⟨cs[i]'(by omega),by simp [h1,hi]⟩;obtain⟨b,o,rfl,hb,_,hc⟩:=h3.open (by omega);have hdl:=h2 d (lM hd);refine⟨b,o,d,rfl,hb,hdl,h4 i d x hd hx,fun j u hj=>?_⟩;have hjk:j<k:=by rw [←hdl];exact(lS.1 hj).1
 have:=hc (i*k+j) u (by rw [zbk h2 hd hjk];exact hj)
 rwa [←Nat.add_assoc]at this
end
def PR (w:I) (c:List V) (q:Rat):Prop:=IsR w (N c.toArray) q
abbrev IsRs (w:I) (v:V) (qs:List Rat):Prop:=Sl 65 3 PR w v qs
theorem IsRs.ext' {w w':I} {v:V} {qs:List Rat} (h:IsRs w v qs) (k:Ext w w'):IsRs w' v qs:=Sl.ext h (fun _ _ h=>IsR.ext h k) k
theorem IsRs.at' {w:I} {a:Option H} {n c:Nat} {qs:List Rat} (h:IsRs w (O a n c) qs) {i:Nat} {q:Rat} (hq:qs[i]?=Y q) :
  ∃b o a1 m1 c1 s1 a2 m2 c2,a=Y ⟨b,o,Z⟩∧b<w.heap.size∧IsR w (N #[O a1 m1 c1,X s1,O a2 m2 c2]) q ∧
   w.cell? ⟨b,o+i*3,Z⟩=Y (O a1 m1 c1)∧w.cell? ⟨b,o+i*3+1,Z⟩=Y (X s1)∧w.cell? ⟨b,o+i*3+2,Z⟩=Y (O a2 m2 c2):=by
 obtain⟨b,o,d,rfl,hb,hl,hP,hc⟩:=Sl.at h hq;have hP':IsR w (N d.toArray) q:=hP;obtain⟨a1,m1,c1,s1,a2,m2,c2,e⟩:=hP'.form
 have e2:d=[O a1 m1 c1,X s1,O a2 m2 c2]:=by
  have:d.toArray=#[O a1 m1 c1,X s1,O a2 m2 c2]:=by cases e;rfl
  simpa using congrArg Array.toList this
 subst e2;exact⟨b,o,a1,m1,c1,s1,a2,m2,c2,rfl,hb,hP',hc 0 _ rfl,hc 1 _ rfl,hc 2 _ rfl⟩
end
section
open Go.RowKit Go.Shelf
def OwnC (T:TypeId) (k:Nat) (w:I) (base:Nat) (v:V) (cs:List (List V)):Prop:=(∀c∈cs,c.length=k)∧w.ownsRow base T k v cs.length cs.flatten
theorem zaq {k:Nat}:∀{cs:List (List V)},(∀c∈cs,c.length=k)→cs.flatten.length=cs.length*k
 | [],_=>by simp
 | d::cs,h=>by
  rw [List.flatten_cons,lA,zaq (fun c hc=>h c (mC _ hc)),h d (by simp),List.length_cons,Nat.add_mul];omega
theorem za8 {k:Nat}:∀{cs:List (List V)} (m:Nat),(∀c∈cs,c.length=k)→m≤cs.length→cs.flatten.take (m*k)=(cs.take m).flatten
 | _,0,_,_=>by simp
 | [],m+1,_,h=>by simp at h
 | d::cs,m+1,h,hm=>by
  have hd:=h d (by simp)
  rw [List.flatten_cons,List.take_append,hd,lT (by rw [hd,Nat.add_mul];omega),show (m+1)*k-k=m*k by rw [Nat.add_mul];omega,
   za8 m (fun c hc=>h c (mC _ hc)) (by simpa using hm),List.take_succ_cons,List.flatten_cons]
section
variable {T:TypeId} {k:Nat} {w w':I} {base:Nat} {v:V} {cs ds:List (List V)} {a:Option H} {n c g:Nat}
theorem OwnC.rd (h:OwnC T k w base v cs):Rd w T k v cs.length cs.flatten:=Rd.of_own h.2
theorem OwnC.sl {α:Type} {P:I→List V→α→Prop} {xs:List α} (h:OwnC T k w base v cs) (hl:cs.length=xs.length) (hP:∀(i:Nat) c x,cs[i]?=Y c→xs[i]?=Y x→P w c x):Sl T k P w v xs:=
 ⟨cs,hl,h.1,by rw [←hl];exact h.rd,hP⟩
theorem OwnC.nil (T:TypeId) (k:Nat) (w:I) (base:Nat):OwnC T k w base (O Z 0 0) []:=⟨by simp,World.ownsRow_nil w base T k⟩
theorem OwnC.form (h:OwnC T k w base v cs):∃a c,v=O a cs.length c:=zcA h.2
theorem OwnC.form3 (h:OwnC T k w base v cs):∃a n c,v=O a n c:=by obtain⟨a,c,h⟩:=zcA h.2;exact⟨a,_,c,h⟩
theorem OwnC.len (h:OwnC T k w base (O a n c) cs):n=cs.length:=by obtain⟨a,c',h1⟩:=zcA h.2;cases h1;rfl
theorem OwnC.keep (h:OwnC T k w base v cs) (hk:KeepT T w w'):OwnC T k w' base v cs:=by
 obtain⟨h0,hl,h2⟩:=h;refine⟨h0,hl,?_⟩
 rcases h2 with h2|⟨g,cap,cur,hv,hg,hh,r⟩
 ·exact .inl h2
 ·exact .inr ⟨g,cap,cur,hv,hg,hk _ _ _ hh,r⟩
theorem OwnC.ext (h:OwnC T k w base v cs) (hk:Ext w w'):OwnC T k w' base v cs:=h.keep hk.keep
theorem OwnC.grown (h:OwnC T k w base v cs) {row:Option Nat} (hg:w.grownBy w' row) (hne:v.ownBlock=Z∨v.ownBlock≠row):OwnC T k w' base v cs:=⟨h.1,World.ownsRow.kept h.2 hg hne⟩
theorem OwnC.setOther (h:OwnC T k w base v cs) {p:H} (hp:v.ownBlock≠Y p.block) (u:V):OwnC T k (w.setCell p u) base v cs:=
 h.grown (row:=Y p.block) ⟨rfl,rfl,rfl,by simp [World.setCell],fun k _ hne=>bS _ _ _ _ (by intro e;exact hne (by rw [e]))⟩ (.inr hp)
theorem OwnC.mono {b':Nat} (h:OwnC T k w base v cs) (hb:b'≤base):OwnC T k w b' v cs:=by
 obtain⟨h0,hl,h2⟩:=h;refine⟨h0,hl,?_⟩
 rcases h2 with h2|⟨g,cap,cur,hv,hg,r⟩
 ·exact .inl h2
 ·exact .inr ⟨g,cap,cur,hv,by omega,r⟩
theorem OwnC.blk (h:OwnC T k w base (O a n c) cs) (hn:0<cs.length):∃g,a=Y ⟨g,0,Z⟩∧base≤g∧g<w.heap.size:=by
 have hn':=h.len;subst hn';obtain⟨g,rfl,hg⟩:=zhg h.2 hn;exact⟨g,rfl,hg,(World.ownsRow.lt h.2 g rfl).2⟩
theorem OwnC.cell (h:OwnC T k w base (O (Y ⟨g,0,Z⟩) n c) cs) {i j:Nat} {d:List V} {u:V} (hd:cs[i]?=Y d) (hu:d[j]?=Y u):w.cell? ⟨g,i*k+j,Z⟩=Y u:=by
 have hn:=h.len;subst hn;have hi:=(lS.1 hd).1;have hdk:=h.1 d (lM hd);have hj:j<k:=by rw [←hdk];exact(lS.1 hu).1
 rw [World.ownsRow.cellAt h.2 _ (by
  calc i*k+j<i*k+k:=by omega
   _=(i+1)*k:=by rw [Nat.add_mul];omega
   _≤cs.length*k:=Nat.mul_le_mul_right _ hi),zbk h.1 hd hj]
 exact hu
theorem OwnC.frozen (h:OwnC T k w base (O (Y ⟨g,0,Z⟩) n c) cs) (i:Nat):w.frozen? ⟨g,i,Z⟩=false:=by
 have hn:=h.len;subst hn;exact World.ownsRow.frozenAt h.2 i
theorem zdD {k:Nat}:∀{cs:List (List V)} {i j:Nat} {d:List V},(∀c∈cs,c.length=k)→cs[i]?=Y d→j<k→∀u,cs.flatten.set (i*k+j) u=(cs.set i (d.set j u)).flatten
 | [],i,j,d,_,h,_,_=>by simp at h
 | e::cs,0,j,d,hk,h,hj,u=>by
  simp at h;subst h;rw [List.flatten_cons,Nat.zero_mul,Nat.zero_add,List.set_append_left _ _ (by rw [hk e (by simp)];exact hj),List.set_cons_zero,List.flatten_cons]
 | e::cs,i+1,j,d,hk,h,hj,u=>by
  have hd:=hk e (by simp)
  rw [List.flatten_cons,List.set_append_right _ _ (by rw [hd,Nat.add_mul];omega),hd,show (i+1)*k+j-k=i*k+j by rw [Nat.add_mul];omega,
   zdD (fun c hc=>hk c (mC _ hc)) (by simpa using h) hj u,List.set_cons_succ,List.flatten_cons]
theorem OwnC.stored (h:OwnC T k w base (O (Y ⟨g,0,Z⟩) n c) cs) {i j:Nat} {d:List V} (hd:cs[i]?=Y d) (hj:j<k) (u:V) :
  OwnC T k (w.setCell ⟨g,i*k+j,Z⟩ u) base (O (Y ⟨g,0,Z⟩) n c) (cs.set i (d.set j u)):=by
 have hn:=h.len;subst hn;have hdk:=h.1 d (lM hd);refine⟨?_,?_⟩
 ·intro e he
  rcases List.mem_or_eq_of_mem_set he with h1|h1
  ·exact h.1 e h1
  ·subst h1;simpa using hdk
 ·have:=(World.ownsRow.stored h.2 (i*k+j) u).1
  rw [zdD h.1 hd hj u]at this;rw [List.length_set];exact this
theorem OwnC.cut (h:OwnC T k w base (O (Y ⟨g,0,Z⟩) n c) cs) {m:Nat} (hm:m≤cs.length):OwnC T k w base (O (Y ⟨g,0,Z⟩) m c) (cs.take m):=by
 have hn:=h.len;subst hn;have hl:(cs.take m).length=m:=by rw [List.length_take];omega
 have hk':∀c∈cs.take m,c.length=k:=fun c hc=>h.1 c (List.mem_of_mem_take hc)
 refine⟨hk',?_,?_⟩
 ·rw [zaq hk']
 ·rcases h.2.2 with ⟨h1,_⟩|⟨g',cap,cur,hv,hg,hh,hnc,hcm,hs,ht⟩
  ·cases h1
  ·cases hv
   rw [hl];refine .inr ⟨g,c,cur,rfl,hg,hh,by omega,hcm,hs,?_⟩;rw [←za8 m h.1 hm,←ht,List.take_take]
   congr 1
   have:m*k≤cs.length*k:=Nat.mul_le_mul_right _ hm;omega
end
theorem zff {P:Program} {T t:TypeId} (ty:TypeId) {k bytes:Nat} {z:V} {w:I} {base:Nat} {v:V} {cs ds:List (List V)} {ad:H} {m c:Nat}
  (hinfo:(P.info? T).map (fun i=>(i.zero,i.size,i.bytes))=Y (Y z,k,bytes)) (hzs:z.cells.size=k) (hk:0<k) (hby:bytes≤1000) (ht:P.underlying t=Y (.slice T)) (hown:OwnC T k w base v cs)
  (hm:ds.length=m) (hd:∀c∈ds,c.length=k) (hnews:∀(j:Nat) u,ds.flatten[j]?=Y u→w.cell? (ad.add j)=Y u) (h1:∀u∈ds.flatten,u.oneCell'=true) (hlen:cs.length+m≤100000000000) (hbase:base≤w.heap.size) :
  ∃v' w',(Builtin.append_ #[t,t] ty #[v,O (Y ad) m c]).run P w = .ok v' w'∧OwnC T k w' base v' (cs++ds)∧w.grownBy w' v.ownBlock∧(v'.ownBlock=v.ownBlock∨v'.ownBlock=Y w.heap.size):=by
 obtain⟨i,hi,hz0,hz1,hz2⟩:=info_parts hinfo;subst hm
 have hb:(cs.length+ds.length)*bytes≤140737488355328:=by
  calc (cs.length+ds.length)*bytes≤100000000000*1000:=Nat.mul_le_mul hlen hby
   _≤140737488355328:=by decide
 obtain⟨v',w',hrun,hown',hgrow,_,hlie⟩:=run_append_own_at (P:=P) w base t ty T i z k bytes ht hi hz0 hz1 hz2 hzs hk v cs.length cs.flatten hown.2 ad ds.length c ds.flatten (zaq hd)
  hnews h1 (by unfold maxLen;omega) hb hbase
 refine⟨v',w',hrun,⟨?_,?_⟩,hgrow,hlie⟩
 ·intro e he
  rcases List.mem_append.1 he with h|h
  ·exact hown.1 e h
  ·exact hd e h
 ·rw [lA,List.flatten_append];exact hown'
theorem appC {P:Program} {T t:TypeId} {k bytes:Nat} {z:V} {w:I} {base:Nat} {v:V} {cs:List (List V)} {ops:Array Oper} {rest:List Oper} {o:Oper} {a:Act} {Q:Exit→Act→I→Prop}
  (hinfo:(P.info? T).map (fun i=>(i.zero,i.size,i.bytes))=Y (Y z,k,bytes)) (hzs:z.cells.size=k) (hk:0<k) (hby:bytes≤1000) (ht:P.underlying t=Y (.slice T)) (hgd:o.guard=Z) (s x:Operand)
  (ho:o.op = .call { callee:=.builtin .append,args:=#[s,x],argTypes:=#[t,t] }) (hs:a.eval s=v) (hown:OwnC T k w base v cs) {ad:H} {m c:Nat} (hx:a.eval x=O (Y ad) m c)
  (ds:List (List V)) (hm:ds.length=m) (hd:∀c∈ds,c.length=k) (hnews:∀(j:Nat) u,ds.flatten[j]?=Y u→w.cell? (ad.add j)=Y u) (h1:∀u∈ds.flatten,u.oneCell'=true) (hlen:cs.length+m≤100000000000) (hbase:base≤w.heap.size)
  (h:∀v' w',OwnC T k w' base v' (cs++ds)→w.grownBy w' v.ownBlock→(v'.ownBlock=v.ownBlock∨v'.ownBlock=Y w.heap.size)→wpList P ops Q rest (a.put o.dst v') w'):wpList P ops Q (o::rest) a w:=by
 obtain⟨v',w',hrun,h2,h3,h4⟩:=zff (P:=P) o.type hinfo hzs hk hby ht hown hm hd hnews h1 hlen hbase (c:=c);refine wpList_plain hgd fun K hK=>?_
 unfold Oper.wp;simp [execOp,ho,resolve,invoke,builtin,hs,hx,hrun,Result.andThen];exact hK _ _ (h v' w' h2 h3 h4)
theorem zhn {P:Program} {T t:TypeId} (ty:TypeId) {k bytes:Nat} {z:V} {w:I} {base:Nat} {v sl:V} {cs ds:List (List V)}
  (hinfo:(P.info? T).map (fun i=>(i.zero,i.size,i.bytes))=Y (Y z,k,bytes)) (hzs:z.cells.size=k) (hk:0<k) (hby:bytes≤1000) (ht:P.underlying t=Y (.slice T)) (hown:OwnC T k w base v cs)
  (hd:∀c∈ds,c.length=k) (hsrc:Rd w T k sl ds.length ds.flatten) (h1:∀u∈ds.flatten,u.oneCell'=true) (hlen:cs.length+ds.length≤100000000000) (hbase:base≤w.heap.size) :
  ∃v' w',(Builtin.append_ #[t,t] ty #[v,sl]).run P w = .ok v' w'∧OwnC T k w' base v' (cs++ds)∧w.grownBy w' v.ownBlock∧(v'.ownBlock=v.ownBlock∨v'.ownBlock=Y w.heap.size):=by
 obtain⟨ad,c,rfl⟩:=hsrc.form
 rcases ad with _|ad
 ·obtain⟨i,hi,hz0,hz1,hz2⟩:=info_parts hinfo
  have h0:ds=[]:=by
   by_cases h:0<ds.length
   ·obtain⟨b,o,e,_⟩:=hsrc.open h;cases e
   ·exact List.eq_nil_of_length_eq_zero (by omega)
  subst h0
  have hc:c=0:=by
   obtain⟨_,a,c,e,_,_,h3⟩:=hsrc
   cases e
   rcases h3 with h3|⟨b,o,cs,fr,e,_⟩
   ·exact h3.2 rfl
   ·cases e
  subst hc;have hown2:=hown.2;subst hz1;exact⟨v,w,run_append_owned_none (P:=P) (w:=w) base t ty T i i.size ht hi v cs.length cs.flatten hown2,by simpa using hown,⟨rfl,rfl,rfl,nE _,fun _ _ _=>rfl⟩,.inl rfl⟩
 ·have hnews:∀(j:Nat) u,ds.flatten[j]?=Y u→w.cell? (ad.add j)=Y u:=by
   intro j u hj
   have hlt:0<ds.length:=by
    by_cases h:0<ds.length
    ·exact h
    ·rw [List.eq_nil_of_length_eq_zero (show ds.length=0 by omega)]at hj;simp at hj
   obtain⟨b',o',e,hb,_,hx9⟩:=hsrc.open hlt
   cases e
   have:=hx9 j u hj;unfold Addr.add
   split
   ·subst j;simpa using this
   ·exact this
  exact zff ty hinfo hzs hk hby ht hown rfl hd hnews h1 hlen hbase
theorem appS {P:Program} {T t:TypeId} {k bytes:Nat} {z:V} {w:I} {base:Nat} {v sl:V} {cs:List (List V)} {ops:Array Oper} {rest:List Oper} {o:Oper} {a:Act} {Q:Exit→Act→I→Prop}
  (hinfo:(P.info? T).map (fun i=>(i.zero,i.size,i.bytes))=Y (Y z,k,bytes)) (hzs:z.cells.size=k) (hk:0<k) (hby:bytes≤1000) (ht:P.underlying t=Y (.slice T)) (hgd:o.guard=Z) (s x:Operand)
  (ho:o.op = .call { callee:=.builtin .append,args:=#[s,x],argTypes:=#[t,t] }) (hs:a.eval s=v) (hown:OwnC T k w base v cs) (hx:a.eval x=sl)
  (ds:List (List V)) (hd:∀c∈ds,c.length=k) (hsrc:Rd w T k sl ds.length ds.flatten) (h1:∀u∈ds.flatten,u.oneCell'=true) (hlen:cs.length+ds.length≤100000000000) (hbase:base≤w.heap.size)
  (h:∀v' w',OwnC T k w' base v' (cs++ds)→w.grownBy w' v.ownBlock→(v'.ownBlock=v.ownBlock∨v'.ownBlock=Y w.heap.size)→wpList P ops Q rest (a.put o.dst v') w'):wpList P ops Q (o::rest) a w:=by
 obtain⟨v',w',hrun,h2,h3,h4⟩:=zhn (P:=P) o.type hinfo hzs hk hby ht hown hd hsrc h1 hlen hbase;refine wpList_plain hgd fun K hK=>?_
 unfold Oper.wp;simp [execOp,ho,resolve,invoke,builtin,hs,hx,hrun,Result.andThen];exact hK _ _ (h v' w' h2 h3 h4)
theorem zdB {k:Nat}:∀{cs:List (List V)} (m:Nat),(∀c∈cs,c.length=k)→m≤cs.length→cs.flatten.drop (m*k)=(cs.drop m).flatten
 | _,0,_,_=>by simp
 | [],m+1,_,h=>by simp at h
 | d::cs,m+1,h,hm=>by
  have hd:=h d (by simp)
  rw [List.flatten_cons,List.drop_append,hd,List.drop_of_length_le (by rw [hd,Nat.add_mul];omega),show (m+1)*k-k=m*k by rw [Nat.add_mul];omega,
   zdB m (fun c hc=>h c (mC _ hc)) (by simpa using hm),List.drop_succ_cons,List.nil_append]
section
variable {α:Type} {T:TypeId} {k:Nat} {P:I→List V→α→Prop} {w w':I} {v:V} {xs:List α} {b o n c:Nat}
theorem Sl.drop (h:Sl T k P w (O (Y ⟨b,o,Z⟩) n c) xs) (hn:0<xs.length) {m:Nat} (hm:m≤xs.length):Sl T k P w (O (Y ⟨b,o+m*k,Z⟩) (n-m) (c-m)) (xs.drop m):=by
 have hln:=h.len;obtain⟨cs,h1,h2,⟨h3,a,c9,e,h5,h6,h7⟩,h4⟩:=h
 cases e
 refine⟨cs.drop m,by rw [List.length_drop,List.length_drop,h1],fun c hc=>h2 c (List.mem_of_mem_drop hc),⟨?_,Y ⟨b,o+m*k,Z⟩,c-m,?_,?_,?_,?_⟩,?_⟩
 ·rw [←zdB m h2 (by omega),List.length_drop,h3,List.length_drop,Nat.sub_mul]
 ·rw [List.length_drop]
 ·rw [List.length_drop];omega
 ·omega
 ·rcases h7 with h7|⟨b',o',cs',fr,e,hh,hc⟩
  ·omega
  ·cases e
   refine .inr ⟨_,_,cs',fr,rfl,hh,fun i x hi=>?_⟩;rw [←zdB m h2 (by omega),List.getElem?_drop]at hi;have:=hc _ _ hi
   rwa [←Nat.add_assoc]at this
 ·intro i d x hd hx
  rw [List.getElem?_drop]at hd hx;exact h4 _ _ _ hd hx
theorem Sl.take (h:Sl T k P w (O (Y ⟨b,o,Z⟩) n c) xs) (hn:0<xs.length) {m c':Nat} (hm:m≤xs.length) (hc1:m≤c') (hc2:c'≤c):Sl T k P w (O (Y ⟨b,o,Z⟩) m c') (xs.take m):=by
 have hln:=h.len;obtain⟨cs,h1,h2,⟨h3,a,c9,e,h5,h6,h7⟩,h4⟩:=h
 cases e
 have hlt:(xs.take m).length=m:=by rw [List.length_take];omega
 refine⟨cs.take m,by rw [List.length_take,List.length_take,h1],fun c hc=>h2 c (List.mem_of_mem_take hc),⟨?_,Y ⟨b,o,Z⟩,c',?_,?_,?_,?_⟩,?_⟩
 ·rw [←za8 m h2 (by omega),List.length_take,h3,hlt]
  have:m*k≤xs.length*k:=Nat.mul_le_mul_right _ hm;omega
 ·rw [hlt]
 ·rw [hlt];omega
 ·omega
 ·rcases h7 with h7|⟨b',o',cs',fr,e,hh,hc⟩
  ·omega
  ·cases e
   refine .inr ⟨_,_,cs',fr,rfl,hh,fun i x hi=>?_⟩;rw [←za8 m h2 (by omega),List.getElem?_take]at hi
   split at hi
   ·exact hc _ _ hi
   ·cases hi
 ·intro i d x hd hx
  rw [List.getElem?_take]at hd hx
  split at hd
  ·rename_i hlt2
   rw [if_pos hlt2]at hx;exact h4 _ _ _ hd hx
  ·cases hd
end
theorem zad {w w':I} {base:Nat} {row:Option Nat} (hg:w.grownBy w' row) (hb:base≤w.heap.size) (hr:∀k,row=Y k→base≤k):Below base w w':=(Below.refl _ w).grown hg hb hr
theorem OwnC.lt {T:TypeId} {k:Nat} {w:I} {base:Nat} {v:V} {cs:List (List V)} (h:OwnC T k w base v cs):∀j,v.ownBlock=Y j→base≤j∧j<w.heap.size:=World.ownsRow.lt h.2
theorem zcv {a b:I} {g:Nat} (h:a.grownBy b (Y g)) (i:Nat) (u:V):a.grownBy (b.setCell ⟨g,i,Z⟩ u) (Y g):=
 h.trans ⟨rfl,rfl,rfl,by simp [World.setCell],fun k _ hne=>bS _ _ _ _ (by intro e;exact hne (by rw [e]))⟩
theorem zbZ {a b:I} {row:Option Nat} (h:a.grownBy b row) (n:Nat):a.grownBy (b.drewN n) row:=⟨h.os,h.tape,h.output,h.size,h.block⟩
theorem zma {a b:I} {row:Option Nat} (h:a.grownBy b row):a.grownBy b.drew row:=⟨h.os,h.tape,h.output,h.size,h.block⟩
theorem znq {a b:I} {row:Option Nat} (h:a.grownBy b row) (o:Obj):a.grownBy (b.alloc o) row:=h.trans (World.grownBy_alloc b o row)
theorem znG {a b:I} (h:Ext a b) {row:Option Nat}:a.grownBy b row→a.grownBy b row:=id
theorem zaf {a b:I} {row:Option Nat} {k:Nat} {o:Obj} (hg:a.grownBy b row) (h:a.heap[k]?=Y o) (hne:Y k≠row):b.heap[k]?=Y o:=(hg.block k (zaa h) hne).trans h
theorem zjY {P:Program} {T t:TypeId} (ty:TypeId) {k:Nat} {w:I} {base g n cap:Nat} {sl:V} {os ds:List (List V)}
  (hsz:(P.info? T).map (·.size)=Y k) (ht:P.underlying t=Y (.slice T)) (hown:OwnC T k w base (O (Y ⟨g,0,Z⟩) n cap) os) (hd:∀c∈ds,c.length=k) (hsrc:Rd w T k sl ds.length ds.flatten)
  (hl:ds.length=os.length) (h0:0<ds.length) (h1:∀u∈ds.flatten,u.oneCell'=true) :
  ∃w',(Builtin.copy_ #[t,t] ty #[O (Y ⟨g,0,Z⟩) n cap,sl]).run P w = .ok (goInt n) w'∧OwnC T k w' base (O (Y ⟨g,0,Z⟩) n cap) ds∧w.grownBy w' (Y g):=by
 have hn:=hown.len;obtain⟨ad,c,rfl⟩:=hsrc.form;obtain⟨b',o',rfl,hb,_,hx9⟩:=hsrc.open h0
 have hnews:∀(j:Nat) u,ds.flatten[j]?=Y u→w.cell? ((⟨b',o',Z⟩:H).add j)=Y u:=by
  intro j u hj;have:=hx9 j u hj;unfold Addr.add
  split
  ·subst j;simpa using this
  ·exact this
 subst hn
 rcases hown.2.2 with ⟨h2,_⟩|⟨g',cap',cur,hv,hg,hh,hnc,hcm,hcs,htk⟩
 ·cases h2
 ·cases hv
  have hfl:ds.flatten.length=ds.length*k:=zaq hd;have hle:os.length*k≤cur.size:=by rw [hcs];exact Nat.mul_le_mul_right _ hnc
  have hl2:=run_loadCells_list (P:=P) w ⟨b',o',Z⟩ ds.flatten hnews;have hst:=run_storeCells_at P g 0 T ds.flatten 0 cur w hh (by rw [hfl,hl];simpa using hle) h1;refine⟨w.setRow g (cur.toList.take 0++ds.flatten++cur.toList.drop (0+ds.flatten.length)).toArray,?_,⟨hd,?_,?_⟩,⟨rfl,rfl,rfl,by simp,fun j _ hj=>setRow_other w g j _ (fun e=>hj (by simp [e]))⟩⟩
  ·cases hq:P.info? T with
   | none=>simp [hq]at hsz
   | some i =>
    have hi:i.size=k:=by simpa [hq] using hsz
    have hmin:Nat.min ds.length os.length=ds.length:=by rw [hl];exact Nat.min_self _
    rw [hfl,hl]at hl2;simp only [List.length_flatten]at hst;have hl3:((os.length:Nat):Int)=(ds.length:Int):=by rw [hl]
    simp [Builtin.copy_,run_underlying ht,Builtin.lenOf,Builtin.firstCells,sizeOf,typeInfo,hq,hi,hmin,hl2,hst,goInt,hl]
  ·exact hfl
  ·rw [hl]
   refine .inr ⟨g,cap,_,rfl,hg,setRow_heap w g cur _ T _ hh,hnc,hcm,?_,?_⟩
   ·simp only [List.size_toArray,lA,List.length_take,List.length_drop,Array.length_toList,hfl,hl]
    omega
   ·simp only [List.take_zero,List.nil_append]
    rw [←hl,←hfl,List.take_append,lT (nE _),Nat.sub_self,List.take_zero,List.append_nil]
theorem cpC {P:Program} {T t:TypeId} {k:Nat} {w:I} {base g n cap:Nat} {sl:V} {os:List (List V)} {ops:Array Oper} {rest:List Oper} {o:Oper} {a:Act} {Q:Exit→Act→I→Prop}
  (hsz:(P.info? T).map (·.size)=Y k) (ht:P.underlying t=Y (.slice T)) (hgd:o.guard=Z) (d s:Operand)
  (ho:o.op = .call { callee:=.builtin .copy,args:=#[d,s],argTypes:=#[t,t] }) (hde:a.eval d=O (Y ⟨g,0,Z⟩) n cap) (hs:a.eval s=sl)
  (hown:OwnC T k w base (O (Y ⟨g,0,Z⟩) n cap) os) (ds:List (List V)) (hd:∀c∈ds,c.length=k) (hsrc:Rd w T k sl ds.length ds.flatten)
  (hl:ds.length=os.length) (h0:0<ds.length) (h1:∀u∈ds.flatten,u.oneCell'=true)
  (h:∀w',OwnC T k w' base (O (Y ⟨g,0,Z⟩) n cap) ds→w.grownBy w' (Y g)→wpList P ops Q rest (a.put o.dst (goInt n)) w'):wpList P ops Q (o::rest) a w:=by
 obtain⟨w',hrun,h2,h3⟩:=zjY (P:=P) o.type hsz ht hown hd hsrc hl h0 h1;refine wpList_plain hgd fun K hK=>?_
 unfold Oper.wp;simp [execOp,ho,resolve,invoke,builtin,hde,hs,hrun,Result.andThen];exact hK _ _ (h w' h2 h3)
theorem mkC {P:Program} {T t:TypeId} {k bytes:Nat} {z:V} {zs:List V} {w:I} {n:Nat} {ops:Array Oper} {rest:List Oper} {o:Oper} {a:Act} {Q:Exit→Act→I→Prop}
  (hinfo:(P.info? T).map (fun i=>(i.zero,i.size,i.bytes))=Y (Y z,k,bytes)) (hzs:z.cells=zs.toArray) (hzl:zs.length=k) (hby:bytes≤1000) (ht:P.underlying t=Y (.slice T)) (hgd:o.guard=Z) (l c:Operand)
  (ho:o.op = .makeSlice t l c) (L:Int) (hle:a.eval l=M J L) (hc:a.eval c=M J L) (hL:L=(n:Int)) (hn:n≤100000000000)
  (h:∀cs,OwnC T k (w.alloc (C cs T)) w.heap.size (O (Y ⟨w.heap.size,0,Z⟩) n n) (List.replicate n zs)→wpList P ops Q rest (a.put o.dst (O (Y ⟨w.heap.size,0,Z⟩) n n)) (w.alloc (C cs T))):wpList P ops Q (o::rest) a w:=by
 obtain⟨i,hi,hz0,hz1,hz2⟩:=info_parts hinfo
 have hbb:bytes*n≤281474976710656:=by
  calc bytes*n≤1000*100000000000:=Nat.mul_le_mul hby hn
   _≤281474976710656:=by decide
 have hr:=run_make (P:=P) w t T i z ht hi hz0 J J n n (by omega) (by omega) (by rw [hz2];omega) (by omega);simp only [Int.toNat_natCast]at hr;refine wpList_plain hgd fun K hK'=>?_
 unfold Oper.wp;subst hL;simp [execOp,ho,hle,hc,hr,Result.andThen];refine hK' _ _ (h _ ?_);have hfl:(List.replicate n zs).flatten.length=n*k:=by rw [zaq (k:=k) (fun c hc=>by rw [List.eq_of_mem_replicate hc];exact hzl),List.length_replicate]
 refine⟨fun c hc=>by rw [List.eq_of_mem_replicate hc];exact hzl,by rw [hfl,List.length_replicate],.inr ⟨w.heap.size,n,_,by simp,nE _,aN w _,by simp,by unfold maxLen;omega,by rw [hz1];simp [madeCells],?_⟩⟩;rw [hz1,List.length_replicate,hzs,lT (by rw [Array.length_toList,size_madeCells];exact nE _)]
 apply List.ext_getElem?
 intro j
 by_cases hj:j<n*k
 ·have hk0:0<k:=by
   rcases Nat.eq_zero_or_pos k with h9|h9
   ·subst h9;simp at hj
   ·exact h9
  obtain⟨q,r,hr,hq⟩:∃q r,r<k∧j=q*k+r:=⟨j / k,j % k,Nat.mod_lt _ hk0,by rw [Nat.mul_comm];exact(Nat.div_add_mod j k).symm⟩
  have hqn:q<n:=by
   rcases Nat.lt_or_ge q n with h9|h9
   ·exact h9
   ·exfalso
    have:n*k≤q*k:=Nat.mul_le_mul_right _ h9;omega
  have e2:(List.replicate n zs).flatten[q*k+r]?=zs[r]?:=zbk (k:=k) (fun c hc=>by rw [List.eq_of_mem_replicate hc];exact hzl) (by rw [List.getElem?_replicate,if_pos hqn]) hr;have hjr:j % k=r:=by rw [hq,Nat.add_comm,Nat.add_mul_mod_self_right,Nat.mod_eq_of_lt hr]
  rw [show (List.replicate n zs).flatten[j]?=zs[r]? by rw [hq];exact e2];simp only [madeCells,Array.toList_map,Array.toList_range,lP,List.getElem?_range hj,Option.map_some,List.size_toArray,hzl,hjr];rw [gE (by omega)];simp [hzl,hr]
 ·rw [List.getElem?_eq_none (by rw [Array.length_toList,size_madeCells];omega),List.getElem?_eq_none (by rw [hfl];omega)]
theorem zbW {P:Program} {T t:TypeId} {k bytes:Nat} {z:V} {w:I} {base:Nat} {v:V} {cs:List (List V)} {ops:Array Oper} {o:Oper} {a:Act} {K:Act→I→Prop} {Q:Exit→Act→I→Prop} {E:Prop}
  (hinfo:(P.info? T).map (fun i=>(i.zero,i.size,i.bytes))=Y (Y z,k,bytes)) (hzs:z.cells.size=k) (hk:0<k) (hby:bytes≤1000) (ht:P.underlying t=Y (.slice T)) (hgd:o.guard=Z) (s x:Operand)
  (ho:o.op = .call { callee:=.builtin .append,args:=#[s,x],argTypes:=#[t,t] }) (hs:a.eval s=v) (hown:OwnC T k w base v cs) {ad:H} {m c:Nat} (hx:a.eval x=O (Y ad) m c)
  (ds:List (List V)) (hm:ds.length=m) (hd:∀c∈ds,c.length=k) (hnews:∀(j:Nat) u,ds.flatten[j]?=Y u→w.cell? (ad.add j)=Y u) (h1:∀u∈ds.flatten,u.oneCell'=true) (hlen:cs.length+m≤100000000000) (hbase:base≤w.heap.size)
  (h:∀v' w',OwnC T k w' base v' (cs++ds)→w.grownBy w' v.ownBlock→(v'.ownBlock=v.ownBlock∨v'.ownBlock=Y w.heap.size)→K (a.put o.dst v') w') :
  if Region.wanted o (yielded ops a.tmps)=true then Oper.wp P o a w K Q else E:=by
 have hw:Region.wanted o (yielded ops a.tmps)=true:=by simp [Region.wanted,hgd]
 rw [if_pos hw];obtain⟨v',w',hrun,h2,h3,h4⟩:=zff (P:=P) o.type hinfo hzs hk hby ht hown hm hd hnews h1 hlen hbase (c:=c);unfold Oper.wp;simp [execOp,ho,resolve,invoke,builtin,hs,hx,hrun,Result.andThen];exact h v' w' h2 h3 h4
def pc (p:Int×Int):List V:=[M J p.1,M J p.2]
theorem zbD:(Tryz.prog.info? 33).map (fun i=>(i.zero,i.size,i.bytes))=Y (Y (N #[M J 0,M J 0]),2,16):=by kernel_rfl
theorem zfM {ps:List (Int×Int)}:∀u∈(ps.map pc).flatten,u.oneCell'=true:=by
 intro u hu;obtain⟨d,hd,hu⟩:=List.mem_flatten.1 hu;obtain⟨p,_,rfl⟩:=List.mem_map.1 hd;simp [pc]at hu
 rcases hu with rfl|rfl<;>rfl
theorem zfL {ps:List (Int×Int)}:∀c∈ps.map pc,c.length=2:=by
 intro c hc;obtain⟨p,_,rfl⟩:=List.mem_map.1 hc;rfl
theorem zjx (W:I) (x z:Int) (T:TypeId):∀(j:Nat) u,[pc (x,z)].flatten[j]?=Y u→(W.alloc (C #[M J x,M J z] T)).cell? ((⟨W.heap.size,0,Z⟩:H).add j)=Y u:=by
 intro j u hj
 match j,hj with
 | 0,hj=>simp [pc]at hj;subst hj;simp [Addr.add]
 | 1,hj=>simp [pc]at hj;subst hj;simp [Addr.add]
 | j+2,hj=>simp [pc]at hj
theorem zlL (x z:Int):∀u∈[pc (x,z)].flatten,u.oneCell'=true:=zfM (ps:=[(x,z)])
end
section
open Go.RowKit Go.Shelf Go.Sort
theorem zez {α:Type} [Inhabited α] (enc:α→List V) {k:Nat} (hk:∀x,(enc x).length=k) (d:Array α):(flatK enc k d).toList=(d.toList.map enc).flatten:=by
 have hk':∀c∈d.toList.map enc,c.length=k:=fun c hc=>by obtain⟨x,_,rfl⟩:=List.mem_map.1 hc;exact hk x
 apply List.ext_getElem?
 intro t
 by_cases ht:t<d.size*k
 ·have hk0:0<k:=by
   rcases Nat.eq_zero_or_pos k with h|h
   ·subst h;simp at ht
   ·exact h
  have hq:t / k<d.size:=by rw [Nat.div_lt_iff_lt_mul hk0];exact ht
  have hr:t % k<k:=Nat.mod_lt _ hk0
  have e:(d.toList.map enc)[t / k]?=Y (enc d[t / k]!):=by
   rw [lP,Array.getElem?_toList,Array.getElem?_eq_getElem hq,Option.map_some,getElem!_pos d _ hq]
  have h2:=zbk (j:=t % k) hk' e hr;rw [show t / k*k+t % k=t by rw [Nat.mul_comm];exact Nat.div_add_mod t k]at h2;rw [h2,Array.getElem?_toList,Array.getElem?_eq_getElem (by simpa using ht)];rw [←getElem!_pos (flatK enc k d) t (by simpa using ht),get_flatK enc k d t ht,gE (by rw [hk];exact hr),getElem!_pos _ _ (by rw [hk];exact hr)]
 ·rw [List.getElem?_eq_none (by simp;omega),List.getElem?_eq_none (by rw [zaq hk'];simp;omega)]
theorem zmz {α:Type} [Inhabited α] {enc:α→List V} {k:Nat} {w:I} {g m:Nat} {os:Array Obj} {cur:Array V} {e:TypeId} {fr:Nat×Nat} (d:Array α) (hb:w.heap[g]?=Y (C cur e fr)) :
  (sortWorldK enc k w g 0 m d os).heap[g]?=Y (C (putCells id 0 (flatK enc k d) cur) e fr):=by
 have hg:g<w.heap.size:=(Array.getElem?_eq_some_iff.1 hb).1;unfold sortWorldK putRowK;rw [heap_grow_old _ _ (by simpa using hg)];simp [putRow,mapBlock,Sort.ahead,Array.getElem?_modify,hb,onCells]
theorem zli {α:Type} [Inhabited α] {enc:α→List V} {k:Nat} {w:I} {g m:Nat} {os:Array Obj} (d:Array α):w.grownBy (sortWorldK enc k w g 0 m d os) (Y g):=by
 unfold sortWorldK putRowK;refine⟨rfl,rfl,rfl,by simp,fun j hj hne=>?_⟩;rw [heap_grow_old _ _ (by simpa using hj)];have:g≠j:=fun e=>hne (by rw [e])
 simp [putRow,mapBlock,Sort.ahead,Array.getElem?_modify,this]
theorem zie (cur F:Array V) (h:F.size≤cur.size):(putCells id 0 F cur).toList.take F.size=F.toList:=by
 apply List.ext_getElem?
 intro j
 by_cases hj:j<F.size
 ·rw [List.getElem?_take_of_lt hj,Array.getElem?_toList]
  simp [putCells,hj,show j<cur.size by omega]
 ·rw [List.getElem?_take_eq_none (by omega),List.getElem?_eq_none (by simp;omega)]
theorem zgD {α:Type} [Inhabited α] {enc:α→List V} {T:TypeId} {k:Nat} {w:I} {base g n cap m:Nat} {os:Array Obj} (hk:∀x,(enc x).length=k) {d d':Array α}
  (h:OwnC T k w base (O (Y ⟨g,0,Z⟩) n cap) (d.toList.map enc)) (hs:d'.size=d.size):OwnC T k (sortWorldK enc k w g 0 m d' os) base (O (Y ⟨g,0,Z⟩) n cap) (d'.toList.map enc):=by
 have hk':∀c∈d'.toList.map enc,c.length=k:=fun c hc=>by obtain⟨x,_,rfl⟩:=List.mem_map.1 hc;exact hk x
 have hn:=h.len;have hlen:(d'.toList.map enc).length=(d.toList.map enc).length:=by simp [hs]
 subst hn;refine⟨hk',zaq hk',?_⟩
 rcases h.2.2 with ⟨h1,_⟩|⟨g',cap',cur,hv,hg,hh,hnc,hcm,hcs,htk⟩
 ·cases h1
 ·cases hv
  have hF:(flatK enc k d').size=(d'.toList.map enc).length*k:=by simp
  refine .inr ⟨g,cap,_,by rw [hlen],hg,zmz d' hh,by rw [hlen];exact hnc,hcm,by simp [putCells,hcs],?_⟩;rw [←zez enc hk d',←hF,zie _ _ (by rw [hF,hlen,hcs];exact Nat.mul_le_mul_right _ hnc)]
theorem zhS {α:Type} [Inhabited α] {enc:α→List V} {T:TypeId} {k:Nat} {w:I} {base g n cap:Nat} (hk:∀x,(enc x).length=k) {d:Array α}
  (h:OwnC T k w base (O (Y ⟨g,0,Z⟩) n cap) (d.toList.map enc)):HoldsK enc k w g 0 d:=by
 intro t ht;rw [size_flatK]at ht;have hn:=h.len;have hl:(d.toList.map enc).length=d.size:=by simp
 subst hn;refine⟨?_,by rw [Nat.zero_add];exact h.frozen t⟩;rw [Nat.zero_add,World.ownsRow.cellAt h.2 t (by rw [hl];exact ht),←zez enc hk d,Array.getElem?_toList,Array.getElem?_eq_getElem (by rw [size_flatK];exact ht),getElem!_pos _ _ (by rw [size_flatK];exact ht)];rfl
end
section
open Go.RowKit Go.Shelf
def Bd (k n:Int):Prop:=-k≤n∧n≤k
theorem Bd.mono {j k n:Int} (h:Bd j n) (hk:j≤k):Bd k n:=by unfold Bd at *;omega
theorem Bd.mul {j k x y:Int} (h:Bd j x) (h':Bd k y):Bd (j*k) (x*y):=by
 unfold Bd at *;have hx:(x.natAbs:Int)≤j:=by omega
 have hy:(y.natAbs:Int)≤k:=by omega
 have:((x*y).natAbs:Int)≤j*k:=by
  rw [Int.natAbs_mul,Int.natCast_mul];exact Int.mul_le_mul hx hy (by omega) (by omega)
 omega
theorem Bd.sub {j k x y:Int} (h:Bd j x) (h':Bd k y):Bd (j+k) (x-y):=by unfold Bd at *;omega
theorem zfd (w:I) (px pz qx qz:Int) (h1:Bd 1000000000 px) (h2:Bd 1000000000 pz) (h3:Bd 1000000000 qx) (h4:Bd 1000000000 qz) :
  Calls Tryz.prog 198 #[N #[M J px,M J pz],N #[M J qx,M J qz]] w fun e w'=>e = .returned (N #[M J (px-qx),M J (pz-qz)])∧Ext w w':=by
 obtain⟨h1a,h1b⟩:=h1;obtain⟨h2a,h2b⟩:=h2;obtain⟨h3a,h3b⟩:=h3;obtain⟨h4a,h4b⟩:=h4;go_enter Tryz.func198,Tryz.ntmps198;go_wp2;exact bR (v:=N #[M J (px-qx),M J (pz-qz)]) (by simp [results,Tryz.results198,go_sem]) rfl ⟨rfl,eA⟩
theorem zh0 (w:I) (px pz qx qz:Int) (h1:Bd 1000000000 px) (h2:Bd 1000000000 pz) (h3:Bd 1000000000 qx) (h4:Bd 1000000000 qz) :
  Calls Tryz.prog 131 #[N #[M J px,M J pz],N #[M J qx,M J qz]] w fun e w'=>e = .returned (M J (px*qz-pz*qx))∧Ext w w':=by
 obtain⟨m1,m2⟩:=h1.mul h4;obtain⟨m3,m4⟩:=h2.mul h3;have u1:IntKind.i64.wrap (px*qz)=px*qz:=iW _ ⟨by omega,by omega⟩;have u2:IntKind.i64.wrap (pz*qx)=pz*qx:=iW _ ⟨by omega,by omega⟩;have u3:IntKind.i64.wrap (px*qz-pz*qx)=px*qz-pz*qx:=iW _ ⟨by omega,by omega⟩;clear m1 m2 m3 m4 h1 h2 h3 h4;go_enter Tryz.func131,Tryz.ntmps131;go_wp2;go_ret;exact⟨by first|rfl|simp [*],eA⟩
def trn (p q r:Int×Int):Int:=(q.1-p.1)*(r.2-q.2)-(q.2-p.2)*(r.1-q.1)
theorem zlk (w:I) (px pz qx qz rx rz:Int) (h1:Bd 100000000 px) (h2:Bd 100000000 pz) (h3:Bd 100000000 qx) (h4:Bd 100000000 qz) (h5:Bd 100000000 rx) (h6:Bd 100000000 rz) :
  Calls Tryz.prog 212 #[N #[M J px,M J pz],N #[M J qx,M J qz],N #[M J rx,M J rz]] w fun e w'=>e = .returned (M J (trn (px,pz) (qx,qz) (rx,rz)))∧Ext w w':=by
 have H1:=hd9 h1;have H2:=hd9 h2;have H3:=hd9 h3;have H4:=hd9 h4;have H5:=hd9 h5;have H6:=hd9 h6;clear h1 h2 h3 h4 h5 h6;go_enter Tryz.func212,Tryz.ntmps212;go_wp2
 go_region_held3 (fun W=>W.cell? ⟨w.heap.size,0,Z⟩=Y (M J px)∧W.cell? ⟨w.heap.size,1,Z⟩=Y (M J pz)∧W.cell? ⟨w.heap.size+1,0,Z⟩=Y (M J qx)∧W.cell? ⟨w.heap.size+1,1,Z⟩=Y (M J qz)∧W.cell? ⟨w.heap.size+1+1,0,Z⟩=Y (M J rx)∧W.cell? ⟨w.heap.size+1+1,1,Z⟩=Y (M J rz)) ((repeat' (with_reducible refine And.intro ?_ ?_))<;>(first|(go_simp;done)|(refine hx1.cellS ?_;go_simp;done))) (first|((go_at_call 198;(with_reducible refine(zfd _ qx qz px pz (H3.out.mono (by decide)) (H4.out.mono (by decide)) (H1.out.mono (by decide)) (H2.out.mono (by decide))).mono ?_);rintro e w1 ⟨rfl,hx1⟩;obtain⟨⟨hc1,hf1⟩,z1_0,z1_1,z1_2⟩:=cK3 w hx1))|((go_at_call 198;(with_reducible refine(zfd _ rx rz qx qz (H5.out.mono (by decide)) (H6.out.mono (by decide)) (H3.out.mono (by decide)) (H4.out.mono (by decide))).mono ?_);rintro e w2 ⟨rfl,hx2⟩;obtain⟨⟨hc2,hf2⟩,z2_0,z2_1,z2_2⟩:=cK3 w hx2))|((go_at_call 131;(with_reducible refine(zh0 _ (qx-px) (qz-pz) (rx-qx) (rz-qz) ((H3.out.sub H1.out).mono (by decide)) ((H4.out.sub H2.out).mono (by decide)) ((H5.out.sub H3.out).mono (by decide)) ((H6.out.sub H4.out).mono (by decide))).mono ?_);rintro e w3 ⟨rfl,hx3⟩;obtain⟨⟨hc3,hf3⟩,z3_0,z3_1,z3_2⟩:=cK3 w hx3)))
 all_goals go_wp2
 go_ret;exact⟨rfl,eA⟩
def wthn (n a b:Int):Bool:=decide (a≤n)&&decide (n≤b)
theorem zah (w:I) (n a b:Int) :
  Calls Tryz.prog 134 #[M J n,M J a,M J b] w fun e w'=>e = .returned (X (wthn n a b))∧Ext w w':=by
 unfold wthn
 by_cases h:a≤n
 ·have h1:decide (a≤n)=true:=by simpa using h
  go_enter Tryz.func134,Tryz.ntmps134;go_wp2;go_ret;exact⟨by simp [h1],eA⟩
 ·have h1:decide (a≤n)=false:=by simpa using h
  go_enter Tryz.func134,Tryz.ntmps134;go_wp2;go_ret;exact⟨by simp [h1],eA⟩
theorem zdK (w:I) (n:Int):Calls Tryz.prog 222 #[M J n] w fun e w'=>e = .returned (X false)∧Ext w w':=by
 go_enter Tryz.func222,Tryz.ntmps222;go_wp2;go_ret;exact⟨rfl,eA⟩
theorem zdy (w:I) (a b:Int):Calls Tryz.prog 214 #[M J a,M J b] w fun e w'=>e = .returned (M J (cmp3 a b))∧Ext w w':=by
 have cc1:a<b→Calls Tryz.prog 214 #[M J a,M J b] w fun e w'=>e = .returned (M J (cmp3 a b))∧Ext w w':=by
  intro h;have e:cmp3 a b = -1:=by unfold cmp3;(repeat' split)<;>omega
  rw [e];clear e
  first|subst h|skip
  go_enter Tryz.func214,Tryz.ntmps214
  go_wp2_with(((go_at_call 222;(with_reducible refine(zdK _ _).mono ?_);rintro e w1 ⟨rfl,hx1⟩)))
  go_ret;exact⟨rfl,eA⟩
 have cc2:a=b→Calls Tryz.prog 214 #[M J a,M J b] w fun e w'=>e = .returned (M J (cmp3 a b))∧Ext w w':=by
  intro h;have e:cmp3 a b=0:=by unfold cmp3;(repeat' split)<;>omega
  rw [e];clear e
  first|subst h|skip
  go_enter Tryz.func214,Tryz.ntmps214
  go_wp2_with(((go_at_call 222;(with_reducible refine(zdK _ _).mono ?_);rintro e w1 ⟨rfl,hx1⟩)))
  go_ret;exact⟨rfl,eA⟩
 have cc3:b<a→Calls Tryz.prog 214 #[M J a,M J b] w fun e w'=>e = .returned (M J (cmp3 a b))∧Ext w w':=by
  intro h;have e:cmp3 a b=1:=by unfold cmp3;(repeat' split)<;>omega
  rw [e];clear e
  first|subst h|skip
  go_enter Tryz.func214,Tryz.ntmps214
  go_wp2_with(((go_at_call 222;(with_reducible refine(zdK _ _).mono ?_);rintro e w1 ⟨rfl,hx1⟩)))
  go_ret;exact⟨rfl,eA⟩
 rcases Int.lt_trichotomy a b with h|h|h
 ·exact cc1 h
 ·exact cc2 h
 ·exact cc3 h
def PP (_:I) (c:List V) (p:Int×Int):Prop:=c=[M J p.1,M J p.2]
abbrev IsPts (w:I) (v:V) (ps:List (Int×Int)):Prop:=Sl 33 2 PP w v ps
theorem IsPts.ext' {w w':I} {v:V} {ps:List (Int×Int)} (h:IsPts w v ps) (k:Ext w w'):IsPts w' v ps:=Sl.ext h (fun _ _ h=>h) k
theorem IsPts.keep' {w w':I} {v:V} {ps:List (Int×Int)} (h:IsPts w v ps) (k:KeepT 33 w w'):IsPts w' v ps:=Sl.keep h (fun _ _ h=>h) k
theorem IsPts.at' {w:I} {a:Option H} {n c:Nat} {ps:List (Int×Int)} (h:IsPts w (O a n c) ps) {i:Nat} {p:Int×Int} (hp:ps[i]?=Y p) :
  ∃b o,a=Y ⟨b,o,Z⟩∧b<w.heap.size∧w.cell? ⟨b,o+i*2,Z⟩=Y (M J p.1)∧w.cell? ⟨b,o+i*2+1,Z⟩=Y (M J p.2):=by
 obtain⟨b,o,d,rfl,hb,hl,hP,hc⟩:=Sl.at h hp;have hP':d=[M J p.1,M J p.2]:=hP;subst hP';exact⟨b,o,rfl,hb,hc 0 _ rfl,hc 1 _ rfl⟩
def atc (ps:List (Int×Int)) (i:Int):Int×Int:=ps.getD ((i+ps.length) % ps.length).toNat (0,0)
theorem zge {ps:List (Int×Int)} {i:Int} (h:0<ps.length):∃k:Nat,k<ps.length∧(i+(ps.length:Int)) % (ps.length:Int)=(k:Int)∧ps[k]?=Y (atc ps i):=by
 have h0:=Int.emod_nonneg (i+ps.length) (show (ps.length:Int)≠0 by omega);have h1:=Int.emod_lt_of_pos (i+ps.length) (show 0<(ps.length:Int) by omega);refine⟨((i+ps.length) % ps.length).toNat,by omega,by omega,?_⟩;unfold atc;rw [gD];have:((i+(ps.length:Int)) % (ps.length:Int)).toNat<ps.length:=by omega
 simp only [gE this,Option.getD_some]
theorem zmP (w:I) (v:V) (ps:List (Int×Int)) (i:Int) (h:IsPts w v ps) (h0:0<ps.length) (hn:ps.length≤1000000) (hi : -(ps.length:Int)≤i) (hi2:i≤1000000) :
  Calls Tryz.prog 161 #[v,M J i] w fun e w'=>e = .returned (N #[M J (atc ps i).1,M J (atc ps i).2])∧Ext w w':=by
 obtain⟨a,c,rfl⟩:=h.form;obtain⟨k,hk,hm,hp⟩:=zge (i:=i) h0;obtain⟨b,o,rfl,hb,c0,c1⟩:=h.at' hp;obtain⟨x,hx⟩:=gX ((atc ps i).1);obtain⟨z,hz⟩:=gX ((atc ps i).2);rw [hx]at c0 ⊢;rw [hz]at c1 ⊢;clear hx hz hp h
 generalize ps.length=n at *
 have u1:(0:Int)≤i+(n:Int):=by omega
 have u2:(0:Int)<(n:Int):=by omega
 have u3:(k:Int)<(n:Int):=by omega
 have hb1:b<w.heap.size+1:=by omega
 go_enter Tryz.func161,Tryz.ntmps161;go_wp2;exact bR (v:=N #[M J x,M J z]) (by simp [results,Tryz.results161,go_sem]) rfl ⟨rfl,eA⟩
def leastP:List (Int×Int)→Int×Int
 | []=>(0,0)
 | p::ps=>ps.foldl (fun o q=>(min o.1 q.1,min o.2 q.2)) p
theorem zgr (ps:List (Int×Int)) (q:Int×Int) (h:ps≠[]):leastP (ps++[q])=(min (leastP ps).1 q.1,min (leastP ps).2 q.2):=by
 cases ps with
 | nil=>exact absurd rfl h
 | cons p ps=>simp [leastP]
def LeS (w:I) (ps:List (Int×Int)) (g:Nat) (t11:V) (W:I):Prop:=
 ∃i:Nat,i≤ps.length∧t11=M J i∧g=ps.length-i∧Ext w W∧W.heap[w.heap.size]?=Y (C #[M J 0,M J 0] 33 (0,0)) ∧
  ∃x z,(if i=0 then ps[0]?=Y (x,z)else leastP (ps.take i)=(x,z))∧W.heap[w.heap.size+1]?=Y (C #[M J x,M J z] 33 (0,0))
theorem zgs {ps:List (Int×Int)} {i:Nat} {x z:Int} {q:Int×Int} (h:if i=0 then ps[0]?=Y (x,z)else leastP (ps.take i)=(x,z)) (hq:ps[i]?=Y q) :
  leastP (ps.take (i+1))=(min x q.1,min z q.2):=by
 rw [zab _ _ _ hq]
 by_cases h0:i=0
 ·subst h0
  rw [if_pos rfl]at h;rw [h]at hq
  cases hq
  simp [leastP]
 ·rw [if_neg h0]at h
  rw [zgr _ _ (by
   intro e;have:=(lS.1 hq).1;have h2:(ps.take i).length=0:=by rw [e];rfl
   rw [List.length_take]at h2;omega),h]
theorem LeS.step {w wr:I} {ps:List (Int×Int)} {i n:Nat} {x z qx qz a b:Int} (hn:ps.length=n) (hlt:i<n) (hx:Ext w wr) (hR:wr.heap[w.heap.size]?=Y (C #[M J 0,M J 0] 33 (0,0)))
  (hO:wr.heap[w.heap.size+1]?=Y (C #[M J x,M J z] 33 (0,0))) (hv:if i=0 then ps[0]?=Y (x,z)else leastP (ps.take i)=(x,z)) (hq:ps[i]?=Y (qx,qz)) (ha:a=min x qx) (hb:b=min z qz) :
  LeS w ps (n-(i+1)) (M J ((i:Int)+1)) (((wr.setCell ⟨w.heap.size+1,0,Z⟩ (M J a)).setCell ⟨w.heap.size+1,1,Z⟩ (M J b)).alloc (C #[M J qx,M J qz] 33)):=by
 have zo:=zaa hO;refine⟨i+1,by omega,by go_num,by rw [hn],eA,?_,a,b,?_,?_⟩
 ·rw [zae,if_neg (by simp only [qcZ];omega),bS _ _ _ _ (by dsimp only;omega),bS _ _ _ _ (by dsimp only;omega)]
  exact hR
 ·rw [if_neg (by omega),zgs hv hq,ha,hb]
 ·rw [zae,if_neg (by simp only [qcZ];omega)]
  exact zaO hO _ _
theorem zfG (w:I) (v:V) (ps:List (Int×Int)) (h:IsPts w v ps) (h0:0<ps.length) :
  Calls Tryz.prog 169 #[v] w fun e w'=>e = .returned (N #[M J (leastP ps).1,M J (leastP ps).2])∧Ext w w':=by
 obtain⟨a,c,rfl⟩:=h.form;obtain⟨n,hn⟩:=gX ps.length;rw [hn]at h ⊢;have hle:=h.le;unfold maxLen at hle;have hn0:0<n:=by omega
 have hnc:n≤9223372036854775807:=by omega
 obtain⟨p,hp⟩:∃p,ps[0]?=Y p:=⟨ps[0],by simp⟩;obtain⟨x0,z0⟩:=p;obtain⟨b,o,rfl,hb,c0,c1⟩:=h.at' hp;simp only [Nat.zero_mul,Nat.add_zero]at c0 c1;have hb1:b<w.heap.size+1:=by omega
 have Hn:=hd9 hn;have Hp:=hd9 hp;clear hn hle hp h0;go_enter Tryz.func169,Tryz.ntmps169;go_wp2
 go_loopg [11] n (LeS w ps)
 case atStart =>
  refine⟨0,by omega,rfl,by rw [Hn.out];rfl,eA,by rw [zae,if_neg (by simp)];exact qhA _ _ _ rfl,x0,z0,by simpa using Hp.out,qhA _ _ _ (by simp)⟩
 case round =>
  obtain⟨i,hi,rfl,rfl,hx,hR,x,z,hv,hO⟩:=hrel;rw [Hn.out]at hi;have r0:=qcB hR (i:=0) (u:=M J 0) rfl;have r1:=qcB hR (i:=1) (u:=M J 0) rfl;have rf0:=qfB hR 0;have rf1:=qfB hR 1;have o0:=qcB hO (i:=0) (u:=M J x) rfl;have o1:=qcB hO (i:=1) (u:=M J z) rfl;have of0:=qfB hO 0;have of1:=qfB hO 1;have zr:=zaa hR;have zo:=zaa hO;have HR:=hd9 hR;have HO:=hd9 hO;have HV:=hd9 hv;clear hR hO hv c0 c1
  by_cases hlt:i<n
  ·obtain⟨q,hq⟩:∃q,ps[i]?=Y q:=⟨ps[i]'(by rw [Hn.out];omega),by simp [Hn.out,hlt]⟩
   obtain⟨b',o',e',hb',d0,d1⟩:=(h.ext' hx).at' hq
   cases e'
   obtain⟨qx,qz⟩:=q;have Hq:=hd9 hq;clear hq;go_wp2
   all_goals
    go_roundg (n-(i+1))
    case measure=>have:=Hn.out;omega
    case rel =>
     exact LeS.step Hn.out hlt hx HR.out HO.out HV.out Hq.out (by omega) (by omega)
  ·obtain rfl:i=n:=by omega
   have hvv:=HV.out;rw [if_neg (by omega),lT (by rw [Hn.out];omega)]at hvv;have HVV:=hd9 hvv;clear hvv;go_wp2;refine bR (v:=N #[M J x,M J z]) (by simp [results,Tryz.results169,go_sem,r0,r1]) rfl ⟨?_,eA⟩;rw [HVV.out]
theorem zbP (w:I) (v:V) (ps:List (Int×Int)) (i x z:Int) (h:IsPts w v ps) (h0:0<ps.length) (hn:ps.length≤1000000) (hi : -(ps.length:Int)≤i) (hi2:i≤1000000) (hp:atc ps i=(x,z)) :
  Calls Tryz.prog 161 #[v,M J i] w fun e w'=>e = .returned (N #[M J x,M J z])∧Ext w w':=by
 have:=zmP w v ps i h h0 hn hi hi2
 rwa [hp]at this
theorem zcG (w:I) (px pz qx qz rx rz T:Int) (h1:Bd 100000000 px) (h2:Bd 100000000 pz) (h3:Bd 100000000 qx) (h4:Bd 100000000 qz) (h5:Bd 100000000 rx) (h6:Bd 100000000 rz) (hT:trn (px,pz) (qx,qz) (rx,rz)=T) :
  Calls Tryz.prog 212 #[N #[M J px,M J pz],N #[M J qx,M J qz],N #[M J rx,M J rz]] w fun e w'=>e = .returned (M J T)∧Ext w w':=by
 have:=zlk w px pz qx qz rx rz h1 h2 h3 h4 h5 h6
 rwa [hT]at this
def PBd (k:Int) (ps:List (Int×Int)):Prop:=∀p∈ps,Bd k p.1∧Bd k p.2
theorem PBd.at {k:Int} {ps:List (Int×Int)} (h:PBd k ps) (h0:0<ps.length) {i:Int} {x z:Int} (he:atc ps i=(x,z)):Bd k x∧Bd k z:=by
 obtain⟨j,_,_,hj⟩:=zge (i:=i) h0;rw [he]at hj;exact h _ (lM hj)
theorem zdq {ps:List (Int×Int)} {i:Nat} (h:i<ps.length):ps[i]?=Y (atc ps i):=by
 unfold atc
 have e:(((i:Int)+ps.length) % ps.length).toNat=i:=by
  rw [Int.add_emod_right,Int.emod_eq_of_lt (by omega) (by omega)];omega
 rw [e,gD,gE h];rfl
def cvx1 (ps:List (Int×Int)) (i:Nat):Bool:=decide (0<trn (atc ps ((i:Int)-1)) (atc ps i) (atc ps ((i:Int)+1)))
def cvx2 (ps:List (Int×Int)) (i k:Nat):Bool:=decide (0<trn (atc ps i) (atc ps ((i:Int)+1)) (atc ps ((i:Int)+k)))
def cvxR (ps:List (Int×Int)) (i:Nat):Bool:=cvx1 ps i&&(List.range (ps.length-1)).all fun k=>decide (k<2) || cvx2 ps i k
def convexB (ps:List (Int×Int)):Bool:=wthn ps.length 3 12&&(List.range ps.length).all (cvxR ps)
theorem zew {ps:List (Int×Int)} {i:Nat} (h:i<ps.length) (hr:cvxR ps i=false):convexB ps=false:=by
 unfold convexB;rw [Bool.and_eq_false_iff]
 right
 rw [List.all_eq_false];exact⟨i,List.mem_range.2 h,by simp [hr]⟩
theorem zgk {ps:List (Int×Int)} (h1:wthn ps.length 3 12=true) (h:∀i,i<ps.length→cvxR ps i=true):convexB ps=true:=by
 unfold convexB;rw [h1,Bool.true_and,List.all_eq_true];exact fun i hi=>h i (List.mem_range.1 hi)
theorem zkC {ps:List (Int×Int)} {i:Nat} (h:cvx1 ps i=false):cvxR ps i=false:=by unfold cvxR;rw [h];rfl
theorem zkD {ps:List (Int×Int)} {i k:Nat} (hk:k<ps.length-1) (h2:2≤k) (h:cvx2 ps i k=false):cvxR ps i=false:=by
 unfold cvxR;rw [Bool.and_eq_false_iff]
 right
 rw [List.all_eq_false];exact⟨k,List.mem_range.2 hk,by simp [h];omega⟩
theorem zkE {ps:List (Int×Int)} {i:Nat} (h:cvx1 ps i=true) (h2:∀k,2≤k→k<ps.length-1→cvx2 ps i k=true):cvxR ps i=true:=by
 unfold cvxR;rw [h,Bool.true_and,List.all_eq_true];intro k hk;rw [List.mem_range]at hk
 by_cases h3:k<2
 ·simp [h3]
 ·simp [h2 k (by omega) hk]
def CvS (w:I) (ps:List (Int×Int)) (g:Nat) (t11:V) (W:I):Prop:=
 ∃i:Nat,i≤ps.length∧t11=M J i∧g=ps.length-i∧Ext w W∧∀j,j<i→cvxR ps j=true
def CvK (w:I) (ps:List (Int×Int)) (i:Nat) (g:Nat) (t4:V) (W:I):Prop:=
 ∃k:Nat,2≤k∧k≤ps.length-1∧t4=M J k∧g=ps.length-k∧Ext w W∧∀j,2≤j→j<k→cvx2 ps i j=true
theorem zhJ (w:I) (v:V) (ps:List (Int×Int)) (h:IsPts w v ps) (hb:PBd 100000000 ps) :
  Calls Tryz.prog 168 #[v] w fun e w'=>e = .returned (X (convexB ps))∧Ext w w':=by
 obtain⟨a,c,rfl⟩:=h.form;obtain⟨n,hn⟩:=gX ps.length;have hn':=hn;rw [hn]at h ⊢;have Hn:=hd9 hn;have Hb:=hd9 hb;clear hb
 by_cases hw:wthn n 3 12=true
 ·have hn3:3≤n∧n≤12:=by simp [wthn]at hw;omega
  obtain⟨hn3,hn12⟩:=hn3;have HW:=hd9 hw;clear hn hn';have h0:0<ps.length:=by rw [Hn.out];omega
  have hl6:ps.length≤1000000:=by rw [Hn.out];omega
  have H0:=hd9 h0;have H6:=hd9 hl6;obtain⟨b,o,rfl,hbl,_,_⟩:=h.at' (zdq h0);clear h0 hl6;go_enter Tryz.func168,Tryz.ntmps168
  go_wp2_with(((go_at_call 134;(with_reducible refine(zah _ n 3 12).mono ?_);rintro e w1 ⟨rfl,hx1⟩)))
  go_loopg [11] n (CvS w ps)
  case atStart=>exact⟨0,by omega,rfl,by rw [Hn.out];rfl,eA,fun j hj=>by omega⟩
  case round =>
   obtain⟨i,hi,rfl,rfl,hx,hall⟩:=hrel;rw [Hn.out]at hi;have Hall:=hd9 hall;clear hall hx1
   by_cases hlt:i<n
   ·obtain⟨⟨ax,az⟩,hA⟩:∃p,atc ps ((i:Int)-1)=p:=⟨_,rfl⟩
    obtain⟨⟨qx,qz⟩,hQ⟩:∃p,atc ps (i:Int)=p:=⟨_,rfl⟩;obtain⟨⟨bx,bz⟩,hB⟩:∃p,atc ps ((i:Int)+1)=p:=⟨_,rfl⟩;obtain⟨T,hT⟩:=gX (trn (ax,az) (qx,qz) (bx,bz));have hP:=(h.ext' hx).at' (zdq (ps:=ps) (i:=i) (by rw [Hn.out];exact hlt));rw [hQ]at hP;obtain⟨b',o',e',hb',d0,d1⟩:=hP
    cases e'
    have HA:=hd9 hA;have HQ:=hd9 hQ;have HB:=hd9 hB;have HT:=hd9 hT;have HbA:=hd9 (Hb.out.at H0.out hA);have HbQ:=hd9 (Hb.out.at H0.out hQ);have HbB:=hd9 (Hb.out.at H0.out hB);have g1 : -(ps.length:Int)≤(i:Int)-1:=by rw [Hn.out];omega
    have g2 : -(ps.length:Int)≤(i:Int)+1:=by rw [Hn.out];omega
    have hv1:cvx1 ps i=decide (0<T):=by unfold cvx1;rw [hA,hQ,hB,hT]
    have Hv1:=hd9 hv1;have hs:=h.ext' hx;clear hA hQ hB hT hv1;have w1':IntKind.i64.wrap ((i:Int)-1)=(i:Int)-1:=iW _ (by omega);have w2':IntKind.i64.wrap ((i:Int)+1)=(i:Int)+1:=iW _ (by omega);have p1:(0:Int)≤(i:Int):=by omega
    have p2:(i:Int)<(n:Int):=by omega
    by_cases hTp:0<T
    ·have hTb:decide (T≤0)=false:=by simp;omega
     go_wp2
     go_region_held3 (fun W=>W.cell? ⟨b,o+i*2,Z⟩=Y (M J qx)∧W.cell? ⟨b,o+i*2+1,Z⟩=Y (M J qz)) ((repeat' (with_reducible refine And.intro ?_ ?_))<;>(first|(go_simp;done)|(refine hx1.cellS ?_;go_simp;done))) (first|((go_at_call 161;(with_reducible refine(zbP _ (O (Y ⟨b,o,Z⟩) n c) ps ((i:Int)-1) ax az ?_ H0.out H6.out g1 (by omega) HA.out).mono ?_);(refine hs.ext' ?_;exact eA);rintro e w1 ⟨rfl,hx1⟩;obtain⟨hc1,hf1⟩:=hx1.cells;(try simp only [qcD,qfD,qdZ]at hc1 hf1);(have zq1:=hx1.lt (n:=b) (by first|exact hb' | (simp only [qdZ];exact hb')|(have:=zq1;omega)))))|((go_at_call 161;(with_reducible refine(zbP _ (O (Y ⟨b,o,Z⟩) n c) ps ((i:Int)+1) bx bz ?_ H0.out H6.out g2 (by omega) HB.out).mono ?_);(refine hs.ext' ?_;exact eA);rintro e w2 ⟨rfl,hx2⟩;obtain⟨hc2,hf2⟩:=hx2.cells;(try simp only [qcD,qfD,qdZ]at hc2 hf2);(have zq2:=hx2.lt (n:=b) (by first|exact hb' | (simp only [qdZ];exact hb')|(have:=zq1;omega)))))|((go_at_call 212;(with_reducible refine(zcG _ _ _ _ _ _ _ T HbA.out.1 HbA.out.2 HbQ.out.1 HbQ.out.2 HbB.out.1 HbB.out.2 HT.out).mono ?_);rintro e w3 ⟨rfl,hx3⟩;obtain⟨hc3,hf3⟩:=hx3.cells;(try simp only [qcD,qfD,qdZ]at hc3 hf3))))
     all_goals go_wp2
     go_loopg [4] (n-2) (CvK w ps i)
     case atStart=>exact⟨2,nE _,by rw [Hn.out];omega,rfl,by rw [Hn.out],eA,fun j h2 hj=>by omega⟩
     case round =>
      rename_i wr0 _
      clear hs d0 d1 hc1 hf1 zq1 hc2 hf2 zq2 hc3 hf3;obtain⟨k,hk2,hkn,rfl,rfl,hxk,hallk⟩:=hrel;rw [Hn.out]at hkn;have Hallk:=hd9 hallk;clear hallk
      by_cases hlk:k<n-1
      ·obtain⟨⟨cx,cz⟩,hC⟩:∃p,atc ps ((i:Int)+(k:Int))=p:=⟨_,rfl⟩
       obtain⟨U,hU⟩:=gX (trn (qx,qz) (bx,bz) (cx,cz));have hP:=(h.ext' hxk).at' (zdq (ps:=ps) (i:=i) (by rw [Hn.out];exact hlt));rw [HQ.out]at hP;obtain⟨b'',o'',e'',hb'',d0,d1⟩:=hP
       cases e''
       have HC:=hd9 hC;have HU:=hd9 hU;have HbC:=hd9 (Hb.out.at H0.out hC);have hv2:cvx2 ps i k=decide (0<U):=by unfold cvx2;rw [HQ.out,HB.out,hC,hU]
       have Hv2:=hd9 hv2;have g3 : -(ps.length:Int)≤(i:Int)+(k:Int):=by rw [Hn.out];omega
       have hs:=h.ext' hxk;clear hC hU hv2;have w3':IntKind.i64.wrap ((i:Int)+(k:Int))=(i:Int)+(k:Int):=iW _ (by omega);have p3:(k:Int)<(n:Int)-1:=by omega
       have hb':=hb''
       by_cases hUp:0<U
       ·have hUb:decide (U≤0)=false:=by simp;omega
        go_wp2
        go_region_held3 (fun W=>W.cell? ⟨b,o+i*2,Z⟩=Y (M J qx)∧W.cell? ⟨b,o+i*2+1,Z⟩=Y (M J qz)) ((repeat' (with_reducible refine And.intro ?_ ?_))<;>(first|(go_simp;done)|(refine hx1.cellS ?_;go_simp;done))) (first|((go_at_call 161;(with_reducible refine(zbP _ (O (Y ⟨b,o,Z⟩) n c) ps ((i:Int)+1) bx bz ?_ H0.out H6.out g2 (by omega) HB.out).mono ?_);(refine hs.ext' ?_;exact eA);rintro e w1 ⟨rfl,hx1⟩;obtain⟨hc1,hf1⟩:=hx1.cells;(try simp only [qcD,qfD,qdZ]at hc1 hf1);(have zq1:=hx1.lt (n:=b) (by first|exact hb' | (simp only [qdZ];exact hb')|(have:=zq1;omega)))))|((go_at_call 161;(with_reducible refine(zbP _ (O (Y ⟨b,o,Z⟩) n c) ps ((i:Int)+(k:Int)) cx cz ?_ H0.out H6.out g3 (by omega) HC.out).mono ?_);(refine hs.ext' ?_;exact eA);rintro e w2 ⟨rfl,hx2⟩;obtain⟨hc2,hf2⟩:=hx2.cells;(try simp only [qcD,qfD,qdZ]at hc2 hf2);(have zq2:=hx2.lt (n:=b) (by first|exact hb' | (simp only [qdZ];exact hb')|(have:=zq1;omega)))))|((go_at_call 212;(with_reducible refine(zcG _ _ _ _ _ _ _ U HbQ.out.1 HbQ.out.2 HbB.out.1 HbB.out.2 HbC.out.1 HbC.out.2 HU.out).mono ?_);rintro e w3 ⟨rfl,hx3⟩;obtain⟨hc3,hf3⟩:=hx3.cells;(try simp only [qcD,qfD,qdZ]at hc3 hf3))))
        all_goals go_wp2
        go_roundg (n-(k+1))
        case measure=>have:=Hn.out;omega
        case rel =>
         refine⟨k+1,by omega,by rw [Hn.out];omega,by go_num,by rw [Hn.out],eA,fun j h2 hj=>?_⟩
         by_cases hjk:j=k
         ·rw [hjk,Hv2.out];simpa using hUp
         ·exact Hallk.out j h2 (by omega)
       ·have hUb:decide (U≤0)=true:=by simp;omega
        have e:convexB ps=false:=zew (by rw [Hn.out];exact hlt) (zkD (k:=k) (by rw [Hn.out];exact hlk) hk2 (by rw [Hv2.out];simpa using hUp));have E:=hd9 e;clear e;go_wp2
        go_region_held3 (fun W=>W.cell? ⟨b,o+i*2,Z⟩=Y (M J qx)∧W.cell? ⟨b,o+i*2+1,Z⟩=Y (M J qz)) ((repeat' (with_reducible refine And.intro ?_ ?_))<;>(first|(go_simp;done)|(refine hx1.cellS ?_;go_simp;done))) (first|((go_at_call 161;(with_reducible refine(zbP _ (O (Y ⟨b,o,Z⟩) n c) ps ((i:Int)+1) bx bz ?_ H0.out H6.out g2 (by omega) HB.out).mono ?_);(refine hs.ext' ?_;exact eA);rintro e w1 ⟨rfl,hx1⟩;obtain⟨hc1,hf1⟩:=hx1.cells;(try simp only [qcD,qfD,qdZ]at hc1 hf1);(have zq1:=hx1.lt (n:=b) (by first|exact hb' | (simp only [qdZ];exact hb')|(have:=zq1;omega)))))|((go_at_call 161;(with_reducible refine(zbP _ (O (Y ⟨b,o,Z⟩) n c) ps ((i:Int)+(k:Int)) cx cz ?_ H0.out H6.out g3 (by omega) HC.out).mono ?_);(refine hs.ext' ?_;exact eA);rintro e w2 ⟨rfl,hx2⟩;obtain⟨hc2,hf2⟩:=hx2.cells;(try simp only [qcD,qfD,qdZ]at hc2 hf2);(have zq2:=hx2.lt (n:=b) (by first|exact hb' | (simp only [qdZ];exact hb')|(have:=zq1;omega)))))|((go_at_call 212;(with_reducible refine(zcG _ _ _ _ _ _ _ U HbQ.out.1 HbQ.out.2 HbB.out.1 HbB.out.2 HbC.out.1 HbC.out.2 HU.out).mono ?_);rintro e w3 ⟨rfl,hx3⟩;obtain⟨hc3,hf3⟩:=hx3.cells;(try simp only [qcD,qfD,qdZ]at hc3 hf3))))
        all_goals go_wp2
        all_goals go_ret
        exact⟨by rw [E.out];rfl,eA⟩
      ·obtain rfl:k=n-1:=by omega
       have hrow:cvxR ps i=true:=zkE (by rw [Hv1.out];simpa using hTp) (fun j h2 hj=>Hallk.out j h2 (by rw [Hn.out]at hj;exact hj));have Hrow:=hd9 hrow;clear hrow;have p4:¬(((n-1:Nat):Int)<(n:Int)-1):=by omega
       go_wp2
       go_roundg (n-(i+1))
       case measure=>have:=Hn.out;omega
       case rel =>
        refine⟨i+1,by rw [Hn.out];omega,by go_num,by rw [Hn.out],eA,fun j hj=>?_⟩
        by_cases hji:j=i
        ·rw [hji];exact Hrow.out
        ·exact Hall.out j (by omega)
    ·have hTb:decide (T≤0)=true:=by simp;omega
     have e:convexB ps=false:=zew (by rw [Hn.out];exact hlt) (zkC (by rw [Hv1.out];simpa using hTp));have E:=hd9 e;clear e;go_wp2
     go_region_held3 (fun W=>W.cell? ⟨b,o+i*2,Z⟩=Y (M J qx)∧W.cell? ⟨b,o+i*2+1,Z⟩=Y (M J qz)) ((repeat' (with_reducible refine And.intro ?_ ?_))<;>(first|(go_simp;done)|(refine hx1.cellS ?_;go_simp;done))) (first|((go_at_call 161;(with_reducible refine(zbP _ (O (Y ⟨b,o,Z⟩) n c) ps ((i:Int)-1) ax az ?_ H0.out H6.out g1 (by omega) HA.out).mono ?_);(refine hs.ext' ?_;exact eA);rintro e w1 ⟨rfl,hx1⟩;obtain⟨hc1,hf1⟩:=hx1.cells;(try simp only [qcD,qfD,qdZ]at hc1 hf1);(have zq1:=hx1.lt (n:=b) (by first|exact hb' | (simp only [qdZ];exact hb')|(have:=zq1;omega)))))|((go_at_call 161;(with_reducible refine(zbP _ (O (Y ⟨b,o,Z⟩) n c) ps ((i:Int)+1) bx bz ?_ H0.out H6.out g2 (by omega) HB.out).mono ?_);(refine hs.ext' ?_;exact eA);rintro e w2 ⟨rfl,hx2⟩;obtain⟨hc2,hf2⟩:=hx2.cells;(try simp only [qcD,qfD,qdZ]at hc2 hf2);(have zq2:=hx2.lt (n:=b) (by first|exact hb' | (simp only [qdZ];exact hb')|(have:=zq1;omega)))))|((go_at_call 212;(with_reducible refine(zcG _ _ _ _ _ _ _ T HbA.out.1 HbA.out.2 HbQ.out.1 HbQ.out.2 HbB.out.1 HbB.out.2 HT.out).mono ?_);rintro e w3 ⟨rfl,hx3⟩;obtain⟨hc3,hf3⟩:=hx3.cells;(try simp only [qcD,qfD,qdZ]at hc3 hf3))))
     all_goals go_wp2
     all_goals go_ret
     exact⟨by rw [E.out];rfl,eA⟩
   ·obtain rfl:i=n:=by omega
    have e:convexB ps=true:=zgk (by rw [Hn.out];exact HW.out) (fun j hj=>Hall.out j (by rw [Hn.out]at hj;exact hj));have E:=hd9 e;clear e;go_wp2;go_ret;exact⟨by rw [E.out];rfl,eA⟩
 ·have hw':wthn n 3 12=false:=by simpa using hw
  have e:convexB ps=false:=by unfold convexB;rw [hn,hw'];rfl
  rw [e];clear e hn hn';go_enter Tryz.func168,Tryz.ntmps168
  go_wp2_with(((go_at_call 134;(with_reducible refine(zah _ n 3 12).mono ?_);rintro e w1 ⟨rfl,hx1⟩)))
  go_ret;exact⟨rfl,eA⟩
end
end Go.Proofs.YtodpfeaihohpjaaGreatDoor.Cop
