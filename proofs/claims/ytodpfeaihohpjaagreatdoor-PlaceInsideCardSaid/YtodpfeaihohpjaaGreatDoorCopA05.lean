/- Part 6: contracts of what the law calls. -/
import Derived.Test.YtodpfeaihohpjaaGreatDoorCopA04
import Derived.Deep.LoopGhost
set_option maxRecDepth 1000000
set_option maxHeartbeats 16000000
set_option linter.unusedSimpArgs false
set_option linter.unusedVariables false
open Go.Value renaming slice→O,bool→Z,int→V,agg→J
open Option renaming some→Y,none→X
open Go.IntKind renaming i64→I
open Go renaming World→M,Value→N,Addr→C
namespace Go.Proofs.YtodpfeaihohpjaaGreatDoor.Cop
section
open Go.RowKit Go.Shelf
theorem Ext.useLt {a b:M} (h:Ext a b) {n:Nat} {G:Prop} (d:n<a.heap.size) (k:n<b.heap.size→G):G:=k (h.lt d)
theorem Lm.mul {j k:Nat} {x y:Int} (h:Lm j x) (i:Lm k y):Lm (j+k) (x*y):=by
 have e:B ^ (j+k)=B ^ j*B ^ k:=by rw [Int.pow_add]
 have m:=zaE zbI j;have g:=zaE zbI k;unfold Lm at *;have d:(x.natAbs:Int)<B ^ j:=oM
 have f:(y.natAbs:Int)<B ^ k:=oM
 have l:((x*y).natAbs:Int)<B ^ (j+k):=by
  rw [Int.natAbs_mul,e,Int.natCast_mul];exact Int.lt_of_le_of_lt (Int.mul_le_mul_of_nonneg_left (Int.le_of_lt f) oM) (Int.mul_lt_mul_of_pos_right d g)
 omega
theorem Lm.add {k:Nat} {x y:Int} (h:Lm k x) (d:Lm k y):Lm (k+1) (x+y):=by
 have e:B ^ (k+1)=B ^ k*16777216:=by rw [Int.pow_succ];rfl
 unfold Lm at *;rw [e];omega
theorem ze3 (p q:Rat):Rat.divInt (p.num*q.den+q.num*p.den) ((p.den:Int)*q.den)=p+q:=by
 rw [Rat.add_def',←Rat.divInt_ofNat,Int.natCast_mul]
theorem ze8 (p q:Rat):Rat.divInt (p.num*q.num) ((p.den:Int)*q.den)=p*q:=by
 rw [Rat.mul_def',←Rat.divInt_ofNat,Int.natCast_mul]
theorem ze7 (p q:Rat):Rat.divInt (p.num*q.den) ((p.den:Int)*q.num)=p / q:=by
 rw [Rat.div_def,Rat.inv_def,←Rat.divInt_mul_divInt,Rat.num_divInt_den]
theorem zh8 (p q:Rat):(p.den:Int)*q.den≠0:=by
 have:=Int.mul_pos (den_pos p) (den_pos q);omega
theorem Rb.add {k:Nat} {p q:Rat} (h:Rb k p) (d:Rb k q):Rb (2*k+1) (p+q):=by
 rw [←ze3];refine⟨zjZ (zh8 p q) ?_,zha (zh8 p q) ((Lm.mul h.2 d.2).mono oM)⟩;rw [show 2*k+1=(k+k)+1 by omega];exact(h.1.mul d.2).add (d.1.mul h.2)
theorem Rb.mul {j k:Nat} {p q:Rat} (h:Rb j p) (d:Rb k q):Rb (j+k) (p*q):=by
 rw [←ze8];exact⟨zjZ (zh8 p q) (h.1.mul d.1),zha (zh8 p q) (h.2.mul d.2)⟩
theorem Rb.neg {k:Nat} {p:Rat} (h:Rb k p):Rb k (-p):=⟨h.1.neg,h.2⟩
theorem Rb.sub {k:Nat} {p q:Rat} (h:Rb k p) (d:Rb k q):Rb (2*k+1) (p-q):=by
 rw [Rat.sub_eq_add_neg];exact h.add d.neg
theorem Rb.int {k:Nat} {n:Int} (h:Lm k n) (d:1≤k):Rb k (n:Rat):=⟨h,zht d⟩
theorem Rb.div {j k:Nat} {p q:Rat} (h:Rb j p) (d:Rb k q) (i:1≤j+k):Rb (j+k) (p / q):=by
 by_cases g:q=0
 ·subst g
  have:p / 0=((0:Int):Rat):=by rw [Rat.div_def,Rat.inv_zero,Rat.mul_zero];rfl
  rw [this];exact Rb.int (by have:=zaE zbI (j+k);unfold Lm;omega) i
 ·have l:q.num≠0:=fun e=>g (by rw [←Rat.num_divInt_den q,e];simp)
  have f:(p.den:Int)*q.num≠0:=Int.mul_ne_zero (by have:=den_pos p;omega) l;rw [←ze7];exact⟨zjZ f (h.1.mul d.2),zha f (h.2.mul d.1)⟩
def rcmp (p q:Rat):Int:=(p.num*q.den-q.num*p.den).sign
theorem za0 (p q:Rat):rcmp p q<0 ↔ p<q:=by
 unfold rcmp;rw [Rat.lt_iff,Int.sign_neg_iff];omega
theorem zeh (p q:Rat):0<rcmp p q ↔ q<p:=by
 unfold rcmp;rw [Rat.lt_iff,Int.sign_pos_iff];omega
def S3R (w:M) (a:Option C) (m c:Nat) (s:Bool) (h:Option C) (j c2:Nat) (g:Option C) (i c':Nat) (l:Bool) (d:Option C) (f e:Nat) (W:M):Prop:=
 W.cell? ⟨w.heap.size,0,X⟩=Y (O a m c)∧W.cell? ⟨w.heap.size,1,X⟩=Y (Z s)∧W.cell? ⟨w.heap.size,2,X⟩=Y (O h j c2)∧W.cell? ⟨w.heap.size+1,0,X⟩=Y (O g i c')∧W.cell? ⟨w.heap.size+1,1,X⟩=Y (Z l)∧W.cell? ⟨w.heap.size+1,2,X⟩=Y (O d f e)
theorem zmj (w:M) (va vb:N) (p q:Rat) (ha:IsR w va p) (hb:IsR w vb q) (d:Rb limR p) (f:Rb limR q) :
  Calls Tryz.prog 19 #[va,vb] w fun e w'=>e = .returned (V I (rcmp p q))∧Ext w w'∧Dr w w':=by
 obtain⟨a,m,c,s,a2,m2,c2,rfl⟩:=ha.form;obtain⟨a',m',c',s',i,u,j,rfl⟩:=hb.form;have x:=hd9 d;have y:=hd9 f;have ac:=ha.top;have ad:=hb.top;have z:Hid (Lm lim p.num):=hd9 (d.1.mono dM);have D:Hid (Lm lim q.num):=hd9 (f.1.mono dM);have K:Hid (Lm lim (p.den:Int)):=hd9 (d.2.mono dM);have Q:Hid (Lm lim (q.den:Int)):=hd9 (f.2.mono dM);have aa:Hid (Lm limA (p.num*q.den)):=hd9 ((d.1.mul f.2).mono dM);have ab:Hid (Lm limA (q.num*p.den)):=hd9 ((f.1.mul d.2).mono dM);have au:Hid (Lm limA (p.num*q.num)):=hd9 ((d.1.mul f.1).mono dM);have av:Hid (Lm limA ((p.den:Int)*q.den)):=hd9 ((d.2.mul f.2).mono dM);have aw:Hid (Lm limA ((p.den:Int)*q.num)):=hd9 ((d.2.mul f.1).mono dM);have g:Hid (Lm lim (p.num*q.den)):=hd9 (aa.out.mono dM);have h:Hid (Lm lim (q.num*p.den)):=hd9 (ab.out.mono dM);clear d f;go_enter Tryz.func19,Tryz.ntmps19;go_wp2
 go_region_held3 (fun W=>W.cell? ⟨w.heap.size,0,X⟩=Y (O a m c)∧W.cell? ⟨w.heap.size,1,X⟩=Y (Z s)∧W.cell? ⟨w.heap.size,2,X⟩=Y (O a2 m2 c2)∧W.cell? ⟨w.heap.size+1,0,X⟩=Y (O a' m' c')∧W.cell? ⟨w.heap.size+1,1,X⟩=Y (Z s')∧W.cell? ⟨w.heap.size+1,2,X⟩=Y (O i u j)) ((repeat' (with_reducible refine And.intro ?_ ?_))<;>(first|(go_simp;done)|(refine hx1.cellS ?_;go_simp;done))) (first|((go_at_call 64;(with_reducible refine(zeg _ (J #[O a' m' c',Z s',O i u j]) q ?_ y.out).mono ?_);(refine hb.ext ?_;exact eA);rintro e w1 ⟨r1,rfl,l,hx1,aC⟩;obtain⟨b1,n1,k1,t1,rfl⟩:=l.form;obtain⟨⟨ax,aH⟩,ai,aj⟩:=cK2 w hx1))|((go_at_call 64;(with_reducible refine(zeg _ (J #[O a m c,Z s,O a2 m2 c2]) p ?_ x.out).mono ?_);(refine ha.ext ?_;exact eA);rintro e w3 ⟨r3,rfl,r,af,aE⟩;obtain⟨b3,n3,k3,t3,rfl⟩:=r.form;obtain⟨⟨az,aJ⟩,am,an⟩:=cK2 w af))|((go_at_call 63;(with_reducible refine(zkP _ (J #[O a m c,Z s]) (J #[O b1 n1 k1,Z t1]) p.num (q.den:Int) ?_ ?_ z.out Q.out).mono ?_);(refine ac.ext ?_;exact eA);(refine l.ext ?_;exact eA);rintro e w2 ⟨r2,rfl,o,ae,aD⟩;obtain⟨b2,n2,k2,t2,rfl⟩:=o.form;obtain⟨⟨ay,aI⟩,ak,al⟩:=cK2 w ae))|((go_at_call 63;(with_reducible refine(zkP _ (J #[O a' m' c',Z s']) (J #[O b3 n3 k3,Z t3]) q.num (p.den:Int) ?_ ?_ D.out K.out).mono ?_);(refine ad.ext ?_;exact eA);(refine r.ext ?_;exact eA);rintro e w4 ⟨r4,rfl,t,ag,aF⟩;obtain⟨b4,n4,k4,t4,rfl⟩:=t.form;obtain⟨⟨aA,aK⟩,ao,ap⟩:=cK2 w ag))|((go_at_call 65;(with_reducible refine(zmu _ (J #[O b2 n2 k2,Z t2]) (J #[O b4 n4 k4,Z t4]) (p.num*q.den) (q.num*p.den) ?_ ?_ g.out h.out).mono ?_);(refine o.ext ?_;exact eA);(refine t.ext ?_;exact eA);rintro e w5 ⟨rfl,ah,aG⟩;obtain⟨⟨aB,aL⟩,aq,ar⟩:=cK2 w ah)))
 all_goals go_wp2
 go_ret;exact⟨rfl,eA,dA⟩
theorem zan (w:M) (g h:N) (p q:Rat) (i:IsR w g p) (j:IsR w h q) (d:Rb limR p) (f:Rb limR q) :
  Calls Tryz.prog 19 #[g,h] w fun e w'=>e = .returned (V I (rcmp p q))∧Ext w w':=zfP (zmj w g h p q i j d f)
theorem zbx (w:M) (va vb:N) (p q:Rat) (ha:IsR w va p) (hb:IsR w vb q) (d:Rb limR p) (f:Rb limR q) :
  Calls Tryz.prog 27 #[va,vb] w (RetR w (p*q)):=by
 obtain⟨a,m,c,s,a2,m2,c2,rfl⟩:=ha.form;obtain⟨a',m',c',s',g,t,h,rfl⟩:=hb.form;have D:=hd9 d;have K:=hd9 f;have am:=ha.top;have an:=hb.top;have Q:Hid (Lm lim p.num):=hd9 (d.1.mono dM);have aa:Hid (Lm lim q.num):=hd9 (f.1.mono dM);have ab:Hid (Lm lim (p.den:Int)):=hd9 (d.2.mono dM);have ac:Hid (Lm lim (q.den:Int)):=hd9 (f.2.mono dM);have ad:Hid (Lm limA (p.num*q.den)):=hd9 ((d.1.mul f.2).mono dM);have ae:Hid (Lm limA (q.num*p.den)):=hd9 ((f.1.mul d.2).mono dM);have af:Hid (Lm limA (p.num*q.num)):=hd9 ((d.1.mul f.1).mono dM);have ag:Hid (Lm limA ((p.den:Int)*q.den)):=hd9 ((d.2.mul f.2).mono dM);have aH:Hid (Lm limA ((p.den:Int)*q.num)):=hd9 ((d.2.mul f.1).mono dM);have au:Hid (Lm lim (p.num*q.den)):=hd9 (ad.out.mono dM);have av:Hid (Lm lim (q.num*p.den)):=hd9 (ae.out.mono dM);clear d f;go_enter Tryz.func27,Tryz.ntmps27;go_wp2
 go_region_held3 (fun W=>W.cell? ⟨w.heap.size,0,X⟩=Y (O a m c)∧W.cell? ⟨w.heap.size,1,X⟩=Y (Z s)∧W.cell? ⟨w.heap.size,2,X⟩=Y (O a2 m2 c2)∧W.cell? ⟨w.heap.size+1,0,X⟩=Y (O a' m' c')∧W.cell? ⟨w.heap.size+1,1,X⟩=Y (Z s')∧W.cell? ⟨w.heap.size+1,2,X⟩=Y (O g t h)) ((repeat' (with_reducible refine And.intro ?_ ?_))<;>(first|(go_simp;done)|(refine hx1.cellS ?_;go_simp;done))) (first|((go_at_call 63;(with_reducible refine(zbV _ (J #[O a m c,Z s]) (J #[O a' m' c',Z s']) p.num q.num ?_ ?_ Q.out aa.out).mono ?_);(refine am.ext ?_;exact eA);(refine an.ext ?_;exact eA);rintro e w1 ⟨r1,rfl,i,hx1⟩;obtain⟨b1,n1,k1,t1,rfl⟩:=i.form;obtain⟨⟨ah,aI⟩,aw,ax,u⟩:=cK3 w hx1))|((go_at_call 64;(with_reducible refine(zaJ _ (J #[O a m c,Z s,O a2 m2 c2]) p ?_ D.out).mono ?_);(refine ha.ext ?_;exact eA);rintro e w2 ⟨r2,rfl,j,ao⟩;obtain⟨b2,n2,k2,t2,rfl⟩:=j.form;obtain⟨⟨ai,aJ⟩,ay,az,x⟩:=cK3 w ao))|((go_at_call 64;(with_reducible refine(zaJ _ (J #[O a' m' c',Z s',O g t h]) q ?_ K.out).mono ?_);(refine hb.ext ?_;exact eA);rintro e w3 ⟨r3,rfl,l,ap⟩;obtain⟨b3,n3,k3,t3,rfl⟩:=l.form;obtain⟨⟨aj,aK⟩,aA,aB,y⟩:=cK3 w ap))|((go_at_call 63;(with_reducible refine(zbV _ (J #[O b2 n2 k2,Z t2]) (J #[O b3 n3 k3,Z t3]) (p.den:Int) (q.den:Int) ?_ ?_ ab.out ac.out).mono ?_);(refine j.ext ?_;exact eA);(refine l.ext ?_;exact eA);rintro e w4 ⟨r4,rfl,o,aq⟩;obtain⟨b4,n4,k4,t4,rfl⟩:=o.form;obtain⟨⟨ak,aL⟩,aC,aD,z⟩:=cK3 w aq))|((go_at_call 82;(with_reducible refine(zef _ (J #[O b1 n1 k1,Z t1]) (J #[O b4 n4 k4,Z t4]) (p.num*q.num) ((p.den:Int)*q.den) ?_ ?_ af.out ag.out (zh8 p q)).mono ?_);(refine i.ext ?_;exact eA);(refine o.ext ?_;exact eA);rintro e w5 ⟨r5,rfl,r,ar⟩;obtain⟨b5,n5,k5,t5,b6,n6,k6,rfl⟩:=r.form;obtain⟨⟨al,aM⟩,aE,aF,aG⟩:=cK3 w ar)))
 all_goals go_wp2
 refine bR (v:=J #[O b5 n5 k5,Z t5,O b6 n6 k6]) (by simp [results,Tryz.results27,go_sem,ah,ai,aj,ak,al,u,x,y,z]) rfl ⟨_,rfl,?_,eA⟩;rw [←ze8];exact r.keep kA
theorem zkp (w:M) (t u:N) (p q:Rat) (ha:IsR w t p) (hb:IsR w u q) (d:∀(W:M) (t u:N) (p q:Rat),IsR W t p→IsR W u q→Rb limR p→Rb limR q→Calls Tryz.prog 26 #[t,u] W (RetR W (p+q))) (i:Rb limR p) (j:Rb limR q) :
  Calls Tryz.prog 20 #[t,u] w (RetR w (p-q)):=by
 obtain⟨a,m,c,s,a2,m2,c2,rfl⟩:=ha.form;obtain⟨a',m',c',s',g,r,h,rfl⟩:=hb.form;have y:=hd9 i;have z:=hd9 j.neg;have f:=hd9 d;clear i j d;rw [Rat.sub_eq_add_neg];go_enter Tryz.func20,Tryz.ntmps20;go_wp2
 go_region_held3 (fun W=>W.cell? ⟨w.heap.size,0,X⟩=Y (O a m c)∧W.cell? ⟨w.heap.size,1,X⟩=Y (Z s)∧W.cell? ⟨w.heap.size,2,X⟩=Y (O a2 m2 c2)∧W.cell? ⟨w.heap.size+1,0,X⟩=Y (O a' m' c')∧W.cell? ⟨w.heap.size+1,1,X⟩=Y (Z s')∧W.cell? ⟨w.heap.size+1,2,X⟩=Y (O g r h)) ((repeat' (with_reducible refine And.intro ?_ ?_))<;>(first|(go_simp;done)|(refine hx1.cellS ?_;go_simp;done))) (first|((go_at_call 66;(with_reducible refine(zlJ _ (J #[O a' m' c',Z s',O g r h]) q ?_).mono ?_);(refine hb.ext ?_;exact eA);rintro e w1 ⟨r1,rfl,l,hx1⟩;obtain⟨b1,n1,k1,t1,b2,n2,k2,rfl⟩:=l.form;obtain⟨⟨D,af⟩,aa,ab,x⟩:=cK3 w hx1))|((go_at_call 26;(with_reducible refine(f.out _ (J #[O a m c,Z s,O a2 m2 c2]) (J #[O b1 n1 k1,Z t1,O b2 n2 k2]) p (-q) ?_ ?_ y.out z.out).mono ?_);(refine ha.ext ?_;exact eA);(refine l.ext ?_;exact eA);rintro e w5 ⟨r5,rfl,o,Q⟩;obtain⟨b5,n5,k5,t5,b6,n6,k6,rfl⟩:=o.form;obtain⟨⟨K,ag⟩,ac,ad,ae⟩:=cK3 w Q)))
 all_goals go_wp2
 exact bR (v:=J #[O b5 n5 k5,Z t5,O b6 n6 k6]) (by simp [results,Tryz.results20,go_sem,D,K,x]) rfl ⟨_,rfl,o.keep kA,eA⟩
theorem zog (q:Rat):(q.num=0) ↔ q=0:=by
 constructor
 ·intro h;rw [←Rat.num_divInt_den q,h];simp
 ·rintro rfl;rfl
theorem zlF (w:M) (va vb:N) (p q:Rat) (ha:IsR w va p) (hb:IsR w vb q) (d:Rb limR p) (f:Rb limR q) :
  Calls Tryz.prog 143 #[va,vb] w fun e w'=>∃r,e = .returned (.tuple #[r,V I (if (p.den:Int)*q.num=0 then 9 else 0)])∧IsR w' r (p / q)∧Ext w w':=by
 obtain⟨a,m,c,s,a2,m2,c2,rfl⟩:=ha.form;obtain⟨a',m',c',s',i,y,j,rfl⟩:=hb.form;have aa:=hd9 d;have ab:=hd9 f;have ao:=ha.top;have ap:=hb.top;have ac:Hid (Lm lim p.num):=hd9 (d.1.mono dM);have ad:Hid (Lm lim q.num):=hd9 (f.1.mono dM);have ae:Hid (Lm lim (p.den:Int)):=hd9 (d.2.mono dM);have af:Hid (Lm lim (q.den:Int)):=hd9 (f.2.mono dM);have h:Hid (Lm limA (p.num*q.den)):=hd9 ((d.1.mul f.2).mono dM);have ag:Hid (Lm limA (q.num*p.den)):=hd9 ((f.1.mul d.2).mono dM);have aJ:Hid (Lm limA (p.num*q.num)):=hd9 ((d.1.mul f.1).mono dM);have aK:Hid (Lm limA ((p.den:Int)*q.den)):=hd9 ((d.2.mul f.2).mono dM);have ah:Hid (Lm limA ((p.den:Int)*q.num)):=hd9 ((d.2.mul f.1).mono dM);have aw:Hid (Lm lim (p.num*q.den)):=hd9 (h.out.mono dM);have ax:Hid (Lm lim (q.num*p.den)):=hd9 (ag.out.mono dM);clear d f;obtain⟨er,g⟩:∃er:Int,er=if (p.den:Int)*q.num=0 then 9 else 0:=⟨_,rfl⟩
 rw [←g];have ai:=hd9 g;clear g;go_enter Tryz.func143,Tryz.ntmps143;go_wp2
 go_region_held3 (fun W=>W.cell? ⟨w.heap.size,0,X⟩=Y (O a m c)∧W.cell? ⟨w.heap.size,1,X⟩=Y (Z s)∧W.cell? ⟨w.heap.size,2,X⟩=Y (O a2 m2 c2)∧W.cell? ⟨w.heap.size+1,0,X⟩=Y (O a' m' c')∧W.cell? ⟨w.heap.size+1,1,X⟩=Y (Z s')∧W.cell? ⟨w.heap.size+1,2,X⟩=Y (O i y j)) ((repeat' (with_reducible refine And.intro ?_ ?_))<;>(first|(go_simp;done)|(refine hx1.cellS ?_;go_simp;done))) (first|((go_at_call 64;(with_reducible refine(zaJ _ (J #[O a' m' c',Z s',O i y j]) q ?_ ab.out).mono ?_);(refine hb.ext ?_;exact eA);rintro e w1 ⟨r1,rfl,l,hx1⟩;obtain⟨b1,n1,k1,t1,rfl⟩:=l.form;obtain⟨⟨aj,aL⟩,ay,az,z⟩:=cK3 w hx1))|((go_at_call 63;(with_reducible refine(zbV _ (J #[O a m c,Z s]) (J #[O b1 n1 k1,Z t1]) p.num (q.den:Int) ?_ ?_ ac.out af.out).mono ?_);(refine ao.ext ?_;exact eA);(refine l.ext ?_;exact eA);rintro e w2 ⟨r2,rfl,o,aq⟩;obtain⟨b2,n2,k2,t2,rfl⟩:=o.form;obtain⟨⟨ak,aM⟩,aA,aB,D⟩:=cK3 w aq))|((go_at_call 64;(with_reducible refine(zaJ _ (J #[O a m c,Z s,O a2 m2 c2]) p ?_ aa.out).mono ?_);(refine ha.ext ?_;exact eA);rintro e w3 ⟨r3,rfl,t,ar⟩;obtain⟨b3,n3,k3,t3,rfl⟩:=t.form;obtain⟨⟨al,aO⟩,aC,aD,K⟩:=cK3 w ar))|((go_at_call 63;(with_reducible refine(zbV _ (J #[O b3 n3 k3,Z t3]) (J #[O a' m' c',Z s']) (p.den:Int) q.num ?_ ?_ ae.out ad.out).mono ?_);(refine t.ext ?_;exact eA);(refine ap.ext ?_;exact eA);rintro e w4 ⟨r4,rfl,u,au⟩;obtain⟨b4,n4,k4,t4,rfl⟩:=u.form;obtain⟨⟨am,aP⟩,aE,aF,Q⟩:=cK3 w au))|((go_at_call 81;(with_reducible refine(zj0 _ (J #[O b2 n2 k2,Z t2]) (J #[O b4 n4 k4,Z t4]) (p.num*q.den) ((p.den:Int)*q.num) ?_ ?_ h.out ah.out).mono ?_);(refine o.ext ?_;exact eA);(refine u.ext ?_;exact eA);rw [←ai.out];rintro e w5 ⟨r5,rfl,x,av⟩;obtain⟨b5,n5,k5,t5,b6,n6,k6,rfl⟩:=x.form;obtain⟨⟨an,aQ⟩,aG,aH,aI⟩:=cK3 w av)))
 all_goals go_wp2
 refine bR (v:=.tuple #[J #[O b5 n5 k5,Z t5,O b6 n6 k6],V I er]) (by simp [results,Tryz.results143,go_sem,aj,ak,al,am,an,z,D,K,Q]) rfl ⟨_,rfl,?_,eA⟩;rw [←ze7];exact x.keep kA
def AdS (w:M) (p q:Rat) (a:Option C) (m c:Nat) (s:Bool) (r:Option C) (t c':Nat) (u:Bool) (t5 z:N) (W:M):Prop:=
 ∃(d e:Nat) (x y:Option C) (h f j g:Nat) (l o:Bool),t5 = .pointer (Y ⟨d,0,X⟩)∧z = .pointer (Y ⟨e,0,X⟩)∧w.heap.size+1+1<d∧w.heap.size+1+1<e∧Ext w W∧NoT 2 W (w.heap.size+1+1) ∧
 IsZ W (J #[O x h f,Z l]) (p.den:Int)∧IsZ W (J #[O y j g,Z o]) (q.den:Int) ∧
 W.cell? ⟨d,0,X⟩=Y (O x h f)∧W.cell? ⟨d,1,X⟩=Y (Z l)∧W.cell? ⟨e,0,X⟩=Y (O y j g)∧W.cell? ⟨e,1,X⟩=Y (Z o) ∧
 W.cell? ⟨w.heap.size,0,X⟩=Y (O a m c)∧W.cell? ⟨w.heap.size,1,X⟩=Y (Z s)∧W.cell? ⟨w.heap.size+1,0,X⟩=Y (O r t c')∧W.cell? ⟨w.heap.size+1,1,X⟩=Y (Z u) ∧
 W.cell? ⟨w.heap.size+1+1,0,X⟩=Y (O X 0 0)∧W.cell? ⟨w.heap.size+1+1,1,X⟩=Y (Z false)∧W.cell? ⟨w.heap.size+1+1,2,X⟩=Y (O X 0 0) ∧
 (∀i,W.frozen? ⟨w.heap.size+1+1,i,X⟩=false)
theorem zaZ (w:M) (va vb:N) (p q:Rat) (ha:IsR w va p) (hb:IsR w vb q) (d:Rb limR p) (f:Rb limR q) :
  Calls Tryz.prog 26 #[va,vb] w (RetR w (p+q)):=by
 obtain⟨a,m,c,s,a2,m2,c2,rfl⟩:=ha.form;obtain⟨a',m',c',s',ah,au,ai,rfl⟩:=hb.form;have K:=hd9 d;have Q:=hd9 f;have a7:=ha.top;have a8:=hb.top;have aP:Hid (Lm lim p.num):=hd9 (d.1.mono dM);have aQ:Hid (Lm lim q.num):=hd9 (f.1.mono dM);have ad:Hid (Lm lim (p.den:Int)):=hd9 (d.2.mono dM);have ae:Hid (Lm lim (q.den:Int)):=hd9 (f.2.mono dM);have aR:Hid (Lm limA (p.num*q.den)):=hd9 ((d.1.mul f.2).mono dM);have aS:Hid (Lm limA (q.num*p.den)):=hd9 ((f.1.mul d.2).mono dM);have bu:Hid (Lm limA (p.num*q.num)):=hd9 ((d.1.mul f.1).mono dM);have aT:Hid (Lm limA ((p.den:Int)*q.den)):=hd9 ((d.2.mul f.2).mono dM);have bv:Hid (Lm limA ((p.den:Int)*q.num)):=hd9 ((d.2.mul f.1).mono dM);have af:Hid (Lm lim (p.num*q.den)):=hd9 (aR.out.mono dM);have ag:Hid (Lm lim (q.num*p.den)):=hd9 (aS.out.mono dM);clear d f;go_enter Tryz.func26,Tryz.ntmps26
 go_upto_region 1 with fail
 go_cut [5,6] (AdS w p q a m c s a' m' c' s')
 case first =>
  go_region_held3 (fun W=>W.cell? ⟨w.heap.size,0,X⟩=Y (O a m c)∧W.cell? ⟨w.heap.size,1,X⟩=Y (Z s)∧W.cell? ⟨w.heap.size,2,X⟩=Y (O a2 m2 c2)∧W.cell? ⟨w.heap.size+1,0,X⟩=Y (O a' m' c')∧W.cell? ⟨w.heap.size+1,1,X⟩=Y (Z s')∧W.cell? ⟨w.heap.size+1,2,X⟩=Y (O ah au ai)) ((repeat' (with_reducible refine And.intro ?_ ?_))<;>(first|(go_simp;done)|(refine hx1.cellS ?_;go_simp;done))) (first|((go_at_call 64;(with_reducible refine(zaJ _ (J #[O a m c,Z s,O a2 m2 c2]) p ?_ K.out).mono ?_);(refine ha.ext ?_;exact eA);rintro e h ⟨r1,rfl,j,hx1⟩;obtain⟨b1,n1,k1,t1,rfl⟩:=j.form;obtain⟨⟨ak,a5⟩,av,aw,z⟩:=cK3 w hx1;have aC:w.heap.size<h.heap.size+1:=oM;have aD:w.heap.size<h.heap.size+1+1:=oM;have aE:w.heap.size+1<h.heap.size+1:=oM;have aF:w.heap.size+1<h.heap.size+1+1:=oM;have aG:w.heap.size+1+1<h.heap.size+1:=oM;have aH:w.heap.size+1+1<h.heap.size+1+1:=oM;(try(refine Ext.useLt hx1 (n:=w.heap.size+1+1+1) ?_ (fun _=>?_);focus(go_simp;done)));(try(refine Ext.useLt hx1 (n:=w.heap.size+1+1+1+1) ?_ (fun _=>?_);focus(go_simp;done)));(try(refine Ext.useLt hx1 (n:=h.heap.size) ?_ (fun _=>?_);focus(go_simp;done)));(try(refine Ext.useLt hx1 (n:=h.heap.size+1) ?_ (fun _=>?_);focus(go_simp;done)))))|((go_at_call 64;(with_reducible refine(zaJ _ (J #[O a' m' c',Z s',O ah au ai]) q ?_ Q.out).mono ?_);(refine hb.ext ?_;exact eA);rintro e u ⟨r2,rfl,l,g⟩;obtain⟨b2,n2,k2,t2,rfl⟩:=l.form;obtain⟨⟨t,a6⟩,ax,ay,D⟩:=cK3 w g;have aI:w.heap.size<u.heap.size+1:=oM;have aJ:w.heap.size<u.heap.size+1+1:=oM;have aK:w.heap.size+1<u.heap.size+1:=oM;have aL:w.heap.size+1<u.heap.size+1+1:=oM;have aM:w.heap.size+1+1<u.heap.size+1:=oM;have aO:w.heap.size+1+1<u.heap.size+1+1:=oM;(try(refine Ext.useLt g (n:=w.heap.size+1+1+1) ?_ (fun _=>?_);focus(go_simp;done)));(try(refine Ext.useLt g (n:=w.heap.size+1+1+1+1) ?_ (fun _=>?_);focus(go_simp;done)));(try(refine Ext.useLt g (n:=h.heap.size) ?_ (fun _=>?_);focus(go_simp;done)));(try(refine Ext.useLt g (n:=h.heap.size+1) ?_ (fun _=>?_);focus(go_simp;done))))))
  all_goals go_wp2
  all_goals go_meet
  all_goals refine⟨_,_,b1,b2,n1,k1,n2,k2,t1,t2,rfl,rfl,by omega,by omega,eA,nA,j.keep kA,l.keep kA,?_,?_,?_,?_,?_,?_,?_,?_,?_,?_,?_,fun i=>?_⟩
  all_goals first|(go_simp;done)|(have u1:h.heap.size<h.heap.size+1+1:=oM;have u2:u.cell? ⟨h.heap.size,0,X⟩=Y (O X 0 0):=((t _ _ (by first|exact u1|(simp only [wZ,qdZ];exact u1))).trans (by go_simp));have u3:u.cell? ⟨h.heap.size,1,X⟩=Y (Z false):=((t _ _ (by first|exact u1|(simp only [wZ,qdZ];exact u1))).trans (by go_simp));go_simp)
 case rest =>
  obtain⟨o,r,x,y,mx,cx,my,cy,sx,sy,rfl,rfl,bB,bC,hx,hN,aq,ar,aV,bw,aW,bx,aX,bz,aY,bA,aj,aZ,a0,bG⟩:=hcut;have bI:¬o=w.heap.size+1+1:=oM
  have a9:¬w.heap.size+1+1=o:=oM
  have bJ:¬r=w.heap.size+1+1:=oM
  have ba:¬w.heap.size+1+1=r:=oM
  have bK:o<wc.heap.size:=World.block_lt_of_cell? wc _ aV;have bL:r<wc.heap.size:=World.block_lt_of_cell? wc _ aW;have bs:w.heap.size<wc.heap.size:=World.block_lt_of_cell? wc _ aX;have bt:w.heap.size+1<wc.heap.size:=World.block_lt_of_cell? wc _ aY;have aB:w.heap.size+1+1<wc.heap.size:=World.block_lt_of_cell? wc _ aj
  have aU:Hid (Lm limA (p.num*q.den+q.num*p.den)):=by
   have h1:=((K.out.1.mul Q.out.2).add (Q.out.1.mul K.out.2)).mono (show limR+limR+1≤limA by decide);exact hd9 h1
  have ao:=a7.ext hx;have ap:=a8.ext hx;go_wp2
  go_region_held3 (fun W=>W.cell? ⟨w.heap.size,0,X⟩=Y (O a m c)∧W.cell? ⟨w.heap.size,1,X⟩=Y (Z s)∧W.cell? ⟨w.heap.size+1,0,X⟩=Y (O a' m' c')∧W.cell? ⟨w.heap.size+1,1,X⟩=Y (Z s')∧W.cell? ⟨o,0,X⟩=Y (O x mx cx)∧W.cell? ⟨o,1,X⟩=Y (Z sx)∧W.cell? ⟨r,0,X⟩=Y (O y my cy)∧W.cell? ⟨r,1,X⟩=Y (Z sy)) ((repeat' (with_reducible refine And.intro ?_ ?_))<;>(first|(go_simp;done)|(refine hx1.cellS ?_;go_simp;done))) (first|((go_at_call 63;(with_reducible refine(zbV _ (J #[O a m c,Z s]) (J #[O y my cy,Z sy]) p.num (q.den:Int) ?_ ?_ aP.out ae.out).mono ?_);(refine ao.ext ?_;exact eA);(refine ar.ext ?_;exact eA);rintro e h ⟨r1,rfl,j,hx1⟩;obtain⟨b1,n1,k1,t1,rfl⟩:=j.form;obtain⟨⟨ak,a5⟩,av,aw,z⟩:=cK3 w hx1;(have bb:=hx1.lt (n:=o) (by go_simp));(have bg:=hx1.lt (n:=r) (by go_simp))))|((go_at_call 63;(with_reducible refine(zbV _ (J #[O a' m' c',Z s']) (J #[O x mx cx,Z sx]) q.num (p.den:Int) ?_ ?_ aQ.out ad.out).mono ?_);(refine ap.ext ?_;exact eA);(refine aq.ext ?_;exact eA);rintro e u ⟨r2,rfl,l,g⟩;obtain⟨b2,n2,k2,t2,rfl⟩:=l.form;obtain⟨⟨t,a6⟩,ax,ay,D⟩:=cK3 w g;(have bc:=g.lt (n:=o) (by go_simp));(have bh:=g.lt (n:=r) (by go_simp))))|((go_at_call 83;(with_reducible refine(zlW _ (J #[O b1 n1 k1,Z t1]) (J #[O b2 n2 k2,Z t2]) (p.num*q.den) (q.num*p.den) ?_ ?_ af.out ag.out).mono ?_);(refine j.ext ?_;exact eA);(refine l.ext ?_;exact eA);rintro e w3 ⟨r3,rfl,al,aa⟩;obtain⟨b3,n3,k3,t3,rfl⟩:=al.form;obtain⟨⟨a1,bD⟩,bl,bm,az⟩:=cK3 w aa;(have bd:=aa.lt (n:=o) (by go_simp));(have bi:=aa.lt (n:=r) (by go_simp))))|((go_at_call 63;(with_reducible refine(zbV _ (J #[O x mx cx,Z sx]) (J #[O y my cy,Z sy]) (p.den:Int) (q.den:Int) ?_ ?_ ad.out ae.out).mono ?_);(refine aq.ext ?_;exact eA);(refine ar.ext ?_;exact eA);rintro e w4 ⟨r4,rfl,am,ab⟩;obtain⟨b4,n4,k4,t4,rfl⟩:=am.form;obtain⟨⟨a3,bE⟩,bn,bo,aA⟩:=cK3 w ab;(have be:=ab.lt (n:=o) (by go_simp));(have bj:=ab.lt (n:=r) (by go_simp))))|((go_at_call 82;(with_reducible refine(zef _ (J #[O b3 n3 k3,Z t3]) (J #[O b4 n4 k4,Z t4]) (p.num*q.den+q.num*p.den) ((p.den:Int)*q.den) ?_ ?_ aU.out aT.out (zh8 p q)).mono ?_);(refine al.ext ?_;exact eA);(refine am.ext ?_;exact eA);rintro e w5 ⟨r5,rfl,an,ac⟩;obtain⟨b7,n5,k5,t5,b8,n6,k6,rfl⟩:=an.form;obtain⟨⟨a4,bF⟩,bp,bq,br⟩:=cK3 w ac;(have bf:=ac.lt (n:=o) (by go_simp));(have bk:=ac.lt (n:=r) (by go_simp)))))
  all_goals go_wp2
  refine bR (v:=J #[O b7 n5 k5,Z t5,O b8 n6 k6]) (by simp [results,Tryz.results26,go_sem,ak,t,a1,a3,a4,aB,z,D,az,aA,aj,aZ,a0]) rfl ⟨_,rfl,?_,?_⟩
  ·rw [←ze3]
   exact an.keep kA
  ·have bH:Ext w h:=hx.trans ((eR wc).drew.trans hx1)
   exact eA
theorem zat (w:M) (f g:N) (p q:Rat) (h:IsR w f p) (i:IsR w g q) (d:Rb limR p) (e:Rb limR q) :
  Calls Tryz.prog 20 #[f,g] w (RetR w (p-q)):=zkp w f g p q h i zaZ d e
def RB (W:M) (b:Nat) (q:Rat):Prop:=∃a m c s a2 m2 c2,W.heap[b]?=Y (.cells #[O a m c,Z s,O a2 m2 c2] 65 (0,0))∧IsR W (J #[O a m c,Z s,O a2 m2 c2]) q
theorem zfB {W:M} {g:Nat} {x y z:N} {T:TypeId} {d:Nat×Nat} (h:W.heap[g]?=Y (.cells #[x,y,z] T d)) (u v t:N) :
  (((W.setCell ⟨g,0,X⟩ u).setCell ⟨g,1,X⟩ v).setCell ⟨g,2,X⟩ t).heap[g]?=Y (.cells #[u,v,t] T d):=by
 simp [World.setCell,Array.getElem?_modify,h]
section
variable {W W':M} {b b':Nat} {n n':Rat}
theorem RB.ext (h:RB W b n) (k:Ext W W'):RB W' b n:=by
 obtain⟨a,m,c,s,d,i,e,f,g⟩:=h;exact⟨a,m,c,s,d,i,e,k.heapS f,g.ext k⟩
theorem RB.not (h:RB W b n):NoT 2 W b:=by
 obtain⟨a,m,c,s,f,o,g,d,l⟩:=h;intro i j e;rw [d]at e;cases e
theorem RB.rd (h:RB W b n):∃a m c s a2 m2 c2,W.cell? ⟨b,0,X⟩=Y (O a m c)∧W.cell? ⟨b,1,X⟩=Y (Z s)∧W.cell? ⟨b,2,X⟩=Y (O a2 m2 c2)∧W.frozen? ⟨b,0,X⟩=false∧W.frozen? ⟨b,1,X⟩=false∧W.frozen? ⟨b,2,X⟩=false∧b<W.heap.size∧IsR W (J #[O a m c,Z s,O a2 m2 c2]) n:=by
 obtain⟨a,m,c,s,a2,m2,c2,d,e⟩:=h;exact⟨a,m,c,s,a2,m2,c2,qcB d (i:=0) rfl,qcB d (i:=1) rfl,qcB d (i:=2) rfl,qfB d 0,qfB d 1,qfB d 2,zaa d,e⟩
theorem RB.put {a d:Option C} {m c f c2:Nat} {s:Bool} (h:RB W b n) (i:IsR W (J #[O a m c,Z s,O d f c2]) n'):RB (((W.setCell ⟨b,0,X⟩ (O a m c)).setCell ⟨b,1,X⟩ (Z s)).setCell ⟨b,2,X⟩ (O d f c2)) b n':=by
 have e:=h.not;obtain⟨j,r,o,u,l,t,p,g,q⟩:=h;exact⟨a,m,c,s,d,f,c2,zfB g _ _ _,i.keep ((((KeepT.refl _ W).setN e _).setN (e.set _ _) _).setN ((e.set _ _).set _ _) _)⟩
theorem RB.other {p:C} (h:RB W b n) (j:p.block≠b) (l:NoT 2 W p.block) (u:N):RB (W.setCell p u) b n:=by
 obtain⟨a,m,c,s,d,o,f,g,i⟩:=h;exact⟨a,m,c,s,d,o,f,(bS _ _ _ _ (fun e=>j e.symm)).trans g,i.keep ((KeepT.refl _ W).setN l _)⟩
theorem RB.new {d:M} {a e:Option C} {m c f c2:Nat} {s:Bool} (h:IsR d (J #[O a m c,Z s,O e f c2]) n) (g:b=d.heap.size):RB (d.alloc (.cells #[O a m c,Z s,O e f c2] 65)) b n:=
 ⟨a,m,c,s,e,f,c2,qhA _ _ _ g,h.ext ((eR _).alloc _)⟩
end
theorem zaM (w:M) (n:Int) (o : -9223372036854775808≤n) (p:n≤9223372036854775807):Calls Tryz.prog 59 #[V I n] w (RetR w (n:Rat)):=by
 go_enter Tryz.func59,Tryz.ntmps59
 go_wp2_with(((go_at_call 22;(with_reducible refine(zfw _ n o p).mono ?_);rintro e x ⟨u,rfl,d,g⟩;obtain⟨i,r,l,t,j,s,m,rfl⟩:=d.form;obtain⟨⟨f,q⟩,h⟩:=cK1 w g)))
 exact bR (v:=J #[O i r l,Z t,O j s m]) (by simp [results,Tryz.results59,go_sem,f]) rfl ⟨_,rfl,d.keep kA,eA⟩
theorem zbF (w:M) (va vb:N) (p q:Rat) (ha:IsR w va p) (hb:IsR w vb q) (d:Rb limR p) (f:Rb limR q) :
  Calls Tryz.prog 111 #[va,vb] w (RetR w (p / q)):=by
 obtain⟨a,m,c,s,a2,m2,c2,rfl⟩:=ha.form;obtain⟨a',m',c',s',x,K,y,rfl⟩:=hb.form;have r:=hd9 d;have t:=hd9 f;clear d f;obtain⟨er,g⟩:∃er:Int,er=if (p.den:Int)*q.num=0 then 9 else 0:=⟨_,rfl⟩
 have u:=hd9 g;clear g;go_enter Tryz.func111,Tryz.ntmps111
 go_wp2_with(((go_at_call 143;(with_reducible refine(zlF _ (J #[O a m c,Z s,O a2 m2 c2]) (J #[O a' m' c',Z s',O x K y]) p q ?_ ?_ r.out t.out).mono ?_);(refine ha.ext ?_;exact eA);(refine hb.ext ?_;exact eA);rw [←u.out];rintro e Q ⟨r1,rfl,h,D⟩;obtain⟨b1,n1,k1,t1,b2,n2,k2,rfl⟩:=h.form;obtain⟨⟨z,ac⟩,aa,ab,i⟩:=cK3 w D;have j:w.heap.size<Q.heap.size+1:=oM;have l:w.heap.size+1<Q.heap.size+1:=oM;have o:w.heap.size+1+1<Q.heap.size+1:=oM)))
 exact bR (v:=J #[O b1 n1 k1,Z t1,O b2 n2 k2]) (by simp [results,Tryz.results111,go_sem,z,i]) rfl ⟨_,rfl,h.keep kA,eA⟩
theorem zbn {k:Nat}:∀{e:List (List N)} {i j:Nat} {c:List N},(∀c∈e,c.length=k)→e[i]?=Y c→j<k→e.flatten[i*k+j]?=c[j]?
 | [],i,j,c,_,h,_=>by simp at h
 | d::e,0,j,c,hk,h,hj=>by
  simp at h;subst h;rw [List.flatten_cons,Nat.zero_mul,Nat.zero_add,List.getElem?_append_left (by rw [hk d sM];exact hj)]
 | d::e,i+1,j,c,hk,h,hj=>by
  have f:=hk d sM;rw [List.flatten_cons,List.getElem?_append_right (by rw [f,Nat.add_mul];omega),f,show (i+1)*k+j-k=i*k+j by rw [Nat.add_mul];omega];exact zbn (fun c g=>hk c (mC _ g)) (by simpa using h) hj
def Sl {α:Type} (T:TypeId) (k:Nat) (P:M→List N→α→Prop) (w:M) (v:N) (xs:List α):Prop:=
 ∃cs:List (List N),cs.length=xs.length∧(∀c∈cs,c.length=k)∧Rd w T k v xs.length cs.flatten∧∀(i:Nat) c x,cs[i]?=Y c→xs[i]?=Y x→P w c x
section
variable {α:Type} {T:TypeId} {k:Nat} {P:M→List N→α→Prop} {w w':M} {v:N} {xs:List α} {a:Option C} {n c:Nat}
theorem Sl.form (h:Sl T k P w v xs):∃a c,v=O a xs.length c:=by
 obtain⟨d,_,_,h,_⟩:=h;exact h.form
theorem Sl.len (h:Sl T k P w (O a n c) xs):n=xs.length:=by
 obtain⟨d,_,_,h,_⟩:=h;exact h.eqn
theorem Sl.le (h:Sl T k P w (O a n c) xs):xs.length≤c∧c≤maxLen:=by
 obtain⟨d,_,_,h,_⟩:=h;exact h.le
theorem Sl.ext (h:Sl T k P w v xs) (l:∀c x,P w c x→P w' c x) (o:Ext w w'):Sl T k P w' v xs:=by
 obtain⟨d,e,f,g,j⟩:=h;exact⟨d,e,f,g.ext o,fun i c x m p=>l _ _ (j i c x m p)⟩
theorem Sl.keep (h:Sl T k P w v xs) (l:∀c x,P w c x→P w' c x) (o:KeepT T w w'):Sl T k P w' v xs:=by
 obtain⟨d,e,f,g,j⟩:=h;exact⟨d,e,f,g.keep o,fun i c x m p=>l _ _ (j i c x m p)⟩
theorem Sl.at (h:Sl T k P w (O a n c) xs) {i:Nat} {x:α} (q:xs[i]?=Y x) :
  ∃b o d,a=Y ⟨b,o,X⟩∧b<w.heap.size∧d.length=k∧P w d x∧∀(j:Nat) u,d[j]?=Y u→w.cell? ⟨b,o+i*k+j,X⟩=Y u:=by
 obtain⟨l,r,m,s,t⟩:=h;have D:=(lS.1 q).1;obtain⟨d,f⟩:∃d,l[i]?=Y d:=⟨l[i]' oM,by simp [r,D]⟩;obtain⟨b,o,rfl,y,_,z⟩:=s.open oM;have e:=m d (lM f);refine⟨b,o,d,rfl,y,e,t i d x f q,fun j u p=>?_⟩;have g:j<k:=by rw [←e];exact(lS.1 p).1
 have:=z (i*k+j) u (by rw [zbn m f g];exact p)
 rwa [←Nat.add_assoc]at this
end
def PR (w:M) (c:List N) (q:Rat):Prop:=IsR w (J c.toArray) q
abbrev IsRs (w:M) (v:N) (qs:List Rat):Prop:=Sl 65 3 PR w v qs
theorem IsRs.ext' {w w':M} {v:N} {d:List Rat} (h:IsRs w v d) (k:Ext w w'):IsRs w' v d:=Sl.ext h (fun _ _ h=>IsR.ext h k) k
theorem IsRs.at' {w:M} {a:Option C} {n c:Nat} {j:List Rat} (h:IsRs w (O a n c) j) {i:Nat} {q:Rat} (r:j[i]?=Y q) :
  ∃b o a1 m1 c1 s1 a2 m2 c2,a=Y ⟨b,o,X⟩∧b<w.heap.size∧IsR w (J #[O a1 m1 c1,Z s1,O a2 m2 c2]) q ∧
   w.cell? ⟨b,o+i*3,X⟩=Y (O a1 m1 c1)∧w.cell? ⟨b,o+i*3+1,X⟩=Y (Z s1)∧w.cell? ⟨b,o+i*3+2,X⟩=Y (O a2 m2 c2):=by
 obtain⟨b,o,d,rfl,p,s,m,g⟩:=Sl.at h r;have f:IsR w (J d.toArray) q:=m;obtain⟨a1,m1,c1,s1,a2,m2,c2,e⟩:=f.form
 have l:d=[O a1 m1 c1,Z s1,O a2 m2 c2]:=by
  have:d.toArray=#[O a1 m1 c1,Z s1,O a2 m2 c2]:=by cases e;rfl
  simpa using congrArg Array.toList this
 subst l;exact⟨b,o,a1,m1,c1,s1,a2,m2,c2,rfl,p,f,g 0 _ rfl,g 1 _ rfl,g 2 _ rfl⟩
end
section
open Go.RowKit Go.Shelf
def Bd (k n:Int):Prop:=-k≤n∧n≤k
theorem Bd.mono {j k n:Int} (h:Bd j n) (d:j≤k):Bd k n:=by unfold Bd at *;omega
theorem Bd.mul {j k x y:Int} (h:Bd j x) (f:Bd k y):Bd (j*k) (x*y):=by
 unfold Bd at *;have d:(x.natAbs:Int)≤j:=oM
 have e:(y.natAbs:Int)≤k:=oM
 have:((x*y).natAbs:Int)≤j*k:=by
  rw [Int.natAbs_mul,Int.natCast_mul];exact Int.mul_le_mul d e oM oM
 omega
theorem Bd.sub {j k x y:Int} (h:Bd j x) (d:Bd k y):Bd (j+k) (x-y):=by unfold Bd at *;omega
theorem zfu (w:M) (d f g h:Int) (i:Bd 1000000000 d) (m:Bd 1000000000 f) (q:Bd 1000000000 g) (h4:Bd 1000000000 h) :
  Calls Tryz.prog 198 #[J #[V I d,V I f],J #[V I g,V I h]] w fun e w'=>e = .returned (J #[V I (d-g),V I (f-h)])∧Ext w w':=by
 obtain⟨j,l⟩:=i;obtain⟨o,p⟩:=m;obtain⟨r,s⟩:=q;obtain⟨t,u⟩:=h4;go_enter Tryz.func198,Tryz.ntmps198;go_wp2;exact bR (v:=J #[V I (d-g),V I (f-h)]) (by simp [results,Tryz.results198,go_sem]) rfl ⟨rfl,eA⟩
theorem zio (w:M) (d f g h:Int) (i:Bd 1000000000 d) (j:Bd 1000000000 f) (l:Bd 1000000000 g) (h4:Bd 1000000000 h) :
  Calls Tryz.prog 131 #[J #[V I d,V I f],J #[V I g,V I h]] w fun e w'=>e = .returned (V I (d*h-f*g))∧Ext w w':=by
 obtain⟨m,o⟩:=i.mul h4;obtain⟨p,q⟩:=j.mul l;have r:IntKind.i64.wrap (d*h)=d*h:=iW _ ⟨by omega,by omega⟩;have s:IntKind.i64.wrap (f*g)=f*g:=iW _ ⟨by omega,by omega⟩;have t:IntKind.i64.wrap (d*h-f*g)=d*h-f*g:=iW _ ⟨by omega,by omega⟩;clear m o p q i j l h4;go_enter Tryz.func131,Tryz.ntmps131;go_wp2;go_ret;exact⟨by first|rfl|simp [*],eA⟩
def trn (p q r:Int×Int):Int:=(q.1-p.1)*(r.2-q.2)-(q.2-p.2)*(r.1-q.1)
theorem zlP (w:M) (g h d f i j:Int) (u:Bd 100000000 g) (x:Bd 100000000 h) (y:Bd 100000000 d) (h4:Bd 100000000 f) (z:Bd 100000000 i) (h6:Bd 100000000 j) :
  Calls Tryz.prog 212 #[J #[V I g,V I h],J #[V I d,V I f],J #[V I i,V I j]] w fun e w'=>e = .returned (V I (trn (g,h) (d,f) (i,j)))∧Ext w w':=by
 have q:=hd9 u;have r:=hd9 x;have l:=hd9 y;have m:=hd9 h4;have s:=hd9 z;have t:=hd9 h6;clear u x y h4 z h6;go_enter Tryz.func212,Tryz.ntmps212;go_wp2
 go_region_held3 (fun W=>W.cell? ⟨w.heap.size,0,X⟩=Y (V I g)∧W.cell? ⟨w.heap.size,1,X⟩=Y (V I h)∧W.cell? ⟨w.heap.size+1,0,X⟩=Y (V I d)∧W.cell? ⟨w.heap.size+1,1,X⟩=Y (V I f)∧W.cell? ⟨w.heap.size+1+1,0,X⟩=Y (V I i)∧W.cell? ⟨w.heap.size+1+1,1,X⟩=Y (V I j)) ((repeat' (with_reducible refine And.intro ?_ ?_))<;>(first|(go_simp;done)|(refine hx1.cellS ?_;go_simp;done))) (first|((go_at_call 198;(with_reducible refine(zfu _ d f g h (l.out.mono dM) (m.out.mono dM) (q.out.mono dM) (r.out.mono dM)).mono ?_);rintro e w1 ⟨rfl,hx1⟩;obtain⟨⟨ag,aj⟩,D,K,Q⟩:=cK3 w hx1))|((go_at_call 198;(with_reducible refine(zfu _ i j d f (s.out.mono dM) (t.out.mono dM) (l.out.mono dM) (m.out.mono dM)).mono ?_);rintro e w2 ⟨rfl,o⟩;obtain⟨⟨ah,ak⟩,aa,ab,ac⟩:=cK3 w o))|((go_at_call 131;(with_reducible refine(zio _ (d-g) (f-h) (i-d) (j-f) ((l.out.sub q.out).mono dM) ((m.out.sub r.out).mono dM) ((s.out.sub l.out).mono dM) ((t.out.sub m.out).mono dM)).mono ?_);rintro e w3 ⟨rfl,p⟩;obtain⟨⟨ai,al⟩,ad,ae,af⟩:=cK3 w p)))
 all_goals go_wp2
 go_ret;exact⟨rfl,eA⟩
def wthn (n a b:Int):Bool:=decide (a≤n)&&decide (n≤b)
theorem zak (w:M) (n a b:Int) :
  Calls Tryz.prog 134 #[V I n,V I a,V I b] w fun e w'=>e = .returned (Z (wthn n a b))∧Ext w w':=by
 unfold wthn
 by_cases h:a≤n
 ·have d:decide (a≤n)=true:=by simpa using h
  go_enter Tryz.func134,Tryz.ntmps134;go_wp2;go_ret;exact⟨by simp [d],eA⟩
 ·have d:decide (a≤n)=false:=by simpa using h
  go_enter Tryz.func134,Tryz.ntmps134;go_wp2;go_ret;exact⟨by simp [d],eA⟩
theorem zdY (w:M) (n:Int):Calls Tryz.prog 222 #[V I n] w fun e w'=>e = .returned (Z false)∧Ext w w':=by
 go_enter Tryz.func222,Tryz.ntmps222;go_wp2;go_ret;exact⟨rfl,eA⟩
theorem zdM (w:M) (a b:Int):Calls Tryz.prog 214 #[V I a,V I b] w fun e w'=>e = .returned (V I (cmp3 a b))∧Ext w w':=by
 have f:a<b→Calls Tryz.prog 214 #[V I a,V I b] w fun e w'=>e = .returned (V I (cmp3 a b))∧Ext w w':=by
  intro h;have e:cmp3 a b = -1:=by unfold cmp3;(repeat' split)<;>omega
  rw [e];clear e
  first|subst h|skip
  go_enter Tryz.func214,Tryz.ntmps214
  go_wp2_with(((go_at_call 222;(with_reducible refine(zdY _ _).mono ?_);rintro e j ⟨rfl,d⟩)))
  go_ret;exact⟨rfl,eA⟩
 have g:a=b→Calls Tryz.prog 214 #[V I a,V I b] w fun e w'=>e = .returned (V I (cmp3 a b))∧Ext w w':=by
  intro h;have e:cmp3 a b=0:=by unfold cmp3;(repeat' split)<;>omega
  rw [e];clear e
  first|subst h|skip
  go_enter Tryz.func214,Tryz.ntmps214
  go_wp2_with(((go_at_call 222;(with_reducible refine(zdY _ _).mono ?_);rintro e j ⟨rfl,d⟩)))
  go_ret;exact⟨rfl,eA⟩
 have i:b<a→Calls Tryz.prog 214 #[V I a,V I b] w fun e w'=>e = .returned (V I (cmp3 a b))∧Ext w w':=by
  intro h;have e:cmp3 a b=1:=by unfold cmp3;(repeat' split)<;>omega
  rw [e];clear e
  first|subst h|skip
  go_enter Tryz.func214,Tryz.ntmps214
  go_wp2_with(((go_at_call 222;(with_reducible refine(zdY _ _).mono ?_);rintro e j ⟨rfl,d⟩)))
  go_ret;exact⟨rfl,eA⟩
 rcases Int.lt_trichotomy a b with h|h|h
 ·exact f h
 ·exact g h
 ·exact i h
def PP (_:M) (c:List N) (p:Int×Int):Prop:=c=[V I p.1,V I p.2]
abbrev IsPts (w:M) (v:N) (ps:List (Int×Int)):Prop:=Sl 33 2 PP w v ps
theorem IsPts.ext' {w w':M} {v:N} {ps:List (Int×Int)} (h:IsPts w v ps) (k:Ext w w'):IsPts w' v ps:=Sl.ext h (fun _ _ h=>h) k
theorem IsPts.keep' {w w':M} {v:N} {ps:List (Int×Int)} (h:IsPts w v ps) (k:KeepT 33 w w'):IsPts w' v ps:=Sl.keep h (fun _ _ h=>h) k
theorem IsPts.at' {w:M} {a:Option C} {n c:Nat} {ps:List (Int×Int)} (h:IsPts w (O a n c) ps) {i:Nat} {p:Int×Int} (l:ps[i]?=Y p) :
  ∃b o,a=Y ⟨b,o,X⟩∧b<w.heap.size∧w.cell? ⟨b,o+i*2,X⟩=Y (V I p.1)∧w.cell? ⟨b,o+i*2+1,X⟩=Y (V I p.2):=by
 obtain⟨b,o,d,rfl,j,m,g,f⟩:=Sl.at h l;have e:d=[V I p.1,V I p.2]:=g;subst e;exact⟨b,o,rfl,j,f 0 _ rfl,f 1 _ rfl⟩
def atc (ps:List (Int×Int)) (i:Int):Int×Int:=ps.getD ((i+ps.length) % ps.length).toNat (0,0)
theorem zgs {ps:List (Int×Int)} {i:Int} (h:0<ps.length):∃k:Nat,k<ps.length∧(i+(ps.length:Int)) % (ps.length:Int)=(k:Int)∧ps[k]?=Y (atc ps i):=by
 have d:=Int.emod_nonneg (i+ps.length) (show (ps.length:Int)≠0 by omega);have e:=Int.emod_lt_of_pos (i+ps.length) (show 0<(ps.length:Int) by omega);refine⟨((i+ps.length) % ps.length).toNat,by omega,by omega,?_⟩;unfold atc;rw [gD];have:((i+(ps.length:Int)) % (ps.length:Int)).toNat<ps.length:=oM
 simp only [gE this,Option.getD_some]
theorem znE (w:M) (v:N) (ps:List (Int×Int)) (i:Int) (h:IsPts w v ps) (m:0<ps.length) (u:ps.length≤1000000) (hi : -(ps.length:Int)≤i) (q:i≤1000000) :
  Calls Tryz.prog 161 #[v,V I i] w fun e w'=>e = .returned (J #[V I (atc ps i).1,V I (atc ps i).2])∧Ext w w':=by
 obtain⟨a,c,rfl⟩:=h.form;obtain⟨k,s,t,d⟩:=zgs (i:=i) m;obtain⟨b,o,rfl,r,j,l⟩:=h.at' d;obtain⟨x,f⟩:=gX ((atc ps i).1);obtain⟨z,g⟩:=gX ((atc ps i).2);rw [f]at j ⊢;rw [g]at l ⊢;clear f g d h
 generalize ps.length=n at *
 have y:(0:Int)≤i+(n:Int):=oM
 have D:(0:Int)<(n:Int):=oM
 have K:(k:Int)<(n:Int):=oM
 have p:b<w.heap.size+1:=oM
 go_enter Tryz.func161,Tryz.ntmps161;go_wp2;exact bR (v:=J #[V I x,V I z]) (by simp [results,Tryz.results161,go_sem]) rfl ⟨rfl,eA⟩
def leastP:List (Int×Int)→Int×Int
 | []=>(0,0)
 | p::ps=>ps.foldl (fun o q=>(min o.1 q.1,min o.2 q.2)) p
theorem zgH (ps:List (Int×Int)) (q:Int×Int) (h:ps≠[]):leastP (ps++[q])=(min (leastP ps).1 q.1,min (leastP ps).2 q.2):=by
 cases ps with
 | nil=>exact absurd rfl h
 | cons p ps=>simp [leastP]
def LeS (w:M) (ps:List (Int×Int)) (g:Nat) (d:N) (W:M):Prop:=
 ∃i:Nat,i≤ps.length∧d=V I i∧g=ps.length-i∧Ext w W∧W.heap[w.heap.size]?=Y (.cells #[V I 0,V I 0] 33 (0,0)) ∧
  ∃x z,(if i=0 then ps[0]?=Y (x,z)else leastP (ps.take i)=(x,z))∧W.heap[w.heap.size+1]?=Y (.cells #[V I x,V I z] 33 (0,0))
theorem zgI {ps:List (Int×Int)} {i:Nat} {x z:Int} {q:Int×Int} (h:if i=0 then ps[0]?=Y (x,z)else leastP (ps.take i)=(x,z)) (d:ps[i]?=Y q) :
  leastP (ps.take (i+1))=(min x q.1,min z q.2):=by
 rw [zab _ _ _ d]
 by_cases f:i=0
 ·subst f
  rw [if_pos rfl]at h;rw [h]at d
  cases d
  simp [leastP]
 ·rw [if_neg f]at h
  rw [zgH _ _ (by
   intro e;have:=(lS.1 d).1;have g:(ps.take i).length=0:=by rw [e];rfl
   rw [List.length_take]at g;omega),h]
theorem LeS.step {w wr:M} {ps:List (Int×Int)} {i n:Nat} {x z d e a b:Int} (m:ps.length=n) (l:i<n) (p:Ext w wr) (g:wr.heap[w.heap.size]?=Y (.cells #[V I 0,V I 0] 33 (0,0)))
  (f:wr.heap[w.heap.size+1]?=Y (.cells #[V I x,V I z] 33 (0,0))) (hv:if i=0 then ps[0]?=Y (x,z)else leastP (ps.take i)=(x,z)) (o:ps[i]?=Y (d,e)) (h:a=min x d) (j:b=min z e) :
  LeS w ps (n-(i+1)) (V I ((i:Int)+1)) (((wr.setCell ⟨w.heap.size+1,0,X⟩ (V I a)).setCell ⟨w.heap.size+1,1,X⟩ (V I b)).alloc (.cells #[V I d,V I e] 33)):=by
 have q:=zaa f;refine⟨i+1,by omega,by go_num,by rw [m],eA,?_,a,b,?_,?_⟩
 ·rw [zai,if_neg (by simp only [qcZ];omega),bS _ _ _ _ dO,bS _ _ _ _ dO]
  exact g
 ·rw [if_neg oM,zgI hv o,h,j]
 ·rw [zai,if_neg (by simp only [qcZ];omega)]
  exact zaS f _ _
theorem zf0 (w:M) (v:N) (ps:List (Int×Int)) (h:IsPts w v ps) (h0:0<ps.length) :
  Calls Tryz.prog 169 #[v] w fun e w'=>e = .returned (J #[V I (leastP ps).1,V I (leastP ps).2])∧Ext w w':=by
 obtain⟨a,c,rfl⟩:=h.form;obtain⟨n,s⟩:=gX ps.length;rw [s]at h ⊢;have l:=h.le;unfold maxLen at l;have ac:0<n:=oM
 have ad:n≤9223372036854775807:=oM
 obtain⟨p,t⟩:∃p,ps[0]?=Y p:=⟨ps[0],by simp⟩;obtain⟨x0,z0⟩:=p;obtain⟨b,o,rfl,hb,D,K⟩:=h.at' t;simp only [Nat.zero_mul,Nat.add_zero]at D K;have ab:b<w.heap.size+1:=oM
 have d:=hd9 s;have Hp:=hd9 t;clear s l t h0;go_enter Tryz.func169,Tryz.ntmps169;go_wp2
 go_loopg [11] n (LeS w ps)
 case atStart =>
  refine⟨0,by omega,rfl,by rw [d.out];rfl,eA,by rw [zai,if_neg sM];exact qhA _ _ _ rfl,x0,z0,by simpa using Hp.out,qhA _ _ _ sM⟩
 case round =>
  obtain⟨i,hi,rfl,rfl,Q,g,x,z,hv,f⟩:=hrel;rw [d.out]at hi;have r0:=qcB g (i:=0) (u:=V I 0) rfl;have r1:=qcB g (i:=1) (u:=V I 0) rfl;have ag:=qfB g 0;have ah:=qfB g 1;have o0:=qcB f (i:=0) (u:=V I x) rfl;have o1:=qcB f (i:=1) (u:=V I z) rfl;have ae:=qfB f 0;have af:=qfB f 1;have zr:=zaa g;have zo:=zaa f;have HR:=hd9 g;have HO:=hd9 f;have HV:=hd9 hv;clear g f hv D K
  by_cases m:i<n
  ·obtain⟨q,y⟩:∃q,ps[i]?=Y q:=⟨ps[i]'(by rw [d.out];omega),by simp [d.out,m]⟩
   obtain⟨b',o',e',aa,d0,d1⟩:=(h.ext' Q).at' y
   cases e'
   obtain⟨qx,qz⟩:=q;have Hq:=hd9 y;clear y;go_wp2
   all_goals
    go_roundg (n-(i+1))
    case measure=>have:=d.out;omega
    case rel =>
     exact LeS.step d.out m Q HR.out HO.out HV.out Hq.out oM oM
  ·obtain rfl:i=n:=oM
   have j:=HV.out;rw [if_neg oM,lT (by rw [d.out];omega)]at j;have r:=hd9 j;clear j;go_wp2;refine bR (v:=J #[V I x,V I z]) (by simp [results,Tryz.results169,go_sem,r0,r1]) rfl ⟨?_,eA⟩;rw [r.out]
theorem zbW (w:M) (v:N) (ps:List (Int×Int)) (i x z:Int) (h:IsPts w v ps) (f:0<ps.length) (g:ps.length≤1000000) (hi : -(ps.length:Int)≤i) (d:i≤1000000) (j:atc ps i=(x,z)) :
  Calls Tryz.prog 161 #[v,V I i] w fun e w'=>e = .returned (J #[V I x,V I z])∧Ext w w':=by
 have:=znE w v ps i h f g hi d
 rwa [j]at this
theorem zcW (w:M) (d f g h i j T:Int) (l:Bd 100000000 d) (m:Bd 100000000 f) (o:Bd 100000000 g) (h4:Bd 100000000 h) (p:Bd 100000000 i) (h6:Bd 100000000 j) (q:trn (d,f) (g,h) (i,j)=T) :
  Calls Tryz.prog 212 #[J #[V I d,V I f],J #[V I g,V I h],J #[V I i,V I j]] w fun e w'=>e = .returned (V I T)∧Ext w w':=by
 have:=zlP w d f g h i j l m o h4 p h6
 rwa [q]at this
def PBd (k:Int) (ps:List (Int×Int)):Prop:=∀p∈ps,Bd k p.1∧Bd k p.2
theorem PBd.at {k:Int} {ps:List (Int×Int)} (h:PBd k ps) (e:0<ps.length) {i:Int} {x z:Int} (f:atc ps i=(x,z)):Bd k x∧Bd k z:=by
 obtain⟨j,_,_,d⟩:=zgs (i:=i) e;rw [f]at d;exact h _ (lM d)
theorem zdF {ps:List (Int×Int)} {i:Nat} (h:i<ps.length):ps[i]?=Y (atc ps i):=by
 unfold atc
 have e:(((i:Int)+ps.length) % ps.length).toNat=i:=by
  rw [Int.add_emod_right,Int.emod_eq_of_lt oM oM];omega
 rw [e,gD,gE h];rfl
def cvx1 (ps:List (Int×Int)) (i:Nat):Bool:=decide (0<trn (atc ps ((i:Int)-1)) (atc ps i) (atc ps ((i:Int)+1)))
def cvx2 (ps:List (Int×Int)) (i k:Nat):Bool:=decide (0<trn (atc ps i) (atc ps ((i:Int)+1)) (atc ps ((i:Int)+k)))
def cvxR (ps:List (Int×Int)) (i:Nat):Bool:=cvx1 ps i&&(List.range (ps.length-1)).all fun k=>decide (k<2) || cvx2 ps i k
def convexB (ps:List (Int×Int)):Bool:=wthn ps.length 3 12&&(List.range ps.length).all (cvxR ps)
theorem zeO {ps:List (Int×Int)} {i:Nat} (h:i<ps.length) (d:cvxR ps i=false):convexB ps=false:=by
 unfold convexB;rw [Bool.and_eq_false_iff]
 right
 rw [List.all_eq_false];exact⟨i,List.mem_range.2 h,by simp [d]⟩
theorem zgy {ps:List (Int×Int)} (d:wthn ps.length 3 12=true) (h:∀i,i<ps.length→cvxR ps i=true):convexB ps=true:=by
 unfold convexB;rw [d,Bool.true_and,List.all_eq_true];exact fun i e=>h i (List.mem_range.1 e)
theorem zk9 {ps:List (Int×Int)} {i:Nat} (h:cvx1 ps i=false):cvxR ps i=false:=by unfold cvxR;rw [h];rfl
theorem zlb {ps:List (Int×Int)} {i k:Nat} (d:k<ps.length-1) (e:2≤k) (h:cvx2 ps i k=false):cvxR ps i=false:=by
 unfold cvxR;rw [Bool.and_eq_false_iff]
 right
 rw [List.all_eq_false];exact⟨k,List.mem_range.2 d,by simp [h];omega⟩
theorem zlc {ps:List (Int×Int)} {i:Nat} (h:cvx1 ps i=true) (e:∀k,2≤k→k<ps.length-1→cvx2 ps i k=true):cvxR ps i=true:=by
 unfold cvxR;rw [h,Bool.true_and,List.all_eq_true];intro k d;rw [List.mem_range]at d
 by_cases f:k<2
 ·simp [f]
 ·simp [e k oM d]
def CvS (w:M) (ps:List (Int×Int)) (g:Nat) (d:N) (W:M):Prop:=
 ∃i:Nat,i≤ps.length∧d=V I i∧g=ps.length-i∧Ext w W∧∀j,j<i→cvxR ps j=true
def CvK (w:M) (ps:List (Int×Int)) (i:Nat) (g:Nat) (t4:N) (W:M):Prop:=
 ∃k:Nat,2≤k∧k≤ps.length-1∧t4=V I k∧g=ps.length-k∧Ext w W∧∀j,2≤j→j<k→cvx2 ps i j=true
theorem zh5 (w:M) (v:N) (ps:List (Int×Int)) (h:IsPts w v ps) (hb:PBd 100000000 ps) :
  Calls Tryz.prog 168 #[v] w fun e w'=>e = .returned (Z (convexB ps))∧Ext w w':=by
 obtain⟨a,c,rfl⟩:=h.form;obtain⟨n,hn⟩:=gX ps.length;have ap:=hn;rw [hn]at h ⊢;have l:=hd9 hn;have Hb:=hd9 hb;clear hb
 by_cases hw:wthn n 3 12=true
 ·have aq:3≤n∧n≤12:=by simp [wthn]at hw;omega
  obtain⟨aq,aH⟩:=aq;have HW:=hd9 hw;clear hn ap;have h0:0<ps.length:=by rw [l.out];omega
  have ao:ps.length≤1000000:=by rw [l.out];omega
  have K:=hd9 h0;have H6:=hd9 ao;obtain⟨b,o,rfl,aJ,_,_⟩:=h.at' (zdF h0);clear h0 ao;go_enter Tryz.func168,Tryz.ntmps168
  go_wp2_with(((go_at_call 134;(with_reducible refine(zak _ n 3 12).mono ?_);rintro e w1 ⟨rfl,d⟩)))
  go_loopg [11] n (CvS w ps)
  case atStart=>exact⟨0,by omega,rfl,by rw [l.out];rfl,eA,fun j hj=>by omega⟩
  case round =>
   obtain⟨i,hi,rfl,rfl,hx,ag⟩:=hrel;rw [l.out]at hi;have af:=hd9 ag;clear ag d
   by_cases ad:i<n
   ·obtain⟨⟨ax,az⟩,hA⟩:∃p,atc ps ((i:Int)-1)=p:=⟨_,rfl⟩
    obtain⟨⟨qx,qz⟩,hQ⟩:∃p,atc ps (i:Int)=p:=⟨_,rfl⟩;obtain⟨⟨bx,bz⟩,hB⟩:∃p,atc ps ((i:Int)+1)=p:=⟨_,rfl⟩;obtain⟨T,hT⟩:=gX (trn (ax,az) (qx,qz) (bx,bz));have hP:=(h.ext' hx).at' (zdF (ps:=ps) (i:=i) (by rw [l.out];exact ad));rw [hQ]at hP;obtain⟨b',o',e',f,d0,d1⟩:=hP
    cases e'
    have HA:=hd9 hA;have HQ:=hd9 hQ;have HB:=hd9 hB;have HT:=hd9 hT;have ab:=hd9 (Hb.out.at K.out hA);have r:=hd9 (Hb.out.at K.out hQ);have q:=hd9 (Hb.out.at K.out hB);have g1 : -(ps.length:Int)≤(i:Int)-1:=by rw [l.out];omega
    have g2 : -(ps.length:Int)≤(i:Int)+1:=by rw [l.out];omega
    have ar:cvx1 ps i=decide (0<T):=by unfold cvx1;rw [hA,hQ,hB,hT]
    have aj:=hd9 ar;have hs:=h.ext' hx;clear hA hQ hB hT ar;have aL:IntKind.i64.wrap ((i:Int)-1)=(i:Int)-1:=iW _ oM;have aM:IntKind.i64.wrap ((i:Int)+1)=(i:Int)+1:=iW _ oM;have p1:(0:Int)≤(i:Int):=oM
    have p2:(i:Int)<(n:Int):=oM
    by_cases al:0<T
    ·have ay:decide (T≤0)=false:=by simp;omega
     go_wp2
     go_region_held3 (fun W=>W.cell? ⟨b,o+i*2,X⟩=Y (V I qx)∧W.cell? ⟨b,o+i*2+1,X⟩=Y (V I qz)) ((repeat' (with_reducible refine And.intro ?_ ?_))<;>(first|(go_simp;done)|(refine d.cellS ?_;go_simp;done))) (first|((go_at_call 161;(with_reducible refine(zbW _ (O (Y ⟨b,o,X⟩) n c) ps ((i:Int)-1) ax az ?_ K.out H6.out g1 oM HA.out).mono ?_);(refine hs.ext' ?_;exact eA);rintro e w1 ⟨rfl,d⟩;obtain⟨s,x⟩:=d.cells;(try simp only [qcD,qfD,qdZ]at s x);(have g:=d.lt (n:=b) (by first|exact f | (simp only [qdZ];exact f)|(have:=g;omega)))))|((go_at_call 161;(with_reducible refine(zbW _ (O (Y ⟨b,o,X⟩) n c) ps ((i:Int)+1) bx bz ?_ K.out H6.out g2 oM HB.out).mono ?_);(refine hs.ext' ?_;exact eA);rintro e w2 ⟨rfl,m⟩;obtain⟨t,y⟩:=m.cells;(try simp only [qcD,qfD,qdZ]at t y);(have ae:=m.lt (n:=b) (by first|exact f | (simp only [qdZ];exact f)|(have:=g;omega)))))|((go_at_call 212;(with_reducible refine(zcW _ _ _ _ _ _ _ T ab.out.1 ab.out.2 r.out.1 r.out.2 q.out.1 q.out.2 HT.out).mono ?_);rintro e w3 ⟨rfl,D⟩;obtain⟨u,z⟩:=D.cells;(try simp only [qcD,qfD,qdZ]at u z))))
     all_goals go_wp2
     go_loopg [4] (n-2) (CvK w ps i)
     case atStart=>exact⟨2,nE _,by rw [l.out];omega,rfl,by rw [l.out],eA,fun j h2 hj=>by omega⟩
     case round =>
      rename_i wr0 _
      clear hs d0 d1 s x g t y ae u z;obtain⟨k,aD,aE,rfl,rfl,av,aa⟩:=hrel;rw [l.out]at aE;have Q:=hd9 aa;clear aa
      by_cases aF:k<n-1
      ·obtain⟨⟨cx,cz⟩,hC⟩:∃p,atc ps ((i:Int)+(k:Int))=p:=⟨_,rfl⟩
       obtain⟨U,hU⟩:=gX (trn (qx,qz) (bx,bz) (cx,cz));have hP:=(h.ext' av).at' (zdF (ps:=ps) (i:=i) (by rw [l.out];exact ad));rw [HQ.out]at hP;obtain⟨aI,aK,aw,an,d0,d1⟩:=hP
       cases aw
       have HC:=hd9 hC;have HU:=hd9 hU;have ac:=hd9 (Hb.out.at K.out hC);have au:cvx2 ps i k=decide (0<U):=by unfold cvx2;rw [HQ.out,HB.out,hC,hU]
       have ak:=hd9 au;have g3 : -(ps.length:Int)≤(i:Int)+(k:Int):=by rw [l.out];omega
       have hs:=h.ext' av;clear hC hU au;have aO:IntKind.i64.wrap ((i:Int)+(k:Int))=(i:Int)+(k:Int):=iW _ oM;have p3:(k:Int)<(n:Int)-1:=oM
       have f:=an
       by_cases am:0<U
       ·have aA:decide (U≤0)=false:=by simp;omega
        go_wp2
        go_region_held3 (fun W=>W.cell? ⟨b,o+i*2,X⟩=Y (V I qx)∧W.cell? ⟨b,o+i*2+1,X⟩=Y (V I qz)) ((repeat' (with_reducible refine And.intro ?_ ?_))<;>(first|(go_simp;done)|(refine d.cellS ?_;go_simp;done))) (first|((go_at_call 161;(with_reducible refine(zbW _ (O (Y ⟨b,o,X⟩) n c) ps ((i:Int)+1) bx bz ?_ K.out H6.out g2 oM HB.out).mono ?_);(refine hs.ext' ?_;exact eA);rintro e w1 ⟨rfl,d⟩;obtain⟨s,x⟩:=d.cells;(try simp only [qcD,qfD,qdZ]at s x);(have g:=d.lt (n:=b) (by first|exact f | (simp only [qdZ];exact f)|(have:=g;omega)))))|((go_at_call 161;(with_reducible refine(zbW _ (O (Y ⟨b,o,X⟩) n c) ps ((i:Int)+(k:Int)) cx cz ?_ K.out H6.out g3 oM HC.out).mono ?_);(refine hs.ext' ?_;exact eA);rintro e w2 ⟨rfl,m⟩;obtain⟨t,y⟩:=m.cells;(try simp only [qcD,qfD,qdZ]at t y);(have ae:=m.lt (n:=b) (by first|exact f | (simp only [qdZ];exact f)|(have:=g;omega)))))|((go_at_call 212;(with_reducible refine(zcW _ _ _ _ _ _ _ U r.out.1 r.out.2 q.out.1 q.out.2 ac.out.1 ac.out.2 HU.out).mono ?_);rintro e w3 ⟨rfl,D⟩;obtain⟨u,z⟩:=D.cells;(try simp only [qcD,qfD,qdZ]at u z))))
        all_goals go_wp2
        go_roundg (n-(k+1))
        case measure=>have:=l.out;omega
        case rel =>
         refine⟨k+1,by omega,by rw [l.out];omega,by go_num,by rw [l.out],eA,fun j h2 hj=>?_⟩
         by_cases aC:j=k
         ·rw [aC,ak.out];simpa using am
         ·exact Q.out j h2 oM
       ·have aA:decide (U≤0)=true:=by simp;omega
        have e:convexB ps=false:=zeO (by rw [l.out];exact ad) (zlb (k:=k) (by rw [l.out];exact aF) aD (by rw [ak.out];simpa using am));have E:=hd9 e;clear e;go_wp2
        go_region_held3 (fun W=>W.cell? ⟨b,o+i*2,X⟩=Y (V I qx)∧W.cell? ⟨b,o+i*2+1,X⟩=Y (V I qz)) ((repeat' (with_reducible refine And.intro ?_ ?_))<;>(first|(go_simp;done)|(refine d.cellS ?_;go_simp;done))) (first|((go_at_call 161;(with_reducible refine(zbW _ (O (Y ⟨b,o,X⟩) n c) ps ((i:Int)+1) bx bz ?_ K.out H6.out g2 oM HB.out).mono ?_);(refine hs.ext' ?_;exact eA);rintro e w1 ⟨rfl,d⟩;obtain⟨s,x⟩:=d.cells;(try simp only [qcD,qfD,qdZ]at s x);(have g:=d.lt (n:=b) (by first|exact f | (simp only [qdZ];exact f)|(have:=g;omega)))))|((go_at_call 161;(with_reducible refine(zbW _ (O (Y ⟨b,o,X⟩) n c) ps ((i:Int)+(k:Int)) cx cz ?_ K.out H6.out g3 oM HC.out).mono ?_);(refine hs.ext' ?_;exact eA);rintro e w2 ⟨rfl,m⟩;obtain⟨t,y⟩:=m.cells;(try simp only [qcD,qfD,qdZ]at t y);(have ae:=m.lt (n:=b) (by first|exact f | (simp only [qdZ];exact f)|(have:=g;omega)))))|((go_at_call 212;(with_reducible refine(zcW _ _ _ _ _ _ _ U r.out.1 r.out.2 q.out.1 q.out.2 ac.out.1 ac.out.2 HU.out).mono ?_);rintro e w3 ⟨rfl,D⟩;obtain⟨u,z⟩:=D.cells;(try simp only [qcD,qfD,qdZ]at u z))))
        all_goals go_wp2
        all_goals go_ret
        exact⟨by rw [E.out];rfl,eA⟩
      ·obtain rfl:k=n-1:=oM
       have ah:cvxR ps i=true:=zlc (by rw [aj.out];simpa using al) (fun j h2 hj=>Q.out j h2 (by rw [l.out]at hj;exact hj));have ai:=hd9 ah;clear ah;have p4:¬(((n-1:Nat):Int)<(n:Int)-1):=oM
       go_wp2
       go_roundg (n-(i+1))
       case measure=>have:=l.out;omega
       case rel =>
        refine⟨i+1,by rw [l.out];omega,by go_num,by rw [l.out],eA,fun j hj=>?_⟩
        by_cases aB:j=i
        ·rw [aB];exact ai.out
        ·exact af.out j oM
    ·have ay:decide (T≤0)=true:=by simp;omega
     have e:convexB ps=false:=zeO (by rw [l.out];exact ad) (zk9 (by rw [aj.out];simpa using al));have E:=hd9 e;clear e;go_wp2
     go_region_held3 (fun W=>W.cell? ⟨b,o+i*2,X⟩=Y (V I qx)∧W.cell? ⟨b,o+i*2+1,X⟩=Y (V I qz)) ((repeat' (with_reducible refine And.intro ?_ ?_))<;>(first|(go_simp;done)|(refine d.cellS ?_;go_simp;done))) (first|((go_at_call 161;(with_reducible refine(zbW _ (O (Y ⟨b,o,X⟩) n c) ps ((i:Int)-1) ax az ?_ K.out H6.out g1 oM HA.out).mono ?_);(refine hs.ext' ?_;exact eA);rintro e w1 ⟨rfl,d⟩;obtain⟨s,x⟩:=d.cells;(try simp only [qcD,qfD,qdZ]at s x);(have g:=d.lt (n:=b) (by first|exact f | (simp only [qdZ];exact f)|(have:=g;omega)))))|((go_at_call 161;(with_reducible refine(zbW _ (O (Y ⟨b,o,X⟩) n c) ps ((i:Int)+1) bx bz ?_ K.out H6.out g2 oM HB.out).mono ?_);(refine hs.ext' ?_;exact eA);rintro e w2 ⟨rfl,m⟩;obtain⟨t,y⟩:=m.cells;(try simp only [qcD,qfD,qdZ]at t y);(have ae:=m.lt (n:=b) (by first|exact f | (simp only [qdZ];exact f)|(have:=g;omega)))))|((go_at_call 212;(with_reducible refine(zcW _ _ _ _ _ _ _ T ab.out.1 ab.out.2 r.out.1 r.out.2 q.out.1 q.out.2 HT.out).mono ?_);rintro e w3 ⟨rfl,D⟩;obtain⟨u,z⟩:=D.cells;(try simp only [qcD,qfD,qdZ]at u z))))
     all_goals go_wp2
     all_goals go_ret
     exact⟨by rw [E.out];rfl,eA⟩
   ·obtain rfl:i=n:=oM
    have e:convexB ps=true:=zgy (by rw [l.out];exact HW.out) (fun j hj=>af.out j (by rw [l.out]at hj;exact hj));have E:=hd9 e;clear e;go_wp2;go_ret;exact⟨by rw [E.out];rfl,eA⟩
 ·have aG:wthn n 3 12=false:=by simpa using hw
  have e:convexB ps=false:=by unfold convexB;rw [hn,aG];rfl
  rw [e];clear e hn ap;go_enter Tryz.func168,Tryz.ntmps168
  go_wp2_with(((go_at_call 134;(with_reducible refine(zak _ n 3 12).mono ?_);rintro e w1 ⟨rfl,d⟩)))
  go_ret;exact⟨rfl,eA⟩
def farB (p:Int×Int):Bool:=!wthn p.1 0 2000 || !wthn p.2 0 2000
theorem zhg (w:M) (x z:Int):Calls Tryz.prog 166 #[J #[V I x,V I z]] w fun e w'=>e = .returned (Z (farB (x,z)))∧Ext w w':=by
 by_cases h:wthn x 0 2000=true
 ·have e:farB (x,z)=!wthn z 0 2000:=by simp [farB,h]
  rw [e];clear e;go_enter Tryz.func166,Tryz.ntmps166
  go_wp2_with(first|((go_at_call 134;(with_reducible refine(zak _ x 0 2000).mono ?_);rw [h];rintro e m ⟨rfl,d⟩;obtain⟨⟨g,i⟩,f⟩:=cK1 w d))|((go_at_call 134;(with_reducible refine(zak _ z 0 2000).mono ?_);rintro e o ⟨rfl,l⟩)))
  go_ret;exact⟨rfl,eA⟩
 ·have j:wthn x 0 2000=false:=by simpa using h
  have e:farB (x,z)=true:=by simp [farB,j]
  rw [e];clear e;go_enter Tryz.func166,Tryz.ntmps166
  go_wp2_with(((go_at_call 134;(with_reducible refine(zak _ x 0 2000).mono ?_);rw [j];rintro e m ⟨rfl,d⟩;obtain⟨⟨g,i⟩,f⟩:=cK1 w d)))
  go_ret;exact⟨rfl,eA⟩
def idxB {α:Type} (f:α→Bool) (xs:List α):Int:=match xs.findIdx? f with|some i=>(i:Int)|none=>-1
theorem zcL {α:Type} {f:α→Bool} {xs:List α} {i:Nat} {x:α} (l:xs[i]?=Y x) (d:f x=true) (h:∀j y,j<i→xs[j]?=Y y→f y=false):idxB f xs=(i:Int):=by
 obtain⟨e,rfl⟩:=lS.1 l
 have:xs.findIdx? f=Y i:=by
  rw [List.findIdx?_eq_some_iff_getElem];exact⟨e,d,fun j g=>by simpa using h j _ g (gE oM)⟩
 unfold idxB;rw [this]
theorem zcK {α:Type} {f:α→Bool} {xs:List α} (e:∀j y,j<xs.length→xs[j]?=Y y→f y=false):idxB f xs = -1:=by
 have:xs.findIdx? f=X:=by
  rw [List.findIdx?_eq_none_iff];intro x g;obtain⟨j,d⟩:=List.mem_iff_getElem?.1 g;exact e j x (lS.1 d).1 d
 unfold idxB;rw [this]
theorem zfm {α:Type} (f:α→Bool) (xs:List α):decide (0≤idxB f xs)=xs.any f:=by
 unfold idxB
 cases h:xs.findIdx? f with
 | none =>
  rw [List.findIdx?_eq_none_iff]at h;have:xs.any f=false:=by rw [List.any_eq_false];intro x g;simp [h x g]
  rw [this];rfl
 | some i =>
  rw [List.findIdx?_eq_some_iff_getElem]at h;obtain⟨e,d,_⟩:=h;have:xs.any f=true:=List.any_eq_true.2 ⟨_,List.getElem_mem e,d⟩;rw [this];simp
def IxS (w:M) (f:Int×Int→Bool) (ps:List (Int×Int)) (g:Nat) (d:N) (W:M):Prop:=
 ∃i:Nat,i≤ps.length∧d=V I i∧g=ps.length-i∧Ext w W∧∀j y,j<i→ps[j]?=Y y→f y=false
theorem zjE (w:M) (v:N) (ps:List (Int×Int)) (h:IsPts w v ps) :
  Calls Tryz.prog 211 #[v,.func (.func 166) #[] #[]] w fun e w'=>e = .returned (V I (idxB farB ps))∧Ext w w':=by
 obtain⟨a,c,rfl⟩:=h.form;obtain⟨n,D⟩:=gX ps.length;rw [D]at h ⊢;have m:=h.le;unfold maxLen at m;have aa:n≤9223372036854775807:=oM
 have f:=hd9 D;clear D m;go_enter Tryz.func211,Tryz.ntmps211;go_wp2
 go_loopg [8] n (IxS w farB ps)
 case atStart=>exact⟨0,by omega,rfl,by rw [f.out];rfl,eR _,fun j y r=>by omega⟩
 case round =>
  obtain⟨i,hi,rfl,rfl,hx,g⟩:=hrel;rw [f.out]at hi;have d:=hd9 g;clear g
  by_cases z:i<n
  ·obtain⟨q,K⟩:∃q,ps[i]?=Y q:=⟨ps[i]'(by rw [f.out];omega),by simp [f.out,z]⟩
   obtain⟨s,t⟩:=q;obtain⟨b,o,rfl,hb,d0,d1⟩:=(h.ext' hx).at' K;have Hq:=hd9 K;clear K
   by_cases u:farB (s,t)=true
   ·have e:idxB farB ps=(i:Int):=zcL Hq.out u d.out
    have E:=hd9 e;clear e
    go_wp2_with(((go_at_call 166;(with_reducible refine(zhg _ s t).mono ?_);rw [u];rintro e w1 ⟨rfl,Q⟩)))
    go_ret;exact⟨by rw [E.out];rfl,eA⟩
   ·have l:farB (s,t)=false:=by simpa using u
    go_wp2_with(((go_at_call 166;(with_reducible refine(zhg _ s t).mono ?_);rw [l];rintro e w1 ⟨rfl,Q⟩)))
    go_roundg (n-(i+1))
    case measure=>have:=f.out;omega
    case rel =>
     refine⟨i+1,by have:=f.out;omega,by go_num,by rw [f.out],eA,fun j y r p=>?_⟩
     by_cases x:j=i
     ·subst x;rw [Hq.out]at p;cases p;exact l
     ·exact d.out j y oM p
  ·obtain rfl:i=n:=oM
   have e:idxB farB ps = -1:=zcK (fun j y r p=>d.out j y (by rw [f.out]at r;exact r) p);have E:=hd9 e;clear e;go_wp2;go_ret;exact⟨by rw [E.out];rfl,hx⟩
theorem zi4 (w:M) (v:N) (ps:List (Int×Int)) (h:IsPts w v ps) :
  Calls Tryz.prog 167 #[v,.func (.func 166) #[] #[]] w fun e w'=>e = .returned (Z (ps.any farB))∧Ext w w':=by
 rw [←zfm];obtain⟨x,f⟩:=gX (idxB farB ps);have d:=fun W (i:Ext w W)=>zjE W v ps (h.ext' i)
 rw [f]at *;have g:=hd9 d;clear d f;go_enter Tryz.func167,Tryz.ntmps167
 go_wp2_with(((go_at_call 211;(with_reducible refine(g.out _ ?_).mono ?_);exact eA;rintro e l ⟨rfl,j⟩)))
 go_ret;exact⟨rfl,eA⟩
end
end Go.Proofs.YtodpfeaihohpjaaGreatDoor.Cop
