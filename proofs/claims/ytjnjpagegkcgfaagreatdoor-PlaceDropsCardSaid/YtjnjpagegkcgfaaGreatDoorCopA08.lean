/- Part 9: contracts of what the law calls. -/
import Derived.Test.YtjnjpagegkcgfaaGreatDoorCopA07
set_option maxRecDepth 1000000
set_option maxHeartbeats 16000000
set_option linter.unusedSimpArgs false
set_option linter.unusedVariables false
open Go.Value renaming slice→O,bool→X,agg→M,int→F
open Option renaming some→Y,none→Z
open Go renaming Value→I,World→J,Addr→H
open Go.IntKind renaming i64→C
namespace Go.Proofs.YtjnjpagegkcgfaaGreatDoor.Cop
section
open Go.RowKit Go.Shelf
theorem Ext.useLt {a b:J} (h:Ext a b) {n:Nat} {G:Prop} (d:n<a.heap.size) (k:n<b.heap.size→G):G:=k (h.lt d)
theorem Lm.mul {j k:Nat} {x y:Int} (h:Lm j x) (l:Lm k y):Lm (j+k) (x*y):=by
 have e:B ^ (j+k)=B ^ j*B ^ k:=by rw [Int.pow_add]
 have q:=zaq zbr j;have i:=zaq zbr k;unfold Lm at *;have d:(x.natAbs:Int)<B ^ j:=oM
 have f:(y.natAbs:Int)<B ^ k:=oM
 have p:((x*y).natAbs:Int)<B ^ (j+k):=by
  rw [Int.natAbs_mul,e,Int.natCast_mul];exact Int.lt_of_le_of_lt (Int.mul_le_mul_of_nonneg_left (Int.le_of_lt f) oM) (Int.mul_lt_mul_of_pos_right d i)
 omega
theorem Lm.add {k:Nat} {x y:Int} (h:Lm k x) (d:Lm k y):Lm (k+1) (x+y):=by
 have e:B ^ (k+1)=B ^ k*16777216:=by rw [Int.pow_succ];rfl
 unfold Lm at *;rw [e];omega
theorem zdc (p q:Rat):Rat.divInt (p.num*q.den+q.num*p.den) ((p.den:Int)*q.den)=p+q:=by
 rw [Rat.add_def',←Rat.divInt_ofNat,Int.natCast_mul]
theorem zdd (p q:Rat):Rat.divInt (p.num*q.num) ((p.den:Int)*q.den)=p*q:=by
 rw [Rat.mul_def',←Rat.divInt_ofNat,Int.natCast_mul]
theorem zeN (p q:Rat):Rat.divInt (p.num*q.den) ((p.den:Int)*q.num)=p / q:=by
 rw [Rat.div_def,Rat.inv_def,←Rat.divInt_mul_divInt,Rat.num_divInt_den]
theorem zfw (p q:Rat):(p.den:Int)*q.den≠0:=by
 have:=Int.mul_pos (den_pos p) (den_pos q);omega
theorem Rb.add {k:Nat} {p q:Rat} (h:Rb k p) (d:Rb k q):Rb (2*k+1) (p+q):=by
 rw [←zdc];refine⟨zhr (zfw p q) ?_,zfx (zfw p q) ((Lm.mul h.2 d.2).mono oM)⟩;rw [show 2*k+1=(k+k)+1 by omega];exact(h.1.mul d.2).add (d.1.mul h.2)
theorem Rb.mul {j k:Nat} {p q:Rat} (h:Rb j p) (d:Rb k q):Rb (j+k) (p*q):=by
 rw [←zdd];exact⟨zhr (zfw p q) (h.1.mul d.1),zfx (zfw p q) (h.2.mul d.2)⟩
theorem Rb.neg {k:Nat} {p:Rat} (h:Rb k p):Rb k (-p):=⟨h.1.neg,h.2⟩
theorem Rb.sub {k:Nat} {p q:Rat} (h:Rb k p) (d:Rb k q):Rb (2*k+1) (p-q):=by
 rw [Rat.sub_eq_add_neg];exact h.add d.neg
theorem Rb.int {k:Nat} {n:Int} (h:Lm k n) (d:1≤k):Rb k (n:Rat):=⟨h,zeI d⟩
theorem Rb.div {j k:Nat} {p q:Rat} (h:Rb j p) (d:Rb k q) (l:1≤j+k):Rb (j+k) (p / q):=by
 by_cases i:q=0
 ·subst i
  have:p / 0=((0:Int):Rat):=by rw [Rat.div_def,Rat.inv_zero,Rat.mul_zero];rfl
  rw [this];exact Rb.int (by have:=zaq zbr (j+k);unfold Lm;omega) l
 ·have r:q.num≠0:=fun e=>i (by rw [←Rat.num_divInt_den q,e];simp)
  have f:(p.den:Int)*q.num≠0:=Int.mul_ne_zero (by have:=den_pos p;omega) r;rw [←zeN];exact⟨zhr f (h.1.mul d.2),zfx f (h.2.mul d.1)⟩
def rcmp (p q:Rat):Int:=(p.num*q.den-q.num*p.den).sign
theorem zgL (p q:Rat):rcmp p q<0 ↔ p<q:=by
 unfold rcmp;rw [Rat.lt_iff,Int.sign_neg_iff];omega
theorem zku (p q:Rat):0<rcmp p q ↔ q<p:=by
 unfold rcmp;rw [Rat.lt_iff,Int.sign_pos_iff];omega
theorem zoV (w:J) (va vb:I) (p q:Rat) (ha:IsR w va p) (hb:IsR w vb q) (d:Rb limR p) (f:Rb limR q) :
  Calls Tryz.prog 75 #[va,vb] w fun e w'=>e = .returned (F C (rcmp p q))∧Ext w w'∧Dr w w':=by
 obtain⟨a,m,c,s,a2,m2,c2,rfl⟩:=ha.form;obtain⟨a',m',c',s',j,y,l,rfl⟩:=hb.form;have z:=hd9 d;have D:=hd9 f;have ab:=ha.top;have ac:=hb.top;have K:Hid (Lm lim p.num):=hd9 (d.1.mono dM);have L:Hid (Lm lim q.num):=hd9 (f.1.mono dM);have Q:Hid (Lm lim (p.den:Int)):=hd9 (d.2.mono dM);have R:Hid (Lm lim (q.den:Int)):=hd9 (f.2.mono dM);have S:Hid (Lm limA (p.num*q.den)):=hd9 ((d.1.mul f.2).mono dM);have aa:Hid (Lm limA (q.num*p.den)):=hd9 ((f.1.mul d.2).mono dM);have ar:Hid (Lm limA (p.num*q.num)):=hd9 ((d.1.mul f.1).mono dM);have au:Hid (Lm limA ((p.den:Int)*q.den)):=hd9 ((d.2.mul f.2).mono dM);have av:Hid (Lm limA ((p.den:Int)*q.num)):=hd9 ((d.2.mul f.1).mono dM);have h:Hid (Lm lim (p.num*q.den)):=hd9 (S.out.mono dM);have i:Hid (Lm lim (q.num*p.den)):=hd9 (aa.out.mono dM);clear d f;go_enter Tryz.func75,Tryz.ntmps75;go_wp2
 go_region_held3 (fun W=>W.cell? ⟨w.heap.size,0,Z⟩=Y (O a m c)∧W.cell? ⟨w.heap.size,1,Z⟩=Y (X s)∧W.cell? ⟨w.heap.size,2,Z⟩=Y (O a2 m2 c2)∧W.cell? ⟨w.heap.size+1,0,Z⟩=Y (O a' m' c')∧W.cell? ⟨w.heap.size+1,1,Z⟩=Y (X s')∧W.cell? ⟨w.heap.size+1,2,Z⟩=Y (O j y l)) ((repeat' (with_reducible refine And.intro ?_ ?_))<;>(first|(go_simp;done)|(refine hx1.cellS ?_;go_simp;done))) (first|((go_at_call 135;(with_reducible refine(zed _ (M #[O a' m' c',X s',O j y l]) q ?_ D.out).mono ?_);(refine hb.ext ?_;exact eA);rintro e w1 ⟨r1,rfl,r,hx1,aB⟩;obtain⟨b1,n1,k1,t1,rfl⟩:=r.form;obtain⟨⟨aw,aG⟩,ah,ai⟩:=cK2 w hx1))|((go_at_call 135;(with_reducible refine(zed _ (M #[O a m c,X s,O a2 m2 c2]) p ?_ z.out).mono ?_);(refine ha.ext ?_;exact eA);rintro e w3 ⟨r3,rfl,u,ae,aD⟩;obtain⟨b3,n3,k3,t3,rfl⟩:=u.form;obtain⟨⟨ay,aI⟩,al,am⟩:=cK2 w ae))|((go_at_call 147;(with_reducible refine(zkX _ (M #[O a m c,X s]) (M #[O b1 n1 k1,X t1]) p.num (q.den:Int) ?_ ?_ K.out R.out).mono ?_);(refine ab.ext ?_;exact eA);(refine r.ext ?_;exact eA);rintro e w2 ⟨r2,rfl,t,ad,aC⟩;obtain⟨b2,n2,k2,t2,rfl⟩:=t.form;obtain⟨⟨ax,aH⟩,aj,ak⟩:=cK2 w ad))|((go_at_call 147;(with_reducible refine(zkX _ (M #[O a' m' c',X s']) (M #[O b3 n3 k3,X t3]) q.num (p.den:Int) ?_ ?_ L.out Q.out).mono ?_);(refine ac.ext ?_;exact eA);(refine u.ext ?_;exact eA);rintro e w4 ⟨r4,rfl,x,af,aE⟩;obtain⟨b4,n4,k4,t4,rfl⟩:=x.form;obtain⟨⟨az,aJ⟩,an,ao⟩:=cK2 w af))|((go_at_call 136;(with_reducible refine(zmP _ (M #[O b2 n2 k2,X t2]) (M #[O b4 n4 k4,X t4]) (p.num*q.den) (q.num*p.den) ?_ ?_ h.out i.out).mono ?_);(refine t.ext ?_;exact eA);(refine x.ext ?_;exact eA);rintro e w5 ⟨rfl,ag,aF⟩;obtain⟨⟨aA,aK⟩,ap,aq⟩:=cK2 w ag)))
 all_goals go_wp2
 go_ret;exact⟨rfl,eA,dA⟩
theorem zaI (w:J) (h i:I) (p q:Rat) (j:IsR w h p) (l:IsR w i q) (d:Rb limR p) (f:Rb limR q) :
  Calls Tryz.prog 75 #[h,i] w fun e w'=>e = .returned (F C (rcmp p q))∧Ext w w':=zfA (zoV w h i p q j l d f)
theorem zhC (w:J) (va vb:I) (p q:Rat) (ha:IsR w va p) (hb:IsR w vb q) (d:Rb limR p) (f:Rb limR q) :
  Calls Tryz.prog 156 #[va,vb] w (RetR w (p*q)):=by
 obtain⟨a,m,c,s,a2,m2,c2,rfl⟩:=ha.form;obtain⟨a',m',c',s',h,x,i,rfl⟩:=hb.form;have L:=hd9 d;have Q:=hd9 f;have al:=ha.top;have am:=hb.top;have R:Hid (Lm lim p.num):=hd9 (d.1.mono dM);have S:Hid (Lm lim q.num):=hd9 (f.1.mono dM);have aa:Hid (Lm lim (p.den:Int)):=hd9 (d.2.mono dM);have ab:Hid (Lm lim (q.den:Int)):=hd9 (f.2.mono dM);have ac:Hid (Lm limA (p.num*q.den)):=hd9 ((d.1.mul f.2).mono dM);have ad:Hid (Lm limA (q.num*p.den)):=hd9 ((f.1.mul d.2).mono dM);have ae:Hid (Lm limA (p.num*q.num)):=hd9 ((d.1.mul f.1).mono dM);have af:Hid (Lm limA ((p.den:Int)*q.den)):=hd9 ((d.2.mul f.2).mono dM);have aG:Hid (Lm limA ((p.den:Int)*q.num)):=hd9 ((d.2.mul f.1).mono dM);have ar:Hid (Lm lim (p.num*q.den)):=hd9 (ac.out.mono dM);have au:Hid (Lm lim (q.num*p.den)):=hd9 (ad.out.mono dM);clear d f;go_enter Tryz.func156,Tryz.ntmps156;go_wp2
 go_region_held3 (fun W=>W.cell? ⟨w.heap.size,0,Z⟩=Y (O a m c)∧W.cell? ⟨w.heap.size,1,Z⟩=Y (X s)∧W.cell? ⟨w.heap.size,2,Z⟩=Y (O a2 m2 c2)∧W.cell? ⟨w.heap.size+1,0,Z⟩=Y (O a' m' c')∧W.cell? ⟨w.heap.size+1,1,Z⟩=Y (X s')∧W.cell? ⟨w.heap.size+1,2,Z⟩=Y (O h x i)) ((repeat' (with_reducible refine And.intro ?_ ?_))<;>(first|(go_simp;done)|(refine hx1.cellS ?_;go_simp;done))) (first|((go_at_call 147;(with_reducible refine(zbM _ (M #[O a m c,X s]) (M #[O a' m' c',X s']) p.num q.num ?_ ?_ R.out S.out).mono ?_);(refine al.ext ?_;exact eA);(refine am.ext ?_;exact eA);rintro e w1 ⟨r1,rfl,j,hx1⟩;obtain⟨b1,n1,k1,t1,rfl⟩:=j.form;obtain⟨⟨ag,aH⟩,av,aw,y⟩:=cK3 w hx1))|((go_at_call 135;(with_reducible refine(zaG _ (M #[O a m c,X s,O a2 m2 c2]) p ?_ L.out).mono ?_);(refine ha.ext ?_;exact eA);rintro e w2 ⟨r2,rfl,l,an⟩;obtain⟨b2,n2,k2,t2,rfl⟩:=l.form;obtain⟨⟨ah,aI⟩,ax,ay,z⟩:=cK3 w an))|((go_at_call 135;(with_reducible refine(zaG _ (M #[O a' m' c',X s',O h x i]) q ?_ Q.out).mono ?_);(refine hb.ext ?_;exact eA);rintro e w3 ⟨r3,rfl,r,ao⟩;obtain⟨b3,n3,k3,t3,rfl⟩:=r.form;obtain⟨⟨ai,aJ⟩,az,aA,D⟩:=cK3 w ao))|((go_at_call 147;(with_reducible refine(zbM _ (M #[O b2 n2 k2,X t2]) (M #[O b3 n3 k3,X t3]) (p.den:Int) (q.den:Int) ?_ ?_ aa.out ab.out).mono ?_);(refine l.ext ?_;exact eA);(refine r.ext ?_;exact eA);rintro e w4 ⟨r4,rfl,t,ap⟩;obtain⟨b4,n4,k4,t4,rfl⟩:=t.form;obtain⟨⟨aj,aK⟩,aB,aC,K⟩:=cK3 w ap))|((go_at_call 178;(with_reducible refine(zec _ (M #[O b1 n1 k1,X t1]) (M #[O b4 n4 k4,X t4]) (p.num*q.num) ((p.den:Int)*q.den) ?_ ?_ ae.out af.out (zfw p q)).mono ?_);(refine j.ext ?_;exact eA);(refine t.ext ?_;exact eA);rintro e w5 ⟨r5,rfl,u,aq⟩;obtain⟨b5,n5,k5,t5,b6,n6,k6,rfl⟩:=u.form;obtain⟨⟨ak,aL⟩,aD,aE,aF⟩:=cK3 w aq)))
 all_goals go_wp2
 refine bR (v:=M #[O b5 n5 k5,X t5,O b6 n6 k6]) (by simp [results,Tryz.results156,go_sem,ag,ah,ai,aj,ak,y,z,D,K]) rfl ⟨_,rfl,?_,eA⟩;rw [←zdd];exact u.keep kA
theorem zkx (w:J) (x y:I) (p q:Rat) (ha:IsR w x p) (hb:IsR w y q) (d:∀(W:J) (x y:I) (p q:Rat),IsR W x p→IsR W y q→Rb limR p→Rb limR q→Calls Tryz.prog 117 #[x,y] W (RetR W (p+q))) (j:Rb limR p) (l:Rb limR q) :
  Calls Tryz.prog 115 #[x,y] w (RetR w (p-q)):=by
 obtain⟨a,m,c,s,a2,m2,c2,rfl⟩:=ha.form;obtain⟨S,m',c',s',h,u,i,rfl⟩:=hb.form;have D:=hd9 j;have K:=hd9 l.neg;have f:=hd9 d;clear j l d;rw [Rat.sub_eq_add_neg];go_enter Tryz.func115,Tryz.ntmps115;go_wp2
 go_region_held3 (fun W=>W.cell? ⟨w.heap.size,0,Z⟩=Y (O a m c)∧W.cell? ⟨w.heap.size,1,Z⟩=Y (X s)∧W.cell? ⟨w.heap.size,2,Z⟩=Y (O a2 m2 c2)∧W.cell? ⟨w.heap.size+1,0,Z⟩=Y (O S m' c')∧W.cell? ⟨w.heap.size+1,1,Z⟩=Y (X s')∧W.cell? ⟨w.heap.size+1,2,Z⟩=Y (O h u i)) ((repeat' (with_reducible refine And.intro ?_ ?_))<;>(first|(go_simp;done)|(refine hx1.cellS ?_;go_simp;done))) (first|((go_at_call 177;(with_reducible refine(zlV _ (M #[O S m' c',X s',O h u i]) q ?_).mono ?_);(refine hb.ext ?_;exact eA);rintro e w1 ⟨r1,rfl,r,hx1⟩;obtain⟨b1,n1,k1,t1,b2,n2,k2,rfl⟩:=r.form;obtain⟨⟨L,af⟩,aa,ab,z⟩:=cK3 w hx1))|((go_at_call 117;(with_reducible refine(f.out _ (M #[O a m c,X s,O a2 m2 c2]) (M #[O b1 n1 k1,X t1,O b2 n2 k2]) p (-q) ?_ ?_ D.out K.out).mono ?_);(refine ha.ext ?_;exact eA);(refine r.ext ?_;exact eA);rintro e w5 ⟨r5,rfl,t,R⟩;obtain⟨b5,n5,k5,t5,b6,n6,k6,rfl⟩:=t.form;obtain⟨⟨Q,ag⟩,ac,ad,ae⟩:=cK3 w R)))
 all_goals go_wp2
 exact bR (v:=M #[O b5 n5 k5,X t5,O b6 n6 k6]) (by simp [results,Tryz.results115,go_sem,L,Q,z]) rfl ⟨_,rfl,t.keep kA,eA⟩
theorem zlT (w:J) (va vb:I) (p q:Rat) (ha:IsR w va p) (hb:IsR w vb q) (d:Rb limR p) (f:Rb limR q) :
  Calls Tryz.prog 201 #[va,vb] w fun e w'=>∃r,e = .returned (.tuple #[r,F C (if (p.den:Int)*q.num=0 then 9 else 0)])∧IsR w' r (p / q)∧Ext w w':=by
 obtain⟨a,m,c,s,a2,m2,c2,rfl⟩:=ha.form;obtain⟨a',m',c',s',j,D,l,rfl⟩:=hb.form;have S:=hd9 d;have aa:=hd9 f;have an:=ha.top;have ao:=hb.top;have ab:Hid (Lm lim p.num):=hd9 (d.1.mono dM);have ac:Hid (Lm lim q.num):=hd9 (f.1.mono dM);have ad:Hid (Lm lim (p.den:Int)):=hd9 (d.2.mono dM);have ae:Hid (Lm lim (q.den:Int)):=hd9 (f.2.mono dM);have i:Hid (Lm limA (p.num*q.den)):=hd9 ((d.1.mul f.2).mono dM);have af:Hid (Lm limA (q.num*p.den)):=hd9 ((f.1.mul d.2).mono dM);have aI:Hid (Lm limA (p.num*q.num)):=hd9 ((d.1.mul f.1).mono dM);have aJ:Hid (Lm limA ((p.den:Int)*q.den)):=hd9 ((d.2.mul f.2).mono dM);have ag:Hid (Lm limA ((p.den:Int)*q.num)):=hd9 ((d.2.mul f.1).mono dM);have av:Hid (Lm lim (p.num*q.den)):=hd9 (i.out.mono dM);have aw:Hid (Lm lim (q.num*p.den)):=hd9 (af.out.mono dM);clear d f;obtain⟨er,h⟩:∃er:Int,er=if (p.den:Int)*q.num=0 then 9 else 0:=⟨_,rfl⟩
 rw [←h];have ah:=hd9 h;clear h;go_enter Tryz.func201,Tryz.ntmps201;go_wp2
 go_region_held3 (fun W=>W.cell? ⟨w.heap.size,0,Z⟩=Y (O a m c)∧W.cell? ⟨w.heap.size,1,Z⟩=Y (X s)∧W.cell? ⟨w.heap.size,2,Z⟩=Y (O a2 m2 c2)∧W.cell? ⟨w.heap.size+1,0,Z⟩=Y (O a' m' c')∧W.cell? ⟨w.heap.size+1,1,Z⟩=Y (X s')∧W.cell? ⟨w.heap.size+1,2,Z⟩=Y (O j D l)) ((repeat' (with_reducible refine And.intro ?_ ?_))<;>(first|(go_simp;done)|(refine hx1.cellS ?_;go_simp;done))) (first|((go_at_call 135;(with_reducible refine(zaG _ (M #[O a' m' c',X s',O j D l]) q ?_ aa.out).mono ?_);(refine hb.ext ?_;exact eA);rintro e w1 ⟨r1,rfl,t,hx1⟩;obtain⟨b1,n1,k1,t1,rfl⟩:=t.form;obtain⟨⟨ai,aK⟩,ax,ay,K⟩:=cK3 w hx1))|((go_at_call 147;(with_reducible refine(zbM _ (M #[O a m c,X s]) (M #[O b1 n1 k1,X t1]) p.num (q.den:Int) ?_ ?_ ab.out ae.out).mono ?_);(refine an.ext ?_;exact eA);(refine t.ext ?_;exact eA);rintro e w2 ⟨r2,rfl,u,ap⟩;obtain⟨b2,n2,k2,t2,rfl⟩:=u.form;obtain⟨⟨aj,aL⟩,az,aA,L⟩:=cK3 w ap))|((go_at_call 135;(with_reducible refine(zaG _ (M #[O a m c,X s,O a2 m2 c2]) p ?_ S.out).mono ?_);(refine ha.ext ?_;exact eA);rintro e w3 ⟨r3,rfl,x,aq⟩;obtain⟨b3,n3,k3,t3,rfl⟩:=x.form;obtain⟨⟨ak,aM⟩,aB,aC,Q⟩:=cK3 w aq))|((go_at_call 147;(with_reducible refine(zbM _ (M #[O b3 n3 k3,X t3]) (M #[O a' m' c',X s']) (p.den:Int) q.num ?_ ?_ ad.out ac.out).mono ?_);(refine x.ext ?_;exact eA);(refine ao.ext ?_;exact eA);rintro e w4 ⟨r4,rfl,y,ar⟩;obtain⟨b4,n4,k4,t4,rfl⟩:=y.form;obtain⟨⟨al,aO⟩,aD,aE,R⟩:=cK3 w ar))|((go_at_call 145;(with_reducible refine(znE _ (M #[O b2 n2 k2,X t2]) (M #[O b4 n4 k4,X t4]) (p.num*q.den) ((p.den:Int)*q.num) ?_ ?_ i.out ag.out).mono ?_);(refine u.ext ?_;exact eA);(refine y.ext ?_;exact eA);rw [←ah.out];rintro e w5 ⟨r5,rfl,z,au⟩;obtain⟨b5,n5,k5,t5,b6,n6,k6,rfl⟩:=z.form;obtain⟨⟨am,aP⟩,aF,aG,aH⟩:=cK3 w au)))
 all_goals go_wp2
 refine bR (v:=.tuple #[M #[O b5 n5 k5,X t5,O b6 n6 k6],F C er]) (by simp [results,Tryz.results201,go_sem,ai,aj,ak,al,am,K,L,Q,R]) rfl ⟨_,rfl,?_,eA⟩;rw [←zeN];exact z.keep kA
def AdS (w:J) (p q:Rat) (a:Option H) (m c:Nat) (s:Bool) (u:Option H) (z c':Nat) (D:Bool) (t5 K:I) (W:J):Prop:=
 ∃(d e:Nat) (x y:Option H) (j f l h:Nat) (r t:Bool),t5 = .pointer (Y ⟨d,0,Z⟩)∧K = .pointer (Y ⟨e,0,Z⟩)∧w.heap.size+1+1<d∧w.heap.size+1+1<e∧Ext w W∧NoT 2 W (w.heap.size+1+1) ∧
 IsZ W (M #[O x j f,X r]) (p.den:Int)∧IsZ W (M #[O y l h,X t]) (q.den:Int) ∧
 W.cell? ⟨d,0,Z⟩=Y (O x j f)∧W.cell? ⟨d,1,Z⟩=Y (X r)∧W.cell? ⟨e,0,Z⟩=Y (O y l h)∧W.cell? ⟨e,1,Z⟩=Y (X t) ∧
 W.cell? ⟨w.heap.size,0,Z⟩=Y (O a m c)∧W.cell? ⟨w.heap.size,1,Z⟩=Y (X s)∧W.cell? ⟨w.heap.size+1,0,Z⟩=Y (O u z c')∧W.cell? ⟨w.heap.size+1,1,Z⟩=Y (X D) ∧
 W.cell? ⟨w.heap.size+1+1,0,Z⟩=Y (O Z 0 0)∧W.cell? ⟨w.heap.size+1+1,1,Z⟩=Y (X false)∧W.cell? ⟨w.heap.size+1+1,2,Z⟩=Y (O Z 0 0) ∧
 (∀i,W.frozen? ⟨w.heap.size+1+1,i,Z⟩=false)
theorem zfh (w:J) (va vb:I) (p q:Rat) (ha:IsR w va p) (hb:IsR w vb q) (d:Rb limR p) (f:Rb limR q) :
  Calls Tryz.prog 117 #[va,vb] w (RetR w (p+q)):=by
 obtain⟨a,m,c,s,a2,m2,c2,rfl⟩:=ha.form;obtain⟨a',m',c',s',ag,ar,ah,rfl⟩:=hb.form;have Q:=hd9 d;have R:=hd9 f;have a6:=ha.top;have a7:=hb.top;have aO:Hid (Lm lim p.num):=hd9 (d.1.mono dM);have aP:Hid (Lm lim q.num):=hd9 (f.1.mono dM);have ac:Hid (Lm lim (p.den:Int)):=hd9 (d.2.mono dM);have ad:Hid (Lm lim (q.den:Int)):=hd9 (f.2.mono dM);have aQ:Hid (Lm limA (p.num*q.den)):=hd9 ((d.1.mul f.2).mono dM);have aR:Hid (Lm limA (q.num*p.den)):=hd9 ((f.1.mul d.2).mono dM);have bu:Hid (Lm limA (p.num*q.num)):=hd9 ((d.1.mul f.1).mono dM);have aS:Hid (Lm limA ((p.den:Int)*q.den)):=hd9 ((d.2.mul f.2).mono dM);have bv:Hid (Lm limA ((p.den:Int)*q.num)):=hd9 ((d.2.mul f.1).mono dM);have ae:Hid (Lm lim (p.num*q.den)):=hd9 (aQ.out.mono dM);have af:Hid (Lm lim (q.num*p.den)):=hd9 (aR.out.mono dM);clear d f;go_enter Tryz.func117,Tryz.ntmps117
 go_upto_region 1 with fail
 go_cut [5,6] (AdS w p q a m c s a' m' c' s')
 case first =>
  go_region_held3 (fun W=>W.cell? ⟨w.heap.size,0,Z⟩=Y (O a m c)∧W.cell? ⟨w.heap.size,1,Z⟩=Y (X s)∧W.cell? ⟨w.heap.size,2,Z⟩=Y (O a2 m2 c2)∧W.cell? ⟨w.heap.size+1,0,Z⟩=Y (O a' m' c')∧W.cell? ⟨w.heap.size+1,1,Z⟩=Y (X s')∧W.cell? ⟨w.heap.size+1,2,Z⟩=Y (O ag ar ah)) ((repeat' (with_reducible refine And.intro ?_ ?_))<;>(first|(go_simp;done)|(refine hx1.cellS ?_;go_simp;done))) (first|((go_at_call 135;(with_reducible refine(zaG _ (M #[O a m c,X s,O a2 m2 c2]) p ?_ Q.out).mono ?_);(refine ha.ext ?_;exact eA);rintro e j ⟨r1,rfl,l,hx1⟩;obtain⟨b1,n1,k1,t1,rfl⟩:=l.form;obtain⟨⟨aj,a4⟩,au,av,K⟩:=cK3 w hx1;have aB:w.heap.size<j.heap.size+1:=oM;have aC:w.heap.size<j.heap.size+1+1:=oM;have aD:w.heap.size+1<j.heap.size+1:=oM;have aE:w.heap.size+1<j.heap.size+1+1:=oM;have aF:w.heap.size+1+1<j.heap.size+1:=oM;have aG:w.heap.size+1+1<j.heap.size+1+1:=oM;(try(refine Ext.useLt hx1 (n:=w.heap.size+1+1+1) ?_ (fun _=>?_);focus(go_simp;done)));(try(refine Ext.useLt hx1 (n:=w.heap.size+1+1+1+1) ?_ (fun _=>?_);focus(go_simp;done)));(try(refine Ext.useLt hx1 (n:=j.heap.size) ?_ (fun _=>?_);focus(go_simp;done)));(try(refine Ext.useLt hx1 (n:=j.heap.size+1) ?_ (fun _=>?_);focus(go_simp;done)))))|((go_at_call 135;(with_reducible refine(zaG _ (M #[O a' m' c',X s',O ag ar ah]) q ?_ R.out).mono ?_);(refine hb.ext ?_;exact eA);rintro e D ⟨r2,rfl,r,h⟩;obtain⟨b2,n2,k2,t2,rfl⟩:=r.form;obtain⟨⟨z,a5⟩,aw,ax,L⟩:=cK3 w h;have aH:w.heap.size<D.heap.size+1:=oM;have aI:w.heap.size<D.heap.size+1+1:=oM;have aJ:w.heap.size+1<D.heap.size+1:=oM;have aK:w.heap.size+1<D.heap.size+1+1:=oM;have aL:w.heap.size+1+1<D.heap.size+1:=oM;have aM:w.heap.size+1+1<D.heap.size+1+1:=oM;(try(refine Ext.useLt h (n:=w.heap.size+1+1+1) ?_ (fun _=>?_);focus(go_simp;done)));(try(refine Ext.useLt h (n:=w.heap.size+1+1+1+1) ?_ (fun _=>?_);focus(go_simp;done)));(try(refine Ext.useLt h (n:=j.heap.size) ?_ (fun _=>?_);focus(go_simp;done)));(try(refine Ext.useLt h (n:=j.heap.size+1) ?_ (fun _=>?_);focus(go_simp;done))))))
  all_goals go_wp2
  all_goals go_meet
  all_goals refine⟨_,_,b1,b2,n1,k1,n2,k2,t1,t2,rfl,rfl,by omega,by omega,eA,nA,l.keep kA,r.keep kA,?_,?_,?_,?_,?_,?_,?_,?_,?_,?_,?_,fun i=>?_⟩
  all_goals first|(go_simp;done)|(have u1:j.heap.size<j.heap.size+1+1:=oM;have u2:D.cell? ⟨j.heap.size,0,Z⟩=Y (O Z 0 0):=((z _ _ (by first|exact u1|(simp only [wZ,qdZ];exact u1))).trans (by go_simp));have u3:D.cell? ⟨j.heap.size,1,Z⟩=Y (X false):=((z _ _ (by first|exact u1|(simp only [wZ,qdZ];exact u1))).trans (by go_simp));go_simp)
 case rest =>
  obtain⟨t,u,x,y,mx,cx,my,cy,sx,sy,rfl,rfl,bB,bC,hx,hN,ap,aq,aU,bw,aV,bx,aW,bz,aX,bA,ai,aY,aZ,bG⟩:=hcut;have bI:¬t=w.heap.size+1+1:=oM
  have a8:¬w.heap.size+1+1=t:=oM
  have bJ:¬u=w.heap.size+1+1:=oM
  have a9:¬w.heap.size+1+1=u:=oM
  have bK:t<wc.heap.size:=World.block_lt_of_cell? wc _ aU;have bL:u<wc.heap.size:=World.block_lt_of_cell? wc _ aV;have bs:w.heap.size<wc.heap.size:=World.block_lt_of_cell? wc _ aW;have bt:w.heap.size+1<wc.heap.size:=World.block_lt_of_cell? wc _ aX;have aA:w.heap.size+1+1<wc.heap.size:=World.block_lt_of_cell? wc _ ai
  have aT:Hid (Lm limA (p.num*q.den+q.num*p.den)):=by
   have h1:=((Q.out.1.mul R.out.2).add (R.out.1.mul Q.out.2)).mono (show limR+limR+1≤limA by decide);exact hd9 h1
  have an:=a6.ext hx;have ao:=a7.ext hx;go_wp2
  go_region_held3 (fun W=>W.cell? ⟨w.heap.size,0,Z⟩=Y (O a m c)∧W.cell? ⟨w.heap.size,1,Z⟩=Y (X s)∧W.cell? ⟨w.heap.size+1,0,Z⟩=Y (O a' m' c')∧W.cell? ⟨w.heap.size+1,1,Z⟩=Y (X s')∧W.cell? ⟨t,0,Z⟩=Y (O x mx cx)∧W.cell? ⟨t,1,Z⟩=Y (X sx)∧W.cell? ⟨u,0,Z⟩=Y (O y my cy)∧W.cell? ⟨u,1,Z⟩=Y (X sy)) ((repeat' (with_reducible refine And.intro ?_ ?_))<;>(first|(go_simp;done)|(refine hx1.cellS ?_;go_simp;done))) (first|((go_at_call 147;(with_reducible refine(zbM _ (M #[O a m c,X s]) (M #[O y my cy,X sy]) p.num (q.den:Int) ?_ ?_ aO.out ad.out).mono ?_);(refine an.ext ?_;exact eA);(refine aq.ext ?_;exact eA);rintro e j ⟨r1,rfl,l,hx1⟩;obtain⟨b1,n1,k1,t1,rfl⟩:=l.form;obtain⟨⟨aj,a4⟩,au,av,K⟩:=cK3 w hx1;(have ba:=hx1.lt (n:=t) (by go_simp));(have bg:=hx1.lt (n:=u) (by go_simp))))|((go_at_call 147;(with_reducible refine(zbM _ (M #[O a' m' c',X s']) (M #[O x mx cx,X sx]) q.num (p.den:Int) ?_ ?_ aP.out ac.out).mono ?_);(refine ao.ext ?_;exact eA);(refine ap.ext ?_;exact eA);rintro e D ⟨r2,rfl,r,h⟩;obtain⟨b2,n2,k2,t2,rfl⟩:=r.form;obtain⟨⟨z,a5⟩,aw,ax,L⟩:=cK3 w h;(have bb:=h.lt (n:=t) (by go_simp));(have bh:=h.lt (n:=u) (by go_simp))))|((go_at_call 179;(with_reducible refine(zme _ (M #[O b1 n1 k1,X t1]) (M #[O b2 n2 k2,X t2]) (p.num*q.den) (q.num*p.den) ?_ ?_ ae.out af.out).mono ?_);(refine l.ext ?_;exact eA);(refine r.ext ?_;exact eA);rintro e w3 ⟨r3,rfl,ak,S⟩;obtain⟨b3,n3,k3,t3,rfl⟩:=ak.form;obtain⟨⟨a0,bD⟩,bl,bm,ay⟩:=cK3 w S;(have bc:=S.lt (n:=t) (by go_simp));(have bi:=S.lt (n:=u) (by go_simp))))|((go_at_call 147;(with_reducible refine(zbM _ (M #[O x mx cx,X sx]) (M #[O y my cy,X sy]) (p.den:Int) (q.den:Int) ?_ ?_ ac.out ad.out).mono ?_);(refine ap.ext ?_;exact eA);(refine aq.ext ?_;exact eA);rintro e w4 ⟨r4,rfl,al,aa⟩;obtain⟨b4,n4,k4,t4,rfl⟩:=al.form;obtain⟨⟨a1,bE⟩,bn,bo,az⟩:=cK3 w aa;(have be:=aa.lt (n:=t) (by go_simp));(have bj:=aa.lt (n:=u) (by go_simp))))|((go_at_call 178;(with_reducible refine(zec _ (M #[O b3 n3 k3,X t3]) (M #[O b4 n4 k4,X t4]) (p.num*q.den+q.num*p.den) ((p.den:Int)*q.den) ?_ ?_ aT.out aS.out (zfw p q)).mono ?_);(refine ak.ext ?_;exact eA);(refine al.ext ?_;exact eA);rintro e w5 ⟨r5,rfl,am,ab⟩;obtain⟨b7,n5,k5,t5,b8,n6,k6,rfl⟩:=am.form;obtain⟨⟨a3,bF⟩,bp,bq,br⟩:=cK3 w ab;(have bf:=ab.lt (n:=t) (by go_simp));(have bk:=ab.lt (n:=u) (by go_simp)))))
  all_goals go_wp2
  refine bR (v:=M #[O b7 n5 k5,X t5,O b8 n6 k6]) (by simp [results,Tryz.results117,go_sem,aj,z,a0,a1,a3,aA,K,L,ay,az,ai,aY,aZ]) rfl ⟨_,rfl,?_,?_⟩
  ·rw [←zdc]
   exact am.keep kA
  ·have bH:Ext w j:=hx.trans ((eR wc).drew.trans hx1)
   exact eA
theorem zch (w:J) (f h:I) (p q:Rat) (i:IsR w f p) (j:IsR w h q) (d:Rb limR p) (e:Rb limR q) :
  Calls Tryz.prog 115 #[f,h] w (RetR w (p-q)):=zkx w f h p q i j zfh d e
end
section
open Go.RowKit
def C4:Int:=10000
theorem zbm:(0:Int)<C4:=dM
theorem zoS {x:Int} (h:Int.tmod x 10000<0):Int.tmod x 10000+10000=x % 10000∧Int.tdiv x 10000-1=x / 10000:=by
 by_cases d:0≤x
 ·rw [Int.tmod_eq_emod_of_nonneg d]at h;omega
 ·obtain⟨y,rfl⟩:∃y,x = -y:=⟨-x,by omega⟩
  rw [Int.neg_tmod,Int.neg_tdiv]at *;rw [Int.tmod_eq_emod_of_nonneg oM,Int.tdiv_eq_ediv_of_nonneg oM]at *;omega
theorem zoT {x:Int} (h:¬Int.tmod x 10000<0):Int.tmod x 10000=x % 10000∧Int.tdiv x 10000=x / 10000:=by
 by_cases d:0≤x
 ·rw [Int.tmod_eq_emod_of_nonneg d,Int.tdiv_eq_ediv_of_nonneg d];exact⟨rfl,rfl⟩
 ·obtain⟨y,rfl⟩:∃y,x = -y:=⟨-x,by omega⟩
  rw [Int.neg_tmod,Int.neg_tdiv]at *;rw [Int.tmod_eq_emod_of_nonneg oM,Int.tdiv_eq_ediv_of_nonneg oM]at *;omega
theorem zm3 (f xs:List Int) (i:Nat) (x d:Int) (j:f.length=i) (l:xs[i]?=Y x) (h:dv C4 (xs.take i)=dv C4 f+C4 ^ i*d) :
  dv C4 (xs.take (i+1))=dv C4 (f++[(d+x) % 10000])+C4 ^ (i+1)*((d+x) / 10000):=by
 rw [zar C4 xs i x l,zbt,h,j,Int.pow_succ];have e:d+x=(d+x) % 10000+C4*((d+x) / 10000):=by unfold C4;omega
 generalize (d+x) % 10000=r at *
 generalize (d+x) / 10000=q at *
 have:C4 ^ i*(d+x)=C4 ^ i*(r+C4*q):=by rw [e]
 grind
theorem ziW (xs f:List Int) (i:Nat) (d:Int) (j:f.length=i) (h:dv C4 xs=dv C4 f+C4 ^ i*d) :
  dv C4 xs=dv C4 (f++[d % 10000])+C4 ^ (i+1)*(d / 10000):=by
 rw [zbt,h,j,Int.pow_succ];have e:d=d % 10000+C4*(d / 10000):=by unfold C4;omega
 generalize d % 10000=r at *
 generalize d / 10000=q at *
 subst e
 grind
theorem zmX (k:Nat):B ^ k≤C4 ^ (2*k):=by
 induction k with
 | zero=>simp
 | succ k f =>
  have e:C4 ^ (2*(k+1))=C4 ^ (2*k)*100000000:=by rw [show 2*(k+1)=2*k+2 by omega,Int.pow_add];rfl
  have d:B ^ (k+1)=B ^ k*16777216:=by rw [Int.pow_succ];rfl
  have p:=zaq zbr k;rw [e,d];omega
theorem zbz {k:Nat} {n:Int} {ds:List Int} (h:Lm k n) (f:Can C4 ds) (hv:dv C4 ds=(n.natAbs:Int)):ds.length≤2*k:=by
 by_cases d:ds=[]
 ·subst d;simp
 ·have i:=zeV zbm f d
  have j:=zmX k
  by_cases e:ds.length≤2*k
  ·exact e
  ·have:=zaC (b:=C4) dM (show 2*k≤ds.length-1 by omega)
   unfold Lm at h;omega
theorem zhH {a b:Int} (h:a<b):(a-b).sign = -1:=Int.sign_eq_neg_one_of_neg oM
theorem zhG {a b:Int} (h:b<a):(a-b).sign=1:=Int.sign_eq_one_of_pos oM
theorem zoB {xs d:List Int} (e:Can C4 xs) (f:Can C4 d) (h:xs.length≠d.length):((xs.length:Int)-(d.length:Int)).sign=(dv C4 xs-dv C4 d).sign:=by
 rcases Nat.lt_or_gt_of_ne h with h|h
 ·rw [zhH oM,zhH (zbx dM e.1 f h)]
 ·rw [zhG oM,zhG (zbx dM f.1 e h)]
theorem zhJ {l:List Int} {i:Nat} {x:Int} (h:l[i]?=Y x):l=l.take i++x::l.drop (i+1):=by
 have d:=(lS.1 h).1
 have e:l.drop i=x::l.drop (i+1):=by
  rw [List.drop_eq_getElem_cons d];rw [(lS.1 h).2]
 rw [←e,List.take_append_drop]
theorem zoA {xs e:List Int} (K:Can C4 xs) (L:Can C4 e) (D:xs.length=e.length) {i:Nat} {x y:Int} (u:xs[i]?=Y x) (z:e[i]?=Y y)
  (f:xs.drop (i+1)=e.drop (i+1)) (j:x≠y):(x-y).sign=(dv C4 xs-dv C4 e).sign:=by
 have r:=zhJ u;have t:=zhJ z;have l:Dig C4 (xs.take i):=fun d f=>K.1 d (List.mem_of_mem_take f)
 have p:Dig C4 (e.take i):=fun d f=>L.1 d (List.mem_of_mem_take f)
 have q:(xs.take i).length=(e.take i).length:=by simp [D]
 rcases Int.lt_or_gt_of_ne j with h|h
 ·rw [zhH h,zhH]
  rw [r,t,f];exact zbC dM l q p h
 ·rw [zhG h,zhG]
  rw [r,t,f];exact zbC dM p q.symm l h
theorem znv {xs d:List Int} {i:Nat} {x:Int} (e:xs[i]?=Y x) (f:d[i]?=Y x) (h:xs.drop (i+1)=d.drop (i+1)):xs.drop i=d.drop i:=by
 have a:=(lS.1 e).1;have b:=(lS.1 f).1;rw [List.drop_eq_getElem_cons a,List.drop_eq_getElem_cons b,h,(lS.1 e).2,(lS.1 f).2]
theorem zai (n:Int):(n.sign = -1∧n<0)∨(n.sign=0∧n=0)∨(n.sign=1∧0<n):=by
 rcases Int.lt_trichotomy n 0 with h|h|h
 ·exact .inl ⟨Int.sign_eq_neg_one_of_neg h,h⟩
 ·exact .inr (.inl ⟨by rw [h];rfl,h⟩)
 ·exact .inr (.inr ⟨Int.sign_eq_one_of_pos h,h⟩)
theorem zje {b:Int} {os:List Int} {p:Nat} {z:Int} (y:Int) (h:os[p]?=Y z):dv b (os.set p (z+y))=dv b os+b ^ p*y:=by
 rw [zdk _ h];congr 2;omega
theorem zjl {os d V:List Int} {j:Nat} {s x y:Int} (e:os[j]?=Y x) (f:d[j]?=Y y) (h:dv C4 os=dv C4 V+s*dv C4 (d.take j)) :
  dv C4 (os.set j (x+s*y))=dv C4 V+s*dv C4 (d.take (j+1)):=by
 rw [zje _ e,zar C4 d j y f,h];grind
def AddB (os:List Int) (j:Nat):Prop:=∀p z,os[p]?=Y z → -10000≤z∧z≤20000∧(j≤p→0≤z∧z<10000)
theorem AddB.start {os:List Int} (h:Dig C4 os):AddB os 0:=fun p z d=>by have:=h z (lM d);unfold C4 at this;omega
theorem AddB.step {os:List Int} {j:Nat} {x u:Int} (h:AddB os j) (l:os[j]?=Y x) (f : -10000≤u) (i:u≤20000):AddB (os.set j u) (j+1):=by
 intro p z d
 by_cases e:j=p
 ·subst e
  rw [List.getElem?_set_self (lS.1 l).1]at d
  cases d
  exact⟨f,i,fun h=>by omega⟩
 ·rw [List.getElem?_set_ne e]at d
  have:=h p z d;exact⟨this.1,this.2.1,fun q=>this.2.2 oM⟩
theorem AddB.big {os:List Int} {j:Nat} (h:AddB os j):∀x∈os,-100000000000000≤x∧x≤100000000000000:=by
 intro x e;obtain⟨p,d,rfl⟩:=List.getElem_of_mem e;have:=h p _ (gE d);omega
theorem zjs {os d:List Int} {i k:Nat} {x y z V:Int} (f:os[i+k]?=Y z) (e:d[k]?=Y y) (h:dv C4 os=V+C4 ^ i*(x*dv C4 (d.take k))) :
  dv C4 (os.set (i+k) (z+x*y))=V+C4 ^ i*(x*dv C4 (d.take (k+1))):=by
 rw [zje _ f,zar C4 d k y e,h,Int.pow_add];grind
theorem zly {xs d:List Int} {i k:Nat} {x V D:Int} (j:d.length=k) (f:xs[i]?=Y x) (h:D=V+C4 ^ i*(x*dv C4 (d.take k))) (e:V=dv C4 (xs.take i)*dv C4 d) :
  D=dv C4 (xs.take (i+1))*dv C4 d:=by
 rw [h,e,lT (l:=d) oM,zar C4 xs i x f,Int.add_mul,Int.mul_assoc]
def MulB (os:List Int) (i k:Nat):Prop:=∀p z,os[p]?=Y z→0≤z∧z≤((i:Int)+1)*100000000∧(i+k≤p→z≤(i:Int)*100000000)
theorem MulB.start (n:Nat):MulB (List.replicate n 0) 0 0:=fun p z d=>by
 have:=(List.mem_replicate.1 (lM d)).2;omega
theorem MulB.step {os:List Int} {i k:Nat} {z y:Int} (h:MulB os i k) (f:os[i+k]?=Y z) (j:0≤y) (l:y≤100000000):MulB (os.set (i+k) (z+y)) i (k+1):=by
 intro p u d
 by_cases e:i+k=p
 ·subst e
  rw [List.getElem?_set_self (lS.1 f).1]at d
  cases d
  have:=h _ _ f;exact⟨by omega,by omega,fun h=>by omega⟩
 ·rw [List.getElem?_set_ne e]at d
  have:=h p u d;exact⟨this.1,this.2.1,fun q=>this.2.2 oM⟩
theorem MulB.next {os:List Int} {i k:Nat} (h:MulB os i k):MulB os (i+1) 0:=by
 intro p u d;have:=h p u d;omega
theorem MulB.big {os:List Int} {i k:Nat} (h:MulB os i k) (f:i≤900000):∀x∈os,-100000000000000≤x∧x≤100000000000000:=by
 intro x e;obtain⟨p,d,rfl⟩:=List.getElem_of_mem e;have:=h p _ (gE d);omega
theorem mul4 {x y:Int} (e:0≤x∧x<C4) (d:0≤y∧y<C4):0≤x*y∧x*y≤100000000:=by
 unfold C4 at *;have f:=Int.mul_nonneg e.1 d.1;have h:x*y≤9999*9999:=Int.mul_le_mul oM oM d.1 oM;omega
theorem zlX (n m:Int):n.sign*m.sign=(n*m).sign:=by rw [Int.sign_mul]
theorem zhI (n:Int):n.sign*(n.natAbs:Int)=n:=Int.sign_mul_natAbs n
theorem zmS (n m:Int) (h:(m.natAbs:Int)≤n.natAbs):0≤(n.natAbs:Int)+n.sign*m.sign*(m.natAbs:Int)∧n.sign*((n.natAbs:Int)+n.sign*m.sign*(m.natAbs:Int))=n+m:=by
 rcases zai n with ⟨e,f⟩|⟨e,f⟩|⟨e,f⟩<;>rcases zai m with ⟨d,i⟩|⟨d,i⟩|⟨d,i⟩<;>rw [e,d]<;>omega
theorem zlS {xs d:List Int} {i:Nat} {a q D R:Int} (e:xs[i]?=Y a) (f:d[i]?=Y q) (h:dv C4 (xs.drop (i+1))=dv C4 (d.drop (i+1))*D+R) :
  dv C4 (xs.drop i)=dv C4 (d.drop i)*D+(a+C4*R-q*D):=by
 have j:=(lS.1 e).1;have b':=(lS.1 f).1;rw [List.drop_eq_getElem_cons j,List.drop_eq_getElem_cons b',(lS.1 e).2,(lS.1 f).2,zbh,zbh,h]
 grind
theorem zkr {n d Q R N:Int} (K:d≠0) (h:(n.natAbs:Int)=Q*(d.natAbs:Int)+R) (u:0≤R) (x:R<(d.natAbs:Int)) :
  (¬(n<0∧R≠0)→N=n.sign*Q→(if d<0 then -N else N)=n / d∧R=n % d)∧((n<0∧R≠0)→N=n.sign*Q-1→(if d<0 then -N else N)=n / d∧(d.natAbs:Int)-R=n % d):=by
 have key:∀A r:Int,n=A*d+r→0≤r→r<(d.natAbs:Int)→A=n / d∧r=n % d:=by
  intro A r e z r1
  rcases Int.lt_or_gt_of_ne K with l | l
  ·have:=Int.ediv_emod_unique (a:=n) (b:=-d) (r:=r) (q:=-A) oM
   have f:=this.2 ⟨by rw [e];grind,z,by omega⟩;rw [Int.ediv_neg,Int.emod_neg]at f;exact⟨by omega,f.2.symm⟩
  ·have:=Int.ediv_emod_unique (a:=n) (b:=d) (r:=r) (q:=A) l
   have f:=this.2 ⟨by rw [e];grind,z,by omega⟩;exact⟨f.1.symm,f.2.symm⟩
 have j:(d.natAbs:Int)=if d<0 then -d else d:=by split<;>omega
 refine⟨fun t p=>key _ _ ?_ u x,fun t p=>key _ _ ?_ oM oM⟩
 ·subst p
  rw [j]at h
  rcases zai n with ⟨e,f⟩|⟨e,f⟩|⟨e,f⟩
  ·have i:R=0:=by
    by_cases i:R=0
    ·exact i
    ·exact absurd ⟨f,i⟩ t
   subst i;rw [e]
   split at h<;>rename_i hd9<;>simp only [hd9,if_true,if_false]<;>grind
  ·subst f
   have i:R=0:=by
    have hp:(0:Int)<if d<0 then -d else d:=by split<;>omega
    have S:Q*(if d<0 then -d else d) = -R:=oM
    have L:(-R) % (if d<0 then -d else d)=0:=by rw [←S];exact Int.mul_emod_left ..
    have y:R % (if d<0 then -d else d)=0:=by
     have:=Int.emod_eq_zero_of_dvd ((Int.dvd_neg).1 (Int.dvd_of_emod_eq_zero L));exact this
    rw [Int.emod_eq_of_lt u (by rw [←j];exact x)]at y;exact y
   have D:Q=0:=by
    subst i;have:Q*(if d<0 then -d else d)=0:=oM
    rcases Int.mul_eq_zero.1 this with h|h
    ·exact h
    ·split at h<;>omega
   subst i D;simp
  ·rw [e]
   split at h<;>rename_i hd9<;>simp only [hd9,if_true,if_false]<;>grind
 ·subst p
  obtain⟨f,h3⟩:=t;rw [Int.sign_eq_neg_one_of_neg f];rw [j]at h ⊢
  split at h<;>rename_i hd9<;>simp only [hd9,if_true,if_false]<;>grind
end
section
open Go.RowKit Go.Shelf
def RB (W:J) (b:Nat) (q:Rat):Prop:=∃a m c s a2 m2 c2,W.heap[b]?=Y (.cells #[O a m c,X s,O a2 m2 c2] 63 (0,0))∧IsR W (M #[O a m c,X s,O a2 m2 c2]) q
theorem zfm {W:J} {g:Nat} {x y z:I} {T:TypeId} {d:Nat×Nat} (h:W.heap[g]?=Y (.cells #[x,y,z] T d)) (u v t:I) :
  (((W.setCell ⟨g,0,Z⟩ u).setCell ⟨g,1,Z⟩ v).setCell ⟨g,2,Z⟩ t).heap[g]?=Y (.cells #[u,v,t] T d):=by
 simp [World.setCell,Array.getElem?_modify,h]
section
variable {W W':J} {b b':Nat} {n n':Rat}
theorem RB.ext (h:RB W b n) (k:Ext W W'):RB W' b n:=by
 obtain⟨a,m,c,s,d,j,e,f,i⟩:=h;exact⟨a,m,c,s,d,j,e,k.heapS f,i.ext k⟩
theorem RB.not (h:RB W b n):NoT 2 W b:=by
 obtain⟨a,m,c,s,f,p,i,d,l⟩:=h;intro cs j e;rw [d]at e;cases e
theorem RB.rd (h:RB W b n):∃a m c s a2 m2 c2,W.cell? ⟨b,0,Z⟩=Y (O a m c)∧W.cell? ⟨b,1,Z⟩=Y (X s)∧W.cell? ⟨b,2,Z⟩=Y (O a2 m2 c2)∧W.frozen? ⟨b,0,Z⟩=false∧W.frozen? ⟨b,1,Z⟩=false∧W.frozen? ⟨b,2,Z⟩=false∧b<W.heap.size∧IsR W (M #[O a m c,X s,O a2 m2 c2]) n:=by
 obtain⟨a,m,c,s,a2,m2,c2,d,e⟩:=h;exact⟨a,m,c,s,a2,m2,c2,qcB d (i:=0) rfl,qcB d (i:=1) rfl,qcB d (i:=2) rfl,qfB d 0,qfB d 1,qfB d 2,zaa d,e⟩
theorem RB.put {a d:Option H} {m c f c2:Nat} {s:Bool} (h:RB W b n) (j:IsR W (M #[O a m c,X s,O d f c2]) n'):RB (((W.setCell ⟨b,0,Z⟩ (O a m c)).setCell ⟨b,1,Z⟩ (X s)).setCell ⟨b,2,Z⟩ (O d f c2)) b n':=by
 have e:=h.not;obtain⟨l,u,q,y,p,x,r,i,t⟩:=h;exact⟨a,m,c,s,d,f,c2,zfm i _ _ _,j.keep ((((KeepT.refl _ W).setN e _).setN (e.set _ _) _).setN ((e.set _ _).set _ _) _)⟩
theorem RB.other {p:H} (h:RB W b n) (l:p.block≠b) (q:NoT 2 W p.block) (u:I):RB (W.setCell p u) b n:=by
 obtain⟨a,m,c,s,d,r,f,i,j⟩:=h;exact⟨a,m,c,s,d,r,f,(bS _ _ _ _ (fun e=>l e.symm)).trans i,j.keep ((KeepT.refl _ W).setN q _)⟩
theorem RB.new {W0:J} {a d:Option H} {m c e c2:Nat} {s:Bool} (h:IsR W0 (M #[O a m c,X s,O d e c2]) n) (f:b=W0.heap.size):RB (W0.alloc (.cells #[O a m c,X s,O d e c2] 63)) b n:=
 ⟨a,m,c,s,d,e,c2,qhA _ _ _ f,h.ext ((eR _).alloc _)⟩
end
theorem za8 (w:J) (n:Int) (r : -9223372036854775808≤n) (t:n≤9223372036854775807):Calls Tryz.prog 85 #[F C n] w (RetR w (n:Rat)):=by
 go_enter Tryz.func85,Tryz.ntmps85
 go_wp2_with(((go_at_call 154;(with_reducible refine(znS _ n r t).mono ?_);rintro e K ⟨D,rfl,d,h⟩;obtain⟨j,x,p,z,l,y,q,rfl⟩:=d.form;obtain⟨⟨f,u⟩,i⟩:=cK1 w h)))
 exact bR (v:=M #[O j x p,X z,O l y q]) (by simp [results,Tryz.results85,go_sem,f]) rfl ⟨_,rfl,d.keep kA,eA⟩
theorem zfV (w:J) (va vb:I) (p q:Rat) (ha:IsR w va p) (hb:IsR w vb q) (d:Rb limR p) (f:Rb limR q) :
  Calls Tryz.prog 155 #[va,vb] w (RetR w (p / q)):=by
 obtain⟨a,m,c,s,a2,m2,c2,rfl⟩:=ha.form;obtain⟨a',m',c',s',z,Q,D,rfl⟩:=hb.form;have u:=hd9 d;have x:=hd9 f;clear d f;obtain⟨S,h⟩:∃S:Int,S=if (p.den:Int)*q.num=0 then 9 else 0:=⟨_,rfl⟩
 have y:=hd9 h;clear h;go_enter Tryz.func155,Tryz.ntmps155
 go_wp2_with(((go_at_call 201;(with_reducible refine(zlT _ (M #[O a m c,X s,O a2 m2 c2]) (M #[O a' m' c',X s',O z Q D]) p q ?_ ?_ u.out x.out).mono ?_);(refine ha.ext ?_;exact eA);(refine hb.ext ?_;exact eA);rw [←y.out];rintro e R ⟨r1,rfl,i,L⟩;obtain⟨b1,n1,k1,t1,b2,n2,k2,rfl⟩:=i.form;obtain⟨⟨K,ac⟩,aa,ab,j⟩:=cK3 w L;have l:w.heap.size<R.heap.size+1:=oM;have r:w.heap.size+1<R.heap.size+1:=oM;have t:w.heap.size+1+1<R.heap.size+1:=oM)))
 exact bR (v:=M #[O b1 n1 k1,X t1,O b2 n2 k2]) (by simp [results,Tryz.results155,go_sem,K,j]) rfl ⟨_,rfl,i.keep kA,eA⟩
theorem zbi {k:Nat}:∀{cs:List (List I)} {i j:Nat} {c:List I},(∀c∈cs,c.length=k)→cs[i]?=Y c→j<k→cs.flatten[i*k+j]?=c[j]?
 | [],i,j,c,_,h,_=>by simp at h
 | d::cs,0,j,c,hk,h,hj=>by
  simp at h;subst h;rw [List.flatten_cons,Nat.zero_mul,Nat.zero_add,List.getElem?_append_left (by rw [hk d (by simp)];exact hj)]
 | d::cs,i+1,j,c,hk,h,hj=>by
  have e:=hk d sM;rw [List.flatten_cons,List.getElem?_append_right (by rw [e,Nat.add_mul];omega),e,show (i+1)*k+j-k=i*k+j by rw [Nat.add_mul];omega];exact zbi (fun c f=>hk c (mC _ f)) (by simpa using h) hj
def Sl {α:Type} (T:TypeId) (k:Nat) (P:J→List I→α→Prop) (w:J) (v:I) (xs:List α):Prop:=
 ∃cs:List (List I),cs.length=xs.length∧(∀c∈cs,c.length=k)∧Rd w T k v xs.length cs.flatten∧∀(i:Nat) c x,cs[i]?=Y c→xs[i]?=Y x→P w c x
section
variable {α:Type} {T:TypeId} {k:Nat} {P:J→List I→α→Prop} {w w':J} {v:I} {xs:List α} {a:Option H} {n c:Nat}
theorem Sl.form (h:Sl T k P w v xs):∃a c,v=O a xs.length c:=by
 obtain⟨cs,_,_,h,_⟩:=h;exact h.form
theorem Sl.len (h:Sl T k P w (O a n c) xs):n=xs.length:=by
 obtain⟨cs,_,_,h,_⟩:=h;exact h.eqn
theorem Sl.le (h:Sl T k P w (O a n c) xs):xs.length≤c∧c≤maxLen:=by
 obtain⟨cs,_,_,h,_⟩:=h;exact h.le
theorem Sl.ext (h:Sl T k P w v xs) (l:∀c x,P w c x→P w' c x) (q:Ext w w'):Sl T k P w' v xs:=by
 obtain⟨cs,d,e,f,j⟩:=h;exact⟨cs,d,e,f.ext q,fun i c x p r=>l _ _ (j i c x p r)⟩
theorem Sl.keep (h:Sl T k P w v xs) (l:∀c x,P w c x→P w' c x) (q:KeepT T w w'):Sl T k P w' v xs:=by
 obtain⟨cs,d,e,f,j⟩:=h;exact⟨cs,d,e,f.keep q,fun i c x p r=>l _ _ (j i c x p r)⟩
theorem Sl.at (h:Sl T k P w (O a n c) xs) {i:Nat} {x:α} (r:xs[i]?=Y x) :
  ∃b o d,a=Y ⟨b,o,Z⟩∧b<w.heap.size∧d.length=k∧P w d x∧∀(j:Nat) u,d[j]?=Y u→w.cell? ⟨b,o+i*k+j,Z⟩=Y u:=by
 obtain⟨cs,t,p,y,z⟩:=h;have L:=(lS.1 r).1;obtain⟨d,f⟩:∃d,cs[i]?=Y d:=⟨cs[i]' oM,by simp [t,L]⟩;obtain⟨b,o,rfl,D,_,K⟩:=y.open oM;have e:=p d (lM f);refine⟨b,o,d,rfl,D,e,z i d x f r,fun j u q=>?_⟩;have l:j<k:=by rw [←e];exact(lS.1 q).1
 have:=K (i*k+j) u (by rw [zbi p f l];exact q)
 rwa [←Nat.add_assoc]at this
end
def PR (w:J) (c:List I) (q:Rat):Prop:=IsR w (M c.toArray) q
abbrev IsRs (w:J) (v:I) (qs:List Rat):Prop:=Sl 63 3 PR w v qs
theorem IsRs.ext' {w w':J} {v:I} {d:List Rat} (h:IsRs w v d) (k:Ext w w'):IsRs w' v d:=Sl.ext h (fun _ _ h=>IsR.ext h k) k
theorem IsRs.at' {w:J} {a:Option H} {n c:Nat} {l:List Rat} (h:IsRs w (O a n c) l) {i:Nat} {q:Rat} (u:l[i]?=Y q) :
  ∃b o a1 m1 c1 s1 a2 m2 c2,a=Y ⟨b,o,Z⟩∧b<w.heap.size∧IsR w (M #[O a1 m1 c1,X s1,O a2 m2 c2]) q ∧
   w.cell? ⟨b,o+i*3,Z⟩=Y (O a1 m1 c1)∧w.cell? ⟨b,o+i*3+1,Z⟩=Y (X s1)∧w.cell? ⟨b,o+i*3+2,Z⟩=Y (O a2 m2 c2):=by
 obtain⟨b,o,d,rfl,t,x,r,j⟩:=Sl.at h u;have f:IsR w (M d.toArray) q:=r;obtain⟨a1,m1,c1,s1,a2,m2,c2,e⟩:=f.form
 have p:d=[O a1 m1 c1,X s1,O a2 m2 c2]:=by
  have:d.toArray=#[O a1 m1 c1,X s1,O a2 m2 c2]:=by cases e;rfl
  simpa using congrArg Array.toList this
 subst p;exact⟨b,o,a1,m1,c1,s1,a2,m2,c2,rfl,t,f,j 0 _ rfl,j 1 _ rfl,j 2 _ rfl⟩
end
section
open Go.RowKit Go.Shelf
def IsN (w:J) (v:I) (n:Int):Prop:=∃sl ds,v=M #[F C n.sign,sl]∧Ints 3 w sl ds∧Can C4 ds∧dv C4 ds=(n.natAbs:Int)
section
variable {w w':J} {v:I} {n:Int} {s:Int} {a:Option H} {m c:Nat}
theorem IsN.ext (h:IsN w v n) (k:Ext w w'):IsN w' v n:=by
 obtain⟨sl,ds,d,e,f,i⟩:=h;exact⟨sl,ds,d,e.ext k,f,i⟩
theorem IsN.keep (h:IsN w v n) (k:KeepT 3 w w'):IsN w' v n:=by
 obtain⟨sl,ds,d,e,f,i⟩:=h;exact⟨sl,ds,d,e.keep k,f,i⟩
theorem IsN.form (h:IsN w v n):∃a m c,v=M #[F C n.sign,O a m c]:=by
 obtain⟨sl,ds,rfl,d,e,f⟩:=h;obtain⟨a,c,rfl⟩:=d.form;exact⟨_,_,_,rfl⟩
theorem IsN.form2 (h:IsN w v n):∃s a m c,v=M #[F C s,O a m c]∧s=n.sign:=by
 obtain⟨a,m,c,rfl⟩:=h.form;exact⟨_,_,_,_,rfl,rfl⟩
theorem IsN.sgn (h:IsN w (M #[F C s,O a m c]) n):s=n.sign:=by
 obtain⟨sl,ds,d,e,f,i⟩:=h;cases d;rfl
theorem IsN.open (h:IsN w (M #[F C s,O a m c]) n):∃ds,ds.length=m∧Ints 3 w (O a m c) ds∧Can C4 ds∧dv C4 ds=(n.natAbs:Int):=by
 obtain⟨sl,ds,e,d,f,i⟩:=h
 cases e
 exact⟨ds,d.len.symm,d,f,i⟩
theorem IsN.nil (w:J):IsN w (M #[F C 0,O Z 0 0]) 0:=⟨_,[],rfl,Ints.nil _ _,Can.nil _,rfl⟩
end
def RetN (w:J) (n:Int) (e:Ending) (w':J):Prop:=∃r,e = .returned r∧IsN w' r n∧Ext w w'
def OwnN (w:J) (base:Nat) (v:I) (n:Int):Prop:=∃sl ds,v=M #[F C n.sign,sl]∧Own 3 w base sl ds∧Can C4 ds∧dv C4 ds=(n.natAbs:Int)
section
variable {w w':J} {v:I} {n:Int} {base:Nat}
theorem OwnN.isN (h:OwnN w base v n):IsN w v n:=by obtain⟨sl,ds,d,e,f,i⟩:=h;exact⟨sl,ds,d,e.ints,f,i⟩
theorem OwnN.keep (h:OwnN w base v n) (k:KeepT 3 w w'):OwnN w' base v n:=by obtain⟨sl,ds,d,e,f,i⟩:=h;exact⟨sl,ds,d,e.keep k,f,i⟩
theorem OwnN.ext (h:OwnN w base v n) (k:Ext w w'):OwnN w' base v n:=h.keep k.keep
theorem OwnN.mono {b':Nat} (h:OwnN w base v n) (j:b'≤base):OwnN w b' v n:=by obtain⟨sl,ds,d,e,f,i⟩:=h;exact⟨sl,ds,d,e.mono j,f,i⟩
theorem OwnN.form2 (h:OwnN w base v n):∃s a m c,v=M #[F C s,O a m c]∧s=n.sign:=h.isN.form2
theorem OwnN.nil (w:J) (base:Nat):OwnN w base (M #[F C 0,O Z 0 0]) 0:=⟨_,[],rfl,Own.nil _ _ _,Can.nil _,rfl⟩
end
def RetNo (w:J) (n:Int) (e:Ending) (w':J):Prop:=∃r,e = .returned r∧OwnN w' w.heap.size r n∧Ext w w'
theorem znQ {f:FuncId} {args:Array I} {w:J} {n:Int} (h:Calls Tryz.prog f args w (RetNo w n)):Calls Tryz.prog f args w (RetN w n):=
 h.mono fun _ _ ⟨r,d,e,i⟩=>⟨r,d,e.isN,i⟩
theorem zaV:(Tryz.prog.info? 3).map (fun i=>(i.zero,i.size,i.bytes))=Y (Y (F C 0),1,8):=kM
theorem zpj {s D N:Int} (f:s=1∨s = -1) (d:0<D) (e:N=s*D):N.sign=s∧(N.natAbs:Int)=D:=by
 subst e
 rcases f with rfl|rfl
 ·rw [Int.one_mul,Int.sign_eq_one_of_pos d];omega
 ·rw [Int.neg_one_mul,Int.sign_eq_neg_one_of_neg oM];omega
def MdA (xs:List Int) (n:Nat) (w:J) (t5 f h:I) (wr:J):Prop:=
 ∃(i:Nat) (e:List Int) (d:Int),h=F C i∧f=F C d∧e.length=i∧Dig C4 e∧dv C4 (xs.take i)=dv C4 e+C4 ^ i*d ∧ -100000000000≤d∧d+((i-n:Nat):Int)≤100000000000 ∧
  Own 3 wr (w.heap.size+1) t5 e∧Ext w wr∧w.heap.size<wr.heap.size∧wr.heap[w.heap.size]?=Y (.cells #[F C 0,O Z 0 0] 66 (0,0))
def MdC (D:Int) (w:J) (t5:I) (wr:J):Prop:=
 ∃(d:List Int),dv C4 d=D∧Dig C4 d∧d.length≤1000000000000∧Own 3 wr (w.heap.size+1) t5 d∧Ext w wr∧w.heap.size<wr.heap.size∧wr.heap[w.heap.size]?=Y (.cells #[F C 0,O Z 0 0] 66 (0,0))
theorem zj0 {xs e:List Int} {i:Nat} {x d r q:Int} (f:e.length=i) (p:xs[i]?=Y x) (h:dv C4 (xs.take i)=dv C4 e+C4 ^ i*d) (l:r=(d+x) % 10000) (j:q=(d+x) / 10000) :
  dv C4 (xs.take (i+1))=dv C4 (e++[r])+C4 ^ (i+1)*q:=by subst l j;exact zm3 e xs i x d f p h
theorem znz {xs e:List Int} {i:Nat} {d r q:Int} (f:e.length=i) (p:xs.length≤i) (h:dv C4 (xs.take i)=dv C4 e+C4 ^ i*d) (l:r=d % 10000) (j:q=d / 10000) :
  dv C4 (xs.take (i+1))=dv C4 (e++[r])+C4 ^ (i+1)*q:=by
 subst l j;rw [lT oM]at h ⊢;exact ziW xs e i d f h
theorem zoG {xs e:List Int} {i:Nat} {d:Int} (p:e.length=i) (q:xs.length≤i) (l:Dig C4 e) (h:dv C4 (xs.take i)=dv C4 e+C4 ^ i*d) (t:0≤dv C4 xs):0≤d:=by
 rw [lT q]at h;have f:=(zak zbm l).2;rw [p]at f;have r:=zaq zbm i
 by_cases j:0≤d
 ·exact j
 ·have:C4 ^ i*d≤C4 ^ i*(-1):=Int.mul_le_mul_of_nonneg_left oM oM
  omega
theorem zgv (w:J) (s:Int) (v:I) (xs:List Int) (N:Int) (hI:Ints 3 w v xs) (ap:xs.length≤2000000) (hx:∀x∈xs,-100000000000000≤x∧x≤100000000000000)
  (ae:0≤dv C4 xs) (hN:N=s*dv C4 xs) (hs:dv C4 xs≠0→s=1∨s = -1) :
  Calls Tryz.prog 152 #[F C s,v] w (RetNo w N):=by
 obtain⟨a,c,rfl⟩:=hI.form;obtain⟨n,hn⟩:=gX xs.length;rw [hn]at ap ⊢;have Hn:=hd9 hn;have HI:=hd9 hI;have HN:=hd9 hN;have Hs:=hd9 hs;have ak:=hd9 ae;clear hn hI hN hs ae;go_enter Tryz.func152,Tryz.ntmps152;go_wp2
 go_loopw [5,6,7] (MdA xs n w) (fun _ t6 t7 _=>(n-(intOf t7).toNat)*1000000000000+(intOf t6+100000000000).toNat)
 case atStart=>exact⟨0,[],0,rfl,rfl,rfl,Dig.nil _,by simp,by omega,by omega,Own.nil _ _ _,(eR w).alloc _,by simp,aN w _⟩
 case round =>
  obtain⟨i,ys,Q,rfl,rfl,aw,L,hv,aB,aC,t,K,aq,af⟩:=hrel;have j:=hd9 aw;have Hv:=hd9 hv;have y:=hd9 af;clear aw hv af;obtain⟨oa,oc,rfl⟩:=t.form;rw [j.out]at t ⊢
  by_cases ai:i<n
  ·have ax:ys.length≤1000000000000:=by rw [j.out];omega
   obtain⟨b,o,rfl,aI,an⟩:=(HI.out.ext K).open (by rw [Hn.out];omega);obtain⟨x,ac⟩:∃x,xs[i]?=Y x:=⟨xs[i]'(by rw [Hn.out];exact ai),by simp [Hn.out,ai]⟩;have ah:=an i x ac;have aL:=hx x (lM ac);have am:=hd9 ac;have Hx:=hd9 hx;clear ac an hx;have g1:(i:Int)<(n:Int):=oM
   have g2:(0:Int)≤(i:Int):=oM
   obtain⟨r,hr⟩:=gX (Int.tmod (Q+x) 10000);obtain⟨q,hq⟩:=gX (Int.tdiv (Q+x) 10000)
   by_cases S:r<0
   ·obtain⟨e1,e2⟩:=zoS (x:=Q+x) (by rw [hr];exact S)
    rw [hr]at e1;rw [hq]at e2;have E1:=hd9 e1;have E2:=hd9 e2;have r1 : -10000≤r:=oM
    have q1 : -100000000000≤q-1:=oM
    have q2:q-1≤99999999999:=oM
    clear e1 e2
    go_wp2_with(at_builtin;refine app1 zaV Tryz.underlying64 rfl _ _ rfl rfl t rfl oM oM ?_;intro v' w1 d f l)
    go_roundw
    case rel =>
     refine⟨i+1,_,_,by go_num,rfl,by simp [j.out],L.snoc oM (by unfold C4;omega),zj0 j.out am.out Hv.out E1.out E2.out,by omega,by omega,d,K.thenB f oM,?_,?_⟩
     ·have:=f.size;omega
     ·exact l.get y.out dM
    case measure=>simp [intOf];omega
   ·obtain⟨e1,e2⟩:=zoT (x:=Q+x) (by rw [hr];exact S)
    rw [hr]at e1;rw [hq]at e2;have E1:=hd9 e1;have E2:=hd9 e2;have r1:0≤r:=oM
    have r2:r<10000:=oM
    have q1 : -100000000000≤q:=oM
    have q2:q≤99999999999:=oM
    clear e1 e2
    go_wp2_with(at_builtin;refine app1 zaV Tryz.underlying64 rfl _ _ rfl rfl t rfl oM oM ?_;intro v' w1 d f l)
    go_roundw
    case rel =>
     refine⟨i+1,_,_,by go_num,rfl,by simp [j.out],L.snoc oM (by unfold C4;omega),zj0 j.out am.out Hv.out E1.out E2.out,by omega,by omega,d,K.thenB f oM,?_,?_⟩
     ·have:=f.size;omega
     ·exact l.get y.out dM
    case measure=>simp [intOf];omega
  ·have aD:=zoG j.out (by rw [Hn.out];omega) L Hv.out ak.out
   by_cases aa:Q=0
   ·have au:dv C4 ys=dv C4 xs:=by
     have:=Hv.out;rw [aa,lT (by rw [Hn.out];omega)]at this;rw [this];simp
    have al:=hd9 au;subst aa;clear au aD aB Hv;have ag:i≤1000000000000:=oM
    have g1:¬(i:Int)<(n:Int):=oM
    go_wp2
    go_loopw [5] (MdC (dv C4 xs) w) (fun t5 _=>match t5 with | O _ n _=>n|_=>0)
    case atStart=>exact⟨ys,al.out,L,by rw [j.out];exact ag,t,K,aq,y.out⟩
    case round =>
     clear t K aq y al j ag aC L g1 ai;obtain⟨us,av,aj,aF,d,aG,ar,h⟩:=hrel;obtain⟨a3,c3,rfl⟩:=d.form;have ay:=qcB h (i:=0) (u:=F C 0) rfl;have az:=qcB h (i:=1) (u:=O Z 0 0) rfl;have aO:=qfB h 0;have aP:=qfB h 1;have z:=hd9 h;have R:=hd9 av;clear h av
     rcases zeP us with rfl|⟨D,x,rfl⟩
     ·have hd:decide ((0:Int)<(([]:List Int).length:Int))=false:=sM
      go_wp2;refine bR (v:=M #[F C 0,O Z 0 0]) (by simp [results,Tryz.results152,go_sem,ay,az]) rfl ⟨_,rfl,?_,eA⟩;have e:N=0:=by rw [HN.out,←R.out];simp
      rw [e];exact OwnN.nil _ _
     ·obtain⟨g,rfl,hg,aJ⟩:=d.blk sM
      have ah:wr.cell? ⟨g,D.length,Z⟩=Y (F C x):=d.cell sM;have ao:=d.ints.le;simp only [lA,List.length_singleton]at d ao aF ⊢;unfold maxLen at ao
      by_cases ab:x=0
      ·subst ab
       go_wp2
       go_roundw
       case rel =>
        refine⟨D,?_,(Dig.of_append aj).1,by omega,d.pop,aG,ar,z.out⟩;have:=R.out;rw [zbt]at this;omega
       case measure=>simp
      ·have aK:(x==0)=false:=by simpa using ab
       have aA:=hd9 ab;clear ab;have ad:Can C4 (D++[x]):=⟨aj,by simpa using aA.out⟩
       have hD:0<dv C4 (D++[x]):=by
        have h1:=(zak zbm aj).1;have h2:dv C4 (D++[x])≠0:=fun e=>by have:=(zgY zbm ad).1 e;simp at this
        omega
       obtain⟨n1,n2⟩:=zpj (Hs.out (by rw [←R.out];omega)) (by rw [←R.out];exact hD) HN.out;have N1:=hd9 n1;have N2:=hd9 n2;clear n1 n2 hD;go_wp2;refine bR (v:=M #[F C s,O (Y ⟨g,0,Z⟩) (D.length+1) c3]) (by simp [results,Tryz.results152,go_sem,ay,az]) rfl ⟨_,rfl,⟨_,D++[x],(by rw [N1.out]),?_,ad,R.out.trans N2.out.symm⟩,eA⟩;refine((d.setOther (p:=⟨w.heap.size,0,Z⟩) (d.ne_block z.out dM) _).setOther (p:=⟨w.heap.size,1,Z⟩) (d.ne_block z.out dM) _).mono (Nat.le_succ _)
   ·have aM:0<Q:=oM
    have aE:xs.length≤i:=by rw [Hn.out];omega
    have ax:ys.length≤1000000000000:=by rw [j.out];omega
    have aH:(Q != 0)=true:=by simpa using aa
    have g1:¬(i:Int)<(n:Int):=oM
    obtain⟨r,hr⟩:=gX (Int.tmod Q 10000);obtain⟨q,hq⟩:=gX (Int.tdiv Q 10000);have e1:r=Q % 10000:=by rw [←hr,Int.tmod_eq_emod_of_nonneg oM]
    have e2:q=Q / 10000:=by rw [←hq,Int.tdiv_eq_ediv_of_nonneg oM]
    have r1:0≤r:=oM
    have r2:r<10000:=oM
    have q1:0≤q:=oM
    have q2:q<Q:=oM
    have S:¬r<0:=oM
    have E1:=hd9 e1;have E2:=hd9 e2;clear e1 e2 aa
    go_wp2_with(at_builtin;refine app1 zaV Tryz.underlying64 rfl _ _ rfl rfl t rfl oM oM ?_;intro v' w1 d f l)
    go_roundw
    case rel =>
     refine⟨i+1,_,_,by go_num,rfl,by simp [j.out],L.snoc oM (by unfold C4;omega),znz j.out aE Hv.out E1.out E2.out,by omega,by omega,d,K.thenB f oM,?_,?_⟩
     ·have:=f.size;omega
     ·exact l.get y.out dM
    case measure=>simp [intOf];omega
theorem zbR (w:J) (s:Int) (v:I) (xs:List Int) (N:Int) (f:Ints 3 w v xs) (d:xs.length≤2000000) (j:∀x∈xs,-100000000000000≤x∧x≤100000000000000)
  (e:0≤dv C4 xs) (h:N=s*dv C4 xs) (i:dv C4 xs≠0→s=1∨s = -1) :
  Calls Tryz.prog 152 #[F C s,v] w (RetN w N):=znQ (zgv w s v xs N f d j e h i)
end
section
open Go.RowKit Go.Shelf
def OwnC (T:TypeId) (k:Nat) (w:J) (base:Nat) (v:I) (cs:List (List I)):Prop:=(∀c∈cs,c.length=k)∧w.ownsRow base T k v cs.length cs.flatten
theorem zat {k:Nat}:∀{cs:List (List I)},(∀c∈cs,c.length=k)→cs.flatten.length=cs.length*k
 | [],_=>by simp
 | d::cs,h=>by
  rw [List.flatten_cons,lA,zat (fun c e=>h c (mC _ e)),h d (by simp),List.length_cons,Nat.add_mul];omega
theorem za7 {k:Nat}:∀{cs:List (List I)} (m:Nat),(∀c∈cs,c.length=k)→m≤cs.length→cs.flatten.take (m*k)=(cs.take m).flatten
 | _,0,_,_=>by simp
 | [],m+1,_,h=>by simp at h
 | d::cs,m+1,h,hm=>by
  have e:=h d sM
  rw [List.flatten_cons,List.take_append,e,lT (by rw [e,Nat.add_mul];omega),show (m+1)*k-k=m*k by rw [Nat.add_mul];omega,
   za7 m (fun c f=>h c (mC _ f)) (by simpa using hm),List.take_succ_cons,List.flatten_cons]
section
variable {T:TypeId} {k:Nat} {w w':J} {base:Nat} {v:I} {cs ds:List (List I)} {a:Option H} {n c g:Nat}
theorem OwnC.rd (h:OwnC T k w base v cs):Rd w T k v cs.length cs.flatten:=Rd.of_own h.2
theorem OwnC.sl {α:Type} {P:J→List I→α→Prop} {xs:List α} (h:OwnC T k w base v cs) (d:cs.length=xs.length) (e:∀(i:Nat) c x,cs[i]?=Y c→xs[i]?=Y x→P w c x):Sl T k P w v xs:=
 ⟨cs,d,h.1,by rw [←d];exact h.rd,e⟩
theorem OwnC.nil (T:TypeId) (k:Nat) (w:J) (base:Nat):OwnC T k w base (O Z 0 0) []:=⟨by simp,World.ownsRow_nil w base T k⟩
theorem OwnC.form (h:OwnC T k w base v cs):∃a c,v=O a cs.length c:=zcT h.2
theorem OwnC.form3 (h:OwnC T k w base v cs):∃a n c,v=O a n c:=by obtain⟨a,c,h⟩:=zcT h.2;exact⟨a,_,c,h⟩
theorem OwnC.len (h:OwnC T k w base (O a n c) cs):n=cs.length:=by obtain⟨a,e,d⟩:=zcT h.2;cases d;rfl
theorem OwnC.keep (h:OwnC T k w base v cs) (j:KeepT T w w'):OwnC T k w' base v cs:=by
 obtain⟨e,l,d⟩:=h;refine⟨e,l,?_⟩
 rcases d with d|⟨g,cap,cur,hv,f,i,r⟩
 ·exact .inl d
 ·exact .inr ⟨g,cap,cur,hv,f,j _ _ _ i,r⟩
theorem OwnC.ext (h:OwnC T k w base v cs) (d:Ext w w'):OwnC T k w' base v cs:=h.keep d.keep
theorem OwnC.grown (h:OwnC T k w base v cs) {row:Option Nat} (e:w.grownBy w' row) (d:v.ownBlock=Z∨v.ownBlock≠row):OwnC T k w' base v cs:=⟨h.1,World.ownsRow.kept h.2 e d⟩
theorem OwnC.setOther (h:OwnC T k w base v cs) {p:H} (f:v.ownBlock≠Y p.block) (u:I):OwnC T k (w.setCell p u) base v cs:=
 h.grown (row:=Y p.block) ⟨rfl,rfl,rfl,by simp [World.setCell],fun k _ d=>bS _ _ _ _ (by intro e;exact d (by rw [e]))⟩ (.inr f)
theorem OwnC.mono {b':Nat} (h:OwnC T k w base v cs) (i:b'≤base):OwnC T k w b' v cs:=by
 obtain⟨e,f,d⟩:=h;refine⟨e,f,?_⟩
 rcases d with d|⟨g,cap,cur,hv,j,r⟩
 ·exact .inl d
 ·exact .inr ⟨g,cap,cur,hv,by omega,r⟩
theorem OwnC.blk (h:OwnC T k w base (O a n c) cs) (f:0<cs.length):∃g,a=Y ⟨g,0,Z⟩∧base≤g∧g<w.heap.size:=by
 have d:=h.len;subst d;obtain⟨g,rfl,e⟩:=zhu h.2 f;exact⟨g,rfl,e,(World.ownsRow.lt h.2 g rfl).2⟩
theorem OwnC.cell (h:OwnC T k w base (O (Y ⟨g,0,Z⟩) n c) cs) {i j:Nat} {d:List I} {u:I} (e:cs[i]?=Y d) (l:d[j]?=Y u):w.cell? ⟨g,i*k+j,Z⟩=Y u:=by
 have r:=h.len;subst r;have p:=(lS.1 e).1;have f:=h.1 d (lM e);have q:j<k:=by rw [←f];exact(lS.1 l).1
 rw [World.ownsRow.cellAt h.2 _ (by
  calc i*k+j<i*k+k:=oM
   _=(i+1)*k:=by rw [Nat.add_mul];omega
   _≤cs.length*k:=Nat.mul_le_mul_right _ p),zbi h.1 e q]
 exact l
theorem OwnC.frozen (h:OwnC T k w base (O (Y ⟨g,0,Z⟩) n c) cs) (i:Nat):w.frozen? ⟨g,i,Z⟩=false:=by
 have d:=h.len;subst d;exact World.ownsRow.frozenAt h.2 i
theorem zdK {k:Nat}:∀{cs:List (List I)} {i j:Nat} {d:List I},(∀c∈cs,c.length=k)→cs[i]?=Y d→j<k→∀u,cs.flatten.set (i*k+j) u=(cs.set i (d.set j u)).flatten
 | [],i,j,d,_,h,_,_=>by simp at h
 | e::cs,0,j,d,hk,h,hj,u=>by
  simp at h;subst h;rw [List.flatten_cons,Nat.zero_mul,Nat.zero_add,List.set_append_left _ _ (by rw [hk e (by simp)];exact hj),List.set_cons_zero,List.flatten_cons]
 | e::cs,i+1,j,d,hk,h,hj,u=>by
  have f:=hk e sM
  rw [List.flatten_cons,List.set_append_right _ _ (by rw [f,Nat.add_mul];omega),f,show (i+1)*k+j-k=i*k+j by rw [Nat.add_mul];omega,
   zdK (fun c l=>hk c (mC _ l)) (by simpa using h) hj u,List.set_cons_succ,List.flatten_cons]
theorem OwnC.stored (h:OwnC T k w base (O (Y ⟨g,0,Z⟩) n c) cs) {i j:Nat} {d:List I} (p:cs[i]?=Y d) (r:j<k) (u:I) :
  OwnC T k (w.setCell ⟨g,i*k+j,Z⟩ u) base (O (Y ⟨g,0,Z⟩) n c) (cs.set i (d.set j u)):=by
 have t:=h.len;subst t;have l:=h.1 d (lM p);refine⟨?_,?_⟩
 ·intro e q
  rcases List.mem_or_eq_of_mem_set q with f|f
  ·exact h.1 e f
  ·subst f;simpa using l
 ·have:=(World.ownsRow.stored h.2 (i*k+j) u).1
  rw [zdK h.1 p r u]at this;rw [List.length_set];exact this
theorem OwnC.cut (h:OwnC T k w base (O (Y ⟨g,0,Z⟩) n c) cs) {m:Nat} (f:m≤cs.length):OwnC T k w base (O (Y ⟨g,0,Z⟩) m c) (cs.take m):=by
 have r:=h.len;subst r;have q:(cs.take m).length=m:=by rw [List.length_take];omega
 have d:∀c∈cs.take m,c.length=k:=fun c j=>h.1 c (List.mem_of_mem_take j)
 refine⟨d,?_,?_⟩
 ·rw [zat d]
 ·rcases h.2.2 with ⟨i,_⟩|⟨y,cap,cur,hv,l,p,t,e,u,x⟩
  ·cases i
  ·cases hv
   rw [q];refine .inr ⟨g,c,cur,rfl,l,p,by omega,e,u,?_⟩;rw [←za7 m h.1 f,←x,List.take_take]
   congr 1
   have:m*k≤cs.length*k:=Nat.mul_le_mul_right _ f;omega
end
theorem zfi {P:Program} {T t:TypeId} (ty:TypeId) {k bytes:Nat} {z:I} {w:J} {base:Nat} {v:I} {cs ds:List (List I)} {ad:H} {m c:Nat}
  (p:(P.info? T).map (fun i=>(i.zero,i.size,i.bytes))=Y (Y z,k,bytes)) (S:z.cells.size=k) (hk:0<k) (K:bytes≤1000) (ht:P.underlying t=Y (.slice T)) (d:OwnC T k w base v cs)
  (hm:ds.length=m) (hd:∀c∈ds,c.length=k) (q:∀(j:Nat) u,ds.flatten[j]?=Y u→w.cell? (ad.add j)=Y u) (h1:∀u∈ds.flatten,u.oneCell'=true) (x:cs.length+m≤100000000000) (f:base≤w.heap.size) :
  ∃v' w',(Builtin.append_ #[t,t] ty #[v,O (Y ad) m c]).run P w = .ok v' w'∧OwnC T k w' base v' (cs++ds)∧w.grownBy w' v.ownBlock∧(v'.ownBlock=v.ownBlock∨v'.ownBlock=Y w.heap.size):=by
 obtain⟨i,hi,L,Q,R⟩:=info_parts p;subst hm
 have hb:(cs.length+ds.length)*bytes≤140737488355328:=by
  calc (cs.length+ds.length)*bytes≤100000000000*1000:=Nat.mul_le_mul x K
   _≤140737488355328:=dM
 obtain⟨v',w',D,r,l,_,y⟩:=run_append_own_at (P:=P) w base t ty T i z k bytes ht hi L Q R S hk v cs.length cs.flatten d.2 ad ds.length c ds.flatten (zat hd)
  q h1 (by unfold maxLen;omega) hb f
 refine⟨v',w',D,⟨?_,?_⟩,l,y⟩
 ·intro e he
  rcases List.mem_append.1 he with h|h
  ·exact d.1 e h
  ·exact hd e h
 ·rw [lA,List.flatten_append];exact r
theorem appC {P:Program} {T t:TypeId} {k bytes:Nat} {z:I} {w:J} {base:Nat} {v:I} {cs:List (List I)} {ops:Array Oper} {rest:List Oper} {o:Oper} {a:Act} {Q:Exit→Act→J→Prop}
  (e:(P.info? T).map (fun i=>(i.zero,i.size,i.bytes))=Y (Y z,k,bytes)) (D:z.cells.size=k) (hk:0<k) (r:bytes≤1000) (ht:P.underlying t=Y (.slice T)) (y:o.guard=Z) (s x:Operand)
  (ho:o.op = .call { callee:=.builtin .append,args:=#[s,x],argTypes:=#[t,t] }) (hs:a.eval s=v) (p:OwnC T k w base v cs) {ad:H} {m c:Nat} (hx:a.eval x=O (Y ad) m c)
  (ds:List (List I)) (hm:ds.length=m) (hd:∀c∈ds,c.length=k) (f:∀(j:Nat) u,ds.flatten[j]?=Y u→w.cell? (ad.add j)=Y u) (L:∀u∈ds.flatten,u.oneCell'=true) (l:cs.length+m≤100000000000) (d:base≤w.heap.size)
  (h:∀v' w',OwnC T k w' base v' (cs++ds)→w.grownBy w' v.ownBlock→(v'.ownBlock=v.ownBlock∨v'.ownBlock=Y w.heap.size)→wpList P ops Q rest (a.put o.dst v') w'):wpList P ops Q (o::rest) a w:=by
 obtain⟨v',w',q,R,S,h4⟩:=zfi (P:=P) o.type e D hk r ht p hm hd f L l d (c:=c);refine wpList_plain y fun K hK=>?_
 unfold Oper.wp;simp [execOp,ho,resolve,invoke,builtin,hs,hx,q,Result.andThen];exact hK _ _ (h v' w' R S h4)
theorem zhE {P:Program} {T t:TypeId} (ty:TypeId) {k bytes:Nat} {z:I} {w:J} {base:Nat} {v sl:I} {cs ds:List (List I)}
  (f:(P.info? T).map (fun i=>(i.zero,i.size,i.bytes))=Y (Y z,k,bytes)) (aa:z.cells.size=k) (hk:0<k) (K:bytes≤1000) (ht:P.underlying t=Y (.slice T)) (l:OwnC T k w base v cs)
  (hd:∀c∈ds,c.length=k) (d:Rd w T k sl ds.length ds.flatten) (h1:∀u∈ds.flatten,u.oneCell'=true) (x:cs.length+ds.length≤100000000000) (p:base≤w.heap.size) :
  ∃v' w',(Builtin.append_ #[t,t] ty #[v,sl]).run P w = .ok v' w'∧OwnC T k w' base v' (cs++ds)∧w.grownBy w' v.ownBlock∧(v'.ownBlock=v.ownBlock∨v'.ownBlock=Y w.heap.size):=by
 obtain⟨y,c,rfl⟩:=d.form
 rcases y with _|y
 ·obtain⟨i,hi,ab,S,ac⟩:=info_parts f
  have h0:ds=[]:=by
   by_cases h:0<ds.length
   ·obtain⟨b,o,e,_⟩:=d.open h;cases e
   ·exact List.eq_nil_of_length_eq_zero oM
  subst h0
  have hc:c=0:=by
   obtain⟨_,a,c,e,_,_,D⟩:=d
   cases e
   rcases D with D|⟨b,o,cs,fr,e,_⟩
   ·exact D.2 rfl
   ·cases e
  subst hc;have r:=l.2;subst S;exact⟨v,w,run_append_owned_none (P:=P) (w:=w) base t ty T i i.size ht hi v cs.length cs.flatten r,by simpa using l,⟨rfl,rfl,rfl,nE _,fun _ _ _=>rfl⟩,.inl rfl⟩
 ·have q:∀(j:Nat) u,ds.flatten[j]?=Y u→w.cell? (y.add j)=Y u:=by
   intro j u L
   have Q:0<ds.length:=by
    by_cases h:0<ds.length
    ·exact h
    ·rw [List.eq_nil_of_length_eq_zero (show ds.length=0 by omega)]at L;simp at L
   obtain⟨b',o',e,hb,_,R⟩:=d.open Q
   cases e
   have:=R j u L;unfold Addr.add
   split
   ·subst j;simpa using this
   ·exact this
  exact zfi ty f aa hk K ht l rfl hd q h1 x p
theorem appS {P:Program} {T t:TypeId} {k bytes:Nat} {z:I} {w:J} {base:Nat} {v sl:I} {cs:List (List I)} {ops:Array Oper} {rest:List Oper} {o:Oper} {a:Act} {Q:Exit→Act→J→Prop}
  (e:(P.info? T).map (fun i=>(i.zero,i.size,i.bytes))=Y (Y z,k,bytes)) (y:z.cells.size=k) (hk:0<k) (q:bytes≤1000) (ht:P.underlying t=Y (.slice T)) (r:o.guard=Z) (s x:Operand)
  (ho:o.op = .call { callee:=.builtin .append,args:=#[s,x],argTypes:=#[t,t] }) (hs:a.eval s=v) (j:OwnC T k w base v cs) (hx:a.eval x=sl)
  (ds:List (List I)) (hd:∀c∈ds,c.length=k) (p:Rd w T k sl ds.length ds.flatten) (D:∀u∈ds.flatten,u.oneCell'=true) (f:cs.length+ds.length≤100000000000) (d:base≤w.heap.size)
  (h:∀v' w',OwnC T k w' base v' (cs++ds)→w.grownBy w' v.ownBlock→(v'.ownBlock=v.ownBlock∨v'.ownBlock=Y w.heap.size)→wpList P ops Q rest (a.put o.dst v') w'):wpList P ops Q (o::rest) a w:=by
 obtain⟨v',w',l,L,R,S⟩:=zhE (P:=P) o.type e y hk q ht j hd p D f d;refine wpList_plain r fun K hK=>?_
 unfold Oper.wp;simp [execOp,ho,resolve,invoke,builtin,hs,hx,l,Result.andThen];exact hK _ _ (h v' w' L R S)
theorem zdH {k:Nat}:∀{cs:List (List I)} (m:Nat),(∀c∈cs,c.length=k)→m≤cs.length→cs.flatten.drop (m*k)=(cs.drop m).flatten
 | _,0,_,_=>by simp
 | [],m+1,_,h=>by simp at h
 | d::cs,m+1,h,hm=>by
  have e:=h d sM
  rw [List.flatten_cons,List.drop_append,e,List.drop_of_length_le (by rw [e,Nat.add_mul];omega),show (m+1)*k-k=m*k by rw [Nat.add_mul];omega,
   zdH m (fun c f=>h c (mC _ f)) (by simpa using hm),List.drop_succ_cons,List.nil_append]
section
variable {α:Type} {T:TypeId} {k:Nat} {P:J→List I→α→Prop} {w w':J} {v:I} {xs:List α} {b o n c:Nat}
theorem Sl.drop (h:Sl T k P w (O (Y ⟨b,o,Z⟩) n c) xs) (hn:0<xs.length) {m:Nat} (S:m≤xs.length):Sl T k P w (O (Y ⟨b,o+m*k,Z⟩) (n-m) (c-m)) (xs.drop m):=by
 have L:=h.len;obtain⟨cs,y,j,⟨z,a,Q,e,R,h6,p⟩,D⟩:=h
 cases e
 refine⟨cs.drop m,by rw [List.length_drop,List.length_drop,y],fun c l=>j c (List.mem_of_mem_drop l),⟨?_,Y ⟨b,o+m*k,Z⟩,c-m,?_,?_,?_,?_⟩,?_⟩
 ·rw [←zdH m j oM,List.length_drop,z,List.length_drop,Nat.sub_mul]
 ·rw [List.length_drop]
 ·rw [List.length_drop];omega
 ·omega
 ·rcases p with p|⟨b',o',f,u,e,K,l⟩
  ·omega
  ·cases e
   refine .inr ⟨_,_,f,u,rfl,K,fun i x r=>?_⟩;rw [←zdH m j oM,List.getElem?_drop]at r;have:=l _ _ r
   rwa [←Nat.add_assoc]at this
 ·intro i d x q t
  rw [List.getElem?_drop]at q t;exact D _ _ _ q t
theorem Sl.take (h:Sl T k P w (O (Y ⟨b,o,Z⟩) n c) xs) (hn:0<xs.length) {m c':Nat} (hm:m≤xs.length) (L:m≤c') (Q:c'≤c):Sl T k P w (O (Y ⟨b,o,Z⟩) m c') (xs.take m):=by
 have S:=h.len;obtain⟨cs,z,q,⟨D,a,c9,e,h5,h6,u⟩,K⟩:=h
 cases e
 have f:(xs.take m).length=m:=by rw [List.length_take];omega
 refine⟨cs.take m,by rw [List.length_take,List.length_take,z],fun c r=>q c (List.mem_of_mem_take r),⟨?_,Y ⟨b,o,Z⟩,c',?_,?_,?_,?_⟩,?_⟩
 ·rw [←za7 m q oM,List.length_take,D,f]
  have:m*k≤xs.length*k:=Nat.mul_le_mul_right _ hm;omega
 ·rw [f]
 ·rw [f];omega
 ·omega
 ·rcases u with u|⟨b',o',p,y,e,R,r⟩
  ·omega
  ·cases e
   refine .inr ⟨_,_,p,y,rfl,R,fun i x l=>?_⟩;rw [←za7 m q oM,List.getElem?_take]at l
   split at l
   ·exact r _ _ l
   ·cases l
 ·intro i d x j t
  rw [List.getElem?_take]at j t
  split at j
  ·rename_i hlt2
   rw [if_pos hlt2]at t;exact K _ _ _ j t
  ·cases j
end
theorem zad {w w':J} {base:Nat} {row:Option Nat} (e:w.grownBy w' row) (d:base≤w.heap.size) (f:∀k,row=Y k→base≤k):Below base w w':=(Below.refl _ w).grown e d f
theorem OwnC.lt {T:TypeId} {k:Nat} {w:J} {base:Nat} {v:I} {cs:List (List I)} (h:OwnC T k w base v cs):∀j,v.ownBlock=Y j→base≤j∧j<w.heap.size:=World.ownsRow.lt h.2
theorem zcG {a b:J} {g:Nat} (h:a.grownBy b (Y g)) (i:Nat) (u:I):a.grownBy (b.setCell ⟨g,i,Z⟩ u) (Y g):=
 h.trans ⟨rfl,rfl,rfl,by simp [World.setCell],fun k _ d=>bS _ _ _ _ (by intro e;exact d (by rw [e]))⟩
theorem zca {a b:J} {row:Option Nat} (h:a.grownBy b row) (n:Nat):a.grownBy (b.drewN n) row:=⟨h.os,h.tape,h.output,h.size,h.block⟩
theorem znj {a b:J} {row:Option Nat} (h:a.grownBy b row):a.grownBy b.drew row:=⟨h.os,h.tape,h.output,h.size,h.block⟩
theorem zaf {a b:J} {row:Option Nat} {k:Nat} {o:Obj} (e:a.grownBy b row) (h:a.heap[k]?=Y o) (d:Y k≠row):b.heap[k]?=Y o:=(e.block k (zaa h) d).trans h
theorem zky {P:Program} {T t:TypeId} (ty:TypeId) {k:Nat} {w:J} {base g n cap:Nat} {sl:I} {os ds:List (List I)}
  (z:(P.info? T).map (·.size)=Y k) (ht:P.underlying t=Y (.slice T)) (h:OwnC T k w base (O (Y ⟨g,0,Z⟩) n cap) os) (hd:∀c∈ds,c.length=k) (l:Rd w T k sl ds.length ds.flatten)
  (f:ds.length=os.length) (h0:0<ds.length) (h1:∀u∈ds.flatten,u.oneCell'=true) :
  ∃w',(Builtin.copy_ #[t,t] ty #[O (Y ⟨g,0,Z⟩) n cap,sl]).run P w = .ok (goInt n) w'∧OwnC T k w' base (O (Y ⟨g,0,Z⟩) n cap) ds∧w.grownBy w' (Y g):=by
 have hn:=h.len;obtain⟨ad,c,rfl⟩:=l.form;obtain⟨b',o',rfl,hb,_,R⟩:=l.open h0
 have p:∀(j:Nat) u,ds.flatten[j]?=Y u→w.cell? ((⟨b',o',Z⟩:H).add j)=Y u:=by
  intro j u L;have:=R j u L;unfold Addr.add
  split
  ·subst j;simpa using this
  ·exact this
 subst hn
 rcases h.2.2 with ⟨h2,_⟩|⟨g',S,cur,hv,hg,hh,x,D,K,ab⟩
 ·cases h2
 ·cases hv
  have d:ds.flatten.length=ds.length*k:=zat hd;have Q:os.length*k≤cur.size:=by rw [K];exact Nat.mul_le_mul_right _ x
  have q:=run_loadCells_list (P:=P) w ⟨b',o',Z⟩ ds.flatten p;have y:=run_storeCells_at P g 0 T ds.flatten 0 cur w hh (by rw [d,f];simpa using Q) h1;refine⟨w.setRow g (cur.toList.take 0++ds.flatten++cur.toList.drop (0+ds.flatten.length)).toArray,?_,⟨hd,?_,?_⟩,⟨rfl,rfl,rfl,by simp,fun j _ L=>setRow_other w g j _ (fun e=>L (by simp [e]))⟩⟩
  ·cases hq:P.info? T with
   | none=>simp [hq]at z
   | some i =>
    have hi:i.size=k:=by simpa [hq] using z
    have r:Nat.min ds.length os.length=ds.length:=by rw [f];exact Nat.min_self _
    rw [d,f]at q;simp only [List.length_flatten]at y;have aa:((os.length:Nat):Int)=(ds.length:Int):=by rw [f]
    simp [Builtin.copy_,run_underlying ht,Builtin.lenOf,Builtin.firstCells,sizeOf,typeInfo,hq,hi,r,q,y,goInt,f]
  ·exact d
  ·rw [f]
   refine .inr ⟨g,cap,_,rfl,hg,setRow_heap w g cur _ T _ hh,x,D,?_,?_⟩
   ·simp only [List.size_toArray,lA,List.length_take,List.length_drop,Array.length_toList,d,f]
    omega
   ·simp only [List.take_zero,List.nil_append]
    rw [←f,←d,List.take_append,lT (nE _),Nat.sub_self,List.take_zero,List.append_nil]
theorem cpC {P:Program} {T t:TypeId} {k:Nat} {w:J} {base g n cap:Nat} {sl:I} {os:List (List I)} {ops:Array Oper} {rest:List Oper} {o:Oper} {a:Act} {Q:Exit→Act→J→Prop}
  (p:(P.info? T).map (·.size)=Y k) (ht:P.underlying t=Y (.slice T)) (l:o.guard=Z) (d s:Operand)
  (R:o.op = .call { callee:=.builtin .copy,args:=#[d,s],argTypes:=#[t,t] }) (j:a.eval d=O (Y ⟨g,0,Z⟩) n cap) (S:a.eval s=sl)
  (e:OwnC T k w base (O (Y ⟨g,0,Z⟩) n cap) os) (ds:List (List I)) (D:∀c∈ds,c.length=k) (i:Rd w T k sl ds.length ds.flatten)
  (L:ds.length=os.length) (q:0<ds.length) (r:∀u∈ds.flatten,u.oneCell'=true)
  (h:∀w',OwnC T k w' base (O (Y ⟨g,0,Z⟩) n cap) ds→w.grownBy w' (Y g)→wpList P ops Q rest (a.put o.dst (goInt n)) w'):wpList P ops Q (o::rest) a w:=by
 obtain⟨w',f,x,y⟩:=zky (P:=P) o.type p ht e D i L q r;refine wpList_plain l fun K z=>?_
 unfold Oper.wp;simp [execOp,R,resolve,invoke,builtin,j,S,f,Result.andThen];exact z _ _ (h w' x y)
theorem mkC {P:Program} {T t:TypeId} {k bytes:Nat} {z:I} {zs:List I} {w:J} {n:Nat} {ops:Array Oper} {rest:List Oper} {o:Oper} {a:Act} {Q:Exit→Act→J→Prop}
  (p:(P.info? T).map (fun i=>(i.zero,i.size,i.bytes))=Y (Y z,k,bytes)) (ag:z.cells=zs.toArray) (d:zs.length=k) (R:bytes≤1000) (ht:P.underlying t=Y (.slice T)) (S:o.guard=Z) (l c:Operand)
  (ho:o.op = .makeSlice t l c) (L:Int) (ac:a.eval l=F C L) (f:a.eval c=F C L) (hL:L=(n:Int)) (hn:n≤100000000000)
  (h:∀cs,OwnC T k (w.alloc (.cells cs T)) w.heap.size (O (Y ⟨w.heap.size,0,Z⟩) n n) (List.replicate n zs)→wpList P ops Q rest (a.put o.dst (O (Y ⟨w.heap.size,0,Z⟩) n n)) (w.alloc (.cells cs T))):wpList P ops Q (o::rest) a w:=by
 obtain⟨i,hi,ae,y,af⟩:=info_parts p
 have ah:bytes*n≤281474976710656:=by
  calc bytes*n≤1000*100000000000:=Nat.mul_le_mul R hn
   _≤281474976710656:=dM
 have u:=run_make (P:=P) w t T i z ht hi ae C C n n oM oM (by rw [af];omega) oM;simp only [Int.toNat_natCast]at u;refine wpList_plain S fun K D=>?_
 unfold Oper.wp;subst hL;simp [execOp,ho,ac,f,u,Result.andThen];refine D _ _ (h _ ?_);have x:(List.replicate n zs).flatten.length=n*k:=by rw [zat (k:=k) (fun c f=>by rw [List.eq_of_mem_replicate f];exact d),List.length_replicate]
 refine⟨fun c f=>by rw [List.eq_of_mem_replicate f];exact d,by rw [x,List.length_replicate],.inr ⟨w.heap.size,n,_,by simp,nE _,aN w _,by simp,by unfold maxLen;omega,by rw [y];simp [madeCells],?_⟩⟩;rw [y,List.length_replicate,ag,lT (by rw [Array.length_toList,size_madeCells];exact nE _)]
 apply List.ext_getElem?
 intro j
 by_cases hj:j<n*k
 ·have ab:0<k:=by
   rcases Nat.eq_zero_or_pos k with e|e
   ·subst e;simp at hj
   ·exact e
  obtain⟨q,r,u,hq⟩:∃q r,r<k∧j=q*k+r:=⟨j / k,j % k,Nat.mod_lt _ ab,by rw [Nat.mul_comm];exact(Nat.div_add_mod j k).symm⟩
  have ad:q<n:=by
   rcases Nat.lt_or_ge q n with e|e
   ·exact e
   ·exfalso
    have:n*k≤q*k:=Nat.mul_le_mul_right _ e;omega
  have e2:(List.replicate n zs).flatten[q*k+r]?=zs[r]?:=zbi (k:=k) (fun c f=>by rw [List.eq_of_mem_replicate f];exact d) (by rw [List.getElem?_replicate,if_pos ad]) u;have aa:j % k=r:=by rw [hq,Nat.add_comm,Nat.add_mul_mod_self_right,Nat.mod_eq_of_lt u]
  rw [show (List.replicate n zs).flatten[j]?=zs[r]? by rw [hq];exact e2];simp only [madeCells,Array.toList_map,Array.toList_range,lP,List.getElem?_range hj,Option.map_some,List.size_toArray,d,aa];rw [gE oM];simp [d,u]
 ·rw [List.getElem?_eq_none (by rw [Array.length_toList,size_madeCells];omega),List.getElem?_eq_none (by rw [x];omega)]
theorem zcW {P:Program} {T t:TypeId} {k bytes:Nat} {z:I} {w:J} {base:Nat} {v:I} {cs:List (List I)} {ops:Array Oper} {o:Oper} {a:Act} {K:Act→J→Prop} {Q:Exit→Act→J→Prop} {E:Prop}
  (e:(P.info? T).map (fun i=>(i.zero,i.size,i.bytes))=Y (Y z,k,bytes)) (D:z.cells.size=k) (hk:0<k) (r:bytes≤1000) (ht:P.underlying t=Y (.slice T)) (y:o.guard=Z) (s x:Operand)
  (ho:o.op = .call { callee:=.builtin .append,args:=#[s,x],argTypes:=#[t,t] }) (hs:a.eval s=v) (p:OwnC T k w base v cs) {ad:H} {m c:Nat} (hx:a.eval x=O (Y ad) m c)
  (ds:List (List I)) (hm:ds.length=m) (hd:∀c∈ds,c.length=k) (f:∀(j:Nat) u,ds.flatten[j]?=Y u→w.cell? (ad.add j)=Y u) (L:∀u∈ds.flatten,u.oneCell'=true) (l:cs.length+m≤100000000000) (d:base≤w.heap.size)
  (h:∀v' w',OwnC T k w' base v' (cs++ds)→w.grownBy w' v.ownBlock→(v'.ownBlock=v.ownBlock∨v'.ownBlock=Y w.heap.size)→K (a.put o.dst v') w') :
  if Region.wanted o (yielded ops a.tmps)=true then Oper.wp P o a w K Q else E:=by
 have hw:Region.wanted o (yielded ops a.tmps)=true:=by simp [Region.wanted,y]
 rw [if_pos hw];obtain⟨v',w',q,R,S,h4⟩:=zfi (P:=P) o.type e D hk r ht p hm hd f L l d (c:=c);unfold Oper.wp;simp [execOp,ho,resolve,invoke,builtin,hs,hx,q,Result.andThen];exact h v' w' R S h4
def pc (p:Int×Int):List I:=[F C p.1,F C p.2]
theorem zbF:(Tryz.prog.info? 43).map (fun i=>(i.zero,i.size,i.bytes))=Y (Y (M #[F C 0,F C 0]),2,16):=kM
theorem zfS {ps:List (Int×Int)}:∀u∈(ps.map pc).flatten,u.oneCell'=true:=by
 intro u e;obtain⟨d,f,e⟩:=List.mem_flatten.1 e;obtain⟨p,_,rfl⟩:=List.mem_map.1 f;simp [pc]at e
 rcases e with rfl|rfl<;>rfl
theorem zfR {ps:List (Int×Int)}:∀c∈ps.map pc,c.length=2:=by
 intro c d;obtain⟨p,_,rfl⟩:=List.mem_map.1 d;rfl
theorem zgI (W:J) (x z:Int) (T:TypeId):∀(j:Nat) u,[pc (x,z)].flatten[j]?=Y u→(W.alloc (.cells #[F C x,F C z] T)).cell? ((⟨W.heap.size,0,Z⟩:H).add j)=Y u:=by
 intro j u d
 match j,d with
 | 0,d=>simp [pc]at d;subst d;simp [Addr.add]
 | 1,d=>simp [pc]at d;subst d;simp [Addr.add]
 | j+2,d=>simp [pc]at d
theorem zd9 (x z:Int):∀u∈[pc (x,z)].flatten,u.oneCell'=true:=zfS (ps:=[(x,z)])
theorem zos {a b c:J} {k:Nat} (h:Ext a b) (g:b.grownBy c (Y k)) (e:a.heap.size≤k):Ext a c:=
 ⟨g.os.trans h.os,g.tape.trans h.tape,g.output.trans h.output,nT h.size g.size,fun i d=>(g.block i (Nat.lt_of_lt_of_le d h.size) (by simp;omega)).trans (h.block d)⟩
theorem zlr {a b c:J} {row:Option Nat} (h:a.grownBy b row) (k:Below a.heap.size b c):a.grownBy c row:=
 ⟨k.os.trans h.os,k.tape.trans h.tape,k.output.trans h.output,nT h.size k.size,fun i e d=>(k.block i e).trans (h.block i e d)⟩
theorem znk (a:J) (row:Option Nat):a.grownBy a row:=⟨rfl,rfl,rfl,nE _,fun _ _ _=>rfl⟩
theorem zls {a b:J} {k:Nat} {T T':TypeId} {cs:Array I} {i:Nat×Nat} (g:a.grownBy b (Y k)) (h:a.heap[k]?=Y (.cells cs T' i)) (j:T'≠T):KeepT T a b:=
 fun x c f d=>(g.block x (zaa d) (fun e=>by cases e;rw [d]at h;cases h;exact j rfl)).trans d
end
end Go.Proofs.YtjnjpagegkcgfaaGreatDoor.Cop
