import Derived.Test.YtjnjpagegkcgfaaGreatDoorCobA04
import Derived.Deep.LoopGhost
import Derived.Deep.CutBlock
import Derived.Deep.DeepCutAuto
import Derived.RangeFuncNested
import Derived.RangeFuncBound
import Derived.RangeFuncCalls
import Derived.RangeFuncLeaves
import Derived.Shelf.Abstract
import Derived.Shelf.RegionOpen
import Derived.TacticsInMore
import Derived.LoopNIn
import Derived.LoopIn
import Derived.Sort.LoopGhostIn
import Derived.Shelf.SlSortCmp.WholeK
import Derived.ProofKit
import Derived.Deep.Slices
set_option maxRecDepth 1000000
set_option maxHeartbeats 16000000
set_option linter.all false
open Go.Value renaming slice->O,int->J,bool->C,agg->Oa
open Option renaming some->Y,none->X
open Go renaming World->Z,Value->M,Addr->Oc
open Go.IntKind renaming i64->I
open Go.Obj renaming cells->Ob
namespace Go.Proofs.YtjnjpagegkcgfaaGreatDoor.Cop
section
open Go.RowKit Go.Shelf
def Ba.t{a b:Z}(h:Ba a b){n:Nat}{G:Prop}(d:n<a.heap.size)(k:n<b.heap.size->G):G:=k (h.lt d)
def Lm.mul{j k:Nat}{x y:Int}(h:Lm j x)(l:Lm k y):Lm (j+k) (x*y):=by
 have e:B ^ (j+k)=B ^ j*B ^ k:=by rw[Int.pow_add]
 have q:=Ri Fi j;have i:=Ri Fi k;unfold Lm at *;have d:(x.natAbs:Int)<B ^ j:=oM;have f:(y.natAbs:Int)<B ^ k:=oM;have p:((x*y).natAbs:Int)<B ^ (j+k):=by
  rw[Int.natAbs_mul,e,Int.natCast_mul];exact Int.lt_of_le_of_lt (Int.mul_le_mul_of_nonneg_left (Int.le_of_lt f) oM) (Int.mul_lt_mul_of_pos_right d i)
 omega
def Lm.add{k:Nat}{x y:Int}(h:Lm k x)(d:Lm k y):Lm (k+1) (x+y):=by
 have e:B ^ (k+1)=B ^ k*16777216:=by rw[Int.pow_succ];rfl
 unfold Lm at *;rw[e];omega
def Pw(p q:Rat):Rat.divInt (p.num*q.den+q.num*p.den) ((p.den:Int)*q.den)=p+q:=by rw[Rat.add_def',<-Rat.divInt_ofNat,Int.natCast_mul]
def Nw(p q:Rat):Rat.divInt (p.num*q.num) ((p.den:Int)*q.den)=p*q:=by rw[Rat.mul_def',<-Rat.divInt_ofNat,Int.natCast_mul]
def Ow(p q:Rat):Rat.divInt (p.num*q.den) ((p.den:Int)*q.num)=p/q:=by rw[Rat.div_def,Rat.inv_def,<-Rat.divInt_mul_divInt,Rat.num_divInt_den]
def An(p q:Rat):(p.den:Int)*q.den≠0:=by have:=Int.mul_pos (Yf p) (Yf q);omega
def Rb.add{k:Nat}{p q:Rat}(h:Rb k p)(d:Rb k q):Rb (2*k+1) (p+q):=by rw[<-Pw];refine⟨mt (An p q) ?_,Iq (An p q) ((Lm.mul h.2 d.2).mono oM)⟩;rw[show 2*k+1=(k+k)+1 by omega];exact(h.1.mul d.2).add (d.1.mul h.2)
def Rb.mul{j k:Nat}{p q:Rat}(h:Rb j p)(d:Rb k q):Rb (j+k) (p*q):=by rw[<-Nw];exact⟨mt (An p q) (h.1.mul d.1),Iq (An p q) (h.2.mul d.2)⟩
def Rb.neg{k:Nat}{p:Rat}(h:Rb k p):Rb k (-p):=⟨h.1.neg,h.2⟩
def Rb.sub{k:Nat}{p q:Rat}(h:Rb k p)(d:Rb k q):Rb (2*k+1) (p-q):=by rw[Rat.sub_eq_add_neg];exact h.add d.neg
def Rb.int{k:Nat}{n:Int}(h:Lm k n)(d:1<=k):Rb k (n:Rat):=⟨h,Jp d⟩
def Rb.div{j k:Nat}{p q:Rat}(h:Rb j p)(d:Rb k q)(l:1<=j+k):Rb (j+k) (p/q):=by
 by_cases i:q=0
 ·subst i;have:p/0=((0:Int):Rat):=by rw[Rat.div_def,Rat.inv_zero,Rat.mul_zero];rfl
  rw[this];exact Rb.int (by have:=Ri Fi (j+k);unfold Lm;omega) l
 ·have r:q.num≠0:=fun e=>i (by rw[<-Rat.num_divInt_den q,e];simp);have f:(p.den:Int)*q.num≠0:=Int.mul_ne_zero (by have:=Yf p;omega) r;rw[<-Ow];exact⟨mt f (h.1.mul d.2),Iq f (h.2.mul d.1)⟩
def Eb(p q:Rat):Int:=(p.num*q.den-q.num*p.den).sign
def Kn(p q:Rat):Eb p q<0 ↔ p<q:=by unfold Eb;rw[Rat.lt_iff,Int.sign_neg_iff];omega
def Kq(p q:Rat):0<Eb p q ↔ q<p:=by unfold Eb;rw[Rat.lt_iff,Int.sign_pos_iff];omega
def qH(w:Z)(va vb:M)(p q:Rat)(ha:Ab w va p)(hb:Ab w vb q)(d:Rb Dc p)(f:Rb Dc q):Calls Tryz.prog 75 #[va,vb] w fun e w'=>e=.returned (J I (Eb p q))/\Ba w w'/\Dr w w':=by
 obtain⟨a,m,c,s,a2,m2,c2,rfl⟩:=ha.form;obtain⟨a',m',c',s',l,z,r,rfl⟩:=hb.form;have K:=Aa d;have R:=Aa f;have ag:=ha.top;have ah:=hb.top;have aa:Sa (Lm Rc p.num):=Aa (d.1.mono dM);have ab:Sa (Lm Rc q.num):=Aa (f.1.mono dM);have ac:Sa (Lm Rc (p.den:Int)):=Aa (d.2.mono dM);have ad:Sa (Lm Rc (q.den:Int)):=Aa (f.2.mono dM);have ae:Sa (Lm Ed (p.num*q.den)):=Aa ((d.1.mul f.2).mono dM);have af:Sa (Lm Ed (q.num*p.den)):=Aa ((f.1.mul d.2).mono dM);have ay:Sa (Lm Ed (p.num*q.num)):=Aa ((d.1.mul f.1).mono dM);have az:Sa (Lm Ed ((p.den:Int)*q.den)):=Aa ((d.2.mul f.2).mono dM);have aA:Sa (Lm Ed ((p.den:Int)*q.num)):=Aa ((d.2.mul f.1).mono dM);have i:Sa (Lm Rc (p.num*q.den)):=Aa (ae.o.mono dM);have j:Sa (Lm Rc (q.num*p.den)):=Aa (af.o.mono dM);clear d f;go_in;go_wp2;go_region_held3 (fun W=>W.cell? ⟨w.heap.size,0,X⟩=Y (O a m c)/\W.cell? ⟨w.heap.size,1,X⟩=Y (C s)/\W.cell? ⟨w.heap.size,2,X⟩=Y (O a2 m2 c2)/\W.cell? ⟨w.heap.size+1,0,X⟩=Y (O a' m' c')/\W.cell? ⟨w.heap.size+1,1,X⟩=Y (C s')/\W.cell? ⟨w.heap.size+1,2,X⟩=Y (O l z r)) ((repeat' (with_reducible refine And.intro ?_ ?_))<;>(first|(go_simp;done)|(refine hx1.d ?_;go_simp;done))) (first|((go_at_call 135;(with_reducible refine(sw _ (Oa #[O a' m' c',C s',O l z r]) q ?_ R.o).mono ?_);(refine hb.ext ?_;exact eA);rintro e w1 ⟨r1,rfl,t,hx1,aG⟩;obtain⟨b1,n1,k1,t1,rfl⟩:=t.form;obtain⟨⟨aB,aL⟩,am,an⟩:=Zb w hx1))|((go_at_call 135;(with_reducible refine(sw _ (Oa #[O a m c,C s,O a2 m2 c2]) p ?_ K.o).mono ?_);(refine ha.ext ?_;exact eA);rintro e w3 ⟨r3,rfl,x,aj,aI⟩;obtain⟨b3,n3,k3,t3,rfl⟩:=x.form;obtain⟨⟨aD,aO⟩,aq,ar⟩:=Zb w aj))|((go_at_call 147;(with_reducible refine(Su _ (Oa #[O a m c,C s]) (Oa #[O b1 n1 k1,C t1]) p.num (q.den:Int) ?_ ?_ aa.o ad.o).mono ?_);(refine ag.ext ?_;exact eA);(refine t.ext ?_;exact eA);rintro e w2 ⟨r2,rfl,u,ai,aH⟩;obtain⟨b2,n2,k2,t2,rfl⟩:=u.form;obtain⟨⟨aC,aM⟩,ao,ap⟩:=Zb w ai))|((go_at_call 147;(with_reducible refine(Su _ (Oa #[O a' m' c',C s']) (Oa #[O b3 n3 k3,C t3]) q.num (p.den:Int) ?_ ?_ ab.o ac.o).mono ?_);(refine ah.ext ?_;exact eA);(refine x.ext ?_;exact eA);rintro e w4 ⟨r4,rfl,y,ak,aJ⟩;obtain⟨b4,n4,k4,t4,rfl⟩:=y.form;obtain⟨⟨aE,aP⟩,au,av⟩:=Zb w ak))|((go_at_call 136;(with_reducible refine(Zy _ (Oa #[O b2 n2 k2,C t2]) (Oa #[O b4 n4 k4,C t4]) (p.num*q.den) (q.num*p.den) ?_ ?_ i.o j.o).mono ?_);(refine u.ext ?_;exact eA);(refine y.ext ?_;exact eA);rintro e w5 ⟨rfl,al,aK⟩;obtain⟨⟨aF,aQ⟩,aw,ax⟩:=Zb w al)))
 all_goals go_wp2
 go_ret;exact⟨rfl,eA,dA⟩
def Qj(w:Z)(i j:M)(p q:Rat)(l:Ab w i p)(r:Ab w j q)(d:Rb Dc p)(f:Rb Dc q):Calls Tryz.prog 75 #[i,j] w fun e w'=>e=.returned (J I (Eb p q))/\Ba w w':=Jq (qH w i j p q l r d f)
def nB(w:Z)(va vb:M)(p q:Rat)(ha:Ab w va p)(hb:Ab w vb q)(d:Rb Dc p)(f:Rb Dc q):Calls Tryz.prog 156 #[va,vb] w (Pf w (p*q)):=by
 obtain⟨a,m,c,s,a2,m2,c2,rfl⟩:=ha.form;obtain⟨a',m',c',s',i,y,j,rfl⟩:=hb.form;have ab:=Aa d;have ac:=Aa f;have aq:=ha.top;have ar:=hb.top;have ad:Sa (Lm Rc p.num):=Aa (d.1.mono dM);have ae:Sa (Lm Rc q.num):=Aa (f.1.mono dM);have af:Sa (Lm Rc (p.den:Int)):=Aa (d.2.mono dM);have ag:Sa (Lm Rc (q.den:Int)):=Aa (f.2.mono dM);have ah:Sa (Lm Ed (p.num*q.den)):=Aa ((d.1.mul f.2).mono dM);have ai:Sa (Lm Ed (q.num*p.den)):=Aa ((f.1.mul d.2).mono dM);have aj:Sa (Lm Ed (p.num*q.num)):=Aa ((d.1.mul f.1).mono dM);have ak:Sa (Lm Ed ((p.den:Int)*q.den)):=Aa ((d.2.mul f.2).mono dM);have aL:Sa (Lm Ed ((p.den:Int)*q.num)):=Aa ((d.2.mul f.1).mono dM);have ay:Sa (Lm Rc (p.num*q.den)):=Aa (ah.o.mono dM);have az:Sa (Lm Rc (q.num*p.den)):=Aa (ai.o.mono dM);clear d f;go_in;go_wp2;go_region_held3 (fun W=>W.cell? ⟨w.heap.size,0,X⟩=Y (O a m c)/\W.cell? ⟨w.heap.size,1,X⟩=Y (C s)/\W.cell? ⟨w.heap.size,2,X⟩=Y (O a2 m2 c2)/\W.cell? ⟨w.heap.size+1,0,X⟩=Y (O a' m' c')/\W.cell? ⟨w.heap.size+1,1,X⟩=Y (C s')/\W.cell? ⟨w.heap.size+1,2,X⟩=Y (O i y j)) ((repeat' (with_reducible refine And.intro ?_ ?_))<;>(first|(go_simp;done)|(refine hx1.d ?_;go_simp;done))) (first|((go_at_call 147;(with_reducible refine(Oo _ (Oa #[O a m c,C s]) (Oa #[O a' m' c',C s']) p.num q.num ?_ ?_ ad.o ae.o).mono ?_);(refine aq.ext ?_;exact eA);(refine ar.ext ?_;exact eA);rintro e w1 ⟨r1,rfl,l,hx1⟩;obtain⟨b1,n1,k1,t1,rfl⟩:=l.form;obtain⟨⟨al,aM⟩,aA,aB,z⟩:=Yb w hx1))|((go_at_call 135;(with_reducible refine(Xn _ (Oa #[O a m c,C s,O a2 m2 c2]) p ?_ ab.o).mono ?_);(refine ha.ext ?_;exact eA);rintro e w2 ⟨r2,rfl,r,au⟩;obtain⟨b2,n2,k2,t2,rfl⟩:=r.form;obtain⟨⟨am,aO⟩,aC,aD,K⟩:=Yb w au))|((go_at_call 135;(with_reducible refine(Xn _ (Oa #[O a' m' c',C s',O i y j]) q ?_ ac.o).mono ?_);(refine hb.ext ?_;exact eA);rintro e w3 ⟨r3,rfl,t,av⟩;obtain⟨b3,n3,k3,t3,rfl⟩:=t.form;obtain⟨⟨an,aP⟩,aE,aF,R⟩:=Yb w av))|((go_at_call 147;(with_reducible refine(Oo _ (Oa #[O b2 n2 k2,C t2]) (Oa #[O b3 n3 k3,C t3]) (p.den:Int) (q.den:Int) ?_ ?_ af.o ag.o).mono ?_);(refine r.ext ?_;exact eA);(refine t.ext ?_;exact eA);rintro e w4 ⟨r4,rfl,u,aw⟩;obtain⟨b4,n4,k4,t4,rfl⟩:=u.form;obtain⟨⟨ao,aQ⟩,aG,aH,aa⟩:=Yb w aw))|((go_at_call 178;(with_reducible refine(tw _ (Oa #[O b1 n1 k1,C t1]) (Oa #[O b4 n4 k4,C t4]) (p.num*q.num) ((p.den:Int)*q.den) ?_ ?_ aj.o ak.o (An p q)).mono ?_);(refine l.ext ?_;exact eA);(refine u.ext ?_;exact eA);rintro e w5 ⟨r5,rfl,x,ax⟩;obtain⟨b5,n5,k5,t5,b6,n6,k6,rfl⟩:=x.form;obtain⟨⟨ap,aR⟩,aI,aJ,aK⟩:=Yb w ax)))
 all_goals go_wp2
 refine bR (v:=Oa #[O b5 n5 k5,C t5,O b6 n6 k6]) (by simp[results,Tryz.results156,go_sem,al,am,an,ao,ap,z,K,R,aa]) rfl ⟨_,rfl,?_,eA⟩;rw[<-Nw];exact x.keep kA
def oL(w:Z)(y z:M)(p q:Rat)(ha:Ab w y p)(hb:Ab w z q)(d:∀(W:Z)(y z:M)(p q:Rat),Ab W y p->Ab W z q->Rb Dc p->Rb Dc q->Calls Tryz.prog 117 #[y,z] W (Pf W (p+q)))(l:Rb Dc p)(r:Rb Dc q):Calls Tryz.prog 115 #[y,z] w (Pf w (p-q)):=by
 obtain⟨a,m,c,s,a2,m2,c2,rfl⟩:=ha.form;obtain⟨a',m',c',s',i,x,j,rfl⟩:=hb.form;have R:=Aa l;have aa:=Aa r.neg;have f:=Aa d;clear l r d;rw[Rat.sub_eq_add_neg];go_in;go_wp2;go_region_held3 (fun W=>W.cell? ⟨w.heap.size,0,X⟩=Y (O a m c)/\W.cell? ⟨w.heap.size,1,X⟩=Y (C s)/\W.cell? ⟨w.heap.size,2,X⟩=Y (O a2 m2 c2)/\W.cell? ⟨w.heap.size+1,0,X⟩=Y (O a' m' c')/\W.cell? ⟨w.heap.size+1,1,X⟩=Y (C s')/\W.cell? ⟨w.heap.size+1,2,X⟩=Y (O i x j)) ((repeat' (with_reducible refine And.intro ?_ ?_))<;>(first|(go_simp;done)|(refine hx1.d ?_;go_simp;done))) (first|((go_at_call 177;(with_reducible refine(pK _ (Oa #[O a' m' c',C s',O i x j]) q ?_).mono ?_);(refine hb.ext ?_;exact eA);rintro e w1 ⟨r1,rfl,t,hx1⟩;obtain⟨b1,n1,k1,t1,b2,n2,k2,rfl⟩:=t.form;obtain⟨⟨ab,aj⟩,ae,af,K⟩:=Yb w hx1))|((go_at_call 117;refine cM (f.o _ (Oa #[O a m c,C s,O a2 m2 c2]) (Oa #[O b1 n1 k1,C t1,O b2 n2 k2]) p (-q) ?_ ?_ R.o aa.o) ?_;(refine ha.ext ?_;exact eA);(refine t.ext ?_;exact eA);rintro e w5 ⟨r5,rfl,u,ad⟩;obtain⟨b5,n5,k5,t5,b6,n6,k6,rfl⟩:=u.form;obtain⟨⟨ac,ak⟩,ag,ah,ai⟩:=Yb w ad)))
 all_goals go_wp2
 exact bR (v:=Oa #[O b5 n5 k5,C t5,O b6 n6 k6]) (by simp[results,Tryz.results115,go_sem,ab,ac,K]) rfl ⟨_,rfl,u.keep kA,eA⟩
def YJ(q:Rat):(q.num=0) ↔ q=0:=by
 constructor
 ·intro h;rw[<-Rat.num_divInt_den q,h];simp
 ·rintro rfl;rfl
def rK(w:Z)(va vb:M)(p q:Rat)(ha:Ab w va p)(hb:Ab w vb q)(d:Rb Dc p)(f:Rb Dc q):Calls Tryz.prog 201 #[va,vb] w fun e w'=>∃r,e=.returned (.tuple #[r,J I (if (p.den:Int)*q.num=0 then 9 else 0)])/\Ab w' r (p/q)/\Ba w w':=by
 obtain⟨a,m,c,s,a2,m2,c2,rfl⟩:=ha.form;obtain⟨a',m',c',s',l,R,t,rfl⟩:=hb.form;have ae:=Aa d;have af:=Aa f;have au:=ha.top;have av:=hb.top;have ag:Sa (Lm Rc p.num):=Aa (d.1.mono dM);have ah:Sa (Lm Rc q.num):=Aa (f.1.mono dM);have ai:Sa (Lm Rc (p.den:Int)):=Aa (d.2.mono dM);have aj:Sa (Lm Rc (q.den:Int)):=Aa (f.2.mono dM);have j:Sa (Lm Ed (p.num*q.den)):=Aa ((d.1.mul f.2).mono dM);have ak:Sa (Lm Ed (q.num*p.den)):=Aa ((f.1.mul d.2).mono dM);have aO:Sa (Lm Ed (p.num*q.num)):=Aa ((d.1.mul f.1).mono dM);have aP:Sa (Lm Ed ((p.den:Int)*q.den)):=Aa ((d.2.mul f.2).mono dM);have al:Sa (Lm Ed ((p.den:Int)*q.num)):=Aa ((d.2.mul f.1).mono dM);have aA:Sa (Lm Rc (p.num*q.den)):=Aa (j.o.mono dM);have aB:Sa (Lm Rc (q.num*p.den)):=Aa (ak.o.mono dM);clear d f;obtain⟨er,i⟩:∃er:Int,er=if (p.den:Int)*q.num=0 then 9 else 0:=⟨_,rfl⟩;rw[<-i];have am:=Aa i;clear i;go_in;go_wp2;go_region_held3 (fun W=>W.cell? ⟨w.heap.size,0,X⟩=Y (O a m c)/\W.cell? ⟨w.heap.size,1,X⟩=Y (C s)/\W.cell? ⟨w.heap.size,2,X⟩=Y (O a2 m2 c2)/\W.cell? ⟨w.heap.size+1,0,X⟩=Y (O a' m' c')/\W.cell? ⟨w.heap.size+1,1,X⟩=Y (C s')/\W.cell? ⟨w.heap.size+1,2,X⟩=Y (O l R t)) ((repeat' (with_reducible refine And.intro ?_ ?_))<;>(first|(go_simp;done)|(refine hx1.d ?_;go_simp;done))) (first|((go_at_call 135;(with_reducible refine(Xn _ (Oa #[O a' m' c',C s',O l R t]) q ?_ af.o).mono ?_);(refine hb.ext ?_;exact eA);rintro e w1 ⟨r1,rfl,u,hx1⟩;obtain⟨b1,n1,k1,t1,rfl⟩:=u.form;obtain⟨⟨an,aQ⟩,aC,aD,aa⟩:=Yb w hx1))|((go_at_call 147;(with_reducible refine(Oo _ (Oa #[O a m c,C s]) (Oa #[O b1 n1 k1,C t1]) p.num (q.den:Int) ?_ ?_ ag.o aj.o).mono ?_);(refine au.ext ?_;exact eA);(refine u.ext ?_;exact eA);rintro e w2 ⟨r2,rfl,x,aw⟩;obtain⟨b2,n2,k2,t2,rfl⟩:=x.form;obtain⟨⟨ao,aR⟩,aE,aF,ab⟩:=Yb w aw))|((go_at_call 135;(with_reducible refine(Xn _ (Oa #[O a m c,C s,O a2 m2 c2]) p ?_ ae.o).mono ?_);(refine ha.ext ?_;exact eA);rintro e w3 ⟨r3,rfl,y,ax⟩;obtain⟨b3,n3,k3,t3,rfl⟩:=y.form;obtain⟨⟨ap,aS⟩,aG,aH,ac⟩:=Yb w ax))|((go_at_call 147;(with_reducible refine(Oo _ (Oa #[O b3 n3 k3,C t3]) (Oa #[O a' m' c',C s']) (p.den:Int) q.num ?_ ?_ ai.o ah.o).mono ?_);(refine y.ext ?_;exact eA);(refine av.ext ?_;exact eA);rintro e w4 ⟨r4,rfl,z,ay⟩;obtain⟨b4,n4,k4,t4,rfl⟩:=z.form;obtain⟨⟨aq,aT⟩,aI,aJ,ad⟩:=Yb w ay))|((go_at_call 145;(with_reducible refine(qA _ (Oa #[O b2 n2 k2,C t2]) (Oa #[O b4 n4 k4,C t4]) (p.num*q.den) ((p.den:Int)*q.num) ?_ ?_ j.o al.o).mono ?_);(refine x.ext ?_;exact eA);(refine z.ext ?_;exact eA);rw[<-am.o];rintro e w5 ⟨r5,rfl,K,az⟩;obtain⟨b5,n5,k5,t5,b6,n6,k6,rfl⟩:=K.form;obtain⟨⟨ar,aU⟩,aK,aL,aM⟩:=Yb w az)))
 all_goals go_wp2
 refine bR (v:=.tuple #[Oa #[O b5 n5 k5,C t5,O b6 n6 k6],J I er]) (by simp[results,Tryz.results201,go_sem,an,ao,ap,aq,ar,aa,ab,ac,ad]) rfl ⟨_,rfl,?_,eA⟩;rw[<-Ow];exact K.keep kA
def oS(w:Z)(p q:Rat)(a:Option Oc)(m c:Nat)(s:Bool)(z:Option Oc)(K c':Nat)(R:Bool)(t5 t6:M)(W:Z):Prop:=
 ∃(d e:Nat)(x y:Option Oc)(l f r j:Nat)(t u:Bool),t5 = .pointer (Y ⟨d,0,X⟩)/\t6 = .pointer (Y ⟨e,0,X⟩)/\w.heap.size+1+1<d/\w.heap.size+1+1<e/\Ba w W/\ld 2 W (w.heap.size+1+1)/\
 vd W (Oa #[O x l f,C t]) (p.den:Int)/\vd W (Oa #[O y r j,C u]) (q.den:Int)/\
 W.cell? ⟨d,0,X⟩=Y (O x l f)/\W.cell? ⟨d,1,X⟩=Y (C t)/\W.cell? ⟨e,0,X⟩=Y (O y r j)/\W.cell? ⟨e,1,X⟩=Y (C u)/\
 W.cell? ⟨w.heap.size,0,X⟩=Y (O a m c)/\W.cell? ⟨w.heap.size,1,X⟩=Y (C s)/\W.cell? ⟨w.heap.size+1,0,X⟩=Y (O z K c')/\W.cell? ⟨w.heap.size+1,1,X⟩=Y (C R)/\
 W.cell? ⟨w.heap.size+1+1,0,X⟩=Y (O X 0 0)/\W.cell? ⟨w.heap.size+1+1,1,X⟩=Y (C false)/\W.cell? ⟨w.heap.size+1+1,2,X⟩=Y (O X 0 0)/\
 (∀i,W.frozen? ⟨w.heap.size+1+1,i,X⟩=false)
def ow(w:Z)(va vb:M)(p q:Rat)(ha:Ab w va p)(hb:Ab w vb q)(d:Rb Dc p)(f:Rb Dc q):Calls Tryz.prog 117 #[va,vb] w (Pf w (p+q)):=by
 obtain⟨a,m,c,s,a2,m2,c2,rfl⟩:=ha.form;obtain⟨a',m',c',s',al,ay,am,rfl⟩:=hb.form;have ac:=Aa d;have ad:=Aa f;have bb:=ha.top;have bc:=hb.top;have aT:Sa (Lm Rc p.num):=Aa (d.1.mono dM);have aU:Sa (Lm Rc q.num):=Aa (f.1.mono dM);have ah:Sa (Lm Rc (p.den:Int)):=Aa (d.2.mono dM);have ai:Sa (Lm Rc (q.den:Int)):=Aa (f.2.mono dM);have aV:Sa (Lm Ed (p.num*q.den)):=Aa ((d.1.mul f.2).mono dM);have aW:Sa (Lm Ed (q.num*p.den)):=Aa ((f.1.mul d.2).mono dM);have bA:Sa (Lm Ed (p.num*q.num)):=Aa ((d.1.mul f.1).mono dM);have aX:Sa (Lm Ed ((p.den:Int)*q.den)):=Aa ((d.2.mul f.2).mono dM);have bB:Sa (Lm Ed ((p.den:Int)*q.num)):=Aa ((d.2.mul f.1).mono dM);have aj:Sa (Lm Rc (p.num*q.den)):=Aa (aV.o.mono dM);have ak:Sa (Lm Rc (q.num*p.den)):=Aa (aW.o.mono dM);clear d f;go_in;go_upto_region 1 with fail;go_cut [5,6] (oS w p q a m c s a' m' c' s')
 case first =>
  go_region_held3 (fun W=>W.cell? ⟨w.heap.size,0,X⟩=Y (O a m c)/\W.cell? ⟨w.heap.size,1,X⟩=Y (C s)/\W.cell? ⟨w.heap.size,2,X⟩=Y (O a2 m2 c2)/\W.cell? ⟨w.heap.size+1,0,X⟩=Y (O a' m' c')/\W.cell? ⟨w.heap.size+1,1,X⟩=Y (C s')/\W.cell? ⟨w.heap.size+1,2,X⟩=Y (O al ay am)) ((repeat' (with_reducible refine And.intro ?_ ?_))<;>(first|(go_simp;done)|(refine hx1.d ?_;go_simp;done))) (first|((go_at_call 135;(with_reducible refine(Xn _ (Oa #[O a m c,C s,O a2 m2 c2]) p ?_ ac.o).mono ?_);(refine ha.ext ?_;exact eA);rintro e l ⟨r1,rfl,r,hx1⟩;obtain⟨b1,n1,k1,t1,rfl⟩:=r.form;obtain⟨⟨ao,a9⟩,az,aA,aa⟩:=Yb w hx1;have aG:w.heap.size<l.heap.size+1:=oM;have aH:w.heap.size<l.heap.size+1+1:=oM;have aI:w.heap.size+1<l.heap.size+1:=oM;have aJ:w.heap.size+1<l.heap.size+1+1:=oM;have aK:w.heap.size+1+1<l.heap.size+1:=oM;have aL:w.heap.size+1+1<l.heap.size+1+1:=oM;(try(refine Ba.t hx1 (n:=w.heap.size+1+1+1) ?_ (fun _=>?_);focus(go_simp;done)));(try(refine Ba.t hx1 (n:=w.heap.size+1+1+1+1) ?_ (fun _=>?_);focus(go_simp;done)));(try(refine Ba.t hx1 (n:=l.heap.size) ?_ (fun _=>?_);focus(go_simp;done)));(try(refine Ba.t hx1 (n:=l.heap.size+1) ?_ (fun _=>?_);focus(go_simp;done)))))|((go_at_call 135;(with_reducible refine(Xn _ (Oa #[O a' m' c',C s',O al ay am]) q ?_ ad.o).mono ?_);(refine hb.ext ?_;exact eA);rintro e R ⟨r2,rfl,t,j⟩;obtain⟨b2,n2,k2,t2,rfl⟩:=t.form;obtain⟨⟨K,ba⟩,aB,aC,ab⟩:=Yb w j;have aM:w.heap.size<R.heap.size+1:=oM;have aO:w.heap.size<R.heap.size+1+1:=oM;have aP:w.heap.size+1<R.heap.size+1:=oM;have aQ:w.heap.size+1<R.heap.size+1+1:=oM;have aR:w.heap.size+1+1<R.heap.size+1:=oM;have aS:w.heap.size+1+1<R.heap.size+1+1:=oM;(try(refine Ba.t j (n:=w.heap.size+1+1+1) ?_ (fun _=>?_);focus(go_simp;done)));(try(refine Ba.t j (n:=w.heap.size+1+1+1+1) ?_ (fun _=>?_);focus(go_simp;done)));(try(refine Ba.t j (n:=l.heap.size) ?_ (fun _=>?_);focus(go_simp;done)));(try(refine Ba.t j (n:=l.heap.size+1) ?_ (fun _=>?_);focus(go_simp;done))))))
  all_goals go_wp2
  all_goals go_meet
  all_goals refine⟨_,_,b1,b2,n1,k1,n2,k2,t1,t2,rfl,rfl,by omega,by omega,eA,nA,r.keep kA,t.keep kA,?_,?_,?_,?_,?_,?_,?_,?_,?_,?_,?_,fun i=>?_⟩
  all_goals first|(go_simp;done)|(have u1:l.heap.size<l.heap.size+1+1:=oM;have u2:R.cell? ⟨l.heap.size,0,X⟩=Y (O X 0 0):=((K _ _ (by first|exact u1|(simp only[wZ,Cc];exact u1))).trans (by go_simp));have u3:R.cell? ⟨l.heap.size,1,X⟩=Y (C false):=((K _ _ (by first|exact u1|(simp only[wZ,Cc];exact u1))).trans (by go_simp));go_simp)
 case rest =>
  obtain⟨u,z,x,y,mx,cx,my,cy,sx,sy,rfl,rfl,bG,bH,hx,hN,aw,ax,aZ,bC,a0,bD,a1,bE,a3,bF,an,a4,a5,bL⟩:=hcut;have bN:¬u=w.heap.size+1+1:=oM;have be:¬w.heap.size+1+1=u:=oM;have bO:¬z=w.heap.size+1+1:=oM;have bf:¬w.heap.size+1+1=z:=oM;have bP:u<wc.heap.size:=World.block_lt_of_cell? wc _ aZ;have bQ:z<wc.heap.size:=World.block_lt_of_cell? wc _ a0;have bx:w.heap.size<wc.heap.size:=World.block_lt_of_cell? wc _ a1;have bz:w.heap.size+1<wc.heap.size:=World.block_lt_of_cell? wc _ a3;have aF:w.heap.size+1+1<wc.heap.size:=World.block_lt_of_cell? wc _ an;have aY:Sa (Lm Ed (p.num*q.den+q.num*p.den)):=by
   have h1:=((ac.o.1.mul ad.o.2).add (ad.o.1.mul ac.o.2)).mono (show Dc+Dc+1<=Ed by decide);exact Aa h1
  have au:=bb.ext hx;have av:=bc.ext hx;go_wp2;go_region_held3 (fun W=>W.cell? ⟨w.heap.size,0,X⟩=Y (O a m c)/\W.cell? ⟨w.heap.size,1,X⟩=Y (C s)/\W.cell? ⟨w.heap.size+1,0,X⟩=Y (O a' m' c')/\W.cell? ⟨w.heap.size+1,1,X⟩=Y (C s')/\W.cell? ⟨u,0,X⟩=Y (O x mx cx)/\W.cell? ⟨u,1,X⟩=Y (C sx)/\W.cell? ⟨z,0,X⟩=Y (O y my cy)/\W.cell? ⟨z,1,X⟩=Y (C sy)) ((repeat' (with_reducible refine And.intro ?_ ?_))<;>(first|(go_simp;done)|(refine hx1.d ?_;go_simp;done))) (first|((go_at_call 147;(with_reducible refine(Oo _ (Oa #[O a m c,C s]) (Oa #[O y my cy,C sy]) p.num (q.den:Int) ?_ ?_ aT.o ai.o).mono ?_);(refine au.ext ?_;exact eA);(refine ax.ext ?_;exact eA);rintro e l ⟨r1,rfl,r,hx1⟩;obtain⟨b1,n1,k1,t1,rfl⟩:=r.form;obtain⟨⟨ao,a9⟩,az,aA,aa⟩:=Yb w hx1;(have bg:=hx1.lt (n:=u) (by go_simp));(have bl:=hx1.lt (n:=z) (by go_simp))))|((go_at_call 147;(with_reducible refine(Oo _ (Oa #[O a' m' c',C s']) (Oa #[O x mx cx,C sx]) q.num (p.den:Int) ?_ ?_ aU.o ah.o).mono ?_);(refine av.ext ?_;exact eA);(refine aw.ext ?_;exact eA);rintro e R ⟨r2,rfl,t,j⟩;obtain⟨b2,n2,k2,t2,rfl⟩:=t.form;obtain⟨⟨K,ba⟩,aB,aC,ab⟩:=Yb w j;(have bh:=j.lt (n:=u) (by go_simp));(have bm:=j.lt (n:=z) (by go_simp))))|((go_at_call 179;(with_reducible refine(RI _ (Oa #[O b1 n1 k1,C t1]) (Oa #[O b2 n2 k2,C t2]) (p.num*q.den) (q.num*p.den) ?_ ?_ aj.o ak.o).mono ?_);(refine r.ext ?_;exact eA);(refine t.ext ?_;exact eA);rintro e w3 ⟨r3,rfl,ap,ae⟩;obtain⟨b3,n3,k3,t3,rfl⟩:=ap.form;obtain⟨⟨a6,bI⟩,bq,br,aD⟩:=Yb w ae;(have bi:=ae.lt (n:=u) (by go_simp));(have bn:=ae.lt (n:=z) (by go_simp))))|((go_at_call 147;(with_reducible refine(Oo _ (Oa #[O x mx cx,C sx]) (Oa #[O y my cy,C sy]) (p.den:Int) (q.den:Int) ?_ ?_ ah.o ai.o).mono ?_);(refine aw.ext ?_;exact eA);(refine ax.ext ?_;exact eA);rintro e w4 ⟨r4,rfl,aq,af⟩;obtain⟨b4,n4,k4,t4,rfl⟩:=aq.form;obtain⟨⟨a7,bJ⟩,bs,bt,aE⟩:=Yb w af;(have bj:=af.lt (n:=u) (by go_simp));(have bo:=af.lt (n:=z) (by go_simp))))|((go_at_call 178;(with_reducible refine(tw _ (Oa #[O b3 n3 k3,C t3]) (Oa #[O b4 n4 k4,C t4]) (p.num*q.den+q.num*p.den) ((p.den:Int)*q.den) ?_ ?_ aY.o aX.o (An p q)).mono ?_);(refine ap.ext ?_;exact eA);(refine aq.ext ?_;exact eA);rintro e w5 ⟨r5,rfl,ar,ag⟩;obtain⟨b7,n5,k5,t5,b8,n6,k6,rfl⟩:=ar.form;obtain⟨⟨a8,bK⟩,bu,bv,bw⟩:=Yb w ag;(have bk:=ag.lt (n:=u) (by go_simp));(have bp:=ag.lt (n:=z) (by go_simp)))))
  all_goals go_wp2
  refine bR (v:=Oa #[O b7 n5 k5,C t5,O b8 n6 k6]) (by simp[results,Tryz.results117,go_sem,ao,K,a6,a7,a8,aF,aa,ab,aD,aE,an,a4,a5]) rfl ⟨_,rfl,?_,?_⟩
  ·rw[<-Pw];exact ar.keep kA
  ·have bM:Ba w l:=hx.trans ((eR wc).drew.trans hx1);exact eA
def Pp(w:Z)(f i:M)(p q:Rat)(j:Ab w f p)(l:Ab w i q)(d:Rb Dc p)(e:Rb Dc q):Calls Tryz.prog 115 #[f,i] w (Pf w (p-q)):=oL w f i p q j l ow d e
end
section
open Go.RowKit
def C4:Int:=10000
def nk:(0:Int)<C4:=dM
def tH{x:Int}(h:Int.tmod x 10000<0):Int.tmod x 10000+10000=x%10000/\Int.tdiv x 10000-1=x/10000:=by
 by_cases d:0<=x
 ·rw[Int.tmod_eq_emod_of_nonneg d]at h;omega
 ·obtain⟨y,rfl⟩:∃y,x = -y:=⟨-x,by omega⟩;rw[Int.neg_tmod,Int.neg_tdiv]at *;rw[Int.tmod_eq_emod_of_nonneg oM,Int.tdiv_eq_ediv_of_nonneg oM]at *;omega
def sH{x:Int}(h:¬Int.tmod x 10000<0):Int.tmod x 10000=x%10000/\Int.tdiv x 10000=x/10000:=by
 by_cases d:0<=x
 ·rw[Int.tmod_eq_emod_of_nonneg d,Int.tdiv_eq_ediv_of_nonneg d];exact⟨rfl,rfl⟩
 ·obtain⟨y,rfl⟩:∃y,x = -y:=⟨-x,by omega⟩;rw[Int.neg_tmod,Int.neg_tdiv]at *;rw[Int.tmod_eq_emod_of_nonneg oM,Int.tdiv_eq_ediv_of_nonneg oM]at *;omega
def uJ(f xs:List Int)(i:Nat)(x d:Int)(j:f.length=i)(l:xs[i]?=Y x)(h:dv C4 (xs.take i)=dv C4 f+C4 ^ i*d):dv C4 (xs.take (i+1))=dv C4 (f++[(d+x)%10000])+C4 ^ (i+1)*((d+x)/10000):=by
 rw[Kl C4 xs i x l,Fm,h,j,Int.pow_succ];have e:d+x=(d+x)%10000+C4*((d+x)/10000):=by unfold C4;omega
 generalize (d+x)%10000=r at *
 generalize (d+x)/10000=q at *
 have:C4 ^ i*(d+x)=C4 ^ i*(r+C4*q):=by rw[e]
 grind
def PA(xs f:List Int)(i:Nat)(d:Int)(j:f.length=i)(h:dv C4 xs=dv C4 f+C4 ^ i*d):dv C4 xs=dv C4 (f++[d%10000])+C4 ^ (i+1)*(d/10000):=by
 rw[Fm,h,j,Int.pow_succ];have e:d=d%10000+C4*(d/10000):=by unfold C4;omega
 generalize d%10000=r at *
 generalize d/10000=q at *
 subst e;grind
def ZI(k:Nat):B ^ k<=C4 ^ (2*k):=by
 induction k with
 | zero=>simp
 | succ k f =>
  have e:C4 ^ (2*(k+1))=C4 ^ (2*k)*100000000:=by rw[show 2*(k+1)=2*k+2 by omega,Int.pow_add];rfl
  have d:B ^ (k+1)=B ^ k*16777216:=by rw[Int.pow_succ];rfl
  have p:=Ri Fi k;rw[e,d];omega
def Mo{k:Nat}{n:Int}{ds:List Int}(h:Lm k n)(f:yg C4 ds)(hv:dv C4 ds=(n.natAbs:Int)):ds.length<=2*k:=by
 by_cases d:ds=[]
 ·subst d;simp
 ·have i:=yt nk f d;have j:=ZI k;by_cases e:ds.length<=2*k
  ·exact e
  ·have:=Im (b:=C4) dM (show 2*k<=ds.length-1 by omega);unfold Lm at h;omega
def Vs{a b:Int}(h:a<b):(a-b).sign = -1:=Int.sign_eq_neg_one_of_neg oM
def Ws{a b:Int}(h:b<a):(a-b).sign=1:=Int.sign_eq_one_of_pos oM
def SG{xs d:List Int}(e:yg C4 xs)(hy:yg C4 d)(h:xs.length≠d.length):((xs.length:Int)-(d.length:Int)).sign=(dv C4 xs-dv C4 d).sign:=by
 rcases Nat.lt_or_gt_of_ne h with h|h
 ·rw[Vs oM,Vs (Gr dM e.1 hy h)]
 ·rw[Ws oM,Ws (Gr dM hy.1 e h)]
def iB{l:List Int}{i:Nat}{x:Int}(h:l[i]?=Y x):l=l.take i++x::l.drop (i+1):=by
 have d:=(lS.1 h).1;have e:l.drop i=x::l.drop (i+1):=by
  rw[List.drop_eq_getElem_cons d];rw[(lS.1 h).2]
 rw[<-e,List.take_append_drop]
def TG{xs e:List Int}(R:yg C4 xs)(hy:yg C4 e)(K:xs.length=e.length){i:Nat}{x y:Int}(u:xs[i]?=Y x)(z:e[i]?=Y y)(f:xs.drop (i+1)=e.drop (i+1))(j:x≠y):(x-y).sign=(dv C4 xs-dv C4 e).sign:=by
 have r:=iB u;have t:=iB z;have l:Zd C4 (xs.take i):=fun d f=>R.1 d (List.mem_of_mem_take f);have p:Zd C4 (e.take i):=fun d f=>hy.1 d (List.mem_of_mem_take f);have q:(xs.take i).length=(e.take i).length:=by simp[K]
 rcases Int.lt_or_gt_of_ne j with h|h
 ·rw[Vs h,Vs];rw[r,t,f];exact Gx dM l q p h
 ·rw[Ws h,Ws];rw[r,t,f];exact Gx dM p q.symm l h
def zH{xs d:List Int}{i:Nat}{x:Int}(e:xs[i]?=Y x)(f:d[i]?=Y x)(j:xs.drop (i+1)=d.drop (i+1)):xs.drop i=d.drop i:=by have a:=(lS.1 e).1;have b:=(lS.1 f).1;rw[List.drop_eq_getElem_cons a,List.drop_eq_getElem_cons b,j,(lS.1 e).2,(lS.1 f).2]
def Sh(n:Int):(n.sign = -1/\n<0)\/(n.sign=0/\n=0)\/(n.sign=1/\0<n):=by
 rcases Int.lt_trichotomy n 0 with h|h|h
 ·exact .inl ⟨Int.sign_eq_neg_one_of_neg h,h⟩
 ·exact .inr (.inl ⟨by rw[h];rfl,h⟩)
 ·exact .inr (.inr ⟨Int.sign_eq_one_of_pos h,h⟩)
def MA{b:Int}{os:List Int}{p:Nat}{z:Int}(y:Int)(h:os[p]?=Y z):dv b (os.set p (z+y))=dv b os+b ^ p*y:=by rw[Bn _ h];congr 2;omega
def GN{os d V:List Int}{j:Nat}{s x y:Int}(e:os[j]?=Y x)(hy:d[j]?=Y y)(h:dv C4 os=dv C4 V+s*dv C4 (d.take j)):dv C4 (os.set j (x+s*y))=dv C4 V+s*dv C4 (d.take (j+1)):=by rw[MA _ e,Kl C4 d j y hy,h];grind
def tj(os:List Int)(j:Nat):Prop:=∀p z,os[p]?=Y z -> -10000<=z/\z<=20000/\(j<=p->0<=z/\z<10000)
def tj.start{os:List Int}(h:Zd C4 os):tj os 0:=fun p z d=>by have:=h z (lM d);unfold C4 at this;omega
def tj.step{os:List Int}{j:Nat}{x u:Int}(h:tj os j)(l:os[j]?=Y x)(f:-10000<=u)(i:u<=20000):tj (os.set j u) (j+1):=by
 intro p z d;by_cases e:j=p
 ·subst e;rw[List.getElem?_set_self (lS.1 l).1]at d;cases d;exact⟨f,i,fun h=>by omega⟩
 ·rw[List.getElem?_set_ne e]at d;have:=h p z d;exact⟨this.1,this.2.1,fun q=>this.2.2 oM⟩
def tj.big{os:List Int}{j:Nat}(h:tj os j):∀x∈os,-100000000000000<=x/\x<=100000000000000:=by intro x e;obtain⟨p,d,rfl⟩:=List.getElem_of_mem e;have:=h p _ (gE d);omega
def jO{os d:List Int}{i k:Nat}{x y z V:Int}(e:os[i+k]?=Y z)(hy:d[k]?=Y y)(h:dv C4 os=V+C4 ^ i*(x*dv C4 (d.take k))):dv C4 (os.set (i+k) (z+x*y))=V+C4 ^ i*(x*dv C4 (d.take (k+1))):=by rw[MA _ e,Kl C4 d k y hy,h,Int.pow_add];grind
def GJ{xs d:List Int}{i k:Nat}{x V D:Int}(j:d.length=k)(f:xs[i]?=Y x)(h:D=V+C4 ^ i*(x*dv C4 (d.take k)))(e:V=dv C4 (xs.take i)*dv C4 d):D=dv C4 (xs.take (i+1))*dv C4 d:=by rw[h,e,lT (l:=d) oM,Kl C4 xs i x f,Int.add_mul,Int.mul_assoc]
def Jh(os:List Int)(i k:Nat):Prop:=∀p z,os[p]?=Y z->0<=z/\z<=((i:Int)+1)*100000000/\(i+k<=p->z<=(i:Int)*100000000)
def Jh.start(n:Nat):Jh (List.replicate n 0) 0 0:=fun p z d=>by
 have:=(List.mem_replicate.1 (lM d)).2;omega
def Jh.step{os:List Int}{i k:Nat}{z y:Int}(h:Jh os i k)(f:os[i+k]?=Y z)(j:0<=y)(l:y<=100000000):Jh (os.set (i+k) (z+y)) i (k+1):=by
 intro p u d;by_cases e:i+k=p
 ·subst e;rw[List.getElem?_set_self (lS.1 f).1]at d;cases d;have:=h _ _ f;exact⟨by omega,by omega,fun h=>by omega⟩
 ·rw[List.getElem?_set_ne e]at d;have:=h p u d;exact⟨this.1,this.2.1,fun q=>this.2.2 oM⟩
def Jh.next{os:List Int}{i k:Nat}(h:Jh os i k):Jh os (i+1) 0:=by intro p u d;have:=h p u d;omega
def Jh.big{os:List Int}{i k:Nat}(h:Jh os i k)(f:i<=900000):∀x∈os,-100000000000000<=x/\x<=100000000000000:=by intro x e;obtain⟨p,d,rfl⟩:=List.getElem_of_mem e;have:=h p _ (gE d);omega
def Lx{x y:Int}(d:0<=x/\x<C4)(hy:0<=y/\y<C4):0<=x*y/\x*y<=100000000:=by unfold C4 at *;have e:=Int.mul_nonneg d.1 hy.1;have f:x*y<=9999*9999:=Int.mul_le_mul oM oM hy.1 oM;omega
def mK(n m:Int):n.sign*m.sign=(n*m).sign:=by rw[Int.sign_mul]
def jB(n:Int):n.sign*(n.natAbs:Int)=n:=Int.sign_mul_natAbs n
def mJ(n m:Int)(h:(m.natAbs:Int)<=n.natAbs):0<=(n.natAbs:Int)+n.sign*m.sign*(m.natAbs:Int)/\n.sign*((n.natAbs:Int)+n.sign*m.sign*(m.natAbs:Int))=n+m:=by rcases Sh n with ⟨e,f⟩|⟨e,f⟩|⟨e,f⟩<;>rcases Sh m with ⟨d,i⟩|⟨d,i⟩|⟨d,i⟩<;>rw[e,d]<;>omega
def sK{xs qs:List Int}{i:Nat}{a q D R:Int}(d:xs[i]?=Y a)(e:qs[i]?=Y q)(h:dv C4 (xs.drop (i+1))=dv C4 (qs.drop (i+1))*D+R):dv C4 (xs.drop i)=dv C4 (qs.drop i)*D+(a+C4*R-q*D):=by have f:=(lS.1 d).1;have b':=(lS.1 e).1;rw[List.drop_eq_getElem_cons f,List.drop_eq_getElem_cons b',(lS.1 d).2,(lS.1 e).2,Il,Il,h];grind
def CA{n d Q R N:Int}(hd:d≠0)(h:(n.natAbs:Int)=Q*(d.natAbs:Int)+R)(x:0<=R)(y:R<(d.natAbs:Int)):(¬(n<0/\R≠0)->N=n.sign*Q->(if d<0 then -N else N)=n/d/\R=n%d)/\((n<0/\R≠0)->N=n.sign*Q-1->(if d<0 then -N else N)=n/d/\(d.natAbs:Int)-R=n%d):=by
 have p:∀A r:Int,n=A*d+r->0<=r->r<(d.natAbs:Int)->A=n/d/\r=n%d:=by
  intro A r e K r1;rcases Int.lt_or_gt_of_ne hd with l | l
  ·have:=Int.ediv_emod_unique (a:=n) (b:=-d) (r:=r) (q:=-A) oM;have f:=this.2 ⟨by rw[e];grind,K,by omega⟩;rw[Int.ediv_neg,Int.emod_neg]at f;exact⟨by omega,f.2.symm⟩
  ·have:=Int.ediv_emod_unique (a:=n) (b:=d) (r:=r) (q:=A) l;have f:=this.2 ⟨by rw[e];grind,K,by omega⟩;exact⟨f.1.symm,f.2.symm⟩
 have j:(d.natAbs:Int)=if d<0 then -d else d:=by split<;>omega
 refine⟨fun u t=>p _ _ ?_ x y,fun u t=>p _ _ ?_ oM oM⟩
 ·subst t;rw[j]at h;rcases Sh n with ⟨e,f⟩|⟨e,f⟩|⟨e,f⟩
  ·have i:R=0:=by
    by_cases i:R=0
    ·exact i
    ·exact absurd ⟨f,i⟩ u
   subst i;rw[e];split at h<;>rename_i Aa<;>simp only[Aa,if_true,if_false]<;>grind
  ·subst f;have i:R=0:=by
    (have hp:(0:Int)<if d<0 then -d else d:=by split<;>omega);have hq:Q*(if d<0 then -d else d) = -R:=oM;(have hm:(-R)%(if d<0 then -d else d)=0:=by rw[<-hq];exact Int.mul_emod_left ..);have z:R%(if d<0 then -d else d)=0:=by
     have:=Int.emod_eq_zero_of_dvd ((Int.dvd_neg).1 (Int.dvd_of_emod_eq_zero hm));exact this
    rw[Int.emod_eq_of_lt x (by rw[<-j];exact y)]at z;exact z
   have hQ:Q=0:=by
    subst i;have:Q*(if d<0 then -d else d)=0:=oM;rcases Int.mul_eq_zero.1 this with h|h
    ·exact h
    ·split at h<;>omega
   subst i hQ;simp
  ·rw[e];split at h<;>rename_i Aa<;>simp only[Aa,if_true,if_false]<;>grind
 ·subst t;obtain⟨f,h3⟩:=u;rw[Int.sign_eq_neg_one_of_neg f];rw[j]at h ⊢;split at h<;>rename_i Aa<;>simp only[Aa,if_true,if_false]<;>grind
end
section
open Go.RowKit Go.Shelf
def RB(W:Z)(b:Nat)(q:Rat):Prop:=∃a m c s a2 m2 c2,W.heap[b]?=Y (Ob #[O a m c,C s,O a2 m2 c2] 63 (0,0))/\Ab W (Oa #[O a m c,C s,O a2 m2 c2]) q
def OP{W:Z}{g:Nat}{x y z:M}{T:TypeId}{d:Nat×Nat}(h:W.heap[g]?=Y (Ob #[x,y,z] T d))(u v t:M):(((W.setCell ⟨g,0,X⟩ u).setCell ⟨g,1,X⟩ v).setCell ⟨g,2,X⟩ t).heap[g]?=Y (Ob #[u,v,t] T d):=by simp[World.setCell,Array.getElem?_modify,h]
section
variable {W W':Z} {b b':Nat} {n n':Rat}
def RB.ext(h:RB W b n)(k:Ba W W'):RB W' b n:=by obtain⟨a,m,c,s,d,j,e,f,i⟩:=h;exact⟨a,m,c,s,d,j,e,k.e f,i.ext k⟩
def RB.not(h:RB W b n):ld 2 W b:=by obtain⟨a,m,c,s,f,p,i,d,l⟩:=h;intro cs j e;rw[d]at e;cases e
def RB.rd(h:RB W b n):∃a m c s a2 m2 c2,W.cell? ⟨b,0,X⟩=Y (O a m c)/\W.cell? ⟨b,1,X⟩=Y (C s)/\W.cell? ⟨b,2,X⟩=Y (O a2 m2 c2)/\W.frozen? ⟨b,0,X⟩=false/\W.frozen? ⟨b,1,X⟩=false/\W.frozen? ⟨b,2,X⟩=false/\b<W.heap.size/\Ab W (Oa #[O a m c,C s,O a2 m2 c2]) n:=by obtain⟨a,m,c,s,a2,m2,c2,d,e⟩:=h;exact⟨a,m,c,s,a2,m2,c2,Ca d (i:=0) rfl,Ca d (i:=1) rfl,Ca d (i:=2) rfl,Ua d 0,Ua d 1,Ua d 2,Gb d,e⟩
def RB.put{a d:Option Oc}{m c f c2:Nat}{s:Bool}(h:RB W b n)(j:Ab W (Oa #[O a m c,C s,O d f c2]) n'):RB (((W.setCell ⟨b,0,X⟩ (O a m c)).setCell ⟨b,1,X⟩ (C s)).setCell ⟨b,2,X⟩ (O d f c2)) b n':=by have e:=h.not;obtain⟨l,u,q,y,p,x,r,i,t⟩:=h;exact⟨a,m,c,s,d,f,c2,OP i _ _ _,j.keep ((((Ia.refl _ W).x e _).x (e.set _ _) _).x ((e.set _ _).set _ _) _)⟩
def RB.other{p:Oc}(h:RB W b n)(l:p.block≠b)(q:ld 2 W p.block)(u:M):RB (W.setCell p u) b n:=by obtain⟨a,m,c,s,d,r,f,i,j⟩:=h;exact⟨a,m,c,s,d,r,f,(bS _ _ _ _ (fun e=>l e.symm)).trans i,j.keep ((Ia.refl _ W).x q _)⟩
def RB.new{W0:Z}{a d:Option Oc}{m c e c2:Nat}{s:Bool}(i:Ab W0 (Oa #[O a m c,C s,O d e c2]) n)(f:b=W0.heap.size):RB (W0.alloc (Ob #[O a m c,C s,O d e c2] 63)) b n:=
 ⟨a,m,c,s,d,e,c2,Ec _ _ _ f,i.ext ((eR _).alloc _)⟩
end
def nl(w:Z)(n:Int)(t:-9223372036854775808<=n)(u:n<=9223372036854775807):Calls Tryz.prog 85 #[J I n] w (Pf w (n:Rat)):=by go_in;go_wp2_with(((go_at_call 154;(with_reducible refine(nI _ n t u).mono ?_);rintro e w2 ⟨R,rfl,d,i⟩;obtain⟨l,y,q,K,p,z,r,rfl⟩:=d.form;obtain⟨⟨f,x⟩,j⟩:=Md w i)));exact bR (v:=Oa #[O l y q,C K,O p z r]) (by simp[results,Tryz.results85,go_sem,f]) rfl ⟨_,rfl,d.keep kA,eA⟩
def GC(w:Z)(va vb:M)(p q:Rat)(ha:Ab w va p)(hb:Ab w vb q)(d:Rb Dc p)(f:Rb Dc q):Calls Tryz.prog 155 #[va,vb] w (Pf w (p/q)):=by obtain⟨a,m,c,s,a2,m2,c2,rfl⟩:=ha.form;obtain⟨a',m',c',s',K,ac,R,rfl⟩:=hb.form;have x:=Aa d;have y:=Aa f;clear d f;obtain⟨er,i⟩:∃er:Int,er=if (p.den:Int)*q.num=0 then 9 else 0:=⟨_,rfl⟩;have z:=Aa i;clear i;go_in;go_wp2_with(((go_at_call 201;(with_reducible refine(rK _ (Oa #[O a m c,C s,O a2 m2 c2]) (Oa #[O a' m' c',C s',O K ac R]) p q ?_ ?_ x.o y.o).mono ?_);(refine ha.ext ?_;exact eA);(refine hb.ext ?_;exact eA);rw[<-z.o];rintro e w1 ⟨r1,rfl,j,ab⟩;obtain⟨b1,n1,k1,t1,b2,n2,k2,rfl⟩:=j.form;obtain⟨⟨aa,af⟩,ad,ae,l⟩:=Yb w ab;have r:w.heap.size<w1.heap.size+1:=oM;have t:w.heap.size+1<w1.heap.size+1:=oM;have u:w.heap.size+1+1<w1.heap.size+1:=oM)));exact bR (v:=Oa #[O b1 n1 k1,C t1,O b2 n2 k2]) (by simp[results,Tryz.results155,go_sem,aa,l]) rfl ⟨_,rfl,j.keep kA,eA⟩
def tr{k:Nat}:∀{cs:List (List M)}{i j:Nat}{c:List M},(∀c∈cs,c.length=k)->cs[i]?=Y c->j<k->cs.flatten[i*k+j]?=c[j]?
 | [],i,j,c,_,h,_=>by simp at h
 | d::cs,0,j,c,hk,h,hj=>by
  simp at h;subst h;rw[List.flatten_cons,Nat.zero_mul,Nat.zero_add,List.getElem?_append_left (by rw[hk d (by simp)];exact hj)]
 | d::cs,i+1,j,c,hk,h,hj=>by
  have e:=hk d sM;rw[List.flatten_cons,List.getElem?_append_right (by rw[e,Nat.add_mul];omega),e,show (i+1)*k+j-k=i*k+j by rw[Nat.add_mul];omega];exact tr (fun c f=>hk c (mC _ f)) (by simpa using h) hj
def Sl{α:Type}(T:TypeId)(k:Nat)(P:Z->List M->α->Prop)(w:Z)(v:M)(xs:List α):Prop:=
 ∃cs:List (List M),cs.length=xs.length/\(∀c∈cs,c.length=k)/\Rd w T k v xs.length cs.flatten/\∀(i:Nat) c x,cs[i]?=Y c->xs[i]?=Y x->P w c x
section
variable {α:Type} {T:TypeId} {k:Nat} {P:Z->List M->α->Prop} {w w':Z} {v:M} {xs:List α} {a:Option Oc} {n c:Nat}
def Sl.form(h:Sl T k P w v xs):∃a c,v=O a xs.length c:=by obtain⟨cs,_,_,h,_⟩:=h;exact h.form
def Sl.len(h:Sl T k P w (O a n c) xs):n=xs.length:=by obtain⟨cs,_,_,h,_⟩:=h;exact h.eqn
def Sl.le(h:Sl T k P w (O a n c) xs):xs.length<=c/\c<=maxLen:=by obtain⟨cs,_,_,h,_⟩:=h;exact h.le
def Sl.ext(h:Sl T k P w v xs)(l:∀c x,P w c x->P w' c x)(q:Ba w w'):Sl T k P w' v xs:=by obtain⟨cs,d,e,f,j⟩:=h;exact⟨cs,d,e,f.ext q,fun i c x p r=>l _ _ (j i c x p r)⟩
def Sl.keep(h:Sl T k P w v xs)(l:∀c x,P w c x->P w' c x)(q:Ia T w w'):Sl T k P w' v xs:=by obtain⟨cs,d,e,f,j⟩:=h;exact⟨cs,d,e,f.keep q,fun i c x p r=>l _ _ (j i c x p r)⟩
def Sl.at(h:Sl T k P w (O a n c) xs){i:Nat}{x:α}(r:xs[i]?=Y x):∃b o d,a=Y ⟨b,o,X⟩/\b<w.heap.size/\d.length=k/\P w d x/\∀(j:Nat) u,d[j]?=Y u->w.cell? ⟨b,o+i*k+j,X⟩=Y u:=by
 obtain⟨cs,t,p,y,z⟩:=h;have hi:=(lS.1 r).1;obtain⟨d,f⟩:∃d,cs[i]?=Y d:=⟨cs[i]' oM,by simp[t,hi]⟩;obtain⟨b,o,rfl,K,_,R⟩:=y.open oM;have e:=p d (lM f);refine⟨b,o,d,rfl,K,e,z i d x f r,fun j u q=>?_⟩;have l:j<k:=by rw[<-e];exact(lS.1 q).1
 have:=R (i*k+j) u (by rw[tr p f l];exact q)
 rwa [<-Nat.add_assoc]at this
end
def PR(w:Z)(c:List M)(q:Rat):Prop:=Ab w (Oa c.toArray) q
abbrev Kh(w:Z)(v:M)(qs:List Rat):Prop:=Sl 63 3 PR w v qs
def Kh.f{w w':Z}{v:M}{qs:List Rat}(h:Kh w v qs)(k:Ba w w'):Kh w' v qs:=Sl.ext h (fun _ _ h=>Ab.ext h k) k
def Kh.at'{w:Z}{a:Option Oc}{n c:Nat}{qs:List Rat}(h:Kh w (O a n c) qs){i:Nat}{q:Rat}(t:qs[i]?=Y q):∃b o a1 m1 c1 s1 a2 m2 c2,a=Y ⟨b,o,X⟩/\b<w.heap.size/\Ab w (Oa #[O a1 m1 c1,C s1,O a2 m2 c2]) q/\w.cell? ⟨b,o+i*3,X⟩=Y (O a1 m1 c1)/\w.cell? ⟨b,o+i*3+1,X⟩=Y (C s1)/\w.cell? ⟨b,o+i*3+2,X⟩=Y (O a2 m2 c2):=by
 obtain⟨b,o,d,rfl,r,u,p,j⟩:=Sl.at h t;have f:Ab w (Oa d.toArray) q:=p;obtain⟨a1,m1,c1,s1,a2,m2,c2,e⟩:=f.form;have l:d=[O a1 m1 c1,C s1,O a2 m2 c2]:=by
  have:d.toArray=#[O a1 m1 c1,C s1,O a2 m2 c2]:=by cases e;rfl
  simpa using congrArg Array.toList this
 subst l;exact⟨b,o,a1,m1,c1,s1,a2,m2,c2,rfl,r,f,j 0 _ rfl,j 1 _ rfl,j 2 _ rfl⟩
def xd(w:Z)(v:M)(n:Int):Prop:=∃sl ds,v=Oa #[J I n.sign,sl]/\Pc 3 w sl ds/\yg C4 ds/\dv C4 ds=(n.natAbs:Int)
section
variable {w w':Z} {v:M} {n:Int} {s:Int} {a:Option Oc} {m c:Nat}
def xd.ext(h:xd w v n)(k:Ba w w'):xd w' v n:=by obtain⟨sl,ds,d,e,f,i⟩:=h;exact⟨sl,ds,d,e.ext k,f,i⟩
def xd.keep(h:xd w v n)(k:Ia 3 w w'):xd w' v n:=by obtain⟨sl,ds,d,e,f,i⟩:=h;exact⟨sl,ds,d,e.keep k,f,i⟩
def xd.form(h:xd w v n):∃a m c,v=Oa #[J I n.sign,O a m c]:=by obtain⟨sl,ds,rfl,d,e,f⟩:=h;obtain⟨a,c,rfl⟩:=d.form;exact⟨_,_,_,rfl⟩
def xd.j(h:xd w v n):∃s a m c,v=Oa #[J I s,O a m c]/\s=n.sign:=by obtain⟨a,m,c,rfl⟩:=h.form;exact⟨_,_,_,_,rfl,rfl⟩
def xd.sgn(h:xd w (Oa #[J I s,O a m c]) n):s=n.sign:=by obtain⟨sl,ds,d,e,f,i⟩:=h;cases d;rfl
def xd.open(h:xd w (Oa #[J I s,O a m c]) n):∃ds,ds.length=m/\Pc 3 w (O a m c) ds/\yg C4 ds/\dv C4 ds=(n.natAbs:Int):=by obtain⟨sl,ds,e,d,f,i⟩:=h;cases e;exact⟨ds,d.len.symm,d,f,i⟩
def xd.nil(w:Z):xd w (Oa #[J I 0,O X 0 0]) 0:=⟨_,[],rfl,Pc.nil _ _,yg.nil _,rfl⟩
end
def Ih(w:Z)(n:Int)(e:Ending)(w':Z):Prop:=∃r,e=.returned r/\xd w' r n/\Ba w w'
def Jf(w:Z)(base:Nat)(v:M)(n:Int):Prop:=∃sl ds,v=Oa #[J I n.sign,sl]/\Mb 3 w base sl ds/\yg C4 ds/\dv C4 ds=(n.natAbs:Int)
section
variable {w w':Z} {v:M} {n:Int} {base:Nat}
def Jf.isN(h:Jf w base v n):xd w v n:=by obtain⟨sl,ds,d,e,f,i⟩:=h;exact⟨sl,ds,d,e.ints,f,i⟩
def Jf.keep(h:Jf w base v n)(k:Ia 3 w w'):Jf w' base v n:=by obtain⟨sl,ds,d,e,f,i⟩:=h;exact⟨sl,ds,d,e.keep k,f,i⟩
def Jf.ext(h:Jf w base v n)(k:Ba w w'):Jf w' base v n:=h.keep k.keep
def Jf.mono{b':Nat}(h:Jf w base v n)(j:b'<=base):Jf w b' v n:=by obtain⟨sl,ds,d,e,f,i⟩:=h;exact⟨sl,ds,d,e.mono j,f,i⟩
def Jf.j(h:Jf w base v n):∃s a m c,v=Oa #[J I s,O a m c]/\s=n.sign:=h.isN.j
def Jf.nil(w:Z)(base:Nat):Jf w base (Oa #[J I 0,O X 0 0]) 0:=⟨_,[],rfl,Mb.nil _ _ _,yg.nil _,rfl⟩
end
def Fk(w:Z)(n:Int)(e:Ending)(w':Z):Prop:=∃r,e=.returned r/\Jf w' w.heap.size r n/\Ba w w'
def Qu{f:FuncId}{args:Array M}{w:Z}{n:Int}(h:Calls Tryz.prog f args w (Fk w n)):Calls Tryz.prog f args w (Ih w n):=
 h.mono fun _ _ ⟨r,d,e,i⟩=>⟨r,d,e.isN,i⟩
def Ok:(Tryz.prog.info? 3).map (fun i=>(i.zero,i.size,i.bytes))=Y (Y (J I 0),1,8):=kM
def yF{s D N:Int}(f:s=1\/s = -1)(d:0<D)(e:N=s*D):N.sign=s/\(N.natAbs:Int)=D:=by
 subst e;rcases f with rfl|rfl
 ·rw[Int.one_mul,Int.sign_eq_one_of_pos d];omega
 ·rw[Int.neg_one_mul,Int.sign_eq_neg_one_of_neg oM];omega
def rR(xs:List Int)(n:Nat)(w:Z)(t5 f j:M)(wr:Z):Prop:=
 ∃(i:Nat)(e:List Int)(d:Int),j=J I i/\f=J I d/\e.length=i/\Zd C4 e/\dv C4 (xs.take i)=dv C4 e+C4 ^ i*d/\ -100000000000<=d/\d+((i-n:Nat):Int)<=100000000000/\
  Mb 3 wr (w.heap.size+1) t5 e/\Ba w wr/\w.heap.size<wr.heap.size/\wr.heap[w.heap.size]?=Y (Ob #[J I 0,O X 0 0] 66 (0,0))
def qR(D:Int)(w:Z)(t5:M)(wr:Z):Prop:=
 ∃(d:List Int),dv C4 d=D/\Zd C4 d/\d.length<=1000000000000/\Mb 3 wr (w.heap.size+1) t5 d/\Ba w wr/\w.heap.size<wr.heap.size/\wr.heap[w.heap.size]?=Y (Ob #[J I 0,O X 0 0] 66 (0,0))
def xA{xs e:List Int}{i:Nat}{x d r q:Int}(f:e.length=i)(p:xs[i]?=Y x)(h:dv C4 (xs.take i)=dv C4 e+C4 ^ i*d)(l:r=(d+x)%10000)(j:q=(d+x)/10000):dv C4 (xs.take (i+1))=dv C4 (e++[r])+C4 ^ (i+1)*q:=by subst l j;exact uJ e xs i x d f p h
def DI{xs e:List Int}{i:Nat}{d r q:Int}(f:e.length=i)(p:xs.length<=i)(h:dv C4 (xs.take i)=dv C4 e+C4 ^ i*d)(l:r=d%10000)(j:q=d/10000):dv C4 (xs.take (i+1))=dv C4 (e++[r])+C4 ^ (i+1)*q:=by subst l j;rw[lT oM]at h ⊢;exact PA xs e i d f h
def PG{xs e:List Int}{i:Nat}{d:Int}(p:e.length=i)(q:xs.length<=i)(l:Zd C4 e)(h:dv C4 (xs.take i)=dv C4 e+C4 ^ i*d)(t:0<=dv C4 xs):0<=d:=by
 rw[lT q]at h;have f:=(Gi nk l).2;rw[p]at f;have r:=Ri nk i;by_cases j:0<=d
 ·exact j
 ·have:C4 ^ i*d<=C4 ^ i*(-1):=Int.mul_le_mul_of_nonneg_left oM oM;omega
def Fv(w:Z)(s:Int)(v:M)(xs:List Int)(N:Int)(hI:Pc 3 w v xs)(av:xs.length<=2000000)(hx:∀x∈xs,-100000000000000<=x/\x<=100000000000000)(ai:0<=dv C4 xs)(hN:N=s*dv C4 xs)(hs:dv C4 xs≠0->s=1\/s = -1):Calls Tryz.prog 152 #[J I s,v] w (Fk w N):=by
 obtain⟨a,c,rfl⟩:=hI.form;obtain⟨n,hn⟩:=gX xs.length;rw[hn]at av ⊢;have Hn:=Aa hn;have HI:=Aa hI;have HN:=Aa hN;have Hs:=Aa hs;have ao:=Aa ai;clear hn hI hN hs ai;go_in;go_wp2;go_loopw [5,6,7] (rR xs n w) (fun _ t6 t7 _=>(n-(intOf t7).toNat)*1000000000000+(intOf t6+100000000000).toNat)
 case atStart=>exact⟨0,[],0,rfl,rfl,rfl,Zd.nil _,by simp,by omega,by omega,Mb.nil _ _ _,(eR w).alloc _,by simp,aN w _⟩
 case round =>
  obtain⟨i,ys,cy,rfl,rfl,aA,ab,hv,aF,aG,y,aa,aw,aj⟩:=hrel;have l:=Aa aA;have Hv:=Aa hv;have z:=Aa aj;clear aA hv aj;obtain⟨oa,oc,rfl⟩:=y.form;rw[l.o]at y ⊢;by_cases am:i<n
  ·have aB:ys.length<=1000000000000:=by rw[l.o];omega
   obtain⟨b,o,rfl,aM,ar⟩:=(HI.o.ext aa).open (by rw[Hn.o];omega);obtain⟨x,ag⟩:∃x,xs[i]?=Y x:=⟨xs[i]'(by rw[Hn.o];exact am),by simp[Hn.o,am]⟩;have al:=ar i x ag;have aQ:=hx x (lM ag);have aq:=Aa ag;have Hx:=Aa hx;clear ag ar hx;have g1:(i:Int)<(n:Int):=oM;have g2:(0:Int)<=(i:Int):=oM;obtain⟨r,hr⟩:=gX (Int.tmod (cy+x) 10000);obtain⟨q,hq⟩:=gX (Int.tdiv (cy+x) 10000);by_cases ad:r<0
   ·obtain⟨e1,e2⟩:=tH (x:=cy+x) (by rw[hr];exact ad);rw[hr]at e1;rw[hq]at e2;have E1:=Aa e1;have E2:=Aa e2;have r1:-10000<=r:=oM;have q1:-100000000000<=q-1:=oM;have q2:q-1<=99999999999:=oM;clear e1 e2;go_wp2_with(at_builtin;refine mj Ok Tryz.underlying64 rfl _ _ rfl rfl y rfl oM oM ?_;intro v' w1 d f t);go_roundw
    case rel =>
     refine⟨i+1,_,_,by go_num,rfl,by simp[l.o],ab.snoc oM (by unfold C4;omega),xA l.o aq.o Hv.o E1.o E2.o,by omega,by omega,d,aa.y f oM,?_,?_⟩
     ·have:=f.size;omega
     ·exact t.get z.o dM
    case measure=>simp[intOf];omega
   ·obtain⟨e1,e2⟩:=sH (x:=cy+x) (by rw[hr];exact ad);rw[hr]at e1;rw[hq]at e2;have E1:=Aa e1;have E2:=Aa e2;have r1:0<=r:=oM;have r2:r<10000:=oM;have q1:-100000000000<=q:=oM;have q2:q<=99999999999:=oM;clear e1 e2;go_wp2_with(at_builtin;refine mj Ok Tryz.underlying64 rfl _ _ rfl rfl y rfl oM oM ?_;intro v' w1 d f t);go_roundw
    case rel =>
     refine⟨i+1,_,_,by go_num,rfl,by simp[l.o],ab.snoc oM (by unfold C4;omega),xA l.o aq.o Hv.o E1.o E2.o,by omega,by omega,d,aa.y f oM,?_,?_⟩
     ·have:=f.size;omega
     ·exact t.get z.o dM
    case measure=>simp[intOf];omega
  ·have aH:=PG l.o (by rw[Hn.o];omega) ab Hv.o ao.o;by_cases ae:cy=0
   ·have ay:dv C4 ys=dv C4 xs:=by
     have:=Hv.o;rw[ae,lT (by rw[Hn.o];omega)]at this;rw[this];simp
    have ap:=Aa ay;subst ae;clear ay aH aF Hv;have ak:i<=1000000000000:=oM;have g1:¬(i:Int)<(n:Int):=oM;go_wp2;go_loopw [5] (qR (dv C4 xs) w) (fun t5 _=>match t5 with | O _ n _=>n|_=>0)
    case atStart=>exact⟨ys,ap.o,ab,by rw[l.o];exact ak,y,aa,aw,z.o⟩
    case round =>
     clear y aa aw z ap l ak aG ab g1 am;obtain⟨us,az,an,aJ,d,aK,ax,j⟩:=hrel;obtain⟨a3,c3,rfl⟩:=d.form;have aC:=Ca j (i:=0) (u:=J I 0) rfl;have aD:=Ca j (i:=1) (u:=O X 0 0) rfl;have aS:=Ua j 0;have aT:=Ua j 1;have K:=Aa j;have ac:=Aa az;clear j az;rcases sD us with rfl|⟨R,x,rfl⟩
     ·have hd:decide ((0:Int)<(([]:List Int).length:Int))=false:=sM;go_wp2;refine bR (v:=Oa #[J I 0,O X 0 0]) (by simp[results,Tryz.results152,go_sem,aC,aD]) rfl ⟨_,rfl,?_,eA⟩;(have e:N=0:=by rw[HN.o,<-ac.o];simp);rw[e];exact Jf.nil _ _
     ·obtain⟨g,rfl,hg,aO⟩:=d.blk sM;have al:wr.cell? ⟨g,R.length,X⟩=Y (J I x):=d.cell sM;have au:=d.ints.le;simp only[lA,List.length_singleton]at d au aJ ⊢;unfold maxLen at au;by_cases af:x=0
      ·subst af;go_wp2;go_roundw
       case rel =>
        refine⟨R,?_,(Zd.of_append an).1,by omega,d.pop,aK,ax,K.o⟩;have:=ac.o;rw[Fm]at this;omega
       case measure=>simp
      ·(have aP:(x==0)=false:=by simpa using af);have aE:=Aa af;clear af;have ah:yg C4 (R++[x]):=⟨an,by simpa using aE.o⟩;have hD:0<dv C4 (R++[x]):=by
        have h1:=(Gi nk an).1;(have h2:dv C4 (R++[x])≠0:=fun e=>by have:=(nC nk ah).1 e;simp at this);omega
       obtain⟨n1,n2⟩:=yF (Hs.o (by rw[<-ac.o];omega)) (by rw[<-ac.o];exact hD) HN.o;have N1:=Aa n1;have N2:=Aa n2;clear n1 n2 hD;go_wp2;refine bR (v:=Oa #[J I s,O (Y ⟨g,0,X⟩) (R.length+1) c3]) (by simp[results,Tryz.results152,go_sem,aC,aD]) rfl ⟨_,rfl,⟨_,R++[x],(by rw[N1.o]),?_,ah,ac.o.trans N2.o.symm⟩,eA⟩;refine((d.setOther (p:=⟨w.heap.size,0,X⟩) (d.ne_block K.o dM) _).setOther (p:=⟨w.heap.size,1,X⟩) (d.ne_block K.o dM) _).mono (Nat.le_succ _)
   ·have aR:0<cy:=oM;(have aI:xs.length<=i:=by rw[Hn.o];omega);(have aB:ys.length<=1000000000000:=by rw[l.o];omega);(have aL:(cy != 0)=true:=by simpa using ae);have g1:¬(i:Int)<(n:Int):=oM;obtain⟨r,hr⟩:=gX (Int.tmod cy 10000);obtain⟨q,hq⟩:=gX (Int.tdiv cy 10000);(have e1:r=cy%10000:=by rw[<-hr,Int.tmod_eq_emod_of_nonneg oM]);(have e2:q=cy/10000:=by rw[<-hq,Int.tdiv_eq_ediv_of_nonneg oM]);have r1:0<=r:=oM;have r2:r<10000:=oM;have q1:0<=q:=oM;have q2:q<cy:=oM;have ad:¬r<0:=oM;have E1:=Aa e1;have E2:=Aa e2;clear e1 e2 ae;go_wp2_with(at_builtin;refine mj Ok Tryz.underlying64 rfl _ _ rfl rfl y rfl oM oM ?_;intro v' w1 d f t);go_roundw
    case rel =>
     refine⟨i+1,_,_,by go_num,rfl,by simp[l.o],ab.snoc oM (by unfold C4;omega),DI l.o aI Hv.o E1.o E2.o,by omega,by omega,d,aa.y f oM,?_,?_⟩
     ·have:=f.size;omega
     ·exact t.get z.o dM
    case measure=>simp[intOf];omega
def Br(w:Z)(s:Int)(v:M)(xs:List Int)(N:Int)(f:Pc 3 w v xs)(d:xs.length<=2000000)(l:∀x∈xs,-100000000000000<=x/\x<=100000000000000)(e:0<=dv C4 xs)(i:N=s*dv C4 xs)(j:dv C4 xs≠0->s=1\/s = -1):Calls Tryz.prog 152 #[J I s,v] w (Ih w N):=Qu (Fv w s v xs N f d l e i j)
def Ka(T:TypeId)(k:Nat)(w:Z)(base:Nat)(v:M)(cs:List (List M)):Prop:=(∀c∈cs,c.length=k)/\w.ownsRow base T k v cs.length cs.flatten
def Jl{k:Nat}:∀{cs:List (List M)},(∀c∈cs,c.length=k)->cs.flatten.length=cs.length*k
 | [],_=>by simp
 | d::cs,h=>by
  rw[List.flatten_cons,lA,Jl (fun c e=>h c (mC _ e)),h d (by simp),List.length_cons,Nat.add_mul];omega
def Jr{k:Nat}:∀{cs:List (List M)}(m:Nat),(∀c∈cs,c.length=k)->m<=cs.length->cs.flatten.take (m*k)=(cs.take m).flatten
 | _,0,_,_=>by simp
 | [],m+1,_,h=>by simp at h
 | d::cs,m+1,h,hm=>by
  have e:=h d sM;rw[List.flatten_cons,List.take_append,e,lT (by rw[e,Nat.add_mul];omega),show (m+1)*k-k=m*k by rw[Nat.add_mul];omega,
   Jr m (fun c f=>h c (mC _ f)) (by simpa using hm),List.take_succ_cons,List.flatten_cons]
section
variable {T:TypeId} {k:Nat} {w w':Z} {base:Nat} {v:M} {cs ds:List (List M)} {a:Option Oc} {n c g:Nat}
def Ka.rd(h:Ka T k w base v cs):Rd w T k v cs.length cs.flatten:=Rd.of_own h.2
def Ka.sl{α:Type}{P:Z->List M->α->Prop}{xs:List α}(h:Ka T k w base v cs)(d:cs.length=xs.length)(e:∀(i:Nat) c x,cs[i]?=Y c->xs[i]?=Y x->P w c x):Sl T k P w v xs:=
 ⟨cs,d,h.1,by rw[<-d];exact h.rd,e⟩
def Ka.nil(T:TypeId)(k:Nat)(w:Z)(base:Nat):Ka T k w base (O X 0 0) []:=⟨by simp,World.ownsRow_nil w base T k⟩
def Ka.form(h:Ka T k w base v cs):∃a c,v=O a cs.length c:=Uq h.2
def Ka.i(h:Ka T k w base v cs):∃a n c,v=O a n c:=by obtain⟨a,c,h⟩:=Uq h.2;exact⟨a,_,c,h⟩
def Ka.len(h:Ka T k w base (O a n c) cs):n=cs.length:=by obtain⟨a,e,d⟩:=Uq h.2;cases d;rfl
def Ka.keep(h:Ka T k w base v cs)(j:Ia T w w'):Ka T k w' base v cs:=by
 obtain⟨e,l,d⟩:=h;refine⟨e,l,?_⟩;rcases d with d|⟨g,cap,cur,hv,f,i,r⟩
 ·exact .inl d
 ·exact .inr ⟨g,cap,cur,hv,f,j _ _ _ i,r⟩
def Ka.ext(h:Ka T k w base v cs)(d:Ba w w'):Ka T k w' base v cs:=h.keep d.keep
def Ka.grown(h:Ka T k w base v cs){row:Option Nat}(e:w.grownBy w' row)(d:v.ownBlock=X\/v.ownBlock≠row):Ka T k w' base v cs:=⟨h.1,World.ownsRow.kept h.2 e d⟩
def Ka.setOther(h:Ka T k w base v cs){p:Oc}(f:v.ownBlock≠Y p.block)(u:M):Ka T k (w.setCell p u) base v cs:=
 h.grown (row:=Y p.block) ⟨rfl,rfl,rfl,by simp[World.setCell],fun k _ d=>bS _ _ _ _ (by intro e;exact d (by rw[e]))⟩ (.inr f)
def Ka.mono{b':Nat}(h:Ka T k w base v cs)(i:b'<=base):Ka T k w b' v cs:=by
 obtain⟨e,f,d⟩:=h;refine⟨e,f,?_⟩;rcases d with d|⟨g,cap,cur,hv,j,r⟩
 ·exact .inl d
 ·exact .inr ⟨g,cap,cur,hv,by omega,r⟩
def Ka.blk(h:Ka T k w base (O a n c) cs)(f:0<cs.length):∃g,a=Y ⟨g,0,X⟩/\base<=g/\g<w.heap.size:=by have d:=h.len;subst d;obtain⟨g,rfl,e⟩:=sC h.2 f;exact⟨g,rfl,e,(World.ownsRow.lt h.2 g rfl).2⟩
def Ka.cell(h:Ka T k w base (O (Y ⟨g,0,X⟩) n c) cs){i j:Nat}{d:List M}{u:M}(e:cs[i]?=Y d)(l:d[j]?=Y u):w.cell? ⟨g,i*k+j,X⟩=Y u:=by
 have r:=h.len;subst r;have p:=(lS.1 e).1;have f:=h.1 d (lM e);have q:j<k:=by rw[<-f];exact(lS.1 l).1
 rw[World.ownsRow.cellAt h.2 _ (by
  calc i*k+j<i*k+k:=oM
   _=(i+1)*k:=by rw[Nat.add_mul];omega
   _<=cs.length*k:=Nat.mul_le_mul_right _ p),tr h.1 e q]
 exact l
def Ka.frozen(h:Ka T k w base (O (Y ⟨g,0,X⟩) n c) cs)(i:Nat):w.frozen? ⟨g,i,X⟩=false:=by have d:=h.len;subst d;exact World.ownsRow.frozenAt h.2 i
def RE{k:Nat}:∀{cs:List (List M)}{i j:Nat}{d:List M},(∀c∈cs,c.length=k)->cs[i]?=Y d->j<k->∀u,cs.flatten.set (i*k+j) u=(cs.set i (d.set j u)).flatten
 | [],i,j,d,_,h,_,_=>by simp at h
 | e::cs,0,j,d,hk,h,hj,u=>by
  simp at h;subst h;rw[List.flatten_cons,Nat.zero_mul,Nat.zero_add,List.set_append_left _ _ (by rw[hk e (by simp)];exact hj),List.set_cons_zero,List.flatten_cons]
 | e::cs,i+1,j,d,hk,h,hj,u=>by
  have f:=hk e sM;rw[List.flatten_cons,List.set_append_right _ _ (by rw[f,Nat.add_mul];omega),f,show (i+1)*k+j-k=i*k+j by rw[Nat.add_mul];omega,
   RE (fun c l=>hk c (mC _ l)) (by simpa using h) hj u,List.set_cons_succ,List.flatten_cons]
def Ka.stored(h:Ka T k w base (O (Y ⟨g,0,X⟩) n c) cs){i j:Nat}{d:List M}(p:cs[i]?=Y d)(r:j<k)(u:M):Ka T k (w.setCell ⟨g,i*k+j,X⟩ u) base (O (Y ⟨g,0,X⟩) n c) (cs.set i (d.set j u)):=by
 have t:=h.len;subst t;have l:=h.1 d (lM p);refine⟨?_,?_⟩
 ·intro e q;rcases List.mem_or_eq_of_mem_set q with f|f
  ·exact h.1 e f
  ·subst f;simpa using l
 ·have:=(World.ownsRow.stored h.2 (i*k+j) u).1;rw[RE h.1 p r u]at this;rw[List.length_set];exact this
end
def nw{P:Program}{T t:TypeId}(ty:TypeId){k bytes:Nat}{z:M}{w:Z}{base:Nat}{v:M}{cs ds:List (List M)}{ad:Oc}{m c:Nat}(p:(P.info? T).map (fun i=>(i.zero,i.size,i.bytes))=Y (Y z,k,bytes))(ae:z.cells.size=k)(hk:0<k)(R:bytes<=1000)(ht:P.underlying t=Y (.slice T))(d:Ka T k w base v cs)(hm:ds.length=m)(hd:∀c∈ds,c.length=k)(q:∀(j:Nat) u,ds.flatten[j]?=Y u->w.cell? (ad.add j)=Y u)(h1:∀u∈ds.flatten,u.oneCell'=true)(x:cs.length+m<=100000000000)(f:base<=w.heap.size):∃v' w',(Builtin.append_ #[t,t] ty #[v,O (Y ad) m c]).run P w = .ok v' w'/\Ka T k w' base v' (cs++ds)/\w.grownBy w' v.ownBlock/\(v'.ownBlock=v.ownBlock\/v'.ownBlock=Y w.heap.size):=by
 obtain⟨i,hi,aa,ab,ac⟩:=info_parts p;subst hm;have hb:(cs.length+ds.length)*bytes<=140737488355328:=by
  calc (cs.length+ds.length)*bytes<=100000000000*1000:=Nat.mul_le_mul x R
   _<=140737488355328:=dM
 obtain⟨v',w',K,r,l,_,y⟩:=run_append_own_at (P:=P) w base t ty T i z k bytes ht hi aa ab ac ae hk v cs.length cs.flatten d.2 ad ds.length c ds.flatten (Jl hd)
  q h1 (by unfold maxLen;omega) hb f
 refine⟨v',w',K,⟨?_,?_⟩,l,y⟩
 ·intro e he;rcases List.mem_append.1 he with h|h
  ·exact d.1 e h
  ·exact hd e h
 ·rw[lA,List.flatten_append];exact r
def zh{P:Program}{T t:TypeId}{k bytes:Nat}{z:M}{w:Z}{base:Nat}{v:M}{cs:List (List M)}{ops:Array Oper}{rest:List Oper}{o:Oper}{a:Act}{Q:Exit->Act->Z->Prop}(e:(P.info? T).map (fun i=>(i.zero,i.size,i.bytes))=Y (Y z,k,bytes))(R:z.cells.size=k)(hk:0<k)(r:bytes<=1000)(ht:P.underlying t=Y (.slice T))(y:o.guard=X)(s x:Operand)(ho:o.op = .call { callee:=.builtin .append,args:=#[s,x],argTypes:=#[t,t] })(hs:a.eval s=v)(p:Ka T k w base v cs){ad:Oc}{m c:Nat}(hx:a.eval x=O (Y ad) m c)
  (ds:List (List M))(hm:ds.length=m)(hd:∀c∈ds,c.length=k)(f:∀(j:Nat) u,ds.flatten[j]?=Y u->w.cell? (ad.add j)=Y u)(h1:∀u∈ds.flatten,u.oneCell'=true)(l:cs.length+m<=100000000000)(d:base<=w.heap.size)
  (h:∀v' w',Ka T k w' base v' (cs++ds)->w.grownBy w' v.ownBlock->(v'.ownBlock=v.ownBlock\/v'.ownBlock=Y w.heap.size)->wpList P ops Q rest (a.put o.dst v') w'):wpList P ops Q (o::rest) a w:=by obtain⟨v',w',q,h2,h3,h4⟩:=nw (P:=P) o.type e R hk r ht p hm hd f h1 l d (c:=c);refine wpList_plain y fun K hK=>?_;unfold Oper.wp;simp[execOp,ho,resolve,invoke,builtin,hs,hx,q,Result.andThen];exact hK _ _ (h v' w' h2 h3 h4)
def lB{P:Program}{T t:TypeId}(ty:TypeId){k bytes:Nat}{z:M}{w:Z}{base:Nat}{v sl:M}{cs ds:List (List M)}(f:(P.info? T).map (fun i=>(i.zero,i.size,i.bytes))=Y (Y z,k,bytes))(ae:z.cells.size=k)(hk:0<k)(R:bytes<=1000)(ht:P.underlying t=Y (.slice T))(l:Ka T k w base v cs)(hd:∀c∈ds,c.length=k)(d:Rd w T k sl ds.length ds.flatten)(h1:∀u∈ds.flatten,u.oneCell'=true)(x:cs.length+ds.length<=100000000000)(p:base<=w.heap.size):∃v' w',(Builtin.append_ #[t,t] ty #[v,sl]).run P w = .ok v' w'/\Ka T k w' base v' (cs++ds)/\w.grownBy w' v.ownBlock/\(v'.ownBlock=v.ownBlock\/v'.ownBlock=Y w.heap.size):=by
 obtain⟨y,c,rfl⟩:=d.form;rcases y with _|y
 ·obtain⟨i,hi,af,ac,ag⟩:=info_parts f;have h0:ds=[]:=by
   by_cases h:0<ds.length
   ·obtain⟨b,o,e,_⟩:=d.open h;cases e
   ·exact List.eq_nil_of_length_eq_zero oM
  subst h0;have hc:c=0:=by
   obtain⟨_,a,c,e,_,_,K⟩:=d;cases e;rcases K with K|⟨b,o,cs,fr,e,_⟩
   ·exact K.2 rfl
   ·cases e
  subst hc;have r:=l.2;subst ac;exact⟨v,w,run_append_owned_none (P:=P) (w:=w) base t ty T i i.size ht hi v cs.length cs.flatten r,by simpa using l,⟨rfl,rfl,rfl,nE _,fun _ _ _=>rfl⟩,.inl rfl⟩
 ·have q:∀(j:Nat) u,ds.flatten[j]?=Y u->w.cell? (y.add j)=Y u:=by
   intro j u hj;have aa:0<ds.length:=by
    by_cases h:0<ds.length
    ·exact h
    ·rw[List.eq_nil_of_length_eq_zero (show ds.length=0 by omega)]at hj;simp at hj
   obtain⟨b',o',e,hb,_,ab⟩:=d.open aa;cases e;have:=ab j u hj;unfold Addr.add;split
   ·subst j;simpa using this
   ·exact this
  exact nw ty f ae hk R ht l rfl hd q h1 x p
def ns{P:Program}{T t:TypeId}{k bytes:Nat}{z:M}{w:Z}{base:Nat}{v sl:M}{cs:List (List M)}{ops:Array Oper}{rest:List Oper}{o:Oper}{a:Act}{Q:Exit->Act->Z->Prop}(e:(P.info? T).map (fun i=>(i.zero,i.size,i.bytes))=Y (Y z,k,bytes))(y:z.cells.size=k)(hk:0<k)(q:bytes<=1000)(ht:P.underlying t=Y (.slice T))(r:o.guard=X)(s x:Operand)(ho:o.op = .call { callee:=.builtin .append,args:=#[s,x],argTypes:=#[t,t] })(hs:a.eval s=v)(j:Ka T k w base v cs)(hx:a.eval x=sl)
  (ds:List (List M))(hd:∀c∈ds,c.length=k)(p:Rd w T k sl ds.length ds.flatten)(R:∀u∈ds.flatten,u.oneCell'=true)(f:cs.length+ds.length<=100000000000)(d:base<=w.heap.size)
  (h:∀v' w',Ka T k w' base v' (cs++ds)->w.grownBy w' v.ownBlock->(v'.ownBlock=v.ownBlock\/v'.ownBlock=Y w.heap.size)->wpList P ops Q rest (a.put o.dst v') w'):wpList P ops Q (o::rest) a w:=by obtain⟨v',w',l,h2,h3,h4⟩:=lB (P:=P) o.type e y hk q ht j hd p R f d;refine wpList_plain r fun K hK=>?_;unfold Oper.wp;simp[execOp,ho,resolve,invoke,builtin,hs,hx,l,Result.andThen];exact hK _ _ (h v' w' h2 h3 h4)
def Tw{k:Nat}:∀{cs:List (List M)}(m:Nat),(∀c∈cs,c.length=k)->m<=cs.length->cs.flatten.drop (m*k)=(cs.drop m).flatten
 | _,0,_,_=>by simp
 | [],m+1,_,h=>by simp at h
 | d::cs,m+1,h,hm=>by
  have e:=h d sM;rw[List.flatten_cons,List.drop_append,e,List.drop_of_length_le (by rw[e,Nat.add_mul];omega),show (m+1)*k-k=m*k by rw[Nat.add_mul];omega,
   Tw m (fun c f=>h c (mC _ f)) (by simpa using hm),List.drop_succ_cons,List.nil_append]
section
variable {α:Type} {T:TypeId} {k:Nat} {P:Z->List M->α->Prop} {w w':Z} {v:M} {xs:List α} {b o n c:Nat}
def Sl.drop(h:Sl T k P w (O (Y ⟨b,o,X⟩) n c) xs)(hn:0<xs.length){m:Nat}(hm:m<=xs.length):Sl T k P w (O (Y ⟨b,o+m*k,X⟩) (n-m) (c-m)) (xs.drop m):=by
 have aa:=h.len;obtain⟨cs,y,j,⟨z,a,c9,e,h5,h6,p⟩,K⟩:=h;cases e;refine⟨cs.drop m,by rw[List.length_drop,List.length_drop,y],fun c l=>j c (List.mem_of_mem_drop l),⟨?_,Y ⟨b,o+m*k,X⟩,c-m,?_,?_,?_,?_⟩,?_⟩
 ·rw[<-Tw m j oM,List.length_drop,z,List.length_drop,Nat.sub_mul]
 ·rw[List.length_drop]
 ·rw[List.length_drop];omega
 ·omega
 ·rcases p with p|⟨b',o',f,u,e,R,l⟩
  ·omega
  ·cases e;refine .inr ⟨_,_,f,u,rfl,R,fun i x r=>?_⟩;rw[<-Tw m j oM,List.getElem?_drop]at r;have:=l _ _ r
   rwa [<-Nat.add_assoc]at this
 ·intro i d x q t;rw[List.getElem?_drop]at q t;exact K _ _ _ q t
def Sl.take(h:Sl T k P w (O (Y ⟨b,o,X⟩) n c) xs)(hn:0<xs.length){m c':Nat}(hm:m<=xs.length)(aa:m<=c')(ab:c'<=c):Sl T k P w (O (Y ⟨b,o,X⟩) m c') (xs.take m):=by
 have ac:=h.len;obtain⟨cs,z,q,⟨K,a,c9,e,h5,h6,u⟩,R⟩:=h;cases e;have f:(xs.take m).length=m:=by rw[List.length_take];omega
 refine⟨cs.take m,by rw[List.length_take,List.length_take,z],fun c r=>q c (List.mem_of_mem_take r),⟨?_,Y ⟨b,o,X⟩,c',?_,?_,?_,?_⟩,?_⟩
 ·rw[<-Jr m q oM,List.length_take,K,f];have:m*k<=xs.length*k:=Nat.mul_le_mul_right _ hm;omega
 ·rw[f]
 ·rw[f];omega
 ·omega
 ·rcases u with u|⟨b',o',p,y,e,hh,r⟩
  ·omega
  ·cases e;refine .inr ⟨_,_,p,y,rfl,hh,fun i x l=>?_⟩;rw[<-Jr m q oM,List.getElem?_take]at l;split at l
   ·exact r _ _ l
   ·cases l
 ·intro i d x j t;rw[List.getElem?_take]at j t;split at j
  ·rename_i hlt2;rw[if_pos hlt2]at t;exact R _ _ _ j t
  ·cases j
end
def Mh{w w':Z}{base:Nat}{row:Option Nat}(e:w.grownBy w' row)(d:base<=w.heap.size)(f:∀k,row=Y k->base<=k):Below base w w':=(Below.refl _ w).grown e d f
def Ka.lt{T:TypeId}{k:Nat}{w:Z}{base:Nat}{v:M}{cs:List (List M)}(h:Ka T k w base v cs):∀j,v.ownBlock=Y j->base<=j/\j<w.heap.size:=World.ownsRow.lt h.2
def Rm{a b:Z}{g:Nat}(h:a.grownBy b (Y g))(i:Nat)(u:M):a.grownBy (b.setCell ⟨g,i,X⟩ u) (Y g):=
 h.trans ⟨rfl,rfl,rfl,by simp[World.setCell],fun k _ d=>bS _ _ _ _ (by intro e;exact d (by rw[e]))⟩
def Up{a b:Z}{row:Option Nat}(h:a.grownBy b row)(n:Nat):a.grownBy (b.drewN n) row:=⟨h.os,h.tape,h.output,h.size,h.block⟩
def RH{a b:Z}{row:Option Nat}(h:a.grownBy b row):a.grownBy b.drew row:=⟨h.os,h.tape,h.output,h.size,h.block⟩
def li{a b:Z}{row:Option Nat}{k:Nat}{o:Obj}(e:a.grownBy b row)(h:a.heap[k]?=Y o)(d:Y k≠row):b.heap[k]?=Y o:=(e.block k (Gb h) d).trans h
def mL{P:Program}{T t:TypeId}(ty:TypeId){k:Nat}{w:Z}{base g n cap:Nat}{sl:M}{os ds:List (List M)}(K:(P.info? T).map (·.size)=Y k)(ht:P.underlying t=Y (.slice T))(l:Ka T k w base (O (Y ⟨g,0,X⟩) n cap) os)(hd:∀c∈ds,c.length=k)(p:Rd w T k sl ds.length ds.flatten)(f:ds.length=os.length)(h0:0<ds.length)(h1:∀u∈ds.flatten,u.oneCell'=true):∃w',(Builtin.copy_ #[t,t] ty #[O (Y ⟨g,0,X⟩) n cap,sl]).run P w = .ok (goInt n) w'/\Ka T k w' base (O (Y ⟨g,0,X⟩) n cap) ds/\w.grownBy w' (Y g):=by
 have hn:=l.len;obtain⟨ad,c,rfl⟩:=p.form;obtain⟨b',o',rfl,hb,_,ac⟩:=p.open h0;have q:∀(j:Nat) u,ds.flatten[j]?=Y u->w.cell? ((⟨b',o',X⟩:Oc).add j)=Y u:=by
  intro j u hj;have:=ac j u hj;unfold Addr.add;split
  ·subst j;simpa using this
  ·exact this
 subst hn;rcases l.2.2 with ⟨h2,_⟩|⟨g',ae,cur,hv,hg,hh,y,R,aa,ag⟩
 ·cases h2
 ·cases hv;have d:ds.flatten.length=ds.length*k:=Jl hd;have ab:os.length*k<=cur.size:=by rw[aa];exact Nat.mul_le_mul_right _ y
  have r:=run_loadCells_list (P:=P) w ⟨b',o',X⟩ ds.flatten q;have z:=run_storeCells_at P g 0 T ds.flatten 0 cur w hh (by rw[d,f];simpa using ab) h1;refine⟨w.setRow g (cur.toList.take 0++ds.flatten++cur.toList.drop (0+ds.flatten.length)).toArray,?_,⟨hd,?_,?_⟩,⟨rfl,rfl,rfl,by simp,fun j _ hj=>setRow_other w g j _ (fun e=>hj (by simp[e]))⟩⟩
  ·cases hq:P.info? T with
   | none=>simp[hq]at K
   | some i =>
    (have hi:i.size=k:=by simpa[hq] using K);(have x:Nat.min ds.length os.length=ds.length:=by rw[f];exact Nat.min_self _);rw[d,f]at r;simp only[List.length_flatten]at z;(have af:((os.length:Nat):Int)=(ds.length:Int):=by rw[f]);simp[Builtin.copy_,run_underlying ht,Builtin.lenOf,Builtin.firstCells,sizeOf,typeInfo,hq,hi,x,r,z,goInt,f]
  ·exact d
  ·rw[f];refine .inr ⟨g,cap,_,rfl,hg,setRow_heap w g cur _ T _ hh,y,R,?_,?_⟩
   ·simp only[List.size_toArray,lA,List.length_take,List.length_drop,Array.length_toList,d,f];omega
   ·simp only[List.take_zero,List.nil_append];rw[<-f,<-d,List.take_append,lT (nE _),Nat.sub_self,List.take_zero,List.append_nil]
def pQ{P:Program}{T t:TypeId}{k:Nat}{w:Z}{base g n cap:Nat}{sl:M}{os:List (List M)}{ops:Array Oper}{rest:List Oper}{o:Oper}{a:Act}{Q:Exit->Act->Z->Prop}(p:(P.info? T).map (·.size)=Y k)(ht:P.underlying t=Y (.slice T))(l:o.guard=X)(d s:Operand)(ho:o.op = .call { callee:=.builtin .copy,args:=#[d,s],argTypes:=#[t,t] })(j:a.eval d=O (Y ⟨g,0,X⟩) n cap)(hs:a.eval s=sl)
  (e:Ka T k w base (O (Y ⟨g,0,X⟩) n cap) os)(ds:List (List M))(R:∀c∈ds,c.length=k)(i:Rd w T k sl ds.length ds.flatten)
  (hl:ds.length=os.length)(q:0<ds.length)(r:∀u∈ds.flatten,u.oneCell'=true)
  (h:∀w',Ka T k w' base (O (Y ⟨g,0,X⟩) n cap) ds->w.grownBy w' (Y g)->wpList P ops Q rest (a.put o.dst (goInt n)) w'):wpList P ops Q (o::rest) a w:=by obtain⟨w',f,x,y⟩:=mL (P:=P) o.type p ht e R i hl q r;refine wpList_plain l fun K z=>?_;unfold Oper.wp;simp[execOp,ho,resolve,invoke,builtin,j,hs,f,Result.andThen];exact z _ _ (h w' x y)
def XP{P:Program}{T t:TypeId}{k bytes:Nat}{z:M}{zs:List M}{w:Z}{n:Nat}{ops:Array Oper}{rest:List Oper}{o:Oper}{a:Act}{Q:Exit->Act->Z->Prop}(p:(P.info? T).map (fun i=>(i.zero,i.size,i.bytes))=Y (Y z,k,bytes))(ai:z.cells=zs.toArray)(d:zs.length=k)(aa:bytes<=1000)(ht:P.underlying t=Y (.slice T))(ab:o.guard=X)(l c:Operand)(ho:o.op = .makeSlice t l c)(L:Int)(ae:a.eval l=J I L)(f:a.eval c=J I L)(hL:L=(n:Int))(hn:n<=100000000000)(h:∀cs,Ka T k (w.alloc (Ob cs T)) w.heap.size (O (Y ⟨w.heap.size,0,X⟩) n n) (List.replicate n zs)->wpList P ops Q rest (a.put o.dst (O (Y ⟨w.heap.size,0,X⟩) n n)) (w.alloc (Ob cs T))):wpList P ops Q (o::rest) a w:=by
 obtain⟨i,hi,ag,y,ah⟩:=info_parts p;have aj:bytes*n<=281474976710656:=by
  calc bytes*n<=1000*100000000000:=Nat.mul_le_mul aa hn
   _<=281474976710656:=dM
 have u:=run_make (P:=P) w t T i z ht hi ag I I n n oM oM (by rw[ah];omega) oM;simp only[Int.toNat_natCast]at u;refine wpList_plain ab fun K R=>?_;unfold Oper.wp;subst hL;simp[execOp,ho,ae,f,u,Result.andThen];refine R _ _ (h _ ?_);have x:(List.replicate n zs).flatten.length=n*k:=by rw[Jl (k:=k) (fun c f=>by rw[List.eq_of_mem_replicate f];exact d),List.length_replicate]
 refine⟨fun c f=>by rw[List.eq_of_mem_replicate f];exact d,by rw[x,List.length_replicate],.inr ⟨w.heap.size,n,_,by simp,nE _,aN w _,by simp,by unfold maxLen;omega,by rw[y];simp[madeCells],?_⟩⟩;rw[y,List.length_replicate,ai,lT (by rw[Array.length_toList,size_madeCells];exact nE _)];apply List.ext_getElem?;intro j;by_cases hj:j<n*k
 ·have ad:0<k:=by
   rcases Nat.eq_zero_or_pos k with e|e
   ·subst e;simp at hj
   ·exact e
  obtain⟨q,r,u,hq⟩:∃q r,r<k/\j=q*k+r:=⟨j/k,j%k,Nat.mod_lt _ ad,by rw[Nat.mul_comm];exact(Nat.div_add_mod j k).symm⟩;have af:q<n:=by
   rcases Nat.lt_or_ge q n with e|e
   ·exact e
   ·exfalso;have:n*k<=q*k:=Nat.mul_le_mul_right _ e;omega
  have e2:(List.replicate n zs).flatten[q*k+r]?=zs[r]?:=tr (k:=k) (fun c f=>by rw[List.eq_of_mem_replicate f];exact d) (by rw[List.getElem?_replicate,if_pos af]) u;have ac:j%k=r:=by rw[hq,Nat.add_comm,Nat.add_mul_mod_self_right,Nat.mod_eq_of_lt u]
  rw[show (List.replicate n zs).flatten[j]?=zs[r]? by rw[hq];exact e2];simp only[madeCells,Array.toList_map,Array.toList_range,lP,List.getElem?_range hj,Option.map_some,List.size_toArray,d,ac];rw[gE oM];simp[d,u]
 ·rw[List.getElem?_eq_none (by rw[Array.length_toList,size_madeCells];omega),List.getElem?_eq_none (by rw[x];omega)]
def ir{P:Program}{T t:TypeId}{k bytes:Nat}{z:M}{w:Z}{base:Nat}{v:M}{cs:List (List M)}{ops:Array Oper}{o:Oper}{a:Act}{K:Act->Z->Prop}{Q:Exit->Act->Z->Prop}{E:Prop}(e:(P.info? T).map (fun i=>(i.zero,i.size,i.bytes))=Y (Y z,k,bytes))(R:z.cells.size=k)(hk:0<k)(r:bytes<=1000)(ht:P.underlying t=Y (.slice T))(y:o.guard=X)(s x:Operand)(ho:o.op = .call { callee:=.builtin .append,args:=#[s,x],argTypes:=#[t,t] })(hs:a.eval s=v)(p:Ka T k w base v cs){ad:Oc}{m c:Nat}(hx:a.eval x=O (Y ad) m c)
  (ds:List (List M))(hm:ds.length=m)(hd:∀c∈ds,c.length=k)(f:∀(j:Nat) u,ds.flatten[j]?=Y u->w.cell? (ad.add j)=Y u)(h1:∀u∈ds.flatten,u.oneCell'=true)(l:cs.length+m<=100000000000)(d:base<=w.heap.size)
  (h:∀v' w',Ka T k w' base v' (cs++ds)->w.grownBy w' v.ownBlock->(v'.ownBlock=v.ownBlock\/v'.ownBlock=Y w.heap.size)->K (a.put o.dst v') w') :
  if Region.wanted o (yielded ops a.tmps)=true then Oper.wp P o a w K Q else E:=by
 have hw:Region.wanted o (yielded ops a.tmps)=true:=by simp[Region.wanted,y]
 rw[if_pos hw];obtain⟨v',w',q,h2,h3,h4⟩:=nw (P:=P) o.type e R hk r ht p hm hd f h1 l d (c:=c);unfold Oper.wp;simp[execOp,ho,resolve,invoke,builtin,hs,hx,q,Result.andThen];exact h v' w' h2 h3 h4
def pc(p:Int×Int):List M:=[J I p.1,J I p.2]
def Wm:(Tryz.prog.info? 43).map (fun i=>(i.zero,i.size,i.bytes))=Y (Y (Oa #[J I 0,J I 0]),2,16):=kM
def Aq{ps:LP}:∀u∈(ps.map pc).flatten,u.oneCell'=true:=by intro u e;obtain⟨d,f,e⟩:=List.mem_flatten.1 e;obtain⟨p,_,rfl⟩:=List.mem_map.1 f;simp[pc]at e;rcases e with rfl|rfl<;>rfl
def Bq{ps:LP}:∀c∈ps.map pc,c.length=2:=by intro c d;obtain⟨p,_,rfl⟩:=List.mem_map.1 d;rfl
def tv(W:Z)(x z:Int)(T:TypeId):∀(j:Nat) u,[pc (x,z)].flatten[j]?=Y u->(W.alloc (Ob #[J I x,J I z] T)).cell? ((⟨W.heap.size,0,X⟩:Oc).add j)=Y u:=by
 intro j u d
 match j,d with
 | 0,d=>simp[pc]at d;subst d;simp[Addr.add]
 | 1,d=>simp[pc]at d;subst d;simp[Addr.add]
 | j+2,d=>simp[pc]at d
def Ko(x z:Int):∀u∈[pc (x,z)].flatten,u.oneCell'=true:=Aq (ps:=[(x,z)])
def kH{a b c:Z}{k:Nat}(h:Ba a b)(g:b.grownBy c (Y k))(e:a.heap.size<=k):Ba a c:=
 ⟨g.os.trans h.os,g.tape.trans h.tape,g.output.trans h.output,nT h.size g.size,fun i d=>(g.block i (Nat.lt_of_lt_of_le d h.size) (by simp;omega)).trans (h.block d)⟩
def NJ{a b c:Z}{row:Option Nat}(h:a.grownBy b row)(k:Below a.heap.size b c):a.grownBy c row:=
 ⟨k.os.trans h.os,k.tape.trans h.tape,k.output.trans h.output,nT h.size k.size,fun i e d=>(k.block i e).trans (h.block i e d)⟩
def QH(a:Z)(row:Option Nat):a.grownBy a row:=⟨rfl,rfl,rfl,nE _,fun _ _ _=>rfl⟩
def MJ{a b:Z}{k:Nat}{T T':TypeId}{cs:Array M}{j:Nat×Nat}(g:a.grownBy b (Y k))(i:a.heap[k]?=Y (Ob cs T' j))(l:T'≠T):Ia T a b:=
 fun x c f d=>(g.block x (Gb d) (fun e=>by cases e;rw[d]at i;cases i;exact l rfl)).trans d
def Bd(k n:Int):Prop:=-k<=n/\n<=k
def Bd.mono{j k n:Int}(h:Bd j n)(d:j<=k):Bd k n:=by unfold Bd at *;omega
def Bd.mul{j k x y:Int}(h:Bd j x)(f:Bd k y):Bd (j*k) (x*y):=by
 unfold Bd at *;have d:(x.natAbs:Int)<=j:=oM;have e:(y.natAbs:Int)<=k:=oM;have:((x*y).natAbs:Int)<=j*k:=by
  rw[Int.natAbs_mul,Int.natCast_mul];exact Int.mul_le_mul d e oM oM
 omega
def Bd.sub{j k x y:Int}(h:Bd j x)(d:Bd k y):Bd (j+k) (x-y):=by unfold Bd at *;omega
def pw(w:Z)(d f i j:Int)(l:Bd 1000000000 d)(r:Bd 1000000000 f)(x:Bd 1000000000 i)(h4:Bd 1000000000 j):Calls Tryz.prog 240 #[Oa #[J I d,J I f],Oa #[J I i,J I j]] w fun e w'=>e=.returned (Oa #[J I (d-i),J I (f-j)])/\Ba w w':=by obtain⟨p,q⟩:=l;obtain⟨t,u⟩:=r;obtain⟨y,z⟩:=x;obtain⟨K,R⟩:=h4;go_in;go_wp2;exact bR (v:=Oa #[J I (d-i),J I (f-j)]) (by simp[results,Tryz.results240,go_sem]) rfl ⟨rfl,eA⟩
def OO(w:Z)(d f i j:Int)(l:Bd 1000000000 d)(p:Bd 1000000000 f)(q:Bd 1000000000 i)(h4:Bd 1000000000 j):Calls Tryz.prog 272 #[Oa #[J I d,J I f],Oa #[J I i,J I j]] w fun e w'=>e=.returned (J I (d*j-f*i))/\Ba w w':=by obtain⟨r,t⟩:=l.mul h4;obtain⟨u,x⟩:=p.mul q;have y:IntKind.i64.wrap (d*j)=d*j:=iW _ ⟨by omega,by omega⟩;have z:IntKind.i64.wrap (f*i)=f*i:=iW _ ⟨by omega,by omega⟩;have K:IntKind.i64.wrap (d*j-f*i)=d*j-f*i:=iW _ ⟨by omega,by omega⟩;clear r t u x l p q h4;go_in;go_wp2;go_ret;exact⟨by first|rfl|simp[*],eA⟩
def Ke(p q r:Int×Int):Int:=(q.1-p.1)*(r.2-q.2)-(q.2-p.2)*(r.1-q.1)
def PK(w:Z)(i j d f l p:Int)(R:Bd 100000000 i)(h2:Bd 100000000 j)(h3:Bd 100000000 d)(h4:Bd 100000000 f)(h5:Bd 100000000 l)(h6:Bd 100000000 p):Calls Tryz.prog 245 #[Oa #[J I i,J I j],Oa #[J I d,J I f],Oa #[J I l,J I p]] w fun e w'=>e=.returned (J I (Ke (i,j) (d,f) (l,p)))/\Ba w w':=by
 have x:=Aa R;have y:=Aa h2;have q:=Aa h3;have r:=Aa h4;have z:=Aa h5;have K:=Aa h6;clear R h2 h3 h4 h5 h6;go_in;go_wp2;go_region_held3 (fun W=>W.cell? ⟨w.heap.size,0,X⟩=Y (J I i)/\W.cell? ⟨w.heap.size,1,X⟩=Y (J I j)/\W.cell? ⟨w.heap.size+1,0,X⟩=Y (J I d)/\W.cell? ⟨w.heap.size+1,1,X⟩=Y (J I f)/\W.cell? ⟨w.heap.size+1+1,0,X⟩=Y (J I l)/\W.cell? ⟨w.heap.size+1+1,1,X⟩=Y (J I p)) ((repeat' (with_reducible refine And.intro ?_ ?_))<;>(first|(go_simp;done)|(refine hx1.d ?_;go_simp;done))) (first|((go_at_call 240;(with_reducible refine(pw _ d f i j (q.o.mono dM) (r.o.mono dM) (x.o.mono dM) (y.o.mono dM)).mono ?_);rintro e w1 ⟨rfl,hx1⟩;obtain⟨⟨aj,am⟩,aa,ab,ac⟩:=Yb w hx1))|((go_at_call 240;(with_reducible refine(pw _ l p d f (z.o.mono dM) (K.o.mono dM) (q.o.mono dM) (r.o.mono dM)).mono ?_);rintro e w2 ⟨rfl,t⟩;obtain⟨⟨ak,an⟩,ad,ae,af⟩:=Yb w t))|((go_at_call 272;(with_reducible refine(OO _ (d-i) (f-j) (l-d) (p-f) ((q.o.sub x.o).mono dM) ((r.o.sub y.o).mono dM) ((z.o.sub q.o).mono dM) ((K.o.sub r.o).mono dM)).mono ?_);rintro e w3 ⟨rfl,u⟩;obtain⟨⟨al,ao⟩,ag,ah,ai⟩:=Yb w u)))
 all_goals go_wp2
 go_ret;exact⟨rfl,eA⟩
def Ta(n a b:Int):Bool:=decide (a<=n)&&decide (n<=b)
def Th(w:Z)(n a b:Int):Calls Tryz.prog 160 #[J I n,J I a,J I b] w fun e w'=>e=.returned (C (Ta n a b))/\Ba w w':=by
 unfold Ta;by_cases h:a<=n
 ·have d:decide (a<=n)=true:=by simpa using h
  go_in;go_wp2;go_ret;exact⟨by simp[d],eA⟩
 ·have d:decide (a<=n)=false:=by simpa using h
  go_in;go_wp2;go_ret;exact⟨by simp[d],eA⟩
def Bw(w:Z)(n:Int):Calls Tryz.prog 274 #[J I n] w fun e w'=>e=.returned (C false)/\Ba w w':=by go_in;go_wp2;go_ret;exact⟨rfl,eA⟩
def EE(w:Z)(a b:Int):Calls Tryz.prog 248 #[J I a,J I b] w fun e w'=>e=.returned (J I (Lc a b))/\Ba w w':=by
 have f:a<b->Calls Tryz.prog 248 #[J I a,J I b] w fun e w'=>e=.returned (J I (Lc a b))/\Ba w w':=by
  intro h;have e:Lc a b = -1:=by unfold Lc;(repeat' split)<;>omega
  rw[e];clear e
  first|subst h|skip
  go_in;go_wp2_with(((go_at_call 274;(with_reducible refine(Bw _ _).mono ?_);rintro e l ⟨rfl,d⟩)));go_ret;exact⟨rfl,eA⟩
 have i:a=b->Calls Tryz.prog 248 #[J I a,J I b] w fun e w'=>e=.returned (J I (Lc a b))/\Ba w w':=by
  intro h;have e:Lc a b=0:=by unfold Lc;(repeat' split)<;>omega
  rw[e];clear e
  first|subst h|skip
  go_in;go_wp2_with(((go_at_call 274;(with_reducible refine(Bw _ _).mono ?_);rintro e l ⟨rfl,d⟩)));go_ret;exact⟨rfl,eA⟩
 have j:b<a->Calls Tryz.prog 248 #[J I a,J I b] w fun e w'=>e=.returned (J I (Lc a b))/\Ba w w':=by
  intro h;have e:Lc a b=1:=by unfold Lc;(repeat' split)<;>omega
  rw[e];clear e
  first|subst h|skip
  go_in;go_wp2_with(((go_at_call 274;(with_reducible refine(Bw _ _).mono ?_);rintro e l ⟨rfl,d⟩)));go_ret;exact⟨rfl,eA⟩
 rcases Int.lt_trichotomy a b with h|h|h
 ·exact f h
 ·exact i h
 ·exact j h
def Vd(way:Int)(p q:Rat):Rat:=if Eb q p=way then q else p
def Nd(way:Int):List Rat->Rat
 | []=>0
 | x::xs=>xs.foldl (Vd way) x
def xO(way:Int)(xs:List Rat)(x:Rat)(h:xs≠[]):Nd way (xs++[x])=Vd way (Nd way xs) x:=by
 cases xs with
 | nil=>exact absurd rfl h
 | cons y d=>simp[Nd]
def IC(way:Int)(p q:Rat):Vd way p q=p\/Vd way p q=q:=by unfold Vd;split<;>simp
def IN(way:Int)(P:Rat->Prop)(xs:List Rat)(h:∀x∈xs,P x)(j:P 0):P (Nd way xs):=by
 cases xs with
 | nil=>exact j
 | cons x xs =>
  have:∀(d:List Rat)(a:Rat),P a->(∀y∈d,P y)->P (d.foldl (Vd way) a):=by
   intro d;induction d with
   | nil=>intro a i _;exact i
   | cons y d p =>
    intro a i f;refine p _ ?_ (fun z l=>f z (mC _ l));rcases IC way a y with e|e<;>rw[e]
    ·exact i
    ·exact f y sM
  exact this xs x (h x sM) (fun y f=>h y (mC _ f))
def Rb.zero{k:Nat}(d:1<=k):Rb k 0:=⟨by have:=Ri Fi k;unfold Lm;simp;omega,Jp d⟩
def zP(w:Z)(va vb:M)(p q:Rat)(way:Int)(j:Nat)(ha:Ab w va p)(hb:Ab w vb q)(ac:Rb Dc p)(ad:Rb Dc q)(hw:w.cell? ⟨j,0,X⟩=Y (J I way)):Calls Tryz.prog 224 #[va,vb,.pointer (Y ⟨j,0,X⟩)] w (Pf w (Vd way p q)):=by
 obtain⟨a,m,c,s,u,K,y,rfl⟩:=ha.form;obtain⟨t,z,x,R,d,i,f,rfl⟩:=hb.form;have aa:=Aa ac;have ab:=Aa ad;clear ac ad;have zw:j<w.heap.size:=World.block_lt_of_cell? w _ hw;have ak:j<w.heap.size+1:=oM;have al:j<w.heap.size+1+1:=oM;by_cases l:Eb q p=way
 ·have ah:(Eb q p==way)=true:=by simpa using l
  have hR:Ab w (Oa #[O t z x,C R,O d i f]) (Vd way p q):=by unfold Vd;first|(rw[if_pos l];exact hb)|(rw[if_neg l];exact ha)
  clear l;go_in;go_wp2;go_region_held3 (fun W=>W.cell? ⟨w.heap.size,0,X⟩=Y (O a m c)/\W.cell? ⟨w.heap.size,1,X⟩=Y (C s)/\W.cell? ⟨w.heap.size,2,X⟩=Y (O u K y)/\W.cell? ⟨w.heap.size+1,0,X⟩=Y (O t z x)/\W.cell? ⟨w.heap.size+1,1,X⟩=Y (C R)/\W.cell? ⟨w.heap.size+1,2,X⟩=Y (O d i f)/\W.cell? ⟨j,0,X⟩=Y (J I way)) ((repeat' (with_reducible refine And.intro ?_ ?_))<;>(first|(go_simp;done)|(refine hx1.d ?_;go_simp;done))) (((go_at_call 75;(with_reducible refine(Qj _ (Oa #[O t z x,C R,O d i f]) (Oa #[O a m c,C s,O u K y]) q p ?_ ?_ ab.o aa.o).mono ?_);(refine hb.ext ?_;exact eA);(refine ha.ext ?_;exact eA);rintro e w1 ⟨rfl,hx1⟩;obtain⟨⟨r,ai⟩,ae,af,ag⟩:=Yb w hx1;(have aj:=hx1.lt (n:=j) (by simp only[wZ,Cc];omega)))))
  all_goals go_wp2
  exact bR (v:=Oa #[O t z x,C R,O d i f]) (by simp[results,Tryz.results224,go_sem,r]) rfl ⟨_,rfl,Ab.keep (w:=w1) (hR.ext eA) kA,eA⟩
 ·have ah:(Eb q p==way)=false:=by simpa using l
  have hR:Ab w (Oa #[O a m c,C s,O u K y]) (Vd way p q):=by unfold Vd;first|(rw[if_pos l];exact hb)|(rw[if_neg l];exact ha)
  clear l;go_in;go_wp2;go_region_held3 (fun W=>W.cell? ⟨w.heap.size,0,X⟩=Y (O a m c)/\W.cell? ⟨w.heap.size,1,X⟩=Y (C s)/\W.cell? ⟨w.heap.size,2,X⟩=Y (O u K y)/\W.cell? ⟨w.heap.size+1,0,X⟩=Y (O t z x)/\W.cell? ⟨w.heap.size+1,1,X⟩=Y (C R)/\W.cell? ⟨w.heap.size+1,2,X⟩=Y (O d i f)/\W.cell? ⟨j,0,X⟩=Y (J I way)) ((repeat' (with_reducible refine And.intro ?_ ?_))<;>(first|(go_simp;done)|(refine hx1.d ?_;go_simp;done))) (((go_at_call 75;(with_reducible refine(Qj _ (Oa #[O t z x,C R,O d i f]) (Oa #[O a m c,C s,O u K y]) q p ?_ ?_ ab.o aa.o).mono ?_);(refine hb.ext ?_;exact eA);(refine ha.ext ?_;exact eA);rintro e w1 ⟨rfl,hx1⟩;obtain⟨⟨r,ai⟩,ae,af,ag⟩:=Yb w hx1;(have aj:=hx1.lt (n:=j) (by simp only[wZ,Cc];omega)))))
  all_goals go_wp2
  exact bR (v:=Oa #[O a m c,C s,O u K y]) (by simp[results,Tryz.results224,go_sem,r]) rfl ⟨_,rfl,Ab.keep (w:=w1) (hR.ext eA) kA,eA⟩
def AR(w:Z)(way:Int)(qs:List Rat)(g:Nat)(d:M)(W:Z):Prop:=
 ∃i:Nat,i<=qs.length/\d=J I i/\g=qs.length-i/\Ba w W/\RB W w.heap.size 0/\RB W (w.heap.size+1) (Nd way (qs.take i))
def PJ(w:Z)(v:M)(qs:List Rat)(way:Int)(bw:Nat)(hs:Kh w v qs)(hb:∀q∈qs,Rb Dc q)(hw:w.cell? ⟨bw,0,X⟩=Y (J I way)):Calls Tryz.prog 223 #[v,.func (.func 224) #[] #[.pointer (Y ⟨bw,0,X⟩)]] w (Pf w (Nd way qs)):=by
 obtain⟨a,c,rfl⟩:=hs.form;obtain⟨n,hn⟩:=gX qs.length;rw[hn]at hs ⊢;have y:=hs.le;unfold maxLen at y;have d:=Aa hn;have Hb:=Aa hb;have zw:bw<w.heap.size:=World.block_lt_of_cell? w _ hw;have ao:n<=9223372036854775807:=oM;clear hn hb y;go_in;go_wp2;go_loopg [10] n (AR w way qs)
 case atStart =>
  refine⟨0,by omega,rfl,by rw[d.o];rfl,eA,RB.ext (W:=w.alloc (Ob #[O X 0 0,C false,O X 0 0] 63)) (RB.new (Ab.zero _) rfl) eA,RB.new (Ab.zero _) sM⟩
 case round =>
  obtain⟨i,hi,rfl,rfl,hx,hR,hO⟩:=hrel;rw[d.o]at hi;have Hx:=Aa hx;obtain⟨a0,m0,c0,s0,aj,aq,ak,r0,r1,r2,aw,ax,ay,zr,ap⟩:=hR.rd;obtain⟨a1,m1,c1,s1,r,ab,t,o0,o1,o2,ar,au,av,zo,p⟩:=hO.rd;by_cases ag:i<n
  ·obtain⟨x,l⟩:∃x,qs[i]?=Y x:=⟨qs[i]'(by rw[d.o];omega),by simp[d.o,ag]⟩;obtain⟨b,o,a3,m3,c3,s3,a4,m4,c4,rfl,al,aa,e0,e1,e2⟩:=(hs.f hx).at' l;have j:=Aa l;clear l;by_cases h0:i=0
   ·(have ae:((i:Int)==0)=true:=by simp;omega);have H0:=Aa h0;clear h0;go_wp2;go_roundg (n-(i+1))
    case measure=>have:=d.o;omega
    case rel =>
     have f:=hO.not;have e:Nd way (qs.take (i+1))=x:=by
      have:=H0.o;subst this;rw[Rf _ _ _ j.o];simp[Nd]
     exact⟨i+1,by have:=d.o;omega,by go_num,by rw[d.o],eA,
      (((hR.other dO f _).other dO (f.set _ _) _).other dO ((f.set _ _).set _ _) _).ext ((eR _).alloc _),
      by rw[e];exact(hO.put aa).ext ((eR _).alloc _)⟩
   ·(have ae:((i:Int)==0)=false:=by simp;omega);have H0:=Aa h0;have ac:Sa (Rb Dc (Nd way (qs.take i))):=Aa (IN way _ _ (fun q hq=>Hb.o q (List.mem_of_mem_take hq)) (Rb.zero dM));have ad:Sa (Rb Dc x):=Aa (Hb.o x (lM j.o));clear h0;go_wp2_with(((go_at_call 224;(with_reducible refine(zP _ (Oa #[O a1 m1 c1,C s1,O r ab t]) (Oa #[O a3 m3 c3,C s3,O a4 m4 c4]) (Nd way (qs.take i)) x way bw ?_ ?_ ac.o ad.o ?_).mono ?_);(refine p.ext ?_;exact eA);(refine aa.ext ?_;exact eA);(refine Ba.d (a:=w) ?_ hw;exact eA);rintro e w1 ⟨r1,rfl,z,K⟩;obtain⟨b1,n1,k1,t1,b2,n2,k2,rfl⟩:=z.form;obtain⟨⟨am,an⟩,ah,ai⟩:=Zb w K)));go_roundg (n-(i+1))
    case measure=>have:=d.o;omega
    case rel =>
     have R:Ba wr w1:=((eR wr).alloc _).trans K;have u:=hO.ext R;have af:=hR.ext R;have f:=u.not;have e:Nd way (qs.take (i+1))=Vd way (Nd way (qs.take i)) x:=by
      rw[Rf _ _ _ j.o,xO];intro h;(have h2:(qs.take i).length=0:=by rw[h];rfl);rw[List.length_take,d.o]at h2;have:=H0.o;omega
     exact⟨i+1,by have:=d.o;omega,by go_num,by rw[d.o],eA,
      (((af.other dO f _).other dO (f.set _ _) _).other dO ((f.set _ _).set _ _) _),
      by rw[e];exact u.put z⟩
  ·obtain rfl:i=n:=oM;have e:Nd way (qs.take i)=Nd way qs:=by rw[lT (by rw[d.o];omega)]
   rw[e]at p;clear e;have f:=hR.not;go_wp2;exact bR (v:=Oa #[O a1 m1 c1,C s1,O r ab t]) (by simp[results,Tryz.results223,go_sem,r0,r1,r2]) rfl ⟨_,rfl,p.keep kA,eA⟩
def ZD(w:Z)(v:M)(qs:List Rat)(way:Int)(i:Kh w v qs)(p:∀q∈qs,Rb Dc q):Calls Tryz.prog 176 #[v,J I way] w (Pf w (Nd way qs)):=by obtain⟨a,c,rfl⟩:=i.form;have R:∀(l:Fn)(first cap:Array M)(w:Z),(Instr.makeFunc l first cap).run Tryz.prog w = .ok (.func l first cap) w:=fun _ _ _ _=>rfl;have x:=Aa p;obtain⟨n,r⟩:=gX qs.length;rw[r]at i ⊢;clear p r;go_in;go_wp2_with(((go_at_call 223;(with_reducible refine(PJ _ (O a n c) qs way w.heap.size ?_ x.o ?_).mono ?_);(refine i.f ?_;exact eA);(focus(go_simp;done));rintro e w1 ⟨r1,rfl,d,j⟩;obtain⟨y,n1,k1,t1,z,n2,k2,rfl⟩:=d.form;obtain⟨⟨f,K⟩,t,u⟩:=Zb w j)));exact bR (v:=Oa #[O y n1 k1,C t1,O z n2 k2]) (by simp[results,Tryz.results176,go_sem,f]) rfl ⟨_,rfl,d.keep kA,eA⟩
def Qp(w:Z)(v:M)(qs:List Rat)(i:Kh w v qs)(l:∀q∈qs,Rb Dc q):Calls Tryz.prog 110 #[v] w (Pf w (Nd (-1) qs)):=by obtain⟨a,c,rfl⟩:=i.form;have t:=Aa l;obtain⟨n,p⟩:=gX qs.length;rw[p]at i ⊢;clear l p;go_in;go_wp2_with(((go_at_call 176;(with_reducible refine(ZD _ (O a n c) qs (-1) ?_ t.o).mono ?_);(refine i.f ?_;exact eA);rintro e w1 ⟨r1,rfl,d,j⟩;obtain⟨u,R,z,t1,x,n2,K,rfl⟩:=d.form;obtain⟨⟨f,y⟩,r⟩:=Md w j)));exact bR (v:=Oa #[O u R z,C t1,O x n2 K]) (by simp[results,Tryz.results110,go_sem,f]) rfl ⟨_,rfl,d.keep kA,eA⟩
def Rp(w:Z)(v:M)(qs:List Rat)(i:Kh w v qs)(l:∀q∈qs,Rb Dc q):Calls Tryz.prog 112 #[v] w (Pf w (Nd (1) qs)):=by obtain⟨a,c,rfl⟩:=i.form;have t:=Aa l;obtain⟨n,p⟩:=gX qs.length;rw[p]at i ⊢;clear l p;go_in;go_wp2_with(((go_at_call 176;(with_reducible refine(ZD _ (O a n c) qs (1) ?_ t.o).mono ?_);(refine i.f ?_;exact eA);rintro e w1 ⟨r1,rfl,d,j⟩;obtain⟨u,R,z,t1,x,n2,K,rfl⟩:=d.form;obtain⟨⟨f,y⟩,r⟩:=Md w j)));exact bR (v:=Oa #[O u R z,C t1,O x n2 K]) (by simp[results,Tryz.results112,go_sem,f]) rfl ⟨_,rfl,d.keep kA,eA⟩
def io(_:Nat)(p:Prop):Prop:=p
def sN(k:Nat){p:Prop}(h:io k p):p:=h
def oN{k:Nat}{p:Prop}(h:p):io k p:=h
def NQ(Q:Exit->Act->Z->Prop):Exit->Act->Z->Prop
 | .normal,a,w=>Q .normal a w
 | _,_,_=>False
def Wy{Q:Exit->Act->Z->Prop}:¬LetsOut (NQ Q):=fun⟨_,_,h⟩=>h
def Zh(ops:Array Oper):Bool:=ops.all fun o=>match o.op with | .defer _=>false|_=>true
def SO{ops:Array Oper}(h:Zh ops=true){i:Nat}{o:Oper}(f:ops[i]?=Y o):∀c,o.op ≠ .defer c:=by intro c d;unfold Zh at h;rw[Array.all_eq_true]at h;obtain⟨e,rfl⟩:=Array.getElem?_eq_some_iff.1 f;have:=h i e;rw[d]at this;cases this
def pL{l n:Nat}{P:Program}{row:String}{args:Array M}{w:Z}{R:M->Z->Prop}(h:Rows P row args w R):RowsIn (Fence.wide.inRound l) n P row args w R:=by intro c cs _;obtain⟨v,w',r,s⟩:=h c cs;exact⟨v,w',r,stepsIn_wide.2 s⟩
def RO{l n:Nat}{P:Program}{o:Oper}{a:Act}{w:Z}{K:Act->Z->Prop}{Q:Exit->Act->Z->Prop}(p:∀c,o.op ≠ .defer c)(h:o.wp P a w K (NQ Q)):o.wpIn (Fence.wide.inRound l) n P a w K Q:=by
 refine⟨fun _ _=>trivial,?_⟩;rw[Oper.semAt_plain _ _ _ p];unfold Oper.wp at h;generalize (execOp a.eval o).run P w=r at *
 have i:(Fence.wide.inRound l).depth.isSome=true->1<=n:=fun h=>by cases h
 cases r with
 | ok x w' =>
  cases x with
  | value u=>exact h
  | skip=>exact h
  | defer d=>exact h
  | enter f args =>
   refine⟨i,CallsIn.inRound l (callsIn_wide.2 (cM h fun e q j=>?_))⟩;cases e with
   | returned u=>exact j
   | panicked c=>exact j.elim
   | outgrown=>exact(Wy j).elim
  | row row args=>exact⟨i,pL h⟩
  | _=>exact h.elim
 | halt x w' =>
  cases x<;>first|exact h.elim|skip
def tu{l n:Nat}{P:Program}{md:Region.Mode}{ops:Array Oper}{Q:Exit->Act->Z->Prop}(f:Zh ops=true):∀(fuel:Nat)(d:Array Bool)(a:Act)(w:Z),wpAny P md ops (NQ Q) fuel d a w->wpAnyIn (Fence.wide.inRound l) n P md ops Q fuel d a w
 | 0,_,_,_,h=>h
 | fuel+1,d,a,w,h=>by
  refine⟨h.1,fun i q=>?_⟩;have e:=h.2 i q;unfold wpOp at e;unfold wpOpIn;cases ho:ops[i]? with
  | none=>rw[ho]at e;exact tu f fuel _ a w e
  | some o =>
   rw[ho]at e;dsimp only at e ⊢;split
   ·rename_i hw;rw[if_pos hw]at e;rcases e with e|⟨_,e⟩
    ·exact Oper.wpIn_mono (fun j w' p=>tu f fuel _ j w' p) (RO (SO f ho) e)
    ·exact(Wy e).elim
   ·rename_i hw;rw[if_neg hw]at e;exact⟨fun _ _=>trivial,tu f fuel _ _ w e⟩
def Zp{l n:Nat}{P:Program}{ops:Array Oper}{Q:Exit->Act->Z->Prop}{S:Z->Prop}{i:Nat}{a:Act}{w:Z}(f:P.follows .mixedOrders=true)(e:Zh ops=true)(d:S w.drew)(h:S w.drew->wpAnyH P .any ops (NQ Q) S ops.size (Array.replicate ops.size false) a w.drew):(Code.region i ops true).wpIn (Fence.wide.inRound l) n P Q a w:=
 wpIn_region_any f (tu e _ _ _ _ (wpAny_of_held _ _ _ _ (h d)))
end
section
open Go.RowKit Go.Shelf Go.Sort
def UD{α:Type}[Inhabited α](enc:α->List M){k:Nat}(hk:∀x,(enc x).length=k)(d:Array α):(flatK enc k d).toList=(d.toList.map enc).flatten:=by
 have f:∀c∈d.toList.map enc,c.length=k:=fun c u=>by obtain⟨x,_,rfl⟩:=List.mem_map.1 u;exact hk x
 apply List.ext_getElem?;intro t;by_cases l:t<d.size*k
 ·have i:0<k:=by
   rcases Nat.eq_zero_or_pos k with h|h
   ·subst h;simp at l
   ·exact h
  have r:t/k<d.size:=by rw[Nat.div_lt_iff_lt_mul i];exact l
  have p:t%k<k:=Nat.mod_lt _ i;have e:(d.toList.map enc)[t/k]?=Y (enc d[t/k]!):=by
   rw[lP,Array.getElem?_toList,Array.getElem?_eq_getElem r,Option.map_some,getElem!_pos d _ r]
  have q:=tr (j:=t%k) f e p;rw[show t/k*k+t%k=t by rw[Nat.mul_comm];exact Nat.div_add_mod t k]at q;rw[q,Array.getElem?_toList,Array.getElem?_eq_getElem (by simpa using l)];rw[<-getElem!_pos (flatK enc k d) t (by simpa using l),get_flatK enc k d t l,gE (by rw[hk];exact p),getElem!_pos _ _ (by rw[hk];exact p)]
 ·rw[List.getElem?_eq_none (by simp;omega),List.getElem?_eq_none (by rw[Jl f];simp;omega)]
def ZH{α:Type}[Inhabited α]{enc:α->List M}{k:Nat}{w:Z}{g m:Nat}{os:Array Obj}{cur:Array M}{e:TypeId}{fr:Nat×Nat}(d:Array α)(hb:w.heap[g]?=Y (Ob cur e fr)):(sortWorldK enc k w g 0 m d os).heap[g]?=Y (Ob (putCells id 0 (flatK enc k d) cur) e fr):=by have f:g<w.heap.size:=(Array.getElem?_eq_some_iff.1 hb).1;unfold sortWorldK putRowK;rw[heap_grow_old _ _ (by simpa using f)];simp[putRow,mapBlock,Sort.ahead,Array.getElem?_modify,hb,onCells]
def jK{α:Type}[Inhabited α]{enc:α->List M}{k:Nat}{w:Z}{g m:Nat}{os:Array Obj}(d:Array α):w.grownBy (sortWorldK enc k w g 0 m d os) (Y g):=by unfold sortWorldK putRowK;refine⟨rfl,rfl,rfl,by simp,fun j i f=>?_⟩;rw[heap_grow_old _ _ (by simpa using i)];have:g≠j:=fun e=>f (by rw[e]);simp[putRow,mapBlock,Sort.ahead,Array.getElem?_modify,this]
def yN(cur F:Array M)(h:F.size<=cur.size):(putCells id 0 F cur).toList.take F.size=F.toList:=by
 apply List.ext_getElem?;intro j;by_cases d:j<F.size
 ·rw[List.getElem?_take_of_lt d,Array.getElem?_toList];simp[putCells,d,show j<cur.size by omega]
 ·rw[List.getElem?_take_eq_none oM,List.getElem?_eq_none (by simp;omega)]
def TO{α:Type}[Inhabited α]{enc:α->List M}{T:TypeId}{k:Nat}{w:Z}{base g n cap m:Nat}{os:Array Obj}(hk:∀x,(enc x).length=k){d d':Array α}(h:Ka T k w base (O (Y ⟨g,0,X⟩) n cap) (d.toList.map enc))(hs:d'.size=d.size):Ka T k (sortWorldK enc k w g 0 m d' os) base (O (Y ⟨g,0,X⟩) n cap) (d'.toList.map enc):=by
 have i:∀c∈d'.toList.map enc,c.length=k:=fun c t=>by obtain⟨x,_,rfl⟩:=List.mem_map.1 t;exact hk x
 have z:=h.len;have e:(d'.toList.map enc).length=(d.toList.map enc).length:=by simp[hs]
 subst z;refine⟨i,Jl i,?_⟩;rcases h.2.2 with ⟨r,_⟩|⟨R,p,cur,hv,u,y,j,l,f,K⟩
 ·cases r
 ·cases hv;have q:(flatK enc k d').size=(d'.toList.map enc).length*k:=sM;refine .inr ⟨g,cap,_,by rw[e],u,ZH d' y,by rw[e];exact j,l,by simp[putCells,f],?_⟩;rw[<-UD enc hk d',<-q,yN _ _ (by rw[q,e,f];exact Nat.mul_le_mul_right _ j)]
def pO{α:Type}[Inhabited α]{enc:α->List M}{T:TypeId}{k:Nat}{w:Z}{base g n cap:Nat}(hk:∀x,(enc x).length=k){d:Array α}(h:Ka T k w base (O (Y ⟨g,0,X⟩) n cap) (d.toList.map enc)):HoldsK enc k w g 0 d:=by intro t e;rw[size_flatK]at e;have i:=h.len;have f:(d.toList.map enc).length=d.size:=sM;subst i;refine⟨?_,by rw[Nat.zero_add];exact h.frozen t⟩;rw[Nat.zero_add,World.ownsRow.cellAt h.2 t (by rw[f];exact e),<-UD enc hk d,Array.getElem?_toList,Array.getElem?_eq_getElem (by rw[size_flatK];exact e),getElem!_pos _ _ (by rw[size_flatK];exact e)];rfl
end
section
open Go.ChangeShapes Go.WideShapes Go.Deep
section
variable {H:Type} {enc:TypeId×Value->H} {P:Program} {w:World} {spare:Nat->Bool} {held:Bool}
def VB{k:Nat}:∀{e:List (List Value)}{j:Nat}{x:Value},0<k->(∀c∈e,c.length=k)->e.flatten[j]?=some x->∃d,e[j/k]?=some d/\d[j%k]?=some x
 | [],j,x,_,_,h=>by simp at h
 | c::e,j,x,hk,hc,h=>by
  have q:c.length=k:=hc c sM;rw[List.flatten_cons]at h;by_cases i:j<k
  ·rw[List.getElem?_append_left oM]at h;rw[Nat.div_eq_of_lt i,Nat.mod_eq_of_lt i];exact⟨c,rfl,h⟩
  ·rw[List.getElem?_append_right oM,q]at h;obtain⟨d,l,p⟩:=VB (j:=j-k) hk (fun c f=>hc c (mC _ f)) h;rw[Nat.div_eq_sub_div hk oM,Nat.mod_eq_sub_mod oM];exact⟨d,by simpa using l,p⟩
def KD{t e:TypeId}{k fuel:Nat}{cs:List Value}{x:DataW H×List MemPlace}(ht:P.underlying t=some (.slice e))(hk:P.cellsOf e=k)(z:0<k)(h:DataW.trod enc P w 0 spare held fuel t cs=some x):∃(a:Option Addr)(n c:Nat)(T:TypeId)(r:List (List Value)),cs=[.slice a n c]/\r.length=n/\(∀d∈r,d.length=k)/\Rd w T k (.slice a n c) n r.flatten/\∀d∈r,∃m y,DataW.trod enc P w 0 spare held m e d=some y:=by
 rcases open_slice ht h with ⟨rfl,_⟩|⟨a,len,cap,m,f,D,Pl,rfl,_,hl,hm,ac,_,ab⟩
 ·exact⟨none,0,0,0,[],rfl,rfl,by simp,Rd.nil w 0 k,by simp⟩
 ·have ag:len<=m:=by rw[ac];split<;>omega
  rw[hk]at ab;obtain⟨F,hF⟩:=choose_lt (α:=List Value) (n:=len) (p:=fun i d=>w.cells? 0 (a.add (i*k)) k=some d/\DataW.trod enc P w 0 spare held f e d=some (D i,Pl i)) (fun i q=>ab i oM);have l:∀d∈(List.range len).map F,d.length=k:=by
   intro d hd;obtain⟨i,q,rfl⟩:=List.mem_map.1 hd;exact(World.cells?_some (hF i (List.mem_range.1 q)).1).2.1
  have aa:∀d∈(List.range len).map F,∃m y,DataW.trod enc P w 0 spare held m e d=some y:=by
   intro d hd;obtain⟨i,q,rfl⟩:=List.mem_map.1 hd;exact⟨f,_,(hF i (List.mem_range.1 q)).2⟩
  by_cases h0:len=0
  ·subst h0;exact⟨some a,0,cap,0,[],rfl,rfl,by simp,⟨by simp,some a,cap,rfl,hl,hm,.inl ⟨rfl,fun e=>by cases e⟩⟩,by simp⟩
  ·have K:=(World.cells?_some (hF 0 oM).1).2.2 0 z;have af:=l (F 0) (List.mem_map.2 ⟨0,List.mem_range.2 oM,rfl⟩);obtain⟨v0,ae⟩:∃v,(F 0)[0]?=some v:=⟨(F 0)[0]' oM,by simp⟩;rw[ae]at K;obtain⟨b,o,sp⟩:=a;have ad:sp=none:=by
    have:=World.cell?_spot K;simpa[Addr.add] using this
   subst ad;have e0:((⟨b,o,none⟩:Addr).add (0*k)).add 0=⟨b,o,none⟩:=by simp[Addr.add]
   rw[e0]at K;obtain⟨blk,T,R,u⟩:∃blk T R,w.heap[b]?=some (.cells blk T R):=by
    unfold World.cell? at K;split at K
    ·rename_i blk T R hb;exact⟨blk,T,R,hb⟩
    ·cases K
   refine⟨some ⟨b,o,none⟩,len,cap,T,(List.range len).map F,rfl,by simp,l,⟨?_,some ⟨b,o,none⟩,cap,rfl,hl,hm,.inr ⟨b,o,blk,R,rfl,u,fun j y hj=>?_⟩⟩,aa⟩
   ·rw[Jl l];simp
   ·obtain⟨d,h1,h2⟩:=VB z l hj;obtain⟨q,rfl⟩:j/k<len/\F (j/k)=d:=by
     rw[lP]at h1;by_cases q:j/k<len
     ·rw[List.getElem?_range q]at h1;exact⟨q,Option.some.inj h1⟩
     ·rw[List.getElem?_eq_none (by simpa using q)]at h1;cases h1
    have c1:=(World.cells?_some (hF (j/k) q).1).2.2 (j%k) (Nat.mod_lt _ z);rw[h2]at c1;have e1:((⟨b,o,none⟩:Addr).add (j/k*k)).add (j%k)=⟨b,o+j,none⟩:=by
     rw[add_add];(have:j/k*k+j%k=j:=by rw[Nat.mul_comm];exact Nat.div_add_mod j k);rw[this];unfold Addr.add;split
     ·rename_i h;rw[h];rfl
     ·rfl
    rw[e1]at c1;simpa[World.cell?,u] using c1
end
end
section
open Go.RowKit Go.Shelf
def Ng(md:Region.Mode)(ops:Array Oper)(j:Nat):List Nat:=match ops[j]? with|some o=>(o.after.toList.filter (Region.binds md)).map (·.on)|none=>[]
def uk(md:Region.Mode)(ops:Array Oper):Nat->Nat->List Nat
 | 0,j=>Ng md ops j
 | n+1,j=>Ng md ops j++(Ng md ops j).flatMap (uk md ops n)
def Ni(md:Region.Mode)(ops:Array Oper)(late:Nat->Bool)(n:Nat):Bool:=
 (List.range ops.size).all fun j=>!late j || ((List.range ops.size).all fun i=>late i || (uk md ops n j).contains i)
def Cl(md:Region.Mode)(ops:Array Oper)(d:Array Bool):Prop:=∀k o,ops[k]?=Y o->d.getD k false=true->∀e∈o.after,Region.binds md e=true->d.getD e.on false=true
section
variable {n:Nat} {P:Program} {ops:Array Oper} {Q:Exit->Act->Z->Prop} {md:Region.Mode} {S:Z->Prop} {late:Nat->Bool}
def Kx{d:Array Bool}{j:Nat}(h:∀o,ops[j]?=Y o->∀e∈o.after,Region.binds md e=true->d.getD e.on false=true):∀k∈Ng md ops j,d.getD k false=true:=by
 intro k f;unfold Ng at f;cases ho:ops[j]? with
 | none=>rw[ho]at f;cases f
 | some o =>
  rw[ho]at f;obtain⟨e,p,rfl⟩:=List.mem_map.1 f;obtain⟨i,l⟩:=List.mem_filter.1 p;exact h o ho e (by simpa using i) l
def yu{d:Array Bool}(l:Cl md ops d):∀(n j:Nat),(∀o,ops[j]?=Y o->∀e∈o.after,Region.binds md e=true->d.getD e.on false=true)->∀k∈uk md ops n j,d.getD k false=true
 | 0,j,h=>Kx h
 | n+1,j,h=>by
  intro k f;rcases List.mem_append.1 f with f|f
  ·exact Kx h k f
  ·obtain⟨i,q,f⟩:=List.mem_flatMap.1 f;have p:=Kx h i q;exact yu l n i (fun o r=>l i o r p) k f
def YO{d:Array Bool}{m i j:Nat}(u:Ni md ops late m=true)(K:Cl md ops d)(R:i∈Region.ready md ops d)(hl:late i=false)(hj:j∈Region.ready md ops d):late j=false:=by
 cases hlj:late j with
 | false=>rfl
 |true=>
  exfalso;obtain⟨y,oj,l,f⟩:=mem_ready.1 hj;obtain⟨e,oi,x,_⟩:=mem_ready.1 R;unfold Ni at u;rw[List.all_eq_true]at u;have q:=u j (List.mem_range.2 (Array.getElem?_eq_some_iff.1 l).1);rw[hlj]at q;simp only[Bool.not_true,Bool.false_or,List.all_eq_true]at q;have r:=q i (List.mem_range.2 (Array.getElem?_eq_some_iff.1 x).1);rw[hl]at r;simp only[Bool.false_or,List.contains_eq_mem,decide_eq_true_eq]at r;have t:=yu K m j (fun o z=>by rw[l]at z;cases z;exact f) i r;rcases Nat.lt_or_ge i d.size with p | p
  ·simp[p]at t e;rw[t]at e;cases e
  ·simp[Array.getElem?_eq_none p]at t
def Cl.step{d:Array Bool}(z:Cl md ops d){j:Nat}(K:j∈Region.ready md ops d):Cl md ops (d.setIfInBounds j true):=by
 intro k o y x e u t;have p:d.getD e.on false=true->(d.setIfInBounds j true).getD e.on false=true:=by
  intro h;by_cases r:e.on=j
  ·subst r;rcases Nat.lt_or_ge e.on d.size with q | q
   ·simp[q]
   ·simp[Array.getElem?_eq_none q]at h
  ·rw[getD_set_ne false (Ne.symm r)];exact h
 by_cases i:k=j
 ·subst i;obtain⟨_,R,l,f⟩:=mem_ready.1 K;rw[y]at l;cases l;exact p (f e u t)
 ·rw[getD_set_ne false (Ne.symm i)]at x;exact p (z k o y x e u t)
def Cl.start(m:Nat):Cl md ops (Array.replicate m false):=by intro k o _ d;simp[Array.getD_eq_getD_getElem?,Array.getElem?_replicate]at d;split at d<;>simp at d
def HI(n:Nat)(P:Program)(md:Region.Mode)(ops:Array Oper)(Q:Exit->Act->Z->Prop)(S:Z->Prop)(late:Nat->Bool):Nat->Array Bool->Act->Z->Prop
 | 0,d,a,w=>Region.ready md ops d=[]/\Q .normal a w
 | fuel+1,d,a,w =>
  (Region.ready md ops d=[]->Q .normal a w)/\
  ∀i∈Region.ready md ops d,wpOpIn Fence.wide n P ops Q i (fun e w'=>(late i=false->S w')/\HI n P md ops Q S late fuel (d.setIfInBounds i true) e w') a w
end
def PP(_:Z)(c:List M)(p:Int×Int):Prop:=c=[J I p.1,J I p.2]
abbrev Ja(w:Z)(v:M)(ps:LP):Prop:=Sl 43 2 PP w v ps
def Ja.f{w w':Z}{v:M}{ps:LP}(h:Ja w v ps)(k:Ba w w'):Ja w' v ps:=Sl.ext h (fun _ _ h=>h) k
def Ja.z{w w':Z}{v:M}{ps:LP}(h:Ja w v ps)(k:Ia 43 w w'):Ja w' v ps:=Sl.keep h (fun _ _ h=>h) k
def Ja.at'{w:Z}{a:Option Oc}{n c:Nat}{ps:LP}(h:Ja w (O a n c) ps){i:Nat}{p:Int×Int}(q:ps[i]?=Y p):∃b o,a=Y ⟨b,o,X⟩/\b<w.heap.size/\w.cell? ⟨b,o+i*2,X⟩=Y (J I p.1)/\w.cell? ⟨b,o+i*2+1,X⟩=Y (J I p.2):=by obtain⟨b,o,d,rfl,l,r,j,f⟩:=Sl.at h q;have e:d=[J I p.1,J I p.2]:=j;subst e;exact⟨b,o,rfl,l,f 0 _ rfl,f 1 _ rfl⟩
def Cf(ps:LP)(i:Int):Int×Int:=ps.getD ((i+ps.length)%ps.length).toNat (0,0)
def Ev{ps:LP}{i:Int}(h:0<ps.length):∃k:Nat,k<ps.length/\(i+(ps.length:Int))%(ps.length:Int)=(k:Int)/\ps[k]?=Y (Cf ps i):=by have d:=Int.emod_nonneg (i+ps.length) (show (ps.length:Int)≠0 by omega);have e:=Int.emod_lt_of_pos (i+ps.length) (show 0<(ps.length:Int) by omega);refine⟨((i+ps.length)%ps.length).toNat,by omega,by omega,?_⟩;unfold Cf;rw[gD];have:((i+(ps.length:Int))%(ps.length:Int)).toNat<ps.length:=oM;simp only[gE this,Option.getD_some]
def oG(w:Z)(v:M)(ps:LP)(i:Int)(h:Ja w v ps)(q:0<ps.length)(hn:ps.length<=1000000)(y:-(ps.length:Int)<=i)(t:i<=1000000):Calls Tryz.prog 246 #[v,J I i] w fun e w'=>e=.returned (Oa #[J I (Cf ps i).1,J I (Cf ps i).2])/\Ba w w':=by
 obtain⟨a,c,rfl⟩:=h.form;obtain⟨k,K,R,d⟩:=Ev (i:=i) q;obtain⟨b,o,rfl,u,l,p⟩:=h.at' d;obtain⟨x,f⟩:=gX ((Cf ps i).1);obtain⟨z,j⟩:=gX ((Cf ps i).2);rw[f]at l ⊢;rw[j]at p ⊢;clear f j d h;generalize ps.length=n at *
 have u1:(0:Int)<=i+(n:Int):=oM;have u2:(0:Int)<(n:Int):=oM;have u3:(k:Int)<(n:Int):=oM;have r:b<w.heap.size+1:=oM;go_in;go_wp2;exact bR (v:=Oa #[J I x,J I z]) (by simp[results,Tryz.results246,go_sem]) rfl ⟨rfl,eA⟩
def Va:LP->Int×Int
 | []=>(0,0)
 | p::ps=>ps.foldl (fun o q=>(min o.1 q.1,min o.2 q.2)) p
def mP(ps:LP)(q:Int×Int)(h:ps≠[]):Va (ps++[q])=(min (Va ps).1 q.1,min (Va ps).2 q.2):=by
 cases ps with
 | nil=>exact absurd rfl h
 | cons p ps=>simp[Va]
def Nu(w:Z)(ps:LP)(g:Nat)(d:M)(W:Z):Prop:=
 ∃i:Nat,i<=ps.length/\d=J I i/\g=ps.length-i/\Ba w W/\W.heap[w.heap.size]?=Y (Ob #[J I 0,J I 0] 43 (0,0))/\
  ∃x z,(if i=0 then ps[0]?=Y (x,z)else Va (ps.take i)=(x,z))/\W.heap[w.heap.size+1]?=Y (Ob #[J I x,J I z] 43 (0,0))
def kP{ps:LP}{i:Nat}{x z:Int}{q:Int×Int}(h:if i=0 then ps[0]?=Y (x,z)else Va (ps.take i)=(x,z))(d:ps[i]?=Y q):Va (ps.take (i+1))=(min x q.1,min z q.2):=by
 rw[Rf _ _ _ d];by_cases f:i=0
 ·subst f;rw[if_pos rfl]at h;rw[h]at d;cases d;simp[Va]
 ·rw[if_neg f]at h;rw[mP _ _ (by
   intro e;have:=(lS.1 d).1;have j:(ps.take i).length=0:=by rw[e];rfl
   rw[List.length_take]at j;omega),h]
def Nu.step{w wr:Z}{ps:LP}{i n:Nat}{x z d e a b:Int}(r:ps.length=n)(q:i<n)(u:Ba w wr)(j:wr.heap[w.heap.size]?=Y (Ob #[J I 0,J I 0] 43 (0,0)))(f:wr.heap[w.heap.size+1]?=Y (Ob #[J I x,J I z] 43 (0,0)))(hv:if i=0 then ps[0]?=Y (x,z)else Va (ps.take i)=(x,z))(t:ps[i]?=Y (d,e))(l:a=min x d)(p:b=min z e):Nu w ps (n-(i+1)) (J I ((i:Int)+1)) (((wr.setCell ⟨w.heap.size+1,0,X⟩ (J I a)).setCell ⟨w.heap.size+1,1,X⟩ (J I b)).alloc (Ob #[J I d,J I e] 43)):=by
 have y:=Gb f;refine⟨i+1,by omega,by go_num,by rw[r],eA,?_,a,b,?_,?_⟩
 ·rw[Ag,if_neg (by simp only[Bg];omega),bS _ _ _ _ dO,bS _ _ _ _ dO];exact j
 ·rw[if_neg oM,kP hv t,l,p]
 ·rw[Ag,if_neg (by simp only[Bg];omega)];exact Oj f _ _
def OC(w:Z)(v:M)(ps:LP)(h:Ja w v ps)(h0:0<ps.length):Calls Tryz.prog 208 #[v] w fun e w'=>e=.returned (Oa #[J I (Va ps).1,J I (Va ps).2])/\Ba w w':=by
 obtain⟨a,c,rfl⟩:=h.form;obtain⟨n,K⟩:=gX ps.length;rw[K]at h ⊢;have r:=h.le;unfold maxLen at r;have ac:0<n:=oM;have ad:n<=9223372036854775807:=oM;obtain⟨p,R⟩:∃p,ps[0]?=Y p:=⟨ps[0],by simp⟩;obtain⟨x0,z0⟩:=p;obtain⟨b,o,rfl,hb,c0,c1⟩:=h.at' R;simp only[Nat.zero_mul,Nat.add_zero]at c0 c1;have ab:b<w.heap.size+1:=oM;have d:=Aa K;have Hp:=Aa R;clear K r R h0;go_in;go_wp2;go_loopg [11] n (Nu w ps)
 case atStart =>
  refine⟨0,by omega,rfl,by rw[d.o];rfl,eA,by rw[Ag,if_neg sM];exact Ec _ _ _ rfl,x0,z0,by simpa using Hp.o,Ec _ _ _ sM⟩
 case round =>
  obtain⟨i,hi,rfl,rfl,hx,j,x,z,hv,f⟩:=hrel;rw[d.o]at hi;have r0:=Ca j (i:=0) (u:=J I 0) rfl;have r1:=Ca j (i:=1) (u:=J I 0) rfl;have ag:=Ua j 0;have ah:=Ua j 1;have o0:=Ca f (i:=0) (u:=J I x) rfl;have o1:=Ca f (i:=1) (u:=J I z) rfl;have ae:=Ua f 0;have af:=Ua f 1;have zr:=Gb j;have zo:=Gb f;have HR:=Aa j;have HO:=Aa f;have HV:=Aa hv;clear j f hv c0 c1;by_cases t:i<n
  ·obtain⟨q,hq⟩:∃q,ps[i]?=Y q:=⟨ps[i]'(by rw[d.o];omega),by simp[d.o,t]⟩;obtain⟨b',o',e',aa,d0,d1⟩:=(h.f hx).at' hq;cases e';obtain⟨qx,qz⟩:=q;have Hq:=Aa hq;clear hq;go_wp2
   all_goals
    go_roundg (n-(i+1))
    case measure=>have:=d.o;omega
    case rel =>
     exact Nu.step d.o t hx HR.o HO.o HV.o Hq.o oM oM
  ·obtain rfl:i=n:=oM;have l:=HV.o;rw[if_neg oM,lT (by rw[d.o];omega)]at l;have y:=Aa l;clear l;go_wp2;refine bR (v:=Oa #[J I x,J I z]) (by simp[results,Tryz.results208,go_sem,r0,r1]) rfl ⟨?_,eA⟩;rw[y.o]
def NB(W:Z)(b:Nat)(n:Int):Prop:=∃s a m c,W.heap[b]?=Y (Ob #[J I s,O a m c] 66 (0,0))/\xd W (Oa #[J I s,O a m c]) n
section
variable {W W':Z} {b b':Nat} {n n':Int}
def NB.ext(h:NB W b n)(k:Ba W W'):NB W' b n:=by obtain⟨s,a,m,c,d,e⟩:=h;exact⟨s,a,m,c,k.e d,e.ext k⟩
def NB.not(h:NB W b n):ld 3 W b:=by obtain⟨s,a,m,c,d,i⟩:=h;intro cs f e;rw[d]at e;cases e
def NB.rd(h:NB W b n):∃s a m c,s=n.sign/\W.cell? ⟨b,0,X⟩=Y (J I s)/\W.cell? ⟨b,1,X⟩=Y (O a m c)/\W.frozen? ⟨b,0,X⟩=false/\W.frozen? ⟨b,1,X⟩=false/\b<W.heap.size/\xd W (Oa #[J I s,O a m c]) n:=by obtain⟨s,a,m,c,d,e⟩:=h;exact⟨s,a,m,c,e.sgn,Ca d (i:=0) rfl,Ca d (i:=1) rfl,Ua d 0,Ua d 1,Gb d,e⟩
def NB.put{s:Int}{a:Option Oc}{m c:Nat}(h:NB W b n)(f:xd W (Oa #[J I s,O a m c]) n'):NB ((W.setCell ⟨b,0,X⟩ (J I s)).setCell ⟨b,1,X⟩ (O a m c)) b n':=by have d:=h.not;obtain⟨q,i,p,j,e,l⟩:=h;exact⟨s,a,m,c,Oj e _ _,f.keep (((Ia.refl _ W).x d _).x (d.set _ _) _)⟩
def NB.other{p:Oc}(h:NB W b n)(i:p.block≠b)(j:ld 3 W p.block)(u:M):NB (W.setCell p u) b n:=by obtain⟨s,a,m,c,d,f⟩:=h;exact⟨s,a,m,c,(bS _ _ _ _ (fun e=>i e.symm)).trans d,f.keep ((Ia.refl _ W).x j _)⟩
def NB.new{W0:Z}{s:Int}{a:Option Oc}{m c:Nat}(e:xd W0 (Oa #[J I s,O a m c]) n)(d:b=W0.heap.size):NB (W0.alloc (Ob #[J I s,O a m c] 66)) b n:=
 ⟨s,a,m,c,Ec _ _ _ d,e.ext ((eR _).alloc _)⟩
end
def Lo{W:Z}{b:Nat}{cs:Array M}{d:Nat×Nat}(h:W.heap[b]?=Y (Ob cs 66 d))(u v:M):Ia 3 W ((W.setCell ⟨b,0,X⟩ u).setCell ⟨b,1,X⟩ v):=by
 have f:ld 3 W b:=by intro cs d e;rw[h]at e;cases e
 exact((Ia.refl _ W).x f _).x (f.set _ _) _
def TF(n:Int):-1<=n.sign/\n.sign<=1:=by rcases Sh n with h|h|h<;>omega
def xd.neg{w:Z}{s:Int}{a:Option Oc}{m c:Nat}{n:Int}(h:xd w (Oa #[J I s,O a m c]) n):xd w (Oa #[J I (-s),O a m c]) (-n):=by obtain⟨sl,ds,d,e,f,i⟩:=h;cases d;exact⟨_,ds,by rw[Int.sign_neg],e,f,by rw[Int.natAbs_neg];exact i⟩
def xd.abs{w:Z}{s:Int}{a:Option Oc}{m c:Nat}{n:Int}(h:xd w (Oa #[J I s,O a m c]) n):xd w (Oa #[J I (s*s),O a m c]) (n.natAbs:Int):=by
 obtain⟨sl,ds,d,f,i,j⟩:=h;cases d;refine⟨_,ds,?_,f,i,by simpa using j⟩;rcases Sh n with ⟨e,h⟩|⟨e,h⟩|⟨e,h⟩<;>rw[e]
 ·rw[show ((n.natAbs:Int)).sign=1 from Int.sign_eq_one_of_pos oM];rfl
 ·subst h;rfl
 ·rw[show ((n.natAbs:Int)).sign=1 from Int.sign_eq_one_of_pos oM];rfl
def lr(w:Z)(v:M)(n:Int)(h:xd w v n):Calls Tryz.prog 193 #[v] w (Ih w (-n)):=by obtain⟨s,a,m,c,rfl,e⟩:=h.j;have d:=TF n;rw[<-e]at d;clear e;go_in;go_wp2;exact bR (v:=Oa #[J I (-s),O a m c]) (by simp[results,Tryz.results193,go_sem]) rfl ⟨_,rfl,h.neg.ext eA,eA⟩
def My(w:Z)(s:Int)(a:Option Oc)(m c:Nat)(n:Int)(h:xd w (Oa #[J I s,O a m c]) n):Calls Tryz.prog 190 #[Oa #[J I s,O a m c]] w fun e w'=>e=.returned (Oa #[J I (s*s),O a m c])/\Ba w w':=by
 have f:=h.sgn;have d:s*s=1\/s*s=0:=by rcases Sh n with ⟨e,_⟩|⟨e,_⟩|⟨e,_⟩<;>rw[f,e]<;>decide
 obtain⟨p,i⟩:=gX (s*s);rw[i]at d ⊢;have j:0<=p:=oM;have l:p<=1:=oM;clear f d h;go_in;go_wp2;exact bR (v:=Oa #[J I p,O a m c]) (by simp[results,Tryz.results190,go_sem]) rfl ⟨rfl,eA⟩
def SB(w:Z)(v:M)(n:Int)(h:xd w v n):Calls Tryz.prog 190 #[v] w (Ih w (n.natAbs:Int)):=by obtain⟨s,a,m,c,rfl,f⟩:=h.j;exact(My w s a m c n h).mono fun _ _ ⟨e,d⟩=>⟨_,e,h.abs.ext d,d⟩
def kF(w:Z)(n:Int)(t0 t4:M)(wr:Z):Prop:=
 ∃(cur:Int)(d:List Int),t0=J I cur/\ -9223372036854775808<=cur/\cur<=9223372036854775807/\d.length<=5/\Zd C4 d/\(n.natAbs:Int)=dv C4 d+C4 ^ d.length*(cur.natAbs:Int)/\
  Mb 3 wr (w.heap.size+1) t4 d/\Ba w wr/\w.heap.size<wr.heap.size/\wr.heap[w.heap.size]?=Y (Ob #[J I 0,O X 0 0] 66 (0,0))
def Yy{N c d:Int}{k:Nat}(h:N=d+C4 ^ k*c)(q:0<=d)(p:N<=9223372036854775808)(f:1<=c):k<=4:=by
 by_cases e:k<=4
 ·exact e
 ·have i:=Im (b:=C4) dM (show 5<=k by omega);have j:C4 ^ k*1<=C4 ^ k*c:=Int.mul_le_mul_of_nonneg_left f (by have:=Ri nk k;omega);have l:C4 ^ 5=100000000000000000000:=dM;omega
def At{N c r q:Int}{d:List Int}(h:N=dv C4 d+C4 ^ d.length*c)(i:r=c%10000)(f:q=c/10000):N=dv C4 (d++[r])+C4 ^ (d++[r]).length*q:=by
 subst i f;rw[lA,List.length_singleton];have:=PA d d d.length c rfl;rw[Fm,h,Int.pow_succ];have e:c=c%10000+C4*(c/10000):=by unfold C4;omega
 generalize c%10000=r at *
 generalize c/10000=q at *
 subst e;grind
def yy(x:Int):((Int.tmod x 10000).natAbs:Int)=(x.natAbs:Int)%10000/\((Int.tdiv x 10000).natAbs:Int)=(x.natAbs:Int)/10000:=by
 by_cases d:0<=x
 ·rw[Int.tmod_eq_emod_of_nonneg d,Int.tdiv_eq_ediv_of_nonneg d];omega
 ·obtain⟨y,rfl⟩:∃y,x = -y:=⟨-x,by omega⟩;rw[Int.neg_tmod,Int.neg_tdiv];rw[Int.tmod_eq_emod_of_nonneg oM,Int.tdiv_eq_ediv_of_nonneg oM];omega
def Pn(w:Z)(n:Int)(h0:-9223372036854775808<=n)(h1:n<=9223372036854775807):Calls Tryz.prog 96 #[J I n] w (Ih w n):=by
 have ac:n<0->Calls Tryz.prog 96 #[J I n] w (Ih w n):=by
  intro hn;go_in;go_wp2;go_loopw [0,4] (kF w n) (fun t0 _ _=>(intOf t0).natAbs)
  case atStart=>exact⟨n,[],rfl,by omega,by omega,by simp,Zd.nil _,by simp,Mb.nil _ _ _,(eR w).alloc _,by simp,aN w _⟩
  case round =>
   obtain⟨cur,ys,rfl,c0,c1,am,t,hv,p,ab,af,y⟩:=hrel;have Hv:=Aa hv;have d:=Aa y;clear hv y;obtain⟨oa,oc,rfl⟩:=p.form;by_cases hc:cur=0
   ·subst hc;(have e:(n.natAbs:Int)=dv C4 ys:=by have:=Hv.o;simpa using this);have E:=Aa e;have ag:=Ca d.o (i:=0) (u:=J I 0) rfl;have ah:=Ca d.o (i:=1) (u:=O X 0 0) rfl;have an:=Ua d.o 0;have ao:=Ua d.o 1;clear e;go_wp2_with(go_at_call 152;(with_reducible refine(Br _ (-1) _ ys n p.ints oM (fun x hx=>?_) ?_ ?_ ?_).mono ?_);(have:=t x hx;unfold C4 at this;omega);(rw[<-E.o];omega);(rw[<-E.o];omega);(intro _;first|exact .inl rfl|exact .inr rfl);rintro e w1 ⟨r1,rfl,R,aa⟩;obtain⟨s1,a1,m1,c1,rfl,-⟩:=R.j;obtain⟨ae,ak⟩:=aa.cells);exact bR (v:=Oa #[J I s1,O a1 m1 c1]) (by simp[results,Tryz.results96,go_sem,ae,af,ag,ah]) rfl ⟨_,rfl,R.keep (Lo (aa.e d.o) _ _),eA⟩
   ·(have aj:(cur != 0)=true:=by simpa using hc);have al:ys.length<=4:=Yy Hv.o (Gi nk t).1 oM oM;obtain⟨e1,e2⟩:=yy cur;obtain⟨r,hr⟩:=gX (Int.tmod cur 10000);obtain⟨q,hq⟩:=gX (Int.tdiv cur 10000);rw[hr]at e1;rw[hq]at e2;have r1:-10000<r:=oM;have r2:r<10000:=oM;have q1:-9223372036854775808<=q:=oM;have q2:q<=9223372036854775807:=oM;have z:=Aa e1;have E2:=Aa e2;clear e1 e2;by_cases ai:r<0
    ·skip
     (have K:-r=(cur.natAbs:Int)%10000:=by have:=z.o;omega);have E9:=Aa K;clear K;go_wp2_with(at_builtin;refine mj Ok Tryz.underlying64 rfl _ _ rfl rfl p rfl oM oM ?_;intro v' w1 l f j);go_roundw
     case rel =>
      refine⟨q,_,rfl,by omega,by omega,by simp;omega,t.snoc (by have:=z.o;omega) (by have:=z.o;unfold C4;omega),At Hv.o E9.o E2.o,l,ab.y f oM,?_,?_⟩
      ·have:=f.size;omega
      ·exact j.get d.o dM
     case measure=>have:=E2.o;simp[intOf];omega
    ·skip
     (have K:r=(cur.natAbs:Int)%10000:=by have:=z.o;omega);have E9:=Aa K;clear K;go_wp2_with(at_builtin;refine mj Ok Tryz.underlying64 rfl _ _ rfl rfl p rfl oM oM ?_;intro v' w1 l f j);go_roundw
     case rel =>
      refine⟨q,_,rfl,by omega,by omega,by simp;omega,t.snoc (by have:=z.o;omega) (by have:=z.o;unfold C4;omega),At Hv.o E9.o E2.o,l,ab.y f oM,?_,?_⟩
      ·have:=f.size;omega
      ·exact j.get d.o dM
     case measure=>have:=E2.o;simp[intOf];omega
 have ad:¬n<0->Calls Tryz.prog 96 #[J I n] w (Ih w n):=by
  intro hn;go_in;go_wp2;go_loopw [0,4] (kF w n) (fun t0 _ _=>(intOf t0).natAbs)
  case atStart=>exact⟨n,[],rfl,by omega,by omega,by simp,Zd.nil _,by simp,Mb.nil _ _ _,(eR w).alloc _,by simp,aN w _⟩
  case round =>
   obtain⟨cur,ys,rfl,c0,c1,am,t,hv,p,ab,af,y⟩:=hrel;have Hv:=Aa hv;have d:=Aa y;clear hv y;obtain⟨oa,oc,rfl⟩:=p.form;by_cases hc:cur=0
   ·subst hc;(have e:(n.natAbs:Int)=dv C4 ys:=by have:=Hv.o;simpa using this);have E:=Aa e;have ag:=Ca d.o (i:=0) (u:=J I 0) rfl;have ah:=Ca d.o (i:=1) (u:=O X 0 0) rfl;have an:=Ua d.o 0;have ao:=Ua d.o 1;clear e;go_wp2_with(go_at_call 152;(with_reducible refine(Br _ (1) _ ys n p.ints oM (fun x hx=>?_) ?_ ?_ ?_).mono ?_);(have:=t x hx;unfold C4 at this;omega);(rw[<-E.o];omega);(rw[<-E.o];omega);(intro _;first|exact .inl rfl|exact .inr rfl);rintro e w1 ⟨r1,rfl,R,aa⟩;obtain⟨s1,a1,m1,c1,rfl,-⟩:=R.j;obtain⟨ae,ak⟩:=aa.cells);exact bR (v:=Oa #[J I s1,O a1 m1 c1]) (by simp[results,Tryz.results96,go_sem,ae,af,ag,ah]) rfl ⟨_,rfl,R.keep (Lo (aa.e d.o) _ _),eA⟩
   ·(have aj:(cur != 0)=true:=by simpa using hc);have al:ys.length<=4:=Yy Hv.o (Gi nk t).1 oM oM;obtain⟨e1,e2⟩:=yy cur;obtain⟨r,hr⟩:=gX (Int.tmod cur 10000);obtain⟨q,hq⟩:=gX (Int.tdiv cur 10000);rw[hr]at e1;rw[hq]at e2;have r1:-10000<r:=oM;have r2:r<10000:=oM;have q1:-9223372036854775808<=q:=oM;have q2:q<=9223372036854775807:=oM;have z:=Aa e1;have E2:=Aa e2;clear e1 e2;by_cases ai:r<0
    ·skip
     (have K:-r=(cur.natAbs:Int)%10000:=by have:=z.o;omega);have E9:=Aa K;clear K;go_wp2_with(at_builtin;refine mj Ok Tryz.underlying64 rfl _ _ rfl rfl p rfl oM oM ?_;intro v' w1 l f j);go_roundw
     case rel =>
      refine⟨q,_,rfl,by omega,by omega,by simp;omega,t.snoc (by have:=z.o;omega) (by have:=z.o;unfold C4;omega),At Hv.o E9.o E2.o,l,ab.y f oM,?_,?_⟩
      ·have:=f.size;omega
      ·exact j.get d.o dM
     case measure=>have:=E2.o;simp[intOf];omega
    ·skip
     (have K:r=(cur.natAbs:Int)%10000:=by have:=z.o;omega);have E9:=Aa K;clear K;go_wp2_with(at_builtin;refine mj Ok Tryz.underlying64 rfl _ _ rfl rfl p rfl oM oM ?_;intro v' w1 l f j);go_roundw
     case rel =>
      refine⟨q,_,rfl,by omega,by omega,by simp;omega,t.snoc (by have:=z.o;omega) (by have:=z.o;unfold C4;omega),At Hv.o E9.o E2.o,l,ab.y f oM,?_,?_⟩
      ·have:=f.size;omega
      ·exact j.get d.o dM
     case measure=>have:=E2.o;simp[intOf];omega
 by_cases hn:n<0
 ·exact ac hn
 ·exact ad hn
def Ch(w:Z)(o d:Obj):((w.alloc o).alloc d).heap[w.heap.size]?=Y o:=by rw[Below.heap_alloc _ _ _ sM];exact aN w o
def vR(w:Z)(s l:Int)(a f:Option Oc)(m i c c':Nat)(xs e:List Int)(D:Int)(t5 p:M)(W:Z):Prop:=
 ∃d j:Int,t5=J I d/\p=J I j/\ -1<=j/\j<m/\ -9223372036854775807<=d/\d<=9223372036854775807/\(d≠0->d.sign=D)/\(d=0->xs.length=e.length/\xs.drop (j+1).toNat=e.drop (j+1).toNat)/\Ba w W/\
  W.heap[w.heap.size]?=Y (Ob #[J I s,O a m c] 66 (0,0))/\W.heap[w.heap.size+1]?=Y (Ob #[J I l,O f i c'] 66 (0,0))
def Ax(w:Z)(va vb:M)(na nb:Int)(ha:xd w va na)(hb:xd w vb nb):Calls Tryz.prog 191 #[va,vb] w fun e w'=>e=.returned (J I ((na.natAbs:Int)-(nb.natAbs:Int)).sign)/\Ba w w':=by
 obtain⟨s,a,m,c,rfl,hs⟩:=ha.j;obtain⟨s',a',m',c',rfl,ap⟩:=hb.j;obtain⟨xs,hl,hi,hc,hv⟩:=ha.open;obtain⟨ys,ac,ag,ab,aj⟩:=hb.open;have hm:=hi.le;have ai:=ag.le;rw[hl]at hm;rw[ac]at ai;unfold maxLen at hm ai;obtain⟨D,hD⟩:=gX (((na.natAbs:Int)-(nb.natAbs:Int)).sign);rw[hD];rw[<-hv,<-aj]at hD;have HD:=Aa hD;have t:=Aa hl;have f:=Aa ac;clear hs ap hl ac hv aj hD ha hb;go_in;go_wp2;go_loopw [5,6] (vR w s s' a a' m m' c c' xs ys D) (fun _ t6 _=>(intOf t6+1).toNat)
 case atStart =>
  refine⟨(m:Int)-m',(m:Int)-1,rfl,rfl,by omega,by omega,by omega,by omega,fun h=>?_,fun h=>⟨by rw[t.o,f.o];omega,?_⟩,eA,Ch ..,Ec _ _ _ sM⟩
  ·rw[<-HD.o,<-SG hc ab (by rw[t.o,f.o];omega),t.o,f.o]
  ·rw[List.drop_of_length_le (by rw[t.o];omega),List.drop_of_length_le (by rw[f.o];omega)]
 case round =>
  obtain⟨d,j,rfl,rfl,j0,j1,d0,d1,z,hz,hx,aa,p⟩:=hrel;have Hd:=Aa z;have Hz:=Aa hz;have al:=Aa aa;have am:=Aa p;have av:=Ca aa (i:=1) (u:=O a m c) rfl;have aw:=Ca p (i:=1) (u:=O a' m' c') rfl;clear z hz aa p;rcases Int.lt_trichotomy d 0 with z|z|z
  ·have e:D = -1:=by rw[<-Hd.o oM];exact Int.sign_eq_neg_one_of_neg z
   have Aa:¬d=0:=oM;have an:(d==0)=false:=by simpa using Aa
   have az:¬0<d:=oM;by_cases hj:0<=j
   all_goals
    go_wp2;go_ret;exact⟨rfl,eA⟩
  ·subst z;obtain⟨ah,l⟩:=Hz.o rfl;have R:=Aa ah;have ad:=Aa l;clear ah l;by_cases hj:0<=j
   ·obtain⟨k,rfl⟩:=Int.eq_ofNat_of_zero_le hj;have hk:k<m:=oM;(have ao:k<m':=by have:=R.o;rw[t.o,f.o]at this;omega);obtain⟨b,o,rfl,p,ak⟩:=(hi.ext hx).open (by rw[t.o];omega);obtain⟨b',o',rfl,au,K⟩:=(ag.ext hx).open (by rw[f.o];omega);obtain⟨x,q⟩:∃x,xs[k]?=Y x:=⟨xs[k]'(by rw[t.o];omega),by simp[t.o,hk]⟩;obtain⟨y,r⟩:∃y,ys[k]?=Y y:=⟨ys[k]'(by rw[f.o];omega),by simp[f.o,ao]⟩;have ax:=ak k x q;have ay:=K k y r;have aq:=hc.1 x (lM q);have ar:=ab.1 y (lM r);unfold C4 at aq ar;have ae:=Aa q;have af:=Aa r;clear ak K q r;go_wp2;go_quiet (fail);go_wp2;go_roundw
    case rel =>
     have l:=ad.o;rw[show ((k:Int)+1).toNat=k+1 by omega]at l;refine⟨_,(k:Int)-1,rfl,rfl,by omega,by omega,by omega,by omega,fun h=>?_,fun h=>⟨R.o,?_⟩,eA,?_,?_⟩
     ·rw[<-HD.o];exact TG hc ab R.o ae.o af.o l oM
     ·obtain rfl:x=y:=oM;rw[show ((k:Int)-1+1).toNat=k by omega];exact zH ae.o af.o l
     ·exact al.o
     ·exact am.o
    case measure=>simp[intOf]
   ·obtain rfl:j = -1:=oM;have e:D=0:=by
     have:=ad.o;simp only[show ((-1:Int)+1).toNat=0 from rfl,List.drop_zero]at this;rw[<-HD.o,this];simp
    go_wp2;go_ret;exact⟨rfl,eA⟩
  ·have e:D=1:=by rw[<-Hd.o oM];exact Int.sign_eq_one_of_pos z
   have Aa:¬d=0:=oM;have an:(d==0)=false:=by simpa using Aa
   by_cases hj:0<=j
   all_goals
    go_wp2;go_ret;subst e;exact⟨rfl,eA⟩
def Sn(w:Z)(v:M)(ps:LP)(i x z:Int)(h:Ja w v ps)(f:0<ps.length)(l:ps.length<=1000000)(j:-(ps.length:Int)<=i)(d:i<=1000000)(p:Cf ps i=(x,z)):Calls Tryz.prog 246 #[v,J I i] w fun e w'=>e=.returned (Oa #[J I x,J I z])/\Ba w w':=by
 have:=oG w v ps i h f l j d
 rwa [p]at this
def Gt(w:Z)(d f i j l p T:Int)(q:Bd 100000000 d)(r:Bd 100000000 f)(t:Bd 100000000 i)(h4:Bd 100000000 j)(u:Bd 100000000 l)(h6:Bd 100000000 p)(x:Ke (d,f) (i,j) (l,p)=T):Calls Tryz.prog 245 #[Oa #[J I d,J I f],Oa #[J I i,J I j],Oa #[J I l,J I p]] w fun e w'=>e=.returned (J I T)/\Ba w w':=by
 have:=PK w d f i j l p q r t h4 u h6
 rwa [x]at this
def xg(k:Int)(ps:LP):Prop:=∀p∈ps,Bd k p.1/\Bd k p.2
def xg.at{k:Int}{ps:LP}(h:xg k ps)(e:0<ps.length){i:Int}{x z:Int}(f:Cf ps i=(x,z)):Bd k x/\Bd k z:=by obtain⟨j,_,_,d⟩:=Ev (i:=i) e;rw[f]at d;exact h _ (lM d)
def Vq{ps:LP}{i:Nat}(h:i<ps.length):ps[i]?=Y (Cf ps i):=by
 unfold Cf;have e:(((i:Int)+ps.length)%ps.length).toNat=i:=by
  rw[Int.add_emod_right,Int.emod_eq_of_lt oM oM];omega
 rw[e,gD,gE h];rfl
def kj(ps:LP)(i:Nat):Bool:=decide (0<Ke (Cf ps ((i:Int)-1)) (Cf ps i) (Cf ps ((i:Int)+1)))
def jj(ps:LP)(i k:Nat):Bool:=decide (0<Ke (Cf ps i) (Cf ps ((i:Int)+1)) (Cf ps ((i:Int)+k)))
def mh(ps:LP)(i:Nat):Bool:=kj ps i&&(List.range (ps.length-1)).all fun k=>decide (k<2) || jj ps i k
def ub(ps:LP):Bool:=Ta ps.length 3 12&&(List.range ps.length).all (mh ps)
def XD{ps:LP}{i:Nat}(h:i<ps.length)(d:mh ps i=false):ub ps=false:=by
 unfold ub;rw[Bool.and_eq_false_iff]
 right
 rw[List.all_eq_false];exact⟨i,List.mem_range.2 h,by simp[d]⟩
def xP{ps:LP}(d:Ta ps.length 3 12=true)(h:∀i,i<ps.length->mh ps i=true):ub ps=true:=by unfold ub;rw[d,Bool.true_and,List.all_eq_true];exact fun i e=>h i (List.mem_range.1 e)
def SL{ps:LP}{i:Nat}(h:kj ps i=false):mh ps i=false:=by unfold mh;rw[h];rfl
def QL{ps:LP}{i k:Nat}(d:k<ps.length-1)(e:2<=k)(h:jj ps i k=false):mh ps i=false:=by
 unfold mh;rw[Bool.and_eq_false_iff]
 right
 rw[List.all_eq_false];exact⟨k,List.mem_range.2 d,by simp[h];omega⟩
def PL{ps:LP}{i:Nat}(h:kj ps i=true)(e:∀k,2<=k->k<ps.length-1->jj ps i k=true):mh ps i=true:=by
 unfold mh;rw[h,Bool.true_and,List.all_eq_true];intro k d;rw[List.mem_range]at d;by_cases f:k<2
 ·simp[f]
 ·simp[e k oM d]
def DR(w:Z)(ps:LP)(g:Nat)(d:M)(W:Z):Prop:=
 ∃i:Nat,i<=ps.length/\d=J I i/\g=ps.length-i/\Ba w W/\∀j,j<i->mh ps j=true
def FR(w:Z)(ps:LP)(i:Nat)(g:Nat)(t4:M)(W:Z):Prop:=
 ∃k:Nat,2<=k/\k<=ps.length-1/\t4=J I k/\g=ps.length-k/\Ba w W/\∀j,2<=j->j<k->jj ps i j=true
def CO(w:Z)(v:M)(ps:LP)(h:Ja w v ps)(hb:xg 100000000 ps):Calls Tryz.prog 207 #[v] w fun e w'=>e=.returned (C (ub ps))/\Ba w w':=by
 obtain⟨a,c,rfl⟩:=h.form;obtain⟨n,hn⟩:=gX ps.length;have au:=hn;rw[hn]at h ⊢;have q:=Aa hn;have Hb:=Aa hb;clear hb;by_cases hw:Ta n 3 12=true
 ·have av:3<=n/\n<=12:=by simp[Ta]at hw;omega
  obtain⟨av,aK⟩:=av;have HW:=Aa hw;clear hn au;have h0:0<ps.length:=by rw[q.o];omega
  have ar:ps.length<=1000000:=by rw[q.o];omega
  have H0:=Aa h0;have H6:=Aa ar;obtain⟨b,o,rfl,aM,_,_⟩:=h.at' (Vq h0);clear h0 ar;go_in;go_wp2_with(((go_at_call 160;(with_reducible refine(Th _ n 3 12).mono ?_);rintro e w1 ⟨rfl,d⟩)));go_loopg [11] n (DR w ps)
  case atStart=>exact⟨0,by omega,rfl,by rw[q.o];rfl,eA,fun j hj=>by omega⟩
  case round =>
   obtain⟨i,hi,rfl,rfl,hx,aj⟩:=hrel;rw[q.o]at hi;have ai:=Aa aj;clear aj d;by_cases ag:i<n
   ·obtain⟨⟨ax,az⟩,hA⟩:∃p,Cf ps ((i:Int)-1)=p:=⟨_,rfl⟩;obtain⟨⟨qx,qz⟩,hQ⟩:∃p,Cf ps (i:Int)=p:=⟨_,rfl⟩;obtain⟨⟨bx,bz⟩,hB⟩:∃p,Cf ps ((i:Int)+1)=p:=⟨_,rfl⟩;obtain⟨T,hT⟩:=gX (Ke (ax,az) (qx,qz) (bx,bz));have hP:=(h.f hx).at' (Vq (ps:=ps) (i:=i) (by rw[q.o];exact ag));rw[hQ]at hP;obtain⟨b',o',e',f,d0,d1⟩:=hP;cases e';have HA:=Aa hA;have HQ:=Aa hQ;have HB:=Aa hB;have HT:=Aa hT;have ae:=Aa (Hb.o.at H0.o hA);have u:=Aa (Hb.o.at H0.o hQ);have t:=Aa (Hb.o.at H0.o hB);(have g1:-(ps.length:Int)<=(i:Int)-1:=by rw[q.o];omega);(have g2:-(ps.length:Int)<=(i:Int)+1:=by rw[q.o];omega);(have aw:kj ps i=decide (0<T):=by unfold kj;rw[hA,hQ,hB,hT]);have am:=Aa aw;have hs:=h.f hx;clear hA hQ hB hT aw;have aP:IntKind.i64.wrap ((i:Int)-1)=(i:Int)-1:=iW _ oM;have aQ:IntKind.i64.wrap ((i:Int)+1)=(i:Int)+1:=iW _ oM;have p1:(0:Int)<=(i:Int):=oM;have p2:(i:Int)<(n:Int):=oM;by_cases ao:0<T
    ·(have aC:decide (T<=0)=false:=by simp;omega);go_wp2;go_region_held3 (fun W=>W.cell? ⟨b,o+i*2,X⟩=Y (J I qx)/\W.cell? ⟨b,o+i*2+1,X⟩=Y (J I qz)) ((repeat' (with_reducible refine And.intro ?_ ?_))<;>(first|(go_simp;done)|(refine d.d ?_;go_simp;done))) (first|((go_at_call 246;(with_reducible refine(Sn _ (O (Y ⟨b,o,X⟩) n c) ps ((i:Int)-1) ax az ?_ H0.o H6.o g1 oM HA.o).mono ?_);(refine hs.f ?_;exact eA);rintro e w1 ⟨rfl,d⟩;obtain⟨x,K⟩:=d.cells;(try simp only[Mg,Lg,Cc]at x K);(have l:=d.lt (n:=b) (by first|exact f | (simp only[Cc];exact f)|(have:=l;omega)))))|((go_at_call 246;(with_reducible refine(Sn _ (O (Y ⟨b,o,X⟩) n c) ps ((i:Int)+1) bx bz ?_ H0.o H6.o g2 oM HB.o).mono ?_);(refine hs.f ?_;exact eA);rintro e w2 ⟨rfl,r⟩;obtain⟨y,R⟩:=r.cells;(try simp only[Mg,Lg,Cc]at y R);(have ah:=r.lt (n:=b) (by first|exact f | (simp only[Cc];exact f)|(have:=l;omega)))))|((go_at_call 245;(with_reducible refine(Gt _ _ _ _ _ _ _ T ae.o.1 ae.o.2 u.o.1 u.o.2 t.o.1 t.o.2 HT.o).mono ?_);rintro e w3 ⟨rfl,ab⟩;obtain⟨z,aa⟩:=ab.cells;(try simp only[Mg,Lg,Cc]at z aa))))
     all_goals go_wp2
     go_loopg [4] (n-2) (FR w ps i)
     case atStart=>exact⟨2,nE _,by rw[q.o];omega,rfl,by rw[q.o],eA,fun j h2 hj=>by omega⟩
     case round =>
      rename_i wr0 _;clear hs d0 d1 x K l y R ah z aa;obtain⟨k,aG,aH,rfl,rfl,aA,ad⟩:=hrel;rw[q.o]at aH;have ac:=Aa ad;clear ad;by_cases aI:k<n-1
      ·obtain⟨⟨cx,cz⟩,hC⟩:∃p,Cf ps ((i:Int)+(k:Int))=p:=⟨_,rfl⟩;obtain⟨U,hU⟩:=gX (Ke (qx,qz) (bx,bz) (cx,cz));have hP:=(h.f aA).at' (Vq (ps:=ps) (i:=i) (by rw[q.o];exact ag));rw[HQ.o]at hP;obtain⟨aL,aO,aB,aq,d0,d1⟩:=hP;cases aB;have HC:=Aa hC;have HU:=Aa hU;have af:=Aa (Hb.o.at H0.o hC);(have ay:jj ps i k=decide (0<U):=by unfold jj;rw[HQ.o,HB.o,hC,hU]);have an:=Aa ay;(have g3:-(ps.length:Int)<=(i:Int)+(k:Int):=by rw[q.o];omega);have hs:=h.f aA;clear hC hU ay;have aR:IntKind.i64.wrap ((i:Int)+(k:Int))=(i:Int)+(k:Int):=iW _ oM;have p3:(k:Int)<(n:Int)-1:=oM;have f:=aq;by_cases ap:0<U
       ·(have aD:decide (U<=0)=false:=by simp;omega);go_wp2;go_region_held3 (fun W=>W.cell? ⟨b,o+i*2,X⟩=Y (J I qx)/\W.cell? ⟨b,o+i*2+1,X⟩=Y (J I qz)) ((repeat' (with_reducible refine And.intro ?_ ?_))<;>(first|(go_simp;done)|(refine d.d ?_;go_simp;done))) (first|((go_at_call 246;(with_reducible refine(Sn _ (O (Y ⟨b,o,X⟩) n c) ps ((i:Int)+1) bx bz ?_ H0.o H6.o g2 oM HB.o).mono ?_);(refine hs.f ?_;exact eA);rintro e w1 ⟨rfl,d⟩;obtain⟨x,K⟩:=d.cells;(try simp only[Mg,Lg,Cc]at x K);(have l:=d.lt (n:=b) (by first|exact f | (simp only[Cc];exact f)|(have:=l;omega)))))|((go_at_call 246;(with_reducible refine(Sn _ (O (Y ⟨b,o,X⟩) n c) ps ((i:Int)+(k:Int)) cx cz ?_ H0.o H6.o g3 oM HC.o).mono ?_);(refine hs.f ?_;exact eA);rintro e w2 ⟨rfl,r⟩;obtain⟨y,R⟩:=r.cells;(try simp only[Mg,Lg,Cc]at y R);(have ah:=r.lt (n:=b) (by first|exact f | (simp only[Cc];exact f)|(have:=l;omega)))))|((go_at_call 245;(with_reducible refine(Gt _ _ _ _ _ _ _ U u.o.1 u.o.2 t.o.1 t.o.2 af.o.1 af.o.2 HU.o).mono ?_);rintro e w3 ⟨rfl,ab⟩;obtain⟨z,aa⟩:=ab.cells;(try simp only[Mg,Lg,Cc]at z aa))))
        all_goals go_wp2
        go_roundg (n-(k+1))
        case measure=>have:=q.o;omega
        case rel =>
         refine⟨k+1,by omega,by rw[q.o];omega,by go_num,by rw[q.o],eA,fun j h2 hj=>?_⟩;by_cases aF:j=k
         ·rw[aF,an.o];simpa using ap
         ·exact ac.o j h2 oM
       ·(have aD:decide (U<=0)=true:=by simp;omega);have e:ub ps=false:=XD (by rw[q.o];exact ag) (QL (k:=k) (by rw[q.o];exact aI) aG (by rw[an.o];simpa using ap));have E:=Aa e;clear e;go_wp2;go_region_held3 (fun W=>W.cell? ⟨b,o+i*2,X⟩=Y (J I qx)/\W.cell? ⟨b,o+i*2+1,X⟩=Y (J I qz)) ((repeat' (with_reducible refine And.intro ?_ ?_))<;>(first|(go_simp;done)|(refine d.d ?_;go_simp;done))) (first|((go_at_call 246;(with_reducible refine(Sn _ (O (Y ⟨b,o,X⟩) n c) ps ((i:Int)+1) bx bz ?_ H0.o H6.o g2 oM HB.o).mono ?_);(refine hs.f ?_;exact eA);rintro e w1 ⟨rfl,d⟩;obtain⟨x,K⟩:=d.cells;(try simp only[Mg,Lg,Cc]at x K);(have l:=d.lt (n:=b) (by first|exact f | (simp only[Cc];exact f)|(have:=l;omega)))))|((go_at_call 246;(with_reducible refine(Sn _ (O (Y ⟨b,o,X⟩) n c) ps ((i:Int)+(k:Int)) cx cz ?_ H0.o H6.o g3 oM HC.o).mono ?_);(refine hs.f ?_;exact eA);rintro e w2 ⟨rfl,r⟩;obtain⟨y,R⟩:=r.cells;(try simp only[Mg,Lg,Cc]at y R);(have ah:=r.lt (n:=b) (by first|exact f | (simp only[Cc];exact f)|(have:=l;omega)))))|((go_at_call 245;(with_reducible refine(Gt _ _ _ _ _ _ _ U u.o.1 u.o.2 t.o.1 t.o.2 af.o.1 af.o.2 HU.o).mono ?_);rintro e w3 ⟨rfl,ab⟩;obtain⟨z,aa⟩:=ab.cells;(try simp only[Mg,Lg,Cc]at z aa))))
        all_goals go_wp2
        all_goals go_ret
        exact⟨by rw[E.o];rfl,eA⟩
      ·obtain rfl:k=n-1:=oM;have ak:mh ps i=true:=PL (by rw[am.o];simpa using ao) (fun j h2 hj=>ac.o j h2 (by rw[q.o]at hj;exact hj));have al:=Aa ak;clear ak;have p4:¬(((n-1:Nat):Int)<(n:Int)-1):=oM;go_wp2;go_roundg (n-(i+1))
       case measure=>have:=q.o;omega
       case rel =>
        refine⟨i+1,by rw[q.o];omega,by go_num,by rw[q.o],eA,fun j hj=>?_⟩;by_cases aE:j=i
        ·rw[aE];exact al.o
        ·exact ai.o j oM
    ·(have aC:decide (T<=0)=true:=by simp;omega);have e:ub ps=false:=XD (by rw[q.o];exact ag) (SL (by rw[am.o];simpa using ao));have E:=Aa e;clear e;go_wp2;go_region_held3 (fun W=>W.cell? ⟨b,o+i*2,X⟩=Y (J I qx)/\W.cell? ⟨b,o+i*2+1,X⟩=Y (J I qz)) ((repeat' (with_reducible refine And.intro ?_ ?_))<;>(first|(go_simp;done)|(refine d.d ?_;go_simp;done))) (first|((go_at_call 246;(with_reducible refine(Sn _ (O (Y ⟨b,o,X⟩) n c) ps ((i:Int)-1) ax az ?_ H0.o H6.o g1 oM HA.o).mono ?_);(refine hs.f ?_;exact eA);rintro e w1 ⟨rfl,d⟩;obtain⟨x,K⟩:=d.cells;(try simp only[Mg,Lg,Cc]at x K);(have l:=d.lt (n:=b) (by first|exact f | (simp only[Cc];exact f)|(have:=l;omega)))))|((go_at_call 246;(with_reducible refine(Sn _ (O (Y ⟨b,o,X⟩) n c) ps ((i:Int)+1) bx bz ?_ H0.o H6.o g2 oM HB.o).mono ?_);(refine hs.f ?_;exact eA);rintro e w2 ⟨rfl,r⟩;obtain⟨y,R⟩:=r.cells;(try simp only[Mg,Lg,Cc]at y R);(have ah:=r.lt (n:=b) (by first|exact f | (simp only[Cc];exact f)|(have:=l;omega)))))|((go_at_call 245;(with_reducible refine(Gt _ _ _ _ _ _ _ T ae.o.1 ae.o.2 u.o.1 u.o.2 t.o.1 t.o.2 HT.o).mono ?_);rintro e w3 ⟨rfl,ab⟩;obtain⟨z,aa⟩:=ab.cells;(try simp only[Mg,Lg,Cc]at z aa))))
     all_goals go_wp2
     all_goals go_ret
     exact⟨by rw[E.o];rfl,eA⟩
   ·obtain rfl:i=n:=oM;have e:ub ps=true:=xP (by rw[q.o];exact HW.o) (fun j hj=>ai.o j (by rw[q.o]at hj;exact hj));have E:=Aa e;clear e;go_wp2;go_ret;exact⟨by rw[E.o];rfl,eA⟩
 ·have aJ:Ta n 3 12=false:=by simpa using hw
  have e:ub ps=false:=by unfold ub;rw[hn,aJ];rfl
  rw[e];clear e hn au;go_in;go_wp2_with(((go_at_call 160;(with_reducible refine(Th _ n 3 12).mono ?_);rintro e w1 ⟨rfl,d⟩)));go_ret;exact⟨rfl,eA⟩
