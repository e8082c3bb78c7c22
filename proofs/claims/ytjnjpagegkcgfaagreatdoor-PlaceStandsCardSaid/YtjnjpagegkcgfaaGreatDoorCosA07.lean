/- Part 8. -/
import Derived.Test.YtjnjpagegkcgfaaGreatDoorCosA06
set_option maxRecDepth 1000000
set_option maxHeartbeats 16000000
set_option linter.unusedSimpArgs false
set_option linter.unusedVariables false
open Go.Value renaming slice->O,bool->Z,agg->M,int->F
open Option renaming some->Y,none->X
open Go renaming Value->I,World->J,Addr->S
open Go.IntKind renaming i64->C
open Go.Obj renaming cells->H
namespace Go.Proofs.YtjnjpagegkcgfaaGreatDoor.Cop
section
open Go.RowKit Go.Shelf
def ZB(W:J)(b:Nat)(n:Int):Prop:=∃a m c s,W.heap[b]?=Y (H #[O a m c,Z s] 61 (0,0))/\IsZ W (M #[O a m c,Z s]) n
section
variable {W W':J} {b b':Nat} {n n':Int}
theorem ZB.ext(h:ZB W b n)(k:Ext W W'):ZB W' b n:=by
 obtain⟨a,m,c,s,d,e⟩:=h;exact⟨a,m,c,s,k.heapS d,e.ext k⟩
theorem ZB.not(h:ZB W b n):NoT 2 W b:=by
 obtain⟨a,m,c,s,d,i⟩:=h;intro cs f e;rw[d]at e;cases e
theorem ZB.rd(h:ZB W b n):∃a m c s,W.cell? ⟨b,0,X⟩=Y (O a m c)/\W.cell? ⟨b,1,X⟩=Y (Z s)/\W.frozen? ⟨b,0,X⟩=false/\W.frozen? ⟨b,1,X⟩=false/\b<W.heap.size/\IsZ W (M #[O a m c,Z s]) n:=by
 obtain⟨a,m,c,s,d,e⟩:=h;exact⟨a,m,c,s,qcB d (i:=0) rfl,qcB d (i:=1) rfl,qfB d 0,qfB d 1,zaa d,e⟩
theorem ZB.put{a:Option S}{m c:Nat}{s:Bool}(h:ZB W b n)(f:IsZ W (M #[O a m c,Z s]) n'):ZB ((W.setCell ⟨b,0,X⟩ (O a m c)).setCell ⟨b,1,X⟩ (Z s)) b n':=by
 have d:=h.not;obtain⟨i,p,j,q,e,l⟩:=h;exact⟨a,m,c,s,zaj e _ _,f.keep (((KeepT.refl _ W).setN d _).setN (d.set _ _) _)⟩
theorem ZB.other{p:S}(h:ZB W b n)(i:p.block≠b)(j:NoT 2 W p.block)(u:I):ZB (W.setCell p u) b n:=by
 obtain⟨a,m,c,s,d,f⟩:=h;exact⟨a,m,c,s,(bS _ _ _ _ (fun e=>i e.symm)).trans d,f.keep ((KeepT.refl _ W).setN j _)⟩
theorem ZB.new{W0:J}{a:Option S}{m c:Nat}{s:Bool}(e:IsZ W0 (M #[O a m c,Z s]) n)(d:b=W0.heap.size):ZB (W0.alloc (H #[O a m c,Z s] 61)) b n:=
 ⟨a,m,c,s,qhA _ _ _ d,e.ext ((eR _).alloc _)⟩
end
def RtS(w:J)(e:Nat)(n d g:Int)(_:I)(W:J):Prop:=
 Ext w W/\ZB W w.heap.size n/\ZB W (w.heap.size+1) d/\W.heap[w.heap.size+1+1]?=Y (H #[O X 0 0,Z false,O X 0 0] 63 (0,0))/\ZB W e g
theorem zdW(w:J)(va vb:I)(n d:Int)(ha:IsZ w va n)(hb:IsZ w vb d)(K:Lm limA n)(l:Lm limA d)(hd:d≠0) :
  Calls Tryz.prog 178 #[va,vb] w (RetR w (Rat.divInt n d)):=by
 obtain⟨a,m,c,s,rfl⟩:=ha.form;obtain⟨a',m',c',s',rfl⟩:=hb.form;have ad:=hd9 hb.sgn;obtain⟨af,ah,ag,am,al⟩:=zhj (n:=n) hd;have aE:=hd9 K;have aD:=hd9 l;have ab:=hd9 (zoL (n:=n) hd l);have ac:Hid (Lm lim n):=hd9 (K.mono dM);have aa:Hid (Lm lim d):=hd9 (l.mono dM);have aJ:=hd9 am;have aI:=hd9 al;have aH:=hd9 ah;have aG:=hd9 ag;have aF:Hid (Lm lim ((Rat.divInt n d).den:Int)):=hd9 (zfh hd (l.mono dM));have H1:Hid (Lm lim 1):=hd9 (zey dM);have bq:=den_pos (Rat.divInt n d);clear K l am al ah ag;go_enter Tryz.func178,Tryz.ntmps178
 go_upto_if 10 with (((go_at_call 225;(with_reducible refine(zl0 _ (M #[O a m c,Z s]) (M #[O a' m' c',Z s']) n d ?_ ?_ ac.out aa.out).mono ?_);(refine ha.ext ?_;exact eA);(refine hb.ext ?_;exact eA);rintro e j ⟨r1,rfl,z,p⟩;obtain⟨a1,m1,c1,s1,rfl⟩:=z.form;obtain⟨⟨aK,aQ⟩,av,aw,ax⟩:=cK3 w p;have t:w.heap.size<j.heap.size+1:=oM;have x:w.heap.size+1<j.heap.size+1:=oM;have y:w.heap.size+1+1<j.heap.size+1:=oM)))
 have D:RtS w j.heap.size n d (Int.gcd n d:Nat) (Z true) (j.alloc (H #[O a1 m1 c1,Z s1] 61)):=by
  refine⟨eA,?_,?_,?_,ZB.new z rfl⟩
  ·refine ZB.ext (W:=w.alloc (H #[O a m c,Z s] 61)) (ZB.new ha rfl) eA
  ·refine ZB.ext (W:=(w.alloc (H #[O a m c,Z s] 61)).alloc (H #[O a' m' c',Z s'] 61)) (ZB.new (hb.ext eA) sM) eA
  ·exact(p.thenB ((Below.refl _ _).alloc (nE _) _) p.size).heapS (by rw[zaf];simp)
 go_cut [11] (RtS w j.heap.size n d (rg n d))
 case first =>
  cases s'
  ·have e:rg n d=(Int.gcd n d:Nat):=by have:=ad.out;unfold rg;rw[if_neg (by simpa using this)]
   have E:=hd9 e;clear e;go_wp2;go_meet;rw[E.out];exact D
  ·have e:rg n d = -((Int.gcd n d:Nat):Int):=by have:=ad.out;unfold rg;rw[if_pos (by simpa using this)]
   have E:=hd9 e;clear e
   go_wp2_with(((go_at_call 186;(with_reducible refine(zdm _ (M #[O a1 m1 c1,Z s1]) (Int.gcd n d:Nat) ?_).mono ?_);(refine z.ext ?_;exact eA);rintro e w2 ⟨r2,rfl,an,f⟩;obtain⟨a2,m2,c2,s2,rfl⟩:=an.form;obtain⟨⟨bp,br⟩,aZ,a0,a8⟩:=cK3 w f;have aX:=f.lt (n:=j.heap.size) (by go_simp))))
   go_meet;rw[E.out];obtain⟨i1,i2,i3,i4,i5⟩:=D;have hN:=(i5.ext f).not
   exact⟨eA,((i2.ext f).other dO hN _).other dO (hN.set _ _) _,((i3.ext f).other dO hN _).other dO (hN.set _ _) _,
    by rw[bS _ _ _ _ dO,bS _ _ _ _ dO];exact f.heapS i4,(i5.ext f).put an⟩
 case rest =>
  have bE:¬j.heap.size=w.heap.size:=oM
  have bF:¬w.heap.size=j.heap.size:=oM
  have bG:¬j.heap.size=w.heap.size+1:=oM
  have bH:¬w.heap.size+1=j.heap.size:=oM
  clear D p aK aQ av aw ax t x y z;obtain⟨hx,b1,b2,r,b4⟩:=hcut;have bw:=b1.not;have bx:=b2.not;have bz:NoT 2 wc (w.heap.size+1+1):=fun cs fr e=>by rw[r]at e;cases e
  have aC:w.heap.size+1+1<wc.heap.size:=zaa r;have r0:=qcB r (i:=0) (u:=O X 0 0) rfl;have r1:=qcB r (i:=1) (u:=Z false) rfl;have r2:=qcB r (i:=2) (u:=O X 0 0) rfl;have bI:=qfB r 0;have bJ:=qfB r 1;have bK:=qfB r 2;obtain⟨a3,m3,c3,s3,n0,n1,bC,bD,bi,aW⟩:=b1.rd;obtain⟨a4,m4,c4,s4,d0,d1,bl,bm,bj,aV⟩:=b2.rd;obtain⟨a5,m5,c5,s5,g0,g1,bn,bo,bk,au⟩:=b4.rd;clear b1 b2 r b4
  go_wp2_with(first|((go_at_call 134;(with_reducible refine(zfb _ (M #[O a3 m3 c3,Z s3]) (M #[O a5 m5 c5,Z s5]) n (rg n d) ?_ ?_ aE.out ab.out af (.inr aH.out)).mono ?_);(refine aW.ext ?_;exact eA);(refine au.ext ?_;exact eA);rintro e w3 ⟨vq,vr,rfl,ai,aR,q⟩;obtain⟨aq,mq,cq,sq,rfl⟩:=ai.form;obtain⟨ar,mr,cr,sr,rfl⟩:=aR.form;obtain⟨⟨aL,bs⟩,a9,ba,ay⟩:=cK3 w q;have aY:=q.lt (n:=j.heap.size) (by go_simp)))|((go_at_call 134;(with_reducible refine(zfb _ (M #[O a4 m4 c4,Z s4]) (M #[O a5 m5 c5,Z s5]) d (rg n d) ?_ ?_ aD.out ab.out af (.inr aG.out)).mono ?_);(refine(aV.ext q).keep kA);(refine(au.ext q).keep kA);rintro e w4 ⟨vq,vr,rfl,aj,aS,R⟩;obtain⟨ap,mp,cp,sp,rfl⟩:=aj.form;obtain⟨ar,mr,cr,sr,rfl⟩:=aS.form;obtain⟨⟨aM,bt⟩,bb,bc,az⟩:=cK3 w R)))
  have L:=(aj.dig).keep (w':=(w4.setCell ⟨w.heap.size+1,0,X⟩ (O ap mp cp)).setCell ⟨w.heap.size+1,1,X⟩ (Z sp)) kA;have ak:=((ai.keep (w':=(w3.setCell ⟨w.heap.size,0,X⟩ (O aq mq cq)).setCell ⟨w.heap.size,1,X⟩ (Z sq)) kA).ext R).keep (w':=(w4.setCell ⟨w.heap.size+1,0,X⟩ (O ap mp cp)).setCell ⟨w.heap.size+1,1,X⟩ (Z sp)) kA;rw[aI.out]at L;rw[aJ.out]at ak;have e5:(((Rat.divInt n d).den:Int).natAbs:Int)=((Rat.divInt n d).den:Int):=oM
  rw[e5]at L;clear e5
  go_region_held3 (fun W=>W.cell? ⟨w.heap.size,0,X⟩=Y (O aq mq cq)/\W.cell? ⟨w.heap.size,1,X⟩=Y (Z sq)/\W.cell? ⟨w.heap.size+1,0,X⟩=Y (O ap mp cp)) ((repeat' (with_reducible refine And.intro ?_ ?_))<;>(first|(go_simp;done)|(refine p.cellS ?_;go_simp;done))) (first|((go_at_call 188;(with_reducible refine(zcd _ 1 dM dM).mono ?_);rintro e w5 ⟨r5,rfl,ao,aT⟩;obtain⟨a6,m6,c6,rfl⟩:=ao.isD.form;obtain⟨⟨aO,bu⟩,be,bf,aA⟩:=cK3 w aT))|((go_at_call 187;(with_reducible refine(zcD _ (M #[O ap mp cp]) (M #[O a6 m6 c6]) ((Rat.divInt n d).den:Int) 1 (-1) ?_ ?_ aF.out H1.out dM oM).mono ?_);(refine L.ext ?_;exact eA);(refine ao.isD.ext ?_;exact eA);rintro e w6 ⟨r6,rfl,Q,aU⟩;obtain⟨a7,m7,c7,rfl⟩:=Q.isD.form;obtain⟨⟨aP,bv⟩,bg,bh,aB⟩:=cK3 w aU)))
  all_goals go_wp2
  have e7:((Rat.divInt n d).den:Int) + -1*1=((Rat.divInt n d).den:Int)-1:=oM
  rw[e7]at Q;clear e7;have ae:IsR w6 (M #[O aq mq cq,Z sq,O a7 m7 c7]) (Rat.divInt n d):=IsR.mk (ak.ext eA) Q.isD;refine bR (v:=M #[O aq mq cq,Z sq,O a7 m7 c7]) (by simp[results,Tryz.results178,go_sem,aL,aM,aO,aP,aC,ay,az,aA,aB,r0,r1,r2]) rfl ⟨_,rfl,ae.keep kA,?_⟩;have bA:Ext w w3:=hx.trans q;have bB:Ext w w4:=Ext.trans eA R;exact eA
theorem zjK(w:J)(va vb:I)(n d:Int)(ha:IsZ w va n)(R:IsZ w vb d)(q:Lm limA n)(t:Lm limA d) :
  Calls Tryz.prog 145 #[va,vb] w fun e w'=>∃r,e = .returned (.tuple #[r,F C (if d=0 then 9 else 0)])/\IsR w' r (Rat.divInt n d)/\Ext w w':=by
 obtain⟨a,m,c,s,rfl⟩:=ha.form;obtain⟨L,m',Q,s',rfl⟩:=R.form;have K:=hd9 q;have D:=hd9 t;clear q t;have p:=R.dig
 by_cases l:d=0
 ·have hz:((d.natAbs:Int)==0)=true:=by simp[l]
  have Hd:=hd9 l;clear l;go_enter Tryz.func145,Tryz.ntmps145
  go_wp2_with(((go_at_call 166;(with_reducible refine(zaB _ (M #[O L m' Q]) d.natAbs ?_).mono ?_);(refine p.ext ?_;exact eA);rintro e w1 ⟨rfl,j⟩;obtain⟨⟨i,ab⟩,x,y,f⟩:=cK3 w j)))
  refine bR (v:=.tuple #[M #[O X 0 0,Z false,O X 0 0],F C 9]) (by simp[results,Tryz.results145,go_sem,i,f]) rfl ⟨M #[O X 0 0,Z false,O X 0 0],by first|rfl|rw[if_pos Hd.out],?_,eA⟩
  first|exact IsR.zero _|(rw[Hd.out,Rat.divInt_zero];exact IsR.zero _)
 ·have hz:((d.natAbs:Int)==0)=false:=by simp;omega
  go_enter Tryz.func145,Tryz.ntmps145
  go_wp2_with(first|((go_at_call 166;(with_reducible refine(zaB _ (M #[O L m' Q]) d.natAbs ?_).mono ?_);(refine p.ext ?_;exact eA);rintro e w1 ⟨rfl,j⟩;obtain⟨⟨i,ab⟩,x,y,f⟩:=cK3 w j))|((go_at_call 178;(with_reducible refine(zdW _ (M #[O a m c,Z s]) (M #[O L m' Q,Z s']) n d ?_ ?_ K.out D.out l).mono ?_);(refine ha.ext ?_;exact eA);(refine R.ext ?_;exact eA);rintro e w2 ⟨r2,rfl,u,ac⟩;obtain⟨a2,m2,c2,s2,a3,m3,c3,rfl⟩:=u.form;obtain⟨⟨aa,af⟩,ad,ae,z⟩:=cK3 w ac)))
  exact bR (v:=.tuple #[M #[O a2 m2 c2,Z s2,O a3 m3 c3],F C 0]) (by simp[results,Tryz.results145,go_sem,i,aa,f,z]) rfl ⟨M #[O a2 m2 c2,Z s2,O a3 m3 c3],by first|rfl|rw[if_neg l],u.keep kA,eA⟩
end
section
open Go.RowKit Go.Shelf
theorem Ext.useLt{a b:J}(h:Ext a b){n:Nat}{G:Prop}(d:n<a.heap.size)(k:n<b.heap.size->G):G:=k (h.lt d)
theorem Lm.mul{j k:Nat}{x y:Int}(h:Lm j x)(l:Lm k y):Lm (j+k) (x*y):=by
 have e:B ^ (j+k)=B ^ j*B ^ k:=by rw[Int.pow_add]
 have q:=zap zbt j;have i:=zap zbt k;unfold Lm at *;have d:(x.natAbs:Int)<B ^ j:=oM
 have f:(y.natAbs:Int)<B ^ k:=oM
 have p:((x*y).natAbs:Int)<B ^ (j+k):=by
  rw[Int.natAbs_mul,e,Int.natCast_mul];exact Int.lt_of_le_of_lt (Int.mul_le_mul_of_nonneg_left (Int.le_of_lt f) oM) (Int.mul_lt_mul_of_pos_right d i)
 omega
theorem Lm.add{k:Nat}{x y:Int}(h:Lm k x)(d:Lm k y):Lm (k+1) (x+y):=by
 have e:B ^ (k+1)=B ^ k*16777216:=by rw[Int.pow_succ];rfl
 unfold Lm at *;rw[e];omega
theorem zcP(p q:Rat):Rat.divInt (p.num*q.den+q.num*p.den) ((p.den:Int)*q.den)=p+q:=by
 rw[Rat.add_def',<-Rat.divInt_ofNat,Int.natCast_mul]
theorem zcQ(p q:Rat):Rat.divInt (p.num*q.num) ((p.den:Int)*q.den)=p*q:=by
 rw[Rat.mul_def',<-Rat.divInt_ofNat,Int.natCast_mul]
theorem zeC(p q:Rat):Rat.divInt (p.num*q.den) ((p.den:Int)*q.num)=p / q:=by
 rw[Rat.div_def,Rat.inv_def,<-Rat.divInt_mul_divInt,Rat.num_divInt_den]
theorem zfg(p q:Rat):(p.den:Int)*q.den≠0:=by
 have:=Int.mul_pos (den_pos p) (den_pos q);omega
theorem Rb.add{k:Nat}{p q:Rat}(h:Rb k p)(d:Rb k q):Rb (2*k+1) (p+q):=by
 rw[<-zcP];refine⟨zg9 (zfg p q) ?_,zfh (zfg p q) ((Lm.mul h.2 d.2).mono oM)⟩;rw[show 2*k+1=(k+k)+1 by omega];exact(h.1.mul d.2).add (d.1.mul h.2)
theorem Rb.mul{j k:Nat}{p q:Rat}(h:Rb j p)(d:Rb k q):Rb (j+k) (p*q):=by
 rw[<-zcQ];exact⟨zg9 (zfg p q) (h.1.mul d.1),zfh (zfg p q) (h.2.mul d.2)⟩
theorem Rb.neg{k:Nat}{p:Rat}(h:Rb k p):Rb k (-p):=⟨h.1.neg,h.2⟩
theorem Rb.sub{k:Nat}{p q:Rat}(h:Rb k p)(d:Rb k q):Rb (2*k+1) (p-q):=by
 rw[Rat.sub_eq_add_neg];exact h.add d.neg
theorem Rb.int{k:Nat}{n:Int}(h:Lm k n)(d:1<=k):Rb k (n:Rat):=⟨h,zey d⟩
theorem Rb.div{j k:Nat}{p q:Rat}(h:Rb j p)(d:Rb k q)(l:1<=j+k):Rb (j+k) (p / q):=by
 by_cases i:q=0
 ·subst i
  have:p / 0=((0:Int):Rat):=by rw[Rat.div_def,Rat.inv_zero,Rat.mul_zero];rfl
  rw[this];exact Rb.int (by have:=zap zbt (j+k);unfold Lm;omega) l
 ·have r:q.num≠0:=fun e=>i (by rw[<-Rat.num_divInt_den q,e];simp)
  have f:(p.den:Int)*q.num≠0:=Int.mul_ne_zero (by have:=den_pos p;omega) r;rw[<-zeC];exact⟨zg9 f (h.1.mul d.2),zfh f (h.2.mul d.1)⟩
def rcmp(p q:Rat):Int:=(p.num*q.den-q.num*p.den).sign
theorem zdY(p q:Rat):rcmp p q<0 ↔ p<q:=by
 unfold rcmp;rw[Rat.lt_iff,Int.sign_neg_iff];omega
theorem zeZ(p q:Rat):0<rcmp p q ↔ q<p:=by
 unfold rcmp;rw[Rat.lt_iff,Int.sign_pos_iff];omega
theorem zor(w:J)(va vb:I)(p q:Rat)(ha:IsR w va p)(hb:IsR w vb q)(d:Rb limR p)(f:Rb limR q) :
  Calls Tryz.prog 75 #[va,vb] w fun e w'=>e = .returned (F C (rcmp p q))/\Ext w w'/\Dr w w':=by
 obtain⟨a,m,c,s,a2,m2,c2,rfl⟩:=ha.form;obtain⟨a',m',c',s',l,z,r,rfl⟩:=hb.form;have D:=hd9 d;have K:=hd9 f;have ad:=ha.top;have ae:=hb.top;have L:Hid (Lm lim p.num):=hd9 (d.1.mono dM);have Q:Hid (Lm lim q.num):=hd9 (f.1.mono dM);have R:Hid (Lm lim (p.den:Int)):=hd9 (d.2.mono dM);have aa:Hid (Lm lim (q.den:Int)):=hd9 (f.2.mono dM);have ab:Hid (Lm limA (p.num*q.den)):=hd9 ((d.1.mul f.2).mono dM);have ac:Hid (Lm limA (q.num*p.den)):=hd9 ((f.1.mul d.2).mono dM);have av:Hid (Lm limA (p.num*q.num)):=hd9 ((d.1.mul f.1).mono dM);have aw:Hid (Lm limA ((p.den:Int)*q.den)):=hd9 ((d.2.mul f.2).mono dM);have ax:Hid (Lm limA ((p.den:Int)*q.num)):=hd9 ((d.2.mul f.1).mono dM);have i:Hid (Lm lim (p.num*q.den)):=hd9 (ab.out.mono dM);have j:Hid (Lm lim (q.num*p.den)):=hd9 (ac.out.mono dM);clear d f;go_enter Tryz.func75,Tryz.ntmps75;go_wp2
 go_region_held3 (fun W=>W.cell? ⟨w.heap.size,0,X⟩=Y (O a m c)/\W.cell? ⟨w.heap.size,1,X⟩=Y (Z s)/\W.cell? ⟨w.heap.size,2,X⟩=Y (O a2 m2 c2)/\W.cell? ⟨w.heap.size+1,0,X⟩=Y (O a' m' c')/\W.cell? ⟨w.heap.size+1,1,X⟩=Y (Z s')/\W.cell? ⟨w.heap.size+1,2,X⟩=Y (O l z r)) ((repeat' (with_reducible refine And.intro ?_ ?_))<;>(first|(go_simp;done)|(refine hx1.cellS ?_;go_simp;done))) (first|((go_at_call 135;(with_reducible refine(zdX _ (M #[O a' m' c',Z s',O l z r]) q ?_ K.out).mono ?_);(refine hb.ext ?_;exact eA);rintro e w1 ⟨r1,rfl,t,hx1,aD⟩;obtain⟨b1,n1,k1,t1,rfl⟩:=t.form;obtain⟨⟨ay,aI⟩,aj,ak⟩:=cK2 w hx1))|((go_at_call 135;(with_reducible refine(zdX _ (M #[O a m c,Z s,O a2 m2 c2]) p ?_ D.out).mono ?_);(refine ha.ext ?_;exact eA);rintro e w3 ⟨r3,rfl,x,ag,aF⟩;obtain⟨b3,n3,k3,t3,rfl⟩:=x.form;obtain⟨⟨aA,aK⟩,an,ao⟩:=cK2 w ag))|((go_at_call 147;(with_reducible refine(zkH _ (M #[O a m c,Z s]) (M #[O b1 n1 k1,Z t1]) p.num (q.den:Int) ?_ ?_ L.out aa.out).mono ?_);(refine ad.ext ?_;exact eA);(refine t.ext ?_;exact eA);rintro e w2 ⟨r2,rfl,u,af,aE⟩;obtain⟨b2,n2,k2,t2,rfl⟩:=u.form;obtain⟨⟨az,aJ⟩,al,am⟩:=cK2 w af))|((go_at_call 147;(with_reducible refine(zkH _ (M #[O a' m' c',Z s']) (M #[O b3 n3 k3,Z t3]) q.num (p.den:Int) ?_ ?_ Q.out R.out).mono ?_);(refine ae.ext ?_;exact eA);(refine x.ext ?_;exact eA);rintro e w4 ⟨r4,rfl,y,ah,aG⟩;obtain⟨b4,n4,k4,t4,rfl⟩:=y.form;obtain⟨⟨aB,aL⟩,ap,aq⟩:=cK2 w ah))|((go_at_call 136;(with_reducible refine(zmB _ (M #[O b2 n2 k2,Z t2]) (M #[O b4 n4 k4,Z t4]) (p.num*q.den) (q.num*p.den) ?_ ?_ i.out j.out).mono ?_);(refine u.ext ?_;exact eA);(refine y.ext ?_;exact eA);rintro e w5 ⟨rfl,ai,aH⟩;obtain⟨⟨aC,aM⟩,ar,au⟩:=cK2 w ai)))
 all_goals go_wp2
 go_ret;exact⟨rfl,eA,dA⟩
theorem zaE(w:J)(i j:I)(p q:Rat)(l:IsR w i p)(r:IsR w j q)(d:Rb limR p)(f:Rb limR q) :
  Calls Tryz.prog 75 #[i,j] w fun e w'=>e = .returned (F C (rcmp p q))/\Ext w w':=zfk (zor w i j p q l r d f)
theorem zhk(w:J)(va vb:I)(p q:Rat)(ha:IsR w va p)(hb:IsR w vb q)(d:Rb limR p)(f:Rb limR q) :
  Calls Tryz.prog 156 #[va,vb] w (RetR w (p*q)):=by
 obtain⟨a,m,c,s,a2,m2,c2,rfl⟩:=ha.form;obtain⟨a',m',c',s',i,y,j,rfl⟩:=hb.form;have Q:=hd9 d;have R:=hd9 f;have an:=ha.top;have ao:=hb.top;have aa:Hid (Lm lim p.num):=hd9 (d.1.mono dM);have ab:Hid (Lm lim q.num):=hd9 (f.1.mono dM);have ac:Hid (Lm lim (p.den:Int)):=hd9 (d.2.mono dM);have ad:Hid (Lm lim (q.den:Int)):=hd9 (f.2.mono dM);have ae:Hid (Lm limA (p.num*q.den)):=hd9 ((d.1.mul f.2).mono dM);have af:Hid (Lm limA (q.num*p.den)):=hd9 ((f.1.mul d.2).mono dM);have ag:Hid (Lm limA (p.num*q.num)):=hd9 ((d.1.mul f.1).mono dM);have ah:Hid (Lm limA ((p.den:Int)*q.den)):=hd9 ((d.2.mul f.2).mono dM);have aI:Hid (Lm limA ((p.den:Int)*q.num)):=hd9 ((d.2.mul f.1).mono dM);have av:Hid (Lm lim (p.num*q.den)):=hd9 (ae.out.mono dM);have aw:Hid (Lm lim (q.num*p.den)):=hd9 (af.out.mono dM);clear d f;go_enter Tryz.func156,Tryz.ntmps156;go_wp2
 go_region_held3 (fun W=>W.cell? ⟨w.heap.size,0,X⟩=Y (O a m c)/\W.cell? ⟨w.heap.size,1,X⟩=Y (Z s)/\W.cell? ⟨w.heap.size,2,X⟩=Y (O a2 m2 c2)/\W.cell? ⟨w.heap.size+1,0,X⟩=Y (O a' m' c')/\W.cell? ⟨w.heap.size+1,1,X⟩=Y (Z s')/\W.cell? ⟨w.heap.size+1,2,X⟩=Y (O i y j)) ((repeat' (with_reducible refine And.intro ?_ ?_))<;>(first|(go_simp;done)|(refine hx1.cellS ?_;go_simp;done))) (first|((go_at_call 147;(with_reducible refine(zbK _ (M #[O a m c,Z s]) (M #[O a' m' c',Z s']) p.num q.num ?_ ?_ aa.out ab.out).mono ?_);(refine an.ext ?_;exact eA);(refine ao.ext ?_;exact eA);rintro e w1 ⟨r1,rfl,l,hx1⟩;obtain⟨b1,n1,k1,t1,rfl⟩:=l.form;obtain⟨⟨ai,aJ⟩,ax,ay,z⟩:=cK3 w hx1))|((go_at_call 135;(with_reducible refine(zaH _ (M #[O a m c,Z s,O a2 m2 c2]) p ?_ Q.out).mono ?_);(refine ha.ext ?_;exact eA);rintro e w2 ⟨r2,rfl,r,ap⟩;obtain⟨b2,n2,k2,t2,rfl⟩:=r.form;obtain⟨⟨aj,aK⟩,az,aA,D⟩:=cK3 w ap))|((go_at_call 135;(with_reducible refine(zaH _ (M #[O a' m' c',Z s',O i y j]) q ?_ R.out).mono ?_);(refine hb.ext ?_;exact eA);rintro e w3 ⟨r3,rfl,t,aq⟩;obtain⟨b3,n3,k3,t3,rfl⟩:=t.form;obtain⟨⟨ak,aL⟩,aB,aC,K⟩:=cK3 w aq))|((go_at_call 147;(with_reducible refine(zbK _ (M #[O b2 n2 k2,Z t2]) (M #[O b3 n3 k3,Z t3]) (p.den:Int) (q.den:Int) ?_ ?_ ac.out ad.out).mono ?_);(refine r.ext ?_;exact eA);(refine t.ext ?_;exact eA);rintro e w4 ⟨r4,rfl,u,ar⟩;obtain⟨b4,n4,k4,t4,rfl⟩:=u.form;obtain⟨⟨al,aM⟩,aD,aE,L⟩:=cK3 w ar))|((go_at_call 178;(with_reducible refine(zdW _ (M #[O b1 n1 k1,Z t1]) (M #[O b4 n4 k4,Z t4]) (p.num*q.num) ((p.den:Int)*q.den) ?_ ?_ ag.out ah.out (zfg p q)).mono ?_);(refine l.ext ?_;exact eA);(refine u.ext ?_;exact eA);rintro e w5 ⟨r5,rfl,x,au⟩;obtain⟨b5,n5,k5,t5,b6,n6,k6,rfl⟩:=x.form;obtain⟨⟨am,aO⟩,aF,aG,aH⟩:=cK3 w au)))
 all_goals go_wp2
 refine bR (v:=M #[O b5 n5 k5,Z t5,O b6 n6 k6]) (by simp[results,Tryz.results156,go_sem,ai,aj,ak,al,am,z,D,K,L]) rfl ⟨_,rfl,?_,eA⟩;rw[<-zcQ];exact x.keep kA
theorem zka(w:J)(y z:I)(p q:Rat)(ha:IsR w y p)(hb:IsR w z q)(d:∀(W:J)(y z:I)(p q:Rat),IsR W y p->IsR W z q->Rb limR p->Rb limR q->Calls Tryz.prog 117 #[y,z] W (RetR W (p+q)))(l:Rb limR p)(r:Rb limR q) :
  Calls Tryz.prog 115 #[y,z] w (RetR w (p-q)):=by
 obtain⟨a,m,c,s,a2,m2,c2,rfl⟩:=ha.form;obtain⟨a',m',c',s',i,x,j,rfl⟩:=hb.form;have K:=hd9 l;have L:=hd9 r.neg;have f:=hd9 d;clear l r d;rw[Rat.sub_eq_add_neg];go_enter Tryz.func115,Tryz.ntmps115;go_wp2
 go_region_held3 (fun W=>W.cell? ⟨w.heap.size,0,X⟩=Y (O a m c)/\W.cell? ⟨w.heap.size,1,X⟩=Y (Z s)/\W.cell? ⟨w.heap.size,2,X⟩=Y (O a2 m2 c2)/\W.cell? ⟨w.heap.size+1,0,X⟩=Y (O a' m' c')/\W.cell? ⟨w.heap.size+1,1,X⟩=Y (Z s')/\W.cell? ⟨w.heap.size+1,2,X⟩=Y (O i x j)) ((repeat' (with_reducible refine And.intro ?_ ?_))<;>(first|(go_simp;done)|(refine hx1.cellS ?_;go_simp;done))) (first|((go_at_call 177;(with_reducible refine(zlE _ (M #[O a' m' c',Z s',O i x j]) q ?_).mono ?_);(refine hb.ext ?_;exact eA);rintro e w1 ⟨r1,rfl,t,hx1⟩;obtain⟨b1,n1,k1,t1,b2,n2,k2,rfl⟩:=t.form;obtain⟨⟨Q,ag⟩,ab,ac,D⟩:=cK3 w hx1))|((go_at_call 117;(with_reducible refine(f.out _ (M #[O a m c,Z s,O a2 m2 c2]) (M #[O b1 n1 k1,Z t1,O b2 n2 k2]) p (-q) ?_ ?_ K.out L.out).mono ?_);(refine ha.ext ?_;exact eA);(refine t.ext ?_;exact eA);rintro e w5 ⟨r5,rfl,u,aa⟩;obtain⟨b5,n5,k5,t5,b6,n6,k6,rfl⟩:=u.form;obtain⟨⟨R,ah⟩,ad,ae,af⟩:=cK3 w aa)))
 all_goals go_wp2
 exact bR (v:=M #[O b5 n5 k5,Z t5,O b6 n6 k6]) (by simp[results,Tryz.results115,go_sem,Q,R,D]) rfl ⟨_,rfl,u.keep kA,eA⟩
theorem zlC(w:J)(va vb:I)(p q:Rat)(ha:IsR w va p)(hb:IsR w vb q)(d:Rb limR p)(f:Rb limR q) :
  Calls Tryz.prog 201 #[va,vb] w fun e w'=>∃r,e = .returned (.tuple #[r,F C (if (p.den:Int)*q.num=0 then 9 else 0)])/\IsR w' r (p / q)/\Ext w w':=by
 obtain⟨a,m,c,s,a2,m2,c2,rfl⟩:=ha.form;obtain⟨a',m',c',s',l,K,t,rfl⟩:=hb.form;have ab:=hd9 d;have ac:=hd9 f;have ap:=ha.top;have aq:=hb.top;have ad:Hid (Lm lim p.num):=hd9 (d.1.mono dM);have ae:Hid (Lm lim q.num):=hd9 (f.1.mono dM);have af:Hid (Lm lim (p.den:Int)):=hd9 (d.2.mono dM);have ag:Hid (Lm lim (q.den:Int)):=hd9 (f.2.mono dM);have j:Hid (Lm limA (p.num*q.den)):=hd9 ((d.1.mul f.2).mono dM);have ah:Hid (Lm limA (q.num*p.den)):=hd9 ((f.1.mul d.2).mono dM);have aK:Hid (Lm limA (p.num*q.num)):=hd9 ((d.1.mul f.1).mono dM);have aL:Hid (Lm limA ((p.den:Int)*q.den)):=hd9 ((d.2.mul f.2).mono dM);have ai:Hid (Lm limA ((p.den:Int)*q.num)):=hd9 ((d.2.mul f.1).mono dM);have ax:Hid (Lm lim (p.num*q.den)):=hd9 (j.out.mono dM);have ay:Hid (Lm lim (q.num*p.den)):=hd9 (ah.out.mono dM);clear d f;obtain⟨er,i⟩:∃er:Int,er=if (p.den:Int)*q.num=0 then 9 else 0:=⟨_,rfl⟩
 rw[<-i];have aj:=hd9 i;clear i;go_enter Tryz.func201,Tryz.ntmps201;go_wp2
 go_region_held3 (fun W=>W.cell? ⟨w.heap.size,0,X⟩=Y (O a m c)/\W.cell? ⟨w.heap.size,1,X⟩=Y (Z s)/\W.cell? ⟨w.heap.size,2,X⟩=Y (O a2 m2 c2)/\W.cell? ⟨w.heap.size+1,0,X⟩=Y (O a' m' c')/\W.cell? ⟨w.heap.size+1,1,X⟩=Y (Z s')/\W.cell? ⟨w.heap.size+1,2,X⟩=Y (O l K t)) ((repeat' (with_reducible refine And.intro ?_ ?_))<;>(first|(go_simp;done)|(refine hx1.cellS ?_;go_simp;done))) (first|((go_at_call 135;(with_reducible refine(zaH _ (M #[O a' m' c',Z s',O l K t]) q ?_ ac.out).mono ?_);(refine hb.ext ?_;exact eA);rintro e w1 ⟨r1,rfl,u,hx1⟩;obtain⟨b1,n1,k1,t1,rfl⟩:=u.form;obtain⟨⟨ak,aM⟩,az,aA,L⟩:=cK3 w hx1))|((go_at_call 147;(with_reducible refine(zbK _ (M #[O a m c,Z s]) (M #[O b1 n1 k1,Z t1]) p.num (q.den:Int) ?_ ?_ ad.out ag.out).mono ?_);(refine ap.ext ?_;exact eA);(refine u.ext ?_;exact eA);rintro e w2 ⟨r2,rfl,x,ar⟩;obtain⟨b2,n2,k2,t2,rfl⟩:=x.form;obtain⟨⟨al,aO⟩,aB,aC,Q⟩:=cK3 w ar))|((go_at_call 135;(with_reducible refine(zaH _ (M #[O a m c,Z s,O a2 m2 c2]) p ?_ ab.out).mono ?_);(refine ha.ext ?_;exact eA);rintro e w3 ⟨r3,rfl,y,au⟩;obtain⟨b3,n3,k3,t3,rfl⟩:=y.form;obtain⟨⟨am,aP⟩,aD,aE,R⟩:=cK3 w au))|((go_at_call 147;(with_reducible refine(zbK _ (M #[O b3 n3 k3,Z t3]) (M #[O a' m' c',Z s']) (p.den:Int) q.num ?_ ?_ af.out ae.out).mono ?_);(refine y.ext ?_;exact eA);(refine aq.ext ?_;exact eA);rintro e w4 ⟨r4,rfl,z,av⟩;obtain⟨b4,n4,k4,t4,rfl⟩:=z.form;obtain⟨⟨an,aQ⟩,aF,aG,aa⟩:=cK3 w av))|((go_at_call 145;(with_reducible refine(zjK _ (M #[O b2 n2 k2,Z t2]) (M #[O b4 n4 k4,Z t4]) (p.num*q.den) ((p.den:Int)*q.num) ?_ ?_ j.out ai.out).mono ?_);(refine x.ext ?_;exact eA);(refine z.ext ?_;exact eA);rw[<-aj.out];rintro e w5 ⟨r5,rfl,D,aw⟩;obtain⟨b5,n5,k5,t5,b6,n6,k6,rfl⟩:=D.form;obtain⟨⟨ao,aR⟩,aH,aI,aJ⟩:=cK3 w aw)))
 all_goals go_wp2
 refine bR (v:=.tuple #[M #[O b5 n5 k5,Z t5,O b6 n6 k6],F C er]) (by simp[results,Tryz.results201,go_sem,ak,al,am,an,ao,L,Q,R,aa]) rfl ⟨_,rfl,?_,eA⟩;rw[<-zeC];exact D.keep kA
def AdS(w:J)(p q:Rat)(a:Option S)(m c:Nat)(s:Bool)(z:Option S)(D c':Nat)(K:Bool)(t5 L:I)(W:J):Prop:=
 ∃(d e:Nat)(x y:Option S)(l f r j:Nat)(t u:Bool),t5 = .pointer (Y ⟨d,0,X⟩)/\L = .pointer (Y ⟨e,0,X⟩)/\w.heap.size+1+1<d/\w.heap.size+1+1<e/\Ext w W/\NoT 2 W (w.heap.size+1+1) /\
 IsZ W (M #[O x l f,Z t]) (p.den:Int)/\IsZ W (M #[O y r j,Z u]) (q.den:Int) /\
 W.cell? ⟨d,0,X⟩=Y (O x l f)/\W.cell? ⟨d,1,X⟩=Y (Z t)/\W.cell? ⟨e,0,X⟩=Y (O y r j)/\W.cell? ⟨e,1,X⟩=Y (Z u) /\
 W.cell? ⟨w.heap.size,0,X⟩=Y (O a m c)/\W.cell? ⟨w.heap.size,1,X⟩=Y (Z s)/\W.cell? ⟨w.heap.size+1,0,X⟩=Y (O z D c')/\W.cell? ⟨w.heap.size+1,1,X⟩=Y (Z K) /\
 W.cell? ⟨w.heap.size+1+1,0,X⟩=Y (O X 0 0)/\W.cell? ⟨w.heap.size+1+1,1,X⟩=Y (Z false)/\W.cell? ⟨w.heap.size+1+1,2,X⟩=Y (O X 0 0) /\
 (∀i,W.frozen? ⟨w.heap.size+1+1,i,X⟩=false)
theorem zeY(w:J)(va vb:I)(p q:Rat)(ha:IsR w va p)(hb:IsR w vb q)(d:Rb limR p)(f:Rb limR q) :
  Calls Tryz.prog 117 #[va,vb] w (RetR w (p+q)):=by
 obtain⟨a,m,c,s,a2,m2,c2,rfl⟩:=ha.form;obtain⟨a',m',c',s',ai,av,aj,rfl⟩:=hb.form;have R:=hd9 d;have aa:=hd9 f;have a8:=ha.top;have a9:=hb.top;have aQ:Hid (Lm lim p.num):=hd9 (d.1.mono dM);have aR:Hid (Lm lim q.num):=hd9 (f.1.mono dM);have ae:Hid (Lm lim (p.den:Int)):=hd9 (d.2.mono dM);have af:Hid (Lm lim (q.den:Int)):=hd9 (f.2.mono dM);have aS:Hid (Lm limA (p.num*q.den)):=hd9 ((d.1.mul f.2).mono dM);have aT:Hid (Lm limA (q.num*p.den)):=hd9 ((f.1.mul d.2).mono dM);have bw:Hid (Lm limA (p.num*q.num)):=hd9 ((d.1.mul f.1).mono dM);have aU:Hid (Lm limA ((p.den:Int)*q.den)):=hd9 ((d.2.mul f.2).mono dM);have bx:Hid (Lm limA ((p.den:Int)*q.num)):=hd9 ((d.2.mul f.1).mono dM);have ag:Hid (Lm lim (p.num*q.den)):=hd9 (aS.out.mono dM);have ah:Hid (Lm lim (q.num*p.den)):=hd9 (aT.out.mono dM);clear d f;go_enter Tryz.func117,Tryz.ntmps117
 go_upto_region 1 with fail
 go_cut [5,6] (AdS w p q a m c s a' m' c' s')
 case first =>
  go_region_held3 (fun W=>W.cell? ⟨w.heap.size,0,X⟩=Y (O a m c)/\W.cell? ⟨w.heap.size,1,X⟩=Y (Z s)/\W.cell? ⟨w.heap.size,2,X⟩=Y (O a2 m2 c2)/\W.cell? ⟨w.heap.size+1,0,X⟩=Y (O a' m' c')/\W.cell? ⟨w.heap.size+1,1,X⟩=Y (Z s')/\W.cell? ⟨w.heap.size+1,2,X⟩=Y (O ai av aj)) ((repeat' (with_reducible refine And.intro ?_ ?_))<;>(first|(go_simp;done)|(refine hx1.cellS ?_;go_simp;done))) (first|((go_at_call 135;(with_reducible refine(zaH _ (M #[O a m c,Z s,O a2 m2 c2]) p ?_ R.out).mono ?_);(refine ha.ext ?_;exact eA);rintro e l ⟨r1,rfl,r,hx1⟩;obtain⟨b1,n1,k1,t1,rfl⟩:=r.form;obtain⟨⟨al,a6⟩,aw,ax,L⟩:=cK3 w hx1;have aD:w.heap.size<l.heap.size+1:=oM;have aE:w.heap.size<l.heap.size+1+1:=oM;have aF:w.heap.size+1<l.heap.size+1:=oM;have aG:w.heap.size+1<l.heap.size+1+1:=oM;have aH:w.heap.size+1+1<l.heap.size+1:=oM;have aI:w.heap.size+1+1<l.heap.size+1+1:=oM;(try(refine Ext.useLt hx1 (n:=w.heap.size+1+1+1) ?_ (fun _=>?_);focus(go_simp;done)));(try(refine Ext.useLt hx1 (n:=w.heap.size+1+1+1+1) ?_ (fun _=>?_);focus(go_simp;done)));(try(refine Ext.useLt hx1 (n:=l.heap.size) ?_ (fun _=>?_);focus(go_simp;done)));(try(refine Ext.useLt hx1 (n:=l.heap.size+1) ?_ (fun _=>?_);focus(go_simp;done)))))|((go_at_call 135;(with_reducible refine(zaH _ (M #[O a' m' c',Z s',O ai av aj]) q ?_ aa.out).mono ?_);(refine hb.ext ?_;exact eA);rintro e K ⟨r2,rfl,t,j⟩;obtain⟨b2,n2,k2,t2,rfl⟩:=t.form;obtain⟨⟨D,a7⟩,ay,az,Q⟩:=cK3 w j;have aJ:w.heap.size<K.heap.size+1:=oM;have aK:w.heap.size<K.heap.size+1+1:=oM;have aL:w.heap.size+1<K.heap.size+1:=oM;have aM:w.heap.size+1<K.heap.size+1+1:=oM;have aO:w.heap.size+1+1<K.heap.size+1:=oM;have aP:w.heap.size+1+1<K.heap.size+1+1:=oM;(try(refine Ext.useLt j (n:=w.heap.size+1+1+1) ?_ (fun _=>?_);focus(go_simp;done)));(try(refine Ext.useLt j (n:=w.heap.size+1+1+1+1) ?_ (fun _=>?_);focus(go_simp;done)));(try(refine Ext.useLt j (n:=l.heap.size) ?_ (fun _=>?_);focus(go_simp;done)));(try(refine Ext.useLt j (n:=l.heap.size+1) ?_ (fun _=>?_);focus(go_simp;done))))))
  all_goals go_wp2
  all_goals go_meet
  all_goals refine⟨_,_,b1,b2,n1,k1,n2,k2,t1,t2,rfl,rfl,by omega,by omega,eA,nA,r.keep kA,t.keep kA,?_,?_,?_,?_,?_,?_,?_,?_,?_,?_,?_,fun i=>?_⟩
  all_goals first|(go_simp;done)|(have u1:l.heap.size<l.heap.size+1+1:=oM;have u2:K.cell? ⟨l.heap.size,0,X⟩=Y (O X 0 0):=((D _ _ (by first|exact u1|(simp only[wZ,qdZ];exact u1))).trans (by go_simp));have u3:K.cell? ⟨l.heap.size,1,X⟩=Y (Z false):=((D _ _ (by first|exact u1|(simp only[wZ,qdZ];exact u1))).trans (by go_simp));go_simp)
 case rest =>
  obtain⟨u,z,x,y,mx,cx,my,cy,sx,sy,rfl,rfl,bD,bE,hx,hN,ar,au,aW,bz,aX,bA,aY,bB,aZ,bC,ak,a0,a1,bI⟩:=hcut;have bK:¬u=w.heap.size+1+1:=oM
  have ba:¬w.heap.size+1+1=u:=oM
  have bL:¬z=w.heap.size+1+1:=oM
  have bb:¬w.heap.size+1+1=z:=oM
  have bM:u<wc.heap.size:=World.block_lt_of_cell? wc _ aW;have bN:z<wc.heap.size:=World.block_lt_of_cell? wc _ aX;have bu:w.heap.size<wc.heap.size:=World.block_lt_of_cell? wc _ aY;have bv:w.heap.size+1<wc.heap.size:=World.block_lt_of_cell? wc _ aZ;have aC:w.heap.size+1+1<wc.heap.size:=World.block_lt_of_cell? wc _ ak
  have aV:Hid (Lm limA (p.num*q.den+q.num*p.den)):=by
   have h1:=((R.out.1.mul aa.out.2).add (aa.out.1.mul R.out.2)).mono (show limR+limR+1<=limA by decide);exact hd9 h1
  have ap:=a8.ext hx;have aq:=a9.ext hx;go_wp2
  go_region_held3 (fun W=>W.cell? ⟨w.heap.size,0,X⟩=Y (O a m c)/\W.cell? ⟨w.heap.size,1,X⟩=Y (Z s)/\W.cell? ⟨w.heap.size+1,0,X⟩=Y (O a' m' c')/\W.cell? ⟨w.heap.size+1,1,X⟩=Y (Z s')/\W.cell? ⟨u,0,X⟩=Y (O x mx cx)/\W.cell? ⟨u,1,X⟩=Y (Z sx)/\W.cell? ⟨z,0,X⟩=Y (O y my cy)/\W.cell? ⟨z,1,X⟩=Y (Z sy)) ((repeat' (with_reducible refine And.intro ?_ ?_))<;>(first|(go_simp;done)|(refine hx1.cellS ?_;go_simp;done))) (first|((go_at_call 147;(with_reducible refine(zbK _ (M #[O a m c,Z s]) (M #[O y my cy,Z sy]) p.num (q.den:Int) ?_ ?_ aQ.out af.out).mono ?_);(refine ap.ext ?_;exact eA);(refine au.ext ?_;exact eA);rintro e l ⟨r1,rfl,r,hx1⟩;obtain⟨b1,n1,k1,t1,rfl⟩:=r.form;obtain⟨⟨al,a6⟩,aw,ax,L⟩:=cK3 w hx1;(have bc:=hx1.lt (n:=u) (by go_simp));(have bi:=hx1.lt (n:=z) (by go_simp))))|((go_at_call 147;(with_reducible refine(zbK _ (M #[O a' m' c',Z s']) (M #[O x mx cx,Z sx]) q.num (p.den:Int) ?_ ?_ aR.out ae.out).mono ?_);(refine aq.ext ?_;exact eA);(refine ar.ext ?_;exact eA);rintro e K ⟨r2,rfl,t,j⟩;obtain⟨b2,n2,k2,t2,rfl⟩:=t.form;obtain⟨⟨D,a7⟩,ay,az,Q⟩:=cK3 w j;(have be:=j.lt (n:=u) (by go_simp));(have bj:=j.lt (n:=z) (by go_simp))))|((go_at_call 179;(with_reducible refine(zlZ _ (M #[O b1 n1 k1,Z t1]) (M #[O b2 n2 k2,Z t2]) (p.num*q.den) (q.num*p.den) ?_ ?_ ag.out ah.out).mono ?_);(refine r.ext ?_;exact eA);(refine t.ext ?_;exact eA);rintro e w3 ⟨r3,rfl,am,ab⟩;obtain⟨b3,n3,k3,t3,rfl⟩:=am.form;obtain⟨⟨a3,bF⟩,bn,bo,aA⟩:=cK3 w ab;(have bf:=ab.lt (n:=u) (by go_simp));(have bk:=ab.lt (n:=z) (by go_simp))))|((go_at_call 147;(with_reducible refine(zbK _ (M #[O x mx cx,Z sx]) (M #[O y my cy,Z sy]) (p.den:Int) (q.den:Int) ?_ ?_ ae.out af.out).mono ?_);(refine ar.ext ?_;exact eA);(refine au.ext ?_;exact eA);rintro e w4 ⟨r4,rfl,an,ac⟩;obtain⟨b4,n4,k4,t4,rfl⟩:=an.form;obtain⟨⟨a4,bG⟩,bp,bq,aB⟩:=cK3 w ac;(have bg:=ac.lt (n:=u) (by go_simp));(have bl:=ac.lt (n:=z) (by go_simp))))|((go_at_call 178;(with_reducible refine(zdW _ (M #[O b3 n3 k3,Z t3]) (M #[O b4 n4 k4,Z t4]) (p.num*q.den+q.num*p.den) ((p.den:Int)*q.den) ?_ ?_ aV.out aU.out (zfg p q)).mono ?_);(refine am.ext ?_;exact eA);(refine an.ext ?_;exact eA);rintro e w5 ⟨r5,rfl,ao,ad⟩;obtain⟨b7,n5,k5,t5,b8,n6,k6,rfl⟩:=ao.form;obtain⟨⟨a5,bH⟩,br,bs,bt⟩:=cK3 w ad;(have bh:=ad.lt (n:=u) (by go_simp));(have bm:=ad.lt (n:=z) (by go_simp)))))
  all_goals go_wp2
  refine bR (v:=M #[O b7 n5 k5,Z t5,O b8 n6 k6]) (by simp[results,Tryz.results117,go_sem,al,D,a3,a4,a5,aC,L,Q,aA,aB,ak,a0,a1]) rfl ⟨_,rfl,?_,?_⟩
  ·rw[<-zcP]
   exact ao.keep kA
  ·have bJ:Ext w l:=hx.trans ((eR wc).drew.trans hx1)
   exact eA
theorem zb9(w:J)(f i:I)(p q:Rat)(j:IsR w f p)(l:IsR w i q)(d:Rb limR p)(e:Rb limR q) :
  Calls Tryz.prog 115 #[f,i] w (RetR w (p-q)):=zka w f i p q j l zeY d e
def RB(W:J)(b:Nat)(q:Rat):Prop:=∃a m c s a2 m2 c2,W.heap[b]?=Y (H #[O a m c,Z s,O a2 m2 c2] 63 (0,0))/\IsR W (M #[O a m c,Z s,O a2 m2 c2]) q
theorem ze7{W:J}{g:Nat}{x y z:I}{T:TypeId}{d:Nat×Nat}(h:W.heap[g]?=Y (H #[x,y,z] T d))(u v t:I) :
  (((W.setCell ⟨g,0,X⟩ u).setCell ⟨g,1,X⟩ v).setCell ⟨g,2,X⟩ t).heap[g]?=Y (H #[u,v,t] T d):=by
 simp[World.setCell,Array.getElem?_modify,h]
section
variable {W W':J} {b b':Nat} {n n':Rat}
theorem RB.ext(h:RB W b n)(k:Ext W W'):RB W' b n:=by
 obtain⟨a,m,c,s,d,j,e,f,i⟩:=h;exact⟨a,m,c,s,d,j,e,k.heapS f,i.ext k⟩
theorem RB.not(h:RB W b n):NoT 2 W b:=by
 obtain⟨a,m,c,s,f,p,i,d,l⟩:=h;intro cs j e;rw[d]at e;cases e
theorem RB.rd(h:RB W b n):∃a m c s a2 m2 c2,W.cell? ⟨b,0,X⟩=Y (O a m c)/\W.cell? ⟨b,1,X⟩=Y (Z s)/\W.cell? ⟨b,2,X⟩=Y (O a2 m2 c2)/\W.frozen? ⟨b,0,X⟩=false/\W.frozen? ⟨b,1,X⟩=false/\W.frozen? ⟨b,2,X⟩=false/\b<W.heap.size/\IsR W (M #[O a m c,Z s,O a2 m2 c2]) n:=by
 obtain⟨a,m,c,s,a2,m2,c2,d,e⟩:=h;exact⟨a,m,c,s,a2,m2,c2,qcB d (i:=0) rfl,qcB d (i:=1) rfl,qcB d (i:=2) rfl,qfB d 0,qfB d 1,qfB d 2,zaa d,e⟩
theorem RB.put{a d:Option S}{m c f c2:Nat}{s:Bool}(h:RB W b n)(j:IsR W (M #[O a m c,Z s,O d f c2]) n'):RB (((W.setCell ⟨b,0,X⟩ (O a m c)).setCell ⟨b,1,X⟩ (Z s)).setCell ⟨b,2,X⟩ (O d f c2)) b n':=by
 have e:=h.not;obtain⟨l,u,q,y,p,x,r,i,t⟩:=h;exact⟨a,m,c,s,d,f,c2,ze7 i _ _ _,j.keep ((((KeepT.refl _ W).setN e _).setN (e.set _ _) _).setN ((e.set _ _).set _ _) _)⟩
theorem RB.other{p:S}(h:RB W b n)(l:p.block≠b)(q:NoT 2 W p.block)(u:I):RB (W.setCell p u) b n:=by
 obtain⟨a,m,c,s,d,r,f,i,j⟩:=h;exact⟨a,m,c,s,d,r,f,(bS _ _ _ _ (fun e=>l e.symm)).trans i,j.keep ((KeepT.refl _ W).setN q _)⟩
theorem RB.new{W0:J}{a d:Option S}{m c e c2:Nat}{s:Bool}(i:IsR W0 (M #[O a m c,Z s,O d e c2]) n)(f:b=W0.heap.size):RB (W0.alloc (H #[O a m c,Z s,O d e c2] 63)) b n:=
 ⟨a,m,c,s,d,e,c2,qhA _ _ _ f,i.ext ((eR _).alloc _)⟩
end
theorem zaP(w:J)(n:Int)(t : -9223372036854775808<=n)(u:n<=9223372036854775807):Calls Tryz.prog 85 #[F C n] w (RetR w (n:Rat)):=by
 go_enter Tryz.func85,Tryz.ntmps85
 go_wp2_with(((go_at_call 154;(with_reducible refine(znw _ n t u).mono ?_);rintro e L ⟨K,rfl,d,i⟩;obtain⟨l,y,q,D,p,z,r,rfl⟩:=d.form;obtain⟨⟨f,x⟩,j⟩:=cK1 w i)))
 exact bR (v:=M #[O l y q,Z D,O p z r]) (by simp[results,Tryz.results85,go_sem,f]) rfl ⟨_,rfl,d.keep kA,eA⟩
theorem zfH(w:J)(va vb:I)(p q:Rat)(ha:IsR w va p)(hb:IsR w vb q)(d:Rb limR p)(f:Rb limR q) :
  Calls Tryz.prog 155 #[va,vb] w (RetR w (p / q)):=by
 obtain⟨a,m,c,s,a2,m2,c2,rfl⟩:=ha.form;obtain⟨a',m',c',s',D,R,K,rfl⟩:=hb.form;have x:=hd9 d;have y:=hd9 f;clear d f;obtain⟨er,i⟩:∃er:Int,er=if (p.den:Int)*q.num=0 then 9 else 0:=⟨_,rfl⟩
 have z:=hd9 i;clear i;go_enter Tryz.func155,Tryz.ntmps155
 go_wp2_with(((go_at_call 201;(with_reducible refine(zlC _ (M #[O a m c,Z s,O a2 m2 c2]) (M #[O a' m' c',Z s',O D R K]) p q ?_ ?_ x.out y.out).mono ?_);(refine ha.ext ?_;exact eA);(refine hb.ext ?_;exact eA);rw[<-z.out];rintro e w1 ⟨r1,rfl,j,Q⟩;obtain⟨b1,n1,k1,t1,b2,n2,k2,rfl⟩:=j.form;obtain⟨⟨L,ac⟩,aa,ab,l⟩:=cK3 w Q;have r:w.heap.size<w1.heap.size+1:=oM;have t:w.heap.size+1<w1.heap.size+1:=oM;have u:w.heap.size+1+1<w1.heap.size+1:=oM)))
 exact bR (v:=M #[O b1 n1 k1,Z t1,O b2 n2 k2]) (by simp[results,Tryz.results155,go_sem,L,l]) rfl ⟨_,rfl,j.keep kA,eA⟩
theorem zbe{k:Nat}:∀{cs:List (List I)}{i j:Nat}{c:List I},(∀c∈cs,c.length=k)->cs[i]?=Y c->j<k->cs.flatten[i*k+j]?=c[j]?
 | [],i,j,c,_,h,_=>by simp at h
 | d::cs,0,j,c,hk,h,hj=>by
  simp at h;subst h;rw[List.flatten_cons,Nat.zero_mul,Nat.zero_add,List.getElem?_append_left (by rw[hk d (by simp)];exact hj)]
 | d::cs,i+1,j,c,hk,h,hj=>by
  have e:=hk d sM;rw[List.flatten_cons,List.getElem?_append_right (by rw[e,Nat.add_mul];omega),e,show (i+1)*k+j-k=i*k+j by rw[Nat.add_mul];omega];exact zbe (fun c f=>hk c (mC _ f)) (by simpa using h) hj
def Sl{α:Type}(T:TypeId)(k:Nat)(P:J->List I->α->Prop)(w:J)(v:I)(xs:List α):Prop:=
 ∃cs:List (List I),cs.length=xs.length/\(∀c∈cs,c.length=k)/\Rd w T k v xs.length cs.flatten/\∀(i:Nat) c x,cs[i]?=Y c->xs[i]?=Y x->P w c x
section
variable {α:Type} {T:TypeId} {k:Nat} {P:J->List I->α->Prop} {w w':J} {v:I} {xs:List α} {a:Option S} {n c:Nat}
theorem Sl.form(h:Sl T k P w v xs):∃a c,v=O a xs.length c:=by
 obtain⟨cs,_,_,h,_⟩:=h;exact h.form
theorem Sl.len(h:Sl T k P w (O a n c) xs):n=xs.length:=by
 obtain⟨cs,_,_,h,_⟩:=h;exact h.eqn
theorem Sl.le(h:Sl T k P w (O a n c) xs):xs.length<=c/\c<=maxLen:=by
 obtain⟨cs,_,_,h,_⟩:=h;exact h.le
theorem Sl.ext(h:Sl T k P w v xs)(l:∀c x,P w c x->P w' c x)(q:Ext w w'):Sl T k P w' v xs:=by
 obtain⟨cs,d,e,f,j⟩:=h;exact⟨cs,d,e,f.ext q,fun i c x p r=>l _ _ (j i c x p r)⟩
theorem Sl.keep(h:Sl T k P w v xs)(l:∀c x,P w c x->P w' c x)(q:KeepT T w w'):Sl T k P w' v xs:=by
 obtain⟨cs,d,e,f,j⟩:=h;exact⟨cs,d,e,f.keep q,fun i c x p r=>l _ _ (j i c x p r)⟩
theorem Sl.at(h:Sl T k P w (O a n c) xs){i:Nat}{x:α}(r:xs[i]?=Y x) :
  ∃b o d,a=Y ⟨b,o,X⟩/\b<w.heap.size/\d.length=k/\P w d x/\∀(j:Nat) u,d[j]?=Y u->w.cell? ⟨b,o+i*k+j,X⟩=Y u:=by
 obtain⟨cs,t,p,y,z⟩:=h;have L:=(lS.1 r).1;obtain⟨d,f⟩:∃d,cs[i]?=Y d:=⟨cs[i]' oM,by simp[t,L]⟩;obtain⟨b,o,rfl,D,_,K⟩:=y.open oM;have e:=p d (lM f);refine⟨b,o,d,rfl,D,e,z i d x f r,fun j u q=>?_⟩;have l:j<k:=by rw[<-e];exact(lS.1 q).1
 have:=K (i*k+j) u (by rw[zbe p f l];exact q)
 rwa [<-Nat.add_assoc]at this
end
def PR(w:J)(c:List I)(q:Rat):Prop:=IsR w (M c.toArray) q
abbrev IsRs(w:J)(v:I)(qs:List Rat):Prop:=Sl 63 3 PR w v qs
theorem IsRs.ext'{w w':J}{v:I}{d:List Rat}(h:IsRs w v d)(k:Ext w w'):IsRs w' v d:=Sl.ext h (fun _ _ h=>IsR.ext h k) k
theorem IsRs.at'{w:J}{a:Option S}{n c:Nat}{l:List Rat}(h:IsRs w (O a n c) l){i:Nat}{q:Rat}(u:l[i]?=Y q) :
  ∃b o a1 m1 c1 s1 a2 m2 c2,a=Y ⟨b,o,X⟩/\b<w.heap.size/\IsR w (M #[O a1 m1 c1,Z s1,O a2 m2 c2]) q /\
   w.cell? ⟨b,o+i*3,X⟩=Y (O a1 m1 c1)/\w.cell? ⟨b,o+i*3+1,X⟩=Y (Z s1)/\w.cell? ⟨b,o+i*3+2,X⟩=Y (O a2 m2 c2):=by
 obtain⟨b,o,d,rfl,t,x,r,j⟩:=Sl.at h u;have f:IsR w (M d.toArray) q:=r;obtain⟨a1,m1,c1,s1,a2,m2,c2,e⟩:=f.form
 have p:d=[O a1 m1 c1,Z s1,O a2 m2 c2]:=by
  have:d.toArray=#[O a1 m1 c1,Z s1,O a2 m2 c2]:=by cases e;rfl
  simpa using congrArg Array.toList this
 subst p;exact⟨b,o,a1,m1,c1,s1,a2,m2,c2,rfl,t,f,j 0 _ rfl,j 1 _ rfl,j 2 _ rfl⟩
end
section
open Go.RowKit
def C4:Int:=10000
theorem zbk:(0:Int)<C4:=dM
theorem zoo{x:Int}(h:Int.tmod x 10000<0):Int.tmod x 10000+10000=x % 10000/\Int.tdiv x 10000-1=x / 10000:=by
 by_cases d:0<=x
 ·rw[Int.tmod_eq_emod_of_nonneg d]at h;omega
 ·obtain⟨y,rfl⟩:∃y,x = -y:=⟨-x,by omega⟩
  rw[Int.neg_tmod,Int.neg_tdiv]at *;rw[Int.tmod_eq_emod_of_nonneg oM,Int.tdiv_eq_ediv_of_nonneg oM]at *;omega
theorem zop{x:Int}(h:¬Int.tmod x 10000<0):Int.tmod x 10000=x % 10000/\Int.tdiv x 10000=x / 10000:=by
 by_cases d:0<=x
 ·rw[Int.tmod_eq_emod_of_nonneg d,Int.tdiv_eq_ediv_of_nonneg d];exact⟨rfl,rfl⟩
 ·obtain⟨y,rfl⟩:∃y,x = -y:=⟨-x,by omega⟩
  rw[Int.neg_tmod,Int.neg_tdiv]at *;rw[Int.tmod_eq_emod_of_nonneg oM,Int.tdiv_eq_ediv_of_nonneg oM]at *;omega
theorem zmN(f xs:List Int)(i:Nat)(x d:Int)(j:f.length=i)(l:xs[i]?=Y x)(h:dv C4 (xs.take i)=dv C4 f+C4 ^ i*d) :
  dv C4 (xs.take (i+1))=dv C4 (f++[(d+x) % 10000])+C4 ^ (i+1)*((d+x) / 10000):=by
 rw[zan C4 xs i x l,zbu,h,j,Int.pow_succ];have e:d+x=(d+x) % 10000+C4*((d+x) / 10000):=by unfold C4;omega
 generalize (d+x) % 10000=r at *
 generalize (d+x) / 10000=q at *
 have:C4 ^ i*(d+x)=C4 ^ i*(r+C4*q):=by rw[e]
 grind
theorem ziE(xs f:List Int)(i:Nat)(d:Int)(j:f.length=i)(h:dv C4 xs=dv C4 f+C4 ^ i*d) :
  dv C4 xs=dv C4 (f++[d % 10000])+C4 ^ (i+1)*(d / 10000):=by
 rw[zbu,h,j,Int.pow_succ];have e:d=d % 10000+C4*(d / 10000):=by unfold C4;omega
 generalize d % 10000=r at *
 generalize d / 10000=q at *
 subst e
 grind
theorem zmJ(k:Nat):B ^ k<=C4 ^ (2*k):=by
 induction k with
 | zero=>simp
 | succ k f =>
  have e:C4 ^ (2*(k+1))=C4 ^ (2*k)*100000000:=by rw[show 2*(k+1)=2*k+2 by omega,Int.pow_add];rfl
  have d:B ^ (k+1)=B ^ k*16777216:=by rw[Int.pow_succ];rfl
  have p:=zap zbt k;rw[e,d];omega
theorem zbg{k:Nat}{n:Int}{ds:List Int}(h:Lm k n)(f:Can C4 ds)(hv:dv C4 ds=(n.natAbs:Int)):ds.length<=2*k:=by
 by_cases d:ds=[]
 ·subst d;simp
 ·have i:=zeI zbk f d
  have j:=zmJ k
  by_cases e:ds.length<=2*k
  ·exact e
  ·have:=zaD (b:=C4) dM (show 2*k<=ds.length-1 by omega)
   unfold Lm at h;omega
theorem zhq{a b:Int}(h:a<b):(a-b).sign = -1:=Int.sign_eq_neg_one_of_neg oM
theorem zhp{a b:Int}(h:b<a):(a-b).sign=1:=Int.sign_eq_one_of_pos oM
theorem zob{xs d:List Int}(e:Can C4 xs)(f:Can C4 d)(h:xs.length≠d.length):((xs.length:Int)-(d.length:Int)).sign=(dv C4 xs-dv C4 d).sign:=by
 rcases Nat.lt_or_gt_of_ne h with h|h
 ·rw[zhq oM,zhq (zbx dM e.1 f h)]
 ·rw[zhp oM,zhp (zbx dM f.1 e h)]
theorem zhs{l:List Int}{i:Nat}{x:Int}(h:l[i]?=Y x):l=l.take i++x::l.drop (i+1):=by
 have d:=(lS.1 h).1
 have e:l.drop i=x::l.drop (i+1):=by
  rw[List.drop_eq_getElem_cons d];rw[(lS.1 h).2]
 rw[<-e,List.take_append_drop]
theorem zoa{xs e:List Int}(K:Can C4 xs)(L:Can C4 e)(D:xs.length=e.length){i:Nat}{x y:Int}(u:xs[i]?=Y x)(z:e[i]?=Y y)
  (f:xs.drop (i+1)=e.drop (i+1))(j:x≠y):(x-y).sign=(dv C4 xs-dv C4 e).sign:=by
 have r:=zhs u;have t:=zhs z;have l:Dig C4 (xs.take i):=fun d f=>K.1 d (List.mem_of_mem_take f)
 have p:Dig C4 (e.take i):=fun d f=>L.1 d (List.mem_of_mem_take f)
 have q:(xs.take i).length=(e.take i).length:=by simp[D]
 rcases Int.lt_or_gt_of_ne j with h|h
 ·rw[zhq h,zhq]
  rw[r,t,f];exact zbC dM l q p h
 ·rw[zhp h,zhp]
  rw[r,t,f];exact zbC dM p q.symm l h
theorem zna{xs d:List Int}{i:Nat}{x:Int}(e:xs[i]?=Y x)(f:d[i]?=Y x)(j:xs.drop (i+1)=d.drop (i+1)):xs.drop i=d.drop i:=by
 have a:=(lS.1 e).1;have b:=(lS.1 f).1;rw[List.drop_eq_getElem_cons a,List.drop_eq_getElem_cons b,j,(lS.1 e).2,(lS.1 f).2]
theorem zai(n:Int):(n.sign = -1/\n<0)\/(n.sign=0/\n=0)\/(n.sign=1/\0<n):=by
 rcases Int.lt_trichotomy n 0 with h|h|h
 ·exact .inl ⟨Int.sign_eq_neg_one_of_neg h,h⟩
 ·exact .inr (.inl ⟨by rw[h];rfl,h⟩)
 ·exact .inr (.inr ⟨Int.sign_eq_one_of_pos h,h⟩)
theorem ziT{b:Int}{os:List Int}{p:Nat}{z:Int}(y:Int)(h:os[p]?=Y z):dv b (os.set p (z+y))=dv b os+b ^ p*y:=by
 rw[zcY _ h];congr 2;omega
theorem zi0{os d V:List Int}{j:Nat}{s x y:Int}(e:os[j]?=Y x)(f:d[j]?=Y y)(h:dv C4 os=dv C4 V+s*dv C4 (d.take j)) :
  dv C4 (os.set j (x+s*y))=dv C4 V+s*dv C4 (d.take (j+1)):=by
 rw[ziT _ e,zan C4 d j y f,h];grind
def AddB(os:List Int)(j:Nat):Prop:=∀p z,os[p]?=Y z -> -10000<=z/\z<=20000/\(j<=p->0<=z/\z<10000)
theorem AddB.start{os:List Int}(h:Dig C4 os):AddB os 0:=fun p z d=>by have:=h z (lM d);unfold C4 at this;omega
theorem AddB.step{os:List Int}{j:Nat}{x u:Int}(h:AddB os j)(l:os[j]?=Y x)(f : -10000<=u)(i:u<=20000):AddB (os.set j u) (j+1):=by
 intro p z d
 by_cases e:j=p
 ·subst e
  rw[List.getElem?_set_self (lS.1 l).1]at d
  cases d
  exact⟨f,i,fun h=>by omega⟩
 ·rw[List.getElem?_set_ne e]at d
  have:=h p z d;exact⟨this.1,this.2.1,fun q=>this.2.2 oM⟩
theorem AddB.big{os:List Int}{j:Nat}(h:AddB os j):∀x∈os,-100000000000000<=x/\x<=100000000000000:=by
 intro x e;obtain⟨p,d,rfl⟩:=List.getElem_of_mem e;have:=h p _ (gE d);omega
theorem zi9{os d:List Int}{i k:Nat}{x y z V:Int}(f:os[i+k]?=Y z)(e:d[k]?=Y y)(h:dv C4 os=V+C4 ^ i*(x*dv C4 (d.take k))) :
  dv C4 (os.set (i+k) (z+x*y))=V+C4 ^ i*(x*dv C4 (d.take (k+1))):=by
 rw[ziT _ f,zan C4 d k y e,h,Int.pow_add];grind
theorem zlf{xs d:List Int}{i k:Nat}{x V D:Int}(j:d.length=k)(f:xs[i]?=Y x)(h:D=V+C4 ^ i*(x*dv C4 (d.take k)))(e:V=dv C4 (xs.take i)*dv C4 d) :
  D=dv C4 (xs.take (i+1))*dv C4 d:=by
 rw[h,e,lT (l:=d) oM,zan C4 xs i x f,Int.add_mul,Int.mul_assoc]
def MulB(os:List Int)(i k:Nat):Prop:=∀p z,os[p]?=Y z->0<=z/\z<=((i:Int)+1)*100000000/\(i+k<=p->z<=(i:Int)*100000000)
theorem MulB.start(n:Nat):MulB (List.replicate n 0) 0 0:=fun p z d=>by
 have:=(List.mem_replicate.1 (lM d)).2;omega
theorem MulB.step{os:List Int}{i k:Nat}{z y:Int}(h:MulB os i k)(f:os[i+k]?=Y z)(j:0<=y)(l:y<=100000000):MulB (os.set (i+k) (z+y)) i (k+1):=by
 intro p u d
 by_cases e:i+k=p
 ·subst e
  rw[List.getElem?_set_self (lS.1 f).1]at d
  cases d
  have:=h _ _ f;exact⟨by omega,by omega,fun h=>by omega⟩
 ·rw[List.getElem?_set_ne e]at d
  have:=h p u d;exact⟨this.1,this.2.1,fun q=>this.2.2 oM⟩
theorem MulB.next{os:List Int}{i k:Nat}(h:MulB os i k):MulB os (i+1) 0:=by
 intro p u d;have:=h p u d;omega
theorem MulB.big{os:List Int}{i k:Nat}(h:MulB os i k)(f:i<=900000):∀x∈os,-100000000000000<=x/\x<=100000000000000:=by
 intro x e;obtain⟨p,d,rfl⟩:=List.getElem_of_mem e;have:=h p _ (gE d);omega
theorem mul4{x y:Int}(e:0<=x/\x<C4)(d:0<=y/\y<C4):0<=x*y/\x*y<=100000000:=by
 unfold C4 at *;have f:=Int.mul_nonneg e.1 d.1;have i:x*y<=9999*9999:=Int.mul_le_mul oM oM d.1 oM;omega
theorem zlG(n m:Int):n.sign*m.sign=(n*m).sign:=by rw[Int.sign_mul]
theorem zhr(n:Int):n.sign*(n.natAbs:Int)=n:=Int.sign_mul_natAbs n
theorem zmE(n m:Int)(h:(m.natAbs:Int)<=n.natAbs):0<=(n.natAbs:Int)+n.sign*m.sign*(m.natAbs:Int)/\n.sign*((n.natAbs:Int)+n.sign*m.sign*(m.natAbs:Int))=n+m:=by
 rcases zai n with ⟨e,f⟩|⟨e,f⟩|⟨e,f⟩<;>rcases zai m with ⟨d,i⟩|⟨d,i⟩|⟨d,i⟩<;>rw[e,d]<;>omega
theorem zlA{xs d:List Int}{i:Nat}{a q D R:Int}(e:xs[i]?=Y a)(f:d[i]?=Y q)(h:dv C4 (xs.drop (i+1))=dv C4 (d.drop (i+1))*D+R) :
  dv C4 (xs.drop i)=dv C4 (d.drop i)*D+(a+C4*R-q*D):=by
 have j:=(lS.1 e).1;have b':=(lS.1 f).1;rw[List.drop_eq_getElem_cons j,List.drop_eq_getElem_cons b',(lS.1 e).2,(lS.1 f).2,zbd,zbd,h]
 grind
theorem zj5{n d Q R N:Int}(K:d≠0)(h:(n.natAbs:Int)=Q*(d.natAbs:Int)+R)(u:0<=R)(x:R<(d.natAbs:Int)) :
  (¬(n<0/\R≠0)->N=n.sign*Q->(if d<0 then -N else N)=n / d/\R=n % d)/\((n<0/\R≠0)->N=n.sign*Q-1->(if d<0 then -N else N)=n / d/\(d.natAbs:Int)-R=n % d):=by
 have key:∀A r:Int,n=A*d+r->0<=r->r<(d.natAbs:Int)->A=n / d/\r=n % d:=by
  intro A r e z r1
  rcases Int.lt_or_gt_of_ne K with l | l
  ·have:=Int.ediv_emod_unique (a:=n) (b:=-d) (r:=r) (q:=-A) oM
   have f:=this.2 ⟨by rw[e];grind,z,by omega⟩;rw[Int.ediv_neg,Int.emod_neg]at f;exact⟨by omega,f.2.symm⟩
  ·have:=Int.ediv_emod_unique (a:=n) (b:=d) (r:=r) (q:=A) l
   have f:=this.2 ⟨by rw[e];grind,z,by omega⟩;exact⟨f.1.symm,f.2.symm⟩
 have j:(d.natAbs:Int)=if d<0 then -d else d:=by split<;>omega
 refine⟨fun t p=>key _ _ ?_ u x,fun t p=>key _ _ ?_ oM oM⟩
 ·subst p
  rw[j]at h
  rcases zai n with ⟨e,f⟩|⟨e,f⟩|⟨e,f⟩
  ·have i:R=0:=by
    by_cases i:R=0
    ·exact i
    ·exact absurd ⟨f,i⟩ t
   subst i;rw[e]
   split at h<;>rename_i hd9<;>simp only[hd9,if_true,if_false]<;>grind
  ·subst f
   have i:R=0:=by
    have hp:(0:Int)<if d<0 then -d else d:=by split<;>omega
    have hq:Q*(if d<0 then -d else d) = -R:=oM
    have L:(-R) % (if d<0 then -d else d)=0:=by rw[<-hq];exact Int.mul_emod_left ..
    have y:R % (if d<0 then -d else d)=0:=by
     have:=Int.emod_eq_zero_of_dvd ((Int.dvd_neg).1 (Int.dvd_of_emod_eq_zero L));exact this
    rw[Int.emod_eq_of_lt u (by rw[<-j];exact x)]at y;exact y
   have D:Q=0:=by
    subst i;have:Q*(if d<0 then -d else d)=0:=oM
    rcases Int.mul_eq_zero.1 this with h|h
    ·exact h
    ·split at h<;>omega
   subst i D;simp
  ·rw[e]
   split at h<;>rename_i hd9<;>simp only[hd9,if_true,if_false]<;>grind
 ·subst p
  obtain⟨f,h3⟩:=t;rw[Int.sign_eq_neg_one_of_neg f];rw[j]at h ⊢
  split at h<;>rename_i hd9<;>simp only[hd9,if_true,if_false]<;>grind
end
section
open Go.RowKit Go.Shelf
def IsN(w:J)(v:I)(n:Int):Prop:=∃sl ds,v=M #[F C n.sign,sl]/\Ints 3 w sl ds/\Can C4 ds/\dv C4 ds=(n.natAbs:Int)
section
variable {w w':J} {v:I} {n:Int} {s:Int} {a:Option S} {m c:Nat}
theorem IsN.ext(h:IsN w v n)(k:Ext w w'):IsN w' v n:=by
 obtain⟨sl,ds,d,e,f,i⟩:=h;exact⟨sl,ds,d,e.ext k,f,i⟩
theorem IsN.keep(h:IsN w v n)(k:KeepT 3 w w'):IsN w' v n:=by
 obtain⟨sl,ds,d,e,f,i⟩:=h;exact⟨sl,ds,d,e.keep k,f,i⟩
theorem IsN.form(h:IsN w v n):∃a m c,v=M #[F C n.sign,O a m c]:=by
 obtain⟨sl,ds,rfl,d,e,f⟩:=h;obtain⟨a,c,rfl⟩:=d.form;exact⟨_,_,_,rfl⟩
theorem IsN.form2(h:IsN w v n):∃s a m c,v=M #[F C s,O a m c]/\s=n.sign:=by
 obtain⟨a,m,c,rfl⟩:=h.form;exact⟨_,_,_,_,rfl,rfl⟩
theorem IsN.sgn(h:IsN w (M #[F C s,O a m c]) n):s=n.sign:=by
 obtain⟨sl,ds,d,e,f,i⟩:=h;cases d;rfl
theorem IsN.open(h:IsN w (M #[F C s,O a m c]) n):∃ds,ds.length=m/\Ints 3 w (O a m c) ds/\Can C4 ds/\dv C4 ds=(n.natAbs:Int):=by
 obtain⟨sl,ds,e,d,f,i⟩:=h
 cases e
 exact⟨ds,d.len.symm,d,f,i⟩
theorem IsN.nil(w:J):IsN w (M #[F C 0,O X 0 0]) 0:=⟨_,[],rfl,Ints.nil _ _,Can.nil _,rfl⟩
end
def RetN(w:J)(n:Int)(e:Ending)(w':J):Prop:=∃r,e = .returned r/\IsN w' r n/\Ext w w'
def OwnN(w:J)(base:Nat)(v:I)(n:Int):Prop:=∃sl ds,v=M #[F C n.sign,sl]/\Own 3 w base sl ds/\Can C4 ds/\dv C4 ds=(n.natAbs:Int)
section
variable {w w':J} {v:I} {n:Int} {base:Nat}
theorem OwnN.isN(h:OwnN w base v n):IsN w v n:=by obtain⟨sl,ds,d,e,f,i⟩:=h;exact⟨sl,ds,d,e.ints,f,i⟩
theorem OwnN.keep(h:OwnN w base v n)(k:KeepT 3 w w'):OwnN w' base v n:=by obtain⟨sl,ds,d,e,f,i⟩:=h;exact⟨sl,ds,d,e.keep k,f,i⟩
theorem OwnN.ext(h:OwnN w base v n)(k:Ext w w'):OwnN w' base v n:=h.keep k.keep
theorem OwnN.mono{b':Nat}(h:OwnN w base v n)(j:b'<=base):OwnN w b' v n:=by obtain⟨sl,ds,d,e,f,i⟩:=h;exact⟨sl,ds,d,e.mono j,f,i⟩
theorem OwnN.form2(h:OwnN w base v n):∃s a m c,v=M #[F C s,O a m c]/\s=n.sign:=h.isN.form2
theorem OwnN.nil(w:J)(base:Nat):OwnN w base (M #[F C 0,O X 0 0]) 0:=⟨_,[],rfl,Own.nil _ _ _,Can.nil _,rfl⟩
end
def RetNo(w:J)(n:Int)(e:Ending)(w':J):Prop:=∃r,e = .returned r/\OwnN w' w.heap.size r n/\Ext w w'
theorem znu{f:FuncId}{args:Array I}{w:J}{n:Int}(h:Calls Tryz.prog f args w (RetNo w n)):Calls Tryz.prog f args w (RetN w n):=
 h.mono fun _ _ ⟨r,d,e,i⟩=>⟨r,d,e.isN,i⟩
theorem za0:(Tryz.prog.info? 3).map (fun i=>(i.zero,i.size,i.bytes))=Y (Y (F C 0),1,8):=kM
theorem zoN{s D N:Int}(f:s=1\/s = -1)(d:0<D)(e:N=s*D):N.sign=s/\(N.natAbs:Int)=D:=by
 subst e
 rcases f with rfl|rfl
 ·rw[Int.one_mul,Int.sign_eq_one_of_pos d];omega
 ·rw[Int.neg_one_mul,Int.sign_eq_neg_one_of_neg oM];omega
def MdA(xs:List Int)(n:Nat)(w:J)(t5 f j:I)(wr:J):Prop:=
 ∃(i:Nat)(e:List Int)(d:Int),j=F C i/\f=F C d/\e.length=i/\Dig C4 e/\dv C4 (xs.take i)=dv C4 e+C4 ^ i*d /\ -100000000000<=d/\d+((i-n:Nat):Int)<=100000000000 /\
  Own 3 wr (w.heap.size+1) t5 e/\Ext w wr/\w.heap.size<wr.heap.size/\wr.heap[w.heap.size]?=Y (H #[F C 0,O X 0 0] 66 (0,0))
def MdC(D:Int)(w:J)(t5:I)(wr:J):Prop:=
 ∃(d:List Int),dv C4 d=D/\Dig C4 d/\d.length<=1000000000000/\Own 3 wr (w.heap.size+1) t5 d/\Ext w wr/\w.heap.size<wr.heap.size/\wr.heap[w.heap.size]?=Y (H #[F C 0,O X 0 0] 66 (0,0))
theorem zjE{xs e:List Int}{i:Nat}{x d r q:Int}(f:e.length=i)(p:xs[i]?=Y x)(h:dv C4 (xs.take i)=dv C4 e+C4 ^ i*d)(l:r=(d+x) % 10000)(j:q=(d+x) / 10000) :
  dv C4 (xs.take (i+1))=dv C4 (e++[r])+C4 ^ (i+1)*q:=by subst l j;exact zmN e xs i x d f p h
theorem zne{xs e:List Int}{i:Nat}{d r q:Int}(f:e.length=i)(p:xs.length<=i)(h:dv C4 (xs.take i)=dv C4 e+C4 ^ i*d)(l:r=d % 10000)(j:q=d / 10000) :
  dv C4 (xs.take (i+1))=dv C4 (e++[r])+C4 ^ (i+1)*q:=by
 subst l j;rw[lT oM]at h ⊢;exact ziE xs e i d f h
theorem zog{xs e:List Int}{i:Nat}{d:Int}(p:e.length=i)(q:xs.length<=i)(l:Dig C4 e)(h:dv C4 (xs.take i)=dv C4 e+C4 ^ i*d)(t:0<=dv C4 xs):0<=d:=by
 rw[lT q]at h;have f:=(zak zbk l).2;rw[p]at f;have r:=zap zbk i
 by_cases j:0<=d
 ·exact j
 ·have:C4 ^ i*d<=C4 ^ i*(-1):=Int.mul_le_mul_of_nonneg_left oM oM
  omega
theorem zgf(w:J)(s:Int)(v:I)(xs:List Int)(N:Int)(hI:Ints 3 w v xs)(ar:xs.length<=2000000)(hx:∀x∈xs,-100000000000000<=x/\x<=100000000000000)
  (ag:0<=dv C4 xs)(hN:N=s*dv C4 xs)(hs:dv C4 xs≠0->s=1\/s = -1) :
  Calls Tryz.prog 152 #[F C s,v] w (RetNo w N):=by
 obtain⟨a,c,rfl⟩:=hI.form;obtain⟨n,hn⟩:=gX xs.length;rw[hn]at ar ⊢;have Hn:=hd9 hn;have HI:=hd9 hI;have HN:=hd9 hN;have Hs:=hd9 hs;have am:=hd9 ag;clear hn hI hN hs ag;go_enter Tryz.func152,Tryz.ntmps152;go_wp2
 go_loopw [5,6,7] (MdA xs n w) (fun _ t6 t7 _=>(n-(intOf t7).toNat)*1000000000000+(intOf t6+100000000000).toNat)
 case atStart=>exact⟨0,[],0,rfl,rfl,rfl,Dig.nil _,by simp,by omega,by omega,Own.nil _ _ _,(eR w).alloc _,by simp,aN w _⟩
 case round =>
  obtain⟨i,ys,R,rfl,rfl,ay,Q,hv,aD,aE,y,L,au,ah⟩:=hrel;have l:=hd9 ay;have Hv:=hd9 hv;have z:=hd9 ah;clear ay hv ah;obtain⟨oa,oc,rfl⟩:=y.form;rw[l.out]at y ⊢
  by_cases ak:i<n
  ·have az:ys.length<=1000000000000:=by rw[l.out];omega
   obtain⟨b,o,rfl,aK,ap⟩:=(HI.out.ext L).open (by rw[Hn.out];omega);obtain⟨x,ae⟩:∃x,xs[i]?=Y x:=⟨xs[i]'(by rw[Hn.out];exact ak),by simp[Hn.out,ak]⟩;have aj:=ap i x ae;have aO:=hx x (lM ae);have ao:=hd9 ae;have Hx:=hd9 hx;clear ae ap hx;have g1:(i:Int)<(n:Int):=oM
   have g2:(0:Int)<=(i:Int):=oM
   obtain⟨r,hr⟩:=gX (Int.tmod (R+x) 10000);obtain⟨q,hq⟩:=gX (Int.tdiv (R+x) 10000)
   by_cases ab:r<0
   ·obtain⟨e1,e2⟩:=zoo (x:=R+x) (by rw[hr];exact ab)
    rw[hr]at e1;rw[hq]at e2;have E1:=hd9 e1;have E2:=hd9 e2;have r1 : -10000<=r:=oM
    have q1 : -100000000000<=q-1:=oM
    have q2:q-1<=99999999999:=oM
    clear e1 e2
    go_wp2_with(at_builtin;refine app1 za0 Tryz.underlying64 rfl _ _ rfl rfl y rfl oM oM ?_;intro v' w1 d f t)
    go_roundw
    case rel =>
     refine⟨i+1,_,_,by go_num,rfl,by simp[l.out],Q.snoc oM (by unfold C4;omega),zjE l.out ao.out Hv.out E1.out E2.out,by omega,by omega,d,L.thenB f oM,?_,?_⟩
     ·have:=f.size;omega
     ·exact t.get z.out dM
    case measure=>simp[intOf];omega
   ·obtain⟨e1,e2⟩:=zop (x:=R+x) (by rw[hr];exact ab)
    rw[hr]at e1;rw[hq]at e2;have E1:=hd9 e1;have E2:=hd9 e2;have r1:0<=r:=oM
    have r2:r<10000:=oM
    have q1 : -100000000000<=q:=oM
    have q2:q<=99999999999:=oM
    clear e1 e2
    go_wp2_with(at_builtin;refine app1 za0 Tryz.underlying64 rfl _ _ rfl rfl y rfl oM oM ?_;intro v' w1 d f t)
    go_roundw
    case rel =>
     refine⟨i+1,_,_,by go_num,rfl,by simp[l.out],Q.snoc oM (by unfold C4;omega),zjE l.out ao.out Hv.out E1.out E2.out,by omega,by omega,d,L.thenB f oM,?_,?_⟩
     ·have:=f.size;omega
     ·exact t.get z.out dM
    case measure=>simp[intOf];omega
  ·have aF:=zog l.out (by rw[Hn.out];omega) Q Hv.out am.out
   by_cases ac:R=0
   ·have aw:dv C4 ys=dv C4 xs:=by
     have:=Hv.out;rw[ac,lT (by rw[Hn.out];omega)]at this;rw[this];simp
    have an:=hd9 aw;subst ac;clear aw aF aD Hv;have ai:i<=1000000000000:=oM
    have g1:¬(i:Int)<(n:Int):=oM
    go_wp2
    go_loopw [5] (MdC (dv C4 xs) w) (fun t5 _=>match t5 with | O _ n _=>n|_=>0)
    case atStart=>exact⟨ys,an.out,Q,by rw[l.out];exact ai,y,L,au,z.out⟩
    case round =>
     clear y L au z an l ai aE Q g1 ak;obtain⟨us,ax,al,aH,d,aI,av,j⟩:=hrel;obtain⟨a3,c3,rfl⟩:=d.form;have aA:=qcB j (i:=0) (u:=F C 0) rfl;have aB:=qcB j (i:=1) (u:=O X 0 0) rfl;have aQ:=qfB j 0;have aR:=qfB j 1;have D:=hd9 j;have aa:=hd9 ax;clear j ax
     rcases zeE us with rfl|⟨K,x,rfl⟩
     ·have hd:decide ((0:Int)<(([]:List Int).length:Int))=false:=sM
      go_wp2;refine bR (v:=M #[F C 0,O X 0 0]) (by simp[results,Tryz.results152,go_sem,aA,aB]) rfl ⟨_,rfl,?_,eA⟩;have e:N=0:=by rw[HN.out,<-aa.out];simp
      rw[e];exact OwnN.nil _ _
     ·obtain⟨g,rfl,hg,aL⟩:=d.blk sM
      have aj:wr.cell? ⟨g,K.length,X⟩=Y (F C x):=d.cell sM;have aq:=d.ints.le;simp only[lA,List.length_singleton]at d aq aH ⊢;unfold maxLen at aq
      by_cases ad:x=0
      ·subst ad
       go_wp2
       go_roundw
       case rel =>
        refine⟨K,?_,(Dig.of_append al).1,by omega,d.pop,aI,av,D.out⟩;have:=aa.out;rw[zbu]at this;omega
       case measure=>simp
      ·have aM:(x==0)=false:=by simpa using ad
       have aC:=hd9 ad;clear ad;have af:Can C4 (K++[x]):=⟨al,by simpa using aC.out⟩
       have hD:0<dv C4 (K++[x]):=by
        have h1:=(zak zbk al).1;have h2:dv C4 (K++[x])≠0:=fun e=>by have:=(zgK zbk af).1 e;simp at this
        omega
       obtain⟨n1,n2⟩:=zoN (Hs.out (by rw[<-aa.out];omega)) (by rw[<-aa.out];exact hD) HN.out;have N1:=hd9 n1;have N2:=hd9 n2;clear n1 n2 hD;go_wp2;refine bR (v:=M #[F C s,O (Y ⟨g,0,X⟩) (K.length+1) c3]) (by simp[results,Tryz.results152,go_sem,aA,aB]) rfl ⟨_,rfl,⟨_,K++[x],(by rw[N1.out]),?_,af,aa.out.trans N2.out.symm⟩,eA⟩;refine((d.setOther (p:=⟨w.heap.size,0,X⟩) (d.ne_block D.out dM) _).setOther (p:=⟨w.heap.size,1,X⟩) (d.ne_block D.out dM) _).mono (Nat.le_succ _)
   ·have aP:0<R:=oM
    have aG:xs.length<=i:=by rw[Hn.out];omega
    have az:ys.length<=1000000000000:=by rw[l.out];omega
    have aJ:(R != 0)=true:=by simpa using ac
    have g1:¬(i:Int)<(n:Int):=oM
    obtain⟨r,hr⟩:=gX (Int.tmod R 10000);obtain⟨q,hq⟩:=gX (Int.tdiv R 10000);have e1:r=R % 10000:=by rw[<-hr,Int.tmod_eq_emod_of_nonneg oM]
    have e2:q=R / 10000:=by rw[<-hq,Int.tdiv_eq_ediv_of_nonneg oM]
    have r1:0<=r:=oM
    have r2:r<10000:=oM
    have q1:0<=q:=oM
    have q2:q<R:=oM
    have ab:¬r<0:=oM
    have E1:=hd9 e1;have E2:=hd9 e2;clear e1 e2 ac
    go_wp2_with(at_builtin;refine app1 za0 Tryz.underlying64 rfl _ _ rfl rfl y rfl oM oM ?_;intro v' w1 d f t)
    go_roundw
    case rel =>
     refine⟨i+1,_,_,by go_num,rfl,by simp[l.out],Q.snoc oM (by unfold C4;omega),zne l.out aG Hv.out E1.out E2.out,by omega,by omega,d,L.thenB f oM,?_,?_⟩
     ·have:=f.size;omega
     ·exact t.get z.out dM
    case measure=>simp[intOf];omega
theorem zbO(w:J)(s:Int)(v:I)(xs:List Int)(N:Int)(f:Ints 3 w v xs)(d:xs.length<=2000000)(l:∀x∈xs,-100000000000000<=x/\x<=100000000000000)
  (e:0<=dv C4 xs)(i:N=s*dv C4 xs)(j:dv C4 xs≠0->s=1\/s = -1) :
  Calls Tryz.prog 152 #[F C s,v] w (RetN w N):=znu (zgf w s v xs N f d l e i j)
end
section
open Go.RowKit Go.Shelf
def OwnC(T:TypeId)(k:Nat)(w:J)(base:Nat)(v:I)(cs:List (List I)):Prop:=(∀c∈cs,c.length=k)/\w.ownsRow base T k v cs.length cs.flatten
theorem zar{k:Nat}:∀{cs:List (List I)},(∀c∈cs,c.length=k)->cs.flatten.length=cs.length*k
 | [],_=>by simp
 | d::cs,h=>by
  rw[List.flatten_cons,lA,zar (fun c e=>h c (mC _ e)),h d (by simp),List.length_cons,Nat.add_mul];omega
theorem zaY{k:Nat}:∀{cs:List (List I)}(m:Nat),(∀c∈cs,c.length=k)->m<=cs.length->cs.flatten.take (m*k)=(cs.take m).flatten
 | _,0,_,_=>by simp
 | [],m+1,_,h=>by simp at h
 | d::cs,m+1,h,hm=>by
  have e:=h d sM
  rw[List.flatten_cons,List.take_append,e,lT (by rw[e,Nat.add_mul];omega),show (m+1)*k-k=m*k by rw[Nat.add_mul];omega,
   zaY m (fun c f=>h c (mC _ f)) (by simpa using hm),List.take_succ_cons,List.flatten_cons]
section
variable {T:TypeId} {k:Nat} {w w':J} {base:Nat} {v:I} {cs ds:List (List I)} {a:Option S} {n c g:Nat}
theorem OwnC.rd(h:OwnC T k w base v cs):Rd w T k v cs.length cs.flatten:=Rd.of_own h.2
theorem OwnC.sl{α:Type}{P:J->List I->α->Prop}{xs:List α}(h:OwnC T k w base v cs)(d:cs.length=xs.length)(e:∀(i:Nat) c x,cs[i]?=Y c->xs[i]?=Y x->P w c x):Sl T k P w v xs:=
 ⟨cs,d,h.1,by rw[<-d];exact h.rd,e⟩
theorem OwnC.nil(T:TypeId)(k:Nat)(w:J)(base:Nat):OwnC T k w base (O X 0 0) []:=⟨by simp,World.ownsRow_nil w base T k⟩
theorem OwnC.form(h:OwnC T k w base v cs):∃a c,v=O a cs.length c:=zcC h.2
theorem OwnC.form3(h:OwnC T k w base v cs):∃a n c,v=O a n c:=by obtain⟨a,c,h⟩:=zcC h.2;exact⟨a,_,c,h⟩
theorem OwnC.len(h:OwnC T k w base (O a n c) cs):n=cs.length:=by obtain⟨a,e,d⟩:=zcC h.2;cases d;rfl
theorem OwnC.keep(h:OwnC T k w base v cs)(j:KeepT T w w'):OwnC T k w' base v cs:=by
 obtain⟨e,l,d⟩:=h;refine⟨e,l,?_⟩
 rcases d with d|⟨g,cap,cur,hv,f,i,r⟩
 ·exact .inl d
 ·exact .inr ⟨g,cap,cur,hv,f,j _ _ _ i,r⟩
theorem OwnC.ext(h:OwnC T k w base v cs)(d:Ext w w'):OwnC T k w' base v cs:=h.keep d.keep
theorem OwnC.grown(h:OwnC T k w base v cs){row:Option Nat}(e:w.grownBy w' row)(d:v.ownBlock=X\/v.ownBlock≠row):OwnC T k w' base v cs:=⟨h.1,World.ownsRow.kept h.2 e d⟩
theorem OwnC.setOther(h:OwnC T k w base v cs){p:S}(f:v.ownBlock≠Y p.block)(u:I):OwnC T k (w.setCell p u) base v cs:=
 h.grown (row:=Y p.block) ⟨rfl,rfl,rfl,by simp[World.setCell],fun k _ d=>bS _ _ _ _ (by intro e;exact d (by rw[e]))⟩ (.inr f)
theorem OwnC.mono{b':Nat}(h:OwnC T k w base v cs)(i:b'<=base):OwnC T k w b' v cs:=by
 obtain⟨e,f,d⟩:=h;refine⟨e,f,?_⟩
 rcases d with d|⟨g,cap,cur,hv,j,r⟩
 ·exact .inl d
 ·exact .inr ⟨g,cap,cur,hv,by omega,r⟩
theorem OwnC.blk(h:OwnC T k w base (O a n c) cs)(f:0<cs.length):∃g,a=Y ⟨g,0,X⟩/\base<=g/\g<w.heap.size:=by
 have d:=h.len;subst d;obtain⟨g,rfl,e⟩:=zhc h.2 f;exact⟨g,rfl,e,(World.ownsRow.lt h.2 g rfl).2⟩
theorem OwnC.cell(h:OwnC T k w base (O (Y ⟨g,0,X⟩) n c) cs){i j:Nat}{d:List I}{u:I}(e:cs[i]?=Y d)(l:d[j]?=Y u):w.cell? ⟨g,i*k+j,X⟩=Y u:=by
 have r:=h.len;subst r;have p:=(lS.1 e).1;have f:=h.1 d (lM e);have q:j<k:=by rw[<-f];exact(lS.1 l).1
 rw[World.ownsRow.cellAt h.2 _ (by
  calc i*k+j<i*k+k:=oM
   _=(i+1)*k:=by rw[Nat.add_mul];omega
   _<=cs.length*k:=Nat.mul_le_mul_right _ p),zbe h.1 e q]
 exact l
theorem OwnC.frozen(h:OwnC T k w base (O (Y ⟨g,0,X⟩) n c) cs)(i:Nat):w.frozen? ⟨g,i,X⟩=false:=by
 have d:=h.len;subst d;exact World.ownsRow.frozenAt h.2 i
theorem zdz{k:Nat}:∀{cs:List (List I)}{i j:Nat}{d:List I},(∀c∈cs,c.length=k)->cs[i]?=Y d->j<k->∀u,cs.flatten.set (i*k+j) u=(cs.set i (d.set j u)).flatten
 | [],i,j,d,_,h,_,_=>by simp at h
 | e::cs,0,j,d,hk,h,hj,u=>by
  simp at h;subst h;rw[List.flatten_cons,Nat.zero_mul,Nat.zero_add,List.set_append_left _ _ (by rw[hk e (by simp)];exact hj),List.set_cons_zero,List.flatten_cons]
 | e::cs,i+1,j,d,hk,h,hj,u=>by
  have f:=hk e sM
  rw[List.flatten_cons,List.set_append_right _ _ (by rw[f,Nat.add_mul];omega),f,show (i+1)*k+j-k=i*k+j by rw[Nat.add_mul];omega,
   zdz (fun c l=>hk c (mC _ l)) (by simpa using h) hj u,List.set_cons_succ,List.flatten_cons]
theorem OwnC.stored(h:OwnC T k w base (O (Y ⟨g,0,X⟩) n c) cs){i j:Nat}{d:List I}(p:cs[i]?=Y d)(r:j<k)(u:I) :
  OwnC T k (w.setCell ⟨g,i*k+j,X⟩ u) base (O (Y ⟨g,0,X⟩) n c) (cs.set i (d.set j u)):=by
 have t:=h.len;subst t;have l:=h.1 d (lM p);refine⟨?_,?_⟩
 ·intro e q
  rcases List.mem_or_eq_of_mem_set q with f|f
  ·exact h.1 e f
  ·subst f;simpa using l
 ·have:=(World.ownsRow.stored h.2 (i*k+j) u).1
  rw[zdz h.1 p r u]at this;rw[List.length_set];exact this
theorem OwnC.cut(h:OwnC T k w base (O (Y ⟨g,0,X⟩) n c) cs){m:Nat}(f:m<=cs.length):OwnC T k w base (O (Y ⟨g,0,X⟩) m c) (cs.take m):=by
 have r:=h.len;subst r;have q:(cs.take m).length=m:=by rw[List.length_take];omega
 have d:∀c∈cs.take m,c.length=k:=fun c j=>h.1 c (List.mem_of_mem_take j)
 refine⟨d,?_,?_⟩
 ·rw[zar d]
 ·rcases h.2.2 with ⟨i,_⟩|⟨y,cap,cur,hv,l,p,t,e,u,x⟩
  ·cases i
  ·cases hv
   rw[q];refine .inr ⟨g,c,cur,rfl,l,p,by omega,e,u,?_⟩;rw[<-zaY m h.1 f,<-x,List.take_take]
   congr 1
   have:m*k<=cs.length*k:=Nat.mul_le_mul_right _ f;omega
end
theorem ze0{P:Program}{T t:TypeId}(ty:TypeId){k bytes:Nat}{z:I}{w:J}{base:Nat}{v:I}{cs ds:List (List I)}{ad:S}{m c:Nat}
  (p:(P.info? T).map (fun i=>(i.zero,i.size,i.bytes))=Y (Y z,k,bytes))(aa:z.cells.size=k)(hk:0<k)(K:bytes<=1000)(ht:P.underlying t=Y (.slice T))(d:OwnC T k w base v cs)
  (hm:ds.length=m)(hd:∀c∈ds,c.length=k)(q:∀(j:Nat) u,ds.flatten[j]?=Y u->w.cell? (ad.add j)=Y u)(h1:∀u∈ds.flatten,u.oneCell'=true)(x:cs.length+m<=100000000000)(f:base<=w.heap.size) :
  ∃v' w',(Builtin.append_ #[t,t] ty #[v,O (Y ad) m c]).run P w = .ok v' w'/\OwnC T k w' base v' (cs++ds)/\w.grownBy w' v.ownBlock/\(v'.ownBlock=v.ownBlock\/v'.ownBlock=Y w.heap.size):=by
 obtain⟨i,hi,L,Q,R⟩:=info_parts p;subst hm
 have hb:(cs.length+ds.length)*bytes<=140737488355328:=by
  calc (cs.length+ds.length)*bytes<=100000000000*1000:=Nat.mul_le_mul x K
   _<=140737488355328:=dM
 obtain⟨v',w',D,r,l,_,y⟩:=run_append_own_at (P:=P) w base t ty T i z k bytes ht hi L Q R aa hk v cs.length cs.flatten d.2 ad ds.length c ds.flatten (zar hd)
  q h1 (by unfold maxLen;omega) hb f
 refine⟨v',w',D,⟨?_,?_⟩,l,y⟩
 ·intro e he
  rcases List.mem_append.1 he with h|h
  ·exact d.1 e h
  ·exact hd e h
 ·rw[lA,List.flatten_append];exact r
theorem appC{P:Program}{T t:TypeId}{k bytes:Nat}{z:I}{w:J}{base:Nat}{v:I}{cs:List (List I)}{ops:Array Oper}{rest:List Oper}{o:Oper}{a:Act}{Q:Exit->Act->J->Prop}
  (e:(P.info? T).map (fun i=>(i.zero,i.size,i.bytes))=Y (Y z,k,bytes))(D:z.cells.size=k)(hk:0<k)(r:bytes<=1000)(ht:P.underlying t=Y (.slice T))(y:o.guard=X)(s x:Operand)
  (ho:o.op = .call { callee:=.builtin .append,args:=#[s,x],argTypes:=#[t,t] })(hs:a.eval s=v)(p:OwnC T k w base v cs){ad:S}{m c:Nat}(hx:a.eval x=O (Y ad) m c)
  (ds:List (List I))(hm:ds.length=m)(hd:∀c∈ds,c.length=k)(f:∀(j:Nat) u,ds.flatten[j]?=Y u->w.cell? (ad.add j)=Y u)(L:∀u∈ds.flatten,u.oneCell'=true)(l:cs.length+m<=100000000000)(d:base<=w.heap.size)
  (h:∀v' w',OwnC T k w' base v' (cs++ds)->w.grownBy w' v.ownBlock->(v'.ownBlock=v.ownBlock\/v'.ownBlock=Y w.heap.size)->wpList P ops Q rest (a.put o.dst v') w'):wpList P ops Q (o::rest) a w:=by
 obtain⟨v',w',q,R,h3,h4⟩:=ze0 (P:=P) o.type e D hk r ht p hm hd f L l d (c:=c);refine wpList_plain y fun K hK=>?_
 unfold Oper.wp;simp[execOp,ho,resolve,invoke,builtin,hs,hx,q,Result.andThen];exact hK _ _ (h v' w' R h3 h4)
theorem zhm{P:Program}{T t:TypeId}(ty:TypeId){k bytes:Nat}{z:I}{w:J}{base:Nat}{v sl:I}{cs ds:List (List I)}
  (f:(P.info? T).map (fun i=>(i.zero,i.size,i.bytes))=Y (Y z,k,bytes))(ab:z.cells.size=k)(hk:0<k)(K:bytes<=1000)(ht:P.underlying t=Y (.slice T))(l:OwnC T k w base v cs)
  (hd:∀c∈ds,c.length=k)(d:Rd w T k sl ds.length ds.flatten)(h1:∀u∈ds.flatten,u.oneCell'=true)(x:cs.length+ds.length<=100000000000)(p:base<=w.heap.size) :
  ∃v' w',(Builtin.append_ #[t,t] ty #[v,sl]).run P w = .ok v' w'/\OwnC T k w' base v' (cs++ds)/\w.grownBy w' v.ownBlock/\(v'.ownBlock=v.ownBlock\/v'.ownBlock=Y w.heap.size):=by
 obtain⟨y,c,rfl⟩:=d.form
 rcases y with _|y
 ·obtain⟨i,hi,ac,aa,ae⟩:=info_parts f
  have h0:ds=[]:=by
   by_cases h:0<ds.length
   ·obtain⟨b,o,e,_⟩:=d.open h;cases e
   ·exact List.eq_nil_of_length_eq_zero oM
  subst h0
  have hc:c=0:=by
   obtain⟨_,a,c,e,_,_,D⟩:=d
   cases e
   rcases D with D|⟨b,o,cs,fr,e,_⟩
   ·exact D.2 rfl
   ·cases e
  subst hc;have r:=l.2;subst aa;exact⟨v,w,run_append_owned_none (P:=P) (w:=w) base t ty T i i.size ht hi v cs.length cs.flatten r,by simpa using l,⟨rfl,rfl,rfl,nE _,fun _ _ _=>rfl⟩,.inl rfl⟩
 ·have q:∀(j:Nat) u,ds.flatten[j]?=Y u->w.cell? (y.add j)=Y u:=by
   intro j u L
   have Q:0<ds.length:=by
    by_cases h:0<ds.length
    ·exact h
    ·rw[List.eq_nil_of_length_eq_zero (show ds.length=0 by omega)]at L;simp at L
   obtain⟨b',o',e,hb,_,R⟩:=d.open Q
   cases e
   have:=R j u L;unfold Addr.add
   split
   ·subst j;simpa using this
   ·exact this
  exact ze0 ty f ab hk K ht l rfl hd q h1 x p
theorem appS{P:Program}{T t:TypeId}{k bytes:Nat}{z:I}{w:J}{base:Nat}{v sl:I}{cs:List (List I)}{ops:Array Oper}{rest:List Oper}{o:Oper}{a:Act}{Q:Exit->Act->J->Prop}
  (e:(P.info? T).map (fun i=>(i.zero,i.size,i.bytes))=Y (Y z,k,bytes))(y:z.cells.size=k)(hk:0<k)(q:bytes<=1000)(ht:P.underlying t=Y (.slice T))(r:o.guard=X)(s x:Operand)
  (ho:o.op = .call { callee:=.builtin .append,args:=#[s,x],argTypes:=#[t,t] })(hs:a.eval s=v)(j:OwnC T k w base v cs)(hx:a.eval x=sl)
  (ds:List (List I))(hd:∀c∈ds,c.length=k)(p:Rd w T k sl ds.length ds.flatten)(D:∀u∈ds.flatten,u.oneCell'=true)(f:cs.length+ds.length<=100000000000)(d:base<=w.heap.size)
  (h:∀v' w',OwnC T k w' base v' (cs++ds)->w.grownBy w' v.ownBlock->(v'.ownBlock=v.ownBlock\/v'.ownBlock=Y w.heap.size)->wpList P ops Q rest (a.put o.dst v') w'):wpList P ops Q (o::rest) a w:=by
 obtain⟨v',w',l,L,R,h4⟩:=zhm (P:=P) o.type e y hk q ht j hd p D f d;refine wpList_plain r fun K hK=>?_
 unfold Oper.wp;simp[execOp,ho,resolve,invoke,builtin,hs,hx,l,Result.andThen];exact hK _ _ (h v' w' L R h4)
theorem zdx{k:Nat}:∀{cs:List (List I)}(m:Nat),(∀c∈cs,c.length=k)->m<=cs.length->cs.flatten.drop (m*k)=(cs.drop m).flatten
 | _,0,_,_=>by simp
 | [],m+1,_,h=>by simp at h
 | d::cs,m+1,h,hm=>by
  have e:=h d sM
  rw[List.flatten_cons,List.drop_append,e,List.drop_of_length_le (by rw[e,Nat.add_mul];omega),show (m+1)*k-k=m*k by rw[Nat.add_mul];omega,
   zdx m (fun c f=>h c (mC _ f)) (by simpa using hm),List.drop_succ_cons,List.nil_append]
section
variable {α:Type} {T:TypeId} {k:Nat} {P:J->List I->α->Prop} {w w':J} {v:I} {xs:List α} {b o n c:Nat}
theorem Sl.drop(h:Sl T k P w (O (Y ⟨b,o,X⟩) n c) xs)(hn:0<xs.length){m:Nat}(hm:m<=xs.length):Sl T k P w (O (Y ⟨b,o+m*k,X⟩) (n-m) (c-m)) (xs.drop m):=by
 have L:=h.len;obtain⟨cs,y,j,⟨z,a,Q,e,R,h6,p⟩,D⟩:=h
 cases e
 refine⟨cs.drop m,by rw[List.length_drop,List.length_drop,y],fun c l=>j c (List.mem_of_mem_drop l),⟨?_,Y ⟨b,o+m*k,X⟩,c-m,?_,?_,?_,?_⟩,?_⟩
 ·rw[<-zdx m j oM,List.length_drop,z,List.length_drop,Nat.sub_mul]
 ·rw[List.length_drop]
 ·rw[List.length_drop];omega
 ·omega
 ·rcases p with p|⟨b',o',f,u,e,K,l⟩
  ·omega
  ·cases e
   refine .inr ⟨_,_,f,u,rfl,K,fun i x r=>?_⟩;rw[<-zdx m j oM,List.getElem?_drop]at r;have:=l _ _ r
   rwa [<-Nat.add_assoc]at this
 ·intro i d x q t
  rw[List.getElem?_drop]at q t;exact D _ _ _ q t
theorem Sl.take(h:Sl T k P w (O (Y ⟨b,o,X⟩) n c) xs)(hn:0<xs.length){m c':Nat}(hm:m<=xs.length)(L:m<=c')(Q:c'<=c):Sl T k P w (O (Y ⟨b,o,X⟩) m c') (xs.take m):=by
 have aa:=h.len;obtain⟨cs,z,q,⟨D,a,c9,e,h5,h6,u⟩,K⟩:=h
 cases e
 have f:(xs.take m).length=m:=by rw[List.length_take];omega
 refine⟨cs.take m,by rw[List.length_take,List.length_take,z],fun c r=>q c (List.mem_of_mem_take r),⟨?_,Y ⟨b,o,X⟩,c',?_,?_,?_,?_⟩,?_⟩
 ·rw[<-zaY m q oM,List.length_take,D,f]
  have:m*k<=xs.length*k:=Nat.mul_le_mul_right _ hm;omega
 ·rw[f]
 ·rw[f];omega
 ·omega
 ·rcases u with u|⟨b',o',p,y,e,R,r⟩
  ·omega
  ·cases e
   refine .inr ⟨_,_,p,y,rfl,R,fun i x l=>?_⟩;rw[<-zaY m q oM,List.getElem?_take]at l
   split at l
   ·exact r _ _ l
   ·cases l
 ·intro i d x j t
  rw[List.getElem?_take]at j t
  split at j
  ·rename_i hlt2
   rw[if_pos hlt2]at t;exact K _ _ _ j t
  ·cases j
end
theorem zad{w w':J}{base:Nat}{row:Option Nat}(e:w.grownBy w' row)(d:base<=w.heap.size)(f:∀k,row=Y k->base<=k):Below base w w':=(Below.refl _ w).grown e d f
theorem OwnC.lt{T:TypeId}{k:Nat}{w:J}{base:Nat}{v:I}{cs:List (List I)}(h:OwnC T k w base v cs):∀j,v.ownBlock=Y j->base<=j/\j<w.heap.size:=World.ownsRow.lt h.2
theorem zcZ{a b:J}{g:Nat}(h:a.grownBy b (Y g))(i:Nat)(u:I):a.grownBy (b.setCell ⟨g,i,X⟩ u) (Y g):=
 h.trans ⟨rfl,rfl,rfl,by simp[World.setCell],fun k _ d=>bS _ _ _ _ (by intro e;exact d (by rw[e]))⟩
theorem zbV{a b:J}{row:Option Nat}(h:a.grownBy b row)(n:Nat):a.grownBy (b.drewN n) row:=⟨h.os,h.tape,h.output,h.size,h.block⟩
theorem zm1{a b:J}{row:Option Nat}(h:a.grownBy b row):a.grownBy b.drew row:=⟨h.os,h.tape,h.output,h.size,h.block⟩
theorem zah{a b:J}{row:Option Nat}{k:Nat}{o:Obj}(e:a.grownBy b row)(h:a.heap[k]?=Y o)(d:Y k≠row):b.heap[k]?=Y o:=(e.block k (zaa h) d).trans h
theorem zkb{P:Program}{T t:TypeId}(ty:TypeId){k:Nat}{w:J}{base g n cap:Nat}{sl:I}{os ds:List (List I)}
  (D:(P.info? T).map (·.size)=Y k)(ht:P.underlying t=Y (.slice T))(l:OwnC T k w base (O (Y ⟨g,0,X⟩) n cap) os)(hd:∀c∈ds,c.length=k)(p:Rd w T k sl ds.length ds.flatten)
  (f:ds.length=os.length)(h0:0<ds.length)(h1:∀u∈ds.flatten,u.oneCell'=true) :
  ∃w',(Builtin.copy_ #[t,t] ty #[O (Y ⟨g,0,X⟩) n cap,sl]).run P w = .ok (goInt n) w'/\OwnC T k w' base (O (Y ⟨g,0,X⟩) n cap) ds/\w.grownBy w' (Y g):=by
 have hn:=l.len;obtain⟨ad,c,rfl⟩:=p.form;obtain⟨b',o',rfl,hb,_,aa⟩:=p.open h0
 have q:∀(j:Nat) u,ds.flatten[j]?=Y u->w.cell? ((⟨b',o',X⟩:S).add j)=Y u:=by
  intro j u Q;have:=aa j u Q;unfold Addr.add
  split
  ·subst j;simpa using this
  ·exact this
 subst hn
 rcases l.2.2 with ⟨h2,_⟩|⟨g',ab,cur,hv,hg,hh,y,K,L,ae⟩
 ·cases h2
 ·cases hv
  have d:ds.flatten.length=ds.length*k:=zar hd;have R:os.length*k<=cur.size:=by rw[L];exact Nat.mul_le_mul_right _ y
  have r:=run_loadCells_list (P:=P) w ⟨b',o',X⟩ ds.flatten q;have z:=run_storeCells_at P g 0 T ds.flatten 0 cur w hh (by rw[d,f];simpa using R) h1;refine⟨w.setRow g (cur.toList.take 0++ds.flatten++cur.toList.drop (0+ds.flatten.length)).toArray,?_,⟨hd,?_,?_⟩,⟨rfl,rfl,rfl,by simp,fun j _ Q=>setRow_other w g j _ (fun e=>Q (by simp[e]))⟩⟩
  ·cases hq:P.info? T with
   | none=>simp[hq]at D
   | some i =>
    have hi:i.size=k:=by simpa[hq] using D
    have x:Nat.min ds.length os.length=ds.length:=by rw[f];exact Nat.min_self _
    rw[d,f]at r;simp only[List.length_flatten]at z;have ac:((os.length:Nat):Int)=(ds.length:Int):=by rw[f]
    simp[Builtin.copy_,run_underlying ht,Builtin.lenOf,Builtin.firstCells,sizeOf,typeInfo,hq,hi,x,r,z,goInt,f]
  ·exact d
  ·rw[f]
   refine .inr ⟨g,cap,_,rfl,hg,setRow_heap w g cur _ T _ hh,y,K,?_,?_⟩
   ·simp only[List.size_toArray,lA,List.length_take,List.length_drop,Array.length_toList,d,f]
    omega
   ·simp only[List.take_zero,List.nil_append]
    rw[<-f,<-d,List.take_append,lT (nE _),Nat.sub_self,List.take_zero,List.append_nil]
theorem cpC{P:Program}{T t:TypeId}{k:Nat}{w:J}{base g n cap:Nat}{sl:I}{os:List (List I)}{ops:Array Oper}{rest:List Oper}{o:Oper}{a:Act}{Q:Exit->Act->J->Prop}
  (p:(P.info? T).map (·.size)=Y k)(ht:P.underlying t=Y (.slice T))(l:o.guard=X)(d s:Operand)
  (R:o.op = .call { callee:=.builtin .copy,args:=#[d,s],argTypes:=#[t,t] })(j:a.eval d=O (Y ⟨g,0,X⟩) n cap)(hs:a.eval s=sl)
  (e:OwnC T k w base (O (Y ⟨g,0,X⟩) n cap) os)(ds:List (List I))(D:∀c∈ds,c.length=k)(i:Rd w T k sl ds.length ds.flatten)
  (L:ds.length=os.length)(q:0<ds.length)(r:∀u∈ds.flatten,u.oneCell'=true)
  (h:∀w',OwnC T k w' base (O (Y ⟨g,0,X⟩) n cap) ds->w.grownBy w' (Y g)->wpList P ops Q rest (a.put o.dst (goInt n)) w'):wpList P ops Q (o::rest) a w:=by
 obtain⟨w',f,x,y⟩:=zkb (P:=P) o.type p ht e D i L q r;refine wpList_plain l fun K z=>?_
 unfold Oper.wp;simp[execOp,R,resolve,invoke,builtin,j,hs,f,Result.andThen];exact z _ _ (h w' x y)
theorem mkC{P:Program}{T t:TypeId}{k bytes:Nat}{z:I}{zs:List I}{w:J}{n:Nat}{ops:Array Oper}{rest:List Oper}{o:Oper}{a:Act}{Q:Exit->Act->J->Prop}
  (p:(P.info? T).map (fun i=>(i.zero,i.size,i.bytes))=Y (Y z,k,bytes))(ah:z.cells=zs.toArray)(d:zs.length=k)(R:bytes<=1000)(ht:P.underlying t=Y (.slice T))(aa:o.guard=X)(l c:Operand)
  (ho:o.op = .makeSlice t l c)(L:Int)(ad:a.eval l=F C L)(f:a.eval c=F C L)(hL:L=(n:Int))(hn:n<=100000000000)
  (h:∀cs,OwnC T k (w.alloc (H cs T)) w.heap.size (O (Y ⟨w.heap.size,0,X⟩) n n) (List.replicate n zs)->wpList P ops Q rest (a.put o.dst (O (Y ⟨w.heap.size,0,X⟩) n n)) (w.alloc (H cs T))):wpList P ops Q (o::rest) a w:=by
 obtain⟨i,hi,af,y,ag⟩:=info_parts p
 have ai:bytes*n<=281474976710656:=by
  calc bytes*n<=1000*100000000000:=Nat.mul_le_mul R hn
   _<=281474976710656:=dM
 have u:=run_make (P:=P) w t T i z ht hi af C C n n oM oM (by rw[ag];omega) oM;simp only[Int.toNat_natCast]at u;refine wpList_plain aa fun K D=>?_
 unfold Oper.wp;subst hL;simp[execOp,ho,ad,f,u,Result.andThen];refine D _ _ (h _ ?_);have x:(List.replicate n zs).flatten.length=n*k:=by rw[zar (k:=k) (fun c f=>by rw[List.eq_of_mem_replicate f];exact d),List.length_replicate]
 refine⟨fun c f=>by rw[List.eq_of_mem_replicate f];exact d,by rw[x,List.length_replicate],.inr ⟨w.heap.size,n,_,by simp,nE _,aN w _,by simp,by unfold maxLen;omega,by rw[y];simp[madeCells],?_⟩⟩;rw[y,List.length_replicate,ah,lT (by rw[Array.length_toList,size_madeCells];exact nE _)]
 apply List.ext_getElem?
 intro j
 by_cases hj:j<n*k
 ·have ac:0<k:=by
   rcases Nat.eq_zero_or_pos k with e|e
   ·subst e;simp at hj
   ·exact e
  obtain⟨q,r,u,hq⟩:∃q r,r<k/\j=q*k+r:=⟨j / k,j % k,Nat.mod_lt _ ac,by rw[Nat.mul_comm];exact(Nat.div_add_mod j k).symm⟩
  have ae:q<n:=by
   rcases Nat.lt_or_ge q n with e|e
   ·exact e
   ·exfalso
    have:n*k<=q*k:=Nat.mul_le_mul_right _ e;omega
  have e2:(List.replicate n zs).flatten[q*k+r]?=zs[r]?:=zbe (k:=k) (fun c f=>by rw[List.eq_of_mem_replicate f];exact d) (by rw[List.getElem?_replicate,if_pos ae]) u;have ab:j % k=r:=by rw[hq,Nat.add_comm,Nat.add_mul_mod_self_right,Nat.mod_eq_of_lt u]
  rw[show (List.replicate n zs).flatten[j]?=zs[r]? by rw[hq];exact e2];simp only[madeCells,Array.toList_map,Array.toList_range,lP,List.getElem?_range hj,Option.map_some,List.size_toArray,d,ab];rw[gE oM];simp[d,u]
 ·rw[List.getElem?_eq_none (by rw[Array.length_toList,size_madeCells];omega),List.getElem?_eq_none (by rw[x];omega)]
theorem zed{P:Program}{T t:TypeId}{k bytes:Nat}{z:I}{w:J}{base:Nat}{v:I}{cs:List (List I)}{ops:Array Oper}{o:Oper}{a:Act}{K:Act->J->Prop}{Q:Exit->Act->J->Prop}{E:Prop}
  (e:(P.info? T).map (fun i=>(i.zero,i.size,i.bytes))=Y (Y z,k,bytes))(D:z.cells.size=k)(hk:0<k)(r:bytes<=1000)(ht:P.underlying t=Y (.slice T))(y:o.guard=X)(s x:Operand)
  (ho:o.op = .call { callee:=.builtin .append,args:=#[s,x],argTypes:=#[t,t] })(hs:a.eval s=v)(p:OwnC T k w base v cs){ad:S}{m c:Nat}(hx:a.eval x=O (Y ad) m c)
  (ds:List (List I))(hm:ds.length=m)(hd:∀c∈ds,c.length=k)(f:∀(j:Nat) u,ds.flatten[j]?=Y u->w.cell? (ad.add j)=Y u)(L:∀u∈ds.flatten,u.oneCell'=true)(l:cs.length+m<=100000000000)(d:base<=w.heap.size)
  (h:∀v' w',OwnC T k w' base v' (cs++ds)->w.grownBy w' v.ownBlock->(v'.ownBlock=v.ownBlock\/v'.ownBlock=Y w.heap.size)->K (a.put o.dst v') w') :
  if Region.wanted o (yielded ops a.tmps)=true then Oper.wp P o a w K Q else E:=by
 have hw:Region.wanted o (yielded ops a.tmps)=true:=by simp[Region.wanted,y]
 rw[if_pos hw];obtain⟨v',w',q,R,h3,h4⟩:=ze0 (P:=P) o.type e D hk r ht p hm hd f L l d (c:=c);unfold Oper.wp;simp[execOp,ho,resolve,invoke,builtin,hs,hx,q,Result.andThen];exact h v' w' R h3 h4
def pc(p:Int×Int):List I:=[F C p.1,F C p.2]
theorem zbE:(Tryz.prog.info? 43).map (fun i=>(i.zero,i.size,i.bytes))=Y (Y (M #[F C 0,F C 0]),2,16):=kM
theorem zfE{ps:LP}:∀u∈(ps.map pc).flatten,u.oneCell'=true:=by
 intro u e;obtain⟨d,f,e⟩:=List.mem_flatten.1 e;obtain⟨p,_,rfl⟩:=List.mem_map.1 f;simp[pc]at e
 rcases e with rfl|rfl<;>rfl
theorem zfD{ps:LP}:∀c∈ps.map pc,c.length=2:=by
 intro c d;obtain⟨p,_,rfl⟩:=List.mem_map.1 d;rfl
theorem zgs(W:J)(x z:Int)(T:TypeId):∀(j:Nat) u,[pc (x,z)].flatten[j]?=Y u->(W.alloc (H #[F C x,F C z] T)).cell? ((⟨W.heap.size,0,X⟩:S).add j)=Y u:=by
 intro j u d
 match j,d with
 | 0,d=>simp[pc]at d;subst d;simp[Addr.add]
 | 1,d=>simp[pc]at d;subst d;simp[Addr.add]
 | j+2,d=>simp[pc]at d
theorem zdT(x z:Int):∀u∈[pc (x,z)].flatten,u.oneCell'=true:=zfE (ps:=[(x,z)])
end
end Go.Proofs.YtjnjpagegkcgfaaGreatDoor.Cop
