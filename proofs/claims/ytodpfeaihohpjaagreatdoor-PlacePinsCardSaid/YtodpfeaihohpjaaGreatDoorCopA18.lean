/- Part 19: contracts of what the law calls. -/
import Derived.Test.YtodpfeaihohpjaaGreatDoorCopA17
set_option maxRecDepth 1000000
set_option maxHeartbeats 16000000
set_option linter.unusedSimpArgs false
set_option linter.unusedVariables false
open Go.Value renaming slice→O,bool→Z,int→X
open Option renaming none→Y,some→J
open Go.IntKind renaming i64→V
open Go.Obj renaming cells→I
namespace Go.Proofs.YtodpfeaihohpjaaGreatDoor.Cop
section
open Go.RowKit Go.Shelf
attribute [local go_sem] Oper.semAt_some
theorem zjU {f:Rat→Rat} {qs:List Rat} {o:Rat×Rat} {i:Nat} {x:Rat} (hx:qs[i]?=J x):reachN f qs o (i+1)=if i=0 then reachStep f (reachN f qs o i) x else reachCross f (reachStep f (reachN f qs o i) x) (qs.getD (i-1) 0) x:=by
 have e:qs.getD i 0=x:=by rw [gD,hx];rfl
 rw [show reachN f qs o (i+1)=if i=0 then reachStep f (reachN f qs o i) (qs.getD i 0)else reachCross f (reachStep f (reachN f qs o i) (qs.getD i 0)) (qs.getD (i-1) 0) (qs.getD i 0)from rfl,e]
theorem zh4 (w:World) (v1 v2:Value) (s:Sp) (pin:Int) (h1:IsPts w v1 s.over) (h2:IsPts w v2 s.under) (hok:SpOk s) (hp:Bd 104000 pin) (hno:reachNo s pin=false) :
  Calls Tryz.prog 108 #[spc s v1 v2,X V pin] w (RetRc w (reachP s pin)):=by
 have hq1b:Rb 1 (leastR s).1:=zak hok _ (by unfold leastR;exact(zax (gapR s) (zaD s)).1);have HT:=hd9 (fun(W:World) (hW:Ext w W)=>zf0 W v1 v2 s (h1.ext' hW) (h2.ext' hW) hok);have HG:=hd9 (fun(W:World) (hW:Ext w W) (vx:Value) (x:Rat) (hx:IsR W vx x) (hb:Rb 1 x)=>zlA W s v1 v2 vx x (h1.ext' hW) (h2.ext' hW) hok hx hb);have Hq:=hd9 (zak hok);have Hok:=hd9 hok;have HS:=hd9 (fun(W:World) (hW:Ext w W)=>zce W v1 v2 s (h1.ext' hW) (h2.ext' hW) hok);obtain⟨a1,m1,rfl⟩:=h1.form;obtain⟨a2,m2,rfl⟩:=h2.form;obtain⟨n1,f1⟩:=gX s.over.length;obtain⟨n2,f2⟩:=gX s.under.length;obtain⟨lo,elo⟩:=gX s.lo;obtain⟨hi,ehi⟩:=gX s.hi;have Hb2:=hd9 (show Rb 23 (leastR s).2 by obtain⟨j1,j2⟩:=zax (gapR s) (zaD s);unfold leastR;rw [j2];exact Rb.gap (zak hok _ j1) hok);have Hp:=hd9 hp;have hp1 : -9223372036854775808≤pin:=by unfold Bd at hp;omega
 have hp2:pin≤9223372036854775807:=by unfold Bd at hp;omega
 have HC:=hd9 (fun(W:World) (va vb:Value) (ha:IsR W va (leastR s).2) (hb:IsR W vb (pin:Rat))=>zao W va vb _ _ ha hb (zai Hb2.out (by omega)) (zai (zjM (k:=1) Hp.out (by omega)) (by omega)));have hR:reachP s pin=J (reachN (pinG s pin) (stopsR s) ((leastR s).1,(leastR s).1) (stopsR s).length):=by unfold reachP;rw [if_neg (by simp [hno])]
 rw [hR];unfold reachNo at hno;obtain⟨q1,hq1⟩:=gX ((leastR s).1);obtain⟨q2,hq2⟩:=gX ((leastR s).2);have Hq1:=hd9 hq1;unfold spc at HS HT HG ⊢;rw [hq2]at hno HC Hb2;rw [hq1,hq2]at HS;rw [hq1]at hq1b ⊢;have Hq1b:=hd9 hq1b;clear hq1b;obtain⟨qs,hqs⟩:=gX (stopsR s);rw [hqs]at HT Hq ⊢;obtain⟨R,hR⟩:=gX (RetRc w (J (reachN (pinG s pin) qs (q1,q1) qs.length)));rw [hR];have HR:=hd9 hR;simp only [f1,f2,elo,ehi]at HS HT HG ⊢;clear h1 h2 hok f1 f2 hR hq1 hq2 hp hqs;go_enter Tryz.func108,Tryz.ntmps108
 go_wp2_with(((go_at_call 54;(with_reducible refine(HS.out _ ?_).mono ?_);exact eA;rintro e w1 ⟨r1,r2,rfl,hr1,hr2,hx1⟩;obtain⟨a4,m4,c4,s4,b4,n4,k4,rfl⟩:=hr1.form;obtain⟨a5,m5,c5,s5,b5,n5,k5,rfl⟩:=hr2.form;obtain⟨⟨hc1,hf1⟩,z1_0,z1_1,z1_2⟩:=cK3 w hx1)))
 have K0:=hx1.heapS ((((eR _).alloc _).alloc _).heapS (aN w (I #[O a1 n1 m1,O a2 n2 m2,X V lo,X V hi] 120)));obtain⟨W8,hW8⟩:=gX (((w1.alloc (I #[O a4 m4 c4,Z s4,O b4 n4 k4] 65)).alloc (I #[O a5 m5 c5,Z s5,O b5 n5 k5] 65)));have hX18:Ext w1 W8:=by rw [←hW8];exact((eR _).alloc _).alloc _
 have hX8:Ext w W8:=(((((eR w).alloc _).alloc _).alloc _).trans hx1).trans hX18;have g1:RB W8 w1.heap.size q1:=by rw [←hW8];exact(RB.new hr1 rfl).ext ((eR _).alloc _)
 have g2:RB W8 (w1.heap.size+1) q2:=by rw [←hW8];exact RB.new (hr2.ext ((eR _).alloc _)) (by simp)
 have g3:RB W8 (w.heap.size+1) 0:=(((RB.new (IsR.zero _) (by simp)).ext ((eR _).alloc _)).ext hx1).ext hX18;have g4:RB W8 (w.heap.size+1+1) 0:=((RB.new (IsR.zero _) (by simp)).ext hx1).ext hX18;have zW:w1.heap.size+1<W8.heap.size:=by rw [←hW8];simp
 have g20:=qcB (show W8.heap[w1.heap.size+1]?=J (I #[O a5 m5 c5,Z s5,O b5 n5 k5] 65 (0,0)) by rw [←hW8];exact qhA _ _ _ (by simp)) (i:=0) (u:=O a5 m5 c5) rfl;have g21:=qcB (show W8.heap[w1.heap.size+1]?=J (I #[O a5 m5 c5,Z s5,O b5 n5 k5] 65 (0,0)) by rw [←hW8];exact qhA _ _ _ (by simp)) (i:=1) (u:=Z s5) rfl;have g22:=qcB (show W8.heap[w1.heap.size+1]?=J (I #[O a5 m5 c5,Z s5,O b5 n5 k5] 65 (0,0)) by rw [←hW8];exact qhA _ _ _ (by simp)) (i:=2) (u:=O b5 n5 k5) rfl;have HX:=hd9 hX18;have HX8:=hd9 hX8;rw [hW8];obtain⟨s1,hs1⟩:=gX w1.heap.size;simp only [hs1]at *;clear hW8 hc1 hf1 hx1 hX18 hX8 HS hs1;have K8:=HX.out.heapS K0;clear K0;obtain⟨k,hk⟩:=gX q2.num.sign;have HSg:=hd9 (fun(W:World) (v:Value) (h:IsR W v q2)=>hk▸zbz W v q2 h);rw [hk]at hno;clear hk;have hneg:¬k<0:=fun h=>by simp [h]at hno
 have hd:decide (k<0)=false:=by simp [hneg]
 rw [hd,Bool.false_or]at hno;obtain⟨c,hc⟩:=gX (rcmp q2 (pin:Rat));rw [hc]at hno HC;clear hc;have hc0:¬0<c:=by simpa using hno
 refine wp_region_held_drew (S:=CellL [(⟨s1+1,0,Y⟩,O a5 m5 c5),(⟨s1+1,1,Y⟩,Z s5),(⟨s1+1,2,Y⟩,O b5 n5 k5)]) (by kernel_rfl) cA (fun h9H=>?_);have E0:Ext w1 W8.drew:=HX.out.trans (eR W8).drew;refine tk1 (i:=0) ?_;refine cl1 (i:=1) fun K hK=>?_
 go_simp
 (with_reducible refine cM (HSg.out _ _ (hr2.ext E0)) ?_)
 rintro e w3 ⟨rfl,hx3⟩
 skip
 go_wp2_with fail
 refine kO hK (cE h9H hx3) (fun h9H=>?_);clear hK K;refine sN 2 ?_
 iterate 4
  refine tkn ?_
 refine oN ?_;refine cl1 (i:=6) fun K hK=>?_
 go_simp
 (with_reducible refine cM (zaI _ pin hp1 hp2) ?_)
 rintro e w4 ⟨r4,rfl,hr4,hx4⟩;obtain⟨a6,m6,c6,s6,b6,n6,k6,rfl⟩:=hr4.form
 go_wp2_with fail
 refine kO hK (cE h9H hx4) (fun h9H=>?_);clear hK K;refine cl1 (i:=7) fun K hK=>?_
 go_simp
 (with_reducible refine cM (HC.out _ _ _ (hr2.ext (E0.trans (hx3.trans hx4))) hr4) ?_)
 rintro e w5 ⟨rfl,hx5⟩
 skip
 go_wp2_with fail
 refine kO hK (cE h9H hx5) (fun h9H=>?_);clear hK K;refine sN 8 ?_
 iterate 2
  refine tkn ?_
 refine oN ?_;refine wpAnyH_done (by kernel_rfl) ?_ _;have X3:Ext W8 w5:=((eR W8).drew).trans (hx3.trans (hx4.trans hx5));have j1:=g1.ext X3;have j3:=g3.ext X3;have j4:=g4.ext X3;have K5:=X3.heapS K8;have zX:=X3.size;have X0:=HX8.out.trans X3;clear h9H K8 g1 g2 g3 g4 g20 g21 g22 hx3 hx4 hx5 hr4 E0 hd hneg hc0 hno;have HK5:=hd9 K5;have HX0:=hd9 X0;go_wp2;obtain⟨pa,pm,pc1,ps,pa2,pm2,pc2,p0,p1,p2,_,_,_,pz,hp⟩:=j1.rd;obtain⟨_,_,_,_,_,_,_,x0,x1,x2,xf0,xf1,xf2,xz,_⟩:=j3.rd;obtain⟨_,_,_,_,_,_,_,y0,y1,y2,yf0,yf1,yf2,yz,_⟩:=j4.rd;refine wp_region_held_drew (S:=CellL [(⟨s1,0,Y⟩,O pa pm pc1),(⟨s1,1,Y⟩,Z ps),(⟨s1,2,Y⟩,O pa2 pm2 pc2)]) (by kernel_rfl) cA (fun h9H=>?_);refine sN 0 ?_
 iterate 2
  refine tkn ?_
 refine oN ?_
 have hnb:∀b,b<s1→∀q∈[((⟨s1,0,Y⟩:Addr),Value.slice pa pm pc1),(⟨s1,1,Y⟩,Z ps),(⟨s1,2,Y⟩,O pa2 pm2 pc2)],b≠q.1.block:=by
  intro b hb q hq;simp at hq
  rcases hq with rfl|rfl|rfl<;>(dsimp only;omega)
 refine cl1 (i:=2) fun K hK=>?_
 go_simp;refine kO hK (CellL.set3d h9H (hnb _ (by omega)) _ _ _) (fun h9H=>?_);clear hK K;refine cl1 (i:=3) fun K hK=>?_
 go_simp;refine kO hK (CellL.set3d h9H (hnb _ (by omega)) _ _ _) (fun h9H=>?_);clear hK K;refine wpAnyH_done (by kernel_rfl) ?_ _;obtain⟨W9,hW9⟩:=gX ((((((((w5.setCell ⟨w.heap.size+1,0,Y⟩ (O pa pm pc1)).setCell ⟨w.heap.size+1,1,Y⟩ (Z ps)).setCell ⟨w.heap.size+1,2,Y⟩ (O pa2 pm2 pc2)).setCell ⟨w.heap.size+1+1,0,Y⟩ (O pa pm pc1)).setCell ⟨w.heap.size+1+1,1,Y⟩ (Z ps)).setCell ⟨w.heap.size+1+1,2,Y⟩ (O pa2 pm2 pc2))).drew)
 have hR9:Ext w W9∧w.heap.size+1+1+1≤W9.heap.size∧W9.heap[w.heap.size]?=J (I #[O a1 n1 m1,O a2 n2 m2,X V lo,X V hi] 120 (0,0))∧RB W9 (w.heap.size+1) q1∧RB W9 (w.heap.size+1+1) q1:=by
  rw [←hW9];exact zgf HX0.out (by omega) HK5.out j3 j4 hp rfl rfl
 have H9:=hd9 hR9;obtain⟨X9,z9,K9,-,-⟩:=hR9;have k90:=qcB K9 (i:=0) (u:=O a1 n1 m1) rfl;have k91:=qcB K9 (i:=1) (u:=O a2 n2 m2) rfl;have k92:=qcB K9 (i:=2) (u:=X V lo) rfl;have k93:=qcB K9 (i:=3) (u:=X V hi) rfl;rw [hW9];clear hW9 h9H hnb p0 p1 p2 x0 x1 x2 xf0 xf1 xf2 y0 y1 y2 yf0 yf1 yf2 hp j1 j3 j4 K5 zX X0 X3 HK5 K9
 go_wp2_with(((go_at_call 71;(with_reducible refine(HT.out _ X9).mono ?_);rintro e w6 ⟨vq,rfl,hq6,hx6⟩;obtain⟨a7,c7,rfl⟩:=hq6.rs.form)))
 obtain⟨n,hn⟩:=gX qs.length;have hle:=hq6.rs.le;unfold maxLen at hle;rw [hn]at hle hq6 HR ⊢;have hnm:n≤9223372036854775807:=by omega
 have Hn:=hd9 hn;clear hn
 go_loopg [38] n (RcI w s (O a1 n1 m1) (O a2 n2 m2) (O a7 n c7) pin qs (q1,q1))
 case atStart =>
  obtain⟨h1,h2,h3,h4,h5⟩:=H9.out;have hs6:=hx6.size
  exact⟨0,by omega,rfl,by rw [Hn.out];rfl,h1.trans hx6,by omega,by rw [elo,ehi];exact hx6.heapS h3,h4.ext hx6,h5.ext hx6,by
   obtain⟨cs,e1,e2,e3⟩:=hq6;exact⟨cs,e1.mono (by omega),e2,e3⟩⟩
 case round =>
  obtain⟨i,hi',rfl,rfl,hI⟩:=hrel;rw [Hn.out]at hi'
  by_cases hlt:i<n
  ·obtain⟨y1,y2,y3,y4,y5,y6⟩:=hI
   have HI:=hd9 (show RcW w s (O a1 n1 m1) (O a2 n2 m2) (O a7 n c7) qs (reachN (pinG s pin) qs (q1,q1) i) wr from⟨y1,y2,y3,y4,y5,y6⟩);obtain⟨x,hx⟩:∃x,qs[i]?=J x:=⟨qs[i]'(by rw [Hn.out];exact hlt),gE _⟩;have Hxb:=hd9 (Hq.out x (lM hx));have Hx:=hd9 hx;obtain⟨b7,o7,xa,xm,xc,xs,xa2,xm2,xc2,rfl,hb7,hxr,xx0,xx1,xx2⟩:=y6.rs.at' hx;rw [elo,ehi]at y3;have k90:=qcB y3 (i:=0) (u:=O a1 n1 m1) rfl;have k91:=qcB y3 (i:=1) (u:=O a2 n2 m2) rfl;have k92:=qcB y3 (i:=2) (u:=X V lo) rfl;have k93:=qcB y3 (i:=3) (u:=X V hi) rfl;have zz:w.heap.size<wr.heap.size:=by omega
   have Y1:=hd9 y1;have Hxr:=hd9 hxr;have HLim:=hd9 (show Rb limR (gapR s x)∧Rb limR (pin:Rat)from⟨zai (Rb.gap Hxb.out Hok.out) (by omega),zai (zjM (k:=1) Hp.out (by omega)) (by omega)⟩);have Hpg:=hd9 (show (gapR s x-(pin:Rat))=pinG s pin x from rfl);clear y1 y3 y4 y5 y6 H9 hq6 hle hx hxr;obtain⟨kg,hkg⟩:=gX ((pinG s pin x).num.sign);have HSx:=hd9 (fun(W:World) (v:Value) (h:IsR W v (pinG s pin x))=>hkg▸zbz W v _ h);have hkb:=zeL (pinG s pin x);rw [hkg]at hkb;obtain⟨oi,hoi⟩:=gX (reachN (pinG s pin) qs (q1,q1) i);have hN:=zjU (f:=pinG s pin) (o:=(q1,q1)) Hx.out;rw [hoi]at hN HI;obtain⟨o1,ho1⟩:=gX (reachStep (pinG s pin) oi x);rw [ho1]at hN;have HN:=hd9 hN;have hst:=ho1.symm;unfold reachStep at hst;rw [hkg]at hst;have Hob:=hd9 (show Rb 300 oi.1∧Rb 300 oi.2 by rw [←hoi];exact Rb.reach_n ⟨Hq1b.out.up (by decide),Hq1b.out.up (by decide)⟩ Hq.out (fun q hq=>Rb.pin_g (Hq.out q hq) Hok.out Hp.out) i (by rw [Hn.out];omega));have Hst:=hd9 hst;have Hob1:=hd9 (show Rb 300 o1.1∧Rb 300 o1.2 by rw [←ho1];unfold reachStep;split;exact Rb.wid Hob.out (Hxb.out.up (by decide));exact Hob.out);have Hkg:=hd9 hkg;clear hkg hoi hst ho1 hN;have Hl1:=hd9 (show ∀q∈[oi.1,x],Rb limR q from fun q hq=>by rcases List.mem_cons.1 hq with rfl|hq;exact zai Hob.out.1 (by omega);rw [List.mem_singleton.1 hq];exact zai Hxb.out (by omega));have Hl2:=hd9 (show ∀q∈[oi.2,x],Rb limR q from fun q hq=>by rcases List.mem_cons.1 hq with rfl|hq;exact zai Hob.out.2 (by omega);rw [List.mem_singleton.1 hq];exact zai Hxb.out (by omega))
   go_upto_if 51 with (first|(go_at_call 105;(with_reducible refine(HG.out _ ?_ (.agg #[O xa xm xc,Z xs,O xa2 xm2 xc2]) x ?_ Hxb.out).mono ?_);(refine Y1.out.trans ?_;exact eA);(refine Hxr.out.ext ?_;exact eA);rintro e w2 ⟨r2,rfl,hr2,hx2⟩;obtain⟨a2',m2',c2',s2',b2',n2',k2',rfl⟩:=hr2.form;obtain⟨⟨hc2,hf2⟩,z2_0⟩:=cK1 w hx2)|(go_at_call 59;(with_reducible refine(zaI _ pin hp1 hp2).mono ?_);rintro e w3 ⟨r3,rfl,hr3,hx3⟩;obtain⟨a3',m3',c3',s3',b3',n3',k3',rfl⟩:=hr3.form;obtain⟨⟨hc3,hf3⟩,z3_0⟩:=cK1 w hx3)|(go_at_call 20;(with_reducible refine(zaC _ _ _ (gapR s x) (pin:Rat) (hr2.ext hx3) hr3 HLim.out.1 HLim.out.2).mono ?_);rintro e w4 ⟨r4,rfl,hr4,hx4⟩;rw [Hpg.out]at hr4;obtain⟨a4',m4',c4',s4',b4',n4',k4',rfl⟩:=hr4.form;obtain⟨⟨hc4,hf4⟩,z4_0⟩:=cK1 w hx4)|(go_at_call 21;(with_reducible refine(HSx.out _ _ (hr4.ext ?_)).mono ?_);exact eA;rintro e w5 ⟨rfl,hx5⟩;obtain⟨⟨hc5,hf5⟩,z5_0⟩:=cK1 w hx5))
   have B11:RB w5 wr.heap.size x:=(((((RB.new Hxr.out rfl).ext hx2).ext hx3).ext hx4).ext ((eR _).alloc _)).ext hx5;have B12:RB w5 w4.heap.size (pinG s pin x):=(RB.new hr4 rfl).ext hx5;have X5:Ext wr w5:=(((((((eR wr).alloc _).trans hx2).trans hx3).trans hx4).alloc _).trans hx5);have G:=HI.out.ext X5;obtain⟨b12,hb12⟩:=gX w4.heap.size;obtain⟨b11,hb11⟩:=gX wr.heap.size;rw [hb12]at B12;rw [hb11]at B11
   have hzz:w.heap.size+1+1+1≤b11∧b11<b12∧b12<w5.heap.size:=by
    have q1:=hx2.size;have q2:=hx3.size;have q3:=hx4.size;have q4:=hx5.size;simp only [wZ]at q1 q4;have q5:=HI.out.2.1;omega
   obtain⟨z1,z2,z3⟩:=hzz;simp only [hb11,hb12];clear hx2 hx3 hx4 hx5 hr2 hr3 hr4 hb11 hb12 hc2 hf2 hc3 hf3 hc4 hf4 hc5 hf5 xx0 xx1 xx2 hb7 k90 k91 k92 k93 zz
   go_cut [10,11,12] (Rc1 w s (O a1 n1 m1) (O a2 n2 m2) (O (J ⟨b7,o7,Y⟩) n c7) qs o1 i x (pinG s pin x))
   case first =>
    by_cases hk:kg≤0
    ·go_wp2
     obtain⟨pa,pm,pc1,ps,pa2,pm2,pc2,p0,p1,p2,pf0,pf1,pf2,pz,hpr⟩:=(G.2.2.2.1).rd;obtain⟨ea,em,ec,es,ea2,em2,ec2,e0,e1,e2,ef0,ef1,ef2,ez,her⟩:=(G.2.2.2.2.1).rd;obtain⟨ua,um,uc,us,ua2,um2,uc2,u0,u1,u2,uf0,uf1,uf2,uz,hur⟩:=(B11).rd;have HG5:=hd9 G;have HB5:=hd9 (B11);have HB12:=hd9 B12;have Hpr:=hd9 hpr;have Her:=hd9 her;have Hur:=hd9 hur;clear G B11 B12 hpr her hur;have D0:Ext w5 w5.drew:=(eR _).drew;refine zaQ (fun i=>decide (7<i)) (CellL [(⟨w.heap.size+1,0,Y⟩,O pa pm pc1),(⟨w.heap.size+1,1,Y⟩,Z ps),(⟨w.heap.size+1,2,Y⟩,O pa2 pm2 pc2),(⟨w.heap.size+1+1,0,Y⟩,O ea em ec),(⟨w.heap.size+1+1,1,Y⟩,Z es),(⟨w.heap.size+1+1,2,Y⟩,O ea2 em2 ec2),(⟨b11,0,Y⟩,O ua um uc),(⟨b11,1,Y⟩,Z us),(⟨b11,2,Y⟩,O ua2 um2 uc2)]) (by kernel_rfl) ?_ (fun h9H=>?_)
     ·exact cA
     refine sN 0 ?_
     iterate 2
      refine tun ?_
     refine oN ?_;refine sN 4 ?_
     iterate 2
      refine tun ?_
     refine oN ?_;refine callHU2 (i:=2) (j:=6) (fun K hK=>?h1k1w1) (fun K hK=>?h2k1w1)
     case h1k1w1 =>
      go_simp;refine kO hK (fun _=>cE h9H ((eR _).alloc _)) (fun h9H=>?_);clear hK K;have h9H:=h9H rfl;refine callHU2 (i:=3) (j:=6) (fun K hK=>?h1k2w1) (fun K hK=>?h2k2w1)
      case h1k2w1 =>
       go_simp
       (with_reducible refine cM (zcc _ _ [oi.1,x] ((zbO w5 rfl Hpr.out Hur.out).ext' (eR _).drew) Hl1.out) ?_)
       rintro e w6 ⟨r6,rfl,hr6,hx6⟩;obtain⟨a6',m6',c6',s6',b6',n6',k6',rfl⟩:=hr6.form
       go_wp2_with fail
       refine kO hK (fun _=>cE h9H hx6) (fun h9H=>?_);clear hK K;have h9H:=h9H rfl;have D6:Ext w5 w6:=(((eR w5).alloc _).drew).trans hx6;refine cu1 (i:=6) fun K hK=>?_
       go_simp;refine kO hK (fun _=>cE h9H ((eR _).alloc _)) (fun h9H=>?_);clear hK K;have h9H:=h9H rfl;refine cu1 (i:=7) fun K hK=>?_
       go_simp
       (with_reducible refine cM (zcb _ _ [oi.2,x] (zbO w6 rfl (Her.out.ext D6) (Hur.out.ext D6)) Hl2.out) ?_)
       rintro e w7 ⟨r7,rfl,hr7,hx7⟩;obtain⟨a7',m7',c7',s7',b7',n7',k7',rfl⟩:=hr7.form
       go_wp2_with fail
       refine kO hK (fun _=>cE h9H hx7) (fun h9H=>?_);clear hK K;have h9H:=h9H rfl;obtain⟨_,_,_,_,_,_,_,x0,x1,x2,xf0,xf1,xf2,xz,_⟩:=((HG5.out.ext ((D6.alloc _).trans hx7)).2.2.2.1).rd;obtain⟨_,_,_,_,_,_,_,y0,y1,y2,yf0,yf1,yf2,yz,_⟩:=((HG5.out.ext ((D6.alloc _).trans hx7)).2.2.2.2.1).rd;refine cu1 (i:=8) fun K hK=>?_
       go_simp;refine kO hK (fun h=>nomatch h) (fun h9H=>?_);clear hK K;refine cu1 (i:=9) fun K hK=>?_
       go_simp;refine kO hK (fun h=>nomatch h) (fun h9H=>?_);clear hK K;refine doneHU (by kernel_rfl) ?_ _;have H9:=zfk (i:=i) (HG5.out.ext ((D6.alloc _).trans hx7)) ((hr6.ext ((eR _).alloc _)).ext hx7) hr7 z1 z2 (Nat.lt_of_lt_of_le z3 ((D6.alloc _).trans hx7).size) (HB5.out.ext ((D6.alloc _).trans hx7)) (HB12.out.ext ((D6.alloc _).trans hx7)) rfl rfl;obtain⟨W9,hW9⟩:=gX (((((((w7.setCell ⟨w.heap.size+1,0,Y⟩ (O a6' m6' c6')).setCell ⟨w.heap.size+1,1,Y⟩ (Z s6')).setCell ⟨w.heap.size+1,2,Y⟩ (O b6' n6' k6')).setCell ⟨w.heap.size+1+1,0,Y⟩ (O a7' m7' c7')).setCell ⟨w.heap.size+1+1,1,Y⟩ (Z s7')).setCell ⟨w.heap.size+1+1,2,Y⟩ (O b7' n7' k7')));rw [hW9]at H9 ⊢;have H9:=hd9 H9;clear hW9 x0 x1 x2 xf0 xf1 xf2 y0 y1 y2 yf0 yf1 yf2 h9H;go_wp2;go_meet;rw [Hst.out,if_pos hk];exact H9.out
      case h2k2w1 =>
       go_simp;refine kO hK (fun _=>cE h9H ((eR _).alloc _)) (fun h9H=>?_);clear hK K;have h9H:=h9H rfl;refine cu1 (i:=3) fun K hK=>?_
       go_simp
       (with_reducible refine cM (zcc _ _ [oi.1,x] ((zbO w5 rfl Hpr.out Hur.out).ext' ((eR _).alloc _).drew) Hl1.out) ?_)
       rintro e w6 ⟨r6,rfl,hr6,hx6⟩;obtain⟨a6',m6',c6',s6',b6',n6',k6',rfl⟩:=hr6.form
       go_wp2_with fail
       refine kO hK (fun _=>cE h9H hx6) (fun h9H=>?_);clear hK K;have h9H:=h9H rfl;have D6:Ext w5 w6:=((((eR w5).alloc _).alloc _).drew).trans hx6;have R2:=(((zbO _ (b:=w5.heap.size+1) (by simp) (Her.out.ext ((eR w5).alloc (I #[O pa pm pc1,Z ps,O pa2 pm2 pc2,O ua um uc,Z us,O ua2 um2 uc2] 65))) (Hur.out.ext ((eR w5).alloc _))).ext' (eR _).drew).ext' hx6);refine cu1 (i:=7) fun K hK=>?_
       go_simp
       (with_reducible refine cM (zcb _ _ [oi.2,x] R2 Hl2.out) ?_)
       rintro e w7 ⟨r7,rfl,hr7,hx7⟩;obtain⟨a7',m7',c7',s7',b7',n7',k7',rfl⟩:=hr7.form
       go_wp2_with fail
       refine kO hK (fun _=>cE h9H hx7) (fun h9H=>?_);clear hK K;have h9H:=h9H rfl;obtain⟨_,_,_,_,_,_,_,x0,x1,x2,xf0,xf1,xf2,xz,_⟩:=((HG5.out.ext (D6.trans hx7)).2.2.2.1).rd;obtain⟨_,_,_,_,_,_,_,y0,y1,y2,yf0,yf1,yf2,yz,_⟩:=((HG5.out.ext (D6.trans hx7)).2.2.2.2.1).rd;refine cu1 (i:=8) fun K hK=>?_
       go_simp;refine kO hK (fun h=>nomatch h) (fun h9H=>?_);clear hK K;refine cu1 (i:=9) fun K hK=>?_
       go_simp;refine kO hK (fun h=>nomatch h) (fun h9H=>?_);clear hK K;refine doneHU (by kernel_rfl) ?_ _;have H9:=zfk (i:=i) (HG5.out.ext (D6.trans hx7)) (hr6.ext hx7) hr7 z1 z2 (Nat.lt_of_lt_of_le z3 (D6.trans hx7).size) (HB5.out.ext (D6.trans hx7)) (HB12.out.ext (D6.trans hx7)) rfl rfl;obtain⟨W9,hW9⟩:=gX (((((((w7.setCell ⟨w.heap.size+1,0,Y⟩ (O a6' m6' c6')).setCell ⟨w.heap.size+1,1,Y⟩ (Z s6')).setCell ⟨w.heap.size+1,2,Y⟩ (O b6' n6' k6')).setCell ⟨w.heap.size+1+1,0,Y⟩ (O a7' m7' c7')).setCell ⟨w.heap.size+1+1,1,Y⟩ (Z s7')).setCell ⟨w.heap.size+1+1,2,Y⟩ (O b7' n7' k7')));rw [hW9]at H9 ⊢;have H9:=hd9 H9;clear hW9 x0 x1 x2 xf0 xf1 xf2 y0 y1 y2 yf0 yf1 yf2 h9H;go_wp2;go_meet;rw [Hst.out,if_pos hk];exact H9.out
     case h2k1w1 =>
      go_simp;refine kO hK (fun _=>cE h9H ((eR _).alloc _)) (fun h9H=>?_);clear hK K;have h9H:=h9H rfl;refine cu1 (i:=2) fun K hK=>?_
      go_simp;refine kO hK (fun _=>cE h9H ((eR _).alloc _)) (fun h9H=>?_);clear hK K;have h9H:=h9H rfl;have R1:=((zbO _ (b:=w5.heap.size+1) (by simp) (Hpr.out.ext ((eR w5).alloc (I #[O ea em ec,Z es,O ea2 em2 ec2,O ua um uc,Z us,O ua2 um2 uc2] 65))) (Hur.out.ext ((eR w5).alloc _))).ext' (eR _).drew);refine cu1 (i:=3) fun K hK=>?_
      go_simp
      (with_reducible refine cM (zcc _ _ [oi.1,x] R1 Hl1.out) ?_)
      rintro e w6 ⟨r6,rfl,hr6,hx6⟩;obtain⟨a6',m6',c6',s6',b6',n6',k6',rfl⟩:=hr6.form
      go_wp2_with fail
      refine kO hK (fun _=>cE h9H hx6) (fun h9H=>?_);clear hK K;have h9H:=h9H rfl;have D6:Ext w5 w6:=((((eR w5).alloc _).alloc _).drew).trans hx6;refine cu1 (i:=7) fun K hK=>?_
      go_simp
      (with_reducible refine cM (zcb _ _ [oi.2,x] (((zbO w5 rfl Her.out Hur.out).ext' ((eR _).alloc _).drew).ext' hx6) Hl2.out) ?_)
      rintro e w7 ⟨r7,rfl,hr7,hx7⟩;obtain⟨a7',m7',c7',s7',b7',n7',k7',rfl⟩:=hr7.form
      go_wp2_with fail
      refine kO hK (fun _=>cE h9H hx7) (fun h9H=>?_);clear hK K;have h9H:=h9H rfl;obtain⟨_,_,_,_,_,_,_,x0,x1,x2,xf0,xf1,xf2,xz,_⟩:=((HG5.out.ext (D6.trans hx7)).2.2.2.1).rd;obtain⟨_,_,_,_,_,_,_,y0,y1,y2,yf0,yf1,yf2,yz,_⟩:=((HG5.out.ext (D6.trans hx7)).2.2.2.2.1).rd;refine cu1 (i:=8) fun K hK=>?_
      go_simp;refine kO hK (fun h=>nomatch h) (fun h9H=>?_);clear hK K;refine cu1 (i:=9) fun K hK=>?_
      go_simp;refine kO hK (fun h=>nomatch h) (fun h9H=>?_);clear hK K;refine doneHU (by kernel_rfl) ?_ _;have H9:=zfk (i:=i) (HG5.out.ext (D6.trans hx7)) (hr6.ext hx7) hr7 z1 z2 (Nat.lt_of_lt_of_le z3 (D6.trans hx7).size) (HB5.out.ext (D6.trans hx7)) (HB12.out.ext (D6.trans hx7)) rfl rfl;obtain⟨W9,hW9⟩:=gX (((((((w7.setCell ⟨w.heap.size+1,0,Y⟩ (O a6' m6' c6')).setCell ⟨w.heap.size+1,1,Y⟩ (Z s6')).setCell ⟨w.heap.size+1,2,Y⟩ (O b6' n6' k6')).setCell ⟨w.heap.size+1+1,0,Y⟩ (O a7' m7' c7')).setCell ⟨w.heap.size+1+1,1,Y⟩ (Z s7')).setCell ⟨w.heap.size+1+1,2,Y⟩ (O b7' n7' k7')));rw [hW9]at H9 ⊢;have H9:=hd9 H9;clear hW9 x0 x1 x2 xf0 xf1 xf2 y0 y1 y2 yf0 yf1 yf2 h9H;go_wp2;go_meet;rw [Hst.out,if_pos hk];exact H9.out
    ·go_wp2
     go_meet;rw [Hst.out,if_neg (by omega)];exact⟨b11,b12,rfl,rfl,rfl,z1,z2,z3,G,B11,B12⟩
   case rest =>
    clear B11 B12 G X5 z1 z2 z3 b11 b12;obtain⟨b11,b12,rfl,rfl,rfl,z1,z2,z3,G,B11,B12⟩:=hcut
    by_cases hi0:i=0
    ·subst hi0
     go_wp2
     go_roundg (n-(0+1))
     case measure=>have:=Hn.out;omega
     case rel=>exact⟨1,by rw [Hn.out];omega,by go_num,by rw [Hn.out],by have e:reachN (pinG s pin) qs (q1,q1) 1=o1:=HN.out.trans (if_pos trivial);rw [e];exact G⟩
    ·have hib:((i:Int)==0)=false:=by simpa using hi0
     go_upto_region 13 with fail
     obtain⟨j,rfl⟩:∃j,i=j+1:=⟨i-1,by omega⟩;obtain⟨y,hy⟩:∃y,qs[j]?=J y:=⟨qs[j]'(by rw [Hn.out];omega),gE _⟩;have Hyb:=hd9 (Hq.out y (lM hy));have Hy:=hd9 hy;have HLim2:=hd9 (show Rb limR (gapR s y)from zai (Rb.gap Hyb.out Hok.out) (by omega));obtain⟨b8,o8,ya,ym,yc,ys,ya2,ym2,yc2,h8,hb8,hyr,yy0,yy1,yy2⟩:=G.2.2.2.2.2.rs.at' hy
     cases h8
     have hgK:=G.2.2.1;rw [elo,ehi]at hgK;have k90:=qcB hgK (i:=0) (u:=O a1 n1 m1) rfl;have k91:=qcB hgK (i:=1) (u:=O a2 n2 m2) rfl;have k92:=qcB hgK (i:=2) (u:=X V lo) rfl;have k93:=qcB hgK (i:=3) (u:=X V hi) rfl;have Yc:=hd9 (G.1);have Hyr:=hd9 hyr;have HG1:=hd9 G;have HB11:=hd9 B11;have HB12:=hd9 B12
     have hjw:wrap64 (((j+1:Nat):Int)-1)=(j:Int):=by
      rw [IntWalk.wrap64_in _ (by omega)];omega
     have hjk:IntKind.i64.wrap ((j:Nat):Int)=(j:Int):=iW _ ⟨by omega,by omega⟩;have zj1:(0:Int)≤(j:Int):=by omega
     have zj2:(j:Int)<(n:Int):=by omega
     have zj3:j<n:=by omega
     clear G B11 B12 hgK hyr hy
     go_cut [10,11,12,13] (Rc2 w s (O a1 n1 m1) (O a2 n2 m2) (O (J ⟨b7,o7,Y⟩) n c7) qs o1 (j+1) x (pinG s pin x) (pinG s pin y))
     case first =>
      refine wp_region_held_drew (S:=(CellL [(⟨w.heap.size,0,Y⟩,O a1 n1 m1),(⟨w.heap.size,1,Y⟩,O a2 n2 m2),(⟨w.heap.size,2,Y⟩,X V lo),(⟨w.heap.size,3,Y⟩,X V hi),(⟨b7,o7+j*3,Y⟩,O ya ym yc),(⟨b7,o7+j*3+1,Y⟩,Z ys),(⟨b7,o7+j*3+2,Y⟩,O ya2 ym2 yc2)])) (by kernel_rfl) cA (fun h9H=>?_);refine sN 0 ?_
      iterate 6
       refine tkn ?_
      refine oN ?_;refine tk1 (i:=7) ?_;have E0:Ext wc wc.drew:=(eR _).drew;have HGy:=hd9 (fun(W:World) (hW:Ext wc W)=>HG.out W (Yc.out.trans hW) (.agg #[O ya ym yc,Z ys,O ya2 ym2 yc2]) y (Hyr.out.ext hW) Hyb.out);refine call2 (i:=6) (j:=10) (fun K hK=>?h1g1) (fun K hK=>?h2g1)
      case h1g1 =>
       go_simp
       (with_reducible refine cM (HGy.out _ E0) ?_)
       rintro e w6 ⟨r61,rfl,hr61,hx6⟩;obtain⟨a61,m61,c61,s61,b61,n61,k61,rfl⟩:=hr61.form
       go_wp2_with fail
       refine kO hK (cE h9H hx6) (fun h9H=>?_);clear hK K;have zz6:=hx6.size;simp only [qdZ]at zz6;refine call2 (i:=8) (j:=10) (fun K hK=>?h1g2) (fun K hK=>?h2g2)
       case h1g2 =>
        go_simp
        (with_reducible refine cM (zaI _ pin hp1 hp2) ?_)
        rintro e w8 ⟨r81,rfl,hr81,hx8⟩;obtain⟨a81,m81,c81,s81,b81,n81,k81,rfl⟩:=hr81.form
        go_wp2_with fail
        refine kO hK (cE h9H hx8) (fun h9H=>?_);clear hK K;have zz8:=hx8.size;refine call2 (i:=9) (j:=10) (fun K hK=>?h1g3) (fun K hK=>?h2g3)
        case h1g3 =>
         go_simp
         (with_reducible refine cM (zaC _ _ _ (gapR s y) (pin:Rat) (hr61.ext hx8) hr81 HLim2.out HLim.out.2) ?_)
         rintro e w9 ⟨r91,rfl,hr91,hx9⟩;obtain⟨a91,m91,c91,s91,b91,n91,k91',rfl⟩:=hr91.form
         go_wp2_with fail
         refine kO hK (cE h9H hx9) (fun h9H=>?_);clear hK K;have zz9:=hx9.size;have hH9:=h9H;have EA:=((E0.trans hx6).trans hx8).trans hx9;refine cl1 (i:=10) fun K hK=>?_
         go_simp;refine kO hK (cE h9H ((eR _).alloc _)) (fun h9H=>?_);clear hK K;refine cl1 (i:=11) fun K hK=>?_
         go_simp;refine kO hK (cE hH9 ((eR _).alloc _)) (fun h9H=>?_);clear hK K;refine wpAnyH_done (by kernel_rfl) ?_ _;go_wp2;go_meet;have zE:=EA.size;exact⟨w9.heap.size,⟨b11,b12,rfl,rfl,rfl,z1,z2,by simp only [wZ];omega,HG1.out.ext (EA.alloc _),HB11.out.ext (EA.alloc _),HB12.out.ext (EA.alloc _)⟩,rfl,by simp,RB.new hr91 rfl⟩
        case h2g3 =>
         go_simp;refine kO hK (cE h9H ((eR _).alloc _)) (fun h9H=>?_);clear hK K;refine cl1 (i:=9) fun K hK=>?_
         go_simp
         (with_reducible refine cM (zaC _ _ _ (gapR s y) (pin:Rat) ((hr61.ext hx8).ext ((eR _).alloc _)) (hr81.ext ((eR _).alloc _)) HLim2.out HLim.out.2) ?_)
         rintro e w9 ⟨r91,rfl,hr91,hx9⟩;obtain⟨a91,m91,c91,s91,b91,n91,k91',rfl⟩:=hr91.form
         go_wp2_with fail
         refine kO hK (cE h9H hx9) (fun h9H=>?_);clear hK K;have zz9:=hx9.size;simp only [wZ]at zz9;have hb13:b12<w8.heap.size:=by omega
         have hR13:=((RB.new (IsR.zero _) rfl).ext hx9:RB w9 w8.heap.size 0);have z13:w8.heap.size<(w9).heap.size:=by omega
         obtain⟨_,_,_,_,_,_,_,q0,q1',q2',qf0,qf1,qf2,qz,_⟩:=(show RB (w9) (w8.heap.size) 0 from hR13).rd
         have hnb:∀q∈[((⟨w.heap.size,0,Y⟩:Addr),Value.slice a1 n1 m1),(⟨w.heap.size,1,Y⟩,O a2 n2 m2),(⟨w.heap.size,2,Y⟩,X V lo),(⟨w.heap.size,3,Y⟩,X V hi),(⟨b7,o7+j*3,Y⟩,O ya ym yc),(⟨b7,o7+j*3+1,Y⟩,Z ys),(⟨b7,o7+j*3+2,Y⟩,O ya2 ym2 yc2)],w8.heap.size≠q.1.block:=by
          intro q hq;simp at hq
          rcases hq with rfl|rfl|rfl|rfl|rfl|rfl|rfl<;>(dsimp only;omega)
         refine cl1 (i:=11) fun K hK=>?_
         go_simp;refine kO hK (CellL.set3 h9H hnb _ _ _) (fun h9H=>?_);clear hK K;refine wpAnyH_done (by kernel_rfl) ?_ _;have H9:=zbV (i:=j+1) (HG1.out.ext ((((E0.trans hx6).trans hx8).alloc _).trans hx9)) (hr91) z1 z2 hb13 z13 (HB11.out.ext ((((E0.trans hx6).trans hx8).alloc _).trans hx9)) (HB12.out.ext ((((E0.trans hx6).trans hx8).alloc _).trans hx9)) hR13 (by simp only [Value.ownBlock,ne_eq,Option.some.injEq];omega) rfl;have H9:=hd9 H9;clear h9H q0 q1' q2' qf0 qf1 qf2;go_wp2;go_meet;exact H9.out
       case h2g2 =>
        go_simp;refine kO hK (cE h9H ((eR _).alloc _)) (fun h9H=>?_);clear hK K;refine cl1 (i:=8) fun K hK=>?_
        go_simp
        (with_reducible refine cM (zaI _ pin hp1 hp2) ?_)
        rintro e w8 ⟨r81,rfl,hr81,hx8⟩;obtain⟨a81,m81,c81,s81,b81,n81,k81,rfl⟩:=hr81.form
        go_wp2_with fail
        refine kO hK (cE h9H hx8) (fun h9H=>?_);clear hK K;have zz8:=hx8.size;simp only [wZ]at zz8;refine cl1 (i:=9) fun K hK=>?_
        go_simp
        (with_reducible refine cM (zaC _ _ _ (gapR s y) (pin:Rat) ((hr61.ext ((eR _).alloc _)).ext hx8) hr81 HLim2.out HLim.out.2) ?_)
        rintro e w9 ⟨r91,rfl,hr91,hx9⟩;obtain⟨a91,m91,c91,s91,b91,n91,k91',rfl⟩:=hr91.form
        go_wp2_with fail
        refine kO hK (cE h9H hx9) (fun h9H=>?_);clear hK K;have zz9:=hx9.size;have hb13:b12<w6.heap.size:=by omega
        have hR13:=(((RB.new (IsR.zero _) rfl).ext hx8).ext hx9:RB w9 w6.heap.size 0);have z13:w6.heap.size<(w9).heap.size:=by omega
        obtain⟨_,_,_,_,_,_,_,q0,q1',q2',qf0,qf1,qf2,qz,_⟩:=(show RB (w9) (w6.heap.size) 0 from hR13).rd
        have hnb:∀q∈[((⟨w.heap.size,0,Y⟩:Addr),Value.slice a1 n1 m1),(⟨w.heap.size,1,Y⟩,O a2 n2 m2),(⟨w.heap.size,2,Y⟩,X V lo),(⟨w.heap.size,3,Y⟩,X V hi),(⟨b7,o7+j*3,Y⟩,O ya ym yc),(⟨b7,o7+j*3+1,Y⟩,Z ys),(⟨b7,o7+j*3+2,Y⟩,O ya2 ym2 yc2)],w6.heap.size≠q.1.block:=by
         intro q hq;simp at hq
         rcases hq with rfl|rfl|rfl|rfl|rfl|rfl|rfl<;>(dsimp only;omega)
        refine cl1 (i:=11) fun K hK=>?_
        go_simp;refine kO hK (CellL.set3 h9H hnb _ _ _) (fun h9H=>?_);clear hK K;refine wpAnyH_done (by kernel_rfl) ?_ _;have H9:=zbV (i:=j+1) (HG1.out.ext ((((E0.trans hx6).alloc _).trans hx8).trans hx9)) (hr91) z1 z2 hb13 z13 (HB11.out.ext ((((E0.trans hx6).alloc _).trans hx8).trans hx9)) (HB12.out.ext ((((E0.trans hx6).alloc _).trans hx8).trans hx9)) hR13 (by simp only [Value.ownBlock,ne_eq,Option.some.injEq];omega) rfl;have H9:=hd9 H9;clear h9H q0 q1' q2' qf0 qf1 qf2;go_wp2;go_meet;exact H9.out
      case h2g1 =>
       go_simp;refine kO hK (cE h9H ((eR _).alloc _)) (fun h9H=>?_);clear hK K;refine cl1 (i:=6) fun K hK=>?_
       go_simp
       (with_reducible refine cM (HGy.out _ ((eR wc).alloc _).drew) ?_)
       rintro e w6 ⟨r61,rfl,hr61,hx6⟩;obtain⟨a61,m61,c61,s61,b61,n61,k61,rfl⟩:=hr61.form
       go_wp2_with fail
       refine kO hK (cE h9H hx6) (fun h9H=>?_);clear hK K;have zz6:=hx6.size;simp only [wZ,qdZ]at zz6;refine cl1 (i:=8) fun K hK=>?_
       go_simp
       (with_reducible refine cM (zaI _ pin hp1 hp2) ?_)
       rintro e w8 ⟨r81,rfl,hr81,hx8⟩;obtain⟨a81,m81,c81,s81,b81,n81,k81,rfl⟩:=hr81.form
       go_wp2_with fail
       refine kO hK (cE h9H hx8) (fun h9H=>?_);clear hK K;have zz8:=hx8.size;refine cl1 (i:=9) fun K hK=>?_
       go_simp
       (with_reducible refine cM (zaC _ _ _ (gapR s y) (pin:Rat) (hr61.ext hx8) hr81 HLim2.out HLim.out.2) ?_)
       rintro e w9 ⟨r91,rfl,hr91,hx9⟩;obtain⟨a91,m91,c91,s91,b91,n91,k91',rfl⟩:=hr91.form
       go_wp2_with fail
       refine kO hK (cE h9H hx9) (fun h9H=>?_);clear hK K;have zz9:=hx9.size;have hb13:b12<wc.heap.size:=by omega
       have hR13:=((((RB.new (IsR.zero _) rfl).ext ((eR _).drew.trans hx6)).ext hx8).ext hx9:RB w9 wc.heap.size 0);have z13:wc.heap.size<(w9).heap.size:=by omega
       obtain⟨_,_,_,_,_,_,_,q0,q1',q2',qf0,qf1,qf2,qz,_⟩:=(show RB (w9) (wc.heap.size) 0 from hR13).rd
       have hnb:∀q∈[((⟨w.heap.size,0,Y⟩:Addr),Value.slice a1 n1 m1),(⟨w.heap.size,1,Y⟩,O a2 n2 m2),(⟨w.heap.size,2,Y⟩,X V lo),(⟨w.heap.size,3,Y⟩,X V hi),(⟨b7,o7+j*3,Y⟩,O ya ym yc),(⟨b7,o7+j*3+1,Y⟩,Z ys),(⟨b7,o7+j*3+2,Y⟩,O ya2 ym2 yc2)],wc.heap.size≠q.1.block:=by
        intro q hq;simp at hq
        rcases hq with rfl|rfl|rfl|rfl|rfl|rfl|rfl<;>(dsimp only;omega)
       refine cl1 (i:=11) fun K hK=>?_
       go_simp;refine kO hK (CellL.set3 h9H hnb _ _ _) (fun h9H=>?_);clear hK K;refine wpAnyH_done (by kernel_rfl) ?_ _;have H9:=zbV (i:=j+1) (HG1.out.ext (((((eR wc).alloc _).drew.trans hx6).trans hx8).trans hx9)) (hr91) z1 z2 hb13 z13 (HB11.out.ext (((((eR wc).alloc _).drew.trans hx6).trans hx8).trans hx9)) (HB12.out.ext (((((eR wc).alloc _).drew.trans hx6).trans hx8).trans hx9)) hR13 (by simp only [Value.ownBlock,ne_eq,Option.some.injEq];omega) rfl;have H9:=hd9 H9;clear h9H q0 q1' q2' qf0 qf1 qf2;go_wp2;go_meet;exact H9.out
     case rest =>
      clear z1 z2 z3 HB11 HB12 HG1 yy0 yy1 yy2 k90 k91 k92 k93;obtain⟨b13,⟨c11,c12,rfl,rfl,rfl,z1,z2,z3,G,B11,B12⟩,rfl,z13,B13⟩:=hcut;obtain⟨pa,pm,pc1,ps,pa2,pm2,pc2,p0,p1,p2,pf0,pf1,pf2,pz,hpr⟩:=B12.rd;obtain⟨ea,em,ec,es,ea2,em2,ec2,e0,e1,e2,ef0,ef1,ef2,ez,her⟩:=B13.rd;obtain⟨kh,hkh⟩:=gX ((pinG s pin y).num.sign);have HSy:=hd9 (fun(W:World) (v:Value) (h:IsR W v (pinG s pin y))=>hkh▸zbz W v _ h);have hkb2:=zeL (pinG s pin y);rw [hkh]at hkb2;have Hkh:=hd9 hkh;clear hkh;obtain⟨km,hkm⟩:=gX (kg*kh)
      have hkm2 : -1≤km∧km≤1:=by
       have a1:kg = -1∨kg=0∨kg=1:=by omega
       have a2:kh = -1∨kh=0∨kh=1:=by omega
       rcases a1 with rfl|rfl|rfl<;>rcases a2 with rfl|rfl|rfl<;>omega
      have hmw:IntKind.i64.wrap (kg*kh)=km:=by rw [hkm];exact iW _ ⟨by omega,by omega⟩
      have hmw2:wrap64 (kg*kh)=km:=by rw [hkm];exact IntWalk.wrap64_in _ ⟨by omega,by omega⟩
      have hkw:IntKind.i64.wrap km=km:=iW _ ⟨by omega,by omega⟩
      have HNy:=hd9 (show reachN (pinG s pin) qs (q1,q1) (j+1+1)=if km<0 then widR o1 (crossR (pinG s pin) y x)else o1 by
       have e:=HN.out;rw [if_neg (by omega)]at e;rw [e,show qs.getD (j+1-1) 0=y by rw [Nat.add_sub_cancel,gD,Hy.out];rfl];unfold reachCross;rw [Hkg.out,Hkh.out,hkm])
      go_wp2;refine wp_region_held_drew (S:=CellL [(⟨c12,0,Y⟩,O pa pm pc1),(⟨c12,1,Y⟩,Z ps),(⟨c12,2,Y⟩,O pa2 pm2 pc2),(⟨b13,0,Y⟩,O ea em ec),(⟨b13,1,Y⟩,Z es),(⟨b13,2,Y⟩,O ea2 em2 ec2)]) (by kernel_rfl) cA (fun h9H=>?_);have E1:Ext wc wc.drew:=(eR _).drew;refine tk1 (i:=0) ?_;refine tk1 (i:=2) ?_;refine cl1 (i:=1) fun K hK=>?_
      go_simp
      (with_reducible refine cM (HSx.out _ _ (hpr.ext E1)) ?_)
      rintro e w1 ⟨rfl,hx1⟩
      skip
      go_wp2_with fail
      refine kO hK (cE h9H hx1) (fun h9H=>?_);clear hK K;refine cl1 (i:=3) fun K hK=>?_
      go_simp
      (with_reducible refine cM (HSy.out _ _ (her.ext (E1.trans hx1))) ?_)
      rintro e w3 ⟨rfl,hx3⟩
      skip
      go_wp2_with fail
      refine kO hK (cE h9H hx3) (fun h9H=>?_);clear hK K;refine sN 4 ?_
      iterate 2
       refine tkn ?_
      refine oN ?_;refine wpAnyH_done (by kernel_rfl) ?_ _;have X3:Ext wc w3:=E1.trans (hx1.trans hx3);have G3:=G.ext X3;clear h9H p0 p1 p2 pf0 pf1 pf2 e0 e1 e2 ef0 ef1 ef2
      by_cases hneg:km<0
      ·have hmd:decide (km<0)=true:=by simpa using hneg
       have hx3s:=X3.size;have B113:=B11.ext X3;have B123:=B12.ext X3;have B133:=B13.ext X3;obtain⟨ua,um,uc,us,ua2,um2,uc2,u0,u1,u2,_,_,_,uz,hur⟩:=B113.rd;obtain⟨va,vm,vc,vs,va2,vm2,vc2,v0,v1',v2',_,_,_,vz,hvr⟩:=B123.rd;obtain⟨ta,tm,tc,ts,ta2,tm2,tc2,t0,t1,t2,_,_,_,tz,htr⟩:=B133.rd;obtain⟨b9,o9,za,zm,zc,zs,za2,zm2,zc2,h9,hb9,hzr,zy0,zy1,zy2⟩:=G3.2.2.2.2.2.rs.at' Hy.out
       cases h9
       have HG3:=hd9 G3;have HB11:=hd9 B113;have HB12:=hd9 B123;have hfy:Rb 47 (pinG s pin y):=Rb.pin_g Hyb.out Hok.out Hp.out;have hfx:Rb 47 (pinG s pin x):=Rb.pin_g Hxb.out Hok.out Hp.out;have hfd:Rb 95 (pinG s pin y-pinG s pin x):=hfy.sub hfx;have hfo:Rb 142 (pinG s pin y / (pinG s pin y-pinG s pin x)):=hfy.div hfd (by decide);have hfm:Rb 145 (pinG s pin y / (pinG s pin y-pinG s pin x)*(x-y)):=hfo.mul (Hxb.out.sub Hyb.out);have HLy:=hd9 (show Rb limR (pinG s pin y)from zai hfy (by omega));have HLx:=hd9 (show Rb limR (pinG s pin x)from zai hfx (by omega));have HLd:=hd9 (show Rb limR (pinG s pin y-pinG s pin x)from zai hfd (by omega));have HLo:=hd9 (show Rb limR (pinG s pin y / (pinG s pin y-pinG s pin x))from zai hfo (by omega));have HLm:=hd9 (show Rb limR (pinG s pin y / (pinG s pin y-pinG s pin x)*(x-y))from zai hfm (by omega));have HLxy:=hd9 (show Rb limR (x-y)from zai (Hxb.out.sub Hyb.out) (by omega));have HL1x:=hd9 (show Rb limR x from zai Hxb.out (by omega));have HL1y:=hd9 (show Rb limR y from zai Hyb.out (by omega));have HNc:=hd9 (show reachN (pinG s pin) qs (q1,q1) (j+1+1)=widR o1 (crossR (pinG s pin) y x) by rw [HNy.out,if_pos hneg]);have Hcb:=hd9 (show Rb 291 (crossR (pinG s pin) y x)from Rb.cross Hyb.out Hxb.out hfy hfx);clear G3 B113 B123 B133 hfy hfx hfd hfo hfm B11 B12 B13 G hx1 hx3
       go_upto_region 15 with fail
       go_cut [10,11,12,14] (Rc2 w s (O a1 n1 m1) (O a2 n2 m2) (O (J ⟨b7,o7,Y⟩) n c7) qs o1 (j+1) x (pinG s pin x) (crossR (pinG s pin) y x))
       case first =>
        refine wp_region_held_drew (S:=CellL [(⟨b7,o7+j*3,Y⟩,O za zm zc),(⟨b7,o7+j*3+1,Y⟩,Z zs),(⟨b7,o7+j*3+2,Y⟩,O za2 zm2 zc2),(⟨b13,0,Y⟩,O ta tm tc),(⟨b13,1,Y⟩,Z ts),(⟨b13,2,Y⟩,O ta2 tm2 tc2),(⟨c12,0,Y⟩,O va vm vc),(⟨c12,1,Y⟩,Z vs),(⟨c12,2,Y⟩,O va2 vm2 vc2),(⟨c11,0,Y⟩,O ua um uc),(⟨c11,1,Y⟩,Z us),(⟨c11,2,Y⟩,O ua2 um2 uc2)]) (by kernel_rfl) cA (fun h9H=>?_);refine sN 0 ?_
        iterate 8
         refine tkn ?_
        refine oN ?_;refine sN 10 ?_
        iterate 6
         refine tkn ?_
        refine oN ?_;refine call2 (i:=8) (j:=19) (fun K hK=>?h1q1) (fun K hK=>?h2q1)
        case h1q1 =>
         go_simp
         (with_reducible refine cM (zaC _ _ _ (pinG s pin y) (pinG s pin x) (htr.ext ((eR w3).drew)) (hvr.ext ((eR w3).drew)) HLy.out HLx.out) ?_)
         rintro e wq8 ⟨rr8,rfl,hr8,hx8⟩;obtain⟨aa8,am8,ac8,as8,ab8,an8,ak8,rfl⟩:=hr8.form
         go_wp2_with fail
         refine kO hK (cE h9H hx8) (fun h9H=>?_);clear hK K;have zz8:=hx8.size
         try simp only [wZ,qdZ]at zz8
         refine call2 (i:=9) (j:=19) (fun K hK=>?h1q2) (fun K hK=>?h2q2)
         case h1q2 =>
          go_simp
          (with_reducible refine cM (zcB _ _ _ (pinG s pin y) ((pinG s pin y)-(pinG s pin x)) (htr.ext (((eR w3).drew).trans hx8)) (hr8.ext (eR _)) HLy.out HLd.out) ?_)
          rintro e wq9 ⟨rr9,rfl,hr9,hx9⟩;obtain⟨aa9,am9,ac9,as9,ab9,an9,ak9,rfl⟩:=hr9.form
          go_wp2_with fail
          refine kO hK (cE h9H hx9) (fun h9H=>?_);clear hK K;have zz9:=hx9.size
          try simp only [wZ,qdZ]at zz9
          refine call2 (i:=16) (j:=19) (fun K hK=>?h1q3) (fun K hK=>?h2q3)
          case h1q3 =>
           go_simp
           (with_reducible refine cM (zaC _ _ _ x y (hur.ext ((((eR w3).drew).trans hx8).trans hx9)) (hzr.ext ((((eR w3).drew).trans hx8).trans hx9)) HL1x.out HL1y.out) ?_)
           rintro e wq16 ⟨rr16,rfl,hr16,hx16⟩;obtain⟨aa16,am16,ac16,as16,ab16,an16,ak16,rfl⟩:=hr16.form
           go_wp2_with fail
           refine kO hK (cE h9H hx16) (fun h9H=>?_);clear hK K;have zz16:=hx16.size
           try simp only [wZ,qdZ]at zz16
           refine call2 (i:=17) (j:=19) (fun K hK=>?h1q4) (fun K hK=>?h2q4)
           case h1q4 =>
            go_simp
            (with_reducible refine cM (zcd _ _ _ ((pinG s pin y) / ((pinG s pin y)-(pinG s pin x))) (x-y) (hr9.ext ((eR _).trans hx16)) (hr16.ext (eR _)) HLo.out HLxy.out) ?_)
            rintro e wq17 ⟨rr17,rfl,hr17,hx17⟩;obtain⟨aa17,am17,ac17,as17,ab17,an17,ak17,rfl⟩:=hr17.form
            go_wp2_with fail
            refine kO hK (cE h9H hx17) (fun h9H=>?_);clear hK K;have zz17:=hx17.size
            try simp only [wZ,qdZ]at zz17
            refine call2 (i:=18) (j:=19) (fun K hK=>?h1q5) (fun K hK=>?h2q5)
            case h1q5 =>
             go_simp
             (with_reducible refine cM (zbs _ _ _ y ((pinG s pin y) / ((pinG s pin y)-(pinG s pin x))*(x-y)) (hzr.ext ((((((eR w3).drew).trans hx8).trans hx9).trans hx16).trans hx17)) (hr17.ext (eR _)) HL1y.out HLm.out) ?_)
             rintro e wq18 ⟨rr18,rfl,hr18,hx18⟩;obtain⟨aa18,am18,ac18,as18,ab18,an18,ak18,rfl⟩:=hr18.form
             go_wp2_with fail
             refine kO hK (cE h9H hx18) (fun h9H=>?_);clear hK K;have zz18:=hx18.size
             try simp only [wZ,qdZ]at zz18
             have hH9:=h9H;have EA:=(((((((eR w3).drew).trans hx8).trans hx9).trans hx16).trans hx17).trans hx18);refine cl1 (i:=19) fun K hK=>?_
             go_simp;refine kO hK (cE h9H ((eR _).alloc _)) (fun h9H=>?_);clear hK K;refine cl1 (i:=20) fun K hK=>?_
             go_simp;refine kO hK (cE hH9 ((eR _).alloc _)) (fun h9H=>?_);clear hK K;refine wpAnyH_done (by kernel_rfl) ?_ _;go_wp2;go_meet;have zE:=EA.size;exact⟨wq18.heap.size,⟨c11,c12,rfl,rfl,rfl,z1,z2,by simp only [wZ];omega,HG3.out.ext (EA.alloc _),HB11.out.ext (EA.alloc _),HB12.out.ext (EA.alloc _)⟩,rfl,by simp,RB.new hr18 rfl⟩
            case h2q5 =>
             go_simp;refine kO hK (cE h9H ((eR _).alloc _)) (fun h9H=>?_);clear hK K;refine cl1 (i:=18) fun K hK=>?_
             go_simp
             (with_reducible refine cM (zbs _ _ _ y ((pinG s pin y) / ((pinG s pin y)-(pinG s pin x))*(x-y)) (hzr.ext (((((((eR w3).drew).trans hx8).trans hx9).trans hx16).trans hx17).alloc _)) (hr17.ext ((eR _).alloc _)) HL1y.out HLm.out) ?_)
             rintro e wq18 ⟨rr18,rfl,hr18,hx18⟩;obtain⟨aa18,am18,ac18,as18,ab18,an18,ak18,rfl⟩:=hr18.form
             go_wp2_with fail
             refine kO hK (cE h9H hx18) (fun h9H=>?_);clear hK K;have zz18:=hx18.size
             try simp only [wZ,qdZ]at zz18
             have hb14:c12<wq17.heap.size:=by omega
             have hR14:RB wq18 wq17.heap.size 0:=((RB.new (IsR.zero _) rfl).ext hx18);have z14:wq17.heap.size<wq18.heap.size:=by omega
             obtain⟨_,_,_,_,_,_,_,q0,q1',q2',qf0,qf1,qf2,qz,_⟩:=hR14.rd
             have hnb:∀q∈[((⟨b7,o7+j*3,Y⟩:Addr),Value.slice za zm zc),(⟨b7,o7+j*3+1,Y⟩,Z zs),(⟨b7,o7+j*3+2,Y⟩,O za2 zm2 zc2),(⟨b13,0,Y⟩,O ta tm tc),(⟨b13,1,Y⟩,Z ts),(⟨b13,2,Y⟩,O ta2 tm2 tc2),(⟨c12,0,Y⟩,O va vm vc),(⟨c12,1,Y⟩,Z vs),(⟨c12,2,Y⟩,O va2 vm2 vc2),(⟨c11,0,Y⟩,O ua um uc),(⟨c11,1,Y⟩,Z us),(⟨c11,2,Y⟩,O ua2 um2 uc2)],wq17.heap.size≠q.1.block:=by
              intro q hq;simp at hq
              rcases hq with rfl|rfl|rfl|rfl|rfl|rfl|rfl|rfl|rfl|rfl|rfl|rfl<;>(dsimp only;omega)
             refine cl1 (i:=20) fun K hK=>?_
             go_simp;refine kO hK (CellL.set3 h9H hnb _ _ _) (fun h9H=>?_);clear hK K;refine wpAnyH_done (by kernel_rfl) ?_ _;have H9:=zbV (i:=j+1) (HG3.out.ext ((((((((eR w3).drew).trans hx8).trans hx9).trans hx16).trans hx17).alloc _).trans hx18)) hr18 z1 z2 hb14 z14 (HB11.out.ext ((((((((eR w3).drew).trans hx8).trans hx9).trans hx16).trans hx17).alloc _).trans hx18)) (HB12.out.ext ((((((((eR w3).drew).trans hx8).trans hx9).trans hx16).trans hx17).alloc _).trans hx18)) hR14 (by simp only [Value.ownBlock,ne_eq,Option.some.injEq];omega) rfl;have H9:=hd9 H9;clear h9H q0 q1' q2' qf0 qf1 qf2;go_wp2;go_meet;exact H9.out
           case h2q4 =>
            go_simp;refine kO hK (cE h9H ((eR _).alloc _)) (fun h9H=>?_);clear hK K;refine cl1 (i:=17) fun K hK=>?_
            go_simp
            (with_reducible refine cM (zcd _ _ _ ((pinG s pin y) / ((pinG s pin y)-(pinG s pin x))) (x-y) (hr9.ext (((eR _).trans hx16).alloc _)) (hr16.ext ((eR _).alloc _)) HLo.out HLxy.out) ?_)
            rintro e wq17 ⟨rr17,rfl,hr17,hx17⟩;obtain⟨aa17,am17,ac17,as17,ab17,an17,ak17,rfl⟩:=hr17.form
            go_wp2_with fail
            refine kO hK (cE h9H hx17) (fun h9H=>?_);clear hK K;have zz17:=hx17.size
            try simp only [wZ,qdZ]at zz17
            refine cl1 (i:=18) fun K hK=>?_
            go_simp
            (with_reducible refine cM (zbs _ _ _ y ((pinG s pin y) / ((pinG s pin y)-(pinG s pin x))*(x-y)) (hzr.ext (((((((eR w3).drew).trans hx8).trans hx9).trans hx16).alloc _).trans hx17)) (hr17.ext (eR _)) HL1y.out HLm.out) ?_)
            rintro e wq18 ⟨rr18,rfl,hr18,hx18⟩;obtain⟨aa18,am18,ac18,as18,ab18,an18,ak18,rfl⟩:=hr18.form
            go_wp2_with fail
            refine kO hK (cE h9H hx18) (fun h9H=>?_);clear hK K;have zz18:=hx18.size
            try simp only [wZ,qdZ]at zz18
            have hb14:c12<wq16.heap.size:=by omega
            have hR14:RB wq18 wq16.heap.size 0:=(((RB.new (IsR.zero _) rfl).ext hx17).ext hx18);have z14:wq16.heap.size<wq18.heap.size:=by omega
            obtain⟨_,_,_,_,_,_,_,q0,q1',q2',qf0,qf1,qf2,qz,_⟩:=hR14.rd
            have hnb:∀q∈[((⟨b7,o7+j*3,Y⟩:Addr),Value.slice za zm zc),(⟨b7,o7+j*3+1,Y⟩,Z zs),(⟨b7,o7+j*3+2,Y⟩,O za2 zm2 zc2),(⟨b13,0,Y⟩,O ta tm tc),(⟨b13,1,Y⟩,Z ts),(⟨b13,2,Y⟩,O ta2 tm2 tc2),(⟨c12,0,Y⟩,O va vm vc),(⟨c12,1,Y⟩,Z vs),(⟨c12,2,Y⟩,O va2 vm2 vc2),(⟨c11,0,Y⟩,O ua um uc),(⟨c11,1,Y⟩,Z us),(⟨c11,2,Y⟩,O ua2 um2 uc2)],wq16.heap.size≠q.1.block:=by
             intro q hq;simp at hq
             rcases hq with rfl|rfl|rfl|rfl|rfl|rfl|rfl|rfl|rfl|rfl|rfl|rfl<;>(dsimp only;omega)
            refine cl1 (i:=20) fun K hK=>?_
            go_simp;refine kO hK (CellL.set3 h9H hnb _ _ _) (fun h9H=>?_);clear hK K;refine wpAnyH_done (by kernel_rfl) ?_ _;have H9:=zbV (i:=j+1) (HG3.out.ext ((((((((eR w3).drew).trans hx8).trans hx9).trans hx16).alloc _).trans hx17).trans hx18)) hr18 z1 z2 hb14 z14 (HB11.out.ext ((((((((eR w3).drew).trans hx8).trans hx9).trans hx16).alloc _).trans hx17).trans hx18)) (HB12.out.ext ((((((((eR w3).drew).trans hx8).trans hx9).trans hx16).alloc _).trans hx17).trans hx18)) hR14 (by simp only [Value.ownBlock,ne_eq,Option.some.injEq];omega) rfl;have H9:=hd9 H9;clear h9H q0 q1' q2' qf0 qf1 qf2;go_wp2;go_meet;exact H9.out
          case h2q3 =>
           go_simp;refine kO hK (cE h9H ((eR _).alloc _)) (fun h9H=>?_);clear hK K;refine cl1 (i:=16) fun K hK=>?_
           go_simp
           (with_reducible refine cM (zaC _ _ _ x y (hur.ext (((((eR w3).drew).trans hx8).trans hx9).alloc _)) (hzr.ext (((((eR w3).drew).trans hx8).trans hx9).alloc _)) HL1x.out HL1y.out) ?_)
           rintro e wq16 ⟨rr16,rfl,hr16,hx16⟩;obtain⟨aa16,am16,ac16,as16,ab16,an16,ak16,rfl⟩:=hr16.form
           go_wp2_with fail
           refine kO hK (cE h9H hx16) (fun h9H=>?_);clear hK K;have zz16:=hx16.size
           try simp only [wZ,qdZ]at zz16
           refine cl1 (i:=17) fun K hK=>?_
           go_simp
           (with_reducible refine cM (zcd _ _ _ ((pinG s pin y) / ((pinG s pin y)-(pinG s pin x))) (x-y) (hr9.ext (((eR _).alloc _).trans hx16)) (hr16.ext (eR _)) HLo.out HLxy.out) ?_)
           rintro e wq17 ⟨rr17,rfl,hr17,hx17⟩;obtain⟨aa17,am17,ac17,as17,ab17,an17,ak17,rfl⟩:=hr17.form
           go_wp2_with fail
           refine kO hK (cE h9H hx17) (fun h9H=>?_);clear hK K;have zz17:=hx17.size
           try simp only [wZ,qdZ]at zz17
           refine cl1 (i:=18) fun K hK=>?_
           go_simp
           (with_reducible refine cM (zbs _ _ _ y ((pinG s pin y) / ((pinG s pin y)-(pinG s pin x))*(x-y)) (hzr.ext (((((((eR w3).drew).trans hx8).trans hx9).alloc _).trans hx16).trans hx17)) (hr17.ext (eR _)) HL1y.out HLm.out) ?_)
           rintro e wq18 ⟨rr18,rfl,hr18,hx18⟩;obtain⟨aa18,am18,ac18,as18,ab18,an18,ak18,rfl⟩:=hr18.form
           go_wp2_with fail
           refine kO hK (cE h9H hx18) (fun h9H=>?_);clear hK K;have zz18:=hx18.size
           try simp only [wZ,qdZ]at zz18
           have hb14:c12<wq9.heap.size:=by omega
           have hR14:RB wq18 wq9.heap.size 0:=((((RB.new (IsR.zero _) rfl).ext hx16).ext hx17).ext hx18);have z14:wq9.heap.size<wq18.heap.size:=by omega
           obtain⟨_,_,_,_,_,_,_,q0,q1',q2',qf0,qf1,qf2,qz,_⟩:=hR14.rd
           have hnb:∀q∈[((⟨b7,o7+j*3,Y⟩:Addr),Value.slice za zm zc),(⟨b7,o7+j*3+1,Y⟩,Z zs),(⟨b7,o7+j*3+2,Y⟩,O za2 zm2 zc2),(⟨b13,0,Y⟩,O ta tm tc),(⟨b13,1,Y⟩,Z ts),(⟨b13,2,Y⟩,O ta2 tm2 tc2),(⟨c12,0,Y⟩,O va vm vc),(⟨c12,1,Y⟩,Z vs),(⟨c12,2,Y⟩,O va2 vm2 vc2),(⟨c11,0,Y⟩,O ua um uc),(⟨c11,1,Y⟩,Z us),(⟨c11,2,Y⟩,O ua2 um2 uc2)],wq9.heap.size≠q.1.block:=by
            intro q hq;simp at hq
            rcases hq with rfl|rfl|rfl|rfl|rfl|rfl|rfl|rfl|rfl|rfl|rfl|rfl<;>(dsimp only;omega)
           refine cl1 (i:=20) fun K hK=>?_
           go_simp;refine kO hK (CellL.set3 h9H hnb _ _ _) (fun h9H=>?_);clear hK K;refine wpAnyH_done (by kernel_rfl) ?_ _;have H9:=zbV (i:=j+1) (HG3.out.ext ((((((((eR w3).drew).trans hx8).trans hx9).alloc _).trans hx16).trans hx17).trans hx18)) hr18 z1 z2 hb14 z14 (HB11.out.ext ((((((((eR w3).drew).trans hx8).trans hx9).alloc _).trans hx16).trans hx17).trans hx18)) (HB12.out.ext ((((((((eR w3).drew).trans hx8).trans hx9).alloc _).trans hx16).trans hx17).trans hx18)) hR14 (by simp only [Value.ownBlock,ne_eq,Option.some.injEq];omega) rfl;have H9:=hd9 H9;clear h9H q0 q1' q2' qf0 qf1 qf2;go_wp2;go_meet;exact H9.out
         case h2q2 =>
          go_simp;refine kO hK (cE h9H ((eR _).alloc _)) (fun h9H=>?_);clear hK K;refine cl1 (i:=9) fun K hK=>?_
          go_simp
          (with_reducible refine cM (zcB _ _ _ (pinG s pin y) ((pinG s pin y)-(pinG s pin x)) (htr.ext ((((eR w3).drew).trans hx8).alloc _)) (hr8.ext ((eR _).alloc _)) HLy.out HLd.out) ?_)
          rintro e wq9 ⟨rr9,rfl,hr9,hx9⟩;obtain⟨aa9,am9,ac9,as9,ab9,an9,ak9,rfl⟩:=hr9.form
          go_wp2_with fail
          refine kO hK (cE h9H hx9) (fun h9H=>?_);clear hK K;have zz9:=hx9.size
          try simp only [wZ,qdZ]at zz9
          refine cl1 (i:=16) fun K hK=>?_
          go_simp
          (with_reducible refine cM (zaC _ _ _ x y (hur.ext (((((eR w3).drew).trans hx8).alloc _).trans hx9)) (hzr.ext (((((eR w3).drew).trans hx8).alloc _).trans hx9)) HL1x.out HL1y.out) ?_)
          rintro e wq16 ⟨rr16,rfl,hr16,hx16⟩;obtain⟨aa16,am16,ac16,as16,ab16,an16,ak16,rfl⟩:=hr16.form
          go_wp2_with fail
          refine kO hK (cE h9H hx16) (fun h9H=>?_);clear hK K;have zz16:=hx16.size
          try simp only [wZ,qdZ]at zz16
          refine cl1 (i:=17) fun K hK=>?_
          go_simp
          (with_reducible refine cM (zcd _ _ _ ((pinG s pin y) / ((pinG s pin y)-(pinG s pin x))) (x-y) (hr9.ext ((eR _).trans hx16)) (hr16.ext (eR _)) HLo.out HLxy.out) ?_)
          rintro e wq17 ⟨rr17,rfl,hr17,hx17⟩;obtain⟨aa17,am17,ac17,as17,ab17,an17,ak17,rfl⟩:=hr17.form
          go_wp2_with fail
          refine kO hK (cE h9H hx17) (fun h9H=>?_);clear hK K;have zz17:=hx17.size
          try simp only [wZ,qdZ]at zz17
          refine cl1 (i:=18) fun K hK=>?_
          go_simp
          (with_reducible refine cM (zbs _ _ _ y ((pinG s pin y) / ((pinG s pin y)-(pinG s pin x))*(x-y)) (hzr.ext (((((((eR w3).drew).trans hx8).alloc _).trans hx9).trans hx16).trans hx17)) (hr17.ext (eR _)) HL1y.out HLm.out) ?_)
          rintro e wq18 ⟨rr18,rfl,hr18,hx18⟩;obtain⟨aa18,am18,ac18,as18,ab18,an18,ak18,rfl⟩:=hr18.form
          go_wp2_with fail
          refine kO hK (cE h9H hx18) (fun h9H=>?_);clear hK K;have zz18:=hx18.size
          try simp only [wZ,qdZ]at zz18
          have hb14:c12<wq8.heap.size:=by omega
          have hR14:RB wq18 wq8.heap.size 0:=(((((RB.new (IsR.zero _) rfl).ext hx9).ext hx16).ext hx17).ext hx18);have z14:wq8.heap.size<wq18.heap.size:=by omega
          obtain⟨_,_,_,_,_,_,_,q0,q1',q2',qf0,qf1,qf2,qz,_⟩:=hR14.rd
          have hnb:∀q∈[((⟨b7,o7+j*3,Y⟩:Addr),Value.slice za zm zc),(⟨b7,o7+j*3+1,Y⟩,Z zs),(⟨b7,o7+j*3+2,Y⟩,O za2 zm2 zc2),(⟨b13,0,Y⟩,O ta tm tc),(⟨b13,1,Y⟩,Z ts),(⟨b13,2,Y⟩,O ta2 tm2 tc2),(⟨c12,0,Y⟩,O va vm vc),(⟨c12,1,Y⟩,Z vs),(⟨c12,2,Y⟩,O va2 vm2 vc2),(⟨c11,0,Y⟩,O ua um uc),(⟨c11,1,Y⟩,Z us),(⟨c11,2,Y⟩,O ua2 um2 uc2)],wq8.heap.size≠q.1.block:=by
           intro q hq;simp at hq
           rcases hq with rfl|rfl|rfl|rfl|rfl|rfl|rfl|rfl|rfl|rfl|rfl|rfl<;>(dsimp only;omega)
          refine cl1 (i:=20) fun K hK=>?_
          go_simp;refine kO hK (CellL.set3 h9H hnb _ _ _) (fun h9H=>?_);clear hK K;refine wpAnyH_done (by kernel_rfl) ?_ _;have H9:=zbV (i:=j+1) (HG3.out.ext ((((((((eR w3).drew).trans hx8).alloc _).trans hx9).trans hx16).trans hx17).trans hx18)) hr18 z1 z2 hb14 z14 (HB11.out.ext ((((((((eR w3).drew).trans hx8).alloc _).trans hx9).trans hx16).trans hx17).trans hx18)) (HB12.out.ext ((((((((eR w3).drew).trans hx8).alloc _).trans hx9).trans hx16).trans hx17).trans hx18)) hR14 (by simp only [Value.ownBlock,ne_eq,Option.some.injEq];omega) rfl;have H9:=hd9 H9;clear h9H q0 q1' q2' qf0 qf1 qf2;go_wp2;go_meet;exact H9.out
        case h2q1 =>
         go_simp;refine kO hK (cE h9H ((eR _).alloc _)) (fun h9H=>?_);clear hK K;refine cl1 (i:=8) fun K hK=>?_
         go_simp
         (with_reducible refine cM (zaC _ _ _ (pinG s pin y) (pinG s pin x) (htr.ext (((eR w3).alloc _).drew)) (hvr.ext (((eR w3).alloc _).drew)) HLy.out HLx.out) ?_)
         rintro e wq8 ⟨rr8,rfl,hr8,hx8⟩;obtain⟨aa8,am8,ac8,as8,ab8,an8,ak8,rfl⟩:=hr8.form
         go_wp2_with fail
         refine kO hK (cE h9H hx8) (fun h9H=>?_);clear hK K;have zz8:=hx8.size
         try simp only [wZ,qdZ]at zz8
         refine cl1 (i:=9) fun K hK=>?_
         go_simp
         (with_reducible refine cM (zcB _ _ _ (pinG s pin y) ((pinG s pin y)-(pinG s pin x)) (htr.ext ((((eR w3).alloc _).drew).trans hx8)) (hr8.ext (eR _)) HLy.out HLd.out) ?_)
         rintro e wq9 ⟨rr9,rfl,hr9,hx9⟩;obtain⟨aa9,am9,ac9,as9,ab9,an9,ak9,rfl⟩:=hr9.form
         go_wp2_with fail
         refine kO hK (cE h9H hx9) (fun h9H=>?_);clear hK K;have zz9:=hx9.size
         try simp only [wZ,qdZ]at zz9
         refine cl1 (i:=16) fun K hK=>?_
         go_simp
         (with_reducible refine cM (zaC _ _ _ x y (hur.ext (((((eR w3).alloc _).drew).trans hx8).trans hx9)) (hzr.ext (((((eR w3).alloc _).drew).trans hx8).trans hx9)) HL1x.out HL1y.out) ?_)
         rintro e wq16 ⟨rr16,rfl,hr16,hx16⟩;obtain⟨aa16,am16,ac16,as16,ab16,an16,ak16,rfl⟩:=hr16.form
         go_wp2_with fail
         refine kO hK (cE h9H hx16) (fun h9H=>?_);clear hK K;have zz16:=hx16.size
         try simp only [wZ,qdZ]at zz16
         refine cl1 (i:=17) fun K hK=>?_
         go_simp
         (with_reducible refine cM (zcd _ _ _ ((pinG s pin y) / ((pinG s pin y)-(pinG s pin x))) (x-y) (hr9.ext ((eR _).trans hx16)) (hr16.ext (eR _)) HLo.out HLxy.out) ?_)
         rintro e wq17 ⟨rr17,rfl,hr17,hx17⟩;obtain⟨aa17,am17,ac17,as17,ab17,an17,ak17,rfl⟩:=hr17.form
         go_wp2_with fail
         refine kO hK (cE h9H hx17) (fun h9H=>?_);clear hK K;have zz17:=hx17.size
         try simp only [wZ,qdZ]at zz17
         refine cl1 (i:=18) fun K hK=>?_
         go_simp
         (with_reducible refine cM (zbs _ _ _ y ((pinG s pin y) / ((pinG s pin y)-(pinG s pin x))*(x-y)) (hzr.ext (((((((eR w3).alloc _).drew).trans hx8).trans hx9).trans hx16).trans hx17)) (hr17.ext (eR _)) HL1y.out HLm.out) ?_)
         rintro e wq18 ⟨rr18,rfl,hr18,hx18⟩;obtain⟨aa18,am18,ac18,as18,ab18,an18,ak18,rfl⟩:=hr18.form
         go_wp2_with fail
         refine kO hK (cE h9H hx18) (fun h9H=>?_);clear hK K;have zz18:=hx18.size
         try simp only [wZ,qdZ]at zz18
         have hb14:c12<w3.heap.size:=by omega
         have hR14:RB wq18 w3.heap.size 0:=((((((RB.new (IsR.zero _) rfl).ext ((eR _).drew.trans hx8)).ext hx9).ext hx16).ext hx17).ext hx18);have z14:w3.heap.size<wq18.heap.size:=by omega
         obtain⟨_,_,_,_,_,_,_,q0,q1',q2',qf0,qf1,qf2,qz,_⟩:=hR14.rd
         have hnb:∀q∈[((⟨b7,o7+j*3,Y⟩:Addr),Value.slice za zm zc),(⟨b7,o7+j*3+1,Y⟩,Z zs),(⟨b7,o7+j*3+2,Y⟩,O za2 zm2 zc2),(⟨b13,0,Y⟩,O ta tm tc),(⟨b13,1,Y⟩,Z ts),(⟨b13,2,Y⟩,O ta2 tm2 tc2),(⟨c12,0,Y⟩,O va vm vc),(⟨c12,1,Y⟩,Z vs),(⟨c12,2,Y⟩,O va2 vm2 vc2),(⟨c11,0,Y⟩,O ua um uc),(⟨c11,1,Y⟩,Z us),(⟨c11,2,Y⟩,O ua2 um2 uc2)],w3.heap.size≠q.1.block:=by
          intro q hq;simp at hq
          rcases hq with rfl|rfl|rfl|rfl|rfl|rfl|rfl|rfl|rfl|rfl|rfl|rfl<;>(dsimp only;omega)
         refine cl1 (i:=20) fun K hK=>?_
         go_simp;refine kO hK (CellL.set3 h9H hnb _ _ _) (fun h9H=>?_);clear hK K;refine wpAnyH_done (by kernel_rfl) ?_ _;have H9:=zbV (i:=j+1) (HG3.out.ext ((((((((eR w3).alloc _).drew).trans hx8).trans hx9).trans hx16).trans hx17).trans hx18)) hr18 z1 z2 hb14 z14 (HB11.out.ext ((((((((eR w3).alloc _).drew).trans hx8).trans hx9).trans hx16).trans hx17).trans hx18)) (HB12.out.ext ((((((((eR w3).alloc _).drew).trans hx8).trans hx9).trans hx16).trans hx17).trans hx18)) hR14 (by simp only [Value.ownBlock,ne_eq,Option.some.injEq];omega) rfl;have H9:=hd9 H9;clear h9H q0 q1' q2' qf0 qf1 qf2;go_wp2;go_meet;exact H9.out
       case rest =>
        clear z1 z2 z3 HB11 HB12 HG3 zy0 zy1 zy2 u0 u1 u2 v0 v1' v2' t0 t1 t2 hur hvr htr hzr X3 z13 hx3s;obtain⟨b14,⟨b11,b12,rfl,rfl,rfl,z1,z2,z3,G,B11,B12⟩,rfl,z14,B14⟩:=hcut;obtain⟨cv,hcv⟩:=gX (crossR (pinG s pin) y x);rw [hcv]at HNc Hcb B14;clear hcv;have Hm1:=hd9 (show ∀q∈[o1.1,cv],Rb limR q from fun q hq=>by rcases List.mem_cons.1 hq with rfl|hq;exact zai Hob1.out.1 (by omega);rw [List.mem_singleton.1 hq];exact zai Hcb.out (by omega));have Hm2:=hd9 (show ∀q∈[o1.2,cv],Rb limR q from fun q hq=>by rcases List.mem_cons.1 hq with rfl|hq;exact zai Hob1.out.2 (by omega);rw [List.mem_singleton.1 hq];exact zai Hcb.out (by omega));go_wp2;obtain⟨pa,pm,pc1,ps,pa2,pm2,pc2,p0,p1,p2,pf0,pf1,pf2,pz,hpr⟩:=(G.2.2.2.1).rd;obtain⟨ea,em,ec,es,ea2,em2,ec2,e0,e1,e2,ef0,ef1,ef2,ez,her⟩:=(G.2.2.2.2.1).rd;obtain⟨ua,um,uc,us,ua2,um2,uc2,u0,u1,u2,uf0,uf1,uf2,uz,hur⟩:=(B14).rd;have HG5:=hd9 G;have HB5:=hd9 (B14);have HB12:=hd9 B12;have Hpr:=hd9 hpr;have Her:=hd9 her;have Hur:=hd9 hur;clear G B11 B12 hpr her hur;have D0:Ext wc wc.drew:=(eR _).drew;refine zaQ (fun i=>decide (7<i)) (CellL [(⟨w.heap.size+1,0,Y⟩,O pa pm pc1),(⟨w.heap.size+1,1,Y⟩,Z ps),(⟨w.heap.size+1,2,Y⟩,O pa2 pm2 pc2),(⟨w.heap.size+1+1,0,Y⟩,O ea em ec),(⟨w.heap.size+1+1,1,Y⟩,Z es),(⟨w.heap.size+1+1,2,Y⟩,O ea2 em2 ec2),(⟨b14,0,Y⟩,O ua um uc),(⟨b14,1,Y⟩,Z us),(⟨b14,2,Y⟩,O ua2 um2 uc2)]) (by kernel_rfl) ?_ (fun h9H=>?_)
        ·exact cA
        refine sN 0 ?_
        iterate 2
         refine tun ?_
        refine oN ?_;refine sN 4 ?_
        iterate 2
         refine tun ?_
        refine oN ?_;refine callHU2 (i:=2) (j:=6) (fun K hK=>?h1k1xx1) (fun K hK=>?h2k1xx1)
        case h1k1xx1 =>
         go_simp;refine kO hK (fun _=>cE h9H ((eR _).alloc _)) (fun h9H=>?_);clear hK K;have h9H:=h9H rfl;refine callHU2 (i:=3) (j:=6) (fun K hK=>?h1k2xx1) (fun K hK=>?h2k2xx1)
         case h1k2xx1 =>
          go_simp
          (with_reducible refine cM (zcc _ _ [o1.1,cv] ((zbO wc rfl Hpr.out Hur.out).ext' (eR _).drew) Hm1.out) ?_)
          rintro e w6 ⟨r6,rfl,hr6,hx6⟩;obtain⟨a6',m6',c6',s6',b6',n6',k6',rfl⟩:=hr6.form
          go_wp2_with fail
          refine kO hK (fun _=>cE h9H hx6) (fun h9H=>?_);clear hK K;have h9H:=h9H rfl;have D6:Ext wc w6:=(((eR wc).alloc _).drew).trans hx6;refine cu1 (i:=6) fun K hK=>?_
          go_simp;refine kO hK (fun _=>cE h9H ((eR _).alloc _)) (fun h9H=>?_);clear hK K;have h9H:=h9H rfl;refine cu1 (i:=7) fun K hK=>?_
          go_simp
          (with_reducible refine cM (zcb _ _ [o1.2,cv] (zbO w6 rfl (Her.out.ext D6) (Hur.out.ext D6)) Hm2.out) ?_)
          rintro e w7 ⟨r7,rfl,hr7,hx7⟩;obtain⟨a7',m7',c7',s7',b7',n7',k7',rfl⟩:=hr7.form
          go_wp2_with fail
          refine kO hK (fun _=>cE h9H hx7) (fun h9H=>?_);clear hK K;have h9H:=h9H rfl;obtain⟨_,_,_,_,_,_,_,x0,x1,x2,xf0,xf1,xf2,xz,_⟩:=((HG5.out.ext ((D6.alloc _).trans hx7)).2.2.2.1).rd;obtain⟨_,_,_,_,_,_,_,y0,y1,y2,yf0,yf1,yf2,yz,_⟩:=((HG5.out.ext ((D6.alloc _).trans hx7)).2.2.2.2.1).rd;refine cu1 (i:=8) fun K hK=>?_
          go_simp;refine kO hK (fun h=>nomatch h) (fun h9H=>?_);clear hK K;refine cu1 (i:=9) fun K hK=>?_
          go_simp;refine kO hK (fun h=>nomatch h) (fun h9H=>?_);clear hK K;refine doneHU (by kernel_rfl) ?_ _;obtain⟨W9,hW9⟩:=gX (((((((w7.setCell ⟨w.heap.size+1,0,Y⟩ (O a6' m6' c6')).setCell ⟨w.heap.size+1,1,Y⟩ (Z s6')).setCell ⟨w.heap.size+1,2,Y⟩ (O b6' n6' k6')).setCell ⟨w.heap.size+1+1,0,Y⟩ (O a7' m7' c7')).setCell ⟨w.heap.size+1+1,1,Y⟩ (Z s7')).setCell ⟨w.heap.size+1+1,2,Y⟩ (O b7' n7' k7')));have H9:=(RcW.put2 (HG5.out.ext ((D6.alloc _).trans hx7)) ((hr6.ext ((eR _).alloc _)).ext hx7) hr7 rfl rfl).1;rw [hW9]at H9 ⊢;have H9:=hd9 H9;clear hW9 x0 x1 x2 xf0 xf1 xf2 y0 y1 y2 yf0 yf1 yf2 h9H;go_wp2
          go_roundg (n-(j+1+1))
          case measure=>have:=Hn.out;omega
          case rel=>exact⟨j+1+1,by rw [Hn.out];omega,by go_num,by rw [Hn.out],by rw [HNc.out];exact H9.out⟩
         case h2k2xx1 =>
          go_simp;refine kO hK (fun _=>cE h9H ((eR _).alloc _)) (fun h9H=>?_);clear hK K;have h9H:=h9H rfl;refine cu1 (i:=3) fun K hK=>?_
          go_simp
          (with_reducible refine cM (zcc _ _ [o1.1,cv] ((zbO wc rfl Hpr.out Hur.out).ext' ((eR _).alloc _).drew) Hm1.out) ?_)
          rintro e w6 ⟨r6,rfl,hr6,hx6⟩;obtain⟨a6',m6',c6',s6',b6',n6',k6',rfl⟩:=hr6.form
          go_wp2_with fail
          refine kO hK (fun _=>cE h9H hx6) (fun h9H=>?_);clear hK K;have h9H:=h9H rfl;have D6:Ext wc w6:=((((eR wc).alloc _).alloc _).drew).trans hx6;have R2:=(((zbO _ (b:=wc.heap.size+1) (by simp) (Her.out.ext ((eR wc).alloc (I #[O pa pm pc1,Z ps,O pa2 pm2 pc2,O ua um uc,Z us,O ua2 um2 uc2] 65))) (Hur.out.ext ((eR wc).alloc _))).ext' (eR _).drew).ext' hx6);refine cu1 (i:=7) fun K hK=>?_
          go_simp
          (with_reducible refine cM (zcb _ _ [o1.2,cv] R2 Hm2.out) ?_)
          rintro e w7 ⟨r7,rfl,hr7,hx7⟩;obtain⟨a7',m7',c7',s7',b7',n7',k7',rfl⟩:=hr7.form
          go_wp2_with fail
          refine kO hK (fun _=>cE h9H hx7) (fun h9H=>?_);clear hK K;have h9H:=h9H rfl;obtain⟨_,_,_,_,_,_,_,x0,x1,x2,xf0,xf1,xf2,xz,_⟩:=((HG5.out.ext (D6.trans hx7)).2.2.2.1).rd;obtain⟨_,_,_,_,_,_,_,y0,y1,y2,yf0,yf1,yf2,yz,_⟩:=((HG5.out.ext (D6.trans hx7)).2.2.2.2.1).rd;refine cu1 (i:=8) fun K hK=>?_
          go_simp;refine kO hK (fun h=>nomatch h) (fun h9H=>?_);clear hK K;refine cu1 (i:=9) fun K hK=>?_
          go_simp;refine kO hK (fun h=>nomatch h) (fun h9H=>?_);clear hK K;refine doneHU (by kernel_rfl) ?_ _;obtain⟨W9,hW9⟩:=gX (((((((w7.setCell ⟨w.heap.size+1,0,Y⟩ (O a6' m6' c6')).setCell ⟨w.heap.size+1,1,Y⟩ (Z s6')).setCell ⟨w.heap.size+1,2,Y⟩ (O b6' n6' k6')).setCell ⟨w.heap.size+1+1,0,Y⟩ (O a7' m7' c7')).setCell ⟨w.heap.size+1+1,1,Y⟩ (Z s7')).setCell ⟨w.heap.size+1+1,2,Y⟩ (O b7' n7' k7')));have H9:=(RcW.put2 (HG5.out.ext (D6.trans hx7)) (hr6.ext hx7) hr7 rfl rfl).1;rw [hW9]at H9 ⊢;have H9:=hd9 H9;clear hW9 x0 x1 x2 xf0 xf1 xf2 y0 y1 y2 yf0 yf1 yf2 h9H;go_wp2
          go_roundg (n-(j+1+1))
          case measure=>have:=Hn.out;omega
          case rel=>exact⟨j+1+1,by rw [Hn.out];omega,by go_num,by rw [Hn.out],by rw [HNc.out];exact H9.out⟩
        case h2k1xx1 =>
         go_simp;refine kO hK (fun _=>cE h9H ((eR _).alloc _)) (fun h9H=>?_);clear hK K;have h9H:=h9H rfl;refine cu1 (i:=2) fun K hK=>?_
         go_simp;refine kO hK (fun _=>cE h9H ((eR _).alloc _)) (fun h9H=>?_);clear hK K;have h9H:=h9H rfl;have R1:=((zbO _ (b:=wc.heap.size+1) (by simp) (Hpr.out.ext ((eR wc).alloc (I #[O ea em ec,Z es,O ea2 em2 ec2,O ua um uc,Z us,O ua2 um2 uc2] 65))) (Hur.out.ext ((eR wc).alloc _))).ext' (eR _).drew);refine cu1 (i:=3) fun K hK=>?_
         go_simp
         (with_reducible refine cM (zcc _ _ [o1.1,cv] R1 Hm1.out) ?_)
         rintro e w6 ⟨r6,rfl,hr6,hx6⟩;obtain⟨a6',m6',c6',s6',b6',n6',k6',rfl⟩:=hr6.form
         go_wp2_with fail
         refine kO hK (fun _=>cE h9H hx6) (fun h9H=>?_);clear hK K;have h9H:=h9H rfl;have D6:Ext wc w6:=((((eR wc).alloc _).alloc _).drew).trans hx6;refine cu1 (i:=7) fun K hK=>?_
         go_simp
         (with_reducible refine cM (zcb _ _ [o1.2,cv] (((zbO wc rfl Her.out Hur.out).ext' ((eR _).alloc _).drew).ext' hx6) Hm2.out) ?_)
         rintro e w7 ⟨r7,rfl,hr7,hx7⟩;obtain⟨a7',m7',c7',s7',b7',n7',k7',rfl⟩:=hr7.form
         go_wp2_with fail
         refine kO hK (fun _=>cE h9H hx7) (fun h9H=>?_);clear hK K;have h9H:=h9H rfl;obtain⟨_,_,_,_,_,_,_,x0,x1,x2,xf0,xf1,xf2,xz,_⟩:=((HG5.out.ext (D6.trans hx7)).2.2.2.1).rd;obtain⟨_,_,_,_,_,_,_,y0,y1,y2,yf0,yf1,yf2,yz,_⟩:=((HG5.out.ext (D6.trans hx7)).2.2.2.2.1).rd;refine cu1 (i:=8) fun K hK=>?_
         go_simp;refine kO hK (fun h=>nomatch h) (fun h9H=>?_);clear hK K;refine cu1 (i:=9) fun K hK=>?_
         go_simp;refine kO hK (fun h=>nomatch h) (fun h9H=>?_);clear hK K;refine doneHU (by kernel_rfl) ?_ _;obtain⟨W9,hW9⟩:=gX (((((((w7.setCell ⟨w.heap.size+1,0,Y⟩ (O a6' m6' c6')).setCell ⟨w.heap.size+1,1,Y⟩ (Z s6')).setCell ⟨w.heap.size+1,2,Y⟩ (O b6' n6' k6')).setCell ⟨w.heap.size+1+1,0,Y⟩ (O a7' m7' c7')).setCell ⟨w.heap.size+1+1,1,Y⟩ (Z s7')).setCell ⟨w.heap.size+1+1,2,Y⟩ (O b7' n7' k7')));have H9:=(RcW.put2 (HG5.out.ext (D6.trans hx7)) (hr6.ext hx7) hr7 rfl rfl).1;rw [hW9]at H9 ⊢;have H9:=hd9 H9;clear hW9 x0 x1 x2 xf0 xf1 xf2 y0 y1 y2 yf0 yf1 yf2 h9H;go_wp2
         go_roundg (n-(j+1+1))
         case measure=>have:=Hn.out;omega
         case rel=>exact⟨j+1+1,by rw [Hn.out];omega,by go_num,by rw [Hn.out],by rw [HNc.out];exact H9.out⟩
      ·have hmd:decide (km<0)=false:=by simpa using hneg
       go_wp2
       go_roundg (n-(j+1+1))
       case measure=>have:=Hn.out;omega
       case rel=>exact⟨j+1+1,by rw [Hn.out];omega,by go_num,by rw [Hn.out],by rw [HNy.out,if_neg (Int.not_lt.2 hneg)];exact G3⟩
  ·obtain rfl:i=n:=by omega
   obtain⟨y1,y2,y3,g3',g4',y6⟩:=hI;have Y1:=hd9 y1;clear y1 y3 y6 H9 HT HG Hq1 hq6 hle;go_wp2;obtain⟨pa,pm,pc1,ps,pa2,pm2,pc2,p0,p1,p2,pf0,pf1,pf2,pz,hp3⟩:=g3'.rd;obtain⟨ea,em,ec,es,ea2,em2,ec2,e0,e1,e2,ef0,ef1,ef2,ez,hp4⟩:=g4'.rd;refine zaQ (fun i=>decide (2<i)) (CellL [(⟨w.heap.size+1,0,Y⟩,O pa pm pc1),(⟨w.heap.size+1,1,Y⟩,Z ps),(⟨w.heap.size+1,2,Y⟩,O pa2 pm2 pc2),(⟨w.heap.size+1+1,0,Y⟩,O ea em ec),(⟨w.heap.size+1+1,1,Y⟩,Z es),(⟨w.heap.size+1+1,2,Y⟩,O ea2 em2 ec2)]) (by kernel_rfl) ?_ (fun h9H=>?_)
   ·exact cA
   refine sN 0 ?_
   iterate 2
    refine tun ?_
   refine oN ?_;refine cu1 (i:=2) fun K hK=>?_
   go_simp;refine kO hK (fun _=>?_) (fun h9H=>?_)
   ·exact cA
   clear hK K;have h9H:=h9H rfl;refine cu1 (i:=3) fun K hK=>?_
   go_simp;refine kO hK (fun h=>nomatch h) (fun h9H=>?_);clear hK K;refine cu1 (i:=4) fun K hK=>?_
   go_simp;refine kO hK (fun h=>nomatch h) (fun h9H=>?_);clear hK K;refine doneHU (by kernel_rfl) ?_ _;go_wp2;refine bR (v:=.tuple #[.agg #[O pa pm pc1,Z ps,O pa2 pm2 pc2],.agg #[O ea em ec,Z es,O ea2 em2 ec2],Z true]) (by simp [results,Tryz.results108,go_sem,p0,p1,p2,pf0,pf1,pf2,e0,e1,e2,ef0,ef1,ef2]) rfl ?_;rw [←HR.out];obtain⟨P1,P2,P3,P4,P5,P6⟩:=RB.copy2 g3' g4' (by omega) hp3 hp4 rfl rfl;refine⟨(P6 w Y1.out (by omega) (by omega)).drew,.agg #[O pa pm pc1,Z ps,O pa2 pm2 pc2],.agg #[O ea em ec,Z es,O ea2 em2 ec2],?_,?_,rfl⟩
   ·exact(hp3.keep P4).ext (eR _).drew
   ·exact(hp4.keep P4).ext (eR _).drew
end
end Go.Proofs.YtodpfeaihohpjaaGreatDoor.Cop
