/- Part 30 of 41: contracts of what the law calls. -/
import Derived.Test.YtobbionccnkmgaaGreatDoorCopA28
set_option maxRecDepth 1000000
set_option maxHeartbeats 16000000
set_option linter.unusedSimpArgs false
set_option linter.unusedVariables false
namespace Go.Proofs.YtobbionccnkmgaaGreatDoor.Cop
open Go.RowKit Go.Shelf
attribute [local go_sem] Oper.semAt_some
def RetRc (w:World) (o:Option (Rat×Rat)) (e:Ending) (w':World):Prop:=Ext w w'∧∃r1 r2,IsR w' r1 (o.getD (0,0)).1∧IsR w' r2 (o.getD (0,0)).2∧e = .returned (.tuple #[r1,r2,.bool o.isSome])
theorem pin_rb {k:Nat} {pin:Int} (h:Bd 104000 pin) (hk:1≤k):Rb k (pin:Rat):=(rb_int h).up hk
theorem reach_no (w:World) (v1 v2:Value) (s:Sp) (pin:Int) (h1:IsPts w v1 s.over) (h2:IsPts w v2 s.under) (hok:SpOk s) (hp:Bd 104000 pin) (hno:reachNo s pin=true) :
  Calls Tryz.prog 107 #[spc s v1 v2,.int .i64 pin] w (RetRc w (reachP s pin)):=by
 have HS:=hd9 (fun(W:World) (hW:Ext w W)=>sleast_any W v1 v2 s (h1.ext' hW) (h2.ext' hW) hok);obtain⟨a1,m1,rfl⟩:=h1.form;obtain⟨a2,m2,rfl⟩:=h2.form;obtain⟨n1,f1⟩:∃x,s.over.length=x:=⟨_,rfl⟩;obtain⟨n2,f2⟩:∃x,s.under.length=x:=⟨_,rfl⟩;obtain⟨lo,elo⟩:∃x,s.lo=x:=⟨_,rfl⟩;obtain⟨hi,ehi⟩:∃x,s.hi=x:=⟨_,rfl⟩;have Hb2:=hd9 (show Rb 23 (leastR s).2 by obtain⟨j1,j2⟩:=bestR_mem (gapR s) (stops_ne s);unfold leastR;rw [j2];exact Rb.gap (stopsR_bd hok _ j1) hok);have Hp:=hd9 hp;have hp1 : -9223372036854775808≤pin:=by unfold Bd at hp;omega
 have hp2:pin≤9223372036854775807:=by unfold Bd at hp;omega
 have HC:=hd9 (fun(W:World) (va vb:Value) (ha:IsR W va (leastR s).2) (hb:IsR W vb (pin:Rat))=>rcmp_any W va vb _ _ ha hb (lim_of Hb2.out (by omega)) (lim_of (pin_rb (k:=1) Hp.out (by omega)) (by omega)));have hR:reachP s pin=none:=by unfold reachP;rw [if_pos hno]
 rw [hR];unfold reachNo at hno;obtain⟨q1,hq1⟩:∃q,(leastR s).1=q:=⟨_,rfl⟩;obtain⟨q2,hq2⟩:∃q,(leastR s).2=q:=⟨_,rfl⟩;unfold spc at HS ⊢;rw [hq2]at hno HC Hb2;rw [hq1,hq2]at HS;simp only [f1,f2,elo,ehi]at HS ⊢;clear h1 h2 hok f1 f2 elo ehi hR hq1 hq2 hp;go_enter Tryz.func107,Tryz.ntmps107
 go_wp2_with(((go_at_call 116;(with_reducible refine(HS.out _ ?_).mono ?_);(focus((with_reducible repeat(first|assumption|exact eR _|refine eX ?_|refine eT ?_|refine eS ?_));done));rintro e w1 ⟨r1,r2,rfl,hr1,hr2,hx1⟩;obtain⟨a4,m4,c4,s4,b4,n4,k4,rfl⟩:=hr1.form;obtain⟨a5,m5,c5,s5,b5,n5,k5,rfl⟩:=hr2.form;obtain⟨hc1,hf1⟩:=hx1.cells;(try simp only [qcD,qfD,qdZ]at hc1 hf1);have z1_0:=hx1.lt (n:=w.heap.size) (by go_simp);have z1_1:=hx1.lt (n:=w.heap.size+1) (by go_simp);have z1_2:=hx1.lt (n:=w.heap.size+1+1) (by go_simp))))
 obtain⟨W8,hW8⟩:∃W,((w1.alloc (.cells #[.slice a4 m4 c4,.bool s4,.slice b4 n4 k4] 122)).alloc (.cells #[.slice a5 m5 c5,.bool s5,.slice b5 n5 k5] 122))=W:=⟨_,rfl⟩;have hX18:Ext w1 W8:=by rw [←hW8];exact((Ext.refl _).alloc _).alloc _
 have hX8:Ext w W8:=(((((Ext.refl w).alloc _).alloc _).alloc _).trans hx1).trans hX18;have g1:RB W8 w1.heap.size q1:=by rw [←hW8];exact(RB.new hr1 rfl).ext ((Ext.refl _).alloc _)
 have g2:RB W8 (w1.heap.size+1) q2:=by rw [←hW8];exact RB.new (hr2.ext ((Ext.refl _).alloc _)) (by simp)
 have g3:RB W8 (w.heap.size+1) 0:=(((RB.new (IsR.zero _) (by simp)).ext ((Ext.refl _).alloc _)).ext hx1).ext hX18;have g4:RB W8 (w.heap.size+1+1) 0:=((RB.new (IsR.zero _) (by simp)).ext hx1).ext hX18;have zW:w1.heap.size+1<W8.heap.size:=by rw [←hW8];simp
 have g20:=qcB (show W8.heap[w1.heap.size+1]?=some (.cells #[.slice a5 m5 c5,.bool s5,.slice b5 n5 k5] 122 (0,0)) by rw [←hW8];exact qhA _ _ _ (by simp)) (i:=0) (u:=.slice a5 m5 c5) rfl;have g21:=qcB (show W8.heap[w1.heap.size+1]?=some (.cells #[.slice a5 m5 c5,.bool s5,.slice b5 n5 k5] 122 (0,0)) by rw [←hW8];exact qhA _ _ _ (by simp)) (i:=1) (u:=.bool s5) rfl;have g22:=qcB (show W8.heap[w1.heap.size+1]?=some (.cells #[.slice a5 m5 c5,.bool s5,.slice b5 n5 k5] 122 (0,0)) by rw [←hW8];exact qhA _ _ _ (by simp)) (i:=2) (u:=.slice b5 n5 k5) rfl;have HX:=hd9 hX18;have HX8:=hd9 hX8;rw [hW8];obtain⟨s1,hs1⟩:∃x,w1.heap.size=x:=⟨_,rfl⟩;simp only [hs1]at *;clear hW8 hc1 hf1 hx1 hX18 hX8 HS hs1;obtain⟨k,hk⟩:∃k,q2.num.sign=k:=⟨_,rfl⟩;have HSg:=hd9 (fun(W:World) (v:Value) (h:IsR W v q2)=>hk▸rsign_any W v q2 h);rw [hk]at hno;clear hk
 by_cases hneg:k<0
 ·have hd:decide (k<0)=true:=by simp [hneg]
  refine wp_region_held_drew (S:=CellL [(⟨s1+1,0,none⟩,.slice a5 m5 c5),(⟨s1+1,1,none⟩,.bool s5),(⟨s1+1,2,none⟩,.slice b5 n5 k5)]) (by kernel_rfl) (by refine⟨?_,?_,?_,trivial⟩<;>go_simp) (fun hHeld=>?_);refine take1 (i:=0) (by simp only [gA,gS,gZ];rfl) ?_;refine⟨?_,by kernel_rfl,by kernel_rfl,by kernel_rfl,fun _ _ _ h=>h,Or.inl ⟨by rfl,?_⟩,by(with_reducible assumption),?_⟩;rotate_left 1
  ·(intro w hSw;simp only [CellL,and_true]at hSw;go_simp;try(with_reducible rfl))
  (try simp only [Act.put,sA,sZ,sS])
  refine call1 (i:=1) (by simp only [gA,gS,gZ];rfl) ?_;refine⟨by kernel_rfl,fun K hK=>?_⟩;go_simp
  (with_reducible refine Calls.mono (HSg.out _ _ (hr2.ext (Ext.trans HX.out (by with_reducible repeat(first|assumption|exact eR _|refine eX ?_|refine eT ?_|refine eS ?_))))) ?_)
  rintro e w3 ⟨rfl,hx3⟩
  skip
  go_wp2_with fail
  refine hK.out _ _ (CellL.ext hHeld hx3) (fun hHeld=>?_);clear hK K
  (try simp only [Act.put,sA,sZ,sS])
  refine sN 2 ?_
  iterate 2
   refine tkn (by simp only [gA,gS,gZ];rfl) ?_;refine⟨?_,by kernel_rfl,by kernel_rfl,by kernel_rfl,fun _ _ _ h=>h,Or.inl ⟨by rfl,?_⟩,by(with_reducible assumption),?_⟩;rotate_left 1
   ·(intro w hSw;simp only [CellL,and_true]at hSw;go_simp;try(with_reducible rfl))
   (try simp only [Act.put,sA,sZ,sS,Nat.reduceAdd])
  iterate 5
   refine tkn (by simp only [gA,gS,gZ];rfl) ?_;refine⟨_,by kernel_rfl,by kernel_rfl,by kernel_rfl,fun _ _ _ h=>h,Or.inr ⟨by rfl,rfl⟩,by(with_reducible assumption),?_⟩
   (try simp only [Act.put,sA,sZ,sS,Nat.reduceAdd])
  refine tkn (by simp only [gA,gS,gZ];rfl) ?_;refine⟨?_,by kernel_rfl,by kernel_rfl,by kernel_rfl,fun _ _ _ h=>h,Or.inl ⟨by rfl,?_⟩,by(with_reducible assumption),?_⟩;rotate_left 1
  ·(intro w hSw;simp only [CellL,and_true]at hSw;go_simp;try(with_reducible rfl))
  (try simp only [Act.put,sA,sZ,sS,Nat.reduceAdd])
  refine oN ?_;refine wpAnyH_done (by kernel_rfl) ?_ _;go_wp2;have X3:Ext W8 w3:=((Ext.refl W8).drew).trans hx3;have g3':=g3.ext X3;have g4':=g4.ext X3;obtain⟨pa,pm,pc1,ps,pa2,pm2,pc2,p0,p1,p2,pf0,pf1,pf2,pz,hp3⟩:=g3'.rd;obtain⟨ea,em,ec,es,ea2,em2,ec2,e0,e1,e2,ef0,ef1,ef2,ez,hp4⟩:=g4'.rd;refine wp_region_HU (fun i=>decide (2<i)) (CellL [(⟨w.heap.size+1,0,none⟩,.slice pa pm pc1),(⟨w.heap.size+1,1,none⟩,.bool ps),(⟨w.heap.size+1,2,none⟩,.slice pa2 pm2 pc2),(⟨w.heap.size+1+1,0,none⟩,.slice ea em ec),(⟨w.heap.size+1+1,1,none⟩,.bool es),(⟨w.heap.size+1+1,2,none⟩,.slice ea2 em2 ec2)]) (by kernel_rfl) ?_ (fun hHeld=>?_)
  ·refine⟨?_,?_,?_,?_,?_,?_,trivial⟩<;>go_simp
  refine sN 0 ?_
  iterate 2
   refine tun (m:=12) (by kernel_rfl) (by simp only [gA,gS,gZ];rfl) ?_;refine⟨?_,by rfl,by kernel_rfl,by kernel_rfl,by kernel_rfl,fun _ _ _ h=>h,Or.inl ⟨by rfl,?_⟩,by(with_reducible assumption),?_⟩;rotate_left 1
   ·(intro w hSw;simp only [CellL,and_true]at hSw;go_simp;try(with_reducible rfl))
   (try simp only [Act.put,sA,sZ,sS,Nat.reduceAdd])
  refine oN ?_;refine callHU (i:=2) (by simp only [gA,gS,gZ];rfl) ?_;refine⟨by kernel_rfl,fun K hK=>?_⟩;go_simp;refine hK.out _ _ (fun _=>?_) (fun hHeld=>?_)
  ·refine⟨?_,?_,?_,?_,?_,?_,trivial⟩<;>go_simp
  clear hK K
  (try simp only [Act.put,sA,sZ,sS])
  have hHeld:=hHeld rfl;refine callHU (i:=3) (by simp only [gA,gS,gZ];rfl) ?_;refine⟨by kernel_rfl,fun K hK=>?_⟩;go_simp;refine hK.out _ _ (fun h=>nomatch h) (fun hHeld=>?_);clear hK K
  (try simp only [Act.put,sA,sZ,sS])
  refine callHU (i:=4) (by simp only [gA,gS,gZ];rfl) ?_;refine⟨by kernel_rfl,fun K hK=>?_⟩;go_simp;refine hK.out _ _ (fun h=>nomatch h) (fun hHeld=>?_);clear hK K
  (try simp only [Act.put,sA,sZ,sS])
  refine doneHU (by kernel_rfl) ?_ _;go_wp2;refine bodyPost_ret (v:=.tuple #[.agg #[.slice pa pm pc1,.bool ps,.slice pa2 pm2 pc2],.agg #[.slice ea em ec,.bool es,.slice ea2 em2 ec2],.bool false]) (by simp [results,Tryz.results107,go_sem,p0,p1,p2,pf0,pf1,pf2,e0,e1,e2,ef0,ef1,ef2]) rfl ?_;obtain⟨P1,P2,P3,P4,P5,P6⟩:=RB.copy2 g3' g4' (by omega) hp3 hp4 rfl rfl;refine⟨(P6 w (HX8.out.trans X3) (by omega) (by omega)).drew,.agg #[.slice pa pm pc1,.bool ps,.slice pa2 pm2 pc2],.agg #[.slice ea em ec,.bool es,.slice ea2 em2 ec2],?_,?_,rfl⟩
  ·exact(hp3.keep P4).ext (Ext.refl _).drew
  ·exact(hp4.keep P4).ext (Ext.refl _).drew
 ·have hd:decide (k<0)=false:=by simp [hneg]
  rw [hd,Bool.false_or]at hno;obtain⟨c,hc⟩:∃c,rcmp q2 (pin:Rat)=c:=⟨_,rfl⟩;rw [hc]at hno HC;clear hc;have hc0:0<c:=by simpa using hno
  refine wp_region_held_drew (S:=CellL [(⟨s1+1,0,none⟩,.slice a5 m5 c5),(⟨s1+1,1,none⟩,.bool s5),(⟨s1+1,2,none⟩,.slice b5 n5 k5)]) (by kernel_rfl) (by refine⟨?_,?_,?_,trivial⟩<;>go_simp) (fun hHeld=>?_);have E0:Ext w1 W8.drew:=HX.out.trans (Ext.refl W8).drew;refine take1 (i:=0) (by simp only [gA,gS,gZ];rfl) ?_;refine⟨?_,by kernel_rfl,by kernel_rfl,by kernel_rfl,fun _ _ _ h=>h,Or.inl ⟨by rfl,?_⟩,by(with_reducible assumption),?_⟩;rotate_left 1
  ·(intro w hSw;simp only [CellL,and_true]at hSw;go_simp;try(with_reducible rfl))
  (try simp only [Act.put,sA,sZ,sS])
  refine call1 (i:=1) (by simp only [gA,gS,gZ];rfl) ?_;refine⟨by kernel_rfl,fun K hK=>?_⟩;go_simp
  (with_reducible refine Calls.mono (HSg.out _ _ (hr2.ext E0)) ?_)
  rintro e w3 ⟨rfl,hx3⟩
  skip
  go_wp2_with fail
  refine hK.out _ _ (CellL.ext hHeld hx3) (fun hHeld=>?_);clear hK K
  (try simp only [Act.put,sA,sZ,sS])
  refine sN 2 ?_
  iterate 4
   refine tkn (by simp only [gA,gS,gZ];rfl) ?_;refine⟨?_,by kernel_rfl,by kernel_rfl,by kernel_rfl,fun _ _ _ h=>h,Or.inl ⟨by rfl,?_⟩,by(with_reducible assumption),?_⟩;rotate_left 1
   ·(intro w hSw;simp only [CellL,and_true]at hSw;go_simp;try(with_reducible rfl))
   (try simp only [Act.put,sA,sZ,sS,Nat.reduceAdd])
  refine oN ?_;refine call1 (i:=6) (by simp only [gA,gS,gZ];rfl) ?_;refine⟨by kernel_rfl,fun K hK=>?_⟩;go_simp
  (with_reducible refine Calls.mono (pof_any _ pin hp1 hp2) ?_)
  rintro e w4 ⟨r4,rfl,hr4,hx4⟩;obtain⟨a6,m6,c6,s6,b6,n6,k6,rfl⟩:=hr4.form
  go_wp2_with fail
  refine hK.out _ _ (CellL.ext hHeld hx4) (fun hHeld=>?_);clear hK K
  (try simp only [Act.put,sA,sZ,sS])
  refine call1 (i:=7) (by simp only [gA,gS,gZ];rfl) ?_;refine⟨by kernel_rfl,fun K hK=>?_⟩;go_simp
  (with_reducible refine Calls.mono (HC.out _ _ _ (hr2.ext (E0.trans (hx3.trans hx4))) hr4) ?_)
  rintro e w5 ⟨rfl,hx5⟩
  skip
  go_wp2_with fail
  refine hK.out _ _ (CellL.ext hHeld hx5) (fun hHeld=>?_);clear hK K
  (try simp only [Act.put,sA,sZ,sS])
  refine sN 8 ?_
  iterate 2
   refine tkn (by simp only [gA,gS,gZ];rfl) ?_;refine⟨?_,by kernel_rfl,by kernel_rfl,by kernel_rfl,fun _ _ _ h=>h,Or.inl ⟨by rfl,?_⟩,by(with_reducible assumption),?_⟩;rotate_left 1
   ·(intro w hSw;simp only [CellL,and_true]at hSw;go_simp;try(with_reducible rfl))
   (try simp only [Act.put,sA,sZ,sS,Nat.reduceAdd])
  refine oN ?_;refine wpAnyH_done (by kernel_rfl) ?_ _;have X3:Ext W8 w5:=((Ext.refl W8).drew).trans (hx3.trans (hx4.trans hx5));have g3':=g3.ext X3;have g4':=g4.ext X3;go_wp2;obtain⟨pa,pm,pc1,ps,pa2,pm2,pc2,p0,p1,p2,pf0,pf1,pf2,pz,hp3⟩:=g3'.rd;obtain⟨ea,em,ec,es,ea2,em2,ec2,e0,e1,e2,ef0,ef1,ef2,ez,hp4⟩:=g4'.rd;refine wp_region_HU (fun i=>decide (2<i)) (CellL [(⟨w.heap.size+1,0,none⟩,.slice pa pm pc1),(⟨w.heap.size+1,1,none⟩,.bool ps),(⟨w.heap.size+1,2,none⟩,.slice pa2 pm2 pc2),(⟨w.heap.size+1+1,0,none⟩,.slice ea em ec),(⟨w.heap.size+1+1,1,none⟩,.bool es),(⟨w.heap.size+1+1,2,none⟩,.slice ea2 em2 ec2)]) (by kernel_rfl) ?_ (fun hHeld=>?_)
  ·refine⟨?_,?_,?_,?_,?_,?_,trivial⟩<;>go_simp
  refine sN 0 ?_
  iterate 2
   refine tun (m:=12) (by kernel_rfl) (by simp only [gA,gS,gZ];rfl) ?_;refine⟨?_,by rfl,by kernel_rfl,by kernel_rfl,by kernel_rfl,fun _ _ _ h=>h,Or.inl ⟨by rfl,?_⟩,by(with_reducible assumption),?_⟩;rotate_left 1
   ·(intro w hSw;simp only [CellL,and_true]at hSw;go_simp;try(with_reducible rfl))
   (try simp only [Act.put,sA,sZ,sS,Nat.reduceAdd])
  refine oN ?_;refine callHU (i:=2) (by simp only [gA,gS,gZ];rfl) ?_;refine⟨by kernel_rfl,fun K hK=>?_⟩;go_simp;refine hK.out _ _ (fun _=>?_) (fun hHeld=>?_)
  ·refine⟨?_,?_,?_,?_,?_,?_,trivial⟩<;>go_simp
  clear hK K
  (try simp only [Act.put,sA,sZ,sS])
  have hHeld:=hHeld rfl;refine callHU (i:=3) (by simp only [gA,gS,gZ];rfl) ?_;refine⟨by kernel_rfl,fun K hK=>?_⟩;go_simp;refine hK.out _ _ (fun h=>nomatch h) (fun hHeld=>?_);clear hK K
  (try simp only [Act.put,sA,sZ,sS])
  refine callHU (i:=4) (by simp only [gA,gS,gZ];rfl) ?_;refine⟨by kernel_rfl,fun K hK=>?_⟩;go_simp;refine hK.out _ _ (fun h=>nomatch h) (fun hHeld=>?_);clear hK K
  (try simp only [Act.put,sA,sZ,sS])
  refine doneHU (by kernel_rfl) ?_ _;go_wp2;refine bodyPost_ret (v:=.tuple #[.agg #[.slice pa pm pc1,.bool ps,.slice pa2 pm2 pc2],.agg #[.slice ea em ec,.bool es,.slice ea2 em2 ec2],.bool false]) (by simp [results,Tryz.results107,go_sem,p0,p1,p2,pf0,pf1,pf2,e0,e1,e2,ef0,ef1,ef2]) rfl ?_;obtain⟨P1,P2,P3,P4,P5,P6⟩:=RB.copy2 g3' g4' (by omega) hp3 hp4 rfl rfl;refine⟨(P6 w (HX8.out.trans X3) (by omega) (by omega)).drew,.agg #[.slice pa pm pc1,.bool ps,.slice pa2 pm2 pc2],.agg #[.slice ea em ec,.bool es,.slice ea2 em2 ec2],?_,?_,rfl⟩
  ·exact(hp3.keep P4).ext (Ext.refl _).drew
  ·exact(hp4.keep P4).ext (Ext.refl _).drew
end Go.Proofs.YtobbionccnkmgaaGreatDoor.Cop
namespace Go.Proofs.YtobbionccnkmgaaGreatDoor.Cop
open Go.RowKit Go.Shelf Go.Sort
theorem pdq_pairs {β:Type} [Inhabited β] {lt:β→β→Bool} (hO:SWO lt) (d:Array β) (l:Nat):(pdq lt d 0 d.size l true true).toList.Pairwise fun x y=>lt y x=false:=by
 obtain⟨⟨h1,_,_⟩,h2⟩:=pdq_sorts lt hO d 0 d.size l true true (Nat.zero_le _) (Nat.le_refl _) (Or.inl rfl);rw [List.pairwise_iff_getElem];intro i j hi hj hij;simp at hi hj;have h9:=h2 i j (Nat.zero_le _) hij (by omega);rw [getElem!_pos _ i hi,getElem!_pos _ j hj]at h9
 simpa using h9
theorem sortX_pairs {ps:List (Int×Int)} (h:∀x∈ps,BP x):(sortX ps).Pairwise fun x y=>x.1≤y.1:=by
 unfold sortX sortBy;rw [dif_pos h];rw [List.pairwise_map];have h3:=@pdq_pairs {x // BP x} ⟨BP0⟩ _ swoX (ps.attachWith BP h).toArray (Lib.bitLen ps.length);rw [show (ps.attachWith BP h).toArray.size=ps.length by simp]at h3;refine h3.imp fun {x y} hxy=>?_
 rw [ltX]at hxy
 simpa using hxy
theorem compactP_head {α:Type} [DecidableEq α]:∀(a:α) (r:List α),∃t,compactP (a::r)=a::t
 | a,[]=>⟨[],rfl⟩
 | a,b::r=>by
  by_cases h:a=b
  ·obtain⟨t,e⟩:=compactP_head b r
   exact⟨t,by rw [compactP,if_pos h,e,h]⟩
  ·exact⟨compactP (b::r),by rw [compactP,if_neg h]⟩
theorem LnUp.cons {a b:Int×Int} {r:List (Int×Int)} (h1:a.1≤b.1) (h2:a≠b) (h:LnUp (b::r)):LnUp (a::b::r):=by
 intro e he;unfold eds at he
 rcases List.mem_cons.1 he with rfl|he
 ·exact⟨h1,h2⟩
 ·exact h e he
theorem compactP_up:∀(l:List (Int×Int)),l.Pairwise (fun x y=>x.1≤y.1)→LnUp (compactP l)
 | [],_=>by intro e he;simp [compactP,eds]at he
 | [a],_=>by intro e he;simp [compactP,eds]at he
 | a::b::r,h=>by
  have h':=compactP_up (b::r) (List.pairwise_cons.1 h).2
  by_cases hab:a=b
  ·rw [compactP,if_pos hab];exact h'
  ·rw [compactP,if_neg hab]
   obtain⟨t,e⟩:=compactP_head b r;rw [e]at h' ⊢;exact LnUp.cons ((List.pairwise_cons.1 h).1 b List.mem_cons_self) hab h'
theorem lineOf_up {k:Int} {raw:List (Int×Int)} (hb:PBd k raw) (hk:k≤1000000):LnUp (lineOf raw):=
 compactP_up _ (sortX_pairs fun x hx=>by
  have:=hb x hx;unfold BP;exact⟨this.1.mono hk,this.2.mono hk⟩)
theorem upP2_up {p:Pl} (h:placedOk p=true):LnUp (upP2 p):=by
 obtain⟨hb,h3,h12⟩:=cornersP_bd h;have hr:=raw_bd hb (Nat.le_refl _);exact lineOf_up hr.2 (by decide)
theorem ground_up {g:List (Int×Int)} (h:groundB g=true):LnUp g:=by
 unfold groundB at h;simp only [Bool.and_eq_true,List.all_eq_true,List.mem_range]at h;intro e he;unfold eds at he;obtain⟨i,hi,rfl⟩:=List.getElem_of_mem he;have hl:i+1<g.length:=by rw [List.length_zip,List.length_tail]at hi;omega
 have h2:=h.2 (i+1) hl;unfold grdR at h2;simp only [Bool.and_eq_true,Bool.or_eq_true,decide_eq_true_eq,beq_iff_eq,Nat.add_one_ne_zero,false_or,Nat.add_sub_cancel]at h2;have h3:=h2.2.2;rw [List.getD_eq_getElem?_getD,List.getD_eq_getElem?_getD,List.getElem?_eq_getElem (by omega),List.getElem?_eq_getElem hl]at h3;simp only [Option.getD_some]at h3;have e1:(g.zip g.tail)[i]'hi=(g[i]'(by omega),g[i+1]'hl):=by simp
 rw [e1];exact⟨by dsimp only;omega,fun e=>by dsimp only at e;rw [e]at h3;omega⟩
def NoX (f:Rat→Rat) (qs:List Rat):Prop:=∀(i:Nat) y x,qs[i]?=some y→qs[i+1]?=some x→¬(f x).num.sign*(f y).num.sign<0
theorem bestR_le (f:Rat→Rat) {xs:List Rat}:∀x∈xs,(bestR f xs).2≤f x:=by
 have key:∀(ys:List Rat) (a:Rat×Rat),(ys.foldl (bestStep f) a).2≤a.2∧∀x∈ys,(ys.foldl (bestStep f) a).2≤f x:=by
  intro ys
  induction ys with
  | nil=>intro a;exact⟨Rat.le_refl,fun x hx=>by simp at hx⟩
  | cons y ys ih =>
   intro a;obtain⟨h1,h2⟩:=ih (bestStep f a y)
   have h3:(bestStep f a y).2≤a.2∧(bestStep f a y).2≤f y:=by
    unfold bestStep
    split
    ·rename_i h
     rw [rcmp_lt]at h;exact⟨Rat.le_of_lt h,Rat.le_refl⟩
    ·rename_i h
     rw [rcmp_lt]at h;exact⟨Rat.le_refl,Rat.not_lt.1 h⟩
   refine⟨Rat.le_trans h1 h3.1,fun x hx=>?_⟩
   rcases List.mem_cons.1 hx with rfl|hx
   ·exact Rat.le_trans h1 h3.2
   ·exact h2 x hx
 cases xs with
 | nil=>intro x hx;simp at hx
 | cons y ys =>
  intro x hx;obtain⟨h1,h2⟩:=key ys (y,f y)
  rcases List.mem_cons.1 hx with rfl|hx
  ·exact h1
  ·exact h2 x hx
theorem sign_nonneg {q:Rat} (h:0≤q):0≤q.num.sign:=by
 have:=Rat.num_nonneg.2 h
 rcases Int.lt_or_eq_of_le this with h1|h1
 ·rw [Int.sign_eq_one_of_pos h1];decide
 ·rw [←h1];decide
theorem noX_zero {s:Sp} (h:reachNo s 0=false):NoX (pinG s 0) (stopsR s):=by
 unfold reachNo at h;simp only [Bool.or_eq_false_iff,decide_eq_false_iff_not]at h
 have h0:0≤(leastR s).2:=by
  refine Rat.not_lt.1 fun hlt=>h.1 ?_
  refine Int.sign_neg_iff.2 (Int.not_le.1 fun h9=>?_);exact absurd hlt (Rat.not_lt.2 (Rat.num_nonneg.1 h9))
 have hall:∀x∈stopsR s,0≤(pinG s 0 x).num.sign:=fun x hx=>by
  refine sign_nonneg ?_;have h1:(leastR s).2≤gapR s x:=bestR_le (gapR s) x hx;have e:pinG s 0 x=gapR s x:=by unfold pinG;simp [Rat.sub_eq_add_neg,Rat.add_zero]
  rw [e];exact Rat.le_trans h0 h1
 intro i y x hy hx;have a1:=hall y (lM hy);have a2:=hall x (lM hx);have:=Int.mul_nonneg a2 a1;omega
end Go.Proofs.YtobbionccnkmgaaGreatDoor.Cop
