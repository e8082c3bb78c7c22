/- Part 19 of 44: contracts of what the law calls. -/
import Derived.Test.YteipgejmhfpkaaaGreatDoorCopA17
set_option maxRecDepth 1000000
set_option maxHeartbeats 16000000
set_option linter.unusedSimpArgs false
set_option linter.unusedVariables false
namespace Go.Proofs.YteipgejmhfpkaaaGreatDoor.Cop
open Go.RowKit Go.Shelf Go.Sort Go.Lib
theorem Rb.gap {s:Sp} {x:Rat} (hx:Rb 1 x) (h:SpOk s):Rb 23 (gapR s x):=by
 unfold gapR;exact Rb.sub (k:=11) (hx.atR h.1) (hx.atR h.2.1)
theorem lim_of {k:Nat} {q:Rat} (h:Rb k q) (hk:k≤1000000):Rb limR q:=h.mono hk
theorem gap_ok (w:World) (s:Sp) (v1 v2 vx:Value) (x:Rat) (h1:IsPts w v1 s.over) (h2:IsPts w v2 s.under) (hok:SpOk s) (hx:IsR w vx x) (hb:Rb 1 x) :
  Calls Tryz.prog 107 #[spc s v1 v2,vx] w (RetR w (gapR s x)):=
 gap_any w s v1 v2 vx x h1 h2 hok.1 hok.2.1 hx (hb.mono (by omega)) (lim_of (hb.atR hok.1) (by omega)) (lim_of (hb.atR hok.2.1) (by omega))
theorem stopsR_bd {s:Sp} (h:SpOk s):∀q∈stopsR s,Rb 1 q:=by
 intro q hq;obtain⟨z,hz,rfl⟩:=List.mem_map.1 hq;exact rb_int (stopsZ_bd h z hz)
def bestStep (f:Rat→Rat) (o:Rat×Rat) (x:Rat):Rat×Rat:=if rcmp (f x) o.2<0 then (x,f x)else o
def bestR (f:Rat→Rat):List Rat→Rat×Rat
 | []=>(0,0)
 | x::xs=>xs.foldl (bestStep f) (x,f x)
theorem bestR_snoc (f:Rat→Rat) (xs:List Rat) (x:Rat) (h:xs≠[]):bestR f (xs++[x])=bestStep f (bestR f xs) x:=by
 cases xs with
 | nil=>exact absurd rfl h
 | cons y ys=>simp [bestR]
theorem bestR_mem (f:Rat→Rat) {xs:List Rat} (h:xs≠[]):(bestR f xs).1∈xs∧(bestR f xs).2=f (bestR f xs).1:=by
 cases xs with
 | nil=>exact absurd rfl h
 | cons x xs =>
  have:∀(ys:List Rat) (a:Rat×Rat),a.2=f a.1→(ys.foldl (bestStep f) a).2=f (ys.foldl (bestStep f) a).1∧((ys.foldl (bestStep f) a).1=a.1∨(ys.foldl (bestStep f) a).1∈ys):=by
   intro ys
   induction ys with
   | nil=>intro a h;exact⟨h,.inl rfl⟩
   | cons y ys ih =>
    intro a ha;rw [List.foldl_cons];have hs:(bestStep f a y).2=f (bestStep f a y).1:=by unfold bestStep;split<;>first|rfl|exact ha
    obtain⟨i1,i2⟩:=ih _ hs;refine⟨i1,?_⟩
    rcases i2 with e|e
    ·rw [e]
     unfold bestStep
     split
     ·exact .inr (by simp)
     ·exact .inl rfl
    ·exact .inr (List.mem_cons_of_mem _ e)
  obtain⟨i1,i2⟩:=this xs (x,f x) rfl;refine⟨?_,i1⟩
  rcases i2 with e|e
  ·show (xs.foldl (bestStep f) (x,f x)).1∈_;rw [e];simp
  ·exact List.mem_cons_of_mem _ e
def RetR2 (w:World) (p q:Rat) (e:Ending) (w':World):Prop:=∃r s,e = .returned (.tuple #[r,s])∧IsR w' r p∧IsR w' s q∧Ext w w'
theorem CellL.set3d {L:List (Addr×Value)} {W:World} {b:Nat} (h:CellL L W.drew) (hn:∀q∈L,b≠q.1.block) (u v t:Value):CellL L (((W.setCell ⟨b,0,none⟩ u).setCell ⟨b,1,none⟩ v).setCell ⟨b,2,none⟩ t).drew:=
 CellL.set3 h hn u v t
theorem RB.put3 {W W':World} {d:Nat} {p p':Rat} {a a2:Option Addr} {m c m2 c2:Nat} {s:Bool} (h:RB W d p') (hz:IsR W (.agg #[.slice a m c,.bool s,.slice a2 m2 c2]) p)
  (hW:((W.setCell ⟨d,0,none⟩ (.slice a m c)).setCell ⟨d,1,none⟩ (.bool s)).setCell ⟨d,2,none⟩ (.slice a2 m2 c2)=W'):RB W' d p∧(∀b r,b≠d→RB W b r→RB W' b r)∧KeepT 2 W W'∧W'.heap.size=W.heap.size∧(∀w:World,Ext w W→w.heap.size≤d→Ext w W'):=by
 have n1:=h.not;have h2:=h.put hz;rw [hW]at h2;refine⟨h2,fun b r hb k=>?_,?_,?_,fun w k hd=>?_⟩
 ·have k1:=k.other (p:=⟨d,0,none⟩) (Ne.symm hb) n1 (.slice a m c)
  have k2:=k1.other (p:=⟨d,1,none⟩) (Ne.symm hb) (n1.set _ _) (.bool s);have k3:=k2.other (p:=⟨d,2,none⟩) (Ne.symm hb) ((n1.set _ _).set _ _) (.slice a2 m2 c2);rw [hW]at k3;exact k3
 ·have k1:=(KeepT.refl 2 W).setN (p:=⟨d,0,none⟩) n1 (.slice a m c)
  have k2:=k1.setN (p:=⟨d,1,none⟩) (n1.set _ _) (.bool s);have k3:=k2.setN (p:=⟨d,2,none⟩) ((n1.set _ _).set _ _) (.slice a2 m2 c2);rw [hW]at k3;exact k3
 ·rw [←hW];simp
 ·rw [←hW];exact((k.set hd _).set hd _).set hd _
theorem RB.copy2 {W W1 W2:World} {d1 d2:Nat} {p q p' q':Rat} {a a2 e e2:Option Addr} {m c m2 c2 n k n2 k2:Nat} {s t:Bool} (h1:RB W d1 p') (h2:RB W d2 q') (hne:d1≠d2)
  (hz1:IsR W (.agg #[.slice a m c,.bool s,.slice a2 m2 c2]) p) (hz2:IsR W (.agg #[.slice e n k,.bool t,.slice e2 n2 k2]) q)
  (hW1:((W.setCell ⟨d1,0,none⟩ (.slice a m c)).setCell ⟨d1,1,none⟩ (.bool s)).setCell ⟨d1,2,none⟩ (.slice a2 m2 c2)=W1)
  (hW2:((W1.setCell ⟨d2,0,none⟩ (.slice e n k)).setCell ⟨d2,1,none⟩ (.bool t)).setCell ⟨d2,2,none⟩ (.slice e2 n2 k2)=W2) :
  RB W2 d1 p∧RB W2 d2 q∧(∀b r,b≠d1→b≠d2→RB W b r→RB W2 b r)∧KeepT 2 W W2∧W2.heap.size=W.heap.size∧(∀w:World,Ext w W→w.heap.size≤d1→w.heap.size≤d2→Ext w W2):=by
 obtain⟨a1,a2,a3,a4,a5⟩:=h1.put3 hz1 hW1;obtain⟨b1,b2,b3,b4,b5⟩:=(a2 _ _ (Ne.symm hne) h2).put3 (hz2.keep a3) hW2;exact⟨b2 _ _ hne a1,b1,fun b r hb hb2 h=>b2 _ _ hb2 (a2 _ _ hb h),a3.trans b3,b4.trans a4,fun w k hd1 hd2=>b5 w (a5 w k hd1) hd2⟩
def BeS (w:World) (f:Rat→Rat) (qs:List Rat) (g:Nat) (t13:Value) (W:World):Prop:=
 ∃i:Nat,i≤qs.length∧t13 = .int .i64 i∧g=qs.length-i∧Ext w W∧RB W w.heap.size 0∧RB W (w.heap.size+1) 0∧RB W (w.heap.size+1+1) (bestR f (qs.take i)).1∧RB W (w.heap.size+1+1+1) (bestR f (qs.take i)).2
theorem best_any (w:World) (v v1 v2:Value) (s:Sp) (qs:List Rat) (hs:IsRs w v qs) (h1:IsPts w v1 s.over) (h2:IsPts w v2 s.under) (hok:SpOk s) (hq:∀q∈qs,Rb 1 q) :
  Calls Tryz.prog 140 #[v,.func (.func 107) #[spc s v1 v2] #[]] w (RetR2 w (bestR (gapR s) qs).1 (bestR (gapR s) qs).2):=by
 obtain⟨a,c,rfl⟩:=hs.form;obtain⟨n,hn⟩:∃n,qs.length=n:=⟨_,rfl⟩;rw [hn]at hs ⊢;have hle:=hs.le;unfold maxLen at hle;have Hn:=hd9 hn;have Hq:=hd9 hq;have Hok:=hd9 hok;have hnc:n≤9223372036854775807:=by omega
 have HG:=hd9 (fun(W:World) (hW:Ext w W) (vx:Value) (x:Rat) (hx:IsR W vx x) (hb:Rb 1 x)=>gap_ok W s v1 v2 vx x (h1.ext' hW) (h2.ext' hW) hok hx hb);obtain⟨sv,hsv⟩:∃x,spc s v1 v2=x:=⟨_,rfl⟩;rw [hsv]at HG ⊢;obtain⟨R,hR⟩:∃R,RetR2 w (bestR (gapR s) qs).1 (bestR (gapR s) qs).2=R:=⟨_,rfl⟩;rw [hR];have HR:=hd9 hR;clear hn hq hle hsv hok hR;go_enter Tryz.func140,Tryz.ntmps140;go_wp2
 go_loopg [13] n (BeS w (gapR s) qs)
 case atStart =>
  have z:∀W,IsR W (.agg #[.slice none 0 0,.bool false,.slice none 0 0]) 0:=fun W=>IsR.zero _
  exact⟨0,by omega,rfl,by rw [Hn.out];rfl,eA,(RB.new (z w) rfl).ext ((((Ext.refl _).alloc _).alloc _).alloc _),(RB.new (z _) (by simp)).ext (((Ext.refl _).alloc _).alloc _),(RB.new (z _) (by simp)).ext ((Ext.refl _).alloc _),RB.new (z _) (by simp)⟩
 case round =>
  obtain⟨i,hi,rfl,rfl,hx,hA,hB,hC,hD⟩:=hrel;rw [Hn.out]at hi;have Hx:=hd9 hx;have HA:=hd9 hA;have HB:=hd9 hB;have HC:=hd9 hC;have HD:=hd9 hD
  by_cases hlt:i<n
  ·obtain⟨x,hxi⟩:∃x,qs[i]?=some x:=⟨qs[i]'(by rw [Hn.out];omega),by simp [Hn.out,hlt]⟩
   obtain⟨b,o,a3,m3,c3,s3,a4,m4,c4,rfl,hbl,hzx,e0,e1,e2⟩:=(hs.ext' hx).at' hxi;have Hxi:=hd9 hxi;have hbx:=Hq.out x (lM hxi);have Hbx:=hd9 hbx;clear hxi hA hB hC hx hbx;obtain⟨d1,dm,dc,ds,d2,dm2,dc2,dD0,dD1,dD2,df0,df1,df2,zD,hzD⟩:=hD.rd
   by_cases h0:i=0
   ·have h0b:((i:Int)==0)=true:=by simp;omega
    have H0:=hd9 h0;clear h0 hD
    go_wp2_with(((go_at_call 107;(with_reducible refine(HG.out _ ?_ (.agg #[.slice a3 m3 c3,.bool s3,.slice a4 m4 c4]) x ?_ Hbx.out).mono ?_);(refine Ext.trans Hx.out ?_;exact eA);(refine hzx.ext ?_;exact eA);rintro e w1 ⟨r1,rfl,hr1,hx1⟩;obtain⟨b1,n1,k1,t1,b2,n2,k2,rfl⟩:=hr1.form;obtain⟨hc1,hf1⟩:=hx1.cells;(have z1:wr.heap.size<w1.heap.size:=(by have:=hx1.size;simp only [wZ]at this;omega)))))
    obtain⟨W8,hW8⟩:∃W,(w1.alloc (.cells #[.slice b1 n1 k1,.bool t1,.slice b2 n2 k2] 56))=W:=⟨_,rfl⟩;have hX8:Ext wr W8:=by rw [←hW8];exact(((Ext.refl _).alloc _).trans hx1).alloc _
    have g1:RB W8 wr.heap.size x:=by rw [←hW8];exact((RB.new hzx rfl).ext hx1).ext ((Ext.refl _).alloc _)
    have g2:RB W8 w1.heap.size (gapR s x):=by rw [←hW8];exact RB.new hr1 rfl
    have g3:=HC.out.ext hX8;have g4:=HD.out.ext hX8;have zW:=hX8.size;obtain⟨s1,hs1⟩:∃x,w1.heap.size=x:=⟨_,rfl⟩;rw [hW8];simp only [hs1]at *;clear hW8 hc1 hf1 hr1 hx1 hzD dD0 dD1 dD2 df0 df1 df2 hs1 e0 e1 e2 hzx;obtain⟨pa,pm,pc1,ps,pa2,pm2,pc2,p0,p1,p2,_,_,_,pz,hp⟩:=(g1).rd;obtain⟨qa,qm,qc,qs1,qa2,qm2,qc2,q0,q1,q2,_,_,_,qz,hq1⟩:=(g2).rd;obtain⟨_,_,_,_,_,_,_,x0,x1,x2,xf0,xf1,xf2,xz,_⟩:=(g3).rd;obtain⟨_,_,_,_,_,_,_,y0,y1,y2,yf0,yf1,yf2,yz,_⟩:=(g4).rd;refine wp_region_held_drew (S:=CellL [(⟨wr.heap.size,0,none⟩,.slice pa pm pc1),(⟨wr.heap.size,1,none⟩,.bool ps),(⟨wr.heap.size,2,none⟩,.slice pa2 pm2 pc2),(⟨s1,0,none⟩,.slice qa qm qc),(⟨s1,1,none⟩,.bool qs1),(⟨s1,2,none⟩,.slice qa2 qm2 qc2)]) (by kernel_rfl) (by refine⟨?_,?_,?_,?_,?_,?_,trivial⟩<;>go_simp) (fun hHeld=>?_);refine sN 0 ?_
    iterate 2
     refine tkn ?_
    refine oN ?_
    have hnb1:∀q∈[((⟨wr.heap.size,0,none⟩:Addr),Value.slice pa pm pc1),(⟨wr.heap.size,1,none⟩,.bool ps),(⟨wr.heap.size,2,none⟩,.slice pa2 pm2 pc2),(⟨s1,0,none⟩,.slice qa qm qc),(⟨s1,1,none⟩,.bool qs1),(⟨s1,2,none⟩,.slice qa2 qm2 qc2)],w.heap.size+1+1≠q.1.block:=by
     intro q hq;simp at hq
     rcases hq with rfl|rfl|rfl|rfl|rfl|rfl<;>(dsimp only;omega)
    have hnb2:∀q∈[((⟨wr.heap.size,0,none⟩:Addr),Value.slice pa pm pc1),(⟨wr.heap.size,1,none⟩,.bool ps),(⟨wr.heap.size,2,none⟩,.slice pa2 pm2 pc2),(⟨s1,0,none⟩,.slice qa qm qc),(⟨s1,1,none⟩,.bool qs1),(⟨s1,2,none⟩,.slice qa2 qm2 qc2)],w.heap.size+1+1+1≠q.1.block:=by
     intro q hq;simp at hq
     rcases hq with rfl|rfl|rfl|rfl|rfl|rfl<;>(dsimp only;omega)
    refine cl1 (i:=2) fun K hK=>?_
    go_simp;refine kO hK (CellL.set3d hHeld hnb1 _ _ _) (fun hHeld=>?_);clear hK K;refine cl1 (i:=3) fun K hK=>?_
    go_simp;refine kO hK (CellL.set3d hHeld hnb2 _ _ _) (fun hHeld=>?_);clear hK K;refine wpAnyH_done (by kernel_rfl) ?_ _
    have e:bestR (gapR s) (qs.take (i+1))=(x,gapR s x):=by
     have:=H0.out;subst this;rw [take_add_one' _ _ _ Hxi.out];simp [bestR]
    have E:=hd9 e;have HX8:=hd9 hX8;have P:=hd9 (RB.copy2 g3 g4 (by omega) hp hq1 rfl rfl);clear e hX8 g1 g2 g3 g4;go_wp2
    go_roundg (n-(i+1))
    case measure=>have:=Hn.out;omega
    case rel =>
     obtain⟨P1,P2,P3,P4,P5,P6⟩:=P.out;have D:=fun W=>(Ext.refl W).drew
     exact⟨i+1,by rw [Hn.out];omega,by go_num,by rw [Hn.out],(P6 w (Hx.out.trans HX8.out) (by omega) (by omega)).drew,
      (P3 _ _ (by omega) (by omega) (HA.out.ext HX8.out)).ext (D _),(P3 _ _ (by omega) (by omega) (HB.out.ext HX8.out)).ext (D _),by rw [E.out];exact P1.ext (D _),by rw [E.out];exact P2.ext (D _)⟩
   ·have h0b:((i:Int)==0)=false:=by simp;omega
    have H0:=hd9 h0;clear h0 hD
    have hbd:Rb 23 (bestR (gapR s) (qs.take i)).2:=by
     have hne:qs.take i≠[]:=fun h=>by
      have h2:(qs.take i).length=0:=by rw [h];rfl
      rw [List.length_take,Hn.out]at h2;have:=H0.out;omega
     obtain⟨j1,j2⟩:=bestR_mem (gapR s) hne;rw [j2];exact Rb.gap (Hq.out _ (List.mem_of_mem_take j1)) Hok.out
    have Hbd:=hd9 hbd;clear hbd
    have e:bestR (gapR s) (qs.take (i+1))=bestStep (gapR s) (bestR (gapR s) (qs.take i)) x:=by
     rw [take_add_one' _ _ _ Hxi.out,bestR_snoc];intro h;have h2:(qs.take i).length=0:=by rw [h];rfl
     rw [List.length_take,Hn.out]at h2;have:=H0.out;omega
    have E:=hd9 e;clear e;obtain⟨k,hk⟩:∃k,rcmp (gapR s x) (bestR (gapR s) (qs.take i)).2=k:=⟨_,rfl⟩;have Hk:=hd9 hk;have Hgb:=hd9 (lim_of (Rb.gap Hbx.out Hok.out) (by omega));have Hgo:=hd9 (lim_of Hbd.out (by omega));clear hk;have zD1:w.heap.size+1+1+1<wr.heap.size+1:=by omega
    by_cases hkn:k<0
    ·go_wp2_with(first|(go_at_call 107;(with_reducible refine(HG.out _ ?_ (.agg #[.slice a3 m3 c3,.bool s3,.slice a4 m4 c4]) x ?_ Hbx.out).mono ?_);(refine Ext.trans Hx.out ?_;exact eA);(refine hzx.ext ?_;exact eA);rintro e w1 ⟨r1,rfl,hr1,hx1⟩;obtain⟨b1,n1,k1,t1,b2,n2,k2,rfl⟩:=hr1.form;obtain⟨hc1,hf1⟩:=hx1.cells;(have z1:wr.heap.size<w1.heap.size:=(by have:=hx1.size;simp only [wZ]at this;omega));(have z2:w.heap.size+1+1+1<w1.heap.size:=by omega))|(go_at_call 104;(with_reducible refine(rcmp_any _ (.agg #[.slice b1 n1 k1,.bool t1,.slice b2 n2 k2]) (.agg #[.slice d1 dm dc,.bool ds,.slice d2 dm2 dc2]) _ _ (hr1.ext ?_) (hzD.ext ?_) Hgb.out Hgo.out).mono ?_);exact eA;exact eA;rintro e w3 ⟨rfl,hx3⟩;(try rw [Hk.out]);obtain⟨hc3,hf3⟩:=hx3.cells))
     have hX8:Ext wr w3:=((((Ext.refl _).alloc _).trans hx1).alloc _).trans hx3;have g1:RB w3 wr.heap.size x:=(((RB.new hzx rfl).ext hx1).ext ((Ext.refl _).alloc _)).ext hx3;have g2:RB w3 w1.heap.size (gapR s x):=(RB.new hr1 rfl).ext hx3;have g3:=HC.out.ext hX8;have g4:=HD.out.ext hX8;have zW:=hX8.size;obtain⟨s1,hs1⟩:∃x,w1.heap.size=x:=⟨_,rfl⟩;simp only [hs1]at *;clear hc1 hf1 hr1 hx1 hx3 hc3 hf3 hzD dD0 dD1 dD2 df0 df1 df2 hs1 e0 e1 e2 hzx;obtain⟨pa,pm,pc1,ps,pa2,pm2,pc2,p0,p1,p2,_,_,_,pz,hp⟩:=(g1).rd;obtain⟨qa,qm,qc,qs1,qa2,qm2,qc2,q0,q1,q2,_,_,_,qz,hq1⟩:=(g2).rd;obtain⟨_,_,_,_,_,_,_,x0,x1,x2,xf0,xf1,xf2,xz,_⟩:=(g3).rd;obtain⟨_,_,_,_,_,_,_,y0,y1,y2,yf0,yf1,yf2,yz,_⟩:=(g4).rd;refine wp_region_held_drew (S:=CellL [(⟨wr.heap.size,0,none⟩,.slice pa pm pc1),(⟨wr.heap.size,1,none⟩,.bool ps),(⟨wr.heap.size,2,none⟩,.slice pa2 pm2 pc2),(⟨s1,0,none⟩,.slice qa qm qc),(⟨s1,1,none⟩,.bool qs1),(⟨s1,2,none⟩,.slice qa2 qm2 qc2)]) (by kernel_rfl) (by refine⟨?_,?_,?_,?_,?_,?_,trivial⟩<;>go_simp) (fun hHeld=>?_);refine sN 0 ?_
     iterate 2
      refine tkn ?_
     refine oN ?_
     have hnb1:∀q∈[((⟨wr.heap.size,0,none⟩:Addr),Value.slice pa pm pc1),(⟨wr.heap.size,1,none⟩,.bool ps),(⟨wr.heap.size,2,none⟩,.slice pa2 pm2 pc2),(⟨s1,0,none⟩,.slice qa qm qc),(⟨s1,1,none⟩,.bool qs1),(⟨s1,2,none⟩,.slice qa2 qm2 qc2)],w.heap.size+1+1≠q.1.block:=by
      intro q hq;simp at hq
      rcases hq with rfl|rfl|rfl|rfl|rfl|rfl<;>(dsimp only;omega)
     have hnb2:∀q∈[((⟨wr.heap.size,0,none⟩:Addr),Value.slice pa pm pc1),(⟨wr.heap.size,1,none⟩,.bool ps),(⟨wr.heap.size,2,none⟩,.slice pa2 pm2 pc2),(⟨s1,0,none⟩,.slice qa qm qc),(⟨s1,1,none⟩,.bool qs1),(⟨s1,2,none⟩,.slice qa2 qm2 qc2)],w.heap.size+1+1+1≠q.1.block:=by
      intro q hq;simp at hq
      rcases hq with rfl|rfl|rfl|rfl|rfl|rfl<;>(dsimp only;omega)
     refine cl1 (i:=2) fun K hK=>?_
     go_simp;refine kO hK (CellL.set3d hHeld hnb1 _ _ _) (fun hHeld=>?_);clear hK K;refine cl1 (i:=3) fun K hK=>?_
     go_simp;refine kO hK (CellL.set3d hHeld hnb2 _ _ _) (fun hHeld=>?_);clear hK K;refine wpAnyH_done (by kernel_rfl) ?_ _;have e:bestStep (gapR s) (bestR (gapR s) (qs.take i)) x=(x,gapR s x):=by unfold bestStep;rw [Hk.out,if_pos hkn]
     have E':=hd9 (E.out.trans e);have HX8:=hd9 hX8;have P:=hd9 (RB.copy2 g3 g4 (by omega) hp hq1 rfl rfl);clear e hX8 g1 g2 g3 g4;go_wp2
     go_roundg (n-(i+1))
     case measure=>have:=Hn.out;omega
     case rel =>
      obtain⟨P1,P2,P3,P4,P5,P6⟩:=P.out;have D:=fun W=>(Ext.refl W).drew
      exact⟨i+1,by rw [Hn.out];omega,by go_num,by rw [Hn.out],(P6 w (Hx.out.trans HX8.out) (by omega) (by omega)).drew,
       (P3 _ _ (by omega) (by omega) (HA.out.ext HX8.out)).ext (D _),(P3 _ _ (by omega) (by omega) (HB.out.ext HX8.out)).ext (D _),by rw [E'.out];exact P1.ext (D _),by rw [E'.out];exact P2.ext (D _)⟩
    ·go_wp2_with(first|(go_at_call 107;(with_reducible refine(HG.out _ ?_ (.agg #[.slice a3 m3 c3,.bool s3,.slice a4 m4 c4]) x ?_ Hbx.out).mono ?_);(refine Ext.trans Hx.out ?_;exact eA);(refine hzx.ext ?_;exact eA);rintro e w1 ⟨r1,rfl,hr1,hx1⟩;obtain⟨b1,n1,k1,t1,b2,n2,k2,rfl⟩:=hr1.form;obtain⟨hc1,hf1⟩:=hx1.cells;(have z1:wr.heap.size<w1.heap.size:=(by have:=hx1.size;simp only [wZ]at this;omega));(have z2:w.heap.size+1+1+1<w1.heap.size:=by omega))|(go_at_call 104;(with_reducible refine(rcmp_any _ (.agg #[.slice b1 n1 k1,.bool t1,.slice b2 n2 k2]) (.agg #[.slice d1 dm dc,.bool ds,.slice d2 dm2 dc2]) _ _ (hr1.ext ?_) (hzD.ext ?_) Hgb.out Hgo.out).mono ?_);exact eA;exact eA;rintro e w3 ⟨rfl,hx3⟩;(try rw [Hk.out]);obtain⟨hc3,hf3⟩:=hx3.cells))
     have hX8:Ext wr w3:=((((Ext.refl _).alloc _).trans hx1).alloc _).trans hx3;have e:bestStep (gapR s) (bestR (gapR s) (qs.take i)) x=bestR (gapR s) (qs.take i):=by unfold bestStep;rw [Hk.out,if_neg (by omega)]
     have E':=hd9 (E.out.trans e)
     go_roundg (n-(i+1))
     case measure=>have:=Hn.out;omega
     case rel=>exact⟨i+1,by rw [Hn.out];omega,by go_num,by rw [Hn.out],Hx.out.trans hX8,HA.out.ext hX8,HB.out.ext hX8,by rw [E'.out];exact HC.out.ext hX8,by rw [E'.out];exact HD.out.ext hX8⟩
  ·obtain rfl:i=n:=by omega
   have e:qs.take i=qs:=lT (by rw [Hn.out];exact Nat.le_refl _);rw [e]at hC hD HC HD;clear e;have zW:=hx.size;have zD:w.heap.size+1+1+1<wr.heap.size:=by obtain⟨_,_,_,_,_,_,_,_,_,_,_,_,_,z,_⟩:=hD.rd;exact z
   go_wp2;obtain⟨pa,pm,pc1,ps,pa2,pm2,pc2,p0,p1,p2,_,_,_,pz,hp⟩:=(hC).rd;obtain⟨qa,qm,qc,qs1,qa2,qm2,qc2,q0,q1,q2,_,_,_,qz,hq1⟩:=(hD).rd;obtain⟨_,_,_,_,_,_,_,x0,x1,x2,xf0,xf1,xf2,xz,_⟩:=(hA).rd;obtain⟨_,_,_,_,_,_,_,y0,y1,y2,yf0,yf1,yf2,yz,_⟩:=(hB).rd;refine wp_region_held_drew (S:=CellL [(⟨w.heap.size+1+1,0,none⟩,.slice pa pm pc1),(⟨w.heap.size+1+1,1,none⟩,.bool ps),(⟨w.heap.size+1+1,2,none⟩,.slice pa2 pm2 pc2),(⟨w.heap.size+1+1+1,0,none⟩,.slice qa qm qc),(⟨w.heap.size+1+1+1,1,none⟩,.bool qs1),(⟨w.heap.size+1+1+1,2,none⟩,.slice qa2 qm2 qc2)]) (by kernel_rfl) (by refine⟨?_,?_,?_,?_,?_,?_,trivial⟩<;>go_simp) (fun hHeld=>?_);refine sN 0 ?_
   iterate 2
    refine tkn ?_
   refine oN ?_
   have hnb1:∀q∈[((⟨w.heap.size+1+1,0,none⟩:Addr),Value.slice pa pm pc1),(⟨w.heap.size+1+1,1,none⟩,.bool ps),(⟨w.heap.size+1+1,2,none⟩,.slice pa2 pm2 pc2),(⟨w.heap.size+1+1+1,0,none⟩,.slice qa qm qc),(⟨w.heap.size+1+1+1,1,none⟩,.bool qs1),(⟨w.heap.size+1+1+1,2,none⟩,.slice qa2 qm2 qc2)],w.heap.size≠q.1.block:=by
    intro q hq;simp at hq
    rcases hq with rfl|rfl|rfl|rfl|rfl|rfl<;>(dsimp only;omega)
   have hnb2:∀q∈[((⟨w.heap.size+1+1,0,none⟩:Addr),Value.slice pa pm pc1),(⟨w.heap.size+1+1,1,none⟩,.bool ps),(⟨w.heap.size+1+1,2,none⟩,.slice pa2 pm2 pc2),(⟨w.heap.size+1+1+1,0,none⟩,.slice qa qm qc),(⟨w.heap.size+1+1+1,1,none⟩,.bool qs1),(⟨w.heap.size+1+1+1,2,none⟩,.slice qa2 qm2 qc2)],w.heap.size+1≠q.1.block:=by
    intro q hq;simp at hq
    rcases hq with rfl|rfl|rfl|rfl|rfl|rfl<;>(dsimp only;omega)
   refine cl1 (i:=2) fun K hK=>?_
   go_simp;refine kO hK (CellL.set3d hHeld hnb1 _ _ _) (fun hHeld=>?_);clear hK K;refine cl1 (i:=3) fun K hK=>?_
   go_simp;refine kO hK (CellL.set3d hHeld hnb2 _ _ _) (fun hHeld=>?_);clear hK K;refine wpAnyH_done (by kernel_rfl) ?_ _;have P:=hd9 (RB.copy2 hA hB (by omega) hp hq1 rfl rfl);go_wp2;refine bodyPost_ret (v:=.tuple #[.agg #[.slice pa pm pc1,.bool ps,.slice pa2 pm2 pc2],.agg #[.slice qa qm qc,.bool qs1,.slice qa2 qm2 qc2]]) (by simp [results,Tryz.results140,go_sem,x0,x1,x2,xf0,xf1,xf2,y0,y1,y2,yf0,yf1,yf2]) rfl ?_;rw [←HR.out];obtain⟨P1,P2,P3,P4,P5,P6⟩:=P.out;exact⟨_,_,rfl,(hp.keep P4).ext (Ext.refl _).drew,(hq1.keep P4).ext (Ext.refl _).drew,(P6 w Hx.out (by omega) (by omega)).drew⟩
def leastR (s:Sp):Rat×Rat:=bestR (gapR s) (stopsR s)
theorem stops_ne (s:Sp):stopsR s≠[]:=by
 unfold stopsR;intro h;have h1:stopsZ s=[]:=List.map_eq_nil_iff.1 h;unfold stopsZ at h1;have h2:=compact_ne (zs:=isort (s.lo::s.hi::midP s (s.over++s.under))) (by intro h3;have:=congrArg List.length h3;rw [isort_len]at this;simp at this);exact h2 h1
theorem sleast_any (w:World) (v1 v2:Value) (s:Sp) (h1:IsPts w v1 s.over) (h2:IsPts w v2 s.under) (hok:SpOk s) :
  Calls Tryz.prog 102 #[spc s v1 v2] w (RetR2 w (leastR s).1 (leastR s).2):=by
 have HS:=hd9 (fun(W:World) (hW:Ext w W)=>stops_any W v1 v2 s (h1.ext' hW) (h2.ext' hW) hok);have HB:=hd9 (fun(W:World) (hW:Ext w W) (v:Value) (hv:IsRs W v (stopsR s))=>best_any W v v1 v2 s (stopsR s) hv (h1.ext' hW) (h2.ext' hW) hok (stopsR_bd hok));obtain⟨a1,m1,rfl⟩:=h1.form;obtain⟨a2,m2,rfl⟩:=h2.form;obtain⟨n1,f1⟩:∃x,s.over.length=x:=⟨_,rfl⟩;obtain⟨n2,f2⟩:∃x,s.under.length=x:=⟨_,rfl⟩;obtain⟨lo,elo⟩:∃x,s.lo=x:=⟨_,rfl⟩;obtain⟨hi,ehi⟩:∃x,s.hi=x:=⟨_,rfl⟩;obtain⟨R,hR⟩:∃R,RetR2 w (leastR s).1 (leastR s).2=R:=⟨_,rfl⟩;rw [hR];have HR:=hd9 hR;unfold spc at HS HB ⊢;simp only [f1,f2,elo,ehi]at HS HB ⊢;clear h1 h2 hok f1 f2 elo ehi hR;have hmf:∀(fn:Fn) (first cap:Array Value) (w:World),(Instr.makeFunc fn first cap).run Tryz.prog w = .ok (.func fn first cap) w:=fun _ _ _ _=>rfl
 go_enter Tryz.func102,Tryz.ntmps102;go_wp2;refine wp_region_held_drew (S:=CellL [(⟨w.heap.size,0,none⟩,.slice a1 n1 m1),(⟨w.heap.size,1,none⟩,.slice a2 n2 m2),(⟨w.heap.size,2,none⟩,.int .i64 lo),(⟨w.heap.size,3,none⟩,.int .i64 hi)]) (by kernel_rfl) (by refine⟨?_,?_,?_,?_,trivial⟩<;>go_simp) (fun hHeld=>?_);refine tk1 (i:=0) ?_;refine sN 2 ?_
 iterate 2
  refine tkn ?_
 refine oN ?_;refine cl1 (i:=1) fun K hK=>?_
 go_simp
 (with_reducible refine Calls.mono (HS.out _ eA) ?_)
 rintro e w3 ⟨r3,rfl,hr3,hx3⟩
 skip
 go_wp2_with fail
 refine kO hK (CellL.ext hHeld hx3) (fun hHeld=>?_);clear hK K;have X3:Ext w w3:=eA;refine cl1 (i:=4) fun K hK=>?_
 go_simp
 (with_reducible refine Calls.mono (HB.out _ X3 _ hr3.rs) ?_)
 rintro e w4 ⟨r4,r5,rfl,hr4,hr5,hx4⟩;obtain⟨⟨a4,m4,c4,s4,b4,n4,k4,rfl⟩,a5,m5,c5,s5,b5,n5,k5,rfl⟩:=And.intro hr4.form hr5.form
 go_wp2_with fail
 refine kO hK (CellL.ext hHeld hx4) (fun hHeld=>?_);clear hK K;refine sN 5 ?_
 iterate 2
  refine tkn ?_
 refine oN ?_;have X4:Ext w w4:=X3.trans hx4;have hO:RB w4 (w.heap.size+1) 0:=(((RB.new (IsR.zero _) (by simp)).ext ((Ext.refl _).alloc _)).ext ((Ext.refl _).drew.trans hx3)).ext hx4;have hP:RB w4 (w.heap.size+1+1) 0:=((RB.new (IsR.zero _) (by simp)).ext ((Ext.refl _).drew.trans hx3)).ext hx4;obtain⟨_,_,_,_,_,_,_,o0,o1,o2,of0,of1,of2,zo,_⟩:=hO.rd;obtain⟨_,_,_,_,_,_,_,p0,p1,p2,pf0,pf1,pf2,zp,_⟩:=hP.rd
 have hnb:∀b,w.heap.size<b→∀q∈[((⟨w.heap.size,0,none⟩:Addr),Value.slice a1 n1 m1),(⟨w.heap.size,1,none⟩,.slice a2 n2 m2),(⟨w.heap.size,2,none⟩,.int .i64 lo),(⟨w.heap.size,3,none⟩,.int .i64 hi)],b≠q.1.block:=by
  intro b hb q hq;simp at hq
  rcases hq with rfl|rfl|rfl|rfl<;>(dsimp only;omega)
 refine cl1 (i:=7) fun K hK=>?_
 go_simp;refine kO hK (CellL.set3 hHeld (hnb _ (by omega)) _ _ _) (fun hHeld=>?_);clear hK K;refine cl1 (i:=8) fun K hK=>?_
 go_simp;refine kO hK (CellL.set3 hHeld (hnb _ (by omega)) _ _ _) (fun hHeld=>?_);clear hK K;refine wpAnyH_done (by kernel_rfl) ?_ _;have P:=hd9 (RB.copy2 hO hP (by omega) hr4 hr5 rfl rfl);go_wp2;refine bodyPost_ret (v:=.tuple #[.agg #[.slice a4 m4 c4,.bool s4,.slice b4 n4 k4],.agg #[.slice a5 m5 c5,.bool s5,.slice b5 n5 k5]]) (by simp [results,Tryz.results102,go_sem,o0,o1,o2,of0,of1,of2,p0,p1,p2,pf0,pf1,pf2]) rfl ?_;rw [←HR.out];obtain⟨P1,P2,P3,P4,P5,P6⟩:=P.out;exact⟨_,_,rfl,hr4.keep P4,hr5.keep P4,P6 w X4 (by omega) (by omega)⟩
def freeB (ps qs:List (Int×Int)):Bool:=if (btw ps qs).lo<(btw ps qs).hi then decide (0≤(leastR (btw ps qs)).2.num.sign)else true
theorem free_any (w:World) (v1 v2:Value) (ps qs:List (Int×Int)) (h1:IsPts w v1 ps) (h2:IsPts w v2 qs) (k1:LnOk ps) (k2:LnOk qs) :
  Calls Tryz.prog 99 #[v1,v2] w fun e w'=>e = .returned (.bool (freeB ps qs))∧Ext w w':=by
 have l1:0<ps.length:=List.length_pos_iff.2 k1.1;have l2:0<qs.length:=List.length_pos_iff.2 k2.1;have HBt:=hd9 (fun(W:World) (hW:Ext w W)=>between_any W v1 v2 ps qs (h1.ext' hW) (h2.ext' hW) l1 l2);have HL:=hd9 (fun(W:World) (hW:Ext w W)=>sleast_any W v1 v2 (btw ps qs) (h1.ext' hW) (h2.ext' hW) (btw_ok k1 k2));obtain⟨B,hB⟩:∃B,freeB ps qs=B:=⟨_,rfl⟩;rw [hB];have HB:=hd9 hB;unfold freeB at HB;obtain⟨s,hs⟩:∃s,btw ps qs=s:=⟨_,rfl⟩;rw [hs]at HB HBt HL;obtain⟨a1,m1,rfl⟩:=h1.form;obtain⟨a2,m2,rfl⟩:=h2.form;obtain⟨n1,f1⟩:∃x,ps.length=x:=⟨_,rfl⟩;obtain⟨n2,f2⟩:∃x,qs.length=x:=⟨_,rfl⟩;obtain⟨lo,elo⟩:∃x,s.lo=x:=⟨_,rfl⟩;obtain⟨hi,ehi⟩:∃x,s.hi=x:=⟨_,rfl⟩;unfold RetBt at HBt;unfold spc at HBt HL;simp only [f1,f2,elo,ehi]at HB HBt HL ⊢;clear h1 h2 k1 k2 l1 l2 hB hs f1 f2 elo ehi
 by_cases hlt:lo<hi
 ·have e:decide (lo<hi)=true:=by simpa using hlt
  rw [if_pos hlt]at HB;rw [e]at HBt;obtain⟨k,hk⟩:∃k,(leastR s).2.num.sign=k:=⟨_,rfl⟩;rw [hk]at HB;have Hk:=hd9 hk;clear hk e hlt;go_enter Tryz.func99,Tryz.ntmps99
  go_wp2_with(first|(go_at_call 69;(with_reducible refine(HBt.out _ ?_).mono ?_);exact eA;rintro e w3 ⟨rfl,hx3⟩;obtain⟨hc3,hf3⟩:=hx3.cells)|(go_at_call 102;(with_reducible refine(HL.out _ ?_).mono ?_);exact eA;rintro e w4 ⟨r4,r5,rfl,hr4,hr5,hx4⟩;obtain⟨a4,m4,c4,s4,b4,n4,k4,rfl⟩:=hr4.form;obtain⟨a5,m5,c5,s5,b5,n5,k5,rfl⟩:=hr5.form)|(go_at_call 103;(with_reducible refine(rsign_any _ _ _ (hr5.ext ?_)).mono ?_);exact eA;rintro e w6 ⟨rfl,hx6⟩;rw [Hk.out]))
  go_ret;exact⟨by rw [←HB.out];rfl,eA⟩
 ·have e:decide (lo<hi)=false:=by simpa using hlt
  rw [if_neg hlt]at HB;rw [e]at HBt;clear e hlt;go_enter Tryz.func99,Tryz.ntmps99
  go_wp2_with(first|(go_at_call 69;(with_reducible refine(HBt.out _ ?_).mono ?_);exact eA;rintro e w3 ⟨rfl,hx3⟩;obtain⟨hc3,hf3⟩:=hx3.cells))
  go_ret;exact⟨by rw [←HB.out];rfl,eA⟩
def relP (p q:Pl):Int:=
 if lineR (lowP2 p)≤lineL (lowP2 q)then 1
 else if lineR (lowP2 q)≤lineL (lowP2 p)then 2
 else if freeB (lowP2 p) (upP2 q)then 3
 else if freeB (lowP2 q) (upP2 p)then 4
 else 5
def PLa (w:World) (c:List Value) (p:Pl):Prop:=∃v vl vu,c=(lac p v vl vu).toList∧IsPts w v p.shape∧IsPts w vl (lowP2 p)∧IsPts w vu (upP2 p)
def IsLa (w:World) (v:Value) (p:Pl):Prop:=∃s vl vu,v = .agg (lac p s vl vu)∧IsPts w s p.shape∧IsPts w vl (lowP2 p)∧IsPts w vu (upP2 p)
theorem IsLa.ext {w w':World} {v:Value} {p:Pl} (h:IsLa w v p) (k:Ext w w'):IsLa w' v p:=by
 obtain⟨s,vl,vu,h1,h2,h3,h4⟩:=h;exact⟨s,vl,vu,h1,h2.ext' k,h3.ext' k,h4.ext' k⟩
abbrev IsLas (w:World) (v:Value) (ps:List Pl):Prop:=Sl 145 12 PLa w v ps
theorem PLa.ext {w w':World} {c:List Value} {p:Pl} (h:PLa w c p) (k:Ext w w'):PLa w' c p:=by
 obtain⟨s,vl,vu,h1,h2,h3,h4⟩:=h;exact⟨s,vl,vu,h1,h2.ext' k,h3.ext' k,h4.ext' k⟩
theorem PLa.keep {w w':World} {c:List Value} {p:Pl} (h:PLa w c p) (k:KeepT 42 w w'):PLa w' c p:=by
 obtain⟨s,vl,vu,h1,h2,h3,h4⟩:=h;exact⟨s,vl,vu,h1,h2.keep' k,h3.keep' k,h4.keep' k⟩
theorem IsLas.ext' {w w':World} {v:Value} {ps:List Pl} (h:IsLas w v ps) (k:Ext w w'):IsLas w' v ps:=Sl.ext h (fun _ _ h=>PLa.ext h k) k
theorem relate_any (w:World) (v1 v2:Value) (p q:Pl) (h1:IsLa w v1 p) (h2:IsLa w v2 q) (k1:placedOk p=true) (k2:placedOk q=true) :
  Calls Tryz.prog 101 #[v1,v2] w fun e w'=>e = .returned (.int .u8 (relP p q))∧Ext w w':=by
 obtain⟨s1,l1,u1,rfl,p1,p2,p3⟩:=h1;obtain⟨s2,l2,u2,rfl,q1,q2,q3⟩:=h2;obtain⟨o1,o2⟩:=lines_ok k1;obtain⟨o3,o4⟩:=lines_ok k2;have HA:=hd9 (fun(W:World) (hW:Ext w W)=>right_any W l1 (lowP2 p) (p2.ext' hW) (List.length_pos_iff.2 o1.1));have HB:=hd9 (fun(W:World) (hW:Ext w W)=>left_any W l2 (lowP2 q) (q2.ext' hW) (List.length_pos_iff.2 o3.1));have HC:=hd9 (fun(W:World) (hW:Ext w W)=>left_any W l1 (lowP2 p) (p2.ext' hW) (List.length_pos_iff.2 o1.1));have HD:=hd9 (fun(W:World) (hW:Ext w W)=>right_any W l2 (lowP2 q) (q2.ext' hW) (List.length_pos_iff.2 o3.1));have HE:=hd9 (fun(W:World) (hW:Ext w W)=>free_any W l1 u2 (lowP2 p) (upP2 q) (p2.ext' hW) (q3.ext' hW) o1 o4);have HF:=hd9 (fun(W:World) (hW:Ext w W)=>free_any W l2 u1 (lowP2 q) (upP2 p) (q2.ext' hW) (p3.ext' hW) o3 o2);obtain⟨sa1,sc1,rfl⟩:=p1.form;obtain⟨sa2,sc2,rfl⟩:=q1.form;obtain⟨a1,c1,rfl⟩:=p2.form;obtain⟨a2,c2,rfl⟩:=q2.form;obtain⟨ua1,uc1,rfl⟩:=p3.form;obtain⟨ua2,uc2,rfl⟩:=q3.form;obtain⟨k,hk⟩:∃k,relP p q=k:=⟨_,rfl⟩;have Hk:=hd9 hk;unfold relP at Hk;rw [hk];obtain⟨n1,f1⟩:∃x,(lowP2 p).length=x:=⟨_,rfl⟩;obtain⟨n2,f2⟩:∃x,(lowP2 q).length=x:=⟨_,rfl⟩;obtain⟨m1,f3⟩:∃x,(upP2 p).length=x:=⟨_,rfl⟩;obtain⟨m2,f4⟩:∃x,(upP2 q).length=x:=⟨_,rfl⟩;obtain⟨j1,f5⟩:∃x,p.shape.length=x:=⟨_,rfl⟩;obtain⟨j2,f6⟩:∃x,q.shape.length=x:=⟨_,rfl⟩;obtain⟨rp,f7⟩:∃x,lineR (lowP2 p)=x:=⟨_,rfl⟩;obtain⟨lp,f8⟩:∃x,lineL (lowP2 p)=x:=⟨_,rfl⟩;obtain⟨rq,f9⟩:∃x,lineR (lowP2 q)=x:=⟨_,rfl⟩;obtain⟨lq,f10⟩:∃x,lineL (lowP2 q)=x:=⟨_,rfl⟩;obtain⟨fa,f11⟩:∃x,freeB (lowP2 p) (upP2 q)=x:=⟨_,rfl⟩;obtain⟨fb,f12⟩:∃x,freeB (lowP2 q) (upP2 p)=x:=⟨_,rfl⟩;simp only [f1,f2,f3,f4,f5,f6,f7,f8,f9,f10,f11,f12]at HA HB HC HD HE HF Hk ⊢;obtain⟨nm,sh,d,de,gx,gz,wy,ax,az,sk⟩:=p;obtain⟨nm',sh',d',de',gx',gz',wy',ax',az',sk'⟩:=q;clear hk p1 p2 p3 q1 q2 q3 o1 o2 o3 o4 k1 k2 f1 f2 f3 f4 f5 f6 f7 f8 f9 f10 f11 f12;unfold lac;dsimp only;go_enter Tryz.func101,Tryz.ntmps101;go_wp2;refine wp_region_held_drew (S:=CellL [(⟨w.heap.size,10,none⟩,.slice a1 n1 c1),(⟨w.heap.size+1,10,none⟩,.slice a2 n2 c2),(⟨w.heap.size,11,none⟩,.slice ua1 m1 uc1),(⟨w.heap.size+1,11,none⟩,.slice ua2 m2 uc2)]) (by kernel_rfl) (by refine⟨?_,?_,?_,?_,trivial⟩<;>go_simp) (fun hHeld=>?_);refine sN 0 ?_
 iterate 2
  refine tkn ?_
 refine oN ?_;refine sN 3 ?_
 iterate 2
  refine tkn ?_
 refine oN ?_;refine cl1 (i:=2) fun K hK=>?_
 go_simp
 (with_reducible refine Calls.mono (HA.out _ eA) ?_)
 rintro e w3 ⟨rfl,hx3⟩
 skip
 go_wp2_with fail
 refine kO hK (CellL.ext hHeld hx3) (fun hHeld=>?_);clear hK K;have X3:Ext w w3:=eA;refine cl1 (i:=5) fun K hK=>?_
 go_simp
 (with_reducible refine Calls.mono (HB.out _ X3) ?_)
 rintro e w4 ⟨rfl,hx4⟩
 skip
 go_wp2_with fail
 refine kO hK (CellL.ext hHeld hx4) (fun hHeld=>?_);clear hK K;have X4:Ext w w4:=X3.trans hx4;refine sN 6 ?_
 iterate 2
  refine tkn ?_
 refine oN ?_;refine wpAnyH_done (by kernel_rfl) ?_ _;obtain⟨d1a,d1b,d1c,d1d,_⟩:=hHeld
 (try clear hx3);clear hx4 X3
 by_cases g1:rp≤lq
 ·go_wp2
  go_ret;exact⟨by rw [←Hk.out,if_pos g1];rfl,X4⟩
 rw [if_neg g1]at Hk;have zz4:=X4.size;go_wp2;refine wp_region_held_drew (S:=CellL [(⟨w.heap.size,10,none⟩,.slice a1 n1 c1),(⟨w.heap.size+1,10,none⟩,.slice a2 n2 c2),(⟨w.heap.size,11,none⟩,.slice ua1 m1 uc1),(⟨w.heap.size+1,11,none⟩,.slice ua2 m2 uc2)]) (by kernel_rfl) (by refine⟨?_,?_,?_,?_,trivial⟩<;>go_simp) (fun hHeld=>?_);refine sN 0 ?_
 iterate 2
  refine tkn ?_
 refine oN ?_;refine sN 3 ?_
 iterate 2
  refine tkn ?_
 refine oN ?_;refine cl1 (i:=2) fun K hK=>?_
 go_simp
 (with_reducible refine Calls.mono (HC.out _ eA) ?_)
 rintro e w5 ⟨rfl,hx5⟩
 skip
 go_wp2_with fail
 refine kO hK (CellL.ext hHeld hx5) (fun hHeld=>?_);clear hK K;have X5:Ext w w5:=eA;refine cl1 (i:=5) fun K hK=>?_
 go_simp
 (with_reducible refine Calls.mono (HD.out _ X5) ?_)
 rintro e w6 ⟨rfl,hx6⟩
 skip
 go_wp2_with fail
 refine kO hK (CellL.ext hHeld hx6) (fun hHeld=>?_);clear hK K;have X6:Ext w w6:=X5.trans hx6;refine sN 6 ?_
 iterate 2
  refine tkn ?_
 refine oN ?_;refine wpAnyH_done (by kernel_rfl) ?_ _;obtain⟨d2a,d2b,d2c,d2d,_⟩:=hHeld
 (try clear hx5);clear hx6 X5
 by_cases g2:rq≤lp
 ·go_wp2
  go_ret;exact⟨by rw [←Hk.out,if_pos g2];rfl,X6⟩
 rw [if_neg g2]at Hk
 cases fa with
 | true =>
  go_wp2_with(go_at_call 99;(with_reducible refine(HE.out _ ?_).mono ?_);exact eA;rintro e w7 ⟨rfl,hx7⟩)
  go_ret;exact⟨by rw [←Hk.out];rfl,eA⟩
 | false =>
  cases fb with
  | true =>
   go_wp2_with(first|(go_at_call 99;(with_reducible refine(HE.out _ ?_).mono ?_);exact eA;rintro e w7 ⟨rfl,hx7⟩;have d3a:=hx7.cellS d2a;have d3b:=hx7.cellS d2b;have d3c:=hx7.cellS d2c;have d3d:=hx7.cellS d2d)|(go_at_call 99;(with_reducible refine(HF.out _ ?_).mono ?_);exact eA;rintro e w8 ⟨rfl,hx8⟩))
   go_ret;exact⟨by rw [←Hk.out];rfl,eA⟩
  | false =>
   go_wp2_with(first|(go_at_call 99;(with_reducible refine(HE.out _ ?_).mono ?_);exact eA;rintro e w7 ⟨rfl,hx7⟩;have d3a:=hx7.cellS d2a;have d3b:=hx7.cellS d2b;have d3c:=hx7.cellS d2c;have d3d:=hx7.cellS d2d)|(go_at_call 99;(with_reducible refine(HF.out _ ?_).mono ?_);exact eA;rintro e w8 ⟨rfl,hx8⟩))
   go_ret;exact⟨by rw [←Hk.out];rfl,eA⟩
theorem IsLas.at' {w:World} {a:Option Addr} {n c:Nat} {ps:List Pl} (h:IsLas w (.slice a n c) ps) {i:Nat} {p:Pl} (hp:ps[i]?=some p) :
  ∃b o s vl vu,a=some ⟨b,o,none⟩∧b<w.heap.size∧IsPts w s p.shape∧IsPts w vl (lowP2 p)∧IsPts w vu (upP2 p) ∧
   ∀(j:Nat) u,(lac p s vl vu)[j]?=some u→w.cell? ⟨b,o+i*12+j,none⟩=some u:=by
 obtain⟨b,o,d,rfl,hb,hl,⟨s,vl,vu,rfl,h1,h2,h3⟩,hc⟩:=Sl.at h hp;exact⟨b,o,s,vl,vu,rfl,hb,h1,h2,h3,fun j u hj=>hc j u (by rw [Array.getElem?_toList];exact hj)⟩
def LaB (W:World) (b:Nat) (p:Pl) (s vl vu:Value):Prop:=W.heap[b]?=some (.cells (lac p s vl vu) 145 (0,0))∧IsPts W s p.shape∧IsPts W vl (lowP2 p)∧IsPts W vu (upP2 p)
def clashB (q p:Pl):Bool:=meetB q p&&(relP q p==5)
def nameB (nm:ByteArray) (p:Pl):Bool:=p.name.toList==nm.toList
theorem nam1_any (w:World) (vp:Value) (p:Pl) (nm:ByteArray) (bq:Nat) (h:IsLa w vp p) (hq:w.cell? ⟨bq,0,none⟩=some (.string nm)) :
  Calls Tryz.prog 98 #[vp,.pointer (some ⟨bq,0,none⟩)] w fun e w'=>e = .returned (.bool (nameB nm p))∧Ext w w':=by
 obtain⟨s1,l1,u1,rfl,p1,p2,p3⟩:=h;obtain⟨sa1,sc1,rfl⟩:=p1.form;obtain⟨a1,c1,rfl⟩:=p2.form;obtain⟨ua1,uc1,rfl⟩:=p3.form;obtain⟨n1,f1⟩:∃x,(lowP2 p).length=x:=⟨_,rfl⟩;obtain⟨m1,f3⟩:∃x,(upP2 p).length=x:=⟨_,rfl⟩;obtain⟨j1,f5⟩:∃x,p.shape.length=x:=⟨_,rfl⟩;rw [f1,f3,f5];obtain⟨np,sh,d,de,gx,gz,wy,ax,az,sk⟩:=p;clear p1 p2 p3 f1 f3 f5;have zq:bq<w.heap.size:=World.block_lt_of_cell? w _ hq;have zq1:bq<w.heap.size+1:=by omega
 unfold lac nameB;dsimp only;go_enter Tryz.func98,Tryz.ntmps98;go_wp2;go_ret;exact⟨rfl,eA⟩
theorem clr1_any (w:World) (vp:Value) (p q:Pl) (bq:Nat) (s vl vu:Value) (h:IsLa w vp p) (hq:LaB w bq q s vl vu) (k1:placedOk p=true) (k2:placedOk q=true) :
  Calls Tryz.prog 100 #[vp,.pointer (some ⟨bq,0,none⟩)] w fun e w'=>e = .returned (.bool (clashB q p))∧Ext w w':=by
 obtain⟨hb,q1,q2,q3⟩:=hq;have HR:=hd9 (fun(W:World) (hW:Ext w W)=>relate_any W (.agg (lac q s vl vu)) vp q p ⟨_,_,_,rfl,q1.ext' hW,q2.ext' hW,q3.ext' hW⟩ (h.ext hW) k2 k1);obtain⟨s1,l1,u1,rfl,p1,p2,p3⟩:=h;have HM:=hd9 (fun(W:World)=>meet_any W q p s s1 (by obtain⟨a,c,h⟩:=q1.form;exact⟨a,_,c,h⟩) (by obtain⟨a,c,h⟩:=p1.form;exact⟨a,_,c,h⟩));obtain⟨sa1,sc1,rfl⟩:=p1.form;obtain⟨a1,c1,rfl⟩:=p2.form;obtain⟨ua1,uc1,rfl⟩:=p3.form;obtain⟨sa2,sc2,rfl⟩:=q1.form;obtain⟨a2,c2,rfl⟩:=q2.form;obtain⟨ua2,uc2,rfl⟩:=q3.form;obtain⟨n1,f1⟩:∃x,(lowP2 p).length=x:=⟨_,rfl⟩;obtain⟨n2,f2⟩:∃x,(lowP2 q).length=x:=⟨_,rfl⟩;obtain⟨m1,f3⟩:∃x,(upP2 p).length=x:=⟨_,rfl⟩;obtain⟨m2,f4⟩:∃x,(upP2 q).length=x:=⟨_,rfl⟩;obtain⟨j1,f5⟩:∃x,p.shape.length=x:=⟨_,rfl⟩;obtain⟨j2,f6⟩:∃x,q.shape.length=x:=⟨_,rfl⟩;obtain⟨r,f7⟩:∃x,relP q p=x:=⟨_,rfl⟩;obtain⟨m,f8⟩:∃x,meetB q p=x:=⟨_,rfl⟩;unfold clashB;simp only [f1,f2,f3,f4,f5,f6,f7,f8]at HR HM hb ⊢;obtain⟨nm,sh,d,de,gx,gz,wy,ax,az,sk⟩:=p;obtain⟨nm',sh',d',de',gx',gz',wy',ax',az',sk'⟩:=q;unfold lac at HR hb ⊢;unfold plc at HM;dsimp only at HR HM hb ⊢;have cc0:=qcB hb (i:=0) (u:=.string nm') rfl;have cc1:=qcB hb (i:=1) (u:=.slice sa2 j2 sc2) rfl;have cc2:=qcB hb (i:=2) (u:=.int .i64 d') rfl;have cc3:=qcB hb (i:=3) (u:=.int .i64 de') rfl;have cc4:=qcB hb (i:=4) (u:=.int .i64 gx') rfl;have cc5:=qcB hb (i:=5) (u:=.int .i64 gz') rfl;have cc6:=qcB hb (i:=6) (u:=.int .i64 wy') rfl;have cc7:=qcB hb (i:=7) (u:=.int .i64 ax') rfl;have cc8:=qcB hb (i:=8) (u:=.int .i64 az') rfl;have cc9:=qcB hb (i:=9) (u:=.int .u8 sk') rfl;have cc10:=qcB hb (i:=10) (u:=.slice a2 n2 c2) rfl;have cc11:=qcB hb (i:=11) (u:=.slice ua2 m2 uc2) rfl;have zq:bq<w.heap.size:=heap_lt hb;have zq1:bq<w.heap.size+1:=by omega
 clear hb p1 p2 p3 q1 q2 q3 k1 k2 f1 f2 f3 f4 f5 f6 f7 f8
 cases m with
 | false =>
  go_enter Tryz.func100,Tryz.ntmps100
  go_wp2_with(go_at_call 67;(with_reducible refine(HM.out _).mono ?_);rintro e w3 ⟨rfl,hx3⟩)
  go_ret;exact⟨rfl,eA⟩
 | true =>
  go_enter Tryz.func100,Tryz.ntmps100
  go_wp2_with(first|(go_at_call 67;(with_reducible refine(HM.out _).mono ?_);rintro e w3 ⟨rfl,hx3⟩;obtain⟨hc3,hf3⟩:=hx3.cells)|(go_at_call 101;(with_reducible refine(HR.out _ ?_).mono ?_);exact eA;rintro e w4 ⟨rfl,hx4⟩))
  go_ret;exact⟨rfl,eA⟩
def IlS (w:World) (f:Pl→Bool) (ps:List Pl) (g:Nat) (t8:Value) (W:World):Prop:=
 ∃i:Nat,i≤ps.length∧t8 = .int .i64 i∧g=ps.length-i∧Ext w W∧∀j y,j<i→ps[j]?=some y→f y=false
theorem ixnam_any (w:World) (v:Value) (ps:List Pl) (bq:Nat) (f:Pl→Bool) (h:IsLas w v ps)
  (hf:∀W,Ext w W→∀vp p,p∈ps→IsLa W vp p→Calls Tryz.prog 98 #[vp,.pointer (some ⟨bq,0,none⟩)] W fun e w'=>e = .returned (.bool (f p))∧Ext W w') :
  Calls Tryz.prog 139 #[v,.func (.func 98) #[] #[.pointer (some ⟨bq,0,none⟩)]] w fun e w'=>e = .returned (.int .i64 (idxB f ps))∧Ext w w':=by
 obtain⟨a,c,rfl⟩:=h.form;obtain⟨n,hn⟩:∃n,ps.length=n:=⟨_,rfl⟩;rw [hn]at h ⊢;have hle:=h.le;unfold maxLen at hle;have hnc:n≤9223372036854775807:=by omega
 have Hn:=hd9 hn;have Hf:=hd9 hf;clear hn hle hf;go_enter Tryz.func139,Tryz.ntmps139;go_wp2
 go_loopg [8] n (IlS w f ps)
 case atStart=>exact⟨0,by omega,rfl,by rw [Hn.out];rfl,Ext.refl _,fun j y hj=>by omega⟩
 case round =>
  obtain⟨i,hi,rfl,rfl,hx,hall⟩:=hrel;rw [Hn.out]at hi;have Hall:=hd9 hall;clear hall
  by_cases hlt:i<n
  ·obtain⟨p,hq⟩:∃q,ps[i]?=some q:=⟨ps[i]'(by rw [Hn.out];omega),by simp [Hn.out,hlt]⟩
   obtain⟨b,o,s,vl,vu,rfl,hb,d1,d2,d3,hc⟩:=(h.ext' hx).at' hq;have HC:=hd9 (fun W (hW:Ext wr W)=>Hf.out W (hx.trans hW) (.agg (lac p s vl vu)) p (lM hq) ⟨_,_,_,rfl,d1.ext' hW,d2.ext' hW,d3.ext' hW⟩);obtain⟨sa1,sc1,rfl⟩:=d1.form;obtain⟨a1,c1,rfl⟩:=d2.form;obtain⟨ua1,uc1,rfl⟩:=d3.form;obtain⟨n1,f1⟩:∃x,(lowP2 p).length=x:=⟨_,rfl⟩;obtain⟨m1,f3⟩:∃x,(upP2 p).length=x:=⟨_,rfl⟩;obtain⟨j1,f5⟩:∃x,p.shape.length=x:=⟨_,rfl⟩;obtain⟨fp,f7⟩:∃x,f p=x:=⟨_,rfl⟩;rw [f1,f3,f5]at hc HC;rw [f7]at HC;have F7:=hd9 f7;have cc0:=hc 0 (.string p.name) rfl;have cc1:=hc 1 (.slice sa1 j1 sc1) rfl;have cc2:=hc 2 (.int .i64 p.depth) rfl;have cc3:=hc 3 (.int .i64 p.density) rfl;have cc4:=hc 4 (.int .i64 p.gx) rfl;have cc5:=hc 5 (.int .i64 p.gz) rfl;have cc6:=hc 6 (.int .i64 p.way) rfl;have cc7:=hc 7 (.int .i64 p.ax) rfl;have cc8:=hc 8 (.int .i64 p.az) rfl;have cc9:=hc 9 (.int .u8 p.skin) rfl;have cc10:=hc 10 (.slice a1 n1 c1) rfl;have cc11:=hc 11 (.slice ua1 m1 uc1) rfl;simp only [Nat.add_zero]at cc0;have Hq:=hd9 hq;unfold lac at HC;clear hq hc d1 d2 d3 f1 f3 f5 f7
   cases fp with
   | true =>
    have e:idxB f ps=(i:Int):=idxB_some Hq.out F7.out Hall.out;have E:=hd9 e;clear e
    go_wp2_with(((go_at_call 98;(with_reducible refine(HC.out _ ?_).mono ?_);exact eA;rintro e w1 ⟨rfl,hx1⟩)))
    go_ret;exact⟨by rw [E.out];rfl,eA⟩
   | false =>
    go_wp2_with(((go_at_call 98;(with_reducible refine(HC.out _ ?_).mono ?_);exact eA;rintro e w1 ⟨rfl,hx1⟩)))
    go_roundg (n-(i+1))
    case measure=>have:=Hn.out;omega
    case rel =>
     refine⟨i+1,by have:=Hn.out;omega,by go_num,by rw [Hn.out],eA,fun j y hj hy=>?_⟩
     by_cases hji:j=i
     ·subst hji;rw [Hq.out]at hy;cases hy;exact F7.out
     ·exact Hall.out j y (by omega) hy
  ·obtain rfl:i=n:=by omega
   have e:idxB f ps = -1:=idxB_none (fun j y hj hy=>Hall.out j y (by rw [Hn.out]at hj;exact hj) hy);have E:=hd9 e;clear e;go_wp2;go_ret;exact⟨by rw [E.out];rfl,hx⟩
theorem ctnam_any (w:World) (v:Value) (ps:List Pl) (bq:Nat) (f:Pl→Bool) (h:IsLas w v ps)
  (hf:∀W,Ext w W→∀vp p,p∈ps→IsLa W vp p→Calls Tryz.prog 98 #[vp,.pointer (some ⟨bq,0,none⟩)] W fun e w'=>e = .returned (.bool (f p))∧Ext W w') :
  Calls Tryz.prog 97 #[v,.func (.func 98) #[] #[.pointer (some ⟨bq,0,none⟩)]] w fun e w'=>e = .returned (.bool (ps.any f))∧Ext w w':=by
 rw [←idxB_any];obtain⟨x,hx⟩:∃x,idxB f ps=x:=⟨_,rfl⟩;have hc:=fun W (hW:Ext w W)=>ixnam_any W v ps bq f (h.ext' hW) (fun W' hW'=>hf W' (hW.trans hW'))
 obtain⟨a,n,c,rfl⟩:∃a n c,v = .slice a n c:=by obtain⟨a,c,h⟩:=h.form;exact⟨a,_,c,h⟩
 rw [hx]at *;have Hc:=hd9 hc;clear hc hx h hf;go_enter Tryz.func97,Tryz.ntmps97
 go_wp2_with(((go_at_call 139;(with_reducible refine(Hc.out _ ?_).mono ?_);exact eA;rintro e w1 ⟨rfl,hx1⟩)))
 go_ret;exact⟨rfl,eA⟩
theorem ixclr_any (w:World) (v:Value) (ps:List Pl) (bq:Nat) (f:Pl→Bool) (h:IsLas w v ps)
  (hf:∀W,Ext w W→∀vp p,p∈ps→IsLa W vp p→Calls Tryz.prog 100 #[vp,.pointer (some ⟨bq,0,none⟩)] W fun e w'=>e = .returned (.bool (f p))∧Ext W w') :
  Calls Tryz.prog 139 #[v,.func (.func 100) #[] #[.pointer (some ⟨bq,0,none⟩)]] w fun e w'=>e = .returned (.int .i64 (idxB f ps))∧Ext w w':=by
 obtain⟨a,c,rfl⟩:=h.form;obtain⟨n,hn⟩:∃n,ps.length=n:=⟨_,rfl⟩;rw [hn]at h ⊢;have hle:=h.le;unfold maxLen at hle;have hnc:n≤9223372036854775807:=by omega
 have Hn:=hd9 hn;have Hf:=hd9 hf;clear hn hle hf;go_enter Tryz.func139,Tryz.ntmps139;go_wp2
 go_loopg [8] n (IlS w f ps)
 case atStart=>exact⟨0,by omega,rfl,by rw [Hn.out];rfl,Ext.refl _,fun j y hj=>by omega⟩
 case round =>
  obtain⟨i,hi,rfl,rfl,hx,hall⟩:=hrel;rw [Hn.out]at hi;have Hall:=hd9 hall;clear hall
  by_cases hlt:i<n
  ·obtain⟨p,hq⟩:∃q,ps[i]?=some q:=⟨ps[i]'(by rw [Hn.out];omega),by simp [Hn.out,hlt]⟩
   obtain⟨b,o,s,vl,vu,rfl,hb,d1,d2,d3,hc⟩:=(h.ext' hx).at' hq;have HC:=hd9 (fun W (hW:Ext wr W)=>Hf.out W (hx.trans hW) (.agg (lac p s vl vu)) p (lM hq) ⟨_,_,_,rfl,d1.ext' hW,d2.ext' hW,d3.ext' hW⟩);obtain⟨sa1,sc1,rfl⟩:=d1.form;obtain⟨a1,c1,rfl⟩:=d2.form;obtain⟨ua1,uc1,rfl⟩:=d3.form;obtain⟨n1,f1⟩:∃x,(lowP2 p).length=x:=⟨_,rfl⟩;obtain⟨m1,f3⟩:∃x,(upP2 p).length=x:=⟨_,rfl⟩;obtain⟨j1,f5⟩:∃x,p.shape.length=x:=⟨_,rfl⟩;obtain⟨fp,f7⟩:∃x,f p=x:=⟨_,rfl⟩;rw [f1,f3,f5]at hc HC;rw [f7]at HC;have F7:=hd9 f7;have cc0:=hc 0 (.string p.name) rfl;have cc1:=hc 1 (.slice sa1 j1 sc1) rfl;have cc2:=hc 2 (.int .i64 p.depth) rfl;have cc3:=hc 3 (.int .i64 p.density) rfl;have cc4:=hc 4 (.int .i64 p.gx) rfl;have cc5:=hc 5 (.int .i64 p.gz) rfl;have cc6:=hc 6 (.int .i64 p.way) rfl;have cc7:=hc 7 (.int .i64 p.ax) rfl;have cc8:=hc 8 (.int .i64 p.az) rfl;have cc9:=hc 9 (.int .u8 p.skin) rfl;have cc10:=hc 10 (.slice a1 n1 c1) rfl;have cc11:=hc 11 (.slice ua1 m1 uc1) rfl;simp only [Nat.add_zero]at cc0;have Hq:=hd9 hq;unfold lac at HC;clear hq hc d1 d2 d3 f1 f3 f5 f7
   cases fp with
   | true =>
    have e:idxB f ps=(i:Int):=idxB_some Hq.out F7.out Hall.out;have E:=hd9 e;clear e
    go_wp2_with(((go_at_call 100;(with_reducible refine(HC.out _ ?_).mono ?_);exact eA;rintro e w1 ⟨rfl,hx1⟩)))
    go_ret;exact⟨by rw [E.out];rfl,eA⟩
   | false =>
    go_wp2_with(((go_at_call 100;(with_reducible refine(HC.out _ ?_).mono ?_);exact eA;rintro e w1 ⟨rfl,hx1⟩)))
    go_roundg (n-(i+1))
    case measure=>have:=Hn.out;omega
    case rel =>
     refine⟨i+1,by have:=Hn.out;omega,by go_num,by rw [Hn.out],eA,fun j y hj hy=>?_⟩
     by_cases hji:j=i
     ·subst hji;rw [Hq.out]at hy;cases hy;exact F7.out
     ·exact Hall.out j y (by omega) hy
  ·obtain rfl:i=n:=by omega
   have e:idxB f ps = -1:=idxB_none (fun j y hj hy=>Hall.out j y (by rw [Hn.out]at hj;exact hj) hy);have E:=hd9 e;clear e;go_wp2;go_ret;exact⟨by rw [E.out];rfl,hx⟩
theorem ctclr_any (w:World) (v:Value) (ps:List Pl) (bq:Nat) (f:Pl→Bool) (h:IsLas w v ps)
  (hf:∀W,Ext w W→∀vp p,p∈ps→IsLa W vp p→Calls Tryz.prog 100 #[vp,.pointer (some ⟨bq,0,none⟩)] W fun e w'=>e = .returned (.bool (f p))∧Ext W w') :
  Calls Tryz.prog 97 #[v,.func (.func 100) #[] #[.pointer (some ⟨bq,0,none⟩)]] w fun e w'=>e = .returned (.bool (ps.any f))∧Ext w w':=by
 rw [←idxB_any];obtain⟨x,hx⟩:∃x,idxB f ps=x:=⟨_,rfl⟩;have hc:=fun W (hW:Ext w W)=>ixclr_any W v ps bq f (h.ext' hW) (fun W' hW'=>hf W' (hW.trans hW'))
 obtain⟨a,n,c,rfl⟩:∃a n c,v = .slice a n c:=by obtain⟨a,c,h⟩:=h.form;exact⟨a,_,c,h⟩
 rw [hx]at *;have Hc:=hd9 hc;clear hc hx h hf;go_enter Tryz.func97,Tryz.ntmps97
 go_wp2_with(((go_at_call 139;(with_reducible refine(Hc.out _ ?_).mono ?_);exact eA;rintro e w1 ⟨rfl,hx1⟩)))
 go_ret;exact⟨rfl,eA⟩
theorem ground_ok {g:List (Int×Int)} (h:groundB g=true):LnOk g:=by
 unfold groundB at h;rw [Bool.and_eq_true,List.all_eq_true]at h;obtain⟨h1,h2⟩:=h;unfold wthn at h1;simp at h1;refine⟨fun e=>by subst e;simp at h1,fun p hp=>?_,by omega⟩;obtain⟨i,hi,rfl⟩:=List.mem_iff_getElem.1 hp;have h3:=h2 i (List.mem_range.2 hi);unfold grdR at h3;rw [List.getD_eq_getElem?_getD,List.getElem?_eq_getElem hi,Option.getD_some]at h3;simp only [Bool.and_eq_true,Bool.not_eq_true']at h3;have e1:=h3.1;have e2:=h3.2.1;unfold pfarB at e1 e2;simp at e1 e2
 constructor<;>(unfold Bd;omega)
def holdsB (g:List (Int×Int)) (p:Pl):Bool:=decide (lineL g≤lineL (lowP2 p))&&decide (lineR (lowP2 p)≤lineR g)
def clearB (g:List (Int×Int)) (ps:List Pl) (p:Pl):Bool:=freeB (lowP2 p) g&&!ps.any (clashB p)
theorem form3 {T:TypeId} {k:Nat} {α:Type} {P:World→List Value→α→Prop} {w:World} {v:Value} {xs:List α} (h:Sl T k P w v xs):∃a n c,v = .slice a n c:=by obtain⟨a,c,h⟩:=h.form;exact⟨a,_,c,h⟩
theorem named_site_any (w:World) (vg vs:Value) (ps:List Pl) (nm:ByteArray) (hg:∃a n c,vg = .slice a n c) (h:IsLas w vs ps) :
  Calls Tryz.prog 65 #[.agg #[vg,vs],.string nm] w fun e w'=>e = .returned (.bool (ps.any (nameB nm)))∧Ext w w':=by
 obtain⟨ga,gn,gc,rfl⟩:=hg;have hc:=fun W (hW:Ext w W) (bq:Nat) (hq:W.cell? ⟨bq,0,none⟩=some (.string nm))=>ctnam_any W vs ps bq (nameB nm) (h.ext' hW) (fun W' hW' vp p _ hp=>nam1_any W' vp p nm bq hp (hW'.cellS hq))
 obtain⟨a,n,c,rfl⟩:=form3 h;obtain⟨x,hx⟩:∃x,ps.any (nameB nm)=x:=⟨_,rfl⟩;simp only [hx]at hc ⊢;have Hc:=hd9 hc;clear hc hx h;have hmf:∀(fn:Fn) (first cap:Array Value) (w:World),(Instr.makeFunc fn first cap).run Tryz.prog w = .ok (.func fn first cap) w:=fun _ _ _ _=>rfl
 go_enter Tryz.func65,Tryz.ntmps65
 go_wp2_with(((go_at_call 97;(with_reducible refine(Hc.out _ ?_ _ ?_).mono ?_);exact eA;(focus(go_simp;done));rintro e w1 ⟨rfl,hx1⟩)))
 go_ret;exact⟨rfl,eA⟩
theorem clear_any (w:World) (vg vs vp:Value) (g:List (Int×Int)) (ps:List Pl) (p:Pl) (hg:IsPts w vg g) (h:IsLas w vs ps) (hp:IsLa w vp p) (k0:LnOk g) (k1:∀q∈ps,placedOk q=true) (k2:placedOk p=true) :
  Calls Tryz.prog 66 #[.agg #[vg,vs],vp] w fun e w'=>e = .returned (.bool (clearB g ps p))∧Ext w w':=by
 obtain⟨s1,l1,u1,rfl,p1,p2,p3⟩:=hp;have HC:=hd9 (fun W (hW:Ext w W) (bq:Nat) (hq:W.heap[bq]?=some (.cells (lac p s1 l1 u1) 145 (0,0)))=>ctclr_any W vs ps bq (clashB p) (h.ext' hW) (fun W' hW' vq q hqm hq'=>clr1_any W' vq q p bq s1 l1 u1 hq' ⟨hW'.heapS hq,p1.ext' (hW.trans hW'),p2.ext' (hW.trans hW'),p3.ext' (hW.trans hW')⟩ (k1 q hqm) k2));have HF:=hd9 (fun W (hW:Ext w W)=>free_any W l1 vg (lowP2 p) g (p2.ext' hW) (hg.ext' hW) (lines_ok k2).1 k0);obtain⟨ga,gn,gc,rfl⟩:=form3 hg;obtain⟨a,n,c,rfl⟩:=form3 h;obtain⟨sa1,sn1,sc1,rfl⟩:=form3 p1;obtain⟨a1,n1,c1,rfl⟩:=form3 p2;obtain⟨ua1,un1,uc1,rfl⟩:=form3 p3;obtain⟨fr,f1⟩:∃x,freeB (lowP2 p) g=x:=⟨_,rfl⟩;obtain⟨cl,f2⟩:∃x,ps.any (clashB p)=x:=⟨_,rfl⟩;unfold clearB;rw [f1]at HF ⊢;rw [f2]at HC ⊢;obtain⟨nm,sh,d,de,gx,gz,wy,ax,az,sk⟩:=p;clear f1 f2 hg h p1 p2 p3 k0 k1 k2;unfold lac at HC ⊢;dsimp only at HC ⊢;have hmf:∀(fn:Fn) (first cap:Array Value) (w:World),(Instr.makeFunc fn first cap).run Tryz.prog w = .ok (.func fn first cap) w:=fun _ _ _ _=>rfl
 cases fr with
 | false =>
  go_enter Tryz.func66,Tryz.ntmps66
  go_wp2_with(go_at_call 99;(with_reducible refine(HF.out _ ?_).mono ?_);exact eA;rintro e w1 ⟨rfl,hx1⟩)
  go_ret;exact⟨rfl,eA⟩
 | true =>
  go_enter Tryz.func66,Tryz.ntmps66
  go_wp2_with(first|(go_at_call 99;(with_reducible refine(HF.out _ ?_).mono ?_);exact eA;rintro e w1 ⟨rfl,hx1⟩;obtain⟨hc1,hf1⟩:=hx1.cells)|(go_at_call 97;(with_reducible refine(HC.out _ ?_ _ ?_).mono ?_);exact eA;(exact hx1.heapS (qhA _ _ _ (by simp)));rintro e w2 ⟨rfl,hx2⟩))
  go_ret;exact⟨rfl,eA⟩
theorem holds_any (w:World) (vg vs vp:Value) (g:List (Int×Int)) (p:Pl) (hg:IsPts w vg g) (h:∃a n c,vs = .slice a n c) (hp:IsLa w vp p) (k0:LnOk g) (k2:placedOk p=true) :
  Calls Tryz.prog 64 #[.agg #[vg,vs],vp] w fun e w'=>e = .returned (.bool (holdsB g p))∧Ext w w':=by
 obtain⟨s1,l1,u1,rfl,p1,p2,p3⟩:=hp;have o1:=(lines_ok k2).1;have HA:=hd9 (fun(W:World) (hW:Ext w W)=>left_any W vg g (hg.ext' hW) (List.length_pos_iff.2 k0.1));have HB:=hd9 (fun(W:World) (hW:Ext w W)=>left_any W l1 (lowP2 p) (p2.ext' hW) (List.length_pos_iff.2 o1.1));have HC:=hd9 (fun(W:World) (hW:Ext w W)=>right_any W l1 (lowP2 p) (p2.ext' hW) (List.length_pos_iff.2 o1.1));have HD:=hd9 (fun(W:World) (hW:Ext w W)=>right_any W vg g (hg.ext' hW) (List.length_pos_iff.2 k0.1));obtain⟨ga,gn,gc,rfl⟩:=form3 hg;obtain⟨a,n,c,rfl⟩:=h;obtain⟨sa1,sn1,sc1,rfl⟩:=form3 p1;obtain⟨a1,n1,c1,rfl⟩:=form3 p2;obtain⟨ua1,un1,uc1,rfl⟩:=form3 p3;unfold holdsB;obtain⟨gl,f1⟩:∃x,lineL g=x:=⟨_,rfl⟩;obtain⟨gr,f2⟩:∃x,lineR g=x:=⟨_,rfl⟩;obtain⟨pl,f3⟩:∃x,lineL (lowP2 p)=x:=⟨_,rfl⟩;obtain⟨pr,f4⟩:∃x,lineR (lowP2 p)=x:=⟨_,rfl⟩;simp only [f1,f2,f3,f4]at HA HB HC HD ⊢;obtain⟨nm,sh,d,de,gx,gz,wy,ax,az,sk⟩:=p;clear f1 f2 f3 f4 hg p1 p2 p3 k0 k2 o1;unfold lac;dsimp only;go_enter Tryz.func64,Tryz.ntmps64;go_wp2;refine wp_region_held_drew (S:=CellL [(⟨w.heap.size,0,none⟩,.slice ga gn gc),(⟨w.heap.size+1,10,none⟩,.slice a1 n1 c1)]) (by kernel_rfl) (by refine⟨?_,?_,trivial⟩<;>go_simp) (fun hHeld=>?_);refine sN 0 ?_
 iterate 2
  refine tkn ?_
 refine oN ?_;refine sN 3 ?_
 iterate 2
  refine tkn ?_
 refine oN ?_;refine cl1 (i:=2) fun K hK=>?_
 go_simp
 (with_reducible refine Calls.mono (HA.out _ eA) ?_)
 rintro e w3 ⟨rfl,hx3⟩
 skip
 go_wp2_with fail
 refine kO hK (CellL.ext hHeld hx3) (fun hHeld=>?_);clear hK K;have X3:Ext w w3:=eA;refine cl1 (i:=5) fun K hK=>?_
 go_simp
 (with_reducible refine Calls.mono (HB.out _ X3) ?_)
 rintro e w4 ⟨rfl,hx4⟩
 skip
 go_wp2_with fail
 refine kO hK (CellL.ext hHeld hx4) (fun hHeld=>?_);clear hK K;have X4:=X3.trans hx4;refine sN 6 ?_
 iterate 2
  refine tkn ?_
 refine oN ?_
 by_cases g1:gl≤pl
 ·have e1:decide (gl≤pl)=true:=by simpa using g1
  rw [e1];refine sN 8 ?_
  iterate 2
   refine tkn ?_
  refine oN ?_;refine sN 11 ?_
  iterate 2
   refine tkn ?_
  refine oN ?_;refine cl1 (i:=10) fun K hK=>?_
  go_simp
  (with_reducible refine Calls.mono (HC.out _ X4) ?_)
  rintro e w5 ⟨rfl,hx5⟩
  skip
  go_wp2_with fail
  refine kO hK (CellL.ext hHeld hx5) (fun hHeld=>?_);clear hK K;have X5:=X4.trans hx5;refine cl1 (i:=13) fun K hK=>?_
  go_simp
  (with_reducible refine Calls.mono (HD.out _ X5) ?_)
  rintro e w6 ⟨rfl,hx6⟩
  skip
  go_wp2_with fail
  refine kO hK (CellL.ext hHeld hx6) (fun hHeld=>?_);clear hK K;have X6:=X5.trans hx6;refine sN 14 ?_
  iterate 3
   refine tkn ?_
  refine oN ?_;refine wpAnyH_done (by kernel_rfl) ?_ _;go_wp2;go_ret;exact⟨by rw [e1];rfl,X6⟩
 ·have e1:decide (gl≤pl)=false:=by simpa using g1
  rw [e1];refine sN 8 ?_
  iterate 2
   refine tkgn ?_
  refine oN ?_;refine sN 11 ?_
  iterate 2
   refine tkgn ?_
  refine oN ?_;refine tkg1 (i:=10) ?_;refine sN 13 ?_
  iterate 2
   refine tkgn ?_
  iterate 2
   refine tkn ?_
  refine oN ?_;refine wpAnyH_done (by kernel_rfl) ?_ _;go_wp2;go_ret;exact⟨by simp,X4⟩
def addE (g:List (Int×Int)) (done:List Pl) (p:Pl):Int:=if placedOk p then (if holdsB g p then (if done.any (nameB p.name)then 7 else 0)else 2)else 2
def laid1 (g:List (Int×Int)):List Pl→List Pl→Int
 | _,[]=>0
 | done,p::r=>if addE g done p=0 then laid1 g (done++[p]) r else addE g done p
def laid2 (g:List (Int×Int)):List Pl→List Pl→Int
 | _,[]=>0
 | done,p::r=>if clearB g done p then laid2 g (done++[p]) r else 12
def laidP (g:List (Int×Int)) (ps:List Pl):Int:=if groundB g then (if 120<ps.length then 5 else if laid1 g [] ps=0 then laid2 g [] ps else laid1 g [] ps)else 2
theorem drop_cons {α:Type} {ps:List α} {i:Nat} {p:α} (h:ps[i]?=some p):ps.drop i=p::ps.drop (i+1):=by
 obtain⟨hi,rfl⟩:=lS.1 h;exact List.drop_eq_getElem_cons hi
theorem laid1_step {g:List (Int×Int)} {ps:List Pl} {i:Nat} {p:Pl} (h:ps[i]?=some p) (h0:addE g (ps.take i) p=0):laid1 g (ps.take i) (ps.drop i)=laid1 g (ps.take (i+1)) (ps.drop (i+1)):=by
 rw [drop_cons h,take_add_one' _ _ _ h,laid1,if_pos h0]
theorem laid1_stop {g:List (Int×Int)} {ps:List Pl} {i:Nat} {p:Pl} (h:ps[i]?=some p) (h0:addE g (ps.take i) p≠0):laid1 g (ps.take i) (ps.drop i)=addE g (ps.take i) p:=by
 rw [drop_cons h,laid1,if_neg h0]
theorem laid2_step {g:List (Int×Int)} {ps:List Pl} {i:Nat} {p:Pl} (h:ps[i]?=some p) (h0:clearB g (ps.take i) p=true):laid2 g (ps.take i) (ps.drop i)=laid2 g (ps.take (i+1)) (ps.drop (i+1)):=by
 rw [drop_cons h,take_add_one' _ _ _ h,laid2,if_pos h0]
theorem laid2_stop {g:List (Int×Int)} {ps:List Pl} {i:Nat} {p:Pl} (h:ps[i]?=some p) (h0:clearB g (ps.take i) p=false):laid2 g (ps.take i) (ps.drop i)=12:=by
 rw [drop_cons h,laid2,h0];rfl
def OwnLa (w:World) (base:Nat) (v:Value) (ps:List Pl):Prop:=∃cs,OwnC 145 12 w base v cs∧cs.length=ps.length∧∀(i:Nat) c p,cs[i]?=some c→ps[i]?=some p→PLa w c p
theorem OwnLa.las {w:World} {base:Nat} {v:Value} {ps:List Pl} (h:OwnLa w base v ps):IsLas w v ps:=by
 obtain⟨cs,h1,h2,h3⟩:=h;exact h1.sl h2 h3
theorem OwnLa.nil (w:World) (base:Nat):OwnLa w base (.slice none 0 0) []:=⟨[],OwnC.nil _ _ _ _,rfl,fun i c p hc=>by simp at hc⟩
theorem OwnLa.form3 {w:World} {base:Nat} {v:Value} {ps:List Pl} (h:OwnLa w base v ps):∃a n c,v = .slice a n c:=by obtain⟨cs,h1,_⟩:=h;exact h1.form3
theorem OwnLa.setOther {w:World} {base:Nat} {v:Value} {ps:List Pl} {q:Addr} (h:OwnLa w base v ps) (hp:v.ownBlock≠some q.block) (hn:NoT 42 w q.block) (u:Value):OwnLa (w.setCell q u) base v ps:=by
 obtain⟨cs,h1,h2,h3⟩:=h;exact⟨cs,h1.setOther hp u,h2,fun i c p hc hx=>(h3 i c p hc hx).keep ((KeepT.refl _ w).setN hn u)⟩
theorem OwnLa.lt {w:World} {base:Nat} {v:Value} {ps:List Pl} (h:OwnLa w base v ps):∀j,v.ownBlock=some j→base≤j∧j<w.heap.size:=by obtain⟨cs,h1,_⟩:=h;exact h1.lt
theorem OwnLa.app {wr w8:World} {base:Nat} {v':Value} {ps:List Pl} {cs:List (List Value)} {d:List Value} {p:Pl} (h:OwnC 145 12 w8 base v' (cs++[d])) (hcl:cs.length=ps.length)
  (hcp:∀(i:Nat) c p,cs[i]?=some c→ps[i]?=some p→PLa wr c p) (hk:KeepT 42 wr w8) (hd:PLa w8 d p):OwnLa w8 base v' (ps++[p]):=by
 refine⟨cs++[d],h,by simp [hcl],fun i c x hc hx=>?_⟩
 by_cases hi:i<cs.length
 ·rw [List.getElem?_append_left hi]at hc
  rw [List.getElem?_append_left (by omega)]at hx;exact(hcp i c x hc hx).keep hk
 ·rw [List.getElem?_append_right (by omega)]at hc hx
  have hl:=(lS.1 hc).1;simp at hl;have:i-cs.length=0:=by omega
  rw [this]at hc;rw [show i-ps.length=0 by omega]at hx;simp at hc hx;subst hc hx;exact hd
theorem info_la:(Tryz.prog.info? 145).map (fun i=>(i.zero,i.size,i.bytes))=some (some (.agg la0),12,152):=by kernel_rfl
theorem news_blk (W:World) (cs:Array Value) (T:TypeId):∀(j:Nat) u,[cs.toList].flatten[j]?=some u→(W.alloc (.cells cs T)).cell? ((⟨W.heap.size,0,none⟩:Addr).add j)=some u:=by
 intro j u hj;rw [List.flatten_cons,List.flatten_nil,List.append_nil,Array.getElem?_toList]at hj;have e:=qcB (heap_alloc_new W (.cells cs T)) hj;unfold Addr.add
 split
 ·subst j;exact e
 ·rw [show (⟨W.heap.size,0,none⟩:Addr).off+j=j by simp];exact e
def PPl (w:World) (c:List Value) (p:Pl):Prop:=∃v,c=(plc p v).toList∧IsPts w v p.shape∧0≤p.skin
theorem PPl.ext {w w':World} {c:List Value} {p:Pl} (h:PPl w c p) (k:Ext w w'):PPl w' c p:=by
 obtain⟨v,h1,h2,h3⟩:=h;exact⟨v,h1,h2.ext' k,h3⟩
abbrev IsPls (w:World) (v:Value) (ps:List Pl):Prop:=Sl 46 10 PPl w v ps
theorem IsPls.ext' {w w':World} {v:Value} {ps:List Pl} (h:IsPls w v ps) (k:Ext w w'):IsPls w' v ps:=Sl.ext h (fun _ _ h=>PPl.ext h k) k
theorem IsPls.at' {w:World} {a:Option Addr} {n c:Nat} {ps:List Pl} (h:IsPls w (.slice a n c) ps) {i:Nat} {p:Pl} (hp:ps[i]?=some p) :
  ∃b o v,a=some ⟨b,o,none⟩∧b<w.heap.size∧IsPts w v p.shape∧0≤p.skin∧∀(j:Nat) u,(plc p v)[j]?=some u→w.cell? ⟨b,o+i*10+j,none⟩=some u:=by
 obtain⟨b,o,d,rfl,hb,hl,⟨v,rfl,h1,h2⟩,hc⟩:=Sl.at h hp;exact⟨b,o,v,rfl,hb,h1,h2,fun j u hj=>hc j u (by rw [Array.getElem?_toList];exact hj)⟩
end Go.Proofs.YteipgejmhfpkaaaGreatDoor.Cop
