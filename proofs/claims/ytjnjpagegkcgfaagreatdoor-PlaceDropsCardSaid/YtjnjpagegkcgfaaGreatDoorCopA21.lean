/- Part 22: contracts of what the law calls. -/
import Derived.Test.YtjnjpagegkcgfaaGreatDoorCopA20
set_option maxRecDepth 1000000
set_option maxHeartbeats 16000000
set_option linter.unusedSimpArgs false
set_option linter.unusedVariables false
open Go.Value renaming slice→O,int→Z,bool→V,agg→I
open Option renaming none→Y,some→M
open Go.IntKind renaming i64→X
open Go.Obj renaming cells→J
open Go renaming World→C
namespace Go.Proofs.YtjnjpagegkcgfaaGreatDoor.Cop
section
open Go.RowKit Go.Shelf Go.Sort Go.Lib
theorem Rb.gap {s:Sp} {x:Rat} (a:Rb 1 x) (h:SpOk s):Rb 23 (gapR s x):=by
 unfold gapR;exact Rb.sub (k:=11) (a.atR h.1) (a.atR h.2.1)
theorem zav {k:Nat} {q:Rat} (h:Rb k q) (a:k≤1000000):Rb limR q:=h.mono a
theorem zmu (w:C) (s:Sp) (c d e:Value) (x:Rat) (f:IsPts w c s.over) (g:IsPts w d s.under) (a:SpOk s) (h:IsR w e x) (b:Rb 1 x) :
  Calls Tryz.prog 133 #[spc s c d,e] w (RetR w (gapR s x)):=
 zni w s c d e x f g a.1 a.2.1 h (b.mono oM) (zav (b.atR a.1) oM) (zav (b.atR a.2.1) oM)
theorem zap {s:Sp} (h:SpOk s):∀q∈stopsR s,Rb 1 q:=by
 intro q a;obtain⟨z,b,rfl⟩:=List.mem_map.1 a;exact zaD (zf8 h z b)
def bestStep (f:Rat→Rat) (o:Rat×Rat) (x:Rat):Rat×Rat:=if rcmp (f x) o.2<0 then (x,f x)else o
def bestR (f:Rat→Rat):List Rat→Rat×Rat
 | []=>(0,0)
 | x::xs=>xs.foldl (bestStep f) (x,f x)
theorem zeu (f:Rat→Rat) (xs:List Rat) (x:Rat) (h:xs≠[]):bestR f (xs++[x])=bestStep f (bestR f xs) x:=by
 cases xs with
 | nil=>exact absurd rfl h
 | cons y a=>simp [bestR]
theorem zaJ (f:Rat→Rat) {xs:List Rat} (h:xs≠[]):(bestR f xs).1∈xs∧(bestR f xs).2=f (bestR f xs).1:=by
 cases xs with
 | nil=>exact absurd rfl h
 | cons x xs =>
  have:∀(b:List Rat) (a:Rat×Rat),a.2=f a.1→(b.foldl (bestStep f) a).2=f (b.foldl (bestStep f) a).1∧((b.foldl (bestStep f) a).1=a.1∨(b.foldl (bestStep f) a).1∈b):=by
   intro b
   induction b with
   | nil=>intro a h;exact⟨h,.inl rfl⟩
   | cons y b j =>
    intro a g;rw [List.foldl_cons];have i:(bestStep f a y).2=f (bestStep f a y).1:=by unfold bestStep;split<;>first|rfl|exact g
    obtain⟨c,d⟩:=j _ i;refine⟨c,?_⟩
    rcases d with e|e
    ·rw [e]
     unfold bestStep
     split
     ·exact .inr sM
     ·exact .inl rfl
    ·exact .inr (mC _ e)
  obtain⟨c,d⟩:=this xs (x,f x) rfl;refine⟨?_,c⟩
  rcases d with e|e
  ·show (xs.foldl (bestStep f) (x,f x)).1∈_;rw [e];simp
  ·exact mC _ e
def RetR2 (w:C) (p q:Rat) (e:Ending) (w':C):Prop:=∃r s,e = .returned (.tuple #[r,s])∧IsR w' r p∧IsR w' s q∧Ext w w'
theorem CellL.set3d {L:List (Addr×Value)} {W:C} {b:Nat} (h:CellL L W.drew) (a:∀q∈L,b≠q.1.block) (u v t:Value):CellL L (((W.setCell ⟨b,0,Y⟩ u).setCell ⟨b,1,Y⟩ v).setCell ⟨b,2,Y⟩ t).drew:=
 CellL.set3 h a u v t
theorem RB.put3 {W W':C} {d:Nat} {p v:Rat} {a i:Option Addr} {m c j c2:Nat} {s:Bool} (h:RB W d v) (u:IsR W (I #[O a m c,V s,O i j c2]) p)
  (f:((W.setCell ⟨d,0,Y⟩ (O a m c)).setCell ⟨d,1,Y⟩ (V s)).setCell ⟨d,2,Y⟩ (O i j c2)=W'):RB W' d p∧(∀b r,b≠d→RB W b r→RB W' b r)∧KeepT 2 W W'∧W'.heap.size=W.heap.size∧(∀w:C,Ext w W→w.heap.size≤d→Ext w W'):=by
 have e:=h.not;have t:=h.put u;rw [f]at t;refine⟨t,fun b r l k=>?_,?_,?_,fun w k n=>?_⟩
 ·have o:=k.other (p:=⟨d,0,Y⟩) (Ne.symm l) e (O a m c)
  have q:=o.other (p:=⟨d,1,Y⟩) (Ne.symm l) (e.set _ _) (V s);have g:=q.other (p:=⟨d,2,Y⟩) (Ne.symm l) ((e.set _ _).set _ _) (O i j c2);rw [f]at g;exact g
 ·have o:=(KeepT.refl 2 W).setN (p:=⟨d,0,Y⟩) e (O a m c)
  have q:=o.setN (p:=⟨d,1,Y⟩) (e.set _ _) (V s);have g:=q.setN (p:=⟨d,2,Y⟩) ((e.set _ _).set _ _) (O i j c2);rw [f]at g;exact g
 ·rw [←f];simp
 ·rw [←f];exact((k.set n _).set n _).set n _
theorem RB.copy2 {W D g:C} {d f:Nat} {p q p' q':Rat} {a i e P:Option Addr} {m c R c2 n k S Q:Nat} {s t:Bool} (h1:RB W d p') (h2:RB W f q') (j:d≠f)
  (y:IsR W (I #[O a m c,V s,O i R c2]) p) (z:IsR W (I #[O e n k,V t,O P S Q]) q)
  (l:((W.setCell ⟨d,0,Y⟩ (O a m c)).setCell ⟨d,1,Y⟩ (V s)).setCell ⟨d,2,Y⟩ (O i R c2)=D)
  (o:((D.setCell ⟨f,0,Y⟩ (O e n k)).setCell ⟨f,1,Y⟩ (V t)).setCell ⟨f,2,Y⟩ (O P S Q)=g) :
  RB g d p∧RB g f q∧(∀b r,b≠d→b≠f→RB W b r→RB g b r)∧KeepT 2 W g∧g.heap.size=W.heap.size∧(∀w:C,Ext w W→w.heap.size≤d→w.heap.size≤f→Ext w g):=by
 obtain⟨T,i,K,a4,a5⟩:=h1.put3 y l;obtain⟨b1,L,b3,b4,b5⟩:=(i _ _ (Ne.symm j) h2).put3 (z.keep K) o;exact⟨L _ _ j T,b1,fun b r hb u h=>L _ _ u (i _ _ hb h),K.trans b3,b4.trans a4,fun w k v x=>b5 w (a5 w k v) x⟩
def BeS (w:C) (f:Rat→Rat) (a:List Rat) (g:Nat) (b:Value) (W:C):Prop:=
 ∃i:Nat,i≤a.length∧b=Z X i∧g=a.length-i∧Ext w W∧RB W w.heap.size 0∧RB W (w.heap.size+1) 0∧RB W (w.heap.size+1+1) (bestR f (a.take i)).1∧RB W (w.heap.size+1+1+1) (bestR f (a.take i)).2
theorem zk8 (w:C) (v v1 v2:Value) (s:Sp) (Q:List Rat) (hs:IsRs w v Q) (h1:IsPts w v1 s.over) (h2:IsPts w v2 s.under) (an:SpOk s) (T:∀q∈Q,Rb 1 q) :
  Calls Tryz.prog 113 #[v,.func (.func 133) #[spc s v1 v2] #[]] w (RetR2 w (bestR (gapR s) Q).1 (bestR (gapR s) Q).2):=by
 obtain⟨a,c,rfl⟩:=hs.form;obtain⟨n,hn⟩:=gX Q.length;rw [hn]at hs ⊢;have aM:=hs.le;unfold maxLen at aM;have Hn:=hd9 hn;have Hq:=hd9 T;have ay:=hd9 an;have aV:n≤9223372036854775807:=oM
 have HG:=hd9 (fun(W:C) (hW:Ext w W) (vx:Value) (x:Rat) (hx:IsR W vx x) (hb:Rb 1 x)=>zmu W s v1 v2 vx x (h1.ext' hW) (h2.ext' hW) an hx hb);obtain⟨sv,aO⟩:=gX (spc s v1 v2);rw [aO]at HG ⊢;obtain⟨R,hR⟩:=gX (RetR2 w (bestR (gapR s) Q).1 (bestR (gapR s) Q).2);rw [hR];have HR:=hd9 hR;clear hn T aM aO an hR;go_enter Tryz.func113,Tryz.ntmps113;go_wp2
 go_loopg [13] n (BeS w (gapR s) Q)
 case atStart =>
  have z:∀W,IsR W (I #[O Y 0 0,V false,O Y 0 0]) 0:=fun W=>IsR.zero _
  exact⟨0,by omega,rfl,by rw [Hn.out];rfl,eA,(RB.new (z w) rfl).ext ((((eR _).alloc _).alloc _).alloc _),(RB.new (z _) sM).ext (((eR _).alloc _).alloc _),(RB.new (z _) sM).ext ((eR _).alloc _),RB.new (z _) sM⟩
 case round =>
  obtain⟨i,hi,rfl,rfl,hx,hA,hB,hC,hD⟩:=hrel;rw [Hn.out]at hi;have Hx:=hd9 hx;have HA:=hd9 hA;have HB:=hd9 hB;have HC:=hd9 hC;have HD:=hd9 hD
  by_cases aS:i<n
  ·obtain⟨x,al⟩:∃x,Q[i]?=M x:=⟨Q[i]'(by rw [Hn.out];omega),by simp [Hn.out,aS]⟩
   obtain⟨b,o,a3,m3,c3,s3,a4,m4,c4,rfl,aU,ae,e0,e1,e2⟩:=(hs.ext' hx).at' al;have az:=hd9 al;have aJ:=Hq.out x (lM al);have ai:=hd9 aJ;clear al hA hB hC hx aJ;obtain⟨d1,dm,dc,ds,d2,aH,aD,aA,aB,aC,aE,aF,aG,zD,am⟩:=hD.rd
   by_cases h0:i=0
   ·have aQ:((i:Int)==0)=true:=by simp;omega
    have H0:=hd9 h0;clear h0 hD
    go_wp2_with(((go_at_call 133;(with_reducible refine(HG.out _ ?_ (I #[O a3 m3 c3,V s3,O a4 m4 c4]) x ?_ ai.out).mono ?_);(refine Ext.trans Hx.out ?_;exact eA);(refine ae.ext ?_;exact eA);rintro e w1 ⟨r1,rfl,L,f⟩;obtain⟨b1,n1,k1,t1,b2,n2,k2,rfl⟩:=L.form;obtain⟨aj,ak⟩:=f.cells;(have z1:wr.heap.size<w1.heap.size:=(by have:=f.size;simp only [wZ]at this;omega)))))
    obtain⟨W8,ag⟩:=gX ((w1.alloc (J #[O b1 n1 k1,V t1,O b2 n2 k2] 63)));have d:Ext wr W8:=by rw [←ag];exact(((eR _).alloc _).trans f).alloc _
    have g1:RB W8 wr.heap.size x:=by rw [←ag];exact((RB.new ae rfl).ext f).ext ((eR _).alloc _)
    have g2:RB W8 w1.heap.size (gapR s x):=by rw [←ag];exact RB.new L rfl
    have g3:=HC.out.ext d;have g4:=HD.out.ext d;have zW:=d.size;obtain⟨s1,ah⟩:=gX w1.heap.size;rw [ag];simp only [ah]at *;clear ag aj ak L f am aA aB aC aE aF aG ah e0 e1 e2 ae;obtain⟨pa,pm,l,ps,j,p,m,p0,p1,p2,_,_,_,pz,hp⟩:=(g1).rd;obtain⟨qa,qm,qc,y,r,u,t,q0,q1,q2,_,_,_,qz,af⟩:=(g2).rd;obtain⟨_,_,_,_,_,_,_,x0,x1,x2,ao,ap,aq,xz,_⟩:=(g3).rd;obtain⟨_,_,_,_,_,_,_,y0,y1,y2,ar,au,av,yz,_⟩:=(g4).rd;refine wp_region_held_drew (S:=CellL [(⟨wr.heap.size,0,Y⟩,O pa pm l),(⟨wr.heap.size,1,Y⟩,V ps),(⟨wr.heap.size,2,Y⟩,O j p m),(⟨s1,0,Y⟩,O qa qm qc),(⟨s1,1,Y⟩,V y),(⟨s1,2,Y⟩,O r u t)]) kM cA (fun g=>?_);refine sN 0 ?_
    iterate 2
     refine tkn ?_
    refine oN ?_
    have aa:∀q∈[((⟨wr.heap.size,0,Y⟩:Addr),Value.slice pa pm l),(⟨wr.heap.size,1,Y⟩,V ps),(⟨wr.heap.size,2,Y⟩,O j p m),(⟨s1,0,Y⟩,O qa qm qc),(⟨s1,1,Y⟩,V y),(⟨s1,2,Y⟩,O r u t)],w.heap.size+1+1≠q.1.block:=by
     intro q T;simp at T
     rcases T with rfl|rfl|rfl|rfl|rfl|rfl<;>(dsimp only;omega)
    have ab:∀q∈[((⟨wr.heap.size,0,Y⟩:Addr),Value.slice pa pm l),(⟨wr.heap.size,1,Y⟩,V ps),(⟨wr.heap.size,2,Y⟩,O j p m),(⟨s1,0,Y⟩,O qa qm qc),(⟨s1,1,Y⟩,V y),(⟨s1,2,Y⟩,O r u t)],w.heap.size+1+1+1≠q.1.block:=by
     intro q T;simp at T
     rcases T with rfl|rfl|rfl|rfl|rfl|rfl<;>(dsimp only;omega)
    refine cl1 (i:=2) fun K hK=>?_
    go_simp;refine kO hK (CellL.set3d g aa _ _ _) (fun g=>?_);clear hK K;refine cl1 (i:=3) fun K hK=>?_
    go_simp;refine kO hK (CellL.set3d g ab _ _ _) (fun g=>?_);clear hK K;refine wpAnyH_done kM ?_ _
    have e:bestR (gapR s) (Q.take (i+1))=(x,gapR s x):=by
     have:=H0.out;subst this;rw [zab _ _ _ az.out];simp [bestR]
    have E:=hd9 e;have ad:=hd9 d;have P:=hd9 (RB.copy2 g3 g4 oM hp af rfl rfl);clear e d g1 g2 g3 g4;go_wp2
    go_roundg (n-(i+1))
    case measure=>have:=Hn.out;omega
    case rel =>
     obtain⟨P1,P2,P3,P4,P5,P6⟩:=P.out;have D:=fun W=>(eR W).drew
     exact⟨i+1,by rw [Hn.out];omega,by go_num,by rw [Hn.out],(P6 w (Hx.out.trans ad.out) oM oM).drew,
      (P3 _ _ oM oM (HA.out.ext ad.out)).ext (D _),(P3 _ _ oM oM (HB.out.ext ad.out)).ext (D _),by rw [E.out];exact P1.ext (D _),by rw [E.out];exact P2.ext (D _)⟩
   ·have aQ:((i:Int)==0)=false:=by simp;omega
    have H0:=hd9 h0;clear h0 hD
    have aI:Rb 23 (bestR (gapR s) (Q.take i)).2:=by
     have aT:Q.take i≠[]:=fun h=>by
      have h2:(Q.take i).length=0:=by rw [h];rfl
      rw [List.length_take,Hn.out]at h2;have:=H0.out;omega
     obtain⟨j1,j2⟩:=zaJ (gapR s) aT;rw [j2];exact Rb.gap (Hq.out _ (List.mem_of_mem_take j1)) ay.out
    have aP:=hd9 aI;clear aI
    have e:bestR (gapR s) (Q.take (i+1))=bestStep (gapR s) (bestR (gapR s) (Q.take i)) x:=by
     rw [zab _ _ _ az.out,zeu];intro h;have h2:(Q.take i).length=0:=by rw [h];rfl
     rw [List.length_take,Hn.out]at h2;have:=H0.out;omega
    have E:=hd9 e;clear e;obtain⟨k,hk⟩:=gX (rcmp (gapR s x) (bestR (gapR s) (Q.take i)).2);have Hk:=hd9 hk;have aw:=hd9 (zav (Rb.gap ai.out ay.out) oM);have ax:=hd9 (zav aP.out oM);clear hk;have aW:w.heap.size+1+1+1<wr.heap.size+1:=oM
    by_cases aR:k<0
    ·go_wp2_with(first|(go_at_call 133;(with_reducible refine(HG.out _ ?_ (I #[O a3 m3 c3,V s3,O a4 m4 c4]) x ?_ ai.out).mono ?_);(refine Ext.trans Hx.out ?_;exact eA);(refine ae.ext ?_;exact eA);rintro e w1 ⟨r1,rfl,L,f⟩;obtain⟨b1,n1,k1,t1,b2,n2,k2,rfl⟩:=L.form;obtain⟨aj,ak⟩:=f.cells;(have z1:wr.heap.size<w1.heap.size:=(by have:=f.size;simp only [wZ]at this;omega));(have z2:w.heap.size+1+1+1<w1.heap.size:=oM))|(go_at_call 75;(with_reducible refine(zaI _ (I #[O b1 n1 k1,V t1,O b2 n2 k2]) (I #[O d1 dm dc,V ds,O d2 aH aD]) _ _ (L.ext ?_) (am.ext ?_) aw.out ax.out).mono ?_);exact eA;exact eA;rintro e w3 ⟨rfl,ac⟩;(try rw [Hk.out]);obtain⟨aK,aL⟩:=ac.cells))
     have d:Ext wr w3:=((((eR _).alloc _).trans f).alloc _).trans ac;have g1:RB w3 wr.heap.size x:=(((RB.new ae rfl).ext f).ext ((eR _).alloc _)).ext ac;have g2:RB w3 w1.heap.size (gapR s x):=(RB.new L rfl).ext ac;have g3:=HC.out.ext d;have g4:=HD.out.ext d;have zW:=d.size;obtain⟨s1,ah⟩:=gX w1.heap.size;simp only [ah]at *;clear aj ak L f ac aK aL am aA aB aC aE aF aG ah e0 e1 e2 ae;obtain⟨pa,pm,l,ps,j,p,m,p0,p1,p2,_,_,_,pz,hp⟩:=(g1).rd;obtain⟨qa,qm,qc,y,r,u,t,q0,q1,q2,_,_,_,qz,af⟩:=(g2).rd;obtain⟨_,_,_,_,_,_,_,x0,x1,x2,ao,ap,aq,xz,_⟩:=(g3).rd;obtain⟨_,_,_,_,_,_,_,y0,y1,y2,ar,au,av,yz,_⟩:=(g4).rd;refine wp_region_held_drew (S:=CellL [(⟨wr.heap.size,0,Y⟩,O pa pm l),(⟨wr.heap.size,1,Y⟩,V ps),(⟨wr.heap.size,2,Y⟩,O j p m),(⟨s1,0,Y⟩,O qa qm qc),(⟨s1,1,Y⟩,V y),(⟨s1,2,Y⟩,O r u t)]) kM cA (fun g=>?_);refine sN 0 ?_
     iterate 2
      refine tkn ?_
     refine oN ?_
     have aa:∀q∈[((⟨wr.heap.size,0,Y⟩:Addr),Value.slice pa pm l),(⟨wr.heap.size,1,Y⟩,V ps),(⟨wr.heap.size,2,Y⟩,O j p m),(⟨s1,0,Y⟩,O qa qm qc),(⟨s1,1,Y⟩,V y),(⟨s1,2,Y⟩,O r u t)],w.heap.size+1+1≠q.1.block:=by
      intro q T;simp at T
      rcases T with rfl|rfl|rfl|rfl|rfl|rfl<;>(dsimp only;omega)
     have ab:∀q∈[((⟨wr.heap.size,0,Y⟩:Addr),Value.slice pa pm l),(⟨wr.heap.size,1,Y⟩,V ps),(⟨wr.heap.size,2,Y⟩,O j p m),(⟨s1,0,Y⟩,O qa qm qc),(⟨s1,1,Y⟩,V y),(⟨s1,2,Y⟩,O r u t)],w.heap.size+1+1+1≠q.1.block:=by
      intro q T;simp at T
      rcases T with rfl|rfl|rfl|rfl|rfl|rfl<;>(dsimp only;omega)
     refine cl1 (i:=2) fun K hK=>?_
     go_simp;refine kO hK (CellL.set3d g aa _ _ _) (fun g=>?_);clear hK K;refine cl1 (i:=3) fun K hK=>?_
     go_simp;refine kO hK (CellL.set3d g ab _ _ _) (fun g=>?_);clear hK K;refine wpAnyH_done kM ?_ _;have e:bestStep (gapR s) (bestR (gapR s) (Q.take i)) x=(x,gapR s x):=by unfold bestStep;rw [Hk.out,if_pos aR]
     have E':=hd9 (E.out.trans e);have ad:=hd9 d;have P:=hd9 (RB.copy2 g3 g4 oM hp af rfl rfl);clear e d g1 g2 g3 g4;go_wp2
     go_roundg (n-(i+1))
     case measure=>have:=Hn.out;omega
     case rel =>
      obtain⟨P1,P2,P3,P4,P5,P6⟩:=P.out;have D:=fun W=>(eR W).drew
      exact⟨i+1,by rw [Hn.out];omega,by go_num,by rw [Hn.out],(P6 w (Hx.out.trans ad.out) oM oM).drew,
       (P3 _ _ oM oM (HA.out.ext ad.out)).ext (D _),(P3 _ _ oM oM (HB.out.ext ad.out)).ext (D _),by rw [E'.out];exact P1.ext (D _),by rw [E'.out];exact P2.ext (D _)⟩
    ·go_wp2_with(first|(go_at_call 133;(with_reducible refine(HG.out _ ?_ (I #[O a3 m3 c3,V s3,O a4 m4 c4]) x ?_ ai.out).mono ?_);(refine Ext.trans Hx.out ?_;exact eA);(refine ae.ext ?_;exact eA);rintro e w1 ⟨r1,rfl,L,f⟩;obtain⟨b1,n1,k1,t1,b2,n2,k2,rfl⟩:=L.form;obtain⟨aj,ak⟩:=f.cells;(have z1:wr.heap.size<w1.heap.size:=(by have:=f.size;simp only [wZ]at this;omega));(have z2:w.heap.size+1+1+1<w1.heap.size:=oM))|(go_at_call 75;(with_reducible refine(zaI _ (I #[O b1 n1 k1,V t1,O b2 n2 k2]) (I #[O d1 dm dc,V ds,O d2 aH aD]) _ _ (L.ext ?_) (am.ext ?_) aw.out ax.out).mono ?_);exact eA;exact eA;rintro e w3 ⟨rfl,ac⟩;(try rw [Hk.out]);obtain⟨aK,aL⟩:=ac.cells))
     have d:Ext wr w3:=((((eR _).alloc _).trans f).alloc _).trans ac;have e:bestStep (gapR s) (bestR (gapR s) (Q.take i)) x=bestR (gapR s) (Q.take i):=by unfold bestStep;rw [Hk.out,if_neg oM]
     have E':=hd9 (E.out.trans e)
     go_roundg (n-(i+1))
     case measure=>have:=Hn.out;omega
     case rel=>exact⟨i+1,by rw [Hn.out];omega,by go_num,by rw [Hn.out],Hx.out.trans d,HA.out.ext d,HB.out.ext d,by rw [E'.out];exact HC.out.ext d,by rw [E'.out];exact HD.out.ext d⟩
  ·obtain rfl:i=n:=oM
   have e:Q.take i=Q:=lT (by rw [Hn.out];exact nE _);rw [e]at hC hD HC HD;clear e;have zW:=hx.size;have zD:w.heap.size+1+1+1<wr.heap.size:=by obtain⟨_,_,_,_,_,_,_,_,_,_,_,_,_,z,_⟩:=hD.rd;exact z
   go_wp2;obtain⟨pa,pm,l,ps,j,p,m,p0,p1,p2,_,_,_,pz,hp⟩:=(hC).rd;obtain⟨qa,qm,qc,y,r,u,t,q0,q1,q2,_,_,_,qz,af⟩:=(hD).rd;obtain⟨_,_,_,_,_,_,_,x0,x1,x2,ao,ap,aq,xz,_⟩:=(hA).rd;obtain⟨_,_,_,_,_,_,_,y0,y1,y2,ar,au,av,yz,_⟩:=(hB).rd;refine wp_region_held_drew (S:=CellL [(⟨w.heap.size+1+1,0,Y⟩,O pa pm l),(⟨w.heap.size+1+1,1,Y⟩,V ps),(⟨w.heap.size+1+1,2,Y⟩,O j p m),(⟨w.heap.size+1+1+1,0,Y⟩,O qa qm qc),(⟨w.heap.size+1+1+1,1,Y⟩,V y),(⟨w.heap.size+1+1+1,2,Y⟩,O r u t)]) kM cA (fun g=>?_);refine sN 0 ?_
   iterate 2
    refine tkn ?_
   refine oN ?_
   have aa:∀q∈[((⟨w.heap.size+1+1,0,Y⟩:Addr),Value.slice pa pm l),(⟨w.heap.size+1+1,1,Y⟩,V ps),(⟨w.heap.size+1+1,2,Y⟩,O j p m),(⟨w.heap.size+1+1+1,0,Y⟩,O qa qm qc),(⟨w.heap.size+1+1+1,1,Y⟩,V y),(⟨w.heap.size+1+1+1,2,Y⟩,O r u t)],w.heap.size≠q.1.block:=by
    intro q T;simp at T
    rcases T with rfl|rfl|rfl|rfl|rfl|rfl<;>(dsimp only;omega)
   have ab:∀q∈[((⟨w.heap.size+1+1,0,Y⟩:Addr),Value.slice pa pm l),(⟨w.heap.size+1+1,1,Y⟩,V ps),(⟨w.heap.size+1+1,2,Y⟩,O j p m),(⟨w.heap.size+1+1+1,0,Y⟩,O qa qm qc),(⟨w.heap.size+1+1+1,1,Y⟩,V y),(⟨w.heap.size+1+1+1,2,Y⟩,O r u t)],w.heap.size+1≠q.1.block:=by
    intro q T;simp at T
    rcases T with rfl|rfl|rfl|rfl|rfl|rfl<;>(dsimp only;omega)
   refine cl1 (i:=2) fun K hK=>?_
   go_simp;refine kO hK (CellL.set3d g aa _ _ _) (fun g=>?_);clear hK K;refine cl1 (i:=3) fun K hK=>?_
   go_simp;refine kO hK (CellL.set3d g ab _ _ _) (fun g=>?_);clear hK K;refine wpAnyH_done kM ?_ _;have P:=hd9 (RB.copy2 hA hB oM hp af rfl rfl);go_wp2;refine bR (v:=.tuple #[I #[O pa pm l,V ps,O j p m],I #[O qa qm qc,V y,O r u t]]) (by simp [results,Tryz.results113,go_sem,x0,x1,x2,ao,ap,aq,y0,y1,y2,ar,au,av]) rfl ?_;rw [←HR.out];obtain⟨P1,P2,P3,P4,P5,P6⟩:=P.out;exact⟨_,_,rfl,(hp.keep P4).ext (eR _).drew,(af.keep P4).ext (eR _).drew,(P6 w Hx.out oM oM).drew⟩
end
section
open Go.RowKit Go.Shelf
attribute [local go_sem] Oper.semAt_some
abbrev limE:Nat:=300000
theorem zcL (w:C) (va vb:Value) (na nd:Int) (ha:IsN w va na) (hb:IsN w vb nd) (bl:Lm limE na) (bT:Lm limE nd) (hd:nd≠0) :
  Calls Tryz.prog 142 #[va,vb] w fun e w'=>∃r1 r2,e = .returned (.tuple #[r1,r2])∧IsN w' r1 (na / nd)∧IsN w' r2 (na % nd)∧Ext w w':=by
 obtain⟨s,a,m,c,rfl,hs⟩:=ha.form2;obtain⟨s',a',m',c',rfl,bo⟩:=hb.form2;obtain⟨xs,hl,hi,hc,hv⟩:=ha.open;have hm:=zbz bl hc hv;rw [hl]at hm;unfold limE at hm;obtain⟨p,hp⟩:=gX (s'*s');have aH:=hb.abs;rw [hp]at aH;obtain⟨D,hD⟩:=gX ((nd.natAbs:Int));rw [hD]at aH;have bE:0<D:=oM
 have cR:0≤p∧p≤1:=by rcases zai nd with ⟨e,_⟩|⟨e,_⟩|⟨e,_⟩<;>(rw [←hp,bo,e];decide)
 obtain⟨dF,dG⟩:=cR;have HD:=hd9 hD;have Hp:=hd9 hp;have Hs:=hd9 hs;have bA:=hd9 bo;have Hl:=hd9 hl;have Hv:=hd9 hv;have co:=hd9 bl;have aJ:Hid (Lm limE D):=hd9 (by rw [←hD];exact bT.abs);have Hd:=hd9 hd;clear hs bo hl hv hp hD bl bT hd;obtain⟨W0,L⟩:=gX ((((w.alloc (J #[Z X s,O a m c] 66)).alloc (J #[Z X s',O a' m' c'] 66)).alloc (J #[Z X 0,O Y 0 0] 66)).alloc (J #[Z X 0,O Y 0 0] 66));have z0:w.heap.size+1+1+1+1=W0.heap.size:=by rw [←L];simp
 have z1:w.heap.size<W0.heap.size:=oM
 have z2:w.heap.size+1<W0.heap.size:=oM
 have z3:w.heap.size+1+1<W0.heap.size:=oM
 have z4:w.heap.size+1+1+1<W0.heap.size:=oM
 have p0:W0.cell? ⟨w.heap.size,0,Y⟩=M (Z X s):=by rw [←L];clear L;go_simp
 have p1:W0.cell? ⟨w.heap.size,1,Y⟩=M (O a m c):=by rw [←L];clear L;go_simp
 have q0:W0.cell? ⟨w.heap.size+1,0,Y⟩=M (Z X s'):=by rw [←L];clear L;go_simp
 have q1:W0.cell? ⟨w.heap.size+1,1,Y⟩=M (O a' m' c'):=by rw [←L];clear L;go_simp
 have cy:Hid (W0.heap[w.heap.size+1+1]?=M (J #[Z X 0,O Y 0 0] 66 (0,0))):=by rw [←L];exact hd9 (by rw [Below.heap_alloc _ _ _ sM];exact qhA _ _ _ sM)
 have cz:Hid (W0.heap[w.heap.size+1+1+1]?=M (J #[Z X 0,O Y 0 0] 66 (0,0))):=by rw [←L];exact hd9 (qhA _ _ _ sM)
 have aF:Hid (Ext w W0):=by rw [←L];exact hd9 eA
 go_enter Tryz.func142,Tryz.ntmps142
 go_upto_region 3 with (first|(at_make;refine mk0 (n:=m) zaV Tryz.underlying64 rfl _ _ rfl _ rfl rfl rfl oM ?_;(try rw [L]);intro w1 aD ac b8;(try simp only [z0]at aD);(have e0:=ac.cellS p0);(have e1:=ac.cellS p1);(have e2:=ac.cellS q0);(have e3:=ac.cellS q1))|(go_at_call 190;(with_reducible refine(zmr _ s' a' m' c' nd ?_).mono ?_);(refine hb.ext ?_;exact aF.out.trans ac);rw [Hp.out];rintro e w2 ⟨rfl,aA⟩))
 clear L;have am:Ext W0 w2:=ac.trans aA;have zg:W0.heap.size<w2.heap.size:=Nat.lt_of_lt_of_le b8 aA.size;have y1:w.heap.size<w2.heap.size:=oM
 have y2:w.heap.size+1<w2.heap.size:=oM
 replace e0:=aA.cellS e0
 replace e1:=aA.cellS e1
 replace e2:=aA.cellS e2
 replace e3:=aA.cellS e3
 go_wp2
 go_loopw [9] (QuO W0 m xs D w2.heap.size (w2.heap.size+1) #[Z X p,O a' m' c']) (fun t9 _=>(intOf t9+1).toNat)
 case atStart =>
  have k1:((w2.alloc (J #[Z X 0,O Y 0 0] 66)).alloc (J #[Z X p,O a' m' c'] 66)).heap[w2.heap.size]?=M (J #[Z X 0,O Y 0 0] 66 (0,0)):=nbh0 ..;refine⟨(m:Int)-1,List.replicate m 0,0,rfl,by omega,by omega,by simp,?_,?_,⟨0,Y,0,0,k1,OwnN.nil _ _⟩,qhA _ _ _ sM,?_,by omega,bE,(am.alloc _).alloc _⟩
  ·exact((aD.keep aA.keep).alloc _).alloc _
  ·intro d hd
   rw [(List.mem_replicate.1 hd).2];unfold C4;omega
  ·rw [List.drop_of_length_le (by rw [Hl.out];omega),List.drop_of_length_le sM];simp
 case round =>
  obtain⟨g,bQ⟩:=gX w2.heap.size;rw [bQ]at hrel ⊢;have dQ:W0.heap.size<g:=oM
  clear aD e0 e1 e2 e3 ac aA am b8 y1 y2 zg bQ;obtain⟨j,qs,R,rfl,Sq⟩:=hrel;have j0:=Sq.j0;have j1:=Sq.j1;have ah:=Sq.ext;have e0:=ah.cellS p0;have e1:=ah.cellS p1;have d0:=qcB Sq.size (i:=0) (u:=Z X p) rfl;have d1:=qcB Sq.size (i:=1) (u:=O a' m' c') rfl;have zd:=zaa Sq.size;have r:=hd9 Sq
  by_cases hj:0≤j
  ·obtain⟨k,rfl⟩:=Int.eq_ofNat_of_zero_le hj
   obtain⟨sr,ar,mr,cr,aa,aC⟩:=Sq.rest;have t0:=qcB aa (i:=0) (u:=Z X sr) rfl;have t1:=qcB aa (i:=1) (u:=O ar mr cr) rfl;have zt:=zaa aa;have cf:=qfB aa 0;have tf1:=qfB aa 1;obtain⟨rs,rl,ro,rc,rv⟩:=aC.open;have Rl:=hd9 rl;have aY:=Sq.r0;have bi:=Sq.r1;have bK:(R.natAbs:Int)=R:=oM
   rw [bK]at rv;have Rv:=hd9 rv;have dH:rs.length≤2*300000:=zbz (k:=limE) (n:=R) (by have:=aJ.out;unfold Lm at *;omega) rc (by rw [bK];exact rv);obtain⟨b,o,rfl,dD,ac⟩:=(hi.ext (aF.out.trans ah)).open (by rw [Hl.out];omega);obtain⟨x,a4⟩:∃x,xs[k]?=M x:=⟨_,gE (by rw [Hl.out];omega)⟩;obtain⟨q,bX⟩:∃q,qs[k]?=M q:=⟨_,gE (by rw [Sq.ql];omega)⟩;have cJ:=ac k x a4;have z:=hc.1 x (lM a4);unfold C4 at z;have cB:=hd9 a4;have dq:=hd9 bX;have ds:=hd9 ac;have k0:(0:Int)≤(k:Int):=oM
   have k1:(k:Int)<(m:Int):=oM
   have bZ:Ints 3 wr (O ar mr cr) rs:=ro.ints;have HN:Hid (0≤x+10000*R):=hd9 oM;clear rl rv Sq ac a4 bX;go_wp2;refine zae (fun i=>decide (9<i)) (CellL [(⟨w.heap.size,1,Y⟩,O (M ⟨b,o,Y⟩) m c),(⟨b,o+k,Y⟩,Z X x),(⟨g,1,Y⟩,O ar mr cr),(⟨g,0,Y⟩,Z X sr)]) kM ?_ (fun f=>?_)
   ·exact cA
   refine sN 0 ?_
   iterate 5
    refine tun ?_
   refine oN ?_;refine sN 6 ?_
   iterate 2
    refine tun ?_
   refine oN ?_;have bF:=f;refine cu1 (i:=5) fun K t=>?_
   go_simp;refine kO t (fun _=>cE f ((eR wr.drew).alloc _)) (fun f=>?_);clear t K;have f:=f rfl;refine cu1 (i:=8) fun K t=>?_
   refine zkI zaV Tryz.underlying64 rfl _ _ rfl rfl (znI wr.drew 3 x) rfl (bZ.ext ((eR wr).drew.alloc _)) (by simp;omega) sM ?_;intro v5 w5 al aB;have X5:Ext wr w5:=((eR wr).drew.alloc (J #[Z X x] 3)).thenB aB (nE _);refine kO t (fun _=>cE bF (((eR wr.drew).alloc (J #[Z X x] 3)).thenB aB (nE _))) (fun f=>?_);clear t K
   replace f:=f rfl
   obtain⟨a5,c5,rfl⟩:=al.form;simp only [List.singleton_append,List.length_cons]at al ⊢
   have bO:dv C4 (x::rs)=x+10000*R:=by
    rw [zbh,Rv.out];rfl
   have bx:=hd9 bO;clear bO;refine cu1 (i:=9) fun K t=>?_
   go_simp
   (with_reducible refine cM (zgv _ 1 _ (x::rs) (x+10000*R) al.ints (by simp;omega) (fun y hy=>?_) (by rw [bx.out];exact HN.out) (by rw [bx.out];omega) (fun _=>.inl rfl)) ?_)
   ·rcases List.mem_cons.1 hy with rfl|hy
    ·omega
    ·have:=rc.1 y hy;unfold C4 at this;omega
   rintro e w6 ⟨r6,rfl,aR,bp⟩;obtain⟨s6,a6,m6,c6,rfl,b9⟩:=aR.form2;have dr:=hd9 b9;clear b9
   go_wp2_with fail
   refine kO t (fun _=>cE f bp) (fun f=>?_);clear t K
   replace f:=f rfl
   have X6:Ext wr w6:=X5.trans bp;have dm:g<w6.heap.size:=X6.lt zt;obtain⟨cG,cL⟩:=X6.cells;refine cu1 (i:=10) fun K t=>?_
   go_simp;refine kO t (fun h=>nomatch h) (fun f=>?_);clear t K;refine doneHU kM ?_ _;obtain⟨Rn,bj⟩:=gX (x+10000*R);rw [bj]at aR;have cw:=hd9 bj;have bL:0≤Rn:=oM
   have bM:Rn<D*10000:=oM
   have aV:NB w6 g R:=(NB.ext ⟨sr,ar,mr,cr,aa,aC.isN⟩ X6);obtain⟨wi,az⟩:=gX ((w6.setCell ⟨g,0,Y⟩ (Z X s6)).setCell ⟨g,1,Y⟩ (O a6 m6 c6))
   have i1:OB wi (W0.heap.size+1) g Rn:=by
    rw [←az];exact OB.put aV (aR.mono (by have:=ah.size;have:=X5.size;omega))
   have i2:wi.heap[g+1]?=M (J #[Z X p,O a' m' c'] 66 (0,0)):=by
    rw [←az,bS _ _ _ _ sM,bS _ _ _ _ sM];exact X6.heapS r.out.size
   have i3:Own 3 wi W0.heap.size (O (M ⟨W0.heap.size,0,Y⟩) m m) qs:=by
    rw [←az];exact((r.out.row.keep X6.keep).setOther (p:=⟨g,0,Y⟩) (by simp [Value.ownBlock];omega) _).setOther (p:=⟨g,1,Y⟩) (by simp [Value.ownBlock];omega) _
   have i4:Ext W0 wi:=by
    rw [←az];exact((ah.trans X6).set (p:=⟨g,0,Y⟩) dO _).set (p:=⟨g,1,Y⟩) dO _
   have i5:IsN wi (I #[Z X s6,O a6 m6 c6]) Rn:=by rw [←az];exact aR.isN.keep (((KeepT.refl _ w6).setN aV.not _).setN (aV.not.set _ _) _)
   have i6:wi.heap[g]?=M (J #[Z X s6,O a6 m6 c6] 66 (0,0)):=by
    obtain⟨u1,u2,u3,u4,u5,u6⟩:=aV;rw [←az];exact zal u5 _ _
   have bw:=hd9 r.out.val;have bv:=hd9 r.out.qd;have aL:=hd9 r.out.ql;rw [az];clear az aR bp cG cL f bF X5 X6 aV al aB aC aa bZ ro rc cJ r e0 e1 d0 d1 t0 t1 zd zt dm bj;have m0:=qcB i6 (i:=0) (u:=Z X s6) rfl;have m1:=qcB i6 (i:=1) (u:=O a6 m6 c6) rfl;have m2:=qcB i2 (i:=0) (u:=Z X p) rfl;have m3:=qcB i2 (i:=1) (u:=O a' m' c') rfl;have zi:=zaa i2;have dh:g<wi.heap.size:=oM
   obtain⟨wo,rfl⟩:∃wo:C,wo=wr:=⟨_,rfl⟩;go_wp2
   go_loopw [10,11] (QuI wi D Rn) (fun c4 da _=>(intOf da-intOf c4).toNat)
   case atStart=>exact⟨0,10000,rfl,rfl,by omega,by omega,by omega,by omega,bM,eR _⟩
   case round =>
    obtain⟨lo,aG,rfl,rfl,l0,l1,l2,l3,l4,Xi⟩:=hrel;have M0:=Xi.cellS m0;have M1:=Xi.cellS m1;have M2:=Xi.cellS m2;have M3:=Xi.cellS m3;have ZW:g+1<wr.heap.size:=Xi.lt zi;have bg:g<wr.heap.size:=oM
    have bf:Ext w wr:=aF.out.trans (i4.trans Xi);have aK:Hid (Lm limG D):=hd9 (aJ.out.mono dM)
    by_cases dE:1<aG-lo
    ·obtain⟨md,cO⟩:=gX (Int.tdiv (lo+aG) 2)
     have bU:md=(lo+aG) / 2:=by rw [←cO,Int.tdiv_eq_ediv_of_nonneg oM]
     have cW:lo<md:=oM
     have cY:md<aG:=oM
     have bq:0≤md:=oM
     have ce:md≤10000:=oM
     obtain⟨P,hP⟩:=gX (D*md);have bH:0≤P:=by rw [←hP];exact Int.mul_nonneg oM bq
     obtain⟨T,hT⟩:=gX (((P.natAbs:Int)-(Rn.natAbs:Int)).sign)
     have aZ:T≤0 ↔ P≤Rn:=by
      rw [←hT]
      rcases zai ((P.natAbs:Int)-(Rn.natAbs:Int))with ⟨e,_⟩|⟨e,_⟩|⟨e,_⟩<;>omega
     have HT:=hd9 hT;have HP:=hd9 hP;have a2:=i5.ext Xi;clear bU hT hP
     by_cases bm:P≤Rn
     ·have cD:T≤0:=aZ.2 bm
      clear aZ;go_wp2
      go_region_held3 (fun W=>W.cell? ⟨g,0,Y⟩=M (Z X s6)∧W.cell? ⟨g,1,Y⟩=M (O a6 m6 c6)∧W.cell? ⟨g+1,0,Y⟩=M (Z X p)∧W.cell? ⟨g+1,1,Y⟩=M (O a' m' c')) ((repeat' (with_reducible refine And.intro ?_ ?_))<;>(first|(go_simp;done)|(refine ac.cellS ?_;go_simp;done))) (first|(go_at_call 192;(with_reducible refine(zc9 _ (I #[Z X p,O a' m' c']) D md ?_ aK.out bq ce).mono ?_);(refine aH.ext ?_;exact bf.drew);rw [HP.out];rintro e w8 ⟨r8,rfl,ad,l⟩;obtain⟨s8,a8,m8,c8,rfl,-⟩:=ad.form2;obtain⟨cH,cN⟩:=cK0 l;(have z8:g<w8.heap.size:=l.lt bg);(have dd:g+1<w8.heap.size:=l.lt ZW))|(go_at_call 191;(with_reducible refine(zcr _ (I #[Z X s8,O a8 m8 c8]) (I #[Z X s6,O a6 m6 c6]) P Rn ad ?_).mono ?_);(refine a2.ext ?_;exact(eR wr).drew.trans l);rw [HT.out];rintro e w9 ⟨rfl,ae⟩;obtain⟨ak,a0⟩:=cK0 ae))
      all_goals go_wp2
      go_roundw
      case rel=>exact⟨md,aG,rfl,rfl,by omega,cY,l2,by rw [HP.out];exact bm,l4,Xi.trans ((eR wr).drew.trans (l.trans ae))⟩
      case measure=>simp [intOf];omega
     ·have cD:¬T≤0:=fun h=>bm (aZ.1 h)
      clear aZ;go_wp2
      go_region_held3 (fun W=>W.cell? ⟨g,0,Y⟩=M (Z X s6)∧W.cell? ⟨g,1,Y⟩=M (O a6 m6 c6)∧W.cell? ⟨g+1,0,Y⟩=M (Z X p)∧W.cell? ⟨g+1,1,Y⟩=M (O a' m' c')) ((repeat' (with_reducible refine And.intro ?_ ?_))<;>(first|(go_simp;done)|(refine ac.cellS ?_;go_simp;done))) (first|(go_at_call 192;(with_reducible refine(zc9 _ (I #[Z X p,O a' m' c']) D md ?_ aK.out bq ce).mono ?_);(refine aH.ext ?_;exact bf.drew);rw [HP.out];rintro e w8 ⟨r8,rfl,ad,l⟩;obtain⟨s8,a8,m8,c8,rfl,-⟩:=ad.form2;obtain⟨cH,cN⟩:=cK0 l;(have z8:g<w8.heap.size:=l.lt bg);(have dd:g+1<w8.heap.size:=l.lt ZW))|(go_at_call 191;(with_reducible refine(zcr _ (I #[Z X s8,O a8 m8 c8]) (I #[Z X s6,O a6 m6 c6]) P Rn ad ?_).mono ?_);(refine a2.ext ?_;exact(eR wr).drew.trans l);rw [HT.out];rintro e w9 ⟨rfl,ae⟩;obtain⟨ak,a0⟩:=cK0 ae))
      all_goals go_wp2
      go_roundw
      case rel=>exact⟨lo,md,rfl,rfl,l0,cW,by omega,l3,by rw [HP.out];omega,Xi.trans ((eR wr).drew.trans (l.trans ae))⟩
      case measure=>simp [intOf];omega
    ·obtain rfl:aG=lo+1:=oM
     obtain⟨P,hP⟩:=gX (D*lo);have bH:0≤P:=by rw [←hP];exact Int.mul_nonneg oM l0
     have dB:P≤Rn:=oM
     have dC:Rn<P+D:=by rw [Int.mul_add,hP]at l4;omega
     have HP:=hd9 hP;have cn:Hid (Lm limG Rn):=hd9 ((zoC aJ.out oM bL oM).mono dM);have cm:Hid (Lm limG P):=hd9 ((zoC aJ.out oM bH oM).mono dM);have cV:lo≤10000:=oM
     have j3:Own 3 wr W0.heap.size (O (M ⟨W0.heap.size,0,Y⟩) m m) qs:=i3.keep Xi.keep;have j4:OB wr (W0.heap.size+1) g Rn:=i1.ext Xi;have j2:=Xi.heapS i2;have jx:=i4.trans Xi;have cT:wr.frozen? ⟨W0.heap.size,k,Y⟩=false:=j3.frozen k;obtain⟨q,hq⟩:∃q,qs[k]?=M q:=⟨_,gE (by rw [aL.out];omega)⟩;have cU:=j3.cell hq;have a2:=i5.ext Xi;have cf:=qfB (Xi.heapS i6) 0;have tf1:=qfB (Xi.heapS i6) 1;have bV:¬g=W0.heap.size:=oM
     have bW:¬g+1=W0.heap.size:=oM
     have dp:W0.heap.size<wr.heap.size:=oM
     clear hP hq;go_wp2;obtain⟨wq,aE⟩:=gX (wr.setCell ⟨W0.heap.size,k,Y⟩ (Z X lo));have b1:OB wq (W0.heap.size+1) g Rn:=by rw [←aE];exact j4.setRow oM oM _
     have b6:wq.heap[g]?=M (J #[Z X s6,O a6 m6 c6] 66 (0,0)):=by rw [←aE,bS _ _ _ _ (by simpa using bV)];exact Xi.heapS i6
     have b2:wq.heap[g+1]?=M (J #[Z X p,O a' m' c'] 66 (0,0)):=by rw [←aE,bS _ _ _ _ (by simpa using bW)];exact j2
     have b3:Own 3 wq W0.heap.size (O (M ⟨W0.heap.size,0,Y⟩) m m) (qs.set k lo):=by rw [←aE];exact j3.stored k lo
     have b4:Ext W0 wq:=by rw [←aE];exact jx.set (p:=⟨W0.heap.size,k,Y⟩) (nE _) _
     have b5:IsN wq (I #[Z X s6,O a6 m6 c6]) Rn:=by
      obtain⟨u1,u2,u3,u4,u5,u6⟩:=b1;rw [b6]at u5
      cases u5
      exact u6.isN
     have b7:IsN wq (I #[Z X p,O a' m' c']) D:=aH.ext (aF.out.trans b4);have o0:=qcB b6 (i:=0) (u:=Z X s6) rfl;have o1:=qcB b6 (i:=1) (u:=O a6 m6 c6) rfl;have o2:=qcB b2 (i:=0) (u:=Z X p) rfl;have o3:=qcB b2 (i:=1) (u:=O a' m' c') rfl;have dK:=qfB b6 0;have dL:=qfB b6 1;have zq:=zaa b2;have dk:g<wq.heap.size:=oM
     rw [aE];clear aE M0 M1 M2 M3 ZW bg bf cT cU cf tf1 j4 j2 j3 jx m0 m1 m2 m3 i1 i2 i3 i4 i5 i6 a2 zi dh Xi;refine zae (fun i=>decide (4<i)) (CellL [(⟨g,0,Y⟩,Z X s6),(⟨g,1,Y⟩,O a6 m6 c6),(⟨g+1,0,Y⟩,Z X p),(⟨g+1,1,Y⟩,O a' m' c')]) kM ?_ (fun f=>?_)
     ·exact cA
     refine sN 0 ?_
     iterate 3
      refine tun ?_
     refine oN ?_;refine cu1 (i:=3) fun K t=>?_
     go_simp
     (with_reducible refine cM (zc9 _ (I #[Z X p,O a' m' c']) D lo (b7.ext (eR wq).drew) aK.out l0 cV) ?_)
     rintro e w8 ⟨r8,rfl,ad,l⟩;rw [HP.out]at ad;obtain⟨s8,a8,m8,c8,rfl,-⟩:=ad.form2
     go_wp2_with fail
     refine kO t (fun _=>cE f l) (fun f=>?_);clear t K
     replace f:=f rfl
     refine cu1 (i:=4) fun K t=>?_
     go_simp
     (with_reducible refine cM (zmv _ (I #[Z X s6,O a6 m6 c6]) (I #[Z X s8,O a8 m8 c8]) Rn P (b5.ext ((eR wq).drew.trans l)) ad cn.out cm.out) ?_)
     rintro e w9 ⟨r9,rfl,aS,ae⟩;obtain⟨s9,a9,m9,c9,rfl,-⟩:=aS.form2
     go_wp2_with fail
     refine kO t (fun _=>cE f ae) (fun f=>?_);clear t K
     replace f:=f rfl
     have X9:Ext wq w9:=(eR wq).drew.trans (l.trans ae);have dl:g<w9.heap.size:=X9.lt dk;have n9:NB w9 g Rn:=b1.nb.ext X9;obtain⟨ak,a0⟩:=X9.cells;refine cu1 (i:=5) fun K t=>?_
     go_simp;refine kO t (fun h=>nomatch h) (fun f=>?_);clear t K;refine doneHU kM ?_ _;go_wp2
     go_roundw
     case rel =>
      refine⟨(k:Int)-1,qs.set k lo,Rn-P,rfl,by omega,by omega,by simp [aL.out],?_,bv.out.set oM (by unfold C4;omega) _,OB.put n9 (aS.mono ?_),?_,?_,by omega,by omega,?_⟩
      ·exact((b3.keep X9.keep).setOther (p:=⟨g,0,Y⟩) (by simp [Value.ownBlock];omega) _).setOther (p:=⟨g,1,Y⟩) (by simp [Value.ownBlock];omega) _
      ·have:=b4.size;have:=l.size;simp only [qdZ]at this;omega
      ·rw [bS _ _ _ _ sM,bS _ _ _ _ sM];exact X9.heapS b2
      ·have e1:(qs.set k lo)[k]?=M lo:=List.getElem?_set_self (by rw [aL.out];omega)
       have e2:(qs.set k lo).drop (k+1)=qs.drop (k+1):=List.drop_set_of_lt oM;have h9:=bw.out;rw [show ((k:Int)+1).toNat=k+1 by omega,←e2]at h9;rw [show ((k:Int)-1+1).toNat=k by omega,zlS cB.out e1 h9,←HP.out,←cw.out,Int.mul_comm lo D];rfl
      ·exact((b4.trans X9).set (p:=⟨g,0,Y⟩) dO _).set (p:=⟨g,1,Y⟩) dO _
     case measure=>simp [intOf]
  ·obtain rfl:j = -1:=oM
   clear e0 e1 d0 d1 zd ah j0 j1 hj;obtain⟨Q,hQ⟩:=gX (dv C4 qs);have ax:=r.out.val;simp only [show ((-1:Int)+1).toNat=0 from rfl,List.drop_zero]at ax;rw [Hv.out,hQ]at ax;have aY:=r.out.r0;have bi:=r.out.r1;have bI:0≤Q:=by rw [←hQ];exact(zak zbm r.out.qd).1
   have aO:Q≤(na.natAbs:Int):=zoU ax bE aY bI
   have bJ:Q≠0→s=1∨s = -1:=fun h9=>by
    rw [Hs.out];exact zhF (fun h8=>h9 (by rw [h8]at aO;simp at aO;omega))
   obtain⟨N1,bh⟩:=gX (s*Q);have bc:N1=na.sign*Q:=by rw [←bh,Hs.out]
   have ca:s = -1∨s=0∨s=1:=by rcases zai na with ⟨e,_⟩|⟨e,_⟩|⟨e,_⟩<;>rw [Hs.out,e]<;>decide
   have bG:(N1.natAbs:Int)≤na.natAbs:=by rcases ca with h|h|h<;>subst h<;>omega
   have cl:Hid (Lm limG N1):=hd9 (Lm.mono (j:=limE) (by have:=co.out;unfold Lm at *;omega) dM);have bu:Hid (Lm limG D):=hd9 (aJ.out.mono dM);have cp:Hid (Lm limG R):=hd9 (by have:=bu.out;unfold Lm at *;omega);have bt:Hid (Lm limG 1):=hd9 (zeI dM);have bk:(na.natAbs:Int)=Q*(nd.natAbs:Int)+R:=by rw [HD.out];exact ax
   have aq:=zkr (N:=N1) Hd.out bk aY (by rw [HD.out];exact bi);have aP:=zkr (N:=N1-1) Hd.out bk aY (by rw [HD.out];exact bi);have cj:=hd9 aq.1;have ck:=hd9 aP.2;have ct:=hd9 bJ;have cq:=hd9 bh;have ba:=hd9 bc;have HQ:=hd9 hQ;clear ax hQ bJ bh bc aO bk aq aP bG ca;have ah:=r.out.ext;have e0:=ah.cellS p0;have e1:=ah.cellS p1;have d0:=qcB r.out.size (i:=0) (u:=Z X p) rfl;have d1:=qcB r.out.size (i:=1) (u:=O a' m' c') rfl;obtain⟨sr,ar,mr,cr,aa,aC⟩:=r.out.rest;have t0:=qcB aa (i:=0) (u:=Z X sr) rfl;have t1:=qcB aa (i:=1) (u:=O ar mr cr) rfl;have zd:=zaa r.out.size;have dg:g<wr.heap.size:=oM
   have de:w.heap.size<wr.heap.size:=oM
   have cc:sr=R.sign:=aC.isN.sgn;have bB:=hd9 cc;have cx:Hid (∀x∈qs,-100000000000000≤x∧x≤100000000000000):=hd9 (fun x hx=>by have:=r.out.qd x hx;unfold C4 at this;omega);clear cc
   go_upto_region 16 with (go_at_call 152;(with_reducible refine(zbR _ s _ qs N1 r.out.row.ints (by rw [r.out.ql];omega) cx.out (by rw [HQ.out];exact bI) (by rw [HQ.out];exact cq.out.symm) (by rw [HQ.out];exact ct.out)).mono ?_);rintro e w3 ⟨r3,rfl,bn,am⟩;obtain⟨s3,a3,m3,c3,rfl,-⟩:=bn.form2;obtain⟨cF,cK⟩:=am.cells;(have u7:g+1<w3.heap.size:=am.lt zd);(have dc:g<w3.heap.size:=am.lt dg);(have u0:w.heap.size<w3.heap.size:=am.lt de))
   obtain⟨af,ay⟩:=gX (w3.alloc (J #[Z X s3,O a3 m3 c3] 66));have ag:Ext wr af:=by rw [←ay];exact am.alloc _
   have an:af.heap[w3.heap.size]?=M (J #[Z X s3,O a3 m3 c3] 66 (0,0)):=by rw [←ay];exact aN _ _
   have aQ:IsN af (I #[Z X s3,O a3 m3 c3]) N1:=by rw [←ay];exact bn.ext ((eR _).alloc _)
   have aj:NB af w3.heap.size N1:=⟨_,_,_,_,an,aQ⟩;have aW:NB af g R:=NB.ext ⟨sr,ar,mr,cr,aa,aC.isN⟩ ag;have bY:=ag.heapS aa;have a7:=ag.heapS r.out.size;rw [ay];obtain⟨S,be⟩:=gX w3.heap.size;rw [be]at u7 dc u0 an aj ⊢;clear ay cF cK am bn be aC aa
   replace e0:=ag.cellS e0
   replace e1:=ag.cellS e1
   replace d0:=ag.cellS d0
   replace d1:=ag.cellS d1
   replace t0:=ag.cellS t0
   replace t1:=ag.cellS t1
   have X0:Ext W0 af:=ah.trans ag;have ci:S<af.heap.size:=zaa an;obtain⟨bb,bN⟩:=gX (decide (na<0∧R≠0));have aM:=hd9 bN;have y0:w.heap.size<af.heap.size:=oM
   have y7:g<af.heap.size:=oM
   have y8:g+1<af.heap.size:=oM
   clear bN
   go_cut [75] (fun db W=>db=V bb∧W=af)
   case first =>
    by_cases b0:s<0
    ·have hn:na<0:=by
      have:=Hs.out
      rcases zai na with ⟨e,h⟩|⟨e,h⟩|⟨e,h⟩<;>omega
     by_cases aw:sr=0
     ·have hR:R=0:=by
       have:=bB.out
       rcases zai R with ⟨e,h⟩|⟨e,h⟩|⟨e,h⟩<;>omega
      have e:bb=false:=by rw [←aM.out];simp [hR]
      have cd:(sr != 0)=false:=by simp [aw]
      clear aw;go_wp2;go_meet;exact⟨by rw [e],rfl⟩
     ·have hR:R≠0:=by
       intro h;have:=bB.out;rw [h]at this;exact aw (by rw [this];rfl)
      have e:bb=true:=by rw [←aM.out];simp [hR,hn]
      have cd:(sr != 0)=true:=by simpa using aw
      clear aw;go_wp2;go_meet;exact⟨by rw [e],rfl⟩
    ·have hn:¬na<0:=by
      have:=Hs.out
      rcases zai na with ⟨e,h⟩|⟨e,h⟩|⟨e,h⟩<;>omega
     have e:bb=false:=by rw [←aM.out];simp [hn]
     go_wp2;go_meet;exact⟨by rw [e],rfl⟩
   case rest =>
    obtain⟨rfl,rfl⟩:=hcut
    go_upto_if 75 with fail
    go_cut [13] (QuT W0 g (g+1) #[Z X p,O a' m' c'] (if bb then N1-1 else N1) (if bb then D-R else R))
    case first =>
     cases bb with
     | false =>
      go_wp2;go_meet;exact⟨S,rfl,by omega,by omega,aj,aW,a7,X0⟩
     | true =>
      have f3:=qcB an (i:=0) (u:=Z X s3) rfl;have f4:=qcB an (i:=1) (u:=O a3 m3 c3) rfl;have f5:=qfB an 0;have f6:=qfB an 1;go_wp2;refine zae (fun i=>decide (2<i)) (CellL [(⟨S,0,Y⟩,Z X s3),(⟨S,1,Y⟩,O a3 m3 c3)]) kM ?_ (fun f=>?_)
      ·exact cA
      refine tu1 (i:=0) ?_;refine cu1 (i:=1) fun K t=>?_
      go_simp
      (with_reducible refine cM (za0 _ 1 dM dM) ?_)
      rintro e w8 ⟨r8,rfl,ad,l⟩;obtain⟨s8,a8,m8,c8,rfl,-⟩:=ad.form2
      go_wp2_with fail
      refine kO t (fun _=>cE f l) (fun f=>?_);clear t K
      replace f:=f rfl
      refine cu1 (i:=2) fun K t=>?_
      go_simp
      (with_reducible refine cM (ze0 _ (I #[Z X s3,O a3 m3 c3]) (I #[Z X s8,O a8 m8 c8]) N1 1 (aQ.ext ((eR wc).drew.trans l)) ad cl.out bt.out) ?_)
      rintro e w9 ⟨r9,rfl,aS,ae⟩;obtain⟨s9,a9,m9,c9,rfl,-⟩:=aS.form2
      go_wp2_with fail
      refine kO t (fun _=>cE f ae) (fun f=>?_);clear t K
      replace f:=f rfl
      have X9:Ext wc w9:=(eR wc).drew.trans (l.trans ae);have dl:S<w9.heap.size:=X9.lt ci;obtain⟨ak,a0⟩:=X9.cells;refine cu1 (i:=3) fun K t=>?_
      go_simp;refine kO t (fun h=>nomatch h) (fun f=>?_);clear t K;refine doneHU kM ?_ _;obtain⟨wa,aI⟩:=gX ((w9.setCell ⟨S,0,Y⟩ (Z X s9)).setCell ⟨S,1,Y⟩ (O a9 m9 c9));have n9:=aj.ext X9;have cC:NB wa S (N1-1):=by rw [←aI];exact n9.put aS
      have c7:NB wa g R:=by
       rw [←aI];exact((aW.ext X9).other (p:=⟨S,0,Y⟩) dO n9.not _).other (p:=⟨S,1,Y⟩) dO (n9.not.set _ _) _
      have aX:wa.heap[g+1]?=M (J #[Z X p,O a' m' c'] 66 (0,0)):=by
       rw [←aI,bS _ _ _ _ dO,bS _ _ _ _ dO];exact X9.heapS a7
      have cX:Ext W0 wa:=by
       rw [←aI];exact((X0.trans X9).set (p:=⟨S,0,Y⟩) dO _).set (p:=⟨S,1,Y⟩) dO _
      rw [aI];clear aI f ak a0 f3 f4 f5 f6;obtain⟨sv,av,mv,cv,-,v0,v1,cg,ch,vz,aU⟩:=c7.rd;have d2:=qcB aX (i:=0) (u:=Z X p) rfl;have d3:=qcB aX (i:=1) (u:=O a' m' c') rfl;have zz:=zaa aX;have cQ:IsN wa (I #[Z X p,O a' m' c']) D:=aH.ext (aF.out.trans cX)
      go_wp2_with(go_at_call 151;(with_reducible refine(ze0 _ (I #[Z X p,O a' m' c']) (I #[Z X sv,O av mv cv]) D R cQ aU bu.out cp.out).mono ?_);rintro e wb ⟨rb,rfl,aT,z⟩;obtain⟨sb,ab,mb,cb,rfl,-⟩:=aT.form2;obtain⟨cI,a1⟩:=z.cells)
      go_meet;refine⟨S,rfl,by omega,by omega,?_,(c7.ext z).put aT,?_,?_⟩
      ·exact((cC.ext z).other (p:=⟨g,0,Y⟩) dO (c7.ext z).not _).other (p:=⟨g,1,Y⟩) dO ((c7.ext z).not.set _ _) _
      ·rw [bS _ _ _ _ sM,bS _ _ _ _ sM];exact z.heapS aX
      ·exact((cX.trans z).set (p:=⟨g,0,Y⟩) dO _).set (p:=⟨g,1,Y⟩) dO _
    case rest =>
     obtain⟨N2,ao⟩:=gX ((if bb=true then N1-1 else N1));obtain⟨R2,ap⟩:=gX ((if bb=true then D-R else R));rw [ao,ap]at hcut
     have aq:(if nd<0 then -N2 else N2)=na / nd∧R2=na % nd:=by
      by_cases ak:na<0∧R≠0
      ·have e:bb=true:=by rw [←aM.out];simpa using ak
       rw [e]at ao ap;simp only [if_true]at ao ap;have:=ck.out ak (by rw [ba.out]);rw [HD.out,ao,ap]at this;exact this
      ·have e:bb=false:=by rw [←aM.out];simpa using ak
       rw [e]at ao ap;simp only [Bool.false_eq_true,if_false]at ao ap;have:=cj.out ak ba.out;rw [ao,ap]at this;exact this
     have bz:=hd9 aq;clear aq ao ap aj aW a7 X0 t0 t1 d0 d1 e0 e1 an aQ bY y0 y7 y8 ci;obtain⟨ga,rfl,bC,bD,ai,br,bs,Xa⟩:=hcut;have e2:=Xa.cellS q0;have dn:w.heap.size+1<wc.heap.size:=Xa.lt z2
     go_upto_if 84 with fail
     go_cut [13] (QuT W0 g (g+1) #[Z X p,O a' m' c'] (if nd<0 then -N2 else N2) R2)
     case first =>
      by_cases cP:nd<0
      ·have b0:s'<0:=by
        have:=bA.out
        rcases zai nd with ⟨e,h⟩|⟨e,h⟩|⟨e,h⟩<;>omega
       obtain⟨sv,av,mv,cv,-,v0,v1,cg,ch,vz,aU⟩:=ai.rd
       go_wp2_with(go_at_call 193;(with_reducible refine(zcI _ (I #[Z X sv,O av mv cv]) N2 aU).mono ?_);rintro e wb ⟨rb,rfl,aT,z⟩;obtain⟨sb,ab,mb,cb,rfl,-⟩:=aT.form2;obtain⟨cI,a1⟩:=z.cells)
       go_meet;refine⟨ga,rfl,by omega,by omega,?_,?_,?_,?_⟩
       ·rw [if_pos cP];exact(ai.ext z).put aT
       ·exact((br.ext z).other (p:=⟨ga,0,Y⟩) dO (ai.ext z).not _).other (p:=⟨ga,1,Y⟩) dO ((ai.ext z).not.set _ _) _
       ·rw [bS _ _ _ _ dO,bS _ _ _ _ dO];exact z.heapS bs
       ·exact((Xa.trans z).set (p:=⟨ga,0,Y⟩) dO _).set (p:=⟨ga,1,Y⟩) dO _
      ·have b0:¬s'<0:=by
        have:=bA.out
        rcases zai nd with ⟨e,h⟩|⟨e,h⟩|⟨e,h⟩<;>omega
       go_wp2;go_meet;exact⟨ga,rfl,bC,bD,by rw [if_neg oM];exact ai,br,bs,Xa⟩
     case rest =>
      obtain⟨bP,a1⟩:=bz.out;rw [bP,a1]at hcut;clear bP a1 e2 dn ai br bs Xa bC bD;obtain⟨gb,rfl,dy,dz,aj,aW,a7,Xb⟩:=hcut;obtain⟨sv,av,mv,cv,-,v0,v1,cg,ch,vz,aU⟩:=aj.rd;obtain⟨su,au,mu,cu,-,u0,u1,dN,dP,uz,cS⟩:=aW.rd;have o1:=Xb.heapS cy.out;have o2:=Xb.heapS cz.out;have cZ:=qcB o1 (i:=0) (u:=Z X 0) rfl;have c0:=qcB o1 (i:=1) (u:=O Y 0 0) rfl;have c1:=qcB o2 (i:=0) (u:=Z X 0) rfl;have c2:=qcB o2 (i:=1) (u:=O Y 0 0) rfl;have dt:=qfB o1 0;have du:=qfB o1 1;have dw:=qfB o2 0;have dx:=qfB o2 1;have di:=zaa o1;have dj:=zaa o2;have dI:¬g=w.heap.size+1+1:=oM
      have dJ:¬gb=w.heap.size+1+1:=oM
      have n1:NoT 3 wc (w.heap.size+1+1):=by intro cs fr e;rw [o1]at e;cases e
      have n2:NoT 3 wc (w.heap.size+1+1+1):=by intro cs fr e;rw [o2]at e;cases e
      have XF:Ext w wc:=aF.out.trans Xb;clear o1 o2;go_wp2;refine zae (fun i=>decide (2<i)) (CellL [(⟨gb,0,Y⟩,Z X sv),(⟨gb,1,Y⟩,O av mv cv),(⟨g,0,Y⟩,Z X su),(⟨g,1,Y⟩,O au mu cu)]) kM ?_ (fun f=>?_)
      ·exact cA
      refine sN 0 ?_
      iterate 2
       refine tun ?_
      refine oN ?_;refine cu1 (i:=2) fun K t=>?_
      go_simp;refine kO t (fun _=>?_) (fun f=>?_)
      ·exact cA
      clear t K
      replace f:=f rfl
      refine cu1 (i:=3) fun K t=>?_
      go_simp;refine kO t (fun h=>nomatch h) (fun f=>?_);clear t K;refine doneHU kM ?_ _;go_wp2;refine bR (v:=.tuple #[I #[Z X sv,O av mv cv],I #[Z X su,O au mu cu]]) (by simp [results,Tryz.results142,go_sem,cZ,c0,c1,c2,di,dj]) rfl ⟨_,_,rfl,?_,?_,eA⟩
      ·exact aU.keep (((((KeepT.refl _ wc).setN n1 _).setN (n1.set _ _) _).setN ((n2.set _ _).set _ _) _).setN (((n2.set _ _).set _ _).set _ _) _)
      ·exact cS.keep (((((KeepT.refl _ wc).setN n1 _).setN (n1.set _ _) _).setN ((n2.set _ _).set _ _) _).setN (((n2.set _ _).set _ _).set _ _) _)
end
end Go.Proofs.YtjnjpagegkcgfaaGreatDoor.Cop
