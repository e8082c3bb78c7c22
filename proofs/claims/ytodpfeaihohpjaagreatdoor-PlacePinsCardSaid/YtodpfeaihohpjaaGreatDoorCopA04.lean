/- Part 5: contracts of what the law calls. -/
import Derived.Test.YtodpfeaihohpjaaGreatDoorCopA03
set_option maxRecDepth 1000000
set_option maxHeartbeats 16000000
set_option linter.unusedSimpArgs false
set_option linter.unusedVariables false
open Go.Value renaming slice→O,bool→Y,agg→X,tuple→N
open Option renaming none→Z,some→M
open Go renaming World→V,Value→J
open Go.Obj renaming cells→I
namespace Go.Proofs.YtodpfeaihohpjaaGreatDoor.Cop
section
open Go.RowKit Go.Shelf
theorem zlr (w:V) (va vb:J) (x y:Int) (ha:IsZ w va x) (hb:IsZ w vb y) (hla:Lm lim x) (hlb:Lm lim y) :
  Calls Tryz.prog 124 #[va,vb] w (RetZ w (Int.gcd x y:Nat)):=by
 obtain⟨a,m,c,s,rfl⟩:=ha.form;obtain⟨a',m',c',s',rfl⟩:=hb.form;have hda:=ha.dig;have hdb:=hb.dig;have HLa:=hd9 hla.abs;have HLb:=hd9 hlb.abs;clear hla hlb ha hb;have e:(Int.gcd x y:Int)=(Int.gcd (x.natAbs:Int) (y.natAbs:Int):Nat):=by simp [Int.gcd]
 rw [e];clear e;go_enter Tryz.func124,Tryz.ntmps124
 go_wp2_with(first|((go_at_call 159;(with_reducible refine(zhH _ (X #[O a m c]) (X #[O a' m' c']) x.natAbs y.natAbs ?_ ?_ HLa.out HLb.out).mono ?_);(refine hda.ext ?_;exact eA);(refine hdb.ext ?_;exact eA);rintro e w1 ⟨r1,rfl,hr1,hx1⟩;obtain⟨a1,m1,c1,rfl⟩:=hr1.form;obtain⟨⟨hc1,hf1⟩,z1_0,z1_1,z1_2⟩:=cK3 w hx1))|((go_at_call 112;(with_reducible refine(zaA _ false (X #[O a1 m1 c1]) (Int.gcd (x.natAbs:Int) (y.natAbs:Int):Nat) ?_).mono ?_);(refine hr1.ext ?_;exact eA);rintro e w2 ⟨r2,rfl,hr2,hx2⟩;obtain⟨a2,m2,c2,s2,rfl⟩:=hr2.form;obtain⟨⟨hc2,hf2⟩,z2_0,z2_1,z2_2⟩:=cK3 w hx2)))
 exact bR (v:=X #[O a2 m2 c2,Y s2]) (by simp [results,Tryz.results124,go_sem,hc1,hc2,z1_2,z2_2]) rfl ⟨_,rfl,hr2.keep kA,eA⟩
def QtS (w:V) (d:J) (sd:Bool) (q r:Int) (W:V):Prop:=
 Ext w W∧W.heap[w.heap.size+1]?=M (I #[d,Y sd] 63 (0,0)) ∧
 ∃aq mq cq sq ar mr cr sr,W.heap[w.heap.size+1+1]?=M (I #[O aq mq cq,Y sq] 63 (0,0))∧IsZ W (X #[O aq mq cq,Y sq]) q ∧
  W.heap[w.heap.size+1+1+1]?=M (I #[O ar mr cr,Y sr] 63 (0,0))∧IsZ W (X #[O ar mr cr,Y sr]) r
def QtR (w:V) (d:J) (sd:Bool) (x y:Int) (_:J) (W:V):Prop:=∃q,QtS w d sd q (x % y) W∧(if sd then -q else q)=x / y
theorem zmr {x y:Int} (s t:Bool) (hs:s=decide (x<0)) (ht:t=decide (y<0)) (hy:y≠0) (h:s=false∨(x.natAbs:Int) % (y.natAbs:Int)=0) :
  (if t then -(sg s ((x.natAbs:Int) / (y.natAbs:Int)))else sg s ((x.natAbs:Int) / (y.natAbs:Int)))=x / y∧(x.natAbs:Int) % (y.natAbs:Int)=x % y:=by
 have hm:x % y=x % (y.natAbs:Int):=by
  rcases Int.natAbs_eq y with h|h
  ·rw [←h]
  ·conv=>lhs;rw [h,Int.emod_neg]
 have hxe:s=false→(x.natAbs:Int)=x:=fun h=>by subst hs;simp at h;omega
 have hxe2:s=true→(x.natAbs:Int) = -x:=fun h=>by subst hs;simp at h;omega
 have hd:x / y=if t then -(x / (y.natAbs:Int))else x / (y.natAbs:Int):=by
  subst ht
  by_cases h:y<0
  ·simp only [h,decide_true,if_true]
   rw [show (y.natAbs:Int) = -y by omega,Int.ediv_neg,Int.neg_neg]
  ·simp only [h,decide_false,Bool.false_eq_true,if_false]
   rw [show (y.natAbs:Int)=y by omega]
 have hy':(y.natAbs:Int)≠0:=by omega
 rw [hd,hm]
 cases s
 ·rw [hxe rfl];simp [sg]
 ·rw [hxe2 rfl]at h ⊢
  have h0:(-x) % (y.natAbs:Int)=0:=by rcases h with h|h;cases h;exact h
  have h1:x % (y.natAbs:Int)=0:=by
   have:=Int.dvd_of_emod_eq_zero h0;exact Int.emod_eq_zero_of_dvd (by simpa using Int.dvd_neg.2 this)
  refine⟨?_,by rw [h0,h1]⟩
  have h2:(-x) / (y.natAbs:Int) = -(x / (y.natAbs:Int)):=by
   apply Int.ediv_eq_of_eq_mul_left hy'
   rw [Int.neg_mul,Int.ediv_mul_cancel (Int.dvd_of_emod_eq_zero h1)]
  simp [sg,h2]
theorem znC {x y:Int} (t:Bool) (hs:x<0) (ht:t=decide (y<0)) (hy:y≠0) (h:(x.natAbs:Int) % (y.natAbs:Int)≠0) :
  (if t then -(sg true ((x.natAbs:Int) / (y.natAbs:Int))-1)else sg true ((x.natAbs:Int) / (y.natAbs:Int))-1)=x / y∧(y.natAbs:Int)-(x.natAbs:Int) % (y.natAbs:Int)=x % y:=by
 have hm:x % y=x % (y.natAbs:Int):=by
  rcases Int.natAbs_eq y with h|h
  ·rw [←h]
  ·conv=>lhs;rw [h,Int.emod_neg]
 have hd:x / y=if t then -(x / (y.natAbs:Int))else x / (y.natAbs:Int):=by
  subst ht
  by_cases h:y<0
  ·simp only [h,decide_true,if_true]
   rw [show (y.natAbs:Int) = -y by omega,Int.ediv_neg,Int.neg_neg]
  ·simp only [h,decide_false,Bool.false_eq_true,if_false]
   rw [show (y.natAbs:Int)=y by omega]
 have hp:0<(y.natAbs:Int):=by omega
 rw [hd,hm,show (x.natAbs:Int) = -x by omega]at *
 generalize (y.natAbs:Int)=p at *
 have e1:=Int.mul_ediv_add_emod (-x) p;have e2:=Int.emod_nonneg (-x) (show p≠0 by omega);have e3:=Int.emod_lt_of_pos (-x) hp
 have key:x / p = -(-x / p)-1∧x % p=p-(-x) % p:=by
  have:=(Int.ediv_emod_unique (a:=x) (b:=p) (q:=-(-x / p)-1) (r:=p-(-x) % p) hp).2 ⟨by grind,by omega,by omega⟩;exact this
 rw [key.1,key.2];simp [sg]
def RetQ (w:V) (q r:Int) (e:Ending) (w':V):Prop:=∃vq vr,e = .returned (N #[vq,vr,.int .i64 0])∧IsZ w' vq q∧IsZ w' vr r∧Ext w w'
theorem QtS.ext {w:V} {d:J} {sd:Bool} {q r:Int} {W W':V} (h:QtS w d sd q r W) (k:Ext W W'):QtS w d sd q r W':=by
 obtain⟨h1,h2,aq,mq,cq,sq,ar,mr,cr,sr,h3,h4,h5,h6⟩:=h;exact⟨h1.trans k,k.heapS h2,aq,mq,cq,sq,ar,mr,cr,sr,k.heapS h3,h4.ext k,k.heapS h5,h6.ext k⟩
theorem zaO {W:V} {g:Nat} {x y:J} {T:TypeId} {fr:Nat×Nat} (h:W.heap[g]?=M (I #[x,y] T fr)) (u v:J) :
  ((W.setCell ⟨g,0,Z⟩ u).setCell ⟨g,1,Z⟩ v).heap[g]?=M (I #[u,v] T fr):=by
 simp [World.setCell,Array.getElem?_modify,h]
theorem zat {W:V} {g i:Nat} {v:J} (h:W.cell? ⟨g,i,Z⟩=M v):W.setCell ⟨g,i,Z⟩ v=W:=by
 have e:(W.setCell ⟨g,i,Z⟩ v).heap=W.heap:=by
  apply Array.ext_getElem?
  intro k
  by_cases hk:k=g
  ·subst hk
   simp only [World.setCell,Array.getElem?_modify,if_pos];unfold World.cell? at h
   cases hw:W.heap[k]? with
   | none=>rfl
   | some o =>
    cases o with
    | cells cs T fr =>
     simp [hw]at h
     have:cs.setIfInBounds i v=cs:=by
      apply Array.ext_getElem?
      intro j;rw [Array.getElem?_setIfInBounds]
      split
      ·subst_vars
       split
       ·exact h.symm
       ·rename_i h2;rw [Array.getElem?_eq_none (by omega)]
      ·rfl
     simp [this]
    | _=>simp
  ·exact bS _ _ _ _ hk
 have e3:W.setCell ⟨g,i,Z⟩ v={ W with heap:=(W.setCell ⟨g,i,Z⟩ v).heap }:=rfl;rw [e3,e]
theorem qcB {W:V} {g:Nat} {cs:Array J} {T:TypeId} {fr:Nat×Nat} (h:W.heap[g]?=M (I cs T fr)) {i:Nat} {u:J} (hi:cs[i]?=M u):W.cell? ⟨g,i,Z⟩=M u:=by
 simp [World.cell?,h,hi]
theorem qfB {W:V} {g:Nat} {cs:Array J} {T:TypeId} (h:W.heap[g]?=M (I cs T (0,0))) (i:Nat):W.frozen? ⟨g,i,Z⟩=false:=by
 simp [World.frozen?,h]
theorem QtS.setQ {w:V} {d:J} {sd:Bool} {q q' r:Int} {W:V} (h:QtS w d sd q r W) {a:Option Addr} {m c:Nat} {s:Bool} (hz:IsZ W (X #[O a m c,Y s]) q') :
  QtS w d sd q' r ((W.setCell ⟨w.heap.size+1+1,0,Z⟩ (O a m c)).setCell ⟨w.heap.size+1+1,1,Z⟩ (Y s)):=by
 obtain⟨h1,h2,aq,mq,cq,sq,ar,mr,cr,sr,h3,h4,h5,h6⟩:=h;have hk:∀k,k≠w.heap.size+1+1→((W.setCell ⟨w.heap.size+1+1,0,Z⟩ (O a m c)).setCell ⟨w.heap.size+1+1,1,Z⟩ (Y s)).heap[k]?=W.heap[k]?:=fun k hk=>by rw [bS _ _ _ _ hk,bS _ _ _ _ hk]
 have hn:NoT 2 W (w.heap.size+1+1):=fun cs fr e=>by rw [h3]at e;cases e
 have hK:KeepT 2 W ((W.setCell ⟨w.heap.size+1+1,0,Z⟩ (O a m c)).setCell ⟨w.heap.size+1+1,1,Z⟩ (Y s)):=((KeepT.refl _ W).setN hn _).setN (hn.set _ _) _;exact⟨(h1.set (by dsimp only;omega) _).set (by dsimp only;omega) _,(hk _ (by omega)).trans h2,a,m,c,s,ar,mr,cr,sr,zaO h3 _ _,hz.keep hK,(hk _ (by omega)).trans h5,h6.keep hK⟩
theorem zfn (w:V) (va vb:J) (x y:Int) (ha:IsZ w va x) (hb:IsZ w vb y) (hla:Lm limA x) (hlb:Lm limA y) (hy:y≠0) (hxy:0≤x∨y ∣ x) :
  Calls Tryz.prog 106 #[va,vb] w (RetQ w (x / y) (x % y)):=by
 obtain⟨a,m,c,s,rfl⟩:=ha.form;obtain⟨a',m',c',s',rfl⟩:=hb.form;have Hsa:=hd9 ha.sgn;have Hsb:=hd9 hb.sgn;have hda:=ha.dig;have hdb:=hb.dig;have HLa:=hd9 hla.abs;have HLb:=hd9 hlb.abs;have hyb:((y.natAbs:Int)==0)=false:=by simp;omega
 have hyp:0<(y.natAbs:Int):=by omega
 clear hla hlb ha;go_enter Tryz.func106,Tryz.ntmps106
 go_wp2_with(first|((go_at_call 92;(with_reducible refine(zan _ (X #[O a' m' c']) y.natAbs ?_).mono ?_);(refine hdb.ext ?_;exact eA);rintro e w1 ⟨rfl,hx1⟩;obtain⟨⟨hc1,hf1⟩,z1_0,z1_1,z1_2,z1_3⟩:=cK4 w hx1))|((go_at_call 139;(with_reducible refine(zhf _ (X #[O a m c]) (X #[O a' m' c']) x.natAbs y.natAbs ?_ ?_ HLa.out HLb.out hyp).mono ?_);(refine hda.ext ?_;exact eA);(refine hdb.ext ?_;exact eA);rintro e w2 ⟨r2,r3,rfl,hr2,hr3,hx2⟩;obtain⟨a2,m2,c2,rfl⟩:=hr2.isD.form;obtain⟨a3,m3,c3,rfl⟩:=hr3.isD.form;obtain⟨⟨hc2,hf2⟩,z2_0,z2_1,z2_2,z2_3⟩:=cK4 w hx2;have e2_0_0:w.heap.size<w2.heap.size+1:=(by omega);have e2_0_1:w.heap.size<w2.heap.size+1+1:=(by omega);have e2_1_0:w.heap.size+1<w2.heap.size+1:=(by omega);have e2_1_1:w.heap.size+1<w2.heap.size+1+1:=(by omega);have e2_2_0:w.heap.size+1+1<w2.heap.size+1:=(by omega);have e2_2_1:w.heap.size+1+1<w2.heap.size+1+1:=(by omega);have e2_3_0:w.heap.size+1+1+1<w2.heap.size+1:=(by omega);have e2_3_1:w.heap.size+1+1+1<w2.heap.size+1+1:=(by omega))))
 go_region_held3 (fun W=>W.cell? ⟨w.heap.size,1,Z⟩=M (Y s)∧W.cell? ⟨w2.heap.size,0,Z⟩=M (O a2 m2 c2)∧W.cell? ⟨w2.heap.size+1,0,Z⟩=M (O a3 m3 c3)) ((repeat' (with_reducible refine And.intro ?_ ?_))<;>(first|(go_simp;done)|(refine hx1.cellS ?_;go_simp;done))) (first|((go_at_call 112;(with_reducible refine(zaA _ s (X #[O a2 m2 c2]) ((x.natAbs:Int) / (y.natAbs:Int)) ?_).mono ?_);(refine hr2.isD.ext ?_;exact eA);rintro e w3 ⟨r4,rfl,hr4,hx3⟩;obtain⟨a4,m4,c4,s4,rfl⟩:=hr4.form;obtain⟨⟨hc3,hf3⟩,z3_0,z3_1,z3_2,z3_3⟩:=cK4 w hx3;have y3_0:=hx3.lt (n:=w2.heap.size) (by go_simp);have y3_1:=hx3.lt (n:=w2.heap.size+1) (by go_simp)))|((go_at_call 112;(with_reducible refine(zaA _ false (X #[O a3 m3 c3]) ((x.natAbs:Int) % (y.natAbs:Int)) ?_).mono ?_);(refine hr3.isD.ext ?_;exact eA);rintro e w4 ⟨r5,rfl,hr5,hx4⟩;obtain⟨a5,m5,c5,s5,rfl⟩:=hr5.form;obtain⟨⟨hc4,hf4⟩,z4_0,z4_1,z4_2,z4_3⟩:=cK4 w hx4;have y4_0:=hx4.lt (n:=w2.heap.size) (by go_simp);have y4_1:=hx4.lt (n:=w2.heap.size+1) (by go_simp))))
 have hD34:=hr3.isD.ext (w':=w4) eA;have hxx:Ext ((((w.alloc (I #[O a m c,Y s] 63)).alloc (I #[O a' m' c',Y s'] 63)).alloc (I #[O Z 0 0,Y false] 63)).alloc (I #[O Z 0 0,Y false] 63)) w4:=eA
 have hq4:QtS w (O a' m' c') s' (sg s ((x.natAbs:Int) / (y.natAbs:Int))) ((x.natAbs:Int) % (y.natAbs:Int)) ((((w4.setCell ⟨w.heap.size+1+1,0,Z⟩ (O a4 m4 c4)).setCell ⟨w.heap.size+1+1,1,Z⟩ (Y s4)).setCell ⟨w.heap.size+1+1+1,0,Z⟩ (O a5 m5 c5)).setCell ⟨w.heap.size+1+1+1,1,Z⟩ (Y s5)):=by
  have hxx:Ext ((((w.alloc (I #[O a m c,Y s] 63)).alloc (I #[O a' m' c',Y s'] 63)).alloc (I #[O Z 0 0,Y false] 63)).alloc (I #[O Z 0 0,Y false] 63)) w4:=eA;have e1:w4.heap[w.heap.size+1]?=M (I #[O a' m' c',Y s'] 63 (0,0)):=hxx.heapS (by rw [zae,zae,zae];simp);have e2:w4.heap[w.heap.size+1+1]?=M (I #[O Z 0 0,Y false] 63 (0,0)):=hxx.heapS (by rw [zae,zae];simp);have e3:w4.heap[w.heap.size+1+1+1]?=M (I #[O Z 0 0,Y false] 63 (0,0)):=hxx.heapS (by rw [zae];simp);have k1:∀k,k≠w.heap.size+1+1→((w4.setCell ⟨w.heap.size+1+1,0,Z⟩ (O a4 m4 c4)).setCell ⟨w.heap.size+1+1,1,Z⟩ (Y s4)).heap[k]?=w4.heap[k]?:=fun k hk=>by rw [bS _ _ _ _ hk,bS _ _ _ _ hk]
  have k2:∀(W:V) k,k≠w.heap.size+1+1+1→((W.setCell ⟨w.heap.size+1+1+1,0,Z⟩ (O a5 m5 c5)).setCell ⟨w.heap.size+1+1+1,1,Z⟩ (Y s5)).heap[k]?=W.heap[k]?:=fun W k hk=>by rw [bS _ _ _ _ hk,bS _ _ _ _ hk]
  have n2:NoT 2 w4 (w.heap.size+1+1):=fun cs fr e=>by rw [e2]at e;cases e
  have n3:NoT 2 w4 (w.heap.size+1+1+1):=fun cs fr e=>by rw [e3]at e;cases e
  have hK:KeepT 2 w4 ((((w4.setCell ⟨w.heap.size+1+1,0,Z⟩ (O a4 m4 c4)).setCell ⟨w.heap.size+1+1,1,Z⟩ (Y s4)).setCell ⟨w.heap.size+1+1+1,0,Z⟩ (O a5 m5 c5)).setCell ⟨w.heap.size+1+1+1,1,Z⟩ (Y s5)):=
   ((((KeepT.refl _ w4).setN n2 _).setN (n2.set _ _) _).setN ((n3.set _ _).set _ _) _).setN (((n3.set _ _).set _ _).set _ _) _
  exact⟨eA,((k2 _ _ (by omega)).trans (k1 _ (by omega))).trans e1,a4,m4,c4,s4,a5,m5,c5,s5,(k2 _ _ (by omega)).trans (zaO e2 _ _),(hr4.ext eA).keep hK,zaO ((k1 _ (by omega)).trans e3) _ _,hr5.keep hK⟩
 have hD3:IsD ((((w4.setCell ⟨w.heap.size+1+1,0,Z⟩ (O a4 m4 c4)).setCell ⟨w.heap.size+1+1,1,Z⟩ (Y s4)).setCell ⟨w.heap.size+1+1+1,0,Z⟩ (O a5 m5 c5)).setCell ⟨w.heap.size+1+1+1,1,Z⟩ (Y s5)) (X #[O a3 m3 c3]) ((x.natAbs:Int) % (y.natAbs:Int)):=by
  refine hD34.keep ?_;have e2:w4.heap[w.heap.size+1+1]?=M (I #[O Z 0 0,Y false] 63 (0,0)):=hxx.heapS (by rw [zae,zae];simp);have e3:w4.heap[w.heap.size+1+1+1]?=M (I #[O Z 0 0,Y false] 63 (0,0)):=hxx.heapS (by rw [zae];simp);have n2:NoT 2 w4 (w.heap.size+1+1):=fun cs fr e=>by rw [e2]at e;cases e
  have n3:NoT 2 w4 (w.heap.size+1+1+1):=fun cs fr e=>by rw [e3]at e;cases e
  exact((((KeepT.refl _ w4).setN n2 _).setN (n2.set _ _) _).setN ((n3.set _ _).set _ _) _).setN (((n3.set _ _).set _ _).set _ _) _
 have Hq4:=hd9 hq4;clear hq4
 by_cases hA:s=false∨(x.natAbs:Int) % (y.natAbs:Int)=0
 ·have hfin:=zmr s s' Hsa.out Hsb.out hy hA
  have Hfin:=hd9 hfin;clear hfin
  cases s
  ·go_upto_if 34 with fail
   go_cut [38] (QtR w (O a' m' c') s' x y)
   case first =>
    go_wp2;go_meet;exact⟨_,by rw [←Hfin.out.2];exact Hq4.out,Hfin.out.1⟩
   case rest =>
    obtain⟨q,hS,hq⟩:=hcut;have HS:=hd9 hS;obtain⟨hx,hB,aq,mq,cq,sq,ar,mr,cr,sr,h3,h4,h5,h6⟩:=hS;have b0:=qcB hB (i:=0) (u:=O a' m' c') rfl;have b1:=qcB hB (i:=1) (u:=Y s') rfl;have q0:=qcB h3 (i:=0) (u:=O aq mq cq) rfl;have q1:=qcB h3 (i:=1) (u:=Y sq) rfl;have r0:=qcB h5 (i:=0) (u:=O ar mr cr) rfl;have r1:=qcB h5 (i:=1) (u:=Y sr) rfl;have fq0:=qfB h3 0;have fq1:=qfB h3 1;have fr0:=qfB h5 0;have fr1:=qfB h5 1;have zc0:=zaa h3;have zc1:=zaa h5;have H3B:=hd9 hB;clear h3 h5 hB
    go_upto_if 43 with fail
    go_cut [44] (fun _ W=>QtS w (O a' m' c') s' (x / y) (x % y) W)
    case first =>
     cases s'
     ·go_wp2
      go_meet;simp at hq;rw [←hq];exact HS.out
     ·go_wp2_with(first|((go_at_call 117;(with_reducible refine(zcK _ (X #[O aq mq cq,Y sq]) q ?_).mono ?_);(refine h4.ext ?_;exact eA);rintro e w9 ⟨r9,rfl,hr9,hx9⟩;obtain⟨a9,m9,c9,s9,rfl⟩:=hr9.form;obtain⟨hc9,hf9⟩:=hx9.cells)))
      go_meet;simp at hq;rw [←hq];exact(HS.out.ext hx9).setQ hr9
    case rest =>
     clear hx h4 h6 b0 b1 q0 q1 r0 r1 fq0 fq1 fr0 fr1 zc0 zc1 HS hq H3B;obtain⟨wd,rfl⟩:∃W,W=wc:=⟨_,rfl⟩;have hS:=hcut;have HS:=hd9 hS;obtain⟨hx,hB,aq,mq,cq,sq,ar,mr,cr,sr,h3,h4,h5,h6⟩:=hS;have b0:=qcB hB (i:=0) (u:=O a' m' c') rfl;have b1:=qcB hB (i:=1) (u:=Y s') rfl;have q0:=qcB h3 (i:=0) (u:=O aq mq cq) rfl;have q1:=qcB h3 (i:=1) (u:=Y sq) rfl;have r0:=qcB h5 (i:=0) (u:=O ar mr cr) rfl;have r1:=qcB h5 (i:=1) (u:=Y sr) rfl;have fq0:=qfB h3 0;have fq1:=qfB h3 1;have fr0:=qfB h5 0;have fr1:=qfB h5 1;have zc0:=zaa h3;have zc1:=zaa h5;have H3B:=hd9 hB;clear h3 h5 hB;have sq0:=zat q0;have sq1:=zat q1;have sr0:=zat r0;have sr1:=zat r1;go_wp2
     go_region_with (fail)
     all_goals go_wp2
     all_goals exact bR (v:=N #[X #[O aq mq cq,Y sq],X #[O ar mr cr,Y sr],.int .i64 0]) (by simp [results,Tryz.results106,go_sem,q0,q1,r0,r1,sq0,sq1,sr0,sr1]) rfl ⟨_,_,rfl,by(try simp only [sq0,sq1,sr0,sr1]);exact h4.ext eA,by(try simp only [sq0,sq1,sr0,sr1]);exact h6.ext eA,by(try simp only [sq0,sq1,sr0,sr1]);(repeat(first|with_reducible assumption|with_reducible refine Ext.drew ?_))⟩
  ·have h0:(x.natAbs:Int) % (y.natAbs:Int)=0:=by simpa using hA
   have h0b:((x.natAbs:Int) % (y.natAbs:Int)==0)=true:=by simpa using h0
   have H0:=hd9 h0;clear h0 hA
   go_upto_if 34 with (first|((go_at_call 92;(with_reducible refine(zan _ (X #[O a3 m3 c3]) ((x.natAbs:Int) % (y.natAbs:Int)) ?_).mono ?_);(refine hD3.ext ?_;exact eA);rintro e w5 ⟨rfl,hx5⟩;obtain⟨⟨hc5,hf5⟩,z5_0,z5_1,z5_2,z5_3⟩:=cK4 w hx5)))
   go_cut [38] (QtR w (O a' m' c') s' x y)
   case first =>
    go_wp2;go_meet;exact⟨_,by rw [←Hfin.out.2];exact Hq4.out.ext hx5,Hfin.out.1⟩
   case rest =>
    obtain⟨q,hS,hq⟩:=hcut;have HS:=hd9 hS;obtain⟨hx,hB,aq,mq,cq,sq,ar,mr,cr,sr,h3,h4,h5,h6⟩:=hS;have b0:=qcB hB (i:=0) (u:=O a' m' c') rfl;have b1:=qcB hB (i:=1) (u:=Y s') rfl;have q0:=qcB h3 (i:=0) (u:=O aq mq cq) rfl;have q1:=qcB h3 (i:=1) (u:=Y sq) rfl;have r0:=qcB h5 (i:=0) (u:=O ar mr cr) rfl;have r1:=qcB h5 (i:=1) (u:=Y sr) rfl;have fq0:=qfB h3 0;have fq1:=qfB h3 1;have fr0:=qfB h5 0;have fr1:=qfB h5 1;have zc0:=zaa h3;have zc1:=zaa h5;have H3B:=hd9 hB;clear h3 h5 hB
    go_upto_if 43 with fail
    go_cut [44] (fun _ W=>QtS w (O a' m' c') s' (x / y) (x % y) W)
    case first =>
     cases s'
     ·go_wp2
      go_meet;simp at hq;rw [←hq];exact HS.out
     ·go_wp2_with(first|((go_at_call 117;(with_reducible refine(zcK _ (X #[O aq mq cq,Y sq]) q ?_).mono ?_);(refine h4.ext ?_;exact eA);rintro e w9 ⟨r9,rfl,hr9,hx9⟩;obtain⟨a9,m9,c9,s9,rfl⟩:=hr9.form;obtain⟨hc9,hf9⟩:=hx9.cells)))
      go_meet;simp at hq;rw [←hq];exact(HS.out.ext hx9).setQ hr9
    case rest =>
     clear hx h4 h6 b0 b1 q0 q1 r0 r1 fq0 fq1 fr0 fr1 zc0 zc1 HS hq H3B;obtain⟨wd,rfl⟩:∃W,W=wc:=⟨_,rfl⟩;have hS:=hcut;have HS:=hd9 hS;obtain⟨hx,hB,aq,mq,cq,sq,ar,mr,cr,sr,h3,h4,h5,h6⟩:=hS;have b0:=qcB hB (i:=0) (u:=O a' m' c') rfl;have b1:=qcB hB (i:=1) (u:=Y s') rfl;have q0:=qcB h3 (i:=0) (u:=O aq mq cq) rfl;have q1:=qcB h3 (i:=1) (u:=Y sq) rfl;have r0:=qcB h5 (i:=0) (u:=O ar mr cr) rfl;have r1:=qcB h5 (i:=1) (u:=Y sr) rfl;have fq0:=qfB h3 0;have fq1:=qfB h3 1;have fr0:=qfB h5 0;have fr1:=qfB h5 1;have zc0:=zaa h3;have zc1:=zaa h5;have H3B:=hd9 hB;clear h3 h5 hB;have sq0:=zat q0;have sq1:=zat q1;have sr0:=zat r0;have sr1:=zat r1;go_wp2
     go_region_with (fail)
     all_goals go_wp2
     all_goals exact bR (v:=N #[X #[O aq mq cq,Y sq],X #[O ar mr cr,Y sr],.int .i64 0]) (by simp [results,Tryz.results106,go_sem,q0,q1,r0,r1,sq0,sq1,sr0,sr1]) rfl ⟨_,_,rfl,by(try simp only [sq0,sq1,sr0,sr1]);exact h4.ext eA,by(try simp only [sq0,sq1,sr0,sr1]);exact h6.ext eA,by(try simp only [sq0,sq1,sr0,sr1]);(repeat(first|with_reducible assumption|with_reducible refine Ext.drew ?_))⟩
 ·exfalso
  rcases hxy with h|h
  ·exact hA (.inl (by rw [Hsa.out];simp;omega))
  ·exact hA (.inr (Int.emod_eq_zero_of_dvd (by simpa using Int.natAbs_dvd.2 (Int.dvd_natAbs.2 h))))
def IsR (w:V) (v:J) (q:Rat):Prop:=
 ∃a m c s a2 m2 c2,v=X #[O a m c,Y s,O a2 m2 c2]∧IsZ w (X #[O a m c,Y s]) q.num∧IsD w (X #[O a2 m2 c2]) ((q.den:Int)-1)
section
variable {w w':V} {v:J} {q:Rat} {a a2:Option Addr} {m c m2 c2:Nat} {s:Bool}
theorem IsR.ext (h:IsR w v q) (k:Ext w w'):IsR w' v q:=by
 obtain⟨a,m,c,s,a2,m2,c2,rfl,h1,h2⟩:=h;exact⟨a,m,c,s,a2,m2,c2,rfl,h1.ext k,h2.ext k⟩
theorem IsR.keep (h:IsR w v q) (k:KeepT 2 w w'):IsR w' v q:=by
 obtain⟨a,m,c,s,a2,m2,c2,rfl,h1,h2⟩:=h;exact⟨a,m,c,s,a2,m2,c2,rfl,h1.keep k,h2.keep k⟩
theorem IsR.form (h:IsR w v q):∃a m c s a2 m2 c2,v=X #[O a m c,Y s,O a2 m2 c2]:=by
 obtain⟨a,m,c,s,a2,m2,c2,rfl,h1,h2⟩:=h;exact⟨a,m,c,s,a2,m2,c2,rfl⟩
theorem IsR.top (h:IsR w (X #[O a m c,Y s,O a2 m2 c2]) q):IsZ w (X #[O a m c,Y s]) q.num:=by
 obtain⟨a,m,c,s,a2,m2,c2,e,h1,h2⟩:=h;cases e;exact h1
theorem IsR.rest (h:IsR w (X #[O a m c,Y s,O a2 m2 c2]) q):IsD w (X #[O a2 m2 c2]) ((q.den:Int)-1):=by
 obtain⟨a,m,c,s,a2,m2,c2,e,h1,h2⟩:=h;cases e;exact h2
theorem IsR.mk (h1:IsZ w (X #[O a m c,Y s]) q.num) (h2:IsD w (X #[O a2 m2 c2]) ((q.den:Int)-1)):IsR w (X #[O a m c,Y s,O a2 m2 c2]) q:=
 ⟨_,_,_,_,_,_,_,rfl,h1,h2⟩
theorem IsD.nil (w:V):IsD w (X #[O Z 0 0]) 0:=⟨_,[],rfl,Ints.nil _ _,Can.nil _,rfl⟩
theorem IsR.zero (w:V):IsR w (X #[O Z 0 0,Y false,O Z 0 0]) 0:=IsR.mk (IsZ.nil w) (IsD.nil w)
end
def Rb (k:Nat) (q:Rat):Prop:=Lm k q.num∧Lm k (q.den:Int)
theorem Rb.mono {j k:Nat} {q:Rat} (h:Rb j q) (hk:j≤k):Rb k q:=⟨h.1.mono hk,h.2.mono hk⟩
def RetR (w:V) (q:Rat) (e:Ending) (w':V):Prop:=∃r,e = .returned r∧IsR w' r q∧Ext w w'
def limR:Nat:=1000000
theorem den_pos (q:Rat):0<(q.den:Int):=by have:=q.den_pos;omega
theorem Lm.add1 {k:Nat} {n:Int} (h:Lm k n):Lm k (n-1)∨n≤0:=by unfold Lm at *;omega
theorem zg7 {k:Nat} (hk:1≤k):Lm k 1:=Lm.mono (j:=1) (by unfold Lm B;omega) hk
theorem zbz (w:V) (v:J) (q:Rat) (h:IsR w v q):Calls Tryz.prog 21 #[v] w fun e w'=>e = .returned (.int .i64 q.num.sign)∧Ext w w':=by
 obtain⟨a,m,c,s,a2,m2,c2,rfl⟩:=h.form;go_enter Tryz.func21,Tryz.ntmps21
 go_wp2_with(((go_at_call 67;(with_reducible refine(zgc _ (X #[O a m c,Y s]) q.num ?_).mono ?_);(refine h.top.ext ?_;exact eA);rintro e w1 ⟨rfl,hx1⟩;obtain⟨⟨hc1,hf1⟩,z1_0⟩:=cK1 w hx1)))
 go_ret;exact⟨rfl,eA⟩
theorem zas (w:V) (v:J) (q:Rat) (h:IsR w v q) (hb:Rb limR q):Calls Tryz.prog 64 #[v] w (RetZ w (q.den:Int)):=by
 obtain⟨a,m,c,s,a2,m2,c2,rfl⟩:=h.form;have hdp:=den_pos q;have HL:Hid (Lm lim ((q.den:Int)-1)):=hd9 ((hb.2.mono (by decide)).le (by omega) (by omega));have H1:Hid (Lm lim 1):=hd9 (zg7 (by decide));have hr:=h.rest;clear hb h;go_enter Tryz.func64,Tryz.ntmps64;go_wp2
 go_region_held3 (fun W=>W.cell? ⟨w.heap.size,2,Z⟩=M (O a2 m2 c2)) ((repeat' (with_reducible refine And.intro ?_ ?_))<;>(first|(go_simp;done)|(refine hx1.cellS ?_;go_simp;done))) (first|((go_at_call 115;(with_reducible refine(zbM _ 1 (by decide) (by decide)).mono ?_);rintro e w1 ⟨r1,rfl,hr1,hx1⟩;obtain⟨a1,m1,c1,rfl⟩:=hr1.isD.form;obtain⟨⟨hc1,hf1⟩,z1_0,z1_1⟩:=cK2 w hx1))|((go_at_call 114;(with_reducible refine(zaN _ (X #[O a2 m2 c2]) (X #[O a1 m1 c1]) ((q.den:Int)-1) 1 1 ?_ ?_ HL.out H1.out (by decide) (by omega)).mono ?_);(refine hr.ext ?_;exact eA);(refine hr1.isD.ext ?_;exact eA);rintro e w2 ⟨r2,rfl,hr2,hx2⟩;obtain⟨a3,m3,c3,rfl⟩:=hr2.isD.form;obtain⟨⟨hc2,hf2⟩,z2_0,z2_1⟩:=cK2 w hx2)))
 all_goals go_wp2
 refine bR (v:=X #[O a3 m3 c3,Y false]) (by simp [results,Tryz.results64,go_sem,hc1,hc2,z1_1,z2_1]) rfl ⟨_,rfl,IsZ.keep (w:=w2) ?_ kA,eA⟩;refine⟨_,_,_,_,rfl,by simp,?_⟩;have e:(((q.den:Int).natAbs:Nat):Int)=(q.den:Int)-1+1*1:=by omega
 rw [e];exact hr2.isD
theorem zib (w:V) (v:J) (n:Int) (h:IsZ w v n):Calls Tryz.prog 68 #[v] w (RetR w (n:Rat)):=by
 obtain⟨a,m,c,s,rfl⟩:=h.form;go_enter Tryz.func68,Tryz.ntmps68;go_wp2;exact bR (v:=X #[O a m c,Y s,O Z 0 0]) (by simp [results,Tryz.results68,go_sem]) rfl ⟨_,rfl,IsR.mk (h.ext eA) (IsD.nil _),eA⟩
theorem zjV (w:V) (n:Int) (h0 : -9223372036854775808≤n) (h1:n≤9223372036854775807):Calls Tryz.prog 22 #[.int .i64 n] w (RetR w (n:Rat)):=by
 go_enter Tryz.func22,Tryz.ntmps22
 go_wp2_with(first|((go_at_call 69;(with_reducible refine(zfm _ n h0 h1).mono ?_);rintro e w1 ⟨r1,rfl,hr1,hx1⟩;obtain⟨a1,m1,c1,s1,rfl⟩:=hr1.form;obtain⟨⟨hc1,hf1⟩,z1_0⟩:=cK1 w hx1))|((go_at_call 68;(with_reducible refine(zib _ (X #[O a1 m1 c1,Y s1]) n hr1).mono ?_);rintro e w2 ⟨r2,rfl,hr2,hx2⟩;obtain⟨a2,m2,c2,s2,a3,m3,c3,rfl⟩:=hr2.form;obtain⟨⟨hc2,hf2⟩,z2_0⟩:=cK1 w hx2)))
 exact bR (v:=X #[O a2 m2 c2,Y s2,O a3 m3 c3]) (by simp [results,Tryz.results22,go_sem,hc1,hc2,z1_0,z2_0]) rfl ⟨_,rfl,hr2.keep kA,eA⟩
theorem zle (w:V) (v:J) (q:Rat) (h:IsR w v q):Calls Tryz.prog 66 #[v] w (RetR w (-q)):=by
 obtain⟨a,m,c,s,a2,m2,c2,rfl⟩:=h.form;go_enter Tryz.func66,Tryz.ntmps66;go_wp2
 go_region_held3 (fun W=>W.cell? ⟨w.heap.size,0,Z⟩=M (O a m c)∧W.cell? ⟨w.heap.size,1,Z⟩=M (Y s)∧W.cell? ⟨w.heap.size,2,Z⟩=M (O a2 m2 c2)) ((repeat' (with_reducible refine And.intro ?_ ?_))<;>(first|(go_simp;done)|(refine hx1.cellS ?_;go_simp;done))) (((go_at_call 117;(with_reducible refine(zcK _ (X #[O a m c,Y s]) q.num ?_).mono ?_);(refine h.top.ext ?_;exact eA);rintro e w1 ⟨r1,rfl,hr1,hx1⟩;obtain⟨a1,m1,c1,s1,rfl⟩:=hr1.form;obtain⟨⟨hc1,hf1⟩,z1_0,z1_1⟩:=cK2 w hx1)))
 all_goals go_wp2
 exact bR (v:=X #[O a1 m1 c1,Y s1,O a2 m2 c2]) (by simp [results,Tryz.results66,go_sem,hc1,z1_1]) rfl ⟨_,rfl,IsR.keep (IsR.mk hr1 (h.rest.ext eA)) kA,eA⟩
def rg (n d:Int):Int:=if d<0 then -(Int.gcd n d:Int)else (Int.gcd n d:Int)
theorem zlc {n d:Int} (hd:d≠0):rg n d≠0∧rg n d ∣ n∧rg n d ∣ d∧n / rg n d=(Rat.divInt n d).num∧d / rg n d=((Rat.divInt n d).den:Int):=by
 have hg:0<Int.gcd n d:=Int.gcd_pos_of_ne_zero_right n hd;have hgn:(Int.gcd n d:Int) ∣ n:=Int.gcd_dvd_left ..;have hgd:(Int.gcd n d:Int) ∣ d:=Int.gcd_dvd_right ..;rw [Rat.num_divInt,Rat.den_divInt,if_neg hd,Int.gcd_comm d n];unfold rg
 by_cases h:d<0
 ·rw [if_pos h]
  refine⟨by omega,Int.neg_dvd.2 hgn,Int.neg_dvd.2 hgd,?_,?_⟩
  ·rw [Int.sign_eq_neg_one_of_neg h,Int.ediv_neg,Int.neg_mul,Int.one_mul,Int.neg_ediv_of_dvd hgn]
  ·rw [Int.ediv_neg,Int.natCast_ediv,Int.ofNat_natAbs_of_nonpos (by omega),Int.neg_ediv_of_dvd hgd]
 ·rw [if_neg h]
  refine⟨by omega,hgn,hgd,?_,?_⟩
  ·rw [Int.sign_eq_one_of_pos (by omega),Int.one_mul]
  ·rw [Int.natCast_ediv,Int.natAbs_of_nonneg (by omega)]
theorem znE {k:Nat} {n d:Int} (hd:d≠0) (h:Lm k d):Lm k (rg n d):=by
 have h1:(Int.gcd n d:Int)≤d.natAbs:=Int.le_of_dvd (by omega) (Int.dvd_natAbs.2 (Int.gcd_dvd_right ..));have h2:0≤(Int.gcd n d:Int):=Int.natCast_nonneg _;unfold rg Lm at *
 split<;>omega
theorem zgQ {n d:Int} (hd:d≠0) {k:Nat} (h:Lm k d):Lm k ((Rat.divInt n d).den:Int):=by
 have h1:(Rat.divInt n d).den≤d.natAbs:=by
  rw [Rat.den_divInt,if_neg hd];exact Nat.div_le_self _ _
 unfold Lm at *;omega
theorem zjy {n d:Int} (hd:d≠0) {k:Nat} (h:Lm k n):Lm k (Rat.divInt n d).num:=by
 have h1:(Rat.divInt n d).num.natAbs≤n.natAbs:=by
  rw [Rat.num_divInt,Int.natAbs_ediv_of_dvd]
  ·rw [Int.natAbs_mul]
   have:d.sign.natAbs=1:=by rw [Int.natAbs_sign];simp [hd]
   rw [this,Nat.one_mul];exact Nat.div_le_self _ _
  ·exact Int.dvd_trans (Int.gcd_dvd_right ..) (Int.dvd_mul_left ..)
 unfold Lm at *;omega
end
section
open Go.RowKit Go.Shelf
def ZB (W:V) (b:Nat) (n:Int):Prop:=∃a m c s,W.heap[b]?=M (I #[O a m c,Y s] 63 (0,0))∧IsZ W (X #[O a m c,Y s]) n
section
variable {W W':V} {b b':Nat} {n n':Int}
theorem ZB.ext (h:ZB W b n) (k:Ext W W'):ZB W' b n:=by
 obtain⟨a,m,c,s,h1,h2⟩:=h;exact⟨a,m,c,s,k.heapS h1,h2.ext k⟩
theorem ZB.not (h:ZB W b n):NoT 2 W b:=by
 obtain⟨a,m,c,s,h1,h2⟩:=h;intro cs fr e;rw [h1]at e;cases e
theorem ZB.rd (h:ZB W b n):∃a m c s,W.cell? ⟨b,0,Z⟩=M (O a m c)∧W.cell? ⟨b,1,Z⟩=M (Y s)∧W.frozen? ⟨b,0,Z⟩=false∧W.frozen? ⟨b,1,Z⟩=false∧b<W.heap.size∧IsZ W (X #[O a m c,Y s]) n:=by
 obtain⟨a,m,c,s,h1,h2⟩:=h;exact⟨a,m,c,s,qcB h1 (i:=0) rfl,qcB h1 (i:=1) rfl,qfB h1 0,qfB h1 1,zaa h1,h2⟩
theorem ZB.put {a:Option Addr} {m c:Nat} {s:Bool} (h:ZB W b n) (hz:IsZ W (X #[O a m c,Y s]) n'):ZB ((W.setCell ⟨b,0,Z⟩ (O a m c)).setCell ⟨b,1,Z⟩ (Y s)) b n':=by
 have hn:=h.not;obtain⟨a0,m0,c0,s0,h1,h2⟩:=h;exact⟨a,m,c,s,zaO h1 _ _,hz.keep (((KeepT.refl _ W).setN hn _).setN (hn.set _ _) _)⟩
theorem ZB.other {p:Addr} (h:ZB W b n) (hb:p.block≠b) (hn:NoT 2 W p.block) (u:J):ZB (W.setCell p u) b n:=by
 obtain⟨a,m,c,s,h1,h2⟩:=h;exact⟨a,m,c,s,(bS _ _ _ _ (fun e=>hb e.symm)).trans h1,h2.keep ((KeepT.refl _ W).setN hn _)⟩
theorem ZB.new {W0:V} {a:Option Addr} {m c:Nat} {s:Bool} (hz:IsZ W0 (X #[O a m c,Y s]) n) (hb:b=W0.heap.size):ZB (W0.alloc (I #[O a m c,Y s] 63)) b n:=
 ⟨a,m,c,s,qhA _ _ _ hb,hz.ext ((eR _).alloc _)⟩
end
def RtS (w:V) (bg:Nat) (n d g:Int) (_:J) (W:V):Prop:=
 Ext w W∧ZB W w.heap.size n∧ZB W (w.heap.size+1) d∧W.heap[w.heap.size+1+1]?=M (I #[O Z 0 0,Y false,O Z 0 0] 65 (0,0))∧ZB W bg g
theorem zdY (w:V) (va vb:J) (n d:Int) (ha:IsZ w va n) (hb:IsZ w vb d) (hla:Lm limA n) (hlb:Lm limA d) (hd:d≠0) :
  Calls Tryz.prog 82 #[va,vb] w (RetR w (Rat.divInt n d)):=by
 obtain⟨a,m,c,s,rfl⟩:=ha.form;obtain⟨a',m',c',s',rfl⟩:=hb.form;have Hsb:=hd9 hb.sgn;obtain⟨hg0,hgn,hgd,hqn,hqd⟩:=zlc (n:=n) hd;have HLn:=hd9 hla;have HLd:=hd9 hlb;have HLg:=hd9 (znE (n:=n) hd hlb);have HLn':Hid (Lm lim n):=hd9 (hla.mono (by decide));have HLd':Hid (Lm lim d):=hd9 (hlb.mono (by decide));have Hqn:=hd9 hqn;have Hqd:=hd9 hqd;have Hgn:=hd9 hgn;have Hgd:=hd9 hgd;have HLq:Hid (Lm lim ((Rat.divInt n d).den:Int)):=hd9 (zgQ hd (hlb.mono (by decide)));have H1:Hid (Lm lim 1):=hd9 (zg7 (by decide));have hdp:=den_pos (Rat.divInt n d);clear hla hlb hqn hqd hgn hgd;go_enter Tryz.func82,Tryz.ntmps82
 go_upto_if 10 with (((go_at_call 124;(with_reducible refine(zlr _ (X #[O a m c,Y s]) (X #[O a' m' c',Y s']) n d ?_ ?_ HLn'.out HLd'.out).mono ?_);(refine ha.ext ?_;exact eA);(refine hb.ext ?_;exact eA);rintro e w1 ⟨r1,rfl,hr1,hx1⟩;obtain⟨a1,m1,c1,s1,rfl⟩:=hr1.form;obtain⟨⟨hc1,hf1⟩,z1_0,z1_1,z1_2⟩:=cK3 w hx1;have e1_0_0:w.heap.size<w1.heap.size+1:=(by omega);have e1_1_0:w.heap.size+1<w1.heap.size+1:=(by omega);have e1_2_0:w.heap.size+1+1<w1.heap.size+1:=(by omega))))
 have hS1:RtS w w1.heap.size n d (Int.gcd n d:Nat) (Y true) (w1.alloc (I #[O a1 m1 c1,Y s1] 63)):=by
  refine⟨eA,?_,?_,?_,ZB.new hr1 rfl⟩
  ·refine ZB.ext (W:=w.alloc (I #[O a m c,Y s] 63)) (ZB.new ha rfl) eA
  ·refine ZB.ext (W:=(w.alloc (I #[O a m c,Y s] 63)).alloc (I #[O a' m' c',Y s'] 63)) (ZB.new (hb.ext eA) (by simp)) eA
  ·exact(hx1.thenB ((Below.refl _ _).alloc (nE _) _) hx1.size).heapS (by rw [zae];simp)
 go_cut [11] (RtS w w1.heap.size n d (rg n d))
 case first =>
  cases s'
  ·have e:rg n d=(Int.gcd n d:Nat):=by have:=Hsb.out;unfold rg;rw [if_neg (by simpa using this)]
   have E:=hd9 e;clear e;go_wp2;go_meet;rw [E.out];exact hS1
  ·have e:rg n d = -((Int.gcd n d:Nat):Int):=by have:=Hsb.out;unfold rg;rw [if_pos (by simpa using this)]
   have E:=hd9 e;clear e
   go_wp2_with(((go_at_call 117;(with_reducible refine(zcK _ (X #[O a1 m1 c1,Y s1]) (Int.gcd n d:Nat) ?_).mono ?_);(refine hr1.ext ?_;exact eA);rintro e w2 ⟨r2,rfl,hr2,hx2⟩;obtain⟨a2,m2,c2,s2,rfl⟩:=hr2.form;obtain⟨⟨hc2,hf2⟩,z2_0,z2_1,z2_2⟩:=cK3 w hx2;have y2_0:=hx2.lt (n:=w1.heap.size) (by go_simp))))
   go_meet;rw [E.out];obtain⟨i1,i2,i3,i4,i5⟩:=hS1;have hN:=(i5.ext hx2).not
   exact⟨eA,((i2.ext hx2).other (by dsimp only;omega) hN _).other (by dsimp only;omega) (hN.set _ _) _,((i3.ext hx2).other (by dsimp only;omega) hN _).other (by dsimp only;omega) (hN.set _ _) _,
    by rw [bS _ _ _ _ (by dsimp only;omega),bS _ _ _ _ (by dsimp only;omega)];exact hx2.heapS i4,(i5.ext hx2).put hr2⟩
 case rest =>
  have ng0:¬w1.heap.size=w.heap.size:=by omega
  have ng1:¬w.heap.size=w1.heap.size:=by omega
  have ng2:¬w1.heap.size=w.heap.size+1:=by omega
  have ng3:¬w.heap.size+1=w1.heap.size:=by omega
  clear hS1 hx1 hc1 hf1 z1_0 z1_1 z1_2 e1_0_0 e1_1_0 e1_2_0 hr1;obtain⟨hx,b1,b2,b3,b4⟩:=hcut;have hn1:=b1.not;have hn2:=b2.not;have hn3:NoT 2 wc (w.heap.size+1+1):=fun cs fr e=>by rw [b3]at e;cases e
  have zc_2:w.heap.size+1+1<wc.heap.size:=zaa b3;have r0:=qcB b3 (i:=0) (u:=O Z 0 0) rfl;have r1:=qcB b3 (i:=1) (u:=Y false) rfl;have r2:=qcB b3 (i:=2) (u:=O Z 0 0) rfl;have rf0:=qfB b3 0;have rf1:=qfB b3 1;have rf2:=qfB b3 2;obtain⟨a3,m3,c3,s3,n0,n1,nf0,nf1,zc_0,hzn⟩:=b1.rd;obtain⟨a4,m4,c4,s4,d0,d1,df0,df1,zc_1,hzd⟩:=b2.rd;obtain⟨a5,m5,c5,s5,g0,g1,gf0,gf1,zc_g,hzg⟩:=b4.rd;clear b1 b2 b3 b4
  go_wp2_with(first|((go_at_call 106;(with_reducible refine(zfn _ (X #[O a3 m3 c3,Y s3]) (X #[O a5 m5 c5,Y s5]) n (rg n d) ?_ ?_ HLn.out HLg.out hg0 (.inr Hgn.out)).mono ?_);(refine hzn.ext ?_;exact eA);(refine hzg.ext ?_;exact eA);rintro e w3 ⟨vq,vr,rfl,hq3,hr3,hx3⟩;obtain⟨aq,mq,cq,sq,rfl⟩:=hq3.form;obtain⟨ar,mr,cr,sr,rfl⟩:=hr3.form;obtain⟨⟨hc3,hf3⟩,z3_0,z3_1,z3_2⟩:=cK3 w hx3;have y3_0:=hx3.lt (n:=w1.heap.size) (by go_simp)))|((go_at_call 106;(with_reducible refine(zfn _ (X #[O a4 m4 c4,Y s4]) (X #[O a5 m5 c5,Y s5]) d (rg n d) ?_ ?_ HLd.out HLg.out hg0 (.inr Hgd.out)).mono ?_);(refine(hzd.ext hx3).keep kA);(refine(hzg.ext hx3).keep kA);rintro e w4 ⟨vq,vr,rfl,hq4,hr4,hx4⟩;obtain⟨ap,mp,cp,sp,rfl⟩:=hq4.form;obtain⟨ar,mr,cr,sr,rfl⟩:=hr4.form;obtain⟨⟨hc4,hf4⟩,z4_0,z4_1,z4_2⟩:=cK3 w hx4)))
  have hq5:=(hq4.dig).keep (w':=(w4.setCell ⟨w.heap.size+1,0,Z⟩ (O ap mp cp)).setCell ⟨w.heap.size+1,1,Z⟩ (Y sp)) kA;have hq6:=((hq3.keep (w':=(w3.setCell ⟨w.heap.size,0,Z⟩ (O aq mq cq)).setCell ⟨w.heap.size,1,Z⟩ (Y sq)) kA).ext hx4).keep (w':=(w4.setCell ⟨w.heap.size+1,0,Z⟩ (O ap mp cp)).setCell ⟨w.heap.size+1,1,Z⟩ (Y sp)) kA;rw [Hqd.out]at hq5;rw [Hqn.out]at hq6;have e5:(((Rat.divInt n d).den:Int).natAbs:Int)=((Rat.divInt n d).den:Int):=by omega
  rw [e5]at hq5;clear e5
  go_region_held3 (fun W=>W.cell? ⟨w.heap.size,0,Z⟩=M (O aq mq cq)∧W.cell? ⟨w.heap.size,1,Z⟩=M (Y sq)∧W.cell? ⟨w.heap.size+1,0,Z⟩=M (O ap mp cp)) ((repeat' (with_reducible refine And.intro ?_ ?_))<;>(first|(go_simp;done)|(refine hx1.cellS ?_;go_simp;done))) (first|((go_at_call 115;(with_reducible refine(zbM _ 1 (by decide) (by decide)).mono ?_);rintro e w5 ⟨r5,rfl,hr5,hx5⟩;obtain⟨a6,m6,c6,rfl⟩:=hr5.isD.form;obtain⟨⟨hc5,hf5⟩,z5_0,z5_1,z5_2⟩:=cK3 w hx5))|((go_at_call 114;(with_reducible refine(zaN _ (X #[O ap mp cp]) (X #[O a6 m6 c6]) ((Rat.divInt n d).den:Int) 1 (-1) ?_ ?_ HLq.out H1.out (by decide) (by omega)).mono ?_);(refine hq5.ext ?_;exact eA);(refine hr5.isD.ext ?_;exact eA);rintro e w6 ⟨r6,rfl,hr6,hx6⟩;obtain⟨a7,m7,c7,rfl⟩:=hr6.isD.form;obtain⟨⟨hc6,hf6⟩,z6_0,z6_1,z6_2⟩:=cK3 w hx6)))
  all_goals go_wp2
  have e7:((Rat.divInt n d).den:Int) + -1*1=((Rat.divInt n d).den:Int)-1:=by omega
  rw [e7]at hr6;clear e7;have hfin:IsR w6 (X #[O aq mq cq,Y sq,O a7 m7 c7]) (Rat.divInt n d):=IsR.mk (hq6.ext eA) hr6.isD;refine bR (v:=X #[O aq mq cq,Y sq,O a7 m7 c7]) (by simp [results,Tryz.results82,go_sem,hc3,hc4,hc5,hc6,zc_2,z3_2,z4_2,z5_2,z6_2,r0,r1,r2]) rfl ⟨_,rfl,hfin.keep kA,?_⟩;have hxa:Ext w w3:=hx.trans hx3;have hxb:Ext w w4:=Ext.trans eA hx4;exact eA
theorem zmL:Rat.divInt 0 1=0:=by decide
theorem zmk (w:V) (va vb:J) (n d:Int) (ha:IsZ w va n) (hb:IsZ w vb d) (hla:Lm limA n) (hlb:Lm limA d) :
  Calls Tryz.prog 81 #[va,vb] w fun e w'=>∃r,e = .returned (N #[r,.int .i64 (if d=0 then 9 else 0)])∧IsR w' r (Rat.divInt n d)∧Ext w w':=by
 obtain⟨a,m,c,s,rfl⟩:=ha.form;obtain⟨a',m',c',s',rfl⟩:=hb.form;have HLn:=hd9 hla;have HLd:=hd9 hlb;clear hla hlb;have hdb:=hb.dig
 by_cases hd:d=0
 ·have hz:((d.natAbs:Int)==0)=true:=by simp [hd]
  have Hd:=hd9 hd;clear hd;go_enter Tryz.func81,Tryz.ntmps81
  go_wp2_with(((go_at_call 92;(with_reducible refine(zan _ (X #[O a' m' c']) d.natAbs ?_).mono ?_);(refine hdb.ext ?_;exact eA);rintro e w1 ⟨rfl,hx1⟩;obtain⟨⟨hc1,hf1⟩,z1_0,z1_1,z1_2⟩:=cK3 w hx1)))
  refine bR (v:=N #[X #[O Z 0 0,Y false,O Z 0 0],.int .i64 9]) (by simp [results,Tryz.results81,go_sem,hc1,z1_2]) rfl ⟨X #[O Z 0 0,Y false,O Z 0 0],by first|rfl|rw [if_pos Hd.out],?_,eA⟩
  first|exact IsR.zero _|(rw [Hd.out,Rat.divInt_zero];exact IsR.zero _)
 ·have hz:((d.natAbs:Int)==0)=false:=by simp;omega
  go_enter Tryz.func81,Tryz.ntmps81
  go_wp2_with(first|((go_at_call 92;(with_reducible refine(zan _ (X #[O a' m' c']) d.natAbs ?_).mono ?_);(refine hdb.ext ?_;exact eA);rintro e w1 ⟨rfl,hx1⟩;obtain⟨⟨hc1,hf1⟩,z1_0,z1_1,z1_2⟩:=cK3 w hx1))|((go_at_call 82;(with_reducible refine(zdY _ (X #[O a m c,Y s]) (X #[O a' m' c',Y s']) n d ?_ ?_ HLn.out HLd.out hd).mono ?_);(refine ha.ext ?_;exact eA);(refine hb.ext ?_;exact eA);rintro e w2 ⟨r2,rfl,hr2,hx2⟩;obtain⟨a2,m2,c2,s2,a3,m3,c3,rfl⟩:=hr2.form;obtain⟨⟨hc2,hf2⟩,z2_0,z2_1,z2_2⟩:=cK3 w hx2)))
  exact bR (v:=N #[X #[O a2 m2 c2,Y s2,O a3 m3 c3],.int .i64 0]) (by simp [results,Tryz.results81,go_sem,hc1,hc2,z1_2,z2_2]) rfl ⟨X #[O a2 m2 c2,Y s2,O a3 m3 c3],by first|rfl|rw [if_neg hd],hr2.keep kA,eA⟩
end
end Go.Proofs.YtodpfeaihohpjaaGreatDoor.Cop
