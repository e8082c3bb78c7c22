/- Part 5: contracts of what the law calls. -/
import Derived.Test.YtodpfeaihohpjaaGreatDoorCopA03
set_option maxRecDepth 1000000
set_option maxHeartbeats 16000000
set_option linter.unusedSimpArgs false
set_option linter.unusedVariables false
open Go.Value renaming slice→O,bool→Y,agg→X,tuple→N
open Option renaming none→Z,some→M
open Go renaming World→V,Value→J
open Go.Obj renaming cells→I
namespace Go.Proofs.YtodpfeaihohpjaaGreatDoor.Cop
section
open Go.RowKit Go.Shelf
theorem zlX (w:V) (P Q:J) (x y:Int) (o:IsZ w P x) (p:IsZ w Q y) (d:Lm lim x) (f:Lm lim y) :
  Calls Tryz.prog 124 #[P,Q] w (RetZ w (Int.gcd x y:Nat)):=by
 obtain⟨a,m,c,s,rfl⟩:=o.form;obtain⟨a',m',c',s',rfl⟩:=p.form;have u:=o.dig;have z:=p.dig;have k:=hd9 d.abs;have l:=hd9 f.abs;clear d f o p;have e:(Int.gcd x y:Int)=(Int.gcd (x.natAbs:Int) (y.natAbs:Int):Nat):=by simp [Int.gcd]
 rw [e];clear e;go_enter Tryz.func124,Tryz.ntmps124
 go_wp2_with(first|((go_at_call 159;(with_reducible refine(zh3 _ (X #[O a m c]) (X #[O a' m' c']) x.natAbs y.natAbs ?_ ?_ k.out l.out).mono ?_);(refine u.ext ?_;exact eA);(refine z.ext ?_;exact eA);rintro e w1 ⟨r1,rfl,g,D⟩;obtain⟨a1,m1,c1,rfl⟩:=g.form;obtain⟨⟨r,ad⟩,T,aa,i⟩:=cK3 w D))|((go_at_call 112;(with_reducible refine(zci _ false (X #[O a1 m1 c1]) (Int.gcd (x.natAbs:Int) (y.natAbs:Int):Nat) ?_).mono ?_);(refine g.ext ?_;exact eA);rintro e w2 ⟨r2,rfl,h,K⟩;obtain⟨a2,m2,c2,s2,rfl⟩:=h.form;obtain⟨⟨t,ae⟩,ab,ac,j⟩:=cK3 w K)))
 exact bR (v:=X #[O a2 m2 c2,Y s2]) (by simp [results,Tryz.results124,go_sem,r,t,i,j]) rfl ⟨_,rfl,h.keep kA,eA⟩
def QtS (w:V) (d:J) (e:Bool) (q r:Int) (W:V):Prop:=
 Ext w W∧W.heap[w.heap.size+1]?=M (I #[d,Y e] 63 (0,0)) ∧
 ∃aq mq cq sq ar mr cr sr,W.heap[w.heap.size+1+1]?=M (I #[O aq mq cq,Y sq] 63 (0,0))∧IsZ W (X #[O aq mq cq,Y sq]) q ∧
  W.heap[w.heap.size+1+1+1]?=M (I #[O ar mr cr,Y sr] 63 (0,0))∧IsZ W (X #[O ar mr cr,Y sr]) r
def QtR (w:V) (d:J) (e:Bool) (x y:Int) (_:J) (W:V):Prop:=∃q,QtS w d e q (x % y) W∧(if e then -q else q)=x / y
theorem zng {x y:Int} (s t:Bool) (j:s=decide (x<0)) (p:t=decide (y<0)) (r:y≠0) (h:s=false∨(x.natAbs:Int) % (y.natAbs:Int)=0) :
  (if t then -(sg s ((x.natAbs:Int) / (y.natAbs:Int)))else sg s ((x.natAbs:Int) / (y.natAbs:Int)))=x / y∧(x.natAbs:Int) % (y.natAbs:Int)=x % y:=by
 have o:x % y=x % (y.natAbs:Int):=by
  rcases Int.natAbs_eq y with h|h
  ·rw [←h]
  ·conv=>lhs;rw [h,Int.emod_neg]
 have e:s=false→(x.natAbs:Int)=x:=fun h=>by subst j;simp at h;omega
 have d:s=true→(x.natAbs:Int) = -x:=fun h=>by subst j;simp at h;omega
 have l:x / y=if t then -(x / (y.natAbs:Int))else x / (y.natAbs:Int):=by
  subst p
  by_cases h:y<0
  ·simp only [h,decide_true,if_true]
   rw [show (y.natAbs:Int) = -y by omega,Int.ediv_neg,Int.neg_neg]
  ·simp only [h,decide_false,Bool.false_eq_true,if_false]
   rw [show (y.natAbs:Int)=y by omega]
 have f:(y.natAbs:Int)≠0:=oM
 rw [l,o]
 cases s
 ·rw [e rfl];simp [sg]
 ·rw [d rfl]at h ⊢
  have g:(-x) % (y.natAbs:Int)=0:=by rcases h with h|h;cases h;exact h
  have i:x % (y.natAbs:Int)=0:=by
   have:=Int.dvd_of_emod_eq_zero g;exact Int.emod_eq_zero_of_dvd (by simpa using Int.dvd_neg.2 this)
  refine⟨?_,by rw [g,i]⟩
  have k:(-x) / (y.natAbs:Int) = -(x / (y.natAbs:Int)):=by
   apply Int.ediv_eq_of_eq_mul_left f
   rw [Int.neg_mul,Int.ediv_mul_cancel (Int.dvd_of_emod_eq_zero i)]
  simp [sg,k]
theorem zov {x y:Int} (t:Bool) (l:x<0) (g:t=decide (y<0)) (o:y≠0) (h:(x.natAbs:Int) % (y.natAbs:Int)≠0) :
  (if t then -(sg true ((x.natAbs:Int) / (y.natAbs:Int))-1)else sg true ((x.natAbs:Int) / (y.natAbs:Int))-1)=x / y∧(y.natAbs:Int)-(x.natAbs:Int) % (y.natAbs:Int)=x % y:=by
 have f:x % y=x % (y.natAbs:Int):=by
  rcases Int.natAbs_eq y with h|h
  ·rw [←h]
  ·conv=>lhs;rw [h,Int.emod_neg]
 have e:x / y=if t then -(x / (y.natAbs:Int))else x / (y.natAbs:Int):=by
  subst g
  by_cases h:y<0
  ·simp only [h,decide_true,if_true]
   rw [show (y.natAbs:Int) = -y by omega,Int.ediv_neg,Int.neg_neg]
  ·simp only [h,decide_false,Bool.false_eq_true,if_false]
   rw [show (y.natAbs:Int)=y by omega]
 have d:0<(y.natAbs:Int):=oM
 rw [e,f,show (x.natAbs:Int) = -x by omega]at *
 generalize (y.natAbs:Int)=p at *
 have i:=Int.mul_ediv_add_emod (-x) p;have j:=Int.emod_nonneg (-x) (show p≠0 by omega);have k:=Int.emod_lt_of_pos (-x) d
 have key:x / p = -(-x / p)-1∧x % p=p-(-x) % p:=by
  have:=(Int.ediv_emod_unique (a:=x) (b:=p) (q:=-(-x / p)-1) (r:=p-(-x) % p) d).2 ⟨by grind,by omega,by omega⟩;exact this
 rw [key.1,key.2];simp [sg]
def RetQ (w:V) (q r:Int) (e:Ending) (w':V):Prop:=∃vq vr,e = .returned (N #[vq,vr,.int .i64 0])∧IsZ w' vq q∧IsZ w' vr r∧Ext w w'
theorem QtS.ext {w:V} {d:J} {e:Bool} {q r:Int} {W W':V} (h:QtS w d e q r W) (k:Ext W W'):QtS w d e q r W':=by
 obtain⟨l,o,f,x,i,z,g,y,j,D,p,t,u,h6⟩:=h;exact⟨l.trans k,k.heapS o,f,x,i,z,g,y,j,D,k.heapS p,t.ext k,k.heapS u,h6.ext k⟩
theorem zaS {W:V} {g:Nat} {x y:J} {T:TypeId} {d:Nat×Nat} (h:W.heap[g]?=M (I #[x,y] T d)) (u v:J) :
  ((W.setCell ⟨g,0,Z⟩ u).setCell ⟨g,1,Z⟩ v).heap[g]?=M (I #[u,v] T d):=by
 simp [World.setCell,Array.getElem?_modify,h]
theorem zay {W:V} {g i:Nat} {v:J} (h:W.cell? ⟨g,i,Z⟩=M v):W.setCell ⟨g,i,Z⟩ v=W:=by
 have e:(W.setCell ⟨g,i,Z⟩ v).heap=W.heap:=by
  apply Array.ext_getElem?
  intro k
  by_cases f:k=g
  ·subst f
   simp only [World.setCell,Array.getElem?_modify,if_pos];unfold World.cell? at h
   cases hw:W.heap[k]? with
   | none=>rfl
   | some o =>
    cases o with
    | cells d T p =>
     simp [hw]at h
     have:d.setIfInBounds i v=d:=by
      apply Array.ext_getElem?
      intro j;rw [Array.getElem?_setIfInBounds]
      split
      ·subst_vars
       split
       ·exact h.symm
       ·rename_i h2;rw [Array.getElem?_eq_none oM]
      ·rfl
     simp [this]
    | _=>simp
  ·exact bS _ _ _ _ f
 have l:W.setCell ⟨g,i,Z⟩ v={ W with heap:=(W.setCell ⟨g,i,Z⟩ v).heap }:=rfl;rw [l,e]
theorem qcB {W:V} {g:Nat} {cs:Array J} {T:TypeId} {d:Nat×Nat} (h:W.heap[g]?=M (I cs T d)) {i:Nat} {u:J} (hi:cs[i]?=M u):W.cell? ⟨g,i,Z⟩=M u:=by
 simp [World.cell?,h,hi]
theorem qfB {W:V} {g:Nat} {cs:Array J} {T:TypeId} (h:W.heap[g]?=M (I cs T (0,0))) (i:Nat):W.frozen? ⟨g,i,Z⟩=false:=by
 simp [World.frozen?,h]
theorem QtS.setQ {w:V} {d:J} {o:Bool} {q l r:Int} {W:V} (h:QtS w d o q r W) {a:Option Addr} {m c:Nat} {s:Bool} (z:IsZ W (X #[O a m c,Y s]) l) :
  QtS w d o l r ((W.setCell ⟨w.heap.size+1+1,0,Z⟩ (O a m c)).setCell ⟨w.heap.size+1+1,1,Z⟩ (Y s)):=by
 obtain⟨u,x,P,mq,Q,sq,p,D,t,K,g,h4,y,h6⟩:=h;have f:∀k,k≠w.heap.size+1+1→((W.setCell ⟨w.heap.size+1+1,0,Z⟩ (O a m c)).setCell ⟨w.heap.size+1+1,1,Z⟩ (Y s)).heap[k]?=W.heap[k]?:=fun k f=>by rw [bS _ _ _ _ f,bS _ _ _ _ f]
 have j:NoT 2 W (w.heap.size+1+1):=fun T fr e=>by rw [g]at e;cases e
 have i:KeepT 2 W ((W.setCell ⟨w.heap.size+1+1,0,Z⟩ (O a m c)).setCell ⟨w.heap.size+1+1,1,Z⟩ (Y s)):=((KeepT.refl _ W).setN j _).setN (j.set _ _) _;exact⟨(u.set dO _).set dO _,(f _ oM).trans x,a,m,c,s,p,D,t,K,zaS g _ _,z.keep i,(f _ oM).trans y,h6.keep i⟩
theorem zfD (w:V) (va vb:J) (x y:Int) (ha:IsZ w va x) (hb:IsZ w vb y) (av:Lm limA x) (aw:Lm limA y) (hy:y≠0) (aU:0≤x∨y ∣ x) :
  Calls Tryz.prog 106 #[va,vb] w (RetQ w (x / y) (x % y)):=by
 obtain⟨a,m,c,s,rfl⟩:=ha.form;obtain⟨D,P,K,t,rfl⟩:=hb.form;have ao:=hd9 ha.sgn;have aO:=hd9 hb.sgn;have aR:=ha.dig;have au:=hb.dig;have aL:=hd9 av.abs;have aM:=hd9 aw.abs;have bB:((y.natAbs:Int)==0)=false:=by simp;omega
 have aV:0<(y.natAbs:Int):=oM
 clear av aw ha;go_enter Tryz.func106,Tryz.ntmps106
 go_wp2_with(first|((go_at_call 92;(with_reducible refine(zaB _ (X #[O D P K]) y.natAbs ?_).mono ?_);(refine au.ext ?_;exact eA);rintro e w1 ⟨rfl,aB⟩;obtain⟨⟨bq,bv⟩,a0,a1,a6,a7⟩:=cK4 w aB))|((go_at_call 139;(with_reducible refine(zhD _ (X #[O a m c]) (X #[O D P K]) x.natAbs y.natAbs ?_ ?_ aL.out aM.out aV).mono ?_);(refine aR.ext ?_;exact eA);(refine au.ext ?_;exact eA);rintro e Q ⟨r2,r3,rfl,ay,ak,aT⟩;obtain⟨a2,m2,c2,rfl⟩:=ay.isD.form;obtain⟨a3,m3,c3,rfl⟩:=ak.isD.form;obtain⟨⟨br,bw⟩,a8,ba,bb,bc⟩:=cK4 w aT;have aD:w.heap.size<Q.heap.size+1:=oM;have aE:w.heap.size<Q.heap.size+1+1:=oM;have aF:w.heap.size+1<Q.heap.size+1:=oM;have aG:w.heap.size+1<Q.heap.size+1+1:=oM;have aH:w.heap.size+1+1<Q.heap.size+1:=oM;have aI:w.heap.size+1+1<Q.heap.size+1+1:=oM;have aJ:w.heap.size+1+1+1<Q.heap.size+1:=oM;have aK:w.heap.size+1+1+1<Q.heap.size+1+1:=oM)))
 go_region_held3 (fun W=>W.cell? ⟨w.heap.size,1,Z⟩=M (Y s)∧W.cell? ⟨Q.heap.size,0,Z⟩=M (O a2 m2 c2)∧W.cell? ⟨Q.heap.size+1,0,Z⟩=M (O a3 m3 c3)) ((repeat' (with_reducible refine And.intro ?_ ?_))<;>(first|(go_simp;done)|(refine aB.cellS ?_;go_simp;done))) (first|((go_at_call 112;(with_reducible refine(zci _ s (X #[O a2 m2 c2]) ((x.natAbs:Int) / (y.natAbs:Int)) ?_).mono ?_);(refine ay.isD.ext ?_;exact eA);rintro e w3 ⟨r4,rfl,az,al⟩;obtain⟨a4,m4,c4,s4,rfl⟩:=az.form;obtain⟨⟨bs,bx⟩,bd,be,bf,bg⟩:=cK4 w al;have aW:=al.lt (n:=Q.heap.size) (by go_simp);have aX:=al.lt (n:=Q.heap.size+1) (by go_simp)))|((go_at_call 112;(with_reducible refine(zci _ false (X #[O a3 m3 c3]) ((x.natAbs:Int) % (y.natAbs:Int)) ?_).mono ?_);(refine ak.isD.ext ?_;exact eA);rintro e g ⟨r5,rfl,aA,am⟩;obtain⟨a5,m5,c5,s5,rfl⟩:=aA.form;obtain⟨⟨bt,bz⟩,bh,bi,bj,bk⟩:=cK4 w am;have aY:=am.lt (n:=Q.heap.size) (by go_simp);have aZ:=am.lt (n:=Q.heap.size+1) (by go_simp))))
 have ap:=ak.isD.ext (w':=g) eA;have T:Ext ((((w.alloc (I #[O a m c,Y s] 63)).alloc (I #[O D P K,Y t] 63)).alloc (I #[O Z 0 0,Y false] 63)).alloc (I #[O Z 0 0,Y false] 63)) g:=eA
 have ax:QtS w (O D P K) t (sg s ((x.natAbs:Int) / (y.natAbs:Int))) ((x.natAbs:Int) % (y.natAbs:Int)) ((((g.setCell ⟨w.heap.size+1+1,0,Z⟩ (O a4 m4 c4)).setCell ⟨w.heap.size+1+1,1,Z⟩ (Y s4)).setCell ⟨w.heap.size+1+1+1,0,Z⟩ (O a5 m5 c5)).setCell ⟨w.heap.size+1+1+1,1,Z⟩ (Y s5)):=by
  have T:Ext ((((w.alloc (I #[O a m c,Y s] 63)).alloc (I #[O D P K,Y t] 63)).alloc (I #[O Z 0 0,Y false] 63)).alloc (I #[O Z 0 0,Y false] 63)) g:=eA;have e1:g.heap[w.heap.size+1]?=M (I #[O D P K,Y t] 63 (0,0)):=T.heapS (by rw [zai,zai,zai];simp);have e2:g.heap[w.heap.size+1+1]?=M (I #[O Z 0 0,Y false] 63 (0,0)):=T.heapS (by rw [zai,zai];simp);have e3:g.heap[w.heap.size+1+1+1]?=M (I #[O Z 0 0,Y false] 63 (0,0)):=T.heapS (by rw [zai];simp);have k1:∀k,k≠w.heap.size+1+1→((g.setCell ⟨w.heap.size+1+1,0,Z⟩ (O a4 m4 c4)).setCell ⟨w.heap.size+1+1,1,Z⟩ (Y s4)).heap[k]?=g.heap[k]?:=fun k hk=>by rw [bS _ _ _ _ hk,bS _ _ _ _ hk]
  have k2:∀(W:V) k,k≠w.heap.size+1+1+1→((W.setCell ⟨w.heap.size+1+1+1,0,Z⟩ (O a5 m5 c5)).setCell ⟨w.heap.size+1+1+1,1,Z⟩ (Y s5)).heap[k]?=W.heap[k]?:=fun W k hk=>by rw [bS _ _ _ _ hk,bS _ _ _ _ hk]
  have n2:NoT 2 g (w.heap.size+1+1):=fun cs fr e=>by rw [e2]at e;cases e
  have n3:NoT 2 g (w.heap.size+1+1+1):=fun cs fr e=>by rw [e3]at e;cases e
  have hK:KeepT 2 g ((((g.setCell ⟨w.heap.size+1+1,0,Z⟩ (O a4 m4 c4)).setCell ⟨w.heap.size+1+1,1,Z⟩ (Y s4)).setCell ⟨w.heap.size+1+1+1,0,Z⟩ (O a5 m5 c5)).setCell ⟨w.heap.size+1+1+1,1,Z⟩ (Y s5)):=
   ((((KeepT.refl _ g).setN n2 _).setN (n2.set _ _) _).setN ((n3.set _ _).set _ _) _).setN (((n3.set _ _).set _ _).set _ _) _
  exact⟨eA,((k2 _ _ oM).trans (k1 _ oM)).trans e1,a4,m4,c4,s4,a5,m5,c5,s5,(k2 _ _ oM).trans (zaS e2 _ _),(az.ext eA).keep hK,zaS ((k1 _ oM).trans e3) _ _,aA.keep hK⟩
 have aP:IsD ((((g.setCell ⟨w.heap.size+1+1,0,Z⟩ (O a4 m4 c4)).setCell ⟨w.heap.size+1+1,1,Z⟩ (Y s4)).setCell ⟨w.heap.size+1+1+1,0,Z⟩ (O a5 m5 c5)).setCell ⟨w.heap.size+1+1+1,1,Z⟩ (Y s5)) (X #[O a3 m3 c3]) ((x.natAbs:Int) % (y.natAbs:Int)):=by
  refine ap.keep ?_;have e2:g.heap[w.heap.size+1+1]?=M (I #[O Z 0 0,Y false] 63 (0,0)):=T.heapS (by rw [zai,zai];simp);have e3:g.heap[w.heap.size+1+1+1]?=M (I #[O Z 0 0,Y false] 63 (0,0)):=T.heapS (by rw [zai];simp);have n2:NoT 2 g (w.heap.size+1+1):=fun cs fr e=>by rw [e2]at e;cases e
  have n3:NoT 2 g (w.heap.size+1+1+1):=fun cs fr e=>by rw [e3]at e;cases e
  exact((((KeepT.refl _ g).setN n2 _).setN (n2.set _ _) _).setN ((n3.set _ _).set _ _) _).setN (((n3.set _ _).set _ _).set _ _) _
 have an:=hd9 ax;clear ax
 by_cases hA:s=false∨(x.natAbs:Int) % (y.natAbs:Int)=0
 ·have aj:=zng s t ao.out aO.out hy hA
  have z:=hd9 aj;clear aj
  cases s
  ·go_upto_if 34 with fail
   go_cut [38] (QtR w (O D P K) t x y)
   case first =>
    go_wp2;go_meet;exact⟨_,by rw [←z.out.2];exact an.out,z.out.1⟩
   case rest =>
    obtain⟨q,hS,hq⟩:=hcut;have HS:=hd9 hS;obtain⟨hx,j,aq,mq,cq,sq,ar,mr,cr,sr,d,h4,f,h6⟩:=hS;have b0:=qcB j (i:=0) (u:=O D P K) rfl;have b1:=qcB j (i:=1) (u:=Y t) rfl;have q0:=qcB d (i:=0) (u:=O aq mq cq) rfl;have q1:=qcB d (i:=1) (u:=Y sq) rfl;have r0:=qcB f (i:=0) (u:=O ar mr cr) rfl;have r1:=qcB f (i:=1) (u:=Y sr) rfl;have ab:=qfB d 0;have ac:=qfB d 1;have ad:=qfB f 0;have ae:=qfB f 1;have ah:=zaa d;have ai:=zaa f;have aa:=hd9 j;clear d f j
    go_upto_if 43 with fail
    go_cut [44] (fun _ W=>QtS w (O D P K) t (x / y) (x % y) W)
    case first =>
     cases t
     ·go_wp2
      go_meet;simp at hq;rw [←hq];exact HS.out
     ·go_wp2_with(first|((go_at_call 117;(with_reducible refine(zdD _ (X #[O aq mq cq,Y sq]) q ?_).mono ?_);(refine h4.ext ?_;exact eA);rintro e w9 ⟨r9,rfl,af,ag⟩;obtain⟨a9,m9,c9,s9,rfl⟩:=af.form;obtain⟨aQ,aS⟩:=ag.cells)))
      go_meet;simp at hq;rw [←hq];exact(HS.out.ext ag).setQ af
    case rest =>
     clear hx h4 h6 b0 b1 q0 q1 r0 r1 ab ac ad ae ah ai HS hq aa;obtain⟨wd,rfl⟩:∃W,W=wc:=⟨_,rfl⟩;have hS:=hcut;have HS:=hd9 hS;obtain⟨hx,j,aq,mq,cq,sq,ar,mr,cr,sr,d,h4,f,h6⟩:=hS;have b0:=qcB j (i:=0) (u:=O D P K) rfl;have b1:=qcB j (i:=1) (u:=Y t) rfl;have q0:=qcB d (i:=0) (u:=O aq mq cq) rfl;have q1:=qcB d (i:=1) (u:=Y sq) rfl;have r0:=qcB f (i:=0) (u:=O ar mr cr) rfl;have r1:=qcB f (i:=1) (u:=Y sr) rfl;have ab:=qfB d 0;have ac:=qfB d 1;have ad:=qfB f 0;have ae:=qfB f 1;have ah:=zaa d;have ai:=zaa f;have aa:=hd9 j;clear d f j;have l:=zay q0;have o:=zay q1;have p:=zay r0;have r:=zay r1;go_wp2
     go_region_with (fail)
     all_goals go_wp2
     all_goals exact bR (v:=N #[X #[O aq mq cq,Y sq],X #[O ar mr cr,Y sr],.int .i64 0]) (by simp [results,Tryz.results106,go_sem,q0,q1,r0,r1,l,o,p,r]) rfl ⟨_,_,rfl,by(try simp only [l,o,p,r]);exact h4.ext eA,by(try simp only [l,o,p,r]);exact h6.ext eA,by(try simp only [l,o,p,r]);(repeat(first|with_reducible assumption|with_reducible refine Ext.drew ?_))⟩
  ·have h0:(x.natAbs:Int) % (y.natAbs:Int)=0:=by simpa using hA
   have bp:((x.natAbs:Int) % (y.natAbs:Int)==0)=true:=by simpa using h0
   have H0:=hd9 h0;clear h0 hA
   go_upto_if 34 with (first|((go_at_call 92;(with_reducible refine(zaB _ (X #[O a3 m3 c3]) ((x.natAbs:Int) % (y.natAbs:Int)) ?_).mono ?_);(refine aP.ext ?_;exact eA);rintro e w5 ⟨rfl,aC⟩;obtain⟨⟨bu,bA⟩,bl,bm,bn,bo⟩:=cK4 w aC)))
   go_cut [38] (QtR w (O D P K) t x y)
   case first =>
    go_wp2;go_meet;exact⟨_,by rw [←z.out.2];exact an.out.ext aC,z.out.1⟩
   case rest =>
    obtain⟨q,hS,hq⟩:=hcut;have HS:=hd9 hS;obtain⟨hx,j,aq,mq,cq,sq,ar,mr,cr,sr,d,h4,f,h6⟩:=hS;have b0:=qcB j (i:=0) (u:=O D P K) rfl;have b1:=qcB j (i:=1) (u:=Y t) rfl;have q0:=qcB d (i:=0) (u:=O aq mq cq) rfl;have q1:=qcB d (i:=1) (u:=Y sq) rfl;have r0:=qcB f (i:=0) (u:=O ar mr cr) rfl;have r1:=qcB f (i:=1) (u:=Y sr) rfl;have ab:=qfB d 0;have ac:=qfB d 1;have ad:=qfB f 0;have ae:=qfB f 1;have ah:=zaa d;have ai:=zaa f;have aa:=hd9 j;clear d f j
    go_upto_if 43 with fail
    go_cut [44] (fun _ W=>QtS w (O D P K) t (x / y) (x % y) W)
    case first =>
     cases t
     ·go_wp2
      go_meet;simp at hq;rw [←hq];exact HS.out
     ·go_wp2_with(first|((go_at_call 117;(with_reducible refine(zdD _ (X #[O aq mq cq,Y sq]) q ?_).mono ?_);(refine h4.ext ?_;exact eA);rintro e w9 ⟨r9,rfl,af,ag⟩;obtain⟨a9,m9,c9,s9,rfl⟩:=af.form;obtain⟨aQ,aS⟩:=ag.cells)))
      go_meet;simp at hq;rw [←hq];exact(HS.out.ext ag).setQ af
    case rest =>
     clear hx h4 h6 b0 b1 q0 q1 r0 r1 ab ac ad ae ah ai HS hq aa;obtain⟨wd,rfl⟩:∃W,W=wc:=⟨_,rfl⟩;have hS:=hcut;have HS:=hd9 hS;obtain⟨hx,j,aq,mq,cq,sq,ar,mr,cr,sr,d,h4,f,h6⟩:=hS;have b0:=qcB j (i:=0) (u:=O D P K) rfl;have b1:=qcB j (i:=1) (u:=Y t) rfl;have q0:=qcB d (i:=0) (u:=O aq mq cq) rfl;have q1:=qcB d (i:=1) (u:=Y sq) rfl;have r0:=qcB f (i:=0) (u:=O ar mr cr) rfl;have r1:=qcB f (i:=1) (u:=Y sr) rfl;have ab:=qfB d 0;have ac:=qfB d 1;have ad:=qfB f 0;have ae:=qfB f 1;have ah:=zaa d;have ai:=zaa f;have aa:=hd9 j;clear d f j;have l:=zay q0;have o:=zay q1;have p:=zay r0;have r:=zay r1;go_wp2
     go_region_with (fail)
     all_goals go_wp2
     all_goals exact bR (v:=N #[X #[O aq mq cq,Y sq],X #[O ar mr cr,Y sr],.int .i64 0]) (by simp [results,Tryz.results106,go_sem,q0,q1,r0,r1,l,o,p,r]) rfl ⟨_,_,rfl,by(try simp only [l,o,p,r]);exact h4.ext eA,by(try simp only [l,o,p,r]);exact h6.ext eA,by(try simp only [l,o,p,r]);(repeat(first|with_reducible assumption|with_reducible refine Ext.drew ?_))⟩
 ·exfalso
  rcases aU with h|h
  ·exact hA (.inl (by rw [ao.out];simp;omega))
  ·exact hA (.inr (Int.emod_eq_zero_of_dvd (by simpa using Int.natAbs_dvd.2 (Int.dvd_natAbs.2 h))))
def IsR (w:V) (v:J) (q:Rat):Prop:=
 ∃a m c s a2 m2 c2,v=X #[O a m c,Y s,O a2 m2 c2]∧IsZ w (X #[O a m c,Y s]) q.num∧IsD w (X #[O a2 m2 c2]) ((q.den:Int)-1)
section
variable {w w':V} {v:J} {q:Rat} {a a2:Option Addr} {m c m2 c2:Nat} {s:Bool}
theorem IsR.ext (h:IsR w v q) (k:Ext w w'):IsR w' v q:=by
 obtain⟨a,m,c,s,a2,m2,c2,rfl,d,e⟩:=h;exact⟨a,m,c,s,a2,m2,c2,rfl,d.ext k,e.ext k⟩
theorem IsR.keep (h:IsR w v q) (k:KeepT 2 w w'):IsR w' v q:=by
 obtain⟨a,m,c,s,a2,m2,c2,rfl,d,e⟩:=h;exact⟨a,m,c,s,a2,m2,c2,rfl,d.keep k,e.keep k⟩
theorem IsR.form (h:IsR w v q):∃a m c s a2 m2 c2,v=X #[O a m c,Y s,O a2 m2 c2]:=by
 obtain⟨a,m,c,s,a2,m2,c2,rfl,d,e⟩:=h;exact⟨a,m,c,s,a2,m2,c2,rfl⟩
theorem IsR.top (h:IsR w (X #[O a m c,Y s,O a2 m2 c2]) q):IsZ w (X #[O a m c,Y s]) q.num:=by
 obtain⟨a,m,c,s,a2,m2,c2,e,d,f⟩:=h;cases e;exact d
theorem IsR.rest (h:IsR w (X #[O a m c,Y s,O a2 m2 c2]) q):IsD w (X #[O a2 m2 c2]) ((q.den:Int)-1):=by
 obtain⟨a,m,c,s,a2,m2,c2,e,f,d⟩:=h;cases e;exact d
theorem IsR.mk (d:IsZ w (X #[O a m c,Y s]) q.num) (e:IsD w (X #[O a2 m2 c2]) ((q.den:Int)-1)):IsR w (X #[O a m c,Y s,O a2 m2 c2]) q:=
 ⟨_,_,_,_,_,_,_,rfl,d,e⟩
theorem IsD.nil (w:V):IsD w (X #[O Z 0 0]) 0:=⟨_,[],rfl,Ints.nil _ _,Can.nil _,rfl⟩
theorem IsR.zero (w:V):IsR w (X #[O Z 0 0,Y false,O Z 0 0]) 0:=IsR.mk (IsZ.nil w) (IsD.nil w)
end
def Rb (k:Nat) (q:Rat):Prop:=Lm k q.num∧Lm k (q.den:Int)
theorem Rb.mono {j k:Nat} {q:Rat} (h:Rb j q) (d:j≤k):Rb k q:=⟨h.1.mono d,h.2.mono d⟩
def RetR (w:V) (q:Rat) (e:Ending) (w':V):Prop:=∃r,e = .returned r∧IsR w' r q∧Ext w w'
def limR:Nat:=1000000
theorem den_pos (q:Rat):0<(q.den:Int):=by have:=q.den_pos;omega
theorem Lm.add1 {k:Nat} {n:Int} (h:Lm k n):Lm k (n-1)∨n≤0:=by unfold Lm at *;omega
theorem zht {k:Nat} (d:1≤k):Lm k 1:=Lm.mono (j:=1) (by unfold Lm B;omega) d
theorem zbp (w:V) (v:J) (q:Rat) (h:IsR w v q):Calls Tryz.prog 21 #[v] w fun e w'=>e = .returned (.int .i64 q.num.sign)∧Ext w w':=by
 obtain⟨a,m,c,s,a2,m2,c2,rfl⟩:=h.form;go_enter Tryz.func21,Tryz.ntmps21
 go_wp2_with(((go_at_call 67;(with_reducible refine(zkQ _ (X #[O a m c,Y s]) q.num ?_).mono ?_);(refine h.top.ext ?_;exact eA);rintro e j ⟨rfl,d⟩;obtain⟨⟨g,i⟩,f⟩:=cK1 w d)))
 go_ret;exact⟨rfl,eA⟩
theorem zeg (w:V) (v:J) (q:Rat) (h:IsR w v q) (o:Rb limR q):Calls Tryz.prog 64 #[v] w (RetZd w (q.den:Int)):=by
 obtain⟨a,m,c,s,a2,m2,c2,rfl⟩:=h.form;have Q:=den_pos q;have u:Hid (Lm lim ((q.den:Int)-1)):=hd9 ((o.2.mono dM).le oM oM);have t:Hid (Lm lim 1):=hd9 (zht dM);have hr:=h.rest;clear o h;go_enter Tryz.func64,Tryz.ntmps64;go_wp2
 go_region_held3 (fun W=>W.cell? ⟨w.heap.size,2,Z⟩=M (O a2 m2 c2)) ((repeat' (with_reducible refine And.intro ?_ ?_))<;>(first|(go_simp;done)|(refine hx1.cellS ?_;go_simp;done))) (first|((go_at_call 115;(with_reducible refine(zmq _ 1 dM dM).mono ?_);rintro e w1 ⟨r1,rfl,d,hx1,K⟩;obtain⟨x,m1,z,rfl⟩:=d.isD.form;obtain⟨⟨j,T⟩,p,g⟩:=cK2 w hx1))|((go_at_call 114;(with_reducible refine(zdo _ (X #[O a2 m2 c2]) (X #[O x m1 z]) ((q.den:Int)-1) 1 1 ?_ ?_ u.out t.out dM oM).mono ?_);(refine hr.ext ?_;exact eA);(refine d.isD.ext ?_;exact eA);rintro e w2 ⟨r2,rfl,f,l,P⟩;obtain⟨y,m3,D,rfl⟩:=f.isD.form;obtain⟨⟨k,aa⟩,r,i⟩:=cK2 w l)))
 all_goals go_wp2
 refine bR (v:=X #[O y m3 D,Y false]) (by simp [results,Tryz.results64,go_sem,j,k,g,i]) rfl ⟨_,rfl,IsZ.keep (w:=w2) ?_ kA,eA,dA⟩;refine⟨_,_,_,_,rfl,by simp,?_⟩;have e:(((q.den:Int).natAbs:Nat):Int)=(q.den:Int)-1+1*1:=oM
 rw [e];exact f.isD
theorem zaJ (w:V) (v:J) (q:Rat) (h:IsR w v q) (d:Rb limR q):Calls Tryz.prog 64 #[v] w (RetZ w (q.den:Int)):=z_dr (zeg w v q h d)
theorem ziz (w:V) (v:J) (n:Int) (h:IsZ w v n):Calls Tryz.prog 68 #[v] w (RetR w (n:Rat)):=by
 obtain⟨a,m,c,s,rfl⟩:=h.form;go_enter Tryz.func68,Tryz.ntmps68;go_wp2;exact bR (v:=X #[O a m c,Y s,O Z 0 0]) (by simp [results,Tryz.results68,go_sem]) rfl ⟨_,rfl,IsR.mk (h.ext eA) (IsD.nil _),eA⟩
theorem zfw (w:V) (n:Int) (u : -9223372036854775808≤n) (x:n≤9223372036854775807):Calls Tryz.prog 22 #[.int .i64 n] w (RetR w (n:Rat)):=by
 go_enter Tryz.func22,Tryz.ntmps22
 go_wp2_with(first|((go_at_call 69;(with_reducible refine(zcZ _ n u x).mono ?_);rintro e w1 ⟨T,rfl,d,k⟩;obtain⟨o,D,r,P,rfl⟩:=d.form;obtain⟨⟨i,y⟩,g⟩:=cK1 w k))|((go_at_call 68;(with_reducible refine(ziz _ (X #[O o D r,Y P]) n d).mono ?_);rintro e w2 ⟨r2,rfl,f,l⟩;obtain⟨a2,m2,c2,Q,p,K,t,rfl⟩:=f.form;obtain⟨⟨j,z⟩,h⟩:=cK1 w l)))
 exact bR (v:=X #[O a2 m2 c2,Y Q,O p K t]) (by simp [results,Tryz.results22,go_sem,i,j,g,h]) rfl ⟨_,rfl,f.keep kA,eA⟩
theorem zlJ (w:V) (v:J) (q:Rat) (h:IsR w v q):Calls Tryz.prog 66 #[v] w (RetR w (-q)):=by
 obtain⟨a,m,c,s,a2,m2,c2,rfl⟩:=h.form;go_enter Tryz.func66,Tryz.ntmps66;go_wp2
 go_region_held3 (fun W=>W.cell? ⟨w.heap.size,0,Z⟩=M (O a m c)∧W.cell? ⟨w.heap.size,1,Z⟩=M (Y s)∧W.cell? ⟨w.heap.size,2,Z⟩=M (O a2 m2 c2)) ((repeat' (with_reducible refine And.intro ?_ ?_))<;>(first|(go_simp;done)|(refine hx1.cellS ?_;go_simp;done))) (((go_at_call 117;(with_reducible refine(zdD _ (X #[O a m c,Y s]) q.num ?_).mono ?_);(refine h.top.ext ?_;exact eA);rintro e t ⟨r,rfl,d,hx1⟩;obtain⟨j,o,k,p,rfl⟩:=d.form;obtain⟨⟨g,l⟩,i,f⟩:=cK2 w hx1)))
 all_goals go_wp2
 exact bR (v:=X #[O j o k,Y p,O a2 m2 c2]) (by simp [results,Tryz.results66,go_sem,g,f]) rfl ⟨_,rfl,IsR.keep (IsR.mk d (h.rest.ext eA)) kA,eA⟩
def rg (n d:Int):Int:=if d<0 then -(Int.gcd n d:Int)else (Int.gcd n d:Int)
theorem zlH {n d:Int} (g:d≠0):rg n d≠0∧rg n d ∣ n∧rg n d ∣ d∧n / rg n d=(Rat.divInt n d).num∧d / rg n d=((Rat.divInt n d).den:Int):=by
 have i:0<Int.gcd n d:=Int.gcd_pos_of_ne_zero_right n g;have f:(Int.gcd n d:Int) ∣ n:=Int.gcd_dvd_left ..;have e:(Int.gcd n d:Int) ∣ d:=Int.gcd_dvd_right ..;rw [Rat.num_divInt,Rat.den_divInt,if_neg g,Int.gcd_comm d n];unfold rg
 by_cases h:d<0
 ·rw [if_pos h]
  refine⟨by omega,Int.neg_dvd.2 f,Int.neg_dvd.2 e,?_,?_⟩
  ·rw [Int.sign_eq_neg_one_of_neg h,Int.ediv_neg,Int.neg_mul,Int.one_mul,Int.neg_ediv_of_dvd f]
  ·rw [Int.ediv_neg,Int.natCast_ediv,Int.ofNat_natAbs_of_nonpos oM,Int.neg_ediv_of_dvd e]
 ·rw [if_neg h]
  refine⟨by omega,f,e,?_,?_⟩
  ·rw [Int.sign_eq_one_of_pos oM,Int.one_mul]
  ·rw [Int.natCast_ediv,Int.natAbs_of_nonneg oM]
theorem zox {k:Nat} {n d:Int} (g:d≠0) (h:Lm k d):Lm k (rg n d):=by
 have e:(Int.gcd n d:Int)≤d.natAbs:=Int.le_of_dvd oM (Int.dvd_natAbs.2 (Int.gcd_dvd_right ..));have f:0≤(Int.gcd n d:Int):=Int.natCast_nonneg _;unfold rg Lm at *
 split<;>omega
theorem zha {n d:Int} (e:d≠0) {k:Nat} (h:Lm k d):Lm k ((Rat.divInt n d).den:Int):=by
 have f:(Rat.divInt n d).den≤d.natAbs:=by
  rw [Rat.den_divInt,if_neg e];exact Nat.div_le_self _ _
 unfold Lm at *;omega
theorem zjZ {n d:Int} (e:d≠0) {k:Nat} (h:Lm k n):Lm k (Rat.divInt n d).num:=by
 have f:(Rat.divInt n d).num.natAbs≤n.natAbs:=by
  rw [Rat.num_divInt,Int.natAbs_ediv_of_dvd]
  ·rw [Int.natAbs_mul]
   have:d.sign.natAbs=1:=by rw [Int.natAbs_sign];simp [e]
   rw [this,Nat.one_mul];exact Nat.div_le_self _ _
  ·exact Int.dvd_trans (Int.gcd_dvd_right ..) (Int.dvd_mul_left ..)
 unfold Lm at *;omega
end
section
open Go.RowKit Go.Shelf
def ZB (W:V) (b:Nat) (n:Int):Prop:=∃a m c s,W.heap[b]?=M (I #[O a m c,Y s] 63 (0,0))∧IsZ W (X #[O a m c,Y s]) n
section
variable {W W':V} {b b':Nat} {n n':Int}
theorem ZB.ext (h:ZB W b n) (k:Ext W W'):ZB W' b n:=by
 obtain⟨a,m,c,s,d,e⟩:=h;exact⟨a,m,c,s,k.heapS d,e.ext k⟩
theorem ZB.not (h:ZB W b n):NoT 2 W b:=by
 obtain⟨a,m,c,s,d,i⟩:=h;intro f g e;rw [d]at e;cases e
theorem ZB.rd (h:ZB W b n):∃a m c s,W.cell? ⟨b,0,Z⟩=M (O a m c)∧W.cell? ⟨b,1,Z⟩=M (Y s)∧W.frozen? ⟨b,0,Z⟩=false∧W.frozen? ⟨b,1,Z⟩=false∧b<W.heap.size∧IsZ W (X #[O a m c,Y s]) n:=by
 obtain⟨a,m,c,s,d,e⟩:=h;exact⟨a,m,c,s,qcB d (i:=0) rfl,qcB d (i:=1) rfl,qfB d 0,qfB d 1,zaa d,e⟩
theorem ZB.put {a:Option Addr} {m c:Nat} {s:Bool} (h:ZB W b n) (f:IsZ W (X #[O a m c,Y s]) n'):ZB ((W.setCell ⟨b,0,Z⟩ (O a m c)).setCell ⟨b,1,Z⟩ (Y s)) b n':=by
 have d:=h.not;obtain⟨g,k,i,l,e,j⟩:=h;exact⟨a,m,c,s,zaS e _ _,f.keep (((KeepT.refl _ W).setN d _).setN (d.set _ _) _)⟩
theorem ZB.other {p:Addr} (h:ZB W b n) (g:p.block≠b) (i:NoT 2 W p.block) (u:J):ZB (W.setCell p u) b n:=by
 obtain⟨a,m,c,s,d,f⟩:=h;exact⟨a,m,c,s,(bS _ _ _ _ (fun e=>g e.symm)).trans d,f.keep ((KeepT.refl _ W).setN i _)⟩
theorem ZB.new {d:V} {a:Option Addr} {m c:Nat} {s:Bool} (f:IsZ d (X #[O a m c,Y s]) n) (e:b=d.heap.size):ZB (d.alloc (I #[O a m c,Y s] 63)) b n:=
 ⟨a,m,c,s,qhA _ _ _ e,f.ext ((eR _).alloc _)⟩
end
def RtS (w:V) (e:Nat) (n d g:Int) (_:J) (W:V):Prop:=
 Ext w W∧ZB W w.heap.size n∧ZB W (w.heap.size+1) d∧W.heap[w.heap.size+1+1]?=M (I #[O Z 0 0,Y false,O Z 0 0] 65 (0,0))∧ZB W e g
theorem zef (w:V) (va vb:J) (n d:Int) (ha:IsZ w va n) (hb:IsZ w vb d) (y:Lm limA n) (h:Lm limA d) (hd:d≠0) :
  Calls Tryz.prog 82 #[va,vb] w (RetR w (Rat.divInt n d)):=by
 obtain⟨a,m,c,s,rfl⟩:=ha.form;obtain⟨a',m',c',s',rfl⟩:=hb.form;have aa:=hd9 hb.sgn;obtain⟨ac,ae,ad,aj,ai⟩:=zlH (n:=n) hd;have aB:=hd9 y;have aA:=hd9 h;have Q:=hd9 (zox (n:=n) hd h);have T:Hid (Lm lim n):=hd9 (y.mono dM);have P:Hid (Lm lim d):=hd9 (h.mono dM);have aG:=hd9 aj;have aF:=hd9 ai;have aE:=hd9 ae;have aD:=hd9 ad;have aC:Hid (Lm lim ((Rat.divInt n d).den:Int)):=hd9 (zha hd (h.mono dM));have H1:Hid (Lm lim 1):=hd9 (zht dM);have bm:=den_pos (Rat.divInt n d);clear y h aj ai ae ad;go_enter Tryz.func82,Tryz.ntmps82
 go_upto_if 10 with (((go_at_call 124;(with_reducible refine(zlX _ (X #[O a m c,Y s]) (X #[O a' m' c',Y s']) n d ?_ ?_ T.out P.out).mono ?_);(refine ha.ext ?_;exact eA);(refine hb.ext ?_;exact eA);rintro e g ⟨r1,rfl,t,j⟩;obtain⟨a1,m1,c1,s1,rfl⟩:=t.form;obtain⟨⟨aH,aM⟩,an,ao,au⟩:=cK3 w j;have o:w.heap.size<g.heap.size+1:=oM;have p:w.heap.size+1<g.heap.size+1:=oM;have r:w.heap.size+1+1<g.heap.size+1:=oM)))
 have x:RtS w g.heap.size n d (Int.gcd n d:Nat) (Y true) (g.alloc (I #[O a1 m1 c1,Y s1] 63)):=by
  refine⟨eA,?_,?_,?_,ZB.new t rfl⟩
  ·refine ZB.ext (W:=w.alloc (I #[O a m c,Y s] 63)) (ZB.new ha rfl) eA
  ·refine ZB.ext (W:=(w.alloc (I #[O a m c,Y s] 63)).alloc (I #[O a' m' c',Y s'] 63)) (ZB.new (hb.ext eA) sM) eA
  ·exact(j.thenB ((Below.refl _ _).alloc (nE _) _) j.size).heapS (by rw [zai];simp)
 go_cut [11] (RtS w g.heap.size n d (rg n d))
 case first =>
  cases s'
  ·have e:rg n d=(Int.gcd n d:Nat):=by have:=aa.out;unfold rg;rw [if_neg (by simpa using this)]
   have E:=hd9 e;clear e;go_wp2;go_meet;rw [E.out];exact x
  ·have e:rg n d = -((Int.gcd n d:Nat):Int):=by have:=aa.out;unfold rg;rw [if_pos (by simpa using this)]
   have E:=hd9 e;clear e
   go_wp2_with(((go_at_call 117;(with_reducible refine(zdD _ (X #[O a1 m1 c1,Y s1]) (Int.gcd n d:Nat) ?_).mono ?_);(refine t.ext ?_;exact eA);rintro e w2 ⟨r2,rfl,ak,f⟩;obtain⟨a2,m2,c2,s2,rfl⟩:=ak.form;obtain⟨⟨bl,bn⟩,aW,aX,aY⟩:=cK3 w f;have aU:=f.lt (n:=g.heap.size) (by go_simp))))
   go_meet;rw [E.out];obtain⟨i1,i2,i3,i4,i5⟩:=x;have hN:=(i5.ext f).not
   exact⟨eA,((i2.ext f).other dO hN _).other dO (hN.set _ _) _,((i3.ext f).other dO hN _).other dO (hN.set _ _) _,
    by rw [bS _ _ _ _ dO,bS _ _ _ _ dO];exact f.heapS i4,(i5.ext f).put ak⟩
 case rest =>
  have bA:¬g.heap.size=w.heap.size:=oM
  have bB:¬w.heap.size=g.heap.size:=oM
  have bC:¬g.heap.size=w.heap.size+1:=oM
  have bD:¬w.heap.size+1=g.heap.size:=oM
  clear x j aH aM an ao au o p r t;obtain⟨hx,b1,b2,l,b4⟩:=hcut;have bs:=b1.not;have bt:=b2.not;have bu:NoT 2 wc (w.heap.size+1+1):=fun cs fr e=>by rw [l]at e;cases e
  have az:w.heap.size+1+1<wc.heap.size:=zaa l;have r0:=qcB l (i:=0) (u:=O Z 0 0) rfl;have r1:=qcB l (i:=1) (u:=Y false) rfl;have r2:=qcB l (i:=2) (u:=O Z 0 0) rfl;have bE:=qfB l 0;have bF:=qfB l 1;have bG:=qfB l 2;obtain⟨a3,m3,c3,s3,n0,n1,bx,bz,be,aT⟩:=b1.rd;obtain⟨a4,m4,c4,s4,d0,d1,bh,bi,bf,aS⟩:=b2.rd;obtain⟨a5,m5,c5,s5,g0,g1,bj,bk,bg,am⟩:=b4.rd;clear b1 b2 l b4
  go_wp2_with(first|((go_at_call 106;(with_reducible refine(zfD _ (X #[O a3 m3 c3,Y s3]) (X #[O a5 m5 c5,Y s5]) n (rg n d) ?_ ?_ aB.out Q.out ac (.inr aE.out)).mono ?_);(refine aT.ext ?_;exact eA);(refine am.ext ?_;exact eA);rintro e w3 ⟨vq,vr,rfl,af,aO,k⟩;obtain⟨aq,mq,cq,sq,rfl⟩:=af.form;obtain⟨ar,mr,cr,sr,rfl⟩:=aO.form;obtain⟨⟨aI,bo⟩,aZ,a0,av⟩:=cK3 w k;have aV:=k.lt (n:=g.heap.size) (by go_simp)))|((go_at_call 106;(with_reducible refine(zfD _ (X #[O a4 m4 c4,Y s4]) (X #[O a5 m5 c5,Y s5]) d (rg n d) ?_ ?_ aA.out Q.out ac (.inr aD.out)).mono ?_);(refine(aS.ext k).keep kA);(refine(am.ext k).keep kA);rintro e w4 ⟨vq,vr,rfl,ag,aP,K⟩;obtain⟨ap,mp,cp,sp,rfl⟩:=ag.form;obtain⟨ar,mr,cr,sr,rfl⟩:=aP.form;obtain⟨⟨aJ,bp⟩,a8,a9,aw⟩:=cK3 w K)))
  have z:=(ag.dig).keep (w':=(w4.setCell ⟨w.heap.size+1,0,Z⟩ (O ap mp cp)).setCell ⟨w.heap.size+1,1,Z⟩ (Y sp)) kA;have ah:=((af.keep (w':=(w3.setCell ⟨w.heap.size,0,Z⟩ (O aq mq cq)).setCell ⟨w.heap.size,1,Z⟩ (Y sq)) kA).ext K).keep (w':=(w4.setCell ⟨w.heap.size+1,0,Z⟩ (O ap mp cp)).setCell ⟨w.heap.size+1,1,Z⟩ (Y sp)) kA;rw [aF.out]at z;rw [aG.out]at ah;have e5:(((Rat.divInt n d).den:Int).natAbs:Int)=((Rat.divInt n d).den:Int):=oM
  rw [e5]at z;clear e5
  go_region_held3 (fun W=>W.cell? ⟨w.heap.size,0,Z⟩=M (O aq mq cq)∧W.cell? ⟨w.heap.size,1,Z⟩=M (Y sq)∧W.cell? ⟨w.heap.size+1,0,Z⟩=M (O ap mp cp)) ((repeat' (with_reducible refine And.intro ?_ ?_))<;>(first|(go_simp;done)|(refine j.cellS ?_;go_simp;done))) (first|((go_at_call 115;(with_reducible refine(zcr _ 1 dM dM).mono ?_);rintro e w5 ⟨r5,rfl,al,aQ⟩;obtain⟨a6,m6,c6,rfl⟩:=al.isD.form;obtain⟨⟨aK,bq⟩,ba,bb,ax⟩:=cK3 w aQ))|((go_at_call 114;(with_reducible refine(zcR _ (X #[O ap mp cp]) (X #[O a6 m6 c6]) ((Rat.divInt n d).den:Int) 1 (-1) ?_ ?_ aC.out H1.out dM oM).mono ?_);(refine z.ext ?_;exact eA);(refine al.isD.ext ?_;exact eA);rintro e w6 ⟨r6,rfl,D,aR⟩;obtain⟨a7,m7,c7,rfl⟩:=D.isD.form;obtain⟨⟨aL,br⟩,bc,bd,ay⟩:=cK3 w aR)))
  all_goals go_wp2
  have e7:((Rat.divInt n d).den:Int) + -1*1=((Rat.divInt n d).den:Int)-1:=oM
  rw [e7]at D;clear e7;have ab:IsR w6 (X #[O aq mq cq,Y sq,O a7 m7 c7]) (Rat.divInt n d):=IsR.mk (ah.ext eA) D.isD;refine bR (v:=X #[O aq mq cq,Y sq,O a7 m7 c7]) (by simp [results,Tryz.results82,go_sem,aI,aJ,aK,aL,az,av,aw,ax,ay,r0,r1,r2]) rfl ⟨_,rfl,ab.keep kA,?_⟩;have bv:Ext w w3:=hx.trans k;have bw:Ext w w4:=Ext.trans eA K;exact eA
theorem znz:Rat.divInt 0 1=0:=dM
theorem zj0 (w:V) (va vb:J) (n d:Int) (ha:IsZ w va n) (K:IsZ w vb d) (k:Lm limA n) (l:Lm limA d) :
  Calls Tryz.prog 81 #[va,vb] w fun e w'=>∃r,e = .returned (N #[r,.int .i64 (if d=0 then 9 else 0)])∧IsR w' r (Rat.divInt n d)∧Ext w w':=by
 obtain⟨a,m,c,s,rfl⟩:=ha.form;obtain⟨z,m',D,s',rfl⟩:=K.form;have y:=hd9 k;have x:=hd9 l;clear k l;have j:=K.dig
 by_cases i:d=0
 ·have hz:((d.natAbs:Int)==0)=true:=by simp [i]
  have Hd:=hd9 i;clear i;go_enter Tryz.func81,Tryz.ntmps81
  go_wp2_with(((go_at_call 92;(with_reducible refine(zaB _ (X #[O z m' D]) d.natAbs ?_).mono ?_);(refine j.ext ?_;exact eA);rintro e w1 ⟨rfl,h⟩;obtain⟨⟨g,Q⟩,p,t,f⟩:=cK3 w h)))
  refine bR (v:=N #[X #[O Z 0 0,Y false,O Z 0 0],.int .i64 9]) (by simp [results,Tryz.results81,go_sem,g,f]) rfl ⟨X #[O Z 0 0,Y false,O Z 0 0],by first|rfl|rw [if_pos Hd.out],?_,eA⟩
  first|exact IsR.zero _|(rw [Hd.out,Rat.divInt_zero];exact IsR.zero _)
 ·have hz:((d.natAbs:Int)==0)=false:=by simp;omega
  go_enter Tryz.func81,Tryz.ntmps81
  go_wp2_with(first|((go_at_call 92;(with_reducible refine(zaB _ (X #[O z m' D]) d.natAbs ?_).mono ?_);(refine j.ext ?_;exact eA);rintro e w1 ⟨rfl,h⟩;obtain⟨⟨g,Q⟩,p,t,f⟩:=cK3 w h))|((go_at_call 82;(with_reducible refine(zef _ (X #[O a m c,Y s]) (X #[O z m' D,Y s']) n d ?_ ?_ y.out x.out i).mono ?_);(refine ha.ext ?_;exact eA);(refine K.ext ?_;exact eA);rintro e w2 ⟨r2,rfl,o,T⟩;obtain⟨a2,m2,c2,s2,a3,m3,c3,rfl⟩:=o.form;obtain⟨⟨P,ac⟩,aa,ab,u⟩:=cK3 w T)))
  exact bR (v:=N #[X #[O a2 m2 c2,Y s2,O a3 m3 c3],.int .i64 0]) (by simp [results,Tryz.results81,go_sem,g,P,f,u]) rfl ⟨X #[O a2 m2 c2,Y s2,O a3 m3 c3],by first|rfl|rw [if_neg i],o.keep kA,eA⟩
end
end Go.Proofs.YtodpfeaihohpjaaGreatDoor.Cop
