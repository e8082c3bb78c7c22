/- Part 8: contracts of what the law calls. -/
import Derived.Test.YtjnjpagegkcgfaaGreatDoorCopA05
import Derived.Test.YtjnjpagegkcgfaaGreatDoorCopA06
set_option maxRecDepth 1000000
set_option maxHeartbeats 16000000
set_option linter.unusedSimpArgs false
set_option linter.unusedVariables false
open Go.Value renaming slice→O,bool→Y,agg→X,tuple→N
open Option renaming none→Z,some→M
open Go renaming World→V,Value→J
open Go.Obj renaming cells→I
namespace Go.Proofs.YtjnjpagegkcgfaaGreatDoor.Cop
section
open Go.RowKit Go.Shelf
theorem zmf (w:V) (L P:J) (x y:Int) (o:IsZ w L x) (p:IsZ w P y) (d:Lm lim x) (f:Lm lim y) :
  Calls Tryz.prog 225 #[L,P] w (RetZ w (Int.gcd x y:Nat)):=by
 obtain⟨a,m,c,s,rfl⟩:=o.form;obtain⟨a',m',c',s',rfl⟩:=p.form;have u:=o.dig;have z:=p.dig;have k:=hd9 d.abs;have l:=hd9 f.abs;clear d f o p;have e:(Int.gcd x y:Int)=(Int.gcd (x.natAbs:Int) (y.natAbs:Int):Nat):=by simp [Int.gcd]
 rw [e];clear e;go_enter Tryz.func225,Tryz.ntmps225
 go_wp2_with(first|((go_at_call 265;(with_reducible refine(zh0 _ (X #[O a m c]) (X #[O a' m' c']) x.natAbs y.natAbs ?_ ?_ k.out l.out).mono ?_);(refine u.ext ?_;exact eA);(refine z.ext ?_;exact eA);rintro e w1 ⟨r1,rfl,g,D⟩;obtain⟨a1,m1,c1,rfl⟩:=g.form;obtain⟨⟨r,aa⟩,Q,R,i⟩:=cK3 w D))|((go_at_call 183;(with_reducible refine(zcP _ false (X #[O a1 m1 c1]) (Int.gcd (x.natAbs:Int) (y.natAbs:Int):Nat) ?_).mono ?_);(refine g.ext ?_;exact eA);rintro e w2 ⟨r2,rfl,h,K⟩;obtain⟨a2,m2,c2,s2,rfl⟩:=h.form;obtain⟨⟨t,ab⟩,S,T,j⟩:=cK3 w K)))
 exact bR (v:=X #[O a2 m2 c2,Y s2]) (by simp [results,Tryz.results225,go_sem,r,t,i,j]) rfl ⟨_,rfl,h.keep kA,eA⟩
def QtS (w:V) (d:J) (e:Bool) (q r:Int) (W:V):Prop:=
 Ext w W∧W.heap[w.heap.size+1]?=M (I #[d,Y e] 61 (0,0)) ∧
 ∃aq mq cq sq ar mr cr sr,W.heap[w.heap.size+1+1]?=M (I #[O aq mq cq,Y sq] 61 (0,0))∧IsZ W (X #[O aq mq cq,Y sq]) q ∧
  W.heap[w.heap.size+1+1+1]?=M (I #[O ar mr cr,Y sr] 61 (0,0))∧IsZ W (X #[O ar mr cr,Y sr]) r
def QtR (w:V) (d:J) (e:Bool) (x y:Int) (_:J) (W:V):Prop:=∃q,QtS w d e q (x % y) W∧(if e then -q else q)=x / y
theorem znM {x y:Int} (s t:Bool) (j:s=decide (x<0)) (p:t=decide (y<0)) (r:y≠0) (h:s=false∨(x.natAbs:Int) % (y.natAbs:Int)=0) :
  (if t then -(sg s ((x.natAbs:Int) / (y.natAbs:Int)))else sg s ((x.natAbs:Int) / (y.natAbs:Int)))=x / y∧(x.natAbs:Int) % (y.natAbs:Int)=x % y:=by
 have o:x % y=x % (y.natAbs:Int):=by
  rcases Int.natAbs_eq y with h|h
  ·rw [←h]
  ·conv=>lhs;rw [h,Int.emod_neg]
 have e:s=false→(x.natAbs:Int)=x:=fun h=>by subst j;simp at h;omega
 have d:s=true→(x.natAbs:Int) = -x:=fun h=>by subst j;simp at h;omega
 have l:x / y=if t then -(x / (y.natAbs:Int))else x / (y.natAbs:Int):=by
  subst p
  by_cases h:y<0
  ·simp only [h,decide_true,if_true]
   rw [show (y.natAbs:Int) = -y by omega,Int.ediv_neg,Int.neg_neg]
  ·simp only [h,decide_false,Bool.false_eq_true,if_false]
   rw [show (y.natAbs:Int)=y by omega]
 have f:(y.natAbs:Int)≠0:=oM
 rw [l,o]
 cases s
 ·rw [e rfl];simp [sg]
 ·rw [d rfl]at h ⊢
  have g:(-x) % (y.natAbs:Int)=0:=by rcases h with h|h;cases h;exact h
  have i:x % (y.natAbs:Int)=0:=by
   have:=Int.dvd_of_emod_eq_zero g;exact Int.emod_eq_zero_of_dvd (by simpa using Int.dvd_neg.2 this)
  refine⟨?_,by rw [g,i]⟩
  have k:(-x) / (y.natAbs:Int) = -(x / (y.natAbs:Int)):=by
   apply Int.ediv_eq_of_eq_mul_left f
   rw [Int.neg_mul,Int.ediv_mul_cancel (Int.dvd_of_emod_eq_zero i)]
  simp [sg,k]
def RetQ (w:V) (q r:Int) (e:Ending) (w':V):Prop:=∃vq vr,e = .returned (N #[vq,vr,.int .i64 0])∧IsZ w' vq q∧IsZ w' vr r∧Ext w w'
theorem QtS.ext {w:V} {d:J} {e:Bool} {q r:Int} {W W':V} (h:QtS w d e q r W) (k:Ext W W'):QtS w d e q r W':=by
 obtain⟨l,o,f,x,i,z,g,y,j,D,p,t,u,h6⟩:=h;exact⟨l.trans k,k.heapS o,f,x,i,z,g,y,j,D,k.heapS p,t.ext k,k.heapS u,h6.ext k⟩
theorem zal {W:V} {g:Nat} {x y:J} {T:TypeId} {d:Nat×Nat} (h:W.heap[g]?=M (I #[x,y] T d)) (u v:J) :
  ((W.setCell ⟨g,0,Z⟩ u).setCell ⟨g,1,Z⟩ v).heap[g]?=M (I #[u,v] T d):=by
 simp [World.setCell,Array.getElem?_modify,h]
theorem zax {W:V} {g i:Nat} {v:J} (h:W.cell? ⟨g,i,Z⟩=M v):W.setCell ⟨g,i,Z⟩ v=W:=by
 have e:(W.setCell ⟨g,i,Z⟩ v).heap=W.heap:=by
  apply Array.ext_getElem?
  intro k
  by_cases f:k=g
  ·subst f
   simp only [World.setCell,Array.getElem?_modify,if_pos];unfold World.cell? at h
   cases hw:W.heap[k]? with
   | none=>rfl
   | some o =>
    cases o with
    | cells d T p =>
     simp [hw]at h
     have:d.setIfInBounds i v=d:=by
      apply Array.ext_getElem?
      intro j;rw [Array.getElem?_setIfInBounds]
      split
      ·subst_vars
       split
       ·exact h.symm
       ·rename_i h2;rw [Array.getElem?_eq_none oM]
      ·rfl
     simp [this]
    | _=>simp
  ·exact bS _ _ _ _ f
 have l:W.setCell ⟨g,i,Z⟩ v={ W with heap:=(W.setCell ⟨g,i,Z⟩ v).heap }:=rfl;rw [l,e]
theorem qcB {W:V} {g:Nat} {cs:Array J} {T:TypeId} {d:Nat×Nat} (h:W.heap[g]?=M (I cs T d)) {i:Nat} {u:J} (e:cs[i]?=M u):W.cell? ⟨g,i,Z⟩=M u:=by
 simp [World.cell?,h,e]
theorem qfB {W:V} {g:Nat} {cs:Array J} {T:TypeId} (h:W.heap[g]?=M (I cs T (0,0))) (i:Nat):W.frozen? ⟨g,i,Z⟩=false:=by
 simp [World.frozen?,h]
theorem QtS.setQ {w:V} {d:J} {o:Bool} {q l r:Int} {W:V} (h:QtS w d o q r W) {a:Option Addr} {m c:Nat} {s:Bool} (z:IsZ W (X #[O a m c,Y s]) l) :
  QtS w d o l r ((W.setCell ⟨w.heap.size+1+1,0,Z⟩ (O a m c)).setCell ⟨w.heap.size+1+1,1,Z⟩ (Y s)):=by
 obtain⟨u,x,L,T,P,sq,p,D,t,K,g,S,y,h6⟩:=h;have f:∀k,k≠w.heap.size+1+1→((W.setCell ⟨w.heap.size+1+1,0,Z⟩ (O a m c)).setCell ⟨w.heap.size+1+1,1,Z⟩ (Y s)).heap[k]?=W.heap[k]?:=fun k f=>by rw [bS _ _ _ _ f,bS _ _ _ _ f]
 have j:NoT 2 W (w.heap.size+1+1):=fun Q R e=>by rw [g]at e;cases e
 have i:KeepT 2 W ((W.setCell ⟨w.heap.size+1+1,0,Z⟩ (O a m c)).setCell ⟨w.heap.size+1+1,1,Z⟩ (Y s)):=((KeepT.refl _ W).setN j _).setN (j.set _ _) _;exact⟨(u.set dO _).set dO _,(f _ oM).trans x,a,m,c,s,p,D,t,K,zal g _ _,z.keep i,(f _ oM).trans y,h6.keep i⟩
theorem zfq (w:V) (va vb:J) (x y:Int) (ha:IsZ w va x) (hb:IsZ w vb y) (au:Lm limA x) (av:Lm limA y) (hy:y≠0) (aT:0≤x∨y ∣ x) :
  Calls Tryz.prog 134 #[va,vb] w (RetQ w (x / y) (x % y)):=by
 obtain⟨a,m,c,s,rfl⟩:=ha.form;obtain⟨D,L,K,t,rfl⟩:=hb.form;have an:=hd9 ha.sgn;have aM:=hd9 hb.sgn;have aQ:=ha.dig;have ap:=hb.dig;have aK:=hd9 au.abs;have aL:=hd9 av.abs;have bB:((y.natAbs:Int)==0)=false:=by simp;omega
 have aU:0<(y.natAbs:Int):=oM
 clear au av ha;go_enter Tryz.func134,Tryz.ntmps134
 go_wp2_with(first|((go_at_call 166;(with_reducible refine(zaA _ (X #[O D L K]) y.natAbs ?_).mono ?_);(refine ap.ext ?_;exact eA);rintro e w1 ⟨rfl,aA⟩;obtain⟨⟨bq,bv⟩,aZ,a0,a1,a6⟩:=cK4 w aA))|((go_at_call 182;(with_reducible refine(zht _ (X #[O a m c]) (X #[O D L K]) x.natAbs y.natAbs ?_ ?_ aK.out aL.out aU).mono ?_);(refine aQ.ext ?_;exact eA);(refine ap.ext ?_;exact eA);rintro e P ⟨r2,r3,rfl,ax,aj,aS⟩;obtain⟨a2,m2,c2,rfl⟩:=ax.isD.form;obtain⟨a3,m3,c3,rfl⟩:=aj.isD.form;obtain⟨⟨br,bw⟩,a7,a8,ba,bb⟩:=cK4 w aS;have aC:w.heap.size<P.heap.size+1:=oM;have aD:w.heap.size<P.heap.size+1+1:=oM;have aE:w.heap.size+1<P.heap.size+1:=oM;have aF:w.heap.size+1<P.heap.size+1+1:=oM;have aG:w.heap.size+1+1<P.heap.size+1:=oM;have aH:w.heap.size+1+1<P.heap.size+1+1:=oM;have aI:w.heap.size+1+1+1<P.heap.size+1:=oM;have aJ:w.heap.size+1+1+1<P.heap.size+1+1:=oM)))
 go_region_held3 (fun W=>W.cell? ⟨w.heap.size,1,Z⟩=M (Y s)∧W.cell? ⟨P.heap.size,0,Z⟩=M (O a2 m2 c2)∧W.cell? ⟨P.heap.size+1,0,Z⟩=M (O a3 m3 c3)) ((repeat' (with_reducible refine And.intro ?_ ?_))<;>(first|(go_simp;done)|(refine aA.cellS ?_;go_simp;done))) (first|((go_at_call 183;(with_reducible refine(zcP _ s (X #[O a2 m2 c2]) ((x.natAbs:Int) / (y.natAbs:Int)) ?_).mono ?_);(refine ax.isD.ext ?_;exact eA);rintro e w3 ⟨r4,rfl,ay,ak⟩;obtain⟨a4,m4,c4,s4,rfl⟩:=ay.form;obtain⟨⟨bs,bx⟩,bc,be,bf,bg⟩:=cK4 w ak;have aV:=ak.lt (n:=P.heap.size) (by go_simp);have aW:=ak.lt (n:=P.heap.size+1) (by go_simp)))|((go_at_call 183;(with_reducible refine(zcP _ false (X #[O a3 m3 c3]) ((x.natAbs:Int) % (y.natAbs:Int)) ?_).mono ?_);(refine aj.isD.ext ?_;exact eA);rintro e g ⟨r5,rfl,az,al⟩;obtain⟨a5,m5,c5,s5,rfl⟩:=az.form;obtain⟨⟨bt,bz⟩,bh,bi,bj,bk⟩:=cK4 w al;have aX:=al.lt (n:=P.heap.size) (by go_simp);have aY:=al.lt (n:=P.heap.size+1) (by go_simp))))
 have ao:=aj.isD.ext (w':=g) eA;have Q:Ext ((((w.alloc (I #[O a m c,Y s] 61)).alloc (I #[O D L K,Y t] 61)).alloc (I #[O Z 0 0,Y false] 61)).alloc (I #[O Z 0 0,Y false] 61)) g:=eA
 have aw:QtS w (O D L K) t (sg s ((x.natAbs:Int) / (y.natAbs:Int))) ((x.natAbs:Int) % (y.natAbs:Int)) ((((g.setCell ⟨w.heap.size+1+1,0,Z⟩ (O a4 m4 c4)).setCell ⟨w.heap.size+1+1,1,Z⟩ (Y s4)).setCell ⟨w.heap.size+1+1+1,0,Z⟩ (O a5 m5 c5)).setCell ⟨w.heap.size+1+1+1,1,Z⟩ (Y s5)):=by
  have Q:Ext ((((w.alloc (I #[O a m c,Y s] 61)).alloc (I #[O D L K,Y t] 61)).alloc (I #[O Z 0 0,Y false] 61)).alloc (I #[O Z 0 0,Y false] 61)) g:=eA;have e1:g.heap[w.heap.size+1]?=M (I #[O D L K,Y t] 61 (0,0)):=Q.heapS (by rw [zag,zag,zag];simp);have e2:g.heap[w.heap.size+1+1]?=M (I #[O Z 0 0,Y false] 61 (0,0)):=Q.heapS (by rw [zag,zag];simp);have e3:g.heap[w.heap.size+1+1+1]?=M (I #[O Z 0 0,Y false] 61 (0,0)):=Q.heapS (by rw [zag];simp);have k1:∀k,k≠w.heap.size+1+1→((g.setCell ⟨w.heap.size+1+1,0,Z⟩ (O a4 m4 c4)).setCell ⟨w.heap.size+1+1,1,Z⟩ (Y s4)).heap[k]?=g.heap[k]?:=fun k hk=>by rw [bS _ _ _ _ hk,bS _ _ _ _ hk]
  have k2:∀(W:V) k,k≠w.heap.size+1+1+1→((W.setCell ⟨w.heap.size+1+1+1,0,Z⟩ (O a5 m5 c5)).setCell ⟨w.heap.size+1+1+1,1,Z⟩ (Y s5)).heap[k]?=W.heap[k]?:=fun W k hk=>by rw [bS _ _ _ _ hk,bS _ _ _ _ hk]
  have n2:NoT 2 g (w.heap.size+1+1):=fun cs fr e=>by rw [e2]at e;cases e
  have n3:NoT 2 g (w.heap.size+1+1+1):=fun cs fr e=>by rw [e3]at e;cases e
  have hK:KeepT 2 g ((((g.setCell ⟨w.heap.size+1+1,0,Z⟩ (O a4 m4 c4)).setCell ⟨w.heap.size+1+1,1,Z⟩ (Y s4)).setCell ⟨w.heap.size+1+1+1,0,Z⟩ (O a5 m5 c5)).setCell ⟨w.heap.size+1+1+1,1,Z⟩ (Y s5)):=
   ((((KeepT.refl _ g).setN n2 _).setN (n2.set _ _) _).setN ((n3.set _ _).set _ _) _).setN (((n3.set _ _).set _ _).set _ _) _
  exact⟨eA,((k2 _ _ oM).trans (k1 _ oM)).trans e1,a4,m4,c4,s4,a5,m5,c5,s5,(k2 _ _ oM).trans (zal e2 _ _),(ay.ext eA).keep hK,zal ((k1 _ oM).trans e3) _ _,az.keep hK⟩
 have aO:IsD ((((g.setCell ⟨w.heap.size+1+1,0,Z⟩ (O a4 m4 c4)).setCell ⟨w.heap.size+1+1,1,Z⟩ (Y s4)).setCell ⟨w.heap.size+1+1+1,0,Z⟩ (O a5 m5 c5)).setCell ⟨w.heap.size+1+1+1,1,Z⟩ (Y s5)) (X #[O a3 m3 c3]) ((x.natAbs:Int) % (y.natAbs:Int)):=by
  refine ao.keep ?_;have e2:g.heap[w.heap.size+1+1]?=M (I #[O Z 0 0,Y false] 61 (0,0)):=Q.heapS (by rw [zag,zag];simp);have e3:g.heap[w.heap.size+1+1+1]?=M (I #[O Z 0 0,Y false] 61 (0,0)):=Q.heapS (by rw [zag];simp);have n2:NoT 2 g (w.heap.size+1+1):=fun cs fr e=>by rw [e2]at e;cases e
  have n3:NoT 2 g (w.heap.size+1+1+1):=fun cs fr e=>by rw [e3]at e;cases e
  exact((((KeepT.refl _ g).setN n2 _).setN (n2.set _ _) _).setN ((n3.set _ _).set _ _) _).setN (((n3.set _ _).set _ _).set _ _) _
 have am:=hd9 aw;clear aw
 by_cases hA:s=false∨(x.natAbs:Int) % (y.natAbs:Int)=0
 ·have ai:=znM s t an.out aM.out hy hA
  have z:=hd9 ai;clear ai
  cases s
  ·go_upto_if 34 with fail
   go_cut [38] (QtR w (O D L K) t x y)
   case first =>
    go_wp2;go_meet;exact⟨_,by rw [←z.out.2];exact am.out,z.out.1⟩
   case rest =>
    obtain⟨q,hS,hq⟩:=hcut;have HS:=hd9 hS;obtain⟨hx,j,S,mq,T,sq,ar,mr,cr,sr,d,h4,f,h6⟩:=hS;have b0:=qcB j (i:=0) (u:=O D L K) rfl;have b1:=qcB j (i:=1) (u:=Y t) rfl;have q0:=qcB d (i:=0) (u:=O S mq T) rfl;have q1:=qcB d (i:=1) (u:=Y sq) rfl;have r0:=qcB f (i:=0) (u:=O ar mr cr) rfl;have r1:=qcB f (i:=1) (u:=Y sr) rfl;have aa:=qfB d 0;have ab:=qfB d 1;have ac:=qfB f 0;have ad:=qfB f 1;have ag:=zaa d;have ah:=zaa f;have R:=hd9 j;clear d f j
    go_upto_if 43 with fail
    go_cut [44] (fun _ W=>QtS w (O D L K) t (x / y) (x % y) W)
    case first =>
     cases t
     ·go_wp2
      go_meet;simp at hq;rw [←hq];exact HS.out
     ·go_wp2_with(first|((go_at_call 186;(with_reducible refine(zdy _ (X #[O S mq T,Y sq]) q ?_).mono ?_);(refine h4.ext ?_;exact eA);rintro e w9 ⟨r9,rfl,ae,af⟩;obtain⟨a9,m9,c9,s9,rfl⟩:=ae.form;obtain⟨aP,aR⟩:=af.cells)))
      go_meet;simp at hq;rw [←hq];exact(HS.out.ext af).setQ ae
    case rest =>
     clear hx h4 h6 b0 b1 q0 q1 r0 r1 aa ab ac ad ag ah HS hq R;obtain⟨wd,rfl⟩:∃W,W=wc:=⟨_,rfl⟩;have hS:=hcut;have HS:=hd9 hS;obtain⟨hx,j,S,mq,T,sq,ar,mr,cr,sr,d,h4,f,h6⟩:=hS;have b0:=qcB j (i:=0) (u:=O D L K) rfl;have b1:=qcB j (i:=1) (u:=Y t) rfl;have q0:=qcB d (i:=0) (u:=O S mq T) rfl;have q1:=qcB d (i:=1) (u:=Y sq) rfl;have r0:=qcB f (i:=0) (u:=O ar mr cr) rfl;have r1:=qcB f (i:=1) (u:=Y sr) rfl;have aa:=qfB d 0;have ab:=qfB d 1;have ac:=qfB f 0;have ad:=qfB f 1;have ag:=zaa d;have ah:=zaa f;have R:=hd9 j;clear d f j;have l:=zax q0;have o:=zax q1;have p:=zax r0;have r:=zax r1;go_wp2
     go_region_with (fail)
     all_goals go_wp2
     all_goals exact bR (v:=N #[X #[O S mq T,Y sq],X #[O ar mr cr,Y sr],.int .i64 0]) (by simp [results,Tryz.results134,go_sem,q0,q1,r0,r1,l,o,p,r]) rfl ⟨_,_,rfl,by(try simp only [l,o,p,r]);exact h4.ext eA,by(try simp only [l,o,p,r]);exact h6.ext eA,by(try simp only [l,o,p,r]);(repeat(first|with_reducible assumption|with_reducible refine Ext.drew ?_))⟩
  ·have h0:(x.natAbs:Int) % (y.natAbs:Int)=0:=by simpa using hA
   have bp:((x.natAbs:Int) % (y.natAbs:Int)==0)=true:=by simpa using h0
   have H0:=hd9 h0;clear h0 hA
   go_upto_if 34 with (first|((go_at_call 166;(with_reducible refine(zaA _ (X #[O a3 m3 c3]) ((x.natAbs:Int) % (y.natAbs:Int)) ?_).mono ?_);(refine aO.ext ?_;exact eA);rintro e w5 ⟨rfl,aB⟩;obtain⟨⟨bu,bA⟩,bl,bm,bn,bo⟩:=cK4 w aB)))
   go_cut [38] (QtR w (O D L K) t x y)
   case first =>
    go_wp2;go_meet;exact⟨_,by rw [←z.out.2];exact am.out.ext aB,z.out.1⟩
   case rest =>
    obtain⟨q,hS,hq⟩:=hcut;have HS:=hd9 hS;obtain⟨hx,j,S,mq,T,sq,ar,mr,cr,sr,d,h4,f,h6⟩:=hS;have b0:=qcB j (i:=0) (u:=O D L K) rfl;have b1:=qcB j (i:=1) (u:=Y t) rfl;have q0:=qcB d (i:=0) (u:=O S mq T) rfl;have q1:=qcB d (i:=1) (u:=Y sq) rfl;have r0:=qcB f (i:=0) (u:=O ar mr cr) rfl;have r1:=qcB f (i:=1) (u:=Y sr) rfl;have aa:=qfB d 0;have ab:=qfB d 1;have ac:=qfB f 0;have ad:=qfB f 1;have ag:=zaa d;have ah:=zaa f;have R:=hd9 j;clear d f j
    go_upto_if 43 with fail
    go_cut [44] (fun _ W=>QtS w (O D L K) t (x / y) (x % y) W)
    case first =>
     cases t
     ·go_wp2
      go_meet;simp at hq;rw [←hq];exact HS.out
     ·go_wp2_with(first|((go_at_call 186;(with_reducible refine(zdy _ (X #[O S mq T,Y sq]) q ?_).mono ?_);(refine h4.ext ?_;exact eA);rintro e w9 ⟨r9,rfl,ae,af⟩;obtain⟨a9,m9,c9,s9,rfl⟩:=ae.form;obtain⟨aP,aR⟩:=af.cells)))
      go_meet;simp at hq;rw [←hq];exact(HS.out.ext af).setQ ae
    case rest =>
     clear hx h4 h6 b0 b1 q0 q1 r0 r1 aa ab ac ad ag ah HS hq R;obtain⟨wd,rfl⟩:∃W,W=wc:=⟨_,rfl⟩;have hS:=hcut;have HS:=hd9 hS;obtain⟨hx,j,S,mq,T,sq,ar,mr,cr,sr,d,h4,f,h6⟩:=hS;have b0:=qcB j (i:=0) (u:=O D L K) rfl;have b1:=qcB j (i:=1) (u:=Y t) rfl;have q0:=qcB d (i:=0) (u:=O S mq T) rfl;have q1:=qcB d (i:=1) (u:=Y sq) rfl;have r0:=qcB f (i:=0) (u:=O ar mr cr) rfl;have r1:=qcB f (i:=1) (u:=Y sr) rfl;have aa:=qfB d 0;have ab:=qfB d 1;have ac:=qfB f 0;have ad:=qfB f 1;have ag:=zaa d;have ah:=zaa f;have R:=hd9 j;clear d f j;have l:=zax q0;have o:=zax q1;have p:=zax r0;have r:=zax r1;go_wp2
     go_region_with (fail)
     all_goals go_wp2
     all_goals exact bR (v:=N #[X #[O S mq T,Y sq],X #[O ar mr cr,Y sr],.int .i64 0]) (by simp [results,Tryz.results134,go_sem,q0,q1,r0,r1,l,o,p,r]) rfl ⟨_,_,rfl,by(try simp only [l,o,p,r]);exact h4.ext eA,by(try simp only [l,o,p,r]);exact h6.ext eA,by(try simp only [l,o,p,r]);(repeat(first|with_reducible assumption|with_reducible refine Ext.drew ?_))⟩
 ·exfalso
  rcases aT with h|h
  ·exact hA (.inl (by rw [an.out];simp;omega))
  ·exact hA (.inr (Int.emod_eq_zero_of_dvd (by simpa using Int.natAbs_dvd.2 (Int.dvd_natAbs.2 h))))
def IsR (w:V) (v:J) (q:Rat):Prop:=
 ∃a m c s a2 m2 c2,v=X #[O a m c,Y s,O a2 m2 c2]∧IsZ w (X #[O a m c,Y s]) q.num∧IsD w (X #[O a2 m2 c2]) ((q.den:Int)-1)
section
variable {w w':V} {v:J} {q:Rat} {a a2:Option Addr} {m c m2 c2:Nat} {s:Bool}
theorem IsR.ext (h:IsR w v q) (k:Ext w w'):IsR w' v q:=by
 obtain⟨a,m,c,s,a2,m2,c2,rfl,d,e⟩:=h;exact⟨a,m,c,s,a2,m2,c2,rfl,d.ext k,e.ext k⟩
theorem IsR.keep (h:IsR w v q) (k:KeepT 2 w w'):IsR w' v q:=by
 obtain⟨a,m,c,s,a2,m2,c2,rfl,d,e⟩:=h;exact⟨a,m,c,s,a2,m2,c2,rfl,d.keep k,e.keep k⟩
theorem IsR.form (h:IsR w v q):∃a m c s a2 m2 c2,v=X #[O a m c,Y s,O a2 m2 c2]:=by
 obtain⟨a,m,c,s,a2,m2,c2,rfl,d,e⟩:=h;exact⟨a,m,c,s,a2,m2,c2,rfl⟩
theorem IsR.top (h:IsR w (X #[O a m c,Y s,O a2 m2 c2]) q):IsZ w (X #[O a m c,Y s]) q.num:=by
 obtain⟨a,m,c,s,a2,m2,c2,e,d,f⟩:=h;cases e;exact d
theorem IsR.rest (h:IsR w (X #[O a m c,Y s,O a2 m2 c2]) q):IsD w (X #[O a2 m2 c2]) ((q.den:Int)-1):=by
 obtain⟨a,m,c,s,a2,m2,c2,e,f,d⟩:=h;cases e;exact d
theorem IsR.mk (d:IsZ w (X #[O a m c,Y s]) q.num) (e:IsD w (X #[O a2 m2 c2]) ((q.den:Int)-1)):IsR w (X #[O a m c,Y s,O a2 m2 c2]) q:=
 ⟨_,_,_,_,_,_,_,rfl,d,e⟩
theorem IsD.nil (w:V):IsD w (X #[O Z 0 0]) 0:=⟨_,[],rfl,Ints.nil _ _,Can.nil _,rfl⟩
theorem IsR.zero (w:V):IsR w (X #[O Z 0 0,Y false,O Z 0 0]) 0:=IsR.mk (IsZ.nil w) (IsD.nil w)
end
def Rb (k:Nat) (q:Rat):Prop:=Lm k q.num∧Lm k (q.den:Int)
theorem Rb.mono {j k:Nat} {q:Rat} (h:Rb j q) (d:j≤k):Rb k q:=⟨h.1.mono d,h.2.mono d⟩
def RetR (w:V) (q:Rat) (e:Ending) (w':V):Prop:=∃r,e = .returned r∧IsR w' r q∧Ext w w'
def limR:Nat:=1000000
theorem den_pos (q:Rat):0<(q.den:Int):=by have:=q.den_pos;omega
theorem zeI {k:Nat} (d:1≤k):Lm k 1:=Lm.mono (j:=1) (by unfold Lm B;omega) d
theorem zbX (w:V) (v:J) (q:Rat) (h:IsR w v q):Calls Tryz.prog 93 #[v] w fun e w'=>e = .returned (.int .i64 q.num.sign)∧Ext w w':=by
 obtain⟨a,m,c,s,a2,m2,c2,rfl⟩:=h.form;go_enter Tryz.func93,Tryz.ntmps93
 go_wp2_with(((go_at_call 163;(with_reducible refine(zkY _ (X #[O a m c,Y s]) q.num ?_).mono ?_);(refine h.top.ext ?_;exact eA);rintro e j ⟨rfl,d⟩;obtain⟨⟨g,i⟩,f⟩:=cK1 w d)))
 go_ret;exact⟨rfl,eA⟩
theorem zed (w:V) (v:J) (q:Rat) (h:IsR w v q) (o:Rb limR q):Calls Tryz.prog 135 #[v] w (RetZd w (q.den:Int)):=by
 obtain⟨a,m,c,s,a2,m2,c2,rfl⟩:=h.form;have P:=den_pos q;have u:Hid (Lm lim ((q.den:Int)-1)):=hd9 ((o.2.mono dM).le oM oM);have t:Hid (Lm lim 1):=hd9 (zeI dM);have S:=h.rest;clear o h;go_enter Tryz.func135,Tryz.ntmps135;go_wp2
 go_region_held3 (fun W=>W.cell? ⟨w.heap.size,2,Z⟩=M (O a2 m2 c2)) ((repeat' (with_reducible refine And.intro ?_ ?_))<;>(first|(go_simp;done)|(refine hx1.cellS ?_;go_simp;done))) (first|((go_at_call 188;(with_reducible refine(zmM _ 1 dM dM).mono ?_);rintro e w1 ⟨r1,rfl,d,hx1,K⟩;obtain⟨x,T,z,rfl⟩:=d.isD.form;obtain⟨⟨j,Q⟩,p,g⟩:=cK2 w hx1))|((go_at_call 187;(with_reducible refine(zdn _ (X #[O a2 m2 c2]) (X #[O x T z]) ((q.den:Int)-1) 1 1 ?_ ?_ u.out t.out dM oM).mono ?_);(refine S.ext ?_;exact eA);(refine d.isD.ext ?_;exact eA);rintro e w2 ⟨r2,rfl,f,l,L⟩;obtain⟨y,m3,D,rfl⟩:=f.isD.form;obtain⟨⟨k,R⟩,r,i⟩:=cK2 w l)))
 all_goals go_wp2
 refine bR (v:=X #[O y m3 D,Y false]) (by simp [results,Tryz.results135,go_sem,j,k,g,i]) rfl ⟨_,rfl,IsZ.keep (w:=w2) ?_ kA,eA,dA⟩;refine⟨_,_,_,_,rfl,by simp,?_⟩;have e:(((q.den:Int).natAbs:Nat):Int)=(q.den:Int)-1+1*1:=oM
 rw [e];exact f.isD
theorem zaG (w:V) (v:J) (q:Rat) (h:IsR w v q) (d:Rb limR q):Calls Tryz.prog 135 #[v] w (RetZ w (q.den:Int)):=z_dr (zed w v q h d)
theorem zix (w:V) (v:J) (n:Int) (h:IsZ w v n):Calls Tryz.prog 200 #[v] w (RetR w (n:Rat)):=by
 obtain⟨a,m,c,s,rfl⟩:=h.form;go_enter Tryz.func200,Tryz.ntmps200;go_wp2;exact bR (v:=X #[O a m c,Y s,O Z 0 0]) (by simp [results,Tryz.results200,go_sem]) rfl ⟨_,rfl,IsR.mk (h.ext eA) (IsD.nil _),eA⟩
theorem znS (w:V) (n:Int) (u : -9223372036854775808≤n) (x:n≤9223372036854775807):Calls Tryz.prog 154 #[.int .i64 n] w (RetR w (n:Rat)):=by
 go_enter Tryz.func154,Tryz.ntmps154
 go_wp2_with(first|((go_at_call 137;(with_reducible refine(zfp _ n u x).mono ?_);rintro e S ⟨Q,rfl,d,k⟩;obtain⟨o,D,r,L,rfl⟩:=d.form;obtain⟨⟨i,y⟩,g⟩:=cK1 w k))|((go_at_call 200;(with_reducible refine(zix _ (X #[O o D r,Y L]) n d).mono ?_);rintro e T ⟨R,rfl,f,l⟩;obtain⟨a2,m2,c2,P,p,K,t,rfl⟩:=f.form;obtain⟨⟨j,z⟩,h⟩:=cK1 w l)))
 exact bR (v:=X #[O a2 m2 c2,Y P,O p K t]) (by simp [results,Tryz.results154,go_sem,i,j,g,h]) rfl ⟨_,rfl,f.keep kA,eA⟩
theorem zlV (w:V) (v:J) (q:Rat) (h:IsR w v q):Calls Tryz.prog 177 #[v] w (RetR w (-q)):=by
 obtain⟨a,m,c,s,a2,m2,c2,rfl⟩:=h.form;go_enter Tryz.func177,Tryz.ntmps177;go_wp2
 go_region_held3 (fun W=>W.cell? ⟨w.heap.size,0,Z⟩=M (O a m c)∧W.cell? ⟨w.heap.size,1,Z⟩=M (Y s)∧W.cell? ⟨w.heap.size,2,Z⟩=M (O a2 m2 c2)) ((repeat' (with_reducible refine And.intro ?_ ?_))<;>(first|(go_simp;done)|(refine hx1.cellS ?_;go_simp;done))) (((go_at_call 186;(with_reducible refine(zdy _ (X #[O a m c,Y s]) q.num ?_).mono ?_);(refine h.top.ext ?_;exact eA);rintro e t ⟨r,rfl,d,hx1⟩;obtain⟨j,o,k,p,rfl⟩:=d.form;obtain⟨⟨g,l⟩,i,f⟩:=cK2 w hx1)))
 all_goals go_wp2
 exact bR (v:=X #[O j o k,Y p,O a2 m2 c2]) (by simp [results,Tryz.results177,go_sem,g,f]) rfl ⟨_,rfl,IsR.keep (IsR.mk d (h.rest.ext eA)) kA,eA⟩
def rg (n d:Int):Int:=if d<0 then -(Int.gcd n d:Int)else (Int.gcd n d:Int)
theorem zhB {n d:Int} (g:d≠0):rg n d≠0∧rg n d ∣ n∧rg n d ∣ d∧n / rg n d=(Rat.divInt n d).num∧d / rg n d=((Rat.divInt n d).den:Int):=by
 have i:0<Int.gcd n d:=Int.gcd_pos_of_ne_zero_right n g;have f:(Int.gcd n d:Int) ∣ n:=Int.gcd_dvd_left ..;have e:(Int.gcd n d:Int) ∣ d:=Int.gcd_dvd_right ..;rw [Rat.num_divInt,Rat.den_divInt,if_neg g,Int.gcd_comm d n];unfold rg
 by_cases h:d<0
 ·rw [if_pos h]
  refine⟨by omega,Int.neg_dvd.2 f,Int.neg_dvd.2 e,?_,?_⟩
  ·rw [Int.sign_eq_neg_one_of_neg h,Int.ediv_neg,Int.neg_mul,Int.one_mul,Int.neg_ediv_of_dvd f]
  ·rw [Int.ediv_neg,Int.natCast_ediv,Int.ofNat_natAbs_of_nonpos oM,Int.neg_ediv_of_dvd e]
 ·rw [if_neg h]
  refine⟨by omega,f,e,?_,?_⟩
  ·rw [Int.sign_eq_one_of_pos oM,Int.one_mul]
  ·rw [Int.natCast_ediv,Int.natAbs_of_nonneg oM]
theorem zph {k:Nat} {n d:Int} (g:d≠0) (h:Lm k d):Lm k (rg n d):=by
 have e:(Int.gcd n d:Int)≤d.natAbs:=Int.le_of_dvd oM (Int.dvd_natAbs.2 (Int.gcd_dvd_right ..));have f:0≤(Int.gcd n d:Int):=Int.natCast_nonneg _;unfold rg Lm at *
 split<;>omega
theorem zfx {n d:Int} (e:d≠0) {k:Nat} (h:Lm k d):Lm k ((Rat.divInt n d).den:Int):=by
 have f:(Rat.divInt n d).den≤d.natAbs:=by
  rw [Rat.den_divInt,if_neg e];exact Nat.div_le_self _ _
 unfold Lm at *;omega
theorem zhr {n d:Int} (e:d≠0) {k:Nat} (h:Lm k n):Lm k (Rat.divInt n d).num:=by
 have f:(Rat.divInt n d).num.natAbs≤n.natAbs:=by
  rw [Rat.num_divInt,Int.natAbs_ediv_of_dvd]
  ·rw [Int.natAbs_mul]
   have:d.sign.natAbs=1:=by rw [Int.natAbs_sign];simp [e]
   rw [this,Nat.one_mul];exact Nat.div_le_self _ _
  ·exact Int.dvd_trans (Int.gcd_dvd_right ..) (Int.dvd_mul_left ..)
 unfold Lm at *;omega
end
section
open Go.RowKit Go.Shelf
def ZB (W:V) (b:Nat) (n:Int):Prop:=∃a m c s,W.heap[b]?=M (I #[O a m c,Y s] 61 (0,0))∧IsZ W (X #[O a m c,Y s]) n
section
variable {W W':V} {b b':Nat} {n n':Int}
theorem ZB.ext (h:ZB W b n) (k:Ext W W'):ZB W' b n:=by
 obtain⟨a,m,c,s,d,e⟩:=h;exact⟨a,m,c,s,k.heapS d,e.ext k⟩
theorem ZB.not (h:ZB W b n):NoT 2 W b:=by
 obtain⟨a,m,c,s,d,i⟩:=h;intro f g e;rw [d]at e;cases e
theorem ZB.rd (h:ZB W b n):∃a m c s,W.cell? ⟨b,0,Z⟩=M (O a m c)∧W.cell? ⟨b,1,Z⟩=M (Y s)∧W.frozen? ⟨b,0,Z⟩=false∧W.frozen? ⟨b,1,Z⟩=false∧b<W.heap.size∧IsZ W (X #[O a m c,Y s]) n:=by
 obtain⟨a,m,c,s,d,e⟩:=h;exact⟨a,m,c,s,qcB d (i:=0) rfl,qcB d (i:=1) rfl,qfB d 0,qfB d 1,zaa d,e⟩
theorem ZB.put {a:Option Addr} {m c:Nat} {s:Bool} (h:ZB W b n) (f:IsZ W (X #[O a m c,Y s]) n'):ZB ((W.setCell ⟨b,0,Z⟩ (O a m c)).setCell ⟨b,1,Z⟩ (Y s)) b n':=by
 have d:=h.not;obtain⟨g,k,i,l,e,j⟩:=h;exact⟨a,m,c,s,zal e _ _,f.keep (((KeepT.refl _ W).setN d _).setN (d.set _ _) _)⟩
theorem ZB.other {p:Addr} (h:ZB W b n) (g:p.block≠b) (i:NoT 2 W p.block) (u:J):ZB (W.setCell p u) b n:=by
 obtain⟨a,m,c,s,d,f⟩:=h;exact⟨a,m,c,s,(bS _ _ _ _ (fun e=>g e.symm)).trans d,f.keep ((KeepT.refl _ W).setN i _)⟩
theorem ZB.new {W0:V} {a:Option Addr} {m c:Nat} {s:Bool} (e:IsZ W0 (X #[O a m c,Y s]) n) (d:b=W0.heap.size):ZB (W0.alloc (I #[O a m c,Y s] 61)) b n:=
 ⟨a,m,c,s,qhA _ _ _ d,e.ext ((eR _).alloc _)⟩
end
def RtS (w:V) (e:Nat) (n d g:Int) (_:J) (W:V):Prop:=
 Ext w W∧ZB W w.heap.size n∧ZB W (w.heap.size+1) d∧W.heap[w.heap.size+1+1]?=M (I #[O Z 0 0,Y false,O Z 0 0] 63 (0,0))∧ZB W e g
theorem zec (w:V) (va vb:J) (n d:Int) (ha:IsZ w va n) (hb:IsZ w vb d) (y:Lm limA n) (h:Lm limA d) (hd:d≠0) :
  Calls Tryz.prog 178 #[va,vb] w (RetR w (Rat.divInt n d)):=by
 obtain⟨a,m,c,s,rfl⟩:=ha.form;obtain⟨a',m',c',s',rfl⟩:=hb.form;have R:=hd9 hb.sgn;obtain⟨T,ab,aa,ag,af⟩:=zhB (n:=n) hd;have ay:=hd9 y;have ax:=hd9 h;have P:=hd9 (zph (n:=n) hd h);have Q:Hid (Lm lim n):=hd9 (y.mono dM);have L:Hid (Lm lim d):=hd9 (h.mono dM);have aD:=hd9 ag;have aC:=hd9 af;have aB:=hd9 ab;have aA:=hd9 aa;have az:Hid (Lm lim ((Rat.divInt n d).den:Int)):=hd9 (zfx hd (h.mono dM));have H1:Hid (Lm lim 1):=hd9 (zeI dM);have bk:=den_pos (Rat.divInt n d);clear y h ag af ab aa;go_enter Tryz.func178,Tryz.ntmps178
 go_upto_if 10 with (((go_at_call 225;(with_reducible refine(zmf _ (X #[O a m c,Y s]) (X #[O a' m' c',Y s']) n d ?_ ?_ Q.out L.out).mono ?_);(refine ha.ext ?_;exact eA);(refine hb.ext ?_;exact eA);rintro e g ⟨r1,rfl,t,j⟩;obtain⟨a1,m1,c1,s1,rfl⟩:=t.form;obtain⟨⟨aE,aJ⟩,ak,al,am⟩:=cK3 w j;have o:w.heap.size<g.heap.size+1:=oM;have p:w.heap.size+1<g.heap.size+1:=oM;have r:w.heap.size+1+1<g.heap.size+1:=oM)))
 have x:RtS w g.heap.size n d (Int.gcd n d:Nat) (Y true) (g.alloc (I #[O a1 m1 c1,Y s1] 61)):=by
  refine⟨eA,?_,?_,?_,ZB.new t rfl⟩
  ·refine ZB.ext (W:=w.alloc (I #[O a m c,Y s] 61)) (ZB.new ha rfl) eA
  ·refine ZB.ext (W:=(w.alloc (I #[O a m c,Y s] 61)).alloc (I #[O a' m' c',Y s'] 61)) (ZB.new (hb.ext eA) sM) eA
  ·exact(j.thenB ((Below.refl _ _).alloc (nE _) _) j.size).heapS (by rw [zag];simp)
 go_cut [11] (RtS w g.heap.size n d (rg n d))
 case first =>
  cases s'
  ·have e:rg n d=(Int.gcd n d:Nat):=by have:=R.out;unfold rg;rw [if_neg (by simpa using this)]
   have E:=hd9 e;clear e;go_wp2;go_meet;rw [E.out];exact x
  ·have e:rg n d = -((Int.gcd n d:Nat):Int):=by have:=R.out;unfold rg;rw [if_pos (by simpa using this)]
   have E:=hd9 e;clear e
   go_wp2_with(((go_at_call 186;(with_reducible refine(zdy _ (X #[O a1 m1 c1,Y s1]) (Int.gcd n d:Nat) ?_).mono ?_);(refine t.ext ?_;exact eA);rintro e w2 ⟨r2,rfl,ah,f⟩;obtain⟨a2,m2,c2,s2,rfl⟩:=ah.form;obtain⟨⟨bj,bl⟩,aT,aU,aV⟩:=cK3 w f;have aR:=f.lt (n:=g.heap.size) (by go_simp))))
   go_meet;rw [E.out];obtain⟨i1,i2,i3,i4,i5⟩:=x;have hN:=(i5.ext f).not
   exact⟨eA,((i2.ext f).other dO hN _).other dO (hN.set _ _) _,((i3.ext f).other dO hN _).other dO (hN.set _ _) _,
    by rw [bS _ _ _ _ dO,bS _ _ _ _ dO];exact f.heapS i4,(i5.ext f).put ah⟩
 case rest =>
  have bx:¬g.heap.size=w.heap.size:=oM
  have bz:¬w.heap.size=g.heap.size:=oM
  have bA:¬g.heap.size=w.heap.size+1:=oM
  have bB:¬w.heap.size+1=g.heap.size:=oM
  clear x j aE aJ ak al am o p r t;obtain⟨hx,b1,b2,l,b4⟩:=hcut;have bq:=b1.not;have br:=b2.not;have bs:NoT 2 wc (w.heap.size+1+1):=fun cs fr e=>by rw [l]at e;cases e
  have aw:w.heap.size+1+1<wc.heap.size:=zaa l;have r0:=qcB l (i:=0) (u:=O Z 0 0) rfl;have r1:=qcB l (i:=1) (u:=Y false) rfl;have r2:=qcB l (i:=2) (u:=O Z 0 0) rfl;have bC:=qfB l 0;have bD:=qfB l 1;have bE:=qfB l 2;obtain⟨a3,m3,c3,s3,n0,n1,bv,bw,bb,aQ⟩:=b1.rd;obtain⟨a4,m4,c4,s4,d0,d1,bf,bg,bc,aP⟩:=b2.rd;obtain⟨a5,m5,c5,s5,g0,g1,bh,bi,be,aj⟩:=b4.rd;clear b1 b2 l b4
  go_wp2_with(first|((go_at_call 134;(with_reducible refine(zfq _ (X #[O a3 m3 c3,Y s3]) (X #[O a5 m5 c5,Y s5]) n (rg n d) ?_ ?_ ay.out P.out T (.inr aB.out)).mono ?_);(refine aQ.ext ?_;exact eA);(refine aj.ext ?_;exact eA);rintro e w3 ⟨vq,vr,rfl,ac,aK,k⟩;obtain⟨aq,mq,cq,sq,rfl⟩:=ac.form;obtain⟨ar,mr,cr,sr,rfl⟩:=aK.form;obtain⟨⟨aF,bm⟩,aW,aX,an⟩:=cK3 w k;have aS:=k.lt (n:=g.heap.size) (by go_simp)))|((go_at_call 134;(with_reducible refine(zfq _ (X #[O a4 m4 c4,Y s4]) (X #[O a5 m5 c5,Y s5]) d (rg n d) ?_ ?_ ax.out P.out T (.inr aA.out)).mono ?_);(refine(aP.ext k).keep kA);(refine(aj.ext k).keep kA);rintro e w4 ⟨vq,vr,rfl,ad,aL,K⟩;obtain⟨ap,mp,cp,sp,rfl⟩:=ad.form;obtain⟨ar,mr,cr,sr,rfl⟩:=aL.form;obtain⟨⟨aG,bn⟩,aY,aZ,ao⟩:=cK3 w K)))
  have z:=(ad.dig).keep (w':=(w4.setCell ⟨w.heap.size+1,0,Z⟩ (O ap mp cp)).setCell ⟨w.heap.size+1,1,Z⟩ (Y sp)) kA;have ae:=((ac.keep (w':=(w3.setCell ⟨w.heap.size,0,Z⟩ (O aq mq cq)).setCell ⟨w.heap.size,1,Z⟩ (Y sq)) kA).ext K).keep (w':=(w4.setCell ⟨w.heap.size+1,0,Z⟩ (O ap mp cp)).setCell ⟨w.heap.size+1,1,Z⟩ (Y sp)) kA;rw [aC.out]at z;rw [aD.out]at ae;have e5:(((Rat.divInt n d).den:Int).natAbs:Int)=((Rat.divInt n d).den:Int):=oM
  rw [e5]at z;clear e5
  go_region_held3 (fun W=>W.cell? ⟨w.heap.size,0,Z⟩=M (O aq mq cq)∧W.cell? ⟨w.heap.size,1,Z⟩=M (Y sq)∧W.cell? ⟨w.heap.size+1,0,Z⟩=M (O ap mp cp)) ((repeat' (with_reducible refine And.intro ?_ ?_))<;>(first|(go_simp;done)|(refine j.cellS ?_;go_simp;done))) (first|((go_at_call 188;(with_reducible refine(zcl _ 1 dM dM).mono ?_);rintro e w5 ⟨r5,rfl,ai,aM⟩;obtain⟨a6,m6,c6,rfl⟩:=ai.isD.form;obtain⟨⟨aH,bo⟩,a0,a8,au⟩:=cK3 w aM))|((go_at_call 187;(with_reducible refine(zcU _ (X #[O ap mp cp]) (X #[O a6 m6 c6]) ((Rat.divInt n d).den:Int) 1 (-1) ?_ ?_ az.out H1.out dM oM).mono ?_);(refine z.ext ?_;exact eA);(refine ai.isD.ext ?_;exact eA);rintro e w6 ⟨r6,rfl,D,aO⟩;obtain⟨a7,m7,c7,rfl⟩:=D.isD.form;obtain⟨⟨aI,bp⟩,a9,ba,av⟩:=cK3 w aO)))
  all_goals go_wp2
  have e7:((Rat.divInt n d).den:Int) + -1*1=((Rat.divInt n d).den:Int)-1:=oM
  rw [e7]at D;clear e7;have S:IsR w6 (X #[O aq mq cq,Y sq,O a7 m7 c7]) (Rat.divInt n d):=IsR.mk (ae.ext eA) D.isD;refine bR (v:=X #[O aq mq cq,Y sq,O a7 m7 c7]) (by simp [results,Tryz.results178,go_sem,aF,aG,aH,aI,aw,an,ao,au,av,r0,r1,r2]) rfl ⟨_,rfl,S.keep kA,?_⟩;have bt:Ext w w3:=hx.trans k;have bu:Ext w w4:=Ext.trans eA K;exact eA
theorem znE (w:V) (va vb:J) (n d:Int) (ha:IsZ w va n) (K:IsZ w vb d) (k:Lm limA n) (l:Lm limA d) :
  Calls Tryz.prog 145 #[va,vb] w fun e w'=>∃r,e = .returned (N #[r,.int .i64 (if d=0 then 9 else 0)])∧IsR w' r (Rat.divInt n d)∧Ext w w':=by
 obtain⟨a,m,c,s,rfl⟩:=ha.form;obtain⟨z,R,D,s',rfl⟩:=K.form;have y:=hd9 k;have x:=hd9 l;clear k l;have j:=K.dig
 by_cases i:d=0
 ·have hz:((d.natAbs:Int)==0)=true:=by simp [i]
  have S:=hd9 i;clear i;go_enter Tryz.func145,Tryz.ntmps145
  go_wp2_with(((go_at_call 166;(with_reducible refine(zaA _ (X #[O z R D]) d.natAbs ?_).mono ?_);(refine j.ext ?_;exact eA);rintro e w1 ⟨rfl,h⟩;obtain⟨⟨g,P⟩,p,t,f⟩:=cK3 w h)))
  refine bR (v:=N #[X #[O Z 0 0,Y false,O Z 0 0],.int .i64 9]) (by simp [results,Tryz.results145,go_sem,g,f]) rfl ⟨X #[O Z 0 0,Y false,O Z 0 0],by first|rfl|rw [if_pos S.out],?_,eA⟩
  first|exact IsR.zero _|(rw [S.out,Rat.divInt_zero];exact IsR.zero _)
 ·have hz:((d.natAbs:Int)==0)=false:=by simp;omega
  go_enter Tryz.func145,Tryz.ntmps145
  go_wp2_with(first|((go_at_call 166;(with_reducible refine(zaA _ (X #[O z R D]) d.natAbs ?_).mono ?_);(refine j.ext ?_;exact eA);rintro e w1 ⟨rfl,h⟩;obtain⟨⟨g,P⟩,p,t,f⟩:=cK3 w h))|((go_at_call 178;(with_reducible refine(zec _ (X #[O a m c,Y s]) (X #[O z R D,Y s']) n d ?_ ?_ y.out x.out i).mono ?_);(refine ha.ext ?_;exact eA);(refine K.ext ?_;exact eA);rintro e w2 ⟨r2,rfl,o,Q⟩;obtain⟨a2,m2,c2,s2,T,m3,c3,rfl⟩:=o.form;obtain⟨⟨L,ac⟩,aa,ab,u⟩:=cK3 w Q)))
  exact bR (v:=N #[X #[O a2 m2 c2,Y s2,O T m3 c3],.int .i64 0]) (by simp [results,Tryz.results145,go_sem,g,L,f,u]) rfl ⟨X #[O a2 m2 c2,Y s2,O T m3 c3],by first|rfl|rw [if_neg i],o.keep kA,eA⟩
end
end Go.Proofs.YtjnjpagegkcgfaaGreatDoor.Cop
