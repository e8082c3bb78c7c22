import Derived.Test.YtjnjpagegkcgfaaGreatDoorCoqA03
import Derived.Deep.LoopGhost
import Derived.Deep.CutBlock
import Derived.Deep.DeepCutAuto
import Derived.RangeFuncNested
import Derived.RangeFuncBound
import Derived.RangeFuncCalls
import Derived.RangeFuncLeaves
import Derived.Shelf.Abstract
import Derived.Shelf.RegionOpen
import Derived.TacticsInMore
import Derived.LoopNIn
import Derived.LoopIn
import Derived.Sort.LoopGhostIn
import Derived.Shelf.SlSortCmp.WholeK
import Derived.ProofKit
import Derived.Deep.Slices
set_option maxRecDepth 1000000
set_option maxHeartbeats 16000000
set_option linter.all false
open Go.Value renaming slice->O,bool->Z,int->M,agg->Oa,tuple->Oe
open Option renaming some->Y,none->X
open Go renaming World->I,Value->C,Addr->Oc
open Go.IntKind renaming i64->J
open Go.Obj renaming cells->Ob
namespace Go.Proofs.YtjnjpagegkcgfaaGreatDoor.Cop
section
open Go.RowKit Go.Shelf
def iL w va vb x y(u:Id w va x)(z:Id w vb y)(d:Lm Mc x)(f:Lm Mc y):Calls Tryz.prog 225 #[va,vb] w (uj w (Int.gcd x y:Nat)):=by
 obtain⟨a,m,c,s,rfl⟩:=u.form;obtain⟨a',m',c',s',rfl⟩:=z.form;have aa:=u.dig;have ab:=z.dig;have r:=ka d.abs;have t:=ka f.abs;clear d f u z;have e:(Int.gcd x y:Int)=(Int.gcd (x.natAbs:Int) (y.natAbs:Int):Nat):=by simp[Int.gcd]
 rw[e];clear e;go_in;go_wp2_with(first|((go_at_call 265;(with_reducible refine(TO _ (Oa #[O a m c]) (Oa #[O a' m' c']) x.natAbs y.natAbs ?_ ?_ r.o t.o).mono ?_);(refine aa.ext ?_;exact eA);(refine ab.ext ?_;exact eA);rintro e w1 ⟨r1,rfl,i,ac⟩;obtain⟨a1,m1,c1,rfl⟩:=i.form;obtain⟨⟨K,ai⟩,ae,af,l⟩:=Ub w ac))|((go_at_call 183;(with_reducible refine(Iu _ false (Oa #[O a1 m1 c1]) (Int.gcd (x.natAbs:Int) (y.natAbs:Int):Nat) ?_).mono ?_);(refine i.ext ?_;exact eA);rintro e w2 ⟨r2,rfl,j,ad⟩;obtain⟨a2,m2,c2,s2,rfl⟩:=j.form;obtain⟨⟨R,aj⟩,ag,ah,p⟩:=Ub w ad)));exact bR (v:=Oa #[O a2 m2 c2,Z s2]) (by simp[results,Tryz.results225,go_sem,K,R,l,p]) rfl ⟨_,rfl,j.keep kA,eA⟩
def Vm(w:I)(d:C)(e:Bool)(q r:Int)(W:I):Prop:=
 Aa w W/\W.heap[w.heap.size+1]?=Y (Ob #[d,Z e] 61 (0,0))/\
 ∃aq mq cq sq ar mr cr sr,W.heap[w.heap.size+1+1]?=Y (Ob #[O aq mq cq,Z sq] 61 (0,0))/\Id W (Oa #[O aq mq cq,Z sq]) q/\
  W.heap[w.heap.size+1+1+1]?=Y (Ob #[O ar mr cr,Z sr] 61 (0,0))/\Id W (Oa #[O ar mr cr,Z sr]) r
def PF(w:I)(d:C)(e:Bool)(x y:Int)(_:C)(W:I):Prop:=∃q,Vm w d e q (x%y) W/\(if e then -q else q)=x/y
def JI{x y} s t(l:s=decide (x<0))(z:t=decide (y<0))(K:y≠0)(h:s=false\/(x.natAbs:Int)%(y.natAbs:Int)=0):(if t then -(sg s ((x.natAbs:Int)/(y.natAbs:Int)))else sg s ((x.natAbs:Int)/(y.natAbs:Int)))=x/y/\(x.natAbs:Int)%(y.natAbs:Int)=x%y:=by
 have u:x%y=x%(y.natAbs:Int):=by
  rcases Int.natAbs_eq y with h|h
  ·rw[<-h]
  ·conv=>lhs;rw[h,Int.emod_neg]
 have e:s=false->(x.natAbs:Int)=x:=fun h=>by subst l;simp at h;omega
 have d:s=true->(x.natAbs:Int) = -x:=fun h=>by subst l;simp at h;omega
 have r:x/y=if t then -(x/(y.natAbs:Int))else x/(y.natAbs:Int):=by
  subst z;by_cases h:y<0
  ·simp only[h,decide_true,if_true];rw[show (y.natAbs:Int) = -y by omega,Int.ediv_neg,Int.neg_neg]
  ·simp only[h,decide_false,Bool.false_eq_true,if_false];rw[show (y.natAbs:Int)=y by omega]
 have f:(y.natAbs:Int)≠0:=oM;rw[r,u];cases s
 ·rw[e rfl];simp[sg]
 ·rw[d rfl]at h ⊢;have i:(-x)%(y.natAbs:Int)=0:=by rcases h with h|h;cases h;exact h
  have j:x%(y.natAbs:Int)=0:=by
   have:=Int.dvd_of_emod_eq_zero i;exact Int.emod_eq_zero_of_dvd (by simpa using Int.dvd_neg.2 this)
  refine⟨?_,by rw[i,j]⟩;have p:(-x)/(y.natAbs:Int) = -(x/(y.natAbs:Int)):=by
   apply Int.ediv_eq_of_eq_mul_left f;rw[Int.neg_mul,Int.ediv_mul_cancel (Int.dvd_of_emod_eq_zero j)]
  simp[sg,p]
def Qy(w:I)(q r:Int)(e:Ending)(w':I):Prop:=∃vq vr,e=.returned (Oe #[vq,vr,M J 0])/\Id w' vq q/\Id w' vr r/\Aa w w'
def Vm.ext{w d e q r W W'}(h:Vm w d e q r W)(k:Aa W W'):Vm w d e q r W':=by obtain⟨p,t,f,z,j,R,i,K,l,sr,u,x,y,h6⟩:=h;exact⟨p.trans k,k.e t,f,z,j,R,i,K,l,sr,k.e u,x.ext k,k.e y,h6.ext k⟩
def Xj{W:I}{g x y T d}(h:W.heap[g]?=Y (Ob #[x,y] T d)) u v:((W.setCell ⟨g,0,X⟩ u).setCell ⟨g,1,X⟩ v).heap[g]?=Y (Ob #[u,v] T d):=by simp[World.setCell,Array.getElem?_modify,h]
def Zn{W:I}{g i v}(h:W.cell? ⟨g,i,X⟩=Y v):W.setCell ⟨g,i,X⟩ v=W:=by
 have e:(W.setCell ⟨g,i,X⟩ v).heap=W.heap:=by
  apply Array.ext_getElem?;intro k;by_cases d:k=g
  ·subst d;simp only[World.setCell,Array.getElem?_modify,if_pos];unfold World.cell? at h;cases hw:W.heap[k]? with
   | none=>rfl
   | some o =>
    cases o with
    | cells cs T l =>
     simp[hw]at h;have:cs.setIfInBounds i v=cs:=by
      apply Array.ext_getElem?;intro j;rw[Array.getElem?_setIfInBounds];split
      ·subst_vars
       split
       ·exact h.symm
       ·rename_i h2;rw[Array.getElem?_eq_none oM]
      ·rfl
     simp[this]
    | _=>simp
  ·exact bS _ _ _ _ d
 have f:W.setCell ⟨g,i,X⟩ v={ W with heap:=(W.setCell ⟨g,i,X⟩ v).heap }:=rfl;rw[f,e]
def Ba{W:I}{g cs T d}(h:W.heap[g]?=Y (Ob cs T d)){i u}(e:cs[i]?=Y u):W.cell? ⟨g,i,X⟩=Y u:=by simp[World.cell?,h,e]
def Ya{W:I}{g cs T}(h:W.heap[g]?=Y (Ob cs T (0,0))) i:W.frozen? ⟨g,i,X⟩=false:=by simp[World.frozen?,h]
def Vm.setQ{w d t q p r W}(h:Vm w d t q r W){a m c s}(R:Id W (Oa #[O a m c,Z s]) p):Vm w d t p r ((W.setCell ⟨w.heap.size+1+1,0,X⟩ (O a m c)).setCell ⟨w.heap.size+1+1,1,X⟩ (Z s)):=by
 obtain⟨y,z,aq,mq,cq,sq,u,mr,x,sr,i,h4,K,h6⟩:=h;have f:∀k,k≠w.heap.size+1+1->((W.setCell ⟨w.heap.size+1+1,0,X⟩ (O a m c)).setCell ⟨w.heap.size+1+1,1,X⟩ (Z s)).heap[k]?=W.heap[k]?:=fun k f=>by rw[bS _ _ _ _ f,bS _ _ _ _ f]
 have l:td 2 W (w.heap.size+1+1):=fun cs fr e=>by rw[i]at e;cases e
 have j:Ia 2 W ((W.setCell ⟨w.heap.size+1+1,0,X⟩ (O a m c)).setCell ⟨w.heap.size+1+1,1,X⟩ (Z s)):=((Ia.refl _ W).x l _).x (l.set _ _) _;exact⟨(y.set dO _).set dO _,(f _ oM).trans z,a,m,c,s,u,mr,x,sr,Xj i _ _,R.keep j,(f _ oM).trans K,h6.keep j⟩
def Fw w va vb x y(ha:Id w va x)(hb:Id w vb y)(aw:Lm Fd x)(ax:Lm Fd y)(hy:y≠0)(aV:0<=x\/y ∣ x):Calls Tryz.prog 134 #[va,vb] w (Qy w (x/y) (x%y)):=by
 obtain⟨a,m,c,s,rfl⟩:=ha.form;obtain⟨a',m',c',K,rfl⟩:=hb.form;have ap:=ka ha.sgn;have aP:=ka hb.sgn;have aS:=ha.dig;have av:=hb.dig;have aM:=ka aw.abs;have aO:=ka ax.abs;have bD:((y.natAbs:Int)==0)=false:=by simp;omega
 have aW:0<(y.natAbs:Int):=oM;clear aw ax ha;go_in;go_wp2_with(first|((go_at_call 166;(with_reducible refine(Zj _ (Oa #[O a' m' c']) y.natAbs ?_).mono ?_);(refine av.ext ?_;exact eA);rintro e w1 ⟨rfl,aC⟩;obtain⟨⟨bs,bx⟩,a1,a6,a7,a8⟩:=Is w aC))|((go_at_call 182;(with_reducible refine(It _ (Oa #[O a m c]) (Oa #[O a' m' c']) x.natAbs y.natAbs ?_ ?_ aM.o aO.o aW).mono ?_);(refine aS.ext ?_;exact eA);(refine av.ext ?_;exact eA);rintro e w2 ⟨r2,r3,rfl,az,al,aU⟩;obtain⟨a2,m2,c2,rfl⟩:=az.u.form;obtain⟨a3,m3,c3,rfl⟩:=al.u.form;obtain⟨⟨bt,bz⟩,ba,bb,bc,be⟩:=Is w aU;have aE:w.heap.size<w2.heap.size+1:=oM;have aF:w.heap.size<w2.heap.size+1+1:=oM;have aG:w.heap.size+1<w2.heap.size+1:=oM;have aH:w.heap.size+1<w2.heap.size+1+1:=oM;have aI:w.heap.size+1+1<w2.heap.size+1:=oM;have aJ:w.heap.size+1+1<w2.heap.size+1+1:=oM;have aK:w.heap.size+1+1+1<w2.heap.size+1:=oM;have aL:w.heap.size+1+1+1<w2.heap.size+1+1:=oM)));go_region_held3 (fun W=>W.cell? ⟨w.heap.size,1,X⟩=Y (Z s)/\W.cell? ⟨w2.heap.size,0,X⟩=Y (O a2 m2 c2)/\W.cell? ⟨w2.heap.size+1,0,X⟩=Y (O a3 m3 c3)) ((repeat' (with_reducible refine And.intro ?_ ?_))<;>(first|(go_simp;done)|(refine aC.d ?_;go_simp;done))) (first|((go_at_call 183;(with_reducible refine(Iu _ s (Oa #[O a2 m2 c2]) ((x.natAbs:Int)/(y.natAbs:Int)) ?_).mono ?_);(refine az.u.ext ?_;exact eA);rintro e w3 ⟨r4,rfl,aA,am⟩;obtain⟨a4,m4,c4,s4,rfl⟩:=aA.form;obtain⟨⟨bu,bA⟩,bf,bg,bh,bi⟩:=Is w am;have aX:=am.lt (n:=w2.heap.size) (by go_simp);have aY:=am.lt (n:=w2.heap.size+1) (by go_simp)))|((go_at_call 183;(with_reducible refine(Iu _ false (Oa #[O a3 m3 c3]) ((x.natAbs:Int)%(y.natAbs:Int)) ?_).mono ?_);(refine al.u.ext ?_;exact eA);rintro e j ⟨r5,rfl,aB,an⟩;obtain⟨a5,m5,c5,s5,rfl⟩:=aB.form;obtain⟨⟨bv,bB⟩,bj,bk,bl,bm⟩:=Is w an;have aZ:=an.lt (n:=w2.heap.size) (by go_simp);have a0:=an.lt (n:=w2.heap.size+1) (by go_simp))));have au:=al.u.ext (w':=j) eA;have aa:Aa ((((w.alloc (Ob #[O a m c,Z s] 61)).alloc (Ob #[O a' m' c',Z K] 61)).alloc (Ob #[O X 0 0,Z false] 61)).alloc (Ob #[O X 0 0,Z false] 61)) j:=eA;have ay:Vm w (O a' m' c') K (sg s ((x.natAbs:Int)/(y.natAbs:Int))) ((x.natAbs:Int)%(y.natAbs:Int)) ((((j.setCell ⟨w.heap.size+1+1,0,X⟩ (O a4 m4 c4)).setCell ⟨w.heap.size+1+1,1,X⟩ (Z s4)).setCell ⟨w.heap.size+1+1+1,0,X⟩ (O a5 m5 c5)).setCell ⟨w.heap.size+1+1+1,1,X⟩ (Z s5)):=by
  have aa:Aa ((((w.alloc (Ob #[O a m c,Z s] 61)).alloc (Ob #[O a' m' c',Z K] 61)).alloc (Ob #[O X 0 0,Z false] 61)).alloc (Ob #[O X 0 0,Z false] 61)) j:=eA;have e1:j.heap[w.heap.size+1]?=Y (Ob #[O a' m' c',Z K] 61 (0,0)):=aa.e (by rw[Dg,Dg,Dg];simp);have e2:j.heap[w.heap.size+1+1]?=Y (Ob #[O X 0 0,Z false] 61 (0,0)):=aa.e (by rw[Dg,Dg];simp);have e3:j.heap[w.heap.size+1+1+1]?=Y (Ob #[O X 0 0,Z false] 61 (0,0)):=aa.e (by rw[Dg];simp);have k1:∀k,k≠w.heap.size+1+1->((j.setCell ⟨w.heap.size+1+1,0,X⟩ (O a4 m4 c4)).setCell ⟨w.heap.size+1+1,1,X⟩ (Z s4)).heap[k]?=j.heap[k]?:=fun k hk=>by rw[bS _ _ _ _ hk,bS _ _ _ _ hk]
  have k2:∀(W:I) k,k≠w.heap.size+1+1+1->((W.setCell ⟨w.heap.size+1+1+1,0,X⟩ (O a5 m5 c5)).setCell ⟨w.heap.size+1+1+1,1,X⟩ (Z s5)).heap[k]?=W.heap[k]?:=fun W k hk=>by rw[bS _ _ _ _ hk,bS _ _ _ _ hk]
  have n2:td 2 j (w.heap.size+1+1):=fun cs fr e=>by rw[e2]at e;cases e
  have n3:td 2 j (w.heap.size+1+1+1):=fun cs fr e=>by rw[e3]at e;cases e
  have hK:Ia 2 j ((((j.setCell ⟨w.heap.size+1+1,0,X⟩ (O a4 m4 c4)).setCell ⟨w.heap.size+1+1,1,X⟩ (Z s4)).setCell ⟨w.heap.size+1+1+1,0,X⟩ (O a5 m5 c5)).setCell ⟨w.heap.size+1+1+1,1,X⟩ (Z s5)):=
   ((((Ia.refl _ j).x n2 _).x (n2.set _ _) _).x ((n3.set _ _).set _ _) _).x (((n3.set _ _).set _ _).set _ _) _
  exact⟨eA,((k2 _ _ oM).trans (k1 _ oM)).trans e1,a4,m4,c4,s4,a5,m5,c5,s5,(k2 _ _ oM).trans (Xj e2 _ _),(aA.ext eA).keep hK,Xj ((k1 _ oM).trans e3) _ _,aB.keep hK⟩
 have aQ:Gd ((((j.setCell ⟨w.heap.size+1+1,0,X⟩ (O a4 m4 c4)).setCell ⟨w.heap.size+1+1,1,X⟩ (Z s4)).setCell ⟨w.heap.size+1+1+1,0,X⟩ (O a5 m5 c5)).setCell ⟨w.heap.size+1+1+1,1,X⟩ (Z s5)) (Oa #[O a3 m3 c3]) ((x.natAbs:Int)%(y.natAbs:Int)):=by
  refine au.keep ?_;have e2:j.heap[w.heap.size+1+1]?=Y (Ob #[O X 0 0,Z false] 61 (0,0)):=aa.e (by rw[Dg,Dg];simp);have e3:j.heap[w.heap.size+1+1+1]?=Y (Ob #[O X 0 0,Z false] 61 (0,0)):=aa.e (by rw[Dg];simp);have n2:td 2 j (w.heap.size+1+1):=fun cs fr e=>by rw[e2]at e;cases e
  have n3:td 2 j (w.heap.size+1+1+1):=fun cs fr e=>by rw[e3]at e;cases e
  exact((((Ia.refl _ j).x n2 _).x (n2.set _ _) _).x ((n3.set _ _).set _ _) _).x (((n3.set _ _).set _ _).set _ _) _
 have ao:=ka ay;clear ay;by_cases hA:s=false\/(x.natAbs:Int)%(y.natAbs:Int)=0
 ·have ak:=JI s K ap.o aP.o hy hA;have R:=ka ak;clear ak;cases s
  ·go_upto_if 34 with fail;go_cut [38] (PF w (O a' m' c') K x y)
   case first =>
    go_wp2;go_meet;exact⟨_,by rw[<-R.o.2];exact ao.o,R.o.1⟩
   case rest =>
    obtain⟨q,hS,hq⟩:=hcut;have HS:=ka hS;obtain⟨hx,l,aq,mq,cq,sq,ar,mr,cr,sr,d,h4,f,h6⟩:=hS;have b0:=Ba l (i:=0) (u:=O a' m' c') rfl;have b1:=Ba l (i:=1) (u:=Z K) rfl;have q0:=Ba d (i:=0) (u:=O aq mq cq) rfl;have q1:=Ba d (i:=1) (u:=Z sq) rfl;have r0:=Ba f (i:=0) (u:=O ar mr cr) rfl;have r1:=Ba f (i:=1) (u:=Z sr) rfl;have ac:=Ya d 0;have ad:=Ya d 1;have ae:=Ya f 0;have af:=Ya f 1;have ai:=Jb d;have aj:=Jb f;have ab:=ka l;clear d f l;go_upto_if 43 with fail;go_cut [44] (fun _ W=>Vm w (O a' m' c') K (x/y) (x%y) W)
    case first =>
     cases K
     ·go_wp2;go_meet;simp at hq;rw[<-hq];exact HS.o
     ·go_wp2_with(first|((go_at_call 186;(with_reducible refine(ku _ (Oa #[O aq mq cq,Z sq]) q ?_).mono ?_);(refine h4.ext ?_;exact eA);rintro e w9 ⟨r9,rfl,ag,ah⟩;obtain⟨a9,m9,c9,s9,rfl⟩:=ag.form;obtain⟨aR,aT⟩:=ah.cells)));go_meet;simp at hq;rw[<-hq];exact(HS.o.ext ah).setQ ag
    case rest =>
     clear hx h4 h6 b0 b1 q0 q1 r0 r1 ac ad ae af ai aj HS hq ab;obtain⟨wd,rfl⟩:∃W,W=wc:=⟨_,rfl⟩;have hS:=hcut;have HS:=ka hS;obtain⟨hx,l,aq,mq,cq,sq,ar,mr,cr,sr,d,h4,f,h6⟩:=hS;have b0:=Ba l (i:=0) (u:=O a' m' c') rfl;have b1:=Ba l (i:=1) (u:=Z K) rfl;have q0:=Ba d (i:=0) (u:=O aq mq cq) rfl;have q1:=Ba d (i:=1) (u:=Z sq) rfl;have r0:=Ba f (i:=0) (u:=O ar mr cr) rfl;have r1:=Ba f (i:=1) (u:=Z sr) rfl;have ac:=Ya d 0;have ad:=Ya d 1;have ae:=Ya f 0;have af:=Ya f 1;have ai:=Jb d;have aj:=Jb f;have ab:=ka l;clear d f l;have p:=Zn q0;have r:=Zn q1;have t:=Zn r0;have z:=Zn r1;go_wp2
     go_region_with (fail)
     all_goals go_wp2
     all_goals exact bR (v:=Oe #[Oa #[O aq mq cq,Z sq],Oa #[O ar mr cr,Z sr],M J 0]) (by simp[results,Tryz.results134,go_sem,q0,q1,r0,r1,p,r,t,z]) rfl ⟨_,_,rfl,by(try simp only[p,r,t,z]);exact h4.ext eA,by(try simp only[p,r,t,z]);exact h6.ext eA,by(try simp only[p,r,t,z]);(repeat(first|with_reducible assumption|with_reducible refine Aa.drew ?_))⟩
  ·have h0:(x.natAbs:Int)%(y.natAbs:Int)=0:=by simpa using hA
   have br:((x.natAbs:Int)%(y.natAbs:Int)==0)=true:=by simpa using h0
   have H0:=ka h0;clear h0 hA;go_upto_if 34 with (first|((go_at_call 166;(with_reducible refine(Zj _ (Oa #[O a3 m3 c3]) ((x.natAbs:Int)%(y.natAbs:Int)) ?_).mono ?_);(refine aQ.ext ?_;exact eA);rintro e w5 ⟨rfl,aD⟩;obtain⟨⟨bw,bC⟩,bn,bo,bp,bq⟩:=Is w aD)));go_cut [38] (PF w (O a' m' c') K x y)
   case first =>
    go_wp2;go_meet;exact⟨_,by rw[<-R.o.2];exact ao.o.ext aD,R.o.1⟩
   case rest =>
    obtain⟨q,hS,hq⟩:=hcut;have HS:=ka hS;obtain⟨hx,l,aq,mq,cq,sq,ar,mr,cr,sr,d,h4,f,h6⟩:=hS;have b0:=Ba l (i:=0) (u:=O a' m' c') rfl;have b1:=Ba l (i:=1) (u:=Z K) rfl;have q0:=Ba d (i:=0) (u:=O aq mq cq) rfl;have q1:=Ba d (i:=1) (u:=Z sq) rfl;have r0:=Ba f (i:=0) (u:=O ar mr cr) rfl;have r1:=Ba f (i:=1) (u:=Z sr) rfl;have ac:=Ya d 0;have ad:=Ya d 1;have ae:=Ya f 0;have af:=Ya f 1;have ai:=Jb d;have aj:=Jb f;have ab:=ka l;clear d f l;go_upto_if 43 with fail;go_cut [44] (fun _ W=>Vm w (O a' m' c') K (x/y) (x%y) W)
    case first =>
     cases K
     ·go_wp2;go_meet;simp at hq;rw[<-hq];exact HS.o
     ·go_wp2_with(first|((go_at_call 186;(with_reducible refine(ku _ (Oa #[O aq mq cq,Z sq]) q ?_).mono ?_);(refine h4.ext ?_;exact eA);rintro e w9 ⟨r9,rfl,ag,ah⟩;obtain⟨a9,m9,c9,s9,rfl⟩:=ag.form;obtain⟨aR,aT⟩:=ah.cells)));go_meet;simp at hq;rw[<-hq];exact(HS.o.ext ah).setQ ag
    case rest =>
     clear hx h4 h6 b0 b1 q0 q1 r0 r1 ac ad ae af ai aj HS hq ab;obtain⟨wd,rfl⟩:∃W,W=wc:=⟨_,rfl⟩;have hS:=hcut;have HS:=ka hS;obtain⟨hx,l,aq,mq,cq,sq,ar,mr,cr,sr,d,h4,f,h6⟩:=hS;have b0:=Ba l (i:=0) (u:=O a' m' c') rfl;have b1:=Ba l (i:=1) (u:=Z K) rfl;have q0:=Ba d (i:=0) (u:=O aq mq cq) rfl;have q1:=Ba d (i:=1) (u:=Z sq) rfl;have r0:=Ba f (i:=0) (u:=O ar mr cr) rfl;have r1:=Ba f (i:=1) (u:=Z sr) rfl;have ac:=Ya d 0;have ad:=Ya d 1;have ae:=Ya f 0;have af:=Ya f 1;have ai:=Jb d;have aj:=Jb f;have ab:=ka l;clear d f l;have p:=Zn q0;have r:=Zn q1;have t:=Zn r0;have z:=Zn r1;go_wp2
     go_region_with (fail)
     all_goals go_wp2
     all_goals exact bR (v:=Oe #[Oa #[O aq mq cq,Z sq],Oa #[O ar mr cr,Z sr],M J 0]) (by simp[results,Tryz.results134,go_sem,q0,q1,r0,r1,p,r,t,z]) rfl ⟨_,_,rfl,by(try simp only[p,r,t,z]);exact h4.ext eA,by(try simp only[p,r,t,z]);exact h6.ext eA,by(try simp only[p,r,t,z]);(repeat(first|with_reducible assumption|with_reducible refine Aa.drew ?_))⟩
 ·exfalso;rcases aV with h|h
  ·exact hA (.inl (by rw[ap.o];simp;omega))
  ·exact hA (.inr (Int.emod_eq_zero_of_dvd (by simpa using Int.natAbs_dvd.2 (Int.dvd_natAbs.2 h))))
def Sa(w:I)(v:C)(q:Rat):Prop:=
 ∃a m c s a2 m2 c2,v=Oa #[O a m c,Z s,O a2 m2 c2]/\Id w (Oa #[O a m c,Z s]) q.num/\Gd w (Oa #[O a2 m2 c2]) ((q.den:Int)-1)
section
variable {w w':I} {v:C} {q:Rat} {a a2:Option Oc} {m c m2 c2:Nat} {s:Bool}
def Sa.ext(h:Sa w v q)(k:Aa w w'):Sa w' v q:=by obtain⟨a,m,c,s,a2,m2,c2,rfl,d,e⟩:=h;exact⟨a,m,c,s,a2,m2,c2,rfl,d.ext k,e.ext k⟩
def Sa.keep(h:Sa w v q)(k:Ia 2 w w'):Sa w' v q:=by obtain⟨a,m,c,s,a2,m2,c2,rfl,d,e⟩:=h;exact⟨a,m,c,s,a2,m2,c2,rfl,d.keep k,e.keep k⟩
def Sa.form(h:Sa w v q):∃a m c s a2 m2 c2,v=Oa #[O a m c,Z s,O a2 m2 c2]:=by obtain⟨a,m,c,s,a2,m2,c2,rfl,d,e⟩:=h;exact⟨a,m,c,s,a2,m2,c2,rfl⟩
def Sa.top(h:Sa w (Oa #[O a m c,Z s,O a2 m2 c2]) q):Id w (Oa #[O a m c,Z s]) q.num:=by obtain⟨a,m,c,s,a2,m2,c2,e,d,f⟩:=h;cases e;exact d
def Sa.rest(h:Sa w (Oa #[O a m c,Z s,O a2 m2 c2]) q):Gd w (Oa #[O a2 m2 c2]) ((q.den:Int)-1):=by obtain⟨a,m,c,s,a2,m2,c2,e,f,d⟩:=h;cases e;exact d
def Sa.mk(d:Id w (Oa #[O a m c,Z s]) q.num)(e:Gd w (Oa #[O a2 m2 c2]) ((q.den:Int)-1)):Sa w (Oa #[O a m c,Z s,O a2 m2 c2]) q:=
 ⟨_,_,_,_,_,_,_,rfl,d,e⟩
def Gd.nil w:Gd w (Oa #[O X 0 0]) 0:=⟨_,[],rfl,Tc.nil _ _,xg.nil _,rfl⟩
def Sa.zero w:Sa w (Oa #[O X 0 0,Z false,O X 0 0]) 0:=Sa.mk (Id.nil w) (Gd.nil w)
end
def Rb(k:Nat)(q:Rat):Prop:=Lm k q.num/\Lm k (q.den:Int)
def Rb.mono{j k q}(h:Rb j q)(d:j<=k):Rb k q:=⟨h.1.mono d,h.2.mono d⟩
def Nd(w:I)(q:Rat)(e:Ending)(w':I):Prop:=∃r,e=.returned r/\Sa w' r q/\Aa w w'
def Vb:Nat:=1000000
def Zf(q:Rat):0<(q.den:Int):=by have:=q.den_pos;omega
def RE{k}(d:1<=k):Lm k 1:=Lm.mono (j:=1) (by unfold Lm B;omega) d
def Ur w v q(h:Sa w v q):Calls Tryz.prog 93 #[v] w fun e w'=>e=.returned (M J q.num.sign)/\Aa w w':=by obtain⟨a,m,c,s,a2,m2,c2,rfl⟩:=h.form;go_in;go_wp2_with(((go_at_call 163;(with_reducible refine(OA _ (Oa #[O a m c,Z s]) q.num ?_).mono ?_);(refine h.top.ext ?_;exact eA);rintro e l ⟨rfl,d⟩;obtain⟨⟨i,j⟩,f⟩:=oe w d)));go_ret;exact⟨rfl,eA⟩
def Tw w v q(h:Sa w v q)(t:Rb Vb q):Calls Tryz.prog 135 #[v] w (Qg w (q.den:Int)):=by
 obtain⟨a,m,c,s,a2,m2,c2,rfl⟩:=h.form;have ac:=Zf q;have z:Ta (Lm Mc ((q.den:Int)-1)):=ka ((t.2.mono dM).le oM oM);have y:Ta (Lm Mc 1):=ka (RE dM);have hr:=h.rest;clear t h;go_in;go_wp2;go_region_held3 (fun W=>W.cell? ⟨w.heap.size,2,X⟩=Y (O a2 m2 c2)) ((repeat' (with_reducible refine And.intro ?_ ?_))<;>(first|(go_simp;done)|(refine hx1.d ?_;go_simp;done))) (first|((go_at_call 188;(with_reducible refine(Iz _ 1 dM dM).mono ?_);rintro e w1 ⟨r1,rfl,d,hx1,aa⟩;obtain⟨K,m1,c1,rfl⟩:=d.u.form;obtain⟨⟨l,ad⟩,u,i⟩:=Yb w hx1))|((go_at_call 187;(with_reducible refine(kF _ (Oa #[O a2 m2 c2]) (Oa #[O K m1 c1]) ((q.den:Int)-1) 1 1 ?_ ?_ z.o y.o dM oM).mono ?_);(refine hr.ext ?_;exact eA);(refine d.u.ext ?_;exact eA);rintro e w2 ⟨r2,rfl,f,r,ab⟩;obtain⟨R,m3,c3,rfl⟩:=f.u.form;obtain⟨⟨p,ae⟩,x,j⟩:=Yb w r)))
 all_goals go_wp2
 refine bR (v:=Oa #[O R m3 c3,Z false]) (by simp[results,Tryz.results135,go_sem,l,p,i,j]) rfl ⟨_,rfl,Id.keep (w:=w2) ?_ kA,eA,dA⟩;refine⟨_,_,_,_,rfl,by simp,?_⟩;have e:(((q.den:Int).natAbs:Nat):Int)=(q.den:Int)-1+1*1:=oM;rw[e];exact f.u
def Wn w v q(h:Sa w v q)(d:Rb Vb q):Calls Tryz.prog 135 #[v] w (uj w (q.den:Int)):=Tl (Tw w v q h d)
def YO w v n(h:Id w v n):Calls Tryz.prog 200 #[v] w (Nd w (n:Rat)):=by obtain⟨a,m,c,s,rfl⟩:=h.form;go_in;go_wp2;exact bR (v:=Oa #[O a m c,Z s,O X 0 0]) (by simp[results,Tryz.results200,go_sem]) rfl ⟨_,rfl,Sa.mk (h.ext eA) (Gd.nil _),eA⟩
def qN w n(K:-9223372036854775808<=n)(R:n<=9223372036854775807):Calls Tryz.prog 154 #[M J n] w (Nd w (n:Rat)):=by go_in;go_wp2_with(first|((go_at_call 137;(with_reducible refine(Iw _ n K R).mono ?_);rintro e w1 ⟨r1,rfl,d,r⟩;obtain⟨u,m1,y,s1,rfl⟩:=d.form;obtain⟨⟨l,aa⟩,i⟩:=oe w r))|((go_at_call 200;(with_reducible refine(YO _ (Oa #[O u m1 y,Z s1]) n d).mono ?_);rintro e w2 ⟨r2,rfl,f,t⟩;obtain⟨a2,m2,c2,s2,x,m3,z,rfl⟩:=f.form;obtain⟨⟨p,ab⟩,j⟩:=oe w t)));exact bR (v:=Oa #[O a2 m2 c2,Z s2,O x m3 z]) (by simp[results,Tryz.results154,go_sem,l,p,i,j]) rfl ⟨_,rfl,f.keep kA,eA⟩
def RK w v q(h:Sa w v q):Calls Tryz.prog 177 #[v] w (Nd w (-q)):=by
 obtain⟨a,m,c,s,a2,m2,c2,rfl⟩:=h.form;go_in;go_wp2;go_region_held3 (fun W=>W.cell? ⟨w.heap.size,0,X⟩=Y (O a m c)/\W.cell? ⟨w.heap.size,1,X⟩=Y (Z s)/\W.cell? ⟨w.heap.size,2,X⟩=Y (O a2 m2 c2)) ((repeat' (with_reducible refine And.intro ?_ ?_))<;>(first|(go_simp;done)|(refine hx1.d ?_;go_simp;done))) (((go_at_call 186;(with_reducible refine(ku _ (Oa #[O a m c,Z s]) q.num ?_).mono ?_);(refine h.top.ext ?_;exact eA);rintro e y ⟨x,rfl,d,hx1⟩;obtain⟨l,t,p,u,rfl⟩:=d.form;obtain⟨⟨i,r⟩,j,f⟩:=Yb w hx1)))
 all_goals go_wp2
 exact bR (v:=Oa #[O l t p,Z u,O a2 m2 c2]) (by simp[results,Tryz.results177,go_sem,i,f]) rfl ⟨_,rfl,Sa.keep (Sa.mk d (h.rest.ext eA)) kA,eA⟩
def rg(n d:Int):Int:=if d<0 then -(Int.gcd n d:Int)else (Int.gcd n d:Int)
def jC{n d}(i:d≠0):rg n d≠0/\rg n d ∣ n/\rg n d ∣ d/\n/rg n d=(Rat.divInt n d).num/\d/rg n d=((Rat.divInt n d).den:Int):=by
 have j:0<Int.gcd n d:=Int.gcd_pos_of_ne_zero_right n i;have f:(Int.gcd n d:Int) ∣ n:=Int.gcd_dvd_left ..;have e:(Int.gcd n d:Int) ∣ d:=Int.gcd_dvd_right ..;rw[Rat.num_divInt,Rat.den_divInt,if_neg i,Int.gcd_comm d n];unfold rg;by_cases h:d<0
 ·rw[if_pos h];refine⟨by omega,Int.neg_dvd.2 f,Int.neg_dvd.2 e,?_,?_⟩
  ·rw[Int.sign_eq_neg_one_of_neg h,Int.ediv_neg,Int.neg_mul,Int.one_mul,Int.neg_ediv_of_dvd f]
  ·rw[Int.ediv_neg,Int.natCast_ediv,Int.ofNat_natAbs_of_nonpos oM,Int.neg_ediv_of_dvd e]
 ·rw[if_neg h];refine⟨by omega,f,e,?_,?_⟩
  ·rw[Int.sign_eq_one_of_pos oM,Int.one_mul]
  ·rw[Int.natCast_ediv,Int.natAbs_of_nonneg oM]
def jG{k n d}(i:d≠0)(h:Lm k d):Lm k (rg n d):=by
 have e:(Int.gcd n d:Int)<=d.natAbs:=Int.le_of_dvd oM (Int.dvd_natAbs.2 (Int.gcd_dvd_right ..));have f:0<=(Int.gcd n d:Int):=Int.natCast_nonneg _;unfold rg Lm at *
 split<;>omega
def ZP{n d}(e:d≠0){k}(h:Lm k d):Lm k ((Rat.divInt n d).den:Int):=by
 have f:(Rat.divInt n d).den<=d.natAbs:=by
  rw[Rat.den_divInt,if_neg e];exact Nat.div_le_self _ _
 unfold Lm at *;omega
def jD{n d}(e:d≠0){k}(h:Lm k n):Lm k (Rat.divInt n d).num:=by
 have f:(Rat.divInt n d).num.natAbs<=n.natAbs:=by
  rw[Rat.num_divInt,Int.natAbs_ediv_of_dvd]
  ·rw[Int.natAbs_mul];have:d.sign.natAbs=1:=by rw[Int.natAbs_sign];simp[e]
   rw[this,Nat.one_mul];exact Nat.div_le_self _ _
  ·exact Int.dvd_trans (Int.gcd_dvd_right ..) (Int.dvd_mul_left ..)
 unfold Lm at *;omega
def ZB(W:I)(b:Nat)(n:Int):Prop:=∃a m c s,W.heap[b]?=Y (Ob #[O a m c,Z s] 61 (0,0))/\Id W (Oa #[O a m c,Z s]) n
section
variable {W W':I} {b b':Nat} {n n':Int}
def ZB.ext(h:ZB W b n)(k:Aa W W'):ZB W' b n:=by obtain⟨a,m,c,s,d,e⟩:=h;exact⟨a,m,c,s,k.e d,e.ext k⟩
def ZB.not(h:ZB W b n):td 2 W b:=by obtain⟨a,m,c,s,d,i⟩:=h;intro cs f e;rw[d]at e;cases e
def ZB.rd(h:ZB W b n):∃a m c s,W.cell? ⟨b,0,X⟩=Y (O a m c)/\W.cell? ⟨b,1,X⟩=Y (Z s)/\W.frozen? ⟨b,0,X⟩=false/\W.frozen? ⟨b,1,X⟩=false/\b<W.heap.size/\Id W (Oa #[O a m c,Z s]) n:=by obtain⟨a,m,c,s,d,e⟩:=h;exact⟨a,m,c,s,Ba d (i:=0) rfl,Ba d (i:=1) rfl,Ya d 0,Ya d 1,Jb d,e⟩
def ZB.put{a m c s}(h:ZB W b n)(f:Id W (Oa #[O a m c,Z s]) n'):ZB ((W.setCell ⟨b,0,X⟩ (O a m c)).setCell ⟨b,1,X⟩ (Z s)) b n':=by have d:=h.not;obtain⟨i,p,j,r,e,l⟩:=h;exact⟨a,m,c,s,Xj e _ _,f.keep (((Ia.refl _ W).x d _).x (d.set _ _) _)⟩
def ZB.other{p}(h:ZB W b n)(i:p.block≠b)(j:td 2 W p.block) u:ZB (W.setCell p u) b n:=by obtain⟨a,m,c,s,d,f⟩:=h;exact⟨a,m,c,s,(bS _ _ _ _ (fun e=>i e.symm)).trans d,f.keep ((Ia.refl _ W).x j _)⟩
def ZB.new{W0 a m c s}(e:Id W0 (Oa #[O a m c,Z s]) n)(d:b=W0.heap.size):ZB (W0.alloc (Ob #[O a m c,Z s] 61)) b n:=
 ⟨a,m,c,s,Bc _ _ _ d,e.ext ((eR _).alloc _)⟩
end
def NF(w:I)(e:Nat)(n d g:Int)(_:C)(W:I):Prop:=
 Aa w W/\ZB W w.heap.size n/\ZB W (w.heap.size+1) d/\W.heap[w.heap.size+1+1]?=Y (Ob #[O X 0 0,Z false,O X 0 0] 63 (0,0))/\ZB W e g
def Uw w va vb n d(ha:Id w va n)(hb:Id w vb d)(aa:Lm Fd n)(l:Lm Fd d)(hd:d≠0):Calls Tryz.prog 178 #[va,vb] w (Nd w (Rat.divInt n d)):=by
 obtain⟨a,m,c,s,rfl⟩:=ha.form;obtain⟨a',m',c',s',rfl⟩:=hb.form;have ah:=ka hb.sgn;obtain⟨aj,al,ak,av,au⟩:=jC (n:=n) hd;have aI:=ka aa;have aH:=ka l;have af:=ka (jG (n:=n) hd l);have ag:Ta (Lm Mc n):=ka (aa.mono dM);have ae:Ta (Lm Mc d):=ka (l.mono dM);have aO:=ka av;have aM:=ka au;have aL:=ka al;have aK:=ka ak;have aJ:Ta (Lm Mc ((Rat.divInt n d).den:Int)):=ka (ZP hd (l.mono dM));have H1:Ta (Lm Mc 1):=ka (RE dM);have bu:=Zf (Rat.divInt n d);clear aa l av au al ak;go_in;go_upto_if 10 with (((go_at_call 225;(with_reducible refine(iL _ (Oa #[O a m c,Z s]) (Oa #[O a' m' c',Z s']) n d ?_ ?_ ag.o ae.o).mono ?_);(refine ha.ext ?_;exact eA);(refine hb.ext ?_;exact eA);rintro e j ⟨r1,rfl,K,p⟩;obtain⟨a1,m1,c1,s1,rfl⟩:=K.form;obtain⟨⟨aP,aU⟩,az,aA,aB⟩:=Ub w p;have x:w.heap.size<j.heap.size+1:=oM;have y:w.heap.size+1<j.heap.size+1:=oM;have z:w.heap.size+1+1<j.heap.size+1:=oM)));have R:NF w j.heap.size n d (Int.gcd n d:Nat) (Z true) (j.alloc (Ob #[O a1 m1 c1,Z s1] 61)):=by
  refine⟨eA,?_,?_,?_,ZB.new K rfl⟩
  ·refine ZB.ext (W:=w.alloc (Ob #[O a m c,Z s] 61)) (ZB.new ha rfl) eA
  ·refine ZB.ext (W:=(w.alloc (Ob #[O a m c,Z s] 61)).alloc (Ob #[O a' m' c',Z s'] 61)) (ZB.new (hb.ext eA) sM) eA
  ·exact(p.y ((Below.refl _ _).alloc (nE _) _) p.size).e (by rw[Dg];simp)
 go_cut [11] (NF w j.heap.size n d (rg n d))
 case first =>
  cases s'
  ·have e:rg n d=(Int.gcd n d:Nat):=by have:=ah.o;unfold rg;rw[if_neg (by simpa using this)]
   have E:=ka e;clear e;go_wp2;go_meet;rw[E.o];exact R
  ·have e:rg n d = -((Int.gcd n d:Nat):Int):=by have:=ah.o;unfold rg;rw[if_pos (by simpa using this)]
   have E:=ka e;clear e;go_wp2_with(((go_at_call 186;(with_reducible refine(ku _ (Oa #[O a1 m1 c1,Z s1]) (Int.gcd n d:Nat) ?_).mono ?_);(refine K.ext ?_;exact eA);rintro e w2 ⟨r2,rfl,aw,f⟩;obtain⟨a2,m2,c2,s2,rfl⟩:=aw.form;obtain⟨⟨bt,bv⟩,ba,bb,bc⟩:=Ub w f;have a8:=f.lt (n:=j.heap.size) (by go_simp))));go_meet;rw[E.o];obtain⟨i1,i2,i3,i4,i5⟩:=R;have hN:=(i5.ext f).not;exact⟨eA,((i2.ext f).other dO hN _).other dO (hN.set _ _) _,((i3.ext f).other dO hN _).other dO (hN.set _ _) _,
    by rw[bS _ _ _ _ dO,bS _ _ _ _ dO];exact f.e i4,(i5.ext f).put aw⟩
 case rest =>
  have bI:¬j.heap.size=w.heap.size:=oM;have bJ:¬w.heap.size=j.heap.size:=oM;have bK:¬j.heap.size=w.heap.size+1:=oM;have bL:¬w.heap.size+1=j.heap.size:=oM;clear R p aP aU az aA aB x y z K;obtain⟨hx,b1,b2,t,b4⟩:=hcut;have bB:=b1.not;have bC:=b2.not;have bD:td 2 wc (w.heap.size+1+1):=fun cs fr e=>by rw[t]at e;cases e
  have aG:w.heap.size+1+1<wc.heap.size:=Jb t;have r0:=Ba t (i:=0) (u:=O X 0 0) rfl;have r1:=Ba t (i:=1) (u:=Z false) rfl;have r2:=Ba t (i:=2) (u:=O X 0 0) rfl;have bM:=Ya t 0;have bN:=Ya t 1;have bO:=Ya t 2;obtain⟨a3,m3,c3,s3,n0,n1,bG,bH,bm,a0⟩:=b1.rd;obtain⟨a4,m4,c4,s4,d0,d1,bp,bq,bn,aZ⟩:=b2.rd;obtain⟨a5,m5,c5,s5,g0,g1,br,bs,bo,ay⟩:=b4.rd;clear b1 b2 t b4;go_wp2_with(first|((go_at_call 134;(with_reducible refine(Fw _ (Oa #[O a3 m3 c3,Z s3]) (Oa #[O a5 m5 c5,Z s5]) n (rg n d) ?_ ?_ aI.o af.o aj (.inr aL.o)).mono ?_);(refine a0.ext ?_;exact eA);(refine ay.ext ?_;exact eA);rintro e w3 ⟨vq,vr,rfl,am,aV,r⟩;obtain⟨aq,mq,cq,sq,rfl⟩:=am.form;obtain⟨ar,mr,cr,sr,rfl⟩:=aV.form;obtain⟨⟨aQ,bw⟩,be,bf,aC⟩:=Ub w r;have a9:=r.lt (n:=j.heap.size) (by go_simp)))|((go_at_call 134;(with_reducible refine(Fw _ (Oa #[O a4 m4 c4,Z s4]) (Oa #[O a5 m5 c5,Z s5]) d (rg n d) ?_ ?_ aH.o af.o aj (.inr aK.o)).mono ?_);(refine(aZ.ext r).keep kA);(refine(ay.ext r).keep kA);rintro e w4 ⟨vq,vr,rfl,an,aW,ad⟩;obtain⟨ap,mp,cp,sp,rfl⟩:=an.form;obtain⟨ar,mr,cr,sr,rfl⟩:=aW.form;obtain⟨⟨aR,bx⟩,bg,bh,aD⟩:=Ub w ad)));have ab:=(an.dig).keep (w':=(w4.setCell ⟨w.heap.size+1,0,X⟩ (O ap mp cp)).setCell ⟨w.heap.size+1,1,X⟩ (Z sp)) kA;have ao:=((am.keep (w':=(w3.setCell ⟨w.heap.size,0,X⟩ (O aq mq cq)).setCell ⟨w.heap.size,1,X⟩ (Z sq)) kA).ext ad).keep (w':=(w4.setCell ⟨w.heap.size+1,0,X⟩ (O ap mp cp)).setCell ⟨w.heap.size+1,1,X⟩ (Z sp)) kA;rw[aM.o]at ab;rw[aO.o]at ao;have e5:(((Rat.divInt n d).den:Int).natAbs:Int)=((Rat.divInt n d).den:Int):=oM;rw[e5]at ab;clear e5;go_region_held3 (fun W=>W.cell? ⟨w.heap.size,0,X⟩=Y (O aq mq cq)/\W.cell? ⟨w.heap.size,1,X⟩=Y (Z sq)/\W.cell? ⟨w.heap.size+1,0,X⟩=Y (O ap mp cp)) ((repeat' (with_reducible refine And.intro ?_ ?_))<;>(first|(go_simp;done)|(refine p.d ?_;go_simp;done))) (first|((go_at_call 188;(with_reducible refine(Zp _ 1 dM dM).mono ?_);rintro e w5 ⟨r5,rfl,ax,aX⟩;obtain⟨a6,m6,c6,rfl⟩:=ax.u.form;obtain⟨⟨aS,bz⟩,bi,bj,aE⟩:=Ub w aX))|((go_at_call 187;(with_reducible refine(Br _ (Oa #[O ap mp cp]) (Oa #[O a6 m6 c6]) ((Rat.divInt n d).den:Int) 1 (-1) ?_ ?_ aJ.o H1.o dM oM).mono ?_);(refine ab.ext ?_;exact eA);(refine ax.u.ext ?_;exact eA);rintro e w6 ⟨r6,rfl,ac,aY⟩;obtain⟨a7,m7,c7,rfl⟩:=ac.u.form;obtain⟨⟨aT,bA⟩,bk,bl,aF⟩:=Ub w aY)))
  all_goals go_wp2
  have e7:((Rat.divInt n d).den:Int) + -1*1=((Rat.divInt n d).den:Int)-1:=oM;rw[e7]at ac;clear e7;have ai:Sa w6 (Oa #[O aq mq cq,Z sq,O a7 m7 c7]) (Rat.divInt n d):=Sa.mk (ao.ext eA) ac.u;refine bR (v:=Oa #[O aq mq cq,Z sq,O a7 m7 c7]) (by simp[results,Tryz.results178,go_sem,aQ,aR,aS,aT,aG,aC,aD,aE,aF,r0,r1,r2]) rfl ⟨_,rfl,ai.keep kA,?_⟩;have bE:Aa w w3:=hx.trans r;have bF:Aa w w4:=Aa.trans eA ad;exact eA
def JH w va vb n d(ha:Id w va n)(hb:Id w vb d)(t:Lm Fd n)(u:Lm Fd d):Calls Tryz.prog 145 #[va,vb] w fun e w'=>∃r,e=.returned (Oe #[r,M J (if d=0 then 9 else 0)])/\Sa w' r (Rat.divInt n d)/\Aa w w':=by
 obtain⟨a,m,c,s,rfl⟩:=ha.form;obtain⟨a',m',c',s',rfl⟩:=hb.form;have aa:=ka t;have R:=ka u;clear t u;have p:=hb.dig;by_cases l:d=0
 ·have hz:((d.natAbs:Int)==0)=true:=by simp[l]
  have Hd:=ka l;clear l;go_in;go_wp2_with(((go_at_call 166;(with_reducible refine(Zj _ (Oa #[O a' m' c']) d.natAbs ?_).mono ?_);(refine p.ext ?_;exact eA);rintro e w1 ⟨rfl,j⟩;obtain⟨⟨i,ac⟩,y,z,f⟩:=Ub w j)));refine bR (v:=Oe #[Oa #[O X 0 0,Z false,O X 0 0],M J 9]) (by simp[results,Tryz.results145,go_sem,i,f]) rfl ⟨Oa #[O X 0 0,Z false,O X 0 0],by first|rfl|rw[if_pos Hd.o],?_,eA⟩
  first|exact Sa.zero _|(rw[Hd.o,Rat.divInt_zero];exact Sa.zero _)
 ·have hz:((d.natAbs:Int)==0)=false:=by simp;omega
  go_in;go_wp2_with(first|((go_at_call 166;(with_reducible refine(Zj _ (Oa #[O a' m' c']) d.natAbs ?_).mono ?_);(refine p.ext ?_;exact eA);rintro e w1 ⟨rfl,j⟩;obtain⟨⟨i,ac⟩,y,z,f⟩:=Ub w j))|((go_at_call 178;(with_reducible refine(Uw _ (Oa #[O a m c,Z s]) (Oa #[O a' m' c',Z s']) n d ?_ ?_ aa.o R.o l).mono ?_);(refine ha.ext ?_;exact eA);(refine hb.ext ?_;exact eA);rintro e w2 ⟨r2,rfl,x,ad⟩;obtain⟨a2,m2,c2,s2,a3,m3,c3,rfl⟩:=x.form;obtain⟨⟨ab,ag⟩,ae,af,K⟩:=Ub w ad)));exact bR (v:=Oe #[Oa #[O a2 m2 c2,Z s2,O a3 m3 c3],M J 0]) (by simp[results,Tryz.results145,go_sem,i,ab,f,K]) rfl ⟨Oa #[O a2 m2 c2,Z s2,O a3 m3 c3],by first|rfl|rw[if_neg l],x.keep kA,eA⟩
def Aa.t{a b}(h:Aa a b){n}{G:Prop}(d:n<a.heap.size)(k:n<b.heap.size->G):G:=k (h.lt d)
def Lm.mul{j k x y}(h:Lm j x)(l:Lm k y):Lm (j+k) (x*y):=by
 have e:B ^ (j+k)=B ^ j*B ^ k:=by rw[Int.pow_add]
 have r:=jj Pn j;have i:=jj Pn k;unfold Lm at *;have d:(x.natAbs:Int)<B ^ j:=oM;have f:(y.natAbs:Int)<B ^ k:=oM;have p:((x*y).natAbs:Int)<B ^ (j+k):=by
  rw[Int.natAbs_mul,e,Int.natCast_mul];exact Int.lt_of_le_of_lt (Int.mul_le_mul_of_nonneg_left (Int.le_of_lt f) oM) (Int.mul_lt_mul_of_pos_right d i)
 omega
def Lm.add{k x y}(h:Lm k x)(d:Lm k y):Lm (k+1) (x+y):=by
 have e:B ^ (k+1)=B ^ k*16777216:=by rw[Int.pow_succ];rfl
 unfold Lm at *;rw[e];omega
def Qx p q:Rat.divInt (p.num*q.den+q.num*p.den) ((p.den:Int)*q.den)=p+q:=by rw[Rat.add_def',<-Rat.divInt_ofNat,Int.natCast_mul]
def Px p q:Rat.divInt (p.num*q.num) ((p.den:Int)*q.den)=p*q:=by rw[Rat.mul_def',<-Rat.divInt_ofNat,Int.natCast_mul]
def Wp p q:Rat.divInt (p.num*q.den) ((p.den:Int)*q.num)=p/q:=by rw[Rat.div_def,Rat.inv_def,<-Rat.divInt_mul_divInt,Rat.num_divInt_den]
def iE(p q:Rat):(p.den:Int)*q.den≠0:=by have:=Int.mul_pos (Zf p) (Zf q);omega
def Rb.add{k p q}(h:Rb k p)(d:Rb k q):Rb (2*k+1) (p+q):=by rw[<-Qx];refine⟨jD (iE p q) ?_,ZP (iE p q) ((Lm.mul h.2 d.2).mono oM)⟩;rw[show 2*k+1=(k+k)+1 by omega];exact(h.1.mul d.2).add (d.1.mul h.2)
def Rb.mul{j k p q}(h:Rb j p)(d:Rb k q):Rb (j+k) (p*q):=by rw[<-Px];exact⟨jD (iE p q) (h.1.mul d.1),ZP (iE p q) (h.2.mul d.2)⟩
def Rb.neg{k p}(h:Rb k p):Rb k (-p):=⟨h.1.neg,h.2⟩
def Rb.sub{k p q}(h:Rb k p)(d:Rb k q):Rb (2*k+1) (p-q):=by rw[Rat.sub_eq_add_neg];exact h.add d.neg
def Rb.int{k n}(h:Lm k n)(d:1<=k):Rb k (n:Rat):=⟨h,RE d⟩
def Rb.div{j k p q}(h:Rb j p)(d:Rb k q)(l:1<=j+k):Rb (j+k) (p/q):=by
 by_cases i:q=0
 ·subst i;have:p/0=((0:Int):Rat):=by rw[Rat.div_def,Rat.inv_zero,Rat.mul_zero];rfl
  rw[this];exact Rb.int (by have:=jj Pn (j+k);unfold Lm;omega) l
 ·have r:q.num≠0:=fun e=>i (by rw[<-Rat.num_divInt_den q,e];simp);have f:(p.den:Int)*q.num≠0:=Int.mul_ne_zero (by have:=Zf p;omega) r;rw[<-Wp];exact⟨jD f (h.1.mul d.2),ZP f (h.2.mul d.1)⟩
def yb(p q:Rat):Int:=(p.num*q.den-q.num*p.den).sign
def Kr p q:yb p q<0 ↔ p<q:=by unfold yb;rw[Rat.lt_iff,Int.sign_neg_iff];omega
def Ox p q:0<yb p q ↔ q<p:=by unfold yb;rw[Rat.lt_iff,Int.sign_pos_iff];omega
def Pz w va vb p q(ha:Sa w va p)(hb:Sa w vb q)(d:Rb Vb p)(f:Rb Vb q):Calls Tryz.prog 75 #[va,vb] w fun e w'=>e=.returned (M J (yb p q))/\Aa w w'/\Dr w w':=by
 obtain⟨a,m,c,s,a2,m2,c2,rfl⟩:=ha.form;obtain⟨a',m',c',s',l,z,r,rfl⟩:=hb.form;have K:=ka d;have R:=ka f;have ag:=ha.top;have ah:=hb.top;have aa:Ta (Lm Mc p.num):=ka (d.1.mono dM);have ab:Ta (Lm Mc q.num):=ka (f.1.mono dM);have ac:Ta (Lm Mc (p.den:Int)):=ka (d.2.mono dM);have ad:Ta (Lm Mc (q.den:Int)):=ka (f.2.mono dM);have ae:Ta (Lm Fd (p.num*q.den)):=ka ((d.1.mul f.2).mono dM);have af:Ta (Lm Fd (q.num*p.den)):=ka ((f.1.mul d.2).mono dM);have ay:Ta (Lm Fd (p.num*q.num)):=ka ((d.1.mul f.1).mono dM);have az:Ta (Lm Fd ((p.den:Int)*q.den)):=ka ((d.2.mul f.2).mono dM);have aA:Ta (Lm Fd ((p.den:Int)*q.num)):=ka ((d.2.mul f.1).mono dM);have i:Ta (Lm Mc (p.num*q.den)):=ka (ae.o.mono dM);have j:Ta (Lm Mc (q.num*p.den)):=ka (af.o.mono dM);clear d f;go_in;go_wp2;go_region_held3 (fun W=>W.cell? ⟨w.heap.size,0,X⟩=Y (O a m c)/\W.cell? ⟨w.heap.size,1,X⟩=Y (Z s)/\W.cell? ⟨w.heap.size,2,X⟩=Y (O a2 m2 c2)/\W.cell? ⟨w.heap.size+1,0,X⟩=Y (O a' m' c')/\W.cell? ⟨w.heap.size+1,1,X⟩=Y (Z s')/\W.cell? ⟨w.heap.size+1,2,X⟩=Y (O l z r)) ((repeat' (with_reducible refine And.intro ?_ ?_))<;>(first|(go_simp;done)|(refine hx1.d ?_;go_simp;done))) (first|((go_at_call 135;(with_reducible refine(Tw _ (Oa #[O a' m' c',Z s',O l z r]) q ?_ R.o).mono ?_);(refine hb.ext ?_;exact eA);rintro e w1 ⟨r1,rfl,t,hx1,aG⟩;obtain⟨b1,n1,k1,t1,rfl⟩:=t.form;obtain⟨⟨aB,aL⟩,am,an⟩:=Yb w hx1))|((go_at_call 135;(with_reducible refine(Tw _ (Oa #[O a m c,Z s,O a2 m2 c2]) p ?_ K.o).mono ?_);(refine ha.ext ?_;exact eA);rintro e w3 ⟨r3,rfl,x,aj,aI⟩;obtain⟨b3,n3,k3,t3,rfl⟩:=x.form;obtain⟨⟨aD,aO⟩,aq,ar⟩:=Yb w aj))|((go_at_call 147;(with_reducible refine(XL _ (Oa #[O a m c,Z s]) (Oa #[O b1 n1 k1,Z t1]) p.num (q.den:Int) ?_ ?_ aa.o ad.o).mono ?_);(refine ag.ext ?_;exact eA);(refine t.ext ?_;exact eA);rintro e w2 ⟨r2,rfl,u,ai,aH⟩;obtain⟨b2,n2,k2,t2,rfl⟩:=u.form;obtain⟨⟨aC,aM⟩,ao,ap⟩:=Yb w ai))|((go_at_call 147;(with_reducible refine(XL _ (Oa #[O a' m' c',Z s']) (Oa #[O b3 n3 k3,Z t3]) q.num (p.den:Int) ?_ ?_ ab.o ac.o).mono ?_);(refine ah.ext ?_;exact eA);(refine x.ext ?_;exact eA);rintro e w4 ⟨r4,rfl,y,ak,aJ⟩;obtain⟨b4,n4,k4,t4,rfl⟩:=y.form;obtain⟨⟨aE,aP⟩,au,av⟩:=Yb w ak))|((go_at_call 136;(with_reducible refine(Ez _ (Oa #[O b2 n2 k2,Z t2]) (Oa #[O b4 n4 k4,Z t4]) (p.num*q.den) (q.num*p.den) ?_ ?_ i.o j.o).mono ?_);(refine u.ext ?_;exact eA);(refine y.ext ?_;exact eA);rintro e w5 ⟨rfl,al,aK⟩;obtain⟨⟨aF,aQ⟩,aw,ax⟩:=Yb w al)))
 all_goals go_wp2
 go_ret;exact⟨rfl,eA,dA⟩
def Yj w i j p q(l:Sa w i p)(r:Sa w j q)(d:Rb Vb p)(f:Rb Vb q):Calls Tryz.prog 75 #[i,j] w fun e w'=>e=.returned (M J (yb p q))/\Aa w w':=Gn (Pz w i j p q l r d f)
def iC w va vb p q(ha:Sa w va p)(hb:Sa w vb q)(d:Rb Vb p)(f:Rb Vb q):Calls Tryz.prog 156 #[va,vb] w (Nd w (p*q)):=by
 obtain⟨a,m,c,s,a2,m2,c2,rfl⟩:=ha.form;obtain⟨a',m',c',s',i,y,j,rfl⟩:=hb.form;have ab:=ka d;have ac:=ka f;have aq:=ha.top;have ar:=hb.top;have ad:Ta (Lm Mc p.num):=ka (d.1.mono dM);have ae:Ta (Lm Mc q.num):=ka (f.1.mono dM);have af:Ta (Lm Mc (p.den:Int)):=ka (d.2.mono dM);have ag:Ta (Lm Mc (q.den:Int)):=ka (f.2.mono dM);have ah:Ta (Lm Fd (p.num*q.den)):=ka ((d.1.mul f.2).mono dM);have ai:Ta (Lm Fd (q.num*p.den)):=ka ((f.1.mul d.2).mono dM);have aj:Ta (Lm Fd (p.num*q.num)):=ka ((d.1.mul f.1).mono dM);have ak:Ta (Lm Fd ((p.den:Int)*q.den)):=ka ((d.2.mul f.2).mono dM);have aL:Ta (Lm Fd ((p.den:Int)*q.num)):=ka ((d.2.mul f.1).mono dM);have ay:Ta (Lm Mc (p.num*q.den)):=ka (ah.o.mono dM);have az:Ta (Lm Mc (q.num*p.den)):=ka (ai.o.mono dM);clear d f;go_in;go_wp2;go_region_held3 (fun W=>W.cell? ⟨w.heap.size,0,X⟩=Y (O a m c)/\W.cell? ⟨w.heap.size,1,X⟩=Y (Z s)/\W.cell? ⟨w.heap.size,2,X⟩=Y (O a2 m2 c2)/\W.cell? ⟨w.heap.size+1,0,X⟩=Y (O a' m' c')/\W.cell? ⟨w.heap.size+1,1,X⟩=Y (Z s')/\W.cell? ⟨w.heap.size+1,2,X⟩=Y (O i y j)) ((repeat' (with_reducible refine And.intro ?_ ?_))<;>(first|(go_simp;done)|(refine hx1.d ?_;go_simp;done))) (first|((go_at_call 147;(with_reducible refine(Qo _ (Oa #[O a m c,Z s]) (Oa #[O a' m' c',Z s']) p.num q.num ?_ ?_ ad.o ae.o).mono ?_);(refine aq.ext ?_;exact eA);(refine ar.ext ?_;exact eA);rintro e w1 ⟨r1,rfl,l,hx1⟩;obtain⟨b1,n1,k1,t1,rfl⟩:=l.form;obtain⟨⟨al,aM⟩,aA,aB,z⟩:=Ub w hx1))|((go_at_call 135;(with_reducible refine(Wn _ (Oa #[O a m c,Z s,O a2 m2 c2]) p ?_ ab.o).mono ?_);(refine ha.ext ?_;exact eA);rintro e w2 ⟨r2,rfl,r,au⟩;obtain⟨b2,n2,k2,t2,rfl⟩:=r.form;obtain⟨⟨am,aO⟩,aC,aD,K⟩:=Ub w au))|((go_at_call 135;(with_reducible refine(Wn _ (Oa #[O a' m' c',Z s',O i y j]) q ?_ ac.o).mono ?_);(refine hb.ext ?_;exact eA);rintro e w3 ⟨r3,rfl,t,av⟩;obtain⟨b3,n3,k3,t3,rfl⟩:=t.form;obtain⟨⟨an,aP⟩,aE,aF,R⟩:=Ub w av))|((go_at_call 147;(with_reducible refine(Qo _ (Oa #[O b2 n2 k2,Z t2]) (Oa #[O b3 n3 k3,Z t3]) (p.den:Int) (q.den:Int) ?_ ?_ af.o ag.o).mono ?_);(refine r.ext ?_;exact eA);(refine t.ext ?_;exact eA);rintro e w4 ⟨r4,rfl,u,aw⟩;obtain⟨b4,n4,k4,t4,rfl⟩:=u.form;obtain⟨⟨ao,aQ⟩,aG,aH,aa⟩:=Ub w aw))|((go_at_call 178;(with_reducible refine(Uw _ (Oa #[O b1 n1 k1,Z t1]) (Oa #[O b4 n4 k4,Z t4]) (p.num*q.num) ((p.den:Int)*q.den) ?_ ?_ aj.o ak.o (iE p q)).mono ?_);(refine l.ext ?_;exact eA);(refine u.ext ?_;exact eA);rintro e w5 ⟨r5,rfl,x,ax⟩;obtain⟨b5,n5,k5,t5,b6,n6,k6,rfl⟩:=x.form;obtain⟨⟨ap,aR⟩,aI,aJ,aK⟩:=Ub w ax)))
 all_goals go_wp2
 refine bR (v:=Oa #[O b5 n5 k5,Z t5,O b6 n6 k6]) (by simp[results,Tryz.results156,go_sem,al,am,an,ao,ap,z,K,R,aa]) rfl ⟨_,rfl,?_,eA⟩;rw[<-Px];exact x.keep kA
def KA w y z p q(ha:Sa w y p)(hb:Sa w z q)(d:∀(W:I)(y z:C)(p q:Rat),Sa W y p->Sa W z q->Rb Vb p->Rb Vb q->Calls Tryz.prog 117 #[y,z] W (Nd W (p+q)))(l:Rb Vb p)(r:Rb Vb q):Calls Tryz.prog 115 #[y,z] w (Nd w (p-q)):=by
 obtain⟨a,m,c,s,a2,m2,c2,rfl⟩:=ha.form;obtain⟨a',m',c',s',i,x,j,rfl⟩:=hb.form;have R:=ka l;have aa:=ka r.neg;have f:=ka d;clear l r d;rw[Rat.sub_eq_add_neg];go_in;go_wp2;go_region_held3 (fun W=>W.cell? ⟨w.heap.size,0,X⟩=Y (O a m c)/\W.cell? ⟨w.heap.size,1,X⟩=Y (Z s)/\W.cell? ⟨w.heap.size,2,X⟩=Y (O a2 m2 c2)/\W.cell? ⟨w.heap.size+1,0,X⟩=Y (O a' m' c')/\W.cell? ⟨w.heap.size+1,1,X⟩=Y (Z s')/\W.cell? ⟨w.heap.size+1,2,X⟩=Y (O i x j)) ((repeat' (with_reducible refine And.intro ?_ ?_))<;>(first|(go_simp;done)|(refine hx1.d ?_;go_simp;done))) (first|((go_at_call 177;(with_reducible refine(RK _ (Oa #[O a' m' c',Z s',O i x j]) q ?_).mono ?_);(refine hb.ext ?_;exact eA);rintro e w1 ⟨r1,rfl,t,hx1⟩;obtain⟨b1,n1,k1,t1,b2,n2,k2,rfl⟩:=t.form;obtain⟨⟨ab,aj⟩,ae,af,K⟩:=Ub w hx1))|((go_at_call 117;refine cM (f.o _ (Oa #[O a m c,Z s,O a2 m2 c2]) (Oa #[O b1 n1 k1,Z t1,O b2 n2 k2]) p (-q) ?_ ?_ R.o aa.o) ?_;(refine ha.ext ?_;exact eA);(refine t.ext ?_;exact eA);rintro e w5 ⟨r5,rfl,u,ad⟩;obtain⟨b5,n5,k5,t5,b6,n6,k6,rfl⟩:=u.form;obtain⟨⟨ac,ak⟩,ag,ah,ai⟩:=Ub w ad)))
 all_goals go_wp2
 exact bR (v:=Oa #[O b5 n5 k5,Z t5,O b6 n6 k6]) (by simp[results,Tryz.results115,go_sem,ab,ac,K]) rfl ⟨_,rfl,u.keep kA,eA⟩
def DL(q:Rat):(q.num=0) ↔ q=0:=by
 constructor
 ·intro h;rw[<-Rat.num_divInt_den q,h];simp
 ·rintro rfl;rfl
def TK w va vb p q(ha:Sa w va p)(hb:Sa w vb q)(d:Rb Vb p)(f:Rb Vb q):Calls Tryz.prog 201 #[va,vb] w fun e w'=>∃r,e=.returned (Oe #[r,M J (if (p.den:Int)*q.num=0 then 9 else 0)])/\Sa w' r (p/q)/\Aa w w':=by
 obtain⟨a,m,c,s,a2,m2,c2,rfl⟩:=ha.form;obtain⟨a',m',c',s',l,R,t,rfl⟩:=hb.form;have ae:=ka d;have af:=ka f;have au:=ha.top;have av:=hb.top;have ag:Ta (Lm Mc p.num):=ka (d.1.mono dM);have ah:Ta (Lm Mc q.num):=ka (f.1.mono dM);have ai:Ta (Lm Mc (p.den:Int)):=ka (d.2.mono dM);have aj:Ta (Lm Mc (q.den:Int)):=ka (f.2.mono dM);have j:Ta (Lm Fd (p.num*q.den)):=ka ((d.1.mul f.2).mono dM);have ak:Ta (Lm Fd (q.num*p.den)):=ka ((f.1.mul d.2).mono dM);have aO:Ta (Lm Fd (p.num*q.num)):=ka ((d.1.mul f.1).mono dM);have aP:Ta (Lm Fd ((p.den:Int)*q.den)):=ka ((d.2.mul f.2).mono dM);have al:Ta (Lm Fd ((p.den:Int)*q.num)):=ka ((d.2.mul f.1).mono dM);have aA:Ta (Lm Mc (p.num*q.den)):=ka (j.o.mono dM);have aB:Ta (Lm Mc (q.num*p.den)):=ka (ak.o.mono dM);clear d f;obtain⟨er,i⟩:∃er:Int,er=if (p.den:Int)*q.num=0 then 9 else 0:=⟨_,rfl⟩;rw[<-i];have am:=ka i;clear i;go_in;go_wp2;go_region_held3 (fun W=>W.cell? ⟨w.heap.size,0,X⟩=Y (O a m c)/\W.cell? ⟨w.heap.size,1,X⟩=Y (Z s)/\W.cell? ⟨w.heap.size,2,X⟩=Y (O a2 m2 c2)/\W.cell? ⟨w.heap.size+1,0,X⟩=Y (O a' m' c')/\W.cell? ⟨w.heap.size+1,1,X⟩=Y (Z s')/\W.cell? ⟨w.heap.size+1,2,X⟩=Y (O l R t)) ((repeat' (with_reducible refine And.intro ?_ ?_))<;>(first|(go_simp;done)|(refine hx1.d ?_;go_simp;done))) (first|((go_at_call 135;(with_reducible refine(Wn _ (Oa #[O a' m' c',Z s',O l R t]) q ?_ af.o).mono ?_);(refine hb.ext ?_;exact eA);rintro e w1 ⟨r1,rfl,u,hx1⟩;obtain⟨b1,n1,k1,t1,rfl⟩:=u.form;obtain⟨⟨an,aQ⟩,aC,aD,aa⟩:=Ub w hx1))|((go_at_call 147;(with_reducible refine(Qo _ (Oa #[O a m c,Z s]) (Oa #[O b1 n1 k1,Z t1]) p.num (q.den:Int) ?_ ?_ ag.o aj.o).mono ?_);(refine au.ext ?_;exact eA);(refine u.ext ?_;exact eA);rintro e w2 ⟨r2,rfl,x,aw⟩;obtain⟨b2,n2,k2,t2,rfl⟩:=x.form;obtain⟨⟨ao,aR⟩,aE,aF,ab⟩:=Ub w aw))|((go_at_call 135;(with_reducible refine(Wn _ (Oa #[O a m c,Z s,O a2 m2 c2]) p ?_ ae.o).mono ?_);(refine ha.ext ?_;exact eA);rintro e w3 ⟨r3,rfl,y,ax⟩;obtain⟨b3,n3,k3,t3,rfl⟩:=y.form;obtain⟨⟨ap,aS⟩,aG,aH,ac⟩:=Ub w ax))|((go_at_call 147;(with_reducible refine(Qo _ (Oa #[O b3 n3 k3,Z t3]) (Oa #[O a' m' c',Z s']) (p.den:Int) q.num ?_ ?_ ai.o ah.o).mono ?_);(refine y.ext ?_;exact eA);(refine av.ext ?_;exact eA);rintro e w4 ⟨r4,rfl,z,ay⟩;obtain⟨b4,n4,k4,t4,rfl⟩:=z.form;obtain⟨⟨aq,aT⟩,aI,aJ,ad⟩:=Ub w ay))|((go_at_call 145;(with_reducible refine(JH _ (Oa #[O b2 n2 k2,Z t2]) (Oa #[O b4 n4 k4,Z t4]) (p.num*q.den) ((p.den:Int)*q.num) ?_ ?_ j.o al.o).mono ?_);(refine x.ext ?_;exact eA);(refine z.ext ?_;exact eA);rw[<-am.o];rintro e w5 ⟨r5,rfl,K,az⟩;obtain⟨b5,n5,k5,t5,b6,n6,k6,rfl⟩:=K.form;obtain⟨⟨ar,aU⟩,aK,aL,aM⟩:=Ub w az)))
 all_goals go_wp2
 refine bR (v:=Oe #[Oa #[O b5 n5 k5,Z t5,O b6 n6 k6],M J er]) (by simp[results,Tryz.results201,go_sem,an,ao,ap,aq,ar,aa,ab,ac,ad]) rfl ⟨_,rfl,?_,eA⟩;rw[<-Wp];exact K.keep kA
def BS(w:I)(p q:Rat)(a:Option Oc)(m c:Nat)(s:Bool)(z:Option Oc)(K c':Nat)(R:Bool)(t5 t6:C)(W:I):Prop:=
 ∃(d e:Nat)(x y:Option Oc)(l f r j:Nat)(t u:Bool),t5 = .pointer (Y ⟨d,0,X⟩)/\t6 = .pointer (Y ⟨e,0,X⟩)/\w.heap.size+1+1<d/\w.heap.size+1+1<e/\Aa w W/\td 2 W (w.heap.size+1+1)/\
 Id W (Oa #[O x l f,Z t]) (p.den:Int)/\Id W (Oa #[O y r j,Z u]) (q.den:Int)/\
 W.cell? ⟨d,0,X⟩=Y (O x l f)/\W.cell? ⟨d,1,X⟩=Y (Z t)/\W.cell? ⟨e,0,X⟩=Y (O y r j)/\W.cell? ⟨e,1,X⟩=Y (Z u)/\
 W.cell? ⟨w.heap.size,0,X⟩=Y (O a m c)/\W.cell? ⟨w.heap.size,1,X⟩=Y (Z s)/\W.cell? ⟨w.heap.size+1,0,X⟩=Y (O z K c')/\W.cell? ⟨w.heap.size+1,1,X⟩=Y (Z R)/\
 W.cell? ⟨w.heap.size+1+1,0,X⟩=Y (O X 0 0)/\W.cell? ⟨w.heap.size+1+1,1,X⟩=Y (Z false)/\W.cell? ⟨w.heap.size+1+1,2,X⟩=Y (O X 0 0)/\
 (∀i,W.frozen? ⟨w.heap.size+1+1,i,X⟩=false)
def tu w va vb p q(ha:Sa w va p)(hb:Sa w vb q)(d:Rb Vb p)(f:Rb Vb q):Calls Tryz.prog 117 #[va,vb] w (Nd w (p+q)):=by
 obtain⟨a,m,c,s,a2,m2,c2,rfl⟩:=ha.form;obtain⟨a',m',c',s',al,ay,am,rfl⟩:=hb.form;have ac:=ka d;have ad:=ka f;have bb:=ha.top;have bc:=hb.top;have aT:Ta (Lm Mc p.num):=ka (d.1.mono dM);have aU:Ta (Lm Mc q.num):=ka (f.1.mono dM);have ah:Ta (Lm Mc (p.den:Int)):=ka (d.2.mono dM);have ai:Ta (Lm Mc (q.den:Int)):=ka (f.2.mono dM);have aV:Ta (Lm Fd (p.num*q.den)):=ka ((d.1.mul f.2).mono dM);have aW:Ta (Lm Fd (q.num*p.den)):=ka ((f.1.mul d.2).mono dM);have bA:Ta (Lm Fd (p.num*q.num)):=ka ((d.1.mul f.1).mono dM);have aX:Ta (Lm Fd ((p.den:Int)*q.den)):=ka ((d.2.mul f.2).mono dM);have bB:Ta (Lm Fd ((p.den:Int)*q.num)):=ka ((d.2.mul f.1).mono dM);have aj:Ta (Lm Mc (p.num*q.den)):=ka (aV.o.mono dM);have ak:Ta (Lm Mc (q.num*p.den)):=ka (aW.o.mono dM);clear d f;go_in;go_upto_region 1 with fail;go_cut [5,6] (BS w p q a m c s a' m' c' s')
 case first =>
  go_region_held3 (fun W=>W.cell? ⟨w.heap.size,0,X⟩=Y (O a m c)/\W.cell? ⟨w.heap.size,1,X⟩=Y (Z s)/\W.cell? ⟨w.heap.size,2,X⟩=Y (O a2 m2 c2)/\W.cell? ⟨w.heap.size+1,0,X⟩=Y (O a' m' c')/\W.cell? ⟨w.heap.size+1,1,X⟩=Y (Z s')/\W.cell? ⟨w.heap.size+1,2,X⟩=Y (O al ay am)) ((repeat' (with_reducible refine And.intro ?_ ?_))<;>(first|(go_simp;done)|(refine hx1.d ?_;go_simp;done))) (first|((go_at_call 135;(with_reducible refine(Wn _ (Oa #[O a m c,Z s,O a2 m2 c2]) p ?_ ac.o).mono ?_);(refine ha.ext ?_;exact eA);rintro e l ⟨r1,rfl,r,hx1⟩;obtain⟨b1,n1,k1,t1,rfl⟩:=r.form;obtain⟨⟨ao,a9⟩,az,aA,aa⟩:=Ub w hx1;have aG:w.heap.size<l.heap.size+1:=oM;have aH:w.heap.size<l.heap.size+1+1:=oM;have aI:w.heap.size+1<l.heap.size+1:=oM;have aJ:w.heap.size+1<l.heap.size+1+1:=oM;have aK:w.heap.size+1+1<l.heap.size+1:=oM;have aL:w.heap.size+1+1<l.heap.size+1+1:=oM;(try(refine Aa.t hx1 (n:=w.heap.size+1+1+1) ?_ (fun _=>?_);focus(go_simp;done)));(try(refine Aa.t hx1 (n:=w.heap.size+1+1+1+1) ?_ (fun _=>?_);focus(go_simp;done)));(try(refine Aa.t hx1 (n:=l.heap.size) ?_ (fun _=>?_);focus(go_simp;done)));(try(refine Aa.t hx1 (n:=l.heap.size+1) ?_ (fun _=>?_);focus(go_simp;done)))))|((go_at_call 135;(with_reducible refine(Wn _ (Oa #[O a' m' c',Z s',O al ay am]) q ?_ ad.o).mono ?_);(refine hb.ext ?_;exact eA);rintro e R ⟨r2,rfl,t,j⟩;obtain⟨b2,n2,k2,t2,rfl⟩:=t.form;obtain⟨⟨K,ba⟩,aB,aC,ab⟩:=Ub w j;have aM:w.heap.size<R.heap.size+1:=oM;have aO:w.heap.size<R.heap.size+1+1:=oM;have aP:w.heap.size+1<R.heap.size+1:=oM;have aQ:w.heap.size+1<R.heap.size+1+1:=oM;have aR:w.heap.size+1+1<R.heap.size+1:=oM;have aS:w.heap.size+1+1<R.heap.size+1+1:=oM;(try(refine Aa.t j (n:=w.heap.size+1+1+1) ?_ (fun _=>?_);focus(go_simp;done)));(try(refine Aa.t j (n:=w.heap.size+1+1+1+1) ?_ (fun _=>?_);focus(go_simp;done)));(try(refine Aa.t j (n:=l.heap.size) ?_ (fun _=>?_);focus(go_simp;done)));(try(refine Aa.t j (n:=l.heap.size+1) ?_ (fun _=>?_);focus(go_simp;done))))))
  all_goals go_wp2
  all_goals go_meet
  all_goals refine⟨_,_,b1,b2,n1,k1,n2,k2,t1,t2,rfl,rfl,by omega,by omega,eA,nA,r.keep kA,t.keep kA,?_,?_,?_,?_,?_,?_,?_,?_,?_,?_,?_,fun i=>?_⟩
  all_goals first|(go_simp;done)|(have u1:l.heap.size<l.heap.size+1+1:=oM;have u2:R.cell? ⟨l.heap.size,0,X⟩=Y (O X 0 0):=((K _ _ (by first|exact u1|(simp only[wZ,jc];exact u1))).trans (by go_simp));have u3:R.cell? ⟨l.heap.size,1,X⟩=Y (Z false):=((K _ _ (by first|exact u1|(simp only[wZ,jc];exact u1))).trans (by go_simp));go_simp)
 case rest =>
  obtain⟨u,z,x,y,mx,cx,my,cy,sx,sy,rfl,rfl,bG,bH,hx,hN,aw,ax,aZ,bC,a0,bD,a1,bE,a3,bF,an,a4,a5,bL⟩:=hcut;have bN:¬u=w.heap.size+1+1:=oM;have be:¬w.heap.size+1+1=u:=oM;have bO:¬z=w.heap.size+1+1:=oM;have bf:¬w.heap.size+1+1=z:=oM;have bP:u<wc.heap.size:=World.block_lt_of_cell? wc _ aZ;have bQ:z<wc.heap.size:=World.block_lt_of_cell? wc _ a0;have bx:w.heap.size<wc.heap.size:=World.block_lt_of_cell? wc _ a1;have bz:w.heap.size+1<wc.heap.size:=World.block_lt_of_cell? wc _ a3;have aF:w.heap.size+1+1<wc.heap.size:=World.block_lt_of_cell? wc _ an;have aY:Ta (Lm Fd (p.num*q.den+q.num*p.den)):=by
   have h1:=((ac.o.1.mul ad.o.2).add (ad.o.1.mul ac.o.2)).mono (show Vb+Vb+1<=Fd by decide);exact ka h1
  have au:=bb.ext hx;have av:=bc.ext hx;go_wp2;go_region_held3 (fun W=>W.cell? ⟨w.heap.size,0,X⟩=Y (O a m c)/\W.cell? ⟨w.heap.size,1,X⟩=Y (Z s)/\W.cell? ⟨w.heap.size+1,0,X⟩=Y (O a' m' c')/\W.cell? ⟨w.heap.size+1,1,X⟩=Y (Z s')/\W.cell? ⟨u,0,X⟩=Y (O x mx cx)/\W.cell? ⟨u,1,X⟩=Y (Z sx)/\W.cell? ⟨z,0,X⟩=Y (O y my cy)/\W.cell? ⟨z,1,X⟩=Y (Z sy)) ((repeat' (with_reducible refine And.intro ?_ ?_))<;>(first|(go_simp;done)|(refine hx1.d ?_;go_simp;done))) (first|((go_at_call 147;(with_reducible refine(Qo _ (Oa #[O a m c,Z s]) (Oa #[O y my cy,Z sy]) p.num (q.den:Int) ?_ ?_ aT.o ai.o).mono ?_);(refine au.ext ?_;exact eA);(refine ax.ext ?_;exact eA);rintro e l ⟨r1,rfl,r,hx1⟩;obtain⟨b1,n1,k1,t1,rfl⟩:=r.form;obtain⟨⟨ao,a9⟩,az,aA,aa⟩:=Ub w hx1;(have bg:=hx1.lt (n:=u) (by go_simp));(have bl:=hx1.lt (n:=z) (by go_simp))))|((go_at_call 147;(with_reducible refine(Qo _ (Oa #[O a' m' c',Z s']) (Oa #[O x mx cx,Z sx]) q.num (p.den:Int) ?_ ?_ aU.o ah.o).mono ?_);(refine av.ext ?_;exact eA);(refine aw.ext ?_;exact eA);rintro e R ⟨r2,rfl,t,j⟩;obtain⟨b2,n2,k2,t2,rfl⟩:=t.form;obtain⟨⟨K,ba⟩,aB,aC,ab⟩:=Ub w j;(have bh:=j.lt (n:=u) (by go_simp));(have bm:=j.lt (n:=z) (by go_simp))))|((go_at_call 179;(with_reducible refine(yK _ (Oa #[O b1 n1 k1,Z t1]) (Oa #[O b2 n2 k2,Z t2]) (p.num*q.den) (q.num*p.den) ?_ ?_ aj.o ak.o).mono ?_);(refine r.ext ?_;exact eA);(refine t.ext ?_;exact eA);rintro e w3 ⟨r3,rfl,ap,ae⟩;obtain⟨b3,n3,k3,t3,rfl⟩:=ap.form;obtain⟨⟨a6,bI⟩,bq,br,aD⟩:=Ub w ae;(have bi:=ae.lt (n:=u) (by go_simp));(have bn:=ae.lt (n:=z) (by go_simp))))|((go_at_call 147;(with_reducible refine(Qo _ (Oa #[O x mx cx,Z sx]) (Oa #[O y my cy,Z sy]) (p.den:Int) (q.den:Int) ?_ ?_ ah.o ai.o).mono ?_);(refine aw.ext ?_;exact eA);(refine ax.ext ?_;exact eA);rintro e w4 ⟨r4,rfl,aq,af⟩;obtain⟨b4,n4,k4,t4,rfl⟩:=aq.form;obtain⟨⟨a7,bJ⟩,bs,bt,aE⟩:=Ub w af;(have bj:=af.lt (n:=u) (by go_simp));(have bo:=af.lt (n:=z) (by go_simp))))|((go_at_call 178;(with_reducible refine(Uw _ (Oa #[O b3 n3 k3,Z t3]) (Oa #[O b4 n4 k4,Z t4]) (p.num*q.den+q.num*p.den) ((p.den:Int)*q.den) ?_ ?_ aY.o aX.o (iE p q)).mono ?_);(refine ap.ext ?_;exact eA);(refine aq.ext ?_;exact eA);rintro e w5 ⟨r5,rfl,ar,ag⟩;obtain⟨b7,n5,k5,t5,b8,n6,k6,rfl⟩:=ar.form;obtain⟨⟨a8,bK⟩,bu,bv,bw⟩:=Ub w ag;(have bk:=ag.lt (n:=u) (by go_simp));(have bp:=ag.lt (n:=z) (by go_simp)))))
  all_goals go_wp2
  refine bR (v:=Oa #[O b7 n5 k5,Z t5,O b8 n6 k6]) (by simp[results,Tryz.results117,go_sem,ao,K,a6,a7,a8,aF,aa,ab,aD,aE,an,a4,a5]) rfl ⟨_,rfl,?_,?_⟩
  ·rw[<-Qx];exact ar.keep kA
  ·have bM:Aa w l:=hx.trans ((eR wc).drew.trans hx1);exact eA
def Zm w f i p q(j:Sa w f p)(l:Sa w i q)(d:Rb Vb p)(e:Rb Vb q):Calls Tryz.prog 115 #[f,i] w (Nd w (p-q)):=KA w f i p q j l tu d e
end
section
open Go.RowKit
def C4:Int:=10000
def Uj:(0:Int)<C4:=dM
def UG{x:Int}(h:Int.tmod x 10000<0):Int.tmod x 10000+10000=x%10000/\Int.tdiv x 10000-1=x/10000:=by
 by_cases d:0<=x
 ·rw[Int.tmod_eq_emod_of_nonneg d]at h;omega
 ·obtain⟨y,rfl⟩:∃y,x = -y:=⟨-x,by omega⟩;rw[Int.neg_tmod,Int.neg_tdiv]at *;rw[Int.tmod_eq_emod_of_nonneg oM,Int.tdiv_eq_ediv_of_nonneg oM]at *;omega
def TG{x:Int}(h:¬Int.tmod x 10000<0):Int.tmod x 10000=x%10000/\Int.tdiv x 10000=x/10000:=by
 by_cases d:0<=x
 ·rw[Int.tmod_eq_emod_of_nonneg d,Int.tdiv_eq_ediv_of_nonneg d];exact⟨rfl,rfl⟩
 ·obtain⟨y,rfl⟩:∃y,x = -y:=⟨-x,by omega⟩;rw[Int.neg_tmod,Int.neg_tdiv]at *;rw[Int.tmod_eq_emod_of_nonneg oM,Int.tdiv_eq_ediv_of_nonneg oM]at *;omega
def sJ(f xs:List Int) i x d(j:f.length=i)(l:xs[i]?=Y x)(h:dv C4 (xs.take i)=dv C4 f+C4 ^ i*d):dv C4 (xs.take (i+1))=dv C4 (f++[(d+x)%10000])+C4 ^ (i+1)*((d+x)/10000):=by
 rw[Uk C4 xs i x l,Ii,h,j,Int.pow_succ];have e:d+x=(d+x)%10000+C4*((d+x)/10000):=by unfold C4;omega
 generalize (d+x)%10000=r at *
 generalize (d+x)/10000=q at *
 have:C4 ^ i*(d+x)=C4 ^ i*(r+C4*q):=by rw[e]
 grind
def Mv xs f i d(j:f.length=i)(h:dv C4 xs=dv C4 f+C4 ^ i*d):dv C4 xs=dv C4 (f++[d%10000])+C4 ^ (i+1)*(d/10000):=by
 rw[Ii,h,j,Int.pow_succ];have e:d=d%10000+C4*(d/10000):=by unfold C4;omega
 generalize d%10000=r at *
 generalize d/10000=q at *
 subst e;grind
def yJ k:B ^ k<=C4 ^ (2*k):=by
 induction k with
 | zero=>simp
 | succ k f =>
  have e:C4 ^ (2*(k+1))=C4 ^ (2*k)*100000000:=by rw[show 2*(k+1)=2*k+2 by omega,Int.pow_add];rfl
  have d:B ^ (k+1)=B ^ k*16777216:=by rw[Int.pow_succ];rfl
  have p:=jj Pn k;rw[e,d];omega
def Jl{k n ds}(h:Lm k n)(f:xg C4 ds)(hv:dv C4 ds=(n.natAbs:Int)):ds.length<=2*k:=by
 by_cases d:ds=[]
 ·subst d;simp
 ·have i:=Cw Uj f d;have j:=yJ k;by_cases e:ds.length<=2*k
  ·exact e
  ·have:=Qm (b:=C4) dM (show 2*k<=ds.length-1 by omega);unfold Lm at h;omega
def Bt{a b:Int}(h:a<b):(a-b).sign = -1:=Int.sign_eq_neg_one_of_neg oM
def Ct{a b:Int}(h:b<a):(a-b).sign=1:=Int.sign_eq_one_of_pos oM
def uH{xs d}(e:xg C4 xs)(f:xg C4 d)(h:xs.length≠d.length):((xs.length:Int)-(d.length:Int)).sign=(dv C4 xs-dv C4 d).sign:=by
 rcases Nat.lt_or_gt_of_ne h with h|h
 ·rw[Bt oM,Bt (Tk dM e.1 f h)]
 ·rw[Ct oM,Ct (Tk dM f.1 e h)]
def WB{l i}{x:Int}(h:l[i]?=Y x):l=l.take i++x::l.drop (i+1):=by
 have d:=(lS.1 h).1;have e:l.drop i=x::l.drop (i+1):=by
  rw[List.drop_eq_getElem_cons d];rw[(lS.1 h).2]
 rw[<-e,List.take_append_drop]
def pG{xs e}(hx:xg C4 xs)(hy:xg C4 e)(R:xs.length=e.length){i x y}(z:xs[i]?=Y x)(K:e[i]?=Y y)(f:xs.drop (i+1)=e.drop (i+1))(j:x≠y):(x-y).sign=(dv C4 xs-dv C4 e).sign:=by
 have t:=WB z;have u:=WB K;have l:Ud C4 (xs.take i):=fun d f=>hx.1 d (List.mem_of_mem_take f);have p:Ud C4 (e.take i):=fun d f=>hy.1 d (List.mem_of_mem_take f);have r:(xs.take i).length=(e.take i).length:=by simp[R]
 rcases Int.lt_or_gt_of_ne j with h|h
 ·rw[Bt h,Bt];rw[t,u,f];exact Yu dM l r p h
 ·rw[Ct h,Ct];rw[t,u,f];exact Yu dM p r.symm l h
def WH{xs d:List Int}{i x}(e:xs[i]?=Y x)(f:d[i]?=Y x)(j:xs.drop (i+1)=d.drop (i+1)):xs.drop i=d.drop i:=by have a:=(lS.1 e).1;have b:=(lS.1 f).1;rw[List.drop_eq_getElem_cons a,List.drop_eq_getElem_cons b,j,(lS.1 e).2,(lS.1 f).2]
def Ee(n:Int):(n.sign = -1/\n<0)\/(n.sign=0/\n=0)\/(n.sign=1/\0<n):=by
 rcases Int.lt_trichotomy n 0 with h|h|h
 ·exact .inl ⟨Int.sign_eq_neg_one_of_neg h,h⟩
 ·exact .inr (.inl ⟨by rw[h];rfl,h⟩)
 ·exact .inr (.inr ⟨Int.sign_eq_one_of_pos h,h⟩)
def CB{b os p z} y(h:os[p]?=Y z):dv b (os.set p (z+y))=dv b os+b ^ p*y:=by rw[Up _ h];congr 2;omega
def xB{os d V:List Int}{j s x y}(e:os[j]?=Y x)(f:d[j]?=Y y)(h:dv C4 os=dv C4 V+s*dv C4 (d.take j)):dv C4 (os.set j (x+s*y))=dv C4 V+s*dv C4 (d.take (j+1)):=by rw[CB _ e,Uk C4 d j y f,h];grind
def Aj(os:List Int)(j:Nat):Prop:=∀p z,os[p]?=Y z -> -10000<=z/\z<=20000/\(j<=p->0<=z/\z<10000)
def Aj.start{os}(h:Ud C4 os):Aj os 0:=fun p z d=>by have:=h z (lM d);unfold C4 at this;omega
def Aj.step{os j x u}(h:Aj os j)(l:os[j]?=Y x)(f:-10000<=u)(i:u<=20000):Aj (os.set j u) (j+1):=by
 intro p z d;by_cases e:j=p
 ·subst e;rw[List.getElem?_set_self (lS.1 l).1]at d;cases d;exact⟨f,i,fun h=>by omega⟩
 ·rw[List.getElem?_set_ne e]at d;have:=h p z d;exact⟨this.1,this.2.1,fun r=>this.2.2 oM⟩
def Aj.big{os j}(h:Aj os j):∀x∈os,-100000000000000<=x/\x<=100000000000000:=by intro x e;obtain⟨p,d,rfl⟩:=List.getElem_of_mem e;have:=h p _ (gE d);omega
def Nv{os d:List Int}{i k x y z V}(f:os[i+k]?=Y z)(e:d[k]?=Y y)(h:dv C4 os=V+C4 ^ i*(x*dv C4 (d.take k))):dv C4 (os.set (i+k) (z+x*y))=V+C4 ^ i*(x*dv C4 (d.take (k+1))):=by rw[CB _ f,Uk C4 d k y e,h,Int.pow_add];grind
def nK{xs d:List Int}{i k x V D}(j:d.length=k)(f:xs[i]?=Y x)(h:D=V+C4 ^ i*(x*dv C4 (d.take k)))(e:V=dv C4 (xs.take i)*dv C4 d):D=dv C4 (xs.take (i+1))*dv C4 d:=by rw[h,e,lT (l:=d) oM,Uk C4 xs i x f,Int.add_mul,Int.mul_assoc]
def Jh(os:List Int)(i k:Nat):Prop:=∀p z,os[p]?=Y z->0<=z/\z<=((i:Int)+1)*100000000/\(i+k<=p->z<=(i:Int)*100000000)
def Jh.start n:Jh (List.replicate n 0) 0 0:=fun p z d=>by
 have:=(List.mem_replicate.1 (lM d)).2;omega
def Jh.step{os i k z y}(h:Jh os i k)(f:os[i+k]?=Y z)(j:0<=y)(l:y<=100000000):Jh (os.set (i+k) (z+y)) i (k+1):=by
 intro p u d;by_cases e:i+k=p
 ·subst e;rw[List.getElem?_set_self (lS.1 f).1]at d;cases d;have:=h _ _ f;exact⟨by omega,by omega,fun h=>by omega⟩
 ·rw[List.getElem?_set_ne e]at d;have:=h p u d;exact⟨this.1,this.2.1,fun r=>this.2.2 oM⟩
def Jh.next{os i k}(h:Jh os i k):Jh os (i+1) 0:=by intro p u d;have:=h p u d;omega
def Jh.big{os i k}(h:Jh os i k)(f:i<=900000):∀x∈os,-100000000000000<=x/\x<=100000000000000:=by intro x e;obtain⟨p,d,rfl⟩:=List.getElem_of_mem e;have:=h p _ (gE d);omega
def By{x y}(e:0<=x/\x<C4)(d:0<=y/\y<C4):0<=x*y/\x*y<=100000000:=by unfold C4 at *;have f:=Int.mul_nonneg e.1 d.1;have i:x*y<=9999*9999:=Int.mul_le_mul oM oM d.1 oM;omega
def PK(n m:Int):n.sign*m.sign=(n*m).sign:=by rw[Int.sign_mul]
def At n:n.sign*(n.natAbs:Int)=n:=Int.sign_mul_natAbs n
def DJ n m(h:(m.natAbs:Int)<=n.natAbs):0<=(n.natAbs:Int)+n.sign*m.sign*(m.natAbs:Int)/\n.sign*((n.natAbs:Int)+n.sign*m.sign*(m.natAbs:Int))=n+m:=by rcases Ee n with ⟨e,f⟩|⟨e,f⟩|⟨e,f⟩<;>rcases Ee m with ⟨d,i⟩|⟨d,i⟩|⟨d,i⟩<;>rw[e,d]<;>omega
def UK{xs d:List Int}{i a q D R}(e:xs[i]?=Y a)(f:d[i]?=Y q)(h:dv C4 (xs.drop (i+1))=dv C4 (d.drop (i+1))*D+R):dv C4 (xs.drop i)=dv C4 (d.drop i)*D+(a+C4*R-q*D):=by have j:=(lS.1 e).1;have b':=(lS.1 f).1;rw[List.drop_eq_getElem_cons j,List.drop_eq_getElem_cons b',(lS.1 e).2,(lS.1 f).2,oq,oq,h];grind
def Lv{n d Q R N}(hd:d≠0)(h:(n.natAbs:Int)=Q*(d.natAbs:Int)+R)(u:0<=R)(x:R<(d.natAbs:Int)):(¬(n<0/\R≠0)->N=n.sign*Q->(if d<0 then -N else N)=n/d/\R=n%d)/\((n<0/\R≠0)->N=n.sign*Q-1->(if d<0 then -N else N)=n/d/\(d.natAbs:Int)-R=n%d):=by
 have key:∀A r:Int,n=A*d+r->0<=r->r<(d.natAbs:Int)->A=n/d/\r=n%d:=by
  intro A r e z r1;rcases Int.lt_or_gt_of_ne hd with l | l
  ·have:=Int.ediv_emod_unique (a:=n) (b:=-d) (r:=r) (q:=-A) oM;have f:=this.2 ⟨by rw[e];grind,z,by omega⟩;rw[Int.ediv_neg,Int.emod_neg]at f;exact⟨by omega,f.2.symm⟩
  ·have:=Int.ediv_emod_unique (a:=n) (b:=d) (r:=r) (q:=A) l;have f:=this.2 ⟨by rw[e];grind,z,by omega⟩;exact⟨f.1.symm,f.2.symm⟩
 have j:(d.natAbs:Int)=if d<0 then -d else d:=by split<;>omega
 refine⟨fun t p=>key _ _ ?_ u x,fun t p=>key _ _ ?_ oM oM⟩
 ·subst p;rw[j]at h;rcases Ee n with ⟨e,f⟩|⟨e,f⟩|⟨e,f⟩
  ·have i:R=0:=by
    by_cases i:R=0
    ·exact i
    ·exact absurd ⟨f,i⟩ t
   subst i;rw[e];split at h<;>rename_i ka<;>simp only[ka,if_true,if_false]<;>grind
  ·subst f;have i:R=0:=by
    (have hp:(0:Int)<if d<0 then -d else d:=by split<;>omega);have hq:Q*(if d<0 then -d else d) = -R:=oM;(have hm:(-R)%(if d<0 then -d else d)=0:=by rw[<-hq];exact Int.mul_emod_left ..);have y:R%(if d<0 then -d else d)=0:=by
     have:=Int.emod_eq_zero_of_dvd ((Int.dvd_neg).1 (Int.dvd_of_emod_eq_zero hm));exact this
    rw[Int.emod_eq_of_lt u (by rw[<-j];exact x)]at y;exact y
   have K:Q=0:=by
    subst i;have:Q*(if d<0 then -d else d)=0:=oM;rcases Int.mul_eq_zero.1 this with h|h
    ·exact h
    ·split at h<;>omega
   subst i K;simp
  ·rw[e];split at h<;>rename_i ka<;>simp only[ka,if_true,if_false]<;>grind
 ·subst p;obtain⟨f,h3⟩:=t;rw[Int.sign_eq_neg_one_of_neg f];rw[j]at h ⊢;split at h<;>rename_i ka<;>simp only[ka,if_true,if_false]<;>grind
end
section
open Go.RowKit Go.Shelf
def RB(W:I)(b:Nat)(q:Rat):Prop:=∃a m c s a2 m2 c2,W.heap[b]?=Y (Ob #[O a m c,Z s,O a2 m2 c2] 63 (0,0))/\Sa W (Oa #[O a m c,Z s,O a2 m2 c2]) q
def Lw{W:I}{g x y z T d}(h:W.heap[g]?=Y (Ob #[x,y,z] T d)) u v t:(((W.setCell ⟨g,0,X⟩ u).setCell ⟨g,1,X⟩ v).setCell ⟨g,2,X⟩ t).heap[g]?=Y (Ob #[u,v,t] T d):=by simp[World.setCell,Array.getElem?_modify,h]
section
variable {W W':I} {b b':Nat} {n n':Rat}
def RB.ext(h:RB W b n)(k:Aa W W'):RB W' b n:=by obtain⟨a,m,c,s,a2,m2,c2,d,e⟩:=h;exact⟨a,m,c,s,a2,m2,c2,k.e d,e.ext k⟩
def RB.not(h:RB W b n):td 2 W b:=by obtain⟨a,m,c,s,a2,m2,c2,d,i⟩:=h;intro cs f e;rw[d]at e;cases e
def RB.rd(h:RB W b n):∃a m c s a2 m2 c2,W.cell? ⟨b,0,X⟩=Y (O a m c)/\W.cell? ⟨b,1,X⟩=Y (Z s)/\W.cell? ⟨b,2,X⟩=Y (O a2 m2 c2)/\W.frozen? ⟨b,0,X⟩=false/\W.frozen? ⟨b,1,X⟩=false/\W.frozen? ⟨b,2,X⟩=false/\b<W.heap.size/\Sa W (Oa #[O a m c,Z s,O a2 m2 c2]) n:=by obtain⟨a,m,c,s,a2,m2,c2,d,e⟩:=h;exact⟨a,m,c,s,a2,m2,c2,Ba d (i:=0) rfl,Ba d (i:=1) rfl,Ba d (i:=2) rfl,Ya d 0,Ya d 1,Ya d 2,Jb d,e⟩
def RB.put{a a2 m c m2 c2 s}(h:RB W b n)(f:Sa W (Oa #[O a m c,Z s,O a2 m2 c2]) n'):RB (((W.setCell ⟨b,0,X⟩ (O a m c)).setCell ⟨b,1,X⟩ (Z s)).setCell ⟨b,2,X⟩ (O a2 m2 c2)) b n':=by have d:=h.not;obtain⟨i,t,l,x,j,u,p,e,r⟩:=h;exact⟨a,m,c,s,a2,m2,c2,Lw e _ _ _,f.keep ((((Ia.refl _ W).x d _).x (d.set _ _) _).x ((d.set _ _).set _ _) _)⟩
def RB.other{p}(h:RB W b n)(i:p.block≠b)(j:td 2 W p.block) u:RB (W.setCell p u) b n:=by obtain⟨a,m,c,s,a2,m2,c2,d,f⟩:=h;exact⟨a,m,c,s,a2,m2,c2,(bS _ _ _ _ (fun e=>i e.symm)).trans d,f.keep ((Ia.refl _ W).x j _)⟩
def RB.new{W0 a a2 m c m2 c2 s}(e:Sa W0 (Oa #[O a m c,Z s,O a2 m2 c2]) n)(d:b=W0.heap.size):RB (W0.alloc (Ob #[O a m c,Z s,O a2 m2 c2] 63)) b n:=
 ⟨a,m,c,s,a2,m2,c2,Bc _ _ _ d,e.ext ((eR _).alloc _)⟩
end
def Tn w n(r:-9223372036854775808<=n)(t:n<=9223372036854775807):Calls Tryz.prog 85 #[M J n] w (Nd w (n:Rat)):=by go_in;go_wp2_with(((go_at_call 154;(with_reducible refine(qN _ n r t).mono ?_);rintro e K ⟨z,rfl,d,i⟩;obtain⟨a2,m2,c2,y,l,x,p,rfl⟩:=d.form;obtain⟨⟨f,u⟩,j⟩:=oe w i)));exact bR (v:=Oa #[O a2 m2 c2,Z y,O l x p]) (by simp[results,Tryz.results85,go_sem,f]) rfl ⟨_,rfl,d.keep kA,eA⟩
def tE w va vb p q(ha:Sa w va p)(hb:Sa w vb q)(d:Rb Vb p)(f:Rb Vb q):Calls Tryz.prog 155 #[va,vb] w (Nd w (p/q)):=by obtain⟨a,m,c,s,a2,m2,c2,rfl⟩:=ha.form;obtain⟨a',m',c',s',K,ac,R,rfl⟩:=hb.form;have x:=ka d;have y:=ka f;clear d f;obtain⟨er,i⟩:∃er:Int,er=if (p.den:Int)*q.num=0 then 9 else 0:=⟨_,rfl⟩;have z:=ka i;clear i;go_in;go_wp2_with(((go_at_call 201;(with_reducible refine(TK _ (Oa #[O a m c,Z s,O a2 m2 c2]) (Oa #[O a' m' c',Z s',O K ac R]) p q ?_ ?_ x.o y.o).mono ?_);(refine ha.ext ?_;exact eA);(refine hb.ext ?_;exact eA);rw[<-z.o];rintro e w1 ⟨r1,rfl,j,ab⟩;obtain⟨b1,n1,k1,t1,b2,n2,k2,rfl⟩:=j.form;obtain⟨⟨aa,af⟩,ad,ae,l⟩:=Ub w ab;have r:w.heap.size<w1.heap.size+1:=oM;have t:w.heap.size+1<w1.heap.size+1:=oM;have u:w.heap.size+1+1<w1.heap.size+1:=oM)));exact bR (v:=Oa #[O b1 n1 k1,Z t1,O b2 n2 k2]) (by simp[results,Tryz.results155,go_sem,aa,l]) rfl ⟨_,rfl,j.keep kA,eA⟩
def Mr{k}:∀{cs:List (List C)}{i j c},(∀c∈cs,c.length=k)->cs[i]?=Y c->j<k->cs.flatten[i*k+j]?=c[j]?
 | [],i,j,c,_,h,_=>by simp at h
 | d::cs,0,j,c,hk,h,hj=>by
  simp at h;subst h;rw[List.flatten_cons,Nat.zero_mul,Nat.zero_add,List.getElem?_append_left (by rw[hk d (by simp)];exact hj)]
 | d::cs,i+1,j,c,hk,h,hj=>by
  have e:=hk d sM;rw[List.flatten_cons,List.getElem?_append_right (by rw[e,Nat.add_mul];omega),e,show (i+1)*k+j-k=i*k+j by rw[Nat.add_mul];omega];exact Mr (fun c f=>hk c (mC _ f)) (by simpa using h) hj
def Sl{α:Type}(T:TypeId)(k:Nat)(P:I->List C->α->Prop)(w:I)(v:C)(xs:List α):Prop:=
 ∃cs:List (List C),cs.length=xs.length/\(∀c∈cs,c.length=k)/\Rd w T k v xs.length cs.flatten/\∀(i:Nat) c x,cs[i]?=Y c->xs[i]?=Y x->P w c x
section
variable {α:Type} {T:TypeId} {k:Nat} {P:I->List C->α->Prop} {w w':I} {v:C} {xs:List α} {a:Option Oc} {n c:Nat}
def Sl.form(h:Sl T k P w v xs):∃a c,v=O a xs.length c:=by obtain⟨cs,_,_,h,_⟩:=h;exact h.form
def Sl.len(h:Sl T k P w (O a n c) xs):n=xs.length:=by obtain⟨cs,_,_,h,_⟩:=h;exact h.eqn
def Sl.le(h:Sl T k P w (O a n c) xs):xs.length<=c/\c<=maxLen:=by obtain⟨cs,_,_,h,_⟩:=h;exact h.le
def Sl.ext(h:Sl T k P w v xs)(l:∀c x,P w c x->P w' c x)(r:Aa w w'):Sl T k P w' v xs:=by obtain⟨cs,d,e,f,j⟩:=h;exact⟨cs,d,e,f.ext r,fun i c x p t=>l _ _ (j i c x p t)⟩
def Sl.keep(h:Sl T k P w v xs)(l:∀c x,P w c x->P w' c x)(r:Ia T w w'):Sl T k P w' v xs:=by obtain⟨cs,d,e,f,j⟩:=h;exact⟨cs,d,e,f.keep r,fun i c x p t=>l _ _ (j i c x p t)⟩
def Sl.at(h:Sl T k P w (O a n c) xs){i x}(t:xs[i]?=Y x):∃b o d,a=Y ⟨b,o,X⟩/\b<w.heap.size/\d.length=k/\P w d x/\∀(j:Nat) u,d[j]?=Y u->w.cell? ⟨b,o+i*k+j,X⟩=Y u:=by
 obtain⟨cs,y,p,z,K⟩:=h;have hi:=(lS.1 t).1;obtain⟨d,f⟩:∃d,cs[i]?=Y d:=⟨cs[i]' oM,by simp[y,hi]⟩;obtain⟨b,o,rfl,R,_,hc⟩:=z.open oM;have e:=p d (lM f);refine⟨b,o,d,rfl,R,e,K i d x f t,fun j u r=>?_⟩;have l:j<k:=by rw[<-e];exact(lS.1 r).1
 have:=hc (i*k+j) u (by rw[Mr p f l];exact r)
 rwa [<-Nat.add_assoc]at this
end
def PR(w:I)(c:List C)(q:Rat):Prop:=Sa w (Oa c.toArray) q
abbrev Sf(w:I)(v:C)(qs:List Rat):Prop:=Sl 63 3 PR w v qs
def Sf.f{w w' v d}(h:Sf w v d)(k:Aa w w'):Sf w' v d:=Sl.ext h (fun _ _ h=>Sa.ext h k) k
def Sf.at'{w a n c l}(h:Sf w (O a n c) l){i q}(u:l[i]?=Y q):∃b o a1 m1 c1 s1 a2 m2 c2,a=Y ⟨b,o,X⟩/\b<w.heap.size/\Sa w (Oa #[O a1 m1 c1,Z s1,O a2 m2 c2]) q/\w.cell? ⟨b,o+i*3,X⟩=Y (O a1 m1 c1)/\w.cell? ⟨b,o+i*3+1,X⟩=Y (Z s1)/\w.cell? ⟨b,o+i*3+2,X⟩=Y (O a2 m2 c2):=by
 obtain⟨b,o,d,rfl,t,x,r,j⟩:=Sl.at h u;have f:Sa w (Oa d.toArray) q:=r;obtain⟨a1,m1,c1,s1,a2,m2,c2,e⟩:=f.form;have p:d=[O a1 m1 c1,Z s1,O a2 m2 c2]:=by
  have:d.toArray=#[O a1 m1 c1,Z s1,O a2 m2 c2]:=by cases e;rfl
  simpa using congrArg Array.toList this
 subst p;exact⟨b,o,a1,m1,c1,s1,a2,m2,c2,rfl,t,f,j 0 _ rfl,j 1 _ rfl,j 2 _ rfl⟩
def yd(w:I)(v:C)(n:Int):Prop:=∃sl ds,v=Oa #[M J n.sign,sl]/\Tc 3 w sl ds/\xg C4 ds/\dv C4 ds=(n.natAbs:Int)
section
variable {w w':I} {v:C} {n:Int} {s:Int} {a:Option Oc} {m c:Nat}
def yd.ext(h:yd w v n)(k:Aa w w'):yd w' v n:=by obtain⟨sl,ds,d,e,f,i⟩:=h;exact⟨sl,ds,d,e.ext k,f,i⟩
def yd.keep(h:yd w v n)(k:Ia 3 w w'):yd w' v n:=by obtain⟨sl,ds,d,e,f,i⟩:=h;exact⟨sl,ds,d,e.keep k,f,i⟩
def yd.form(h:yd w v n):∃a m c,v=Oa #[M J n.sign,O a m c]:=by obtain⟨sl,ds,rfl,d,e,f⟩:=h;obtain⟨a,c,rfl⟩:=d.form;exact⟨_,_,_,rfl⟩
def yd.j(h:yd w v n):∃s a m c,v=Oa #[M J s,O a m c]/\s=n.sign:=by obtain⟨a,m,c,rfl⟩:=h.form;exact⟨_,_,_,_,rfl,rfl⟩
def yd.sgn(h:yd w (Oa #[M J s,O a m c]) n):s=n.sign:=by obtain⟨sl,ds,d,e,f,i⟩:=h;cases d;rfl
def yd.open(h:yd w (Oa #[M J s,O a m c]) n):∃ds,ds.length=m/\Tc 3 w (O a m c) ds/\xg C4 ds/\dv C4 ds=(n.natAbs:Int):=by obtain⟨sl,ds,e,d,f,i⟩:=h;cases e;exact⟨ds,d.len.symm,d,f,i⟩
def yd.nil w:yd w (Oa #[M J 0,O X 0 0]) 0:=⟨_,[],rfl,Tc.nil _ _,xg.nil _,rfl⟩
end
def Ih(w:I)(n:Int)(e:Ending)(w':I):Prop:=∃r,e=.returned r/\yd w' r n/\Aa w w'
def Kf(w:I)(base:Nat)(v:C)(n:Int):Prop:=∃sl ds,v=Oa #[M J n.sign,sl]/\Db 3 w base sl ds/\xg C4 ds/\dv C4 ds=(n.natAbs:Int)
section
variable {w w':I} {v:C} {n:Int} {base:Nat}
def Kf.isN(h:Kf w base v n):yd w v n:=by obtain⟨sl,ds,d,e,f,i⟩:=h;exact⟨sl,ds,d,e.ints,f,i⟩
def Kf.keep(h:Kf w base v n)(k:Ia 3 w w'):Kf w' base v n:=by obtain⟨sl,ds,d,e,f,i⟩:=h;exact⟨sl,ds,d,e.keep k,f,i⟩
def Kf.ext(h:Kf w base v n)(k:Aa w w'):Kf w' base v n:=h.keep k.keep
def Kf.mono{b'}(h:Kf w base v n)(j:b'<=base):Kf w b' v n:=by obtain⟨sl,ds,d,e,f,i⟩:=h;exact⟨sl,ds,d,e.mono j,f,i⟩
def Kf.j(h:Kf w base v n):∃s a m c,v=Oa #[M J s,O a m c]/\s=n.sign:=h.isN.j
def Kf.nil w base:Kf w base (Oa #[M J 0,O X 0 0]) 0:=⟨_,[],rfl,Db.nil _ _ _,xg.nil _,rfl⟩
end
def Nk(w:I)(n:Int)(e:Ending)(w':I):Prop:=∃r,e=.returned r/\Kf w' w.heap.size r n/\Aa w w'
def zv{f args w n}(h:Calls Tryz.prog f args w (Nk w n)):Calls Tryz.prog f args w (Ih w n):=
 h.mono fun _ _ ⟨r,d,e,i⟩=>⟨r,d,e.isN,i⟩
def To:(Tryz.prog.info? 3).map (fun i=>(i.zero,i.size,i.bytes))=Y (Y (M J 0),1,8):=kM
def ZF{s D N}(f:s=1\/s = -1)(d:0<D)(e:N=s*D):N.sign=s/\(N.natAbs:Int)=D:=by
 subst e;rcases f with rfl|rfl
 ·rw[Int.one_mul,Int.sign_eq_one_of_pos d];omega
 ·rw[Int.neg_one_mul,Int.sign_eq_neg_one_of_neg oM];omega
def FR(xs:List Int)(n:Nat)(w:I)(t5 f j:C)(wr:I):Prop:=
 ∃(i:Nat)(e:List Int)(d:Int),j=M J i/\f=M J d/\e.length=i/\Ud C4 e/\dv C4 (xs.take i)=dv C4 e+C4 ^ i*d/\ -100000000000<=d/\d+((i-n:Nat):Int)<=100000000000/\
  Db 3 wr (w.heap.size+1) t5 e/\Aa w wr/\w.heap.size<wr.heap.size/\wr.heap[w.heap.size]?=Y (Ob #[M J 0,O X 0 0] 66 (0,0))
def ER(D:Int)(w:I)(t5:C)(wr:I):Prop:=
 ∃(d:List Int),dv C4 d=D/\Ud C4 d/\d.length<=1000000000000/\Db 3 wr (w.heap.size+1) t5 d/\Aa w wr/\w.heap.size<wr.heap.size/\wr.heap[w.heap.size]?=Y (Ob #[M J 0,O X 0 0] 66 (0,0))
def nN{xs e:List Int}{i x d r q}(f:e.length=i)(p:xs[i]?=Y x)(h:dv C4 (xs.take i)=dv C4 e+C4 ^ i*d)(l:r=(d+x)%10000)(j:q=(d+x)/10000):dv C4 (xs.take (i+1))=dv C4 (e++[r])+C4 ^ (i+1)*q:=by subst l j;exact sJ e xs i x d f p h
def PH{xs e:List Int}{i d r q}(f:e.length=i)(p:xs.length<=i)(h:dv C4 (xs.take i)=dv C4 e+C4 ^ i*d)(l:r=d%10000)(j:q=d/10000):dv C4 (xs.take (i+1))=dv C4 (e++[r])+C4 ^ (i+1)*q:=by subst l j;rw[lT oM]at h ⊢;exact Mv xs e i d f h
def qH{xs e i d}(p:e.length=i)(r:xs.length<=i)(l:Ud C4 e)(h:dv C4 (xs.take i)=dv C4 e+C4 ^ i*d)(u:0<=dv C4 xs):0<=d:=by
 rw[lT r]at h;have f:=(Uh Uj l).2;rw[p]at f;have t:=jj Uj i;by_cases j:0<=d
 ·exact j
 ·have:C4 ^ i*d<=C4 ^ i*(-1):=Int.mul_le_mul_of_nonneg_left oM oM;omega
def pw w s v xs N(hI:Tc 3 w v xs)(av:xs.length<=2000000)(hx:∀x∈xs,-100000000000000<=x/\x<=100000000000000)(ai:0<=dv C4 xs)(hN:N=s*dv C4 xs)(hs:dv C4 xs≠0->s=1\/s = -1):Calls Tryz.prog 152 #[M J s,v] w (Nk w N):=by
 obtain⟨a,c,rfl⟩:=hI.form;obtain⟨n,hn⟩:=gX xs.length;rw[hn]at av ⊢;have Hn:=ka hn;have HI:=ka hI;have HN:=ka hN;have Hs:=ka hs;have ao:=ka ai;clear hn hI hN hs ai;go_in;go_wp2;go_loopw [5,6,7] (FR xs n w) (fun _ t6 t7 _=>(n-(intOf t7).toNat)*1000000000000+(intOf t6+100000000000).toNat)
 case atStart=>exact⟨0,[],0,rfl,rfl,rfl,Ud.nil _,by simp,by omega,by omega,Db.nil _ _ _,(eR w).alloc _,by simp,aN w _⟩
 case round =>
  obtain⟨i,ys,cy,rfl,rfl,aA,ab,hv,aF,aG,y,aa,aw,aj⟩:=hrel;have l:=ka aA;have Hv:=ka hv;have z:=ka aj;clear aA hv aj;obtain⟨oa,oc,rfl⟩:=y.form;rw[l.o]at y ⊢;by_cases am:i<n
  ·have aB:ys.length<=1000000000000:=by rw[l.o];omega
   obtain⟨b,o,rfl,aM,ar⟩:=(HI.o.ext aa).open (by rw[Hn.o];omega);obtain⟨x,ag⟩:∃x,xs[i]?=Y x:=⟨xs[i]'(by rw[Hn.o];exact am),by simp[Hn.o,am]⟩;have al:=ar i x ag;have aQ:=hx x (lM ag);have aq:=ka ag;have Hx:=ka hx;clear ag ar hx;have g1:(i:Int)<(n:Int):=oM;have g2:(0:Int)<=(i:Int):=oM;obtain⟨r,hr⟩:=gX (Int.tmod (cy+x) 10000);obtain⟨q,hq⟩:=gX (Int.tdiv (cy+x) 10000);by_cases ad:r<0
   ·obtain⟨e1,e2⟩:=UG (x:=cy+x) (by rw[hr];exact ad);rw[hr]at e1;rw[hq]at e2;have E1:=ka e1;have E2:=ka e2;have r1:-10000<=r:=oM;have q1:-100000000000<=q-1:=oM;have q2:q-1<=99999999999:=oM;clear e1 e2;go_wp2_with(at_builtin;refine tj To Tryz.underlying64 rfl _ _ rfl rfl y rfl oM oM ?_;intro v' w1 d f t);go_roundw
    case rel =>
     refine⟨i+1,_,_,by go_num,rfl,by simp[l.o],ab.snoc oM (by unfold C4;omega),nN l.o aq.o Hv.o E1.o E2.o,by omega,by omega,d,aa.y f oM,?_,?_⟩
     ·have:=f.size;omega
     ·exact t.get z.o dM
    case measure=>simp[intOf];omega
   ·obtain⟨e1,e2⟩:=TG (x:=cy+x) (by rw[hr];exact ad);rw[hr]at e1;rw[hq]at e2;have E1:=ka e1;have E2:=ka e2;have r1:0<=r:=oM;have r2:r<10000:=oM;have q1:-100000000000<=q:=oM;have q2:q<=99999999999:=oM;clear e1 e2;go_wp2_with(at_builtin;refine tj To Tryz.underlying64 rfl _ _ rfl rfl y rfl oM oM ?_;intro v' w1 d f t);go_roundw
    case rel =>
     refine⟨i+1,_,_,by go_num,rfl,by simp[l.o],ab.snoc oM (by unfold C4;omega),nN l.o aq.o Hv.o E1.o E2.o,by omega,by omega,d,aa.y f oM,?_,?_⟩
     ·have:=f.size;omega
     ·exact t.get z.o dM
    case measure=>simp[intOf];omega
  ·have aH:=qH l.o (by rw[Hn.o];omega) ab Hv.o ao.o;by_cases ae:cy=0
   ·have ay:dv C4 ys=dv C4 xs:=by
     have:=Hv.o;rw[ae,lT (by rw[Hn.o];omega)]at this;rw[this];simp
    have ap:=ka ay;subst ae;clear ay aH aF Hv;have ak:i<=1000000000000:=oM;have g1:¬(i:Int)<(n:Int):=oM;go_wp2;go_loopw [5] (ER (dv C4 xs) w) (fun t5 _=>match t5 with | O _ n _=>n|_=>0)
    case atStart=>exact⟨ys,ap.o,ab,by rw[l.o];exact ak,y,aa,aw,z.o⟩
    case round =>
     clear y aa aw z ap l ak aG ab g1 am;obtain⟨us,az,an,aJ,d,aK,ax,j⟩:=hrel;obtain⟨a3,c3,rfl⟩:=d.form;have aC:=Ba j (i:=0) (u:=M J 0) rfl;have aD:=Ba j (i:=1) (u:=O X 0 0) rfl;have aS:=Ya j 0;have aT:=Ya j 1;have K:=ka j;have ac:=ka az;clear j az;rcases VD us with rfl|⟨R,x,rfl⟩
     ·have hd:decide ((0:Int)<(([]:List Int).length:Int))=false:=sM;go_wp2;refine bR (v:=Oa #[M J 0,O X 0 0]) (by simp[results,Tryz.results152,go_sem,aC,aD]) rfl ⟨_,rfl,?_,eA⟩;(have e:N=0:=by rw[HN.o,<-ac.o];simp);rw[e];exact Kf.nil _ _
     ·obtain⟨g,rfl,hg,aO⟩:=d.blk sM;have al:wr.cell? ⟨g,R.length,X⟩=Y (M J x):=d.cell sM;have au:=d.ints.le;simp only[lA,List.length_singleton]at d au aJ ⊢;unfold maxLen at au;by_cases af:x=0
      ·subst af;go_wp2;go_roundw
       case rel =>
        refine⟨R,?_,(Ud.of_append an).1,by omega,d.pop,aK,ax,K.o⟩;have:=ac.o;rw[Ii]at this;omega
       case measure=>simp
      ·(have aP:(x==0)=false:=by simpa using af);have aE:=ka af;clear af;have ah:xg C4 (R++[x]):=⟨an,by simpa using aE.o⟩;have hD:0<dv C4 (R++[x]):=by
        have h1:=(Uh Uj an).1;(have h2:dv C4 (R++[x])≠0:=fun e=>by have:=(pC Uj ah).1 e;simp at this);omega
       obtain⟨n1,n2⟩:=ZF (Hs.o (by rw[<-ac.o];omega)) (by rw[<-ac.o];exact hD) HN.o;have N1:=ka n1;have N2:=ka n2;clear n1 n2 hD;go_wp2;refine bR (v:=Oa #[M J s,O (Y ⟨g,0,X⟩) (R.length+1) c3]) (by simp[results,Tryz.results152,go_sem,aC,aD]) rfl ⟨_,rfl,⟨_,R++[x],(by rw[N1.o]),?_,ah,ac.o.trans N2.o.symm⟩,eA⟩;refine((d.setOther (p:=⟨w.heap.size,0,X⟩) (d.ne_block K.o dM) _).setOther (p:=⟨w.heap.size,1,X⟩) (d.ne_block K.o dM) _).mono (Nat.le_succ _)
   ·have aR:0<cy:=oM;(have aI:xs.length<=i:=by rw[Hn.o];omega);(have aB:ys.length<=1000000000000:=by rw[l.o];omega);(have aL:(cy != 0)=true:=by simpa using ae);have g1:¬(i:Int)<(n:Int):=oM;obtain⟨r,hr⟩:=gX (Int.tmod cy 10000);obtain⟨q,hq⟩:=gX (Int.tdiv cy 10000);(have e1:r=cy%10000:=by rw[<-hr,Int.tmod_eq_emod_of_nonneg oM]);(have e2:q=cy/10000:=by rw[<-hq,Int.tdiv_eq_ediv_of_nonneg oM]);have r1:0<=r:=oM;have r2:r<10000:=oM;have q1:0<=q:=oM;have q2:q<cy:=oM;have ad:¬r<0:=oM;have E1:=ka e1;have E2:=ka e2;clear e1 e2 ae;go_wp2_with(at_builtin;refine tj To Tryz.underlying64 rfl _ _ rfl rfl y rfl oM oM ?_;intro v' w1 d f t);go_roundw
    case rel =>
     refine⟨i+1,_,_,by go_num,rfl,by simp[l.o],ab.snoc oM (by unfold C4;omega),PH l.o aI Hv.o E1.o E2.o,by omega,by omega,d,aa.y f oM,?_,?_⟩
     ·have:=f.size;omega
     ·exact t.get z.o dM
    case measure=>simp[intOf];omega
def Lo w s v xs N(f:Tc 3 w v xs)(d:xs.length<=2000000)(l:∀x∈xs,-100000000000000<=x/\x<=100000000000000)(e:0<=dv C4 xs)(i:N=s*dv C4 xs)(j:dv C4 xs≠0->s=1\/s = -1):Calls Tryz.prog 152 #[M J s,v] w (Ih w N):=zv (pw w s v xs N f d l e i j)
def Ka(T:TypeId)(k:Nat)(w:I)(base:Nat)(v:C)(cs:List (List C)):Prop:=(∀c∈cs,c.length=k)/\w.ownsRow base T k v cs.length cs.flatten
def Ll{k}:∀{cs:List (List C)},(∀c∈cs,c.length=k)->cs.flatten.length=cs.length*k
 | [],_=>by simp
 | d::cs,h=>by
  rw[List.flatten_cons,lA,Ll (fun c e=>h c (mC _ e)),h d (by simp),List.length_cons,Nat.add_mul];omega
def Zu{k}:∀{cs:List (List C)} m ,(∀c∈cs,c.length=k)->m<=cs.length->cs.flatten.take (m*k)=(cs.take m).flatten
 | _,0,_,_=>by simp
 | [],m+1,_,h=>by simp at h
 | d::cs,m+1,h,hm=>by
  have e:=h d sM;rw[List.flatten_cons,List.take_append,e,lT (by rw[e,Nat.add_mul];omega),show (m+1)*k-k=m*k by rw[Nat.add_mul];omega,
   Zu m (fun c f=>h c (mC _ f)) (by simpa using hm),List.take_succ_cons,List.flatten_cons]
section
variable {T:TypeId} {k:Nat} {w w':I} {base:Nat} {v:C} {cs ds:List (List C)} {a:Option Oc} {n c g:Nat}
def Ka.rd(h:Ka T k w base v cs):Rd w T k v cs.length cs.flatten:=Rd.of_own h.2
def Ka.sl{α P}{xs:List α}(h:Ka T k w base v cs)(d:cs.length=xs.length)(e:∀(i:Nat) c x,cs[i]?=Y c->xs[i]?=Y x->P w c x):Sl T k P w v xs:=
 ⟨cs,d,h.1,by rw[<-d];exact h.rd,e⟩
def Ka.nil T k w base:Ka T k w base (O X 0 0) []:=⟨by simp,World.ownsRow_nil w base T k⟩
def Ka.form(h:Ka T k w base v cs):∃a c,v=O a cs.length c:=Cr h.2
def Ka.i(h:Ka T k w base v cs):∃a n c,v=O a n c:=by obtain⟨a,c,h⟩:=Cr h.2;exact⟨a,_,c,h⟩
def Ka.len(h:Ka T k w base (O a n c) cs):n=cs.length:=by obtain⟨a,e,d⟩:=Cr h.2;cases d;rfl
def Ka.keep(h:Ka T k w base v cs)(j:Ia T w w'):Ka T k w' base v cs:=by
 obtain⟨e,l,d⟩:=h;refine⟨e,l,?_⟩;rcases d with d|⟨g,cap,cur,hv,f,i,r⟩
 ·exact .inl d
 ·exact .inr ⟨g,cap,cur,hv,f,j _ _ _ i,r⟩
def Ka.ext(h:Ka T k w base v cs)(d:Aa w w'):Ka T k w' base v cs:=h.keep d.keep
def Ka.grown(h:Ka T k w base v cs){row}(e:w.grownBy w' row)(d:v.ownBlock=X\/v.ownBlock≠row):Ka T k w' base v cs:=⟨h.1,World.ownsRow.kept h.2 e d⟩
def Ka.setOther(h:Ka T k w base v cs){p}(f:v.ownBlock≠Y p.block) u:Ka T k (w.setCell p u) base v cs:=
 h.grown (row:=Y p.block) ⟨rfl,rfl,rfl,by simp[World.setCell],fun k _ d=>bS _ _ _ _ (by intro e;exact d (by rw[e]))⟩ (.inr f)
def Ka.mono{b'}(h:Ka T k w base v cs)(i:b'<=base):Ka T k w b' v cs:=by
 obtain⟨e,f,d⟩:=h;refine⟨e,f,?_⟩;rcases d with d|⟨g,cap,cur,hv,j,r⟩
 ·exact .inl d
 ·exact .inr ⟨g,cap,cur,hv,by omega,r⟩
def Ka.blk(h:Ka T k w base (O a n c) cs)(f:0<cs.length):∃g,a=Y ⟨g,0,X⟩/\base<=g/\g<w.heap.size:=by have d:=h.len;subst d;obtain⟨g,rfl,e⟩:=ZC h.2 f;exact⟨g,rfl,e,(World.ownsRow.lt h.2 g rfl).2⟩
def Ka.cell(h:Ka T k w base (O (Y ⟨g,0,X⟩) n c) cs){i j d u}(e:cs[i]?=Y d)(l:d[j]?=Y u):w.cell? ⟨g,i*k+j,X⟩=Y u:=by
 have t:=h.len;subst t;have p:=(lS.1 e).1;have f:=h.1 d (lM e);have r:j<k:=by rw[<-f];exact(lS.1 l).1
 rw[World.ownsRow.cellAt h.2 _ (by
  calc i*k+j<i*k+k:=oM
   _=(i+1)*k:=by rw[Nat.add_mul];omega
   _<=cs.length*k:=Nat.mul_le_mul_right _ p),Mr h.1 e r]
 exact l
def Ka.frozen(h:Ka T k w base (O (Y ⟨g,0,X⟩) n c) cs) i:w.frozen? ⟨g,i,X⟩=false:=by have d:=h.len;subst d;exact World.ownsRow.frozenAt h.2 i
def Ux{k}:∀{cs:List (List C)}{i j d},(∀c∈cs,c.length=k)->cs[i]?=Y d->j<k->∀u,cs.flatten.set (i*k+j) u=(cs.set i (d.set j u)).flatten
 | [],i,j,d,_,h,_,_=>by simp at h
 | e::cs,0,j,d,hk,h,hj,u=>by
  simp at h;subst h;rw[List.flatten_cons,Nat.zero_mul,Nat.zero_add,List.set_append_left _ _ (by rw[hk e (by simp)];exact hj),List.set_cons_zero,List.flatten_cons]
 | e::cs,i+1,j,d,hk,h,hj,u=>by
  have f:=hk e sM;rw[List.flatten_cons,List.set_append_right _ _ (by rw[f,Nat.add_mul];omega),f,show (i+1)*k+j-k=i*k+j by rw[Nat.add_mul];omega,
   Ux (fun c l=>hk c (mC _ l)) (by simpa using h) hj u,List.set_cons_succ,List.flatten_cons]
def Ka.stored(h:Ka T k w base (O (Y ⟨g,0,X⟩) n c) cs){i j d}(p:cs[i]?=Y d)(t:j<k) u:Ka T k (w.setCell ⟨g,i*k+j,X⟩ u) base (O (Y ⟨g,0,X⟩) n c) (cs.set i (d.set j u)):=by
 have x:=h.len;subst x;have l:=h.1 d (lM p);refine⟨?_,?_⟩
 ·intro e r;rcases List.mem_or_eq_of_mem_set r with f|f
  ·exact h.1 e f
  ·subst f;simpa using l
 ·have:=(World.ownsRow.stored h.2 (i*k+j) u).1;rw[Ux h.1 p t u]at this;rw[List.length_set];exact this
end
def Pw{P T t} ty{k bytes z w base v cs ds ad m c}(p:(P.info? T).map (fun i=>(i.zero,i.size,i.bytes))=Y (Y z,k,bytes))(af:z.cells.size=k)(hk:0<k)(aa:bytes<=1000)(ht:P.underlying t=Y (.slice T))(d:Ka T k w base v cs)(hm:ds.length=m)(hd:∀c∈ds,c.length=k)(r:∀(j:Nat) u,ds.flatten[j]?=Y u->w.cell? (ad.add j)=Y u)(h1:∀u∈ds.flatten,u.oneCell'=true)(y:cs.length+m<=100000000000)(f:base<=w.heap.size):∃v' w',(Builtin.append_ #[t,t] ty #[v,O (Y ad) m c]).run P w = .ok v' w'/\Ka T k w' base v' (cs++ds)/\w.grownBy w' v.ownBlock/\(v'.ownBlock=v.ownBlock\/v'.ownBlock=Y w.heap.size):=by
 obtain⟨i,hi,ab,ac,ae⟩:=info_parts p;subst hm;have hb:(cs.length+ds.length)*bytes<=140737488355328:=by
  calc (cs.length+ds.length)*bytes<=100000000000*1000:=Nat.mul_le_mul y aa
   _<=140737488355328:=dM
 obtain⟨v',w',R,x,l,_,K⟩:=run_append_own_at (P:=P) w base t ty T i z k bytes ht hi ab ac ae af hk v cs.length cs.flatten d.2 ad ds.length c ds.flatten (Ll hd)
  r h1 (by unfold maxLen;omega) hb f
 refine⟨v',w',R,⟨?_,?_⟩,l,K⟩
 ·intro e he;rcases List.mem_append.1 he with h|h
  ·exact d.1 e h
  ·exact hd e h
 ·rw[lA,List.flatten_append];exact x
def Ah{P T t k bytes z w base v cs ops rest o a Q}(e:(P.info? T).map (fun i=>(i.zero,i.size,i.bytes))=Y (Y z,k,bytes))(aa:z.cells.size=k)(hk:0<k)(y:bytes<=1000)(ht:P.underlying t=Y (.slice T))(R:o.guard=X) s x(ho:o.op = .call { callee:=.builtin .append,args:=#[s,x],argTypes:=#[t,t] })(hs:a.eval s=v)(p:Ka T k w base v cs){ad m c}(hx:a.eval x=O (Y ad) m c)
   ds(hm:ds.length=m)(hd:∀c∈ds,c.length=k)(f:∀(j:Nat) u,ds.flatten[j]?=Y u->w.cell? (ad.add j)=Y u)(h1:∀u∈ds.flatten,u.oneCell'=true)(l:cs.length+m<=100000000000)(d:base<=w.heap.size)
  (h:∀v' w',Ka T k w' base v' (cs++ds)->w.grownBy w' v.ownBlock->(v'.ownBlock=v.ownBlock\/v'.ownBlock=Y w.heap.size)->wpList P ops Q rest (a.put o.dst v') w'):wpList P ops Q (o::rest) a w:=by obtain⟨v',w',r,h2,h3,h4⟩:=Pw (P:=P) o.type e aa hk y ht p hm hd f h1 l d (c:=c);refine wpList_plain R fun K hK=>?_;unfold Oper.wp;simp[execOp,ho,resolve,invoke,builtin,hs,hx,r,Result.andThen];exact hK _ _ (h v' w' h2 h3 h4)
def Dt{P T t} ty{k bytes z w base v sl cs ds}(f:(P.info? T).map (fun i=>(i.zero,i.size,i.bytes))=Y (Y z,k,bytes))(af:z.cells.size=k)(hk:0<k)(aa:bytes<=1000)(ht:P.underlying t=Y (.slice T))(l:Ka T k w base v cs)(hd:∀c∈ds,c.length=k)(d:Rd w T k sl ds.length ds.flatten)(h1:∀u∈ds.flatten,u.oneCell'=true)(y:cs.length+ds.length<=100000000000)(p:base<=w.heap.size):∃v' w',(Builtin.append_ #[t,t] ty #[v,sl]).run P w = .ok v' w'/\Ka T k w' base v' (cs++ds)/\w.grownBy w' v.ownBlock/\(v'.ownBlock=v.ownBlock\/v'.ownBlock=Y w.heap.size):=by
 obtain⟨K,c,rfl⟩:=d.form;rcases K with _|K
 ·obtain⟨i,hi,ag,ae,ah⟩:=info_parts f;have h0:ds=[]:=by
   by_cases h:0<ds.length
   ·obtain⟨b,o,e,_⟩:=d.open h;cases e
   ·exact List.eq_nil_of_length_eq_zero oM
  subst h0;have hc:c=0:=by
   obtain⟨_,a,c,e,_,_,R⟩:=d;cases e;rcases R with R|⟨b,o,cs,fr,e,_⟩
   ·exact R.2 rfl
   ·cases e
  subst hc;have x:=l.2;subst ae;exact⟨v,w,run_append_owned_none (P:=P) (w:=w) base t ty T i i.size ht hi v cs.length cs.flatten x,by simpa using l,⟨rfl,rfl,rfl,nE _,fun _ _ _=>rfl⟩,.inl rfl⟩
 ·have r:∀(j:Nat) u,ds.flatten[j]?=Y u->w.cell? (K.add j)=Y u:=by
   intro j u hj;have ab:0<ds.length:=by
    by_cases h:0<ds.length
    ·exact h
    ·rw[List.eq_nil_of_length_eq_zero (show ds.length=0 by omega)]at hj;simp at hj
   obtain⟨b',o',e,hb,_,ac⟩:=d.open ab;cases e;have:=ac j u hj;unfold Addr.add;split
   ·subst j;simpa using this
   ·exact this
  exact Pw ty f af hk aa ht l rfl hd r h1 y p
def Cp{P T t k bytes z w base v sl cs ops rest o a Q}(e:(P.info? T).map (fun i=>(i.zero,i.size,i.bytes))=Y (Y z,k,bytes))(R:z.cells.size=k)(hk:0<k)(r:bytes<=1000)(ht:P.underlying t=Y (.slice T))(y:o.guard=X) s x(ho:o.op = .call { callee:=.builtin .append,args:=#[s,x],argTypes:=#[t,t] })(hs:a.eval s=v)(j:Ka T k w base v cs)(hx:a.eval x=sl)
   ds(hd:∀c∈ds,c.length=k)(p:Rd w T k sl ds.length ds.flatten)(h1:∀u∈ds.flatten,u.oneCell'=true)(f:cs.length+ds.length<=100000000000)(d:base<=w.heap.size)
  (h:∀v' w',Ka T k w' base v' (cs++ds)->w.grownBy w' v.ownBlock->(v'.ownBlock=v.ownBlock\/v'.ownBlock=Y w.heap.size)->wpList P ops Q rest (a.put o.dst v') w'):wpList P ops Q (o::rest) a w:=by obtain⟨v',w',l,h2,h3,h4⟩:=Dt (P:=P) o.type e R hk r ht j hd p h1 f d;refine wpList_plain y fun K hK=>?_;unfold Oper.wp;simp[execOp,ho,resolve,invoke,builtin,hs,hx,l,Result.andThen];exact hK _ _ (h v' w' h2 h3 h4)
def mF{k}:∀{cs:List (List C)} m ,(∀c∈cs,c.length=k)->m<=cs.length->cs.flatten.drop (m*k)=(cs.drop m).flatten
 | _,0,_,_=>by simp
 | [],m+1,_,h=>by simp at h
 | d::cs,m+1,h,hm=>by
  have e:=h d sM;rw[List.flatten_cons,List.drop_append,e,List.drop_of_length_le (by rw[e,Nat.add_mul];omega),show (m+1)*k-k=m*k by rw[Nat.add_mul];omega,
   mF m (fun c f=>h c (mC _ f)) (by simpa using hm),List.drop_succ_cons,List.nil_append]
section
variable {α:Type} {T:TypeId} {k:Nat} {P:I->List C->α->Prop} {w w':I} {v:C} {xs:List α} {b o n c:Nat}
def Sl.drop(h:Sl T k P w (O (Y ⟨b,o,X⟩) n c) xs)(hn:0<xs.length){m}(hm:m<=xs.length):Sl T k P w (O (Y ⟨b,o+m*k,X⟩) (n-m) (c-m)) (xs.drop m):=by
 have aa:=h.len;obtain⟨cs,z,j,⟨K,a,c9,e,h5,h6,p⟩,R⟩:=h;cases e;refine⟨cs.drop m,by rw[List.length_drop,List.length_drop,z],fun c l=>j c (List.mem_of_mem_drop l),⟨?_,Y ⟨b,o+m*k,X⟩,c-m,?_,?_,?_,?_⟩,?_⟩
 ·rw[<-mF m j oM,List.length_drop,K,List.length_drop,Nat.sub_mul]
 ·rw[List.length_drop]
 ·rw[List.length_drop];omega
 ·omega
 ·rcases p with p|⟨b',o',f,y,e,hh,l⟩
  ·omega
  ·cases e;refine .inr ⟨_,_,f,y,rfl,hh,fun i x t=>?_⟩;rw[<-mF m j oM,List.getElem?_drop]at t;have:=l _ _ t
   rwa [<-Nat.add_assoc]at this
 ·intro i d x r u;rw[List.getElem?_drop]at r u;exact R _ _ _ r u
def Sl.take(h:Sl T k P w (O (Y ⟨b,o,X⟩) n c) xs)(hn:0<xs.length){m c'}(hm:m<=xs.length)(aa:m<=c')(ab:c'<=c):Sl T k P w (O (Y ⟨b,o,X⟩) m c') (xs.take m):=by
 have ac:=h.len;obtain⟨cs,K,r,⟨R,a,c9,e,h5,h6,y⟩,h4⟩:=h;cases e;have f:(xs.take m).length=m:=by rw[List.length_take];omega
 refine⟨cs.take m,by rw[List.length_take,List.length_take,K],fun c t=>r c (List.mem_of_mem_take t),⟨?_,Y ⟨b,o,X⟩,c',?_,?_,?_,?_⟩,?_⟩
 ·rw[<-Zu m r oM,List.length_take,R,f];have:m*k<=xs.length*k:=Nat.mul_le_mul_right _ hm;omega
 ·rw[f]
 ·rw[f];omega
 ·omega
 ·rcases y with y|⟨b',o',p,z,e,hh,t⟩
  ·omega
  ·cases e;refine .inr ⟨_,_,p,z,rfl,hh,fun i x l=>?_⟩;rw[<-Zu m r oM,List.getElem?_take]at l;split at l
   ·exact t _ _ l
   ·cases l
 ·intro i d x j u;rw[List.getElem?_take]at j u;split at j
  ·rename_i hlt2;rw[if_pos hlt2]at u;exact h4 _ _ _ j u
  ·cases j
end
def Bh{w w' base row}(e:w.grownBy w' row)(d:base<=w.heap.size)(f:∀k,row=Y k->base<=k):Below base w w':=(Below.refl _ w).grown e d f
def Ka.lt{T k w base v cs}(h:Ka T k w base v cs):∀j,v.ownBlock=Y j->base<=j/\j<w.heap.size:=World.ownsRow.lt h.2
def Tp{a b:I}{g}(h:a.grownBy b (Y g)) i u:a.grownBy (b.setCell ⟨g,i,X⟩ u) (Y g):=
 h.trans ⟨rfl,rfl,rfl,by simp[World.setCell],fun k _ d=>bS _ _ _ _ (by intro e;exact d (by rw[e]))⟩
def Fu{a b:I}{row}(h:a.grownBy b row) n:a.grownBy (b.drewN n) row:=⟨h.os,h.tape,h.output,h.size,h.block⟩
def NJ{a b:I}{row}(h:a.grownBy b row):a.grownBy b.drew row:=⟨h.os,h.tape,h.output,h.size,h.block⟩
def Ti{a b:I}{row k o}(e:a.grownBy b row)(h:a.heap[k]?=Y o)(d:Y k≠row):b.heap[k]?=Y o:=(e.block k (Jb h) d).trans h
def BL{P T t} ty{k w base g n cap sl os ds}(R:(P.info? T).map (·.size)=Y k)(ht:P.underlying t=Y (.slice T))(l:Ka T k w base (O (Y ⟨g,0,X⟩) n cap) os)(hd:∀c∈ds,c.length=k)(p:Rd w T k sl ds.length ds.flatten)(f:ds.length=os.length)(h0:0<ds.length)(h1:∀u∈ds.flatten,u.oneCell'=true):∃w',(Builtin.copy_ #[t,t] ty #[O (Y ⟨g,0,X⟩) n cap,sl]).run P w = .ok (goInt n) w'/\Ka T k w' base (O (Y ⟨g,0,X⟩) n cap) ds/\w.grownBy w' (Y g):=by
 have hn:=l.len;obtain⟨ad,c,rfl⟩:=p.form;obtain⟨b',o',rfl,hb,_,ae⟩:=p.open h0;have r:∀(j:Nat) u,ds.flatten[j]?=Y u->w.cell? ((⟨b',o',X⟩:Oc).add j)=Y u:=by
  intro j u hj;have:=ae j u hj;unfold Addr.add;split
  ·subst j;simpa using this
  ·exact this
 subst hn;rcases l.2.2 with ⟨h2,_⟩|⟨g',af,cur,hv,hg,hh,z,aa,ab,ah⟩
 ·cases h2
 ·cases hv;have d:ds.flatten.length=ds.length*k:=Ll hd;have ac:os.length*k<=cur.size:=by rw[ab];exact Nat.mul_le_mul_right _ z
  have x:=run_loadCells_list (P:=P) w ⟨b',o',X⟩ ds.flatten r;have K:=run_storeCells_at P g 0 T ds.flatten 0 cur w hh (by rw[d,f];simpa using ac) h1;refine⟨w.setRow g (cur.toList.take 0++ds.flatten++cur.toList.drop (0+ds.flatten.length)).toArray,?_,⟨hd,?_,?_⟩,⟨rfl,rfl,rfl,by simp,fun j _ hj=>setRow_other w g j _ (fun e=>hj (by simp[e]))⟩⟩
  ·cases hq:P.info? T with
   | none=>simp[hq]at R
   | some i =>
    (have hi:i.size=k:=by simpa[hq] using R);(have y:Nat.min ds.length os.length=ds.length:=by rw[f];exact Nat.min_self _);rw[d,f]at x;simp only[List.length_flatten]at K;(have ag:((os.length:Nat):Int)=(ds.length:Int):=by rw[f]);simp[Builtin.copy_,run_underlying ht,Builtin.lenOf,Builtin.firstCells,sizeOf,typeInfo,hq,hi,y,x,K,goInt,f]
  ·exact d
  ·rw[f];refine .inr ⟨g,cap,_,rfl,hg,setRow_heap w g cur _ T _ hh,z,aa,?_,?_⟩
   ·simp only[List.size_toArray,lA,List.length_take,List.length_drop,Array.length_toList,d,f];omega
   ·simp only[List.take_zero,List.nil_append];rw[<-f,<-d,List.take_append,lT (nE _),Nat.sub_self,List.take_zero,List.append_nil]
def FQ{P T t k w base g n cap sl os ops rest o a Q}(p:(P.info? T).map (·.size)=Y k)(ht:P.underlying t=Y (.slice T))(l:o.guard=X) d s(ho:o.op = .call { callee:=.builtin .copy,args:=#[d,s],argTypes:=#[t,t] })(j:a.eval d=O (Y ⟨g,0,X⟩) n cap)(hs:a.eval s=sl)
  (e:Ka T k w base (O (Y ⟨g,0,X⟩) n cap) os) ds(hd:∀c∈ds,c.length=k)(i:Rd w T k sl ds.length ds.flatten)
  (hl:ds.length=os.length)(r:0<ds.length)(x:∀u∈ds.flatten,u.oneCell'=true)
  (h:∀w',Ka T k w' base (O (Y ⟨g,0,X⟩) n cap) ds->w.grownBy w' (Y g)->wpList P ops Q rest (a.put o.dst (goInt n)) w'):wpList P ops Q (o::rest) a w:=by obtain⟨w',f,y,z⟩:=BL (P:=P) o.type p ht e hd i hl r x;refine wpList_plain l fun K R=>?_;unfold Oper.wp;simp[execOp,ho,resolve,invoke,builtin,j,hs,f,Result.andThen];exact R _ _ (h w' y z)
def uQ{P T t k bytes z zs w}{n:Nat}{ops rest o a Q}(p:(P.info? T).map (fun i=>(i.zero,i.size,i.bytes))=Y (Y z,k,bytes))(ai:z.cells=zs.toArray)(d:zs.length=k)(aa:bytes<=1000)(ht:P.underlying t=Y (.slice T))(ab:o.guard=X) l c(ho:o.op = .makeSlice t l c) L(ae:a.eval l=M J L)(f:a.eval c=M J L)(hL:L=(n:Int))(hn:n<=100000000000)(h:∀cs,Ka T k (w.alloc (Ob cs T)) w.heap.size (O (Y ⟨w.heap.size,0,X⟩) n n) (List.replicate n zs)->wpList P ops Q rest (a.put o.dst (O (Y ⟨w.heap.size,0,X⟩) n n)) (w.alloc (Ob cs T))):wpList P ops Q (o::rest) a w:=by
 obtain⟨i,hi,ag,y,ah⟩:=info_parts p;have aj:bytes*n<=281474976710656:=by
  calc bytes*n<=1000*100000000000:=Nat.mul_le_mul aa hn
   _<=281474976710656:=dM
 have u:=run_make (P:=P) w t T i z ht hi ag J J n n oM oM (by rw[ah];omega) oM;simp only[Int.toNat_natCast]at u;refine wpList_plain ab fun K R=>?_;unfold Oper.wp;subst hL;simp[execOp,ho,ae,f,u,Result.andThen];refine R _ _ (h _ ?_);have x:(List.replicate n zs).flatten.length=n*k:=by rw[Ll (k:=k) (fun c f=>by rw[List.eq_of_mem_replicate f];exact d),List.length_replicate]
 refine⟨fun c f=>by rw[List.eq_of_mem_replicate f];exact d,by rw[x,List.length_replicate],.inr ⟨w.heap.size,n,_,by simp,nE _,aN w _,by simp,by unfold maxLen;omega,by rw[y];simp[madeCells],?_⟩⟩;rw[y,List.length_replicate,ai,lT (by rw[Array.length_toList,size_madeCells];exact nE _)];apply List.ext_getElem?;intro j;by_cases hj:j<n*k
 ·have ad:0<k:=by
   rcases Nat.eq_zero_or_pos k with e|e
   ·subst e;simp at hj
   ·exact e
  obtain⟨q,r,u,hq⟩:∃q r,r<k/\j=q*k+r:=⟨j/k,j%k,Nat.mod_lt _ ad,by rw[Nat.mul_comm];exact(Nat.div_add_mod j k).symm⟩;have af:q<n:=by
   rcases Nat.lt_or_ge q n with e|e
   ·exact e
   ·exfalso;have:n*k<=q*k:=Nat.mul_le_mul_right _ e;omega
  have e2:(List.replicate n zs).flatten[q*k+r]?=zs[r]?:=Mr (k:=k) (fun c f=>by rw[List.eq_of_mem_replicate f];exact d) (by rw[List.getElem?_replicate,if_pos af]) u;have ac:j%k=r:=by rw[hq,Nat.add_comm,Nat.add_mul_mod_self_right,Nat.mod_eq_of_lt u]
  rw[show (List.replicate n zs).flatten[j]?=zs[r]? by rw[hq];exact e2];simp only[madeCells,Array.toList_map,Array.toList_range,lP,List.getElem?_range hj,Option.map_some,List.size_toArray,d,ac];rw[gE oM];simp[d,u]
 ·rw[List.getElem?_eq_none (by rw[Array.length_toList,size_madeCells];omega),List.getElem?_eq_none (by rw[x];omega)]
def fd{P T t k bytes z w base v cs ops o a K Q E}(e:(P.info? T).map (fun i=>(i.zero,i.size,i.bytes))=Y (Y z,k,bytes))(aa:z.cells.size=k)(hk:0<k)(y:bytes<=1000)(ht:P.underlying t=Y (.slice T))(R:o.guard=X) s x(ho:o.op = .call { callee:=.builtin .append,args:=#[s,x],argTypes:=#[t,t] })(hs:a.eval s=v)(p:Ka T k w base v cs){ad m c}(hx:a.eval x=O (Y ad) m c)
   ds(hm:ds.length=m)(hd:∀c∈ds,c.length=k)(f:∀(j:Nat) u,ds.flatten[j]?=Y u->w.cell? (ad.add j)=Y u)(h1:∀u∈ds.flatten,u.oneCell'=true)(l:cs.length+m<=100000000000)(d:base<=w.heap.size)
  (h:∀v' w',Ka T k w' base v' (cs++ds)->w.grownBy w' v.ownBlock->(v'.ownBlock=v.ownBlock\/v'.ownBlock=Y w.heap.size)->K (a.put o.dst v') w') :
  if Region.wanted o (yielded ops a.tmps)=true then Oper.wp P o a w K Q else E:=by
 have hw:Region.wanted o (yielded ops a.tmps)=true:=by simp[Region.wanted,R]
 rw[if_pos hw];obtain⟨v',w',r,h2,h3,h4⟩:=Pw (P:=P) o.type e aa hk y ht p hm hd f h1 l d (c:=c);unfold Oper.wp;simp[execOp,ho,resolve,invoke,builtin,hs,hx,r,Result.andThen];exact h v' w' h2 h3 h4
def pc(p:Int×Int):List C:=[M J p.1,M J p.2]
def Ro:(Tryz.prog.info? 43).map (fun i=>(i.zero,i.size,i.bytes))=Y (Y (Oa #[M J 0,M J 0]),2,16):=kM
def pD{ps:LP}:∀u∈(ps.map pc).flatten,u.oneCell'=true:=by intro u e;obtain⟨d,f,e⟩:=List.mem_flatten.1 e;obtain⟨p,_,rfl⟩:=List.mem_map.1 f;simp[pc]at e;rcases e with rfl|rfl<;>rfl
def Nq{ps:LP}:∀c∈ps.map pc,c.length=2:=by intro c d;obtain⟨p,_,rfl⟩:=List.mem_map.1 d;rfl
def AP(W:I) x z T:∀ j  u,[pc (x,z)].flatten[j]?=Y u->(W.alloc (Ob #[M J x,M J z] T)).cell? ((⟨W.heap.size,0,X⟩:Oc).add j)=Y u:=by
 intro j u d
 match j,d with
 | 0,d=>simp[pc]at d;subst d;simp[Addr.add]
 | 1,d=>simp[pc]at d;subst d;simp[Addr.add]
 | j+2,d=>simp[pc]at d
def sE x z:∀u∈[pc (x,z)].flatten,u.oneCell'=true:=pD (ps:=[(x,z)])
def Bd(k n:Int):Prop:=-k<=n/\n<=k
def Bd.mono{j k n}(h:Bd j n)(d:j<=k):Bd k n:=by unfold Bd at *;omega
def Bd.mul{j k x y}(h:Bd j x)(f:Bd k y):Bd (j*k) (x*y):=by
 unfold Bd at *;have d:(x.natAbs:Int)<=j:=oM;have e:(y.natAbs:Int)<=k:=oM;have:((x*y).natAbs:Int)<=j*k:=by
  rw[Int.natAbs_mul,Int.natCast_mul];exact Int.mul_le_mul d e oM oM
 omega
def Bd.sub{j k x y}(h:Bd j x)(d:Bd k y):Bd (j+k) (x-y):=by unfold Bd at *;omega
def Rt w d f i j(l:Bd 1000000000 d)(t:Bd 1000000000 f)(y:Bd 1000000000 i)(h4:Bd 1000000000 j):Calls Tryz.prog 240 #[Oa #[M J d,M J f],Oa #[M J i,M J j]] w fun e w'=>e=.returned (Oa #[M J (d-i),M J (f-j)])/\Aa w w':=by obtain⟨p,r⟩:=l;obtain⟨u,x⟩:=t;obtain⟨z,K⟩:=y;obtain⟨R,aa⟩:=h4;go_in;go_wp2;exact bR (v:=Oa #[M J (d-i),M J (f-j)]) (by simp[results,Tryz.results240,go_sem]) rfl ⟨rfl,eA⟩
def zO w d f i j(l:Bd 1000000000 d)(p:Bd 1000000000 f)(r:Bd 1000000000 i)(h4:Bd 1000000000 j):Calls Tryz.prog 272 #[Oa #[M J d,M J f],Oa #[M J i,M J j]] w fun e w'=>e=.returned (M J (d*j-f*i))/\Aa w w':=by obtain⟨t,m2⟩:=l.mul h4;obtain⟨u,x⟩:=p.mul r;have y:IntKind.i64.wrap (d*j)=d*j:=iW _ ⟨by omega,by omega⟩;have z:IntKind.i64.wrap (f*i)=f*i:=iW _ ⟨by omega,by omega⟩;have K:IntKind.i64.wrap (d*j-f*i)=d*j-f*i:=iW _ ⟨by omega,by omega⟩;clear t m2 u x l p r h4;go_in;go_wp2;go_ret;exact⟨by first|rfl|simp[*],eA⟩
def Ie(p q r:Int×Int):Int:=(q.1-p.1)*(r.2-q.2)-(q.2-p.2)*(r.1-q.1)
def GK w i j d f l p(h1:Bd 100000000 i)(h2:Bd 100000000 j)(h3:Bd 100000000 d)(h4:Bd 100000000 f)(h5:Bd 100000000 l)(h6:Bd 100000000 p):Calls Tryz.prog 245 #[Oa #[M J i,M J j],Oa #[M J d,M J f],Oa #[M J l,M J p]] w fun e w'=>e=.returned (M J (Ie (i,j) (d,f) (l,p)))/\Aa w w':=by
 have y:=ka h1;have z:=ka h2;have r:=ka h3;have t:=ka h4;have K:=ka h5;have R:=ka h6;clear h1 h2 h3 h4 h5 h6;go_in;go_wp2;go_region_held3 (fun W=>W.cell? ⟨w.heap.size,0,X⟩=Y (M J i)/\W.cell? ⟨w.heap.size,1,X⟩=Y (M J j)/\W.cell? ⟨w.heap.size+1,0,X⟩=Y (M J d)/\W.cell? ⟨w.heap.size+1,1,X⟩=Y (M J f)/\W.cell? ⟨w.heap.size+1+1,0,X⟩=Y (M J l)/\W.cell? ⟨w.heap.size+1+1,1,X⟩=Y (M J p)) ((repeat' (with_reducible refine And.intro ?_ ?_))<;>(first|(go_simp;done)|(refine hx1.d ?_;go_simp;done))) (first|((go_at_call 240;(with_reducible refine(Rt _ d f i j (r.o.mono dM) (t.o.mono dM) (y.o.mono dM) (z.o.mono dM)).mono ?_);rintro e w1 ⟨rfl,hx1⟩;obtain⟨⟨aj,am⟩,aa,ab,ac⟩:=Ub w hx1))|((go_at_call 240;(with_reducible refine(Rt _ l p d f (K.o.mono dM) (R.o.mono dM) (r.o.mono dM) (t.o.mono dM)).mono ?_);rintro e w2 ⟨rfl,u⟩;obtain⟨⟨ak,an⟩,ad,ae,af⟩:=Ub w u))|((go_at_call 272;(with_reducible refine(zO _ (d-i) (f-j) (l-d) (p-f) ((r.o.sub y.o).mono dM) ((t.o.sub z.o).mono dM) ((K.o.sub r.o).mono dM) ((R.o.sub t.o).mono dM)).mono ?_);rintro e w3 ⟨rfl,x⟩;obtain⟨⟨al,ao⟩,ag,ah,ai⟩:=Ub w x)))
 all_goals go_wp2
 go_ret;exact⟨rfl,eA⟩
def Ra(n a b:Int):Bool:=decide (a<=n)&&decide (n<=b)
def Vh w n a b:Calls Tryz.prog 160 #[M J n,M J a,M J b] w fun e w'=>e=.returned (Z (Ra n a b))/\Aa w w':=by
 unfold Ra;by_cases h:a<=n
 ·have d:decide (a<=n)=true:=by simpa using h
  go_in;go_wp2;go_ret;exact⟨by simp[d],eA⟩
 ·have d:decide (a<=n)=false:=by simpa using h
  go_in;go_wp2;go_ret;exact⟨by simp[d],eA⟩
def Jo w n:Calls Tryz.prog 274 #[M J n] w fun e w'=>e=.returned (Z false)/\Aa w w':=by go_in;go_wp2;go_ret;exact⟨rfl,eA⟩
def oF w a b:Calls Tryz.prog 248 #[M J a,M J b] w fun e w'=>e=.returned (M J (Gc a b))/\Aa w w':=by
 have f:a<b->Calls Tryz.prog 248 #[M J a,M J b] w fun e w'=>e=.returned (M J (Gc a b))/\Aa w w':=by
  intro h;have e:Gc a b = -1:=by unfold Gc;(repeat' split)<;>omega
  rw[e];clear e
  first|subst h|skip
  go_in;go_wp2_with(((go_at_call 274;(with_reducible refine(Jo _ _).mono ?_);rintro e l ⟨rfl,d⟩)));go_ret;exact⟨rfl,eA⟩
 have i:a=b->Calls Tryz.prog 248 #[M J a,M J b] w fun e w'=>e=.returned (M J (Gc a b))/\Aa w w':=by
  intro h;have e:Gc a b=0:=by unfold Gc;(repeat' split)<;>omega
  rw[e];clear e
  first|subst h|skip
  go_in;go_wp2_with(((go_at_call 274;(with_reducible refine(Jo _ _).mono ?_);rintro e l ⟨rfl,d⟩)));go_ret;exact⟨rfl,eA⟩
 have j:b<a->Calls Tryz.prog 248 #[M J a,M J b] w fun e w'=>e=.returned (M J (Gc a b))/\Aa w w':=by
  intro h;have e:Gc a b=1:=by unfold Gc;(repeat' split)<;>omega
  rw[e];clear e
  first|subst h|skip
  go_in;go_wp2_with(((go_at_call 274;(with_reducible refine(Jo _ _).mono ?_);rintro e l ⟨rfl,d⟩)));go_ret;exact⟨rfl,eA⟩
 rcases Int.lt_trichotomy a b with h|h|h
 ·exact f h
 ·exact i h
 ·exact j h
def Ed(way:Int)(p q:Rat):Rat:=if yb q p=way then q else p
def Sc(way:Int):List Rat->Rat
 | []=>0
 | x::xs=>xs.foldl (Ed way) x
def MO way xs x(h:xs≠[]):Sc way (xs++[x])=Ed way (Sc way xs) x:=by
 cases xs with
 | nil=>exact absurd rfl h
 | cons y d=>simp[Sc]
def Mq way p q:Ed way p q=p\/Ed way p q=q:=by unfold Ed;split<;>simp
def WN way(P:Rat->Prop) xs(h:∀x∈xs,P x)(j:P 0):P (Sc way xs):=by
 cases xs with
 | nil=>exact j
 | cons x xs =>
  have:∀(d:List Rat)(a:Rat),P a->(∀y∈d,P y)->P (d.foldl (Ed way) a):=by
   intro d;induction d with
   | nil=>intro a i _;exact i
   | cons y d p =>
    intro a i f;refine p _ ?_ (fun z l=>f z (mC _ l));rcases Mq way a y with e|e<;>rw[e]
    ·exact i
    ·exact f y sM
  exact this xs x (h x sM) (fun y f=>h y (mC _ f))
def Rb.zero{k}(d:1<=k):Rb k 0:=⟨by have:=jj Pn k;unfold Lm;simp;omega,RE d⟩
def mw w va vb p q way j(R:Sa w va p)(hb:Sa w vb q)(aa:Rb Vb p)(ab:Rb Vb q)(hw:w.cell? ⟨j,0,X⟩=Y (M J way)):Calls Tryz.prog 224 #[va,vb,.pointer (Y ⟨j,0,X⟩)] w (Nd w (Ed way p q)):=by
 obtain⟨a,m,c,s,a2,m2,c2,rfl⟩:=R.form;obtain⟨t,x,u,y,d,i,f,rfl⟩:=hb.form;have z:=ka aa;have K:=ka ab;clear aa ab;have zw:j<w.heap.size:=World.block_lt_of_cell? w _ hw;have ai:j<w.heap.size+1:=oM;have aj:j<w.heap.size+1+1:=oM;by_cases l:yb q p=way
 ·have af:(yb q p==way)=true:=by simpa using l
  have hR:Sa w (Oa #[O t x u,Z y,O d i f]) (Ed way p q):=by unfold Ed;first|(rw[if_pos l];exact hb)|(rw[if_neg l];exact R)
  clear l;go_in;go_wp2;go_region_held3 (fun W=>W.cell? ⟨w.heap.size,0,X⟩=Y (O a m c)/\W.cell? ⟨w.heap.size,1,X⟩=Y (Z s)/\W.cell? ⟨w.heap.size,2,X⟩=Y (O a2 m2 c2)/\W.cell? ⟨w.heap.size+1,0,X⟩=Y (O t x u)/\W.cell? ⟨w.heap.size+1,1,X⟩=Y (Z y)/\W.cell? ⟨w.heap.size+1,2,X⟩=Y (O d i f)/\W.cell? ⟨j,0,X⟩=Y (M J way)) ((repeat' (with_reducible refine And.intro ?_ ?_))<;>(first|(go_simp;done)|(refine hx1.d ?_;go_simp;done))) (((go_at_call 75;(with_reducible refine(Yj _ (Oa #[O t x u,Z y,O d i f]) (Oa #[O a m c,Z s,O a2 m2 c2]) q p ?_ ?_ K.o z.o).mono ?_);(refine hb.ext ?_;exact eA);(refine R.ext ?_;exact eA);rintro e w1 ⟨rfl,hx1⟩;obtain⟨⟨r,ag⟩,ac,ad,ae⟩:=Ub w hx1;(have ah:=hx1.lt (n:=j) (by simp only[wZ,jc];omega)))))
  all_goals go_wp2
  exact bR (v:=Oa #[O t x u,Z y,O d i f]) (by simp[results,Tryz.results224,go_sem,r]) rfl ⟨_,rfl,Sa.keep (w:=w1) (hR.ext eA) kA,eA⟩
 ·have af:(yb q p==way)=false:=by simpa using l
  have hR:Sa w (Oa #[O a m c,Z s,O a2 m2 c2]) (Ed way p q):=by unfold Ed;first|(rw[if_pos l];exact hb)|(rw[if_neg l];exact R)
  clear l;go_in;go_wp2;go_region_held3 (fun W=>W.cell? ⟨w.heap.size,0,X⟩=Y (O a m c)/\W.cell? ⟨w.heap.size,1,X⟩=Y (Z s)/\W.cell? ⟨w.heap.size,2,X⟩=Y (O a2 m2 c2)/\W.cell? ⟨w.heap.size+1,0,X⟩=Y (O t x u)/\W.cell? ⟨w.heap.size+1,1,X⟩=Y (Z y)/\W.cell? ⟨w.heap.size+1,2,X⟩=Y (O d i f)/\W.cell? ⟨j,0,X⟩=Y (M J way)) ((repeat' (with_reducible refine And.intro ?_ ?_))<;>(first|(go_simp;done)|(refine hx1.d ?_;go_simp;done))) (((go_at_call 75;(with_reducible refine(Yj _ (Oa #[O t x u,Z y,O d i f]) (Oa #[O a m c,Z s,O a2 m2 c2]) q p ?_ ?_ K.o z.o).mono ?_);(refine hb.ext ?_;exact eA);(refine R.ext ?_;exact eA);rintro e w1 ⟨rfl,hx1⟩;obtain⟨⟨r,ag⟩,ac,ad,ae⟩:=Ub w hx1;(have ah:=hx1.lt (n:=j) (by simp only[wZ,jc];omega)))))
  all_goals go_wp2
  exact bR (v:=Oa #[O a m c,Z s,O a2 m2 c2]) (by simp[results,Tryz.results224,go_sem,r]) rfl ⟨_,rfl,Sa.keep (w:=w1) (hR.ext eA) kA,eA⟩
def TR(w:I)(way:Int)(d:List Rat)(g:Nat)(e:C)(W:I):Prop:=
 ∃i:Nat,i<=d.length/\e=M J i/\g=d.length-i/\Aa w W/\RB W w.heap.size 0/\RB W (w.heap.size+1) (Sc way (d.take i))
def jM w v d way bw(hs:Sf w v d)(hb:∀q∈d,Rb Vb q)(hw:w.cell? ⟨bw,0,X⟩=Y (M J way)):Calls Tryz.prog 223 #[v,.func (.func 224) #[] #[.pointer (Y ⟨bw,0,X⟩)]] w (Nd w (Sc way d)):=by
 obtain⟨a,c,rfl⟩:=hs.form;obtain⟨n,hn⟩:=gX d.length;rw[hn]at hs ⊢;have z:=hs.le;unfold maxLen at z;have f:=ka hn;have Hb:=ka hb;have zw:bw<w.heap.size:=World.block_lt_of_cell? w _ hw;have ap:n<=9223372036854775807:=oM;clear hn hb z;go_in;go_wp2;go_loopg [10] n (TR w way d)
 case atStart =>
  refine⟨0,by omega,rfl,by rw[f.o];rfl,eA,RB.ext (W:=w.alloc (Ob #[O X 0 0,Z false,O X 0 0] 63)) (RB.new (Sa.zero _) rfl) eA,RB.new (Sa.zero _) sM⟩
 case round =>
  obtain⟨i,hi,rfl,rfl,hx,hR,hO⟩:=hrel;rw[f.o]at hi;have Hx:=ka hx;obtain⟨a0,m0,c0,s0,ak,ar,al,r0,r1,r2,ax,ay,az,zr,aq⟩:=hR.rd;obtain⟨a1,m1,c1,s1,t,ac,u,o0,o1,o2,au,av,aw,zo,r⟩:=hO.rd;by_cases ah:i<n
  ·obtain⟨x,p⟩:∃x,d[i]?=Y x:=⟨d[i]'(by rw[f.o];omega),by simp[f.o,ah]⟩;obtain⟨b,o,a3,m3,c3,s3,a4,m4,c4,rfl,am,ab,e0,e1,e2⟩:=(hs.f hx).at' p;have l:=ka p;clear p;by_cases h0:i=0
   ·(have af:((i:Int)==0)=true:=by simp;omega);have H0:=ka h0;clear h0;go_wp2;go_roundg (n-(i+1))
    case measure=>have:=f.o;omega
    case rel =>
     have j:=hO.not;have e:Sc way (d.take (i+1))=x:=by
      have:=H0.o;subst this;rw[Uf _ _ _ l.o];simp[Sc]
     exact⟨i+1,by have:=f.o;omega,by go_num,by rw[f.o],eA,
      (((hR.other dO j _).other dO (j.set _ _) _).other dO ((j.set _ _).set _ _) _).ext ((eR _).alloc _),
      by rw[e];exact(hO.put ab).ext ((eR _).alloc _)⟩
   ·(have af:((i:Int)==0)=false:=by simp;omega);have H0:=ka h0;have ad:Ta (Rb Vb (Sc way (d.take i))):=ka (WN way _ _ (fun q hq=>Hb.o q (List.mem_of_mem_take hq)) (Rb.zero dM));have ae:Ta (Rb Vb x):=ka (Hb.o x (lM l.o));clear h0;go_wp2_with(((go_at_call 224;(with_reducible refine(mw _ (Oa #[O a1 m1 c1,Z s1,O t ac u]) (Oa #[O a3 m3 c3,Z s3,O a4 m4 c4]) (Sc way (d.take i)) x way bw ?_ ?_ ad.o ae.o ?_).mono ?_);(refine r.ext ?_;exact eA);(refine ab.ext ?_;exact eA);(refine Aa.d (a:=w) ?_ hw;exact eA);rintro e w1 ⟨r1,rfl,K,R⟩;obtain⟨b1,n1,k1,t1,b2,n2,k2,rfl⟩:=K.form;obtain⟨⟨an,ao⟩,ai,aj⟩:=Yb w R)));go_roundg (n-(i+1))
    case measure=>have:=f.o;omega
    case rel =>
     have aa:Aa wr w1:=((eR wr).alloc _).trans R;have y:=hO.ext aa;have ag:=hR.ext aa;have j:=y.not;have e:Sc way (d.take (i+1))=Ed way (Sc way (d.take i)) x:=by
      rw[Uf _ _ _ l.o,MO];intro h;(have h2:(d.take i).length=0:=by rw[h];rfl);rw[List.length_take,f.o]at h2;have:=H0.o;omega
     exact⟨i+1,by have:=f.o;omega,by go_num,by rw[f.o],eA,
      (((ag.other dO j _).other dO (j.set _ _) _).other dO ((j.set _ _).set _ _) _),
      by rw[e];exact y.put K⟩
  ·obtain rfl:i=n:=oM;have e:Sc way (d.take i)=Sc way d:=by rw[lT (by rw[f.o];omega)]
   rw[e]at r;clear e;have j:=hR.not;go_wp2;exact bR (v:=Oa #[O a1 m1 c1,Z s1,O t ac u]) (by simp[results,Tryz.results223,go_sem,r0,r1,r2]) rfl ⟨_,rfl,r.keep kA,eA⟩
def nQ w v f way(j:Sf w v f)(r:∀q∈f,Rb Vb q):Calls Tryz.prog 176 #[v,M J way] w (Nd w (Sc way f)):=by obtain⟨a,c,rfl⟩:=j.form;have aa:∀(p:Fn)(first cap:Array C)(w:I),(Instr.makeFunc p first cap).run Tryz.prog w = .ok (.func p first cap) w:=fun _ _ _ _=>rfl;have y:=ka r;obtain⟨n,t⟩:=gX f.length;rw[t]at j ⊢;clear r t;go_in;go_wp2_with(((go_at_call 223;(with_reducible refine(jM _ (O a n c) f way w.heap.size ?_ y.o ?_).mono ?_);(refine j.f ?_;exact eA);(focus(go_simp;done));rintro e w1 ⟨r1,rfl,d,l⟩;obtain⟨z,n1,k1,t1,K,n2,k2,rfl⟩:=d.form;obtain⟨⟨i,R⟩,u,x⟩:=Yb w l)));exact bR (v:=Oa #[O z n1 k1,Z t1,O K n2 k2]) (by simp[results,Tryz.results176,go_sem,i]) rfl ⟨_,rfl,d.keep kA,eA⟩
def qu w v f(j:Sf w v f)(p:∀q∈f,Rb Vb q):Calls Tryz.prog 110 #[v] w (Nd w (Sc (-1) f)):=by obtain⟨a,c,rfl⟩:=j.form;have u:=ka p;obtain⟨n,r⟩:=gX f.length;rw[r]at j ⊢;clear p r;go_in;go_wp2_with(((go_at_call 176;(with_reducible refine(nQ _ (O a n c) f (-1) ?_ u.o).mono ?_);(refine j.f ?_;exact eA);rintro e w1 ⟨r1,rfl,d,l⟩;obtain⟨x,n1,K,t1,y,n2,R,rfl⟩:=d.form;obtain⟨⟨i,z⟩,t⟩:=oe w l)));exact bR (v:=Oa #[O x n1 K,Z t1,O y n2 R]) (by simp[results,Tryz.results110,go_sem,i]) rfl ⟨_,rfl,d.keep kA,eA⟩
def ru w v f(j:Sf w v f)(p:∀q∈f,Rb Vb q):Calls Tryz.prog 112 #[v] w (Nd w (Sc (1) f)):=by obtain⟨a,c,rfl⟩:=j.form;have u:=ka p;obtain⟨n,r⟩:=gX f.length;rw[r]at j ⊢;clear p r;go_in;go_wp2_with(((go_at_call 176;(with_reducible refine(nQ _ (O a n c) f (1) ?_ u.o).mono ?_);(refine j.f ?_;exact eA);rintro e w1 ⟨r1,rfl,d,l⟩;obtain⟨x,n1,K,t1,y,n2,R,rfl⟩:=d.form;obtain⟨⟨i,z⟩,t⟩:=oe w l)));exact bR (v:=Oa #[O x n1 K,Z t1,O y n2 R]) (by simp[results,Tryz.results112,go_sem,i]) rfl ⟨_,rfl,d.keep kA,eA⟩
def jo(_:Nat)(p:Prop):Prop:=p
def sN k{p}(h:jo k p):p:=h
def oN{k p}(h:p):jo k p:=h
def NQ(Q:Exit->Act->I->Prop):Exit->Act->I->Prop
 | .normal,a,w=>Q .normal a w
 | _,_,_=>False
def fg{Q}:¬LetsOut (NQ Q):=fun⟨_,_,h⟩=>h
def ji(ops:Array Oper):Bool:=ops.all fun o=>match o.op with | .defer _=>false|_=>true
def CO{ops}(h:ji ops=true){i:Nat}{o}(f:ops[i]?=Y o):∀c,o.op ≠ .defer c:=by intro c d;unfold ji at h;rw[Array.all_eq_true]at h;obtain⟨e,rfl⟩:=Array.getElem?_eq_some_iff.1 f;have:=h i e;rw[d]at this;cases this
def MA{l n P row args w R}(h:Rows P row args w R):RowsIn (Fence.wide.inRound l) n P row args w R:=by intro c cs _;obtain⟨v,w',r,s⟩:=h c cs;exact⟨v,w',r,stepsIn_wide.2 s⟩
def BO{l n P}{o:Oper}{a w K Q}(p:∀c,o.op ≠ .defer c)(h:o.wp P a w K (NQ Q)):o.wpIn (Fence.wide.inRound l) n P a w K Q:=by
 refine⟨fun _ _=>trivial,?_⟩;rw[Oper.semAt_plain _ _ _ p];unfold Oper.wp at h;generalize (execOp a.eval o).run P w=r at *
 have i:(Fence.wide.inRound l).depth.isSome=true->1<=n:=fun h=>by cases h
 cases r with
 | ok x w' =>
  cases x with
  | value u=>exact h
  | skip=>exact h
  | defer d=>exact h
  | enter f args =>
   refine⟨i,CallsIn.inRound l (callsIn_wide.2 (cM h fun e t j=>?_))⟩;cases e with
   | returned u=>exact j
   | panicked c=>exact j.elim
   | outgrown=>exact(fg j).elim
  | row row args=>exact⟨i,MA h⟩
  | _=>exact h.elim
 | halt x w' =>
  cases x<;>first|exact h.elim|skip
def ly{l n P md ops Q}(f:ji ops=true):∀ fuel  d  a  w ,wpAny P md ops (NQ Q) fuel d a w->wpAnyIn (Fence.wide.inRound l) n P md ops Q fuel d a w
 | 0,_,_,_,h=>h
 | fuel+1,d,a,w,h=>by
  refine⟨h.1,fun i r=>?_⟩;have e:=h.2 i r;unfold wpOp at e;unfold wpOpIn;cases ho:ops[i]? with
  | none=>rw[ho]at e;exact ly f fuel _ a w e
  | some o =>
   rw[ho]at e;dsimp only at e ⊢;split
   ·rename_i hw;rw[if_pos hw]at e;rcases e with e|⟨_,e⟩
    ·exact Oper.wpIn_mono (fun j w' p=>ly f fuel _ j w' p) (BO (CO f ho) e)
    ·exact(fg e).elim
   ·rename_i hw;rw[if_neg hw]at e;exact⟨fun _ _=>trivial,ly f fuel _ _ w e⟩
def yq{l n P ops Q S i a w}(f:P.follows .mixedOrders=true)(e:ji ops=true)(d:S w.drew)(h:S w.drew->wpAnyH P .any ops (NQ Q) S ops.size (Array.replicate ops.size false) a w.drew):(Code.region i ops true).wpIn (Fence.wide.inRound l) n P Q a w:=
 wpIn_region_any f (ly e _ _ _ _ (wpAny_of_held _ _ _ _ (h d)))
end
section
open Go.RowKit Go.Shelf Go.Sort
def EE{α}[Inhabited α] enc{k}(hk:∀x,(enc x).length=k)(d:Array α):(flatK enc k d).toList=(d.toList.map enc).flatten:=by
 have f:∀c∈d.toList.map enc,c.length=k:=fun c y=>by obtain⟨x,_,rfl⟩:=List.mem_map.1 y;exact hk x
 apply List.ext_getElem?;intro t;by_cases l:t<d.size*k
 ·have i:0<k:=by
   rcases Nat.eq_zero_or_pos k with h|h
   ·subst h;simp at l
   ·exact h
  have u:t/k<d.size:=by rw[Nat.div_lt_iff_lt_mul i];exact l
  have p:t%k<k:=Nat.mod_lt _ i;have e:(d.toList.map enc)[t/k]?=Y (enc d[t/k]!):=by
   rw[lP,Array.getElem?_toList,Array.getElem?_eq_getElem u,Option.map_some,getElem!_pos d _ u]
  have r:=Mr (j:=t%k) f e p;rw[show t/k*k+t%k=t by rw[Nat.mul_comm];exact Nat.div_add_mod t k]at r;rw[r,Array.getElem?_toList,Array.getElem?_eq_getElem (by simpa using l)];rw[<-getElem!_pos (flatK enc k d) t (by simpa using l),get_flatK enc k d t l,gE (by rw[hk];exact p),getElem!_pos _ _ (by rw[hk];exact p)]
 ·rw[List.getElem?_eq_none (by simp;omega),List.getElem?_eq_none (by rw[Ll f];simp;omega)]
def xI{α}[Inhabited α]{enc k w g m os cur e fr}(d:Array α)(hb:w.heap[g]?=Y (Ob cur e fr)):(sortWorldK enc k w g 0 m d os).heap[g]?=Y (Ob (putCells id 0 (flatK enc k d) cur) e fr):=by have f:g<w.heap.size:=(Array.getElem?_eq_some_iff.1 hb).1;unfold sortWorldK putRowK;rw[heap_grow_old _ _ (by simpa using f)];simp[putRow,mapBlock,Sort.ahead,Array.getElem?_modify,hb,onCells]
def nu{α}[Inhabited α]{enc k}{w:I}{g m os}(d:Array α):w.grownBy (sortWorldK enc k w g 0 m d os) (Y g):=by unfold sortWorldK putRowK;refine⟨rfl,rfl,rfl,by simp,fun j i f=>?_⟩;rw[heap_grow_old _ _ (by simpa using i)];have:g≠j:=fun e=>f (by rw[e]);simp[putRow,mapBlock,Sort.ahead,Array.getElem?_modify,this]
def ON cur F(h:F.size<=cur.size):(putCells id 0 F cur).toList.take F.size=F.toList:=by
 apply List.ext_getElem?;intro j;by_cases d:j<F.size
 ·rw[List.getElem?_take_of_lt d,Array.getElem?_toList];simp[putCells,d,show j<cur.size by omega]
 ·rw[List.getElem?_take_eq_none oM,List.getElem?_eq_none (by simp;omega)]
def Bx{α}[Inhabited α]{enc T k w base g n cap m os}(hk:∀x,(enc x).length=k){d d':Array α}(h:Ka T k w base (O (Y ⟨g,0,X⟩) n cap) (d.toList.map enc))(hs:d'.size=d.size):Ka T k (sortWorldK enc k w g 0 m d' os) base (O (Y ⟨g,0,X⟩) n cap) (d'.toList.map enc):=by
 have i:∀c∈d'.toList.map enc,c.length=k:=fun c u=>by obtain⟨x,_,rfl⟩:=List.mem_map.1 u;exact hk x
 have K:=h.len;have e:(d'.toList.map enc).length=(d.toList.map enc).length:=by simp[hs]
 subst K;refine⟨i,Ll i,?_⟩;rcases h.2.2 with ⟨t,_⟩|⟨g',p,cur,hv,y,z,j,l,f,R⟩
 ·cases t
 ·cases hv;have r:(flatK enc k d').size=(d'.toList.map enc).length*k:=sM;refine .inr ⟨g,cap,_,by rw[e],y,xI d' z,by rw[e];exact j,l,by simp[putCells,f],?_⟩;rw[<-EE enc hk d',<-r,ON _ _ (by rw[r,e,f];exact Nat.mul_le_mul_right _ j)]
def UE{α}[Inhabited α]{enc T k w base g n cap}(hk:∀x,(enc x).length=k){d:Array α}(h:Ka T k w base (O (Y ⟨g,0,X⟩) n cap) (d.toList.map enc)):HoldsK enc k w g 0 d:=by intro t e;rw[size_flatK]at e;have i:=h.len;have f:(d.toList.map enc).length=d.size:=sM;subst i;refine⟨?_,by rw[Nat.zero_add];exact h.frozen t⟩;rw[Nat.zero_add,World.ownsRow.cellAt h.2 t (by rw[f];exact e),<-EE enc hk d,Array.getElem?_toList,Array.getElem?_eq_getElem (by rw[size_flatK];exact e),getElem!_pos _ _ (by rw[size_flatK];exact e)];rfl
end
section
open Go.ChangeShapes Go.WideShapes Go.Deep
section
variable {H:Type} {enc:TypeId×Value->H} {P:Program} {w:World} {spare:Nat->Bool} {held:Bool}
def OC{k}:∀{e:List (List Value)}{j x},0<k->(∀c∈e,c.length=k)->e.flatten[j]?=some x->∃d,e[j/k]?=some d/\d[j%k]?=some x
 | [],j,x,_,_,h=>by simp at h
 | c::e,j,x,hk,hc,h=>by
  have r:c.length=k:=hc c sM;rw[List.flatten_cons]at h;by_cases i:j<k
  ·rw[List.getElem?_append_left oM]at h;rw[Nat.div_eq_of_lt i,Nat.mod_eq_of_lt i];exact⟨c,rfl,h⟩
  ·rw[List.getElem?_append_right oM,r]at h;obtain⟨d,l,p⟩:=OC (j:=j-k) hk (fun c f=>hc c (mC _ f)) h;rw[Nat.div_eq_sub_div hk oM,Nat.mod_eq_sub_mod oM];exact⟨d,by simpa using l,p⟩
def Tv{t e k fuel cs x}(ht:P.underlying t=some (.slice e))(hk:P.cellsOf e=k)(K:0<k)(h:DataW.trod enc P w 0 spare held fuel t cs=some x):∃(a:Option Addr)(n c:Nat)(T:TypeId)(u:List (List Value)),cs=[.slice a n c]/\u.length=n/\(∀d∈u,d.length=k)/\Rd w T k (.slice a n c) n u.flatten/\∀d∈u,∃m y,DataW.trod enc P w 0 spare held m e d=some y:=by
 rcases open_slice ht h with ⟨rfl,_⟩|⟨a,len,cap,m,f,D,Pl,rfl,_,hl,hm,ac,_,ab⟩
 ·exact⟨none,0,0,0,[],rfl,rfl,by simp,Rd.nil w 0 k,by simp⟩
 ·have ag:len<=m:=by rw[ac];split<;>omega
  rw[hk]at ab;obtain⟨F,hF⟩:=choose_lt (α:=List Value) (n:=len) (p:=fun i d=>w.cells? 0 (a.add (i*k)) k=some d/\DataW.trod enc P w 0 spare held f e d=some (D i,Pl i)) (fun i r=>ab i oM);have l:∀d∈(List.range len).map F,d.length=k:=by
   intro d hd;obtain⟨i,r,rfl⟩:=List.mem_map.1 hd;exact(World.cells?_some (hF i (List.mem_range.1 r)).1).2.1
  have aa:∀d∈(List.range len).map F,∃m y,DataW.trod enc P w 0 spare held m e d=some y:=by
   intro d hd;obtain⟨i,r,rfl⟩:=List.mem_map.1 hd;exact⟨f,_,(hF i (List.mem_range.1 r)).2⟩
  by_cases h0:len=0
  ·subst h0;exact⟨some a,0,cap,0,[],rfl,rfl,by simp,⟨by simp,some a,cap,rfl,hl,hm,.inl ⟨rfl,fun e=>by cases e⟩⟩,by simp⟩
  ·have R:=(World.cells?_some (hF 0 oM).1).2.2 0 K;have af:=l (F 0) (List.mem_map.2 ⟨0,List.mem_range.2 oM,rfl⟩);obtain⟨v0,ae⟩:∃v,(F 0)[0]?=some v:=⟨(F 0)[0]' oM,by simp⟩;rw[ae]at R;obtain⟨b,o,sp⟩:=a;have ad:sp=none:=by
    have:=World.cell?_spot R;simpa[Addr.add] using this
   subst ad;have e0:((⟨b,o,none⟩:Addr).add (0*k)).add 0=⟨b,o,none⟩:=by simp[Addr.add]
   rw[e0]at R;obtain⟨blk,T,fr,z⟩:∃blk T fr,w.heap[b]?=some (.cells blk T fr):=by
    unfold World.cell? at R;split at R
    ·rename_i blk T fr hb;exact⟨blk,T,fr,hb⟩
    ·cases R
   refine⟨some ⟨b,o,none⟩,len,cap,T,(List.range len).map F,rfl,by simp,l,⟨?_,some ⟨b,o,none⟩,cap,rfl,hl,hm,.inr ⟨b,o,blk,fr,rfl,z,fun j y hj=>?_⟩⟩,aa⟩
   ·rw[Ll l];simp
   ·obtain⟨d,h1,h2⟩:=OC K l hj;obtain⟨r,rfl⟩:j/k<len/\F (j/k)=d:=by
     rw[lP]at h1;by_cases r:j/k<len
     ·rw[List.getElem?_range r]at h1;exact⟨r,Option.some.inj h1⟩
     ·rw[List.getElem?_eq_none (by simpa using r)]at h1;cases h1
    have c1:=(World.cells?_some (hF (j/k) r).1).2.2 (j%k) (Nat.mod_lt _ K);rw[h2]at c1;have e1:((⟨b,o,none⟩:Addr).add (j/k*k)).add (j%k)=⟨b,o+j,none⟩:=by
     rw[add_add];(have:j/k*k+j%k=j:=by rw[Nat.mul_comm];exact Nat.div_add_mod j k);rw[this];unfold Addr.add;split
     ·rename_i h;rw[h];rfl
     ·rfl
    rw[e1]at c1;simpa[World.cell?,z] using c1
end
end
section
open Go.RowKit Go.Shelf
def Kg(md:Region.Mode)(ops:Array Oper)(j:Nat):List Nat:=match ops[j]? with|some o=>(o.after.toList.filter (Region.binds md)).map (·.on)|none=>[]
def Ek(md:Region.Mode)(ops:Array Oper):Nat->Nat->List Nat
 | 0,j=>Kg md ops j
 | n+1,j=>Kg md ops j++(Kg md ops j).flatMap (Ek md ops n)
def Wi(md:Region.Mode)(ops:Array Oper)(late:Nat->Bool)(n:Nat):Bool:=
 (List.range ops.size).all fun j=>!late j || ((List.range ops.size).all fun i=>late i || (Ek md ops n j).contains i)
def Cl(md:Region.Mode)(ops:Array Oper)(d:Array Bool):Prop:=∀k o,ops[k]?=Y o->d.getD k false=true->∀e∈o.after,Region.binds md e=true->d.getD e.on false=true
section
variable {n:Nat} {P:Program} {ops:Array Oper} {Q:Exit->Act->I->Prop} {md:Region.Mode} {S:I->Prop} {late:Nat->Bool}
def jy{d:Array Bool}{j}(h:∀o,ops[j]?=Y o->∀e∈o.after,Region.binds md e=true->d.getD e.on false=true):∀k∈Kg md ops j,d.getD k false=true:=by
 intro k f;unfold Kg at f;cases ho:ops[j]? with
 | none=>rw[ho]at f;cases f
 | some o =>
  rw[ho]at f;obtain⟨e,p,rfl⟩:=List.mem_map.1 f;obtain⟨i,l⟩:=List.mem_filter.1 p;exact h o ho e (by simpa using i) l
def Qn{d}(l:Cl md ops d):∀ n j ,(∀o,ops[j]?=Y o->∀e∈o.after,Region.binds md e=true->d.getD e.on false=true)->∀k∈Ek md ops n j,d.getD k false=true
 | 0,j,h=>jy h
 | n+1,j,h=>by
  intro k f;rcases List.mem_append.1 f with f|f
  ·exact jy h k f
  ·obtain⟨i,r,f⟩:=List.mem_flatMap.1 f;have p:=jy h i r;exact Qn l n i (fun o t=>l i o t p) k f
def yP{d m i j}(x:Wi md ops late m=true)(R:Cl md ops d)(hi:i∈Region.ready md ops d)(hl:late i=false)(hj:j∈Region.ready md ops d):late j=false:=by
 cases hlj:late j with
 | false=>rfl
 |true=>
  exfalso;obtain⟨z,oj,l,f⟩:=mem_ready.1 hj;obtain⟨e,oi,y,_⟩:=mem_ready.1 hi;unfold Wi at x;rw[List.all_eq_true]at x;have r:=x j (List.mem_range.2 (Array.getElem?_eq_some_iff.1 l).1);rw[hlj]at r;simp only[Bool.not_true,Bool.false_or,List.all_eq_true]at r;have t:=r i (List.mem_range.2 (Array.getElem?_eq_some_iff.1 y).1);rw[hl]at t;simp only[Bool.false_or,List.contains_eq_mem,decide_eq_true_eq]at t;have u:=Qn R m j (fun o K=>by rw[l]at K;cases K;exact f) i t;rcases Nat.lt_or_ge i d.size with p | p
  ·simp[p]at u e;rw[u]at e;cases e
  ·simp[Array.getElem?_eq_none p]at u
def Cl.step{d}(z:Cl md ops d){j}(K:j∈Region.ready md ops d):Cl md ops (d.setIfInBounds j true):=by
 intro k o y x e u t;have key:d.getD e.on false=true->(d.setIfInBounds j true).getD e.on false=true:=by
  intro h;by_cases r:e.on=j
  ·subst r;rcases Nat.lt_or_ge e.on d.size with p | p
   ·simp[p]
   ·simp[Array.getElem?_eq_none p]at h
  ·rw[getD_set_ne false (Ne.symm r)];exact h
 by_cases i:k=j
 ·subst i;obtain⟨_,R,l,f⟩:=mem_ready.1 K;rw[y]at l;cases l;exact key (f e u t)
 ·rw[getD_set_ne false (Ne.symm i)]at x;exact key (z k o y x e u t)
def Cl.start m:Cl md ops (Array.replicate m false):=by intro k o _ d;simp[Array.getD_eq_getD_getElem?,Array.getElem?_replicate]at d;split at d<;>simp at d
def HI(n:Nat)(P:Program)(md:Region.Mode)(ops:Array Oper)(Q:Exit->Act->I->Prop)(S:I->Prop)(late:Nat->Bool):Nat->Array Bool->Act->I->Prop
 | 0,d,a,w=>Region.ready md ops d=[]/\Q .normal a w
 | fuel+1,d,a,w =>
  (Region.ready md ops d=[]->Q .normal a w)/\
  ∀i∈Region.ready md ops d,wpOpIn Fence.wide n P ops Q i (fun e w'=>(late i=false->S w')/\HI n P md ops Q S late fuel (d.setIfInBounds i true) e w') a w
end
def PP(_:I)(c:List C)(p:Int×Int):Prop:=c=[M J p.1,M J p.2]
abbrev Fa(w:I)(v:C)(ps:LP):Prop:=Sl 43 2 PP w v ps
def Fa.f{w w' v ps}(h:Fa w v ps)(k:Aa w w'):Fa w' v ps:=Sl.ext h (fun _ _ h=>h) k
def Fa.z{w w' v ps}(h:Fa w v ps)(k:Ia 43 w w'):Fa w' v ps:=Sl.keep h (fun _ _ h=>h) k
def Fa.at'{w a n c ps}(h:Fa w (O a n c) ps){i p}(r:ps[i]?=Y p):∃b o,a=Y ⟨b,o,X⟩/\b<w.heap.size/\w.cell? ⟨b,o+i*2,X⟩=Y (M J p.1)/\w.cell? ⟨b,o+i*2+1,X⟩=Y (M J p.2):=by obtain⟨b,o,d,rfl,l,t,j,f⟩:=Sl.at h r;have e:d=[M J p.1,M J p.2]:=j;subst e;exact⟨b,o,rfl,l,f 0 _ rfl,f 1 _ rfl⟩
def Ff(ps:LP)(i:Int):Int×Int:=ps.getD ((i+ps.length)%ps.length).toNat (0,0)
def TP{ps i}(h:0<ps.length):∃k:Nat,k<ps.length/\(i+(ps.length:Int))%(ps.length:Int)=(k:Int)/\ps[k]?=Y (Ff ps i):=by have d:=Int.emod_nonneg (i+ps.length) (show (ps.length:Int)≠0 by omega);have e:=Int.emod_lt_of_pos (i+ps.length) (show 0<(ps.length:Int) by omega);refine⟨((i+ps.length)%ps.length).toNat,by omega,by omega,?_⟩;unfold Ff;rw[gD];have:((i+(ps.length:Int))%(ps.length:Int)).toNat<ps.length:=oM;simp only[gE this,Option.getD_some]
def MG w v ps i(h:Fa w v ps)(r:0<ps.length)(hn:ps.length<=1000000)(K:-(ps.length:Int)<=i)(u:i<=1000000):Calls Tryz.prog 246 #[v,M J i] w fun e w'=>e=.returned (Oa #[M J (Ff ps i).1,M J (Ff ps i).2])/\Aa w w':=by
 obtain⟨a,c,rfl⟩:=h.form;obtain⟨k,R,hm,d⟩:=TP (i:=i) r;obtain⟨b,o,rfl,y,l,p⟩:=h.at' d;obtain⟨x,f⟩:=gX ((Ff ps i).1);obtain⟨z,j⟩:=gX ((Ff ps i).2);rw[f]at l ⊢;rw[j]at p ⊢;clear f j d h;generalize ps.length=n at *
 have u1:(0:Int)<=i+(n:Int):=oM;have u2:(0:Int)<(n:Int):=oM;have u3:(k:Int)<(n:Int):=oM;have t:b<w.heap.size+1:=oM;go_in;go_wp2;exact bR (v:=Oa #[M J x,M J z]) (by simp[results,Tryz.results246,go_sem]) rfl ⟨rfl,eA⟩
def Va:LP->Int×Int
 | []=>(0,0)
 | p::ps=>ps.foldl (fun o q=>(min o.1 q.1,min o.2 q.2)) p
def jw(ps:LP) q(h:ps≠[]):Va (ps++[q])=(min (Va ps).1 q.1,min (Va ps).2 q.2):=by
 cases ps with
 | nil=>exact absurd rfl h
 | cons p ps=>simp[Va]
def tv(w:I)(ps:LP)(g:Nat)(d:C)(W:I):Prop:=
 ∃i:Nat,i<=ps.length/\d=M J i/\g=ps.length-i/\Aa w W/\W.heap[w.heap.size]?=Y (Ob #[M J 0,M J 0] 43 (0,0))/\
  ∃x z,(if i=0 then ps[0]?=Y (x,z)else Va (ps.take i)=(x,z))/\W.heap[w.heap.size+1]?=Y (Ob #[M J x,M J z] 43 (0,0))
def iw{ps:LP}{i x z q}(h:if i=0 then ps[0]?=Y (x,z)else Va (ps.take i)=(x,z))(d:ps[i]?=Y q):Va (ps.take (i+1))=(min x q.1,min z q.2):=by
 rw[Uf _ _ _ d];by_cases f:i=0
 ·subst f;rw[if_pos rfl]at h;rw[h]at d;cases d;simp[Va]
 ·rw[if_neg f]at h;rw[jw _ _ (by
   intro e;have:=(lS.1 d).1;have j:(ps.take i).length=0:=by rw[e];rfl
   rw[List.length_take]at j;omega),h]
def tv.step{w wr ps i n x z d e a b}(t:ps.length=n)(r:i<n)(y:Aa w wr)(j:wr.heap[w.heap.size]?=Y (Ob #[M J 0,M J 0] 43 (0,0)))(f:wr.heap[w.heap.size+1]?=Y (Ob #[M J x,M J z] 43 (0,0)))(hv:if i=0 then ps[0]?=Y (x,z)else Va (ps.take i)=(x,z))(u:ps[i]?=Y (d,e))(l:a=min x d)(p:b=min z e):tv w ps (n-(i+1)) (M J ((i:Int)+1)) (((wr.setCell ⟨w.heap.size+1,0,X⟩ (M J a)).setCell ⟨w.heap.size+1,1,X⟩ (M J b)).alloc (Ob #[M J d,M J e] 43)):=by
 have K:=Jb f;refine⟨i+1,by omega,by go_num,by rw[t],eA,?_,a,b,?_,?_⟩
 ·rw[Dg,if_neg (by simp only[yg];omega),bS _ _ _ _ dO,bS _ _ _ _ dO];exact j
 ·rw[if_neg oM,iw hv u,l,p]
 ·rw[Dg,if_neg (by simp only[yg];omega)];exact Xj f _ _
def uD w v ps(h:Fa w v ps)(h0:0<ps.length):Calls Tryz.prog 208 #[v] w fun e w'=>e=.returned (Oa #[M J (Va ps).1,M J (Va ps).2])/\Aa w w':=by
 obtain⟨a,c,rfl⟩:=h.form;obtain⟨n,K⟩:=gX ps.length;rw[K]at h ⊢;have r:=h.le;unfold maxLen at r;have ac:0<n:=oM;have ad:n<=9223372036854775807:=oM;obtain⟨p,R⟩:∃p,ps[0]?=Y p:=⟨ps[0],by simp⟩;obtain⟨x0,z0⟩:=p;obtain⟨b,o,rfl,hb,c0,c1⟩:=h.at' R;simp only[Nat.zero_mul,Nat.add_zero]at c0 c1;have ab:b<w.heap.size+1:=oM;have d:=ka K;have Hp:=ka R;clear K r R h0;go_in;go_wp2;go_loopg [11] n (tv w ps)
 case atStart =>
  refine⟨0,by omega,rfl,by rw[d.o];rfl,eA,by rw[Dg,if_neg sM];exact Bc _ _ _ rfl,x0,z0,by simpa using Hp.o,Bc _ _ _ sM⟩
 case round =>
  obtain⟨i,hi,rfl,rfl,hx,j,x,z,hv,f⟩:=hrel;rw[d.o]at hi;have r0:=Ba j (i:=0) (u:=M J 0) rfl;have r1:=Ba j (i:=1) (u:=M J 0) rfl;have ag:=Ya j 0;have ah:=Ya j 1;have o0:=Ba f (i:=0) (u:=M J x) rfl;have o1:=Ba f (i:=1) (u:=M J z) rfl;have ae:=Ya f 0;have af:=Ya f 1;have zr:=Jb j;have zo:=Jb f;have HR:=ka j;have HO:=ka f;have HV:=ka hv;clear j f hv c0 c1;by_cases t:i<n
  ·obtain⟨q,hq⟩:∃q,ps[i]?=Y q:=⟨ps[i]'(by rw[d.o];omega),by simp[d.o,t]⟩;obtain⟨b',o',e',aa,d0,d1⟩:=(h.f hx).at' hq;cases e';obtain⟨qx,qz⟩:=q;have Hq:=ka hq;clear hq;go_wp2
   all_goals
    go_roundg (n-(i+1))
    case measure=>have:=d.o;omega
    case rel =>
     exact tv.step d.o t hx HR.o HO.o HV.o Hq.o oM oM
  ·obtain rfl:i=n:=oM;have l:=HV.o;rw[if_neg oM,lT (by rw[d.o];omega)]at l;have y:=ka l;clear l;go_wp2;refine bR (v:=Oa #[M J x,M J z]) (by simp[results,Tryz.results208,go_sem,r0,r1]) rfl ⟨?_,eA⟩;rw[y.o]
def NB(W:I)(b:Nat)(n:Int):Prop:=∃s a m c,W.heap[b]?=Y (Ob #[M J s,O a m c] 66 (0,0))/\yd W (Oa #[M J s,O a m c]) n
section
variable {W W':I} {b b':Nat} {n n':Int}
def NB.ext(h:NB W b n)(k:Aa W W'):NB W' b n:=by obtain⟨s,a,m,c,d,e⟩:=h;exact⟨s,a,m,c,k.e d,e.ext k⟩
def NB.not(h:NB W b n):td 3 W b:=by obtain⟨s,a,m,c,d,i⟩:=h;intro cs f e;rw[d]at e;cases e
def NB.rd(h:NB W b n):∃s a m c,s=n.sign/\W.cell? ⟨b,0,X⟩=Y (M J s)/\W.cell? ⟨b,1,X⟩=Y (O a m c)/\W.frozen? ⟨b,0,X⟩=false/\W.frozen? ⟨b,1,X⟩=false/\b<W.heap.size/\yd W (Oa #[M J s,O a m c]) n:=by obtain⟨s,a,m,c,d,e⟩:=h;exact⟨s,a,m,c,e.sgn,Ba d (i:=0) rfl,Ba d (i:=1) rfl,Ya d 0,Ya d 1,Jb d,e⟩
def NB.put{s a m c}(h:NB W b n)(f:yd W (Oa #[M J s,O a m c]) n'):NB ((W.setCell ⟨b,0,X⟩ (M J s)).setCell ⟨b,1,X⟩ (O a m c)) b n':=by have d:=h.not;obtain⟨r,i,p,j,e,l⟩:=h;exact⟨s,a,m,c,Xj e _ _,f.keep (((Ia.refl _ W).x d _).x (d.set _ _) _)⟩
def NB.other{p}(h:NB W b n)(i:p.block≠b)(j:td 3 W p.block) u:NB (W.setCell p u) b n:=by obtain⟨s,a,m,c,d,f⟩:=h;exact⟨s,a,m,c,(bS _ _ _ _ (fun e=>i e.symm)).trans d,f.keep ((Ia.refl _ W).x j _)⟩
def NB.new{W0 s a m c}(e:yd W0 (Oa #[M J s,O a m c]) n)(d:b=W0.heap.size):NB (W0.alloc (Ob #[M J s,O a m c] 66)) b n:=
 ⟨s,a,m,c,Bc _ _ _ d,e.ext ((eR _).alloc _)⟩
end
def uy{W b cs d}(h:W.heap[b]?=Y (Ob cs 66 d)) u v:Ia 3 W ((W.setCell ⟨b,0,X⟩ u).setCell ⟨b,1,X⟩ v):=by
 have f:td 3 W b:=by intro cs d e;rw[h]at e;cases e
 exact((Ia.refl _ W).x f _).x (f.set _ _) _
def CH(n:Int):-1<=n.sign/\n.sign<=1:=by rcases Ee n with h|h|h<;>omega
def yd.neg{w s a m c n}(h:yd w (Oa #[M J s,O a m c]) n):yd w (Oa #[M J (-s),O a m c]) (-n):=by obtain⟨sl,ds,d,e,f,i⟩:=h;cases d;exact⟨_,ds,by rw[Int.sign_neg],e,f,by rw[Int.natAbs_neg];exact i⟩
def yd.abs{w s a m c n}(h:yd w (Oa #[M J s,O a m c]) n):yd w (Oa #[M J (s*s),O a m c]) (n.natAbs:Int):=by
 obtain⟨sl,ds,d,f,i,j⟩:=h;cases d;refine⟨_,ds,?_,f,i,by simpa using j⟩;rcases Ee n with ⟨e,h⟩|⟨e,h⟩|⟨e,h⟩<;>rw[e]
 ·rw[show ((n.natAbs:Int)).sign=1 from Int.sign_eq_one_of_pos oM];rfl
 ·subst h;rfl
 ·rw[show ((n.natAbs:Int)).sign=1 from Int.sign_eq_one_of_pos oM];rfl
def xF w v n(h:yd w v n):Calls Tryz.prog 193 #[v] w (Ih w (-n)):=by obtain⟨s,a,m,c,rfl,e⟩:=h.j;have d:=CH n;rw[<-e]at d;clear e;go_in;go_wp2;exact bR (v:=Oa #[M J (-s),O a m c]) (by simp[results,Tryz.results193,go_sem]) rfl ⟨_,rfl,h.neg.ext eA,eA⟩
def pA w s a m c n(h:yd w (Oa #[M J s,O a m c]) n):Calls Tryz.prog 190 #[Oa #[M J s,O a m c]] w fun e w'=>e=.returned (Oa #[M J (s*s),O a m c])/\Aa w w':=by
 have f:=h.sgn;have d:s*s=1\/s*s=0:=by rcases Ee n with ⟨e,_⟩|⟨e,_⟩|⟨e,_⟩<;>rw[f,e]<;>decide
 obtain⟨p,i⟩:=gX (s*s);rw[i]at d ⊢;have j:0<=p:=oM;have l:p<=1:=oM;clear f d h;go_in;go_wp2;exact bR (v:=Oa #[M J p,O a m c]) (by simp[results,Tryz.results190,go_sem]) rfl ⟨rfl,eA⟩
def MC w v n(h:yd w v n):Calls Tryz.prog 190 #[v] w (Ih w (n.natAbs:Int)):=by obtain⟨s,a,m,c,rfl,f⟩:=h.j;exact(pA w s a m c n h).mono fun _ _ ⟨e,d⟩=>⟨_,e,h.abs.ext d,d⟩
def KF(w:I)(n:Int)(t0 t4:C)(wr:I):Prop:=
 ∃(cur:Int)(d:List Int),t0=M J cur/\ -9223372036854775808<=cur/\cur<=9223372036854775807/\d.length<=5/\Ud C4 d/\(n.natAbs:Int)=dv C4 d+C4 ^ d.length*(cur.natAbs:Int)/\
  Db 3 wr (w.heap.size+1) t4 d/\Aa w wr/\w.heap.size<wr.heap.size/\wr.heap[w.heap.size]?=Y (Ob #[M J 0,O X 0 0] 66 (0,0))
def Dz{N c d k}(h:N=d+C4 ^ k*c)(r:0<=d)(p:N<=9223372036854775808)(f:1<=c):k<=4:=by
 by_cases e:k<=4
 ·exact e
 ·have i:=Qm (b:=C4) dM (show 5<=k by omega);have j:C4 ^ k*1<=C4 ^ k*c:=Int.mul_le_mul_of_nonneg_left f (by have:=jj Uj k;omega);have l:C4 ^ 5=100000000000000000000:=dM;omega
def Qt{N c r q d}(h:N=dv C4 d+C4 ^ d.length*c)(i:r=c%10000)(f:q=c/10000):N=dv C4 (d++[r])+C4 ^ (d++[r]).length*q:=by
 subst i f;rw[lA,List.length_singleton];have:=Mv d d d.length c rfl;rw[Ii,h,Int.pow_succ];have e:c=c%10000+C4*(c/10000):=by unfold C4;omega
 generalize c%10000=r at *
 generalize c/10000=q at *
 subst e;grind
def Cz(x:Int):((Int.tmod x 10000).natAbs:Int)=(x.natAbs:Int)%10000/\((Int.tdiv x 10000).natAbs:Int)=(x.natAbs:Int)/10000:=by
 by_cases d:0<=x
 ·rw[Int.tmod_eq_emod_of_nonneg d,Int.tdiv_eq_ediv_of_nonneg d];omega
 ·obtain⟨y,rfl⟩:∃y,x = -y:=⟨-x,by omega⟩;rw[Int.neg_tmod,Int.neg_tdiv];rw[Int.tmod_eq_emod_of_nonneg oM,Int.tdiv_eq_ediv_of_nonneg oM];omega
def Su w n(h0:-9223372036854775808<=n)(h1:n<=9223372036854775807):Calls Tryz.prog 96 #[M J n] w (Ih w n):=by
 have ac:n<0->Calls Tryz.prog 96 #[M J n] w (Ih w n):=by
  intro hn;go_in;go_wp2;go_loopw [0,4] (KF w n) (fun t0 _ _=>(intOf t0).natAbs)
  case atStart=>exact⟨n,[],rfl,by omega,by omega,by simp,Ud.nil _,by simp,Db.nil _ _ _,(eR w).alloc _,by simp,aN w _⟩
  case round =>
   obtain⟨cur,ys,rfl,c0,c1,am,t,hv,p,ab,af,y⟩:=hrel;have Hv:=ka hv;have d:=ka y;clear hv y;obtain⟨oa,oc,rfl⟩:=p.form;by_cases hc:cur=0
   ·subst hc;(have e:(n.natAbs:Int)=dv C4 ys:=by have:=Hv.o;simpa using this);have E:=ka e;have ag:=Ba d.o (i:=0) (u:=M J 0) rfl;have ah:=Ba d.o (i:=1) (u:=O X 0 0) rfl;have an:=Ya d.o 0;have ao:=Ya d.o 1;clear e;go_wp2_with(go_at_call 152;(with_reducible refine(Lo _ (-1) _ ys n p.ints oM (fun x hx=>?_) ?_ ?_ ?_).mono ?_);(have:=t x hx;unfold C4 at this;omega);(rw[<-E.o];omega);(rw[<-E.o];omega);(intro _;first|exact .inl rfl|exact .inr rfl);rintro e w1 ⟨r1,rfl,R,aa⟩;obtain⟨s1,a1,m1,c1,rfl,-⟩:=R.j;obtain⟨ae,ak⟩:=aa.cells);exact bR (v:=Oa #[M J s1,O a1 m1 c1]) (by simp[results,Tryz.results96,go_sem,ae,af,ag,ah]) rfl ⟨_,rfl,R.keep (uy (aa.e d.o) _ _),eA⟩
   ·(have aj:(cur != 0)=true:=by simpa using hc);have al:ys.length<=4:=Dz Hv.o (Uh Uj t).1 oM oM;obtain⟨e1,e2⟩:=Cz cur;obtain⟨r,hr⟩:=gX (Int.tmod cur 10000);obtain⟨q,hq⟩:=gX (Int.tdiv cur 10000);rw[hr]at e1;rw[hq]at e2;have r1:-10000<r:=oM;have r2:r<10000:=oM;have q1:-9223372036854775808<=q:=oM;have q2:q<=9223372036854775807:=oM;have z:=ka e1;have E2:=ka e2;clear e1 e2;by_cases ai:r<0
    ·skip
     (have K:-r=(cur.natAbs:Int)%10000:=by have:=z.o;omega);have E9:=ka K;clear K;go_wp2_with(at_builtin;refine tj To Tryz.underlying64 rfl _ _ rfl rfl p rfl oM oM ?_;intro v' w1 l f j);go_roundw
     case rel =>
      refine⟨q,_,rfl,by omega,by omega,by simp;omega,t.snoc (by have:=z.o;omega) (by have:=z.o;unfold C4;omega),Qt Hv.o E9.o E2.o,l,ab.y f oM,?_,?_⟩
      ·have:=f.size;omega
      ·exact j.get d.o dM
     case measure=>have:=E2.o;simp[intOf];omega
    ·skip
     (have K:r=(cur.natAbs:Int)%10000:=by have:=z.o;omega);have E9:=ka K;clear K;go_wp2_with(at_builtin;refine tj To Tryz.underlying64 rfl _ _ rfl rfl p rfl oM oM ?_;intro v' w1 l f j);go_roundw
     case rel =>
      refine⟨q,_,rfl,by omega,by omega,by simp;omega,t.snoc (by have:=z.o;omega) (by have:=z.o;unfold C4;omega),Qt Hv.o E9.o E2.o,l,ab.y f oM,?_,?_⟩
      ·have:=f.size;omega
      ·exact j.get d.o dM
     case measure=>have:=E2.o;simp[intOf];omega
 have ad:¬n<0->Calls Tryz.prog 96 #[M J n] w (Ih w n):=by
  intro hn;go_in;go_wp2;go_loopw [0,4] (KF w n) (fun t0 _ _=>(intOf t0).natAbs)
  case atStart=>exact⟨n,[],rfl,by omega,by omega,by simp,Ud.nil _,by simp,Db.nil _ _ _,(eR w).alloc _,by simp,aN w _⟩
  case round =>
   obtain⟨cur,ys,rfl,c0,c1,am,t,hv,p,ab,af,y⟩:=hrel;have Hv:=ka hv;have d:=ka y;clear hv y;obtain⟨oa,oc,rfl⟩:=p.form;by_cases hc:cur=0
   ·subst hc;(have e:(n.natAbs:Int)=dv C4 ys:=by have:=Hv.o;simpa using this);have E:=ka e;have ag:=Ba d.o (i:=0) (u:=M J 0) rfl;have ah:=Ba d.o (i:=1) (u:=O X 0 0) rfl;have an:=Ya d.o 0;have ao:=Ya d.o 1;clear e;go_wp2_with(go_at_call 152;(with_reducible refine(Lo _ (1) _ ys n p.ints oM (fun x hx=>?_) ?_ ?_ ?_).mono ?_);(have:=t x hx;unfold C4 at this;omega);(rw[<-E.o];omega);(rw[<-E.o];omega);(intro _;first|exact .inl rfl|exact .inr rfl);rintro e w1 ⟨r1,rfl,R,aa⟩;obtain⟨s1,a1,m1,c1,rfl,-⟩:=R.j;obtain⟨ae,ak⟩:=aa.cells);exact bR (v:=Oa #[M J s1,O a1 m1 c1]) (by simp[results,Tryz.results96,go_sem,ae,af,ag,ah]) rfl ⟨_,rfl,R.keep (uy (aa.e d.o) _ _),eA⟩
   ·(have aj:(cur != 0)=true:=by simpa using hc);have al:ys.length<=4:=Dz Hv.o (Uh Uj t).1 oM oM;obtain⟨e1,e2⟩:=Cz cur;obtain⟨r,hr⟩:=gX (Int.tmod cur 10000);obtain⟨q,hq⟩:=gX (Int.tdiv cur 10000);rw[hr]at e1;rw[hq]at e2;have r1:-10000<r:=oM;have r2:r<10000:=oM;have q1:-9223372036854775808<=q:=oM;have q2:q<=9223372036854775807:=oM;have z:=ka e1;have E2:=ka e2;clear e1 e2;by_cases ai:r<0
    ·skip
     (have K:-r=(cur.natAbs:Int)%10000:=by have:=z.o;omega);have E9:=ka K;clear K;go_wp2_with(at_builtin;refine tj To Tryz.underlying64 rfl _ _ rfl rfl p rfl oM oM ?_;intro v' w1 l f j);go_roundw
     case rel =>
      refine⟨q,_,rfl,by omega,by omega,by simp;omega,t.snoc (by have:=z.o;omega) (by have:=z.o;unfold C4;omega),Qt Hv.o E9.o E2.o,l,ab.y f oM,?_,?_⟩
      ·have:=f.size;omega
      ·exact j.get d.o dM
     case measure=>have:=E2.o;simp[intOf];omega
    ·skip
     (have K:r=(cur.natAbs:Int)%10000:=by have:=z.o;omega);have E9:=ka K;clear K;go_wp2_with(at_builtin;refine tj To Tryz.underlying64 rfl _ _ rfl rfl p rfl oM oM ?_;intro v' w1 l f j);go_roundw
     case rel =>
      refine⟨q,_,rfl,by omega,by omega,by simp;omega,t.snoc (by have:=z.o;omega) (by have:=z.o;unfold C4;omega),Qt Hv.o E9.o E2.o,l,ab.y f oM,?_,?_⟩
      ·have:=f.size;omega
      ·exact j.get d.o dM
     case measure=>have:=E2.o;simp[intOf];omega
 by_cases hn:n<0
 ·exact ac hn
 ·exact ad hn
def si(w:I) o d:((w.alloc o).alloc d).heap[w.heap.size]?=Y o:=by rw[Below.heap_alloc _ _ _ sM];exact aN w o
def MR(w:I)(s l:Int)(a f:Option Oc)(m i c c':Nat)(xs e:List Int)(D:Int)(t5 p:C)(W:I):Prop:=
 ∃d j:Int,t5=M J d/\p=M J j/\ -1<=j/\j<m/\ -9223372036854775807<=d/\d<=9223372036854775807/\(d≠0->d.sign=D)/\(d=0->xs.length=e.length/\xs.drop (j+1).toNat=e.drop (j+1).toNat)/\Aa w W/\
  W.heap[w.heap.size]?=Y (Ob #[M J s,O a m c] 66 (0,0))/\W.heap[w.heap.size+1]?=Y (Ob #[M J l,O f i c'] 66 (0,0))
def zF w va vb na nb(ha:yd w va na)(hb:yd w vb nb):Calls Tryz.prog 191 #[va,vb] w fun e w'=>e=.returned (M J ((na.natAbs:Int)-(nb.natAbs:Int)).sign)/\Aa w w':=by
 obtain⟨s,a,m,c,rfl,hs⟩:=ha.j;obtain⟨s',a',m',c',rfl,aq⟩:=hb.j;obtain⟨xs,hl,hi,hc,hv⟩:=ha.open;obtain⟨ys,ad,ah,ac,ak⟩:=hb.open;have hm:=hi.le;have aj:=ah.le;rw[hl]at hm;rw[ad]at aj;unfold maxLen at hm aj;obtain⟨D,hD⟩:=gX (((na.natAbs:Int)-(nb.natAbs:Int)).sign);rw[hD];rw[<-hv,<-ak]at hD;have HD:=ka hD;have z:=ka hl;have f:=ka ad;clear hs aq hl ad hv ak hD ha hb;go_in;go_wp2;go_loopw [5,6] (MR w s s' a a' m m' c c' xs ys D) (fun _ t6 _=>(intOf t6+1).toNat)
 case atStart =>
  refine⟨(m:Int)-m',(m:Int)-1,rfl,rfl,by omega,by omega,by omega,by omega,fun h=>?_,fun h=>⟨by rw[z.o,f.o];omega,?_⟩,eA,si ..,Bc _ _ _ sM⟩
  ·rw[<-HD.o,<-uH hc ac (by rw[z.o,f.o];omega),z.o,f.o]
  ·rw[List.drop_of_length_le (by rw[z.o];omega),List.drop_of_length_le (by rw[f.o];omega)]
 case round =>
  obtain⟨d,j,rfl,rfl,j0,j1,d0,d1,K,hz,hx,ab,p⟩:=hrel;have Hd:=ka K;have Hz:=ka hz;have am:=ka ab;have an:=ka p;have aw:=Ba ab (i:=1) (u:=O a m c) rfl;have ax:=Ba p (i:=1) (u:=O a' m' c') rfl;clear K hz ab p;rcases Int.lt_trichotomy d 0 with K|K|K
  ·have e:D = -1:=by rw[<-Hd.o oM];exact Int.sign_eq_neg_one_of_neg K
   have ka:¬d=0:=oM;have ao:(d==0)=false:=by simpa using ka
   have aA:¬0<d:=oM;by_cases hj:0<=j
   all_goals
    go_wp2;go_ret;exact⟨rfl,eA⟩
  ·subst K;obtain⟨ai,l⟩:=Hz.o rfl;have aa:=ka ai;have ae:=ka l;clear ai l;by_cases hj:0<=j
   ·obtain⟨k,rfl⟩:=Int.eq_ofNat_of_zero_le hj;have hk:k<m:=oM;(have ap:k<m':=by have:=aa.o;rw[z.o,f.o]at this;omega);obtain⟨b,o,rfl,p,al⟩:=(hi.ext hx).open (by rw[z.o];omega);obtain⟨b',o',rfl,av,R⟩:=(ah.ext hx).open (by rw[f.o];omega);obtain⟨x,r⟩:∃x,xs[k]?=Y x:=⟨xs[k]'(by rw[z.o];omega),by simp[z.o,hk]⟩;obtain⟨y,t⟩:∃y,ys[k]?=Y y:=⟨ys[k]'(by rw[f.o];omega),by simp[f.o,ap]⟩;have ay:=al k x r;have az:=R k y t;have ar:=hc.1 x (lM r);have au:=ac.1 y (lM t);unfold C4 at ar au;have af:=ka r;have ag:=ka t;clear al R r t;go_wp2;go_quiet (fail);go_wp2;go_roundw
    case rel =>
     have l:=ae.o;rw[show ((k:Int)+1).toNat=k+1 by omega]at l;refine⟨_,(k:Int)-1,rfl,rfl,by omega,by omega,by omega,by omega,fun h=>?_,fun h=>⟨aa.o,?_⟩,eA,?_,?_⟩
     ·rw[<-HD.o];exact pG hc ac aa.o af.o ag.o l oM
     ·obtain rfl:x=y:=oM;rw[show ((k:Int)-1+1).toNat=k by omega];exact WH af.o ag.o l
     ·exact am.o
     ·exact an.o
    case measure=>simp[intOf]
   ·obtain rfl:j = -1:=oM;have e:D=0:=by
     have:=ae.o;simp only[show ((-1:Int)+1).toNat=0 from rfl,List.drop_zero]at this;rw[<-HD.o,this];simp
    go_wp2;go_ret;exact⟨rfl,eA⟩
  ·have e:D=1:=by rw[<-Hd.o oM];exact Int.sign_eq_one_of_pos K
   have ka:¬d=0:=oM;have ao:(d==0)=false:=by simpa using ka
   by_cases hj:0<=j
   all_goals
    go_wp2;go_ret;subst e;exact⟨rfl,eA⟩
def Po w v ps i x z(h:Fa w v ps)(f:0<ps.length)(l:ps.length<=1000000)(j:-(ps.length:Int)<=i)(d:i<=1000000)(p:Ff ps i=(x,z)):Calls Tryz.prog 246 #[v,M J i] w fun e w'=>e=.returned (Oa #[M J x,M J z])/\Aa w w':=by
 have:=MG w v ps i h f l j d
 rwa [p]at this
def Ir w d f i j l p T(r:Bd 100000000 d)(t:Bd 100000000 f)(u:Bd 100000000 i)(h4:Bd 100000000 j)(x:Bd 100000000 l)(h6:Bd 100000000 p)(y:Ie (d,f) (i,j) (l,p)=T):Calls Tryz.prog 245 #[Oa #[M J d,M J f],Oa #[M J i,M J j],Oa #[M J l,M J p]] w fun e w'=>e=.returned (M J T)/\Aa w w':=by
 have:=GK w d f i j l p r t u h4 x h6
 rwa [y]at this
def tg(k:Int)(ps:LP):Prop:=∀p∈ps,Bd k p.1/\Bd k p.2
def tg.at{k ps}(h:tg k ps)(e:0<ps.length){i x z}(f:Ff ps i=(x,z)):Bd k x/\Bd k z:=by obtain⟨j,_,_,d⟩:=TP (i:=i) e;rw[f]at d;exact h _ (lM d)
def Zt{ps}{i:Nat}(h:i<ps.length):ps[i]?=Y (Ff ps i):=by
 unfold Ff;have e:(((i:Int)+ps.length)%ps.length).toNat=i:=by
  rw[Int.add_emod_right,Int.emod_eq_of_lt oM oM];omega
 rw[e,gD,gE h];rfl
def rj(ps:LP)(i:Nat):Bool:=decide (0<Ie (Ff ps ((i:Int)-1)) (Ff ps i) (Ff ps ((i:Int)+1)))
def qj(ps:LP)(i k:Nat):Bool:=decide (0<Ie (Ff ps i) (Ff ps ((i:Int)+1)) (Ff ps ((i:Int)+k)))
def nh(ps:LP)(i:Nat):Bool:=rj ps i&&(List.range (ps.length-1)).all fun k=>decide (k<2) || qj ps i k
def Za(ps:LP):Bool:=Ra ps.length 3 12&&(List.range ps.length).all (nh ps)
def IE{ps i}(h:i<ps.length)(d:nh ps i=false):Za ps=false:=by
 unfold Za;rw[Bool.and_eq_false_iff]
 right
 rw[List.all_eq_false];exact⟨i,List.mem_range.2 h,by simp[d]⟩
def RP{ps}(d:Ra ps.length 3 12=true)(h:∀i,i<ps.length->nh ps i=true):Za ps=true:=by unfold Za;rw[d,Bool.true_and,List.all_eq_true];exact fun i e=>h i (List.mem_range.1 e)
def GL{ps i}(h:rj ps i=false):nh ps i=false:=by unfold nh;rw[h];rfl
def FL{ps i k}(d:k<ps.length-1)(e:2<=k)(h:qj ps i k=false):nh ps i=false:=by
 unfold nh;rw[Bool.and_eq_false_iff]
 right
 rw[List.all_eq_false];exact⟨k,List.mem_range.2 d,by simp[h];omega⟩
def EL{ps i}(h:rj ps i=true)(e:∀k,2<=k->k<ps.length-1->qj ps i k=true):nh ps i=true:=by
 unfold nh;rw[h,Bool.true_and,List.all_eq_true];intro k d;rw[List.mem_range]at d;by_cases f:k<2
 ·simp[f]
 ·simp[e k oM d]
def YR(w:I)(ps:LP)(g:Nat)(d:C)(W:I):Prop:=
 ∃i:Nat,i<=ps.length/\d=M J i/\g=ps.length-i/\Aa w W/\∀j,j<i->nh ps j=true
def iS(w:I)(ps:LP)(i:Nat)(g:Nat)(t4:C)(W:I):Prop:=
 ∃k:Nat,2<=k/\k<=ps.length-1/\t4=M J k/\g=ps.length-k/\Aa w W/\∀j,2<=j->j<k->qj ps i j=true
def RO w v ps(h:Fa w v ps)(hb:tg 100000000 ps):Calls Tryz.prog 207 #[v] w fun e w'=>e=.returned (Z (Za ps))/\Aa w w':=by
 obtain⟨a,c,rfl⟩:=h.form;obtain⟨n,hn⟩:=gX ps.length;have av:=hn;rw[hn]at h ⊢;have r:=ka hn;have Hb:=ka hb;clear hb;by_cases hw:Ra n 3 12=true
 ·have aw:3<=n/\n<=12:=by simp[Ra]at hw;omega
  obtain⟨aw,aL⟩:=aw;have HW:=ka hw;clear hn av;have h0:0<ps.length:=by rw[r.o];omega
  have au:ps.length<=1000000:=by rw[r.o];omega
  have H0:=ka h0;have H6:=ka au;obtain⟨b,o,rfl,aO,_,_⟩:=h.at' (Zt h0);clear h0 au;go_in;go_wp2_with(((go_at_call 160;(with_reducible refine(Vh _ n 3 12).mono ?_);rintro e w1 ⟨rfl,d⟩)));go_loopg [11] n (YR w ps)
  case atStart=>exact⟨0,by omega,rfl,by rw[r.o];rfl,eA,fun j hj=>by omega⟩
  case round =>
   obtain⟨i,hi,rfl,rfl,hx,ak⟩:=hrel;rw[r.o]at hi;have aj:=ka ak;clear ak d;by_cases ah:i<n
   ·obtain⟨⟨ax,az⟩,hA⟩:∃p,Ff ps ((i:Int)-1)=p:=⟨_,rfl⟩;obtain⟨⟨qx,qz⟩,hQ⟩:∃p,Ff ps (i:Int)=p:=⟨_,rfl⟩;obtain⟨⟨bx,bz⟩,hB⟩:∃p,Ff ps ((i:Int)+1)=p:=⟨_,rfl⟩;obtain⟨T,hT⟩:=gX (Ie (ax,az) (qx,qz) (bx,bz));have hP:=(h.f hx).at' (Zt (ps:=ps) (i:=i) (by rw[r.o];exact ah));rw[hQ]at hP;obtain⟨b',o',e',f,d0,d1⟩:=hP;cases e';have HA:=ka hA;have HQ:=ka hQ;have HB:=ka hB;have HT:=ka hT;have af:=ka (Hb.o.at H0.o hA);have x:=ka (Hb.o.at H0.o hQ);have u:=ka (Hb.o.at H0.o hB);(have g1:-(ps.length:Int)<=(i:Int)-1:=by rw[r.o];omega);(have g2:-(ps.length:Int)<=(i:Int)+1:=by rw[r.o];omega);(have ay:rj ps i=decide (0<T):=by unfold rj;rw[hA,hQ,hB,hT]);have an:=ka ay;have hs:=h.f hx;clear hA hQ hB hT ay;have aQ:IntKind.i64.wrap ((i:Int)-1)=(i:Int)-1:=iW _ oM;have aR:IntKind.i64.wrap ((i:Int)+1)=(i:Int)+1:=iW _ oM;have p1:(0:Int)<=(i:Int):=oM;have p2:(i:Int)<(n:Int):=oM;by_cases ap:0<T
    ·(have aD:decide (T<=0)=false:=by simp;omega);go_wp2;go_region_held3 (fun W=>W.cell? ⟨b,o+i*2,X⟩=Y (M J qx)/\W.cell? ⟨b,o+i*2+1,X⟩=Y (M J qz)) ((repeat' (with_reducible refine And.intro ?_ ?_))<;>(first|(go_simp;done)|(refine d.d ?_;go_simp;done))) (first|((go_at_call 246;(with_reducible refine(Po _ (O (Y ⟨b,o,X⟩) n c) ps ((i:Int)-1) ax az ?_ H0.o H6.o g1 oM HA.o).mono ?_);(refine hs.f ?_;exact eA);rintro e w1 ⟨rfl,d⟩;obtain⟨y,R⟩:=d.cells;(try simp only[Jg,Ig,jc]at y R);(have l:=d.lt (n:=b) (by first|exact f | (simp only[jc];exact f)|(have:=l;omega)))))|((go_at_call 246;(with_reducible refine(Po _ (O (Y ⟨b,o,X⟩) n c) ps ((i:Int)+1) bx bz ?_ H0.o H6.o g2 oM HB.o).mono ?_);(refine hs.f ?_;exact eA);rintro e w2 ⟨rfl,t⟩;obtain⟨z,aa⟩:=t.cells;(try simp only[Jg,Ig,jc]at z aa);(have ai:=t.lt (n:=b) (by first|exact f | (simp only[jc];exact f)|(have:=l;omega)))))|((go_at_call 245;(with_reducible refine(Ir _ _ _ _ _ _ _ T af.o.1 af.o.2 x.o.1 x.o.2 u.o.1 u.o.2 HT.o).mono ?_);rintro e w3 ⟨rfl,ac⟩;obtain⟨K,ab⟩:=ac.cells;(try simp only[Jg,Ig,jc]at K ab))))
     all_goals go_wp2
     go_loopg [4] (n-2) (iS w ps i)
     case atStart=>exact⟨2,nE _,by rw[r.o];omega,rfl,by rw[r.o],eA,fun j h2 hj=>by omega⟩
     case round =>
      rename_i wr0 _;clear hs d0 d1 y R l z aa ai K ab;obtain⟨k,aH,aI,rfl,rfl,aB,ae⟩:=hrel;rw[r.o]at aI;have ad:=ka ae;clear ae;by_cases aJ:k<n-1
      ·obtain⟨⟨cx,cz⟩,hC⟩:∃p,Ff ps ((i:Int)+(k:Int))=p:=⟨_,rfl⟩;obtain⟨U,hU⟩:=gX (Ie (qx,qz) (bx,bz) (cx,cz));have hP:=(h.f aB).at' (Zt (ps:=ps) (i:=i) (by rw[r.o];exact ah));rw[HQ.o]at hP;obtain⟨aM,aP,aC,ar,d0,d1⟩:=hP;cases aC;have HC:=ka hC;have HU:=ka hU;have ag:=ka (Hb.o.at H0.o hC);(have aA:qj ps i k=decide (0<U):=by unfold qj;rw[HQ.o,HB.o,hC,hU]);have ao:=ka aA;(have g3:-(ps.length:Int)<=(i:Int)+(k:Int):=by rw[r.o];omega);have hs:=h.f aB;clear hC hU aA;have aS:IntKind.i64.wrap ((i:Int)+(k:Int))=(i:Int)+(k:Int):=iW _ oM;have p3:(k:Int)<(n:Int)-1:=oM;have f:=ar;by_cases aq:0<U
       ·(have aE:decide (U<=0)=false:=by simp;omega);go_wp2;go_region_held3 (fun W=>W.cell? ⟨b,o+i*2,X⟩=Y (M J qx)/\W.cell? ⟨b,o+i*2+1,X⟩=Y (M J qz)) ((repeat' (with_reducible refine And.intro ?_ ?_))<;>(first|(go_simp;done)|(refine d.d ?_;go_simp;done))) (first|((go_at_call 246;(with_reducible refine(Po _ (O (Y ⟨b,o,X⟩) n c) ps ((i:Int)+1) bx bz ?_ H0.o H6.o g2 oM HB.o).mono ?_);(refine hs.f ?_;exact eA);rintro e w1 ⟨rfl,d⟩;obtain⟨y,R⟩:=d.cells;(try simp only[Jg,Ig,jc]at y R);(have l:=d.lt (n:=b) (by first|exact f | (simp only[jc];exact f)|(have:=l;omega)))))|((go_at_call 246;(with_reducible refine(Po _ (O (Y ⟨b,o,X⟩) n c) ps ((i:Int)+(k:Int)) cx cz ?_ H0.o H6.o g3 oM HC.o).mono ?_);(refine hs.f ?_;exact eA);rintro e w2 ⟨rfl,t⟩;obtain⟨z,aa⟩:=t.cells;(try simp only[Jg,Ig,jc]at z aa);(have ai:=t.lt (n:=b) (by first|exact f | (simp only[jc];exact f)|(have:=l;omega)))))|((go_at_call 245;(with_reducible refine(Ir _ _ _ _ _ _ _ U x.o.1 x.o.2 u.o.1 u.o.2 ag.o.1 ag.o.2 HU.o).mono ?_);rintro e w3 ⟨rfl,ac⟩;obtain⟨K,ab⟩:=ac.cells;(try simp only[Jg,Ig,jc]at K ab))))
        all_goals go_wp2
        go_roundg (n-(k+1))
        case measure=>have:=r.o;omega
        case rel =>
         refine⟨k+1,by omega,by rw[r.o];omega,by go_num,by rw[r.o],eA,fun j h2 hj=>?_⟩;by_cases aG:j=k
         ·rw[aG,ao.o];simpa using aq
         ·exact ad.o j h2 oM
       ·(have aE:decide (U<=0)=true:=by simp;omega);have e:Za ps=false:=IE (by rw[r.o];exact ah) (FL (k:=k) (by rw[r.o];exact aJ) aH (by rw[ao.o];simpa using aq));have E:=ka e;clear e;go_wp2;go_region_held3 (fun W=>W.cell? ⟨b,o+i*2,X⟩=Y (M J qx)/\W.cell? ⟨b,o+i*2+1,X⟩=Y (M J qz)) ((repeat' (with_reducible refine And.intro ?_ ?_))<;>(first|(go_simp;done)|(refine d.d ?_;go_simp;done))) (first|((go_at_call 246;(with_reducible refine(Po _ (O (Y ⟨b,o,X⟩) n c) ps ((i:Int)+1) bx bz ?_ H0.o H6.o g2 oM HB.o).mono ?_);(refine hs.f ?_;exact eA);rintro e w1 ⟨rfl,d⟩;obtain⟨y,R⟩:=d.cells;(try simp only[Jg,Ig,jc]at y R);(have l:=d.lt (n:=b) (by first|exact f | (simp only[jc];exact f)|(have:=l;omega)))))|((go_at_call 246;(with_reducible refine(Po _ (O (Y ⟨b,o,X⟩) n c) ps ((i:Int)+(k:Int)) cx cz ?_ H0.o H6.o g3 oM HC.o).mono ?_);(refine hs.f ?_;exact eA);rintro e w2 ⟨rfl,t⟩;obtain⟨z,aa⟩:=t.cells;(try simp only[Jg,Ig,jc]at z aa);(have ai:=t.lt (n:=b) (by first|exact f | (simp only[jc];exact f)|(have:=l;omega)))))|((go_at_call 245;(with_reducible refine(Ir _ _ _ _ _ _ _ U x.o.1 x.o.2 u.o.1 u.o.2 ag.o.1 ag.o.2 HU.o).mono ?_);rintro e w3 ⟨rfl,ac⟩;obtain⟨K,ab⟩:=ac.cells;(try simp only[Jg,Ig,jc]at K ab))))
        all_goals go_wp2
        all_goals go_ret
        exact⟨by rw[E.o];rfl,eA⟩
      ·obtain rfl:k=n-1:=oM;have al:nh ps i=true:=EL (by rw[an.o];simpa using ap) (fun j h2 hj=>ad.o j h2 (by rw[r.o]at hj;exact hj));have am:=ka al;clear al;have p4:¬(((n-1:Nat):Int)<(n:Int)-1):=oM;go_wp2;go_roundg (n-(i+1))
       case measure=>have:=r.o;omega
       case rel =>
        refine⟨i+1,by rw[r.o];omega,by go_num,by rw[r.o],eA,fun j hj=>?_⟩;by_cases aF:j=i
        ·rw[aF];exact am.o
        ·exact aj.o j oM
    ·(have aD:decide (T<=0)=true:=by simp;omega);have e:Za ps=false:=IE (by rw[r.o];exact ah) (GL (by rw[an.o];simpa using ap));have E:=ka e;clear e;go_wp2;go_region_held3 (fun W=>W.cell? ⟨b,o+i*2,X⟩=Y (M J qx)/\W.cell? ⟨b,o+i*2+1,X⟩=Y (M J qz)) ((repeat' (with_reducible refine And.intro ?_ ?_))<;>(first|(go_simp;done)|(refine d.d ?_;go_simp;done))) (first|((go_at_call 246;(with_reducible refine(Po _ (O (Y ⟨b,o,X⟩) n c) ps ((i:Int)-1) ax az ?_ H0.o H6.o g1 oM HA.o).mono ?_);(refine hs.f ?_;exact eA);rintro e w1 ⟨rfl,d⟩;obtain⟨y,R⟩:=d.cells;(try simp only[Jg,Ig,jc]at y R);(have l:=d.lt (n:=b) (by first|exact f | (simp only[jc];exact f)|(have:=l;omega)))))|((go_at_call 246;(with_reducible refine(Po _ (O (Y ⟨b,o,X⟩) n c) ps ((i:Int)+1) bx bz ?_ H0.o H6.o g2 oM HB.o).mono ?_);(refine hs.f ?_;exact eA);rintro e w2 ⟨rfl,t⟩;obtain⟨z,aa⟩:=t.cells;(try simp only[Jg,Ig,jc]at z aa);(have ai:=t.lt (n:=b) (by first|exact f | (simp only[jc];exact f)|(have:=l;omega)))))|((go_at_call 245;(with_reducible refine(Ir _ _ _ _ _ _ _ T af.o.1 af.o.2 x.o.1 x.o.2 u.o.1 u.o.2 HT.o).mono ?_);rintro e w3 ⟨rfl,ac⟩;obtain⟨K,ab⟩:=ac.cells;(try simp only[Jg,Ig,jc]at K ab))))
     all_goals go_wp2
     all_goals go_ret
     exact⟨by rw[E.o];rfl,eA⟩
   ·obtain rfl:i=n:=oM;have e:Za ps=true:=RP (by rw[r.o];exact HW.o) (fun j hj=>aj.o j (by rw[r.o]at hj;exact hj));have E:=ka e;clear e;go_wp2;go_ret;exact⟨by rw[E.o];rfl,eA⟩
 ·have aK:Ra n 3 12=false:=by simpa using hw
  have e:Za ps=false:=by unfold Za;rw[hn,aK];rfl
  rw[e];clear e hn av;go_in;go_wp2_with(((go_at_call 160;(with_reducible refine(Vh _ n 3 12).mono ?_);rintro e w1 ⟨rfl,d⟩)));go_ret;exact⟨rfl,eA⟩
def We(p:Int×Int):Bool:=!Ra p.1 0 2000 || !Ra p.2 0 2000
def Gt w x z:Calls Tryz.prog 205 #[Oa #[M J x,M J z]] w fun e w'=>e=.returned (Z (We (x,z)))/\Aa w w':=by
 by_cases h:Ra x 0 2000=true
 ·have e:We (x,z)=!Ra z 0 2000:=by simp[We,h]
  rw[e];clear e;go_in;go_wp2_with(first|((go_at_call 160;(with_reducible refine(Vh _ x 0 2000).mono ?_);rw[h];rintro e r ⟨rfl,d⟩;obtain⟨⟨i,j⟩,f⟩:=oe w d))|((go_at_call 160;(with_reducible refine(Vh _ z 0 2000).mono ?_);rintro e t ⟨rfl,p⟩)));go_ret;exact⟨rfl,eA⟩
 ·have l:Ra x 0 2000=false:=by simpa using h
  have e:We (x,z)=true:=by simp[We,l]
  rw[e];clear e;go_in;go_wp2_with(((go_at_call 160;(with_reducible refine(Vh _ x 0 2000).mono ?_);rw[l];rintro e r ⟨rfl,d⟩;obtain⟨⟨i,j⟩,f⟩:=oe w d)));go_ret;exact⟨rfl,eA⟩
def Le{α:Type}(f:α->Bool)(xs:List α):Int:=match xs.findIdx? f with|some i=>(i:Int)|none=>-1
def Gr{α f xs}{i:Nat}{x:α}(r:xs[i]?=Y x)(d:f x=true)(p:∀j y,j<i->xs[j]?=Y y->f y=false):Le f xs=(i:Int):=by
 obtain⟨e,rfl⟩:=lS.1 r;have:xs.findIdx? f=Y i:=by
  rw[List.findIdx?_eq_some_iff_getElem];exact⟨e,d,fun j l=>by simpa using p j _ l (gE oM)⟩
 unfold Le;rw[this]
def Lu{α f}{xs:List α}(e:∀j y,j<xs.length->xs[j]?=Y y->f y=false):Le f xs = -1:=by
 have:xs.findIdx? f=X:=by
  rw[List.findIdx?_eq_none_iff];intro x i;obtain⟨j,d⟩:=List.mem_iff_getElem?.1 i;exact e j x (lS.1 d).1 d
 unfold Le;rw[this]
def Aw{α} f(xs:List α):decide (0<=Le f xs)=xs.any f:=by
 unfold Le;cases h:xs.findIdx? f with
 |none=>
  rw[List.findIdx?_eq_none_iff]at h;have:xs.any f=false:=by rw[List.any_eq_false];intro x j;simp[h x j]
  rw[this];rfl
 | some i =>
  rw[List.findIdx?_eq_some_iff_getElem]at h;obtain⟨e,d,_⟩:=h;have:xs.any f=true:=List.any_eq_true.2 ⟨_,List.getElem_mem e,d⟩;rw[this];simp
def SF(w:I)(f:Int×Int->Bool)(ps:LP)(g:Nat)(d:C)(W:I):Prop:=
 ∃i:Nat,i<=ps.length/\d=M J i/\g=ps.length-i/\Aa w W/\∀j y,j<i->ps[j]?=Y y->f y=false
def EM w v ps(h:Fa w v ps):Calls Tryz.prog 244 #[v,.func (.func 205) #[] #[]] w fun e w'=>e=.returned (M J (Le We ps))/\Aa w w':=by
 obtain⟨a,c,rfl⟩:=h.form;obtain⟨n,hn⟩:=gX ps.length;rw[hn]at h ⊢;have r:=h.le;unfold maxLen at r;have ac:n<=9223372036854775807:=oM;have f:=ka hn;clear hn r;go_in;go_wp2;go_loopg [8] n (SF w We ps)
 case atStart=>exact⟨0,by omega,rfl,by rw[f.o];rfl,eR _,fun j y u=>by omega⟩
 case round =>
  obtain⟨i,hi,rfl,rfl,hx,l⟩:=hrel;rw[f.o]at hi;have d:=ka l;clear l;by_cases aa:i<n
  ·obtain⟨q,hq⟩:∃q,ps[i]?=Y q:=⟨ps[i]'(by rw[f.o];omega),by simp[f.o,aa]⟩;obtain⟨x,z⟩:=q;obtain⟨b,o,rfl,hb,d0,d1⟩:=(h.f hx).at' hq;have Hq:=ka hq;clear hq;by_cases K:We (x,z)=true
   ·have e:Le We ps=(i:Int):=Gr Hq.o K d.o;have E:=ka e;clear e;go_wp2_with(((go_at_call 205;(with_reducible refine(Gt _ x z).mono ?_);rw[K];rintro e w1 ⟨rfl,ab⟩)));go_ret;exact⟨by rw[E.o];rfl,eA⟩
   ·(have p:We (x,z)=false:=by simpa using K);go_wp2_with(((go_at_call 205;(with_reducible refine(Gt _ x z).mono ?_);rw[p];rintro e w1 ⟨rfl,ab⟩)));go_roundg (n-(i+1))
    case measure=>have:=f.o;omega
    case rel =>
     refine⟨i+1,by have:=f.o;omega,by go_num,by rw[f.o],eA,fun j y u t=>?_⟩;by_cases R:j=i
     ·subst R;rw[Hq.o]at t;cases t;exact p
     ·exact d.o j y oM t
  ·obtain rfl:i=n:=oM;have e:Le We ps = -1:=Lu (fun j y u t=>d.o j y (by rw[f.o]at u;exact u) t);have E:=ka e;clear e;go_wp2;go_ret;exact⟨by rw[E.o];rfl,hx⟩
def nO w v ps(h:Fa w v ps):Calls Tryz.prog 206 #[v,.func (.func 205) #[] #[]] w fun e w'=>e=.returned (Z (ps.any We))/\Aa w w':=by rw[<-Aw];obtain⟨x,f⟩:=gX (Le We ps);have d:=fun W (j:Aa w W)=>EM W v ps (h.f j);rw[f]at *;have i:=ka d;clear d f;go_in;go_wp2_with(((go_at_call 244;refine cM (i.o _ eA) ?_;rintro e p ⟨rfl,l⟩)));go_ret;exact⟨rfl,eA⟩
def Ij:List Int->Int
 | []=>0
 | x::xs=>if x=0 then Ij xs else x
def Rz:∀{xs}{i:Nat}{x},xs[i]?=Y x->x≠0->(∀j y,j<i->xs[j]?=Y y->y=0)->Ij xs=x
 | [],_,_,h,_,_=>by simp at h
 | y::ys,0,x,h,h0,_=>by simp at h;subst h;simp[Ij,h0]
 | y::ys,i+1,x,h,h0,hn=>by
  have d:y=0:=hn 0 y oM rfl;rw[Ij,if_pos d];exact Rz (by simpa using h) h0 (fun j z f e=>hn (j+1) z oM (by simpa using e))
def iD:∀{xs},(∀(j:Nat)(y:Int),xs[j]?=Y y->y=0)->Ij xs=0
 | [],_=>rfl
 | y::ys,h=>by rw[Ij,if_pos (h 0 y rfl)];exact iD (fun j z d=>h (j+1) z (by simpa using d))
def yR(w:I)(xs:List Int)(g:Nat)(d:C)(W:I):Prop:=
 ∃i:Nat,i<=xs.length/\d=M J i/\g=xs.length-i/\Aa w W/\∀j y,j<i->xs[j]?=Y y->y=0
def YG w v xs(h:Tc 3 w v xs):Calls Tryz.prog 273 #[v] w fun e w'=>e=.returned (M J (Ij xs))/\Aa w w':=by
 obtain⟨a,c,rfl⟩:=h.form;obtain⟨n,R⟩:=gX xs.length;rw[R]at h ⊢;have t:=h.le;unfold maxLen at t;have ad:n<=9223372036854775807:=oM;have f:=ka R;clear R t;go_in;go_wp2;go_loopg [8] n (yR w xs)
 case atStart=>exact⟨0,by omega,rfl,by rw[f.o];rfl,eR _,fun j y hj=>by omega⟩
 case round =>
  obtain⟨i,hi,rfl,rfl,u,l⟩:=hrel;rw[f.o]at hi;have d:=ka l;clear l;by_cases K:i<n
  ·obtain⟨x,hq⟩:∃x,xs[i]?=Y x:=⟨xs[i]'(by rw[f.o];omega),by simp[f.o,K]⟩;obtain⟨b,o,rfl,hb,hc⟩:=(h.ext u).open (by rw[f.o];omega);have ac:=hc i x hq;have Hq:=ka hq;clear hq hc;by_cases r:x=0
   ·subst r;go_wp2;go_roundg (n-(i+1))
    case measure=>have:=f.o;omega
    case rel =>
     refine⟨i+1,by have:=f.o;omega,by go_num,by rw[f.o],u,fun j y hj p=>?_⟩;by_cases z:j=i
     ·subst z;rw[Hq.o]at p;cases p;rfl
     ·exact d.o j y oM p
   ·have e:Ij xs=x:=Rz Hq.o r d.o;have E:=ka e;(have aa:(x != 0)=true:=by simpa using r);(have ab:(x==0)=false:=by simpa using r);clear e r;go_wp2;go_ret;exact⟨by rw[E.o];rfl,u⟩
  ·obtain rfl:i=n:=oM;have e:Ij xs=0:=iD (fun j y p=>d.o j y (by have:=(lS.1 p).1;rw[f.o]at this;exact this) p);have E:=ka e;clear e;go_wp2;go_ret;exact⟨by rw[E.o];rfl,u⟩
def jN w v xs(h:Tc 3 w v xs):Calls Tryz.prog 247 #[v] w fun e w'=>e=.returned (M J (Ij xs))/\Aa w w':=by obtain⟨x,f⟩:=gX (Ij xs);have d:=fun W (j:Aa w W)=>YG W v xs (h.ext j);rw[f]at *;have i:=ka d;clear d f;go_in;go_wp2_with(((go_at_call 273;refine cM (i.o _ eA) ?_;rintro e p ⟨rfl,l⟩)));go_ret;exact⟨rfl,eA⟩
def Xk(p q:Int×Int):Int:=Ij [Gc p.2 q.2,Gc p.1 q.1]
def As(W:I) x y:Tc 3 (W.alloc (Ob #[M J x,M J y] 3)) (O (Y ⟨W.heap.size,0,X⟩) 2 2) [x,y]:=by
 refine⟨rfl,_,_,rfl,nE _,by unfold maxLen;omega,.inr ⟨W.heap.size,0,_,_,rfl,aN W _,?_⟩⟩;intro i v hv
 match i,hv with
 | 0,hv=>simpa[Jc] using hv
 | 1,hv=>simpa[Jc] using hv
 | i+2,hv=>simp[Jc]at hv
def Kv w d f i j:Calls Tryz.prog 210 #[Oa #[M J d,M J f],Oa #[M J i,M J j]] w fun e w'=>e=.returned (M J (Xk (d,f) (i,j)))/\Aa w w':=by
 obtain⟨r,t⟩:=gX (Xk (d,f) (i,j));rw[t];have HR:Ta (Ij [Gc f j,Gc d i]=r):=ka t;clear t;go_in;go_wp2;go_region_held3 (fun W=>W.cell? ⟨w.heap.size,0,X⟩=Y (M J d)/\W.cell? ⟨w.heap.size,1,X⟩=Y (M J f)/\W.cell? ⟨w.heap.size+1,0,X⟩=Y (M J i)/\W.cell? ⟨w.heap.size+1,1,X⟩=Y (M J j)) ((repeat' (with_reducible refine And.intro ?_ ?_))<;>(first|(go_simp;done)|(refine hx1.d ?_;go_simp;done))) (first|((go_at_call 248;(with_reducible refine(oF _ f j).mono ?_);rintro e w1 ⟨rfl,hx1⟩;obtain⟨⟨ad,ag⟩,z,K⟩:=Yb w hx1))|((go_at_call 248;(with_reducible refine(oF _ d i).mono ?_);rintro e y ⟨rfl,u⟩;obtain⟨⟨ae,ah⟩,R,aa⟩:=Yb w u;have l:w.heap.size<y.heap.size+1:=oM;have p:w.heap.size+1<y.heap.size+1:=oM))|((go_at_call 247;(with_reducible refine(jN _ (O (Y ⟨y.heap.size,0,X⟩) 2 2) [Gc f j,Gc d i] ?_).mono ?_);(refine As _ _ _);rw[HR.o];rintro e w3 ⟨rfl,x⟩;obtain⟨⟨af,ai⟩,ab,ac⟩:=Yb w x)))
 all_goals go_wp2
 go_ret;exact⟨rfl,eA⟩
