import Derived.Test.YthgbjoahfnjadaaGreatDoorCopA03
import Derived.Deep.LoopGhost
import Derived.Deep.CutBlock
import Derived.Deep.DeepCutAuto
import Derived.RangeFuncNested
import Derived.RangeFuncBound
import Derived.RangeFuncCalls
import Derived.RangeFuncLeaves
import Derived.Shelf.Abstract
import Derived.Shelf.RegionOpen
import Derived.TacticsInMore
import Derived.LoopNIn
import Derived.LoopIn
import Derived.Sort.LoopGhostIn
import Derived.Shelf.SlSortCmp.WholeK
import Derived.ProofKit
import Derived.Deep.Slices
set_option maxRecDepth 1000000
set_option maxHeartbeats 16000000
set_option linter.all false
open Go.Value renaming slice->O,bool->Z,agg->J,int->N,tuple->Ob
open Option renaming some->Y,none->V
open Go renaming World->X,Value->I,Act->A,Addr->Oa
open Go.IntKind renaming i64->M
open Go.Obj renaming cells->C
namespace Go.Proofs.YthgbjoahfnjadaaGreatDoor.Cop
section
open Go.RowKit Go.Shelf
def NF(w:X)(va vb:I)(x y:Int)(u:Nc w va x)(z:Nc w vb y)(d:Lm Cc x)(f:Lm Cc y):Calls Tryz.prog 150 #[va,vb] w (qi w (Int.gcd x y:Nat)):=by
 obtain⟨a,m,c,s,rfl⟩:=u.form;obtain⟨a',m',c',s',rfl⟩:=z.form;have aa:=u.dig;have ab:=z.dig;have r:=ia d.abs;have t:=ia f.abs;clear d f u z;have e:(Int.gcd x y:Int)=(Int.gcd (x.natAbs:Int) (y.natAbs:Int):Nat):=by simp[Int.gcd]
 rw[e];clear e;go_in;go_wp2_with(first|((go_at_call 191;(with_reducible refine(sJ _ (J #[O a m c]) (J #[O a' m' c']) x.natAbs y.natAbs ?_ ?_ r.o t.o).mono ?_);(refine aa.ext ?_;exact eA);(refine ab.ext ?_;exact eA);rintro e w1 ⟨r1,rfl,i,ac⟩;obtain⟨a1,m1,c1,rfl⟩:=i.form;obtain⟨⟨K,ai⟩,ae,af,l⟩:=oc w ac))|((go_at_call 145;(with_reducible refine(Wo _ false (J #[O a1 m1 c1]) (Int.gcd (x.natAbs:Int) (y.natAbs:Int):Nat) ?_).mono ?_);(refine i.ext ?_;exact eA);rintro e w2 ⟨r2,rfl,j,ad⟩;obtain⟨a2,m2,c2,s2,rfl⟩:=j.form;obtain⟨⟨R,aj⟩,ag,ah,p⟩:=oc w ad)));exact bR (v:=J #[O a2 m2 c2,Z s2]) (by simp[results,Tryz.results150,go_sem,K,R,l,p]) rfl ⟨_,rfl,j.keep kA,eA⟩
def ml(w:X)(d:I)(e:Bool)(q r:Int)(W:X):Prop:=
 oa w W/\W.heap[w.heap.size+1]?=Y (C #[d,Z e] 41 (0,0))/\
 ∃aq mq cq sq ar mr cr sr,W.heap[w.heap.size+1+1]?=Y (C #[O aq mq cq,Z sq] 41 (0,0))/\Nc W (J #[O aq mq cq,Z sq]) q/\
  W.heap[w.heap.size+1+1+1]?=Y (C #[O ar mr cr,Z sr] 41 (0,0))/\Nc W (J #[O ar mr cr,Z sr]) r
def yC(w:X)(d:I)(e:Bool)(x y:Int)(_:I)(W:X):Prop:=∃q,ml w d e q (x%y) W/\(if e then -q else q)=x/y
def rE{x y:Int}(s t:Bool)(l:s=decide (x<0))(z:t=decide (y<0))(K:y≠0)(h:s=false\/(x.natAbs:Int)%(y.natAbs:Int)=0):(if t then -(sg s ((x.natAbs:Int)/(y.natAbs:Int)))else sg s ((x.natAbs:Int)/(y.natAbs:Int)))=x/y/\(x.natAbs:Int)%(y.natAbs:Int)=x%y:=by
 have u:x%y=x%(y.natAbs:Int):=by
  rcases Int.natAbs_eq y with h|h
  ·rw[<-h]
  ·conv=>lhs;rw[h,Int.emod_neg]
 have e:s=false->(x.natAbs:Int)=x:=fun h=>by subst l;simp at h;omega
 have d:s=true->(x.natAbs:Int) = -x:=fun h=>by subst l;simp at h;omega
 have r:x/y=if t then -(x/(y.natAbs:Int))else x/(y.natAbs:Int):=by
  subst z;by_cases h:y<0
  ·simp only[h,decide_true,if_true];rw[show (y.natAbs:Int) = -y by omega,Int.ediv_neg,Int.neg_neg]
  ·simp only[h,decide_false,Bool.false_eq_true,if_false];rw[show (y.natAbs:Int)=y by omega]
 have f:(y.natAbs:Int)≠0:=oM;rw[r,u];cases s
 ·rw[e rfl];simp[sg]
 ·rw[d rfl]at h ⊢;have i:(-x)%(y.natAbs:Int)=0:=by rcases h with h|h;cases h;exact h
  have j:x%(y.natAbs:Int)=0:=by
   have:=Int.dvd_of_emod_eq_zero i;exact Int.emod_eq_zero_of_dvd (by simpa using Int.dvd_neg.2 this)
  refine⟨?_,by rw[i,j]⟩;have p:(-x)/(y.natAbs:Int) = -(x/(y.natAbs:Int)):=by
   apply Int.ediv_eq_of_eq_mul_left f;rw[Int.neg_mul,Int.ediv_mul_cancel (Int.dvd_of_emod_eq_zero j)]
  simp[sg,p]
def yv(w:X)(q r:Int)(e:Ending)(w':X):Prop:=∃vq vr,e=.returned (Ob #[vq,vr,N M 0])/\Nc w' vq q/\Nc w' vr r/\oa w w'
def ml.ext{w:X}{d:I}{e:Bool}{q r:Int}{W W':X}(h:ml w d e q r W)(k:oa W W'):ml w d e q r W':=by obtain⟨p,t,f,z,j,R,i,K,l,sr,u,x,y,h6⟩:=h;exact⟨p.trans k,k.e t,f,z,j,R,i,K,l,sr,k.e u,x.ext k,k.e y,h6.ext k⟩
def yl{W:X}{g:Nat}{x y:I}{T:TypeId}{d:Nat×Nat}(h:W.heap[g]?=Y (C #[x,y] T d))(u v:I):((W.setCell ⟨g,0,V⟩ u).setCell ⟨g,1,V⟩ v).heap[g]?=Y (C #[u,v] T d):=by simp[World.setCell,Array.getElem?_modify,h]
def Vl{W:X}{g i:Nat}{v:I}(h:W.cell? ⟨g,i,V⟩=Y v):W.setCell ⟨g,i,V⟩ v=W:=by
 have e:(W.setCell ⟨g,i,V⟩ v).heap=W.heap:=by
  apply Array.ext_getElem?;intro k;by_cases d:k=g
  ·subst d;simp only[World.setCell,Array.getElem?_modify,if_pos];unfold World.cell? at h;cases hw:W.heap[k]? with
   | none=>rfl
   | some o =>
    cases o with
    | cells cs T l =>
     simp[hw]at h;have:cs.setIfInBounds i v=cs:=by
      apply Array.ext_getElem?;intro j;rw[Array.getElem?_setIfInBounds];split
      ·subst_vars
       split
       ·exact h.symm
       ·rename_i h2;rw[Array.getElem?_eq_none oM]
      ·rfl
     simp[this]
    | _=>simp
  ·exact bS _ _ _ _ d
 have f:W.setCell ⟨g,i,V⟩ v={ W with heap:=(W.setCell ⟨g,i,V⟩ v).heap }:=rfl;rw[f,e]
def Gb{W:X}{g:Nat}{cs:Array I}{T:TypeId}{d:Nat×Nat}(h:W.heap[g]?=Y (C cs T d)){i:Nat}{u:I}(hi:cs[i]?=Y u):W.cell? ⟨g,i,V⟩=Y u:=by simp[World.cell?,h,hi]
def ja{W:X}{g:Nat}{cs:Array I}{T:TypeId}{d:Nat×Nat}(h:W.heap[g]?=Y (C cs T d))(i:Nat)(u:I)(hi:cs[i]?=Y u:=by rfl):W.cell? ⟨g,i,V⟩=Y u:=Gb h hi
def Vb{W:X}{g:Nat}{cs:Array I}{T:TypeId}(h:W.heap[g]?=Y (C cs T (0,0)))(i:Nat):W.frozen? ⟨g,i,V⟩=false:=by simp[World.frozen?,h]
def ml.setQ{w:X}{d:I}{t:Bool}{q p r:Int}{W:X}(h:ml w d t q r W){a:Option Oa}{m c:Nat}{s:Bool}(R:Nc W (J #[O a m c,Z s]) p):ml w d t p r ((W.setCell ⟨w.heap.size+1+1,0,V⟩ (O a m c)).setCell ⟨w.heap.size+1+1,1,V⟩ (Z s)):=by
 obtain⟨y,z,aq,mq,cq,sq,u,mr,x,sr,i,h4,K,h6⟩:=h;have f:∀k,k≠w.heap.size+1+1->((W.setCell ⟨w.heap.size+1+1,0,V⟩ (O a m c)).setCell ⟨w.heap.size+1+1,1,V⟩ (Z s)).heap[k]?=W.heap[k]?:=fun k f=>by rw[bS _ _ _ _ f,bS _ _ _ _ f]
 have l:Wc 2 W (w.heap.size+1+1):=fun cs fr e=>by rw[i]at e;cases e
 have j:Fa 2 W ((W.setCell ⟨w.heap.size+1+1,0,V⟩ (O a m c)).setCell ⟨w.heap.size+1+1,1,V⟩ (Z s)):=((Fa.refl _ W).D l _).D (l.set _ _) _;exact⟨(y.set dO _).set dO _,(f _ oM).trans z,a,m,c,s,u,mr,x,sr,yl i _ _,R.keep j,(f _ oM).trans K,h6.keep j⟩
def It(w:X)(va vb:I)(x y:Int)(ha:Nc w va x)(hb:Nc w vb y)(aw:Lm Qc x)(ax:Lm Qc y)(hy:y≠0)(aV:0<=x\/y ∣ x):Calls Tryz.prog 152 #[va,vb] w (yv w (x/y) (x%y)):=by
 obtain⟨a,m,c,s,rfl⟩:=ha.form;obtain⟨K,m',R,u,rfl⟩:=hb.form;have ap:=ia ha.sgn;have aP:=ia hb.sgn;have aS:=ha.dig;have av:=hb.dig;have aM:=ia aw.abs;have aO:=ia ax.abs;have bC:((y.natAbs:Int)==0)=false:=by simp;omega
 have aW:0<(y.natAbs:Int):=oM;clear aw ax ha;go_in;go_wp2_with(first|((go_at_call 97;(with_reducible refine(Ti _ (J #[O K m' R]) y.natAbs ?_).mono ?_);(refine av.ext ?_;exact eA);rintro e w1 ⟨rfl,aC⟩;obtain⟨⟨br,bw⟩,a1,a6,a7,a8⟩:=Up w aC))|((go_at_call 192;(with_reducible refine(Fy _ (J #[O a m c]) (J #[O K m' R]) x.natAbs y.natAbs ?_ ?_ aM.o aO.o aW).mono ?_);(refine aS.ext ?_;exact eA);(refine av.ext ?_;exact eA);rintro e w2 ⟨r2,r3,rfl,az,al,aU⟩;obtain⟨a2,m2,c2,rfl⟩:=az.z.form;obtain⟨a3,m3,c3,rfl⟩:=al.z.form;obtain⟨⟨bs,bx⟩,ba,bb,bc,bd⟩:=Up w aU;have aE:w.heap.size<w2.heap.size+1:=oM;have aF:w.heap.size<w2.heap.size+1+1:=oM;have aG:w.heap.size+1<w2.heap.size+1:=oM;have aH:w.heap.size+1<w2.heap.size+1+1:=oM;have aI:w.heap.size+1+1<w2.heap.size+1:=oM;have aJ:w.heap.size+1+1<w2.heap.size+1+1:=oM;have aK:w.heap.size+1+1+1<w2.heap.size+1:=oM;have aL:w.heap.size+1+1+1<w2.heap.size+1+1:=oM)));go_region_held3 (fun W=>W.cell? ⟨w.heap.size,1,V⟩=Y (Z s)/\W.cell? ⟨w2.heap.size,0,V⟩=Y (O a2 m2 c2)/\W.cell? ⟨w2.heap.size+1,0,V⟩=Y (O a3 m3 c3)) ((repeat' (with_reducible refine And.intro ?_ ?_))<;>(first|(go_simp;done)|(refine aC.d ?_;go_simp;done))) (first|((go_at_call 145;(with_reducible refine(Wo _ s (J #[O a2 m2 c2]) ((x.natAbs:Int)/(y.natAbs:Int)) ?_).mono ?_);(refine az.z.ext ?_;exact eA);rintro e w3 ⟨r4,rfl,aA,am⟩;obtain⟨a4,m4,c4,s4,rfl⟩:=aA.form;obtain⟨⟨bt,bz⟩,be,bf,bg,bh⟩:=Up w am;have aX:=am.lt (n:=w2.heap.size) (by go_simp);have aY:=am.lt (n:=w2.heap.size+1) (by go_simp)))|((go_at_call 145;(with_reducible refine(Wo _ false (J #[O a3 m3 c3]) ((x.natAbs:Int)%(y.natAbs:Int)) ?_).mono ?_);(refine al.z.ext ?_;exact eA);rintro e i ⟨r5,rfl,aB,an⟩;obtain⟨a5,m5,c5,s5,rfl⟩:=aB.form;obtain⟨⟨bu,bA⟩,bi,bj,bk,bl⟩:=Up w an;have aZ:=an.lt (n:=w2.heap.size) (by go_simp);have a0:=an.lt (n:=w2.heap.size+1) (by go_simp))));have au:=al.z.ext (w':=i) eA;have aa:oa ((((w.alloc (C #[O a m c,Z s] 41)).alloc (C #[O K m' R,Z u] 41)).alloc (C #[O V 0 0,Z false] 41)).alloc (C #[O V 0 0,Z false] 41)) i:=eA;have ay:ml w (O K m' R) u (sg s ((x.natAbs:Int)/(y.natAbs:Int))) ((x.natAbs:Int)%(y.natAbs:Int)) ((((i.setCell ⟨w.heap.size+1+1,0,V⟩ (O a4 m4 c4)).setCell ⟨w.heap.size+1+1,1,V⟩ (Z s4)).setCell ⟨w.heap.size+1+1+1,0,V⟩ (O a5 m5 c5)).setCell ⟨w.heap.size+1+1+1,1,V⟩ (Z s5)):=by
  have aa:oa ((((w.alloc (C #[O a m c,Z s] 41)).alloc (C #[O K m' R,Z u] 41)).alloc (C #[O V 0 0,Z false] 41)).alloc (C #[O V 0 0,Z false] 41)) i:=eA;have e1:i.heap[w.heap.size+1]?=Y (C #[O K m' R,Z u] 41 (0,0)):=aa.e (by rw[Ef,Ef,Ef];simp);have e2:i.heap[w.heap.size+1+1]?=Y (C #[O V 0 0,Z false] 41 (0,0)):=aa.e (by rw[Ef,Ef];simp);have e3:i.heap[w.heap.size+1+1+1]?=Y (C #[O V 0 0,Z false] 41 (0,0)):=aa.e (by rw[Ef];simp);have k1:∀k,k≠w.heap.size+1+1->((i.setCell ⟨w.heap.size+1+1,0,V⟩ (O a4 m4 c4)).setCell ⟨w.heap.size+1+1,1,V⟩ (Z s4)).heap[k]?=i.heap[k]?:=fun k hk=>by rw[bS _ _ _ _ hk,bS _ _ _ _ hk]
  have k2:∀(W:X) k,k≠w.heap.size+1+1+1->((W.setCell ⟨w.heap.size+1+1+1,0,V⟩ (O a5 m5 c5)).setCell ⟨w.heap.size+1+1+1,1,V⟩ (Z s5)).heap[k]?=W.heap[k]?:=fun W k hk=>by rw[bS _ _ _ _ hk,bS _ _ _ _ hk]
  have n2:Wc 2 i (w.heap.size+1+1):=fun cs fr e=>by rw[e2]at e;cases e
  have n3:Wc 2 i (w.heap.size+1+1+1):=fun cs fr e=>by rw[e3]at e;cases e
  have hK:Fa 2 i ((((i.setCell ⟨w.heap.size+1+1,0,V⟩ (O a4 m4 c4)).setCell ⟨w.heap.size+1+1,1,V⟩ (Z s4)).setCell ⟨w.heap.size+1+1+1,0,V⟩ (O a5 m5 c5)).setCell ⟨w.heap.size+1+1+1,1,V⟩ (Z s5)):=
   ((((Fa.refl _ i).D n2 _).D (n2.set _ _) _).D ((n3.set _ _).set _ _) _).D (((n3.set _ _).set _ _).set _ _) _
  exact⟨eA,((k2 _ _ oM).trans (k1 _ oM)).trans e1,a4,m4,c4,s4,a5,m5,c5,s5,(k2 _ _ oM).trans (yl e2 _ _),(aA.ext eA).keep hK,yl ((k1 _ oM).trans e3) _ _,aB.keep hK⟩
 have aQ:Tc ((((i.setCell ⟨w.heap.size+1+1,0,V⟩ (O a4 m4 c4)).setCell ⟨w.heap.size+1+1,1,V⟩ (Z s4)).setCell ⟨w.heap.size+1+1+1,0,V⟩ (O a5 m5 c5)).setCell ⟨w.heap.size+1+1+1,1,V⟩ (Z s5)) (J #[O a3 m3 c3]) ((x.natAbs:Int)%(y.natAbs:Int)):=by
  refine au.keep ?_;have e2:i.heap[w.heap.size+1+1]?=Y (C #[O V 0 0,Z false] 41 (0,0)):=aa.e (by rw[Ef,Ef];simp);have e3:i.heap[w.heap.size+1+1+1]?=Y (C #[O V 0 0,Z false] 41 (0,0)):=aa.e (by rw[Ef];simp);have n2:Wc 2 i (w.heap.size+1+1):=fun cs fr e=>by rw[e2]at e;cases e
  have n3:Wc 2 i (w.heap.size+1+1+1):=fun cs fr e=>by rw[e3]at e;cases e
  exact((((Fa.refl _ i).D n2 _).D (n2.set _ _) _).D ((n3.set _ _).set _ _) _).D (((n3.set _ _).set _ _).set _ _) _
 have ao:=ia ay;clear ay;by_cases hA:s=false\/(x.natAbs:Int)%(y.natAbs:Int)=0
 ·have ak:=rE s u ap.o aP.o hy hA;have z:=ia ak;clear ak;cases s
  ·go_upto_if 34 with fail;go_cut [38] (yC w (O K m' R) u x y)
   case first =>
    go_wp2;go_meet;exact⟨_,by rw[<-z.o.2];exact ao.o,z.o.1⟩
   case rest =>
    obtain⟨q,hS,hq⟩:=hcut;have HS:=ia hS;obtain⟨hx,j,aq,mq,cq,sq,ar,mr,cr,sr,d,h4,f,h6⟩:=hS;have b0:=ja j 0 (O K m' R);have b1:=ja j 1 (Z u);have q0:=ja d 0 (O aq mq cq);have q1:=ja d 1 (Z sq);have r0:=ja f 0 (O ar mr cr);have r1:=ja f 1 (Z sr);have ac:=Vb d 0;have ad:=Vb d 1;have ae:=Vb f 0;have af:=Vb f 1;have ai:=jc d;have aj:=jc f;have ab:=ia j;clear d f j;go_upto_if 43 with fail;go_cut [44] (fun _ W=>ml w (O K m' R) u (x/y) (x%y) W)
    case first =>
     cases u
     ·go_wp2;go_meet;simp at hq;rw[<-hq];exact HS.o
     ·go_wp2_with(first|((go_at_call 151;(with_reducible refine(ir _ (J #[O aq mq cq,Z sq]) q ?_).mono ?_);(refine h4.ext ?_;exact eA);rintro e w9 ⟨r9,rfl,ag,ah⟩;obtain⟨a9,m9,c9,s9,rfl⟩:=ag.form;obtain⟨aR,aT⟩:=ah.cells)));go_meet;simp at hq;rw[<-hq];exact(HS.o.ext ah).setQ ag
    case rest =>
     clear hx h4 h6 b0 b1 q0 q1 r0 r1 ac ad ae af ai aj HS hq ab;obtain⟨wd,rfl⟩:∃W,W=wc:=⟨_,rfl⟩;have hS:=hcut;have HS:=ia hS;obtain⟨hx,j,aq,mq,cq,sq,ar,mr,cr,sr,d,h4,f,h6⟩:=hS;have b0:=ja j 0 (O K m' R);have b1:=ja j 1 (Z u);have q0:=ja d 0 (O aq mq cq);have q1:=ja d 1 (Z sq);have r0:=ja f 0 (O ar mr cr);have r1:=ja f 1 (Z sr);have ac:=Vb d 0;have ad:=Vb d 1;have ae:=Vb f 0;have af:=Vb f 1;have ai:=jc d;have aj:=jc f;have ab:=ia j;clear d f j;have l:=Vl q0;have p:=Vl q1;have r:=Vl r0;have t:=Vl r1;go_wp2
     go_region_with (fail)
     all_goals go_wp2
     all_goals exact bR (v:=Ob #[J #[O aq mq cq,Z sq],J #[O ar mr cr,Z sr],N M 0]) (by simp[results,Tryz.results152,go_sem,q0,q1,r0,r1,l,p,r,t]) rfl ⟨_,_,rfl,by(try simp only[l,p,r,t]);exact h4.ext eA,by(try simp only[l,p,r,t]);exact h6.ext eA,by(try simp only[l,p,r,t]);(repeat(first|with_reducible assumption|with_reducible refine oa.drew ?_))⟩
  ·have h0:(x.natAbs:Int)%(y.natAbs:Int)=0:=by simpa using hA
   have bq:((x.natAbs:Int)%(y.natAbs:Int)==0)=true:=by simpa using h0
   have H0:=ia h0;clear h0 hA;go_upto_if 34 with (first|((go_at_call 97;(with_reducible refine(Ti _ (J #[O a3 m3 c3]) ((x.natAbs:Int)%(y.natAbs:Int)) ?_).mono ?_);(refine aQ.ext ?_;exact eA);rintro e w5 ⟨rfl,aD⟩;obtain⟨⟨bv,bB⟩,bm,bn,bo,bp⟩:=Up w aD)));go_cut [38] (yC w (O K m' R) u x y)
   case first =>
    go_wp2;go_meet;exact⟨_,by rw[<-z.o.2];exact ao.o.ext aD,z.o.1⟩
   case rest =>
    obtain⟨q,hS,hq⟩:=hcut;have HS:=ia hS;obtain⟨hx,j,aq,mq,cq,sq,ar,mr,cr,sr,d,h4,f,h6⟩:=hS;have b0:=ja j 0 (O K m' R);have b1:=ja j 1 (Z u);have q0:=ja d 0 (O aq mq cq);have q1:=ja d 1 (Z sq);have r0:=ja f 0 (O ar mr cr);have r1:=ja f 1 (Z sr);have ac:=Vb d 0;have ad:=Vb d 1;have ae:=Vb f 0;have af:=Vb f 1;have ai:=jc d;have aj:=jc f;have ab:=ia j;clear d f j;go_upto_if 43 with fail;go_cut [44] (fun _ W=>ml w (O K m' R) u (x/y) (x%y) W)
    case first =>
     cases u
     ·go_wp2;go_meet;simp at hq;rw[<-hq];exact HS.o
     ·go_wp2_with(first|((go_at_call 151;(with_reducible refine(ir _ (J #[O aq mq cq,Z sq]) q ?_).mono ?_);(refine h4.ext ?_;exact eA);rintro e w9 ⟨r9,rfl,ag,ah⟩;obtain⟨a9,m9,c9,s9,rfl⟩:=ag.form;obtain⟨aR,aT⟩:=ah.cells)));go_meet;simp at hq;rw[<-hq];exact(HS.o.ext ah).setQ ag
    case rest =>
     clear hx h4 h6 b0 b1 q0 q1 r0 r1 ac ad ae af ai aj HS hq ab;obtain⟨wd,rfl⟩:∃W,W=wc:=⟨_,rfl⟩;have hS:=hcut;have HS:=ia hS;obtain⟨hx,j,aq,mq,cq,sq,ar,mr,cr,sr,d,h4,f,h6⟩:=hS;have b0:=ja j 0 (O K m' R);have b1:=ja j 1 (Z u);have q0:=ja d 0 (O aq mq cq);have q1:=ja d 1 (Z sq);have r0:=ja f 0 (O ar mr cr);have r1:=ja f 1 (Z sr);have ac:=Vb d 0;have ad:=Vb d 1;have ae:=Vb f 0;have af:=Vb f 1;have ai:=jc d;have aj:=jc f;have ab:=ia j;clear d f j;have l:=Vl q0;have p:=Vl q1;have r:=Vl r0;have t:=Vl r1;go_wp2
     go_region_with (fail)
     all_goals go_wp2
     all_goals exact bR (v:=Ob #[J #[O aq mq cq,Z sq],J #[O ar mr cr,Z sr],N M 0]) (by simp[results,Tryz.results152,go_sem,q0,q1,r0,r1,l,p,r,t]) rfl ⟨_,_,rfl,by(try simp only[l,p,r,t]);exact h4.ext eA,by(try simp only[l,p,r,t]);exact h6.ext eA,by(try simp only[l,p,r,t]);(repeat(first|with_reducible assumption|with_reducible refine oa.drew ?_))⟩
 ·exfalso;rcases aV with h|h
  ·exact hA (.inl (by rw[ap.o];simp;omega))
  ·exact hA (.inr (Int.emod_eq_zero_of_dvd (by simpa using Int.natAbs_dvd.2 (Int.dvd_natAbs.2 h))))
def La(w:X)(v:I)(q:Rat):Prop:=
 ∃a m c s a2 m2 c2,v=J #[O a m c,Z s,O a2 m2 c2]/\Nc w (J #[O a m c,Z s]) q.num/\Tc w (J #[O a2 m2 c2]) ((q.den:Int)-1)
section
variable {w w':X} {v:I} {q:Rat} {a a2:Option Oa} {m c m2 c2:Nat} {s:Bool}
def La.ext(h:La w v q)(k:oa w w'):La w' v q:=by obtain⟨a,m,c,s,a2,m2,c2,rfl,d,e⟩:=h;exact⟨a,m,c,s,a2,m2,c2,rfl,d.ext k,e.ext k⟩
def La.keep(h:La w v q)(k:Fa 2 w w'):La w' v q:=by obtain⟨a,m,c,s,a2,m2,c2,rfl,d,e⟩:=h;exact⟨a,m,c,s,a2,m2,c2,rfl,d.keep k,e.keep k⟩
def La.form(h:La w v q):∃a m c s a2 m2 c2,v=J #[O a m c,Z s,O a2 m2 c2]:=by obtain⟨a,m,c,s,a2,m2,c2,rfl,d,e⟩:=h;exact⟨a,m,c,s,a2,m2,c2,rfl⟩
def La.top(h:La w (J #[O a m c,Z s,O a2 m2 c2]) q):Nc w (J #[O a m c,Z s]) q.num:=by obtain⟨a,m,c,s,a2,m2,c2,e,d,f⟩:=h;cases e;exact d
def La.rest(h:La w (J #[O a m c,Z s,O a2 m2 c2]) q):Tc w (J #[O a2 m2 c2]) ((q.den:Int)-1):=by obtain⟨a,m,c,s,a2,m2,c2,e,f,d⟩:=h;cases e;exact d
def La.mk(d:Nc w (J #[O a m c,Z s]) q.num)(e:Tc w (J #[O a2 m2 c2]) ((q.den:Int)-1)):La w (J #[O a m c,Z s,O a2 m2 c2]) q:=
 ⟨_,_,_,_,_,_,_,rfl,d,e⟩
def Tc.nil(w:X):Tc w (J #[O V 0 0]) 0:=⟨_,[],rfl,Uc.nil _ _,Wg.nil _,rfl⟩
def La.zero(w:X):La w (J #[O V 0 0,Z false,O V 0 0]) 0:=La.mk (Nc.nil w) (Tc.nil w)
end
def Rb(k:Nat)(q:Rat):Prop:=Lm k q.num/\Lm k (q.den:Int)
def Rb.mono{j k:Nat}{q:Rat}(h:Rb j q)(d:j<=k):Rb k q:=⟨h.1.mono d,h.2.mono d⟩
def Id(w:X)(q:Rat)(e:Ending)(w':X):Prop:=∃r,e=.returned r/\La w' r q/\oa w w'
def Yb:Nat:=1000000
def Sg(q:Rat):0<(q.den:Int):=by have:=q.den_pos;omega
def Gq{k:Nat}(d:1<=k):Lm k 1:=Lm.mono (j:=1) (by unfold Lm B;omega) d
def Xl(w:X)(v:I)(q:Rat)(h:La w v q):Calls Tryz.prog 20 #[v] w fun e w'=>e=.returned (N M q.num.sign)/\oa w w':=by obtain⟨a,m,c,s,a2,m2,c2,rfl⟩:=h.form;go_in;go_wp2_with(((go_at_call 69;(with_reducible refine(lG _ (J #[O a m c,Z s]) q.num ?_).mono ?_);(refine h.top.ext ?_;exact eA);rintro e l ⟨rfl,d⟩;obtain⟨⟨i,j⟩,f⟩:=Jf w d)));go_ret;exact⟨rfl,eA⟩
def Fu(w:X)(v:I)(q:Rat)(h:La w v q)(t:Rb Yb q):Calls Tryz.prog 71 #[v] w (Uf w (q.den:Int)):=by
 obtain⟨a,m,c,s,a2,m2,c2,rfl⟩:=h.form;have ac:=Sg q;have z:zc (Lm Cc ((q.den:Int)-1)):=ia ((t.2.mono dM).le oM oM);have y:zc (Lm Cc 1):=ia (Gq dM);have hr:=h.rest;clear t h;go_in;go_wp2;go_region_held3 (fun W=>W.cell? ⟨w.heap.size,2,V⟩=Y (O a2 m2 c2)) ((repeat' (with_reducible refine And.intro ?_ ?_))<;>(first|(go_simp;done)|(refine hx1.d ?_;go_simp;done))) (first|((go_at_call 148;(with_reducible refine(Mv _ 1 dM dM).mono ?_);rintro e w1 ⟨r1,rfl,d,hx1,aa⟩;obtain⟨K,m1,c1,rfl⟩:=d.z.form;obtain⟨⟨l,ad⟩,u,i⟩:=Oi w hx1))|((go_at_call 147;(with_reducible refine(Nl _ (J #[O a2 m2 c2]) (J #[O K m1 c1]) ((q.den:Int)-1) 1 1 ?_ ?_ z.o y.o dM oM).mono ?_);(refine hr.ext ?_;exact eA);(refine d.z.ext ?_;exact eA);rintro e w2 ⟨r2,rfl,f,r,ab⟩;obtain⟨R,m3,c3,rfl⟩:=f.z.form;obtain⟨⟨p,ae⟩,x,j⟩:=Oi w r)))
 all_goals go_wp2
 refine bR (v:=J #[O R m3 c3,Z false]) (by simp[results,Tryz.results71,go_sem,l,p,i,j]) rfl ⟨_,rfl,Nc.keep (w:=w2) ?_ kA,eA,dA⟩;refine⟨_,_,_,_,rfl,by simp,?_⟩;have e:(((q.den:Int).natAbs:Nat):Int)=(q.den:Int)-1+1*1:=oM;rw[e];exact f.z
def im(w:X)(v:I)(q:Rat)(h:La w v q)(d:Rb Yb q):Calls Tryz.prog 71 #[v] w (qi w (q.den:Int)):=Ck (Fu w v q h d)
def MJ(w:X)(v:I)(n:Int)(h:Nc w v n):Calls Tryz.prog 73 #[v] w (Id w (n:Rat)):=by obtain⟨a,m,c,s,rfl⟩:=h.form;go_in;go_wp2;exact bR (v:=J #[O a m c,Z s,O V 0 0]) (by simp[results,Tryz.results73,go_sem]) rfl ⟨_,rfl,La.mk (h.ext eA) (Tc.nil _),eA⟩
def Kq(w:X)(n:Int)(K:-9223372036854775808<=n)(R:n<=9223372036854775807):Calls Tryz.prog 22 #[N M n] w (Id w (n:Rat)):=by go_in;go_wp2_with(first|((go_at_call 74;(with_reducible refine(Po _ n K R).mono ?_);rintro e w1 ⟨r1,rfl,d,r⟩;obtain⟨u,m1,y,s1,rfl⟩:=d.form;obtain⟨⟨l,aa⟩,i⟩:=Jf w r))|((go_at_call 73;(with_reducible refine(MJ _ (J #[O u m1 y,Z s1]) n d).mono ?_);rintro e w2 ⟨r2,rfl,f,t⟩;obtain⟨a2,m2,c2,s2,x,m3,z,rfl⟩:=f.form;obtain⟨⟨p,ab⟩,j⟩:=Jf w t)));exact bR (v:=J #[O a2 m2 c2,Z s2,O x m3 z]) (by simp[results,Tryz.results22,go_sem,l,p,i,j]) rfl ⟨_,rfl,f.keep kA,eA⟩
def qF(w:X)(v:I)(q:Rat)(h:La w v q):Calls Tryz.prog 121 #[v] w (Id w (-q)):=by
 obtain⟨a,m,c,s,a2,m2,c2,rfl⟩:=h.form;go_in;go_wp2;go_region_held3 (fun W=>W.cell? ⟨w.heap.size,0,V⟩=Y (O a m c)/\W.cell? ⟨w.heap.size,1,V⟩=Y (Z s)/\W.cell? ⟨w.heap.size,2,V⟩=Y (O a2 m2 c2)) ((repeat' (with_reducible refine And.intro ?_ ?_))<;>(first|(go_simp;done)|(refine hx1.d ?_;go_simp;done))) (((go_at_call 151;(with_reducible refine(ir _ (J #[O a m c,Z s]) q.num ?_).mono ?_);(refine h.top.ext ?_;exact eA);rintro e y ⟨x,rfl,d,hx1⟩;obtain⟨l,t,p,u,rfl⟩:=d.form;obtain⟨⟨i,r⟩,j,f⟩:=Oi w hx1)))
 all_goals go_wp2
 exact bR (v:=J #[O l t p,Z u,O a2 m2 c2]) (by simp[results,Tryz.results121,go_sem,i,f]) rfl ⟨_,rfl,La.keep (La.mk d (h.rest.ext eA)) kA,eA⟩
def rg(n d:Int):Int:=if d<0 then -(Int.gcd n d:Int)else (Int.gcd n d:Int)
def tF{n d:Int}(i:d≠0):rg n d≠0/\rg n d ∣ n/\rg n d ∣ d/\n/rg n d=(Rat.divInt n d).num/\d/rg n d=((Rat.divInt n d).den:Int):=by
 have j:0<Int.gcd n d:=Int.gcd_pos_of_ne_zero_right n i;have f:(Int.gcd n d:Int) ∣ n:=Int.gcd_dvd_left ..;have e:(Int.gcd n d:Int) ∣ d:=Int.gcd_dvd_right ..;rw[Rat.num_divInt,Rat.den_divInt,if_neg i,Int.gcd_comm d n];unfold rg;by_cases h:d<0
 ·rw[if_pos h];refine⟨by omega,Int.neg_dvd.2 f,Int.neg_dvd.2 e,?_,?_⟩
  ·rw[Int.sign_eq_neg_one_of_neg h,Int.ediv_neg,Int.neg_mul,Int.one_mul,Int.neg_ediv_of_dvd f]
  ·rw[Int.ediv_neg,Int.natCast_ediv,Int.ofNat_natAbs_of_nonpos oM,Int.neg_ediv_of_dvd e]
 ·rw[if_neg h];refine⟨by omega,f,e,?_,?_⟩
  ·rw[Int.sign_eq_one_of_pos oM,Int.one_mul]
  ·rw[Int.natCast_ediv,Int.natAbs_of_nonneg oM]
def qD{k:Nat}{n d:Int}(i:d≠0)(h:Lm k d):Lm k (rg n d):=by
 have e:(Int.gcd n d:Int)<=d.natAbs:=Int.le_of_dvd oM (Int.dvd_natAbs.2 (Int.gcd_dvd_right ..));have f:0<=(Int.gcd n d:Int):=Int.natCast_nonneg _;unfold rg Lm at *
 split<;>omega
def Eo{n d:Int}(e:d≠0){k:Nat}(h:Lm k d):Lm k ((Rat.divInt n d).den:Int):=by
 have f:(Rat.divInt n d).den<=d.natAbs:=by
  rw[Rat.den_divInt,if_neg e];exact Nat.div_le_self _ _
 unfold Lm at *;omega
def Eq{n d:Int}(e:d≠0){k:Nat}(h:Lm k n):Lm k (Rat.divInt n d).num:=by
 have f:(Rat.divInt n d).num.natAbs<=n.natAbs:=by
  rw[Rat.num_divInt,Int.natAbs_ediv_of_dvd]
  ·rw[Int.natAbs_mul];have:d.sign.natAbs=1:=by rw[Int.natAbs_sign];simp[e]
   rw[this,Nat.one_mul];exact Nat.div_le_self _ _
  ·exact Int.dvd_trans (Int.gcd_dvd_right ..) (Int.dvd_mul_left ..)
 unfold Lm at *;omega
def ZB(W:X)(b:Nat)(n:Int):Prop:=∃a m c s,W.heap[b]?=Y (C #[O a m c,Z s] 41 (0,0))/\Nc W (J #[O a m c,Z s]) n
section
variable {W W':X} {b b':Nat} {n n':Int}
def ZB.ext(h:ZB W b n)(k:oa W W'):ZB W' b n:=by obtain⟨a,m,c,s,d,e⟩:=h;exact⟨a,m,c,s,k.e d,e.ext k⟩
def ZB.not(h:ZB W b n):Wc 2 W b:=by obtain⟨a,m,c,s,d,i⟩:=h;intro cs f e;rw[d]at e;cases e
def ZB.rd(h:ZB W b n):∃a m c s,W.cell? ⟨b,0,V⟩=Y (O a m c)/\W.cell? ⟨b,1,V⟩=Y (Z s)/\W.frozen? ⟨b,0,V⟩=false/\W.frozen? ⟨b,1,V⟩=false/\b<W.heap.size/\Nc W (J #[O a m c,Z s]) n:=by obtain⟨a,m,c,s,d,e⟩:=h;exact⟨a,m,c,s,Gb d (i:=0) rfl,Gb d (i:=1) rfl,Vb d 0,Vb d 1,jc d,e⟩
def ZB.put{a:Option Oa}{m c:Nat}{s:Bool}(h:ZB W b n)(f:Nc W (J #[O a m c,Z s]) n'):ZB ((W.setCell ⟨b,0,V⟩ (O a m c)).setCell ⟨b,1,V⟩ (Z s)) b n':=by have d:=h.not;obtain⟨i,p,j,r,e,l⟩:=h;exact⟨a,m,c,s,yl e _ _,f.keep (((Fa.refl _ W).D d _).D (d.set _ _) _)⟩
def ZB.other{p:Oa}(h:ZB W b n)(i:p.block≠b)(j:Wc 2 W p.block)(u:I):ZB (W.setCell p u) b n:=by obtain⟨a,m,c,s,d,f⟩:=h;exact⟨a,m,c,s,(bS _ _ _ _ (fun e=>i e.symm)).trans d,f.keep ((Fa.refl _ W).D j _)⟩
def ZB.new{d:X}{a:Option Oa}{m c:Nat}{s:Bool}(f:Nc d (J #[O a m c,Z s]) n)(e:b=d.heap.size):ZB (d.alloc (C #[O a m c,Z s] 41)) b n:=
 ⟨a,m,c,s,Kc _ _ _ e,f.ext ((eR _).alloc _)⟩
end
def vC(w:X)(e:Nat)(n d g:Int)(_:I)(W:X):Prop:=
 oa w W/\ZB W w.heap.size n/\ZB W (w.heap.size+1) d/\W.heap[w.heap.size+1+1]?=Y (C #[O V 0 0,Z false,O V 0 0] 43 (0,0))/\ZB W e g
def mu(w:X)(va vb:I)(n d:Int)(ha:Nc w va n)(hb:Nc w vb d)(K:Lm Qc n)(j:Lm Qc d)(hd:d≠0):Calls Tryz.prog 75 #[va,vb] w (Id w (Rat.divInt n d)):=by
 obtain⟨a,m,c,s,rfl⟩:=ha.form;obtain⟨a',m',c',s',rfl⟩:=hb.form;have af:=ia hb.sgn;obtain⟨ah,aj,ai,ao,an⟩:=tF (n:=n) hd;have aG:=ia K;have aF:=ia j;have ad:=ia (qD (n:=n) hd j);have ae:zc (Lm Cc n):=ia (K.mono dM);have ac:zc (Lm Cc d):=ia (j.mono dM);have aL:=ia ao;have aK:=ia an;have aJ:=ia aj;have aI:=ia ai;have aH:zc (Lm Cc ((Rat.divInt n d).den:Int)):=ia (Eo hd (j.mono dM));have H1:zc (Lm Cc 1):=ia (Gq dM);have br:=Sg (Rat.divInt n d);clear K j ao an aj ai;go_in;go_upto_if 10 with (((go_at_call 150;(with_reducible refine(NF _ (J #[O a m c,Z s]) (J #[O a' m' c',Z s']) n d ?_ ?_ ae.o ac.o).mono ?_);(refine ha.ext ?_;exact eA);(refine hb.ext ?_;exact eA);rintro e i ⟨r1,rfl,y,l⟩;obtain⟨a1,m1,c1,s1,rfl⟩:=y.form;obtain⟨⟨aM,aS⟩,ax,ay,az⟩:=oc w l;have t:w.heap.size<i.heap.size+1:=oM;have u:w.heap.size+1<i.heap.size+1:=oM;have x:w.heap.size+1+1<i.heap.size+1:=oM)));have z:vC w i.heap.size n d (Int.gcd n d:Nat) (Z true) (i.alloc (C #[O a1 m1 c1,Z s1] 41)):=by
  refine⟨eA,?_,?_,?_,ZB.new y rfl⟩
  ·refine ZB.ext (W:=w.alloc (C #[O a m c,Z s] 41)) (ZB.new ha rfl) eA
  ·refine ZB.ext (W:=(w.alloc (C #[O a m c,Z s] 41)).alloc (C #[O a' m' c',Z s'] 41)) (ZB.new (hb.ext eA) sM) eA
  ·exact(l.E ((Below.refl _ _).alloc (nE _) _) l.size).e (by rw[Ef];simp)
 go_cut [11] (vC w i.heap.size n d (rg n d))
 case first =>
  cases s'
  ·have e:rg n d=(Int.gcd n d:Nat):=by have:=af.o;unfold rg;rw[if_neg (by simpa using this)]
   have E:=ia e;clear e;go_wp2;go_meet;rw[E.o];exact z
  ·have e:rg n d = -((Int.gcd n d:Nat):Int):=by have:=af.o;unfold rg;rw[if_pos (by simpa using this)]
   have E:=ia e;clear e;go_wp2_with(((go_at_call 151;(with_reducible refine(ir _ (J #[O a1 m1 c1,Z s1]) (Int.gcd n d:Nat) ?_).mono ?_);(refine y.ext ?_;exact eA);rintro e w2 ⟨r2,rfl,au,f⟩;obtain⟨a2,m2,c2,s2,rfl⟩:=au.form;obtain⟨⟨bq,bs⟩,a8,a9,ba⟩:=oc w f;have aZ:=f.lt (n:=i.heap.size) (by go_simp))));go_meet;rw[E.o];obtain⟨i1,i2,i3,i4,i5⟩:=z;have hN:=(i5.ext f).not;exact⟨eA,((i2.ext f).other dO hN _).other dO (hN.set _ _) _,((i3.ext f).other dO hN _).other dO (hN.set _ _) _,
    by rw[bS _ _ _ _ dO,bS _ _ _ _ dO];exact f.e i4,(i5.ext f).put au⟩
 case rest =>
  have bF:¬i.heap.size=w.heap.size:=oM;have bG:¬w.heap.size=i.heap.size:=oM;have bH:¬i.heap.size=w.heap.size+1:=oM;have bI:¬w.heap.size+1=i.heap.size:=oM;clear z l aM aS ax ay az t u x y;obtain⟨hx,b1,b2,r,b4⟩:=hcut;have bx:=b1.not;have bz:=b2.not;have bA:Wc 2 wc (w.heap.size+1+1):=fun cs fr e=>by rw[r]at e;cases e
  have aE:w.heap.size+1+1<wc.heap.size:=jc r;have r0:=ja r 0 (O V 0 0);have r1:=ja r 1 (Z false);have r2:=ja r 2 (O V 0 0);have bJ:=Vb r 0;have bK:=Vb r 1;have bL:=Vb r 2;obtain⟨a3,m3,c3,s3,n0,n1,bD,bE,bj,aY⟩:=b1.rd;obtain⟨a4,m4,c4,s4,d0,d1,bm,bn,bk,aX⟩:=b2.rd;obtain⟨a5,m5,c5,s5,g0,g1,bo,bp,bl,aw⟩:=b4.rd;clear b1 b2 r b4;go_wp2_with(first|((go_at_call 152;(with_reducible refine(It _ (J #[O a3 m3 c3,Z s3]) (J #[O a5 m5 c5,Z s5]) n (rg n d) ?_ ?_ aG.o ad.o ah (.inr aJ.o)).mono ?_);(refine aY.ext ?_;exact eA);(refine aw.ext ?_;exact eA);rintro e w3 ⟨vq,vr,rfl,ak,aT,p⟩;obtain⟨aq,mq,cq,sq,rfl⟩:=ak.form;obtain⟨ar,mr,cr,sr,rfl⟩:=aT.form;obtain⟨⟨aO,bt⟩,bb,bc,aA⟩:=oc w p;have a0:=p.lt (n:=i.heap.size) (by go_simp)))|((go_at_call 152;(with_reducible refine(It _ (J #[O a4 m4 c4,Z s4]) (J #[O a5 m5 c5,Z s5]) d (rg n d) ?_ ?_ aF.o ad.o ah (.inr aI.o)).mono ?_);(refine(aX.ext p).keep kA);(refine(aw.ext p).keep kA);rintro e w4 ⟨vq,vr,rfl,al,aU,ab⟩;obtain⟨ap,mp,cp,sp,rfl⟩:=al.form;obtain⟨ar,mr,cr,sr,rfl⟩:=aU.form;obtain⟨⟨aP,bu⟩,bd,be,aB⟩:=oc w ab)));have R:=(al.dig).keep (w':=(w4.setCell ⟨w.heap.size+1,0,V⟩ (O ap mp cp)).setCell ⟨w.heap.size+1,1,V⟩ (Z sp)) kA;have am:=((ak.keep (w':=(w3.setCell ⟨w.heap.size,0,V⟩ (O aq mq cq)).setCell ⟨w.heap.size,1,V⟩ (Z sq)) kA).ext ab).keep (w':=(w4.setCell ⟨w.heap.size+1,0,V⟩ (O ap mp cp)).setCell ⟨w.heap.size+1,1,V⟩ (Z sp)) kA;rw[aK.o]at R;rw[aL.o]at am;have e5:(((Rat.divInt n d).den:Int).natAbs:Int)=((Rat.divInt n d).den:Int):=oM;rw[e5]at R;clear e5;go_region_held3 (fun W=>W.cell? ⟨w.heap.size,0,V⟩=Y (O aq mq cq)/\W.cell? ⟨w.heap.size,1,V⟩=Y (Z sq)/\W.cell? ⟨w.heap.size+1,0,V⟩=Y (O ap mp cp)) ((repeat' (with_reducible refine And.intro ?_ ?_))<;>(first|(go_simp;done)|(refine l.d ?_;go_simp;done))) (first|((go_at_call 148;(with_reducible refine(Yn _ 1 dM dM).mono ?_);rintro e w5 ⟨r5,rfl,av,aV⟩;obtain⟨a6,m6,c6,rfl⟩:=av.z.form;obtain⟨⟨aQ,bv⟩,bf,bg,aC⟩:=oc w aV))|((go_at_call 147;(with_reducible refine(Uo _ (J #[O ap mp cp]) (J #[O a6 m6 c6]) ((Rat.divInt n d).den:Int) 1 (-1) ?_ ?_ aH.o H1.o dM oM).mono ?_);(refine R.ext ?_;exact eA);(refine av.z.ext ?_;exact eA);rintro e w6 ⟨r6,rfl,aa,aW⟩;obtain⟨a7,m7,c7,rfl⟩:=aa.z.form;obtain⟨⟨aR,bw⟩,bh,bi,aD⟩:=oc w aW)))
  all_goals go_wp2
  have e7:((Rat.divInt n d).den:Int) + -1*1=((Rat.divInt n d).den:Int)-1:=oM;rw[e7]at aa;clear e7;have ag:La w6 (J #[O aq mq cq,Z sq,O a7 m7 c7]) (Rat.divInt n d):=La.mk (am.ext eA) aa.z;refine bR (v:=J #[O aq mq cq,Z sq,O a7 m7 c7]) (by simp[results,Tryz.results75,go_sem,aO,aP,aQ,aR,aE,aA,aB,aC,aD,r0,r1,r2]) rfl ⟨_,rfl,ag.keep kA,?_⟩;have bB:oa w w3:=hx.trans p;have bC:oa w w4:=oa.trans eA ab;exact eA
def Cw(w:X)(va vb:I)(n d:Int)(ha:Nc w va n)(hb:Nc w vb d)(t:Lm Qc n)(u:Lm Qc d):Calls Tryz.prog 80 #[va,vb] w fun e w'=>∃r,e=.returned (Ob #[r,N M (if d=0 then 9 else 0)])/\La w' r (Rat.divInt n d)/\oa w w':=by
 obtain⟨a,m,c,s,rfl⟩:=ha.form;obtain⟨a',m',c',s',rfl⟩:=hb.form;have aa:=ia t;have R:=ia u;clear t u;have p:=hb.dig;by_cases l:d=0
 ·have hz:((d.natAbs:Int)==0)=true:=by simp[l]
  have Hd:=ia l;clear l;go_in;go_wp2_with(((go_at_call 97;(with_reducible refine(Ti _ (J #[O a' m' c']) d.natAbs ?_).mono ?_);(refine p.ext ?_;exact eA);rintro e w1 ⟨rfl,j⟩;obtain⟨⟨i,ac⟩,y,z,f⟩:=oc w j)));refine bR (v:=Ob #[J #[O V 0 0,Z false,O V 0 0],N M 9]) (by simp[results,Tryz.results80,go_sem,i,f]) rfl ⟨J #[O V 0 0,Z false,O V 0 0],by first|rfl|rw[if_pos Hd.o],?_,eA⟩
  first|exact La.zero _|(rw[Hd.o,Rat.divInt_zero];exact La.zero _)
 ·have hz:((d.natAbs:Int)==0)=false:=by simp;omega
  go_in;go_wp2_with(first|((go_at_call 97;(with_reducible refine(Ti _ (J #[O a' m' c']) d.natAbs ?_).mono ?_);(refine p.ext ?_;exact eA);rintro e w1 ⟨rfl,j⟩;obtain⟨⟨i,ac⟩,y,z,f⟩:=oc w j))|((go_at_call 75;(with_reducible refine(mu _ (J #[O a m c,Z s]) (J #[O a' m' c',Z s']) n d ?_ ?_ aa.o R.o l).mono ?_);(refine ha.ext ?_;exact eA);(refine hb.ext ?_;exact eA);rintro e w2 ⟨r2,rfl,x,ad⟩;obtain⟨a2,m2,c2,s2,a3,m3,c3,rfl⟩:=x.form;obtain⟨⟨ab,ag⟩,ae,af,K⟩:=oc w ad)));exact bR (v:=Ob #[J #[O a2 m2 c2,Z s2,O a3 m3 c3],N M 0]) (by simp[results,Tryz.results80,go_sem,i,ab,f,K]) rfl ⟨J #[O a2 m2 c2,Z s2,O a3 m3 c3],by first|rfl|rw[if_neg l],x.keep kA,eA⟩
def oa.y{a b:X}(h:oa a b){n:Nat}{G:Prop}(d:n<a.heap.size)(k:n<b.heap.size->G):G:=k (h.lt d)
def Lm.mul{j k:Nat}{x y:Int}(h:Lm j x)(l:Lm k y):Lm (j+k) (x*y):=by
 have e:B ^ (j+k)=B ^ j*B ^ k:=by rw[Int.pow_add]
 have r:=tj Yh j;have i:=tj Yh k;unfold Lm at *;have d:(x.natAbs:Int)<B ^ j:=oM;have f:(y.natAbs:Int)<B ^ k:=oM;have p:((x*y).natAbs:Int)<B ^ (j+k):=by
  rw[Int.natAbs_mul,e,Int.natCast_mul];exact Int.lt_of_le_of_lt (Int.mul_le_mul_of_nonneg_left (Int.le_of_lt f) oM) (Int.mul_lt_mul_of_pos_right d i)
 omega
def Lm.add{k:Nat}{x y:Int}(h:Lm k x)(d:Lm k y):Lm (k+1) (x+y):=by
 have e:B ^ (k+1)=B ^ k*16777216:=by rw[Int.pow_succ];rfl
 unfold Lm at *;rw[e];omega
def Qu(p q:Rat):Rat.divInt (p.num*q.den+q.num*p.den) ((p.den:Int)*q.den)=p+q:=by rw[Rat.add_def',<-Rat.divInt_ofNat,Int.natCast_mul]
def UA(p q:Rat):Rat.divInt (p.num*q.num) ((p.den:Int)*q.den)=p*q:=by rw[Rat.mul_def',<-Rat.divInt_ofNat,Int.natCast_mul]
def VA(p q:Rat):Rat.divInt (p.num*q.den) ((p.den:Int)*q.num)=p/q:=by rw[Rat.div_def,Rat.inv_def,<-Rat.divInt_mul_divInt,Rat.num_divInt_den]
def Ll(p q:Rat):(p.den:Int)*q.den≠0:=by have:=Int.mul_pos (Sg p) (Sg q);omega
def Rb.add{k:Nat}{p q:Rat}(h:Rb k p)(d:Rb k q):Rb (2*k+1) (p+q):=by rw[<-Qu];refine⟨Eq (Ll p q) ?_,Eo (Ll p q) ((Lm.mul h.2 d.2).mono oM)⟩;rw[show 2*k+1=(k+k)+1 by omega];exact(h.1.mul d.2).add (d.1.mul h.2)
def Rb.mul{j k:Nat}{p q:Rat}(h:Rb j p)(d:Rb k q):Rb (j+k) (p*q):=by rw[<-UA];exact⟨Eq (Ll p q) (h.1.mul d.1),Eo (Ll p q) (h.2.mul d.2)⟩
def Rb.neg{k:Nat}{p:Rat}(h:Rb k p):Rb k (-p):=⟨h.1.neg,h.2⟩
def Rb.sub{k:Nat}{p q:Rat}(h:Rb k p)(d:Rb k q):Rb (2*k+1) (p-q):=by rw[Rat.sub_eq_add_neg];exact h.add d.neg
def Rb.int{k:Nat}{n:Int}(h:Lm k n)(d:1<=k):Rb k (n:Rat):=⟨h,Gq d⟩
def Rb.div{j k:Nat}{p q:Rat}(h:Rb j p)(d:Rb k q)(l:1<=j+k):Rb (j+k) (p/q):=by
 by_cases i:q=0
 ·subst i;have:p/0=((0:Int):Rat):=by rw[Rat.div_def,Rat.inv_zero,Rat.mul_zero];rfl
  rw[this];exact Rb.int (by have:=tj Yh (j+k);unfold Lm;omega) l
 ·have r:q.num≠0:=fun e=>i (by rw[<-Rat.num_divInt_den q,e];simp);have f:(p.den:Int)*q.num≠0:=Int.mul_ne_zero (by have:=Sg p;omega) r;rw[<-VA];exact⟨Eq f (h.1.mul d.2),Eo f (h.2.mul d.1)⟩
def Pb(p q:Rat):Int:=(p.num*q.den-q.num*p.den).sign
def xl(p q:Rat):Pb p q<0 ↔ p<q:=by unfold Pb;rw[Rat.lt_iff,Int.sign_neg_iff];omega
def Nq(p q:Rat):0<Pb p q ↔ q<p:=by unfold Pb;rw[Rat.lt_iff,Int.sign_pos_iff];omega
def iw(w:X)(va vb:I)(p q:Rat)(ha:La w va p)(hb:La w vb q)(d:Rb Yb p)(f:Rb Yb q):Calls Tryz.prog 21 #[va,vb] w fun e w'=>e=.returned (N M (Pb p q))/\oa w w'/\Dr w w':=by
 obtain⟨a,m,c,s,a2,m2,c2,rfl⟩:=ha.form;obtain⟨a',m',c',s',l,z,r,rfl⟩:=hb.form;have K:=ia d;have R:=ia f;have ag:=ha.top;have ah:=hb.top;have aa:zc (Lm Cc p.num):=ia (d.1.mono dM);have ab:zc (Lm Cc q.num):=ia (f.1.mono dM);have ac:zc (Lm Cc (p.den:Int)):=ia (d.2.mono dM);have ad:zc (Lm Cc (q.den:Int)):=ia (f.2.mono dM);have ae:zc (Lm Qc (p.num*q.den)):=ia ((d.1.mul f.2).mono dM);have af:zc (Lm Qc (q.num*p.den)):=ia ((f.1.mul d.2).mono dM);have ay:zc (Lm Qc (p.num*q.num)):=ia ((d.1.mul f.1).mono dM);have az:zc (Lm Qc ((p.den:Int)*q.den)):=ia ((d.2.mul f.2).mono dM);have aA:zc (Lm Qc ((p.den:Int)*q.num)):=ia ((d.2.mul f.1).mono dM);have i:zc (Lm Cc (p.num*q.den)):=ia (ae.o.mono dM);have j:zc (Lm Cc (q.num*p.den)):=ia (af.o.mono dM);clear d f;go_in;go_wp2;go_region_held3 (fun W=>W.cell? ⟨w.heap.size,0,V⟩=Y (O a m c)/\W.cell? ⟨w.heap.size,1,V⟩=Y (Z s)/\W.cell? ⟨w.heap.size,2,V⟩=Y (O a2 m2 c2)/\W.cell? ⟨w.heap.size+1,0,V⟩=Y (O a' m' c')/\W.cell? ⟨w.heap.size+1,1,V⟩=Y (Z s')/\W.cell? ⟨w.heap.size+1,2,V⟩=Y (O l z r)) ((repeat' (with_reducible refine And.intro ?_ ?_))<;>(first|(go_simp;done)|(refine hx1.d ?_;go_simp;done))) (first|((go_at_call 71;(with_reducible refine(Fu _ (J #[O a' m' c',Z s',O l z r]) q ?_ R.o).mono ?_);(refine hb.ext ?_;exact eA);rintro e w1 ⟨r1,rfl,t,hx1,aG⟩;obtain⟨b1,n1,k1,t1,rfl⟩:=t.form;obtain⟨⟨aB,aL⟩,am,an⟩:=Oi w hx1))|((go_at_call 71;(with_reducible refine(Fu _ (J #[O a m c,Z s,O a2 m2 c2]) p ?_ K.o).mono ?_);(refine ha.ext ?_;exact eA);rintro e w3 ⟨r3,rfl,x,aj,aI⟩;obtain⟨b3,n3,k3,t3,rfl⟩:=x.form;obtain⟨⟨aD,aO⟩,aq,ar⟩:=Oi w aj))|((go_at_call 70;(with_reducible refine(Ts _ (J #[O a m c,Z s]) (J #[O b1 n1 k1,Z t1]) p.num (q.den:Int) ?_ ?_ aa.o ad.o).mono ?_);(refine ag.ext ?_;exact eA);(refine t.ext ?_;exact eA);rintro e w2 ⟨r2,rfl,u,ai,aH⟩;obtain⟨b2,n2,k2,t2,rfl⟩:=u.form;obtain⟨⟨aC,aM⟩,ao,ap⟩:=Oi w ai))|((go_at_call 70;(with_reducible refine(Ts _ (J #[O a' m' c',Z s']) (J #[O b3 n3 k3,Z t3]) q.num (p.den:Int) ?_ ?_ ab.o ac.o).mono ?_);(refine ah.ext ?_;exact eA);(refine x.ext ?_;exact eA);rintro e w4 ⟨r4,rfl,y,ak,aJ⟩;obtain⟨b4,n4,k4,t4,rfl⟩:=y.form;obtain⟨⟨aE,aP⟩,au,av⟩:=Oi w ak))|((go_at_call 72;(with_reducible refine(Jv _ (J #[O b2 n2 k2,Z t2]) (J #[O b4 n4 k4,Z t4]) (p.num*q.den) (q.num*p.den) ?_ ?_ i.o j.o).mono ?_);(refine u.ext ?_;exact eA);(refine y.ext ?_;exact eA);rintro e w5 ⟨rfl,al,aK⟩;obtain⟨⟨aF,aQ⟩,aw,ax⟩:=Oi w al)))
 all_goals go_wp2
 go_ret;exact⟨rfl,eA,dA⟩
def Mi(w:X)(i j:I)(p q:Rat)(l:La w i p)(r:La w j q)(d:Rb Yb p)(f:Rb Yb q):Calls Tryz.prog 21 #[i,j] w fun e w'=>e=.returned (N M (Pb p q))/\oa w w':=Do (iw w i j p q l r d f)
def rr(w:X)(va vb:I)(p q:Rat)(ha:La w va p)(hb:La w vb q)(d:Rb Yb p)(f:Rb Yb q):Calls Tryz.prog 23 #[va,vb] w (Id w (p*q)):=by
 obtain⟨a,m,c,s,a2,m2,c2,rfl⟩:=ha.form;obtain⟨a',m',c',s',i,y,j,rfl⟩:=hb.form;have ab:=ia d;have ac:=ia f;have aq:=ha.top;have ar:=hb.top;have ad:zc (Lm Cc p.num):=ia (d.1.mono dM);have ae:zc (Lm Cc q.num):=ia (f.1.mono dM);have af:zc (Lm Cc (p.den:Int)):=ia (d.2.mono dM);have ag:zc (Lm Cc (q.den:Int)):=ia (f.2.mono dM);have ah:zc (Lm Qc (p.num*q.den)):=ia ((d.1.mul f.2).mono dM);have ai:zc (Lm Qc (q.num*p.den)):=ia ((f.1.mul d.2).mono dM);have aj:zc (Lm Qc (p.num*q.num)):=ia ((d.1.mul f.1).mono dM);have ak:zc (Lm Qc ((p.den:Int)*q.den)):=ia ((d.2.mul f.2).mono dM);have aL:zc (Lm Qc ((p.den:Int)*q.num)):=ia ((d.2.mul f.1).mono dM);have ay:zc (Lm Cc (p.num*q.den)):=ia (ah.o.mono dM);have az:zc (Lm Cc (q.num*p.den)):=ia (ai.o.mono dM);clear d f;go_in;go_wp2;go_region_held3 (fun W=>W.cell? ⟨w.heap.size,0,V⟩=Y (O a m c)/\W.cell? ⟨w.heap.size,1,V⟩=Y (Z s)/\W.cell? ⟨w.heap.size,2,V⟩=Y (O a2 m2 c2)/\W.cell? ⟨w.heap.size+1,0,V⟩=Y (O a' m' c')/\W.cell? ⟨w.heap.size+1,1,V⟩=Y (Z s')/\W.cell? ⟨w.heap.size+1,2,V⟩=Y (O i y j)) ((repeat' (with_reducible refine And.intro ?_ ?_))<;>(first|(go_simp;done)|(refine hx1.d ?_;go_simp;done))) (first|((go_at_call 70;(with_reducible refine(Sm _ (J #[O a m c,Z s]) (J #[O a' m' c',Z s']) p.num q.num ?_ ?_ ad.o ae.o).mono ?_);(refine aq.ext ?_;exact eA);(refine ar.ext ?_;exact eA);rintro e w1 ⟨r1,rfl,l,hx1⟩;obtain⟨b1,n1,k1,t1,rfl⟩:=l.form;obtain⟨⟨al,aM⟩,aA,aB,z⟩:=oc w hx1))|((go_at_call 71;(with_reducible refine(im _ (J #[O a m c,Z s,O a2 m2 c2]) p ?_ ab.o).mono ?_);(refine ha.ext ?_;exact eA);rintro e w2 ⟨r2,rfl,r,au⟩;obtain⟨b2,n2,k2,t2,rfl⟩:=r.form;obtain⟨⟨am,aO⟩,aC,aD,K⟩:=oc w au))|((go_at_call 71;(with_reducible refine(im _ (J #[O a' m' c',Z s',O i y j]) q ?_ ac.o).mono ?_);(refine hb.ext ?_;exact eA);rintro e w3 ⟨r3,rfl,t,av⟩;obtain⟨b3,n3,k3,t3,rfl⟩:=t.form;obtain⟨⟨an,aP⟩,aE,aF,R⟩:=oc w av))|((go_at_call 70;(with_reducible refine(Sm _ (J #[O b2 n2 k2,Z t2]) (J #[O b3 n3 k3,Z t3]) (p.den:Int) (q.den:Int) ?_ ?_ af.o ag.o).mono ?_);(refine r.ext ?_;exact eA);(refine t.ext ?_;exact eA);rintro e w4 ⟨r4,rfl,u,aw⟩;obtain⟨b4,n4,k4,t4,rfl⟩:=u.form;obtain⟨⟨ao,aQ⟩,aG,aH,aa⟩:=oc w aw))|((go_at_call 75;(with_reducible refine(mu _ (J #[O b1 n1 k1,Z t1]) (J #[O b4 n4 k4,Z t4]) (p.num*q.num) ((p.den:Int)*q.den) ?_ ?_ aj.o ak.o (Ll p q)).mono ?_);(refine l.ext ?_;exact eA);(refine u.ext ?_;exact eA);rintro e w5 ⟨r5,rfl,x,ax⟩;obtain⟨b5,n5,k5,t5,b6,n6,k6,rfl⟩:=x.form;obtain⟨⟨ap,aR⟩,aI,aJ,aK⟩:=oc w ax)))
 all_goals go_wp2
 refine bR (v:=J #[O b5 n5 k5,Z t5,O b6 n6 k6]) (by simp[results,Tryz.results23,go_sem,al,am,an,ao,ap,z,K,R,aa]) rfl ⟨_,rfl,?_,eA⟩;rw[<-UA];exact x.keep kA
def JH(w:X)(y z:I)(p q:Rat)(ha:La w y p)(hb:La w z q)(d:∀(W:X)(y z:I)(p q:Rat),La W y p->La W z q->Rb Yb p->Rb Yb q->Calls Tryz.prog 24 #[y,z] W (Id W (p+q)))(l:Rb Yb p)(r:Rb Yb q):Calls Tryz.prog 52 #[y,z] w (Id w (p-q)):=by
 obtain⟨a,m,c,s,a2,m2,c2,rfl⟩:=ha.form;obtain⟨a',m',c',s',i,x,j,rfl⟩:=hb.form;have R:=ia l;have aa:=ia r.neg;have f:=ia d;clear l r d;rw[Rat.sub_eq_add_neg];go_in;go_wp2;go_region_held3 (fun W=>W.cell? ⟨w.heap.size,0,V⟩=Y (O a m c)/\W.cell? ⟨w.heap.size,1,V⟩=Y (Z s)/\W.cell? ⟨w.heap.size,2,V⟩=Y (O a2 m2 c2)/\W.cell? ⟨w.heap.size+1,0,V⟩=Y (O a' m' c')/\W.cell? ⟨w.heap.size+1,1,V⟩=Y (Z s')/\W.cell? ⟨w.heap.size+1,2,V⟩=Y (O i x j)) ((repeat' (with_reducible refine And.intro ?_ ?_))<;>(first|(go_simp;done)|(refine hx1.d ?_;go_simp;done))) (first|((go_at_call 121;(with_reducible refine(qF _ (J #[O a' m' c',Z s',O i x j]) q ?_).mono ?_);(refine hb.ext ?_;exact eA);rintro e w1 ⟨r1,rfl,t,hx1⟩;obtain⟨b1,n1,k1,t1,b2,n2,k2,rfl⟩:=t.form;obtain⟨⟨ab,aj⟩,ae,af,K⟩:=oc w hx1))|((go_at_call 24;refine cM (f.o _ (J #[O a m c,Z s,O a2 m2 c2]) (J #[O b1 n1 k1,Z t1,O b2 n2 k2]) p (-q) ?_ ?_ R.o aa.o) ?_;(refine ha.ext ?_;exact eA);(refine t.ext ?_;exact eA);rintro e w5 ⟨r5,rfl,u,ad⟩;obtain⟨b5,n5,k5,t5,b6,n6,k6,rfl⟩:=u.form;obtain⟨⟨ac,ak⟩,ag,ah,ai⟩:=oc w ad)))
 all_goals go_wp2
 exact bR (v:=J #[O b5 n5 k5,Z t5,O b6 n6 k6]) (by simp[results,Tryz.results52,go_sem,ab,ac,K]) rfl ⟨_,rfl,u.keep kA,eA⟩
def vF(w:X)(va vb:I)(p q:Rat)(ha:La w va p)(hb:La w vb q)(d:Rb Yb p)(f:Rb Yb q):Calls Tryz.prog 180 #[va,vb] w fun e w'=>∃r,e=.returned (Ob #[r,N M (if (p.den:Int)*q.num=0 then 9 else 0)])/\La w' r (p/q)/\oa w w':=by
 obtain⟨a,m,c,s,a2,m2,c2,rfl⟩:=ha.form;obtain⟨a',m',c',s',l,R,t,rfl⟩:=hb.form;have ae:=ia d;have af:=ia f;have au:=ha.top;have av:=hb.top;have ag:zc (Lm Cc p.num):=ia (d.1.mono dM);have ah:zc (Lm Cc q.num):=ia (f.1.mono dM);have ai:zc (Lm Cc (p.den:Int)):=ia (d.2.mono dM);have aj:zc (Lm Cc (q.den:Int)):=ia (f.2.mono dM);have j:zc (Lm Qc (p.num*q.den)):=ia ((d.1.mul f.2).mono dM);have ak:zc (Lm Qc (q.num*p.den)):=ia ((f.1.mul d.2).mono dM);have aO:zc (Lm Qc (p.num*q.num)):=ia ((d.1.mul f.1).mono dM);have aP:zc (Lm Qc ((p.den:Int)*q.den)):=ia ((d.2.mul f.2).mono dM);have al:zc (Lm Qc ((p.den:Int)*q.num)):=ia ((d.2.mul f.1).mono dM);have aA:zc (Lm Cc (p.num*q.den)):=ia (j.o.mono dM);have aB:zc (Lm Cc (q.num*p.den)):=ia (ak.o.mono dM);clear d f;obtain⟨er,i⟩:∃er:Int,er=if (p.den:Int)*q.num=0 then 9 else 0:=⟨_,rfl⟩;rw[<-i];have am:=ia i;clear i;go_in;go_wp2;go_region_held3 (fun W=>W.cell? ⟨w.heap.size,0,V⟩=Y (O a m c)/\W.cell? ⟨w.heap.size,1,V⟩=Y (Z s)/\W.cell? ⟨w.heap.size,2,V⟩=Y (O a2 m2 c2)/\W.cell? ⟨w.heap.size+1,0,V⟩=Y (O a' m' c')/\W.cell? ⟨w.heap.size+1,1,V⟩=Y (Z s')/\W.cell? ⟨w.heap.size+1,2,V⟩=Y (O l R t)) ((repeat' (with_reducible refine And.intro ?_ ?_))<;>(first|(go_simp;done)|(refine hx1.d ?_;go_simp;done))) (first|((go_at_call 71;(with_reducible refine(im _ (J #[O a' m' c',Z s',O l R t]) q ?_ af.o).mono ?_);(refine hb.ext ?_;exact eA);rintro e w1 ⟨r1,rfl,u,hx1⟩;obtain⟨b1,n1,k1,t1,rfl⟩:=u.form;obtain⟨⟨an,aQ⟩,aC,aD,aa⟩:=oc w hx1))|((go_at_call 70;(with_reducible refine(Sm _ (J #[O a m c,Z s]) (J #[O b1 n1 k1,Z t1]) p.num (q.den:Int) ?_ ?_ ag.o aj.o).mono ?_);(refine au.ext ?_;exact eA);(refine u.ext ?_;exact eA);rintro e w2 ⟨r2,rfl,x,aw⟩;obtain⟨b2,n2,k2,t2,rfl⟩:=x.form;obtain⟨⟨ao,aR⟩,aE,aF,ab⟩:=oc w aw))|((go_at_call 71;(with_reducible refine(im _ (J #[O a m c,Z s,O a2 m2 c2]) p ?_ ae.o).mono ?_);(refine ha.ext ?_;exact eA);rintro e w3 ⟨r3,rfl,y,ax⟩;obtain⟨b3,n3,k3,t3,rfl⟩:=y.form;obtain⟨⟨ap,aS⟩,aG,aH,ac⟩:=oc w ax))|((go_at_call 70;(with_reducible refine(Sm _ (J #[O b3 n3 k3,Z t3]) (J #[O a' m' c',Z s']) (p.den:Int) q.num ?_ ?_ ai.o ah.o).mono ?_);(refine y.ext ?_;exact eA);(refine av.ext ?_;exact eA);rintro e w4 ⟨r4,rfl,z,ay⟩;obtain⟨b4,n4,k4,t4,rfl⟩:=z.form;obtain⟨⟨aq,aT⟩,aI,aJ,ad⟩:=oc w ay))|((go_at_call 80;(with_reducible refine(Cw _ (J #[O b2 n2 k2,Z t2]) (J #[O b4 n4 k4,Z t4]) (p.num*q.den) ((p.den:Int)*q.num) ?_ ?_ j.o al.o).mono ?_);(refine x.ext ?_;exact eA);(refine z.ext ?_;exact eA);rw[<-am.o];rintro e w5 ⟨r5,rfl,K,az⟩;obtain⟨b5,n5,k5,t5,b6,n6,k6,rfl⟩:=K.form;obtain⟨⟨ar,aU⟩,aK,aL,aM⟩:=oc w az)))
 all_goals go_wp2
 refine bR (v:=Ob #[J #[O b5 n5 k5,Z t5,O b6 n6 k6],N M er]) (by simp[results,Tryz.results180,go_sem,an,ao,ap,aq,ar,aa,ab,ac,ad]) rfl ⟨_,rfl,?_,eA⟩;rw[<-VA];exact K.keep kA
def TM(w:X)(p q:Rat)(a:Option Oa)(m c:Nat)(s:Bool)(z:Option Oa)(K c':Nat)(R:Bool)(t5 t6:I)(W:X):Prop:=
 ∃(d e:Nat)(x y:Option Oa)(l f r j:Nat)(t u:Bool),t5 = .pointer (Y ⟨d,0,V⟩)/\t6 = .pointer (Y ⟨e,0,V⟩)/\w.heap.size+1+1<d/\w.heap.size+1+1<e/\oa w W/\Wc 2 W (w.heap.size+1+1)/\
 Nc W (J #[O x l f,Z t]) (p.den:Int)/\Nc W (J #[O y r j,Z u]) (q.den:Int)/\
 W.cell? ⟨d,0,V⟩=Y (O x l f)/\W.cell? ⟨d,1,V⟩=Y (Z t)/\W.cell? ⟨e,0,V⟩=Y (O y r j)/\W.cell? ⟨e,1,V⟩=Y (Z u)/\
 W.cell? ⟨w.heap.size,0,V⟩=Y (O a m c)/\W.cell? ⟨w.heap.size,1,V⟩=Y (Z s)/\W.cell? ⟨w.heap.size+1,0,V⟩=Y (O z K c')/\W.cell? ⟨w.heap.size+1,1,V⟩=Y (Z R)/\
 W.cell? ⟨w.heap.size+1+1,0,V⟩=Y (O V 0 0)/\W.cell? ⟨w.heap.size+1+1,1,V⟩=Y (Z false)/\W.cell? ⟨w.heap.size+1+1,2,V⟩=Y (O V 0 0)/\
 (∀i,W.frozen? ⟨w.heap.size+1+1,i,V⟩=false)
def Tl(w:X)(va vb:I)(p q:Rat)(ha:La w va p)(hb:La w vb q)(d:Rb Yb p)(f:Rb Yb q):Calls Tryz.prog 24 #[va,vb] w (Id w (p+q)):=by
 obtain⟨a,m,c,s,a2,m2,c2,rfl⟩:=ha.form;obtain⟨a',m',c',s',al,ay,am,rfl⟩:=hb.form;have ac:=ia d;have ad:=ia f;have bb:=ha.top;have bc:=hb.top;have aT:zc (Lm Cc p.num):=ia (d.1.mono dM);have aU:zc (Lm Cc q.num):=ia (f.1.mono dM);have ah:zc (Lm Cc (p.den:Int)):=ia (d.2.mono dM);have ai:zc (Lm Cc (q.den:Int)):=ia (f.2.mono dM);have aV:zc (Lm Qc (p.num*q.den)):=ia ((d.1.mul f.2).mono dM);have aW:zc (Lm Qc (q.num*p.den)):=ia ((f.1.mul d.2).mono dM);have bz:zc (Lm Qc (p.num*q.num)):=ia ((d.1.mul f.1).mono dM);have aX:zc (Lm Qc ((p.den:Int)*q.den)):=ia ((d.2.mul f.2).mono dM);have bA:zc (Lm Qc ((p.den:Int)*q.num)):=ia ((d.2.mul f.1).mono dM);have aj:zc (Lm Cc (p.num*q.den)):=ia (aV.o.mono dM);have ak:zc (Lm Cc (q.num*p.den)):=ia (aW.o.mono dM);clear d f;go_in;go_upto_region 1 with fail;go_cut [5,6] (TM w p q a m c s a' m' c' s')
 case first =>
  go_region_held3 (fun W=>W.cell? ⟨w.heap.size,0,V⟩=Y (O a m c)/\W.cell? ⟨w.heap.size,1,V⟩=Y (Z s)/\W.cell? ⟨w.heap.size,2,V⟩=Y (O a2 m2 c2)/\W.cell? ⟨w.heap.size+1,0,V⟩=Y (O a' m' c')/\W.cell? ⟨w.heap.size+1,1,V⟩=Y (Z s')/\W.cell? ⟨w.heap.size+1,2,V⟩=Y (O al ay am)) ((repeat' (with_reducible refine And.intro ?_ ?_))<;>(first|(go_simp;done)|(refine hx1.d ?_;go_simp;done))) (first|((go_at_call 71;(with_reducible refine(im _ (J #[O a m c,Z s,O a2 m2 c2]) p ?_ ac.o).mono ?_);(refine ha.ext ?_;exact eA);rintro e l ⟨r1,rfl,r,hx1⟩;obtain⟨b1,n1,k1,t1,rfl⟩:=r.form;obtain⟨⟨ao,a9⟩,az,aA,aa⟩:=oc w hx1;have aG:w.heap.size<l.heap.size+1:=oM;have aH:w.heap.size<l.heap.size+1+1:=oM;have aI:w.heap.size+1<l.heap.size+1:=oM;have aJ:w.heap.size+1<l.heap.size+1+1:=oM;have aK:w.heap.size+1+1<l.heap.size+1:=oM;have aL:w.heap.size+1+1<l.heap.size+1+1:=oM;(try(refine oa.y hx1 (n:=w.heap.size+1+1+1) ?_ (fun _=>?_);focus(go_simp;done)));(try(refine oa.y hx1 (n:=w.heap.size+1+1+1+1) ?_ (fun _=>?_);focus(go_simp;done)));(try(refine oa.y hx1 (n:=l.heap.size) ?_ (fun _=>?_);focus(go_simp;done)));(try(refine oa.y hx1 (n:=l.heap.size+1) ?_ (fun _=>?_);focus(go_simp;done)))))|((go_at_call 71;(with_reducible refine(im _ (J #[O a' m' c',Z s',O al ay am]) q ?_ ad.o).mono ?_);(refine hb.ext ?_;exact eA);rintro e R ⟨r2,rfl,t,j⟩;obtain⟨b2,n2,k2,t2,rfl⟩:=t.form;obtain⟨⟨K,ba⟩,aB,aC,ab⟩:=oc w j;have aM:w.heap.size<R.heap.size+1:=oM;have aO:w.heap.size<R.heap.size+1+1:=oM;have aP:w.heap.size+1<R.heap.size+1:=oM;have aQ:w.heap.size+1<R.heap.size+1+1:=oM;have aR:w.heap.size+1+1<R.heap.size+1:=oM;have aS:w.heap.size+1+1<R.heap.size+1+1:=oM;(try(refine oa.y j (n:=w.heap.size+1+1+1) ?_ (fun _=>?_);focus(go_simp;done)));(try(refine oa.y j (n:=w.heap.size+1+1+1+1) ?_ (fun _=>?_);focus(go_simp;done)));(try(refine oa.y j (n:=l.heap.size) ?_ (fun _=>?_);focus(go_simp;done)));(try(refine oa.y j (n:=l.heap.size+1) ?_ (fun _=>?_);focus(go_simp;done))))))
  all_goals go_wp2
  all_goals go_meet
  all_goals refine⟨_,_,b1,b2,n1,k1,n2,k2,t1,t2,rfl,rfl,by omega,by omega,eA,nA,r.keep kA,t.keep kA,?_,?_,?_,?_,?_,?_,?_,?_,?_,?_,?_,fun i=>?_⟩
  all_goals first|(go_simp;done)|(have u1:l.heap.size<l.heap.size+1+1:=oM;have u2:R.cell? ⟨l.heap.size,0,V⟩=Y (O V 0 0):=((K _ _ (by first|exact u1|(simp only[wZ,Tb];exact u1))).trans (by go_simp));have u3:R.cell? ⟨l.heap.size,1,V⟩=Y (Z false):=((K _ _ (by first|exact u1|(simp only[wZ,Tb];exact u1))).trans (by go_simp));go_simp)
 case rest =>
  obtain⟨u,z,x,y,mx,cx,my,cy,sx,sy,rfl,rfl,bF,bG,hx,hN,aw,ax,aZ,bB,a0,bC,a1,bD,a3,bE,an,a4,a5,bK⟩:=hcut;have bM:¬u=w.heap.size+1+1:=oM;have bd:¬w.heap.size+1+1=u:=oM;have bN:¬z=w.heap.size+1+1:=oM;have be:¬w.heap.size+1+1=z:=oM;have bO:u<wc.heap.size:=World.block_lt_of_cell? wc _ aZ;have bP:z<wc.heap.size:=World.block_lt_of_cell? wc _ a0;have bw:w.heap.size<wc.heap.size:=World.block_lt_of_cell? wc _ a1;have bx:w.heap.size+1<wc.heap.size:=World.block_lt_of_cell? wc _ a3;have aF:w.heap.size+1+1<wc.heap.size:=World.block_lt_of_cell? wc _ an;have aY:zc (Lm Qc (p.num*q.den+q.num*p.den)):=by
   have h1:=((ac.o.1.mul ad.o.2).add (ad.o.1.mul ac.o.2)).mono (show Yb+Yb+1<=Qc by decide);exact ia h1
  have au:=bb.ext hx;have av:=bc.ext hx;go_wp2;go_region_held3 (fun W=>W.cell? ⟨w.heap.size,0,V⟩=Y (O a m c)/\W.cell? ⟨w.heap.size,1,V⟩=Y (Z s)/\W.cell? ⟨w.heap.size+1,0,V⟩=Y (O a' m' c')/\W.cell? ⟨w.heap.size+1,1,V⟩=Y (Z s')/\W.cell? ⟨u,0,V⟩=Y (O x mx cx)/\W.cell? ⟨u,1,V⟩=Y (Z sx)/\W.cell? ⟨z,0,V⟩=Y (O y my cy)/\W.cell? ⟨z,1,V⟩=Y (Z sy)) ((repeat' (with_reducible refine And.intro ?_ ?_))<;>(first|(go_simp;done)|(refine hx1.d ?_;go_simp;done))) (first|((go_at_call 70;(with_reducible refine(Sm _ (J #[O a m c,Z s]) (J #[O y my cy,Z sy]) p.num (q.den:Int) ?_ ?_ aT.o ai.o).mono ?_);(refine au.ext ?_;exact eA);(refine ax.ext ?_;exact eA);rintro e l ⟨r1,rfl,r,hx1⟩;obtain⟨b1,n1,k1,t1,rfl⟩:=r.form;obtain⟨⟨ao,a9⟩,az,aA,aa⟩:=oc w hx1;(have bf:=hx1.lt (n:=u) (by go_simp));(have bk:=hx1.lt (n:=z) (by go_simp))))|((go_at_call 70;(with_reducible refine(Sm _ (J #[O a' m' c',Z s']) (J #[O x mx cx,Z sx]) q.num (p.den:Int) ?_ ?_ aU.o ah.o).mono ?_);(refine av.ext ?_;exact eA);(refine aw.ext ?_;exact eA);rintro e R ⟨r2,rfl,t,j⟩;obtain⟨b2,n2,k2,t2,rfl⟩:=t.form;obtain⟨⟨K,ba⟩,aB,aC,ab⟩:=oc w j;(have bg:=j.lt (n:=u) (by go_simp));(have bl:=j.lt (n:=z) (by go_simp))))|((go_at_call 76;(with_reducible refine(OF _ (J #[O b1 n1 k1,Z t1]) (J #[O b2 n2 k2,Z t2]) (p.num*q.den) (q.num*p.den) ?_ ?_ aj.o ak.o).mono ?_);(refine r.ext ?_;exact eA);(refine t.ext ?_;exact eA);rintro e w3 ⟨r3,rfl,ap,ae⟩;obtain⟨b3,n3,k3,t3,rfl⟩:=ap.form;obtain⟨⟨a6,bH⟩,bp,bq,aD⟩:=oc w ae;(have bh:=ae.lt (n:=u) (by go_simp));(have bm:=ae.lt (n:=z) (by go_simp))))|((go_at_call 70;(with_reducible refine(Sm _ (J #[O x mx cx,Z sx]) (J #[O y my cy,Z sy]) (p.den:Int) (q.den:Int) ?_ ?_ ah.o ai.o).mono ?_);(refine aw.ext ?_;exact eA);(refine ax.ext ?_;exact eA);rintro e w4 ⟨r4,rfl,aq,af⟩;obtain⟨b4,n4,k4,t4,rfl⟩:=aq.form;obtain⟨⟨a7,bI⟩,br,bs,aE⟩:=oc w af;(have bi:=af.lt (n:=u) (by go_simp));(have bn:=af.lt (n:=z) (by go_simp))))|((go_at_call 75;(with_reducible refine(mu _ (J #[O b3 n3 k3,Z t3]) (J #[O b4 n4 k4,Z t4]) (p.num*q.den+q.num*p.den) ((p.den:Int)*q.den) ?_ ?_ aY.o aX.o (Ll p q)).mono ?_);(refine ap.ext ?_;exact eA);(refine aq.ext ?_;exact eA);rintro e w5 ⟨r5,rfl,ar,ag⟩;obtain⟨b7,n5,k5,t5,b8,n6,k6,rfl⟩:=ar.form;obtain⟨⟨a8,bJ⟩,bt,bu,bv⟩:=oc w ag;(have bj:=ag.lt (n:=u) (by go_simp));(have bo:=ag.lt (n:=z) (by go_simp)))))
  all_goals go_wp2
  refine bR (v:=J #[O b7 n5 k5,Z t5,O b8 n6 k6]) (by simp[results,Tryz.results24,go_sem,ao,K,a6,a7,a8,aF,aa,ab,aD,aE,an,a4,a5]) rfl ⟨_,rfl,?_,?_⟩
  ·rw[<-Qu];exact ar.keep kA
  ·have bL:oa w l:=hx.trans ((eR wc).drew.trans hx1);exact eA
def Ak(w:X)(f i:I)(p q:Rat)(j:La w f p)(l:La w i q)(d:Rb Yb p)(e:Rb Yb q):Calls Tryz.prog 52 #[f,i] w (Id w (p-q)):=JH w f i p q j l Tl d e
def RB(W:X)(b:Nat)(q:Rat):Prop:=∃a m c s a2 m2 c2,W.heap[b]?=Y (C #[O a m c,Z s,O a2 m2 c2] 43 (0,0))/\La W (J #[O a m c,Z s,O a2 m2 c2]) q
def VK{W:X}{g:Nat}{x y z:I}{T:TypeId}{d:Nat×Nat}(h:W.heap[g]?=Y (C #[x,y,z] T d))(u v t:I):(((W.setCell ⟨g,0,V⟩ u).setCell ⟨g,1,V⟩ v).setCell ⟨g,2,V⟩ t).heap[g]?=Y (C #[u,v,t] T d):=by simp[World.setCell,Array.getElem?_modify,h]
section
variable {W W':X} {b b':Nat} {n n':Rat}
def RB.ext(h:RB W b n)(k:oa W W'):RB W' b n:=by obtain⟨a,m,c,s,a2,m2,c2,d,e⟩:=h;exact⟨a,m,c,s,a2,m2,c2,k.e d,e.ext k⟩
def RB.not(h:RB W b n):Wc 2 W b:=by obtain⟨a,m,c,s,a2,m2,c2,d,i⟩:=h;intro cs f e;rw[d]at e;cases e
def RB.rd(h:RB W b n):∃a m c s a2 m2 c2,W.cell? ⟨b,0,V⟩=Y (O a m c)/\W.cell? ⟨b,1,V⟩=Y (Z s)/\W.cell? ⟨b,2,V⟩=Y (O a2 m2 c2)/\W.frozen? ⟨b,0,V⟩=false/\W.frozen? ⟨b,1,V⟩=false/\W.frozen? ⟨b,2,V⟩=false/\b<W.heap.size/\La W (J #[O a m c,Z s,O a2 m2 c2]) n:=by obtain⟨a,m,c,s,a2,m2,c2,d,e⟩:=h;exact⟨a,m,c,s,a2,m2,c2,Gb d (i:=0) rfl,Gb d (i:=1) rfl,Gb d (i:=2) rfl,Vb d 0,Vb d 1,Vb d 2,jc d,e⟩
def RB.put{a a2:Option Oa}{m c m2 c2:Nat}{s:Bool}(h:RB W b n)(f:La W (J #[O a m c,Z s,O a2 m2 c2]) n'):RB (((W.setCell ⟨b,0,V⟩ (O a m c)).setCell ⟨b,1,V⟩ (Z s)).setCell ⟨b,2,V⟩ (O a2 m2 c2)) b n':=by have d:=h.not;obtain⟨i,t,l,x,j,u,p,e,r⟩:=h;exact⟨a,m,c,s,a2,m2,c2,VK e _ _ _,f.keep ((((Fa.refl _ W).D d _).D (d.set _ _) _).D ((d.set _ _).set _ _) _)⟩
def RB.other{p:Oa}(h:RB W b n)(i:p.block≠b)(j:Wc 2 W p.block)(u:I):RB (W.setCell p u) b n:=by obtain⟨a,m,c,s,a2,m2,c2,d,f⟩:=h;exact⟨a,m,c,s,a2,m2,c2,(bS _ _ _ _ (fun e=>i e.symm)).trans d,f.keep ((Fa.refl _ W).D j _)⟩
def RB.new{d:X}{a a2:Option Oa}{m c m2 c2:Nat}{s:Bool}(f:La d (J #[O a m c,Z s,O a2 m2 c2]) n)(e:b=d.heap.size):RB (d.alloc (C #[O a m c,Z s,O a2 m2 c2] 43)) b n:=
 ⟨a,m,c,s,a2,m2,c2,Kc _ _ _ e,f.ext ((eR _).alloc _)⟩
end
def vi(w:X)(n:Int)(r:-9223372036854775808<=n)(t:n<=9223372036854775807):Calls Tryz.prog 44 #[N M n] w (Id w (n:Rat)):=by go_in;go_wp2_with(((go_at_call 22;(with_reducible refine(Kq _ n r t).mono ?_);rintro e K ⟨z,rfl,d,i⟩;obtain⟨a2,m2,c2,y,l,x,p,rfl⟩:=d.form;obtain⟨⟨f,u⟩,j⟩:=Jf w i)));exact bR (v:=J #[O a2 m2 c2,Z y,O l x p]) (by simp[results,Tryz.results44,go_sem,f]) rfl ⟨_,rfl,d.keep kA,eA⟩
def ou(w:X)(va vb:I)(p q:Rat)(ha:La w va p)(hb:La w vb q)(d:Rb Yb p)(f:Rb Yb q):Calls Tryz.prog 117 #[va,vb] w (Id w (p/q)):=by obtain⟨a,m,c,s,a2,m2,c2,rfl⟩:=ha.form;obtain⟨a',m',c',s',K,ac,R,rfl⟩:=hb.form;have x:=ia d;have y:=ia f;clear d f;obtain⟨er,i⟩:∃er:Int,er=if (p.den:Int)*q.num=0 then 9 else 0:=⟨_,rfl⟩;have z:=ia i;clear i;go_in;go_wp2_with(((go_at_call 180;(with_reducible refine(vF _ (J #[O a m c,Z s,O a2 m2 c2]) (J #[O a' m' c',Z s',O K ac R]) p q ?_ ?_ x.o y.o).mono ?_);(refine ha.ext ?_;exact eA);(refine hb.ext ?_;exact eA);rw[<-z.o];rintro e w1 ⟨r1,rfl,j,ab⟩;obtain⟨b1,n1,k1,t1,b2,n2,k2,rfl⟩:=j.form;obtain⟨⟨aa,af⟩,ad,ae,l⟩:=oc w ab;have r:w.heap.size<w1.heap.size+1:=oM;have t:w.heap.size+1<w1.heap.size+1:=oM;have u:w.heap.size+1+1<w1.heap.size+1:=oM)));exact bR (v:=J #[O b1 n1 k1,Z t1,O b2 n2 k2]) (by simp[results,Tryz.results117,go_sem,aa,l]) rfl ⟨_,rfl,j.keep kA,eA⟩
def mo{k:Nat}:∀{cs:List (List I)}{i j:Nat}{c:List I},(∀c∈cs,c.length=k)->cs[i]?=Y c->j<k->cs.flatten[i*k+j]?=c[j]?
 | [],i,j,c,_,h,_=>by simp at h
 | d::cs,0,j,c,hk,h,hj=>by
  simp at h;subst h;rw[List.flatten_cons,Nat.zero_mul,Nat.zero_add,List.getElem?_append_left (by rw[hk d (by simp)];exact hj)]
 | d::cs,i+1,j,c,hk,h,hj=>by
  have e:=hk d sM;rw[List.flatten_cons,List.getElem?_append_right (by rw[e,Nat.add_mul];omega),e,show (i+1)*k+j-k=i*k+j by rw[Nat.add_mul];omega];exact mo (fun c f=>hk c (mC _ f)) (by simpa using h) hj
def Sl{α:Type}(T:TypeId)(k:Nat)(P:X->List I->α->Prop)(w:X)(v:I)(xs:List α):Prop:=
 ∃cs:List (List I),cs.length=xs.length/\(∀c∈cs,c.length=k)/\Rd w T k v xs.length cs.flatten/\∀(i:Nat) c x,cs[i]?=Y c->xs[i]?=Y x->P w c x
section
variable {α:Type} {T:TypeId} {k:Nat} {P:X->List I->α->Prop} {w w':X} {v:I} {xs:List α} {a:Option Oa} {n c:Nat}
def Sl.form(h:Sl T k P w v xs):∃a c,v=O a xs.length c:=by obtain⟨cs,_,_,h,_⟩:=h;exact h.form
def Sl.len(h:Sl T k P w (O a n c) xs):n=xs.length:=by obtain⟨cs,_,_,h,_⟩:=h;exact h.eqn
def Sl.le(h:Sl T k P w (O a n c) xs):xs.length<=c/\c<=maxLen:=by obtain⟨cs,_,_,h,_⟩:=h;exact h.le
def Sl.ext(h:Sl T k P w v xs)(l:∀c x,P w c x->P w' c x)(r:oa w w'):Sl T k P w' v xs:=by obtain⟨cs,d,e,f,j⟩:=h;exact⟨cs,d,e,f.ext r,fun i c x p t=>l _ _ (j i c x p t)⟩
def Sl.keep(h:Sl T k P w v xs)(l:∀c x,P w c x->P w' c x)(r:Fa T w w'):Sl T k P w' v xs:=by obtain⟨cs,d,e,f,j⟩:=h;exact⟨cs,d,e,f.keep r,fun i c x p t=>l _ _ (j i c x p t)⟩
def Sl.at(h:Sl T k P w (O a n c) xs){i:Nat}{x:α}(t:xs[i]?=Y x):∃b o d,a=Y ⟨b,o,V⟩/\b<w.heap.size/\d.length=k/\P w d x/\∀(j:Nat) u,d[j]?=Y u->w.cell? ⟨b,o+i*k+j,V⟩=Y u:=by
 obtain⟨cs,y,p,z,K⟩:=h;have hi:=(lS.1 t).1;obtain⟨d,f⟩:∃d,cs[i]?=Y d:=⟨cs[i]' oM,by simp[y,hi]⟩;obtain⟨b,o,rfl,R,_,hc⟩:=z.open oM;have e:=p d (lM f);refine⟨b,o,d,rfl,R,e,K i d x f t,fun j u r=>?_⟩;have l:j<k:=by rw[<-e];exact(lS.1 r).1
 have:=hc (i*k+j) u (by rw[mo p f l];exact r)
 rwa [<-Nat.add_assoc]at this
end
def PR(w:X)(c:List I)(q:Rat):Prop:=La w (J c.toArray) q
abbrev Wf(w:X)(v:I)(qs:List Rat):Prop:=Sl 43 3 PR w v qs
def Wf.i{w w':X}{v:I}{d:List Rat}(h:Wf w v d)(k:oa w w'):Wf w' v d:=Sl.ext h (fun _ _ h=>La.ext h k) k
def Wf.at'{w:X}{a:Option Oa}{n c:Nat}{l:List Rat}(h:Wf w (O a n c) l){i:Nat}{q:Rat}(u:l[i]?=Y q):∃b o a1 m1 c1 s1 a2 m2 c2,a=Y ⟨b,o,V⟩/\b<w.heap.size/\La w (J #[O a1 m1 c1,Z s1,O a2 m2 c2]) q/\w.cell? ⟨b,o+i*3,V⟩=Y (O a1 m1 c1)/\w.cell? ⟨b,o+i*3+1,V⟩=Y (Z s1)/\w.cell? ⟨b,o+i*3+2,V⟩=Y (O a2 m2 c2):=by
 obtain⟨b,o,d,rfl,t,x,r,j⟩:=Sl.at h u;have f:La w (J d.toArray) q:=r;obtain⟨a1,m1,c1,s1,a2,m2,c2,e⟩:=f.form;have p:d=[O a1 m1 c1,Z s1,O a2 m2 c2]:=by
  have:d.toArray=#[O a1 m1 c1,Z s1,O a2 m2 c2]:=by cases e;rfl
  simpa using congrArg Array.toList this
 subst p;exact⟨b,o,a1,m1,c1,s1,a2,m2,c2,rfl,t,f,j 0 _ rfl,j 1 _ rfl,j 2 _ rfl⟩
end
section
open Go.RowKit
def C4:Int:=10000
def gI(n:Int):(n.sign = -1/\n<0)\/(n.sign=0/\n=0)\/(n.sign=1/\0<n):=by
 rcases Int.lt_trichotomy n 0 with h|h|h
 ·exact .inl ⟨Int.sign_eq_neg_one_of_neg h,h⟩
 ·exact .inr (.inl ⟨by rw[h];rfl,h⟩)
 ·exact .inr (.inr ⟨Int.sign_eq_one_of_pos h,h⟩)
def Xk(os:List Int)(j:Nat):Prop:=∀p z,os[p]?=Y z -> -10000<=z/\z<=20000/\(j<=p->0<=z/\z<10000)
def Xk.start{os:List Int}(h:ke C4 os):Xk os 0:=fun p z d=>by have:=h z (lM d);unfold C4 at this;omega
def Xk.step{os:List Int}{j:Nat}{x u:Int}(h:Xk os j)(l:os[j]?=Y x)(f:-10000<=u)(i:u<=20000):Xk (os.set j u) (j+1):=by
 intro p z d;by_cases e:j=p
 ·subst e;rw[List.getElem?_set_self (lS.1 l).1]at d;cases d;exact⟨f,i,fun h=>by omega⟩
 ·rw[List.getElem?_set_ne e]at d;have:=h p z d;exact⟨this.1,this.2.1,fun r=>this.2.2 oM⟩
def Ki(os:List Int)(i k:Nat):Prop:=∀p z,os[p]?=Y z->0<=z/\z<=((i:Int)+1)*100000000/\(i+k<=p->z<=(i:Int)*100000000)
def Ki.start(n:Nat):Ki (List.replicate n 0) 0 0:=fun p z d=>by
 have:=(List.mem_replicate.1 (lM d)).2;omega
def Ki.step{os:List Int}{i k:Nat}{z y:Int}(h:Ki os i k)(f:os[i+k]?=Y z)(j:0<=y)(l:y<=100000000):Ki (os.set (i+k) (z+y)) i (k+1):=by
 intro p u d;by_cases e:i+k=p
 ·subst e;rw[List.getElem?_set_self (lS.1 f).1]at d;cases d;have:=h _ _ f;exact⟨by omega,by omega,fun h=>by omega⟩
 ·rw[List.getElem?_set_ne e]at d;have:=h p u d;exact⟨this.1,this.2.1,fun r=>this.2.2 oM⟩
def Ki.next{os:List Int}{i k:Nat}(h:Ki os i k):Ki os (i+1) 0:=by intro p u d;have:=h p u d;omega
end
section
open Go.RowKit Go.Shelf
def Eg(w:X)(v:I)(n:Int):Prop:=∃sl ds,v=J #[N M n.sign,sl]/\Uc 3 w sl ds/\Wg C4 ds/\dv C4 ds=(n.natAbs:Int)
section
variable {w w':X} {v:I} {n:Int} {s:Int} {a:Option Oa} {m c:Nat}
def Eg.ext(h:Eg w v n)(k:oa w w'):Eg w' v n:=by obtain⟨sl,ds,d,e,f,i⟩:=h;exact⟨sl,ds,d,e.ext k,f,i⟩
def Eg.keep(h:Eg w v n)(k:Fa 3 w w'):Eg w' v n:=by obtain⟨sl,ds,d,e,f,i⟩:=h;exact⟨sl,ds,d,e.keep k,f,i⟩
def Eg.form(h:Eg w v n):∃a m c,v=J #[N M n.sign,O a m c]:=by obtain⟨sl,ds,rfl,d,e,f⟩:=h;obtain⟨a,c,rfl⟩:=d.form;exact⟨_,_,_,rfl⟩
def Eg.sgn(h:Eg w (J #[N M s,O a m c]) n):s=n.sign:=by obtain⟨sl,ds,d,e,f,i⟩:=h;cases d;rfl
def Eg.open(h:Eg w (J #[N M s,O a m c]) n):∃ds,ds.length=m/\Uc 3 w (O a m c) ds/\Wg C4 ds/\dv C4 ds=(n.natAbs:Int):=by obtain⟨sl,ds,e,d,f,i⟩:=h;cases e;exact⟨ds,d.len.symm,d,f,i⟩
def Eg.nil(w:X):Eg w (J #[N M 0,O V 0 0]) 0:=⟨_,[],rfl,Uc.nil _ _,Wg.nil _,rfl⟩
end
def Vf(w:X)(base:Nat)(v:I)(n:Int):Prop:=∃sl ds,v=J #[N M n.sign,sl]/\Kb 3 w base sl ds/\Wg C4 ds/\dv C4 ds=(n.natAbs:Int)
section
variable {w w':X} {v:I} {n:Int} {base:Nat}
def Vf.isN(h:Vf w base v n):Eg w v n:=by obtain⟨sl,ds,d,e,f,i⟩:=h;exact⟨sl,ds,d,e.ints,f,i⟩
def Vf.keep(h:Vf w base v n)(k:Fa 3 w w'):Vf w' base v n:=by obtain⟨sl,ds,d,e,f,i⟩:=h;exact⟨sl,ds,d,e.keep k,f,i⟩
def Vf.ext(h:Vf w base v n)(k:oa w w'):Vf w' base v n:=h.keep k.keep
def Vf.mono{b':Nat}(h:Vf w base v n)(j:b'<=base):Vf w b' v n:=by obtain⟨sl,ds,d,e,f,i⟩:=h;exact⟨sl,ds,d,e.mono j,f,i⟩
def Vf.nil(w:X)(base:Nat):Vf w base (J #[N M 0,O V 0 0]) 0:=⟨_,[],rfl,Kb.nil _ _ _,Wg.nil _,rfl⟩
end
def Bd(k n:Int):Prop:=-k<=n/\n<=k
def Bd.mono{j k n:Int}(h:Bd j n)(d:j<=k):Bd k n:=by unfold Bd at *;omega
def Bd.mul{j k x y:Int}(h:Bd j x)(f:Bd k y):Bd (j*k) (x*y):=by
 unfold Bd at *;have d:(x.natAbs:Int)<=j:=oM;have e:(y.natAbs:Int)<=k:=oM;have:((x*y).natAbs:Int)<=j*k:=by
  rw[Int.natAbs_mul,Int.natCast_mul];exact Int.mul_le_mul d e oM oM
 omega
def Bd.sub{j k x y:Int}(h:Bd j x)(d:Bd k y):Bd (j+k) (x-y):=by unfold Bd at *;omega
def Pt(w:X)(px d qx f:Int)(i:Bd 1000000000 px)(p:Bd 1000000000 d)(u:Bd 1000000000 qx)(z:Bd 1000000000 f):Calls Tryz.prog 291 #[J #[N M px,N M d],J #[N M qx,N M f]] w fun e w'=>e=.returned (J #[N M (px-qx),N M (d-f)])/\oa w w':=by obtain⟨j,l⟩:=i;obtain⟨r,t⟩:=p;obtain⟨x,y⟩:=u;obtain⟨K,R⟩:=z;go_in;go_wp2;exact bR (v:=J #[N M (px-qx),N M (d-f)]) (by simp[results,Tryz.results291,go_sem]) rfl ⟨rfl,eA⟩
def YA(w:X)(px d qx f:Int)(i:Bd 1000000000 px)(j:Bd 1000000000 d)(l:Bd 1000000000 qx)(p:Bd 1000000000 f):Calls Tryz.prog 156 #[J #[N M px,N M d],J #[N M qx,N M f]] w fun e w'=>e=.returned (N M (px*f-d*qx))/\oa w w':=by obtain⟨r,m2⟩:=i.mul p;obtain⟨t,u⟩:=j.mul l;have x:IntKind.i64.wrap (px*f)=px*f:=iW _ ⟨by omega,by omega⟩;have y:IntKind.i64.wrap (d*qx)=d*qx:=iW _ ⟨by omega,by omega⟩;have z:IntKind.i64.wrap (px*f-d*qx)=px*f-d*qx:=iW _ ⟨by omega,by omega⟩;clear r m2 t u i j l p;go_in;go_wp2;go_ret;exact⟨by first|rfl|simp[*],eA⟩
def Ce(p q r:Int×Int):Int:=(q.1-p.1)*(r.2-q.2)-(q.2-p.2)*(r.1-q.1)
def VF(w:X)(px f qx d i j:Int)(K:Bd 100000000 px)(R:Bd 100000000 f)(h3:Bd 100000000 qx)(h4:Bd 100000000 d)(h5:Bd 100000000 i)(h6:Bd 100000000 j):Calls Tryz.prog 276 #[J #[N M px,N M f],J #[N M qx,N M d],J #[N M i,N M j]] w fun e w'=>e=.returned (N M (Ce (px,f) (qx,d) (i,j)))/\oa w w':=by
 have u:=ia K;have x:=ia R;have l:=ia h3;have p:=ia h4;have y:=ia h5;have z:=ia h6;clear K R h3 h4 h5 h6;go_in;go_wp2;go_region_held3 (fun W=>W.cell? ⟨w.heap.size,0,V⟩=Y (N M px)/\W.cell? ⟨w.heap.size,1,V⟩=Y (N M f)/\W.cell? ⟨w.heap.size+1,0,V⟩=Y (N M qx)/\W.cell? ⟨w.heap.size+1,1,V⟩=Y (N M d)/\W.cell? ⟨w.heap.size+1+1,0,V⟩=Y (N M i)/\W.cell? ⟨w.heap.size+1+1,1,V⟩=Y (N M j)) ((repeat' (with_reducible refine And.intro ?_ ?_))<;>(first|(go_simp;done)|(refine hx1.d ?_;go_simp;done))) (first|((go_at_call 291;(with_reducible refine(Pt _ qx d px f (l.o.mono dM) (p.o.mono dM) (u.o.mono dM) (x.o.mono dM)).mono ?_);rintro e w1 ⟨rfl,hx1⟩;obtain⟨⟨aj,am⟩,aa,ab,ac⟩:=oc w hx1))|((go_at_call 291;(with_reducible refine(Pt _ i j qx d (y.o.mono dM) (z.o.mono dM) (l.o.mono dM) (p.o.mono dM)).mono ?_);rintro e w2 ⟨rfl,r⟩;obtain⟨⟨ak,an⟩,ad,ae,af⟩:=oc w r))|((go_at_call 156;(with_reducible refine(YA _ (qx-px) (d-f) (i-qx) (j-d) ((l.o.sub u.o).mono dM) ((p.o.sub x.o).mono dM) ((y.o.sub l.o).mono dM) ((z.o.sub p.o).mono dM)).mono ?_);rintro e w3 ⟨rfl,t⟩;obtain⟨⟨al,ao⟩,ag,ah,ai⟩:=oc w t)))
 all_goals go_wp2
 go_ret;exact⟨rfl,eA⟩
def xb(n a b:Int):Bool:=decide (a<=n)&&decide (n<=b)
def jk(w:X)(n a b:Int):Calls Tryz.prog 194 #[N M n,N M a,N M b] w fun e w'=>e=.returned (Z (xb n a b))/\oa w w':=by
 unfold xb;by_cases h:a<=n
 ·have d:decide (a<=n)=true:=by simpa using h
  go_in;go_wp2;go_ret;exact⟨by simp[d],eA⟩
 ·have d:decide (a<=n)=false:=by simpa using h
  go_in;go_wp2;go_ret;exact⟨by simp[d],eA⟩
def su(w:X)(n:Int):Calls Tryz.prog 282 #[N M n] w fun e w'=>e=.returned (Z false)/\oa w w':=by go_in;go_wp2;go_ret;exact⟨rfl,eA⟩
def xB(w:X)(a b:Int):Calls Tryz.prog 278 #[N M a,N M b] w fun e w'=>e=.returned (N M (nc a b))/\oa w w':=by
 have f:a<b->Calls Tryz.prog 278 #[N M a,N M b] w fun e w'=>e=.returned (N M (nc a b))/\oa w w':=by
  intro h;have e:nc a b = -1:=by unfold nc;(repeat' split)<;>omega
  rw[e];clear e
  first|subst h|skip
  go_in;go_wp2_with(((go_at_call 282;(with_reducible refine(su _ _).mono ?_);rintro e l ⟨rfl,d⟩)));go_ret;exact⟨rfl,eA⟩
 have i:a=b->Calls Tryz.prog 278 #[N M a,N M b] w fun e w'=>e=.returned (N M (nc a b))/\oa w w':=by
  intro h;have e:nc a b=0:=by unfold nc;(repeat' split)<;>omega
  rw[e];clear e
  first|subst h|skip
  go_in;go_wp2_with(((go_at_call 282;(with_reducible refine(su _ _).mono ?_);rintro e l ⟨rfl,d⟩)));go_ret;exact⟨rfl,eA⟩
 have j:b<a->Calls Tryz.prog 278 #[N M a,N M b] w fun e w'=>e=.returned (N M (nc a b))/\oa w w':=by
  intro h;have e:nc a b=1:=by unfold nc;(repeat' split)<;>omega
  rw[e];clear e
  first|subst h|skip
  go_in;go_wp2_with(((go_at_call 282;(with_reducible refine(su _ _).mono ?_);rintro e l ⟨rfl,d⟩)));go_ret;exact⟨rfl,eA⟩
 rcases Int.lt_trichotomy a b with h|h|h
 ·exact f h
 ·exact i h
 ·exact j h
def Ga(T:TypeId)(k:Nat)(w:X)(base:Nat)(v:I)(cs:List (List I)):Prop:=(∀c∈cs,c.length=k)/\w.ownsRow base T k v cs.length cs.flatten
def yk{k:Nat}:∀{cs:List (List I)},(∀c∈cs,c.length=k)->cs.flatten.length=cs.length*k
 | [],_=>by simp
 | d::cs,h=>by
  rw[List.flatten_cons,lA,yk (fun c e=>h c (mC _ e)),h d (by simp),List.length_cons,Nat.add_mul];omega
def xp{k:Nat}:∀{cs:List (List I)}(m:Nat),(∀c∈cs,c.length=k)->m<=cs.length->cs.flatten.take (m*k)=(cs.take m).flatten
 | _,0,_,_=>by simp
 | [],m+1,_,h=>by simp at h
 | d::cs,m+1,h,hm=>by
  have e:=h d sM;rw[List.flatten_cons,List.take_append,e,lT (by rw[e,Nat.add_mul];omega),show (m+1)*k-k=m*k by rw[Nat.add_mul];omega,
   xp m (fun c f=>h c (mC _ f)) (by simpa using hm),List.take_succ_cons,List.flatten_cons]
section
variable {T:TypeId} {k:Nat} {w w':X} {base:Nat} {v:I} {cs ds:List (List I)} {a:Option Oa} {n c g:Nat}
def Ga.rd(h:Ga T k w base v cs):Rd w T k v cs.length cs.flatten:=Rd.of_own h.2
def Ga.sl{α:Type}{P:X->List I->α->Prop}{xs:List α}(h:Ga T k w base v cs)(d:cs.length=xs.length)(e:∀(i:Nat) c x,cs[i]?=Y c->xs[i]?=Y x->P w c x):Sl T k P w v xs:=
 ⟨cs,d,h.1,by rw[<-d];exact h.rd,e⟩
def Ga.nil(T:TypeId)(k:Nat)(w:X)(base:Nat):Ga T k w base (O V 0 0) []:=⟨by simp,World.ownsRow_nil w base T k⟩
def Ga.form(h:Ga T k w base v cs):∃a c,v=O a cs.length c:=Vo h.2
def Ga.j(h:Ga T k w base v cs):∃a n c,v=O a n c:=by obtain⟨a,c,h⟩:=Vo h.2;exact⟨a,_,c,h⟩
def Ga.len(h:Ga T k w base (O a n c) cs):n=cs.length:=by obtain⟨a,e,d⟩:=Vo h.2;cases d;rfl
def Ga.keep(h:Ga T k w base v cs)(j:Fa T w w'):Ga T k w' base v cs:=by
 obtain⟨e,l,d⟩:=h;refine⟨e,l,?_⟩;rcases d with d|⟨g,cap,cur,hv,f,i,r⟩
 ·exact .inl d
 ·exact .inr ⟨g,cap,cur,hv,f,j _ _ _ i,r⟩
def Ga.ext(h:Ga T k w base v cs)(d:oa w w'):Ga T k w' base v cs:=h.keep d.keep
def Ga.grown(h:Ga T k w base v cs){row:Option Nat}(e:w.grownBy w' row)(d:v.ownBlock=V\/v.ownBlock≠row):Ga T k w' base v cs:=⟨h.1,World.ownsRow.kept h.2 e d⟩
def Ga.setOther(h:Ga T k w base v cs){p:Oa}(f:v.ownBlock≠Y p.block)(u:I):Ga T k (w.setCell p u) base v cs:=
 h.grown (row:=Y p.block) ⟨rfl,rfl,rfl,by simp[World.setCell],fun k _ d=>bS _ _ _ _ (by intro e;exact d (by rw[e]))⟩ (.inr f)
def Ga.mono{b':Nat}(h:Ga T k w base v cs)(i:b'<=base):Ga T k w b' v cs:=by
 obtain⟨e,f,d⟩:=h;refine⟨e,f,?_⟩;rcases d with d|⟨g,cap,cur,hv,j,r⟩
 ·exact .inl d
 ·exact .inr ⟨g,cap,cur,hv,by omega,r⟩
def Ga.blk(h:Ga T k w base (O a n c) cs)(f:0<cs.length):∃g,a=Y ⟨g,0,V⟩/\base<=g/\g<w.heap.size:=by have d:=h.len;subst d;obtain⟨g,rfl,e⟩:=Ey h.2 f;exact⟨g,rfl,e,(World.ownsRow.lt h.2 g rfl).2⟩
def Ga.cell(h:Ga T k w base (O (Y ⟨g,0,V⟩) n c) cs){i j:Nat}{d:List I}{u:I}(e:cs[i]?=Y d)(l:d[j]?=Y u):w.cell? ⟨g,i*k+j,V⟩=Y u:=by
 have t:=h.len;subst t;have p:=(lS.1 e).1;have f:=h.1 d (lM e);have r:j<k:=by rw[<-f];exact(lS.1 l).1
 rw[World.ownsRow.cellAt h.2 _ (by
  calc i*k+j<i*k+k:=oM
   _=(i+1)*k:=by rw[Nat.add_mul];omega
   _<=cs.length*k:=Nat.mul_le_mul_right _ p),mo h.1 e r]
 exact l
def Ga.frozen(h:Ga T k w base (O (Y ⟨g,0,V⟩) n c) cs)(i:Nat):w.frozen? ⟨g,i,V⟩=false:=by have d:=h.len;subst d;exact World.ownsRow.frozenAt h.2 i
def MB{k:Nat}:∀{cs:List (List I)}{i j:Nat}{d:List I},(∀c∈cs,c.length=k)->cs[i]?=Y d->j<k->∀u,cs.flatten.set (i*k+j) u=(cs.set i (d.set j u)).flatten
 | [],i,j,d,_,h,_,_=>by simp at h
 | e::cs,0,j,d,hk,h,hj,u=>by
  simp at h;subst h;rw[List.flatten_cons,Nat.zero_mul,Nat.zero_add,List.set_append_left _ _ (by rw[hk e (by simp)];exact hj),List.set_cons_zero,List.flatten_cons]
 | e::cs,i+1,j,d,hk,h,hj,u=>by
  have f:=hk e sM;rw[List.flatten_cons,List.set_append_right _ _ (by rw[f,Nat.add_mul];omega),f,show (i+1)*k+j-k=i*k+j by rw[Nat.add_mul];omega,
   MB (fun c l=>hk c (mC _ l)) (by simpa using h) hj u,List.set_cons_succ,List.flatten_cons]
def Ga.stored(h:Ga T k w base (O (Y ⟨g,0,V⟩) n c) cs){i j:Nat}{d:List I}(p:cs[i]?=Y d)(t:j<k)(u:I):Ga T k (w.setCell ⟨g,i*k+j,V⟩ u) base (O (Y ⟨g,0,V⟩) n c) (cs.set i (d.set j u)):=by
 have x:=h.len;subst x;have l:=h.1 d (lM p);refine⟨?_,?_⟩
 ·intro e r;rcases List.mem_or_eq_of_mem_set r with f|f
  ·exact h.1 e f
  ·subst f;simpa using l
 ·have:=(World.ownsRow.stored h.2 (i*k+j) u).1;rw[MB h.1 p t u]at this;rw[List.length_set];exact this
def Ga.cut(h:Ga T k w base (O (Y ⟨g,0,V⟩) n c) cs){m:Nat}(f:m<=cs.length):Ga T k w base (O (Y ⟨g,0,V⟩) m c) (cs.take m):=by
 have t:=h.len;subst t;have r:(cs.take m).length=m:=by rw[List.length_take];omega
 have d:∀c∈cs.take m,c.length=k:=fun c j=>h.1 c (List.mem_of_mem_take j);refine⟨d,?_,?_⟩
 ·rw[yk d]
 ·rcases h.2.2 with ⟨i,_⟩|⟨z,cap,cur,hv,l,p,u,e,x,y⟩
  ·cases i
  ·cases hv;rw[r];refine .inr ⟨g,c,cur,rfl,l,p,by omega,e,x,?_⟩;rw[<-xp m h.1 f,<-y,List.take_take]
   congr 1
   have:m*k<=cs.length*k:=Nat.mul_le_mul_right _ f;omega
end
def qr{P:Program}{T t:TypeId}(ty:TypeId){k bytes:Nat}{z:I}{w:X}{base:Nat}{v:I}{cs ds:List (List I)}{ad:Oa}{m c:Nat}(p:(P.info? T).map (fun i=>(i.zero,i.size,i.bytes))=Y (Y z,k,bytes))(af:z.cells.size=k)(hk:0<k)(aa:bytes<=1000)(ht:P.underlying t=Y (.slice T))(d:Ga T k w base v cs)(hm:ds.length=m)(hd:∀c∈ds,c.length=k)(r:∀(j:Nat) u,ds.flatten[j]?=Y u->w.cell? (ad.add j)=Y u)(h1:∀u∈ds.flatten,u.oneCell'=true)(y:cs.length+m<=100000000000)(f:base<=w.heap.size):∃v' w',(Builtin.append_ #[t,t] ty #[v,O (Y ad) m c]).run P w = .ok v' w'/\Ga T k w' base v' (cs++ds)/\w.grownBy w' v.ownBlock/\(v'.ownBlock=v.ownBlock\/v'.ownBlock=Y w.heap.size):=by
 obtain⟨i,hi,ab,ac,ae⟩:=info_parts p;subst hm;have hb:(cs.length+ds.length)*bytes<=140737488355328:=by
  calc (cs.length+ds.length)*bytes<=100000000000*1000:=Nat.mul_le_mul y aa
   _<=140737488355328:=dM
 obtain⟨v',w',R,x,l,_,K⟩:=run_append_own_at (P:=P) w base t ty T i z k bytes ht hi ab ac ae af hk v cs.length cs.flatten d.2 ad ds.length c ds.flatten (yk hd)
  r h1 (by unfold maxLen;omega) hb f
 refine⟨v',w',R,⟨?_,?_⟩,l,K⟩
 ·intro e he;rcases List.mem_append.1 he with h|h
  ·exact d.1 e h
  ·exact hd e h
 ·rw[lA,List.flatten_append];exact x
def kj{P:Program}{T t:TypeId}{k bytes:Nat}{z:I}{w:X}{base:Nat}{v:I}{cs:List (List I)}{ops:Array Oper}{rest:List Oper}{o:Oper}{a:A}{Q:Exit->A->X->Prop}(e:(P.info? T).map (fun i=>(i.zero,i.size,i.bytes))=Y (Y z,k,bytes))(aa:z.cells.size=k)(hk:0<k)(y:bytes<=1000)(ht:P.underlying t=Y (.slice T))(R:o.guard=V)(s x:Operand)(ho:o.op = .call { callee:=.builtin .append,args:=#[s,x],argTypes:=#[t,t] })(hs:a.eval s=v)(p:Ga T k w base v cs){ad:Oa}{m c:Nat}(hx:a.eval x=O (Y ad) m c)
  (ds:List (List I))(hm:ds.length=m)(hd:∀c∈ds,c.length=k)(f:∀(j:Nat) u,ds.flatten[j]?=Y u->w.cell? (ad.add j)=Y u)(h1:∀u∈ds.flatten,u.oneCell'=true)(l:cs.length+m<=100000000000)(d:base<=w.heap.size)
  (h:∀v' w',Ga T k w' base v' (cs++ds)->w.grownBy w' v.ownBlock->(v'.ownBlock=v.ownBlock\/v'.ownBlock=Y w.heap.size)->wpList P ops Q rest (a.put o.dst v') w'):wpList P ops Q (o::rest) a w:=by obtain⟨v',w',r,h2,h3,h4⟩:=qr (P:=P) o.type e aa hk y ht p hm hd f h1 l d (c:=c);refine wpList_plain R fun K hK=>?_;unfold Oper.wp;simp[execOp,ho,resolve,invoke,builtin,hs,hx,r,Result.andThen];exact hK _ _ (h v' w' h2 h3 h4)
def oy{P:Program}{T t:TypeId}(ty:TypeId){k bytes:Nat}{z:I}{w:X}{base:Nat}{v sl:I}{cs ds:List (List I)}(f:(P.info? T).map (fun i=>(i.zero,i.size,i.bytes))=Y (Y z,k,bytes))(af:z.cells.size=k)(hk:0<k)(aa:bytes<=1000)(ht:P.underlying t=Y (.slice T))(l:Ga T k w base v cs)(hd:∀c∈ds,c.length=k)(d:Rd w T k sl ds.length ds.flatten)(h1:∀u∈ds.flatten,u.oneCell'=true)(y:cs.length+ds.length<=100000000000)(p:base<=w.heap.size):∃v' w',(Builtin.append_ #[t,t] ty #[v,sl]).run P w = .ok v' w'/\Ga T k w' base v' (cs++ds)/\w.grownBy w' v.ownBlock/\(v'.ownBlock=v.ownBlock\/v'.ownBlock=Y w.heap.size):=by
 obtain⟨K,c,rfl⟩:=d.form;rcases K with _|K
 ·obtain⟨i,hi,ag,ae,ah⟩:=info_parts f;have h0:ds=[]:=by
   by_cases h:0<ds.length
   ·obtain⟨b,o,e,_⟩:=d.open h;cases e
   ·exact List.eq_nil_of_length_eq_zero oM
  subst h0;have hc:c=0:=by
   obtain⟨_,a,c,e,_,_,R⟩:=d;cases e;rcases R with R|⟨b,o,cs,fr,e,_⟩
   ·exact R.2 rfl
   ·cases e
  subst hc;have x:=l.2;subst ae;exact⟨v,w,run_append_owned_none (P:=P) (w:=w) base t ty T i i.size ht hi v cs.length cs.flatten x,by simpa using l,⟨rfl,rfl,rfl,nE _,fun _ _ _=>rfl⟩,.inl rfl⟩
 ·have r:∀(j:Nat) u,ds.flatten[j]?=Y u->w.cell? (K.add j)=Y u:=by
   intro j u hj;have ab:0<ds.length:=by
    by_cases h:0<ds.length
    ·exact h
    ·rw[List.eq_nil_of_length_eq_zero (show ds.length=0 by omega)]at hj;simp at hj
   obtain⟨b',o',e,hb,_,ac⟩:=d.open ab;cases e;have:=ac j u hj;unfold Addr.add;split
   ·subst j;simpa using this
   ·exact this
  exact qr ty f af hk aa ht l rfl hd r h1 y p
def Yp{P:Program}{T t:TypeId}{k bytes:Nat}{z:I}{w:X}{base:Nat}{v sl:I}{cs:List (List I)}{ops:Array Oper}{rest:List Oper}{o:Oper}{a:A}{Q:Exit->A->X->Prop}(e:(P.info? T).map (fun i=>(i.zero,i.size,i.bytes))=Y (Y z,k,bytes))(R:z.cells.size=k)(hk:0<k)(r:bytes<=1000)(ht:P.underlying t=Y (.slice T))(y:o.guard=V)(s x:Operand)(ho:o.op = .call { callee:=.builtin .append,args:=#[s,x],argTypes:=#[t,t] })(hs:a.eval s=v)(j:Ga T k w base v cs)(hx:a.eval x=sl)
  (ds:List (List I))(hd:∀c∈ds,c.length=k)(p:Rd w T k sl ds.length ds.flatten)(h1:∀u∈ds.flatten,u.oneCell'=true)(f:cs.length+ds.length<=100000000000)(d:base<=w.heap.size)
  (h:∀v' w',Ga T k w' base v' (cs++ds)->w.grownBy w' v.ownBlock->(v'.ownBlock=v.ownBlock\/v'.ownBlock=Y w.heap.size)->wpList P ops Q rest (a.put o.dst v') w'):wpList P ops Q (o::rest) a w:=by obtain⟨v',w',l,h2,h3,h4⟩:=oy (P:=P) o.type e R hk r ht j hd p h1 f d;refine wpList_plain y fun K hK=>?_;unfold Oper.wp;simp[execOp,ho,resolve,invoke,builtin,hs,hx,l,Result.andThen];exact hK _ _ (h v' w' h2 h3 h4)
def Bu{k:Nat}:∀{cs:List (List I)}(m:Nat),(∀c∈cs,c.length=k)->m<=cs.length->cs.flatten.drop (m*k)=(cs.drop m).flatten
 | _,0,_,_=>by simp
 | [],m+1,_,h=>by simp at h
 | d::cs,m+1,h,hm=>by
  have e:=h d sM;rw[List.flatten_cons,List.drop_append,e,List.drop_of_length_le (by rw[e,Nat.add_mul];omega),show (m+1)*k-k=m*k by rw[Nat.add_mul];omega,
   Bu m (fun c f=>h c (mC _ f)) (by simpa using hm),List.drop_succ_cons,List.nil_append]
section
variable {α:Type} {T:TypeId} {k:Nat} {P:X->List I->α->Prop} {w w':X} {v:I} {xs:List α} {b o n c:Nat}
def Sl.drop(h:Sl T k P w (O (Y ⟨b,o,V⟩) n c) xs)(hn:0<xs.length){m:Nat}(hm:m<=xs.length):Sl T k P w (O (Y ⟨b,o+m*k,V⟩) (n-m) (c-m)) (xs.drop m):=by
 have aa:=h.len;obtain⟨cs,z,j,⟨K,a,c9,e,h5,h6,p⟩,R⟩:=h;cases e;refine⟨cs.drop m,by rw[List.length_drop,List.length_drop,z],fun c l=>j c (List.mem_of_mem_drop l),⟨?_,Y ⟨b,o+m*k,V⟩,c-m,?_,?_,?_,?_⟩,?_⟩
 ·rw[<-Bu m j oM,List.length_drop,K,List.length_drop,Nat.sub_mul]
 ·rw[List.length_drop]
 ·rw[List.length_drop];omega
 ·omega
 ·rcases p with p|⟨b',o',f,y,e,hh,l⟩
  ·omega
  ·cases e;refine .inr ⟨_,_,f,y,rfl,hh,fun i x t=>?_⟩;rw[<-Bu m j oM,List.getElem?_drop]at t;have:=l _ _ t
   rwa [<-Nat.add_assoc]at this
 ·intro i d x r u;rw[List.getElem?_drop]at r u;exact R _ _ _ r u
def Sl.take(h:Sl T k P w (O (Y ⟨b,o,V⟩) n c) xs)(hn:0<xs.length){m c':Nat}(hm:m<=xs.length)(aa:m<=c')(ab:c'<=c):Sl T k P w (O (Y ⟨b,o,V⟩) m c') (xs.take m):=by
 have ac:=h.len;obtain⟨cs,K,r,⟨R,a,c9,e,h5,h6,y⟩,h4⟩:=h;cases e;have f:(xs.take m).length=m:=by rw[List.length_take];omega
 refine⟨cs.take m,by rw[List.length_take,List.length_take,K],fun c t=>r c (List.mem_of_mem_take t),⟨?_,Y ⟨b,o,V⟩,c',?_,?_,?_,?_⟩,?_⟩
 ·rw[<-xp m r oM,List.length_take,R,f];have:m*k<=xs.length*k:=Nat.mul_le_mul_right _ hm;omega
 ·rw[f]
 ·rw[f];omega
 ·omega
 ·rcases y with y|⟨b',o',p,z,e,hh,t⟩
  ·omega
  ·cases e;refine .inr ⟨_,_,p,z,rfl,hh,fun i x l=>?_⟩;rw[<-xp m r oM,List.getElem?_take]at l;split at l
   ·exact t _ _ l
   ·cases l
 ·intro i d x j u;rw[List.getElem?_take]at j u;split at j
  ·rename_i hlt2;rw[if_pos hlt2]at u;exact h4 _ _ _ j u
  ·cases j
end
def Ch{w w':X}{base:Nat}{row:Option Nat}(e:w.grownBy w' row)(d:base<=w.heap.size)(f:∀k,row=Y k->base<=k):Below base w w':=(Below.refl _ w).grown e d f
def Ga.lt{T:TypeId}{k:Nat}{w:X}{base:Nat}{v:I}{cs:List (List I)}(h:Ga T k w base v cs):∀j,v.ownBlock=Y j->base<=j/\j<w.heap.size:=World.ownsRow.lt h.2
def ol{a b:X}{g:Nat}(h:a.grownBy b (Y g))(i:Nat)(u:I):a.grownBy (b.setCell ⟨g,i,V⟩ u) (Y g):=
 h.trans ⟨rfl,rfl,rfl,by simp[World.setCell],fun k _ d=>bS _ _ _ _ (by intro e;exact d (by rw[e]))⟩
def ko{a b:X}{row:Option Nat}(h:a.grownBy b row)(n:Nat):a.grownBy (b.drewN n) row:=⟨h.os,h.tape,h.output,h.size,h.block⟩
def LD{a b:X}{row:Option Nat}(h:a.grownBy b row):a.grownBy b.drew row:=⟨h.os,h.tape,h.output,h.size,h.block⟩
def Bh{a b:X}{row:Option Nat}{k:Nat}{o:Obj}(e:a.grownBy b row)(h:a.heap[k]?=Y o)(d:Y k≠row):b.heap[k]?=Y o:=(e.block k (jc h) d).trans h
def IH{P:Program}{T t:TypeId}(ty:TypeId){k:Nat}{w:X}{base g n cap:Nat}{sl:I}{os ds:List (List I)}(R:(P.info? T).map (·.size)=Y k)(ht:P.underlying t=Y (.slice T))(l:Ga T k w base (O (Y ⟨g,0,V⟩) n cap) os)(hd:∀c∈ds,c.length=k)(p:Rd w T k sl ds.length ds.flatten)(f:ds.length=os.length)(h0:0<ds.length)(h1:∀u∈ds.flatten,u.oneCell'=true):∃w',(Builtin.copy_ #[t,t] ty #[O (Y ⟨g,0,V⟩) n cap,sl]).run P w = .ok (goInt n) w'/\Ga T k w' base (O (Y ⟨g,0,V⟩) n cap) ds/\w.grownBy w' (Y g):=by
 have hn:=l.len;obtain⟨ad,c,rfl⟩:=p.form;obtain⟨b',o',rfl,hb,_,ae⟩:=p.open h0;have r:∀(j:Nat) u,ds.flatten[j]?=Y u->w.cell? ((⟨b',o',V⟩:Oa).add j)=Y u:=by
  intro j u hj;have:=ae j u hj;unfold Addr.add;split
  ·subst j;simpa using this
  ·exact this
 subst hn;rcases l.2.2 with ⟨h2,_⟩|⟨g',af,cur,hv,hg,hh,z,aa,ab,ah⟩
 ·cases h2
 ·cases hv;have d:ds.flatten.length=ds.length*k:=yk hd;have ac:os.length*k<=cur.size:=by rw[ab];exact Nat.mul_le_mul_right _ z
  have x:=run_loadCells_list (P:=P) w ⟨b',o',V⟩ ds.flatten r;have K:=run_storeCells_at P g 0 T ds.flatten 0 cur w hh (by rw[d,f];simpa using ac) h1;refine⟨w.setRow g (cur.toList.take 0++ds.flatten++cur.toList.drop (0+ds.flatten.length)).toArray,?_,⟨hd,?_,?_⟩,⟨rfl,rfl,rfl,by simp,fun j _ hj=>setRow_other w g j _ (fun e=>hj (by simp[e]))⟩⟩
  ·cases hq:P.info? T with
   | none=>simp[hq]at R
   | some i =>
    (have hi:i.size=k:=by simpa[hq] using R);(have y:Nat.min ds.length os.length=ds.length:=by rw[f];exact Nat.min_self _);rw[d,f]at x;simp only[List.length_flatten]at K;(have ag:((os.length:Nat):Int)=(ds.length:Int):=by rw[f]);simp[Builtin.copy_,run_underlying ht,Builtin.lenOf,Builtin.firstCells,sizeOf,typeInfo,hq,hi,y,x,K,goInt,f]
  ·exact d
  ·rw[f];refine .inr ⟨g,cap,_,rfl,hg,setRow_heap w g cur _ T _ hh,z,aa,?_,?_⟩
   ·simp only[List.size_toArray,lA,List.length_take,List.length_drop,Array.length_toList,d,f];omega
   ·simp only[List.take_zero,List.nil_append];rw[<-f,<-d,List.take_append,lT (nE _),Nat.sub_self,List.take_zero,List.append_nil]
def KL{P:Program}{T t:TypeId}{k:Nat}{w:X}{base g n cap:Nat}{sl:I}{os:List (List I)}{ops:Array Oper}{rest:List Oper}{o:Oper}{a:A}{Q:Exit->A->X->Prop}(p:(P.info? T).map (·.size)=Y k)(ht:P.underlying t=Y (.slice T))(l:o.guard=V)(d s:Operand)(ho:o.op = .call { callee:=.builtin .copy,args:=#[d,s],argTypes:=#[t,t] })(j:a.eval d=O (Y ⟨g,0,V⟩) n cap)(hs:a.eval s=sl)
  (e:Ga T k w base (O (Y ⟨g,0,V⟩) n cap) os)(ds:List (List I))(hd:∀c∈ds,c.length=k)(i:Rd w T k sl ds.length ds.flatten)
  (hl:ds.length=os.length)(r:0<ds.length)(x:∀u∈ds.flatten,u.oneCell'=true)
  (h:∀w',Ga T k w' base (O (Y ⟨g,0,V⟩) n cap) ds->w.grownBy w' (Y g)->wpList P ops Q rest (a.put o.dst (goInt n)) w'):wpList P ops Q (o::rest) a w:=by obtain⟨w',f,y,z⟩:=IH (P:=P) o.type p ht e hd i hl r x;refine wpList_plain l fun K R=>?_;unfold Oper.wp;simp[execOp,ho,resolve,invoke,builtin,j,hs,f,Result.andThen];exact R _ _ (h w' y z)
def yL{P:Program}{T t:TypeId}{k bytes:Nat}{z:I}{zs:List I}{w:X}{n:Nat}{ops:Array Oper}{rest:List Oper}{o:Oper}{a:A}{Q:Exit->A->X->Prop}(p:(P.info? T).map (fun i=>(i.zero,i.size,i.bytes))=Y (Y z,k,bytes))(ai:z.cells=zs.toArray)(d:zs.length=k)(aa:bytes<=1000)(ht:P.underlying t=Y (.slice T))(ab:o.guard=V)(l c:Operand)(ho:o.op = .makeSlice t l c)(L:Int)(ae:a.eval l=N M L)(f:a.eval c=N M L)(hL:L=(n:Int))(hn:n<=100000000000)(h:∀cs,Ga T k (w.alloc (C cs T)) w.heap.size (O (Y ⟨w.heap.size,0,V⟩) n n) (List.replicate n zs)->wpList P ops Q rest (a.put o.dst (O (Y ⟨w.heap.size,0,V⟩) n n)) (w.alloc (C cs T))):wpList P ops Q (o::rest) a w:=by
 obtain⟨i,hi,ag,y,ah⟩:=info_parts p;have aj:bytes*n<=281474976710656:=by
  calc bytes*n<=1000*100000000000:=Nat.mul_le_mul aa hn
   _<=281474976710656:=dM
 have u:=run_make (P:=P) w t T i z ht hi ag M M n n oM oM (by rw[ah];omega) oM;simp only[Int.toNat_natCast]at u;refine wpList_plain ab fun K R=>?_;unfold Oper.wp;subst hL;simp[execOp,ho,ae,f,u,Result.andThen];refine R _ _ (h _ ?_);have x:(List.replicate n zs).flatten.length=n*k:=by rw[yk (k:=k) (fun c f=>by rw[List.eq_of_mem_replicate f];exact d),List.length_replicate]
 refine⟨fun c f=>by rw[List.eq_of_mem_replicate f];exact d,by rw[x,List.length_replicate],.inr ⟨w.heap.size,n,_,by simp,nE _,aN w _,by simp,by unfold maxLen;omega,by rw[y];simp[madeCells],?_⟩⟩;rw[y,List.length_replicate,ai,lT (by rw[Array.length_toList,size_madeCells];exact nE _)];apply List.ext_getElem?;intro j;by_cases hj:j<n*k
 ·have ad:0<k:=by
   rcases Nat.eq_zero_or_pos k with e|e
   ·subst e;simp at hj
   ·exact e
  obtain⟨q,r,u,hq⟩:∃q r,r<k/\j=q*k+r:=⟨j/k,j%k,Nat.mod_lt _ ad,by rw[Nat.mul_comm];exact(Nat.div_add_mod j k).symm⟩;have af:q<n:=by
   rcases Nat.lt_or_ge q n with e|e
   ·exact e
   ·exfalso;have:n*k<=q*k:=Nat.mul_le_mul_right _ e;omega
  have e2:(List.replicate n zs).flatten[q*k+r]?=zs[r]?:=mo (k:=k) (fun c f=>by rw[List.eq_of_mem_replicate f];exact d) (by rw[List.getElem?_replicate,if_pos af]) u;have ac:j%k=r:=by rw[hq,Nat.add_comm,Nat.add_mul_mod_self_right,Nat.mod_eq_of_lt u]
  rw[show (List.replicate n zs).flatten[j]?=zs[r]? by rw[hq];exact e2];simp only[madeCells,Array.toList_map,Array.toList_range,lP,List.getElem?_range hj,Option.map_some,List.size_toArray,d,ac];rw[gE oM];simp[d,u]
 ·rw[List.getElem?_eq_none (by rw[Array.length_toList,size_madeCells];omega),List.getElem?_eq_none (by rw[x];omega)]
def Yt{P:Program}{T t:TypeId}{k bytes:Nat}{z:I}{w:X}{base:Nat}{v:I}{cs:List (List I)}{ops:Array Oper}{o:Oper}{a:A}{K:A->X->Prop}{Q:Exit->A->X->Prop}{E:Prop}(e:(P.info? T).map (fun i=>(i.zero,i.size,i.bytes))=Y (Y z,k,bytes))(aa:z.cells.size=k)(hk:0<k)(y:bytes<=1000)(ht:P.underlying t=Y (.slice T))(R:o.guard=V)(s x:Operand)(ho:o.op = .call { callee:=.builtin .append,args:=#[s,x],argTypes:=#[t,t] })(hs:a.eval s=v)(p:Ga T k w base v cs){ad:Oa}{m c:Nat}(hx:a.eval x=O (Y ad) m c)
  (ds:List (List I))(hm:ds.length=m)(hd:∀c∈ds,c.length=k)(f:∀(j:Nat) u,ds.flatten[j]?=Y u->w.cell? (ad.add j)=Y u)(h1:∀u∈ds.flatten,u.oneCell'=true)(l:cs.length+m<=100000000000)(d:base<=w.heap.size)
  (h:∀v' w',Ga T k w' base v' (cs++ds)->w.grownBy w' v.ownBlock->(v'.ownBlock=v.ownBlock\/v'.ownBlock=Y w.heap.size)->K (a.put o.dst v') w') :
  if Region.wanted o (yielded ops a.tmps)=true then Oper.wp P o a w K Q else E:=by
 have hw:Region.wanted o (yielded ops a.tmps)=true:=by simp[Region.wanted,R]
 rw[if_pos hw];obtain⟨v',w',r,h2,h3,h4⟩:=qr (P:=P) o.type e aa hk y ht p hm hd f h1 l d (c:=c);unfold Oper.wp;simp[execOp,ho,resolve,invoke,builtin,hs,hx,r,Result.andThen];exact h v' w' h2 h3 h4
def pc(p:Int×Int):List I:=[N M p.1,N M p.2]
def ul:(Tryz.prog.info? 55).map (fun i=>(i.zero,i.size,i.bytes))=Y (Y (J #[N M 0,N M 0]),2,16):=kM
def Ao{ps:LP}:∀u∈(ps.map pc).flatten,u.oneCell'=true:=by intro u e;obtain⟨d,f,e⟩:=List.mem_flatten.1 e;obtain⟨p,_,rfl⟩:=List.mem_map.1 f;simp[pc]at e;rcases e with rfl|rfl<;>rfl
def Bo{ps:LP}:∀c∈ps.map pc,c.length=2:=by intro c d;obtain⟨p,_,rfl⟩:=List.mem_map.1 d;rfl
def Dw(W:X)(x z:Int)(T:TypeId):∀(j:Nat) u,[pc (x,z)].flatten[j]?=Y u->(W.alloc (C #[N M x,N M z] T)).cell? ((⟨W.heap.size,0,V⟩:Oa).add j)=Y u:=by
 intro j u d
 match j,d with
 | 0,d=>simp[pc]at d;subst d;simp[Addr.add]
 | 1,d=>simp[pc]at d;subst d;simp[Addr.add]
 | j+2,d=>simp[pc]at d
def kw(x z:Int):∀u∈[pc (x,z)].flatten,u.oneCell'=true:=Ao (ps:=[(x,z)])
def YC{a b c:X}{k:Nat}(h:oa a b)(g:b.grownBy c (Y k))(e:a.heap.size<=k):oa a c:=
 ⟨g.os.trans h.os,g.tape.trans h.tape,g.output.trans h.output,nT h.size g.size,fun i d=>(g.block i (Nat.lt_of_lt_of_le d h.size) (by simp;omega)).trans (h.block d)⟩
def DG{a b c:X}{row:Option Nat}(h:a.grownBy b row)(k:Below a.heap.size b c):a.grownBy c row:=
 ⟨k.os.trans h.os,k.tape.trans h.tape,k.output.trans h.output,nT h.size k.size,fun i e d=>(k.block i e).trans (h.block i e d)⟩
def KD(a:X)(row:Option Nat):a.grownBy a row:=⟨rfl,rfl,rfl,nE _,fun _ _ _=>rfl⟩
def CG{a b:X}{k:Nat}{T T':TypeId}{cs:Array I}{j:Nat×Nat}(g:a.grownBy b (Y k))(i:a.heap[k]?=Y (C cs T' j))(l:T'≠T):Fa T a b:=
 fun x c f d=>(g.block x (jc d) (fun e=>by cases e;rw[d]at i;cases i;exact l rfl)).trans d
def Qb(way:Int)(p q:Rat):Rat:=if Pb q p=way then q else p
def Za(way:Int):List Rat->Rat
 | []=>0
 | x::xs=>xs.foldl (Qb way) x
def lJ(way:Int)(xs:List Rat)(x:Rat)(h:xs≠[]):Za way (xs++[x])=Qb way (Za way xs) x:=by
 cases xs with
 | nil=>exact absurd rfl h
 | cons y d=>simp[Za]
def Iz(way:Int)(p q:Rat):Qb way p q=p\/Qb way p q=q:=by unfold Qb;split<;>simp
def MI(way:Int)(P:Rat->Prop)(xs:List Rat)(h:∀x∈xs,P x)(j:P 0):P (Za way xs):=by
 cases xs with
 | nil=>exact j
 | cons x xs =>
  have:∀(d:List Rat)(a:Rat),P a->(∀y∈d,P y)->P (d.foldl (Qb way) a):=by
   intro d;induction d with
   | nil=>intro a i _;exact i
   | cons y d p =>
    intro a i f;refine p _ ?_ (fun z l=>f z (mC _ l));rcases Iz way a y with e|e<;>rw[e]
    ·exact i
    ·exact f y sM
  exact this xs x (h x sM) (fun y f=>h y (mC _ f))
def Rb.zero{k:Nat}(d:1<=k):Rb k 0:=⟨by have:=tj Yh k;unfold Lm;simp;omega,Gq d⟩
def LK(w:X)(va vb:I)(p q:Rat)(way:Int)(j:Nat)(R:La w va p)(hb:La w vb q)(aa:Rb Yb p)(ab:Rb Yb q)(hw:w.cell? ⟨j,0,V⟩=Y (N M way)):Calls Tryz.prog 182 #[va,vb,.pointer (Y ⟨j,0,V⟩)] w (Id w (Qb way p q)):=by
 obtain⟨a,m,c,s,a2,m2,c2,rfl⟩:=R.form;obtain⟨t,x,u,y,d,i,f,rfl⟩:=hb.form;have z:=ia aa;have K:=ia ab;clear aa ab;have zw:j<w.heap.size:=World.block_lt_of_cell? w _ hw;have ai:j<w.heap.size+1:=oM;have aj:j<w.heap.size+1+1:=oM;by_cases l:Pb q p=way
 ·have af:(Pb q p==way)=true:=by simpa using l
  have hR:La w (J #[O t x u,Z y,O d i f]) (Qb way p q):=by unfold Qb;first|(rw[if_pos l];exact hb)|(rw[if_neg l];exact R)
  clear l;go_in;go_wp2;go_region_held3 (fun W=>W.cell? ⟨w.heap.size,0,V⟩=Y (O a m c)/\W.cell? ⟨w.heap.size,1,V⟩=Y (Z s)/\W.cell? ⟨w.heap.size,2,V⟩=Y (O a2 m2 c2)/\W.cell? ⟨w.heap.size+1,0,V⟩=Y (O t x u)/\W.cell? ⟨w.heap.size+1,1,V⟩=Y (Z y)/\W.cell? ⟨w.heap.size+1,2,V⟩=Y (O d i f)/\W.cell? ⟨j,0,V⟩=Y (N M way)) ((repeat' (with_reducible refine And.intro ?_ ?_))<;>(first|(go_simp;done)|(refine hx1.d ?_;go_simp;done))) (((go_at_call 21;(with_reducible refine(Mi _ (J #[O t x u,Z y,O d i f]) (J #[O a m c,Z s,O a2 m2 c2]) q p ?_ ?_ K.o z.o).mono ?_);(refine hb.ext ?_;exact eA);(refine R.ext ?_;exact eA);rintro e w1 ⟨rfl,hx1⟩;obtain⟨⟨r,ag⟩,ac,ad,ae⟩:=oc w hx1;(have ah:=hx1.lt (n:=j) (by simp only[wZ,Tb];omega)))))
  all_goals go_wp2
  exact bR (v:=J #[O t x u,Z y,O d i f]) (by simp[results,Tryz.results182,go_sem,r]) rfl ⟨_,rfl,La.keep (w:=w1) (hR.ext eA) kA,eA⟩
 ·have af:(Pb q p==way)=false:=by simpa using l
  have hR:La w (J #[O a m c,Z s,O a2 m2 c2]) (Qb way p q):=by unfold Qb;first|(rw[if_pos l];exact hb)|(rw[if_neg l];exact R)
  clear l;go_in;go_wp2;go_region_held3 (fun W=>W.cell? ⟨w.heap.size,0,V⟩=Y (O a m c)/\W.cell? ⟨w.heap.size,1,V⟩=Y (Z s)/\W.cell? ⟨w.heap.size,2,V⟩=Y (O a2 m2 c2)/\W.cell? ⟨w.heap.size+1,0,V⟩=Y (O t x u)/\W.cell? ⟨w.heap.size+1,1,V⟩=Y (Z y)/\W.cell? ⟨w.heap.size+1,2,V⟩=Y (O d i f)/\W.cell? ⟨j,0,V⟩=Y (N M way)) ((repeat' (with_reducible refine And.intro ?_ ?_))<;>(first|(go_simp;done)|(refine hx1.d ?_;go_simp;done))) (((go_at_call 21;(with_reducible refine(Mi _ (J #[O t x u,Z y,O d i f]) (J #[O a m c,Z s,O a2 m2 c2]) q p ?_ ?_ K.o z.o).mono ?_);(refine hb.ext ?_;exact eA);(refine R.ext ?_;exact eA);rintro e w1 ⟨rfl,hx1⟩;obtain⟨⟨r,ag⟩,ac,ad,ae⟩:=oc w hx1;(have ah:=hx1.lt (n:=j) (by simp only[wZ,Tb];omega)))))
  all_goals go_wp2
  exact bR (v:=J #[O a m c,Z s,O a2 m2 c2]) (by simp[results,Tryz.results182,go_sem,r]) rfl ⟨_,rfl,La.keep (w:=w1) (hR.ext eA) kA,eA⟩
def AM(w:X)(way:Int)(d:List Rat)(g:Nat)(e:I)(W:X):Prop:=
 ∃i:Nat,i<=d.length/\e=N M i/\g=d.length-i/\oa w W/\RB W w.heap.size 0/\RB W (w.heap.size+1) (Za way (d.take i))
def EG(w:X)(v:I)(d:List Rat)(way:Int)(bw:Nat)(hs:Wf w v d)(hb:∀q∈d,Rb Yb q)(hw:w.cell? ⟨bw,0,V⟩=Y (N M way)):Calls Tryz.prog 181 #[v,.func (.func 182) #[] #[.pointer (Y ⟨bw,0,V⟩)]] w (Id w (Za way d)):=by
 obtain⟨a,c,rfl⟩:=hs.form;obtain⟨n,hn⟩:=gX d.length;rw[hn]at hs ⊢;have z:=hs.le;unfold maxLen at z;have f:=ia hn;have Hb:=ia hb;have zw:bw<w.heap.size:=World.block_lt_of_cell? w _ hw;have ap:n<=9223372036854775807:=oM;clear hn hb z;go_in;go_wp2;go_loopg [10] n (AM w way d)
 case atStart =>
  refine⟨0,by omega,rfl,by rw[f.o];rfl,eA,RB.ext (W:=w.alloc (C #[O V 0 0,Z false,O V 0 0] 43)) (RB.new (La.zero _) rfl) eA,RB.new (La.zero _) sM⟩
 case round =>
  obtain⟨i,hi,rfl,rfl,hx,hR,hO⟩:=hrel;rw[f.o]at hi;have Hx:=ia hx;obtain⟨a0,m0,c0,s0,ak,ar,al,r0,r1,r2,ax,ay,az,zr,aq⟩:=hR.rd;obtain⟨a1,m1,c1,s1,t,ac,u,o0,o1,o2,au,av,aw,zo,r⟩:=hO.rd;by_cases ah:i<n
  ·obtain⟨x,p⟩:∃x,d[i]?=Y x:=⟨d[i]'(by rw[f.o];omega),by simp[f.o,ah]⟩;obtain⟨b,o,a3,m3,c3,s3,a4,m4,c4,rfl,am,ab,e0,e1,e2⟩:=(hs.i hx).at' p;have l:=ia p;clear p;by_cases h0:i=0
   ·(have af:((i:Int)==0)=true:=by simp;omega);have H0:=ia h0;clear h0;go_wp2;go_roundg (n-(i+1))
    case measure=>have:=f.o;omega
    case rel =>
     have j:=hO.not;have e:Za way (d.take (i+1))=x:=by
      have:=H0.o;subst this;rw[Xf _ _ _ l.o];simp[Za]
     exact⟨i+1,by have:=f.o;omega,by go_num,by rw[f.o],eA,
      (((hR.other dO j _).other dO (j.set _ _) _).other dO ((j.set _ _).set _ _) _).ext ((eR _).alloc _),
      by rw[e];exact(hO.put ab).ext ((eR _).alloc _)⟩
   ·(have af:((i:Int)==0)=false:=by simp;omega);have H0:=ia h0;have ad:zc (Rb Yb (Za way (d.take i))):=ia (MI way _ _ (fun q hq=>Hb.o q (List.mem_of_mem_take hq)) (Rb.zero dM));have ae:zc (Rb Yb x):=ia (Hb.o x (lM l.o));clear h0;go_wp2_with(((go_at_call 182;(with_reducible refine(LK _ (J #[O a1 m1 c1,Z s1,O t ac u]) (J #[O a3 m3 c3,Z s3,O a4 m4 c4]) (Za way (d.take i)) x way bw ?_ ?_ ad.o ae.o ?_).mono ?_);(refine r.ext ?_;exact eA);(refine ab.ext ?_;exact eA);(refine oa.d (a:=w) ?_ hw;exact eA);rintro e w1 ⟨r1,rfl,K,R⟩;obtain⟨b1,n1,k1,t1,b2,n2,k2,rfl⟩:=K.form;obtain⟨⟨an,ao⟩,ai,aj⟩:=Oi w R)));go_roundg (n-(i+1))
    case measure=>have:=f.o;omega
    case rel =>
     have aa:oa wr w1:=((eR wr).alloc _).trans R;have y:=hO.ext aa;have ag:=hR.ext aa;have j:=y.not;have e:Za way (d.take (i+1))=Qb way (Za way (d.take i)) x:=by
      rw[Xf _ _ _ l.o,lJ];intro h;(have h2:(d.take i).length=0:=by rw[h];rfl);rw[List.length_take,f.o]at h2;have:=H0.o;omega
     exact⟨i+1,by have:=f.o;omega,by go_num,by rw[f.o],eA,
      (((ag.other dO j _).other dO (j.set _ _) _).other dO ((j.set _ _).set _ _) _),
      by rw[e];exact y.put K⟩
  ·obtain rfl:i=n:=oM;have e:Za way (d.take i)=Za way d:=by rw[lT (by rw[f.o];omega)]
   rw[e]at r;clear e;have j:=hR.not;go_wp2;exact bR (v:=J #[O a1 m1 c1,Z s1,O t ac u]) (by simp[results,Tryz.results181,go_sem,r0,r1,r2]) rfl ⟨_,rfl,r.keep kA,eA⟩
def DA(w:X)(v:I)(f:List Rat)(way:Int)(j:Wf w v f)(r:∀q∈f,Rb Yb q):Calls Tryz.prog 119 #[v,N M way] w (Id w (Za way f)):=by obtain⟨a,c,rfl⟩:=j.form;have aa:∀(p:Fn)(first cap:Array I)(w:X),(Instr.makeFunc p first cap).run Tryz.prog w = .ok (.func p first cap) w:=fun _ _ _ _=>rfl;have y:=ia r;obtain⟨n,t⟩:=gX f.length;rw[t]at j ⊢;clear r t;go_in;go_wp2_with(((go_at_call 181;(with_reducible refine(EG _ (O a n c) f way w.heap.size ?_ y.o ?_).mono ?_);(refine j.i ?_;exact eA);(focus(go_simp;done));rintro e w1 ⟨r1,rfl,d,l⟩;obtain⟨z,n1,k1,t1,K,n2,k2,rfl⟩:=d.form;obtain⟨⟨i,R⟩,u,x⟩:=Oi w l)));exact bR (v:=J #[O z n1 k1,Z t1,O K n2 k2]) (by simp[results,Tryz.results119,go_sem,i]) rfl ⟨_,rfl,d.keep kA,eA⟩
def Ro(w:X)(v:I)(f:List Rat)(j:Wf w v f)(p:∀q∈f,Rb Yb q):Calls Tryz.prog 92 #[v] w (Id w (Za (-1) f)):=by obtain⟨a,c,rfl⟩:=j.form;have u:=ia p;obtain⟨n,r⟩:=gX f.length;rw[r]at j ⊢;clear p r;go_in;go_wp2_with(((go_at_call 119;(with_reducible refine(DA _ (O a n c) f (-1) ?_ u.o).mono ?_);(refine j.i ?_;exact eA);rintro e w1 ⟨r1,rfl,d,l⟩;obtain⟨x,n1,K,t1,y,n2,R,rfl⟩:=d.form;obtain⟨⟨i,z⟩,t⟩:=Jf w l)));exact bR (v:=J #[O x n1 K,Z t1,O y n2 R]) (by simp[results,Tryz.results92,go_sem,i]) rfl ⟨_,rfl,d.keep kA,eA⟩
def So(w:X)(v:I)(f:List Rat)(j:Wf w v f)(p:∀q∈f,Rb Yb q):Calls Tryz.prog 49 #[v] w (Id w (Za (1) f)):=by obtain⟨a,c,rfl⟩:=j.form;have u:=ia p;obtain⟨n,r⟩:=gX f.length;rw[r]at j ⊢;clear p r;go_in;go_wp2_with(((go_at_call 119;(with_reducible refine(DA _ (O a n c) f (1) ?_ u.o).mono ?_);(refine j.i ?_;exact eA);rintro e w1 ⟨r1,rfl,d,l⟩;obtain⟨x,n1,K,t1,y,n2,R,rfl⟩:=d.form;obtain⟨⟨i,z⟩,t⟩:=Jf w l)));exact bR (v:=J #[O x n1 K,Z t1,O y n2 R]) (by simp[results,Tryz.results49,go_sem,i]) rfl ⟨_,rfl,d.keep kA,eA⟩
def mm(_:Nat)(p:Prop):Prop:=p
def sN(k:Nat){p:Prop}(h:mm k p):p:=h
def oN{k:Nat}{p:Prop}(h:p):mm k p:=h
def NQ(Q:Exit->A->X->Prop):Exit->A->X->Prop
 | .normal,a,w=>Q .normal a w
 | _,_,_=>False
def Yv{Q:Exit->A->X->Prop}:¬LetsOut (NQ Q):=fun⟨_,_,h⟩=>h
def fg(ops:Array Oper):Bool:=ops.all fun o=>match o.op with | .defer _=>false|_=>true
def XJ{ops:Array Oper}(h:fg ops=true){i:Nat}{o:Oper}(f:ops[i]?=Y o):∀c,o.op ≠ .defer c:=by intro c d;unfold fg at h;rw[Array.all_eq_true]at h;obtain⟨e,rfl⟩:=Array.getElem?_eq_some_iff.1 f;have:=h i e;rw[d]at this;cases this
def KH{l n:Nat}{P:Program}{row:String}{args:Array I}{w:X}{R:I->X->Prop}(h:Rows P row args w R):RowsIn (Fence.wide.inRound l) n P row args w R:=by intro c cs _;obtain⟨v,w',r,s⟩:=h c cs;exact⟨v,w',r,stepsIn_wide.2 s⟩
def WJ{l n:Nat}{P:Program}{o:Oper}{a:A}{w:X}{K:A->X->Prop}{Q:Exit->A->X->Prop}(p:∀c,o.op ≠ .defer c)(h:o.wp P a w K (NQ Q)):o.wpIn (Fence.wide.inRound l) n P a w K Q:=by
 refine⟨fun _ _=>trivial,?_⟩;rw[Oper.semAt_plain _ _ _ p];unfold Oper.wp at h;generalize (execOp a.eval o).run P w=r at *
 have i:(Fence.wide.inRound l).depth.isSome=true->1<=n:=fun h=>by cases h
 cases r with
 | ok x w' =>
  cases x with
  | value u=>exact h
  | skip=>exact h
  | defer d=>exact h
  | enter f args =>
   refine⟨i,CallsIn.inRound l (callsIn_wide.2 (cM h fun e t j=>?_))⟩;cases e with
   | returned u=>exact j
   | panicked c=>exact j.elim
   | outgrown=>exact(Yv j).elim
  | row row args=>exact⟨i,KH h⟩
  | _=>exact h.elim
 | halt x w' =>
  cases x<;>first|exact h.elim|skip
def Xn{l n:Nat}{P:Program}{md:Region.Mode}{ops:Array Oper}{Q:Exit->A->X->Prop}(f:fg ops=true):∀(fuel:Nat)(d:Array Bool)(a:A)(w:X),wpAny P md ops (NQ Q) fuel d a w->wpAnyIn (Fence.wide.inRound l) n P md ops Q fuel d a w
 | 0,_,_,_,h=>h
 | fuel+1,d,a,w,h=>by
  refine⟨h.1,fun i r=>?_⟩;have e:=h.2 i r;unfold wpOp at e;unfold wpOpIn;cases ho:ops[i]? with
  | none=>rw[ho]at e;exact Xn f fuel _ a w e
  | some o =>
   rw[ho]at e;dsimp only at e ⊢;split
   ·rename_i hw;rw[if_pos hw]at e;rcases e with e|⟨_,e⟩
    ·exact Oper.wpIn_mono (fun j w' p=>Xn f fuel _ j w' p) (WJ (XJ f ho) e)
    ·exact(Yv e).elim
   ·rename_i hw;rw[if_neg hw]at e;exact⟨fun _ _=>trivial,Xn f fuel _ _ w e⟩
def Gs{l n:Nat}{P:Program}{ops:Array Oper}{Q:Exit->A->X->Prop}{S:X->Prop}{i:Nat}{a:A}{w:X}(f:P.follows .mixedOrders=true)(e:fg ops=true)(d:S w.drew)(h:S w.drew->wpAnyH P .any ops (NQ Q) S ops.size (Array.replicate ops.size false) a w.drew):(Code.region i ops true).wpIn (Fence.wide.inRound l) n P Q a w:=
 wpIn_region_any f (Xn e _ _ _ _ (wpAny_of_held _ _ _ _ (h d)))
end
section
open Go.RowKit Go.Shelf Go.Sort
def pB{α:Type}[Inhabited α](enc:α->List I){k:Nat}(hk:∀x,(enc x).length=k)(d:Array α):(flatK enc k d).toList=(d.toList.map enc).flatten:=by
 have f:∀c∈d.toList.map enc,c.length=k:=fun c y=>by obtain⟨x,_,rfl⟩:=List.mem_map.1 y;exact hk x
 apply List.ext_getElem?;intro t;by_cases l:t<d.size*k
 ·have i:0<k:=by
   rcases Nat.eq_zero_or_pos k with h|h
   ·subst h;simp at l
   ·exact h
  have u:t/k<d.size:=by rw[Nat.div_lt_iff_lt_mul i];exact l
  have p:t%k<k:=Nat.mod_lt _ i;have e:(d.toList.map enc)[t/k]?=Y (enc d[t/k]!):=by
   rw[lP,Array.getElem?_toList,Array.getElem?_eq_getElem u,Option.map_some,getElem!_pos d _ u]
  have r:=mo (j:=t%k) f e p;rw[show t/k*k+t%k=t by rw[Nat.mul_comm];exact Nat.div_add_mod t k]at r;rw[r,Array.getElem?_toList,Array.getElem?_eq_getElem (by simpa using l)];rw[<-getElem!_pos (flatK enc k d) t (by simpa using l),get_flatK enc k d t l,gE (by rw[hk];exact p),getElem!_pos _ _ (by rw[hk];exact p)]
 ·rw[List.getElem?_eq_none (by simp;omega),List.getElem?_eq_none (by rw[yk f];simp;omega)]
def YE{α:Type}[Inhabited α]{enc:α->List I}{k:Nat}{w:X}{g m:Nat}{os:Array Obj}{cur:Array I}{e:TypeId}{fr:Nat×Nat}(d:Array α)(hb:w.heap[g]?=Y (C cur e fr)):(sortWorldK enc k w g 0 m d os).heap[g]?=Y (C (putCells id 0 (flatK enc k d) cur) e fr):=by have f:g<w.heap.size:=(Array.getElem?_eq_some_iff.1 hb).1;unfold sortWorldK putRowK;rw[heap_grow_old _ _ (by simpa using f)];simp[putRow,mapBlock,Sort.ahead,Array.getElem?_modify,hb,onCells]
def lr{α:Type}[Inhabited α]{enc:α->List I}{k:Nat}{w:X}{g m:Nat}{os:Array Obj}(d:Array α):w.grownBy (sortWorldK enc k w g 0 m d os) (Y g):=by unfold sortWorldK putRowK;refine⟨rfl,rfl,rfl,by simp,fun j i f=>?_⟩;rw[heap_grow_old _ _ (by simpa using i)];have:g≠j:=fun e=>f (by rw[e]);simp[putRow,mapBlock,Sort.ahead,Array.getElem?_modify,this]
def EJ(cur F:Array I)(h:F.size<=cur.size):(putCells id 0 F cur).toList.take F.size=F.toList:=by
 apply List.ext_getElem?;intro j;by_cases d:j<F.size
 ·rw[List.getElem?_take_of_lt d,Array.getElem?_toList];simp[putCells,d,show j<cur.size by omega]
 ·rw[List.getElem?_take_eq_none oM,List.getElem?_eq_none (by simp;omega)]
def IA{α:Type}[Inhabited α]{enc:α->List I}{T:TypeId}{k:Nat}{w:X}{base g n cap m:Nat}{os:Array Obj}(hk:∀x,(enc x).length=k){d d':Array α}(h:Ga T k w base (O (Y ⟨g,0,V⟩) n cap) (d.toList.map enc))(hs:d'.size=d.size):Ga T k (sortWorldK enc k w g 0 m d' os) base (O (Y ⟨g,0,V⟩) n cap) (d'.toList.map enc):=by
 have i:∀c∈d'.toList.map enc,c.length=k:=fun c u=>by obtain⟨x,_,rfl⟩:=List.mem_map.1 u;exact hk x
 have K:=h.len;have e:(d'.toList.map enc).length=(d.toList.map enc).length:=by simp[hs]
 subst K;refine⟨i,yk i,?_⟩;rcases h.2.2 with ⟨t,_⟩|⟨g',p,cur,hv,y,z,j,l,f,R⟩
 ·cases t
 ·cases hv;have r:(flatK enc k d').size=(d'.toList.map enc).length*k:=sM;refine .inr ⟨g,cap,_,by rw[e],y,YE d' z,by rw[e];exact j,l,by simp[putCells,f],?_⟩;rw[<-pB enc hk d',<-r,EJ _ _ (by rw[r,e,f];exact Nat.mul_le_mul_right _ j)]
def oB{α:Type}[Inhabited α]{enc:α->List I}{T:TypeId}{k:Nat}{w:X}{base g n cap:Nat}(hk:∀x,(enc x).length=k){d:Array α}(h:Ga T k w base (O (Y ⟨g,0,V⟩) n cap) (d.toList.map enc)):HoldsK enc k w g 0 d:=by intro t e;rw[size_flatK]at e;have i:=h.len;have f:(d.toList.map enc).length=d.size:=sM;subst i;refine⟨?_,by rw[Nat.zero_add];exact h.frozen t⟩;rw[Nat.zero_add,World.ownsRow.cellAt h.2 t (by rw[f];exact e),<-pB enc hk d,Array.getElem?_toList,Array.getElem?_eq_getElem (by rw[size_flatK];exact e),getElem!_pos _ _ (by rw[size_flatK];exact e)];rfl
end
section
open Go.ChangeShapes Go.WideShapes Go.Deep
section
variable {H:Type} {enc:TypeId×Value->H} {P:Program} {w:World} {spare:Nat->Bool} {held:Bool}
def Sx{k:Nat}:∀{e:List (List Value)}{j:Nat}{x:Value},0<k->(∀c∈e,c.length=k)->e.flatten[j]?=some x->∃d,e[j/k]?=some d/\d[j%k]?=some x
 | [],j,x,_,_,h=>by simp at h
 | c::e,j,x,hk,hc,h=>by
  have r:c.length=k:=hc c sM;rw[List.flatten_cons]at h;by_cases i:j<k
  ·rw[List.getElem?_append_left oM]at h;rw[Nat.div_eq_of_lt i,Nat.mod_eq_of_lt i];exact⟨c,rfl,h⟩
  ·rw[List.getElem?_append_right oM,r]at h;obtain⟨d,l,p⟩:=Sx (j:=j-k) hk (fun c f=>hc c (mC _ f)) h;rw[Nat.div_eq_sub_div hk oM,Nat.mod_eq_sub_mod oM];exact⟨d,by simpa using l,p⟩
def NA{t e:TypeId}{k fuel:Nat}{cs:List Value}{x:DataW H×List MemPlace}(ht:P.underlying t=some (.slice e))(hk:P.cellsOf e=k)(K:0<k)(h:DataW.trod enc P w 0 spare held fuel t cs=some x):∃(a:Option Addr)(n c:Nat)(T:TypeId)(u:List (List Value)),cs=[.slice a n c]/\u.length=n/\(∀d∈u,d.length=k)/\Rd w T k (.slice a n c) n u.flatten/\∀d∈u,∃m y,DataW.trod enc P w 0 spare held m e d=some y:=by
 rcases open_slice ht h with ⟨rfl,_⟩|⟨a,len,cap,m,f,D,Pl,rfl,_,hl,hm,ac,_,ab⟩
 ·exact⟨none,0,0,0,[],rfl,rfl,by simp,Rd.nil w 0 k,by simp⟩
 ·have ag:len<=m:=by rw[ac];split<;>omega
  rw[hk]at ab;obtain⟨F,hF⟩:=choose_lt (α:=List Value) (n:=len) (p:=fun i d=>w.cells? 0 (a.add (i*k)) k=some d/\DataW.trod enc P w 0 spare held f e d=some (D i,Pl i)) (fun i r=>ab i oM);have l:∀d∈(List.range len).map F,d.length=k:=by
   intro d hd;obtain⟨i,r,rfl⟩:=List.mem_map.1 hd;exact(World.cells?_some (hF i (List.mem_range.1 r)).1).2.1
  have aa:∀d∈(List.range len).map F,∃m y,DataW.trod enc P w 0 spare held m e d=some y:=by
   intro d hd;obtain⟨i,r,rfl⟩:=List.mem_map.1 hd;exact⟨f,_,(hF i (List.mem_range.1 r)).2⟩
  by_cases h0:len=0
  ·subst h0;exact⟨some a,0,cap,0,[],rfl,rfl,by simp,⟨by simp,some a,cap,rfl,hl,hm,.inl ⟨rfl,fun e=>by cases e⟩⟩,by simp⟩
  ·have R:=(World.cells?_some (hF 0 oM).1).2.2 0 K;have af:=l (F 0) (List.mem_map.2 ⟨0,List.mem_range.2 oM,rfl⟩);obtain⟨v0,ae⟩:∃v,(F 0)[0]?=some v:=⟨(F 0)[0]' oM,by simp⟩;rw[ae]at R;obtain⟨b,o,sp⟩:=a;have ad:sp=none:=by
    have:=World.cell?_spot R;simpa[Addr.add] using this
   subst ad;have e0:((⟨b,o,none⟩:Addr).add (0*k)).add 0=⟨b,o,none⟩:=by simp[Addr.add]
   rw[e0]at R;obtain⟨blk,T,fr,z⟩:∃blk T fr,w.heap[b]?=some (.cells blk T fr):=by
    unfold World.cell? at R;split at R
    ·rename_i blk T fr hb;exact⟨blk,T,fr,hb⟩
    ·cases R
   refine⟨some ⟨b,o,none⟩,len,cap,T,(List.range len).map F,rfl,by simp,l,⟨?_,some ⟨b,o,none⟩,cap,rfl,hl,hm,.inr ⟨b,o,blk,fr,rfl,z,fun j y hj=>?_⟩⟩,aa⟩
   ·rw[yk l];simp
   ·obtain⟨d,h1,h2⟩:=Sx K l hj;obtain⟨r,rfl⟩:j/k<len/\F (j/k)=d:=by
     rw[lP]at h1;by_cases r:j/k<len
     ·rw[List.getElem?_range r]at h1;exact⟨r,Option.some.inj h1⟩
     ·rw[List.getElem?_eq_none (by simpa using r)]at h1;cases h1
    have c1:=(World.cells?_some (hF (j/k) r).1).2.2 (j%k) (Nat.mod_lt _ K);rw[h2]at c1;have e1:((⟨b,o,none⟩:Addr).add (j/k*k)).add (j%k)=⟨b,o+j,none⟩:=by
     rw[add_add];(have:j/k*k+j%k=j:=by rw[Nat.mul_comm];exact Nat.div_add_mod j k);rw[this];unfold Addr.add;split
     ·rename_i h;rw[h];rfl
     ·rfl
    rw[e1]at c1;simpa[World.cell?,z] using c1
end
end
section
open Go.RowKit Go.Shelf
def Lf(md:Region.Mode)(ops:Array Oper)(j:Nat):List Nat:=match ops[j]? with|some o=>(o.after.toList.filter (Region.binds md)).map (·.on)|none=>[]
def yj(md:Region.Mode)(ops:Array Oper):Nat->Nat->List Nat
 | 0,j=>Lf md ops j
 | n+1,j=>Lf md ops j++(Lf md ops j).flatMap (yj md ops n)
def Qg(md:Region.Mode)(ops:Array Oper)(late:Nat->Bool)(n:Nat):Bool:=
 (List.range ops.size).all fun j=>!late j || ((List.range ops.size).all fun i=>late i || (yj md ops n j).contains i)
def Cl(md:Region.Mode)(ops:Array Oper)(d:Array Bool):Prop:=∀k o,ops[k]?=Y o->d.getD k false=true->∀e∈o.after,Region.binds md e=true->d.getD e.on false=true
section
variable {n:Nat} {P:Program} {ops:Array Oper} {Q:Exit->A->X->Prop} {md:Region.Mode} {S:X->Prop} {late:Nat->Bool}
def Yu{d:Array Bool}{j:Nat}(h:∀o,ops[j]?=Y o->∀e∈o.after,Region.binds md e=true->d.getD e.on false=true):∀k∈Lf md ops j,d.getD k false=true:=by
 intro k f;unfold Lf at f;cases ho:ops[j]? with
 | none=>rw[ho]at f;cases f
 | some o =>
  rw[ho]at f;obtain⟨e,p,rfl⟩:=List.mem_map.1 f;obtain⟨i,l⟩:=List.mem_filter.1 p;exact h o ho e (by simpa using i) l
def Xr{d:Array Bool}(l:Cl md ops d):∀(n j:Nat),(∀o,ops[j]?=Y o->∀e∈o.after,Region.binds md e=true->d.getD e.on false=true)->∀k∈yj md ops n j,d.getD k false=true
 | 0,j,h=>Yu h
 | n+1,j,h=>by
  intro k f;rcases List.mem_append.1 f with f|f
  ·exact Yu h k f
  ·obtain⟨i,r,f⟩:=List.mem_flatMap.1 f;have p:=Yu h i r;exact Xr l n i (fun o t=>l i o t p) k f
def QB{d:Array Bool}{m i j:Nat}(x:Qg md ops late m=true)(R:Cl md ops d)(hi:i∈Region.ready md ops d)(hl:late i=false)(hj:j∈Region.ready md ops d):late j=false:=by
 cases hlj:late j with
 | false=>rfl
 |true=>
  exfalso;obtain⟨z,oj,l,f⟩:=mem_ready.1 hj;obtain⟨e,oi,y,_⟩:=mem_ready.1 hi;unfold Qg at x;rw[List.all_eq_true]at x;have r:=x j (List.mem_range.2 (Array.getElem?_eq_some_iff.1 l).1);rw[hlj]at r;simp only[Bool.not_true,Bool.false_or,List.all_eq_true]at r;have t:=r i (List.mem_range.2 (Array.getElem?_eq_some_iff.1 y).1);rw[hl]at t;simp only[Bool.false_or,List.contains_eq_mem,decide_eq_true_eq]at t;have u:=Xr R m j (fun o K=>by rw[l]at K;cases K;exact f) i t;rcases Nat.lt_or_ge i d.size with p | p
  ·simp[p]at u e;rw[u]at e;cases e
  ·simp[Array.getElem?_eq_none p]at u
def Cl.step{d:Array Bool}(z:Cl md ops d){j:Nat}(K:j∈Region.ready md ops d):Cl md ops (d.setIfInBounds j true):=by
 intro k o y x e u t;have key:d.getD e.on false=true->(d.setIfInBounds j true).getD e.on false=true:=by
  intro h;by_cases r:e.on=j
  ·subst r;rcases Nat.lt_or_ge e.on d.size with p | p
   ·simp[p]
   ·simp[Array.getElem?_eq_none p]at h
  ·rw[getD_set_ne false (Ne.symm r)];exact h
 by_cases i:k=j
 ·subst i;obtain⟨_,R,l,f⟩:=mem_ready.1 K;rw[y]at l;cases l;exact key (f e u t)
 ·rw[getD_set_ne false (Ne.symm i)]at x;exact key (z k o y x e u t)
def Cl.start(m:Nat):Cl md ops (Array.replicate m false):=by intro k o _ d;simp[Array.getD_eq_getD_getElem?,Array.getElem?_replicate]at d;split at d<;>simp at d
def oC{i:Nat}{o:Oper}{v:I}{a:A}(hi:ops[i]?=Y o)(j:YieldsIf P ops S o v a){K:A->X->Prop}{w:X}(f:S w)(h:K (a.put o.dst v) w):wpOpIn Fence.wide n P ops Q i K a w:=by
 unfold Go.wpOpIn;simp only[hi];have d:Fence.wide.round=V:=rfl;rcases j with ⟨e,hv⟩|⟨e,rfl⟩
 ·simp only[e,if_true,Oper.wpIn,d,Oper.semAt_none,hv w f,Oper.uponIn];exact⟨fun _ _=>trivial,h⟩
 ·simp only[e,Bool.false_eq_true,if_false];exact⟨fun _ _=>trivial,h⟩
def NK{j:Nat}{oi t:Oper}{v:I}(hj:ops[j]?=Y t)(ab:oi.apart ops t=true)(ac:∀cs b,oi.op ≠ .select cs b)(ad:∀cs b,t.op ≠ .select cs b)(hQ:∀c a w,Q (.panic c) (a.put oi.dst v) w->Q (.panic c) a w){K:A->X->Prop}{a:A}{w:X}(p:YieldsIf P ops S oi v a)(h:wpOpIn Fence.wide n P ops Q j K (a.put oi.dst v) w):wpOpIn Fence.wide n P ops Q j (fun a' w'=>YieldsIf P ops S oi v a'/\K (a'.put oi.dst v) w') a w:=by
 obtain⟨h1,y,h3⟩:=Oper.apart_spec ab;have R:Fence.wide.round=V:=rfl;have keep:∀(a:A),YieldsIf P ops S oi v a->∀u,YieldsIf P ops S oi v (a.put t.dst u):=fun a p u =>
  p.of_same (execOp_put oi ac a t.dst u h3) (wanted_put oi a t.dst u h3)
 have z:∀d,YieldsIf P ops S oi v { a with defers:=d::a.defers }:=fun d=>p.of_same rfl rfl;unfold wpOpIn at *;simp only[hj]at *;rw[wanted_put t a oi.dst v h1]at h;split
 ·rename_i hw;simp only[hw,if_true]at h;unfold Oper.wpIn at *;refine⟨fun _ _=>trivial,?_⟩;have h:=h.2;rw[R,Oper.semAt_none,execOp_put t ad a oi.dst v h1]at h;rw[R,Oper.semAt_none];generalize (execOp a.eval t).run P w=r at *
  cases r with
  | ok x w' =>
   cases x<;>simp only[Oper.uponIn]at h ⊢
   case value u=>exact⟨keep a p u,by rw[<-Act.put_comm a v u y];exact h⟩
   case skip=>exact⟨keep a p _,by rw[<-Act.put_comm a v undef y];exact h⟩
   case defer d =>
    refine⟨keep _ (z d) _,?_⟩;rw[<-Act.put_comm _ v undef y,<-Act.put_defers];exact h
   case enter f args =>
    refine⟨h.1,CallsIn.mono h.2 fun e aa i=>?_⟩;cases e with
    | returned u=>exact⟨keep a p u,by rw[<-Act.put_comm a v u y];exact i⟩
    | panicked c=>exact hQ _ _ _ i
    | outgrown=>exact i
   case row row args=>exact⟨h.1,RowsIn.mono h.2 fun u aa i=>⟨keep a p u,by rw[<-Act.put_comm a v u y];exact i⟩⟩
   case round l f tmps assign body =>
    refine⟨h.1,RoundIn.mono h.2 fun e aa i=>?_⟩;cases e with
    | returned u=>exact⟨keep a p u,by rw[<-Act.put_comm a v u y];exact i⟩
    | panicked c=>exact hQ _ _ _ i
    | outgrown=>exact i
  | halt x w' =>
   cases x<;>simp only[Oper.uponIn]at h ⊢
   case panic u=>exact hQ _ _ _ h
 ·rename_i hw;simp only[hw]at h;exact⟨fun _ _=>trivial,keep a p _,by rw[<-Act.put_comm a v undef y];exact h.2⟩
def HI(n:Nat)(P:Program)(md:Region.Mode)(ops:Array Oper)(Q:Exit->A->X->Prop)(S:X->Prop)(late:Nat->Bool):Nat->Array Bool->A->X->Prop
 | 0,d,a,w=>Region.ready md ops d=[]/\Q .normal a w
 | fuel+1,d,a,w =>
  (Region.ready md ops d=[]->Q .normal a w)/\
  ∀i∈Region.ready md ops d,wpOpIn Fence.wide n P ops Q i (fun e w'=>(late i=false->S w')/\HI n P md ops Q S late fuel (d.setIfInBounds i true) e w') a w
def gC:∀(fuel:Nat)(d:Array Bool)(a:A)(w:X),HI n P md ops Q S late fuel d a w->wpAnyIn Fence.wide n P md ops Q fuel d a w
 | 0,_,_,_,h=>h
 | fuel+1,_,_,_,h=>⟨h.1,fun i j=>wpOpIn_mono (fun e w' f=>gC fuel _ e w' f.2) (h.2 i j)⟩
def kG{m i:Nat}{oi:Oper}{v:I}(hg:Qg md ops late m=true)(af:late i=false)(hi:ops[i]?=Y oi)(u:∀(j:Nat)(o:Oper) cs b,ops[j]?=Y o->o.op ≠ .select cs b)(hQ:∀c a w,Q (.panic c) (a.put oi.dst v) w->Q (.panic c) a w):∀(fuel:Nat)(d:Array Bool)(a:A)(w:X),Cl md ops d ->(∀j oj,ops[j]?=Y oj->j≠i->d.getD j true=false->(∀e∈oj.after,Region.binds md e=true->e.on≠i)->oi.apart ops oj=true) ->i∈Region.ready md ops d->YieldsIf P ops S oi v a->S w ->HI n P md ops Q S late fuel (d.setIfInBounds i true) (a.put oi.dst v) w->HI n P md ops Q S late (fuel+1) d a w:=by
 intro fuel;induction fuel with
 |zero=>
  intro d a w hc _ t hy K H;refine⟨fun h=>(by rw[h]at t;cases t),fun j z=>?_⟩;by_cases f:j=i
  ·subst f;exact oC hi hy K ⟨fun _=>K,H⟩
  ·have:=ready_mono z f;rw[H.1]at this;cases this
 | succ fuel ih =>
  intro d a w hc l t hy K H;refine⟨fun h=>(by rw[h]at t;cases t),fun j z=>?_⟩;by_cases f:j=i
  ·subst f;exact oC hi hy K ⟨fun _=>K,H⟩
  ·have x:=H.2 j (ready_mono z f);have ag:=QB hg hc t af z;obtain⟨r,oj,y,R⟩:=mem_ready.1 z;have ab:∀e∈oj.after,Region.binds md e=true->e.on≠i:=fun e he hb ad=>by
    have x:=R e he hb;have h0:=(mem_ready.1 t).1;rw[ad]at x;rcases Nat.lt_or_ge i d.size with h' | h'
    ·simp[h']at h0 x;rw[h0]at x;cases x
    ·simp[Array.getElem?_eq_none h']at x
   have h2:=NK y (l j oj y f r ab) (fun cs b=>u i oi cs b hi) (fun cs b=>u j oj cs b y) hQ hy x;have p:∀k ok,ops[k]?=Y ok->k≠i->(d.setIfInBounds j true).getD k true=false ->
     (∀e∈ok.after,Region.binds md e=true->e.on≠i)->oi.apart ops ok=true:=fun k ok hk ae ac ah=>by
    refine l k ok hk ae ?_ ah;by_cases aa:j=k
    ·subst aa;exact r
    ·rw[getD_set_ne true aa]at ac;exact ac
   refine wpOpIn_mono (fun a' w' h3=>⟨h3.2.1,ih (d.setIfInBounds j true) a' w' (hc.step z) p (ready_mono t (Ne.symm f)) h3.1 (h3.2.1 ag) ?_⟩) h2;rw[Array.setIfInBounds_comm _ _ f];exact h3.2.2
def nl(n:Nat)(P:Program)(md:Region.Mode)(ops:Array Oper)(Q:Exit->A->X->Prop)(S:X->Prop)(late:Nat->Bool)(fuel:Nat)(d:Array Bool)(a:A)(w:X):Prop:=Cl md ops d->HI n P md ops Q S late fuel d a w
def Gn(n:Nat)(P:Program)(md:Region.Mode)(ops:Array Oper)(Q:Exit->A->X->Prop)(S:X->Prop)(late:Nat->Bool)(fuel:Nat)(d:Array Bool)(a:A)(w:X)(i:Nat)(oi:Oper):Prop:=
 ∃v,late i=false/\Region.noSelect ops=true/\Region.free md ops d i=true/\(Region.ready md ops d).contains i=true/\(∀c a w,Q (.panic c) (a.put oi.dst v) w->Q (.panic c) a w)/\YieldsIf P ops S oi v a/\S w/\
  nl n P md ops Q S late fuel (d.setIfInBounds i true) (a.put oi.dst v) w
def Zm{m:Nat}(y:Qg md ops late m=true){i:Nat}{oi:Oper}{fuel:Nat}{d:Array Bool}{a:A}{w:X}(hi:ops[i]?=Y oi)(h:Gn n P md ops Q S late fuel d a w i oi):nl n P md ops Q S late (fuel+1) d a w:=by
 obtain⟨v,j,l,p,r,t,u,h6,x⟩:=h;intro e;have f:i∈Region.ready md ops d:=by simpa using r
 exact kG y j hi (Region.noSelect_spec l) t fuel d a w e (Region.free_spec hi p) f u h6 (x (e.step f))
def Qn(n:Nat)(P:Program)(md:Region.Mode)(ops:Array Oper)(Q:Exit->A->X->Prop)(S:X->Prop)(late:Nat->Bool)(fuel:Nat)(d:Array Bool)(a:A)(w:X)(i:Nat)(o:Oper):Prop:=
 Region.ready md ops d=[i]/\∀K':A->X->Prop,Shut (∀a w,(late i=false->S w)->((late i=false->S w)->nl n P md ops Q S late fuel (d.setIfInBounds i true) a w)->K' a w) ->
  if Region.wanted o (yielded ops a.tmps)=true then Oper.wpIn Fence.wide n P o a w K' Q else K' (a.put o.dst undef) w
def An{i:Nat}{o:Oper}{fuel:Nat}{d:Array Bool}{a:A}{w:X}(hi:ops[i]?=Y o)(h:Qn n P md ops Q S late fuel d a w i o):nl n P md ops Q S late (fuel+1) d a w:=by
 obtain⟨r,h⟩:=h;intro y;refine⟨fun t=>absurd (r▸t) sM,fun j f=>?_⟩;have l:=f;rw[r]at f;cases List.mem_singleton.1 f;refine wpOpIn_step hi (fun K' u=>?_);have e:=h K' (fun a w p x=>u a w ⟨p,x p (y.step l)⟩);split
 ·rename_i hw;rw[if_pos hw]at e;exact e
 ·rename_i hw;rw[if_neg hw]at e;exact⟨fun _ _=>trivial,e⟩
def om{v:I}{i:Nat}{oi:Oper}{fuel:Nat}{d:Array Bool}{a:A}{w:X}{G:Prop}(h:G)(u:Qg md ops late 12=true:=by kernel_rfl)(hi:ops[i]?=Y oi:=by(simp only[gA,gS,gZ];rfl))(f:late i=false:=by rfl)(j:Region.noSelect ops=true:=by kernel_rfl)(l:Region.free md ops d i=true:=by kernel_rfl)(p:(Region.ready md ops d).contains i=true:=by kernel_rfl)(r:∀c a w,Q (.panic c) (a.put oi.dst v) w->Q (.panic c) a w:=by exact fun _ _ _ h=>h)(x:Region.wanted oi (yielded ops a.tmps)=true:=by rfl)(y:∀w,S w->(execOp a.eval oi).run P w = .ok (.value v) w:=by(intro w e;simp only[Ca,and_true]at e;go_simp;try(with_reducible rfl)))(h6:S w:=by(with_reducible assumption))(t:nl n P md ops Q S late fuel (d.setIfInBounds i true) (a.put oi.dst v) w=G:=by((try simp only[Act.put,sA,sZ,sS]);rfl)):nl n P md ops Q S late (fuel+1) d a w:=by subst t;exact Zm u hi ⟨v,f,j,l,p,r,Or.inl ⟨x,y⟩,h6,h⟩
def Ms{i:Nat}{o:Oper}{fuel:Nat}{d:Array Bool}{a:A}{w:X}(h:∀K':A->X->Prop,Shut (∀a w,(late i=false->S w)->((late i=false->S w)->nl n P md ops Q S late fuel (d.setIfInBounds i true) a w)->K' a w) ->if Region.wanted o (yielded ops a.tmps)=true then Oper.wpIn Fence.wide n P o a w K' Q else K' (a.put o.dst undef) w)(hi:ops[i]?=Y o:=by(simp only[gA,gS,gZ];rfl))(e:Region.ready md ops d=[i]:=by kernel_rfl):nl n P md ops Q S late (fuel+1) d a w:=An hi ⟨e,h⟩
def Kk{d:Array Bool}{a:A}{w:X}(e:Region.ready md ops d=[])(h:Q .normal a w):∀fuel,nl n P md ops Q S late fuel d a w
 | 0=>fun _=>⟨e,h⟩
 | _+1=>fun _=>⟨fun _=>h,by rw[e];simp⟩
def jL{f:Nat}{a:A}{w:X}(late:Nat->Bool)(S:X->Prop)(e:P.follows .mixedOrders=true)(d:S w.drew)(h:S w.drew->nl n P .any ops Q S late ops.size (Array.replicate ops.size false) a w.drew):(Code.region f ops true).wpIn Fence.wide n P Q a w:=
 wpIn_region_any e (gC _ _ _ _ (h d (Cl.start _)))
end
def PP(_:X)(c:List I)(p:Int×Int):Prop:=c=[N M p.1,N M p.2]
abbrev Aa(w:X)(v:I)(ps:LP):Prop:=Sl 55 2 PP w v ps
def Aa.i{w w':X}{v:I}{ps:LP}(h:Aa w v ps)(k:oa w w'):Aa w' v ps:=Sl.ext h (fun _ _ h=>h) k
def Aa.G{w w':X}{v:I}{ps:LP}(h:Aa w v ps)(k:Fa 55 w w'):Aa w' v ps:=Sl.keep h (fun _ _ h=>h) k
def Aa.at'{w:X}{a:Option Oa}{n c:Nat}{ps:LP}(h:Aa w (O a n c) ps){i:Nat}{p:Int×Int}(r:ps[i]?=Y p):∃b o,a=Y ⟨b,o,V⟩/\b<w.heap.size/\w.cell? ⟨b,o+i*2,V⟩=Y (N M p.1)/\w.cell? ⟨b,o+i*2+1,V⟩=Y (N M p.2):=by obtain⟨b,o,d,rfl,l,t,j,f⟩:=Sl.at h r;have e:d=[N M p.1,N M p.2]:=j;subst e;exact⟨b,o,rfl,l,f 0 _ rfl,f 1 _ rfl⟩
def ye(ps:LP)(i:Int):Int×Int:=ps.getD ((i+ps.length)%ps.length).toNat (0,0)
def Dt{ps:LP}{i:Int}(h:0<ps.length):∃k:Nat,k<ps.length/\(i+(ps.length:Int))%(ps.length:Int)=(k:Int)/\ps[k]?=Y (ye ps i):=by have d:=Int.emod_nonneg (i+ps.length) (show (ps.length:Int)≠0 by omega);have e:=Int.emod_lt_of_pos (i+ps.length) (show 0<(ps.length:Int) by omega);refine⟨((i+ps.length)%ps.length).toNat,by omega,by omega,?_⟩;unfold ye;rw[gD];have:((i+(ps.length:Int))%(ps.length:Int)).toNat<ps.length:=oM;simp only[gE this,Option.getD_some]
def Xv(w:X)(v:I)(ps:LP)(i:Int)(h:Aa w v ps)(r:0<ps.length)(hn:ps.length<=1000000)(hi:-(ps.length:Int)<=i)(u:i<=1000000):Calls Tryz.prog 198 #[v,N M i] w fun e w'=>e=.returned (J #[N M (ye ps i).1,N M (ye ps i).2])/\oa w w':=by
 obtain⟨a,c,rfl⟩:=h.form;obtain⟨k,K,R,d⟩:=Dt (i:=i) r;obtain⟨b,o,rfl,y,l,p⟩:=h.at' d;obtain⟨x,f⟩:=gX ((ye ps i).1);obtain⟨z,j⟩:=gX ((ye ps i).2);rw[f]at l ⊢;rw[j]at p ⊢;clear f j d h;generalize ps.length=n at *
 have u1:(0:Int)<=i+(n:Int):=oM;have u2:(0:Int)<(n:Int):=oM;have u3:(k:Int)<(n:Int):=oM;have t:b<w.heap.size+1:=oM;go_in;go_wp2;exact bR (v:=J #[N M x,N M z]) (by simp[results,Tryz.results198,go_sem]) rfl ⟨rfl,eA⟩
def Ab:LP->Int×Int
 | []=>(0,0)
 | p::ps=>ps.foldl (fun o q=>(min o.1 q.1,min o.2 q.2)) p
def SK(ps:LP)(q:Int×Int)(h:ps≠[]):Ab (ps++[q])=(min (Ab ps).1 q.1,min (Ab ps).2 q.2):=by
 cases ps with
 | nil=>exact absurd rfl h
 | cons p ps=>simp[Ab]
def Qs(w:X)(ps:LP)(g:Nat)(d:I)(W:X):Prop:=
 ∃i:Nat,i<=ps.length/\d=N M i/\g=ps.length-i/\oa w W/\W.heap[w.heap.size]?=Y (C #[N M 0,N M 0] 55 (0,0))/\
  ∃x z,(if i=0 then ps[0]?=Y (x,z)else Ab (ps.take i)=(x,z))/\W.heap[w.heap.size+1]?=Y (C #[N M x,N M z] 55 (0,0))
def RK{ps:LP}{i:Nat}{x z:Int}{q:Int×Int}(h:if i=0 then ps[0]?=Y (x,z)else Ab (ps.take i)=(x,z))(d:ps[i]?=Y q):Ab (ps.take (i+1))=(min x q.1,min z q.2):=by
 rw[Xf _ _ _ d];by_cases f:i=0
 ·subst f;rw[if_pos rfl]at h;rw[h]at d;cases d;simp[Ab]
 ·rw[if_neg f]at h;rw[SK _ _ (by
   intro e;have:=(lS.1 d).1;have j:(ps.take i).length=0:=by rw[e];rfl
   rw[List.length_take]at j;omega),h]
def Qs.step{w wr:X}{ps:LP}{i n:Nat}{x z qx d a b:Int}(r:ps.length=n)(p:i<n)(u:oa w wr)(f:wr.heap[w.heap.size]?=Y (C #[N M 0,N M 0] 55 (0,0)))(e:wr.heap[w.heap.size+1]?=Y (C #[N M x,N M z] 55 (0,0)))(hv:if i=0 then ps[0]?=Y (x,z)else Ab (ps.take i)=(x,z))(t:ps[i]?=Y (qx,d))(j:a=min x qx)(l:b=min z d):Qs w ps (n-(i+1)) (N M ((i:Int)+1)) (((wr.setCell ⟨w.heap.size+1,0,V⟩ (N M a)).setCell ⟨w.heap.size+1,1,V⟩ (N M b)).alloc (C #[N M qx,N M d] 55)):=by
 have y:=jc e;refine⟨i+1,by omega,by go_num,by rw[r],eA,?_,a,b,?_,?_⟩
 ·rw[Ef,if_neg (by simp only[sf];omega),bS _ _ _ _ dO,bS _ _ _ _ dO];exact f
 ·rw[if_neg oM,RK hv t,j,l]
 ·rw[Ef,if_neg (by simp only[sf];omega)];exact yl e _ _
def fA(w:X)(v:I)(ps:LP)(h:Aa w v ps)(h0:0<ps.length):Calls Tryz.prog 236 #[v] w fun e w'=>e=.returned (J #[N M (Ab ps).1,N M (Ab ps).2])/\oa w w':=by
 obtain⟨a,c,rfl⟩:=h.form;obtain⟨n,y⟩:=gX ps.length;rw[y]at h ⊢;have r:=h.le;unfold maxLen at r;have ac:0<n:=oM;have ad:n<=9223372036854775807:=oM;obtain⟨p,K⟩:∃p,ps[0]?=Y p:=⟨ps[0],by simp⟩;obtain⟨x0,z0⟩:=p;obtain⟨b,o,rfl,hb,c0,c1⟩:=h.at' K;simp only[Nat.zero_mul,Nat.add_zero]at c0 c1;have ab:b<w.heap.size+1:=oM;have d:=ia y;have Hp:=ia K;clear y r K h0;go_in;go_wp2;go_loopg [11] n (Qs w ps)
 case atStart =>
  refine⟨0,by omega,rfl,by rw[d.o];rfl,eA,by rw[Ef,if_neg sM];exact Kc _ _ _ rfl,x0,z0,by simpa using Hp.o,Kc _ _ _ sM⟩
 case round =>
  obtain⟨i,hi,rfl,rfl,hx,j,x,z,hv,f⟩:=hrel;rw[d.o]at hi;have r0:=ja j 0 (N M 0);have r1:=ja j 1 (N M 0);have ag:=Vb j 0;have ah:=Vb j 1;have o0:=ja f 0 (N M x);have o1:=ja f 1 (N M z);have ae:=Vb f 0;have af:=Vb f 1;have zr:=jc j;have zo:=jc f;have HR:=ia j;have HO:=ia f;have HV:=ia hv;clear j f hv c0 c1;by_cases t:i<n
  ·obtain⟨q,R⟩:∃q,ps[i]?=Y q:=⟨ps[i]'(by rw[d.o];omega),by simp[d.o,t]⟩;obtain⟨b',o',e',aa,d0,d1⟩:=(h.i hx).at' R;cases e';obtain⟨qx,qz⟩:=q;have Hq:=ia R;clear R;go_wp2
   all_goals
    go_roundg (n-(i+1))
    case measure=>have:=d.o;omega
    case rel =>
     exact Qs.step d.o t hx HR.o HO.o HV.o Hq.o oM oM
  ·obtain rfl:i=n:=oM;have l:=HV.o;rw[if_neg oM,lT (by rw[d.o];omega)]at l;have u:=ia l;clear l;go_wp2;refine bR (v:=J #[N M x,N M z]) (by simp[results,Tryz.results236,go_sem,r0,r1]) rfl ⟨?_,eA⟩;rw[u.o]
def NB(W:X)(b:Nat)(n:Int):Prop:=∃s a m c,W.heap[b]?=Y (C #[N M s,O a m c] 46 (0,0))/\Eg W (J #[N M s,O a m c]) n
section
variable {W W':X} {b b':Nat} {n n':Int}
def NB.ext(h:NB W b n)(k:oa W W'):NB W' b n:=by obtain⟨s,a,m,c,d,e⟩:=h;exact⟨s,a,m,c,k.e d,e.ext k⟩
def NB.not(h:NB W b n):Wc 3 W b:=by obtain⟨s,a,m,c,d,i⟩:=h;intro cs f e;rw[d]at e;cases e
def NB.rd(h:NB W b n):∃s a m c,s=n.sign/\W.cell? ⟨b,0,V⟩=Y (N M s)/\W.cell? ⟨b,1,V⟩=Y (O a m c)/\W.frozen? ⟨b,0,V⟩=false/\W.frozen? ⟨b,1,V⟩=false/\b<W.heap.size/\Eg W (J #[N M s,O a m c]) n:=by obtain⟨s,a,m,c,d,e⟩:=h;exact⟨s,a,m,c,e.sgn,Gb d (i:=0) rfl,Gb d (i:=1) rfl,Vb d 0,Vb d 1,jc d,e⟩
def NB.put{s:Int}{a:Option Oa}{m c:Nat}(h:NB W b n)(f:Eg W (J #[N M s,O a m c]) n'):NB ((W.setCell ⟨b,0,V⟩ (N M s)).setCell ⟨b,1,V⟩ (O a m c)) b n':=by have d:=h.not;obtain⟨r,i,p,j,e,l⟩:=h;exact⟨s,a,m,c,yl e _ _,f.keep (((Fa.refl _ W).D d _).D (d.set _ _) _)⟩
def NB.other{p:Oa}(h:NB W b n)(i:p.block≠b)(j:Wc 3 W p.block)(u:I):NB (W.setCell p u) b n:=by obtain⟨s,a,m,c,d,f⟩:=h;exact⟨s,a,m,c,(bS _ _ _ _ (fun e=>i e.symm)).trans d,f.keep ((Fa.refl _ W).D j _)⟩
def NB.new{d:X}{s:Int}{a:Option Oa}{m c:Nat}(f:Eg d (J #[N M s,O a m c]) n)(e:b=d.heap.size):NB (d.alloc (C #[N M s,O a m c] 46)) b n:=
 ⟨s,a,m,c,Kc _ _ _ e,f.ext ((eR _).alloc _)⟩
end
def Eg.neg{w:X}{s:Int}{a:Option Oa}{m c:Nat}{n:Int}(h:Eg w (J #[N M s,O a m c]) n):Eg w (J #[N M (-s),O a m c]) (-n):=by obtain⟨sl,ds,d,e,f,i⟩:=h;cases d;exact⟨_,ds,by rw[Int.sign_neg],e,f,by rw[Int.natAbs_neg];exact i⟩
def Eg.abs{w:X}{s:Int}{a:Option Oa}{m c:Nat}{n:Int}(h:Eg w (J #[N M s,O a m c]) n):Eg w (J #[N M (s*s),O a m c]) (n.natAbs:Int):=by
 obtain⟨sl,ds,d,f,i,j⟩:=h;cases d;refine⟨_,ds,?_,f,i,by simpa using j⟩;rcases gI n with ⟨e,h⟩|⟨e,h⟩|⟨e,h⟩<;>rw[e]
 ·rw[show ((n.natAbs:Int)).sign=1 from Int.sign_eq_one_of_pos oM];rfl
 ·subst h;rfl
 ·rw[show ((n.natAbs:Int)).sign=1 from Int.sign_eq_one_of_pos oM];rfl
def Ul(w:X)(v:I)(ps:LP)(i x z:Int)(h:Aa w v ps)(f:0<ps.length)(j:ps.length<=1000000)(hi:-(ps.length:Int)<=i)(d:i<=1000000)(l:ye ps i=(x,z)):Calls Tryz.prog 198 #[v,N M i] w fun e w'=>e=.returned (J #[N M x,N M z])/\oa w w':=by
 have:=Xv w v ps i h f j hi d
 rwa [l]at this
def Mr(w:X)(px d qx f i j T:Int)(l:Bd 100000000 px)(p:Bd 100000000 d)(r:Bd 100000000 qx)(t:Bd 100000000 f)(u:Bd 100000000 i)(h6:Bd 100000000 j)(x:Ce (px,d) (qx,f) (i,j)=T):Calls Tryz.prog 276 #[J #[N M px,N M d],J #[N M qx,N M f],J #[N M i,N M j]] w fun e w'=>e=.returned (N M T)/\oa w w':=by
 have:=VF w px d qx f i j l p r t u h6
 rwa [x]at this
def Se(k:Int)(ps:LP):Prop:=∀p∈ps,Bd k p.1/\Bd k p.2
def Se.at{k:Int}{ps:LP}(h:Se k ps)(e:0<ps.length){i:Int}{x z:Int}(f:ye ps i=(x,z)):Bd k x/\Bd k z:=by obtain⟨j,_,_,d⟩:=Dt (i:=i) e;rw[f]at d;exact h _ (lM d)
def Ko{ps:LP}{i:Nat}(h:i<ps.length):ps[i]?=Y (ye ps i):=by
 unfold ye;have e:(((i:Int)+ps.length)%ps.length).toNat=i:=by
  rw[Int.add_emod_right,Int.emod_eq_of_lt oM oM];omega
 rw[e,gD,gE h];rfl
def gj(ps:LP)(i:Nat):Bool:=decide (0<Ce (ye ps ((i:Int)-1)) (ye ps i) (ye ps ((i:Int)+1)))
def fj(ps:LP)(i k:Nat):Bool:=decide (0<Ce (ye ps i) (ye ps ((i:Int)+1)) (ye ps ((i:Int)+k)))
def fh(ps:LP)(i:Nat):Bool:=gj ps i&&(List.range (ps.length-1)).all fun k=>decide (k<2) || fj ps i k
def Ta(ps:LP):Bool:=xb ps.length 3 12&&(List.range ps.length).all (fh ps)
def sB{ps:LP}{i:Nat}(h:i<ps.length)(d:fh ps i=false):Ta ps=false:=by
 unfold Ta;rw[Bool.and_eq_false_iff]
 right
 rw[List.all_eq_false];exact⟨i,List.mem_range.2 h,by simp[d]⟩
def JK{ps:LP}(d:xb ps.length 3 12=true)(h:∀i,i<ps.length->fh ps i=true):Ta ps=true:=by unfold Ta;rw[d,Bool.true_and,List.all_eq_true];exact fun i e=>h i (List.mem_range.1 e)
def PG{ps:LP}{i:Nat}(h:gj ps i=false):fh ps i=false:=by unfold fh;rw[h];rfl
def OG{ps:LP}{i k:Nat}(d:k<ps.length-1)(e:2<=k)(h:fj ps i k=false):fh ps i=false:=by
 unfold fh;rw[Bool.and_eq_false_iff]
 right
 rw[List.all_eq_false];exact⟨k,List.mem_range.2 d,by simp[h];omega⟩
def NG{ps:LP}{i:Nat}(h:gj ps i=true)(e:∀k,2<=k->k<ps.length-1->fj ps i k=true):fh ps i=true:=by
 unfold fh;rw[h,Bool.true_and,List.all_eq_true];intro k d;rw[List.mem_range]at d;by_cases f:k<2
 ·simp[f]
 ·simp[e k oM d]
def CM(w:X)(ps:LP)(g:Nat)(d:I)(W:X):Prop:=
 ∃i:Nat,i<=ps.length/\d=N M i/\g=ps.length-i/\oa w W/\∀j,j<i->fh ps j=true
def DM(w:X)(ps:LP)(i:Nat)(g:Nat)(t4:I)(W:X):Prop:=
 ∃k:Nat,2<=k/\k<=ps.length-1/\t4=N M k/\g=ps.length-k/\oa w W/\∀j,2<=j->j<k->fj ps i j=true
def qJ(w:X)(v:I)(ps:LP)(h:Aa w v ps)(hb:Se 100000000 ps):Calls Tryz.prog 235 #[v] w fun e w'=>e=.returned (Z (Ta ps))/\oa w w':=by
 obtain⟨a,c,rfl⟩:=h.form;obtain⟨n,hn⟩:=gX ps.length;have av:=hn;rw[hn]at h ⊢;have r:=ia hn;have Hb:=ia hb;clear hb;by_cases hw:xb n 3 12=true
 ·have aw:3<=n/\n<=12:=by simp[xb]at hw;omega
  obtain⟨aw,aL⟩:=aw;have HW:=ia hw;clear hn av;have h0:0<ps.length:=by rw[r.o];omega
  have au:ps.length<=1000000:=by rw[r.o];omega
  have H0:=ia h0;have H6:=ia au;obtain⟨b,o,rfl,aO,_,_⟩:=h.at' (Ko h0);clear h0 au;go_in;go_wp2_with(((go_at_call 194;(with_reducible refine(jk _ n 3 12).mono ?_);rintro e w1 ⟨rfl,d⟩)));go_loopg [11] n (CM w ps)
  case atStart=>exact⟨0,by omega,rfl,by rw[r.o];rfl,eA,fun j hj=>by omega⟩
  case round =>
   obtain⟨i,hi,rfl,rfl,hx,ak⟩:=hrel;rw[r.o]at hi;have aj:=ia ak;clear ak d;by_cases ah:i<n
   ·obtain⟨⟨ax,az⟩,hA⟩:∃p,ye ps ((i:Int)-1)=p:=⟨_,rfl⟩;obtain⟨⟨qx,qz⟩,hQ⟩:∃p,ye ps (i:Int)=p:=⟨_,rfl⟩;obtain⟨⟨bx,bz⟩,hB⟩:∃p,ye ps ((i:Int)+1)=p:=⟨_,rfl⟩;obtain⟨T,hT⟩:=gX (Ce (ax,az) (qx,qz) (bx,bz));have hP:=(h.i hx).at' (Ko (ps:=ps) (i:=i) (by rw[r.o];exact ah));rw[hQ]at hP;obtain⟨b',o',e',f,d0,d1⟩:=hP;cases e';have HA:=ia hA;have HQ:=ia hQ;have HB:=ia hB;have HT:=ia hT;have af:=ia (Hb.o.at H0.o hA);have x:=ia (Hb.o.at H0.o hQ);have u:=ia (Hb.o.at H0.o hB);(have g1:-(ps.length:Int)<=(i:Int)-1:=by rw[r.o];omega);(have g2:-(ps.length:Int)<=(i:Int)+1:=by rw[r.o];omega);(have ay:gj ps i=decide (0<T):=by unfold gj;rw[hA,hQ,hB,hT]);have an:=ia ay;have hs:=h.i hx;clear hA hQ hB hT ay;have aQ:IntKind.i64.wrap ((i:Int)-1)=(i:Int)-1:=iW _ oM;have aR:IntKind.i64.wrap ((i:Int)+1)=(i:Int)+1:=iW _ oM;have p1:(0:Int)<=(i:Int):=oM;have p2:(i:Int)<(n:Int):=oM;by_cases ap:0<T
    ·(have aD:decide (T<=0)=false:=by simp;omega);go_wp2;go_region_held3 (fun W=>W.cell? ⟨b,o+i*2,V⟩=Y (N M qx)/\W.cell? ⟨b,o+i*2+1,V⟩=Y (N M qz)) ((repeat' (with_reducible refine And.intro ?_ ?_))<;>(first|(go_simp;done)|(refine d.d ?_;go_simp;done))) (first|((go_at_call 198;(with_reducible refine(Ul _ (O (Y ⟨b,o,V⟩) n c) ps ((i:Int)-1) ax az ?_ H0.o H6.o g1 oM HA.o).mono ?_);(refine hs.i ?_;exact eA);rintro e w1 ⟨rfl,d⟩;obtain⟨y,R⟩:=d.cells;(try simp only[Zf,Yf,Tb]at y R);(have l:=d.lt (n:=b) (by first|exact f | (simp only[Tb];exact f)|(have:=l;omega)))))|((go_at_call 198;(with_reducible refine(Ul _ (O (Y ⟨b,o,V⟩) n c) ps ((i:Int)+1) bx bz ?_ H0.o H6.o g2 oM HB.o).mono ?_);(refine hs.i ?_;exact eA);rintro e w2 ⟨rfl,t⟩;obtain⟨z,aa⟩:=t.cells;(try simp only[Zf,Yf,Tb]at z aa);(have ai:=t.lt (n:=b) (by first|exact f | (simp only[Tb];exact f)|(have:=l;omega)))))|((go_at_call 276;(with_reducible refine(Mr _ _ _ _ _ _ _ T af.o.1 af.o.2 x.o.1 x.o.2 u.o.1 u.o.2 HT.o).mono ?_);rintro e w3 ⟨rfl,ac⟩;obtain⟨K,ab⟩:=ac.cells;(try simp only[Zf,Yf,Tb]at K ab))))
     all_goals go_wp2
     go_loopg [4] (n-2) (DM w ps i)
     case atStart=>exact⟨2,nE _,by rw[r.o];omega,rfl,by rw[r.o],eA,fun j h2 hj=>by omega⟩
     case round =>
      rename_i wr0 _;clear hs d0 d1 y R l z aa ai K ab;obtain⟨k,aH,aI,rfl,rfl,aB,ae⟩:=hrel;rw[r.o]at aI;have ad:=ia ae;clear ae;by_cases aJ:k<n-1
      ·obtain⟨⟨cx,cz⟩,hC⟩:∃p,ye ps ((i:Int)+(k:Int))=p:=⟨_,rfl⟩;obtain⟨U,hU⟩:=gX (Ce (qx,qz) (bx,bz) (cx,cz));have hP:=(h.i aB).at' (Ko (ps:=ps) (i:=i) (by rw[r.o];exact ah));rw[HQ.o]at hP;obtain⟨aM,aP,aC,ar,d0,d1⟩:=hP;cases aC;have HC:=ia hC;have HU:=ia hU;have ag:=ia (Hb.o.at H0.o hC);(have aA:fj ps i k=decide (0<U):=by unfold fj;rw[HQ.o,HB.o,hC,hU]);have ao:=ia aA;(have g3:-(ps.length:Int)<=(i:Int)+(k:Int):=by rw[r.o];omega);have hs:=h.i aB;clear hC hU aA;have aS:IntKind.i64.wrap ((i:Int)+(k:Int))=(i:Int)+(k:Int):=iW _ oM;have p3:(k:Int)<(n:Int)-1:=oM;have f:=ar;by_cases aq:0<U
       ·(have aE:decide (U<=0)=false:=by simp;omega);go_wp2;go_region_held3 (fun W=>W.cell? ⟨b,o+i*2,V⟩=Y (N M qx)/\W.cell? ⟨b,o+i*2+1,V⟩=Y (N M qz)) ((repeat' (with_reducible refine And.intro ?_ ?_))<;>(first|(go_simp;done)|(refine d.d ?_;go_simp;done))) (first|((go_at_call 198;(with_reducible refine(Ul _ (O (Y ⟨b,o,V⟩) n c) ps ((i:Int)+1) bx bz ?_ H0.o H6.o g2 oM HB.o).mono ?_);(refine hs.i ?_;exact eA);rintro e w1 ⟨rfl,d⟩;obtain⟨y,R⟩:=d.cells;(try simp only[Zf,Yf,Tb]at y R);(have l:=d.lt (n:=b) (by first|exact f | (simp only[Tb];exact f)|(have:=l;omega)))))|((go_at_call 198;(with_reducible refine(Ul _ (O (Y ⟨b,o,V⟩) n c) ps ((i:Int)+(k:Int)) cx cz ?_ H0.o H6.o g3 oM HC.o).mono ?_);(refine hs.i ?_;exact eA);rintro e w2 ⟨rfl,t⟩;obtain⟨z,aa⟩:=t.cells;(try simp only[Zf,Yf,Tb]at z aa);(have ai:=t.lt (n:=b) (by first|exact f | (simp only[Tb];exact f)|(have:=l;omega)))))|((go_at_call 276;(with_reducible refine(Mr _ _ _ _ _ _ _ U x.o.1 x.o.2 u.o.1 u.o.2 ag.o.1 ag.o.2 HU.o).mono ?_);rintro e w3 ⟨rfl,ac⟩;obtain⟨K,ab⟩:=ac.cells;(try simp only[Zf,Yf,Tb]at K ab))))
        all_goals go_wp2
        go_roundg (n-(k+1))
        case measure=>have:=r.o;omega
        case rel =>
         refine⟨k+1,by omega,by rw[r.o];omega,by go_num,by rw[r.o],eA,fun j h2 hj=>?_⟩;by_cases aG:j=k
         ·rw[aG,ao.o];simpa using aq
         ·exact ad.o j h2 oM
       ·(have aE:decide (U<=0)=true:=by simp;omega);have e:Ta ps=false:=sB (by rw[r.o];exact ah) (OG (k:=k) (by rw[r.o];exact aJ) aH (by rw[ao.o];simpa using aq));have E:=ia e;clear e;go_wp2;go_region_held3 (fun W=>W.cell? ⟨b,o+i*2,V⟩=Y (N M qx)/\W.cell? ⟨b,o+i*2+1,V⟩=Y (N M qz)) ((repeat' (with_reducible refine And.intro ?_ ?_))<;>(first|(go_simp;done)|(refine d.d ?_;go_simp;done))) (first|((go_at_call 198;(with_reducible refine(Ul _ (O (Y ⟨b,o,V⟩) n c) ps ((i:Int)+1) bx bz ?_ H0.o H6.o g2 oM HB.o).mono ?_);(refine hs.i ?_;exact eA);rintro e w1 ⟨rfl,d⟩;obtain⟨y,R⟩:=d.cells;(try simp only[Zf,Yf,Tb]at y R);(have l:=d.lt (n:=b) (by first|exact f | (simp only[Tb];exact f)|(have:=l;omega)))))|((go_at_call 198;(with_reducible refine(Ul _ (O (Y ⟨b,o,V⟩) n c) ps ((i:Int)+(k:Int)) cx cz ?_ H0.o H6.o g3 oM HC.o).mono ?_);(refine hs.i ?_;exact eA);rintro e w2 ⟨rfl,t⟩;obtain⟨z,aa⟩:=t.cells;(try simp only[Zf,Yf,Tb]at z aa);(have ai:=t.lt (n:=b) (by first|exact f | (simp only[Tb];exact f)|(have:=l;omega)))))|((go_at_call 276;(with_reducible refine(Mr _ _ _ _ _ _ _ U x.o.1 x.o.2 u.o.1 u.o.2 ag.o.1 ag.o.2 HU.o).mono ?_);rintro e w3 ⟨rfl,ac⟩;obtain⟨K,ab⟩:=ac.cells;(try simp only[Zf,Yf,Tb]at K ab))))
        all_goals go_wp2
        all_goals go_ret
        exact⟨by rw[E.o];rfl,eA⟩
      ·obtain rfl:k=n-1:=oM;have al:fh ps i=true:=NG (by rw[an.o];simpa using ap) (fun j h2 hj=>ad.o j h2 (by rw[r.o]at hj;exact hj));have am:=ia al;clear al;have p4:¬(((n-1:Nat):Int)<(n:Int)-1):=oM;go_wp2;go_roundg (n-(i+1))
       case measure=>have:=r.o;omega
       case rel =>
        refine⟨i+1,by rw[r.o];omega,by go_num,by rw[r.o],eA,fun j hj=>?_⟩;by_cases aF:j=i
        ·rw[aF];exact am.o
        ·exact aj.o j oM
    ·(have aD:decide (T<=0)=true:=by simp;omega);have e:Ta ps=false:=sB (by rw[r.o];exact ah) (PG (by rw[an.o];simpa using ap));have E:=ia e;clear e;go_wp2;go_region_held3 (fun W=>W.cell? ⟨b,o+i*2,V⟩=Y (N M qx)/\W.cell? ⟨b,o+i*2+1,V⟩=Y (N M qz)) ((repeat' (with_reducible refine And.intro ?_ ?_))<;>(first|(go_simp;done)|(refine d.d ?_;go_simp;done))) (first|((go_at_call 198;(with_reducible refine(Ul _ (O (Y ⟨b,o,V⟩) n c) ps ((i:Int)-1) ax az ?_ H0.o H6.o g1 oM HA.o).mono ?_);(refine hs.i ?_;exact eA);rintro e w1 ⟨rfl,d⟩;obtain⟨y,R⟩:=d.cells;(try simp only[Zf,Yf,Tb]at y R);(have l:=d.lt (n:=b) (by first|exact f | (simp only[Tb];exact f)|(have:=l;omega)))))|((go_at_call 198;(with_reducible refine(Ul _ (O (Y ⟨b,o,V⟩) n c) ps ((i:Int)+1) bx bz ?_ H0.o H6.o g2 oM HB.o).mono ?_);(refine hs.i ?_;exact eA);rintro e w2 ⟨rfl,t⟩;obtain⟨z,aa⟩:=t.cells;(try simp only[Zf,Yf,Tb]at z aa);(have ai:=t.lt (n:=b) (by first|exact f | (simp only[Tb];exact f)|(have:=l;omega)))))|((go_at_call 276;(with_reducible refine(Mr _ _ _ _ _ _ _ T af.o.1 af.o.2 x.o.1 x.o.2 u.o.1 u.o.2 HT.o).mono ?_);rintro e w3 ⟨rfl,ac⟩;obtain⟨K,ab⟩:=ac.cells;(try simp only[Zf,Yf,Tb]at K ab))))
     all_goals go_wp2
     all_goals go_ret
     exact⟨by rw[E.o];rfl,eA⟩
   ·obtain rfl:i=n:=oM;have e:Ta ps=true:=JK (by rw[r.o];exact HW.o) (fun j hj=>aj.o j (by rw[r.o]at hj;exact hj));have E:=ia e;clear e;go_wp2;go_ret;exact⟨by rw[E.o];rfl,eA⟩
 ·have aK:xb n 3 12=false:=by simpa using hw
  have e:Ta ps=false:=by unfold Ta;rw[hn,aK];rfl
  rw[e];clear e hn av;go_in;go_wp2_with(((go_at_call 194;(with_reducible refine(jk _ n 3 12).mono ?_);rintro e w1 ⟨rfl,d⟩)));go_ret;exact⟨rfl,eA⟩
def Fe(p:Int×Int):Bool:=!xb p.1 0 2000 || !xb p.2 0 2000
def Vx(w:X)(x z:Int):Calls Tryz.prog 233 #[J #[N M x,N M z]] w fun e w'=>e=.returned (Z (Fe (x,z)))/\oa w w':=by
 by_cases h:xb x 0 2000=true
 ·have e:Fe (x,z)=!xb z 0 2000:=by simp[Fe,h]
  rw[e];clear e;go_in;go_wp2_with(first|((go_at_call 194;(with_reducible refine(jk _ x 0 2000).mono ?_);rw[h];rintro e r ⟨rfl,d⟩;obtain⟨⟨i,j⟩,f⟩:=Jf w d))|((go_at_call 194;(with_reducible refine(jk _ z 0 2000).mono ?_);rintro e t ⟨rfl,p⟩)));go_ret;exact⟨rfl,eA⟩
 ·have l:xb x 0 2000=false:=by simpa using h
  have e:Fe (x,z)=true:=by simp[Fe,l]
  rw[e];clear e;go_in;go_wp2_with(((go_at_call 194;(with_reducible refine(jk _ x 0 2000).mono ?_);rw[l];rintro e r ⟨rfl,d⟩;obtain⟨⟨i,j⟩,f⟩:=Jf w d)));go_ret;exact⟨rfl,eA⟩
def oe{α:Type}(f:α->Bool)(xs:List α):Int:=match xs.findIdx? f with|some i=>(i:Int)|none=>-1
def Er{α:Type}{f:α->Bool}{xs:List α}{i:Nat}{x:α}(r:xs[i]?=Y x)(d:f x=true)(p:∀j y,j<i->xs[j]?=Y y->f y=false):oe f xs=(i:Int):=by
 obtain⟨e,rfl⟩:=lS.1 r;have:xs.findIdx? f=Y i:=by
  rw[List.findIdx?_eq_some_iff_getElem];exact⟨e,d,fun j l=>by simpa using p j _ l (gE oM)⟩
 unfold oe;rw[this]
def Fr{α:Type}{f:α->Bool}{xs:List α}(e:∀j y,j<xs.length->xs[j]?=Y y->f y=false):oe f xs = -1:=by
 have:xs.findIdx? f=V:=by
  rw[List.findIdx?_eq_none_iff];intro x i;obtain⟨j,d⟩:=List.mem_iff_getElem?.1 i;exact e j x (lS.1 d).1 d
 unfold oe;rw[this]
def Rt{α:Type}(f:α->Bool)(xs:List α):decide (0<=oe f xs)=xs.any f:=by
 unfold oe;cases h:xs.findIdx? f with
 |none=>
  rw[List.findIdx?_eq_none_iff]at h;have:xs.any f=false:=by rw[List.any_eq_false];intro x j;simp[h x j]
  rw[this];rfl
 | some i =>
  rw[List.findIdx?_eq_some_iff_getElem]at h;obtain⟨e,d,_⟩:=h;have:xs.any f=true:=List.any_eq_true.2 ⟨_,List.getElem_mem e,d⟩;rw[this];simp
def CC(w:X)(f:Int×Int->Bool)(ps:LP)(g:Nat)(d:I)(W:X):Prop:=
 ∃i:Nat,i<=ps.length/\d=N M i/\g=ps.length-i/\oa w W/\∀j y,j<i->ps[j]?=Y y->f y=false
def YI(w:X)(v:I)(ps:LP)(h:Aa w v ps):Calls Tryz.prog 275 #[v,.func (.func 233) #[] #[]] w fun e w'=>e=.returned (N M (oe Fe ps))/\oa w w':=by
 obtain⟨a,c,rfl⟩:=h.form;obtain⟨n,hn⟩:=gX ps.length;rw[hn]at h ⊢;have r:=h.le;unfold maxLen at r;have ac:n<=9223372036854775807:=oM;have f:=ia hn;clear hn r;go_in;go_wp2;go_loopg [8] n (CC w Fe ps)
 case atStart=>exact⟨0,by omega,rfl,by rw[f.o];rfl,eR _,fun j y u=>by omega⟩
 case round =>
  obtain⟨i,hi,rfl,rfl,hx,l⟩:=hrel;rw[f.o]at hi;have d:=ia l;clear l;by_cases aa:i<n
  ·obtain⟨q,hq⟩:∃q,ps[i]?=Y q:=⟨ps[i]'(by rw[f.o];omega),by simp[f.o,aa]⟩;obtain⟨x,z⟩:=q;obtain⟨b,o,rfl,hb,d0,d1⟩:=(h.i hx).at' hq;have Hq:=ia hq;clear hq;by_cases K:Fe (x,z)=true
   ·have e:oe Fe ps=(i:Int):=Er Hq.o K d.o;have E:=ia e;clear e;go_wp2_with(((go_at_call 233;(with_reducible refine(Vx _ x z).mono ?_);rw[K];rintro e w1 ⟨rfl,ab⟩)));go_ret;exact⟨by rw[E.o];rfl,eA⟩
   ·(have p:Fe (x,z)=false:=by simpa using K);go_wp2_with(((go_at_call 233;(with_reducible refine(Vx _ x z).mono ?_);rw[p];rintro e w1 ⟨rfl,ab⟩)));go_roundg (n-(i+1))
    case measure=>have:=f.o;omega
    case rel =>
     refine⟨i+1,by have:=f.o;omega,by go_num,by rw[f.o],eA,fun j y u t=>?_⟩;by_cases R:j=i
     ·subst R;rw[Hq.o]at t;cases t;exact p
     ·exact d.o j y oM t
  ·obtain rfl:i=n:=oM;have e:oe Fe ps = -1:=Fr (fun j y u t=>d.o j y (by rw[f.o]at u;exact u) t);have E:=ia e;clear e;go_wp2;go_ret;exact⟨by rw[E.o];rfl,hx⟩
def mI(w:X)(v:I)(ps:LP)(h:Aa w v ps):Calls Tryz.prog 234 #[v,.func (.func 233) #[] #[]] w fun e w'=>e=.returned (Z (ps.any Fe))/\oa w w':=by rw[<-Rt];obtain⟨x,f⟩:=gX (oe Fe ps);have d:=fun W (j:oa w W)=>YI W v ps (h.i j);rw[f]at *;have i:=ia d;clear d f;go_in;go_wp2_with(((go_at_call 275;refine cM (i.o _ eA) ?_;rintro e p ⟨rfl,l⟩)));go_ret;exact⟨rfl,eA⟩
def Nj:List Int->Int
 | []=>0
 | x::xs=>if x=0 then Nj xs else x
def mw:∀{xs:List Int}{i:Nat}{x:Int},xs[i]?=Y x->x≠0->(∀j y,j<i->xs[j]?=Y y->y=0)->Nj xs=x
 | [],_,_,h,_,_=>by simp at h
 | y::ys,0,x,h,h0,_=>by simp at h;subst h;simp[Nj,h0]
 | y::ys,i+1,x,h,h0,hn=>by
  have d:y=0:=hn 0 y oM rfl;rw[Nj,if_pos d];exact mw (by simpa using h) h0 (fun j z f e=>hn (j+1) z oM (by simpa using e))
def Gy:∀{xs:List Int},(∀(j:Nat)(y:Int),xs[j]?=Y y->y=0)->Nj xs=0
 | [],_=>rfl
 | y::ys,h=>by rw[Nj,if_pos (h 0 y rfl)];exact Gy (fun j z d=>h (j+1) z (by simpa using d))
def rM(w:X)(xs:List Int)(g:Nat)(d:I)(W:X):Prop:=
 ∃i:Nat,i<=xs.length/\d=N M i/\g=xs.length-i/\oa w W/\∀j y,j<i->xs[j]?=Y y->y=0
def KC(w:X)(v:I)(xs:List Int)(h:Uc 3 w v xs):Calls Tryz.prog 299 #[v] w fun e w'=>e=.returned (N M (Nj xs))/\oa w w':=by
 obtain⟨a,c,rfl⟩:=h.form;obtain⟨n,R⟩:=gX xs.length;rw[R]at h ⊢;have t:=h.le;unfold maxLen at t;have ad:n<=9223372036854775807:=oM;have f:=ia R;clear R t;go_in;go_wp2;go_loopg [8] n (rM w xs)
 case atStart=>exact⟨0,by omega,rfl,by rw[f.o];rfl,eR _,fun j y hj=>by omega⟩
 case round =>
  obtain⟨i,hi,rfl,rfl,u,l⟩:=hrel;rw[f.o]at hi;have d:=ia l;clear l;by_cases K:i<n
  ·obtain⟨x,hq⟩:∃x,xs[i]?=Y x:=⟨xs[i]'(by rw[f.o];omega),by simp[f.o,K]⟩;obtain⟨b,o,rfl,hb,hc⟩:=(h.ext u).open (by rw[f.o];omega);have ac:=hc i x hq;have Hq:=ia hq;clear hq hc;by_cases r:x=0
   ·subst r;go_wp2;go_roundg (n-(i+1))
    case measure=>have:=f.o;omega
    case rel =>
     refine⟨i+1,by have:=f.o;omega,by go_num,by rw[f.o],u,fun j y hj p=>?_⟩;by_cases z:j=i
     ·subst z;rw[Hq.o]at p;cases p;rfl
     ·exact d.o j y oM p
   ·have e:Nj xs=x:=mw Hq.o r d.o;have E:=ia e;(have aa:(x != 0)=true:=by simpa using r);(have ab:(x==0)=false:=by simpa using r);clear e r;go_wp2;go_ret;exact⟨by rw[E.o];rfl,u⟩
  ·obtain rfl:i=n:=oM;have e:Nj xs=0:=Gy (fun j y p=>d.o j y (by have:=(lS.1 p).1;rw[f.o]at this;exact this) p);have E:=ia e;clear e;go_wp2;go_ret;exact⟨by rw[E.o];rfl,u⟩
def xH(w:X)(v:I)(xs:List Int)(h:Uc 3 w v xs):Calls Tryz.prog 277 #[v] w fun e w'=>e=.returned (N M (Nj xs))/\oa w w':=by obtain⟨x,f⟩:=gX (Nj xs);have d:=fun W (j:oa w W)=>KC W v xs (h.ext j);rw[f]at *;have i:=ia d;clear d f;go_in;go_wp2_with(((go_at_call 299;refine cM (i.o _ eA) ?_;rintro e p ⟨rfl,l⟩)));go_ret;exact⟨rfl,eA⟩
def Gl(p q:Int×Int):Int:=Nj [nc p.2 q.2,nc p.1 q.1]
def Pp(W:X)(x y:Int):Uc 3 (W.alloc (C #[N M x,N M y] 3)) (O (Y ⟨W.heap.size,0,V⟩) 2 2) [x,y]:=by
 refine⟨rfl,_,_,rfl,nE _,by unfold maxLen;omega,.inr ⟨W.heap.size,0,_,_,rfl,aN W _,?_⟩⟩;intro i v hv
 match i,hv with
 | 0,hv=>simpa[Bc] using hv
 | 1,hv=>simpa[Bc] using hv
 | i+2,hv=>simp[Bc]at hv
def CH(w:X)(px d qx f:Int):Calls Tryz.prog 238 #[J #[N M px,N M d],J #[N M qx,N M f]] w fun e w'=>e=.returned (N M (Gl (px,d) (qx,f)))/\oa w w':=by
 obtain⟨r,l⟩:=gX (Gl (px,d) (qx,f));rw[l];have HR:zc (Nj [nc d f,nc px qx]=r):=ia l;clear l;go_in;go_wp2;go_region_held3 (fun W=>W.cell? ⟨w.heap.size,0,V⟩=Y (N M px)/\W.cell? ⟨w.heap.size,1,V⟩=Y (N M d)/\W.cell? ⟨w.heap.size+1,0,V⟩=Y (N M qx)/\W.cell? ⟨w.heap.size+1,1,V⟩=Y (N M f)) ((repeat' (with_reducible refine And.intro ?_ ?_))<;>(first|(go_simp;done)|(refine hx1.d ?_;go_simp;done))) (first|((go_at_call 278;(with_reducible refine(xB _ d f).mono ?_);rintro e w1 ⟨rfl,hx1⟩;obtain⟨⟨ab,ae⟩,x,y⟩:=Oi w hx1))|((go_at_call 278;(with_reducible refine(xB _ px qx).mono ?_);rintro e u ⟨rfl,p⟩;obtain⟨⟨ac,af⟩,z,K⟩:=Oi w p;have i:w.heap.size<u.heap.size+1:=oM;have j:w.heap.size+1<u.heap.size+1:=oM))|((go_at_call 277;(with_reducible refine(xH _ (O (Y ⟨u.heap.size,0,V⟩) 2 2) [nc d f,nc px qx] ?_).mono ?_);(refine Pp _ _ _);rw[HR.o];rintro e w3 ⟨rfl,t⟩;obtain⟨⟨ad,ag⟩,R,aa⟩:=Oi w t)))
 all_goals go_wp2
 go_ret;exact⟨rfl,eA⟩
