import Derived.Test.YtgimcmpeceifnaaGreatDoorColA03
import Derived.Deep.LoopGhost
import Derived.Deep.CutBlock
import Derived.Deep.DeepCutAuto
import Derived.Shelf.SlSortCmp.WholeK
import Derived.RangeFuncNested
import Derived.RangeFuncBound
import Derived.RangeFuncCalls
import Derived.RangeFuncLeaves
import Derived.Shelf.Abstract
import Derived.Shelf.RegionOpen
import Derived.TacticsInMore
import Derived.LoopNIn
import Derived.LoopIn
import Derived.Sort.LoopGhostIn
import Derived.ProofKit
import Derived.Deep.Slices
set_option maxRecDepth 1000000
set_option maxHeartbeats 16000000
set_option linter.all false
open Go.Value renaming slice->O,bool->X,int->C,agg->Oa,tuple->Oe
open Option renaming some->Y,none->I
open Go renaming World->Z,Value->J,Act->Oc,Addr->Od
open Go.IntKind renaming i64->M
open Go.Obj renaming cells->Ob
namespace Go.Proofs.YtgimcmpeceifnaaGreatDoor.Cop
section
open Go.RowKit Go.Shelf
def SM(w:Z)(va vb:J)(x y:Int)(u:qe w va x)(z:qe w vb y)(d:Lm Rc x)(f:Lm Rc y):Calls Tryz.prog 290 #[va,vb] w (lk w (Int.gcd x y:Nat)):=by
 obtain⟨a,m,c,s,rfl⟩:=u.form;obtain⟨a',m',c',s',rfl⟩:=z.form;have R:=u.dig;have aa:=z.dig;have r:=Aa d.abs;have t:=Aa f.abs;clear d f u z;have e:(Int.gcd x y:Int)=(Int.gcd (x.natAbs:Int) (y.natAbs:Int):Nat):=by simp[Int.gcd]
 rw[e];clear e;go_in;go_wp2_with(first|((go_at_call 308;(with_reducible refine(RR _ (Oa #[O a m c]) (Oa #[O a' m' c']) x.natAbs y.natAbs ?_ ?_ r.o t.o).mono ?_);(refine R.ext ?_;exact eA);(refine aa.ext ?_;exact eA);rintro e w1 ⟨r1,rfl,i,ab⟩;obtain⟨a1,m1,c1,rfl⟩:=i.form;obtain⟨⟨K,ah⟩,ad,ae,l⟩:=Sb w ab))|((go_at_call 278;(with_reducible refine(As _ false (Oa #[O a1 m1 c1]) (Int.gcd (x.natAbs:Int) (y.natAbs:Int):Nat) ?_).mono ?_);(refine i.ext ?_;exact eA);rintro e w2 ⟨r2,rfl,j,ac⟩;obtain⟨a2,m2,c2,s2,rfl⟩:=j.form;obtain⟨⟨L,ai⟩,af,ag,p⟩:=Sb w ac)));exact bR (v:=Oa #[O a2 m2 c2,X s2]) (by simp[results,Tryz.results290,go_sem,K,L,l,p]) rfl ⟨_,rfl,j.keep kA,eA⟩
def Qn(w:Z)(d:J)(e:Bool)(q r:Int)(W:Z):Prop:=
 Ba w W/\W.heap[w.heap.size+1]?=Y (Ob #[d,X e] 179 (0,0))/\
 ∃aq mq cq sq ar mr cr sr,W.heap[w.heap.size+1+1]?=Y (Ob #[O aq mq cq,X sq] 179 (0,0))/\qe W (Oa #[O aq mq cq,X sq]) q/\
  W.heap[w.heap.size+1+1+1]?=Y (Ob #[O ar mr cr,X sr] 179 (0,0))/\qe W (Oa #[O ar mr cr,X sr]) r
def PG(w:Z)(d:J)(e:Bool)(x y:Int)(_:J)(W:Z):Prop:=∃q,Qn w d e q (x%y) W/\(if e then -q else q)=x/y
def AK{x y:Int}(s t:Bool)(l:s=decide (x<0))(z:t=decide (y<0))(K:y≠0)(h:s=false\/(x.natAbs:Int)%(y.natAbs:Int)=0):(if t then -(sg s ((x.natAbs:Int)/(y.natAbs:Int)))else sg s ((x.natAbs:Int)/(y.natAbs:Int)))=x/y/\(x.natAbs:Int)%(y.natAbs:Int)=x%y:=by
 have u:x%y=x%(y.natAbs:Int):=by
  rcases Int.natAbs_eq y with h|h
  ·rw[<-h]
  ·conv=>lhs;rw[h,Int.emod_neg]
 have e:s=false->(x.natAbs:Int)=x:=fun h=>by subst l;simp at h;omega
 have d:s=true->(x.natAbs:Int) = -x:=fun h=>by subst l;simp at h;omega
 have r:x/y=if t then -(x/(y.natAbs:Int))else x/(y.natAbs:Int):=by
  subst z;by_cases h:y<0
  ·simp only[h,decide_true,if_true];rw[show (y.natAbs:Int) = -y by omega,Int.ediv_neg,Int.neg_neg]
  ·simp only[h,decide_false,Bool.false_eq_true,if_false];rw[show (y.natAbs:Int)=y by omega]
 have f:(y.natAbs:Int)≠0:=oM;rw[r,u];cases s
 ·rw[e rfl];simp[sg]
 ·rw[d rfl]at h ⊢;have i:(-x)%(y.natAbs:Int)=0:=by rcases h with h|h;cases h;exact h
  have j:x%(y.natAbs:Int)=0:=by
   have:=Int.dvd_of_emod_eq_zero i;exact Int.emod_eq_zero_of_dvd (by simpa using Int.dvd_neg.2 this)
  refine⟨?_,by rw[i,j]⟩;have p:(-x)/(y.natAbs:Int) = -(x/(y.natAbs:Int)):=by
   apply Int.ediv_eq_of_eq_mul_left f;rw[Int.neg_mul,Int.ediv_mul_cancel (Int.dvd_of_emod_eq_zero j)]
  simp[sg,p]
def Zz(w:Z)(q r:Int)(e:Ending)(w':Z):Prop:=∃vq vr,e=.returned (Oe #[vq,vr,C M 0])/\qe w' vq q/\qe w' vr r/\Ba w w'
def Qn.ext{w:Z}{d:J}{e:Bool}{q r:Int}{W W':Z}(h:Qn w d e q r W)(k:Ba W W'):Qn w d e q r W':=by obtain⟨p,t,f,z,j,L,i,K,l,R,u,x,y,h6⟩:=h;exact⟨p.trans k,k.e t,f,z,j,L,i,K,l,R,k.e u,x.ext k,k.e y,h6.ext k⟩
def vk{W:Z}{g:Nat}{x y:J}{T:TypeId}{d:Nat×Nat}(h:W.heap[g]?=Y (Ob #[x,y] T d))(u v:J):((W.setCell ⟨g,0,I⟩ u).setCell ⟨g,1,I⟩ v).heap[g]?=Y (Ob #[u,v] T d):=by simp[World.setCell,Array.getElem?_modify,h]
def Po{W:Z}{g i:Nat}{v:J}(h:W.cell? ⟨g,i,I⟩=Y v):W.setCell ⟨g,i,I⟩ v=W:=by
 have e:(W.setCell ⟨g,i,I⟩ v).heap=W.heap:=by
  apply Array.ext_getElem?;intro k;by_cases d:k=g
  ·subst d;simp only[World.setCell,Array.getElem?_modify,if_pos];unfold World.cell? at h;cases hw:W.heap[k]? with
   | none=>rfl
   | some o =>
    cases o with
    | cells cs T l =>
     simp[hw]at h;have:cs.setIfInBounds i v=cs:=by
      apply Array.ext_getElem?;intro j;rw[Array.getElem?_setIfInBounds];split
      ·subst_vars
       split
       ·exact h.symm
       ·rename_i h2;rw[Array.getElem?_eq_none oM]
      ·rfl
     simp[this]
    | _=>simp
  ·exact bS _ _ _ _ d
 have f:W.setCell ⟨g,i,I⟩ v={ W with heap:=(W.setCell ⟨g,i,I⟩ v).heap }:=rfl;rw[f,e]
def Da{W:Z}{g:Nat}{cs:Array J}{T:TypeId}{d:Nat×Nat}(h:W.heap[g]?=Y (Ob cs T d)){i:Nat}{u:J}(hi:cs[i]?=Y u):W.cell? ⟨g,i,I⟩=Y u:=by simp[World.cell?,h,hi]
def Za{W:Z}{g:Nat}{cs:Array J}{T:TypeId}(h:W.heap[g]?=Y (Ob cs T (0,0)))(i:Nat):W.frozen? ⟨g,i,I⟩=false:=by simp[World.frozen?,h]
def Qn.setQ{w:Z}{d:J}{t:Bool}{q p r:Int}{W:Z}(h:Qn w d t q r W){a:Option Od}{m c:Nat}{s:Bool}(L:qe W (Oa #[O a m c,X s]) p):Qn w d t p r ((W.setCell ⟨w.heap.size+1+1,0,I⟩ (O a m c)).setCell ⟨w.heap.size+1+1,1,I⟩ (X s)):=by
 obtain⟨y,z,aq,mq,cq,sq,u,R,x,sr,i,h4,K,h6⟩:=h;have f:∀k,k≠w.heap.size+1+1->((W.setCell ⟨w.heap.size+1+1,0,I⟩ (O a m c)).setCell ⟨w.heap.size+1+1,1,I⟩ (X s)).heap[k]?=W.heap[k]?:=fun k f=>by rw[bS _ _ _ _ f,bS _ _ _ _ f]
 have l:sd 2 W (w.heap.size+1+1):=fun cs fr e=>by rw[i]at e;cases e
 have j:Ka 2 W ((W.setCell ⟨w.heap.size+1+1,0,I⟩ (O a m c)).setCell ⟨w.heap.size+1+1,1,I⟩ (X s)):=((Ka.refl _ W).y l _).y (l.set _ _) _;exact⟨(y.set dO _).set dO _,(f _ oM).trans z,a,m,c,s,u,R,x,sr,vk i _ _,L.keep j,(f _ oM).trans K,h6.keep j⟩
def vD(w:Z)(va vb:J)(x y:Int)(ha:qe w va x)(hb:qe w vb y)(aw:Lm Yd x)(ax:Lm Yd y)(hy:y≠0)(aV:0<=x\/y ∣ x):Calls Tryz.prog 291 #[va,vb] w (Zz w (x/y) (x%y)):=by
 obtain⟨a,m,c,s,rfl⟩:=ha.form;obtain⟨R,m',c',K,rfl⟩:=hb.form;have ap:=Aa ha.sgn;have aP:=Aa hb.sgn;have aS:=ha.dig;have av:=hb.dig;have aM:=Aa aw.abs;have aO:=Aa ax.abs;have bD:((y.natAbs:Int)==0)=false:=by simp;omega
 have aW:0<(y.natAbs:Int):=oM;clear aw ax ha;go_in;go_wp2_with(first|((go_at_call 273;(with_reducible refine(Bm _ (Oa #[O R m' c']) y.natAbs ?_).mono ?_);(refine av.ext ?_;exact eA);rintro e w1 ⟨rfl,aC⟩;obtain⟨⟨bs,bx⟩,a1,a6,a7,a8⟩:=Tt w aC))|((go_at_call 309;(with_reducible refine(QM _ (Oa #[O a m c]) (Oa #[O R m' c']) x.natAbs y.natAbs ?_ ?_ aM.o aO.o aW).mono ?_);(refine aS.ext ?_;exact eA);(refine av.ext ?_;exact eA);rintro e w2 ⟨r2,r3,rfl,az,al,aU⟩;obtain⟨a2,m2,c2,rfl⟩:=az.u.form;obtain⟨a3,m3,c3,rfl⟩:=al.u.form;obtain⟨⟨bt,bz⟩,ba,bb,bc,be⟩:=Tt w aU;have aE:w.heap.size<w2.heap.size+1:=oM;have aF:w.heap.size<w2.heap.size+1+1:=oM;have aG:w.heap.size+1<w2.heap.size+1:=oM;have aH:w.heap.size+1<w2.heap.size+1+1:=oM;have aI:w.heap.size+1+1<w2.heap.size+1:=oM;have aJ:w.heap.size+1+1<w2.heap.size+1+1:=oM;have aK:w.heap.size+1+1+1<w2.heap.size+1:=oM;have aL:w.heap.size+1+1+1<w2.heap.size+1+1:=oM)));go_region_held3 (fun W=>W.cell? ⟨w.heap.size,1,I⟩=Y (X s)/\W.cell? ⟨w2.heap.size,0,I⟩=Y (O a2 m2 c2)/\W.cell? ⟨w2.heap.size+1,0,I⟩=Y (O a3 m3 c3)) ((repeat' (with_reducible refine And.intro ?_ ?_))<;>(first|(go_simp;done)|(refine aC.d ?_;go_simp;done))) (first|((go_at_call 278;(with_reducible refine(As _ s (Oa #[O a2 m2 c2]) ((x.natAbs:Int)/(y.natAbs:Int)) ?_).mono ?_);(refine az.u.ext ?_;exact eA);rintro e w3 ⟨r4,rfl,aA,am⟩;obtain⟨a4,m4,c4,s4,rfl⟩:=aA.form;obtain⟨⟨bu,bA⟩,bf,bg,bh,bi⟩:=Tt w am;have aX:=am.lt (n:=w2.heap.size) (by go_simp);have aY:=am.lt (n:=w2.heap.size+1) (by go_simp)))|((go_at_call 278;(with_reducible refine(As _ false (Oa #[O a3 m3 c3]) ((x.natAbs:Int)%(y.natAbs:Int)) ?_).mono ?_);(refine al.u.ext ?_;exact eA);rintro e j ⟨r5,rfl,aB,an⟩;obtain⟨a5,m5,c5,s5,rfl⟩:=aB.form;obtain⟨⟨bv,bB⟩,bj,bk,bl,bm⟩:=Tt w an;have aZ:=an.lt (n:=w2.heap.size) (by go_simp);have a0:=an.lt (n:=w2.heap.size+1) (by go_simp))));have au:=al.u.ext (w':=j) eA;have aa:Ba ((((w.alloc (Ob #[O a m c,X s] 179)).alloc (Ob #[O R m' c',X K] 179)).alloc (Ob #[O I 0 0,X false] 179)).alloc (Ob #[O I 0 0,X false] 179)) j:=eA;have ay:Qn w (O R m' c') K (sg s ((x.natAbs:Int)/(y.natAbs:Int))) ((x.natAbs:Int)%(y.natAbs:Int)) ((((j.setCell ⟨w.heap.size+1+1,0,I⟩ (O a4 m4 c4)).setCell ⟨w.heap.size+1+1,1,I⟩ (X s4)).setCell ⟨w.heap.size+1+1+1,0,I⟩ (O a5 m5 c5)).setCell ⟨w.heap.size+1+1+1,1,I⟩ (X s5)):=by
  have aa:Ba ((((w.alloc (Ob #[O a m c,X s] 179)).alloc (Ob #[O R m' c',X K] 179)).alloc (Ob #[O I 0 0,X false] 179)).alloc (Ob #[O I 0 0,X false] 179)) j:=eA;have e1:j.heap[w.heap.size+1]?=Y (Ob #[O R m' c',X K] 179 (0,0)):=aa.e (by rw[ig,ig,ig];simp);have e2:j.heap[w.heap.size+1+1]?=Y (Ob #[O I 0 0,X false] 179 (0,0)):=aa.e (by rw[ig,ig];simp);have e3:j.heap[w.heap.size+1+1+1]?=Y (Ob #[O I 0 0,X false] 179 (0,0)):=aa.e (by rw[ig];simp);have k1:∀k,k≠w.heap.size+1+1->((j.setCell ⟨w.heap.size+1+1,0,I⟩ (O a4 m4 c4)).setCell ⟨w.heap.size+1+1,1,I⟩ (X s4)).heap[k]?=j.heap[k]?:=fun k hk=>by rw[bS _ _ _ _ hk,bS _ _ _ _ hk]
  have k2:∀(W:Z) k,k≠w.heap.size+1+1+1->((W.setCell ⟨w.heap.size+1+1+1,0,I⟩ (O a5 m5 c5)).setCell ⟨w.heap.size+1+1+1,1,I⟩ (X s5)).heap[k]?=W.heap[k]?:=fun W k hk=>by rw[bS _ _ _ _ hk,bS _ _ _ _ hk]
  have n2:sd 2 j (w.heap.size+1+1):=fun cs fr e=>by rw[e2]at e;cases e
  have n3:sd 2 j (w.heap.size+1+1+1):=fun cs fr e=>by rw[e3]at e;cases e
  have hK:Ka 2 j ((((j.setCell ⟨w.heap.size+1+1,0,I⟩ (O a4 m4 c4)).setCell ⟨w.heap.size+1+1,1,I⟩ (X s4)).setCell ⟨w.heap.size+1+1+1,0,I⟩ (O a5 m5 c5)).setCell ⟨w.heap.size+1+1+1,1,I⟩ (X s5)):=
   ((((Ka.refl _ j).y n2 _).y (n2.set _ _) _).y ((n3.set _ _).set _ _) _).y (((n3.set _ _).set _ _).set _ _) _
  exact⟨eA,((k2 _ _ oM).trans (k1 _ oM)).trans e1,a4,m4,c4,s4,a5,m5,c5,s5,(k2 _ _ oM).trans (vk e2 _ _),(aA.ext eA).keep hK,vk ((k1 _ oM).trans e3) _ _,aB.keep hK⟩
 have aQ:Nd ((((j.setCell ⟨w.heap.size+1+1,0,I⟩ (O a4 m4 c4)).setCell ⟨w.heap.size+1+1,1,I⟩ (X s4)).setCell ⟨w.heap.size+1+1+1,0,I⟩ (O a5 m5 c5)).setCell ⟨w.heap.size+1+1+1,1,I⟩ (X s5)) (Oa #[O a3 m3 c3]) ((x.natAbs:Int)%(y.natAbs:Int)):=by
  refine au.keep ?_;have e2:j.heap[w.heap.size+1+1]?=Y (Ob #[O I 0 0,X false] 179 (0,0)):=aa.e (by rw[ig,ig];simp);have e3:j.heap[w.heap.size+1+1+1]?=Y (Ob #[O I 0 0,X false] 179 (0,0)):=aa.e (by rw[ig];simp);have n2:sd 2 j (w.heap.size+1+1):=fun cs fr e=>by rw[e2]at e;cases e
  have n3:sd 2 j (w.heap.size+1+1+1):=fun cs fr e=>by rw[e3]at e;cases e
  exact((((Ka.refl _ j).y n2 _).y (n2.set _ _) _).y ((n3.set _ _).set _ _) _).y (((n3.set _ _).set _ _).set _ _) _
 have ao:=Aa ay;clear ay;by_cases hA:s=false\/(x.natAbs:Int)%(y.natAbs:Int)=0
 ·have ak:=AK s K ap.o aP.o hy hA;have L:=Aa ak;clear ak;cases s
  ·go_upto_if 34 with fail;go_cut [38] (PG w (O R m' c') K x y)
   case first =>
    go_wp2;go_meet;exact⟨_,by rw[<-L.o.2];exact ao.o,L.o.1⟩
   case rest =>
    obtain⟨q,hS,hq⟩:=hcut;have HS:=Aa hS;obtain⟨hx,l,aq,mq,cq,sq,ar,mr,cr,sr,d,h4,f,h6⟩:=hS;have b0:=Da l (i:=0) (u:=O R m' c') rfl;have b1:=Da l (i:=1) (u:=X K) rfl;have q0:=Da d (i:=0) (u:=O aq mq cq) rfl;have q1:=Da d (i:=1) (u:=X sq) rfl;have r0:=Da f (i:=0) (u:=O ar mr cr) rfl;have r1:=Da f (i:=1) (u:=X sr) rfl;have ac:=Za d 0;have ad:=Za d 1;have ae:=Za f 0;have af:=Za f 1;have ai:=Ya d;have aj:=Ya f;have ab:=Aa l;clear d f l;go_upto_if 43 with fail;go_cut [44] (fun _ W=>Qn w (O R m' c') K (x/y) (x%y) W)
    case first =>
     cases K
     ·go_wp2;go_meet;simp at hq;rw[<-hq];exact HS.o
     ·go_wp2_with(first|((go_at_call 287;(with_reducible refine(kv _ (Oa #[O aq mq cq,X sq]) q ?_).mono ?_);(refine h4.ext ?_;exact eA);rintro e w9 ⟨r9,rfl,ag,ah⟩;obtain⟨a9,m9,c9,s9,rfl⟩:=ag.form;obtain⟨aR,aT⟩:=ah.cells)));go_meet;simp at hq;rw[<-hq];exact(HS.o.ext ah).setQ ag
    case rest =>
     clear hx h4 h6 b0 b1 q0 q1 r0 r1 ac ad ae af ai aj HS hq ab;obtain⟨wd,rfl⟩:∃W,W=wc:=⟨_,rfl⟩;have hS:=hcut;have HS:=Aa hS;obtain⟨hx,l,aq,mq,cq,sq,ar,mr,cr,sr,d,h4,f,h6⟩:=hS;have b0:=Da l (i:=0) (u:=O R m' c') rfl;have b1:=Da l (i:=1) (u:=X K) rfl;have q0:=Da d (i:=0) (u:=O aq mq cq) rfl;have q1:=Da d (i:=1) (u:=X sq) rfl;have r0:=Da f (i:=0) (u:=O ar mr cr) rfl;have r1:=Da f (i:=1) (u:=X sr) rfl;have ac:=Za d 0;have ad:=Za d 1;have ae:=Za f 0;have af:=Za f 1;have ai:=Ya d;have aj:=Ya f;have ab:=Aa l;clear d f l;have p:=Po q0;have r:=Po q1;have t:=Po r0;have z:=Po r1;go_wp2
     go_region_with (fail)
     all_goals go_wp2
     all_goals exact bR (v:=Oe #[Oa #[O aq mq cq,X sq],Oa #[O ar mr cr,X sr],C M 0]) (by simp[results,Tryz.results291,go_sem,q0,q1,r0,r1,p,r,t,z]) rfl ⟨_,_,rfl,by(try simp only[p,r,t,z]);exact h4.ext eA,by(try simp only[p,r,t,z]);exact h6.ext eA,by(try simp only[p,r,t,z]);(repeat(first|with_reducible assumption|with_reducible refine Ba.drew ?_))⟩
  ·have h0:(x.natAbs:Int)%(y.natAbs:Int)=0:=by simpa using hA
   have br:((x.natAbs:Int)%(y.natAbs:Int)==0)=true:=by simpa using h0
   have H0:=Aa h0;clear h0 hA;go_upto_if 34 with (first|((go_at_call 273;(with_reducible refine(Bm _ (Oa #[O a3 m3 c3]) ((x.natAbs:Int)%(y.natAbs:Int)) ?_).mono ?_);(refine aQ.ext ?_;exact eA);rintro e w5 ⟨rfl,aD⟩;obtain⟨⟨bw,bC⟩,bn,bo,bp,bq⟩:=Tt w aD)));go_cut [38] (PG w (O R m' c') K x y)
   case first =>
    go_wp2;go_meet;exact⟨_,by rw[<-L.o.2];exact ao.o.ext aD,L.o.1⟩
   case rest =>
    obtain⟨q,hS,hq⟩:=hcut;have HS:=Aa hS;obtain⟨hx,l,aq,mq,cq,sq,ar,mr,cr,sr,d,h4,f,h6⟩:=hS;have b0:=Da l (i:=0) (u:=O R m' c') rfl;have b1:=Da l (i:=1) (u:=X K) rfl;have q0:=Da d (i:=0) (u:=O aq mq cq) rfl;have q1:=Da d (i:=1) (u:=X sq) rfl;have r0:=Da f (i:=0) (u:=O ar mr cr) rfl;have r1:=Da f (i:=1) (u:=X sr) rfl;have ac:=Za d 0;have ad:=Za d 1;have ae:=Za f 0;have af:=Za f 1;have ai:=Ya d;have aj:=Ya f;have ab:=Aa l;clear d f l;go_upto_if 43 with fail;go_cut [44] (fun _ W=>Qn w (O R m' c') K (x/y) (x%y) W)
    case first =>
     cases K
     ·go_wp2;go_meet;simp at hq;rw[<-hq];exact HS.o
     ·go_wp2_with(first|((go_at_call 287;(with_reducible refine(kv _ (Oa #[O aq mq cq,X sq]) q ?_).mono ?_);(refine h4.ext ?_;exact eA);rintro e w9 ⟨r9,rfl,ag,ah⟩;obtain⟨a9,m9,c9,s9,rfl⟩:=ag.form;obtain⟨aR,aT⟩:=ah.cells)));go_meet;simp at hq;rw[<-hq];exact(HS.o.ext ah).setQ ag
    case rest =>
     clear hx h4 h6 b0 b1 q0 q1 r0 r1 ac ad ae af ai aj HS hq ab;obtain⟨wd,rfl⟩:∃W,W=wc:=⟨_,rfl⟩;have hS:=hcut;have HS:=Aa hS;obtain⟨hx,l,aq,mq,cq,sq,ar,mr,cr,sr,d,h4,f,h6⟩:=hS;have b0:=Da l (i:=0) (u:=O R m' c') rfl;have b1:=Da l (i:=1) (u:=X K) rfl;have q0:=Da d (i:=0) (u:=O aq mq cq) rfl;have q1:=Da d (i:=1) (u:=X sq) rfl;have r0:=Da f (i:=0) (u:=O ar mr cr) rfl;have r1:=Da f (i:=1) (u:=X sr) rfl;have ac:=Za d 0;have ad:=Za d 1;have ae:=Za f 0;have af:=Za f 1;have ai:=Ya d;have aj:=Ya f;have ab:=Aa l;clear d f l;have p:=Po q0;have r:=Po q1;have t:=Po r0;have z:=Po r1;go_wp2
     go_region_with (fail)
     all_goals go_wp2
     all_goals exact bR (v:=Oe #[Oa #[O aq mq cq,X sq],Oa #[O ar mr cr,X sr],C M 0]) (by simp[results,Tryz.results291,go_sem,q0,q1,r0,r1,p,r,t,z]) rfl ⟨_,_,rfl,by(try simp only[p,r,t,z]);exact h4.ext eA,by(try simp only[p,r,t,z]);exact h6.ext eA,by(try simp only[p,r,t,z]);(repeat(first|with_reducible assumption|with_reducible refine Ba.drew ?_))⟩
 ·exfalso;rcases aV with h|h
  ·exact hA (.inl (by rw[ap.o];simp;omega))
  ·exact hA (.inr (Int.emod_eq_zero_of_dvd (by simpa using Int.natAbs_dvd.2 (Int.dvd_natAbs.2 h))))
def Cb(w:Z)(v:J)(q:Rat):Prop:=
 ∃a m c s a2 m2 c2,v=Oa #[O a m c,X s,O a2 m2 c2]/\qe w (Oa #[O a m c,X s]) q.num/\Nd w (Oa #[O a2 m2 c2]) ((q.den:Int)-1)
section
variable {w w':Z} {v:J} {q:Rat} {a a2:Option Od} {m c m2 c2:Nat} {s:Bool}
def Cb.ext(h:Cb w v q)(k:Ba w w'):Cb w' v q:=by obtain⟨a,m,c,s,a2,m2,c2,rfl,d,e⟩:=h;exact⟨a,m,c,s,a2,m2,c2,rfl,d.ext k,e.ext k⟩
def Cb.keep(h:Cb w v q)(k:Ka 2 w w'):Cb w' v q:=by obtain⟨a,m,c,s,a2,m2,c2,rfl,d,e⟩:=h;exact⟨a,m,c,s,a2,m2,c2,rfl,d.keep k,e.keep k⟩
def Cb.form(h:Cb w v q):∃a m c s a2 m2 c2,v=Oa #[O a m c,X s,O a2 m2 c2]:=by obtain⟨a,m,c,s,a2,m2,c2,rfl,d,e⟩:=h;exact⟨a,m,c,s,a2,m2,c2,rfl⟩
def Cb.top(h:Cb w (Oa #[O a m c,X s,O a2 m2 c2]) q):qe w (Oa #[O a m c,X s]) q.num:=by obtain⟨a,m,c,s,a2,m2,c2,e,d,f⟩:=h;cases e;exact d
def Cb.rest(h:Cb w (Oa #[O a m c,X s,O a2 m2 c2]) q):Nd w (Oa #[O a2 m2 c2]) ((q.den:Int)-1):=by obtain⟨a,m,c,s,a2,m2,c2,e,f,d⟩:=h;cases e;exact d
def Cb.mk(d:qe w (Oa #[O a m c,X s]) q.num)(e:Nd w (Oa #[O a2 m2 c2]) ((q.den:Int)-1)):Cb w (Oa #[O a m c,X s,O a2 m2 c2]) q:=
 ⟨_,_,_,_,_,_,_,rfl,d,e⟩
def Nd.nil(w:Z):Nd w (Oa #[O I 0 0]) 0:=⟨_,[],rfl,Jc.nil _ _,pg.nil _,rfl⟩
def Cb.zero(w:Z):Cb w (Oa #[O I 0 0,X false,O I 0 0]) 0:=Cb.mk (qe.nil w) (Nd.nil w)
end
def Rb(k:Nat)(q:Rat):Prop:=Lm k q.num/\Lm k (q.den:Int)
def Rb.mono{j k:Nat}{q:Rat}(h:Rb j q)(d:j<=k):Rb k q:=⟨h.1.mono d,h.2.mono d⟩
def Uf(w:Z)(q:Rat)(e:Ending)(w':Z):Prop:=∃r,e=.returned r/\Cb w' r q/\Ba w w'
def Wb:Nat:=1000000
def Pg(q:Rat):0<(q.den:Int):=by have:=q.den_pos;omega
def Qq{k:Nat}(d:1<=k):Lm k 1:=Lm.mono (j:=1) (by unfold Lm B;omega) d
def Is(w:Z)(v:J)(q:Rat)(h:Cb w v q):Calls Tryz.prog 201 #[v] w fun e w'=>e=.returned (C M q.num.sign)/\Ba w w':=by obtain⟨a,m,c,s,a2,m2,c2,rfl⟩:=h.form;go_in;go_wp2_with(((go_at_call 244;(with_reducible refine(kN _ (Oa #[O a m c,X s]) q.num ?_).mono ?_);(refine h.top.ext ?_;exact eA);rintro e l ⟨rfl,d⟩;obtain⟨⟨i,j⟩,f⟩:=Id w d)));go_ret;exact⟨rfl,eA⟩
def ry(w:Z)(v:J)(q:Rat)(h:Cb w v q)(t:Rb Wb q):Calls Tryz.prog 252 #[v] w (Lg w (q.den:Int)):=by
 obtain⟨a,m,c,s,a2,m2,c2,rfl⟩:=h.form;have ac:=Pg q;have z:Va (Lm Rc ((q.den:Int)-1)):=Aa ((t.2.mono dM).le oM oM);have y:Va (Lm Rc 1):=Aa (Qq dM);have hr:=h.rest;clear t h;go_in;go_wp2;go_region_held3 (fun W=>W.cell? ⟨w.heap.size,2,I⟩=Y (O a2 m2 c2)) ((repeat' (with_reducible refine And.intro ?_ ?_))<;>(first|(go_simp;done)|(refine hx1.d ?_;go_simp;done))) (first|((go_at_call 281;(with_reducible refine(EB _ 1 dM dM).mono ?_);rintro e w1 ⟨r1,rfl,d,hx1,aa⟩;obtain⟨K,m1,R,rfl⟩:=d.u.form;obtain⟨⟨l,ad⟩,u,i⟩:=Mb w hx1))|((go_at_call 280;(with_reducible refine(Do _ (Oa #[O a2 m2 c2]) (Oa #[O K m1 R]) ((q.den:Int)-1) 1 1 ?_ ?_ z.o y.o dM oM).mono ?_);(refine hr.ext ?_;exact eA);(refine d.u.ext ?_;exact eA);rintro e w2 ⟨r2,rfl,f,r,ab⟩;obtain⟨L,m3,c3,rfl⟩:=f.u.form;obtain⟨⟨p,ae⟩,x,j⟩:=Mb w r)))
 all_goals go_wp2
 refine bR (v:=Oa #[O L m3 c3,X false]) (by simp[results,Tryz.results252,go_sem,l,p,i,j]) rfl ⟨_,rfl,qe.keep (w:=w2) ?_ kA,eA,dA⟩;refine⟨_,_,_,_,rfl,by simp,?_⟩;have e:(((q.den:Int).natAbs:Nat):Int)=(q.den:Int)-1+1*1:=oM;rw[e];exact f.u
def Br(w:Z)(v:J)(q:Rat)(h:Cb w v q)(d:Rb Wb q):Calls Tryz.prog 252 #[v] w (lk w (q.den:Int)):=Em (ry w v q h d)
def vQ(w:Z)(v:J)(n:Int)(h:qe w v n):Calls Tryz.prog 283 #[v] w (Uf w (n:Rat)):=by obtain⟨a,m,c,s,rfl⟩:=h.form;go_in;go_wp2;exact bR (v:=Oa #[O a m c,X s,O I 0 0]) (by simp[results,Tryz.results283,go_sem]) rfl ⟨_,rfl,Cb.mk (h.ext eA) (Nd.nil _),eA⟩
def sK(w:Z)(n:Int)(K:-9223372036854775808<=n)(L:n<=9223372036854775807):Calls Tryz.prog 254 #[C M n] w (Uf w (n:Rat)):=by go_in;go_wp2_with(first|((go_at_call 284;(with_reducible refine(RM _ n K L).mono ?_);rintro e w1 ⟨r1,rfl,d,r⟩;obtain⟨u,m1,y,s1,rfl⟩:=d.form;obtain⟨⟨l,R⟩,i⟩:=Id w r))|((go_at_call 283;(with_reducible refine(vQ _ (Oa #[O u m1 y,X s1]) n d).mono ?_);rintro e w2 ⟨r2,rfl,f,t⟩;obtain⟨a2,m2,c2,s2,x,m3,z,rfl⟩:=f.form;obtain⟨⟨p,aa⟩,j⟩:=Id w t)));exact bR (v:=Oa #[O a2 m2 c2,X s2,O x m3 z]) (by simp[results,Tryz.results254,go_sem,l,p,i,j]) rfl ⟨_,rfl,f.keep kA,eA⟩
def EM(w:Z)(v:J)(q:Rat)(h:Cb w v q):Calls Tryz.prog 258 #[v] w (Uf w (-q)):=by
 obtain⟨a,m,c,s,a2,m2,c2,rfl⟩:=h.form;go_in;go_wp2;go_region_held3 (fun W=>W.cell? ⟨w.heap.size,0,I⟩=Y (O a m c)/\W.cell? ⟨w.heap.size,1,I⟩=Y (X s)/\W.cell? ⟨w.heap.size,2,I⟩=Y (O a2 m2 c2)) ((repeat' (with_reducible refine And.intro ?_ ?_))<;>(first|(go_simp;done)|(refine hx1.d ?_;go_simp;done))) (((go_at_call 287;(with_reducible refine(kv _ (Oa #[O a m c,X s]) q.num ?_).mono ?_);(refine h.top.ext ?_;exact eA);rintro e y ⟨x,rfl,d,hx1⟩;obtain⟨l,t,p,u,rfl⟩:=d.form;obtain⟨⟨i,r⟩,j,f⟩:=Mb w hx1)))
 all_goals go_wp2
 exact bR (v:=Oa #[O l t p,X u,O a2 m2 c2]) (by simp[results,Tryz.results258,go_sem,i,f]) rfl ⟨_,rfl,Cb.keep (Cb.mk d (h.rest.ext eA)) kA,eA⟩
def rg(n d:Int):Int:=if d<0 then -(Int.gcd n d:Int)else (Int.gcd n d:Int)
def nD{n d:Int}(i:d≠0):rg n d≠0/\rg n d ∣ n/\rg n d ∣ d/\n/rg n d=(Rat.divInt n d).num/\d/rg n d=((Rat.divInt n d).den:Int):=by
 have j:0<Int.gcd n d:=Int.gcd_pos_of_ne_zero_right n i;have f:(Int.gcd n d:Int) ∣ n:=Int.gcd_dvd_left ..;have e:(Int.gcd n d:Int) ∣ d:=Int.gcd_dvd_right ..;rw[Rat.num_divInt,Rat.den_divInt,if_neg i,Int.gcd_comm d n];unfold rg;by_cases h:d<0
 ·rw[if_pos h];refine⟨by omega,Int.neg_dvd.2 f,Int.neg_dvd.2 e,?_,?_⟩
  ·rw[Int.sign_eq_neg_one_of_neg h,Int.ediv_neg,Int.neg_mul,Int.one_mul,Int.neg_ediv_of_dvd f]
  ·rw[Int.ediv_neg,Int.natCast_ediv,Int.ofNat_natAbs_of_nonpos oM,Int.neg_ediv_of_dvd e]
 ·rw[if_neg h];refine⟨by omega,f,e,?_,?_⟩
  ·rw[Int.sign_eq_one_of_pos oM,Int.one_mul]
  ·rw[Int.natCast_ediv,Int.natAbs_of_nonneg oM]
def KH{k:Nat}{n d:Int}(i:d≠0)(h:Lm k d):Lm k (rg n d):=by
 have e:(Int.gcd n d:Int)<=d.natAbs:=Int.le_of_dvd oM (Int.dvd_natAbs.2 (Int.gcd_dvd_right ..));have f:0<=(Int.gcd n d:Int):=Int.natCast_nonneg _;unfold rg Lm at *
 split<;>omega
def Ur{n d:Int}(e:d≠0){k:Nat}(h:Lm k d):Lm k ((Rat.divInt n d).den:Int):=by
 have f:(Rat.divInt n d).den<=d.natAbs:=by
  rw[Rat.den_divInt,if_neg e];exact Nat.div_le_self _ _
 unfold Lm at *;omega
def Ou{n d:Int}(e:d≠0){k:Nat}(h:Lm k n):Lm k (Rat.divInt n d).num:=by
 have f:(Rat.divInt n d).num.natAbs<=n.natAbs:=by
  rw[Rat.num_divInt,Int.natAbs_ediv_of_dvd]
  ·rw[Int.natAbs_mul];have:d.sign.natAbs=1:=by rw[Int.natAbs_sign];simp[e]
   rw[this,Nat.one_mul];exact Nat.div_le_self _ _
  ·exact Int.dvd_trans (Int.gcd_dvd_right ..) (Int.dvd_mul_left ..)
 unfold Lm at *;omega
def ZB(W:Z)(b:Nat)(n:Int):Prop:=∃a m c s,W.heap[b]?=Y (Ob #[O a m c,X s] 179 (0,0))/\qe W (Oa #[O a m c,X s]) n
section
variable {W W':Z} {b b':Nat} {n n':Int}
def ZB.ext(h:ZB W b n)(k:Ba W W'):ZB W' b n:=by obtain⟨a,m,c,s,d,e⟩:=h;exact⟨a,m,c,s,k.e d,e.ext k⟩
def ZB.not(h:ZB W b n):sd 2 W b:=by obtain⟨a,m,c,s,d,i⟩:=h;intro cs f e;rw[d]at e;cases e
def ZB.rd(h:ZB W b n):∃a m c s,W.cell? ⟨b,0,I⟩=Y (O a m c)/\W.cell? ⟨b,1,I⟩=Y (X s)/\W.frozen? ⟨b,0,I⟩=false/\W.frozen? ⟨b,1,I⟩=false/\b<W.heap.size/\qe W (Oa #[O a m c,X s]) n:=by obtain⟨a,m,c,s,d,e⟩:=h;exact⟨a,m,c,s,Da d (i:=0) rfl,Da d (i:=1) rfl,Za d 0,Za d 1,Ya d,e⟩
def ZB.put{a:Option Od}{m c:Nat}{s:Bool}(h:ZB W b n)(f:qe W (Oa #[O a m c,X s]) n'):ZB ((W.setCell ⟨b,0,I⟩ (O a m c)).setCell ⟨b,1,I⟩ (X s)) b n':=by have d:=h.not;obtain⟨i,p,j,r,e,l⟩:=h;exact⟨a,m,c,s,vk e _ _,f.keep (((Ka.refl _ W).y d _).y (d.set _ _) _)⟩
def ZB.other{p:Od}(h:ZB W b n)(i:p.block≠b)(j:sd 2 W p.block)(u:J):ZB (W.setCell p u) b n:=by obtain⟨a,m,c,s,d,f⟩:=h;exact⟨a,m,c,s,(bS _ _ _ _ (fun e=>i e.symm)).trans d,f.keep ((Ka.refl _ W).y j _)⟩
def ZB.new{W0:Z}{a:Option Od}{m c:Nat}{s:Bool}(e:qe W0 (Oa #[O a m c,X s]) n)(d:b=W0.heap.size):ZB (W0.alloc (Ob #[O a m c,X s] 179)) b n:=
 ⟨a,m,c,s,kc _ _ _ d,e.ext ((eR _).alloc _)⟩
end
def NG(w:Z)(e:Nat)(n d g:Int)(_:J)(W:Z):Prop:=
 Ba w W/\ZB W w.heap.size n/\ZB W (w.heap.size+1) d/\W.heap[w.heap.size+1+1]?=Y (Ob #[O I 0 0,X false,O I 0 0] 181 (0,0))/\ZB W e g
def vy(w:Z)(va vb:J)(n d:Int)(ha:qe w va n)(hb:qe w vb d)(R:Lm Yd n)(l:Lm Yd d)(hd:d≠0):Calls Tryz.prog 260 #[va,vb] w (Uf w (Rat.divInt n d)):=by
 obtain⟨a,m,c,s,rfl⟩:=ha.form;obtain⟨a',m',c',s',rfl⟩:=hb.form;have ag:=Aa hb.sgn;obtain⟨ai,ak,aj,au,ao⟩:=nD (n:=n) hd;have aH:=Aa R;have aG:=Aa l;have ae:=Aa (KH (n:=n) hd l);have af:Va (Lm Rc n):=Aa (R.mono dM);have ad:Va (Lm Rc d):=Aa (l.mono dM);have aM:=Aa au;have aL:=Aa ao;have aK:=Aa ak;have aJ:=Aa aj;have aI:Va (Lm Rc ((Rat.divInt n d).den:Int)):=Aa (Ur hd (l.mono dM));have H1:Va (Lm Rc 1):=Aa (Qq dM);have bt:=Pg (Rat.divInt n d);clear R l au ao ak aj;go_in;go_upto_if 10 with (((go_at_call 290;(with_reducible refine(SM _ (Oa #[O a m c,X s]) (Oa #[O a' m' c',X s']) n d ?_ ?_ af.o ad.o).mono ?_);(refine ha.ext ?_;exact eA);(refine hb.ext ?_;exact eA);rintro e j ⟨r1,rfl,K,p⟩;obtain⟨a1,m1,c1,s1,rfl⟩:=K.form;obtain⟨⟨aO,aT⟩,ay,az,aA⟩:=Sb w p;have x:w.heap.size<j.heap.size+1:=oM;have y:w.heap.size+1<j.heap.size+1:=oM;have z:w.heap.size+1+1<j.heap.size+1:=oM)));have L:NG w j.heap.size n d (Int.gcd n d:Nat) (X true) (j.alloc (Ob #[O a1 m1 c1,X s1] 179)):=by
  refine⟨eA,?_,?_,?_,ZB.new K rfl⟩
  ·refine ZB.ext (W:=w.alloc (Ob #[O a m c,X s] 179)) (ZB.new ha rfl) eA
  ·refine ZB.ext (W:=(w.alloc (Ob #[O a m c,X s] 179)).alloc (Ob #[O a' m' c',X s'] 179)) (ZB.new (hb.ext eA) sM) eA
  ·exact(p.D ((Below.refl _ _).alloc (nE _) _) p.size).e (by rw[ig];simp)
 go_cut [11] (NG w j.heap.size n d (rg n d))
 case first =>
  cases s'
  ·have e:rg n d=(Int.gcd n d:Nat):=by have:=ag.o;unfold rg;rw[if_neg (by simpa using this)]
   have E:=Aa e;clear e;go_wp2;go_meet;rw[E.o];exact L
  ·have e:rg n d = -((Int.gcd n d:Nat):Int):=by have:=ag.o;unfold rg;rw[if_pos (by simpa using this)]
   have E:=Aa e;clear e;go_wp2_with(((go_at_call 287;(with_reducible refine(kv _ (Oa #[O a1 m1 c1,X s1]) (Int.gcd n d:Nat) ?_).mono ?_);(refine K.ext ?_;exact eA);rintro e w2 ⟨r2,rfl,av,f⟩;obtain⟨a2,m2,c2,s2,rfl⟩:=av.form;obtain⟨⟨bs,bu⟩,a9,ba,bb⟩:=Sb w f;have a0:=f.lt (n:=j.heap.size) (by go_simp))));go_meet;rw[E.o];obtain⟨i1,i2,i3,i4,i5⟩:=L;have hN:=(i5.ext f).not;exact⟨eA,((i2.ext f).other dO hN _).other dO (hN.set _ _) _,((i3.ext f).other dO hN _).other dO (hN.set _ _) _,
    by rw[bS _ _ _ _ dO,bS _ _ _ _ dO];exact f.e i4,(i5.ext f).put av⟩
 case rest =>
  have bH:¬j.heap.size=w.heap.size:=oM;have bI:¬w.heap.size=j.heap.size:=oM;have bJ:¬j.heap.size=w.heap.size+1:=oM;have bK:¬w.heap.size+1=j.heap.size:=oM;clear L p aO aT ay az aA x y z K;obtain⟨hx,b1,b2,t,b4⟩:=hcut;have bA:=b1.not;have bB:=b2.not;have bC:sd 2 wc (w.heap.size+1+1):=fun cs fr e=>by rw[t]at e;cases e
  have aF:w.heap.size+1+1<wc.heap.size:=Ya t;have r0:=Da t (i:=0) (u:=O I 0 0) rfl;have r1:=Da t (i:=1) (u:=X false) rfl;have r2:=Da t (i:=2) (u:=O I 0 0) rfl;have bL:=Za t 0;have bM:=Za t 1;have bN:=Za t 2;obtain⟨a3,m3,c3,s3,n0,n1,bF,bG,bl,aZ⟩:=b1.rd;obtain⟨a4,m4,c4,s4,d0,d1,bo,bp,bm,aY⟩:=b2.rd;obtain⟨a5,m5,c5,s5,g0,g1,bq,br,bn,ax⟩:=b4.rd;clear b1 b2 t b4;go_wp2_with(first|((go_at_call 291;(with_reducible refine(vD _ (Oa #[O a3 m3 c3,X s3]) (Oa #[O a5 m5 c5,X s5]) n (rg n d) ?_ ?_ aH.o ae.o ai (.inr aK.o)).mono ?_);(refine aZ.ext ?_;exact eA);(refine ax.ext ?_;exact eA);rintro e w3 ⟨vq,vr,rfl,al,aU,r⟩;obtain⟨aq,mq,cq,sq,rfl⟩:=al.form;obtain⟨ar,mr,cr,sr,rfl⟩:=aU.form;obtain⟨⟨aP,bv⟩,bc,be,aB⟩:=Sb w r;have a8:=r.lt (n:=j.heap.size) (by go_simp)))|((go_at_call 291;(with_reducible refine(vD _ (Oa #[O a4 m4 c4,X s4]) (Oa #[O a5 m5 c5,X s5]) d (rg n d) ?_ ?_ aG.o ae.o ai (.inr aJ.o)).mono ?_);(refine(aY.ext r).keep kA);(refine(ax.ext r).keep kA);rintro e w4 ⟨vq,vr,rfl,am,aV,ac⟩;obtain⟨ap,mp,cp,sp,rfl⟩:=am.form;obtain⟨ar,mr,cr,sr,rfl⟩:=aV.form;obtain⟨⟨aQ,bw⟩,bf,bg,aC⟩:=Sb w ac)));have aa:=(am.dig).keep (w':=(w4.setCell ⟨w.heap.size+1,0,I⟩ (O ap mp cp)).setCell ⟨w.heap.size+1,1,I⟩ (X sp)) kA;have an:=((al.keep (w':=(w3.setCell ⟨w.heap.size,0,I⟩ (O aq mq cq)).setCell ⟨w.heap.size,1,I⟩ (X sq)) kA).ext ac).keep (w':=(w4.setCell ⟨w.heap.size+1,0,I⟩ (O ap mp cp)).setCell ⟨w.heap.size+1,1,I⟩ (X sp)) kA;rw[aL.o]at aa;rw[aM.o]at an;have e5:(((Rat.divInt n d).den:Int).natAbs:Int)=((Rat.divInt n d).den:Int):=oM;rw[e5]at aa;clear e5;go_region_held3 (fun W=>W.cell? ⟨w.heap.size,0,I⟩=Y (O aq mq cq)/\W.cell? ⟨w.heap.size,1,I⟩=Y (X sq)/\W.cell? ⟨w.heap.size+1,0,I⟩=Y (O ap mp cp)) ((repeat' (with_reducible refine And.intro ?_ ?_))<;>(first|(go_simp;done)|(refine p.d ?_;go_simp;done))) (first|((go_at_call 281;(with_reducible refine(tr _ 1 dM dM).mono ?_);rintro e w5 ⟨r5,rfl,aw,aW⟩;obtain⟨a6,m6,c6,rfl⟩:=aw.u.form;obtain⟨⟨aR,bx⟩,bh,bi,aD⟩:=Sb w aW))|((go_at_call 280;(with_reducible refine(Yr _ (Oa #[O ap mp cp]) (Oa #[O a6 m6 c6]) ((Rat.divInt n d).den:Int) 1 (-1) ?_ ?_ aI.o H1.o dM oM).mono ?_);(refine aa.ext ?_;exact eA);(refine aw.u.ext ?_;exact eA);rintro e w6 ⟨r6,rfl,ab,aX⟩;obtain⟨a7,m7,c7,rfl⟩:=ab.u.form;obtain⟨⟨aS,bz⟩,bj,bk,aE⟩:=Sb w aX)))
  all_goals go_wp2
  have e7:((Rat.divInt n d).den:Int) + -1*1=((Rat.divInt n d).den:Int)-1:=oM;rw[e7]at ab;clear e7;have ah:Cb w6 (Oa #[O aq mq cq,X sq,O a7 m7 c7]) (Rat.divInt n d):=Cb.mk (an.ext eA) ab.u;refine bR (v:=Oa #[O aq mq cq,X sq,O a7 m7 c7]) (by simp[results,Tryz.results260,go_sem,aP,aQ,aR,aS,aF,aB,aC,aD,aE,r0,r1,r2]) rfl ⟨_,rfl,ah.keep kA,?_⟩;have bD:Ba w w3:=hx.trans r;have bE:Ba w w4:=Ba.trans eA ac;exact eA
def tJ(w:Z)(va vb:J)(n d:Int)(ha:qe w va n)(hb:qe w vb d)(t:Lm Yd n)(u:Lm Yd d):Calls Tryz.prog 293 #[va,vb] w fun e w'=>∃r,e=.returned (Oe #[r,C M (if d=0 then 9 else 0)])/\Cb w' r (Rat.divInt n d)/\Ba w w':=by
 obtain⟨a,m,c,s,rfl⟩:=ha.form;obtain⟨a',m',c',s',rfl⟩:=hb.form;have R:=Aa t;have L:=Aa u;clear t u;have p:=hb.dig;by_cases l:d=0
 ·have hz:((d.natAbs:Int)==0)=true:=by simp[l]
  have Hd:=Aa l;clear l;go_in;go_wp2_with(((go_at_call 273;(with_reducible refine(Bm _ (Oa #[O a' m' c']) d.natAbs ?_).mono ?_);(refine p.ext ?_;exact eA);rintro e w1 ⟨rfl,j⟩;obtain⟨⟨i,ab⟩,y,z,f⟩:=Sb w j)));refine bR (v:=Oe #[Oa #[O I 0 0,X false,O I 0 0],C M 9]) (by simp[results,Tryz.results293,go_sem,i,f]) rfl ⟨Oa #[O I 0 0,X false,O I 0 0],by first|rfl|rw[if_pos Hd.o],?_,eA⟩
  first|exact Cb.zero _|(rw[Hd.o,Rat.divInt_zero];exact Cb.zero _)
 ·have hz:((d.natAbs:Int)==0)=false:=by simp;omega
  go_in;go_wp2_with(first|((go_at_call 273;(with_reducible refine(Bm _ (Oa #[O a' m' c']) d.natAbs ?_).mono ?_);(refine p.ext ?_;exact eA);rintro e w1 ⟨rfl,j⟩;obtain⟨⟨i,ab⟩,y,z,f⟩:=Sb w j))|((go_at_call 260;(with_reducible refine(vy _ (Oa #[O a m c,X s]) (Oa #[O a' m' c',X s']) n d ?_ ?_ R.o L.o l).mono ?_);(refine ha.ext ?_;exact eA);(refine hb.ext ?_;exact eA);rintro e w2 ⟨r2,rfl,x,ac⟩;obtain⟨a2,m2,c2,s2,a3,m3,c3,rfl⟩:=x.form;obtain⟨⟨aa,af⟩,ad,ae,K⟩:=Sb w ac)));exact bR (v:=Oe #[Oa #[O a2 m2 c2,X s2,O a3 m3 c3],C M 0]) (by simp[results,Tryz.results293,go_sem,i,aa,f,K]) rfl ⟨Oa #[O a2 m2 c2,X s2,O a3 m3 c3],by first|rfl|rw[if_neg l],x.keep kA,eA⟩
def Ba.t{a b:Z}(h:Ba a b){n:Nat}{G:Prop}(d:n<a.heap.size)(k:n<b.heap.size->G):G:=k (h.lt d)
def Lm.mul{j k:Nat}{x y:Int}(h:Lm j x)(l:Lm k y):Lm (j+k) (x*y):=by
 have e:B ^ (j+k)=B ^ j*B ^ k:=by rw[Int.pow_add]
 have r:=Tj zj j;have i:=Tj zj k;unfold Lm at *;have d:(x.natAbs:Int)<B ^ j:=oM;have f:(y.natAbs:Int)<B ^ k:=oM;have p:((x*y).natAbs:Int)<B ^ (j+k):=by
  rw[Int.natAbs_mul,e,Int.natCast_mul];exact Int.lt_of_le_of_lt (Int.mul_le_mul_of_nonneg_left (Int.le_of_lt f) oM) (Int.mul_lt_mul_of_pos_right d i)
 omega
def Lm.add{k:Nat}{x y:Int}(h:Lm k x)(d:Lm k y):Lm (k+1) (x+y):=by
 have e:B ^ (k+1)=B ^ k*16777216:=by rw[Int.pow_succ];rfl
 unfold Lm at *;rw[e];omega
def Py(p q:Rat):Rat.divInt (p.num*q.den+q.num*p.den) ((p.den:Int)*q.den)=p+q:=by rw[Rat.add_def',<-Rat.divInt_ofNat,Int.natCast_mul]
def Oy(p q:Rat):Rat.divInt (p.num*q.num) ((p.den:Int)*q.den)=p*q:=by rw[Rat.mul_def',<-Rat.divInt_ofNat,Int.natCast_mul]
def VE(p q:Rat):Rat.divInt (p.num*q.den) ((p.den:Int)*q.num)=p/q:=by rw[Rat.div_def,Rat.inv_def,<-Rat.divInt_mul_divInt,Rat.num_divInt_den]
def Ao(p q:Rat):(p.den:Int)*q.den≠0:=by have:=Int.mul_pos (Pg p) (Pg q);omega
def Rb.add{k:Nat}{p q:Rat}(h:Rb k p)(d:Rb k q):Rb (2*k+1) (p+q):=by rw[<-Py];refine⟨Ou (Ao p q) ?_,Ur (Ao p q) ((Lm.mul h.2 d.2).mono oM)⟩;rw[show 2*k+1=(k+k)+1 by omega];exact(h.1.mul d.2).add (d.1.mul h.2)
def Rb.mul{j k:Nat}{p q:Rat}(h:Rb j p)(d:Rb k q):Rb (j+k) (p*q):=by rw[<-Oy];exact⟨Ou (Ao p q) (h.1.mul d.1),Ur (Ao p q) (h.2.mul d.2)⟩
def Rb.neg{k:Nat}{p:Rat}(h:Rb k p):Rb k (-p):=⟨h.1.neg,h.2⟩
def Rb.sub{k:Nat}{p q:Rat}(h:Rb k p)(d:Rb k q):Rb (2*k+1) (p-q):=by rw[Rat.sub_eq_add_neg];exact h.add d.neg
def Rb.int{k:Nat}{n:Int}(h:Lm k n)(d:1<=k):Rb k (n:Rat):=⟨h,Qq d⟩
def Rb.div{j k:Nat}{p q:Rat}(h:Rb j p)(d:Rb k q)(l:1<=j+k):Rb (j+k) (p/q):=by
 by_cases i:q=0
 ·subst i;have:p/0=((0:Int):Rat):=by rw[Rat.div_def,Rat.inv_zero,Rat.mul_zero];rfl
  rw[this];exact Rb.int (by have:=Tj zj (j+k);unfold Lm;omega) l
 ·have r:q.num≠0:=fun e=>i (by rw[<-Rat.num_divInt_den q,e];simp);have f:(p.den:Int)*q.num≠0:=Int.mul_ne_zero (by have:=Pg p;omega) r;rw[<-VE];exact⟨Ou f (h.1.mul d.2),Ur f (h.2.mul d.1)⟩
def jd(p q:Rat):Int:=(p.num*q.den-q.num*p.den).sign
def xK(p q:Rat):jd p q<0 ↔ p<q:=by unfold jd;rw[Rat.lt_iff,Int.sign_neg_iff];omega
def yK(p q:Rat):0<jd p q ↔ q<p:=by unfold jd;rw[Rat.lt_iff,Int.sign_pos_iff];omega
def rH(w:Z)(va vb:J)(p q:Rat)(ha:Cb w va p)(hb:Cb w vb q)(d:Rb Wb p)(f:Rb Wb q):Calls Tryz.prog 214 #[va,vb] w fun e w'=>e=.returned (C M (jd p q))/\Ba w w'/\Dr w w':=by
 obtain⟨a,m,c,s,a2,m2,c2,rfl⟩:=ha.form;obtain⟨a',m',c',s',l,z,r,rfl⟩:=hb.form;have K:=Aa d;have L:=Aa f;have af:=ha.top;have ag:=hb.top;have R:Va (Lm Rc p.num):=Aa (d.1.mono dM);have aa:Va (Lm Rc q.num):=Aa (f.1.mono dM);have ab:Va (Lm Rc (p.den:Int)):=Aa (d.2.mono dM);have ac:Va (Lm Rc (q.den:Int)):=Aa (f.2.mono dM);have ad:Va (Lm Yd (p.num*q.den)):=Aa ((d.1.mul f.2).mono dM);have ae:Va (Lm Yd (q.num*p.den)):=Aa ((f.1.mul d.2).mono dM);have ax:Va (Lm Yd (p.num*q.num)):=Aa ((d.1.mul f.1).mono dM);have ay:Va (Lm Yd ((p.den:Int)*q.den)):=Aa ((d.2.mul f.2).mono dM);have az:Va (Lm Yd ((p.den:Int)*q.num)):=Aa ((d.2.mul f.1).mono dM);have i:Va (Lm Rc (p.num*q.den)):=Aa (ad.o.mono dM);have j:Va (Lm Rc (q.num*p.den)):=Aa (ae.o.mono dM);clear d f;go_in;go_wp2;go_region_held3 (fun W=>W.cell? ⟨w.heap.size,0,I⟩=Y (O a m c)/\W.cell? ⟨w.heap.size,1,I⟩=Y (X s)/\W.cell? ⟨w.heap.size,2,I⟩=Y (O a2 m2 c2)/\W.cell? ⟨w.heap.size+1,0,I⟩=Y (O a' m' c')/\W.cell? ⟨w.heap.size+1,1,I⟩=Y (X s')/\W.cell? ⟨w.heap.size+1,2,I⟩=Y (O l z r)) ((repeat' (with_reducible refine And.intro ?_ ?_))<;>(first|(go_simp;done)|(refine hx1.d ?_;go_simp;done))) (first|((go_at_call 252;(with_reducible refine(ry _ (Oa #[O a' m' c',X s',O l z r]) q ?_ L.o).mono ?_);(refine hb.ext ?_;exact eA);rintro e w1 ⟨r1,rfl,t,hx1,aF⟩;obtain⟨b1,n1,k1,t1,rfl⟩:=t.form;obtain⟨⟨aA,aK⟩,al,am⟩:=Mb w hx1))|((go_at_call 252;(with_reducible refine(ry _ (Oa #[O a m c,X s,O a2 m2 c2]) p ?_ K.o).mono ?_);(refine ha.ext ?_;exact eA);rintro e w3 ⟨r3,rfl,x,ai,aH⟩;obtain⟨b3,n3,k3,t3,rfl⟩:=x.form;obtain⟨⟨aC,aM⟩,ap,aq⟩:=Mb w ai))|((go_at_call 251;(with_reducible refine(Iw _ (Oa #[O a m c,X s]) (Oa #[O b1 n1 k1,X t1]) p.num (q.den:Int) ?_ ?_ R.o ac.o).mono ?_);(refine af.ext ?_;exact eA);(refine t.ext ?_;exact eA);rintro e w2 ⟨r2,rfl,u,ah,aG⟩;obtain⟨b2,n2,k2,t2,rfl⟩:=u.form;obtain⟨⟨aB,aL⟩,an,ao⟩:=Mb w ah))|((go_at_call 251;(with_reducible refine(Iw _ (Oa #[O a' m' c',X s']) (Oa #[O b3 n3 k3,X t3]) q.num (p.den:Int) ?_ ?_ aa.o ab.o).mono ?_);(refine ag.ext ?_;exact eA);(refine x.ext ?_;exact eA);rintro e w4 ⟨r4,rfl,y,aj,aI⟩;obtain⟨b4,n4,k4,t4,rfl⟩:=y.form;obtain⟨⟨aD,aO⟩,ar,au⟩:=Mb w aj))|((go_at_call 253;(with_reducible refine(UH _ (Oa #[O b2 n2 k2,X t2]) (Oa #[O b4 n4 k4,X t4]) (p.num*q.den) (q.num*p.den) ?_ ?_ i.o j.o).mono ?_);(refine u.ext ?_;exact eA);(refine y.ext ?_;exact eA);rintro e w5 ⟨rfl,ak,aJ⟩;obtain⟨⟨aE,aP⟩,av,aw⟩:=Mb w ak)))
 all_goals go_wp2
 go_ret;exact⟨rfl,eA,dA⟩
def Am(w:Z)(i j:J)(p q:Rat)(l:Cb w i p)(r:Cb w j q)(d:Rb Wb p)(f:Rb Wb q):Calls Tryz.prog 214 #[i,j] w fun e w'=>e=.returned (C M (jd p q))/\Ba w w':=Mu (rH w i j p q l r d f)
def mD(w:Z)(va vb:J)(p q:Rat)(ha:Cb w va p)(hb:Cb w vb q)(d:Rb Wb p)(f:Rb Wb q):Calls Tryz.prog 223 #[va,vb] w (Uf w (p*q)):=by
 obtain⟨a,m,c,s,a2,m2,c2,rfl⟩:=ha.form;obtain⟨a',m',c',s',i,y,j,rfl⟩:=hb.form;have aa:=Aa d;have ab:=Aa f;have ap:=ha.top;have aq:=hb.top;have ac:Va (Lm Rc p.num):=Aa (d.1.mono dM);have ad:Va (Lm Rc q.num):=Aa (f.1.mono dM);have ae:Va (Lm Rc (p.den:Int)):=Aa (d.2.mono dM);have af:Va (Lm Rc (q.den:Int)):=Aa (f.2.mono dM);have ag:Va (Lm Yd (p.num*q.den)):=Aa ((d.1.mul f.2).mono dM);have ah:Va (Lm Yd (q.num*p.den)):=Aa ((f.1.mul d.2).mono dM);have ai:Va (Lm Yd (p.num*q.num)):=Aa ((d.1.mul f.1).mono dM);have aj:Va (Lm Yd ((p.den:Int)*q.den)):=Aa ((d.2.mul f.2).mono dM);have aK:Va (Lm Yd ((p.den:Int)*q.num)):=Aa ((d.2.mul f.1).mono dM);have ax:Va (Lm Rc (p.num*q.den)):=Aa (ag.o.mono dM);have ay:Va (Lm Rc (q.num*p.den)):=Aa (ah.o.mono dM);clear d f;go_in;go_wp2;go_region_held3 (fun W=>W.cell? ⟨w.heap.size,0,I⟩=Y (O a m c)/\W.cell? ⟨w.heap.size,1,I⟩=Y (X s)/\W.cell? ⟨w.heap.size,2,I⟩=Y (O a2 m2 c2)/\W.cell? ⟨w.heap.size+1,0,I⟩=Y (O a' m' c')/\W.cell? ⟨w.heap.size+1,1,I⟩=Y (X s')/\W.cell? ⟨w.heap.size+1,2,I⟩=Y (O i y j)) ((repeat' (with_reducible refine And.intro ?_ ?_))<;>(first|(go_simp;done)|(refine hx1.d ?_;go_simp;done))) (first|((go_at_call 251;(with_reducible refine(Kp _ (Oa #[O a m c,X s]) (Oa #[O a' m' c',X s']) p.num q.num ?_ ?_ ac.o ad.o).mono ?_);(refine ap.ext ?_;exact eA);(refine aq.ext ?_;exact eA);rintro e w1 ⟨r1,rfl,l,hx1⟩;obtain⟨b1,n1,k1,t1,rfl⟩:=l.form;obtain⟨⟨ak,aL⟩,az,aA,z⟩:=Sb w hx1))|((go_at_call 252;(with_reducible refine(Br _ (Oa #[O a m c,X s,O a2 m2 c2]) p ?_ aa.o).mono ?_);(refine ha.ext ?_;exact eA);rintro e w2 ⟨r2,rfl,r,ar⟩;obtain⟨b2,n2,k2,t2,rfl⟩:=r.form;obtain⟨⟨al,aM⟩,aB,aC,K⟩:=Sb w ar))|((go_at_call 252;(with_reducible refine(Br _ (Oa #[O a' m' c',X s',O i y j]) q ?_ ab.o).mono ?_);(refine hb.ext ?_;exact eA);rintro e w3 ⟨r3,rfl,t,au⟩;obtain⟨b3,n3,k3,t3,rfl⟩:=t.form;obtain⟨⟨am,aO⟩,aD,aE,L⟩:=Sb w au))|((go_at_call 251;(with_reducible refine(Kp _ (Oa #[O b2 n2 k2,X t2]) (Oa #[O b3 n3 k3,X t3]) (p.den:Int) (q.den:Int) ?_ ?_ ae.o af.o).mono ?_);(refine r.ext ?_;exact eA);(refine t.ext ?_;exact eA);rintro e w4 ⟨r4,rfl,u,av⟩;obtain⟨b4,n4,k4,t4,rfl⟩:=u.form;obtain⟨⟨an,aP⟩,aF,aG,R⟩:=Sb w av))|((go_at_call 260;(with_reducible refine(vy _ (Oa #[O b1 n1 k1,X t1]) (Oa #[O b4 n4 k4,X t4]) (p.num*q.num) ((p.den:Int)*q.den) ?_ ?_ ai.o aj.o (Ao p q)).mono ?_);(refine l.ext ?_;exact eA);(refine u.ext ?_;exact eA);rintro e w5 ⟨r5,rfl,x,aw⟩;obtain⟨b5,n5,k5,t5,b6,n6,k6,rfl⟩:=x.form;obtain⟨⟨ao,aQ⟩,aH,aI,aJ⟩:=Sb w aw)))
 all_goals go_wp2
 refine bR (v:=Oa #[O b5 n5 k5,X t5,O b6 n6 k6]) (by simp[results,Tryz.results223,go_sem,ak,al,am,an,ao,z,K,L,R]) rfl ⟨_,rfl,?_,eA⟩;rw[<-Oy];exact x.keep kA
def QO(w:Z)(y z:J)(p q:Rat)(ha:Cb w y p)(hb:Cb w z q)(d:∀(W:Z)(y z:J)(p q:Rat),Cb W y p->Cb W z q->Rb Wb p->Rb Wb q->Calls Tryz.prog 221 #[y,z] W (Uf W (p+q)))(l:Rb Wb p)(r:Rb Wb q):Calls Tryz.prog 218 #[y,z] w (Uf w (p-q)):=by
 obtain⟨a,m,c,s,a2,m2,c2,rfl⟩:=ha.form;obtain⟨a',m',c',s',i,x,j,rfl⟩:=hb.form;have L:=Aa l;have R:=Aa r.neg;have f:=Aa d;clear l r d;rw[Rat.sub_eq_add_neg];go_in;go_wp2;go_region_held3 (fun W=>W.cell? ⟨w.heap.size,0,I⟩=Y (O a m c)/\W.cell? ⟨w.heap.size,1,I⟩=Y (X s)/\W.cell? ⟨w.heap.size,2,I⟩=Y (O a2 m2 c2)/\W.cell? ⟨w.heap.size+1,0,I⟩=Y (O a' m' c')/\W.cell? ⟨w.heap.size+1,1,I⟩=Y (X s')/\W.cell? ⟨w.heap.size+1,2,I⟩=Y (O i x j)) ((repeat' (with_reducible refine And.intro ?_ ?_))<;>(first|(go_simp;done)|(refine hx1.d ?_;go_simp;done))) (first|((go_at_call 258;(with_reducible refine(EM _ (Oa #[O a' m' c',X s',O i x j]) q ?_).mono ?_);(refine hb.ext ?_;exact eA);rintro e w1 ⟨r1,rfl,t,hx1⟩;obtain⟨b1,n1,k1,t1,b2,n2,k2,rfl⟩:=t.form;obtain⟨⟨aa,ai⟩,ad,ae,K⟩:=Sb w hx1))|((go_at_call 221;refine cM (f.o _ (Oa #[O a m c,X s,O a2 m2 c2]) (Oa #[O b1 n1 k1,X t1,O b2 n2 k2]) p (-q) ?_ ?_ L.o R.o) ?_;(refine ha.ext ?_;exact eA);(refine t.ext ?_;exact eA);rintro e w5 ⟨r5,rfl,u,ac⟩;obtain⟨b5,n5,k5,t5,b6,n6,k6,rfl⟩:=u.form;obtain⟨⟨ab,aj⟩,af,ag,ah⟩:=Sb w ac)))
 all_goals go_wp2
 exact bR (v:=Oa #[O b5 n5 k5,X t5,O b6 n6 k6]) (by simp[results,Tryz.results218,go_sem,aa,ab,K]) rfl ⟨_,rfl,u.keep kA,eA⟩
def HM(w:Z)(va vb:J)(p q:Rat)(ha:Cb w va p)(hb:Cb w vb q)(d:Rb Wb p)(f:Rb Wb q):Calls Tryz.prog 262 #[va,vb] w fun e w'=>∃r,e=.returned (Oe #[r,C M (if (p.den:Int)*q.num=0 then 9 else 0)])/\Cb w' r (p/q)/\Ba w w':=by
 obtain⟨a,m,c,s,a2,m2,c2,rfl⟩:=ha.form;obtain⟨a',m',c',s',l,L,t,rfl⟩:=hb.form;have ad:=Aa d;have ae:=Aa f;have ar:=ha.top;have au:=hb.top;have af:Va (Lm Rc p.num):=Aa (d.1.mono dM);have ag:Va (Lm Rc q.num):=Aa (f.1.mono dM);have ah:Va (Lm Rc (p.den:Int)):=Aa (d.2.mono dM);have ai:Va (Lm Rc (q.den:Int)):=Aa (f.2.mono dM);have j:Va (Lm Yd (p.num*q.den)):=Aa ((d.1.mul f.2).mono dM);have aj:Va (Lm Yd (q.num*p.den)):=Aa ((f.1.mul d.2).mono dM);have aM:Va (Lm Yd (p.num*q.num)):=Aa ((d.1.mul f.1).mono dM);have aO:Va (Lm Yd ((p.den:Int)*q.den)):=Aa ((d.2.mul f.2).mono dM);have ak:Va (Lm Yd ((p.den:Int)*q.num)):=Aa ((d.2.mul f.1).mono dM);have az:Va (Lm Rc (p.num*q.den)):=Aa (j.o.mono dM);have aA:Va (Lm Rc (q.num*p.den)):=Aa (aj.o.mono dM);clear d f;obtain⟨er,i⟩:∃er:Int,er=if (p.den:Int)*q.num=0 then 9 else 0:=⟨_,rfl⟩;rw[<-i];have al:=Aa i;clear i;go_in;go_wp2;go_region_held3 (fun W=>W.cell? ⟨w.heap.size,0,I⟩=Y (O a m c)/\W.cell? ⟨w.heap.size,1,I⟩=Y (X s)/\W.cell? ⟨w.heap.size,2,I⟩=Y (O a2 m2 c2)/\W.cell? ⟨w.heap.size+1,0,I⟩=Y (O a' m' c')/\W.cell? ⟨w.heap.size+1,1,I⟩=Y (X s')/\W.cell? ⟨w.heap.size+1,2,I⟩=Y (O l L t)) ((repeat' (with_reducible refine And.intro ?_ ?_))<;>(first|(go_simp;done)|(refine hx1.d ?_;go_simp;done))) (first|((go_at_call 252;(with_reducible refine(Br _ (Oa #[O a' m' c',X s',O l L t]) q ?_ ae.o).mono ?_);(refine hb.ext ?_;exact eA);rintro e w1 ⟨r1,rfl,u,hx1⟩;obtain⟨b1,n1,k1,t1,rfl⟩:=u.form;obtain⟨⟨am,aP⟩,aB,aC,R⟩:=Sb w hx1))|((go_at_call 251;(with_reducible refine(Kp _ (Oa #[O a m c,X s]) (Oa #[O b1 n1 k1,X t1]) p.num (q.den:Int) ?_ ?_ af.o ai.o).mono ?_);(refine ar.ext ?_;exact eA);(refine u.ext ?_;exact eA);rintro e w2 ⟨r2,rfl,x,av⟩;obtain⟨b2,n2,k2,t2,rfl⟩:=x.form;obtain⟨⟨an,aQ⟩,aD,aE,aa⟩:=Sb w av))|((go_at_call 252;(with_reducible refine(Br _ (Oa #[O a m c,X s,O a2 m2 c2]) p ?_ ad.o).mono ?_);(refine ha.ext ?_;exact eA);rintro e w3 ⟨r3,rfl,y,aw⟩;obtain⟨b3,n3,k3,t3,rfl⟩:=y.form;obtain⟨⟨ao,aR⟩,aF,aG,ab⟩:=Sb w aw))|((go_at_call 251;(with_reducible refine(Kp _ (Oa #[O b3 n3 k3,X t3]) (Oa #[O a' m' c',X s']) (p.den:Int) q.num ?_ ?_ ah.o ag.o).mono ?_);(refine y.ext ?_;exact eA);(refine au.ext ?_;exact eA);rintro e w4 ⟨r4,rfl,z,ax⟩;obtain⟨b4,n4,k4,t4,rfl⟩:=z.form;obtain⟨⟨ap,aS⟩,aH,aI,ac⟩:=Sb w ax))|((go_at_call 293;(with_reducible refine(tJ _ (Oa #[O b2 n2 k2,X t2]) (Oa #[O b4 n4 k4,X t4]) (p.num*q.den) ((p.den:Int)*q.num) ?_ ?_ j.o ak.o).mono ?_);(refine x.ext ?_;exact eA);(refine z.ext ?_;exact eA);rw[<-al.o];rintro e w5 ⟨r5,rfl,K,ay⟩;obtain⟨b5,n5,k5,t5,b6,n6,k6,rfl⟩:=K.form;obtain⟨⟨aq,aT⟩,aJ,aK,aL⟩:=Sb w ay)))
 all_goals go_wp2
 refine bR (v:=Oe #[Oa #[O b5 n5 k5,X t5,O b6 n6 k6],C M er]) (by simp[results,Tryz.results262,go_sem,am,an,ao,ap,aq,R,aa,ab,ac]) rfl ⟨_,rfl,?_,eA⟩;rw[<-VE];exact K.keep kA
def XV(w:Z)(p q:Rat)(a:Option Od)(m c:Nat)(s:Bool)(z:Option Od)(K c':Nat)(L:Bool)(t5 R:J)(W:Z):Prop:=
 ∃(d e:Nat)(x y:Option Od)(l f r j:Nat)(t u:Bool),t5 = .pointer (Y ⟨d,0,I⟩)/\R = .pointer (Y ⟨e,0,I⟩)/\w.heap.size+1+1<d/\w.heap.size+1+1<e/\Ba w W/\sd 2 W (w.heap.size+1+1)/\
 qe W (Oa #[O x l f,X t]) (p.den:Int)/\qe W (Oa #[O y r j,X u]) (q.den:Int)/\
 W.cell? ⟨d,0,I⟩=Y (O x l f)/\W.cell? ⟨d,1,I⟩=Y (X t)/\W.cell? ⟨e,0,I⟩=Y (O y r j)/\W.cell? ⟨e,1,I⟩=Y (X u)/\
 W.cell? ⟨w.heap.size,0,I⟩=Y (O a m c)/\W.cell? ⟨w.heap.size,1,I⟩=Y (X s)/\W.cell? ⟨w.heap.size+1,0,I⟩=Y (O z K c')/\W.cell? ⟨w.heap.size+1,1,I⟩=Y (X L)/\
 W.cell? ⟨w.heap.size+1+1,0,I⟩=Y (O I 0 0)/\W.cell? ⟨w.heap.size+1+1,1,I⟩=Y (X false)/\W.cell? ⟨w.heap.size+1+1,2,I⟩=Y (O I 0 0)/\
 (∀i,W.frozen? ⟨w.heap.size+1+1,i,I⟩=false)
def Yx(w:Z)(va vb:J)(p q:Rat)(ha:Cb w va p)(hb:Cb w vb q)(d:Rb Wb p)(f:Rb Wb q):Calls Tryz.prog 221 #[va,vb] w (Uf w (p+q)):=by
 obtain⟨a,m,c,s,a2,m2,c2,rfl⟩:=ha.form;obtain⟨a',m',c',s',ak,ax,al,rfl⟩:=hb.form;have ab:=Aa d;have ac:=Aa f;have ba:=ha.top;have bb:=hb.top;have aS:Va (Lm Rc p.num):=Aa (d.1.mono dM);have aT:Va (Lm Rc q.num):=Aa (f.1.mono dM);have ag:Va (Lm Rc (p.den:Int)):=Aa (d.2.mono dM);have ah:Va (Lm Rc (q.den:Int)):=Aa (f.2.mono dM);have aU:Va (Lm Yd (p.num*q.den)):=Aa ((d.1.mul f.2).mono dM);have aV:Va (Lm Yd (q.num*p.den)):=Aa ((f.1.mul d.2).mono dM);have bz:Va (Lm Yd (p.num*q.num)):=Aa ((d.1.mul f.1).mono dM);have aW:Va (Lm Yd ((p.den:Int)*q.den)):=Aa ((d.2.mul f.2).mono dM);have bA:Va (Lm Yd ((p.den:Int)*q.num)):=Aa ((d.2.mul f.1).mono dM);have ai:Va (Lm Rc (p.num*q.den)):=Aa (aU.o.mono dM);have aj:Va (Lm Rc (q.num*p.den)):=Aa (aV.o.mono dM);clear d f;go_in;go_upto_region 1 with fail;go_cut [5,6] (XV w p q a m c s a' m' c' s')
 case first =>
  go_region_held3 (fun W=>W.cell? ⟨w.heap.size,0,I⟩=Y (O a m c)/\W.cell? ⟨w.heap.size,1,I⟩=Y (X s)/\W.cell? ⟨w.heap.size,2,I⟩=Y (O a2 m2 c2)/\W.cell? ⟨w.heap.size+1,0,I⟩=Y (O a' m' c')/\W.cell? ⟨w.heap.size+1,1,I⟩=Y (X s')/\W.cell? ⟨w.heap.size+1,2,I⟩=Y (O ak ax al)) ((repeat' (with_reducible refine And.intro ?_ ?_))<;>(first|(go_simp;done)|(refine hx1.d ?_;go_simp;done))) (first|((go_at_call 252;(with_reducible refine(Br _ (Oa #[O a m c,X s,O a2 m2 c2]) p ?_ ab.o).mono ?_);(refine ha.ext ?_;exact eA);rintro e l ⟨r1,rfl,r,hx1⟩;obtain⟨b1,n1,k1,t1,rfl⟩:=r.form;obtain⟨⟨an,a8⟩,ay,az,R⟩:=Sb w hx1;have aF:w.heap.size<l.heap.size+1:=oM;have aG:w.heap.size<l.heap.size+1+1:=oM;have aH:w.heap.size+1<l.heap.size+1:=oM;have aI:w.heap.size+1<l.heap.size+1+1:=oM;have aJ:w.heap.size+1+1<l.heap.size+1:=oM;have aK:w.heap.size+1+1<l.heap.size+1+1:=oM;(try(refine Ba.t hx1 (n:=w.heap.size+1+1+1) ?_ (fun _=>?_);focus(go_simp;done)));(try(refine Ba.t hx1 (n:=w.heap.size+1+1+1+1) ?_ (fun _=>?_);focus(go_simp;done)));(try(refine Ba.t hx1 (n:=l.heap.size) ?_ (fun _=>?_);focus(go_simp;done)));(try(refine Ba.t hx1 (n:=l.heap.size+1) ?_ (fun _=>?_);focus(go_simp;done)))))|((go_at_call 252;(with_reducible refine(Br _ (Oa #[O a' m' c',X s',O ak ax al]) q ?_ ac.o).mono ?_);(refine hb.ext ?_;exact eA);rintro e L ⟨r2,rfl,t,j⟩;obtain⟨b2,n2,k2,t2,rfl⟩:=t.form;obtain⟨⟨K,a9⟩,aA,aB,aa⟩:=Sb w j;have aL:w.heap.size<L.heap.size+1:=oM;have aM:w.heap.size<L.heap.size+1+1:=oM;have aO:w.heap.size+1<L.heap.size+1:=oM;have aP:w.heap.size+1<L.heap.size+1+1:=oM;have aQ:w.heap.size+1+1<L.heap.size+1:=oM;have aR:w.heap.size+1+1<L.heap.size+1+1:=oM;(try(refine Ba.t j (n:=w.heap.size+1+1+1) ?_ (fun _=>?_);focus(go_simp;done)));(try(refine Ba.t j (n:=w.heap.size+1+1+1+1) ?_ (fun _=>?_);focus(go_simp;done)));(try(refine Ba.t j (n:=l.heap.size) ?_ (fun _=>?_);focus(go_simp;done)));(try(refine Ba.t j (n:=l.heap.size+1) ?_ (fun _=>?_);focus(go_simp;done))))))
  all_goals go_wp2
  all_goals go_meet
  all_goals refine⟨_,_,b1,b2,n1,k1,n2,k2,t1,t2,rfl,rfl,by omega,by omega,eA,nA,r.keep kA,t.keep kA,?_,?_,?_,?_,?_,?_,?_,?_,?_,?_,?_,fun i=>?_⟩
  all_goals first|(go_simp;done)|(have u1:l.heap.size<l.heap.size+1+1:=oM;have u2:L.cell? ⟨l.heap.size,0,I⟩=Y (O I 0 0):=((K _ _ (by first|exact u1|(simp only[wZ,Yb];exact u1))).trans (by go_simp));have u3:L.cell? ⟨l.heap.size,1,I⟩=Y (X false):=((K _ _ (by first|exact u1|(simp only[wZ,Yb];exact u1))).trans (by go_simp));go_simp)
 case rest =>
  obtain⟨u,z,x,y,mx,cx,my,cy,sx,sy,rfl,rfl,bF,bG,hx,hN,av,aw,aY,bB,aZ,bC,a0,bD,a1,bE,am,a3,a4,bK⟩:=hcut;have bM:¬u=w.heap.size+1+1:=oM;have bc:¬w.heap.size+1+1=u:=oM;have bN:¬z=w.heap.size+1+1:=oM;have be:¬w.heap.size+1+1=z:=oM;have bO:u<wc.heap.size:=World.block_lt_of_cell? wc _ aY;have bP:z<wc.heap.size:=World.block_lt_of_cell? wc _ aZ;have bw:w.heap.size<wc.heap.size:=World.block_lt_of_cell? wc _ a0;have bx:w.heap.size+1<wc.heap.size:=World.block_lt_of_cell? wc _ a1;have aE:w.heap.size+1+1<wc.heap.size:=World.block_lt_of_cell? wc _ am;have aX:Va (Lm Yd (p.num*q.den+q.num*p.den)):=by
   have h1:=((ab.o.1.mul ac.o.2).add (ac.o.1.mul ab.o.2)).mono (show Wb+Wb+1<=Yd by decide);exact Aa h1
  have ar:=ba.ext hx;have au:=bb.ext hx;go_wp2;go_region_held3 (fun W=>W.cell? ⟨w.heap.size,0,I⟩=Y (O a m c)/\W.cell? ⟨w.heap.size,1,I⟩=Y (X s)/\W.cell? ⟨w.heap.size+1,0,I⟩=Y (O a' m' c')/\W.cell? ⟨w.heap.size+1,1,I⟩=Y (X s')/\W.cell? ⟨u,0,I⟩=Y (O x mx cx)/\W.cell? ⟨u,1,I⟩=Y (X sx)/\W.cell? ⟨z,0,I⟩=Y (O y my cy)/\W.cell? ⟨z,1,I⟩=Y (X sy)) ((repeat' (with_reducible refine And.intro ?_ ?_))<;>(first|(go_simp;done)|(refine hx1.d ?_;go_simp;done))) (first|((go_at_call 251;(with_reducible refine(Kp _ (Oa #[O a m c,X s]) (Oa #[O y my cy,X sy]) p.num (q.den:Int) ?_ ?_ aS.o ah.o).mono ?_);(refine ar.ext ?_;exact eA);(refine aw.ext ?_;exact eA);rintro e l ⟨r1,rfl,r,hx1⟩;obtain⟨b1,n1,k1,t1,rfl⟩:=r.form;obtain⟨⟨an,a8⟩,ay,az,R⟩:=Sb w hx1;(have bf:=hx1.lt (n:=u) (by go_simp));(have bk:=hx1.lt (n:=z) (by go_simp))))|((go_at_call 251;(with_reducible refine(Kp _ (Oa #[O a' m' c',X s']) (Oa #[O x mx cx,X sx]) q.num (p.den:Int) ?_ ?_ aT.o ag.o).mono ?_);(refine au.ext ?_;exact eA);(refine av.ext ?_;exact eA);rintro e L ⟨r2,rfl,t,j⟩;obtain⟨b2,n2,k2,t2,rfl⟩:=t.form;obtain⟨⟨K,a9⟩,aA,aB,aa⟩:=Sb w j;(have bg:=j.lt (n:=u) (by go_simp));(have bl:=j.lt (n:=z) (by go_simp))))|((go_at_call 261;(with_reducible refine(TM _ (Oa #[O b1 n1 k1,X t1]) (Oa #[O b2 n2 k2,X t2]) (p.num*q.den) (q.num*p.den) ?_ ?_ ai.o aj.o).mono ?_);(refine r.ext ?_;exact eA);(refine t.ext ?_;exact eA);rintro e w3 ⟨r3,rfl,ao,ad⟩;obtain⟨b3,n3,k3,t3,rfl⟩:=ao.form;obtain⟨⟨a5,bH⟩,bp,bq,aC⟩:=Sb w ad;(have bh:=ad.lt (n:=u) (by go_simp));(have bm:=ad.lt (n:=z) (by go_simp))))|((go_at_call 251;(with_reducible refine(Kp _ (Oa #[O x mx cx,X sx]) (Oa #[O y my cy,X sy]) (p.den:Int) (q.den:Int) ?_ ?_ ag.o ah.o).mono ?_);(refine av.ext ?_;exact eA);(refine aw.ext ?_;exact eA);rintro e w4 ⟨r4,rfl,ap,ae⟩;obtain⟨b4,n4,k4,t4,rfl⟩:=ap.form;obtain⟨⟨a6,bI⟩,br,bs,aD⟩:=Sb w ae;(have bi:=ae.lt (n:=u) (by go_simp));(have bn:=ae.lt (n:=z) (by go_simp))))|((go_at_call 260;(with_reducible refine(vy _ (Oa #[O b3 n3 k3,X t3]) (Oa #[O b4 n4 k4,X t4]) (p.num*q.den+q.num*p.den) ((p.den:Int)*q.den) ?_ ?_ aX.o aW.o (Ao p q)).mono ?_);(refine ao.ext ?_;exact eA);(refine ap.ext ?_;exact eA);rintro e w5 ⟨r5,rfl,aq,af⟩;obtain⟨b7,n5,k5,t5,b8,n6,k6,rfl⟩:=aq.form;obtain⟨⟨a7,bJ⟩,bt,bu,bv⟩:=Sb w af;(have bj:=af.lt (n:=u) (by go_simp));(have bo:=af.lt (n:=z) (by go_simp)))))
  all_goals go_wp2
  refine bR (v:=Oa #[O b7 n5 k5,X t5,O b8 n6 k6]) (by simp[results,Tryz.results221,go_sem,an,K,a5,a6,a7,aE,R,aa,aC,aD,am,a3,a4]) rfl ⟨_,rfl,?_,?_⟩
  ·rw[<-Py];exact aq.keep kA
  ·have bL:Ba w l:=hx.trans ((eR wc).drew.trans hx1);exact eA
def ir(w:Z)(f i:J)(p q:Rat)(j:Cb w f p)(l:Cb w i q)(d:Rb Wb p)(e:Rb Wb q):Calls Tryz.prog 218 #[f,i] w (Uf w (p-q)):=QO w f i p q j l Yx d e
def RB(W:Z)(b:Nat)(q:Rat):Prop:=∃a m c s a2 m2 c2,W.heap[b]?=Y (Ob #[O a m c,X s,O a2 m2 c2] 181 (0,0))/\Cb W (Oa #[O a m c,X s,O a2 m2 c2]) q
def pT{W:Z}{g:Nat}{x y z:J}{T:TypeId}{d:Nat×Nat}(h:W.heap[g]?=Y (Ob #[x,y,z] T d))(u v t:J):(((W.setCell ⟨g,0,I⟩ u).setCell ⟨g,1,I⟩ v).setCell ⟨g,2,I⟩ t).heap[g]?=Y (Ob #[u,v,t] T d):=by simp[World.setCell,Array.getElem?_modify,h]
section
variable {W W':Z} {b b':Nat} {n n':Rat}
def RB.ext(h:RB W b n)(k:Ba W W'):RB W' b n:=by obtain⟨a,m,c,s,a2,m2,c2,d,e⟩:=h;exact⟨a,m,c,s,a2,m2,c2,k.e d,e.ext k⟩
def RB.not(h:RB W b n):sd 2 W b:=by obtain⟨a,m,c,s,a2,m2,c2,d,i⟩:=h;intro cs f e;rw[d]at e;cases e
def RB.rd(h:RB W b n):∃a m c s a2 m2 c2,W.cell? ⟨b,0,I⟩=Y (O a m c)/\W.cell? ⟨b,1,I⟩=Y (X s)/\W.cell? ⟨b,2,I⟩=Y (O a2 m2 c2)/\W.frozen? ⟨b,0,I⟩=false/\W.frozen? ⟨b,1,I⟩=false/\W.frozen? ⟨b,2,I⟩=false/\b<W.heap.size/\Cb W (Oa #[O a m c,X s,O a2 m2 c2]) n:=by obtain⟨a,m,c,s,a2,m2,c2,d,e⟩:=h;exact⟨a,m,c,s,a2,m2,c2,Da d (i:=0) rfl,Da d (i:=1) rfl,Da d (i:=2) rfl,Za d 0,Za d 1,Za d 2,Ya d,e⟩
def RB.put{a a2:Option Od}{m c m2 c2:Nat}{s:Bool}(h:RB W b n)(f:Cb W (Oa #[O a m c,X s,O a2 m2 c2]) n'):RB (((W.setCell ⟨b,0,I⟩ (O a m c)).setCell ⟨b,1,I⟩ (X s)).setCell ⟨b,2,I⟩ (O a2 m2 c2)) b n':=by have d:=h.not;obtain⟨i,t,l,x,j,u,p,e,r⟩:=h;exact⟨a,m,c,s,a2,m2,c2,pT e _ _ _,f.keep ((((Ka.refl _ W).y d _).y (d.set _ _) _).y ((d.set _ _).set _ _) _)⟩
def RB.other{p:Od}(h:RB W b n)(i:p.block≠b)(j:sd 2 W p.block)(u:J):RB (W.setCell p u) b n:=by obtain⟨a,m,c,s,a2,m2,c2,d,f⟩:=h;exact⟨a,m,c,s,a2,m2,c2,(bS _ _ _ _ (fun e=>i e.symm)).trans d,f.keep ((Ka.refl _ W).y j _)⟩
def RB.new{W0:Z}{a a2:Option Od}{m c m2 c2:Nat}{s:Bool}(e:Cb W0 (Oa #[O a m c,X s,O a2 m2 c2]) n)(d:b=W0.heap.size):RB (W0.alloc (Ob #[O a m c,X s,O a2 m2 c2] 181)) b n:=
 ⟨a,m,c,s,a2,m2,c2,kc _ _ _ d,e.ext ((eR _).alloc _)⟩
end
def Ul(w:Z)(n:Int)(r:-9223372036854775808<=n)(t:n<=9223372036854775807):Calls Tryz.prog 215 #[C M n] w (Uf w (n:Rat)):=by go_in;go_wp2_with(((go_at_call 254;(with_reducible refine(sK _ n r t).mono ?_);rintro e K ⟨z,rfl,d,i⟩;obtain⟨a2,m2,c2,y,l,x,p,rfl⟩:=d.form;obtain⟨⟨f,u⟩,j⟩:=Id w i)));exact bR (v:=Oa #[O a2 m2 c2,X y,O l x p]) (by simp[results,Tryz.results215,go_sem,f]) rfl ⟨_,rfl,d.keep kA,eA⟩
def oE(w:Z)(va vb:J)(p q:Rat)(ha:Cb w va p)(hb:Cb w vb q)(d:Rb Wb p)(f:Rb Wb q):Calls Tryz.prog 222 #[va,vb] w (Uf w (p/q)):=by obtain⟨a,m,c,s,a2,m2,c2,rfl⟩:=ha.form;obtain⟨a',m',c',s',K,ab,L,rfl⟩:=hb.form;have x:=Aa d;have y:=Aa f;clear d f;obtain⟨er,i⟩:∃er:Int,er=if (p.den:Int)*q.num=0 then 9 else 0:=⟨_,rfl⟩;have z:=Aa i;clear i;go_in;go_wp2_with(((go_at_call 262;(with_reducible refine(HM _ (Oa #[O a m c,X s,O a2 m2 c2]) (Oa #[O a' m' c',X s',O K ab L]) p q ?_ ?_ x.o y.o).mono ?_);(refine ha.ext ?_;exact eA);(refine hb.ext ?_;exact eA);rw[<-z.o];rintro e w1 ⟨r1,rfl,j,aa⟩;obtain⟨b1,n1,k1,t1,b2,n2,k2,rfl⟩:=j.form;obtain⟨⟨R,ae⟩,ac,ad,l⟩:=Sb w aa;have r:w.heap.size<w1.heap.size+1:=oM;have t:w.heap.size+1<w1.heap.size+1:=oM;have u:w.heap.size+1+1<w1.heap.size+1:=oM)));exact bR (v:=Oa #[O b1 n1 k1,X t1,O b2 n2 k2]) (by simp[results,Tryz.results222,go_sem,R,l]) rfl ⟨_,rfl,j.keep kA,eA⟩
def Ws{k:Nat}:∀{cs:List (List J)}{i j:Nat}{c:List J},(∀c∈cs,c.length=k)->cs[i]?=Y c->j<k->cs.flatten[i*k+j]?=c[j]?
 | [],i,j,c,_,h,_=>by simp at h
 | d::cs,0,j,c,hk,h,hj=>by
  simp at h;subst h;rw[List.flatten_cons,Nat.zero_mul,Nat.zero_add,List.getElem?_append_left (by rw[hk d (by simp)];exact hj)]
 | d::cs,i+1,j,c,hk,h,hj=>by
  have e:=hk d sM;rw[List.flatten_cons,List.getElem?_append_right (by rw[e,Nat.add_mul];omega),e,show (i+1)*k+j-k=i*k+j by rw[Nat.add_mul];omega];exact Ws (fun c f=>hk c (mC _ f)) (by simpa using h) hj
def Sl{α:Type}(T:TypeId)(k:Nat)(P:Z->List J->α->Prop)(w:Z)(v:J)(xs:List α):Prop:=
 ∃cs:List (List J),cs.length=xs.length/\(∀c∈cs,c.length=k)/\Rd w T k v xs.length cs.flatten/\∀(i:Nat) c x,cs[i]?=Y c->xs[i]?=Y x->P w c x
section
variable {α:Type} {T:TypeId} {k:Nat} {P:Z->List J->α->Prop} {w w':Z} {v:J} {xs:List α} {a:Option Od} {n c:Nat}
def Sl.form(h:Sl T k P w v xs):∃a c,v=O a xs.length c:=by obtain⟨cs,_,_,h,_⟩:=h;exact h.form
def Sl.len(h:Sl T k P w (O a n c) xs):n=xs.length:=by obtain⟨cs,_,_,h,_⟩:=h;exact h.eqn
def Sl.le(h:Sl T k P w (O a n c) xs):xs.length<=c/\c<=maxLen:=by obtain⟨cs,_,_,h,_⟩:=h;exact h.le
def Sl.ext(h:Sl T k P w v xs)(l:∀c x,P w c x->P w' c x)(r:Ba w w'):Sl T k P w' v xs:=by obtain⟨cs,d,e,f,j⟩:=h;exact⟨cs,d,e,f.ext r,fun i c x p t=>l _ _ (j i c x p t)⟩
def Sl.keep(h:Sl T k P w v xs)(l:∀c x,P w c x->P w' c x)(r:Ka T w w'):Sl T k P w' v xs:=by obtain⟨cs,d,e,f,j⟩:=h;exact⟨cs,d,e,f.keep r,fun i c x p t=>l _ _ (j i c x p t)⟩
def Sl.at(h:Sl T k P w (O a n c) xs){i:Nat}{x:α}(t:xs[i]?=Y x):∃b o d,a=Y ⟨b,o,I⟩/\b<w.heap.size/\d.length=k/\P w d x/\∀(j:Nat) u,d[j]?=Y u->w.cell? ⟨b,o+i*k+j,I⟩=Y u:=by
 obtain⟨cs,y,p,z,K⟩:=h;have hi:=(lS.1 t).1;obtain⟨d,f⟩:∃d,cs[i]?=Y d:=⟨cs[i]' oM,by simp[y,hi]⟩;obtain⟨b,o,rfl,L,_,R⟩:=z.open oM;have e:=p d (lM f);refine⟨b,o,d,rfl,L,e,K i d x f t,fun j u r=>?_⟩;have l:j<k:=by rw[<-e];exact(lS.1 r).1
 have:=R (i*k+j) u (by rw[Ws p f l];exact r)
 rwa [<-Nat.add_assoc]at this
end
def PR(w:Z)(c:List J)(q:Rat):Prop:=Cb w (Oa c.toArray) q
abbrev Yh(w:Z)(v:J)(qs:List Rat):Prop:=Sl 181 3 PR w v qs
def Yh.f{w w':Z}{v:J}{d:List Rat}(h:Yh w v d)(k:Ba w w'):Yh w' v d:=Sl.ext h (fun _ _ h=>Cb.ext h k) k
def Yh.at'{w:Z}{a:Option Od}{n c:Nat}{l:List Rat}(h:Yh w (O a n c) l){i:Nat}{q:Rat}(u:l[i]?=Y q):∃b o a1 m1 c1 s1 a2 m2 c2,a=Y ⟨b,o,I⟩/\b<w.heap.size/\Cb w (Oa #[O a1 m1 c1,X s1,O a2 m2 c2]) q/\w.cell? ⟨b,o+i*3,I⟩=Y (O a1 m1 c1)/\w.cell? ⟨b,o+i*3+1,I⟩=Y (X s1)/\w.cell? ⟨b,o+i*3+2,I⟩=Y (O a2 m2 c2):=by
 obtain⟨b,o,d,rfl,t,x,r,j⟩:=Sl.at h u;have f:Cb w (Oa d.toArray) q:=r;obtain⟨a1,m1,c1,s1,a2,m2,c2,e⟩:=f.form;have p:d=[O a1 m1 c1,X s1,O a2 m2 c2]:=by
  have:d.toArray=#[O a1 m1 c1,X s1,O a2 m2 c2]:=by cases e;rfl
  simpa using congrArg Array.toList this
 subst p;exact⟨b,o,a1,m1,c1,s1,a2,m2,c2,rfl,t,f,j 0 _ rfl,j 1 _ rfl,j 2 _ rfl⟩
end
section
open Go.RowKit
def C4:Int:=10000
def Gk:(0:Int)<C4:=dM
def uH{x:Int}(h:Int.tmod x 10000<0):Int.tmod x 10000+10000=x%10000/\Int.tdiv x 10000-1=x/10000:=by
 by_cases d:0<=x
 ·rw[Int.tmod_eq_emod_of_nonneg d]at h;omega
 ·obtain⟨y,rfl⟩:∃y,x = -y:=⟨-x,by omega⟩;rw[Int.neg_tmod,Int.neg_tdiv]at *;rw[Int.tmod_eq_emod_of_nonneg oM,Int.tdiv_eq_ediv_of_nonneg oM]at *;omega
def tH{x:Int}(h:¬Int.tmod x 10000<0):Int.tmod x 10000=x%10000/\Int.tdiv x 10000=x/10000:=by
 by_cases d:0<=x
 ·rw[Int.tmod_eq_emod_of_nonneg d,Int.tdiv_eq_ediv_of_nonneg d];exact⟨rfl,rfl⟩
 ·obtain⟨y,rfl⟩:∃y,x = -y:=⟨-x,by omega⟩;rw[Int.neg_tmod,Int.neg_tdiv]at *;rw[Int.tmod_eq_emod_of_nonneg oM,Int.tdiv_eq_ediv_of_nonneg oM]at *;omega
def YK(f xs:List Int)(i:Nat)(x d:Int)(j:f.length=i)(l:xs[i]?=Y x)(h:dv C4 (xs.take i)=dv C4 f+C4 ^ i*d):dv C4 (xs.take (i+1))=dv C4 (f++[(d+x)%10000])+C4 ^ (i+1)*((d+x)/10000):=by
 rw[Kn C4 xs i x l,Gn,h,j,Int.pow_succ];have e:d+x=(d+x)%10000+C4*((d+x)/10000):=by unfold C4;omega
 generalize (d+x)%10000=r at *
 generalize (d+x)/10000=q at *
 have:C4 ^ i*(d+x)=C4 ^ i*(r+C4*q):=by rw[e]
 grind
def QC(xs f:List Int)(i:Nat)(d:Int)(j:f.length=i)(h:dv C4 xs=dv C4 f+C4 ^ i*d):dv C4 xs=dv C4 (f++[d%10000])+C4 ^ (i+1)*(d/10000):=by
 rw[Gn,h,j,Int.pow_succ];have e:d=d%10000+C4*(d/10000):=by unfold C4;omega
 generalize d%10000=r at *
 generalize d/10000=q at *
 subst e;grind
def oL(k:Nat):B ^ k<=C4 ^ (2*k):=by
 induction k with
 | zero=>simp
 | succ k f =>
  have e:C4 ^ (2*(k+1))=C4 ^ (2*k)*100000000:=by rw[show 2*(k+1)=2*k+2 by omega,Int.pow_add];rfl
  have d:B ^ (k+1)=B ^ k*16777216:=by rw[Int.pow_succ];rfl
  have p:=Tj zj k;rw[e,d];omega
def Ar{k:Nat}{n:Int}{ds:List Int}(h:Lm k n)(f:pg C4 ds)(hv:dv C4 ds=(n.natAbs:Int)):ds.length<=2*k:=by
 by_cases d:ds=[]
 ·subst d;simp
 ·have i:=Qu Gk f d;have j:=oL k;by_cases e:ds.length<=2*k
  ·exact e
  ·have:=Jn (b:=C4) dM (show 2*k<=ds.length-1 by omega);unfold Lm at h;omega
def Hu{a b:Int}(h:a<b):(a-b).sign = -1:=Int.sign_eq_neg_one_of_neg oM
def Iu{a b:Int}(h:b<a):(a-b).sign=1:=Int.sign_eq_one_of_pos oM
def IH{xs d:List Int}(e:pg C4 xs)(f:pg C4 d)(h:xs.length≠d.length):((xs.length:Int)-(d.length:Int)).sign=(dv C4 xs-dv C4 d).sign:=by
 rcases Nat.lt_or_gt_of_ne h with h|h
 ·rw[Hu oM,Hu (mt dM e.1 f h)]
 ·rw[Iu oM,Iu (mt dM f.1 e h)]
def YC{l:List Int}{i:Nat}{x:Int}(h:l[i]?=Y x):l=l.take i++x::l.drop (i+1):=by
 have d:=(lS.1 h).1;have e:l.drop i=x::l.drop (i+1):=by
  rw[List.drop_eq_getElem_cons d];rw[(lS.1 h).2]
 rw[<-e,List.take_append_drop]
def nJ{xs e:List Int}(R:pg C4 xs)(hy:pg C4 e)(L:xs.length=e.length){i:Nat}{x y:Int}(z:xs[i]?=Y x)(K:e[i]?=Y y)(f:xs.drop (i+1)=e.drop (i+1))(j:x≠y):(x-y).sign=(dv C4 xs-dv C4 e).sign:=by
 have t:=YC z;have u:=YC K;have l:Ud C4 (xs.take i):=fun d f=>R.1 d (List.mem_of_mem_take f);have p:Ud C4 (e.take i):=fun d f=>hy.1 d (List.mem_of_mem_take f);have r:(xs.take i).length=(e.take i).length:=by simp[L]
 rcases Int.lt_or_gt_of_ne j with h|h
 ·rw[Hu h,Hu];rw[t,u,f];exact Iz dM l r p h
 ·rw[Iu h,Iu];rw[t,u,f];exact Iz dM p r.symm l h
def CJ{xs d:List Int}{i:Nat}{x:Int}(e:xs[i]?=Y x)(f:d[i]?=Y x)(j:xs.drop (i+1)=d.drop (i+1)):xs.drop i=d.drop i:=by have a:=(lS.1 e).1;have b:=(lS.1 f).1;rw[List.drop_eq_getElem_cons a,List.drop_eq_getElem_cons b,j,(lS.1 e).2,(lS.1 f).2]
def vi(n:Int):(n.sign = -1/\n<0)\/(n.sign=0/\n=0)\/(n.sign=1/\0<n):=by
 rcases Int.lt_trichotomy n 0 with h|h|h
 ·exact .inl ⟨Int.sign_eq_neg_one_of_neg h,h⟩
 ·exact .inr (.inl ⟨by rw[h];rfl,h⟩)
 ·exact .inr (.inr ⟨Int.sign_eq_one_of_pos h,h⟩)
def AC{b:Int}{os:List Int}{p:Nat}{z:Int}(y:Int)(h:os[p]?=Y z):dv b (os.set p (z+y))=dv b os+b ^ p*y:=by rw[Eo _ h];congr 2;omega
def WP{os d V:List Int}{j:Nat}{s x y:Int}(e:os[j]?=Y x)(f:d[j]?=Y y)(h:dv C4 os=dv C4 V+s*dv C4 (d.take j)):dv C4 (os.set j (x+s*y))=dv C4 V+s*dv C4 (d.take (j+1)):=by rw[AC _ e,Kn C4 d j y f,h];grind
def Rj(os:List Int)(j:Nat):Prop:=∀p z,os[p]?=Y z -> -10000<=z/\z<=20000/\(j<=p->0<=z/\z<10000)
def Rj.start{os:List Int}(h:Ud C4 os):Rj os 0:=fun p z d=>by have:=h z (lM d);unfold C4 at this;omega
def Rj.step{os:List Int}{j:Nat}{x u:Int}(h:Rj os j)(l:os[j]?=Y x)(f:-10000<=u)(i:u<=20000):Rj (os.set j u) (j+1):=by
 intro p z d;by_cases e:j=p
 ·subst e;rw[List.getElem?_set_self (lS.1 l).1]at d;cases d;exact⟨f,i,fun h=>by omega⟩
 ·rw[List.getElem?_set_ne e]at d;have:=h p z d;exact⟨this.1,this.2.1,fun r=>this.2.2 oM⟩
def Rj.big{os:List Int}{j:Nat}(h:Rj os j):∀x∈os,-100000000000000<=x/\x<=100000000000000:=by intro x e;obtain⟨p,d,rfl⟩:=List.getElem_of_mem e;have:=h p _ (gE d);omega
def SP{os d:List Int}{i k:Nat}{x y z V:Int}(f:os[i+k]?=Y z)(e:d[k]?=Y y)(h:dv C4 os=V+C4 ^ i*(x*dv C4 (d.take k))):dv C4 (os.set (i+k) (z+x*y))=V+C4 ^ i*(x*dv C4 (d.take (k+1))):=by rw[AC _ f,Kn C4 d k y e,h,Int.pow_add];grind
def WL{xs d:List Int}{i k:Nat}{x V D:Int}(j:d.length=k)(f:xs[i]?=Y x)(h:D=V+C4 ^ i*(x*dv C4 (d.take k)))(e:V=dv C4 (xs.take i)*dv C4 d):D=dv C4 (xs.take (i+1))*dv C4 d:=by rw[h,e,lT (l:=d) oM,Kn C4 xs i x f,Int.add_mul,Int.mul_assoc]
def Wh(os:List Int)(i k:Nat):Prop:=∀p z,os[p]?=Y z->0<=z/\z<=((i:Int)+1)*100000000/\(i+k<=p->z<=(i:Int)*100000000)
def Wh.start(n:Nat):Wh (List.replicate n 0) 0 0:=fun p z d=>by
 have:=(List.mem_replicate.1 (lM d)).2;omega
def Wh.step{os:List Int}{i k:Nat}{z y:Int}(h:Wh os i k)(f:os[i+k]?=Y z)(j:0<=y)(l:y<=100000000):Wh (os.set (i+k) (z+y)) i (k+1):=by
 intro p u d;by_cases e:i+k=p
 ·subst e;rw[List.getElem?_set_self (lS.1 f).1]at d;cases d;have:=h _ _ f;exact⟨by omega,by omega,fun h=>by omega⟩
 ·rw[List.getElem?_set_ne e]at d;have:=h p u d;exact⟨this.1,this.2.1,fun r=>this.2.2 oM⟩
def Wh.next{os:List Int}{i k:Nat}(h:Wh os i k):Wh os (i+1) 0:=by intro p u d;have:=h p u d;omega
def Wh.big{os:List Int}{i k:Nat}(h:Wh os i k)(hi:i<=900000):∀x∈os,-100000000000000<=x/\x<=100000000000000:=by intro x e;obtain⟨p,d,rfl⟩:=List.getElem_of_mem e;have:=h p _ (gE d);omega
def Nz{x y:Int}(e:0<=x/\x<C4)(d:0<=y/\y<C4):0<=x*y/\x*y<=100000000:=by unfold C4 at *;have f:=Int.mul_nonneg e.1 d.1;have i:x*y<=9999*9999:=Int.mul_le_mul oM oM d.1 oM;omega
def BM(n m:Int):n.sign*m.sign=(n*m).sign:=by rw[Int.sign_mul]
def iD(n:Int):n.sign*(n.natAbs:Int)=n:=Int.sign_mul_natAbs n
def uL(n m:Int)(h:(m.natAbs:Int)<=n.natAbs):0<=(n.natAbs:Int)+n.sign*m.sign*(m.natAbs:Int)/\n.sign*((n.natAbs:Int)+n.sign*m.sign*(m.natAbs:Int))=n+m:=by rcases vi n with ⟨e,f⟩|⟨e,f⟩|⟨e,f⟩<;>rcases vi m with ⟨d,i⟩|⟨d,i⟩|⟨d,i⟩<;>rw[e,d]<;>omega
def KM{xs d:List Int}{i:Nat}{a q D R:Int}(e:xs[i]?=Y a)(f:d[i]?=Y q)(h:dv C4 (xs.drop (i+1))=dv C4 (d.drop (i+1))*D+R):dv C4 (xs.drop i)=dv C4 (d.drop i)*D+(a+C4*R-q*D):=by have j:=(lS.1 e).1;have b':=(lS.1 f).1;rw[List.drop_eq_getElem_cons j,List.drop_eq_getElem_cons b',(lS.1 e).2,(lS.1 f).2,om,om,h];grind
def kC{n d Q R N:Int}(L:d≠0)(h:(n.natAbs:Int)=Q*(d.natAbs:Int)+R)(u:0<=R)(x:R<(d.natAbs:Int)):(¬(n<0/\R≠0)->N=n.sign*Q->(if d<0 then -N else N)=n/d/\R=n%d)/\((n<0/\R≠0)->N=n.sign*Q-1->(if d<0 then -N else N)=n/d/\(d.natAbs:Int)-R=n%d):=by
 have key:∀A r:Int,n=A*d+r->0<=r->r<(d.natAbs:Int)->A=n/d/\r=n%d:=by
  intro A r e z r1;rcases Int.lt_or_gt_of_ne L with l | l
  ·have:=Int.ediv_emod_unique (a:=n) (b:=-d) (r:=r) (q:=-A) oM;have f:=this.2 ⟨by rw[e];grind,z,by omega⟩;rw[Int.ediv_neg,Int.emod_neg]at f;exact⟨by omega,f.2.symm⟩
  ·have:=Int.ediv_emod_unique (a:=n) (b:=d) (r:=r) (q:=A) l;have f:=this.2 ⟨by rw[e];grind,z,by omega⟩;exact⟨f.1.symm,f.2.symm⟩
 have j:(d.natAbs:Int)=if d<0 then -d else d:=by split<;>omega
 refine⟨fun t p=>key _ _ ?_ u x,fun t p=>key _ _ ?_ oM oM⟩
 ·subst p;rw[j]at h;rcases vi n with ⟨e,f⟩|⟨e,f⟩|⟨e,f⟩
  ·have i:R=0:=by
    by_cases i:R=0
    ·exact i
    ·exact absurd ⟨f,i⟩ t
   subst i;rw[e];split at h<;>rename_i Aa<;>simp only[Aa,if_true,if_false]<;>grind
  ·subst f;have i:R=0:=by
    (have hp:(0:Int)<if d<0 then -d else d:=by split<;>omega);have hq:Q*(if d<0 then -d else d) = -R:=oM;(have hm:(-R)%(if d<0 then -d else d)=0:=by rw[<-hq];exact Int.mul_emod_left ..);have y:R%(if d<0 then -d else d)=0:=by
     have:=Int.emod_eq_zero_of_dvd ((Int.dvd_neg).1 (Int.dvd_of_emod_eq_zero hm));exact this
    rw[Int.emod_eq_of_lt u (by rw[<-j];exact x)]at y;exact y
   have K:Q=0:=by
    subst i;have:Q*(if d<0 then -d else d)=0:=oM;rcases Int.mul_eq_zero.1 this with h|h
    ·exact h
    ·split at h<;>omega
   subst i K;simp
  ·rw[e];split at h<;>rename_i Aa<;>simp only[Aa,if_true,if_false]<;>grind
 ·subst p;obtain⟨f,h3⟩:=t;rw[Int.sign_eq_neg_one_of_neg f];rw[j]at h ⊢;split at h<;>rename_i Aa<;>simp only[Aa,if_true,if_false]<;>grind
end
section
open Go.RowKit Go.Shelf
def Ad(w:Z)(v:J)(n:Int):Prop:=∃sl ds,v=Oa #[C M n.sign,sl]/\Jc 3 w sl ds/\pg C4 ds/\dv C4 ds=(n.natAbs:Int)
section
variable {w w':Z} {v:J} {n:Int} {s:Int} {a:Option Od} {m c:Nat}
def Ad.ext(h:Ad w v n)(k:Ba w w'):Ad w' v n:=by obtain⟨sl,ds,d,e,f,i⟩:=h;exact⟨sl,ds,d,e.ext k,f,i⟩
def Ad.keep(h:Ad w v n)(k:Ka 3 w w'):Ad w' v n:=by obtain⟨sl,ds,d,e,f,i⟩:=h;exact⟨sl,ds,d,e.keep k,f,i⟩
def Ad.form(h:Ad w v n):∃a m c,v=Oa #[C M n.sign,O a m c]:=by obtain⟨sl,ds,rfl,d,e,f⟩:=h;obtain⟨a,c,rfl⟩:=d.form;exact⟨_,_,_,rfl⟩
def Ad.j(h:Ad w v n):∃s a m c,v=Oa #[C M s,O a m c]/\s=n.sign:=by obtain⟨a,m,c,rfl⟩:=h.form;exact⟨_,_,_,_,rfl,rfl⟩
def Ad.sgn(h:Ad w (Oa #[C M s,O a m c]) n):s=n.sign:=by obtain⟨sl,ds,d,e,f,i⟩:=h;cases d;rfl
def Ad.open(h:Ad w (Oa #[C M s,O a m c]) n):∃ds,ds.length=m/\Jc 3 w (O a m c) ds/\pg C4 ds/\dv C4 ds=(n.natAbs:Int):=by obtain⟨sl,ds,e,d,f,i⟩:=h;cases e;exact⟨ds,d.len.symm,d,f,i⟩
def Ad.nil(w:Z):Ad w (Oa #[C M 0,O I 0 0]) 0:=⟨_,[],rfl,Jc.nil _ _,pg.nil _,rfl⟩
end
def Vh(w:Z)(n:Int)(e:Ending)(w':Z):Prop:=∃r,e=.returned r/\Ad w' r n/\Ba w w'
def Lf(w:Z)(base:Nat)(v:J)(n:Int):Prop:=∃sl ds,v=Oa #[C M n.sign,sl]/\Db 3 w base sl ds/\pg C4 ds/\dv C4 ds=(n.natAbs:Int)
section
variable {w w':Z} {v:J} {n:Int} {base:Nat}
def Lf.isN(h:Lf w base v n):Ad w v n:=by obtain⟨sl,ds,d,e,f,i⟩:=h;exact⟨sl,ds,d,e.ints,f,i⟩
def Lf.keep(h:Lf w base v n)(k:Ka 3 w w'):Lf w' base v n:=by obtain⟨sl,ds,d,e,f,i⟩:=h;exact⟨sl,ds,d,e.keep k,f,i⟩
def Lf.ext(h:Lf w base v n)(k:Ba w w'):Lf w' base v n:=h.keep k.keep
def Lf.mono{b':Nat}(h:Lf w base v n)(j:b'<=base):Lf w b' v n:=by obtain⟨sl,ds,d,e,f,i⟩:=h;exact⟨sl,ds,d,e.mono j,f,i⟩
def Lf.j(h:Lf w base v n):∃s a m c,v=Oa #[C M s,O a m c]/\s=n.sign:=h.isN.j
def Lf.nil(w:Z)(base:Nat):Lf w base (Oa #[C M 0,O I 0 0]) 0:=⟨_,[],rfl,Db.nil _ _ _,pg.nil _,rfl⟩
end
def Wk(w:Z)(n:Int)(e:Ending)(w':Z):Prop:=∃r,e=.returned r/\Lf w' w.heap.size r n/\Ba w w'
def Cw{f:FuncId}{args:Array J}{w:Z}{n:Int}(h:Calls Tryz.prog f args w (Wk w n)):Calls Tryz.prog f args w (Vh w n):=
 h.mono fun _ _ ⟨r,d,e,i⟩=>⟨r,d,e.isN,i⟩
def nl:(Tryz.prog.info? 3).map (fun i=>(i.zero,i.size,i.bytes))=Y (Y (C M 0),1,8):=kM
def JH{s D N:Int}(f:s=1\/s = -1)(d:0<D)(e:N=s*D):N.sign=s/\(N.natAbs:Int)=D:=by
 subst e;rcases f with rfl|rfl
 ·rw[Int.one_mul,Int.sign_eq_one_of_pos d];omega
 ·rw[Int.neg_one_mul,Int.sign_eq_neg_one_of_neg oM];omega
def TU(xs:List Int)(n:Nat)(w:Z)(t5 f j:J)(wr:Z):Prop:=
 ∃(i:Nat)(e:List Int)(d:Int),j=C M i/\f=C M d/\e.length=i/\Ud C4 e/\dv C4 (xs.take i)=dv C4 e+C4 ^ i*d/\ -100000000000<=d/\d+((i-n:Nat):Int)<=100000000000/\
  Db 3 wr (w.heap.size+1) t5 e/\Ba w wr/\w.heap.size<wr.heap.size/\wr.heap[w.heap.size]?=Y (Ob #[C M 0,O I 0 0] 163 (0,0))
def SU(D:Int)(w:Z)(t5:J)(wr:Z):Prop:=
 ∃(d:List Int),dv C4 d=D/\Ud C4 d/\d.length<=1000000000000/\Db 3 wr (w.heap.size+1) t5 d/\Ba w wr/\w.heap.size<wr.heap.size/\wr.heap[w.heap.size]?=Y (Ob #[C M 0,O I 0 0] 163 (0,0))
def WB{xs e:List Int}{i:Nat}{x d r q:Int}(f:e.length=i)(p:xs[i]?=Y x)(h:dv C4 (xs.take i)=dv C4 e+C4 ^ i*d)(l:r=(d+x)%10000)(j:q=(d+x)/10000):dv C4 (xs.take (i+1))=dv C4 (e++[r])+C4 ^ (i+1)*q:=by subst l j;exact YK e xs i x d f p h
def xJ{xs e:List Int}{i:Nat}{d r q:Int}(f:e.length=i)(p:xs.length<=i)(h:dv C4 (xs.take i)=dv C4 e+C4 ^ i*d)(l:r=d%10000)(j:q=d/10000):dv C4 (xs.take (i+1))=dv C4 (e++[r])+C4 ^ (i+1)*q:=by subst l j;rw[lT oM]at h ⊢;exact QC xs e i d f h
def EH{xs e:List Int}{i:Nat}{d:Int}(p:e.length=i)(r:xs.length<=i)(l:Ud C4 e)(h:dv C4 (xs.take i)=dv C4 e+C4 ^ i*d)(u:0<=dv C4 xs):0<=d:=by
 rw[lT r]at h;have f:=(Wi Gk l).2;rw[p]at f;have t:=Tj Gk i;by_cases j:0<=d
 ·exact j
 ·have:C4 ^ i*d<=C4 ^ i*(-1):=Int.mul_le_mul_of_nonneg_left oM oM;omega
def Gx(w:Z)(s:Int)(v:J)(xs:List Int)(N:Int)(hI:Jc 3 w v xs)(au:xs.length<=2000000)(hx:∀x∈xs,-100000000000000<=x/\x<=100000000000000)(ah:0<=dv C4 xs)(hN:N=s*dv C4 xs)(hs:dv C4 xs≠0->s=1\/s = -1):Calls Tryz.prog 213 #[C M s,v] w (Wk w N):=by
 obtain⟨a,c,rfl⟩:=hI.form;obtain⟨n,hn⟩:=gX xs.length;rw[hn]at au ⊢;have Hn:=Aa hn;have HI:=Aa hI;have HN:=Aa hN;have Hs:=Aa hs;have an:=Aa ah;clear hn hI hN hs ah;go_in;go_wp2;go_loopw [5,6,7] (TU xs n w) (fun _ t6 t7 _=>(n-(intOf t7).toNat)*1000000000000+(intOf t6+100000000000).toNat)
 case atStart=>exact⟨0,[],0,rfl,rfl,rfl,Ud.nil _,by simp,by omega,by omega,Db.nil _ _ _,(eR w).alloc _,by simp,aN w _⟩
 case round =>
  obtain⟨i,ys,cy,rfl,rfl,az,aa,hv,aE,aF,y,R,av,ai⟩:=hrel;have l:=Aa az;have Hv:=Aa hv;have z:=Aa ai;clear az hv ai;obtain⟨oa,oc,rfl⟩:=y.form;rw[l.o]at y ⊢;by_cases al:i<n
  ·have aA:ys.length<=1000000000000:=by rw[l.o];omega
   obtain⟨b,o,rfl,aL,aq⟩:=(HI.o.ext R).open (by rw[Hn.o];omega);obtain⟨x,af⟩:∃x,xs[i]?=Y x:=⟨xs[i]'(by rw[Hn.o];exact al),by simp[Hn.o,al]⟩;have ak:=aq i x af;have aP:=hx x (lM af);have ap:=Aa af;have Hx:=Aa hx;clear af aq hx;have g1:(i:Int)<(n:Int):=oM;have g2:(0:Int)<=(i:Int):=oM;obtain⟨r,hr⟩:=gX (Int.tmod (cy+x) 10000);obtain⟨q,hq⟩:=gX (Int.tdiv (cy+x) 10000);by_cases ac:r<0
   ·obtain⟨e1,e2⟩:=uH (x:=cy+x) (by rw[hr];exact ac);rw[hr]at e1;rw[hq]at e2;have E1:=Aa e1;have E2:=Aa e2;have r1:-10000<=r:=oM;have q1:-100000000000<=q-1:=oM;have q2:q-1<=99999999999:=oM;clear e1 e2;go_wp2_with(at_builtin;refine Mj nl Tryz.underlying47 rfl _ _ rfl rfl y rfl oM oM ?_;intro v' w1 d f t);go_roundw
    case rel =>
     refine⟨i+1,_,_,by go_num,rfl,by simp[l.o],aa.snoc oM (by unfold C4;omega),WB l.o ap.o Hv.o E1.o E2.o,by omega,by omega,d,R.D f oM,?_,?_⟩
     ·have:=f.size;omega
     ·exact t.get z.o dM
    case measure=>simp[intOf];omega
   ·obtain⟨e1,e2⟩:=tH (x:=cy+x) (by rw[hr];exact ac);rw[hr]at e1;rw[hq]at e2;have E1:=Aa e1;have E2:=Aa e2;have r1:0<=r:=oM;have r2:r<10000:=oM;have q1:-100000000000<=q:=oM;have q2:q<=99999999999:=oM;clear e1 e2;go_wp2_with(at_builtin;refine Mj nl Tryz.underlying47 rfl _ _ rfl rfl y rfl oM oM ?_;intro v' w1 d f t);go_roundw
    case rel =>
     refine⟨i+1,_,_,by go_num,rfl,by simp[l.o],aa.snoc oM (by unfold C4;omega),WB l.o ap.o Hv.o E1.o E2.o,by omega,by omega,d,R.D f oM,?_,?_⟩
     ·have:=f.size;omega
     ·exact t.get z.o dM
    case measure=>simp[intOf];omega
  ·have aG:=EH l.o (by rw[Hn.o];omega) aa Hv.o an.o;by_cases ad:cy=0
   ·have ax:dv C4 ys=dv C4 xs:=by
     have:=Hv.o;rw[ad,lT (by rw[Hn.o];omega)]at this;rw[this];simp
    have ao:=Aa ax;subst ad;clear ax aG aE Hv;have aj:i<=1000000000000:=oM;have g1:¬(i:Int)<(n:Int):=oM;go_wp2;go_loopw [5] (SU (dv C4 xs) w) (fun t5 _=>match t5 with | O _ n _=>n|_=>0)
    case atStart=>exact⟨ys,ao.o,aa,by rw[l.o];exact aj,y,R,av,z.o⟩
    case round =>
     clear y R av z ao l aj aF aa g1 al;obtain⟨us,ay,am,aI,d,aJ,aw,j⟩:=hrel;obtain⟨a3,c3,rfl⟩:=d.form;have aB:=Da j (i:=0) (u:=C M 0) rfl;have aC:=Da j (i:=1) (u:=O I 0 0) rfl;have aR:=Za j 0;have aS:=Za j 1;have K:=Aa j;have ab:=Aa ay;clear j ay;rcases RE us with rfl|⟨L,x,rfl⟩
     ·have hd:decide ((0:Int)<(([]:List Int).length:Int))=false:=sM;go_wp2;refine bR (v:=Oa #[C M 0,O I 0 0]) (by simp[results,Tryz.results213,go_sem,aB,aC]) rfl ⟨_,rfl,?_,eA⟩;(have e:N=0:=by rw[HN.o,<-ab.o];simp);rw[e];exact Lf.nil _ _
     ·obtain⟨g,rfl,hg,aM⟩:=d.blk sM;have ak:wr.cell? ⟨g,L.length,I⟩=Y (C M x):=d.cell sM;have ar:=d.ints.le;simp only[lA,List.length_singleton]at d ar aI ⊢;unfold maxLen at ar;by_cases ae:x=0
      ·subst ae;go_wp2;go_roundw
       case rel =>
        refine⟨L,?_,(Ud.of_append am).1,by omega,d.pop,aJ,aw,K.o⟩;have:=ab.o;rw[Gn]at this;omega
       case measure=>simp
      ·(have aO:(x==0)=false:=by simpa using ae);have aD:=Aa ae;clear ae;have ag:pg C4 (L++[x]):=⟨am,by simpa using aD.o⟩;have hD:0<dv C4 (L++[x]):=by
        have h1:=(Wi Gk am).1;(have h2:dv C4 (L++[x])≠0:=fun e=>by have:=(QD Gk ag).1 e;simp at this);omega
       obtain⟨n1,n2⟩:=JH (Hs.o (by rw[<-ab.o];omega)) (by rw[<-ab.o];exact hD) HN.o;have N1:=Aa n1;have N2:=Aa n2;clear n1 n2 hD;go_wp2;refine bR (v:=Oa #[C M s,O (Y ⟨g,0,I⟩) (L.length+1) c3]) (by simp[results,Tryz.results213,go_sem,aB,aC]) rfl ⟨_,rfl,⟨_,L++[x],(by rw[N1.o]),?_,ag,ab.o.trans N2.o.symm⟩,eA⟩;refine((d.setOther (p:=⟨w.heap.size,0,I⟩) (d.ne_block K.o dM) _).setOther (p:=⟨w.heap.size,1,I⟩) (d.ne_block K.o dM) _).mono (Nat.le_succ _)
   ·have aQ:0<cy:=oM;(have aH:xs.length<=i:=by rw[Hn.o];omega);(have aA:ys.length<=1000000000000:=by rw[l.o];omega);(have aK:(cy != 0)=true:=by simpa using ad);have g1:¬(i:Int)<(n:Int):=oM;obtain⟨r,hr⟩:=gX (Int.tmod cy 10000);obtain⟨q,hq⟩:=gX (Int.tdiv cy 10000);(have e1:r=cy%10000:=by rw[<-hr,Int.tmod_eq_emod_of_nonneg oM]);(have e2:q=cy/10000:=by rw[<-hq,Int.tdiv_eq_ediv_of_nonneg oM]);have r1:0<=r:=oM;have r2:r<10000:=oM;have q1:0<=q:=oM;have q2:q<cy:=oM;have ac:¬r<0:=oM;have E1:=Aa e1;have E2:=Aa e2;clear e1 e2 ad;go_wp2_with(at_builtin;refine Mj nl Tryz.underlying47 rfl _ _ rfl rfl y rfl oM oM ?_;intro v' w1 d f t);go_roundw
    case rel =>
     refine⟨i+1,_,_,by go_num,rfl,by simp[l.o],aa.snoc oM (by unfold C4;omega),xJ l.o aH Hv.o E1.o E2.o,by omega,by omega,d,R.D f oM,?_,?_⟩
     ·have:=f.size;omega
     ·exact t.get z.o dM
    case measure=>simp[intOf];omega
def ot(w:Z)(s:Int)(v:J)(xs:List Int)(N:Int)(f:Jc 3 w v xs)(d:xs.length<=2000000)(l:∀x∈xs,-100000000000000<=x/\x<=100000000000000)(e:0<=dv C4 xs)(i:N=s*dv C4 xs)(j:dv C4 xs≠0->s=1\/s = -1):Calls Tryz.prog 213 #[C M s,v] w (Vh w N):=Cw (Gx w s v xs N f d l e i j)
def Bd(k n:Int):Prop:=-k<=n/\n<=k
def Bd.mono{j k n:Int}(h:Bd j n)(d:j<=k):Bd k n:=by unfold Bd at *;omega
def Bd.mul{j k x y:Int}(h:Bd j x)(f:Bd k y):Bd (j*k) (x*y):=by
 unfold Bd at *;have d:(x.natAbs:Int)<=j:=oM;have e:(y.natAbs:Int)<=k:=oM;have:((x*y).natAbs:Int)<=j*k:=by
  rw[Int.natAbs_mul,Int.natCast_mul];exact Int.mul_le_mul d e oM oM
 omega
def Bd.sub{j k x y:Int}(h:Bd j x)(d:Bd k y):Bd (j+k) (x-y):=by unfold Bd at *;omega
def Zx(w:Z)(d f i j:Int)(l:Bd 1000000000 d)(t:Bd 1000000000 f)(y:Bd 1000000000 i)(h4:Bd 1000000000 j):Calls Tryz.prog 247 #[Oa #[C M d,C M f],Oa #[C M i,C M j]] w fun e w'=>e=.returned (Oa #[C M (d-i),C M (f-j)])/\Ba w w':=by obtain⟨p,r⟩:=l;obtain⟨u,x⟩:=t;obtain⟨z,K⟩:=y;obtain⟨L,R⟩:=h4;go_in;go_wp2;exact bR (v:=Oa #[C M (d-i),C M (f-j)]) (by simp[results,Tryz.results247,go_sem]) rfl ⟨rfl,eA⟩
def GQ(w:Z)(d f i j:Int)(l:Bd 1000000000 d)(p:Bd 1000000000 f)(r:Bd 1000000000 i)(h4:Bd 1000000000 j):Calls Tryz.prog 295 #[Oa #[C M d,C M f],Oa #[C M i,C M j]] w fun e w'=>e=.returned (C M (d*j-f*i))/\Ba w w':=by obtain⟨t,m2⟩:=l.mul h4;obtain⟨u,x⟩:=p.mul r;have y:IntKind.i64.wrap (d*j)=d*j:=iW _ ⟨by omega,by omega⟩;have z:IntKind.i64.wrap (f*i)=f*i:=iW _ ⟨by omega,by omega⟩;have K:IntKind.i64.wrap (d*j-f*i)=d*j-f*i:=iW _ ⟨by omega,by omega⟩;clear t m2 u x l p r h4;go_in;go_wp2;go_ret;exact⟨by first|rfl|simp[*],eA⟩
def Ge(p q r:Int×Int):Int:=(q.1-p.1)*(r.2-q.2)-(q.2-p.2)*(r.1-q.1)
def rM(w:Z)(i j d f l p:Int)(R:Bd 100000000 i)(h2:Bd 100000000 j)(h3:Bd 100000000 d)(h4:Bd 100000000 f)(h5:Bd 100000000 l)(h6:Bd 100000000 p):Calls Tryz.prog 266 #[Oa #[C M i,C M j],Oa #[C M d,C M f],Oa #[C M l,C M p]] w fun e w'=>e=.returned (C M (Ge (i,j) (d,f) (l,p)))/\Ba w w':=by
 have y:=Aa R;have z:=Aa h2;have r:=Aa h3;have t:=Aa h4;have K:=Aa h5;have L:=Aa h6;clear R h2 h3 h4 h5 h6;go_in;go_wp2;go_region_held3 (fun W=>W.cell? ⟨w.heap.size,0,I⟩=Y (C M i)/\W.cell? ⟨w.heap.size,1,I⟩=Y (C M j)/\W.cell? ⟨w.heap.size+1,0,I⟩=Y (C M d)/\W.cell? ⟨w.heap.size+1,1,I⟩=Y (C M f)/\W.cell? ⟨w.heap.size+1+1,0,I⟩=Y (C M l)/\W.cell? ⟨w.heap.size+1+1,1,I⟩=Y (C M p)) ((repeat' (with_reducible refine And.intro ?_ ?_))<;>(first|(go_simp;done)|(refine hx1.d ?_;go_simp;done))) (first|((go_at_call 247;(with_reducible refine(Zx _ d f i j (r.o.mono dM) (t.o.mono dM) (y.o.mono dM) (z.o.mono dM)).mono ?_);rintro e w1 ⟨rfl,hx1⟩;obtain⟨⟨aj,am⟩,aa,ab,ac⟩:=Sb w hx1))|((go_at_call 247;(with_reducible refine(Zx _ l p d f (K.o.mono dM) (L.o.mono dM) (r.o.mono dM) (t.o.mono dM)).mono ?_);rintro e w2 ⟨rfl,u⟩;obtain⟨⟨ak,an⟩,ad,ae,af⟩:=Sb w u))|((go_at_call 295;(with_reducible refine(GQ _ (d-i) (f-j) (l-d) (p-f) ((r.o.sub y.o).mono dM) ((t.o.sub z.o).mono dM) ((K.o.sub r.o).mono dM) ((L.o.sub t.o).mono dM)).mono ?_);rintro e w3 ⟨rfl,x⟩;obtain⟨⟨al,ao⟩,ag,ah,ai⟩:=Sb w x)))
 all_goals go_wp2
 go_ret;exact⟨rfl,eA⟩
def Ra(n a b:Int):Bool:=decide (a<=n)&&decide (n<=b)
def ii(w:Z)(n a b:Int):Calls Tryz.prog 195 #[C M n,C M a,C M b] w fun e w'=>e=.returned (X (Ra n a b))/\Ba w w':=by
 unfold Ra;by_cases h:a<=n
 ·have d:decide (a<=n)=true:=by simpa using h
  go_in;go_wp2;go_ret;exact⟨by simp[d],eA⟩
 ·have d:decide (a<=n)=false:=by simpa using h
  go_in;go_wp2;go_ret;exact⟨by simp[d],eA⟩
def By(w:Z)(n:Int):Calls Tryz.prog 296 #[C M n] w fun e w'=>e=.returned (X false)/\Ba w w':=by go_in;go_wp2;go_ret;exact⟨rfl,eA⟩
def mG(w:Z)(a b:Int):Calls Tryz.prog 269 #[C M a,C M b] w fun e w'=>e=.returned (C M (Fc a b))/\Ba w w':=by
 have f:a<b->Calls Tryz.prog 269 #[C M a,C M b] w fun e w'=>e=.returned (C M (Fc a b))/\Ba w w':=by
  intro h;have e:Fc a b = -1:=by unfold Fc;(repeat' split)<;>omega
  rw[e];clear e
  first|subst h|skip
  go_in;go_wp2_with(((go_at_call 296;(with_reducible refine(By _ _).mono ?_);rintro e l ⟨rfl,d⟩)));go_ret;exact⟨rfl,eA⟩
 have i:a=b->Calls Tryz.prog 269 #[C M a,C M b] w fun e w'=>e=.returned (C M (Fc a b))/\Ba w w':=by
  intro h;have e:Fc a b=0:=by unfold Fc;(repeat' split)<;>omega
  rw[e];clear e
  first|subst h|skip
  go_in;go_wp2_with(((go_at_call 296;(with_reducible refine(By _ _).mono ?_);rintro e l ⟨rfl,d⟩)));go_ret;exact⟨rfl,eA⟩
 have j:b<a->Calls Tryz.prog 269 #[C M a,C M b] w fun e w'=>e=.returned (C M (Fc a b))/\Ba w w':=by
  intro h;have e:Fc a b=1:=by unfold Fc;(repeat' split)<;>omega
  rw[e];clear e
  first|subst h|skip
  go_in;go_wp2_with(((go_at_call 296;(with_reducible refine(By _ _).mono ?_);rintro e l ⟨rfl,d⟩)));go_ret;exact⟨rfl,eA⟩
 rcases Int.lt_trichotomy a b with h|h|h
 ·exact f h
 ·exact i h
 ·exact j h
def Fa(T:TypeId)(k:Nat)(w:Z)(base:Nat)(v:J)(cs:List (List J)):Prop:=(∀c∈cs,c.length=k)/\w.ownsRow base T k v cs.length cs.flatten
def sm{k:Nat}:∀{cs:List (List J)},(∀c∈cs,c.length=k)->cs.flatten.length=cs.length*k
 | [],_=>by simp
 | d::cs,h=>by
  rw[List.flatten_cons,lA,sm (fun c e=>h c (mC _ e)),h d (by simp),List.length_cons,Nat.add_mul];omega
def qt{k:Nat}:∀{cs:List (List J)}(m:Nat),(∀c∈cs,c.length=k)->m<=cs.length->cs.flatten.take (m*k)=(cs.take m).flatten
 | _,0,_,_=>by simp
 | [],m+1,_,h=>by simp at h
 | d::cs,m+1,h,hm=>by
  have e:=h d sM;rw[List.flatten_cons,List.take_append,e,lT (by rw[e,Nat.add_mul];omega),show (m+1)*k-k=m*k by rw[Nat.add_mul];omega,
   qt m (fun c f=>h c (mC _ f)) (by simpa using hm),List.take_succ_cons,List.flatten_cons]
section
variable {T:TypeId} {k:Nat} {w w':Z} {base:Nat} {v:J} {cs ds:List (List J)} {a:Option Od} {n c g:Nat}
def Fa.rd(h:Fa T k w base v cs):Rd w T k v cs.length cs.flatten:=Rd.of_own h.2
def Fa.sl{α:Type}{P:Z->List J->α->Prop}{xs:List α}(h:Fa T k w base v cs)(d:cs.length=xs.length)(e:∀(i:Nat) c x,cs[i]?=Y c->xs[i]?=Y x->P w c x):Sl T k P w v xs:=
 ⟨cs,d,h.1,by rw[<-d];exact h.rd,e⟩
def Fa.nil(T:TypeId)(k:Nat)(w:Z)(base:Nat):Fa T k w base (O I 0 0) []:=⟨by simp,World.ownsRow_nil w base T k⟩
def Fa.form(h:Fa T k w base v cs):∃a c,v=O a cs.length c:=Zr h.2
def Fa.i(h:Fa T k w base v cs):∃a n c,v=O a n c:=by obtain⟨a,c,h⟩:=Zr h.2;exact⟨a,_,c,h⟩
def Fa.len(h:Fa T k w base (O a n c) cs):n=cs.length:=by obtain⟨a,e,d⟩:=Zr h.2;cases d;rfl
def Fa.keep(h:Fa T k w base v cs)(j:Ka T w w'):Fa T k w' base v cs:=by
 obtain⟨e,l,d⟩:=h;refine⟨e,l,?_⟩;rcases d with d|⟨g,cap,cur,hv,f,i,r⟩
 ·exact .inl d
 ·exact .inr ⟨g,cap,cur,hv,f,j _ _ _ i,r⟩
def Fa.ext(h:Fa T k w base v cs)(d:Ba w w'):Fa T k w' base v cs:=h.keep d.keep
def Fa.grown(h:Fa T k w base v cs){row:Option Nat}(e:w.grownBy w' row)(d:v.ownBlock=I\/v.ownBlock≠row):Fa T k w' base v cs:=⟨h.1,World.ownsRow.kept h.2 e d⟩
def Fa.setOther(h:Fa T k w base v cs){p:Od}(f:v.ownBlock≠Y p.block)(u:J):Fa T k (w.setCell p u) base v cs:=
 h.grown (row:=Y p.block) ⟨rfl,rfl,rfl,by simp[World.setCell],fun k _ d=>bS _ _ _ _ (by intro e;exact d (by rw[e]))⟩ (.inr f)
def Fa.mono{b':Nat}(h:Fa T k w base v cs)(i:b'<=base):Fa T k w b' v cs:=by
 obtain⟨e,f,d⟩:=h;refine⟨e,f,?_⟩;rcases d with d|⟨g,cap,cur,hv,j,r⟩
 ·exact .inl d
 ·exact .inr ⟨g,cap,cur,hv,by omega,r⟩
def Fa.blk(h:Fa T k w base (O a n c) cs)(f:0<cs.length):∃g,a=Y ⟨g,0,I⟩/\base<=g/\g<w.heap.size:=by have d:=h.len;subst d;obtain⟨g,rfl,e⟩:=tD h.2 f;exact⟨g,rfl,e,(World.ownsRow.lt h.2 g rfl).2⟩
def Fa.cell(h:Fa T k w base (O (Y ⟨g,0,I⟩) n c) cs){i j:Nat}{d:List J}{u:J}(e:cs[i]?=Y d)(l:d[j]?=Y u):w.cell? ⟨g,i*k+j,I⟩=Y u:=by
 have t:=h.len;subst t;have p:=(lS.1 e).1;have f:=h.1 d (lM e);have r:j<k:=by rw[<-f];exact(lS.1 l).1
 rw[World.ownsRow.cellAt h.2 _ (by
  calc i*k+j<i*k+k:=oM
   _=(i+1)*k:=by rw[Nat.add_mul];omega
   _<=cs.length*k:=Nat.mul_le_mul_right _ p),Ws h.1 e r]
 exact l
def Fa.frozen(h:Fa T k w base (O (Y ⟨g,0,I⟩) n c) cs)(i:Nat):w.frozen? ⟨g,i,I⟩=false:=by have d:=h.len;subst d;exact World.ownsRow.frozenAt h.2 i
def yG{k:Nat}:∀{cs:List (List J)}{i j:Nat}{d:List J},(∀c∈cs,c.length=k)->cs[i]?=Y d->j<k->∀u,cs.flatten.set (i*k+j) u=(cs.set i (d.set j u)).flatten
 | [],i,j,d,_,h,_,_=>by simp at h
 | e::cs,0,j,d,hk,h,hj,u=>by
  simp at h;subst h;rw[List.flatten_cons,Nat.zero_mul,Nat.zero_add,List.set_append_left _ _ (by rw[hk e (by simp)];exact hj),List.set_cons_zero,List.flatten_cons]
 | e::cs,i+1,j,d,hk,h,hj,u=>by
  have f:=hk e sM;rw[List.flatten_cons,List.set_append_right _ _ (by rw[f,Nat.add_mul];omega),f,show (i+1)*k+j-k=i*k+j by rw[Nat.add_mul];omega,
   yG (fun c l=>hk c (mC _ l)) (by simpa using h) hj u,List.set_cons_succ,List.flatten_cons]
def Fa.stored(h:Fa T k w base (O (Y ⟨g,0,I⟩) n c) cs){i j:Nat}{d:List J}(p:cs[i]?=Y d)(t:j<k)(u:J):Fa T k (w.setCell ⟨g,i*k+j,I⟩ u) base (O (Y ⟨g,0,I⟩) n c) (cs.set i (d.set j u)):=by
 have x:=h.len;subst x;have l:=h.1 d (lM p);refine⟨?_,?_⟩
 ·intro e r;rcases List.mem_or_eq_of_mem_set r with f|f
  ·exact h.1 e f
  ·subst f;simpa using l
 ·have:=(World.ownsRow.stored h.2 (i*k+j) u).1;rw[yG h.1 p t u]at this;rw[List.length_set];exact this
def Fa.cut(h:Fa T k w base (O (Y ⟨g,0,I⟩) n c) cs){m:Nat}(f:m<=cs.length):Fa T k w base (O (Y ⟨g,0,I⟩) m c) (cs.take m):=by
 have t:=h.len;subst t;have r:(cs.take m).length=m:=by rw[List.length_take];omega
 have d:∀c∈cs.take m,c.length=k:=fun c j=>h.1 c (List.mem_of_mem_take j);refine⟨d,?_,?_⟩
 ·rw[sm d]
 ·rcases h.2.2 with ⟨i,_⟩|⟨z,cap,cur,hv,l,p,u,e,x,y⟩
  ·cases i
  ·cases hv;rw[r];refine .inr ⟨g,c,cur,rfl,l,p,by omega,e,x,?_⟩;rw[<-qt m h.1 f,<-y,List.take_take]
   congr 1
   have:m*k<=cs.length*k:=Nat.mul_le_mul_right _ f;omega
end
def Wx{P:Program}{T t:TypeId}(ty:TypeId){k bytes:Nat}{z:J}{w:Z}{base:Nat}{v:J}{cs ds:List (List J)}{ad:Od}{m c:Nat}(p:(P.info? T).map (fun i=>(i.zero,i.size,i.bytes))=Y (Y z,k,bytes))(ae:z.cells.size=k)(hk:0<k)(R:bytes<=1000)(ht:P.underlying t=Y (.slice T))(d:Fa T k w base v cs)(hm:ds.length=m)(hd:∀c∈ds,c.length=k)(r:∀(j:Nat) u,ds.flatten[j]?=Y u->w.cell? (ad.add j)=Y u)(h1:∀u∈ds.flatten,u.oneCell'=true)(y:cs.length+m<=100000000000)(f:base<=w.heap.size):∃v' w',(Builtin.append_ #[t,t] ty #[v,O (Y ad) m c]).run P w = .ok v' w'/\Fa T k w' base v' (cs++ds)/\w.grownBy w' v.ownBlock/\(v'.ownBlock=v.ownBlock\/v'.ownBlock=Y w.heap.size):=by
 obtain⟨i,hi,aa,ab,ac⟩:=info_parts p;subst hm;have hb:(cs.length+ds.length)*bytes<=140737488355328:=by
  calc (cs.length+ds.length)*bytes<=100000000000*1000:=Nat.mul_le_mul y R
   _<=140737488355328:=dM
 obtain⟨v',w',L,x,l,_,K⟩:=run_append_own_at (P:=P) w base t ty T i z k bytes ht hi aa ab ac ae hk v cs.length cs.flatten d.2 ad ds.length c ds.flatten (sm hd)
  r h1 (by unfold maxLen;omega) hb f
 refine⟨v',w',L,⟨?_,?_⟩,l,K⟩
 ·intro e he;rcases List.mem_append.1 he with h|h
  ·exact d.1 e h
  ·exact hd e h
 ·rw[lA,List.flatten_append];exact x
def Mi{P:Program}{T t:TypeId}{k bytes:Nat}{z:J}{w:Z}{base:Nat}{v:J}{cs:List (List J)}{ops:Array Oper}{rest:List Oper}{o:Oper}{a:Oc}{Q:Exit->Oc->Z->Prop}(e:(P.info? T).map (fun i=>(i.zero,i.size,i.bytes))=Y (Y z,k,bytes))(R:z.cells.size=k)(hk:0<k)(y:bytes<=1000)(ht:P.underlying t=Y (.slice T))(L:o.guard=I)(s x:Operand)(ho:o.op = .call { callee:=.builtin .append,args:=#[s,x],argTypes:=#[t,t] })(hs:a.eval s=v)(p:Fa T k w base v cs){ad:Od}{m c:Nat}(hx:a.eval x=O (Y ad) m c)
  (ds:List (List J))(hm:ds.length=m)(hd:∀c∈ds,c.length=k)(f:∀(j:Nat) u,ds.flatten[j]?=Y u->w.cell? (ad.add j)=Y u)(h1:∀u∈ds.flatten,u.oneCell'=true)(l:cs.length+m<=100000000000)(d:base<=w.heap.size)
  (h:∀v' w',Fa T k w' base v' (cs++ds)->w.grownBy w' v.ownBlock->(v'.ownBlock=v.ownBlock\/v'.ownBlock=Y w.heap.size)->wpList P ops Q rest (a.put o.dst v') w'):wpList P ops Q (o::rest) a w:=by obtain⟨v',w',r,h2,h3,h4⟩:=Wx (P:=P) o.type e R hk y ht p hm hd f h1 l d (c:=c);refine wpList_plain L fun K hK=>?_;unfold Oper.wp;simp[execOp,ho,resolve,invoke,builtin,hs,hx,r,Result.andThen];exact hK _ _ (h v' w' h2 h3 h4)
def DM{P:Program}{T t:TypeId}(ty:TypeId){k bytes:Nat}{z:J}{w:Z}{base:Nat}{v sl:J}{cs ds:List (List J)}(f:(P.info? T).map (fun i=>(i.zero,i.size,i.bytes))=Y (Y z,k,bytes))(ae:z.cells.size=k)(hk:0<k)(R:bytes<=1000)(ht:P.underlying t=Y (.slice T))(l:Fa T k w base v cs)(hd:∀c∈ds,c.length=k)(d:Rd w T k sl ds.length ds.flatten)(h1:∀u∈ds.flatten,u.oneCell'=true)(y:cs.length+ds.length<=100000000000)(p:base<=w.heap.size):∃v' w',(Builtin.append_ #[t,t] ty #[v,sl]).run P w = .ok v' w'/\Fa T k w' base v' (cs++ds)/\w.grownBy w' v.ownBlock/\(v'.ownBlock=v.ownBlock\/v'.ownBlock=Y w.heap.size):=by
 obtain⟨K,c,rfl⟩:=d.form;rcases K with _|K
 ·obtain⟨i,hi,af,ac,ag⟩:=info_parts f;have h0:ds=[]:=by
   by_cases h:0<ds.length
   ·obtain⟨b,o,e,_⟩:=d.open h;cases e
   ·exact List.eq_nil_of_length_eq_zero oM
  subst h0;have hc:c=0:=by
   obtain⟨_,a,c,e,_,_,L⟩:=d;cases e;rcases L with L|⟨b,o,cs,fr,e,_⟩
   ·exact L.2 rfl
   ·cases e
  subst hc;have x:=l.2;subst ac;exact⟨v,w,run_append_owned_none (P:=P) (w:=w) base t ty T i i.size ht hi v cs.length cs.flatten x,by simpa using l,⟨rfl,rfl,rfl,nE _,fun _ _ _=>rfl⟩,.inl rfl⟩
 ·have r:∀(j:Nat) u,ds.flatten[j]?=Y u->w.cell? (K.add j)=Y u:=by
   intro j u hj;have aa:0<ds.length:=by
    by_cases h:0<ds.length
    ·exact h
    ·rw[List.eq_nil_of_length_eq_zero (show ds.length=0 by omega)]at hj;simp at hj
   obtain⟨b',o',e,hb,_,ab⟩:=d.open aa;cases e;have:=ab j u hj;unfold Addr.add;split
   ·subst j;simpa using this
   ·exact this
  exact Wx ty f ae hk R ht l rfl hd r h1 y p
def xq{P:Program}{T t:TypeId}{k bytes:Nat}{z:J}{w:Z}{base:Nat}{v sl:J}{cs:List (List J)}{ops:Array Oper}{rest:List Oper}{o:Oper}{a:Oc}{Q:Exit->Oc->Z->Prop}(e:(P.info? T).map (fun i=>(i.zero,i.size,i.bytes))=Y (Y z,k,bytes))(L:z.cells.size=k)(hk:0<k)(r:bytes<=1000)(ht:P.underlying t=Y (.slice T))(y:o.guard=I)(s x:Operand)(ho:o.op = .call { callee:=.builtin .append,args:=#[s,x],argTypes:=#[t,t] })(hs:a.eval s=v)(j:Fa T k w base v cs)(hx:a.eval x=sl)
  (ds:List (List J))(hd:∀c∈ds,c.length=k)(p:Rd w T k sl ds.length ds.flatten)(R:∀u∈ds.flatten,u.oneCell'=true)(f:cs.length+ds.length<=100000000000)(d:base<=w.heap.size)
  (h:∀v' w',Fa T k w' base v' (cs++ds)->w.grownBy w' v.ownBlock->(v'.ownBlock=v.ownBlock\/v'.ownBlock=Y w.heap.size)->wpList P ops Q rest (a.put o.dst v') w'):wpList P ops Q (o::rest) a w:=by obtain⟨v',w',l,h2,h3,h4⟩:=DM (P:=P) o.type e L hk r ht j hd p R f d;refine wpList_plain y fun K hK=>?_;unfold Oper.wp;simp[execOp,ho,resolve,invoke,builtin,hs,hx,l,Result.andThen];exact hK _ _ (h v' w' h2 h3 h4)
def Uy{k:Nat}:∀{cs:List (List J)}(m:Nat),(∀c∈cs,c.length=k)->m<=cs.length->cs.flatten.drop (m*k)=(cs.drop m).flatten
 | _,0,_,_=>by simp
 | [],m+1,_,h=>by simp at h
 | d::cs,m+1,h,hm=>by
  have e:=h d sM;rw[List.flatten_cons,List.drop_append,e,List.drop_of_length_le (by rw[e,Nat.add_mul];omega),show (m+1)*k-k=m*k by rw[Nat.add_mul];omega,
   Uy m (fun c f=>h c (mC _ f)) (by simpa using hm),List.drop_succ_cons,List.nil_append]
section
variable {α:Type} {T:TypeId} {k:Nat} {P:Z->List J->α->Prop} {w w':Z} {v:J} {xs:List α} {b o n c:Nat}
def Sl.drop(h:Sl T k P w (O (Y ⟨b,o,I⟩) n c) xs)(hn:0<xs.length){m:Nat}(hm:m<=xs.length):Sl T k P w (O (Y ⟨b,o+m*k,I⟩) (n-m) (c-m)) (xs.drop m):=by
 have aa:=h.len;obtain⟨cs,z,j,⟨K,a,c9,e,h5,h6,p⟩,L⟩:=h;cases e;refine⟨cs.drop m,by rw[List.length_drop,List.length_drop,z],fun c l=>j c (List.mem_of_mem_drop l),⟨?_,Y ⟨b,o+m*k,I⟩,c-m,?_,?_,?_,?_⟩,?_⟩
 ·rw[<-Uy m j oM,List.length_drop,K,List.length_drop,Nat.sub_mul]
 ·rw[List.length_drop]
 ·rw[List.length_drop];omega
 ·omega
 ·rcases p with p|⟨b',o',f,y,e,R,l⟩
  ·omega
  ·cases e;refine .inr ⟨_,_,f,y,rfl,R,fun i x t=>?_⟩;rw[<-Uy m j oM,List.getElem?_drop]at t;have:=l _ _ t
   rwa [<-Nat.add_assoc]at this
 ·intro i d x r u;rw[List.getElem?_drop]at r u;exact L _ _ _ r u
def Sl.take(h:Sl T k P w (O (Y ⟨b,o,I⟩) n c) xs)(hn:0<xs.length){m c':Nat}(hm:m<=xs.length)(aa:m<=c')(ab:c'<=c):Sl T k P w (O (Y ⟨b,o,I⟩) m c') (xs.take m):=by
 have ac:=h.len;obtain⟨cs,K,r,⟨L,a,c9,e,h5,h6,y⟩,R⟩:=h;cases e;have f:(xs.take m).length=m:=by rw[List.length_take];omega
 refine⟨cs.take m,by rw[List.length_take,List.length_take,K],fun c t=>r c (List.mem_of_mem_take t),⟨?_,Y ⟨b,o,I⟩,c',?_,?_,?_,?_⟩,?_⟩
 ·rw[<-qt m r oM,List.length_take,L,f];have:m*k<=xs.length*k:=Nat.mul_le_mul_right _ hm;omega
 ·rw[f]
 ·rw[f];omega
 ·omega
 ·rcases y with y|⟨b',o',p,z,e,hh,t⟩
  ·omega
  ·cases e;refine .inr ⟨_,_,p,z,rfl,hh,fun i x l=>?_⟩;rw[<-qt m r oM,List.getElem?_take]at l;split at l
   ·exact t _ _ l
   ·cases l
 ·intro i d x j u;rw[List.getElem?_take]at j u;split at j
  ·rename_i hlt2;rw[if_pos hlt2]at u;exact R _ _ _ j u
  ·cases j
end
def Yg{w w':Z}{base:Nat}{row:Option Nat}(e:w.grownBy w' row)(d:base<=w.heap.size)(f:∀k,row=Y k->base<=k):Below base w w':=(Below.refl _ w).grown e d f
def Fa.lt{T:TypeId}{k:Nat}{w:Z}{base:Nat}{v:J}{cs:List (List J)}(h:Fa T k w base v cs):∀j,v.ownBlock=Y j->base<=j/\j<w.heap.size:=World.ownsRow.lt h.2
def uk{a b:Z}{g:Nat}(h:a.grownBy b (Y g))(i:Nat)(u:J):a.grownBy (b.setCell ⟨g,i,I⟩ u) (Y g):=
 h.trans ⟨rfl,rfl,rfl,by simp[World.setCell],fun k _ d=>bS _ _ _ _ (by intro e;exact d (by rw[e]))⟩
def qr{a b:Z}{row:Option Nat}(h:a.grownBy b row)(n:Nat):a.grownBy (b.drewN n) row:=⟨h.os,h.tape,h.output,h.size,h.block⟩
def vL{a b:Z}{row:Option Nat}(h:a.grownBy b row):a.grownBy b.drew row:=⟨h.os,h.tape,h.output,h.size,h.block⟩
def Ah{a b:Z}{row:Option Nat}{k:Nat}{o:Obj}(e:a.grownBy b row)(h:a.heap[k]?=Y o)(d:Y k≠row):b.heap[k]?=Y o:=(e.block k (Ya h) d).trans h
def OO{P:Program}{T t:TypeId}(ty:TypeId){k:Nat}{w:Z}{base g n cap:Nat}{sl:J}{os ds:List (List J)}(L:(P.info? T).map (·.size)=Y k)(ht:P.underlying t=Y (.slice T))(l:Fa T k w base (O (Y ⟨g,0,I⟩) n cap) os)(hd:∀c∈ds,c.length=k)(p:Rd w T k sl ds.length ds.flatten)(f:ds.length=os.length)(h0:0<ds.length)(h1:∀u∈ds.flatten,u.oneCell'=true):∃w',(Builtin.copy_ #[t,t] ty #[O (Y ⟨g,0,I⟩) n cap,sl]).run P w = .ok (goInt n) w'/\Fa T k w' base (O (Y ⟨g,0,I⟩) n cap) ds/\w.grownBy w' (Y g):=by
 have hn:=l.len;obtain⟨ad,c,rfl⟩:=p.form;obtain⟨b',o',rfl,hb,_,ac⟩:=p.open h0;have r:∀(j:Nat) u,ds.flatten[j]?=Y u->w.cell? ((⟨b',o',I⟩:Od).add j)=Y u:=by
  intro j u hj;have:=ac j u hj;unfold Addr.add;split
  ·subst j;simpa using this
  ·exact this
 subst hn;rcases l.2.2 with ⟨h2,_⟩|⟨g',ae,cur,hv,hg,hh,z,R,aa,ag⟩
 ·cases h2
 ·cases hv;have d:ds.flatten.length=ds.length*k:=sm hd;have ab:os.length*k<=cur.size:=by rw[aa];exact Nat.mul_le_mul_right _ z
  have x:=run_loadCells_list (P:=P) w ⟨b',o',I⟩ ds.flatten r;have K:=run_storeCells_at P g 0 T ds.flatten 0 cur w hh (by rw[d,f];simpa using ab) h1;refine⟨w.setRow g (cur.toList.take 0++ds.flatten++cur.toList.drop (0+ds.flatten.length)).toArray,?_,⟨hd,?_,?_⟩,⟨rfl,rfl,rfl,by simp,fun j _ hj=>setRow_other w g j _ (fun e=>hj (by simp[e]))⟩⟩
  ·cases hq:P.info? T with
   | none=>simp[hq]at L
   | some i =>
    (have hi:i.size=k:=by simpa[hq] using L);(have y:Nat.min ds.length os.length=ds.length:=by rw[f];exact Nat.min_self _);rw[d,f]at x;simp only[List.length_flatten]at K;(have af:((os.length:Nat):Int)=(ds.length:Int):=by rw[f]);simp[Builtin.copy_,run_underlying ht,Builtin.lenOf,Builtin.firstCells,sizeOf,typeInfo,hq,hi,y,x,K,goInt,f]
  ·exact d
  ·rw[f];refine .inr ⟨g,cap,_,rfl,hg,setRow_heap w g cur _ T _ hh,z,R,?_,?_⟩
   ·simp only[List.size_toArray,lA,List.length_take,List.length_drop,Array.length_toList,d,f];omega
   ·simp only[List.take_zero,List.nil_append];rw[<-f,<-d,List.take_append,lT (nE _),Nat.sub_self,List.take_zero,List.append_nil]
def NT{P:Program}{T t:TypeId}{k:Nat}{w:Z}{base g n cap:Nat}{sl:J}{os:List (List J)}{ops:Array Oper}{rest:List Oper}{o:Oper}{a:Oc}{Q:Exit->Oc->Z->Prop}(p:(P.info? T).map (·.size)=Y k)(ht:P.underlying t=Y (.slice T))(l:o.guard=I)(d s:Operand)(ho:o.op = .call { callee:=.builtin .copy,args:=#[d,s],argTypes:=#[t,t] })(j:a.eval d=O (Y ⟨g,0,I⟩) n cap)(hs:a.eval s=sl)
  (e:Fa T k w base (O (Y ⟨g,0,I⟩) n cap) os)(ds:List (List J))(R:∀c∈ds,c.length=k)(i:Rd w T k sl ds.length ds.flatten)
  (hl:ds.length=os.length)(r:0<ds.length)(x:∀u∈ds.flatten,u.oneCell'=true)
  (h:∀w',Fa T k w' base (O (Y ⟨g,0,I⟩) n cap) ds->w.grownBy w' (Y g)->wpList P ops Q rest (a.put o.dst (goInt n)) w'):wpList P ops Q (o::rest) a w:=by obtain⟨w',f,y,z⟩:=OO (P:=P) o.type p ht e R i hl r x;refine wpList_plain l fun K L=>?_;unfold Oper.wp;simp[execOp,ho,resolve,invoke,builtin,j,hs,f,Result.andThen];exact L _ _ (h w' y z)
def IG{P:Program}{T t:TypeId}{k bytes:Nat}{z:J}{zs:List J}{w:Z}{n:Nat}{ops:Array Oper}{rest:List Oper}{o:Oper}{a:Oc}{Q:Exit->Oc->Z->Prop}(p:(P.info? T).map (fun i=>(i.zero,i.size,i.bytes))=Y (Y z,k,bytes))(ai:z.cells=zs.toArray)(d:zs.length=k)(aa:bytes<=1000)(ht:P.underlying t=Y (.slice T))(ab:o.guard=I)(l c:Operand)(ho:o.op = .makeSlice t l c)(L:Int)(ae:a.eval l=C M L)(f:a.eval c=C M L)(hL:L=(n:Int))(hn:n<=100000000000)(h:∀cs,Fa T k (w.alloc (Ob cs T)) w.heap.size (O (Y ⟨w.heap.size,0,I⟩) n n) (List.replicate n zs)->wpList P ops Q rest (a.put o.dst (O (Y ⟨w.heap.size,0,I⟩) n n)) (w.alloc (Ob cs T))):wpList P ops Q (o::rest) a w:=by
 obtain⟨i,hi,ag,y,ah⟩:=info_parts p;have aj:bytes*n<=281474976710656:=by
  calc bytes*n<=1000*100000000000:=Nat.mul_le_mul aa hn
   _<=281474976710656:=dM
 have u:=run_make (P:=P) w t T i z ht hi ag M M n n oM oM (by rw[ah];omega) oM;simp only[Int.toNat_natCast]at u;refine wpList_plain ab fun K R=>?_;unfold Oper.wp;subst hL;simp[execOp,ho,ae,f,u,Result.andThen];refine R _ _ (h _ ?_);have x:(List.replicate n zs).flatten.length=n*k:=by rw[sm (k:=k) (fun c f=>by rw[List.eq_of_mem_replicate f];exact d),List.length_replicate]
 refine⟨fun c f=>by rw[List.eq_of_mem_replicate f];exact d,by rw[x,List.length_replicate],.inr ⟨w.heap.size,n,_,by simp,nE _,aN w _,by simp,by unfold maxLen;omega,by rw[y];simp[madeCells],?_⟩⟩;rw[y,List.length_replicate,ai,lT (by rw[Array.length_toList,size_madeCells];exact nE _)];apply List.ext_getElem?;intro j;by_cases hj:j<n*k
 ·have ad:0<k:=by
   rcases Nat.eq_zero_or_pos k with e|e
   ·subst e;simp at hj
   ·exact e
  obtain⟨q,r,u,hq⟩:∃q r,r<k/\j=q*k+r:=⟨j/k,j%k,Nat.mod_lt _ ad,by rw[Nat.mul_comm];exact(Nat.div_add_mod j k).symm⟩;have af:q<n:=by
   rcases Nat.lt_or_ge q n with e|e
   ·exact e
   ·exfalso;have:n*k<=q*k:=Nat.mul_le_mul_right _ e;omega
  have e2:(List.replicate n zs).flatten[q*k+r]?=zs[r]?:=Ws (k:=k) (fun c f=>by rw[List.eq_of_mem_replicate f];exact d) (by rw[List.getElem?_replicate,if_pos af]) u;have ac:j%k=r:=by rw[hq,Nat.add_comm,Nat.add_mul_mod_self_right,Nat.mod_eq_of_lt u]
  rw[show (List.replicate n zs).flatten[j]?=zs[r]? by rw[hq];exact e2];simp only[madeCells,Array.toList_map,Array.toList_range,lP,List.getElem?_range hj,Option.map_some,List.size_toArray,d,ac];rw[gE oM];simp[d,u]
 ·rw[List.getElem?_eq_none (by rw[Array.length_toList,size_madeCells];omega),List.getElem?_eq_none (by rw[x];omega)]
def Vo{P:Program}{T t:TypeId}{k bytes:Nat}{z:J}{w:Z}{base:Nat}{v:J}{cs:List (List J)}{ops:Array Oper}{o:Oper}{a:Oc}{K:Oc->Z->Prop}{Q:Exit->Oc->Z->Prop}{E:Prop}(e:(P.info? T).map (fun i=>(i.zero,i.size,i.bytes))=Y (Y z,k,bytes))(R:z.cells.size=k)(hk:0<k)(y:bytes<=1000)(ht:P.underlying t=Y (.slice T))(L:o.guard=I)(s x:Operand)(ho:o.op = .call { callee:=.builtin .append,args:=#[s,x],argTypes:=#[t,t] })(hs:a.eval s=v)(p:Fa T k w base v cs){ad:Od}{m c:Nat}(hx:a.eval x=O (Y ad) m c)
  (ds:List (List J))(hm:ds.length=m)(hd:∀c∈ds,c.length=k)(f:∀(j:Nat) u,ds.flatten[j]?=Y u->w.cell? (ad.add j)=Y u)(h1:∀u∈ds.flatten,u.oneCell'=true)(l:cs.length+m<=100000000000)(d:base<=w.heap.size)
  (h:∀v' w',Fa T k w' base v' (cs++ds)->w.grownBy w' v.ownBlock->(v'.ownBlock=v.ownBlock\/v'.ownBlock=Y w.heap.size)->K (a.put o.dst v') w') :
  if Region.wanted o (yielded ops a.tmps)=true then Oper.wp P o a w K Q else E:=by
 have hw:Region.wanted o (yielded ops a.tmps)=true:=by simp[Region.wanted,L]
 rw[if_pos hw];obtain⟨v',w',r,h2,h3,h4⟩:=Wx (P:=P) o.type e R hk y ht p hm hd f h1 l d (c:=c);unfold Oper.wp;simp[execOp,ho,resolve,invoke,builtin,hs,hx,r,Result.andThen];exact h v' w' h2 h3 h4
def pc(p:Int×Int):List J:=[C M p.1,C M p.2]
def Zn:(Tryz.prog.info? 91).map (fun i=>(i.zero,i.size,i.bytes))=Y (Y (Oa #[C M 0,C M 0]),2,16):=kM
def Mr{ps:LP}:∀u∈(ps.map pc).flatten,u.oneCell'=true:=by intro u e;obtain⟨d,f,e⟩:=List.mem_flatten.1 e;obtain⟨p,_,rfl⟩:=List.mem_map.1 f;simp[pc]at e;rcases e with rfl|rfl<;>rfl
def Nr{ps:LP}:∀c∈ps.map pc,c.length=2:=by intro c d;obtain⟨p,_,rfl⟩:=List.mem_map.1 d;rfl
def Zw(W:Z)(x z:Int)(T:TypeId):∀(j:Nat) u,[pc (x,z)].flatten[j]?=Y u->(W.alloc (Ob #[C M x,C M z] T)).cell? ((⟨W.heap.size,0,I⟩:Od).add j)=Y u:=by
 intro j u d
 match j,d with
 | 0,d=>simp[pc]at d;subst d;simp[Addr.add]
 | 1,d=>simp[pc]at d;subst d;simp[Addr.add]
 | j+2,d=>simp[pc]at d
def Fp(x z:Int):∀u∈[pc (x,z)].flatten,u.oneCell'=true:=Mr (ps:=[(x,z)])
def Gp{a b c:Z}{k:Nat}(h:Ba a b)(g:b.grownBy c (Y k))(e:a.heap.size<=k):Ba a c:=
 ⟨g.os.trans h.os,g.tape.trans h.tape,g.output.trans h.output,nT h.size g.size,fun i d=>(g.block i (Nat.lt_of_lt_of_le d h.size) (by simp;omega)).trans (h.block d)⟩
def Lk{a b c:Z}{row:Option Nat}(h:a.grownBy b row)(k:Below a.heap.size b c):a.grownBy c row:=
 ⟨k.os.trans h.os,k.tape.trans h.tape,k.output.trans h.output,nT h.size k.size,fun i e d=>(k.block i e).trans (h.block i e d)⟩
def io(a:Z)(row:Option Nat):a.grownBy a row:=⟨rfl,rfl,rfl,nE _,fun _ _ _=>rfl⟩
def Cm{a b:Z}{k:Nat}{T T':TypeId}{cs:Array J}{j:Nat×Nat}(g:a.grownBy b (Y k))(i:a.heap[k]?=Y (Ob cs T' j))(l:T'≠T):Ka T a b:=
 fun x c f d=>(g.block x (Ya d) (fun e=>by cases e;rw[d]at i;cases i;exact l rfl)).trans d
def Je(way:Int)(p q:Rat):Rat:=if jd q p=way then q else p
def ke(way:Int):List Rat->Rat
 | []=>0
 | x::xs=>xs.foldl (Je way) x
def ER(way:Int)(xs:List Rat)(x:Rat)(h:xs≠[]):ke way (xs++[x])=Je way (ke way xs) x:=by
 cases xs with
 | nil=>exact absurd rfl h
 | cons y d=>simp[ke]
def pE(way:Int)(p q:Rat):Je way p q=p\/Je way p q=q:=by unfold Je;split<;>simp
def XP(way:Int)(P:Rat->Prop)(xs:List Rat)(h:∀x∈xs,P x)(j:P 0):P (ke way xs):=by
 cases xs with
 | nil=>exact j
 | cons x xs =>
  have:∀(d:List Rat)(a:Rat),P a->(∀y∈d,P y)->P (d.foldl (Je way) a):=by
   intro d;induction d with
   | nil=>intro a i _;exact i
   | cons y d p =>
    intro a i f;refine p _ ?_ (fun z l=>f z (mC _ l));rcases pE way a y with e|e<;>rw[e]
    ·exact i
    ·exact f y sM
  exact this xs x (h x sM) (fun y f=>h y (mC _ f))
def Rb.zero{k:Nat}(d:1<=k):Rb k 0:=⟨by have:=Tj zj k;unfold Lm;simp;omega,Qq d⟩
def QS(w:Z)(va vb:J)(p q:Rat)(way:Int)(j:Nat)(L:Cb w va p)(R:Cb w vb q)(aa:Rb Wb p)(ab:Rb Wb q)(hw:w.cell? ⟨j,0,I⟩=Y (C M way)):Calls Tryz.prog 289 #[va,vb,.pointer (Y ⟨j,0,I⟩)] w (Uf w (Je way p q)):=by
 obtain⟨a,m,c,s,a2,m2,c2,rfl⟩:=L.form;obtain⟨t,x,u,y,d,i,f,rfl⟩:=R.form;have z:=Aa aa;have K:=Aa ab;clear aa ab;have zw:j<w.heap.size:=World.block_lt_of_cell? w _ hw;have ai:j<w.heap.size+1:=oM;have aj:j<w.heap.size+1+1:=oM;by_cases l:jd q p=way
 ·have af:(jd q p==way)=true:=by simpa using l
  have hR:Cb w (Oa #[O t x u,X y,O d i f]) (Je way p q):=by unfold Je;first|(rw[if_pos l];exact R)|(rw[if_neg l];exact L)
  clear l;go_in;go_wp2;go_region_held3 (fun W=>W.cell? ⟨w.heap.size,0,I⟩=Y (O a m c)/\W.cell? ⟨w.heap.size,1,I⟩=Y (X s)/\W.cell? ⟨w.heap.size,2,I⟩=Y (O a2 m2 c2)/\W.cell? ⟨w.heap.size+1,0,I⟩=Y (O t x u)/\W.cell? ⟨w.heap.size+1,1,I⟩=Y (X y)/\W.cell? ⟨w.heap.size+1,2,I⟩=Y (O d i f)/\W.cell? ⟨j,0,I⟩=Y (C M way)) ((repeat' (with_reducible refine And.intro ?_ ?_))<;>(first|(go_simp;done)|(refine hx1.d ?_;go_simp;done))) (((go_at_call 214;(with_reducible refine(Am _ (Oa #[O t x u,X y,O d i f]) (Oa #[O a m c,X s,O a2 m2 c2]) q p ?_ ?_ K.o z.o).mono ?_);(refine R.ext ?_;exact eA);(refine L.ext ?_;exact eA);rintro e w1 ⟨rfl,hx1⟩;obtain⟨⟨r,ag⟩,ac,ad,ae⟩:=Sb w hx1;(have ah:=hx1.lt (n:=j) (by simp only[wZ,Yb];omega)))))
  all_goals go_wp2
  exact bR (v:=Oa #[O t x u,X y,O d i f]) (by simp[results,Tryz.results289,go_sem,r]) rfl ⟨_,rfl,Cb.keep (w:=w1) (hR.ext eA) kA,eA⟩
 ·have af:(jd q p==way)=false:=by simpa using l
  have hR:Cb w (Oa #[O a m c,X s,O a2 m2 c2]) (Je way p q):=by unfold Je;first|(rw[if_pos l];exact R)|(rw[if_neg l];exact L)
  clear l;go_in;go_wp2;go_region_held3 (fun W=>W.cell? ⟨w.heap.size,0,I⟩=Y (O a m c)/\W.cell? ⟨w.heap.size,1,I⟩=Y (X s)/\W.cell? ⟨w.heap.size,2,I⟩=Y (O a2 m2 c2)/\W.cell? ⟨w.heap.size+1,0,I⟩=Y (O t x u)/\W.cell? ⟨w.heap.size+1,1,I⟩=Y (X y)/\W.cell? ⟨w.heap.size+1,2,I⟩=Y (O d i f)/\W.cell? ⟨j,0,I⟩=Y (C M way)) ((repeat' (with_reducible refine And.intro ?_ ?_))<;>(first|(go_simp;done)|(refine hx1.d ?_;go_simp;done))) (((go_at_call 214;(with_reducible refine(Am _ (Oa #[O t x u,X y,O d i f]) (Oa #[O a m c,X s,O a2 m2 c2]) q p ?_ ?_ K.o z.o).mono ?_);(refine R.ext ?_;exact eA);(refine L.ext ?_;exact eA);rintro e w1 ⟨rfl,hx1⟩;obtain⟨⟨r,ag⟩,ac,ad,ae⟩:=Sb w hx1;(have ah:=hx1.lt (n:=j) (by simp only[wZ,Yb];omega)))))
  all_goals go_wp2
  exact bR (v:=Oa #[O a m c,X s,O a2 m2 c2]) (by simp[results,Tryz.results289,go_sem,r]) rfl ⟨_,rfl,Cb.keep (w:=w1) (hR.ext eA) kA,eA⟩
def nV(w:Z)(way:Int)(d:List Rat)(g:Nat)(e:J)(W:Z):Prop:=
 ∃i:Nat,i<=d.length/\e=C M i/\g=d.length-i/\Ba w W/\RB W w.heap.size 0/\RB W (w.heap.size+1) (ke way (d.take i))
def qO(w:Z)(v:J)(d:List Rat)(way:Int)(bw:Nat)(hs:Yh w v d)(hb:∀q∈d,Rb Wb q)(hw:w.cell? ⟨bw,0,I⟩=Y (C M way)):Calls Tryz.prog 288 #[v,.func (.func 289) #[] #[.pointer (Y ⟨bw,0,I⟩)]] w (Uf w (ke way d)):=by
 obtain⟨a,c,rfl⟩:=hs.form;obtain⟨n,hn⟩:=gX d.length;rw[hn]at hs ⊢;have z:=hs.le;unfold maxLen at z;have f:=Aa hn;have Hb:=Aa hb;have zw:bw<w.heap.size:=World.block_lt_of_cell? w _ hw;have ao:n<=9223372036854775807:=oM;clear hn hb z;go_in;go_wp2;go_loopg [10] n (nV w way d)
 case atStart =>
  refine⟨0,by omega,rfl,by rw[f.o];rfl,eA,RB.ext (W:=w.alloc (Ob #[O I 0 0,X false,O I 0 0] 181)) (RB.new (Cb.zero _) rfl) eA,RB.new (Cb.zero _) sM⟩
 case round =>
  obtain⟨i,hi,rfl,rfl,hx,hR,hO⟩:=hrel;rw[f.o]at hi;have Hx:=Aa hx;obtain⟨a0,m0,c0,s0,aj,aq,ak,r0,r1,r2,aw,ax,ay,zr,ap⟩:=hR.rd;obtain⟨a1,m1,c1,s1,t,ab,u,o0,o1,o2,ar,au,av,zo,r⟩:=hO.rd;by_cases ag:i<n
  ·obtain⟨x,p⟩:∃x,d[i]?=Y x:=⟨d[i]'(by rw[f.o];omega),by simp[f.o,ag]⟩;obtain⟨b,o,a3,m3,c3,s3,a4,m4,c4,rfl,al,aa,e0,e1,e2⟩:=(hs.f hx).at' p;have l:=Aa p;clear p;by_cases h0:i=0
   ·(have ae:((i:Int)==0)=true:=by simp;omega);have H0:=Aa h0;clear h0;go_wp2;go_roundg (n-(i+1))
    case measure=>have:=f.o;omega
    case rel =>
     have j:=hO.not;have e:ke way (d.take (i+1))=x:=by
      have:=H0.o;subst this;rw[Ce _ _ _ l.o];simp[ke]
     exact⟨i+1,by have:=f.o;omega,by go_num,by rw[f.o],eA,
      (((hR.other dO j _).other dO (j.set _ _) _).other dO ((j.set _ _).set _ _) _).ext ((eR _).alloc _),
      by rw[e];exact(hO.put aa).ext ((eR _).alloc _)⟩
   ·(have ae:((i:Int)==0)=false:=by simp;omega);have H0:=Aa h0;have ac:Va (Rb Wb (ke way (d.take i))):=Aa (XP way _ _ (fun q hq=>Hb.o q (List.mem_of_mem_take hq)) (Rb.zero dM));have ad:Va (Rb Wb x):=Aa (Hb.o x (lM l.o));clear h0;go_wp2_with(((go_at_call 289;(with_reducible refine(QS _ (Oa #[O a1 m1 c1,X s1,O t ab u]) (Oa #[O a3 m3 c3,X s3,O a4 m4 c4]) (ke way (d.take i)) x way bw ?_ ?_ ac.o ad.o ?_).mono ?_);(refine r.ext ?_;exact eA);(refine aa.ext ?_;exact eA);(refine Ba.d (a:=w) ?_ hw;exact eA);rintro e w1 ⟨r1,rfl,K,L⟩;obtain⟨b1,n1,k1,t1,b2,n2,k2,rfl⟩:=K.form;obtain⟨⟨am,an⟩,ah,ai⟩:=Mb w L)));go_roundg (n-(i+1))
    case measure=>have:=f.o;omega
    case rel =>
     have R:Ba wr w1:=((eR wr).alloc _).trans L;have y:=hO.ext R;have af:=hR.ext R;have j:=y.not;have e:ke way (d.take (i+1))=Je way (ke way (d.take i)) x:=by
      rw[Ce _ _ _ l.o,ER];intro h;(have h2:(d.take i).length=0:=by rw[h];rfl);rw[List.length_take,f.o]at h2;have:=H0.o;omega
     exact⟨i+1,by have:=f.o;omega,by go_num,by rw[f.o],eA,
      (((af.other dO j _).other dO (j.set _ _) _).other dO ((j.set _ _).set _ _) _),
      by rw[e];exact y.put K⟩
  ·obtain rfl:i=n:=oM;have e:ke way (d.take i)=ke way d:=by rw[lT (by rw[f.o];omega)]
   rw[e]at r;clear e;have j:=hR.not;go_wp2;exact bR (v:=Oa #[O a1 m1 c1,X s1,O t ab u]) (by simp[results,Tryz.results288,go_sem,r0,r1,r2]) rfl ⟨_,rfl,r.keep kA,eA⟩
def FF(w:Z)(v:J)(f:List Rat)(way:Int)(j:Yh w v f)(r:∀q∈f,Rb Wb q):Calls Tryz.prog 259 #[v,C M way] w (Uf w (ke way f)):=by obtain⟨a,c,rfl⟩:=j.form;have R:∀(p:Fn)(first cap:Array J)(w:Z),(Instr.makeFunc p first cap).run Tryz.prog w = .ok (.func p first cap) w:=fun _ _ _ _=>rfl;have y:=Aa r;obtain⟨n,t⟩:=gX f.length;rw[t]at j ⊢;clear r t;go_in;go_wp2_with(((go_at_call 288;(with_reducible refine(qO _ (O a n c) f way w.heap.size ?_ y.o ?_).mono ?_);(refine j.f ?_;exact eA);(focus(go_simp;done));rintro e w1 ⟨r1,rfl,d,l⟩;obtain⟨z,n1,k1,t1,K,n2,k2,rfl⟩:=d.form;obtain⟨⟨i,L⟩,u,x⟩:=Mb w l)));exact bR (v:=Oa #[O z n1 k1,X t1,O K n2 k2]) (by simp[results,Tryz.results259,go_sem,i]) rfl ⟨_,rfl,d.keep kA,eA⟩
def lr(w:Z)(v:J)(f:List Rat)(j:Yh w v f)(p:∀q∈f,Rb Wb q):Calls Tryz.prog 219 #[v] w (Uf w (ke (-1) f)):=by obtain⟨a,c,rfl⟩:=j.form;have u:=Aa p;obtain⟨n,r⟩:=gX f.length;rw[r]at j ⊢;clear p r;go_in;go_wp2_with(((go_at_call 259;(with_reducible refine(FF _ (O a n c) f (-1) ?_ u.o).mono ?_);(refine j.f ?_;exact eA);rintro e w1 ⟨r1,rfl,d,l⟩;obtain⟨x,R,K,t1,y,n2,L,rfl⟩:=d.form;obtain⟨⟨i,z⟩,t⟩:=Id w l)));exact bR (v:=Oa #[O x R K,X t1,O y n2 L]) (by simp[results,Tryz.results219,go_sem,i]) rfl ⟨_,rfl,d.keep kA,eA⟩
def nr(w:Z)(v:J)(f:List Rat)(j:Yh w v f)(p:∀q∈f,Rb Wb q):Calls Tryz.prog 220 #[v] w (Uf w (ke (1) f)):=by obtain⟨a,c,rfl⟩:=j.form;have u:=Aa p;obtain⟨n,r⟩:=gX f.length;rw[r]at j ⊢;clear p r;go_in;go_wp2_with(((go_at_call 259;(with_reducible refine(FF _ (O a n c) f (1) ?_ u.o).mono ?_);(refine j.f ?_;exact eA);rintro e w1 ⟨r1,rfl,d,l⟩;obtain⟨x,R,K,t1,y,n2,L,rfl⟩:=d.form;obtain⟨⟨i,z⟩,t⟩:=Id w l)));exact bR (v:=Oa #[O x R K,X t1,O y n2 L]) (by simp[results,Tryz.results220,go_sem,i]) rfl ⟨_,rfl,d.keep kA,eA⟩
end
section
open Go.RowKit Go.Shelf Go.Sort
def AF{α:Type}[Inhabited α](enc:α->List J){k:Nat}(hk:∀x,(enc x).length=k)(d:Array α):(flatK enc k d).toList=(d.toList.map enc).flatten:=by
 have f:∀c∈d.toList.map enc,c.length=k:=fun c y=>by obtain⟨x,_,rfl⟩:=List.mem_map.1 y;exact hk x
 apply List.ext_getElem?;intro t;by_cases l:t<d.size*k
 ·have i:0<k:=by
   rcases Nat.eq_zero_or_pos k with h|h
   ·subst h;simp at l
   ·exact h
  have u:t/k<d.size:=by rw[Nat.div_lt_iff_lt_mul i];exact l
  have p:t%k<k:=Nat.mod_lt _ i;have e:(d.toList.map enc)[t/k]?=Y (enc d[t/k]!):=by
   rw[lP,Array.getElem?_toList,Array.getElem?_eq_getElem u,Option.map_some,getElem!_pos d _ u]
  have r:=Ws (j:=t%k) f e p;rw[show t/k*k+t%k=t by rw[Nat.mul_comm];exact Nat.div_add_mod t k]at r;rw[r,Array.getElem?_toList,Array.getElem?_eq_getElem (by simpa using l)];rw[<-getElem!_pos (flatK enc k d) t (by simpa using l),get_flatK enc k d t l,gE (by rw[hk];exact p),getElem!_pos _ _ (by rw[hk];exact p)]
 ·rw[List.getElem?_eq_none (by simp;omega),List.getElem?_eq_none (by rw[sm f];simp;omega)]
def oK{α:Type}[Inhabited α]{enc:α->List J}{k:Nat}{w:Z}{g m:Nat}{os:Array Obj}{cur:Array J}{e:TypeId}{fr:Nat×Nat}(d:Array α)(hb:w.heap[g]?=Y (Ob cur e fr)):(sortWorldK enc k w g 0 m d os).heap[g]?=Y (Ob (putCells id 0 (flatK enc k d) cur) e fr):=by have f:g<w.heap.size:=(Array.getElem?_eq_some_iff.1 hb).1;unfold sortWorldK putRowK;rw[heap_grow_old _ _ (by simpa using f)];simp[putRow,mapBlock,Sort.ahead,Array.getElem?_modify,hb,onCells]
def WC{α:Type}[Inhabited α]{enc:α->List J}{k:Nat}{w:Z}{g m:Nat}{os:Array Obj}(d:Array α):w.grownBy (sortWorldK enc k w g 0 m d os) (Y g):=by unfold sortWorldK putRowK;refine⟨rfl,rfl,rfl,by simp,fun j i f=>?_⟩;rw[heap_grow_old _ _ (by simpa using i)];have:g≠j:=fun e=>f (by rw[e]);simp[putRow,mapBlock,Sort.ahead,Array.getElem?_modify,this]
def qQ(cur F:Array J)(h:F.size<=cur.size):(putCells id 0 F cur).toList.take F.size=F.toList:=by
 apply List.ext_getElem?;intro j;by_cases d:j<F.size
 ·rw[List.getElem?_take_of_lt d,Array.getElem?_toList];simp[putCells,d,show j<cur.size by omega]
 ·rw[List.getElem?_take_eq_none oM,List.getElem?_eq_none (by simp;omega)]
def OF{α:Type}[Inhabited α]{enc:α->List J}{T:TypeId}{k:Nat}{w:Z}{base g n cap m:Nat}{os:Array Obj}(hk:∀x,(enc x).length=k){d d':Array α}(h:Fa T k w base (O (Y ⟨g,0,I⟩) n cap) (d.toList.map enc))(hs:d'.size=d.size):Fa T k (sortWorldK enc k w g 0 m d' os) base (O (Y ⟨g,0,I⟩) n cap) (d'.toList.map enc):=by
 have i:∀c∈d'.toList.map enc,c.length=k:=fun c u=>by obtain⟨x,_,rfl⟩:=List.mem_map.1 u;exact hk x
 have K:=h.len;have e:(d'.toList.map enc).length=(d.toList.map enc).length:=by simp[hs]
 subst K;refine⟨i,sm i,?_⟩;rcases h.2.2 with ⟨t,_⟩|⟨R,p,cur,hv,y,z,j,l,f,L⟩
 ·cases t
 ·cases hv;have r:(flatK enc k d').size=(d'.toList.map enc).length*k:=sM;refine .inr ⟨g,cap,_,by rw[e],y,oK d' z,by rw[e];exact j,l,by simp[putCells,f],?_⟩;rw[<-AF enc hk d',<-r,qQ _ _ (by rw[r,e,f];exact Nat.mul_le_mul_right _ j)]
def VF{α:Type}[Inhabited α]{enc:α->List J}{T:TypeId}{k:Nat}{w:Z}{base g n cap:Nat}(hk:∀x,(enc x).length=k){d:Array α}(h:Fa T k w base (O (Y ⟨g,0,I⟩) n cap) (d.toList.map enc)):HoldsK enc k w g 0 d:=by intro t e;rw[size_flatK]at e;have i:=h.len;have f:(d.toList.map enc).length=d.size:=sM;subst i;refine⟨?_,by rw[Nat.zero_add];exact h.frozen t⟩;rw[Nat.zero_add,World.ownsRow.cellAt h.2 t (by rw[f];exact e),<-AF enc hk d,Array.getElem?_toList,Array.getElem?_eq_getElem (by rw[size_flatK];exact e),getElem!_pos _ _ (by rw[size_flatK];exact e)];rfl
end
section
open Go.RowKit Go.Shelf
def Vl(_:Nat)(p:Prop):Prop:=p
def sN(k:Nat){p:Prop}(h:Vl k p):p:=h
def oN{k:Nat}{p:Prop}(h:p):Vl k p:=h
def NQ(Q:Exit->Oc->Z->Prop):Exit->Oc->Z->Prop
 | .normal,a,w=>Q .normal a w
 | _,_,_=>False
def Ww{Q:Exit->Oc->Z->Prop}:¬LetsOut (NQ Q):=fun⟨_,_,h⟩=>h
def ri(ops:Array Oper):Bool:=ops.all fun o=>match o.op with | .defer _=>false|_=>true
def LQ{ops:Array Oper}(h:ri ops=true){i:Nat}{o:Oper}(f:ops[i]?=Y o):∀c,o.op ≠ .defer c:=by intro c d;unfold ri at h;rw[Array.all_eq_true]at h;obtain⟨e,rfl⟩:=Array.getElem?_eq_some_iff.1 f;have:=h i e;rw[d]at this;cases this
def RO{l n:Nat}{P:Program}{row:String}{args:Array J}{w:Z}{R:J->Z->Prop}(h:Rows P row args w R):RowsIn (Fence.wide.inRound l) n P row args w R:=by intro c cs _;obtain⟨v,w',r,s⟩:=h c cs;exact⟨v,w',r,stepsIn_wide.2 s⟩
def KQ{l n:Nat}{P:Program}{o:Oper}{a:Oc}{w:Z}{K:Oc->Z->Prop}{Q:Exit->Oc->Z->Prop}(p:∀c,o.op ≠ .defer c)(h:o.wp P a w K (NQ Q)):o.wpIn (Fence.wide.inRound l) n P a w K Q:=by
 refine⟨fun _ _=>trivial,?_⟩;rw[Oper.semAt_plain _ _ _ p];unfold Oper.wp at h;generalize (execOp a.eval o).run P w=r at *
 have i:(Fence.wide.inRound l).depth.isSome=true->1<=n:=fun h=>by cases h
 cases r with
 | ok x w' =>
  cases x with
  | value u=>exact h
  | skip=>exact h
  | defer d=>exact h
  | enter f args =>
   refine⟨i,CallsIn.inRound l (callsIn_wide.2 (cM h fun e t j=>?_))⟩;cases e with
   | returned u=>exact j
   | panicked c=>exact j.elim
   | outgrown=>exact(Ww j).elim
  | row row args=>exact⟨i,RO h⟩
  | _=>exact h.elim
 | halt x w' =>
  cases x<;>first|exact h.elim|skip
def Lv{l n:Nat}{P:Program}{md:Region.Mode}{ops:Array Oper}{Q:Exit->Oc->Z->Prop}(f:ri ops=true):∀(fuel:Nat)(d:Array Bool)(a:Oc)(w:Z),wpAny P md ops (NQ Q) fuel d a w->wpAnyIn (Fence.wide.inRound l) n P md ops Q fuel d a w
 | 0,_,_,_,h=>h
 | fuel+1,d,a,w,h=>by
  refine⟨h.1,fun i r=>?_⟩;have e:=h.2 i r;unfold wpOp at e;unfold wpOpIn;cases ho:ops[i]? with
  | none=>rw[ho]at e;exact Lv f fuel _ a w e
  | some o =>
   rw[ho]at e;dsimp only at e ⊢;split
   ·rename_i hw;rw[if_pos hw]at e;rcases e with e|⟨_,e⟩
    ·exact Oper.wpIn_mono (fun j w' p=>Lv f fuel _ j w' p) (KQ (LQ f ho) e)
    ·exact(Ww e).elim
   ·rename_i hw;rw[if_neg hw]at e;exact⟨fun _ _=>trivial,Lv f fuel _ _ w e⟩
def Tp{l n:Nat}{P:Program}{ops:Array Oper}{Q:Exit->Oc->Z->Prop}{S:Z->Prop}{i:Nat}{a:Oc}{w:Z}(f:P.follows .mixedOrders=true)(e:ri ops=true)(d:S w.drew)(h:S w.drew->wpAnyH P .any ops (NQ Q) S ops.size (Array.replicate ops.size false) a w.drew):(Code.region i ops true).wpIn (Fence.wide.inRound l) n P Q a w:=
 wpIn_region_any f (Lv e _ _ _ _ (wpAny_of_held _ _ _ _ (h d)))
end
section
open Go.ChangeShapes Go.WideShapes Go.Deep
section
variable {H:Type} {enc:TypeId×Value->H} {P:Program} {w:World} {spare:Nat->Bool} {held:Bool}
def LD{k:Nat}:∀{e:List (List Value)}{j:Nat}{x:Value},0<k->(∀c∈e,c.length=k)->e.flatten[j]?=some x->∃d,e[j/k]?=some d/\d[j%k]?=some x
 | [],j,x,_,_,h=>by simp at h
 | c::e,j,x,hk,hc,h=>by
  have r:c.length=k:=hc c sM;rw[List.flatten_cons]at h;by_cases i:j<k
  ·rw[List.getElem?_append_left oM]at h;rw[Nat.div_eq_of_lt i,Nat.mod_eq_of_lt i];exact⟨c,rfl,h⟩
  ·rw[List.getElem?_append_right oM,r]at h;obtain⟨d,l,p⟩:=LD (j:=j-k) hk (fun c f=>hc c (mC _ f)) h;rw[Nat.div_eq_sub_div hk oM,Nat.mod_eq_sub_mod oM];exact⟨d,by simpa using l,p⟩
def qF{t e:TypeId}{k fuel:Nat}{cs:List Value}{x:DataW H×List MemPlace}(ht:P.underlying t=some (.slice e))(hk:P.cellsOf e=k)(K:0<k)(h:DataW.trod enc P w 0 spare held fuel t cs=some x):∃(a:Option Addr)(n c:Nat)(T:TypeId)(u:List (List Value)),cs=[.slice a n c]/\u.length=n/\(∀d∈u,d.length=k)/\Rd w T k (.slice a n c) n u.flatten/\∀d∈u,∃m y,DataW.trod enc P w 0 spare held m e d=some y:=by
 rcases open_slice ht h with ⟨rfl,_⟩|⟨a,len,cap,m,f,D,Pl,rfl,_,hl,hm,ac,_,ab⟩
 ·exact⟨none,0,0,0,[],rfl,rfl,by simp,Rd.nil w 0 k,by simp⟩
 ·have ag:len<=m:=by rw[ac];split<;>omega
  rw[hk]at ab;obtain⟨F,hF⟩:=choose_lt (α:=List Value) (n:=len) (p:=fun i d=>w.cells? 0 (a.add (i*k)) k=some d/\DataW.trod enc P w 0 spare held f e d=some (D i,Pl i)) (fun i r=>ab i oM);have l:∀d∈(List.range len).map F,d.length=k:=by
   intro d hd;obtain⟨i,r,rfl⟩:=List.mem_map.1 hd;exact(World.cells?_some (hF i (List.mem_range.1 r)).1).2.1
  have aa:∀d∈(List.range len).map F,∃m y,DataW.trod enc P w 0 spare held m e d=some y:=by
   intro d hd;obtain⟨i,r,rfl⟩:=List.mem_map.1 hd;exact⟨f,_,(hF i (List.mem_range.1 r)).2⟩
  by_cases h0:len=0
  ·subst h0;exact⟨some a,0,cap,0,[],rfl,rfl,by simp,⟨by simp,some a,cap,rfl,hl,hm,.inl ⟨rfl,fun e=>by cases e⟩⟩,by simp⟩
  ·have L:=(World.cells?_some (hF 0 oM).1).2.2 0 K;have af:=l (F 0) (List.mem_map.2 ⟨0,List.mem_range.2 oM,rfl⟩);obtain⟨v0,ae⟩:∃v,(F 0)[0]?=some v:=⟨(F 0)[0]' oM,by simp⟩;rw[ae]at L;obtain⟨b,o,sp⟩:=a;have ad:sp=none:=by
    have:=World.cell?_spot L;simpa[Addr.add] using this
   subst ad;have e0:((⟨b,o,none⟩:Addr).add (0*k)).add 0=⟨b,o,none⟩:=by simp[Addr.add]
   rw[e0]at L;obtain⟨blk,T,R,z⟩:∃blk T R,w.heap[b]?=some (.cells blk T R):=by
    unfold World.cell? at L;split at L
    ·rename_i blk T R hb;exact⟨blk,T,R,hb⟩
    ·cases L
   refine⟨some ⟨b,o,none⟩,len,cap,T,(List.range len).map F,rfl,by simp,l,⟨?_,some ⟨b,o,none⟩,cap,rfl,hl,hm,.inr ⟨b,o,blk,R,rfl,z,fun j y hj=>?_⟩⟩,aa⟩
   ·rw[sm l];simp
   ·obtain⟨d,h1,h2⟩:=LD K l hj;obtain⟨r,rfl⟩:j/k<len/\F (j/k)=d:=by
     rw[lP]at h1;by_cases r:j/k<len
     ·rw[List.getElem?_range r]at h1;exact⟨r,Option.some.inj h1⟩
     ·rw[List.getElem?_eq_none (by simpa using r)]at h1;cases h1
    have c1:=(World.cells?_some (hF (j/k) r).1).2.2 (j%k) (Nat.mod_lt _ K);rw[h2]at c1;have e1:((⟨b,o,none⟩:Addr).add (j/k*k)).add (j%k)=⟨b,o+j,none⟩:=by
     rw[add_add];(have:j/k*k+j%k=j:=by rw[Nat.mul_comm];exact Nat.div_add_mod j k);rw[this];unfold Addr.add;split
     ·rename_i h;rw[h];rfl
     ·rfl
    rw[e1]at c1;simpa[World.cell?,z] using c1
end
end
section
open Go.RowKit Go.Shelf
def Cg(md:Region.Mode)(ops:Array Oper)(j:Nat):List Nat:=match ops[j]? with|some o=>(o.after.toList.filter (Region.binds md)).map (·.on)|none=>[]
def Nk(md:Region.Mode)(ops:Array Oper):Nat->Nat->List Nat
 | 0,j=>Cg md ops j
 | n+1,j=>Cg md ops j++(Cg md ops j).flatMap (Nk md ops n)
def lh(md:Region.Mode)(ops:Array Oper)(late:Nat->Bool)(n:Nat):Bool:=
 (List.range ops.size).all fun j=>!late j || ((List.range ops.size).all fun i=>late i || (Nk md ops n j).contains i)
def Cl(md:Region.Mode)(ops:Array Oper)(d:Array Bool):Prop:=∀k o,ops[k]?=Y o->d.getD k false=true->∀e∈o.after,Region.binds md e=true->d.getD e.on false=true
section
variable {n:Nat} {P:Program} {ops:Array Oper} {Q:Exit->Oc->Z->Prop} {md:Region.Mode} {S:Z->Prop} {late:Nat->Bool}
def Yy{d:Array Bool}{j:Nat}(h:∀o,ops[j]?=Y o->∀e∈o.after,Region.binds md e=true->d.getD e.on false=true):∀k∈Cg md ops j,d.getD k false=true:=by
 intro k f;unfold Cg at f;cases ho:ops[j]? with
 | none=>rw[ho]at f;cases f
 | some o =>
  rw[ho]at f;obtain⟨e,p,rfl⟩:=List.mem_map.1 f;obtain⟨i,l⟩:=List.mem_filter.1 p;exact h o ho e (by simpa using i) l
def Qv{d:Array Bool}(l:Cl md ops d):∀(n j:Nat),(∀o,ops[j]?=Y o->∀e∈o.after,Region.binds md e=true->d.getD e.on false=true)->∀k∈Nk md ops n j,d.getD k false=true
 | 0,j,h=>Yy h
 | n+1,j,h=>by
  intro k f;rcases List.mem_append.1 f with f|f
  ·exact Yy h k f
  ·obtain⟨i,r,f⟩:=List.mem_flatMap.1 f;have p:=Yy h i r;exact Qv l n i (fun o t=>l i o t p) k f
def rF{d:Array Bool}{m i j:Nat}(x:lh md ops late m=true)(L:Cl md ops d)(hi:i∈Region.ready md ops d)(hl:late i=false)(R:j∈Region.ready md ops d):late j=false:=by
 cases hlj:late j with
 | false=>rfl
 |true=>
  exfalso;obtain⟨z,oj,l,f⟩:=mem_ready.1 R;obtain⟨e,oi,y,_⟩:=mem_ready.1 hi;unfold lh at x;rw[List.all_eq_true]at x;have r:=x j (List.mem_range.2 (Array.getElem?_eq_some_iff.1 l).1);rw[hlj]at r;simp only[Bool.not_true,Bool.false_or,List.all_eq_true]at r;have t:=r i (List.mem_range.2 (Array.getElem?_eq_some_iff.1 y).1);rw[hl]at t;simp only[Bool.false_or,List.contains_eq_mem,decide_eq_true_eq]at t;have u:=Qv L m j (fun o K=>by rw[l]at K;cases K;exact f) i t;rcases Nat.lt_or_ge i d.size with p | p
  ·simp[p]at u e;rw[u]at e;cases e
  ·simp[Array.getElem?_eq_none p]at u
def Cl.step{d:Array Bool}(z:Cl md ops d){j:Nat}(K:j∈Region.ready md ops d):Cl md ops (d.setIfInBounds j true):=by
 intro k o y x e u t;have key:d.getD e.on false=true->(d.setIfInBounds j true).getD e.on false=true:=by
  intro h;by_cases r:e.on=j
  ·subst r;rcases Nat.lt_or_ge e.on d.size with p | p
   ·simp[p]
   ·simp[Array.getElem?_eq_none p]at h
  ·rw[getD_set_ne false (Ne.symm r)];exact h
 by_cases i:k=j
 ·subst i;obtain⟨_,L,l,f⟩:=mem_ready.1 K;rw[y]at l;cases l;exact key (f e u t)
 ·rw[getD_set_ne false (Ne.symm i)]at x;exact key (z k o y x e u t)
def Cl.start(m:Nat):Cl md ops (Array.replicate m false):=by intro k o _ d;simp[Array.getD_eq_getD_getElem?,Array.getElem?_replicate]at d;split at d<;>simp at d
def zG{i:Nat}{o:Oper}{v:J}{a:Oc}(hi:ops[i]?=Y o)(j:YieldsIf P ops S o v a){K:Oc->Z->Prop}{w:Z}(f:S w)(h:K (a.put o.dst v) w):wpOpIn Fence.wide n P ops Q i K a w:=by
 unfold Go.wpOpIn;simp only[hi];have d:Fence.wide.round=I:=rfl;rcases j with ⟨e,hv⟩|⟨e,rfl⟩
 ·simp only[e,if_true,Oper.wpIn,d,Oper.semAt_none,hv w f,Oper.uponIn];exact⟨fun _ _=>trivial,h⟩
 ·simp only[e,Bool.false_eq_true,if_false];exact⟨fun _ _=>trivial,h⟩
def WS{j:Nat}{oi t:Oper}{v:J}(hj:ops[j]?=Y t)(aa:oi.apart ops t=true)(ab:∀cs b,oi.op ≠ .select cs b)(ac:∀cs b,t.op ≠ .select cs b)(hQ:∀c a w,Q (.panic c) (a.put oi.dst v) w->Q (.panic c) a w){K:Oc->Z->Prop}{a:Oc}{w:Z}(p:YieldsIf P ops S oi v a)(h:wpOpIn Fence.wide n P ops Q j K (a.put oi.dst v) w):wpOpIn Fence.wide n P ops Q j (fun a' w'=>YieldsIf P ops S oi v a'/\K (a'.put oi.dst v) w') a w:=by
 obtain⟨h1,y,h3⟩:=Oper.apart_spec aa;have L:Fence.wide.round=I:=rfl;have keep:∀(a:Oc),YieldsIf P ops S oi v a->∀u,YieldsIf P ops S oi v (a.put t.dst u):=fun a p u =>
  p.of_same (execOp_put oi ab a t.dst u h3) (wanted_put oi a t.dst u h3)
 have z:∀d,YieldsIf P ops S oi v { a with defers:=d::a.defers }:=fun d=>p.of_same rfl rfl;unfold wpOpIn at *;simp only[hj]at *;rw[wanted_put t a oi.dst v h1]at h;split
 ·rename_i hw;simp only[hw,if_true]at h;unfold Oper.wpIn at *;refine⟨fun _ _=>trivial,?_⟩;have h:=h.2;rw[L,Oper.semAt_none,execOp_put t ac a oi.dst v h1]at h;rw[L,Oper.semAt_none];generalize (execOp a.eval t).run P w=r at *
  cases r with
  | ok x w' =>
   cases x<;>simp only[Oper.uponIn]at h ⊢
   case value u=>exact⟨keep a p u,by rw[<-Act.put_comm a v u y];exact h⟩
   case skip=>exact⟨keep a p _,by rw[<-Act.put_comm a v undef y];exact h⟩
   case defer d =>
    refine⟨keep _ (z d) _,?_⟩;rw[<-Act.put_comm _ v undef y,<-Act.put_defers];exact h
   case enter f args =>
    refine⟨h.1,CallsIn.mono h.2 fun e R i=>?_⟩;cases e with
    | returned u=>exact⟨keep a p u,by rw[<-Act.put_comm a v u y];exact i⟩
    | panicked c=>exact hQ _ _ _ i
    | outgrown=>exact i
   case row row args=>exact⟨h.1,RowsIn.mono h.2 fun u R i=>⟨keep a p u,by rw[<-Act.put_comm a v u y];exact i⟩⟩
   case round l f tmps assign body =>
    refine⟨h.1,RoundIn.mono h.2 fun e R i=>?_⟩;cases e with
    | returned u=>exact⟨keep a p u,by rw[<-Act.put_comm a v u y];exact i⟩
    | panicked c=>exact hQ _ _ _ i
    | outgrown=>exact i
  | halt x w' =>
   cases x<;>simp only[Oper.uponIn]at h ⊢
   case panic u=>exact hQ _ _ _ h
 ·rename_i hw;simp only[hw]at h;exact⟨fun _ _=>trivial,keep a p _,by rw[<-Act.put_comm a v undef y];exact h.2⟩
def HI(n:Nat)(P:Program)(md:Region.Mode)(ops:Array Oper)(Q:Exit->Oc->Z->Prop)(S:Z->Prop)(late:Nat->Bool):Nat->Array Bool->Oc->Z->Prop
 | 0,d,a,w=>Region.ready md ops d=[]/\Q .normal a w
 | fuel+1,d,a,w =>
  (Region.ready md ops d=[]->Q .normal a w)/\
  ∀i∈Region.ready md ops d,wpOpIn Fence.wide n P ops Q i (fun e w'=>(late i=false->S w')/\HI n P md ops Q S late fuel (d.setIfInBounds i true) e w') a w
def jG:∀(fuel:Nat)(d:Array Bool)(a:Oc)(w:Z),HI n P md ops Q S late fuel d a w->wpAnyIn Fence.wide n P md ops Q fuel d a w
 | 0,_,_,_,h=>h
 | fuel+1,_,_,_,h=>⟨h.1,fun i j=>wpOpIn_mono (fun e w' f=>jG fuel _ e w' f.2) (h.2 i j)⟩
def jN{m i:Nat}{oi:Oper}{v:J}(hg:lh md ops late m=true)(ae:late i=false)(hi:ops[i]?=Y oi)(u:∀(j:Nat)(o:Oper) cs b,ops[j]?=Y o->o.op ≠ .select cs b)(hQ:∀c a w,Q (.panic c) (a.put oi.dst v) w->Q (.panic c) a w):∀(fuel:Nat)(d:Array Bool)(a:Oc)(w:Z),Cl md ops d ->(∀j oj,ops[j]?=Y oj->j≠i->d.getD j true=false->(∀e∈oj.after,Region.binds md e=true->e.on≠i)->oi.apart ops oj=true) ->i∈Region.ready md ops d->YieldsIf P ops S oi v a->S w ->HI n P md ops Q S late fuel (d.setIfInBounds i true) (a.put oi.dst v) w->HI n P md ops Q S late (fuel+1) d a w:=by
 intro fuel;induction fuel with
 |zero=>
  intro d a w hc _ t hy K H;refine⟨fun h=>(by rw[h]at t;cases t),fun j z=>?_⟩;by_cases f:j=i
  ·subst f;exact zG hi hy K ⟨fun _=>K,H⟩
  ·have:=ready_mono z f;rw[H.1]at this;cases this
 | succ fuel ih =>
  intro d a w hc l t hy K H;refine⟨fun h=>(by rw[h]at t;cases t),fun j z=>?_⟩;by_cases f:j=i
  ·subst f;exact zG hi hy K ⟨fun _=>K,H⟩
  ·have x:=H.2 j (ready_mono z f);have af:=rF hg hc t ae z;obtain⟨r,oj,y,L⟩:=mem_ready.1 z;have aa:∀e∈oj.after,Region.binds md e=true->e.on≠i:=fun e he hb ac=>by
    have x:=L e he hb;have h0:=(mem_ready.1 t).1;rw[ac]at x;rcases Nat.lt_or_ge i d.size with h' | h'
    ·simp[h']at h0 x;rw[h0]at x;cases x
    ·simp[Array.getElem?_eq_none h']at x
   have h2:=WS y (l j oj y f r aa) (fun cs b=>u i oi cs b hi) (fun cs b=>u j oj cs b y) hQ hy x;have p:∀k ok,ops[k]?=Y ok->k≠i->(d.setIfInBounds j true).getD k true=false ->
     (∀e∈ok.after,Region.binds md e=true->e.on≠i)->oi.apart ops ok=true:=fun k ok hk ad ab ag=>by
    refine l k ok hk ad ?_ ag;by_cases R:j=k
    ·subst R;exact r
    ·rw[getD_set_ne true R]at ab;exact ab
   refine wpOpIn_mono (fun a' w' h3=>⟨h3.2.1,ih (d.setIfInBounds j true) a' w' (hc.step z) p (ready_mono t (Ne.symm f)) h3.1 (h3.2.1 af) ?_⟩) h2;rw[Array.setIfInBounds_comm _ _ f];exact h3.2.2
def Ml(n:Nat)(P:Program)(md:Region.Mode)(ops:Array Oper)(Q:Exit->Oc->Z->Prop)(S:Z->Prop)(late:Nat->Bool)(fuel:Nat)(d:Array Bool)(a:Oc)(w:Z):Prop:=Cl md ops d->HI n P md ops Q S late fuel d a w
def Cq(n:Nat)(P:Program)(md:Region.Mode)(ops:Array Oper)(Q:Exit->Oc->Z->Prop)(S:Z->Prop)(late:Nat->Bool)(fuel:Nat)(d:Array Bool)(a:Oc)(w:Z)(i:Nat)(oi:Oper):Prop:=
 ∃v,late i=false/\Region.noSelect ops=true/\Region.free md ops d i=true/\(Region.ready md ops d).contains i=true/\(∀c a w,Q (.panic c) (a.put oi.dst v) w->Q (.panic c) a w)/\YieldsIf P ops S oi v a/\S w/\
  Ml n P md ops Q S late fuel (d.setIfInBounds i true) (a.put oi.dst v) w
def Pm{m:Nat}(y:lh md ops late m=true){i:Nat}{oi:Oper}{fuel:Nat}{d:Array Bool}{a:Oc}{w:Z}(hi:ops[i]?=Y oi)(h:Cq n P md ops Q S late fuel d a w i oi):Ml n P md ops Q S late (fuel+1) d a w:=by
 obtain⟨v,j,l,p,r,t,u,h6,x⟩:=h;intro e;have f:i∈Region.ready md ops d:=by simpa using r
 exact jN y j hi (Region.noSelect_spec l) t fuel d a w e (Region.free_spec hi p) f u h6 (x (e.step f))
def Iq(n:Nat)(P:Program)(md:Region.Mode)(ops:Array Oper)(Q:Exit->Oc->Z->Prop)(S:Z->Prop)(late:Nat->Bool)(fuel:Nat)(d:Array Bool)(a:Oc)(w:Z)(i:Nat)(o:Oper):Prop:=
 Region.ready md ops d=[i]/\∀K':Oc->Z->Prop,Shut (∀a w,(late i=false->S w)->((late i=false->S w)->Ml n P md ops Q S late fuel (d.setIfInBounds i true) a w)->K' a w) ->
  if Region.wanted o (yielded ops a.tmps)=true then Oper.wpIn Fence.wide n P o a w K' Q else K' (a.put o.dst undef) w
def tq{i:Nat}{o:Oper}{fuel:Nat}{d:Array Bool}{a:Oc}{w:Z}(hi:ops[i]?=Y o)(h:Iq n P md ops Q S late fuel d a w i o):Ml n P md ops Q S late (fuel+1) d a w:=by
 obtain⟨r,h⟩:=h;intro y;refine⟨fun t=>absurd (r▸t) sM,fun j f=>?_⟩;have l:=f;rw[r]at f;cases List.mem_singleton.1 f;refine wpOpIn_step hi (fun K' u=>?_);have e:=h K' (fun a w p x=>u a w ⟨p,x p (y.step l)⟩);split
 ·rename_i hw;rw[if_pos hw]at e;exact e
 ·rename_i hw;rw[if_neg hw]at e;exact⟨fun _ _=>trivial,e⟩
def Nm{v:J}{i:Nat}{oi:Oper}{fuel:Nat}{d:Array Bool}{a:Oc}{w:Z}{G:Prop}(h:G)(t:lh md ops late 12=true:=by kernel_rfl)(hi:ops[i]?=Y oi:=by(simp only[gA,gS,gZ];rfl))(f:late i=false:=by rfl)(j:Region.noSelect ops=true:=by kernel_rfl)(l:Region.free md ops d i=true:=by kernel_rfl)(p:(Region.ready md ops d).contains i=true:=by kernel_rfl)(h4:∀c a w,Q (.panic c) (a.put oi.dst v) w->Q (.panic c) a w:=by exact fun _ _ _ h=>h)(u:Region.wanted oi (yielded ops a.tmps)=true:=by rfl)(x:∀w,S w->(execOp a.eval oi).run P w = .ok (.value v) w:=by(intro w e;simp only[Ea,and_true]at e;go_simp;try(with_reducible rfl)))(h6:S w:=by(with_reducible assumption))(r:Vl (i+1) (Ml n P md ops Q S late fuel (d.setIfInBounds i true) (a.put oi.dst v) w)=G:=by((try simp only[Act.put,sA,sZ,sS,Nat.reduceAdd]);rfl)):Vl i (Ml n P md ops Q S late (fuel+1) d a w):=by subst r;exact Pm t hi ⟨v,f,j,l,p,h4,Or.inl ⟨u,x⟩,h6,h⟩
def Jz{i:Nat}{oi:Oper}{fuel:Nat}{d:Array Bool}{a:Oc}{w:Z}{G:Prop}(h:G)(r:lh md ops late 12=true:=by kernel_rfl)(hi:ops[i]?=Y oi:=by(simp only[gA,gS,gZ];rfl))(e:late i=false:=by rfl)(f:Region.noSelect ops=true:=by kernel_rfl)(j:Region.free md ops d i=true:=by kernel_rfl)(l:(Region.ready md ops d).contains i=true:=by kernel_rfl)(h4:∀c a w,Q (.panic c) (a.put oi.dst undef) w->Q (.panic c) a w:=by exact fun _ _ _ h=>h)(t:Region.wanted oi (yielded ops a.tmps)=false:=by rfl)  (h6:S w:=by(with_reducible assumption))(p:Vl (i+1) (Ml n P md ops Q S late fuel (d.setIfInBounds i true) (a.put oi.dst undef) w)=G:=by((try simp only[Act.put,sA,sZ,sS,Nat.reduceAdd]);rfl)):Vl i (Ml n P md ops Q S late (fuel+1) d a w):=by subst p;exact Pm r hi ⟨undef,e,f,j,l,h4,Or.inr ⟨t,rfl⟩,h6,h⟩
def mj{i:Nat}{o:Oper}{fuel:Nat}{d:Array Bool}{a:Oc}{w:Z}(h:∀K':Oc->Z->Prop,Shut (∀a w,(late i=false->S w)->((late i=false->S w)->Ml n P md ops Q S late fuel (d.setIfInBounds i true) a w)->K' a w) ->if Region.wanted o (yielded ops a.tmps)=true then Oper.wpIn Fence.wide n P o a w K' Q else K' (a.put o.dst undef) w)(hi:ops[i]?=Y o:=by(simp only[gA,gS,gZ];rfl))(e:Region.ready md ops d=[i]:=by kernel_rfl):Ml n P md ops Q S late (fuel+1) d a w:=tq hi ⟨e,h⟩
def rh{d:Array Bool}{a:Oc}{w:Z}(e:Region.ready md ops d=[])(h:Q .normal a w):∀fuel,Ml n P md ops Q S late fuel d a w
 | 0=>fun _=>⟨e,h⟩
 | _+1=>fun _=>⟨fun _=>h,by rw[e];simp⟩
def CG{f:Nat}{a:Oc}{w:Z}(late:Nat->Bool)(S:Z->Prop)(e:P.follows .mixedOrders=true)(d:S w.drew)(h:S w.drew->Ml n P .any ops Q S late ops.size (Array.replicate ops.size false) a w.drew):(Code.region f ops true).wpIn Fence.wide n P Q a w:=
 wpIn_region_any e (jG _ _ _ _ (h d (Cl.start _)))
end
def PP(_:Z)(c:List J)(p:Int×Int):Prop:=c=[C M p.1,C M p.2]
abbrev Ja(w:Z)(v:J)(ps:LP):Prop:=Sl 91 2 PP w v ps
def Ja.f{w w':Z}{v:J}{ps:LP}(h:Ja w v ps)(k:Ba w w'):Ja w' v ps:=Sl.ext h (fun _ _ h=>h) k
def Ja.E{w w':Z}{v:J}{ps:LP}(h:Ja w v ps)(k:Ka 91 w w'):Ja w' v ps:=Sl.keep h (fun _ _ h=>h) k
def Ja.at'{w:Z}{a:Option Od}{n c:Nat}{ps:LP}(h:Ja w (O a n c) ps){i:Nat}{p:Int×Int}(r:ps[i]?=Y p):∃b o,a=Y ⟨b,o,I⟩/\b<w.heap.size/\w.cell? ⟨b,o+i*2,I⟩=Y (C M p.1)/\w.cell? ⟨b,o+i*2+1,I⟩=Y (C M p.2):=by obtain⟨b,o,d,rfl,l,t,j,f⟩:=Sl.at h r;have e:d=[C M p.1,C M p.2]:=j;subst e;exact⟨b,o,rfl,l,f 0 _ rfl,f 1 _ rfl⟩
def Gf(ps:LP)(i:Int):Int×Int:=ps.getD ((i+ps.length)%ps.length).toNat (0,0)
def Fx{ps:LP}{i:Int}(h:0<ps.length):∃k:Nat,k<ps.length/\(i+(ps.length:Int))%(ps.length:Int)=(k:Int)/\ps[k]?=Y (Gf ps i):=by have d:=Int.emod_nonneg (i+ps.length) (show (ps.length:Int)≠0 by omega);have e:=Int.emod_lt_of_pos (i+ps.length) (show 0<(ps.length:Int) by omega);refine⟨((i+ps.length)%ps.length).toNat,by omega,by omega,?_⟩;unfold Gf;rw[gD];have:((i+(ps.length:Int))%(ps.length:Int)).toNat<ps.length:=oM;simp only[gE this,Option.getD_some]
def DI(w:Z)(v:J)(ps:LP)(i:Int)(h:Ja w v ps)(r:0<ps.length)(R:ps.length<=1000000)(hi:-(ps.length:Int)<=i)(u:i<=1000000):Calls Tryz.prog 267 #[v,C M i] w fun e w'=>e=.returned (Oa #[C M (Gf ps i).1,C M (Gf ps i).2])/\Ba w w':=by
 obtain⟨a,c,rfl⟩:=h.form;obtain⟨k,K,L,d⟩:=Fx (i:=i) r;obtain⟨b,o,rfl,y,l,p⟩:=h.at' d;obtain⟨x,f⟩:=gX ((Gf ps i).1);obtain⟨z,j⟩:=gX ((Gf ps i).2);rw[f]at l ⊢;rw[j]at p ⊢;clear f j d h;generalize ps.length=n at *
 have u1:(0:Int)<=i+(n:Int):=oM;have u2:(0:Int)<(n:Int):=oM;have u3:(k:Int)<(n:Int):=oM;have t:b<w.heap.size+1:=oM;go_in;go_wp2;exact bR (v:=Oa #[C M x,C M z]) (by simp[results,Tryz.results267,go_sem]) rfl ⟨rfl,eA⟩
def Ua:LP->Int×Int
 | []=>(0,0)
 | p::ps=>ps.foldl (fun o q=>(min o.1 q.1,min o.2 q.2)) p
def xS(ps:LP)(q:Int×Int)(h:ps≠[]):Ua (ps++[q])=(min (Ua ps).1 q.1,min (Ua ps).2 q.2):=by
 cases ps with
 | nil=>exact absurd rfl h
 | cons p ps=>simp[Ua]
def yw(w:Z)(ps:LP)(g:Nat)(d:J)(W:Z):Prop:=
 ∃i:Nat,i<=ps.length/\d=C M i/\g=ps.length-i/\Ba w W/\W.heap[w.heap.size]?=Y (Ob #[C M 0,C M 0] 91 (0,0))/\
  ∃x z,(if i=0 then ps[0]?=Y (x,z)else Ua (ps.take i)=(x,z))/\W.heap[w.heap.size+1]?=Y (Ob #[C M x,C M z] 91 (0,0))
def vS{ps:LP}{i:Nat}{x z:Int}{q:Int×Int}(h:if i=0 then ps[0]?=Y (x,z)else Ua (ps.take i)=(x,z))(d:ps[i]?=Y q):Ua (ps.take (i+1))=(min x q.1,min z q.2):=by
 rw[Ce _ _ _ d];by_cases f:i=0
 ·subst f;rw[if_pos rfl]at h;rw[h]at d;cases d;simp[Ua]
 ·rw[if_neg f]at h;rw[xS _ _ (by
   intro e;have:=(lS.1 d).1;have j:(ps.take i).length=0:=by rw[e];rfl
   rw[List.length_take]at j;omega),h]
def yw.step{w wr:Z}{ps:LP}{i n:Nat}{x z d e a b:Int}(t:ps.length=n)(r:i<n)(y:Ba w wr)(j:wr.heap[w.heap.size]?=Y (Ob #[C M 0,C M 0] 91 (0,0)))(f:wr.heap[w.heap.size+1]?=Y (Ob #[C M x,C M z] 91 (0,0)))(hv:if i=0 then ps[0]?=Y (x,z)else Ua (ps.take i)=(x,z))(u:ps[i]?=Y (d,e))(l:a=min x d)(p:b=min z e):yw w ps (n-(i+1)) (C M ((i:Int)+1)) (((wr.setCell ⟨w.heap.size+1,0,I⟩ (C M a)).setCell ⟨w.heap.size+1,1,I⟩ (C M b)).alloc (Ob #[C M d,C M e] 91)):=by
 have K:=Ya f;refine⟨i+1,by omega,by go_num,by rw[t],eA,?_,a,b,?_,?_⟩
 ·rw[ig,if_neg (by simp only[Wf];omega),bS _ _ _ _ dO,bS _ _ _ _ dO];exact j
 ·rw[if_neg oM,vS hv u,l,p]
 ·rw[ig,if_neg (by simp only[Wf];omega)];exact vk f _ _
def vE(w:Z)(v:J)(ps:LP)(h:Ja w v ps)(h0:0<ps.length):Calls Tryz.prog 232 #[v] w fun e w'=>e=.returned (Oa #[C M (Ua ps).1,C M (Ua ps).2])/\Ba w w':=by
 obtain⟨a,c,rfl⟩:=h.form;obtain⟨n,K⟩:=gX ps.length;rw[K]at h ⊢;have r:=h.le;unfold maxLen at r;have ac:0<n:=oM;have ad:n<=9223372036854775807:=oM;obtain⟨p,L⟩:∃p,ps[0]?=Y p:=⟨ps[0],by simp⟩;obtain⟨x0,z0⟩:=p;obtain⟨b,o,rfl,hb,c0,c1⟩:=h.at' L;simp only[Nat.zero_mul,Nat.add_zero]at c0 c1;have ab:b<w.heap.size+1:=oM;have d:=Aa K;have Hp:=Aa L;clear K r L h0;go_in;go_wp2;go_loopg [11] n (yw w ps)
 case atStart =>
  refine⟨0,by omega,rfl,by rw[d.o];rfl,eA,by rw[ig,if_neg sM];exact kc _ _ _ rfl,x0,z0,by simpa using Hp.o,kc _ _ _ sM⟩
 case round =>
  obtain⟨i,hi,rfl,rfl,hx,j,x,z,hv,f⟩:=hrel;rw[d.o]at hi;have r0:=Da j (i:=0) (u:=C M 0) rfl;have r1:=Da j (i:=1) (u:=C M 0) rfl;have ag:=Za j 0;have ah:=Za j 1;have o0:=Da f (i:=0) (u:=C M x) rfl;have o1:=Da f (i:=1) (u:=C M z) rfl;have ae:=Za f 0;have af:=Za f 1;have zr:=Ya j;have zo:=Ya f;have HR:=Aa j;have HO:=Aa f;have HV:=Aa hv;clear j f hv c0 c1;by_cases t:i<n
  ·obtain⟨q,R⟩:∃q,ps[i]?=Y q:=⟨ps[i]'(by rw[d.o];omega),by simp[d.o,t]⟩;obtain⟨b',o',e',aa,d0,d1⟩:=(h.f hx).at' R;cases e';obtain⟨qx,qz⟩:=q;have Hq:=Aa R;clear R;go_wp2
   all_goals
    go_roundg (n-(i+1))
    case measure=>have:=d.o;omega
    case rel =>
     exact yw.step d.o t hx HR.o HO.o HV.o Hq.o oM oM
  ·obtain rfl:i=n:=oM;have l:=HV.o;rw[if_neg oM,lT (by rw[d.o];omega)]at l;have y:=Aa l;clear l;go_wp2;refine bR (v:=Oa #[C M x,C M z]) (by simp[results,Tryz.results232,go_sem,r0,r1]) rfl ⟨?_,eA⟩;rw[y.o]
def NB(W:Z)(b:Nat)(n:Int):Prop:=∃s a m c,W.heap[b]?=Y (Ob #[C M s,O a m c] 163 (0,0))/\Ad W (Oa #[C M s,O a m c]) n
section
variable {W W':Z} {b b':Nat} {n n':Int}
def NB.ext(h:NB W b n)(k:Ba W W'):NB W' b n:=by obtain⟨s,a,m,c,d,e⟩:=h;exact⟨s,a,m,c,k.e d,e.ext k⟩
def NB.not(h:NB W b n):sd 3 W b:=by obtain⟨s,a,m,c,d,i⟩:=h;intro cs f e;rw[d]at e;cases e
def NB.rd(h:NB W b n):∃s a m c,s=n.sign/\W.cell? ⟨b,0,I⟩=Y (C M s)/\W.cell? ⟨b,1,I⟩=Y (O a m c)/\W.frozen? ⟨b,0,I⟩=false/\W.frozen? ⟨b,1,I⟩=false/\b<W.heap.size/\Ad W (Oa #[C M s,O a m c]) n:=by obtain⟨s,a,m,c,d,e⟩:=h;exact⟨s,a,m,c,e.sgn,Da d (i:=0) rfl,Da d (i:=1) rfl,Za d 0,Za d 1,Ya d,e⟩
def NB.put{s:Int}{a:Option Od}{m c:Nat}(h:NB W b n)(f:Ad W (Oa #[C M s,O a m c]) n'):NB ((W.setCell ⟨b,0,I⟩ (C M s)).setCell ⟨b,1,I⟩ (O a m c)) b n':=by have d:=h.not;obtain⟨r,i,p,j,e,l⟩:=h;exact⟨s,a,m,c,vk e _ _,f.keep (((Ka.refl _ W).y d _).y (d.set _ _) _)⟩
def NB.other{p:Od}(h:NB W b n)(i:p.block≠b)(j:sd 3 W p.block)(u:J):NB (W.setCell p u) b n:=by obtain⟨s,a,m,c,d,f⟩:=h;exact⟨s,a,m,c,(bS _ _ _ _ (fun e=>i e.symm)).trans d,f.keep ((Ka.refl _ W).y j _)⟩
def NB.new{W0:Z}{s:Int}{a:Option Od}{m c:Nat}(e:Ad W0 (Oa #[C M s,O a m c]) n)(d:b=W0.heap.size):NB (W0.alloc (Ob #[C M s,O a m c] 163)) b n:=
 ⟨s,a,m,c,kc _ _ _ d,e.ext ((eR _).alloc _)⟩
end
def Ip{W:Z}{b:Nat}{cs:Array J}{d:Nat×Nat}(h:W.heap[b]?=Y (Ob cs 163 d))(u v:J):Ka 3 W ((W.setCell ⟨b,0,I⟩ u).setCell ⟨b,1,I⟩ v):=by
 have f:sd 3 W b:=by intro cs d e;rw[h]at e;cases e
 exact((Ka.refl _ W).y f _).y (f.set _ _) _
def oH(n:Int):-1<=n.sign/\n.sign<=1:=by rcases vi n with h|h|h<;>omega
def Ad.neg{w:Z}{s:Int}{a:Option Od}{m c:Nat}{n:Int}(h:Ad w (Oa #[C M s,O a m c]) n):Ad w (Oa #[C M (-s),O a m c]) (-n):=by obtain⟨sl,ds,d,e,f,i⟩:=h;cases d;exact⟨_,ds,by rw[Int.sign_neg],e,f,by rw[Int.natAbs_neg];exact i⟩
def Ad.abs{w:Z}{s:Int}{a:Option Od}{m c:Nat}{n:Int}(h:Ad w (Oa #[C M s,O a m c]) n):Ad w (Oa #[C M (s*s),O a m c]) (n.natAbs:Int):=by
 obtain⟨sl,ds,d,f,i,j⟩:=h;cases d;refine⟨_,ds,?_,f,i,by simpa using j⟩;rcases vi n with ⟨e,h⟩|⟨e,h⟩|⟨e,h⟩<;>rw[e]
 ·rw[show ((n.natAbs:Int)).sign=1 from Int.sign_eq_one_of_pos oM];rfl
 ·subst h;rfl
 ·rw[show ((n.natAbs:Int)).sign=1 from Int.sign_eq_one_of_pos oM];rfl
def Us(w:Z)(v:J)(n:Int)(h:Ad w v n):Calls Tryz.prog 211 #[v] w (Vh w (-n)):=by obtain⟨s,a,m,c,rfl,e⟩:=h.j;have d:=oH n;rw[<-e]at d;clear e;go_in;go_wp2;exact bR (v:=Oa #[C M (-s),O a m c]) (by simp[results,Tryz.results211,go_sem]) rfl ⟨_,rfl,h.neg.ext eA,eA⟩
def nB(w:Z)(s:Int)(a:Option Od)(m c:Nat)(n:Int)(h:Ad w (Oa #[C M s,O a m c]) n):Calls Tryz.prog 275 #[Oa #[C M s,O a m c]] w fun e w'=>e=.returned (Oa #[C M (s*s),O a m c])/\Ba w w':=by
 have f:=h.sgn;have d:s*s=1\/s*s=0:=by rcases vi n with ⟨e,_⟩|⟨e,_⟩|⟨e,_⟩<;>rw[f,e]<;>decide
 obtain⟨p,i⟩:=gX (s*s);rw[i]at d ⊢;have j:0<=p:=oM;have l:p<=1:=oM;clear f d h;go_in;go_wp2;exact bR (v:=Oa #[C M p,O a m c]) (by simp[results,Tryz.results275,go_sem]) rfl ⟨rfl,eA⟩
def KD(w:Z)(v:J)(n:Int)(h:Ad w v n):Calls Tryz.prog 275 #[v] w (Vh w (n.natAbs:Int)):=by obtain⟨s,a,m,c,rfl,f⟩:=h.j;exact(nB w s a m c n h).mono fun _ _ ⟨e,d⟩=>⟨_,e,h.abs.ext d,d⟩
def LG(w:Z)(n:Int)(t0 t4:J)(wr:Z):Prop:=
 ∃(cur:Int)(d:List Int),t0=C M cur/\ -9223372036854775808<=cur/\cur<=9223372036854775807/\d.length<=5/\Ud C4 d/\(n.natAbs:Int)=dv C4 d+C4 ^ d.length*(cur.natAbs:Int)/\
  Db 3 wr (w.heap.size+1) t4 d/\Ba w wr/\w.heap.size<wr.heap.size/\wr.heap[w.heap.size]?=Y (Ob #[C M 0,O I 0 0] 163 (0,0))
def CB{N c d:Int}{k:Nat}(h:N=d+C4 ^ k*c)(r:0<=d)(p:N<=9223372036854775808)(f:1<=c):k<=4:=by
 by_cases e:k<=4
 ·exact e
 ·have i:=Jn (b:=C4) dM (show 5<=k by omega);have j:C4 ^ k*1<=C4 ^ k*c:=Int.mul_le_mul_of_nonneg_left f (by have:=Tj Gk k;omega);have l:C4 ^ 5=100000000000000000000:=dM;omega
def Su{N c r q:Int}{d:List Int}(h:N=dv C4 d+C4 ^ d.length*c)(i:r=c%10000)(f:q=c/10000):N=dv C4 (d++[r])+C4 ^ (d++[r]).length*q:=by
 subst i f;rw[lA,List.length_singleton];have:=QC d d d.length c rfl;rw[Gn,h,Int.pow_succ];have e:c=c%10000+C4*(c/10000):=by unfold C4;omega
 generalize c%10000=r at *
 generalize c/10000=q at *
 subst e;grind
def LA(x:Int):((Int.tmod x 10000).natAbs:Int)=(x.natAbs:Int)%10000/\((Int.tdiv x 10000).natAbs:Int)=(x.natAbs:Int)/10000:=by
 by_cases d:0<=x
 ·rw[Int.tmod_eq_emod_of_nonneg d,Int.tdiv_eq_ediv_of_nonneg d];omega
 ·obtain⟨y,rfl⟩:∃y,x = -y:=⟨-x,by omega⟩;rw[Int.neg_tmod,Int.neg_tdiv];rw[Int.tmod_eq_emod_of_nonneg oM,Int.tdiv_eq_ediv_of_nonneg oM];omega
def Fo(w:Z)(n:Int)(h0:-9223372036854775808<=n)(h1:n<=9223372036854775807):Calls Tryz.prog 208 #[C M n] w (Vh w n):=by
 have ab:n<0->Calls Tryz.prog 208 #[C M n] w (Vh w n):=by
  intro hn;go_in;go_wp2;go_loopw [0,4] (LG w n) (fun t0 _ _=>(intOf t0).natAbs)
  case atStart=>exact⟨n,[],rfl,by omega,by omega,by simp,Ud.nil _,by simp,Db.nil _ _ _,(eR w).alloc _,by simp,aN w _⟩
  case round =>
   obtain⟨cur,ys,rfl,c0,c1,al,t,hv,p,aa,ae,y⟩:=hrel;have Hv:=Aa hv;have d:=Aa y;clear hv y;obtain⟨oa,oc,rfl⟩:=p.form;by_cases hc:cur=0
   ·subst hc;(have e:(n.natAbs:Int)=dv C4 ys:=by have:=Hv.o;simpa using this);have E:=Aa e;have af:=Da d.o (i:=0) (u:=C M 0) rfl;have ag:=Da d.o (i:=1) (u:=O I 0 0) rfl;have am:=Za d.o 0;have an:=Za d.o 1;clear e;go_wp2_with(go_at_call 213;(with_reducible refine(ot _ (-1) _ ys n p.ints oM (fun x hx=>?_) ?_ ?_ ?_).mono ?_);(have:=t x hx;unfold C4 at this;omega);(rw[<-E.o];omega);(rw[<-E.o];omega);(intro _;first|exact .inl rfl|exact .inr rfl);rintro e w1 ⟨r1,rfl,L,R⟩;obtain⟨s1,a1,m1,c1,rfl,-⟩:=L.j;obtain⟨ad,aj⟩:=R.cells);exact bR (v:=Oa #[C M s1,O a1 m1 c1]) (by simp[results,Tryz.results208,go_sem,ad,ae,af,ag]) rfl ⟨_,rfl,L.keep (Ip (R.e d.o) _ _),eA⟩
   ·(have ai:(cur != 0)=true:=by simpa using hc);have ak:ys.length<=4:=CB Hv.o (Wi Gk t).1 oM oM;obtain⟨e1,e2⟩:=LA cur;obtain⟨r,hr⟩:=gX (Int.tmod cur 10000);obtain⟨q,hq⟩:=gX (Int.tdiv cur 10000);rw[hr]at e1;rw[hq]at e2;have r1:-10000<r:=oM;have r2:r<10000:=oM;have q1:-9223372036854775808<=q:=oM;have q2:q<=9223372036854775807:=oM;have z:=Aa e1;have E2:=Aa e2;clear e1 e2;by_cases ah:r<0
    ·skip
     (have K:-r=(cur.natAbs:Int)%10000:=by have:=z.o;omega);have E9:=Aa K;clear K;go_wp2_with(at_builtin;refine Mj nl Tryz.underlying47 rfl _ _ rfl rfl p rfl oM oM ?_;intro v' w1 l f j);go_roundw
     case rel =>
      refine⟨q,_,rfl,by omega,by omega,by simp;omega,t.snoc (by have:=z.o;omega) (by have:=z.o;unfold C4;omega),Su Hv.o E9.o E2.o,l,aa.D f oM,?_,?_⟩
      ·have:=f.size;omega
      ·exact j.get d.o dM
     case measure=>have:=E2.o;simp[intOf];omega
    ·skip
     (have K:r=(cur.natAbs:Int)%10000:=by have:=z.o;omega);have E9:=Aa K;clear K;go_wp2_with(at_builtin;refine Mj nl Tryz.underlying47 rfl _ _ rfl rfl p rfl oM oM ?_;intro v' w1 l f j);go_roundw
     case rel =>
      refine⟨q,_,rfl,by omega,by omega,by simp;omega,t.snoc (by have:=z.o;omega) (by have:=z.o;unfold C4;omega),Su Hv.o E9.o E2.o,l,aa.D f oM,?_,?_⟩
      ·have:=f.size;omega
      ·exact j.get d.o dM
     case measure=>have:=E2.o;simp[intOf];omega
 have ac:¬n<0->Calls Tryz.prog 208 #[C M n] w (Vh w n):=by
  intro hn;go_in;go_wp2;go_loopw [0,4] (LG w n) (fun t0 _ _=>(intOf t0).natAbs)
  case atStart=>exact⟨n,[],rfl,by omega,by omega,by simp,Ud.nil _,by simp,Db.nil _ _ _,(eR w).alloc _,by simp,aN w _⟩
  case round =>
   obtain⟨cur,ys,rfl,c0,c1,al,t,hv,p,aa,ae,y⟩:=hrel;have Hv:=Aa hv;have d:=Aa y;clear hv y;obtain⟨oa,oc,rfl⟩:=p.form;by_cases hc:cur=0
   ·subst hc;(have e:(n.natAbs:Int)=dv C4 ys:=by have:=Hv.o;simpa using this);have E:=Aa e;have af:=Da d.o (i:=0) (u:=C M 0) rfl;have ag:=Da d.o (i:=1) (u:=O I 0 0) rfl;have am:=Za d.o 0;have an:=Za d.o 1;clear e;go_wp2_with(go_at_call 213;(with_reducible refine(ot _ (1) _ ys n p.ints oM (fun x hx=>?_) ?_ ?_ ?_).mono ?_);(have:=t x hx;unfold C4 at this;omega);(rw[<-E.o];omega);(rw[<-E.o];omega);(intro _;first|exact .inl rfl|exact .inr rfl);rintro e w1 ⟨r1,rfl,L,R⟩;obtain⟨s1,a1,m1,c1,rfl,-⟩:=L.j;obtain⟨ad,aj⟩:=R.cells);exact bR (v:=Oa #[C M s1,O a1 m1 c1]) (by simp[results,Tryz.results208,go_sem,ad,ae,af,ag]) rfl ⟨_,rfl,L.keep (Ip (R.e d.o) _ _),eA⟩
   ·(have ai:(cur != 0)=true:=by simpa using hc);have ak:ys.length<=4:=CB Hv.o (Wi Gk t).1 oM oM;obtain⟨e1,e2⟩:=LA cur;obtain⟨r,hr⟩:=gX (Int.tmod cur 10000);obtain⟨q,hq⟩:=gX (Int.tdiv cur 10000);rw[hr]at e1;rw[hq]at e2;have r1:-10000<r:=oM;have r2:r<10000:=oM;have q1:-9223372036854775808<=q:=oM;have q2:q<=9223372036854775807:=oM;have z:=Aa e1;have E2:=Aa e2;clear e1 e2;by_cases ah:r<0
    ·skip
     (have K:-r=(cur.natAbs:Int)%10000:=by have:=z.o;omega);have E9:=Aa K;clear K;go_wp2_with(at_builtin;refine Mj nl Tryz.underlying47 rfl _ _ rfl rfl p rfl oM oM ?_;intro v' w1 l f j);go_roundw
     case rel =>
      refine⟨q,_,rfl,by omega,by omega,by simp;omega,t.snoc (by have:=z.o;omega) (by have:=z.o;unfold C4;omega),Su Hv.o E9.o E2.o,l,aa.D f oM,?_,?_⟩
      ·have:=f.size;omega
      ·exact j.get d.o dM
     case measure=>have:=E2.o;simp[intOf];omega
    ·skip
     (have K:r=(cur.natAbs:Int)%10000:=by have:=z.o;omega);have E9:=Aa K;clear K;go_wp2_with(at_builtin;refine Mj nl Tryz.underlying47 rfl _ _ rfl rfl p rfl oM oM ?_;intro v' w1 l f j);go_roundw
     case rel =>
      refine⟨q,_,rfl,by omega,by omega,by simp;omega,t.snoc (by have:=z.o;omega) (by have:=z.o;unfold C4;omega),Su Hv.o E9.o E2.o,l,aa.D f oM,?_,?_⟩
      ·have:=f.size;omega
      ·exact j.get d.o dM
     case measure=>have:=E2.o;simp[intOf];omega
 by_cases hn:n<0
 ·exact ab hn
 ·exact ac hn
def Ei(w:Z)(o d:Obj):((w.alloc o).alloc d).heap[w.heap.size]?=Y o:=by rw[Below.heap_alloc _ _ _ sM];exact aN w o
def YU(w:Z)(s l:Int)(a f:Option Od)(m i c c':Nat)(xs e:List Int)(D:Int)(t5 p:J)(W:Z):Prop:=
 ∃d j:Int,t5=C M d/\p=C M j/\ -1<=j/\j<m/\ -9223372036854775807<=d/\d<=9223372036854775807/\(d≠0->d.sign=D)/\(d=0->xs.length=e.length/\xs.drop (j+1).toNat=e.drop (j+1).toNat)/\Ba w W/\
  W.heap[w.heap.size]?=Y (Ob #[C M s,O a m c] 163 (0,0))/\W.heap[w.heap.size+1]?=Y (Ob #[C M l,O f i c'] 163 (0,0))
def Cz(w:Z)(va vb:J)(na nb:Int)(ha:Ad w va na)(hb:Ad w vb nb):Calls Tryz.prog 250 #[va,vb] w fun e w'=>e=.returned (C M ((na.natAbs:Int)-(nb.natAbs:Int)).sign)/\Ba w w':=by
 obtain⟨s,a,m,c,rfl,hs⟩:=ha.j;obtain⟨s',a',m',c',rfl,ap⟩:=hb.j;obtain⟨xs,hl,hi,hc,hv⟩:=ha.open;obtain⟨ys,ac,ag,ab,aj⟩:=hb.open;have hm:=hi.le;have ai:=ag.le;rw[hl]at hm;rw[ac]at ai;unfold maxLen at hm ai;obtain⟨D,hD⟩:=gX (((na.natAbs:Int)-(nb.natAbs:Int)).sign);rw[hD];rw[<-hv,<-aj]at hD;have HD:=Aa hD;have z:=Aa hl;have f:=Aa ac;clear hs ap hl ac hv aj hD ha hb;go_in;go_wp2;go_loopw [5,6] (YU w s s' a a' m m' c c' xs ys D) (fun _ t6 _=>(intOf t6+1).toNat)
 case atStart =>
  refine⟨(m:Int)-m',(m:Int)-1,rfl,rfl,by omega,by omega,by omega,by omega,fun h=>?_,fun h=>⟨by rw[z.o,f.o];omega,?_⟩,eA,Ei ..,kc _ _ _ sM⟩
  ·rw[<-HD.o,<-IH hc ab (by rw[z.o,f.o];omega),z.o,f.o]
  ·rw[List.drop_of_length_le (by rw[z.o];omega),List.drop_of_length_le (by rw[f.o];omega)]
 case round =>
  obtain⟨d,j,rfl,rfl,j0,j1,d0,d1,K,hz,hx,aa,p⟩:=hrel;have Hd:=Aa K;have Hz:=Aa hz;have al:=Aa aa;have am:=Aa p;have av:=Da aa (i:=1) (u:=O a m c) rfl;have aw:=Da p (i:=1) (u:=O a' m' c') rfl;clear K hz aa p;rcases Int.lt_trichotomy d 0 with K|K|K
  ·have e:D = -1:=by rw[<-Hd.o oM];exact Int.sign_eq_neg_one_of_neg K
   have Aa:¬d=0:=oM;have an:(d==0)=false:=by simpa using Aa
   have az:¬0<d:=oM;by_cases hj:0<=j
   all_goals
    go_wp2;go_ret;exact⟨rfl,eA⟩
  ·subst K;obtain⟨ah,l⟩:=Hz.o rfl;have R:=Aa ah;have ad:=Aa l;clear ah l;by_cases hj:0<=j
   ·obtain⟨k,rfl⟩:=Int.eq_ofNat_of_zero_le hj;have hk:k<m:=oM;(have ao:k<m':=by have:=R.o;rw[z.o,f.o]at this;omega);obtain⟨b,o,rfl,p,ak⟩:=(hi.ext hx).open (by rw[z.o];omega);obtain⟨b',o',rfl,au,L⟩:=(ag.ext hx).open (by rw[f.o];omega);obtain⟨x,r⟩:∃x,xs[k]?=Y x:=⟨xs[k]'(by rw[z.o];omega),by simp[z.o,hk]⟩;obtain⟨y,t⟩:∃y,ys[k]?=Y y:=⟨ys[k]'(by rw[f.o];omega),by simp[f.o,ao]⟩;have ax:=ak k x r;have ay:=L k y t;have aq:=hc.1 x (lM r);have ar:=ab.1 y (lM t);unfold C4 at aq ar;have ae:=Aa r;have af:=Aa t;clear ak L r t;go_wp2;go_quiet (fail);go_wp2;go_roundw
    case rel =>
     have l:=ad.o;rw[show ((k:Int)+1).toNat=k+1 by omega]at l;refine⟨_,(k:Int)-1,rfl,rfl,by omega,by omega,by omega,by omega,fun h=>?_,fun h=>⟨R.o,?_⟩,eA,?_,?_⟩
     ·rw[<-HD.o];exact nJ hc ab R.o ae.o af.o l oM
     ·obtain rfl:x=y:=oM;rw[show ((k:Int)-1+1).toNat=k by omega];exact CJ ae.o af.o l
     ·exact al.o
     ·exact am.o
    case measure=>simp[intOf]
   ·obtain rfl:j = -1:=oM;have e:D=0:=by
     have:=ad.o;simp only[show ((-1:Int)+1).toNat=0 from rfl,List.drop_zero]at this;rw[<-HD.o,this];simp
    go_wp2;go_ret;exact⟨rfl,eA⟩
  ·have e:D=1:=by rw[<-Hd.o oM];exact Int.sign_eq_one_of_pos K
   have Aa:¬d=0:=oM;have an:(d==0)=false:=by simpa using Aa
   by_cases hj:0<=j
   all_goals
    go_wp2;go_ret;subst e;exact⟨rfl,eA⟩
def Oo(w:Z)(v:J)(ps:LP)(i x z:Int)(h:Ja w v ps)(f:0<ps.length)(j:ps.length<=1000000)(hi:-(ps.length:Int)<=i)(d:i<=1000000)(l:Gf ps i=(x,z)):Calls Tryz.prog 267 #[v,C M i] w fun e w'=>e=.returned (Oa #[C M x,C M z])/\Ba w w':=by
 have:=DI w v ps i h f j hi d
 rwa [l]at this
def Zu(w:Z)(d f i j l p T:Int)(r:Bd 100000000 d)(t:Bd 100000000 f)(u:Bd 100000000 i)(h4:Bd 100000000 j)(x:Bd 100000000 l)(h6:Bd 100000000 p)(y:Ge (d,f) (i,j) (l,p)=T):Calls Tryz.prog 266 #[Oa #[C M d,C M f],Oa #[C M i,C M j],Oa #[C M l,C M p]] w fun e w'=>e=.returned (C M T)/\Ba w w':=by
 have:=rM w d f i j l p r t u h4 x h6
 rwa [y]at this
def Zf(k:Int)(ps:LP):Prop:=∀p∈ps,Bd k p.1/\Bd k p.2
def Zf.at{k:Int}{ps:LP}(h:Zf k ps)(e:0<ps.length){i:Int}{x z:Int}(f:Gf ps i=(x,z)):Bd k x/\Bd k z:=by obtain⟨j,_,_,d⟩:=Fx (i:=i) e;rw[f]at d;exact h _ (lM d)
def Cs{ps:LP}{i:Nat}(h:i<ps.length):ps[i]?=Y (Gf ps i):=by
 unfold Gf;have e:(((i:Int)+ps.length)%ps.length).toNat=i:=by
  rw[Int.add_emod_right,Int.emod_eq_of_lt oM oM];omega
 rw[e,gD,gE h];rfl
def Jj(ps:LP)(i:Nat):Bool:=decide (0<Ge (Gf ps ((i:Int)-1)) (Gf ps i) (Gf ps ((i:Int)+1)))
def Ij(ps:LP)(i k:Nat):Bool:=decide (0<Ge (Gf ps i) (Gf ps ((i:Int)+1)) (Gf ps ((i:Int)+k)))
def th(ps:LP)(i:Nat):Bool:=Jj ps i&&(List.range (ps.length-1)).all fun k=>decide (k<2) || Ij ps i k
def Wa(ps:LP):Bool:=Ra ps.length 3 12&&(List.range ps.length).all (th ps)
def EF{ps:LP}{i:Nat}(h:i<ps.length)(d:th ps i=false):Wa ps=false:=by
 unfold Wa;rw[Bool.and_eq_false_iff]
 right
 rw[List.all_eq_false];exact⟨i,List.mem_range.2 h,by simp[d]⟩
def PS{ps:LP}(d:Ra ps.length 3 12=true)(h:∀i,i<ps.length->th ps i=true):Wa ps=true:=by unfold Wa;rw[d,Bool.true_and,List.all_eq_true];exact fun i e=>h i (List.mem_range.1 e)
def LN{ps:LP}{i:Nat}(h:Jj ps i=false):th ps i=false:=by unfold th;rw[h];rfl
def KN{ps:LP}{i k:Nat}(d:k<ps.length-1)(e:2<=k)(h:Ij ps i k=false):th ps i=false:=by
 unfold th;rw[Bool.and_eq_false_iff]
 right
 rw[List.all_eq_false];exact⟨k,List.mem_range.2 d,by simp[h];omega⟩
def JN{ps:LP}{i:Nat}(h:Jj ps i=true)(e:∀k,2<=k->k<ps.length-1->Ij ps i k=true):th ps i=true:=by
 unfold th;rw[h,Bool.true_and,List.all_eq_true];intro k d;rw[List.mem_range]at d;by_cases f:k<2
 ·simp[f]
 ·simp[e k oM d]
def sV(w:Z)(ps:LP)(g:Nat)(d:J)(W:Z):Prop:=
 ∃i:Nat,i<=ps.length/\d=C M i/\g=ps.length-i/\Ba w W/\∀j,j<i->th ps j=true
def uV(w:Z)(ps:LP)(i:Nat)(g:Nat)(t4:J)(W:Z):Prop:=
 ∃k:Nat,2<=k/\k<=ps.length-1/\t4=C M k/\g=ps.length-k/\Ba w W/\∀j,2<=j->j<k->Ij ps i j=true
def OR(w:Z)(v:J)(ps:LP)(h:Ja w v ps)(hb:Zf 100000000 ps):Calls Tryz.prog 231 #[v] w fun e w'=>e=.returned (X (Wa ps))/\Ba w w':=by
 obtain⟨a,c,rfl⟩:=h.form;obtain⟨n,hn⟩:=gX ps.length;have au:=hn;rw[hn]at h ⊢;have r:=Aa hn;have Hb:=Aa hb;clear hb;by_cases hw:Ra n 3 12=true
 ·have av:3<=n/\n<=12:=by simp[Ra]at hw;omega
  obtain⟨av,aK⟩:=av;have HW:=Aa hw;clear hn au;have h0:0<ps.length:=by rw[r.o];omega
  have ar:ps.length<=1000000:=by rw[r.o];omega
  have H0:=Aa h0;have H6:=Aa ar;obtain⟨b,o,rfl,aM,_,_⟩:=h.at' (Cs h0);clear h0 ar;go_in;go_wp2_with(((go_at_call 195;(with_reducible refine(ii _ n 3 12).mono ?_);rintro e w1 ⟨rfl,d⟩)));go_loopg [11] n (sV w ps)
  case atStart=>exact⟨0,by omega,rfl,by rw[r.o];rfl,eA,fun j hj=>by omega⟩
  case round =>
   obtain⟨i,hi,rfl,rfl,hx,aj⟩:=hrel;rw[r.o]at hi;have ai:=Aa aj;clear aj d;by_cases ag:i<n
   ·obtain⟨⟨ax,az⟩,hA⟩:∃p,Gf ps ((i:Int)-1)=p:=⟨_,rfl⟩;obtain⟨⟨qx,qz⟩,hQ⟩:∃p,Gf ps (i:Int)=p:=⟨_,rfl⟩;obtain⟨⟨bx,bz⟩,hB⟩:∃p,Gf ps ((i:Int)+1)=p:=⟨_,rfl⟩;obtain⟨T,hT⟩:=gX (Ge (ax,az) (qx,qz) (bx,bz));have hP:=(h.f hx).at' (Cs (ps:=ps) (i:=i) (by rw[r.o];exact ag));rw[hQ]at hP;obtain⟨b',o',e',f,d0,d1⟩:=hP;cases e';have HA:=Aa hA;have HQ:=Aa hQ;have HB:=Aa hB;have HT:=Aa hT;have ae:=Aa (Hb.o.at H0.o hA);have x:=Aa (Hb.o.at H0.o hQ);have u:=Aa (Hb.o.at H0.o hB);(have g1:-(ps.length:Int)<=(i:Int)-1:=by rw[r.o];omega);(have g2:-(ps.length:Int)<=(i:Int)+1:=by rw[r.o];omega);(have aw:Jj ps i=decide (0<T):=by unfold Jj;rw[hA,hQ,hB,hT]);have am:=Aa aw;have hs:=h.f hx;clear hA hQ hB hT aw;have aP:IntKind.i64.wrap ((i:Int)-1)=(i:Int)-1:=iW _ oM;have aQ:IntKind.i64.wrap ((i:Int)+1)=(i:Int)+1:=iW _ oM;have p1:(0:Int)<=(i:Int):=oM;have p2:(i:Int)<(n:Int):=oM;by_cases ao:0<T
    ·(have aC:decide (T<=0)=false:=by simp;omega);go_wp2;go_region_held3 (fun W=>W.cell? ⟨b,o+i*2,I⟩=Y (C M qx)/\W.cell? ⟨b,o+i*2+1,I⟩=Y (C M qz)) ((repeat' (with_reducible refine And.intro ?_ ?_))<;>(first|(go_simp;done)|(refine d.d ?_;go_simp;done))) (first|((go_at_call 267;(with_reducible refine(Oo _ (O (Y ⟨b,o,I⟩) n c) ps ((i:Int)-1) ax az ?_ H0.o H6.o g1 oM HA.o).mono ?_);(refine hs.f ?_;exact eA);rintro e w1 ⟨rfl,d⟩;obtain⟨y,L⟩:=d.cells;(try simp only[Bg,Ag,Yb]at y L);(have l:=d.lt (n:=b) (by first|exact f | (simp only[Yb];exact f)|(have:=l;omega)))))|((go_at_call 267;(with_reducible refine(Oo _ (O (Y ⟨b,o,I⟩) n c) ps ((i:Int)+1) bx bz ?_ H0.o H6.o g2 oM HB.o).mono ?_);(refine hs.f ?_;exact eA);rintro e w2 ⟨rfl,t⟩;obtain⟨z,R⟩:=t.cells;(try simp only[Bg,Ag,Yb]at z R);(have ah:=t.lt (n:=b) (by first|exact f | (simp only[Yb];exact f)|(have:=l;omega)))))|((go_at_call 266;(with_reducible refine(Zu _ _ _ _ _ _ _ T ae.o.1 ae.o.2 x.o.1 x.o.2 u.o.1 u.o.2 HT.o).mono ?_);rintro e w3 ⟨rfl,ab⟩;obtain⟨K,aa⟩:=ab.cells;(try simp only[Bg,Ag,Yb]at K aa))))
     all_goals go_wp2
     go_loopg [4] (n-2) (uV w ps i)
     case atStart=>exact⟨2,nE _,by rw[r.o];omega,rfl,by rw[r.o],eA,fun j h2 hj=>by omega⟩
     case round =>
      rename_i wr0 _;clear hs d0 d1 y L l z R ah K aa;obtain⟨k,aG,aH,rfl,rfl,aA,ad⟩:=hrel;rw[r.o]at aH;have ac:=Aa ad;clear ad;by_cases aI:k<n-1
      ·obtain⟨⟨cx,cz⟩,hC⟩:∃p,Gf ps ((i:Int)+(k:Int))=p:=⟨_,rfl⟩;obtain⟨U,hU⟩:=gX (Ge (qx,qz) (bx,bz) (cx,cz));have hP:=(h.f aA).at' (Cs (ps:=ps) (i:=i) (by rw[r.o];exact ag));rw[HQ.o]at hP;obtain⟨aL,aO,aB,aq,d0,d1⟩:=hP;cases aB;have HC:=Aa hC;have HU:=Aa hU;have af:=Aa (Hb.o.at H0.o hC);(have ay:Ij ps i k=decide (0<U):=by unfold Ij;rw[HQ.o,HB.o,hC,hU]);have an:=Aa ay;(have g3:-(ps.length:Int)<=(i:Int)+(k:Int):=by rw[r.o];omega);have hs:=h.f aA;clear hC hU ay;have aR:IntKind.i64.wrap ((i:Int)+(k:Int))=(i:Int)+(k:Int):=iW _ oM;have p3:(k:Int)<(n:Int)-1:=oM;have f:=aq;by_cases ap:0<U
       ·(have aD:decide (U<=0)=false:=by simp;omega);go_wp2;go_region_held3 (fun W=>W.cell? ⟨b,o+i*2,I⟩=Y (C M qx)/\W.cell? ⟨b,o+i*2+1,I⟩=Y (C M qz)) ((repeat' (with_reducible refine And.intro ?_ ?_))<;>(first|(go_simp;done)|(refine d.d ?_;go_simp;done))) (first|((go_at_call 267;(with_reducible refine(Oo _ (O (Y ⟨b,o,I⟩) n c) ps ((i:Int)+1) bx bz ?_ H0.o H6.o g2 oM HB.o).mono ?_);(refine hs.f ?_;exact eA);rintro e w1 ⟨rfl,d⟩;obtain⟨y,L⟩:=d.cells;(try simp only[Bg,Ag,Yb]at y L);(have l:=d.lt (n:=b) (by first|exact f | (simp only[Yb];exact f)|(have:=l;omega)))))|((go_at_call 267;(with_reducible refine(Oo _ (O (Y ⟨b,o,I⟩) n c) ps ((i:Int)+(k:Int)) cx cz ?_ H0.o H6.o g3 oM HC.o).mono ?_);(refine hs.f ?_;exact eA);rintro e w2 ⟨rfl,t⟩;obtain⟨z,R⟩:=t.cells;(try simp only[Bg,Ag,Yb]at z R);(have ah:=t.lt (n:=b) (by first|exact f | (simp only[Yb];exact f)|(have:=l;omega)))))|((go_at_call 266;(with_reducible refine(Zu _ _ _ _ _ _ _ U x.o.1 x.o.2 u.o.1 u.o.2 af.o.1 af.o.2 HU.o).mono ?_);rintro e w3 ⟨rfl,ab⟩;obtain⟨K,aa⟩:=ab.cells;(try simp only[Bg,Ag,Yb]at K aa))))
        all_goals go_wp2
        go_roundg (n-(k+1))
        case measure=>have:=r.o;omega
        case rel =>
         refine⟨k+1,by omega,by rw[r.o];omega,by go_num,by rw[r.o],eA,fun j h2 hj=>?_⟩;by_cases aF:j=k
         ·rw[aF,an.o];simpa using ap
         ·exact ac.o j h2 oM
       ·(have aD:decide (U<=0)=true:=by simp;omega);have e:Wa ps=false:=EF (by rw[r.o];exact ag) (KN (k:=k) (by rw[r.o];exact aI) aG (by rw[an.o];simpa using ap));have E:=Aa e;clear e;go_wp2;go_region_held3 (fun W=>W.cell? ⟨b,o+i*2,I⟩=Y (C M qx)/\W.cell? ⟨b,o+i*2+1,I⟩=Y (C M qz)) ((repeat' (with_reducible refine And.intro ?_ ?_))<;>(first|(go_simp;done)|(refine d.d ?_;go_simp;done))) (first|((go_at_call 267;(with_reducible refine(Oo _ (O (Y ⟨b,o,I⟩) n c) ps ((i:Int)+1) bx bz ?_ H0.o H6.o g2 oM HB.o).mono ?_);(refine hs.f ?_;exact eA);rintro e w1 ⟨rfl,d⟩;obtain⟨y,L⟩:=d.cells;(try simp only[Bg,Ag,Yb]at y L);(have l:=d.lt (n:=b) (by first|exact f | (simp only[Yb];exact f)|(have:=l;omega)))))|((go_at_call 267;(with_reducible refine(Oo _ (O (Y ⟨b,o,I⟩) n c) ps ((i:Int)+(k:Int)) cx cz ?_ H0.o H6.o g3 oM HC.o).mono ?_);(refine hs.f ?_;exact eA);rintro e w2 ⟨rfl,t⟩;obtain⟨z,R⟩:=t.cells;(try simp only[Bg,Ag,Yb]at z R);(have ah:=t.lt (n:=b) (by first|exact f | (simp only[Yb];exact f)|(have:=l;omega)))))|((go_at_call 266;(with_reducible refine(Zu _ _ _ _ _ _ _ U x.o.1 x.o.2 u.o.1 u.o.2 af.o.1 af.o.2 HU.o).mono ?_);rintro e w3 ⟨rfl,ab⟩;obtain⟨K,aa⟩:=ab.cells;(try simp only[Bg,Ag,Yb]at K aa))))
        all_goals go_wp2
        all_goals go_ret
        exact⟨by rw[E.o];rfl,eA⟩
      ·obtain rfl:k=n-1:=oM;have ak:th ps i=true:=JN (by rw[am.o];simpa using ao) (fun j h2 hj=>ac.o j h2 (by rw[r.o]at hj;exact hj));have al:=Aa ak;clear ak;have p4:¬(((n-1:Nat):Int)<(n:Int)-1):=oM;go_wp2;go_roundg (n-(i+1))
       case measure=>have:=r.o;omega
       case rel =>
        refine⟨i+1,by rw[r.o];omega,by go_num,by rw[r.o],eA,fun j hj=>?_⟩;by_cases aE:j=i
        ·rw[aE];exact al.o
        ·exact ai.o j oM
    ·(have aC:decide (T<=0)=true:=by simp;omega);have e:Wa ps=false:=EF (by rw[r.o];exact ag) (LN (by rw[am.o];simpa using ao));have E:=Aa e;clear e;go_wp2;go_region_held3 (fun W=>W.cell? ⟨b,o+i*2,I⟩=Y (C M qx)/\W.cell? ⟨b,o+i*2+1,I⟩=Y (C M qz)) ((repeat' (with_reducible refine And.intro ?_ ?_))<;>(first|(go_simp;done)|(refine d.d ?_;go_simp;done))) (first|((go_at_call 267;(with_reducible refine(Oo _ (O (Y ⟨b,o,I⟩) n c) ps ((i:Int)-1) ax az ?_ H0.o H6.o g1 oM HA.o).mono ?_);(refine hs.f ?_;exact eA);rintro e w1 ⟨rfl,d⟩;obtain⟨y,L⟩:=d.cells;(try simp only[Bg,Ag,Yb]at y L);(have l:=d.lt (n:=b) (by first|exact f | (simp only[Yb];exact f)|(have:=l;omega)))))|((go_at_call 267;(with_reducible refine(Oo _ (O (Y ⟨b,o,I⟩) n c) ps ((i:Int)+1) bx bz ?_ H0.o H6.o g2 oM HB.o).mono ?_);(refine hs.f ?_;exact eA);rintro e w2 ⟨rfl,t⟩;obtain⟨z,R⟩:=t.cells;(try simp only[Bg,Ag,Yb]at z R);(have ah:=t.lt (n:=b) (by first|exact f | (simp only[Yb];exact f)|(have:=l;omega)))))|((go_at_call 266;(with_reducible refine(Zu _ _ _ _ _ _ _ T ae.o.1 ae.o.2 x.o.1 x.o.2 u.o.1 u.o.2 HT.o).mono ?_);rintro e w3 ⟨rfl,ab⟩;obtain⟨K,aa⟩:=ab.cells;(try simp only[Bg,Ag,Yb]at K aa))))
     all_goals go_wp2
     all_goals go_ret
     exact⟨by rw[E.o];rfl,eA⟩
   ·obtain rfl:i=n:=oM;have e:Wa ps=true:=PS (by rw[r.o];exact HW.o) (fun j hj=>ai.o j (by rw[r.o]at hj;exact hj));have E:=Aa e;clear e;go_wp2;go_ret;exact⟨by rw[E.o];rfl,eA⟩
 ·have aJ:Ra n 3 12=false:=by simpa using hw
  have e:Wa ps=false:=by unfold Wa;rw[hn,aJ];rfl
  rw[e];clear e hn au;go_in;go_wp2_with(((go_at_call 195;(with_reducible refine(ii _ n 3 12).mono ?_);rintro e w1 ⟨rfl,d⟩)));go_ret;exact⟨rfl,eA⟩
def Ze(p:Int×Int):Bool:=!Ra p.1 0 2000 || !Ra p.2 0 2000
def MD(w:Z)(x z:Int):Calls Tryz.prog 229 #[Oa #[C M x,C M z]] w fun e w'=>e=.returned (X (Ze (x,z)))/\Ba w w':=by
 by_cases h:Ra x 0 2000=true
 ·have e:Ze (x,z)=!Ra z 0 2000:=by simp[Ze,h]
  rw[e];clear e;go_in;go_wp2_with(first|((go_at_call 195;(with_reducible refine(ii _ x 0 2000).mono ?_);rw[h];rintro e r ⟨rfl,d⟩;obtain⟨⟨i,j⟩,f⟩:=Id w d))|((go_at_call 195;(with_reducible refine(ii _ z 0 2000).mono ?_);rintro e t ⟨rfl,p⟩)));go_ret;exact⟨rfl,eA⟩
 ·have l:Ra x 0 2000=false:=by simpa using h
  have e:Ze (x,z)=true:=by simp[Ze,l]
  rw[e];clear e;go_in;go_wp2_with(((go_at_call 195;(with_reducible refine(ii _ x 0 2000).mono ?_);rw[l];rintro e r ⟨rfl,d⟩;obtain⟨⟨i,j⟩,f⟩:=Id w d)));go_ret;exact⟨rfl,eA⟩
def Lc{α:Type}(f:α->Bool)(xs:List α):Int:=match xs.findIdx? f with|some i=>(i:Int)|none=>-1
def Wo{α:Type}{f:α->Bool}{xs:List α}{i:Nat}{x:α}(r:xs[i]?=Y x)(d:f x=true)(p:∀j y,j<i->xs[j]?=Y y->f y=false):Lc f xs=(i:Int):=by
 obtain⟨e,rfl⟩:=lS.1 r;have:xs.findIdx? f=Y i:=by
  rw[List.findIdx?_eq_some_iff_getElem];exact⟨e,d,fun j l=>by simpa using p j _ l (gE oM)⟩
 unfold Lc;rw[this]
def So{α:Type}{f:α->Bool}{xs:List α}(e:∀j y,j<xs.length->xs[j]?=Y y->f y=false):Lc f xs = -1:=by
 have:xs.findIdx? f=I:=by
  rw[List.findIdx?_eq_none_iff];intro x i;obtain⟨j,d⟩:=List.mem_iff_getElem?.1 i;exact e j x (lS.1 d).1 d
 unfold Lc;rw[this]
def Np{α:Type}(f:α->Bool)(xs:List α):decide (0<=Lc f xs)=xs.any f:=by
 unfold Lc;cases h:xs.findIdx? f with
 |none=>
  rw[List.findIdx?_eq_none_iff]at h;have:xs.any f=false:=by rw[List.any_eq_false];intro x j;simp[h x j]
  rw[this];rfl
 | some i =>
  rw[List.findIdx?_eq_some_iff_getElem]at h;obtain⟨e,d,_⟩:=h;have:xs.any f=true:=List.any_eq_true.2 ⟨_,List.getElem_mem e,d⟩;rw[this];simp
def RG(w:Z)(f:Int×Int->Bool)(ps:LP)(g:Nat)(d:J)(W:Z):Prop:=
 ∃i:Nat,i<=ps.length/\d=C M i/\g=ps.length-i/\Ba w W/\∀j y,j<i->ps[j]?=Y y->f y=false
def jQ(w:Z)(v:J)(ps:LP)(h:Ja w v ps):Calls Tryz.prog 265 #[v,.func (.func 229) #[] #[]] w fun e w'=>e=.returned (C M (Lc Ze ps))/\Ba w w':=by
 obtain⟨a,c,rfl⟩:=h.form;obtain⟨n,hn⟩:=gX ps.length;rw[hn]at h ⊢;have r:=h.le;unfold maxLen at r;have ab:n<=9223372036854775807:=oM;have f:=Aa hn;clear hn r;go_in;go_wp2;go_loopg [8] n (RG w Ze ps)
 case atStart=>exact⟨0,by omega,rfl,by rw[f.o];rfl,eR _,fun j y u=>by omega⟩
 case round =>
  obtain⟨i,hi,rfl,rfl,hx,l⟩:=hrel;rw[f.o]at hi;have d:=Aa l;clear l;by_cases R:i<n
  ·obtain⟨q,hq⟩:∃q,ps[i]?=Y q:=⟨ps[i]'(by rw[f.o];omega),by simp[f.o,R]⟩;obtain⟨x,z⟩:=q;obtain⟨b,o,rfl,hb,d0,d1⟩:=(h.f hx).at' hq;have Hq:=Aa hq;clear hq;by_cases K:Ze (x,z)=true
   ·have e:Lc Ze ps=(i:Int):=Wo Hq.o K d.o;have E:=Aa e;clear e;go_wp2_with(((go_at_call 229;(with_reducible refine(MD _ x z).mono ?_);rw[K];rintro e w1 ⟨rfl,aa⟩)));go_ret;exact⟨by rw[E.o];rfl,eA⟩
   ·(have p:Ze (x,z)=false:=by simpa using K);go_wp2_with(((go_at_call 229;(with_reducible refine(MD _ x z).mono ?_);rw[p];rintro e w1 ⟨rfl,aa⟩)));go_roundg (n-(i+1))
    case measure=>have:=f.o;omega
    case rel =>
     refine⟨i+1,by have:=f.o;omega,by go_num,by rw[f.o],eA,fun j y u t=>?_⟩;by_cases L:j=i
     ·subst L;rw[Hq.o]at t;cases t;exact p
     ·exact d.o j y oM t
  ·obtain rfl:i=n:=oM;have e:Lc Ze ps = -1:=So (fun j y u t=>d.o j y (by rw[f.o]at u;exact u) t);have E:=Aa e;clear e;go_wp2;go_ret;exact⟨by rw[E.o];rfl,hx⟩
def yP(w:Z)(v:J)(ps:LP)(h:Ja w v ps):Calls Tryz.prog 230 #[v,.func (.func 229) #[] #[]] w fun e w'=>e=.returned (X (ps.any Ze))/\Ba w w':=by rw[<-Np];obtain⟨x,f⟩:=gX (Lc Ze ps);have d:=fun W (j:Ba w W)=>jQ W v ps (h.f j);rw[f]at *;have i:=Aa d;clear d f;go_in;go_wp2_with(((go_at_call 265;refine cM (i.o _ eA) ?_;rintro e p ⟨rfl,l⟩)));go_ret;exact⟨rfl,eA⟩
def Fh:List Int->Int
 | []=>0
 | x::xs=>if x=0 then Fh xs else x
def Jw:∀{xs:List Int}{i:Nat}{x:Int},xs[i]?=Y x->x≠0->(∀j y,j<i->xs[j]?=Y y->y=0)->Fh xs=x
 | [],_,_,h,_,_=>by simp at h
 | y::ys,0,x,h,h0,_=>by simp at h;subst h;simp[Fh,h0]
 | y::ys,i+1,x,h,h0,hn=>by
  have d:y=0:=hn 0 y oM rfl;rw[Fh,if_pos d];exact Jw (by simpa using h) h0 (fun j z f e=>hn (j+1) z oM (by simpa using e))
def iy:∀{xs:List Int},(∀(j:Nat)(y:Int),xs[j]?=Y y->y=0)->Fh xs=0
 | [],_=>rfl
 | y::ys,h=>by rw[Fh,if_pos (h 0 y rfl)];exact iy (fun j z d=>h (j+1) z (by simpa using d))
def NU(w:Z)(xs:List Int)(g:Nat)(d:J)(W:Z):Prop:=
 ∃i:Nat,i<=xs.length/\d=C M i/\g=xs.length-i/\Ba w W/\∀j y,j<i->xs[j]?=Y y->y=0
def yH(w:Z)(v:J)(xs:List Int)(h:Jc 3 w v xs):Calls Tryz.prog 109 #[v] w fun e w'=>e=.returned (C M (Fh xs))/\Ba w w':=by
 obtain⟨a,c,rfl⟩:=h.form;obtain⟨n,L⟩:=gX xs.length;rw[L]at h ⊢;have t:=h.le;unfold maxLen at t;have ad:n<=9223372036854775807:=oM;have f:=Aa L;clear L t;go_in;go_wp2;go_loopg [8] n (NU w xs)
 case atStart=>exact⟨0,by omega,rfl,by rw[f.o];rfl,eR _,fun j y hj=>by omega⟩
 case round =>
  obtain⟨i,hi,rfl,rfl,u,l⟩:=hrel;rw[f.o]at hi;have d:=Aa l;clear l;by_cases K:i<n
  ·obtain⟨x,R⟩:∃x,xs[i]?=Y x:=⟨xs[i]'(by rw[f.o];omega),by simp[f.o,K]⟩;obtain⟨b,o,rfl,hb,hc⟩:=(h.ext u).open (by rw[f.o];omega);have ac:=hc i x R;have Hq:=Aa R;clear R hc;by_cases r:x=0
   ·subst r;go_wp2;go_roundg (n-(i+1))
    case measure=>have:=f.o;omega
    case rel =>
     refine⟨i+1,by have:=f.o;omega,by go_num,by rw[f.o],u,fun j y hj p=>?_⟩;by_cases z:j=i
     ·subst z;rw[Hq.o]at p;cases p;rfl
     ·exact d.o j y oM p
   ·have e:Fh xs=x:=Jw Hq.o r d.o;have E:=Aa e;(have aa:(x != 0)=true:=by simpa using r);(have ab:(x==0)=false:=by simpa using r);clear e r;go_wp2;go_ret;exact⟨by rw[E.o];rfl,u⟩
  ·obtain rfl:i=n:=oM;have e:Fh xs=0:=iy (fun j y p=>d.o j y (by have:=(lS.1 p).1;rw[f.o]at this;exact this) p);have E:=Aa e;clear e;go_wp2;go_ret;exact⟨by rw[E.o];rfl,u⟩
def AO(w:Z)(v:J)(xs:List Int)(h:Jc 3 w v xs):Calls Tryz.prog 268 #[v] w fun e w'=>e=.returned (C M (Fh xs))/\Ba w w':=by obtain⟨x,f⟩:=gX (Fh xs);have d:=fun W (j:Ba w W)=>yH W v xs (h.ext j);rw[f]at *;have i:=Aa d;clear d f;go_in;go_wp2_with(((go_at_call 109;refine cM (i.o _ eA) ?_;rintro e p ⟨rfl,l⟩)));go_ret;exact⟨rfl,eA⟩
def tl(p q:Int×Int):Int:=Fh [Fc p.2 q.2,Fc p.1 q.1]
def Nt(W:Z)(x y:Int):Jc 3 (W.alloc (Ob #[C M x,C M y] 3)) (O (Y ⟨W.heap.size,0,I⟩) 2 2) [x,y]:=by
 refine⟨rfl,_,_,rfl,nE _,by unfold maxLen;omega,.inr ⟨W.heap.size,0,_,_,rfl,aN W _,?_⟩⟩;intro i v hv
 match i,hv with
 | 0,hv=>simpa[nc] using hv
 | 1,hv=>simpa[nc] using hv
 | i+2,hv=>simp[nc]at hv
def FO(w:Z)(d f i j:Int):Calls Tryz.prog 234 #[Oa #[C M d,C M f],Oa #[C M i,C M j]] w fun e w'=>e=.returned (C M (tl (d,f) (i,j)))/\Ba w w':=by
 obtain⟨r,t⟩:=gX (tl (d,f) (i,j));rw[t];have HR:Va (Fh [Fc f j,Fc d i]=r):=Aa t;clear t;go_in;go_wp2;go_region_held3 (fun W=>W.cell? ⟨w.heap.size,0,I⟩=Y (C M d)/\W.cell? ⟨w.heap.size,1,I⟩=Y (C M f)/\W.cell? ⟨w.heap.size+1,0,I⟩=Y (C M i)/\W.cell? ⟨w.heap.size+1,1,I⟩=Y (C M j)) ((repeat' (with_reducible refine And.intro ?_ ?_))<;>(first|(go_simp;done)|(refine hx1.d ?_;go_simp;done))) (first|((go_at_call 269;(with_reducible refine(mG _ f j).mono ?_);rintro e w1 ⟨rfl,hx1⟩;obtain⟨⟨ac,af⟩,z,K⟩:=Mb w hx1))|((go_at_call 269;(with_reducible refine(mG _ d i).mono ?_);rintro e y ⟨rfl,u⟩;obtain⟨⟨ad,ag⟩,L,R⟩:=Mb w u;have l:w.heap.size<y.heap.size+1:=oM;have p:w.heap.size+1<y.heap.size+1:=oM))|((go_at_call 268;(with_reducible refine(AO _ (O (Y ⟨y.heap.size,0,I⟩) 2 2) [Fc f j,Fc d i] ?_).mono ?_);(refine Nt _ _ _);rw[HR.o];rintro e w3 ⟨rfl,x⟩;obtain⟨⟨ae,ah⟩,aa,ab⟩:=Mb w x)))
 all_goals go_wp2
 go_ret;exact⟨rfl,eA⟩
