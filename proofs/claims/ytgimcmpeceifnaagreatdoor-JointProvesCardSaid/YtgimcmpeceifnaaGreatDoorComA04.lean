import Derived.Test.YtgimcmpeceifnaaGreatDoorComA03
import Derived.Deep.LoopGhost
import Derived.Deep.CutBlock
import Derived.Deep.DeepCutAuto
import Derived.RangeFuncNested
import Derived.RangeFuncBound
import Derived.RangeFuncCalls
import Derived.RangeFuncLeaves
import Derived.Shelf.Abstract
import Derived.Shelf.RegionOpen
import Derived.TacticsInMore
import Derived.LoopNIn
import Derived.LoopIn
import Derived.Sort.LoopGhostIn
import Derived.Shelf.SlSortCmp.WholeK
import Derived.ProofKit
import Derived.Deep.Slices
set_option maxRecDepth 1000000
set_option maxHeartbeats 16000000
set_option linter.all false
open Go.Value renaming slice->O,bool->X,int->C,agg->Oa,tuple->Oe
open Option renaming some->Y,none->I
open Go renaming World->Z,Value->J,Act->Oc,Addr->Od
open Go.IntKind renaming i64->M
open Go.Obj renaming cells->Ob
namespace Go.Proofs.YtgimcmpeceifnaaGreatDoor.Cop
section
open Go.RowKit Go.Shelf
def xM w va vb x y(u:re w va x)(z:re w vb y)(d:Lm Rc x)(f:Lm Rc y):Calls Tryz.prog 290 #[va,vb] w (lk w (Int.gcd x y:Nat)):=by
 obtain⟨a,m,c,s,rfl⟩:=u.form;obtain⟨a',m',c',s',rfl⟩:=z.form;have R:=u.dig;have aa:=z.dig;have r:=za d.abs;have t:=za f.abs;clear d f u z;have e:(Int.gcd x y:Int)=(Int.gcd (x.natAbs:Int) (y.natAbs:Int):Nat):=by simp[Int.gcd]
 rw[e];clear e;go_in;go_wp2_with(first|((go_at_call 308;(with_reducible refine(uS _ (Oa #[O a m c]) (Oa #[O a' m' c']) x.natAbs y.natAbs ?_ ?_ r.o t.o).mono ?_);(refine R.ext ?_;exact eA);(refine aa.ext ?_;exact eA);rintro e w1 ⟨r1,rfl,i,ab⟩;obtain⟨a1,m1,c1,rfl⟩:=i.form;obtain⟨⟨K,ah⟩,ad,ae,l⟩:=Sb w ab))|((go_at_call 278;(with_reducible refine(Bt _ false (Oa #[O a1 m1 c1]) (Int.gcd (x.natAbs:Int) (y.natAbs:Int):Nat) ?_).mono ?_);(refine i.ext ?_;exact eA);rintro e w2 ⟨r2,rfl,j,ac⟩;obtain⟨a2,m2,c2,s2,rfl⟩:=j.form;obtain⟨⟨L,ai⟩,af,ag,p⟩:=Sb w ac)));exact bR (v:=Oa #[O a2 m2 c2,X s2]) (by simp[results,Tryz.results290,go_sem,K,L,l,p]) rfl ⟨_,rfl,j.keep kA,eA⟩
def Xn(w:Z)(d:J)(e:Bool)(q r:Int)(W:Z):Prop:=
 Ba w W/\W.heap[w.heap.size+1]?=Y (Ob #[d,X e] 179 (0,0))/\
 ∃aq mq cq sq ar mr cr sr,W.heap[w.heap.size+1+1]?=Y (Ob #[O aq mq cq,X sq] 179 (0,0))/\re W (Oa #[O aq mq cq,X sq]) q/\
  W.heap[w.heap.size+1+1+1]?=Y (Ob #[O ar mr cr,X sr] 179 (0,0))/\re W (Oa #[O ar mr cr,X sr]) r
def fH(w:Z)(d:J)(e:Bool)(x y:Int)(_:J)(W:Z):Prop:=∃q,Xn w d e q (x%y) W/\(if e then -q else q)=x/y
def yL{x y} s t(l:s=decide (x<0))(z:t=decide (y<0))(K:y≠0)(h:s=false\/(x.natAbs:Int)%(y.natAbs:Int)=0):(if t then -(sg s ((x.natAbs:Int)/(y.natAbs:Int)))else sg s ((x.natAbs:Int)/(y.natAbs:Int)))=x/y/\(x.natAbs:Int)%(y.natAbs:Int)=x%y:=by
 have u:x%y=x%(y.natAbs:Int):=by
  rcases Int.natAbs_eq y with h|h
  ·rw[<-h]
  ·conv=>lhs;rw[h,Int.emod_neg]
 have e:s=false->(x.natAbs:Int)=x:=fun h=>by subst l;simp at h;omega
 have d:s=true->(x.natAbs:Int) = -x:=fun h=>by subst l;simp at h;omega
 have r:x/y=if t then -(x/(y.natAbs:Int))else x/(y.natAbs:Int):=by
  subst z;by_cases h:y<0
  ·simp only[h,decide_true,if_true];rw[show (y.natAbs:Int) = -y by omega,Int.ediv_neg,Int.neg_neg]
  ·simp only[h,decide_false,Bool.false_eq_true,if_false];rw[show (y.natAbs:Int)=y by omega]
 have f:(y.natAbs:Int)≠0:=oM;rw[r,u];cases s
 ·rw[e rfl];simp[sg]
 ·rw[d rfl]at h ⊢;have i:(-x)%(y.natAbs:Int)=0:=by rcases h with h|h;cases h;exact h
  have j:x%(y.natAbs:Int)=0:=by
   have:=Int.dvd_of_emod_eq_zero i;exact Int.emod_eq_zero_of_dvd (by simpa using Int.dvd_neg.2 this)
  refine⟨?_,by rw[i,j]⟩;have p:(-x)/(y.natAbs:Int) = -(x/(y.natAbs:Int)):=by
   apply Int.ediv_eq_of_eq_mul_left f;rw[Int.neg_mul,Int.ediv_mul_cancel (Int.dvd_of_emod_eq_zero j)]
  simp[sg,p]
def BA(w:Z)(q r:Int)(e:Ending)(w':Z):Prop:=∃vq vr,e=.returned (Oe #[vq,vr,C M 0])/\re w' vq q/\re w' vr r/\Ba w w'
def Xn.ext{w d e q r W W'}(h:Xn w d e q r W)(k:Ba W W'):Xn w d e q r W':=by obtain⟨p,t,f,z,j,L,i,K,l,R,u,x,y,h6⟩:=h;exact⟨p.trans k,k.e t,f,z,j,L,i,K,l,R,k.e u,x.ext k,k.e y,h6.ext k⟩
def Dk{W:Z}{g x y T d}(h:W.heap[g]?=Y (Ob #[x,y] T d)) u v:((W.setCell ⟨g,0,I⟩ u).setCell ⟨g,1,I⟩ v).heap[g]?=Y (Ob #[u,v] T d):=by simp[World.setCell,Array.getElem?_modify,h]
def Wo{W:Z}{g i v}(h:W.cell? ⟨g,i,I⟩=Y v):W.setCell ⟨g,i,I⟩ v=W:=by
 have e:(W.setCell ⟨g,i,I⟩ v).heap=W.heap:=by
  apply Array.ext_getElem?;intro k;by_cases d:k=g
  ·subst d;simp only[World.setCell,Array.getElem?_modify,if_pos];unfold World.cell? at h;cases hw:W.heap[k]? with
   | none=>rfl
   | some o =>
    cases o with
    | cells cs T l =>
     simp[hw]at h;have:cs.setIfInBounds i v=cs:=by
      apply Array.ext_getElem?;intro j;rw[Array.getElem?_setIfInBounds];split
      ·subst_vars
       split
       ·exact h.symm
       ·rename_i h2;rw[Array.getElem?_eq_none oM]
      ·rfl
     simp[this]
    | _=>simp
  ·exact bS _ _ _ _ d
 have f:W.setCell ⟨g,i,I⟩ v={ W with heap:=(W.setCell ⟨g,i,I⟩ v).heap }:=rfl;rw[f,e]
def Lb{W:Z}{g cs T d}(h:W.heap[g]?=Y (Ob cs T d)){i u}(hi:cs[i]?=Y u):W.cell? ⟨g,i,I⟩=Y u:=by simp[World.cell?,h,hi]
def Aa{W:Z}{g cs T d}(h:W.heap[g]?=Y (Ob cs T d)) i u(hi:cs[i]?=Y u:=by rfl):W.cell? ⟨g,i,I⟩=Y u:=Lb h hi
def Za{W:Z}{g cs T}(h:W.heap[g]?=Y (Ob cs T (0,0))) i:W.frozen? ⟨g,i,I⟩=false:=by simp[World.frozen?,h]
def Xn.setQ{w d t q p r W}(h:Xn w d t q r W){a m c s}(L:re W (Oa #[O a m c,X s]) p):Xn w d t p r ((W.setCell ⟨w.heap.size+1+1,0,I⟩ (O a m c)).setCell ⟨w.heap.size+1+1,1,I⟩ (X s)):=by
 obtain⟨y,z,aq,mq,cq,sq,u,R,x,sr,i,h4,K,h6⟩:=h;have f:∀k,k≠w.heap.size+1+1->((W.setCell ⟨w.heap.size+1+1,0,I⟩ (O a m c)).setCell ⟨w.heap.size+1+1,1,I⟩ (X s)).heap[k]?=W.heap[k]?:=fun k f=>by rw[bS _ _ _ _ f,bS _ _ _ _ f]
 have l:ud 2 W (w.heap.size+1+1):=fun cs fr e=>by rw[i]at e;cases e
 have j:Ja 2 W ((W.setCell ⟨w.heap.size+1+1,0,I⟩ (O a m c)).setCell ⟨w.heap.size+1+1,1,I⟩ (X s)):=((Ja.refl _ W).y l _).y (l.set _ _) _;exact⟨(y.set dO _).set dO _,(f _ oM).trans z,a,m,c,s,u,R,x,sr,Dk i _ _,L.keep j,(f _ oM).trans K,h6.keep j⟩
def MD w va vb x y(ha:re w va x)(hb:re w vb y)(aw:Lm fe x)(ax:Lm fe y)(hy:y≠0)(aV:0<=x\/y ∣ x):Calls Tryz.prog 291 #[va,vb] w (BA w (x/y) (x%y)):=by
 obtain⟨a,m,c,s,rfl⟩:=ha.form;obtain⟨K,R,L,u,rfl⟩:=hb.form;have ap:=za ha.sgn;have aP:=za hb.sgn;have aS:=ha.dig;have av:=hb.dig;have aM:=za aw.abs;have aO:=za ax.abs;have bD:((y.natAbs:Int)==0)=false:=by simp;omega
 have aW:0<(y.natAbs:Int):=oM;clear aw ax ha;go_in;go_wp2_with(first|((go_at_call 273;(with_reducible refine(Im _ (Oa #[O K R L]) y.natAbs ?_).mono ?_);(refine av.ext ?_;exact eA);rintro e w1 ⟨rfl,aC⟩;obtain⟨⟨bs,bx⟩,a1,a6,a7,a8⟩:=ku w aC))|((go_at_call 309;(with_reducible refine(MN _ (Oa #[O a m c]) (Oa #[O K R L]) x.natAbs y.natAbs ?_ ?_ aM.o aO.o aW).mono ?_);(refine aS.ext ?_;exact eA);(refine av.ext ?_;exact eA);rintro e w2 ⟨r2,r3,rfl,az,al,aU⟩;obtain⟨a2,m2,c2,rfl⟩:=az.u.form;obtain⟨a3,m3,c3,rfl⟩:=al.u.form;obtain⟨⟨bt,bz⟩,ba,bb,bc,be⟩:=ku w aU;have aE:w.heap.size<w2.heap.size+1:=oM;have aF:w.heap.size<w2.heap.size+1+1:=oM;have aG:w.heap.size+1<w2.heap.size+1:=oM;have aH:w.heap.size+1<w2.heap.size+1+1:=oM;have aI:w.heap.size+1+1<w2.heap.size+1:=oM;have aJ:w.heap.size+1+1<w2.heap.size+1+1:=oM;have aK:w.heap.size+1+1+1<w2.heap.size+1:=oM;have aL:w.heap.size+1+1+1<w2.heap.size+1+1:=oM)));go_region_held3 (fun W=>W.cell? ⟨w.heap.size,1,I⟩=Y (X s)/\W.cell? ⟨w2.heap.size,0,I⟩=Y (O a2 m2 c2)/\W.cell? ⟨w2.heap.size+1,0,I⟩=Y (O a3 m3 c3)) ((repeat' (with_reducible refine And.intro ?_ ?_))<;>(first|(go_simp;done)|(refine aC.d ?_;go_simp;done))) (first|((go_at_call 278;(with_reducible refine(Bt _ s (Oa #[O a2 m2 c2]) ((x.natAbs:Int)/(y.natAbs:Int)) ?_).mono ?_);(refine az.u.ext ?_;exact eA);rintro e w3 ⟨r4,rfl,aA,am⟩;obtain⟨a4,m4,c4,s4,rfl⟩:=aA.form;obtain⟨⟨bu,bA⟩,bf,bg,bh,bi⟩:=ku w am;have aX:=am.lt (n:=w2.heap.size) (by go_simp);have aY:=am.lt (n:=w2.heap.size+1) (by go_simp)))|((go_at_call 278;(with_reducible refine(Bt _ false (Oa #[O a3 m3 c3]) ((x.natAbs:Int)%(y.natAbs:Int)) ?_).mono ?_);(refine al.u.ext ?_;exact eA);rintro e i ⟨r5,rfl,aB,an⟩;obtain⟨a5,m5,c5,s5,rfl⟩:=aB.form;obtain⟨⟨bv,bB⟩,bj,bk,bl,bm⟩:=ku w an;have aZ:=an.lt (n:=w2.heap.size) (by go_simp);have a0:=an.lt (n:=w2.heap.size+1) (by go_simp))));have au:=al.u.ext (w':=i) eA;have aa:Ba ((((w.alloc (Ob #[O a m c,X s] 179)).alloc (Ob #[O K R L,X u] 179)).alloc (Ob #[O I 0 0,X false] 179)).alloc (Ob #[O I 0 0,X false] 179)) i:=eA;have ay:Xn w (O K R L) u (sg s ((x.natAbs:Int)/(y.natAbs:Int))) ((x.natAbs:Int)%(y.natAbs:Int)) ((((i.setCell ⟨w.heap.size+1+1,0,I⟩ (O a4 m4 c4)).setCell ⟨w.heap.size+1+1,1,I⟩ (X s4)).setCell ⟨w.heap.size+1+1+1,0,I⟩ (O a5 m5 c5)).setCell ⟨w.heap.size+1+1+1,1,I⟩ (X s5)):=by
  have aa:Ba ((((w.alloc (Ob #[O a m c,X s] 179)).alloc (Ob #[O K R L,X u] 179)).alloc (Ob #[O I 0 0,X false] 179)).alloc (Ob #[O I 0 0,X false] 179)) i:=eA;have e1:i.heap[w.heap.size+1]?=Y (Ob #[O K R L,X u] 179 (0,0)):=aa.e (by rw[tg,tg,tg];simp);have e2:i.heap[w.heap.size+1+1]?=Y (Ob #[O I 0 0,X false] 179 (0,0)):=aa.e (by rw[tg,tg];simp);have e3:i.heap[w.heap.size+1+1+1]?=Y (Ob #[O I 0 0,X false] 179 (0,0)):=aa.e (by rw[tg];simp);have k1:∀k,k≠w.heap.size+1+1->((i.setCell ⟨w.heap.size+1+1,0,I⟩ (O a4 m4 c4)).setCell ⟨w.heap.size+1+1,1,I⟩ (X s4)).heap[k]?=i.heap[k]?:=fun k hk=>by rw[bS _ _ _ _ hk,bS _ _ _ _ hk]
  have k2:∀(W:Z) k,k≠w.heap.size+1+1+1->((W.setCell ⟨w.heap.size+1+1+1,0,I⟩ (O a5 m5 c5)).setCell ⟨w.heap.size+1+1+1,1,I⟩ (X s5)).heap[k]?=W.heap[k]?:=fun W k hk=>by rw[bS _ _ _ _ hk,bS _ _ _ _ hk]
  have n2:ud 2 i (w.heap.size+1+1):=fun cs fr e=>by rw[e2]at e;cases e
  have n3:ud 2 i (w.heap.size+1+1+1):=fun cs fr e=>by rw[e3]at e;cases e
  have hK:Ja 2 i ((((i.setCell ⟨w.heap.size+1+1,0,I⟩ (O a4 m4 c4)).setCell ⟨w.heap.size+1+1,1,I⟩ (X s4)).setCell ⟨w.heap.size+1+1+1,0,I⟩ (O a5 m5 c5)).setCell ⟨w.heap.size+1+1+1,1,I⟩ (X s5)):=
   ((((Ja.refl _ i).y n2 _).y (n2.set _ _) _).y ((n3.set _ _).set _ _) _).y (((n3.set _ _).set _ _).set _ _) _
  exact⟨eA,((k2 _ _ oM).trans (k1 _ oM)).trans e1,a4,m4,c4,s4,a5,m5,c5,s5,(k2 _ _ oM).trans (Dk e2 _ _),(aA.ext eA).keep hK,Dk ((k1 _ oM).trans e3) _ _,aB.keep hK⟩
 have aQ:Nd ((((i.setCell ⟨w.heap.size+1+1,0,I⟩ (O a4 m4 c4)).setCell ⟨w.heap.size+1+1,1,I⟩ (X s4)).setCell ⟨w.heap.size+1+1+1,0,I⟩ (O a5 m5 c5)).setCell ⟨w.heap.size+1+1+1,1,I⟩ (X s5)) (Oa #[O a3 m3 c3]) ((x.natAbs:Int)%(y.natAbs:Int)):=by
  refine au.keep ?_;have e2:i.heap[w.heap.size+1+1]?=Y (Ob #[O I 0 0,X false] 179 (0,0)):=aa.e (by rw[tg,tg];simp);have e3:i.heap[w.heap.size+1+1+1]?=Y (Ob #[O I 0 0,X false] 179 (0,0)):=aa.e (by rw[tg];simp);have n2:ud 2 i (w.heap.size+1+1):=fun cs fr e=>by rw[e2]at e;cases e
  have n3:ud 2 i (w.heap.size+1+1+1):=fun cs fr e=>by rw[e3]at e;cases e
  exact((((Ja.refl _ i).y n2 _).y (n2.set _ _) _).y ((n3.set _ _).set _ _) _).y (((n3.set _ _).set _ _).set _ _) _
 have ao:=za ay;clear ay;by_cases hA:s=false\/(x.natAbs:Int)%(y.natAbs:Int)=0
 ·have ak:=yL s u ap.o aP.o hy hA;have z:=za ak;clear ak;cases s
  ·go_upto_if 34 with fail;go_cut [38] (fH w (O K R L) u x y)
   case first =>
    go_wp2;go_meet;exact⟨_,by rw[<-z.o.2];exact ao.o,z.o.1⟩
   case rest =>
    obtain⟨q,hS,hq⟩:=hcut;have HS:=za hS;obtain⟨hx,j,aq,mq,cq,sq,ar,mr,cr,sr,d,h4,f,h6⟩:=hS;have b0:=Aa j 0 (O K R L);have b1:=Aa j 1 (X u);have q0:=Aa d 0 (O aq mq cq);have q1:=Aa d 1 (X sq);have r0:=Aa f 0 (O ar mr cr);have r1:=Aa f 1 (X sr);have ac:=Za d 0;have ad:=Za d 1;have ae:=Za f 0;have af:=Za f 1;have ai:=Ya d;have aj:=Ya f;have ab:=za j;clear d f j;go_upto_if 43 with fail;go_cut [44] (fun _ W=>Xn w (O K R L) u (x/y) (x%y) W)
    case first =>
     cases u
     ·go_wp2;go_meet;simp at hq;rw[<-hq];exact HS.o
     ·go_wp2_with(first|((go_at_call 287;(with_reducible refine(Av _ (Oa #[O aq mq cq,X sq]) q ?_).mono ?_);(refine h4.ext ?_;exact eA);rintro e w9 ⟨r9,rfl,ag,ah⟩;obtain⟨a9,m9,c9,s9,rfl⟩:=ag.form;obtain⟨aR,aT⟩:=ah.cells)));go_meet;simp at hq;rw[<-hq];exact(HS.o.ext ah).setQ ag
    case rest =>
     clear hx h4 h6 b0 b1 q0 q1 r0 r1 ac ad ae af ai aj HS hq ab;obtain⟨wd,rfl⟩:∃W,W=wc:=⟨_,rfl⟩;have hS:=hcut;have HS:=za hS;obtain⟨hx,j,aq,mq,cq,sq,ar,mr,cr,sr,d,h4,f,h6⟩:=hS;have b0:=Aa j 0 (O K R L);have b1:=Aa j 1 (X u);have q0:=Aa d 0 (O aq mq cq);have q1:=Aa d 1 (X sq);have r0:=Aa f 0 (O ar mr cr);have r1:=Aa f 1 (X sr);have ac:=Za d 0;have ad:=Za d 1;have ae:=Za f 0;have af:=Za f 1;have ai:=Ya d;have aj:=Ya f;have ab:=za j;clear d f j;have l:=Wo q0;have p:=Wo q1;have r:=Wo r0;have t:=Wo r1;go_wp2
     go_region_with (fail)
     all_goals go_wp2
     all_goals exact bR (v:=Oe #[Oa #[O aq mq cq,X sq],Oa #[O ar mr cr,X sr],C M 0]) (by simp[results,Tryz.results291,go_sem,q0,q1,r0,r1,l,p,r,t]) rfl ⟨_,_,rfl,by(try simp only[l,p,r,t]);exact h4.ext eA,by(try simp only[l,p,r,t]);exact h6.ext eA,by(try simp only[l,p,r,t]);(repeat(first|with_reducible assumption|with_reducible refine Ba.drew ?_))⟩
  ·have h0:(x.natAbs:Int)%(y.natAbs:Int)=0:=by simpa using hA
   have br:((x.natAbs:Int)%(y.natAbs:Int)==0)=true:=by simpa using h0
   have H0:=za h0;clear h0 hA;go_upto_if 34 with (first|((go_at_call 273;(with_reducible refine(Im _ (Oa #[O a3 m3 c3]) ((x.natAbs:Int)%(y.natAbs:Int)) ?_).mono ?_);(refine aQ.ext ?_;exact eA);rintro e w5 ⟨rfl,aD⟩;obtain⟨⟨bw,bC⟩,bn,bo,bp,bq⟩:=ku w aD)));go_cut [38] (fH w (O K R L) u x y)
   case first =>
    go_wp2;go_meet;exact⟨_,by rw[<-z.o.2];exact ao.o.ext aD,z.o.1⟩
   case rest =>
    obtain⟨q,hS,hq⟩:=hcut;have HS:=za hS;obtain⟨hx,j,aq,mq,cq,sq,ar,mr,cr,sr,d,h4,f,h6⟩:=hS;have b0:=Aa j 0 (O K R L);have b1:=Aa j 1 (X u);have q0:=Aa d 0 (O aq mq cq);have q1:=Aa d 1 (X sq);have r0:=Aa f 0 (O ar mr cr);have r1:=Aa f 1 (X sr);have ac:=Za d 0;have ad:=Za d 1;have ae:=Za f 0;have af:=Za f 1;have ai:=Ya d;have aj:=Ya f;have ab:=za j;clear d f j;go_upto_if 43 with fail;go_cut [44] (fun _ W=>Xn w (O K R L) u (x/y) (x%y) W)
    case first =>
     cases u
     ·go_wp2;go_meet;simp at hq;rw[<-hq];exact HS.o
     ·go_wp2_with(first|((go_at_call 287;(with_reducible refine(Av _ (Oa #[O aq mq cq,X sq]) q ?_).mono ?_);(refine h4.ext ?_;exact eA);rintro e w9 ⟨r9,rfl,ag,ah⟩;obtain⟨a9,m9,c9,s9,rfl⟩:=ag.form;obtain⟨aR,aT⟩:=ah.cells)));go_meet;simp at hq;rw[<-hq];exact(HS.o.ext ah).setQ ag
    case rest =>
     clear hx h4 h6 b0 b1 q0 q1 r0 r1 ac ad ae af ai aj HS hq ab;obtain⟨wd,rfl⟩:∃W,W=wc:=⟨_,rfl⟩;have hS:=hcut;have HS:=za hS;obtain⟨hx,j,aq,mq,cq,sq,ar,mr,cr,sr,d,h4,f,h6⟩:=hS;have b0:=Aa j 0 (O K R L);have b1:=Aa j 1 (X u);have q0:=Aa d 0 (O aq mq cq);have q1:=Aa d 1 (X sq);have r0:=Aa f 0 (O ar mr cr);have r1:=Aa f 1 (X sr);have ac:=Za d 0;have ad:=Za d 1;have ae:=Za f 0;have af:=Za f 1;have ai:=Ya d;have aj:=Ya f;have ab:=za j;clear d f j;have l:=Wo q0;have p:=Wo q1;have r:=Wo r0;have t:=Wo r1;go_wp2
     go_region_with (fail)
     all_goals go_wp2
     all_goals exact bR (v:=Oe #[Oa #[O aq mq cq,X sq],Oa #[O ar mr cr,X sr],C M 0]) (by simp[results,Tryz.results291,go_sem,q0,q1,r0,r1,l,p,r,t]) rfl ⟨_,_,rfl,by(try simp only[l,p,r,t]);exact h4.ext eA,by(try simp only[l,p,r,t]);exact h6.ext eA,by(try simp only[l,p,r,t]);(repeat(first|with_reducible assumption|with_reducible refine Ba.drew ?_))⟩
 ·exfalso;rcases aV with h|h
  ·exact hA (.inl (by rw[ap.o];simp;omega))
  ·exact hA (.inr (Int.emod_eq_zero_of_dvd (by simpa using Int.natAbs_dvd.2 (Int.dvd_natAbs.2 h))))
def Fb(w:Z)(v:J)(q:Rat):Prop:=
 ∃a m c s a2 m2 c2,v=Oa #[O a m c,X s,O a2 m2 c2]/\re w (Oa #[O a m c,X s]) q.num/\Nd w (Oa #[O a2 m2 c2]) ((q.den:Int)-1)
section
variable {w w':Z} {v:J} {q:Rat} {a a2:Option Od} {m c m2 c2:Nat} {s:Bool}
def Fb.ext(h:Fb w v q)(k:Ba w w'):Fb w' v q:=by obtain⟨a,m,c,s,a2,m2,c2,rfl,d,e⟩:=h;exact⟨a,m,c,s,a2,m2,c2,rfl,d.ext k,e.ext k⟩
def Fb.keep(h:Fb w v q)(k:Ja 2 w w'):Fb w' v q:=by obtain⟨a,m,c,s,a2,m2,c2,rfl,d,e⟩:=h;exact⟨a,m,c,s,a2,m2,c2,rfl,d.keep k,e.keep k⟩
def Fb.form(h:Fb w v q):∃a m c s a2 m2 c2,v=Oa #[O a m c,X s,O a2 m2 c2]:=by obtain⟨a,m,c,s,a2,m2,c2,rfl,d,e⟩:=h;exact⟨a,m,c,s,a2,m2,c2,rfl⟩
def Fb.top(h:Fb w (Oa #[O a m c,X s,O a2 m2 c2]) q):re w (Oa #[O a m c,X s]) q.num:=by obtain⟨a,m,c,s,a2,m2,c2,e,d,f⟩:=h;cases e;exact d
def Fb.rest(h:Fb w (Oa #[O a m c,X s,O a2 m2 c2]) q):Nd w (Oa #[O a2 m2 c2]) ((q.den:Int)-1):=by obtain⟨a,m,c,s,a2,m2,c2,e,f,d⟩:=h;cases e;exact d
def Fb.mk(d:re w (Oa #[O a m c,X s]) q.num)(e:Nd w (Oa #[O a2 m2 c2]) ((q.den:Int)-1)):Fb w (Oa #[O a m c,X s,O a2 m2 c2]) q:=
 ⟨_,_,_,_,_,_,_,rfl,d,e⟩
def Nd.nil w:Nd w (Oa #[O I 0 0]) 0:=⟨_,[],rfl,Mc.nil _ _,Cg.nil _,rfl⟩
def Fb.zero w:Fb w (Oa #[O I 0 0,X false,O I 0 0]) 0:=Fb.mk (re.nil w) (Nd.nil w)
end
def Rb(k:Nat)(q:Rat):Prop:=Lm k q.num/\Lm k (q.den:Int)
def Rb.mono{j k q}(h:Rb j q)(d:j<=k):Rb k q:=⟨h.1.mono d,h.2.mono d⟩
def jg(w:Z)(q:Rat)(e:Ending)(w':Z):Prop:=∃r,e=.returned r/\Fb w' r q/\Ba w w'
def kd:Nat:=1000000
def Xg(q:Rat):0<(q.den:Int):=by have:=q.den_pos;omega
def qr{k}(d:1<=k):Lm k 1:=Lm.mono (j:=1) (by unfold Lm B;omega) d
def Us w v q(h:Fb w v q):Calls Tryz.prog 201 #[v] w fun e w'=>e=.returned (C M q.num.sign)/\Ba w w':=by obtain⟨a,m,c,s,a2,m2,c2,rfl⟩:=h.form;go_in;go_wp2_with(((go_at_call 244;(with_reducible refine(xO _ (Oa #[O a m c,X s]) q.num ?_).mono ?_);(refine h.top.ext ?_;exact eA);rintro e l ⟨rfl,d⟩;obtain⟨⟨i,j⟩,f⟩:=Jd w d)));go_ret;exact⟨rfl,eA⟩
def Sy w v q(h:Fb w v q)(t:Rb kd q):Calls Tryz.prog 252 #[v] w (Rg w (q.den:Int)):=by
 obtain⟨a,m,c,s,a2,m2,c2,rfl⟩:=h.form;have ac:=Xg q;have z:Ua (Lm Rc ((q.den:Int)-1)):=za ((t.2.mono dM).le oM oM);have y:Ua (Lm Rc 1):=za (qr dM);have hr:=h.rest;clear t h;go_in;go_wp2;go_region_held3 (fun W=>W.cell? ⟨w.heap.size,2,I⟩=Y (O a2 m2 c2)) ((repeat' (with_reducible refine And.intro ?_ ?_))<;>(first|(go_simp;done)|(refine hx1.d ?_;go_simp;done))) (first|((go_at_call 281;(with_reducible refine(lB _ 1 dM dM).mono ?_);rintro e w1 ⟨r1,rfl,d,hx1,aa⟩;obtain⟨K,m1,R,rfl⟩:=d.u.form;obtain⟨⟨l,ad⟩,u,i⟩:=Nb w hx1))|((go_at_call 280;(with_reducible refine(Jo _ (Oa #[O a2 m2 c2]) (Oa #[O K m1 R]) ((q.den:Int)-1) 1 1 ?_ ?_ z.o y.o dM oM).mono ?_);(refine hr.ext ?_;exact eA);(refine d.u.ext ?_;exact eA);rintro e w2 ⟨r2,rfl,f,r,ab⟩;obtain⟨L,m3,c3,rfl⟩:=f.u.form;obtain⟨⟨p,ae⟩,x,j⟩:=Nb w r)))
 all_goals go_wp2
 refine bR (v:=Oa #[O L m3 c3,X false]) (by simp[results,Tryz.results252,go_sem,l,p,i,j]) rfl ⟨_,rfl,re.keep (w:=w2) ?_ kA,eA,dA⟩;refine⟨_,_,_,_,rfl,by simp,?_⟩;have e:(((q.den:Int).natAbs:Nat):Int)=(q.den:Int)-1+1*1:=oM;rw[e];exact f.u
def Nr w v q(h:Fb w v q)(d:Rb kd q):Calls Tryz.prog 252 #[v] w (lk w (q.den:Int)):=Mm (Sy w v q h d)
def ER w v n(h:re w v n):Calls Tryz.prog 283 #[v] w (jg w (n:Rat)):=by obtain⟨a,m,c,s,rfl⟩:=h.form;go_in;go_wp2;exact bR (v:=Oa #[O a m c,X s,O I 0 0]) (by simp[results,Tryz.results283,go_sem]) rfl ⟨_,rfl,Fb.mk (h.ext eA) (Nd.nil _),eA⟩
def uJ w n(K:-9223372036854775808<=n)(L:n<=9223372036854775807):Calls Tryz.prog 254 #[C M n] w (jg w (n:Rat)):=by go_in;go_wp2_with(first|((go_at_call 284;(with_reducible refine(vM _ n K L).mono ?_);rintro e w1 ⟨r1,rfl,d,r⟩;obtain⟨u,m1,y,s1,rfl⟩:=d.form;obtain⟨⟨l,R⟩,i⟩:=Jd w r))|((go_at_call 283;(with_reducible refine(ER _ (Oa #[O u m1 y,X s1]) n d).mono ?_);rintro e w2 ⟨r2,rfl,f,t⟩;obtain⟨a2,m2,c2,s2,x,m3,z,rfl⟩:=f.form;obtain⟨⟨p,aa⟩,j⟩:=Jd w t)));exact bR (v:=Oa #[O a2 m2 c2,X s2,O x m3 z]) (by simp[results,Tryz.results254,go_sem,l,p,i,j]) rfl ⟨_,rfl,f.keep kA,eA⟩
def jM w v q(h:Fb w v q):Calls Tryz.prog 258 #[v] w (jg w (-q)):=by
 obtain⟨a,m,c,s,a2,m2,c2,rfl⟩:=h.form;go_in;go_wp2;go_region_held3 (fun W=>W.cell? ⟨w.heap.size,0,I⟩=Y (O a m c)/\W.cell? ⟨w.heap.size,1,I⟩=Y (X s)/\W.cell? ⟨w.heap.size,2,I⟩=Y (O a2 m2 c2)) ((repeat' (with_reducible refine And.intro ?_ ?_))<;>(first|(go_simp;done)|(refine hx1.d ?_;go_simp;done))) (((go_at_call 287;(with_reducible refine(Av _ (Oa #[O a m c,X s]) q.num ?_).mono ?_);(refine h.top.ext ?_;exact eA);rintro e y ⟨x,rfl,d,hx1⟩;obtain⟨l,t,p,u,rfl⟩:=d.form;obtain⟨⟨i,r⟩,j,f⟩:=Nb w hx1)))
 all_goals go_wp2
 exact bR (v:=Oa #[O l t p,X u,O a2 m2 c2]) (by simp[results,Tryz.results258,go_sem,i,f]) rfl ⟨_,rfl,Fb.keep (Fb.mk d (h.rest.ext eA)) kA,eA⟩
def rg(n d:Int):Int:=if d<0 then -(Int.gcd n d:Int)else (Int.gcd n d:Int)
def kE{n d}(i:d≠0):rg n d≠0/\rg n d ∣ n/\rg n d ∣ d/\n/rg n d=(Rat.divInt n d).num/\d/rg n d=((Rat.divInt n d).den:Int):=by
 have j:0<Int.gcd n d:=Int.gcd_pos_of_ne_zero_right n i;have f:(Int.gcd n d:Int) ∣ n:=Int.gcd_dvd_left ..;have e:(Int.gcd n d:Int) ∣ d:=Int.gcd_dvd_right ..;rw[Rat.num_divInt,Rat.den_divInt,if_neg i,Int.gcd_comm d n];unfold rg;by_cases h:d<0
 ·rw[if_pos h];refine⟨by omega,Int.neg_dvd.2 f,Int.neg_dvd.2 e,?_,?_⟩
  ·rw[Int.sign_eq_neg_one_of_neg h,Int.ediv_neg,Int.neg_mul,Int.one_mul,Int.neg_ediv_of_dvd f]
  ·rw[Int.ediv_neg,Int.natCast_ediv,Int.ofNat_natAbs_of_nonpos oM,Int.neg_ediv_of_dvd e]
 ·rw[if_neg h];refine⟨by omega,f,e,?_,?_⟩
  ·rw[Int.sign_eq_one_of_pos oM,Int.one_mul]
  ·rw[Int.natCast_ediv,Int.natAbs_of_nonneg oM]
def zH{k n d}(i:d≠0)(h:Lm k d):Lm k (rg n d):=by
 have e:(Int.gcd n d:Int)<=d.natAbs:=Int.le_of_dvd oM (Int.dvd_natAbs.2 (Int.gcd_dvd_right ..));have f:0<=(Int.gcd n d:Int):=Int.natCast_nonneg _;unfold rg Lm at *
 split<;>omega
def As{n d}(e:d≠0){k}(h:Lm k d):Lm k ((Rat.divInt n d).den:Int):=by
 have f:(Rat.divInt n d).den<=d.natAbs:=by
  rw[Rat.den_divInt,if_neg e];exact Nat.div_le_self _ _
 unfold Lm at *;omega
def Su{n d}(e:d≠0){k}(h:Lm k n):Lm k (Rat.divInt n d).num:=by
 have f:(Rat.divInt n d).num.natAbs<=n.natAbs:=by
  rw[Rat.num_divInt,Int.natAbs_ediv_of_dvd]
  ·rw[Int.natAbs_mul];have:d.sign.natAbs=1:=by rw[Int.natAbs_sign];simp[e]
   rw[this,Nat.one_mul];exact Nat.div_le_self _ _
  ·exact Int.dvd_trans (Int.gcd_dvd_right ..) (Int.dvd_mul_left ..)
 unfold Lm at *;omega
def ZB(W:Z)(b:Nat)(n:Int):Prop:=∃a m c s,W.heap[b]?=Y (Ob #[O a m c,X s] 179 (0,0))/\re W (Oa #[O a m c,X s]) n
section
variable {W W':Z} {b b':Nat} {n n':Int}
def ZB.ext(h:ZB W b n)(k:Ba W W'):ZB W' b n:=by obtain⟨a,m,c,s,d,e⟩:=h;exact⟨a,m,c,s,k.e d,e.ext k⟩
def ZB.not(h:ZB W b n):ud 2 W b:=by obtain⟨a,m,c,s,d,i⟩:=h;intro cs f e;rw[d]at e;cases e
def ZB.rd(h:ZB W b n):∃a m c s,W.cell? ⟨b,0,I⟩=Y (O a m c)/\W.cell? ⟨b,1,I⟩=Y (X s)/\W.frozen? ⟨b,0,I⟩=false/\W.frozen? ⟨b,1,I⟩=false/\b<W.heap.size/\re W (Oa #[O a m c,X s]) n:=by obtain⟨a,m,c,s,d,e⟩:=h;exact⟨a,m,c,s,Lb d (i:=0) rfl,Lb d (i:=1) rfl,Za d 0,Za d 1,Ya d,e⟩
def ZB.put{a m c s}(h:ZB W b n)(f:re W (Oa #[O a m c,X s]) n'):ZB ((W.setCell ⟨b,0,I⟩ (O a m c)).setCell ⟨b,1,I⟩ (X s)) b n':=by have d:=h.not;obtain⟨i,p,j,r,e,l⟩:=h;exact⟨a,m,c,s,Dk e _ _,f.keep (((Ja.refl _ W).y d _).y (d.set _ _) _)⟩
def ZB.other{p}(h:ZB W b n)(i:p.block≠b)(j:ud 2 W p.block) u:ZB (W.setCell p u) b n:=by obtain⟨a,m,c,s,d,f⟩:=h;exact⟨a,m,c,s,(bS _ _ _ _ (fun e=>i e.symm)).trans d,f.keep ((Ja.refl _ W).y j _)⟩
def ZB.new{W0 a m c s}(e:re W0 (Oa #[O a m c,X s]) n)(d:b=W0.heap.size):ZB (W0.alloc (Ob #[O a m c,X s] 179)) b n:=
 ⟨a,m,c,s,mc _ _ _ d,e.ext ((eR _).alloc _)⟩
end
def XG(w:Z)(e:Nat)(n d g:Int)(_:J)(W:Z):Prop:=
 Ba w W/\ZB W w.heap.size n/\ZB W (w.heap.size+1) d/\W.heap[w.heap.size+1+1]?=Y (Ob #[O I 0 0,X false,O I 0 0] 181 (0,0))/\ZB W e g
def Uy w va vb n d(ha:re w va n)(hb:re w vb d)(K:Lm fe n)(j:Lm fe d)(hd:d≠0):Calls Tryz.prog 260 #[va,vb] w (jg w (Rat.divInt n d)):=by
 obtain⟨a,m,c,s,rfl⟩:=ha.form;obtain⟨a',m',c',s',rfl⟩:=hb.form;have ae:=za hb.sgn;obtain⟨ag,ai,ah,an,am⟩:=kE (n:=n) hd;have aF:=za K;have aE:=za j;have ac:=za (zH (n:=n) hd j);have ad:Ua (Lm Rc n):=za (K.mono dM);have ab:Ua (Lm Rc d):=za (j.mono dM);have aK:=za an;have aJ:=za am;have aI:=za ai;have aH:=za ah;have aG:Ua (Lm Rc ((Rat.divInt n d).den:Int)):=za (As hd (j.mono dM));have H1:Ua (Lm Rc 1):=za (qr dM);have br:=Xg (Rat.divInt n d);clear K j an am ai ah;go_in;go_upto_if 10 with (((go_at_call 290;(with_reducible refine(xM _ (Oa #[O a m c,X s]) (Oa #[O a' m' c',X s']) n d ?_ ?_ ad.o ab.o).mono ?_);(refine ha.ext ?_;exact eA);(refine hb.ext ?_;exact eA);rintro e i ⟨r1,rfl,y,l⟩;obtain⟨a1,m1,c1,s1,rfl⟩:=y.form;obtain⟨⟨aL,aR⟩,aw,ax,ay⟩:=Sb w l;have t:w.heap.size<i.heap.size+1:=oM;have u:w.heap.size+1<i.heap.size+1:=oM;have x:w.heap.size+1+1<i.heap.size+1:=oM)));have z:XG w i.heap.size n d (Int.gcd n d:Nat) (X true) (i.alloc (Ob #[O a1 m1 c1,X s1] 179)):=by
  refine⟨eA,?_,?_,?_,ZB.new y rfl⟩
  ·refine ZB.ext (W:=w.alloc (Ob #[O a m c,X s] 179)) (ZB.new ha rfl) eA
  ·refine ZB.ext (W:=(w.alloc (Ob #[O a m c,X s] 179)).alloc (Ob #[O a' m' c',X s'] 179)) (ZB.new (hb.ext eA) sM) eA
  ·exact(l.D ((Below.refl _ _).alloc (nE _) _) l.size).e (by rw[tg];simp)
 go_cut [11] (XG w i.heap.size n d (rg n d))
 case first =>
  cases s'
  ·have e:rg n d=(Int.gcd n d:Nat):=by have:=ae.o;unfold rg;rw[if_neg (by simpa using this)]
   have E:=za e;clear e;go_wp2;go_meet;rw[E.o];exact z
  ·have e:rg n d = -((Int.gcd n d:Nat):Int):=by have:=ae.o;unfold rg;rw[if_pos (by simpa using this)]
   have E:=za e;clear e;go_wp2_with(((go_at_call 287;(with_reducible refine(Av _ (Oa #[O a1 m1 c1,X s1]) (Int.gcd n d:Nat) ?_).mono ?_);(refine y.ext ?_;exact eA);rintro e w2 ⟨r2,rfl,ao,f⟩;obtain⟨a2,m2,c2,s2,rfl⟩:=ao.form;obtain⟨⟨bq,bs⟩,a0,a8,a9⟩:=Sb w f;have aY:=f.lt (n:=i.heap.size) (by go_simp))));go_meet;rw[E.o];obtain⟨i1,i2,i3,i4,i5⟩:=z;have hN:=(i5.ext f).not;exact⟨eA,((i2.ext f).other dO hN _).other dO (hN.set _ _) _,((i3.ext f).other dO hN _).other dO (hN.set _ _) _,
    by rw[bS _ _ _ _ dO,bS _ _ _ _ dO];exact f.e i4,(i5.ext f).put ao⟩
 case rest =>
  have bF:¬i.heap.size=w.heap.size:=oM;have bG:¬w.heap.size=i.heap.size:=oM;have bH:¬i.heap.size=w.heap.size+1:=oM;have bI:¬w.heap.size+1=i.heap.size:=oM;clear z l aL aR aw ax ay t u x y;obtain⟨hx,b1,b2,r,b4⟩:=hcut;have bx:=b1.not;have bz:=b2.not;have bA:ud 2 wc (w.heap.size+1+1):=fun cs fr e=>by rw[r]at e;cases e
  have aD:w.heap.size+1+1<wc.heap.size:=Ya r;have r0:=Aa r 0 (O I 0 0);have r1:=Aa r 1 (X false);have r2:=Aa r 2 (O I 0 0);have bJ:=Za r 0;have bK:=Za r 1;have bL:=Za r 2;obtain⟨a3,m3,c3,s3,n0,n1,bD,bE,bj,aX⟩:=b1.rd;obtain⟨a4,m4,c4,s4,d0,d1,bm,bn,bk,aW⟩:=b2.rd;obtain⟨a5,m5,c5,s5,g0,g1,bo,bp,bl,av⟩:=b4.rd;clear b1 b2 r b4;go_wp2_with(first|((go_at_call 291;(with_reducible refine(MD _ (Oa #[O a3 m3 c3,X s3]) (Oa #[O a5 m5 c5,X s5]) n (rg n d) ?_ ?_ aF.o ac.o ag (.inr aI.o)).mono ?_);(refine aX.ext ?_;exact eA);(refine av.ext ?_;exact eA);rintro e w3 ⟨vq,vr,rfl,aj,aS,p⟩;obtain⟨aq,mq,cq,sq,rfl⟩:=aj.form;obtain⟨ar,mr,cr,sr,rfl⟩:=aS.form;obtain⟨⟨aM,bt⟩,ba,bb,az⟩:=Sb w p;have aZ:=p.lt (n:=i.heap.size) (by go_simp)))|((go_at_call 291;(with_reducible refine(MD _ (Oa #[O a4 m4 c4,X s4]) (Oa #[O a5 m5 c5,X s5]) d (rg n d) ?_ ?_ aE.o ac.o ag (.inr aH.o)).mono ?_);(refine(aW.ext p).keep kA);(refine(av.ext p).keep kA);rintro e w4 ⟨vq,vr,rfl,ak,aT,aa⟩;obtain⟨ap,mp,cp,sp,rfl⟩:=ak.form;obtain⟨ar,mr,cr,sr,rfl⟩:=aT.form;obtain⟨⟨aO,bu⟩,bc,be,aA⟩:=Sb w aa)));have L:=(ak.dig).keep (w':=(w4.setCell ⟨w.heap.size+1,0,I⟩ (O ap mp cp)).setCell ⟨w.heap.size+1,1,I⟩ (X sp)) kA;have al:=((aj.keep (w':=(w3.setCell ⟨w.heap.size,0,I⟩ (O aq mq cq)).setCell ⟨w.heap.size,1,I⟩ (X sq)) kA).ext aa).keep (w':=(w4.setCell ⟨w.heap.size+1,0,I⟩ (O ap mp cp)).setCell ⟨w.heap.size+1,1,I⟩ (X sp)) kA;rw[aJ.o]at L;rw[aK.o]at al;have e5:(((Rat.divInt n d).den:Int).natAbs:Int)=((Rat.divInt n d).den:Int):=oM;rw[e5]at L;clear e5;go_region_held3 (fun W=>W.cell? ⟨w.heap.size,0,I⟩=Y (O aq mq cq)/\W.cell? ⟨w.heap.size,1,I⟩=Y (X sq)/\W.cell? ⟨w.heap.size+1,0,I⟩=Y (O ap mp cp)) ((repeat' (with_reducible refine And.intro ?_ ?_))<;>(first|(go_simp;done)|(refine l.d ?_;go_simp;done))) (first|((go_at_call 281;(with_reducible refine(Gr _ 1 dM dM).mono ?_);rintro e w5 ⟨r5,rfl,au,aU⟩;obtain⟨a6,m6,c6,rfl⟩:=au.u.form;obtain⟨⟨aP,bv⟩,bf,bg,aB⟩:=Sb w aU))|((go_at_call 280;(with_reducible refine(Ls _ (Oa #[O ap mp cp]) (Oa #[O a6 m6 c6]) ((Rat.divInt n d).den:Int) 1 (-1) ?_ ?_ aG.o H1.o dM oM).mono ?_);(refine L.ext ?_;exact eA);(refine au.u.ext ?_;exact eA);rintro e w6 ⟨r6,rfl,R,aV⟩;obtain⟨a7,m7,c7,rfl⟩:=R.u.form;obtain⟨⟨aQ,bw⟩,bh,bi,aC⟩:=Sb w aV)))
  all_goals go_wp2
  have e7:((Rat.divInt n d).den:Int) + -1*1=((Rat.divInt n d).den:Int)-1:=oM;rw[e7]at R;clear e7;have af:Fb w6 (Oa #[O aq mq cq,X sq,O a7 m7 c7]) (Rat.divInt n d):=Fb.mk (al.ext eA) R.u;refine bR (v:=Oa #[O aq mq cq,X sq,O a7 m7 c7]) (by simp[results,Tryz.results260,go_sem,aM,aO,aP,aQ,aD,az,aA,aB,aC,r0,r1,r2]) rfl ⟨_,rfl,af.keep kA,?_⟩;have bB:Ba w w3:=hx.trans p;have bC:Ba w w4:=Ba.trans eA aa;exact eA
def EL w va vb n d(ha:re w va n)(hb:re w vb d)(t:Lm fe n)(u:Lm fe d):Calls Tryz.prog 293 #[va,vb] w fun e w'=>∃r,e=.returned (Oe #[r,C M (if d=0 then 9 else 0)])/\Fb w' r (Rat.divInt n d)/\Ba w w':=by
 obtain⟨a,m,c,s,rfl⟩:=ha.form;obtain⟨a',m',c',s',rfl⟩:=hb.form;have R:=za t;have L:=za u;clear t u;have p:=hb.dig;by_cases l:d=0
 ·have hz:((d.natAbs:Int)==0)=true:=by simp[l]
  have Hd:=za l;clear l;go_in;go_wp2_with(((go_at_call 273;(with_reducible refine(Im _ (Oa #[O a' m' c']) d.natAbs ?_).mono ?_);(refine p.ext ?_;exact eA);rintro e w1 ⟨rfl,j⟩;obtain⟨⟨i,ab⟩,y,z,f⟩:=Sb w j)));refine bR (v:=Oe #[Oa #[O I 0 0,X false,O I 0 0],C M 9]) (by simp[results,Tryz.results293,go_sem,i,f]) rfl ⟨Oa #[O I 0 0,X false,O I 0 0],by first|rfl|rw[if_pos Hd.o],?_,eA⟩
  first|exact Fb.zero _|(rw[Hd.o,Rat.divInt_zero];exact Fb.zero _)
 ·have hz:((d.natAbs:Int)==0)=false:=by simp;omega
  go_in;go_wp2_with(first|((go_at_call 273;(with_reducible refine(Im _ (Oa #[O a' m' c']) d.natAbs ?_).mono ?_);(refine p.ext ?_;exact eA);rintro e w1 ⟨rfl,j⟩;obtain⟨⟨i,ab⟩,y,z,f⟩:=Sb w j))|((go_at_call 260;(with_reducible refine(Uy _ (Oa #[O a m c,X s]) (Oa #[O a' m' c',X s']) n d ?_ ?_ R.o L.o l).mono ?_);(refine ha.ext ?_;exact eA);(refine hb.ext ?_;exact eA);rintro e w2 ⟨r2,rfl,x,ac⟩;obtain⟨a2,m2,c2,s2,a3,m3,c3,rfl⟩:=x.form;obtain⟨⟨aa,af⟩,ad,ae,K⟩:=Sb w ac)));exact bR (v:=Oe #[Oa #[O a2 m2 c2,X s2,O a3 m3 c3],C M 0]) (by simp[results,Tryz.results293,go_sem,i,aa,f,K]) rfl ⟨Oa #[O a2 m2 c2,X s2,O a3 m3 c3],by first|rfl|rw[if_neg l],x.keep kA,eA⟩
def Ba.t{a b}(h:Ba a b){n}{G:Prop}(d:n<a.heap.size)(k:n<b.heap.size->G):G:=k (h.lt d)
def Lm.mul{j k x y}(h:Lm j x)(l:Lm k y):Lm (j+k) (x*y):=by
 have e:B ^ (j+k)=B ^ j*B ^ k:=by rw[Int.pow_add]
 have r:=Tj zj j;have i:=Tj zj k;unfold Lm at *;have d:(x.natAbs:Int)<B ^ j:=oM;have f:(y.natAbs:Int)<B ^ k:=oM;have p:((x*y).natAbs:Int)<B ^ (j+k):=by
  rw[Int.natAbs_mul,e,Int.natCast_mul];exact Int.lt_of_le_of_lt (Int.mul_le_mul_of_nonneg_left (Int.le_of_lt f) oM) (Int.mul_lt_mul_of_pos_right d i)
 omega
def Lm.add{k x y}(h:Lm k x)(d:Lm k y):Lm (k+1) (x+y):=by
 have e:B ^ (k+1)=B ^ k*16777216:=by rw[Int.pow_succ];rfl
 unfold Lm at *;rw[e];omega
def iz p q:Rat.divInt (p.num*q.den+q.num*p.den) ((p.den:Int)*q.den)=p+q:=by rw[Rat.add_def',<-Rat.divInt_ofNat,Int.natCast_mul]
def Zy p q:Rat.divInt (p.num*q.num) ((p.den:Int)*q.den)=p*q:=by rw[Rat.mul_def',<-Rat.divInt_ofNat,Int.natCast_mul]
def pF p q:Rat.divInt (p.num*q.den) ((p.den:Int)*q.num)=p/q:=by rw[Rat.div_def,Rat.inv_def,<-Rat.divInt_mul_divInt,Rat.num_divInt_den]
def Eo(p q:Rat):(p.den:Int)*q.den≠0:=by have:=Int.mul_pos (Xg p) (Xg q);omega
def Rb.add{k p q}(h:Rb k p)(d:Rb k q):Rb (2*k+1) (p+q):=by rw[<-iz];refine⟨Su (Eo p q) ?_,As (Eo p q) ((Lm.mul h.2 d.2).mono oM)⟩;rw[show 2*k+1=(k+k)+1 by omega];exact(h.1.mul d.2).add (d.1.mul h.2)
def Rb.mul{j k p q}(h:Rb j p)(d:Rb k q):Rb (j+k) (p*q):=by rw[<-Zy];exact⟨Su (Eo p q) (h.1.mul d.1),As (Eo p q) (h.2.mul d.2)⟩
def Rb.neg{k p}(h:Rb k p):Rb k (-p):=⟨h.1.neg,h.2⟩
def Rb.sub{k p q}(h:Rb k p)(d:Rb k q):Rb (2*k+1) (p-q):=by rw[Rat.sub_eq_add_neg];exact h.add d.neg
def Rb.int{k n}(h:Lm k n)(d:1<=k):Rb k (n:Rat):=⟨h,qr d⟩
def Rb.div{j k p q}(h:Rb j p)(d:Rb k q)(l:1<=j+k):Rb (j+k) (p/q):=by
 by_cases i:q=0
 ·subst i;have:p/0=((0:Int):Rat):=by rw[Rat.div_def,Rat.inv_zero,Rat.mul_zero];rfl
  rw[this];exact Rb.int (by have:=Tj zj (j+k);unfold Lm;omega) l
 ·have r:q.num≠0:=fun e=>i (by rw[<-Rat.num_divInt_den q,e];simp);have f:(p.den:Int)*q.num≠0:=Int.mul_ne_zero (by have:=Xg p;omega) r;rw[<-pF];exact⟨Su f (h.1.mul d.2),As f (h.2.mul d.1)⟩
def yd(p q:Rat):Int:=(p.num*q.den-q.num*p.den).sign
def Kx p q:yd p q<0 ↔ p<q:=by unfold yd;rw[Rat.lt_iff,Int.sign_neg_iff];omega
def zJ p q:0<yd p q ↔ q<p:=by unfold yd;rw[Rat.lt_iff,Int.sign_pos_iff];omega
def yI w va vb p q(ha:Fb w va p)(hb:Fb w vb q)(d:Rb kd p)(f:Rb kd q):Calls Tryz.prog 214 #[va,vb] w fun e w'=>e=.returned (C M (yd p q))/\Ba w w'/\Dr w w':=by
 obtain⟨a,m,c,s,a2,m2,c2,rfl⟩:=ha.form;obtain⟨a',m',c',s',l,z,r,rfl⟩:=hb.form;have K:=za d;have L:=za f;have af:=ha.top;have ag:=hb.top;have R:Ua (Lm Rc p.num):=za (d.1.mono dM);have aa:Ua (Lm Rc q.num):=za (f.1.mono dM);have ab:Ua (Lm Rc (p.den:Int)):=za (d.2.mono dM);have ac:Ua (Lm Rc (q.den:Int)):=za (f.2.mono dM);have ad:Ua (Lm fe (p.num*q.den)):=za ((d.1.mul f.2).mono dM);have ae:Ua (Lm fe (q.num*p.den)):=za ((f.1.mul d.2).mono dM);have ax:Ua (Lm fe (p.num*q.num)):=za ((d.1.mul f.1).mono dM);have ay:Ua (Lm fe ((p.den:Int)*q.den)):=za ((d.2.mul f.2).mono dM);have az:Ua (Lm fe ((p.den:Int)*q.num)):=za ((d.2.mul f.1).mono dM);have i:Ua (Lm Rc (p.num*q.den)):=za (ad.o.mono dM);have j:Ua (Lm Rc (q.num*p.den)):=za (ae.o.mono dM);clear d f;go_in;go_wp2;go_region_held3 (fun W=>W.cell? ⟨w.heap.size,0,I⟩=Y (O a m c)/\W.cell? ⟨w.heap.size,1,I⟩=Y (X s)/\W.cell? ⟨w.heap.size,2,I⟩=Y (O a2 m2 c2)/\W.cell? ⟨w.heap.size+1,0,I⟩=Y (O a' m' c')/\W.cell? ⟨w.heap.size+1,1,I⟩=Y (X s')/\W.cell? ⟨w.heap.size+1,2,I⟩=Y (O l z r)) ((repeat' (with_reducible refine And.intro ?_ ?_))<;>(first|(go_simp;done)|(refine hx1.d ?_;go_simp;done))) (first|((go_at_call 252;(with_reducible refine(Sy _ (Oa #[O a' m' c',X s',O l z r]) q ?_ L.o).mono ?_);(refine hb.ext ?_;exact eA);rintro e w1 ⟨r1,rfl,t,hx1,aF⟩;obtain⟨b1,n1,k1,t1,rfl⟩:=t.form;obtain⟨⟨aA,aK⟩,al,am⟩:=Nb w hx1))|((go_at_call 252;(with_reducible refine(Sy _ (Oa #[O a m c,X s,O a2 m2 c2]) p ?_ K.o).mono ?_);(refine ha.ext ?_;exact eA);rintro e w3 ⟨r3,rfl,x,ai,aH⟩;obtain⟨b3,n3,k3,t3,rfl⟩:=x.form;obtain⟨⟨aC,aM⟩,ap,aq⟩:=Nb w ai))|((go_at_call 251;(with_reducible refine(Ow _ (Oa #[O a m c,X s]) (Oa #[O b1 n1 k1,X t1]) p.num (q.den:Int) ?_ ?_ R.o ac.o).mono ?_);(refine af.ext ?_;exact eA);(refine t.ext ?_;exact eA);rintro e w2 ⟨r2,rfl,u,ah,aG⟩;obtain⟨b2,n2,k2,t2,rfl⟩:=u.form;obtain⟨⟨aB,aL⟩,an,ao⟩:=Nb w ah))|((go_at_call 251;(with_reducible refine(Ow _ (Oa #[O a' m' c',X s']) (Oa #[O b3 n3 k3,X t3]) q.num (p.den:Int) ?_ ?_ aa.o ab.o).mono ?_);(refine ag.ext ?_;exact eA);(refine x.ext ?_;exact eA);rintro e w4 ⟨r4,rfl,y,aj,aI⟩;obtain⟨b4,n4,k4,t4,rfl⟩:=y.form;obtain⟨⟨aD,aO⟩,ar,au⟩:=Nb w aj))|((go_at_call 253;(with_reducible refine(KH _ (Oa #[O b2 n2 k2,X t2]) (Oa #[O b4 n4 k4,X t4]) (p.num*q.den) (q.num*p.den) ?_ ?_ i.o j.o).mono ?_);(refine u.ext ?_;exact eA);(refine y.ext ?_;exact eA);rintro e w5 ⟨rfl,ak,aJ⟩;obtain⟨⟨aE,aP⟩,av,aw⟩:=Nb w ak)))
 all_goals go_wp2
 go_ret;exact⟨rfl,eA,dA⟩
def Sn w i j p q(l:Fb w i p)(r:Fb w j q)(d:Rb kd p)(f:Rb kd q):Calls Tryz.prog 214 #[i,j] w fun e w'=>e=.returned (C M (yd p q))/\Ba w w':=Yu (yI w i j p q l r d f)
def mM w va vb p q(ha:Fb w va p)(hb:Fb w vb q)(d:Rb kd p)(f:Rb kd q):Calls Tryz.prog 223 #[va,vb] w (jg w (p*q)):=by
 obtain⟨a,m,c,s,a2,m2,c2,rfl⟩:=ha.form;obtain⟨a',m',c',s',i,y,j,rfl⟩:=hb.form;have aa:=za d;have ab:=za f;have ap:=ha.top;have aq:=hb.top;have ac:Ua (Lm Rc p.num):=za (d.1.mono dM);have ad:Ua (Lm Rc q.num):=za (f.1.mono dM);have ae:Ua (Lm Rc (p.den:Int)):=za (d.2.mono dM);have af:Ua (Lm Rc (q.den:Int)):=za (f.2.mono dM);have ag:Ua (Lm fe (p.num*q.den)):=za ((d.1.mul f.2).mono dM);have ah:Ua (Lm fe (q.num*p.den)):=za ((f.1.mul d.2).mono dM);have ai:Ua (Lm fe (p.num*q.num)):=za ((d.1.mul f.1).mono dM);have aj:Ua (Lm fe ((p.den:Int)*q.den)):=za ((d.2.mul f.2).mono dM);have aK:Ua (Lm fe ((p.den:Int)*q.num)):=za ((d.2.mul f.1).mono dM);have ax:Ua (Lm Rc (p.num*q.den)):=za (ag.o.mono dM);have ay:Ua (Lm Rc (q.num*p.den)):=za (ah.o.mono dM);clear d f;go_in;go_wp2;go_region_held3 (fun W=>W.cell? ⟨w.heap.size,0,I⟩=Y (O a m c)/\W.cell? ⟨w.heap.size,1,I⟩=Y (X s)/\W.cell? ⟨w.heap.size,2,I⟩=Y (O a2 m2 c2)/\W.cell? ⟨w.heap.size+1,0,I⟩=Y (O a' m' c')/\W.cell? ⟨w.heap.size+1,1,I⟩=Y (X s')/\W.cell? ⟨w.heap.size+1,2,I⟩=Y (O i y j)) ((repeat' (with_reducible refine And.intro ?_ ?_))<;>(first|(go_simp;done)|(refine hx1.d ?_;go_simp;done))) (first|((go_at_call 251;(with_reducible refine(jq _ (Oa #[O a m c,X s]) (Oa #[O a' m' c',X s']) p.num q.num ?_ ?_ ac.o ad.o).mono ?_);(refine ap.ext ?_;exact eA);(refine aq.ext ?_;exact eA);rintro e w1 ⟨r1,rfl,l,hx1⟩;obtain⟨b1,n1,k1,t1,rfl⟩:=l.form;obtain⟨⟨ak,aL⟩,az,aA,z⟩:=Sb w hx1))|((go_at_call 252;(with_reducible refine(Nr _ (Oa #[O a m c,X s,O a2 m2 c2]) p ?_ aa.o).mono ?_);(refine ha.ext ?_;exact eA);rintro e w2 ⟨r2,rfl,r,ar⟩;obtain⟨b2,n2,k2,t2,rfl⟩:=r.form;obtain⟨⟨al,aM⟩,aB,aC,K⟩:=Sb w ar))|((go_at_call 252;(with_reducible refine(Nr _ (Oa #[O a' m' c',X s',O i y j]) q ?_ ab.o).mono ?_);(refine hb.ext ?_;exact eA);rintro e w3 ⟨r3,rfl,t,au⟩;obtain⟨b3,n3,k3,t3,rfl⟩:=t.form;obtain⟨⟨am,aO⟩,aD,aE,L⟩:=Sb w au))|((go_at_call 251;(with_reducible refine(jq _ (Oa #[O b2 n2 k2,X t2]) (Oa #[O b3 n3 k3,X t3]) (p.den:Int) (q.den:Int) ?_ ?_ ae.o af.o).mono ?_);(refine r.ext ?_;exact eA);(refine t.ext ?_;exact eA);rintro e w4 ⟨r4,rfl,u,av⟩;obtain⟨b4,n4,k4,t4,rfl⟩:=u.form;obtain⟨⟨an,aP⟩,aF,aG,R⟩:=Sb w av))|((go_at_call 260;(with_reducible refine(Uy _ (Oa #[O b1 n1 k1,X t1]) (Oa #[O b4 n4 k4,X t4]) (p.num*q.num) ((p.den:Int)*q.den) ?_ ?_ ai.o aj.o (Eo p q)).mono ?_);(refine l.ext ?_;exact eA);(refine u.ext ?_;exact eA);rintro e w5 ⟨r5,rfl,x,aw⟩;obtain⟨b5,n5,k5,t5,b6,n6,k6,rfl⟩:=x.form;obtain⟨⟨ao,aQ⟩,aH,aI,aJ⟩:=Sb w aw)))
 all_goals go_wp2
 refine bR (v:=Oa #[O b5 n5 k5,X t5,O b6 n6 k6]) (by simp[results,Tryz.results223,go_sem,ak,al,am,an,ao,z,K,L,R]) rfl ⟨_,rfl,?_,eA⟩;rw[<-Zy];exact x.keep kA
def gO w y z p q(ha:Fb w y p)(hb:Fb w z q)(d:∀(W:Z)(y z:J)(p q:Rat),Fb W y p->Fb W z q->Rb kd p->Rb kd q->Calls Tryz.prog 221 #[y,z] W (jg W (p+q)))(l:Rb kd p)(r:Rb kd q):Calls Tryz.prog 218 #[y,z] w (jg w (p-q)):=by
 obtain⟨a,m,c,s,a2,m2,c2,rfl⟩:=ha.form;obtain⟨a',m',c',s',i,x,j,rfl⟩:=hb.form;have L:=za l;have R:=za r.neg;have f:=za d;clear l r d;rw[Rat.sub_eq_add_neg];go_in;go_wp2;go_region_held3 (fun W=>W.cell? ⟨w.heap.size,0,I⟩=Y (O a m c)/\W.cell? ⟨w.heap.size,1,I⟩=Y (X s)/\W.cell? ⟨w.heap.size,2,I⟩=Y (O a2 m2 c2)/\W.cell? ⟨w.heap.size+1,0,I⟩=Y (O a' m' c')/\W.cell? ⟨w.heap.size+1,1,I⟩=Y (X s')/\W.cell? ⟨w.heap.size+1,2,I⟩=Y (O i x j)) ((repeat' (with_reducible refine And.intro ?_ ?_))<;>(first|(go_simp;done)|(refine hx1.d ?_;go_simp;done))) (first|((go_at_call 258;(with_reducible refine(jM _ (Oa #[O a' m' c',X s',O i x j]) q ?_).mono ?_);(refine hb.ext ?_;exact eA);rintro e w1 ⟨r1,rfl,t,hx1⟩;obtain⟨b1,n1,k1,t1,b2,n2,k2,rfl⟩:=t.form;obtain⟨⟨aa,ai⟩,ad,ae,K⟩:=Sb w hx1))|((go_at_call 221;refine cM (f.o _ (Oa #[O a m c,X s,O a2 m2 c2]) (Oa #[O b1 n1 k1,X t1,O b2 n2 k2]) p (-q) ?_ ?_ L.o R.o) ?_;(refine ha.ext ?_;exact eA);(refine t.ext ?_;exact eA);rintro e w5 ⟨r5,rfl,u,ac⟩;obtain⟨b5,n5,k5,t5,b6,n6,k6,rfl⟩:=u.form;obtain⟨⟨ab,aj⟩,af,ag,ah⟩:=Sb w ac)))
 all_goals go_wp2
 exact bR (v:=Oa #[O b5 n5 k5,X t5,O b6 n6 k6]) (by simp[results,Tryz.results218,go_sem,aa,ab,K]) rfl ⟨_,rfl,u.keep kA,eA⟩
def qM w va vb p q(ha:Fb w va p)(hb:Fb w vb q)(d:Rb kd p)(f:Rb kd q):Calls Tryz.prog 262 #[va,vb] w fun e w'=>∃r,e=.returned (Oe #[r,C M (if (p.den:Int)*q.num=0 then 9 else 0)])/\Fb w' r (p/q)/\Ba w w':=by
 obtain⟨a,m,c,s,a2,m2,c2,rfl⟩:=ha.form;obtain⟨a',m',c',s',l,L,t,rfl⟩:=hb.form;have ad:=za d;have ae:=za f;have ar:=ha.top;have au:=hb.top;have af:Ua (Lm Rc p.num):=za (d.1.mono dM);have ag:Ua (Lm Rc q.num):=za (f.1.mono dM);have ah:Ua (Lm Rc (p.den:Int)):=za (d.2.mono dM);have ai:Ua (Lm Rc (q.den:Int)):=za (f.2.mono dM);have j:Ua (Lm fe (p.num*q.den)):=za ((d.1.mul f.2).mono dM);have aj:Ua (Lm fe (q.num*p.den)):=za ((f.1.mul d.2).mono dM);have aM:Ua (Lm fe (p.num*q.num)):=za ((d.1.mul f.1).mono dM);have aO:Ua (Lm fe ((p.den:Int)*q.den)):=za ((d.2.mul f.2).mono dM);have ak:Ua (Lm fe ((p.den:Int)*q.num)):=za ((d.2.mul f.1).mono dM);have az:Ua (Lm Rc (p.num*q.den)):=za (j.o.mono dM);have aA:Ua (Lm Rc (q.num*p.den)):=za (aj.o.mono dM);clear d f;obtain⟨er,i⟩:∃er:Int,er=if (p.den:Int)*q.num=0 then 9 else 0:=⟨_,rfl⟩;rw[<-i];have al:=za i;clear i;go_in;go_wp2;go_region_held3 (fun W=>W.cell? ⟨w.heap.size,0,I⟩=Y (O a m c)/\W.cell? ⟨w.heap.size,1,I⟩=Y (X s)/\W.cell? ⟨w.heap.size,2,I⟩=Y (O a2 m2 c2)/\W.cell? ⟨w.heap.size+1,0,I⟩=Y (O a' m' c')/\W.cell? ⟨w.heap.size+1,1,I⟩=Y (X s')/\W.cell? ⟨w.heap.size+1,2,I⟩=Y (O l L t)) ((repeat' (with_reducible refine And.intro ?_ ?_))<;>(first|(go_simp;done)|(refine hx1.d ?_;go_simp;done))) (first|((go_at_call 252;(with_reducible refine(Nr _ (Oa #[O a' m' c',X s',O l L t]) q ?_ ae.o).mono ?_);(refine hb.ext ?_;exact eA);rintro e w1 ⟨r1,rfl,u,hx1⟩;obtain⟨b1,n1,k1,t1,rfl⟩:=u.form;obtain⟨⟨am,aP⟩,aB,aC,R⟩:=Sb w hx1))|((go_at_call 251;(with_reducible refine(jq _ (Oa #[O a m c,X s]) (Oa #[O b1 n1 k1,X t1]) p.num (q.den:Int) ?_ ?_ af.o ai.o).mono ?_);(refine ar.ext ?_;exact eA);(refine u.ext ?_;exact eA);rintro e w2 ⟨r2,rfl,x,av⟩;obtain⟨b2,n2,k2,t2,rfl⟩:=x.form;obtain⟨⟨an,aQ⟩,aD,aE,aa⟩:=Sb w av))|((go_at_call 252;(with_reducible refine(Nr _ (Oa #[O a m c,X s,O a2 m2 c2]) p ?_ ad.o).mono ?_);(refine ha.ext ?_;exact eA);rintro e w3 ⟨r3,rfl,y,aw⟩;obtain⟨b3,n3,k3,t3,rfl⟩:=y.form;obtain⟨⟨ao,aR⟩,aF,aG,ab⟩:=Sb w aw))|((go_at_call 251;(with_reducible refine(jq _ (Oa #[O b3 n3 k3,X t3]) (Oa #[O a' m' c',X s']) (p.den:Int) q.num ?_ ?_ ah.o ag.o).mono ?_);(refine y.ext ?_;exact eA);(refine au.ext ?_;exact eA);rintro e w4 ⟨r4,rfl,z,ax⟩;obtain⟨b4,n4,k4,t4,rfl⟩:=z.form;obtain⟨⟨ap,aS⟩,aH,aI,ac⟩:=Sb w ax))|((go_at_call 293;(with_reducible refine(EL _ (Oa #[O b2 n2 k2,X t2]) (Oa #[O b4 n4 k4,X t4]) (p.num*q.den) ((p.den:Int)*q.num) ?_ ?_ j.o ak.o).mono ?_);(refine x.ext ?_;exact eA);(refine z.ext ?_;exact eA);rw[<-al.o];rintro e w5 ⟨r5,rfl,K,ay⟩;obtain⟨b5,n5,k5,t5,b6,n6,k6,rfl⟩:=K.form;obtain⟨⟨aq,aT⟩,aJ,aK,aL⟩:=Sb w ay)))
 all_goals go_wp2
 refine bR (v:=Oe #[Oa #[O b5 n5 k5,X t5,O b6 n6 k6],C M er]) (by simp[results,Tryz.results262,go_sem,am,an,ao,ap,aq,R,aa,ab,ac]) rfl ⟨_,rfl,?_,eA⟩;rw[<-pF];exact K.keep kA
def nW(w:Z)(p q:Rat)(a:Option Od)(m c:Nat)(s:Bool)(z:Option Od)(K c':Nat)(L:Bool)(t5 R:J)(W:Z):Prop:=
 ∃(d e:Nat)(x y:Option Od)(l f r j:Nat)(t u:Bool),t5 = .pointer (Y ⟨d,0,I⟩)/\R = .pointer (Y ⟨e,0,I⟩)/\w.heap.size+1+1<d/\w.heap.size+1+1<e/\Ba w W/\ud 2 W (w.heap.size+1+1)/\
 re W (Oa #[O x l f,X t]) (p.den:Int)/\re W (Oa #[O y r j,X u]) (q.den:Int)/\
 W.cell? ⟨d,0,I⟩=Y (O x l f)/\W.cell? ⟨d,1,I⟩=Y (X t)/\W.cell? ⟨e,0,I⟩=Y (O y r j)/\W.cell? ⟨e,1,I⟩=Y (X u)/\
 W.cell? ⟨w.heap.size,0,I⟩=Y (O a m c)/\W.cell? ⟨w.heap.size,1,I⟩=Y (X s)/\W.cell? ⟨w.heap.size+1,0,I⟩=Y (O z K c')/\W.cell? ⟨w.heap.size+1,1,I⟩=Y (X L)/\
 W.cell? ⟨w.heap.size+1+1,0,I⟩=Y (O I 0 0)/\W.cell? ⟨w.heap.size+1+1,1,I⟩=Y (X false)/\W.cell? ⟨w.heap.size+1+1,2,I⟩=Y (O I 0 0)/\
 (∀i,W.frozen? ⟨w.heap.size+1+1,i,I⟩=false)
def lD w va vb p q(ha:Fb w va p)(hb:Fb w vb q)(d:Rb kd p)(f:Rb kd q):Calls Tryz.prog 221 #[va,vb] w (jg w (p+q)):=by
 obtain⟨a,m,c,s,a2,m2,c2,rfl⟩:=ha.form;obtain⟨a',m',c',s',ak,ax,al,rfl⟩:=hb.form;have ab:=za d;have ac:=za f;have a8:=ha.top;have a9:=hb.top;have aS:Ua (Lm Rc p.num):=za (d.1.mono dM);have aT:Ua (Lm Rc q.num):=za (f.1.mono dM);have ag:Ua (Lm Rc (p.den:Int)):=za (d.2.mono dM);have ah:Ua (Lm Rc (q.den:Int)):=za (f.2.mono dM);have aU:Ua (Lm fe (p.num*q.den)):=za ((d.1.mul f.2).mono dM);have aV:Ua (Lm fe (q.num*p.den)):=za ((f.1.mul d.2).mono dM);have bw:Ua (Lm fe (p.num*q.num)):=za ((d.1.mul f.1).mono dM);have aW:Ua (Lm fe ((p.den:Int)*q.den)):=za ((d.2.mul f.2).mono dM);have bx:Ua (Lm fe ((p.den:Int)*q.num)):=za ((d.2.mul f.1).mono dM);have ai:Ua (Lm Rc (p.num*q.den)):=za (aU.o.mono dM);have aj:Ua (Lm Rc (q.num*p.den)):=za (aV.o.mono dM);clear d f;go_in;go_upto_region 1 with fail;go_cut [5,6] (nW w p q a m c s a' m' c' s')
 case first =>
  go_region_held3 (fun W=>W.cell? ⟨w.heap.size,0,I⟩=Y (O a m c)/\W.cell? ⟨w.heap.size,1,I⟩=Y (X s)/\W.cell? ⟨w.heap.size,2,I⟩=Y (O a2 m2 c2)/\W.cell? ⟨w.heap.size+1,0,I⟩=Y (O a' m' c')/\W.cell? ⟨w.heap.size+1,1,I⟩=Y (X s')/\W.cell? ⟨w.heap.size+1,2,I⟩=Y (O ak ax al)) ((repeat' (with_reducible refine And.intro ?_ ?_))<;>(first|(go_simp;done)|(refine hx1.d ?_;go_simp;done))) (first|((go_at_call 252;(with_reducible refine(Nr _ (Oa #[O a m c,X s,O a2 m2 c2]) p ?_ ab.o).mono ?_);(refine ha.ext ?_;exact eA);rintro e l ⟨r1,rfl,r,hx1⟩;obtain⟨b1,n1,k1,t1,rfl⟩:=r.form;obtain⟨⟨an,a6⟩,ay,az,R⟩:=Sb w hx1;have aF:w.heap.size<l.heap.size+1:=oM;have aG:w.heap.size<l.heap.size+1+1:=oM;have aH:w.heap.size+1<l.heap.size+1:=oM;have aI:w.heap.size+1<l.heap.size+1+1:=oM;have aJ:w.heap.size+1+1<l.heap.size+1:=oM;have aK:w.heap.size+1+1<l.heap.size+1+1:=oM;(try(refine Ba.t hx1 (n:=w.heap.size+1+1+1) ?_ (fun _=>?_);focus(go_simp;done)));(try(refine Ba.t hx1 (n:=w.heap.size+1+1+1+1) ?_ (fun _=>?_);focus(go_simp;done)));(try(refine Ba.t hx1 (n:=l.heap.size) ?_ (fun _=>?_);focus(go_simp;done)));(try(refine Ba.t hx1 (n:=l.heap.size+1) ?_ (fun _=>?_);focus(go_simp;done)))))|((go_at_call 252;(with_reducible refine(Nr _ (Oa #[O a' m' c',X s',O ak ax al]) q ?_ ac.o).mono ?_);(refine hb.ext ?_;exact eA);rintro e L ⟨r2,rfl,t,j⟩;obtain⟨b2,n2,k2,t2,rfl⟩:=t.form;obtain⟨⟨K,a7⟩,aA,aB,aa⟩:=Sb w j;have aL:w.heap.size<L.heap.size+1:=oM;have aM:w.heap.size<L.heap.size+1+1:=oM;have aO:w.heap.size+1<L.heap.size+1:=oM;have aP:w.heap.size+1<L.heap.size+1+1:=oM;have aQ:w.heap.size+1+1<L.heap.size+1:=oM;have aR:w.heap.size+1+1<L.heap.size+1+1:=oM;(try(refine Ba.t j (n:=w.heap.size+1+1+1) ?_ (fun _=>?_);focus(go_simp;done)));(try(refine Ba.t j (n:=w.heap.size+1+1+1+1) ?_ (fun _=>?_);focus(go_simp;done)));(try(refine Ba.t j (n:=l.heap.size) ?_ (fun _=>?_);focus(go_simp;done)));(try(refine Ba.t j (n:=l.heap.size+1) ?_ (fun _=>?_);focus(go_simp;done))))))
  all_goals go_wp2
  all_goals go_meet
  all_goals refine⟨_,_,b1,b2,n1,k1,n2,k2,t1,t2,rfl,rfl,by omega,by omega,eA,nA,r.keep kA,t.keep kA,?_,?_,?_,?_,?_,?_,?_,?_,?_,?_,?_,fun i=>?_⟩
  all_goals first|(go_simp;done)|(have u1:l.heap.size<l.heap.size+1+1:=oM;have u2:L.cell? ⟨l.heap.size,0,I⟩=Y (O I 0 0):=((K _ _ (by first|exact u1|(simp only[wZ,Yb];exact u1))).trans (by go_simp));have u3:L.cell? ⟨l.heap.size,1,I⟩=Y (X false):=((K _ _ (by first|exact u1|(simp only[wZ,Yb];exact u1))).trans (by go_simp));go_simp)
 case rest =>
  obtain⟨u,z,x,y,mx,cx,my,cy,sx,sy,rfl,rfl,bD,bE,hx,hN,av,aw,aY,bz,aZ,bA,a0,bB,a1,bC,am,jA,iA,bI⟩:=hcut;have bK:¬u=w.heap.size+1+1:=oM;have ba:¬w.heap.size+1+1=u:=oM;have bL:¬z=w.heap.size+1+1:=oM;have bb:¬w.heap.size+1+1=z:=oM;have bM:u<wc.heap.size:=World.block_lt_of_cell? wc _ aY;have bN:z<wc.heap.size:=World.block_lt_of_cell? wc _ aZ;have bu:w.heap.size<wc.heap.size:=World.block_lt_of_cell? wc _ a0;have bv:w.heap.size+1<wc.heap.size:=World.block_lt_of_cell? wc _ a1;have aE:w.heap.size+1+1<wc.heap.size:=World.block_lt_of_cell? wc _ am;have aX:Ua (Lm fe (p.num*q.den+q.num*p.den)):=by
   have h1:=((ab.o.1.mul ac.o.2).add (ac.o.1.mul ab.o.2)).mono (show kd+kd+1<=fe by decide);exact za h1
  have ar:=a8.ext hx;have au:=a9.ext hx;go_wp2;go_region_held3 (fun W=>W.cell? ⟨w.heap.size,0,I⟩=Y (O a m c)/\W.cell? ⟨w.heap.size,1,I⟩=Y (X s)/\W.cell? ⟨w.heap.size+1,0,I⟩=Y (O a' m' c')/\W.cell? ⟨w.heap.size+1,1,I⟩=Y (X s')/\W.cell? ⟨u,0,I⟩=Y (O x mx cx)/\W.cell? ⟨u,1,I⟩=Y (X sx)/\W.cell? ⟨z,0,I⟩=Y (O y my cy)/\W.cell? ⟨z,1,I⟩=Y (X sy)) ((repeat' (with_reducible refine And.intro ?_ ?_))<;>(first|(go_simp;done)|(refine hx1.d ?_;go_simp;done))) (first|((go_at_call 251;(with_reducible refine(jq _ (Oa #[O a m c,X s]) (Oa #[O y my cy,X sy]) p.num (q.den:Int) ?_ ?_ aS.o ah.o).mono ?_);(refine ar.ext ?_;exact eA);(refine aw.ext ?_;exact eA);rintro e l ⟨r1,rfl,r,hx1⟩;obtain⟨b1,n1,k1,t1,rfl⟩:=r.form;obtain⟨⟨an,a6⟩,ay,az,R⟩:=Sb w hx1;(have bc:=hx1.lt (n:=u) (by go_simp));(have bi:=hx1.lt (n:=z) (by go_simp))))|((go_at_call 251;(with_reducible refine(jq _ (Oa #[O a' m' c',X s']) (Oa #[O x mx cx,X sx]) q.num (p.den:Int) ?_ ?_ aT.o ag.o).mono ?_);(refine au.ext ?_;exact eA);(refine av.ext ?_;exact eA);rintro e L ⟨r2,rfl,t,j⟩;obtain⟨b2,n2,k2,t2,rfl⟩:=t.form;obtain⟨⟨K,a7⟩,aA,aB,aa⟩:=Sb w j;(have be:=j.lt (n:=u) (by go_simp));(have bj:=j.lt (n:=z) (by go_simp))))|((go_at_call 261;(with_reducible refine(JL _ (Oa #[O b1 n1 k1,X t1]) (Oa #[O b2 n2 k2,X t2]) (p.num*q.den) (q.num*p.den) ?_ ?_ ai.o aj.o).mono ?_);(refine r.ext ?_;exact eA);(refine t.ext ?_;exact eA);rintro e w3 ⟨r3,rfl,ao,ad⟩;obtain⟨b3,n3,k3,t3,rfl⟩:=ao.form;obtain⟨⟨a3,bF⟩,bn,bo,aC⟩:=Sb w ad;(have bf:=ad.lt (n:=u) (by go_simp));(have bk:=ad.lt (n:=z) (by go_simp))))|((go_at_call 251;(with_reducible refine(jq _ (Oa #[O x mx cx,X sx]) (Oa #[O y my cy,X sy]) (p.den:Int) (q.den:Int) ?_ ?_ ag.o ah.o).mono ?_);(refine av.ext ?_;exact eA);(refine aw.ext ?_;exact eA);rintro e w4 ⟨r4,rfl,ap,ae⟩;obtain⟨b4,n4,k4,t4,rfl⟩:=ap.form;obtain⟨⟨a4,bG⟩,bp,bq,aD⟩:=Sb w ae;(have bg:=ae.lt (n:=u) (by go_simp));(have bl:=ae.lt (n:=z) (by go_simp))))|((go_at_call 260;(with_reducible refine(Uy _ (Oa #[O b3 n3 k3,X t3]) (Oa #[O b4 n4 k4,X t4]) (p.num*q.den+q.num*p.den) ((p.den:Int)*q.den) ?_ ?_ aX.o aW.o (Eo p q)).mono ?_);(refine ao.ext ?_;exact eA);(refine ap.ext ?_;exact eA);rintro e w5 ⟨r5,rfl,aq,af⟩;obtain⟨b7,n5,k5,t5,b8,n6,k6,rfl⟩:=aq.form;obtain⟨⟨a5,bH⟩,br,bs,bt⟩:=Sb w af;(have bh:=af.lt (n:=u) (by go_simp));(have bm:=af.lt (n:=z) (by go_simp)))))
  all_goals go_wp2
  refine bR (v:=Oa #[O b7 n5 k5,X t5,O b8 n6 k6]) (by simp[results,Tryz.results221,go_sem,an,K,a3,a4,a5,aE,R,aa,aC,aD,am,jA,iA]) rfl ⟨_,rfl,?_,?_⟩
  ·rw[<-iz];exact aq.keep kA
  ·have bJ:Ba w l:=hx.trans ((eR wc).drew.trans hx1);exact eA
def Ev w f i p q(j:Fb w f p)(l:Fb w i q)(d:Rb kd p)(e:Rb kd q):Calls Tryz.prog 218 #[f,i] w (jg w (p-q)):=gO w f i p q j l lD d e
def RB(W:Z)(b:Nat)(q:Rat):Prop:=∃a m c s a2 m2 c2,W.heap[b]?=Y (Ob #[O a m c,X s,O a2 m2 c2] 181 (0,0))/\Fb W (Oa #[O a m c,X s,O a2 m2 c2]) q
def CT{W:Z}{g x y z T d}(h:W.heap[g]?=Y (Ob #[x,y,z] T d)) u v t:(((W.setCell ⟨g,0,I⟩ u).setCell ⟨g,1,I⟩ v).setCell ⟨g,2,I⟩ t).heap[g]?=Y (Ob #[u,v,t] T d):=by simp[World.setCell,Array.getElem?_modify,h]
section
variable {W W':Z} {b b':Nat} {n n':Rat}
def RB.ext(h:RB W b n)(k:Ba W W'):RB W' b n:=by obtain⟨a,m,c,s,a2,m2,c2,d,e⟩:=h;exact⟨a,m,c,s,a2,m2,c2,k.e d,e.ext k⟩
def RB.not(h:RB W b n):ud 2 W b:=by obtain⟨a,m,c,s,a2,m2,c2,d,i⟩:=h;intro cs f e;rw[d]at e;cases e
def RB.rd(h:RB W b n):∃a m c s a2 m2 c2,W.cell? ⟨b,0,I⟩=Y (O a m c)/\W.cell? ⟨b,1,I⟩=Y (X s)/\W.cell? ⟨b,2,I⟩=Y (O a2 m2 c2)/\W.frozen? ⟨b,0,I⟩=false/\W.frozen? ⟨b,1,I⟩=false/\W.frozen? ⟨b,2,I⟩=false/\b<W.heap.size/\Fb W (Oa #[O a m c,X s,O a2 m2 c2]) n:=by obtain⟨a,m,c,s,a2,m2,c2,d,e⟩:=h;exact⟨a,m,c,s,a2,m2,c2,Lb d (i:=0) rfl,Lb d (i:=1) rfl,Lb d (i:=2) rfl,Za d 0,Za d 1,Za d 2,Ya d,e⟩
def RB.put{a a2 m c m2 c2 s}(h:RB W b n)(f:Fb W (Oa #[O a m c,X s,O a2 m2 c2]) n'):RB (((W.setCell ⟨b,0,I⟩ (O a m c)).setCell ⟨b,1,I⟩ (X s)).setCell ⟨b,2,I⟩ (O a2 m2 c2)) b n':=by have d:=h.not;obtain⟨i,t,l,x,j,u,p,e,r⟩:=h;exact⟨a,m,c,s,a2,m2,c2,CT e _ _ _,f.keep ((((Ja.refl _ W).y d _).y (d.set _ _) _).y ((d.set _ _).set _ _) _)⟩
def RB.other{p}(h:RB W b n)(i:p.block≠b)(j:ud 2 W p.block) u:RB (W.setCell p u) b n:=by obtain⟨a,m,c,s,a2,m2,c2,d,f⟩:=h;exact⟨a,m,c,s,a2,m2,c2,(bS _ _ _ _ (fun e=>i e.symm)).trans d,f.keep ((Ja.refl _ W).y j _)⟩
def RB.new{W0 a a2 m c m2 c2 s}(e:Fb W0 (Oa #[O a m c,X s,O a2 m2 c2]) n)(d:b=W0.heap.size):RB (W0.alloc (Ob #[O a m c,X s,O a2 m2 c2] 181)) b n:=
 ⟨a,m,c,s,a2,m2,c2,mc _ _ _ d,e.ext ((eR _).alloc _)⟩
end
def mm w n(r:-9223372036854775808<=n)(t:n<=9223372036854775807):Calls Tryz.prog 215 #[C M n] w (jg w (n:Rat)):=by go_in;go_wp2_with(((go_at_call 254;(with_reducible refine(uJ _ n r t).mono ?_);rintro e K ⟨z,rfl,d,i⟩;obtain⟨a2,m2,c2,y,l,x,p,rfl⟩:=d.form;obtain⟨⟨f,u⟩,j⟩:=Jd w i)));exact bR (v:=Oa #[O a2 m2 c2,X y,O l x p]) (by simp[results,Tryz.results215,go_sem,f]) rfl ⟨_,rfl,d.keep kA,eA⟩
def NP w va vb p q(ha:Fb w va p)(hb:Fb w vb q)(d:Rb kd p)(f:Rb kd q):Calls Tryz.prog 222 #[va,vb] w (jg w (p/q)):=by obtain⟨a,m,c,s,a2,m2,c2,rfl⟩:=ha.form;obtain⟨a',m',c',s',K,ab,L,rfl⟩:=hb.form;have x:=za d;have y:=za f;clear d f;obtain⟨er,i⟩:∃er:Int,er=if (p.den:Int)*q.num=0 then 9 else 0:=⟨_,rfl⟩;have z:=za i;clear i;go_in;go_wp2_with(((go_at_call 262;(with_reducible refine(qM _ (Oa #[O a m c,X s,O a2 m2 c2]) (Oa #[O a' m' c',X s',O K ab L]) p q ?_ ?_ x.o y.o).mono ?_);(refine ha.ext ?_;exact eA);(refine hb.ext ?_;exact eA);rw[<-z.o];rintro e w1 ⟨r1,rfl,j,aa⟩;obtain⟨b1,n1,k1,t1,b2,n2,k2,rfl⟩:=j.form;obtain⟨⟨R,ae⟩,ac,ad,l⟩:=Sb w aa;have r:w.heap.size<w1.heap.size+1:=oM;have t:w.heap.size+1<w1.heap.size+1:=oM;have u:w.heap.size+1+1<w1.heap.size+1:=oM)));exact bR (v:=Oa #[O b1 n1 k1,X t1,O b2 n2 k2]) (by simp[results,Tryz.results222,go_sem,R,l]) rfl ⟨_,rfl,j.keep kA,eA⟩
def Ft{k}:∀{cs:List (List J)}{i j c},(∀c∈cs,c.length=k)->cs[i]?=Y c->j<k->cs.flatten[i*k+j]?=c[j]?
 | [],i,j,c,_,h,_=>by simp at h
 | d::cs,0,j,c,hk,h,hj=>by
  simp at h;subst h;rw[List.flatten_cons,Nat.zero_mul,Nat.zero_add,List.getElem?_append_left (by rw[hk d (by simp)];exact hj)]
 | d::cs,i+1,j,c,hk,h,hj=>by
  have e:=hk d sM;rw[List.flatten_cons,List.getElem?_append_right (by rw[e,Nat.add_mul];omega),e,show (i+1)*k+j-k=i*k+j by rw[Nat.add_mul];omega];exact Ft (fun c f=>hk c (mC _ f)) (by simpa using h) hj
def Sl{α:Type}(T:TypeId)(k:Nat)(P:Z->List J->α->Prop)(w:Z)(v:J)(xs:List α):Prop:=
 ∃cs:List (List J),cs.length=xs.length/\(∀c∈cs,c.length=k)/\Rd w T k v xs.length cs.flatten/\∀(i:Nat) c x,cs[i]?=Y c->xs[i]?=Y x->P w c x
section
variable {α:Type} {T:TypeId} {k:Nat} {P:Z->List J->α->Prop} {w w':Z} {v:J} {xs:List α} {a:Option Od} {n c:Nat}
def Sl.form(h:Sl T k P w v xs):∃a c,v=O a xs.length c:=by obtain⟨cs,_,_,h,_⟩:=h;exact h.form
def Sl.len(h:Sl T k P w (O a n c) xs):n=xs.length:=by obtain⟨cs,_,_,h,_⟩:=h;exact h.eqn
def Sl.le(h:Sl T k P w (O a n c) xs):xs.length<=c/\c<=maxLen:=by obtain⟨cs,_,_,h,_⟩:=h;exact h.le
def Sl.ext(h:Sl T k P w v xs)(l:∀c x,P w c x->P w' c x)(r:Ba w w'):Sl T k P w' v xs:=by obtain⟨cs,d,e,f,j⟩:=h;exact⟨cs,d,e,f.ext r,fun i c x p t=>l _ _ (j i c x p t)⟩
def Sl.keep(h:Sl T k P w v xs)(l:∀c x,P w c x->P w' c x)(r:Ja T w w'):Sl T k P w' v xs:=by obtain⟨cs,d,e,f,j⟩:=h;exact⟨cs,d,e,f.keep r,fun i c x p t=>l _ _ (j i c x p t)⟩
def Sl.at(h:Sl T k P w (O a n c) xs){i x}(t:xs[i]?=Y x):∃b o d,a=Y ⟨b,o,I⟩/\b<w.heap.size/\d.length=k/\P w d x/\∀(j:Nat) u,d[j]?=Y u->w.cell? ⟨b,o+i*k+j,I⟩=Y u:=by
 obtain⟨cs,y,p,z,K⟩:=h;have hi:=(lS.1 t).1;obtain⟨d,f⟩:∃d,cs[i]?=Y d:=⟨cs[i]' oM,by simp[y,hi]⟩;obtain⟨b,o,rfl,L,_,R⟩:=z.open oM;have e:=p d (lM f);refine⟨b,o,d,rfl,L,e,K i d x f t,fun j u r=>?_⟩;have l:j<k:=by rw[<-e];exact(lS.1 r).1
 have:=R (i*k+j) u (by rw[Ft p f l];exact r)
 rwa [<-Nat.add_assoc]at this
end
def PR(w:Z)(c:List J)(q:Rat):Prop:=Fb w (Oa c.toArray) q
abbrev ii(w:Z)(v:J)(qs:List Rat):Prop:=Sl 181 3 PR w v qs
def ii.f{w w' v d}(h:ii w v d)(k:Ba w w'):ii w' v d:=Sl.ext h (fun _ _ h=>Fb.ext h k) k
def ii.at'{w a n c l}(h:ii w (O a n c) l){i q}(u:l[i]?=Y q):∃b o a1 m1 c1 s1 a2 m2 c2,a=Y ⟨b,o,I⟩/\b<w.heap.size/\Fb w (Oa #[O a1 m1 c1,X s1,O a2 m2 c2]) q/\w.cell? ⟨b,o+i*3,I⟩=Y (O a1 m1 c1)/\w.cell? ⟨b,o+i*3+1,I⟩=Y (X s1)/\w.cell? ⟨b,o+i*3+2,I⟩=Y (O a2 m2 c2):=by
 obtain⟨b,o,d,rfl,t,x,r,j⟩:=Sl.at h u;have f:Fb w (Oa d.toArray) q:=r;obtain⟨a1,m1,c1,s1,a2,m2,c2,e⟩:=f.form;have p:d=[O a1 m1 c1,X s1,O a2 m2 c2]:=by
  have:d.toArray=#[O a1 m1 c1,X s1,O a2 m2 c2]:=by cases e;rfl
  simpa using congrArg Array.toList this
 subst p;exact⟨b,o,a1,m1,c1,s1,a2,m2,c2,rfl,t,f,j 0 _ rfl,j 1 _ rfl,j 2 _ rfl⟩
end
section
open Go.RowKit
def C4:Int:=10000
def Ok:(0:Int)<C4:=dM
def BI{x:Int}(h:Int.tmod x 10000<0):Int.tmod x 10000+10000=x%10000/\Int.tdiv x 10000-1=x/10000:=by
 by_cases d:0<=x
 ·rw[Int.tmod_eq_emod_of_nonneg d]at h;omega
 ·obtain⟨y,rfl⟩:∃y,x = -y:=⟨-x,by omega⟩;rw[Int.neg_tmod,Int.neg_tdiv]at *;rw[Int.tmod_eq_emod_of_nonneg oM,Int.tdiv_eq_ediv_of_nonneg oM]at *;omega
def AI{x:Int}(h:¬Int.tmod x 10000<0):Int.tmod x 10000=x%10000/\Int.tdiv x 10000=x/10000:=by
 by_cases d:0<=x
 ·rw[Int.tmod_eq_emod_of_nonneg d,Int.tdiv_eq_ediv_of_nonneg d];exact⟨rfl,rfl⟩
 ·obtain⟨y,rfl⟩:∃y,x = -y:=⟨-x,by omega⟩;rw[Int.neg_tmod,Int.neg_tdiv]at *;rw[Int.tmod_eq_emod_of_nonneg oM,Int.tdiv_eq_ediv_of_nonneg oM]at *;omega
def AK(f xs:List Int) i x d(j:f.length=i)(l:xs[i]?=Y x)(h:dv C4 (xs.take i)=dv C4 f+C4 ^ i*d):dv C4 (xs.take (i+1))=dv C4 (f++[(d+x)%10000])+C4 ^ (i+1)*((d+x)/10000):=by
 rw[Pn C4 xs i x l,Nn,h,j,Int.pow_succ];have e:d+x=(d+x)%10000+C4*((d+x)/10000):=by unfold C4;omega
 generalize (d+x)%10000=r at *
 generalize (d+x)/10000=q at *
 have:C4 ^ i*(d+x)=C4 ^ i*(r+C4*q):=by rw[e]
 grind
def PC xs f i d(j:f.length=i)(h:dv C4 xs=dv C4 f+C4 ^ i*d):dv C4 xs=dv C4 (f++[d%10000])+C4 ^ (i+1)*(d/10000):=by
 rw[Nn,h,j,Int.pow_succ];have e:d=d%10000+C4*(d/10000):=by unfold C4;omega
 generalize d%10000=r at *
 generalize d/10000=q at *
 subst e;grind
def GK k:B ^ k<=C4 ^ (2*k):=by
 induction k with
 | zero=>simp
 | succ k f =>
  have e:C4 ^ (2*(k+1))=C4 ^ (2*k)*100000000:=by rw[show 2*(k+1)=2*k+2 by omega,Int.pow_add];rfl
  have d:B ^ (k+1)=B ^ k*16777216:=by rw[Int.pow_succ];rfl
  have p:=Tj zj k;rw[e,d];omega
def Lr{k n ds}(h:Lm k n)(f:Cg C4 ds)(hv:dv C4 ds=(n.natAbs:Int)):ds.length<=2*k:=by
 by_cases d:ds=[]
 ·subst d;simp
 ·have i:=qv Ok f d;have j:=GK k;by_cases e:ds.length<=2*k
  ·exact e
  ·have:=On (b:=C4) dM (show 2*k<=ds.length-1 by omega);unfold Lm at h;omega
def Tu{a b:Int}(h:a<b):(a-b).sign = -1:=Int.sign_eq_neg_one_of_neg oM
def Uu{a b:Int}(h:b<a):(a-b).sign=1:=Int.sign_eq_one_of_pos oM
def OI{xs d}(e:Cg C4 xs)(f:Cg C4 d)(h:xs.length≠d.length):((xs.length:Int)-(d.length:Int)).sign=(dv C4 xs-dv C4 d).sign:=by
 rcases Nat.lt_or_gt_of_ne h with h|h
 ·rw[Tu oM,Tu (It dM e.1 f h)]
 ·rw[Uu oM,Uu (It dM f.1 e h)]
def YD{l i}{x:Int}(h:l[i]?=Y x):l=l.take i++x::l.drop (i+1):=by
 have d:=(lS.1 h).1;have e:l.drop i=x::l.drop (i+1):=by
  rw[List.drop_eq_getElem_cons d];rw[(lS.1 h).2]
 rw[<-e,List.take_append_drop]
def QI{xs e}(R:Cg C4 xs)(hy:Cg C4 e)(L:xs.length=e.length){i x y}(z:xs[i]?=Y x)(K:e[i]?=Y y)(f:xs.drop (i+1)=e.drop (i+1))(j:x≠y):(x-y).sign=(dv C4 xs-dv C4 e).sign:=by
 have t:=YD z;have u:=YD K;have l:Wd C4 (xs.take i):=fun d f=>R.1 d (List.mem_of_mem_take f);have p:Wd C4 (e.take i):=fun d f=>hy.1 d (List.mem_of_mem_take f);have r:(xs.take i).length=(e.take i).length:=by simp[L]
 rcases Int.lt_or_gt_of_ne j with h|h
 ·rw[Tu h,Tu];rw[t,u,f];exact Sz dM l r p h
 ·rw[Uu h,Uu];rw[t,u,f];exact Sz dM p r.symm l h
def RK{xs d:List Int}{i x}(e:xs[i]?=Y x)(f:d[i]?=Y x)(j:xs.drop (i+1)=d.drop (i+1)):xs.drop i=d.drop i:=by have a:=(lS.1 e).1;have b:=(lS.1 f).1;rw[List.drop_eq_getElem_cons a,List.drop_eq_getElem_cons b,j,(lS.1 e).2,(lS.1 f).2]
def vi(n:Int):(n.sign = -1/\n<0)\/(n.sign=0/\n=0)\/(n.sign=1/\0<n):=by
 rcases Int.lt_trichotomy n 0 with h|h|h
 ·exact .inl ⟨Int.sign_eq_neg_one_of_neg h,h⟩
 ·exact .inr (.inl ⟨by rw[h];rfl,h⟩)
 ·exact .inr (.inr ⟨Int.sign_eq_one_of_pos h,h⟩)
def fD{b os p z} y(h:os[p]?=Y z):dv b (os.set p (z+y))=dv b os+b ^ p*y:=by rw[Ko _ h];congr 2;omega
def uQ{os d V:List Int}{j s x y}(e:os[j]?=Y x)(f:d[j]?=Y y)(h:dv C4 os=dv C4 V+s*dv C4 (d.take j)):dv C4 (os.set j (x+s*y))=dv C4 V+s*dv C4 (d.take (j+1)):=by rw[fD _ e,Pn C4 d j y f,h];grind
def Pj(os:List Int)(j:Nat):Prop:=∀p z,os[p]?=Y z -> -10000<=z/\z<=20000/\(j<=p->0<=z/\z<10000)
def Pj.start{os}(h:Wd C4 os):Pj os 0:=fun p z d=>by have:=h z (lM d);unfold C4 at this;omega
def Pj.step{os j x u}(h:Pj os j)(l:os[j]?=Y x)(f:-10000<=u)(i:u<=20000):Pj (os.set j u) (j+1):=by
 intro p z d;by_cases e:j=p
 ·subst e;rw[List.getElem?_set_self (lS.1 l).1]at d;cases d;exact⟨f,i,fun h=>by omega⟩
 ·rw[List.getElem?_set_ne e]at d;have:=h p z d;exact⟨this.1,this.2.1,fun r=>this.2.2 oM⟩
def Pj.big{os j}(h:Pj os j):∀x∈os,-100000000000000<=x/\x<=100000000000000:=by intro x e;obtain⟨p,d,rfl⟩:=List.getElem_of_mem e;have:=h p _ (gE d);omega
def MQ{os d:List Int}{i k x y z V}(f:os[i+k]?=Y z)(e:d[k]?=Y y)(h:dv C4 os=V+C4 ^ i*(x*dv C4 (d.take k))):dv C4 (os.set (i+k) (z+x*y))=V+C4 ^ i*(x*dv C4 (d.take (k+1))):=by rw[fD _ f,Pn C4 d k y e,h,Int.pow_add];grind
def CN{xs d:List Int}{i k x V D}(j:d.length=k)(f:xs[i]?=Y x)(h:D=V+C4 ^ i*(x*dv C4 (d.take k)))(e:V=dv C4 (xs.take i)*dv C4 d):D=dv C4 (xs.take (i+1))*dv C4 d:=by rw[h,e,lT (l:=d) oM,Pn C4 xs i x f,Int.add_mul,Int.mul_assoc]
def fi(os:List Int)(i k:Nat):Prop:=∀p z,os[p]?=Y z->0<=z/\z<=((i:Int)+1)*100000000/\(i+k<=p->z<=(i:Int)*100000000)
def fi.start n:fi (List.replicate n 0) 0 0:=fun p z d=>by
 have:=(List.mem_replicate.1 (lM d)).2;omega
def fi.step{os i k z y}(h:fi os i k)(f:os[i+k]?=Y z)(j:0<=y)(l:y<=100000000):fi (os.set (i+k) (z+y)) i (k+1):=by
 intro p u d;by_cases e:i+k=p
 ·subst e;rw[List.getElem?_set_self (lS.1 f).1]at d;cases d;have:=h _ _ f;exact⟨by omega,by omega,fun h=>by omega⟩
 ·rw[List.getElem?_set_ne e]at d;have:=h p u d;exact⟨this.1,this.2.1,fun r=>this.2.2 oM⟩
def fi.next{os i k}(h:fi os i k):fi os (i+1) 0:=by intro p u d;have:=h p u d;omega
def fi.big{os i k}(h:fi os i k)(hi:i<=900000):∀x∈os,-100000000000000<=x/\x<=100000000000000:=by intro x e;obtain⟨p,d,rfl⟩:=List.getElem_of_mem e;have:=h p _ (gE d);omega
def Yz{x y}(e:0<=x/\x<C4)(d:0<=y/\y<C4):0<=x*y/\x*y<=100000000:=by unfold C4 at *;have f:=Int.mul_nonneg e.1 d.1;have i:x*y<=9999*9999:=Int.mul_le_mul oM oM d.1 oM;omega
def YL(n m:Int):n.sign*m.sign=(n*m).sign:=by rw[Int.sign_mul]
def ZD n:n.sign*(n.natAbs:Int)=n:=Int.sign_mul_natAbs n
def NK n m(h:(m.natAbs:Int)<=n.natAbs):0<=(n.natAbs:Int)+n.sign*m.sign*(m.natAbs:Int)/\n.sign*((n.natAbs:Int)+n.sign*m.sign*(m.natAbs:Int))=n+m:=by rcases vi n with ⟨e,f⟩|⟨e,f⟩|⟨e,f⟩<;>rcases vi m with ⟨d,i⟩|⟨d,i⟩|⟨d,i⟩<;>rw[e,d]<;>omega
def uM{xs d:List Int}{i a q D R}(e:xs[i]?=Y a)(f:d[i]?=Y q)(h:dv C4 (xs.drop (i+1))=dv C4 (d.drop (i+1))*D+R):dv C4 (xs.drop i)=dv C4 (d.drop i)*D+(a+C4*R-q*D):=by have j:=(lS.1 e).1;have b':=(lS.1 f).1;rw[List.drop_eq_getElem_cons j,List.drop_eq_getElem_cons b',(lS.1 e).2,(lS.1 f).2,Em,Em,h];grind
def IC{n d Q R N}(L:d≠0)(h:(n.natAbs:Int)=Q*(d.natAbs:Int)+R)(u:0<=R)(x:R<(d.natAbs:Int)):(¬(n<0/\R≠0)->N=n.sign*Q->(if d<0 then -N else N)=n/d/\R=n%d)/\((n<0/\R≠0)->N=n.sign*Q-1->(if d<0 then -N else N)=n/d/\(d.natAbs:Int)-R=n%d):=by
 have key:∀A r:Int,n=A*d+r->0<=r->r<(d.natAbs:Int)->A=n/d/\r=n%d:=by
  intro A r e z r1;rcases Int.lt_or_gt_of_ne L with l | l
  ·have:=Int.ediv_emod_unique (a:=n) (b:=-d) (r:=r) (q:=-A) oM;have f:=this.2 ⟨by rw[e];grind,z,by omega⟩;rw[Int.ediv_neg,Int.emod_neg]at f;exact⟨by omega,f.2.symm⟩
  ·have:=Int.ediv_emod_unique (a:=n) (b:=d) (r:=r) (q:=A) l;have f:=this.2 ⟨by rw[e];grind,z,by omega⟩;exact⟨f.1.symm,f.2.symm⟩
 have j:(d.natAbs:Int)=if d<0 then -d else d:=by split<;>omega
 refine⟨fun t p=>key _ _ ?_ u x,fun t p=>key _ _ ?_ oM oM⟩
 ·subst p;rw[j]at h;rcases vi n with ⟨e,f⟩|⟨e,f⟩|⟨e,f⟩
  ·have i:R=0:=by
    by_cases i:R=0
    ·exact i
    ·exact absurd ⟨f,i⟩ t
   subst i;rw[e];split at h<;>rename_i za<;>simp only[za,if_true,if_false]<;>grind
  ·subst f;have i:R=0:=by
    (have hp:(0:Int)<if d<0 then -d else d:=by split<;>omega);have hq:Q*(if d<0 then -d else d) = -R:=oM;(have hm:(-R)%(if d<0 then -d else d)=0:=by rw[<-hq];exact Int.mul_emod_left ..);have y:R%(if d<0 then -d else d)=0:=by
     have:=Int.emod_eq_zero_of_dvd ((Int.dvd_neg).1 (Int.dvd_of_emod_eq_zero hm));exact this
    rw[Int.emod_eq_of_lt u (by rw[<-j];exact x)]at y;exact y
   have K:Q=0:=by
    subst i;have:Q*(if d<0 then -d else d)=0:=oM;rcases Int.mul_eq_zero.1 this with h|h
    ·exact h
    ·split at h<;>omega
   subst i K;simp
  ·rw[e];split at h<;>rename_i za<;>simp only[za,if_true,if_false]<;>grind
 ·subst p;obtain⟨f,h3⟩:=t;rw[Int.sign_eq_neg_one_of_neg f];rw[j]at h ⊢;split at h<;>rename_i za<;>simp only[za,if_true,if_false]<;>grind
end
section
open Go.RowKit Go.Shelf
def Cd(w:Z)(v:J)(n:Int):Prop:=∃sl ds,v=Oa #[C M n.sign,sl]/\Mc 3 w sl ds/\Cg C4 ds/\dv C4 ds=(n.natAbs:Int)
section
variable {w w':Z} {v:J} {n:Int} {s:Int} {a:Option Od} {m c:Nat}
def Cd.ext(h:Cd w v n)(k:Ba w w'):Cd w' v n:=by obtain⟨sl,ds,d,e,f,i⟩:=h;exact⟨sl,ds,d,e.ext k,f,i⟩
def Cd.keep(h:Cd w v n)(k:Ja 3 w w'):Cd w' v n:=by obtain⟨sl,ds,d,e,f,i⟩:=h;exact⟨sl,ds,d,e.keep k,f,i⟩
def Cd.form(h:Cd w v n):∃a m c,v=Oa #[C M n.sign,O a m c]:=by obtain⟨sl,ds,rfl,d,e,f⟩:=h;obtain⟨a,c,rfl⟩:=d.form;exact⟨_,_,_,rfl⟩
def Cd.j(h:Cd w v n):∃s a m c,v=Oa #[C M s,O a m c]/\s=n.sign:=by obtain⟨a,m,c,rfl⟩:=h.form;exact⟨_,_,_,_,rfl,rfl⟩
def Cd.sgn(h:Cd w (Oa #[C M s,O a m c]) n):s=n.sign:=by obtain⟨sl,ds,d,e,f,i⟩:=h;cases d;rfl
def Cd.open(h:Cd w (Oa #[C M s,O a m c]) n):∃ds,ds.length=m/\Mc 3 w (O a m c) ds/\Cg C4 ds/\dv C4 ds=(n.natAbs:Int):=by obtain⟨sl,ds,e,d,f,i⟩:=h;cases e;exact⟨ds,d.len.symm,d,f,i⟩
def Cd.nil w:Cd w (Oa #[C M 0,O I 0 0]) 0:=⟨_,[],rfl,Mc.nil _ _,Cg.nil _,rfl⟩
end
def Zh(w:Z)(n:Int)(e:Ending)(w':Z):Prop:=∃r,e=.returned r/\Cd w' r n/\Ba w w'
def Rf(w:Z)(base:Nat)(v:J)(n:Int):Prop:=∃sl ds,v=Oa #[C M n.sign,sl]/\Cb 3 w base sl ds/\Cg C4 ds/\dv C4 ds=(n.natAbs:Int)
section
variable {w w':Z} {v:J} {n:Int} {base:Nat}
def Rf.isN(h:Rf w base v n):Cd w v n:=by obtain⟨sl,ds,d,e,f,i⟩:=h;exact⟨sl,ds,d,e.ints,f,i⟩
def Rf.keep(h:Rf w base v n)(k:Ja 3 w w'):Rf w' base v n:=by obtain⟨sl,ds,d,e,f,i⟩:=h;exact⟨sl,ds,d,e.keep k,f,i⟩
def Rf.ext(h:Rf w base v n)(k:Ba w w'):Rf w' base v n:=h.keep k.keep
def Rf.mono{b'}(h:Rf w base v n)(j:b'<=base):Rf w b' v n:=by obtain⟨sl,ds,d,e,f,i⟩:=h;exact⟨sl,ds,d,e.mono j,f,i⟩
def Rf.j(h:Rf w base v n):∃s a m c,v=Oa #[C M s,O a m c]/\s=n.sign:=h.isN.j
def Rf.nil w base:Rf w base (Oa #[C M 0,O I 0 0]) 0:=⟨_,[],rfl,Cb.nil _ _ _,Cg.nil _,rfl⟩
end
def nl(w:Z)(n:Int)(e:Ending)(w':Z):Prop:=∃r,e=.returned r/\Rf w' w.heap.size r n/\Ba w w'
def Iw{f args w n}(h:Calls Tryz.prog f args w (nl w n)):Calls Tryz.prog f args w (Zh w n):=
 h.mono fun _ _ ⟨r,d,e,i⟩=>⟨r,d,e.isN,i⟩
def Ek:(Tryz.prog.info? 3).map (fun i=>(i.zero,i.size,i.bytes))=Y (Y (C M 0),1,8):=kM
def yH{s D N}(f:s=1\/s = -1)(d:0<D)(e:N=s*D):N.sign=s/\(N.natAbs:Int)=D:=by
 subst e;rcases f with rfl|rfl
 ·rw[Int.one_mul,Int.sign_eq_one_of_pos d];omega
 ·rw[Int.neg_one_mul,Int.sign_eq_neg_one_of_neg oM];omega
def YU(xs:List Int)(n:Nat)(w:Z)(t5 f j:J)(wr:Z):Prop:=
 ∃(i:Nat)(e:List Int)(d:Int),j=C M i/\f=C M d/\e.length=i/\Wd C4 e/\dv C4 (xs.take i)=dv C4 e+C4 ^ i*d/\ -100000000000<=d/\d+((i-n:Nat):Int)<=100000000000/\
  Cb 3 wr (w.heap.size+1) t5 e/\Ba w wr/\w.heap.size<wr.heap.size/\wr.heap[w.heap.size]?=Y (Ob #[C M 0,O I 0 0] 163 (0,0))
def XU(D:Int)(w:Z)(t5:J)(wr:Z):Prop:=
 ∃(d:List Int),dv C4 d=D/\Wd C4 d/\d.length<=1000000000000/\Cb 3 wr (w.heap.size+1) t5 d/\Ba w wr/\w.heap.size<wr.heap.size/\wr.heap[w.heap.size]?=Y (Ob #[C M 0,O I 0 0] 163 (0,0))
def FC{xs e:List Int}{i x d r q}(f:e.length=i)(p:xs[i]?=Y x)(h:dv C4 (xs.take i)=dv C4 e+C4 ^ i*d)(l:r=(d+x)%10000)(j:q=(d+x)/10000):dv C4 (xs.take (i+1))=dv C4 (e++[r])+C4 ^ (i+1)*q:=by subst l j;exact AK e xs i x d f p h
def IL{xs e:List Int}{i d r q}(f:e.length=i)(p:xs.length<=i)(h:dv C4 (xs.take i)=dv C4 e+C4 ^ i*d)(l:r=d%10000)(j:q=d/10000):dv C4 (xs.take (i+1))=dv C4 (e++[r])+C4 ^ (i+1)*q:=by subst l j;rw[lT oM]at h ⊢;exact PC xs e i d f h
def LI{xs e i d}(p:e.length=i)(r:xs.length<=i)(l:Wd C4 e)(h:dv C4 (xs.take i)=dv C4 e+C4 ^ i*d)(u:0<=dv C4 xs):0<=d:=by
 rw[lT r]at h;have f:=(Yi Ok l).2;rw[p]at f;have t:=Tj Ok i;by_cases j:0<=d
 ·exact j
 ·have:C4 ^ i*d<=C4 ^ i*(-1):=Int.mul_le_mul_of_nonneg_left oM oM;omega
def Bx w s v xs N(hI:Mc 3 w v xs)(ar:xs.length<=2000000)(hx:∀x∈xs,-100000000000000<=x/\x<=100000000000000)(ag:0<=dv C4 xs)(hN:N=s*dv C4 xs)(hs:dv C4 xs≠0->s=1\/s = -1):Calls Tryz.prog 213 #[C M s,v] w (nl w N):=by
 obtain⟨a,c,rfl⟩:=hI.form;obtain⟨n,hn⟩:=gX xs.length;rw[hn]at ar ⊢;have Hn:=za hn;have HI:=za hI;have HN:=za hN;have Hs:=za hs;have am:=za ag;clear hn hI hN hs ag;go_in;go_wp2;go_loopw [5,6,7] (YU xs n w) (fun _ t6 t7 _=>(n-(intOf t7).toNat)*1000000000000+(intOf t6+100000000000).toNat)
 case atStart=>exact⟨0,[],0,rfl,rfl,rfl,Wd.nil _,by simp,by omega,by omega,Cb.nil _ _ _,(eR w).alloc _,by simp,aN w _⟩
 case round =>
  obtain⟨i,ys,cy,rfl,rfl,ay,R,hv,aD,aE,u,L,au,ah⟩:=hrel;have l:=za ay;have Hv:=za hv;have y:=za ah;clear ay hv ah;obtain⟨oa,oc,rfl⟩:=u.form;rw[l.o]at u ⊢;by_cases ak:i<n
  ·have az:ys.length<=1000000000000:=by rw[l.o];omega
   obtain⟨b,o,rfl,aK,ap⟩:=(HI.o.ext L).open (by rw[Hn.o];omega);obtain⟨x,ae⟩:∃x,xs[i]?=Y x:=⟨xs[i]'(by rw[Hn.o];exact ak),by simp[Hn.o,ak]⟩;have aj:=ap i x ae;have aO:=hx x (lM ae);have ao:=za ae;have Hx:=za hx;clear ae ap hx;have g1:(i:Int)<(n:Int):=oM;have g2:(0:Int)<=(i:Int):=oM;obtain⟨r,hr⟩:=gX (Int.tmod (cy+x) 10000);obtain⟨q,hq⟩:=gX (Int.tdiv (cy+x) 10000);by_cases ab:r<0
   ·obtain⟨e1,e2⟩:=BI (x:=cy+x) (by rw[hr];exact ab);rw[hr]at e1;rw[hq]at e2;have E1:=za e1;have E2:=za e2;have r1:-10000<=r:=oM;have q1:-100000000000<=q-1:=oM;have q2:q-1<=99999999999:=oM;clear e1 e2;go_wp2_with(at_builtin;refine lj Ek Tryz.underlying47 rfl _ _ rfl rfl u rfl oM oM ?_;intro v' w1 d f t);go_roundw
    case rel =>
     refine⟨i+1,_,_,by go_num,rfl,by simp[l.o],R.snoc oM (by unfold C4;omega),FC l.o ao.o Hv.o E1.o E2.o,by omega,by omega,d,L.D f oM,?_,?_⟩
     ·have:=f.size;omega
     ·exact t.get y.o dM
    case measure=>simp[intOf];omega
   ·obtain⟨e1,e2⟩:=AI (x:=cy+x) (by rw[hr];exact ab);rw[hr]at e1;rw[hq]at e2;have E1:=za e1;have E2:=za e2;have r1:0<=r:=oM;have r2:r<10000:=oM;have q1:-100000000000<=q:=oM;have q2:q<=99999999999:=oM;clear e1 e2;go_wp2_with(at_builtin;refine lj Ek Tryz.underlying47 rfl _ _ rfl rfl u rfl oM oM ?_;intro v' w1 d f t);go_roundw
    case rel =>
     refine⟨i+1,_,_,by go_num,rfl,by simp[l.o],R.snoc oM (by unfold C4;omega),FC l.o ao.o Hv.o E1.o E2.o,by omega,by omega,d,L.D f oM,?_,?_⟩
     ·have:=f.size;omega
     ·exact t.get y.o dM
    case measure=>simp[intOf];omega
  ·have aF:=LI l.o (by rw[Hn.o];omega) R Hv.o am.o;by_cases ac:cy=0
   ·have aw:dv C4 ys=dv C4 xs:=by
     have:=Hv.o;rw[ac,lT (by rw[Hn.o];omega)]at this;rw[this];simp
    have an:=za aw;subst ac;clear aw aF aD Hv;have ai:i<=1000000000000:=oM;have g1:¬(i:Int)<(n:Int):=oM;go_wp2;go_loopw [5] (XU (dv C4 xs) w) (fun t5 _=>match t5 with | O _ n _=>n|_=>0)
    case atStart=>exact⟨ys,an.o,R,by rw[l.o];exact ai,u,L,au,y.o⟩
    case round =>
     clear u L au y an l ai aE R g1 ak;obtain⟨us,ax,al,aH,d,aI,av,j⟩:=hrel;obtain⟨a3,c3,rfl⟩:=d.form;have aA:=Aa j 0 (C M 0);have aB:=Aa j 1 (O I 0 0);have aQ:=Za j 0;have aR:=Za j 1;have z:=za j;have aa:=za ax;clear j ax;rcases lF us with rfl|⟨K,x,rfl⟩
     ·have hd:decide ((0:Int)<(([]:List Int).length:Int))=false:=sM;go_wp2;refine bR (v:=Oa #[C M 0,O I 0 0]) (by simp[results,Tryz.results213,go_sem,aA,aB]) rfl ⟨_,rfl,?_,eA⟩;(have e:N=0:=by rw[HN.o,<-aa.o];simp);rw[e];exact Rf.nil _ _
     ·obtain⟨g,rfl,hg,aL⟩:=d.blk sM;have aj:wr.cell? ⟨g,K.length,I⟩=Y (C M x):=d.cell sM;have aq:=d.ints.le;simp only[lA,List.length_singleton]at d aq aH ⊢;unfold maxLen at aq;by_cases ad:x=0
      ·subst ad;go_wp2;go_roundw
       case rel =>
        refine⟨K,?_,(Wd.of_append al).1,by omega,d.pop,aI,av,z.o⟩;have:=aa.o;rw[Nn]at this;omega
       case measure=>simp
      ·(have aM:(x==0)=false:=by simpa using ad);have aC:=za ad;clear ad;have af:Cg C4 (K++[x]):=⟨al,by simpa using aC.o⟩;have hD:0<dv C4 (K++[x]):=by
        have h1:=(Yi Ok al).1;(have h2:dv C4 (K++[x])≠0:=fun e=>by have:=(tE Ok af).1 e;simp at this);omega
       obtain⟨n1,n2⟩:=yH (Hs.o (by rw[<-aa.o];omega)) (by rw[<-aa.o];exact hD) HN.o;have N1:=za n1;have N2:=za n2;clear n1 n2 hD;go_wp2;refine bR (v:=Oa #[C M s,O (Y ⟨g,0,I⟩) (K.length+1) c3]) (by simp[results,Tryz.results213,go_sem,aA,aB]) rfl ⟨_,rfl,⟨_,K++[x],(by rw[N1.o]),?_,af,aa.o.trans N2.o.symm⟩,eA⟩;refine((d.setOther (p:=⟨w.heap.size,0,I⟩) (d.ne_block z.o dM) _).setOther (p:=⟨w.heap.size,1,I⟩) (d.ne_block z.o dM) _).mono (Nat.le_succ _)
   ·have aP:0<cy:=oM;(have aG:xs.length<=i:=by rw[Hn.o];omega);(have az:ys.length<=1000000000000:=by rw[l.o];omega);(have aJ:(cy != 0)=true:=by simpa using ac);have g1:¬(i:Int)<(n:Int):=oM;obtain⟨r,hr⟩:=gX (Int.tmod cy 10000);obtain⟨q,hq⟩:=gX (Int.tdiv cy 10000);(have e1:r=cy%10000:=by rw[<-hr,Int.tmod_eq_emod_of_nonneg oM]);(have e2:q=cy/10000:=by rw[<-hq,Int.tdiv_eq_ediv_of_nonneg oM]);have r1:0<=r:=oM;have r2:r<10000:=oM;have q1:0<=q:=oM;have q2:q<cy:=oM;have ab:¬r<0:=oM;have E1:=za e1;have E2:=za e2;clear e1 e2 ac;go_wp2_with(at_builtin;refine lj Ek Tryz.underlying47 rfl _ _ rfl rfl u rfl oM oM ?_;intro v' w1 d f t);go_roundw
    case rel =>
     refine⟨i+1,_,_,by go_num,rfl,by simp[l.o],R.snoc oM (by unfold C4;omega),IL l.o aG Hv.o E1.o E2.o,by omega,by omega,d,L.D f oM,?_,?_⟩
     ·have:=f.size;omega
     ·exact t.get y.o dM
    case measure=>simp[intOf];omega
def Zs w s v xs N(f:Mc 3 w v xs)(d:xs.length<=2000000)(l:∀x∈xs,-100000000000000<=x/\x<=100000000000000)(e:0<=dv C4 xs)(i:N=s*dv C4 xs)(j:dv C4 xs≠0->s=1\/s = -1):Calls Tryz.prog 213 #[C M s,v] w (Zh w N):=Iw (Bx w s v xs N f d l e i j)
def Ea(T:TypeId)(k:Nat)(w:Z)(base:Nat)(v:J)(cs:List (List J)):Prop:=(∀c∈cs,c.length=k)/\w.ownsRow base T k v cs.length cs.flatten
def Fm{k}:∀{cs:List (List J)},(∀c∈cs,c.length=k)->cs.flatten.length=cs.length*k
 | [],_=>by simp
 | d::cs,h=>by
  rw[List.flatten_cons,lA,Fm (fun c e=>h c (mC _ e)),h d (by simp),List.length_cons,Nat.add_mul];omega
def Kt{k}:∀{cs:List (List J)} m ,(∀c∈cs,c.length=k)->m<=cs.length->cs.flatten.take (m*k)=(cs.take m).flatten
 | _,0,_,_=>by simp
 | [],m+1,_,h=>by simp at h
 | d::cs,m+1,h,hm=>by
  have e:=h d sM;rw[List.flatten_cons,List.take_append,e,lT (by rw[e,Nat.add_mul];omega),show (m+1)*k-k=m*k by rw[Nat.add_mul];omega,
   Kt m (fun c f=>h c (mC _ f)) (by simpa using hm),List.take_succ_cons,List.flatten_cons]
section
variable {T:TypeId} {k:Nat} {w w':Z} {base:Nat} {v:J} {cs ds:List (List J)} {a:Option Od} {n c g:Nat}
def Ea.rd(h:Ea T k w base v cs):Rd w T k v cs.length cs.flatten:=Rd.of_own h.2
def Ea.sl{α P}{xs:List α}(h:Ea T k w base v cs)(d:cs.length=xs.length)(e:∀(i:Nat) c x,cs[i]?=Y c->xs[i]?=Y x->P w c x):Sl T k P w v xs:=
 ⟨cs,d,h.1,by rw[<-d];exact h.rd,e⟩
def Ea.nil T k w base:Ea T k w base (O I 0 0) []:=⟨by simp,World.ownsRow_nil w base T k⟩
def Ea.form(h:Ea T k w base v cs):∃a c,v=O a cs.length c:=Ms h.2
def Ea.i(h:Ea T k w base v cs):∃a n c,v=O a n c:=by obtain⟨a,c,h⟩:=Ms h.2;exact⟨a,_,c,h⟩
def Ea.len(h:Ea T k w base (O a n c) cs):n=cs.length:=by obtain⟨a,e,d⟩:=Ms h.2;cases d;rfl
def Ea.keep(h:Ea T k w base v cs)(j:Ja T w w'):Ea T k w' base v cs:=by
 obtain⟨e,l,d⟩:=h;refine⟨e,l,?_⟩;rcases d with d|⟨g,cap,cur,hv,f,i,r⟩
 ·exact .inl d
 ·exact .inr ⟨g,cap,cur,hv,f,j _ _ _ i,r⟩
def Ea.ext(h:Ea T k w base v cs)(d:Ba w w'):Ea T k w' base v cs:=h.keep d.keep
def Ea.grown(h:Ea T k w base v cs){row}(e:w.grownBy w' row)(d:v.ownBlock=I\/v.ownBlock≠row):Ea T k w' base v cs:=⟨h.1,World.ownsRow.kept h.2 e d⟩
def Ea.setOther(h:Ea T k w base v cs){p}(f:v.ownBlock≠Y p.block) u:Ea T k (w.setCell p u) base v cs:=
 h.grown (row:=Y p.block) ⟨rfl,rfl,rfl,by simp[World.setCell],fun k _ d=>bS _ _ _ _ (by intro e;exact d (by rw[e]))⟩ (.inr f)
def Ea.mono{b'}(h:Ea T k w base v cs)(i:b'<=base):Ea T k w b' v cs:=by
 obtain⟨e,f,d⟩:=h;refine⟨e,f,?_⟩;rcases d with d|⟨g,cap,cur,hv,j,r⟩
 ·exact .inl d
 ·exact .inr ⟨g,cap,cur,hv,by omega,r⟩
def Ea.blk(h:Ea T k w base (O a n c) cs)(f:0<cs.length):∃g,a=Y ⟨g,0,I⟩/\base<=g/\g<w.heap.size:=by have d:=h.len;subst d;obtain⟨g,rfl,e⟩:=qD h.2 f;exact⟨g,rfl,e,(World.ownsRow.lt h.2 g rfl).2⟩
def Ea.cell(h:Ea T k w base (O (Y ⟨g,0,I⟩) n c) cs){i j d u}(e:cs[i]?=Y d)(l:d[j]?=Y u):w.cell? ⟨g,i*k+j,I⟩=Y u:=by
 have t:=h.len;subst t;have p:=(lS.1 e).1;have f:=h.1 d (lM e);have r:j<k:=by rw[<-f];exact(lS.1 l).1
 rw[World.ownsRow.cellAt h.2 _ (by
  calc i*k+j<i*k+k:=oM
   _=(i+1)*k:=by rw[Nat.add_mul];omega
   _<=cs.length*k:=Nat.mul_le_mul_right _ p),Ft h.1 e r]
 exact l
def Ea.frozen(h:Ea T k w base (O (Y ⟨g,0,I⟩) n c) cs) i:w.frozen? ⟨g,i,I⟩=false:=by have d:=h.len;subst d;exact World.ownsRow.frozenAt h.2 i
def OF{k}:∀{cs:List (List J)}{i j d},(∀c∈cs,c.length=k)->cs[i]?=Y d->j<k->∀u,cs.flatten.set (i*k+j) u=(cs.set i (d.set j u)).flatten
 | [],i,j,d,_,h,_,_=>by simp at h
 | e::cs,0,j,d,hk,h,hj,u=>by
  simp at h;subst h;rw[List.flatten_cons,Nat.zero_mul,Nat.zero_add,List.set_append_left _ _ (by rw[hk e (by simp)];exact hj),List.set_cons_zero,List.flatten_cons]
 | e::cs,i+1,j,d,hk,h,hj,u=>by
  have f:=hk e sM;rw[List.flatten_cons,List.set_append_right _ _ (by rw[f,Nat.add_mul];omega),f,show (i+1)*k+j-k=i*k+j by rw[Nat.add_mul];omega,
   OF (fun c l=>hk c (mC _ l)) (by simpa using h) hj u,List.set_cons_succ,List.flatten_cons]
def Ea.stored(h:Ea T k w base (O (Y ⟨g,0,I⟩) n c) cs){i j d}(p:cs[i]?=Y d)(t:j<k) u:Ea T k (w.setCell ⟨g,i*k+j,I⟩ u) base (O (Y ⟨g,0,I⟩) n c) (cs.set i (d.set j u)):=by
 have x:=h.len;subst x;have l:=h.1 d (lM p);refine⟨?_,?_⟩
 ·intro e r;rcases List.mem_or_eq_of_mem_set r with f|f
  ·exact h.1 e f
  ·subst f;simpa using l
 ·have:=(World.ownsRow.stored h.2 (i*k+j) u).1;rw[OF h.1 p t u]at this;rw[List.length_set];exact this
def Ea.cut(h:Ea T k w base (O (Y ⟨g,0,I⟩) n c) cs){m}(f:m<=cs.length):Ea T k w base (O (Y ⟨g,0,I⟩) m c) (cs.take m):=by
 have t:=h.len;subst t;have r:(cs.take m).length=m:=by rw[List.length_take];omega
 have d:∀c∈cs.take m,c.length=k:=fun c j=>h.1 c (List.mem_of_mem_take j);refine⟨d,?_,?_⟩
 ·rw[Fm d]
 ·rcases h.2.2 with ⟨i,_⟩|⟨z,cap,cur,hv,l,p,u,e,x,y⟩
  ·cases i
  ·cases hv;rw[r];refine .inr ⟨g,c,cur,rfl,l,p,by omega,e,x,?_⟩;rw[<-Kt m h.1 f,<-y,List.take_take]
   congr 1
   have:m*k<=cs.length*k:=Nat.mul_le_mul_right _ f;omega
end
def Dv{P T t} ty{k bytes z w base v cs ds ad m c}(p:(P.info? T).map (fun i=>(i.zero,i.size,i.bytes))=Y (Y z,k,bytes))(ae:z.cells.size=k)(hk:0<k)(R:bytes<=1000)(ht:P.underlying t=Y (.slice T))(d:Ea T k w base v cs)(hm:ds.length=m)(hd:∀c∈ds,c.length=k)(r:∀(j:Nat) u,ds.flatten[j]?=Y u->w.cell? (ad.add j)=Y u)(h1:∀u∈ds.flatten,u.oneCell'=true)(y:cs.length+m<=100000000000)(f:base<=w.heap.size):∃v' w',(Builtin.append_ #[t,t] ty #[v,O (Y ad) m c]).run P w = .ok v' w'/\Ea T k w' base v' (cs++ds)/\w.grownBy w' v.ownBlock/\(v'.ownBlock=v.ownBlock\/v'.ownBlock=Y w.heap.size):=by
 obtain⟨i,hi,aa,ab,ac⟩:=info_parts p;subst hm;have hb:(cs.length+ds.length)*bytes<=140737488355328:=by
  calc (cs.length+ds.length)*bytes<=100000000000*1000:=Nat.mul_le_mul y R
   _<=140737488355328:=dM
 obtain⟨v',w',L,x,l,_,K⟩:=run_append_own_at (P:=P) w base t ty T i z k bytes ht hi aa ab ac ae hk v cs.length cs.flatten d.2 ad ds.length c ds.flatten (Fm hd)
  r h1 (by unfold maxLen;omega) hb f
 refine⟨v',w',L,⟨?_,?_⟩,l,K⟩
 ·intro e he;rcases List.mem_append.1 he with h|h
  ·exact d.1 e h
  ·exact hd e h
 ·rw[lA,List.flatten_append];exact x
def Mi{P T t k bytes z w base v cs ops rest o a Q}(e:(P.info? T).map (fun i=>(i.zero,i.size,i.bytes))=Y (Y z,k,bytes))(R:z.cells.size=k)(hk:0<k)(y:bytes<=1000)(ht:P.underlying t=Y (.slice T))(L:o.guard=I) s x(ho:o.op = .call { callee:=.builtin .append,args:=#[s,x],argTypes:=#[t,t] })(hs:a.eval s=v)(p:Ea T k w base v cs){ad m c}(hx:a.eval x=O (Y ad) m c)
   ds(hm:ds.length=m)(hd:∀c∈ds,c.length=k)(f:∀(j:Nat) u,ds.flatten[j]?=Y u->w.cell? (ad.add j)=Y u)(h1:∀u∈ds.flatten,u.oneCell'=true)(l:cs.length+m<=100000000000)(d:base<=w.heap.size)
  (h:∀v' w',Ea T k w' base v' (cs++ds)->w.grownBy w' v.ownBlock->(v'.ownBlock=v.ownBlock\/v'.ownBlock=Y w.heap.size)->wpList P ops Q rest (a.put o.dst v') w'):wpList P ops Q (o::rest) a w:=by obtain⟨v',w',r,h2,h3,h4⟩:=Dv (P:=P) o.type e R hk y ht p hm hd f h1 l d (c:=c);refine wpList_plain L fun K hK=>?_;unfold Oper.wp;simp[execOp,ho,resolve,invoke,builtin,hs,hx,r,Result.andThen];exact hK _ _ (h v' w' h2 h3 h4)
def gM{P T t} ty{k bytes z w base v sl cs ds}(f:(P.info? T).map (fun i=>(i.zero,i.size,i.bytes))=Y (Y z,k,bytes))(ae:z.cells.size=k)(hk:0<k)(R:bytes<=1000)(ht:P.underlying t=Y (.slice T))(l:Ea T k w base v cs)(hd:∀c∈ds,c.length=k)(d:Rd w T k sl ds.length ds.flatten)(h1:∀u∈ds.flatten,u.oneCell'=true)(y:cs.length+ds.length<=100000000000)(p:base<=w.heap.size):∃v' w',(Builtin.append_ #[t,t] ty #[v,sl]).run P w = .ok v' w'/\Ea T k w' base v' (cs++ds)/\w.grownBy w' v.ownBlock/\(v'.ownBlock=v.ownBlock\/v'.ownBlock=Y w.heap.size):=by
 obtain⟨K,c,rfl⟩:=d.form;rcases K with _|K
 ·obtain⟨i,hi,af,ac,ag⟩:=info_parts f;have h0:ds=[]:=by
   by_cases h:0<ds.length
   ·obtain⟨b,o,e,_⟩:=d.open h;cases e
   ·exact List.eq_nil_of_length_eq_zero oM
  subst h0;have hc:c=0:=by
   obtain⟨_,a,c,e,_,_,L⟩:=d;cases e;rcases L with L|⟨b,o,cs,fr,e,_⟩
   ·exact L.2 rfl
   ·cases e
  subst hc;have x:=l.2;subst ac;exact⟨v,w,run_append_owned_none (P:=P) (w:=w) base t ty T i i.size ht hi v cs.length cs.flatten x,by simpa using l,⟨rfl,rfl,rfl,nE _,fun _ _ _=>rfl⟩,.inl rfl⟩
 ·have r:∀(j:Nat) u,ds.flatten[j]?=Y u->w.cell? (K.add j)=Y u:=by
   intro j u hj;have aa:0<ds.length:=by
    by_cases h:0<ds.length
    ·exact h
    ·rw[List.eq_nil_of_length_eq_zero (show ds.length=0 by omega)]at hj;simp at hj
   obtain⟨b',o',e,hb,_,ab⟩:=d.open aa;cases e;have:=ab j u hj;unfold Addr.add;split
   ·subst j;simpa using this
   ·exact this
  exact Dv ty f ae hk R ht l rfl hd r h1 y p
def Kq{P T t k bytes z w base v sl cs ops rest o a Q}(e:(P.info? T).map (fun i=>(i.zero,i.size,i.bytes))=Y (Y z,k,bytes))(L:z.cells.size=k)(hk:0<k)(r:bytes<=1000)(ht:P.underlying t=Y (.slice T))(y:o.guard=I) s x(ho:o.op = .call { callee:=.builtin .append,args:=#[s,x],argTypes:=#[t,t] })(hs:a.eval s=v)(j:Ea T k w base v cs)(hx:a.eval x=sl)
   ds(hd:∀c∈ds,c.length=k)(p:Rd w T k sl ds.length ds.flatten)(R:∀u∈ds.flatten,u.oneCell'=true)(f:cs.length+ds.length<=100000000000)(d:base<=w.heap.size)
  (h:∀v' w',Ea T k w' base v' (cs++ds)->w.grownBy w' v.ownBlock->(v'.ownBlock=v.ownBlock\/v'.ownBlock=Y w.heap.size)->wpList P ops Q rest (a.put o.dst v') w'):wpList P ops Q (o::rest) a w:=by obtain⟨v',w',l,h2,h3,h4⟩:=gM (P:=P) o.type e L hk r ht j hd p R f d;refine wpList_plain y fun K hK=>?_;unfold Oper.wp;simp[execOp,ho,resolve,invoke,builtin,hs,hx,l,Result.andThen];exact hK _ _ (h v' w' h2 h3 h4)
def Cz{k}:∀{cs:List (List J)} m ,(∀c∈cs,c.length=k)->m<=cs.length->cs.flatten.drop (m*k)=(cs.drop m).flatten
 | _,0,_,_=>by simp
 | [],m+1,_,h=>by simp at h
 | d::cs,m+1,h,hm=>by
  have e:=h d sM;rw[List.flatten_cons,List.drop_append,e,List.drop_of_length_le (by rw[e,Nat.add_mul];omega),show (m+1)*k-k=m*k by rw[Nat.add_mul];omega,
   Cz m (fun c f=>h c (mC _ f)) (by simpa using hm),List.drop_succ_cons,List.nil_append]
section
variable {α:Type} {T:TypeId} {k:Nat} {P:Z->List J->α->Prop} {w w':Z} {v:J} {xs:List α} {b o n c:Nat}
def Sl.drop(h:Sl T k P w (O (Y ⟨b,o,I⟩) n c) xs)(hn:0<xs.length){m}(hm:m<=xs.length):Sl T k P w (O (Y ⟨b,o+m*k,I⟩) (n-m) (c-m)) (xs.drop m):=by
 have aa:=h.len;obtain⟨cs,z,j,⟨K,a,c9,e,h5,h6,p⟩,L⟩:=h;cases e;refine⟨cs.drop m,by rw[List.length_drop,List.length_drop,z],fun c l=>j c (List.mem_of_mem_drop l),⟨?_,Y ⟨b,o+m*k,I⟩,c-m,?_,?_,?_,?_⟩,?_⟩
 ·rw[<-Cz m j oM,List.length_drop,K,List.length_drop,Nat.sub_mul]
 ·rw[List.length_drop]
 ·rw[List.length_drop];omega
 ·omega
 ·rcases p with p|⟨b',o',f,y,e,R,l⟩
  ·omega
  ·cases e;refine .inr ⟨_,_,f,y,rfl,R,fun i x t=>?_⟩;rw[<-Cz m j oM,List.getElem?_drop]at t;have:=l _ _ t
   rwa [<-Nat.add_assoc]at this
 ·intro i d x r u;rw[List.getElem?_drop]at r u;exact L _ _ _ r u
def Sl.take(h:Sl T k P w (O (Y ⟨b,o,I⟩) n c) xs)(hn:0<xs.length){m c'}(hm:m<=xs.length)(aa:m<=c')(ab:c'<=c):Sl T k P w (O (Y ⟨b,o,I⟩) m c') (xs.take m):=by
 have ac:=h.len;obtain⟨cs,K,r,⟨L,a,c9,e,h5,h6,y⟩,R⟩:=h;cases e;have f:(xs.take m).length=m:=by rw[List.length_take];omega
 refine⟨cs.take m,by rw[List.length_take,List.length_take,K],fun c t=>r c (List.mem_of_mem_take t),⟨?_,Y ⟨b,o,I⟩,c',?_,?_,?_,?_⟩,?_⟩
 ·rw[<-Kt m r oM,List.length_take,L,f];have:m*k<=xs.length*k:=Nat.mul_le_mul_right _ hm;omega
 ·rw[f]
 ·rw[f];omega
 ·omega
 ·rcases y with y|⟨b',o',p,z,e,hh,t⟩
  ·omega
  ·cases e;refine .inr ⟨_,_,p,z,rfl,hh,fun i x l=>?_⟩;rw[<-Kt m r oM,List.getElem?_take]at l;split at l
   ·exact t _ _ l
   ·cases l
 ·intro i d x j u;rw[List.getElem?_take]at j u;split at j
  ·rename_i hlt2;rw[if_pos hlt2]at u;exact R _ _ _ j u
  ·cases j
end
def Yg{w w' base row}(e:w.grownBy w' row)(d:base<=w.heap.size)(f:∀k,row=Y k->base<=k):Below base w w':=(Below.refl _ w).grown e d f
def Ea.lt{T k w base v cs}(h:Ea T k w base v cs):∀j,v.ownBlock=Y j->base<=j/\j<w.heap.size:=World.ownsRow.lt h.2
def Bk{a b:Z}{g}(h:a.grownBy b (Y g)) i u:a.grownBy (b.setCell ⟨g,i,I⟩ u) (Y g):=
 h.trans ⟨rfl,rfl,rfl,by simp[World.setCell],fun k _ d=>bS _ _ _ _ (by intro e;exact d (by rw[e]))⟩
def Fr{a b:Z}{row}(h:a.grownBy b row) n:a.grownBy (b.drewN n) row:=⟨h.os,h.tape,h.output,h.size,h.block⟩
def sL{a b:Z}{row}(h:a.grownBy b row):a.grownBy b.drew row:=⟨h.os,h.tape,h.output,h.size,h.block⟩
def Gh{a b:Z}{row k o}(e:a.grownBy b row)(h:a.heap[k]?=Y o)(d:Y k≠row):b.heap[k]?=Y o:=(e.block k (Ya h) d).trans h
def ZN{P T t} ty{k w base g n cap sl os ds}(L:(P.info? T).map (·.size)=Y k)(ht:P.underlying t=Y (.slice T))(l:Ea T k w base (O (Y ⟨g,0,I⟩) n cap) os)(hd:∀c∈ds,c.length=k)(p:Rd w T k sl ds.length ds.flatten)(f:ds.length=os.length)(h0:0<ds.length)(h1:∀u∈ds.flatten,u.oneCell'=true):∃w',(Builtin.copy_ #[t,t] ty #[O (Y ⟨g,0,I⟩) n cap,sl]).run P w = .ok (goInt n) w'/\Ea T k w' base (O (Y ⟨g,0,I⟩) n cap) ds/\w.grownBy w' (Y g):=by
 have hn:=l.len;obtain⟨ad,c,rfl⟩:=p.form;obtain⟨b',o',rfl,hb,_,ac⟩:=p.open h0;have r:∀(j:Nat) u,ds.flatten[j]?=Y u->w.cell? ((⟨b',o',I⟩:Od).add j)=Y u:=by
  intro j u hj;have:=ac j u hj;unfold Addr.add;split
  ·subst j;simpa using this
  ·exact this
 subst hn;rcases l.2.2 with ⟨h2,_⟩|⟨g',ae,cur,hv,hg,hh,z,R,aa,ag⟩
 ·cases h2
 ·cases hv;have d:ds.flatten.length=ds.length*k:=Fm hd;have ab:os.length*k<=cur.size:=by rw[aa];exact Nat.mul_le_mul_right _ z
  have x:=run_loadCells_list (P:=P) w ⟨b',o',I⟩ ds.flatten r;have K:=run_storeCells_at P g 0 T ds.flatten 0 cur w hh (by rw[d,f];simpa using ab) h1;refine⟨w.setRow g (cur.toList.take 0++ds.flatten++cur.toList.drop (0+ds.flatten.length)).toArray,?_,⟨hd,?_,?_⟩,⟨rfl,rfl,rfl,by simp,fun j _ hj=>setRow_other w g j _ (fun e=>hj (by simp[e]))⟩⟩
  ·cases hq:P.info? T with
   | none=>simp[hq]at L
   | some i =>
    (have hi:i.size=k:=by simpa[hq] using L);(have y:Nat.min ds.length os.length=ds.length:=by rw[f];exact Nat.min_self _);rw[d,f]at x;simp only[List.length_flatten]at K;(have af:((os.length:Nat):Int)=(ds.length:Int):=by rw[f]);simp[Builtin.copy_,run_underlying ht,Builtin.lenOf,Builtin.firstCells,sizeOf,typeInfo,hq,hi,y,x,K,goInt,f]
  ·exact d
  ·rw[f];refine .inr ⟨g,cap,_,rfl,hg,setRow_heap w g cur _ T _ hh,z,R,?_,?_⟩
   ·simp only[List.size_toArray,lA,List.length_take,List.length_drop,Array.length_toList,d,f];omega
   ·simp only[List.take_zero,List.nil_append];rw[<-f,<-d,List.take_append,lT (nE _),Nat.sub_self,List.take_zero,List.append_nil]
def YT{P T t k w base g n cap sl os ops rest o a Q}(p:(P.info? T).map (·.size)=Y k)(ht:P.underlying t=Y (.slice T))(l:o.guard=I) d s(ho:o.op = .call { callee:=.builtin .copy,args:=#[d,s],argTypes:=#[t,t] })(j:a.eval d=O (Y ⟨g,0,I⟩) n cap)(hs:a.eval s=sl)
  (e:Ea T k w base (O (Y ⟨g,0,I⟩) n cap) os) ds(R:∀c∈ds,c.length=k)(i:Rd w T k sl ds.length ds.flatten)
  (hl:ds.length=os.length)(r:0<ds.length)(x:∀u∈ds.flatten,u.oneCell'=true)
  (h:∀w',Ea T k w' base (O (Y ⟨g,0,I⟩) n cap) ds->w.grownBy w' (Y g)->wpList P ops Q rest (a.put o.dst (goInt n)) w'):wpList P ops Q (o::rest) a w:=by obtain⟨w',f,y,z⟩:=ZN (P:=P) o.type p ht e R i hl r x;refine wpList_plain l fun K L=>?_;unfold Oper.wp;simp[execOp,ho,resolve,invoke,builtin,j,hs,f,Result.andThen];exact L _ _ (h w' y z)
def SG{P T t k bytes z zs w}{n:Nat}{ops rest o a Q}(p:(P.info? T).map (fun i=>(i.zero,i.size,i.bytes))=Y (Y z,k,bytes))(ai:z.cells=zs.toArray)(d:zs.length=k)(aa:bytes<=1000)(ht:P.underlying t=Y (.slice T))(ab:o.guard=I) l c(ho:o.op = .makeSlice t l c) L(ae:a.eval l=C M L)(f:a.eval c=C M L)(hL:L=(n:Int))(hn:n<=100000000000)(h:∀cs,Ea T k (w.alloc (Ob cs T)) w.heap.size (O (Y ⟨w.heap.size,0,I⟩) n n) (List.replicate n zs)->wpList P ops Q rest (a.put o.dst (O (Y ⟨w.heap.size,0,I⟩) n n)) (w.alloc (Ob cs T))):wpList P ops Q (o::rest) a w:=by
 obtain⟨i,hi,ag,y,ah⟩:=info_parts p;have aj:bytes*n<=281474976710656:=by
  calc bytes*n<=1000*100000000000:=Nat.mul_le_mul aa hn
   _<=281474976710656:=dM
 have u:=run_make (P:=P) w t T i z ht hi ag M M n n oM oM (by rw[ah];omega) oM;simp only[Int.toNat_natCast]at u;refine wpList_plain ab fun K R=>?_;unfold Oper.wp;subst hL;simp[execOp,ho,ae,f,u,Result.andThen];refine R _ _ (h _ ?_);have x:(List.replicate n zs).flatten.length=n*k:=by rw[Fm (k:=k) (fun c f=>by rw[List.eq_of_mem_replicate f];exact d),List.length_replicate]
 refine⟨fun c f=>by rw[List.eq_of_mem_replicate f];exact d,by rw[x,List.length_replicate],.inr ⟨w.heap.size,n,_,by simp,nE _,aN w _,by simp,by unfold maxLen;omega,by rw[y];simp[madeCells],?_⟩⟩;rw[y,List.length_replicate,ai,lT (by rw[Array.length_toList,size_madeCells];exact nE _)];apply List.ext_getElem?;intro j;by_cases hj:j<n*k
 ·have ad:0<k:=by
   rcases Nat.eq_zero_or_pos k with e|e
   ·subst e;simp at hj
   ·exact e
  obtain⟨q,r,u,hq⟩:∃q r,r<k/\j=q*k+r:=⟨j/k,j%k,Nat.mod_lt _ ad,by rw[Nat.mul_comm];exact(Nat.div_add_mod j k).symm⟩;have af:q<n:=by
   rcases Nat.lt_or_ge q n with e|e
   ·exact e
   ·exfalso;have:n*k<=q*k:=Nat.mul_le_mul_right _ e;omega
  have e2:(List.replicate n zs).flatten[q*k+r]?=zs[r]?:=Ft (k:=k) (fun c f=>by rw[List.eq_of_mem_replicate f];exact d) (by rw[List.getElem?_replicate,if_pos af]) u;have ac:j%k=r:=by rw[hq,Nat.add_comm,Nat.add_mul_mod_self_right,Nat.mod_eq_of_lt u]
  rw[show (List.replicate n zs).flatten[j]?=zs[r]? by rw[hq];exact e2];simp only[madeCells,Array.toList_map,Array.toList_range,lP,List.getElem?_range hj,Option.map_some,List.size_toArray,d,ac];rw[gE oM];simp[d,u]
 ·rw[List.getElem?_eq_none (by rw[Array.length_toList,size_madeCells];omega),List.getElem?_eq_none (by rw[x];omega)]
def kp{P T t k bytes z w base v cs ops o a K Q E}(e:(P.info? T).map (fun i=>(i.zero,i.size,i.bytes))=Y (Y z,k,bytes))(R:z.cells.size=k)(hk:0<k)(y:bytes<=1000)(ht:P.underlying t=Y (.slice T))(L:o.guard=I) s x(ho:o.op = .call { callee:=.builtin .append,args:=#[s,x],argTypes:=#[t,t] })(hs:a.eval s=v)(p:Ea T k w base v cs){ad m c}(hx:a.eval x=O (Y ad) m c)
   ds(hm:ds.length=m)(hd:∀c∈ds,c.length=k)(f:∀(j:Nat) u,ds.flatten[j]?=Y u->w.cell? (ad.add j)=Y u)(h1:∀u∈ds.flatten,u.oneCell'=true)(l:cs.length+m<=100000000000)(d:base<=w.heap.size)
  (h:∀v' w',Ea T k w' base v' (cs++ds)->w.grownBy w' v.ownBlock->(v'.ownBlock=v.ownBlock\/v'.ownBlock=Y w.heap.size)->K (a.put o.dst v') w') :
  if Region.wanted o (yielded ops a.tmps)=true then Oper.wp P o a w K Q else E:=by
 have hw:Region.wanted o (yielded ops a.tmps)=true:=by simp[Region.wanted,L]
 rw[if_pos hw];obtain⟨v',w',r,h2,h3,h4⟩:=Dv (P:=P) o.type e R hk y ht p hm hd f h1 l d (c:=c);unfold Oper.wp;simp[execOp,ho,resolve,invoke,builtin,hs,hx,r,Result.andThen];exact h v' w' h2 h3 h4
def pc(p:Int×Int):List J:=[C M p.1,C M p.2]
def mo:(Tryz.prog.info? 91).map (fun i=>(i.zero,i.size,i.bytes))=Y (Y (Oa #[C M 0,C M 0]),2,16):=kM
def Es{ps:LP}:∀u∈(ps.map pc).flatten,u.oneCell'=true:=by intro u e;obtain⟨d,f,e⟩:=List.mem_flatten.1 e;obtain⟨p,_,rfl⟩:=List.mem_map.1 f;simp[pc]at e;rcases e with rfl|rfl<;>rfl
def Fs{ps:LP}:∀c∈ps.map pc,c.length=2:=by intro c d;obtain⟨p,_,rfl⟩:=List.mem_map.1 d;rfl
def Nx(W:Z) x z T:∀ j  u,[pc (x,z)].flatten[j]?=Y u->(W.alloc (Ob #[C M x,C M z] T)).cell? ((⟨W.heap.size,0,I⟩:Od).add j)=Y u:=by
 intro j u d
 match j,d with
 | 0,d=>simp[pc]at d;subst d;simp[Addr.add]
 | 1,d=>simp[pc]at d;subst d;simp[Addr.add]
 | j+2,d=>simp[pc]at d
def Pp x z:∀u∈[pc (x,z)].flatten,u.oneCell'=true:=Es (ps:=[(x,z)])
def Rp{a b c k}(h:Ba a b)(g:b.grownBy c (Y k))(e:a.heap.size<=k):Ba a c:=
 ⟨g.os.trans h.os,g.tape.trans h.tape,g.output.trans h.output,nT h.size g.size,fun i d=>(g.block i (Nat.lt_of_lt_of_le d h.size) (by simp;omega)).trans (h.block d)⟩
def Ck{a b c:Z}{row}(h:a.grownBy b row)(k:Below a.heap.size b c):a.grownBy c row:=
 ⟨k.os.trans h.os,k.tape.trans h.tape,k.output.trans h.output,nT h.size k.size,fun i e d=>(k.block i e).trans (h.block i e d)⟩
def Mn(a:Z) row:a.grownBy a row:=⟨rfl,rfl,rfl,nE _,fun _ _ _=>rfl⟩
def Jm{a b k T T' cs j}(g:a.grownBy b (Y k))(i:a.heap[k]?=Y (Ob cs T' j))(l:T'≠T):Ja T a b:=
 fun x c f d=>(g.block x (Ya d) (fun e=>by cases e;rw[d]at i;cases i;exact l rfl)).trans d
def Bd(k n:Int):Prop:=-k<=n/\n<=k
def Bd.mono{j k n}(h:Bd j n)(d:j<=k):Bd k n:=by unfold Bd at *;omega
def Bd.mul{j k x y}(h:Bd j x)(f:Bd k y):Bd (j*k) (x*y):=by
 unfold Bd at *;have d:(x.natAbs:Int)<=j:=oM;have e:(y.natAbs:Int)<=k:=oM;have:((x*y).natAbs:Int)<=j*k:=by
  rw[Int.natAbs_mul,Int.natCast_mul];exact Int.mul_le_mul d e oM oM
 omega
def Bd.sub{j k x y}(h:Bd j x)(d:Bd k y):Bd (j+k) (x-y):=by unfold Bd at *;omega
def fy w d f i j(l:Bd 1000000000 d)(t:Bd 1000000000 f)(y:Bd 1000000000 i)(h4:Bd 1000000000 j):Calls Tryz.prog 247 #[Oa #[C M d,C M f],Oa #[C M i,C M j]] w fun e w'=>e=.returned (Oa #[C M (d-i),C M (f-j)])/\Ba w w':=by obtain⟨p,r⟩:=l;obtain⟨u,x⟩:=t;obtain⟨z,K⟩:=y;obtain⟨L,R⟩:=h4;go_in;go_wp2;exact bR (v:=Oa #[C M (d-i),C M (f-j)]) (by simp[results,Tryz.results247,go_sem]) rfl ⟨rfl,eA⟩
def TR w d f i j(l:Bd 1000000000 d)(p:Bd 1000000000 f)(r:Bd 1000000000 i)(h4:Bd 1000000000 j):Calls Tryz.prog 295 #[Oa #[C M d,C M f],Oa #[C M i,C M j]] w fun e w'=>e=.returned (C M (d*j-f*i))/\Ba w w':=by obtain⟨t,m2⟩:=l.mul h4;obtain⟨u,x⟩:=p.mul r;have y:IntKind.i64.wrap (d*j)=d*j:=iW _ ⟨by omega,by omega⟩;have z:IntKind.i64.wrap (f*i)=f*i:=iW _ ⟨by omega,by omega⟩;have K:IntKind.i64.wrap (d*j-f*i)=d*j-f*i:=iW _ ⟨by omega,by omega⟩;clear t m2 u x l p r h4;go_in;go_wp2;go_ret;exact⟨by first|rfl|simp[*],eA⟩
def Ie(p q r:Int×Int):Int:=(q.1-p.1)*(r.2-q.2)-(q.2-p.2)*(r.1-q.1)
def QL w i j d f l p(R:Bd 100000000 i)(h2:Bd 100000000 j)(h3:Bd 100000000 d)(h4:Bd 100000000 f)(h5:Bd 100000000 l)(h6:Bd 100000000 p):Calls Tryz.prog 266 #[Oa #[C M i,C M j],Oa #[C M d,C M f],Oa #[C M l,C M p]] w fun e w'=>e=.returned (C M (Ie (i,j) (d,f) (l,p)))/\Ba w w':=by
 have y:=za R;have z:=za h2;have r:=za h3;have t:=za h4;have K:=za h5;have L:=za h6;clear R h2 h3 h4 h5 h6;go_in;go_wp2;go_region_held3 (fun W=>W.cell? ⟨w.heap.size,0,I⟩=Y (C M i)/\W.cell? ⟨w.heap.size,1,I⟩=Y (C M j)/\W.cell? ⟨w.heap.size+1,0,I⟩=Y (C M d)/\W.cell? ⟨w.heap.size+1,1,I⟩=Y (C M f)/\W.cell? ⟨w.heap.size+1+1,0,I⟩=Y (C M l)/\W.cell? ⟨w.heap.size+1+1,1,I⟩=Y (C M p)) ((repeat' (with_reducible refine And.intro ?_ ?_))<;>(first|(go_simp;done)|(refine hx1.d ?_;go_simp;done))) (first|((go_at_call 247;(with_reducible refine(fy _ d f i j (r.o.mono dM) (t.o.mono dM) (y.o.mono dM) (z.o.mono dM)).mono ?_);rintro e w1 ⟨rfl,hx1⟩;obtain⟨⟨aj,am⟩,aa,ab,ac⟩:=Sb w hx1))|((go_at_call 247;(with_reducible refine(fy _ l p d f (K.o.mono dM) (L.o.mono dM) (r.o.mono dM) (t.o.mono dM)).mono ?_);rintro e w2 ⟨rfl,u⟩;obtain⟨⟨ak,an⟩,ad,ae,af⟩:=Sb w u))|((go_at_call 295;(with_reducible refine(TR _ (d-i) (f-j) (l-d) (p-f) ((r.o.sub y.o).mono dM) ((t.o.sub z.o).mono dM) ((K.o.sub r.o).mono dM) ((L.o.sub t.o).mono dM)).mono ?_);rintro e w3 ⟨rfl,x⟩;obtain⟨⟨al,ao⟩,ag,ah,ai⟩:=Sb w x)))
 all_goals go_wp2
 go_ret;exact⟨rfl,eA⟩
def Ra(n a b:Int):Bool:=decide (a<=n)&&decide (n<=b)
def mi w n a b:Calls Tryz.prog 195 #[C M n,C M a,C M b] w fun e w'=>e=.returned (X (Ra n a b))/\Ba w w':=by
 unfold Ra;by_cases h:a<=n
 ·have d:decide (a<=n)=true:=by simpa using h
  go_in;go_wp2;go_ret;exact⟨by simp[d],eA⟩
 ·have d:decide (a<=n)=false:=by simpa using h
  go_in;go_wp2;go_ret;exact⟨by simp[d],eA⟩
def Fy w n:Calls Tryz.prog 296 #[C M n] w fun e w'=>e=.returned (X false)/\Ba w w':=by go_in;go_wp2;go_ret;exact⟨rfl,eA⟩
def tG w a b:Calls Tryz.prog 269 #[C M a,C M b] w fun e w'=>e=.returned (C M (Gc a b))/\Ba w w':=by
 have f:a<b->Calls Tryz.prog 269 #[C M a,C M b] w fun e w'=>e=.returned (C M (Gc a b))/\Ba w w':=by
  intro h;have e:Gc a b = -1:=by unfold Gc;(repeat' split)<;>omega
  rw[e];clear e
  first|subst h|skip
  go_in;go_wp2_with(((go_at_call 296;(with_reducible refine(Fy _ _).mono ?_);rintro e l ⟨rfl,d⟩)));go_ret;exact⟨rfl,eA⟩
 have i:a=b->Calls Tryz.prog 269 #[C M a,C M b] w fun e w'=>e=.returned (C M (Gc a b))/\Ba w w':=by
  intro h;have e:Gc a b=0:=by unfold Gc;(repeat' split)<;>omega
  rw[e];clear e
  first|subst h|skip
  go_in;go_wp2_with(((go_at_call 296;(with_reducible refine(Fy _ _).mono ?_);rintro e l ⟨rfl,d⟩)));go_ret;exact⟨rfl,eA⟩
 have j:b<a->Calls Tryz.prog 269 #[C M a,C M b] w fun e w'=>e=.returned (C M (Gc a b))/\Ba w w':=by
  intro h;have e:Gc a b=1:=by unfold Gc;(repeat' split)<;>omega
  rw[e];clear e
  first|subst h|skip
  go_in;go_wp2_with(((go_at_call 296;(with_reducible refine(Fy _ _).mono ?_);rintro e l ⟨rfl,d⟩)));go_ret;exact⟨rfl,eA⟩
 rcases Int.lt_trichotomy a b with h|h|h
 ·exact f h
 ·exact i h
 ·exact j h
def Ke(way:Int)(p q:Rat):Rat:=if yd q p=way then q else p
def me(way:Int):List Rat->Rat
 | []=>0
 | x::xs=>xs.foldl (Ke way) x
def nR way xs x(h:xs≠[]):me way (xs++[x])=Ke way (me way xs) x:=by
 cases xs with
 | nil=>exact absurd rfl h
 | cons y d=>simp[me]
def YE way p q:Ke way p q=p\/Ke way p q=q:=by unfold Ke;split<;>simp
def vQ way(P:Rat->Prop) xs(h:∀x∈xs,P x)(j:P 0):P (me way xs):=by
 cases xs with
 | nil=>exact j
 | cons x xs =>
  have:∀(d:List Rat)(a:Rat),P a->(∀y∈d,P y)->P (d.foldl (Ke way) a):=by
   intro d;induction d with
   | nil=>intro a i _;exact i
   | cons y d p =>
    intro a i f;refine p _ ?_ (fun z l=>f z (mC _ l));rcases YE way a y with e|e<;>rw[e]
    ·exact i
    ·exact f y sM
  exact this xs x (h x sM) (fun y f=>h y (mC _ f))
def Rb.zero{k}(d:1<=k):Rb k 0:=⟨by have:=Tj zj k;unfold Lm;simp;omega,qr d⟩
def uT w va vb p q way j(L:Fb w va p)(R:Fb w vb q)(aa:Rb kd p)(ab:Rb kd q)(hw:w.cell? ⟨j,0,I⟩=Y (C M way)):Calls Tryz.prog 289 #[va,vb,.pointer (Y ⟨j,0,I⟩)] w (jg w (Ke way p q)):=by
 obtain⟨a,m,c,s,a2,m2,c2,rfl⟩:=L.form;obtain⟨t,x,u,y,d,i,f,rfl⟩:=R.form;have z:=za aa;have K:=za ab;clear aa ab;have zw:j<w.heap.size:=World.block_lt_of_cell? w _ hw;have ai:j<w.heap.size+1:=oM;have aj:j<w.heap.size+1+1:=oM;by_cases l:yd q p=way
 ·have af:(yd q p==way)=true:=by simpa using l
  have hR:Fb w (Oa #[O t x u,X y,O d i f]) (Ke way p q):=by unfold Ke;first|(rw[if_pos l];exact R)|(rw[if_neg l];exact L)
  clear l;go_in;go_wp2;go_region_held3 (fun W=>W.cell? ⟨w.heap.size,0,I⟩=Y (O a m c)/\W.cell? ⟨w.heap.size,1,I⟩=Y (X s)/\W.cell? ⟨w.heap.size,2,I⟩=Y (O a2 m2 c2)/\W.cell? ⟨w.heap.size+1,0,I⟩=Y (O t x u)/\W.cell? ⟨w.heap.size+1,1,I⟩=Y (X y)/\W.cell? ⟨w.heap.size+1,2,I⟩=Y (O d i f)/\W.cell? ⟨j,0,I⟩=Y (C M way)) ((repeat' (with_reducible refine And.intro ?_ ?_))<;>(first|(go_simp;done)|(refine hx1.d ?_;go_simp;done))) (((go_at_call 214;(with_reducible refine(Sn _ (Oa #[O t x u,X y,O d i f]) (Oa #[O a m c,X s,O a2 m2 c2]) q p ?_ ?_ K.o z.o).mono ?_);(refine R.ext ?_;exact eA);(refine L.ext ?_;exact eA);rintro e w1 ⟨rfl,hx1⟩;obtain⟨⟨r,ag⟩,ac,ad,ae⟩:=Sb w hx1;(have ah:=hx1.lt (n:=j) (by simp only[wZ,Yb];omega)))))
  all_goals go_wp2
  exact bR (v:=Oa #[O t x u,X y,O d i f]) (by simp[results,Tryz.results289,go_sem,r]) rfl ⟨_,rfl,Fb.keep (w:=w1) (hR.ext eA) kA,eA⟩
 ·have af:(yd q p==way)=false:=by simpa using l
  have hR:Fb w (Oa #[O a m c,X s,O a2 m2 c2]) (Ke way p q):=by unfold Ke;first|(rw[if_pos l];exact R)|(rw[if_neg l];exact L)
  clear l;go_in;go_wp2;go_region_held3 (fun W=>W.cell? ⟨w.heap.size,0,I⟩=Y (O a m c)/\W.cell? ⟨w.heap.size,1,I⟩=Y (X s)/\W.cell? ⟨w.heap.size,2,I⟩=Y (O a2 m2 c2)/\W.cell? ⟨w.heap.size+1,0,I⟩=Y (O t x u)/\W.cell? ⟨w.heap.size+1,1,I⟩=Y (X y)/\W.cell? ⟨w.heap.size+1,2,I⟩=Y (O d i f)/\W.cell? ⟨j,0,I⟩=Y (C M way)) ((repeat' (with_reducible refine And.intro ?_ ?_))<;>(first|(go_simp;done)|(refine hx1.d ?_;go_simp;done))) (((go_at_call 214;(with_reducible refine(Sn _ (Oa #[O t x u,X y,O d i f]) (Oa #[O a m c,X s,O a2 m2 c2]) q p ?_ ?_ K.o z.o).mono ?_);(refine R.ext ?_;exact eA);(refine L.ext ?_;exact eA);rintro e w1 ⟨rfl,hx1⟩;obtain⟨⟨r,ag⟩,ac,ad,ae⟩:=Sb w hx1;(have ah:=hx1.lt (n:=j) (by simp only[wZ,Yb];omega)))))
  all_goals go_wp2
  exact bR (v:=Oa #[O a m c,X s,O a2 m2 c2]) (by simp[results,Tryz.results289,go_sem,r]) rfl ⟨_,rfl,Fb.keep (w:=w1) (hR.ext eA) kA,eA⟩
def vV(w:Z)(way:Int)(d:List Rat)(g:Nat)(e:J)(W:Z):Prop:=
 ∃i:Nat,i<=d.length/\e=C M i/\g=d.length-i/\Ba w W/\RB W w.heap.size 0/\RB W (w.heap.size+1) (me way (d.take i))
def GM w v d way bw(hs:ii w v d)(hb:∀q∈d,Rb kd q)(hw:w.cell? ⟨bw,0,I⟩=Y (C M way)):Calls Tryz.prog 288 #[v,.func (.func 289) #[] #[.pointer (Y ⟨bw,0,I⟩)]] w (jg w (me way d)):=by
 obtain⟨a,c,rfl⟩:=hs.form;obtain⟨n,hn⟩:=gX d.length;rw[hn]at hs ⊢;have z:=hs.le;unfold maxLen at z;have f:=za hn;have Hb:=za hb;have zw:bw<w.heap.size:=World.block_lt_of_cell? w _ hw;have ao:n<=9223372036854775807:=oM;clear hn hb z;go_in;go_wp2;go_loopg [10] n (vV w way d)
 case atStart =>
  refine⟨0,by omega,rfl,by rw[f.o];rfl,eA,RB.ext (W:=w.alloc (Ob #[O I 0 0,X false,O I 0 0] 181)) (RB.new (Fb.zero _) rfl) eA,RB.new (Fb.zero _) sM⟩
 case round =>
  obtain⟨i,hi,rfl,rfl,hx,hR,hO⟩:=hrel;rw[f.o]at hi;have Hx:=za hx;obtain⟨a0,m0,c0,s0,aj,aq,ak,r0,r1,r2,aw,ax,ay,zr,ap⟩:=hR.rd;obtain⟨a1,m1,c1,s1,t,ab,u,o0,o1,o2,ar,au,av,zo,r⟩:=hO.rd;by_cases ag:i<n
  ·obtain⟨x,p⟩:∃x,d[i]?=Y x:=⟨d[i]'(by rw[f.o];omega),by simp[f.o,ag]⟩;obtain⟨b,o,a3,m3,c3,s3,a4,m4,c4,rfl,al,aa,e0,e1,e2⟩:=(hs.f hx).at' p;have l:=za p;clear p;by_cases h0:i=0
   ·(have ae:((i:Int)==0)=true:=by simp;omega);have H0:=za h0;clear h0;go_wp2;go_roundg (n-(i+1))
    case measure=>have:=f.o;omega
    case rel =>
     have j:=hO.not;have e:me way (d.take (i+1))=x:=by
      have:=H0.o;subst this;rw[ze _ _ _ l.o];simp[me]
     exact⟨i+1,by have:=f.o;omega,by go_num,by rw[f.o],eA,
      (((hR.other dO j _).other dO (j.set _ _) _).other dO ((j.set _ _).set _ _) _).ext ((eR _).alloc _),
      by rw[e];exact(hO.put aa).ext ((eR _).alloc _)⟩
   ·(have ae:((i:Int)==0)=false:=by simp;omega);have H0:=za h0;have ac:Ua (Rb kd (me way (d.take i))):=za (vQ way _ _ (fun q hq=>Hb.o q (List.mem_of_mem_take hq)) (Rb.zero dM));have ad:Ua (Rb kd x):=za (Hb.o x (lM l.o));clear h0;go_wp2_with(((go_at_call 289;(with_reducible refine(uT _ (Oa #[O a1 m1 c1,X s1,O t ab u]) (Oa #[O a3 m3 c3,X s3,O a4 m4 c4]) (me way (d.take i)) x way bw ?_ ?_ ac.o ad.o ?_).mono ?_);(refine r.ext ?_;exact eA);(refine aa.ext ?_;exact eA);(refine Ba.d (a:=w) ?_ hw;exact eA);rintro e w1 ⟨r1,rfl,K,L⟩;obtain⟨b1,n1,k1,t1,b2,n2,k2,rfl⟩:=K.form;obtain⟨⟨am,an⟩,ah,ai⟩:=Nb w L)));go_roundg (n-(i+1))
    case measure=>have:=f.o;omega
    case rel =>
     have R:Ba wr w1:=((eR wr).alloc _).trans L;have y:=hO.ext R;have af:=hR.ext R;have j:=y.not;have e:me way (d.take (i+1))=Ke way (me way (d.take i)) x:=by
      rw[ze _ _ _ l.o,nR];intro h;(have h2:(d.take i).length=0:=by rw[h];rfl);rw[List.length_take,f.o]at h2;have:=H0.o;omega
     exact⟨i+1,by have:=f.o;omega,by go_num,by rw[f.o],eA,
      (((af.other dO j _).other dO (j.set _ _) _).other dO ((j.set _ _).set _ _) _),
      by rw[e];exact y.put K⟩
  ·obtain rfl:i=n:=oM;have e:me way (d.take i)=me way d:=by rw[lT (by rw[f.o];omega)]
   rw[e]at r;clear e;have j:=hR.not;go_wp2;exact bR (v:=Oa #[O a1 m1 c1,X s1,O t ab u]) (by simp[results,Tryz.results288,go_sem,r0,r1,r2]) rfl ⟨_,rfl,r.keep kA,eA⟩
def QF w v f way(j:ii w v f)(r:∀q∈f,Rb kd q):Calls Tryz.prog 259 #[v,C M way] w (jg w (me way f)):=by obtain⟨a,c,rfl⟩:=j.form;have R:∀(p:Fn)(first cap:Array J)(w:Z),(Instr.makeFunc p first cap).run Tryz.prog w = .ok (.func p first cap) w:=fun _ _ _ _=>rfl;have y:=za r;obtain⟨n,t⟩:=gX f.length;rw[t]at j ⊢;clear r t;go_in;go_wp2_with(((go_at_call 288;(with_reducible refine(GM _ (O a n c) f way w.heap.size ?_ y.o ?_).mono ?_);(refine j.f ?_;exact eA);(focus(go_simp;done));rintro e w1 ⟨r1,rfl,d,l⟩;obtain⟨z,n1,k1,t1,K,n2,k2,rfl⟩:=d.form;obtain⟨⟨i,L⟩,u,x⟩:=Nb w l)));exact bR (v:=Oa #[O z n1 k1,X t1,O K n2 k2]) (by simp[results,Tryz.results259,go_sem,i]) rfl ⟨_,rfl,d.keep kA,eA⟩
def Xx w v f(j:ii w v f)(p:∀q∈f,Rb kd q):Calls Tryz.prog 219 #[v] w (jg w (me (-1) f)):=by obtain⟨a,c,rfl⟩:=j.form;have u:=za p;obtain⟨n,r⟩:=gX f.length;rw[r]at j ⊢;clear p r;go_in;go_wp2_with(((go_at_call 259;(with_reducible refine(QF _ (O a n c) f (-1) ?_ u.o).mono ?_);(refine j.f ?_;exact eA);rintro e w1 ⟨r1,rfl,d,l⟩;obtain⟨x,R,K,t1,y,n2,L,rfl⟩:=d.form;obtain⟨⟨i,z⟩,t⟩:=Jd w l)));exact bR (v:=Oa #[O x R K,X t1,O y n2 L]) (by simp[results,Tryz.results219,go_sem,i]) rfl ⟨_,rfl,d.keep kA,eA⟩
def Yx w v f(j:ii w v f)(p:∀q∈f,Rb kd q):Calls Tryz.prog 220 #[v] w (jg w (me (1) f)):=by obtain⟨a,c,rfl⟩:=j.form;have u:=za p;obtain⟨n,r⟩:=gX f.length;rw[r]at j ⊢;clear p r;go_in;go_wp2_with(((go_at_call 259;(with_reducible refine(QF _ (O a n c) f (1) ?_ u.o).mono ?_);(refine j.f ?_;exact eA);rintro e w1 ⟨r1,rfl,d,l⟩;obtain⟨x,R,K,t1,y,n2,L,rfl⟩:=d.form;obtain⟨⟨i,z⟩,t⟩:=Jd w l)));exact bR (v:=Oa #[O x R K,X t1,O y n2 L]) (by simp[results,Tryz.results220,go_sem,i]) rfl ⟨_,rfl,d.keep kA,eA⟩
def om(_:Nat)(p:Prop):Prop:=p
def sN k{p}(h:om k p):p:=h
def oN{k p}(h:p):om k p:=h
def NQ(Q:Exit->Oc->Z->Prop):Exit->Oc->Z->Prop
 | .normal,a,w=>Q .normal a w
 | _,_,_=>False
def Xu{Q}:¬LetsOut (NQ Q):=fun⟨_,_,h⟩=>h
def Tg(ops:Array Oper):Bool:=ops.all fun o=>match o.op with | .defer _=>false|_=>true
def tF{ops}(h:Tg ops=true){i:Nat}{o}(f:ops[i]?=Y o):∀c,o.op ≠ .defer c:=by intro c d;unfold Tg at h;rw[Array.all_eq_true]at h;obtain⟨e,rfl⟩:=Array.getElem?_eq_some_iff.1 f;have:=h i e;rw[d]at this;cases this
def iO{l n P row args w R}(h:Rows P row args w R):RowsIn (Fence.wide.inRound l) n P row args w R:=by intro c cs _;obtain⟨v,w',r,s⟩:=h c cs;exact⟨v,w',r,stepsIn_wide.2 s⟩
def SQ{l n P}{o:Oper}{a w K Q}(p:∀c,o.op ≠ .defer c)(h:o.wp P a w K (NQ Q)):o.wpIn (Fence.wide.inRound l) n P a w K Q:=by
 refine⟨fun _ _=>trivial,?_⟩;rw[Oper.semAt_plain _ _ _ p];unfold Oper.wp at h;generalize (execOp a.eval o).run P w=r at *
 have i:(Fence.wide.inRound l).depth.isSome=true->1<=n:=fun h=>by cases h
 cases r with
 | ok x w' =>
  cases x with
  | value u=>exact h
  | skip=>exact h
  | defer d=>exact h
  | enter f args =>
   refine⟨i,CallsIn.inRound l (callsIn_wide.2 (cM h fun e t j=>?_))⟩;cases e with
   | returned u=>exact j
   | panicked c=>exact j.elim
   | outgrown=>exact(Xu j).elim
  | row row args=>exact⟨i,iO h⟩
  | _=>exact h.elim
 | halt x w' =>
  cases x<;>first|exact h.elim|skip
def Zv{l n P md ops Q}(f:Tg ops=true):∀ fuel  d  a  w ,wpAny P md ops (NQ Q) fuel d a w->wpAnyIn (Fence.wide.inRound l) n P md ops Q fuel d a w
 | 0,_,_,_,h=>h
 | fuel+1,d,a,w,h=>by
  refine⟨h.1,fun i r=>?_⟩;have e:=h.2 i r;unfold wpOp at e;unfold wpOpIn;cases ho:ops[i]? with
  | none=>rw[ho]at e;exact Zv f fuel _ a w e
  | some o =>
   rw[ho]at e;dsimp only at e ⊢;split
   ·rename_i hw;rw[if_pos hw]at e;rcases e with e|⟨_,e⟩
    ·exact Oper.wpIn_mono (fun j w' p=>Zv f fuel _ j w' p) (SQ (tF f ho) e)
    ·exact(Xu e).elim
   ·rename_i hw;rw[if_neg hw]at e;exact⟨fun _ _=>trivial,Zv f fuel _ _ w e⟩
def Mr{l n P ops Q S i a w}(f:P.follows .mixedOrders=true)(e:Tg ops=true)(d:S w.drew)(h:S w.drew->wpAnyH P .any ops (NQ Q) S ops.size (Array.replicate ops.size false) a w.drew):(Code.region i ops true).wpIn (Fence.wide.inRound l) n P Q a w:=
 wpIn_region_any f (Zv e _ _ _ _ (wpAny_of_held _ _ _ _ (h d)))
end
section
open Go.RowKit Go.Shelf Go.Sort
def oG{α}[Inhabited α] enc{k}(hk:∀x,(enc x).length=k)(d:Array α):(flatK enc k d).toList=(d.toList.map enc).flatten:=by
 have f:∀c∈d.toList.map enc,c.length=k:=fun c y=>by obtain⟨x,_,rfl⟩:=List.mem_map.1 y;exact hk x
 apply List.ext_getElem?;intro t;by_cases l:t<d.size*k
 ·have i:0<k:=by
   rcases Nat.eq_zero_or_pos k with h|h
   ·subst h;simp at l
   ·exact h
  have u:t/k<d.size:=by rw[Nat.div_lt_iff_lt_mul i];exact l
  have p:t%k<k:=Nat.mod_lt _ i;have e:(d.toList.map enc)[t/k]?=Y (enc d[t/k]!):=by
   rw[lP,Array.getElem?_toList,Array.getElem?_eq_getElem u,Option.map_some,getElem!_pos d _ u]
  have r:=Ft (j:=t%k) f e p;rw[show t/k*k+t%k=t by rw[Nat.mul_comm];exact Nat.div_add_mod t k]at r;rw[r,Array.getElem?_toList,Array.getElem?_eq_getElem (by simpa using l)];rw[<-getElem!_pos (flatK enc k d) t (by simpa using l),get_flatK enc k d t l,gE (by rw[hk];exact p),getElem!_pos _ _ (by rw[hk];exact p)]
 ·rw[List.getElem?_eq_none (by simp;omega),List.getElem?_eq_none (by rw[Fm f];simp;omega)]
def qJ{α}[Inhabited α]{enc k w g m os cur e fr}(d:Array α)(hb:w.heap[g]?=Y (Ob cur e fr)):(sortWorldK enc k w g 0 m d os).heap[g]?=Y (Ob (putCells id 0 (flatK enc k d) cur) e fr):=by have f:g<w.heap.size:=(Array.getElem?_eq_some_iff.1 hb).1;unfold sortWorldK putRowK;rw[heap_grow_old _ _ (by simpa using f)];simp[putRow,mapBlock,Sort.ahead,Array.getElem?_modify,hb,onCells]
def XD{α}[Inhabited α]{enc k}{w:Z}{g m os}(d:Array α):w.grownBy (sortWorldK enc k w g 0 m d os) (Y g):=by unfold sortWorldK putRowK;refine⟨rfl,rfl,rfl,by simp,fun j i f=>?_⟩;rw[heap_grow_old _ _ (by simpa using i)];have:g≠j:=fun e=>f (by rw[e]);simp[putRow,mapBlock,Sort.ahead,Array.getElem?_modify,this]
def yR cur F(h:F.size<=cur.size):(putCells id 0 F cur).toList.take F.size=F.toList:=by
 apply List.ext_getElem?;intro j;by_cases d:j<F.size
 ·rw[List.getElem?_take_of_lt d,Array.getElem?_toList];simp[putCells,d,show j<cur.size by omega]
 ·rw[List.getElem?_take_eq_none oM,List.getElem?_eq_none (by simp;omega)]
def ZF{α}[Inhabited α]{enc T k w base g n cap m os}(hk:∀x,(enc x).length=k){d d':Array α}(h:Ea T k w base (O (Y ⟨g,0,I⟩) n cap) (d.toList.map enc))(hs:d'.size=d.size):Ea T k (sortWorldK enc k w g 0 m d' os) base (O (Y ⟨g,0,I⟩) n cap) (d'.toList.map enc):=by
 have i:∀c∈d'.toList.map enc,c.length=k:=fun c u=>by obtain⟨x,_,rfl⟩:=List.mem_map.1 u;exact hk x
 have K:=h.len;have e:(d'.toList.map enc).length=(d.toList.map enc).length:=by simp[hs]
 subst K;refine⟨i,Fm i,?_⟩;rcases h.2.2 with ⟨t,_⟩|⟨R,p,cur,hv,y,z,j,l,f,L⟩
 ·cases t
 ·cases hv;have r:(flatK enc k d').size=(d'.toList.map enc).length*k:=sM;refine .inr ⟨g,cap,_,by rw[e],y,qJ d' z,by rw[e];exact j,l,by simp[putCells,f],?_⟩;rw[<-oG enc hk d',<-r,yR _ _ (by rw[r,e,f];exact Nat.mul_le_mul_right _ j)]
def CF{α}[Inhabited α]{enc T k w base g n cap}(hk:∀x,(enc x).length=k){d:Array α}(h:Ea T k w base (O (Y ⟨g,0,I⟩) n cap) (d.toList.map enc)):HoldsK enc k w g 0 d:=by intro t e;rw[size_flatK]at e;have i:=h.len;have f:(d.toList.map enc).length=d.size:=sM;subst i;refine⟨?_,by rw[Nat.zero_add];exact h.frozen t⟩;rw[Nat.zero_add,World.ownsRow.cellAt h.2 t (by rw[f];exact e),<-oG enc hk d,Array.getElem?_toList,Array.getElem?_eq_getElem (by rw[size_flatK];exact e),getElem!_pos _ _ (by rw[size_flatK];exact e)];rfl
end
section
open Go.ChangeShapes Go.WideShapes Go.Deep
section
variable {H:Type} {enc:TypeId×Value->H} {P:Program} {w:World} {spare:Nat->Bool} {held:Bool}
def LD{k}:∀{e:List (List Value)}{j x},0<k->(∀c∈e,c.length=k)->e.flatten[j]?=some x->∃d,e[j/k]?=some d/\d[j%k]?=some x
 | [],j,x,_,_,h=>by simp at h
 | c::e,j,x,hk,hc,h=>by
  have r:c.length=k:=hc c sM;rw[List.flatten_cons]at h;by_cases i:j<k
  ·rw[List.getElem?_append_left oM]at h;rw[Nat.div_eq_of_lt i,Nat.mod_eq_of_lt i];exact⟨c,rfl,h⟩
  ·rw[List.getElem?_append_right oM,r]at h;obtain⟨d,l,p⟩:=LD (j:=j-k) hk (fun c f=>hc c (mC _ f)) h;rw[Nat.div_eq_sub_div hk oM,Nat.mod_eq_sub_mod oM];exact⟨d,by simpa using l,p⟩
def jG{t e k fuel cs x}(ht:P.underlying t=some (.slice e))(hk:P.cellsOf e=k)(K:0<k)(h:DataW.trod enc P w 0 spare held fuel t cs=some x):∃(a:Option Addr)(n c:Nat)(T:TypeId)(u:List (List Value)),cs=[.slice a n c]/\u.length=n/\(∀d∈u,d.length=k)/\Rd w T k (.slice a n c) n u.flatten/\∀d∈u,∃m y,DataW.trod enc P w 0 spare held m e d=some y:=by
 rcases open_slice ht h with ⟨rfl,_⟩|⟨a,len,cap,m,f,D,Pl,rfl,_,hl,hm,ac,_,ab⟩
 ·exact⟨none,0,0,0,[],rfl,rfl,by simp,Rd.nil w 0 k,by simp⟩
 ·have ag:len<=m:=by rw[ac];split<;>omega
  rw[hk]at ab;obtain⟨F,hF⟩:=choose_lt (α:=List Value) (n:=len) (p:=fun i d=>w.cells? 0 (a.add (i*k)) k=some d/\DataW.trod enc P w 0 spare held f e d=some (D i,Pl i)) (fun i r=>ab i oM);have l:∀d∈(List.range len).map F,d.length=k:=by
   intro d hd;obtain⟨i,r,rfl⟩:=List.mem_map.1 hd;exact(World.cells?_some (hF i (List.mem_range.1 r)).1).2.1
  have aa:∀d∈(List.range len).map F,∃m y,DataW.trod enc P w 0 spare held m e d=some y:=by
   intro d hd;obtain⟨i,r,rfl⟩:=List.mem_map.1 hd;exact⟨f,_,(hF i (List.mem_range.1 r)).2⟩
  by_cases h0:len=0
  ·subst h0;exact⟨some a,0,cap,0,[],rfl,rfl,by simp,⟨by simp,some a,cap,rfl,hl,hm,.inl ⟨rfl,fun e=>by cases e⟩⟩,by simp⟩
  ·have L:=(World.cells?_some (hF 0 oM).1).2.2 0 K;have af:=l (F 0) (List.mem_map.2 ⟨0,List.mem_range.2 oM,rfl⟩);obtain⟨v0,ae⟩:∃v,(F 0)[0]?=some v:=⟨(F 0)[0]' oM,by simp⟩;rw[ae]at L;obtain⟨b,o,sp⟩:=a;have ad:sp=none:=by
    have:=World.cell?_spot L;simpa[Addr.add] using this
   subst ad;have e0:((⟨b,o,none⟩:Addr).add (0*k)).add 0=⟨b,o,none⟩:=by simp[Addr.add]
   rw[e0]at L;obtain⟨blk,T,R,z⟩:∃blk T R,w.heap[b]?=some (.cells blk T R):=by
    unfold World.cell? at L;split at L
    ·rename_i blk T R hb;exact⟨blk,T,R,hb⟩
    ·cases L
   refine⟨some ⟨b,o,none⟩,len,cap,T,(List.range len).map F,rfl,by simp,l,⟨?_,some ⟨b,o,none⟩,cap,rfl,hl,hm,.inr ⟨b,o,blk,R,rfl,z,fun j y hj=>?_⟩⟩,aa⟩
   ·rw[Fm l];simp
   ·obtain⟨d,h1,h2⟩:=LD K l hj;obtain⟨r,rfl⟩:j/k<len/\F (j/k)=d:=by
     rw[lP]at h1;by_cases r:j/k<len
     ·rw[List.getElem?_range r]at h1;exact⟨r,Option.some.inj h1⟩
     ·rw[List.getElem?_eq_none (by simpa using r)]at h1;cases h1
    have c1:=(World.cells?_some (hF (j/k) r).1).2.2 (j%k) (Nat.mod_lt _ K);rw[h2]at c1;have e1:((⟨b,o,none⟩:Addr).add (j/k*k)).add (j%k)=⟨b,o+j,none⟩:=by
     rw[add_add];(have:j/k*k+j%k=j:=by rw[Nat.mul_comm];exact Nat.div_add_mod j k);rw[this];unfold Addr.add;split
     ·rename_i h;rw[h];rfl
     ·rfl
    rw[e1]at c1;simpa[World.cell?,z] using c1
end
end
section
open Go.RowKit Go.Shelf
def Jg(md:Region.Mode)(ops:Array Oper)(j:Nat):List Nat:=match ops[j]? with|some o=>(o.after.toList.filter (Region.binds md)).map (·.on)|none=>[]
def Uk(md:Region.Mode)(ops:Array Oper):Nat->Nat->List Nat
 | 0,j=>Jg md ops j
 | n+1,j=>Jg md ops j++(Jg md ops j).flatMap (Uk md ops n)
def ph(md:Region.Mode)(ops:Array Oper)(late:Nat->Bool)(n:Nat):Bool:=
 (List.range ops.size).all fun j=>!late j || ((List.range ops.size).all fun i=>late i || (Uk md ops n j).contains i)
def Cl(md:Region.Mode)(ops:Array Oper)(d:Array Bool):Prop:=∀k o,ops[k]?=Y o->d.getD k false=true->∀e∈o.after,Region.binds md e=true->d.getD e.on false=true
section
variable {n:Nat} {P:Program} {ops:Array Oper} {Q:Exit->Oc->Z->Prop} {md:Region.Mode} {S:Z->Prop} {late:Nat->Bool}
def Fz{d:Array Bool}{j}(h:∀o,ops[j]?=Y o->∀e∈o.after,Region.binds md e=true->d.getD e.on false=true):∀k∈Jg md ops j,d.getD k false=true:=by
 intro k f;unfold Jg at f;cases ho:ops[j]? with
 | none=>rw[ho]at f;cases f
 | some o =>
  rw[ho]at f;obtain⟨e,p,rfl⟩:=List.mem_map.1 f;obtain⟨i,l⟩:=List.mem_filter.1 p;exact h o ho e (by simpa using i) l
def jw{d}(l:Cl md ops d):∀ n j ,(∀o,ops[j]?=Y o->∀e∈o.after,Region.binds md e=true->d.getD e.on false=true)->∀k∈Uk md ops n j,d.getD k false=true
 | 0,j,h=>Fz h
 | n+1,j,h=>by
  intro k f;rcases List.mem_append.1 f with f|f
  ·exact Fz h k f
  ·obtain⟨i,r,f⟩:=List.mem_flatMap.1 f;have p:=Fz h i r;exact jw l n i (fun o t=>l i o t p) k f
def kG{d m i j}(x:ph md ops late m=true)(L:Cl md ops d)(hi:i∈Region.ready md ops d)(hl:late i=false)(R:j∈Region.ready md ops d):late j=false:=by
 cases hlj:late j with
 | false=>rfl
 |true=>
  exfalso;obtain⟨z,oj,l,f⟩:=mem_ready.1 R;obtain⟨e,oi,y,_⟩:=mem_ready.1 hi;unfold ph at x;rw[List.all_eq_true]at x;have r:=x j (List.mem_range.2 (Array.getElem?_eq_some_iff.1 l).1);rw[hlj]at r;simp only[Bool.not_true,Bool.false_or,List.all_eq_true]at r;have t:=r i (List.mem_range.2 (Array.getElem?_eq_some_iff.1 y).1);rw[hl]at t;simp only[Bool.false_or,List.contains_eq_mem,decide_eq_true_eq]at t;have u:=jw L m j (fun o K=>by rw[l]at K;cases K;exact f) i t;rcases Nat.lt_or_ge i d.size with p | p
  ·simp[p]at u e;rw[u]at e;cases e
  ·simp[Array.getElem?_eq_none p]at u
def Cl.step{d}(z:Cl md ops d){j}(K:j∈Region.ready md ops d):Cl md ops (d.setIfInBounds j true):=by
 intro k o y x e u t;have key:d.getD e.on false=true->(d.setIfInBounds j true).getD e.on false=true:=by
  intro h;by_cases r:e.on=j
  ·subst r;rcases Nat.lt_or_ge e.on d.size with p | p
   ·simp[p]
   ·simp[Array.getElem?_eq_none p]at h
  ·rw[getD_set_ne false (Ne.symm r)];exact h
 by_cases i:k=j
 ·subst i;obtain⟨_,L,l,f⟩:=mem_ready.1 K;rw[y]at l;cases l;exact key (f e u t)
 ·rw[getD_set_ne false (Ne.symm i)]at x;exact key (z k o y x e u t)
def Cl.start m:Cl md ops (Array.replicate m false):=by intro k o _ d;simp[Array.getD_eq_getD_getElem?,Array.getElem?_replicate]at d;split at d<;>simp at d
def JG{i o v a}(hi:ops[i]?=Y o)(j:YieldsIf P ops S o v a){K w}(f:S w)(h:K (a.put o.dst v) w):wpOpIn Fence.wide n P ops Q i K a w:=by
 unfold Go.wpOpIn;simp only[hi];have d:Fence.wide.round=I:=rfl;rcases j with ⟨e,hv⟩|⟨e,rfl⟩
 ·simp only[e,if_true,Oper.wpIn,d,Oper.semAt_none,hv w f,Oper.uponIn];exact⟨fun _ _=>trivial,h⟩
 ·simp only[e,Bool.false_eq_true,if_false];exact⟨fun _ _=>trivial,h⟩
def oT{j oi t v}(hj:ops[j]?=Y t)(aa:oi.apart ops t=true)(ab:∀cs b,oi.op ≠ .select cs b)(ac:∀cs b,t.op ≠ .select cs b)(hQ:∀c a w,Q (.panic c) (a.put oi.dst v) w->Q (.panic c) a w){K a w}(p:YieldsIf P ops S oi v a)(h:wpOpIn Fence.wide n P ops Q j K (a.put oi.dst v) w):wpOpIn Fence.wide n P ops Q j (fun a' w'=>YieldsIf P ops S oi v a'/\K (a'.put oi.dst v) w') a w:=by
 obtain⟨h1,y,h3⟩:=Oper.apart_spec aa;have L:Fence.wide.round=I:=rfl;have keep:∀(a:Oc),YieldsIf P ops S oi v a->∀u,YieldsIf P ops S oi v (a.put t.dst u):=fun a p u =>
  p.of_same (execOp_put oi ab a t.dst u h3) (wanted_put oi a t.dst u h3)
 have z:∀d,YieldsIf P ops S oi v { a with defers:=d::a.defers }:=fun d=>p.of_same rfl rfl;unfold wpOpIn at *;simp only[hj]at *;rw[wanted_put t a oi.dst v h1]at h;split
 ·rename_i hw;simp only[hw,if_true]at h;unfold Oper.wpIn at *;refine⟨fun _ _=>trivial,?_⟩;have h:=h.2;rw[L,Oper.semAt_none,execOp_put t ac a oi.dst v h1]at h;rw[L,Oper.semAt_none];generalize (execOp a.eval t).run P w=r at *
  cases r with
  | ok x w' =>
   cases x<;>simp only[Oper.uponIn]at h ⊢
   case value u=>exact⟨keep a p u,by rw[<-Act.put_comm a v u y];exact h⟩
   case skip=>exact⟨keep a p _,by rw[<-Act.put_comm a v undef y];exact h⟩
   case defer d =>
    refine⟨keep _ (z d) _,?_⟩;rw[<-Act.put_comm _ v undef y,<-Act.put_defers];exact h
   case enter f args =>
    refine⟨h.1,CallsIn.mono h.2 fun e R i=>?_⟩;cases e with
    | returned u=>exact⟨keep a p u,by rw[<-Act.put_comm a v u y];exact i⟩
    | panicked c=>exact hQ _ _ _ i
    | outgrown=>exact i
   case row row args=>exact⟨h.1,RowsIn.mono h.2 fun u R i=>⟨keep a p u,by rw[<-Act.put_comm a v u y];exact i⟩⟩
   case round l f tmps assign body =>
    refine⟨h.1,RoundIn.mono h.2 fun e R i=>?_⟩;cases e with
    | returned u=>exact⟨keep a p u,by rw[<-Act.put_comm a v u y];exact i⟩
    | panicked c=>exact hQ _ _ _ i
    | outgrown=>exact i
  | halt x w' =>
   cases x<;>simp only[Oper.uponIn]at h ⊢
   case panic u=>exact hQ _ _ _ h
 ·rename_i hw;simp only[hw]at h;exact⟨fun _ _=>trivial,keep a p _,by rw[<-Act.put_comm a v undef y];exact h.2⟩
def HI(n:Nat)(P:Program)(md:Region.Mode)(ops:Array Oper)(Q:Exit->Oc->Z->Prop)(S:Z->Prop)(late:Nat->Bool):Nat->Array Bool->Oc->Z->Prop
 | 0,d,a,w=>Region.ready md ops d=[]/\Q .normal a w
 | fuel+1,d,a,w =>
  (Region.ready md ops d=[]->Q .normal a w)/\
  ∀i∈Region.ready md ops d,wpOpIn Fence.wide n P ops Q i (fun e w'=>(late i=false->S w')/\HI n P md ops Q S late fuel (d.setIfInBounds i true) e w') a w
def sG:∀ fuel  d  a  w ,HI n P md ops Q S late fuel d a w->wpAnyIn Fence.wide n P md ops Q fuel d a w
 | 0,_,_,_,h=>h
 | fuel+1,_,_,_,h=>⟨h.1,fun i j=>wpOpIn_mono (fun e w' f=>sG fuel _ e w' f.2) (h.2 i j)⟩
def vO{m i oi v}(hg:ph md ops late m=true)(ae:late i=false)(hi:ops[i]?=Y oi)(u:∀(j:Nat)(o:Oper) cs b,ops[j]?=Y o->o.op ≠ .select cs b)(hQ:∀c a w,Q (.panic c) (a.put oi.dst v) w->Q (.panic c) a w):∀ fuel  d  a  w ,Cl md ops d ->(∀j oj,ops[j]?=Y oj->j≠i->d.getD j true=false->(∀e∈oj.after,Region.binds md e=true->e.on≠i)->oi.apart ops oj=true) ->i∈Region.ready md ops d->YieldsIf P ops S oi v a->S w ->HI n P md ops Q S late fuel (d.setIfInBounds i true) (a.put oi.dst v) w->HI n P md ops Q S late (fuel+1) d a w:=by
 intro fuel;induction fuel with
 |zero=>
  intro d a w hc _ t hy K H;refine⟨fun h=>(by rw[h]at t;cases t),fun j z=>?_⟩;by_cases f:j=i
  ·subst f;exact JG hi hy K ⟨fun _=>K,H⟩
  ·have:=ready_mono z f;rw[H.1]at this;cases this
 | succ fuel ih =>
  intro d a w hc l t hy K H;refine⟨fun h=>(by rw[h]at t;cases t),fun j z=>?_⟩;by_cases f:j=i
  ·subst f;exact JG hi hy K ⟨fun _=>K,H⟩
  ·have x:=H.2 j (ready_mono z f);have af:=kG hg hc t ae z;obtain⟨r,oj,y,L⟩:=mem_ready.1 z;have aa:∀e∈oj.after,Region.binds md e=true->e.on≠i:=fun e he hb ac=>by
    have x:=L e he hb;have h0:=(mem_ready.1 t).1;rw[ac]at x;rcases Nat.lt_or_ge i d.size with h' | h'
    ·simp[h']at h0 x;rw[h0]at x;cases x
    ·simp[Array.getElem?_eq_none h']at x
   have h2:=oT y (l j oj y f r aa) (fun cs b=>u i oi cs b hi) (fun cs b=>u j oj cs b y) hQ hy x;have p:∀k ok,ops[k]?=Y ok->k≠i->(d.setIfInBounds j true).getD k true=false ->
     (∀e∈ok.after,Region.binds md e=true->e.on≠i)->oi.apart ops ok=true:=fun k ok hk ad ab ag=>by
    refine l k ok hk ad ?_ ag;by_cases R:j=k
    ·subst R;exact r
    ·rw[getD_set_ne true R]at ab;exact ab
   refine wpOpIn_mono (fun a' w' h3=>⟨h3.2.1,ih (d.setIfInBounds j true) a' w' (hc.step z) p (ready_mono t (Ne.symm f)) h3.1 (h3.2.1 af) ?_⟩) h2;rw[Array.setIfInBounds_comm _ _ f];exact h3.2.2
def Vl(n:Nat)(P:Program)(md:Region.Mode)(ops:Array Oper)(Q:Exit->Oc->Z->Prop)(S:Z->Prop)(late:Nat->Bool)(fuel:Nat)(d:Array Bool)(a:Oc)(w:Z):Prop:=Cl md ops d->HI n P md ops Q S late fuel d a w
def Oq(n:Nat)(P:Program)(md:Region.Mode)(ops:Array Oper)(Q:Exit->Oc->Z->Prop)(S:Z->Prop)(late:Nat->Bool)(fuel:Nat)(d:Array Bool)(a:Oc)(w:Z)(i:Nat)(oi:Oper):Prop:=
 ∃v,late i=false/\Region.noSelect ops=true/\Region.free md ops d i=true/\(Region.ready md ops d).contains i=true/\(∀c a w,Q (.panic c) (a.put oi.dst v) w->Q (.panic c) a w)/\YieldsIf P ops S oi v a/\S w/\
  Vl n P md ops Q S late fuel (d.setIfInBounds i true) (a.put oi.dst v) w
def Tm{m}(y:ph md ops late m=true){i oi fuel d a w}(hi:ops[i]?=Y oi)(h:Oq n P md ops Q S late fuel d a w i oi):Vl n P md ops Q S late (fuel+1) d a w:=by
 obtain⟨v,j,l,p,r,t,u,h6,x⟩:=h;intro e;have f:i∈Region.ready md ops d:=by simpa using r
 exact vO y j hi (Region.noSelect_spec l) t fuel d a w e (Region.free_spec hi p) f u h6 (x (e.step f))
def Uq(n:Nat)(P:Program)(md:Region.Mode)(ops:Array Oper)(Q:Exit->Oc->Z->Prop)(S:Z->Prop)(late:Nat->Bool)(fuel:Nat)(d:Array Bool)(a:Oc)(w:Z)(i:Nat)(o:Oper):Prop:=
 Region.ready md ops d=[i]/\∀K':Oc->Z->Prop,Shut (∀a w,(late i=false->S w)->((late i=false->S w)->Vl n P md ops Q S late fuel (d.setIfInBounds i true) a w)->K' a w) ->
  if Region.wanted o (yielded ops a.tmps)=true then Oper.wpIn Fence.wide n P o a w K' Q else K' (a.put o.dst undef) w
def Iq{i o fuel d a w}(hi:ops[i]?=Y o)(h:Uq n P md ops Q S late fuel d a w i o):Vl n P md ops Q S late (fuel+1) d a w:=by
 obtain⟨r,h⟩:=h;intro y;refine⟨fun t=>absurd (r▸t) sM,fun j f=>?_⟩;have l:=f;rw[r]at f;cases List.mem_singleton.1 f;refine wpOpIn_step hi (fun K' u=>?_);have e:=h K' (fun a w p x=>u a w ⟨p,x p (y.step l)⟩);split
 ·rename_i hw;rw[if_pos hw]at e;exact e
 ·rename_i hw;rw[if_neg hw]at e;exact⟨fun _ _=>trivial,e⟩
def uo{v i oi fuel d a w G}(h:G)(t:ph md ops late 12=true:=by kernel_rfl)(hi:ops[i]?=Y oi:=by(simp only[gA,gS,gZ];rfl))(f:late i=false:=by rfl)(j:Region.noSelect ops=true:=by kernel_rfl)(l:Region.free md ops d i=true:=by kernel_rfl)(p:(Region.ready md ops d).contains i=true:=by kernel_rfl)(h4:∀c a w,Q (.panic c) (a.put oi.dst v) w->Q (.panic c) a w:=by exact fun _ _ _ h=>h)(u:Region.wanted oi (yielded ops a.tmps)=true:=by rfl)(x:∀w,S w->(execOp a.eval oi).run P w = .ok (.value v) w:=by(intro w e;simp only[Da,and_true]at e;go_simp;try(with_reducible rfl)))(h6:S w:=by(with_reducible assumption))(r:om (i+1) (Vl n P md ops Q S late fuel (d.setIfInBounds i true) (a.put oi.dst v) w)=G:=by((try simp only[Act.put,sA,sZ,sS,Nat.reduceAdd]);rfl)):om i (Vl n P md ops Q S late (fuel+1) d a w):=by subst r;exact Tm t hi ⟨v,f,j,l,p,h4,Or.inl ⟨u,x⟩,h6,h⟩
def Uz{i oi fuel d a w G}(h:G)(r:ph md ops late 12=true:=by kernel_rfl)(hi:ops[i]?=Y oi:=by(simp only[gA,gS,gZ];rfl))(e:late i=false:=by rfl)(f:Region.noSelect ops=true:=by kernel_rfl)(j:Region.free md ops d i=true:=by kernel_rfl)(l:(Region.ready md ops d).contains i=true:=by kernel_rfl)(h4:∀c a w,Q (.panic c) (a.put oi.dst undef) w->Q (.panic c) a w:=by exact fun _ _ _ h=>h)(t:Region.wanted oi (yielded ops a.tmps)=false:=by rfl)  (h6:S w:=by(with_reducible assumption))(p:om (i+1) (Vl n P md ops Q S late fuel (d.setIfInBounds i true) (a.put oi.dst undef) w)=G:=by((try simp only[Act.put,sA,sZ,sS,Nat.reduceAdd]);rfl)):om i (Vl n P md ops Q S late (fuel+1) d a w):=by subst p;exact Tm r hi ⟨undef,e,f,j,l,h4,Or.inr ⟨t,rfl⟩,h6,h⟩
def Sj{i o fuel d a w}(h:∀K':Oc->Z->Prop,Shut (∀a w,(late i=false->S w)->((late i=false->S w)->Vl n P md ops Q S late fuel (d.setIfInBounds i true) a w)->K' a w) ->if Region.wanted o (yielded ops a.tmps)=true then Oper.wpIn Fence.wide n P o a w K' Q else K' (a.put o.dst undef) w)(hi:ops[i]?=Y o:=by(simp only[gA,gS,gZ];rfl))(e:Region.ready md ops d=[i]:=by kernel_rfl):Vl n P md ops Q S late (fuel+1) d a w:=Iq hi ⟨e,h⟩
def Yh{d a w}(e:Region.ready md ops d=[])(h:Q .normal a w):∀fuel,Vl n P md ops Q S late fuel d a w
 | 0=>fun _=>⟨e,h⟩
 | _+1=>fun _=>⟨fun _=>h,by rw[e];simp⟩
def NG{f a w} late S(e:P.follows .mixedOrders=true)(d:S w.drew)(h:S w.drew->Vl n P .any ops Q S late ops.size (Array.replicate ops.size false) a w.drew):(Code.region f ops true).wpIn Fence.wide n P Q a w:=
 wpIn_region_any e (sG _ _ _ _ (h d (Cl.start _)))
end
def PP(_:Z)(c:List J)(p:Int×Int):Prop:=c=[C M p.1,C M p.2]
abbrev Ia(w:Z)(v:J)(ps:LP):Prop:=Sl 91 2 PP w v ps
def Ia.f{w w' v ps}(h:Ia w v ps)(k:Ba w w'):Ia w' v ps:=Sl.ext h (fun _ _ h=>h) k
def Ia.E{w w' v ps}(h:Ia w v ps)(k:Ja 91 w w'):Ia w' v ps:=Sl.keep h (fun _ _ h=>h) k
def Ia.at'{w a n c ps}(h:Ia w (O a n c) ps){i p}(r:ps[i]?=Y p):∃b o,a=Y ⟨b,o,I⟩/\b<w.heap.size/\w.cell? ⟨b,o+i*2,I⟩=Y (C M p.1)/\w.cell? ⟨b,o+i*2+1,I⟩=Y (C M p.2):=by obtain⟨b,o,d,rfl,l,t,j,f⟩:=Sl.at h r;have e:d=[C M p.1,C M p.2]:=j;subst e;exact⟨b,o,rfl,l,f 0 _ rfl,f 1 _ rfl⟩
def Lf(ps:LP)(i:Int):Int×Int:=ps.getD ((i+ps.length)%ps.length).toNat (0,0)
def Rx{ps i}(h:0<ps.length):∃k:Nat,k<ps.length/\(i+(ps.length:Int))%(ps.length:Int)=(k:Int)/\ps[k]?=Y (Lf ps i):=by have d:=Int.emod_nonneg (i+ps.length) (show (ps.length:Int)≠0 by omega);have e:=Int.emod_lt_of_pos (i+ps.length) (show 0<(ps.length:Int) by omega);refine⟨((i+ps.length)%ps.length).toNat,by omega,by omega,?_⟩;unfold Lf;rw[gD];have:((i+(ps.length:Int))%(ps.length:Int)).toNat<ps.length:=oM;simp only[gE this,Option.getD_some]
def fK w v ps i(h:Ia w v ps)(r:0<ps.length)(R:ps.length<=1000000)(hi:-(ps.length:Int)<=i)(u:i<=1000000):Calls Tryz.prog 267 #[v,C M i] w fun e w'=>e=.returned (Oa #[C M (Lf ps i).1,C M (Lf ps i).2])/\Ba w w':=by
 obtain⟨a,c,rfl⟩:=h.form;obtain⟨k,K,L,d⟩:=Rx (i:=i) r;obtain⟨b,o,rfl,y,l,p⟩:=h.at' d;obtain⟨x,f⟩:=gX ((Lf ps i).1);obtain⟨z,j⟩:=gX ((Lf ps i).2);rw[f]at l ⊢;rw[j]at p ⊢;clear f j d h;generalize ps.length=n at *
 have u1:(0:Int)<=i+(n:Int):=oM;have u2:(0:Int)<(n:Int):=oM;have u3:(k:Int)<(n:Int):=oM;have t:b<w.heap.size+1:=oM;go_in;go_wp2;exact bR (v:=Oa #[C M x,C M z]) (by simp[results,Tryz.results267,go_sem]) rfl ⟨rfl,eA⟩
def Ta:LP->Int×Int
 | []=>(0,0)
 | p::ps=>ps.foldl (fun o q=>(min o.1 q.1,min o.2 q.2)) p
def yS(ps:LP) q(h:ps≠[]):Ta (ps++[q])=(min (Ta ps).1 q.1,min (Ta ps).2 q.2):=by
 cases ps with
 | nil=>exact absurd rfl h
 | cons p ps=>simp[Ta]
def Dw(w:Z)(ps:LP)(g:Nat)(d:J)(W:Z):Prop:=
 ∃i:Nat,i<=ps.length/\d=C M i/\g=ps.length-i/\Ba w W/\W.heap[w.heap.size]?=Y (Ob #[C M 0,C M 0] 91 (0,0))/\
  ∃x z,(if i=0 then ps[0]?=Y (x,z)else Ta (ps.take i)=(x,z))/\W.heap[w.heap.size+1]?=Y (Ob #[C M x,C M z] 91 (0,0))
def xS{ps:LP}{i x z q}(h:if i=0 then ps[0]?=Y (x,z)else Ta (ps.take i)=(x,z))(d:ps[i]?=Y q):Ta (ps.take (i+1))=(min x q.1,min z q.2):=by
 rw[ze _ _ _ d];by_cases f:i=0
 ·subst f;rw[if_pos rfl]at h;rw[h]at d;cases d;simp[Ta]
 ·rw[if_neg f]at h;rw[yS _ _ (by
   intro e;have:=(lS.1 d).1;have j:(ps.take i).length=0:=by rw[e];rfl
   rw[List.length_take]at j;omega),h]
def Dw.step{w wr ps i n x z d e a b}(t:ps.length=n)(r:i<n)(y:Ba w wr)(j:wr.heap[w.heap.size]?=Y (Ob #[C M 0,C M 0] 91 (0,0)))(f:wr.heap[w.heap.size+1]?=Y (Ob #[C M x,C M z] 91 (0,0)))(hv:if i=0 then ps[0]?=Y (x,z)else Ta (ps.take i)=(x,z))(u:ps[i]?=Y (d,e))(l:a=min x d)(p:b=min z e):Dw w ps (n-(i+1)) (C M ((i:Int)+1)) (((wr.setCell ⟨w.heap.size+1,0,I⟩ (C M a)).setCell ⟨w.heap.size+1,1,I⟩ (C M b)).alloc (Ob #[C M d,C M e] 91)):=by
 have K:=Ya f;refine⟨i+1,by omega,by go_num,by rw[t],eA,?_,a,b,?_,?_⟩
 ·rw[tg,if_neg (by simp only[fg];omega),bS _ _ _ _ dO,bS _ _ _ _ dO];exact j
 ·rw[if_neg oM,xS hv u,l,p]
 ·rw[tg,if_neg (by simp only[fg];omega)];exact Dk f _ _
def AE w v ps(h:Ia w v ps)(h0:0<ps.length):Calls Tryz.prog 232 #[v] w fun e w'=>e=.returned (Oa #[C M (Ta ps).1,C M (Ta ps).2])/\Ba w w':=by
 obtain⟨a,c,rfl⟩:=h.form;obtain⟨n,y⟩:=gX ps.length;rw[y]at h ⊢;have r:=h.le;unfold maxLen at r;have ac:0<n:=oM;have ad:n<=9223372036854775807:=oM;obtain⟨p,K⟩:∃p,ps[0]?=Y p:=⟨ps[0],by simp⟩;obtain⟨x0,z0⟩:=p;obtain⟨b,o,rfl,hb,R,c1⟩:=h.at' K;simp only[Nat.zero_mul,Nat.add_zero]at R c1;have ab:b<w.heap.size+1:=oM;have d:=za y;have Hp:=za K;clear y r K h0;go_in;go_wp2;go_loopg [11] n (Dw w ps)
 case atStart =>
  refine⟨0,by omega,rfl,by rw[d.o];rfl,eA,by rw[tg,if_neg sM];exact mc _ _ _ rfl,x0,z0,by simpa using Hp.o,mc _ _ _ sM⟩
 case round =>
  obtain⟨i,hi,rfl,rfl,hx,j,x,z,hv,f⟩:=hrel;rw[d.o]at hi;have r0:=Aa j 0 (C M 0);have r1:=Aa j 1 (C M 0);have ag:=Za j 0;have ah:=Za j 1;have o0:=Aa f 0 (C M x);have o1:=Aa f 1 (C M z);have ae:=Za f 0;have af:=Za f 1;have zr:=Ya j;have zo:=Ya f;have HR:=za j;have HO:=za f;have HV:=za hv;clear j f hv R c1;by_cases t:i<n
  ·obtain⟨q,L⟩:∃q,ps[i]?=Y q:=⟨ps[i]'(by rw[d.o];omega),by simp[d.o,t]⟩;obtain⟨b',o',e',aa,d0,d1⟩:=(h.f hx).at' L;cases e';obtain⟨qx,qz⟩:=q;have Hq:=za L;clear L;go_wp2
   all_goals
    go_roundg (n-(i+1))
    case measure=>have:=d.o;omega
    case rel =>
     exact Dw.step d.o t hx HR.o HO.o HV.o Hq.o oM oM
  ·obtain rfl:i=n:=oM;have l:=HV.o;rw[if_neg oM,lT (by rw[d.o];omega)]at l;have u:=za l;clear l;go_wp2;refine bR (v:=Oa #[C M x,C M z]) (by simp[results,Tryz.results232,go_sem,r0,r1]) rfl ⟨?_,eA⟩;rw[u.o]
def NB(W:Z)(b:Nat)(n:Int):Prop:=∃s a m c,W.heap[b]?=Y (Ob #[C M s,O a m c] 163 (0,0))/\Cd W (Oa #[C M s,O a m c]) n
section
variable {W W':Z} {b b':Nat} {n n':Int}
def NB.ext(h:NB W b n)(k:Ba W W'):NB W' b n:=by obtain⟨s,a,m,c,d,e⟩:=h;exact⟨s,a,m,c,k.e d,e.ext k⟩
def NB.not(h:NB W b n):ud 3 W b:=by obtain⟨s,a,m,c,d,i⟩:=h;intro cs f e;rw[d]at e;cases e
def NB.rd(h:NB W b n):∃s a m c,s=n.sign/\W.cell? ⟨b,0,I⟩=Y (C M s)/\W.cell? ⟨b,1,I⟩=Y (O a m c)/\W.frozen? ⟨b,0,I⟩=false/\W.frozen? ⟨b,1,I⟩=false/\b<W.heap.size/\Cd W (Oa #[C M s,O a m c]) n:=by obtain⟨s,a,m,c,d,e⟩:=h;exact⟨s,a,m,c,e.sgn,Lb d (i:=0) rfl,Lb d (i:=1) rfl,Za d 0,Za d 1,Ya d,e⟩
def NB.put{s a m c}(h:NB W b n)(f:Cd W (Oa #[C M s,O a m c]) n'):NB ((W.setCell ⟨b,0,I⟩ (C M s)).setCell ⟨b,1,I⟩ (O a m c)) b n':=by have d:=h.not;obtain⟨r,i,p,j,e,l⟩:=h;exact⟨s,a,m,c,Dk e _ _,f.keep (((Ja.refl _ W).y d _).y (d.set _ _) _)⟩
def NB.other{p}(h:NB W b n)(i:p.block≠b)(j:ud 3 W p.block) u:NB (W.setCell p u) b n:=by obtain⟨s,a,m,c,d,f⟩:=h;exact⟨s,a,m,c,(bS _ _ _ _ (fun e=>i e.symm)).trans d,f.keep ((Ja.refl _ W).y j _)⟩
def NB.new{W0 s a m c}(e:Cd W0 (Oa #[C M s,O a m c]) n)(d:b=W0.heap.size):NB (W0.alloc (Ob #[C M s,O a m c] 163)) b n:=
 ⟨s,a,m,c,mc _ _ _ d,e.ext ((eR _).alloc _)⟩
end
def Tp{W b cs d}(h:W.heap[b]?=Y (Ob cs 163 d)) u v:Ja 3 W ((W.setCell ⟨b,0,I⟩ u).setCell ⟨b,1,I⟩ v):=by
 have f:ud 3 W b:=by intro cs d e;rw[h]at e;cases e
 exact((Ja.refl _ W).y f _).y (f.set _ _) _
def uI(n:Int):-1<=n.sign/\n.sign<=1:=by rcases vi n with h|h|h<;>omega
def Cd.neg{w s a m c n}(h:Cd w (Oa #[C M s,O a m c]) n):Cd w (Oa #[C M (-s),O a m c]) (-n):=by obtain⟨sl,ds,d,e,f,i⟩:=h;cases d;exact⟨_,ds,by rw[Int.sign_neg],e,f,by rw[Int.natAbs_neg];exact i⟩
def Cd.abs{w s a m c n}(h:Cd w (Oa #[C M s,O a m c]) n):Cd w (Oa #[C M (s*s),O a m c]) (n.natAbs:Int):=by
 obtain⟨sl,ds,d,f,i,j⟩:=h;cases d;refine⟨_,ds,?_,f,i,by simpa using j⟩;rcases vi n with ⟨e,h⟩|⟨e,h⟩|⟨e,h⟩<;>rw[e]
 ·rw[show ((n.natAbs:Int)).sign=1 from Int.sign_eq_one_of_pos oM];rfl
 ·subst h;rfl
 ·rw[show ((n.natAbs:Int)).sign=1 from Int.sign_eq_one_of_pos oM];rfl
def Dt w v n(h:Cd w v n):Calls Tryz.prog 211 #[v] w (Zh w (-n)):=by obtain⟨s,a,m,c,rfl,e⟩:=h.j;have d:=uI n;rw[<-e]at d;clear e;go_in;go_wp2;exact bR (v:=Oa #[C M (-s),O a m c]) (by simp[results,Tryz.results211,go_sem]) rfl ⟨_,rfl,h.neg.ext eA,eA⟩
def BB w s a m c n(h:Cd w (Oa #[C M s,O a m c]) n):Calls Tryz.prog 275 #[Oa #[C M s,O a m c]] w fun e w'=>e=.returned (Oa #[C M (s*s),O a m c])/\Ba w w':=by
 have f:=h.sgn;have d:s*s=1\/s*s=0:=by rcases vi n with ⟨e,_⟩|⟨e,_⟩|⟨e,_⟩<;>rw[f,e]<;>decide
 obtain⟨p,i⟩:=gX (s*s);rw[i]at d ⊢;have j:0<=p:=oM;have l:p<=1:=oM;clear f d h;go_in;go_wp2;exact bR (v:=Oa #[C M p,O a m c]) (by simp[results,Tryz.results275,go_sem]) rfl ⟨rfl,eA⟩
def KD w v n(h:Cd w v n):Calls Tryz.prog 275 #[v] w (Zh w (n.natAbs:Int)):=by obtain⟨s,a,m,c,rfl,f⟩:=h.j;exact(BB w s a m c n h).mono fun _ _ ⟨e,d⟩=>⟨_,e,h.abs.ext d,d⟩
def VG(w:Z)(n:Int)(t0 t4:J)(wr:Z):Prop:=
 ∃(cur:Int)(d:List Int),t0=C M cur/\ -9223372036854775808<=cur/\cur<=9223372036854775807/\d.length<=5/\Wd C4 d/\(n.natAbs:Int)=dv C4 d+C4 ^ d.length*(cur.natAbs:Int)/\
  Cb 3 wr (w.heap.size+1) t4 d/\Ba w wr/\w.heap.size<wr.heap.size/\wr.heap[w.heap.size]?=Y (Ob #[C M 0,O I 0 0] 163 (0,0))
def iB{N c d k}(h:N=d+C4 ^ k*c)(r:0<=d)(p:N<=9223372036854775808)(f:1<=c):k<=4:=by
 by_cases e:k<=4
 ·exact e
 ·have i:=On (b:=C4) dM (show 5<=k by omega);have j:C4 ^ k*1<=C4 ^ k*c:=Int.mul_le_mul_of_nonneg_left f (by have:=Tj Ok k;omega);have l:C4 ^ 5=100000000000000000000:=dM;omega
def tv{N c r q d}(h:N=dv C4 d+C4 ^ d.length*c)(i:r=c%10000)(f:q=c/10000):N=dv C4 (d++[r])+C4 ^ (d++[r]).length*q:=by
 subst i f;rw[lA,List.length_singleton];have:=PC d d d.length c rfl;rw[Nn,h,Int.pow_succ];have e:c=c%10000+C4*(c/10000):=by unfold C4;omega
 generalize c%10000=r at *
 generalize c/10000=q at *
 subst e;grind
def VA(x:Int):((Int.tmod x 10000).natAbs:Int)=(x.natAbs:Int)%10000/\((Int.tdiv x 10000).natAbs:Int)=(x.natAbs:Int)/10000:=by
 by_cases d:0<=x
 ·rw[Int.tmod_eq_emod_of_nonneg d,Int.tdiv_eq_ediv_of_nonneg d];omega
 ·obtain⟨y,rfl⟩:∃y,x = -y:=⟨-x,by omega⟩;rw[Int.neg_tmod,Int.neg_tdiv];rw[Int.tmod_eq_emod_of_nonneg oM,Int.tdiv_eq_ediv_of_nonneg oM];omega
def Oo w n(h0:-9223372036854775808<=n)(h1:n<=9223372036854775807):Calls Tryz.prog 208 #[C M n] w (Zh w n):=by
 have aa:n<0->Calls Tryz.prog 208 #[C M n] w (Zh w n):=by
  intro hn;go_in;go_wp2;go_loopw [0,4] (VG w n) (fun t0 _ _=>(intOf t0).natAbs)
  case atStart=>exact⟨n,[],rfl,by omega,by omega,by simp,Wd.nil _,by simp,Cb.nil _ _ _,(eR w).alloc _,by simp,aN w _⟩
  case round =>
   obtain⟨cur,ys,rfl,c0,c1,ak,p,hv,l,L,ad,t⟩:=hrel;have Hv:=za hv;have d:=za t;clear hv t;obtain⟨oa,oc,rfl⟩:=l.form;by_cases hc:cur=0
   ·subst hc;(have e:(n.natAbs:Int)=dv C4 ys:=by have:=Hv.o;simpa using this);have E:=za e;have ae:=Aa d.o 0 (C M 0);have af:=Aa d.o 1 (O I 0 0);have al:=Za d.o 0;have am:=Za d.o 1;clear e;go_wp2_with(go_at_call 213;(with_reducible refine(Zs _ (-1) _ ys n l.ints oM (fun x hx=>?_) ?_ ?_ ?_).mono ?_);(have:=p x hx;unfold C4 at this;omega);(rw[<-E.o];omega);(rw[<-E.o];omega);(intro _;first|exact .inl rfl|exact .inr rfl);rintro e w1 ⟨r1,rfl,z,K⟩;obtain⟨s1,a1,m1,c1,rfl,-⟩:=z.j;obtain⟨ac,ai⟩:=K.cells);exact bR (v:=Oa #[C M s1,O a1 m1 c1]) (by simp[results,Tryz.results208,go_sem,ac,ad,ae,af]) rfl ⟨_,rfl,z.keep (Tp (K.e d.o) _ _),eA⟩
   ·(have ah:(cur != 0)=true:=by simpa using hc);have aj:ys.length<=4:=iB Hv.o (Yi Ok p).1 oM oM;obtain⟨e1,e2⟩:=VA cur;obtain⟨r,hr⟩:=gX (Int.tmod cur 10000);obtain⟨q,hq⟩:=gX (Int.tdiv cur 10000);rw[hr]at e1;rw[hq]at e2;have r1:-10000<r:=oM;have r2:r<10000:=oM;have q1:-9223372036854775808<=q:=oM;have q2:q<=9223372036854775807:=oM;have u:=za e1;have R:=za e2;clear e1 e2;by_cases ag:r<0
    ·skip
     (have y:-r=(cur.natAbs:Int)%10000:=by have:=u.o;omega);have E9:=za y;clear y;go_wp2_with(at_builtin;refine lj Ek Tryz.underlying47 rfl _ _ rfl rfl l rfl oM oM ?_;intro v' w1 j f i);go_roundw
     case rel =>
      refine⟨q,_,rfl,by omega,by omega,by simp;omega,p.snoc (by have:=u.o;omega) (by have:=u.o;unfold C4;omega),tv Hv.o E9.o R.o,j,L.D f oM,?_,?_⟩
      ·have:=f.size;omega
      ·exact i.get d.o dM
     case measure=>have:=R.o;simp[intOf];omega
    ·skip
     (have y:r=(cur.natAbs:Int)%10000:=by have:=u.o;omega);have E9:=za y;clear y;go_wp2_with(at_builtin;refine lj Ek Tryz.underlying47 rfl _ _ rfl rfl l rfl oM oM ?_;intro v' w1 j f i);go_roundw
     case rel =>
      refine⟨q,_,rfl,by omega,by omega,by simp;omega,p.snoc (by have:=u.o;omega) (by have:=u.o;unfold C4;omega),tv Hv.o E9.o R.o,j,L.D f oM,?_,?_⟩
      ·have:=f.size;omega
      ·exact i.get d.o dM
     case measure=>have:=R.o;simp[intOf];omega
 have ab:¬n<0->Calls Tryz.prog 208 #[C M n] w (Zh w n):=by
  intro hn;go_in;go_wp2;go_loopw [0,4] (VG w n) (fun t0 _ _=>(intOf t0).natAbs)
  case atStart=>exact⟨n,[],rfl,by omega,by omega,by simp,Wd.nil _,by simp,Cb.nil _ _ _,(eR w).alloc _,by simp,aN w _⟩
  case round =>
   obtain⟨cur,ys,rfl,c0,c1,ak,p,hv,l,L,ad,t⟩:=hrel;have Hv:=za hv;have d:=za t;clear hv t;obtain⟨oa,oc,rfl⟩:=l.form;by_cases hc:cur=0
   ·subst hc;(have e:(n.natAbs:Int)=dv C4 ys:=by have:=Hv.o;simpa using this);have E:=za e;have ae:=Aa d.o 0 (C M 0);have af:=Aa d.o 1 (O I 0 0);have al:=Za d.o 0;have am:=Za d.o 1;clear e;go_wp2_with(go_at_call 213;(with_reducible refine(Zs _ (1) _ ys n l.ints oM (fun x hx=>?_) ?_ ?_ ?_).mono ?_);(have:=p x hx;unfold C4 at this;omega);(rw[<-E.o];omega);(rw[<-E.o];omega);(intro _;first|exact .inl rfl|exact .inr rfl);rintro e w1 ⟨r1,rfl,z,K⟩;obtain⟨s1,a1,m1,c1,rfl,-⟩:=z.j;obtain⟨ac,ai⟩:=K.cells);exact bR (v:=Oa #[C M s1,O a1 m1 c1]) (by simp[results,Tryz.results208,go_sem,ac,ad,ae,af]) rfl ⟨_,rfl,z.keep (Tp (K.e d.o) _ _),eA⟩
   ·(have ah:(cur != 0)=true:=by simpa using hc);have aj:ys.length<=4:=iB Hv.o (Yi Ok p).1 oM oM;obtain⟨e1,e2⟩:=VA cur;obtain⟨r,hr⟩:=gX (Int.tmod cur 10000);obtain⟨q,hq⟩:=gX (Int.tdiv cur 10000);rw[hr]at e1;rw[hq]at e2;have r1:-10000<r:=oM;have r2:r<10000:=oM;have q1:-9223372036854775808<=q:=oM;have q2:q<=9223372036854775807:=oM;have u:=za e1;have R:=za e2;clear e1 e2;by_cases ag:r<0
    ·skip
     (have y:-r=(cur.natAbs:Int)%10000:=by have:=u.o;omega);have E9:=za y;clear y;go_wp2_with(at_builtin;refine lj Ek Tryz.underlying47 rfl _ _ rfl rfl l rfl oM oM ?_;intro v' w1 j f i);go_roundw
     case rel =>
      refine⟨q,_,rfl,by omega,by omega,by simp;omega,p.snoc (by have:=u.o;omega) (by have:=u.o;unfold C4;omega),tv Hv.o E9.o R.o,j,L.D f oM,?_,?_⟩
      ·have:=f.size;omega
      ·exact i.get d.o dM
     case measure=>have:=R.o;simp[intOf];omega
    ·skip
     (have y:r=(cur.natAbs:Int)%10000:=by have:=u.o;omega);have E9:=za y;clear y;go_wp2_with(at_builtin;refine lj Ek Tryz.underlying47 rfl _ _ rfl rfl l rfl oM oM ?_;intro v' w1 j f i);go_roundw
     case rel =>
      refine⟨q,_,rfl,by omega,by omega,by simp;omega,p.snoc (by have:=u.o;omega) (by have:=u.o;unfold C4;omega),tv Hv.o E9.o R.o,j,L.D f oM,?_,?_⟩
      ·have:=f.size;omega
      ·exact i.get d.o dM
     case measure=>have:=R.o;simp[intOf];omega
 by_cases hn:n<0
 ·exact aa hn
 ·exact ab hn
def Ei(w:Z) o d:((w.alloc o).alloc d).heap[w.heap.size]?=Y o:=by rw[Below.heap_alloc _ _ _ sM];exact aN w o
def jV(w:Z)(s l:Int)(a f:Option Od)(m i c c':Nat)(xs e:List Int)(D:Int)(t5 p:J)(W:Z):Prop:=
 ∃d j:Int,t5=C M d/\p=C M j/\ -1<=j/\j<m/\ -9223372036854775807<=d/\d<=9223372036854775807/\(d≠0->d.sign=D)/\(d=0->xs.length=e.length/\xs.drop (j+1).toNat=e.drop (j+1).toNat)/\Ba w W/\
  W.heap[w.heap.size]?=Y (Ob #[C M s,O a m c] 163 (0,0))/\W.heap[w.heap.size+1]?=Y (Ob #[C M l,O f i c'] 163 (0,0))
def Nz w va vb na nb(ha:Cd w va na)(hb:Cd w vb nb):Calls Tryz.prog 250 #[va,vb] w fun e w'=>e=.returned (C M ((na.natAbs:Int)-(nb.natAbs:Int)).sign)/\Ba w w':=by
 obtain⟨s,a,m,c,rfl,hs⟩:=ha.j;obtain⟨s',a',m',c',rfl,an⟩:=hb.j;obtain⟨xs,hl,hi,hc,hv⟩:=ha.open;obtain⟨ys,aa,ae,R,ah⟩:=hb.open;have hm:=hi.le;have ag:=ae.le;rw[hl]at hm;rw[aa]at ag;unfold maxLen at hm ag;obtain⟨D,hD⟩:=gX (((na.natAbs:Int)-(nb.natAbs:Int)).sign);rw[hD];rw[<-hv,<-ah]at hD;have HD:=za hD;have t:=za hl;have f:=za aa;clear hs an hl aa hv ah hD ha hb;go_in;go_wp2;go_loopw [5,6] (jV w s s' a a' m m' c c' xs ys D) (fun _ t6 _=>(intOf t6+1).toNat)
 case atStart =>
  refine⟨(m:Int)-m',(m:Int)-1,rfl,rfl,by omega,by omega,by omega,by omega,fun h=>?_,fun h=>⟨by rw[t.o,f.o];omega,?_⟩,eA,Ei ..,mc _ _ _ sM⟩
  ·rw[<-HD.o,<-OI hc R (by rw[t.o,f.o];omega),t.o,f.o]
  ·rw[List.drop_of_length_le (by rw[t.o];omega),List.drop_of_length_le (by rw[f.o];omega)]
 case round =>
  obtain⟨d,j,rfl,rfl,j0,j1,d0,d1,u,hz,hx,L,l⟩:=hrel;have Hd:=za u;have Hz:=za hz;have aj:=za L;have ak:=za l;have ar:=Aa L 1 (O a m c);have au:=Aa l 1 (O a' m' c');clear u hz L l;rcases Int.lt_trichotomy d 0 with u|u|u
  ·have e:D = -1:=by rw[<-Hd.o oM];exact Int.sign_eq_neg_one_of_neg u
   have za:¬d=0:=oM;have al:(d==0)=false:=by simpa using za
   have ax:¬0<d:=oM;by_cases hj:0<=j
   all_goals
    go_wp2;go_ret;exact⟨rfl,eA⟩
  ·subst u;obtain⟨af,i⟩:=Hz.o rfl;have K:=za af;have ab:=za i;clear af i;by_cases hj:0<=j
   ·obtain⟨k,rfl⟩:=Int.eq_ofNat_of_zero_le hj;have hk:k<m:=oM;(have am:k<m':=by have:=K.o;rw[t.o,f.o]at this;omega);obtain⟨b,o,rfl,l,ai⟩:=(hi.ext hx).open (by rw[t.o];omega);obtain⟨b',o',rfl,aq,z⟩:=(ae.ext hx).open (by rw[f.o];omega);obtain⟨x,p⟩:∃x,xs[k]?=Y x:=⟨xs[k]'(by rw[t.o];omega),by simp[t.o,hk]⟩;obtain⟨y,r⟩:∃y,ys[k]?=Y y:=⟨ys[k]'(by rw[f.o];omega),by simp[f.o,am]⟩;have av:=ai k x p;have aw:=z k y r;have ao:=hc.1 x (lM p);have ap:=R.1 y (lM r);unfold C4 at ao ap;have ac:=za p;have ad:=za r;clear ai z p r;go_wp2;go_quiet (fail);go_wp2;go_roundw
    case rel =>
     have i:=ab.o;rw[show ((k:Int)+1).toNat=k+1 by omega]at i;refine⟨_,(k:Int)-1,rfl,rfl,by omega,by omega,by omega,by omega,fun h=>?_,fun h=>⟨K.o,?_⟩,eA,?_,?_⟩
     ·rw[<-HD.o];exact QI hc R K.o ac.o ad.o i oM
     ·obtain rfl:x=y:=oM;rw[show ((k:Int)-1+1).toNat=k by omega];exact RK ac.o ad.o i
     ·exact aj.o
     ·exact ak.o
    case measure=>simp[intOf]
   ·obtain rfl:j = -1:=oM;have e:D=0:=by
     have:=ab.o;simp only[show ((-1:Int)+1).toNat=0 from rfl,List.drop_zero]at this;rw[<-HD.o,this];simp
    go_wp2;go_ret;exact⟨rfl,eA⟩
  ·have e:D=1:=by rw[<-Hd.o oM];exact Int.sign_eq_one_of_pos u
   have za:¬d=0:=oM;have al:(d==0)=false:=by simpa using za
   by_cases hj:0<=j
   all_goals
    go_wp2;go_ret;subst e;exact⟨rfl,eA⟩
def Vo w v ps i x z(h:Ia w v ps)(f:0<ps.length)(j:ps.length<=1000000)(hi:-(ps.length:Int)<=i)(d:i<=1000000)(l:Lf ps i=(x,z)):Calls Tryz.prog 267 #[v,C M i] w fun e w'=>e=.returned (Oa #[C M x,C M z])/\Ba w w':=by
 have:=fK w v ps i h f j hi d
 rwa [l]at this
def uv w d f i j l p T(r:Bd 100000000 d)(t:Bd 100000000 f)(u:Bd 100000000 i)(h4:Bd 100000000 j)(x:Bd 100000000 l)(h6:Bd 100000000 p)(y:Ie (d,f) (i,j) (l,p)=T):Calls Tryz.prog 266 #[Oa #[C M d,C M f],Oa #[C M i,C M j],Oa #[C M l,C M p]] w fun e w'=>e=.returned (C M T)/\Ba w w':=by
 have:=QL w d f i j l p r t u h4 x h6
 rwa [y]at this
def qg(k:Int)(ps:LP):Prop:=∀p∈ps,Bd k p.1/\Bd k p.2
def qg.at{k ps}(h:qg k ps)(e:0<ps.length){i x z}(f:Lf ps i=(x,z)):Bd k x/\Bd k z:=by obtain⟨j,_,_,d⟩:=Rx (i:=i) e;rw[f]at d;exact h _ (lM d)
def Qs{ps}{i:Nat}(h:i<ps.length):ps[i]?=Y (Lf ps i):=by
 unfold Lf;have e:(((i:Int)+ps.length)%ps.length).toNat=i:=by
  rw[Int.add_emod_right,Int.emod_eq_of_lt oM oM];omega
 rw[e,gD,gE h];rfl
def Jj(ps:LP)(i:Nat):Bool:=decide (0<Ie (Lf ps ((i:Int)-1)) (Lf ps i) (Lf ps ((i:Int)+1)))
def Ij(ps:LP)(i k:Nat):Bool:=decide (0<Ie (Lf ps i) (Lf ps ((i:Int)+1)) (Lf ps ((i:Int)+k)))
def Bh(ps:LP)(i:Nat):Bool:=Jj ps i&&(List.range (ps.length-1)).all fun k=>decide (k<2) || Ij ps i k
def Va(ps:LP):Bool:=Ra ps.length 3 12&&(List.range ps.length).all (Bh ps)
def PF{ps i}(h:i<ps.length)(d:Bh ps i=false):Va ps=false:=by
 unfold Va;rw[Bool.and_eq_false_iff]
 right
 rw[List.all_eq_false];exact⟨i,List.mem_range.2 h,by simp[d]⟩
def NS{ps}(d:Ra ps.length 3 12=true)(h:∀i,i<ps.length->Bh ps i=true):Va ps=true:=by unfold Va;rw[d,Bool.true_and,List.all_eq_true];exact fun i e=>h i (List.mem_range.1 e)
def PM{ps i}(h:Jj ps i=false):Bh ps i=false:=by unfold Bh;rw[h];rfl
def OM{ps i k}(d:k<ps.length-1)(e:2<=k)(h:Ij ps i k=false):Bh ps i=false:=by
 unfold Bh;rw[Bool.and_eq_false_iff]
 right
 rw[List.all_eq_false];exact⟨k,List.mem_range.2 d,by simp[h];omega⟩
def NM{ps i}(h:Jj ps i=true)(e:∀k,2<=k->k<ps.length-1->Ij ps i k=true):Bh ps i=true:=by
 unfold Bh;rw[h,Bool.true_and,List.all_eq_true];intro k d;rw[List.mem_range]at d;by_cases f:k<2
 ·simp[f]
 ·simp[e k oM d]
def BV(w:Z)(ps:LP)(g:Nat)(d:J)(W:Z):Prop:=
 ∃i:Nat,i<=ps.length/\d=C M i/\g=ps.length-i/\Ba w W/\∀j,j<i->Bh ps j=true
def DV(w:Z)(ps:LP)(i:Nat)(g:Nat)(t4:J)(W:Z):Prop:=
 ∃k:Nat,2<=k/\k<=ps.length-1/\t4=C M k/\g=ps.length-k/\Ba w W/\∀j,2<=j->j<k->Ij ps i j=true
def rS w v ps(h:Ia w v ps)(hb:qg 100000000 ps):Calls Tryz.prog 231 #[v] w fun e w'=>e=.returned (X (Va ps))/\Ba w w':=by
 obtain⟨a,c,rfl⟩:=h.form;obtain⟨n,hn⟩:=gX ps.length;have au:=hn;rw[hn]at h ⊢;have r:=za hn;have Hb:=za hb;clear hb;by_cases hw:Ra n 3 12=true
 ·have av:3<=n/\n<=12:=by simp[Ra]at hw;omega
  obtain⟨av,aK⟩:=av;have HW:=za hw;clear hn au;have h0:0<ps.length:=by rw[r.o];omega
  have ar:ps.length<=1000000:=by rw[r.o];omega
  have H0:=za h0;have H6:=za ar;obtain⟨b,o,rfl,aM,_,_⟩:=h.at' (Qs h0);clear h0 ar;go_in;go_wp2_with(((go_at_call 195;(with_reducible refine(mi _ n 3 12).mono ?_);rintro e w1 ⟨rfl,d⟩)));go_loopg [11] n (BV w ps)
  case atStart=>exact⟨0,by omega,rfl,by rw[r.o];rfl,eA,fun j hj=>by omega⟩
  case round =>
   obtain⟨i,hi,rfl,rfl,hx,aj⟩:=hrel;rw[r.o]at hi;have ai:=za aj;clear aj d;by_cases ag:i<n
   ·obtain⟨⟨ax,az⟩,hA⟩:∃p,Lf ps ((i:Int)-1)=p:=⟨_,rfl⟩;obtain⟨⟨qx,qz⟩,hQ⟩:∃p,Lf ps (i:Int)=p:=⟨_,rfl⟩;obtain⟨⟨bx,bz⟩,hB⟩:∃p,Lf ps ((i:Int)+1)=p:=⟨_,rfl⟩;obtain⟨T,hT⟩:=gX (Ie (ax,az) (qx,qz) (bx,bz));have hP:=(h.f hx).at' (Qs (ps:=ps) (i:=i) (by rw[r.o];exact ag));rw[hQ]at hP;obtain⟨b',o',e',f,d0,d1⟩:=hP;cases e';have HA:=za hA;have HQ:=za hQ;have HB:=za hB;have HT:=za hT;have ae:=za (Hb.o.at H0.o hA);have x:=za (Hb.o.at H0.o hQ);have u:=za (Hb.o.at H0.o hB);(have g1:-(ps.length:Int)<=(i:Int)-1:=by rw[r.o];omega);(have g2:-(ps.length:Int)<=(i:Int)+1:=by rw[r.o];omega);(have aw:Jj ps i=decide (0<T):=by unfold Jj;rw[hA,hQ,hB,hT]);have am:=za aw;have hs:=h.f hx;clear hA hQ hB hT aw;have aP:IntKind.i64.wrap ((i:Int)-1)=(i:Int)-1:=iW _ oM;have aQ:IntKind.i64.wrap ((i:Int)+1)=(i:Int)+1:=iW _ oM;have p1:(0:Int)<=(i:Int):=oM;have p2:(i:Int)<(n:Int):=oM;by_cases ao:0<T
    ·(have aC:decide (T<=0)=false:=by simp;omega);go_wp2;go_region_held3 (fun W=>W.cell? ⟨b,o+i*2,I⟩=Y (C M qx)/\W.cell? ⟨b,o+i*2+1,I⟩=Y (C M qz)) ((repeat' (with_reducible refine And.intro ?_ ?_))<;>(first|(go_simp;done)|(refine d.d ?_;go_simp;done))) (first|((go_at_call 267;(with_reducible refine(Vo _ (O (Y ⟨b,o,I⟩) n c) ps ((i:Int)-1) ax az ?_ H0.o H6.o g1 oM HA.o).mono ?_);(refine hs.f ?_;exact eA);rintro e w1 ⟨rfl,d⟩;obtain⟨y,L⟩:=d.cells;(try simp only[Ig,Gg,Yb]at y L);(have l:=d.lt (n:=b) (by first|exact f | (simp only[Yb];exact f)|(have:=l;omega)))))|((go_at_call 267;(with_reducible refine(Vo _ (O (Y ⟨b,o,I⟩) n c) ps ((i:Int)+1) bx bz ?_ H0.o H6.o g2 oM HB.o).mono ?_);(refine hs.f ?_;exact eA);rintro e w2 ⟨rfl,t⟩;obtain⟨z,R⟩:=t.cells;(try simp only[Ig,Gg,Yb]at z R);(have ah:=t.lt (n:=b) (by first|exact f | (simp only[Yb];exact f)|(have:=l;omega)))))|((go_at_call 266;(with_reducible refine(uv _ _ _ _ _ _ _ T ae.o.1 ae.o.2 x.o.1 x.o.2 u.o.1 u.o.2 HT.o).mono ?_);rintro e w3 ⟨rfl,ab⟩;obtain⟨K,aa⟩:=ab.cells;(try simp only[Ig,Gg,Yb]at K aa))))
     all_goals go_wp2
     go_loopg [4] (n-2) (DV w ps i)
     case atStart=>exact⟨2,nE _,by rw[r.o];omega,rfl,by rw[r.o],eA,fun j h2 hj=>by omega⟩
     case round =>
      rename_i wr0 _;clear hs d0 d1 y L l z R ah K aa;obtain⟨k,aG,aH,rfl,rfl,aA,ad⟩:=hrel;rw[r.o]at aH;have ac:=za ad;clear ad;by_cases aI:k<n-1
      ·obtain⟨⟨cx,cz⟩,hC⟩:∃p,Lf ps ((i:Int)+(k:Int))=p:=⟨_,rfl⟩;obtain⟨U,hU⟩:=gX (Ie (qx,qz) (bx,bz) (cx,cz));have hP:=(h.f aA).at' (Qs (ps:=ps) (i:=i) (by rw[r.o];exact ag));rw[HQ.o]at hP;obtain⟨aL,aO,aB,aq,d0,d1⟩:=hP;cases aB;have HC:=za hC;have HU:=za hU;have af:=za (Hb.o.at H0.o hC);(have ay:Ij ps i k=decide (0<U):=by unfold Ij;rw[HQ.o,HB.o,hC,hU]);have an:=za ay;(have g3:-(ps.length:Int)<=(i:Int)+(k:Int):=by rw[r.o];omega);have hs:=h.f aA;clear hC hU ay;have aR:IntKind.i64.wrap ((i:Int)+(k:Int))=(i:Int)+(k:Int):=iW _ oM;have p3:(k:Int)<(n:Int)-1:=oM;have f:=aq;by_cases ap:0<U
       ·(have aD:decide (U<=0)=false:=by simp;omega);go_wp2;go_region_held3 (fun W=>W.cell? ⟨b,o+i*2,I⟩=Y (C M qx)/\W.cell? ⟨b,o+i*2+1,I⟩=Y (C M qz)) ((repeat' (with_reducible refine And.intro ?_ ?_))<;>(first|(go_simp;done)|(refine d.d ?_;go_simp;done))) (first|((go_at_call 267;(with_reducible refine(Vo _ (O (Y ⟨b,o,I⟩) n c) ps ((i:Int)+1) bx bz ?_ H0.o H6.o g2 oM HB.o).mono ?_);(refine hs.f ?_;exact eA);rintro e w1 ⟨rfl,d⟩;obtain⟨y,L⟩:=d.cells;(try simp only[Ig,Gg,Yb]at y L);(have l:=d.lt (n:=b) (by first|exact f | (simp only[Yb];exact f)|(have:=l;omega)))))|((go_at_call 267;(with_reducible refine(Vo _ (O (Y ⟨b,o,I⟩) n c) ps ((i:Int)+(k:Int)) cx cz ?_ H0.o H6.o g3 oM HC.o).mono ?_);(refine hs.f ?_;exact eA);rintro e w2 ⟨rfl,t⟩;obtain⟨z,R⟩:=t.cells;(try simp only[Ig,Gg,Yb]at z R);(have ah:=t.lt (n:=b) (by first|exact f | (simp only[Yb];exact f)|(have:=l;omega)))))|((go_at_call 266;(with_reducible refine(uv _ _ _ _ _ _ _ U x.o.1 x.o.2 u.o.1 u.o.2 af.o.1 af.o.2 HU.o).mono ?_);rintro e w3 ⟨rfl,ab⟩;obtain⟨K,aa⟩:=ab.cells;(try simp only[Ig,Gg,Yb]at K aa))))
        all_goals go_wp2
        go_roundg (n-(k+1))
        case measure=>have:=r.o;omega
        case rel =>
         refine⟨k+1,by omega,by rw[r.o];omega,by go_num,by rw[r.o],eA,fun j h2 hj=>?_⟩;by_cases aF:j=k
         ·rw[aF,an.o];simpa using ap
         ·exact ac.o j h2 oM
       ·(have aD:decide (U<=0)=true:=by simp;omega);have e:Va ps=false:=PF (by rw[r.o];exact ag) (OM (k:=k) (by rw[r.o];exact aI) aG (by rw[an.o];simpa using ap));have E:=za e;clear e;go_wp2;go_region_held3 (fun W=>W.cell? ⟨b,o+i*2,I⟩=Y (C M qx)/\W.cell? ⟨b,o+i*2+1,I⟩=Y (C M qz)) ((repeat' (with_reducible refine And.intro ?_ ?_))<;>(first|(go_simp;done)|(refine d.d ?_;go_simp;done))) (first|((go_at_call 267;(with_reducible refine(Vo _ (O (Y ⟨b,o,I⟩) n c) ps ((i:Int)+1) bx bz ?_ H0.o H6.o g2 oM HB.o).mono ?_);(refine hs.f ?_;exact eA);rintro e w1 ⟨rfl,d⟩;obtain⟨y,L⟩:=d.cells;(try simp only[Ig,Gg,Yb]at y L);(have l:=d.lt (n:=b) (by first|exact f | (simp only[Yb];exact f)|(have:=l;omega)))))|((go_at_call 267;(with_reducible refine(Vo _ (O (Y ⟨b,o,I⟩) n c) ps ((i:Int)+(k:Int)) cx cz ?_ H0.o H6.o g3 oM HC.o).mono ?_);(refine hs.f ?_;exact eA);rintro e w2 ⟨rfl,t⟩;obtain⟨z,R⟩:=t.cells;(try simp only[Ig,Gg,Yb]at z R);(have ah:=t.lt (n:=b) (by first|exact f | (simp only[Yb];exact f)|(have:=l;omega)))))|((go_at_call 266;(with_reducible refine(uv _ _ _ _ _ _ _ U x.o.1 x.o.2 u.o.1 u.o.2 af.o.1 af.o.2 HU.o).mono ?_);rintro e w3 ⟨rfl,ab⟩;obtain⟨K,aa⟩:=ab.cells;(try simp only[Ig,Gg,Yb]at K aa))))
        all_goals go_wp2
        all_goals go_ret
        exact⟨by rw[E.o];rfl,eA⟩
      ·obtain rfl:k=n-1:=oM;have ak:Bh ps i=true:=NM (by rw[am.o];simpa using ao) (fun j h2 hj=>ac.o j h2 (by rw[r.o]at hj;exact hj));have al:=za ak;clear ak;have p4:¬(((n-1:Nat):Int)<(n:Int)-1):=oM;go_wp2;go_roundg (n-(i+1))
       case measure=>have:=r.o;omega
       case rel =>
        refine⟨i+1,by rw[r.o];omega,by go_num,by rw[r.o],eA,fun j hj=>?_⟩;by_cases aE:j=i
        ·rw[aE];exact al.o
        ·exact ai.o j oM
    ·(have aC:decide (T<=0)=true:=by simp;omega);have e:Va ps=false:=PF (by rw[r.o];exact ag) (PM (by rw[am.o];simpa using ao));have E:=za e;clear e;go_wp2;go_region_held3 (fun W=>W.cell? ⟨b,o+i*2,I⟩=Y (C M qx)/\W.cell? ⟨b,o+i*2+1,I⟩=Y (C M qz)) ((repeat' (with_reducible refine And.intro ?_ ?_))<;>(first|(go_simp;done)|(refine d.d ?_;go_simp;done))) (first|((go_at_call 267;(with_reducible refine(Vo _ (O (Y ⟨b,o,I⟩) n c) ps ((i:Int)-1) ax az ?_ H0.o H6.o g1 oM HA.o).mono ?_);(refine hs.f ?_;exact eA);rintro e w1 ⟨rfl,d⟩;obtain⟨y,L⟩:=d.cells;(try simp only[Ig,Gg,Yb]at y L);(have l:=d.lt (n:=b) (by first|exact f | (simp only[Yb];exact f)|(have:=l;omega)))))|((go_at_call 267;(with_reducible refine(Vo _ (O (Y ⟨b,o,I⟩) n c) ps ((i:Int)+1) bx bz ?_ H0.o H6.o g2 oM HB.o).mono ?_);(refine hs.f ?_;exact eA);rintro e w2 ⟨rfl,t⟩;obtain⟨z,R⟩:=t.cells;(try simp only[Ig,Gg,Yb]at z R);(have ah:=t.lt (n:=b) (by first|exact f | (simp only[Yb];exact f)|(have:=l;omega)))))|((go_at_call 266;(with_reducible refine(uv _ _ _ _ _ _ _ T ae.o.1 ae.o.2 x.o.1 x.o.2 u.o.1 u.o.2 HT.o).mono ?_);rintro e w3 ⟨rfl,ab⟩;obtain⟨K,aa⟩:=ab.cells;(try simp only[Ig,Gg,Yb]at K aa))))
     all_goals go_wp2
     all_goals go_ret
     exact⟨by rw[E.o];rfl,eA⟩
   ·obtain rfl:i=n:=oM;have e:Va ps=true:=NS (by rw[r.o];exact HW.o) (fun j hj=>ai.o j (by rw[r.o]at hj;exact hj));have E:=za e;clear e;go_wp2;go_ret;exact⟨by rw[E.o];rfl,eA⟩
 ·have aJ:Ra n 3 12=false:=by simpa using hw
  have e:Va ps=false:=by unfold Va;rw[hn,aJ];rfl
  rw[e];clear e hn au;go_in;go_wp2_with(((go_at_call 195;(with_reducible refine(mi _ n 3 12).mono ?_);rintro e w1 ⟨rfl,d⟩)));go_ret;exact⟨rfl,eA⟩
def Bf(p:Int×Int):Bool:=!Ra p.1 0 2000 || !Ra p.2 0 2000
def pE w x z:Calls Tryz.prog 229 #[Oa #[C M x,C M z]] w fun e w'=>e=.returned (X (Bf (x,z)))/\Ba w w':=by
 by_cases h:Ra x 0 2000=true
 ·have e:Bf (x,z)=!Ra z 0 2000:=by simp[Bf,h]
  rw[e];clear e;go_in;go_wp2_with(first|((go_at_call 195;(with_reducible refine(mi _ x 0 2000).mono ?_);rw[h];rintro e r ⟨rfl,d⟩;obtain⟨⟨i,j⟩,f⟩:=Jd w d))|((go_at_call 195;(with_reducible refine(mi _ z 0 2000).mono ?_);rintro e t ⟨rfl,p⟩)));go_ret;exact⟨rfl,eA⟩
 ·have l:Ra x 0 2000=false:=by simpa using h
  have e:Bf (x,z)=true:=by simp[Bf,l]
  rw[e];clear e;go_in;go_wp2_with(((go_at_call 195;(with_reducible refine(mi _ x 0 2000).mono ?_);rw[l];rintro e r ⟨rfl,d⟩;obtain⟨⟨i,j⟩,f⟩:=Jd w d)));go_ret;exact⟨rfl,eA⟩
def Pc{α:Type}(f:α->Bool)(xs:List α):Int:=match xs.findIdx? f with|some i=>(i:Int)|none=>-1
def pp{α f xs}{i:Nat}{x:α}(r:xs[i]?=Y x)(d:f x=true)(p:∀j y,j<i->xs[j]?=Y y->f y=false):Pc f xs=(i:Int):=by
 obtain⟨e,rfl⟩:=lS.1 r;have:xs.findIdx? f=Y i:=by
  rw[List.findIdx?_eq_some_iff_getElem];exact⟨e,d,fun j l=>by simpa using p j _ l (gE oM)⟩
 unfold Pc;rw[this]
def Zo{α f}{xs:List α}(e:∀j y,j<xs.length->xs[j]?=Y y->f y=false):Pc f xs = -1:=by
 have:xs.findIdx? f=I:=by
  rw[List.findIdx?_eq_none_iff];intro x i;obtain⟨j,d⟩:=List.mem_iff_getElem?.1 i;exact e j x (lS.1 d).1 d
 unfold Pc;rw[this]
def Zp{α} f(xs:List α):decide (0<=Pc f xs)=xs.any f:=by
 unfold Pc;cases h:xs.findIdx? f with
 |none=>
  rw[List.findIdx?_eq_none_iff]at h;have:xs.any f=false:=by rw[List.any_eq_false];intro x j;simp[h x j]
  rw[this];rfl
 | some i =>
  rw[List.findIdx?_eq_some_iff_getElem]at h;obtain⟨e,d,_⟩:=h;have:xs.any f=true:=List.any_eq_true.2 ⟨_,List.getElem_mem e,d⟩;rw[this];simp
def nH(w:Z)(f:Int×Int->Bool)(ps:LP)(g:Nat)(d:J)(W:Z):Prop:=
 ∃i:Nat,i<=ps.length/\d=C M i/\g=ps.length-i/\Ba w W/\∀j y,j<i->ps[j]?=Y y->f y=false
def iP w v ps(h:Ia w v ps):Calls Tryz.prog 265 #[v,.func (.func 229) #[] #[]] w fun e w'=>e=.returned (C M (Pc Bf ps))/\Ba w w':=by
 obtain⟨a,c,rfl⟩:=h.form;obtain⟨n,hn⟩:=gX ps.length;rw[hn]at h ⊢;have r:=h.le;unfold maxLen at r;have ab:n<=9223372036854775807:=oM;have f:=za hn;clear hn r;go_in;go_wp2;go_loopg [8] n (nH w Bf ps)
 case atStart=>exact⟨0,by omega,rfl,by rw[f.o];rfl,eR _,fun j y u=>by omega⟩
 case round =>
  obtain⟨i,hi,rfl,rfl,hx,l⟩:=hrel;rw[f.o]at hi;have d:=za l;clear l;by_cases R:i<n
  ·obtain⟨q,hq⟩:∃q,ps[i]?=Y q:=⟨ps[i]'(by rw[f.o];omega),by simp[f.o,R]⟩;obtain⟨x,z⟩:=q;obtain⟨b,o,rfl,hb,d0,d1⟩:=(h.f hx).at' hq;have Hq:=za hq;clear hq;by_cases K:Bf (x,z)=true
   ·have e:Pc Bf ps=(i:Int):=pp Hq.o K d.o;have E:=za e;clear e;go_wp2_with(((go_at_call 229;(with_reducible refine(pE _ x z).mono ?_);rw[K];rintro e w1 ⟨rfl,aa⟩)));go_ret;exact⟨by rw[E.o];rfl,eA⟩
   ·(have p:Bf (x,z)=false:=by simpa using K);go_wp2_with(((go_at_call 229;(with_reducible refine(pE _ x z).mono ?_);rw[p];rintro e w1 ⟨rfl,aa⟩)));go_roundg (n-(i+1))
    case measure=>have:=f.o;omega
    case rel =>
     refine⟨i+1,by have:=f.o;omega,by go_num,by rw[f.o],eA,fun j y u t=>?_⟩;by_cases L:j=i
     ·subst L;rw[Hq.o]at t;cases t;exact p
     ·exact d.o j y oM t
  ·obtain rfl:i=n:=oM;have e:Pc Bf ps = -1:=Zo (fun j y u t=>d.o j y (by rw[f.o]at u;exact u) t);have E:=za e;clear e;go_wp2;go_ret;exact⟨by rw[E.o];rfl,hx⟩
def TP w v ps(h:Ia w v ps):Calls Tryz.prog 230 #[v,.func (.func 229) #[] #[]] w fun e w'=>e=.returned (X (ps.any Bf))/\Ba w w':=by rw[<-Zp];obtain⟨x,f⟩:=gX (Pc Bf ps);have d:=fun W (j:Ba w W)=>iP W v ps (h.f j);rw[f]at *;have i:=za d;clear d f;go_in;go_wp2_with(((go_at_call 265;refine cM (i.o _ eA) ?_;rintro e p ⟨rfl,l⟩)));go_ret;exact⟨rfl,eA⟩
def Lh:List Int->Int
 | []=>0
 | x::xs=>if x=0 then Lh xs else x
def Rw:∀{xs}{i:Nat}{x},xs[i]?=Y x->x≠0->(∀j y,j<i->xs[j]?=Y y->y=0)->Lh xs=x
 | [],_,_,h,_,_=>by simp at h
 | y::ys,0,x,h,h0,_=>by simp at h;subst h;simp[Lh,h0]
 | y::ys,i+1,x,h,h0,hn=>by
  have d:y=0:=hn 0 y oM rfl;rw[Lh,if_pos d];exact Rw (by simpa using h) h0 (fun j z f e=>hn (j+1) z oM (by simpa using e))
def gy:∀{xs},(∀(j:Nat)(y:Int),xs[j]?=Y y->y=0)->Lh xs=0
 | [],_=>rfl
 | y::ys,h=>by rw[Lh,if_pos (h 0 y rfl)];exact gy (fun j z d=>h (j+1) z (by simpa using d))
def SU(w:Z)(xs:List Int)(g:Nat)(d:J)(W:Z):Prop:=
 ∃i:Nat,i<=xs.length/\d=C M i/\g=xs.length-i/\Ba w W/\∀j y,j<i->xs[j]?=Y y->y=0
def EI w v xs(h:Mc 3 w v xs):Calls Tryz.prog 109 #[v] w fun e w'=>e=.returned (C M (Lh xs))/\Ba w w':=by
 obtain⟨a,c,rfl⟩:=h.form;obtain⟨n,L⟩:=gX xs.length;rw[L]at h ⊢;have t:=h.le;unfold maxLen at t;have ad:n<=9223372036854775807:=oM;have f:=za L;clear L t;go_in;go_wp2;go_loopg [8] n (SU w xs)
 case atStart=>exact⟨0,by omega,rfl,by rw[f.o];rfl,eR _,fun j y hj=>by omega⟩
 case round =>
  obtain⟨i,hi,rfl,rfl,u,l⟩:=hrel;rw[f.o]at hi;have d:=za l;clear l;by_cases K:i<n
  ·obtain⟨x,R⟩:∃x,xs[i]?=Y x:=⟨xs[i]'(by rw[f.o];omega),by simp[f.o,K]⟩;obtain⟨b,o,rfl,hb,hc⟩:=(h.ext u).open (by rw[f.o];omega);have ac:=hc i x R;have Hq:=za R;clear R hc;by_cases r:x=0
   ·subst r;go_wp2;go_roundg (n-(i+1))
    case measure=>have:=f.o;omega
    case rel =>
     refine⟨i+1,by have:=f.o;omega,by go_num,by rw[f.o],u,fun j y hj p=>?_⟩;by_cases z:j=i
     ·subst z;rw[Hq.o]at p;cases p;rfl
     ·exact d.o j y oM p
   ·have e:Lh xs=x:=Rw Hq.o r d.o;have E:=za e;(have aa:(x != 0)=true:=by simpa using r);(have ab:(x==0)=false:=by simpa using r);clear e r;go_wp2;go_ret;exact⟨by rw[E.o];rfl,u⟩
  ·obtain rfl:i=n:=oM;have e:Lh xs=0:=gy (fun j y p=>d.o j y (by have:=(lS.1 p).1;rw[f.o]at this;exact this) p);have E:=za e;clear e;go_wp2;go_ret;exact⟨by rw[E.o];rfl,u⟩
def EP w v xs(h:Mc 3 w v xs):Calls Tryz.prog 268 #[v] w fun e w'=>e=.returned (C M (Lh xs))/\Ba w w':=by obtain⟨x,f⟩:=gX (Lh xs);have d:=fun W (j:Ba w W)=>EI W v xs (h.ext j);rw[f]at *;have i:=za d;clear d f;go_in;go_wp2_with(((go_at_call 109;refine cM (i.o _ eA) ?_;rintro e p ⟨rfl,l⟩)));go_ret;exact⟨rfl,eA⟩
def Fl(p q:Int×Int):Int:=Lh [Gc p.2 q.2,Gc p.1 q.1]
def Xt(W:Z) x y:Mc 3 (W.alloc (Ob #[C M x,C M y] 3)) (O (Y ⟨W.heap.size,0,I⟩) 2 2) [x,y]:=by
 refine⟨rfl,_,_,rfl,nE _,by unfold maxLen;omega,.inr ⟨W.heap.size,0,_,_,rfl,aN W _,?_⟩⟩;intro i v hv
 match i,hv with
 | 0,hv=>simpa[nc] using hv
 | 1,hv=>simpa[nc] using hv
 | i+2,hv=>simp[nc]at hv
def JP w d f i j:Calls Tryz.prog 234 #[Oa #[C M d,C M f],Oa #[C M i,C M j]] w fun e w'=>e=.returned (C M (Fl (d,f) (i,j)))/\Ba w w':=by
 obtain⟨r,t⟩:=gX (Fl (d,f) (i,j));rw[t];have HR:Ua (Lh [Gc f j,Gc d i]=r):=za t;clear t;go_in;go_wp2;go_region_held3 (fun W=>W.cell? ⟨w.heap.size,0,I⟩=Y (C M d)/\W.cell? ⟨w.heap.size,1,I⟩=Y (C M f)/\W.cell? ⟨w.heap.size+1,0,I⟩=Y (C M i)/\W.cell? ⟨w.heap.size+1,1,I⟩=Y (C M j)) ((repeat' (with_reducible refine And.intro ?_ ?_))<;>(first|(go_simp;done)|(refine hx1.d ?_;go_simp;done))) (first|((go_at_call 269;(with_reducible refine(tG _ f j).mono ?_);rintro e w1 ⟨rfl,hx1⟩;obtain⟨⟨ac,af⟩,z,K⟩:=Nb w hx1))|((go_at_call 269;(with_reducible refine(tG _ d i).mono ?_);rintro e y ⟨rfl,u⟩;obtain⟨⟨ad,ag⟩,L,R⟩:=Nb w u;have l:w.heap.size<y.heap.size+1:=oM;have p:w.heap.size+1<y.heap.size+1:=oM))|((go_at_call 268;(with_reducible refine(EP _ (O (Y ⟨y.heap.size,0,I⟩) 2 2) [Gc f j,Gc d i] ?_).mono ?_);(refine Xt _ _ _);rw[HR.o];rintro e w3 ⟨rfl,x⟩;obtain⟨⟨ae,ah⟩,aa,ab⟩:=Nb w x)))
 all_goals go_wp2
 go_ret;exact⟨rfl,eA⟩
