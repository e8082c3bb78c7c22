import Derived.Test.YtjnjpagegkcgfaaGreatDoorCobA03
import Derived.Deep.LoopGhost
import Derived.Deep.CutBlock
import Derived.Deep.DeepCutAuto
set_option maxRecDepth 1000000
set_option maxHeartbeats 16000000
set_option linter.all false
open Go.Value renaming slice->O,bool->Y,agg->Z,int->C,tuple->F
open Option renaming none->X,some->I
open Go renaming World->V,Value->J
open Go.Obj renaming cells->N
namespace Go.Proofs.YtjnjpagegkcgfaaGreatDoor.Cop
section
open Go.RowKit Go.Shelf
def AB{x y:Int}{s:Bool}(d:s=decide (x<0))(hy:s=decide (y<0)):sg s ((x.natAbs:Int)+1*(y.natAbs:Int))=x+y:=by cases s<;>simp[sg]at *<;>omega
def CB{x y:Int}{s:Bool}(d:(!s)=decide (x<0))(hy:s=decide (y<0))(h:(x.natAbs:Int)<y.natAbs):sg s ((y.natAbs:Int) + -1*(x.natAbs:Int))=x+y:=by cases s<;>simp[sg]at *<;>omega
def BB{x y:Int}{s:Bool}(d:s=decide (x<0))(hy:(!s)=decide (y<0))(h:¬(x.natAbs:Int)<y.natAbs):sg s ((x.natAbs:Int) + -1*(y.natAbs:Int))=x+y:=by cases s<;>simp[sg]at *<;>omega
def iz(w:V)(va vb:J)(x y:Int)(ha:vd w va x)(hb:vd w vb y)(au:Lm Rc x)(av:Lm Rc y):Calls Tryz.prog 179 #[va,vb] w (Qg w (x+y)):=by
 obtain⟨a,m,c,s,rfl⟩:=ha.form;obtain⟨t,z,u,s',rfl⟩:=hb.form;have ae:=Aa ha.sgn;have af:=Aa hb.sgn;have p:=ha.dig;have r:=hb.dig;have ac:=Aa au.abs;have ad:=Aa av.abs;clear au av ha hb;have ah:s=true->s'=true->Calls Tryz.prog 179 #[Z #[O a m c,Y s],Z #[O t z u,Y s']] w (Qg w (x+y)):=by
  intro h1 h2;subst h1 h2;go_in;go_wp2;go_region_held3 (fun W=>W.cell? ⟨w.heap.size,0,X⟩=I (O a m c)/\W.cell? ⟨w.heap.size,1,X⟩=I (Y true)/\W.cell? ⟨w.heap.size+1,0,X⟩=I (O t z u)) ((repeat' (with_reducible refine And.intro ?_ ?_))<;>(first|(go_simp;done)|(refine hx1.d ?_;go_simp;done))) (first|((go_at_call 187;(with_reducible refine(Cn _ (Z #[O a m c]) (Z #[O t z u]) x.natAbs y.natAbs 1 ?_ ?_ ac.o ad.o oM oM).mono ?_);(refine p.ext ?_;exact eA);(refine r.ext ?_;exact eA);rintro e w1 ⟨r1,rfl,d,hx1,aj⟩;obtain⟨a1,m1,c1,rfl⟩:=d.u.form;obtain⟨⟨j,al⟩,K,P,g⟩:=Yb w hx1))|((go_at_call 183;(with_reducible refine(Sm _ true (Z #[O a1 m1 c1]) ((x.natAbs:Int)+1*(y.natAbs:Int)) ?_).mono ?_);(refine d.u.ext ?_;exact eA);rintro e w2 ⟨r2,rfl,f,l,ak⟩;obtain⟨a2,m2,c2,s2,rfl⟩:=f.form;obtain⟨⟨k,am⟩,Q,R,i⟩:=Yb w l)))
  all_goals go_wp2
  refine bR (v:=Z #[O a2 m2 c2,Y s2]) (by simp[results,Tryz.results179,go_sem,j,k,g,i]) rfl ⟨_,rfl,?_,eA,dA⟩;rw[<-AB ae.o af.o];exact f.keep kA
 have ab:s=false->s'=false->Calls Tryz.prog 179 #[Z #[O a m c,Y s],Z #[O t z u,Y s']] w (Qg w (x+y)):=by
  intro h1 h2;subst h1 h2;go_in;go_wp2;go_region_held3 (fun W=>W.cell? ⟨w.heap.size,0,X⟩=I (O a m c)/\W.cell? ⟨w.heap.size,1,X⟩=I (Y false)/\W.cell? ⟨w.heap.size+1,0,X⟩=I (O t z u)) ((repeat' (with_reducible refine And.intro ?_ ?_))<;>(first|(go_simp;done)|(refine hx1.d ?_;go_simp;done))) (first|((go_at_call 187;(with_reducible refine(Cn _ (Z #[O a m c]) (Z #[O t z u]) x.natAbs y.natAbs 1 ?_ ?_ ac.o ad.o oM oM).mono ?_);(refine p.ext ?_;exact eA);(refine r.ext ?_;exact eA);rintro e w1 ⟨r1,rfl,d,hx1,aj⟩;obtain⟨a1,m1,c1,rfl⟩:=d.u.form;obtain⟨⟨j,al⟩,K,P,g⟩:=Yb w hx1))|((go_at_call 183;(with_reducible refine(Sm _ false (Z #[O a1 m1 c1]) ((x.natAbs:Int)+1*(y.natAbs:Int)) ?_).mono ?_);(refine d.u.ext ?_;exact eA);rintro e w2 ⟨r2,rfl,f,l,ak⟩;obtain⟨a2,m2,c2,s2,rfl⟩:=f.form;obtain⟨⟨k,am⟩,Q,R,i⟩:=Yb w l)))
  all_goals go_wp2
  refine bR (v:=Z #[O a2 m2 c2,Y s2]) (by simp[results,Tryz.results179,go_sem,j,k,g,i]) rfl ⟨_,rfl,?_,eA,dA⟩;rw[<-AB ae.o af.o];exact f.keep kA
 have ag:s=true->s'=false->Calls Tryz.prog 179 #[Z #[O a m c,Y s],Z #[O t z u,Y s']] w (Qg w (x+y)):=by
  intro h1 h2;subst h1 h2;by_cases an:(x.natAbs:Int)<y.natAbs
  ·have ai:=Ut an;go_in;go_wp2_with((go_at_call 226;(with_reducible refine(Gq _ (Z #[O a m c]) (Z #[O t z u]) x.natAbs y.natAbs ?_ ?_).mono ?_);(refine p.ext ?_;exact eA);(refine r.ext ?_;exact eA);rintro e w0 ⟨rfl,aa,aq⟩;obtain⟨⟨T,ar⟩,ao,ap,o⟩:=Yb w aa));go_region_held3 (fun W=>W.cell? ⟨w.heap.size,0,X⟩=I (O a m c)/\W.cell? ⟨w.heap.size+1,1,X⟩=I (Y false)/\W.cell? ⟨w.heap.size+1,0,X⟩=I (O t z u)) ((repeat' (with_reducible refine And.intro ?_ ?_))<;>(first|(go_simp;done)|(refine hx1.d ?_;go_simp;done))) (first|((go_at_call 187;(with_reducible refine(Cn _ (Z #[O t z u]) (Z #[O a m c]) y.natAbs x.natAbs (-1) ?_ ?_ ad.o ac.o oM oM).mono ?_);(refine r.ext ?_;exact eA);(refine p.ext ?_;exact eA);rintro e w1 ⟨r1,rfl,d,hx1,aj⟩;obtain⟨a1,m1,c1,rfl⟩:=d.u.form;obtain⟨⟨j,al⟩,K,P,g⟩:=Yb w hx1))|((go_at_call 183;(with_reducible refine(Sm _ false (Z #[O a1 m1 c1]) ((y.natAbs:Int) + -1*(x.natAbs:Int)) ?_).mono ?_);(refine d.u.ext ?_;exact eA);rintro e w2 ⟨r2,rfl,f,l,ak⟩;obtain⟨a2,m2,c2,s2,rfl⟩:=f.form;obtain⟨⟨k,am⟩,Q,R,i⟩:=Yb w l)))
   all_goals go_wp2
   refine bR (v:=Z #[O a2 m2 c2,Y s2]) (by simp[results,Tryz.results179,go_sem,T,j,k,o,g,i]) rfl ⟨_,rfl,?_,eA,dA⟩;rw[<-CB (s:=false) ae.o af.o oM];exact f.keep kA
  ·have ai:=ru an;go_in;go_wp2_with((go_at_call 226;(with_reducible refine(Gq _ (Z #[O a m c]) (Z #[O t z u]) x.natAbs y.natAbs ?_ ?_).mono ?_);(refine p.ext ?_;exact eA);(refine r.ext ?_;exact eA);rintro e w0 ⟨rfl,aa,aq⟩;obtain⟨⟨T,ar⟩,ao,ap,o⟩:=Yb w aa));go_region_held3 (fun W=>W.cell? ⟨w.heap.size,0,X⟩=I (O a m c)/\W.cell? ⟨w.heap.size,1,X⟩=I (Y true)/\W.cell? ⟨w.heap.size+1,0,X⟩=I (O t z u)) ((repeat' (with_reducible refine And.intro ?_ ?_))<;>(first|(go_simp;done)|(refine hx1.d ?_;go_simp;done))) (first|((go_at_call 187;(with_reducible refine(Cn _ (Z #[O a m c]) (Z #[O t z u]) x.natAbs y.natAbs (-1) ?_ ?_ ac.o ad.o oM oM).mono ?_);(refine p.ext ?_;exact eA);(refine r.ext ?_;exact eA);rintro e w1 ⟨r1,rfl,d,hx1,aj⟩;obtain⟨a1,m1,c1,rfl⟩:=d.u.form;obtain⟨⟨j,al⟩,K,P,g⟩:=Yb w hx1))|((go_at_call 183;(with_reducible refine(Sm _ true (Z #[O a1 m1 c1]) ((x.natAbs:Int) + -1*(y.natAbs:Int)) ?_).mono ?_);(refine d.u.ext ?_;exact eA);rintro e w2 ⟨r2,rfl,f,l,ak⟩;obtain⟨a2,m2,c2,s2,rfl⟩:=f.form;obtain⟨⟨k,am⟩,Q,R,i⟩:=Yb w l)))
   all_goals go_wp2
   refine bR (v:=Z #[O a2 m2 c2,Y s2]) (by simp[results,Tryz.results179,go_sem,T,j,k,o,g,i]) rfl ⟨_,rfl,?_,eA,dA⟩;rw[<-BB (s:=true) ae.o af.o oM];exact f.keep kA
 have S:s=false->s'=true->Calls Tryz.prog 179 #[Z #[O a m c,Y s],Z #[O t z u,Y s']] w (Qg w (x+y)):=by
  intro h1 h2;subst h1 h2;by_cases an:(x.natAbs:Int)<y.natAbs
  ·have ai:=Ut an;go_in;go_wp2_with((go_at_call 226;(with_reducible refine(Gq _ (Z #[O a m c]) (Z #[O t z u]) x.natAbs y.natAbs ?_ ?_).mono ?_);(refine p.ext ?_;exact eA);(refine r.ext ?_;exact eA);rintro e w0 ⟨rfl,aa,aq⟩;obtain⟨⟨T,ar⟩,ao,ap,o⟩:=Yb w aa));go_region_held3 (fun W=>W.cell? ⟨w.heap.size,0,X⟩=I (O a m c)/\W.cell? ⟨w.heap.size+1,1,X⟩=I (Y true)/\W.cell? ⟨w.heap.size+1,0,X⟩=I (O t z u)) ((repeat' (with_reducible refine And.intro ?_ ?_))<;>(first|(go_simp;done)|(refine hx1.d ?_;go_simp;done))) (first|((go_at_call 187;(with_reducible refine(Cn _ (Z #[O t z u]) (Z #[O a m c]) y.natAbs x.natAbs (-1) ?_ ?_ ad.o ac.o oM oM).mono ?_);(refine r.ext ?_;exact eA);(refine p.ext ?_;exact eA);rintro e w1 ⟨r1,rfl,d,hx1,aj⟩;obtain⟨a1,m1,c1,rfl⟩:=d.u.form;obtain⟨⟨j,al⟩,K,P,g⟩:=Yb w hx1))|((go_at_call 183;(with_reducible refine(Sm _ true (Z #[O a1 m1 c1]) ((y.natAbs:Int) + -1*(x.natAbs:Int)) ?_).mono ?_);(refine d.u.ext ?_;exact eA);rintro e w2 ⟨r2,rfl,f,l,ak⟩;obtain⟨a2,m2,c2,s2,rfl⟩:=f.form;obtain⟨⟨k,am⟩,Q,R,i⟩:=Yb w l)))
   all_goals go_wp2
   refine bR (v:=Z #[O a2 m2 c2,Y s2]) (by simp[results,Tryz.results179,go_sem,T,j,k,o,g,i]) rfl ⟨_,rfl,?_,eA,dA⟩;rw[<-CB (s:=true) ae.o af.o oM];exact f.keep kA
  ·have ai:=ru an;go_in;go_wp2_with((go_at_call 226;(with_reducible refine(Gq _ (Z #[O a m c]) (Z #[O t z u]) x.natAbs y.natAbs ?_ ?_).mono ?_);(refine p.ext ?_;exact eA);(refine r.ext ?_;exact eA);rintro e w0 ⟨rfl,aa,aq⟩;obtain⟨⟨T,ar⟩,ao,ap,o⟩:=Yb w aa));go_region_held3 (fun W=>W.cell? ⟨w.heap.size,0,X⟩=I (O a m c)/\W.cell? ⟨w.heap.size,1,X⟩=I (Y false)/\W.cell? ⟨w.heap.size+1,0,X⟩=I (O t z u)) ((repeat' (with_reducible refine And.intro ?_ ?_))<;>(first|(go_simp;done)|(refine hx1.d ?_;go_simp;done))) (first|((go_at_call 187;(with_reducible refine(Cn _ (Z #[O a m c]) (Z #[O t z u]) x.natAbs y.natAbs (-1) ?_ ?_ ac.o ad.o oM oM).mono ?_);(refine p.ext ?_;exact eA);(refine r.ext ?_;exact eA);rintro e w1 ⟨r1,rfl,d,hx1,aj⟩;obtain⟨a1,m1,c1,rfl⟩:=d.u.form;obtain⟨⟨j,al⟩,K,P,g⟩:=Yb w hx1))|((go_at_call 183;(with_reducible refine(Sm _ false (Z #[O a1 m1 c1]) ((x.natAbs:Int) + -1*(y.natAbs:Int)) ?_).mono ?_);(refine d.u.ext ?_;exact eA);rintro e w2 ⟨r2,rfl,f,l,ak⟩;obtain⟨a2,m2,c2,s2,rfl⟩:=f.form;obtain⟨⟨k,am⟩,Q,R,i⟩:=Yb w l)))
   all_goals go_wp2
   refine bR (v:=Z #[O a2 m2 c2,Y s2]) (by simp[results,Tryz.results179,go_sem,T,j,k,o,g,i]) rfl ⟨_,rfl,?_,eA,dA⟩;rw[<-BB (s:=false) ae.o af.o oM];exact f.keep kA
 cases s<;>cases s'
 ·exact ab rfl rfl
 ·exact S rfl rfl
 ·exact ag rfl rfl
 ·exact ah rfl rfl
def RI(w:V)(f g:J)(x y:Int)(i:vd w f x)(j:vd w g y)(d:Lm Rc x)(e:Lm Rc y):Calls Tryz.prog 179 #[f,g] w (nj w (x+y)):=Nl (iz w f g x y i j d e)
def IF(w:V)(S T:J)(x y:Int)(K:vd w S x)(P:vd w T y)(d:Lm Rc x)(f:Lm Rc y):Calls Tryz.prog 184 #[S,T] w (Qg w (x-y)):=by
 obtain⟨a,m,c,s,rfl⟩:=K.form;obtain⟨u,Q,z,R,rfl⟩:=P.form;have l:=Aa d;have o:=Aa f.neg;clear d f;go_in;go_wp2;go_region_held3 (fun W=>W.cell? ⟨w.heap.size,0,X⟩=I (O a m c)/\W.cell? ⟨w.heap.size,1,X⟩=I (Y s)/\W.cell? ⟨w.heap.size+1,0,X⟩=I (O u Q z)/\W.cell? ⟨w.heap.size+1,1,X⟩=I (Y R)) ((repeat' (with_reducible refine And.intro ?_ ?_))<;>(first|(go_simp;done)|(refine hx1.d ?_;go_simp;done))) (first|((go_at_call 186;(with_reducible refine(Xy _ (Z #[O u Q z,Y R]) y ?_).mono ?_);(refine P.ext ?_;exact eA);rintro e w1 ⟨r1,rfl,g,hx1,ae⟩;obtain⟨a1,m1,c1,s1,rfl⟩:=g.form;obtain⟨⟨p,ag⟩,aa,ab,j⟩:=Yb w hx1))|((go_at_call 179;(with_reducible refine(iz _ (Z #[O a m c,Y s]) (Z #[O a1 m1 c1,Y s1]) x (-y) ?_ ?_ l.o o.o).mono ?_);(refine K.ext ?_;exact eA);(refine g.ext ?_;exact eA);rintro e w2 ⟨r2,rfl,i,t,af⟩;obtain⟨a2,m2,c2,s2,rfl⟩:=i.form;obtain⟨⟨r,ah⟩,ac,ad,k⟩:=Yb w t)))
 all_goals go_wp2
 exact bR (v:=Z #[O a2 m2 c2,Y s2]) (by simp[results,Tryz.results184,go_sem,p,r,j,k]) rfl ⟨_,rfl,i.keep kA,eA,dA⟩
def BI{x y:Int}{s t:Bool}(d:s=decide (x<0))(hy:t=decide (y<0)):sg (!(s==t)) ((x.natAbs:Int)*(y.natAbs:Int))=x*y:=by
 rw[<-Int.natCast_mul,<-Int.natAbs_mul];subst d hy;rcases Int.lt_trichotomy x 0 with h|rfl|h<;>rcases Int.lt_trichotomy y 0 with k|rfl|k
 ·have:=Int.mul_pos_of_neg_of_neg h k;simp[sg,h,k];omega
 ·simp[sg]
 ·have:=Int.mul_neg_of_neg_of_pos h k;simp[sg,h,show ¬y<0 by omega];omega
 ·simp[sg]
 ·simp[sg]
 ·simp[sg]
 ·have:=Int.mul_neg_of_pos_of_neg h k;simp[sg,k,show ¬x<0 by omega];omega
 ·simp[sg]
 ·have:=Int.mul_pos h k;simp[sg,show ¬x<0 by omega,show ¬y<0 by omega];omega
def Su(w:V)(va vb:J)(x y:Int)(l:vd w va x)(o:vd w vb y)(d:Lm Rc x)(f:Lm Rc y):Calls Tryz.prog 147 #[va,vb] w (Qg w (x*y)):=by
 obtain⟨a,m,c,s,rfl⟩:=l.form;obtain⟨S,m',T,s',rfl⟩:=o.form;have t:=Aa l.sgn;have u:=Aa o.sgn;have P:=l.dig;have Q:=o.dig;have p:=Aa d.abs;have r:=Aa f.abs;clear d f l o;go_in;go_wp2;go_region_held3 (fun W=>W.cell? ⟨w.heap.size,0,X⟩=I (O a m c)/\W.cell? ⟨w.heap.size,1,X⟩=I (Y s)/\W.cell? ⟨w.heap.size+1,0,X⟩=I (O S m' T)/\W.cell? ⟨w.heap.size+1,1,X⟩=I (Y s')) ((repeat' (with_reducible refine And.intro ?_ ?_))<;>(first|(go_simp;done)|(refine hx1.d ?_;go_simp;done))) (first|((go_at_call 195;(with_reducible refine(Mz _ (Z #[O a m c]) (Z #[O S m' T]) x.natAbs y.natAbs ?_ ?_ p.o r.o).mono ?_);(refine P.ext ?_;exact eA);(refine Q.ext ?_;exact eA);rintro e w1 ⟨r1,rfl,g,hx1,ae⟩;obtain⟨a1,m1,c1,rfl⟩:=g.u.form;obtain⟨⟨z,ag⟩,aa,ab,j⟩:=Yb w hx1))|((go_at_call 183;(with_reducible refine(Sm _ (!(s==s')) (Z #[O a1 m1 c1]) ((x.natAbs:Int)*(y.natAbs:Int)) ?_).mono ?_);(refine g.u.ext ?_;exact eA);rintro e w2 ⟨r2,rfl,i,R,af⟩;obtain⟨a2,m2,c2,s2,rfl⟩:=i.form;obtain⟨⟨K,ah⟩,ac,ad,k⟩:=Yb w R)))
 all_goals go_wp2
 refine bR (v:=Z #[O a2 m2 c2,Y s2]) (by simp[results,Tryz.results147,go_sem,z,K,j,k]) rfl ⟨_,rfl,?_,eA,dA⟩;rw[<-BI t.o u.o];exact i.keep kA
def Oo(w:V)(f g:J)(x y:Int)(i:vd w f x)(j:vd w g y)(d:Lm Rc x)(e:Lm Rc y):Calls Tryz.prog 147 #[f,g] w (nj w (x*y)):=Nl (Su w f g x y i j d e)
def Zy(w:V)(p r:J)(x y:Int)(l:vd w p x)(o:vd w r y)(d:Lm Rc x)(f:Lm Rc y):Calls Tryz.prog 136 #[p,r] w fun e w'=>e=.returned (C .i64 (x-y).sign)/\Ba w w'/\Dr w w':=by obtain⟨a,m,c,s,rfl⟩:=l.form;obtain⟨z,m',P,s',rfl⟩:=o.form;have i:=Aa d;have j:=Aa f;clear d f;go_in;go_wp2_with(first|((go_at_call 184;(with_reducible refine(IF _ (Z #[O a m c,Y s]) (Z #[O z m' P,Y s']) x y ?_ ?_ i.o j.o).mono ?_);(refine l.ext ?_;exact eA);(refine o.ext ?_;exact eA);rintro e w1 ⟨r1,rfl,g,k,S⟩;obtain⟨K,m1,Q,s1,rfl⟩:=g.form;obtain⟨⟨R,aa⟩,t,u⟩:=Zb w k))|((go_at_call 163;(with_reducible refine(Vz _ (Z #[O K m1 Q,Y s1]) (x-y) ?_).mono ?_);(refine g.ext ?_;exact eA);rintro e w2 ⟨rfl,ab,T⟩)));go_ret;exact⟨rfl,eA,dA⟩
def tB(w:V)(g i:J)(x y:Int)(j:vd w g x)(k:vd w i y)(d:Lm Rc x)(f:Lm Rc y):Calls Tryz.prog 136 #[g,i] w fun e w'=>e=.returned (C .i64 (x-y).sign)/\Ba w w':=Jq (Zy w g i x y j k d f)
end
section
open Go.RowKit Go.Shelf
attribute [local go_sem] Oper.semAt_some
def jh(w:V)(x y:Int)(W:V):Prop:=
 Ba w W/\w.heap.size+1+1+1<=W.heap.size/\(∃sl,W.heap[w.heap.size]?=I (N #[sl] 59 (0,0))/\Jd W (Z #[sl]) x)/\
 (∃sl,W.heap[w.heap.size+1]?=I (N #[sl] 59 (0,0))/\Jd W (Z #[sl]) y)/\W.heap[w.heap.size+1+1]?=I (N #[O X 0 0] 59 (0,0))
def jh.ext{w:V}{x y:Int}{W W':V}(h:jh w x y W)(k:Ba W W'):jh w x y W':=by obtain⟨d,o,⟨j,e,f⟩,⟨l,g,h6⟩,i⟩:=h;have:=k.size;exact⟨d.trans k,by omega,⟨j,k.e e,f.ext k⟩,⟨l,k.e g,h6.ext k⟩,k.e i⟩
def jh.setX{w:V}{x y g:Int}{W:V}{sl:J}(h:jh w x y W)(p:Jd W (Z #[sl]) g):jh w g y (W.setCell ⟨w.heap.size,0,X⟩ sl):=by obtain⟨i,j,⟨u,e,t⟩,⟨r,l,h6⟩,o⟩:=h;have d:∀k,k≠w.heap.size->(W.setCell ⟨w.heap.size,0,X⟩ sl).heap[k]?=W.heap[k]?:=fun k d=>bS _ _ _ _ d;have f:Ia 2 W (W.setCell ⟨w.heap.size,0,X⟩ sl):=(Ia.refl _ W).set e dM _;exact⟨i.set (nE _) _,by rw[Bg];exact j,⟨sl,one_setCell e,p.keep f⟩,⟨r,(d _ oM).trans l,h6.keep f⟩,(d _ oM).trans o⟩
def jh.setY{w:V}{x y g:Int}{W:V}{sl:J}(h:jh w x y W)(r:Jd W (Z #[sl]) g):jh w x g (W.setCell ⟨w.heap.size+1,0,X⟩ sl):=by obtain⟨i,j,⟨t,l,o⟩,⟨u,e,h6⟩,p⟩:=h;have d:∀k,k≠w.heap.size+1->(W.setCell ⟨w.heap.size+1,0,X⟩ sl).heap[k]?=W.heap[k]?:=fun k d=>bS _ _ _ _ d;have f:Ia 2 W (W.setCell ⟨w.heap.size+1,0,X⟩ sl):=(Ia.refl _ W).set e dM _;exact⟨i.set dO _,by rw[Bg];exact j,⟨t,(d _ oM).trans l,o.keep f⟩,⟨sl,one_setCell e,r.keep f⟩,(d _ oM).trans p⟩
def jh.keepX{w:V}{x y:Int}{W:V}(h:jh w x y W)(u:J):Ia 2 W (W.setCell ⟨w.heap.size,0,X⟩ u):=by obtain⟨e,f,⟨i,d,g⟩,_⟩:=h;exact(Ia.refl _ W).set d dM _
def jh.keepY{w:V}{x y:Int}{W:V}(h:jh w x y W)(u:J):Ia 2 W (W.setCell ⟨w.heap.size+1,0,X⟩ u):=by obtain⟨e,f,⟨k,g,i⟩,⟨l,d,h6⟩,j⟩:=h;exact(Ia.refl _ W).set d dM _
def jh.setXY{w:V}{x y i j:Int}{W:V}{f g:J}(h:jh w x y W)(d:Jd W (Z #[f]) i)(e:Jd W (Z #[g]) j):jh w i j ((W.setCell ⟨w.heap.size,0,X⟩ f).setCell ⟨w.heap.size+1,0,X⟩ g):=(h.setX d).setY (e.keep (h.keepX _))
def Pt{k:Nat}{x n:Int}(h:2 ^ k*x=n)(d:x%2=0):2 ^ (k+1)*(x/2)=n:=by rw[Int.pow_succ,Int.mul_assoc,show 2*(x/2)=x by omega];exact h
def jh.rdX{w:V}{x y:Int}{W:V}(h:jh w x y W):∃a m c,W.cell? ⟨w.heap.size,0,X⟩=I (O a m c)/\W.frozen? ⟨w.heap.size,0,X⟩=false/\Jd W (Z #[O a m c]) x:=by obtain⟨g,i,⟨l,d,f⟩,⟨o,j,h6⟩,k⟩:=h;obtain⟨a,m,c,e⟩:=f.form;cases e;exact⟨a,m,c,cell_of_one d,free_of_one d,f⟩
def jh.rdY{w:V}{x y:Int}{W:V}(h:jh w x y W):∃a m c,W.cell? ⟨w.heap.size+1,0,X⟩=I (O a m c)/\W.frozen? ⟨w.heap.size+1,0,X⟩=false/\Jd W (Z #[O a m c]) y:=by obtain⟨f,g,⟨l,i,j⟩,⟨o,d,h6⟩,k⟩:=h;obtain⟨a,m,c,e⟩:=h6.form;cases e;exact⟨a,m,c,cell_of_one d,free_of_one d,h6⟩
def jh.rdR{w:V}{x y:Int}{W:V}(h:jh w x y W):W.cell? ⟨w.heap.size+1+1,0,X⟩=I (O X 0 0)/\W.frozen? ⟨w.heap.size+1+1,0,X⟩=false:=⟨cell_of_one h.2.2.2.2,free_of_one h.2.2.2.2⟩
def jh.o{w:V}{x y g:Int}{W:V}{sl:J}(h:jh w x y W)(e:Jd W (Z #[sl]) g):Jd (W.setCell ⟨w.heap.size+1+1,0,X⟩ sl) (Z #[sl]) g/\Ba w (W.setCell ⟨w.heap.size+1+1,0,X⟩ sl)/\(W.setCell ⟨w.heap.size+1+1,0,X⟩ sl).cell? ⟨w.heap.size+1+1,0,X⟩=I sl:=by have d:=h.2.2.2.2;exact⟨e.keep ((Ia.refl _ W).set d dM _),h.1.set dO _,cell_of_one (one_setCell d)⟩
def PB{x y:Int}(h:x%2=0)(hy:y%2=1):Int.gcd (x/2) y=Int.gcd x y:=by
 have d:Nat.Coprime 2 y.natAbs:=by
  unfold Nat.Coprime;rw[Nat.gcd_rec,show y.natAbs%2=1 by omega];rfl
 have e:x.natAbs=2*(x/2).natAbs:=oM;unfold Int.gcd;rw[e];exact(Nat.Coprime.gcd_mul_left_cancel _ d).symm
def KJ{x y:Int}(d:0<=x)(h:x<=y):Int.gcd x (y + -1*x)=Int.gcd x y:=by unfold Int.gcd;rw[show (y + -1*x).natAbs=y.natAbs-x.natAbs by omega];exact Nat.gcd_sub_self_right oM
def OH{x y a b:Int}{k:Nat}(d:2 ^ k*x=a)(hy:2 ^ k*y=b):(Int.gcd a b:Int)=2 ^ k*(Int.gcd x y:Int):=by rw[<-d,<-hy,Int.gcd_mul_left];simp[Int.natAbs_pow]
def qI{k n:Nat}(h:(2:Int) ^ k<B ^ n):k<24*n:=by apply Classical.byContradiction;intro d;have e:B=(2:Int) ^ 24:=dM;rw[e,<-Int.pow_mul]at h;have:=Im (b:=(2:Int)) dM (show 24*n<=k by omega);omega
def zA{k:Nat}{x n:Int}(h:Lm Rc n)(j:0<x)(i:2 ^ k*x=n):k<2400000000/\(k:Int)<n:=by
 have f:(2:Int) ^ k*1<=2 ^ k*x:=Int.mul_le_mul_of_nonneg_left oM (Int.pow_nonneg dM);have d:(2:Int) ^ k<B ^ Rc:=by unfold Lm at h;omega
 have e:=qI d;have g:(k:Int)<2 ^ k:=by exact_mod_cast Nat.lt_two_pow_self (n:=k)
 unfold Rc at e;omega
def nt{k:Nat}{x n:Int}(f:0<x)(h:2 ^ k*x=n):x<=n:=by
 have d:(1:Int)<=2 ^ k:=by have:=Ri (b:=(2:Int)) dM k;omega
 have e:1*x<=2 ^ k*x:=Int.mul_le_mul_of_nonneg_right d oM;omega
def mO{x y:Int}(h:y%2=0)(d:x%2=1):Int.gcd x (y/2)=Int.gcd x y:=by rw[Int.gcd_comm,PB h d,Int.gcd_comm]
def Jd.lm{w:V}{a:Option Addr}{m c:Nat}{n:Int}(h:Jd w (Z #[O a m c]) n){k:Nat}(j:m<=k):Lm k n:=by obtain⟨f,g,i,d,e⟩:=h.open;rw[<-e];exact Lm.dig d.1 oM
def tP(w:V)(x y:Int)(d:0<=x/\x<18446744073709551616)(hy:0<=y/\y<18446744073709551616):Calls Tryz.prog 288 #[C .u64 x,C .u64 y] w fun e w'=>e=.returned (C .u64 (Int.gcd x y:Nat))/\Ba w w':=by obtain⟨a,rfl⟩:=Int.eq_ofNat_of_zero_le d.1;obtain⟨b,rfl⟩:=Int.eq_ofNat_of_zero_le hy.1;exact uP w a b oM oM
def iF{x:Int}(h:Lm 2 x):x<281474976710656:=by have:B ^ 2=281474976710656:=dM;unfold Lm at h;omega
def PH{x y:Int}(h:0<x):(Int.gcd x y:Int)<=x:=Int.le_of_dvd h (Int.gcd_dvd_left ..)
def OR(w:V)(d nb:Int)(g:Nat)(t5:J)(wr:V):Prop:=
 ∃(k:Nat)(x y:Int),t5=C .i64 k/\g=d.toNat-k/\0<x/\0<y/\2 ^ k*x=d/\2 ^ k*y=nb/\jh w x y wr
def NR(w:V)(d nb:Int)(t5:J)(wr:V):Prop:=
 ∃(k:Nat)(x y:Int),t5=C .i64 k/\0<x/\0<y/\(x%2=1\/y%2=1)/\2 ^ k*x=d/\2 ^ k*y=nb/\jh w x y wr
def MR(w:V)(G M:Int)(k:Nat)(g:Nat)(_:J)(wr:V):Prop:=
 ∃(x y:Int),0<x/\0<y/\(x%2=1\/y%2=1)/\x<=M/\y<=M/\2 ^ k*(Int.gcd x y:Int)=G/\g=x.toNat/\jh w x y wr
def KR(w:V)(G M:Int)(k:Nat)(g:Nat)(_:J)(wr:V):Prop:=
 ∃(x y:Int),0<x/\0<=y/\x%2=1/\x<=M/\y<=M/\2 ^ k*(Int.gcd x y:Int)=G/\g=(x+y).toNat/\jh w x y wr
def JR(w:V)(G M:Int)(k:Nat)(x y:Int)(g:Nat)(_:J)(wr:V):Prop:=
 ∃(d:Int),0<d/\d<=y/\2 ^ k*(Int.gcd x d:Int)=G/\g=d.toNat/\jh w x d wr
def IR(w:V)(G M:Int)(k:Nat)(x y:Int)(_:J)(wr:V):Prop:=
 ∃(d e:Int),0<d/\d<=e/\d%2=1/\e<=M/\e<x+y/\2 ^ k*(Int.gcd d e:Int)=G/\jh w d e wr
def VN{a b:Int}(h:b<a):decide (0<Lc a b)=true:=by simp only[Lc];grind
def WN{a b:Int}(h:a<=b):decide (0<Lc a b)=false:=by simp only[Lc];grind
def EO(w:V)(va vb:J)(na nb:Int)(ha:Jd w va na)(hb:Jd w vb nb)(bk:Lm Rc na)(bl:Lm Rc nb):Calls Tryz.prog 265 #[va,vb] w fun e w'=>∃r,e=.returned r/\Jd w' r (Int.gcd na nb:Nat)/\Ba w w':=by
 obtain⟨a,m,c,rfl⟩:=ha.form;obtain⟨a',m',c',rfl⟩:=hb.form;have h0:=ha.nonneg;have bE:=hb.nonneg;have aG:=Aa bk;have bc:=Aa bl;clear bk bl;have aO:jh w na nb (((w.alloc (N #[O a m c] 59)).alloc (N #[O a' m' c'] 59)).alloc (N #[O X 0 0] 59)):=by
  refine⟨eA,by simp,⟨_,?_,ha.ext eA⟩,⟨_,?_,hb.ext eA⟩,?_⟩
  ·rw[Ag,Ag,Ag];simp only[wZ];rw[if_neg oM,if_neg oM,if_pos trivial]
  ·rw[Ag,Ag];simp only[wZ];rw[if_neg oM,if_pos trivial]
  ·rw[Ag];simp only[wZ];rw[if_pos trivial]
 have aH:=Aa aO;have aK:=ha.ext aO.1;have bF:=hb.ext aO.1;clear aO;by_cases hz:na=0
 ·have bs:(na==0)=true:=by simpa using hz
  go_in;go_wp2_with(go_at_call 166;(with_reducible refine(Rj _ _ _ aK).mono ?_);rintro e w1 ⟨rfl,d⟩;have ae:=aH.o.ext d;obtain⟨aY,mY,cY,T,aa,f⟩:=ae.rdY;obtain⟨ak,al⟩:=ae.rdR);obtain⟨o1,o2,o3⟩:=ae.o f;refine bR (v:=Z #[O aY mY cY]) (by simp[results,Tryz.results265,go_sem,o3]) rfl ⟨_,rfl,?_,o2⟩;rw[hz];simpa[Int.natAbs_of_nonneg bE] using o1
 have ck:(na==0)=false:=by simpa using hz
 by_cases a9:nb=0
 ·have bs:(nb==0)=true:=by simpa using a9
  go_in;go_wp2_with(first|(go_at_call 166;(with_reducible refine(Rj _ _ _ aK).mono ?_);rintro e w1 ⟨rfl,d⟩;have ae:=aH.o.ext d;obtain⟨aY,mY,cY,T,aa,f⟩:=ae.rdY)|(go_at_call 166;(with_reducible refine(Rj _ _ _ f).mono ?_);rintro e w2 ⟨rfl,t⟩;have ay:=ae.ext t;obtain⟨aX,S,cX,ao,ap,g⟩:=ay.rdX;obtain⟨ak,al⟩:=ay.rdR));obtain⟨o1,o2,o3⟩:=ay.o g;refine bR (v:=Z #[O aX S cX]) (by simp[results,Tryz.results265,go_sem,o3]) rfl ⟨_,rfl,?_,o2⟩;rw[a9];simpa[Int.natAbs_of_nonneg h0] using o1
 have bs:(nb==0)=false:=by simpa using a9
 obtain⟨G,hG⟩:∃G:Int,(Int.gcd na nb:Int)=G:=⟨_,rfl⟩;obtain⟨M,bg,bh,hM⟩:∃M:Int,na<=M/\nb<=M/\Sa (Lm Rc M):=by
  rcases Int.le_total na nb with h|h
  ·exact⟨nb,h,Int.le_refl _,bc⟩
  ·exact⟨na,Int.le_refl _,h,aG⟩
 rw[hG];have HG:=Aa hG;clear hG;go_in
 go_upto_block 1 with (first|(go_at_call 166;(with_reducible refine(Rj _ _ _ aK).mono ?_);rintro e w1 ⟨rfl,d⟩;have ae:=aH.o.ext d;obtain⟨aY,mY,cY,T,aa,f⟩:=ae.rdY)|(go_at_call 166;(with_reducible refine(Rj _ _ _ f).mono ?_);rintro e w2 ⟨rfl,t⟩;have ay:=ae.ext t))
 go_cut [5] (NR w na nb)
 case first =>
  go_wp2;go_loopg [5] na.toNat (OR w na nb)
  case atStart=>exact⟨0,na,nb,rfl,rfl,by omega,by omega,by simp,by simp,ay⟩
  case round =>
   clear ay ae d t T aa f;obtain⟨k,x,y,rfl,rfl,p,Q,an,av,i⟩:=hrel;obtain⟨aX,S,cX,ao,ap,g⟩:=i.rdX;obtain⟨aY,mY,cY,T,aa,f⟩:=i.rdY;obtain⟨ak,al⟩:=i.rdR;have ab:w.heap.size<wr.heap.size:=(by have:=i.2.1;omega);have ac:w.heap.size+1<wr.heap.size:=(by have:=i.2.1;omega);have ad:w.heap.size+1+1<wr.heap.size:=(by have:=i.2.1;omega);have Hs:=Aa i;clear i;have aI:=Aa an;have aJ:=Aa av;have cg:=zA aG.o p an;have ch:IntKind.i64.wrap ((k:Int)+1)=(k:Int)+1:=iW _ oM;have ax:Sa (Lm Rc x):=Aa (aG.o.le oM (nt p an));have aR:Sa (Lm Rc y):=Aa (bc.o.le oM (nt Q av));clear an av;by_cases K:x%2=0
   ·(have ag:(x%2==0)=true:=by simpa using K);by_cases aw:y%2=0
    ·(have aW:(y%2==0)=true:=by simpa using aw);go_wp2_with(first|(go_at_call 286;(with_reducible refine(Vm _ (Z #[O aX S cX]) x ?_ p).mono ?_);(refine g.ext ?_;exact eA);rintro e w1 ⟨rfl,d⟩;obtain⟨⟨u,P⟩,j,l,o⟩:=Yb w d)|(go_at_call 286;(with_reducible refine(Vm _ (Z #[O aY mY cY]) y ?_ Q).mono ?_);(refine f.ext ?_;exact eA);rintro e w2 ⟨rfl,t⟩;obtain⟨⟨az,aA⟩,ah,ai,aj⟩:=Yb w t))
     go_region_with (first|((go_at_call 287;(with_reducible refine(Qt _ (Z #[O aX S cX]) x ?_ ax.o).mono ?_);(refine g.ext ?_;exact eA);rintro e w3 ⟨r3,rfl,a0,a4⟩;obtain⟨b4,cl,b6,rfl⟩:=a0.u.form;obtain⟨⟨bG,bJ⟩,bt,bu,bv⟩:=Yb w a4))|((go_at_call 287;(with_reducible refine(Qt _ (Z #[O aY mY cY]) y ?_ aR.o).mono ?_);(refine f.ext ?_;exact eA);rintro e w4 ⟨r4,rfl,a3,a5⟩;obtain⟨b5,cm,b7,rfl⟩:=a3.u.form;obtain⟨⟨bH,bK⟩,bw,bx,bz⟩:=Yb w a5)))
     all_goals
      go_wp2;go_roundg (na.toNat-(k+1))
      case measure=>omega
      case rel=>first|exact⟨k+1,x/2,y/2,Nj oM,rfl,by omega,by omega,Pt aI.o K,Pt aJ.o aw,(Hs.o.ext eA).setXY (a0.u.ext eA) a3.u⟩|((repeat apply Exists.intro);exact⟨⟨k+1,x/2,y/2,Nj oM,rfl,by omega,by omega,Pt aI.o K,Pt aJ.o aw,(Hs.o.ext eA).setXY (a0.u.ext eA) a3.u⟩,rfl⟩)
    ·(have aW:(y%2==0)=false:=by simpa using aw);go_wp2_with(first|(go_at_call 286;(with_reducible refine(Vm _ (Z #[O aX S cX]) x ?_ p).mono ?_);(refine g.ext ?_;exact eA);rintro e w1 ⟨rfl,d⟩;obtain⟨⟨u,P⟩,j,l,o⟩:=Yb w d)|(go_at_call 286;(with_reducible refine(Vm _ (Z #[O aY mY cY]) y ?_ Q).mono ?_);(refine f.ext ?_;exact eA);rintro e w2 ⟨rfl,t⟩;obtain⟨⟨az,aA⟩,ah,ai,aj⟩:=Yb w t));go_meet;exact⟨k,x,y,rfl,p,Q,.inr oM,aI.o,aJ.o,Hs.o.ext eA⟩
   ·(have ag:(x%2==0)=false:=by simpa using K);go_wp2_with(first|(go_at_call 286;(with_reducible refine(Vm _ (Z #[O aX S cX]) x ?_ p).mono ?_);(refine g.ext ?_;exact eA);rintro e w1 ⟨rfl,d⟩;obtain⟨⟨u,P⟩,j,l,o⟩:=Yb w d));go_meet;exact⟨k,x,y,rfl,p,Q,.inl oM,aI.o,aJ.o,Hs.o.ext eA⟩
 case rest =>
  obtain⟨k,x0,y0,rfl,p,Q,aM,an,av,i⟩:=hcut;have aC:2 ^ k*(Int.gcd x0 y0:Int)=G:=by rw[<-HG.o];exact(OH an av).symm
  have am:=Int.le_trans (nt p an) bg;have au:=Int.le_trans (nt Q av) bh;have bb:=Aa (zA aG.o p an).1;clear an av bg bh aK bF aH;go_wp2;go_loopg [26] x0.toNat (MR w G M k)
  case atStart=>exact⟨x0,y0,p,Q,aM,am,au,aC,rfl,i⟩
  case round =>
   clear i aC am au aM p Q;obtain⟨x,y,p,Q,aM,am,au,hg,rfl,i⟩:=hrel;obtain⟨aX,S,cX,ao,ap,g⟩:=i.rdX;obtain⟨aY,mY,cY,T,aa,f⟩:=i.rdY;obtain⟨ak,al⟩:=i.rdR;have ab:w.heap.size<wr.heap.size:=(by have:=i.2.1;omega);have ac:w.heap.size+1<wr.heap.size:=(by have:=i.2.1;omega);have ad:w.heap.size+1+1<wr.heap.size:=(by have:=i.2.1;omega);have Hs:=Aa i;clear i;have Hg:=Aa hg;clear hg;have ax:Sa (Lm Rc x):=Aa (hM.o.le oM am);by_cases K:x%2=0
   ·(have ag:(x%2==0)=true:=by simpa using K);go_wp2_with(first|(go_at_call 286;(with_reducible refine(Vm _ (Z #[O aX S cX]) x ?_ p).mono ?_);(refine g.ext ?_;exact eA);rintro e w1 ⟨rfl,d⟩;obtain⟨⟨u,P⟩,j,l,o⟩:=Yb w d)|((go_at_call 287;(with_reducible refine(Qt _ (Z #[O aX S cX]) x ?_ ax.o).mono ?_);(refine g.ext ?_;exact eA);rintro e w2 ⟨r2,rfl,aq,t⟩;obtain⟨aT,ba,aU,rfl⟩:=aq.u.form;obtain⟨⟨az,aA⟩,ah,ai,aj⟩:=Yb w t)));go_roundg (x/2).toNat
    case measure=>omega
    case rel=>exact⟨x/2,y,by omega,Q,.inr oM,by omega,au,by rw[PB K oM];exact Hg.o,rfl,(Hs.o.ext eA).setX aq.u⟩
   ·(have ag:(x%2==0)=false:=by simpa using K);have aE:x%2=1:=oM;go_wp2_with(first|(go_at_call 286;(with_reducible refine(Vm _ (Z #[O aX S cX]) x ?_ p).mono ?_);(refine g.ext ?_;exact eA);rintro e w1 ⟨rfl,d⟩;obtain⟨⟨u,P⟩,j,l,o⟩:=Yb w d));go_loopg [30] (x+y).toNat (KR w G M k)
    case atStart=>exact⟨x,y,p,by omega,aE,am,au,Hg.o,rfl,Hs.o.ext eA⟩
    case round =>
     clear d u P j l o ao ap g T aa f ak al ab ac ad Hs Hg ax am au aM p Q K ag aE;obtain⟨x,y,p,Q,aE,am,au,hg,rfl,i⟩:=hrel;obtain⟨aX,S,cX,ao,ap,g⟩:=i.rdX;obtain⟨aY,mY,cY,T,aa,f⟩:=i.rdY;obtain⟨ak,al⟩:=i.rdR;have ab:w.heap.size<wr.heap.size:=(by have:=i.2.1;omega);have ac:w.heap.size+1<wr.heap.size:=(by have:=i.2.1;omega);have ad:w.heap.size+1+1<wr.heap.size:=(by have:=i.2.1;omega);have Hs:=Aa i;clear i;have Hg:=Aa hg;clear hg;have ax:Sa (Lm Rc x):=Aa (hM.o.le oM am);by_cases a8:y=0
     ·(have bP:(y==0)=true:=by simpa using a8);(have HK:k<=10000000000:=by have:=bb.o;omega);go_wp2_with(first|(go_at_call 166;(with_reducible refine(Rj _ (Z #[O aY mY cY]) y ?_).mono ?_);(refine f.ext ?_;exact eA);rintro e w1 ⟨rfl,d⟩;obtain⟨⟨u,P⟩,j,l,o⟩:=Yb w d)|((go_at_call 289;(with_reducible refine(pE _ (Z #[O aX S cX]) x k ?_ ax.o HK).mono ?_);(refine g.ext ?_;exact eA);rintro e w2 ⟨r2,rfl,aq,t⟩;obtain⟨aT,ba,aU,rfl⟩:=aq.u.form;obtain⟨⟨az,aA⟩,ah,ai,aj⟩:=Yb w t)));obtain⟨o1,o2,o3⟩:=(Hs.o.ext (w:=w) (W':=w2) eA).o aq.u;refine bR (v:=Z #[O aT ba aU]) (by simp[results,Tryz.results265,go_sem,o3]) rfl ⟨_,rfl,?_,o2⟩;(have e:2 ^ k*x=G:=by rw[<-Hg.o,a8];simp[Int.natAbs_of_nonneg (show 0<=x by omega)]);rw[<-e];exact o1
     ·(have bP:(y==0)=false:=by simpa using a8);go_wp2_with(first|(go_at_call 166;(with_reducible refine(Rj _ (Z #[O aY mY cY]) y ?_).mono ?_);(refine f.ext ?_;exact eA);rintro e w1 ⟨rfl,d⟩;obtain⟨⟨u,P⟩,j,l,o⟩:=Yb w d));go_loopg [33] y.toNat (JR w G M k x y)
      case atStart=>exact⟨y,by omega,Int.le_refl _,Hg.o,rfl,Hs.o.ext eA⟩
      case round =>
       clear d u P j l o ao ap g T aa f ak al ab ac ad Hs Hg;obtain⟨R,aF,ci,hg,rfl,i⟩:=hrel;obtain⟨aX,S,cX,ao,ap,g⟩:=i.rdX;obtain⟨aY,mY,cY,T,aa,f⟩:=i.rdY;obtain⟨ak,al⟩:=i.rdR;have ab:w.heap.size<wr.heap.size:=(by have:=i.2.1;omega);have ac:w.heap.size+1<wr.heap.size:=(by have:=i.2.1;omega);have ad:w.heap.size+1+1<wr.heap.size:=(by have:=i.2.1;omega);have Hs:=Aa i;clear i;have Hg:=Aa hg;clear hg;have aR:Sa (Lm Rc R):=Aa (hM.o.le oM oM);by_cases K:R%2=0
       ·(have ag:(R%2==0)=true:=by simpa using K);go_wp2_with(first|(go_at_call 286;(with_reducible refine(Vm _ (Z #[O aY mY cY]) R ?_ aF).mono ?_);(refine f.ext ?_;exact eA);rintro e w1 ⟨rfl,d⟩;obtain⟨⟨u,P⟩,j,l,o⟩:=Yb w d)|((go_at_call 287;(with_reducible refine(Qt _ (Z #[O aY mY cY]) R ?_ aR.o).mono ?_);(refine f.ext ?_;exact eA);rintro e w2 ⟨r2,rfl,aq,t⟩;obtain⟨aT,ba,aU,rfl⟩:=aq.u.form;obtain⟨⟨az,aA⟩,ah,ai,aj⟩:=Yb w t)));go_roundg (R/2).toNat
        case measure=>omega
        case rel=>exact⟨R/2,by omega,by omega,by rw[mO K aE];exact Hg.o,rfl,(Hs.o.ext eA).setY aq.u⟩
       ·(have ag:(R%2==0)=false:=by simpa using K);have bQ:R%2=1:=oM;go_upto_if 40 with (first|(go_at_call 286;(with_reducible refine(Vm _ (Z #[O aY mY cY]) R ?_ aF).mono ?_);(refine f.ext ?_;exact eA);rintro e w1 ⟨rfl,d⟩;obtain⟨⟨u,P⟩,j,l,o⟩:=Yb w d)|((go_at_call 226;(with_reducible refine(Np _ (Z #[O aX S cX]) (Z #[O aY mY cY]) x R ?_ ?_).mono ?_);(refine g.ext ?_;exact eA);(refine f.ext ?_;exact eA);rintro e w2 ⟨rfl,t⟩;obtain⟨⟨az,aA⟩,ah,ai,aj⟩:=Yb w t)));go_cut [41] (IR w G M k x y)
        case first =>
         rcases Int.lt_or_le R x with ar|ar
         ·have aV:=VN ar;have bI:0<Lc x R:=of_decide_eq_true aV;have aS:=Aa ar;clear ar;go_wp2;go_meet;exact⟨R,x,aF,by have:=aS.o;omega,bQ,am,by omega,by rw[Int.gcd_comm];exact Hg.o,(Hs.o.ext (W':=w2) eA).setXY (f.ext eA) (g.ext eA)⟩
         ·have aV:=WN ar;(have bI:Lc x R<=0:=by have:=of_decide_eq_false aV;omega);have aS:=Aa ar;clear ar;go_wp2;go_meet;exact⟨x,R,p,aS.o,aE,by omega,by omega,Hg.o,Hs.o.ext (W':=w2) eA⟩
        case rest =>
         clear d u P j l o t az aA ah ai aj ao ap g T aa f ak al ab ac ad Hs Hg;obtain⟨x',R,aD,br,aQ,bU,bT,hg,i⟩:=hcut;obtain⟨wr,rfl⟩:∃W,W=wc:=⟨_,rfl⟩;obtain⟨aX,S,cX,ao,ap,g⟩:=i.rdX;obtain⟨aY,mY,cY,T,aa,f⟩:=i.rdY;obtain⟨ak,al⟩:=i.rdR;have ab:w.heap.size<wr.heap.size:=(by have:=i.2.1;omega);have ac:w.heap.size+1<wr.heap.size:=(by have:=i.2.1;omega);have ad:w.heap.size+1+1<wr.heap.size:=(by have:=i.2.1;omega);have Hs:=Aa i;clear i;have aB:Sa (Lm Rc x'):=Aa (hM.o.le oM oM);have aP:Sa (Lm Rc R):=Aa (hM.o.le oM oM);(have bj:2 ^ k*(Int.gcd x' (R + -1*x'):Int)=G:=by rw[KJ oM br];exact hg);have Hg:=Aa bj;clear hg bj;by_cases bm:S<=2
         ·(have bn:decide ((S:Int)<=2)=true:=by simp;omega);have bo:(S:Int)<=2:=oM;go_wp2_with(first|((go_at_call 187;(with_reducible refine(Tq _ (Z #[O aY mY cY]) (Z #[O aX S cX]) R x' (-1) ?_ ?_ aP.o aB.o oM oM).mono ?_);(refine f.ext ?_;exact eA);(refine g.ext ?_;exact eA);rintro e w1 ⟨r1,rfl,af,d⟩;obtain⟨a1,m1,c1,rfl⟩:=af.u.form;obtain⟨⟨u,P⟩,j,l,o⟩:=Yb w d;rcases Nat.lt_or_ge 2 m1 with aZ|aZ)))
          ·go_roundg (x'+(R + -1*x')).toNat
           case measure=>omega
           case rel=>exact⟨x',R + -1*x',aD,by omega,aQ,by omega,by omega,Hg.o,rfl,(Hs.o.ext eA).setY af.u⟩
          ·(have HK:k<=10000000000:=by have:=bb.o;omega);obtain⟨z,hz⟩:=gX (R + -1*x');rw[hz]at af Hg;have cj:0<=z:=oM;clear hz;have aL:jh w x' R w1:=Hs.o.ext eA;have bi:=aL.setY (sl:=O a1 m1 c1) (af.u);have be:=(g.ext (w':=w1) eA).keep (aL.keepY (O a1 m1 c1));have bf:=af.u.keep (aL.keepY (O a1 m1 c1));have bC:=Aa (g.lm bm);have bD:=Aa (af.u.lm aZ);have b8:=iF (g.lm bm);have b9:=iF (af.u.lm aZ);have bL:=PH (y:=z) aD;have aC:0<=(Int.gcd x' (z):Int):=Int.natCast_nonneg _;have bA:Sa (Lm Rc (Int.gcd x' (z):Int)):=Aa (aB.o.le aC bL);have bB:=Aa bi;clear bi aL;go_region_held3 (fun W=>W.cell? ⟨w.heap.size,0,X⟩=I (O aX S cX)/\W.cell? ⟨w.heap.size+1,0,X⟩=I (O a1 m1 c1)) ((repeat' (with_reducible refine And.intro ?_ ?_))<;>(first|(go_simp;done)|(refine d.d ?_;go_simp;done))) (first|((go_at_call 138;(with_reducible refine(Ft _ (Z #[O aX S cX]) x' ?_ bC.o).mono ?_);(refine be.ext ?_;exact eA);rintro e w3 ⟨rfl,a4⟩;obtain⟨⟨bG,bJ⟩,bt,bu,bv⟩:=Yb w a4))|((go_at_call 138;(with_reducible refine(Ft _ (Z #[O a1 m1 c1]) (z) ?_ bD.o).mono ?_);(refine bf.ext ?_;exact eA);rintro e w4 ⟨rfl,a5⟩;obtain⟨⟨bH,bK⟩,bw,bx,bz⟩:=Yb w a5))|((go_at_call 288;(with_reducible refine(tP _ x' (z) ⟨by omega,by omega⟩ ⟨by omega,by omega⟩).mono ?_);rintro e w5 ⟨rfl,bM⟩;obtain⟨⟨ca,cd⟩,bV,bW,bX⟩:=Yb w bM))|((go_at_call 188;(with_reducible refine(Lp _ (Int.gcd x' (z):Nat) aC oM).mono ?_);rintro e w6 ⟨r6,rfl,bp,bN⟩;obtain⟨a6,m6,c6,rfl⟩:=bp.u.form;obtain⟨⟨cb,ce⟩,bY,bZ,b0⟩:=Yb w bN))|((go_at_call 289;(with_reducible refine(pE _ (Z #[O a6 m6 c6]) (Int.gcd x' (z):Nat) k ?_ bA.o HK).mono ?_);(refine bp.u.ext ?_;exact eA);rintro e w7 ⟨r7,rfl,bq,bO⟩;obtain⟨a7,m7,c7,rfl⟩:=bq.u.form;obtain⟨⟨cc,cf⟩,b1,b2,b3⟩:=Yb w bO)))
           all_goals go_wp2
           obtain⟨o1,o2,o3⟩:=(bB.o.ext (W':=w7) eA).o bq.u;refine bR (v:=Z #[O a7 m7 c7]) (by simp[results,Tryz.results265,go_sem,o3]) rfl ⟨_,rfl,?_,o2⟩;rw[Hg.o]at o1;exact o1
         ·(have bn:decide ((S:Int)<=2)=false:=by simp;omega);have bo:2<(S:Int):=oM;go_wp2_with(first|((go_at_call 187;(with_reducible refine(Tq _ (Z #[O aY mY cY]) (Z #[O aX S cX]) R x' (-1) ?_ ?_ aP.o aB.o oM oM).mono ?_);(refine f.ext ?_;exact eA);(refine g.ext ?_;exact eA);rintro e w1 ⟨r1,rfl,af,d⟩;obtain⟨a1,m1,c1,rfl⟩:=af.u.form;obtain⟨⟨u,P⟩,j,l,o⟩:=Yb w d)));go_roundg (x'+(R + -1*x')).toNat
          case measure=>omega
          case rel=>exact⟨x',R + -1*x',aD,by omega,aQ,by omega,by omega,Hg.o,rfl,(Hs.o.ext eA).setY af.u⟩
end
section
open Go.RowKit Go.Shelf
def QI(w:V)(R S:J)(x y:Int)(p:vd w R x)(r:vd w S y)(d:Lm Rc x)(f:Lm Rc y):Calls Tryz.prog 225 #[R,S] w (nj w (Int.gcd x y:Nat)):=by
 obtain⟨a,m,c,s,rfl⟩:=p.form;obtain⟨a',m',c',s',rfl⟩:=r.form;have z:=p.dig;have K:=r.dig;have l:=Aa d.abs;have o:=Aa f.abs;clear d f p r;have e:(Int.gcd x y:Int)=(Int.gcd (x.natAbs:Int) (y.natAbs:Int):Nat):=by simp[Int.gcd]
 rw[e];clear e;go_in;go_wp2_with(first|((go_at_call 265;(with_reducible refine(EO _ (Z #[O a m c]) (Z #[O a' m' c']) x.natAbs y.natAbs ?_ ?_ l.o o.o).mono ?_);(refine z.ext ?_;exact eA);(refine K.ext ?_;exact eA);rintro e w1 ⟨r1,rfl,g,P⟩;obtain⟨a1,m1,c1,rfl⟩:=g.form;obtain⟨⟨t,ad⟩,T,aa,j⟩:=Yb w P))|((go_at_call 183;(with_reducible refine(qr _ false (Z #[O a1 m1 c1]) (Int.gcd (x.natAbs:Int) (y.natAbs:Int):Nat) ?_).mono ?_);(refine g.ext ?_;exact eA);rintro e w2 ⟨r2,rfl,i,Q⟩;obtain⟨a2,m2,c2,s2,rfl⟩:=i.form;obtain⟨⟨u,ae⟩,ab,ac,k⟩:=Yb w Q)));exact bR (v:=Z #[O a2 m2 c2,Y s2]) (by simp[results,Tryz.results225,go_sem,t,u,j,k]) rfl ⟨_,rfl,i.keep kA,eA⟩
def Pm(w:V)(d:J)(e:Bool)(q r:Int)(W:V):Prop:=
 Ba w W/\W.heap[w.heap.size+1]?=I (N #[d,Y e] 61 (0,0))/\
 ∃aq mq cq sq ar mr cr sr,W.heap[w.heap.size+1+1]?=I (N #[O aq mq cq,Y sq] 61 (0,0))/\vd W (Z #[O aq mq cq,Y sq]) q/\
  W.heap[w.heap.size+1+1+1]?=I (N #[O ar mr cr,Y sr] 61 (0,0))/\vd W (Z #[O ar mr cr,Y sr]) r
def pF(w:V)(d:J)(e:Bool)(x y:Int)(_:J)(W:V):Prop:=∃q,Pm w d e q (x%y) W/\(if e then -q else q)=x/y
def pI{x y:Int}(s t:Bool)(j:s=decide (x<0))(p:t=decide (y<0))(hy:y≠0)(h:s=false\/(x.natAbs:Int)%(y.natAbs:Int)=0):(if t then -(sg s ((x.natAbs:Int)/(y.natAbs:Int)))else sg s ((x.natAbs:Int)/(y.natAbs:Int)))=x/y/\(x.natAbs:Int)%(y.natAbs:Int)=x%y:=by
 have o:x%y=x%(y.natAbs:Int):=by
  rcases Int.natAbs_eq y with h|h
  ·rw[<-h]
  ·conv=>lhs;rw[h,Int.emod_neg]
 have e:s=false->(x.natAbs:Int)=x:=fun h=>by subst j;simp at h;omega
 have d:s=true->(x.natAbs:Int) = -x:=fun h=>by subst j;simp at h;omega
 have l:x/y=if t then -(x/(y.natAbs:Int))else x/(y.natAbs:Int):=by
  subst p;by_cases h:y<0
  ·simp only[h,decide_true,if_true];rw[show (y.natAbs:Int) = -y by omega,Int.ediv_neg,Int.neg_neg]
  ·simp only[h,decide_false,Bool.false_eq_true,if_false];rw[show (y.natAbs:Int)=y by omega]
 have f:(y.natAbs:Int)≠0:=oM;rw[l,o];cases s
 ·rw[e rfl];simp[sg]
 ·rw[d rfl]at h ⊢;have g:(-x)%(y.natAbs:Int)=0:=by rcases h with h|h;cases h;exact h
  have i:x%(y.natAbs:Int)=0:=by
   have:=Int.dvd_of_emod_eq_zero g;exact Int.emod_eq_zero_of_dvd (by simpa using Int.dvd_neg.2 this)
  refine⟨?_,by rw[g,i]⟩;have k:(-x)/(y.natAbs:Int) = -(x/(y.natAbs:Int)):=by
   apply Int.ediv_eq_of_eq_mul_left f;rw[Int.neg_mul,Int.ediv_mul_cancel (Int.dvd_of_emod_eq_zero i)]
  simp[sg,k]
def Wx(w:V)(q r:Int)(e:Ending)(w':V):Prop:=∃vq vr,e=.returned (F #[vq,vr,C .i64 0])/\vd w' vq q/\vd w' vr r/\Ba w w'
def Pm.ext{w:V}{d:J}{e:Bool}{q r:Int}{W W':V}(h:Pm w d e q r W)(k:Ba W W'):Pm w d e q r W':=by obtain⟨l,o,f,x,i,z,g,y,j,K,p,t,u,h6⟩:=h;exact⟨l.trans k,k.e o,f,x,i,z,g,y,j,K,k.e p,t.ext k,k.e u,h6.ext k⟩
def Oj{W:V}{g:Nat}{x y:J}{T:TypeId}{d:Nat×Nat}(h:W.heap[g]?=I (N #[x,y] T d))(u v:J):((W.setCell ⟨g,0,X⟩ u).setCell ⟨g,1,X⟩ v).heap[g]?=I (N #[u,v] T d):=by simp[World.setCell,Array.getElem?_modify,h]
def Tn{W:V}{g i:Nat}{v:J}(h:W.cell? ⟨g,i,X⟩=I v):W.setCell ⟨g,i,X⟩ v=W:=by
 have e:(W.setCell ⟨g,i,X⟩ v).heap=W.heap:=by
  apply Array.ext_getElem?;intro k;by_cases f:k=g
  ·subst f;simp only[World.setCell,Array.getElem?_modify,if_pos];unfold World.cell? at h;cases hw:W.heap[k]? with
   | none=>rfl
   | some o =>
    cases o with
    | cells d T p =>
     simp[hw]at h;have:d.setIfInBounds i v=d:=by
      apply Array.ext_getElem?;intro j;rw[Array.getElem?_setIfInBounds];split
      ·subst_vars
       split
       ·exact h.symm
       ·rename_i h2;rw[Array.getElem?_eq_none oM]
      ·rfl
     simp[this]
    | _=>simp
  ·exact bS _ _ _ _ f
 have l:W.setCell ⟨g,i,X⟩ v={ W with heap:=(W.setCell ⟨g,i,X⟩ v).heap }:=rfl;rw[l,e]
def Ca{W:V}{g:Nat}{cs:Array J}{T:TypeId}{d:Nat×Nat}(h:W.heap[g]?=I (N cs T d)){i:Nat}{u:J}(e:cs[i]?=I u):W.cell? ⟨g,i,X⟩=I u:=by simp[World.cell?,h,e]
def Ua{W:V}{g:Nat}{cs:Array J}{T:TypeId}(h:W.heap[g]?=I (N cs T (0,0)))(i:Nat):W.frozen? ⟨g,i,X⟩=false:=by simp[World.frozen?,h]
def Pm.setQ{w:V}{d:J}{o:Bool}{q l r:Int}{W:V}(h:Pm w d o q r W){a:Option Addr}{m c:Nat}{s:Bool}(z:vd W (Z #[O a m c,Y s]) l):Pm w d o l r ((W.setCell ⟨w.heap.size+1+1,0,X⟩ (O a m c)).setCell ⟨w.heap.size+1+1,1,X⟩ (Y s)):=by
 obtain⟨u,x,Q,mq,R,sq,p,K,t,P,g,h4,y,h6⟩:=h;have f:∀k,k≠w.heap.size+1+1->((W.setCell ⟨w.heap.size+1+1,0,X⟩ (O a m c)).setCell ⟨w.heap.size+1+1,1,X⟩ (Y s)).heap[k]?=W.heap[k]?:=fun k f=>by rw[bS _ _ _ _ f,bS _ _ _ _ f]
 have j:ld 2 W (w.heap.size+1+1):=fun S T e=>by rw[g]at e;cases e
 have i:Ia 2 W ((W.setCell ⟨w.heap.size+1+1,0,X⟩ (O a m c)).setCell ⟨w.heap.size+1+1,1,X⟩ (Y s)):=((Ia.refl _ W).x j _).x (j.set _ _) _;exact⟨(u.set dO _).set dO _,(f _ oM).trans x,a,m,c,s,p,K,t,P,Oj g _ _,z.keep i,(f _ oM).trans y,h6.keep i⟩
def Vv(w:V)(va vb:J)(x y:Int)(ha:vd w va x)(hb:vd w vb y)(au:Lm Ed x)(av:Lm Ed y)(hy:y≠0)(aT:0<=x\/y ∣ x):Calls Tryz.prog 134 #[va,vb] w (Wx w (x/y) (x%y)):=by
 obtain⟨a,m,c,s,rfl⟩:=ha.form;obtain⟨K,Q,P,t,rfl⟩:=hb.form;have an:=Aa ha.sgn;have aM:=Aa hb.sgn;have aQ:=ha.dig;have ap:=hb.dig;have aK:=Aa au.abs;have aL:=Aa av.abs;have bB:((y.natAbs:Int)==0)=false:=by simp;omega
 have aU:0<(y.natAbs:Int):=oM;clear au av ha;go_in;go_wp2_with(first|((go_at_call 166;(with_reducible refine(Rj _ (Z #[O K Q P]) y.natAbs ?_).mono ?_);(refine ap.ext ?_;exact eA);rintro e w1 ⟨rfl,aA⟩;obtain⟨⟨bq,bv⟩,aZ,a0,a1,a6⟩:=Zr w aA))|((go_at_call 182;(with_reducible refine(tC _ (Z #[O a m c]) (Z #[O K Q P]) x.natAbs y.natAbs ?_ ?_ aK.o aL.o aU).mono ?_);(refine aQ.ext ?_;exact eA);(refine ap.ext ?_;exact eA);rintro e R ⟨r2,r3,rfl,ax,aj,aS⟩;obtain⟨a2,m2,c2,rfl⟩:=ax.u.form;obtain⟨a3,m3,c3,rfl⟩:=aj.u.form;obtain⟨⟨br,bw⟩,a7,a8,ba,bb⟩:=Zr w aS;have aC:w.heap.size<R.heap.size+1:=oM;have aD:w.heap.size<R.heap.size+1+1:=oM;have aE:w.heap.size+1<R.heap.size+1:=oM;have aF:w.heap.size+1<R.heap.size+1+1:=oM;have aG:w.heap.size+1+1<R.heap.size+1:=oM;have aH:w.heap.size+1+1<R.heap.size+1+1:=oM;have aI:w.heap.size+1+1+1<R.heap.size+1:=oM;have aJ:w.heap.size+1+1+1<R.heap.size+1+1:=oM)));go_region_held3 (fun W=>W.cell? ⟨w.heap.size,1,X⟩=I (Y s)/\W.cell? ⟨R.heap.size,0,X⟩=I (O a2 m2 c2)/\W.cell? ⟨R.heap.size+1,0,X⟩=I (O a3 m3 c3)) ((repeat' (with_reducible refine And.intro ?_ ?_))<;>(first|(go_simp;done)|(refine aA.d ?_;go_simp;done))) (first|((go_at_call 183;(with_reducible refine(qr _ s (Z #[O a2 m2 c2]) ((x.natAbs:Int)/(y.natAbs:Int)) ?_).mono ?_);(refine ax.u.ext ?_;exact eA);rintro e w3 ⟨r4,rfl,ay,ak⟩;obtain⟨a4,m4,c4,s4,rfl⟩:=ay.form;obtain⟨⟨bs,bx⟩,bc,be,bf,bg⟩:=Zr w ak;have aV:=ak.lt (n:=R.heap.size) (by go_simp);have aW:=ak.lt (n:=R.heap.size+1) (by go_simp)))|((go_at_call 183;(with_reducible refine(qr _ false (Z #[O a3 m3 c3]) ((x.natAbs:Int)%(y.natAbs:Int)) ?_).mono ?_);(refine aj.u.ext ?_;exact eA);rintro e g ⟨r5,rfl,az,al⟩;obtain⟨a5,m5,c5,s5,rfl⟩:=az.form;obtain⟨⟨bt,bz⟩,bh,bi,bj,bk⟩:=Zr w al;have aX:=al.lt (n:=R.heap.size) (by go_simp);have aY:=al.lt (n:=R.heap.size+1) (by go_simp))));have ao:=aj.u.ext (w':=g) eA;have S:Ba ((((w.alloc (N #[O a m c,Y s] 61)).alloc (N #[O K Q P,Y t] 61)).alloc (N #[O X 0 0,Y false] 61)).alloc (N #[O X 0 0,Y false] 61)) g:=eA;have aw:Pm w (O K Q P) t (sg s ((x.natAbs:Int)/(y.natAbs:Int))) ((x.natAbs:Int)%(y.natAbs:Int)) ((((g.setCell ⟨w.heap.size+1+1,0,X⟩ (O a4 m4 c4)).setCell ⟨w.heap.size+1+1,1,X⟩ (Y s4)).setCell ⟨w.heap.size+1+1+1,0,X⟩ (O a5 m5 c5)).setCell ⟨w.heap.size+1+1+1,1,X⟩ (Y s5)):=by
  have S:Ba ((((w.alloc (N #[O a m c,Y s] 61)).alloc (N #[O K Q P,Y t] 61)).alloc (N #[O X 0 0,Y false] 61)).alloc (N #[O X 0 0,Y false] 61)) g:=eA;have e1:g.heap[w.heap.size+1]?=I (N #[O K Q P,Y t] 61 (0,0)):=S.e (by rw[Ag,Ag,Ag];simp);have e2:g.heap[w.heap.size+1+1]?=I (N #[O X 0 0,Y false] 61 (0,0)):=S.e (by rw[Ag,Ag];simp);have e3:g.heap[w.heap.size+1+1+1]?=I (N #[O X 0 0,Y false] 61 (0,0)):=S.e (by rw[Ag];simp);have k1:∀k,k≠w.heap.size+1+1->((g.setCell ⟨w.heap.size+1+1,0,X⟩ (O a4 m4 c4)).setCell ⟨w.heap.size+1+1,1,X⟩ (Y s4)).heap[k]?=g.heap[k]?:=fun k hk=>by rw[bS _ _ _ _ hk,bS _ _ _ _ hk]
  have k2:∀(W:V) k,k≠w.heap.size+1+1+1->((W.setCell ⟨w.heap.size+1+1+1,0,X⟩ (O a5 m5 c5)).setCell ⟨w.heap.size+1+1+1,1,X⟩ (Y s5)).heap[k]?=W.heap[k]?:=fun W k hk=>by rw[bS _ _ _ _ hk,bS _ _ _ _ hk]
  have n2:ld 2 g (w.heap.size+1+1):=fun cs fr e=>by rw[e2]at e;cases e
  have n3:ld 2 g (w.heap.size+1+1+1):=fun cs fr e=>by rw[e3]at e;cases e
  have hK:Ia 2 g ((((g.setCell ⟨w.heap.size+1+1,0,X⟩ (O a4 m4 c4)).setCell ⟨w.heap.size+1+1,1,X⟩ (Y s4)).setCell ⟨w.heap.size+1+1+1,0,X⟩ (O a5 m5 c5)).setCell ⟨w.heap.size+1+1+1,1,X⟩ (Y s5)):=
   ((((Ia.refl _ g).x n2 _).x (n2.set _ _) _).x ((n3.set _ _).set _ _) _).x (((n3.set _ _).set _ _).set _ _) _
  exact⟨eA,((k2 _ _ oM).trans (k1 _ oM)).trans e1,a4,m4,c4,s4,a5,m5,c5,s5,(k2 _ _ oM).trans (Oj e2 _ _),(ay.ext eA).keep hK,Oj ((k1 _ oM).trans e3) _ _,az.keep hK⟩
 have aO:Jd ((((g.setCell ⟨w.heap.size+1+1,0,X⟩ (O a4 m4 c4)).setCell ⟨w.heap.size+1+1,1,X⟩ (Y s4)).setCell ⟨w.heap.size+1+1+1,0,X⟩ (O a5 m5 c5)).setCell ⟨w.heap.size+1+1+1,1,X⟩ (Y s5)) (Z #[O a3 m3 c3]) ((x.natAbs:Int)%(y.natAbs:Int)):=by
  refine ao.keep ?_;have e2:g.heap[w.heap.size+1+1]?=I (N #[O X 0 0,Y false] 61 (0,0)):=S.e (by rw[Ag,Ag];simp);have e3:g.heap[w.heap.size+1+1+1]?=I (N #[O X 0 0,Y false] 61 (0,0)):=S.e (by rw[Ag];simp);have n2:ld 2 g (w.heap.size+1+1):=fun cs fr e=>by rw[e2]at e;cases e
  have n3:ld 2 g (w.heap.size+1+1+1):=fun cs fr e=>by rw[e3]at e;cases e
  exact((((Ia.refl _ g).x n2 _).x (n2.set _ _) _).x ((n3.set _ _).set _ _) _).x (((n3.set _ _).set _ _).set _ _) _
 have am:=Aa aw;clear aw;by_cases hA:s=false\/(x.natAbs:Int)%(y.natAbs:Int)=0
 ·have ai:=pI s t an.o aM.o hy hA;have z:=Aa ai;clear ai;cases s
  ·go_upto_if 34 with fail;go_cut [38] (pF w (O K Q P) t x y)
   case first =>
    go_wp2;go_meet;exact⟨_,by rw[<-z.o.2];exact am.o,z.o.1⟩
   case rest =>
    obtain⟨q,hS,hq⟩:=hcut;have HS:=Aa hS;obtain⟨hx,j,aq,mq,cq,sq,ar,mr,cr,sr,d,h4,f,h6⟩:=hS;have b0:=Ca j (i:=0) (u:=O K Q P) rfl;have b1:=Ca j (i:=1) (u:=Y t) rfl;have q0:=Ca d (i:=0) (u:=O aq mq cq) rfl;have q1:=Ca d (i:=1) (u:=Y sq) rfl;have r0:=Ca f (i:=0) (u:=O ar mr cr) rfl;have r1:=Ca f (i:=1) (u:=Y sr) rfl;have aa:=Ua d 0;have ab:=Ua d 1;have ac:=Ua f 0;have ad:=Ua f 1;have ag:=Gb d;have ah:=Gb f;have T:=Aa j;clear d f j;go_upto_if 43 with fail;go_cut [44] (fun _ W=>Pm w (O K Q P) t (x/y) (x%y) W)
    case first =>
     cases t
     ·go_wp2;go_meet;simp at hq;rw[<-hq];exact HS.o
     ·go_wp2_with(first|((go_at_call 186;(with_reducible refine(Mt _ (Z #[O aq mq cq,Y sq]) q ?_).mono ?_);(refine h4.ext ?_;exact eA);rintro e w9 ⟨r9,rfl,ae,af⟩;obtain⟨a9,m9,c9,s9,rfl⟩:=ae.form;obtain⟨aP,aR⟩:=af.cells)));go_meet;simp at hq;rw[<-hq];exact(HS.o.ext af).setQ ae
    case rest =>
     clear hx h4 h6 b0 b1 q0 q1 r0 r1 aa ab ac ad ag ah HS hq T;obtain⟨wd,rfl⟩:∃W,W=wc:=⟨_,rfl⟩;have hS:=hcut;have HS:=Aa hS;obtain⟨hx,j,aq,mq,cq,sq,ar,mr,cr,sr,d,h4,f,h6⟩:=hS;have b0:=Ca j (i:=0) (u:=O K Q P) rfl;have b1:=Ca j (i:=1) (u:=Y t) rfl;have q0:=Ca d (i:=0) (u:=O aq mq cq) rfl;have q1:=Ca d (i:=1) (u:=Y sq) rfl;have r0:=Ca f (i:=0) (u:=O ar mr cr) rfl;have r1:=Ca f (i:=1) (u:=Y sr) rfl;have aa:=Ua d 0;have ab:=Ua d 1;have ac:=Ua f 0;have ad:=Ua f 1;have ag:=Gb d;have ah:=Gb f;have T:=Aa j;clear d f j;have l:=Tn q0;have o:=Tn q1;have p:=Tn r0;have r:=Tn r1;go_wp2
     go_region_with (fail)
     all_goals go_wp2
     all_goals exact bR (v:=F #[Z #[O aq mq cq,Y sq],Z #[O ar mr cr,Y sr],C .i64 0]) (by simp[results,Tryz.results134,go_sem,q0,q1,r0,r1,l,o,p,r]) rfl ⟨_,_,rfl,by(try simp only[l,o,p,r]);exact h4.ext eA,by(try simp only[l,o,p,r]);exact h6.ext eA,by(try simp only[l,o,p,r]);(repeat(first|with_reducible assumption|with_reducible refine Ba.drew ?_))⟩
  ·have h0:(x.natAbs:Int)%(y.natAbs:Int)=0:=by simpa using hA
   have bp:((x.natAbs:Int)%(y.natAbs:Int)==0)=true:=by simpa using h0
   have H0:=Aa h0;clear h0 hA;go_upto_if 34 with (first|((go_at_call 166;(with_reducible refine(Rj _ (Z #[O a3 m3 c3]) ((x.natAbs:Int)%(y.natAbs:Int)) ?_).mono ?_);(refine aO.ext ?_;exact eA);rintro e w5 ⟨rfl,aB⟩;obtain⟨⟨bu,bA⟩,bl,bm,bn,bo⟩:=Zr w aB)));go_cut [38] (pF w (O K Q P) t x y)
   case first =>
    go_wp2;go_meet;exact⟨_,by rw[<-z.o.2];exact am.o.ext aB,z.o.1⟩
   case rest =>
    obtain⟨q,hS,hq⟩:=hcut;have HS:=Aa hS;obtain⟨hx,j,aq,mq,cq,sq,ar,mr,cr,sr,d,h4,f,h6⟩:=hS;have b0:=Ca j (i:=0) (u:=O K Q P) rfl;have b1:=Ca j (i:=1) (u:=Y t) rfl;have q0:=Ca d (i:=0) (u:=O aq mq cq) rfl;have q1:=Ca d (i:=1) (u:=Y sq) rfl;have r0:=Ca f (i:=0) (u:=O ar mr cr) rfl;have r1:=Ca f (i:=1) (u:=Y sr) rfl;have aa:=Ua d 0;have ab:=Ua d 1;have ac:=Ua f 0;have ad:=Ua f 1;have ag:=Gb d;have ah:=Gb f;have T:=Aa j;clear d f j;go_upto_if 43 with fail;go_cut [44] (fun _ W=>Pm w (O K Q P) t (x/y) (x%y) W)
    case first =>
     cases t
     ·go_wp2;go_meet;simp at hq;rw[<-hq];exact HS.o
     ·go_wp2_with(first|((go_at_call 186;(with_reducible refine(Mt _ (Z #[O aq mq cq,Y sq]) q ?_).mono ?_);(refine h4.ext ?_;exact eA);rintro e w9 ⟨r9,rfl,ae,af⟩;obtain⟨a9,m9,c9,s9,rfl⟩:=ae.form;obtain⟨aP,aR⟩:=af.cells)));go_meet;simp at hq;rw[<-hq];exact(HS.o.ext af).setQ ae
    case rest =>
     clear hx h4 h6 b0 b1 q0 q1 r0 r1 aa ab ac ad ag ah HS hq T;obtain⟨wd,rfl⟩:∃W,W=wc:=⟨_,rfl⟩;have hS:=hcut;have HS:=Aa hS;obtain⟨hx,j,aq,mq,cq,sq,ar,mr,cr,sr,d,h4,f,h6⟩:=hS;have b0:=Ca j (i:=0) (u:=O K Q P) rfl;have b1:=Ca j (i:=1) (u:=Y t) rfl;have q0:=Ca d (i:=0) (u:=O aq mq cq) rfl;have q1:=Ca d (i:=1) (u:=Y sq) rfl;have r0:=Ca f (i:=0) (u:=O ar mr cr) rfl;have r1:=Ca f (i:=1) (u:=Y sr) rfl;have aa:=Ua d 0;have ab:=Ua d 1;have ac:=Ua f 0;have ad:=Ua f 1;have ag:=Gb d;have ah:=Gb f;have T:=Aa j;clear d f j;have l:=Tn q0;have o:=Tn q1;have p:=Tn r0;have r:=Tn r1;go_wp2
     go_region_with (fail)
     all_goals go_wp2
     all_goals exact bR (v:=F #[Z #[O aq mq cq,Y sq],Z #[O ar mr cr,Y sr],C .i64 0]) (by simp[results,Tryz.results134,go_sem,q0,q1,r0,r1,l,o,p,r]) rfl ⟨_,_,rfl,by(try simp only[l,o,p,r]);exact h4.ext eA,by(try simp only[l,o,p,r]);exact h6.ext eA,by(try simp only[l,o,p,r]);(repeat(first|with_reducible assumption|with_reducible refine Ba.drew ?_))⟩
 ·exfalso;rcases aT with h|h
  ·exact hA (.inl (by rw[an.o];simp;omega))
  ·exact hA (.inr (Int.emod_eq_zero_of_dvd (by simpa using Int.natAbs_dvd.2 (Int.dvd_natAbs.2 h))))
def Ab(w:V)(v:J)(q:Rat):Prop:=
 ∃a m c s a2 m2 c2,v=Z #[O a m c,Y s,O a2 m2 c2]/\vd w (Z #[O a m c,Y s]) q.num/\Jd w (Z #[O a2 m2 c2]) ((q.den:Int)-1)
section
variable {w w':V} {v:J} {q:Rat} {a a2:Option Addr} {m c m2 c2:Nat} {s:Bool}
def Ab.ext(h:Ab w v q)(k:Ba w w'):Ab w' v q:=by obtain⟨a,m,c,s,a2,m2,c2,rfl,d,e⟩:=h;exact⟨a,m,c,s,a2,m2,c2,rfl,d.ext k,e.ext k⟩
def Ab.keep(h:Ab w v q)(k:Ia 2 w w'):Ab w' v q:=by obtain⟨a,m,c,s,a2,m2,c2,rfl,d,e⟩:=h;exact⟨a,m,c,s,a2,m2,c2,rfl,d.keep k,e.keep k⟩
def Ab.form(h:Ab w v q):∃a m c s a2 m2 c2,v=Z #[O a m c,Y s,O a2 m2 c2]:=by obtain⟨a,m,c,s,a2,m2,c2,rfl,d,e⟩:=h;exact⟨a,m,c,s,a2,m2,c2,rfl⟩
def Ab.top(h:Ab w (Z #[O a m c,Y s,O a2 m2 c2]) q):vd w (Z #[O a m c,Y s]) q.num:=by obtain⟨a,m,c,s,a2,m2,c2,e,d,f⟩:=h;cases e;exact d
def Ab.rest(h:Ab w (Z #[O a m c,Y s,O a2 m2 c2]) q):Jd w (Z #[O a2 m2 c2]) ((q.den:Int)-1):=by obtain⟨a,m,c,s,a2,m2,c2,e,f,d⟩:=h;cases e;exact d
def Ab.mk(d:vd w (Z #[O a m c,Y s]) q.num)(e:Jd w (Z #[O a2 m2 c2]) ((q.den:Int)-1)):Ab w (Z #[O a m c,Y s,O a2 m2 c2]) q:=
 ⟨_,_,_,_,_,_,_,rfl,d,e⟩
def Jd.nil(w:V):Jd w (Z #[O X 0 0]) 0:=⟨_,[],rfl,Pc.nil _ _,yg.nil _,rfl⟩
def Ab.zero(w:V):Ab w (Z #[O X 0 0,Y false,O X 0 0]) 0:=Ab.mk (vd.nil w) (Jd.nil w)
end
def Rb(k:Nat)(q:Rat):Prop:=Lm k q.num/\Lm k (q.den:Int)
def Rb.mono{j k:Nat}{q:Rat}(h:Rb j q)(d:j<=k):Rb k q:=⟨h.1.mono d,h.2.mono d⟩
def Pf(w:V)(q:Rat)(e:Ending)(w':V):Prop:=∃r,e=.returned r/\Ab w' r q/\Ba w w'
def Dc:Nat:=1000000
def Yf(q:Rat):0<(q.den:Int):=by have:=q.den_pos;omega
def Jp{k:Nat}(d:1<=k):Lm k 1:=Lm.mono (j:=1) (by unfold Lm B;omega) d
def jr(w:V)(v:J)(q:Rat)(h:Ab w v q):Calls Tryz.prog 93 #[v] w fun e w'=>e=.returned (C .i64 q.num.sign)/\Ba w w':=by obtain⟨a,m,c,s,a2,m2,c2,rfl⟩:=h.form;go_in;go_wp2_with(((go_at_call 163;(with_reducible refine(IL _ (Z #[O a m c,Y s]) q.num ?_).mono ?_);(refine h.top.ext ?_;exact eA);rintro e j ⟨rfl,d⟩;obtain⟨⟨g,i⟩,f⟩:=Md w d)));go_ret;exact⟨rfl,eA⟩
def sw(w:V)(v:J)(q:Rat)(h:Ab w v q)(o:Rb Dc q):Calls Tryz.prog 135 #[v] w (Qg w (q.den:Int)):=by
 obtain⟨a,m,c,s,a2,m2,c2,rfl⟩:=h.form;have R:=Yf q;have u:Sa (Lm Rc ((q.den:Int)-1)):=Aa ((o.2.mono dM).le oM oM);have t:Sa (Lm Rc 1):=Aa (Jp dM);have hr:=h.rest;clear o h;go_in;go_wp2;go_region_held3 (fun W=>W.cell? ⟨w.heap.size,2,X⟩=I (O a2 m2 c2)) ((repeat' (with_reducible refine And.intro ?_ ?_))<;>(first|(go_simp;done)|(refine hx1.d ?_;go_simp;done))) (first|((go_at_call 188;(with_reducible refine(nz _ 1 dM dM).mono ?_);rintro e w1 ⟨r1,rfl,d,hx1,P⟩;obtain⟨x,m1,z,rfl⟩:=d.u.form;obtain⟨⟨j,S⟩,p,g⟩:=Zb w hx1))|((go_at_call 187;(with_reducible refine(Cn _ (Z #[O a2 m2 c2]) (Z #[O x m1 z]) ((q.den:Int)-1) 1 1 ?_ ?_ u.o t.o dM oM).mono ?_);(refine hr.ext ?_;exact eA);(refine d.u.ext ?_;exact eA);rintro e w2 ⟨r2,rfl,f,l,Q⟩;obtain⟨y,m3,K,rfl⟩:=f.u.form;obtain⟨⟨k,T⟩,r,i⟩:=Zb w l)))
 all_goals go_wp2
 refine bR (v:=Z #[O y m3 K,Y false]) (by simp[results,Tryz.results135,go_sem,j,k,g,i]) rfl ⟨_,rfl,vd.keep (w:=w2) ?_ kA,eA,dA⟩;refine⟨_,_,_,_,rfl,by simp,?_⟩;have e:(((q.den:Int).natAbs:Nat):Int)=(q.den:Int)-1+1*1:=oM;rw[e];exact f.u
def Xn(w:V)(v:J)(q:Rat)(h:Ab w v q)(d:Rb Dc q):Calls Tryz.prog 135 #[v] w (nj w (q.den:Int)):=Nl (sw w v q h d)
def CN(w:V)(v:J)(n:Int)(h:vd w v n):Calls Tryz.prog 200 #[v] w (Pf w (n:Rat)):=by obtain⟨a,m,c,s,rfl⟩:=h.form;go_in;go_wp2;exact bR (v:=Z #[O a m c,Y s,O X 0 0]) (by simp[results,Tryz.results200,go_sem]) rfl ⟨_,rfl,Ab.mk (h.ext eA) (Jd.nil _),eA⟩
def nI(w:V)(n:Int)(x:-9223372036854775808<=n)(y:n<=9223372036854775807):Calls Tryz.prog 154 #[C .i64 n] w (Pf w (n:Rat)):=by go_in;go_wp2_with(first|((go_at_call 137;(with_reducible refine(Rq _ n x y).mono ?_);rintro e w1 ⟨T,rfl,d,l⟩;obtain⟨p,P,t,R,rfl⟩:=d.form;obtain⟨⟨j,z⟩,g⟩:=Md w l))|((go_at_call 200;(with_reducible refine(CN _ (Z #[O p P t,Y R]) n d).mono ?_);rintro e w2 ⟨r2,rfl,f,o⟩;obtain⟨a2,m2,c2,S,r,Q,u,rfl⟩:=f.form;obtain⟨⟨k,K⟩,i⟩:=Md w o)));exact bR (v:=Z #[O a2 m2 c2,Y S,O r Q u]) (by simp[results,Tryz.results154,go_sem,j,k,g,i]) rfl ⟨_,rfl,f.keep kA,eA⟩
def pK(w:V)(v:J)(q:Rat)(h:Ab w v q):Calls Tryz.prog 177 #[v] w (Pf w (-q)):=by
 obtain⟨a,m,c,s,a2,m2,c2,rfl⟩:=h.form;go_in;go_wp2;go_region_held3 (fun W=>W.cell? ⟨w.heap.size,0,X⟩=I (O a m c)/\W.cell? ⟨w.heap.size,1,X⟩=I (Y s)/\W.cell? ⟨w.heap.size,2,X⟩=I (O a2 m2 c2)) ((repeat' (with_reducible refine And.intro ?_ ?_))<;>(first|(go_simp;done)|(refine hx1.d ?_;go_simp;done))) (((go_at_call 186;(with_reducible refine(Mt _ (Z #[O a m c,Y s]) q.num ?_).mono ?_);(refine h.top.ext ?_;exact eA);rintro e t ⟨r,rfl,d,hx1⟩;obtain⟨j,o,k,p,rfl⟩:=d.form;obtain⟨⟨g,l⟩,i,f⟩:=Zb w hx1)))
 all_goals go_wp2
 exact bR (v:=Z #[O j o k,Y p,O a2 m2 c2]) (by simp[results,Tryz.results177,go_sem,g,f]) rfl ⟨_,rfl,Ab.keep (Ab.mk d (h.rest.ext eA)) kA,eA⟩
def rg(n d:Int):Int:=if d<0 then -(Int.gcd n d:Int)else (Int.gcd n d:Int)
def oB{n d:Int}(g:d≠0):rg n d≠0/\rg n d ∣ n/\rg n d ∣ d/\n/rg n d=(Rat.divInt n d).num/\d/rg n d=((Rat.divInt n d).den:Int):=by
 have i:0<Int.gcd n d:=Int.gcd_pos_of_ne_zero_right n g;have f:(Int.gcd n d:Int) ∣ n:=Int.gcd_dvd_left ..;have e:(Int.gcd n d:Int) ∣ d:=Int.gcd_dvd_right ..;rw[Rat.num_divInt,Rat.den_divInt,if_neg g,Int.gcd_comm d n];unfold rg;by_cases h:d<0
 ·rw[if_pos h];refine⟨by omega,Int.neg_dvd.2 f,Int.neg_dvd.2 e,?_,?_⟩
  ·rw[Int.sign_eq_neg_one_of_neg h,Int.ediv_neg,Int.neg_mul,Int.one_mul,Int.neg_ediv_of_dvd f]
  ·rw[Int.ediv_neg,Int.natCast_ediv,Int.ofNat_natAbs_of_nonpos oM,Int.neg_ediv_of_dvd e]
 ·rw[if_neg h];refine⟨by omega,f,e,?_,?_⟩
  ·rw[Int.sign_eq_one_of_pos oM,Int.one_mul]
  ·rw[Int.natCast_ediv,Int.natAbs_of_nonneg oM]
def AF{k:Nat}{n d:Int}(g:d≠0)(h:Lm k d):Lm k (rg n d):=by
 have e:(Int.gcd n d:Int)<=d.natAbs:=Int.le_of_dvd oM (Int.dvd_natAbs.2 (Int.gcd_dvd_right ..));have f:0<=(Int.gcd n d:Int):=Int.natCast_nonneg _;unfold rg Lm at *
 split<;>omega
def Iq{n d:Int}(e:d≠0){k:Nat}(h:Lm k d):Lm k ((Rat.divInt n d).den:Int):=by
 have f:(Rat.divInt n d).den<=d.natAbs:=by
  rw[Rat.den_divInt,if_neg e];exact Nat.div_le_self _ _
 unfold Lm at *;omega
def mt{n d:Int}(e:d≠0){k:Nat}(h:Lm k n):Lm k (Rat.divInt n d).num:=by
 have f:(Rat.divInt n d).num.natAbs<=n.natAbs:=by
  rw[Rat.num_divInt,Int.natAbs_ediv_of_dvd]
  ·rw[Int.natAbs_mul];have:d.sign.natAbs=1:=by rw[Int.natAbs_sign];simp[e]
   rw[this,Nat.one_mul];exact Nat.div_le_self _ _
  ·exact Int.dvd_trans (Int.gcd_dvd_right ..) (Int.dvd_mul_left ..)
 unfold Lm at *;omega
def ZB(W:V)(b:Nat)(n:Int):Prop:=∃a m c s,W.heap[b]?=I (N #[O a m c,Y s] 61 (0,0))/\vd W (Z #[O a m c,Y s]) n
section
variable {W W':V} {b b':Nat} {n n':Int}
def ZB.ext(h:ZB W b n)(k:Ba W W'):ZB W' b n:=by obtain⟨a,m,c,s,d,e⟩:=h;exact⟨a,m,c,s,k.e d,e.ext k⟩
def ZB.not(h:ZB W b n):ld 2 W b:=by obtain⟨a,m,c,s,d,i⟩:=h;intro f g e;rw[d]at e;cases e
def ZB.rd(h:ZB W b n):∃a m c s,W.cell? ⟨b,0,X⟩=I (O a m c)/\W.cell? ⟨b,1,X⟩=I (Y s)/\W.frozen? ⟨b,0,X⟩=false/\W.frozen? ⟨b,1,X⟩=false/\b<W.heap.size/\vd W (Z #[O a m c,Y s]) n:=by obtain⟨a,m,c,s,d,e⟩:=h;exact⟨a,m,c,s,Ca d (i:=0) rfl,Ca d (i:=1) rfl,Ua d 0,Ua d 1,Gb d,e⟩
def ZB.put{a:Option Addr}{m c:Nat}{s:Bool}(h:ZB W b n)(f:vd W (Z #[O a m c,Y s]) n'):ZB ((W.setCell ⟨b,0,X⟩ (O a m c)).setCell ⟨b,1,X⟩ (Y s)) b n':=by have d:=h.not;obtain⟨g,k,i,l,e,j⟩:=h;exact⟨a,m,c,s,Oj e _ _,f.keep (((Ia.refl _ W).x d _).x (d.set _ _) _)⟩
def ZB.other{p:Addr}(h:ZB W b n)(g:p.block≠b)(i:ld 2 W p.block)(u:J):ZB (W.setCell p u) b n:=by obtain⟨a,m,c,s,d,f⟩:=h;exact⟨a,m,c,s,(bS _ _ _ _ (fun e=>g e.symm)).trans d,f.keep ((Ia.refl _ W).x i _)⟩
def ZB.new{W0:V}{a:Option Addr}{m c:Nat}{s:Bool}(e:vd W0 (Z #[O a m c,Y s]) n)(d:b=W0.heap.size):ZB (W0.alloc (N #[O a m c,Y s] 61)) b n:=
 ⟨a,m,c,s,Ec _ _ _ d,e.ext ((eR _).alloc _)⟩
end
def nF(w:V)(e:Nat)(n d g:Int)(_:J)(W:V):Prop:=
 Ba w W/\ZB W w.heap.size n/\ZB W (w.heap.size+1) d/\W.heap[w.heap.size+1+1]?=I (N #[O X 0 0,Y false,O X 0 0] 63 (0,0))/\ZB W e g
def tw(w:V)(va vb:J)(n d:Int)(ha:vd w va n)(hb:vd w vb d)(z:Lm Ed n)(j:Lm Ed d)(hd:d≠0):Calls Tryz.prog 178 #[va,vb] w (Pf w (Rat.divInt n d)):=by
 obtain⟨a,m,c,s,rfl⟩:=ha.form;obtain⟨a',m',c',s',rfl⟩:=hb.form;have aa:=Aa hb.sgn;obtain⟨ac,ae,ad,aj,ai⟩:=oB (n:=n) hd;have aB:=Aa z;have aA:=Aa j;have S:=Aa (AF (n:=n) hd j);have T:Sa (Lm Rc n):=Aa (z.mono dM);have R:Sa (Lm Rc d):=Aa (j.mono dM);have aG:=Aa aj;have aF:=Aa ai;have aE:=Aa ae;have aD:=Aa ad;have aC:Sa (Lm Rc ((Rat.divInt n d).den:Int)):=Aa (Iq hd (j.mono dM));have H1:Sa (Lm Rc 1):=Aa (Jp dM);have bn:=Yf (Rat.divInt n d);clear z j aj ai ae ad;go_in;go_upto_if 10 with (((go_at_call 225;(with_reducible refine(QI _ (Z #[O a m c,Y s]) (Z #[O a' m' c',Y s']) n d ?_ ?_ T.o R.o).mono ?_);(refine ha.ext ?_;exact eA);(refine hb.ext ?_;exact eA);rintro e g ⟨r1,rfl,x,k⟩;obtain⟨a1,m1,c1,s1,rfl⟩:=x.form;obtain⟨⟨aH,aM⟩,an,ao,au⟩:=Yb w k;have p:w.heap.size<g.heap.size+1:=oM;have r:w.heap.size+1<g.heap.size+1:=oM;have t:w.heap.size+1+1<g.heap.size+1:=oM)));have y:nF w g.heap.size n d (Int.gcd n d:Nat) (Y true) (g.alloc (N #[O a1 m1 c1,Y s1] 61)):=by
  refine⟨eA,?_,?_,?_,ZB.new x rfl⟩
  ·refine ZB.ext (W:=w.alloc (N #[O a m c,Y s] 61)) (ZB.new ha rfl) eA
  ·refine ZB.ext (W:=(w.alloc (N #[O a m c,Y s] 61)).alloc (N #[O a' m' c',Y s'] 61)) (ZB.new (hb.ext eA) sM) eA
  ·exact(k.y ((Below.refl _ _).alloc (nE _) _) k.size).e (by rw[Ag];simp)
 go_cut [11] (nF w g.heap.size n d (rg n d))
 case first =>
  cases s'
  ·have e:rg n d=(Int.gcd n d:Nat):=by have:=aa.o;unfold rg;rw[if_neg (by simpa using this)]
   have E:=Aa e;clear e;go_wp2;go_meet;rw[E.o];exact y
  ·have e:rg n d = -((Int.gcd n d:Nat):Int):=by have:=aa.o;unfold rg;rw[if_pos (by simpa using this)]
   have E:=Aa e;clear e;go_wp2_with(((go_at_call 186;(with_reducible refine(Mt _ (Z #[O a1 m1 c1,Y s1]) (Int.gcd n d:Nat) ?_).mono ?_);(refine x.ext ?_;exact eA);rintro e w2 ⟨r2,rfl,ak,f⟩;obtain⟨a2,m2,c2,s2,rfl⟩:=ak.form;obtain⟨⟨bm,bo⟩,aW,aX,aY⟩:=Yb w f;have aU:=f.lt (n:=g.heap.size) (by go_simp))));go_meet;rw[E.o];obtain⟨i1,i2,i3,i4,i5⟩:=y;have hN:=(i5.ext f).not;exact⟨eA,((i2.ext f).other dO hN _).other dO (hN.set _ _) _,((i3.ext f).other dO hN _).other dO (hN.set _ _) _,
    by rw[bS _ _ _ _ dO,bS _ _ _ _ dO];exact f.e i4,(i5.ext f).put ak⟩
 case rest =>
  have bB:¬g.heap.size=w.heap.size:=oM;have bC:¬w.heap.size=g.heap.size:=oM;have bD:¬g.heap.size=w.heap.size+1:=oM;have bE:¬w.heap.size+1=g.heap.size:=oM;clear y k aH aM an ao au p r t x;obtain⟨hx,b1,b2,o,b4⟩:=hcut;have bt:=b1.not;have bu:=b2.not;have bv:ld 2 wc (w.heap.size+1+1):=fun cs fr e=>by rw[o]at e;cases e
  have az:w.heap.size+1+1<wc.heap.size:=Gb o;have r0:=Ca o (i:=0) (u:=O X 0 0) rfl;have r1:=Ca o (i:=1) (u:=Y false) rfl;have r2:=Ca o (i:=2) (u:=O X 0 0) rfl;have bF:=Ua o 0;have bG:=Ua o 1;have bH:=Ua o 2;obtain⟨a3,m3,c3,s3,n0,n1,bz,bA,bf,aT⟩:=b1.rd;obtain⟨a4,m4,c4,s4,d0,d1,bi,bj,bg,aS⟩:=b2.rd;obtain⟨a5,m5,c5,s5,g0,g1,bk,bl,bh,am⟩:=b4.rd;clear b1 b2 o b4;go_wp2_with(first|((go_at_call 134;(with_reducible refine(Vv _ (Z #[O a3 m3 c3,Y s3]) (Z #[O a5 m5 c5,Y s5]) n (rg n d) ?_ ?_ aB.o S.o ac (.inr aE.o)).mono ?_);(refine aT.ext ?_;exact eA);(refine am.ext ?_;exact eA);rintro e w3 ⟨vq,vr,rfl,af,aO,l⟩;obtain⟨aq,mq,cq,sq,rfl⟩:=af.form;obtain⟨ar,mr,cr,sr,rfl⟩:=aO.form;obtain⟨⟨aI,bp⟩,aZ,a0,av⟩:=Yb w l;have aV:=l.lt (n:=g.heap.size) (by go_simp)))|((go_at_call 134;(with_reducible refine(Vv _ (Z #[O a4 m4 c4,Y s4]) (Z #[O a5 m5 c5,Y s5]) d (rg n d) ?_ ?_ aA.o S.o ac (.inr aD.o)).mono ?_);(refine(aS.ext l).keep kA);(refine(am.ext l).keep kA);rintro e w4 ⟨vq,vr,rfl,ag,aP,Q⟩;obtain⟨ap,mp,cp,sp,rfl⟩:=ag.form;obtain⟨ar,mr,cr,sr,rfl⟩:=aP.form;obtain⟨⟨aJ,bq⟩,a8,a9,aw⟩:=Yb w Q)));have K:=(ag.dig).keep (w':=(w4.setCell ⟨w.heap.size+1,0,X⟩ (O ap mp cp)).setCell ⟨w.heap.size+1,1,X⟩ (Y sp)) kA;have ah:=((af.keep (w':=(w3.setCell ⟨w.heap.size,0,X⟩ (O aq mq cq)).setCell ⟨w.heap.size,1,X⟩ (Y sq)) kA).ext Q).keep (w':=(w4.setCell ⟨w.heap.size+1,0,X⟩ (O ap mp cp)).setCell ⟨w.heap.size+1,1,X⟩ (Y sp)) kA;rw[aF.o]at K;rw[aG.o]at ah;have e5:(((Rat.divInt n d).den:Int).natAbs:Int)=((Rat.divInt n d).den:Int):=oM;rw[e5]at K;clear e5;go_region_held3 (fun W=>W.cell? ⟨w.heap.size,0,X⟩=I (O aq mq cq)/\W.cell? ⟨w.heap.size,1,X⟩=I (Y sq)/\W.cell? ⟨w.heap.size+1,0,X⟩=I (O ap mp cp)) ((repeat' (with_reducible refine And.intro ?_ ?_))<;>(first|(go_simp;done)|(refine k.d ?_;go_simp;done))) (first|((go_at_call 188;(with_reducible refine(Lp _ 1 dM dM).mono ?_);rintro e w5 ⟨r5,rfl,al,aQ⟩;obtain⟨a6,m6,c6,rfl⟩:=al.u.form;obtain⟨⟨aK,br⟩,ba,bb,ax⟩:=Yb w aQ))|((go_at_call 187;(with_reducible refine(Tq _ (Z #[O ap mp cp]) (Z #[O a6 m6 c6]) ((Rat.divInt n d).den:Int) 1 (-1) ?_ ?_ aC.o H1.o dM oM).mono ?_);(refine K.ext ?_;exact eA);(refine al.u.ext ?_;exact eA);rintro e w6 ⟨r6,rfl,P,aR⟩;obtain⟨a7,m7,c7,rfl⟩:=P.u.form;obtain⟨⟨aL,bs⟩,bc,be,ay⟩:=Yb w aR)))
  all_goals go_wp2
  have e7:((Rat.divInt n d).den:Int) + -1*1=((Rat.divInt n d).den:Int)-1:=oM;rw[e7]at P;clear e7;have ab:Ab w6 (Z #[O aq mq cq,Y sq,O a7 m7 c7]) (Rat.divInt n d):=Ab.mk (ah.ext eA) P.u;refine bR (v:=Z #[O aq mq cq,Y sq,O a7 m7 c7]) (by simp[results,Tryz.results178,go_sem,aI,aJ,aK,aL,az,av,aw,ax,ay,r0,r1,r2]) rfl ⟨_,rfl,ab.keep kA,?_⟩;have bw:Ba w w3:=hx.trans l;have bx:Ba w w4:=Ba.trans eA Q;exact eA
def qA(w:V)(va vb:J)(n d:Int)(ha:vd w va n)(Q:vd w vb d)(l:Lm Ed n)(o:Lm Ed d):Calls Tryz.prog 145 #[va,vb] w fun e w'=>∃r,e=.returned (F #[r,C .i64 (if d=0 then 9 else 0)])/\Ab w' r (Rat.divInt n d)/\Ba w w':=by
 obtain⟨a,m,c,s,rfl⟩:=ha.form;obtain⟨K,m',P,s',rfl⟩:=Q.form;have z:=Aa l;have y:=Aa o;clear l o;have k:=Q.dig;by_cases j:d=0
 ·have hz:((d.natAbs:Int)==0)=true:=by simp[j]
  have Hd:=Aa j;clear j;go_in;go_wp2_with(((go_at_call 166;(with_reducible refine(Rj _ (Z #[O K m' P]) d.natAbs ?_).mono ?_);(refine k.ext ?_;exact eA);rintro e w1 ⟨rfl,i⟩;obtain⟨⟨g,S⟩,t,u,f⟩:=Yb w i)));refine bR (v:=F #[Z #[O X 0 0,Y false,O X 0 0],C .i64 9]) (by simp[results,Tryz.results145,go_sem,g,f]) rfl ⟨Z #[O X 0 0,Y false,O X 0 0],by first|rfl|rw[if_pos Hd.o],?_,eA⟩
  first|exact Ab.zero _|(rw[Hd.o,Rat.divInt_zero];exact Ab.zero _)
 ·have hz:((d.natAbs:Int)==0)=false:=by simp;omega
  go_in;go_wp2_with(first|((go_at_call 166;(with_reducible refine(Rj _ (Z #[O K m' P]) d.natAbs ?_).mono ?_);(refine k.ext ?_;exact eA);rintro e w1 ⟨rfl,i⟩;obtain⟨⟨g,S⟩,t,u,f⟩:=Yb w i))|((go_at_call 178;(with_reducible refine(tw _ (Z #[O a m c,Y s]) (Z #[O K m' P,Y s']) n d ?_ ?_ z.o y.o j).mono ?_);(refine ha.ext ?_;exact eA);(refine Q.ext ?_;exact eA);rintro e w2 ⟨r2,rfl,p,T⟩;obtain⟨a2,m2,c2,s2,a3,m3,c3,rfl⟩:=p.form;obtain⟨⟨R,ac⟩,aa,ab,x⟩:=Yb w T)));exact bR (v:=F #[Z #[O a2 m2 c2,Y s2,O a3 m3 c3],C .i64 0]) (by simp[results,Tryz.results145,go_sem,g,R,f,x]) rfl ⟨Z #[O a2 m2 c2,Y s2,O a3 m3 c3],by first|rfl|rw[if_neg j],p.keep kA,eA⟩
