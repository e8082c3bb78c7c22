import Derived.Test.YtjnjpagegkcgfaaGreatDoorCoqA11
set_option maxRecDepth 1000000
set_option maxHeartbeats 16000000
set_option linter.all false
open Go.Value renaming slice->O,bool->Z,int->X,agg->C,pointer->H,tuple->D
open Option renaming none->Y,some->F
open Go.IntKind renaming i64->I,u8->T
open Go renaming World->J,Value->N,Addr->Q
open Go.Obj renaming cells->E
namespace Go.Proofs.YtjnjpagegkcgfaaGreatDoor.Cop
section
open Go.RowKit Go.Shelf Go.Sort
def Vq(w:J)(r:ByteArray)(v:N)(R:LP)(d k l m y s t x:Int)(h:ub w v R)(ab:R.length<=1000):Calls Tryz.prog 12 #[C #[.string r,v,X I d,X I k,X I l,X I m,X I y,X I s,X I t,X T x]] w fun e w'=>∃v',e=.returned (C #[.string r,v',X I d,X I k,X I l,X I m,X I y,X I s,X I t,X T x])/\Fa w' v' R/\Aa w w'/\∀j,v'.ownBlock=F j->w.heap.size<=j:=by
 have HP:=ka (fun W (hW:Aa w W)=>sL W r v R d k l m (h.f hW) ab);obtain⟨a,n,c,rfl⟩:=h.i;clear h;go_in;go_wp2;refine Uc [(⟨w.heap.size,0,Y⟩,.string r),(⟨w.heap.size,1,Y⟩,O a n c),(⟨w.heap.size,2,Y⟩,X I d),(⟨w.heap.size,3,Y⟩,X I k),(⟨w.heap.size,4,Y⟩,X I l),(⟨w.heap.size,5,Y⟩,X I m),(⟨w.heap.size,6,Y⟩,X I y),(⟨w.heap.size,7,Y⟩,X I s),(⟨w.heap.size,8,Y⟩,X I t),(⟨w.heap.size,9,Y⟩,X T x)] cA fun g=>?_;refine sN 0 ?_
 iterate 2 refine Bb ?_
 refine oN ?_;refine sN 3 ?_
 iterate 11 refine Bb ?_
 refine oN ?_;refine Fb (i:=2) (HP.o _ eA) ?_;rintro e w3 ⟨v3,rfl,P,o,ac⟩;obtain⟨a3,n3,c3,rfl⟩:=Ja P;refine⟨_,rfl,(cE g o),fun g=>?_⟩;refine Ib (i:=14) ?_;have f:=o.e (LD w (E #[.string r,O a n c,X I d,X I k,X I l,X I m,X I y,X I s,X I t,X T x] 31) (E #[.string ⟨#[]⟩,O Y 0 0,X I 0,X I 0,X I 0,X I 0,X I 0,X I 0,X I 0,X T 0] 47));have k0:=Ba f (i:=0) (u:=.string ⟨#[]⟩) rfl;have k1:=Ba f (i:=1) (u:=O Y 0 0) rfl;have k2:=Ba f (i:=2) (u:=X I 0) rfl;have k3:=Ba f (i:=3) (u:=X I 0) rfl;have k4:=Ba f (i:=4) (u:=X I 0) rfl;have k5:=Ba f (i:=5) (u:=X I 0) rfl;have k6:=Ba f (i:=6) (u:=X I 0) rfl;have k7:=Ba f (i:=7) (u:=X I 0) rfl;have k8:=Ba f (i:=8) (u:=X I 0) rfl;have k9:=Ba f (i:=9) (u:=X T 0) rfl;have kf:=Ya f;have b:=ka (show ∀q∈[((⟨w.heap.size,0,Y⟩:Q),Value.string r),(⟨w.heap.size,1,Y⟩,O a n c),(⟨w.heap.size,2,Y⟩,X I d),(⟨w.heap.size,3,Y⟩,X I k),(⟨w.heap.size,4,Y⟩,X I l),(⟨w.heap.size,5,Y⟩,X I m),(⟨w.heap.size,6,Y⟩,X I y),(⟨w.heap.size,7,Y⟩,X I s),(⟨w.heap.size,8,Y⟩,X I t),(⟨w.heap.size,9,Y⟩,X T x)],w.heap.size+1≠q.1.block from fun q hq h=>by
  simp at hq;rcases hq with rfl|rfl|rfl|rfl|rfl|rfl|rfl|rfl|rfl|rfl<;>(dsimp only at h;omega))
 have aa:Aa w w3:=((((eR w).alloc _).alloc _).drew).trans o;have z:=ka f;clear f;refine Vc (i:=15) fun K hK=>?_;go_simp;refine kO hK (Ea.set (p:=⟨w.heap.size+1,9,Y⟩) (Ea.set (p:=⟨w.heap.size+1,8,Y⟩) (Ea.set (p:=⟨w.heap.size+1,7,Y⟩) (Ea.set (p:=⟨w.heap.size+1,6,Y⟩) (Ea.set (p:=⟨w.heap.size+1,5,Y⟩) (Ea.set (p:=⟨w.heap.size+1,4,Y⟩) (Ea.set (p:=⟨w.heap.size+1,3,Y⟩) (Ea.set (p:=⟨w.heap.size+1,2,Y⟩) (Ea.set (p:=⟨w.heap.size+1,1,Y⟩) (Ea.set (p:=⟨w.heap.size+1,0,Y⟩) g b.o _) b.o _) b.o _) b.o _) b.o _) b.o _) b.o _) b.o _) b.o _) b.o _) (fun g=>?_);clear hK K;refine Sb ?_;go_wp2;have ae:=Jb z.o;have ad:Fa w3 (O a3 n3 c3) R:=P;have n0:td 43 w3 (w.heap.size+1):=by intro cs fr e;rw[z.o]at e;cases e
 refine bR (v:=C #[.string r,O a3 n3 c3,X I d,X I k,X I l,X I m,X I y,X I s,X I t,X T x]) (by simp[results,Tryz.results12,go_sem,k0,k1,k2,k3,k4,k5,k6,k7,k8,k9,kf]) rfl ⟨_,rfl,?_,?_,fun j hj=>by have:=ac j hj;simp only[wZ,jc]at this;omega⟩
 ·refine ad.z ?_
  repeat(first|with_reducible exact Ia.refl _ _|(with_reducible refine Ia.x ?_ ?_ _)|with_reducible exact n0|with_reducible refine td.set ?_ _ _)
 ·repeat(first|with_reducible exact aa|(with_reducible refine Aa.set ?_ dO _))
def Dn.keep{w w' c p}(h:Dn w c p)(k:Ia 43 w w'):Dn w' c p:=by obtain⟨v,a,b,d⟩:=h;exact⟨v,a,b.z k,d⟩
end
section
open Go.RowKit Go.Shelf Go.Sort Go.Lib
attribute [local go_sem] Oper.semAt_some
def jk(p q:Pl):Int:=if Ca p=true/\Ca q=true then 0 else 2
def ik(p q:Pl):Int:=if Ca p=true/\Ca q=true then Dc p q else 0
def Mj(w:J)(p q:Pl)(e:Ending)(w':J):Prop:=e=.returned (D #[X T (ik p q),X I (jk p q)])/\Aa w w'
def Qd.forms{w v p}(h:Qd w v p):∃a1 n1 c1 a2 n2 c2 a3 n3 c3,v=C #[.string p.name,O a1 n1 c1,X I p.depth,X I p.density,X I p.gx,X I p.gz,X I p.way,X I p.ax,X I p.az,X T p.skin,O a2 n2 c2,O a3 n3 c3]:=by obtain⟨s,l,u,rfl,a,b,c⟩:=h;obtain⟨a1,n1,c1,rfl⟩:=Ja a;obtain⟨a2,n2,c2,rfl⟩:=Ja b;obtain⟨a3,n3,c3,rfl⟩:=Ja c;exact⟨_,_,_,_,_,_,_,_,_,rfl⟩
def Pt w a b p q(c:Fa w a p.shape)(d:Fa w b q.shape)(v:0<=p.skin)(x:0<=q.skin)(f:Gw w)(o:Ca p=true/\Ca q=true):Calls Tryz.prog 39 #[C (nc p a),C (nc q b)] w fun e r=>e=.returned (D #[X T (Dc p q),X I 0])/\Aa w r:=by have s:=ka (fun(W:J)(m:Aa w W)=>Wm W a b p q (c.f m) (d.f m) v x (f.ext m) o.1 o.2);have t:=ka (fun(W:J)(a b:N)(c:Qd W a p)(d:Qd W b q)=>xq W a b p q c d o.1 o.2);obtain⟨k,u⟩:=gX (Dc p q);rw[u]at t ⊢;obtain⟨R,l⟩:=gX ((fun e r=>e=Ending.returned (D #[X T k,X I 0])/\Aa w r));rw[l];have z:=ka l;obtain⟨ac,ag,ae,rfl⟩:=Ja c;obtain⟨ad,ah,af,rfl⟩:=Ja d;clear c d v x f o u l;unfold nc at s ⊢;go_in;go_wp2_with(first|(go_at_call 103;refine cM (s.o _ eA) ?_;rintro e y ⟨r1,r2,rfl,g,i,j⟩;obtain⟨a1,n1,c1,a2,n2,c2,a3,n3,c3,rfl⟩:=g.forms;obtain⟨b1,m1,d1,b2,m2,d2,b3,m3,d3,rfl⟩:=i.forms;obtain⟨K,aa⟩:=j.cells;(have z5:=j.size);(simp only[wZ]at z5);(have ai:w.heap.size<y.heap.size:=oM);(have aj:w.heap.size+1<y.heap.size:=oM))|(go_at_call 55;refine cM (t.o _ _ _ (g.ext eA) (i.ext ?_)) ?_;exact eA;rintro e w6 ⟨rfl,n⟩;obtain⟨P,ab⟩:=n.cells));rw[<-z.o];exact⟨rfl,eA⟩
def lC w g i p q(d:Fa w g p.shape)(f:Fa w i q.shape)(k:0<=p.skin)(l:0<=q.skin)(a:Gw w):Calls Tryz.prog 39 #[C (nc p g),C (nc q i)] w (Mj w p q):=by
 by_cases o:Ca p=true/\Ca q=true
 ·refine(Pt w g i p q d f k l a o).mono fun e c h=>?_;unfold Mj jk ik;rw[if_pos o,if_pos o];exact h
 ·have n:Mj w p q=fun e c=>e=.returned (D #[X T 0,X I 2])/\Aa w c:=by funext e c;unfold Mj jk ik;rw[if_neg o,if_neg o]
  rw[n];obtain⟨R,j⟩:=gX ((fun e c=>e=Ending.returned (D #[X T 0,X I 2])/\Aa w c));rw[j];have t:=ka j;have m:=ka (fun(W:J)(r:Aa w W)=>St W g i p q (d.f r) (f.f r) k l o);obtain⟨x,P,z,rfl⟩:=Ja d;obtain⟨y,aa,K,rfl⟩:=Ja f;clear d f k l a o n j;unfold nc at m ⊢;go_in;go_wp2_with(first|(go_at_call 103;refine cM (m.o _ eA) ?_;rintro e s ⟨rfl,b⟩;obtain⟨u,v⟩:=b.cells;(have z5:=b.size);(simp only[wZ]at z5);(have ab:w.heap.size<s.heap.size:=oM);(have ac:w.heap.size+1<s.heap.size:=oM))|fail);rw[<-t.o];exact⟨rfl,eA⟩
end
section
open Go Go.ChangeShapes Go.WideShapes Go.ChangeAt Go.RowKit
set_option maxRecDepth 100000
def EQ:(Rows.placeRelatesRow.inPlace==Tryz.prog.inPlace 6)=true:=kM
def DQ:(Rows.placeRelatesRow.unfollowed==Tryz.prog.unfollowed 6)=true:=kM
def CQ:(Rows.placeRelatesRow.recurses==Tryz.prog.recurses 6)=true:=kM
def BQ:(Rows.placeRelatesRow.named==Tryz.prog.varsNamed 6)=true:=kM
def AQ:mapsRowed Tryz.prog=true:=kM
def zQ:Tryz.prog.stopsHeard=true:=kM
def yQ:Tryz.prog.mayEnter=true:=kM
def ns:joinedFacts Tryz.prog 6 Tryz.f6 Rows.placeRelatesSpec Rows.placeRelatesRow=true:=by unfold joinedFacts;rw[EQ,DQ,CQ,BQ,AQ,zQ,yQ,Jt];kernel_rfl
end
section
open Go.RowKit Go.Shelf
def MN w d f b(o:b<0)(g:∃a n c,d=O a n c)(i:∃a n c,f=O a n c):Calls Tryz.prog 76 #[C #[d,f],X I b] w fun e j=>e=.returned d/\Aa w j:=by obtain⟨k,m,l,rfl⟩:=g;obtain⟨p,q,sc,rfl⟩:=i;go_in;go_wp2;go_ret;exact⟨rfl,eA⟩
def mL w l m ps(i:Nat) p(x:∃a n c,l=O a n c)(d:Ic w m ps)(j:ps[i]?=F p):Calls Tryz.prog 76 #[C #[l,m],X I i] w fun e q=>∃v,e=.returned v/\Fa q v (La p)/\Aa w q:=by obtain⟨ga,gn,gc,rfl⟩:=x;obtain⟨sa,n,sc,rfl⟩:=Ja d;have z:=d.len;have g:=d.le;obtain⟨b,o,s,vl,vu,rfl,hb,t,u,f,k⟩:=d.at' j;obtain⟨K,R,P,rfl⟩:=Ja f;have W:=k 11 (O K R P) rfl;have y:=(lS.1 j).1;have p1:(0:Int)<=(i:Int):=oM;have p2:(i:Int)<(n:Int):=oM;have p3:i<n:=oM;have p4:¬(i:Int)<0:=oM;have r:=ka f;clear d j k t u f z g y;go_in;go_wp2;go_ret;exact⟨_,rfl,r.o.f eA,eA⟩
def Me(n:Nat)(i a:Int):Bool:=decide (i<0) || (decide ((n:Int)<=i) || (decide (a<0) || decide (50<a)))
def PA w j l n sc i b(k:∃a n c,j=O a n c):Calls Tryz.prog 71 #[C #[j,O l n sc],X I i,X I b] w fun e m=>e=.returned (Z (Me n i b))/\Aa w m:=by
 obtain⟨o,q,p,rfl⟩:=k;by_cases d:i<0
 ·have e:Me n i b=true:=by unfold Me;simp[d]
  rw[e];go_in;go_wp2;go_ret;exact⟨rfl,eA⟩
 by_cases f:(n:Int)<=i
 ·have e:Me n i b=true:=by unfold Me;simp[f]
  rw[e];go_in;go_wp2;go_ret;exact⟨rfl,eA⟩
 by_cases g:b<0
 ·have e:Me n i b=true:=by unfold Me;simp[g]
  rw[e];go_in;go_wp2;go_ret;exact⟨rfl,eA⟩
 ·have e:Me n i b=decide (50<b):=by unfold Me;rw[decide_eq_false d,decide_eq_false f,decide_eq_false g];rfl
  rw[e];go_in;go_wp2;go_ret;exact⟨rfl,eA⟩
def jL(w:J) o a:((w.alloc o).alloc a).heap[w.heap.size+1]?=F a:=Bc _ _ _ sM
def Rk(w:J)(v:N)(x z:Rat):Prop:=∃a m c s a2 m2 c2 b n k t b2 n2 k2,v=C #[O a m c,Z s,O a2 m2 c2,O b n k,Z t,O b2 n2 k2]/\Sa w (C #[O a m c,Z s,O a2 m2 c2]) x/\Sa w (C #[O b n k,Z t,O b2 n2 k2]) z
def Rk.ext{w w' v x z}(h:Rk w v x z)(k:Aa w w'):Rk w' v x z:=by obtain⟨a,m,c,s,d,p,f,b,n,l,t,e,q,o,g,i,j⟩:=h;exact⟨a,m,c,s,d,p,f,b,n,l,t,e,q,o,g,i.ext k,j.ext k⟩
def jr w vx x p m s vl vu(y:Sa w vx x)(hb:Rb 1000 x)(j:w.heap[m]?=F (E (De p s vl vu) 128 (0,0)))(hl:Fa w vl (Da p))(ac:Wb (Da p)):Calls Tryz.prog 144 #[vx,H (F ⟨m,0,Y⟩)] w fun e w'=>∃v,e=.returned v/\Rk w' v x (kb (Da p) x)/\Aa w w':=by
 have HA:=ka (fun W (hW:Aa w W)=>Lr W vl vx (Da p) x (hl.f hW) ac (y.ext hW) hb);obtain⟨P,xm,R,xs,d,g,f,rfl⟩:=y.form;obtain⟨la,ln,lc,rfl⟩:=Ja hl;have ae:=Ba j (i:=10) (u:=O la ln lc) rfl;have zb:=Jb j;have af:m<w.heap.size+1:=oM;have ag:m<w.heap.size+1+1:=oM;obtain⟨q,t⟩:=gX (kb (Da p) x);rw[t]at HA ⊢;have Hx:=ka y;clear hl j y t;go_in;go_wp2;refine Uc [(⟨w.heap.size,0,Y⟩,O P xm R),(⟨w.heap.size,1,Y⟩,Z xs),(⟨w.heap.size,2,Y⟩,O d g f),(⟨m,10,Y⟩,O la ln lc)] cA fun c=>?_;refine sN 0 ?_
 iterate 4 refine Bb ?_
 refine oN ?_;refine Fb (i:=4) (HA.o _ eA) ?_;rintro e z ⟨v3,rfl,k,l⟩;obtain⟨a3,m3,c3,s3,b3,n3,k3,rfl⟩:=k.form;refine⟨_,rfl,(cE c l),fun c=>?_⟩;refine Ib (i:=5) ?_;have b:=l.e (jL w (E #[O P xm R,Z xs,O d g f] 63) (E #[O Y 0 0,Z false,O Y 0 0,O Y 0 0,Z false,O Y 0 0] 77));have k0:=Ba b (i:=0) (u:=O Y 0 0) rfl;have k1:=Ba b (i:=1) (u:=Z false) rfl;have k2:=Ba b (i:=2) (u:=O Y 0 0) rfl;have ad:=Ba b (i:=3) (u:=O Y 0 0) rfl;have k4:=Ba b (i:=4) (u:=Z false) rfl;have k5:=Ba b (i:=5) (u:=O Y 0 0) rfl;have kf:=Ya b;have o:Aa w z:=((((eR w).alloc _).alloc _).drew).trans l;have a:=ka (show ∀q∈[((⟨w.heap.size,0,Y⟩:Q),Value.slice P xm R),(⟨w.heap.size,1,Y⟩,Z xs),(⟨w.heap.size,2,Y⟩,O d g f),(⟨m,10,Y⟩,O la ln lc)],w.heap.size+1≠q.1.block from fun q t h=>by
  simp at t;rcases t with rfl|rfl|rfl|rfl<;>(dsimp only at h;omega))
 have aa:=ka b;have n:=ka o;have ab:=ka k;clear b o k;refine Vc (i:=6) fun K hK=>?_;go_simp;refine kO hK (Ea.set (p:=⟨w.heap.size+1,5,Y⟩) (Ea.set (p:=⟨w.heap.size+1,4,Y⟩) (Ea.set (p:=⟨w.heap.size+1,3,Y⟩) (Ea.set (p:=⟨w.heap.size+1,2,Y⟩) (Ea.set (p:=⟨w.heap.size+1,1,Y⟩) (Ea.set (p:=⟨w.heap.size+1,0,Y⟩) c a.o _) a.o _) a.o _) a.o _) a.o _) a.o _) (fun c=>?_);clear hK K;refine Sb ?_;go_wp2;have n0:td 2 z (w.heap.size+1):=by intro cs fr e;rw[aa.o]at e;cases e
 have r:∀(u0 u1 u2 u3 u4 u5:N),Ia 2 z ((((((z.setCell ⟨w.heap.size+1,0,Y⟩ u0).setCell ⟨w.heap.size+1,1,Y⟩ u1).setCell ⟨w.heap.size+1,2,Y⟩ u2).setCell ⟨w.heap.size+1,3,Y⟩ u3).setCell ⟨w.heap.size+1,4,Y⟩ u4).setCell ⟨w.heap.size+1,5,Y⟩ u5):=fun u0 u1 u2 u3 u4 u5=>by
  repeat(first|with_reducible exact Ia.refl _ _|(with_reducible refine Ia.x ?_ ?_ _)|with_reducible exact n0|with_reducible refine td.set ?_ _ _)
 refine bR (v:=C #[O P xm R,Z xs,O d g f,O a3 m3 c3,Z s3,O b3 n3 k3]) (by simp[results,Tryz.results144,go_sem,k0,k1,k2,ad,k4,k5,kf]) rfl ⟨_,rfl,⟨_,_,_,_,_,_,_,_,_,_,_,_,_,_,rfl,(Hx.o.ext n.o).keep (r _ _ _ _ _ _),ab.o.keep (r _ _ _ _ _ _)⟩,?_⟩
 repeat(first|with_reducible exact n.o|(with_reducible refine Aa.set ?_ dO _))
end
section
open Go.RowKit Go.Shelf
attribute [local go_sem] Oper.semAt_some
def Dh(o:Rat×Rat)(x:Rat):Rat×Rat:=(Sc (-1) [o.1,x],Sc 1 [o.2,x])
def Fc(f:Rat->Rat)(o:Rat×Rat)(x:Rat):Rat×Rat:=if (f x).num.sign<=0 then Dh o x else o
def Ae(f:Rat->Rat)(y x:Rat):Rat:=y+f y/(f y-f x)*(x-y)
def tf(f:Rat->Rat)(o:Rat×Rat)(y x:Rat):Rat×Rat:=if (f x).num.sign*(f y).num.sign<0 then Dh o (Ae f y x)else o
def Ec(f:Rat->Rat)(a:List Rat)(o:Rat×Rat):Nat->Rat×Rat
 | 0=>o
 | i+1=>if i=0 then Fc f (Ec f a o i) (a.getD i 0)else tf f (Fc f (Ec f a o i) (a.getD i 0)) (a.getD (i-1) 0) (a.getD i 0)
def Mb(s:Sp)(a:Int)(x:Rat):Rat:=Tb s x-(a:Rat)
def Lf(s:Sp)(a:Int):Bool:=decide ((Na s).2.num.sign<0) || decide (0<yb (Na s).2 (a:Rat))
def ud(s:Sp)(a:Int):Option (Rat×Rat):=
 if Lf s a=true then Y else F (Ec (Mb s a) (Pa s) ((Na s).1,(Na s).1) (Pa s).length)
def Rb.up{j k q}(h:Rb j q)(a:j<=k):Rb k q:=by exact⟨h.1.mono a,h.2.mono a⟩
def Uq{P:Rat->Prop} way{p q}(a:P p)(b:P q):P (Sc way [p,q]):=by show P (Ed way p q);rcases Mq way p q with e|e<;>rw[e]<;>assumption
def Rb.wid{k o x}(h:Rb k o.1/\Rb k o.2)(a:Rb k x):Rb k (Dh o x).1/\Rb k (Dh o x).2:=⟨Uq _ h.1 a,Uq _ h.2 a⟩
def Rb.pin_g{s a x}(c:Rb 1 x)(h:Rf s)(b:Bd 104000 a):Rb 47 (Mb s a x):=
 (Rb.gap c h).sub (Rb.int (by unfold Bd at b;unfold Lm;have d:(B:Int) ^ 23 ≥ 104001:=dM;omega) dM)
def Rb.cross{f y x}(b:Rb 1 y)(e:Rb 1 x)(a:Rb 47 (f y))(d:Rb 47 (f x)):Rb 291 (Ae f y x):=by have c:Rb (47+(2*47+1)+(2*1+1)) (f y/(f y-f x)*(x-y)):=(a.div (a.sub d) dM).mul (e.sub b);exact(b.up (by decide:1<=145)).add c
def Rb.reach_n{f a o}(k:Rb 300 o.1/\Rb 300 o.2)(e:∀q∈a,Rb 1 q)(j:∀q∈a,Rb 47 (f q)):∀n,n<=a.length->Rb 300 (Ec f a o n).1/\Rb 300 (Ec f a o n).2:=by
 intro n;induction n with
 | zero=>intro _;exact k
 | succ i l =>
  intro m;have g:=l oM;have d:a.getD i 0∈a:=by rw[gD,gE oM];exact List.getElem_mem _
  have c:Rb 300 (Fc f (Ec f a o i) (a.getD i 0)).1/\Rb 300 (Fc f (Ec f a o i) (a.getD i 0)).2:=by
   unfold Fc;split
   ·exact Rb.wid g ((e _ d).up dM)
   ·exact g
  unfold Ec;split
  ·exact c
  ·have b:a.getD (i-1) 0∈a:=by rw[gD,gE oM];exact List.getElem_mem _
   unfold tf;split
   ·exact Rb.wid c ((Rb.cross (e _ b) (e _ d) (j _ b) (j _ d)).up dM)
   ·exact c
def Jd.setOther{w base v b}(h:Jd w base v b){p}(m:p.block<base)(k:td 2 w p.block) u:Jd (w.setCell p u) base v b:=by obtain⟨d,a,f,g⟩:=h;refine⟨d,a.setOther (fun e=>?_) u,f,fun i c q j l=>Sa.keep (g i c q j l) (Ia.x (Ia.refl _ _) k u)⟩;have:=(a.lt _ e).1;omega
def vj(w:J)(s:Sp)(b c d:N)(a:List Rat)(o:Rat×Rat)(W:J):Prop:=
 Aa w W/\w.heap.size+1+1+1<=W.heap.size/\W.heap[w.heap.size]?=F (E #[b,c,X I s.lo,X I s.hi] 138 (0,0))/\
  RB W (w.heap.size+1) o.1/\RB W (w.heap.size+1+1) o.2/\Jd W (w.heap.size+1+1+1) d a
def vj.ext{w s b c d a o W W'}(h:vj w s b c d a o W)(k:Aa W W'):vj w s b c d a o W':=
 ⟨h.1.trans k,nT h.2.1 k.size,k.e h.2.2.1,h.2.2.2.1.ext k,h.2.2.2.2.1.ext k,h.2.2.2.2.2.ext k⟩
def qQ W{b}(y:b=W.heap.size){a g e j m c o c2 n k r l s t p q}(v:Sa W (C #[O a m c,Z s,O g o c2]) p)(w:Sa W (C #[O e n k,Z t,O j r l]) q):Sf (W.alloc (E #[O a m c,Z s,O g o c2,O e n k,Z t,O j r l] 63)) (O (F ⟨b,0,Y⟩) 2 2) [p,q]:=by
 subst y;have u:Aa W (W.alloc (E #[O a m c,Z s,O g o c2,O e n k,Z t,O j r l] 63)):=(eR W).alloc _;refine⟨[[O a m c,Z s,O g o c2],[O e n k,Z t,O j r l]],rfl,by simp,⟨rfl,_,_,rfl,nE _,by unfold maxLen;decide,.inr ⟨_,0,_,_,rfl,aN W _,fun i x h=>by simpa using h⟩⟩,fun i z x d f=>?_⟩
 match i,d,f with
 | 0,d,f=>cases d;cases f;exact v.ext u
 | 1,d,f=>cases d;cases f;exact w.ext u
 | i+2,d,f=>simp at d
def vj.put2{w s v1 v2 vq qs o W}(h:vj w s v1 v2 vq qs o W){a l e x m c R c2 n k n2 K s1 t p q}(y:Sa W (C #[O a m c,Z s1,O l R c2]) p)(z:Sa W (C #[O e n k,Z t,O x n2 K]) q){j g}(d:((W.setCell ⟨w.heap.size+1,0,Y⟩ (O a m c)).setCell ⟨w.heap.size+1,1,Y⟩ (Z s1)).setCell ⟨w.heap.size+1,2,Y⟩ (O l R c2)=j)(f:((j.setCell ⟨w.heap.size+1+1,0,Y⟩ (O e n k)).setCell ⟨w.heap.size+1+1,1,Y⟩ (Z t)).setCell ⟨w.heap.size+1+1,2,Y⟩ (O x n2 K)=g):vj w s v1 v2 vq qs (p,q) g/\g.heap.size=W.heap.size/\(∀b r,w.heap.size+1+1<b->RB W b r->RB g b r):=by
 obtain⟨h1,h2,h3,h4,h5,h6⟩:=h;obtain⟨q1,q2,q3,q4,q5,q6⟩:=RB.copy2 h4 h5 oM y z d f;have i:=h4.not;have N2:=h5.not;refine⟨⟨q6 w h1 oM oM,by omega,?_,q1,q2,?_⟩,q5,fun b r hb=>q3 b r oM oM⟩
 ·rw[<-f,<-d]
  repeat rw[bS _ _ _ _ dO]
  exact h3
 ·have u:w.heap.size+1<w.heap.size+1+1+1:=oM;have v:w.heap.size+1+1<w.heap.size+1+1+1:=oM;have g1:=((h6.setOther (p:=⟨w.heap.size+1,0,Y⟩) u i (O a m c)).setOther (p:=⟨w.heap.size+1,1,Y⟩) u (i.set _ _) (Z s1)).setOther (p:=⟨w.heap.size+1,2,Y⟩) u ((i.set _ _).set _ _) (O l R c2);rw[d]at g1;have P:td 2 j (w.heap.size+1+1):=by rw[<-d];exact((N2.set _ _).set _ _).set _ _
  have g2:=((g1.setOther (p:=⟨w.heap.size+1+1,0,Y⟩) v P (O e n k)).setOther (p:=⟨w.heap.size+1+1,1,Y⟩) v (P.set _ _) (Z t)).setOther (p:=⟨w.heap.size+1+1,2,Y⟩) v ((P.set _ _).set _ _) (O x n2 K);rw[f]at g2;exact g2
end
section
open Go.RowKit Go.Shelf Go.Sort
def VM{β}[Inhabited β]{lt}(hO:SWO lt)(d:Array β) l:(pdq lt d 0 d.size l true true).toList.Pairwise fun x y=>lt y x=false:=by obtain⟨⟨g,_,_⟩,f⟩:=pdq_sorts lt hO d 0 d.size l true true (Nat.zero_le _) (nE _) (Or.inl rfl);rw[List.pairwise_iff_getElem];intro i j c e a;simp at c e;have b:=f i j (Nat.zero_le _) a oM;rw[getElem!_pos _ i c,getElem!_pos _ j e]at b;simpa using b
def py{ps}(h:∀x∈ps,BP x):(jf ps).Pairwise fun x y=>x.1<=y.1:=by unfold jf qi;rw[dif_pos h];rw[List.pairwise_map];have b:=@VM {x // BP x} ⟨Zy⟩ _ yn (ps.attachWith BP h).toArray (Lib.bitLen ps.length);rw[show (ps.attachWith BP h).toArray.size=ps.length by simp]at b;refine b.imp fun {x y} a=>?_;rw[lv]at a;simpa using a
def ky{α}[DecidableEq α]:∀ a (r:List α),∃t,Ma (a::r)=a::t
 | a,[]=>⟨[],rfl⟩
 | a,b::r=>by
  by_cases h:a=b
  ·obtain⟨t,e⟩:=ky b r;exact⟨t,by rw[Ma,if_pos h,e,h]⟩
  ·exact⟨Ma (b::r),by rw[Ma,if_neg h]⟩
def Kh.cons{a b:Int×Int}{r:LP}(d:a.1<=b.1)(f:a≠b)(h:Kh (b::r)):Kh (a::b::r):=by
 intro e c;unfold Cf at c;rcases List.mem_cons.1 c with rfl|c
 ·exact⟨d,f⟩
 ·exact h e c
def qr:∀(l:LP),l.Pairwise (fun x y=>x.1<=y.1)->Kh (Ma l)
 | [],_=>by intro e f;simp[Ma,Cf]at f
 | [a],_=>by intro e f;simp[Ma,Cf]at f
 | a::b::r,h=>by
  have d:=qr (b::r) (List.pairwise_cons.1 h).2;by_cases c:a=b
  ·rw[Ma,if_pos c];exact d
  ·rw[Ma,if_neg c];obtain⟨t,e⟩:=ky b r;rw[e]at d ⊢;exact Kh.cons ((List.pairwise_cons.1 h).1 b List.mem_cons_self) c d
def xM{k:Int}{a:LP}(c:tg k a)(b:k<=1000000):Kh (kd a):=
 qr _ (py fun x d=>by
  have:=c x d;unfold BP;exact⟨this.1.mono b,this.2.mono b⟩)
def WI{p:Pl}(h:Ca p=true):Kh (La p):=by obtain⟨a,c,Yh⟩:=Xn h;have b:=WD a (nE _);exact xM b.2 dM
def xO{g:LP}(h:Nb g=true):Kh g:=by
 unfold Nb at h;simp only[Bool.and_eq_true,List.all_eq_true,List.mem_range]at h;intro e d;unfold Cf at d;obtain⟨i,f,rfl⟩:=List.getElem_of_mem d;have c:i+1<g.length:=by rw[List.length_zip,List.length_tail]at f;omega
 have a:=h.2 (i+1) c;unfold Ng at a;simp only[Bool.and_eq_true,Bool.or_eq_true,decide_eq_true_eq,beq_iff_eq,Nat.add_one_ne_zero,false_or,Nat.add_sub_cancel]at a;have b:=a.2.2;rw[gD,gD,gE oM,gE c]at b;simp only[Option.getD_some]at b;have j:(g.zip g.tail)[i]'f=(g[i]' oM,g[i+1]'c):=sM;rw[j];exact⟨by dsimp only;omega,fun e=>by dsimp only at e;rw[e]at b;omega⟩
def fh(f:Rat->Rat)(a:List Rat):Prop:=∀(i:Nat) y x,a[i]?=F y->a[i+1]?=F x->¬(f x).num.sign*(f y).num.sign<0
def OL f{xs}:∀x∈xs,(xb f xs).2<=f x:=by
 have key:∀(c:List Rat)(a:Rat×Rat),(c.foldl (Ab f) a).2<=a.2/\∀x∈c,(c.foldl (Ab f) a).2<=f x:=by
  intro c;induction c with
  | nil=>intro a;exact⟨Rat.le_refl,fun x b=>by simp at b⟩
  | cons y c i =>
   intro a;obtain⟨d,e⟩:=i (Ab f a y);have g:(Ab f a y).2<=a.2/\(Ab f a y).2<=f y:=by
    unfold Ab;split
    ·rename_i h;rw[Kr]at h;exact⟨Rat.le_of_lt h,Rat.le_refl⟩
    ·rename_i h;rw[Kr]at h;exact⟨Rat.le_refl,Rat.not_lt.1 h⟩
   refine⟨Rat.le_trans d g.1,fun x b=>?_⟩;rcases List.mem_cons.1 b with rfl|b
   ·exact Rat.le_trans d g.2
   ·exact e x b
 cases xs with
 | nil=>intro x b;simp at b
 | cons y c =>
  intro x b;obtain⟨d,e⟩:=key c (y,f y);rcases List.mem_cons.1 b with rfl|b
  ·exact d
  ·exact e x b
def tP{q:Rat}(h:0<=q):0<=q.num.sign:=by
 have:=Rat.num_nonneg.2 h;rcases Int.lt_or_eq_of_le this with a|a
 ·rw[Int.sign_eq_one_of_pos a];decide
 ·rw[<-a];decide
def SJ{s}(h:Lf s 0=false):fh (Mb s 0) (Pa s):=by
 unfold Lf at h;simp only[Bool.or_eq_false_iff,decide_eq_false_iff_not]at h;have g:0<=(Na s).2:=by
  refine Rat.not_lt.1 fun b=>h.1 ?_;refine Int.sign_neg_iff.2 (Int.not_le.1 fun k=>?_);exact absurd b (Rat.not_lt.2 (Rat.num_nonneg.1 k))
 have a:∀x∈Pa s,0<=(Mb s 0 x).num.sign:=fun x c=>by
  refine tP ?_;have j:(Na s).2<=Tb s x:=OL (Tb s) x c;have e:Mb s 0 x=Tb s x:=by unfold Mb;simp[Rat.sub_eq_add_neg,Rat.add_zero]
  rw[e];exact Rat.le_trans g j
 intro i y x l c;have d:=a y (lM l);have f:=a x (lM c);have:=Int.mul_nonneg f d;omega
end
section
open Go.RowKit Go.Shelf
attribute [local go_sem] Oper.semAt_some
def Mk(w:J)(o:Option (Rat×Rat))(e:Ending)(w':J):Prop:=Aa w w'/\∃r1 r2,Sa w' r1 (o.getD (0,0)).1/\Sa w' r2 (o.getD (0,0)).2/\e=.returned (D #[r1,r2,Z o.isSome])
def SM{k a}(h:Bd 104000 a)(b:1<=k):Rb k (a:Rat):=(Ml h).up b
def SK w v1 v2 s b(h1:Fa w v1 s.over)(h2:Fa w v2 s.under)(ac:Rf s)(hp:Bd 104000 b)(o:Lf s b=true):Calls Tryz.prog 143 #[ni s v1 v2,X I b] w (Mk w (ud s b)):=by
 have HS:=ka (fun(W:J)(hW:Aa w W)=>Qr W v1 v2 s (h1.f hW) (h2.f hW) ac);obtain⟨a1,m1,rfl⟩:=h1.form;obtain⟨a2,m2,rfl⟩:=h2.form;obtain⟨n1,f1⟩:=gX s.over.length;obtain⟨n2,f2⟩:=gX s.under.length;obtain⟨lo,aq⟩:=gX s.lo;obtain⟨hi,ap⟩:=gX s.hi;have ao:=ka (show Rb 23 (Na s).2 by obtain⟨j1,j2⟩:=Ak (Tb s) (Al s);unfold Na;rw[j2];exact Rb.gap (Wj ac _ j1) ac);have Hp:=ka hp;have aB:-9223372036854775808<=b:=by unfold Bd at hp;omega
 have aC:b<=9223372036854775807:=by unfold Bd at hp;omega
 have HC:=ka (fun(W:J)(va vb:N)(ha:Sa W va (Na s).2)(hb:Sa W vb (b:Rat))=>Yj W va vb _ _ ha hb (Ji ao.o oM) (Ji (SM (k:=1) Hp.o oM) oM));have hR:ud s b=Y:=by unfold ud;rw[if_pos o]
 rw[hR];unfold Lf at o;obtain⟨q1,au⟩:=gX ((Na s).1);obtain⟨q2,ah⟩:=gX ((Na s).2);unfold ni at HS ⊢;rw[ah]at o HC ao;rw[au,ah]at HS;simp only[f1,f2,aq,ap]at HS ⊢;clear h1 h2 ac f1 f2 aq ap hR au ah hp;go_in;go_wp2_with(((go_at_call 59;refine cM (HS.o _ eA) ?_;rintro e w1 ⟨r1,r2,rfl,av,aa,ab⟩;obtain⟨a4,m4,c4,s4,b4,n4,k4,rfl⟩:=av.form;obtain⟨a5,m5,c5,s5,b5,n5,k5,rfl⟩:=aa.form;obtain⟨⟨az,aA⟩,aD,aE,aF⟩:=Ub w ab)));obtain⟨j,d⟩:=gX (((w1.alloc (E #[O a4 m4 c4,Z s4,O b4 n4 k4] 63)).alloc (E #[O a5 m5 c5,Z s5,O b5 n5 k5] 63)));have g:Aa w1 j:=by rw[<-d];exact((eR _).alloc _).alloc _
 have ar:Aa w j:=(((((eR w).alloc _).alloc _).alloc _).trans ab).trans g;have g1:RB j w1.heap.size q1:=by rw[<-d];exact(RB.new av rfl).ext ((eR _).alloc _)
 have g2:RB j (w1.heap.size+1) q2:=by rw[<-d];exact RB.new (aa.ext ((eR _).alloc _)) sM
 have g3:RB j (w.heap.size+1) 0:=(((RB.new (Sa.zero _) sM).ext ((eR _).alloc _)).ext ab).ext g;have g4:RB j (w.heap.size+1+1) 0:=((RB.new (Sa.zero _) sM).ext ab).ext g;have zW:w1.heap.size+1<j.heap.size:=by rw[<-d];simp
 have aG:=Ba (show j.heap[w1.heap.size+1]?=F (E #[O a5 m5 c5,Z s5,O b5 n5 k5] 63 (0,0)) by rw[<-d];exact Bc _ _ _ sM) (i:=0) (u:=O a5 m5 c5) rfl;have aH:=Ba (show j.heap[w1.heap.size+1]?=F (E #[O a5 m5 c5,Z s5,O b5 n5 k5] 63 (0,0)) by rw[<-d];exact Bc _ _ _ sM) (i:=1) (u:=Z s5) rfl;have aI:=Ba (show j.heap[w1.heap.size+1]?=F (E #[O a5 m5 c5,Z s5,O b5 n5 k5] 63 (0,0)) by rw[<-d];exact Bc _ _ _ sM) (i:=2) (u:=O b5 n5 k5) rfl;have HX:=ka g;have an:=ka ar;rw[d];obtain⟨s1,ax⟩:=gX w1.heap.size;simp only[ax]at *;clear d az aA ab g ar HS ax;obtain⟨k,hk⟩:=gX q2.num.sign;have am:=ka (fun(W:J)(v:N)(h:Sa W v q2)=>hk▸Ur W v q2 h);rw[hk]at o;clear hk;by_cases ad:k<0
 ·have hd:decide (k<0)=true:=by simp[ad]
  refine Uc [(⟨s1+1,0,Y⟩,O a5 m5 c5),(⟨s1+1,1,Y⟩,Z s5),(⟨s1+1,2,Y⟩,O b5 n5 k5)] cA fun a=>?_;refine Ib (i:=0) ?_;refine Fb (i:=1) (am.o _ _ (aa.ext (Aa.trans HX.o eA))) ?_;rintro e w3 ⟨rfl,x⟩;refine⟨_,rfl,(cE a x),fun a=>?_⟩;refine sN 2 ?_
  iterate 2 refine Bb ?_
  iterate 5 refine Nf ?_
  refine Bb ?_;refine oN ?_;refine Sb ?_;go_wp2;have X3:Aa j w3:=((eR j).drew).trans x;have y:=g3.ext X3;have z:=g4.ext X3;obtain⟨pa,pm,q,ps,p,t,r,p0,p1,p2,aj,ak,al,pz,P⟩:=y.rd;obtain⟨ea,em,ec,es,l,n,m,e0,e1,e2,ae,af,ag,ez,R⟩:=z.rd;refine Mh (fun i=>decide (2<i)) (Ea [(⟨w.heap.size+1,0,Y⟩,O pa pm q),(⟨w.heap.size+1,1,Y⟩,Z ps),(⟨w.heap.size+1,2,Y⟩,O p t r),(⟨w.heap.size+1+1,0,Y⟩,O ea em ec),(⟨w.heap.size+1+1,1,Y⟩,Z es),(⟨w.heap.size+1+1,2,Y⟩,O l n m)]) kM ?_ (fun a=>?_)
  ·exact cA
  refine sN 0 ?_
  iterate 2 refine Wh ?_
  refine oN ?_;refine Kc (i:=2) fun K f=>?_;go_simp;refine kO f (fun _=>?_) (fun a=>?_)
  ·exact cA
  clear f K;have a:=a rfl;refine Kc (i:=3) fun K f=>?_;go_simp;refine kO f (fun h=>nomatch h) (fun a=>?_);clear f K;refine Kc (i:=4) fun K f=>?_;go_simp;refine kO f (fun h=>nomatch h) (fun a=>?_);clear f K;refine Lb kM ?_ _;go_wp2;refine bR (v:=D #[C #[O pa pm q,Z ps,O p t r],C #[O ea em ec,Z es,O l n m],Z false]) (by simp[results,Tryz.results143,go_sem,p0,p1,p2,aj,ak,al,e0,e1,e2,ae,af,ag]) rfl ?_;obtain⟨P1,P2,P3,P4,P5,P6⟩:=RB.copy2 y z oM P R rfl rfl;refine⟨(P6 w (an.o.trans X3) oM oM).drew,C #[O pa pm q,Z ps,O p t r],C #[O ea em ec,Z es,O l n m],?_,?_,rfl⟩
  ·exact(P.keep P4).ext (eR _).drew
  ·exact(R.keep P4).ext (eR _).drew
 ·have hd:decide (k<0)=false:=by simp[ad]
  rw[hd,Bool.false_or]at o;obtain⟨c,hc⟩:=gX (yb q2 (b:Rat));rw[hc]at o HC;clear hc;have aJ:0<c:=by simpa using o
  refine Uc [(⟨s1+1,0,Y⟩,O a5 m5 c5),(⟨s1+1,1,Y⟩,Z s5),(⟨s1+1,2,Y⟩,O b5 n5 k5)] cA fun a=>?_;have E0:Aa w1 j.drew:=HX.o.trans (eR j).drew;refine Ib (i:=0) ?_;refine Fb (i:=1) (am.o _ _ (aa.ext E0)) ?_;rintro e w3 ⟨rfl,x⟩;refine⟨_,rfl,(cE a x),fun a=>?_⟩;refine sN 2 ?_
  iterate 4 refine Bb ?_
  refine oN ?_;refine Fb (i:=6) (Tn _ b aB aC) ?_;rintro e w4 ⟨r4,rfl,aw,ai⟩;obtain⟨a6,m6,c6,s6,b6,n6,k6,rfl⟩:=aw.form;refine⟨_,rfl,(cE a ai),fun a=>?_⟩;refine Fb (i:=7) (HC.o _ _ _ (aa.ext (E0.trans (x.trans ai))) aw) ?_;rintro e w5 ⟨rfl,ay⟩;refine⟨_,rfl,(cE a ay),fun a=>?_⟩;refine sN 8 ?_
  iterate 2 refine Bb ?_
  refine oN ?_;refine Sb ?_;have X3:Aa j w5:=((eR j).drew).trans (x.trans (ai.trans ay));have y:=g3.ext X3;have z:=g4.ext X3;go_wp2;obtain⟨pa,pm,q,ps,p,t,r,p0,p1,p2,aj,ak,al,pz,P⟩:=y.rd;obtain⟨ea,em,ec,es,l,n,m,e0,e1,e2,ae,af,ag,ez,R⟩:=z.rd;refine Mh (fun i=>decide (2<i)) (Ea [(⟨w.heap.size+1,0,Y⟩,O pa pm q),(⟨w.heap.size+1,1,Y⟩,Z ps),(⟨w.heap.size+1,2,Y⟩,O p t r),(⟨w.heap.size+1+1,0,Y⟩,O ea em ec),(⟨w.heap.size+1+1,1,Y⟩,Z es),(⟨w.heap.size+1+1,2,Y⟩,O l n m)]) kM ?_ (fun a=>?_)
  ·exact cA
  refine sN 0 ?_
  iterate 2 refine Wh ?_
  refine oN ?_;refine Kc (i:=2) fun K f=>?_;go_simp;refine kO f (fun _=>?_) (fun a=>?_)
  ·exact cA
  clear f K;have a:=a rfl;refine Kc (i:=3) fun K f=>?_;go_simp;refine kO f (fun h=>nomatch h) (fun a=>?_);clear f K;refine Kc (i:=4) fun K f=>?_;go_simp;refine kO f (fun h=>nomatch h) (fun a=>?_);clear f K;refine Lb kM ?_ _;go_wp2;refine bR (v:=D #[C #[O pa pm q,Z ps,O p t r],C #[O ea em ec,Z es,O l n m],Z false]) (by simp[results,Tryz.results143,go_sem,p0,p1,p2,aj,ak,al,e0,e1,e2,ae,af,ag]) rfl ?_;obtain⟨P1,P2,P3,P4,P5,P6⟩:=RB.copy2 y z oM P R rfl rfl;refine⟨(P6 w (an.o.trans X3) oM oM).drew,C #[O pa pm q,Z ps,O p t r],C #[O ea em ec,Z es,O l n m],?_,?_,rfl⟩
  ·exact(P.keep P4).ext (eR _).drew
  ·exact(R.keep P4).ext (eR _).drew
end
section
open Go.RowKit Go.Shelf Go.Sort
def IG{x y:Int}(h:0<x)(k:x*y<=0):y<=0:=by
 by_cases a:y<=0
 ·exact a
 ·have:=Int.mul_pos h (show 0<y by omega);omega
def JG{x y:Int}(h:0<x)(k:x*y<0):y<0:=by
 by_cases a:y<0
 ·exact a
 ·have:=Int.mul_nonneg (Int.le_of_lt h) (show 0<=y by omega);omega
def kL{c g d j f i:Int}(m:0<c)(n:d<=0)(o:0<f)(k:0<c*i-g*f)(l:0<d*i-j*f):c*j-g*d<0:=by
 have e:f*(c*j-g*d)=d*(c*i-g*f)-c*(d*i-j*f):=by grind
 have a:=Int.mul_pos m l;have b:d*(c*i-g*f)<=0:=Int.mul_nonpos_of_nonpos_of_nonneg n (Int.le_of_lt k);exact JG o oM
def rD{f g c i d j:Int}(o:0<f)(m:c<0)(n:0<d)(k:0<=f*i-g*c)(l:0<=f*j-g*d):c*j-i*d<=0:=by
 have e:f*(c*j-i*d)=c*(f*j-g*d)-d*(f*i-g*c):=by grind
 have a:0<=d*(f*i-g*c):=Int.mul_nonneg (Int.le_of_lt n) k;have b:c*(f*j-g*d)<=0:=Int.mul_nonpos_of_nonpos_of_nonneg (Int.le_of_lt m) l;exact IG o oM
def xk(cs:LP)(u v:Int×Int):Prop:=Md cs u v/\u.1<v.1
def ie(cs:LP)(q:Int×Int):Prop:=∃u v,xk cs u v/\(q=u\/q=v)
def Tf.left0{cs}(h:Tf cs){u v c}(d:Md cs u v)(b:c∈cs):0<=Ie u v c:=by
 by_cases a:c=u
 ·subst a;unfold Ie;grind
 ·by_cases hv:c=v
  ·subst hv;unfold Ie;grind
  ·exact Int.le_of_lt (h.left u v d c b a hv)
def ie.mem{cs q}(h:ie cs q):q∈cs:=by
 obtain⟨u,v,⟨a,_⟩,rfl|rfl⟩:=h
 ·exact a.mem.1
 ·exact a.mem.2
def ie.uniq{cs}(h:Tf cs){u w}(f:ie cs u)(c:ie cs w)(d:u.1=w.1):u=w:=by
 have key:∀{u w:Int×Int},ie cs u->ie cs w->u.1=w.1->¬u.2<w.2:=by
  intro u w f c d m;obtain⟨a,b,⟨j,i⟩,c⟩:=c;have g:=h.left0 j f.mem;unfold Ie at g;rcases c with rfl|rfl
  ·have e:(b.1-w.1)*(u.2-b.2)-(b.2-w.2)*(u.1-b.1)=(b.1-w.1)*(u.2-w.2):=by rw[d];grind
   rw[e]at g;have:=Int.mul_neg_of_pos_of_neg (show 0<b.1-w.1 by omega) (show u.2-w.2<0 by omega);omega
  ·have e:(w.1-a.1)*(u.2-w.2)-(w.2-a.2)*(u.1-w.1)=(w.1-a.1)*(u.2-w.2):=by rw[d];grind
   rw[e]at g;have:=Int.mul_neg_of_pos_of_neg (show 0<w.1-a.1 by omega) (show u.2-w.2<0 by omega);omega
 have k:=key f c d;have l:=key c f d.symm;exact Prod.ext d oM
def Md.next{cs a}(h:a∈cs)(b:2<=cs.length):∃s,Md cs a s:=by
 obtain⟨A,B,rfl⟩:=List.append_of_mem h;cases B with
 | cons s B=>exact⟨s,.inl ⟨A,B,rfl⟩⟩
 |nil=>
  cases A with
  | nil=>simp at b
  | cons v M=>exact⟨v,.inr ⟨M,by simp⟩⟩
def ie.goes{cs}(h:Tf cs){a b}(f:ie cs a)(n:b∈cs)(q:a.1<b.1):∃b',xk cs a b':=by
 obtain⟨u,v,⟨d,l⟩,f⟩:=f;rcases f with rfl|rfl
 ·exact⟨v,d,l⟩
 ·obtain⟨s,j⟩:=Md.next d.mem.2 (by have:=h.three;omega);by_cases k:a.1<s.1
  ·exact⟨s,j,k⟩
  ·exfalso;have g:b≠s:=by rintro rfl;omega
   have c:b≠a:=by rintro rfl;omega
   have i:b≠u:=by rintro rfl;omega
   have m:=h.left u a d b n i c;have e:=h.left a s j b n c g;have p:=h.left0 d j.mem.2;unfold Ie at m e p;have o:(s.1-a.1)*(b.2-s.2)-(s.2-a.2)*(b.1-s.1)=(s.1-a.1)*(b.2-a.2)-(s.2-a.2)*(b.1-a.1):=by grind
   rw[o]at e;have:=kL (show 0<a.1-u.1 by omega) (show s.1-a.1<=0 by omega) (show 0<b.1-a.1 by omega) m e;omega
def ie.edge{cs}(h:Tf cs){a b}(y:ie cs a)(l:ie cs b)(m:a.1<b.1)(r:∀q,ie cs q->¬(a.1<q.1/\q.1<b.1)):xk cs a b:=by
 obtain⟨e,i,u⟩:=y.goes h l.mem m;have f:ie cs e:=⟨a,e,⟨i,u⟩,.inr rfl⟩;by_cases o:e.1=b.1
 ·rw[<-f.uniq h l o];exact⟨i,u⟩
 ·have K:b.1<e.1:=by
   have:=r e f;omega
  exfalso;have n:b≠a:=by rintro rfl;omega
  have g:b≠e:=by rintro rfl;omega
  have s:=h.left a e i b l.mem n g;obtain⟨c,d,⟨t,z⟩,p⟩:=l;have j:=h.left0 t i.mem.1;have k:=h.left0 t i.mem.2;unfold Ie at s j k;have v:(e.1-a.1)*(b.2-e.2)-(e.2-a.2)*(b.1-e.1)=(a.1-b.1)*(e.2-b.2)-(a.2-b.2)*(e.1-b.1):=by grind
  rw[v]at s;rcases p with rfl|rfl
  ·have w:(d.1-b.1)*(a.2-d.2)-(d.2-b.2)*(a.1-d.1)=(d.1-b.1)*(a.2-b.2)-(d.2-b.2)*(a.1-b.1):=by grind
   have x:(d.1-b.1)*(e.2-d.2)-(d.2-b.2)*(e.1-d.1)=(d.1-b.1)*(e.2-b.2)-(d.2-b.2)*(e.1-b.1):=by grind
   rw[w]at j;rw[x]at k;have:=rD (show 0<d.1-b.1 by omega) (show a.1-b.1<0 by omega) (show 0<e.1-b.1 by omega) j k;omega
  ·have:=rD (show 0<b.1-c.1 by omega) (show a.1-b.1<0 by omega) (show 0<e.1-b.1 by omega) j k;omega
end
section
open Go.RowKit Go.Shelf Go.Sort Go.Lib
def Ru{l m}(s:l.Perm m)(q:∀x∈l,BP x)(c:m.Pairwise fun x y=>x.1<y.1):jf l=m:=by
 have n:=py q;have f:=(Vk l).trans s;refine List.Perm.eq_of_pairwise (le:=fun x y=>x.1<=y.1) ?_ n (c.imp fun h=>by omega) f;intro a b o e p r;have d:a∈m:=f.mem_iff.1 o;obtain⟨i,g,rfl⟩:=List.getElem_of_mem d;obtain⟨j,k,rfl⟩:=List.getElem_of_mem e;rw[List.pairwise_iff_getElem]at c;rcases Nat.lt_trichotomy i j with h|h|h
 ·have:=c i j g k h;omega
 ·subst h;rfl
 ·have:=c j i k g h;omega
def qk(z:Int):List Int->List Int
 | []=>[z]
 | y::ys=>if z<=y then z::y::ys else y::qk z ys
def Dk:List Int->List Int
 | []=>[]
 | z::zs=>qk z (Dk zs)
def ix z:∀ys,(qk z ys).Perm (z::ys)
 | []=>List.Perm.refl _
 | y::ys=>by
  unfold qk;split
  ·exact List.Perm.refl _
  ·exact((ix z ys).cons y).trans (List.Perm.swap _ _ _)
def SE z:∀ys,ys.Pairwise (fun x y:Int=>x<=y)->(qk z ys).Pairwise (fun x y:Int=>x<=y)
 | [],_=>by unfold qk;exact List.pairwise_singleton _ _
 | y::ys,h=>by
  obtain⟨c,d⟩:=List.pairwise_cons.1 h;unfold qk;split
  ·rename_i hz;refine List.pairwise_cons.2 ⟨fun a b=>?_,h⟩;rcases List.mem_cons.1 b with rfl|b
   ·exact hz
   ·exact Int.le_trans hz (c a b)
  ·rename_i hz;refine List.pairwise_cons.2 ⟨fun a b=>?_,SE z ys d⟩;rcases List.mem_cons.1 ((ix z ys).mem_iff.1 b)with rfl|b
   ·omega
   ·exact c a b
def Pp:∀zs,(Dk zs).Perm zs
 | []=>List.Perm.refl _
 | z::zs=>(ix z _).trans ((Pp zs).cons z)
def PE:∀zs,(Dk zs).Pairwise (fun x y:Int=>x<=y)
 | []=>List.Pairwise.nil
 | z::zs=>SE z _ (PE zs)
def Fr:Vf=Dk:=by
 funext zs
 unfold Vf;refine List.Perm.eq_of_pairwise (le:=fun x y:Int=>x<=y) (fun a b _ _ d e=>Int.le_antisymm d e) ?_ (PE zs) ((List.mergeSort_perm zs _).trans (Pp zs).symm);have:=List.pairwise_mergeSort (le:=fun x y:Int=>decide (x<=y)) (fun a b c d e=>by simp at *;omega) (fun a b=>by simp;omega) zs;exact this.imp fun h=>by simpa using h
end
section
open Go.RowKit Go.Shelf Go.Sort
def Lg(p:Int×Int):Int×Int:=(-p.1,-p.2)
def Bk p:Lg (Lg p)=p:=by unfold Lg;simp
def Tf.ng{cs}(h:Tf cs):Tf (cs.map Lg):=
 h.map _ (fun u v c=>by unfold Ie Lg;dsimp only;grind) (fun x y e=>by rw[<-Bk x,e,Bk])
def Md.maps{cs} f{u v}(h:Md cs u v):Md (cs.map f) (f u) (f v):=by
 rcases h with ⟨A,B,rfl⟩|⟨M,rfl⟩
 ·exact .inl ⟨A.map f,B.map f,by simp⟩
 ·exact .inr ⟨M.map f,by simp⟩
def Md.ng{cs u v}(h:Md (cs.map Lg) u v):Md cs (Lg u) (Lg v):=by
 have:=h.maps Lg
 rwa [List.map_map,show Lg ∘ Lg=id from funext Bk,List.map_id]at this
def Um(cs:LP)(u v:Int×Int):Prop:=Md cs u v/\v.1<u.1
def rh(cs:LP)(q:Int×Int):Prop:=∃u v,Um cs u v/\(q=u\/q=v)
def Um.ng{cs u v}:Um cs u v ↔ xk (cs.map Lg) (Lg u) (Lg v):=by
 constructor
 ·rintro ⟨h,k⟩;exact⟨h.maps Lg,by unfold Lg;dsimp only;omega⟩
 ·rintro ⟨h,k⟩;have:=h.ng;rw[Bk,Bk]at this;exact⟨this,by unfold Lg at k;dsimp only at k;omega⟩
def rh.ng{cs q}:rh cs q ↔ ie (cs.map Lg) (Lg q):=by
 constructor
 ·rintro ⟨u,v,h,a⟩;exact⟨Lg u,Lg v,Um.ng.1 h,by rcases a with rfl|rfl<;>simp⟩
 ·rintro ⟨u,v,h,a⟩;refine⟨Lg u,Lg v,Um.ng.2 (by rw[Bk,Bk];exact h),?_⟩;rcases a with rfl|rfl
  ·exact .inl (Bk q).symm
  ·exact .inr (Bk q).symm
def rh.uniq{cs}(h:Tf cs){u w}(a:rh cs u)(b:rh cs w)(c:u.1=w.1):u=w:=by have:=ie.uniq h.ng (rh.ng.1 a) (rh.ng.1 b) (by unfold Lg;dsimp only;omega);rw[<-Bk u,this,Bk]
def rh.edge{cs}(h:Tf cs){a b}(e:rh cs a)(g:rh cs b)(f:a.1<b.1)(c:∀q,rh cs q->¬(a.1<q.1/\q.1<b.1)):Um cs b a:=by refine Um.ng.2 (ie.edge h.ng (rh.ng.1 g) (rh.ng.1 e) (by unfold Lg;dsimp only;omega) (fun q i d=>?_));refine c (Lg q) (rh.ng.2 (by rw[Bk];exact i)) ?_;unfold Lg at d ⊢;dsimp only at d ⊢;omega
def So{cs}(c:2<=cs.length){u v}:Md cs u v ↔ ∃i,i<cs.length/\cs.getD i (0,0)=u/\cs.getD ((i+1)%cs.length) (0,0)=v:=by
 constructor
 ·rintro (⟨A,B,e⟩|⟨M,e⟩)
  ·have l:A.length+1<cs.length:=by rw[e];simp
   refine⟨A.length,by omega,?_,?_⟩
   ·rw[gD,e];simp
   ·rw[Nat.mod_eq_of_lt l,gD,e];simp
  ·have m:cs.length=M.length+2:=by rw[e];simp
   refine⟨M.length+1,by omega,?_,?_⟩
   ·rw[gD,e];simp
   ·rw[show M.length+1+1=cs.length by omega,Nat.mod_self,gD,e];simp
 ·rintro ⟨i,b,rfl,rfl⟩;have g:∀j,(hj:j<cs.length)->cs.getD j (0,0)=cs[j]:=fun j hj=>by rw[gD,gE hj];rfl
  by_cases a:i+1<cs.length
  ·rw[Nat.mod_eq_of_lt a,g i b,g (i+1) a];refine .inl ⟨cs.take i,cs.drop (i+1+1),?_⟩;rw[<-List.drop_eq_getElem_cons a,<-List.drop_eq_getElem_cons b,List.take_append_drop]
  ·have e:i+1=cs.length:=oM;rw[e,Nat.mod_self,g i b,g 0 oM]
   right
   cases cs with
   | nil=>simp at c
   | cons v r =>
    (have d:r≠[]:=by rintro rfl;simp at c);refine⟨r.dropLast,?_⟩;have k:(v::r)[i]=r.getLast d:=by
     rw[List.getLast_eq_getElem];simp only[List.length_cons]at e;obtain⟨f,rfl⟩:∃f,i=f+1:=⟨i-1,by have:=List.length_pos_iff.2 d;omega⟩;simp only[List.getElem_cons_succ]
     congr 1
     omega
    rw[k];simp[List.dropLast_concat_getLast]
def Ut{cs}(c:2<=cs.length){q}:q∈Pc cs cs.length ↔ ie cs q:=by
 unfold Pc ie xk;rw[List.mem_flatMap];constructor
 ·rintro ⟨i,b,a⟩;rw[List.mem_range]at b;unfold ze at a;split at a
  ·rename_i hx;refine⟨_,_,⟨(So c).2 ⟨i,b,rfl,rfl⟩,hx⟩,?_⟩;simpa using a
  ·cases a
 ·rintro ⟨u,v,⟨d,hx⟩,a⟩;obtain⟨i,b,rfl,rfl⟩:=(So c).1 d;refine⟨i,List.mem_range.2 b,?_⟩;unfold ze;rw[if_pos hx];simpa using a
def uE{cs}(c:2<=cs.length){q}:q∈je cs cs.length ↔ rh cs q:=by
 unfold je rh Um;rw[List.mem_flatMap];constructor
 ·rintro ⟨i,b,a⟩;rw[List.mem_range]at b;unfold Df at a;split at a
  ·rename_i hx;refine⟨_,_,⟨(So c).2 ⟨i,b,rfl,rfl⟩,hx⟩,?_⟩;simpa using a
  ·cases a
 ·rintro ⟨u,v,⟨d,hx⟩,a⟩;obtain⟨i,b,rfl,rfl⟩:=(So c).1 d;refine⟨i,List.mem_range.2 b,?_⟩;unfold Df;rw[if_pos hx];simpa using a
def yk{α}[DecidableEq α]:∀{c}{x:α},x∈c->x∈Ma c
 | [a],x,h=>by simpa[Ma] using h
 | a::b::r,x,h=>by
  rw[Ma];split
  ·rename_i e;subst e;rcases List.mem_cons.1 h with rfl|h
   ·exact yk (by simp)
   ·exact yk h
  ·rcases List.mem_cons.1 h with rfl|h
   ·simp
   ·exact mC _ (yk h)
def Rp{a q}:q∈kd a ↔ q∈a:=
 ⟨fun h=>(Vk a).mem_iff.1 (Aq h),fun h=>yk ((Vk a).mem_iff.2 h)⟩
def vd(l:LP):Prop:=l.Pairwise fun x y=>x.1<y.1
def Ou:∀(l:LP),l.Pairwise (fun x y=>x.1<=y.1)->(∀x∈l,∀y∈l,x.1=y.1->x=y)->vd (Ma l)
 | [],_,_=>List.Pairwise.nil
 | [a],_,_=>by unfold vd;simp[Ma]
 | a::b::r,h,hu=>by
  obtain⟨f,g⟩:=List.pairwise_cons.1 h;have i:=Ou (b::r) g (fun x m y d=>hu x (mC _ m) y (mC _ d));rw[Ma];split
  ·exact i
  ·rename_i hne;refine List.pairwise_cons.2 ⟨fun y d=>?_,i⟩;have c:=Aq d;have k:=f y c;have n:=f b sM;have j:b.1<=y.1:=by
    rcases List.mem_cons.1 c with rfl|c
    ·exact Int.le_refl _
    ·exact(List.pairwise_cons.1 g).1 y c
   have:a.1≠b.1:=fun e=>hne (hu a sM b sM e);omega
def xE{k a}(e:tg k a)(c:k<=1000000)(f:∀x∈a,∀y∈a,x.1=y.1->x=y):vd (kd a):=by
 have d:=Vk a;exact Ou _ (py fun x b=>by
  have:=e x b;unfold BP;exact⟨this.1.mono c,this.2.mono c⟩) (fun x b y g=>f x (d.mem_iff.1 b) y (d.mem_iff.1 g))
def vd.between{l}(h:vd l){e}(d:e∈Cf l):e.1∈l/\e.2∈l/\e.1.1<e.2.1/\∀q∈l,¬(e.1.1<q.1/\q.1<e.2.1):=by
 unfold Cf at d;obtain⟨i,f,rfl⟩:=List.getElem_of_mem d;have b:i+1<l.length:=by rw[List.length_zip,List.length_tail]at f;omega
 have k:(l.zip l.tail)[i]'f=(l[i]' oM,l[i+1]'b):=sM;rw[k];have c:=List.pairwise_iff_getElem.1 h;refine⟨List.getElem_mem _,List.getElem_mem _,c i (i+1) oM b oM,fun q n=>?_⟩;obtain⟨j,g,rfl⟩:=List.getElem_of_mem n;dsimp only;rintro ⟨o,p⟩;rcases Nat.lt_trichotomy j i with a|rfl|a
 ·have:=c j i g oM a;omega
 ·omega
 ·rcases Nat.lt_or_eq_of_le (show i+1<=j from a)with m|rfl
  ·have:=c (i+1) j b g m;omega
  ·omega
def Ol{p}(h:Ca p=true):vd (Da p)/\(∀q,q∈Da p ↔ ie (Ga p) q)/\∀e∈Cf (Da p),xk (Ga p) e.1 e.2:=by
 have c:=pq h;have b:2<=(Ga p).length:=by have:=c.three;omega
 obtain⟨i,r,Yh⟩:=Xn h;have l:=WD i (nE _);have a:∀q,q∈Da p ↔ ie (Ga p) q:=fun q=>by unfold Da;rw[Rp,Ut b]
 have g:vd (Da p):=xE l.1 dM (fun x f y m e=>ie.uniq c ((Ut b).1 f) ((Ut b).1 m) e);refine⟨g,a,fun e j=>?_⟩;obtain⟨n,o,f,d⟩:=g.between j;exact ie.edge c ((a _).1 n) ((a _).1 o) f (fun q k=>d q ((a q).2 k))
def yy{p}(h:Ca p=true):vd (La p)/\(∀q,q∈La p ↔ rh (Ga p) q)/\∀e∈Cf (La p),Um (Ga p) e.2 e.1:=by
 have c:=pq h;have b:2<=(Ga p).length:=by have:=c.three;omega
 obtain⟨i,r,Yh⟩:=Xn h;have l:=WD i (nE _);have a:∀q,q∈La p ↔ rh (Ga p) q:=fun q=>by unfold La;rw[Rp,uE b]
 have g:vd (La p):=xE l.2 dM (fun x f y m e=>rh.uniq c ((uE b).1 f) ((uE b).1 m) e);refine⟨g,a,fun e j=>?_⟩;obtain⟨n,o,f,d⟩:=g.between j;exact rh.edge c ((a _).1 n) ((a _).1 o) f (fun q k=>d q ((a q).2 k))
def xh(k:Int):Rat:=((2*k+1:Int):Rat)/2
def kC x y:yb x y<=0 ↔ x<=y:=by rw[<-Int.not_lt,Ox,Rat.not_lt]
def Gz k:xh k*2=((2*k+1:Int):Rat):=by unfold xh;rw[Rat.div_mul_cancel dM]
def iG(k m:Int):xh k<=(m:Rat) ↔ k<m:=by
 have c:(0:Rat)<=2:=dM;have b:(m:Rat)*2=((m*2:Int):Rat):=by rw[Rat.intCast_mul];rfl
 constructor
 ·intro h;have:=Rat.mul_le_mul_of_nonneg_right h c;rw[Gz,b,Rat.intCast_le_intCast]at this;omega
 ·intro h;refine Rat.not_lt.1 fun a=>?_;have:=Rat.mul_le_mul_of_nonneg_right (Rat.le_of_lt a) c;rw[Gz,b,Rat.intCast_le_intCast]at this;omega
def DD k:∀(l:LP) a ,a.1<=k->(∃b∈l,k<b.1)->∃e∈Cf (a::l),e.1.1<=k/\k<e.2.1/\(Cf (a::l)).find? (Nh (xh k))=F e
 | [],a,_,⟨b,d,_⟩=>by cases d
 | b::r,a,ha,h=>by
  have e:Cf (a::b::r)=(a,b)::Cf (b::r):=rfl;have j:Nh (xh k) (a,b)=decide (k<b.1):=by
   unfold Nh;rw[decide_eq_decide,kC,iG]
  rw[e];by_cases d:k<b.1
  ·refine⟨(a,b),by simp,ha,d,?_⟩;rw[List.find?_cons,j,decide_eq_true d]
  ·obtain⟨m,c,i⟩:=h;have f:∃b∈r,k<b.1:=by
    rcases List.mem_cons.1 c with rfl|c
    ·exact absurd i d
    ·exact⟨m,c,i⟩
   obtain⟨n,g,o,p,q⟩:=DD k r b oM f;refine⟨n,mC _ g,o,p,?_⟩;rw[List.find?_cons,j,decide_eq_false d];exact q
def EJ{l:LP}{k}(d:l≠[])(j:Ua l<=k)(c:k<qb l):∃e∈Cf l,e.1.1<=k/\k<e.2.1/\kb l (xh k)=Yi (xh k) e:=by
 cases l with
 | nil=>exact absurd rfl d
 | cons a r =>
  have m:a.1<=k:=j;have o:∃b∈r,k<b.1:=by
   cases r with
   | nil=>unfold qb at c;simp at c;omega
   | cons b r =>
    refine⟨(b::r).getLast sM,List.getLast_mem _,?_⟩;unfold qb at c;rw[gD,gE sM]at c;simp only[Option.getD_some]at c;rw[List.getLast_eq_getElem];simpa using c
  obtain⟨e,n,f,g,i⟩:=DD k r a m o;refine⟨e,n,f,g,?_⟩;unfold kb;rw[i]
def ko{cs}(h:Tf cs) u v:∃c∈cs,c≠u/\c≠v:=by
 apply Classical.byContradiction;intro d;have f:∀c∈cs,c∈[u,v]:=fun c b=>by
  apply Classical.byContradiction;intro a;exact d ⟨c,b,fun e=>a (by simp[e]),fun e=>a (by simp[e])⟩
 have:=List.Nodup.length_le_of_subset h.nd f;have:=h.three;simp at *;omega
def Md.ne{cs}(h:Tf cs){u v}(f:Md cs u v):u≠v:=by
 rintro rfl;obtain⟨c,d,a,b⟩:=ko h u u;have:=h.left u u f c d a b;unfold Ie at this;have e:(u.1-u.1)*(c.2-u.2)-(u.2-u.2)*(c.1-u.1)=0:=by grind
 omega
def Tf.minLow{cs}(h:Tf cs):∃u,ie cs u/\∀c∈cs,u.1<=c.1:=by
 obtain⟨v,hv,a⟩:=tD (fun q:Int×Int=>q.1) (S:=cs) (by rintro rfl;have:=h.three;simp at this);have r:2<=cs.length:=by have:=h.three;omega
 obtain⟨s,j⟩:=Md.next hv r;by_cases n:v.1<s.1
 ·exact⟨v,⟨v,s,⟨j,n⟩,.inl rfl⟩,a⟩
 have d:=j.mem.2;have o:s.1=v.1:=by have:=a s d;omega
 obtain⟨t,k⟩:=Md.next d r;by_cases l:s.1<t.1
 ·exact⟨s,⟨s,t,⟨k,l⟩,.inl rfl⟩,fun c i=>by rw[o];exact a c i⟩
 exfalso;have f:=k.mem.2;have y:t.1=v.1:=by have:=a t f;omega
 by_cases g:t=v
 ·subst g;obtain⟨c,i,p,w⟩:=ko h t s;have b:=h.left t s j c i p w;have x:=h.left s t k c i w p;unfold Ie at b x;have e:(s.1-t.1)*(c.2-s.2)-(s.2-t.2)*(c.1-s.1)+((t.1-s.1)*(c.2-t.2)-(t.2-s.2)*(c.1-t.1))=0:=by grind
  omega
 ·have m:t≠s:=fun e=>(k.ne h) e.symm;have b:=h.left v s j t f g m;unfold Ie at b;rw[o,y,Int.sub_self]at b;simp at b
def An(p:Int×Int):Int×Int:=(p.1,-p.2)
def Tt p:An (An p)=p:=by unfold An;simp
def Tf.mz{cs}(h:Tf cs):Tf (cs.map An).reverse:=
 h.flip _ (fun u v c=>by unfold Ie An;dsimp only;grind) (fun x y e=>by rw[<-Tt x,e,Tt])
def ie.mz{cs q}(h:ie (cs.map An).reverse q):rh cs (An q):=by
 obtain⟨u,v,⟨e,d⟩,f⟩:=h;obtain⟨i,g,b,c,a⟩:=(Md.rev e).map;refine⟨i,g,⟨a,?_⟩,?_⟩
 ·rw[b,c]at d;exact d
 ·rcases f with rfl|rfl
  ·right;rw[c,Tt]
  ·left;rw[b,Tt]
def Tf.minUp{cs}(h:Tf cs):∃u,rh cs u/\∀c∈cs,u.1<=c.1:=by obtain⟨u,d,b⟩:=h.mz.minLow;refine⟨An u,d.mz,fun c a=>?_⟩;exact b (An c) (List.mem_reverse.2 (List.mem_map_of_mem a))
def Tf.maxLow{cs}(h:Tf cs):∃u,ie cs u/\∀c∈cs,c.1<=u.1:=by
 obtain⟨u,d,b⟩:=h.ng.minUp;refine⟨Lg u,?_,fun c a=>?_⟩
 ·have:=rh.ng.1 d
  rwa [List.map_map,show Lg ∘ Lg=id from funext Bk,List.map_id]at this
 ·have:=b (Lg c) (List.mem_map_of_mem a);unfold Lg at *;dsimp only at *;omega
def Tf.maxUp{cs}(h:Tf cs):∃u,rh cs u/\∀c∈cs,c.1<=u.1:=by obtain⟨u,d,b⟩:=h.ng.minLow;refine⟨Lg u,rh.ng.2 (by rw[Bk];exact d),fun c a=>?_⟩;have:=b (Lg c) (List.mem_map_of_mem a);unfold Lg at *;dsimp only at *;omega
def vd.ends{l}(h:vd l)(c:l≠[]):(∃q∈l,q.1=Ua l)/\(∃q∈l,q.1=qb l)/\∀q∈l,Ua l<=q.1/\q.1<=qb l:=by
 have a:=List.length_pos_iff.2 c;have j:=List.pairwise_iff_getElem.1 h;have d:Ua l=(l[0]'a).1:=by unfold Ua;rw[gD,gE a];rfl
 have e:qb l=(l[l.length-1]' oM).1:=by unfold qb;rw[gD,gE oM];rfl
 refine⟨⟨_,List.getElem_mem a,d.symm⟩,⟨_,List.getElem_mem oM,e.symm⟩,fun q k=>?_⟩;obtain⟨i,g,rfl⟩:=List.getElem_of_mem k;rw[d,e];constructor
 ·rcases Nat.eq_zero_or_pos i with rfl|b
  ·exact Int.le_refl _
  ·have:=j 0 i a g b;omega
 ·rcases Nat.lt_or_ge i (l.length-1)with f|f
  ·have:=j i (l.length-1) g oM f;omega
  ·have:i=l.length-1:=oM;subst this;exact Int.le_refl _
def rh.mem{cs q}(h:rh cs q):q∈cs:=by
 obtain⟨u,v,⟨a,_⟩,rfl|rfl⟩:=h
 ·exact a.mem.1
 ·exact a.mem.2
def Un{p}(h:Ca p=true):Ua (La p)=Ua (Da p)/\qb (La p)=qb (Da p)/\Ua (Da p)<qb (Da p)/\Da p≠[]/\La p≠[]:=by
 have s:=pq h;obtain⟨r1,k,d1⟩:=Ol h;obtain⟨r2,l,d2⟩:=yy h;obtain⟨a,z,f⟩:=s.minLow;obtain⟨b,R,g⟩:=s.minUp;obtain⟨c,K,i⟩:=s.maxLow;obtain⟨d,hd,j⟩:=s.maxUp;have n1:Da p≠[]:=fun e=>by have:=(k a).2 z;rw[e]at this;cases this
 have n2:La p≠[]:=fun e=>by have:=(l b).2 R;rw[e]at this;cases this
 obtain⟨⟨t,m,e1⟩,⟨w,n,e2⟩,r⟩:=r1.ends n1;obtain⟨⟨x,o,e3⟩,⟨y,q,e4⟩,P⟩:=r2.ends n2;have g1:=r a ((k a).2 z);have g2:=P b ((l b).2 R);have g3:=r c ((k c).2 K);have g4:=P d ((l d).2 hd);have k1:=f x ((l x).1 o).mem;have k2:=g t ((k t).1 m).mem;have k3:=i y ((l y).1 q).mem;have k4:=j w ((k w).1 n).mem;have k5:=f t ((k t).1 m).mem;have k6:=g x ((l x).1 o).mem;have k7:=i w ((k w).1 n).mem;have k8:=j y ((l y).1 q).mem;refine⟨by omega,by omega,?_,n1,n2⟩;obtain⟨u,v,⟨W,hx⟩,_⟩:=z;have hu:=r u ((k u).2 ⟨u,v,⟨W,hx⟩,.inl rfl⟩);have hv:=r v ((k v).2 ⟨u,v,⟨W,hx⟩,.inr rfl⟩);omega
end
section
open Go.RowKit Go.Shelf
def ph(by':Int)(a b:Int×Int):Prop:=a.1<b.1\/(a.1=b.1/\by'*(a.2-b.2)<0)
instance (by':Int) (a b:Int×Int):Decidable (ph by' a b):=by unfold ph;infer_instance
def Je(l:LP)(by':Int):Nat->Nat
 | 0=>0
 | i+1=>if ph by' (Qa l i) (Qa l (Je l by' i))then i else Je l by' i
def tL l{by'}(d:by'=1\/by' = -1):∀n,Je l by' (n+1)<n+1/\∀j,j<n+1->¬ph by' (Qa l j) (Qa l (Je l by' (n+1))):=by
 intro n;induction n with
 |zero=>
  have e:Je l by' 1=0:=by unfold Je;split<;>rfl
  rw[e];refine⟨by omega,fun j g=>?_⟩;obtain rfl:j=0:=oM;unfold ph;rcases d with rfl|rfl<;>omega
 | succ n o =>
  obtain⟨i,b⟩:=o;have m:Je l by' (n+1+1)=if ph by' (Qa l (n+1)) (Qa l (Je l by' (n+1)))then n+1 else Je l by' (n+1):=rfl;rw[m];obtain⟨f,k⟩:=gX (Je l by' (n+1));rw[k]at i b ⊢;by_cases c:ph by' (Qa l (n+1)) (Qa l f)
  ·rw[if_pos c];refine⟨by omega,fun j g=>?_⟩;by_cases a:j=n+1
   ·subst a;unfold ph;rcases d with rfl|rfl<;>omega
   ·have:=b j oM;unfold ph at *
    rcases d with rfl|rfl<;>omega
  ·rw[if_neg c];refine⟨by omega,fun j g=>?_⟩;by_cases a:j=n+1
   ·subst a;exact c
   ·exact b j oM
def Eh(n s:Nat)(by':Int)(k:Nat):Nat:=(((s:Int)+by'*(k:Int))%(n:Int)).toNat
def GO{n s k by'}(h:0<n):Eh n s by' k<n:=by unfold Eh;have a:=Int.emod_nonneg ((s:Int)+by'*(k:Int)) (show (n:Int)≠0 by omega);have b:=Int.emod_lt_of_pos ((s:Int)+by'*(k:Int)) (show 0<(n:Int) by omega);omega
def lw{n s by'}(h:s<n):Eh n s by' 0=s:=by unfold Eh;simp only[Int.natCast_zero,Int.mul_zero,Int.add_zero];rw[Int.emod_eq_of_lt oM oM];omega
def uw{n s k by'}(h:0<n):(Eh n s by' k:Int)=((s:Int)+by'*(k:Int))%(n:Int):=by unfold Eh;have a:=Int.emod_nonneg ((s:Int)+by'*(k:Int)) (show (n:Int)≠0 by omega);omega
def CP{n s k by'}(h:0<n):(((Eh n s by' k:Nat):Int)+by'+(n:Int))%(n:Int)=((Eh n s by' (k+1):Nat):Int):=by
 rw[uw h,uw h,Int.add_emod_right,Int.emod_add_emod]
 congr 1
 rw[Int.natCast_add];grind
def FM{n s k}(h:0<n):(Eh n s 1 k+1)%n=Eh n s 1 (k+1):=by
 have:=CP (n:=n) (s:=s) (k:=k) (by':=1) h;rw[Int.add_emod_right]at this;have e:(((Eh n s 1 k+1)%n:Nat):Int)=((Eh n s 1 k:Nat)+1:Int)%n:=by rw[Int.natCast_emod,Int.natCast_add];rfl
 omega
def RA{n s k}(h:0<n):(Eh n s (-1) (k+1)+1)%n=Eh n s (-1) k:=by
 have a:=uw (n:=n) (s:=s) (k:=k+1) (by':=-1) h;have b:=uw (n:=n) (s:=s) (k:=k) (by':=-1) h;have e:(((Eh n s (-1) (k+1)+1)%n:Nat):Int)=((Eh n s (-1) (k+1):Nat)+1:Int)%n:=by rw[Int.natCast_emod,Int.natCast_add];rfl
 have:(((Eh n s (-1) (k+1)+1)%n:Nat):Int)=((Eh n s (-1) k:Nat):Int):=by
  rw[e,a,b,Int.emod_add_emod]
  congr 1
  rw[Int.natCast_add];grind
 omega
structure Jq (cs:LP) (by':Int) (L:LP):Prop where
 ne:L≠[]
 pos:0<cs.length
 at':∀k,k<L.length->Qa L k=Qa cs (Eh cs.length (Je cs by' cs.length) by' k)
 up:∀k,k+1<L.length->(Qa L k).1<(Qa L (k+1)).1
 stop:(Qa cs (Eh cs.length (Je cs by' cs.length) by' L.length)).1<=(Qa L (L.length-1)).1
def Ch{l i}(h:i<l.length):Qa l i=l[i]:=by unfold Qa;rw[gD,gE h];rfl
def Gi{l i}(h:i<l.length):Qa l i∈l:=by rw[Ch h];exact List.getElem_mem h
def Gv{l}(h:l.Nodup){i j}(b:i<l.length)(c:j<l.length)(e:Qa l i=Qa l j):i=j:=by
 rw[Ch b,Ch c]at e;have d:=List.pairwise_iff_getElem.1 h;rcases Nat.lt_trichotomy i j with a|a|a
 ·exact absurd e (d i j b c a)
 ·exact a
 ·exact absurd e.symm (d j i c b a)
def vA{l k}(h:k+1<l.length):(Qa l k,Qa l (k+1))∈Cf l:=by
 refine lM (i:=k) (MP ?_ ?_)
 ·rw[Ch oM];exact gE _
 ·rw[Ch h];exact gE _
def Nx{l}(h:vd l){i j}(a:i<j)(b:j<l.length):(Qa l i).1<(Qa l j).1:=by rw[Ch oM,Ch b];exact List.pairwise_iff_getElem.1 h i j oM b a
def yA{cs L by'}(v:by'=1\/by' = -1)(g:cs.Nodup)(h3:3<=cs.length)(hr:vd L)(l:L≠[])(p:∀q∈L,q∈cs)(y:∀c∈cs,c≠Qa L 0->ph by' (Qa L 0) c)(t:∀k,k+1<L.length->∃i,i<cs.length/\(by'=1->Qa cs i=Qa L k/\Qa cs ((i+1)%cs.length)=Qa L (k+1))/\(by' = -1->Qa cs i=Qa L (k+1)/\Qa cs ((i+1)%cs.length)=Qa L k))(f:∀i j,i<cs.length->j<cs.length->Qa cs i=Qa L (L.length-1)->(by'=1->j=(i+1)%cs.length)->(by' = -1->i=(j+1)%cs.length)->(Qa cs j).1<=(Qa L (L.length-1)).1):Jq cs by' L:=by
 have R:=List.length_pos_iff.2 l;obtain⟨n,W⟩:∃n,cs.length=n+1:=⟨cs.length-1,by omega⟩;obtain⟨u,w⟩:=tL cs v n;rw[<-W]at u w;have d:∀k,k<L.length->Qa L k=Qa cs (Eh cs.length (Je cs by' cs.length) by' k):=by
  intro k;induction k with
  |zero=>
   intro _;rw[lw u];by_cases e:Qa cs (Je cs by' cs.length)=Qa L 0
   ·exact e.symm
   ·exfalso;obtain⟨j,P,x⟩:=List.getElem_of_mem (p _ (Gi R));have:=w j oM;rw[Ch P,x]at this;exact this (y _ (Gi u) e)
  | succ k o =>
   intro r;have o:=o oM;obtain⟨i,K,i1,i2⟩:=t k r;rcases v with rfl|rfl
   ·obtain⟨a,b⟩:=i1 rfl;rw[o]at a;have:=Gv g K (GO oM) a;rw[<-b,this,FM oM]
   ·obtain⟨a,b⟩:=i2 rfl;rw[o]at b;have m:=Gv g (Nat.mod_lt _ oM) (GO oM) b;have:i=Eh cs.length (Je cs (-1) cs.length) (-1) (k+1):=by
     have z:=RA (n:=cs.length) (s:=Je cs (-1) cs.length) (k:=k) oM;have h7:=GO (n:=cs.length) (s:=Je cs (-1) cs.length) (k:=k+1) (by':=-1) oM;rw[<-z]at m;rw[Li oM,Li oM]at m;split at m<;>split at m<;>omega
    rw[<-a,this]
 refine⟨l,by omega,d,fun k r=>Nx hr oM r,?_⟩;have e:=d (L.length-1) oM;refine f _ _ (GO oM) (GO oM) e.symm (fun h=>?_) (fun h=>?_)
 ·subst h;rw[FM oM,show L.length-1+1=L.length by omega]
 ·subst h;have:=RA (n:=cs.length) (s:=Je cs (-1) cs.length) (k:=L.length-1) oM;rw[show L.length-1+1=L.length by omega]at this;exact this.symm
def UI{u v c}(e:c.1=u.1)(d:u.1<v.1)(h:0<Ie u v c):u.2<c.2:=by
 unfold Ie at h;rw[e]at h;have a:(v.1-u.1)*(c.2-v.2)-(v.2-u.2)*(u.1-v.1)=(v.1-u.1)*(c.2-u.2):=by grind
 rw[a]at h;by_cases b:u.2<c.2
 ·exact b
 ·have:=Int.mul_nonpos_of_nonneg_of_nonpos (show 0<=v.1-u.1 by omega) (show c.2-u.2<=0 by omega);omega
def nJ{u v c}(e:c.1=v.1)(d:v.1<u.1)(h:0<Ie u v c):c.2<v.2:=by
 unfold Ie at h;rw[e]at h;have a:(v.1-u.1)*(c.2-v.2)-(v.2-u.2)*(v.1-v.1)=(u.1-v.1)*(v.2-c.2):=by grind
 rw[a]at h;by_cases b:c.2<v.2
 ·exact b
 ·have:=Int.mul_nonpos_of_nonneg_of_nonpos (show 0<=u.1-v.1 by omega) (show v.2-c.2<=0 by omega);omega
def UJ{cs L}(x:Tf cs)(r:vd L)(m:∀q,q∈L ↔ ie cs q)(d:∀e∈Cf L,xk cs e.1 e.2)(ne:L≠[]):Jq cs 1 L:=by
 have R:=List.length_pos_iff.2 ne;have h3:=x.three;obtain⟨a,ha,l⟩:=x.minLow;have g:∀c∈cs,(Qa L 0).1<=c.1:=fun c f=>by
  have w:=(m a).2 ha;obtain⟨i,s,e⟩:=List.getElem_of_mem w;have h2:=l c f;rcases Nat.eq_zero_or_pos i with rfl|o
  ·rw[Ch R,e];exact h2
  ·have:=Nx r o s;rw[Ch s,e]at this;omega
 refine yA (.inl rfl) x.nd h3 r ne (fun q b=>((m q).1 b).mem) ?_ ?_ ?_
 ·intro c f K;have w:=g c f;unfold ph;by_cases e:(Qa L 0).1<c.1
  ·exact .inl e
  ·right
   refine⟨by omega,?_⟩;obtain⟨u,v,⟨p,n⟩,b⟩:=(m _).1 (Gi R);rcases b with b|b
   ·(have y:c≠v:=fun o=>by rw[o,b]at e;exact e n);have:=x.left u v p c f (by rw[<-b];exact K) y;rw[<-b]at this n;have:=UI oM n this;omega
   ·exfalso;have:=g u p.mem.1;rw[b]at this;omega
 ·intro k hk;obtain⟨p,n⟩:=d _ (vA hk);obtain⟨i,s,e1,e2⟩:=(So oM).1 p;exact⟨i,s,fun _=>⟨e1,e2⟩,fun e=>absurd e dM⟩
 ·intro i j s hj e w _;have z:=w rfl;by_cases n:(Qa cs j).1<=(Qa L (L.length-1)).1
  ·exact n
  ·exfalso;have p:Md cs (Qa cs i) (Qa cs j):=(So oM).2 ⟨i,s,rfl,by rw[z];rfl⟩;have b:Qa cs j∈L:=(m _).2 ⟨_,_,⟨p,by rw[e];omega⟩,.inr rfl⟩;obtain⟨t,W,P⟩:=List.getElem_of_mem b;rcases Nat.lt_or_ge t (L.length-1)with o|o
   ·have:=Nx r o oM;rw[Ch W,P]at this;omega
   ·have:t=L.length-1:=oM;rw[<-this,Ch W,P]at n;omega
def VI{cs L}(x:Tf cs)(r:vd L)(m:∀q,q∈L ↔ rh cs q)(d:∀e∈Cf L,Um cs e.2 e.1)(ne:L≠[]):Jq cs (-1) L:=by
 have R:=List.length_pos_iff.2 ne;have h3:=x.three;obtain⟨a,ha,l⟩:=x.minUp;have g:∀c∈cs,(Qa L 0).1<=c.1:=fun c f=>by
  have w:=(m a).2 ha;obtain⟨i,s,e⟩:=List.getElem_of_mem w;have h2:=l c f;rcases Nat.eq_zero_or_pos i with rfl|o
  ·rw[Ch R,e];exact h2
  ·have:=Nx r o s;rw[Ch s,e]at this;omega
 refine yA (.inr rfl) x.nd h3 r ne (fun q b=>((m q).1 b).mem) ?_ ?_ ?_
 ·intro c f K;have w:=g c f;unfold ph;by_cases e:(Qa L 0).1<c.1
  ·exact .inl e
  ·right
   refine⟨by omega,?_⟩;obtain⟨u,v,⟨p,n⟩,b⟩:=(m _).1 (Gi R);rcases b with b|b
   ·exfalso;have:=g v p.mem.2;rw[b]at this;omega
   ·(have y:c≠u:=fun o=>by rw[o,b]at e;exact e n);have:=x.left u v p c f y (by rw[<-b];exact K);rw[<-b]at this n;have:=nJ oM n this;omega
 ·intro k hk;obtain⟨p,n⟩:=d _ (vA hk);obtain⟨i,s,e1,e2⟩:=(So oM).1 p;exact⟨i,s,fun e=>absurd e dM,fun _=>⟨e1,e2⟩⟩
 ·intro i j s hj e _ w;have z:=w rfl;by_cases n:(Qa cs j).1<=(Qa L (L.length-1)).1
  ·exact n
  ·exfalso;have p:Md cs (Qa cs j) (Qa cs i):=(So oM).2 ⟨j,hj,rfl,by rw[<-z];rfl⟩;have b:Qa cs j∈L:=(m _).2 ⟨_,_,⟨p,by rw[e];omega⟩,.inl rfl⟩;obtain⟨t,W,P⟩:=List.getElem_of_mem b;rcases Nat.lt_or_ge t (L.length-1)with o|o
   ·have:=Nx r o oM;rw[Ch W,P]at this;omega
   ·have:t=L.length-1:=oM;rw[<-this,Ch W,P]at n;omega
def TH{p}(h:Ca p=true):Jq (Ga p) 1 (Da p):=
 UJ (pq h) (Ol h).1 (Ol h).2.1 (Ol h).2.2 (Un h).2.2.2.1
def xH{p}(h:Ca p=true):Jq (Ga p) (-1) (La p):=
 VI (pq h) (yy h).1 (yy h).2.1 (yy h).2.2 (Un h).2.2.2.2
end
section
open Go.RowKit Go.Shelf Go.Sort Go.Lib
def qC a b:Yi (a.1:Rat) (a,b)=(a.2:Rat):=by unfold Yi;dsimp only;rw[Rat.sub_self,Rat.zero_mul,Rat.div_def,Rat.zero_mul,Rat.add_zero]
def Ew a b(h:a.1<b.1):Yi (b.1:Rat) (a,b)=(b.2:Rat):=by
 have e:((b.1-a.1:Int):Rat)≠0:=by
  intro f;have:(b.1-a.1:Int)=0:=by exact_mod_cast f
  omega
 unfold Yi;dsimp only;generalize hq:(((b.1:Int):Rat)-((a.1:Int):Rat))*((b.2-a.2:Int):Rat)/((b.1-a.1:Int):Rat)=q;have d:q*((b.1-a.1:Int):Rat)=(((b.1:Int):Rat)-((a.1:Int):Rat))*((b.2-a.2:Int):Rat):=by rw[<-hq,Rat.div_mul_cancel e]
 rw[<-Rat.intCast_sub,Rat.mul_comm]at d;have:q=((b.2-a.2:Int):Rat):=by
  have c:(q-((b.2-a.2:Int):Rat))*((b.1-a.1:Int):Rat)=0:=by grind
  rcases Rat.mul_eq_zero.1 c with c|c
  ·grind
  ·exact absurd c e
 rw[this,Rat.intCast_sub];grind
def xN x a b(k:((a.1:Int):Rat)<=x)(o:x<=((b.1:Int):Rat)):∀ l ,vd l->(a,b)∈Cf l->∃e,(Cf l).find? (Nh x)=F e/\Yi x e=Yi x (a,b)
 | [],_,h=>by simp[Cf]at h
 | [c],_,h=>by simp[Cf]at h
 | c::d::r,hR,h=>by
  have e:Cf (c::d::r)=(c,d)::Cf (d::r):=rfl;have t:Nh x (c,d)=decide (x<=((d.1:Int):Rat)):=by
   unfold Nh;rw[decide_eq_decide,kC]
  obtain⟨p,f⟩:=List.pairwise_cons.1 hR;rw[e]at h ⊢;rw[List.find?_cons,t];rcases List.mem_cons.1 h with h|h
  ·cases h;rw[decide_eq_true o];exact⟨_,rfl,rfl⟩
  ·by_cases j:x<=((d.1:Int):Rat)
   ·rw[decide_eq_true j];refine⟨_,rfl,?_⟩;have i:=(vd.between f h).1;have s:d.1<=a.1:=by
     rcases List.mem_cons.1 i with g|g
     ·dsimp only at g;rw[g];exact Int.le_refl _
     ·have:=(List.pairwise_cons.1 f).1 _ g;dsimp only at this;omega
    have q:a.1<=d.1:=by
     have:=Rat.le_trans k j;exact Rat.intCast_le_intCast.1 this
    have m:a=d:=by
     rcases List.mem_cons.1 i with g|g
     ·exact g
     ·have:=(List.pairwise_cons.1 f).1 _ g;dsimp only at this;omega
    subst m;have n:x=((a.1:Int):Rat):=Rat.le_antisymm j k;rw[n,qC,Ew _ _ (p a sM)]
   ·rw[decide_eq_false j];exact xN x a b k o (d::r) f h
def lG{x l}(c:vd l){e}(i:e∈Cf l)(d:((e.1.1:Int):Rat)<=x)(g:x<=((e.2.1:Int):Rat)):kb l x=Yi x e:=by obtain⟨f,a,b⟩:=xN x e.1 e.2 d g l c i;unfold kb;rw[a];exact b
def Dw e s t x:(t-s)*Yi x e=(t-x)*Yi s e+(x-s)*Yi t e:=by unfold Yi;simp only[Rat.div_def];grind
def AD{zs}{z:Int}(h:z∈zs):z∈compact zs:=by
 obtain⟨i,a,rfl⟩:=List.getElem_of_mem h;have b:∀j,(hj:j<zs.length)->zs.toArray[j]! = zs[j]:=fun j hj=>by rw[getElem!_pos _ _ (by simpa using hj)];simp
 have key:∀i,(a:i<zs.length)->∃j,j<zs.length/\keeps zs.toArray j=true/\zs.toArray[j]! = zs[i]:=by
  intro i;induction i with
  | zero=>intro a;exact⟨0,a,by simp[keeps],b 0 a⟩
  | succ i f =>
   intro a;cases hk:keeps zs.toArray (i+1)with
   | true=>exact⟨i+1,a,hk,b _ a⟩
   |false=>
    obtain⟨j,c,d,e⟩:=f oM;refine⟨j,c,d,?_⟩;rw[e,<-b _ a,<-b i oM];simp[keeps]at hk;grind
 obtain⟨j,c,d,e⟩:=key i a;unfold compact compactUpTo;refine List.mem_map.2 ⟨j,List.mem_filter.2 ⟨List.mem_range.2 c,d⟩,e⟩
def MK{s}{z:Int}(h:z=s.lo\/z=s.hi\/(s.lo<z/\z<s.hi/\∃q∈s.over++s.under,q.1=z)):(z:Rat)∈Pa s:=by
 unfold Pa Eb;refine List.mem_map_of_mem (AD (Fh.2 ?_));rcases h with rfl|rfl|⟨a,b,q,c,rfl⟩
 ·simp
 ·simp
 ·refine mC _ (mC _ ?_);unfold Wf;refine List.mem_filter.2 ⟨List.mem_map_of_mem c,?_⟩;unfold Cq;simp[a,b]
def yI{q:Rat}(h:0<=q.num.sign):0<=q:=by have:0<=q.num:=Int.sign_nonneg_iff.1 h;exact Rat.num_nonneg.1 this
end
section
open Go.RowKit Go.Shelf
attribute [local go_sem] Oper.semAt_some
def XQ(w:J)(s:Sp)(d e f:N)(b:Int)(a:List Rat)(o:Rat×Rat)(g:Nat)(c:N)(W:J):Prop:=
 ∃i:Nat,i<=a.length/\c=X I i/\g=a.length-i/\vj w s d e f a (Ec (Mb s b) a o i) W
def ED{w W j b o p v x a g m c i c2 s}(u:Aa w W)(R:w.heap.size+1+1+1<=W.heap.size)(K:W.heap[w.heap.size]?=F o)(r:RB W (w.heap.size+1) v)(t:RB W (w.heap.size+1+1) x)(k:Sa W (C #[O a m c,Z s,O g i c2]) p)(d:((W.setCell ⟨w.heap.size+1,0,Y⟩ (O a m c)).setCell ⟨w.heap.size+1,1,Y⟩ (Z s)).setCell ⟨w.heap.size+1,2,Y⟩ (O g i c2)=j)(e:((j.setCell ⟨w.heap.size+1+1,0,Y⟩ (O a m c)).setCell ⟨w.heap.size+1+1,1,Y⟩ (Z s)).setCell ⟨w.heap.size+1+1,2,Y⟩ (O g i c2)=b):Aa w b.drew/\w.heap.size+1+1+1<=b.drew.heap.size/\b.drew.heap[w.heap.size]?=F o/\RB b.drew (w.heap.size+1) p/\RB b.drew (w.heap.size+1+1) p:=by
 obtain⟨l,n,y,z,P,q⟩:=RB.copy2 r t oM k k d e;have f:Aa b b.drew:=(eR _).drew;refine⟨(q w u oM oM).drew,nT oM f.size,f.e ?_,l.ext f,n.ext f⟩;rw[<-e,<-d]
 repeat rw[bS _ _ _ _ dO]
 exact K
def vj.box{w s v1 v2 j k o W}(h:vj w s v1 v2 j k o W){a y m c P c2 b x p p0}(hb:w.heap.size+1+1+1<=b)(hv:j.ownBlock≠F b)(z:RB W b p0)(hz:Sa W (C #[O a m c,Z x,O y P c2]) p){g}(d:((W.setCell ⟨b,0,Y⟩ (O a m c)).setCell ⟨b,1,Y⟩ (Z x)).setCell ⟨b,2,Y⟩ (O y P c2)=g):vj w s v1 v2 j k o g/\RB g b p/\(∀b' r,b'≠b->RB W b' r->RB g b' r)/\g.heap.size=W.heap.size:=by
 obtain⟨h1,h2,h3,h4,h5,h6⟩:=h;have t:=z.not;have v:=t.set ⟨b,0,Y⟩ (O a m c);have R:=v.set ⟨b,1,Y⟩ (Z x);have l:∀b' r,b'≠b->RB W b' r->RB g b' r:=fun b' r f hr=>by
  rw[<-d];exact((hr.other (Ne.symm f) t _).other (Ne.symm f) v _).other (Ne.symm f) R _
 have e:∀(V:J)(u:N)(q:Q),q.block=b->Jd V (w.heap.size+1+1+1) j k->td 2 V b->Jd (V.setCell q u) (w.heap.size+1+1+1) j k:=fun V u q K ho hn=>by
  obtain⟨cs,k1,k2,k3⟩:=ho;exact⟨cs,k1.setOther (by rw[K];exact hv) _,k2,fun i c q' hc n=>Sa.keep (k3 i c q' hc n) (Ia.x (Ia.refl _ _) (by rw[K];exact hn) u)⟩
 refine⟨⟨?_,?_,?_,l _ _ oM h4,l _ _ oM h5,?_⟩,?_,l,?_⟩
 ·rw[<-d];exact((h1.set dO _).set dO _).set dO _
 ·rw[<-d];simpa using h2
 ·rw[<-d]
  repeat rw[bS _ _ _ _ dO]
  exact h3
 ·rw[<-d];exact e _ _ _ rfl (e _ _ _ rfl (e _ _ _ rfl h6 t) v) R
 ·rw[<-d];exact z.put hz
 ·rw[<-d];simp
def qq(q:Rat):-1<=q.num.sign/\q.num.sign<=1:=by
 rcases Int.lt_trichotomy q.num 0 with h|h|h
 ·rw[Int.sign_eq_neg_one_of_neg h];decide
 ·rw[h];decide
 ·rw[Int.sign_eq_one_of_pos h];decide
def Sy(w:J)(s:Sp)(e f j:N)(d:List Rat)(o:Rat×Rat)(i:Nat)(x g:Rat)(a b c:N)(W:J):Prop:=
 ∃b11 b12,a=X I (i:Int)/\b=H (F ⟨b11,0,Y⟩)/\c=H (F ⟨b12,0,Y⟩)/\w.heap.size+1+1+1<=b11/\b11<b12/\b12<W.heap.size/\vj w s e f j d o W/\RB W b11 x/\RB W b12 g
def Ry(w:J)(s:Sp)(f j k:N)(e:List Rat)(o:Rat×Rat)(i:Nat)(x g h:Rat)(a b c d:N)(W:J):Prop:=
 ∃b13,Sy w s f j k e o i x g a b c W/\d=H (F ⟨b13,0,Y⟩)/\b13<W.heap.size/\RB W b13 h
def kQ{w s v1 v2 vq qs o W}(h:vj w s v1 v2 vq qs o W){a K e P m c m2 c2 n k n2 R s1 t p q x g b d i}(u:Sa W (C #[O a m c,Z s1,O K m2 c2]) p)(v:Sa W (C #[O e n k,Z t,O P n2 R]) q)(z1:w.heap.size+1+1+1<=b)(z2:b<d)(z3:d<W.heap.size)(h1:RB W b x)(h2:RB W d g){z f}(l:((W.setCell ⟨w.heap.size+1,0,Y⟩ (O a m c)).setCell ⟨w.heap.size+1,1,Y⟩ (Z s1)).setCell ⟨w.heap.size+1,2,Y⟩ (O K m2 c2)=z)(r:((z.setCell ⟨w.heap.size+1+1,0,Y⟩ (O e n k)).setCell ⟨w.heap.size+1+1,1,Y⟩ (Z t)).setCell ⟨w.heap.size+1+1,2,Y⟩ (O P n2 R)=f):Sy w s v1 v2 vq qs (p,q) i x g (X I (i:Int)) (H (F ⟨b,0,Y⟩)) (H (F ⟨d,0,Y⟩)) f:=by obtain⟨P1,P2,y⟩:=vj.put2 h u v l r;have j:Aa f f:=eR _;exact⟨b,d,rfl,rfl,rfl,z1,z2,Nat.lt_of_lt_of_le oM j.size,P1.ext j,(y _ _ oM h1).ext j,(y _ _ oM h2).ext j⟩
def GI{w s u v j q o W}(h:vj w s u v j q o W){a n m c p c2 t x g r p0 d e b i}(hz:Sa W (C #[O a m c,Z t,O n p c2]) r)(z1:w.heap.size+1+1+1<=d)(z2:d<e)(z3:e<b)(z4:b<W.heap.size)(K:RB W d x)(P:RB W e g)(R:RB W b p0)(hv:j.ownBlock≠F b){l}(f:((W.setCell ⟨b,0,Y⟩ (O a m c)).setCell ⟨b,1,Y⟩ (Z t)).setCell ⟨b,2,Y⟩ (O n p c2)=l):Ry w s u v j q o i x g r (X I (i:Int)) (H (F ⟨d,0,Y⟩)) (H (F ⟨e,0,Y⟩)) (H (F ⟨b,0,Y⟩)) l:=by obtain⟨y,z,k,P4⟩:=vj.box h oM hv R hz f;exact⟨b,⟨d,e,rfl,rfl,rfl,z1,z2,by omega,y,k _ _ oM K,k _ _ oM P⟩,rfl,by omega,z⟩
def lB{f a o i x}(b:a[i]?=F x):Ec f a o (i+1)=if i=0 then Fc f (Ec f a o i) x else tf f (Fc f (Ec f a o i) x) (a.getD (i-1) 0) x:=by
 have e:a.getD i 0=x:=by rw[gD,b];rfl
 rw[show Ec f a o (i+1)=if i=0 then Fc f (Ec f a o i) (a.getD i 0)else tf f (Fc f (Ec f a o i) (a.getD i 0)) (a.getD (i-1) 0) (a.getD i 0)from rfl,e]
def nP w v1 v2 s l(h1:Fa w v1 s.over)(h2:Fa w v2 s.under)(an:Rf s)(hp:Bd 104000 l)(am:Lf s l=false)(bZ:fh (Mb s l) (Pa s)):Calls Tryz.prog 143 #[ni s v1 v2,X I l] w (Mk w (ud s l)):=by
 have a8:Rb 1 (Na s).1:=Wj an _ (by unfold Na;exact(Ak (Tb s) (Al s)).1);have HT:=ka (fun(W:J)(hW:Aa w W)=>NE W v1 v2 s (h1.f hW) (h2.f hW) an);have HG:=ka (fun(W:J)(hW:Aa w W)(vx:N)(x:Rat)(hx:Sa W vx x)(hb:Rb 1 x)=>jA W s v1 v2 vx x (h1.f hW) (h2.f hW) an hx hb);have Hq:=ka (Wj an);have bV:=ka an;have HS:=ka (fun(W:J)(hW:Aa w W)=>Qr W v1 v2 s (h1.f hW) (h2.f hW) an);obtain⟨a1,m1,rfl⟩:=h1.form;obtain⟨a2,m2,rfl⟩:=h2.form;obtain⟨n1,f1⟩:=gX s.over.length;obtain⟨n2,f2⟩:=gX s.under.length;obtain⟨lo,bs⟩:=gX s.lo;obtain⟨hi,br⟩:=gX s.hi;have ch:=ka (show Rb 23 (Na s).2 by obtain⟨j1,j2⟩:=Ak (Tb s) (Al s);unfold Na;rw[j2];exact Rb.gap (Wj an _ j1) an);have Hp:=ka hp;have b1:-9223372036854775808<=l:=by unfold Bd at hp;omega
 have b2:l<=9223372036854775807:=by unfold Bd at hp;omega
 have HC:=ka (fun(W:J)(va vb:N)(ha:Sa W va (Na s).2)(hb:Sa W vb (l:Rat))=>Yj W va vb _ _ ha hb (Ji ch.o oM) (Ji (SM (k:=1) Hp.o oM) oM));have hR:ud s l=F (Ec (Mb s l) (Pa s) ((Na s).1,(Na s).1) (Pa s).length):=by unfold ud;rw[if_neg (by simp[am])]
 rw[hR];unfold Lf at am;obtain⟨q1,bA⟩:=gX ((Na s).1);obtain⟨q2,b3⟩:=gX ((Na s).2);have cY:=ka bA;unfold ni at HS HT HG ⊢;rw[b3]at am HC ch;rw[bA,b3]at HS;rw[bA]at a8 ⊢;have bK:=ka a8;clear a8;obtain⟨qs,cz⟩:=gX (Pa s);rw[cz]at HT Hq bZ ⊢;have cW:=ka bZ;clear bZ;obtain⟨R,hR⟩:=gX (Mk w (F (Ec (Mb s l) qs (q1,q1) qs.length)));rw[hR];have HR:=ka hR;simp only[f1,f2,bs,br]at HS HT HG ⊢;clear h1 h2 an f1 f2 hR bA b3 hp cz;go_in;go_wp2_with(((go_at_call 59;refine cM (HS.o _ eA) ?_;rintro e w1 ⟨r1,r2,rfl,cB,aw,af⟩;obtain⟨a4,m4,c4,s4,b4,n4,k4,rfl⟩:=cB.form;obtain⟨a5,m5,c5,s5,b5,n5,k5,rfl⟩:=aw.form;obtain⟨⟨c9,de⟩,dJ,dK,dL⟩:=Ub w af)));have K0:=af.e ((((eR _).alloc _).alloc _).e (aN w (E #[O a1 n1 m1,O a2 n2 m2,X I lo,X I hi] 138)));obtain⟨W8,al⟩:=gX (((w1.alloc (E #[O a4 m4 c4,Z s4,O b4 n4 k4] 63)).alloc (E #[O a5 m5 c5,Z s5,O b5 n5 k5] 63)));have av:Aa w1 W8:=by rw[<-al];exact((eR _).alloc _).alloc _
 have cr:Aa w W8:=(((((eR w).alloc _).alloc _).alloc _).trans af).trans av;have g1:RB W8 w1.heap.size q1:=by rw[<-al];exact(RB.new cB rfl).ext ((eR _).alloc _)
 have g2:RB W8 (w1.heap.size+1) q2:=by rw[<-al];exact RB.new (aw.ext ((eR _).alloc _)) sM
 have g3:RB W8 (w.heap.size+1) 0:=(((RB.new (Sa.zero _) sM).ext ((eR _).alloc _)).ext af).ext av;have g4:RB W8 (w.heap.size+1+1) 0:=((RB.new (Sa.zero _) sM).ext af).ext av;have zW:w1.heap.size+1<W8.heap.size:=by rw[<-al];simp
 have c0:=Ba (show W8.heap[w1.heap.size+1]?=F (E #[O a5 m5 c5,Z s5,O b5 n5 k5] 63 (0,0)) by rw[<-al];exact Bc _ _ _ sM) (i:=0) (u:=O a5 m5 c5) rfl;have c1:=Ba (show W8.heap[w1.heap.size+1]?=F (E #[O a5 m5 c5,Z s5,O b5 n5 k5] 63 (0,0)) by rw[<-al];exact Bc _ _ _ sM) (i:=1) (u:=Z s5) rfl;have c2:=Ba (show W8.heap[w1.heap.size+1]?=F (E #[O a5 m5 c5,Z s5,O b5 n5 k5] 63 (0,0)) by rw[<-al];exact Bc _ _ _ sM) (i:=2) (u:=O b5 n5 k5) rfl;have HX:=ka av;have cV:=ka cr;rw[al];obtain⟨s1,cD⟩:=gX w1.heap.size;simp only[cD]at *;clear al c9 de af av cr HS cD;have K8:=HX.o.e K0;clear K0;obtain⟨k,hk⟩:=gX q2.num.sign;have cS:=ka (fun(W:J)(v:N)(h:Sa W v q2)=>hk▸Ur W v q2 h);rw[hk]at am;clear hk;have aj:¬k<0:=fun h=>by simp[h]at am
 have hd:decide (k<0)=false:=by simp[aj]
 rw[hd,Bool.false_or]at am;obtain⟨c,hc⟩:=gX (yb q2 (l:Rat));rw[hc]at am HC;clear hc;have c8:¬0<c:=by simpa using am
 refine Uc [(⟨s1+1,0,Y⟩,O a5 m5 c5),(⟨s1+1,1,Y⟩,Z s5),(⟨s1+1,2,Y⟩,O b5 n5 k5)] cA fun g=>?_;have E0:Aa w1 W8.drew:=HX.o.trans (eR W8).drew;refine Ib (i:=0) ?_;refine Fb (i:=1) (cS.o _ _ (aw.ext E0)) ?_;rintro e w3 ⟨rfl,t⟩;refine⟨_,rfl,(cE g t),fun g=>?_⟩;refine sN 2 ?_
 iterate 4 refine Bb ?_
 refine oN ?_;refine Fb (i:=6) (Tn _ l b1 b2) ?_;rintro e w4 ⟨r4,rfl,ao,ag⟩;obtain⟨a6,m6,c6,s6,b6,n6,k6,rfl⟩:=ao.form;refine⟨_,rfl,(cE g ag),fun g=>?_⟩;refine Fb (i:=7) (HC.o _ _ _ (aw.ext (E0.trans (t.trans ag))) ao) ?_;rintro e w5 ⟨rfl,ah⟩;refine⟨_,rfl,(cE g ah),fun g=>?_⟩;refine sN 8 ?_
 iterate 2 refine Bb ?_
 refine oN ?_;refine Sb ?_;have X3:Aa W8 w5:=((eR W8).drew).trans (t.trans (ag.trans ah));have j1:=g1.ext X3;have j3:=g3.ext X3;have j4:=g4.ext X3;have K5:=X3.e K8;have zX:=X3.size;have X0:=cV.o.trans X3;clear g K8 g1 g2 g3 g4 c0 c1 c2 t ag ah ao E0 hd aj c8 am;have cf:=ka K5;have cU:=ka X0;go_wp2;obtain⟨pa,pm,P,ps,z,ab,aa,p0,p1,p2,_,_,_,pz,hp⟩:=j1.rd;obtain⟨_,_,_,_,_,_,_,x0,x1,x2,aA,aB,aC,xz,_⟩:=j3.rd;obtain⟨_,_,_,_,_,_,_,y0,y1,y2,aD,aE,aF,yz,_⟩:=j4.rd;refine Uc [(⟨s1,0,Y⟩,O pa pm P),(⟨s1,1,Y⟩,Z ps),(⟨s1,2,Y⟩,O z ab aa)] cA fun g=>?_;refine sN 0 ?_
 iterate 2 refine Bb ?_
 refine oN ?_;have bY:∀b,b<s1->∀q∈[((⟨s1,0,Y⟩:Q),Value.slice pa pm P),(⟨s1,1,Y⟩,Z ps),(⟨s1,2,Y⟩,O z ab aa)],b≠q.1.block:=by
  intro b hb;simp;omega
 refine Vc (i:=2) fun K m=>?_;go_simp;refine kO m (Ea.set3d g (bY _ oM) _ _ _) (fun g=>?_);clear m K;refine Vc (i:=3) fun K m=>?_;go_simp;refine kO m (Ea.set3d g (bY _ oM) _ _ _) (fun g=>?_);clear m K;refine Sb ?_;obtain⟨W9,ac⟩:=gX ((((((((w5.setCell ⟨w.heap.size+1,0,Y⟩ (O pa pm P)).setCell ⟨w.heap.size+1,1,Y⟩ (Z ps)).setCell ⟨w.heap.size+1,2,Y⟩ (O z ab aa)).setCell ⟨w.heap.size+1+1,0,Y⟩ (O pa pm P)).setCell ⟨w.heap.size+1+1,1,Y⟩ (Z ps)).setCell ⟨w.heap.size+1+1,2,Y⟩ (O z ab aa))).drew);have cq:Aa w W9/\w.heap.size+1+1+1<=W9.heap.size/\W9.heap[w.heap.size]?=F (E #[O a1 n1 m1,O a2 n2 m2,X I lo,X I hi] 138 (0,0))/\RB W9 (w.heap.size+1) q1/\RB W9 (w.heap.size+1+1) q1:=by
  rw[<-ac];exact ED cU.o oM cf.o j3 j4 hp rfl rfl
 have H9:=ka cq;obtain⟨X9,z9,K9,-,-⟩:=cq;have bC:=Ba K9 (i:=0) (u:=O a1 n1 m1) rfl;have bD:=Ba K9 (i:=1) (u:=O a2 n2 m2) rfl;have bE:=Ba K9 (i:=2) (u:=X I lo) rfl;have bF:=Ba K9 (i:=3) (u:=X I hi) rfl;rw[ac];clear ac g bY p0 p1 p2 x0 x1 x2 aA aB aC y0 y1 y2 aD aE aF hp j1 j3 j4 K5 zX X0 X3 cf K9;go_wp2_with(((go_at_call 105;refine cM (HT.o _ X9) ?_;rintro e w6 ⟨vq,rfl,aJ,r⟩;obtain⟨a7,c7,rfl⟩:=aJ.rs.form)));obtain⟨n,hn⟩:=gX qs.length;have bw:=aJ.rs.le;unfold maxLen at bw;rw[hn]at bw aJ HR ⊢;have eo:n<=9223372036854775807:=oM;have Hn:=ka hn;clear hn;go_loopg [38] n (XQ w s (O a1 n1 m1) (O a2 n2 m2) (O a7 n c7) l qs (q1,q1))
 case atStart =>
  obtain⟨h1,h2,h3,h4,h5⟩:=H9.o;have ep:=r.size;exact⟨0,by omega,rfl,by rw[Hn.o];rfl,h1.trans r,by omega,by rw[bs,br];exact r.e h3,h4.ext r,h5.ext r,by
   obtain⟨cs,e1,e2,e3⟩:=aJ;exact⟨cs,e1.mono oM,e2,e3⟩⟩
 case round =>
  obtain⟨i,dk,rfl,rfl,hI⟩:=hrel;rw[Hn.o]at dk;by_cases dm:i<n
  ·obtain⟨y1,y2,y3,y4,y5,y6⟩:=hI;have HI:=ka (show vj w s (O a1 n1 m1) (O a2 n2 m2) (O a7 n c7) qs (Ec (Mb s l) qs (q1,q1) i) wr from⟨y1,y2,y3,y4,y5,y6⟩);obtain⟨x,hx⟩:∃x,qs[i]?=F x:=⟨qs[i]'(by rw[Hn.o];exact dm),gE _⟩;have aM:=ka (Hq.o x (lM hx));have Hx:=ka hx;obtain⟨b7,o7,xa,xm,xc,xs,dr,dt,ds,rfl,c3,cH,du,dw,dx⟩:=y6.rs.at' hx;rw[bs,br]at y3;have bC:=Ba y3 (i:=0) (u:=O a1 n1 m1) rfl;have bD:=Ba y3 (i:=1) (u:=O a2 n2 m2) rfl;have bE:=Ba y3 (i:=2) (u:=X I lo) rfl;have bF:=Ba y3 (i:=3) (u:=X I hi) rfl;have zz:w.heap.size<wr.heap.size:=oM;have Y1:=ka y1;have ck:=ka cH;have aL:=ka (show Rb Vb (Tb s x)/\Rb Vb (l:Rat)from⟨Ji (Rb.gap aM.o bV.o) oM,Ji (SM (k:=1) Hp.o oM) oM⟩);have cX:=ka (show (Tb s x-(l:Rat))=Mb s l x from rfl);clear y1 y3 y4 y5 y6 H9 aJ bw hx cH;obtain⟨kg,a3⟩:=gX ((Mb s l x).num.sign);have cg:=ka (fun(W:J)(v:N)(h:Sa W v (Mb s l x))=>a3▸Ur W v _ h);have dl:=qq (Mb s l x);rw[a3]at dl;obtain⟨oi,b0⟩:=gX (Ec (Mb s l) qs (q1,q1) i);have hN:=lB (f:=Mb s l) (o:=(q1,q1)) Hx.o;rw[b0]at hN HI;obtain⟨o1,bx⟩:=gX (Fc (Mb s l) oi x);rw[bx]at hN;have HN:=ka hN;have bB:=bx.symm;unfold Fc at bB;rw[a3]at bB;have bm:=ka (show Rb 300 oi.1/\Rb 300 oi.2 by rw[<-b0];exact Rb.reach_n ⟨bK.o.up dM,bK.o.up dM⟩ Hq.o (fun q hq=>Rb.pin_g (Hq.o q hq) bV.o Hp.o) i (by rw[Hn.o];omega));have bn:=ka bB;have dC:=ka (show Rb 300 o1.1/\Rb 300 o1.2 by rw[<-bx];unfold Fc;split;exact Rb.wid bm.o (aM.o.up dM);exact bm.o);have ci:=ka a3;clear a3 b0 bB bx hN;have bT:=ka (show ∀q∈[oi.1,x],Rb Vb q from fun q hq=>by rcases List.mem_cons.1 hq with rfl|hq;exact Ji bm.o.1 oM;rw[List.mem_singleton.1 hq];exact Ji aM.o oM);have bU:=ka (show ∀q∈[oi.2,x],Rb Vb q from fun q hq=>by rcases List.mem_cons.1 hq with rfl|hq;exact Ji bm.o.2 oM;rw[List.mem_singleton.1 hq];exact Ji aM.o oM);go_upto_if 51 with (first|(go_at_call 133;refine cM (HG.o _ ?_ (C #[O xa xm xc,Z xs,O dr dt ds]) x ?_ aM.o) ?_;(refine Y1.o.trans ?_;exact eA);(refine ck.o.ext ?_;exact eA);rintro e w2 ⟨r2,rfl,aw,bc⟩;obtain⟨dS,eu,d7,eL,d0,eC,eq,rfl⟩:=aw.form;obtain⟨⟨da,dg⟩,dN⟩:=oe w bc)|(go_at_call 85;(with_reducible refine(Tn _ l b1 b2).mono ?_);rintro e w3 ⟨r3,rfl,b9,t⟩;obtain⟨dU,ev,d8,eM,d1,eD,er,rfl⟩:=b9.form;obtain⟨⟨db,dh⟩,dP⟩:=oe w t)|(go_at_call 115;(with_reducible refine(Zm _ _ _ (Tb s x) (l:Rat) (aw.ext t) b9 aL.o.1 aL.o.2).mono ?_);rintro e w4 ⟨r4,rfl,ao,ag⟩;rw[cX.o]at ao;obtain⟨dV,ew,d9,eN,d2,eE,et,rfl⟩:=ao.form;obtain⟨⟨dc,di⟩,dQ⟩:=oe w ag)|(go_at_call 93;refine cM (cg.o _ _ (ao.ext eA)) ?_;rintro e w5 ⟨rfl,ah⟩;obtain⟨⟨dd,dj⟩,dR⟩:=oe w ah));have ad:RB w5 wr.heap.size x:=(((((RB.new ck.o rfl).ext bc).ext t).ext ag).ext ((eR _).alloc _)).ext ah;have ae:RB w5 w4.heap.size (Mb s l x):=(RB.new ao rfl).ext ah;have X5:Aa wr w5:=(((((((eR wr).alloc _).trans bc).trans t).trans ag).alloc _).trans ah);have G:=HI.o.ext X5;obtain⟨aH,a0⟩:=gX w4.heap.size;obtain⟨ap,aZ⟩:=gX wr.heap.size;rw[a0]at ae;rw[aZ]at ad;have dn:w.heap.size+1+1+1<=ap/\ap<aH/\aH<w5.heap.size:=by
    have q1:=bc.size;have q2:=t.size;have q3:=ag.size;have q4:=ah.size;simp only[wZ]at q1 q4;have q5:=HI.o.2.1;omega
   obtain⟨z1,z2,z3⟩:=dn;simp only[aZ,a0];clear bc t ag ah aw b9 ao aZ a0 da dg db dh dc di dd dj du dw dx c3 bC bD bE bF zz;go_cut [10,11,12] (Sy w s (O a1 n1 m1) (O a2 n2 m2) (O (F ⟨b7,o7,Y⟩) n c7) qs o1 i x (Mb s l x))
   case first =>
    by_cases hk:kg<=0
    ·go_wp2;obtain⟨pa,pm,P,ps,z,ab,aa,p0,p1,p2,bG,bH,bI,pz,bz⟩:=(G.2.2.2.1).rd;obtain⟨ea,em,ec,es,aq,au,ar,e0,e1,e2,bo,bp,bq,ez,bt⟩:=(G.2.2.2.2.1).rd;obtain⟨ua,um,uc,us,cb,cd,cc,u0,u1,u2,eU,eV,eW,uz,cF⟩:=(ad).rd;have ak:=ka G;have bO:=ka (ad);have ai:=ka ae;have bW:=ka bz;have bQ:=ka bt;have aG:=ka cF;clear G ad ae bz bt cF;have D0:Aa w5 w5.drew:=(eR _).drew;refine Mh (fun i=>decide (7<i)) (Ea [(⟨w.heap.size+1,0,Y⟩,O pa pm P),(⟨w.heap.size+1,1,Y⟩,Z ps),(⟨w.heap.size+1,2,Y⟩,O z ab aa),(⟨w.heap.size+1+1,0,Y⟩,O ea em ec),(⟨w.heap.size+1+1,1,Y⟩,Z es),(⟨w.heap.size+1+1,2,Y⟩,O aq au ar),(⟨ap,0,Y⟩,O ua um uc),(⟨ap,1,Y⟩,Z us),(⟨ap,2,Y⟩,O cb cd cc)]) kM ?_ (fun g=>?_)
     ·exact cA
     refine sN 0 ?_
     (iterate 2 refine Wh ?_);refine oN ?_;refine sN 4 ?_
     (iterate 2 refine Wh ?_);refine oN ?_;refine mi (i:=2) (j:=6) (fun K m=>?h1k1w1) (fun K m=>?h2k1w1)
     case h1k1w1 =>
      go_simp;refine kO m (fun _=>cE g ((eR _).alloc _)) (fun g=>?_);clear m K;have g:=g rfl;refine mi (i:=3) (j:=6) (fun K m=>?h1k2w1) (fun K m=>?h2k2w1)
      case h1k2w1 =>
       go_simp;(with_reducible refine cM (qu _ _ [oi.1,x] ((qQ w5 rfl bW.o aG.o).f (eR _).drew) bT.o) ?_);rintro e w6 ⟨r6,rfl,ax,r⟩;obtain⟨aO,bg,aS,bk,aQ,bi,be,rfl⟩:=ax.form;go_wp2;refine kO m (fun _=>cE g r) (fun g=>?_);clear m K;have g:=g rfl;have D6:Aa w5 w6:=(((eR w5).alloc _).drew).trans r;refine Kc (i:=6) fun K m=>?_;go_simp;refine kO m (fun _=>cE g ((eR _).alloc _)) (fun g=>?_);clear m K;have g:=g rfl;refine Rj (i:=7) (ru _ _ [oi.2,x] (qQ w6 rfl (bQ.o.ext D6) (aG.o.ext D6)) bU.o) ?_;rintro e w7 ⟨r7,rfl,ay,p⟩;obtain⟨aP,bh,aT,bl,aR,bj,bf,rfl⟩:=ay.form;refine⟨_,rfl,(cE g p),fun g=>?_⟩;obtain⟨_,_,_,_,_,_,_,x0,x1,x2,aA,aB,aC,xz,_⟩:=((ak.o.ext ((D6.alloc _).trans p)).2.2.2.1).rd;obtain⟨_,_,_,_,_,_,_,y0,y1,y2,aD,aE,aF,yz,_⟩:=((ak.o.ext ((D6.alloc _).trans p)).2.2.2.2.1).rd;refine Kc (i:=8) fun K m=>?_;go_simp;refine kO m (fun h=>nomatch h) (fun g=>?_);clear m K;refine Kc (i:=9) fun K m=>?_;go_simp;refine kO m (fun h=>nomatch h) (fun g=>?_);clear m K;refine Lb kM ?_ _;have H9:=kQ (i:=i) (ak.o.ext ((D6.alloc _).trans p)) ((ax.ext ((eR _).alloc _)).ext p) ay z1 z2 (Nat.lt_of_lt_of_le z3 ((D6.alloc _).trans p).size) (bO.o.ext ((D6.alloc _).trans p)) (ai.o.ext ((D6.alloc _).trans p)) rfl rfl;obtain⟨W9,ac⟩:=gX (((((((w7.setCell ⟨w.heap.size+1,0,Y⟩ (O aO bg aS)).setCell ⟨w.heap.size+1,1,Y⟩ (Z bk)).setCell ⟨w.heap.size+1,2,Y⟩ (O aQ bi be)).setCell ⟨w.heap.size+1+1,0,Y⟩ (O aP bh aT)).setCell ⟨w.heap.size+1+1,1,Y⟩ (Z bl)).setCell ⟨w.heap.size+1+1,2,Y⟩ (O aR bj bf)));rw[ac]at H9 ⊢;have H9:=ka H9;clear ac x0 x1 x2 aA aB aC y0 y1 y2 aD aE aF g;go_wp2;go_meet;rw[bn.o,if_pos hk];exact H9.o
      case h2k2w1 =>
       go_simp;refine kO m (fun _=>cE g ((eR _).alloc _)) (fun g=>?_);clear m K;have g:=g rfl;refine Rj (i:=3) (qu _ _ [oi.1,x] ((qQ w5 rfl bW.o aG.o).f ((eR _).alloc _).drew) bT.o) ?_;rintro e w6 ⟨r6,rfl,ax,r⟩;obtain⟨aO,bg,aS,bk,aQ,bi,be,rfl⟩:=ax.form;refine⟨_,rfl,(cE g r),fun g=>?_⟩;have D6:Aa w5 w6:=((((eR w5).alloc _).alloc _).drew).trans r;have R2:=(((qQ _ (b:=w5.heap.size+1) sM (bQ.o.ext ((eR w5).alloc (E #[O pa pm P,Z ps,O z ab aa,O ua um uc,Z us,O cb cd cc] 63))) (aG.o.ext ((eR w5).alloc _))).f (eR _).drew).f r);refine Rj (i:=7) (ru _ _ [oi.2,x] R2 bU.o) ?_;rintro e w7 ⟨r7,rfl,ay,p⟩;obtain⟨aP,bh,aT,bl,aR,bj,bf,rfl⟩:=ay.form;refine⟨_,rfl,(cE g p),fun g=>?_⟩;obtain⟨_,_,_,_,_,_,_,x0,x1,x2,aA,aB,aC,xz,_⟩:=((ak.o.ext (D6.trans p)).2.2.2.1).rd;obtain⟨_,_,_,_,_,_,_,y0,y1,y2,aD,aE,aF,yz,_⟩:=((ak.o.ext (D6.trans p)).2.2.2.2.1).rd;refine Kc (i:=8) fun K m=>?_;go_simp;refine kO m (fun h=>nomatch h) (fun g=>?_);clear m K;refine Kc (i:=9) fun K m=>?_;go_simp;refine kO m (fun h=>nomatch h) (fun g=>?_);clear m K;refine Lb kM ?_ _;have H9:=kQ (i:=i) (ak.o.ext (D6.trans p)) (ax.ext p) ay z1 z2 (Nat.lt_of_lt_of_le z3 (D6.trans p).size) (bO.o.ext (D6.trans p)) (ai.o.ext (D6.trans p)) rfl rfl;obtain⟨W9,ac⟩:=gX (((((((w7.setCell ⟨w.heap.size+1,0,Y⟩ (O aO bg aS)).setCell ⟨w.heap.size+1,1,Y⟩ (Z bk)).setCell ⟨w.heap.size+1,2,Y⟩ (O aQ bi be)).setCell ⟨w.heap.size+1+1,0,Y⟩ (O aP bh aT)).setCell ⟨w.heap.size+1+1,1,Y⟩ (Z bl)).setCell ⟨w.heap.size+1+1,2,Y⟩ (O aR bj bf)));rw[ac]at H9 ⊢;have H9:=ka H9;clear ac x0 x1 x2 aA aB aC y0 y1 y2 aD aE aF g;go_wp2;go_meet;rw[bn.o,if_pos hk];exact H9.o
     case h2k1w1 =>
      go_simp;refine kO m (fun _=>cE g ((eR _).alloc _)) (fun g=>?_);clear m K;have g:=g rfl;refine Kc (i:=2) fun K m=>?_;go_simp;refine kO m (fun _=>cE g ((eR _).alloc _)) (fun g=>?_);clear m K;have g:=g rfl;have R1:=((qQ _ (b:=w5.heap.size+1) sM (bW.o.ext ((eR w5).alloc (E #[O ea em ec,Z es,O aq au ar,O ua um uc,Z us,O cb cd cc] 63))) (aG.o.ext ((eR w5).alloc _))).f (eR _).drew);refine Rj (i:=3) (qu _ _ [oi.1,x] R1 bT.o) ?_;rintro e w6 ⟨r6,rfl,ax,r⟩;obtain⟨aO,bg,aS,bk,aQ,bi,be,rfl⟩:=ax.form;refine⟨_,rfl,(cE g r),fun g=>?_⟩;have D6:Aa w5 w6:=((((eR w5).alloc _).alloc _).drew).trans r;refine Rj (i:=7) (ru _ _ [oi.2,x] (((qQ w5 rfl bQ.o aG.o).f ((eR _).alloc _).drew).f r) bU.o) ?_;rintro e w7 ⟨r7,rfl,ay,p⟩;obtain⟨aP,bh,aT,bl,aR,bj,bf,rfl⟩:=ay.form;refine⟨_,rfl,(cE g p),fun g=>?_⟩;obtain⟨_,_,_,_,_,_,_,x0,x1,x2,aA,aB,aC,xz,_⟩:=((ak.o.ext (D6.trans p)).2.2.2.1).rd;obtain⟨_,_,_,_,_,_,_,y0,y1,y2,aD,aE,aF,yz,_⟩:=((ak.o.ext (D6.trans p)).2.2.2.2.1).rd;refine Kc (i:=8) fun K m=>?_;go_simp;refine kO m (fun h=>nomatch h) (fun g=>?_);clear m K;refine Kc (i:=9) fun K m=>?_;go_simp;refine kO m (fun h=>nomatch h) (fun g=>?_);clear m K;refine Lb kM ?_ _;have H9:=kQ (i:=i) (ak.o.ext (D6.trans p)) (ax.ext p) ay z1 z2 (Nat.lt_of_lt_of_le z3 (D6.trans p).size) (bO.o.ext (D6.trans p)) (ai.o.ext (D6.trans p)) rfl rfl;obtain⟨W9,ac⟩:=gX (((((((w7.setCell ⟨w.heap.size+1,0,Y⟩ (O aO bg aS)).setCell ⟨w.heap.size+1,1,Y⟩ (Z bk)).setCell ⟨w.heap.size+1,2,Y⟩ (O aQ bi be)).setCell ⟨w.heap.size+1+1,0,Y⟩ (O aP bh aT)).setCell ⟨w.heap.size+1+1,1,Y⟩ (Z bl)).setCell ⟨w.heap.size+1+1,2,Y⟩ (O aR bj bf)));rw[ac]at H9 ⊢;have H9:=ka H9;clear ac x0 x1 x2 aA aB aC y0 y1 y2 aD aE aF g;go_wp2;go_meet;rw[bn.o,if_pos hk];exact H9.o
    ·go_wp2;go_meet;rw[bn.o,if_neg oM];exact⟨ap,aH,rfl,rfl,rfl,z1,z2,z3,G,ad,ae⟩
   case rest =>
    clear ad ae G X5 z1 z2 z3 ap aH;obtain⟨ap,aH,rfl,rfl,rfl,z1,z2,z3,G,ad,ae⟩:=hcut;by_cases cv:i=0
    ·subst cv;go_wp2;go_roundg (n-(0+1))
     case measure=>have:=Hn.o;omega
     case rel=>exact⟨1,by rw[Hn.o];omega,by go_num,by rw[Hn.o],by have e:Ec (Mb s l) qs (q1,q1) 1=o1:=HN.o.trans (if_pos trivial);rw[e];exact G⟩
    ·(have eh:((i:Int)==0)=false:=by simpa using cv);go_upto_region 13 with fail;obtain⟨j,rfl⟩:∃j,i=j+1:=⟨i-1,by omega⟩;obtain⟨y,hy⟩:∃y,qs[j]?=F y:=⟨qs[j]'(by rw[Hn.o];omega),gE _⟩;have cl:=ka (Hq.o y (lM hy));have Hy:=ka hy;have bP:=ka (show Rb Vb (Tb s y)from Ji (Rb.gap cl.o bV.o) oM);obtain⟨b8,o8,ya,ym,yc,ys,cK,cN,cL,h8,eg,cI,dy,dz,dB⟩:=G.2.2.2.2.2.rs.at' hy;cases h8;have aI:=G.2.2.1;rw[bs,br]at aI;have bC:=Ba aI (i:=0) (u:=O a1 n1 m1) rfl;have bD:=Ba aI (i:=1) (u:=O a2 n2 m2) rfl;have bE:=Ba aI (i:=2) (u:=X I lo) rfl;have bF:=Ba aI (i:=3) (u:=X I hi) rfl;have Yc:=ka (G.1);have cZ:=ka cI;have ce:=ka G;have bJ:=ka ad;have ai:=ka ae;have ej:wrap64 (((j+1:Nat):Int)-1)=(j:Int):=by
      rw[IntWalk.wrap64_in _ oM];omega
     have ei:IntKind.i64.wrap ((j:Nat):Int)=(j:Int):=iW _ ⟨by omega,by omega⟩;have eY:(0:Int)<=(j:Int):=oM;have eZ:(j:Int)<(n:Int):=oM;have e4:j<n:=oM;clear G ad ae aI cI hy;go_cut [10,11,12,13] (Ry w s (O a1 n1 m1) (O a2 n2 m2) (O (F ⟨b7,o7,Y⟩) n c7) qs o1 (j+1) x (Mb s l x) (Mb s l y))
     case first =>
      (have C9:Ea [(⟨w.heap.size,0,Y⟩,O a1 n1 m1),(⟨w.heap.size,1,Y⟩,O a2 n2 m2),(⟨w.heap.size,2,Y⟩,X I lo),(⟨w.heap.size,3,Y⟩,X I hi),(⟨b7,o7+j*3,Y⟩,O ya ym yc),(⟨b7,o7+j*3+1,Y⟩,Z ys),(⟨b7,o7+j*3+2,Y⟩,O cK cN cL)] wc.drew:=by refine⟨?_,?_,?_,?_,?_,?_,?_,trivial⟩<;>go_simp);refine Eg [(10,13,E #[O Y 0 0,Z false,O Y 0 0] 63 (0,0))] _ 11 8 (fun i=>decide (10<i)) (fun _=>false) kM kM kM sM kM (by intro x hx;simp only[List.mem_cons,List.not_mem_nil,or_false]at hx;rcases hx with rfl<;>exact⟨_,rfl,rfl,fun a W=>by go_simp⟩) (fun _ _ d _ _ h=>by cases d<;>exact h) C9 (fun g=>?_);refine Pb (i:=0) ?_;refine Pb (i:=1) ?_;refine Pb (i:=2) ?_;refine Pb (i:=3) ?_;refine Pb (i:=4) ?_;refine Pb (i:=5) ?_;refine Pb (i:=7) ?_;have cQ:=ka (fun(W:J)(hW:Aa wc W)=>HG.o W (Yc.o.trans hW) (C #[O ya ym yc,Z ys,O cK cN cL]) y (cZ.o.ext hW) cl.o);refine Qe (i:=6) fun W6 ct aY aU K m=>?_;go_simp;refine cM (cQ.o W6 ((eR wc).drew.trans aY)) ?_;rintro e w6 ⟨eI,rfl,a9,r⟩;obtain⟨dW,ex,eb,eO,d3,eF,dF,rfl⟩:=a9.form;go_wp2;refine kO m (.of aY r) (fun _ _=>?_);clear m K aU;refine Qe (i:=8) fun W8 bL bM aU K m=>?_;go_simp;(with_reducible refine cM (Tn W8 l b1 b2) ?_);rintro e w8 ⟨eJ,rfl,ba,ca⟩;obtain⟨dY,ey,ed,eP,d4,eG,dG,rfl⟩:=ba.form;go_wp2;refine kO m (.of bM ca) (fun _ _=>?_);clear m K aU;refine Qe (i:=9) fun W9 aW bN aU K m=>?_;go_simp;(with_reducible refine cM (Zm W9 _ _ (Tb s y) (l:Rat) (a9.ext (bL.trans (ca.trans aW))) (ba.ext aW) bP.o aL.o.2) ?_);rintro e w9 ⟨eK,rfl,bb,cG⟩;obtain⟨dZ,eB,ee,eQ,d5,eH,dH,rfl⟩:=bb.form;go_wp2;refine kO m (.of bN cG) (fun _ _=>?_);clear m K aU;refine df kM (fun cm aV aX=>?_);intro az aK cJ _ _;have X9:Aa wc cm:=(eR wc).drew.trans aX;have cC:=bb.ext aV;have cp:RB cm az 0:=⟨_,_,_,_,_,_,_,aK,Sa.zero _⟩;(have dI:wc.heap.size<=az:=by simpa using cJ);have cO:=Jb aK;have cu:aH<az:=oM;have q0:=Ba aK (i:=0) (u:=O Y 0 0) rfl;have dp:=Ba aK (i:=1) (u:=Z false) rfl;have dq:=Ba aK (i:=2) (u:=O Y 0 0) rfl;have qf:=Ya aK;clear ct r bL ca aW cG aV a9 ba bb aY bM bN;refine Vc (i:=11) fun K m=>?_;go_simp;refine kO m (cE g (by(repeat refine Aa.set ?_ (by exact cJ) _);exact aX)) (fun ef=>?_);clear m K;refine Sb ?_;have H9:=GI (i:=j+1) (ce.o.ext X9) cC z1 z2 cu cO (bJ.o.ext X9) (ai.o.ext X9) cp (by simp only[Value.ownBlock,ne_eq,Option.some.injEq];omega) rfl;have H9:=ka H9;clear g q0 dp dq qf;go_wp2;go_meet;exact H9.o
     case rest =>
      clear z1 z2 z3 bJ ai ce dy dz dB bC bD bE bF;obtain⟨az,⟨d6,bX,rfl,rfl,rfl,z1,z2,z3,G,ad,ae⟩,rfl,cO,cP⟩:=hcut;obtain⟨pa,pm,P,ps,z,ab,aa,p0,p1,p2,bG,bH,bI,pz,bz⟩:=ae.rd;obtain⟨ea,em,ec,es,aq,au,ar,e0,e1,e2,bo,bp,bq,ez,bt⟩:=cP.rd;obtain⟨kh,bu⟩:=gX ((Mb s l y).num.sign);have cT:=ka (fun(W:J)(v:N)(h:Sa W v (Mb s l y))=>bu▸Ur W v _ h);have cw:=qq (Mb s l y);rw[bu]at cw;have cj:=ka bu;clear bu;obtain⟨km,bv⟩:=gX (kg*kh);have dD:-1<=km/\km<=1:=by
       have a1:kg = -1\/kg=0\/kg=1:=oM;have a2:kh = -1\/kh=0\/kh=1:=oM;rcases a1 with rfl|rfl|rfl<;>rcases a2 with rfl|rfl|rfl<;>omega
      (have en:IntKind.i64.wrap (kg*kh)=km:=by rw[bv];exact iW _ ⟨by omega,by omega⟩);(have dE:wrap64 (kg*kh)=km:=by rw[bv];exact IntWalk.wrap64_in _ ⟨by omega,by omega⟩);have ek:IntKind.i64.wrap km=km:=iW _ ⟨by omega,by omega⟩;have cR:=ka (show Ec (Mb s l) qs (q1,q1) (j+1+1)=if km<0 then Dh o1 (Ae (Mb s l) y x)else o1 by
       have e:=HN.o;rw[if_neg oM]at e;rw[e,show qs.getD (j+1-1) 0=y by rw[Nat.add_sub_cancel,gD,Hy.o];rfl];unfold tf;rw[ci.o,cj.o,bv])
      go_wp2;refine Uc [(⟨bX,0,Y⟩,O pa pm P),(⟨bX,1,Y⟩,Z ps),(⟨bX,2,Y⟩,O z ab aa),(⟨az,0,Y⟩,O ea em ec),(⟨az,1,Y⟩,Z es),(⟨az,2,Y⟩,O aq au ar)] cA fun g=>?_;have E1:Aa wc wc.drew:=(eR _).drew;refine Ib (i:=0) ?_;refine Ib (i:=2) ?_;refine Fb (i:=1) (cg.o _ _ (bz.ext E1)) ?_;rintro e w1 ⟨rfl,af⟩;refine⟨_,rfl,(cE g af),fun g=>?_⟩;refine Fb (i:=3) (cT.o _ _ (bt.ext (E1.trans af))) ?_;rintro e w3 ⟨rfl,t⟩;refine⟨_,rfl,(cE g t),fun g=>?_⟩;refine sN 4 ?_
      (iterate 2 refine Bb ?_);refine oN ?_;refine Sb ?_;have X3:Aa wc w3:=E1.trans (af.trans t);have G3:=G.ext X3;clear g p0 p1 p2 bG bH bI e0 e1 e2 bo bp bq;by_cases aj:km<0
      ·exact absurd (by rw[ci.o,cj.o,bv];exact aj) (cW.o j y x Hy.o Hx.o)
      ·(have el:decide (km<0)=false:=by simpa using aj);go_wp2;go_roundg (n-(j+1+1))
       case measure=>have:=Hn.o;omega
       case rel=>exact⟨j+1+1,by rw[Hn.o];omega,by go_num,by rw[Hn.o],by rw[cR.o,if_neg (Int.not_lt.2 aj)];exact G3⟩
  ·obtain rfl:i=n:=oM;obtain⟨y1,y2,y3,cn,co,y6⟩:=hI;have Y1:=ka y1;clear y1 y3 y6 H9 HT HG cY aJ bw;go_wp2;obtain⟨pa,pm,P,ps,z,ab,aa,p0,p1,p2,bG,bH,bI,pz,cx⟩:=cn.rd;obtain⟨ea,em,ec,es,aq,au,ar,e0,e1,e2,bo,bp,bq,ez,cy⟩:=co.rd;refine Mh (fun i=>decide (2<i)) (Ea [(⟨w.heap.size+1,0,Y⟩,O pa pm P),(⟨w.heap.size+1,1,Y⟩,Z ps),(⟨w.heap.size+1,2,Y⟩,O z ab aa),(⟨w.heap.size+1+1,0,Y⟩,O ea em ec),(⟨w.heap.size+1+1,1,Y⟩,Z es),(⟨w.heap.size+1+1,2,Y⟩,O aq au ar)]) kM ?_ (fun g=>?_)
   ·exact cA
   refine sN 0 ?_
   iterate 2 refine Wh ?_
   refine oN ?_;refine Kc (i:=2) fun K m=>?_;go_simp;refine kO m (fun _=>?_) (fun g=>?_)
   ·exact cA
   clear m K;have g:=g rfl;refine Kc (i:=3) fun K m=>?_;go_simp;refine kO m (fun h=>nomatch h) (fun g=>?_);clear m K;refine Kc (i:=4) fun K m=>?_;go_simp;refine kO m (fun h=>nomatch h) (fun g=>?_);clear m K;refine Lb kM ?_ _;go_wp2;refine bR (v:=D #[C #[O pa pm P,Z ps,O z ab aa],C #[O ea em ec,Z es,O aq au ar],Z true]) (by simp[results,Tryz.results143,go_sem,p0,p1,p2,bG,bH,bI,e0,e1,e2,bo,bp,bq]) rfl ?_;rw[<-HR.o];obtain⟨P1,P2,P3,P4,P5,P6⟩:=RB.copy2 cn co oM cx cy rfl rfl;refine⟨(P6 w Y1.o oM oM).drew,C #[O pa pm P,Z ps,O z ab aa],C #[O ea em ec,Z es,O aq au ar],?_,?_,rfl⟩
   ·exact(cx.keep P4).ext (eR _).drew
   ·exact(cy.keep P4).ext (eR _).drew
