import Derived.Test.YtjnjpagegkcgfaaGreatDoorCobA28
set_option maxRecDepth 1000000
set_option maxHeartbeats 16000000
set_option linter.all false
open Go.Value renaming slice->O,int->Z,bool->J,agg->M,pointer->C,tuple->H
open Go.IntKind renaming i64->Y
open Option renaming none->X,some->N
open Go renaming World->I,Value->E
open Go.Obj renaming cells->F
namespace Go.Proofs.YtjnjpagegkcgfaaGreatDoor.Cop
section
open Go.RowKit Go.Shelf Go.Sort Go.Lib
attribute [local go_sem] Oper.semAt_some
def Ak(w:I)(k:Int)(e:Ending)(w':I):Prop:=e=.returned (H #[M #[Z Y 0,Z Y 0],Z Y k])/\Ba w w'
def sG(w:I)(r s t:E)(g:LP)(ps:List Pl)(i b pin:Int)(x:Rat)(l:Ja w r g)(m:Pd w s ps)(a:Gw w)(q:Ab w t x)(d:Bb g ps≠0):Calls Tryz.prog 18 #[M #[r,s],Z Y i,Z Y b,Z Y pin,t] w (Ak w (Bb g ps)):=by
 have o:=Aa (fun(W:I)(j:Ba w W)=>Dy (l.f j) (m.f j) (a.ext j) d);obtain⟨L,p⟩:=gX (Bb g ps);rw[p]at o d ⊢;obtain⟨R,f⟩:=gX (Ak w L);rw[f];have u:=Aa f;have y:(L != 0)=true:=by simpa using d
 obtain⟨ga,gn,gc,rfl⟩:=La l;obtain⟨pa,pn,K,rfl⟩:=La m;obtain⟨xa,xm,xc,xs,Q,T,S,rfl⟩:=q.form;clear l m a p d q f;go_in;go_wp2_with(first|(go_at_call 49;refine cM (o.o _ eA) ?_;rintro e P ⟨rfl,c⟩;obtain⟨k,z⟩:=c.cells;(have z4:=c.size);(simp only[wZ]at z4);(have n:w.heap.size+1+1<P.heap.size:=oM)));refine bR (v:=H #[M #[Z Y 0,Z Y 0],Z Y L]) (by simp[results,Tryz.results18,go_sem,k,n]) rfl ?_;rw[<-u.o];exact⟨rfl,eA⟩
def qG(w:I)(vg vp vx:E)(g:LP)(ps:List Pl)(i b pin:Int)(x:Rat)(hg:Ja w vg g)(hp:Pd w vp ps)(K:Gw w)(hx:Ab w vx x)(h0:Bb g ps=0)(h3:Vb ps.length i pin=true\/b < -1\/(ps.length:Int)<=b):Calls Tryz.prog 18 #[M #[vg,vp],Z Y i,Z Y b,Z Y pin,vx] w (Ak w 3):=by
 have HL:=Aa (fun(W:I)(hW:Ba w W)=>Dt (hg.f hW) (hp.f hW) (K.ext hW) h0);have HW:=Aa (fun(W:I)(a:Option Addr)(n c:Nat)(hs:Sb W (O a n c) ps)=>(show Calls Tryz.prog 71 #[M #[vg,O a n c],Z Y i,Z Y pin] W fun e w'=>e=.returned (J (Vb ps.length i pin))/\Ba W w' from by
  have h:=Et W vg a n c i pin (La hg);rw[hs.len]at h ⊢;exact h))
 obtain⟨wb,P⟩:=gX (Vb ps.length i pin);rw[P]at HW h3;obtain⟨R,hR⟩:=gX (Ak w 3);rw[hR];have HR:=Aa hR;obtain⟨ga,gn,gc,rfl⟩:=La hg;obtain⟨pa,pn,ad,rfl⟩:=La hp;obtain⟨xa,xm,xc,xs,ae,ag,af,rfl⟩:=hx.form;have H3:=Aa h3;clear hg hp K h0 hx hR P h3;cases wb with
 |true=>
  go_in;go_wp2_with(first|(go_at_call 49;refine cM (HL.o _ eA) ?_;rintro e f ⟨Q,u,S,rfl,k,j⟩;obtain⟨l,y⟩:=j.cells;(have T:=j.size);(simp only[wZ]at T);(have o:w.heap.size+1+1<f.heap.size:=oM);(have aa:w.heap.size<f.heap.size:=oM);(have ab:w.heap.size+1<f.heap.size:=oM))|(go_at_call 71;refine cM (HW.o _ _ _ _ (k.f eA)) ?_;rintro e t ⟨rfl,d⟩;(have s:=((eR f).alloc (F #[O ga gn gc,O Q u S] 124)).trans d);obtain⟨m,z⟩:=d.cells;(have z5:=d.size);(simp only[wZ]at z5);(have p:f.heap.size<t.heap.size:=oM);(have q:w.heap.size+1+1<t.heap.size:=oM);(have r:w.heap.size+1+1<f.heap.size+1:=oM)));refine bR (v:=H #[M #[Z Y 0,Z Y 0],Z Y 3]) (by simp[results,Tryz.results18,go_sem,l,m,o,p,q,r]) rfl ?_;rw[<-HR.o];exact⟨rfl,eA⟩
 |false=>
  by_cases hb:b < -1
  ·go_in;go_wp2_with(first|(go_at_call 49;refine cM (HL.o _ eA) ?_;rintro e f ⟨Q,u,S,rfl,k,j⟩;obtain⟨l,y⟩:=j.cells;(have T:=j.size);(simp only[wZ]at T);(have o:w.heap.size+1+1<f.heap.size:=oM);(have aa:w.heap.size<f.heap.size:=oM);(have ab:w.heap.size+1<f.heap.size:=oM))|(go_at_call 71;refine cM (HW.o _ _ _ _ (k.f eA)) ?_;rintro e t ⟨rfl,d⟩;(have s:=((eR f).alloc (F #[O ga gn gc,O Q u S] 124)).trans d);obtain⟨m,z⟩:=d.cells;(have z5:=d.size);(simp only[wZ]at z5);(have p:f.heap.size<t.heap.size:=oM);(have q:w.heap.size+1+1<t.heap.size:=oM);(have r:w.heap.size+1+1<f.heap.size+1:=oM)));refine bR (v:=H #[M #[Z Y 0,Z Y 0],Z Y 3]) (by simp[results,Tryz.results18,go_sem,l,m,o,p,q,r]) rfl ?_;rw[<-HR.o];exact⟨rfl,eA⟩
  ·have h4:(ps.length:Int)<=b:=by
    rcases H3.o with h|h|h
    ·cases h
    ·exact absurd h hb
    ·exact h
   go_in;go_wp2_with(first|((go_at_call 49;refine cM (HL.o _ eA) ?_;rintro e f ⟨Q,u,S,rfl,k,j⟩;obtain⟨l,y⟩:=j.cells;(have T:=j.size);(simp only[wZ]at T);(have o:w.heap.size+1+1<f.heap.size:=oM);(have aa:w.heap.size<f.heap.size:=oM);(have ab:w.heap.size+1<f.heap.size:=oM));(have ac:(u:Int)<=b:=by have:=Sl.len k;omega))|(go_at_call 71;refine cM (HW.o _ _ _ _ (k.f eA)) ?_;rintro e t ⟨rfl,d⟩;(have s:=((eR f).alloc (F #[O ga gn gc,O Q u S] 124)).trans d);obtain⟨m,z⟩:=d.cells;(have z5:=d.size);(simp only[wZ]at z5);(have p:f.heap.size<t.heap.size:=oM);(have q:w.heap.size+1+1<t.heap.size:=oM);(have r:w.heap.size+1+1<f.heap.size+1:=oM)));refine bR (v:=H #[M #[Z Y 0,Z Y 0],Z Y 3]) (by simp[results,Tryz.results18,go_sem,l,m,o,p,q,r]) rfl ?_;rw[<-HR.o];exact⟨rfl,eA⟩
def th(g:LP)(ps:List Pl)(b:Int):LP:=if b<0 then g else match ps[b.toNat]? with|some q=>Pb q|none=>g
def LI{g:LP}{ps:List Pl}{b:Int}(a:Za g=true)(c:∀q∈ps,Fa q=true):mc (th g ps b)/\ph (th g ps b):=by
 unfold th;by_cases h:b<0
 ·rw[if_pos h];exact⟨Ll a,nu a⟩
 ·rw[if_neg h];cases hq:ps[b.toNat]? with
  | none=>exact⟨Ll a,nu a⟩
  | some q=>exact⟨(Lh (c q (lM hq))).2,nv (c q (lM hq))⟩
def RK(w:I)(a c:E)(g:LP)(ps:List Pl)(b:Int)(d:Ja w a g)(j:Sb w c ps)(l:b<ps.length):Calls Tryz.prog 76 #[M #[a,c],Z Y b] w fun e f=>∃v,e=.returned v/\Ja f v (th g ps b)/\Ba w f:=by
 unfold th;by_cases h:b<0
 ·rw[if_pos h];exact(pD w a c b h (La d) (La j)).mono (by rintro e f ⟨rfl,k⟩;exact⟨_,rfl,d.f k,k⟩)
 ·rw[if_neg h];obtain⟨q,i⟩:∃q,ps[b.toNat]?=N q:=⟨ps[b.toNat]' oM,gE _⟩;rw[i];have:=WC w a c ps b.toNat q (La d) j i;rw[show ((b.toNat:Nat):Int)=b by omega]at this;exact this
def Si(o:Option Be)(L:LP)(x:Rat):Option (Int×Int):=match o with|none=>X|some be=>if Eb x be.fx<0\/0<Eb x be.tx then X else N (Qa L x be.tx)
def xo(w:I)(o:Option (Int×Int))(e:Ending)(w':I):Prop:=e=.returned (H #[M #[Z Y (o.getD (0,0)).1,Z Y (o.getD (0,0)).2],Z Y (if o.isSome then 0 else 11)])/\Ba w w'
def Ji.forms{w:I}{c:List E}{b:Be}(h:Ji w c b):∃ka km kc ks ka2 km2 kc2 da dn dk du da2 dn2 dk2 ke kn kk kt ke2 kn2 kk2 fa fn fk fu fa2 fn2 fk2,c=[Z Y b.num,O ka km kc,J ks,O ka2 km2 kc2,O da dn dk,J du,O da2 dn2 dk2,O ke kn kk,J kt,O ke2 kn2 kk2,O fa fn fk,J fu,O fa2 fn2 fk2,Z Y b.d1.1,Z Y b.d1.2,Z Y b.d2.1,Z Y b.d2.2]/\Ab w (M #[O ka km kc,J ks,O ka2 km2 kc2]) b.fx/\Ab w (M #[O ke kn kk,J kt,O ke2 kn2 kk2]) b.tx:=by
 obtain⟨f,t,rfl,⟨a,m,c,s,y,W,K,d,n,k,u,Q,n2,S,e1,h1,_⟩,⟨x,T,z,s',e,l,g,P,n',R,u',i,o,j,e2,h2,_⟩⟩:=h;have p:f=[O a m c,J s,O y W K,O d n k,J u,O Q n2 S]:=by simpa using congrArg (fun v=>match v with | M q=>q.toList|_=>[]) e1
 have r:t=[O x T z,J s',O e l g,O P n' R,J u',O i o j]:=by simpa using congrArg (fun v=>match v with | M q=>q.toList|_=>[]) e2
 subst p r;exact⟨a,m,c,s,y,W,K,d,n,k,u,Q,n2,S,x,T,z,s',e,l,g,P,n',R,u',i,o,j,rfl,h1,h2⟩
def rG(w:I)(vg vp vx:E)(g:LP)(ps:List Pl)(a:Nat)(p:Pl)(b pin:Int)(x:Rat)(hg:Ja w vg g)(hp:Pd w vp ps)(a9:Gw w)(hx:Ab w vx x)(bc:Rb 1000 x)(h0:Bb g ps=0)(aG:Vb ps.length a pin=false)(ha:ps[a]?=N p)(a8:-1<=b)(aM:b<ps.length):Calls Tryz.prog 18 #[M #[vg,vp],Z Y a,Z Y b,Z Y pin,vx] w (xo w (Si (Qc g ps a p pin b) (th g ps b) x)):=by
 have HL:=Aa (fun(W:I)(r:Ba w W)=>Dt (hg.f r) (hp.f r) (a9.ext r) h0);have HW:=Aa (fun(W:I)(va:Option Addr)(n c:Nat)(hs:Sb W (O va n c) ps)=>(show Calls Tryz.prog 71 #[M #[vg,O va n c],Z Y a,Z Y pin] W fun e w'=>e=.returned (J false)/\Ba W w' from by
  have h:=Et W vg va n c a pin (La hg);rw[hs.len]at h ⊢;rw[aG]at h;exact h))
 have aq:Bd 104000 pin:=by
  unfold Vb at aG;simp only[Bool.or_eq_false_iff,decide_eq_false_iff_not]at aG;unfold Bd;omega
 have T:=On h0;have ad:=Aa (fun(W:I)(r:Ba w W)(vs:E)(hs:Sb W vs ps)=>IA W vg vs g ps a p b pin (hg.f r) hs ha T.2.2 T.1 a8 aM aq);have HT:=Aa (fun(W:I)(r:Ba w W)(vs:E)(hs:Sb W vs ps)=>RK W vg vs g ps b (hg.f r) hs aM);have bm:=Aa (fun(n:Nat)(c:Nat)(va:Option Addr)(W:I)(hs:Sb W (O va n c) ps)=>(show ¬(n:Int)<=b from by have:=Sl.len hs;omega));have bw:¬b < -1:=oM;have af:=Aa (LI (b:=b) T.2.2 T.1);have aK:=Aa (fun k (h:Qc g ps a p pin b=N k)=>DL (Ll T.2.2) T.1 ha aq h);have aL:=Aa bc;have HX:=Aa hx;obtain⟨o,ho⟩:=gX (Qc g ps a p pin b);obtain⟨L,hL⟩:=gX (th g ps b);rw[ho]at ad aK ⊢;rw[hL]at HT af ⊢;obtain⟨R,hR⟩:=gX (xo w (Si o L x));rw[hR];have HR:=Aa hR;obtain⟨ga,gn,gc,rfl⟩:=La hg;obtain⟨pa,pn,bz,rfl⟩:=La hp;obtain⟨xa,xm,xc,xs,av,ax,aw,rfl⟩:=hx.form;clear hg hp a9 h0 hx hR aG ha a8 aM aq T bc ho hL;unfold Vf at ad;go_in;go_upto_region 6 with (first|((go_at_call 49;refine cM (HL.o _ eA) ?_;rintro e w4 ⟨va,vn,vc,rfl,aF,au⟩;obtain⟨bn,bp⟩:=au.cells;(have z4:=au.size);(simp only[wZ]at z4);(have bA:w.heap.size+1+1<w4.heap.size:=oM);(have bB:w.heap.size<w4.heap.size:=oM);(have bC:w.heap.size+1<w4.heap.size:=oM));(have bx:=bm.o _ _ _ _ aF))|(go_at_call 71;refine cM (HW.o _ _ _ _ (aF.f eA)) ?_;rintro e w5 ⟨rfl,aa⟩;(have aJ:=((eR w4).alloc (F #[O ga gn gc,O va vn vc] 124)).trans aa);obtain⟨bo,bq⟩:=aa.cells;(have z5:=aa.size);(simp only[wZ]at z5);(have bD:w4.heap.size<w5.heap.size:=oM);(have bE:w.heap.size+1+1<w5.heap.size:=oM);(have bF:w.heap.size+1+1<w4.heap.size+1:=oM)));have aI:=aF.f aJ;have X5:Ba w w5:=eA;obtain⟨j,ap⟩:=gX (w.heap.size+1+1);have K9:w5.heap[w.heap.size+1]?=N (F #[O xa xm xc,J xs,O av ax aw] 63 (0,0)):=by
  refine aa.e (((eR _).alloc _).e (au.e (((eR _).alloc _).e ?_)));exact Ec _ _ _ sM
 have f:w5.heap[j]?=N (F #[Z Y 0,Z Y 0] 43 (0,0)):=by
  rw[<-ap];refine aa.e (((eR _).alloc _).e (au.e ?_));exact Ec _ _ _ sM
 have m:=aa.e (aN w4 (F #[O ga gn gc,O va vn vc] 124));have s0:=Ca m (i:=0) (u:=O ga gn gc) rfl;have s1:=Ca m (i:=1) (u:=O va vn vc) rfl;have HK:=Aa (And.intro K9 (And.intro f m));have ag:=Aa X5;have az:=Aa aI;have zb:w.heap.size<=j:=oM;have bu:w.heap.size+1<j:=oM;have bi:j<w4.heap.size:=oM;rw[ap];clear K9 f m aF aI X5 HL HW bn bp bo bq aa aJ au ap;cases o with
 |none=>
  have aW:=Aa (fun(W:I)(r:Ba w W)(vs:E)(hs:Sb W vs ps)=>cM (ad.o W r vs hs) (R':=fun e w'=>e=.returned (H #[M Yj,J false])/\Ba W w') (fun e w' h=>by
   obtain⟨h1,h2⟩:=h;rcases h2 with ⟨_,h⟩|⟨k,c,h,_⟩
   ·exact⟨h,h1⟩
   ·cases h))
  unfold Yj at aW;clear ad HT;go_wp2_with(go_at_call 72;refine cM (aW.o _ ag.o _ az.o) ?_;rintro e w6 ⟨rfl,s⟩;(have br:=Ca (s.e HK.o.2.1) (i:=0) (u:=Z Y 0) rfl);(have bs:=Ca (s.e HK.o.2.1) (i:=1) (u:=Z Y 0) rfl);(have kf:=Ua (s.e HK.o.2.1));(have bt:=Gb (s.e HK.o.2.1)));have X6:=ag.o.trans s;refine bR (v:=H #[M #[Z Y 0,Z Y 0],Z Y 11]) (by simp[results,Tryz.results18,go_sem,br,bs,bt]) rfl ?_;rw[<-HR.o];exact⟨rfl,((X6.set (p:=⟨j,0,X⟩) zb _).set (p:=⟨j,1,X⟩) zb _).alloc _⟩
 | some k =>
  have aE:=aK.o k rfl;have aX:=Aa (fun(W:I)(r:Ba w W)(vs:E)(hs:Sb W vs ps)=>cM (ad.o W r vs hs) (R':=fun e w'=>∃c,e=.returned (H #[M c.toArray,J true])/\Ji w' c k/\Ba W w') (fun e w' h=>by
   obtain⟨h1,h2⟩:=h;rcases h2 with ⟨h,_⟩|⟨bv,c,h,h3,h4⟩
   ·cases h
   ·cases h;exact⟨c,h3,h4,h1⟩))
  clear ad aK;go_upto_region 7 with (go_at_call 72;refine cM (aX.o _ ag.o _ az.o) ?_;rintro e w6 ⟨c,rfl,bb,s⟩;obtain⟨ka,km,kc,ks,aR,aU,aS,da,dn,dk,du,a2,a4,a3,ke,kn,kk,kt,ai,ak,aj,fa,fn,fk,fu,a5,a7,a6,rfl,aD,ar⟩:=bb.forms);have bj:=Gb (s.e HK.o.2.1);obtain⟨d,ac⟩:=gX w6.heap.size;rw[ac]at bj;obtain⟨W7,aC⟩:=gX (w6.alloc (F #[Z Y k.num,O ka km kc,J ks,O aR aU aS,O da dn dk,J du,O a2 a4 a3,O ke kn kk,J kt,O ai ak aj,O fa fn fk,J fu,O a5 a7 a6,Z Y k.d1.1,Z Y k.d1.2,Z Y k.d2.1,Z Y k.d2.2] 79));have aA:Ba w6 W7:=by rw[<-aC];exact(eR _).alloc _
  have P:W7.heap[d]?=N (F #[Z Y k.num,O ka km kc,J ks,O aR aU aS,O da dn dk,J du,O a2 a4 a3,O ke kn kk,J kt,O ai ak aj,O fa fn fk,J fu,O a5 a7 a6,Z Y k.d1.1,Z Y k.d1.2,Z Y k.d2.1,Z Y k.d2.2] 79 (0,0)):=by rw[<-aC,<-ac];exact aN w6 _
  rw[aC,ac];have Q:=s.trans aA;have K9:=Q.e HK.o.1;have f:=Q.e HK.o.2.1;have m:=Q.e HK.o.2.2;have aD:=aD.ext aA;have ar:=ar.ext aA;have ay:=Aa (HX.o.ext (ag.o.trans Q));have an:=Aa (ag.o.trans Q);have a0:=Aa (az.o.f Q);have C7:Da [(⟨w.heap.size+1,0,X⟩,O xa xm xc),(⟨w.heap.size+1,1,X⟩,J xs),(⟨w.heap.size+1,2,X⟩,O av ax aw),(⟨d,1,X⟩,O ka km kc),(⟨d,2,X⟩,J ks),(⟨d,3,X⟩,O aR aU aS),(⟨d,7,X⟩,O ke kn kk),(⟨d,8,X⟩,J kt),(⟨d,9,X⟩,O ai ak aj),(⟨j,0,X⟩,Z Y 0),(⟨j,1,X⟩,Z Y 0)] W7:=
   ⟨Ca K9 (i:=0) rfl,Ca K9 (i:=1) rfl,Ca K9 (i:=2) rfl,Ca P (i:=1) rfl,Ca P (i:=2) rfl,Ca P (i:=3) rfl,Ca P (i:=7) rfl,Ca P (i:=8) rfl,Ca P (i:=9) rfl,Ca f (i:=0) rfl,Ca f (i:=1) rfl,trivial⟩
  have ae:=Aa C7;have l:=Aa (And.intro f m);obtain⟨v0,v1,v2,v3,v4,v5,v6,v7,v8,v9,y,-⟩:=C7;have al:=Aa (fun(W:I)(r:Ba W7 W)=>Qj W _ _ x k.fx (ay.o.ext r) (aD.ext r) (Ug aL.o dM) (Ug aE.1 dM));have am:=Aa (fun(W:I)(r:Ba W7 W)=>Qj W _ _ x k.tx (ay.o.ext r) (ar.ext r) (Ug aL.o dM) (Ug aE.2 dM));have ao:=Aa (And.intro ar aE.2);have bg:Si (N k) L x=if Eb x k.fx<0\/0<Eb x k.tx then X else N (Qa L x k.tx):=rfl;rw[bg]at HR;obtain⟨q1,aP⟩:=gX (Eb x k.fx);obtain⟨q2,aQ⟩:=gX (Eb x k.tx);rw[aP,aQ]at HR;rw[aP]at al;rw[aQ]at am;clear aC ac aA P Q K9 f m aD ar aP aQ bg aE s bb aX s0 s1 ag az HK;by_cases d1:q1<0
  ·rw[if_pos (.inl d1)]at HR;clear am HT ao af;go_wp2_with(first|(go_at_call 75;refine cM (al.o _ (eR _)) ?_;rintro e y1 ⟨rfl,t⟩;(have G:=cE ae.o t);obtain⟨v0,v1,v2,v3,v4,v5,v6,v7,v8,v9,y,-⟩:=G;(have aT:=Ua (t.e l.o.1));(have aH:=Gb (t.e l.o.1)))|fail);refine bR (v:=H #[M #[Z Y 0,Z Y 0],Z Y 11]) (by simp[results,Tryz.results18,go_sem,v9,y,aH]) rfl ?_;rw[<-HR.o];exact⟨rfl,((an.o.trans t).set (p:=⟨j,0,X⟩) zb _).set (p:=⟨j,1,X⟩) zb _⟩
  ·by_cases d2:0<q2
   ·rw[if_pos (.inr d2)]at HR;clear HT ao af;go_wp2_with(first|(go_at_call 75;(with_reducible refine(al.o _ (eR _)).mono ?_);rintro e y1 ⟨rfl,t⟩;(have G:=cE ae.o t);obtain⟨v0,v1,v2,v3,v4,v5,v6,v7,v8,v9,y,-⟩:=G;(have aT:=Ua (t.e l.o.1));(have aH:=Gb (t.e l.o.1)))|(go_at_call 75;(with_reducible refine(am.o _ t).mono ?_);rintro e y2 ⟨rfl,j2⟩;(have z:=t.trans j2);(have G:=cE ae.o z);obtain⟨v0,v1,v2,v3,v4,v5,v6,v7,v8,v9,y,-⟩:=G;(have bh:=Ua (z.e l.o.1));(have aV:=Gb (z.e l.o.1)))|fail);refine bR (v:=H #[M #[Z Y 0,Z Y 0],Z Y 11]) (by simp[results,Tryz.results18,go_sem,v9,y,aV]) rfl ?_;rw[<-HR.o];exact⟨rfl,((an.o.trans z).set (p:=⟨j,0,X⟩) zb _).set (p:=⟨j,1,X⟩) zb _⟩
   ·rw[if_neg (fun h=>h.elim d1 d2)]at HR;go_upto_region 9 with (first|(go_at_call 75;(with_reducible refine(al.o _ (eR _)).mono ?_);rintro e y1 ⟨rfl,t⟩;(have G:=cE ae.o t);obtain⟨v0,v1,v2,v3,v4,v5,v6,v7,v8,v9,y,-⟩:=G;(have aT:=Ua (t.e l.o.1));(have aH:=Gb (t.e l.o.1)))|(go_at_call 75;(with_reducible refine(am.o _ t).mono ?_);rintro e y2 ⟨rfl,j2⟩;(have z:=t.trans j2);(have G:=cE ae.o z);obtain⟨v0,v1,v2,v3,v4,v5,v6,v7,v8,v9,y,-⟩:=G;(have bh:=Ua (z.e l.o.1));(have aV:=Gb (z.e l.o.1)))|fail);obtain⟨ah,ab⟩:=gX w4.heap.size;obtain⟨b9,aO⟩:=gX (w.heap.size+1);rw[aO]at v0 v1 v2 bu;rw[ab]at bi;have aB:=l.o;rw[ab]at aB;simp only[ab,aO];have f:=z.e aB.1;have m:=z.e aB.2;have C9:Da [(⟨ah,0,X⟩,O ga gn gc),(⟨ah,1,X⟩,O va vn vc),(⟨b9,0,X⟩,O xa xm xc),(⟨b9,1,X⟩,J xs),(⟨b9,2,X⟩,O av ax aw),(⟨d,7,X⟩,O ke kn kk),(⟨d,8,X⟩,J kt),(⟨d,9,X⟩,O ai ak aj)] y2.drew:=
     ⟨Ca m (i:=0) rfl,Ca m (i:=1) rfl,v0,v1,v2,v6,v7,v8,trivial⟩
    have D2:Ba y2 y2.drew:=(eR _).drew;have bk:=Aa (fun(W:I)(r:Ba y2 W)=>HT.o W (an.o.trans (z.trans r)) _ (a0.o.f (z.trans r)));have aZ:=Aa (fun(W:I)(r:Ba y2 W)(v:E)(hv:Ja W v L)=>Jt W v _ _ L x k.tx hv af.o.1 af.o.2 (ay.o.ext (z.trans r)) aL.o (ao.o.1.ext (z.trans r)) (ao.o.2.up dM));unfold Ek at aZ;have bl:=Aa (an.o.trans z);have aY:=Aa f;clear aB f m v0 v1 v2 v3 v4 v5 v6 v7 v8 v9 y aT aH bh aV t j2 z HT ao af al am ay a0 an ae l ab aO;refine Kc [(⟨ah,0,X⟩,O ga gn gc),(⟨ah,1,X⟩,O va vn vc),(⟨b9,0,X⟩,O xa xm xc),(⟨b9,1,X⟩,J xs),(⟨b9,2,X⟩,O av ax aw),(⟨d,7,X⟩,O ke kn kk),(⟨d,8,X⟩,J kt),(⟨d,9,X⟩,O ai ak aj)] (by exact C9) fun S=>?_;refine Db (i:=0) ?_;refine Db (i:=1) ?_;refine Db (i:=3) ?_;refine Db (i:=4) ?_;refine Db (i:=5) ?_;refine Db (i:=6) ?_;refine Ub (i:=2) (bk.o _ D2) ?_;rintro e u2 ⟨vt,rfl,bf,h2⟩;obtain⟨ta,tn,tc,rfl⟩:=La bf;refine⟨_,rfl,(cE S h2),fun S=>?_⟩;refine Ub (i:=7) (aZ.o _ (D2.trans h2) _ bf) ?_;rintro e u7 ⟨rfl,h7⟩;refine⟨_,rfl,(cE S h7),fun S=>?_⟩;have f:=(D2.trans (h2.trans h7)).e aY.o;have g0:=Ca f (i:=0) (u:=Z Y 0) rfl;have g1:=Ca f (i:=1) (u:=Z Y 0) rfl;have kf:=Ua f;have XF:=bl.o.trans (D2.trans (h2.trans h7));have ba:∀q∈[((⟨ah,0,X⟩:Addr),Value.slice ga gn gc),(⟨ah,1,X⟩,O va vn vc),(⟨b9,0,X⟩,O xa xm xc),(⟨b9,1,X⟩,J xs),(⟨b9,2,X⟩,O av ax aw),(⟨d,7,X⟩,O ke kn kk),(⟨d,8,X⟩,J kt),(⟨d,9,X⟩,O ai ak aj)],j≠q.1.block:=by
     intro q hq;simp at hq;rcases hq with rfl|rfl|rfl|rfl|rfl|rfl|rfl|rfl<;>(dsimp only;omega)
    refine Ld (i:=8) fun K hK=>?_;go_simp;refine kO hK (Da.set (Da.set S ba _) ba _) (fun S=>?_);clear hK K;refine Db (i:=9) ?_;refine Wb ?_;clear S;go_wp2;have a1:=Pk (Pk f 0 (Z Y (Qa L x k.tx).1)) 1 (Z Y (Qa L x k.tx).2);have r0:=Ca a1 (i:=0) (u:=Z Y (Qa L x k.tx).1) rfl;have r1:=Ca a1 (i:=1) (u:=Z Y (Qa L x k.tx).2) rfl;refine bR (v:=H #[M #[Z Y (Qa L x k.tx).1,Z Y (Qa L x k.tx).2],Z Y 0]) (by simp[results,Tryz.results18,go_sem,r0,r1]) rfl ?_;rw[<-HR.o];exact⟨rfl,(XF.set (p:=⟨j,0,X⟩) zb _).set (p:=⟨j,1,X⟩) zb _⟩
end
section
open Go.RowKit Go.Shelf Go.Sort
attribute [local go_sem] Oper.semAt_some
def Ur{P:Program}{f:Nat}{b:Array E}{w:I}{x p:Int}(h:x.sign=p)(k:Calls P f b w fun e a=>e=.returned (Z Y x.sign)/\Ba w a):Calls P f b w fun e a=>e=.returned (Z Y p)/\Ba w a:=by subst h;exact k
def ri(p q:Rat):Rat:=if Eb q p<0 then q else p
def si(p q:Rat):Rat:=if 0<Eb q p then q else p
def Mn(a:Rat->Rat->Rat)(w:I)(p q:Rat)(h:Nat)(t4:E)(W:I):Prop:=
 ∃i:Nat,t4=Z Y i/\((i=0/\QX W (h+1) 0)\/(i=1/\QX W (h+1) p)\/(i=2/\QX W (h+1) (a p q)))/\Ba w W/\W.heap[h]?=N (F #[Z Y 0,O X 0 0,Z Y 0,O X 0 0] 68 (0,0))
def MH(w:I)(b:Nat)(p q:Rat)(s1 t1 s2 t2:Int)(a1 e1 R S:Option Addr)(m1 c1 i1 j1 m2 c2 T j2:Nat)(hC:Da [(⟨b,0,X⟩,Z Y s1),(⟨b,1,X⟩,O a1 m1 c1),(⟨b,2,X⟩,Z Y t1),(⟨b,3,X⟩,O e1 i1 j1),(⟨b,4,X⟩,Z Y s2),(⟨b,5,X⟩,O R m2 c2),(⟨b,6,X⟩,Z Y t2),(⟨b,7,X⟩,O S T j2)] w)(hp:nc w (M #[Z Y s1,O a1 m1 c1,Z Y t1,O e1 i1 j1]) p)(hq:nc w (M #[Z Y s2,O R m2 c2,Z Y t2,O S T j2]) q)(kp:Rb Ae p)(kq:Rb Ae q):Calls Tryz.prog 68 #[O (N ⟨b,0,X⟩) 2 2] w (De w (ri p q)):=by
 have HP:=Aa hp;have HQ:=Aa hq;have aa:=Aa kp;have ab:=Aa kq;have HC:=Aa hC;have hb:b<w.heap.size:=World.block_lt_of_cell? w _ hC.1;clear hp hq kp kq hC;go_in;go_wp2;obtain⟨W0,f⟩:=gX ((w.alloc (F #[Z Y 0,O X 0 0,Z Y 0,O X 0 0] 68)).alloc (F #[Z Y 0,O X 0 0,Z Y 0,O X 0 0] 68));have X0:Ba w W0:=by rw[<-f];exact((eR w).alloc _).alloc _
 have k0:W0.heap[w.heap.size]?=N (Obj.cells #[Value.int Y 0,Value.slice X 0 0,Value.int Y 0,Value.slice X 0 0] 68 (0,0)):=by rw[<-f];exact((eR _).alloc _).e (aN _ _)
 have k1:QX W0 (w.heap.size+1) 0:=by rw[<-f];exact QX.new (nc.zero _) sM
 rw[f];clear f;go_loopw [4] (Mn ri w p q w.heap.size) (fun t4 _=>2-(intOf t4).toNat)
 case atStart=>exact⟨0,rfl,.inl ⟨rfl,k1⟩,X0,k0⟩
 case round =>
  clear X0 k0 k1;obtain⟨i,rfl,hi,k,hk⟩:=hrel;have hc:=cE HC.o k;have ad:b<wr.heap.size:=k.lt hb;have g:=Aa hk;clear hk;rcases hi with ⟨rfl,l⟩|⟨rfl,l⟩|⟨rfl,l⟩
  ·have HX:=Aa l;obtain⟨s,a,m,c,t,e,i,j,y0,y1,y2,y3,yf,yz,o⟩:=l
    |>.rd
   clear o;have ne:¬w.heap.size+1=b:=oM;go_wp2;refine Kc [(⟨w.heap.size+1,0,X⟩,Z Y s)] cA fun n=>?_;refine sN 0 ?_
   iterate 3 refine xb ?_
   iterate 7 refine Ee ?_
   refine xb ?_;refine oN ?_;refine Wb ?_;obtain⟨d0,d1,d2,d3,_⟩:=hc;go_wp2;go_roundw
   case rel=>exact⟨1,by go_num,.inr (.inl ⟨rfl,HX.o.drew.put (HP.o.ext (k.trans (eR _).drew))⟩),zj (k.trans (eR _).drew) (Nat.le_succ _) _ _ _ _,ju g.o oM _ _ _ _⟩
   case measure=>simp[intOf]
  ·have HX:=Aa l;obtain⟨s,a,m,c,t,e,i,j,y0,y1,y2,y3,yf,yz,o⟩:=l
    |>.rd
   have HI:=Aa o;clear o;have ne:¬w.heap.size+1=b:=oM;obtain⟨r,hr⟩:=gX (Eb q p);have HM:=Aa (show ri p q=if r<0 then q else p by unfold ri;rw[hr]);have y:=Aa (fun(W:I)(hW:Ba wr W)=>Em W (M #[Z Y s2,O R m2 c2,Z Y t2,O S T j2]) (M #[Z Y s,O a m c,Z Y t,O e i j]) q p (HQ.o.ext (k.trans hW)) (HI.o.ext hW) ab.o aa.o);rw[hr]at y;clear hr;obtain⟨d0,d1,d2,d3,d4,d5,d6,d7,_⟩:=hc;go_wp2;refine Kc [(⟨w.heap.size+1,0,X⟩,Z Y s),(⟨w.heap.size+1,1,X⟩,O a m c),(⟨w.heap.size+1,2,X⟩,Z Y t),(⟨w.heap.size+1,3,X⟩,O e i j),(⟨b,4,X⟩,Z Y s2),(⟨b,5,X⟩,O R m2 c2),(⟨b,6,X⟩,Z Y t2),(⟨b,7,X⟩,O S T j2)] cA fun n=>?_;refine sN 0 ?_
   iterate 8 refine xb ?_
   refine oN ?_;refine Ld (i:=8) fun K hK=>?_;go_simp;refine cM (y.o _ ((eR wr).drew)) ?_;rintro ee w5 ⟨rfl,Q⟩;go_wp2;refine kO hK (cE n Q) (fun n=>?_);clear hK K;refine sN 9 ?_
   iterate 2 refine xb ?_
   refine oN ?_;refine Wb ?_;have d:Ba wr w5:=(eR wr).drew.trans Q;replace d4:=d.d d4;replace d5:=d.d d5;replace d6:=d.d d6;replace d7:=d.d d7;have x:=HX.o.ext d;have z:=Aa x;have ae:=d.lt ad;clear d0 d1 d2 d3 y0 y1 y2 y3 yf yz;obtain⟨_,_,_,_,_,_,_,_,y0,y1,y2,y3,yf,yz,-⟩:=x.rd;clear x;by_cases h9:r<0
   ·(have e9:ri p q=q:=by rw[HM.o,if_pos h9]);go_wp2;go_roundw
    case rel=>exact⟨2,by go_num,.inr (.inr ⟨rfl,by rw[e9];exact z.o.put (HQ.o.ext (k.trans d))⟩),zj (k.trans d) (Nat.le_succ _) _ _ _ _,ju (d.e g.o) oM _ _ _ _⟩
    case measure=>simp[intOf]
   ·(have e9:ri p q=p:=by rw[HM.o,if_neg h9]);go_wp2;go_roundw
    case rel=>exact⟨2,by go_num,.inr (.inr ⟨rfl,by rw[e9];exact z.o⟩),k.trans d,d.e g.o⟩
    case measure=>simp[intOf]
  ·have HX:=Aa l;obtain⟨s,a,m,c,t,e,i,j,y0,y1,y2,y3,yf,yz,o⟩:=l
    |>.rd
   have HI:=Aa o;clear o hc;have r0:=Ca g.o (i:=0) (u:=Z Y 0) rfl;have r1:=Ca g.o (i:=1) (u:=O X 0 0) rfl;have r2:=Ca g.o (i:=2) (u:=Z Y 0) rfl;have r3:=Ca g.o (i:=3) (u:=O X 0 0) rfl;have rf:=Ua g.o;have zr:=Gb g.o;have P:QX wr w.heap.size 0:=⟨_,_,_,_,_,_,_,_,g.o,nc.zero _⟩;have ac:=Aa P;clear P;go_wp2;exact bR (v:=M #[Z Y s,O a m c,Z Y t,O e i j]) (by simp[results,Tryz.results68,go_sem,zr,r0,r1,r2,r3,rf]) rfl ⟨_,rfl,HI.o.keep (Pj [_,_,_,_] 0 ac.o.not),zj k (nE _) _ _ _ _⟩
def NH(w:I)(b:Nat)(p q:Rat)(s1 t1 s2 t2:Int)(a1 e1 R S:Option Addr)(m1 c1 i1 j1 m2 c2 T j2:Nat)(hC:Da [(⟨b,0,X⟩,Z Y s1),(⟨b,1,X⟩,O a1 m1 c1),(⟨b,2,X⟩,Z Y t1),(⟨b,3,X⟩,O e1 i1 j1),(⟨b,4,X⟩,Z Y s2),(⟨b,5,X⟩,O R m2 c2),(⟨b,6,X⟩,Z Y t2),(⟨b,7,X⟩,O S T j2)] w)(hp:nc w (M #[Z Y s1,O a1 m1 c1,Z Y t1,O e1 i1 j1]) p)(hq:nc w (M #[Z Y s2,O R m2 c2,Z Y t2,O S T j2]) q)(kp:Rb Ae p)(kq:Rb Ae q):Calls Tryz.prog 122 #[O (N ⟨b,0,X⟩) 2 2] w (De w (si p q)):=by
 have HP:=Aa hp;have HQ:=Aa hq;have aa:=Aa kp;have ab:=Aa kq;have HC:=Aa hC;have hb:b<w.heap.size:=World.block_lt_of_cell? w _ hC.1;clear hp hq kp kq hC;go_in;go_wp2;obtain⟨W0,f⟩:=gX ((w.alloc (F #[Z Y 0,O X 0 0,Z Y 0,O X 0 0] 68)).alloc (F #[Z Y 0,O X 0 0,Z Y 0,O X 0 0] 68));have X0:Ba w W0:=by rw[<-f];exact((eR w).alloc _).alloc _
 have k0:W0.heap[w.heap.size]?=N (Obj.cells #[Value.int Y 0,Value.slice X 0 0,Value.int Y 0,Value.slice X 0 0] 68 (0,0)):=by rw[<-f];exact((eR _).alloc _).e (aN _ _)
 have k1:QX W0 (w.heap.size+1) 0:=by rw[<-f];exact QX.new (nc.zero _) sM
 rw[f];clear f;go_loopw [4] (Mn si w p q w.heap.size) (fun t4 _=>2-(intOf t4).toNat)
 case atStart=>exact⟨0,rfl,.inl ⟨rfl,k1⟩,X0,k0⟩
 case round =>
  clear X0 k0 k1;obtain⟨i,rfl,hi,k,hk⟩:=hrel;have hc:=cE HC.o k;have ad:b<wr.heap.size:=k.lt hb;have g:=Aa hk;clear hk;rcases hi with ⟨rfl,l⟩|⟨rfl,l⟩|⟨rfl,l⟩
  ·have HX:=Aa l;obtain⟨s,a,m,c,t,e,i,j,y0,y1,y2,y3,yf,yz,o⟩:=l
    |>.rd
   clear o;have ne:¬w.heap.size+1=b:=oM;go_wp2;refine Kc [(⟨w.heap.size+1,0,X⟩,Z Y s)] cA fun n=>?_;refine sN 0 ?_
   iterate 3 refine xb ?_
   iterate 7 refine Ee ?_
   refine xb ?_;refine oN ?_;refine Wb ?_;obtain⟨d0,d1,d2,d3,_⟩:=hc;go_wp2;go_roundw
   case rel=>exact⟨1,by go_num,.inr (.inl ⟨rfl,HX.o.drew.put (HP.o.ext (k.trans (eR _).drew))⟩),zj (k.trans (eR _).drew) (Nat.le_succ _) _ _ _ _,ju g.o oM _ _ _ _⟩
   case measure=>simp[intOf]
  ·have HX:=Aa l;obtain⟨s,a,m,c,t,e,i,j,y0,y1,y2,y3,yf,yz,o⟩:=l
    |>.rd
   have HI:=Aa o;clear o;have ne:¬w.heap.size+1=b:=oM;obtain⟨r,hr⟩:=gX (Eb q p);have HM:=Aa (show si p q=if 0<r then q else p by unfold si;rw[hr]);have y:=Aa (fun(W:I)(hW:Ba wr W)=>Em W (M #[Z Y s2,O R m2 c2,Z Y t2,O S T j2]) (M #[Z Y s,O a m c,Z Y t,O e i j]) q p (HQ.o.ext (k.trans hW)) (HI.o.ext hW) ab.o aa.o);rw[hr]at y;clear hr;obtain⟨d0,d1,d2,d3,d4,d5,d6,d7,_⟩:=hc;go_wp2;refine Kc [(⟨w.heap.size+1,0,X⟩,Z Y s),(⟨w.heap.size+1,1,X⟩,O a m c),(⟨w.heap.size+1,2,X⟩,Z Y t),(⟨w.heap.size+1,3,X⟩,O e i j),(⟨b,4,X⟩,Z Y s2),(⟨b,5,X⟩,O R m2 c2),(⟨b,6,X⟩,Z Y t2),(⟨b,7,X⟩,O S T j2)] cA fun n=>?_;refine sN 0 ?_
   iterate 8 refine xb ?_
   refine oN ?_;refine Ld (i:=8) fun K hK=>?_;go_simp;refine cM (y.o _ ((eR wr).drew)) ?_;rintro ee w5 ⟨rfl,Q⟩;go_wp2;refine kO hK (cE n Q) (fun n=>?_);clear hK K;refine sN 9 ?_
   iterate 2 refine xb ?_
   refine oN ?_;refine Wb ?_;have d:Ba wr w5:=(eR wr).drew.trans Q;replace d4:=d.d d4;replace d5:=d.d d5;replace d6:=d.d d6;replace d7:=d.d d7;have x:=HX.o.ext d;have z:=Aa x;have ae:=d.lt ad;clear d0 d1 d2 d3 y0 y1 y2 y3 yf yz;obtain⟨_,_,_,_,_,_,_,_,y0,y1,y2,y3,yf,yz,-⟩:=x.rd;clear x;by_cases h9:0<r
   ·(have e9:si p q=q:=by rw[HM.o,if_pos h9]);go_wp2;go_roundw
    case rel=>exact⟨2,by go_num,.inr (.inr ⟨rfl,by rw[e9];exact z.o.put (HQ.o.ext (k.trans d))⟩),zj (k.trans d) (Nat.le_succ _) _ _ _ _,ju (d.e g.o) oM _ _ _ _⟩
    case measure=>simp[intOf]
   ·(have e9:si p q=p:=by rw[HM.o,if_neg h9]);go_wp2;go_roundw
    case rel=>exact⟨2,by go_num,.inr (.inr ⟨rfl,by rw[e9];exact z.o⟩),k.trans d,d.e g.o⟩
    case measure=>simp[intOf]
  ·have HX:=Aa l;obtain⟨s,a,m,c,t,e,i,j,y0,y1,y2,y3,yf,yz,o⟩:=l
    |>.rd
   have HI:=Aa o;clear o hc;have r0:=Ca g.o (i:=0) (u:=Z Y 0) rfl;have r1:=Ca g.o (i:=1) (u:=O X 0 0) rfl;have r2:=Ca g.o (i:=2) (u:=Z Y 0) rfl;have r3:=Ca g.o (i:=3) (u:=O X 0 0) rfl;have rf:=Ua g.o;have zr:=Gb g.o;have P:QX wr w.heap.size 0:=⟨_,_,_,_,_,_,_,_,g.o,nc.zero _⟩;have ac:=Aa P;clear P;go_wp2;exact bR (v:=M #[Z Y s,O a m c,Z Y t,O e i j]) (by simp[results,Tryz.results122,go_sem,zr,r0,r1,r2,r3,rf]) rfl ⟨_,rfl,HI.o.keep (Pj [_,_,_,_] 0 ac.o.not),zj k (nE _) _ _ _ _⟩
end
section
open Go.RowKit Go.Shelf Go.Sort
def LF(o:Rat×Rat)(x:Rat):ue o x=(ri o.1 x,si o.2 x):=by
 unfold ue ri si;have a:Nd (-1) [o.1,x]=if Eb x o.1<0 then x else o.1:=by
  show Vd (-1) o.1 x=_;unfold Vd;simp only[Uz,Kn]
 have b:Nd 1 [o.2,x]=if 0<Eb x o.2 then x else o.2:=by
  show Vd 1 o.2 x=_;unfold Vd;simp only[Tz,Kq]
 rw[a,b]
def ig.fold:∀(l:List Rat){o:Rat×Rat}{S:Rat->Prop},ig o S->ig (l.foldl ue o) fun x=>S x\/x∈l
 | [],o,S,h=>h.of fun x=>⟨fun h=>h.elim id (fun h=>by simp at h),.inl⟩
 | y::l,o,S,h=>(ig.fold l (h.wid y)).of fun x=>⟨fun h=>h.elim (fun h=>.inl (.inl h)) fun h=>(List.mem_cons.1 h).elim (fun h=>.inl (.inr h)) .inr,fun h=>h.elim (fun h=>h.elim .inl fun h=>.inr (by rw[h];simp)) fun h=>.inr (mC _ h)⟩
def ig.uniq{o c:Rat×Rat}{S:Rat->Prop}(h:ig o S)(i:ig c S):o=c:=by obtain⟨d,e,a⟩:=h;obtain⟨f,g,b⟩:=i;exact Prod.ext (Rat.le_antisymm (a _ f).1 (b _ d).1) (Rat.le_antisymm (b _ e).2 (a _ g).2)
def uj(f:Rat->Rat)(y:Rat):List Rat:=if (f y).num.sign<=0 then [y]else []
def iq(f:Rat->Rat)(y x:Rat):List Rat:=if (f y).num.sign*(f x).num.sign<0 then [Td f y x]else []
def Bl(f:Rat->Rat)(y x:Rat):List Rat:=uj f y++uj f x++iq f y x
def vA{f:Rat->Rat}{y x:Rat}:x∈uj f y ↔ f y<=0/\x=y:=by
 unfold uj;by_cases h:f y<=0
 ·rw[if_pos (uh.2 h)];simp[h]
 ·rw[if_neg (fun a=>h (uh.1 a))];simp[h]
def CI{f:Rat->Rat}{y z x:Rat}:x∈iq f y z ↔ f z*f y<0/\x=Td f y z:=by
 unfold iq;have e:f z*f y=f y*f z:=Rat.mul_comm _ _;by_cases h:f y*f z<0
 ·rw[if_pos ((Tf _ _).2 h),e];simp[h]
 ·rw[if_neg (fun a=>h ((Tf _ _).1 a)),e];simp[h]
def Yi{f:Rat->Rat}{y z x:Rat}:x∈Bl f y z ↔ (f y<=0/\x=y)\/(f z<=0/\x=z)\/(f z*f y<0/\x=Td f y z):=by
 unfold Bl;rw[List.mem_append,List.mem_append,vA,vA,CI];constructor
 ·rintro ((h|h)|h)
  ·exact .inl h
  ·exact .inr (.inl h)
  ·exact .inr (.inr h)
 ·rintro (h|h|h)
  ·exact .inl (.inl h)
  ·exact .inl (.inr h)
  ·exact .inr h
def yp(f:Rat->Rat)(qs:List Rat)(m:Rat)(i:Nat)(o:Rat×Rat):Prop:=if i=1 then o=(m,m)else ig o (Eo f qs m i)
def iI{f:Rat->Rat}{qs:List Rat}{m:Rat}{i:Nat}{o:Rat×Rat}(g:0<i)(h:yp f qs m i o):yp f qs m (i+1) ((Bl f (qs.getD (i-1) 0) (qs.getD i 0)).foldl ue o):=by
 unfold yp at *;rw[if_neg oM];by_cases e:i=1
 ·subst e;rw[if_pos rfl]at h;have c:ig o fun x=>x=m:=by rw[h];exact⟨rfl,rfl,fun x d=>by cases d;exact⟨Rat.le_refl,Rat.le_refl⟩⟩
  refine(ig.fold _ c).of fun x=>?_;rw[Yi];show ((x=m\/_\/_)\/_\/_) ↔ _;simp only[Nat.sub_self,ne_eq,not_true_eq_false,false_and,or_false,Nat.one_ne_zero,not_false_eq_true,true_and];constructor
  ·rintro ((h|h)|h|h)
   ·exact .inl h
   ·exact .inr (.inl h)
   ·exact .inr (.inr (.inl h))
   ·exact .inr (.inr (.inr h))
  ·rintro (h|h|h|h)
   ·exact .inl (.inl h)
   ·exact .inl (.inr h)
   ·exact .inr (.inl h)
   ·exact .inr (.inr h)
 ·rw[if_neg e]at h;refine(ig.fold _ h).of fun x=>?_;rw[Yi];obtain⟨j,rfl⟩:∃j,i=j+1:=⟨i-1,by omega⟩;rw[Nat.add_sub_cancel];constructor
  ·rintro (h|h|⟨-,a,b⟩)
   ·exact .inl h
   ·exact .inr (.inr (.inl h))
   ·rw[Nat.add_sub_cancel]at a b;exact .inr (.inr (.inr ⟨a,b⟩))
  ·rintro (h|h|h|⟨a,b⟩)
   ·exact .inl h
   ·exact .inl (.inr (.inl h))
   ·exact .inr (.inl h)
   ·exact .inr (.inr ⟨by omega,by rw[Nat.add_sub_cancel];exact a,by rw[Nat.add_sub_cancel];exact b⟩)
def SF{f:Rat->Rat}{qs:List Rat}{m:Rat}{n:Nat}{o:Rat×Rat}(a:1<n)(h:yp f qs m n o):o=Cb f qs (m,m) n:=by unfold yp at h;rw[if_neg oM]at h;exact h.uniq (EC f qs m n)
end
section
open Go.RowKit Go.Shelf Go.Sort Go.Lib
attribute [local go_sem] Oper.semAt_some
def Ge:Code->List Code
 | .seq a b=>Ge a++Ge b
 | .cond _ a b=>Ge a++Ge b
 | .block _ b=>Ge b
 | .loop b=>Ge b
 | .rangeFunc _ _ a b=>Ge a++Ge b
 | .scope b=>Ge b
 | .region i o d=>[.region i o d]
 | _=>[]
def Mi(f:Func)(k:Nat):Code:=match f.body with|some c=>(Ge c).getD k .skip|none=>.skip
def Dl(g j e f d:E)(pin:Int)(b c i:Nat)(a:Act):Prop:=a.tmps.size=155/\a.tmps.getD 0 undef=g/\a.tmps.getD 1 undef=j/\a.tmps.getD 2 undef=Z Y pin/\a.tmps.getD 6 undef=e/\a.tmps.getD 7 undef=f/\a.tmps.getD 8 undef=J false/\a.tmps.getD 14 undef=C (N ⟨b,0,X⟩)/\a.tmps.getD 15 undef=C (N ⟨c,0,X⟩)/\a.tmps.getD 16 undef=d/\a.tmps.getD 17 undef=Z Y i/\a.defers=[]
def KH(Q:Exit->Act->I->Prop)(W:I)(va vb p6 p7:E)(pin:Int)(aa ab i n rc:Nat)(ra:Option Addr)(L:List Int)(x y:Int)(a0:Act)(hF:Dl va vb p6 p7 (O ra n rc) pin aa ab i a0)(q:Pc 3 W (O ra n rc) L)(hn:L.length=n)(az:n<=1000000)(i0:0<i)(hi:i<n)(hx:L[i]?=N x)(hy:L[i-1]?=N y)(bx:Bd 104000 x)(by':Bd 104000 y)(ad:∀(c:List PanicEntry)(a:Act)(d:Option Nat)(v:E)(w:I),Q (.panic c) (a.put d v) w->Q (.panic c) a w)(ae:∀(c:List PanicEntry)(a:Act)(d:Option Nat)(v:E)(w:I),Q (.panic c) a w->Q (.panic c) (a.put d v) w)(hQ:∀a' W' b18 b19,Dl va vb p6 p7 (O ra n rc) pin aa ab i a'->a'.tmps.getD 18 undef=C (N ⟨b18,0,X⟩)->a'.tmps.getD 19 undef=C (N ⟨b19,0,X⟩)->QX W' b18 (y:Rat)->QX W' b19 (x:Rat)->Ba W W'->Q .normal a' W'):(Mi Tryz.f78 11).wp Tryz.prog Q a0 W:=by
 have HQ:=Aa hQ;have b:=Aa ad;have ar:=Aa ae;have ap:=Aa (fun W=>Jm W x (by unfold Bd at bx;omega) (by unfold Bd at bx;omega));have aq:=Aa (fun W=>Jm W y (by unfold Bd at by';omega) (by unfold Bd at by';omega));obtain⟨rb,ro,av,ay,t⟩:=q.open (by rw[hn];omega);subst av;have c0:=t i x hx;have S:=t (i-1) y hy;have g0:(0:Int)<=(i:Int):=oM;have g5:(1:Int)<=(i:Int):=oM;have g1:(i:Int)<(n:Int):=oM;have g2:(0:Int)<=(i:Int)-1:=oM;have g3:(i:Int)-1<(n:Int):=oM;have g4:((i:Int)-1).toNat=i-1:=oM;have kw:IntKind.i64.wrap ((i:Int)-1)=(i:Int)-1:=iW _ oM;have hC:Da [(⟨rb,ro+i,X⟩,Z Y x),(⟨rb,ro+(i-1),X⟩,Z Y y)] W.drew:=cE ⟨c0,S,trivial⟩ (eR W).drew;clear hQ ad ae hx hy t c0 S q bx by';unfold Mi;simp only[Tryz.f78,Ge,List.cons_append,List.nil_append,List.append_nil,List.getD_cons_succ,List.getD_cons_zero];obtain⟨tt,dd⟩:=a0;obtain⟨f0,f1,f2,f3,f6,f7,f8,k,l,m,o,aj⟩:=hF;dsimp only at f0 f1 f2 f3 f6 f7 f8 k l m o  aj;subst aj;obtain⟨u,hu,ht⟩:=Hh tt 155 f0;simp only[hu]at f1 f2 f3 f6 f7 f8 k l m o;clear hu f0;subst ht;simp only[List.range,List.range.loop,List.map_cons,List.map_nil,f1,f2,f3,f6,f7,f8,k,l,m,o ];clear f1 f2 f3 f6 f7 f8 k l m o;refine Vn [(11,18,Obj.cells #[Value.int Y 0,Value.slice X 0 0,Value.int Y 0,Value.slice X 0 0] 68 (0,0)),(12,19,Obj.cells #[Value.int Y 0,Value.slice X 0 0,Value.int Y 0,Value.slice X 0 0] 68 (0,0))] _ 13 12 (fun i=>decide (12<i)) (fun _=>false) kM kM kM sM kM (by intro x hx;simp only[List.mem_cons,List.not_mem_nil,or_false]at hx;rcases hx with rfl|rfl<;>exact⟨_,rfl,rfl,fun a W=>by go_simp⟩) (fun _ _ _ _ _ h=>ar.o _ _ _ _ _ h) hC (fun ac=>?_);refine Wd (i:=0) (h4:=fun _ _ _ h=>b.o _ _ _ _ _ h) ?_;refine Wd (i:=1) (h4:=fun _ _ _ h=>b.o _ _ _ _ _ h) ?_;refine Wd (i:=2) (h4:=fun _ _ _ h=>b.o _ _ _ _ _ h) ?_;refine Wd (i:=3) (h4:=fun _ _ _ h=>b.o _ _ _ _ _ h) ?_;refine Wd (i:=4) (h4:=fun _ _ _ h=>b.o _ _ _ _ _ h) ?_;refine Wd (i:=6) (h4:=fun _ _ _ h=>b.o _ _ _ _ _ h) ?_;refine Wd (i:=7) (h4:=fun _ _ _ h=>b.o _ _ _ _ _ h) ?_;refine Wd (i:=8) (h4:=fun _ _ _ h=>b.o _ _ _ _ _ h) ?_;refine Wd (i:=9) (h4:=fun _ _ _ h=>b.o _ _ _ _ _ h) ?_;refine Gh (i:=5) fun V1 ax ah r K j=>?_;go_simp;refine cM (aq.o V1) ?_;rintro e v1 ⟨r1,rfl,ak,aw⟩;obtain⟨s1,a1,m1,S,t1,e1,i1,j1,rfl⟩:=ak.form;go_wp2;refine kO j (.of ah aw) (fun _ _=>?_);clear j K r;refine Gh (i:=10) fun V2 ag ai r K j=>?_;go_simp;refine cM (ap.o V2) ?_;rintro e v2 ⟨r2,rfl,al,am⟩;obtain⟨s2,a2,m2,c2,t2,e2,i2,j2,rfl⟩:=al.form;go_wp2;refine kO j (.of ai am) (fun _ _=>?_);clear j K r;refine df kM (fun T p s=>?_);intro b18 f P _ _ b19 g R z _;have z:b19≠b18:=by simpa using z
 have an:W.heap.size<=b18:=by simpa using P
 have ao:W.heap.size<=b19:=by simpa using R
 have X5:Ba W T:=(eR W).drew.trans s;have xf:=Ua f;have yf:=Ua g;have x0:=Ca f (i:=0) (u:=Z Y 0) rfl;have x1:=Ca f (i:=1) (u:=O X 0 0) rfl;have x2:=Ca f (i:=2) (u:=Z Y 0) rfl;have x3:=Ca f (i:=3) (u:=O X 0 0) rfl;have u0:=Ca g (i:=0) (u:=Z Y 0) rfl;have u1:=Ca g (i:=1) (u:=O X 0 0) rfl;have u2:=Ca g (i:=2) (u:=Z Y 0) rfl;have u3:=Ca g (i:=3) (u:=O X 0 0) rfl;refine Ld (i:=13) fun K j=>?_;go_simp;refine kO j (cE ac (by(repeat refine Ba.set ?_ (by first|exact P|exact R) _);exact s)) (fun au=>?_);clear j K;refine Ld (i:=14) fun K j=>?_;go_simp;refine kO j (cE ac (by(repeat refine Ba.set ?_ (by first|exact P|exact R) _);exact s)) (fun au=>?_);clear j K;refine Wb ?_;obtain⟨W6,af⟩:=gX (Ig (Ig T b18 0 [Z Y s1,O a1 m1 S,Z Y t1,O e1 i1 j1]) b19 0 [Z Y s2,O a2 m2 c2,Z Y t2,O e2 i2 j2]);have e6:(((((((((T.setCell ⟨b18,0,X⟩ (Z Y s1)).setCell ⟨b18,1,X⟩ (O a1 m1 S)).setCell ⟨b18,2,X⟩ (Z Y t1)).setCell ⟨b18,3,X⟩ (O e1 i1 j1))).setCell ⟨b19,0,X⟩ (Z Y s2)).setCell ⟨b19,1,X⟩ (O a2 m2 c2)).setCell ⟨b19,2,X⟩ (Z Y t2)).setCell ⟨b19,3,X⟩ (O e2 i2 j2))=W6:=af;rw[e6];have TB:=Zn (cs:=[Z Y 0,O X 0 0,Z Y 0,O X 0 0]) (ds:=[Z Y 0,O X 0 0,Z Y 0,O X 0 0]) [Z Y s1,O a1 m1 S,Z Y t1,O e1 i1 j1] [Z Y s2,O a2 m2 c2,Z Y t2,O e2 i2 j2] f g z rfl rfl;rw[af]at TB;obtain⟨K1,K2,-,tk,te⟩:=TB;have X6:=te W X5 an ao;have kp:=tk 3 dM dM;have Y2:Ba v2 T:=p;have Y1:Ba v1 T:=ag.trans (am.trans p);exact HQ.o _ W6 b18 b19 ⟨rfl,rfl,rfl,rfl,rfl,rfl,rfl,rfl,rfl,rfl,rfl,rfl⟩ rfl rfl ⟨_,_,_,_,_,_,_,_,K1,(ak.ext Y1).keep kp⟩ ⟨_,_,_,_,_,_,_,_,K2,(al.ext Y2).keep kp⟩ X6
def JH(Q:Exit->Act->I->Prop)(W:I)(va vb p6 p7 bh:E)(pin:Int)(aX aY i j k:Nat)(A B:LP)(x y:Rat)(a0:Act)(hF:Dl va vb p6 p7 bh pin aX aY i a0)(ag:a0.tmps.getD 18 undef=C (N ⟨j,0,X⟩))(ah:a0.tmps.getD 19 undef=C (N ⟨k,0,X⟩))(bf:QX W j y)(bg:QX W k x)(bx:Rb 1 x)(by':Rb 1 y)(s:Bd 104000 pin)(aS:Sa (∀V vx q,Ba W V->nc V vx q->Rb 1 q->Calls Tryz.prog 37 #[va,vx] V (De V (Yd A q))))(aT:Sa (∀V vx q,Ba W V->nc V vx q->Rb 1 q->Calls Tryz.prog 37 #[vb,vx] V (De V (Yd B q))))(aO:∀q,Rb 1 q->Rb 11 (Yd A q)/\Rb 11 (Yd B q)/\Rb 23 (Yd A q-Yd B q))(a5:∀(c:List PanicEntry)(a:Act)(d:Option Nat)(v:E)(w:I),Q (.panic c) (a.put d v) w->Q (.panic c) a w)(a6:∀(c:List PanicEntry)(a:Act)(d:Option Nat)(v:E)(w:I),Q (.panic c) a w->Q (.panic c) (a.put d v) w)(hQ:∀a' W' b20 b21,Dl va vb p6 p7 bh pin aX aY i a'->a'.tmps.getD 18 undef=C (N ⟨j,0,X⟩)->a'.tmps.getD 19 undef=C (N ⟨k,0,X⟩)->a'.tmps.getD 20 undef=C (N ⟨b20,0,X⟩)->a'.tmps.getD 21 undef=C (N ⟨b21,0,X⟩)->QX W' b20 (Yd A y-Yd B y-(pin:Rat))->QX W' b21 (Yd A x-Yd B x-(pin:Rat))->Ba W W'->Q .normal a' W'):(Mi Tryz.f78 12).wp Tryz.prog Q a0 W:=by
 have HQ:=Aa hQ;have g:=Aa a5;have bk:=Aa a6;have aW:=Aa (fun W=>Jm W pin (by unfold Bd at s;omega) (by unfold Bd at s;omega));have ai:Sa (Rb 1 (pin:Rat)):=Aa (Rg s);have Hx:=Aa bx;have Hy:=Aa by';have aB:=Aa (aO x bx);have aC:=Aa (aO y by');obtain⟨s8,a8,m8,c8,t8,e8,i8,j8,x0,x1,x2,x3,xf,xz,a3⟩:=bf.rd;obtain⟨s9,a9,m9,c9,t9,e9,i9,j9,y0,y1,y2,y3,yf,yz,a4⟩:=bg.rd;have aU:=Aa a3;have aV:=Aa a4;have hC:Da [(⟨j,0,X⟩,Z Y s8),(⟨j,1,X⟩,O a8 m8 c8),(⟨j,2,X⟩,Z Y t8),(⟨j,3,X⟩,O e8 i8 j8),(⟨k,0,X⟩,Z Y s9),(⟨k,1,X⟩,O a9 m9 c9),(⟨k,2,X⟩,Z Y t9),(⟨k,3,X⟩,O e9 i9 j9)] W.drew:=cE ⟨x0,x1,x2,x3,y0,y1,y2,y3,trivial⟩ (eR W).drew;clear hQ a5 a6 bx by' s aO bf bg x0 x1 x2 x3 xf xz a3 y0 y1 y2 y3 yf yz a4;unfold Mi;simp only[Tryz.f78,Ge,List.cons_append,List.nil_append,List.append_nil,List.getD_cons_succ,List.getD_cons_zero];obtain⟨tt,dd⟩:=a0;obtain⟨f0,f1,f2,f3,f6,f7,f8,ac,ad,ae,af,ba⟩:=hF;dsimp only at f0 f1 f2 f3 f6 f7 f8 ac ad ae af ag ah ba;subst ba;obtain⟨u,hu,ht⟩:=Hh tt 155 f0;simp only[hu]at f1 f2 f3 f6 f7 f8 ac ad ae af ag ah;clear hu f0;subst ht;simp only[List.range,List.range.loop,List.map_cons,List.map_nil,f1,f2,f3,f6,f7,f8,ac,ad,ae,af ,ag,ah];clear f1 f2 f3 f6 f7 f8 ac ad ae af ag ah;refine Vn [(20,20,Obj.cells #[Value.int Y 0,Value.slice X 0 0,Value.int Y 0,Value.slice X 0 0] 68 (0,0)),(21,21,Obj.cells #[Value.int Y 0,Value.slice X 0 0,Value.int Y 0,Value.slice X 0 0] 68 (0,0))] _ 22 12 (fun i=>decide (21<i)) (fun _=>false) kM kM kM sM kM (by intro x hx;simp only[List.mem_cons,List.not_mem_nil,or_false]at hx;rcases hx with rfl|rfl<;>exact⟨_,rfl,rfl,fun a W=>by go_simp⟩) (fun _ _ _ _ _ h=>bk.o _ _ _ _ _ h) hC (fun aZ=>?_);refine Wd (i:=0) (h4:=fun _ _ _ h=>g.o _ _ _ _ _ h) ?_;refine Wd (i:=1) (h4:=fun _ _ _ h=>g.o _ _ _ _ _ h) ?_;refine Wd (i:=3) (h4:=fun _ _ _ h=>g.o _ _ _ _ _ h) ?_;refine Wd (i:=4) (h4:=fun _ _ _ h=>g.o _ _ _ _ _ h) ?_;refine Wd (i:=7) (h4:=fun _ _ _ h=>g.o _ _ _ _ _ h) ?_;refine Wd (i:=10) (h4:=fun _ _ _ h=>g.o _ _ _ _ _ h) ?_;refine Wd (i:=11) (h4:=fun _ _ _ h=>g.o _ _ _ _ _ h) ?_;refine Wd (i:=13) (h4:=fun _ _ _ h=>g.o _ _ _ _ _ h) ?_;refine Wd (i:=14) (h4:=fun _ _ _ h=>g.o _ _ _ _ _ h) ?_;refine Wd (i:=17) (h4:=fun _ _ _ h=>g.o _ _ _ _ _ h) ?_;refine Gh (i:=2) fun bl bw n b K f=>?_;go_simp;refine cM (aS.o bl _ _ ((eR W).drew.trans n) (aU.o.ext ((eR W).drew.trans n)) Hy.o) ?_;rintro e cS ⟨co,rfl,ak,bb⟩;obtain⟨cz,bA,cg,bI,cJ,bQ,b0,b8,rfl⟩:=ak.form;go_wp2;refine kO f (.of n bb) (fun _ _=>?_);clear f K b;refine Gh (i:=5) fun bn aE p b K f=>?_;go_simp;refine cM (aT.o bn _ _ ((eR W).drew.trans p) (aU.o.ext ((eR W).drew.trans p)) Hy.o) ?_;rintro e cU ⟨cq,rfl,am,ax⟩;obtain⟨cC,bC,ci,bK,cL,bU,b2,ca,rfl⟩:=am.form;go_wp2;refine kO f (.of p ax) (fun _ _=>?_);clear f K b;refine Gh (i:=6) fun bp R aH b K f=>?_;go_simp;(with_reducible refine cM (Dn bp _ _ _ _ (ak.ext (aE.trans (ax.trans R))) (am.ext R) (aC.o.1.mono dM) (aC.o.2.1.mono dM)) ?_);rintro e cW ⟨ct,rfl,ao,bc⟩;obtain⟨cF,bE,ck,bM,cO,bW,b4,cc,rfl⟩:=ao.form;go_wp2;refine kO f (.of aH bc) (fun _ _=>?_);clear f K b;refine Gh (i:=8) fun br aF aJ b K f=>?_;go_simp;refine cM (aW.o br) ?_;rintro e cY ⟨cv,rfl,aq,az⟩;obtain⟨cH,bG,cm,bO,cQ,bY,b6,ce,rfl⟩:=aq.form;go_wp2;refine kO f (.of aJ az) (fun _ _=>?_);clear f K b;refine Gh (i:=9) fun bt T aL b K f=>?_;go_simp;(with_reducible refine cM (Dn bt _ _ _ _ (ao.ext (aF.trans (az.trans T))) (aq.ext T) (aC.o.2.2.mono dM) (ai.o.mono dM)) ?_);rintro e bz ⟨cx,rfl,au,be⟩;obtain⟨s1,a1,m1,c1,t1,e1,i1,j1,rfl⟩:=au.form;go_wp2;refine kO f (.of aL be) (fun _ _=>?_);clear f K b;refine Gh (i:=12) fun bm aD o b K f=>?_;go_simp;refine cM (aS.o bm _ _ ((eR W).drew.trans o) (aV.o.ext ((eR W).drew.trans o)) Hx.o) ?_;rintro e cT ⟨cp,rfl,al,aw⟩;obtain⟨cB,bB,ch,bJ,cK,bT,b1,b9,rfl⟩:=al.form;go_wp2;refine kO f (.of o aw) (fun _ _=>?_);clear f K b;refine Gh (i:=15) fun bo P r b K f=>?_;go_simp;refine cM (aT.o bo _ _ ((eR W).drew.trans r) (aV.o.ext ((eR W).drew.trans r)) Hx.o) ?_;rintro e cV ⟨cr,rfl,an,aa⟩;obtain⟨cD,bD,cj,bL,cN,bV,b3,cb,rfl⟩:=an.form;go_wp2;refine kO f (.of r aa) (fun _ _=>?_);clear f K b;refine Gh (i:=16) fun bq l aI b K f=>?_;go_simp;(with_reducible refine cM (Dn bq _ _ _ _ (al.ext (P.trans (aa.trans l))) (an.ext l) (aB.o.1.mono dM) (aB.o.2.1.mono dM)) ?_);rintro e cX ⟨cu,rfl,ap,ay⟩;obtain⟨cG,bF,cl,bN,cP,bX,b5,cd,rfl⟩:=ap.form;go_wp2;refine kO f (.of aI ay) (fun _ _=>?_);clear f K b;refine Gh (i:=18) fun bs S aK b K f=>?_;go_simp;refine cM (aW.o bs) ?_;rintro e cZ ⟨cw,rfl,ar,ab⟩;obtain⟨cI,bH,cn,bP,cR,bZ,b7,cf,rfl⟩:=ar.form;go_wp2;refine kO f (.of aK ab) (fun _ _=>?_);clear f K b;refine Gh (i:=19) fun bu m aM b K f=>?_;go_simp;(with_reducible refine cM (Dn bu _ _ _ _ (ap.ext (S.trans (ab.trans m))) (ar.ext m) (aB.o.2.2.mono dM) (ai.o.mono dM)) ?_);rintro e c0 ⟨cy,rfl,av,aA⟩;obtain⟨s2,a2,m2,c2,t2,e2,i2,j2,rfl⟩:=av.form;go_wp2;refine kO f (.of aM aA) (fun _ _=>?_);clear f K b;refine df kM (fun W5 aj aG=>?_);intro b20 t aQ _ _ b21 z aR aP _;have aP:b21≠b20:=by simpa using aP
 have bi:W.heap.size<=b20:=by simpa using aQ
 have bj:W.heap.size<=b21:=by simpa using aR
 have X5:Ba W W5:=(eR W).drew.trans aG;have xf:=Ua t;have yf:=Ua z;have x0:=Ca t (i:=0) (u:=Z Y 0) rfl;have x1:=Ca t (i:=1) (u:=O X 0 0) rfl;have x2:=Ca t (i:=2) (u:=Z Y 0) rfl;have x3:=Ca t (i:=3) (u:=O X 0 0) rfl;have u0:=Ca z (i:=0) (u:=Z Y 0) rfl;have u1:=Ca z (i:=1) (u:=O X 0 0) rfl;have u2:=Ca z (i:=2) (u:=Z Y 0) rfl;have u3:=Ca z (i:=3) (u:=O X 0 0) rfl;refine Ld (i:=22) fun K f=>?_;go_simp;refine kO f (cE aZ (by(repeat refine Ba.set ?_ (by first|exact aQ|exact aR) _);exact aG)) (fun bv=>?_);clear f K;refine Ld (i:=23) fun K f=>?_;go_simp;refine kO f (cE aZ (by(repeat refine Ba.set ?_ (by first|exact aQ|exact aR) _);exact aG)) (fun bv=>?_);clear f K;refine Wb ?_;obtain⟨W6,a7⟩:=gX (Ig (Ig W5 b20 0 [Z Y s1,O a1 m1 c1,Z Y t1,O e1 i1 j1]) b21 0 [Z Y s2,O a2 m2 c2,Z Y t2,O e2 i2 j2]);have e6:(((((((((W5.setCell ⟨b20,0,X⟩ (Z Y s1)).setCell ⟨b20,1,X⟩ (O a1 m1 c1)).setCell ⟨b20,2,X⟩ (Z Y t1)).setCell ⟨b20,3,X⟩ (O e1 i1 j1))).setCell ⟨b21,0,X⟩ (Z Y s2)).setCell ⟨b21,1,X⟩ (O a2 m2 c2)).setCell ⟨b21,2,X⟩ (Z Y t2)).setCell ⟨b21,3,X⟩ (O e2 i2 j2))=W6:=a7;rw[e6];have TB:=Zn (cs:=[Z Y 0,O X 0 0,Z Y 0,O X 0 0]) (ds:=[Z Y 0,O X 0 0,Z Y 0,O X 0 0]) [Z Y s1,O a1 m1 c1,Z Y t1,O e1 i1 j1] [Z Y s2,O a2 m2 c2,Z Y t2,O e2 i2 j2] t z aP rfl rfl;rw[a7]at TB;obtain⟨K1,K2,-,tk,te⟩:=TB;have X6:=te W X5 bi bj;have kp:=tk 3 dM dM;have Y1:Ba bz W5:=aD.trans (aw.trans (P.trans (aa.trans (l.trans (ay.trans (S.trans (ab.trans (m.trans (aA.trans aj)))))))));exact HQ.o _ W6 b20 b21 ⟨rfl,rfl,rfl,rfl,rfl,rfl,rfl,rfl,rfl,rfl,rfl,rfl⟩ rfl rfl rfl rfl ⟨_,_,_,_,_,_,_,_,K1,(au.ext Y1).keep kp⟩ ⟨_,_,_,_,_,_,_,_,K2,(av.ext aj).keep kp⟩ X6
