import Derived.Test.YthgbjoahfnjadaaGreatDoorCopA18
set_option maxRecDepth 1000000
set_option maxHeartbeats 16000000
set_option linter.all false
open Go.Value renaming slice->O,int->Z,bool->J,agg->C,pointer->G,tuple->H
open Option renaming none->Y,some->F
open Go.IntKind renaming i64->X
open Go renaming World->I,Value->N
open Go.Obj renaming cells->M
namespace Go.Proofs.YthgbjoahfnjadaaGreatDoor.Cop
section
open Go.RowKit Go.Shelf Go.Sort Go.Lib
attribute [local go_sem] Oper.semAt_some
def Td(sk:Int)(ps:List Pl):List Li:=(Eh sk ps).map fun p=>(za p,Ra p)
def Gh{u:I}(x:Lx u):Li:=(za x.1.2,Ra x.1.2)
def ME{u:I}{sk:Int}{zs:List (Lx u)}{ps:List Pl}(h:zs.map (fun x=>x.1.2)=ps):(yg sk zs).map Gh=Td sk ps:=by subst h;unfold yg Td Eh;rw[List.filter_map,List.map_map];rfl
def uA(lo hi px qx:Rat):∀(P:List Li)(p:Li),Lc lo hi px qx (P++[p])=Lc lo hi px qx P+We lo hi px qx p.1 p.2
 | [],p=>by show We lo hi px qx p.1 p.2+0=0+We lo hi px qx p.1 p.2;grind
 | a::P,p=>by
  show We lo hi px qx a.1 a.2+Lc lo hi px qx (P++[p])=We lo hi px qx a.1 a.2+Lc lo hi px qx P+We lo hi px qx p.1 p.2;rw[uA lo hi px qx P p];grind
section
variable {lo hi px qx:Int}
def Sq(h:uh lo hi px qx){l:LP}(b:Fb l)(c:Bb l):Rb 57000 (qb (Eb (lo:Rat) (hi:Rat) (px:Rat) (qx:Rat)) (yb l)):=by refine(qt h (fun e a=>⟨pl b.2.1 a,Oo c a⟩)).up ?_;have:=b.2.2;rw[Xq];omega
def Bt(h:uh lo hi px qx):∀{P:List Li},(∀p∈P,(Fb p.1/\Fb p.2)/\Bb p.1/\Bb p.2)->Rb (114002*P.length+1) (Lc (lo:Rat) (hi:Rat) (px:Rat) (qx:Rat) P)
 | [],_=>(me (k:=1000) (n:=0) (by unfold Bd;omega)).up (by simp)
 | p::P,hP=>by
  obtain⟨⟨d,e⟩,f,g⟩:=hP p sM;have a:=(Sq h e g).sub2 (Sq h d f);have b:=Bt h (fun x c=>hP x (mC p c));exact(a.add2 b).up (by simp only[List.length_cons];omega)
end
def Nh(p q:Int×Int):Bool:=decide (q.1<=p.1) || (decide (q.2<=p.2) || (Cb p.1 || (Cb p.2 || (Cb q.1 || Cb q.2))))
def yd(g:LP)(ps:List Pl)(sk:Int)(p q:Int×Int):Int:=if pb g ps≠0 then pb g ps else if sk≠1/\sk≠2 then 2 else if Nh p q=true then 3 else 0
def Bg(g:LP)(ps:List Pl)(sk:Int)(p q:Int×Int):Rat:=if yd g ps sk p q=0 then Lc (p.2:Rat) (q.2:Rat) (p.1:Rat) (q.1:Rat) (Td sk ps)else 0
def ph(w:I)(g:LP)(ps:List Pl)(sk:Int)(p q:Int×Int)(e:Ending)(w':I):Prop:=∃r,e=.returned (H #[r,Z X (yd g ps sk p q)])/\La w' r (Bg g ps sk p q)/\oa w w'
def oI(w:I)(vg vp:N)(g:LP)(ps:List Pl)(sk:Int)(p q:Int×Int)(x:Aa w vg g)(y:td w vp ps)(f:Gw w)(h:yd g ps sk p q≠0):Calls Tryz.prog 11 #[C #[vg,vp],Z .u8 sk,C #[Z X p.1,Z X p.2],C #[Z X q.1,Z X q.2]] w (ph w g ps sk p q):=by
 have j:Bg g ps sk p q=0:=by unfold Bg;rw[if_neg h]
 obtain⟨E,c⟩:=gX (yd g ps sk p q);have hR:ph w g ps sk p q=fun e w'=>∃r,e=.returned (H #[r,Z X E])/\La w' r 0/\oa w w':=by unfold ph;rw[j,c]
 rw[hR];rw[c]at h;unfold yd at c;obtain⟨ga,gn,gc,rfl⟩:=Ia x;obtain⟨pa,pn,aw,rfl⟩:=Ia y;obtain⟨px,d⟩:=p;obtain⟨qx,i⟩:=q;dsimp only;by_cases l:pb g ps=0
 ·rw[if_neg (fun h9=>h9 l)]at c;have z:=ia (fun(W:I)(m:oa w W)=>Et (x.i m) (y.i m) (f.ext m) l);by_cases o:sk≠1/\sk≠2
  ·rw[if_pos o]at c;subst c;have s1:(sk != 1)=true:=by simpa using o.1
   have s2:(sk != 2)=true:=by simpa using o.2
   clear h l j hR o x y f;go_in;go_wp2_with(first|(go_at_call 43;refine cM (z.o _ eA) ?_;rintro e b ⟨va,vn,vc,rfl,ah,a⟩;obtain⟨K,P⟩:=a.cells;(have z4:=a.size);(simp only[wZ]at z4);(have ac:w.heap.size+1+1+1<b.heap.size:=oM);(have ad:w.heap.size+1<b.heap.size:=oM);(have ae:w.heap.size+1+1<b.heap.size:=oM);(have ai:w.heap.size+1<b.heap.size+1:=oM);(have aj:w.heap.size+1+1<b.heap.size+1:=oM);(have ak:w.heap.size+1+1+1<b.heap.size+1:=oM)));refine bR (v:=H #[C #[O Y 0 0,J false,O Y 0 0],Z X 2]) (by simp[*,results,Tryz.results11,go_sem]) rfl ⟨_,rfl,La.zero _,?_⟩;exact eA
  ·rw[if_neg o]at c;have n:Nh (px,d) (qx,i)=true:=by
    cases n:Nh (px,d) (qx,i)with
    | true=>rfl
    | false=>rw[n]at c;exact absurd c.symm h
   rw[if_pos n]at c;subst c;have ag:((sk != 1)=false)\/((sk != 1)=true/\(sk != 2)=false):=by
    by_cases h1:sk=1
    ·left;simp[h1]
    ·right
     refine⟨by simpa using h1,?_⟩;by_cases h2:sk=2
     ·simp[h2]
     ·exact absurd ⟨h1,h2⟩ o
   unfold Nh at n;dsimp only at n;have af:qx<=px\/(¬qx<=px/\i<=d)\/(¬qx<=px/\¬i<=d/\Cb px=true)\/(¬qx<=px/\¬i<=d/\Cb px=false/\Cb d=true)\/(¬qx<=px/\¬i<=d/\Cb px=false/\Cb d=false/\Cb qx=true)\/(¬qx<=px/\¬i<=d/\Cb px=false/\Cb d=false/\Cb qx=false/\Cb i=true):=by
    by_cases k:qx<=px<;>by_cases t:i<=d<;>cases c3:Cb px<;>cases c4:Cb d<;>cases c5:Cb qx<;>cases c6:Cb i<;>simp[k,t,c3,c4,c5,c6]at n ⊢
   clear h l j hR o n x y f;rcases ag with s1|⟨s1,s2⟩<;>rcases af with k|⟨k,t⟩|⟨k,t,c3⟩|⟨k,t,c3,c4⟩|⟨k,t,c3,c4,c5⟩|⟨k,t,c3,c4,c5,c6⟩
   all_goals
    go_in;go_wp2_with(first|(go_at_call 43;refine cM (z.o _ eA) ?_;rintro e b ⟨va,vn,vc,rfl,ah,a⟩;obtain⟨K,P⟩:=a.cells;(have z4:=a.size);(simp only[wZ]at z4);(have ac:w.heap.size+1+1+1<b.heap.size:=oM);(have ad:w.heap.size+1<b.heap.size:=oM);(have ae:w.heap.size+1+1<b.heap.size:=oM);(have ai:w.heap.size+1<b.heap.size+1:=oM);(have aj:w.heap.size+1+1<b.heap.size+1:=oM);(have ak:w.heap.size+1+1+1<b.heap.size+1:=oM))|(go_at_call 50;(with_reducible refine(zi _ px).mono ?_);rw[c3];rintro e w5 ⟨rfl,R⟩;obtain⟨am,aq⟩:=R.cells;(have z5:=R.size);(try simp only[wZ]at z5);(have ax:w.heap.size+1<w5.heap.size:=oM);(have ay:w.heap.size+1+1<w5.heap.size:=oM);(have az:w.heap.size+1+1+1<w5.heap.size:=oM))|(go_at_call 50;(with_reducible refine(zi _ d).mono ?_);rw[c4];rintro e w6 ⟨rfl,T⟩;obtain⟨an,ar⟩:=T.cells;(have z6:=T.size);(try simp only[wZ]at z6);(have aA:w.heap.size+1<w6.heap.size:=oM);(have aB:w.heap.size+1+1<w6.heap.size:=oM);(have aC:w.heap.size+1+1+1<w6.heap.size:=oM))|(go_at_call 50;(with_reducible refine(zi _ qx).mono ?_);rw[c5];rintro e w7 ⟨rfl,aa⟩;obtain⟨ao,au⟩:=aa.cells;(have z7:=aa.size);(try simp only[wZ]at z7);(have aD:w.heap.size+1<w7.heap.size:=oM);(have aE:w.heap.size+1+1<w7.heap.size:=oM);(have aF:w.heap.size+1+1+1<w7.heap.size:=oM))|(go_at_call 50;(with_reducible refine(zi _ i).mono ?_);rw[c6];rintro e w8 ⟨rfl,ab⟩;obtain⟨ap,av⟩:=ab.cells;(have z8:=ab.size);(try simp only[wZ]at z8);(have aG:w.heap.size+1<w8.heap.size:=oM);(have aH:w.heap.size+1+1<w8.heap.size:=oM);(have aI:w.heap.size+1+1+1<w8.heap.size:=oM)));refine bR (v:=H #[C #[O Y 0 0,J false,O Y 0 0],Z X 3]) (by simp[*,results,Tryz.results11,go_sem]) rfl ⟨_,rfl,La.zero _,?_⟩;exact eA
 ·rw[if_pos l]at c;have z:=ia (fun(W:I)(m:oa w W)=>QC (x.i m) (y.i m) (f.ext m) l);rw[c]at z;have al:(E != 0)=true:=by simpa using h
  clear h l j hR x y f c;go_in;go_wp2_with(first|(go_at_call 43;refine cM (z.o _ eA) ?_;rintro e b ⟨rfl,a⟩;obtain⟨K,P⟩:=a.cells;(have z4:=a.size);(simp only[wZ]at z4);(have ac:w.heap.size+1+1+1<b.heap.size:=oM);(have ad:w.heap.size+1<b.heap.size:=oM);(have ae:w.heap.size+1+1<b.heap.size:=oM)));refine bR (v:=H #[C #[O Y 0 0,J false,O Y 0 0],Z X E]) (by simp[*,results,Tryz.results11,go_sem]) rfl ⟨_,rfl,La.zero _,?_⟩;exact eA
def rD{Q:Exit->Act->I->Prop}(e:Exit)(a:Act)(w:I)(h:NQ Q e a w):Q e a w:=by cases e<;>first|exact h|exact h.elim
structure yi (u:I) (b12 b13 b14 bx:Nat) (px qx:Int) (s:Rat) (W:I):Prop where
 x:oa u W
 sz:bx+1+1<=W.heap.size
 sm:RB W b12 s
 fr:RB W b13 (px:Rat)
 tt:RB W b14 (qx:Rat)
section
variable {u W W':I} {b12 b13 b14 bx:Nat} {px qx:Int} {s s':Rat}
def yi.ext(h:yi u b12 b13 b14 bx px qx s W)(k:oa W W'):yi u b12 b13 b14 bx px qx s W':=⟨h.x.trans k,nT h.sz k.size,h.sm.ext k,h.fr.ext k,h.tt.ext k⟩
def yi.sim{B:Nat}(h:yi u b12 b13 b14 bx px qx s W)(k:Uh B W W')(a:u.heap.size<=B):yi u b12 b13 b14 bx px qx s W':=⟨k.ext h.x a,nT h.sz k.size,h.sm.sim k,h.fr.sim k,h.tt.sim k⟩
def yi.put(h:yi u b12 b13 b14 bx px qx s W)(b:u.heap.size<=b12)(j:b13≠b12)(k:b14≠b12)(p:b12<bx){a e:Option Addr}{m c f c2:Nat}{t:Bool}(i:La W (C #[O a m c,J t,O e f c2]) s')(d:((W.setCell ⟨b12,0,Y⟩ (O a m c)).setCell ⟨b12,1,Y⟩ (J t)).setCell ⟨b12,2,Y⟩ (O e f c2)=W'):yi u b12 b13 b14 bx px qx s' W'/\(∀D,KeepsFrom D W W')/\yh u bx W W':=by
 obtain⟨l,g,-,n,o⟩:=h.sm.put3 i d;refine⟨⟨o u h.x b,by rw[n];exact h.sz,l,g _ _ j h.fr,g _ _ k h.tt⟩,fun D=>?_,?_⟩
 ·rw[<-d];exact(((KeepsOthers.setCell _ _ _).from _).trans ((KeepsOthers.setCell _ _ _).from _)).trans ((KeepsOthers.setCell _ _ _).from _)
 ·rw[<-d];exact(((yh.refl u _ W).set b dO dO _).set b dO dO _).set b dO dO _
end
def EM{u:I}(s b12 b13 b14 bx:Nat)(x:Lx u)(a:Act)(W:I):Prop:=
 ∃B,bx+1+1<=B/\W.heap[B]?=F (M x.1.1.toArray 118 (0,0))/\a.tmps.size=100/\a.tmps.getD 6 undef=G (F ⟨s+1,0,Y⟩)/\a.tmps.getD 7 undef=G (F ⟨s+1+1,0,Y⟩)/\a.tmps.getD 12 undef=G (F ⟨b12,0,Y⟩)/\a.tmps.getD 13 undef=G (F ⟨b13,0,Y⟩)/\a.tmps.getD 14 undef=G (F ⟨b14,0,Y⟩)/\a.tmps.getD 15 undef=G (F ⟨B,0,Y⟩)/\a.defers=[]
def EC{u:I}(b12 b13 b14 bx:Nat)(lo hi px qx:Int)(pre:List (Lx u))(W:I):Prop:=
 yi u b12 b13 b14 bx px qx (Lc (lo:Rat) (hi:Rat) (px:Rat) (qx:Rat) (pre.map Gh)) W
def SG(w:I)(vg vp:N)(g:LP)(ps:List Pl)(sk:Int)(p q:Int×Int)(hg:Aa w vg g)(hp:td w vp ps)(bg:Gw w)(bi:ps.length<=8)(h:yd g ps sk p q=0):Calls Tryz.prog 11 #[C #[vg,vp],Z .u8 sk,C #[Z X p.1,Z X p.2],C #[Z X q.1,Z X q.2]] w (ph w g ps sk p q):=by
 have bk:Bg g ps sk p q=Lc (p.2:Rat) (q.2:Rat) (p.1:Rat) (q.1:Rat) (Td sk ps):=by unfold Bg;rw[if_pos h]
 have hR:ph w g ps sk p q=fun e w'=>∃r,e=.returned (H #[r,Z X 0])/\La w' r (Lc (p.2:Rat) (q.2:Rat) (p.1:Rat) (q.1:Rat) (Td sk ps))/\oa w w':=by unfold ph;rw[bk,h]
 rw[hR];unfold yd at h;have h0:pb g ps=0:=by
  by_cases h0:pb g ps=0
  ·exact h0
  ·rw[if_pos h0]at h;exact absurd h h0
 rw[if_neg (fun h9=>h9 h0)]at h;have hs:¬(sk≠1/\sk≠2):=fun hs=>by rw[if_pos hs]at h;cases h
 rw[if_neg hs]at h;have hf:Nh p q=false:=by
  cases hf:Nh p q with
  | false=>rfl
  | true=>rw[if_pos hf]at h;cases h
 have cg:((sk != 1)=false)\/((sk != 1)=true/\(sk != 2)=false):=by
  by_cases h1:sk=1
  ·left;simp[h1]
  ·right
   refine⟨by simpa using h1,?_⟩;by_cases h2:sk=2
   ·simp[h2]
   ·exact absurd ⟨h1,h2⟩ hs
 have HL:=ia (fun(W:I)(hW:oa w W)=>Et (hg.i hW) (hp.i hW) (bg.ext hW) h0);obtain⟨ga,gn,gc,rfl⟩:=Ia hg;obtain⟨pa,pn,c9,rfl⟩:=Ia hp;obtain⟨px,lo⟩:=p;obtain⟨qx,hi⟩:=q;unfold Nh at hf;simp only[Bool.or_eq_false_iff,decide_eq_false_iff_not]at hf;obtain⟨c1,c2,c3,c4,c5,c6⟩:=hf;have hw:uh lo hi px qx:=by
  unfold Cb at c3 c4 c5 c6;simp at c3 c4 c5 c6;unfold uh Bd;omega
 have Hw:=ia hw;have aD:=ia (And.intro (Ui h0).1 bi);dsimp only;clear bk hR h hs hg hp bg h0 hw bi;rcases cg with s1|⟨s1,s2⟩
 all_goals
  refine(callsIn_wide (n:=5)).1 ?_;refine callsIn_of_wp_marks Tryz.func11 rfl trivial ?_ rfl;simp only[Tryz.ntmps11,List.size_toArray,List.length_cons,List.length_nil,Nat.reduceAdd,Nat.reduceSub,Array.replicate_succ,Array.replicate_zero,List.push_toArray,List.append_toArray,List.nil_append,List.cons_append]
  gi_wp2_with(first|(refine⟨trivial,?_⟩;gi_at_call 43;(refine(callsIn_wide.2 (HL.o _ ?_)).mono ?_);exact eA;rintro e f ⟨va,vn,vc,rfl,aM,z⟩;obtain⟨bY,b7⟩:=z.cells;(have z4:=z.size);(try simp only[wZ]at z4);(have cP:w.heap.size+1+1+1<f.heap.size:=oM);(have cQ:w.heap.size+1<f.heap.size:=oM);(have cR:w.heap.size+1+1<f.heap.size:=oM);(have cS:w.heap.size+1<f.heap.size+1:=oM);(have cT:w.heap.size+1+1<f.heap.size+1:=oM);(have cU:w.heap.size+1+1+1<f.heap.size+1:=oM))|(refine⟨trivial,?_⟩;gi_at_call 50;(with_reducible refine(callsIn_wide.2 (zi _ px)).mono ?_);rw[c3];rintro e w5 ⟨rfl,m⟩;obtain⟨bZ,b8⟩:=m.cells;(have z5:=m.size);(try simp only[wZ]at z5);(have cB:w.heap.size+1<w5.heap.size:=oM);(have cC:w.heap.size+1+1<w5.heap.size:=oM);(have cD:f.heap.size<w5.heap.size:=oM))|(refine⟨trivial,?_⟩;gi_at_call 50;(with_reducible refine(callsIn_wide.2 (zi _ lo)).mono ?_);rw[c4];rintro e w6 ⟨rfl,ag⟩;obtain⟨b0,b9⟩:=ag.cells;(have z6:=ag.size);(try simp only[wZ]at z6);(have cF:w.heap.size+1<w6.heap.size:=oM);(have cG:w.heap.size+1+1<w6.heap.size:=oM);(have cH:f.heap.size<w6.heap.size:=oM))|(refine⟨trivial,?_⟩;gi_at_call 50;(with_reducible refine(callsIn_wide.2 (zi _ qx)).mono ?_);rw[c5];rintro e w7 ⟨rfl,ah⟩;obtain⟨b5,cc⟩:=ah.cells;(have z7:=ah.size);(try simp only[wZ]at z7);(have cI:w.heap.size+1<w7.heap.size:=oM);(have cJ:w.heap.size+1+1<w7.heap.size:=oM);(have cK:f.heap.size<w7.heap.size:=oM))|(refine⟨trivial,?_⟩;gi_at_call 50;(with_reducible refine(callsIn_wide.2 (zi _ hi)).mono ?_);rw[c6];rintro e w8 ⟨rfl,ai⟩;obtain⟨b6,cd⟩:=ai.cells;(have z8:=ai.size);(try simp only[wZ]at z8);(have cL:w.heap.size+1<w8.heap.size:=oM);(have cN:w.heap.size+1+1<w8.heap.size:=oM);(have cO:f.heap.size<w8.heap.size:=oM)))
  obtain⟨W9,ac⟩:=gX (w8.alloc (M #[O Y 0 0,J false,O Y 0 0] 43));obtain⟨b12,ae⟩:=gX w8.heap.size;have ak:oa f W9:=by rw[<-ac];exact(((eR f).alloc _).trans (m.trans (ag.trans (ah.trans ai)))).alloc _
  have X4:oa w f:=((((eR w).alloc _).alloc _).alloc _ |>.alloc _).trans z;have t:W9.heap[f.heap.size]?=F (M #[O ga gn gc,O va vn vc] 110 (0,0)):=by rw[<-ac];exact(((m.trans (ag.trans (ah.trans ai)))).alloc _).e (aN f _)
  have kp:f.heap[w.heap.size+1]?=F (M #[Z X px,Z X lo] 55 (0,0)):=z.e ((((eR _).alloc _).alloc _).e (Kc _ _ _ sM));have kq:f.heap[w.heap.size+1+1]?=F (M #[Z X qx,Z X hi] 55 (0,0)):=z.e (((eR _).alloc _).e (Kc _ _ _ sM));have k3:RB f (w.heap.size+1+1+1) 0:=(RB.new (La.zero _) sM).ext z;have bC:RB W9 b12 0:=by rw[<-ac];exact RB.new (La.zero _) ae.symm
  have cl:w.heap.size+1+1+1+1<=f.heap.size/\f.heap.size+1<=b12/\b12+1=W9.heap.size:=by
   rw[<-ac];simp only[wZ];have:=m.size;simp only[wZ]at this;omega
  have bu:vn=ps.length:=aM.len;have HU:=ia (And.intro (And.intro ak X4) (And.intro t (And.intro kp (And.intro kq (And.intro k3 (And.intro bC (And.intro aM bu)))))));have C0:Ca [(⟨w.heap.size+1,0,Y⟩,Z X px),(⟨w.heap.size+1+1,0,Y⟩,Z X qx)] W9.drew:=⟨Gb (ak.e kp) (i:=0) rfl,Gb (ak.e kq) (i:=0) rfl,trivial⟩;rw[ac,ae];have aS:=ia (fun W=>vi W px (by have:=Hw.o.1.2.2.1;unfold Bd at this;omega) (by have:=Hw.o.1.2.2.1;unfold Bd at this;omega));have aT:=ia (fun W=>vi W qx (by have:=Hw.o.1.2.2.2;unfold Bd at this;omega) (by have:=Hw.o.1.2.2.2;unfold Bd at this;omega));obtain⟨bU,R⟩:=gX f.heap.size;simp only[R]at HU cl ⊢;have aR:=ia R;clear R ac ae ak X4 t kp kq k3 bC bY b7 bZ b8 b0 b9 b5 cc b6 cd z m ag ah ai z4 cP cQ cR cS cT cU z5 z6 z7 z8 cB cC cD cF cG cH cI cJ cK cL cN cO aM bu c1 c2 c3 c4 c5 c6 HL;refine wpIn_mono (wpIn_wide.2 ?_) rD;refine Cs [(6,13,M #[O Y 0 0,J false,O Y 0 0] 43 (0,0)),(7,14,M #[O Y 0 0,J false,O Y 0 0] 43 (0,0))] _ 8 4 (fun i=>decide (7<i)) (fun _=>false) kM kM kM sM kM (by intro x hx;simp only[List.mem_cons,List.not_mem_nil,or_false]at hx;rcases hx with rfl|rfl<;>exact⟨_,rfl,rfl,fun a W=>by go_simp⟩) (fun _ _ _ _ _ h=>h) C0 (fun d=>?_);refine pg (i:=0) ?_;refine pg (i:=1) ?_;refine pg (i:=3) ?_;refine pg (i:=4) ?_;refine li (i:=2) fun Wa bc bd aG K j=>?_;go_simp;refine cM (aS.o _) ?_;rintro e wa ⟨ra,rfl,aJ,bz⟩;obtain⟨aa,ma,ca,sa,ab,mb,cb,rfl⟩:=aJ.form;go_wp2;refine kO j (.of bd bz) (fun _ _=>?_);clear j K aG;refine li (i:=5) fun Wb ax be aG K j=>?_;go_simp;refine cM (aT.o _) ?_;rintro e wb ⟨rb,rfl,aK,aP⟩;obtain⟨ba,na,ka,ta,bb,nb,kb,rfl⟩:=aK.form;go_wp2;refine kO j (.of be aP) (fun _ _=>?_);clear j K aG;refine df kM (fun V aI av=>?_);intro b13 j5 y5 _ _ b14 j6 y6 aw _;have aw:b14≠b13:=by simpa using aw
  have hd:=(aJ.ext ax).ext (aP.trans aI);have he:=aK.ext aI;have YV:oa W9 V:=(eR W9).drew.trans av;have kf:=Vb j5;have kg:=Vb j6;have g0:=ja j5 0 (O Y 0 0);have g1:=ja j5 1 (J false);have g2:=ja j5 2 (O Y 0 0);have g3:=ja j6 0 (O Y 0 0);have g4:=ja j6 1 (J false);have g5:=ja j6 2 (O Y 0 0);clear bc ax aI bz aP aJ aK aS aT;refine Je (i:=8) fun K j=>?_;go_simp;refine kO j (cE d (by(repeat refine oa.set ?_ (by first|exact y5|exact y6) _);exact av)) (fun a6=>?_);clear j K;refine Je (i:=9) fun K j=>?_;go_simp;refine kO j (cE d (by(repeat refine oa.set ?_ (by first|exact y5|exact y6) _);exact av)) (fun a6=>?_);clear j K;refine Wd ?_;unfold NQ;clear g0 g1 g2 g3 g4 g5 kf kg a6;obtain⟨W7,aH⟩:=gX (Xg (Xg V b13 0 [O aa ma ca,J sa,O ab mb cb]) b14 0 [O ba na ka,J ta,O bb nb kb]);have e7:(((((V.setCell ⟨b13,0,Y⟩ (O aa ma ca)).setCell ⟨b13,1,Y⟩ (J sa)).setCell ⟨b13,2,Y⟩ (O ab mb cb)).setCell ⟨b14,0,Y⟩ (O ba na ka)).setCell ⟨b14,1,Y⟩ (J ta)).setCell ⟨b14,2,Y⟩ (O bb nb kb)=W7:=aH;rw[e7];have TB:=Lr (cs:=[O Y 0 0,J false,O Y 0 0]) (ds:=[O Y 0 0,J false,O Y 0 0]) [O aa ma ca,J sa,O ab mb cb] [O ba na ka,J ta,O bb nb kb] j5 j6 aw rfl rfl;rw[aH]at TB;obtain⟨aE,aF,-,tk,te⟩:=TB;simp only[Tb]at y5 y6;have X7:=te W9 YV y5 y6;have ki:=tk 2 dM dM;have ay:=jc aE;have az:=jc aF;have a7:RB W7 b13 (px:Rat):=⟨_,_,_,_,_,_,_,aE,hd.keep ki⟩;have a8:RB W7 b14 (qx:Rat):=⟨_,_,_,_,_,_,_,aF,he.keep ki⟩;have t:=X7.e HU.o.2.1;have l0:=ja t 0 (O ga gn gc);have l1:=ja t 1 (O va vn vc);have cj:=X7.size;have bj:b13≠b12/\b14≠b12/\b12<W7.heap.size/\bU<W7.heap.size:=oM;have HR:=ia (And.intro (And.intro a7 a8) (And.intro (HU.o.2.2.2.2.2.1.ext X7) X7));have bT:=ia (And.intro bj (And.intro ay az));clear a7 a8 X7 ki tk te aE aF e7 aH YV av hd he j5 j6 y5 y6 aw d C0 t ay az cj bj
  gi_wp2_with(refine⟨trivial,?_⟩;gi_at_call 48;(refine(callsIn_wide.2 (UC _ _ _ sk ⟨_,_,_,rfl⟩ ⟨_,_,_,rfl⟩)).mono ?_);rintro e w' ⟨rfl,rfl⟩)
  obtain⟨W0,T⟩:=gX ((W7.alloc (M #[O ga gn gc,O va vn vc] 110)).alloc (M #[Z .u8 sk] 5));obtain⟨bx,af⟩:=gX W7.heap.size;have au:oa W7 W0:=by rw[<-T];exact((eR _).alloc _).alloc _
  have cZ:W0.heap.size=bx+1+1:=by rw[<-T,<-af];simp
  have bW:W0.cell? ⟨bx,1,Y⟩=F (O va vn vc):=by rw[<-T];exact Gb (((eR _).alloc _).e (Kc W7 _ _ af.symm)) (i:=1) rfl
  have bX:W0.cell? ⟨bx+1,0,Y⟩=F (Z .u8 sk):=by rw[<-T];exact Gb (Kc _ _ _ (by simp[af])) (i:=0) rfl
  obtain⟨zs,aQ,bp⟩:=EE HU.o.2.2.2.2.2.2.1 aD.o.1;have ck:zs.length=vn:=by rw[HU.o.2.2.2.2.2.2.2,<-aQ,lL]
  have bh:(yg sk zs).length<=8:=by
   have h1:(yg sk zs).length<=zs.length:=List.length_filter_le _ _;have h2:=aD.o.2;rw[<-aQ,lL]at h2;omega
  have bQ:=ia bh;have aB:=ME (sk:=sk) aQ;have aV:=ia aB;have cf:=bT.o;rw[af]at cf;have R:=aR.o;have aC:oa f W0:=(HU.o.1.1.trans HR.o.2.2).trans au;have bV:EC (u:=f) b12 b13 b14 bx lo hi px qx [] W0:=⟨aC,by omega,HR.o.2.1.ext au,HR.o.1.1.ext au,HR.o.1.2.ext au⟩;have ce:vn<=maxLen:=by have:=aD.o.2;have:=HU.o.2.2.2.2.2.2.2;unfold maxLen;omega
  rw[T];(try simp only[af]);clear T bh aB;refine wpIn_rangeFunc_ownH rfl dM (gf:=118) (lb:=#[G (F ⟨bx,0,Y⟩),G (F ⟨bx+1,0,Y⟩)]) rfl trivial (enters_of Tryz.func118 kM rfl)
   (oH _ dM bx f W0 va vn vc sk zs ck ce bp bW bX oM aC) yh.trans (yh.put oM oM) (Below.refl _ _) (fun _=>rfl)
   (EC b12 b13 b14 bx lo hi px qx) (fun _ _ _=>False) (Zh (fun s W h=>by have:=yi.sz h;omega) (fun s W W' h k=>yi.sim h k oM)) (fun c=>Zh (fun s W h=>h.elim) (fun s W W' h k=>h.elim)) bV
   (fun x a' W=>EM w.heap.size b12 b13 b14 bx x a' W) (fun x a'=>Zh (fun s W h=>by obtain⟨B,h1,h2,_⟩:=h;have:=jc h2;omega) (fun s W W' h k=>by obtain⟨B,h1,h2,h4⟩:=h;exact⟨B,h1,k.heap h2,h4⟩)) ?assign ?body ?done ?stop
  case assign =>
   rintro l pre x W K hI j;obtain⟨s,vl,vu,he,d1,d2,d3⟩:=x.2.1;obtain⟨bF,bG,rfl⟩:=d1.form;obtain⟨bD,bE,rfl⟩:=d2.form;obtain⟨bK,bL,rfl⟩:=d3.form;have hl:uo x=#[C (Jd x.1.2 (O bF x.1.2.shape.length bG) (O bD (za x.1.2).length bE) (O bK (Ra x.1.2).length bL))]:=by unfold uo;rw[he]
   have bs:=yi.sz hI;have hn:∀o,o=Obj.cells (Jd x.1.2 (O bF x.1.2.shape.length bG) (O bD (za x.1.2).length bE) (O bK (Ra x.1.2).length bL)) 118->(W.alloc o).heap[W.heap.size]?=F (M x.1.1.toArray 118 (0,0)):=fun o ho=>by rw[ho,he];exact aN W _
   rw[hl];unfold Jd at hn ⊢
   gi_wp2
   exact j _ _ ((KeepsOthers.alloc _ _).from _) ((yh.refl _ _ W).ext ((eR W).alloc _) (yi.x hI).size oM) (yi.ext hI ((eR W).alloc _)) ⟨W.heap.size,bs,hn _ rfl,rfl,rfl,rfl,rfl,rfl,rfl,rfl,rfl⟩
  case body =>
   rintro l pre x a' W hl ⟨r,cY⟩ hI hA cX;obtain⟨tt,dd⟩:=a';obtain⟨B,hB,q1,g0,g6,g7,al,am,an,ao,gd⟩:=hA;dsimp only at g0 g6 g7 al am an ao gd;subst gd;obtain⟨u,hu,ci⟩:=jj tt 100 g0;simp only[hu]at g6 g7 al am an ao;clear hu g0;subst ci;simp only[List.range,List.range.loop,List.map_cons,List.map_nil,g6,g7,al,am,an,ao];clear g6 g7 al am an ao;obtain⟨s,vl,vu,he,d1,d2,d3⟩:=x.2.1;rw[he]at q1;have b:yi f b12 b13 b14 bx px qx (Lc (lo:Rat) (hi:Rat) (px:Rat) (qx:Rat) (pre.map Gh)) W:=hI;obtain⟨s0,v⟩:∃s,Lc (lo:Rat) (hi:Rat) (px:Rat) (qx:Rat) (pre.map Gh)=s:=⟨_,rfl⟩;have ad:∀y:Lx f,(Fb (Gh y).1/\Fb (Gh y).2)/\Bb (Gh y).1/\Bb (Gh y).2:=fun y=>⟨rj y.2.2,(lk y.2.2).1,(vk y.2.2).1⟩;have aL:Rb (114002*7+1) s0:=by
    rw[<-v];refine(Bt Hw.o (fun P hP=>?_)).up ?_
    ·obtain⟨y,-,rfl⟩:=List.mem_map.1 hP;exact ad y
    ·rw[lL];have:=bQ.o;omega
   rw[v]at b;have cW:=ia v;obtain⟨la,ln,lc,rfl⟩:=Ia d2;obtain⟨ua,un,uc,rfl⟩:=Ia d3;obtain⟨S1,ap⟩:=gX (qb (Eb (lo:Rat) (hi:Rat) (px:Rat) (qx:Rat)) (yb (Ra x.1.2)));obtain⟨S2,aq⟩:=gX (qb (Eb (lo:Rat) (hi:Rat) (px:Rat) (qx:Rat)) (yb (za x.1.2)));obtain⟨⟨o1,o2⟩,r1,r2⟩:=ad x;have b1:Rb 57000 S1:=ap▸Sq Hw.o o2 r2;have b2:Rb 57000 S2:=aq▸Sq Hw.o o1 r1;have bP:=ia (fun(W':I)(vf vt:N)(hW:oa W W')(hf:La W' vf (px:Rat))(ht:La W' vt (qx:Rat))=>ap▸Vy W' _ vf vt (Ra x.1.2) lo hi px qx (d3.i (b.x.trans hW)) o2 r2 hf ht Hw.o);have bN:=ia (fun(W':I)(vf vt:N)(hW:oa W W')(hf:La W' vf (px:Rat))(ht:La W' vt (qx:Rat))=>aq▸Vy W' _ vf vt (za x.1.2) lo hi px qx (d2.i (b.x.trans hW)) o1 r1 hf ht Hw.o);obtain⟨ea,em,ec,es,aW,aY,aX,e0,e1,e2,_,_,_,ze,br⟩:=b.sm.rd;obtain⟨fa,fm,fc,fs,aZ,a5,a0,t0,t1,t2,_,_,_,zf,bf⟩:=b.fr.rd;obtain⟨ta,tm,tc,ts,bH,bJ,bI,y0,y1,y2,_,_,_,zt,bt⟩:=b.tt.rd;have bM:=ia (fun(W':I)(v2:N)(hW:oa W W')(h2:La W' v2 S1)=>Tl W' _ v2 s0 S1 (br.ext hW) h2 (od aL dM) (od b1 dM));have bO:=ia (fun(W':I)(v1 v2:N)(h1:La W' v1 (s0+S1))(h2:La W' v2 S2)=>Ak W' v1 v2 _ _ h1 h2 (od (aL.add2 b1) dM) (od b2 dM));have aj:=ia (And.intro bf bt);have HI:=ia b;have kp:=ja (b.x.e HU.o.2.2.1) 1 (Z X lo);have kq:=ja (b.x.e HU.o.2.2.2.1) 1 (Z X hi);have t:=ja q1 10 (O la ln lc);have bB:=ja q1 11 (O ua un uc);have C0:Ca [(⟨b12,0,Y⟩,O ea em ec),(⟨b12,1,Y⟩,J es),(⟨b12,2,Y⟩,O aW aY aX),(⟨b13,0,Y⟩,O fa fm fc),(⟨b13,1,Y⟩,J fs),(⟨b13,2,Y⟩,O aZ a5 a0),(⟨b14,0,Y⟩,O ta tm tc),(⟨b14,1,Y⟩,J ts),(⟨b14,2,Y⟩,O bH bJ bI),(⟨B,10,Y⟩,O la ln lc),(⟨B,11,Y⟩,O ua un uc),(⟨w.heap.size+1,1,Y⟩,Z X lo),(⟨w.heap.size+1+1,1,Y⟩,Z X hi)] W.drew:=⟨e0,e1,e2,t0,t1,t2,y0,y1,y2,t,bB,kp,kq,trivial⟩;have aA:Lc (lo:Rat) (hi:Rat) (px:Rat) (qx:Rat) ((pre++[x]).map Gh)=s0+S1-S2:=by
    rw[List.map_append,List.map_cons,List.map_nil,uA,v];unfold We Gh;dsimp only;rw[ap,aq];grind
   have aU:=ia aA;clear hI b v ad aL ap aq o1 o2 r1 r2 b1 b2 e0 e1 e2 t0 t1 t2 y0 y1 y2 t bB kp kq br bf bt d1 d2 d3 q1 aA
   gi_wp2
   refine Wu (fun i=>decide (20<i)) (Ca [(⟨b12,0,Y⟩,O ea em ec),(⟨b12,1,Y⟩,J es),(⟨b12,2,Y⟩,O aW aY aX),(⟨b13,0,Y⟩,O fa fm fc),(⟨b13,1,Y⟩,J fs),(⟨b13,2,Y⟩,O aZ a5 a0),(⟨b14,0,Y⟩,O ta tm tc),(⟨b14,1,Y⟩,J ts),(⟨b14,2,Y⟩,O bH bJ bI),(⟨B,10,Y⟩,O la ln lc),(⟨B,11,Y⟩,O ua un uc),(⟨w.heap.size+1,1,Y⟩,Z X lo),(⟨w.heap.size+1+1,1,Y⟩,Z X hi)]) kM kM C0 (fun d=>?_);refine Ae (i:=0) ?_;refine Ae (i:=1) ?_;refine Ae (i:=2) ?_;refine Ae (i:=3) ?_;refine Ae (i:=4) ?_;refine Ae (i:=5) ?_;refine Ae (i:=6) ?_;refine Ae (i:=7) ?_;refine Ae (i:=8) ?_;refine Ae (i:=11) ?_;refine Ae (i:=12) ?_;refine Ae (i:=13) ?_;refine Ae (i:=14) ?_;refine Ae (i:=15) ?_;refine Ae (i:=16) ?_;refine Ae (i:=17) ?_;refine Ae (i:=18) ?_;have D0:oa W W.drew:=(eR W).drew;refine Th (i:=9) (bP.o _ _ _ D0 (aj.o.1.ext D0) (aj.o.2.ext D0)) ?_;rintro e w1 ⟨r1,rfl,bl,bv⟩;obtain⟨a1,m1,c1,da,b1,n1,k1,rfl⟩:=bl.form;refine⟨_,rfl,(cE d bv),fun d=>?_⟩;have D1:oa W w1:=D0.trans bv;refine Th (i:=10) (bM.o _ _ D1 bl) ?_;rintro e w2 ⟨r2,rfl,bm,bw⟩;obtain⟨a2,m2,c2,db,b2,n2,k2,rfl⟩:=bm.form;refine⟨_,rfl,(cE d bw),fun d=>?_⟩;have D2:oa W w2:=D1.trans bw;refine Th (i:=19) (bN.o _ _ _ D2 (aj.o.1.ext D2) (aj.o.2.ext D2)) ?_;rintro e w3 ⟨r3,rfl,bn,aO⟩;obtain⟨a3,m3,c3,dc,b3,n3,k3,rfl⟩:=bn.form;refine⟨_,rfl,(cE d aO),fun d=>?_⟩;refine Th (i:=20) (bO.o _ _ _ (bm.ext aO) bn) ?_;rintro e w5 ⟨r4,rfl,bo,m⟩;obtain⟨a4,m4,c4,ct,b4,n4,k4,rfl⟩:=bo.form;refine⟨_,rfl,(cE d m),fun d=>?_⟩;have D5:oa W w5:=D2.trans (aO.trans m);have a9:=HI.o.ext D5;obtain⟨_,_,_,_,_,_,_,_,_,_,c0,c7,c8,zo,_⟩:=a9.sm.rd;obtain⟨o0,o1,o2,-⟩:=d;refine Ah (i:=21) fun K j=>?_;go_simp;refine kO j (fun h=>nomatch h) (fun d=>?_);clear j K;refine Le kM ?_ _;unfold NQ;obtain⟨W',ar⟩:∃W',((w5.setCell ⟨b12,0,Y⟩ (O a4 m4 c4)).setCell ⟨b12,1,Y⟩ (J ct)).setCell ⟨b12,2,Y⟩ (O b4 n4 k4)=W':=⟨_,rfl⟩;rw[ar];obtain⟨g1,g2,g3⟩:=a9.put oM oM oM oM bo ar;refine⟨(il D5).trans (g2 _),((yh.refl _ _ W).ext D5 HI.o.x.size (by have:=HI.o.sz;omega)).trans g3,?_⟩;show yi f b12 b13 b14 bx px qx (Lc _ _ _ _ ((pre++[x]).map Gh)) W';rw[aU.o];exact g1
  case done =>
   rintro D de W hD bA hI j;have b:yi f b12 b13 b14 bx px qx (Lc (lo:Rat) (hi:Rat) (px:Rat) (qx:Rat) (Td sk ps)) W:=by rw[<-aV.o,<-bA];exact hI
   obtain⟨s,hs⟩:=gX (Lc (lo:Rat) (hi:Rat) (px:Rat) (qx:Rat) (Td sk ps));rw[hs]at b;have Hs:=ia hs;clear hI hs;obtain⟨sa,sm,sc,ss,cu,cw,cv,e0,e1,e2,-,-,-,dg,ch⟩:=b.sm.rd;have bq:=HU.o.2.2.2.2.1.ext b.x;obtain⟨_,_,_,_,_,_,_,o0,o1,o2,f0,f1,f2,zr,-⟩:=bq.rd;have hP:=bq.put ch;have hX:=(((HU.o.1.2.trans b.x).set (p:=⟨w.heap.size+1+1+1,0,Y⟩) dO (O sa sm sc)).set (p:=⟨w.heap.size+1+1+1,1,Y⟩) dO (J ss)).set (p:=⟨w.heap.size+1+1+1,2,Y⟩) dO (O cu cw cv);have bs:=b.sz
   gi_wp2
   refine oo [D] _ ⟨by simp,fun E hE=>?_⟩ (fun W' ar=>?_)
   ·rw[List.mem_singleton.1 hE,bS _ _ _ _ dO,bS _ _ _ _ dO,bS _ _ _ _ dO];exact j
   ·have hS:=ar w.heap.size (fun E hE=>by rw[List.mem_singleton.1 hE];omega);obtain⟨cm,pm,cp,cr,cn,cq,co,cx,cy,cz,_,_,_,_,hz⟩:=(hP.sim hS).rd;exact⟨H #[C #[O cm pm cp,J cr,O cn cq co],Z X 0],by simp[results,Tryz.results11,go_sem,cx,cy,cz],_,rfl,by rw[Hs.o];exact hz,hS.ext hX (nE _)⟩
  case stop =>
   rintro D c pre W hD cV hf j;exact hf.elim
end
section
def Sn(k:Int)(l:LP):Prop:=∃a b:Int,∀q∈l,a<=q.1/\q.1<=a+k/\b<=q.2/\q.2<=b+k
def jH:∀{l:LP},l≠[]->∀{a b:Int},(∀q∈l,a<=q.1/\b<=q.2)->a<=(Ab l).1/\b<=(Ab l).2/\∀q∈l,(Ab l).1<=q.1/\(Ab l).2<=q.2:=by
 intro l h a b i;have key:∀(c:LP)(o:Int×Int),(a<=o.1/\b<=o.2)->(∀q∈c,a<=q.1/\b<=q.2)->(a<=(c.foldl (fun o q=>(min o.1 q.1,min o.2 q.2)) o).1/\b<=(c.foldl (fun o q=>(min o.1 q.1,min o.2 q.2)) o).2)/\
   (c.foldl (fun o q=>(min o.1 q.1,min o.2 q.2)) o).1<=o.1/\(c.foldl (fun o q=>(min o.1 q.1,min o.2 q.2)) o).2<=o.2/\∀q∈c,(c.foldl (fun o q=>(min o.1 q.1,min o.2 q.2)) o).1<=q.1/\(c.foldl (fun o q=>(min o.1 q.1,min o.2 q.2)) o).2<=q.2:=by
  intro c;induction c with
  | nil=>intro o f _;exact⟨f,Int.le_refl _,Int.le_refl _,fun q d=>by cases d⟩
  | cons q c r =>
   intro o f g;have d:=g q sM;obtain⟨j,k,m,n⟩:=r (min o.1 q.1,min o.2 q.2) ⟨by dsimp only;omega,by dsimp only;omega⟩ (fun x e=>g x (mC _ e));dsimp only at k m;rw[List.foldl_cons];refine⟨j,by omega,by omega,fun x e=>?_⟩;rcases List.mem_cons.1 e with rfl|e
   ·exact⟨by omega,by omega⟩
   ·exact n x e
 cases l with
 | nil=>exact absurd rfl h
 | cons p l =>
  obtain⟨⟨t,v⟩,w,y,z⟩:=key l p (i p sM) (fun q d=>i q (mC _ d));refine⟨t,v,fun q d=>?_⟩;rcases List.mem_cons.1 d with rfl|d
  ·exact⟨w,y⟩
  ·exact z q d
def LA{k:Int}{l:LP}(h:Sn k l)(g:l≠[]):∀q∈Nb l,0<=q.1/\q.1<=k/\0<=q.2/\q.2<=k:=fun q c=>by
 obtain⟨a,b,f⟩:=h;obtain⟨n,o,i⟩:=jH g (a:=a) (b:=b) (fun q c=>⟨(f q c).1,(f q c).2.2.1⟩);unfold Nb at c;obtain⟨r,d,rfl⟩:=List.mem_map.1 c;have e:r∈l:=by
  rcases List.mem_append.1 d with d|d
  ·exact List.mem_of_mem_drop d
  ·exact List.mem_of_mem_take d
 have j:=i r e;have m:=f r e;dsimp only;omega
def mD{l:LP}(way:Int)(h:∀q∈l,0<=q.1/\q.1<=2000/\0<=q.2/\q.2<=2000):Sn 2000 (l.map (jb way)):=by
 have key:∀(f:Int×Int->Int×Int)(a b:Int),(∀q∈l,a<=(f q).1/\(f q).1<=a+2000/\b<=(f q).2/\(f q).2<=b+2000)->(∀q∈l,jb way q=f q)->Sn 2000 (l.map (jb way)):=fun f a b k m=>⟨a,b,fun q d=>by
  obtain⟨r,j,rfl⟩:=List.mem_map.1 d;rw[m r j];exact k r j⟩
 by_cases c:3<way
 ·by_cases e:way%4=0
  ·exact key (fun q=>(-q.1,q.2)) (-2000) 0 (fun q d=>by have:=h q d;dsimp only;omega) (fun q _=>by unfold jb;simp only[if_pos c,if_pos e])
  ·by_cases g:way%4=1
   ·exact key (fun q=>(-q.2,-q.1)) (-2000) (-2000) (fun q d=>by have:=h q d;dsimp only;omega) (fun q _=>by unfold jb;simp only[if_pos c,if_neg e,if_pos g])
   ·by_cases i:way%4=2
    ·exact key (fun q=>(- -q.1,-q.2)) 0 (-2000) (fun q d=>by have:=h q d;dsimp only;omega) (fun q _=>by unfold jb;simp only[if_pos c,if_neg e,if_neg g,if_pos i])
    ·exact key (fun q=>(q.2,- -q.1)) 0 0 (fun q d=>by have:=h q d;dsimp only;omega) (fun q _=>by unfold jb;simp only[if_pos c,if_neg e,if_neg g,if_neg i])
 ·by_cases e:way%4=0
  ·exact key (fun q=>q) 0 0 (fun q d=>by have:=h q d;omega) (fun q _=>by unfold jb;simp only[if_neg c,if_pos e])
  ·by_cases g:way%4=1
   ·exact key (fun q=>(-q.2,q.1)) (-2000) 0 (fun q d=>by have:=h q d;dsimp only;omega) (fun q _=>by unfold jb;simp only[if_neg c,if_neg e,if_pos g])
   ·by_cases i:way%4=2
    ·exact key (fun q=>(-q.1,-q.2)) (-2000) (-2000) (fun q d=>by have:=h q d;dsimp only;omega) (fun q _=>by unfold jb;simp only[if_neg c,if_neg e,if_neg g,if_pos i])
    ·exact key (fun q=>(q.2,-q.1)) 0 (-2000) (fun q d=>by have:=h q d;dsimp only;omega) (fun q _=>by unfold jb;simp only[if_neg c,if_neg e,if_neg g,if_neg i])
def fI{nb:Bool}{ps:LP}{d b c e:Int}(h:ud nb ps d b c e=true):∀q∈ps,0<=q.1/\q.1<=2000/\0<=q.2/\q.2<=2000:=fun q g=>by
 unfold ud at h;simp only[Bool.and_eq_true]at h;have a:=h.1.1.1.2;unfold Vd at a;simp only[Bool.and_eq_true,Bool.not_eq_true',List.any_eq_false]at a;have f:=a.1.1.1 q g;simp[Fe,xb]at f;omega
def GK{p:Pl}(h:Ea p=true):∀q∈Ba p,p.ax<=q.1/\q.1<=p.ax+2000/\p.az<=q.2/\q.2<=p.az+2000:=fun q f=>by
 obtain⟨j,_⟩:=Vm h;obtain⟨i,_⟩:=Xm j;have c:p.shape≠[]:=by intro e;rw[e]at i;simp at i
 have d:=mD p.way (fI j);unfold Ba at f;obtain⟨r,g,rfl⟩:=List.mem_map.1 f;have k:0<=r.1/\r.1<=2000/\0<=r.2/\r.2<=2000:=by
  unfold Lb at g;split at g
  ·refine LA ?_ (by simpa using c) r g;obtain⟨a,b,d⟩:=d;exact⟨a,b,fun q f=>d q (List.mem_reverse.1 f)⟩
  ·exact LA d (by simpa using c) r g
 dsimp only;omega
def Ag(sk:Int):List Pl->Rat
 | []=>0
 | p::t=>(if ii sk p=true then (Ib p.shape:Rat)/2 else 0)+Ag sk t
def jA(sk:Int):∀(l:List Pl)(p:Pl),Ag sk (l++[p])=Ag sk l+(if ii sk p=true then (Ib p.shape:Rat)/2 else 0)
 | [],p=>by show (if ii sk p=true then (Ib p.shape:Rat)/2 else 0)+0=0+(if ii sk p=true then (Ib p.shape:Rat)/2 else 0);grind
 | a::l,p=>by
  show (if ii sk a=true then (Ib a.shape:Rat)/2 else 0)+Ag sk (l++[p])=(if ii sk a=true then (Ib a.shape:Rat)/2 else 0)+Ag sk l+(if ii sk p=true then (Ib p.shape:Rat)/2 else 0);rw[jA sk l p];grind
def YD{p:Pl}(h:Ea p=true)(n:p.ax<=98000)(o:p.az<=98000):We ((-100000:Int):Rat) ((100000:Int):Rat) ((-100000:Int):Rat) ((100000:Int):Rat) (za p) (Ra p)=(Ib p.shape:Rat)/2:=by
 obtain⟨_,_,_,f,g,_⟩:=Vm h;obtain⟨l,j,b⟩:=lk h;obtain⟨m,k,c⟩:=vk h;have e:=rI (lo:=((-100000:Int):Rat)) (hi:=((100000:Int):Rat)) (px:=((-100000:Int):Rat)) (qx:=((100000:Int):Rat)) (Zo h) l j b m k c (fun q i=>by
  obtain⟨r,a,rfl⟩:=List.mem_map.1 i;have a:=GK h r a;unfold Bd at f g;unfold qp;exact⟨Rat.intCast_le_intCast.2 oM,Rat.intCast_le_intCast.2 oM,Rat.intCast_le_intCast.2 oM,Rat.intCast_le_intCast.2 oM⟩)
 rw[e];have d:Dd Pa ((Ba p).map qp)=De (Ba p):=rfl;rw[d,yK,IJ]
def Zw(sk:Int):∀{a:List Pl},(∀p∈a,Ea p=true/\p.ax<=98000/\p.az<=98000)->Lc ((-100000:Int):Rat) ((100000:Int):Rat) ((-100000:Int):Rat) ((100000:Int):Rat) (Td sk a)=Ag sk a
 | [],_=>rfl
 | p::a,h=>by
  have b:=Zw sk (fun x i=>h x (mC p i));obtain⟨d,f,g⟩:=h p sM;show _=(if ii sk p=true then (Ib p.shape:Rat)/2 else 0)+Ag sk a;by_cases c:ii sk p=true
  ·have e:Td sk (p::a)=(za p,Ra p)::Td sk a:=by
    unfold Td Eh;rw[List.filter_cons_of_pos (by exact c),List.map_cons]
   rw[e,if_pos c,<-b,<-YD d f g];rfl
  ·have e:Td sk (p::a)=Td sk a:=by
    unfold Td Eh;rw[List.filter_cons_of_neg (by exact c)]
   rw[e,if_neg c,b];grind
def Py{ps:LP}(f:Se 2000 ps)(j:ps.length<=12):-96000000<=Ib ps/\Ib ps<=96000000:=by
 have c:∀e∈fd ps,Bd 2000 e.1.1/\Bd 2000 e.1.2/\Bd 2000 e.2.1/\Bd 2000 e.2.2:=fun e g=>by
  cases ps with
  | nil=>cases g
  | cons p t =>
   refine pl (k:=2000) (ps:=p::t++[p]) (fun q d=>?_) g;rcases List.mem_append.1 d with d|d
   ·exact f q d
   ·rw[List.mem_singleton.1 d];exact f p sM
 obtain⟨a,b⟩:∃a:List BQ,a.map (fun e=>e.1)=fd ps:=⟨(fd ps).attachWith _ c,jl _⟩;have i:a.length<=12:=by
  have:=congrArg List.length b;rw[lL,Du]at this;omega
 have h:=st a;have e:(a.map fun e=>ij e.1).sum=Ib ps:=by
  unfold Ib;rw[<-b,List.map_map];rfl
 rw[e]at h;omega
def ux{ps:LP}(a:Se 2000 ps)(b:ps.length<=12):Rb 3 ((Ib ps:Rat)/2):=by obtain⟨c,d⟩:=Py a b;exact Rb.half (Rb.int (k:=2) (by unfold Lm B;omega) dM)
def Gt(sk:Int):∀{a:List Pl},(∀p∈a,Ea p=true)->Rb (4*a.length+1) (Ag sk a)
 | [],_=>(me (k:=1000) (n:=0) (by unfold Bd;omega)).up (by simp)
 | p::a,h=>by
  have f:=Gt sk (fun x e=>h x (mC p e));obtain⟨d,_⟩:=Vm (h p sM);obtain⟨-,Sh,c,-⟩:=Xm d;have b:Rb 3 (if ii sk p=true then (Ib p.shape:Rat)/2 else 0):=by
   split
   ·exact ux c Sh
   ·exact(me (k:=1000) (n:=0) (by unfold Bd;omega)).up dM
  exact(b.add2 f).up (by simp only[List.length_cons];omega)
end
section
open Go.RowKit Go.Shelf Go.Sort Go.Lib
attribute [local go_sem] Oper.semAt_some
def pI(w:I)(b c:N)(g:LP)(ps:List Pl)(sk:Int)(px lo qx hi:Int)(e:Aa w b g)(f:td w c ps)(a:Gw w)(d:ps.length<=8):Calls Tryz.prog 11 #[C #[b,c],Z .u8 sk,C #[Z X px,Z X lo],C #[Z X qx,Z X hi]] w (ph w g ps sk (px,lo) (qx,hi)):=by
 by_cases h:yd g ps sk (px,lo) (qx,hi)=0
 ·exact SG w b c g ps sk (px,lo) (qx,hi) e f a d h
 ·exact oI w b c g ps sk (px,lo) (qx,hi) e f a h
def ie(px lo qx hi:Int):Prop:=px<qx/\lo<hi/\ -100000<=px/\qx<=100000/\ -100000<=lo/\hi<=100000
def uj{px lo qx hi:Int}:Nh (px,lo) (qx,hi)=false ↔ ie px lo qx hi:=by unfold Nh Cb ie;simp;omega
def FK{g:LP}{ps:List Pl}{sk px lo qx hi:Int}(h:yd g ps sk (px,lo) (qx,hi)=0):pb g ps=0/\(sk=1\/sk=2)/\ie px lo qx hi:=by
 unfold yd at h;by_cases a:pb g ps=0
 ·rw[if_neg (fun c=>c a)]at h;by_cases b:sk≠1/\sk≠2
  ·rw[if_pos b]at h;cases h
  ·rw[if_neg b]at h;refine⟨a,by omega,uj.1 ?_⟩;cases hf:Nh (px,lo) (qx,hi)with
   | false=>rfl
   | true=>rw[if_pos hf]at h;cases h
 ·rw[if_pos a]at h;exact absurd h a
def qI{g:LP}{ps:List Pl}{sk px lo qx hi:Int}(a:pb g ps=0)(d:sk=1\/sk=2)(c:ie px lo qx hi):yd g ps sk (px,lo) (qx,hi)=0:=by unfold yd;rw[if_neg (fun b=>b a),if_neg oM,uj.2 c,if_neg dM]
def xA{g:LP}{ps:List Pl}{sk px lo qx hi:Int}(h:yd g ps sk (px,lo) (qx,hi)=0):Bg g ps sk (px,lo) (qx,hi)=Lc (lo:Rat) (hi:Rat) (px:Rat) (qx:Rat) (Td sk ps):=by unfold Bg;rw[if_pos h]
def Fq{ps:List Pl}(a:∀p∈ps,Ea p=true)(c:ps.length<=8)(sk:Int){px lo qx hi:Int}(e:ie px lo qx hi):Rb 920000 (Lc (lo:Rat) (hi:Rat) (px:Rat) (qx:Rat) (Td sk ps)):=by
 refine(Bt (lo:=lo) (hi:=hi) (px:=px) (qx:=qx) (by unfold ie at e;unfold uh Bd;omega) (fun P b=>?_)).up ?_
 ·unfold Td at b;obtain⟨p,d,rfl⟩:=List.mem_map.1 b;have h:=a p (List.mem_filter.1 d).1;exact⟨rj h,(lk h).1,(vk h).1⟩
 ·have f:(Td sk ps).length<=ps.length:=by unfold Td Eh;rw[lL];exact List.length_filter_le _ _
  omega
def TG{g:LP}{ps:List Pl}{sk px lo qx hi:Int}(b:pb g ps=0)(a:ie px lo qx hi):0<=Lc (lo:Rat) (hi:Rat) (px:Rat) (qx:Rat) (Td sk ps)/\Lc (lo:Rat) (hi:Rat) (px:Rat) (qx:Rat) (Td sk ps)<=((qx-px:Int):Rat)*((hi-lo:Int):Rat):=by have h:=XD (lo:=(lo:Rat)) (hi:=(hi:Rat)) (Rat.intCast_lt_intCast.2 a.2.1) (YF b sk) _ (px:Rat) (qx:Rat) (Rat.intCast_lt_intCast.2 a.1) (nE _);rw[Rat.intCast_sub,Rat.intCast_sub];exact h
def FM(b:I)(a:Nat)(sk:Int)(ps:List Pl)(c:Nat)(t22:N)(W:I):Prop:=
 ∃i:Nat,i<=ps.length/\t22=Z X (i:Int)/\c=ps.length-i/\oa b W/\RB W a (Ag sk (ps.take i))/\∀p∈ps.take i,p.ax<=98000/\p.az<=98000
def RG(w:I)(vg vp:N)(g:LP)(ps:List Pl)(sk px lo qx hi z:Int)(hg:Pd w vg g)(hp:pf w vp ps)(bC:Gw w)(dg:0<=z/\z<=255):Calls Tryz.prog 4 #[C #[vg,vp],Z .u8 sk,C #[Z X px,Z X lo],C #[Z X qx,Z X hi],Z .u8 z] w fun e w'=>e=.returned (J true)/\oa w w':=by
 have HF:=ia (fun(W:I)(hW:oa w W)=>ND W vg vp g ps (hg.i hW) (hp.i hW));have HW:=ia (fun(hf:Ei g ps=true)(W:I)(hW:oa w W)=>pG W vg vp g ps (hg.i hW) (hp.i hW) (Wq hf).1 (by have:=(Wq hf).2.1;omega) (Wq hf).2.2);have al:=ia (fun(R:ps.length<=8)(W:I)(v1 K:N)(a b c d:Int)(hW:oa w W)(h1:Aa W v1 g)(h2:td W K ps)=>pI W v1 K g ps sk a b c d h1 h2 (bC.ext hW) R);have HA:=ia (fun(W:I)(hW:oa w W)=>yJ W (bC.ext hW));obtain⟨ga,gc,rfl⟩:=hg.form;obtain⟨pa,d8,rfl⟩:=hp.form;obtain⟨gn,cq⟩:=gX g.length;obtain⟨pn,cu⟩:=gX ps.length;rw[cq,cu]at HF HW ⊢;clear hg hp bC cq cu;cases hfew:Ei g ps with
 |false=>
  rw[hfew]at HF;clear HW al;go_in;go_wp2_with(first|(go_at_call 6;refine cM (HF.o _ eA) ?_;rintro e w1 ⟨rfl,n⟩;have X1:oa w w1:=eA;obtain⟨⟨bz,bB⟩,aH,aI,aJ⟩:=oc w n)|(go_at_call 7;refine cM (HA.o _ (X1)) ?_;rintro e bY ⟨rfl,y⟩));go_ret;exact⟨rfl,X1.trans y⟩
 |true=>
  rw[hfew]at HF;have cb:=ia (HW.o hfew);have R:=(Wq hfew).2.1;have aV:=ia (al.o R);have al:=aV;clear hfew HW aV;by_cases hE:yd g ps sk (px,lo) (qx,hi)=0
  ·obtain⟨h0,hs,hw⟩:=FK hE;have hS:=xA hE;obtain⟨S,bv⟩:=gX (Lc (lo:Rat) (hi:Rat) (px:Rat) (qx:Rat) (Td sk ps));obtain⟨m1,m2⟩:=TG (sk:=sk) h0 hw;have bu:=Fq (Ui h0).1 R sk hw;rw[bv]at m1 m2 bu hS;have aL:=ia (fun(a b c d:Int)(hw:ie a b c d)(W:I)(v1 K:N)(hW:oa w W)(h1:Aa W v1 g)(h2:td W K ps)=>(show Calls Tryz.prog 11 #[C #[v1,K],Z .u8 sk,C #[Z X a,Z X b],C #[Z X c,Z X d]] W (fun e w'=>∃r,e=.returned (H #[r,Z X 0])/\La w' r (Lc (b:Rat) (d:Rat) (a:Rat) (c:Rat) (Td sk ps))/\oa W w')from by
    have h9:=al.o W v1 K a b c d hW h1 h2;have h8:=qI h0 hs hw;unfold ph at h9;rw[xA h8,h8]at h9;exact h9))
   have H0:=ia (And.intro h0 (And.intro hs (And.intro hw (And.intro hE (And.intro hS R)))));have HS:=ia (And.intro bv (And.intro m1 (And.intro m2 bu)));unfold ie at hw;clear hE hs hS h0 bv m1 m2 bu;go_in;go_upto_region 7 with (first|(go_at_call 6;refine cM (HF.o _ eA) ?_;rintro e w1 ⟨rfl,n⟩;have X1:oa w w1:=eA;obtain⟨⟨bz,bB⟩,aH,aI,aJ⟩:=oc w n)|(go_at_call 8;refine cM (cb.o _ X1) ?_;rintro e w2 ⟨dw,dx,rfl,ag,ah,l⟩;obtain⟨⟨bk,bn,bl,rfl⟩,bT,aj,bU,rfl⟩:=And.intro (Ia ag) (Ia ah.pls);have X2:oa w w2:=X1.trans l;obtain⟨cm,cp⟩:=l.cells;(have cP:=l.size);(have cN:w.heap.size+1+1<w2.heap.size:=oM);(have cO:w.heap.size+1<w2.heap.size:=oM))|((go_at_call 11;refine cM (al.o _ _ _ px lo qx hi eA (ag.i ((eR _).alloc _)) (ah.pls.i ((eR _).alloc _))) ?_;rintro e w3 ⟨r3,rfl,aq,x⟩;obtain⟨a3,m3,c3,s3,b3,n3,k3,rfl⟩:=aq.form);rw[H0.o.2.2.2.1]));rw[H0.o.2.2.2.2.1]at aq;obtain⟨ao,P⟩:=gX w2.heap.size;obtain⟨b12,aA⟩:=gX w3.heap.size;obtain⟨W4,aQ⟩:=gX (w3.alloc (M #[O a3 m3 c3,J s3,O b3 n3 k3] 43));have bf:oa w3 W4:=by rw[<-aQ];exact(eR _).alloc _
   have an:oa w2 W4:=(((eR w2).alloc _).trans x).trans bf;have X4:oa w W4:=X2.trans an;have kp:W4.heap[w.heap.size+1]?=F (M #[Z X px,Z X lo] 55 (0,0)):=(n.trans (l.trans an)).e (((eR _).alloc _).e (Kc _ _ _ sM));have kq:W4.heap[w.heap.size+1+1]?=F (M #[Z X qx,Z X hi] 55 (0,0)):=(n.trans (l.trans an)).e (Kc _ _ _ sM);have cB:W4.heap[ao]?=F (M #[O bk bn bl,O bT aj bU] 35 (0,0)):=(x.trans bf).e (Kc w2 _ _ P.symm);have ci:RB W4 b12 S:=by rw[<-aQ];exact RB.new aq aA.symm
   have HU:=ia (And.intro X4 (And.intro (And.intro kp kq) (And.intro cB (And.intro ci (And.intro (ag.i an) (ah.pls.i an))))));rw[aQ];simp only[P,aA];clear P aA aQ bf an X4 kp kq cB ci n l x bz bB cm cp aH aI aJ cP cN cO X1 X2 ag ah aq;obtain⟨sa,sm,sc,ss,bV,bX,bW,d0,d1,d2,_,_,_,d9,cv⟩:=HU.o.2.2.2.1.rd;have cd:=ia cv;have p0:=ja HU.o.2.1.1 0 (Z X px);have p1:=ja HU.o.2.1.1 1 (Z X lo);have q0:=ja HU.o.2.1.2 0 (Z X qx);have q1:=ja HU.o.2.1.2 1 (Z X hi);have u1:IntKind.i64.wrap (qx-px)=qx-px:=iW _ ⟨by omega,by omega⟩;have u2:IntKind.i64.wrap (hi-lo)=hi-lo:=iW _ ⟨by omega,by omega⟩;have bb:=ia (fun(W:I)(hW:oa W4 W)=>Xl W _ S (cd.o.ext hW));have b0:=ia (fun(W:I)=>Kq W (qx-px) oM oM);have b4:=ia (fun(W:I)=>Kq W (hi-lo) oM oM);have r1:Rb 1 ((qx-px:Int):Rat):=me (k:=200000) (by unfold Bd;omega);have r2:Rb 1 ((hi-lo:Int):Rat):=me (k:=200000) (by unfold Bd;omega);have HM:=ia (fun(W:I)(v1 K:N)(h1:La W v1 ((qx-px:Int):Rat))(h2:La W K ((hi-lo:Int):Rat))=>rr W v1 K _ _ h1 h2 (od r1 dM) (od r2 dM));have a4:=ia (fun(W:I)(K:N)(hW:oa W4 W)(h2:La W K (((qx-px:Int):Rat)*((hi-lo:Int):Rat)))=>Mi W _ K S _ (cd.o.ext hW) h2 (od HS.o.2.2.2 dM) (od (r1.mul r2) dM));obtain⟨sg,bI⟩:=gX S.num.sign;obtain⟨T,hT⟩:=gX (Pb S (((qx-px:Int):Rat)*((hi-lo:Int):Rat)));have cy:¬sg<0:=by rw[<-bI];exact ZE HS.o.2.1
   have cY:¬0<T:=by
    rw[<-hT];intro h9;have:=(Nq _ _).1 h9;exact absurd HS.o.2.2.1 (Rat.not_le.2 this)
   have c1:decide (sg<0)=false:=by simpa using cy
   have c2:decide (0<T)=false:=by simpa using cY
   rw[bI]at bb;rw[hT]at a4;clear bI hT r1 r2 cv;refine Ke [(⟨b12,0,Y⟩,O sa sm sc),(⟨b12,1,Y⟩,J ss),(⟨b12,2,Y⟩,O bV bX bW),(⟨w.heap.size+1,0,Y⟩,Z X px),(⟨w.heap.size+1,1,Y⟩,Z X lo),(⟨w.heap.size+1+1,0,Y⟩,Z X qx),(⟨w.heap.size+1+1,1,Y⟩,Z X hi)] ⟨d0,d1,d2,p0,p1,q0,q1,trivial⟩ fun f=>?_;refine Ac (i:=0) ?_;have D0:oa W4 W4.drew:=(eR W4).drew;refine Ec (i:=1) (bb.o _ D0) ?_;rintro e w1 ⟨rfl,n⟩;refine⟨_,rfl,(cE f n),fun f=>?_⟩;have D1:oa W4 w1:=D0.trans n;refine Ac (i:=2) ?_;refine Ac (i:=3) ?_;refine Ac (i:=4) ?_;refine Ac (i:=5) ?_;refine Ac (i:=6) ?_;refine Ac (i:=7) ?_;refine Ac (i:=8) ?_;refine Ac (i:=9) ?_;refine Ac (i:=11) ?_;refine Ac (i:=12) ?_;refine Ac (i:=13) ?_;refine Ac (i:=14) ?_;refine Ac (i:=15) ?_;refine Ec (i:=10) (b0.o _) ?_;rintro e w2 ⟨r5,rfl,bF,l⟩;obtain⟨a5,m5,c5,s5,b5,n5,k5,rfl⟩:=bF.form;refine⟨_,rfl,(cE f l),fun f=>?_⟩;have D2:oa W4 w2:=D1.trans l;refine Ec (i:=16) (b4.o _) ?_;rintro e w3 ⟨r6,rfl,t,x⟩;obtain⟨a6,m6,c6,s6,b6,n6,k6,rfl⟩:=t.form;refine⟨_,rfl,(cE f x),fun f=>?_⟩;have D3:oa W4 w3:=D2.trans x;refine Ec (i:=17) (HM.o _ _ _ (bF.ext x) t) ?_;rintro e w4 ⟨r7,rfl,ai,bL⟩;obtain⟨a7,m7,c7,s7,b7,n7,k7,rfl⟩:=ai.form;refine⟨_,rfl,(cE f bL),fun f=>?_⟩;have D4:oa W4 w4:=D3.trans bL;refine Ec (i:=18) (a4.o _ _ D4 ai) ?_;rintro e w5 ⟨rfl,bM⟩;refine⟨_,rfl,(cE f bM),fun f=>?_⟩;have D5:=ia (D4.trans bM);refine sN 19 ?_
   iterate 2 refine Fc ?_
   refine oN ?_;refine Wd ?_;have X5:=D5.o;have p0:=X5.d p0;have p1:=X5.d p1;have q0:=X5.d q0;have q1:=X5.d q1;have kb:=X5.e HU.o.2.2.1;have P:=jc kb;have dp:w.heap.size+1+1<w5.heap.size:=World.block_lt_of_cell? w5 _ q0;have dl:w.heap.size+1<w5.heap.size:=World.block_lt_of_cell? w5 _ p0;have k0:=ja kb 0 (O bk bn bl);have k1:=ja kb 1 (O bT aj bU);have cg:=HU.o.2.2.2.1.ext X5;have HV:=ia (And.intro (HU.o.1.trans X5) (And.intro cg (And.intro (HU.o.2.2.2.2.1.i X5) (HU.o.2.2.2.2.2.i X5))));clear f D0 D1 D2 D3 D4 D5 n l x bL bM bF t ai bb b0 b4 HM a4 X5 d0 d1 d2 kb cg;go_upto_if 71 with fail;go_cut [] (fun W=>oa w5 W)
   case first =>
    by_cases h1:1<qx-px
    ·obtain⟨m0,bE⟩:=gX (z.tmod (qx-px));(have dY:0<=m0/\m0<qx-px:=by rw[<-bE];exact⟨Int.tmod_nonneg _ dg.1,Int.tmod_lt_of_pos _ oM⟩);have e1:IntKind.i64.wrap z=z:=iW _ ⟨by omega,by omega⟩;(have e2:IntKind.i64.wrap (z.tmod (qx-px))=m0:=by rw[bE];exact iW _ ⟨by omega,by omega⟩);have e3:IntKind.i64.wrap (px+1)=px+1:=iW _ ⟨by omega,by omega⟩;have e4:IntKind.i64.wrap (px+1+m0)=px+1+m0:=iW _ ⟨by omega,by omega⟩;have e5:IntKind.i64.wrap (qx-px-1)=qx-px-1:=iW _ ⟨by omega,by omega⟩;(have e6:IntKind.i64.wrap (qx-px-1+1)=qx-px:=by rw[show qx-px-1+1=qx-px by omega];exact u1);have e7:¬qx-px=0:=oM;(have e8:(qx-px==0)=false:=by simpa using e7);go_upto_region 10 with fail;refine Ke [(⟨w.heap.size+1,0,Y⟩,Z X px),(⟨w.heap.size+1+1,0,Y⟩,Z X qx)] ⟨p0,q0,trivial⟩ fun f=>?_;refine Ac (i:=0) ?_;refine Ac (i:=1) ?_;refine Ac (i:=2) ?_;refine Ac (i:=3) ?_;refine Ac (i:=4) ?_;refine Ac (i:=5) ?_;refine Ac (i:=6) ?_;refine Ac (i:=7) ?_;refine Ac (i:=8) ?_;refine Ac (i:=9) ?_;refine Ac (i:=10) ?_;refine Ac (i:=11) ?_;refine Ac (i:=12) ?_;refine Ac (i:=13) ?_;refine Ac (i:=14) ?_;refine Wd ?_;clear f;have D6:oa w5 w5.drew:=(eR w5).drew;have p0:=D6.d p0;have p1:=D6.d p1;have q0:=D6.d q0;have q1:=D6.d q1;have k0:=D6.d k0;have k1:=D6.d k1;have dj:w5.drew.heap.size=w5.heap.size:=rfl;obtain⟨W6,ck⟩:=gX w5.drew;rw[ck]at p0 p1 q0 q1 k0 k1 D6 dj ⊢;obtain⟨m,hm⟩:=gX (px+1+m0);rw[hm];clear ck e1 e2 e3 e4 e5 e6 e7 e8 u1 u2 bE;by_cases dd:m<qx
     ·(have w1:ie px lo m hi:=by unfold ie;omega);(have w2:ie m lo qx hi:=by unfold ie;omega);have aa:=ku (lo:=(lo:Rat)) (hi:=(hi:Rat)) (px:=(px:Rat)) (m:=(m:Rat)) (qx:=(qx:Rat)) (Rat.intCast_lt_intCast.2 oM) (Rat.intCast_lt_intCast.2 dd) (Td sk ps);rw[HS.o.1]at aa;have b1:=Fq (Ui H0.o.1).1 R sk w1;have b2:=Fq (Ui H0.o.1).1 R sk w2;have a1:=ia (aL.o px lo m hi w1);have a2:=ia (aL.o m lo qx hi w2);obtain⟨S1,br⟩:=gX (Lc (lo:Rat) (hi:Rat) (px:Rat) (m:Rat) (Td sk ps));obtain⟨S2,bt⟩:=gX (Lc (lo:Rat) (hi:Rat) (m:Rat) (qx:Rat) (Td sk ps));rw[br,bt]at aa;rw[br]at b1 a1;rw[bt]at b2 a2;have aK:=ia (fun(W:I)(v1 K:N)(h1:La W v1 S1)(h2:La W K S2)=>aa▸Tl W v1 K S1 S2 h1 h2 (od b1 dM) (od b2 dM));have cQ:=ia (fun(W:I)(v1 K:N)(h1:La W v1 S)(h2:La W K S)=>Fz S▸Mi W v1 K S S h1 h2 (od HS.o.2.2.2 dM) (od HS.o.2.2.2 dM));clear aa b1 b2 br bt w1 w2;go_upto_region 14 with (first|(go_at_call 11;(with_reducible refine(a1.o _ _ _ (HV.o.1.trans D6) (HV.o.2.2.1.i D6) (HV.o.2.2.2.i D6)).mono ?_);rintro e w6 ⟨r6,rfl,t,j⟩;obtain⟨a6,m6,c6,s6,b6,n6,k6,rfl⟩:=t.form;(have z6:=j.size);(have y1:ao<w6.heap.size:=oM);(have y2:w.heap.size+1<w6.heap.size:=oM);(have y3:w.heap.size+1+1<w6.heap.size:=oM);(have dq:=j.d p0);(have dr:=j.d p1);(have dt:=j.d q0);(have du:=j.d q1);(have aT:=j.d k0);(have aU:=j.d k1))|(go_at_call 11;(with_reducible refine(a2.o _ _ _ (((HV.o.1.trans D6).trans j).alloc _) ((HV.o.2.2.1.i (D6.trans j)).i ((eR _).alloc _)) ((HV.o.2.2.2.i (D6.trans j)).i ((eR _).alloc _))).mono ?_);rintro e w7 ⟨r7,rfl,ai,bN⟩;obtain⟨a7,m7,c7,s7,b7,n7,k7,rfl⟩:=ai.form));obtain⟨bj,aB⟩:=gX w6.heap.size;obtain⟨aP,aC⟩:=gX w7.heap.size;obtain⟨W8,aR⟩:=gX (w7.alloc (M #[O a7 m7 c7,J s7,O b7 n7 k7] 43));(have aO:oa w7 W8:=by rw[<-aR];exact(eR _).alloc _);have bi:oa w6 W8:=(((eR w6).alloc _).trans bN).trans aO;have bh:oa w5 W8:=(D6.trans j).trans bi;have bP:=(bN.trans aO).e (Kc w6 (M #[O a6 m6 c6,J s6,O b6 n6 k6] 43) _ aB.symm);(have bQ:W8.heap[aP]?=F (M #[O a7 m7 c7,J s7,O b7 n7 k7] 43 (0,0)):=by rw[<-aR];exact Kc w7 _ _ aC.symm);obtain⟨ta,tm,tc,ts,cG,cI,cH,t0,t1,t2,_,_,_,zt,aE⟩:=(HV.o.2.1.ext bh).rd;have a8:=ia (And.intro (t.ext bi) (And.intro (ai.ext aO) aE));have cS:=ia bh;rw[aR];simp only[aB,aC];clear aB aC aR aO bi bh aE t ai j bN z6 y1 y2 y3 dq dr dt du aT aU a1 a2;refine Ke [(⟨bj,0,Y⟩,O a6 m6 c6),(⟨bj,1,Y⟩,J s6),(⟨bj,2,Y⟩,O b6 n6 k6),(⟨aP,0,Y⟩,O a7 m7 c7),(⟨aP,1,Y⟩,J s7),(⟨aP,2,Y⟩,O b7 n7 k7),(⟨b12,0,Y⟩,O ta tm tc),(⟨b12,1,Y⟩,J ts),(⟨b12,2,Y⟩,O cG cI cH)] ⟨Gb bP (i:=0) rfl,Gb bP (i:=1) rfl,Gb bP (i:=2) rfl,Gb bQ (i:=0) rfl,Gb bQ (i:=1) rfl,Gb bQ (i:=2) rfl,t0,t1,t2,trivial⟩ fun f=>?_;refine Ac (i:=0) ?_;refine Ac (i:=1) ?_;refine Ac (i:=2) ?_;refine Ac (i:=3) ?_;refine Ac (i:=4) ?_;refine Ac (i:=5) ?_;refine Ac (i:=6) ?_;refine Ac (i:=7) ?_;refine Ac (i:=8) ?_;refine Ac (i:=10) ?_;refine Ec (i:=9) (aK.o _ _ _ (a8.o.1.ext (eR _).drew) (a8.o.2.1.ext (eR _).drew)) ?_;rintro e w9 ⟨r9,rfl,bG,bO⟩;obtain⟨a9,m9,c9,s9,b9,n9,k9,rfl⟩:=bG.form;refine⟨_,rfl,(cE f bO),fun f=>?_⟩;have X9:oa W8 w9:=(eR W8).drew.trans bO;refine Ec (i:=11) (cQ.o _ _ _ bG (a8.o.2.2.ext X9)) ?_;rintro e wa ⟨rfl,ae⟩;refine⟨_,rfl,(cE f ae),fun f=>?_⟩;refine sN 12 ?_
      (iterate 2 refine Fc ?_);refine oN ?_;refine Wd ?_;have Xa:=ia (cS.o.trans (X9.trans ae));clear f X9 ae bO bG;go_wp2;go_meet;exact Xa.o
     ·go_wp2;go_meet;exact D6
    ·go_wp2;go_meet;exact eR _
   case rest =>
    have aG:oa w5 wc:=hcut;have k0:=aG.d k0;have k1:=aG.d k1;have cn:ao<wc.heap.size:=Nat.lt_of_lt_of_le P aG.size;have bZ:=ia (aL.o (-100000) (-100000) 100000 100000 (by unfold ie;omega));have af:=fun h=>Zw sk (a:=ps) h;have bw:=Fq (Ui H0.o.1).1 R sk (show ie (-100000) (-100000) 100000 100000 by unfold ie;omega);obtain⟨Sa,ch⟩:=gX (Lc ((-100000:Int):Rat) ((100000:Int):Rat) ((-100000:Int):Rat) ((100000:Int):Rat) (Td sk ps));rw[ch]at bZ af bw;have bd:=ia af;have cc:=ia bw;have aM:=ia aG;clear af bw ch hcut aG p0 p1 q0 q1 u1 u2 dp dl aL;go_wp2_with(go_at_call 11;refine cM (bZ.o _ _ _ (HV.o.1.trans aM.o) (HV.o.2.2.1.i aM.o) (HV.o.2.2.2.i aM.o)) ?_;rintro e w6 ⟨r6,rfl,t,j⟩;obtain⟨a6,m6,c6,s6,b6,n6,k6,rfl⟩:=t.form;(have aT:=j.d k0);(have aU:=j.d k1);(have y1:ao<w6.heap.size:=Nat.lt_of_lt_of_le cn j.size));obtain⟨ab,ak⟩:=gX w6.heap.size;obtain⟨W7,aw⟩:=gX (w6.alloc (M #[O a6 m6 c6,J s6,O b6 n6 k6] 43));(have dk:W7.heap.size=ab+1:=by rw[<-aw,<-ak];simp);(have av:oa w6 W7:=by rw[<-aw];exact(eR _).alloc _);have bg:oa w5 W7:=(aM.o.trans j).trans av;(have cC:RB W7 ab Sa:=by rw[<-aw];exact RB.new t ak.symm);have bp:=HV.o.2.2.2.i bg;have ct:aj=ps.length:=Sl.len bp;have HN:=ia ct;have am:=ia (And.intro cC (And.intro bp (HV.o.1.trans bg)));have k0:=av.d aT;have k1:=av.d aU;have y1:ao<W7.heap.size:=Nat.lt_of_lt_of_le y1 av.size;have cf:=ia (And.intro k0 k1);rw[aw];simp only[ak];clear ak aw av bg cC bp ct t j aT aU k0 k1 cn P;(have dy:aj<=8:=by rw[HN.o];exact R);go_loopg [22] ps.length (FM W7 (ab+1) sk ps)
    case atStart=>exact⟨0,Nat.zero_le _,rfl,by omega,(eR _).alloc _,RB.new (La.zero _) dk.symm,fun p hp=>by cases hp⟩
    case round =>
     obtain⟨i,hi,rfl,rfl,hx,ad,ac⟩:=hrel;have k0:=hx.d cf.o.1;have k1:=hx.d cf.o.2;have d3:ao<wr.heap.size:=Nat.lt_of_lt_of_le y1 hx.size;have d4:=hx.size;by_cases db:i<ps.length
     ·obtain⟨p,aS⟩:∃p,ps[i]?=F p:=⟨ps[i]'db,by simp⟩;obtain⟨bq,o,v,rfl,dW,hv,c8,hc⟩:=(am.o.2.1.i hx).at' aS;have a0:=(Ui H0.o.1).1 p (lM aS);obtain⟨bJ,_⟩:=Vm a0;obtain⟨-,Sh,bH,-⟩:=Xm bJ;have aF:=jA sk (ps.take i) p;have bK:=Xf _ _ _ aS;rw[<-bK]at aF;have ay:∀q∈ps.take (i+1),q∈ps.take i\/q=p:=fun q hq=>by
       rw[bK]at hq;rcases List.mem_append.1 hq with hq|hq
       ·exact .inl hq
       ·exact .inr (List.mem_singleton.1 hq)
      have cr:=Gt sk (a:=ps.take i) (fun q hq=>(Ui H0.o.1).1 q (List.mem_of_mem_take hq));(have c4:(ps.take i).length<=8:=by rw[List.length_take];omega);have au:=ia (And.intro ac ay);have ar:=ia (fun(W:I)(hW:oa wr W)=>fK W p.name v p.shape p.depth p.density p.gx p.gz (hv.i hW) bJ);obtain⟨cJ,cK⟩:=Py bH Sh;have bD:=ux bH Sh;obtain⟨tw,cz⟩:=gX (Ib p.shape);rw[cz]at ar cJ cK bD aF;have b8:=ia (fun(W:I)=>PF W tw 2 oM oM oM oM oM);(have e2:Rat.divInt tw 2=(tw:Rat)/2:=by rw[Rat.divInt_eq_div];rfl);rw[e2]at b8;have aK:=ia (fun(W:I)(v1 K:N)(h1:La W v1 (Ag sk (ps.take i)))(h2:La W K ((tw:Rat)/2))=>Tl W v1 K _ _ h1 h2 (od (cr.up (k:=100) oM) dM) (od bD dM));obtain⟨dZ,aY⟩:=gX (Ag sk (ps.take i));rw[aY]at ad aK aF;have ce:=ia aF;have be:=ia ad;have Hx:=ia hx;obtain⟨cD,cF,rfl⟩:=hv.form;obtain⟨j1,cs⟩:=gX p.shape.length;rw[cs]at ar hc;obtain⟨nm,sh,de,dn,gx,gz,wy,ax,az,sn⟩:=p;unfold pe at hc;dsimp only at hc ar;have cU:=hc 0 (.string nm) rfl;have dE:=hc 1 (O cD j1 cF) rfl;have dF:=hc 2 (Z X de) rfl;have dG:=hc 3 (Z X dn) rfl;have dH:=hc 4 (Z X gx) rfl;have dI:=hc 5 (Z X gz) rfl;have dJ:=hc 6 (Z X wy) rfl;have dK:=hc 7 (Z X ax) rfl;have dL:=hc 8 (Z X az) rfl;have dN:=hc 9 (Z .u8 sn) rfl;simp only[Nat.add_zero]at cU;have p1:(0:Int)<=(i:Int):=oM;(have p2:(i:Int)<(aj:Int):=by have:=HN.o;omega);(have u1:IntKind.i64.wrap ((i:Int)+1)=((i+1:Nat):Int):=by rw[iW _ ⟨by omega,by omega⟩];rfl);obtain⟨sa,sm,sc,ss,bV,bX,bW,d0,d1,d2,dS,dU,dV,cL,aD⟩:=ad.rd;have cT:=ia aD;clear hc hv a0 bJ bH Sh aS bK ac ay cr c4 cJ cK bD e2 cz cs aY aF ad hx c8 aD;by_cases aX:98000<ax\/98000<az
      ·have cZ:98000<ax\/(¬98000<ax/\98000<az):=oM;clear aX;rcases cZ with cl|⟨cl,c0⟩
       all_goals
        go_wp2_with(go_at_call 7;refine cM (HA.o _ ((am.o.2.2.trans Hx.o).alloc _)) ?_;rintro e bY ⟨rfl,y⟩);go_ret;exact⟨rfl,((am.o.2.2.trans Hx.o).alloc _).trans y⟩
      ·have cl:¬98000<ax:=oM;have c0:¬98000<az:=oM;have aZ:∀q∈ps.take (i+1),q.ax<=98000/\q.az<=98000:=fun q hq=>by
        rcases au.o.2 q hq with h|h
        ·exact au.o.1 q h
        ·subst h;dsimp only;omega
       have aW:=ia aZ;have bA:(ii sk ⟨nm,sh,de,dn,gx,gz,wy,ax,az,sn⟩=true/\(sn==sk)=true)\/(ii sk ⟨nm,sh,de,dn,gx,gz,wy,ax,az,sn⟩=true/\(sn==sk)=false/\(sn==3)=true)\/(ii sk ⟨nm,sh,de,dn,gx,gz,wy,ax,az,sn⟩=false/\(sn==sk)=false/\(sn==3)=false):=by
        unfold ii;dsimp only;cases (sn==sk)<;>cases (sn==3)<;>simp
       clear aX aZ;rcases bA with ⟨ap,g1⟩|⟨ap,g1,g2⟩|⟨ap,g1,g2⟩
       rotate_left 2
       ·have e9:=ce.o;rw[ap,if_neg dM,Rat.add_zero]at e9;have E9:=ia e9;clear e9 ap;go_wp2;go_roundg (ps.length-(i+1))
        case measure=>omega
        case rel=>exact⟨i+1,by omega,by go_num,rfl,Hx.o.alloc _,by rw[E9.o];exact be.o.ext ((eR _).alloc _),aW.o⟩
       all_goals
        have e9:=ce.o;rw[if_pos ap]at e9;have E9:=ia e9;have ca:=ia (ar.o _ ((eR wr).alloc (M #[.string nm,O cD j1 cF,Z X de,Z X dn,Z X gx,Z X gz,Z X wy,Z X ax,Z X az,Z .u8 sn] 72)));clear e9 ap ar au;have dz:ab+1<wr.heap.size+1:=oM;go_wp2_with(first|(go_at_call 25;(with_reducible refine ca.o.mono ?_);rintro e wa ⟨rfl,ae⟩)|(go_at_call 26;refine cM (b8.o _) ?_;rintro e wb ⟨rb,rfl,cw,dh⟩;obtain⟨ba,bm,bc,bs,dB,dD,dC,rfl⟩:=cw.form;(have Xb:oa wr wb:=(((eR wr).alloc _).trans ae).trans dh);(have dP:=Xb.d d0);(have dQ:=Xb.d d1);(have dR:=Xb.d d2);(have zb:ab+1<wb.heap.size:=Nat.lt_of_lt_of_le cL Xb.size))|(go_at_call 24;refine cM (aK.o _ _ _ (cT.o.ext (Xb.alloc _)) (cw.ext ((eR _).alloc _))) ?_;rintro e wd ⟨rd,rfl,cx,di⟩;obtain⟨da,dm,dc,ds,cV,cX,cW,rfl⟩:=cx.form;(have Xd:oa wr wd:=(Xb.alloc _).trans di);obtain⟨_,_,_,_,_,_,_,o0,o1,o2,d5,d6,d7,zo,_⟩:=(be.o.ext Xd).rd));obtain⟨W',cj⟩:∃W',((wd.setCell ⟨ab+1,0,Y⟩ (O da dm dc)).setCell ⟨ab+1,1,Y⟩ (J ds)).setCell ⟨ab+1,2,Y⟩ (O cV cX cW)=W':=⟨_,rfl⟩;obtain⟨q1,-,-,-,q5⟩:=(be.o.ext Xd).put3 cx cj;have Q:=ia (And.intro (q5 W7 (Hx.o.trans Xd) oM) q1);rw[cj];go_roundg (ps.length-(i+1))
        case measure=>omega
        case rel=>exact⟨i+1,by omega,by go_num,rfl,Q.o.1,by rw[E9.o];exact Q.o.2,aW.o⟩
     ·have e1:ps.take i=ps:=lT oM;rw[e1]at ad ac;(have p3:¬(i:Int)<(aj:Int):=by have:=HN.o;omega);have hh:=Gt sk (a:=ps) (fun q hq=>(Ui H0.o.1).1 q hq);have co:=bd.o (fun q hq=>⟨(Ui H0.o.1).1 q hq,ac q hq⟩);rw[<-co]at ad;obtain⟨sa,sm,sc,ss,bV,bX,bW,d0,d1,d2,_,_,_,cL,aD⟩:=ad.rd;obtain⟨ta,tm,tc,ts,cG,cI,cH,t0,t1,t2,_,_,_,ea,aE⟩:=(am.o.1.ext hx).rd;have cR:=ia (Fz Sa▸Mi wr _ _ Sa Sa aE aD (od cc.o dM) (od cc.o dM));have Hx:=ia hx;clear aD aE co hh e1 ac ad;go_wp2_with(first|(go_at_call 21;(with_reducible refine cR.o.mono ?_);rintro e wa ⟨rfl,ae⟩)|(go_at_call 7;refine cM (HA.o _ ((am.o.2.2.trans Hx.o).trans ae)) ?_;rintro e bY ⟨rfl,y⟩));go_ret;exact⟨rfl,((am.o.2.2.trans Hx.o).trans ae).trans y⟩
  ·obtain⟨E,bo⟩:=gX (yd g ps sk (px,lo) (qx,hi));have HE:=ia bo;have hb:(E != 0)=true:=by rw[<-bo];simpa using hE
   clear hE bo;go_in;go_wp2_with(first|(go_at_call 6;refine cM (HF.o _ eA) ?_;rintro e w1 ⟨rfl,n⟩;have X1:oa w w1:=eA;obtain⟨⟨bz,bB⟩,aH,aI,aJ⟩:=oc w n)|(go_at_call 8;refine cM (cb.o _ X1) ?_;rintro e w2 ⟨dw,dx,rfl,ag,ah,l⟩;obtain⟨⟨bk,bn,bl,rfl⟩,bT,aj,bU,rfl⟩:=And.intro (Ia ag) (Ia ah.pls);have X2:oa w w2:=X1.trans l;obtain⟨cm,cp⟩:=l.cells;(have cP:=l.size);(have cN:w.heap.size+1+1<w2.heap.size:=oM);(have cO:w.heap.size+1<w2.heap.size:=oM))|((go_at_call 11;refine cM (al.o _ _ _ px lo qx hi eA (ag.i ((eR _).alloc _)) (ah.pls.i ((eR _).alloc _))) ?_;rintro e w3 ⟨r3,rfl,aq,x⟩;obtain⟨a3,m3,c3,s3,b3,n3,k3,rfl⟩:=aq.form);rw[HE.o])|(go_at_call 7;refine cM (HA.o _ (((X2.alloc _).trans x).alloc _)) ?_;rintro e bY ⟨rfl,y⟩));go_ret;exact⟨rfl,(((X2.alloc _).trans x).alloc _).trans y⟩
