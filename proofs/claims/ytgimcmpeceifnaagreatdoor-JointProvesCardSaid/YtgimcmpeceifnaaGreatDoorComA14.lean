import Derived.Test.YtgimcmpeceifnaaGreatDoorComA13
set_option maxRecDepth 1000000
set_option maxHeartbeats 16000000
set_option linter.all false
open Go.Value renaming slice->O,int->Z,bool->J,pointer->C,agg->Q
open Option renaming none->Y,some->G
open Go.IntKind renaming i64->I
open Go renaming World->N,Value->F,Addr->T
open Go.Obj renaming cells->H
namespace Go.Proofs.YtgimcmpeceifnaaGreatDoor.Cop
section
open Go.RowKit Go.Shelf
attribute [local go_sem] Oper.semAt_some
def jj(e:Al):Int×Int:=
 ((e.2.1-e.1.1).tdiv (Nat.gcd (e.2.1-e.1.1).natAbs (e.2.2-e.1.2).natAbs:Nat),(e.2.2-e.1.2).tdiv (Nat.gcd (e.2.1-e.1.1).natAbs (e.2.2-e.1.2).natAbs:Nat))
def Yd(l:Int)(x a:Rat)(e:Al):Bool:=
 decide (yd x ((e.1.1:Int):Rat)<0) || (decide (yd x ((e.1.1:Int):Rat)=0)&&(decide (l<e.1.1)&&decide (0<=yd x a)))
def Zd(ps:LP)(x a:Rat):Int×Int:=((Wg ps).takeWhile fun e=>!Yd (ub ps) x a e).foldl (fun _ e=>jj e) (0,0)
def Ku(e:Al):Prop:=(Bd 104000 e.1.1/\Bd 104000 e.1.2/\Bd 104000 e.2.1/\Bd 104000 e.2.2)/\e.1.1<=e.2.1/\e.1≠e.2
abbrev BF:={ e:Al // Ku e }
def gi(ps:LP):Prop:=∀e∈Wg ps,e.1.1<=e.2.1/\e.1≠e.2
def pU(s:Nat)(e:BF)(a:Act)(W:N):Prop:=
 ∃B,s+1+1+1+1+1+1<=B/\W.heap[B]?=G (H #[Z I e.1.1.1,Z I e.1.1.2] 91 (0,0))/\W.heap[B+1]?=G (H #[Z I e.1.2.1,Z I e.1.2.2] 91 (0,0))/\
  a.tmps.size=73/\a.tmps.getD 3 undef=C (G ⟨s,0,Y⟩)/\a.tmps.getD 4 undef=C (G ⟨s+1,0,Y⟩)/\a.tmps.getD 5 undef=C (G ⟨s+1+1,0,Y⟩)/\a.tmps.getD 7 undef=C (G ⟨s+1+1+1+1,0,Y⟩)/\
  a.tmps.getD 8 undef=C (G ⟨B,0,Y⟩)/\a.tmps.getD 9 undef=C (G ⟨B+1,0,Y⟩)/\a.defers=[]
def vm(w:N)(v:F)(x a:Rat)(o:Int×Int)(W:N):Prop:=
 Ba w W/\w.heap.size+1+1+1+1+1+1<=W.heap.size/\W.heap[w.heap.size]?=G (H #[v] 146 (0,0))/\RB W (w.heap.size+1) x/\RB W (w.heap.size+1+1) a/\
  W.heap[w.heap.size+1+1+1]?=G (H #[Z I 0,Z I 0] 91 (0,0))/\W.heap[w.heap.size+1+1+1+1]?=G (H #[Z I o.1,Z I o.2] 91 (0,0))
def WG(w:N)(v:F)(l:Int)(x a:Rat)(pre:List BF)(W:N):Prop:=
 vm w v x a (pre.foldl (fun _ e=>jj e.1) (0,0)) W/\∀e∈pre,Yd l x a e.1=false
def oU(w:N)(v:F)(l:Int)(x a:Rat)(c:Code)(pre:List BF)(W:N):Prop:=
 c = .exit 0/\∃(p:List BF)(e:BF),pre=p++[e]/\vm w v x a (p.foldl (fun _ e=>jj e.1) (0,0)) W/\(∀e∈p,Yd l x a e.1=false)/\Yd l x a e.1=true
def vm.ext{w v x a o W W'}(h:vm w v x a o W)(k:Ba W W'):vm w v x a o W':=
 ⟨h.1.trans k,nT h.2.1 k.size,k.e h.2.2.1,h.2.2.2.1.ext k,h.2.2.2.2.1.ext k,k.e h.2.2.2.2.2.1,k.e h.2.2.2.2.2.2⟩
def vm.sim{w v x a o W W' B}(h:vm w v x a o W)(k:jk B W W')(b:w.heap.size<=B):vm w v x a o W':=
 ⟨k.ext h.1 b,nT h.2.1 k.size,k.heap h.2.2.1,h.2.2.2.1.sim k,h.2.2.2.2.1.sim k,k.heap h.2.2.2.2.2.1,k.heap h.2.2.2.2.2.2⟩
def vm.put{w v x d o W}(h:vm w v x d o W) a:vm w v x d a ((W.setCell ⟨w.heap.size+1+1+1+1,0,Y⟩ (Z I a.1)).setCell ⟨w.heap.size+1+1+1+1,1,Y⟩ (Z I a.2)):=by
 obtain⟨f,g,i,j,k,h6,c⟩:=h;have b:ud 2 W (w.heap.size+1+1+1+1):=by intro l m e;rw[c]at e;cases e
 refine⟨(f.set dO _).set dO _,by simp only[fg];exact g,?_,(j.other dO b _).other dO (b.set _ _) _,(k.other dO b _).other dO (b.set _ _) _,?_,?_⟩
 ·rw[bS _ _ _ _ dO,bS _ _ _ _ dO];exact i
 ·rw[bS _ _ _ _ dO,bS _ _ _ _ dO];exact h6
 ·have:=Sk (Sk c 0 (Z I a.1)) 1 (Z I a.2);exact this
def VL{ps x d f}(c:f.map (fun e=>e.1)=Wg ps){p}{e:BF}(l:p++[e] <+: f)(k:∀e∈p,Yd (ub ps) x d e.1=false)(j:Yd (ub ps) x d e.1=true):Zd ps x d=p.foldl (fun _ e=>jj e.1) (0,0):=by
 obtain⟨t,rfl⟩:=l;unfold Zd;rw[<-c,List.append_assoc,List.map_append,List.takeWhile_append_of_pos (by
  intro a g;obtain⟨b,i,rfl⟩:=List.mem_map.1 g;simp[k b i])]
 rw[show ([e]++t).map (fun e:BF=>e.1)=e.1::t.map (fun e=>e.1)from rfl,List.takeWhile_cons_of_neg (by simp[j]),List.append_nil,List.foldl_map]
def VN{ps x f}{c:List BF}(d:c.map (fun e=>e.1)=Wg ps)(j:∀e∈c,Yd (ub ps) x f e.1=false):Zd ps x f=c.foldl (fun _ e=>jj e.1) (0,0):=by
 unfold Zd;have h:=List.takeWhile_append_of_pos (p:=fun e=>!Yd (ub ps) x f e) (l₁:=c.map fun e=>e.1) (l₂:=[]) (by
  intro a g;obtain⟨b,i,rfl⟩:=List.mem_map.1 g;simp[j b i])
 rw[List.append_nil,List.takeWhile_nil,List.append_nil]at h;rw[<-d,h,List.foldl_map]
def Au(w:N)(p:Int×Int)(e:Ending)(w':N):Prop:=e=.returned (Q #[Z I p.1,Z I p.2])/\Ba w w'
def Py w v vx vr ps x rt(h:Ia w v ps)(am:ke ps)(a9:gi ps)(hx:Fb w vx x)(hb:Rb 1000 x)(hr:Fb w vr rt)(a0:Rb 1000 rt):Calls Tryz.prog 187 #[v,vx,vr] w (Au w (Zd ps x rt)):=by
 have HL:=za (fun W (hW:Ba w W)=>Yp W v ps (h.f hW) (List.length_pos_iff.2 am.1));obtain⟨a,c,rfl⟩:=h.form;obtain⟨xa,xm,xc,xs,bI,bK,bJ,rfl⟩:=hx.form;obtain⟨ya,ym,yc,ys,bL,bN,bM,rfl⟩:=hr.form;have Hb:=za hb;have bi:=za a0;have bP:=za am;obtain⟨n,hn⟩:=gX ps.length;rw[hn]at h HL ⊢;have Hn:=za hn;obtain⟨es,a1⟩:∃es:List BF,es.map (fun e=>e.1)=Wg ps:=⟨(Wg ps).attachWith Ku (fun e he=>⟨Vw am.2.1 he,a9 e he⟩),Nt _⟩;have aU:=za a1;clear hb a0 am hn a9;refine(callsIn_wide (n:=5)).1 ?_;refine callsIn_of_wp_marks Tryz.func187 rfl trivial ?_ rfl;simp only[Tryz.ntmps187,List.size_toArray,List.length_cons,List.length_nil,Nat.reduceAdd,Nat.reduceSub,Array.replicate_succ,Array.replicate_zero,List.push_toArray,List.append_toArray,List.nil_append,List.cons_append]
 gi_wp2_with(refine⟨trivial,?_⟩;gi_at_call 224;refine(callsIn_wide.2 (IE _ _ _ _)).mono ?_;rintro e w' ⟨rfl,rfl⟩)
 obtain⟨W0,f⟩:=gX (((((((w.alloc (H #[O a n c] 146)).alloc (H #[O xa xm xc,J xs,O bI bK bJ] 181)).alloc (H #[O ya ym yc,J ys,O bL bN bM] 181)).alloc (H #[Z I 0,Z I 0] 91)).alloc (H #[Z I 0,Z I 0] 91)).alloc (H #[O a n c] 146)));have ba:Ba w W0:=by rw[<-f];exact((((((eR w).alloc _).alloc _).alloc _).alloc _).alloc _).alloc _
 have b1:W0.heap.size=w.heap.size+1+1+1+1+1+1:=by rw[<-f];simp
 have bs:W0.cell? ⟨w.heap.size+1+1+1+1+1,0,Y⟩=G (O a n c):=by rw[<-f,World.cell?_alloc_at _ _ _ _ sM];rfl
 have bq:WG w (O a n c) (ub ps) x rt [] W0:=by
  refine⟨⟨ba,by omega,?_,?_,?_,?_,?_⟩,fun e he=>by cases he⟩
  ·rw[<-f];exact(((((eR _).alloc _).alloc _).alloc _).alloc _).alloc _ |>.e (aN w _)
  ·rw[<-f];exact(RB.new (hx.ext ((eR w).alloc _)) sM).ext (((((eR _).alloc _).alloc _).alloc _).alloc _)
  ·rw[<-f];exact(RB.new (hr.ext (((eR w).alloc _).alloc _)) sM).ext ((((eR _).alloc _).alloc _).alloc _)
  ·rw[<-f];exact((eR _).alloc _).alloc _ |>.e (mc _ _ _ sM)
  ·rw[<-f];exact(eR _).alloc _ |>.e (mc _ _ _ sM)
 rw[f];clear f;refine wpIn_rangeFunc_ownH rfl dM (gf:=263) (lb:=#[C (G ⟨w.heap.size+1+1+1+1+1,0,Y⟩)]) rfl trivial (enters_of Tryz.func263 kM rfl)
  (GG (fun e:BF=>e.1) _ dM (w.heap.size+1+1+1+1+1) w _ _ ps es a1 bs oM h ba) Qe.trans (Qe.put oM oM) (Below.refl _ _) (fun _=>rfl)
  (WG w (O a n c) (ub ps) x rt) (oU w (O a n c) (ub ps) x rt) (Qk (fun s W h=>by have:=h.1.2.1;omega) (fun s W W' h k=>⟨h.1.sim k oM,h.2⟩)) (fun c=>Qk (fun s W h=>by obtain⟨_,_,_,_,h,_⟩:=h;have:=h.2.1;omega) (fun s W W' h k=>by obtain⟨h0,p,e,h1,h2,h3,h4⟩:=h;exact⟨h0,p,e,h1,h2.sim k oM,h3,h4⟩)) bq
  (fun e a' W=>pU w.heap.size e a' W) (fun e a'=>Qk (fun s W h=>by obtain⟨B,h1,h2,h3,_⟩:=h;have:=Ya h2;omega) (fun s W W' h k=>by obtain⟨B,h1,h2,h3,h4⟩:=h;exact⟨B,h1,k.heap h2,k.heap h3,h4⟩)) ?assign ?body ?done ?stop
 case assign =>
  rintro l pre e W K hI hK;unfold Wm
  gi_wp2
  have hE:Ba W ((W.alloc (H #[Z I e.1.1.1,Z I e.1.1.2] 91)).alloc (H #[Z I e.1.2.1,Z I e.1.2.2] 91)):=((eR W).alloc _).alloc _;refine hK _ _ (((KeepsOthers.alloc _ _).trans (KeepsOthers.alloc _ _)).from _) ((Qe.refl _ _ W).ext hE hI.1.1.size (by have:=hI.1.2.1;omega)) ⟨hI.1.ext hE,hI.2⟩ ⟨W.heap.size,hI.1.2.1,Iy W _ _,Up W _ _,rfl,rfl,rfl,rfl,rfl,rfl,rfl,rfl⟩
 case body =>
  rintro l pre e a' W hl ⟨r,b0⟩ hI hA bW;obtain⟨tt,dd⟩:=a';obtain⟨B,hB,q1,q2,g0,g3,g4,g5,g7,g8,g9,gd⟩:=hA;dsimp only at g0 g3 g4 g5 g7 g8 g9 gd;subst gd;obtain⟨u,hu,ht⟩:=Qf tt 73 g0;simp only[hu]at g3 g4 g5 g7 g8 g9;clear hu;subst ht;simp only[List.range,List.range.loop,List.map_cons,List.map_nil,g3,g4,g5,g7,g8,g9];clear g0 g3 g4 g5 g7 g8 g9;obtain⟨⟨⟨d,az⟩,bx,bz⟩,⟨aq,a2,a5⟩⟩:=e;dsimp only at q1 q2 aq a2 a5 ⊢;obtain⟨⟨h1,h2,h3,h4,h5,h6,h7⟩,j⟩:=hI;have aY:vm w (O a n c) x rt (pre.foldl (fun _ e=>jj e.1) (0,0)) W:=⟨h1,h2,h3,h4,h5,h6,h7⟩;have ai:=za aY;have ac:=za j;obtain⟨ae,ag,af,ah,L,aa,R,r0,r1,r2,_,_,_,zr,bf⟩:=h4.rd;obtain⟨ta,tm,tc,ts,aJ,aL,aK,t0,t1,t2,_,_,_,zt,be⟩:=h5.rd;have l0:=Aa h3 0 (O a n c);have e0:=Aa q1 0 (Z I d);have z1:=Ya q1;have z2:=Ya q2;have aO:=za q1;have aP:=za q2;obtain⟨aj,bm,bn,bo⟩:=aq;have aW:=Ai (k:=104000) (n:=d) aj;have an:=za aW;have aR:=za (fun W=>mm W d (by unfold Bd at aj;omega) (by unfold Bd at aj;omega));have aC:=za bf;have bj:=za be;have aM:=za (fun W' (hW:Ba W W')=>HL.o W' (h1.trans hW));obtain⟨T1,aE⟩:=gX (yd x ((d:Int):Rat));have aQ:=za aE;obtain⟨T2,aF⟩:=gX (yd x rt);have bh:=za aF;obtain⟨lf,al⟩:=gX (ub ps);rw[al]at aM;have bO:=za al;have a8:Yd (ub ps) x rt ((d,az),bx,bz)=(decide (T1<0) || (decide (T1=0)&&(decide (lf<d)&&decide (0<=T2)))):=by unfold Yd;dsimp only;rw[aE,aF,al]
  have aV:=za a8;have bt:0<=bx-d/\bx-d<=208000:=by unfold Bd at aj bn;omega
  have bu:-208000<=bz-az/\bz-az<=208000:=by unfold Bd at bm bo;omega
  obtain⟨z,au⟩:=gX (bx-d);obtain⟨m,av⟩:=gX (bz-az);rw[au]at bt;rw[av]at bu;obtain⟨t,ak⟩:∃g:Nat,Nat.gcd z.natAbs m.natAbs=g:=⟨_,rfl⟩;have bQ:0<t:=by
   rw[<-ak];rcases Nat.eq_zero_or_pos (Nat.gcd z.natAbs m.natAbs)with h|h
   ·exfalso;obtain⟨q1,q2⟩:=Nat.gcd_eq_zero_iff.1 h;apply a5;have:=Int.natAbs_eq_zero.1 q1;have:=Int.natAbs_eq_zero.1 q2;exact Prod.ext dO dO
   ·exact h
  have aS:=za (fun W'=>show Calls Tryz.prog 225 #[Z I z,Z I (max m (-m))] W' (fun e w'=>e=.returned (Z I (t:Nat))/\Ba W' w') by
   have h:=YS W' z.natAbs m.natAbs oM oM;rw[ak,show ((z.natAbs:Nat):Int)=z by omega,show ((m.natAbs:Nat):Int)=max m (-m) by omega]at h;exact h)
  have ar:jj ((d,az),bx,bz)=(z.tdiv t,m.tdiv t):=by unfold jj;dsimp only;rw[au,av,ak]
  have aT:=za ar;have bY:(z.tdiv (t:Int)).natAbs<=208000:=by rw[Int.natAbs_tdiv];exact nT (Nat.div_le_self _ _) oM
  have bZ:(m.tdiv (t:Int)).natAbs<=208000:=by rw[Int.natAbs_tdiv];exact nT (Nat.div_le_self _ _) oM
  clear ar ak;have aX:Da [(⟨w.heap.size+1,0,Y⟩,O ae ag af),(⟨w.heap.size+1,1,Y⟩,J ah),(⟨w.heap.size+1,2,Y⟩,O L aa R),(⟨w.heap.size+1+1,0,Y⟩,O ta tm tc),(⟨w.heap.size+1+1,1,Y⟩,J ts),(⟨w.heap.size+1+1,2,Y⟩,O aJ aL aK),(⟨w.heap.size,0,Y⟩,O a n c),(⟨B,0,Y⟩,Z I d)] W.drew:=
   ⟨r0,r1,r2,t0,t1,t2,l0,e0,trivial⟩
  have bg:=za aX;clear aY j h3 h4 h5 h6 h7 r0 r1 r2 t0 t1 t2 l0 e0 bf be aE aF al a8 aX aW q1 q2
  gi_wp2
  refine Mr (S:=Da [(⟨w.heap.size+1,0,Y⟩,O ae ag af),(⟨w.heap.size+1,1,Y⟩,J ah),(⟨w.heap.size+1,2,Y⟩,O L aa R),(⟨w.heap.size+1+1,0,Y⟩,O ta tm tc),(⟨w.heap.size+1+1,1,Y⟩,J ts),(⟨w.heap.size+1+1,2,Y⟩,O aJ aL aK),(⟨w.heap.size,0,Y⟩,O a n c),(⟨B,0,Y⟩,Z I d)]) kM kM bg.o (fun b=>?_);refine sN 0 ?_
  iterate 3 refine Db ?_
  refine oN ?_;refine Ac (i:=3) (aR.o _) ?_;rintro e w3 ⟨v3,rfl,a7,aI⟩;obtain⟨a3,m3,c3,s3,b3,n3,k3,rfl⟩:=a7.form;refine⟨_,rfl,(cE b aI),fun b=>?_⟩;have ab:=za (Sn w3 (Q #[O ae ag af,J ah,O L aa R]) (Q #[O a3 m3 c3,J s3,O b3 n3 k3]) x ((d:Int):Rat) (aC.o.ext ((eR W).drew.trans aI)) a7 (Hb.o.mono dM) (an.o.mono dM));rw[aQ.o]at ab;refine Ac (i:=4) ab.o ?_;rintro e w4 ⟨rfl,bb⟩;refine⟨_,rfl,(cE b bb),fun b=>?_⟩;have X4:Ba W w4:=((eR W).drew.trans aI).trans bb;clear ab;by_cases hn:T1<0
  ·have y:Yd (ub ps) x rt ((d,az),bx,bz)=true:=by rw[aV.o,decide_eq_true hn];rfl
   refine sN 5 ?_
   iterate 2 refine Db ?_
   iterate 19 refine Ze ?_
   refine Db ?_;refine oN ?_;refine Pb ?_;unfold NQ
   gi_wp2
   exact⟨Yo X4,rfl,pre,_,rfl,ai.o.ext X4,ac.o,y⟩
  have hc:((T1==0)=false/\Yd (ub ps) x rt ((d,az),bx,bz)=false)\/(T1=0/\¬lf<d/\Yd (ub ps) x rt ((d,az),bx,bz)=false)\/(T1=0/\lf<d/\¬0<=T2/\Yd (ub ps) x rt ((d,az),bx,bz)=false)\/(T1=0/\lf<d/\0<=T2/\Yd (ub ps) x rt ((d,az),bx,bz)=true):=by
   rw[aV.o,decide_eq_false hn,Bool.false_or];by_cases h1:T1=0<;>by_cases h2:lf<d<;>by_cases h3:0<=T2<;>simp[h1,h2,h3]
  rcases hc with ⟨bX,y⟩|⟨rfl,a4,y⟩|⟨rfl,a4,ht,y⟩|⟨rfl,a4,ht,y⟩
  all_goals
   refine sN 5 ?_
   iterate 5 refine Db ?_
   refine oN ?_;refine Ac (i:=10) (aR.o _) ?_;rintro e bE ⟨b8,rfl,aw,ad⟩;obtain⟨bk,bB,bp,bD,bl,bC,bA,rfl⟩:=aw.form;refine⟨_,rfl,(cE b ad),fun b=>?_⟩;have ab:=za (Sn bE (Q #[O ae ag af,J ah,O L aa R]) (Q #[O bk bB bp,J bD,O bl bC bA]) x ((d:Int):Rat) (aC.o.ext (X4.trans ad)) aw (Hb.o.mono dM) (an.o.mono dM));rw[aQ.o]at ab;refine Ac (i:=11) ab.o ?_;rintro e bF ⟨rfl,ay⟩;refine⟨_,rfl,(cE b ay),fun b=>?_⟩;have hX:Ba W bF:=(X4.trans ad).trans ay;clear ab;refine sN 12 ?_
   iterate 2 refine Db ?_
   refine oN ?_
   first|(refine Pa (i:=14) ?_;refine Pa (i:=15) ?_;refine Pa (i:=16) ?_;refine Pa (i:=17) ?_;refine Pa (i:=18) ?_)|(refine La (i:=14) ?_;refine La (i:=15) ?_;refine La (i:=16) ?_;refine Ac (i:=17) (aM.o _ hX) ?_;rintro e bG ⟨rfl,aA⟩;refine⟨_,rfl,(cE b aA),fun b=>?_⟩;replace hX:Ba W bG:=hX.trans aA;refine La (i:=18) ?_)
   refine sN 19 ?_
   iterate 2 refine Db ?_
   refine oN ?_
   first|(refine Pa (i:=21) ?_;refine Pa (i:=22) ?_;refine Pa (i:=23) ?_;refine Pa (i:=24) ?_)|(refine La (i:=21) ?_;refine La (i:=22) ?_;have ao:=za (Sn _ (Q #[O ae ag af,J ah,O L aa R]) (Q #[O ta tm tc,J ts,O aJ aL aK]) x rt (aC.o.ext hX) (bj.o.ext hX) (Hb.o.mono dM) (bi.o.mono dM));rw[bh.o]at ao;refine Ac (i:=23) ao.o ?_;rintro e bH ⟨rfl,aB⟩;refine⟨_,rfl,(cE b aB),fun b=>?_⟩;replace hX:Ba W bH:=hX.trans aB;refine La (i:=24) ?_)
   refine sN 25 ?_
   iterate 2 refine Db ?_
   refine oN ?_;refine Pb ?_;unfold NQ
  rotate_left 3
  ·gi_wp2
   exact⟨Yo hX,rfl,pre,_,rfl,ai.o.ext hX,ac.o,y⟩
  all_goals
   rename N=>wz
   have b4:=Aa (hX.e aO.o) 0 (Z I d);have b5:=Aa (hX.e aO.o) 1 (Z I az);have b6:=Aa (hX.e aP.o) 0 (Z I bx);have b7:=Aa (hX.e aP.o) 1 (Z I bz)
   gi_wp2
   refine⟨trivial,CallsIn.mono (CallsIn.inRound l (callsIn_wide.2 (aS.o _))) ?_⟩;rintro e w5 ⟨rfl,bc⟩;dsimp only;have aZ:=bc.e (aN wz (H #[Z I z,Z I m] 91));have d0:=Aa aZ 0 (Z I z);have d1:=Aa aZ 1 (Z I m);have X5:Ba W w5:=(hX.alloc _).trans bc;have bT:¬((t:Nat):Int)=0:=oM;have bV:¬t=0:=oM;have bU:(((t:Nat):Int)==0)=false:=by simp;omega
   have u1:IntKind.i64.wrap (z.tdiv t)=z.tdiv t:=iW _ ⟨by omega,by omega⟩;have u2:IntKind.i64.wrap (m.tdiv t)=m.tdiv t:=iW _ ⟨by omega,by omega⟩;have aH:=(ai.o.ext X5).2.2.2.2.2.2;have o0:=Lb aH (i:=0) rfl;have o1:=Lb aH (i:=1) rfl;have of:=Za aH;have b2:w.heap.size+1+1+1+1<wz.heap.size:=by have:=hX.size;omega
   have ap:=za (show ∀q∈[((⟨wz.heap.size,0,Y⟩:T),Value.int I z),(⟨wz.heap.size,1,Y⟩,Z I m)],w.heap.size+1+1+1+1≠q.1.block from fun q hq h=>by
    simp at hq;rcases hq with rfl|rfl<;>(dsimp only at h;omega))
   gi_wp2
   refine Mr (S:=Da [(⟨wz.heap.size,0,Y⟩,Z I z),(⟨wz.heap.size,1,Y⟩,Z I m)]) kM kM ⟨d0,d1,trivial⟩ (fun b=>?_);refine sN 0 ?_
   iterate 9 refine Db ?_
   refine oN ?_;refine Te (i:=9) fun K hK=>?_;go_simp;refine kO hK (Da.set (p:=⟨w.heap.size+1+1+1+1,1,Y⟩) (Da.set (p:=⟨w.heap.size+1+1+1+1,0,Y⟩) b ap.o _) ap.o _) (fun b=>?_);clear hK K;refine Pb ?_;unfold NQ;have br:=(ai.o.ext X5.drew).put (z.tdiv t,m.tdiv t);have bv:KeepsFrom W0.heap.size W ((w5.drew.setCell ⟨w.heap.size+1+1+1+1,0,Y⟩ (Z I (z.tdiv t))).setCell ⟨w.heap.size+1+1+1+1,1,Y⟩ (Z I (m.tdiv t))):=((Yo X5.drew).trans ((KeepsOthers.setCell _ _ _).from _)).trans ((KeepsOthers.setCell _ _ _).from _);have bw:Qe w (w.heap.size+1+1+1+1+1) W ((w5.drew.setCell ⟨w.heap.size+1+1+1+1,0,Y⟩ (Z I (z.tdiv t))).setCell ⟨w.heap.size+1+1+1+1,1,Y⟩ (Z I (m.tdiv t))):=
    (((Qe.refl w _ W).ext X5.drew h1.size oM).set dO dO _).set dO dO _
   gi_wp2
   refine⟨bv,bw,?_,fun e he=>?_⟩
   ·rw[List.foldl_append,List.foldl_cons,List.foldl_nil];dsimp only;rw[aT.o];exact br
   ·rcases List.mem_append.1 he with he|he
    ·exact ac.o e he
    ·rw[List.mem_singleton.1 he];exact y
 case done =>
  rintro D ys W hD rfl ⟨⟨h1,h2,h3,h4,h5,h6,h7⟩,j⟩ hK;have hR:=VN aU.o j;obtain⟨⟨ox,oz⟩,ho⟩:∃o,ys.foldl (fun _ e=>jj e.1) ((0,0):Int×Int)=o:=⟨_,rfl⟩;rw[ho]at h7 hR;have HR:=za hR;have e0:=Aa h7 0 (Z I ox);have e1:=Aa h7 1 (Z I oz);have f0:=Aa h6 0 (Z I 0);have f1:=Aa h6 1 (Z I 0);have ff:=Za h6;clear hR ho
  gi_wp2
  have aD:=Sk (Sk h6 0 (Z I ox)) 1 (Z I oz);have X:=(h1.set (p:=⟨w.heap.size+1+1+1,0,Y⟩) dO (Z I ox)).set (p:=⟨w.heap.size+1+1+1,1,Y⟩) dO (Z I oz);refine tq [D] _ ⟨by simp,fun E hE=>?_⟩ (fun W' aG=>?_)
  ·rw[List.mem_singleton.1 hE,bS _ _ _ _ dO,bS _ _ _ _ dO];exact hK
  ·have hS:=aG w.heap.size (fun E hE=>by rw[List.mem_singleton.1 hE];omega);have h8:=hS.heap aD;have c0:=Aa h8 0 (Z I ox);have c1:=Aa h8 1 (Z I oz);refine⟨Q #[Z I ox,Z I oz],by simp[results,Tryz.results187,go_sem,c0,c1],?_⟩;rw[HR.o];exact⟨rfl,hS.ext X (nE _)⟩
 case stop =>
  rintro D c pre W hD a6 ⟨rfl,p,e,rfl,⟨h1,h2,h3,h4,h5,h6,h7⟩,j,y⟩ hK;have hR:=VL aU.o a6 j y;obtain⟨⟨ox,oz⟩,ho⟩:∃o,p.foldl (fun _ e=>jj e.1) ((0,0):Int×Int)=o:=⟨_,rfl⟩;rw[ho]at h7 hR;have HR:=za hR;have e0:=Aa h7 0 (Z I ox);have e1:=Aa h7 1 (Z I oz);have f0:=Aa h6 0 (Z I 0);have f1:=Aa h6 1 (Z I 0);have ff:=Za h6;clear hR ho
  gi_wp2
  have aD:=Sk (Sk h6 0 (Z I ox)) 1 (Z I oz);have X:=(h1.set (p:=⟨w.heap.size+1+1+1,0,Y⟩) dO (Z I ox)).set (p:=⟨w.heap.size+1+1+1,1,Y⟩) dO (Z I oz);refine tq [D] _ ⟨by simp,fun E hE=>?_⟩ (fun W' aG=>?_)
  ·rw[List.mem_singleton.1 hE,bS _ _ _ _ dO,bS _ _ _ _ dO];exact hK
  ·have hS:=aG w.heap.size (fun E hE=>by rw[List.mem_singleton.1 hE];omega);have h8:=hS.heap aD;have c0:=Aa h8 0 (Z I ox);have c1:=Aa h8 1 (Z I oz);refine⟨Q #[Z I ox,Z I oz],by simp[results,Tryz.results187,go_sem,c0,c1],?_⟩;rw[HR.o];exact⟨rfl,hS.ext X (nE _)⟩
end
section
open Go.RowKit Go.Shelf
def vR w d f b(o:b<0)(g:∃a n c,d=O a n c)(i:∃a n c,f=O a n c):Calls Tryz.prog 182 #[Q #[d,f],Z I b] w fun e j=>e=.returned d/\Ba w j:=by obtain⟨k,m,l,rfl⟩:=g;obtain⟨p,r,q,rfl⟩:=i;go_in;go_wp2;go_ret;exact⟨rfl,eA⟩
def KO w l m ps(i:Nat) p(x:∃a n c,l=O a n c)(d:od w m ps)(j:ps[i]?=G p):Calls Tryz.prog 182 #[Q #[l,m],Z I i] w fun e q=>∃v,e=.returned v/\Ia q v (Mb p)/\Ba w q:=by obtain⟨ga,gn,gc,rfl⟩:=x;obtain⟨sa,n,sc,rfl⟩:=Ma d;have z:=d.len;have g:=d.le;obtain⟨b,o,s,vl,vu,rfl,hb,t,u,f,k⟩:=d.at' j;obtain⟨K,R,L,rfl⟩:=Ma f;have W:=k 11 (O K R L) rfl;have y:=(lS.1 j).1;have p1:(0:Int)<=(i:Int):=oM;have p2:(i:Int)<(n:Int):=oM;have p3:i<n:=oM;have p4:¬(i:Int)<0:=oM;have r:=za f;clear d j k t u f z g y;go_in;go_wp2;go_ret;exact⟨_,rfl,r.o.f eA,eA⟩
def Ue(n:Nat)(i a:Int):Bool:=decide (i<0) || (decide ((n:Int)<=i) || (decide (a<0) || decide (50<a)))
def zO w j l n m i b(k:∃a n c,j=O a n c):Calls Tryz.prog 137 #[Q #[j,O l n m],Z I i,Z I b] w fun e o=>e=.returned (J (Ue n i b))/\Ba w o:=by
 obtain⟨p,r,q,rfl⟩:=k;by_cases d:i<0
 ·have e:Ue n i b=true:=by unfold Ue;simp[d]
  rw[e];go_in;go_wp2;go_ret;exact⟨rfl,eA⟩
 by_cases f:(n:Int)<=i
 ·have e:Ue n i b=true:=by unfold Ue;simp[f]
  rw[e];go_in;go_wp2;go_ret;exact⟨rfl,eA⟩
 by_cases g:b<0
 ·have e:Ue n i b=true:=by unfold Ue;simp[g]
  rw[e];go_in;go_wp2;go_ret;exact⟨rfl,eA⟩
 ·have e:Ue n i b=decide (50<b):=by unfold Ue;rw[decide_eq_false d,decide_eq_false f,decide_eq_false g];rfl
  rw[e];go_in;go_wp2;go_ret;exact⟨rfl,eA⟩
def GO(w:N) o a:((w.alloc o).alloc a).heap[w.heap.size+1]?=G a:=mc _ _ _ sM
def Ul(w:N)(v:F)(x z:Rat):Prop:=∃a m c s a2 m2 c2 b n k t b2 n2 k2,v=Q #[O a m c,J s,O a2 m2 c2,O b n k,J t,O b2 n2 k2]/\Fb w (Q #[O a m c,J s,O a2 m2 c2]) x/\Fb w (Q #[O b n k,J t,O b2 n2 k2]) z
def Ul.ext{w w' v x z}(h:Ul w v x z)(k:Ba w w'):Ul w' v x z:=by obtain⟨a,m,c,s,d,p,f,b,n,l,t,e,q,o,g,i,j⟩:=h;exact⟨a,m,c,s,d,p,f,b,n,l,t,e,q,o,g,i.ext k,j.ext k⟩
def Bz w vx x p m s vl vu(u:Fb w vx x)(hb:Rb 1000 x)(j:w.heap[m]?=G (H (tf p s vl vu) 202 (0,0)))(hl:Ia w vl (Ga p))(ac:ke (Ga p)):Calls Tryz.prog 185 #[vx,C (G ⟨m,0,Y⟩)] w fun e w'=>∃v,e=.returned v/\Ul w' v x (Rh (Ga p) x)/\Ba w w':=by
 have HA:=za (fun W (hW:Ba w W)=>Zw W vl vx (Ga p) x (hl.f hW) ac (u.ext hW) hb);obtain⟨z,R,L,xs,d,g,f,rfl⟩:=u.form;obtain⟨la,ln,lc,rfl⟩:=Ma hl;have ae:=Aa j 10 (O la ln lc);have zb:=Ya j;have af:m<w.heap.size+1:=oM;have ag:m<w.heap.size+1+1:=oM;obtain⟨q,t⟩:=gX (Rh (Ga p) x);rw[t]at HA ⊢;have Hx:=za u;clear hl j u t;go_in;go_wp2;refine jd [(⟨w.heap.size,0,Y⟩,O z R L),(⟨w.heap.size,1,Y⟩,J xs),(⟨w.heap.size,2,Y⟩,O d g f),(⟨m,10,Y⟩,O la ln lc)] cA fun c=>?_;refine sN 0 ?_
 iterate 4 refine Db ?_
 refine oN ?_;refine Ac (i:=4) (HA.o _ eA) ?_;rintro e y ⟨v3,rfl,k,l⟩;obtain⟨a3,m3,c3,s3,b3,n3,k3,rfl⟩:=k.form;refine⟨_,rfl,(cE c l),fun c=>?_⟩;refine La (i:=5) ?_;have b:=l.e (GO w (H #[O z R L,J xs,O d g f] 181) (H #[O Y 0 0,J false,O Y 0 0,O Y 0 0,J false,O Y 0 0] 183));have k0:=Aa b 0 (O Y 0 0);have k1:=Aa b 1 (J false);have k2:=Aa b 2 (O Y 0 0);have ad:=Aa b 3 (O Y 0 0);have k4:=Aa b 4 (J false);have k5:=Aa b 5 (O Y 0 0);have kf:=Za b;have o:Ba w y:=((((eR w).alloc _).alloc _).drew).trans l;have a:=za (show ∀q∈[((⟨w.heap.size,0,Y⟩:T),Value.slice z R L),(⟨w.heap.size,1,Y⟩,J xs),(⟨w.heap.size,2,Y⟩,O d g f),(⟨m,10,Y⟩,O la ln lc)],w.heap.size+1≠q.1.block from fun q t h=>by
  simp at t;rcases t with rfl|rfl|rfl|rfl<;>(dsimp only at h;omega))
 have aa:=za b;have n:=za o;have ab:=za k;clear b o k;refine Te (i:=6) fun K hK=>?_;go_simp;refine kO hK (Da.set (p:=⟨w.heap.size+1,5,Y⟩) (Da.set (p:=⟨w.heap.size+1,4,Y⟩) (Da.set (p:=⟨w.heap.size+1,3,Y⟩) (Da.set (p:=⟨w.heap.size+1,2,Y⟩) (Da.set (p:=⟨w.heap.size+1,1,Y⟩) (Da.set (p:=⟨w.heap.size+1,0,Y⟩) c a.o _) a.o _) a.o _) a.o _) a.o _) a.o _) (fun c=>?_);clear hK K;refine Pb ?_;go_wp2;have n0:ud 2 y (w.heap.size+1):=by intro cs fr e;rw[aa.o]at e;cases e
 have r:∀(u0 u1 u2 u3 u4 u5:F),Ja 2 y ((((((y.setCell ⟨w.heap.size+1,0,Y⟩ u0).setCell ⟨w.heap.size+1,1,Y⟩ u1).setCell ⟨w.heap.size+1,2,Y⟩ u2).setCell ⟨w.heap.size+1,3,Y⟩ u3).setCell ⟨w.heap.size+1,4,Y⟩ u4).setCell ⟨w.heap.size+1,5,Y⟩ u5):=fun u0 u1 u2 u3 u4 u5=>by
  repeat(first|with_reducible exact Ja.refl _ _|(with_reducible refine Ja.y ?_ ?_ _)|with_reducible exact n0|with_reducible refine ud.set ?_ _ _)
 refine bR (v:=Q #[O z R L,J xs,O d g f,O a3 m3 c3,J s3,O b3 n3 k3]) (by simp[results,Tryz.results185,go_sem,k0,k1,k2,ad,k4,k5,kf]) rfl ⟨_,rfl,⟨_,_,_,_,_,_,_,_,_,_,_,_,_,_,rfl,(Hx.o.ext n.o).keep (r _ _ _ _ _ _),ab.o.keep (r _ _ _ _ _ _)⟩,?_⟩
 repeat(first|with_reducible exact n.o|(with_reducible refine Ba.set ?_ dO _))
end
section
open Go.RowKit Go.Shelf
attribute [local go_sem] Oper.semAt_some
def Wj(o:Rat×Rat)(x:Rat):Rat×Rat:=(me (-1) [o.1,x],me 1 [o.2,x])
def Ec(f:Rat->Rat)(o:Rat×Rat)(x:Rat):Rat×Rat:=if (f x).num.sign<=0 then Wj o x else o
def Kj(f:Rat->Rat)(y x:Rat):Rat:=y+f y/(f y-f x)*(x-y)
def Ff(f:Rat->Rat)(o:Rat×Rat)(y x:Rat):Rat×Rat:=if (f x).num.sign*(f y).num.sign<0 then Wj o (Kj f y x)else o
def Jc(f:Rat->Rat)(a:List Rat)(o:Rat×Rat):Nat->Rat×Rat
 | 0=>o
 | i+1=>if i=0 then Ec f (Jc f a o i) (a.getD i 0)else Ff f (Ec f (Jc f a o i) (a.getD i 0)) (a.getD (i-1) 0) (a.getD i 0)
def Ae(s:Sp)(a:Int)(x:Rat):Rat:=Qb s x-(a:Rat)
def Xc(s:Sp)(a:Int):Bool:=decide ((Sa s).2.num.sign<0) || decide (0<yd (Sa s).2 (a:Rat))
def Wc(s:Sp)(a:Int):Option (Rat×Rat):=
 if Xc s a=true then Y else G (Jc (Ae s a) (Zb s) ((Sa s).1,(Sa s).1) (Zb s).length)
def Rb.up{j k q}(h:Rb j q)(a:j<=k):Rb k q:=by exact⟨h.1.mono a,h.2.mono a⟩
def GE{P:Rat->Prop} way{p q}(a:P p)(b:P q):P (me way [p,q]):=by show P (Ke way p q);rcases YE way p q with e|e<;>rw[e]<;>assumption
def Rb.wid{k o x}(h:Rb k o.1/\Rb k o.2)(a:Rb k x):Rb k (Wj o x).1/\Rb k (Wj o x).2:=⟨GE _ h.1 a,GE _ h.2 a⟩
def Rb.pin_g{s a x}(c:Rb 1 x)(h:Qg s)(b:Bd 104000 a):Rb 47 (Ae s a x):=
 (Rb.gap c h).sub (Rb.int (by unfold Bd at b;unfold Lm;have d:(B:Int) ^ 23 ≥ 104001:=dM;omega) dM)
def Rb.cross{f y x}(b:Rb 1 y)(e:Rb 1 x)(a:Rb 47 (f y))(d:Rb 47 (f x)):Rb 291 (Kj f y x):=by have c:Rb (47+(2*47+1)+(2*1+1)) (f y/(f y-f x)*(x-y)):=(a.div (a.sub d) dM).mul (e.sub b);exact(b.up (by decide:1<=145)).add c
def Rb.reach_n{f a o}(k:Rb 300 o.1/\Rb 300 o.2)(e:∀q∈a,Rb 1 q)(j:∀q∈a,Rb 47 (f q)):∀n,n<=a.length->Rb 300 (Jc f a o n).1/\Rb 300 (Jc f a o n).2:=by
 intro n;induction n with
 | zero=>intro _;exact k
 | succ i l =>
  intro m;have g:=l oM;have d:a.getD i 0∈a:=by rw[gD,gE oM];exact List.getElem_mem _
  have c:Rb 300 (Ec f (Jc f a o i) (a.getD i 0)).1/\Rb 300 (Ec f (Jc f a o i) (a.getD i 0)).2:=by
   unfold Ec;split
   ·exact Rb.wid g ((e _ d).up dM)
   ·exact g
  unfold Jc;split
  ·exact c
  ·have b:a.getD (i-1) 0∈a:=by rw[gD,gE oM];exact List.getElem_mem _
   unfold Ff;split
   ·exact Rb.wid c ((Rb.cross (e _ b) (e _ d) (j _ b) (j _ d)).up dM)
   ·exact c
def Nf.setOther{w base v b}(h:Nf w base v b){p}(m:p.block<base)(k:ud 2 w p.block) u:Nf (w.setCell p u) base v b:=by obtain⟨d,a,f,g⟩:=h;refine⟨d,a.setOther (fun e=>?_) u,f,fun i c q j l=>Fb.keep (g i c q j l) (Ja.y (Ja.refl _ _) k u)⟩;have:=(a.lt _ e).1;omega
def uk(w:N)(s:Sp)(b c d:F)(a:List Rat)(o:Rat×Rat)(W:N):Prop:=
 Ba w W/\w.heap.size+1+1+1<=W.heap.size/\W.heap[w.heap.size]?=G (H #[b,c,Z I s.lo,Z I s.hi] 265 (0,0))/\
  RB W (w.heap.size+1) o.1/\RB W (w.heap.size+1+1) o.2/\Nf W (w.heap.size+1+1+1) d a
def uk.ext{w s b c d a o W W'}(h:uk w s b c d a o W)(k:Ba W W'):uk w s b c d a o W':=
 ⟨h.1.trans k,nT h.2.1 k.size,k.e h.2.2.1,h.2.2.2.1.ext k,h.2.2.2.2.1.ext k,h.2.2.2.2.2.ext k⟩
def nr W{b}(y:b=W.heap.size){a g e j m c o c2 n k r l s t p q}(v:Fb W (Q #[O a m c,J s,O g o c2]) p)(w:Fb W (Q #[O e n k,J t,O j r l]) q):ii (W.alloc (H #[O a m c,J s,O g o c2,O e n k,J t,O j r l] 181)) (O (G ⟨b,0,Y⟩) 2 2) [p,q]:=by
 subst y;have u:Ba W (W.alloc (H #[O a m c,J s,O g o c2,O e n k,J t,O j r l] 181)):=(eR W).alloc _;refine⟨[[O a m c,J s,O g o c2],[O e n k,J t,O j r l]],rfl,by simp,⟨rfl,_,_,rfl,nE _,by unfold maxLen;decide,.inr ⟨_,0,_,_,rfl,aN W _,fun i x h=>by simpa using h⟩⟩,fun i z x d f=>?_⟩
 match i,d,f with
 | 0,d,f=>cases d;cases f;exact v.ext u
 | 1,d,f=>cases d;cases f;exact w.ext u
 | i+2,d,f=>simp at d
def uk.put2{w s v1 v2 vq qs o W}(h:uk w s v1 v2 vq qs o W){a j e v m c L c2 n k R z s1 t p q}(x:Fb W (Q #[O a m c,J s1,O j L c2]) p)(y:Fb W (Q #[O e n k,J t,O v R z]) q){W1 g}(d:((W.setCell ⟨w.heap.size+1,0,Y⟩ (O a m c)).setCell ⟨w.heap.size+1,1,Y⟩ (J s1)).setCell ⟨w.heap.size+1,2,Y⟩ (O j L c2)=W1)(f:((W1.setCell ⟨w.heap.size+1+1,0,Y⟩ (O e n k)).setCell ⟨w.heap.size+1+1,1,Y⟩ (J t)).setCell ⟨w.heap.size+1+1,2,Y⟩ (O v R z)=g):uk w s v1 v2 vq qs (p,q) g/\g.heap.size=W.heap.size/\(∀b r,w.heap.size+1+1<b->RB W b r->RB g b r):=by
 obtain⟨h1,h2,h3,h4,h5,h6⟩:=h;obtain⟨q1,q2,q3,q4,q5,q6⟩:=RB.copy2 h4 h5 oM x y d f;have i:=h4.not;have N2:=h5.not;refine⟨⟨q6 w h1 oM oM,by omega,?_,q1,q2,?_⟩,q5,fun b r hb=>q3 b r oM oM⟩
 ·rw[<-f,<-d]
  repeat rw[bS _ _ _ _ dO]
  exact h3
 ·have l:w.heap.size+1<w.heap.size+1+1+1:=oM;have u:w.heap.size+1+1<w.heap.size+1+1+1:=oM;have g1:=((h6.setOther (p:=⟨w.heap.size+1,0,Y⟩) l i (O a m c)).setOther (p:=⟨w.heap.size+1,1,Y⟩) l (i.set _ _) (J s1)).setOther (p:=⟨w.heap.size+1,2,Y⟩) l ((i.set _ _).set _ _) (O j L c2);rw[d]at g1;have K:ud 2 W1 (w.heap.size+1+1):=by rw[<-d];exact((N2.set _ _).set _ _).set _ _
  have g2:=((g1.setOther (p:=⟨w.heap.size+1+1,0,Y⟩) u K (O e n k)).setOther (p:=⟨w.heap.size+1+1,1,Y⟩) u (K.set _ _) (J t)).setOther (p:=⟨w.heap.size+1+1,2,Y⟩) u ((K.set _ _).set _ _) (O v R z);rw[f]at g2;exact g2
def ll(w:N)(o:Option (Rat×Rat))(e:Ending)(w':N):Prop:=Ba w w'/\∃r1 r2,Fb w' r1 (o.getD (0,0)).1/\Fb w' r2 (o.getD (0,0)).2/\e=.returned (.tuple #[r1,r2,J o.isSome])
def Tw{k a}(h:Bd 104000 a)(b:1<=k):Rb k (a:Rat):=(Ai h).up b
def pM w v1 v2 s b(h1:Ia w v1 s.over)(h2:Ia w v2 s.under)(ab:Qg s)(hp:Bd 104000 b)(o:Xc s b=true):Calls Tryz.prog 184 #[pj s v1 v2,Z I b] w (ll w (Wc s b)):=by
 have HS:=za (fun(W:N)(hW:Ba w W)=>Xy W v1 v2 s (h1.f hW) (h2.f hW) ab);obtain⟨a1,m1,rfl⟩:=h1.form;obtain⟨a2,m2,rfl⟩:=h2.form;obtain⟨n1,f1⟩:=gX s.over.length;obtain⟨n2,f2⟩:=gX s.under.length;obtain⟨lo,ap⟩:=gX s.lo;obtain⟨hi,ao⟩:=gX s.hi;have an:=za (show Rb 23 (Sa s).2 by obtain⟨j1,j2⟩:=Vp (Qb s) (Cr s);unfold Sa;rw[j2];exact Rb.gap (Pk ab _ j1) ab);have Hp:=za hp;have aA:-9223372036854775808<=b:=by unfold Bd at hp;omega
 have aB:b<=9223372036854775807:=by unfold Bd at hp;omega
 have HC:=za (fun(W:N)(va vb:F)(ha:Fb W va (Sa s).2)(hb:Fb W vb (b:Rat))=>Sn W va vb _ _ ha hb (yk an.o oM) (yk (Tw (k:=1) Hp.o oM) oM));have hR:Wc s b=Y:=by unfold Wc;rw[if_pos o]
 rw[hR];unfold Xc at o;obtain⟨q1,ar⟩:=gX ((Sa s).1);obtain⟨q2,ag⟩:=gX ((Sa s).2);unfold pj at HS ⊢;rw[ag]at o HC an;rw[ar,ag]at HS;simp only[f1,f2,ap,ao]at HS ⊢;clear h1 h2 ab f1 f2 ap ao hR ar ag hp;go_in;go_wp2_with(((go_at_call 200;refine cM (HS.o _ eA) ?_;rintro e w1 ⟨r1,r2,rfl,au,R,aa⟩;obtain⟨a4,m4,c4,s4,b4,n4,k4,rfl⟩:=au.form;obtain⟨a5,m5,c5,s5,b5,n5,k5,rfl⟩:=R.form;obtain⟨⟨ay,az⟩,aC,aD,aE⟩:=Sb w aa)));obtain⟨j,d⟩:=gX (((w1.alloc (H #[O a4 m4 c4,J s4,O b4 n4 k4] 181)).alloc (H #[O a5 m5 c5,J s5,O b5 n5 k5] 181)));have g:Ba w1 j:=by rw[<-d];exact((eR _).alloc _).alloc _
 have aq:Ba w j:=(((((eR w).alloc _).alloc _).alloc _).trans aa).trans g;have g1:RB j w1.heap.size q1:=by rw[<-d];exact(RB.new au rfl).ext ((eR _).alloc _)
 have g2:RB j (w1.heap.size+1) q2:=by rw[<-d];exact RB.new (R.ext ((eR _).alloc _)) sM
 have g3:RB j (w.heap.size+1) 0:=(((RB.new (Fb.zero _) sM).ext ((eR _).alloc _)).ext aa).ext g;have g4:RB j (w.heap.size+1+1) 0:=((RB.new (Fb.zero _) sM).ext aa).ext g;have zW:w1.heap.size+1<j.heap.size:=by rw[<-d];simp
 have aF:=Aa (show j.heap[w1.heap.size+1]?=G (H #[O a5 m5 c5,J s5,O b5 n5 k5] 181 (0,0)) by rw[<-d];exact mc _ _ _ sM) 0 (O a5 m5 c5);have aG:=Aa (show j.heap[w1.heap.size+1]?=G (H #[O a5 m5 c5,J s5,O b5 n5 k5] 181 (0,0)) by rw[<-d];exact mc _ _ _ sM) 1 (J s5);have aH:=Aa (show j.heap[w1.heap.size+1]?=G (H #[O a5 m5 c5,J s5,O b5 n5 k5] 181 (0,0)) by rw[<-d];exact mc _ _ _ sM) 2 (O b5 n5 k5);have HX:=za g;have am:=za aq;rw[d];obtain⟨s1,aw⟩:=gX w1.heap.size;simp only[aw]at *;clear d ay az aa g aq HS aw;obtain⟨k,hk⟩:=gX q2.num.sign;have al:=za (fun(W:N)(v:F)(h:Fb W v q2)=>hk▸Us W v q2 h);rw[hk]at o;clear hk;by_cases ac:k<0
 ·have hd:decide (k<0)=true:=by simp[ac]
  refine jd [(⟨s1+1,0,Y⟩,O a5 m5 c5),(⟨s1+1,1,Y⟩,J s5),(⟨s1+1,2,Y⟩,O b5 n5 k5)] cA fun a=>?_;refine La (i:=0) ?_;refine Ac (i:=1) (al.o _ _ (R.ext (Ba.trans HX.o eA))) ?_;rintro e w3 ⟨rfl,u⟩;refine⟨_,rfl,(cE a u),fun a=>?_⟩;refine sN 2 ?_
  iterate 2 refine Db ?_
  iterate 5 refine Ze ?_
  refine Db ?_;refine oN ?_;refine Pb ?_;go_wp2;have X3:Ba j w3:=((eR j).drew).trans u;have x:=g3.ext X3;have y:=g4.ext X3;obtain⟨pa,pm,q,ps,p,t,r,p0,p1,p2,ai,aj,ak,pz,z⟩:=x.rd;obtain⟨ea,em,ec,es,l,n,m,e0,e1,e2,ad,ae,af,ez,L⟩:=y.rd;refine Ti (fun i=>decide (2<i)) (Da [(⟨w.heap.size+1,0,Y⟩,O pa pm q),(⟨w.heap.size+1,1,Y⟩,J ps),(⟨w.heap.size+1,2,Y⟩,O p t r),(⟨w.heap.size+1+1,0,Y⟩,O ea em ec),(⟨w.heap.size+1+1,1,Y⟩,J es),(⟨w.heap.size+1+1,2,Y⟩,O l n m)]) kM ?_ (fun a=>?_)
  ·exact cA
  refine sN 0 ?_
  iterate 2 refine Ui ?_
  refine oN ?_;refine Ed (i:=2) fun K f=>?_;go_simp;refine kO f (fun _=>?_) (fun a=>?_)
  ·exact cA
  clear f K;have a:=a rfl;refine Ed (i:=3) fun K f=>?_;go_simp;refine kO f (fun h=>nomatch h) (fun a=>?_);clear f K;refine Ed (i:=4) fun K f=>?_;go_simp;refine kO f (fun h=>nomatch h) (fun a=>?_);clear f K;refine Ub kM ?_ _;go_wp2;refine bR (v:=.tuple #[Q #[O pa pm q,J ps,O p t r],Q #[O ea em ec,J es,O l n m],J false]) (by simp[results,Tryz.results184,go_sem,p0,p1,p2,ai,aj,ak,e0,e1,e2,ad,ae,af]) rfl ?_;obtain⟨P1,P2,P3,P4,P5,P6⟩:=RB.copy2 x y oM z L rfl rfl;refine⟨(P6 w (am.o.trans X3) oM oM).drew,Q #[O pa pm q,J ps,O p t r],Q #[O ea em ec,J es,O l n m],?_,?_,rfl⟩
  ·exact(z.keep P4).ext (eR _).drew
  ·exact(L.keep P4).ext (eR _).drew
 ·have hd:decide (k<0)=false:=by simp[ac]
  rw[hd,Bool.false_or]at o;obtain⟨c,hc⟩:=gX (yd q2 (b:Rat));rw[hc]at o HC;clear hc;have aI:0<c:=by simpa using o
  refine jd [(⟨s1+1,0,Y⟩,O a5 m5 c5),(⟨s1+1,1,Y⟩,J s5),(⟨s1+1,2,Y⟩,O b5 n5 k5)] cA fun a=>?_;have E0:Ba w1 j.drew:=HX.o.trans (eR j).drew;refine La (i:=0) ?_;refine Ac (i:=1) (al.o _ _ (R.ext E0)) ?_;rintro e w3 ⟨rfl,u⟩;refine⟨_,rfl,(cE a u),fun a=>?_⟩;refine sN 2 ?_
  iterate 4 refine Db ?_
  refine oN ?_;refine Ac (i:=6) (mm _ b aA aB) ?_;rintro e w4 ⟨r4,rfl,av,ah⟩;obtain⟨a6,m6,c6,s6,b6,n6,k6,rfl⟩:=av.form;refine⟨_,rfl,(cE a ah),fun a=>?_⟩;refine Ac (i:=7) (HC.o _ _ _ (R.ext (E0.trans (u.trans ah))) av) ?_;rintro e w5 ⟨rfl,ax⟩;refine⟨_,rfl,(cE a ax),fun a=>?_⟩;refine sN 8 ?_
  iterate 2 refine Db ?_
  refine oN ?_;refine Pb ?_;have X3:Ba j w5:=((eR j).drew).trans (u.trans (ah.trans ax));have x:=g3.ext X3;have y:=g4.ext X3;go_wp2;obtain⟨pa,pm,q,ps,p,t,r,p0,p1,p2,ai,aj,ak,pz,z⟩:=x.rd;obtain⟨ea,em,ec,es,l,n,m,e0,e1,e2,ad,ae,af,ez,L⟩:=y.rd;refine Ti (fun i=>decide (2<i)) (Da [(⟨w.heap.size+1,0,Y⟩,O pa pm q),(⟨w.heap.size+1,1,Y⟩,J ps),(⟨w.heap.size+1,2,Y⟩,O p t r),(⟨w.heap.size+1+1,0,Y⟩,O ea em ec),(⟨w.heap.size+1+1,1,Y⟩,J es),(⟨w.heap.size+1+1,2,Y⟩,O l n m)]) kM ?_ (fun a=>?_)
  ·exact cA
  refine sN 0 ?_
  iterate 2 refine Ui ?_
  refine oN ?_;refine Ed (i:=2) fun K f=>?_;go_simp;refine kO f (fun _=>?_) (fun a=>?_)
  ·exact cA
  clear f K;have a:=a rfl;refine Ed (i:=3) fun K f=>?_;go_simp;refine kO f (fun h=>nomatch h) (fun a=>?_);clear f K;refine Ed (i:=4) fun K f=>?_;go_simp;refine kO f (fun h=>nomatch h) (fun a=>?_);clear f K;refine Ub kM ?_ _;go_wp2;refine bR (v:=.tuple #[Q #[O pa pm q,J ps,O p t r],Q #[O ea em ec,J es,O l n m],J false]) (by simp[results,Tryz.results184,go_sem,p0,p1,p2,ai,aj,ak,e0,e1,e2,ad,ae,af]) rfl ?_;obtain⟨P1,P2,P3,P4,P5,P6⟩:=RB.copy2 x y oM z L rfl rfl;refine⟨(P6 w (am.o.trans X3) oM oM).drew,Q #[O pa pm q,J ps,O p t r],Q #[O ea em ec,J es,O l n m],?_,?_,rfl⟩
  ·exact(z.keep P4).ext (eR _).drew
  ·exact(L.keep P4).ext (eR _).drew
end
section
open Go.RowKit Go.Shelf Go.Sort
def uP{β}[Inhabited β]{lt}(hO:SWO lt)(d:Array β) l:(pdq lt d 0 d.size l true true).toList.Pairwise fun x y=>lt y x=false:=by obtain⟨⟨g,_,_⟩,f⟩:=pdq_sorts lt hO d 0 d.size l true true (Nat.zero_le _) (nE _) (Or.inl rfl);rw[List.pairwise_iff_getElem];intro i j c e a;simp at c e;have b:=f i j (Nat.zero_le _) a oM;rw[getElem!_pos _ i c,getElem!_pos _ j e]at b;simpa using b
def Lz{ps}(h:∀x∈ps,BP x):(Df ps).Pairwise fun x y=>x.1<=y.1:=by unfold Df Bi;rw[dif_pos h];rw[List.pairwise_map];have b:=@uP {x // BP x} ⟨SA⟩ _ vo (ps.attachWith BP h).toArray (Lib.bitLen ps.length);rw[show (ps.attachWith BP h).toArray.size=ps.length by simp]at b;refine b.imp fun {x y} a=>?_;rw[Aw]at a;simpa using a
def MG{α}[DecidableEq α]:∀ a (r:List α),∃t,Na (a::r)=a::t
 | a,[]=>⟨[],rfl⟩
 | a,b::r=>by
  by_cases h:a=b
  ·obtain⟨t,e⟩:=MG b r;exact⟨t,by rw[Na,if_pos h,e,h]⟩
  ·exact⟨Na (b::r),by rw[Na,if_neg h]⟩
def gi.cons{a b}{r:LP}(d:a.1<=b.1)(f:a≠b)(h:gi (b::r)):gi (a::b::r):=by
 intro e c;unfold Wg at c;rcases List.mem_cons.1 c with rfl|c
 ·exact⟨d,f⟩
 ·exact h e c
def vG:∀(l:LP),l.Pairwise (fun x y=>x.1<=y.1)->gi (Na l)
 | [],_=>by intro e f;simp[Na,Wg]at f
 | [a],_=>by intro e f;simp[Na,Wg]at f
 | a::b::r,h=>by
  have d:=vG (b::r) (List.pairwise_cons.1 h).2;by_cases c:a=b
  ·rw[Na,if_pos c];exact d
  ·rw[Na,if_neg c];obtain⟨t,e⟩:=MG b r;rw[e]at d ⊢;exact gi.cons ((List.pairwise_cons.1 h).1 b List.mem_cons_self) c d
def UO{k a}(c:qg k a)(b:k<=1000000):gi (Lc a):=
 vG _ (Lz fun x d=>by
  have:=c x d;unfold BP;exact⟨this.1.mono b,this.2.mono b⟩)
def ZI{p}(h:Fa p=true):gi (Mb p):=by obtain⟨a,c,Wi⟩:=oo h;have b:=Cs a (nE _);exact UO b.2 dM
def KQ{g}(h:Bb g=true):gi g:=by
 unfold Bb at h;simp only[Bool.and_eq_true,List.all_eq_true,List.mem_range]at h;intro e d;unfold Wg at d;obtain⟨i,f,rfl⟩:=List.getElem_of_mem d;have c:i+1<g.length:=by rw[List.length_zip,List.length_tail]at f;omega
 have a:=h.2 (i+1) c;unfold Pf at a;simp only[Bool.and_eq_true,Bool.or_eq_true,decide_eq_true_eq,beq_iff_eq,Nat.add_one_ne_zero,false_or,Nat.add_sub_cancel]at a;have b:=a.2.2;rw[gD,gD,gE oM,gE c]at b;simp only[Option.getD_some]at b;have j:(g.zip g.tail)[i]'f=(g[i]' oM,g[i+1]'c):=sM;rw[j];exact⟨by dsimp only;omega,fun e=>by dsimp only at e;rw[e]at b;omega⟩
def iH(f:Rat->Rat)(a:List Rat):Prop:=∀(i:Nat) y x,a[i]?=G y->a[i+1]?=G x->¬(f x).num.sign*(f y).num.sign<0
def SO f{xs}:∀x∈xs,(sd f xs).2<=f x:=by
 have key:∀(c:List Rat)(a:Rat×Rat),(c.foldl (yb f) a).2<=a.2/\∀x∈c,(c.foldl (yb f) a).2<=f x:=by
  intro c;induction c with
  | nil=>intro a;exact⟨Rat.le_refl,fun x b=>by simp at b⟩
  | cons y c i =>
   intro a;obtain⟨d,e⟩:=i (yb f a y);have g:(yb f a y).2<=a.2/\(yb f a y).2<=f y:=by
    unfold yb;split
    ·rename_i h;rw[Kx]at h;exact⟨Rat.le_of_lt h,Rat.le_refl⟩
    ·rename_i h;rw[Kx]at h;exact⟨Rat.le_refl,Rat.not_lt.1 h⟩
   refine⟨Rat.le_trans d g.1,fun x b=>?_⟩;rcases List.mem_cons.1 b with rfl|b
   ·exact Rat.le_trans d g.2
   ·exact e x b
 cases xs with
 | nil=>intro x b;simp at b
 | cons y c =>
  intro x b;obtain⟨d,e⟩:=key c (y,f y);rcases List.mem_cons.1 b with rfl|b
  ·exact d
  ·exact e x b
def RS{q:Rat}(h:0<=q):0<=q.num.sign:=by
 have:=Rat.num_nonneg.2 h;rcases Int.lt_or_eq_of_le this with a|a
 ·rw[Int.sign_eq_one_of_pos a];decide
 ·rw[<-a];decide
def ON{s}(h:Xc s 0=false):iH (Ae s 0) (Zb s):=by
 unfold Xc at h;simp only[Bool.or_eq_false_iff,decide_eq_false_iff_not]at h;have g:0<=(Sa s).2:=by
  refine Rat.not_lt.1 fun b=>h.1 ?_;refine Int.sign_neg_iff.2 (Int.not_le.1 fun k=>?_);exact absurd b (Rat.not_lt.2 (Rat.num_nonneg.1 k))
 have a:∀x∈Zb s,0<=(Ae s 0 x).num.sign:=fun x c=>by
  refine RS ?_;have j:(Sa s).2<=Qb s x:=SO (Qb s) x c;have e:Ae s 0 x=Qb s x:=by unfold Ae;simp[Rat.sub_eq_add_neg,Rat.add_zero]
  rw[e];exact Rat.le_trans g j
 intro i y x l c;have d:=a y (lM l);have f:=a x (lM c);have:=Int.mul_nonneg f d;omega
end
section
open Go.RowKit Go.Shelf
def YO w v zs b1 f(h:Ud w v zs)(l:∀W,Ba w W->∀z∈zs,Calls Tryz.prog 103 #[Z I z,C (G ⟨b1,0,Y⟩)] W fun e w'=>e=.returned (J (f z))/\Ba W w'):Calls Tryz.prog 74 #[v,.func (.func 103) #[] #[C (G ⟨b1,0,Y⟩)]] w fun e w'=>e=.returned (Z I (Pc f zs))/\Ba w w':=by
 obtain⟨a,c,rfl⟩:=h.form;obtain⟨n,R⟩:=gX zs.length;rw[R]at h ⊢;have m:=h.le;unfold maxLen at m;have ab:n<=9223372036854775807:=oM;have g:=za R;have u:=za l;clear R m l;go_in;go_wp2;go_loopg [8] n (qH w f zs)
 case atStart=>exact⟨0,by omega,rfl,by rw[g.o];rfl,eR _,fun j y r=>by omega⟩
 case round =>
  obtain⟨i,hi,rfl,rfl,hx,k⟩:=hrel;rw[g.o]at hi;have d:=za k;clear k;by_cases L:i<n
  ·obtain⟨z,s⟩:∃q,zs[i]?=G q:=⟨zs[i]'(by rw[g.o];omega),by simp[g.o,L]⟩;obtain⟨b,o,rfl,hb,d0⟩:=(h.f hx).at' s;have Hq:=za s;have t:=za (fun W (hW:Ba wr W)=>u.o W (hx.trans hW) z (lM s));obtain⟨fz,x⟩:=gX (f z);rw[x]at t;have Hf:=za x;clear s x;cases fz with
   |true=>
    have e:Pc f zs=(i:Int):=pp Hq.o Hf.o d.o;have E:=za e;clear e;go_wp2_with(((go_at_call 103;refine cM (t.o _ eA) ?_;rintro e w1 ⟨rfl,aa⟩)));go_ret;exact⟨by rw[E.o];rfl,eA⟩
   |false=>
    go_wp2_with(((go_at_call 103;refine cM (t.o _ eA) ?_;rintro e w1 ⟨rfl,aa⟩)));go_roundg (n-(i+1))
    case measure=>have:=g.o;omega
    case rel =>
     refine⟨i+1,by have:=g.o;omega,by go_num,by rw[g.o],eA,fun j y r p=>?_⟩;by_cases K:j=i
     ·subst K;rw[Hq.o]at p;cases p;exact Hf.o
     ·exact d.o j y oM p
  ·obtain rfl:i=n:=oM;have e:Pc f zs = -1:=Zo (fun j y r p=>d.o j y (by rw[g.o]at r;exact r) p);have E:=za e;clear e;go_wp2;go_ret;exact⟨by rw[E.o];rfl,hx⟩
def JE w v zs d f(h:Ud w v zs)(b:∀W,Ba w W->∀z∈zs,Calls Tryz.prog 103 #[Z I z,C (G ⟨d,0,Y⟩)] W fun e j=>e=.returned (J (f z))/\Ba W j):Calls Tryz.prog 37 #[v,.func (.func 103) #[] #[C (G ⟨d,0,Y⟩)]] w fun e j=>e=.returned (J (zs.any f))/\Ba w j:=by rw[<-Zp];obtain⟨x,l⟩:=gX (Pc f zs);have i:=fun W (k:Ba w W)=>YO W v zs d f (h.f k) (fun W' g z p=>b W' (k.trans g) z p);obtain⟨a,n,c,rfl⟩:=Ma h;simp only[l]at i ⊢;have m:=za i;clear i l h b;go_in;go_wp2_with(((go_at_call 74;refine cM (m.o _ eA) ?_;rintro e q ⟨rfl,o⟩)));go_ret;exact⟨rfl,eA⟩
end
section
open Go.RowKit Go.Shelf Go.Sort
def kI{x y:Int}(h:0<x)(k:x*y<=0):y<=0:=by
 by_cases a:y<=0
 ·exact a
 ·have:=Int.mul_pos h (show 0<y by omega);omega
def lI{x y:Int}(h:0<x)(k:x*y<0):y<0:=by
 by_cases a:y<0
 ·exact a
 ·have:=Int.mul_nonneg (Int.le_of_lt h) (show 0<=y by omega);omega
def JO{c g d j f i:Int}(m:0<c)(n:d<=0)(o:0<f)(k:0<c*i-g*f)(l:0<d*i-j*f):c*j-g*d<0:=by
 have e:f*(c*j-g*d)=d*(c*i-g*f)-c*(d*i-j*f):=by grind
 have a:=Int.mul_pos m l;have b:d*(c*i-g*f)<=0:=Int.mul_nonpos_of_nonpos_of_nonneg n (Int.le_of_lt k);exact lI o oM
def gF{f g c i d j:Int}(o:0<f)(m:c<0)(n:0<d)(k:0<=f*i-g*c)(l:0<=f*j-g*d):c*j-i*d<=0:=by
 have e:f*(c*j-i*d)=c*(f*j-g*d)-d*(f*i-g*c):=by grind
 have a:0<=d*(f*i-g*c):=Int.mul_nonneg (Int.le_of_lt n) k;have b:c*(f*j-g*d)<=0:=Int.mul_nonpos_of_nonpos_of_nonneg (Int.le_of_lt m) l;exact kI o oM
def Nk(cs:LP)(u v:Int×Int):Prop:=Md cs u v/\u.1<v.1
def je(cs:LP)(q:Int×Int):Prop:=∃u v,Nk cs u v/\(q=u\/q=v)
def Yf.left0{cs}(h:Yf cs){u v c}(d:Md cs u v)(b:c∈cs):0<=Ie u v c:=by
 by_cases a:c=u
 ·subst a;unfold Ie;grind
 ·by_cases hv:c=v
  ·subst hv;unfold Ie;grind
  ·exact Int.le_of_lt (h.left u v d c b a hv)
def je.mem{cs q}(h:je cs q):q∈cs:=by
 obtain⟨u,v,⟨a,_⟩,rfl|rfl⟩:=h
 ·exact a.mem.1
 ·exact a.mem.2
def je.uniq{cs}(h:Yf cs){u w}(f:je cs u)(c:je cs w)(d:u.1=w.1):u=w:=by
 have key:∀{u w:Int×Int},je cs u->je cs w->u.1=w.1->¬u.2<w.2:=by
  intro u w f c d m;obtain⟨a,b,⟨j,i⟩,c⟩:=c;have g:=h.left0 j f.mem;unfold Ie at g;rcases c with rfl|rfl
  ·have e:(b.1-w.1)*(u.2-b.2)-(b.2-w.2)*(u.1-b.1)=(b.1-w.1)*(u.2-w.2):=by rw[d];grind
   rw[e]at g;have:=Int.mul_neg_of_pos_of_neg (show 0<b.1-w.1 by omega) (show u.2-w.2<0 by omega);omega
  ·have e:(w.1-a.1)*(u.2-w.2)-(w.2-a.2)*(u.1-w.1)=(w.1-a.1)*(u.2-w.2):=by rw[d];grind
   rw[e]at g;have:=Int.mul_neg_of_pos_of_neg (show 0<w.1-a.1 by omega) (show u.2-w.2<0 by omega);omega
 have k:=key f c d;have l:=key c f d.symm;exact Prod.ext d oM
def Md.next{cs a}(h:a∈cs)(b:2<=cs.length):∃s,Md cs a s:=by
 obtain⟨A,B,rfl⟩:=List.append_of_mem h;cases B with
 | cons s B=>exact⟨s,.inl ⟨A,B,rfl⟩⟩
 |nil=>
  cases A with
  | nil=>simp at b
  | cons v M=>exact⟨v,.inr ⟨M,by simp⟩⟩
def je.goes{cs}(h:Yf cs){a b}(f:je cs a)(n:b∈cs)(q:a.1<b.1):∃b',Nk cs a b':=by
 obtain⟨u,v,⟨d,l⟩,f⟩:=f;rcases f with rfl|rfl
 ·exact⟨v,d,l⟩
 ·obtain⟨s,j⟩:=Md.next d.mem.2 (by have:=h.three;omega);by_cases k:a.1<s.1
  ·exact⟨s,j,k⟩
  ·exfalso;have g:b≠s:=by rintro rfl;omega
   have c:b≠a:=by rintro rfl;omega
   have i:b≠u:=by rintro rfl;omega
   have m:=h.left u a d b n i c;have e:=h.left a s j b n c g;have p:=h.left0 d j.mem.2;unfold Ie at m e p;have o:(s.1-a.1)*(b.2-s.2)-(s.2-a.2)*(b.1-s.1)=(s.1-a.1)*(b.2-a.2)-(s.2-a.2)*(b.1-a.1):=by grind
   rw[o]at e;have:=JO (show 0<a.1-u.1 by omega) (show s.1-a.1<=0 by omega) (show 0<b.1-a.1 by omega) m e;omega
def je.edge{cs}(h:Yf cs){a b}(y:je cs a)(l:je cs b)(m:a.1<b.1)(r:∀q,je cs q->¬(a.1<q.1/\q.1<b.1)):Nk cs a b:=by
 obtain⟨e,i,u⟩:=y.goes h l.mem m;have f:je cs e:=⟨a,e,⟨i,u⟩,.inr rfl⟩;by_cases o:e.1=b.1
 ·rw[<-f.uniq h l o];exact⟨i,u⟩
 ·have K:b.1<e.1:=by
   have:=r e f;omega
  exfalso;have n:b≠a:=by rintro rfl;omega
  have g:b≠e:=by rintro rfl;omega
  have s:=h.left a e i b l.mem n g;obtain⟨c,d,⟨t,z⟩,p⟩:=l;have j:=h.left0 t i.mem.1;have k:=h.left0 t i.mem.2;unfold Ie at s j k;have v:(e.1-a.1)*(b.2-e.2)-(e.2-a.2)*(b.1-e.1)=(a.1-b.1)*(e.2-b.2)-(a.2-b.2)*(e.1-b.1):=by grind
  rw[v]at s;rcases p with rfl|rfl
  ·have w:(d.1-b.1)*(a.2-d.2)-(d.2-b.2)*(a.1-d.1)=(d.1-b.1)*(a.2-b.2)-(d.2-b.2)*(a.1-b.1):=by grind
   have x:(d.1-b.1)*(e.2-d.2)-(d.2-b.2)*(e.1-d.1)=(d.1-b.1)*(e.2-b.2)-(d.2-b.2)*(e.1-b.1):=by grind
   rw[w]at j;rw[x]at k;have:=gF (show 0<d.1-b.1 by omega) (show a.1-b.1<0 by omega) (show 0<e.1-b.1 by omega) j k;omega
  ·have:=gF (show 0<b.1-c.1 by omega) (show a.1-b.1<0 by omega) (show 0<e.1-b.1 by omega) j k;omega
end
section
open Go.RowKit Go.Shelf Go.Sort Go.Lib
def Qn{l m}(s:l.Perm m)(q:∀x∈l,BP x)(c:m.Pairwise fun x y=>x.1<y.1):Df l=m:=by
 have n:=Lz q;have f:=(oq l).trans s;refine List.Perm.eq_of_pairwise (le:=fun x y=>x.1<=y.1) ?_ n (c.imp fun h=>by omega) f;intro a b o e p r;have d:a∈m:=f.mem_iff.1 o;obtain⟨i,g,rfl⟩:=List.getElem_of_mem d;obtain⟨j,k,rfl⟩:=List.getElem_of_mem e;rw[List.pairwise_iff_getElem]at c;rcases Nat.lt_trichotomy i j with h|h|h
 ·have:=c i j g k h;omega
 ·subst h;rfl
 ·have:=c j i k g h;omega
def Jk(z:Int):List Int->List Int
 | []=>[z]
 | y::ys=>if z<=y then z::y::ys else y::Jk z ys
def Tk:List Int->List Int
 | []=>[]
 | z::zs=>Jk z (Tk zs)
def Gy z:∀ys,(Jk z ys).Perm (z::ys)
 | []=>List.Perm.refl _
 | y::ys=>by
  unfold Jk;split
  ·exact List.Perm.refl _
  ·exact((Gy z ys).cons y).trans (List.Perm.swap _ _ _)
def zF z:∀ys,ys.Pairwise (fun x y:Int=>x<=y)->(Jk z ys).Pairwise (fun x y:Int=>x<=y)
 | [],_=>by unfold Jk;exact List.pairwise_singleton _ _
 | y::ys,h=>by
  obtain⟨c,d⟩:=List.pairwise_cons.1 h;unfold Jk;split
  ·rename_i hz;refine List.pairwise_cons.2 ⟨fun a b=>?_,h⟩;rcases List.mem_cons.1 b with rfl|b
   ·exact hz
   ·exact Int.le_trans hz (c a b)
  ·rename_i hz;refine List.pairwise_cons.2 ⟨fun a b=>?_,zF z ys d⟩;rcases List.mem_cons.1 ((Gy z ys).mem_iff.1 b)with rfl|b
   ·omega
   ·exact c a b
def kF:∀zs,(Tk zs).Perm zs
 | []=>List.Perm.refl _
 | z::zs=>(Gy z _).trans ((kF zs).cons z)
def fG:∀zs,(Tk zs).Pairwise (fun x y:Int=>x<=y)
 | []=>List.Pairwise.nil
 | z::zs=>zF z _ (fG zs)
def Ey:og=Tk:=by
 funext zs
 unfold og;refine List.Perm.eq_of_pairwise (le:=fun x y:Int=>x<=y) (fun a b _ _ d e=>Int.le_antisymm d e) ?_ (fG zs) ((List.mergeSort_perm zs _).trans (kF zs).symm);have:=List.pairwise_mergeSort (le:=fun x y:Int=>decide (x<=y)) (fun a b c d e=>by simp at *;omega) (fun a b=>by simp;omega) zs;exact this.imp fun h=>by simpa using h
end
section
open Go.RowKit Go.Shelf Go.Sort
def Lg(p:Int×Int):Int×Int:=(-p.1,-p.2)
def Rk p:Lg (Lg p)=p:=by unfold Lg;simp
def Yf.ng{cs}(h:Yf cs):Yf (cs.map Lg):=
 h.map _ (fun u v c=>by unfold Ie Lg;dsimp only;grind) (fun x y e=>by rw[<-Rk x,e,Rk])
def Md.maps{cs} f{u v}(h:Md cs u v):Md (cs.map f) (f u) (f v):=by
 rcases h with ⟨A,B,rfl⟩|⟨M,rfl⟩
 ·exact .inl ⟨A.map f,B.map f,by simp⟩
 ·exact .inr ⟨M.map f,by simp⟩
def Md.ng{cs u v}(h:Md (cs.map Lg) u v):Md cs (Lg u) (Lg v):=by
 have:=h.maps Lg
 rwa [List.map_map,show Lg ∘ Lg=id from funext Rk,List.map_id]at this
def Vn(cs:LP)(u v:Int×Int):Prop:=Md cs u v/\v.1<u.1
def Dh(cs:LP)(q:Int×Int):Prop:=∃u v,Vn cs u v/\(q=u\/q=v)
def Vn.ng{cs u v}:Vn cs u v ↔ Nk (cs.map Lg) (Lg u) (Lg v):=by
 constructor
 ·rintro ⟨h,k⟩;exact⟨h.maps Lg,by unfold Lg;dsimp only;omega⟩
 ·rintro ⟨h,k⟩;have:=h.ng;rw[Rk,Rk]at this;exact⟨this,by unfold Lg at k;dsimp only at k;omega⟩
def Dh.ng{cs q}:Dh cs q ↔ je (cs.map Lg) (Lg q):=by
 constructor
 ·rintro ⟨u,v,h,a⟩;exact⟨Lg u,Lg v,Vn.ng.1 h,by rcases a with rfl|rfl<;>simp⟩
 ·rintro ⟨u,v,h,a⟩;refine⟨Lg u,Lg v,Vn.ng.2 (by rw[Rk,Rk];exact h),?_⟩;rcases a with rfl|rfl
  ·exact .inl (Rk q).symm
  ·exact .inr (Rk q).symm
def Dh.uniq{cs}(h:Yf cs){u w}(a:Dh cs u)(b:Dh cs w)(c:u.1=w.1):u=w:=by have:=je.uniq h.ng (Dh.ng.1 a) (Dh.ng.1 b) (by unfold Lg;dsimp only;omega);rw[<-Rk u,this,Rk]
def Dh.edge{cs}(h:Yf cs){a b}(e:Dh cs a)(g:Dh cs b)(f:a.1<b.1)(c:∀q,Dh cs q->¬(a.1<q.1/\q.1<b.1)):Vn cs b a:=by refine Vn.ng.2 (je.edge h.ng (Dh.ng.1 g) (Dh.ng.1 e) (by unfold Lg;dsimp only;omega) (fun q i d=>?_));refine c (Lg q) (Dh.ng.2 (by rw[Rk];exact i)) ?_;unfold Lg at d ⊢;dsimp only at d ⊢;omega
def Lo{cs}(c:2<=cs.length){u v}:Md cs u v ↔ ∃i,i<cs.length/\cs.getD i (0,0)=u/\cs.getD ((i+1)%cs.length) (0,0)=v:=by
 constructor
 ·rintro (⟨A,B,e⟩|⟨M,e⟩)
  ·have l:A.length+1<cs.length:=by rw[e];simp
   refine⟨A.length,by omega,?_,?_⟩
   ·rw[gD,e];simp
   ·rw[Nat.mod_eq_of_lt l,gD,e];simp
  ·have m:cs.length=M.length+2:=by rw[e];simp
   refine⟨M.length+1,by omega,?_,?_⟩
   ·rw[gD,e];simp
   ·rw[show M.length+1+1=cs.length by omega,Nat.mod_self,gD,e];simp
 ·rintro ⟨i,b,rfl,rfl⟩;have g:∀j,(hj:j<cs.length)->cs.getD j (0,0)=cs[j]:=fun j hj=>by rw[gD,gE hj];rfl
  by_cases a:i+1<cs.length
  ·rw[Nat.mod_eq_of_lt a,g i b,g (i+1) a];refine .inl ⟨cs.take i,cs.drop (i+1+1),?_⟩;rw[<-List.drop_eq_getElem_cons a,<-List.drop_eq_getElem_cons b,List.take_append_drop]
  ·have e:i+1=cs.length:=oM;rw[e,Nat.mod_self,g i b,g 0 oM]
   right
   cases cs with
   | nil=>simp at c
   | cons v r =>
    (have d:r≠[]:=by rintro rfl;simp at c);refine⟨r.dropLast,?_⟩;have k:(v::r)[i]=r.getLast d:=by
     rw[List.getLast_eq_getElem];simp only[List.length_cons]at e;obtain⟨f,rfl⟩:∃f,i=f+1:=⟨i-1,by have:=List.length_pos_iff.2 d;omega⟩;simp only[List.getElem_cons_succ]
     congr 1
     omega
    rw[k];simp[List.dropLast_concat_getLast]
def jz{cs}(c:2<=cs.length){q}:q∈Kc cs cs.length ↔ je cs q:=by
 unfold Kc je Nk;rw[List.mem_flatMap];constructor
 ·rintro ⟨i,b,a⟩;rw[List.mem_range]at b;unfold ye at a;split at a
  ·rename_i hx;refine⟨_,_,⟨(Lo c).2 ⟨i,b,rfl,rfl⟩,hx⟩,?_⟩;simpa using a
  ·cases a
 ·rintro ⟨u,v,⟨d,hx⟩,a⟩;obtain⟨i,b,rfl,rfl⟩:=(Lo c).1 d;refine⟨i,List.mem_range.2 b,?_⟩;unfold ye;rw[if_pos hx];simpa using a
def Dy{cs}(c:2<=cs.length){q}:q∈Pd cs cs.length ↔ Dh cs q:=by
 unfold Pd Dh Vn;rw[List.mem_flatMap];constructor
 ·rintro ⟨i,b,a⟩;rw[List.mem_range]at b;unfold Jf at a;split at a
  ·rename_i hx;refine⟨_,_,⟨(Lo c).2 ⟨i,b,rfl,rfl⟩,hx⟩,?_⟩;simpa using a
  ·cases a
 ·rintro ⟨u,v,⟨d,hx⟩,a⟩;obtain⟨i,b,rfl,rfl⟩:=(Lo c).1 d;refine⟨i,List.mem_range.2 b,?_⟩;unfold Jf;rw[if_pos hx];simpa using a
def lw{α}[DecidableEq α]:∀{c}{x:α},x∈c->x∈Na c
 | [a],x,h=>by simpa[Na] using h
 | a::b::r,x,h=>by
  rw[Na];split
  ·rename_i e;subst e;rcases List.mem_cons.1 h with rfl|h
   ·exact lw (by simp)
   ·exact lw h
  ·rcases List.mem_cons.1 h with rfl|h
   ·simp
   ·exact mC _ (lw h)
def uF{a q}:q∈Lc a ↔ q∈a:=
 ⟨fun h=>(oq a).mem_iff.1 (Lt h),fun h=>lw ((oq a).mem_iff.2 h)⟩
def ie(l:LP):Prop:=l.Pairwise fun x y=>x.1<y.1
def LG:∀(l:LP),l.Pairwise (fun x y=>x.1<=y.1)->(∀x∈l,∀y∈l,x.1=y.1->x=y)->ie (Na l)
 | [],_,_=>List.Pairwise.nil
 | [a],_,_=>by unfold ie;simp[Na]
 | a::b::r,h,hu=>by
  obtain⟨f,g⟩:=List.pairwise_cons.1 h;have i:=LG (b::r) g (fun x m y d=>hu x (mC _ m) y (mC _ d));rw[Na];split
  ·exact i
  ·rename_i hne;refine List.pairwise_cons.2 ⟨fun y d=>?_,i⟩;have c:=Lt d;have k:=f y c;have n:=f b sM;have j:b.1<=y.1:=by
    rcases List.mem_cons.1 c with rfl|c
    ·exact Int.le_refl _
    ·exact(List.pairwise_cons.1 g).1 y c
   have:a.1≠b.1:=fun e=>hne (hu a sM b sM e);omega
def KF{k a}(e:qg k a)(c:k<=1000000)(f:∀x∈a,∀y∈a,x.1=y.1->x=y):ie (Lc a):=by
 have d:=oq a;exact LG _ (Lz fun x b=>by
  have:=e x b;unfold BP;exact⟨this.1.mono c,this.2.mono c⟩) (fun x b y g=>f x (d.mem_iff.1 b) y (d.mem_iff.1 g))
def ie.between{l}(h:ie l){e}(d:e∈Wg l):e.1∈l/\e.2∈l/\e.1.1<e.2.1/\∀q∈l,¬(e.1.1<q.1/\q.1<e.2.1):=by
 unfold Wg at d;obtain⟨i,f,rfl⟩:=List.getElem_of_mem d;have b:i+1<l.length:=by rw[List.length_zip,List.length_tail]at f;omega
 have k:(l.zip l.tail)[i]'f=(l[i]' oM,l[i+1]'b):=sM;rw[k];have c:=List.pairwise_iff_getElem.1 h;refine⟨List.getElem_mem _,List.getElem_mem _,c i (i+1) oM b oM,fun q n=>?_⟩;obtain⟨j,g,rfl⟩:=List.getElem_of_mem n;dsimp only;rintro ⟨o,p⟩;rcases Nat.lt_trichotomy j i with a|rfl|a
 ·have:=c j i g oM a;omega
 ·omega
 ·rcases Nat.lt_or_eq_of_le (show i+1<=j from a)with m|rfl
  ·have:=c (i+1) j b g m;omega
  ·omega
def Xp{p}(h:Fa p=true):ie (Ga p)/\(∀q,q∈Ga p ↔ je (Ca p) q)/\∀e∈Wg (Ga p),Nk (Ca p) e.1 e.2:=by
 have c:=Gt h;have b:2<=(Ca p).length:=by have:=c.three;omega
 obtain⟨i,r,Wi⟩:=oo h;have l:=Cs i (nE _);have a:∀q,q∈Ga p ↔ je (Ca p) q:=fun q=>by unfold Ga;rw[uF,jz b]
 have g:ie (Ga p):=KF l.1 dM (fun x f y m e=>je.uniq c ((jz b).1 f) ((jz b).1 m) e);refine⟨g,a,fun e j=>?_⟩;obtain⟨n,o,f,d⟩:=g.between j;exact je.edge c ((a _).1 n) ((a _).1 o) f (fun q k=>d q ((a q).2 k))
def ur{p}(h:Fa p=true):ie (Mb p)/\(∀q,q∈Mb p ↔ Dh (Ca p) q)/\∀e∈Wg (Mb p),Vn (Ca p) e.2 e.1:=by
 have c:=Gt h;have b:2<=(Ca p).length:=by have:=c.three;omega
 obtain⟨i,r,Wi⟩:=oo h;have l:=Cs i (nE _);have a:∀q,q∈Mb p ↔ Dh (Ca p) q:=fun q=>by unfold Mb;rw[uF,Dy b]
 have g:ie (Mb p):=KF l.2 dM (fun x f y m e=>Dh.uniq c ((Dy b).1 f) ((Dy b).1 m) e);refine⟨g,a,fun e j=>?_⟩;obtain⟨n,o,f,d⟩:=g.between j;exact Dh.edge c ((a _).1 n) ((a _).1 o) f (fun q k=>d q ((a q).2 k))
def xh(k:Int):Rat:=((2*k+1:Int):Rat)/2
def qp{cs}(h:Yf cs) u v:∃c∈cs,c≠u/\c≠v:=by
 apply Classical.byContradiction;intro d;have f:∀c∈cs,c∈[u,v]:=fun c b=>by
  apply Classical.byContradiction;intro a;exact d ⟨c,b,fun e=>a (by simp[e]),fun e=>a (by simp[e])⟩
 have:=List.Nodup.length_le_of_subset h.nd f;have:=h.three;simp at *;omega
def Md.ne{cs}(h:Yf cs){u v}(f:Md cs u v):u≠v:=by
 rintro rfl;obtain⟨c,d,a,b⟩:=qp h u u;have:=h.left u u f c d a b;unfold Ie at this;have e:(u.1-u.1)*(c.2-u.2)-(u.2-u.2)*(c.1-u.1)=0:=by grind
 omega
def Yf.minLow{cs}(h:Yf cs):∃u,je cs u/\∀c∈cs,u.1<=c.1:=by
 obtain⟨v,hv,a⟩:=xE (fun q:Int×Int=>q.1) (S:=cs) (by rintro rfl;have:=h.three;simp at this);have r:2<=cs.length:=by have:=h.three;omega
 obtain⟨s,j⟩:=Md.next hv r;by_cases n:v.1<s.1
 ·exact⟨v,⟨v,s,⟨j,n⟩,.inl rfl⟩,a⟩
 have d:=j.mem.2;have o:s.1=v.1:=by have:=a s d;omega
 obtain⟨t,k⟩:=Md.next d r;by_cases l:s.1<t.1
 ·exact⟨s,⟨s,t,⟨k,l⟩,.inl rfl⟩,fun c i=>by rw[o];exact a c i⟩
 exfalso;have f:=k.mem.2;have y:t.1=v.1:=by have:=a t f;omega
 by_cases g:t=v
 ·subst g;obtain⟨c,i,p,w⟩:=qp h t s;have b:=h.left t s j c i p w;have x:=h.left s t k c i w p;unfold Ie at b x;have e:(s.1-t.1)*(c.2-s.2)-(s.2-t.2)*(c.1-s.1)+((t.1-s.1)*(c.2-t.2)-(t.2-s.2)*(c.1-t.1))=0:=by grind
  omega
 ·have m:t≠s:=fun e=>(k.ne h) e.symm;have b:=h.left v s j t f g m;unfold Ie at b;rw[o,y,Int.sub_self]at b;simp at b
def yo(p:Int×Int):Int×Int:=(p.1,-p.2)
def jv p:yo (yo p)=p:=by unfold yo;simp
def Yf.mz{cs}(h:Yf cs):Yf (cs.map yo).reverse:=
 h.flip _ (fun u v c=>by unfold Ie yo;dsimp only;grind) (fun x y e=>by rw[<-jv x,e,jv])
def je.mz{cs q}(h:je (cs.map yo).reverse q):Dh cs (yo q):=by
 obtain⟨u,v,⟨e,d⟩,f⟩:=h;obtain⟨i,g,b,c,a⟩:=(Md.rev e).map;refine⟨i,g,⟨a,?_⟩,?_⟩
 ·rw[b,c]at d;exact d
 ·rcases f with rfl|rfl
  ·right;rw[c,jv]
  ·left;rw[b,jv]
def Yf.minUp{cs}(h:Yf cs):∃u,Dh cs u/\∀c∈cs,u.1<=c.1:=by obtain⟨u,d,b⟩:=h.mz.minLow;refine⟨yo u,d.mz,fun c a=>?_⟩;exact b (yo c) (List.mem_reverse.2 (List.mem_map_of_mem a))
def Yf.maxLow{cs}(h:Yf cs):∃u,je cs u/\∀c∈cs,c.1<=u.1:=by
 obtain⟨u,d,b⟩:=h.ng.minUp;refine⟨Lg u,?_,fun c a=>?_⟩
 ·have:=Dh.ng.1 d
  rwa [List.map_map,show Lg ∘ Lg=id from funext Rk,List.map_id]at this
 ·have:=b (Lg c) (List.mem_map_of_mem a);unfold Lg at *;dsimp only at *;omega
def Yf.maxUp{cs}(h:Yf cs):∃u,Dh cs u/\∀c∈cs,c.1<=u.1:=by obtain⟨u,d,b⟩:=h.ng.minLow;refine⟨Lg u,Dh.ng.2 (by rw[Rk];exact d),fun c a=>?_⟩;have:=b (Lg c) (List.mem_map_of_mem a);unfold Lg at *;dsimp only at *;omega
def ie.ends{l}(h:ie l)(c:l≠[]):(∃q∈l,q.1=ub l)/\(∃q∈l,q.1=Wb l)/\∀q∈l,ub l<=q.1/\q.1<=Wb l:=by
 have a:=List.length_pos_iff.2 c;have j:=List.pairwise_iff_getElem.1 h;have d:ub l=(l[0]'a).1:=by unfold ub;rw[gD,gE a];rfl
 have e:Wb l=(l[l.length-1]' oM).1:=by unfold Wb;rw[gD,gE oM];rfl
 refine⟨⟨_,List.getElem_mem a,d.symm⟩,⟨_,List.getElem_mem oM,e.symm⟩,fun q k=>?_⟩;obtain⟨i,g,rfl⟩:=List.getElem_of_mem k;rw[d,e];constructor
 ·rcases Nat.eq_zero_or_pos i with rfl|b
  ·exact Int.le_refl _
  ·have:=j 0 i a g b;omega
 ·rcases Nat.lt_or_ge i (l.length-1)with f|f
  ·have:=j i (l.length-1) g oM f;omega
  ·have:i=l.length-1:=oM;subst this;exact Int.le_refl _
def Dh.mem{cs q}(h:Dh cs q):q∈cs:=by
 obtain⟨u,v,⟨a,_⟩,rfl|rfl⟩:=h
 ·exact a.mem.1
 ·exact a.mem.2
def Nv{p}(h:Fa p=true):ub (Mb p)=ub (Ga p)/\Wb (Mb p)=Wb (Ga p)/\ub (Ga p)<Wb (Ga p)/\Ga p≠[]/\Mb p≠[]:=by
 have s:=Gt h;obtain⟨r1,k,d1⟩:=Xp h;obtain⟨r2,l,d2⟩:=ur h;obtain⟨a,z,f⟩:=s.minLow;obtain⟨b,R,g⟩:=s.minUp;obtain⟨c,K,i⟩:=s.maxLow;obtain⟨d,hd,j⟩:=s.maxUp;have n1:Ga p≠[]:=fun e=>by have:=(k a).2 z;rw[e]at this;cases this
 have n2:Mb p≠[]:=fun e=>by have:=(l b).2 R;rw[e]at this;cases this
 obtain⟨⟨t,m,e1⟩,⟨w,n,e2⟩,r⟩:=r1.ends n1;obtain⟨⟨x,o,e3⟩,⟨y,q,e4⟩,L⟩:=r2.ends n2;have g1:=r a ((k a).2 z);have g2:=L b ((l b).2 R);have g3:=r c ((k c).2 K);have g4:=L d ((l d).2 hd);have k1:=f x ((l x).1 o).mem;have k2:=g t ((k t).1 m).mem;have k3:=i y ((l y).1 q).mem;have k4:=j w ((k w).1 n).mem;have k5:=f t ((k t).1 m).mem;have k6:=g x ((l x).1 o).mem;have k7:=i w ((k w).1 n).mem;have k8:=j y ((l y).1 q).mem;refine⟨by omega,by omega,?_,n1,n2⟩;obtain⟨u,v,⟨W,hx⟩,_⟩:=z;have hu:=r u ((k u).2 ⟨u,v,⟨W,hx⟩,.inl rfl⟩);have hv:=r v ((k v).2 ⟨u,v,⟨W,hx⟩,.inr rfl⟩);omega
end
section
open Go.RowKit Go.Shelf
attribute [local go_sem] Oper.semAt_some
def yU(w:N)(s:Sp)(d e f:F)(b:Int)(a:List Rat)(o:Rat×Rat)(g:Nat)(c:F)(W:N):Prop:=
 ∃i:Nat,i<=a.length/\c=Z I i/\g=a.length-i/\uk w s d e f a (Jc (Ae s b) a o i) W
def vT{w W W1 b o p u v a g m c i c2 s}(t:Ba w W)(L:w.heap.size+1+1+1<=W.heap.size)(K:W.heap[w.heap.size]?=G o)(q:RB W (w.heap.size+1) u)(r:RB W (w.heap.size+1+1) v)(j:Fb W (Q #[O a m c,J s,O g i c2]) p)(d:((W.setCell ⟨w.heap.size+1,0,Y⟩ (O a m c)).setCell ⟨w.heap.size+1,1,Y⟩ (J s)).setCell ⟨w.heap.size+1,2,Y⟩ (O g i c2)=W1)(e:((W1.setCell ⟨w.heap.size+1+1,0,Y⟩ (O a m c)).setCell ⟨w.heap.size+1+1,1,Y⟩ (J s)).setCell ⟨w.heap.size+1+1,2,Y⟩ (O g i c2)=b):Ba w b.drew/\w.heap.size+1+1+1<=b.drew.heap.size/\b.drew.heap[w.heap.size]?=G o/\RB b.drew (w.heap.size+1) p/\RB b.drew (w.heap.size+1+1) p:=by
 obtain⟨k,l,x,y,z,n⟩:=RB.copy2 q r oM j j d e;have f:Ba b b.drew:=(eR _).drew;refine⟨(n w t oM oM).drew,nT oM f.size,f.e ?_,k.ext f,l.ext f⟩;rw[<-e,<-d]
 repeat rw[bS _ _ _ _ dO]
 exact K
def uk.box{w s R v2 g j o W}(h:uk w s R v2 g j o W){a x m c K c2 b v p p0}(hb:w.heap.size+1+1+1<=b)(hv:g.ownBlock≠G b)(y:RB W b p0)(hz:Fb W (Q #[O a m c,J v,O x K c2]) p){W1}(d:((W.setCell ⟨b,0,Y⟩ (O a m c)).setCell ⟨b,1,Y⟩ (J v)).setCell ⟨b,2,Y⟩ (O x K c2)=W1):uk w s R v2 g j o W1/\RB W1 b p/\(∀b' r,b'≠b->RB W b' r->RB W1 b' r)/\W1.heap.size=W.heap.size:=by
 obtain⟨h1,h2,h3,h4,h5,h6⟩:=h;have n:=y.not;have t:=n.set ⟨b,0,Y⟩ (O a m c);have L:=t.set ⟨b,1,Y⟩ (J v);have k:∀b' r,b'≠b->RB W b' r->RB W1 b' r:=fun b' r f hr=>by
  rw[<-d];exact((hr.other (Ne.symm f) n _).other (Ne.symm f) t _).other (Ne.symm f) L _
 have e:∀(V:N)(u:F)(q:T),q.block=b->Nf V (w.heap.size+1+1+1) g j->ud 2 V b->Nf (V.setCell q u) (w.heap.size+1+1+1) g j:=fun V u q z ho hn=>by
  obtain⟨cs,k1,k2,k3⟩:=ho;exact⟨cs,k1.setOther (by rw[z];exact hv) _,k2,fun i c q' hc l=>Fb.keep (k3 i c q' hc l) (Ja.y (Ja.refl _ _) (by rw[z];exact hn) u)⟩
 refine⟨⟨?_,?_,?_,k _ _ oM h4,k _ _ oM h5,?_⟩,?_,k,?_⟩
 ·rw[<-d];exact((h1.set dO _).set dO _).set dO _
 ·rw[<-d];simpa using h2
 ·rw[<-d]
  repeat rw[bS _ _ _ _ dO]
  exact h3
 ·rw[<-d];exact e _ _ _ rfl (e _ _ _ rfl (e _ _ _ rfl h6 n) t) L
 ·rw[<-d];exact y.put hz
 ·rw[<-d];simp
def mF(q:Rat):-1<=q.num.sign/\q.num.sign<=1:=by
 rcases Int.lt_trichotomy q.num 0 with h|h|h
 ·rw[Int.sign_eq_neg_one_of_neg h];decide
 ·rw[h];decide
 ·rw[Int.sign_eq_one_of_pos h];decide
def CA(w:N)(s:Sp)(e f j:F)(d:List Rat)(o:Rat×Rat)(i:Nat)(x g:Rat)(a b c:F)(W:N):Prop:=
 ∃b11 b12,a=Z I (i:Int)/\b=C (G ⟨b11,0,Y⟩)/\c=C (G ⟨b12,0,Y⟩)/\w.heap.size+1+1+1<=b11/\b11<b12/\b12<W.heap.size/\uk w s e f j d o W/\RB W b11 x/\RB W b12 g
def YG(w:N)(s:Sp)(f j k:F)(e:List Rat)(o:Rat×Rat)(i:Nat)(x g h:Rat)(a b c d:F)(W:N):Prop:=
 ∃b13,CA w s f j k e o i x g a b c W/\d=C (G ⟨b13,0,Y⟩)/\b13<W.heap.size/\RB W b13 h
def xy{w s v1 v2 vq qs o W}(h:uk w s v1 v2 vq qs o W){a z e K m c R c2 n k n2 L s1 t p q x g b d i}(u:Fb W (Q #[O a m c,J s1,O z R c2]) p)(v:Fb W (Q #[O e n k,J t,O K n2 L]) q)(z1:w.heap.size+1+1+1<=b)(z2:b<d)(z3:d<W.heap.size)(h1:RB W b x)(h2:RB W d g){W1 f}(l:((W.setCell ⟨w.heap.size+1,0,Y⟩ (O a m c)).setCell ⟨w.heap.size+1,1,Y⟩ (J s1)).setCell ⟨w.heap.size+1,2,Y⟩ (O z R c2)=W1)(r:((W1.setCell ⟨w.heap.size+1+1,0,Y⟩ (O e n k)).setCell ⟨w.heap.size+1+1,1,Y⟩ (J t)).setCell ⟨w.heap.size+1+1,2,Y⟩ (O K n2 L)=f):CA w s v1 v2 vq qs (p,q) i x g (Z I (i:Int)) (C (G ⟨b,0,Y⟩)) (C (G ⟨d,0,Y⟩)) f:=by obtain⟨P1,P2,y⟩:=uk.put2 h u v l r;have j:Ba f f:=eR _;exact⟨b,d,rfl,rfl,rfl,z1,z2,Nat.lt_of_lt_of_le oM j.size,P1.ext j,(y _ _ oM h1).ext j,(y _ _ oM h2).ext j⟩
def AJ{w s t u j p o W}(h:uk w s t u j p o W){a l m c n c2 q x g r p0 d e b i}(R:Fb W (Q #[O a m c,J q,O l n c2]) r)(z1:w.heap.size+1+1+1<=d)(z2:d<e)(z3:e<b)(z4:b<W.heap.size)(z:RB W d x)(K:RB W e g)(L:RB W b p0)(hv:j.ownBlock≠G b){W1}(f:((W.setCell ⟨b,0,Y⟩ (O a m c)).setCell ⟨b,1,Y⟩ (J q)).setCell ⟨b,2,Y⟩ (O l n c2)=W1):YG w s t u j p o i x g r (Z I (i:Int)) (C (G ⟨d,0,Y⟩)) (C (G ⟨e,0,Y⟩)) (C (G ⟨b,0,Y⟩)) W1:=by obtain⟨v,y,k,P4⟩:=uk.box h oM hv L R f;exact⟨b,⟨d,e,rfl,rfl,rfl,z1,z2,by omega,v,k _ _ oM z,k _ _ oM K⟩,rfl,by omega,y⟩
end
section
open Go.RowKit Go.Shelf Go.Sort Go.Lib
def oV(a:Nat->N->Prop)(c:Nat)(b:F)(W:N):Prop:=b=Z I 0/\a 0 W
def mN w v js b1 b2(i:Nat->N->Prop)(g:∀k W,i k W->Ge W v js)(h0:i 0 w)(af:0<js.length)(hf:∀k W j,i k W->js[k]?=G j->Calls Tryz.prog 102 #[Q (Ah j),C (G ⟨b1,0,Y⟩),C (G ⟨b2,0,Y⟩)] W fun e w'=>e=.returned (J true)/\i (k+1) w'):Calls Tryz.prog 88 #[v,.func (.func 102) #[] #[C (G ⟨b1,0,Y⟩),C (G ⟨b2,0,Y⟩)]] w fun e w'=>e=.returned (Z I 0)/\i 1 w':=by
 have h:=g 0 w h0;obtain⟨a,c,rfl⟩:=h.form;obtain⟨n,hn⟩:=gX js.length;rw[hn]at h af g ⊢;have u:=h.le;unfold maxLen at u;have ah:n<=9223372036854775807:=oM;have Hn:=za hn;have Hf:=za hf;have l:=za g;have p1:(0:Int)<(n:Int):=oM;clear hn u hf g h;go_in;go_wp2;go_loopg [8] 1 (oV i)
 case atStart=>exact⟨rfl,h0⟩
 case round =>
  obtain⟨rfl,hS⟩:=hrel;obtain⟨⟨⟨⟨nm,sh,d,de,gx,gz,wy,ax,az,sk⟩,k,⟨xl,xh⟩,zl,zh⟩,v⟩,hq⟩:∃q,js[0]?=G q:=⟨js[0]'(by rw[Hn.o];omega),by simp⟩;obtain⟨b,o,rfl,hb,f⟩:=(l.o _ _ hS).at' hq;have x:=za (Hf.o 0 wr _ hS hq);unfold Ah at f x;dsimp only at f x;have y:=f 0 (.string nm) rfl;have z:=f 1 v rfl;have K:=f 2 (Z I d) rfl;have L:=f 3 (Z I de) rfl;have R:=f 4 (Z I gx) rfl;have aa:=f 5 (Z I gz) rfl;have ab:=f 6 (Z I wy) rfl;have ac:=f 7 (Z I ax) rfl;have ad:=f 8 (Z I az) rfl;have ae:=f 9 (Z .u8 sk) rfl;have m:=f 10 (Z I k) rfl;have p:=f 11 (Z I xl) rfl;have r:=f 12 (Z I xh) rfl;have s:=f 13 (Z I zl) rfl;have t:=f 14 (Z I zh) rfl;simp only[Nat.add_zero,Nat.zero_mul]at y z K L R aa ab ac ad ae m p r s t;clear hq f hS h0;go_wp2_with(((go_at_call 102;(with_reducible refine(x.o).mono ?_);rintro e w1 ⟨rfl,ag⟩)));go_ret;exact⟨rfl,ag⟩
def zV(a:Nat->N->Prop)(js:List (JS×F))(b:Nat)(t5 c:F)(W:N):Prop:=
 ∃m:Nat,t5=Z I 0/\c=Z I (m:Int)/\b=js.length-m/\1<=m/\m<=js.length/\a m W
def EQ w v base(js:List (JS×F)) b1 b2(p:Nat->N->Prop)(l:∀k W,p k W->Ea 113 15 W base v (js.map jc))(x:∀k W W',p k W->Ba W W'->p k W')(h0:p 0 w)(ab:0<js.length)(aj:js.length<=1000000)(hv:∀j∈js,∃a n c,j.2=O a n c)(hf:∀k W j,p k W->js[k]?=G j->Calls Tryz.prog 102 #[Q (Ah j),C (G ⟨b1,0,Y⟩),C (G ⟨b2,0,Y⟩)] W fun e w'=>e=.returned (J true)/\p (k+1) w'):Calls Tryz.prog 51 #[v,.func (.func 102) #[] #[C (G ⟨b1,0,Y⟩),C (G ⟨b2,0,Y⟩)]] w fun e w'=>∃a c W1,e=.returned (O a 0 c)/\p js.length W1/\W1.grownBy w' v.ownBlock:=by
 have h:=l 0 w h0;have HI:=za (mN w v js b1 b2 p (fun k W hW=>(l k W hW).js) h0 ab hf);obtain⟨a,n,c,rfl⟩:=h.i;have hl:=h.len;rw[lL]at hl;subst hl;obtain⟨n,hn⟩:=gX js.length;rw[hn]at h HI aj l ab ⊢;have r:=za hn;have Hf:=za hf;have K:=za l;have y:=za x;obtain⟨g,rfl,aD,aE⟩:=h.blk (by rw[lL,r.o];omega);have L:n<=c/\c<=9223372036854775807:=by
  rcases h.2.2 with ⟨h9,_⟩|⟨g',cap,cur,hv,_,_,ak,ag,_⟩
  ·cases h9
  ·cases hv;rw[lL,r.o]at ak;unfold maxLen at ag;omega
 obtain⟨ae,af⟩:=L;obtain⟨R,hR⟩:∃R:Ending->N->Prop,(fun e w'=>∃a c' W1,e=.returned (O a 0 c')/\p n W1/\W1.grownBy w' (Value.slice (G ⟨g,0,Y⟩) n c).ownBlock)=R:=⟨_,rfl⟩;rw[hR];have HR:=za hR;clear hn hf l x h hR h0;go_in;go_wp2_with(go_at_call 88;(with_reducible refine(HI.o).mono ?_);rintro e w1 ⟨rfl,s⟩);go_loopg [5,6] (n-1) (zV p js)
 case atStart=>exact⟨1,rfl,by go_num,by rw[r.o],nE _,by rw[r.o];omega,s⟩
 case round =>
  clear s;obtain⟨m,rfl,rfl,rfl,aG,ai,hS⟩:=hrel;rw[r.o]at ai;have b:=K.o _ _ hS;by_cases aF:m<n
  ·obtain⟨⟨⟨⟨nm,sh,d,de,gx,gz,wy,ax,az,sk⟩,k,⟨xl,xh⟩,zl,zh⟩,v⟩,f⟩:∃q,js[m]?=G q:=⟨js[m]'(by rw[r.o];omega),by simp⟩;obtain⟨va,vn,vc,ac⟩:=hv _ (lM f);dsimp only at ac;subst ac;have ad:=b.cell (i:=m) (j:=0) (u:=.string nm) (by rw[lP,f];rfl) rfl;have aq:=b.cell (i:=m) (j:=1) (u:=O va vn vc) (by rw[lP,f];rfl) rfl;have ar:=b.cell (i:=m) (j:=2) (u:=Z I d) (by rw[lP,f];rfl) rfl;have au:=b.cell (i:=m) (j:=3) (u:=Z I de) (by rw[lP,f];rfl) rfl;have av:=b.cell (i:=m) (j:=4) (u:=Z I gx) (by rw[lP,f];rfl) rfl;have aw:=b.cell (i:=m) (j:=5) (u:=Z I gz) (by rw[lP,f];rfl) rfl;have ay:=b.cell (i:=m) (j:=6) (u:=Z I wy) (by rw[lP,f];rfl) rfl;have aA:=b.cell (i:=m) (j:=7) (u:=Z I ax) (by rw[lP,f];rfl) rfl;have aB:=b.cell (i:=m) (j:=8) (u:=Z I az) (by rw[lP,f];rfl) rfl;have aC:=b.cell (i:=m) (j:=9) (u:=Z .u8 sk) (by rw[lP,f];rfl) rfl;have al:=b.cell (i:=m) (j:=10) (u:=Z I k) (by rw[lP,f];rfl) rfl;have am:=b.cell (i:=m) (j:=11) (u:=Z I xl) (by rw[lP,f];rfl) rfl;have an:=b.cell (i:=m) (j:=12) (u:=Z I xh) (by rw[lP,f];rfl) rfl;have ao:=b.cell (i:=m) (j:=13) (u:=Z I zl) (by rw[lP,f];rfl) rfl;have ap:=b.cell (i:=m) (j:=14) (u:=Z I zh) (by rw[lP,f];rfl) rfl;simp only[Nat.add_zero]at ad;have HC:=za (fun W (hW:Ba wr W)=>Hf.o m W _ (y.o _ _ _ hS hW) f);unfold Ah at HC;dsimp only at HC;have zg:=(b.lt g rfl).2;clear f b hS;go_wp2_with(((go_at_call 102;refine cM (HC.o _ eA) ?_;rintro e w1 ⟨rfl,s⟩)));go_roundg (n-(m+1))
   case measure=>have:=r.o;omega
   case rel=>exact⟨m+1,rfl,by go_num,by rw[r.o],by omega,by rw[r.o];omega,s⟩
  ·obtain rfl:m=n:=oM;obtain⟨wc,aa,aH,ah⟩:=oF (P:=Tryz.prog) (t:=87) (z:=Q Pr) (w:=wr) (o:=0*15) (c2:=c-0) (fun w=>Tryz.zeroValue113 w) rfl (by simp[Value.cells,Pr];decide) Tryz.underlying87 b oM rfl;have c3:(m:Int)<=(c:Int):=oM;have c5:0<c:=oM;have c6:(0:Int)<(c:Int):=oM;simp only[Nat.zero_mul,Nat.sub_zero]at aa;go_wp2;rw[<-HR.o];exact⟨_,_,wr,rfl,hS,ah⟩
def iT{zs}{z:Int}(h:z∈zs):z∈compact zs:=by
 obtain⟨i,a,rfl⟩:=List.getElem_of_mem h;have b:∀j,(hj:j<zs.length)->zs.toArray[j]! = zs[j]:=fun j hj=>by rw[getElem!_pos _ _ (by simpa using hj)];simp
 have key:∀i,(a:i<zs.length)->∃j,j<zs.length/\keeps zs.toArray j=true/\zs.toArray[j]! = zs[i]:=by
  intro i;induction i with
  | zero=>intro a;exact⟨0,a,by simp[keeps],b 0 a⟩
  | succ i f =>
   intro a;cases hk:keeps zs.toArray (i+1)with
   | true=>exact⟨i+1,a,hk,b _ a⟩
   |false=>
    obtain⟨j,c,d,e⟩:=f oM;refine⟨j,c,d,?_⟩;rw[e,<-b _ a,<-b i oM];simp[keeps]at hk;grind
 obtain⟨j,c,d,e⟩:=key i a;unfold compact compactUpTo;refine List.mem_map.2 ⟨j,List.mem_filter.2 ⟨List.mem_range.2 c,d⟩,e⟩
def UL{s}{z:Int}(h:z=s.lo\/z=s.hi\/(s.lo<z/\z<s.hi/\∃q∈s.over++s.under,q.1=z)):(z:Rat)∈Zb s:=by
 unfold Zb Xd;refine List.mem_map_of_mem (iT (Wh.2 ?_));rcases h with rfl|rfl|⟨a,b,q,c,rfl⟩
 ·simp
 ·simp
 ·refine mC _ (mC _ ?_);unfold Ag;refine List.mem_filter.2 ⟨List.mem_map_of_mem c,?_⟩;unfold Qr;simp[a,b]
end
section
open Go.RowKit Go.Shelf
def Ch(by':Int)(a b:Int×Int):Prop:=a.1<b.1\/(a.1=b.1/\by'*(a.2-b.2)<0)
instance (by':Int) (a b:Int×Int):Decidable (Ch by' a b):=by unfold Ch;infer_instance
def Je(l:LP)(by':Int):Nat->Nat
 | 0=>0
 | i+1=>if Ch by' (Qa l i) (Qa l (Je l by' i))then i else Je l by' i
def jC l{by'}(d:by'=1\/by' = -1):∀n,Je l by' (n+1)<n+1/\∀j,j<n+1->¬Ch by' (Qa l j) (Qa l (Je l by' (n+1))):=by
 intro n;induction n with
 |zero=>
  have e:Je l by' 1=0:=by unfold Je;split<;>rfl
  rw[e];refine⟨by omega,fun j g=>?_⟩;obtain rfl:j=0:=oM;unfold Ch;rcases d with rfl|rfl<;>omega
 | succ n o =>
  obtain⟨i,b⟩:=o;have m:Je l by' (n+1+1)=if Ch by' (Qa l (n+1)) (Qa l (Je l by' (n+1)))then n+1 else Je l by' (n+1):=rfl;rw[m];obtain⟨f,k⟩:=gX (Je l by' (n+1));rw[k]at i b ⊢;by_cases c:Ch by' (Qa l (n+1)) (Qa l f)
  ·rw[if_pos c];refine⟨by omega,fun j g=>?_⟩;by_cases a:j=n+1
   ·subst a;unfold Ch;rcases d with rfl|rfl<;>omega
   ·have:=b j oM;unfold Ch at *
    rcases d with rfl|rfl<;>omega
  ·rw[if_neg c];refine⟨by omega,fun j g=>?_⟩;by_cases a:j=n+1
   ·subst a;exact c
   ·exact b j oM
def Vh(n s:Nat)(by':Int)(k:Nat):Nat:=(((s:Int)+by'*(k:Int))%(n:Int)).toNat
def ir{n s k by'}(h:0<n):Vh n s by' k<n:=by unfold Vh;have a:=Int.emod_nonneg ((s:Int)+by'*(k:Int)) (show (n:Int)≠0 by omega);have b:=Int.emod_lt_of_pos ((s:Int)+by'*(k:Int)) (show 0<(n:Int) by omega);omega
def ix{n s by'}(h:s<n):Vh n s by' 0=s:=by unfold Vh;simp only[Int.natCast_zero,Int.mul_zero,Int.add_zero];rw[Int.emod_eq_of_lt oM oM];omega
def lv{n s k by'}(h:0<n):(Vh n s by' k:Int)=((s:Int)+by'*(k:Int))%(n:Int):=by unfold Vh;have a:=Int.emod_nonneg ((s:Int)+by'*(k:Int)) (show (n:Int)≠0 by omega);omega
def ux{n s k by'}(h:0<n):(((Vh n s by' k:Nat):Int)+by'+(n:Int))%(n:Int)=((Vh n s by' (k+1):Nat):Int):=by
 rw[lv h,lv h,Int.add_emod_right,Int.emod_add_emod]
 congr 1
 rw[Int.natCast_add];grind
def xC{n s k}(h:0<n):(Vh n s 1 k+1)%n=Vh n s 1 (k+1):=by
 have:=ux (n:=n) (s:=s) (k:=k) (by':=1) h;rw[Int.add_emod_right]at this;have e:(((Vh n s 1 k+1)%n:Nat):Int)=((Vh n s 1 k:Nat)+1:Int)%n:=by rw[Int.natCast_emod,Int.natCast_add];rfl
 omega
def vC{n s k}(h:0<n):(Vh n s (-1) (k+1)+1)%n=Vh n s (-1) k:=by
 have a:=lv (n:=n) (s:=s) (k:=k+1) (by':=-1) h;have b:=lv (n:=n) (s:=s) (k:=k) (by':=-1) h;have e:(((Vh n s (-1) (k+1)+1)%n:Nat):Int)=((Vh n s (-1) (k+1):Nat)+1:Int)%n:=by rw[Int.natCast_emod,Int.natCast_add];rfl
 have:(((Vh n s (-1) (k+1)+1)%n:Nat):Int)=((Vh n s (-1) k:Nat):Int):=by
  rw[e,a,b,Int.emod_add_emod]
  congr 1
  rw[Int.natCast_add];grind
 omega
structure Xr (cs:LP) (by':Int) (L:LP):Prop where
 ne:L≠[]
 pos:0<cs.length
 at':∀k,k<L.length->Qa L k=Qa cs (Vh cs.length (Je cs by' cs.length) by' k)
 up:∀k,k+1<L.length->(Qa L k).1<(Qa L (k+1)).1
 stop:(Qa cs (Vh cs.length (Je cs by' cs.length) by' L.length)).1<=(Qa L (L.length-1)).1
def Sh{l i}(h:i<l.length):Qa l i=l[i]:=by unfold Qa;rw[gD,gE h];rfl
def Si{l i}(h:i<l.length):Qa l i∈l:=by rw[Sh h];exact List.getElem_mem h
def LC{l}(h:l.Nodup){i j}(hi:i<l.length)(b:j<l.length)(e:Qa l i=Qa l j):i=j:=by
 rw[Sh hi,Sh b]at e;have c:=List.pairwise_iff_getElem.1 h;rcases Nat.lt_trichotomy i j with a|a|a
 ·exact absurd e (c i j hi b a)
 ·exact a
 ·exact absurd e.symm (c j i b hi a)
def EB{l k}(h:k+1<l.length):(Qa l k,Qa l (k+1))∈Wg l:=by
 refine lM (i:=k) (Ex ?_ ?_)
 ·rw[Sh oM];exact gE _
 ·rw[Sh h];exact gE _
def xr{l}(h:ie l){i j}(a:i<j)(b:j<l.length):(Qa l i).1<(Qa l j).1:=by rw[Sh oM,Sh b];exact List.pairwise_iff_getElem.1 h i j oM b a
def GB{cs L by'}(v:by'=1\/by' = -1)(g:cs.Nodup)(h3:3<=cs.length)(hr:ie L)(l:L≠[])(p:∀q∈L,q∈cs)(y:∀c∈cs,c≠Qa L 0->Ch by' (Qa L 0) c)(t:∀k,k+1<L.length->∃i,i<cs.length/\(by'=1->Qa cs i=Qa L k/\Qa cs ((i+1)%cs.length)=Qa L (k+1))/\(by' = -1->Qa cs i=Qa L (k+1)/\Qa cs ((i+1)%cs.length)=Qa L k))(f:∀i j,i<cs.length->j<cs.length->Qa cs i=Qa L (L.length-1)->(by'=1->j=(i+1)%cs.length)->(by' = -1->i=(j+1)%cs.length)->(Qa cs j).1<=(Qa L (L.length-1)).1):Xr cs by' L:=by
 have W:=List.length_pos_iff.2 l;obtain⟨n,hn⟩:∃n,cs.length=n+1:=⟨cs.length-1,by omega⟩;obtain⟨u,w⟩:=jC cs v n;rw[<-hn]at u w;have d:∀k,k<L.length->Qa L k=Qa cs (Vh cs.length (Je cs by' cs.length) by' k):=by
  intro k;induction k with
  |zero=>
   intro _;rw[ix u];by_cases e:Qa cs (Je cs by' cs.length)=Qa L 0
   ·exact e.symm
   ·exfalso;obtain⟨j,R,x⟩:=List.getElem_of_mem (p _ (Si W));have:=w j oM;rw[Sh R,x]at this;exact this (y _ (Si u) e)
  | succ k o =>
   intro r;have o:=o oM;obtain⟨i,K,i1,i2⟩:=t k r;rcases v with rfl|rfl
   ·obtain⟨a,b⟩:=i1 rfl;rw[o]at a;have:=LC g K (ir oM) a;rw[<-b,this,xC oM]
   ·obtain⟨a,b⟩:=i2 rfl;rw[o]at b;have m:=LC g (Nat.mod_lt _ oM) (ir oM) b;have:i=Vh cs.length (Je cs (-1) cs.length) (-1) (k+1):=by
     have z:=vC (n:=cs.length) (s:=Je cs (-1) cs.length) (k:=k) oM;have h7:=ir (n:=cs.length) (s:=Je cs (-1) cs.length) (k:=k+1) (by':=-1) oM;rw[<-z]at m;rw[fj oM,fj oM]at m;split at m<;>split at m<;>omega
    rw[<-a,this]
 refine⟨l,by omega,d,fun k r=>xr hr oM r,?_⟩;have e:=d (L.length-1) oM;refine f _ _ (ir oM) (ir oM) e.symm (fun h=>?_) (fun h=>?_)
 ·subst h;rw[xC oM,show L.length-1+1=L.length by omega]
 ·subst h;have:=vC (n:=cs.length) (s:=Je cs (-1) cs.length) (k:=L.length-1) oM;rw[show L.length-1+1=L.length by omega]at this;exact this.symm
def XI{u v c}(e:c.1=u.1)(d:u.1<v.1)(h:0<Ie u v c):u.2<c.2:=by
 unfold Ie at h;rw[e]at h;have a:(v.1-u.1)*(c.2-v.2)-(v.2-u.2)*(u.1-v.1)=(v.1-u.1)*(c.2-u.2):=by grind
 rw[a]at h;by_cases b:u.2<c.2
 ·exact b
 ·have:=Int.mul_nonpos_of_nonneg_of_nonpos (show 0<=v.1-u.1 by omega) (show c.2-u.2<=0 by omega);omega
def uK{u v c}(e:c.1=v.1)(d:v.1<u.1)(h:0<Ie u v c):c.2<v.2:=by
 unfold Ie at h;rw[e]at h;have a:(v.1-u.1)*(c.2-v.2)-(v.2-u.2)*(v.1-v.1)=(u.1-v.1)*(v.2-c.2):=by grind
 rw[a]at h;by_cases b:c.2<v.2
 ·exact b
 ·have:=Int.mul_nonpos_of_nonneg_of_nonpos (show 0<=u.1-v.1 by omega) (show v.2-c.2<=0 by omega);omega
def YM{cs L}(x:Yf cs)(r:ie L)(m:∀q,q∈L ↔ je cs q)(d:∀e∈Wg L,Nk cs e.1 e.2)(ne:L≠[]):Xr cs 1 L:=by
 have W:=List.length_pos_iff.2 ne;have h3:=x.three;obtain⟨a,ha,l⟩:=x.minLow;have g:∀c∈cs,(Qa L 0).1<=c.1:=fun c f=>by
  have w:=(m a).2 ha;obtain⟨i,s,e⟩:=List.getElem_of_mem w;have h2:=l c f;rcases Nat.eq_zero_or_pos i with rfl|o
  ·rw[Sh W,e];exact h2
  ·have:=xr r o s;rw[Sh s,e]at this;omega
 refine GB (.inl rfl) x.nd h3 r ne (fun q b=>((m q).1 b).mem) ?_ ?_ ?_
 ·intro c f K;have w:=g c f;unfold Ch;by_cases e:(Qa L 0).1<c.1
  ·exact .inl e
  ·right
   refine⟨by omega,?_⟩;obtain⟨u,v,⟨p,n⟩,b⟩:=(m _).1 (Si W);rcases b with b|b
   ·(have y:c≠v:=fun o=>by rw[o,b]at e;exact e n);have:=x.left u v p c f (by rw[<-b];exact K) y;rw[<-b]at this n;have:=XI oM n this;omega
   ·exfalso;have:=g u p.mem.1;rw[b]at this;omega
 ·intro k hk;obtain⟨p,n⟩:=d _ (EB hk);obtain⟨i,s,e1,e2⟩:=(Lo oM).1 p;exact⟨i,s,fun _=>⟨e1,e2⟩,fun e=>absurd e dM⟩
 ·intro i j s hj e w _;have z:=w rfl;by_cases n:(Qa cs j).1<=(Qa L (L.length-1)).1
  ·exact n
  ·exfalso;have p:Md cs (Qa cs i) (Qa cs j):=(Lo oM).2 ⟨i,s,rfl,by rw[z];rfl⟩;have b:Qa cs j∈L:=(m _).2 ⟨_,_,⟨p,by rw[e];omega⟩,.inr rfl⟩;obtain⟨t,ht,R⟩:=List.getElem_of_mem b;rcases Nat.lt_or_ge t (L.length-1)with o|o
   ·have:=xr r o oM;rw[Sh ht,R]at this;omega
   ·have:t=L.length-1:=oM;rw[<-this,Sh ht,R]at n;omega
def YI{cs L}(x:Yf cs)(r:ie L)(m:∀q,q∈L ↔ Dh cs q)(d:∀e∈Wg L,Vn cs e.2 e.1)(ne:L≠[]):Xr cs (-1) L:=by
 have W:=List.length_pos_iff.2 ne;have h3:=x.three;obtain⟨a,ha,l⟩:=x.minUp;have g:∀c∈cs,(Qa L 0).1<=c.1:=fun c f=>by
  have w:=(m a).2 ha;obtain⟨i,s,e⟩:=List.getElem_of_mem w;have h2:=l c f;rcases Nat.eq_zero_or_pos i with rfl|o
  ·rw[Sh W,e];exact h2
  ·have:=xr r o s;rw[Sh s,e]at this;omega
 refine GB (.inr rfl) x.nd h3 r ne (fun q b=>((m q).1 b).mem) ?_ ?_ ?_
 ·intro c f K;have w:=g c f;unfold Ch;by_cases e:(Qa L 0).1<c.1
  ·exact .inl e
  ·right
   refine⟨by omega,?_⟩;obtain⟨u,v,⟨p,n⟩,b⟩:=(m _).1 (Si W);rcases b with b|b
   ·exfalso;have:=g v p.mem.2;rw[b]at this;omega
   ·(have y:c≠u:=fun o=>by rw[o,b]at e;exact e n);have:=x.left u v p c f y (by rw[<-b];exact K);rw[<-b]at this n;have:=uK oM n this;omega
 ·intro k hk;obtain⟨p,n⟩:=d _ (EB hk);obtain⟨i,s,e1,e2⟩:=(Lo oM).1 p;exact⟨i,s,fun e=>absurd e dM,fun _=>⟨e1,e2⟩⟩
 ·intro i j s hj e _ w;have z:=w rfl;by_cases n:(Qa cs j).1<=(Qa L (L.length-1)).1
  ·exact n
  ·exfalso;have p:Md cs (Qa cs j) (Qa cs i):=(Lo oM).2 ⟨j,hj,rfl,by rw[<-z];rfl⟩;have b:Qa cs j∈L:=(m _).2 ⟨_,_,⟨p,by rw[e];omega⟩,.inl rfl⟩;obtain⟨t,ht,R⟩:=List.getElem_of_mem b;rcases Nat.lt_or_ge t (L.length-1)with o|o
   ·have:=xr r o oM;rw[Sh ht,R]at this;omega
   ·have:t=L.length-1:=oM;rw[<-this,Sh ht,R]at n;omega
def QK{p}(h:Fa p=true):Xr (Ca p) 1 (Ga p):=
 YM (Gt h) (Xp h).1 (Xp h).2.1 (Xp h).2.2 (Nv h).2.2.2.1
def LH{p}(h:Fa p=true):Xr (Ca p) (-1) (Mb p):=
 YI (Gt h) (ur h).1 (ur h).2.1 (ur h).2.2 (Nv h).2.2.2.2
