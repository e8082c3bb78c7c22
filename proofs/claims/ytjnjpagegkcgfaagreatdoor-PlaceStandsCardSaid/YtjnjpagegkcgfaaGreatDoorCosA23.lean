/- Part 24. -/
import Derived.Test.YtjnjpagegkcgfaaGreatDoorCosA11
import Derived.Test.YtjnjpagegkcgfaaGreatDoorCosA22
import Derived.Test.YtjnjpagegkcgfaaGreatDoorCosA17
import Derived.Test.YtjnjpagegkcgfaaGreatDoorCosA08
set_option maxRecDepth 1000000
set_option maxHeartbeats 16000000
set_option linter.unusedSimpArgs false
set_option linter.unusedVariables false
open Go.IntKind renaming i64->O
open Go.Value renaming int->Y,slice->V,bool->C,pointer->F,agg->G
open Option renaming none->Z,some->N
open Go renaming World->I,Value->M,Addr->A
open Go.Obj renaming cells->J
namespace Go.Proofs.YtjnjpagegkcgfaaGreatDoor.Cop
section
open Go.RowKit Go.Shelf
attribute [local go_sem] Oper.semAt_some
def dirE(e:Edg):Int×Int:=
 ((e.2.1-e.1.1).tdiv (Nat.gcd (e.2.1-e.1.1).natAbs (e.2.2-e.1.2).natAbs:Nat),(e.2.2-e.1.2).tdiv (Nat.gcd (e.2.1-e.1.1).natAbs (e.2.2-e.1.2).natAbs:Nat))
def slopeX(l:Int)(x a:Rat)(e:Edg):Bool:=
 decide (rcmp x ((e.1.1:Int):Rat)<0) || (decide (rcmp x ((e.1.1:Int):Rat)=0)&&(decide (l<e.1.1)&&decide (0<=rcmp x a)))
def slopeR(ps:LP)(x a:Rat):Int×Int:=((eds ps).takeWhile fun e=>!slopeX (lineL ps) x a e).foldl (fun _ e=>dirE e) (0,0)
def EdOk(e:Edg):Prop:=(Bd 104000 e.1.1/\Bd 104000 e.1.2/\Bd 104000 e.2.1/\Bd 104000 e.2.2)/\e.1.1<=e.2.1/\e.1≠e.2
abbrev BF:={ e:Edg // EdOk e }
def LnUp(ps:LP):Prop:=∀e∈eds ps,e.1.1<=e.2.1/\e.1≠e.2
def SlA(s:Nat)(e:BF)(a:Act)(W:I):Prop:=
 ∃B,s+1+1+1+1+1+1<=B/\W.heap[B]?=N (J #[Y O e.1.1.1,Y O e.1.1.2] 43 (0,0))/\W.heap[B+1]?=N (J #[Y O e.1.2.1,Y O e.1.2.2] 43 (0,0)) /\
  a.tmps.size=73/\a.tmps.getD 3 undef=F (N ⟨s,0,Z⟩)/\a.tmps.getD 4 undef=F (N ⟨s+1,0,Z⟩)/\a.tmps.getD 5 undef=F (N ⟨s+1+1,0,Z⟩)/\a.tmps.getD 7 undef=F (N ⟨s+1+1+1+1,0,Z⟩) /\
  a.tmps.getD 8 undef=F (N ⟨B,0,Z⟩)/\a.tmps.getD 9 undef=F (N ⟨B+1,0,Z⟩)/\a.defers=[]
def SlW(w:I)(v:M)(x a:Rat)(o:Int×Int)(W:I):Prop:=
 Ext w W/\w.heap.size+1+1+1+1+1+1<=W.heap.size/\W.heap[w.heap.size]?=N (J #[v] 121 (0,0))/\RB W (w.heap.size+1) x/\RB W (w.heap.size+1+1) a /\
  W.heap[w.heap.size+1+1+1]?=N (J #[Y O 0,Y O 0] 43 (0,0))/\W.heap[w.heap.size+1+1+1+1]?=N (J #[Y O o.1,Y O o.2] 43 (0,0))
def SlI(w:I)(v:M)(l:Int)(x a:Rat)(pre:List BF)(W:I):Prop:=
 SlW w v x a (pre.foldl (fun _ e=>dirE e.1) (0,0)) W/\∀e∈pre,slopeX l x a e.1=false
def SlX(w:I)(v:M)(l:Int)(x a:Rat)(c:Code)(pre:List BF)(W:I):Prop:=
 c = .exit 0/\∃(p:List BF)(e:BF),pre=p++[e]/\SlW w v x a (p.foldl (fun _ e=>dirE e.1) (0,0)) W/\(∀e∈p,slopeX l x a e.1=false)/\slopeX l x a e.1=true
theorem SlW.ext{w:I}{v:M}{x a:Rat}{o:Int×Int}{W W':I}(h:SlW w v x a o W)(k:Ext W W'):SlW w v x a o W':=
 ⟨h.1.trans k,nT h.2.1 k.size,k.heapS h.2.2.1,h.2.2.2.1.ext k,h.2.2.2.2.1.ext k,k.heapS h.2.2.2.2.2.1,k.heapS h.2.2.2.2.2.2⟩
theorem SlW.sim{w:I}{v:M}{x a:Rat}{o:Int×Int}{W W':I}{B:Nat}(h:SlW w v x a o W)(k:Sim B W W')(b:w.heap.size<=B):SlW w v x a o W':=
 ⟨k.ext h.1 b,nT h.2.1 k.size,k.heap h.2.2.1,h.2.2.2.1.sim k,h.2.2.2.2.1.sim k,k.heap h.2.2.2.2.2.1,k.heap h.2.2.2.2.2.2⟩
theorem SlW.put{w:I}{v:M}{x d:Rat}{o:Int×Int}{W:I}(h:SlW w v x d o W)(a:Int×Int):SlW w v x d a ((W.setCell ⟨w.heap.size+1+1+1+1,0,Z⟩ (Y O a.1)).setCell ⟨w.heap.size+1+1+1+1,1,Z⟩ (Y O a.2)):=by
 obtain⟨f,g,i,j,k,h6,c⟩:=h;have b:NoT 2 W (w.heap.size+1+1+1+1):=by intro l m e;rw[c]at e;cases e
 refine⟨(f.set dO _).set dO _,by simp only[qcZ];exact g,?_,(j.other dO b _).other dO (b.set _ _) _,(k.other dO b _).other dO (b.set _ _) _,?_,?_⟩
 ·rw[bS _ _ _ _ dO,bS _ _ _ _ dO];exact i
 ·rw[bS _ _ _ _ dO,bS _ _ _ _ dO];exact h6
 ·have:=zbc (zbc c 0 (Y O a.1)) 1 (Y O a.2)
  exact this
theorem zlJ{ps:LP}{x d:Rat}{f:List BF}(c:f.map (fun e=>e.1)=eds ps){p:List BF}{e:BF}(l:p++[e] <+: f)(k:∀e∈p,slopeX (lineL ps) x d e.1=false)(j:slopeX (lineL ps) x d e.1=true) :
  slopeR ps x d=p.foldl (fun _ e=>dirE e.1) (0,0):=by
 obtain⟨t,rfl⟩:=l;unfold slopeR
 rw[<-c,List.append_assoc,List.map_append,List.takeWhile_append_of_pos (by
  intro a g;obtain⟨b,i,rfl⟩:=List.mem_map.1 g;simp[k b i])]
 rw[show ([e]++t).map (fun e:BF=>e.1)=e.1::t.map (fun e=>e.1)from rfl,List.takeWhile_cons_of_neg (by simp[j]),List.append_nil,List.foldl_map]
theorem zkl{ps:LP}{x f:Rat}{c:List BF}(d:c.map (fun e=>e.1)=eds ps)(j:∀e∈c,slopeX (lineL ps) x f e.1=false):slopeR ps x f=c.foldl (fun _ e=>dirE e.1) (0,0):=by
 unfold slopeR
 have h:=List.takeWhile_append_of_pos (p:=fun e=>!slopeX (lineL ps) x f e) (l₁:=c.map fun e=>e.1) (l₂:=[]) (by
  intro a g;obtain⟨b,i,rfl⟩:=List.mem_map.1 g;simp[j b i])
 rw[List.append_nil,List.takeWhile_nil,List.append_nil]at h;rw[<-d,h,List.foldl_map]
def RetPt(w:I)(p:Int×Int)(e:Ending)(w':I):Prop:=e = .returned (G #[Y O p.1,Y O p.2])/\Ext w w'
theorem zeb(w:I)(v vx vr:M)(ps:LP)(x rt:Rat)(h:IsPts w v ps)(aK:LnOk ps)(bu:LnUp ps)(hx:IsR w vx x)(hb:Rb 1000 x)(hr:IsR w vr rt)(bj:Rb 1000 rt) :
  Calls Tryz.prog 77 #[v,vx,vr] w (RetPt w (slopeR ps x rt)):=by
 have HL:=hd9 (fun W (hW:Ext w W)=>zbo W v ps (h.ext' hW) (List.length_pos_iff.2 aK.1));obtain⟨a,c,rfl⟩:=h.form;obtain⟨xa,xm,xc,xs,bW,bY,bX,rfl⟩:=hx.form;obtain⟨ya,ym,yc,ys,bZ,b1,b0,rfl⟩:=hr.form;have Hb:=hd9 hb;have bJ:=hd9 bj;have b4:=hd9 aK;obtain⟨n,hn⟩:=gX ps.length;rw[hn]at h HL ⊢;have Hn:=hd9 hn;obtain⟨es,bk⟩:∃es:List BF,es.map (fun e=>e.1)=eds ps:=⟨(eds ps).attachWith EdOk (fun e Q=>⟨zgO aK.2.1 Q,bu e Q⟩),zaT _⟩;have bf:=hd9 bk;clear hb bj aK hn bu;refine(callsIn_wide (n:=5)).1 ?_;refine callsIn_of_wp_marks Tryz.func77 rfl trivial ?_ rfl;simp only[Tryz.ntmps77,List.size_toArray,List.length_cons,List.length_nil,Nat.reduceAdd,Nat.reduceSub,Array.replicate_succ,Array.replicate_zero,List.push_toArray,List.append_toArray,List.nil_append,List.cons_append]
 gi_wp2_with(refine⟨trivial,?_⟩;gi_at_call 148;refine(callsIn_wide.2 (zfj _ _ _ _)).mono ?_;rintro e w' ⟨rfl,rfl⟩)
 obtain⟨W0,R⟩:=gX (((((((w.alloc (J #[V a n c] 121)).alloc (J #[V xa xm xc,C xs,V bW bY bX] 63)).alloc (J #[V ya ym yc,C ys,V bZ b1 b0] 63)).alloc (J #[Y O 0,Y O 0] 43)).alloc (J #[Y O 0,Y O 0] 43)).alloc (J #[V a n c] 121)));have bv:Ext w W0:=by rw[<-R];exact((((((eR w).alloc _).alloc _).alloc _).alloc _).alloc _).alloc _
 have cb:W0.heap.size=w.heap.size+1+1+1+1+1+1:=by rw[<-R];simp
 have bQ:W0.cell? ⟨w.heap.size+1+1+1+1+1,0,Z⟩=N (V a n c):=by rw[<-R,World.cell?_alloc_at _ _ _ _ sM];rfl
 have bO:SlI w (V a n c) (lineL ps) x rt [] W0:=by
  refine⟨⟨bv,by omega,?_,?_,?_,?_,?_⟩,fun e Q=>by cases Q⟩
  ·rw[<-R];exact(((((eR _).alloc _).alloc _).alloc _).alloc _).alloc _ |>.heapS (aN w _)
  ·rw[<-R];exact(RB.new (hx.ext ((eR w).alloc _)) sM).ext (((((eR _).alloc _).alloc _).alloc _).alloc _)
  ·rw[<-R];exact(RB.new (hr.ext (((eR w).alloc _).alloc _)) sM).ext ((((eR _).alloc _).alloc _).alloc _)
  ·rw[<-R];exact((eR _).alloc _).alloc _ |>.heapS (qhA _ _ _ sM)
  ·rw[<-R];exact(eR _).alloc _ |>.heapS (qhA _ _ _ sM)
 rw[R];clear R
 refine wpIn_rangeFunc_ownH rfl dM (gf:=196) (lb:=#[F (N ⟨w.heap.size+1+1+1+1+1,0,Z⟩)]) rfl trivial (enters_of Tryz.func196 kM rfl)
  (zdy (fun e:BF=>e.1) _ dM (w.heap.size+1+1+1+1+1) w _ _ ps es bk bQ oM h bv) KpW.trans (KpW.put oM oM) (Below.refl _ _) (fun _=>rfl)
  (SlI w (V a n c) (lineL ps) x rt) (SlX w (V a n c) (lineL ps) x rt) (zam (fun s W h=>by have:=h.1.2.1;omega) (fun s W W' h k=>⟨h.1.sim k oM,h.2⟩)) (fun c=>zam (fun s W h=>by obtain⟨_,_,_,_,h,_⟩:=h;have:=h.2.1;omega) (fun s W W' h k=>by obtain⟨h0,p,e,h1,h2,h3,h4⟩:=h;exact⟨h0,p,e,h1,h2.sim k oM,h3,h4⟩)) bO
  (fun e a' W=>SlA w.heap.size e a' W) (fun e a'=>zam (fun s W h=>by obtain⟨B,h1,h2,h3,_⟩:=h;have:=zaa h2;omega) (fun s W W' h k=>by obtain⟨B,h1,h2,h3,h4⟩:=h;exact⟨B,h1,k.heap h2,k.heap h3,h4⟩)) ?assign ?body ?done ?stop
 case assign =>
  rintro l pre e W K hI f;unfold ence
  gi_wp2
  have hE:Ext W ((W.alloc (J #[Y O e.1.1.1,Y O e.1.1.2] 43)).alloc (J #[Y O e.1.2.1,Y O e.1.2.2] 43)):=((eR W).alloc _).alloc _;refine f _ _ (((KeepsOthers.alloc _ _).trans (KeepsOthers.alloc _ _)).from _) ((KpW.refl _ _ W).ext hE hI.1.1.size (by have:=hI.1.2.1;omega)) ⟨hI.1.ext hE,hI.2⟩ ⟨W.heap.size,hI.1.2.1,zjh W _ _,zji W _ _,rfl,rfl,rfl,rfl,rfl,rfl,rfl,rfl⟩
 case body =>
  rintro l pre e a' W hl ⟨r,ca⟩ hI hA b6;obtain⟨tt,dd⟩:=a';obtain⟨B,hB,q1,q2,g0,g3,g4,g5,g7,g8,g9,gd⟩:=hA;dsimp only at g0 g3 g4 g5 g7 g8 g9 gd;subst gd;obtain⟨u,hu,ht⟩:=arrU tt 73 g0;simp only[hu]at g3 g4 g5 g7 g8 g9;clear hu;subst ht;simp only[List.range,List.range.loop,List.map_cons,List.map_nil,g3,g4,g5,g7,g8,g9];clear g0 g3 g4 g5 g7 g8 g9;obtain⟨⟨⟨y,az⟩,bx,bz⟩,⟨aM,bo,bq⟩⟩:=e;dsimp only at q1 q2 aM bo bq ⊢;obtain⟨⟨h1,h2,h3,h4,h5,h6,h7⟩,aa⟩:=hI;have bi:SlW w (V a n c) x rt (pre.foldl (fun _ e=>dirE e.1) (0,0)) W:=⟨h1,h2,h3,h4,h5,h6,h7⟩;have ag:=hd9 bi;have ah:=hd9 aa;obtain⟨ap,ar,aq,au,ab,ad,ac,r0,r1,r2,_,_,_,zr,bB⟩:=h4.rd;obtain⟨ta,tm,tc,ts,a9,bb,ba,t0,t1,t2,_,_,_,zt,bA⟩:=h5.rd;have l0:=qcB h3 (i:=0) (u:=V a n c) rfl;have e0:=qcB q1 (i:=0) (u:=Y O y) rfl;have z1:=zaa q1;have z2:=zaa q2;have an:=hd9 q1;have ao:=hd9 q2;obtain⟨aH,bL,bM,bN⟩:=aM;have bg:=zaC (k:=104000) (n:=y) aH;have av:=hd9 bg;have aU:=hd9 (fun W=>zaP W y (by unfold Bd at aH;omega) (by unfold Bd at aH;omega));have aE:=hd9 bB;have bK:=hd9 bA;have be:=hd9 (fun W' (hW:Ext W W')=>HL.out W' (h1.trans hW));obtain⟨T1,a0⟩:=gX (rcmp x ((y:Int):Rat));have aT:=hd9 a0;obtain⟨T2,a1⟩:=gX (rcmp x rt);have bI:=hd9 a1;obtain⟨lf,aJ⟩:=gX (lineL ps);rw[aJ]at be;have b2:=hd9 aJ;have bt:slopeX (lineL ps) x rt ((y,az),bx,bz)=(decide (T1<0) || (decide (T1=0)&&(decide (lf<y)&&decide (0<=T2)))):=by unfold slopeX;dsimp only;rw[a0,a1,aJ]
  have aA:=hd9 bt;have bT:0<=bx-y/\bx-y<=208000:=by unfold Bd at aH bM;omega
  have bU : -208000<=bz-az/\bz-az<=208000:=by unfold Bd at bL bN;omega
  obtain⟨m,aP⟩:=gX (bx-y);obtain⟨j,aQ⟩:=gX (bz-az);rw[aP]at bT;rw[aQ]at bU;obtain⟨d,aI⟩:∃g:Nat,Nat.gcd m.natAbs j.natAbs=g:=⟨_,rfl⟩
  have b5:0<d:=by
   rw[<-aI]
   rcases Nat.eq_zero_or_pos (Nat.gcd m.natAbs j.natAbs)with h|h
   ·exfalso
    obtain⟨q1,q2⟩:=Nat.gcd_eq_zero_iff.1 h
    apply bq
    have:=Int.natAbs_eq_zero.1 q1;have:=Int.natAbs_eq_zero.1 q2;exact Prod.ext dO dO
   ·exact h
  have aw:=hd9 (fun W'=>show Calls Tryz.prog 149 #[Y O m,Y O (max j (-j))] W' (fun e w'=>e = .returned (Y O (d:Nat))/\Ext W' w') by
   have h:=zgu W' m.natAbs j.natAbs oM oM;rw[aI,show ((m.natAbs:Nat):Int)=m by omega,show ((j.natAbs:Nat):Int)=max j (-j) by omega]at h;exact h)
  have aO:dirE ((y,az),bx,bz)=(m.tdiv d,j.tdiv d):=by unfold dirE;dsimp only;rw[aP,aQ,aI]
  have ay:=hd9 aO;have b8:(m.tdiv (d:Int)).natAbs<=208000:=by rw[Int.natAbs_tdiv];exact nT (Nat.div_le_self _ _) oM
  have b9:(j.tdiv (d:Int)).natAbs<=208000:=by rw[Int.natAbs_tdiv];exact nT (Nat.div_le_self _ _) oM
  clear aO aI
  have bh:CellL [(⟨w.heap.size+1,0,Z⟩,V ap ar aq),(⟨w.heap.size+1,1,Z⟩,C au),(⟨w.heap.size+1,2,Z⟩,V ab ad ac),(⟨w.heap.size+1+1,0,Z⟩,V ta tm tc),(⟨w.heap.size+1+1,1,Z⟩,C ts),(⟨w.heap.size+1+1,2,Z⟩,V a9 bb ba),(⟨w.heap.size,0,Z⟩,V a n c),(⟨B,0,Z⟩,Y O y)] W.drew:=
   ⟨r0,r1,r2,t0,t1,t2,l0,e0,trivial⟩
  have bH:=hd9 bh;clear bi aa h3 h4 h5 h6 h7 r0 r1 r2 t0 t1 t2 l0 e0 bB bA a0 a1 aJ bt bh bg q1 q2
  gi_wp2
  refine zaq (S:=CellL [(⟨w.heap.size+1,0,Z⟩,V ap ar aq),(⟨w.heap.size+1,1,Z⟩,C au),(⟨w.heap.size+1,2,Z⟩,V ab ad ac),(⟨w.heap.size+1+1,0,Z⟩,V ta tm tc),(⟨w.heap.size+1+1,1,Z⟩,C ts),(⟨w.heap.size+1+1,2,Z⟩,V a9 bb ba),(⟨w.heap.size,0,Z⟩,V a n c),(⟨B,0,Z⟩,Y O y)]) kM kM bH.out (fun b=>?_);refine sN 0 ?_
  iterate 3
   refine tkn ?_
  refine oN ?_;refine cl1 (i:=3) fun K f=>?_
  go_simp
  (with_reducible refine cM (aU.out _) ?_)
  rintro e w3 ⟨v3,rfl,bs,a4⟩;obtain⟨a3,m3,c3,s3,b3,n3,k3,rfl⟩:=bs.form
  go_wp2_with fail
  refine kO f (cE b a4) (fun b=>?_);clear f K;have ae:=hd9 (zaE w3 (G #[V ap ar aq,C au,V ab ad ac]) (G #[V a3 m3 c3,C s3,V b3 n3 k3]) x ((y:Int):Rat) (aE.out.ext ((eR W).drew.trans a4)) bs (Hb.out.mono dM) (av.out.mono dM));rw[aT.out]at ae;refine cl1 (i:=4) fun K f=>?_
  go_simp
  (with_reducible refine cM ae.out ?_)
  rintro e w4 ⟨rfl,bw⟩
  skip
  go_wp2_with fail
  refine kO f (cE b bw) (fun b=>?_);clear f K;have X4:Ext W w4:=((eR W).drew.trans a4).trans bw;clear ae
  by_cases hn:T1<0
  ·have L:slopeX (lineL ps) x rt ((y,az),bx,bz)=true:=by rw[aA.out,decide_eq_true hn];rfl
   refine sN 5 ?_
   iterate 2
    refine tkn ?_
   iterate 19
    refine tkgn ?_
   refine tkn ?_;refine oN ?_;refine wpAnyH_done kM ?_ _;unfold NQ
   gi_wp2
   exact⟨zaA X4,rfl,pre,_,rfl,ag.out.ext X4,ah.out,L⟩
  by_cases hp:0<T1
  ·have b7:(T1==0)=false:=by simp;omega
   have L:slopeX (lineL ps) x rt ((y,az),bx,bz)=false:=by rw[aA.out,decide_eq_false hn,show decide (T1=0)=false by simp;omega];rfl
   refine sN 5 ?_
   iterate 5
    refine tkn ?_
   refine oN ?_;refine cl1 (i:=10) fun K f=>?_
   go_simp
   (with_reducible refine cM (aU.out _) ?_)
   rintro e bc ⟨bV,rfl,aj,P⟩;obtain⟨aW,a6,aY,a8,aX,a7,a5,rfl⟩:=aj.form
   go_wp2_with fail
   refine kO f (cE b P) (fun b=>?_);clear f K;have ae:=hd9 (zaE bc (G #[V ap ar aq,C au,V ab ad ac]) (G #[V aW a6 aY,C a8,V aX a7 a5]) x ((y:Int):Rat) (aE.out.ext (X4.trans P)) aj (Hb.out.mono dM) (av.out.mono dM));rw[aT.out]at ae;refine cl1 (i:=11) fun K f=>?_
   go_simp
   (with_reducible refine cM ae.out ?_)
   rintro e T ⟨rfl,ak⟩
   skip
   go_wp2_with fail
   refine kO f (cE b ak) (fun b=>?_);clear f K;have aF:Ext W T:=(X4.trans P).trans ak;refine sN 12 ?_
   iterate 2
    refine tkn ?_
   iterate 5
    refine tkgn ?_
   iterate 2
    refine tkn ?_
   iterate 4
    refine tkgn ?_
   iterate 2
    refine tkn ?_
   refine oN ?_;refine wpAnyH_done kM ?_ _;unfold NQ;have hX:Ext W T:=aF;have bD:=qcB (hX.heapS an.out) (i:=0) (u:=Y O y) rfl;have bE:=qcB (hX.heapS an.out) (i:=1) (u:=Y O az) rfl;have bF:=qcB (hX.heapS ao.out) (i:=0) (u:=Y O bx) rfl;have bG:=qcB (hX.heapS ao.out) (i:=1) (u:=Y O bz) rfl
   gi_wp2
   refine⟨trivial,CallsIn.mono (CallsIn.inRound l (callsIn_wide.2 (aw.out _))) ?_⟩;rintro e w5 ⟨rfl,al⟩;dsimp only;have ai:=al.heapS (aN T (J #[Y O m,Y O j] 43));have d0:=qcB ai (i:=0) (u:=Y O m) rfl;have d1:=qcB ai (i:=1) (u:=Y O j) rfl;have X5:Ext W w5:=(hX.alloc _).trans al;have bl:¬((d:Nat):Int)=0:=oM
   have bn:¬d=0:=oM
   have bm:(((d:Nat):Int)==0)=false:=by simp;omega
   have u1:IntKind.i64.wrap (m.tdiv d)=m.tdiv d:=iW _ ⟨by omega,by omega⟩;have u2:IntKind.i64.wrap (j.tdiv d)=j.tdiv d:=iW _ ⟨by omega,by omega⟩;have z:=(ag.out.ext X5).2.2.2.2.2.2;have o0:=qcB z (i:=0) rfl;have o1:=qcB z (i:=1) rfl;have of:=qfB z;have bC:w.heap.size+1+1+1+1<T.heap.size:=by have:=hX.size;omega
   have t:=hd9 (show ∀q∈[((⟨T.heap.size,0,Z⟩:A),Value.int O m),(⟨T.heap.size,1,Z⟩,Y O j)],w.heap.size+1+1+1+1≠q.1.block from fun q hq h=>by
    simp at hq
    rcases hq with rfl|rfl<;>(dsimp only at h;omega))
   gi_wp2
   refine zaq (S:=CellL [(⟨T.heap.size,0,Z⟩,Y O m),(⟨T.heap.size,1,Z⟩,Y O j)]) kM kM ⟨d0,d1,trivial⟩ (fun b=>?_);refine sN 0 ?_
   iterate 9
    refine tkn ?_
   refine oN ?_;refine cl1 (i:=9) fun K f=>?_
   go_simp;refine kO f (CellL.set (p:=⟨w.heap.size+1+1+1+1,1,Z⟩) (CellL.set (p:=⟨w.heap.size+1+1+1+1,0,Z⟩) b t.out _) t.out _) (fun b=>?_);clear f K;refine wpAnyH_done kM ?_ _;unfold NQ;have aB:=(ag.out.ext X5.drew).put (m.tdiv d,j.tdiv d);have aC:KeepsFrom W0.heap.size W ((w5.drew.setCell ⟨w.heap.size+1+1+1+1,0,Z⟩ (Y O (m.tdiv d))).setCell ⟨w.heap.size+1+1+1+1,1,Z⟩ (Y O (j.tdiv d))):=((zaA X5.drew).trans ((KeepsOthers.setCell _ _ _).from _)).trans ((KeepsOthers.setCell _ _ _).from _)
   have aD:KpW w (w.heap.size+1+1+1+1+1) W ((w5.drew.setCell ⟨w.heap.size+1+1+1+1,0,Z⟩ (Y O (m.tdiv d))).setCell ⟨w.heap.size+1+1+1+1,1,Z⟩ (Y O (j.tdiv d))):=
    (((KpW.refl w _ W).ext X5.drew h1.size oM).set dO dO _).set dO dO _
   gi_wp2
   refine⟨aC,aD,?_,fun e Q=>?_⟩
   ·rw[List.foldl_append,List.foldl_cons,List.foldl_nil]
    dsimp only;rw[ay.out];exact aB
   ·rcases List.mem_append.1 Q with Q|Q
    ·exact ah.out e Q
    ·rw[List.mem_singleton.1 Q];exact L
  ·have bP:T1=0:=oM
   subst bP;clear hn hp;refine sN 5 ?_
   iterate 5
    refine tkn ?_
   refine oN ?_;refine cl1 (i:=10) fun K f=>?_
   go_simp
   (with_reducible refine cM (aU.out _) ?_)
   rintro e bc ⟨bV,rfl,aj,P⟩;obtain⟨aW,a6,aY,a8,aX,a7,a5,rfl⟩:=aj.form
   go_wp2_with fail
   refine kO f (cE b P) (fun b=>?_);clear f K;have ae:=hd9 (zaE bc (G #[V ap ar aq,C au,V ab ad ac]) (G #[V aW a6 aY,C a8,V aX a7 a5]) x ((y:Int):Rat) (aE.out.ext (X4.trans P)) aj (Hb.out.mono dM) (av.out.mono dM));rw[aT.out]at ae;refine cl1 (i:=11) fun K f=>?_
   go_simp
   (with_reducible refine cM ae.out ?_)
   rintro e T ⟨rfl,ak⟩
   skip
   go_wp2_with fail
   refine kO f (cE b ak) (fun b=>?_);clear f K;have aF:Ext W T:=(X4.trans P).trans ak;refine sN 12 ?_
   iterate 5
    refine tkn ?_
   refine oN ?_;refine cl1 (i:=17) fun K f=>?_
   go_simp
   (with_reducible refine cM (be.out _ aF) ?_)
   rintro e af ⟨rfl,aR⟩
   skip
   go_wp2_with fail
   refine kO f (cE b aR) (fun b=>?_);clear f K;have aG:Ext W af:=aF.trans aR
   by_cases bp:lf<y
   rotate_left 1
   ·have L:slopeX (lineL ps) x rt ((y,az),bx,bz)=false:=by rw[aA.out,decide_eq_false bp];simp
    refine sN 18 ?_
    iterate 3
     refine tkn ?_
    iterate 4
     refine tkgn ?_
    iterate 2
     refine tkn ?_
    refine oN ?_;refine wpAnyH_done kM ?_ _;unfold NQ;have hX:Ext W af:=aG;have bD:=qcB (hX.heapS an.out) (i:=0) (u:=Y O y) rfl;have bE:=qcB (hX.heapS an.out) (i:=1) (u:=Y O az) rfl;have bF:=qcB (hX.heapS ao.out) (i:=0) (u:=Y O bx) rfl;have bG:=qcB (hX.heapS ao.out) (i:=1) (u:=Y O bz) rfl
    gi_wp2
    refine⟨trivial,CallsIn.mono (CallsIn.inRound l (callsIn_wide.2 (aw.out _))) ?_⟩;rintro e w5 ⟨rfl,al⟩;dsimp only;have ai:=al.heapS (aN af (J #[Y O m,Y O j] 43));have d0:=qcB ai (i:=0) (u:=Y O m) rfl;have d1:=qcB ai (i:=1) (u:=Y O j) rfl;have X5:Ext W w5:=(hX.alloc _).trans al;have bl:¬((d:Nat):Int)=0:=oM
    have bn:¬d=0:=oM
    have bm:(((d:Nat):Int)==0)=false:=by simp;omega
    have u1:IntKind.i64.wrap (m.tdiv d)=m.tdiv d:=iW _ ⟨by omega,by omega⟩;have u2:IntKind.i64.wrap (j.tdiv d)=j.tdiv d:=iW _ ⟨by omega,by omega⟩;have z:=(ag.out.ext X5).2.2.2.2.2.2;have o0:=qcB z (i:=0) rfl;have o1:=qcB z (i:=1) rfl;have of:=qfB z;have bC:w.heap.size+1+1+1+1<af.heap.size:=by have:=hX.size;omega
    have t:=hd9 (show ∀q∈[((⟨af.heap.size,0,Z⟩:A),Value.int O m),(⟨af.heap.size,1,Z⟩,Y O j)],w.heap.size+1+1+1+1≠q.1.block from fun q hq h=>by
     simp at hq
     rcases hq with rfl|rfl<;>(dsimp only at h;omega))
    gi_wp2
    refine zaq (S:=CellL [(⟨af.heap.size,0,Z⟩,Y O m),(⟨af.heap.size,1,Z⟩,Y O j)]) kM kM ⟨d0,d1,trivial⟩ (fun b=>?_);refine sN 0 ?_
    iterate 9
     refine tkn ?_
    refine oN ?_;refine cl1 (i:=9) fun K f=>?_
    go_simp;refine kO f (CellL.set (p:=⟨w.heap.size+1+1+1+1,1,Z⟩) (CellL.set (p:=⟨w.heap.size+1+1+1+1,0,Z⟩) b t.out _) t.out _) (fun b=>?_);clear f K;refine wpAnyH_done kM ?_ _;unfold NQ;have aB:=(ag.out.ext X5.drew).put (m.tdiv d,j.tdiv d);have aC:KeepsFrom W0.heap.size W ((w5.drew.setCell ⟨w.heap.size+1+1+1+1,0,Z⟩ (Y O (m.tdiv d))).setCell ⟨w.heap.size+1+1+1+1,1,Z⟩ (Y O (j.tdiv d))):=((zaA X5.drew).trans ((KeepsOthers.setCell _ _ _).from _)).trans ((KeepsOthers.setCell _ _ _).from _)
    have aD:KpW w (w.heap.size+1+1+1+1+1) W ((w5.drew.setCell ⟨w.heap.size+1+1+1+1,0,Z⟩ (Y O (m.tdiv d))).setCell ⟨w.heap.size+1+1+1+1,1,Z⟩ (Y O (j.tdiv d))):=
     (((KpW.refl w _ W).ext X5.drew h1.size oM).set dO dO _).set dO dO _
    gi_wp2
    refine⟨aC,aD,?_,fun e Q=>?_⟩
    ·rw[List.foldl_append,List.foldl_cons,List.foldl_nil]
     dsimp only;rw[ay.out];exact aB
    ·rcases List.mem_append.1 Q with Q|Q
     ·exact ah.out e Q
     ·rw[List.mem_singleton.1 Q];exact L
   refine sN 18 ?_
   iterate 5
    refine tkn ?_
   refine oN ?_;have aL:=hd9 (zaE af (G #[V ap ar aq,C au,V ab ad ac]) (G #[V ta tm tc,C ts,V a9 bb ba]) x rt (aE.out.ext aG) (bK.out.ext aG) (Hb.out.mono dM) (bJ.out.mono dM));rw[bI.out]at aL;refine cl1 (i:=23) fun K f=>?_
   go_simp
   (with_reducible refine cM aL.out ?_)
   rintro e am ⟨rfl,aS⟩
   skip
   go_wp2_with fail
   refine kO f (cE b aS) (fun b=>?_);clear f K;have aV:Ext W am:=aG.trans aS
   by_cases ht:0<=T2
   ·have L:slopeX (lineL ps) x rt ((y,az),bx,bz)=true:=by rw[aA.out,decide_eq_true bp,decide_eq_true ht];simp
    refine sN 24 ?_
    iterate 3
     refine tkn ?_
    refine oN ?_;refine wpAnyH_done kM ?_ _;unfold NQ
    gi_wp2
    exact⟨zaA aV,rfl,pre,_,rfl,ag.out.ext aV,ah.out,L⟩
   ·have L:slopeX (lineL ps) x rt ((y,az),bx,bz)=false:=by rw[aA.out,decide_eq_false ht];simp
    refine sN 24 ?_
    iterate 3
     refine tkn ?_
    refine oN ?_;refine wpAnyH_done kM ?_ _;unfold NQ;have hX:Ext W am:=aV;have bD:=qcB (hX.heapS an.out) (i:=0) (u:=Y O y) rfl;have bE:=qcB (hX.heapS an.out) (i:=1) (u:=Y O az) rfl;have bF:=qcB (hX.heapS ao.out) (i:=0) (u:=Y O bx) rfl;have bG:=qcB (hX.heapS ao.out) (i:=1) (u:=Y O bz) rfl
    gi_wp2
    refine⟨trivial,CallsIn.mono (CallsIn.inRound l (callsIn_wide.2 (aw.out _))) ?_⟩;rintro e w5 ⟨rfl,al⟩;dsimp only;have ai:=al.heapS (aN am (J #[Y O m,Y O j] 43));have d0:=qcB ai (i:=0) (u:=Y O m) rfl;have d1:=qcB ai (i:=1) (u:=Y O j) rfl;have X5:Ext W w5:=(hX.alloc _).trans al;have bl:¬((d:Nat):Int)=0:=oM
    have bn:¬d=0:=oM
    have bm:(((d:Nat):Int)==0)=false:=by simp;omega
    have u1:IntKind.i64.wrap (m.tdiv d)=m.tdiv d:=iW _ ⟨by omega,by omega⟩;have u2:IntKind.i64.wrap (j.tdiv d)=j.tdiv d:=iW _ ⟨by omega,by omega⟩;have z:=(ag.out.ext X5).2.2.2.2.2.2;have o0:=qcB z (i:=0) rfl;have o1:=qcB z (i:=1) rfl;have of:=qfB z;have bC:w.heap.size+1+1+1+1<am.heap.size:=by have:=hX.size;omega
    have t:=hd9 (show ∀q∈[((⟨am.heap.size,0,Z⟩:A),Value.int O m),(⟨am.heap.size,1,Z⟩,Y O j)],w.heap.size+1+1+1+1≠q.1.block from fun q hq h=>by
     simp at hq
     rcases hq with rfl|rfl<;>(dsimp only at h;omega))
    gi_wp2
    refine zaq (S:=CellL [(⟨am.heap.size,0,Z⟩,Y O m),(⟨am.heap.size,1,Z⟩,Y O j)]) kM kM ⟨d0,d1,trivial⟩ (fun b=>?_);refine sN 0 ?_
    iterate 9
     refine tkn ?_
    refine oN ?_;refine cl1 (i:=9) fun K f=>?_
    go_simp;refine kO f (CellL.set (p:=⟨w.heap.size+1+1+1+1,1,Z⟩) (CellL.set (p:=⟨w.heap.size+1+1+1+1,0,Z⟩) b t.out _) t.out _) (fun b=>?_);clear f K;refine wpAnyH_done kM ?_ _;unfold NQ;have aB:=(ag.out.ext X5.drew).put (m.tdiv d,j.tdiv d);have aC:KeepsFrom W0.heap.size W ((w5.drew.setCell ⟨w.heap.size+1+1+1+1,0,Z⟩ (Y O (m.tdiv d))).setCell ⟨w.heap.size+1+1+1+1,1,Z⟩ (Y O (j.tdiv d))):=((zaA X5.drew).trans ((KeepsOthers.setCell _ _ _).from _)).trans ((KeepsOthers.setCell _ _ _).from _)
    have aD:KpW w (w.heap.size+1+1+1+1+1) W ((w5.drew.setCell ⟨w.heap.size+1+1+1+1,0,Z⟩ (Y O (m.tdiv d))).setCell ⟨w.heap.size+1+1+1+1,1,Z⟩ (Y O (j.tdiv d))):=
     (((KpW.refl w _ W).ext X5.drew h1.size oM).set dO dO _).set dO dO _
    gi_wp2
    refine⟨aC,aD,?_,fun e Q=>?_⟩
    ·rw[List.foldl_append,List.foldl_cons,List.foldl_nil]
     dsimp only;rw[ay.out];exact aB
    ·rcases List.mem_append.1 Q with Q|Q
     ·exact ah.out e Q
     ·rw[List.mem_singleton.1 Q];exact L
 case done =>
  rintro D ys W hD rfl ⟨⟨h1,h2,h3,h4,h5,h6,h7⟩,aa⟩ f;have hR:=zkl bf.out aa;obtain⟨⟨ox,oz⟩,ho⟩:∃o,ys.foldl (fun _ e=>dirE e.1) ((0,0):Int×Int)=o:=⟨_,rfl⟩;rw[ho]at h7 hR;have HR:=hd9 hR;have e0:=qcB h7 (i:=0) (u:=Y O ox) rfl;have e1:=qcB h7 (i:=1) (u:=Y O oz) rfl;have f0:=qcB h6 (i:=0) (u:=Y O 0) rfl;have f1:=qcB h6 (i:=1) (u:=Y O 0) rfl;have ff:=qfB h6;clear hR ho
  gi_wp2
  have aZ:=zbc (zbc h6 0 (Y O ox)) 1 (Y O oz);have X:=(h1.set (p:=⟨w.heap.size+1+1+1,0,Z⟩) dO (Y O ox)).set (p:=⟨w.heap.size+1+1+1,1,Z⟩) dO (Y O oz);refine zbQ [D] _ ⟨by simp,fun E hE=>?_⟩ (fun W' a2=>?_)
  ·rw[List.mem_singleton.1 hE,bS _ _ _ _ dO,bS _ _ _ _ dO];exact f
  ·have hS:=a2 w.heap.size (fun E hE=>by rw[List.mem_singleton.1 hE];omega)
   have h8:=hS.heap aZ;have c0:=qcB h8 (i:=0) (u:=Y O ox) rfl;have c1:=qcB h8 (i:=1) (u:=Y O oz) rfl;refine⟨G #[Y O ox,Y O oz],by simp[results,Tryz.results77,go_sem,c0,c1],?_⟩;rw[HR.out];exact⟨rfl,hS.ext X (nE _)⟩
 case stop =>
  rintro D c pre W hD br ⟨rfl,p,e,rfl,⟨h1,h2,h3,h4,h5,h6,h7⟩,aa,L⟩ f;have hR:=zlJ bf.out br aa L;obtain⟨⟨ox,oz⟩,ho⟩:∃o,p.foldl (fun _ e=>dirE e.1) ((0,0):Int×Int)=o:=⟨_,rfl⟩;rw[ho]at h7 hR;have HR:=hd9 hR;have e0:=qcB h7 (i:=0) (u:=Y O ox) rfl;have e1:=qcB h7 (i:=1) (u:=Y O oz) rfl;have f0:=qcB h6 (i:=0) (u:=Y O 0) rfl;have f1:=qcB h6 (i:=1) (u:=Y O 0) rfl;have ff:=qfB h6;clear hR ho
  gi_wp2
  have aZ:=zbc (zbc h6 0 (Y O ox)) 1 (Y O oz);have X:=(h1.set (p:=⟨w.heap.size+1+1+1,0,Z⟩) dO (Y O ox)).set (p:=⟨w.heap.size+1+1+1,1,Z⟩) dO (Y O oz);refine zbQ [D] _ ⟨by simp,fun E hE=>?_⟩ (fun W' a2=>?_)
  ·rw[List.mem_singleton.1 hE,bS _ _ _ _ dO,bS _ _ _ _ dO];exact f
  ·have hS:=a2 w.heap.size (fun E hE=>by rw[List.mem_singleton.1 hE];omega)
   have h8:=hS.heap aZ;have c0:=qcB h8 (i:=0) (u:=Y O ox) rfl;have c1:=qcB h8 (i:=1) (u:=Y O oz) rfl;refine⟨G #[Y O ox,Y O oz],by simp[results,Tryz.results77,go_sem,c0,c1],?_⟩;rw[HR.out];exact⟨rfl,hS.ext X (nE _)⟩
end
section
open Go.RowKit Go.Shelf Go.Sort
def IsPr(w:I)(v:M)(ps:LP):Prop:=∃T,Sl T 2 PP w v ps
theorem IsPr.ext'{w w':I}{v:M}{ps:LP}(h:IsPr w v ps)(k:Ext w w'):IsPr w' v ps:=by obtain⟨T,h⟩:=h;exact⟨T,Sl.ext (w:=w) (w':=w') h (fun _ _ h=>h) k⟩
theorem IsPr.form{w:I}{v:M}{ps:LP}(h:IsPr w v ps):∃a c,v=V a ps.length c:=h.elim fun _ h=>Sl.form h
theorem IsPr.form3{w:I}{v:M}{ps:LP}(h:IsPr w v ps):∃a n c,v=V a n c:=h.elim fun _ h=>Cop.form3 h
theorem IsPr.len{w:I}{a:Option A}{n c:Nat}{ps:LP}(h:IsPr w (V a n c) ps):n=ps.length:=h.elim fun _ h=>Sl.len h
theorem IsPr.le{w:I}{a:Option A}{n c:Nat}{ps:LP}(h:IsPr w (V a n c) ps):ps.length<=c/\c<=maxLen:=h.elim fun _ h=>Sl.le h
theorem IsPr.at'{w:I}{a:Option A}{n c:Nat}{ps:LP}(h:IsPr w (V a n c) ps){i:Nat}{p:Int×Int}(k:ps[i]?=N p) :
  ∃b o,a=N ⟨b,o,Z⟩/\b<w.heap.size/\w.cell? ⟨b,o+i*2,Z⟩=N (Y O p.1)/\w.cell? ⟨b,o+i*2+1,Z⟩=N (Y O p.2):=by
 obtain⟨T,h⟩:=h;obtain⟨b,o,d,rfl,j,l,g,f⟩:=Sl.at h k;have e:d=[Y O p.1,Y O p.2]:=g;subst e;exact⟨b,o,rfl,j,f 0 _ rfl,f 1 _ rfl⟩
def PPr(w:I)(c:List M)(p:Pl):Prop:=∃v,c=(plc p v).toList/\IsPr w v p.shape/\0<=p.skin
def IsWr(w:I)(v:M)(ps:List Pl):Prop:=∃T,Sl T 10 PPr w v ps
theorem IsWr.ext'{w w':I}{v:M}{ps:List Pl}(h:IsWr w v ps)(k:Ext w w'):IsWr w' v ps:=by obtain⟨T,h⟩:=h;exact⟨T,Sl.ext (w:=w) (w':=w') h (fun _ _ ⟨v,a,b,c⟩=>⟨v,a,b.ext' k,c⟩) k⟩
theorem IsWr.form{w:I}{v:M}{ps:List Pl}(h:IsWr w v ps):∃a c,v=V a ps.length c:=h.elim fun _ h=>Sl.form h
theorem IsWr.form3{w:I}{v:M}{ps:List Pl}(h:IsWr w v ps):∃a n c,v=V a n c:=h.elim fun _ h=>Cop.form3 h
theorem IsWr.len{w:I}{a:Option A}{n c:Nat}{ps:List Pl}(h:IsWr w (V a n c) ps):n=ps.length:=h.elim fun _ h=>Sl.len h
theorem IsWr.le{w:I}{a:Option A}{n c:Nat}{ps:List Pl}(h:IsWr w (V a n c) ps):ps.length<=c/\c<=maxLen:=h.elim fun _ h=>Sl.le h
theorem IsWr.at'{w:I}{a:Option A}{n c:Nat}{ps:List Pl}(h:IsWr w (V a n c) ps){i:Nat}{p:Pl}(m:ps[i]?=N p) :
  ∃b o v,a=N ⟨b,o,Z⟩/\b<w.heap.size/\IsPr w v p.shape/\0<=p.skin/\∀(j:Nat) u,(plc p v)[j]?=N u->w.cell? ⟨b,o+i*10+j,Z⟩=N u:=by
 obtain⟨T,h⟩:=h;obtain⟨b,o,d,rfl,g,q,⟨v,rfl,e,f⟩,k⟩:=Sl.at h m;exact⟨b,o,v,rfl,g,e,f,fun j u l=>k j u (by rw[Array.getElem?_toList];exact l)⟩
def longB(p:Pl):Bool:=decide (20<p.shape.length) || decide (40<p.name.size)
theorem zlo(w:I)(b:ByteArray)(v:M)(i:LP)(d k l o:Int)(h:IsPr w v i) :
  Calls Tryz.prog 8 #[G #[.string b,v,Y O d,Y O k,Y O l,Y O o]] w fun e q=>e = .returned (C (decide (20<i.length) || decide (40<b.size)))/\Ext w q:=by
 obtain⟨a,c,rfl⟩:=h.form;obtain⟨n,p⟩:=gX i.length;rw[p];obtain⟨m,j⟩:=gX b.size
 by_cases f:20<n
 ·have g:(20:Int)<(n:Int):=oM
  have e:(decide (20<n) || decide (40<b.size))=true:=by simp[f]
  rw[e];clear f e j;go_enter Tryz.func8,Tryz.ntmps8;go_wp2;go_ret;exact⟨rfl,eA⟩
 ·have g:¬(20:Int)<(n:Int):=oM
  have e:(decide (20<n) || decide (40<b.size))=decide (40<m):=by simp[f,j]
  rw[e];clear f e;go_enter Tryz.func8,Tryz.ntmps8;go_wp2;go_ret;exact⟨by simp;omega,eA⟩
def PtS(w:I)(ps:LP)(g:Nat)(t3 t4:M)(W:I):Prop:=
 ∃i:Nat,i<=ps.length/\t4=Y O (i:Nat)/\g=ps.length-i/\Ext w W/\OwnC 43 2 W w.heap.size t3 ((ps.take i).map pc)
theorem zib(w:I)(v:M)(ps:LP)(h:IsPr w v ps)(aa:ps.length<=1000) :
  Calls Tryz.prog 62 #[v] w fun e u=>∃v',e = .returned v'/\OwnC 43 2 u w.heap.size v' (ps.map pc)/\Ext w u:=by
 obtain⟨a,c,rfl⟩:=h.form;obtain⟨n,W⟩:=gX ps.length;rw[W]at h aa ⊢;have p:=hd9 W;have H:=hd9 h;obtain⟨R,P⟩:∃R:Ending->I->Prop,(fun e u=>∃v',e = .returned v'/\OwnC 43 2 u w.heap.size v' (ps.map pc)/\Ext w u)=R:=⟨_,rfl⟩;rw[P];have HR:=hd9 P;clear W h P;go_enter Tryz.func62,Tryz.ntmps62;go_wp2
 go_loopg [3,4] n (PtS w ps)
 case atStart=>exact⟨0,by omega,rfl,by rw[p.out];rfl,eR _,by simpa using OwnC.nil _ _ _ _⟩
 case round =>
  obtain⟨i,hi,rfl,rfl,D,d⟩:=hrel;rw[p.out]at hi;obtain⟨va,vn,vc,rfl⟩:=d.form3;have f:=hd9 d;have L:=hd9 D
  by_cases Q:i<n
  ·obtain⟨⟨x,z⟩,r⟩:∃q,ps[i]?=N q:=⟨ps[i]'(by rw[p.out];omega),by simp[p.out,Q]⟩
   obtain⟨b,o,rfl,hb,d0,d1⟩:=(H.out.ext' D).at' r;obtain⟨b0,o0,e0,ac,_⟩:=H.out.at' r
   cases e0
   dsimp only at d0 d1;have Hq:=hd9 r;have p1:(0:Int)<=(i:Int):=oM
   have p2:(i:Int)<(n:Int):=oM
   clear r D d;go_wp2;refine wp_region_held_drew (S:=CellL [(⟨b,o+i*2,Z⟩,Y O x),(⟨b,o+i*2+1,Z⟩,Y O z)]) kM ⟨d0,d1,trivial⟩ (fun l=>?_);refine sN 0 ?_
   iterate 12
    refine tkn ?_
   refine oN ?_;refine cl1 (i:=12) fun K s=>?_
   go_simp;refine kO s (cE l ((eR _).alloc _)) (fun l=>?_);clear s K;have y:Ext wr ((wr.alloc (J #[Y O x,Y O z] 43)).drew):=((eR wr).alloc _).drew;refine cl1 (i:=13) fun K s=>?_
   refine zed (T:=43) (t:=38) (z:=G #[Y O 0,Y O 0]) (k:=2) (bytes:=16) (v:=V va vn vc) (base:=w.heap.size) zbE rfl dM dM Tryz.underlying38 rfl _ _ rfl rfl (f.out.ext y) (ad:=⟨wr.heap.size,0,Z⟩) (m:=1) (c:=1) rfl [pc (x,z)] rfl (by simp[pc]) (by exact zgs wr x z 43) (zdT x z) (by rw[lL,List.length_take];omega) (by have:=y.size;have:=L.out.size;omega) ?_;intro v' w9 j g ab;obtain⟨a9,n9,c9,rfl⟩:=j.form3;have zb:b<wr.heap.size:=hb;refine kO s (CellL.grown l g (fun q r e=>?_)) (fun l=>?_)
   ·have h9:=(f.out.lt _ e.symm).1
    simp at r
    rcases r with rfl|rfl<;>(dsimp only at h9;omega)
   clear s K;refine tk1 (i:=14) ?_;refine wpAnyH_done kM ?_ _;go_wp2
   go_roundg (n-(i+1))
   case measure=>have:=p.out;omega
   case rel =>
    refine⟨i+1,by have:=p.out;omega,by go_num,by rw[p.out],(L.out.trans y).thenB (zad (base:=w.heap.size) g (by have:=y.size;have:=L.out.size;omega) (fun k hk=>(f.out.lt k hk).1)) (nE _),?_⟩;rw[zab _ _ _ Hq.out,List.map_append];exact j
  ·obtain rfl:n=i:=oM
   have e:ps.take n=ps:=lT (by rw[p.out];exact nE _);rw[e]at d;go_wp2;rw[<-HR.out];exact⟨_,rfl,d,D⟩
theorem zkq(w:I)(t:ByteArray)(v:M)(Q:LP)(d l m o:Int)(h:IsPr w v Q)(ac:Q.length<=1000) :
  Calls Tryz.prog 63 #[G #[.string t,v,Y O d,Y O l,Y O m,Y O o]] w fun e w'=>∃v',e = .returned (G #[.string t,v',Y O d,Y O l,Y O m,Y O o])/\IsPts w' v' Q/\Ext w w'/\∀j,v'.ownBlock=N j->w.heap.size<=j:=by
 have HP:=hd9 (fun W (hW:Ext w W)=>zib W v Q (h.ext' hW) ac);obtain⟨a,n,c,rfl⟩:=h.form3;clear h;go_enter Tryz.func63,Tryz.ntmps63;go_wp2;refine wp_region_held_drew (S:=CellL [(⟨w.heap.size,0,Z⟩,.string t),(⟨w.heap.size,1,Z⟩,V a n c),(⟨w.heap.size,2,Z⟩,Y O d),(⟨w.heap.size,3,Z⟩,Y O l),(⟨w.heap.size,4,Z⟩,Y O m),(⟨w.heap.size,5,Z⟩,Y O o)]) kM cA (fun r=>?_);refine sN 0 ?_
 iterate 4
  refine tkn ?_
 refine oN ?_;refine sN 5 ?_
 iterate 11
  refine tkn ?_
 refine oN ?_;refine cl1 (i:=4) fun K z=>?_
 go_simp
 (with_reducible refine cM (HP.out _ eA) ?_)
 rintro e R ⟨v3,rfl,f,x⟩;obtain⟨D,P,L,rfl⟩:=f.form3
 go_wp2_with fail
 refine kO z (cE r x) (fun r=>?_);clear z K;refine tk1 (i:=16) ?_;have ad:=f.pts;have k:=x.heapS (zfX w (J #[.string t,V a n c,Y O d,Y O l,Y O m,Y O o] 29) (J #[.string ⟨#[]⟩,V Z 0 0,Y O 0,Y O 0,Y O 0,Y O 0] 45));have k0:=qcB k (i:=0) (u:=.string ⟨#[]⟩) rfl;have k1:=qcB k (i:=1) (u:=V Z 0 0) rfl;have k2:=qcB k (i:=2) (u:=Y O 0) rfl;have k3:=qcB k (i:=3) (u:=Y O 0) rfl;have k4:=qcB k (i:=4) (u:=Y O 0) rfl;have k5:=qcB k (i:=5) (u:=Y O 0) rfl;have kf:=qfB k
 have g:=hd9 (show ∀q∈[((⟨w.heap.size,0,Z⟩:A),Value.string t),(⟨w.heap.size,1,Z⟩,V a n c),(⟨w.heap.size,2,Z⟩,Y O d),(⟨w.heap.size,3,Z⟩,Y O l),(⟨w.heap.size,4,Z⟩,Y O m),(⟨w.heap.size,5,Z⟩,Y O o)],w.heap.size+1≠q.1.block from fun q hq h=>by
  simp at hq
  rcases hq with rfl|rfl|rfl|rfl|rfl|rfl<;>(dsimp only at h;omega))
 have aa:Ext w R:=((((eR w).alloc _).alloc _).drew).trans x;have b:=hd9 k;clear k;refine cl1 (i:=17) fun K z=>?_
 go_simp;refine kO z (CellL.set (p:=⟨w.heap.size+1,5,Z⟩) (CellL.set (p:=⟨w.heap.size+1,4,Z⟩) (CellL.set (p:=⟨w.heap.size+1,3,Z⟩) (CellL.set (p:=⟨w.heap.size+1,2,Z⟩) (CellL.set (p:=⟨w.heap.size+1,1,Z⟩) (CellL.set (p:=⟨w.heap.size+1,0,Z⟩) r g.out _) g.out _) g.out _) g.out _) g.out _) g.out _) (fun r=>?_);clear z K;refine wpAnyH_done kM ?_ _;go_wp2;obtain⟨T,s⟩:=gX (((((((R.setCell ⟨w.heap.size+1,0,Z⟩ (.string t)).setCell ⟨w.heap.size+1,1,Z⟩ (V D P L)).setCell ⟨w.heap.size+1,2,Z⟩ (Y O d)).setCell ⟨w.heap.size+1,3,Z⟩ (Y O l)).setCell ⟨w.heap.size+1,4,Z⟩ (Y O m)).setCell ⟨w.heap.size+1,5,Z⟩ (Y O o)))
 have y:T.heap[w.heap.size+1]?=N (J #[.string t,V D P L,Y O d,Y O l,Y O m,Y O o] 45 (0,0)):=by
  rw[<-s];exact zav (zav (zav (zav (zav (zav b.out 0 _) 1 _) 2 _) 3 _) 4 _) 5 _
 have hk:KeepT 43 R T:=by
  rw[<-s];exact(((((KeepT.refl 43 R).set (p:=⟨w.heap.size+1,0,Z⟩) b.out dM _).set (p:=⟨w.heap.size+1,1,Z⟩) (zav b.out 0 _) dM _).set (p:=⟨w.heap.size+1,2,Z⟩) (zav (zav b.out 0 _) 1 _) dM _).set (p:=⟨w.heap.size+1,3,Z⟩) (zav (zav (zav b.out 0 _) 1 _) 2 _) dM _).set (p:=⟨w.heap.size+1,4,Z⟩) (zav (zav (zav (zav b.out 0 _) 1 _) 2 _) 3 _) dM _ |>.set (p:=⟨w.heap.size+1,5,Z⟩) (zav (zav (zav (zav (zav b.out 0 _) 1 _) 2 _) 3 _) 4 _) dM _
 have ab:Ext w T:=by
  rw[<-s];exact((((((aa.set dO _).set dO _).set dO _).set dO _).set dO _).set dO _)
 rw[s];have b0:=qcB y (i:=0) (u:=.string t) rfl;have b1:=qcB y (i:=1) (u:=V D P L) rfl;have b2:=qcB y (i:=2) (u:=Y O d) rfl;have b3:=qcB y (i:=3) (u:=Y O l) rfl;have b4:=qcB y (i:=4) (u:=Y O m) rfl;have b5:=qcB y (i:=5) (u:=Y O o) rfl;exact bR (v:=G #[.string t,V D P L,Y O d,Y O l,Y O m,Y O o]) (by simp[results,Tryz.results63,go_sem,b0,b1,b2,b3,b4,b5]) rfl ⟨_,rfl,ad.keep' hk,ab,fun j hj=>by have:=(f.lt j hj).1;simp only[wZ,qdZ]at this;omega⟩
end
section
open Go.ChangeShapes Go.WideShapes Go.Deep
def flds(P:Program)(t:TypeId):Array Field:=match P.underlying t with|some (.struct fs)=>fs|_=>#[]
section
variable {H:Type} {enc:TypeId×Value->H} {w:World} {spare:Nat->Bool} {held:Bool}
theorem fld{P:Program}{b:Array Field}{n i ti oi ki:Nat}{cs:List Value}{xs:List (DataW H×List MemPlace)}(e:xs.length=b.size)
  (c:∀(i:Nat)(f:Field),b[i]?=some f->DataW.trod enc P w 0 spare held n f.type ((cs.drop f.offset).take (P.cellsOf f.type))=xs[i]?)
  (a:b[i]?.map (fun f=>(f.type,f.offset,P.cellsOf f.type))=some (ti,oi,ki)):∃y,DataW.trod enc P w 0 spare held n ti ((cs.drop oi).take ki)=some y:=by
 cases h:b[i]? with
 | none=>rw[h]at a;cases a
 | some f =>
  rw[h]at a;simp only[Option.map_some,Option.some.injEq,Prod.mk.injEq]at a;obtain⟨rfl,rfl,rfl⟩:=a;have d:i<xs.length:=by rw[e];exact(Array.getElem?_eq_some_iff.1 h).1
  exact⟨xs[i],by rw[c i f h];simp[d]⟩
theorem zef:Tryz.prog.underlying 3=some (.int .i64):=kM
theorem zoB:Tryz.prog.underlying 5=some (.int .u8):=kM
theorem znI:Tryz.prog.underlying 9=some .string:=kM
theorem zoz:Tryz.prog.underlying 27=some (.struct (flds Tryz.prog 27)):=kM
theorem zoA:Tryz.prog.underlying 29=some (.struct (flds Tryz.prog 29)):=kM
theorem zmw:Tryz.prog.underlying 31=some (.struct (flds Tryz.prog 31)):=kM
theorem znH:Tryz.prog.underlying 22=some (.slice 27):=kM
theorem zbI{n:Nat}{cs:List Value}{y:DataW H×List MemPlace}(h:DataW.trod enc Tryz.prog w 0 spare held n 27 cs=some y):∃p:Int×Int,cs=[.int .i64 p.1,.int .i64 p.2]:=by
 obtain⟨o,m,_,_,f,g,e⟩:=DataW.trod_struct zoz h;have l:Tryz.prog.cellsOf 27=2:=kM
 rw[l]at f;obtain⟨q,j⟩:=fld g e (i:=0) (ti:=3) (oi:=0) (ki:=1) kM;obtain⟨r,k⟩:=fld g e (i:=1) (ti:=3) (oi:=1) (ki:=1) kM
 match cs,f with
 | [a,b],_ =>
  obtain⟨x,c,_⟩:=DataW.trod_int zef j;obtain⟨z,d,_⟩:=DataW.trod_int zef k;simp at c d;subst c d;exact⟨(x,z),rfl⟩
theorem zl4{α:Type}{Q:List Value->α->Prop}:∀{css:List (List Value)},(∀d∈css,∃a,Q d a)->∃l:List α,css.length=l.length/\∀(i:Nat) d a,css[i]?=some d->l[i]?=some a->Q d a
 | [],_=>⟨[],rfl,fun i d a h=>by simp at h⟩
 | c::css,h=>by
  obtain⟨a,j⟩:=h c sM;obtain⟨l,k,f⟩:=zl4 (css:=css) (fun d e=>h d (mC _ e));refine⟨a::l,by simp[k],fun i d b e g=>?_⟩
  cases i with
  | zero=>simp at e g;subst e g;exact j
  | succ i=>exact f i d b (by simpa using e) (by simpa using g)
theorem zek{n:Nat}{v:Value}{y:DataW H×List MemPlace}(h:DataW.trod enc Tryz.prog w 0 spare held n 22 [v]=some y):∃ps,IsPr w v ps:=by
 obtain⟨a,m,c,T,g,e,l,j,r,i⟩:=zgy znH (k:=2) kM oM h
 cases e
 obtain⟨ps,b,q⟩:=zl4 (α:=Int×Int) (Q:=PP w) (fun d h=>by
  obtain⟨f,y,s⟩:=i d h;obtain⟨p,o⟩:=zbI s;exact⟨p,o⟩)
 exact⟨ps,T,g,b,j,by rw[<-b,l];exact r,q⟩
theorem zej{n:Nat}{cs:List Value}{y:DataW H×List MemPlace}(h:DataW.trod enc Tryz.prog w 0 spare held n 31 cs=some y):∃p:Pl,PPr w cs p:=by
 obtain⟨xs,m,_,_,v,f,e⟩:=DataW.trod_struct zmw h;have hc:Tryz.prog.cellsOf 31=10:=kM
 rw[hc]at v;obtain⟨y0,W⟩:=fld f e (i:=0) (ti:=29) (oi:=0) (ki:=6) kM;obtain⟨y1,h1⟩:=fld f e (i:=1) (ti:=3) (oi:=6) (ki:=1) kM;obtain⟨y2,h2⟩:=fld f e (i:=2) (ti:=27) (oi:=7) (ki:=2) kM;obtain⟨y3,h3⟩:=fld f e (i:=3) (ti:=5) (oi:=9) (ki:=1) kM
 match cs,v with
 | [a0,a1,a2,a3,a4,a5,a6,a7,a8,a9],_ =>
  obtain⟨zs,k,_,_,_,d,c⟩:=DataW.trod_struct zoA W;obtain⟨z0,L⟩:=fld d c (i:=0) (ti:=9) (oi:=0) (ki:=1) kM;obtain⟨z1,P⟩:=fld d c (i:=1) (ti:=22) (oi:=1) (ki:=1) kM;obtain⟨z2,Q⟩:=fld d c (i:=2) (ti:=3) (oi:=2) (ki:=1) kM;obtain⟨z3,R⟩:=fld d c (i:=3) (ti:=3) (oi:=3) (ki:=1) kM;obtain⟨z4,T⟩:=fld d c (i:=4) (ti:=27) (oi:=4) (ki:=2) kM;obtain⟨nm,j,_⟩:=DataW.trod_string znI L;obtain⟨sh,g⟩:=zek P;obtain⟨D,l,_⟩:=DataW.trod_int zef Q;obtain⟨K,o,_⟩:=DataW.trod_int zef R;obtain⟨u,q⟩:=zbI T;obtain⟨wy,r,_⟩:=DataW.trod_int zef h1;obtain⟨b,s⟩:=zbI h2;obtain⟨x,t,_,a⟩:=DataW.trod_int zoB h3;simp at j l o q r s t;obtain⟨rfl,rfl⟩:=q;obtain⟨rfl,rfl⟩:=s;subst j l o r t;refine⟨⟨nm,sh,D,K,u.1,u.2,wy,b.1,b.2,x⟩,_,rfl,g,?_⟩;have z:decide (IntKind.u8.min<=x)=true:=by unfold Lit.wf at a;simp only[Bool.and_eq_true]at a;exact a.1
  have w8:IntKind.u8.min=0:=dM
  rw[w8]at z;exact of_decide_eq_true z
end
end
end Go.Proofs.YtjnjpagegkcgfaaGreatDoor.Cop
