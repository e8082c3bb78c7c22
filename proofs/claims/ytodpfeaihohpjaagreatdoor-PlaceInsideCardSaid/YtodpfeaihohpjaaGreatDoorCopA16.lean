/- Part 17: contracts of what the law calls. -/
import Derived.Test.YtodpfeaihohpjaaGreatDoorCopA10
import Derived.Test.YtodpfeaihohpjaaGreatDoorCopA15
import Derived.Test.YtodpfeaihohpjaaGreatDoorCopA05
import Derived.Deep.LoopGhost
import Derived.Deep.CutBlock
import Derived.Deep.DeepCutAuto
import Derived.Test.YtodpfeaihohpjaaGreatDoorCopA12
import Derived.Test.YtodpfeaihohpjaaGreatDoorCopA00
set_option maxRecDepth 1000000
set_option maxHeartbeats 16000000
set_option linter.unusedSimpArgs false
set_option linter.unusedVariables false
open Go.Value renaming slice→O,bool→Z,int→N,agg→R,pointer→Ob
open Option renaming none→Y,some→C
open Go renaming World→I,Value→F
open Go.IntKind renaming i64→J
open Go.Obj renaming cells→Oa
namespace Go.Proofs.YtodpfeaihohpjaaGreatDoor.Cop
section
open Go.RowKit Go.Shelf
attribute [local go_sem] Oper.semAt_some
def dirE (e:Edg):Int×Int:=
 ((e.2.1-e.1.1).tdiv (Nat.gcd (e.2.1-e.1.1).natAbs (e.2.2-e.1.2).natAbs:Nat),(e.2.2-e.1.2).tdiv (Nat.gcd (e.2.1-e.1.1).natAbs (e.2.2-e.1.2).natAbs:Nat))
def slopeX (l:Int) (x a:Rat) (e:Edg):Bool:=
 decide (rcmp x ((e.1.1:Int):Rat)<0) || (decide (rcmp x ((e.1.1:Int):Rat)=0)&&(decide (l<e.1.1)&&decide (0≤rcmp x a)))
def slopeR (ps:List (Int×Int)) (x a:Rat):Int×Int:=((eds ps).takeWhile fun e=>!slopeX (lineL ps) x a e).foldl (fun _ e=>dirE e) (0,0)
def EdOk (e:Edg):Prop:=(Bd 104000 e.1.1∧Bd 104000 e.1.2∧Bd 104000 e.2.1∧Bd 104000 e.2.2)∧e.1.1≤e.2.1∧e.1≠e.2
abbrev BF:={ e:Edg // EdOk e }
def LnUp (ps:List (Int×Int)):Prop:=∀e∈eds ps,e.1.1≤e.2.1∧e.1≠e.2
def SlA (s:Nat) (e:BF) (a:Act) (W:I):Prop:=
 ∃B,s+1+1+1+1+1+1≤B∧W.heap[B]?=C (Oa #[N J e.1.1.1,N J e.1.1.2] 33 (0,0))∧W.heap[B+1]?=C (Oa #[N J e.1.2.1,N J e.1.2.2] 33 (0,0)) ∧
  a.tmps.size=73∧a.tmps.getD 3 undef=Ob (C ⟨s,0,Y⟩)∧a.tmps.getD 4 undef=Ob (C ⟨s+1,0,Y⟩)∧a.tmps.getD 5 undef=Ob (C ⟨s+1+1,0,Y⟩)∧a.tmps.getD 7 undef=Ob (C ⟨s+1+1+1+1,0,Y⟩) ∧
  a.tmps.getD 8 undef=Ob (C ⟨B,0,Y⟩)∧a.tmps.getD 9 undef=Ob (C ⟨B+1,0,Y⟩)∧a.defers=[]
def SlW (w:I) (v:F) (x a:Rat) (o:Int×Int) (W:I):Prop:=
 Ext w W∧w.heap.size+1+1+1+1+1+1≤W.heap.size∧W.heap[w.heap.size]?=C (Oa #[v] 99 (0,0))∧RB W (w.heap.size+1) x∧RB W (w.heap.size+1+1) a ∧
  W.heap[w.heap.size+1+1+1]?=C (Oa #[N J 0,N J 0] 33 (0,0))∧W.heap[w.heap.size+1+1+1+1]?=C (Oa #[N J o.1,N J o.2] 33 (0,0))
def SlI (w:I) (v:F) (l:Int) (x a:Rat) (pre:List BF) (W:I):Prop:=
 SlW w v x a (pre.foldl (fun _ e=>dirE e.1) (0,0)) W∧∀e∈pre,slopeX l x a e.1=false
def SlX (w:I) (v:F) (l:Int) (x a:Rat) (c:Code) (pre:List BF) (W:I):Prop:=
 c = .exit 0∧∃(p:List BF) (e:BF),pre=p++[e]∧SlW w v x a (p.foldl (fun _ e=>dirE e.1) (0,0)) W∧(∀e∈p,slopeX l x a e.1=false)∧slopeX l x a e.1=true
theorem SlW.ext {w:I} {v:F} {x a:Rat} {o:Int×Int} {W W':I} (h:SlW w v x a o W) (k:Ext W W'):SlW w v x a o W':=
 ⟨h.1.trans k,nT h.2.1 k.size,k.heapS h.2.2.1,h.2.2.2.1.ext k,h.2.2.2.2.1.ext k,k.heapS h.2.2.2.2.2.1,k.heapS h.2.2.2.2.2.2⟩
theorem SlW.sim {w:I} {v:F} {x a:Rat} {o:Int×Int} {W W':I} {B:Nat} (h:SlW w v x a o W) (k:Sim B W W') (b:w.heap.size≤B):SlW w v x a o W':=
 ⟨k.ext h.1 b,nT h.2.1 k.size,k.heap h.2.2.1,h.2.2.2.1.sim k,h.2.2.2.2.1.sim k,k.heap h.2.2.2.2.2.1,k.heap h.2.2.2.2.2.2⟩
theorem SlW.put {w:I} {v:F} {x d:Rat} {o:Int×Int} {W:I} (h:SlW w v x d o W) (a:Int×Int):SlW w v x d a ((W.setCell ⟨w.heap.size+1+1+1+1,0,Y⟩ (N J a.1)).setCell ⟨w.heap.size+1+1+1+1,1,Y⟩ (N J a.2)):=by
 obtain⟨f,g,i,j,k,h6,c⟩:=h;have b:NoT 2 W (w.heap.size+1+1+1+1):=by intro m n e;rw [c]at e;cases e
 refine⟨(f.set dO _).set dO _,by simp only [qcZ];exact g,?_,(j.other dO b _).other dO (b.set _ _) _,(k.other dO b _).other dO (b.set _ _) _,?_,?_⟩
 ·rw [bS _ _ _ _ dO,bS _ _ _ _ dO];exact i
 ·rw [bS _ _ _ _ dO,bS _ _ _ _ dO];exact h6
 ·have:=zac (zac c 0 (N J a.1)) 1 (N J a.2)
  exact this
theorem zlM {ps:List (Int×Int)} {x d:Rat} {f:List BF} (c:f.map (fun e=>e.1)=eds ps) {p:List BF} {e:BF} (k:p++[e] <+: f) (j:∀e∈p,slopeX (lineL ps) x d e.1=false) (i:slopeX (lineL ps) x d e.1=true) :
  slopeR ps x d=p.foldl (fun _ e=>dirE e.1) (0,0):=by
 obtain⟨t,rfl⟩:=k;unfold slopeR
 rw [←c,List.append_assoc,List.map_append,List.takeWhile_append_of_pos (by
  intro a g;obtain⟨b,h,rfl⟩:=List.mem_map.1 g;simp [j b h])]
 rw [show ([e]++t).map (fun e:BF=>e.1)=e.1::t.map (fun e=>e.1)from rfl,List.takeWhile_cons_of_neg (by simp [i]),List.append_nil,List.foldl_map]
theorem zkz {ps:List (Int×Int)} {x f:Rat} {c:List BF} (d:c.map (fun e=>e.1)=eds ps) (j:∀e∈c,slopeX (lineL ps) x f e.1=false):slopeR ps x f=c.foldl (fun _ e=>dirE e.1) (0,0):=by
 unfold slopeR
 have h:=List.takeWhile_append_of_pos (p:=fun e=>!slopeX (lineL ps) x f e) (l₁:=c.map fun e=>e.1) (l₂:=[]) (by
  intro a g;obtain⟨b,i,rfl⟩:=List.mem_map.1 g;simp [j b i])
 rw [List.append_nil,List.takeWhile_nil,List.append_nil]at h;rw [←d,h,List.foldl_map]
def RetPt (w:I) (p:Int×Int) (e:Ending) (w':I):Prop:=e = .returned (R #[N J p.1,N J p.2])∧Ext w w'
theorem zeq (w:I) (v vx vr:F) (ps:List (Int×Int)) (x rt:Rat) (h:IsPts w v ps) (aO:LnOk ps) (bw:LnUp ps) (hx:IsR w vx x) (hb:Rb 1000 x) (hr:IsR w vr rt) (bl:Rb 1000 rt) :
  Calls Tryz.prog 95 #[v,vx,vr] w (RetPt w (slopeR ps x rt)):=by
 have HL:=hd9 (fun W (hW:Ext w W)=>zbc W v ps (h.ext' hW) (List.length_pos_iff.2 aO.1));obtain⟨a,c,rfl⟩:=h.form;obtain⟨xa,xm,xc,xs,bY,b0,bZ,rfl⟩:=hx.form;obtain⟨ya,ym,yc,ys,b1,b4,b2,rfl⟩:=hr.form;have Hb:=hd9 hb;have bL:=hd9 bl;have b6:=hd9 aO;obtain⟨n,hn⟩:=gX ps.length;rw [hn]at h HL ⊢;have Hn:=hd9 hn;obtain⟨es,bm⟩:∃es:List BF,es.map (fun e=>e.1)=eds ps:=⟨(eds ps).attachWith EdOk (fun e he=>⟨zhe aO.2.1 he,bw e he⟩),zaN _⟩;have bh:=hd9 bm;clear hb bl aO hn bw;refine(callsIn_wide (n:=5)).1 ?_;refine callsIn_of_wp_marks Tryz.func95 rfl trivial ?_ rfl;simp only [Tryz.ntmps95,List.size_toArray,List.length_cons,List.length_nil,Nat.reduceAdd,Nat.reduceSub,Array.replicate_succ,Array.replicate_zero,List.push_toArray,List.append_toArray,List.nil_append,List.cons_append]
 gi_wp2_with(refine⟨trivial,?_⟩;gi_at_call 110;refine(callsIn_wide.2 (zfO _ _ _ _)).mono ?_;rintro e w' ⟨rfl,rfl⟩)
 obtain⟨W0,ab⟩:=gX (((((((w.alloc (Oa #[O a n c] 99)).alloc (Oa #[O xa xm xc,Z xs,O bY b0 bZ] 65)).alloc (Oa #[O ya ym yc,Z ys,O b1 b4 b2] 65)).alloc (Oa #[N J 0,N J 0] 33)).alloc (Oa #[N J 0,N J 0] 33)).alloc (Oa #[O a n c] 99)));have bA:Ext w W0:=by rw [←ab];exact((((((eR w).alloc _).alloc _).alloc _).alloc _).alloc _).alloc _
 have cd:W0.heap.size=w.heap.size+1+1+1+1+1+1:=by rw [←ab];simp
 have bU:W0.cell? ⟨w.heap.size+1+1+1+1+1,0,Y⟩=C (O a n c):=by rw [←ab,World.cell?_alloc_at _ _ _ _ sM];rfl
 have bQ:SlI w (O a n c) (lineL ps) x rt [] W0:=by
  refine⟨⟨bA,by omega,?_,?_,?_,?_,?_⟩,fun e he=>by cases he⟩
  ·rw [←ab];exact(((((eR _).alloc _).alloc _).alloc _).alloc _).alloc _ |>.heapS (aN w _)
  ·rw [←ab];exact(RB.new (hx.ext ((eR w).alloc _)) sM).ext (((((eR _).alloc _).alloc _).alloc _).alloc _)
  ·rw [←ab];exact(RB.new (hr.ext (((eR w).alloc _).alloc _)) sM).ext ((((eR _).alloc _).alloc _).alloc _)
  ·rw [←ab];exact((eR _).alloc _).alloc _ |>.heapS (qhA _ _ _ sM)
  ·rw [←ab];exact(eR _).alloc _ |>.heapS (qhA _ _ _ sM)
 rw [ab];clear ab
 refine wpIn_rangeFunc_ownH rfl dM (gf:=142) (lb:=#[Ob (C ⟨w.heap.size+1+1+1+1+1,0,Y⟩)]) rfl trivial (enters_of Tryz.func142 kM rfl)
  (zdS (fun e:BF=>e.1) _ dM (w.heap.size+1+1+1+1+1) w _ _ ps es bm bU oM h bA) KpW.trans (KpW.put oM oM) (Below.refl _ _) (fun _=>rfl)
  (SlI w (O a n c) (lineL ps) x rt) (SlX w (O a n c) (lineL ps) x rt) (zal (fun s W h=>by have:=h.1.2.1;omega) (fun s W W' h k=>⟨h.1.sim k oM,h.2⟩)) (fun c=>zal (fun s W h=>by obtain⟨_,_,_,_,h,_⟩:=h;have:=h.2.1;omega) (fun s W W' h k=>by obtain⟨h0,p,e,h1,h2,h3,h4⟩:=h;exact⟨h0,p,e,h1,h2.sim k oM,h3,h4⟩)) bQ
  (fun e a' W=>SlA w.heap.size e a' W) (fun e a'=>zal (fun s W h=>by obtain⟨B,h1,h2,h3,_⟩:=h;have:=zaa h2;omega) (fun s W W' h k=>by obtain⟨B,h1,h2,h3,h4⟩:=h;exact⟨B,h1,k.heap h2,k.heap h3,h4⟩)) ?assign ?body ?done ?stop
 case assign =>
  rintro l pre e W K hI f;unfold ence
  gi_wp2
  have hE:Ext W ((W.alloc (Oa #[N J e.1.1.1,N J e.1.1.2] 33)).alloc (Oa #[N J e.1.2.1,N J e.1.2.2] 33)):=((eR W).alloc _).alloc _;refine f _ _ (((KeepsOthers.alloc _ _).trans (KeepsOthers.alloc _ _)).from _) ((KpW.refl _ _ W).ext hE hI.1.1.size (by have:=hI.1.2.1;omega)) ⟨hI.1.ext hE,hI.2⟩ ⟨W.heap.size,hI.1.2.1,zjo W _ _,zjp W _ _,rfl,rfl,rfl,rfl,rfl,rfl,rfl,rfl⟩
 case body =>
  rintro l pre e a' W hl ⟨r,cc⟩ hI hA b8;obtain⟨tt,dd⟩:=a';obtain⟨B,hB,q1,q2,g0,g3,g4,g5,g7,g8,g9,gd⟩:=hA;dsimp only at g0 g3 g4 g5 g7 g8 g9 gd;subst gd;obtain⟨u,hu,ht⟩:=arrU tt 73 g0;simp only [hu]at g3 g4 g5 g7 g8 g9;clear hu;subst ht;simp only [List.range,List.range.loop,List.map_cons,List.map_nil,g3,g4,g5,g7,g8,g9];clear g0 g3 g4 g5 g7 g8 g9;obtain⟨⟨⟨y,az⟩,bx,bz⟩,⟨aQ,bq,bs⟩⟩:=e;dsimp only at q1 q2 aQ bq bs ⊢;obtain⟨⟨h1,h2,h3,h4,h5,h6,h7⟩,ad⟩:=hI;have bk:SlW w (O a n c) x rt (pre.foldl (fun _ e=>dirE e.1) (0,0)) W:=⟨h1,h2,h3,h4,h5,h6,h7⟩;have aj:=hd9 bk;have ak:=hd9 ad;obtain⟨au,aw,av,ay,ae,ag,af,r0,r1,r2,_,_,_,zr,bD⟩:=h4.rd;obtain⟨ta,tm,tc,ts,bc,be,bd,t0,t1,t2,_,_,_,zt,bC⟩:=h5.rd;have l0:=qcB h3 (i:=0) (u:=O a n c) rfl;have e0:=qcB q1 (i:=0) (u:=N J y) rfl;have z1:=zaa q1;have z2:=zaa q2;have aq:=hd9 q1;have ar:=hd9 q2;obtain⟨aK,bN,bO,bP⟩:=aQ;have bi:=zau (k:=104000) (n:=y) aK;have aA:=hd9 bi;have aX:=hd9 (fun W=>zaM W y (by unfold Bd at aK;omega) (by unfold Bd at aK;omega));have aH:=hd9 bD;have bM:=hd9 bC;have bg:=hd9 (fun W' (hW:Ext W W')=>HL.out W' (h1.trans hW));obtain⟨T1,a4⟩:=gX (rcmp x ((y:Int):Rat));have aW:=hd9 a4;obtain⟨T2,a5⟩:=gX (rcmp x rt);have bK:=hd9 a5;obtain⟨lf,aM⟩:=gX (lineL ps);rw [aM]at bg;have b5:=hd9 aM;have bv:slopeX (lineL ps) x rt ((y,az),bx,bz)=(decide (T1<0) || (decide (T1=0)&&(decide (lf<y)&&decide (0≤T2)))):=by unfold slopeX;dsimp only;rw [a4,a5,aM]
  have aD:=hd9 bv;have bV:0≤bx-y∧bx-y≤208000:=by unfold Bd at aK bO;omega
  have bW : -208000≤bz-az∧bz-az≤208000:=by unfold Bd at bN bP;omega
  obtain⟨m,aS⟩:=gX (bx-y);obtain⟨j,aT⟩:=gX (bz-az);rw [aS]at bV;rw [aT]at bW;obtain⟨d,aL⟩:∃g:Nat,Nat.gcd m.natAbs j.natAbs=g:=⟨_,rfl⟩
  have b7:0<d:=by
   rw [←aL]
   rcases Nat.eq_zero_or_pos (Nat.gcd m.natAbs j.natAbs)with h|h
   ·exfalso
    obtain⟨q1,q2⟩:=Nat.gcd_eq_zero_iff.1 h
    apply bs
    have:=Int.natAbs_eq_zero.1 q1;have:=Int.natAbs_eq_zero.1 q2;exact Prod.ext dO dO
   ·exact h
  have aB:=hd9 (fun W'=>show Calls Tryz.prog 133 #[N J m,N J (max j (-j))] W' (fun e w'=>e = .returned (N J (d:Nat))∧Ext W' w') by
   have h:=zgN W' m.natAbs j.natAbs oM oM;rw [aL,show ((m.natAbs:Nat):Int)=m by omega,show ((j.natAbs:Nat):Int)=max j (-j) by omega]at h;exact h)
  have aR:dirE ((y,az),bx,bz)=(m.tdiv d,j.tdiv d):=by unfold dirE;dsimp only;rw [aS,aT,aL]
  have aC:=hd9 aR;have ca:(m.tdiv (d:Int)).natAbs≤208000:=by rw [Int.natAbs_tdiv];exact nT (Nat.div_le_self _ _) oM
  have cb:(j.tdiv (d:Int)).natAbs≤208000:=by rw [Int.natAbs_tdiv];exact nT (Nat.div_le_self _ _) oM
  clear aR aL
  have bj:CellL [(⟨w.heap.size+1,0,Y⟩,O au aw av),(⟨w.heap.size+1,1,Y⟩,Z ay),(⟨w.heap.size+1,2,Y⟩,O ae ag af),(⟨w.heap.size+1+1,0,Y⟩,O ta tm tc),(⟨w.heap.size+1+1,1,Y⟩,Z ts),(⟨w.heap.size+1+1,2,Y⟩,O bc be bd),(⟨w.heap.size,0,Y⟩,O a n c),(⟨B,0,Y⟩,N J y)] W.drew:=
   ⟨r0,r1,r2,t0,t1,t2,l0,e0,trivial⟩
  have bJ:=hd9 bj;clear bk ad h3 h4 h5 h6 h7 r0 r1 r2 t0 t1 t2 l0 e0 bD bC a4 a5 aM bv bj bi q1 q2
  gi_wp2
  refine zap (S:=CellL [(⟨w.heap.size+1,0,Y⟩,O au aw av),(⟨w.heap.size+1,1,Y⟩,Z ay),(⟨w.heap.size+1,2,Y⟩,O ae ag af),(⟨w.heap.size+1+1,0,Y⟩,O ta tm tc),(⟨w.heap.size+1+1,1,Y⟩,Z ts),(⟨w.heap.size+1+1,2,Y⟩,O bc be bd),(⟨w.heap.size,0,Y⟩,O a n c),(⟨B,0,Y⟩,N J y)]) kM kM bJ.out (fun b=>?_);refine sN 0 ?_
  iterate 3
   refine tkn ?_
  refine oN ?_;refine cl1 (i:=3) fun K f=>?_
  go_simp
  (with_reducible refine cM (aX.out _) ?_)
  rintro e w3 ⟨v3,rfl,bu,a7⟩;obtain⟨a3,m3,c3,s3,b3,n3,k3,rfl⟩:=bu.form
  go_wp2_with fail
  refine kO f (cE b a7) (fun b=>?_);clear f K;have ah:=hd9 (zan w3 (R #[O au aw av,Z ay,O ae ag af]) (R #[O a3 m3 c3,Z s3,O b3 n3 k3]) x ((y:Int):Rat) (aH.out.ext ((eR W).drew.trans a7)) bu (Hb.out.mono dM) (aA.out.mono dM));rw [aW.out]at ah;refine cl1 (i:=4) fun K f=>?_
  go_simp
  (with_reducible refine cM ah.out ?_)
  rintro e w4 ⟨rfl,bB⟩
  skip
  go_wp2_with fail
  refine kO f (cE b bB) (fun b=>?_);clear f K;have X4:Ext W w4:=((eR W).drew.trans a7).trans bB;clear ah
  by_cases hn:T1<0
  ·have T:slopeX (lineL ps) x rt ((y,az),bx,bz)=true:=by rw [aD.out,decide_eq_true hn];rfl
   refine sN 5 ?_
   iterate 2
    refine tkn ?_
   iterate 19
    refine tkgn ?_
   refine tkn ?_;refine oN ?_;refine wpAnyH_done kM ?_ _;unfold NQ
   gi_wp2
   exact⟨zaA X4,rfl,pre,_,rfl,aj.out.ext X4,ak.out,T⟩
  by_cases hp:0<T1
  ·have b9:(T1==0)=false:=by simp;omega
   have T:slopeX (lineL ps) x rt ((y,az),bx,bz)=false:=by rw [aD.out,decide_eq_false hn,show decide (T1=0)=false by simp;omega];rfl
   refine sN 5 ?_
   iterate 5
    refine tkn ?_
   refine oN ?_;refine cl1 (i:=10) fun K f=>?_
   go_simp
   (with_reducible refine cM (aX.out _) ?_)
   rintro e bf ⟨bX,rfl,am,aa⟩;obtain⟨aZ,a9,a1,bb,a0,ba,a8,rfl⟩:=am.form
   go_wp2_with fail
   refine kO f (cE b aa) (fun b=>?_);clear f K;have ah:=hd9 (zan bf (R #[O au aw av,Z ay,O ae ag af]) (R #[O aZ a9 a1,Z bb,O a0 ba a8]) x ((y:Int):Rat) (aH.out.ext (X4.trans aa)) am (Hb.out.mono dM) (aA.out.mono dM));rw [aW.out]at ah;refine cl1 (i:=11) fun K f=>?_
   go_simp
   (with_reducible refine cM ah.out ?_)
   rintro e ac ⟨rfl,an⟩
   skip
   go_wp2_with fail
   refine kO f (cE b an) (fun b=>?_);clear f K;have aI:Ext W ac:=(X4.trans aa).trans an;refine sN 12 ?_
   iterate 2
    refine tkn ?_
   iterate 5
    refine tkgn ?_
   iterate 2
    refine tkn ?_
   iterate 4
    refine tkgn ?_
   iterate 2
    refine tkn ?_
   refine oN ?_;refine wpAnyH_done kM ?_ _;unfold NQ;have hX:Ext W ac:=aI;have bF:=qcB (hX.heapS aq.out) (i:=0) (u:=N J y) rfl;have bG:=qcB (hX.heapS aq.out) (i:=1) (u:=N J az) rfl;have bH:=qcB (hX.heapS ar.out) (i:=0) (u:=N J bx) rfl;have bI:=qcB (hX.heapS ar.out) (i:=1) (u:=N J bz) rfl
   gi_wp2
   refine⟨trivial,CallsIn.mono (CallsIn.inRound l (callsIn_wide.2 (aB.out _))) ?_⟩;rintro e w5 ⟨rfl,ao⟩;dsimp only;have al:=ao.heapS (aN ac (Oa #[N J m,N J j] 33));have d0:=qcB al (i:=0) (u:=N J m) rfl;have d1:=qcB al (i:=1) (u:=N J j) rfl;have X5:Ext W w5:=(hX.alloc _).trans ao;have bn:¬((d:Nat):Int)=0:=oM
   have bp:¬d=0:=oM
   have bo:(((d:Nat):Int)==0)=false:=by simp;omega
   have u1:IntKind.i64.wrap (m.tdiv d)=m.tdiv d:=iW _ ⟨by omega,by omega⟩;have u2:IntKind.i64.wrap (j.tdiv d)=j.tdiv d:=iW _ ⟨by omega,by omega⟩;have z:=(aj.out.ext X5).2.2.2.2.2.2;have o0:=qcB z (i:=0) rfl;have o1:=qcB z (i:=1) rfl;have of:=qfB z;have bE:w.heap.size+1+1+1+1<ac.heap.size:=by have:=hX.size;omega
   have t:=hd9 (show ∀q∈[((⟨ac.heap.size,0,Y⟩:Addr),Value.int J m),(⟨ac.heap.size,1,Y⟩,N J j)],w.heap.size+1+1+1+1≠q.1.block from fun q hq h=>by
    simp at hq
    rcases hq with rfl|rfl<;>(dsimp only at h;omega))
   gi_wp2
   refine zap (S:=CellL [(⟨ac.heap.size,0,Y⟩,N J m),(⟨ac.heap.size,1,Y⟩,N J j)]) kM kM ⟨d0,d1,trivial⟩ (fun b=>?_);refine sN 0 ?_
   iterate 9
    refine tkn ?_
   refine oN ?_;refine cl1 (i:=9) fun K f=>?_
   go_simp;refine kO f (CellL.set (p:=⟨w.heap.size+1+1+1+1,1,Y⟩) (CellL.set (p:=⟨w.heap.size+1+1+1+1,0,Y⟩) b t.out _) t.out _) (fun b=>?_);clear f K;refine wpAnyH_done kM ?_ _;unfold NQ;have aE:=(aj.out.ext X5.drew).put (m.tdiv d,j.tdiv d);have aF:KeepsFrom W0.heap.size W ((w5.drew.setCell ⟨w.heap.size+1+1+1+1,0,Y⟩ (N J (m.tdiv d))).setCell ⟨w.heap.size+1+1+1+1,1,Y⟩ (N J (j.tdiv d))):=((zaA X5.drew).trans ((KeepsOthers.setCell _ _ _).from _)).trans ((KeepsOthers.setCell _ _ _).from _)
   have aG:KpW w (w.heap.size+1+1+1+1+1) W ((w5.drew.setCell ⟨w.heap.size+1+1+1+1,0,Y⟩ (N J (m.tdiv d))).setCell ⟨w.heap.size+1+1+1+1,1,Y⟩ (N J (j.tdiv d))):=
    (((KpW.refl w _ W).ext X5.drew h1.size oM).set dO dO _).set dO dO _
   gi_wp2
   refine⟨aF,aG,?_,fun e he=>?_⟩
   ·rw [List.foldl_append,List.foldl_cons,List.foldl_nil]
    dsimp only;rw [aC.out];exact aE
   ·rcases List.mem_append.1 he with he|he
    ·exact ak.out e he
    ·rw [List.mem_singleton.1 he];exact T
  ·have bT:T1=0:=oM
   subst bT;clear hn hp;refine sN 5 ?_
   iterate 5
    refine tkn ?_
   refine oN ?_;refine cl1 (i:=10) fun K f=>?_
   go_simp
   (with_reducible refine cM (aX.out _) ?_)
   rintro e bf ⟨bX,rfl,am,aa⟩;obtain⟨aZ,a9,a1,bb,a0,ba,a8,rfl⟩:=am.form
   go_wp2_with fail
   refine kO f (cE b aa) (fun b=>?_);clear f K;have ah:=hd9 (zan bf (R #[O au aw av,Z ay,O ae ag af]) (R #[O aZ a9 a1,Z bb,O a0 ba a8]) x ((y:Int):Rat) (aH.out.ext (X4.trans aa)) am (Hb.out.mono dM) (aA.out.mono dM));rw [aW.out]at ah;refine cl1 (i:=11) fun K f=>?_
   go_simp
   (with_reducible refine cM ah.out ?_)
   rintro e ac ⟨rfl,an⟩
   skip
   go_wp2_with fail
   refine kO f (cE b an) (fun b=>?_);clear f K;have aI:Ext W ac:=(X4.trans aa).trans an;refine sN 12 ?_
   iterate 5
    refine tkn ?_
   refine oN ?_;refine cl1 (i:=17) fun K f=>?_
   go_simp
   (with_reducible refine cM (bg.out _ aI) ?_)
   rintro e ai ⟨rfl,aU⟩
   skip
   go_wp2_with fail
   refine kO f (cE b aU) (fun b=>?_);clear f K;have aJ:Ext W ai:=aI.trans aU
   by_cases br:lf<y
   rotate_left 1
   ·have T:slopeX (lineL ps) x rt ((y,az),bx,bz)=false:=by rw [aD.out,decide_eq_false br];simp
    refine sN 18 ?_
    iterate 3
     refine tkn ?_
    iterate 4
     refine tkgn ?_
    iterate 2
     refine tkn ?_
    refine oN ?_;refine wpAnyH_done kM ?_ _;unfold NQ;have hX:Ext W ai:=aJ;have bF:=qcB (hX.heapS aq.out) (i:=0) (u:=N J y) rfl;have bG:=qcB (hX.heapS aq.out) (i:=1) (u:=N J az) rfl;have bH:=qcB (hX.heapS ar.out) (i:=0) (u:=N J bx) rfl;have bI:=qcB (hX.heapS ar.out) (i:=1) (u:=N J bz) rfl
    gi_wp2
    refine⟨trivial,CallsIn.mono (CallsIn.inRound l (callsIn_wide.2 (aB.out _))) ?_⟩;rintro e w5 ⟨rfl,ao⟩;dsimp only;have al:=ao.heapS (aN ai (Oa #[N J m,N J j] 33));have d0:=qcB al (i:=0) (u:=N J m) rfl;have d1:=qcB al (i:=1) (u:=N J j) rfl;have X5:Ext W w5:=(hX.alloc _).trans ao;have bn:¬((d:Nat):Int)=0:=oM
    have bp:¬d=0:=oM
    have bo:(((d:Nat):Int)==0)=false:=by simp;omega
    have u1:IntKind.i64.wrap (m.tdiv d)=m.tdiv d:=iW _ ⟨by omega,by omega⟩;have u2:IntKind.i64.wrap (j.tdiv d)=j.tdiv d:=iW _ ⟨by omega,by omega⟩;have z:=(aj.out.ext X5).2.2.2.2.2.2;have o0:=qcB z (i:=0) rfl;have o1:=qcB z (i:=1) rfl;have of:=qfB z;have bE:w.heap.size+1+1+1+1<ai.heap.size:=by have:=hX.size;omega
    have t:=hd9 (show ∀q∈[((⟨ai.heap.size,0,Y⟩:Addr),Value.int J m),(⟨ai.heap.size,1,Y⟩,N J j)],w.heap.size+1+1+1+1≠q.1.block from fun q hq h=>by
     simp at hq
     rcases hq with rfl|rfl<;>(dsimp only at h;omega))
    gi_wp2
    refine zap (S:=CellL [(⟨ai.heap.size,0,Y⟩,N J m),(⟨ai.heap.size,1,Y⟩,N J j)]) kM kM ⟨d0,d1,trivial⟩ (fun b=>?_);refine sN 0 ?_
    iterate 9
     refine tkn ?_
    refine oN ?_;refine cl1 (i:=9) fun K f=>?_
    go_simp;refine kO f (CellL.set (p:=⟨w.heap.size+1+1+1+1,1,Y⟩) (CellL.set (p:=⟨w.heap.size+1+1+1+1,0,Y⟩) b t.out _) t.out _) (fun b=>?_);clear f K;refine wpAnyH_done kM ?_ _;unfold NQ;have aE:=(aj.out.ext X5.drew).put (m.tdiv d,j.tdiv d);have aF:KeepsFrom W0.heap.size W ((w5.drew.setCell ⟨w.heap.size+1+1+1+1,0,Y⟩ (N J (m.tdiv d))).setCell ⟨w.heap.size+1+1+1+1,1,Y⟩ (N J (j.tdiv d))):=((zaA X5.drew).trans ((KeepsOthers.setCell _ _ _).from _)).trans ((KeepsOthers.setCell _ _ _).from _)
    have aG:KpW w (w.heap.size+1+1+1+1+1) W ((w5.drew.setCell ⟨w.heap.size+1+1+1+1,0,Y⟩ (N J (m.tdiv d))).setCell ⟨w.heap.size+1+1+1+1,1,Y⟩ (N J (j.tdiv d))):=
     (((KpW.refl w _ W).ext X5.drew h1.size oM).set dO dO _).set dO dO _
    gi_wp2
    refine⟨aF,aG,?_,fun e he=>?_⟩
    ·rw [List.foldl_append,List.foldl_cons,List.foldl_nil]
     dsimp only;rw [aC.out];exact aE
    ·rcases List.mem_append.1 he with he|he
     ·exact ak.out e he
     ·rw [List.mem_singleton.1 he];exact T
   refine sN 18 ?_
   iterate 5
    refine tkn ?_
   refine oN ?_;have aP:=hd9 (zan ai (R #[O au aw av,Z ay,O ae ag af]) (R #[O ta tm tc,Z ts,O bc be bd]) x rt (aH.out.ext aJ) (bM.out.ext aJ) (Hb.out.mono dM) (bL.out.mono dM));rw [bK.out]at aP;refine cl1 (i:=23) fun K f=>?_
   go_simp
   (with_reducible refine cM aP.out ?_)
   rintro e ap ⟨rfl,aV⟩
   skip
   go_wp2_with fail
   refine kO f (cE b aV) (fun b=>?_);clear f K;have aY:Ext W ap:=aJ.trans aV
   by_cases ht:0≤T2
   ·have T:slopeX (lineL ps) x rt ((y,az),bx,bz)=true:=by rw [aD.out,decide_eq_true br,decide_eq_true ht];simp
    refine sN 24 ?_
    iterate 3
     refine tkn ?_
    refine oN ?_;refine wpAnyH_done kM ?_ _;unfold NQ
    gi_wp2
    exact⟨zaA aY,rfl,pre,_,rfl,aj.out.ext aY,ak.out,T⟩
   ·have T:slopeX (lineL ps) x rt ((y,az),bx,bz)=false:=by rw [aD.out,decide_eq_false ht];simp
    refine sN 24 ?_
    iterate 3
     refine tkn ?_
    refine oN ?_;refine wpAnyH_done kM ?_ _;unfold NQ;have hX:Ext W ap:=aY;have bF:=qcB (hX.heapS aq.out) (i:=0) (u:=N J y) rfl;have bG:=qcB (hX.heapS aq.out) (i:=1) (u:=N J az) rfl;have bH:=qcB (hX.heapS ar.out) (i:=0) (u:=N J bx) rfl;have bI:=qcB (hX.heapS ar.out) (i:=1) (u:=N J bz) rfl
    gi_wp2
    refine⟨trivial,CallsIn.mono (CallsIn.inRound l (callsIn_wide.2 (aB.out _))) ?_⟩;rintro e w5 ⟨rfl,ao⟩;dsimp only;have al:=ao.heapS (aN ap (Oa #[N J m,N J j] 33));have d0:=qcB al (i:=0) (u:=N J m) rfl;have d1:=qcB al (i:=1) (u:=N J j) rfl;have X5:Ext W w5:=(hX.alloc _).trans ao;have bn:¬((d:Nat):Int)=0:=oM
    have bp:¬d=0:=oM
    have bo:(((d:Nat):Int)==0)=false:=by simp;omega
    have u1:IntKind.i64.wrap (m.tdiv d)=m.tdiv d:=iW _ ⟨by omega,by omega⟩;have u2:IntKind.i64.wrap (j.tdiv d)=j.tdiv d:=iW _ ⟨by omega,by omega⟩;have z:=(aj.out.ext X5).2.2.2.2.2.2;have o0:=qcB z (i:=0) rfl;have o1:=qcB z (i:=1) rfl;have of:=qfB z;have bE:w.heap.size+1+1+1+1<ap.heap.size:=by have:=hX.size;omega
    have t:=hd9 (show ∀q∈[((⟨ap.heap.size,0,Y⟩:Addr),Value.int J m),(⟨ap.heap.size,1,Y⟩,N J j)],w.heap.size+1+1+1+1≠q.1.block from fun q hq h=>by
     simp at hq
     rcases hq with rfl|rfl<;>(dsimp only at h;omega))
    gi_wp2
    refine zap (S:=CellL [(⟨ap.heap.size,0,Y⟩,N J m),(⟨ap.heap.size,1,Y⟩,N J j)]) kM kM ⟨d0,d1,trivial⟩ (fun b=>?_);refine sN 0 ?_
    iterate 9
     refine tkn ?_
    refine oN ?_;refine cl1 (i:=9) fun K f=>?_
    go_simp;refine kO f (CellL.set (p:=⟨w.heap.size+1+1+1+1,1,Y⟩) (CellL.set (p:=⟨w.heap.size+1+1+1+1,0,Y⟩) b t.out _) t.out _) (fun b=>?_);clear f K;refine wpAnyH_done kM ?_ _;unfold NQ;have aE:=(aj.out.ext X5.drew).put (m.tdiv d,j.tdiv d);have aF:KeepsFrom W0.heap.size W ((w5.drew.setCell ⟨w.heap.size+1+1+1+1,0,Y⟩ (N J (m.tdiv d))).setCell ⟨w.heap.size+1+1+1+1,1,Y⟩ (N J (j.tdiv d))):=((zaA X5.drew).trans ((KeepsOthers.setCell _ _ _).from _)).trans ((KeepsOthers.setCell _ _ _).from _)
    have aG:KpW w (w.heap.size+1+1+1+1+1) W ((w5.drew.setCell ⟨w.heap.size+1+1+1+1,0,Y⟩ (N J (m.tdiv d))).setCell ⟨w.heap.size+1+1+1+1,1,Y⟩ (N J (j.tdiv d))):=
     (((KpW.refl w _ W).ext X5.drew h1.size oM).set dO dO _).set dO dO _
    gi_wp2
    refine⟨aF,aG,?_,fun e he=>?_⟩
    ·rw [List.foldl_append,List.foldl_cons,List.foldl_nil]
     dsimp only;rw [aC.out];exact aE
    ·rcases List.mem_append.1 he with he|he
     ·exact ak.out e he
     ·rw [List.mem_singleton.1 he];exact T
 case done =>
  rintro D ys W hD rfl ⟨⟨h1,h2,h3,h4,h5,h6,h7⟩,ad⟩ f;have hR:=zkz bh.out ad;obtain⟨⟨ox,oz⟩,ho⟩:∃o,ys.foldl (fun _ e=>dirE e.1) ((0,0):Int×Int)=o:=⟨_,rfl⟩;rw [ho]at h7 hR;have HR:=hd9 hR;have e0:=qcB h7 (i:=0) (u:=N J ox) rfl;have e1:=qcB h7 (i:=1) (u:=N J oz) rfl;have f0:=qcB h6 (i:=0) (u:=N J 0) rfl;have f1:=qcB h6 (i:=1) (u:=N J 0) rfl;have ff:=qfB h6;clear hR ho
  gi_wp2
  have a2:=zac (zac h6 0 (N J ox)) 1 (N J oz);have X:=(h1.set (p:=⟨w.heap.size+1+1+1,0,Y⟩) dO (N J ox)).set (p:=⟨w.heap.size+1+1+1,1,Y⟩) dO (N J oz);refine zca [D] _ ⟨by simp,fun E hE=>?_⟩ (fun W' a6=>?_)
  ·rw [List.mem_singleton.1 hE,bS _ _ _ _ dO,bS _ _ _ _ dO];exact f
  ·have hS:=a6 w.heap.size (fun E hE=>by rw [List.mem_singleton.1 hE];omega)
   have h8:=hS.heap a2;have c0:=qcB h8 (i:=0) (u:=N J ox) rfl;have c1:=qcB h8 (i:=1) (u:=N J oz) rfl;refine⟨R #[N J ox,N J oz],by simp [results,Tryz.results95,go_sem,c0,c1],?_⟩;rw [HR.out];exact⟨rfl,hS.ext X (nE _)⟩
 case stop =>
  rintro D c pre W hD bt ⟨rfl,p,e,rfl,⟨h1,h2,h3,h4,h5,h6,h7⟩,ad,T⟩ f;have hR:=zlM bh.out bt ad T;obtain⟨⟨ox,oz⟩,ho⟩:∃o,p.foldl (fun _ e=>dirE e.1) ((0,0):Int×Int)=o:=⟨_,rfl⟩;rw [ho]at h7 hR;have HR:=hd9 hR;have e0:=qcB h7 (i:=0) (u:=N J ox) rfl;have e1:=qcB h7 (i:=1) (u:=N J oz) rfl;have f0:=qcB h6 (i:=0) (u:=N J 0) rfl;have f1:=qcB h6 (i:=1) (u:=N J 0) rfl;have ff:=qfB h6;clear hR ho
  gi_wp2
  have a2:=zac (zac h6 0 (N J ox)) 1 (N J oz);have X:=(h1.set (p:=⟨w.heap.size+1+1+1,0,Y⟩) dO (N J ox)).set (p:=⟨w.heap.size+1+1+1,1,Y⟩) dO (N J oz);refine zca [D] _ ⟨by simp,fun E hE=>?_⟩ (fun W' a6=>?_)
  ·rw [List.mem_singleton.1 hE,bS _ _ _ _ dO,bS _ _ _ _ dO];exact f
  ·have hS:=a6 w.heap.size (fun E hE=>by rw [List.mem_singleton.1 hE];omega)
   have h8:=hS.heap a2;have c0:=qcB h8 (i:=0) (u:=N J ox) rfl;have c1:=qcB h8 (i:=1) (u:=N J oz) rfl;refine⟨R #[N J ox,N J oz],by simp [results,Tryz.results95,go_sem,c0,c1],?_⟩;rw [HR.out];exact⟨rfl,hS.ext X (nE _)⟩
end
section
open Go.RowKit Go.Shelf
section
variable {P:Program} {ops:Array Oper} {Q:Exit→Act→I→Prop} {md:Region.Mode} {S:I→Prop} {late:Nat→Bool}
def HU (P:Program) (md:Region.Mode) (ops:Array Oper) (Q:Exit→Act→I→Prop) (S:I→Prop) (late:Nat→Bool):Nat→Array Bool→Act→I→Prop
 | 0,b,a,w=>Region.ready md ops b=[]∧Q .normal a w
 | fuel+1,b,a,w =>
  (Region.ready md ops b=[]→Q .normal a w) ∧
  ∀i∈Region.ready md ops b,wpOp P ops Q i (fun d c=>(late i=false→S c)∧HU P md ops Q S late fuel (b.setIfInBounds i true) d c) a w
theorem zeF:∀(fuel:Nat) (b:Array Bool) (a:Act) (w:I),HU P md ops Q S late fuel b a w→wpAny P md ops Q fuel b a w
 | 0,_,_,_,h=>h
 | fuel+1,_,_,_,h=>⟨h.1,fun i e=>wpOp_mono (fun c f d=>zeF fuel _ c f d.2) (h.2 i e)⟩
theorem zkT {m i:Nat} {oi:Oper} {v:F} (hg:gated md ops late m=true) (ac:late i=false) (hi:ops[i]?=C oi) (s:∀(j:Nat) (o:Oper) y b,ops[j]?=C o→o.op ≠ .select y b)
  (hQ:∀c a w,Q (.panic c) (a.put oi.dst v) w→Q (.panic c) a w) :
  ∀(fuel:Nat) (d:Array Bool) (a:Act) (w:I),Cl md ops d →
   (∀j oj,ops[j]?=C oj→j≠i→d.getD j true=false→(∀e∈oj.after,Region.binds md e=true→e.on≠i)→oi.apart ops oj=true) →
   i∈Region.ready md ops d→YieldsIf P ops S oi v a→S w →
   HU P md ops Q S late fuel (d.setIfInBounds i true) (a.put oi.dst v) w→HU P md ops Q S late (fuel+1) d a w:=by
 intro fuel
 induction fuel with
 | zero =>
  intro d a w hc _ q hy z H;refine⟨fun h=>(by rw [h]at q;cases q),fun j x=>?_⟩
  by_cases f:j=i
  ·subst f;exact hy.wpOp hi z ⟨fun _=>z,H⟩
  ·have:=ready_mono x f
   rw [H.1]at this
   cases this
 | succ fuel ih =>
  intro d a w hc g q hy z H;refine⟨fun h=>(by rw [h]at q;cases q),fun j x=>?_⟩
  by_cases f:j=i
  ·subst f;exact hy.wpOp hi z ⟨fun _=>z,H⟩
  ·have t:=H.2 j (ready_mono x f)
   have ad:=zej hg hc q ac x;obtain⟨p,oj,u,D⟩:=mem_ready.1 x
   have T:∀e∈oj.after,Region.binds md e=true→e.on≠i:=fun e he hb aa=>by
    have t:=D e he hb;have h0:=(mem_ready.1 q).1;rw [aa]at t
    rcases Nat.lt_or_ge i d.size with h' | h'
    ·simp [h']at h0 t;rw [h0]at t;cases t
    ·simp [Array.getElem?_eq_none h']at t
   have h2:=wpOp_putIf u (g j oj u f p T) (fun y b=>s i oi y b hi) (fun y b=>s j oj y b u) hQ hy t
   have n:∀k ok,ops[k]?=C ok→k≠i→(d.setIfInBounds j true).getD k true=false →
     (∀e∈ok.after,Region.binds md e=true→e.on≠i)→oi.apart ops ok=true:=fun k ok hk ab W ae=>by
    refine g k ok hk ab ?_ ae
    by_cases K:j=k
    ·subst K;exact p
    ·rw [getD_set_ne true K]at W;exact W
   refine wpOp_mono (fun a' w' h3=>⟨h3.2.1,ih (d.setIfInBounds j true) a' w' (hc.step x) n (ready_mono q (Ne.symm f)) h3.1 (h3.2.1 ad) ?_⟩) h2;rw [Array.setIfInBounds_comm _ _ f];exact h3.2.2
def HUc (P:Program) (md:Region.Mode) (ops:Array Oper) (Q:Exit→Act→I→Prop) (S:I→Prop) (late:Nat→Bool) (fuel:Nat) (b:Array Bool) (a:Act) (w:I):Prop:=Cl md ops b→HU P md ops Q S late fuel b a w
def TakeHU (P:Program) (md:Region.Mode) (ops:Array Oper) (Q:Exit→Act→I→Prop) (S:I→Prop) (late:Nat→Bool) (fuel:Nat) (b:Array Bool) (a:Act) (w:I) (i:Nat) (oi:Oper):Prop:=
 ∃v,late i=false∧Region.noSelect ops=true∧Region.free md ops b i=true∧(Region.ready md ops b).contains i=true∧(∀c a w,Q (.panic c) (a.put oi.dst v) w→Q (.panic c) a w)∧YieldsIf P ops S oi v a∧S w ∧
  HUc P md ops Q S late fuel (b.setIfInBounds i true) (a.put oi.dst v) w
theorem takeHU {m:Nat} (p:gated md ops late m=true) {i:Nat} {oi:Oper} {fuel:Nat} {b:Array Bool} {a:Act} {w:I} (hi:ops[i]?=C oi) (h:TakeHU P md ops Q S late fuel b a w i oi):HUc P md ops Q S late (fuel+1) b a w:=by
 obtain⟨v,e,f,g,j,k,n,h6,o⟩:=h;intro c;have d:i∈Region.ready md ops b:=by simpa using j
 exact zkT p e hi (Region.noSelect_spec f) k fuel b a w c (Region.free_spec hi g) d n h6 (o (c.step d))
def CallHU (P:Program) (md:Region.Mode) (ops:Array Oper) (Q:Exit→Act→I→Prop) (S:I→Prop) (late:Nat→Bool) (fuel:Nat) (b:Array Bool) (a:Act) (w:I) (i:Nat) (o:Oper):Prop:=
 Region.ready md ops b=[i]∧∀K':Act→I→Prop,Shut (∀a w,(late i=false→S w)→((late i=false→S w)→HUc P md ops Q S late fuel (b.setIfInBounds i true) a w)→K' a w) →
  if Region.wanted o (yielded ops a.tmps)=true then Oper.wp P o a w K' Q else K' (a.put o.dst undef) w
theorem callHU {i:Nat} {o:Oper} {fuel:Nat} {b:Array Bool} {a:Act} {w:I} (hi:ops[i]?=C o) (h:CallHU P md ops Q S late fuel b a w i o):HUc P md ops Q S late (fuel+1) b a w:=by
 obtain⟨f,h⟩:=h;intro n;refine⟨fun g=>absurd (f▸g) sM,fun j c=>?_⟩;have d:=c;rw [f]at c
 cases List.mem_singleton.1 c
 exact wpOp_step hi (fun K' k=>h K' (fun a w e m=>k a w ⟨e,m e (n.step d)⟩))
theorem doneHU {b:Array Bool} {a:Act} {w:I} (c:Region.ready md ops b=[]) (h:Q .normal a w):∀fuel,HUc P md ops Q S late fuel b a w
 | 0=>fun _=>⟨c,h⟩
 | _+1=>fun _=>⟨fun _=>h,by rw [c];simp⟩
theorem tu1 {v:F} {i:Nat} {oi:Oper} {fuel:Nat} {b:Array Bool} {a:Act} {w:I} {G:Prop} (h:G) (m:gated md ops late 12=true:=by kernel_rfl) (hi:ops[i]?=C oi:=by(simp only [gA,gS,gZ];rfl)) (e:late i=false:=by rfl) (f:Region.noSelect ops=true:=by kernel_rfl) (g:Region.free md ops b i=true:=by kernel_rfl) (j:(Region.ready md ops b).contains i=true:=by kernel_rfl) (h4:∀c a w,Q (.panic c) (a.put oi.dst v) w→Q (.panic c) a w:=by exact fun _ _ _ h=>h) (n:Region.wanted oi (yielded ops a.tmps)=true:=by rfl) (o:∀w,S w→(execOp a.eval oi).run P w = .ok (.value v) w:=by(intro w d;simp only [CellL,and_true]at d;go_simp;try(with_reducible rfl))) (h6:S w:=by(with_reducible assumption)) (k:HUc P md ops Q S late fuel (b.setIfInBounds i true) (a.put oi.dst v) w=G:=by((try simp only [Act.put,sA,sZ,sS]);rfl)):HUc P md ops Q S late (fuel+1) b a w:=by
 subst k;exact takeHU m hi ⟨v,e,f,g,j,h4,Or.inl ⟨n,o⟩,h6,h⟩
theorem tug1 {i:Nat} {oi:Oper} {fuel:Nat} {b:Array Bool} {a:Act} {w:I} {G:Prop} (h:G) (k:gated md ops late 12=true:=by kernel_rfl) (hi:ops[i]?=C oi:=by(simp only [gA,gS,gZ];rfl)) (d:late i=false:=by rfl) (e:Region.noSelect ops=true:=by kernel_rfl) (f:Region.free md ops b i=true:=by kernel_rfl) (g:(Region.ready md ops b).contains i=true:=by kernel_rfl) (h4:∀c a w,Q (.panic c) (a.put oi.dst undef) w→Q (.panic c) a w:=by exact fun _ _ _ h=>h) (m:Region.wanted oi (yielded ops a.tmps)=false:=by rfl)  (h6:S w:=by(with_reducible assumption)) (j:HUc P md ops Q S late fuel (b.setIfInBounds i true) (a.put oi.dst undef) w=G:=by((try simp only [Act.put,sA,sZ,sS]);rfl)):HUc P md ops Q S late (fuel+1) b a w:=by
 subst j;exact takeHU k hi ⟨undef,d,e,f,g,h4,Or.inr ⟨m,rfl⟩,h6,h⟩
theorem tun {v:F} {i:Nat} {oi:Oper} {fuel:Nat} {b:Array Bool} {a:Act} {w:I} {G:Prop} (h:G) (m:gated md ops late 12=true:=by kernel_rfl) (hi:ops[i]?=C oi:=by(simp only [gA,gS,gZ];rfl)) (e:late i=false:=by rfl) (f:Region.noSelect ops=true:=by kernel_rfl) (g:Region.free md ops b i=true:=by kernel_rfl) (j:(Region.ready md ops b).contains i=true:=by kernel_rfl) (h4:∀c a w,Q (.panic c) (a.put oi.dst v) w→Q (.panic c) a w:=by exact fun _ _ _ h=>h) (n:Region.wanted oi (yielded ops a.tmps)=true:=by rfl) (o:∀w,S w→(execOp a.eval oi).run P w = .ok (.value v) w:=by(intro w d;simp only [CellL,and_true]at d;go_simp;try(with_reducible rfl))) (h6:S w:=by(with_reducible assumption)) (k:wpN (i+1) (HUc P md ops Q S late fuel (b.setIfInBounds i true) (a.put oi.dst v) w)=G:=by((try simp only [Act.put,sA,sZ,sS,Nat.reduceAdd]);rfl)):wpN i (HUc P md ops Q S late (fuel+1) b a w):=by
 subst k;exact takeHU m hi ⟨v,e,f,g,j,h4,Or.inl ⟨n,o⟩,h6,h⟩
theorem tugn {i:Nat} {oi:Oper} {fuel:Nat} {b:Array Bool} {a:Act} {w:I} {G:Prop} (h:G) (k:gated md ops late 12=true:=by kernel_rfl) (hi:ops[i]?=C oi:=by(simp only [gA,gS,gZ];rfl)) (d:late i=false:=by rfl) (e:Region.noSelect ops=true:=by kernel_rfl) (f:Region.free md ops b i=true:=by kernel_rfl) (g:(Region.ready md ops b).contains i=true:=by kernel_rfl) (h4:∀c a w,Q (.panic c) (a.put oi.dst undef) w→Q (.panic c) a w:=by exact fun _ _ _ h=>h) (m:Region.wanted oi (yielded ops a.tmps)=false:=by rfl)  (h6:S w:=by(with_reducible assumption)) (j:wpN (i+1) (HUc P md ops Q S late fuel (b.setIfInBounds i true) (a.put oi.dst undef) w)=G:=by((try simp only [Act.put,sA,sZ,sS,Nat.reduceAdd]);rfl)):wpN i (HUc P md ops Q S late (fuel+1) b a w):=by
 subst j;exact takeHU k hi ⟨undef,d,e,f,g,h4,Or.inr ⟨m,rfl⟩,h6,h⟩
theorem cu1 {i:Nat} {o:Oper} {fuel:Nat} {b:Array Bool} {a:Act} {w:I} (h:∀K':Act→I→Prop,Shut (∀a w,(late i=false→S w)→((late i=false→S w)→HUc P md ops Q S late fuel (b.setIfInBounds i true) a w)→K' a w)→if Region.wanted o (yielded ops a.tmps)=true then Oper.wp P o a w K' Q else K' (a.put o.dst undef) w) (hi:ops[i]?=C o:=by(simp only [gA,gS,gZ];rfl)) (c:Region.ready md ops b=[i]:=by kernel_rfl):HUc P md ops Q S late (fuel+1) b a w:=callHU hi ⟨c,h⟩
theorem callHU2 {i j:Nat} {oi e:Oper} {fuel:Nat} {b:Array Bool} {a:Act} {w:I}
  (q:∀K':Act→I→Prop,Shut (∀a w,(late i=false→S w)→((late i=false→S w)→HUc P md ops Q S late fuel (b.setIfInBounds i true) a w)→K' a w)→if Region.wanted oi (yielded ops a.tmps)=true then Oper.wp P oi a w K' Q else K' (a.put oi.dst undef) w)
  (s:∀K':Act→I→Prop,Shut (∀a w,(late j=false→S w)→((late j=false→S w)→HUc P md ops Q S late fuel (b.setIfInBounds j true) a w)→K' a w)→if Region.wanted e (yielded ops a.tmps)=true then Oper.wp P e a w K' Q else K' (a.put e.dst undef) w)
  (hi:ops[i]?=C oi:=by(simp only [gA,gS,gZ];rfl)) (t:ops[j]?=C e:=by(simp only [gA,gS,gZ];rfl)) (o:Region.ready md ops b=[i,j]:=by kernel_rfl) :
  HUc P md ops Q S late (fuel+1) b a w:=by
 intro n;refine⟨fun p=>absurd (o▸p) sM,fun k h=>?_⟩;have d:=h;rw [o]at h
 rcases List.mem_cons.1 h with rfl|m
 ·exact wpOp_step hi (fun K' f=>q K' (fun a w c g=>f a w ⟨c,g c (n.step d)⟩))
 ·cases List.mem_singleton.1 m
  exact wpOp_step t (fun K' f=>s K' (fun a w c g=>f a w ⟨c,g c (n.step d)⟩))
theorem zaV {d:Nat} {a:Act} {w:I} (late:Nat→Bool) (S:I→Prop) (c:P.follows .mixedOrders=true) (b:S w.drew)
  (h:S w.drew→HUc P .any ops Q S late ops.size (Array.replicate ops.size false) a w.drew):(Code.region d ops true).wp P Q a w:=
 wp_region_any c (zeF _ _ _ _ (h b (Cl.start _)))
end
def loopsOf:Code→List Code
 | .seq a b=>loopsOf a++loopsOf b
 | .cond _ a b=>loopsOf a++loopsOf b
 | .block _ b=>loopsOf b
 | .loop b=>b::loopsOf b
 | .rangeFunc _ _ a b=>loopsOf a++loopsOf b
 | .scope b=>loopsOf b
 | _=>[]
def loopAt (f:Func) (k:Nat):Code:=match f.body with|some c=>(loopsOf c).getD k .skip|none=>.skip
end
section
open Go.RowKit Go.Shelf
theorem ziE (w:I) (d f:F) (b:Int) (o:b<0) (g:∃a n c,d=O a n c) (h:∃a n c,f=O a n c) :
  Calls Tryz.prog 94 #[R #[d,f],N J b] w fun e i=>e = .returned d∧Ext w i:=by
 obtain⟨j,m,k,rfl⟩:=g;obtain⟨p,q,sc,rfl⟩:=h;go_enter Tryz.func94,Tryz.ntmps94;go_wp2;go_ret;exact⟨rfl,eA⟩
theorem zkG (w:I) (k m:F) (ps:List Pl) (i:Nat) (p:Pl) (y:∃a n c,k=O a n c) (d:IsLas w m ps) (h:ps[i]?=C p) :
  Calls Tryz.prog 94 #[R #[k,m],N J i] w fun e q=>∃v,e = .returned v∧IsPts q v (upP2 p)∧Ext w q:=by
 obtain⟨ga,gn,gc,rfl⟩:=y;obtain⟨sa,n,sc,rfl⟩:=form3 d;have D:=d.len;have g:=d.le;obtain⟨b,o,s,vl,vu,rfl,hb,u,x,f,j⟩:=d.at' h;obtain⟨K,W,T,rfl⟩:=form3 f;have cc:=j 11 (O K W T) rfl;have z:=(lS.1 h).1;have p1:(0:Int)≤(i:Int):=oM
 have p2:(i:Int)<(n:Int):=oM
 have p3:i<n:=oM
 have p4:¬(i:Int)<0:=oM
 have t:=hd9 f;clear d h j u x f D g z;go_enter Tryz.func94,Tryz.ntmps94;go_wp2;go_ret;exact⟨_,rfl,t.out.ext' eA,eA⟩
def wrongB (n:Nat) (i pin:Int):Bool:=decide (i<0) || (decide ((n:Int)≤i) || (decide (pin<0) || decide (50<pin)))
theorem zkO (w:I) (g:F) (j:Option Addr) (n sc:Nat) (i pin:Int) (h:∃a n c,g=O a n c) :
  Calls Tryz.prog 57 #[R #[g,O j n sc],N J i,N J pin] w fun e k=>e = .returned (Z (wrongB n i pin))∧Ext w k:=by
 obtain⟨m,p,o,rfl⟩:=h
 by_cases b:i<0
 ·have e:wrongB n i pin=true:=by unfold wrongB;simp [b]
  rw [e];go_enter Tryz.func57,Tryz.ntmps57;go_wp2;go_ret;exact⟨rfl,eA⟩
 by_cases d:(n:Int)≤i
 ·have e:wrongB n i pin=true:=by unfold wrongB;simp [d]
  rw [e];go_enter Tryz.func57,Tryz.ntmps57;go_wp2;go_ret;exact⟨rfl,eA⟩
 by_cases f:pin<0
 ·have e:wrongB n i pin=true:=by unfold wrongB;simp [f]
  rw [e];go_enter Tryz.func57,Tryz.ntmps57;go_wp2;go_ret;exact⟨rfl,eA⟩
 ·have e:wrongB n i pin=decide (50<pin):=by unfold wrongB;rw [decide_eq_false b,decide_eq_false d,decide_eq_false f];rfl
  rw [e];go_enter Tryz.func57,Tryz.ntmps57;go_wp2;go_ret;exact⟨rfl,eA⟩
theorem zkK (w:I) (o a:Obj):((w.alloc o).alloc a).heap[w.heap.size+1]?=C a:=qhA _ _ _ sM
def IsV (w:I) (v:F) (x z:Rat):Prop:=∃a m c s a2 m2 c2 b n k t b2 n2 k2,v=R #[O a m c,Z s,O a2 m2 c2,O b n k,Z t,O b2 n2 k2]∧IsR w (R #[O a m c,Z s,O a2 m2 c2]) x∧IsR w (R #[O b n k,Z t,O b2 n2 k2]) z
theorem IsV.ext {w w':I} {v:F} {x z:Rat} (h:IsV w v x z) (k:Ext w w'):IsV w' v x z:=by
 obtain⟨a,m,c,s,d,q,f,b,n,o,t,e,u,p,g,i,j⟩:=h;exact⟨a,m,c,s,d,q,f,b,n,o,t,e,u,p,g,i.ext k,j.ext k⟩
theorem zc9 (w:I) (vx:F) (x:Rat) (p:Pl) (n:Nat) (s vl vu:F) (T:IsR w vx x) (hb:Rb 1000 x) (j:w.heap[n]?=C (Oa (lac p s vl vu) 101 (0,0))) (hl:IsPts w vl (lowP2 p)) (ac:LnOk (lowP2 p)) :
  Calls Tryz.prog 109 #[vx,Ob (C ⟨n,0,Y⟩)] w fun e w'=>∃v,e = .returned v∧IsV w' v x (atR (lowP2 p) x)∧Ext w w':=by
 have HA:=hd9 (fun W (hW:Ext w W)=>za7 W vl vx (lowP2 p) x (hl.ext' hW) ac (T.ext hW) hb);obtain⟨xa,xm,xc,xs,d,g,f,rfl⟩:=T.form;obtain⟨la,ln,lc,rfl⟩:=form3 hl;have ae:=qcB j (i:=10) (u:=O la ln lc) rfl;have zb:=zaa j;have af:n<w.heap.size+1:=oM
 have ag:n<w.heap.size+1+1:=oM
 obtain⟨q,D⟩:=gX (atR (lowP2 p) x);rw [D]at HA ⊢;have Hx:=hd9 T;clear hl j T D;go_enter Tryz.func109,Tryz.ntmps109;go_wp2;refine wp_region_held_drew (S:=CellL [(⟨w.heap.size,0,Y⟩,O xa xm xc),(⟨w.heap.size,1,Y⟩,Z xs),(⟨w.heap.size,2,Y⟩,O d g f),(⟨n,10,Y⟩,O la ln lc)]) kM cA (fun c=>?_);refine sN 0 ?_
 iterate 4
  refine tkn ?_
 refine oN ?_;refine cl1 (i:=4) fun K t=>?_
 go_simp
 (with_reducible refine cM (HA.out _ eA) ?_)
 rintro e w3 ⟨v3,rfl,k,m⟩;obtain⟨a3,m3,c3,s3,b3,n3,k3,rfl⟩:=k.form
 go_wp2_with fail
 refine kO t (cE c m) (fun c=>?_);clear t K;refine tk1 (i:=5) ?_;have b:=m.heapS (zkK w (Oa #[O xa xm xc,Z xs,O d g f] 65) (Oa #[O Y 0 0,Z false,O Y 0 0,O Y 0 0,Z false,O Y 0 0] 67));have k0:=qcB b (i:=0) (u:=O Y 0 0) rfl;have k1:=qcB b (i:=1) (u:=Z false) rfl;have k2:=qcB b (i:=2) (u:=O Y 0 0) rfl;have ad:=qcB b (i:=3) (u:=O Y 0 0) rfl;have k4:=qcB b (i:=4) (u:=Z false) rfl;have k5:=qcB b (i:=5) (u:=O Y 0 0) rfl;have kf:=qfB b;have y:Ext w w3:=((((eR w).alloc _).alloc _).drew).trans m
 have a:=hd9 (show ∀q∈[((⟨w.heap.size,0,Y⟩:Addr),Value.slice xa xm xc),(⟨w.heap.size,1,Y⟩,Z xs),(⟨w.heap.size,2,Y⟩,O d g f),(⟨n,10,Y⟩,O la ln lc)],w.heap.size+1≠q.1.block from fun q D h=>by
  simp at D
  rcases D with rfl|rfl|rfl|rfl<;>(dsimp only at h;omega))
 have aa:=hd9 b;have o:=hd9 y;have ab:=hd9 k;clear b y k;refine cl1 (i:=6) fun K t=>?_
 go_simp;refine kO t (CellL.set (p:=⟨w.heap.size+1,5,Y⟩) (CellL.set (p:=⟨w.heap.size+1,4,Y⟩) (CellL.set (p:=⟨w.heap.size+1,3,Y⟩) (CellL.set (p:=⟨w.heap.size+1,2,Y⟩) (CellL.set (p:=⟨w.heap.size+1,1,Y⟩) (CellL.set (p:=⟨w.heap.size+1,0,Y⟩) c a.out _) a.out _) a.out _) a.out _) a.out _) a.out _) (fun c=>?_);clear t K;refine wpAnyH_done kM ?_ _;go_wp2;have n0:NoT 2 w3 (w.heap.size+1):=by intro cs fr e;rw [aa.out]at e;cases e
 have z:∀(u0 u1 u2 u3 u4 u5:F),KeepT 2 w3 ((((((w3.setCell ⟨w.heap.size+1,0,Y⟩ u0).setCell ⟨w.heap.size+1,1,Y⟩ u1).setCell ⟨w.heap.size+1,2,Y⟩ u2).setCell ⟨w.heap.size+1,3,Y⟩ u3).setCell ⟨w.heap.size+1,4,Y⟩ u4).setCell ⟨w.heap.size+1,5,Y⟩ u5):=fun u0 u1 u2 u3 u4 u5=>by
  repeat(first|with_reducible exact KeepT.refl _ _|(with_reducible refine KeepT.setN ?_ ?_ _)|with_reducible exact n0|with_reducible refine NoT.set ?_ _ _)
 refine bR (v:=R #[O xa xm xc,Z xs,O d g f,O a3 m3 c3,Z s3,O b3 n3 k3]) (by simp [results,Tryz.results109,go_sem,k0,k1,k2,ad,k4,k5,kf]) rfl ⟨_,rfl,⟨_,_,_,_,_,_,_,_,_,_,_,_,_,_,rfl,(Hx.out.ext o.out).keep (z _ _ _ _ _ _),ab.out.keep (z _ _ _ _ _ _)⟩,?_⟩
 repeat(first|with_reducible exact o.out|(with_reducible refine Ext.set ?_ dO _))
def pickR (way:Int) (p q:Rat):Rat:=if rcmp q p=way then q else p
def foldR (way:Int):List Rat→Rat
 | []=>0
 | x::xs=>xs.foldl (pickR way) x
theorem zia (way:Int) (xs:List Rat) (x:Rat) (h:xs≠[]):foldR way (xs++[x])=pickR way (foldR way xs) x:=by
 cases xs with
 | nil=>exact absurd rfl h
 | cons y a=>simp [foldR]
theorem zga (way:Int) (p q:Rat):pickR way p q=p∨pickR way p q=q:=by unfold pickR;split<;>simp
theorem zjh (way:Int) (P:Rat→Prop) (xs:List Rat) (h:∀x∈xs,P x) (f:P 0):P (foldR way xs):=by
 cases xs with
 | nil=>exact f
 | cons x xs =>
  have:∀(b:List Rat) (a:Rat),P a→(∀y∈b,P y)→P (b.foldl (pickR way) a):=by
   intro b
   induction b with
   | nil=>intro a d _;exact d
   | cons y b i =>
    intro a d c;refine i _ ?_ (fun z g=>c z (mC _ g))
    rcases zga way a y with e|e<;>rw [e]
    ·exact d
    ·exact c y sM
  exact this xs x (h x sM) (fun y c=>h y (mC _ c))
theorem Rb.zero {k:Nat} (a:1≤k):Rb k 0:=⟨by have:=zaE zbI k;unfold Lm;simp;omega,zht a⟩
theorem zgv (w:I) (va vb:F) (p q:Rat) (way:Int) (g:Nat) (K:IsR w va p) (T:IsR w vb q) (aa:Rb limR p) (ab:Rb limR q) (hw:w.cell? ⟨g,0,Y⟩=C (N J way)) :
  Calls Tryz.prog 127 #[va,vb,Ob (C ⟨g,0,Y⟩)] w (RetR w (pickR way p q)):=by
 obtain⟨a,m,c,s,k,x,t,rfl⟩:=K.form;obtain⟨j,u,o,y,b,f,d,rfl⟩:=T.form;have z:=hd9 aa;have D:=hd9 ab;clear aa ab;have zw:g<w.heap.size:=World.block_lt_of_cell? w _ hw;have ai:g<w.heap.size+1:=oM
 have aj:g<w.heap.size+1+1:=oM
 by_cases h:rcmp q p=way
 ·have af:(rcmp q p==way)=true:=by simpa using h
  have hR:IsR w (R #[O j u o,Z y,O b f d]) (pickR way p q):=by unfold pickR;first|(rw [if_pos h];exact T)|(rw [if_neg h];exact K)
  clear h;go_enter Tryz.func127,Tryz.ntmps127;go_wp2
  go_region_held3 (fun W=>W.cell? ⟨w.heap.size,0,Y⟩=C (O a m c)∧W.cell? ⟨w.heap.size,1,Y⟩=C (Z s)∧W.cell? ⟨w.heap.size,2,Y⟩=C (O k x t)∧W.cell? ⟨w.heap.size+1,0,Y⟩=C (O j u o)∧W.cell? ⟨w.heap.size+1,1,Y⟩=C (Z y)∧W.cell? ⟨w.heap.size+1,2,Y⟩=C (O b f d)∧W.cell? ⟨g,0,Y⟩=C (N J way)) ((repeat' (with_reducible refine And.intro ?_ ?_))<;>(first|(go_simp;done)|(refine hx1.cellS ?_;go_simp;done))) (((go_at_call 19;(with_reducible refine(zan _ (R #[O j u o,Z y,O b f d]) (R #[O a m c,Z s,O k x t]) q p ?_ ?_ D.out z.out).mono ?_);(refine T.ext ?_;exact eA);(refine K.ext ?_;exact eA);rintro e w1 ⟨rfl,hx1⟩;obtain⟨⟨i,ag⟩,ac,ad,ae⟩:=cK3 w hx1;(have ah:=hx1.lt (n:=g) (by simp only [wZ,qdZ];omega)))))
  all_goals go_wp2
  exact bR (v:=R #[O j u o,Z y,O b f d]) (by simp [results,Tryz.results127,go_sem,i]) rfl ⟨_,rfl,IsR.keep (w:=w1) (hR.ext eA) kA,eA⟩
 ·have af:(rcmp q p==way)=false:=by simpa using h
  have hR:IsR w (R #[O a m c,Z s,O k x t]) (pickR way p q):=by unfold pickR;first|(rw [if_pos h];exact T)|(rw [if_neg h];exact K)
  clear h;go_enter Tryz.func127,Tryz.ntmps127;go_wp2
  go_region_held3 (fun W=>W.cell? ⟨w.heap.size,0,Y⟩=C (O a m c)∧W.cell? ⟨w.heap.size,1,Y⟩=C (Z s)∧W.cell? ⟨w.heap.size,2,Y⟩=C (O k x t)∧W.cell? ⟨w.heap.size+1,0,Y⟩=C (O j u o)∧W.cell? ⟨w.heap.size+1,1,Y⟩=C (Z y)∧W.cell? ⟨w.heap.size+1,2,Y⟩=C (O b f d)∧W.cell? ⟨g,0,Y⟩=C (N J way)) ((repeat' (with_reducible refine And.intro ?_ ?_))<;>(first|(go_simp;done)|(refine hx1.cellS ?_;go_simp;done))) (((go_at_call 19;(with_reducible refine(zan _ (R #[O j u o,Z y,O b f d]) (R #[O a m c,Z s,O k x t]) q p ?_ ?_ D.out z.out).mono ?_);(refine T.ext ?_;exact eA);(refine K.ext ?_;exact eA);rintro e w1 ⟨rfl,hx1⟩;obtain⟨⟨i,ag⟩,ac,ad,ae⟩:=cK3 w hx1;(have ah:=hx1.lt (n:=g) (by simp only [wZ,qdZ];omega)))))
  all_goals go_wp2
  exact bR (v:=R #[O a m c,Z s,O k x t]) (by simp [results,Tryz.results127,go_sem,i]) rfl ⟨_,rfl,IsR.keep (w:=w1) (hR.ext eA) kA,eA⟩
def FoS (w:I) (way:Int) (a:List Rat) (g:Nat) (b:F) (W:I):Prop:=
 ∃i:Nat,i≤a.length∧b=N J i∧g=a.length-i∧Ext w W∧RB W w.heap.size 0∧RB W (w.heap.size+1) (foldR way (a.take i))
theorem zlk (w:I) (v:F) (d:List Rat) (way:Int) (bw:Nat) (hs:IsRs w v d) (hb:∀q∈d,Rb limR q) (hw:w.cell? ⟨bw,0,Y⟩=C (N J way)) :
  Calls Tryz.prog 126 #[v,.func (.func 127) #[] #[Ob (C ⟨bw,0,Y⟩)]] w (RetR w (foldR way d)):=by
 obtain⟨a,c,rfl⟩:=hs.form;obtain⟨n,hn⟩:=gX d.length;rw [hn]at hs ⊢;have u:=hs.le;unfold maxLen at u;have f:=hd9 hn;have Hb:=hd9 hb;have zw:bw<w.heap.size:=World.block_lt_of_cell? w _ hw;have am:n≤9223372036854775807:=oM
 clear hn hb u;go_enter Tryz.func126,Tryz.ntmps126;go_wp2
 go_loopg [10] n (FoS w way d)
 case atStart =>
  refine⟨0,by omega,rfl,by rw [f.out];rfl,eA,RB.ext (W:=w.alloc (Oa #[O Y 0 0,Z false,O Y 0 0] 65)) (RB.new (IsR.zero _) rfl) eA,RB.new (IsR.zero _) sM⟩
 case round =>
  obtain⟨i,hi,rfl,rfl,hx,hR,hO⟩:=hrel;rw [f.out]at hi;have Hx:=hd9 hx;obtain⟨a0,m0,c0,s0,ah,ao,ai,r0,r1,r2,au,av,aw,zr,an⟩:=hR.rd;obtain⟨a1,m1,c1,s1,p,T,s,o0,o1,o2,ap,aq,ar,zo,m⟩:=hO.rd
  by_cases ae:i<n
  ·obtain⟨x,k⟩:∃x,d[i]?=C x:=⟨d[i]'(by rw [f.out];omega),by simp [f.out,ae]⟩
   obtain⟨b,o,a3,m3,c3,s3,a4,m4,c4,rfl,aj,K,e0,e1,e2⟩:=(hs.ext' hx).at' k;have j:=hd9 k;clear k
   by_cases h0:i=0
   ·have ac:((i:Int)==0)=true:=by simp;omega
    have H0:=hd9 h0;clear h0;go_wp2
    go_roundg (n-(i+1))
    case measure=>have:=f.out;omega
    case rel =>
     have g:=hO.not
     have e:foldR way (d.take (i+1))=x:=by
      have:=H0.out;subst this;rw [zab _ _ _ j.out];simp [foldR]
     exact⟨i+1,by have:=f.out;omega,by go_num,by rw [f.out],eA,
      (((hR.other dO g _).other dO (g.set _ _) _).other dO ((g.set _ _).set _ _) _).ext ((eR _).alloc _),
      by rw [e];exact(hO.put K).ext ((eR _).alloc _)⟩
   ·have ac:((i:Int)==0)=false:=by simp;omega
    have H0:=hd9 h0;have aa:Hid (Rb limR (foldR way (d.take i))):=hd9 (zjh way _ _ (fun q hq=>Hb.out q (List.mem_of_mem_take hq)) (Rb.zero dM));have ab:Hid (Rb limR x):=hd9 (Hb.out x (lM j.out));clear h0
    go_wp2_with(((go_at_call 127;(with_reducible refine(zgv _ (R #[O a1 m1 c1,Z s1,O p T s]) (R #[O a3 m3 c3,Z s3,O a4 m4 c4]) (foldR way (d.take i)) x way bw ?_ ?_ aa.out ab.out ?_).mono ?_);(refine m.ext ?_;exact eA);(refine K.ext ?_;exact eA);(refine Ext.cellS (a:=w) ?_ hw;exact eA);rintro e w1 ⟨r1,rfl,y,z⟩;obtain⟨b1,n1,k1,t1,b2,n2,k2,rfl⟩:=y.form;obtain⟨⟨ak,al⟩,af,ag⟩:=cK2 w z)))
    go_roundg (n-(i+1))
    case measure=>have:=f.out;omega
    case rel =>
     have D:Ext wr w1:=((eR wr).alloc _).trans z;have t:=hO.ext D;have ad:=hR.ext D;have g:=t.not
     have e:foldR way (d.take (i+1))=pickR way (foldR way (d.take i)) x:=by
      rw [zab _ _ _ j.out,zia];intro h;have h2:(d.take i).length=0:=by rw [h];rfl
      rw [List.length_take,f.out]at h2;have:=H0.out;omega
     exact⟨i+1,by have:=f.out;omega,by go_num,by rw [f.out],eA,
      (((ad.other dO g _).other dO (g.set _ _) _).other dO ((g.set _ _).set _ _) _),
      by rw [e];exact t.put y⟩
  ·obtain rfl:i=n:=oM
   have e:foldR way (d.take i)=foldR way d:=by rw [lT (by rw [f.out];omega)]
   rw [e]at m;clear e;have g:=hR.not;go_wp2;exact bR (v:=R #[O a1 m1 c1,Z s1,O p T s]) (by simp [results,Tryz.results126,go_sem,r0,r1,r2]) rfl ⟨_,rfl,m.keep kA,eA⟩
theorem zeM (w:I) (v:F) (d:List Rat) (way:Int) (g:IsRs w v d) (j:∀q∈d,Rb limR q) :
  Calls Tryz.prog 84 #[v,N J way] w (RetR w (foldR way d)):=by
 obtain⟨a,c,rfl⟩:=g.form;have x:∀(i:Fn) (first cap:Array F) (w:I),(Instr.makeFunc i first cap).run Tryz.prog w = .ok (.func i first cap) w:=fun _ _ _ _=>rfl
 have p:=hd9 j;obtain⟨n,k⟩:=gX d.length;rw [k]at g ⊢;clear j k;go_enter Tryz.func84,Tryz.ntmps84
 go_wp2_with(((go_at_call 126;(with_reducible refine(zlk _ (O a n c) d way w.heap.size ?_ p.out ?_).mono ?_);(refine g.ext' ?_;exact eA);(focus(go_simp;done));rintro e w1 ⟨W,rfl,b,h⟩;obtain⟨s,D,y,T,t,K,z,rfl⟩:=b.form;obtain⟨⟨f,u⟩,m,o⟩:=cK2 w h)))
 exact bR (v:=R #[O s D y,Z T,O t K z]) (by simp [results,Tryz.results84,go_sem,f]) rfl ⟨_,rfl,b.keep kA,eA⟩
theorem zbw (w:I) (v:F) (d:List Rat) (g:IsRs w v d) (i:∀q∈d,Rb limR q) :
  Calls Tryz.prog 28 #[v] w (RetR w (foldR (-1) d)):=by
 obtain⟨a,c,rfl⟩:=g.form;have m:=hd9 i;obtain⟨n,j⟩:=gX d.length;rw [j]at g ⊢;clear i j;go_enter Tryz.func28,Tryz.ntmps28
 go_wp2_with(((go_at_call 84;(with_reducible refine(zeM _ (O a n c) d (-1) ?_ m.out).mono ?_);(refine g.ext' ?_;exact eA);rintro e K ⟨D,rfl,b,h⟩;obtain⟨o,x,t,z,p,y,u,rfl⟩:=b.form;obtain⟨⟨f,s⟩,k⟩:=cK1 w h)))
 exact bR (v:=R #[O o x t,Z z,O p y u]) (by simp [results,Tryz.results28,go_sem,f]) rfl ⟨_,rfl,b.keep kA,eA⟩
theorem zbv (w:I) (v:F) (d:List Rat) (g:IsRs w v d) (i:∀q∈d,Rb limR q) :
  Calls Tryz.prog 29 #[v] w (RetR w (foldR (1) d)):=by
 obtain⟨a,c,rfl⟩:=g.form;have m:=hd9 i;obtain⟨n,j⟩:=gX d.length;rw [j]at g ⊢;clear i j;go_enter Tryz.func29,Tryz.ntmps29
 go_wp2_with(((go_at_call 84;(with_reducible refine(zeM _ (O a n c) d (1) ?_ m.out).mono ?_);(refine g.ext' ?_;exact eA);rintro e K ⟨D,rfl,b,h⟩;obtain⟨o,x,t,z,p,y,u,rfl⟩:=b.form;obtain⟨⟨f,s⟩,k⟩:=cK1 w h)))
 exact bR (v:=R #[O o x t,Z z,O p y u]) (by simp [results,Tryz.results29,go_sem,f]) rfl ⟨_,rfl,b.keep kA,eA⟩
end
section
open Go.RowKit Go.Shelf
attribute [local go_sem] Oper.semAt_some
def widR (o:Rat×Rat) (x:Rat):Rat×Rat:=(foldR (-1) [o.1,x],foldR 1 [o.2,x])
def reachStep (f:Rat→Rat) (o:Rat×Rat) (x:Rat):Rat×Rat:=if (f x).num.sign≤0 then widR o x else o
def crossR (f:Rat→Rat) (y x:Rat):Rat:=y+f y / (f y-f x)*(x-y)
def reachCross (f:Rat→Rat) (o:Rat×Rat) (y x:Rat):Rat×Rat:=if (f x).num.sign*(f y).num.sign<0 then widR o (crossR f y x)else o
def reachN (f:Rat→Rat) (a:List Rat) (o:Rat×Rat):Nat→Rat×Rat
 | 0=>o
 | i+1=>if i=0 then reachStep f (reachN f a o i) (a.getD i 0)else reachCross f (reachStep f (reachN f a o i) (a.getD i 0)) (a.getD (i-1) 0) (a.getD i 0)
def pinG (s:Sp) (pin:Int) (x:Rat):Rat:=gapR s x-(pin:Rat)
def reachNo (s:Sp) (pin:Int):Bool:=decide ((leastR s).2.num.sign<0) || decide (0<rcmp (leastR s).2 (pin:Rat))
def reachP (s:Sp) (pin:Int):Option (Rat×Rat):=
 if reachNo s pin=true then Y else C (reachN (pinG s pin) (stopsR s) ((leastR s).1,(leastR s).1) (stopsR s).length)
theorem Rb.up {j k:Nat} {q:Rat} (h:Rb j q) (a:j≤k):Rb k q:=by exact⟨h.1.mono a,h.2.mono a⟩
theorem zfQ {P:Rat→Prop} (way:Int) {p q:Rat} (a:P p) (b:P q):P (foldR way [p,q]):=by
 show P (pickR way p q)
 rcases zga way p q with e|e<;>rw [e]<;>assumption
theorem Rb.wid {k:Nat} {o:Rat×Rat} {x:Rat} (h:Rb k o.1∧Rb k o.2) (a:Rb k x):Rb k (widR o x).1∧Rb k (widR o x).2:=⟨zfQ _ h.1 a,zfQ _ h.2 a⟩
theorem Rb.pin_g {s:Sp} {pin:Int} {x:Rat} (b:Rb 1 x) (h:SpOk s) (a:Bd 104000 pin):Rb 47 (pinG s pin x):=
 (Rb.gap b h).sub (Rb.int (by unfold Bd at a;unfold Lm;have c:(B:Int) ^ 23 ≥ 104001:=dM;omega) dM)
theorem Rb.cross {f:Rat→Rat} {y x:Rat} (b:Rb 1 y) (e:Rb 1 x) (a:Rb 47 (f y)) (d:Rb 47 (f x)):Rb 291 (crossR f y x):=by
 have c:Rb (47+(2*47+1)+(2*1+1)) (f y / (f y-f x)*(x-y)):=(a.div (a.sub d) dM).mul (e.sub b);exact(b.up (by decide:1≤145)).add c
theorem Rb.reach_n {f:Rat→Rat} {a:List Rat} {o:Rat×Rat} (j:Rb 300 o.1∧Rb 300 o.2) (e:∀q∈a,Rb 1 q) (h:∀q∈a,Rb 47 (f q)):∀n,n≤a.length→Rb 300 (reachN f a o n).1∧Rb 300 (reachN f a o n).2:=by
 intro n
 induction n with
 | zero=>intro _;exact j
 | succ i k =>
  intro m;have g:=k oM;have d:a.getD i 0∈a:=by rw [gD,gE oM];exact List.getElem_mem _
  have c:Rb 300 (reachStep f (reachN f a o i) (a.getD i 0)).1∧Rb 300 (reachStep f (reachN f a o i) (a.getD i 0)).2:=by
   unfold reachStep
   split
   ·exact Rb.wid g ((e _ d).up dM)
   ·exact g
  unfold reachN
  split
  ·exact c
  ·have b:a.getD (i-1) 0∈a:=by rw [gD,gE oM];exact List.getElem_mem _
   unfold reachCross
   split
   ·exact Rb.wid c ((Rb.cross (e _ b) (e _ d) (h _ b) (h _ d)).up dM)
   ·exact c
theorem OwnR.setOther {w:I} {base:Nat} {v:F} {b:List Rat} (h:OwnR w base v b) {p:Addr} (n:p.block<base) (k:NoT 2 w p.block) (u:F):OwnR (w.setCell p u) base v b:=by
 obtain⟨d,a,f,g⟩:=h;refine⟨d,a.setOther (fun e=>?_) u,f,fun i c q j m=>IsR.keep (g i c q j m) (KeepT.setN (KeepT.refl _ _) k u)⟩;have:=(a.lt _ e).1;omega
def RcW (w:I) (s:Sp) (b c d:F) (a:List Rat) (o:Rat×Rat) (W:I):Prop:=
 Ext w W∧w.heap.size+1+1+1≤W.heap.size∧W.heap[w.heap.size]?=C (Oa #[b,c,N J s.lo,N J s.hi] 120 (0,0)) ∧
  RB W (w.heap.size+1) o.1∧RB W (w.heap.size+1+1) o.2∧OwnR W (w.heap.size+1+1+1) d a
theorem RcW.ext {w:I} {s:Sp} {b c d:F} {a:List Rat} {o:Rat×Rat} {W W':I} (h:RcW w s b c d a o W) (k:Ext W W'):RcW w s b c d a o W':=
 ⟨h.1.trans k,nT h.2.1 k.size,k.heapS h.2.2.1,h.2.2.2.1.ext k,h.2.2.2.2.1.ext k,h.2.2.2.2.2.ext k⟩
theorem zaU (W:I) {b:Nat} (D:b=W.heap.size) {a g e j:Option Addr} {m c u c2 n k v o:Nat} {s t:Bool} {p q:Rat} (y:IsR W (R #[O a m c,Z s,O g u c2]) p) (z:IsR W (R #[O e n k,Z t,O j v o]) q) :
  IsRs (W.alloc (Oa #[O a m c,Z s,O g u c2,O e n k,Z t,O j v o] 65)) (O (C ⟨b,0,Y⟩) 2 2) [p,q]:=by
 subst D;have w:Ext W (W.alloc (Oa #[O a m c,Z s,O g u c2,O e n k,Z t,O j v o] 65)):=(eR W).alloc _;refine⟨[[O a m c,Z s,O g u c2],[O e n k,Z t,O j v o]],rfl,by simp,⟨rfl,_,_,rfl,nE _,by unfold maxLen;decide,.inr ⟨_,0,_,_,rfl,aN W _,fun i x h=>by simpa using h⟩⟩,fun i K x d f=>?_⟩
 match i,d,f with
 | 0,d,f=>cases d;cases f;exact y.ext w
 | 1,d,f=>cases d;cases f;exact z.ext w
 | i+2,d,f=>simp at d
theorem RcW.put2 {w:I} {s:Sp} {v1 v2 vq:F} {qs:List Rat} {o:Rat×Rat} {W:I} (h:RcW w s v1 v2 vq qs o W) {a u e y:Option Addr} {m c m2 c2 n k n2 K:Nat} {s1 t:Bool} {p q:Rat}
  (z:IsR W (R #[O a m c,Z s1,O u m2 c2]) p) (D:IsR W (R #[O e n k,Z t,O y n2 K]) q) {j g:I}
  (d:((W.setCell ⟨w.heap.size+1,0,Y⟩ (O a m c)).setCell ⟨w.heap.size+1,1,Y⟩ (Z s1)).setCell ⟨w.heap.size+1,2,Y⟩ (O u m2 c2)=j)
  (f:((j.setCell ⟨w.heap.size+1+1,0,Y⟩ (O e n k)).setCell ⟨w.heap.size+1+1,1,Y⟩ (Z t)).setCell ⟨w.heap.size+1+1,2,Y⟩ (O y n2 K)=g) :
  RcW w s v1 v2 vq qs (p,q) g∧g.heap.size=W.heap.size∧(∀b r,w.heap.size+1+1<b→RB W b r→RB g b r):=by
 obtain⟨h1,h2,h3,h4,h5,h6⟩:=h;obtain⟨q1,q2,q3,q4,q5,q6⟩:=RB.copy2 h4 h5 oM z D d f;have i:=h4.not;have N2:=h5.not;refine⟨⟨q6 w h1 oM oM,by omega,?_,q1,q2,?_⟩,q5,fun b r hb=>q3 b r oM oM⟩
 ·rw [←f,←d]
  repeat rw [bS _ _ _ _ dO]
  exact h3
 ·have v:w.heap.size+1<w.heap.size+1+1+1:=oM
  have x:w.heap.size+1+1<w.heap.size+1+1+1:=oM
  have g1:=((h6.setOther (p:=⟨w.heap.size+1,0,Y⟩) v i (O a m c)).setOther (p:=⟨w.heap.size+1,1,Y⟩) v (i.set _ _) (Z s1)).setOther (p:=⟨w.heap.size+1,2,Y⟩) v ((i.set _ _).set _ _) (O u m2 c2);rw [d]at g1;have T:NoT 2 j (w.heap.size+1+1):=by rw [←d];exact((N2.set _ _).set _ _).set _ _
  have g2:=((g1.setOther (p:=⟨w.heap.size+1+1,0,Y⟩) x T (O e n k)).setOther (p:=⟨w.heap.size+1+1,1,Y⟩) x (T.set _ _) (Z t)).setOther (p:=⟨w.heap.size+1+1,2,Y⟩) x ((T.set _ _).set _ _) (O y n2 K);rw [f]at g2;exact g2
end
section
open Go.RowKit Go.Shelf Go.Sort
theorem zkd {β:Type} [Inhabited β] {lt:β→β→Bool} (hO:SWO lt) (d:Array β) (l:Nat):(pdq lt d 0 d.size l true true).toList.Pairwise fun x y=>lt y x=false:=by
 obtain⟨⟨g,_,_⟩,f⟩:=pdq_sorts lt hO d 0 d.size l true true (Nat.zero_le _) (nE _) (Or.inl rfl);rw [List.pairwise_iff_getElem];intro i j c e a;simp at c e;have b:=f i j (Nat.zero_le _) a oM;rw [getElem!_pos _ i c,getElem!_pos _ j e]at b
 simpa using b
theorem zcB {ps:List (Int×Int)} (h:∀x∈ps,BP x):(sortX ps).Pairwise fun x y=>x.1≤y.1:=by
 unfold sortX sortBy;rw [dif_pos h];rw [List.pairwise_map];have b:=@zkd {x // BP x} ⟨BP0⟩ _ swoX (ps.attachWith BP h).toArray (Lib.bitLen ps.length);rw [show (ps.attachWith BP h).toArray.size=ps.length by simp]at b;refine b.imp fun {x y} a=>?_
 rw [ltX]at a
 simpa using a
theorem zcG {α:Type} [DecidableEq α]:∀(a:α) (r:List α),∃t,compactP (a::r)=a::t
 | a,[]=>⟨[],rfl⟩
 | a,b::r=>by
  by_cases h:a=b
  ·obtain⟨t,e⟩:=zcG b r
   exact⟨t,by rw [compactP,if_pos h,e,h]⟩
  ·exact⟨compactP (b::r),by rw [compactP,if_neg h]⟩
theorem LnUp.cons {a b:Int×Int} {r:List (Int×Int)} (d:a.1≤b.1) (f:a≠b) (h:LnUp (b::r)):LnUp (a::b::r):=by
 intro e c;unfold eds at c
 rcases List.mem_cons.1 c with rfl|c
 ·exact⟨d,f⟩
 ·exact h e c
theorem zdK:∀(l:List (Int×Int)),l.Pairwise (fun x y=>x.1≤y.1)→LnUp (compactP l)
 | [],_=>by intro e f;simp [compactP,eds]at f
 | [a],_=>by intro e f;simp [compactP,eds]at f
 | a::b::r,h=>by
  have d:=zdK (b::r) (List.pairwise_cons.1 h).2
  by_cases c:a=b
  ·rw [compactP,if_pos c];exact d
  ·rw [compactP,if_neg c]
   obtain⟨t,e⟩:=zcG b r;rw [e]at d ⊢;exact LnUp.cons ((List.pairwise_cons.1 h).1 b List.mem_cons_self) c d
theorem zjL {k:Int} {a:List (Int×Int)} (c:PBd k a) (b:k≤1000000):LnUp (lineOf a):=
 zdK _ (zcB fun x d=>by
  have:=c x d;unfold BP;exact⟨this.1.mono b,this.2.mono b⟩)
theorem zns {p:Pl} (h:placedOk p=true):LnUp (upP2 p):=by
 obtain⟨a,c,h12⟩:=zaH h;have b:=ze9 a (nE _);exact zjL b.2 dM
theorem zlI:∀(l:List (Int×Int)),l.Pairwise (fun x y=>x.1<y.1)→LnUp l
 | [],_=>by intro e c;simp [eds]at c
 | [a],_=>by intro e c;simp [eds]at c
 | a::b::r,h=>by
  have d:=(List.pairwise_cons.1 h).1 b List.mem_cons_self;exact LnUp.cons oM (fun e=>by rw [e]at d;omega) (zlI (b::r) (List.pairwise_cons.1 h).2)
theorem zjk {g:List (Int×Int)} (h:groundB g=true):LnUp g:=by
 unfold groundB at h;simp only [Bool.and_eq_true,List.all_eq_true,List.mem_range]at h;intro e d;unfold eds at d;obtain⟨i,f,rfl⟩:=List.getElem_of_mem d;have c:i+1<g.length:=by rw [List.length_zip,List.length_tail]at f;omega
 have a:=h.2 (i+1) c;unfold grdR at a;simp only [Bool.and_eq_true,Bool.or_eq_true,decide_eq_true_eq,beq_iff_eq,Nat.add_one_ne_zero,false_or,Nat.add_sub_cancel]at a;have b:=a.2.2;rw [gD,gD,gE oM,gE c]at b;simp only [Option.getD_some]at b;have j:(g.zip g.tail)[i]'f=(g[i]' oM,g[i+1]'c):=sM
 rw [j];exact⟨by dsimp only;omega,fun e=>by dsimp only at e;rw [e]at b;omega⟩
def NoX (f:Rat→Rat) (a:List Rat):Prop:=∀(i:Nat) y x,a[i]?=C y→a[i+1]?=C x→¬(f x).num.sign*(f y).num.sign<0
theorem zbJ (f:Rat→Rat) {xs:List Rat}:∀x∈xs,(bestR f xs).2≤f x:=by
 have key:∀(c:List Rat) (a:Rat×Rat),(c.foldl (bestStep f) a).2≤a.2∧∀x∈c,(c.foldl (bestStep f) a).2≤f x:=by
  intro c
  induction c with
  | nil=>intro a;exact⟨Rat.le_refl,fun x b=>by simp at b⟩
  | cons y c i =>
   intro a;obtain⟨d,e⟩:=i (bestStep f a y)
   have g:(bestStep f a y).2≤a.2∧(bestStep f a y).2≤f y:=by
    unfold bestStep
    split
    ·rename_i h
     rw [za0]at h;exact⟨Rat.le_of_lt h,Rat.le_refl⟩
    ·rename_i h
     rw [za0]at h;exact⟨Rat.le_refl,Rat.not_lt.1 h⟩
   refine⟨Rat.le_trans d g.1,fun x b=>?_⟩
   rcases List.mem_cons.1 b with rfl|b
   ·exact Rat.le_trans d g.2
   ·exact e x b
 cases xs with
 | nil=>intro x b;simp at b
 | cons y c =>
  intro x b;obtain⟨d,e⟩:=key c (y,f y)
  rcases List.mem_cons.1 b with rfl|b
  ·exact d
  ·exact e x b
theorem zgW {q:Rat} (h:0≤q):0≤q.num.sign:=by
 have:=Rat.num_nonneg.2 h
 rcases Int.lt_or_eq_of_le this with a|a
 ·rw [Int.sign_eq_one_of_pos a];decide
 ·rw [←a];decide
theorem zol {s:Sp} (h:reachNo s 0=false):NoX (pinG s 0) (stopsR s):=by
 unfold reachNo at h;simp only [Bool.or_eq_false_iff,decide_eq_false_iff_not]at h
 have g:0≤(leastR s).2:=by
  refine Rat.not_lt.1 fun b=>h.1 ?_
  refine Int.sign_neg_iff.2 (Int.not_le.1 fun k=>?_);exact absurd b (Rat.not_lt.2 (Rat.num_nonneg.1 k))
 have a:∀x∈stopsR s,0≤(pinG s 0 x).num.sign:=fun x c=>by
  refine zgW ?_;have j:(leastR s).2≤gapR s x:=zbJ (gapR s) x c;have e:pinG s 0 x=gapR s x:=by unfold pinG;simp [Rat.sub_eq_add_neg,Rat.add_zero]
  rw [e];exact Rat.le_trans g j
 intro i y x m c;have d:=a y (lM m);have f:=a x (lM c);have:=Int.mul_nonneg f d;omega
theorem znI {x y:Int} (h:0<x) (k:x*y≤0):y≤0:=by
 by_cases a:y≤0
 ·exact a
 ·have:=Int.mul_pos h (show 0<y by omega)
  omega
theorem znH {x y:Int} (h:0<x) (k:x*y<0):y<0:=by
 by_cases a:y<0
 ·exact a
 ·have:=Int.mul_nonneg (Int.le_of_lt h) (show 0≤y by omega)
  omega
theorem zkJ {c g d i f h:Int} (m:0<c) (n:d≤0) (o:0<f) (j:0<c*h-g*f) (k:0<d*h-i*f):c*i-g*d<0:=by
 have e:f*(c*i-g*d)=d*(c*h-g*f)-c*(d*h-i*f):=by grind
 have a:=Int.mul_pos m k;have b:d*(c*h-g*f)≤0:=Int.mul_nonpos_of_nonpos_of_nonneg n (Int.le_of_lt j);exact znH o oM
theorem zf2 {f g c az d h:Int} (n:0<f) (k:c<0) (m:0<d) (i:0≤f*az-g*c) (j:0≤f*h-g*d):c*h-az*d≤0:=by
 have e:f*(c*h-az*d)=c*(f*h-g*d)-d*(f*az-g*c):=by grind
 have a:0≤d*(f*az-g*c):=Int.mul_nonneg (Int.le_of_lt m) i;have b:c*(f*h-g*d)≤0:=Int.mul_nonpos_of_nonpos_of_nonneg (Int.le_of_lt k) j;exact znI n oM
def LowE (cs:List (Int×Int)) (u v:Int×Int):Prop:=EdgC cs u v∧u.1<v.1
def LowV (cs:List (Int×Int)) (q:Int×Int):Prop:=∃u v,LowE cs u v∧(q=u∨q=v)
theorem Cvx.left0 {cs:List (Int×Int)} (h:Cvx cs) {u v c:Int×Int} (d:EdgC cs u v) (b:c∈cs):0≤trn u v c:=by
 by_cases a:c=u
 ·subst a;unfold trn;grind
 ·by_cases hv:c=v
  ·subst hv;unfold trn;grind
  ·exact Int.le_of_lt (h.left u v d c b a hv)
theorem LowV.mem {cs:List (Int×Int)} {q:Int×Int} (h:LowV cs q):q∈cs:=by
 obtain⟨u,v,⟨a,_⟩,rfl|rfl⟩:=h
 ·exact a.mem.1
 ·exact a.mem.2
theorem LowV.uniq {cs:List (Int×Int)} (h:Cvx cs) {u w:Int×Int} (f:LowV cs u) (c:LowV cs w) (d:u.1=w.1):u=w:=by
 have key:∀{u w:Int×Int},LowV cs u→LowV cs w→u.1=w.1→¬u.2<w.2:=by
  intro u w f c d n;obtain⟨a,b,⟨j,i⟩,c⟩:=c;have g:=h.left0 j f.mem;unfold trn at g
  rcases c with rfl|rfl
  ·have e:(b.1-w.1)*(u.2-b.2)-(b.2-w.2)*(u.1-b.1)=(b.1-w.1)*(u.2-w.2):=by rw [d];grind
   rw [e]at g;have:=Int.mul_neg_of_pos_of_neg (show 0<b.1-w.1 by omega) (show u.2-w.2<0 by omega);omega
  ·have e:(w.1-a.1)*(u.2-w.2)-(w.2-a.2)*(u.1-w.1)=(w.1-a.1)*(u.2-w.2):=by rw [d];grind
   rw [e]at g;have:=Int.mul_neg_of_pos_of_neg (show 0<w.1-a.1 by omega) (show u.2-w.2<0 by omega);omega
 have k:=key f c d;have m:=key c f d.symm;exact Prod.ext d oM
theorem EdgC.next {cs:List (Int×Int)} {a:Int×Int} (h:a∈cs) (b:2≤cs.length):∃s,EdgC cs a s:=by
 obtain⟨A,B,rfl⟩:=List.append_of_mem h
 cases B with
 | cons s B=>exact⟨s,.inl ⟨A,B,rfl⟩⟩
 | nil =>
  cases A with
  | nil=>simp at b
  | cons v M=>exact⟨v,.inr ⟨M,by simp⟩⟩
theorem LowV.goes {cs:List (Int×Int)} (h:Cvx cs) {a b:Int×Int} (f:LowV cs a) (o:b∈cs) (t:a.1<b.1):∃b',LowE cs a b':=by
 obtain⟨u,v,⟨d,m⟩,f⟩:=f
 rcases f with rfl|rfl
 ·exact⟨v,d,m⟩
 ·obtain⟨s,j⟩:=EdgC.next d.mem.2 (by have:=h.three;omega)
  by_cases k:a.1<s.1
  ·exact⟨s,j,k⟩
  ·exfalso
   have g:b≠s:=by rintro rfl;omega
   have c:b≠a:=by rintro rfl;omega
   have i:b≠u:=by rintro rfl;omega
   have n:=h.left u a d b o i c;have e:=h.left a s j b o c g;have q:=h.left0 d j.mem.2;unfold trn at n e q;have p:(s.1-a.1)*(b.2-s.2)-(s.2-a.2)*(b.1-s.1)=(s.1-a.1)*(b.2-a.2)-(s.2-a.2)*(b.1-a.1):=by grind
   rw [p]at e;have:=zkJ (show 0<a.1-u.1 by omega) (show s.1-a.1≤0 by omega) (show 0<b.1-a.1 by omega) n e;omega
theorem LowV.edge {cs:List (Int×Int)} (h:Cvx cs) {a b:Int×Int} (D:LowV cs a) (m:LowV cs b) (n:a.1<b.1) (t:∀q,LowV cs q→¬(a.1<q.1∧q.1<b.1)):LowE cs a b:=by
 obtain⟨e,i,w⟩:=D.goes h m.mem n;have f:LowV cs e:=⟨a,e,⟨i,w⟩,.inr rfl⟩
 by_cases p:e.1=b.1
 ·rw [←f.uniq h m p];exact⟨i,w⟩
 ·have T:b.1<e.1:=by
   have:=t e f;omega
  exfalso
  have o:b≠a:=by rintro rfl;omega
  have g:b≠e:=by rintro rfl;omega
  have u:=h.left a e i b m.mem o g;obtain⟨c,d,⟨v,K⟩,s⟩:=m;have j:=h.left0 v i.mem.1;have k:=h.left0 v i.mem.2;unfold trn at u j k;have x:(e.1-a.1)*(b.2-e.2)-(e.2-a.2)*(b.1-e.1)=(a.1-b.1)*(e.2-b.2)-(a.2-b.2)*(e.1-b.1):=by grind
  rw [x]at u
  rcases s with rfl|rfl
  ·have y:(d.1-b.1)*(a.2-d.2)-(d.2-b.2)*(a.1-d.1)=(d.1-b.1)*(a.2-b.2)-(d.2-b.2)*(a.1-b.1):=by grind
   have z:(d.1-b.1)*(e.2-d.2)-(d.2-b.2)*(e.1-d.1)=(d.1-b.1)*(e.2-b.2)-(d.2-b.2)*(e.1-b.1):=by grind
   rw [y]at j;rw [z]at k;have:=zf2 (show 0<d.1-b.1 by omega) (show a.1-b.1<0 by omega) (show 0<e.1-b.1 by omega) j k;omega
  ·have:=zf2 (show 0<b.1-c.1 by omega) (show a.1-b.1<0 by omega) (show 0<e.1-b.1 by omega) j k
   omega
def ngP (p:Int×Int):Int×Int:=(-p.1,-p.2)
theorem zaY (p:Int×Int):ngP (ngP p)=p:=by unfold ngP;simp
theorem Cvx.ng {cs:List (Int×Int)} (h:Cvx cs):Cvx (cs.map ngP):=
 h.map _ (fun u v c=>by unfold trn ngP;dsimp only;grind) (fun x y e=>by rw [←zaY x,e,zaY])
theorem EdgC.maps {cs:List (Int×Int)} (f:Int×Int→Int×Int) {u v:Int×Int} (h:EdgC cs u v):EdgC (cs.map f) (f u) (f v):=by
 rcases h with ⟨A,B,rfl⟩|⟨M,rfl⟩
 ·exact .inl ⟨A.map f,B.map f,by simp⟩
 ·exact .inr ⟨M.map f,by simp⟩
theorem EdgC.ng {cs:List (Int×Int)} {u v:Int×Int} (h:EdgC (cs.map ngP) u v):EdgC cs (ngP u) (ngP v):=by
 have:=h.maps ngP
 rwa [List.map_map,show ngP ∘ ngP=id from funext zaY,List.map_id]at this
def UpE (cs:List (Int×Int)) (u v:Int×Int):Prop:=EdgC cs u v∧v.1<u.1
def UpV (cs:List (Int×Int)) (q:Int×Int):Prop:=∃u v,UpE cs u v∧(q=u∨q=v)
theorem UpE.ng {cs:List (Int×Int)} {u v:Int×Int}:UpE cs u v ↔ LowE (cs.map ngP) (ngP u) (ngP v):=by
 constructor
 ·rintro ⟨h,k⟩
  exact⟨h.maps ngP,by unfold ngP;dsimp only;omega⟩
 ·rintro ⟨h,k⟩
  have:=h.ng;rw [zaY,zaY]at this;exact⟨this,by unfold ngP at k;dsimp only at k;omega⟩
theorem UpV.ng {cs:List (Int×Int)} {q:Int×Int}:UpV cs q ↔ LowV (cs.map ngP) (ngP q):=by
 constructor
 ·rintro ⟨u,v,h,a⟩
  exact⟨ngP u,ngP v,UpE.ng.1 h,by rcases a with rfl|rfl<;>simp⟩
 ·rintro ⟨u,v,h,a⟩
  refine⟨ngP u,ngP v,UpE.ng.2 (by rw [zaY,zaY];exact h),?_⟩
  rcases a with rfl|rfl
  ·exact .inl (zaY q).symm
  ·exact .inr (zaY q).symm
theorem UpV.uniq {cs:List (Int×Int)} (h:Cvx cs) {u w:Int×Int} (a:UpV cs u) (b:UpV cs w) (c:u.1=w.1):u=w:=by
 have:=LowV.uniq h.ng (UpV.ng.1 a) (UpV.ng.1 b) (by unfold ngP;dsimp only;omega);rw [←zaY u,this,zaY]
theorem UpV.edge {cs:List (Int×Int)} (h:Cvx cs) {a b:Int×Int} (e:UpV cs a) (g:UpV cs b) (f:a.1<b.1) (c:∀q,UpV cs q→¬(a.1<q.1∧q.1<b.1)):UpE cs b a:=by
 refine UpE.ng.2 (LowV.edge h.ng (UpV.ng.1 g) (UpV.ng.1 e) (by unfold ngP;dsimp only;omega) (fun q i d=>?_));refine c (ngP q) (UpV.ng.2 (by rw [zaY];exact i)) ?_;unfold ngP at d ⊢;dsimp only at d ⊢;omega
theorem zfi {cs:List (Int×Int)} (c:2≤cs.length) {u v:Int×Int}:EdgC cs u v ↔ ∃i,i<cs.length∧cs.getD i (0,0)=u∧cs.getD ((i+1) % cs.length) (0,0)=v:=by
 constructor
 ·rintro (⟨A,B,e⟩|⟨M,e⟩)
  ·have k:A.length+1<cs.length:=by rw [e];simp
   refine⟨A.length,by omega,?_,?_⟩
   ·rw [gD,e];simp
   ·rw [Nat.mod_eq_of_lt k,gD,e];simp
  ·have m:cs.length=M.length+2:=by rw [e];simp
   refine⟨M.length+1,by omega,?_,?_⟩
   ·rw [gD,e];simp
   ·rw [show M.length+1+1=cs.length by omega,Nat.mod_self,gD,e];simp
 ·rintro ⟨i,b,rfl,rfl⟩
  have g:∀j,(hj:j<cs.length)→cs.getD j (0,0)=cs[j]:=fun j hj=>by rw [gD,gE hj];rfl
  by_cases a:i+1<cs.length
  ·rw [Nat.mod_eq_of_lt a,g i b,g (i+1) a]
   refine .inl ⟨cs.take i,cs.drop (i+1+1),?_⟩;rw [←List.drop_eq_getElem_cons a,←List.drop_eq_getElem_cons b,List.take_append_drop]
  ·have e:i+1=cs.length:=oM
   rw [e,Nat.mod_self,g i b,g 0 oM]
   right
   cases cs with
   | nil=>simp at c
   | cons v r =>
    have d:r≠[]:=by rintro rfl;simp at c
    refine⟨r.dropLast,?_⟩
    have h:(v::r)[i]=r.getLast d:=by
     rw [List.getLast_eq_getElem];simp only [List.length_cons]at e;obtain⟨f,rfl⟩:∃f,i=f+1:=⟨i-1,by have:=List.length_pos_iff.2 d;omega⟩;simp only [List.getElem_cons_succ]
     congr 1
     omega
    rw [h];simp [List.dropLast_concat_getLast]
theorem zde {cs:List (Int×Int)} (c:2≤cs.length) {q:Int×Int}:q∈lowRaw cs cs.length ↔ LowV cs q:=by
 unfold lowRaw LowV LowE;rw [List.mem_flatMap]
 constructor
 ·rintro ⟨i,b,a⟩
  rw [List.mem_range]at b;unfold edgeLow at a
  split at a
  ·rename_i hx
   refine⟨_,_,⟨(zfi c).2 ⟨i,b,rfl,rfl⟩,hx⟩,?_⟩
   simpa using a
  ·cases a
 ·rintro ⟨u,v,⟨d,hx⟩,a⟩
  obtain⟨i,b,rfl,rfl⟩:=(zfi c).1 d;refine⟨i,List.mem_range.2 b,?_⟩;unfold edgeLow;rw [if_pos hx]
  simpa using a
theorem zd9 {cs:List (Int×Int)} (c:2≤cs.length) {q:Int×Int}:q∈upRaw cs cs.length ↔ UpV cs q:=by
 unfold upRaw UpV UpE;rw [List.mem_flatMap]
 constructor
 ·rintro ⟨i,b,a⟩
  rw [List.mem_range]at b;unfold edgeUp at a
  split at a
  ·rename_i hx
   refine⟨_,_,⟨(zfi c).2 ⟨i,b,rfl,rfl⟩,hx⟩,?_⟩
   simpa using a
  ·cases a
 ·rintro ⟨u,v,⟨d,hx⟩,a⟩
  obtain⟨i,b,rfl,rfl⟩:=(zfi c).1 d;refine⟨i,List.mem_range.2 b,?_⟩;unfold edgeUp;rw [if_pos hx]
  simpa using a
theorem zbr {α:Type} [DecidableEq α]:∀{c:List α} {x:α},x∈c→x∈compactP c
 | [a],x,h=>by simpa [compactP] using h
 | a::b::r,x,h=>by
  rw [compactP]
  split
  ·rename_i e
   subst e
   rcases List.mem_cons.1 h with rfl|h
   ·exact zbr (by simp)
   ·exact zbr h
  ·rcases List.mem_cons.1 h with rfl|h
   ·simp
   ·exact mC _ (zbr h)
theorem zeW {a:List (Int×Int)} {q:Int×Int}:q∈lineOf a ↔ q∈a:=
 ⟨fun h=>(zba a).mem_iff.1 (zbf h),fun h=>zbr ((zba a).mem_iff.2 h)⟩
def Rise (l:List (Int×Int)):Prop:=l.Pairwise fun x y=>x.1<y.1
theorem zcH:∀(l:List (Int×Int)),l.Pairwise (fun x y=>x.1≤y.1)→(∀x∈l,∀y∈l,x.1=y.1→x=y)→Rise (compactP l)
 | [],_,_=>List.Pairwise.nil
 | [a],_,_=>by unfold Rise;simp [compactP]
 | a::b::r,h,hu=>by
  obtain⟨f,g⟩:=List.pairwise_cons.1 h;have i:=zcH (b::r) g (fun x m y d=>hu x (mC _ m) y (mC _ d));rw [compactP]
  split
  ·exact i
  ·rename_i hne
   refine List.pairwise_cons.2 ⟨fun y d=>?_,i⟩;have c:=zbf d;have k:=f y c;have n:=f b sM
   have j:b.1≤y.1:=by
    rcases List.mem_cons.1 c with rfl|c
    ·exact Int.le_refl _
    ·exact(List.pairwise_cons.1 g).1 y c
   have:a.1≠b.1:=fun e=>hne (hu a sM b sM e)
   omega
theorem zd1 {k:Int} {a:List (Int×Int)} (e:PBd k a) (c:k≤1000000) (f:∀x∈a,∀y∈a,x.1=y.1→x=y):Rise (lineOf a):=by
 have d:=zba a
 exact zcH _ (zcB fun x b=>by
  have:=e x b;unfold BP;exact⟨this.1.mono c,this.2.mono c⟩) (fun x b y g=>f x (d.mem_iff.1 b) y (d.mem_iff.1 g))
theorem Rise.between {l:List (Int×Int)} (h:Rise l) {e:Edg} (d:e∈eds l):e.1∈l∧e.2∈l∧e.1.1<e.2.1∧∀q∈l,¬(e.1.1<q.1∧q.1<e.2.1):=by
 unfold eds at d;obtain⟨i,f,rfl⟩:=List.getElem_of_mem d;have b:i+1<l.length:=by rw [List.length_zip,List.length_tail]at f;omega
 have k:(l.zip l.tail)[i]'f=(l[i]' oM,l[i+1]'b):=sM
 rw [k];have c:=List.pairwise_iff_getElem.1 h;refine⟨List.getElem_mem _,List.getElem_mem _,c i (i+1) oM b oM,fun q n=>?_⟩;obtain⟨j,g,rfl⟩:=List.getElem_of_mem n;dsimp only;rintro ⟨o,p⟩
 rcases Nat.lt_trichotomy j i with a|rfl|a
 ·have:=c j i g oM a;omega
 ·omega
 ·rcases Nat.lt_or_eq_of_le (show i+1≤j from a)with m|rfl
  ·have:=c (i+1) j b g m;omega
  ·omega
theorem zam {p:Pl} (h:placedOk p=true):Rise (lowP2 p)∧(∀q,q∈lowP2 p ↔ LowV (cornersP p) q)∧∀e∈eds (lowP2 p),LowE (cornersP p) e.1 e.2:=by
 have c:=zaQ h;have b:2≤(cornersP p).length:=by have:=c.three;omega
 obtain⟨i,t,h12⟩:=zaH h;have m:=ze9 i (nE _);have a:∀q,q∈lowP2 p ↔ LowV (cornersP p) q:=fun q=>by unfold lowP2;rw [zeW,zde b]
 have g:Rise (lowP2 p):=zd1 m.1 dM (fun x f y n e=>LowV.uniq c ((zde b).1 f) ((zde b).1 n) e);refine⟨g,a,fun e j=>?_⟩;obtain⟨o,s,f,d⟩:=g.between j;exact LowV.edge c ((a _).1 o) ((a _).1 s) f (fun q k=>d q ((a q).2 k))
theorem zax {p:Pl} (h:placedOk p=true):Rise (upP2 p)∧(∀q,q∈upP2 p ↔ UpV (cornersP p) q)∧∀e∈eds (upP2 p),UpE (cornersP p) e.2 e.1:=by
 have c:=zaQ h;have b:2≤(cornersP p).length:=by have:=c.three;omega
 obtain⟨i,t,h12⟩:=zaH h;have m:=ze9 i (nE _);have a:∀q,q∈upP2 p ↔ UpV (cornersP p) q:=fun q=>by unfold upP2;rw [zeW,zd9 b]
 have g:Rise (upP2 p):=zd1 m.2 dM (fun x f y n e=>UpV.uniq c ((zd9 b).1 f) ((zd9 b).1 n) e);refine⟨g,a,fun e j=>?_⟩;obtain⟨o,s,f,d⟩:=g.between j;exact UpV.edge c ((a _).1 o) ((a _).1 s) f (fun q k=>d q ((a q).2 k))
def xh (k:Int):Rat:=((2*k+1:Int):Rat) / 2
theorem zcS (x y:Rat):rcmp x y≤0 ↔ x≤y:=by
 rw [←Int.not_lt,zeh,Rat.not_lt]
theorem zgc {A B:Rat} {p q a b:Int} (k:0<p) (m:0<q) (i:A*(p:Rat)=(a:Rat)) (j:B*(q:Rat)=(b:Rat)) (h:a*q<b*p):A<B:=by
 refine Rat.not_le.1 fun c=>?_
 have d:(0:Rat)≤(p:Rat):=by exact_mod_cast Int.le_of_lt k
 have e:(0:Rat)≤(q:Rat):=by exact_mod_cast Int.le_of_lt m
 have f:B*(q:Rat)*(p:Rat)≤A*(p:Rat)*(q:Rat):=by
  have:=Rat.mul_le_mul_of_nonneg_right (Rat.mul_le_mul_of_nonneg_right c e) d
  grind
 rw [i,j]at f
 have g:((b*p:Int):Rat)≤((a*q:Int):Rat):=by
  rw [Rat.intCast_mul,Rat.intCast_mul];exact f
 have:=Rat.intCast_le_intCast.1 g;omega
theorem zhX (k:Int):xh k*2=((2*k+1:Int):Rat):=by unfold xh;rw [Rat.div_mul_cancel dM]
theorem zod (k m:Int):xh k≤(m:Rat) ↔ k<m:=by
 have c:(0:Rat)≤2:=dM
 have b:(m:Rat)*2=((m*2:Int):Rat):=by rw [Rat.intCast_mul];rfl
 constructor
 ·intro h
  have:=Rat.mul_le_mul_of_nonneg_right h c;rw [zhX,b,Rat.intCast_le_intCast]at this;omega
 ·intro h
  refine Rat.not_lt.1 fun a=>?_
  have:=Rat.mul_le_mul_of_nonneg_right (Rat.le_of_lt a) c;rw [zhX,b,Rat.intCast_le_intCast]at this;omega
theorem zfS (k:Int):∀(l:List (Int×Int)) (a:Int×Int),a.1≤k→(∃b∈l,k<b.1)→∃e∈eds (a::l),e.1.1≤k∧k<e.2.1∧(eds (a::l)).find? (xLe (xh k))=C e
 | [],a,_,⟨b,d,_⟩=>by cases d
 | b::r,a,ha,h=>by
  have e:eds (a::b::r)=(a,b)::eds (b::r):=rfl
  have j:xLe (xh k) (a,b)=decide (k<b.1):=by
   unfold xLe;rw [decide_eq_decide,zcS,zod]
  rw [e]
  by_cases d:k<b.1
  ·refine⟨(a,b),by simp,ha,d,?_⟩
   rw [List.find?_cons,j,decide_eq_true d]
  ·obtain⟨m,c,i⟩:=h
   have f:∃b∈r,k<b.1:=by
    rcases List.mem_cons.1 c with rfl|c
    ·exact absurd i d
    ·exact⟨m,c,i⟩
   obtain⟨n,g,o,p,q⟩:=zfS k r b oM f;refine⟨n,mC _ g,o,p,?_⟩;rw [List.find?_cons,j,decide_eq_false d];exact q
theorem zbL {l:List (Int×Int)} {k:Int} (d:l≠[]) (i:lineL l≤k) (c:k<lineR l):∃e∈eds l,e.1.1≤k∧k<e.2.1∧atR l (xh k)=atE (xh k) e:=by
 cases l with
 | nil=>exact absurd rfl d
 | cons a r =>
  have j:a.1≤k:=i
  have n:∃b∈r,k<b.1:=by
   cases r with
   | nil=>unfold lineR at c;simp at c;omega
   | cons b r =>
    refine⟨(b::r).getLast sM,List.getLast_mem _,?_⟩;unfold lineR at c;rw [gD,gE sM]at c;simp only [Option.getD_some]at c;rw [List.getLast_eq_getElem]
    simpa using c
  obtain⟨e,m,f,g,h⟩:=zfS k r a j n;refine⟨e,m,f,g,?_⟩;unfold atR;rw [h]
theorem zg6 (k:Int) (e:Edg) (h:e.1.1<e.2.1):atE (xh k) e*((2*(e.2.1-e.1.1):Int):Rat)=((2*(e.2.1-e.1.1)*e.1.2+(2*k+1-2*e.1.1)*(e.2.2-e.1.2):Int):Rat):=by
 have d:((e.2.1-e.1.1:Int):Rat)≠0:=by
  intro b;have:(e.2.1-e.1.1:Int)=0:=by exact_mod_cast b
  omega
 have c:(2:Rat)≠0:=dM
 have f:xh k*2=((2*k+1:Int):Rat):=by unfold xh;rw [Rat.div_mul_cancel c]
 unfold atE
 generalize hq:((xh k-((e.1.1:Int):Rat))*((e.2.2-e.1.2:Int):Rat)) / ((e.2.1-e.1.1:Int):Rat)=q
 have a:q*((e.2.1-e.1.1:Int):Rat)=(xh k-((e.1.1:Int):Rat))*((e.2.2-e.1.2:Int):Rat):=by rw [←hq,Rat.div_mul_cancel d]
 simp only [Rat.intCast_add,Rat.intCast_mul,Rat.intCast_sub]at a f ⊢
 grind
end
section
theorem rlt {a b c:Rat} (h:a≤b) (k:b<c):a<c:=Rat.not_le.1 fun d=>Rat.not_le.2 k (Rat.le_trans d h)
theorem ltr {a b c:Rat} (h:a<b) (k:b≤c):a<c:=Rat.not_le.1 fun d=>Rat.not_le.2 h (Rat.le_trans k d)
theorem rtr {a b c:Rat} (h:a<b) (k:b<c):a<c:=ltr h (Rat.le_of_lt k)
theorem rirr {a:Rat}:¬a<a:=fun h=>Rat.not_le.2 h Rat.le_refl
section
variable {α:Type} (l r:α→Int) (lo up:α→Int→Rat)
def AbK (i j:α):Prop:=max (l i) (l j)<min (r i) (r j)∧∀k:Int,max (l i) (l j)≤k→k<min (r i) (r j)→up j k≤lo i k
structure ApK (S:List α):Prop where
 fat:∀i∈S,∀k,l i≤k→k<r i→lo i k<up i k
 two:∀i∈S,∀j∈S,i≠j→max (l i) (l j)<min (r i) (r j)→AbK l r lo up i j∨AbK l r lo up j i
variable {l r lo up}
theorem ApK.irr {S:List α} (h:ApK l r lo up S) {i:α} (hi:i∈S):¬AbK l r lo up i i:=by
 rintro ⟨d,a⟩;have b:=a (l i) oM oM;have c:=h.fat i hi (l i) oM oM;exact rirr (ltr c b)
theorem ApK.key {S:List α} (h:ApK l r lo up S) {a m b:α} (g:a∈S) (u:m∈S) (i:b∈S) (s:AbK l r lo up a m) (t:AbK l r lo up m b) (x:r m≤r a) (y:r m≤r b):AbK l r lo up a b:=by
 obtain⟨v,p⟩:=s;obtain⟨w,q⟩:=t;have j:=p (r m-1) oM oM;have k:=q (r m-1) oM oM;have n:=h.fat m u (r m-1) oM oM;have f:=h.fat a g (r m-1) oM oM;have o:=h.fat b i (r m-1) oM oM;have c:up b (r m-1)<lo a (r m-1):=ltr (rlt k n) j
 have e:a≠b:=by
  rintro rfl;exact rirr (rtr c f)
 rcases h.two a g b i e oM with d|d
 ·exact d
 ·have:=d.2 (r m-1) oM oM
  exact absurd (rtr (ltr (rtr c f) this) o) rirr
theorem ApK.sub {S T:List α} (h:ApK l r lo up S) (b:∀x∈T,x∈S):ApK l r lo up T:=
 ⟨fun i a=>h.fat i (b i a),fun i a j c=>h.two i (b i a) j (b j c)⟩
theorem zea (r:α→Int):∀{S:List α},S≠[]→∃m∈S,∀x∈S,r m≤r x
 | [a],_=>⟨a,by simp,fun x c=>by rw [List.mem_singleton.1 c];exact Int.le_refl _⟩
 | a::b::t,_=>by
  obtain⟨m,f,d⟩:=zea r (S:=b::t) sM
  by_cases e:r a≤r m
  ·refine⟨a,by simp,fun x c=>?_⟩
   rcases List.mem_cons.1 c with rfl|c
   ·exact Int.le_refl _
   ·exact Int.le_trans e (d x c)
  ·refine⟨m,mC _ f,fun x c=>?_⟩
   rcases List.mem_cons.1 c with rfl|c
   ·omega
   ·exact d x c
theorem zg9 (p:α→Prop):∀(L:List α),∃A B,L=A++B∧(∀y∈B,¬p y)∧(A=[]∨∃A' b,A=A'++[b]∧p b)
 | []=>⟨[],[],rfl,by simp,.inl rfl⟩
 | x::L=>by
  obtain⟨A,B,rfl,a,e⟩:=zg9 p L
  rcases e with rfl|⟨A',b,rfl,f⟩
  ·by_cases d:p x
   ·exact⟨[x],B,rfl,a,.inr ⟨[],x,rfl,d⟩⟩
   ·exact⟨[],x::B,rfl,fun y c=>by rcases List.mem_cons.1 c with rfl|c;exact d;exact a y c,.inl rfl⟩
  ·exact⟨x::(A'++[b]),B,rfl,a,.inr ⟨x::A',b,rfl,f⟩⟩
theorem ApK.order [DecidableEq α]:∀(n:Nat) (S:List α),S.length=n→S.Nodup→ApK l r lo up S→∃L:List α,(∀x,x∈L ↔ x∈S)∧L.Pairwise fun x y=>¬AbK l r lo up x y
 | 0,S,p,_,_=>by
  have:=List.eq_nil_of_length_eq_zero p;subst this;exact⟨[],by simp,List.Pairwise.nil⟩
 | n+1,S,p,j,h=>by
  obtain⟨m,s,c⟩:=zea r (S:=S) (by rintro rfl;simp at p);have e:∀x,x∈S.erase m ↔ x≠m∧x∈S:=fun x=>j.mem_erase_iff
  obtain⟨L,v,w⟩:=ApK.order n (S.erase m) (by rw [List.length_erase_of_mem s,p];rfl) (j.erase m) (h.sub fun x a=>((e x).1 a).2);obtain⟨A,B,rfl,z,D⟩:=zg9 (fun y=>AbK l r lo up m y) L;have i:∀x,x∈A++B→x∈S:=fun x a=>((e x).1 ((v x).1 a)).2
  refine⟨A++m::B,fun x=>?_,?_⟩
  ·by_cases g:x=m
   ·subst g;simp [s]
   ·have:=v x
    rw [e x]at this;simp only [List.mem_append,List.mem_cons,g,false_or]at this ⊢;rw [this];simp [g]
  ·rw [List.pairwise_append]at w ⊢
   obtain⟨t,T,u⟩:=w;refine⟨t,List.pairwise_cons.2 ⟨fun y o=>z y o,T⟩,fun x a y o=>?_⟩
   rcases List.mem_cons.1 o with rfl|o
   ·intro q
    rcases D with rfl|⟨W,b,rfl,K⟩
    ·cases a
    ·have k:=i x (List.mem_append.2 (.inl a))
     have d:=i b sM;have f:=h.key k s d q K (c x k) (c b d)
     rcases List.mem_append.1 a with a|a
     ·rw [List.pairwise_append]at t
      exact t.2.2 x a b sM f
     ·rw [List.mem_singleton.1 a]at f
      exact h.irr d f
   ·exact u x a y o
theorem ApK.rank [DecidableEq α] {S:List α} (hnd:S.Nodup) (h:ApK l r lo up S):∃rk:α→Nat,∀i∈S,∀j∈S,AbK l r lo up i j→rk j<rk i:=by
 obtain⟨L,n,t⟩:=ApK.order S.length S rfl hnd h;refine⟨fun x=>L.idxOf x,fun i o j s a=>?_⟩;have c:=(n i).2 o;have d:=(n j).2 s;have p:i≠j:=by rintro rfl;exact h.irr o a
 show L.idxOf j<L.idxOf i
 have f:=List.idxOf_lt_length_of_mem c;have g:=List.idxOf_lt_length_of_mem d;have k:=List.getElem_idxOf f;have m:=List.getElem_idxOf g
 rcases Nat.lt_trichotomy (L.idxOf i) (L.idxOf j)with e|q|b
 ·have:=List.pairwise_iff_getElem.1 t _ _ f g e
  rw [k,m]at this;exact absurd a this
 ·have:L[L.idxOf i]'f=L[L.idxOf j]'g:=by simp only [q]
  rw [k,m]at this;exact absurd this p
 ·exact b
end
end
section
open Go.RowKit Go.Shelf Go.Sort
theorem third {cs:List (Int×Int)} (h:Cvx cs) (u v:Int×Int):∃c∈cs,c≠u∧c≠v:=by
 apply Classical.byContradiction
 intro d
 have f:∀c∈cs,c∈[u,v]:=fun c b=>by
  apply Classical.byContradiction
  intro a;exact d ⟨c,b,fun e=>a (by simp [e]),fun e=>a (by simp [e])⟩
 have:=List.Nodup.length_le_of_subset h.nd f;have:=h.three;simp at *;omega
theorem EdgC.ne {cs:List (Int×Int)} (h:Cvx cs) {u v:Int×Int} (f:EdgC cs u v):u≠v:=by
 rintro rfl;obtain⟨c,d,a,b⟩:=third h u u;have:=h.left u u f c d a b;unfold trn at this;have e:(u.1-u.1)*(c.2-u.2)-(u.2-u.2)*(c.1-u.1)=0:=by grind
 omega
theorem Cvx.minLow {cs:List (Int×Int)} (h:Cvx cs):∃u,LowV cs u∧∀c∈cs,u.1≤c.1:=by
 obtain⟨v,hv,a⟩:=zea (fun q:Int×Int=>q.1) (S:=cs) (by rintro rfl;have:=h.three;simp at this);have x:2≤cs.length:=by have:=h.three;omega
 obtain⟨s,j⟩:=EdgC.next hv x
 by_cases o:v.1<s.1
 ·exact⟨v,⟨v,s,⟨j,o⟩,.inl rfl⟩,a⟩
 have d:=j.mem.2;have p:s.1=v.1:=by have:=a s d;omega
 obtain⟨t,k⟩:=EdgC.next d x
 by_cases m:s.1<t.1
 ·exact⟨s,⟨s,t,⟨k,m⟩,.inl rfl⟩,fun c i=>by rw [p];exact a c i⟩
 exfalso
 have f:=k.mem.2;have D:t.1=v.1:=by have:=a t f;omega
 by_cases g:t=v
 ·subst g
  obtain⟨c,i,w,y⟩:=third h t s;have b:=h.left t s j c i w y;have z:=h.left s t k c i y w;unfold trn at b z;have e:(s.1-t.1)*(c.2-s.2)-(s.2-t.2)*(c.1-s.1)+((t.1-s.1)*(c.2-t.2)-(t.2-s.2)*(c.1-t.1))=0:=by grind
  omega
 ·have n:t≠s:=fun e=>(k.ne h) e.symm
  have b:=h.left v s j t f g n;unfold trn at b;rw [p,D,Int.sub_self]at b;simp at b
def mzP (p:Int×Int):Int×Int:=(p.1,-p.2)
theorem zfr (p:Int×Int):mzP (mzP p)=p:=by unfold mzP;simp
theorem Cvx.mz {cs:List (Int×Int)} (h:Cvx cs):Cvx (cs.map mzP).reverse:=
 h.flip _ (fun u v c=>by unfold trn mzP;dsimp only;grind) (fun x y e=>by rw [←zfr x,e,zfr])
theorem LowV.mz {cs:List (Int×Int)} {q:Int×Int} (h:LowV (cs.map mzP).reverse q):UpV cs (mzP q):=by
 obtain⟨u,v,⟨e,d⟩,f⟩:=h;obtain⟨i,g,b,c,a⟩:=(EdgC.rev e).map;refine⟨i,g,⟨a,?_⟩,?_⟩
 ·rw [b,c]at d
  exact d
 ·rcases f with rfl|rfl
  ·right;rw [c,zfr]
  ·left;rw [b,zfr]
theorem Cvx.minUp {cs:List (Int×Int)} (h:Cvx cs):∃u,UpV cs u∧∀c∈cs,u.1≤c.1:=by
 obtain⟨u,d,b⟩:=h.mz.minLow;refine⟨mzP u,d.mz,fun c a=>?_⟩;exact b (mzP c) (List.mem_reverse.2 (List.mem_map_of_mem a))
theorem Cvx.maxLow {cs:List (Int×Int)} (h:Cvx cs):∃u,LowV cs u∧∀c∈cs,c.1≤u.1:=by
 obtain⟨u,d,b⟩:=h.ng.minUp;refine⟨ngP u,?_,fun c a=>?_⟩
 ·have:=UpV.ng.1 d
  rwa [List.map_map,show ngP ∘ ngP=id from funext zaY,List.map_id]at this
 ·have:=b (ngP c) (List.mem_map_of_mem a)
  unfold ngP at *;dsimp only at *;omega
theorem Cvx.maxUp {cs:List (Int×Int)} (h:Cvx cs):∃u,UpV cs u∧∀c∈cs,c.1≤u.1:=by
 obtain⟨u,d,b⟩:=h.ng.minLow;refine⟨ngP u,UpV.ng.2 (by rw [zaY];exact d),fun c a=>?_⟩;have:=b (ngP c) (List.mem_map_of_mem a);unfold ngP at *;dsimp only at *;omega
theorem Rise.ends {l:List (Int×Int)} (h:Rise l) (c:l≠[]):(∃q∈l,q.1=lineL l)∧(∃q∈l,q.1=lineR l)∧∀q∈l,lineL l≤q.1∧q.1≤lineR l:=by
 have a:=List.length_pos_iff.2 c;have j:=List.pairwise_iff_getElem.1 h;have d:lineL l=(l[0]'a).1:=by unfold lineL;rw [gD,gE a];rfl
 have e:lineR l=(l[l.length-1]' oM).1:=by unfold lineR;rw [gD,gE oM];rfl
 refine⟨⟨_,List.getElem_mem a,d.symm⟩,⟨_,List.getElem_mem oM,e.symm⟩,fun q k=>?_⟩;obtain⟨i,g,rfl⟩:=List.getElem_of_mem k;rw [d,e]
 constructor
 ·rcases Nat.eq_zero_or_pos i with rfl|b
  ·exact Int.le_refl _
  ·have:=j 0 i a g b;omega
 ·rcases Nat.lt_or_ge i (l.length-1)with f|f
  ·have:=j i (l.length-1) g oM f;omega
  ·have:i=l.length-1:=oM
   subst this;exact Int.le_refl _
theorem UpV.mem {cs:List (Int×Int)} {q:Int×Int} (h:UpV cs q):q∈cs:=by
 obtain⟨u,v,⟨a,_⟩,rfl|rfl⟩:=h
 ·exact a.mem.1
 ·exact a.mem.2
theorem zag {p:Pl} (h:placedOk p=true):lineL (upP2 p)=lineL (lowP2 p)∧lineR (upP2 p)=lineR (lowP2 p)∧lineL (lowP2 p)<lineR (lowP2 p)∧lowP2 p≠[]∧upP2 p≠[]:=by
 have w:=zaQ h;obtain⟨r1,k,d1⟩:=zam h;obtain⟨r2,m,d2⟩:=zax h;obtain⟨a,K,f⟩:=w.minLow;obtain⟨b,hb,g⟩:=w.minUp;obtain⟨c,T,i⟩:=w.maxLow;obtain⟨d,hd,j⟩:=w.maxUp;have n1:lowP2 p≠[]:=fun e=>by have:=(k a).2 K;rw [e]at this;cases this
 have n2:upP2 p≠[]:=fun e=>by have:=(m b).2 hb;rw [e]at this;cases this
 obtain⟨⟨x,n,e1⟩,⟨y,o,e2⟩,t⟩:=r1.ends n1;obtain⟨⟨z,q,e3⟩,⟨D,s,e4⟩,W⟩:=r2.ends n2;have g1:=t a ((k a).2 K);have g2:=W b ((m b).2 hb);have g3:=t c ((k c).2 T);have g4:=W d ((m d).2 hd);have k1:=f z ((m z).1 q).mem;have k2:=g x ((k x).1 n).mem;have k3:=i D ((m D).1 s).mem;have k4:=j y ((k y).1 o).mem;have k5:=f x ((k x).1 n).mem;have k6:=g z ((m z).1 q).mem;have k7:=i y ((k y).1 o).mem;have k8:=j D ((m D).1 s).mem;refine⟨by omega,by omega,?_,n1,n2⟩;obtain⟨u,v,⟨he,hx⟩,_⟩:=K;have hu:=t u ((k u).2 ⟨u,v,⟨he,hx⟩,.inl rfl⟩);have hv:=t v ((k v).2 ⟨u,v,⟨he,hx⟩,.inr rfl⟩);omega
theorem zfj {p:Pl} (h:placedOk p=true) {k:Int} (v:lineL (lowP2 p)≤k) (w:k<lineR (lowP2 p)):atR (lowP2 p) (xh k)<atR (upP2 p) (xh k):=by
 have g:=zaQ h;obtain⟨s1,s2,_,n1,n2⟩:=zag h;obtain⟨_,_,d1⟩:=zam h;obtain⟨_,_,d2⟩:=zax h;obtain⟨⟨a,b⟩,he,z,D,e1⟩:=zbL n1 v w;obtain⟨⟨d,c⟩,hf,K,T,e2⟩:=zbL n2 (by rw [s1];exact v) (by rw [s2];exact w);obtain⟨i,n⟩:=d1 _ he;obtain⟨j,s⟩:=d2 _ hf;dsimp only at z D K T i n j s;rw [e1,e2];have W:=g.left0 i j.mem.1;have c1:=g.left0 i j.mem.2
 have m:0<trn a b c∨0<trn a b d:=by
  apply Classical.byContradiction
  intro hn;have z0:trn a b c=0:=oM
  have z1:trn a b d=0:=oM
  have o:c=a∨c=b:=by
   apply Classical.byContradiction
   intro f;have:=g.left a b i c j.mem.1 (fun e=>f (.inl e)) (fun e=>f (.inr e));omega
  have t:d=a∨d=b:=by
   apply Classical.byContradiction
   intro f;have:=g.left a b i d j.mem.2 (fun e=>f (.inl e)) (fun e=>f (.inr e));omega
  rcases o with rfl|rfl
  ·omega
  ·rcases t with rfl|rfl
   ·obtain⟨q,y,x,f⟩:=third g d c
    have w1:=g.left d c i q y x f;have w2:=g.left c d j q y f x;have:trn d c q+trn c d q=0:=by unfold trn;grind
    omega
   ·omega
 refine zgc (p:=2*(b.1-a.1)) (q:=2*(c.1-d.1)) oM oM (zg6 k (a,b) dO) (zg6 k (d,c) dO) ?_;dsimp only
 have e:(2*(c.1-d.1)*d.2+(2*k+1-2*d.1)*(c.2-d.2))*(2*(b.1-a.1))-(2*(b.1-a.1)*a.2+(2*k+1-2*a.1)*(b.2-a.2))*(2*(c.1-d.1))=2*((2*k+1-2*d.1)*trn a b c+(2*c.1-(2*k+1))*trn a b d):=by
  unfold trn
  grind
 have p1:0≤(2*k+1-2*d.1)*trn a b c:=Int.mul_nonneg oM W;have p2:0≤(2*c.1-(2*k+1))*trn a b d:=Int.mul_nonneg oM c1
 rcases m with u|u
 ·have:=Int.mul_pos (show 0<2*k+1-2*d.1 by omega) u
  omega
 ·have:=Int.mul_pos (show 0<2*c.1-(2*k+1) by omega) u
  omega
end
section
open Go.RowKit Go.Shelf Go.Sort Go.Lib
theorem zou (m k:Int):(m:Rat)≤xh k ↔ m≤k:=by
 have c:(0:Rat)≤2:=dM
 have b:(m:Rat)*2=((m*2:Int):Rat):=by rw [Rat.intCast_mul];rfl
 constructor
 ·intro h
  have:=Rat.mul_le_mul_of_nonneg_right h c;rw [zhX,b,Rat.intCast_le_intCast]at this;omega
 ·intro h
  refine Rat.not_lt.1 fun a=>?_
  have:=Rat.mul_le_mul_of_nonneg_right (Rat.le_of_lt a) c;rw [zhX,b,Rat.intCast_le_intCast]at this;omega
theorem zg7 (a b:Int×Int):atE (a.1:Rat) (a,b)=(a.2:Rat):=by
 unfold atE;dsimp only;rw [Rat.sub_self,Rat.zero_mul,Rat.div_def,Rat.zero_mul,Rat.add_zero]
theorem zfE (a b:Int×Int) (h:a.1<b.1):atE (b.1:Rat) (a,b)=(b.2:Rat):=by
 have e:((b.1-a.1:Int):Rat)≠0:=by
  intro f;have:(b.1-a.1:Int)=0:=by exact_mod_cast f
  omega
 unfold atE;dsimp only
 generalize hq:(((b.1:Int):Rat)-((a.1:Int):Rat))*((b.2-a.2:Int):Rat) / ((b.1-a.1:Int):Rat)=q
 have d:q*((b.1-a.1:Int):Rat)=(((b.1:Int):Rat)-((a.1:Int):Rat))*((b.2-a.2:Int):Rat):=by rw [←hq,Rat.div_mul_cancel e]
 rw [←Rat.intCast_sub,Rat.mul_comm]at d
 have:q=((b.2-a.2:Int):Rat):=by
  have c:(q-((b.2-a.2:Int):Rat))*((b.1-a.1:Int):Rat)=0:=by grind
  rcases Rat.mul_eq_zero.1 c with c|c
  ·grind
  ·exact absurd c e
 rw [this,Rat.intCast_sub]
 grind
theorem ziT (x:Rat) (a b:Int×Int) (k:((a.1:Int):Rat)≤x) (o:x≤((b.1:Int):Rat)):∀(l:List (Int×Int)),Rise l→(a,b)∈eds l→∃e,(eds l).find? (xLe x)=C e∧atE x e=atE x (a,b)
 | [],_,h=>by simp [eds]at h
 | [c],_,h=>by simp [eds]at h
 | c::d::r,hR,h=>by
  have e:eds (c::d::r)=(c,d)::eds (d::r):=rfl
  have t:xLe x (c,d)=decide (x≤((d.1:Int):Rat)):=by
   unfold xLe;rw [decide_eq_decide,zcS]
  obtain⟨p,f⟩:=List.pairwise_cons.1 hR;rw [e]at h ⊢;rw [List.find?_cons,t]
  rcases List.mem_cons.1 h with h|h
  ·cases h
   rw [decide_eq_true o];exact⟨_,rfl,rfl⟩
  ·by_cases j:x≤((d.1:Int):Rat)
   ·rw [decide_eq_true j]
    refine⟨_,rfl,?_⟩;have i:=(Rise.between f h).1
    have s:d.1≤a.1:=by
     rcases List.mem_cons.1 i with g|g
     ·dsimp only at g;rw [g];exact Int.le_refl _
     ·have:=(List.pairwise_cons.1 f).1 _ g;dsimp only at this;omega
    have q:a.1≤d.1:=by
     have:=Rat.le_trans k j;exact Rat.intCast_le_intCast.1 this
    have m:a=d:=by
     rcases List.mem_cons.1 i with g|g
     ·exact g
     ·have:=(List.pairwise_cons.1 f).1 _ g;dsimp only at this;omega
    subst m;have n:x=((a.1:Int):Rat):=Rat.le_antisymm j k;rw [n,zg7,zfE _ _ (p a sM)]
   ·rw [decide_eq_false j]
    exact ziT x a b k o (d::r) f h
theorem zc7 {x:Rat} {l:List (Int×Int)} (c:Rise l) {e:Edg} (h:e∈eds l) (d:((e.1.1:Int):Rat)≤x) (g:x≤((e.2.1:Int):Rat)):atR l x=atE x e:=by
 obtain⟨f,a,b⟩:=ziT x e.1 e.2 d g l c h;unfold atR;rw [a];exact b
theorem zbe (e:Edg) (s t x:Rat):(t-s)*atE x e=(t-x)*atE s e+(x-s)*atE t e:=by
 unfold atE;simp only [Rat.div_def]
 grind
theorem zfT {zs:List Int} {z:Int} (h:z∈zs):z∈compact zs:=by
 obtain⟨i,a,rfl⟩:=List.getElem_of_mem h;have b:∀j,(hj:j<zs.length)→zs.toArray[j]! = zs[j]:=fun j hj=>by rw [getElem!_pos _ _ (by simpa using hj)];simp
 have key:∀i,(a:i<zs.length)→∃j,j<zs.length∧keeps zs.toArray j=true∧zs.toArray[j]! = zs[i]:=by
  intro i
  induction i with
  | zero=>intro a;exact⟨0,a,by simp [keeps],b 0 a⟩
  | succ i f =>
   intro a
   cases hk:keeps zs.toArray (i+1)with
   | true=>exact⟨i+1,a,hk,b _ a⟩
   | false =>
    obtain⟨j,c,d,e⟩:=f oM;refine⟨j,c,d,?_⟩;rw [e,←b _ a,←b i oM];simp [keeps]at hk
    grind
 obtain⟨j,c,d,e⟩:=key i a;unfold compact compactUpTo;refine List.mem_map.2 ⟨j,List.mem_filter.2 ⟨List.mem_range.2 c,d⟩,e⟩
theorem zfz {s:Sp} {z:Int} (h:z=s.lo∨z=s.hi∨(s.lo<z∧z<s.hi∧∃q∈s.over++s.under,q.1=z)):(z:Rat)∈stopsR s:=by
 unfold stopsR stopsZ;refine List.mem_map_of_mem (zfT (isort_mem.2 ?_))
 rcases h with rfl|rfl|⟨a,b,q,c,rfl⟩
 ·simp
 ·simp
 ·refine mC _ (mC _ ?_)
  unfold midP;refine List.mem_filter.2 ⟨List.mem_map_of_mem c,?_⟩;unfold inP;simp [a,b]
theorem zgV {q:Rat} (h:0≤q.num.sign):0≤q:=by
 have:0≤q.num:=Int.sign_nonneg_iff.1 h;exact Rat.num_nonneg.1 this
theorem zfR {L U:List (Int×Int)} (D:Rise L) (K:Rise U) (nL:L≠[]) (nU:U≠[]) (h:0≤(leastR (btw L U)).2.num.sign) {k:Int} (q:(btw L U).lo≤k) (u:k<(btw L U).hi):atR U (xh k)≤atR L (xh k):=by
 have p:=zgV h;have T:lineL L≤k∧lineL U≤k:=by unfold btw at q;dsimp only at q;omega
 have W:k<lineR L∧k<lineR U:=by unfold btw at u;dsimp only at u;omega
 obtain⟨e,v,a1,a2,_⟩:=zbL nL T.1 W.1;obtain⟨f,w,b1,b2,_⟩:=zbL nU T.2 W.2;have y:=D.between v;have z:=K.between w;obtain⟨s,hs⟩:∃s,s=max (btw L U).lo (max e.1.1 f.1.1):=⟨_,rfl⟩;obtain⟨t,ht⟩:∃t,t=min (btw L U).hi (min e.2.1 f.2.1):=⟨_,rfl⟩
 have ms:(s:Rat)∈stopsR (btw L U):=by
  refine zfz ?_
  by_cases a:s=(btw L U).lo
  ·exact .inl a
  ·refine .inr (.inr ⟨by omega,by omega,?_⟩)
   by_cases b:s=e.1.1
   ·exact⟨e.1,List.mem_append.2 (.inl y.1),b.symm⟩
   ·exact⟨f.1,List.mem_append.2 (.inr z.1),by omega⟩
 have mt:(t:Rat)∈stopsR (btw L U):=by
  refine zfz ?_
  by_cases a:t=(btw L U).hi
  ·exact .inr (.inl a)
  ·refine .inr (.inr ⟨by omega,by omega,?_⟩)
   by_cases b:t=e.2.1
   ·exact⟨e.2,List.mem_append.2 (.inl y.2.1),b.symm⟩
   ·exact⟨f.2,List.mem_append.2 (.inr z.2.1),by omega⟩
 have d:0≤gapR (btw L U) (s:Rat):=Rat.le_trans p (zbJ _ _ ms);have g:0≤gapR (btw L U) (t:Rat):=Rat.le_trans p (zbJ _ _ mt);have xs:(s:Rat)≤xh k:=(zou s k).2 oM;have xt:xh k≤(t:Rat):=(zod k t).2 oM;have i:(s:Rat)<(t:Rat):=Rat.intCast_lt_intCast.2 oM;have j:((e.1.1:Int):Rat)≤(s:Rat):=Rat.intCast_le_intCast.2 oM;have n:((f.1.1:Int):Rat)≤(s:Rat):=Rat.intCast_le_intCast.2 oM;have m:(t:Rat)≤((e.2.1:Int):Rat):=Rat.intCast_le_intCast.2 oM;have o:(t:Rat)≤((f.2.1:Int):Rat):=Rat.intCast_le_intCast.2 oM
 have c:∀x:Rat,(s:Rat)≤x→x≤(t:Rat)→atR L x=atE x e∧atR U x=atE x f:=fun x a b =>
  ⟨zc7 D v (Rat.le_trans j a) (Rat.le_trans b m),zc7 K w (Rat.le_trans n a) (Rat.le_trans b o)⟩
 unfold gapR btw at d g;dsimp only at d g;rw [(c _ Rat.le_refl (Rat.le_of_lt i)).1,(c _ Rat.le_refl (Rat.le_of_lt i)).2]at d;rw [(c _ (Rat.le_of_lt i) Rat.le_refl).1,(c _ (Rat.le_of_lt i) Rat.le_refl).2]at g;rw [(c _ xs xt).1,(c _ xs xt).2];have q1:=zbe e s t (xh k);have q2:=zbe f s t (xh k)
 generalize atE (xh k) e=E0 at *
 generalize atE (xh k) f=F0 at *
 generalize atE (s:Rat) e=E1 at *
 generalize atE (s:Rat) f=F1 at *
 generalize atE (t:Rat) e=E2 at *
 generalize atE (t:Rat) f=F2 at *
 generalize (s:Rat)=s' at *
 generalize (t:Rat)=t' at *
 generalize xh k=x at *
 refine Rat.not_lt.1 fun aa=>?_
 have p1:0≤(t'-x)*(E1-F1):=Rat.mul_nonneg (by grind) d;have p2:0≤(x-s')*(E2-F2):=Rat.mul_nonneg (by grind) g;have p3:0<(t'-s')*(F0-E0):=Rat.mul_pos (by grind) (by grind)
 grind
end
section
open Go.RowKit Go.Shelf
attribute [local go_sem] Oper.semAt_some
def RetRc (w:I) (o:Option (Rat×Rat)) (e:Ending) (w':I):Prop:=Ext w w'∧∃r1 r2,IsR w' r1 (o.getD (0,0)).1∧IsR w' r2 (o.getD (0,0)).2∧e = .returned (.tuple #[r1,r2,Z o.isSome])
theorem zkg {k:Nat} {pin:Int} (h:Bd 104000 pin) (a:1≤k):Rb k (pin:Rat):=(zau h).up a
theorem zlG (w:I) (v1 v2:F) (s:Sp) (pin:Int) (h1:IsPts w v1 s.over) (h2:IsPts w v2 s.under) (ad:SpOk s) (hp:Bd 104000 pin) (o:reachNo s pin=true) :
  Calls Tryz.prog 108 #[spc s v1 v2,N J pin] w (RetRc w (reachP s pin)):=by
 have HS:=hd9 (fun(W:I) (hW:Ext w W)=>zcn W v1 v2 s (h1.ext' hW) (h2.ext' hW) ad);obtain⟨a1,m1,rfl⟩:=h1.form;obtain⟨a2,m2,rfl⟩:=h2.form;obtain⟨n1,f1⟩:=gX s.over.length;obtain⟨n2,f2⟩:=gX s.under.length;obtain⟨lo,ar⟩:=gX s.lo;obtain⟨hi,aq⟩:=gX s.hi;have ap:=hd9 (show Rb 23 (leastR s).2 by obtain⟨j1,j2⟩:=zav (gapR s) (zaw s);unfold leastR;rw [j2];exact Rb.gap (zas ad _ j1) ad);have Hp:=hd9 hp;have aC : -9223372036854775808≤pin:=by unfold Bd at hp;omega
 have aD:pin≤9223372036854775807:=by unfold Bd at hp;omega
 have HC:=hd9 (fun(W:I) (va vb:F) (ha:IsR W va (leastR s).2) (hb:IsR W vb (pin:Rat))=>zan W va vb _ _ ha hb (zaf ap.out oM) (zaf (zkg (k:=1) Hp.out oM) oM));have hR:reachP s pin=Y:=by unfold reachP;rw [if_pos o]
 rw [hR];unfold reachNo at o;obtain⟨q1,av⟩:=gX ((leastR s).1);obtain⟨q2,ai⟩:=gX ((leastR s).2);unfold spc at HS ⊢;rw [ai]at o HC ap;rw [av,ai]at HS;simp only [f1,f2,ar,aq]at HS ⊢;clear h1 h2 ad f1 f2 ar aq hR av ai hp;go_enter Tryz.func108,Tryz.ntmps108
 go_wp2_with(((go_at_call 54;(with_reducible refine(HS.out _ ?_).mono ?_);exact eA;rintro e w1 ⟨r1,r2,rfl,aw,ab,ac⟩;obtain⟨a4,m4,c4,s4,b4,n4,k4,rfl⟩:=aw.form;obtain⟨a5,m5,c5,s5,b5,n5,k5,rfl⟩:=ab.form;obtain⟨⟨aA,aB⟩,aE,aF,aG⟩:=cK3 w ac)))
 obtain⟨g,d⟩:=gX (((w1.alloc (Oa #[O a4 m4 c4,Z s4,O b4 n4 k4] 65)).alloc (Oa #[O a5 m5 c5,Z s5,O b5 n5 k5] 65)));have f:Ext w1 g:=by rw [←d];exact((eR _).alloc _).alloc _
 have au:Ext w g:=(((((eR w).alloc _).alloc _).alloc _).trans ac).trans f;have g1:RB g w1.heap.size q1:=by rw [←d];exact(RB.new aw rfl).ext ((eR _).alloc _)
 have g2:RB g (w1.heap.size+1) q2:=by rw [←d];exact RB.new (ab.ext ((eR _).alloc _)) sM
 have g3:RB g (w.heap.size+1) 0:=(((RB.new (IsR.zero _) sM).ext ((eR _).alloc _)).ext ac).ext f;have g4:RB g (w.heap.size+1+1) 0:=((RB.new (IsR.zero _) sM).ext ac).ext f;have zW:w1.heap.size+1<g.heap.size:=by rw [←d];simp
 have aH:=qcB (show g.heap[w1.heap.size+1]?=C (Oa #[O a5 m5 c5,Z s5,O b5 n5 k5] 65 (0,0)) by rw [←d];exact qhA _ _ _ sM) (i:=0) (u:=O a5 m5 c5) rfl;have aI:=qcB (show g.heap[w1.heap.size+1]?=C (Oa #[O a5 m5 c5,Z s5,O b5 n5 k5] 65 (0,0)) by rw [←d];exact qhA _ _ _ sM) (i:=1) (u:=Z s5) rfl;have aJ:=qcB (show g.heap[w1.heap.size+1]?=C (Oa #[O a5 m5 c5,Z s5,O b5 n5 k5] 65 (0,0)) by rw [←d];exact qhA _ _ _ sM) (i:=2) (u:=O b5 n5 k5) rfl;have HX:=hd9 f;have ao:=hd9 au;rw [d];obtain⟨s1,ay⟩:=gX w1.heap.size;simp only [ay]at *;clear d aA aB ac f au HS ay;obtain⟨k,hk⟩:=gX q2.num.sign;have an:=hd9 (fun(W:I) (v:F) (h:IsR W v q2)=>hk▸zbp W v q2 h);rw [hk]at o;clear hk
 by_cases ae:k<0
 ·have hd:decide (k<0)=true:=by simp [ae]
  refine wp_region_held_drew (S:=CellL [(⟨s1+1,0,Y⟩,O a5 m5 c5),(⟨s1+1,1,Y⟩,Z s5),(⟨s1+1,2,Y⟩,O b5 n5 k5)]) kM cA (fun a=>?_);refine tk1 (i:=0) ?_;refine cl1 (i:=1) fun K b=>?_
  go_simp
  (with_reducible refine cM (an.out _ _ (ab.ext (Ext.trans HX.out eA))) ?_)
  rintro e w3 ⟨rfl,y⟩
  skip
  go_wp2_with fail
  refine kO b (cE a y) (fun a=>?_);clear b K;refine sN 2 ?_
  iterate 2
   refine tkn ?_
  iterate 5
   refine tkgn ?_
  refine tkn ?_;refine oN ?_;refine wpAnyH_done kM ?_ _;go_wp2;have X3:Ext g w3:=((eR g).drew).trans y;have z:=g3.ext X3;have D:=g4.ext X3;obtain⟨pa,pm,q,ps,p,x,t,p0,p1,p2,ak,al,am,pz,T⟩:=z.rd;obtain⟨ea,em,ec,es,j,n,m,e0,e1,e2,af,ag,ah,ez,aa⟩:=D.rd;refine zaV (fun i=>decide (2<i)) (CellL [(⟨w.heap.size+1,0,Y⟩,O pa pm q),(⟨w.heap.size+1,1,Y⟩,Z ps),(⟨w.heap.size+1,2,Y⟩,O p x t),(⟨w.heap.size+1+1,0,Y⟩,O ea em ec),(⟨w.heap.size+1+1,1,Y⟩,Z es),(⟨w.heap.size+1+1,2,Y⟩,O j n m)]) kM ?_ (fun a=>?_)
  ·exact cA
  refine sN 0 ?_
  iterate 2
   refine tun ?_
  refine oN ?_;refine cu1 (i:=2) fun K b=>?_
  go_simp;refine kO b (fun _=>?_) (fun a=>?_)
  ·exact cA
  clear b K;have a:=a rfl;refine cu1 (i:=3) fun K b=>?_
  go_simp;refine kO b (fun h=>nomatch h) (fun a=>?_);clear b K;refine cu1 (i:=4) fun K b=>?_
  go_simp;refine kO b (fun h=>nomatch h) (fun a=>?_);clear b K;refine doneHU kM ?_ _;go_wp2;refine bR (v:=.tuple #[R #[O pa pm q,Z ps,O p x t],R #[O ea em ec,Z es,O j n m],Z false]) (by simp [results,Tryz.results108,go_sem,p0,p1,p2,ak,al,am,e0,e1,e2,af,ag,ah]) rfl ?_;obtain⟨P1,P2,P3,P4,P5,P6⟩:=RB.copy2 z D oM T aa rfl rfl;refine⟨(P6 w (ao.out.trans X3) oM oM).drew,R #[O pa pm q,Z ps,O p x t],R #[O ea em ec,Z es,O j n m],?_,?_,rfl⟩
  ·exact(T.keep P4).ext (eR _).drew
  ·exact(aa.keep P4).ext (eR _).drew
 ·have hd:decide (k<0)=false:=by simp [ae]
  rw [hd,Bool.false_or]at o;obtain⟨c,hc⟩:=gX (rcmp q2 (pin:Rat));rw [hc]at o HC;clear hc;have aK:0<c:=by simpa using o
  refine wp_region_held_drew (S:=CellL [(⟨s1+1,0,Y⟩,O a5 m5 c5),(⟨s1+1,1,Y⟩,Z s5),(⟨s1+1,2,Y⟩,O b5 n5 k5)]) kM cA (fun a=>?_);have E0:Ext w1 g.drew:=HX.out.trans (eR g).drew;refine tk1 (i:=0) ?_;refine cl1 (i:=1) fun K b=>?_
  go_simp
  (with_reducible refine cM (an.out _ _ (ab.ext E0)) ?_)
  rintro e w3 ⟨rfl,y⟩
  skip
  go_wp2_with fail
  refine kO b (cE a y) (fun a=>?_);clear b K;refine sN 2 ?_
  iterate 4
   refine tkn ?_
  refine oN ?_;refine cl1 (i:=6) fun K b=>?_
  go_simp
  (with_reducible refine cM (zaM _ pin aC aD) ?_)
  rintro e w4 ⟨r4,rfl,ax,aj⟩;obtain⟨a6,m6,c6,s6,b6,n6,k6,rfl⟩:=ax.form
  go_wp2_with fail
  refine kO b (cE a aj) (fun a=>?_);clear b K;refine cl1 (i:=7) fun K b=>?_
  go_simp
  (with_reducible refine cM (HC.out _ _ _ (ab.ext (E0.trans (y.trans aj))) ax) ?_)
  rintro e w5 ⟨rfl,az⟩
  skip
  go_wp2_with fail
  refine kO b (cE a az) (fun a=>?_);clear b K;refine sN 8 ?_
  iterate 2
   refine tkn ?_
  refine oN ?_;refine wpAnyH_done kM ?_ _;have X3:Ext g w5:=((eR g).drew).trans (y.trans (aj.trans az));have z:=g3.ext X3;have D:=g4.ext X3;go_wp2;obtain⟨pa,pm,q,ps,p,x,t,p0,p1,p2,ak,al,am,pz,T⟩:=z.rd;obtain⟨ea,em,ec,es,j,n,m,e0,e1,e2,af,ag,ah,ez,aa⟩:=D.rd;refine zaV (fun i=>decide (2<i)) (CellL [(⟨w.heap.size+1,0,Y⟩,O pa pm q),(⟨w.heap.size+1,1,Y⟩,Z ps),(⟨w.heap.size+1,2,Y⟩,O p x t),(⟨w.heap.size+1+1,0,Y⟩,O ea em ec),(⟨w.heap.size+1+1,1,Y⟩,Z es),(⟨w.heap.size+1+1,2,Y⟩,O j n m)]) kM ?_ (fun a=>?_)
  ·exact cA
  refine sN 0 ?_
  iterate 2
   refine tun ?_
  refine oN ?_;refine cu1 (i:=2) fun K b=>?_
  go_simp;refine kO b (fun _=>?_) (fun a=>?_)
  ·exact cA
  clear b K;have a:=a rfl;refine cu1 (i:=3) fun K b=>?_
  go_simp;refine kO b (fun h=>nomatch h) (fun a=>?_);clear b K;refine cu1 (i:=4) fun K b=>?_
  go_simp;refine kO b (fun h=>nomatch h) (fun a=>?_);clear b K;refine doneHU kM ?_ _;go_wp2;refine bR (v:=.tuple #[R #[O pa pm q,Z ps,O p x t],R #[O ea em ec,Z es,O j n m],Z false]) (by simp [results,Tryz.results108,go_sem,p0,p1,p2,ak,al,am,e0,e1,e2,af,ag,ah]) rfl ?_;obtain⟨P1,P2,P3,P4,P5,P6⟩:=RB.copy2 z D oM T aa rfl rfl;refine⟨(P6 w (ao.out.trans X3) oM oM).drew,R #[O pa pm q,Z ps,O p x t],R #[O ea em ec,Z es,O j n m],?_,?_,rfl⟩
  ·exact(T.keep P4).ext (eR _).drew
  ·exact(aa.keep P4).ext (eR _).drew
def RcI (w:I) (s:Sp) (c d e:F) (pin:Int) (a:List Rat) (o:Rat×Rat) (g:Nat) (b:F) (W:I):Prop:=
 ∃i:Nat,i≤a.length∧b=N J i∧g=a.length-i∧RcW w s c d e a (reachN (pinG s pin) a o i) W
theorem zgt {w W i b:I} {o:Obj} {p x y:Rat} {a g:Option Addr} {m c h c2:Nat} {s:Bool} (v:Ext w W) (hs:w.heap.size+1+1+1≤W.heap.size) (K:W.heap[w.heap.size]?=C o) (t:RB W (w.heap.size+1) x) (u:RB W (w.heap.size+1+1) y)
  (j:IsR W (R #[O a m c,Z s,O g h c2]) p)
  (d:((W.setCell ⟨w.heap.size+1,0,Y⟩ (O a m c)).setCell ⟨w.heap.size+1,1,Y⟩ (Z s)).setCell ⟨w.heap.size+1,2,Y⟩ (O g h c2)=i)
  (e:((i.setCell ⟨w.heap.size+1+1,0,Y⟩ (O a m c)).setCell ⟨w.heap.size+1+1,1,Y⟩ (Z s)).setCell ⟨w.heap.size+1+1,2,Y⟩ (O g h c2)=b) :
  Ext w b.drew∧w.heap.size+1+1+1≤b.drew.heap.size∧b.drew.heap[w.heap.size]?=C o∧RB b.drew (w.heap.size+1) p∧RB b.drew (w.heap.size+1+1) p:=by
 obtain⟨k,n,z,D,T,q⟩:=RB.copy2 t u oM j j d e;have f:Ext b b.drew:=(eR _).drew;refine⟨(q w v oM oM).drew,nT oM f.size,f.heapS ?_,k.ext f,n.ext f⟩;rw [←e,←d]
 repeat rw [bS _ _ _ _ dO]
 exact K
theorem RcW.box {w:I} {s:Sp} {v1 v2 j:F} {k:List Rat} {o:Rat×Rat} {W:I} (h:RcW w s v1 v2 j k o W) {a z:Option Addr} {m c T c2 b:Nat} {y:Bool} {p p0:Rat}
  (hb:w.heap.size+1+1+1≤b) (hv:j.ownBlock≠C b) (D:RB W b p0) (hz:IsR W (R #[O a m c,Z y,O z T c2]) p) {g:I}
  (d:((W.setCell ⟨b,0,Y⟩ (O a m c)).setCell ⟨b,1,Y⟩ (Z y)).setCell ⟨b,2,Y⟩ (O z T c2)=g) :
  RcW w s v1 v2 j k o g∧RB g b p∧(∀b' r,b'≠b→RB W b' r→RB g b' r)∧g.heap.size=W.heap.size:=by
 obtain⟨h1,h2,h3,h4,h5,h6⟩:=h;have v:=D.not;have x:=v.set ⟨b,0,Y⟩ (O a m c);have n2:=x.set ⟨b,1,Y⟩ (Z y)
 have n:∀b' r,b'≠b→RB W b' r→RB g b' r:=fun b' r f hr=>by
  rw [←d];exact((hr.other (Ne.symm f) v _).other (Ne.symm f) x _).other (Ne.symm f) n2 _
 have e:∀(V:I) (u:F) (q:Addr),q.block=b→OwnR V (w.heap.size+1+1+1) j k→NoT 2 V b→OwnR (V.setCell q u) (w.heap.size+1+1+1) j k:=fun V u q K ho hn=>by
  obtain⟨cs,k1,k2,k3⟩:=ho;exact⟨cs,k1.setOther (by rw [K];exact hv) _,k2,fun i c q' hc t=>IsR.keep (k3 i c q' hc t) (KeepT.setN (KeepT.refl _ _) (by rw [K];exact hn) u)⟩
 refine⟨⟨?_,?_,?_,n _ _ oM h4,n _ _ oM h5,?_⟩,?_,n,?_⟩
 ·rw [←d];exact((h1.set dO _).set dO _).set dO _
 ·rw [←d];simpa using h2
 ·rw [←d]
  repeat rw [bS _ _ _ _ dO]
  exact h3
 ·rw [←d]
  exact e _ _ _ rfl (e _ _ _ rfl (e _ _ _ rfl h6 v) x) n2
 ·rw [←d];exact D.put hz
 ·rw [←d];simp
theorem zcl (q:Rat) : -1≤q.num.sign∧q.num.sign≤1:=by
 rcases Int.lt_trichotomy q.num 0 with h|h|h
 ·rw [Int.sign_eq_neg_one_of_neg h];decide
 ·rw [h];decide
 ·rw [Int.sign_eq_one_of_pos h];decide
theorem znh {f:Rat→Rat} {a:List Rat} {o:Rat×Rat} {i:Nat} {x:Rat} (b:a[i]?=C x) (g:NoX f a):reachN f a o (i+1)=reachStep f (reachN f a o i) x:=by
 have e:a.getD i 0=x:=by rw [gD,b];rfl
 rw [show reachN f a o (i+1)=if i=0 then reachStep f (reachN f a o i) (a.getD i 0)else reachCross f (reachStep f (reachN f a o i) (a.getD i 0)) (a.getD (i-1) 0) (a.getD i 0)from rfl,e]
 split
 ·rfl
 ·rename_i h0
  obtain⟨j,rfl⟩:∃j,i=j+1:=⟨i-1,by omega⟩;obtain⟨y,c⟩:∃y,a[j]?=C y:=⟨a[j]'(by have:=(lS.1 b).1;omega),gE _⟩;have d:a.getD (j+1-1) 0=y:=by rw [Nat.add_sub_cancel,gD,c];rfl
  rw [d];unfold reachCross;rw [if_neg (g j y x c b)]
def Rc1 (w:I) (s:Sp) (e f h:F) (d:List Rat) (o:Rat×Rat) (i:Nat) (x g:Rat) (a b c:F) (W:I):Prop:=
 ∃b11 b12,a=N J (i:Int)∧b=Ob (C ⟨b11,0,Y⟩)∧c=Ob (C ⟨b12,0,Y⟩)∧w.heap.size+1+1+1≤b11∧b11<b12∧b12<W.heap.size∧RcW w s e f h d o W∧RB W b11 x∧RB W b12 g
def Rc2 (w:I) (s:Sp) (f j k:F) (e:List Rat) (o:Rat×Rat) (i:Nat) (x g h:Rat) (a b c d:F) (W:I):Prop:=
 ∃b13,Rc1 w s f j k e o i x g a b c W∧d=Ob (C ⟨b13,0,Y⟩)∧b13<W.heap.size∧RB W b13 h
theorem zfC {w:I} {s:Sp} {v1 v2 vq:F} {qs:List Rat} {o:Rat×Rat} {W:I} (h:RcW w s v1 v2 vq qs o W) {a T e e2:Option Addr} {m c m2 c2 n k n2 k2:Nat} {s1 t:Bool} {p q x g:Rat} {b d i:Nat}
  (y:IsR W (R #[O a m c,Z s1,O T m2 c2]) p) (z:IsR W (R #[O e n k,Z t,O e2 n2 k2]) q) (z1:w.heap.size+1+1+1≤b) (z2:b<d) (z3:d<W.heap.size) (h1:RB W b x) (h2:RB W d g) {K f:I}
  (u:((W.setCell ⟨w.heap.size+1,0,Y⟩ (O a m c)).setCell ⟨w.heap.size+1,1,Y⟩ (Z s1)).setCell ⟨w.heap.size+1,2,Y⟩ (O T m2 c2)=K)
  (v:((K.setCell ⟨w.heap.size+1+1,0,Y⟩ (O e n k)).setCell ⟨w.heap.size+1+1,1,Y⟩ (Z t)).setCell ⟨w.heap.size+1+1,2,Y⟩ (O e2 n2 k2)=f) :
  Rc1 w s v1 v2 vq qs (p,q) i x g (N J (i:Int)) (Ob (C ⟨b,0,Y⟩)) (Ob (C ⟨d,0,Y⟩)) f:=by
 obtain⟨P1,P2,D⟩:=RcW.put2 h y z u v;have j:Ext f f:=eR _;exact⟨b,d,rfl,rfl,rfl,z1,z2,Nat.lt_of_lt_of_le oM j.size,P1.ext j,(D _ _ oM h1).ext j,(D _ _ oM h2).ext j⟩
theorem zcd {w:I} {s:Sp} {v y j:F} {t:List Rat} {o:Rat×Rat} {W:I} (h:RcW w s v y j t o W) {a p:Option Addr} {m c q c2:Nat} {u:Bool} {x g r p0:Rat} {d e b i:Nat}
  (hz:IsR W (R #[O a m c,Z u,O p q c2]) r) (z1:w.heap.size+1+1+1≤d) (z2:d<e) (z3:e<b) (z4:b<W.heap.size) (K:RB W d x) (T:RB W e g) (h3:RB W b p0) (hv:j.ownBlock≠C b) {n:I}
  (f:((W.setCell ⟨b,0,Y⟩ (O a m c)).setCell ⟨b,1,Y⟩ (Z u)).setCell ⟨b,2,Y⟩ (O p q c2)=n) :
  Rc2 w s v y j t o i x g r (N J (i:Int)) (Ob (C ⟨d,0,Y⟩)) (Ob (C ⟨e,0,Y⟩)) (Ob (C ⟨b,0,Y⟩)) n:=by
 obtain⟨z,D,k,P4⟩:=RcW.box h oM hv h3 hz f;exact⟨b,⟨d,e,rfl,rfl,rfl,z1,z2,by omega,z,k _ _ oM K,k _ _ oM T⟩,rfl,by omega,D⟩
end
end Go.Proofs.YtodpfeaihohpjaaGreatDoor.Cop
