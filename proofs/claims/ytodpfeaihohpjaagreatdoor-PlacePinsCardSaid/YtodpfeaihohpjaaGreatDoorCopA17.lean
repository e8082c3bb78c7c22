/- Part 18: contracts of what the law calls. -/
import Derived.Test.YtodpfeaihohpjaaGreatDoorCopA11
import Derived.Test.YtodpfeaihohpjaaGreatDoorCopA16
import Derived.Test.YtodpfeaihohpjaaGreatDoorCopA15
import Derived.Test.YtodpfeaihohpjaaGreatDoorCopA05
import Derived.Deep.LoopGhost
import Derived.Deep.CutBlock
import Derived.Deep.DeepCutAuto
import Derived.Test.YtodpfeaihohpjaaGreatDoorCopA13
import Derived.Test.YtodpfeaihohpjaaGreatDoorCopA00
set_option maxRecDepth 1000000
set_option maxHeartbeats 16000000
set_option linter.unusedSimpArgs false
set_option linter.unusedVariables false
open Go.Value renaming slice→O,bool→J,int→C,agg→R,pointer→Ob
open Option renaming none→I,some→G
open Go.IntKind renaming i64→N
open Go renaming World→F,Value→H
open Go.Obj renaming cells→Oa
namespace Go.Proofs.YtodpfeaihohpjaaGreatDoor.Cop
section
open Go.RowKit Go.Shelf
attribute [local go_sem] Oper.semAt_some
def dirE (e:Edg):Int×Int:=
 ((e.2.1-e.1.1).tdiv (Nat.gcd (e.2.1-e.1.1).natAbs (e.2.2-e.1.2).natAbs:Nat),(e.2.2-e.1.2).tdiv (Nat.gcd (e.2.1-e.1.1).natAbs (e.2.2-e.1.2).natAbs:Nat))
def slopeX (l:Int) (x rt:Rat) (e:Edg):Bool:=
 decide (rcmp x ((e.1.1:Int):Rat)<0) || (decide (rcmp x ((e.1.1:Int):Rat)=0)&&(decide (l<e.1.1)&&decide (0≤rcmp x rt)))
def slopeR (ps:List (Int×Int)) (x rt:Rat):Int×Int:=((eds ps).takeWhile fun e=>!slopeX (lineL ps) x rt e).foldl (fun _ e=>dirE e) (0,0)
def EdOk (e:Edg):Prop:=(Bd 104000 e.1.1∧Bd 104000 e.1.2∧Bd 104000 e.2.1∧Bd 104000 e.2.2)∧e.1.1≤e.2.1∧e.1≠e.2
abbrev BF:={ e:Edg // EdOk e }
def LnUp (ps:List (Int×Int)):Prop:=∀e∈eds ps,e.1.1≤e.2.1∧e.1≠e.2
def SlA (s:Nat) (e:BF) (a:Act) (W:F):Prop:=
 ∃B,s+1+1+1+1+1+1≤B∧W.heap[B]?=G (Oa #[C N e.1.1.1,C N e.1.1.2] 33 (0,0))∧W.heap[B+1]?=G (Oa #[C N e.1.2.1,C N e.1.2.2] 33 (0,0)) ∧
  a.tmps.size=73∧a.tmps.getD 3 undef=Ob (G ⟨s,0,I⟩)∧a.tmps.getD 4 undef=Ob (G ⟨s+1,0,I⟩)∧a.tmps.getD 5 undef=Ob (G ⟨s+1+1,0,I⟩)∧a.tmps.getD 7 undef=Ob (G ⟨s+1+1+1+1,0,I⟩) ∧
  a.tmps.getD 8 undef=Ob (G ⟨B,0,I⟩)∧a.tmps.getD 9 undef=Ob (G ⟨B+1,0,I⟩)∧a.defers=[]
def SlW (w:F) (v:H) (x rt:Rat) (o:Int×Int) (W:F):Prop:=
 Ext w W∧w.heap.size+1+1+1+1+1+1≤W.heap.size∧W.heap[w.heap.size]?=G (Oa #[v] 99 (0,0))∧RB W (w.heap.size+1) x∧RB W (w.heap.size+1+1) rt ∧
  W.heap[w.heap.size+1+1+1]?=G (Oa #[C N 0,C N 0] 33 (0,0))∧W.heap[w.heap.size+1+1+1+1]?=G (Oa #[C N o.1,C N o.2] 33 (0,0))
def SlI (w:F) (v:H) (l:Int) (x rt:Rat) (pre:List BF) (W:F):Prop:=
 SlW w v x rt (pre.foldl (fun _ e=>dirE e.1) (0,0)) W∧∀e∈pre,slopeX l x rt e.1=false
def SlX (w:F) (v:H) (l:Int) (x rt:Rat) (c:Code) (pre:List BF) (W:F):Prop:=
 c = .exit 0∧∃(p:List BF) (e:BF),pre=p++[e]∧SlW w v x rt (p.foldl (fun _ e=>dirE e.1) (0,0)) W∧(∀e∈p,slopeX l x rt e.1=false)∧slopeX l x rt e.1=true
theorem SlW.ext {w:F} {v:H} {x rt:Rat} {o:Int×Int} {W W':F} (h:SlW w v x rt o W) (k:Ext W W'):SlW w v x rt o W':=
 ⟨h.1.trans k,nT h.2.1 k.size,k.heapS h.2.2.1,h.2.2.2.1.ext k,h.2.2.2.2.1.ext k,k.heapS h.2.2.2.2.2.1,k.heapS h.2.2.2.2.2.2⟩
theorem SlW.sim {w:F} {v:H} {x rt:Rat} {o:Int×Int} {W W':F} {B:Nat} (h:SlW w v x rt o W) (k:Sim B W W') (hB:w.heap.size≤B):SlW w v x rt o W':=
 ⟨k.ext h.1 hB,nT h.2.1 k.size,k.heap h.2.2.1,h.2.2.2.1.sim k,h.2.2.2.2.1.sim k,k.heap h.2.2.2.2.2.1,k.heap h.2.2.2.2.2.2⟩
theorem SlW.put {w:F} {v:H} {x rt:Rat} {o:Int×Int} {W:F} (h:SlW w v x rt o W) (o':Int×Int):SlW w v x rt o' ((W.setCell ⟨w.heap.size+1+1+1+1,0,I⟩ (C N o'.1)).setCell ⟨w.heap.size+1+1+1+1,1,I⟩ (C N o'.2)):=by
 obtain⟨h1,h2,h3,h4,h5,h6,h7⟩:=h;have n1:NoT 2 W (w.heap.size+1+1+1+1):=by intro cs fr e;rw [h7]at e;cases e
 refine⟨(h1.set (by dsimp only;omega) _).set (by dsimp only;omega) _,by simp only [qcZ];exact h2,?_,(h4.other (by dsimp only;omega) n1 _).other (by dsimp only;omega) (n1.set _ _) _,(h5.other (by dsimp only;omega) n1 _).other (by dsimp only;omega) (n1.set _ _) _,?_,?_⟩
 ·rw [bS _ _ _ _ (by dsimp only;omega),bS _ _ _ _ (by dsimp only;omega)];exact h3
 ·rw [bS _ _ _ _ (by dsimp only;omega),bS _ _ _ _ (by dsimp only;omega)];exact h6
 ·have:=zau (zau h7 0 (C N o'.1)) 1 (C N o'.2)
  exact this
theorem zlg {ps:List (Int×Int)} {x rt:Rat} {es:List BF} (hes:es.map (fun e=>e.1)=eds ps) {p:List BF} {e:BF} (hp:p++[e] <+: es) (hn:∀e∈p,slopeX (lineL ps) x rt e.1=false) (he:slopeX (lineL ps) x rt e.1=true) :
  slopeR ps x rt=p.foldl (fun _ e=>dirE e.1) (0,0):=by
 obtain⟨t,rfl⟩:=hp;unfold slopeR
 rw [←hes,List.append_assoc,List.map_append,List.takeWhile_append_of_pos (by
  intro a ha;obtain⟨b,hb,rfl⟩:=List.mem_map.1 ha;simp [hn b hb])]
 rw [show ([e]++t).map (fun e:BF=>e.1)=e.1::t.map (fun e=>e.1)from rfl,List.takeWhile_cons_of_neg (by simp [he]),List.append_nil,List.foldl_map]
theorem zka {ps:List (Int×Int)} {x rt:Rat} {es:List BF} (hes:es.map (fun e=>e.1)=eds ps) (hn:∀e∈es,slopeX (lineL ps) x rt e.1=false):slopeR ps x rt=es.foldl (fun _ e=>dirE e.1) (0,0):=by
 unfold slopeR
 have h:=List.takeWhile_append_of_pos (p:=fun e=>!slopeX (lineL ps) x rt e) (l₁:=es.map fun e=>e.1) (l₂:=[]) (by
  intro a ha;obtain⟨b,hb,rfl⟩:=List.mem_map.1 ha;simp [hn b hb])
 rw [List.append_nil,List.takeWhile_nil,List.append_nil]at h;rw [←hes,h,List.foldl_map]
def RetPt (w:F) (p:Int×Int) (e:Ending) (w':F):Prop:=e = .returned (R #[C N p.1,C N p.2])∧Ext w w'
theorem zeb (w:F) (v vx vr:H) (ps:List (Int×Int)) (x rt:Rat) (h:IsPts w v ps) (hok:LnOk ps) (hup:LnUp ps) (hx:IsR w vx x) (hb:Rb 1000 x) (hr:IsR w vr rt) (hbr:Rb 1000 rt) :
  Calls Tryz.prog 95 #[v,vx,vr] w (RetPt w (slopeR ps x rt)):=by
 have HL:=hd9 (fun W (hW:Ext w W)=>zbr W v ps (h.ext' hW) (List.length_pos_iff.2 hok.1));obtain⟨a,c,rfl⟩:=h.form;obtain⟨xa,xm,xc,xs,xa2,xm2,xc2,rfl⟩:=hx.form;obtain⟨ya,ym,yc,ys,ya2,ym2,yc2,rfl⟩:=hr.form;have Hb:=hd9 hb;have Hbr:=hd9 hbr;have Hok:=hd9 hok;obtain⟨n,hn⟩:=gX ps.length;rw [hn]at h HL ⊢;have Hn:=hd9 hn;obtain⟨es,hes⟩:∃es:List BF,es.map (fun e=>e.1)=eds ps:=⟨(eds ps).attachWith EdOk (fun e he=>⟨zgU hok.2.1 he,hup e he⟩),zaY _⟩;have Hes:=hd9 hes;clear hb hbr hok hn hup;refine(callsIn_wide (n:=5)).1 ?_;refine callsIn_of_wp_marks Tryz.func95 rfl trivial ?_ rfl;simp only [Tryz.ntmps95,List.size_toArray,List.length_cons,List.length_nil,Nat.reduceAdd,Nat.reduceSub,Array.replicate_succ,Array.replicate_zero,List.push_toArray,List.append_toArray,List.nil_append,List.cons_append]
 gi_wp2_with(refine⟨trivial,?_⟩;gi_at_call 110;refine(callsIn_wide.2 (zfv _ _ _ _)).mono ?_;rintro e w' ⟨rfl,rfl⟩)
 obtain⟨W0,hW0⟩:=gX (((((((w.alloc (Oa #[O a n c] 99)).alloc (Oa #[O xa xm xc,J xs,O xa2 xm2 xc2] 65)).alloc (Oa #[O ya ym yc,J ys,O ya2 ym2 yc2] 65)).alloc (Oa #[C N 0,C N 0] 33)).alloc (Oa #[C N 0,C N 0] 33)).alloc (Oa #[O a n c] 99)));have hx0:Ext w W0:=by rw [←hW0];exact((((((eR w).alloc _).alloc _).alloc _).alloc _).alloc _).alloc _
 have hs0:W0.heap.size=w.heap.size+1+1+1+1+1+1:=by rw [←hW0];simp
 have hbx:W0.cell? ⟨w.heap.size+1+1+1+1+1,0,I⟩=G (O a n c):=by rw [←hW0,World.cell?_alloc_at _ _ _ _ (by simp)];rfl
 have hI0:SlI w (O a n c) (lineL ps) x rt [] W0:=by
  refine⟨⟨hx0,by omega,?_,?_,?_,?_,?_⟩,fun e he=>by cases he⟩
  ·rw [←hW0];exact(((((eR _).alloc _).alloc _).alloc _).alloc _).alloc _ |>.heapS (aN w _)
  ·rw [←hW0];exact(RB.new (hx.ext ((eR w).alloc _)) (by simp)).ext (((((eR _).alloc _).alloc _).alloc _).alloc _)
  ·rw [←hW0];exact(RB.new (hr.ext (((eR w).alloc _).alloc _)) (by simp)).ext ((((eR _).alloc _).alloc _).alloc _)
  ·rw [←hW0];exact((eR _).alloc _).alloc _ |>.heapS (qhA _ _ _ (by simp))
  ·rw [←hW0];exact(eR _).alloc _ |>.heapS (qhA _ _ _ (by simp))
 rw [hW0];clear hW0
 refine wpIn_rangeFunc_ownH rfl (by decide) (gf:=142) (lb:=#[Ob (G ⟨w.heap.size+1+1+1+1+1,0,I⟩)]) rfl trivial (enters_of Tryz.func142 (by kernel_rfl) rfl)
  (zdC (fun e:BF=>e.1) _ (by decide) (w.heap.size+1+1+1+1+1) w _ _ ps es hes hbx (by omega) h hx0) KpW.trans (KpW.put (by omega) (by omega)) (Below.refl _ _) (fun _=>rfl)
  (SlI w (O a n c) (lineL ps) x rt) (SlX w (O a n c) (lineL ps) x rt) (zaj (fun s W h=>by have:=h.1.2.1;omega) (fun s W W' h k=>⟨h.1.sim k (by omega),h.2⟩)) (fun c=>zaj (fun s W h=>by obtain⟨_,_,_,_,h,_⟩:=h;have:=h.2.1;omega) (fun s W W' h k=>by obtain⟨h0,p,e,h1,h2,h3,h4⟩:=h;exact⟨h0,p,e,h1,h2.sim k (by omega),h3,h4⟩)) hI0
  (fun e a' W=>SlA w.heap.size e a' W) (fun e a'=>zaj (fun s W h=>by obtain⟨B,h1,h2,h3,_⟩:=h;have:=zaa h2;omega) (fun s W W' h k=>by obtain⟨B,h1,h2,h3,h4⟩:=h;exact⟨B,h1,k.heap h2,k.heap h3,h4⟩)) ?assign ?body ?done ?stop
 case assign =>
  rintro l pre e W K hI hK;unfold ence
  gi_wp2
  have hE:Ext W ((W.alloc (Oa #[C N e.1.1.1,C N e.1.1.2] 33)).alloc (Oa #[C N e.1.2.1,C N e.1.2.2] 33)):=((eR W).alloc _).alloc _;refine hK _ _ (((KeepsOthers.alloc _ _).trans (KeepsOthers.alloc _ _)).from _) ((KpW.refl _ _ W).ext hE hI.1.1.size (by have:=hI.1.2.1;omega)) ⟨hI.1.ext hE,hI.2⟩ ⟨W.heap.size,hI.1.2.1,zi3 W _ _,zi4 W _ _,rfl,rfl,rfl,rfl,rfl,rfl,rfl,rfl⟩
 case body =>
  rintro l pre e a' W hl ⟨r,hr'⟩ hI hA hlt;obtain⟨tt,dd⟩:=a';obtain⟨B,hB,q1,q2,g0,g3,g4,g5,g7,g8,g9,gd⟩:=hA;dsimp only at g0 g3 g4 g5 g7 g8 g9 gd;subst gd;obtain⟨u,hu,ht⟩:=arrU tt 73 g0;simp only [hu]at g3 g4 g5 g7 g8 g9;clear hu;subst ht;simp only [List.range,List.range.loop,List.map_cons,List.map_nil,g3,g4,g5,g7,g8,g9];clear g0 g3 g4 g5 g7 g8 g9;obtain⟨⟨⟨ax,az⟩,bx,bz⟩,⟨hbnd,hinc,hne⟩⟩:=e;dsimp only at q1 q2 hbnd hinc hne ⊢;obtain⟨⟨h1,h2,h3,h4,h5,h6,h7⟩,hall⟩:=hI;have hSW:SlW w (O a n c) x rt (pre.foldl (fun _ e=>dirE e.1) (0,0)) W:=⟨h1,h2,h3,h4,h5,h6,h7⟩;have HSW:=hd9 hSW;have Hall:=hd9 hall;obtain⟨xa',xm',xc',xs',xa2',xm2',xc2',r0,r1,r2,_,_,_,zr,hyx⟩:=h4.rd;obtain⟨ta,tm,tc,ts,ta2,tm2,tc2,t0,t1,t2,_,_,_,zt,hyt⟩:=h5.rd;have l0:=qcB h3 (i:=0) (u:=O a n c) rfl;have e0:=qcB q1 (i:=0) (u:=C N ax) rfl;have z1:=zaa q1;have z2:=zaa q2;have HQ1:=hd9 q1;have HQ2:=hd9 q2;obtain⟨bB1,bB2,bB3,bB4⟩:=hbnd;have Rax:=zaL (k:=104000) (n:=ax) bB1;have HRax:=hd9 Rax;have Hcb:=hd9 (fun W=>zaI W ax (by unfold Bd at bB1;omega) (by unfold Bd at bB1;omega));have Hyx:=hd9 hyx;have Hyt:=hd9 hyt;have HLf:=hd9 (fun W' (hW:Ext W W')=>HL.out W' (h1.trans hW));obtain⟨T1,hT1⟩:=gX (rcmp x ((ax:Int):Rat));have HT1:=hd9 hT1;obtain⟨T2,hT2⟩:=gX (rcmp x rt);have HT2:=hd9 hT2;obtain⟨lf,hlf⟩:=gX (lineL ps);rw [hlf]at HLf;have Hlf:=hd9 hlf;have hsx:slopeX (lineL ps) x rt ((ax,az),bx,bz)=(decide (T1<0) || (decide (T1=0)&&(decide (lf<ax)&&decide (0≤T2)))):=by unfold slopeX;dsimp only;rw [hT1,hT2,hlf]
  have Hsx:=hd9 hsx;have hdx:0≤bx-ax∧bx-ax≤208000:=by unfold Bd at bB1 bB3;omega
  have hdz : -208000≤bz-az∧bz-az≤208000:=by unfold Bd at bB2 bB4;omega
  obtain⟨dx,hdxe⟩:=gX (bx-ax);obtain⟨dz,hdze⟩:=gX (bz-az);rw [hdxe]at hdx;rw [hdze]at hdz;obtain⟨gg,hgg⟩:∃g:Nat,Nat.gcd dx.natAbs dz.natAbs=g:=⟨_,rfl⟩
  have hg0:0<gg:=by
   rw [←hgg]
   rcases Nat.eq_zero_or_pos (Nat.gcd dx.natAbs dz.natAbs)with h|h
   ·exfalso
    obtain⟨q1,q2⟩:=Nat.gcd_eq_zero_iff.1 h
    apply hne
    have:=Int.natAbs_eq_zero.1 q1;have:=Int.natAbs_eq_zero.1 q2;exact Prod.ext (by dsimp only;omega) (by dsimp only;omega)
   ·exact h
  have Hcom:=hd9 (fun W'=>show Calls Tryz.prog 133 #[C N dx,C N (max dz (-dz))] W' (fun e w'=>e = .returned (C N (gg:Nat))∧Ext W' w') by
   have h:=zgu W' dx.natAbs dz.natAbs (by omega) (by omega);rw [hgg,show ((dx.natAbs:Nat):Int)=dx by omega,show ((dz.natAbs:Nat):Int)=max dz (-dz) by omega]at h;exact h)
  have hdir:dirE ((ax,az),bx,bz)=(dx.tdiv gg,dz.tdiv gg):=by unfold dirE;dsimp only;rw [hdxe,hdze,hgg]
  have Hdir:=hd9 hdir;have hq1:(dx.tdiv (gg:Int)).natAbs≤208000:=by rw [Int.natAbs_tdiv];exact nT (Nat.div_le_self _ _) (by omega)
  have hq2:(dz.tdiv (gg:Int)).natAbs≤208000:=by rw [Int.natAbs_tdiv];exact nT (Nat.div_le_self _ _) (by omega)
  clear hdir hgg
  have hS0:CellL [(⟨w.heap.size+1,0,I⟩,O xa' xm' xc'),(⟨w.heap.size+1,1,I⟩,J xs'),(⟨w.heap.size+1,2,I⟩,O xa2' xm2' xc2'),(⟨w.heap.size+1+1,0,I⟩,O ta tm tc),(⟨w.heap.size+1+1,1,I⟩,J ts),(⟨w.heap.size+1+1,2,I⟩,O ta2 tm2 tc2),(⟨w.heap.size,0,I⟩,O a n c),(⟨B,0,I⟩,C N ax)] W.drew:=
   ⟨r0,r1,r2,t0,t1,t2,l0,e0,trivial⟩
  have HS0:=hd9 hS0;clear hSW hall h3 h4 h5 h6 h7 r0 r1 r2 t0 t1 t2 l0 e0 hyx hyt hT1 hT2 hlf hsx hS0 Rax q1 q2
  gi_wp2
  refine zap (S:=CellL [(⟨w.heap.size+1,0,I⟩,O xa' xm' xc'),(⟨w.heap.size+1,1,I⟩,J xs'),(⟨w.heap.size+1,2,I⟩,O xa2' xm2' xc2'),(⟨w.heap.size+1+1,0,I⟩,O ta tm tc),(⟨w.heap.size+1+1,1,I⟩,J ts),(⟨w.heap.size+1+1,2,I⟩,O ta2 tm2 tc2),(⟨w.heap.size,0,I⟩,O a n c),(⟨B,0,I⟩,C N ax)]) (by kernel_rfl) (by kernel_rfl) HS0.out (fun h9H=>?_);refine sN 0 ?_
  iterate 3
   refine tkn ?_
  refine oN ?_;refine cl1 (i:=3) fun K hK=>?_
  go_simp
  (with_reducible refine cM (Hcb.out _) ?_)
  rintro e w3 ⟨v3,rfl,hr3,hx3⟩;obtain⟨a3,m3,c3,s3,b3,n3,k3,rfl⟩:=hr3.form
  go_wp2_with fail
  refine kO hK (cE h9H hx3) (fun h9H=>?_);clear hK K;have Hcm:=hd9 (zao w3 (R #[O xa' xm' xc',J xs',O xa2' xm2' xc2']) (R #[O a3 m3 c3,J s3,O b3 n3 k3]) x ((ax:Int):Rat) (Hyx.out.ext ((eR W).drew.trans hx3)) hr3 (Hb.out.mono (by decide)) (HRax.out.mono (by decide)));rw [HT1.out]at Hcm;refine cl1 (i:=4) fun K hK=>?_
  go_simp
  (with_reducible refine cM Hcm.out ?_)
  rintro e w4 ⟨rfl,hx4⟩
  skip
  go_wp2_with fail
  refine kO hK (cE h9H hx4) (fun h9H=>?_);clear hK K;have X4:Ext W w4:=((eR W).drew.trans hx3).trans hx4;clear Hcm
  by_cases hn:T1<0
  ·have hst:slopeX (lineL ps) x rt ((ax,az),bx,bz)=true:=by rw [Hsx.out,decide_eq_true hn];rfl
   refine sN 5 ?_
   iterate 2
    refine tkn ?_
   iterate 19
    refine tkgn ?_
   refine tkn ?_;refine oN ?_;refine wpAnyH_done (by kernel_rfl) ?_ _;unfold NQ
   gi_wp2
   exact⟨zaw X4,rfl,pre,_,rfl,HSW.out.ext X4,Hall.out,hst⟩
  by_cases hp:0<T1
  ·have hn2:(T1==0)=false:=by simp;omega
   have hst:slopeX (lineL ps) x rt ((ax,az),bx,bz)=false:=by rw [Hsx.out,decide_eq_false hn,show decide (T1=0)=false by simp;omega];rfl
   refine sN 5 ?_
   iterate 5
    refine tkn ?_
   refine oN ?_;refine cl1 (i:=10) fun K hK=>?_
   go_simp
   (with_reducible refine cM (Hcb.out _) ?_)
   rintro e w10 ⟨v10,rfl,hr10,hx10⟩;obtain⟨a10,m10,c10,s10,b10,n10,k10,rfl⟩:=hr10.form
   go_wp2_with fail
   refine kO hK (cE h9H hx10) (fun h9H=>?_);clear hK K;have Hcm:=hd9 (zao w10 (R #[O xa' xm' xc',J xs',O xa2' xm2' xc2']) (R #[O a10 m10 c10,J s10,O b10 n10 k10]) x ((ax:Int):Rat) (Hyx.out.ext (X4.trans hx10)) hr10 (Hb.out.mono (by decide)) (HRax.out.mono (by decide)));rw [HT1.out]at Hcm;refine cl1 (i:=11) fun K hK=>?_
   go_simp
   (with_reducible refine cM Hcm.out ?_)
   rintro e w11 ⟨rfl,hx11⟩
   skip
   go_wp2_with fail
   refine kO hK (cE h9H hx11) (fun h9H=>?_);clear hK K;have X11:Ext W w11:=(X4.trans hx10).trans hx11;refine sN 12 ?_
   iterate 2
    refine tkn ?_
   iterate 5
    refine tkgn ?_
   iterate 2
    refine tkn ?_
   iterate 4
    refine tkgn ?_
   iterate 2
    refine tkn ?_
   refine oN ?_;refine wpAnyH_done (by kernel_rfl) ?_ _;unfold NQ;have hX:Ext W w11:=X11;have q1':=qcB (hX.heapS HQ1.out) (i:=0) (u:=C N ax) rfl;have q2':=qcB (hX.heapS HQ1.out) (i:=1) (u:=C N az) rfl;have q3':=qcB (hX.heapS HQ2.out) (i:=0) (u:=C N bx) rfl;have q4':=qcB (hX.heapS HQ2.out) (i:=1) (u:=C N bz) rfl
   gi_wp2
   refine⟨trivial,CallsIn.mono (CallsIn.inRound l (callsIn_wide.2 (Hcom.out _))) ?_⟩;rintro e w5 ⟨rfl,hx5⟩;dsimp only;have hbd:=hx5.heapS (aN w11 (Oa #[C N dx,C N dz] 33));have d0:=qcB hbd (i:=0) (u:=C N dx) rfl;have d1:=qcB hbd (i:=1) (u:=C N dz) rfl;have X5:Ext W w5:=(hX.alloc _).trans hx5;have hg1:¬((gg:Nat):Int)=0:=by omega
   have hg3:¬gg=0:=by omega
   have hg2:(((gg:Nat):Int)==0)=false:=by simp;omega
   have u1:IntKind.i64.wrap (dx.tdiv gg)=dx.tdiv gg:=iW _ ⟨by omega,by omega⟩;have u2:IntKind.i64.wrap (dz.tdiv gg)=dz.tdiv gg:=iW _ ⟨by omega,by omega⟩;have hb7:=(HSW.out.ext X5).2.2.2.2.2.2;have o0:=qcB hb7 (i:=0) rfl;have o1:=qcB hb7 (i:=1) rfl;have of:=qfB hb7;have hz9:w.heap.size+1+1+1+1<w11.heap.size:=by have:=hX.size;omega
   have Hne9:=hd9 (show ∀q∈[((⟨w11.heap.size,0,I⟩:Addr),Value.int N dx),(⟨w11.heap.size,1,I⟩,C N dz)],w.heap.size+1+1+1+1≠q.1.block from fun q hq h=>by
    simp at hq
    rcases hq with rfl|rfl<;>(dsimp only at h;omega))
   gi_wp2
   refine zap (S:=CellL [(⟨w11.heap.size,0,I⟩,C N dx),(⟨w11.heap.size,1,I⟩,C N dz)]) (by kernel_rfl) (by kernel_rfl) ⟨d0,d1,trivial⟩ (fun h9H=>?_);refine sN 0 ?_
   iterate 9
    refine tkn ?_
   refine oN ?_;refine cl1 (i:=9) fun K hK=>?_
   go_simp;refine kO hK (CellL.set (p:=⟨w.heap.size+1+1+1+1,1,I⟩) (CellL.set (p:=⟨w.heap.size+1+1+1+1,0,I⟩) h9H Hne9.out _) Hne9.out _) (fun h9H=>?_);clear hK K;refine wpAnyH_done (by kernel_rfl) ?_ _;unfold NQ;have hW9:=(HSW.out.ext X5.drew).put (dx.tdiv gg,dz.tdiv gg);have hkf:KeepsFrom W0.heap.size W ((w5.drew.setCell ⟨w.heap.size+1+1+1+1,0,I⟩ (C N (dx.tdiv gg))).setCell ⟨w.heap.size+1+1+1+1,1,I⟩ (C N (dz.tdiv gg))):=((zaw X5.drew).trans ((KeepsOthers.setCell _ _ _).from _)).trans ((KeepsOthers.setCell _ _ _).from _)
   have hkp:KpW w (w.heap.size+1+1+1+1+1) W ((w5.drew.setCell ⟨w.heap.size+1+1+1+1,0,I⟩ (C N (dx.tdiv gg))).setCell ⟨w.heap.size+1+1+1+1,1,I⟩ (C N (dz.tdiv gg))):=
    (((KpW.refl w _ W).ext X5.drew h1.size (by omega)).set (by dsimp only;omega) (by dsimp only;omega) _).set (by dsimp only;omega) (by dsimp only;omega) _
   gi_wp2
   refine⟨hkf,hkp,?_,fun e he=>?_⟩
   ·rw [List.foldl_append,List.foldl_cons,List.foldl_nil]
    dsimp only;rw [Hdir.out];exact hW9
   ·rcases List.mem_append.1 he with he|he
    ·exact Hall.out e he
    ·rw [List.mem_singleton.1 he];exact hst
  ·have hT0:T1=0:=by omega
   subst hT0;clear hn hp;refine sN 5 ?_
   iterate 5
    refine tkn ?_
   refine oN ?_;refine cl1 (i:=10) fun K hK=>?_
   go_simp
   (with_reducible refine cM (Hcb.out _) ?_)
   rintro e w10 ⟨v10,rfl,hr10,hx10⟩;obtain⟨a10,m10,c10,s10,b10,n10,k10,rfl⟩:=hr10.form
   go_wp2_with fail
   refine kO hK (cE h9H hx10) (fun h9H=>?_);clear hK K;have Hcm:=hd9 (zao w10 (R #[O xa' xm' xc',J xs',O xa2' xm2' xc2']) (R #[O a10 m10 c10,J s10,O b10 n10 k10]) x ((ax:Int):Rat) (Hyx.out.ext (X4.trans hx10)) hr10 (Hb.out.mono (by decide)) (HRax.out.mono (by decide)));rw [HT1.out]at Hcm;refine cl1 (i:=11) fun K hK=>?_
   go_simp
   (with_reducible refine cM Hcm.out ?_)
   rintro e w11 ⟨rfl,hx11⟩
   skip
   go_wp2_with fail
   refine kO hK (cE h9H hx11) (fun h9H=>?_);clear hK K;have X11:Ext W w11:=(X4.trans hx10).trans hx11;refine sN 12 ?_
   iterate 5
    refine tkn ?_
   refine oN ?_;refine cl1 (i:=17) fun K hK=>?_
   go_simp
   (with_reducible refine cM (HLf.out _ X11) ?_)
   rintro e w17 ⟨rfl,hx17⟩
   skip
   go_wp2_with fail
   refine kO hK (cE h9H hx17) (fun h9H=>?_);clear hK K;have X17:Ext W w17:=X11.trans hx17
   by_cases hll:lf<ax
   rotate_left 1
   ·have hst:slopeX (lineL ps) x rt ((ax,az),bx,bz)=false:=by rw [Hsx.out,decide_eq_false hll];simp
    refine sN 18 ?_
    iterate 3
     refine tkn ?_
    iterate 4
     refine tkgn ?_
    iterate 2
     refine tkn ?_
    refine oN ?_;refine wpAnyH_done (by kernel_rfl) ?_ _;unfold NQ;have hX:Ext W w17:=X17;have q1':=qcB (hX.heapS HQ1.out) (i:=0) (u:=C N ax) rfl;have q2':=qcB (hX.heapS HQ1.out) (i:=1) (u:=C N az) rfl;have q3':=qcB (hX.heapS HQ2.out) (i:=0) (u:=C N bx) rfl;have q4':=qcB (hX.heapS HQ2.out) (i:=1) (u:=C N bz) rfl
    gi_wp2
    refine⟨trivial,CallsIn.mono (CallsIn.inRound l (callsIn_wide.2 (Hcom.out _))) ?_⟩;rintro e w5 ⟨rfl,hx5⟩;dsimp only;have hbd:=hx5.heapS (aN w17 (Oa #[C N dx,C N dz] 33));have d0:=qcB hbd (i:=0) (u:=C N dx) rfl;have d1:=qcB hbd (i:=1) (u:=C N dz) rfl;have X5:Ext W w5:=(hX.alloc _).trans hx5;have hg1:¬((gg:Nat):Int)=0:=by omega
    have hg3:¬gg=0:=by omega
    have hg2:(((gg:Nat):Int)==0)=false:=by simp;omega
    have u1:IntKind.i64.wrap (dx.tdiv gg)=dx.tdiv gg:=iW _ ⟨by omega,by omega⟩;have u2:IntKind.i64.wrap (dz.tdiv gg)=dz.tdiv gg:=iW _ ⟨by omega,by omega⟩;have hb7:=(HSW.out.ext X5).2.2.2.2.2.2;have o0:=qcB hb7 (i:=0) rfl;have o1:=qcB hb7 (i:=1) rfl;have of:=qfB hb7;have hz9:w.heap.size+1+1+1+1<w17.heap.size:=by have:=hX.size;omega
    have Hne9:=hd9 (show ∀q∈[((⟨w17.heap.size,0,I⟩:Addr),Value.int N dx),(⟨w17.heap.size,1,I⟩,C N dz)],w.heap.size+1+1+1+1≠q.1.block from fun q hq h=>by
     simp at hq
     rcases hq with rfl|rfl<;>(dsimp only at h;omega))
    gi_wp2
    refine zap (S:=CellL [(⟨w17.heap.size,0,I⟩,C N dx),(⟨w17.heap.size,1,I⟩,C N dz)]) (by kernel_rfl) (by kernel_rfl) ⟨d0,d1,trivial⟩ (fun h9H=>?_);refine sN 0 ?_
    iterate 9
     refine tkn ?_
    refine oN ?_;refine cl1 (i:=9) fun K hK=>?_
    go_simp;refine kO hK (CellL.set (p:=⟨w.heap.size+1+1+1+1,1,I⟩) (CellL.set (p:=⟨w.heap.size+1+1+1+1,0,I⟩) h9H Hne9.out _) Hne9.out _) (fun h9H=>?_);clear hK K;refine wpAnyH_done (by kernel_rfl) ?_ _;unfold NQ;have hW9:=(HSW.out.ext X5.drew).put (dx.tdiv gg,dz.tdiv gg);have hkf:KeepsFrom W0.heap.size W ((w5.drew.setCell ⟨w.heap.size+1+1+1+1,0,I⟩ (C N (dx.tdiv gg))).setCell ⟨w.heap.size+1+1+1+1,1,I⟩ (C N (dz.tdiv gg))):=((zaw X5.drew).trans ((KeepsOthers.setCell _ _ _).from _)).trans ((KeepsOthers.setCell _ _ _).from _)
    have hkp:KpW w (w.heap.size+1+1+1+1+1) W ((w5.drew.setCell ⟨w.heap.size+1+1+1+1,0,I⟩ (C N (dx.tdiv gg))).setCell ⟨w.heap.size+1+1+1+1,1,I⟩ (C N (dz.tdiv gg))):=
     (((KpW.refl w _ W).ext X5.drew h1.size (by omega)).set (by dsimp only;omega) (by dsimp only;omega) _).set (by dsimp only;omega) (by dsimp only;omega) _
    gi_wp2
    refine⟨hkf,hkp,?_,fun e he=>?_⟩
    ·rw [List.foldl_append,List.foldl_cons,List.foldl_nil]
     dsimp only;rw [Hdir.out];exact hW9
    ·rcases List.mem_append.1 he with he|he
     ·exact Hall.out e he
     ·rw [List.mem_singleton.1 he];exact hst
   refine sN 18 ?_
   iterate 5
    refine tkn ?_
   refine oN ?_;have Hcm2:=hd9 (zao w17 (R #[O xa' xm' xc',J xs',O xa2' xm2' xc2']) (R #[O ta tm tc,J ts,O ta2 tm2 tc2]) x rt (Hyx.out.ext X17) (Hyt.out.ext X17) (Hb.out.mono (by decide)) (Hbr.out.mono (by decide)));rw [HT2.out]at Hcm2;refine cl1 (i:=23) fun K hK=>?_
   go_simp
   (with_reducible refine cM Hcm2.out ?_)
   rintro e w23 ⟨rfl,hx23⟩
   skip
   go_wp2_with fail
   refine kO hK (cE h9H hx23) (fun h9H=>?_);clear hK K;have X23:Ext W w23:=X17.trans hx23
   by_cases ht:0≤T2
   ·have hst:slopeX (lineL ps) x rt ((ax,az),bx,bz)=true:=by rw [Hsx.out,decide_eq_true hll,decide_eq_true ht];simp
    refine sN 24 ?_
    iterate 3
     refine tkn ?_
    refine oN ?_;refine wpAnyH_done (by kernel_rfl) ?_ _;unfold NQ
    gi_wp2
    exact⟨zaw X23,rfl,pre,_,rfl,HSW.out.ext X23,Hall.out,hst⟩
   ·have hst:slopeX (lineL ps) x rt ((ax,az),bx,bz)=false:=by rw [Hsx.out,decide_eq_false ht];simp
    refine sN 24 ?_
    iterate 3
     refine tkn ?_
    refine oN ?_;refine wpAnyH_done (by kernel_rfl) ?_ _;unfold NQ;have hX:Ext W w23:=X23;have q1':=qcB (hX.heapS HQ1.out) (i:=0) (u:=C N ax) rfl;have q2':=qcB (hX.heapS HQ1.out) (i:=1) (u:=C N az) rfl;have q3':=qcB (hX.heapS HQ2.out) (i:=0) (u:=C N bx) rfl;have q4':=qcB (hX.heapS HQ2.out) (i:=1) (u:=C N bz) rfl
    gi_wp2
    refine⟨trivial,CallsIn.mono (CallsIn.inRound l (callsIn_wide.2 (Hcom.out _))) ?_⟩;rintro e w5 ⟨rfl,hx5⟩;dsimp only;have hbd:=hx5.heapS (aN w23 (Oa #[C N dx,C N dz] 33));have d0:=qcB hbd (i:=0) (u:=C N dx) rfl;have d1:=qcB hbd (i:=1) (u:=C N dz) rfl;have X5:Ext W w5:=(hX.alloc _).trans hx5;have hg1:¬((gg:Nat):Int)=0:=by omega
    have hg3:¬gg=0:=by omega
    have hg2:(((gg:Nat):Int)==0)=false:=by simp;omega
    have u1:IntKind.i64.wrap (dx.tdiv gg)=dx.tdiv gg:=iW _ ⟨by omega,by omega⟩;have u2:IntKind.i64.wrap (dz.tdiv gg)=dz.tdiv gg:=iW _ ⟨by omega,by omega⟩;have hb7:=(HSW.out.ext X5).2.2.2.2.2.2;have o0:=qcB hb7 (i:=0) rfl;have o1:=qcB hb7 (i:=1) rfl;have of:=qfB hb7;have hz9:w.heap.size+1+1+1+1<w23.heap.size:=by have:=hX.size;omega
    have Hne9:=hd9 (show ∀q∈[((⟨w23.heap.size,0,I⟩:Addr),Value.int N dx),(⟨w23.heap.size,1,I⟩,C N dz)],w.heap.size+1+1+1+1≠q.1.block from fun q hq h=>by
     simp at hq
     rcases hq with rfl|rfl<;>(dsimp only at h;omega))
    gi_wp2
    refine zap (S:=CellL [(⟨w23.heap.size,0,I⟩,C N dx),(⟨w23.heap.size,1,I⟩,C N dz)]) (by kernel_rfl) (by kernel_rfl) ⟨d0,d1,trivial⟩ (fun h9H=>?_);refine sN 0 ?_
    iterate 9
     refine tkn ?_
    refine oN ?_;refine cl1 (i:=9) fun K hK=>?_
    go_simp;refine kO hK (CellL.set (p:=⟨w.heap.size+1+1+1+1,1,I⟩) (CellL.set (p:=⟨w.heap.size+1+1+1+1,0,I⟩) h9H Hne9.out _) Hne9.out _) (fun h9H=>?_);clear hK K;refine wpAnyH_done (by kernel_rfl) ?_ _;unfold NQ;have hW9:=(HSW.out.ext X5.drew).put (dx.tdiv gg,dz.tdiv gg);have hkf:KeepsFrom W0.heap.size W ((w5.drew.setCell ⟨w.heap.size+1+1+1+1,0,I⟩ (C N (dx.tdiv gg))).setCell ⟨w.heap.size+1+1+1+1,1,I⟩ (C N (dz.tdiv gg))):=((zaw X5.drew).trans ((KeepsOthers.setCell _ _ _).from _)).trans ((KeepsOthers.setCell _ _ _).from _)
    have hkp:KpW w (w.heap.size+1+1+1+1+1) W ((w5.drew.setCell ⟨w.heap.size+1+1+1+1,0,I⟩ (C N (dx.tdiv gg))).setCell ⟨w.heap.size+1+1+1+1,1,I⟩ (C N (dz.tdiv gg))):=
     (((KpW.refl w _ W).ext X5.drew h1.size (by omega)).set (by dsimp only;omega) (by dsimp only;omega) _).set (by dsimp only;omega) (by dsimp only;omega) _
    gi_wp2
    refine⟨hkf,hkp,?_,fun e he=>?_⟩
    ·rw [List.foldl_append,List.foldl_cons,List.foldl_nil]
     dsimp only;rw [Hdir.out];exact hW9
    ·rcases List.mem_append.1 he with he|he
     ·exact Hall.out e he
     ·rw [List.mem_singleton.1 he];exact hst
 case done =>
  rintro D ys W hD rfl ⟨⟨h1,h2,h3,h4,h5,h6,h7⟩,hall⟩ hK;have hR:=zka Hes.out hall;obtain⟨⟨ox,oz⟩,ho⟩:∃o,ys.foldl (fun _ e=>dirE e.1) ((0,0):Int×Int)=o:=⟨_,rfl⟩;rw [ho]at h7 hR;have HR:=hd9 hR;have e0:=qcB h7 (i:=0) (u:=C N ox) rfl;have e1:=qcB h7 (i:=1) (u:=C N oz) rfl;have f0:=qcB h6 (i:=0) (u:=C N 0) rfl;have f1:=qcB h6 (i:=1) (u:=C N 0) rfl;have ff:=qfB h6;clear hR ho
  gi_wp2
  have h6':=zau (zau h6 0 (C N ox)) 1 (C N oz);have X:=(h1.set (p:=⟨w.heap.size+1+1+1,0,I⟩) (by dsimp only;omega) (C N ox)).set (p:=⟨w.heap.size+1+1+1,1,I⟩) (by dsimp only;omega) (C N oz);refine zbT [D] _ ⟨by simp,fun E hE=>?_⟩ (fun W' hW'=>?_)
  ·rw [List.mem_singleton.1 hE,bS _ _ _ _ (by dsimp only;omega),bS _ _ _ _ (by dsimp only;omega)];exact hK
  ·have hS:=hW' w.heap.size (fun E hE=>by rw [List.mem_singleton.1 hE];omega)
   have h8:=hS.heap h6';have c0:=qcB h8 (i:=0) (u:=C N ox) rfl;have c1:=qcB h8 (i:=1) (u:=C N oz) rfl;refine⟨R #[C N ox,C N oz],by simp [results,Tryz.results95,go_sem,c0,c1],?_⟩;rw [HR.out];exact⟨rfl,hS.ext X (nE _)⟩
 case stop =>
  rintro D c pre W hD hpre ⟨rfl,p,e,rfl,⟨h1,h2,h3,h4,h5,h6,h7⟩,hall,hst⟩ hK;have hR:=zlg Hes.out hpre hall hst;obtain⟨⟨ox,oz⟩,ho⟩:∃o,p.foldl (fun _ e=>dirE e.1) ((0,0):Int×Int)=o:=⟨_,rfl⟩;rw [ho]at h7 hR;have HR:=hd9 hR;have e0:=qcB h7 (i:=0) (u:=C N ox) rfl;have e1:=qcB h7 (i:=1) (u:=C N oz) rfl;have f0:=qcB h6 (i:=0) (u:=C N 0) rfl;have f1:=qcB h6 (i:=1) (u:=C N 0) rfl;have ff:=qfB h6;clear hR ho
  gi_wp2
  have h6':=zau (zau h6 0 (C N ox)) 1 (C N oz);have X:=(h1.set (p:=⟨w.heap.size+1+1+1,0,I⟩) (by dsimp only;omega) (C N ox)).set (p:=⟨w.heap.size+1+1+1,1,I⟩) (by dsimp only;omega) (C N oz);refine zbT [D] _ ⟨by simp,fun E hE=>?_⟩ (fun W' hW'=>?_)
  ·rw [List.mem_singleton.1 hE,bS _ _ _ _ (by dsimp only;omega),bS _ _ _ _ (by dsimp only;omega)];exact hK
  ·have hS:=hW' w.heap.size (fun E hE=>by rw [List.mem_singleton.1 hE];omega)
   have h8:=hS.heap h6';have c0:=qcB h8 (i:=0) (u:=C N ox) rfl;have c1:=qcB h8 (i:=1) (u:=C N oz) rfl;refine⟨R #[C N ox,C N oz],by simp [results,Tryz.results95,go_sem,c0,c1],?_⟩;rw [HR.out];exact⟨rfl,hS.ext X (nE _)⟩
end
section
open Go.RowKit Go.Shelf
theorem zig (w:F) (vg vs:H) (b:Int) (hb:b<0) (hg:∃a n c,vg=O a n c) (hs:∃a n c,vs=O a n c) :
  Calls Tryz.prog 94 #[R #[vg,vs],C N b] w fun e w'=>e = .returned vg∧Ext w w':=by
 obtain⟨ga,gn,gc,rfl⟩:=hg;obtain⟨sa,sn,sc,rfl⟩:=hs;go_enter Tryz.func94,Tryz.ntmps94;go_wp2;go_ret;exact⟨rfl,eA⟩
theorem zke (w:F) (vg vs:H) (ps:List Pl) (i:Nat) (p:Pl) (hg:∃a n c,vg=O a n c) (hs:IsLas w vs ps) (hp:ps[i]?=G p) :
  Calls Tryz.prog 94 #[R #[vg,vs],C N i] w fun e w'=>∃v,e = .returned v∧IsPts w' v (upP2 p)∧Ext w w':=by
 obtain⟨ga,gn,gc,rfl⟩:=hg;obtain⟨sa,n,sc,rfl⟩:=form3 hs;have hl:=hs.len;have hle:=hs.le;obtain⟨b,o,s,vl,vu,rfl,hb,d1,d2,d3,hc⟩:=hs.at' hp;obtain⟨ua,un,uc,rfl⟩:=form3 d3;have cc:=hc 11 (O ua un uc) rfl;have hi:=(lS.1 hp).1;have p1:(0:Int)≤(i:Int):=by omega
 have p2:(i:Int)<(n:Int):=by omega
 have p3:i<n:=by omega
 have p4:¬(i:Int)<0:=by omega
 have HD:=hd9 d3;clear hs hp hc d1 d2 d3 hl hle hi;go_enter Tryz.func94,Tryz.ntmps94;go_wp2;go_ret;exact⟨_,rfl,HD.out.ext' eA,eA⟩
def wrongB (n:Nat) (i pin:Int):Bool:=decide (i<0) || (decide ((n:Int)≤i) || (decide (pin<0) || decide (50<pin)))
theorem zgb (w:F) (vg:H) (sa:Option Addr) (n sc:Nat) (i pin:Int) (hg:∃a n c,vg=O a n c) :
  Calls Tryz.prog 57 #[R #[vg,O sa n sc],C N i,C N pin] w fun e w'=>e = .returned (J (wrongB n i pin))∧Ext w w':=by
 obtain⟨ga,gn,gc,rfl⟩:=hg
 by_cases h1:i<0
 ·have e:wrongB n i pin=true:=by unfold wrongB;simp [h1]
  rw [e];go_enter Tryz.func57,Tryz.ntmps57;go_wp2;go_ret;exact⟨rfl,eA⟩
 by_cases h2:(n:Int)≤i
 ·have e:wrongB n i pin=true:=by unfold wrongB;simp [h2]
  rw [e];go_enter Tryz.func57,Tryz.ntmps57;go_wp2;go_ret;exact⟨rfl,eA⟩
 by_cases h3:pin<0
 ·have e:wrongB n i pin=true:=by unfold wrongB;simp [h3]
  rw [e];go_enter Tryz.func57,Tryz.ntmps57;go_wp2;go_ret;exact⟨rfl,eA⟩
 ·have e:wrongB n i pin=decide (50<pin):=by unfold wrongB;rw [decide_eq_false h1,decide_eq_false h2,decide_eq_false h3];rfl
  rw [e];go_enter Tryz.func57,Tryz.ntmps57;go_wp2;go_ret;exact⟨rfl,eA⟩
theorem zki (w:F) (o o':Obj):((w.alloc o).alloc o').heap[w.heap.size+1]?=G o':=qhA _ _ _ (by simp)
def IsV (w:F) (v:H) (x z:Rat):Prop:=∃a m c s a2 m2 c2 b n k t b2 n2 k2,v=R #[O a m c,J s,O a2 m2 c2,O b n k,J t,O b2 n2 k2]∧IsR w (R #[O a m c,J s,O a2 m2 c2]) x∧IsR w (R #[O b n k,J t,O b2 n2 k2]) z
theorem IsV.ext {w w':F} {v:H} {x z:Rat} (h:IsV w v x z) (k:Ext w w'):IsV w' v x z:=by
 obtain⟨a,m,c,s,a2,m2,c2,b,n,k1,t,b2,n2,k2,h1,h2,h3⟩:=h;exact⟨a,m,c,s,a2,m2,c2,b,n,k1,t,b2,n2,k2,h1,h2.ext k,h3.ext k⟩
theorem zcN (w:F) (vx:H) (x:Rat) (p:Pl) (bl:Nat) (s vl vu:H) (hx:IsR w vx x) (hb:Rb 1000 x) (hbl:w.heap[bl]?=G (Oa (lac p s vl vu) 101 (0,0))) (hl:IsPts w vl (lowP2 p)) (hok:LnOk (lowP2 p)) :
  Calls Tryz.prog 109 #[vx,Ob (G ⟨bl,0,I⟩)] w fun e w'=>∃v,e = .returned v∧IsV w' v x (atR (lowP2 p) x)∧Ext w w':=by
 have HA:=hd9 (fun W (hW:Ext w W)=>zdL W vl vx (lowP2 p) x (hl.ext' hW) hok (hx.ext hW) hb);obtain⟨xa,xm,xc,xs,xa2,xm2,xc2,rfl⟩:=hx.form;obtain⟨la,ln,lc,rfl⟩:=form3 hl;have c10:=qcB hbl (i:=10) (u:=O la ln lc) rfl;have zb:=zaa hbl;have zb1:bl<w.heap.size+1:=by omega
 have zb2:bl<w.heap.size+1+1:=by omega
 obtain⟨q,hq⟩:=gX (atR (lowP2 p) x);rw [hq]at HA ⊢;have Hx:=hd9 hx;clear hl hbl hx hq;go_enter Tryz.func109,Tryz.ntmps109;go_wp2;refine wp_region_held_drew (S:=CellL [(⟨w.heap.size,0,I⟩,O xa xm xc),(⟨w.heap.size,1,I⟩,J xs),(⟨w.heap.size,2,I⟩,O xa2 xm2 xc2),(⟨bl,10,I⟩,O la ln lc)]) (by kernel_rfl) cA (fun h9H=>?_);refine sN 0 ?_
 iterate 4
  refine tkn ?_
 refine oN ?_;refine cl1 (i:=4) fun K hK=>?_
 go_simp
 (with_reducible refine cM (HA.out _ eA) ?_)
 rintro e w3 ⟨v3,rfl,hr3,hx3⟩;obtain⟨a3,m3,c3,s3,b3,n3,k3,rfl⟩:=hr3.form
 go_wp2_with fail
 refine kO hK (cE h9H hx3) (fun h9H=>?_);clear hK K;refine tk1 (i:=5) ?_;have K3:=hx3.heapS (zki w (Oa #[O xa xm xc,J xs,O xa2 xm2 xc2] 65) (Oa #[O I 0 0,J false,O I 0 0,O I 0 0,J false,O I 0 0] 67));have k0:=qcB K3 (i:=0) (u:=O I 0 0) rfl;have k1:=qcB K3 (i:=1) (u:=J false) rfl;have k2:=qcB K3 (i:=2) (u:=O I 0 0) rfl;have k3':=qcB K3 (i:=3) (u:=O I 0 0) rfl;have k4:=qcB K3 (i:=4) (u:=J false) rfl;have k5:=qcB K3 (i:=5) (u:=O I 0 0) rfl;have kf:=qfB K3;have hX3:Ext w w3:=((((eR w).alloc _).alloc _).drew).trans hx3
 have Hne:=hd9 (show ∀q∈[((⟨w.heap.size,0,I⟩:Addr),Value.slice xa xm xc),(⟨w.heap.size,1,I⟩,J xs),(⟨w.heap.size,2,I⟩,O xa2 xm2 xc2),(⟨bl,10,I⟩,O la ln lc)],w.heap.size+1≠q.1.block from fun q hq h=>by
  simp at hq
  rcases hq with rfl|rfl|rfl|rfl<;>(dsimp only at h;omega))
 have HK3:=hd9 K3;have HX3:=hd9 hX3;have Hr3:=hd9 hr3;clear K3 hX3 hr3;refine cl1 (i:=6) fun K hK=>?_
 go_simp;refine kO hK (CellL.set (p:=⟨w.heap.size+1,5,I⟩) (CellL.set (p:=⟨w.heap.size+1,4,I⟩) (CellL.set (p:=⟨w.heap.size+1,3,I⟩) (CellL.set (p:=⟨w.heap.size+1,2,I⟩) (CellL.set (p:=⟨w.heap.size+1,1,I⟩) (CellL.set (p:=⟨w.heap.size+1,0,I⟩) h9H Hne.out _) Hne.out _) Hne.out _) Hne.out _) Hne.out _) Hne.out _) (fun h9H=>?_);clear hK K;refine wpAnyH_done (by kernel_rfl) ?_ _;go_wp2;have n0:NoT 2 w3 (w.heap.size+1):=by intro cs fr e;rw [HK3.out]at e;cases e
 have hk9:∀(u0 u1 u2 u3 u4 u5:H),KeepT 2 w3 ((((((w3.setCell ⟨w.heap.size+1,0,I⟩ u0).setCell ⟨w.heap.size+1,1,I⟩ u1).setCell ⟨w.heap.size+1,2,I⟩ u2).setCell ⟨w.heap.size+1,3,I⟩ u3).setCell ⟨w.heap.size+1,4,I⟩ u4).setCell ⟨w.heap.size+1,5,I⟩ u5):=fun u0 u1 u2 u3 u4 u5=>by
  repeat(first|with_reducible exact KeepT.refl _ _|(with_reducible refine KeepT.setN ?_ ?_ _)|with_reducible exact n0|with_reducible refine NoT.set ?_ _ _)
 refine bR (v:=R #[O xa xm xc,J xs,O xa2 xm2 xc2,O a3 m3 c3,J s3,O b3 n3 k3]) (by simp [results,Tryz.results109,go_sem,k0,k1,k2,k3',k4,k5,kf]) rfl ⟨_,rfl,⟨_,_,_,_,_,_,_,_,_,_,_,_,_,_,rfl,(Hx.out.ext HX3.out).keep (hk9 _ _ _ _ _ _),Hr3.out.keep (hk9 _ _ _ _ _ _)⟩,?_⟩
 repeat(first|with_reducible exact HX3.out|(with_reducible refine Ext.set ?_ (by dsimp only;omega) _))
def pickR (way:Int) (p q:Rat):Rat:=if rcmp q p=way then q else p
def foldR (way:Int):List Rat→Rat
 | []=>0
 | x::xs=>xs.foldl (pickR way) x
theorem zhP (way:Int) (xs:List Rat) (x:Rat) (h:xs≠[]):foldR way (xs++[x])=pickR way (foldR way xs) x:=by
 cases xs with
 | nil=>exact absurd rfl h
 | cons y ys=>simp [foldR]
theorem zfO (way:Int) (p q:Rat):pickR way p q=p∨pickR way p q=q:=by unfold pickR;split<;>simp
theorem ziW (way:Int) (P:Rat→Prop) (xs:List Rat) (h:∀x∈xs,P x) (h0:P 0):P (foldR way xs):=by
 cases xs with
 | nil=>exact h0
 | cons x xs =>
  have:∀(ys:List Rat) (a:Rat),P a→(∀y∈ys,P y)→P (ys.foldl (pickR way) a):=by
   intro ys
   induction ys with
   | nil=>intro a ha _;exact ha
   | cons y ys ih =>
    intro a ha hy;refine ih _ ?_ (fun z hz=>hy z (mC _ hz))
    rcases zfO way a y with e|e<;>rw [e]
    ·exact ha
    ·exact hy y (by simp)
  exact this xs x (h x (by simp)) (fun y hy=>h y (mC _ hy))
theorem Rb.zero {k:Nat} (hk:1≤k):Rb k 0:=⟨by have:=zaB zbA k;unfold Lm;simp;omega,zg7 hk⟩
theorem zgh (w:F) (va vb:H) (p q:Rat) (way:Int) (bw:Nat) (ha:IsR w va p) (hb:IsR w vb q) (hba:Rb limR p) (hbb:Rb limR q) (hw:w.cell? ⟨bw,0,I⟩=G (C N way)) :
  Calls Tryz.prog 127 #[va,vb,Ob (G ⟨bw,0,I⟩)] w (RetR w (pickR way p q)):=by
 obtain⟨a,m,c,s,a2,m2,c2,rfl⟩:=ha.form;obtain⟨a',m',c',s',a2',m2',c2',rfl⟩:=hb.form;have HBa:=hd9 hba;have HBb:=hd9 hbb;clear hba hbb;have zw:bw<w.heap.size:=World.block_lt_of_cell? w _ hw;have zwa:bw<w.heap.size+1:=by omega
 have zwb:bw<w.heap.size+1+1:=by omega
 by_cases hc:rcmp q p=way
 ·have hcb:(rcmp q p==way)=true:=by simpa using hc
  have hR:IsR w (R #[O a' m' c',J s',O a2' m2' c2']) (pickR way p q):=by unfold pickR;first|(rw [if_pos hc];exact hb)|(rw [if_neg hc];exact ha)
  clear hc;go_enter Tryz.func127,Tryz.ntmps127;go_wp2
  go_region_held3 (fun W=>W.cell? ⟨w.heap.size,0,I⟩=G (O a m c)∧W.cell? ⟨w.heap.size,1,I⟩=G (J s)∧W.cell? ⟨w.heap.size,2,I⟩=G (O a2 m2 c2)∧W.cell? ⟨w.heap.size+1,0,I⟩=G (O a' m' c')∧W.cell? ⟨w.heap.size+1,1,I⟩=G (J s')∧W.cell? ⟨w.heap.size+1,2,I⟩=G (O a2' m2' c2')∧W.cell? ⟨bw,0,I⟩=G (C N way)) ((repeat' (with_reducible refine And.intro ?_ ?_))<;>(first|(go_simp;done)|(refine hx1.cellS ?_;go_simp;done))) (((go_at_call 19;(with_reducible refine(zao _ (R #[O a' m' c',J s',O a2' m2' c2']) (R #[O a m c,J s,O a2 m2 c2]) q p ?_ ?_ HBb.out HBa.out).mono ?_);(refine hb.ext ?_;exact eA);(refine ha.ext ?_;exact eA);rintro e w1 ⟨rfl,hx1⟩;obtain⟨⟨hc1,hf1⟩,z1_0,z1_1,z1_2⟩:=cK3 w hx1;(have zw1:=hx1.lt (n:=bw) (by simp only [wZ,qdZ];omega)))))
  all_goals go_wp2
  exact bR (v:=R #[O a' m' c',J s',O a2' m2' c2']) (by simp [results,Tryz.results127,go_sem,hc1]) rfl ⟨_,rfl,IsR.keep (w:=w1) (hR.ext eA) kA,eA⟩
 ·have hcb:(rcmp q p==way)=false:=by simpa using hc
  have hR:IsR w (R #[O a m c,J s,O a2 m2 c2]) (pickR way p q):=by unfold pickR;first|(rw [if_pos hc];exact hb)|(rw [if_neg hc];exact ha)
  clear hc;go_enter Tryz.func127,Tryz.ntmps127;go_wp2
  go_region_held3 (fun W=>W.cell? ⟨w.heap.size,0,I⟩=G (O a m c)∧W.cell? ⟨w.heap.size,1,I⟩=G (J s)∧W.cell? ⟨w.heap.size,2,I⟩=G (O a2 m2 c2)∧W.cell? ⟨w.heap.size+1,0,I⟩=G (O a' m' c')∧W.cell? ⟨w.heap.size+1,1,I⟩=G (J s')∧W.cell? ⟨w.heap.size+1,2,I⟩=G (O a2' m2' c2')∧W.cell? ⟨bw,0,I⟩=G (C N way)) ((repeat' (with_reducible refine And.intro ?_ ?_))<;>(first|(go_simp;done)|(refine hx1.cellS ?_;go_simp;done))) (((go_at_call 19;(with_reducible refine(zao _ (R #[O a' m' c',J s',O a2' m2' c2']) (R #[O a m c,J s,O a2 m2 c2]) q p ?_ ?_ HBb.out HBa.out).mono ?_);(refine hb.ext ?_;exact eA);(refine ha.ext ?_;exact eA);rintro e w1 ⟨rfl,hx1⟩;obtain⟨⟨hc1,hf1⟩,z1_0,z1_1,z1_2⟩:=cK3 w hx1;(have zw1:=hx1.lt (n:=bw) (by simp only [wZ,qdZ];omega)))))
  all_goals go_wp2
  exact bR (v:=R #[O a m c,J s,O a2 m2 c2]) (by simp [results,Tryz.results127,go_sem,hc1]) rfl ⟨_,rfl,IsR.keep (w:=w1) (hR.ext eA) kA,eA⟩
def FoS (w:F) (way:Int) (qs:List Rat) (g:Nat) (t10:H) (W:F):Prop:=
 ∃i:Nat,i≤qs.length∧t10=C N i∧g=qs.length-i∧Ext w W∧RB W w.heap.size 0∧RB W (w.heap.size+1) (foldR way (qs.take i))
theorem zkO (w:F) (v:H) (qs:List Rat) (way:Int) (bw:Nat) (hs:IsRs w v qs) (hb:∀q∈qs,Rb limR q) (hw:w.cell? ⟨bw,0,I⟩=G (C N way)) :
  Calls Tryz.prog 126 #[v,.func (.func 127) #[] #[Ob (G ⟨bw,0,I⟩)]] w (RetR w (foldR way qs)):=by
 obtain⟨a,c,rfl⟩:=hs.form;obtain⟨n,hn⟩:=gX qs.length;rw [hn]at hs ⊢;have hle:=hs.le;unfold maxLen at hle;have Hn:=hd9 hn;have Hb:=hd9 hb;have zw:bw<w.heap.size:=World.block_lt_of_cell? w _ hw;have hnc:n≤9223372036854775807:=by omega
 clear hn hb hle;go_enter Tryz.func126,Tryz.ntmps126;go_wp2
 go_loopg [10] n (FoS w way qs)
 case atStart =>
  refine⟨0,by omega,rfl,by rw [Hn.out];rfl,eA,RB.ext (W:=w.alloc (Oa #[O I 0 0,J false,O I 0 0] 65)) (RB.new (IsR.zero _) rfl) eA,RB.new (IsR.zero _) (by simp)⟩
 case round =>
  obtain⟨i,hi,rfl,rfl,hx,hR,hO⟩:=hrel;rw [Hn.out]at hi;have Hx:=hd9 hx;obtain⟨a0,m0,c0,s0,a20,m20,c20,r0,r1,r2,rf0,rf1,rf2,zr,hzr⟩:=hR.rd;obtain⟨a1,m1,c1,s1,a21,m21,c21,o0,o1,o2,of0,of1,of2,zo,hzo⟩:=hO.rd
  by_cases hlt:i<n
  ·obtain⟨x,hxi⟩:∃x,qs[i]?=G x:=⟨qs[i]'(by rw [Hn.out];omega),by simp [Hn.out,hlt]⟩
   obtain⟨b,o,a3,m3,c3,s3,a4,m4,c4,rfl,hbl,hzx,e0,e1,e2⟩:=(hs.ext' hx).at' hxi;have Hxi:=hd9 hxi;clear hxi
   by_cases h0:i=0
   ·have h0b:((i:Int)==0)=true:=by simp;omega
    have H0:=hd9 h0;clear h0;go_wp2
    go_roundg (n-(i+1))
    case measure=>have:=Hn.out;omega
    case rel =>
     have hN:=hO.not
     have e:foldR way (qs.take (i+1))=x:=by
      have:=H0.out;subst this;rw [zab _ _ _ Hxi.out];simp [foldR]
     exact⟨i+1,by have:=Hn.out;omega,by go_num,by rw [Hn.out],eA,
      (((hR.other (by dsimp only;omega) hN _).other (by dsimp only;omega) (hN.set _ _) _).other (by dsimp only;omega) ((hN.set _ _).set _ _) _).ext ((eR _).alloc _),
      by rw [e];exact(hO.put hzx).ext ((eR _).alloc _)⟩
   ·have h0b:((i:Int)==0)=false:=by simp;omega
    have H0:=hd9 h0;have HBo:Hid (Rb limR (foldR way (qs.take i))):=hd9 (ziW way _ _ (fun q hq=>Hb.out q (List.mem_of_mem_take hq)) (Rb.zero (by decide)));have HBx:Hid (Rb limR x):=hd9 (Hb.out x (lM Hxi.out));clear h0
    go_wp2_with(((go_at_call 127;(with_reducible refine(zgh _ (R #[O a1 m1 c1,J s1,O a21 m21 c21]) (R #[O a3 m3 c3,J s3,O a4 m4 c4]) (foldR way (qs.take i)) x way bw ?_ ?_ HBo.out HBx.out ?_).mono ?_);(refine hzo.ext ?_;exact eA);(refine hzx.ext ?_;exact eA);(refine Ext.cellS (a:=w) ?_ hw;exact eA);rintro e w1 ⟨r1,rfl,hr1,hx1⟩;obtain⟨b1,n1,k1,t1,b2,n2,k2,rfl⟩:=hr1.form;obtain⟨⟨hc1,hf1⟩,z1_0,z1_1⟩:=cK2 w hx1)))
    go_roundg (n-(i+1))
    case measure=>have:=Hn.out;omega
    case rel =>
     have hx9:Ext wr w1:=((eR wr).alloc _).trans hx1;have hO1:=hO.ext hx9;have hR1:=hR.ext hx9;have hN:=hO1.not
     have e:foldR way (qs.take (i+1))=pickR way (foldR way (qs.take i)) x:=by
      rw [zab _ _ _ Hxi.out,zhP];intro h;have h2:(qs.take i).length=0:=by rw [h];rfl
      rw [List.length_take,Hn.out]at h2;have:=H0.out;omega
     exact⟨i+1,by have:=Hn.out;omega,by go_num,by rw [Hn.out],eA,
      (((hR1.other (by dsimp only;omega) hN _).other (by dsimp only;omega) (hN.set _ _) _).other (by dsimp only;omega) ((hN.set _ _).set _ _) _),
      by rw [e];exact hO1.put hr1⟩
  ·obtain rfl:i=n:=by omega
   have e:foldR way (qs.take i)=foldR way qs:=by rw [lT (by rw [Hn.out];omega)]
   rw [e]at hzo;clear e;have hN:=hR.not;go_wp2;exact bR (v:=R #[O a1 m1 c1,J s1,O a21 m21 c21]) (by simp [results,Tryz.results126,go_sem,r0,r1,r2]) rfl ⟨_,rfl,hzo.keep kA,eA⟩
theorem zeu (w:F) (v:H) (qs:List Rat) (way:Int) (hs:IsRs w v qs) (hb:∀q∈qs,Rb limR q) :
  Calls Tryz.prog 84 #[v,C N way] w (RetR w (foldR way qs)):=by
 obtain⟨a,c,rfl⟩:=hs.form;have hmf:∀(fn:Fn) (first cap:Array H) (w:F),(Instr.makeFunc fn first cap).run Tryz.prog w = .ok (.func fn first cap) w:=fun _ _ _ _=>rfl
 have Hb:=hd9 hb;obtain⟨n,hn⟩:=gX qs.length;rw [hn]at hs ⊢;clear hb hn;go_enter Tryz.func84,Tryz.ntmps84
 go_wp2_with(((go_at_call 126;(with_reducible refine(zkO _ (O a n c) qs way w.heap.size ?_ Hb.out ?_).mono ?_);(refine hs.ext' ?_;exact eA);(focus(go_simp;done));rintro e w1 ⟨r1,rfl,hr1,hx1⟩;obtain⟨b1,n1,k1,t1,b2,n2,k2,rfl⟩:=hr1.form;obtain⟨⟨hc1,hf1⟩,z1_0,z1_1⟩:=cK2 w hx1)))
 exact bR (v:=R #[O b1 n1 k1,J t1,O b2 n2 k2]) (by simp [results,Tryz.results84,go_sem,hc1]) rfl ⟨_,rfl,hr1.keep kA,eA⟩
theorem zcc (w:F) (v:H) (qs:List Rat) (hs:IsRs w v qs) (hb:∀q∈qs,Rb limR q) :
  Calls Tryz.prog 28 #[v] w (RetR w (foldR (-1) qs)):=by
 obtain⟨a,c,rfl⟩:=hs.form;have Hb:=hd9 hb;obtain⟨n,hn⟩:=gX qs.length;rw [hn]at hs ⊢;clear hb hn;go_enter Tryz.func28,Tryz.ntmps28
 go_wp2_with(((go_at_call 84;(with_reducible refine(zeu _ (O a n c) qs (-1) ?_ Hb.out).mono ?_);(refine hs.ext' ?_;exact eA);rintro e w1 ⟨r1,rfl,hr1,hx1⟩;obtain⟨b1,n1,k1,t1,b2,n2,k2,rfl⟩:=hr1.form;obtain⟨⟨hc1,hf1⟩,z1_0⟩:=cK1 w hx1)))
 exact bR (v:=R #[O b1 n1 k1,J t1,O b2 n2 k2]) (by simp [results,Tryz.results28,go_sem,hc1]) rfl ⟨_,rfl,hr1.keep kA,eA⟩
theorem zcb (w:F) (v:H) (qs:List Rat) (hs:IsRs w v qs) (hb:∀q∈qs,Rb limR q) :
  Calls Tryz.prog 29 #[v] w (RetR w (foldR (1) qs)):=by
 obtain⟨a,c,rfl⟩:=hs.form;have Hb:=hd9 hb;obtain⟨n,hn⟩:=gX qs.length;rw [hn]at hs ⊢;clear hb hn;go_enter Tryz.func29,Tryz.ntmps29
 go_wp2_with(((go_at_call 84;(with_reducible refine(zeu _ (O a n c) qs (1) ?_ Hb.out).mono ?_);(refine hs.ext' ?_;exact eA);rintro e w1 ⟨r1,rfl,hr1,hx1⟩;obtain⟨b1,n1,k1,t1,b2,n2,k2,rfl⟩:=hr1.form;obtain⟨⟨hc1,hf1⟩,z1_0⟩:=cK1 w hx1)))
 exact bR (v:=R #[O b1 n1 k1,J t1,O b2 n2 k2]) (by simp [results,Tryz.results29,go_sem,hc1]) rfl ⟨_,rfl,hr1.keep kA,eA⟩
end
section
open Go.RowKit Go.Shelf
attribute [local go_sem] Oper.semAt_some
def widR (o:Rat×Rat) (x:Rat):Rat×Rat:=(foldR (-1) [o.1,x],foldR 1 [o.2,x])
def reachStep (f:Rat→Rat) (o:Rat×Rat) (x:Rat):Rat×Rat:=if (f x).num.sign≤0 then widR o x else o
def crossR (f:Rat→Rat) (y x:Rat):Rat:=y+f y / (f y-f x)*(x-y)
def reachCross (f:Rat→Rat) (o:Rat×Rat) (y x:Rat):Rat×Rat:=if (f x).num.sign*(f y).num.sign<0 then widR o (crossR f y x)else o
def reachN (f:Rat→Rat) (qs:List Rat) (o:Rat×Rat):Nat→Rat×Rat
 | 0=>o
 | i+1=>if i=0 then reachStep f (reachN f qs o i) (qs.getD i 0)else reachCross f (reachStep f (reachN f qs o i) (qs.getD i 0)) (qs.getD (i-1) 0) (qs.getD i 0)
def pinG (s:Sp) (pin:Int) (x:Rat):Rat:=gapR s x-(pin:Rat)
def reachNo (s:Sp) (pin:Int):Bool:=decide ((leastR s).2.num.sign<0) || decide (0<rcmp (leastR s).2 (pin:Rat))
def reachP (s:Sp) (pin:Int):Option (Rat×Rat):=
 if reachNo s pin=true then I else G (reachN (pinG s pin) (stopsR s) ((leastR s).1,(leastR s).1) (stopsR s).length)
theorem Rb.up {j k:Nat} {q:Rat} (h:Rb j q) (hk:j≤k):Rb k q:=by exact⟨h.1.mono hk,h.2.mono hk⟩
theorem zfw {P:Rat→Prop} (way:Int) {p q:Rat} (hp:P p) (hq:P q):P (foldR way [p,q]):=by
 show P (pickR way p q)
 rcases zfO way p q with e|e<;>rw [e]<;>assumption
theorem Rb.wid {k:Nat} {o:Rat×Rat} {x:Rat} (h:Rb k o.1∧Rb k o.2) (hx:Rb k x):Rb k (widR o x).1∧Rb k (widR o x).2:=⟨zfw _ h.1 hx,zfw _ h.2 hx⟩
theorem Rb.pin_g {s:Sp} {pin:Int} {x:Rat} (hx:Rb 1 x) (h:SpOk s) (hp:Bd 104000 pin):Rb 47 (pinG s pin x):=
 (Rb.gap hx h).sub (Rb.int (by unfold Bd at hp;unfold Lm;have h9:(B:Int) ^ 23 ≥ 104001:=(by decide);omega) (by decide))
theorem Rb.cross {f:Rat→Rat} {y x:Rat} (hy:Rb 1 y) (hx:Rb 1 x) (hf:Rb 47 (f y)) (hg:Rb 47 (f x)):Rb 291 (crossR f y x):=by
 have h1:Rb (47+(2*47+1)+(2*1+1)) (f y / (f y-f x)*(x-y)):=(hf.div (hf.sub hg) (by decide)).mul (hx.sub hy);exact(hy.up (by decide:1≤145)).add h1
theorem Rb.reach_n {f:Rat→Rat} {qs:List Rat} {o:Rat×Rat} (ho:Rb 300 o.1∧Rb 300 o.2) (hq:∀q∈qs,Rb 1 q) (hf:∀q∈qs,Rb 47 (f q)):∀n,n≤qs.length→Rb 300 (reachN f qs o n).1∧Rb 300 (reachN f qs o n).2:=by
 intro n
 induction n with
 | zero=>intro _;exact ho
 | succ i ih =>
  intro hi;have h0:=ih (by omega);have hm:qs.getD i 0∈qs:=by rw [gD,gE (by omega)];exact List.getElem_mem _
  have h1:Rb 300 (reachStep f (reachN f qs o i) (qs.getD i 0)).1∧Rb 300 (reachStep f (reachN f qs o i) (qs.getD i 0)).2:=by
   unfold reachStep
   split
   ·exact Rb.wid h0 ((hq _ hm).up (by decide))
   ·exact h0
  unfold reachN
  split
  ·exact h1
  ·have hm':qs.getD (i-1) 0∈qs:=by rw [gD,gE (by omega)];exact List.getElem_mem _
   unfold reachCross
   split
   ·exact Rb.wid h1 ((Rb.cross (hq _ hm') (hq _ hm) (hf _ hm') (hf _ hm)).up (by decide))
   ·exact h1
theorem OwnR.setOther {w:F} {base:Nat} {v:H} {qs:List Rat} (h:OwnR w base v qs) {p:Addr} (hp:p.block<base) (hn:NoT 2 w p.block) (u:H):OwnR (w.setCell p u) base v qs:=by
 obtain⟨cs,h1,h2,h3⟩:=h;refine⟨cs,h1.setOther (fun e=>?_) u,h2,fun i c q hc hq=>IsR.keep (h3 i c q hc hq) (KeepT.setN (KeepT.refl _ _) hn u)⟩;have:=(h1.lt _ e).1;omega
def RcW (w:F) (s:Sp) (v1 v2 vq:H) (qs:List Rat) (o:Rat×Rat) (W:F):Prop:=
 Ext w W∧w.heap.size+1+1+1≤W.heap.size∧W.heap[w.heap.size]?=G (Oa #[v1,v2,C N s.lo,C N s.hi] 120 (0,0)) ∧
  RB W (w.heap.size+1) o.1∧RB W (w.heap.size+1+1) o.2∧OwnR W (w.heap.size+1+1+1) vq qs
theorem RcW.ext {w:F} {s:Sp} {v1 v2 vq:H} {qs:List Rat} {o:Rat×Rat} {W W':F} (h:RcW w s v1 v2 vq qs o W) (k:Ext W W'):RcW w s v1 v2 vq qs o W':=
 ⟨h.1.trans k,nT h.2.1 k.size,k.heapS h.2.2.1,h.2.2.2.1.ext k,h.2.2.2.2.1.ext k,h.2.2.2.2.2.ext k⟩
theorem zbO (W:F) {b:Nat} (hb:b=W.heap.size) {a a2 e e2:Option Addr} {m c m2 c2 n k n2 k2:Nat} {s t:Bool} {p q:Rat} (h1:IsR W (R #[O a m c,J s,O a2 m2 c2]) p) (h2:IsR W (R #[O e n k,J t,O e2 n2 k2]) q) :
  IsRs (W.alloc (Oa #[O a m c,J s,O a2 m2 c2,O e n k,J t,O e2 n2 k2] 65)) (O (G ⟨b,0,I⟩) 2 2) [p,q]:=by
 subst hb;have hE:Ext W (W.alloc (Oa #[O a m c,J s,O a2 m2 c2,O e n k,J t,O e2 n2 k2] 65)):=(eR W).alloc _;refine⟨[[O a m c,J s,O a2 m2 c2],[O e n k,J t,O e2 n2 k2]],rfl,by simp,⟨rfl,_,_,rfl,nE _,by unfold maxLen;decide,.inr ⟨_,0,_,_,rfl,aN W _,fun i x h=>by simpa using h⟩⟩,fun i c' x hc hx=>?_⟩
 match i,hc,hx with
 | 0,hc,hx=>cases hc;cases hx;exact h1.ext hE
 | 1,hc,hx=>cases hc;cases hx;exact h2.ext hE
 | i+2,hc,hx=>simp at hc
theorem RcW.put2 {w:F} {s:Sp} {v1 v2 vq:H} {qs:List Rat} {o:Rat×Rat} {W:F} (h:RcW w s v1 v2 vq qs o W) {a a2 e e2:Option Addr} {m c m2 c2 n k n2 k2:Nat} {s1 t:Bool} {p q:Rat}
  (hz1:IsR W (R #[O a m c,J s1,O a2 m2 c2]) p) (hz2:IsR W (R #[O e n k,J t,O e2 n2 k2]) q) {W1 W2:F}
  (hW1:((W.setCell ⟨w.heap.size+1,0,I⟩ (O a m c)).setCell ⟨w.heap.size+1,1,I⟩ (J s1)).setCell ⟨w.heap.size+1,2,I⟩ (O a2 m2 c2)=W1)
  (hW2:((W1.setCell ⟨w.heap.size+1+1,0,I⟩ (O e n k)).setCell ⟨w.heap.size+1+1,1,I⟩ (J t)).setCell ⟨w.heap.size+1+1,2,I⟩ (O e2 n2 k2)=W2) :
  RcW w s v1 v2 vq qs (p,q) W2∧W2.heap.size=W.heap.size∧(∀b r,w.heap.size+1+1<b→RB W b r→RB W2 b r):=by
 obtain⟨h1,h2,h3,h4,h5,h6⟩:=h;obtain⟨q1,q2,q3,q4,q5,q6⟩:=RB.copy2 h4 h5 (by omega) hz1 hz2 hW1 hW2;have N1:=h4.not;have N2:=h5.not;refine⟨⟨q6 w h1 (by omega) (by omega),by omega,?_,q1,q2,?_⟩,q5,fun b r hb=>q3 b r (by omega) (by omega)⟩
 ·rw [←hW2,←hW1]
  repeat rw [bS _ _ _ _ (by dsimp only;omega)]
  exact h3
 ·have b1:w.heap.size+1<w.heap.size+1+1+1:=by omega
  have b2:w.heap.size+1+1<w.heap.size+1+1+1:=by omega
  have g1:=((h6.setOther (p:=⟨w.heap.size+1,0,I⟩) b1 N1 (O a m c)).setOther (p:=⟨w.heap.size+1,1,I⟩) b1 (N1.set _ _) (J s1)).setOther (p:=⟨w.heap.size+1,2,I⟩) b1 ((N1.set _ _).set _ _) (O a2 m2 c2);rw [hW1]at g1;have m0:NoT 2 W1 (w.heap.size+1+1):=by rw [←hW1];exact((N2.set _ _).set _ _).set _ _
  have g2:=((g1.setOther (p:=⟨w.heap.size+1+1,0,I⟩) b2 m0 (O e n k)).setOther (p:=⟨w.heap.size+1+1,1,I⟩) b2 (m0.set _ _) (J t)).setOther (p:=⟨w.heap.size+1+1,2,I⟩) b2 ((m0.set _ _).set _ _) (O e2 n2 k2);rw [hW2]at g2;exact g2
end
section
open Go.RowKit Go.Shelf Go.Sort
theorem zjI {β:Type} [Inhabited β] {lt:β→β→Bool} (hO:SWO lt) (d:Array β) (l:Nat):(pdq lt d 0 d.size l true true).toList.Pairwise fun x y=>lt y x=false:=by
 obtain⟨⟨h1,_,_⟩,h2⟩:=pdq_sorts lt hO d 0 d.size l true true (Nat.zero_le _) (nE _) (Or.inl rfl);rw [List.pairwise_iff_getElem];intro i j hi hj hij;simp at hi hj;have h9:=h2 i j (Nat.zero_le _) hij (by omega);rw [getElem!_pos _ i hi,getElem!_pos _ j hj]at h9
 simpa using h9
theorem zcn {ps:List (Int×Int)} (h:∀x∈ps,BP x):(sortX ps).Pairwise fun x y=>x.1≤y.1:=by
 unfold sortX sortBy;rw [dif_pos h];rw [List.pairwise_map];have h3:=@zjI {x // BP x} ⟨BP0⟩ _ swoX (ps.attachWith BP h).toArray (Lib.bitLen ps.length);rw [show (ps.attachWith BP h).toArray.size=ps.length by simp]at h3;refine h3.imp fun {x y} hxy=>?_
 rw [ltX]at hxy
 simpa using hxy
theorem zcs {α:Type} [DecidableEq α]:∀(a:α) (r:List α),∃t,compactP (a::r)=a::t
 | a,[]=>⟨[],rfl⟩
 | a,b::r=>by
  by_cases h:a=b
  ·obtain⟨t,e⟩:=zcs b r
   exact⟨t,by rw [compactP,if_pos h,e,h]⟩
  ·exact⟨compactP (b::r),by rw [compactP,if_neg h]⟩
theorem LnUp.cons {a b:Int×Int} {r:List (Int×Int)} (h1:a.1≤b.1) (h2:a≠b) (h:LnUp (b::r)):LnUp (a::b::r):=by
 intro e he;unfold eds at he
 rcases List.mem_cons.1 he with rfl|he
 ·exact⟨h1,h2⟩
 ·exact h e he
theorem zdw:∀(l:List (Int×Int)),l.Pairwise (fun x y=>x.1≤y.1)→LnUp (compactP l)
 | [],_=>by intro e he;simp [compactP,eds]at he
 | [a],_=>by intro e he;simp [compactP,eds]at he
 | a::b::r,h=>by
  have h':=zdw (b::r) (List.pairwise_cons.1 h).2
  by_cases hab:a=b
  ·rw [compactP,if_pos hab];exact h'
  ·rw [compactP,if_neg hab]
   obtain⟨t,e⟩:=zcs b r;rw [e]at h' ⊢;exact LnUp.cons ((List.pairwise_cons.1 h).1 b List.mem_cons_self) hab h'
theorem zjm {k:Int} {raw:List (Int×Int)} (hb:PBd k raw) (hk:k≤1000000):LnUp (lineOf raw):=
 zdw _ (zcn fun x hx=>by
  have:=hb x hx;unfold BP;exact⟨this.1.mono hk,this.2.mono hk⟩)
theorem zmF {p:Pl} (h:placedOk p=true):LnUp (upP2 p):=by
 obtain⟨hb,h3,h12⟩:=zbj h;have hr:=zfR hb (nE _);exact zjm hr.2 (by decide)
theorem zld:∀(l:List (Int×Int)),l.Pairwise (fun x y=>x.1<y.1)→LnUp l
 | [],_=>by intro e he;simp [eds]at he
 | [a],_=>by intro e he;simp [eds]at he
 | a::b::r,h=>by
  have h1:=(List.pairwise_cons.1 h).1 b List.mem_cons_self;exact LnUp.cons (by omega) (fun e=>by rw [e]at h1;omega) (zld (b::r) (List.pairwise_cons.1 h).2)
theorem ziZ {g:List (Int×Int)} (h:groundB g=true):LnUp g:=by
 unfold groundB at h;simp only [Bool.and_eq_true,List.all_eq_true,List.mem_range]at h;intro e he;unfold eds at he;obtain⟨i,hi,rfl⟩:=List.getElem_of_mem he;have hl:i+1<g.length:=by rw [List.length_zip,List.length_tail]at hi;omega
 have h2:=h.2 (i+1) hl;unfold grdR at h2;simp only [Bool.and_eq_true,Bool.or_eq_true,decide_eq_true_eq,beq_iff_eq,Nat.add_one_ne_zero,false_or,Nat.add_sub_cancel]at h2;have h3:=h2.2.2;rw [gD,gD,gE (by omega),gE hl]at h3;simp only [Option.getD_some]at h3;have e1:(g.zip g.tail)[i]'hi=(g[i]'(by omega),g[i+1]'hl):=by simp
 rw [e1];exact⟨by dsimp only;omega,fun e=>by dsimp only at e;rw [e]at h3;omega⟩
def NoX (f:Rat→Rat) (qs:List Rat):Prop:=∀(i:Nat) y x,qs[i]?=G y→qs[i+1]?=G x→¬(f x).num.sign*(f y).num.sign<0
theorem zdj (f:Rat→Rat) {xs:List Rat}:∀x∈xs,(bestR f xs).2≤f x:=by
 have key:∀(ys:List Rat) (a:Rat×Rat),(ys.foldl (bestStep f) a).2≤a.2∧∀x∈ys,(ys.foldl (bestStep f) a).2≤f x:=by
  intro ys
  induction ys with
  | nil=>intro a;exact⟨Rat.le_refl,fun x hx=>by simp at hx⟩
  | cons y ys ih =>
   intro a;obtain⟨h1,h2⟩:=ih (bestStep f a y)
   have h3:(bestStep f a y).2≤a.2∧(bestStep f a y).2≤f y:=by
    unfold bestStep
    split
    ·rename_i h
     rw [zbx]at h;exact⟨Rat.le_of_lt h,Rat.le_refl⟩
    ·rename_i h
     rw [zbx]at h;exact⟨Rat.le_refl,Rat.not_lt.1 h⟩
   refine⟨Rat.le_trans h1 h3.1,fun x hx=>?_⟩
   rcases List.mem_cons.1 hx with rfl|hx
   ·exact Rat.le_trans h1 h3.2
   ·exact h2 x hx
 cases xs with
 | nil=>intro x hx;simp at hx
 | cons y ys =>
  intro x hx;obtain⟨h1,h2⟩:=key ys (y,f y)
  rcases List.mem_cons.1 hx with rfl|hx
  ·exact h1
  ·exact h2 x hx
theorem zgz {q:Rat} (h:0≤q):0≤q.num.sign:=by
 have:=Rat.num_nonneg.2 h
 rcases Int.lt_or_eq_of_le this with h1|h1
 ·rw [Int.sign_eq_one_of_pos h1];decide
 ·rw [←h1];decide
theorem zns {s:Sp} (h:reachNo s 0=false):NoX (pinG s 0) (stopsR s):=by
 unfold reachNo at h;simp only [Bool.or_eq_false_iff,decide_eq_false_iff_not]at h
 have h0:0≤(leastR s).2:=by
  refine Rat.not_lt.1 fun hlt=>h.1 ?_
  refine Int.sign_neg_iff.2 (Int.not_le.1 fun h9=>?_);exact absurd hlt (Rat.not_lt.2 (Rat.num_nonneg.1 h9))
 have hall:∀x∈stopsR s,0≤(pinG s 0 x).num.sign:=fun x hx=>by
  refine zgz ?_;have h1:(leastR s).2≤gapR s x:=zdj (gapR s) x hx;have e:pinG s 0 x=gapR s x:=by unfold pinG;simp [Rat.sub_eq_add_neg,Rat.add_zero]
  rw [e];exact Rat.le_trans h0 h1
 intro i y x hy hx;have a1:=hall y (lM hy);have a2:=hall x (lM hx);have:=Int.mul_nonneg a2 a1;omega
end
section
open Go.RowKit Go.Shelf Go.Sort Go.Lib
theorem zbu {l m:List (Int×Int)} (hp:l.Perm m) (hb:∀x∈l,BP x) (hm:m.Pairwise fun x y=>x.1<y.1):sortX l=m:=by
 have h1:=zcn hb;have h2:=(zaX l).trans hp;refine List.Perm.eq_of_pairwise (le:=fun x y=>x.1≤y.1) ?_ h1 (hm.imp fun h=>by omega) h2;intro a b ha hb' hab hba;have ha':a∈m:=h2.mem_iff.1 ha;obtain⟨i,hi,rfl⟩:=List.getElem_of_mem ha';obtain⟨j,hj,rfl⟩:=List.getElem_of_mem hb';rw [List.pairwise_iff_getElem]at hm
 rcases Nat.lt_trichotomy i j with h|h|h
 ·have:=hm i j hi hj h;omega
 ·subst h;rfl
 ·have:=hm j i hj hi h;omega
def insI (z:Int):List Int→List Int
 | []=>[z]
 | y::ys=>if z≤y then z::y::ys else y::insI z ys
def sortI:List Int→List Int
 | []=>[]
 | z::zs=>insI z (sortI zs)
theorem zdJ (z:Int):∀ys,(insI z ys).Perm (z::ys)
 | []=>List.Perm.refl _
 | y::ys=>by
  unfold insI
  split
  ·exact List.Perm.refl _
  ·exact((zdJ z ys).cons y).trans (List.Perm.swap _ _ _)
theorem zeB (z:Int):∀ys,ys.Pairwise (fun x y:Int=>x≤y)→(insI z ys).Pairwise (fun x y:Int=>x≤y)
 | [],_=>by unfold insI;exact List.pairwise_singleton _ _
 | y::ys,h=>by
  obtain⟨h1,h2⟩:=List.pairwise_cons.1 h;unfold insI
  split
  ·rename_i hz
   refine List.pairwise_cons.2 ⟨fun a ha=>?_,h⟩
   rcases List.mem_cons.1 ha with rfl|ha
   ·exact hz
   ·exact Int.le_trans hz (h1 a ha)
  ·rename_i hz
   refine List.pairwise_cons.2 ⟨fun a ha=>?_,zeB z ys h2⟩
   rcases List.mem_cons.1 ((zdJ z ys).mem_iff.1 ha)with rfl|ha
   ·omega
   ·exact h1 a ha
theorem zeM:∀zs,(sortI zs).Perm zs
 | []=>List.Perm.refl _
 | z::zs=>(zdJ z _).trans ((zeM zs).cons z)
theorem zec:∀zs,(sortI zs).Pairwise (fun x y:Int=>x≤y)
 | []=>List.Pairwise.nil
 | z::zs=>zeB z _ (zec zs)
theorem zcy:isort=sortI:=by
 funext zs
 unfold isort;refine List.Perm.eq_of_pairwise (le:=fun x y:Int=>x≤y) (fun a b _ _ h1 h2=>Int.le_antisymm h1 h2) ?_ (zec zs) ((List.mergeSort_perm zs _).trans (zeM zs).symm);have:=List.pairwise_mergeSort (le:=fun x y:Int=>decide (x≤y)) (fun a b c h1 h2=>by simp at *;omega) (fun a b=>by simp;omega) zs;exact this.imp fun h=>by simpa using h
end
section
open Go.RowKit Go.Shelf
def EdgC (cs:List (Int×Int)) (u v:Int×Int):Prop:=(∃A B,cs=A++u::v::B)∨(∃M,cs=v::M++[u])
structure Cvx (cs:List (Int×Int)):Prop where
 nd:cs.Nodup
 three:3≤cs.length
 left:∀u v,EdgC cs u v→∀c∈cs,c≠u→c≠v→0<trn u v c
theorem EdgC.mem {cs:List (Int×Int)} {u v:Int×Int} (h:EdgC cs u v):u∈cs∧v∈cs:=by
 rcases h with ⟨A,B,rfl⟩|⟨M,rfl⟩<;>simp
theorem EdgC.rot {P Q:List (Int×Int)} {u v:Int×Int} (h:EdgC (Q++P) u v) (h3:2≤(P++Q).length):EdgC (P++Q) u v:=by
 rcases h with ⟨A,B,h⟩|⟨M,h⟩
 ·rcases List.append_eq_append_iff.1 h with ⟨X,e1,e2⟩|⟨X,e1,e2⟩
  ·
   subst e1;exact .inl ⟨X,B++Q,by rw [e2];simp⟩
  ·
   cases X with
   | nil =>
    simp at e1 e2;subst e1;exact .inl ⟨[],B++Q,by rw [←e2];simp⟩
   | cons x X =>
    simp at e2;obtain⟨rfl,e2⟩:=e2
    cases X with
    | nil =>
     simp at e2;subst e1 e2;exact .inr ⟨B++A,by simp⟩
    | cons y X =>
     simp at e2;obtain⟨rfl,rfl⟩:=e2;subst e1;exact .inl ⟨P++A,X,by simp⟩
 ·
  cases P with
  | nil=>simp at h;exact .inr ⟨M,by simpa using h⟩
  | cons p P =>
   cases Q with
   | nil=>simp at h;exact .inr ⟨M,by simpa using h⟩
   | cons q Q =>
    have hq:q=v:=by simp at h;exact h.1
    have hl:=congrArg List.getLast? h;rw [List.getLast?_append,List.getLast?_append]at hl
    have hp:(p::P).getLast?=G u:=by
     cases hh:(p::P).getLast? with
     | none=>simp at hh
     | some z=>rw [hh]at hl;simpa using hl
    obtain⟨P',hP⟩:∃P',p::P=P'++[u]:=⟨(p::P).dropLast,by
     have h9:=List.getLast?_eq_some_iff.1 hp;obtain⟨ys,hy⟩:=h9;rw [hy];simp⟩
    rw [hP];subst hq;exact .inl ⟨P',Q,by simp⟩
theorem EdgC.rev {cs:List (Int×Int)} {u v:Int×Int} (h:EdgC cs.reverse u v):EdgC cs v u:=by
 rcases h with ⟨A,B,h⟩|⟨M,h⟩
 ·refine .inl ⟨B.reverse,A.reverse,?_⟩
  rw [←List.reverse_reverse cs,h];simp
 ·refine .inr ⟨M.reverse,?_⟩
  rw [←List.reverse_reverse cs,h];simp
theorem EdgC.map {cs:List (Int×Int)} {f:Int×Int→Int×Int} {u v:Int×Int} (h:EdgC (cs.map f) u v):∃u' v',u=f u'∧v=f v'∧EdgC cs u' v':=by
 rcases h with ⟨A,B,h⟩|⟨M,h⟩
 ·obtain⟨A',X,e,hA,hX⟩:=List.map_eq_append_iff.1 h
  obtain⟨u',X',e2,hu,hX'⟩:=List.map_eq_cons_iff.1 hX;obtain⟨v',B',e3,hv,hB⟩:=List.map_eq_cons_iff.1 hX';exact⟨u',v',hu.symm,hv.symm,.inl ⟨A',B',by rw [e,e2,e3]⟩⟩
 ·rw [List.cons_append]at h
  obtain⟨v',X,e,hv,hX⟩:=List.map_eq_cons_iff.1 h;obtain⟨M',Y,e2,hM,hY⟩:=List.map_eq_append_iff.1 hX;obtain⟨u',Z,e3,hu,hZ⟩:=List.map_eq_cons_iff.1 hY;have:Z=[]:=List.map_eq_nil_iff.1 hZ;subst this;exact⟨u',v',hu.symm,hv.symm,.inr ⟨M',by rw [e,e2,e3];simp⟩⟩
theorem Cvx.rot {P Q:List (Int×Int)} (h:Cvx (P++Q)):Cvx (Q++P):=by
 have hm:∀x,x∈Q++P→x∈P++Q:=fun x hx=>by
  rcases List.mem_append.1 hx with hx|hx
  ·exact List.mem_append.2 (.inr hx)
  ·exact List.mem_append.2 (.inl hx)
 have hl:=h.three;refine⟨(List.perm_append_comm.nodup_iff).1 h.nd,by rw [lA]at *;omega,fun u v he c hc hu hv=>h.left u v (he.rot (by omega)) c (hm c hc) hu hv⟩
theorem Cvx.map {cs:List (Int×Int)} (h:Cvx cs) (f:Int×Int→Int×Int) (hf:∀u v c,trn (f u) (f v) (f c)=trn u v c) (hi:∀x y,f x=f y→x=y):Cvx (cs.map f):=by
 refine⟨?_,by rw [lL];exact h.three,fun u v he c hc hu hv=>?_⟩
 ·exact List.Pairwise.map f (fun a b hab e=>hab (hi a b e)) h.nd
 ·obtain⟨u',v',rfl,rfl,he'⟩:=he.map
  obtain⟨c',hc',rfl⟩:=List.mem_map.1 hc;rw [hf];exact h.left u' v' he' c' hc' (fun e=>hu (by rw [e])) (fun e=>hv (by rw [e]))
theorem Cvx.flip {cs:List (Int×Int)} (h:Cvx cs) (f:Int×Int→Int×Int) (hf:∀u v c,trn (f u) (f v) (f c)=trn v u c) (hi:∀x y,f x=f y→x=y):Cvx (cs.map f).reverse:=by
 refine⟨?_,by rw [List.length_reverse,lL];exact h.three,fun u v he c hc hu hv=>?_⟩
 ·exact(List.reverse_perm _).nodup_iff.2 (List.Pairwise.map f (fun a b hab e=>hab (hi a b e)) h.nd)
 ·obtain⟨v',u',rfl,rfl,he'⟩:=(EdgC.rev he).map
  obtain⟨c',hc',rfl⟩:=List.mem_map.1 (List.mem_reverse.1 hc);rw [hf];exact h.left v' u' he' c' hc' (fun e=>hv (by rw [e])) (fun e=>hu (by rw [e]))
theorem zeR {ps:List (Int×Int)} (i:Int):atc ps (i+ps.length)=atc ps i:=by
 unfold atc;rw [Int.add_emod_right]
theorem zmB (u v c:Int×Int):trn u v c=trn c u v:=by
 unfold trn
 grind
theorem ziK {ps:List (Int×Int)} (h:convexB ps=true) {i:Nat} (hi:i<ps.length):0<trn (atc ps ((i:Int)-1)) (atc ps i) (atc ps ((i:Int)+1))∧∀k:Nat,2≤k→k<ps.length-1→0<trn (atc ps i) (atc ps ((i:Int)+1)) (atc ps ((i:Int)+k)):=by
 unfold convexB at h;simp only [Bool.and_eq_true,List.all_eq_true,List.mem_range]at h;have h1:=h.2 i hi;unfold cvxR at h1;simp only [Bool.and_eq_true,List.all_eq_true,List.mem_range,Bool.or_eq_true,decide_eq_true_eq]at h1;refine⟨by simpa [cvx1] using h1.1,fun k hk hk2=>?_⟩
 rcases h1.2 k hk2 with h9|h9
 ·omega
 ·simpa [cvx2] using h9
theorem zfV {ps:List (Int×Int)} (h:convexB ps=true) {i j:Nat} (hi:i<ps.length) (hj:j<ps.length) (hij:i≠j) :
  ps[j]=atc ps ((i:Int)+1)∨ps[j]=atc ps ((i:Int)-1)∨0<trn (atc ps i) (atc ps ((i:Int)+1)) ps[j]:=by
 have hjn:ps[j]=atc ps (j:Int):=by
  have:=zdq hj;rw [gE hj]at this;exact Option.some.inj this
 obtain⟨k,hk1,hk2,hk⟩:∃k:Nat,1≤k∧k≤ps.length-1∧atc ps ((i:Int)+k)=atc ps (j:Int):=by
  by_cases hlt:i<j
  ·exact⟨j-i,by omega,by omega,by congr 1;omega⟩
  ·refine⟨j+ps.length-i,by omega,by omega,?_⟩
   rw [show (i:Int)+((j+ps.length-i:Nat):Int)=(j:Int)+ps.length by omega];exact zeR _
 rw [hjn,←hk]
 by_cases h1:k=1
 ·subst h1;exact .inl rfl
 ·by_cases h2:k=ps.length-1
  ·right;left
   rw [show (i:Int)+(k:Int)=((i:Int)-1)+ps.length by omega];exact zeR _
  ·right;right
   exact(ziK h hi).2 k (by omega) (by omega)
theorem zhK {ps:List (Int×Int)} (h:convexB ps=true):Cvx ps:=by
 have h3:3≤ps.length:=by
  unfold convexB wthn at h;simp only [Bool.and_eq_true,decide_eq_true_eq]at h;omega
 have hat:∀i:Nat,(hi:i<ps.length)→ps[i]=atc ps (i:Int):=fun i hi=>by
  have:=zdq hi;rw [gE hi]at this;exact Option.some.inj this
 refine⟨?_,h3,fun u v he c hc hu hv=>?_⟩
 ·rw [List.nodup_iff_pairwise_ne,List.pairwise_iff_getElem]
  intro i j hi hj hij e;have hc1:=(ziK h hi).1
  rcases zfV h hi hj (by omega)with h1|h1|h1
  ·rw [←h1,←e,hat i hi]at hc1
   unfold trn at hc1;simp at hc1
  ·rw [←h1,←e,hat i hi]at hc1
   unfold trn at hc1;simp at hc1
  ·rw [←e,hat i hi]at h1
   have:trn (atc ps (i:Int)) (atc ps ((i:Int)+1)) (atc ps (i:Int))=0:=by unfold trn;grind
   omega
 ·obtain⟨i,hi,rfl,rfl⟩:∃i:Nat,i<ps.length∧u=atc ps (i:Int)∧v=atc ps ((i:Int)+1):=by
   rcases he with ⟨A,B,e⟩|⟨M,e⟩
   ·have l1:A.length<ps.length:=by rw [e];simp
    have l2:A.length+1<ps.length:=by rw [e];simp
    refine⟨A.length,l1,?_,?_⟩
    ·rw [←hat _ l1];simp [e]
    ·have:=hat _ l2
     rw [show ((A.length+1:Nat):Int)=(A.length:Int)+1 by omega]at this;rw [←this];simp [e]
   ·have l0:0<ps.length:=by omega
    have l1:M.length+1<ps.length:=by rw [e];simp
    have ln:ps.length=M.length+2:=by rw [e];simp
    refine⟨M.length+1,l1,?_,?_⟩
    ·rw [←hat _ l1];simp [e]
    ·rw [show ((M.length+1:Nat):Int)+1=0+ps.length by omega,zeR]
     have:=hat 0 l0;rw [show ((0:Nat):Int)=0 from rfl]at this;rw [←this];simp [e]
  obtain⟨j,hj,rfl⟩:=List.mem_iff_getElem.1 hc;have hij:i≠j:=by rintro rfl;exact hu (hat i hi)
  rcases zfV h hi hj hij with h1|h1|h1
  ·exact absurd h1 hv
  ·rw [h1,zmB]
   exact(ziK h hi).1
  ·exact h1
theorem zgy {ps:List (Int×Int)} (h:Cvx ps):Cvx (settledP ps):=by
 unfold settledP;refine Cvx.map ?_ _ ?_ ?_
 ·have:=Cvx.rot (P:=ps.take (idxN ps)) (Q:=ps.drop (idxN ps)) (by rw [List.take_append_drop];exact h)
  exact this
 ·intro u v c
  unfold trn;dsimp only
  grind
 ·intro x y e
  simp only [Prod.mk.injEq]at e;exact Prod.ext (by omega) (by omega)
theorem zhy (way:Int) (u v c:Int×Int):trn (wayP way u) (wayP way v) (wayP way c)=if 3<way then trn v u c else trn u v c:=by
 unfold wayP trn;dsimp only
 split<;>(split<;>first|grind|(split<;>first|grind|(split<;>grind)))
theorem zhx (way:Int) (x y:Int×Int) (h:wayP way x=wayP way y):x=y:=by
 unfold wayP at h;dsimp only at h;obtain⟨x1,x2⟩:=x;obtain⟨y1,y2⟩:=y
 split at h<;>(split at h<;>first|(simp only [Prod.mk.injEq]at h ⊢;omega)|(split at h<;>first|(simp only [Prod.mk.injEq]at h ⊢;omega)|(split at h<;>(simp only [Prod.mk.injEq]at h ⊢;omega))))
theorem zir {way:Int} {ps:List (Int×Int)} (h:Cvx ps):Cvx (turnedP way ps):=by
 unfold turnedP;refine zgy ?_
 by_cases hw:3<way
 ·rw [if_pos hw]
  exact h.flip _ (fun u v c=>by rw [zhy,if_pos hw]) (zhx way)
 ·rw [if_neg hw]
  exact h.map _ (fun u v c=>by rw [zhy,if_neg hw]) (zhx way)
theorem zaU {p:Pl} (h:placedOk p=true):Cvx (cornersP p):=by
 have hc:convexB p.shape=true:=by
  cases hcc:convexB p.shape with
  | true=>rfl
  | false =>
   unfold placedOk stoneB at h;rw [zbJ hcc]at h;simp at h
 unfold cornersP;refine(zir (zhK hc)).map _ ?_ ?_
 ·intro u v c
  unfold trn;dsimp only
  grind
 ·intro x y e
  simp only [Prod.mk.injEq]at e;exact Prod.ext (by omega) (by omega)
end
section
open Go.RowKit Go.Shelf Go.Sort
theorem zmS {x y:Int} (h:0<x) (k:x*y≤0):y≤0:=by
 by_cases hy:y≤0
 ·exact hy
 ·have:=Int.mul_pos h (show 0<y by omega)
  omega
theorem zmR {x y:Int} (h:0<x) (k:x*y<0):y<0:=by
 by_cases hy:y<0
 ·exact hy
 ·have:=Int.mul_nonneg (Int.le_of_lt h) (show 0≤y by omega)
  omega
theorem zkh {px pz qx qz tx tz:Int} (hp:0<px) (hq:qx≤0) (ht:0<tx) (h1:0<px*tz-pz*tx) (h2:0<qx*tz-qz*tx):px*qz-pz*qx<0:=by
 have e:tx*(px*qz-pz*qx)=qx*(px*tz-pz*tx)-px*(qx*tz-qz*tx):=by grind
 have a:=Int.mul_pos hp h2;have b:qx*(px*tz-pz*tx)≤0:=Int.mul_nonpos_of_nonpos_of_nonneg hq (Int.le_of_lt h1);exact zmR ht (by omega)
theorem zfJ {ux uz ax az bx bz:Int} (hu:0<ux) (ha:ax<0) (hb:0<bx) (h1:0≤ux*az-uz*ax) (h2:0≤ux*bz-uz*bx):ax*bz-az*bx≤0:=by
 have e:ux*(ax*bz-az*bx)=ax*(ux*bz-uz*bx)-bx*(ux*az-uz*ax):=by grind
 have a:0≤bx*(ux*az-uz*ax):=Int.mul_nonneg (Int.le_of_lt hb) h1;have b:ax*(ux*bz-uz*bx)≤0:=Int.mul_nonpos_of_nonpos_of_nonneg (Int.le_of_lt ha) h2;exact zmS hu (by omega)
def LowE (cs:List (Int×Int)) (u v:Int×Int):Prop:=EdgC cs u v∧u.1<v.1
def LowV (cs:List (Int×Int)) (q:Int×Int):Prop:=∃u v,LowE cs u v∧(q=u∨q=v)
theorem Cvx.left0 {cs:List (Int×Int)} (h:Cvx cs) {u v c:Int×Int} (he:EdgC cs u v) (hc:c∈cs):0≤trn u v c:=by
 by_cases hu:c=u
 ·subst hu;unfold trn;grind
 ·by_cases hv:c=v
  ·subst hv;unfold trn;grind
  ·exact Int.le_of_lt (h.left u v he c hc hu hv)
theorem LowV.mem {cs:List (Int×Int)} {q:Int×Int} (h:LowV cs q):q∈cs:=by
 obtain⟨u,v,⟨he,_⟩,rfl|rfl⟩:=h
 ·exact he.mem.1
 ·exact he.mem.2
theorem LowV.uniq {cs:List (Int×Int)} (h:Cvx cs) {u w:Int×Int} (hu:LowV cs u) (hw:LowV cs w) (hx:u.1=w.1):u=w:=by
 have key:∀{u w:Int×Int},LowV cs u→LowV cs w→u.1=w.1→¬u.2<w.2:=by
  intro u w hu hw hx hz;obtain⟨a,b,⟨he,hab⟩,hw⟩:=hw;have h0:=h.left0 he hu.mem;unfold trn at h0
  rcases hw with rfl|rfl
  ·have e:(b.1-w.1)*(u.2-b.2)-(b.2-w.2)*(u.1-b.1)=(b.1-w.1)*(u.2-w.2):=by rw [hx];grind
   rw [e]at h0;have:=Int.mul_neg_of_pos_of_neg (show 0<b.1-w.1 by omega) (show u.2-w.2<0 by omega);omega
  ·have e:(w.1-a.1)*(u.2-w.2)-(w.2-a.2)*(u.1-w.1)=(w.1-a.1)*(u.2-w.2):=by rw [hx];grind
   rw [e]at h0;have:=Int.mul_neg_of_pos_of_neg (show 0<w.1-a.1 by omega) (show u.2-w.2<0 by omega);omega
 have h1:=key hu hw hx;have h2:=key hw hu hx.symm;exact Prod.ext hx (by omega)
theorem EdgC.next {cs:List (Int×Int)} {a:Int×Int} (h:a∈cs) (h2:2≤cs.length):∃s,EdgC cs a s:=by
 obtain⟨A,B,rfl⟩:=List.append_of_mem h
 cases B with
 | cons s B=>exact⟨s,.inl ⟨A,B,rfl⟩⟩
 | nil =>
  cases A with
  | nil=>simp at h2
  | cons v M=>exact⟨v,.inr ⟨M,by simp⟩⟩
theorem LowV.goes {cs:List (Int×Int)} (h:Cvx cs) {a b:Int×Int} (ha:LowV cs a) (hb:b∈cs) (hab:a.1<b.1):∃b',LowE cs a b':=by
 obtain⟨u,v,⟨he,huv⟩,ha⟩:=ha
 rcases ha with rfl|rfl
 ·exact⟨v,he,huv⟩
 ·obtain⟨s,hs⟩:=EdgC.next he.mem.2 (by have:=h.three;omega)
  by_cases hsx:a.1<s.1
  ·exact⟨s,hs,hsx⟩
  ·exfalso
   have hbs:b≠s:=by rintro rfl;omega
   have hba:b≠a:=by rintro rfl;omega
   have hbu:b≠u:=by rintro rfl;omega
   have h1:=h.left u a he b hb hbu hba;have h2:=h.left a s hs b hb hba hbs;have h3:=h.left0 he hs.mem.2;unfold trn at h1 h2 h3;have e2:(s.1-a.1)*(b.2-s.2)-(s.2-a.2)*(b.1-s.1)=(s.1-a.1)*(b.2-a.2)-(s.2-a.2)*(b.1-a.1):=by grind
   rw [e2]at h2;have:=zkh (show 0<a.1-u.1 by omega) (show s.1-a.1≤0 by omega) (show 0<b.1-a.1 by omega) h1 h2;omega
theorem LowV.edge {cs:List (Int×Int)} (h:Cvx cs) {a b:Int×Int} (ha:LowV cs a) (hb:LowV cs b) (hab:a.1<b.1) (hno:∀q,LowV cs q→¬(a.1<q.1∧q.1<b.1)):LowE cs a b:=by
 obtain⟨b',he,hx⟩:=ha.goes h hb.mem hab;have hb':LowV cs b':=⟨a,b',⟨he,hx⟩,.inr rfl⟩
 by_cases hbb:b'.1=b.1
 ·rw [←hb'.uniq h hb hbb];exact⟨he,hx⟩
 ·have hlt:b.1<b'.1:=by
   have:=hno b' hb';omega
  exfalso
  have hba:b≠a:=by rintro rfl;omega
  have hbb':b≠b':=by rintro rfl;omega
  have h1:=h.left a b' he b hb.mem hba hbb';obtain⟨c,d,⟨hf,hcd⟩,hbe⟩:=hb;have g1:=h.left0 hf he.mem.1;have g2:=h.left0 hf he.mem.2;unfold trn at h1 g1 g2;have e1:(b'.1-a.1)*(b.2-b'.2)-(b'.2-a.2)*(b.1-b'.1)=(a.1-b.1)*(b'.2-b.2)-(a.2-b.2)*(b'.1-b.1):=by grind
  rw [e1]at h1
  rcases hbe with rfl|rfl
  ·have e2:(d.1-b.1)*(a.2-d.2)-(d.2-b.2)*(a.1-d.1)=(d.1-b.1)*(a.2-b.2)-(d.2-b.2)*(a.1-b.1):=by grind
   have e3:(d.1-b.1)*(b'.2-d.2)-(d.2-b.2)*(b'.1-d.1)=(d.1-b.1)*(b'.2-b.2)-(d.2-b.2)*(b'.1-b.1):=by grind
   rw [e2]at g1;rw [e3]at g2;have:=zfJ (show 0<d.1-b.1 by omega) (show a.1-b.1<0 by omega) (show 0<b'.1-b.1 by omega) g1 g2;omega
  ·have:=zfJ (show 0<b.1-c.1 by omega) (show a.1-b.1<0 by omega) (show 0<b'.1-b.1 by omega) g1 g2
   omega
def ngP (p:Int×Int):Int×Int:=(-p.1,-p.2)
theorem zaT (p:Int×Int):ngP (ngP p)=p:=by unfold ngP;simp
theorem Cvx.ng {cs:List (Int×Int)} (h:Cvx cs):Cvx (cs.map ngP):=
 h.map _ (fun u v c=>by unfold trn ngP;dsimp only;grind) (fun x y e=>by rw [←zaT x,e,zaT])
theorem EdgC.maps {cs:List (Int×Int)} (f:Int×Int→Int×Int) {u v:Int×Int} (h:EdgC cs u v):EdgC (cs.map f) (f u) (f v):=by
 rcases h with ⟨A,B,rfl⟩|⟨M,rfl⟩
 ·exact .inl ⟨A.map f,B.map f,by simp⟩
 ·exact .inr ⟨M.map f,by simp⟩
theorem EdgC.ng {cs:List (Int×Int)} {u v:Int×Int} (h:EdgC (cs.map ngP) u v):EdgC cs (ngP u) (ngP v):=by
 have:=h.maps ngP
 rwa [List.map_map,show ngP ∘ ngP=id from funext zaT,List.map_id]at this
def UpE (cs:List (Int×Int)) (u v:Int×Int):Prop:=EdgC cs u v∧v.1<u.1
def UpV (cs:List (Int×Int)) (q:Int×Int):Prop:=∃u v,UpE cs u v∧(q=u∨q=v)
theorem UpE.ng {cs:List (Int×Int)} {u v:Int×Int}:UpE cs u v ↔ LowE (cs.map ngP) (ngP u) (ngP v):=by
 constructor
 ·rintro ⟨h,k⟩
  exact⟨h.maps ngP,by unfold ngP;dsimp only;omega⟩
 ·rintro ⟨h,k⟩
  have:=h.ng;rw [zaT,zaT]at this;exact⟨this,by unfold ngP at k;dsimp only at k;omega⟩
theorem UpV.ng {cs:List (Int×Int)} {q:Int×Int}:UpV cs q ↔ LowV (cs.map ngP) (ngP q):=by
 constructor
 ·rintro ⟨u,v,h,hq⟩
  exact⟨ngP u,ngP v,UpE.ng.1 h,by rcases hq with rfl|rfl<;>simp⟩
 ·rintro ⟨u,v,h,hq⟩
  refine⟨ngP u,ngP v,UpE.ng.2 (by rw [zaT,zaT];exact h),?_⟩
  rcases hq with rfl|rfl
  ·exact .inl (zaT q).symm
  ·exact .inr (zaT q).symm
theorem UpV.uniq {cs:List (Int×Int)} (h:Cvx cs) {u w:Int×Int} (hu:UpV cs u) (hw:UpV cs w) (hx:u.1=w.1):u=w:=by
 have:=LowV.uniq h.ng (UpV.ng.1 hu) (UpV.ng.1 hw) (by unfold ngP;dsimp only;omega);rw [←zaT u,this,zaT]
theorem UpV.edge {cs:List (Int×Int)} (h:Cvx cs) {a b:Int×Int} (ha:UpV cs a) (hb:UpV cs b) (hab:a.1<b.1) (hno:∀q,UpV cs q→¬(a.1<q.1∧q.1<b.1)):UpE cs b a:=by
 refine UpE.ng.2 (LowV.edge h.ng (UpV.ng.1 hb) (UpV.ng.1 ha) (by unfold ngP;dsimp only;omega) (fun q hq hx=>?_));refine hno (ngP q) (UpV.ng.2 (by rw [zaT];exact hq)) ?_;unfold ngP at hx ⊢;dsimp only at hx ⊢;omega
theorem zeW {cs:List (Int×Int)} (h2:2≤cs.length) {u v:Int×Int}:EdgC cs u v ↔ ∃i,i<cs.length∧cs.getD i (0,0)=u∧cs.getD ((i+1) % cs.length) (0,0)=v:=by
 constructor
 ·rintro (⟨A,B,e⟩|⟨M,e⟩)
  ·have l2:A.length+1<cs.length:=by rw [e];simp
   refine⟨A.length,by omega,?_,?_⟩
   ·rw [gD,e];simp
   ·rw [Nat.mod_eq_of_lt l2,gD,e];simp
  ·have ln:cs.length=M.length+2:=by rw [e];simp
   refine⟨M.length+1,by omega,?_,?_⟩
   ·rw [gD,e];simp
   ·rw [show M.length+1+1=cs.length by omega,Nat.mod_self,gD,e];simp
 ·rintro ⟨i,hi,rfl,rfl⟩
  have g:∀j,(hj:j<cs.length)→cs.getD j (0,0)=cs[j]:=fun j hj=>by rw [gD,gE hj];rfl
  by_cases h1:i+1<cs.length
  ·rw [Nat.mod_eq_of_lt h1,g i hi,g (i+1) h1]
   refine .inl ⟨cs.take i,cs.drop (i+1+1),?_⟩;rw [←List.drop_eq_getElem_cons h1,←List.drop_eq_getElem_cons hi,List.take_append_drop]
  ·have e:i+1=cs.length:=by omega
   rw [e,Nat.mod_self,g i hi,g 0 (by omega)]
   right
   cases cs with
   | nil=>simp at h2
   | cons v r =>
    have hr:r≠[]:=by rintro rfl;simp at h2
    refine⟨r.dropLast,?_⟩
    have hl:(v::r)[i]=r.getLast hr:=by
     rw [List.getLast_eq_getElem];simp only [List.length_cons]at e;obtain⟨i',rfl⟩:∃i',i=i'+1:=⟨i-1,by have:=List.length_pos_iff.2 hr;omega⟩;simp only [List.getElem_cons_succ]
     congr 1
     omega
    rw [hl];simp [List.dropLast_concat_getLast]
theorem zcU {cs:List (Int×Int)} (h2:2≤cs.length) {q:Int×Int}:q∈lowRaw cs cs.length ↔ LowV cs q:=by
 unfold lowRaw LowV LowE;rw [List.mem_flatMap]
 constructor
 ·rintro ⟨i,hi,hq⟩
  rw [List.mem_range]at hi;unfold edgeLow at hq
  split at hq
  ·rename_i hx
   refine⟨_,_,⟨(zeW h2).2 ⟨i,hi,rfl,rfl⟩,hx⟩,?_⟩
   simpa using hq
  ·cases hq
 ·rintro ⟨u,v,⟨he,hx⟩,hq⟩
  obtain⟨i,hi,rfl,rfl⟩:=(zeW h2).1 he;refine⟨i,List.mem_range.2 hi,?_⟩;unfold edgeLow;rw [if_pos hx]
  simpa using hq
theorem zdR {cs:List (Int×Int)} (h2:2≤cs.length) {q:Int×Int}:q∈upRaw cs cs.length ↔ UpV cs q:=by
 unfold upRaw UpV UpE;rw [List.mem_flatMap]
 constructor
 ·rintro ⟨i,hi,hq⟩
  rw [List.mem_range]at hi;unfold edgeUp at hq
  split at hq
  ·rename_i hx
   refine⟨_,_,⟨(zeW h2).2 ⟨i,hi,rfl,rfl⟩,hx⟩,?_⟩
   simpa using hq
  ·cases hq
 ·rintro ⟨u,v,⟨he,hx⟩,hq⟩
  obtain⟨i,hi,rfl,rfl⟩:=(zeW h2).1 he;refine⟨i,List.mem_range.2 hi,?_⟩;unfold edgeUp;rw [if_pos hx]
  simpa using hq
theorem zbp {α:Type} [DecidableEq α]:∀{xs:List α} {x:α},x∈xs→x∈compactP xs
 | [a],x,h=>by simpa [compactP] using h
 | a::b::r,x,h=>by
  rw [compactP]
  split
  ·rename_i e
   subst e
   rcases List.mem_cons.1 h with rfl|h
   ·exact zbp (by simp)
   ·exact zbp h
  ·rcases List.mem_cons.1 h with rfl|h
   ·simp
   ·exact mC _ (zbp h)
theorem zeC {raw:List (Int×Int)} {q:Int×Int}:q∈lineOf raw ↔ q∈raw:=
 ⟨fun h=>(zaX raw).mem_iff.1 (za3 h),fun h=>zbp ((zaX raw).mem_iff.2 h)⟩
def Rise (l:List (Int×Int)):Prop:=l.Pairwise fun x y=>x.1<y.1
theorem zct:∀(l:List (Int×Int)),l.Pairwise (fun x y=>x.1≤y.1)→(∀x∈l,∀y∈l,x.1=y.1→x=y)→Rise (compactP l)
 | [],_,_=>List.Pairwise.nil
 | [a],_,_=>by unfold Rise;simp [compactP]
 | a::b::r,h,hu=>by
  obtain⟨h1,h2⟩:=List.pairwise_cons.1 h;have ih:=zct (b::r) h2 (fun x hx y hy=>hu x (mC _ hx) y (mC _ hy));rw [compactP]
  split
  ·exact ih
  ·rename_i hne
   refine List.pairwise_cons.2 ⟨fun y hy=>?_,ih⟩;have hy':=za3 hy;have hle:=h1 y hy';have hb:=h1 b (by simp)
   have hby:b.1≤y.1:=by
    rcases List.mem_cons.1 hy' with rfl|hy'
    ·exact Int.le_refl _
    ·exact(List.pairwise_cons.1 h2).1 y hy'
   have:a.1≠b.1:=fun e=>hne (hu a (by simp) b (by simp) e)
   omega
theorem zdO {k:Int} {raw:List (Int×Int)} (hb:PBd k raw) (hk:k≤1000000) (hu:∀x∈raw,∀y∈raw,x.1=y.1→x=y):Rise (lineOf raw):=by
 have hp:=zaX raw
 exact zct _ (zcn fun x hx=>by
  have:=hb x hx;unfold BP;exact⟨this.1.mono hk,this.2.mono hk⟩) (fun x hx y hy=>hu x (hp.mem_iff.1 hx) y (hp.mem_iff.1 hy))
theorem Rise.between {l:List (Int×Int)} (h:Rise l) {e:Edg} (he:e∈eds l):e.1∈l∧e.2∈l∧e.1.1<e.2.1∧∀q∈l,¬(e.1.1<q.1∧q.1<e.2.1):=by
 unfold eds at he;obtain⟨i,hi,rfl⟩:=List.getElem_of_mem he;have hl:i+1<l.length:=by rw [List.length_zip,List.length_tail]at hi;omega
 have e1:(l.zip l.tail)[i]'hi=(l[i]'(by omega),l[i+1]'hl):=by simp
 rw [e1];have hp:=List.pairwise_iff_getElem.1 h;refine⟨List.getElem_mem _,List.getElem_mem _,hp i (i+1) (by omega) hl (by omega),fun q hq=>?_⟩;obtain⟨j,hj,rfl⟩:=List.getElem_of_mem hq;dsimp only;rintro ⟨h1,h2⟩
 rcases Nat.lt_trichotomy j i with h9|rfl|h9
 ·have:=hp j i hj (by omega) h9;omega
 ·omega
 ·rcases Nat.lt_or_eq_of_le (show i+1≤j from h9)with h8|rfl
  ·have:=hp (i+1) j hl hj h8;omega
  ·omega
theorem zar {p:Pl} (h:placedOk p=true):Rise (lowP2 p)∧(∀q,q∈lowP2 p ↔ LowV (cornersP p) q)∧∀e∈eds (lowP2 p),LowE (cornersP p) e.1 e.2:=by
 have hc:=zaU h;have h2:2≤(cornersP p).length:=by have:=hc.three;omega
 obtain⟨hb,h3,h12⟩:=zbj h;have hr:=zfR hb (nE _);have hm:∀q,q∈lowP2 p ↔ LowV (cornersP p) q:=fun q=>by unfold lowP2;rw [zeC,zcU h2]
 have hs:Rise (lowP2 p):=zdO hr.1 (by decide) (fun x hx y hy e=>LowV.uniq hc ((zcU h2).1 hx) ((zcU h2).1 hy) e);refine⟨hs,hm,fun e he=>?_⟩;obtain⟨m1,m2,hx,hno⟩:=hs.between he;exact LowV.edge hc ((hm _).1 m1) ((hm _).1 m2) hx (fun q hq=>hno q ((hm q).2 hq))
theorem zaJ {p:Pl} (h:placedOk p=true):Rise (upP2 p)∧(∀q,q∈upP2 p ↔ UpV (cornersP p) q)∧∀e∈eds (upP2 p),UpE (cornersP p) e.2 e.1:=by
 have hc:=zaU h;have h2:2≤(cornersP p).length:=by have:=hc.three;omega
 obtain⟨hb,h3,h12⟩:=zbj h;have hr:=zfR hb (nE _);have hm:∀q,q∈upP2 p ↔ UpV (cornersP p) q:=fun q=>by unfold upP2;rw [zeC,zdR h2]
 have hs:Rise (upP2 p):=zdO hr.2 (by decide) (fun x hx y hy e=>UpV.uniq hc ((zdR h2).1 hx) ((zdR h2).1 hy) e);refine⟨hs,hm,fun e he=>?_⟩;obtain⟨m1,m2,hx,hno⟩:=hs.between he;exact UpV.edge hc ((hm _).1 m1) ((hm _).1 m2) hx (fun q hq=>hno q ((hm q).2 hq))
def xh (k:Int):Rat:=((2*k+1:Int):Rat) / 2
theorem zcC (x y:Rat):rcmp x y≤0 ↔ x≤y:=by
 rw [←Int.not_lt,zcl,Rat.not_lt]
theorem zfQ {A B:Rat} {p q NA NB:Int} (hp:0<p) (hq:0<q) (hA:A*(p:Rat)=(NA:Rat)) (hB:B*(q:Rat)=(NB:Rat)) (h:NA*q<NB*p):A<B:=by
 refine Rat.not_le.1 fun hle=>?_
 have hp':(0:Rat)≤(p:Rat):=by exact_mod_cast Int.le_of_lt hp
 have hq':(0:Rat)≤(q:Rat):=by exact_mod_cast Int.le_of_lt hq
 have h1:B*(q:Rat)*(p:Rat)≤A*(p:Rat)*(q:Rat):=by
  have:=Rat.mul_le_mul_of_nonneg_right (Rat.mul_le_mul_of_nonneg_right hle hq') hp'
  grind
 rw [hA,hB]at h1
 have h2:((NB*p:Int):Rat)≤((NA*q:Int):Rat):=by
  rw [Rat.intCast_mul,Rat.intCast_mul];exact h1
 have:=Rat.intCast_le_intCast.1 h2;omega
theorem zhz (k:Int):xh k*2=((2*k+1:Int):Rat):=by unfold xh;rw [Rat.div_mul_cancel (by decide)]
theorem znl (k m:Int):xh k≤(m:Rat) ↔ k<m:=by
 have h2:(0:Rat)≤2:=by decide
 have e2:(m:Rat)*2=((m*2:Int):Rat):=by rw [Rat.intCast_mul];rfl
 constructor
 ·intro h
  have:=Rat.mul_le_mul_of_nonneg_right h h2;rw [zhz,e2,Rat.intCast_le_intCast]at this;omega
 ·intro h
  refine Rat.not_lt.1 fun hlt=>?_
  have:=Rat.mul_le_mul_of_nonneg_right (Rat.le_of_lt hlt) h2;rw [zhz,e2,Rat.intCast_le_intCast]at this;omega
theorem zfy (k:Int):∀(l:List (Int×Int)) (a:Int×Int),a.1≤k→(∃b∈l,k<b.1)→∃e∈eds (a::l),e.1.1≤k∧k<e.2.1∧(eds (a::l)).find? (xLe (xh k))=G e
 | [],a,_,⟨b,hb,_⟩=>by cases hb
 | b::r,a,ha,h=>by
  have e:eds (a::b::r)=(a,b)::eds (b::r):=rfl
  have hx:xLe (xh k) (a,b)=decide (k<b.1):=by
   unfold xLe;rw [decide_eq_decide,zcC,znl]
  rw [e]
  by_cases hb:k<b.1
  ·refine⟨(a,b),by simp,ha,hb,?_⟩
   rw [List.find?_cons,hx,decide_eq_true hb]
  ·obtain⟨b',hb',hk⟩:=h
   have hb2:∃b∈r,k<b.1:=by
    rcases List.mem_cons.1 hb' with rfl|hb'
    ·exact absurd hk hb
    ·exact⟨b',hb',hk⟩
   obtain⟨e',he',h1,h2,h3⟩:=zfy k r b (by omega) hb2;refine⟨e',mC _ he',h1,h2,?_⟩;rw [List.find?_cons,hx,decide_eq_false hb];exact h3
theorem zbC {l:List (Int×Int)} {k:Int} (hne:l≠[]) (h1:lineL l≤k) (h2:k<lineR l):∃e∈eds l,e.1.1≤k∧k<e.2.1∧atR l (xh k)=atE (xh k) e:=by
 cases l with
 | nil=>exact absurd rfl hne
 | cons a r =>
  have ha:a.1≤k:=h1
  have hr:∃b∈r,k<b.1:=by
   cases r with
   | nil=>unfold lineR at h2;simp at h2;omega
   | cons b r =>
    refine⟨(b::r).getLast (by simp),List.getLast_mem _,?_⟩;unfold lineR at h2;rw [gD,gE (by simp)]at h2;simp only [Option.getD_some]at h2;rw [List.getLast_eq_getElem]
    simpa using h2
  obtain⟨e,he,g1,g2,g3⟩:=zfy k r a ha hr;refine⟨e,he,g1,g2,?_⟩;unfold atR;rw [g3]
theorem zgK (k:Int) (e:Edg) (h:e.1.1<e.2.1):atE (xh k) e*((2*(e.2.1-e.1.1):Int):Rat)=((2*(e.2.1-e.1.1)*e.1.2+(2*k+1-2*e.1.1)*(e.2.2-e.1.2):Int):Rat):=by
 have hw:((e.2.1-e.1.1:Int):Rat)≠0:=by
  intro h0;have:(e.2.1-e.1.1:Int)=0:=by exact_mod_cast h0
  omega
 have h2:(2:Rat)≠0:=by decide
 have hx:xh k*2=((2*k+1:Int):Rat):=by unfold xh;rw [Rat.div_mul_cancel h2]
 unfold atE
 generalize hq:((xh k-((e.1.1:Int):Rat))*((e.2.2-e.1.2:Int):Rat)) / ((e.2.1-e.1.1:Int):Rat)=q
 have hqw:q*((e.2.1-e.1.1:Int):Rat)=(xh k-((e.1.1:Int):Rat))*((e.2.2-e.1.2:Int):Rat):=by rw [←hq,Rat.div_mul_cancel hw]
 simp only [Rat.intCast_add,Rat.intCast_mul,Rat.intCast_sub]at hqw hx ⊢
 grind
end
section
theorem rlt {a b c:Rat} (h:a≤b) (k:b<c):a<c:=Rat.not_le.1 fun h9=>Rat.not_le.2 k (Rat.le_trans h9 h)
theorem ltr {a b c:Rat} (h:a<b) (k:b≤c):a<c:=Rat.not_le.1 fun h9=>Rat.not_le.2 h (Rat.le_trans k h9)
theorem rtr {a b c:Rat} (h:a<b) (k:b<c):a<c:=ltr h (Rat.le_of_lt k)
theorem rirr {a:Rat}:¬a<a:=fun h=>Rat.not_le.2 h Rat.le_refl
section
variable {α:Type} (l r:α→Int) (lo up:α→Int→Rat)
def AbK (i j:α):Prop:=max (l i) (l j)<min (r i) (r j)∧∀k:Int,max (l i) (l j)≤k→k<min (r i) (r j)→up j k≤lo i k
structure ApK (S:List α):Prop where
 fat:∀i∈S,∀k,l i≤k→k<r i→lo i k<up i k
 two:∀i∈S,∀j∈S,i≠j→max (l i) (l j)<min (r i) (r j)→AbK l r lo up i j∨AbK l r lo up j i
variable {l r lo up}
theorem ApK.irr {S:List α} (h:ApK l r lo up S) {i:α} (hi:i∈S):¬AbK l r lo up i i:=by
 rintro ⟨h1,h2⟩;have h3:=h2 (l i) (by omega) (by omega);have h4:=h.fat i hi (l i) (by omega) (by omega);exact rirr (ltr h4 h3)
theorem ApK.key {S:List α} (h:ApK l r lo up S) {a m b:α} (ha:a∈S) (hm:m∈S) (hb:b∈S) (h1:AbK l r lo up a m) (h2:AbK l r lo up m b) (ra:r m≤r a) (rb:r m≤r b):AbK l r lo up a b:=by
 obtain⟨o1,f1⟩:=h1;obtain⟨o2,f2⟩:=h2;have c1:=f1 (r m-1) (by omega) (by omega);have c2:=f2 (r m-1) (by omega) (by omega);have d0:=h.fat m hm (r m-1) (by omega) (by omega);have d1:=h.fat a ha (r m-1) (by omega) (by omega);have d2:=h.fat b hb (r m-1) (by omega) (by omega);have hlt:up b (r m-1)<lo a (r m-1):=ltr (rlt c2 d0) c1
 have hne:a≠b:=by
  rintro rfl;exact rirr (rtr hlt d1)
 rcases h.two a ha b hb hne (by omega)with h3|h3
 ·exact h3
 ·have:=h3.2 (r m-1) (by omega) (by omega)
  exact absurd (rtr (ltr (rtr hlt d1) this) d2) rirr
theorem ApK.sub {S T:List α} (h:ApK l r lo up S) (hs:∀x∈T,x∈S):ApK l r lo up T:=
 ⟨fun i hi=>h.fat i (hs i hi),fun i hi j hj=>h.two i (hs i hi) j (hs j hj)⟩
theorem zdS (r:α→Int):∀{S:List α},S≠[]→∃m∈S,∀x∈S,r m≤r x
 | [a],_=>⟨a,by simp,fun x hx=>by rw [List.mem_singleton.1 hx];exact Int.le_refl _⟩
 | a::b::t,_=>by
  obtain⟨m,hm,hmin⟩:=zdS r (S:=b::t) (by simp)
  by_cases hc:r a≤r m
  ·refine⟨a,by simp,fun x hx=>?_⟩
   rcases List.mem_cons.1 hx with rfl|hx
   ·exact Int.le_refl _
   ·exact Int.le_trans hc (hmin x hx)
  ·refine⟨m,mC _ hm,fun x hx=>?_⟩
   rcases List.mem_cons.1 hx with rfl|hx
   ·omega
   ·exact hmin x hx
theorem zgP (p:α→Prop):∀(L:List α),∃A B,L=A++B∧(∀y∈B,¬p y)∧(A=[]∨∃A' b,A=A'++[b]∧p b)
 | []=>⟨[],[],rfl,by simp,.inl rfl⟩
 | x::L=>by
  obtain⟨A,B,rfl,h1,h2⟩:=zgP p L
  rcases h2 with rfl|⟨A',b,rfl,hb⟩
  ·by_cases hx:p x
   ·exact⟨[x],B,rfl,h1,.inr ⟨[],x,rfl,hx⟩⟩
   ·exact⟨[],x::B,rfl,fun y hy=>by rcases List.mem_cons.1 hy with rfl|hy;exact hx;exact h1 y hy,.inl rfl⟩
  ·exact⟨x::(A'++[b]),B,rfl,h1,.inr ⟨x::A',b,rfl,hb⟩⟩
theorem ApK.order [DecidableEq α]:∀(n:Nat) (S:List α),S.length=n→S.Nodup→ApK l r lo up S→∃L:List α,(∀x,x∈L ↔ x∈S)∧L.Pairwise fun x y=>¬AbK l r lo up x y
 | 0,S,hn,_,_=>by
  have:=List.eq_nil_of_length_eq_zero hn;subst this;exact⟨[],by simp,List.Pairwise.nil⟩
 | n+1,S,hn,hnd,h=>by
  obtain⟨m,hm,hmin⟩:=zdS r (S:=S) (by rintro rfl;simp at hn);have hme:∀x,x∈S.erase m ↔ x≠m∧x∈S:=fun x=>hnd.mem_erase_iff
  obtain⟨L,hL,hp⟩:=ApK.order n (S.erase m) (by rw [List.length_erase_of_mem hm,hn];rfl) (hnd.erase m) (h.sub fun x hx=>((hme x).1 hx).2);obtain⟨A,B,rfl,h1,h2⟩:=zgP (fun y=>AbK l r lo up m y) L;have hin:∀x,x∈A++B→x∈S:=fun x hx=>((hme x).1 ((hL x).1 hx)).2
  refine⟨A++m::B,fun x=>?_,?_⟩
  ·by_cases hxm:x=m
   ·subst hxm;simp [hm]
   ·have:=hL x
    rw [hme x]at this;simp only [List.mem_append,List.mem_cons,hxm,false_or]at this ⊢;rw [this];simp [hxm]
  ·rw [List.pairwise_append]at hp ⊢
   obtain⟨pA,pB,pAB⟩:=hp;refine⟨pA,List.pairwise_cons.2 ⟨fun y hy=>h1 y hy,pB⟩,fun x hx y hy=>?_⟩
   rcases List.mem_cons.1 hy with rfl|hy
   ·intro hab
    rcases h2 with rfl|⟨A',b,rfl,hb⟩
    ·cases hx
    ·have hxS:=hin x (List.mem_append.2 (.inl hx))
     have hbS:=hin b (by simp);have hxb:=h.key hxS hm hbS hab hb (hmin x hxS) (hmin b hbS)
     rcases List.mem_append.1 hx with hx|hx
     ·rw [List.pairwise_append]at pA
      exact pA.2.2 x hx b (by simp) hxb
     ·rw [List.mem_singleton.1 hx]at hxb
      exact h.irr hbS hxb
   ·exact pAB x hx y hy
theorem ApK.rank [DecidableEq α] {S:List α} (hnd:S.Nodup) (h:ApK l r lo up S):∃rk:α→Nat,∀i∈S,∀j∈S,AbK l r lo up i j→rk j<rk i:=by
 obtain⟨L,hL,hp⟩:=ApK.order S.length S rfl hnd h;refine⟨fun x=>L.idxOf x,fun i hi j hj hab=>?_⟩;have hi':=(hL i).2 hi;have hj':=(hL j).2 hj;have ei:i≠j:=by rintro rfl;exact h.irr hi hab
 show L.idxOf j<L.idxOf i
 have li:=List.idxOf_lt_length_of_mem hi';have lj:=List.idxOf_lt_length_of_mem hj';have gi:=List.getElem_idxOf li;have gj:=List.getElem_idxOf lj
 rcases Nat.lt_trichotomy (L.idxOf i) (L.idxOf j)with hlt|he|hgt
 ·have:=List.pairwise_iff_getElem.1 hp _ _ li lj hlt
  rw [gi,gj]at this;exact absurd hab this
 ·have:L[L.idxOf i]'li=L[L.idxOf j]'lj:=by simp only [he]
  rw [gi,gj]at this;exact absurd this ei
 ·exact hgt
end
end
section
open Go.RowKit Go.Shelf Go.Sort
theorem third {cs:List (Int×Int)} (h:Cvx cs) (u v:Int×Int):∃c∈cs,c≠u∧c≠v:=by
 apply Classical.byContradiction
 intro hn
 have hs:∀c∈cs,c∈[u,v]:=fun c hc=>by
  apply Classical.byContradiction
  intro h9;exact hn ⟨c,hc,fun e=>h9 (by simp [e]),fun e=>h9 (by simp [e])⟩
 have:=List.Nodup.length_le_of_subset h.nd hs;have:=h.three;simp at *;omega
theorem EdgC.ne {cs:List (Int×Int)} (h:Cvx cs) {u v:Int×Int} (he:EdgC cs u v):u≠v:=by
 rintro rfl;obtain⟨c,hc,h1,h2⟩:=third h u u;have:=h.left u u he c hc h1 h2;unfold trn at this;have e:(u.1-u.1)*(c.2-u.2)-(u.2-u.2)*(c.1-u.1)=0:=by grind
 omega
theorem Cvx.minLow {cs:List (Int×Int)} (h:Cvx cs):∃u,LowV cs u∧∀c∈cs,u.1≤c.1:=by
 obtain⟨v,hv,hmin⟩:=zdS (fun q:Int×Int=>q.1) (S:=cs) (by rintro rfl;have:=h.three;simp at this);have h2:2≤cs.length:=by have:=h.three;omega
 obtain⟨s,hs⟩:=EdgC.next hv h2
 by_cases hvs:v.1<s.1
 ·exact⟨v,⟨v,s,⟨hs,hvs⟩,.inl rfl⟩,hmin⟩
 have hsm:=hs.mem.2;have e1:s.1=v.1:=by have:=hmin s hsm;omega
 obtain⟨t,ht⟩:=EdgC.next hsm h2
 by_cases hst:s.1<t.1
 ·exact⟨s,⟨s,t,⟨ht,hst⟩,.inl rfl⟩,fun c hc=>by rw [e1];exact hmin c hc⟩
 exfalso
 have htm:=ht.mem.2;have e2:t.1=v.1:=by have:=hmin t htm;omega
 by_cases htv:t=v
 ·subst htv
  obtain⟨c,hc,h1,h3⟩:=third h t s;have a1:=h.left t s hs c hc h1 h3;have a2:=h.left s t ht c hc h3 h1;unfold trn at a1 a2;have e:(s.1-t.1)*(c.2-s.2)-(s.2-t.2)*(c.1-s.1)+((t.1-s.1)*(c.2-t.2)-(t.2-s.2)*(c.1-t.1))=0:=by grind
  omega
 ·have hts:t≠s:=fun e=>(ht.ne h) e.symm
  have a1:=h.left v s hs t htm htv hts;unfold trn at a1;rw [e1,e2,Int.sub_self]at a1;simp at a1
def mzP (p:Int×Int):Int×Int:=(p.1,-p.2)
theorem zfa (p:Int×Int):mzP (mzP p)=p:=by unfold mzP;simp
theorem Cvx.mz {cs:List (Int×Int)} (h:Cvx cs):Cvx (cs.map mzP).reverse:=
 h.flip _ (fun u v c=>by unfold trn mzP;dsimp only;grind) (fun x y e=>by rw [←zfa x,e,zfa])
theorem LowV.mz {cs:List (Int×Int)} {q:Int×Int} (h:LowV (cs.map mzP).reverse q):UpV cs (mzP q):=by
 obtain⟨u,v,⟨he,hx⟩,hq⟩:=h;obtain⟨v',u',e1,e2,he'⟩:=(EdgC.rev he).map;refine⟨v',u',⟨he',?_⟩,?_⟩
 ·rw [e1,e2]at hx
  exact hx
 ·rcases hq with rfl|rfl
  ·right;rw [e2,zfa]
  ·left;rw [e1,zfa]
theorem Cvx.minUp {cs:List (Int×Int)} (h:Cvx cs):∃u,UpV cs u∧∀c∈cs,u.1≤c.1:=by
 obtain⟨u,hu,hm⟩:=h.mz.minLow;refine⟨mzP u,hu.mz,fun c hc=>?_⟩;exact hm (mzP c) (List.mem_reverse.2 (List.mem_map_of_mem hc))
theorem Cvx.maxLow {cs:List (Int×Int)} (h:Cvx cs):∃u,LowV cs u∧∀c∈cs,c.1≤u.1:=by
 obtain⟨u,hu,hm⟩:=h.ng.minUp;refine⟨ngP u,?_,fun c hc=>?_⟩
 ·have:=UpV.ng.1 hu
  rwa [List.map_map,show ngP ∘ ngP=id from funext zaT,List.map_id]at this
 ·have:=hm (ngP c) (List.mem_map_of_mem hc)
  unfold ngP at *;dsimp only at *;omega
theorem Cvx.maxUp {cs:List (Int×Int)} (h:Cvx cs):∃u,UpV cs u∧∀c∈cs,c.1≤u.1:=by
 obtain⟨u,hu,hm⟩:=h.ng.minLow;refine⟨ngP u,UpV.ng.2 (by rw [zaT];exact hu),fun c hc=>?_⟩;have:=hm (ngP c) (List.mem_map_of_mem hc);unfold ngP at *;dsimp only at *;omega
theorem Rise.ends {l:List (Int×Int)} (h:Rise l) (hne:l≠[]):(∃q∈l,q.1=lineL l)∧(∃q∈l,q.1=lineR l)∧∀q∈l,lineL l≤q.1∧q.1≤lineR l:=by
 have hl:=List.length_pos_iff.2 hne;have hp:=List.pairwise_iff_getElem.1 h;have e0:lineL l=(l[0]'hl).1:=by unfold lineL;rw [gD,gE hl];rfl
 have e1:lineR l=(l[l.length-1]'(by omega)).1:=by unfold lineR;rw [gD,gE (by omega)];rfl
 refine⟨⟨_,List.getElem_mem hl,e0.symm⟩,⟨_,List.getElem_mem (by omega),e1.symm⟩,fun q hq=>?_⟩;obtain⟨i,hi,rfl⟩:=List.getElem_of_mem hq;rw [e0,e1]
 constructor
 ·rcases Nat.eq_zero_or_pos i with rfl|hi0
  ·exact Int.le_refl _
  ·have:=hp 0 i hl hi hi0;omega
 ·rcases Nat.lt_or_ge i (l.length-1)with h9|h9
  ·have:=hp i (l.length-1) hi (by omega) h9;omega
  ·have:i=l.length-1:=by omega
   subst this;exact Int.le_refl _
theorem UpV.mem {cs:List (Int×Int)} {q:Int×Int} (h:UpV cs q):q∈cs:=by
 obtain⟨u,v,⟨he,_⟩,rfl|rfl⟩:=h
 ·exact he.mem.1
 ·exact he.mem.2
theorem zag {p:Pl} (h:placedOk p=true):lineL (upP2 p)=lineL (lowP2 p)∧lineR (upP2 p)=lineR (lowP2 p)∧lineL (lowP2 p)<lineR (lowP2 p)∧lowP2 p≠[]∧upP2 p≠[]:=by
 have hc:=zaU h;obtain⟨r1,m1,d1⟩:=zar h;obtain⟨r2,m2,d2⟩:=zaJ h;obtain⟨a,ha,hamin⟩:=hc.minLow;obtain⟨b,hb,hbmin⟩:=hc.minUp;obtain⟨c,hcl,hcmax⟩:=hc.maxLow;obtain⟨d,hd,hdmax⟩:=hc.maxUp;have n1:lowP2 p≠[]:=fun e=>by have:=(m1 a).2 ha;rw [e]at this;cases this
 have n2:upP2 p≠[]:=fun e=>by have:=(m2 b).2 hb;rw [e]at this;cases this
 obtain⟨⟨q1,hq1,e1⟩,⟨q2,hq2,e2⟩,f1⟩:=r1.ends n1;obtain⟨⟨q3,hq3,e3⟩,⟨q4,hq4,e4⟩,f2⟩:=r2.ends n2;have g1:=f1 a ((m1 a).2 ha);have g2:=f2 b ((m2 b).2 hb);have g3:=f1 c ((m1 c).2 hcl);have g4:=f2 d ((m2 d).2 hd);have k1:=hamin q3 ((m2 q3).1 hq3).mem;have k2:=hbmin q1 ((m1 q1).1 hq1).mem;have k3:=hcmax q4 ((m2 q4).1 hq4).mem;have k4:=hdmax q2 ((m1 q2).1 hq2).mem;have k5:=hamin q1 ((m1 q1).1 hq1).mem;have k6:=hbmin q3 ((m2 q3).1 hq3).mem;have k7:=hcmax q2 ((m1 q2).1 hq2).mem;have k8:=hdmax q4 ((m2 q4).1 hq4).mem;refine⟨by omega,by omega,?_,n1,n2⟩;obtain⟨u,v,⟨he,hx⟩,_⟩:=ha;have hu:=f1 u ((m1 u).2 ⟨u,v,⟨he,hx⟩,.inl rfl⟩);have hv:=f1 v ((m1 v).2 ⟨u,v,⟨he,hx⟩,.inr rfl⟩);omega
theorem zeX {p:Pl} (h:placedOk p=true) {k:Int} (h1:lineL (lowP2 p)≤k) (h2:k<lineR (lowP2 p)):atR (lowP2 p) (xh k)<atR (upP2 p) (xh k):=by
 have hc:=zaU h;obtain⟨s1,s2,_,n1,n2⟩:=zag h;obtain⟨_,_,d1⟩:=zar h;obtain⟨_,_,d2⟩:=zaJ h;obtain⟨⟨a,b⟩,he,a1,a2,e1⟩:=zbC n1 h1 h2;obtain⟨⟨d,c⟩,hf,b1,b2,e2⟩:=zbC n2 (by rw [s1];exact h1) (by rw [s2];exact h2);obtain⟨hE,hab⟩:=d1 _ he;obtain⟨hF,hcd⟩:=d2 _ hf;dsimp only at a1 a2 b1 b2 hE hab hF hcd;rw [e1,e2];have c0:=hc.left0 hE hF.mem.1;have c1:=hc.left0 hE hF.mem.2
 have hpos:0<trn a b c∨0<trn a b d:=by
  apply Classical.byContradiction
  intro hn;have z0:trn a b c=0:=by omega
  have z1:trn a b d=0:=by omega
  have hca:c=a∨c=b:=by
   apply Classical.byContradiction
   intro h9;have:=hc.left a b hE c hF.mem.1 (fun e=>h9 (.inl e)) (fun e=>h9 (.inr e));omega
  have hda:d=a∨d=b:=by
   apply Classical.byContradiction
   intro h9;have:=hc.left a b hE d hF.mem.2 (fun e=>h9 (.inl e)) (fun e=>h9 (.inr e));omega
  rcases hca with rfl|rfl
  ·omega
  ·rcases hda with rfl|rfl
   ·obtain⟨q,hq,h8,h9⟩:=third hc d c
    have w1:=hc.left d c hE q hq h8 h9;have w2:=hc.left c d hF q hq h9 h8;have:trn d c q+trn c d q=0:=by unfold trn;grind
    omega
   ·omega
 refine zfQ (p:=2*(b.1-a.1)) (q:=2*(c.1-d.1)) (by omega) (by omega) (zgK k (a,b) (by dsimp only;omega)) (zgK k (d,c) (by dsimp only;omega)) ?_;dsimp only
 have e:(2*(c.1-d.1)*d.2+(2*k+1-2*d.1)*(c.2-d.2))*(2*(b.1-a.1))-(2*(b.1-a.1)*a.2+(2*k+1-2*a.1)*(b.2-a.2))*(2*(c.1-d.1))=2*((2*k+1-2*d.1)*trn a b c+(2*c.1-(2*k+1))*trn a b d):=by
  unfold trn
  grind
 have p1:0≤(2*k+1-2*d.1)*trn a b c:=Int.mul_nonneg (by omega) c0;have p2:0≤(2*c.1-(2*k+1))*trn a b d:=Int.mul_nonneg (by omega) c1
 rcases hpos with hp|hp
 ·have:=Int.mul_pos (show 0<2*k+1-2*d.1 by omega) hp
  omega
 ·have:=Int.mul_pos (show 0<2*c.1-(2*k+1) by omega) hp
  omega
end
section
open Go.RowKit Go.Shelf Go.Sort Go.Lib
theorem znA (m k:Int):(m:Rat)≤xh k ↔ m≤k:=by
 have h2:(0:Rat)≤2:=by decide
 have e2:(m:Rat)*2=((m*2:Int):Rat):=by rw [Rat.intCast_mul];rfl
 constructor
 ·intro h
  have:=Rat.mul_le_mul_of_nonneg_right h h2;rw [zhz,e2,Rat.intCast_le_intCast]at this;omega
 ·intro h
  refine Rat.not_lt.1 fun hlt=>?_
  have:=Rat.mul_le_mul_of_nonneg_right (Rat.le_of_lt hlt) h2;rw [zhz,e2,Rat.intCast_le_intCast]at this;omega
theorem zgL (a b:Int×Int):atE (a.1:Rat) (a,b)=(a.2:Rat):=by
 unfold atE;dsimp only;rw [Rat.sub_self,Rat.zero_mul,Rat.div_def,Rat.zero_mul,Rat.add_zero]
theorem zfo (a b:Int×Int) (h:a.1<b.1):atE (b.1:Rat) (a,b)=(b.2:Rat):=by
 have hw:((b.1-a.1:Int):Rat)≠0:=by
  intro h0;have:(b.1-a.1:Int)=0:=by exact_mod_cast h0
  omega
 unfold atE;dsimp only
 generalize hq:(((b.1:Int):Rat)-((a.1:Int):Rat))*((b.2-a.2:Int):Rat) / ((b.1-a.1:Int):Rat)=q
 have hqw:q*((b.1-a.1:Int):Rat)=(((b.1:Int):Rat)-((a.1:Int):Rat))*((b.2-a.2:Int):Rat):=by rw [←hq,Rat.div_mul_cancel hw]
 rw [←Rat.intCast_sub,Rat.mul_comm]at hqw
 have:q=((b.2-a.2:Int):Rat):=by
  have h9:(q-((b.2-a.2:Int):Rat))*((b.1-a.1:Int):Rat)=0:=by grind
  rcases Rat.mul_eq_zero.1 h9 with h9|h9
  ·grind
  ·exact absurd h9 hw
 rw [this,Rat.intCast_sub]
 grind
theorem ziv (x:Rat) (a b:Int×Int) (ha:((a.1:Int):Rat)≤x) (hb:x≤((b.1:Int):Rat)):∀(l:List (Int×Int)),Rise l→(a,b)∈eds l→∃e,(eds l).find? (xLe x)=G e∧atE x e=atE x (a,b)
 | [],_,h=>by simp [eds]at h
 | [c],_,h=>by simp [eds]at h
 | c::d::r,hR,h=>by
  have e:eds (c::d::r)=(c,d)::eds (d::r):=rfl
  have hx:xLe x (c,d)=decide (x≤((d.1:Int):Rat)):=by
   unfold xLe;rw [decide_eq_decide,zcC]
  obtain⟨hc,hR2⟩:=List.pairwise_cons.1 hR;rw [e]at h ⊢;rw [List.find?_cons,hx]
  rcases List.mem_cons.1 h with h|h
  ·cases h
   rw [decide_eq_true hb];exact⟨_,rfl,rfl⟩
  ·by_cases hd:x≤((d.1:Int):Rat)
   ·rw [decide_eq_true hd]
    refine⟨_,rfl,?_⟩;have ham:=(Rise.between hR2 h).1
    have hle:d.1≤a.1:=by
     rcases List.mem_cons.1 ham with hq|hq
     ·dsimp only at hq;rw [hq];exact Int.le_refl _
     ·have:=(List.pairwise_cons.1 hR2).1 _ hq;dsimp only at this;omega
    have hge:a.1≤d.1:=by
     have:=Rat.le_trans ha hd;exact Rat.intCast_le_intCast.1 this
    have had:a=d:=by
     rcases List.mem_cons.1 ham with hq|hq
     ·exact hq
     ·have:=(List.pairwise_cons.1 hR2).1 _ hq;dsimp only at this;omega
    subst had;have hxa:x=((a.1:Int):Rat):=Rat.le_antisymm hd ha;rw [hxa,zgL,zfo _ _ (hc a (by simp))]
   ·rw [decide_eq_false hd]
    exact ziv x a b ha hb (d::r) hR2 h
theorem zcL {x:Rat} {l:List (Int×Int)} (hR:Rise l) {e:Edg} (he:e∈eds l) (ha:((e.1.1:Int):Rat)≤x) (hb:x≤((e.2.1:Int):Rat)):atR l x=atE x e:=by
 obtain⟨f,h1,h2⟩:=ziv x e.1 e.2 ha hb l hR he;unfold atR;rw [h1];exact h2
theorem za1 (e:Edg) (s t x:Rat):(t-s)*atE x e=(t-x)*atE s e+(x-s)*atE t e:=by
 unfold atE;simp only [Rat.div_def]
 grind
theorem zfz {zs:List Int} {z:Int} (h:z∈zs):z∈compact zs:=by
 obtain⟨i,hi,rfl⟩:=List.getElem_of_mem h;have hg:∀j,(hj:j<zs.length)→zs.toArray[j]! = zs[j]:=fun j hj=>by rw [getElem!_pos _ _ (by simpa using hj)];simp
 have key:∀i,(hi:i<zs.length)→∃j,j<zs.length∧keeps zs.toArray j=true∧zs.toArray[j]! = zs[i]:=by
  intro i
  induction i with
  | zero=>intro hi;exact⟨0,hi,by simp [keeps],hg 0 hi⟩
  | succ i ih =>
   intro hi
   cases hk:keeps zs.toArray (i+1)with
   | true=>exact⟨i+1,hi,hk,hg _ hi⟩
   | false =>
    obtain⟨j,h1,h2,h3⟩:=ih (by omega);refine⟨j,h1,h2,?_⟩;rw [h3,←hg _ hi,←hg i (by omega)];simp [keeps]at hk
    grind
 obtain⟨j,h1,h2,h3⟩:=key i hi;unfold compact compactUpTo;refine List.mem_map.2 ⟨j,List.mem_filter.2 ⟨List.mem_range.2 h1,h2⟩,h3⟩
theorem zfh {s:Sp} {z:Int} (h:z=s.lo∨z=s.hi∨(s.lo<z∧z<s.hi∧∃q∈s.over++s.under,q.1=z)):(z:Rat)∈stopsR s:=by
 unfold stopsR stopsZ;refine List.mem_map_of_mem (zfz (isort_mem.2 ?_))
 rcases h with rfl|rfl|⟨h1,h2,q,hq,rfl⟩
 ·simp
 ·simp
 ·refine mC _ (mC _ ?_)
  unfold midP;refine List.mem_filter.2 ⟨List.mem_map_of_mem hq,?_⟩;unfold inP;simp [h1,h2]
theorem zj9 {q:Rat} (h:0≤q.num.sign):0≤q:=by
 have:0≤q.num:=Int.sign_nonneg_iff.1 h;exact Rat.num_nonneg.1 this
theorem zfx {L U:List (Int×Int)} (rL:Rise L) (rU:Rise U) (nL:L≠[]) (nU:U≠[]) (h:0≤(leastR (btw L U)).2.num.sign) {k:Int} (h1:(btw L U).lo≤k) (h2:k<(btw L U).hi):atR U (xh k)≤atR L (xh k):=by
 have h0:=zj9 h;have u1:lineL L≤k∧lineL U≤k:=by unfold btw at h1;dsimp only at h1;omega
 have u2:k<lineR L∧k<lineR U:=by unfold btw at h2;dsimp only at h2;omega
 obtain⟨e,he,a1,a2,_⟩:=zbC nL u1.1 u2.1;obtain⟨f,hf,b1,b2,_⟩:=zbC nU u1.2 u2.2;have me:=rL.between he;have mf:=rU.between hf;obtain⟨s,hs⟩:∃s,s=max (btw L U).lo (max e.1.1 f.1.1):=⟨_,rfl⟩;obtain⟨t,ht⟩:∃t,t=min (btw L U).hi (min e.2.1 f.2.1):=⟨_,rfl⟩
 have ms:(s:Rat)∈stopsR (btw L U):=by
  refine zfh ?_
  by_cases c1:s=(btw L U).lo
  ·exact .inl c1
  ·refine .inr (.inr ⟨by omega,by omega,?_⟩)
   by_cases c2:s=e.1.1
   ·exact⟨e.1,List.mem_append.2 (.inl me.1),c2.symm⟩
   ·exact⟨f.1,List.mem_append.2 (.inr mf.1),by omega⟩
 have mt:(t:Rat)∈stopsR (btw L U):=by
  refine zfh ?_
  by_cases c1:t=(btw L U).hi
  ·exact .inr (.inl c1)
  ·refine .inr (.inr ⟨by omega,by omega,?_⟩)
   by_cases c2:t=e.2.1
   ·exact⟨e.2,List.mem_append.2 (.inl me.2.1),c2.symm⟩
   ·exact⟨f.2,List.mem_append.2 (.inr mf.2.1),by omega⟩
 have gs:0≤gapR (btw L U) (s:Rat):=Rat.le_trans h0 (zdj _ _ ms);have gt:0≤gapR (btw L U) (t:Rat):=Rat.le_trans h0 (zdj _ _ mt);have xs:(s:Rat)≤xh k:=(znA s k).2 (by omega);have xt:xh k≤(t:Rat):=(znl k t).2 (by omega);have st:(s:Rat)<(t:Rat):=Rat.intCast_lt_intCast.2 (by omega);have es1:((e.1.1:Int):Rat)≤(s:Rat):=Rat.intCast_le_intCast.2 (by omega);have fs1:((f.1.1:Int):Rat)≤(s:Rat):=Rat.intCast_le_intCast.2 (by omega);have et1:(t:Rat)≤((e.2.1:Int):Rat):=Rat.intCast_le_intCast.2 (by omega);have ft1:(t:Rat)≤((f.2.1:Int):Rat):=Rat.intCast_le_intCast.2 (by omega)
 have on:∀x:Rat,(s:Rat)≤x→x≤(t:Rat)→atR L x=atE x e∧atR U x=atE x f:=fun x c1 c2 =>
  ⟨zcL rL he (Rat.le_trans es1 c1) (Rat.le_trans c2 et1),zcL rU hf (Rat.le_trans fs1 c1) (Rat.le_trans c2 ft1)⟩
 unfold gapR btw at gs gt;dsimp only at gs gt;rw [(on _ Rat.le_refl (Rat.le_of_lt st)).1,(on _ Rat.le_refl (Rat.le_of_lt st)).2]at gs;rw [(on _ (Rat.le_of_lt st) Rat.le_refl).1,(on _ (Rat.le_of_lt st) Rat.le_refl).2]at gt;rw [(on _ xs xt).1,(on _ xs xt).2];have q1:=za1 e s t (xh k);have q2:=za1 f s t (xh k)
 generalize atE (xh k) e=E0 at *
 generalize atE (xh k) f=F0 at *
 generalize atE (s:Rat) e=E1 at *
 generalize atE (s:Rat) f=F1 at *
 generalize atE (t:Rat) e=E2 at *
 generalize atE (t:Rat) f=F2 at *
 generalize (s:Rat)=s' at *
 generalize (t:Rat)=t' at *
 generalize xh k=x at *
 refine Rat.not_lt.1 fun hlt=>?_
 have p1:0≤(t'-x)*(E1-F1):=Rat.mul_nonneg (by grind) gs;have p2:0≤(x-s')*(E2-F2):=Rat.mul_nonneg (by grind) gt;have p3:0<(t'-s')*(F0-E0):=Rat.mul_pos (by grind) (by grind)
 grind
end
section
open Go.RowKit Go.Shelf
attribute [local go_sem] Oper.semAt_some
def RetRc (w:F) (o:Option (Rat×Rat)) (e:Ending) (w':F):Prop:=Ext w w'∧∃r1 r2,IsR w' r1 (o.getD (0,0)).1∧IsR w' r2 (o.getD (0,0)).2∧e = .returned (.tuple #[r1,r2,J o.isSome])
theorem zjM {k:Nat} {pin:Int} (h:Bd 104000 pin) (hk:1≤k):Rb k (pin:Rat):=(zaL h).up hk
theorem zlb (w:F) (v1 v2:H) (s:Sp) (pin:Int) (h1:IsPts w v1 s.over) (h2:IsPts w v2 s.under) (hok:SpOk s) (hp:Bd 104000 pin) (hno:reachNo s pin=true) :
  Calls Tryz.prog 108 #[spc s v1 v2,C N pin] w (RetRc w (reachP s pin)):=by
 have HS:=hd9 (fun(W:F) (hW:Ext w W)=>zce W v1 v2 s (h1.ext' hW) (h2.ext' hW) hok);obtain⟨a1,m1,rfl⟩:=h1.form;obtain⟨a2,m2,rfl⟩:=h2.form;obtain⟨n1,f1⟩:=gX s.over.length;obtain⟨n2,f2⟩:=gX s.under.length;obtain⟨lo,elo⟩:=gX s.lo;obtain⟨hi,ehi⟩:=gX s.hi;have Hb2:=hd9 (show Rb 23 (leastR s).2 by obtain⟨j1,j2⟩:=zax (gapR s) (zaD s);unfold leastR;rw [j2];exact Rb.gap (zak hok _ j1) hok);have Hp:=hd9 hp;have hp1 : -9223372036854775808≤pin:=by unfold Bd at hp;omega
 have hp2:pin≤9223372036854775807:=by unfold Bd at hp;omega
 have HC:=hd9 (fun(W:F) (va vb:H) (ha:IsR W va (leastR s).2) (hb:IsR W vb (pin:Rat))=>zao W va vb _ _ ha hb (zai Hb2.out (by omega)) (zai (zjM (k:=1) Hp.out (by omega)) (by omega)));have hR:reachP s pin=I:=by unfold reachP;rw [if_pos hno]
 rw [hR];unfold reachNo at hno;obtain⟨q1,hq1⟩:=gX ((leastR s).1);obtain⟨q2,hq2⟩:=gX ((leastR s).2);unfold spc at HS ⊢;rw [hq2]at hno HC Hb2;rw [hq1,hq2]at HS;simp only [f1,f2,elo,ehi]at HS ⊢;clear h1 h2 hok f1 f2 elo ehi hR hq1 hq2 hp;go_enter Tryz.func108,Tryz.ntmps108
 go_wp2_with(((go_at_call 54;(with_reducible refine(HS.out _ ?_).mono ?_);exact eA;rintro e w1 ⟨r1,r2,rfl,hr1,hr2,hx1⟩;obtain⟨a4,m4,c4,s4,b4,n4,k4,rfl⟩:=hr1.form;obtain⟨a5,m5,c5,s5,b5,n5,k5,rfl⟩:=hr2.form;obtain⟨⟨hc1,hf1⟩,z1_0,z1_1,z1_2⟩:=cK3 w hx1)))
 obtain⟨W8,hW8⟩:=gX (((w1.alloc (Oa #[O a4 m4 c4,J s4,O b4 n4 k4] 65)).alloc (Oa #[O a5 m5 c5,J s5,O b5 n5 k5] 65)));have hX18:Ext w1 W8:=by rw [←hW8];exact((eR _).alloc _).alloc _
 have hX8:Ext w W8:=(((((eR w).alloc _).alloc _).alloc _).trans hx1).trans hX18;have g1:RB W8 w1.heap.size q1:=by rw [←hW8];exact(RB.new hr1 rfl).ext ((eR _).alloc _)
 have g2:RB W8 (w1.heap.size+1) q2:=by rw [←hW8];exact RB.new (hr2.ext ((eR _).alloc _)) (by simp)
 have g3:RB W8 (w.heap.size+1) 0:=(((RB.new (IsR.zero _) (by simp)).ext ((eR _).alloc _)).ext hx1).ext hX18;have g4:RB W8 (w.heap.size+1+1) 0:=((RB.new (IsR.zero _) (by simp)).ext hx1).ext hX18;have zW:w1.heap.size+1<W8.heap.size:=by rw [←hW8];simp
 have g20:=qcB (show W8.heap[w1.heap.size+1]?=G (Oa #[O a5 m5 c5,J s5,O b5 n5 k5] 65 (0,0)) by rw [←hW8];exact qhA _ _ _ (by simp)) (i:=0) (u:=O a5 m5 c5) rfl;have g21:=qcB (show W8.heap[w1.heap.size+1]?=G (Oa #[O a5 m5 c5,J s5,O b5 n5 k5] 65 (0,0)) by rw [←hW8];exact qhA _ _ _ (by simp)) (i:=1) (u:=J s5) rfl;have g22:=qcB (show W8.heap[w1.heap.size+1]?=G (Oa #[O a5 m5 c5,J s5,O b5 n5 k5] 65 (0,0)) by rw [←hW8];exact qhA _ _ _ (by simp)) (i:=2) (u:=O b5 n5 k5) rfl;have HX:=hd9 hX18;have HX8:=hd9 hX8;rw [hW8];obtain⟨s1,hs1⟩:=gX w1.heap.size;simp only [hs1]at *;clear hW8 hc1 hf1 hx1 hX18 hX8 HS hs1;obtain⟨k,hk⟩:=gX q2.num.sign;have HSg:=hd9 (fun(W:F) (v:H) (h:IsR W v q2)=>hk▸zbz W v q2 h);rw [hk]at hno;clear hk
 by_cases hneg:k<0
 ·have hd:decide (k<0)=true:=by simp [hneg]
  refine wp_region_held_drew (S:=CellL [(⟨s1+1,0,I⟩,O a5 m5 c5),(⟨s1+1,1,I⟩,J s5),(⟨s1+1,2,I⟩,O b5 n5 k5)]) (by kernel_rfl) cA (fun h9H=>?_);refine tk1 (i:=0) ?_;refine cl1 (i:=1) fun K hK=>?_
  go_simp
  (with_reducible refine cM (HSg.out _ _ (hr2.ext (Ext.trans HX.out eA))) ?_)
  rintro e w3 ⟨rfl,hx3⟩
  skip
  go_wp2_with fail
  refine kO hK (cE h9H hx3) (fun h9H=>?_);clear hK K;refine sN 2 ?_
  iterate 2
   refine tkn ?_
  iterate 5
   refine tkgn ?_
  refine tkn ?_;refine oN ?_;refine wpAnyH_done (by kernel_rfl) ?_ _;go_wp2;have X3:Ext W8 w3:=((eR W8).drew).trans hx3;have g3':=g3.ext X3;have g4':=g4.ext X3;obtain⟨pa,pm,pc1,ps,pa2,pm2,pc2,p0,p1,p2,pf0,pf1,pf2,pz,hp3⟩:=g3'.rd;obtain⟨ea,em,ec,es,ea2,em2,ec2,e0,e1,e2,ef0,ef1,ef2,ez,hp4⟩:=g4'.rd;refine zaQ (fun i=>decide (2<i)) (CellL [(⟨w.heap.size+1,0,I⟩,O pa pm pc1),(⟨w.heap.size+1,1,I⟩,J ps),(⟨w.heap.size+1,2,I⟩,O pa2 pm2 pc2),(⟨w.heap.size+1+1,0,I⟩,O ea em ec),(⟨w.heap.size+1+1,1,I⟩,J es),(⟨w.heap.size+1+1,2,I⟩,O ea2 em2 ec2)]) (by kernel_rfl) ?_ (fun h9H=>?_)
  ·exact cA
  refine sN 0 ?_
  iterate 2
   refine tun ?_
  refine oN ?_;refine cu1 (i:=2) fun K hK=>?_
  go_simp;refine kO hK (fun _=>?_) (fun h9H=>?_)
  ·exact cA
  clear hK K;have h9H:=h9H rfl;refine cu1 (i:=3) fun K hK=>?_
  go_simp;refine kO hK (fun h=>nomatch h) (fun h9H=>?_);clear hK K;refine cu1 (i:=4) fun K hK=>?_
  go_simp;refine kO hK (fun h=>nomatch h) (fun h9H=>?_);clear hK K;refine doneHU (by kernel_rfl) ?_ _;go_wp2;refine bR (v:=.tuple #[R #[O pa pm pc1,J ps,O pa2 pm2 pc2],R #[O ea em ec,J es,O ea2 em2 ec2],J false]) (by simp [results,Tryz.results108,go_sem,p0,p1,p2,pf0,pf1,pf2,e0,e1,e2,ef0,ef1,ef2]) rfl ?_;obtain⟨P1,P2,P3,P4,P5,P6⟩:=RB.copy2 g3' g4' (by omega) hp3 hp4 rfl rfl;refine⟨(P6 w (HX8.out.trans X3) (by omega) (by omega)).drew,R #[O pa pm pc1,J ps,O pa2 pm2 pc2],R #[O ea em ec,J es,O ea2 em2 ec2],?_,?_,rfl⟩
  ·exact(hp3.keep P4).ext (eR _).drew
  ·exact(hp4.keep P4).ext (eR _).drew
 ·have hd:decide (k<0)=false:=by simp [hneg]
  rw [hd,Bool.false_or]at hno;obtain⟨c,hc⟩:=gX (rcmp q2 (pin:Rat));rw [hc]at hno HC;clear hc;have hc0:0<c:=by simpa using hno
  refine wp_region_held_drew (S:=CellL [(⟨s1+1,0,I⟩,O a5 m5 c5),(⟨s1+1,1,I⟩,J s5),(⟨s1+1,2,I⟩,O b5 n5 k5)]) (by kernel_rfl) cA (fun h9H=>?_);have E0:Ext w1 W8.drew:=HX.out.trans (eR W8).drew;refine tk1 (i:=0) ?_;refine cl1 (i:=1) fun K hK=>?_
  go_simp
  (with_reducible refine cM (HSg.out _ _ (hr2.ext E0)) ?_)
  rintro e w3 ⟨rfl,hx3⟩
  skip
  go_wp2_with fail
  refine kO hK (cE h9H hx3) (fun h9H=>?_);clear hK K;refine sN 2 ?_
  iterate 4
   refine tkn ?_
  refine oN ?_;refine cl1 (i:=6) fun K hK=>?_
  go_simp
  (with_reducible refine cM (zaI _ pin hp1 hp2) ?_)
  rintro e w4 ⟨r4,rfl,hr4,hx4⟩;obtain⟨a6,m6,c6,s6,b6,n6,k6,rfl⟩:=hr4.form
  go_wp2_with fail
  refine kO hK (cE h9H hx4) (fun h9H=>?_);clear hK K;refine cl1 (i:=7) fun K hK=>?_
  go_simp
  (with_reducible refine cM (HC.out _ _ _ (hr2.ext (E0.trans (hx3.trans hx4))) hr4) ?_)
  rintro e w5 ⟨rfl,hx5⟩
  skip
  go_wp2_with fail
  refine kO hK (cE h9H hx5) (fun h9H=>?_);clear hK K;refine sN 8 ?_
  iterate 2
   refine tkn ?_
  refine oN ?_;refine wpAnyH_done (by kernel_rfl) ?_ _;have X3:Ext W8 w5:=((eR W8).drew).trans (hx3.trans (hx4.trans hx5));have g3':=g3.ext X3;have g4':=g4.ext X3;go_wp2;obtain⟨pa,pm,pc1,ps,pa2,pm2,pc2,p0,p1,p2,pf0,pf1,pf2,pz,hp3⟩:=g3'.rd;obtain⟨ea,em,ec,es,ea2,em2,ec2,e0,e1,e2,ef0,ef1,ef2,ez,hp4⟩:=g4'.rd;refine zaQ (fun i=>decide (2<i)) (CellL [(⟨w.heap.size+1,0,I⟩,O pa pm pc1),(⟨w.heap.size+1,1,I⟩,J ps),(⟨w.heap.size+1,2,I⟩,O pa2 pm2 pc2),(⟨w.heap.size+1+1,0,I⟩,O ea em ec),(⟨w.heap.size+1+1,1,I⟩,J es),(⟨w.heap.size+1+1,2,I⟩,O ea2 em2 ec2)]) (by kernel_rfl) ?_ (fun h9H=>?_)
  ·exact cA
  refine sN 0 ?_
  iterate 2
   refine tun ?_
  refine oN ?_;refine cu1 (i:=2) fun K hK=>?_
  go_simp;refine kO hK (fun _=>?_) (fun h9H=>?_)
  ·exact cA
  clear hK K;have h9H:=h9H rfl;refine cu1 (i:=3) fun K hK=>?_
  go_simp;refine kO hK (fun h=>nomatch h) (fun h9H=>?_);clear hK K;refine cu1 (i:=4) fun K hK=>?_
  go_simp;refine kO hK (fun h=>nomatch h) (fun h9H=>?_);clear hK K;refine doneHU (by kernel_rfl) ?_ _;go_wp2;refine bR (v:=.tuple #[R #[O pa pm pc1,J ps,O pa2 pm2 pc2],R #[O ea em ec,J es,O ea2 em2 ec2],J false]) (by simp [results,Tryz.results108,go_sem,p0,p1,p2,pf0,pf1,pf2,e0,e1,e2,ef0,ef1,ef2]) rfl ?_;obtain⟨P1,P2,P3,P4,P5,P6⟩:=RB.copy2 g3' g4' (by omega) hp3 hp4 rfl rfl;refine⟨(P6 w (HX8.out.trans X3) (by omega) (by omega)).drew,R #[O pa pm pc1,J ps,O pa2 pm2 pc2],R #[O ea em ec,J es,O ea2 em2 ec2],?_,?_,rfl⟩
  ·exact(hp3.keep P4).ext (eR _).drew
  ·exact(hp4.keep P4).ext (eR _).drew
def RcI (w:F) (s:Sp) (v1 v2 vq:H) (pin:Int) (qs:List Rat) (o:Rat×Rat) (g:Nat) (t38:H) (W:F):Prop:=
 ∃i:Nat,i≤qs.length∧t38=C N i∧g=qs.length-i∧RcW w s v1 v2 vq qs (reachN (pinG s pin) qs o i) W
theorem zgf {w W W1 W2:F} {o:Obj} {p p1 p2:Rat} {a a2:Option Addr} {m c m2 c2:Nat} {s:Bool} (hX:Ext w W) (hs:w.heap.size+1+1+1≤W.heap.size) (K:W.heap[w.heap.size]?=G o) (h1:RB W (w.heap.size+1) p1) (h2:RB W (w.heap.size+1+1) p2)
  (hz:IsR W (R #[O a m c,J s,O a2 m2 c2]) p)
  (hW1:((W.setCell ⟨w.heap.size+1,0,I⟩ (O a m c)).setCell ⟨w.heap.size+1,1,I⟩ (J s)).setCell ⟨w.heap.size+1,2,I⟩ (O a2 m2 c2)=W1)
  (hW2:((W1.setCell ⟨w.heap.size+1+1,0,I⟩ (O a m c)).setCell ⟨w.heap.size+1+1,1,I⟩ (J s)).setCell ⟨w.heap.size+1+1,2,I⟩ (O a2 m2 c2)=W2) :
  Ext w W2.drew∧w.heap.size+1+1+1≤W2.drew.heap.size∧W2.drew.heap[w.heap.size]?=G o∧RB W2.drew (w.heap.size+1) p∧RB W2.drew (w.heap.size+1+1) p:=by
 obtain⟨P1,P2,P3,P4,P5,P6⟩:=RB.copy2 h1 h2 (by omega) hz hz hW1 hW2;have hd:Ext W2 W2.drew:=(eR _).drew;refine⟨(P6 w hX (by omega) (by omega)).drew,nT (by omega) hd.size,hd.heapS ?_,P1.ext hd,P2.ext hd⟩;rw [←hW2,←hW1]
 repeat rw [bS _ _ _ _ (by dsimp only;omega)]
 exact K
theorem RcW.box {w:F} {s:Sp} {v1 v2 vq:H} {qs:List Rat} {o:Rat×Rat} {W:F} (h:RcW w s v1 v2 vq qs o W) {a a2:Option Addr} {m c m2 c2 b:Nat} {s1:Bool} {p p0:Rat}
  (hb:w.heap.size+1+1+1≤b) (hv:vq.ownBlock≠G b) (hB:RB W b p0) (hz:IsR W (R #[O a m c,J s1,O a2 m2 c2]) p) {W1:F}
  (hW1:((W.setCell ⟨b,0,I⟩ (O a m c)).setCell ⟨b,1,I⟩ (J s1)).setCell ⟨b,2,I⟩ (O a2 m2 c2)=W1) :
  RcW w s v1 v2 vq qs o W1∧RB W1 b p∧(∀b' r,b'≠b→RB W b' r→RB W1 b' r)∧W1.heap.size=W.heap.size:=by
 obtain⟨h1,h2,h3,h4,h5,h6⟩:=h;have n0:=hB.not;have n1:=n0.set ⟨b,0,I⟩ (O a m c);have n2:=n1.set ⟨b,1,I⟩ (J s1)
 have hk:∀b' r,b'≠b→RB W b' r→RB W1 b' r:=fun b' r hne hr=>by
  rw [←hW1];exact((hr.other (Ne.symm hne) n0 _).other (Ne.symm hne) n1 _).other (Ne.symm hne) n2 _
 have hset:∀(V:F) (u:H) (q:Addr),q.block=b→OwnR V (w.heap.size+1+1+1) vq qs→NoT 2 V b→OwnR (V.setCell q u) (w.heap.size+1+1+1) vq qs:=fun V u q hq ho hn=>by
  obtain⟨cs,k1,k2,k3⟩:=ho;exact⟨cs,k1.setOther (by rw [hq];exact hv) _,k2,fun i c q' hc hq'=>IsR.keep (k3 i c q' hc hq') (KeepT.setN (KeepT.refl _ _) (by rw [hq];exact hn) u)⟩
 refine⟨⟨?_,?_,?_,hk _ _ (by omega) h4,hk _ _ (by omega) h5,?_⟩,?_,hk,?_⟩
 ·rw [←hW1];exact((h1.set (by dsimp only;omega) _).set (by dsimp only;omega) _).set (by dsimp only;omega) _
 ·rw [←hW1];simpa using h2
 ·rw [←hW1]
  repeat rw [bS _ _ _ _ (by dsimp only;omega)]
  exact h3
 ·rw [←hW1]
  exact hset _ _ _ rfl (hset _ _ _ rfl (hset _ _ _ rfl h6 n0) n1) n2
 ·rw [←hW1];exact hB.put hz
 ·rw [←hW1];simp
theorem zeL (q:Rat) : -1≤q.num.sign∧q.num.sign≤1:=by
 rcases Int.lt_trichotomy q.num 0 with h|h|h
 ·rw [Int.sign_eq_neg_one_of_neg h];decide
 ·rw [h];decide
 ·rw [Int.sign_eq_one_of_pos h];decide
theorem zmu {f:Rat→Rat} {qs:List Rat} {o:Rat×Rat} {i:Nat} {x:Rat} (hx:qs[i]?=G x) (hn:NoX f qs):reachN f qs o (i+1)=reachStep f (reachN f qs o i) x:=by
 have e:qs.getD i 0=x:=by rw [gD,hx];rfl
 rw [show reachN f qs o (i+1)=if i=0 then reachStep f (reachN f qs o i) (qs.getD i 0)else reachCross f (reachStep f (reachN f qs o i) (qs.getD i 0)) (qs.getD (i-1) 0) (qs.getD i 0)from rfl,e]
 split
 ·rfl
 ·rename_i h0
  obtain⟨j,rfl⟩:∃j,i=j+1:=⟨i-1,by omega⟩;obtain⟨y,hy⟩:∃y,qs[j]?=G y:=⟨qs[j]'(by have:=(lS.1 hx).1;omega),gE _⟩;have e2:qs.getD (j+1-1) 0=y:=by rw [Nat.add_sub_cancel,gD,hy];rfl
  rw [e2];unfold reachCross;rw [if_neg (hn j y x hy hx)]
def Rc1 (w:F) (s:Sp) (v1 v2 vq:H) (qs:List Rat) (o:Rat×Rat) (i:Nat) (x g:Rat) (t10 t11 t12:H) (W:F):Prop:=
 ∃b11 b12,t10=C N (i:Int)∧t11=Ob (G ⟨b11,0,I⟩)∧t12=Ob (G ⟨b12,0,I⟩)∧w.heap.size+1+1+1≤b11∧b11<b12∧b12<W.heap.size∧RcW w s v1 v2 vq qs o W∧RB W b11 x∧RB W b12 g
def Rc2 (w:F) (s:Sp) (v1 v2 vq:H) (qs:List Rat) (o:Rat×Rat) (i:Nat) (x g h:Rat) (t10 t11 t12 t13:H) (W:F):Prop:=
 ∃b13,Rc1 w s v1 v2 vq qs o i x g t10 t11 t12 W∧t13=Ob (G ⟨b13,0,I⟩)∧b13<W.heap.size∧RB W b13 h
theorem zfk {w:F} {s:Sp} {v1 v2 vq:H} {qs:List Rat} {o:Rat×Rat} {W:F} (h:RcW w s v1 v2 vq qs o W) {a a2 e e2:Option Addr} {m c m2 c2 n k n2 k2:Nat} {s1 t:Bool} {p q x g:Rat} {b11 b12 i:Nat}
  (hz1:IsR W (R #[O a m c,J s1,O a2 m2 c2]) p) (hz2:IsR W (R #[O e n k,J t,O e2 n2 k2]) q) (z1:w.heap.size+1+1+1≤b11) (z2:b11<b12) (z3:b12<W.heap.size) (h1:RB W b11 x) (h2:RB W b12 g) {W1 W2:F}
  (hW1:((W.setCell ⟨w.heap.size+1,0,I⟩ (O a m c)).setCell ⟨w.heap.size+1,1,I⟩ (J s1)).setCell ⟨w.heap.size+1,2,I⟩ (O a2 m2 c2)=W1)
  (hW2:((W1.setCell ⟨w.heap.size+1+1,0,I⟩ (O e n k)).setCell ⟨w.heap.size+1+1,1,I⟩ (J t)).setCell ⟨w.heap.size+1+1,2,I⟩ (O e2 n2 k2)=W2) :
  Rc1 w s v1 v2 vq qs (p,q) i x g (C N (i:Int)) (Ob (G ⟨b11,0,I⟩)) (Ob (G ⟨b12,0,I⟩)) W2:=by
 obtain⟨P1,P2,P3⟩:=RcW.put2 h hz1 hz2 hW1 hW2;have hd:Ext W2 W2:=eR _;exact⟨b11,b12,rfl,rfl,rfl,z1,z2,Nat.lt_of_lt_of_le (by omega) hd.size,P1.ext hd,(P3 _ _ (by omega) h1).ext hd,(P3 _ _ (by omega) h2).ext hd⟩
theorem zbV {w:F} {s:Sp} {v1 v2 vq:H} {qs:List Rat} {o:Rat×Rat} {W:F} (h:RcW w s v1 v2 vq qs o W) {a a2:Option Addr} {m c m2 c2:Nat} {s1:Bool} {x g r p0:Rat} {b11 b12 b13 i:Nat}
  (hz:IsR W (R #[O a m c,J s1,O a2 m2 c2]) r) (z1:w.heap.size+1+1+1≤b11) (z2:b11<b12) (z3:b12<b13) (z4:b13<W.heap.size) (h1:RB W b11 x) (h2:RB W b12 g) (h3:RB W b13 p0) (hv:vq.ownBlock≠G b13) {W1:F}
  (hW1:((W.setCell ⟨b13,0,I⟩ (O a m c)).setCell ⟨b13,1,I⟩ (J s1)).setCell ⟨b13,2,I⟩ (O a2 m2 c2)=W1) :
  Rc2 w s v1 v2 vq qs o i x g r (C N (i:Int)) (Ob (G ⟨b11,0,I⟩)) (Ob (G ⟨b12,0,I⟩)) (Ob (G ⟨b13,0,I⟩)) W1:=by
 obtain⟨P1,P2,P3,P4⟩:=RcW.box h (by omega) hv h3 hz hW1;exact⟨b13,⟨b11,b12,rfl,rfl,rfl,z1,z2,by omega,P1,P3 _ _ (by omega) h1,P3 _ _ (by omega) h2⟩,rfl,by omega,P2⟩
end
end Go.Proofs.YtodpfeaihohpjaaGreatDoor.Cop
