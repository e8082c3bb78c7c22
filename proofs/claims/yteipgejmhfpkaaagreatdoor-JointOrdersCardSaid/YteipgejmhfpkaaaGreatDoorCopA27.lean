/- Part 28 of 44: contracts of what the law calls. -/
import Derived.Test.YteipgejmhfpkaaaGreatDoorCopA26
import Derived.Test.YteipgejmhfpkaaaGreatDoorCopA23
import Derived.Test.YteipgejmhfpkaaaGreatDoorCopA06
import Derived.Deep.LoopGhost
import Derived.Deep.CutBlock
import Derived.Deep.DeepCutAuto
set_option maxRecDepth 1000000
set_option maxHeartbeats 16000000
set_option linter.unusedSimpArgs false
set_option linter.unusedVariables false
namespace Go.Proofs.YteipgejmhfpkaaaGreatDoor.Cop
open Go.RowKit Go.Shelf
attribute [local go_sem] Oper.semAt_some
def dirE (e:Edg):Int×Int:=
 ((e.2.1-e.1.1).tdiv (Nat.gcd (e.2.1-e.1.1).natAbs (e.2.2-e.1.2).natAbs:Nat),(e.2.2-e.1.2).tdiv (Nat.gcd (e.2.1-e.1.1).natAbs (e.2.2-e.1.2).natAbs:Nat))
def slopeX (l:Int) (x rt:Rat) (e:Edg):Bool:=
 decide (rcmp x ((e.1.1:Int):Rat)<0) || (decide (rcmp x ((e.1.1:Int):Rat)=0)&&(decide (l<e.1.1)&&decide (0≤rcmp x rt)))
def slopeR (ps:List (Int×Int)) (x rt:Rat):Int×Int:=((eds ps).takeWhile fun e=>!slopeX (lineL ps) x rt e).foldl (fun _ e=>dirE e) (0,0)
def EdOk (e:Edg):Prop:=(Bd 104000 e.1.1∧Bd 104000 e.1.2∧Bd 104000 e.2.1∧Bd 104000 e.2.2)∧e.1.1≤e.2.1∧e.1≠e.2
abbrev BF:={ e:Edg // EdOk e }
def LnUp (ps:List (Int×Int)):Prop:=∀e∈eds ps,e.1.1≤e.2.1∧e.1≠e.2
theorem lit73 (u:Nat→Value):(List.range 73).map u=[u 0,u 1,u 2,u 3,u 4,u 5,u 6,u 7,u 8,u 9,u 10,u 11,u 12,u 13,u 14,u 15,u 16,u 17,u 18,u 19,u 20,u 21,u 22,u 23,u 24,u 25,u 26,u 27,u 28,u 29,u 30,u 31,u 32,u 33,u 34,u 35,u 36,u 37,u 38,u 39,u 40,u 41,u 42,u 43,u 44,u 45,u 46,u 47,u 48,u 49,u 50,u 51,u 52,u 53,u 54,u 55,u 56,u 57,u 58,u 59,u 60,u 61,u 62,u 63,u 64,u 65,u 66,u 67,u 68,u 69,u 70,u 71,u 72]:=rfl
theorem arr73 (t:Array Value) (h:t.size=73) {p3 p4 p5 p7 p8 p9:Value} (h3:t.getD 3 undef=p3) (h4:t.getD 4 undef=p4) (h5:t.getD 5 undef=p5) (h7:t.getD 7 undef=p7) (h8:t.getD 8 undef=p8) (h9:t.getD 9 undef=p9) :
  ∃u:Nat→Value,t=([u 0,u 1,u 2,p3,p4,p5,u 6,p7,p8,p9,u 10,u 11,u 12,u 13,u 14,u 15,u 16,u 17,u 18,u 19,u 20,u 21,u 22,u 23,u 24,u 25,u 26,u 27,u 28,u 29,u 30,u 31,u 32,u 33,u 34,u 35,u 36,u 37,u 38,u 39,u 40,u 41,u 42,u 43,u 44,u 45,u 46,u 47,u 48,u 49,u 50,u 51,u 52,u 53,u 54,u 55,u 56,u 57,u 58,u 59,u 60,u 61,u 62,u 63,u 64,u 65,u 66,u 67,u 68,u 69,u 70,u 71,u 72]:List Value).toArray:=by
 refine⟨fun k=>t.getD k undef,?_⟩;rw [←h3,←h4,←h5,←h7,←h8,←h9];exact(arr_map t 73 h).trans (congrArg List.toArray (lit73 fun k=>t.getD k undef))
def SlA (s:Nat) (e:BF) (a:Act) (W:World):Prop:=
 ∃B,s+1+1+1+1+1+1≤B∧W.heap[B]?=some (.cells #[.int .i64 e.1.1.1,.int .i64 e.1.1.2] 42 (0,0))∧W.heap[B+1]?=some (.cells #[.int .i64 e.1.2.1,.int .i64 e.1.2.2] 42 (0,0)) ∧
  a.tmps.size=73∧a.tmps.getD 3 undef = .pointer (some ⟨s,0,none⟩)∧a.tmps.getD 4 undef = .pointer (some ⟨s+1,0,none⟩)∧a.tmps.getD 5 undef = .pointer (some ⟨s+1+1,0,none⟩)∧a.tmps.getD 7 undef = .pointer (some ⟨s+1+1+1+1,0,none⟩) ∧
  a.tmps.getD 8 undef = .pointer (some ⟨B,0,none⟩)∧a.tmps.getD 9 undef = .pointer (some ⟨B+1,0,none⟩)∧a.defers=[]
def SlW (w:World) (v:Value) (x rt:Rat) (o:Int×Int) (W:World):Prop:=
 Ext w W∧w.heap.size+1+1+1+1+1+1≤W.heap.size∧W.heap[w.heap.size]?=some (.cells #[v] 99 (0,0))∧RB W (w.heap.size+1) x∧RB W (w.heap.size+1+1) rt ∧
  W.heap[w.heap.size+1+1+1]?=some (.cells #[.int .i64 0,.int .i64 0] 42 (0,0))∧W.heap[w.heap.size+1+1+1+1]?=some (.cells #[.int .i64 o.1,.int .i64 o.2] 42 (0,0))
def SlI (w:World) (v:Value) (l:Int) (x rt:Rat) (pre:List BF) (W:World):Prop:=
 SlW w v x rt (pre.foldl (fun _ e=>dirE e.1) (0,0)) W∧∀e∈pre,slopeX l x rt e.1=false
def SlX (w:World) (v:Value) (l:Int) (x rt:Rat) (c:Code) (pre:List BF) (W:World):Prop:=
 c = .exit 0∧∃(p:List BF) (e:BF),pre=p++[e]∧SlW w v x rt (p.foldl (fun _ e=>dirE e.1) (0,0)) W∧(∀e∈p,slopeX l x rt e.1=false)∧slopeX l x rt e.1=true
theorem SlW.ext {w:World} {v:Value} {x rt:Rat} {o:Int×Int} {W W':World} (h:SlW w v x rt o W) (k:Ext W W'):SlW w v x rt o W':=
 ⟨h.1.trans k,Nat.le_trans h.2.1 k.size,k.heapS h.2.2.1,h.2.2.2.1.ext k,h.2.2.2.2.1.ext k,k.heapS h.2.2.2.2.2.1,k.heapS h.2.2.2.2.2.2⟩
theorem SlW.sim {w:World} {v:Value} {x rt:Rat} {o:Int×Int} {W W':World} {B:Nat} (h:SlW w v x rt o W) (k:Sim B W W') (hB:w.heap.size≤B):SlW w v x rt o W':=
 ⟨k.ext h.1 hB,Nat.le_trans h.2.1 k.size,k.heap h.2.2.1,h.2.2.2.1.sim k,h.2.2.2.2.1.sim k,k.heap h.2.2.2.2.2.1,k.heap h.2.2.2.2.2.2⟩
theorem SlW.put {w:World} {v:Value} {x rt:Rat} {o:Int×Int} {W:World} (h:SlW w v x rt o W) (o':Int×Int):SlW w v x rt o' ((W.setCell ⟨w.heap.size+1+1+1+1,0,none⟩ (.int .i64 o'.1)).setCell ⟨w.heap.size+1+1+1+1,1,none⟩ (.int .i64 o'.2)):=by
 obtain⟨h1,h2,h3,h4,h5,h6,h7⟩:=h;have n1:NoT 2 W (w.heap.size+1+1+1+1):=by intro cs fr e;rw [h7]at e;cases e
 refine⟨(h1.set (by dsimp only;omega) _).set (by dsimp only;omega) _,by simp only [qcZ];exact h2,?_,(h4.other (by dsimp only;omega) n1 _).other (by dsimp only;omega) (n1.set _ _) _,(h5.other (by dsimp only;omega) n1 _).other (by dsimp only;omega) (n1.set _ _) _,?_,?_⟩
 ·rw [Below.heap_setCell _ _ _ _ (by dsimp only;omega),Below.heap_setCell _ _ _ _ (by dsimp only;omega)];exact h3
 ·rw [Below.heap_setCell _ _ _ _ (by dsimp only;omega),Below.heap_setCell _ _ _ _ (by dsimp only;omega)];exact h6
 ·have:=blk_set (blk_set h7 0 (.int .i64 o'.1)) 1 (.int .i64 o'.2)
  exact this
theorem slope_of {ps:List (Int×Int)} {x rt:Rat} {es:List BF} (hes:es.map (fun e=>e.1)=eds ps) {p:List BF} {e:BF} (hp:p++[e] <+: es) (hn:∀e∈p,slopeX (lineL ps) x rt e.1=false) (he:slopeX (lineL ps) x rt e.1=true) :
  slopeR ps x rt=p.foldl (fun _ e=>dirE e.1) (0,0):=by
 obtain⟨t,rfl⟩:=hp;unfold slopeR
 rw [←hes,List.append_assoc,List.map_append,List.takeWhile_append_of_pos (by
  intro a ha;obtain⟨b,hb,rfl⟩:=List.mem_map.1 ha;simp [hn b hb])]
 rw [show ([e]++t).map (fun e:BF=>e.1)=e.1::t.map (fun e=>e.1)from rfl,List.takeWhile_cons_of_neg (by simp [he]),List.append_nil,List.foldl_map]
theorem slope_all {ps:List (Int×Int)} {x rt:Rat} {es:List BF} (hes:es.map (fun e=>e.1)=eds ps) (hn:∀e∈es,slopeX (lineL ps) x rt e.1=false):slopeR ps x rt=es.foldl (fun _ e=>dirE e.1) (0,0):=by
 unfold slopeR
 have h:=List.takeWhile_append_of_pos (p:=fun e=>!slopeX (lineL ps) x rt e) (l₁:=es.map fun e=>e.1) (l₂:=[]) (by
  intro a ha;obtain⟨b,hb,rfl⟩:=List.mem_map.1 ha;simp [hn b hb])
 rw [List.append_nil,List.takeWhile_nil,List.append_nil]at h;rw [←hes,h,List.foldl_map]
def RetPt (w:World) (p:Int×Int) (e:Ending) (w':World):Prop:=e = .returned (.agg #[.int .i64 p.1,.int .i64 p.2])∧Ext w w'
theorem slope_any (w:World) (v vx vr:Value) (ps:List (Int×Int)) (x rt:Rat) (h:IsPts w v ps) (hok:LnOk ps) (hup:LnUp ps) (hx:IsR w vx x) (hb:Rb 1000 x) (hr:IsR w vr rt) (hbr:Rb 1000 rt) :
  Calls Tryz.prog 73 #[v,vx,vr] w (RetPt w (slopeR ps x rt)):=by
 have HL:=hd9 (fun W (hW:Ext w W)=>left_any W v ps (h.ext' hW) (List.length_pos_iff.2 hok.1));obtain⟨a,c,rfl⟩:=h.form;obtain⟨xa,xm,xc,xs,xa2,xm2,xc2,rfl⟩:=hx.form;obtain⟨ya,ym,yc,ys,ya2,ym2,yc2,rfl⟩:=hr.form;have Hb:=hd9 hb;have Hbr:=hd9 hbr;have Hok:=hd9 hok;obtain⟨n,hn⟩:∃n,ps.length=n:=⟨_,rfl⟩;rw [hn]at h HL ⊢;have Hn:=hd9 hn;obtain⟨es,hes⟩:∃es:List BF,es.map (fun e=>e.1)=eds ps:=⟨(eds ps).attachWith EdOk (fun e he=>⟨eds_bd hok.2.1 he,hup e he⟩),attachWith_val _⟩;have Hes:=hd9 hes;clear hb hbr hok hn hup;refine(callsIn_wide (n:=5)).1 ?_;refine callsIn_of_wp_marks Tryz.func73 rfl trivial ?_ rfl;simp only [Tryz.ntmps73,List.size_toArray,List.length_cons,List.length_nil,Nat.reduceAdd,Nat.reduceSub,Array.replicate_succ,Array.replicate_zero,List.push_toArray,List.append_toArray,List.nil_append,List.cons_append]
 gi_wp2_with(refine⟨trivial,?_⟩;gi_at_call 114;refine(callsIn_wide.2 (edges_any _ _ _ _)).mono ?_;rintro e w' ⟨rfl,rfl⟩)
 obtain⟨W0,hW0⟩:∃W0,((((((w.alloc (.cells #[.slice a n c] 99)).alloc (.cells #[.slice xa xm xc,.bool xs,.slice xa2 xm2 xc2] 56)).alloc (.cells #[.slice ya ym yc,.bool ys,.slice ya2 ym2 yc2] 56)).alloc (.cells #[.int .i64 0,.int .i64 0] 42)).alloc (.cells #[.int .i64 0,.int .i64 0] 42)).alloc (.cells #[.slice a n c] 99))=W0:=⟨_,rfl⟩;have hx0:Ext w W0:=by rw [←hW0];exact((((((Ext.refl w).alloc _).alloc _).alloc _).alloc _).alloc _).alloc _
 have hs0:W0.heap.size=w.heap.size+1+1+1+1+1+1:=by rw [←hW0];simp
 have hbx:W0.cell? ⟨w.heap.size+1+1+1+1+1,0,none⟩=some (.slice a n c):=by rw [←hW0,World.cell?_alloc_at _ _ _ _ (by simp)];rfl
 have hI0:SlI w (.slice a n c) (lineL ps) x rt [] W0:=by
  refine⟨⟨hx0,by omega,?_,?_,?_,?_,?_⟩,fun e he=>by cases he⟩
  ·rw [←hW0];exact(((((Ext.refl _).alloc _).alloc _).alloc _).alloc _).alloc _ |>.heapS (heap_alloc_new w _)
  ·rw [←hW0];exact(RB.new (hx.ext ((Ext.refl w).alloc _)) (by simp)).ext (((((Ext.refl _).alloc _).alloc _).alloc _).alloc _)
  ·rw [←hW0];exact(RB.new (hr.ext (((Ext.refl w).alloc _).alloc _)) (by simp)).ext ((((Ext.refl _).alloc _).alloc _).alloc _)
  ·rw [←hW0];exact((Ext.refl _).alloc _).alloc _ |>.heapS (qhA _ _ _ (by simp))
  ·rw [←hW0];exact(Ext.refl _).alloc _ |>.heapS (qhA _ _ _ (by simp))
 rw [hW0];clear hW0
 refine wpIn_rangeFunc_ownH rfl (by decide) (gf:=154) (lb:=#[.pointer (some ⟨w.heap.size+1+1+1+1+1,0,none⟩)]) rfl trivial (enters_of Tryz.func154 (by kernel_rfl) rfl)
  (edges_stops (fun e:BF=>e.1) _ (by decide) (w.heap.size+1+1+1+1+1) w _ _ ps es hes hbx (by omega) h hx0) KpW.trans (KpW.put (by omega) (by omega)) (Below.refl _ _) (fun _=>rfl)
  (SlI w (.slice a n c) (lineL ps) x rt) (SlX w (.slice a n c) (lineL ps) x rt) (ownFrom_of_sim (fun s W h=>by have:=h.1.2.1;omega) (fun s W W' h k=>⟨h.1.sim k (by omega),h.2⟩)) (fun c=>ownFrom_of_sim (fun s W h=>by obtain⟨_,_,_,_,h,_⟩:=h;have:=h.2.1;omega) (fun s W W' h k=>by obtain⟨h0,p,e,h1,h2,h3,h4⟩:=h;exact⟨h0,p,e,h1,h2.sim k (by omega),h3,h4⟩)) hI0
  (fun e a' W=>SlA w.heap.size e a' W) (fun e a'=>ownFrom_of_sim (fun s W h=>by obtain⟨B,h1,h2,h3,_⟩:=h;have:=heap_lt h2;omega) (fun s W W' h k=>by obtain⟨B,h1,h2,h3,h4⟩:=h;exact⟨B,h1,k.heap h2,k.heap h3,h4⟩)) ?assign ?body ?done ?stop
 case assign =>
  rintro l pre e W K hI hK;unfold ence
  gi_wp2
  have hE:Ext W ((W.alloc (.cells #[.int .i64 e.1.1.1,.int .i64 e.1.1.2] 42)).alloc (.cells #[.int .i64 e.1.2.1,.int .i64 e.1.2.2] 42)):=((Ext.refl W).alloc _).alloc _;refine hK _ _ (((KeepsOthers.alloc _ _).trans (KeepsOthers.alloc _ _)).from _) ((KpW.refl _ _ W).ext hE hI.1.1.size (by have:=hI.1.2.1;omega)) ⟨hI.1.ext hE,hI.2⟩ ⟨W.heap.size,hI.1.2.1,heap_two' W _ _,heap_two1 W _ _,rfl,rfl,rfl,rfl,rfl,rfl,rfl,rfl⟩
 case body =>
  rintro l pre e a' W hl ⟨r,hr'⟩ hI hA hlt;obtain⟨tt,dd⟩:=a';obtain⟨B,hB,q1,q2,g0,g3,g4,g5,g7,g8,g9,gd⟩:=hA;dsimp only at g0 g3 g4 g5 g7 g8 g9 gd;subst gd;obtain⟨u,rfl⟩:=arr73 tt g0 g3 g4 g5 g7 g8 g9;clear g0 g3 g4 g5 g7 g8 g9;obtain⟨⟨⟨ax,az⟩,bx,bz⟩,⟨hbnd,hinc,hne⟩⟩:=e;dsimp only at q1 q2 hbnd hinc hne ⊢;obtain⟨⟨h1,h2,h3,h4,h5,h6,h7⟩,hall⟩:=hI;have hSW:SlW w (.slice a n c) x rt (pre.foldl (fun _ e=>dirE e.1) (0,0)) W:=⟨h1,h2,h3,h4,h5,h6,h7⟩;have HSW:=hd9 hSW;have Hall:=hd9 hall;obtain⟨xa',xm',xc',xs',xa2',xm2',xc2',r0,r1,r2,_,_,_,zr,hyx⟩:=h4.rd;obtain⟨ta,tm,tc,ts,ta2,tm2,tc2,t0,t1,t2,_,_,_,zt,hyt⟩:=h5.rd;have l0:=qcB h3 (i:=0) (u:=.slice a n c) rfl;have e0:=qcB q1 (i:=0) (u:=.int .i64 ax) rfl;have z1:=heap_lt q1;have z2:=heap_lt q2;have HQ1:=hd9 q1;have HQ2:=hd9 q2;obtain⟨bB1,bB2,bB3,bB4⟩:=hbnd;have Rax:=rb_int (k:=104000) (n:=ax) bB1;have HRax:=hd9 Rax;have Hcb:=hd9 (fun W=>pof_any W ax (by unfold Bd at bB1;omega) (by unfold Bd at bB1;omega));have Hyx:=hd9 hyx;have Hyt:=hd9 hyt;have HLf:=hd9 (fun W' (hW:Ext W W')=>HL.out W' (h1.trans hW));obtain⟨T1,hT1⟩:∃T,rcmp x ((ax:Int):Rat)=T:=⟨_,rfl⟩;have HT1:=hd9 hT1;obtain⟨T2,hT2⟩:∃T,rcmp x rt=T:=⟨_,rfl⟩;have HT2:=hd9 hT2;obtain⟨lf,hlf⟩:∃l,lineL ps=l:=⟨_,rfl⟩;rw [hlf]at HLf;have Hlf:=hd9 hlf;have hsx:slopeX (lineL ps) x rt ((ax,az),bx,bz)=(decide (T1<0) || (decide (T1=0)&&(decide (lf<ax)&&decide (0≤T2)))):=by unfold slopeX;dsimp only;rw [hT1,hT2,hlf]
  have Hsx:=hd9 hsx;have hdx:0≤bx-ax∧bx-ax≤208000:=by unfold Bd at bB1 bB3;omega
  have hdz : -208000≤bz-az∧bz-az≤208000:=by unfold Bd at bB2 bB4;omega
  obtain⟨dx,hdxe⟩:∃d,bx-ax=d:=⟨_,rfl⟩;obtain⟨dz,hdze⟩:∃d,bz-az=d:=⟨_,rfl⟩;rw [hdxe]at hdx;rw [hdze]at hdz;obtain⟨gg,hgg⟩:∃g:Nat,Nat.gcd dx.natAbs dz.natAbs=g:=⟨_,rfl⟩
  have hg0:0<gg:=by
   rw [←hgg]
   rcases Nat.eq_zero_or_pos (Nat.gcd dx.natAbs dz.natAbs)with h|h
   ·exfalso
    obtain⟨q1,q2⟩:=Nat.gcd_eq_zero_iff.1 h
    apply hne
    have:=Int.natAbs_eq_zero.1 q1;have:=Int.natAbs_eq_zero.1 q2;exact Prod.ext (by dsimp only;omega) (by dsimp only;omega)
   ·exact h
  have Hcom:=hd9 (fun W'=>show Calls Tryz.prog 115 #[.int .i64 dx,.int .i64 (max dz (-dz))] W' (fun e w'=>e = .returned (.int .i64 (gg:Nat))∧Ext W' w') by
   have h:=pcommon_any W' dx.natAbs dz.natAbs (by omega) (by omega);rw [hgg,show ((dx.natAbs:Nat):Int)=dx by omega,show ((dz.natAbs:Nat):Int)=max dz (-dz) by omega]at h;exact h)
  have hdir:dirE ((ax,az),bx,bz)=(dx.tdiv gg,dz.tdiv gg):=by unfold dirE;dsimp only;rw [hdxe,hdze,hgg]
  have Hdir:=hd9 hdir;have hq1:(dx.tdiv (gg:Int)).natAbs≤208000:=by rw [Int.natAbs_tdiv];exact Nat.le_trans (Nat.div_le_self _ _) (by omega)
  have hq2:(dz.tdiv (gg:Int)).natAbs≤208000:=by rw [Int.natAbs_tdiv];exact Nat.le_trans (Nat.div_le_self _ _) (by omega)
  clear hdir hgg
  have hS0:CellL [(⟨w.heap.size+1,0,none⟩,.slice xa' xm' xc'),(⟨w.heap.size+1,1,none⟩,.bool xs'),(⟨w.heap.size+1,2,none⟩,.slice xa2' xm2' xc2'),(⟨w.heap.size+1+1,0,none⟩,.slice ta tm tc),(⟨w.heap.size+1+1,1,none⟩,.bool ts),(⟨w.heap.size+1+1,2,none⟩,.slice ta2 tm2 tc2),(⟨w.heap.size,0,none⟩,.slice a n c),(⟨B,0,none⟩,.int .i64 ax)] W.drew:=
   ⟨r0,r1,r2,t0,t1,t2,l0,e0,trivial⟩
  have HS0:=hd9 hS0;clear hSW hall h3 h4 h5 h6 h7 r0 r1 r2 t0 t1 t2 l0 e0 hyx hyt hT1 hT2 hlf hsx hS0 Rax q1 q2
  gi_wp2
  refine wpIn_region_heldR (S:=CellL [(⟨w.heap.size+1,0,none⟩,.slice xa' xm' xc'),(⟨w.heap.size+1,1,none⟩,.bool xs'),(⟨w.heap.size+1,2,none⟩,.slice xa2' xm2' xc2'),(⟨w.heap.size+1+1,0,none⟩,.slice ta tm tc),(⟨w.heap.size+1+1,1,none⟩,.bool ts),(⟨w.heap.size+1+1,2,none⟩,.slice ta2 tm2 tc2),(⟨w.heap.size,0,none⟩,.slice a n c),(⟨B,0,none⟩,.int .i64 ax)]) (by kernel_rfl) (by kernel_rfl) HS0.out (fun hHeld=>?_);refine sN 0 ?_
  iterate 3
   refine tkn ?_
  refine oN ?_;refine cl1 (i:=3) fun K hK=>?_
  go_simp
  (with_reducible refine Calls.mono (Hcb.out _) ?_)
  rintro e w3 ⟨v3,rfl,hr3,hx3⟩;obtain⟨a3,m3,c3,s3,b3,n3,k3,rfl⟩:=hr3.form
  go_wp2_with fail
  refine kO hK (CellL.ext hHeld hx3) (fun hHeld=>?_);clear hK K;have Hcm:=hd9 (rcmp_any w3 (.agg #[.slice xa' xm' xc',.bool xs',.slice xa2' xm2' xc2']) (.agg #[.slice a3 m3 c3,.bool s3,.slice b3 n3 k3]) x ((ax:Int):Rat) (Hyx.out.ext ((Ext.refl W).drew.trans hx3)) hr3 (Hb.out.mono (by decide)) (HRax.out.mono (by decide)));rw [HT1.out]at Hcm;refine cl1 (i:=4) fun K hK=>?_
  go_simp
  (with_reducible refine Calls.mono Hcm.out ?_)
  rintro e w4 ⟨rfl,hx4⟩
  skip
  go_wp2_with fail
  refine kO hK (CellL.ext hHeld hx4) (fun hHeld=>?_);clear hK K;have X4:Ext W w4:=((Ext.refl W).drew.trans hx3).trans hx4;clear Hcm
  by_cases hn:T1<0
  ·have hst:slopeX (lineL ps) x rt ((ax,az),bx,bz)=true:=by rw [Hsx.out,decide_eq_true hn];rfl
   refine sN 5 ?_
   iterate 2
    refine tkn ?_
   iterate 19
    refine tkgn ?_
   refine tkn ?_;refine oN ?_;refine wpAnyH_done (by kernel_rfl) ?_ _;unfold NQ
   gi_wp2
   exact⟨keepsFrom_ext X4,rfl,pre,_,rfl,HSW.out.ext X4,Hall.out,hst⟩
  by_cases hp:0<T1
  ·have hn2:(T1==0)=false:=by simp;omega
   have hst:slopeX (lineL ps) x rt ((ax,az),bx,bz)=false:=by rw [Hsx.out,decide_eq_false hn,show decide (T1=0)=false by simp;omega];rfl
   refine sN 5 ?_
   iterate 5
    refine tkn ?_
   refine oN ?_;refine cl1 (i:=10) fun K hK=>?_
   go_simp
   (with_reducible refine Calls.mono (Hcb.out _) ?_)
   rintro e w10 ⟨v10,rfl,hr10,hx10⟩;obtain⟨a10,m10,c10,s10,b10,n10,k10,rfl⟩:=hr10.form
   go_wp2_with fail
   refine kO hK (CellL.ext hHeld hx10) (fun hHeld=>?_);clear hK K;have Hcm:=hd9 (rcmp_any w10 (.agg #[.slice xa' xm' xc',.bool xs',.slice xa2' xm2' xc2']) (.agg #[.slice a10 m10 c10,.bool s10,.slice b10 n10 k10]) x ((ax:Int):Rat) (Hyx.out.ext (X4.trans hx10)) hr10 (Hb.out.mono (by decide)) (HRax.out.mono (by decide)));rw [HT1.out]at Hcm;refine cl1 (i:=11) fun K hK=>?_
   go_simp
   (with_reducible refine Calls.mono Hcm.out ?_)
   rintro e w11 ⟨rfl,hx11⟩
   skip
   go_wp2_with fail
   refine kO hK (CellL.ext hHeld hx11) (fun hHeld=>?_);clear hK K;have X11:Ext W w11:=(X4.trans hx10).trans hx11;refine sN 12 ?_
   iterate 2
    refine tkn ?_
   iterate 5
    refine tkgn ?_
   iterate 2
    refine tkn ?_
   iterate 4
    refine tkgn ?_
   iterate 2
    refine tkn ?_
   refine oN ?_;refine wpAnyH_done (by kernel_rfl) ?_ _;unfold NQ;have hX:Ext W w11:=X11;have q1':=qcB (hX.heapS HQ1.out) (i:=0) (u:=.int .i64 ax) rfl;have q2':=qcB (hX.heapS HQ1.out) (i:=1) (u:=.int .i64 az) rfl;have q3':=qcB (hX.heapS HQ2.out) (i:=0) (u:=.int .i64 bx) rfl;have q4':=qcB (hX.heapS HQ2.out) (i:=1) (u:=.int .i64 bz) rfl
   gi_wp2
   refine⟨trivial,CallsIn.mono (CallsIn.inRound l (callsIn_wide.2 (Hcom.out _))) ?_⟩;rintro e w5 ⟨rfl,hx5⟩;dsimp only;have hbd:=hx5.heapS (heap_alloc_new w11 (.cells #[.int .i64 dx,.int .i64 dz] 42));have d0:=qcB hbd (i:=0) (u:=.int .i64 dx) rfl;have d1:=qcB hbd (i:=1) (u:=.int .i64 dz) rfl;have X5:Ext W w5:=(hX.alloc _).trans hx5;have hg1:¬((gg:Nat):Int)=0:=by omega
   have hg3:¬gg=0:=by omega
   have hg2:(((gg:Nat):Int)==0)=false:=by simp;omega
   have u1:IntKind.i64.wrap (dx.tdiv gg)=dx.tdiv gg:=IntWalk.i64_in _ ⟨by omega,by omega⟩;have u2:IntKind.i64.wrap (dz.tdiv gg)=dz.tdiv gg:=IntWalk.i64_in _ ⟨by omega,by omega⟩;have hb7:=(HSW.out.ext X5).2.2.2.2.2.2;have o0:=qcB hb7 (i:=0) rfl;have o1:=qcB hb7 (i:=1) rfl;have of:=qfB hb7;have hz9:w.heap.size+1+1+1+1<w11.heap.size:=by have:=hX.size;omega
   have Hne9:=hd9 (show ∀q∈[((⟨w11.heap.size,0,none⟩:Addr),Value.int .i64 dx),(⟨w11.heap.size,1,none⟩,.int .i64 dz)],w.heap.size+1+1+1+1≠q.1.block from fun q hq h=>by
    simp at hq
    rcases hq with rfl|rfl<;>(dsimp only at h;omega))
   gi_wp2
   refine wpIn_region_heldR (S:=CellL [(⟨w11.heap.size,0,none⟩,.int .i64 dx),(⟨w11.heap.size,1,none⟩,.int .i64 dz)]) (by kernel_rfl) (by kernel_rfl) ⟨d0,d1,trivial⟩ (fun hHeld=>?_);refine sN 0 ?_
   iterate 9
    refine tkn ?_
   refine oN ?_;refine cl1 (i:=9) fun K hK=>?_
   go_simp;refine kO hK (CellL.set (p:=⟨w.heap.size+1+1+1+1,1,none⟩) (CellL.set (p:=⟨w.heap.size+1+1+1+1,0,none⟩) hHeld Hne9.out _) Hne9.out _) (fun hHeld=>?_);clear hK K;refine wpAnyH_done (by kernel_rfl) ?_ _;unfold NQ;have hW9:=(HSW.out.ext X5.drew).put (dx.tdiv gg,dz.tdiv gg);have hkf:KeepsFrom W0.heap.size W ((w5.drew.setCell ⟨w.heap.size+1+1+1+1,0,none⟩ (.int .i64 (dx.tdiv gg))).setCell ⟨w.heap.size+1+1+1+1,1,none⟩ (.int .i64 (dz.tdiv gg))):=((keepsFrom_ext X5.drew).trans ((KeepsOthers.setCell _ _ _).from _)).trans ((KeepsOthers.setCell _ _ _).from _)
   have hkp:KpW w (w.heap.size+1+1+1+1+1) W ((w5.drew.setCell ⟨w.heap.size+1+1+1+1,0,none⟩ (.int .i64 (dx.tdiv gg))).setCell ⟨w.heap.size+1+1+1+1,1,none⟩ (.int .i64 (dz.tdiv gg))):=
    (((KpW.refl w _ W).ext X5.drew h1.size (by omega)).set (by dsimp only;omega) (by dsimp only;omega) _).set (by dsimp only;omega) (by dsimp only;omega) _
   gi_wp2
   refine⟨hkf,hkp,?_,fun e he=>?_⟩
   ·rw [List.foldl_append,List.foldl_cons,List.foldl_nil]
    dsimp only;rw [Hdir.out];exact hW9
   ·rcases List.mem_append.1 he with he|he
    ·exact Hall.out e he
    ·rw [List.mem_singleton.1 he];exact hst
  ·have hT0:T1=0:=by omega
   subst hT0;clear hn hp;refine sN 5 ?_
   iterate 5
    refine tkn ?_
   refine oN ?_;refine cl1 (i:=10) fun K hK=>?_
   go_simp
   (with_reducible refine Calls.mono (Hcb.out _) ?_)
   rintro e w10 ⟨v10,rfl,hr10,hx10⟩;obtain⟨a10,m10,c10,s10,b10,n10,k10,rfl⟩:=hr10.form
   go_wp2_with fail
   refine kO hK (CellL.ext hHeld hx10) (fun hHeld=>?_);clear hK K;have Hcm:=hd9 (rcmp_any w10 (.agg #[.slice xa' xm' xc',.bool xs',.slice xa2' xm2' xc2']) (.agg #[.slice a10 m10 c10,.bool s10,.slice b10 n10 k10]) x ((ax:Int):Rat) (Hyx.out.ext (X4.trans hx10)) hr10 (Hb.out.mono (by decide)) (HRax.out.mono (by decide)));rw [HT1.out]at Hcm;refine cl1 (i:=11) fun K hK=>?_
   go_simp
   (with_reducible refine Calls.mono Hcm.out ?_)
   rintro e w11 ⟨rfl,hx11⟩
   skip
   go_wp2_with fail
   refine kO hK (CellL.ext hHeld hx11) (fun hHeld=>?_);clear hK K;have X11:Ext W w11:=(X4.trans hx10).trans hx11;refine sN 12 ?_
   iterate 5
    refine tkn ?_
   refine oN ?_;refine cl1 (i:=17) fun K hK=>?_
   go_simp
   (with_reducible refine Calls.mono (HLf.out _ X11) ?_)
   rintro e w17 ⟨rfl,hx17⟩
   skip
   go_wp2_with fail
   refine kO hK (CellL.ext hHeld hx17) (fun hHeld=>?_);clear hK K;have X17:Ext W w17:=X11.trans hx17
   by_cases hll:lf<ax
   rotate_left 1
   ·have hst:slopeX (lineL ps) x rt ((ax,az),bx,bz)=false:=by rw [Hsx.out,decide_eq_false hll];simp
    refine sN 18 ?_
    iterate 3
     refine tkn ?_
    iterate 4
     refine tkgn ?_
    iterate 2
     refine tkn ?_
    refine oN ?_;refine wpAnyH_done (by kernel_rfl) ?_ _;unfold NQ;have hX:Ext W w17:=X17;have q1':=qcB (hX.heapS HQ1.out) (i:=0) (u:=.int .i64 ax) rfl;have q2':=qcB (hX.heapS HQ1.out) (i:=1) (u:=.int .i64 az) rfl;have q3':=qcB (hX.heapS HQ2.out) (i:=0) (u:=.int .i64 bx) rfl;have q4':=qcB (hX.heapS HQ2.out) (i:=1) (u:=.int .i64 bz) rfl
    gi_wp2
    refine⟨trivial,CallsIn.mono (CallsIn.inRound l (callsIn_wide.2 (Hcom.out _))) ?_⟩;rintro e w5 ⟨rfl,hx5⟩;dsimp only;have hbd:=hx5.heapS (heap_alloc_new w17 (.cells #[.int .i64 dx,.int .i64 dz] 42));have d0:=qcB hbd (i:=0) (u:=.int .i64 dx) rfl;have d1:=qcB hbd (i:=1) (u:=.int .i64 dz) rfl;have X5:Ext W w5:=(hX.alloc _).trans hx5;have hg1:¬((gg:Nat):Int)=0:=by omega
    have hg3:¬gg=0:=by omega
    have hg2:(((gg:Nat):Int)==0)=false:=by simp;omega
    have u1:IntKind.i64.wrap (dx.tdiv gg)=dx.tdiv gg:=IntWalk.i64_in _ ⟨by omega,by omega⟩;have u2:IntKind.i64.wrap (dz.tdiv gg)=dz.tdiv gg:=IntWalk.i64_in _ ⟨by omega,by omega⟩;have hb7:=(HSW.out.ext X5).2.2.2.2.2.2;have o0:=qcB hb7 (i:=0) rfl;have o1:=qcB hb7 (i:=1) rfl;have of:=qfB hb7;have hz9:w.heap.size+1+1+1+1<w17.heap.size:=by have:=hX.size;omega
    have Hne9:=hd9 (show ∀q∈[((⟨w17.heap.size,0,none⟩:Addr),Value.int .i64 dx),(⟨w17.heap.size,1,none⟩,.int .i64 dz)],w.heap.size+1+1+1+1≠q.1.block from fun q hq h=>by
     simp at hq
     rcases hq with rfl|rfl<;>(dsimp only at h;omega))
    gi_wp2
    refine wpIn_region_heldR (S:=CellL [(⟨w17.heap.size,0,none⟩,.int .i64 dx),(⟨w17.heap.size,1,none⟩,.int .i64 dz)]) (by kernel_rfl) (by kernel_rfl) ⟨d0,d1,trivial⟩ (fun hHeld=>?_);refine sN 0 ?_
    iterate 9
     refine tkn ?_
    refine oN ?_;refine cl1 (i:=9) fun K hK=>?_
    go_simp;refine kO hK (CellL.set (p:=⟨w.heap.size+1+1+1+1,1,none⟩) (CellL.set (p:=⟨w.heap.size+1+1+1+1,0,none⟩) hHeld Hne9.out _) Hne9.out _) (fun hHeld=>?_);clear hK K;refine wpAnyH_done (by kernel_rfl) ?_ _;unfold NQ;have hW9:=(HSW.out.ext X5.drew).put (dx.tdiv gg,dz.tdiv gg);have hkf:KeepsFrom W0.heap.size W ((w5.drew.setCell ⟨w.heap.size+1+1+1+1,0,none⟩ (.int .i64 (dx.tdiv gg))).setCell ⟨w.heap.size+1+1+1+1,1,none⟩ (.int .i64 (dz.tdiv gg))):=((keepsFrom_ext X5.drew).trans ((KeepsOthers.setCell _ _ _).from _)).trans ((KeepsOthers.setCell _ _ _).from _)
    have hkp:KpW w (w.heap.size+1+1+1+1+1) W ((w5.drew.setCell ⟨w.heap.size+1+1+1+1,0,none⟩ (.int .i64 (dx.tdiv gg))).setCell ⟨w.heap.size+1+1+1+1,1,none⟩ (.int .i64 (dz.tdiv gg))):=
     (((KpW.refl w _ W).ext X5.drew h1.size (by omega)).set (by dsimp only;omega) (by dsimp only;omega) _).set (by dsimp only;omega) (by dsimp only;omega) _
    gi_wp2
    refine⟨hkf,hkp,?_,fun e he=>?_⟩
    ·rw [List.foldl_append,List.foldl_cons,List.foldl_nil]
     dsimp only;rw [Hdir.out];exact hW9
    ·rcases List.mem_append.1 he with he|he
     ·exact Hall.out e he
     ·rw [List.mem_singleton.1 he];exact hst
   refine sN 18 ?_
   iterate 5
    refine tkn ?_
   refine oN ?_;have Hcm2:=hd9 (rcmp_any w17 (.agg #[.slice xa' xm' xc',.bool xs',.slice xa2' xm2' xc2']) (.agg #[.slice ta tm tc,.bool ts,.slice ta2 tm2 tc2]) x rt (Hyx.out.ext X17) (Hyt.out.ext X17) (Hb.out.mono (by decide)) (Hbr.out.mono (by decide)));rw [HT2.out]at Hcm2;refine cl1 (i:=23) fun K hK=>?_
   go_simp
   (with_reducible refine Calls.mono Hcm2.out ?_)
   rintro e w23 ⟨rfl,hx23⟩
   skip
   go_wp2_with fail
   refine kO hK (CellL.ext hHeld hx23) (fun hHeld=>?_);clear hK K;have X23:Ext W w23:=X17.trans hx23
   by_cases ht:0≤T2
   ·have hst:slopeX (lineL ps) x rt ((ax,az),bx,bz)=true:=by rw [Hsx.out,decide_eq_true hll,decide_eq_true ht];simp
    refine sN 24 ?_
    iterate 3
     refine tkn ?_
    refine oN ?_;refine wpAnyH_done (by kernel_rfl) ?_ _;unfold NQ
    gi_wp2
    exact⟨keepsFrom_ext X23,rfl,pre,_,rfl,HSW.out.ext X23,Hall.out,hst⟩
   ·have hst:slopeX (lineL ps) x rt ((ax,az),bx,bz)=false:=by rw [Hsx.out,decide_eq_false ht];simp
    refine sN 24 ?_
    iterate 3
     refine tkn ?_
    refine oN ?_;refine wpAnyH_done (by kernel_rfl) ?_ _;unfold NQ;have hX:Ext W w23:=X23;have q1':=qcB (hX.heapS HQ1.out) (i:=0) (u:=.int .i64 ax) rfl;have q2':=qcB (hX.heapS HQ1.out) (i:=1) (u:=.int .i64 az) rfl;have q3':=qcB (hX.heapS HQ2.out) (i:=0) (u:=.int .i64 bx) rfl;have q4':=qcB (hX.heapS HQ2.out) (i:=1) (u:=.int .i64 bz) rfl
    gi_wp2
    refine⟨trivial,CallsIn.mono (CallsIn.inRound l (callsIn_wide.2 (Hcom.out _))) ?_⟩;rintro e w5 ⟨rfl,hx5⟩;dsimp only;have hbd:=hx5.heapS (heap_alloc_new w23 (.cells #[.int .i64 dx,.int .i64 dz] 42));have d0:=qcB hbd (i:=0) (u:=.int .i64 dx) rfl;have d1:=qcB hbd (i:=1) (u:=.int .i64 dz) rfl;have X5:Ext W w5:=(hX.alloc _).trans hx5;have hg1:¬((gg:Nat):Int)=0:=by omega
    have hg3:¬gg=0:=by omega
    have hg2:(((gg:Nat):Int)==0)=false:=by simp;omega
    have u1:IntKind.i64.wrap (dx.tdiv gg)=dx.tdiv gg:=IntWalk.i64_in _ ⟨by omega,by omega⟩;have u2:IntKind.i64.wrap (dz.tdiv gg)=dz.tdiv gg:=IntWalk.i64_in _ ⟨by omega,by omega⟩;have hb7:=(HSW.out.ext X5).2.2.2.2.2.2;have o0:=qcB hb7 (i:=0) rfl;have o1:=qcB hb7 (i:=1) rfl;have of:=qfB hb7;have hz9:w.heap.size+1+1+1+1<w23.heap.size:=by have:=hX.size;omega
    have Hne9:=hd9 (show ∀q∈[((⟨w23.heap.size,0,none⟩:Addr),Value.int .i64 dx),(⟨w23.heap.size,1,none⟩,.int .i64 dz)],w.heap.size+1+1+1+1≠q.1.block from fun q hq h=>by
     simp at hq
     rcases hq with rfl|rfl<;>(dsimp only at h;omega))
    gi_wp2
    refine wpIn_region_heldR (S:=CellL [(⟨w23.heap.size,0,none⟩,.int .i64 dx),(⟨w23.heap.size,1,none⟩,.int .i64 dz)]) (by kernel_rfl) (by kernel_rfl) ⟨d0,d1,trivial⟩ (fun hHeld=>?_);refine sN 0 ?_
    iterate 9
     refine tkn ?_
    refine oN ?_;refine cl1 (i:=9) fun K hK=>?_
    go_simp;refine kO hK (CellL.set (p:=⟨w.heap.size+1+1+1+1,1,none⟩) (CellL.set (p:=⟨w.heap.size+1+1+1+1,0,none⟩) hHeld Hne9.out _) Hne9.out _) (fun hHeld=>?_);clear hK K;refine wpAnyH_done (by kernel_rfl) ?_ _;unfold NQ;have hW9:=(HSW.out.ext X5.drew).put (dx.tdiv gg,dz.tdiv gg);have hkf:KeepsFrom W0.heap.size W ((w5.drew.setCell ⟨w.heap.size+1+1+1+1,0,none⟩ (.int .i64 (dx.tdiv gg))).setCell ⟨w.heap.size+1+1+1+1,1,none⟩ (.int .i64 (dz.tdiv gg))):=((keepsFrom_ext X5.drew).trans ((KeepsOthers.setCell _ _ _).from _)).trans ((KeepsOthers.setCell _ _ _).from _)
    have hkp:KpW w (w.heap.size+1+1+1+1+1) W ((w5.drew.setCell ⟨w.heap.size+1+1+1+1,0,none⟩ (.int .i64 (dx.tdiv gg))).setCell ⟨w.heap.size+1+1+1+1,1,none⟩ (.int .i64 (dz.tdiv gg))):=
     (((KpW.refl w _ W).ext X5.drew h1.size (by omega)).set (by dsimp only;omega) (by dsimp only;omega) _).set (by dsimp only;omega) (by dsimp only;omega) _
    gi_wp2
    refine⟨hkf,hkp,?_,fun e he=>?_⟩
    ·rw [List.foldl_append,List.foldl_cons,List.foldl_nil]
     dsimp only;rw [Hdir.out];exact hW9
    ·rcases List.mem_append.1 he with he|he
     ·exact Hall.out e he
     ·rw [List.mem_singleton.1 he];exact hst
 case done =>
  rintro D ys W hD rfl ⟨⟨h1,h2,h3,h4,h5,h6,h7⟩,hall⟩ hK;have hR:=slope_all Hes.out hall;obtain⟨⟨ox,oz⟩,ho⟩:∃o,ys.foldl (fun _ e=>dirE e.1) ((0,0):Int×Int)=o:=⟨_,rfl⟩;rw [ho]at h7 hR;have HR:=hd9 hR;have e0:=qcB h7 (i:=0) (u:=.int .i64 ox) rfl;have e1:=qcB h7 (i:=1) (u:=.int .i64 oz) rfl;have f0:=qcB h6 (i:=0) (u:=.int .i64 0) rfl;have f1:=qcB h6 (i:=1) (u:=.int .i64 0) rfl;have ff:=qfB h6;clear hR ho
  gi_wp2
  have h6':=blk_set (blk_set h6 0 (.int .i64 ox)) 1 (.int .i64 oz);have X:=(h1.set (p:=⟨w.heap.size+1+1+1,0,none⟩) (by dsimp only;omega) (.int .i64 ox)).set (p:=⟨w.heap.size+1+1+1,1,none⟩) (by dsimp only;omega) (.int .i64 oz);refine leaves_marks [D] _ ⟨by simp,fun E hE=>?_⟩ (fun W' hW'=>?_)
  ·rw [List.mem_singleton.1 hE,Below.heap_setCell _ _ _ _ (by dsimp only;omega),Below.heap_setCell _ _ _ _ (by dsimp only;omega)];exact hK
  ·have hS:=hW' w.heap.size (fun E hE=>by rw [List.mem_singleton.1 hE];omega)
   have h8:=hS.heap h6';have c0:=qcB h8 (i:=0) (u:=.int .i64 ox) rfl;have c1:=qcB h8 (i:=1) (u:=.int .i64 oz) rfl;refine⟨.agg #[.int .i64 ox,.int .i64 oz],by simp [results,Tryz.results73,go_sem,c0,c1],?_⟩;rw [HR.out];exact⟨rfl,hS.ext X (Nat.le_refl _)⟩
 case stop =>
  rintro D c pre W hD hpre ⟨rfl,p,e,rfl,⟨h1,h2,h3,h4,h5,h6,h7⟩,hall,hst⟩ hK;have hR:=slope_of Hes.out hpre hall hst;obtain⟨⟨ox,oz⟩,ho⟩:∃o,p.foldl (fun _ e=>dirE e.1) ((0,0):Int×Int)=o:=⟨_,rfl⟩;rw [ho]at h7 hR;have HR:=hd9 hR;have e0:=qcB h7 (i:=0) (u:=.int .i64 ox) rfl;have e1:=qcB h7 (i:=1) (u:=.int .i64 oz) rfl;have f0:=qcB h6 (i:=0) (u:=.int .i64 0) rfl;have f1:=qcB h6 (i:=1) (u:=.int .i64 0) rfl;have ff:=qfB h6;clear hR ho
  gi_wp2
  have h6':=blk_set (blk_set h6 0 (.int .i64 ox)) 1 (.int .i64 oz);have X:=(h1.set (p:=⟨w.heap.size+1+1+1,0,none⟩) (by dsimp only;omega) (.int .i64 ox)).set (p:=⟨w.heap.size+1+1+1,1,none⟩) (by dsimp only;omega) (.int .i64 oz);refine leaves_marks [D] _ ⟨by simp,fun E hE=>?_⟩ (fun W' hW'=>?_)
  ·rw [List.mem_singleton.1 hE,Below.heap_setCell _ _ _ _ (by dsimp only;omega),Below.heap_setCell _ _ _ _ (by dsimp only;omega)];exact hK
  ·have hS:=hW' w.heap.size (fun E hE=>by rw [List.mem_singleton.1 hE];omega)
   have h8:=hS.heap h6';have c0:=qcB h8 (i:=0) (u:=.int .i64 ox) rfl;have c1:=qcB h8 (i:=1) (u:=.int .i64 oz) rfl;refine⟨.agg #[.int .i64 ox,.int .i64 oz],by simp [results,Tryz.results73,go_sem,c0,c1],?_⟩;rw [HR.out];exact⟨rfl,hS.ext X (Nat.le_refl _)⟩
end Go.Proofs.YteipgejmhfpkaaaGreatDoor.Cop
namespace Go.Proofs.YteipgejmhfpkaaaGreatDoor.Cop
open Go.RowKit Go.Shelf
section
variable {P:Program} {ops:Array Oper} {Q:Exit→Act→World→Prop} {md:Region.Mode} {S:World→Prop} {late:Nat→Bool}
def HU (P:Program) (md:Region.Mode) (ops:Array Oper) (Q:Exit→Act→World→Prop) (S:World→Prop) (late:Nat→Bool):Nat→Array Bool→Act→World→Prop
 | 0,listed,a,w=>Region.ready md ops listed=[]∧Q .normal a w
 | fuel+1,listed,a,w =>
  (Region.ready md ops listed=[]→Q .normal a w) ∧
  ∀i∈Region.ready md ops listed,wpOp P ops Q i (fun a' w'=>(late i=false→S w')∧HU P md ops Q S late fuel (listed.setIfInBounds i true) a' w') a w
theorem wpAny_of_HU:∀(fuel:Nat) (listed:Array Bool) (a:Act) (w:World),HU P md ops Q S late fuel listed a w→wpAny P md ops Q fuel listed a w
 | 0,_,_,_,h=>h
 | fuel+1,_,_,_,h=>⟨h.1,fun i hi=>wpOp_mono (fun a' w' h'=>wpAny_of_HU fuel _ a' w' h'.2) (h.2 i hi)⟩
theorem HU_first {m i:Nat} {oi:Oper} {v:Value} (hg:gated md ops late m=true) (hli:late i=false) (hi:ops[i]?=some oi) (hsel:∀(j:Nat) (o:Oper) cs b,ops[j]?=some o→o.op ≠ .select cs b)
  (hQ:∀c a w,Q (.panic c) (a.put oi.dst v) w→Q (.panic c) a w) :
  ∀(fuel:Nat) (listed:Array Bool) (a:Act) (w:World),Cl md ops listed →
   (∀j oj,ops[j]?=some oj→j≠i→listed.getD j true=false→(∀e∈oj.after,Region.binds md e=true→e.on≠i)→oi.apart ops oj=true) →
   i∈Region.ready md ops listed→YieldsIf P ops S oi v a→S w →
   HU P md ops Q S late fuel (listed.setIfInBounds i true) (a.put oi.dst v) w→HU P md ops Q S late (fuel+1) listed a w:=by
 intro fuel
 induction fuel with
 | zero =>
  intro listed a w hc _ hr hy hS H;refine⟨fun h=>(by rw [h]at hr;cases hr),fun j hj=>?_⟩
  by_cases hji:j=i
  ·subst hji;exact hy.wpOp hi hS ⟨fun _=>hS,H⟩
  ·have:=ready_mono hj hji
   rw [H.1]at this
   cases this
 | succ fuel ih =>
  intro listed a w hc hfree hr hy hS H;refine⟨fun h=>(by rw [h]at hr;cases hr),fun j hj=>?_⟩
  by_cases hji:j=i
  ·subst hji;exact hy.wpOp hi hS ⟨fun _=>hS,H⟩
  ·have h1:=H.2 j (ready_mono hj hji)
   have hlj:=ready_early hg hc hr hli hj;obtain⟨hjun,oj,hoj,hall⟩:=mem_ready.1 hj
   have hnot:∀e∈oj.after,Region.binds md e=true→e.on≠i:=fun e he hb heq=>by
    have h1:=hall e he hb;have h0:=(mem_ready.1 hr).1;rw [heq]at h1
    rcases Nat.lt_or_ge i listed.size with h' | h'
    ·simp [h']at h0 h1;rw [h0]at h1;cases h1
    ·simp [Array.getElem?_eq_none h']at h1
   have h2:=wpOp_putIf hoj (hfree j oj hoj hji hjun hnot) (fun cs b=>hsel i oi cs b hi) (fun cs b=>hsel j oj cs b hoj) hQ hy h1
   have hfree':∀k ok,ops[k]?=some ok→k≠i→(listed.setIfInBounds j true).getD k true=false →
     (∀e∈ok.after,Region.binds md e=true→e.on≠i)→oi.apart ops ok=true:=fun k ok hk hki hun hno=>by
    refine hfree k ok hk hki ?_ hno
    by_cases hjk:j=k
    ·subst hjk;exact hjun
    ·rw [getD_set_ne true hjk]at hun;exact hun
   refine wpOp_mono (fun a' w' h3=>⟨h3.2.1,ih (listed.setIfInBounds j true) a' w' (hc.step hj) hfree' (ready_mono hr (Ne.symm hji)) h3.1 (h3.2.1 hlj) ?_⟩) h2;rw [Array.setIfInBounds_comm _ _ hji];exact h3.2.2
def HUc (P:Program) (md:Region.Mode) (ops:Array Oper) (Q:Exit→Act→World→Prop) (S:World→Prop) (late:Nat→Bool) (fuel:Nat) (listed:Array Bool) (a:Act) (w:World):Prop:=Cl md ops listed→HU P md ops Q S late fuel listed a w
def TakeHU (P:Program) (md:Region.Mode) (ops:Array Oper) (Q:Exit→Act→World→Prop) (S:World→Prop) (late:Nat→Bool) (fuel:Nat) (listed:Array Bool) (a:Act) (w:World) (i:Nat) (oi:Oper):Prop:=
 ∃v,late i=false∧Region.noSelect ops=true∧Region.free md ops listed i=true∧(Region.ready md ops listed).contains i=true∧(∀c a w,Q (.panic c) (a.put oi.dst v) w→Q (.panic c) a w)∧YieldsIf P ops S oi v a∧S w ∧
  HUc P md ops Q S late fuel (listed.setIfInBounds i true) (a.put oi.dst v) w
theorem takeHU {m:Nat} (hg:gated md ops late m=true) {i:Nat} {oi:Oper} {fuel:Nat} {listed:Array Bool} {a:Act} {w:World} (hi:ops[i]?=some oi) (h:TakeHU P md ops Q S late fuel listed a w i oi):HUc P md ops Q S late (fuel+1) listed a w:=by
 obtain⟨v,h0,h1,h2,h3,h4,h5,h6,h7⟩:=h;intro hc;have hr:i∈Region.ready md ops listed:=by simpa using h3
 exact HU_first hg h0 hi (Region.noSelect_spec h1) h4 fuel listed a w hc (Region.free_spec hi h2) hr h5 h6 (h7 (hc.step hr))
def CallHU (P:Program) (md:Region.Mode) (ops:Array Oper) (Q:Exit→Act→World→Prop) (S:World→Prop) (late:Nat→Bool) (fuel:Nat) (listed:Array Bool) (a:Act) (w:World) (i:Nat) (o:Oper):Prop:=
 Region.ready md ops listed=[i]∧∀K':Act→World→Prop,Shut (∀a w,(late i=false→S w)→((late i=false→S w)→HUc P md ops Q S late fuel (listed.setIfInBounds i true) a w)→K' a w) →
  if Region.wanted o (yielded ops a.tmps)=true then Oper.wp P o a w K' Q else K' (a.put o.dst undef) w
theorem callHU {i:Nat} {o:Oper} {fuel:Nat} {listed:Array Bool} {a:Act} {w:World} (hi:ops[i]?=some o) (h:CallHU P md ops Q S late fuel listed a w i o):HUc P md ops Q S late (fuel+1) listed a w:=by
 obtain⟨hr,h⟩:=h;intro hc;refine⟨fun h0=>absurd (hr▸h0) (by simp),fun j hj=>?_⟩;have hj':=hj;rw [hr]at hj
 cases List.mem_singleton.1 hj
 exact wpOp_step hi (fun K' hK=>h K' (fun a w hS hW=>hK a w ⟨hS,hW hS (hc.step hj')⟩))
theorem doneHU {listed:Array Bool} {a:Act} {w:World} (hr:Region.ready md ops listed=[]) (h:Q .normal a w):∀fuel,HUc P md ops Q S late fuel listed a w
 | 0=>fun _=>⟨hr,h⟩
 | _+1=>fun _=>⟨fun _=>h,by rw [hr];simp⟩
theorem tu1 {v:Value} {i:Nat} {oi:Oper} {fuel:Nat} {listed:Array Bool} {a:Act} {w:World} {G:Prop} (h:G) (hg:gated md ops late 12=true:=by kernel_rfl) (hi:ops[i]?=some oi:=by(simp only [gA,gS,gZ];rfl)) (h0:late i=false:=by rfl) (h1:Region.noSelect ops=true:=by kernel_rfl) (h2:Region.free md ops listed i=true:=by kernel_rfl) (h3:(Region.ready md ops listed).contains i=true:=by kernel_rfl) (h4:∀c a w,Q (.panic c) (a.put oi.dst v) w→Q (.panic c) a w:=by exact fun _ _ _ h=>h) (hw:Region.wanted oi (yielded ops a.tmps)=true:=by rfl) (hy:∀w,S w→(execOp a.eval oi).run P w = .ok (.value v) w:=by(intro w hSw;simp only [CellL,and_true]at hSw;go_simp;try(with_reducible rfl))) (h6:S w:=by(with_reducible assumption)) (hG:HUc P md ops Q S late fuel (listed.setIfInBounds i true) (a.put oi.dst v) w=G:=by((try simp only [Act.put,sA,sZ,sS]);rfl)):HUc P md ops Q S late (fuel+1) listed a w:=by
 subst hG;exact takeHU hg hi ⟨v,h0,h1,h2,h3,h4,Or.inl ⟨hw,hy⟩,h6,h⟩
theorem tun {v:Value} {i:Nat} {oi:Oper} {fuel:Nat} {listed:Array Bool} {a:Act} {w:World} {G:Prop} (h:G) (hg:gated md ops late 12=true:=by kernel_rfl) (hi:ops[i]?=some oi:=by(simp only [gA,gS,gZ];rfl)) (h0:late i=false:=by rfl) (h1:Region.noSelect ops=true:=by kernel_rfl) (h2:Region.free md ops listed i=true:=by kernel_rfl) (h3:(Region.ready md ops listed).contains i=true:=by kernel_rfl) (h4:∀c a w,Q (.panic c) (a.put oi.dst v) w→Q (.panic c) a w:=by exact fun _ _ _ h=>h) (hw:Region.wanted oi (yielded ops a.tmps)=true:=by rfl) (hy:∀w,S w→(execOp a.eval oi).run P w = .ok (.value v) w:=by(intro w hSw;simp only [CellL,and_true]at hSw;go_simp;try(with_reducible rfl))) (h6:S w:=by(with_reducible assumption)) (hG:wpN (i+1) (HUc P md ops Q S late fuel (listed.setIfInBounds i true) (a.put oi.dst v) w)=G:=by((try simp only [Act.put,sA,sZ,sS,Nat.reduceAdd]);rfl)):wpN i (HUc P md ops Q S late (fuel+1) listed a w):=by
 subst hG;exact takeHU hg hi ⟨v,h0,h1,h2,h3,h4,Or.inl ⟨hw,hy⟩,h6,h⟩
theorem cu1 {i:Nat} {o:Oper} {fuel:Nat} {listed:Array Bool} {a:Act} {w:World} (h:∀K':Act→World→Prop,Shut (∀a w,(late i=false→S w)→((late i=false→S w)→HUc P md ops Q S late fuel (listed.setIfInBounds i true) a w)→K' a w)→if Region.wanted o (yielded ops a.tmps)=true then Oper.wp P o a w K' Q else K' (a.put o.dst undef) w) (hi:ops[i]?=some o:=by(simp only [gA,gS,gZ];rfl)) (hr:Region.ready md ops listed=[i]:=by kernel_rfl):HUc P md ops Q S late (fuel+1) listed a w:=callHU hi ⟨hr,h⟩
theorem callHU2 {i j:Nat} {oi oj:Oper} {fuel:Nat} {listed:Array Bool} {a:Act} {w:World}
  (h1:∀K':Act→World→Prop,Shut (∀a w,(late i=false→S w)→((late i=false→S w)→HUc P md ops Q S late fuel (listed.setIfInBounds i true) a w)→K' a w)→if Region.wanted oi (yielded ops a.tmps)=true then Oper.wp P oi a w K' Q else K' (a.put oi.dst undef) w)
  (h2:∀K':Act→World→Prop,Shut (∀a w,(late j=false→S w)→((late j=false→S w)→HUc P md ops Q S late fuel (listed.setIfInBounds j true) a w)→K' a w)→if Region.wanted oj (yielded ops a.tmps)=true then Oper.wp P oj a w K' Q else K' (a.put oj.dst undef) w)
  (hi:ops[i]?=some oi:=by(simp only [gA,gS,gZ];rfl)) (hj:ops[j]?=some oj:=by(simp only [gA,gS,gZ];rfl)) (hr:Region.ready md ops listed=[i,j]:=by kernel_rfl) :
  HUc P md ops Q S late (fuel+1) listed a w:=by
 intro hc;refine⟨fun h0=>absurd (hr▸h0) (by simp),fun k hk=>?_⟩;have hk':=hk;rw [hr]at hk
 rcases List.mem_cons.1 hk with rfl|hk2
 ·exact wpOp_step hi (fun K' hK=>h1 K' (fun a w hS hW=>hK a w ⟨hS,hW hS (hc.step hk')⟩))
 ·cases List.mem_singleton.1 hk2
  exact wpOp_step hj (fun K' hK=>h2 K' (fun a w hS hW=>hK a w ⟨hS,hW hS (hc.step hk')⟩))
theorem wp_region_HU {id:Nat} {a:Act} {w:World} (late:Nat→Bool) (S:World→Prop) (hm:P.follows .mixedOrders=true) (hS:S w.drew)
  (h:S w.drew→HUc P .any ops Q S late ops.size (Array.replicate ops.size false) a w.drew):(Code.region id ops true).wp P Q a w:=
 wp_region_any hm (wpAny_of_HU _ _ _ _ (h hS (Cl.start _)))
end
theorem top_ground (w:World) (vg vs:Value) (b:Int) (hb:b<0) (hg:∃a n c,vg = .slice a n c) (hs:∃a n c,vs = .slice a n c) :
  Calls Tryz.prog 68 #[.agg #[vg,vs],.int .i64 b] w fun e w'=>e = .returned vg∧Ext w w':=by
 obtain⟨ga,gn,gc,rfl⟩:=hg;obtain⟨sa,sn,sc,rfl⟩:=hs;go_enter Tryz.func68,Tryz.ntmps68;go_wp2;go_ret;exact⟨rfl,eA⟩
theorem top_stone (w:World) (vg vs:Value) (ps:List Pl) (i:Nat) (p:Pl) (hg:∃a n c,vg = .slice a n c) (hs:IsLas w vs ps) (hp:ps[i]?=some p) :
  Calls Tryz.prog 68 #[.agg #[vg,vs],.int .i64 i] w fun e w'=>∃v,e = .returned v∧IsPts w' v (upP2 p)∧Ext w w':=by
 obtain⟨ga,gn,gc,rfl⟩:=hg;obtain⟨sa,n,sc,rfl⟩:=form3 hs;have hl:=hs.len;have hle:=hs.le;obtain⟨b,o,s,vl,vu,rfl,hb,d1,d2,d3,hc⟩:=hs.at' hp;obtain⟨ua,un,uc,rfl⟩:=form3 d3;have cc:=hc 11 (.slice ua un uc) rfl;have hi:=(lS.1 hp).1;have p1:(0:Int)≤(i:Int):=by omega
 have p2:(i:Int)<(n:Int):=by omega
 have p3:i<n:=by omega
 have p4:¬(i:Int)<0:=by omega
 have HD:=hd9 d3;clear hs hp hc d1 d2 d3 hl hle hi;go_enter Tryz.func68,Tryz.ntmps68;go_wp2;go_ret;exact⟨_,rfl,HD.out.ext' eA,eA⟩
def wrongB (n:Nat) (i pin:Int):Bool:=decide (i<0) || (decide ((n:Int)≤i) || (decide (pin<0) || decide (50<pin)))
theorem wrong_any (w:World) (vg:Value) (sa:Option Addr) (n sc:Nat) (i pin:Int) (hg:∃a n c,vg = .slice a n c) :
  Calls Tryz.prog 31 #[.agg #[vg,.slice sa n sc],.int .i64 i,.int .i64 pin] w fun e w'=>e = .returned (.bool (wrongB n i pin))∧Ext w w':=by
 obtain⟨ga,gn,gc,rfl⟩:=hg
 by_cases h1:i<0
 ·have e:wrongB n i pin=true:=by unfold wrongB;simp [h1]
  rw [e];go_enter Tryz.func31,Tryz.ntmps31;go_wp2;go_ret;exact⟨rfl,eA⟩
 by_cases h2:(n:Int)≤i
 ·have e:wrongB n i pin=true:=by unfold wrongB;simp [h2]
  rw [e];go_enter Tryz.func31,Tryz.ntmps31;go_wp2;go_ret;exact⟨rfl,eA⟩
 by_cases h3:pin<0
 ·have e:wrongB n i pin=true:=by unfold wrongB;simp [h3]
  rw [e];go_enter Tryz.func31,Tryz.ntmps31;go_wp2;go_ret;exact⟨rfl,eA⟩
 ·have e:wrongB n i pin=decide (50<pin):=by unfold wrongB;rw [decide_eq_false h1,decide_eq_false h2,decide_eq_false h3];rfl
  rw [e];go_enter Tryz.func31,Tryz.ntmps31;go_wp2;go_ret;exact⟨rfl,eA⟩
theorem two_heapJ (w:World) (o o':Obj):((w.alloc o).alloc o').heap[w.heap.size+1]?=some o':=qhA _ _ _ (by simp)
def IsV (w:World) (v:Value) (x z:Rat):Prop:=∃a m c s a2 m2 c2 b n k t b2 n2 k2,v = .agg #[.slice a m c,.bool s,.slice a2 m2 c2,.slice b n k,.bool t,.slice b2 n2 k2]∧IsR w (.agg #[.slice a m c,.bool s,.slice a2 m2 c2]) x∧IsR w (.agg #[.slice b n k,.bool t,.slice b2 n2 k2]) z
theorem IsV.ext {w w':World} {v:Value} {x z:Rat} (h:IsV w v x z) (k:Ext w w'):IsV w' v x z:=by
 obtain⟨a,m,c,s,a2,m2,c2,b,n,k1,t,b2,n2,k2,h1,h2,h3⟩:=h;exact⟨a,m,c,s,a2,m2,c2,b,n,k1,t,b2,n2,k2,h1,h2.ext k,h3.ext k⟩
theorem bedend_any (w:World) (vx:Value) (x:Rat) (p:Pl) (bl:Nat) (s vl vu:Value) (hx:IsR w vx x) (hb:Rb 1000 x) (hbl:w.heap[bl]?=some (.cells (lac p s vl vu) 145 (0,0))) (hl:IsPts w vl (lowP2 p)) (hok:LnOk (lowP2 p)) :
  Calls Tryz.prog 71 #[vx,.pointer (some ⟨bl,0,none⟩)] w fun e w'=>∃v,e = .returned v∧IsV w' v x (atR (lowP2 p) x)∧Ext w w':=by
 have HA:=hd9 (fun W (hW:Ext w W)=>lat_any W vl vx (lowP2 p) x (hl.ext' hW) hok (hx.ext hW) hb);obtain⟨xa,xm,xc,xs,xa2,xm2,xc2,rfl⟩:=hx.form;obtain⟨la,ln,lc,rfl⟩:=form3 hl;have c10:=qcB hbl (i:=10) (u:=.slice la ln lc) rfl;have zb:=heap_lt hbl;have zb1:bl<w.heap.size+1:=by omega
 have zb2:bl<w.heap.size+1+1:=by omega
 obtain⟨q,hq⟩:∃q,atR (lowP2 p) x=q:=⟨_,rfl⟩;rw [hq]at HA ⊢;have Hx:=hd9 hx;clear hl hbl hx hq;go_enter Tryz.func71,Tryz.ntmps71;go_wp2;refine wp_region_held_drew (S:=CellL [(⟨w.heap.size,0,none⟩,.slice xa xm xc),(⟨w.heap.size,1,none⟩,.bool xs),(⟨w.heap.size,2,none⟩,.slice xa2 xm2 xc2),(⟨bl,10,none⟩,.slice la ln lc)]) (by kernel_rfl) (by refine⟨?_,?_,?_,?_,trivial⟩<;>go_simp) (fun hHeld=>?_);refine sN 0 ?_
 iterate 4
  refine tkn ?_
 refine oN ?_;refine cl1 (i:=4) fun K hK=>?_
 go_simp
 (with_reducible refine Calls.mono (HA.out _ eA) ?_)
 rintro e w3 ⟨v3,rfl,hr3,hx3⟩;obtain⟨a3,m3,c3,s3,b3,n3,k3,rfl⟩:=hr3.form
 go_wp2_with fail
 refine kO hK (CellL.ext hHeld hx3) (fun hHeld=>?_);clear hK K;refine tk1 (i:=5) ?_;have K3:=hx3.heapS (two_heapJ w (.cells #[.slice xa xm xc,.bool xs,.slice xa2 xm2 xc2] 56) (.cells #[.slice none 0 0,.bool false,.slice none 0 0,.slice none 0 0,.bool false,.slice none 0 0] 58));have k0:=qcB K3 (i:=0) (u:=.slice none 0 0) rfl;have k1:=qcB K3 (i:=1) (u:=.bool false) rfl;have k2:=qcB K3 (i:=2) (u:=.slice none 0 0) rfl;have k3':=qcB K3 (i:=3) (u:=.slice none 0 0) rfl;have k4:=qcB K3 (i:=4) (u:=.bool false) rfl;have k5:=qcB K3 (i:=5) (u:=.slice none 0 0) rfl;have kf:=qfB K3;have hX3:Ext w w3:=((((Ext.refl w).alloc _).alloc _).drew).trans hx3
 have Hne:=hd9 (show ∀q∈[((⟨w.heap.size,0,none⟩:Addr),Value.slice xa xm xc),(⟨w.heap.size,1,none⟩,.bool xs),(⟨w.heap.size,2,none⟩,.slice xa2 xm2 xc2),(⟨bl,10,none⟩,.slice la ln lc)],w.heap.size+1≠q.1.block from fun q hq h=>by
  simp at hq
  rcases hq with rfl|rfl|rfl|rfl<;>(dsimp only at h;omega))
 have HK3:=hd9 K3;have HX3:=hd9 hX3;have Hr3:=hd9 hr3;clear K3 hX3 hr3;refine cl1 (i:=6) fun K hK=>?_
 go_simp;refine kO hK (CellL.set (p:=⟨w.heap.size+1,5,none⟩) (CellL.set (p:=⟨w.heap.size+1,4,none⟩) (CellL.set (p:=⟨w.heap.size+1,3,none⟩) (CellL.set (p:=⟨w.heap.size+1,2,none⟩) (CellL.set (p:=⟨w.heap.size+1,1,none⟩) (CellL.set (p:=⟨w.heap.size+1,0,none⟩) hHeld Hne.out _) Hne.out _) Hne.out _) Hne.out _) Hne.out _) Hne.out _) (fun hHeld=>?_);clear hK K;refine wpAnyH_done (by kernel_rfl) ?_ _;go_wp2;have n0:NoT 2 w3 (w.heap.size+1):=by intro cs fr e;rw [HK3.out]at e;cases e
 have hk9:∀(u0 u1 u2 u3 u4 u5:Value),KeepT 2 w3 ((((((w3.setCell ⟨w.heap.size+1,0,none⟩ u0).setCell ⟨w.heap.size+1,1,none⟩ u1).setCell ⟨w.heap.size+1,2,none⟩ u2).setCell ⟨w.heap.size+1,3,none⟩ u3).setCell ⟨w.heap.size+1,4,none⟩ u4).setCell ⟨w.heap.size+1,5,none⟩ u5):=fun u0 u1 u2 u3 u4 u5=>by
  repeat(first|with_reducible exact KeepT.refl _ _|(with_reducible refine KeepT.setN ?_ ?_ _)|with_reducible exact n0|with_reducible refine NoT.set ?_ _ _)
 refine bodyPost_ret (v:=.agg #[.slice xa xm xc,.bool xs,.slice xa2 xm2 xc2,.slice a3 m3 c3,.bool s3,.slice b3 n3 k3]) (by simp [results,Tryz.results71,go_sem,k0,k1,k2,k3',k4,k5,kf]) rfl ⟨_,rfl,⟨_,_,_,_,_,_,_,_,_,_,_,_,_,_,rfl,(Hx.out.ext HX3.out).keep (hk9 _ _ _ _ _ _),Hr3.out.keep (hk9 _ _ _ _ _ _)⟩,?_⟩
 repeat(first|with_reducible exact HX3.out|(with_reducible refine Ext.set ?_ (by dsimp only;omega) _))
def pickR (way:Int) (p q:Rat):Rat:=if rcmp q p=way then q else p
def foldR (way:Int):List Rat→Rat
 | []=>0
 | x::xs=>xs.foldl (pickR way) x
theorem foldR_snoc (way:Int) (xs:List Rat) (x:Rat) (h:xs≠[]):foldR way (xs++[x])=pickR way (foldR way xs) x:=by
 cases xs with
 | nil=>exact absurd rfl h
 | cons y ys=>simp [foldR]
theorem pickR_mem (way:Int) (p q:Rat):pickR way p q=p∨pickR way p q=q:=by unfold pickR;split<;>simp
theorem foldR_all (way:Int) (P:Rat→Prop) (xs:List Rat) (h:∀x∈xs,P x) (h0:P 0):P (foldR way xs):=by
 cases xs with
 | nil=>exact h0
 | cons x xs =>
  have:∀(ys:List Rat) (a:Rat),P a→(∀y∈ys,P y)→P (ys.foldl (pickR way) a):=by
   intro ys
   induction ys with
   | nil=>intro a ha _;exact ha
   | cons y ys ih =>
    intro a ha hy;refine ih _ ?_ (fun z hz=>hy z (List.mem_cons_of_mem _ hz))
    rcases pickR_mem way a y with e|e<;>rw [e]
    ·exact ha
    ·exact hy y (by simp)
  exact this xs x (h x (by simp)) (fun y hy=>h y (List.mem_cons_of_mem _ hy))
theorem Rb.zero {k:Nat} (hk:1≤k):Rb k 0:=⟨by have:=pow_pos' B_pos k;unfold Lm;simp;omega,lm_one hk⟩
theorem chosen1_any (w:World) (va vb:Value) (p q:Rat) (way:Int) (bw:Nat) (ha:IsR w va p) (hb:IsR w vb q) (hba:Rb limR p) (hbb:Rb limR q) (hw:w.cell? ⟨bw,0,none⟩=some (.int .i64 way)) :
  Calls Tryz.prog 194 #[va,vb,.pointer (some ⟨bw,0,none⟩)] w (RetR w (pickR way p q)):=by
 obtain⟨a,m,c,s,a2,m2,c2,rfl⟩:=ha.form;obtain⟨a',m',c',s',a2',m2',c2',rfl⟩:=hb.form;have HBa:=hd9 hba;have HBb:=hd9 hbb;clear hba hbb;have zw:bw<w.heap.size:=World.block_lt_of_cell? w _ hw;have zwa:bw<w.heap.size+1:=by omega
 have zwb:bw<w.heap.size+1+1:=by omega
 by_cases hc:rcmp q p=way
 ·have hcb:(rcmp q p==way)=true:=by simpa using hc
  have hR:IsR w (.agg #[.slice a' m' c',.bool s',.slice a2' m2' c2']) (pickR way p q):=by unfold pickR;first|(rw [if_pos hc];exact hb)|(rw [if_neg hc];exact ha)
  clear hc;go_enter Tryz.func194,Tryz.ntmps194;go_wp2
  go_region_held3 (fun W=>W.cell? ⟨w.heap.size,0,none⟩=some (.slice a m c)∧W.cell? ⟨w.heap.size,1,none⟩=some (.bool s)∧W.cell? ⟨w.heap.size,2,none⟩=some (.slice a2 m2 c2)∧W.cell? ⟨w.heap.size+1,0,none⟩=some (.slice a' m' c')∧W.cell? ⟨w.heap.size+1,1,none⟩=some (.bool s')∧W.cell? ⟨w.heap.size+1,2,none⟩=some (.slice a2' m2' c2')∧W.cell? ⟨bw,0,none⟩=some (.int .i64 way)) ((repeat' (with_reducible refine And.intro ?_ ?_))<;>(first|(go_simp;done)|(refine hx1.cellS ?_;go_simp;done))) (((go_at_call 104;(with_reducible refine(rcmp_any _ (.agg #[.slice a' m' c',.bool s',.slice a2' m2' c2']) (.agg #[.slice a m c,.bool s,.slice a2 m2 c2]) q p ?_ ?_ HBb.out HBa.out).mono ?_);(refine hb.ext ?_;exact eA);(refine ha.ext ?_;exact eA);rintro e w1 ⟨rfl,hx1⟩;obtain⟨hc1,hf1⟩:=hx1.cells;(try simp only [qcD,qfD,qdZ]at hc1 hf1);have z1_0:=hx1.lt (n:=w.heap.size) (by go_simp);have z1_1:=hx1.lt (n:=w.heap.size+1) (by go_simp);have z1_2:=hx1.lt (n:=w.heap.size+1+1) (by go_simp);(have zw1:=hx1.lt (n:=bw) (by simp only [wZ,qdZ];omega)))))
  all_goals go_wp2
  exact bodyPost_ret (v:=.agg #[.slice a' m' c',.bool s',.slice a2' m2' c2']) (by simp [results,Tryz.results194,go_sem,hc1]) rfl ⟨_,rfl,IsR.keep (w:=w1) (hR.ext eA) kA,eA⟩
 ·have hcb:(rcmp q p==way)=false:=by simpa using hc
  have hR:IsR w (.agg #[.slice a m c,.bool s,.slice a2 m2 c2]) (pickR way p q):=by unfold pickR;first|(rw [if_pos hc];exact hb)|(rw [if_neg hc];exact ha)
  clear hc;go_enter Tryz.func194,Tryz.ntmps194;go_wp2
  go_region_held3 (fun W=>W.cell? ⟨w.heap.size,0,none⟩=some (.slice a m c)∧W.cell? ⟨w.heap.size,1,none⟩=some (.bool s)∧W.cell? ⟨w.heap.size,2,none⟩=some (.slice a2 m2 c2)∧W.cell? ⟨w.heap.size+1,0,none⟩=some (.slice a' m' c')∧W.cell? ⟨w.heap.size+1,1,none⟩=some (.bool s')∧W.cell? ⟨w.heap.size+1,2,none⟩=some (.slice a2' m2' c2')∧W.cell? ⟨bw,0,none⟩=some (.int .i64 way)) ((repeat' (with_reducible refine And.intro ?_ ?_))<;>(first|(go_simp;done)|(refine hx1.cellS ?_;go_simp;done))) (((go_at_call 104;(with_reducible refine(rcmp_any _ (.agg #[.slice a' m' c',.bool s',.slice a2' m2' c2']) (.agg #[.slice a m c,.bool s,.slice a2 m2 c2]) q p ?_ ?_ HBb.out HBa.out).mono ?_);(refine hb.ext ?_;exact eA);(refine ha.ext ?_;exact eA);rintro e w1 ⟨rfl,hx1⟩;obtain⟨hc1,hf1⟩:=hx1.cells;(try simp only [qcD,qfD,qdZ]at hc1 hf1);have z1_0:=hx1.lt (n:=w.heap.size) (by go_simp);have z1_1:=hx1.lt (n:=w.heap.size+1) (by go_simp);have z1_2:=hx1.lt (n:=w.heap.size+1+1) (by go_simp);(have zw1:=hx1.lt (n:=bw) (by simp only [wZ,qdZ];omega)))))
  all_goals go_wp2
  exact bodyPost_ret (v:=.agg #[.slice a m c,.bool s,.slice a2 m2 c2]) (by simp [results,Tryz.results194,go_sem,hc1]) rfl ⟨_,rfl,IsR.keep (w:=w1) (hR.ext eA) kA,eA⟩
def FoS (w:World) (way:Int) (qs:List Rat) (g:Nat) (t10:Value) (W:World):Prop:=
 ∃i:Nat,i≤qs.length∧t10 = .int .i64 i∧g=qs.length-i∧Ext w W∧RB W w.heap.size 0∧RB W (w.heap.size+1) (foldR way (qs.take i))
theorem fold_any (w:World) (v:Value) (qs:List Rat) (way:Int) (bw:Nat) (hs:IsRs w v qs) (hb:∀q∈qs,Rb limR q) (hw:w.cell? ⟨bw,0,none⟩=some (.int .i64 way)) :
  Calls Tryz.prog 193 #[v,.func (.func 194) #[] #[.pointer (some ⟨bw,0,none⟩)]] w (RetR w (foldR way qs)):=by
 obtain⟨a,c,rfl⟩:=hs.form;obtain⟨n,hn⟩:∃n,qs.length=n:=⟨_,rfl⟩;rw [hn]at hs ⊢;have hle:=hs.le;unfold maxLen at hle;have Hn:=hd9 hn;have Hb:=hd9 hb;have zw:bw<w.heap.size:=World.block_lt_of_cell? w _ hw;have hnc:n≤9223372036854775807:=by omega
 clear hn hb hle;go_enter Tryz.func193,Tryz.ntmps193;go_wp2
 go_loopg [10] n (FoS w way qs)
 case atStart =>
  refine⟨0,by omega,rfl,by rw [Hn.out];rfl,eA,RB.ext (W:=w.alloc (.cells #[.slice none 0 0,.bool false,.slice none 0 0] 56)) (RB.new (IsR.zero _) rfl) eA,RB.new (IsR.zero _) (by simp)⟩
 case round =>
  obtain⟨i,hi,rfl,rfl,hx,hR,hO⟩:=hrel;rw [Hn.out]at hi;have Hx:=hd9 hx;obtain⟨a0,m0,c0,s0,a20,m20,c20,r0,r1,r2,rf0,rf1,rf2,zr,hzr⟩:=hR.rd;obtain⟨a1,m1,c1,s1,a21,m21,c21,o0,o1,o2,of0,of1,of2,zo,hzo⟩:=hO.rd
  by_cases hlt:i<n
  ·obtain⟨x,hxi⟩:∃x,qs[i]?=some x:=⟨qs[i]'(by rw [Hn.out];omega),by simp [Hn.out,hlt]⟩
   obtain⟨b,o,a3,m3,c3,s3,a4,m4,c4,rfl,hbl,hzx,e0,e1,e2⟩:=(hs.ext' hx).at' hxi;have Hxi:=hd9 hxi;clear hxi
   by_cases h0:i=0
   ·have h0b:((i:Int)==0)=true:=by simp;omega
    have H0:=hd9 h0;clear h0;go_wp2
    go_roundg (n-(i+1))
    case measure=>have:=Hn.out;omega
    case rel =>
     have hN:=hO.not
     have e:foldR way (qs.take (i+1))=x:=by
      have:=H0.out;subst this;rw [take_add_one' _ _ _ Hxi.out];simp [foldR]
     exact⟨i+1,by have:=Hn.out;omega,by go_num,by rw [Hn.out],eA,
      (((hR.other (by dsimp only;omega) hN _).other (by dsimp only;omega) (hN.set _ _) _).other (by dsimp only;omega) ((hN.set _ _).set _ _) _).ext ((Ext.refl _).alloc _),
      by rw [e];exact(hO.put hzx).ext ((Ext.refl _).alloc _)⟩
   ·have h0b:((i:Int)==0)=false:=by simp;omega
    have H0:=hd9 h0;have HBo:Hid (Rb limR (foldR way (qs.take i))):=hd9 (foldR_all way _ _ (fun q hq=>Hb.out q (List.mem_of_mem_take hq)) (Rb.zero (by decide)));have HBx:Hid (Rb limR x):=hd9 (Hb.out x (lM Hxi.out));clear h0
    go_wp2_with(((go_at_call 194;(with_reducible refine(chosen1_any _ (.agg #[.slice a1 m1 c1,.bool s1,.slice a21 m21 c21]) (.agg #[.slice a3 m3 c3,.bool s3,.slice a4 m4 c4]) (foldR way (qs.take i)) x way bw ?_ ?_ HBo.out HBx.out ?_).mono ?_);(refine hzo.ext ?_;exact eA);(refine hzx.ext ?_;exact eA);(refine Ext.cellS (a:=w) ?_ hw;exact eA);rintro e w1 ⟨r1,rfl,hr1,hx1⟩;obtain⟨b1,n1,k1,t1,b2,n2,k2,rfl⟩:=hr1.form;obtain⟨hc1,hf1⟩:=hx1.cells;(try simp only [qcD,qfD,qdZ]at hc1 hf1);have z1_0:=hx1.lt (n:=w.heap.size) (by go_simp);have z1_1:=hx1.lt (n:=w.heap.size+1) (by go_simp))))
    go_roundg (n-(i+1))
    case measure=>have:=Hn.out;omega
    case rel =>
     have hx9:Ext wr w1:=((Ext.refl wr).alloc _).trans hx1;have hO1:=hO.ext hx9;have hR1:=hR.ext hx9;have hN:=hO1.not
     have e:foldR way (qs.take (i+1))=pickR way (foldR way (qs.take i)) x:=by
      rw [take_add_one' _ _ _ Hxi.out,foldR_snoc];intro h;have h2:(qs.take i).length=0:=by rw [h];rfl
      rw [List.length_take,Hn.out]at h2;have:=H0.out;omega
     exact⟨i+1,by have:=Hn.out;omega,by go_num,by rw [Hn.out],eA,
      (((hR1.other (by dsimp only;omega) hN _).other (by dsimp only;omega) (hN.set _ _) _).other (by dsimp only;omega) ((hN.set _ _).set _ _) _),
      by rw [e];exact hO1.put hr1⟩
  ·obtain rfl:i=n:=by omega
   have e:foldR way (qs.take i)=foldR way qs:=by rw [lT (by rw [Hn.out];omega)]
   rw [e]at hzo;clear e;have hN:=hR.not;go_wp2;exact bodyPost_ret (v:=.agg #[.slice a1 m1 c1,.bool s1,.slice a21 m21 c21]) (by simp [results,Tryz.results193,go_sem,r0,r1,r2]) rfl ⟨_,rfl,hzo.keep kA,eA⟩
theorem chosen_any (w:World) (v:Value) (qs:List Rat) (way:Int) (hs:IsRs w v qs) (hb:∀q∈qs,Rb limR q) :
  Calls Tryz.prog 150 #[v,.int .i64 way] w (RetR w (foldR way qs)):=by
 obtain⟨a,c,rfl⟩:=hs.form;have hmf:∀(fn:Fn) (first cap:Array Value) (w:World),(Instr.makeFunc fn first cap).run Tryz.prog w = .ok (.func fn first cap) w:=fun _ _ _ _=>rfl
 have Hb:=hd9 hb;obtain⟨n,hn⟩:∃n,qs.length=n:=⟨_,rfl⟩;rw [hn]at hs ⊢;clear hb hn;go_enter Tryz.func150,Tryz.ntmps150
 go_wp2_with(((go_at_call 193;(with_reducible refine(fold_any _ (.slice a n c) qs way w.heap.size ?_ Hb.out ?_).mono ?_);(refine hs.ext' ?_;exact eA);(focus(go_simp;done));rintro e w1 ⟨r1,rfl,hr1,hx1⟩;obtain⟨b1,n1,k1,t1,b2,n2,k2,rfl⟩:=hr1.form;obtain⟨hc1,hf1⟩:=hx1.cells;(try simp only [qcD,qfD,qdZ]at hc1 hf1);have z1_0:=hx1.lt (n:=w.heap.size) (by go_simp);have z1_1:=hx1.lt (n:=w.heap.size+1) (by go_simp))))
 exact bodyPost_ret (v:=.agg #[.slice b1 n1 k1,.bool t1,.slice b2 n2 k2]) (by simp [results,Tryz.results150,go_sem,hc1]) rfl ⟨_,rfl,hr1.keep kA,eA⟩
theorem rmin_any (w:World) (v:Value) (qs:List Rat) (hs:IsRs w v qs) (hb:∀q∈qs,Rb limR q) :
  Calls Tryz.prog 109 #[v] w (RetR w (foldR (-1) qs)):=by
 obtain⟨a,c,rfl⟩:=hs.form;have Hb:=hd9 hb;obtain⟨n,hn⟩:∃n,qs.length=n:=⟨_,rfl⟩;rw [hn]at hs ⊢;clear hb hn;go_enter Tryz.func109,Tryz.ntmps109
 go_wp2_with(((go_at_call 150;(with_reducible refine(chosen_any _ (.slice a n c) qs (-1) ?_ Hb.out).mono ?_);(refine hs.ext' ?_;exact eA);rintro e w1 ⟨r1,rfl,hr1,hx1⟩;obtain⟨b1,n1,k1,t1,b2,n2,k2,rfl⟩:=hr1.form;obtain⟨hc1,hf1⟩:=hx1.cells;(try simp only [qcD,qfD,qdZ]at hc1 hf1);have z1_0:=hx1.lt (n:=w.heap.size) (by go_simp))))
 exact bodyPost_ret (v:=.agg #[.slice b1 n1 k1,.bool t1,.slice b2 n2 k2]) (by simp [results,Tryz.results109,go_sem,hc1]) rfl ⟨_,rfl,hr1.keep kA,eA⟩
theorem rmax_any (w:World) (v:Value) (qs:List Rat) (hs:IsRs w v qs) (hb:∀q∈qs,Rb limR q) :
  Calls Tryz.prog 110 #[v] w (RetR w (foldR (1) qs)):=by
 obtain⟨a,c,rfl⟩:=hs.form;have Hb:=hd9 hb;obtain⟨n,hn⟩:∃n,qs.length=n:=⟨_,rfl⟩;rw [hn]at hs ⊢;clear hb hn;go_enter Tryz.func110,Tryz.ntmps110
 go_wp2_with(((go_at_call 150;(with_reducible refine(chosen_any _ (.slice a n c) qs (1) ?_ Hb.out).mono ?_);(refine hs.ext' ?_;exact eA);rintro e w1 ⟨r1,rfl,hr1,hx1⟩;obtain⟨b1,n1,k1,t1,b2,n2,k2,rfl⟩:=hr1.form;obtain⟨hc1,hf1⟩:=hx1.cells;(try simp only [qcD,qfD,qdZ]at hc1 hf1);have z1_0:=hx1.lt (n:=w.heap.size) (by go_simp))))
 exact bodyPost_ret (v:=.agg #[.slice b1 n1 k1,.bool t1,.slice b2 n2 k2]) (by simp [results,Tryz.results110,go_sem,hc1]) rfl ⟨_,rfl,hr1.keep kA,eA⟩
end Go.Proofs.YteipgejmhfpkaaaGreatDoor.Cop
namespace Go.Proofs.YteipgejmhfpkaaaGreatDoor.Cop
open Go.RowKit Go.Shelf
attribute [local go_sem] Oper.semAt_some
def widR (o:Rat×Rat) (x:Rat):Rat×Rat:=(foldR (-1) [o.1,x],foldR 1 [o.2,x])
def reachStep (f:Rat→Rat) (o:Rat×Rat) (x:Rat):Rat×Rat:=if (f x).num.sign≤0 then widR o x else o
def crossR (f:Rat→Rat) (y x:Rat):Rat:=y+f y / (f y-f x)*(x-y)
def reachCross (f:Rat→Rat) (o:Rat×Rat) (y x:Rat):Rat×Rat:=if (f x).num.sign*(f y).num.sign<0 then widR o (crossR f y x)else o
def reachN (f:Rat→Rat) (qs:List Rat) (o:Rat×Rat):Nat→Rat×Rat
 | 0=>o
 | i+1=>if i=0 then reachStep f (reachN f qs o i) (qs.getD i 0)else reachCross f (reachStep f (reachN f qs o i) (qs.getD i 0)) (qs.getD (i-1) 0) (qs.getD i 0)
def pinG (s:Sp) (pin:Int) (x:Rat):Rat:=gapR s x-(pin:Rat)
def reachNo (s:Sp) (pin:Int):Bool:=decide ((leastR s).2.num.sign<0) || decide (0<rcmp (leastR s).2 (pin:Rat))
def reachP (s:Sp) (pin:Int):Option (Rat×Rat):=
 if reachNo s pin=true then none else some (reachN (pinG s pin) (stopsR s) ((leastR s).1,(leastR s).1) (stopsR s).length)
theorem Rb.up {j k:Nat} {q:Rat} (h:Rb j q) (hk:j≤k):Rb k q:=by exact⟨h.1.mono hk,h.2.mono hk⟩
theorem foldR_two {P:Rat→Prop} (way:Int) {p q:Rat} (hp:P p) (hq:P q):P (foldR way [p,q]):=by
 show P (pickR way p q)
 rcases pickR_mem way p q with e|e<;>rw [e]<;>assumption
theorem Rb.wid {k:Nat} {o:Rat×Rat} {x:Rat} (h:Rb k o.1∧Rb k o.2) (hx:Rb k x):Rb k (widR o x).1∧Rb k (widR o x).2:=⟨foldR_two _ h.1 hx,foldR_two _ h.2 hx⟩
theorem Rb.pin_g {s:Sp} {pin:Int} {x:Rat} (hx:Rb 1 x) (h:SpOk s) (hp:Bd 104000 pin):Rb 47 (pinG s pin x):=
 (Rb.gap hx h).sub (Rb.int (by unfold Bd at hp;unfold Lm;have h9:(B:Int) ^ 23 ≥ 104001:=(by decide);omega) (by decide))
theorem Rb.cross {f:Rat→Rat} {y x:Rat} (hy:Rb 1 y) (hx:Rb 1 x) (hf:Rb 47 (f y)) (hg:Rb 47 (f x)):Rb 291 (crossR f y x):=by
 have h1:Rb (47+(2*47+1)+(2*1+1)) (f y / (f y-f x)*(x-y)):=(hf.div (hf.sub hg) (by decide)).mul (hx.sub hy);exact(hy.up (by decide:1≤145)).add h1
theorem Rb.reach_n {f:Rat→Rat} {qs:List Rat} {o:Rat×Rat} (ho:Rb 300 o.1∧Rb 300 o.2) (hq:∀q∈qs,Rb 1 q) (hf:∀q∈qs,Rb 47 (f q)):∀n,n≤qs.length→Rb 300 (reachN f qs o n).1∧Rb 300 (reachN f qs o n).2:=by
 intro n
 induction n with
 | zero=>intro _;exact ho
 | succ i ih =>
  intro hi;have h0:=ih (by omega);have hm:qs.getD i 0∈qs:=by rw [List.getD_eq_getElem?_getD,List.getElem?_eq_getElem (by omega)];exact List.getElem_mem _
  have h1:Rb 300 (reachStep f (reachN f qs o i) (qs.getD i 0)).1∧Rb 300 (reachStep f (reachN f qs o i) (qs.getD i 0)).2:=by
   unfold reachStep
   split
   ·exact Rb.wid h0 ((hq _ hm).up (by decide))
   ·exact h0
  unfold reachN
  split
  ·exact h1
  ·have hm':qs.getD (i-1) 0∈qs:=by rw [List.getD_eq_getElem?_getD,List.getElem?_eq_getElem (by omega)];exact List.getElem_mem _
   unfold reachCross
   split
   ·exact Rb.wid h1 ((Rb.cross (hq _ hm') (hq _ hm) (hf _ hm') (hf _ hm)).up (by decide))
   ·exact h1
theorem OwnR.setOther {w:World} {base:Nat} {v:Value} {qs:List Rat} (h:OwnR w base v qs) {p:Addr} (hp:p.block<base) (hn:NoT 2 w p.block) (u:Value):OwnR (w.setCell p u) base v qs:=by
 obtain⟨cs,h1,h2,h3⟩:=h;refine⟨cs,h1.setOther (fun e=>?_) u,h2,fun i c q hc hq=>IsR.keep (h3 i c q hc hq) (KeepT.setN (KeepT.refl _ _) hn u)⟩;have:=(h1.lt _ e).1;omega
def RcW (w:World) (s:Sp) (v1 v2 vq:Value) (qs:List Rat) (o:Rat×Rat) (W:World):Prop:=
 Ext w W∧w.heap.size+1+1+1≤W.heap.size∧W.heap[w.heap.size]?=some (.cells #[v1,v2,.int .i64 s.lo,.int .i64 s.hi] 152 (0,0)) ∧
  RB W (w.heap.size+1) o.1∧RB W (w.heap.size+1+1) o.2∧OwnR W (w.heap.size+1+1+1) vq qs
theorem RcW.ext {w:World} {s:Sp} {v1 v2 vq:Value} {qs:List Rat} {o:Rat×Rat} {W W':World} (h:RcW w s v1 v2 vq qs o W) (k:Ext W W'):RcW w s v1 v2 vq qs o W':=
 ⟨h.1.trans k,Nat.le_trans h.2.1 k.size,k.heapS h.2.2.1,h.2.2.2.1.ext k,h.2.2.2.2.1.ext k,h.2.2.2.2.2.ext k⟩
theorem two_rs (W:World) {b:Nat} (hb:b=W.heap.size) {a a2 e e2:Option Addr} {m c m2 c2 n k n2 k2:Nat} {s t:Bool} {p q:Rat} (h1:IsR W (.agg #[.slice a m c,.bool s,.slice a2 m2 c2]) p) (h2:IsR W (.agg #[.slice e n k,.bool t,.slice e2 n2 k2]) q) :
  IsRs (W.alloc (.cells #[.slice a m c,.bool s,.slice a2 m2 c2,.slice e n k,.bool t,.slice e2 n2 k2] 56)) (.slice (some ⟨b,0,none⟩) 2 2) [p,q]:=by
 subst hb;have hE:Ext W (W.alloc (.cells #[.slice a m c,.bool s,.slice a2 m2 c2,.slice e n k,.bool t,.slice e2 n2 k2] 56)):=(Ext.refl W).alloc _;refine⟨[[.slice a m c,.bool s,.slice a2 m2 c2],[.slice e n k,.bool t,.slice e2 n2 k2]],rfl,by simp,⟨rfl,_,_,rfl,Nat.le_refl _,by unfold maxLen;decide,.inr ⟨_,0,_,_,rfl,heap_alloc_new W _,fun i x h=>by simpa using h⟩⟩,fun i c' x hc hx=>?_⟩
 match i,hc,hx with
 | 0,hc,hx=>cases hc;cases hx;exact h1.ext hE
 | 1,hc,hx=>cases hc;cases hx;exact h2.ext hE
 | i+2,hc,hx=>simp at hc
theorem RcW.put2 {w:World} {s:Sp} {v1 v2 vq:Value} {qs:List Rat} {o:Rat×Rat} {W:World} (h:RcW w s v1 v2 vq qs o W) {a a2 e e2:Option Addr} {m c m2 c2 n k n2 k2:Nat} {s1 t:Bool} {p q:Rat}
  (hz1:IsR W (.agg #[.slice a m c,.bool s1,.slice a2 m2 c2]) p) (hz2:IsR W (.agg #[.slice e n k,.bool t,.slice e2 n2 k2]) q) {W1 W2:World}
  (hW1:((W.setCell ⟨w.heap.size+1,0,none⟩ (.slice a m c)).setCell ⟨w.heap.size+1,1,none⟩ (.bool s1)).setCell ⟨w.heap.size+1,2,none⟩ (.slice a2 m2 c2)=W1)
  (hW2:((W1.setCell ⟨w.heap.size+1+1,0,none⟩ (.slice e n k)).setCell ⟨w.heap.size+1+1,1,none⟩ (.bool t)).setCell ⟨w.heap.size+1+1,2,none⟩ (.slice e2 n2 k2)=W2) :
  RcW w s v1 v2 vq qs (p,q) W2∧W2.heap.size=W.heap.size∧(∀b r,w.heap.size+1+1<b→RB W b r→RB W2 b r):=by
 obtain⟨h1,h2,h3,h4,h5,h6⟩:=h;obtain⟨q1,q2,q3,q4,q5,q6⟩:=RB.copy2 h4 h5 (by omega) hz1 hz2 hW1 hW2;have N1:=h4.not;have N2:=h5.not;refine⟨⟨q6 w h1 (by omega) (by omega),by omega,?_,q1,q2,?_⟩,q5,fun b r hb=>q3 b r (by omega) (by omega)⟩
 ·rw [←hW2,←hW1]
  repeat rw [Below.heap_setCell _ _ _ _ (by dsimp only;omega)]
  exact h3
 ·have b1:w.heap.size+1<w.heap.size+1+1+1:=by omega
  have b2:w.heap.size+1+1<w.heap.size+1+1+1:=by omega
  have g1:=((h6.setOther (p:=⟨w.heap.size+1,0,none⟩) b1 N1 (.slice a m c)).setOther (p:=⟨w.heap.size+1,1,none⟩) b1 (N1.set _ _) (.bool s1)).setOther (p:=⟨w.heap.size+1,2,none⟩) b1 ((N1.set _ _).set _ _) (.slice a2 m2 c2);rw [hW1]at g1;have m0:NoT 2 W1 (w.heap.size+1+1):=by rw [←hW1];exact((N2.set _ _).set _ _).set _ _
  have g2:=((g1.setOther (p:=⟨w.heap.size+1+1,0,none⟩) b2 m0 (.slice e n k)).setOther (p:=⟨w.heap.size+1+1,1,none⟩) b2 (m0.set _ _) (.bool t)).setOther (p:=⟨w.heap.size+1+1,2,none⟩) b2 ((m0.set _ _).set _ _) (.slice e2 n2 k2);rw [hW2]at g2;exact g2
end Go.Proofs.YteipgejmhfpkaaaGreatDoor.Cop
namespace Go.Proofs.YteipgejmhfpkaaaGreatDoor.Cop
open Go.RowKit Go.Shelf
attribute [local go_sem] Oper.semAt_some
def RetRc (w:World) (o:Option (Rat×Rat)) (e:Ending) (w':World):Prop:=Ext w w'∧∃r1 r2,IsR w' r1 (o.getD (0,0)).1∧IsR w' r2 (o.getD (0,0)).2∧e = .returned (.tuple #[r1,r2,.bool o.isSome])
theorem pin_rb {k:Nat} {pin:Int} (h:Bd 104000 pin) (hk:1≤k):Rb k (pin:Rat):=(rb_int h).up hk
theorem reach_no (w:World) (v1 v2:Value) (s:Sp) (pin:Int) (h1:IsPts w v1 s.over) (h2:IsPts w v2 s.under) (hok:SpOk s) (hp:Bd 104000 pin) (hno:reachNo s pin=true) :
  Calls Tryz.prog 70 #[spc s v1 v2,.int .i64 pin] w (RetRc w (reachP s pin)):=by
 have HS:=hd9 (fun(W:World) (hW:Ext w W)=>sleast_any W v1 v2 s (h1.ext' hW) (h2.ext' hW) hok);obtain⟨a1,m1,rfl⟩:=h1.form;obtain⟨a2,m2,rfl⟩:=h2.form;obtain⟨n1,f1⟩:∃x,s.over.length=x:=⟨_,rfl⟩;obtain⟨n2,f2⟩:∃x,s.under.length=x:=⟨_,rfl⟩;obtain⟨lo,elo⟩:∃x,s.lo=x:=⟨_,rfl⟩;obtain⟨hi,ehi⟩:∃x,s.hi=x:=⟨_,rfl⟩;have Hb2:=hd9 (show Rb 23 (leastR s).2 by obtain⟨j1,j2⟩:=bestR_mem (gapR s) (stops_ne s);unfold leastR;rw [j2];exact Rb.gap (stopsR_bd hok _ j1) hok);have Hp:=hd9 hp;have hp1 : -9223372036854775808≤pin:=by unfold Bd at hp;omega
 have hp2:pin≤9223372036854775807:=by unfold Bd at hp;omega
 have HC:=hd9 (fun(W:World) (va vb:Value) (ha:IsR W va (leastR s).2) (hb:IsR W vb (pin:Rat))=>rcmp_any W va vb _ _ ha hb (lim_of Hb2.out (by omega)) (lim_of (pin_rb (k:=1) Hp.out (by omega)) (by omega)));have hR:reachP s pin=none:=by unfold reachP;rw [if_pos hno]
 rw [hR];unfold reachNo at hno;obtain⟨q1,hq1⟩:∃q,(leastR s).1=q:=⟨_,rfl⟩;obtain⟨q2,hq2⟩:∃q,(leastR s).2=q:=⟨_,rfl⟩;unfold spc at HS ⊢;rw [hq2]at hno HC Hb2;rw [hq1,hq2]at HS;simp only [f1,f2,elo,ehi]at HS ⊢;clear h1 h2 hok f1 f2 elo ehi hR hq1 hq2 hp;go_enter Tryz.func70,Tryz.ntmps70
 go_wp2_with(((go_at_call 102;(with_reducible refine(HS.out _ ?_).mono ?_);exact eA;rintro e w1 ⟨r1,r2,rfl,hr1,hr2,hx1⟩;obtain⟨a4,m4,c4,s4,b4,n4,k4,rfl⟩:=hr1.form;obtain⟨a5,m5,c5,s5,b5,n5,k5,rfl⟩:=hr2.form;obtain⟨hc1,hf1⟩:=hx1.cells;(try simp only [qcD,qfD,qdZ]at hc1 hf1);have z1_0:=hx1.lt (n:=w.heap.size) (by go_simp);have z1_1:=hx1.lt (n:=w.heap.size+1) (by go_simp);have z1_2:=hx1.lt (n:=w.heap.size+1+1) (by go_simp))))
 obtain⟨W8,hW8⟩:∃W,((w1.alloc (.cells #[.slice a4 m4 c4,.bool s4,.slice b4 n4 k4] 56)).alloc (.cells #[.slice a5 m5 c5,.bool s5,.slice b5 n5 k5] 56))=W:=⟨_,rfl⟩;have hX18:Ext w1 W8:=by rw [←hW8];exact((Ext.refl _).alloc _).alloc _
 have hX8:Ext w W8:=(((((Ext.refl w).alloc _).alloc _).alloc _).trans hx1).trans hX18;have g1:RB W8 w1.heap.size q1:=by rw [←hW8];exact(RB.new hr1 rfl).ext ((Ext.refl _).alloc _)
 have g2:RB W8 (w1.heap.size+1) q2:=by rw [←hW8];exact RB.new (hr2.ext ((Ext.refl _).alloc _)) (by simp)
 have g3:RB W8 (w.heap.size+1) 0:=(((RB.new (IsR.zero _) (by simp)).ext ((Ext.refl _).alloc _)).ext hx1).ext hX18;have g4:RB W8 (w.heap.size+1+1) 0:=((RB.new (IsR.zero _) (by simp)).ext hx1).ext hX18;have zW:w1.heap.size+1<W8.heap.size:=by rw [←hW8];simp
 have g20:=qcB (show W8.heap[w1.heap.size+1]?=some (.cells #[.slice a5 m5 c5,.bool s5,.slice b5 n5 k5] 56 (0,0)) by rw [←hW8];exact qhA _ _ _ (by simp)) (i:=0) (u:=.slice a5 m5 c5) rfl;have g21:=qcB (show W8.heap[w1.heap.size+1]?=some (.cells #[.slice a5 m5 c5,.bool s5,.slice b5 n5 k5] 56 (0,0)) by rw [←hW8];exact qhA _ _ _ (by simp)) (i:=1) (u:=.bool s5) rfl;have g22:=qcB (show W8.heap[w1.heap.size+1]?=some (.cells #[.slice a5 m5 c5,.bool s5,.slice b5 n5 k5] 56 (0,0)) by rw [←hW8];exact qhA _ _ _ (by simp)) (i:=2) (u:=.slice b5 n5 k5) rfl;have HX:=hd9 hX18;have HX8:=hd9 hX8;rw [hW8];obtain⟨s1,hs1⟩:∃x,w1.heap.size=x:=⟨_,rfl⟩;simp only [hs1]at *;clear hW8 hc1 hf1 hx1 hX18 hX8 HS hs1;obtain⟨k,hk⟩:∃k,q2.num.sign=k:=⟨_,rfl⟩;have HSg:=hd9 (fun(W:World) (v:Value) (h:IsR W v q2)=>hk▸rsign_any W v q2 h);rw [hk]at hno;clear hk
 by_cases hneg:k<0
 ·have hd:decide (k<0)=true:=by simp [hneg]
  refine wp_region_held_drew (S:=CellL [(⟨s1+1,0,none⟩,.slice a5 m5 c5),(⟨s1+1,1,none⟩,.bool s5),(⟨s1+1,2,none⟩,.slice b5 n5 k5)]) (by kernel_rfl) (by refine⟨?_,?_,?_,trivial⟩<;>go_simp) (fun hHeld=>?_);refine tk1 (i:=0) ?_;refine cl1 (i:=1) fun K hK=>?_
  go_simp
  (with_reducible refine Calls.mono (HSg.out _ _ (hr2.ext (Ext.trans HX.out eA))) ?_)
  rintro e w3 ⟨rfl,hx3⟩
  skip
  go_wp2_with fail
  refine kO hK (CellL.ext hHeld hx3) (fun hHeld=>?_);clear hK K;refine sN 2 ?_
  iterate 2
   refine tkn ?_
  iterate 5
   refine tkgn ?_
  refine tkn ?_;refine oN ?_;refine wpAnyH_done (by kernel_rfl) ?_ _;go_wp2;have X3:Ext W8 w3:=((Ext.refl W8).drew).trans hx3;have g3':=g3.ext X3;have g4':=g4.ext X3;obtain⟨pa,pm,pc1,ps,pa2,pm2,pc2,p0,p1,p2,pf0,pf1,pf2,pz,hp3⟩:=g3'.rd;obtain⟨ea,em,ec,es,ea2,em2,ec2,e0,e1,e2,ef0,ef1,ef2,ez,hp4⟩:=g4'.rd;refine wp_region_HU (fun i=>decide (2<i)) (CellL [(⟨w.heap.size+1,0,none⟩,.slice pa pm pc1),(⟨w.heap.size+1,1,none⟩,.bool ps),(⟨w.heap.size+1,2,none⟩,.slice pa2 pm2 pc2),(⟨w.heap.size+1+1,0,none⟩,.slice ea em ec),(⟨w.heap.size+1+1,1,none⟩,.bool es),(⟨w.heap.size+1+1,2,none⟩,.slice ea2 em2 ec2)]) (by kernel_rfl) ?_ (fun hHeld=>?_)
  ·refine⟨?_,?_,?_,?_,?_,?_,trivial⟩<;>go_simp
  refine sN 0 ?_
  iterate 2
   refine tun ?_
  refine oN ?_;refine cu1 (i:=2) fun K hK=>?_
  go_simp;refine kO hK (fun _=>?_) (fun hHeld=>?_)
  ·refine⟨?_,?_,?_,?_,?_,?_,trivial⟩<;>go_simp
  clear hK K;have hHeld:=hHeld rfl;refine cu1 (i:=3) fun K hK=>?_
  go_simp;refine kO hK (fun h=>nomatch h) (fun hHeld=>?_);clear hK K;refine cu1 (i:=4) fun K hK=>?_
  go_simp;refine kO hK (fun h=>nomatch h) (fun hHeld=>?_);clear hK K;refine doneHU (by kernel_rfl) ?_ _;go_wp2;refine bodyPost_ret (v:=.tuple #[.agg #[.slice pa pm pc1,.bool ps,.slice pa2 pm2 pc2],.agg #[.slice ea em ec,.bool es,.slice ea2 em2 ec2],.bool false]) (by simp [results,Tryz.results70,go_sem,p0,p1,p2,pf0,pf1,pf2,e0,e1,e2,ef0,ef1,ef2]) rfl ?_;obtain⟨P1,P2,P3,P4,P5,P6⟩:=RB.copy2 g3' g4' (by omega) hp3 hp4 rfl rfl;refine⟨(P6 w (HX8.out.trans X3) (by omega) (by omega)).drew,.agg #[.slice pa pm pc1,.bool ps,.slice pa2 pm2 pc2],.agg #[.slice ea em ec,.bool es,.slice ea2 em2 ec2],?_,?_,rfl⟩
  ·exact(hp3.keep P4).ext (Ext.refl _).drew
  ·exact(hp4.keep P4).ext (Ext.refl _).drew
 ·have hd:decide (k<0)=false:=by simp [hneg]
  rw [hd,Bool.false_or]at hno;obtain⟨c,hc⟩:∃c,rcmp q2 (pin:Rat)=c:=⟨_,rfl⟩;rw [hc]at hno HC;clear hc;have hc0:0<c:=by simpa using hno
  refine wp_region_held_drew (S:=CellL [(⟨s1+1,0,none⟩,.slice a5 m5 c5),(⟨s1+1,1,none⟩,.bool s5),(⟨s1+1,2,none⟩,.slice b5 n5 k5)]) (by kernel_rfl) (by refine⟨?_,?_,?_,trivial⟩<;>go_simp) (fun hHeld=>?_);have E0:Ext w1 W8.drew:=HX.out.trans (Ext.refl W8).drew;refine tk1 (i:=0) ?_;refine cl1 (i:=1) fun K hK=>?_
  go_simp
  (with_reducible refine Calls.mono (HSg.out _ _ (hr2.ext E0)) ?_)
  rintro e w3 ⟨rfl,hx3⟩
  skip
  go_wp2_with fail
  refine kO hK (CellL.ext hHeld hx3) (fun hHeld=>?_);clear hK K;refine sN 2 ?_
  iterate 4
   refine tkn ?_
  refine oN ?_;refine cl1 (i:=6) fun K hK=>?_
  go_simp
  (with_reducible refine Calls.mono (pof_any _ pin hp1 hp2) ?_)
  rintro e w4 ⟨r4,rfl,hr4,hx4⟩;obtain⟨a6,m6,c6,s6,b6,n6,k6,rfl⟩:=hr4.form
  go_wp2_with fail
  refine kO hK (CellL.ext hHeld hx4) (fun hHeld=>?_);clear hK K;refine cl1 (i:=7) fun K hK=>?_
  go_simp
  (with_reducible refine Calls.mono (HC.out _ _ _ (hr2.ext (E0.trans (hx3.trans hx4))) hr4) ?_)
  rintro e w5 ⟨rfl,hx5⟩
  skip
  go_wp2_with fail
  refine kO hK (CellL.ext hHeld hx5) (fun hHeld=>?_);clear hK K;refine sN 8 ?_
  iterate 2
   refine tkn ?_
  refine oN ?_;refine wpAnyH_done (by kernel_rfl) ?_ _;have X3:Ext W8 w5:=((Ext.refl W8).drew).trans (hx3.trans (hx4.trans hx5));have g3':=g3.ext X3;have g4':=g4.ext X3;go_wp2;obtain⟨pa,pm,pc1,ps,pa2,pm2,pc2,p0,p1,p2,pf0,pf1,pf2,pz,hp3⟩:=g3'.rd;obtain⟨ea,em,ec,es,ea2,em2,ec2,e0,e1,e2,ef0,ef1,ef2,ez,hp4⟩:=g4'.rd;refine wp_region_HU (fun i=>decide (2<i)) (CellL [(⟨w.heap.size+1,0,none⟩,.slice pa pm pc1),(⟨w.heap.size+1,1,none⟩,.bool ps),(⟨w.heap.size+1,2,none⟩,.slice pa2 pm2 pc2),(⟨w.heap.size+1+1,0,none⟩,.slice ea em ec),(⟨w.heap.size+1+1,1,none⟩,.bool es),(⟨w.heap.size+1+1,2,none⟩,.slice ea2 em2 ec2)]) (by kernel_rfl) ?_ (fun hHeld=>?_)
  ·refine⟨?_,?_,?_,?_,?_,?_,trivial⟩<;>go_simp
  refine sN 0 ?_
  iterate 2
   refine tun ?_
  refine oN ?_;refine cu1 (i:=2) fun K hK=>?_
  go_simp;refine kO hK (fun _=>?_) (fun hHeld=>?_)
  ·refine⟨?_,?_,?_,?_,?_,?_,trivial⟩<;>go_simp
  clear hK K;have hHeld:=hHeld rfl;refine cu1 (i:=3) fun K hK=>?_
  go_simp;refine kO hK (fun h=>nomatch h) (fun hHeld=>?_);clear hK K;refine cu1 (i:=4) fun K hK=>?_
  go_simp;refine kO hK (fun h=>nomatch h) (fun hHeld=>?_);clear hK K;refine doneHU (by kernel_rfl) ?_ _;go_wp2;refine bodyPost_ret (v:=.tuple #[.agg #[.slice pa pm pc1,.bool ps,.slice pa2 pm2 pc2],.agg #[.slice ea em ec,.bool es,.slice ea2 em2 ec2],.bool false]) (by simp [results,Tryz.results70,go_sem,p0,p1,p2,pf0,pf1,pf2,e0,e1,e2,ef0,ef1,ef2]) rfl ?_;obtain⟨P1,P2,P3,P4,P5,P6⟩:=RB.copy2 g3' g4' (by omega) hp3 hp4 rfl rfl;refine⟨(P6 w (HX8.out.trans X3) (by omega) (by omega)).drew,.agg #[.slice pa pm pc1,.bool ps,.slice pa2 pm2 pc2],.agg #[.slice ea em ec,.bool es,.slice ea2 em2 ec2],?_,?_,rfl⟩
  ·exact(hp3.keep P4).ext (Ext.refl _).drew
  ·exact(hp4.keep P4).ext (Ext.refl _).drew
end Go.Proofs.YteipgejmhfpkaaaGreatDoor.Cop
namespace Go.Proofs.YteipgejmhfpkaaaGreatDoor.Cop
open Go.RowKit Go.Shelf Go.Sort
theorem pdq_pairs {β:Type} [Inhabited β] {lt:β→β→Bool} (hO:SWO lt) (d:Array β) (l:Nat):(pdq lt d 0 d.size l true true).toList.Pairwise fun x y=>lt y x=false:=by
 obtain⟨⟨h1,_,_⟩,h2⟩:=pdq_sorts lt hO d 0 d.size l true true (Nat.zero_le _) (Nat.le_refl _) (Or.inl rfl);rw [List.pairwise_iff_getElem];intro i j hi hj hij;simp at hi hj;have h9:=h2 i j (Nat.zero_le _) hij (by omega);rw [getElem!_pos _ i hi,getElem!_pos _ j hj]at h9
 simpa using h9
theorem sortX_pairs {ps:List (Int×Int)} (h:∀x∈ps,BP x):(sortX ps).Pairwise fun x y=>x.1≤y.1:=by
 unfold sortX sortBy;rw [dif_pos h];rw [List.pairwise_map];have h3:=@pdq_pairs {x // BP x} ⟨BP0⟩ _ swoX (ps.attachWith BP h).toArray (Lib.bitLen ps.length);rw [show (ps.attachWith BP h).toArray.size=ps.length by simp]at h3;refine h3.imp fun {x y} hxy=>?_
 rw [ltX]at hxy
 simpa using hxy
theorem compactP_head {α:Type} [DecidableEq α]:∀(a:α) (r:List α),∃t,compactP (a::r)=a::t
 | a,[]=>⟨[],rfl⟩
 | a,b::r=>by
  by_cases h:a=b
  ·obtain⟨t,e⟩:=compactP_head b r
   exact⟨t,by rw [compactP,if_pos h,e,h]⟩
  ·exact⟨compactP (b::r),by rw [compactP,if_neg h]⟩
theorem LnUp.cons {a b:Int×Int} {r:List (Int×Int)} (h1:a.1≤b.1) (h2:a≠b) (h:LnUp (b::r)):LnUp (a::b::r):=by
 intro e he;unfold eds at he
 rcases List.mem_cons.1 he with rfl|he
 ·exact⟨h1,h2⟩
 ·exact h e he
theorem compactP_up:∀(l:List (Int×Int)),l.Pairwise (fun x y=>x.1≤y.1)→LnUp (compactP l)
 | [],_=>by intro e he;simp [compactP,eds]at he
 | [a],_=>by intro e he;simp [compactP,eds]at he
 | a::b::r,h=>by
  have h':=compactP_up (b::r) (List.pairwise_cons.1 h).2
  by_cases hab:a=b
  ·rw [compactP,if_pos hab];exact h'
  ·rw [compactP,if_neg hab]
   obtain⟨t,e⟩:=compactP_head b r;rw [e]at h' ⊢;exact LnUp.cons ((List.pairwise_cons.1 h).1 b List.mem_cons_self) hab h'
theorem lineOf_up {k:Int} {raw:List (Int×Int)} (hb:PBd k raw) (hk:k≤1000000):LnUp (lineOf raw):=
 compactP_up _ (sortX_pairs fun x hx=>by
  have:=hb x hx;unfold BP;exact⟨this.1.mono hk,this.2.mono hk⟩)
theorem upP2_up {p:Pl} (h:placedOk p=true):LnUp (upP2 p):=by
 obtain⟨hb,h3,h12⟩:=cornersP_bd h;have hr:=raw_bd hb (Nat.le_refl _);exact lineOf_up hr.2 (by decide)
theorem ground_up {g:List (Int×Int)} (h:groundB g=true):LnUp g:=by
 unfold groundB at h;simp only [Bool.and_eq_true,List.all_eq_true,List.mem_range]at h;intro e he;unfold eds at he;obtain⟨i,hi,rfl⟩:=List.getElem_of_mem he;have hl:i+1<g.length:=by rw [List.length_zip,List.length_tail]at hi;omega
 have h2:=h.2 (i+1) hl;unfold grdR at h2;simp only [Bool.and_eq_true,Bool.or_eq_true,decide_eq_true_eq,beq_iff_eq,Nat.add_one_ne_zero,false_or,Nat.add_sub_cancel]at h2;have h3:=h2.2.2;rw [List.getD_eq_getElem?_getD,List.getD_eq_getElem?_getD,List.getElem?_eq_getElem (by omega),List.getElem?_eq_getElem hl]at h3;simp only [Option.getD_some]at h3;have e1:(g.zip g.tail)[i]'hi=(g[i]'(by omega),g[i+1]'hl):=by simp
 rw [e1];exact⟨by dsimp only;omega,fun e=>by dsimp only at e;rw [e]at h3;omega⟩
theorem bestR_le (f:Rat→Rat) {xs:List Rat}:∀x∈xs,(bestR f xs).2≤f x:=by
 have key:∀(ys:List Rat) (a:Rat×Rat),(ys.foldl (bestStep f) a).2≤a.2∧∀x∈ys,(ys.foldl (bestStep f) a).2≤f x:=by
  intro ys
  induction ys with
  | nil=>intro a;exact⟨Rat.le_refl,fun x hx=>by simp at hx⟩
  | cons y ys ih =>
   intro a;obtain⟨h1,h2⟩:=ih (bestStep f a y)
   have h3:(bestStep f a y).2≤a.2∧(bestStep f a y).2≤f y:=by
    unfold bestStep
    split
    ·rename_i h
     rw [rcmp_lt]at h;exact⟨Rat.le_of_lt h,Rat.le_refl⟩
    ·rename_i h
     rw [rcmp_lt]at h;exact⟨Rat.le_refl,Rat.not_lt.1 h⟩
   refine⟨Rat.le_trans h1 h3.1,fun x hx=>?_⟩
   rcases List.mem_cons.1 hx with rfl|hx
   ·exact Rat.le_trans h1 h3.2
   ·exact h2 x hx
 cases xs with
 | nil=>intro x hx;simp at hx
 | cons y ys =>
  intro x hx;obtain⟨h1,h2⟩:=key ys (y,f y)
  rcases List.mem_cons.1 hx with rfl|hx
  ·exact h1
  ·exact h2 x hx
end Go.Proofs.YteipgejmhfpkaaaGreatDoor.Cop
