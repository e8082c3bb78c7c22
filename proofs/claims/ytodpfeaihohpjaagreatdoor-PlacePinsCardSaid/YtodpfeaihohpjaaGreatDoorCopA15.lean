/- Part 16: contracts of what the law calls. -/
import Derived.Test.YtodpfeaihohpjaaGreatDoorCopA14
import Derived.Test.YtodpfeaihohpjaaGreatDoorCopA13
set_option maxRecDepth 1000000
set_option maxHeartbeats 16000000
set_option linter.unusedSimpArgs false
set_option linter.unusedVariables false
open Go renaming World→O,Value→Z,Act→M
open Go.Value renaming slice→Y,int→I,pointer→C,agg→F,bool→A,tuple→L
open Option renaming none→X,some→V
open Go.IntKind renaming i64→J
open Go.Obj renaming cells→N
namespace Go.Proofs.YtodpfeaihohpjaaGreatDoor.Cop
section
open Go.RowKit Go.Shelf Go.Sort Go.Lib
def leastR (s:Sp):Rat×Rat:=bestR (gapR s) (stopsR s)
theorem zaD (s:Sp):stopsR s≠[]:=by
 unfold stopsR;intro h;have h1:stopsZ s=[]:=List.map_eq_nil_iff.1 h;unfold stopsZ at h1;have h2:=zhI (zs:=isort (s.lo::s.hi::midP s (s.over++s.under))) (by intro h3;have:=congrArg List.length h3;rw [zbS]at this;simp at this);exact h2 h1
theorem zce (w:O) (v1 v2:Z) (s:Sp) (h1:IsPts w v1 s.over) (h2:IsPts w v2 s.under) (hok:SpOk s) :
  Calls Tryz.prog 54 #[spc s v1 v2] w (RetR2 w (leastR s).1 (leastR s).2):=by
 have HS:=hd9 (fun(W:O) (hW:Ext w W)=>zf0 W v1 v2 s (h1.ext' hW) (h2.ext' hW) hok);have HB:=hd9 (fun(W:O) (hW:Ext w W) (v:Z) (hv:IsRs W v (stopsR s))=>zkx W v v1 v2 s (stopsR s) hv (h1.ext' hW) (h2.ext' hW) hok (zak hok));obtain⟨a1,m1,rfl⟩:=h1.form;obtain⟨a2,m2,rfl⟩:=h2.form;obtain⟨n1,f1⟩:=gX s.over.length;obtain⟨n2,f2⟩:=gX s.under.length;obtain⟨lo,elo⟩:=gX s.lo;obtain⟨hi,ehi⟩:=gX s.hi;obtain⟨R,hR⟩:=gX (RetR2 w (leastR s).1 (leastR s).2);rw [hR];have HR:=hd9 hR;unfold spc at HS HB ⊢;simp only [f1,f2,elo,ehi]at HS HB ⊢;clear h1 h2 hok f1 f2 elo ehi hR;have hmf:∀(fn:Fn) (first cap:Array Z) (w:O),(Instr.makeFunc fn first cap).run Tryz.prog w = .ok (.func fn first cap) w:=fun _ _ _ _=>rfl
 go_enter Tryz.func54,Tryz.ntmps54;go_wp2;refine wp_region_held_drew (S:=CellL [(⟨w.heap.size,0,X⟩,Y a1 n1 m1),(⟨w.heap.size,1,X⟩,Y a2 n2 m2),(⟨w.heap.size,2,X⟩,I J lo),(⟨w.heap.size,3,X⟩,I J hi)]) (by kernel_rfl) cA (fun h9H=>?_);refine tk1 (i:=0) ?_;refine sN 2 ?_
 iterate 2
  refine tkn ?_
 refine oN ?_;refine cl1 (i:=1) fun K hK=>?_
 go_simp
 (with_reducible refine cM (HS.out _ eA) ?_)
 rintro e w3 ⟨r3,rfl,hr3,hx3⟩
 skip
 go_wp2_with fail
 refine kO hK (cE h9H hx3) (fun h9H=>?_);clear hK K;have X3:Ext w w3:=eA;refine cl1 (i:=4) fun K hK=>?_
 go_simp
 (with_reducible refine cM (HB.out _ X3 _ hr3.rs) ?_)
 rintro e w4 ⟨r4,r5,rfl,hr4,hr5,hx4⟩;obtain⟨⟨a4,m4,c4,s4,b4,n4,k4,rfl⟩,a5,m5,c5,s5,b5,n5,k5,rfl⟩:=And.intro hr4.form hr5.form
 go_wp2_with fail
 refine kO hK (cE h9H hx4) (fun h9H=>?_);clear hK K;refine sN 5 ?_
 iterate 2
  refine tkn ?_
 refine oN ?_;have X4:Ext w w4:=X3.trans hx4;have hO:RB w4 (w.heap.size+1) 0:=(((RB.new (IsR.zero _) (by simp)).ext ((eR _).alloc _)).ext ((eR _).drew.trans hx3)).ext hx4;have hP:RB w4 (w.heap.size+1+1) 0:=((RB.new (IsR.zero _) (by simp)).ext ((eR _).drew.trans hx3)).ext hx4;obtain⟨_,_,_,_,_,_,_,o0,o1,o2,of0,of1,of2,zo,_⟩:=hO.rd;obtain⟨_,_,_,_,_,_,_,p0,p1,p2,pf0,pf1,pf2,zp,_⟩:=hP.rd
 have hnb:∀b,w.heap.size<b→∀q∈[((⟨w.heap.size,0,X⟩:Addr),Value.slice a1 n1 m1),(⟨w.heap.size,1,X⟩,Y a2 n2 m2),(⟨w.heap.size,2,X⟩,I J lo),(⟨w.heap.size,3,X⟩,I J hi)],b≠q.1.block:=by
  intro b hb q hq;simp at hq
  rcases hq with rfl|rfl|rfl|rfl<;>(dsimp only;omega)
 refine cl1 (i:=7) fun K hK=>?_
 go_simp;refine kO hK (CellL.set3 h9H (hnb _ (by omega)) _ _ _) (fun h9H=>?_);clear hK K;refine cl1 (i:=8) fun K hK=>?_
 go_simp;refine kO hK (CellL.set3 h9H (hnb _ (by omega)) _ _ _) (fun h9H=>?_);clear hK K;refine wpAnyH_done (by kernel_rfl) ?_ _;have P:=hd9 (RB.copy2 hO hP (by omega) hr4 hr5 rfl rfl);go_wp2;refine bR (v:=L #[F #[Y a4 m4 c4,A s4,Y b4 n4 k4],F #[Y a5 m5 c5,A s5,Y b5 n5 k5]]) (by simp [results,Tryz.results54,go_sem,o0,o1,o2,of0,of1,of2,p0,p1,p2,pf0,pf1,pf2]) rfl ?_;rw [←HR.out];obtain⟨P1,P2,P3,P4,P5,P6⟩:=P.out;exact⟨_,_,rfl,hr4.keep P4,hr5.keep P4,P6 w X4 (by omega) (by omega)⟩
def freeB (ps qs:List (Int×Int)):Bool:=if (btw ps qs).lo<(btw ps qs).hi then decide (0≤(leastR (btw ps qs)).2.num.sign)else true
theorem zeY (w:O) (v1 v2:Z) (ps qs:List (Int×Int)) (h1:IsPts w v1 ps) (h2:IsPts w v2 qs) (k1:LnOk ps) (k2:LnOk qs) :
  Calls Tryz.prog 96 #[v1,v2] w fun e w'=>e = .returned (A (freeB ps qs))∧Ext w w':=by
 have l1:0<ps.length:=List.length_pos_iff.2 k1.1;have l2:0<qs.length:=List.length_pos_iff.2 k2.1;have HBt:=hd9 (fun(W:O) (hW:Ext w W)=>zbi W v1 v2 ps qs (h1.ext' hW) (h2.ext' hW) l1 l2);have HL:=hd9 (fun(W:O) (hW:Ext w W)=>zce W v1 v2 (btw ps qs) (h1.ext' hW) (h2.ext' hW) (zbQ k1 k2));obtain⟨B,hB⟩:=gX (freeB ps qs);rw [hB];have HB:=hd9 hB;unfold freeB at HB;obtain⟨s,hs⟩:=gX (btw ps qs);rw [hs]at HB HBt HL;obtain⟨a1,m1,rfl⟩:=h1.form;obtain⟨a2,m2,rfl⟩:=h2.form;obtain⟨n1,f1⟩:=gX ps.length;obtain⟨n2,f2⟩:=gX qs.length;obtain⟨lo,elo⟩:=gX s.lo;obtain⟨hi,ehi⟩:=gX s.hi;unfold RetBt at HBt;unfold spc at HBt HL;simp only [f1,f2,elo,ehi]at HB HBt HL ⊢;clear h1 h2 k1 k2 l1 l2 hB hs f1 f2 elo ehi
 by_cases hlt:lo<hi
 ·have e:decide (lo<hi)=true:=by simpa using hlt
  rw [if_pos hlt]at HB;rw [e]at HBt;obtain⟨k,hk⟩:=gX ((leastR s).2.num.sign);rw [hk]at HB;have Hk:=hd9 hk;clear hk e hlt;go_enter Tryz.func96,Tryz.ntmps96
  go_wp2_with(first|(go_at_call 53;(with_reducible refine(HBt.out _ ?_).mono ?_);exact eA;rintro e w3 ⟨rfl,hx3⟩;obtain⟨hc3,hf3⟩:=hx3.cells)|(go_at_call 54;(with_reducible refine(HL.out _ ?_).mono ?_);exact eA;rintro e w4 ⟨r4,r5,rfl,hr4,hr5,hx4⟩;obtain⟨a4,m4,c4,s4,b4,n4,k4,rfl⟩:=hr4.form;obtain⟨a5,m5,c5,s5,b5,n5,k5,rfl⟩:=hr5.form)|(go_at_call 21;(with_reducible refine(zbz _ _ _ (hr5.ext ?_)).mono ?_);exact eA;rintro e w6 ⟨rfl,hx6⟩;rw [Hk.out]))
  go_ret;exact⟨by rw [←HB.out];rfl,eA⟩
 ·have e:decide (lo<hi)=false:=by simpa using hlt
  rw [if_neg hlt]at HB;rw [e]at HBt;clear e hlt;go_enter Tryz.func96,Tryz.ntmps96
  go_wp2_with(first|(go_at_call 53;(with_reducible refine(HBt.out _ ?_).mono ?_);exact eA;rintro e w3 ⟨rfl,hx3⟩;obtain⟨hc3,hf3⟩:=hx3.cells))
  go_ret;exact⟨by rw [←HB.out];rfl,eA⟩
def relP (p q:Pl):Int:=
 if lineR (lowP2 p)≤lineL (lowP2 q)then 1
 else if lineR (lowP2 q)≤lineL (lowP2 p)then 2
 else if freeB (lowP2 p) (upP2 q)then 3
 else if freeB (lowP2 q) (upP2 p)then 4
 else 5
def PLa (w:O) (c:List Z) (p:Pl):Prop:=∃v vl vu,c=(lac p v vl vu).toList∧IsPts w v p.shape∧IsPts w vl (lowP2 p)∧IsPts w vu (upP2 p)
def IsLa (w:O) (v:Z) (p:Pl):Prop:=∃s vl vu,v=F (lac p s vl vu)∧IsPts w s p.shape∧IsPts w vl (lowP2 p)∧IsPts w vu (upP2 p)
theorem IsLa.ext {w w':O} {v:Z} {p:Pl} (h:IsLa w v p) (k:Ext w w'):IsLa w' v p:=by
 obtain⟨s,vl,vu,h1,h2,h3,h4⟩:=h;exact⟨s,vl,vu,h1,h2.ext' k,h3.ext' k,h4.ext' k⟩
theorem IsLa.keep {w w':O} {v:Z} {p:Pl} (h:IsLa w v p) (k:KeepT 33 w w'):IsLa w' v p:=by
 obtain⟨s,vl,vu,h1,h2,h3,h4⟩:=h;exact⟨s,vl,vu,h1,h2.keep' k,h3.keep' k,h4.keep' k⟩
abbrev IsLas (w:O) (v:Z) (ps:List Pl):Prop:=Sl 101 12 PLa w v ps
theorem PLa.ext {w w':O} {c:List Z} {p:Pl} (h:PLa w c p) (k:Ext w w'):PLa w' c p:=by
 obtain⟨s,vl,vu,h1,h2,h3,h4⟩:=h;exact⟨s,vl,vu,h1,h2.ext' k,h3.ext' k,h4.ext' k⟩
theorem PLa.keep {w w':O} {c:List Z} {p:Pl} (h:PLa w c p) (k:KeepT 33 w w'):PLa w' c p:=by
 obtain⟨s,vl,vu,h1,h2,h3,h4⟩:=h;exact⟨s,vl,vu,h1,h2.keep' k,h3.keep' k,h4.keep' k⟩
theorem IsLas.ext' {w w':O} {v:Z} {ps:List Pl} (h:IsLas w v ps) (k:Ext w w'):IsLas w' v ps:=Sl.ext h (fun _ _ h=>PLa.ext h k) k
def LaS (b1 b2:Nat) (p q:Pl) (c1 c2:Array Z) (W:O):Prop:=W.heap[b1]?=V (N c1 101 (0,0))∧W.heap[b2]?=V (N c2 101 (0,0))
theorem zcY (w:O) (v1 v2:Z) (p q:Pl) (h1:IsLa w v1 p) (h2:IsLa w v2 q) (k1:placedOk p=true) (k2:placedOk q=true) :
  Calls Tryz.prog 42 #[v1,v2] w fun e w'=>e = .returned (I .u8 (relP p q))∧Ext w w':=by
 obtain⟨s1,l1,u1,rfl,p1,p2,p3⟩:=h1;obtain⟨s2,l2,u2,rfl,q1,q2,q3⟩:=h2;obtain⟨o1,o2⟩:=zam k1;obtain⟨o3,o4⟩:=zam k2;have HA:=hd9 (fun(W:O) (hW:Ext w W)=>zbn W l1 (lowP2 p) (p2.ext' hW) (List.length_pos_iff.2 o1.1));have HB:=hd9 (fun(W:O) (hW:Ext w W)=>zbr W l2 (lowP2 q) (q2.ext' hW) (List.length_pos_iff.2 o3.1));have HC:=hd9 (fun(W:O) (hW:Ext w W)=>zbr W l1 (lowP2 p) (p2.ext' hW) (List.length_pos_iff.2 o1.1));have HD:=hd9 (fun(W:O) (hW:Ext w W)=>zbn W l2 (lowP2 q) (q2.ext' hW) (List.length_pos_iff.2 o3.1));have HE:=hd9 (fun(W:O) (hW:Ext w W)=>zeY W l1 u2 (lowP2 p) (upP2 q) (p2.ext' hW) (q3.ext' hW) o1 o4);have HF:=hd9 (fun(W:O) (hW:Ext w W)=>zeY W l2 u1 (lowP2 q) (upP2 p) (q2.ext' hW) (p3.ext' hW) o3 o2);obtain⟨sa1,sc1,rfl⟩:=p1.form;obtain⟨sa2,sc2,rfl⟩:=q1.form;obtain⟨a1,c1,rfl⟩:=p2.form;obtain⟨a2,c2,rfl⟩:=q2.form;obtain⟨ua1,uc1,rfl⟩:=p3.form;obtain⟨ua2,uc2,rfl⟩:=q3.form;obtain⟨k,hk⟩:=gX (relP p q);have Hk:=hd9 hk;unfold relP at Hk;rw [hk];obtain⟨n1,f1⟩:=gX ((lowP2 p).length);obtain⟨n2,f2⟩:=gX ((lowP2 q).length);obtain⟨m1,f3⟩:=gX ((upP2 p).length);obtain⟨m2,f4⟩:=gX ((upP2 q).length);obtain⟨j1,f5⟩:=gX p.shape.length;obtain⟨j2,f6⟩:=gX q.shape.length;obtain⟨rp,f7⟩:=gX (lineR (lowP2 p));obtain⟨lp,f8⟩:=gX (lineL (lowP2 p));obtain⟨rq,f9⟩:=gX (lineR (lowP2 q));obtain⟨lq,f10⟩:=gX (lineL (lowP2 q));obtain⟨fa,f11⟩:=gX (freeB (lowP2 p) (upP2 q));obtain⟨fb,f12⟩:=gX (freeB (lowP2 q) (upP2 p));simp only [f1,f2,f3,f4,f5,f6,f7,f8,f9,f10,f11,f12]at HA HB HC HD HE HF Hk ⊢;obtain⟨nm,sh,d,de,gx,gz,wy,ax,az,sk⟩:=p;obtain⟨nm',sh',d',de',gx',gz',wy',ax',az',sk'⟩:=q;clear hk p1 p2 p3 q1 q2 q3 o1 o2 o3 o4 k1 k2 f1 f2 f3 f4 f5 f6 f7 f8 f9 f10 f11 f12;unfold lac;dsimp only;go_enter Tryz.func42,Tryz.ntmps42;go_wp2;refine wp_region_held_drew (S:=CellL [(⟨w.heap.size,10,X⟩,Y a1 n1 c1),(⟨w.heap.size+1,10,X⟩,Y a2 n2 c2),(⟨w.heap.size,11,X⟩,Y ua1 m1 uc1),(⟨w.heap.size+1,11,X⟩,Y ua2 m2 uc2)]) (by kernel_rfl) cA (fun h9H=>?_);refine sN 0 ?_
 iterate 2
  refine tkn ?_
 refine oN ?_;refine sN 3 ?_
 iterate 2
  refine tkn ?_
 refine oN ?_;refine cl1 (i:=2) fun K hK=>?_
 go_simp
 (with_reducible refine cM (HA.out _ eA) ?_)
 rintro e w3 ⟨rfl,hx3⟩
 skip
 go_wp2_with fail
 refine kO hK (cE h9H hx3) (fun h9H=>?_);clear hK K;have X3:Ext w w3:=eA;refine cl1 (i:=5) fun K hK=>?_
 go_simp
 (with_reducible refine cM (HB.out _ X3) ?_)
 rintro e w4 ⟨rfl,hx4⟩
 skip
 go_wp2_with fail
 refine kO hK (cE h9H hx4) (fun h9H=>?_);clear hK K;have X4:Ext w w4:=X3.trans hx4;refine sN 6 ?_
 iterate 2
  refine tkn ?_
 refine oN ?_;refine wpAnyH_done (by kernel_rfl) ?_ _;obtain⟨d1a,d1b,d1c,d1d,_⟩:=h9H
 (try clear hx3);clear hx4 X3
 by_cases g1:rp≤lq
 ·go_wp2
  go_ret;exact⟨by rw [←Hk.out,if_pos g1];rfl,X4⟩
 rw [if_neg g1]at Hk;have zz4:=X4.size;go_wp2;refine wp_region_held_drew (S:=CellL [(⟨w.heap.size,10,X⟩,Y a1 n1 c1),(⟨w.heap.size+1,10,X⟩,Y a2 n2 c2),(⟨w.heap.size,11,X⟩,Y ua1 m1 uc1),(⟨w.heap.size+1,11,X⟩,Y ua2 m2 uc2)]) (by kernel_rfl) cA (fun h9H=>?_);refine sN 0 ?_
 iterate 2
  refine tkn ?_
 refine oN ?_;refine sN 3 ?_
 iterate 2
  refine tkn ?_
 refine oN ?_;refine cl1 (i:=2) fun K hK=>?_
 go_simp
 (with_reducible refine cM (HC.out _ eA) ?_)
 rintro e w5 ⟨rfl,hx5⟩
 skip
 go_wp2_with fail
 refine kO hK (cE h9H hx5) (fun h9H=>?_);clear hK K;have X5:Ext w w5:=eA;refine cl1 (i:=5) fun K hK=>?_
 go_simp
 (with_reducible refine cM (HD.out _ X5) ?_)
 rintro e w6 ⟨rfl,hx6⟩
 skip
 go_wp2_with fail
 refine kO hK (cE h9H hx6) (fun h9H=>?_);clear hK K;have X6:Ext w w6:=X5.trans hx6;refine sN 6 ?_
 iterate 2
  refine tkn ?_
 refine oN ?_;refine wpAnyH_done (by kernel_rfl) ?_ _;obtain⟨d2a,d2b,d2c,d2d,_⟩:=h9H
 (try clear hx5);clear hx6 X5
 by_cases g2:rq≤lp
 ·go_wp2
  go_ret;exact⟨by rw [←Hk.out,if_pos g2];rfl,X6⟩
 rw [if_neg g2]at Hk
 cases fa with
 | true =>
  go_wp2_with(go_at_call 96;(with_reducible refine(HE.out _ ?_).mono ?_);exact eA;rintro e w7 ⟨rfl,hx7⟩)
  go_ret;exact⟨by rw [←Hk.out];rfl,eA⟩
 | false =>
  cases fb with
  | true =>
   go_wp2_with(first|(go_at_call 96;(with_reducible refine(HE.out _ ?_).mono ?_);exact eA;rintro e w7 ⟨rfl,hx7⟩;have d3a:=hx7.cellS d2a;have d3b:=hx7.cellS d2b;have d3c:=hx7.cellS d2c;have d3d:=hx7.cellS d2d)|(go_at_call 96;(with_reducible refine(HF.out _ ?_).mono ?_);exact eA;rintro e w8 ⟨rfl,hx8⟩))
   go_ret;exact⟨by rw [←Hk.out];rfl,eA⟩
  | false =>
   go_wp2_with(first|(go_at_call 96;(with_reducible refine(HE.out _ ?_).mono ?_);exact eA;rintro e w7 ⟨rfl,hx7⟩;have d3a:=hx7.cellS d2a;have d3b:=hx7.cellS d2b;have d3c:=hx7.cellS d2c;have d3d:=hx7.cellS d2d)|(go_at_call 96;(with_reducible refine(HF.out _ ?_).mono ?_);exact eA;rintro e w8 ⟨rfl,hx8⟩))
   go_ret;exact⟨by rw [←Hk.out];rfl,eA⟩
theorem IsLas.at' {w:O} {a:Option Addr} {n c:Nat} {ps:List Pl} (h:IsLas w (Y a n c) ps) {i:Nat} {p:Pl} (hp:ps[i]?=V p) :
  ∃b o s vl vu,a=V ⟨b,o,X⟩∧b<w.heap.size∧IsPts w s p.shape∧IsPts w vl (lowP2 p)∧IsPts w vu (upP2 p) ∧
   ∀(j:Nat) u,(lac p s vl vu)[j]?=V u→w.cell? ⟨b,o+i*12+j,X⟩=V u:=by
 obtain⟨b,o,d,rfl,hb,hl,⟨s,vl,vu,rfl,h1,h2,h3⟩,hc⟩:=Sl.at h hp;exact⟨b,o,s,vl,vu,rfl,hb,h1,h2,h3,fun j u hj=>hc j u (by rw [Array.getElem?_toList];exact hj)⟩
def LaB (W:O) (b:Nat) (p:Pl) (s vl vu:Z):Prop:=W.heap[b]?=V (N (lac p s vl vu) 101 (0,0))∧IsPts W s p.shape∧IsPts W vl (lowP2 p)∧IsPts W vu (upP2 p)
theorem LaB.ext {W W':O} {b:Nat} {p:Pl} {s vl vu:Z} (h:LaB W b p s vl vu) (k:Ext W W'):LaB W' b p s vl vu:=⟨k.heapS h.1,h.2.1.ext' k,h.2.2.1.ext' k,h.2.2.2.ext' k⟩
def clashB (q p:Pl):Bool:=meetB q p&&(relP q p==5)
def nameB (nm:ByteArray) (p:Pl):Bool:=p.name.toList==nm.toList
theorem zk0 (w:O) (vp:Z) (p:Pl) (nm:ByteArray) (bq:Nat) (h:IsLa w vp p) (hq:w.cell? ⟨bq,0,X⟩=V (.string nm)) :
  Calls Tryz.prog 103 #[vp,C (V ⟨bq,0,X⟩)] w fun e w'=>e = .returned (A (nameB nm p))∧Ext w w':=by
 obtain⟨s1,l1,u1,rfl,p1,p2,p3⟩:=h;obtain⟨sa1,sc1,rfl⟩:=p1.form;obtain⟨a1,c1,rfl⟩:=p2.form;obtain⟨ua1,uc1,rfl⟩:=p3.form;obtain⟨n1,f1⟩:=gX ((lowP2 p).length);obtain⟨m1,f3⟩:=gX ((upP2 p).length);obtain⟨j1,f5⟩:=gX p.shape.length;rw [f1,f3,f5];obtain⟨np,sh,d,de,gx,gz,wy,ax,az,sk⟩:=p;clear p1 p2 p3 f1 f3 f5;have zq:bq<w.heap.size:=World.block_lt_of_cell? w _ hq;have zq1:bq<w.heap.size+1:=by omega
 unfold lac nameB;dsimp only;go_enter Tryz.func103,Tryz.ntmps103;go_wp2;go_ret;exact⟨rfl,eA⟩
theorem zkz (w:O) (vp:Z) (p q:Pl) (bq:Nat) (s vl vu:Z) (h:IsLa w vp p) (hq:LaB w bq q s vl vu) (k1:placedOk p=true) (k2:placedOk q=true) :
  Calls Tryz.prog 104 #[vp,C (V ⟨bq,0,X⟩)] w fun e w'=>e = .returned (A (clashB q p))∧Ext w w':=by
 obtain⟨hb,q1,q2,q3⟩:=hq;have HR:=hd9 (fun(W:O) (hW:Ext w W)=>zcY W (F (lac q s vl vu)) vp q p ⟨_,_,_,rfl,q1.ext' hW,q2.ext' hW,q3.ext' hW⟩ (h.ext hW) k2 k1);obtain⟨s1,l1,u1,rfl,p1,p2,p3⟩:=h;have HM:=hd9 (fun(W:O)=>zb9 W q p s s1 (by obtain⟨a,c,h⟩:=q1.form;exact⟨a,_,c,h⟩) (by obtain⟨a,c,h⟩:=p1.form;exact⟨a,_,c,h⟩));obtain⟨sa1,sc1,rfl⟩:=p1.form;obtain⟨a1,c1,rfl⟩:=p2.form;obtain⟨ua1,uc1,rfl⟩:=p3.form;obtain⟨sa2,sc2,rfl⟩:=q1.form;obtain⟨a2,c2,rfl⟩:=q2.form;obtain⟨ua2,uc2,rfl⟩:=q3.form;obtain⟨n1,f1⟩:=gX ((lowP2 p).length);obtain⟨n2,f2⟩:=gX ((lowP2 q).length);obtain⟨m1,f3⟩:=gX ((upP2 p).length);obtain⟨m2,f4⟩:=gX ((upP2 q).length);obtain⟨j1,f5⟩:=gX p.shape.length;obtain⟨j2,f6⟩:=gX q.shape.length;obtain⟨r,f7⟩:=gX (relP q p);obtain⟨m,f8⟩:=gX (meetB q p);unfold clashB;simp only [f1,f2,f3,f4,f5,f6,f7,f8]at HR HM hb ⊢;obtain⟨nm,sh,d,de,gx,gz,wy,ax,az,sk⟩:=p;obtain⟨nm',sh',d',de',gx',gz',wy',ax',az',sk'⟩:=q;unfold lac at HR hb ⊢;unfold plc at HM;dsimp only at HR HM hb ⊢;have cc0:=qcB hb (i:=0) (u:=.string nm') rfl;have cc1:=qcB hb (i:=1) (u:=Y sa2 j2 sc2) rfl;have cc2:=qcB hb (i:=2) (u:=I J d') rfl;have cc3:=qcB hb (i:=3) (u:=I J de') rfl;have cc4:=qcB hb (i:=4) (u:=I J gx') rfl;have cc5:=qcB hb (i:=5) (u:=I J gz') rfl;have cc6:=qcB hb (i:=6) (u:=I J wy') rfl;have cc7:=qcB hb (i:=7) (u:=I J ax') rfl;have cc8:=qcB hb (i:=8) (u:=I J az') rfl;have cc9:=qcB hb (i:=9) (u:=I .u8 sk') rfl;have cc10:=qcB hb (i:=10) (u:=Y a2 n2 c2) rfl;have cc11:=qcB hb (i:=11) (u:=Y ua2 m2 uc2) rfl;have zq:bq<w.heap.size:=zaa hb;have zq1:bq<w.heap.size+1:=by omega
 clear hb p1 p2 p3 q1 q2 q3 k1 k2 f1 f2 f3 f4 f5 f6 f7 f8
 cases m with
 | false =>
  go_enter Tryz.func104,Tryz.ntmps104
  go_wp2_with(go_at_call 50;(with_reducible refine(HM.out _).mono ?_);rintro e w3 ⟨rfl,hx3⟩)
  go_ret;exact⟨rfl,eA⟩
 | true =>
  go_enter Tryz.func104,Tryz.ntmps104
  go_wp2_with(first|(go_at_call 50;(with_reducible refine(HM.out _).mono ?_);rintro e w3 ⟨rfl,hx3⟩;obtain⟨hc3,hf3⟩:=hx3.cells)|(go_at_call 42;(with_reducible refine(HR.out _ ?_).mono ?_);exact eA;rintro e w4 ⟨rfl,hx4⟩))
  go_ret;exact⟨rfl,eA⟩
def IlS (w:O) (f:Pl→Bool) (ps:List Pl) (g:Nat) (t8:Z) (W:O):Prop:=
 ∃i:Nat,i≤ps.length∧t8=I J i∧g=ps.length-i∧Ext w W∧∀j y,j<i→ps[j]?=V y→f y=false
theorem zjg (w:O) (v:Z) (ps:List Pl) (bq:Nat) (f:Pl→Bool) (h:IsLas w v ps)
  (hf:∀W,Ext w W→∀vp p,p∈ps→IsLa W vp p→Calls Tryz.prog 103 #[vp,C (V ⟨bq,0,X⟩)] W fun e w'=>e = .returned (A (f p))∧Ext W w') :
  Calls Tryz.prog 138 #[v,.func (.func 103) #[] #[C (V ⟨bq,0,X⟩)]] w fun e w'=>e = .returned (I J (idxB f ps))∧Ext w w':=by
 obtain⟨a,c,rfl⟩:=h.form;obtain⟨n,hn⟩:=gX ps.length;rw [hn]at h ⊢;have hle:=h.le;unfold maxLen at hle;have hnc:n≤9223372036854775807:=by omega
 have Hn:=hd9 hn;have Hf:=hd9 hf;clear hn hle hf;go_enter Tryz.func138,Tryz.ntmps138;go_wp2
 go_loopg [8] n (IlS w f ps)
 case atStart=>exact⟨0,by omega,rfl,by rw [Hn.out];rfl,eR _,fun j y hj=>by omega⟩
 case round =>
  obtain⟨i,hi,rfl,rfl,hx,hall⟩:=hrel;rw [Hn.out]at hi;have Hall:=hd9 hall;clear hall
  by_cases hlt:i<n
  ·obtain⟨p,hq⟩:∃q,ps[i]?=V q:=⟨ps[i]'(by rw [Hn.out];omega),by simp [Hn.out,hlt]⟩
   obtain⟨b,o,s,vl,vu,rfl,hb,d1,d2,d3,hc⟩:=(h.ext' hx).at' hq;have HC:=hd9 (fun W (hW:Ext wr W)=>Hf.out W (hx.trans hW) (F (lac p s vl vu)) p (lM hq) ⟨_,_,_,rfl,d1.ext' hW,d2.ext' hW,d3.ext' hW⟩);obtain⟨sa1,sc1,rfl⟩:=d1.form;obtain⟨a1,c1,rfl⟩:=d2.form;obtain⟨ua1,uc1,rfl⟩:=d3.form;obtain⟨n1,f1⟩:=gX ((lowP2 p).length);obtain⟨m1,f3⟩:=gX ((upP2 p).length);obtain⟨j1,f5⟩:=gX p.shape.length;obtain⟨fp,f7⟩:=gX (f p);rw [f1,f3,f5]at hc HC;rw [f7]at HC;have F7:=hd9 f7;have cc0:=hc 0 (.string p.name) rfl;have cc1:=hc 1 (Y sa1 j1 sc1) rfl;have cc2:=hc 2 (I J p.depth) rfl;have cc3:=hc 3 (I J p.density) rfl;have cc4:=hc 4 (I J p.gx) rfl;have cc5:=hc 5 (I J p.gz) rfl;have cc6:=hc 6 (I J p.way) rfl;have cc7:=hc 7 (I J p.ax) rfl;have cc8:=hc 8 (I J p.az) rfl;have cc9:=hc 9 (I .u8 p.skin) rfl;have cc10:=hc 10 (Y a1 n1 c1) rfl;have cc11:=hc 11 (Y ua1 m1 uc1) rfl;simp only [Nat.add_zero]at cc0;have Hq:=hd9 hq;unfold lac at HC;clear hq hc d1 d2 d3 f1 f3 f5 f7
   cases fp with
   | true =>
    have e:idxB f ps=(i:Int):=zcx Hq.out F7.out Hall.out;have E:=hd9 e;clear e
    go_wp2_with(((go_at_call 103;(with_reducible refine(HC.out _ ?_).mono ?_);exact eA;rintro e w1 ⟨rfl,hx1⟩)))
    go_ret;exact⟨by rw [E.out];rfl,eA⟩
   | false =>
    go_wp2_with(((go_at_call 103;(with_reducible refine(HC.out _ ?_).mono ?_);exact eA;rintro e w1 ⟨rfl,hx1⟩)))
    go_roundg (n-(i+1))
    case measure=>have:=Hn.out;omega
    case rel =>
     refine⟨i+1,by have:=Hn.out;omega,by go_num,by rw [Hn.out],eA,fun j y hj hy=>?_⟩
     by_cases hji:j=i
     ·subst hji;rw [Hq.out]at hy;cases hy;exact F7.out
     ·exact Hall.out j y (by omega) hy
  ·obtain rfl:i=n:=by omega
   have e:idxB f ps = -1:=zcw (fun j y hj hy=>Hall.out j y (by rw [Hn.out]at hj;exact hj) hy);have E:=hd9 e;clear e;go_wp2;go_ret;exact⟨by rw [E.out];rfl,hx⟩
theorem ziI (w:O) (v:Z) (ps:List Pl) (bq:Nat) (f:Pl→Bool) (h:IsLas w v ps)
  (hf:∀W,Ext w W→∀vp p,p∈ps→IsLa W vp p→Calls Tryz.prog 103 #[vp,C (V ⟨bq,0,X⟩)] W fun e w'=>e = .returned (A (f p))∧Ext W w') :
  Calls Tryz.prog 102 #[v,.func (.func 103) #[] #[C (V ⟨bq,0,X⟩)]] w fun e w'=>e = .returned (A (ps.any f))∧Ext w w':=by
 rw [←ze0];obtain⟨x,hx⟩:=gX (idxB f ps);have hc:=fun W (hW:Ext w W)=>zjg W v ps bq f (h.ext' hW) (fun W' hW'=>hf W' (hW.trans hW'))
 obtain⟨a,n,c,rfl⟩:∃a n c,v=Y a n c:=by obtain⟨a,c,h⟩:=h.form;exact⟨a,_,c,h⟩
 rw [hx]at *;have Hc:=hd9 hc;clear hc hx h hf;go_enter Tryz.func102,Tryz.ntmps102
 go_wp2_with(((go_at_call 138;(with_reducible refine(Hc.out _ ?_).mono ?_);exact eA;rintro e w1 ⟨rfl,hx1⟩)))
 go_ret;exact⟨rfl,eA⟩
theorem zje (w:O) (v:Z) (ps:List Pl) (bq:Nat) (f:Pl→Bool) (h:IsLas w v ps)
  (hf:∀W,Ext w W→∀vp p,p∈ps→IsLa W vp p→Calls Tryz.prog 104 #[vp,C (V ⟨bq,0,X⟩)] W fun e w'=>e = .returned (A (f p))∧Ext W w') :
  Calls Tryz.prog 138 #[v,.func (.func 104) #[] #[C (V ⟨bq,0,X⟩)]] w fun e w'=>e = .returned (I J (idxB f ps))∧Ext w w':=by
 obtain⟨a,c,rfl⟩:=h.form;obtain⟨n,hn⟩:=gX ps.length;rw [hn]at h ⊢;have hle:=h.le;unfold maxLen at hle;have hnc:n≤9223372036854775807:=by omega
 have Hn:=hd9 hn;have Hf:=hd9 hf;clear hn hle hf;go_enter Tryz.func138,Tryz.ntmps138;go_wp2
 go_loopg [8] n (IlS w f ps)
 case atStart=>exact⟨0,by omega,rfl,by rw [Hn.out];rfl,eR _,fun j y hj=>by omega⟩
 case round =>
  obtain⟨i,hi,rfl,rfl,hx,hall⟩:=hrel;rw [Hn.out]at hi;have Hall:=hd9 hall;clear hall
  by_cases hlt:i<n
  ·obtain⟨p,hq⟩:∃q,ps[i]?=V q:=⟨ps[i]'(by rw [Hn.out];omega),by simp [Hn.out,hlt]⟩
   obtain⟨b,o,s,vl,vu,rfl,hb,d1,d2,d3,hc⟩:=(h.ext' hx).at' hq;have HC:=hd9 (fun W (hW:Ext wr W)=>Hf.out W (hx.trans hW) (F (lac p s vl vu)) p (lM hq) ⟨_,_,_,rfl,d1.ext' hW,d2.ext' hW,d3.ext' hW⟩);obtain⟨sa1,sc1,rfl⟩:=d1.form;obtain⟨a1,c1,rfl⟩:=d2.form;obtain⟨ua1,uc1,rfl⟩:=d3.form;obtain⟨n1,f1⟩:=gX ((lowP2 p).length);obtain⟨m1,f3⟩:=gX ((upP2 p).length);obtain⟨j1,f5⟩:=gX p.shape.length;obtain⟨fp,f7⟩:=gX (f p);rw [f1,f3,f5]at hc HC;rw [f7]at HC;have F7:=hd9 f7;have cc0:=hc 0 (.string p.name) rfl;have cc1:=hc 1 (Y sa1 j1 sc1) rfl;have cc2:=hc 2 (I J p.depth) rfl;have cc3:=hc 3 (I J p.density) rfl;have cc4:=hc 4 (I J p.gx) rfl;have cc5:=hc 5 (I J p.gz) rfl;have cc6:=hc 6 (I J p.way) rfl;have cc7:=hc 7 (I J p.ax) rfl;have cc8:=hc 8 (I J p.az) rfl;have cc9:=hc 9 (I .u8 p.skin) rfl;have cc10:=hc 10 (Y a1 n1 c1) rfl;have cc11:=hc 11 (Y ua1 m1 uc1) rfl;simp only [Nat.add_zero]at cc0;have Hq:=hd9 hq;unfold lac at HC;clear hq hc d1 d2 d3 f1 f3 f5 f7
   cases fp with
   | true =>
    have e:idxB f ps=(i:Int):=zcx Hq.out F7.out Hall.out;have E:=hd9 e;clear e
    go_wp2_with(((go_at_call 104;(with_reducible refine(HC.out _ ?_).mono ?_);exact eA;rintro e w1 ⟨rfl,hx1⟩)))
    go_ret;exact⟨by rw [E.out];rfl,eA⟩
   | false =>
    go_wp2_with(((go_at_call 104;(with_reducible refine(HC.out _ ?_).mono ?_);exact eA;rintro e w1 ⟨rfl,hx1⟩)))
    go_roundg (n-(i+1))
    case measure=>have:=Hn.out;omega
    case rel =>
     refine⟨i+1,by have:=Hn.out;omega,by go_num,by rw [Hn.out],eA,fun j y hj hy=>?_⟩
     by_cases hji:j=i
     ·subst hji;rw [Hq.out]at hy;cases hy;exact F7.out
     ·exact Hall.out j y (by omega) hy
  ·obtain rfl:i=n:=by omega
   have e:idxB f ps = -1:=zcw (fun j y hj hy=>Hall.out j y (by rw [Hn.out]at hj;exact hj) hy);have E:=hd9 e;clear e;go_wp2;go_ret;exact⟨by rw [E.out];rfl,hx⟩
theorem ziG (w:O) (v:Z) (ps:List Pl) (bq:Nat) (f:Pl→Bool) (h:IsLas w v ps)
  (hf:∀W,Ext w W→∀vp p,p∈ps→IsLa W vp p→Calls Tryz.prog 104 #[vp,C (V ⟨bq,0,X⟩)] W fun e w'=>e = .returned (A (f p))∧Ext W w') :
  Calls Tryz.prog 102 #[v,.func (.func 104) #[] #[C (V ⟨bq,0,X⟩)]] w fun e w'=>e = .returned (A (ps.any f))∧Ext w w':=by
 rw [←ze0];obtain⟨x,hx⟩:=gX (idxB f ps);have hc:=fun W (hW:Ext w W)=>zje W v ps bq f (h.ext' hW) (fun W' hW'=>hf W' (hW.trans hW'))
 obtain⟨a,n,c,rfl⟩:∃a n c,v=Y a n c:=by obtain⟨a,c,h⟩:=h.form;exact⟨a,_,c,h⟩
 rw [hx]at *;have Hc:=hd9 hc;clear hc hx h hf;go_enter Tryz.func102,Tryz.ntmps102
 go_wp2_with(((go_at_call 138;(with_reducible refine(Hc.out _ ?_).mono ?_);exact eA;rintro e w1 ⟨rfl,hx1⟩)))
 go_ret;exact⟨rfl,eA⟩
theorem zbl {g:List (Int×Int)} (h:groundB g=true):LnOk g:=by
 unfold groundB at h;rw [Bool.and_eq_true,List.all_eq_true]at h;obtain⟨h1,h2⟩:=h;unfold wthn at h1;simp at h1;refine⟨fun e=>by subst e;simp at h1,fun p hp=>?_,by omega⟩;obtain⟨i,hi,rfl⟩:=List.mem_iff_getElem.1 hp;have h3:=h2 i (List.mem_range.2 hi);unfold grdR at h3;rw [gD,gE hi,Option.getD_some]at h3;simp only [Bool.and_eq_true,Bool.not_eq_true']at h3;have e1:=h3.1;have e2:=h3.2.1;unfold pfarB at e1 e2;simp at e1 e2
 constructor<;>(unfold Bd;omega)
def holdsB (g:List (Int×Int)) (p:Pl):Bool:=decide (lineL g≤lineL (lowP2 p))&&decide (lineR (lowP2 p)≤lineR g)
def clearB (g:List (Int×Int)) (ps:List Pl) (p:Pl):Bool:=freeB (lowP2 p) g&&!ps.any (clashB p)
theorem form3 {T:TypeId} {k:Nat} {α:Type} {P:O→List Z→α→Prop} {w:O} {v:Z} {xs:List α} (h:Sl T k P w v xs):∃a n c,v=Y a n c:=by obtain⟨a,c,h⟩:=h.form;exact⟨a,_,c,h⟩
theorem zbv (w:O) (vg vs:Z) (ps:List Pl) (nm:ByteArray) (hg:∃a n c,vg=Y a n c) (h:IsLas w vs ps) :
  Calls Tryz.prog 48 #[F #[vg,vs],.string nm] w fun e w'=>e = .returned (A (ps.any (nameB nm)))∧Ext w w':=by
 obtain⟨ga,gn,gc,rfl⟩:=hg;have hc:=fun W (hW:Ext w W) (bq:Nat) (hq:W.cell? ⟨bq,0,X⟩=V (.string nm))=>ziI W vs ps bq (nameB nm) (h.ext' hW) (fun W' hW' vp p _ hp=>zk0 W' vp p nm bq hp (hW'.cellS hq))
 obtain⟨a,n,c,rfl⟩:=form3 h;obtain⟨x,hx⟩:=gX (ps.any (nameB nm));simp only [hx]at hc ⊢;have Hc:=hd9 hc;clear hc hx h;have hmf:∀(fn:Fn) (first cap:Array Z) (w:O),(Instr.makeFunc fn first cap).run Tryz.prog w = .ok (.func fn first cap) w:=fun _ _ _ _=>rfl
 go_enter Tryz.func48,Tryz.ntmps48
 go_wp2_with(((go_at_call 102;(with_reducible refine(Hc.out _ ?_ _ ?_).mono ?_);exact eA;(focus(go_simp;done));rintro e w1 ⟨rfl,hx1⟩)))
 go_ret;exact⟨rfl,eA⟩
theorem zdu (w:O) (vg vs vp:Z) (g:List (Int×Int)) (ps:List Pl) (p:Pl) (hg:IsPts w vg g) (h:IsLas w vs ps) (hp:IsLa w vp p) (k0:LnOk g) (k1:∀q∈ps,placedOk q=true) (k2:placedOk p=true) :
  Calls Tryz.prog 49 #[F #[vg,vs],vp] w fun e w'=>e = .returned (A (clearB g ps p))∧Ext w w':=by
 obtain⟨s1,l1,u1,rfl,p1,p2,p3⟩:=hp;have HC:=hd9 (fun W (hW:Ext w W) (bq:Nat) (hq:W.heap[bq]?=V (N (lac p s1 l1 u1) 101 (0,0)))=>ziG W vs ps bq (clashB p) (h.ext' hW) (fun W' hW' vq q hqm hq'=>zkz W' vq q p bq s1 l1 u1 hq' ⟨hW'.heapS hq,p1.ext' (hW.trans hW'),p2.ext' (hW.trans hW'),p3.ext' (hW.trans hW')⟩ (k1 q hqm) k2));have HF:=hd9 (fun W (hW:Ext w W)=>zeY W l1 vg (lowP2 p) g (p2.ext' hW) (hg.ext' hW) (zam k2).1 k0);obtain⟨ga,gn,gc,rfl⟩:=form3 hg;obtain⟨a,n,c,rfl⟩:=form3 h;obtain⟨sa1,sn1,sc1,rfl⟩:=form3 p1;obtain⟨a1,n1,c1,rfl⟩:=form3 p2;obtain⟨ua1,un1,uc1,rfl⟩:=form3 p3;obtain⟨fr,f1⟩:=gX (freeB (lowP2 p) g);obtain⟨cl,f2⟩:=gX (ps.any (clashB p));unfold clearB;rw [f1]at HF ⊢;rw [f2]at HC ⊢;obtain⟨nm,sh,d,de,gx,gz,wy,ax,az,sk⟩:=p;clear f1 f2 hg h p1 p2 p3 k0 k1 k2;unfold lac at HC ⊢;dsimp only at HC ⊢;have hmf:∀(fn:Fn) (first cap:Array Z) (w:O),(Instr.makeFunc fn first cap).run Tryz.prog w = .ok (.func fn first cap) w:=fun _ _ _ _=>rfl
 cases fr with
 | false =>
  go_enter Tryz.func49,Tryz.ntmps49
  go_wp2_with(go_at_call 96;(with_reducible refine(HF.out _ ?_).mono ?_);exact eA;rintro e w1 ⟨rfl,hx1⟩)
  go_ret;exact⟨rfl,eA⟩
 | true =>
  go_enter Tryz.func49,Tryz.ntmps49
  go_wp2_with(first|(go_at_call 96;(with_reducible refine(HF.out _ ?_).mono ?_);exact eA;rintro e w1 ⟨rfl,hx1⟩;obtain⟨hc1,hf1⟩:=hx1.cells)|(go_at_call 102;(with_reducible refine(HC.out _ ?_ _ ?_).mono ?_);exact eA;(exact hx1.heapS (qhA _ _ _ (by simp)));rintro e w2 ⟨rfl,hx2⟩))
  go_ret;exact⟨rfl,eA⟩
theorem zdH (w:O) (vg vs vp:Z) (g:List (Int×Int)) (p:Pl) (hg:IsPts w vg g) (h:∃a n c,vs=Y a n c) (hp:IsLa w vp p) (k0:LnOk g) (k2:placedOk p=true) :
  Calls Tryz.prog 47 #[F #[vg,vs],vp] w fun e w'=>e = .returned (A (holdsB g p))∧Ext w w':=by
 obtain⟨s1,l1,u1,rfl,p1,p2,p3⟩:=hp;have o1:=(zam k2).1;have HA:=hd9 (fun(W:O) (hW:Ext w W)=>zbr W vg g (hg.ext' hW) (List.length_pos_iff.2 k0.1));have HB:=hd9 (fun(W:O) (hW:Ext w W)=>zbr W l1 (lowP2 p) (p2.ext' hW) (List.length_pos_iff.2 o1.1));have HC:=hd9 (fun(W:O) (hW:Ext w W)=>zbn W l1 (lowP2 p) (p2.ext' hW) (List.length_pos_iff.2 o1.1));have HD:=hd9 (fun(W:O) (hW:Ext w W)=>zbn W vg g (hg.ext' hW) (List.length_pos_iff.2 k0.1));obtain⟨ga,gn,gc,rfl⟩:=form3 hg;obtain⟨a,n,c,rfl⟩:=h;obtain⟨sa1,sn1,sc1,rfl⟩:=form3 p1;obtain⟨a1,n1,c1,rfl⟩:=form3 p2;obtain⟨ua1,un1,uc1,rfl⟩:=form3 p3;unfold holdsB;obtain⟨gl,f1⟩:=gX (lineL g);obtain⟨gr,f2⟩:=gX (lineR g);obtain⟨pl,f3⟩:=gX (lineL (lowP2 p));obtain⟨pr,f4⟩:=gX (lineR (lowP2 p));simp only [f1,f2,f3,f4]at HA HB HC HD ⊢;obtain⟨nm,sh,d,de,gx,gz,wy,ax,az,sk⟩:=p;clear f1 f2 f3 f4 hg p1 p2 p3 k0 k2 o1;unfold lac;dsimp only;go_enter Tryz.func47,Tryz.ntmps47;go_wp2;refine wp_region_held_drew (S:=CellL [(⟨w.heap.size,0,X⟩,Y ga gn gc),(⟨w.heap.size+1,10,X⟩,Y a1 n1 c1)]) (by kernel_rfl) cA (fun h9H=>?_);refine sN 0 ?_
 iterate 2
  refine tkn ?_
 refine oN ?_;refine sN 3 ?_
 iterate 2
  refine tkn ?_
 refine oN ?_;refine cl1 (i:=2) fun K hK=>?_
 go_simp
 (with_reducible refine cM (HA.out _ eA) ?_)
 rintro e w3 ⟨rfl,hx3⟩
 skip
 go_wp2_with fail
 refine kO hK (cE h9H hx3) (fun h9H=>?_);clear hK K;have X3:Ext w w3:=eA;refine cl1 (i:=5) fun K hK=>?_
 go_simp
 (with_reducible refine cM (HB.out _ X3) ?_)
 rintro e w4 ⟨rfl,hx4⟩
 skip
 go_wp2_with fail
 refine kO hK (cE h9H hx4) (fun h9H=>?_);clear hK K;have X4:=X3.trans hx4;refine sN 6 ?_
 iterate 2
  refine tkn ?_
 refine oN ?_
 by_cases g1:gl≤pl
 ·have e1:decide (gl≤pl)=true:=by simpa using g1
  rw [e1];refine sN 8 ?_
  iterate 2
   refine tkn ?_
  refine oN ?_;refine sN 11 ?_
  iterate 2
   refine tkn ?_
  refine oN ?_;refine cl1 (i:=10) fun K hK=>?_
  go_simp
  (with_reducible refine cM (HC.out _ X4) ?_)
  rintro e w5 ⟨rfl,hx5⟩
  skip
  go_wp2_with fail
  refine kO hK (cE h9H hx5) (fun h9H=>?_);clear hK K;have X5:=X4.trans hx5;refine cl1 (i:=13) fun K hK=>?_
  go_simp
  (with_reducible refine cM (HD.out _ X5) ?_)
  rintro e w6 ⟨rfl,hx6⟩
  skip
  go_wp2_with fail
  refine kO hK (cE h9H hx6) (fun h9H=>?_);clear hK K;have X6:=X5.trans hx6;refine sN 14 ?_
  iterate 3
   refine tkn ?_
  refine oN ?_;refine wpAnyH_done (by kernel_rfl) ?_ _;go_wp2;go_ret;exact⟨by rw [e1];rfl,X6⟩
 ·have e1:decide (gl≤pl)=false:=by simpa using g1
  rw [e1];refine sN 8 ?_
  iterate 2
   refine tkgn ?_
  refine oN ?_;refine sN 11 ?_
  iterate 2
   refine tkgn ?_
  refine oN ?_;refine tkg1 (i:=10) ?_;refine sN 13 ?_
  iterate 2
   refine tkgn ?_
  iterate 2
   refine tkn ?_
  refine oN ?_;refine wpAnyH_done (by kernel_rfl) ?_ _;go_wp2;go_ret;exact⟨by simp,X4⟩
def addE (g:List (Int×Int)) (done:List Pl) (p:Pl):Int:=if placedOk p then (if holdsB g p then (if done.any (nameB p.name)then 7 else 0)else 2)else 2
def laid1 (g:List (Int×Int)):List Pl→List Pl→Int
 | _,[]=>0
 | done,p::r=>if addE g done p=0 then laid1 g (done++[p]) r else addE g done p
def laid2 (g:List (Int×Int)):List Pl→List Pl→Int
 | _,[]=>0
 | done,p::r=>if clearB g done p then laid2 g (done++[p]) r else 12
def laidP (g:List (Int×Int)) (ps:List Pl):Int:=if groundB g then (if 120<ps.length then 5 else if laid1 g [] ps=0 then laid2 g [] ps else laid1 g [] ps)else 2
theorem zcu {α:Type} {ps:List α} {i:Nat} {p:α} (h:ps[i]?=V p):ps.drop i=p::ps.drop (i+1):=by
 obtain⟨hi,rfl⟩:=lS.1 h;exact List.drop_eq_getElem_cons hi
theorem zhT {g:List (Int×Int)} {ps:List Pl} {i:Nat} {p:Pl} (h:ps[i]?=V p) (h0:addE g (ps.take i) p=0):laid1 g (ps.take i) (ps.drop i)=laid1 g (ps.take (i+1)) (ps.drop (i+1)):=by
 rw [zcu h,zab _ _ _ h,laid1,if_pos h0]
theorem zcT {g:List (Int×Int)} {ps:List Pl} {i:Nat} {p:Pl} (h:ps[i]?=V p) (h0:addE g (ps.take i) p≠0):laid1 g (ps.take i) (ps.drop i)=addE g (ps.take i) p:=by
 rw [zcu h,laid1,if_neg h0]
theorem zhU {g:List (Int×Int)} {ps:List Pl} {i:Nat} {p:Pl} (h:ps[i]?=V p) (h0:clearB g (ps.take i) p=true):laid2 g (ps.take i) (ps.drop i)=laid2 g (ps.take (i+1)) (ps.drop (i+1)):=by
 rw [zcu h,zab _ _ _ h,laid2,if_pos h0]
theorem zhV {g:List (Int×Int)} {ps:List Pl} {i:Nat} {p:Pl} (h:ps[i]?=V p) (h0:clearB g (ps.take i) p=false):laid2 g (ps.take i) (ps.drop i)=12:=by
 rw [zcu h,laid2,h0];rfl
def OwnLa (w:O) (base:Nat) (v:Z) (ps:List Pl):Prop:=∃cs,OwnC 101 12 w base v cs∧cs.length=ps.length∧∀(i:Nat) c p,cs[i]?=V c→ps[i]?=V p→PLa w c p
theorem OwnLa.las {w:O} {base:Nat} {v:Z} {ps:List Pl} (h:OwnLa w base v ps):IsLas w v ps:=by
 obtain⟨cs,h1,h2,h3⟩:=h;exact h1.sl h2 h3
theorem OwnLa.ext {w w':O} {base:Nat} {v:Z} {ps:List Pl} (h:OwnLa w base v ps) (k:Ext w w'):OwnLa w' base v ps:=by
 obtain⟨cs,h1,h2,h3⟩:=h;exact⟨cs,h1.ext k,h2,fun i c p hc hp=>(h3 i c p hc hp).ext k⟩
theorem OwnLa.nil (w:O) (base:Nat):OwnLa w base (Y X 0 0) []:=⟨[],OwnC.nil _ _ _ _,rfl,fun i c p hc=>by simp at hc⟩
theorem OwnLa.form3 {w:O} {base:Nat} {v:Z} {ps:List Pl} (h:OwnLa w base v ps):∃a n c,v=Y a n c:=by obtain⟨cs,h1,_⟩:=h;exact h1.form3
theorem OwnLa.setOther {w:O} {base:Nat} {v:Z} {ps:List Pl} {q:Addr} (h:OwnLa w base v ps) (hp:v.ownBlock≠V q.block) (hn:NoT 33 w q.block) (u:Z):OwnLa (w.setCell q u) base v ps:=by
 obtain⟨cs,h1,h2,h3⟩:=h;exact⟨cs,h1.setOther hp u,h2,fun i c p hc hx=>(h3 i c p hc hx).keep ((KeepT.refl _ w).setN hn u)⟩
theorem OwnLa.lt {w:O} {base:Nat} {v:Z} {ps:List Pl} (h:OwnLa w base v ps):∀j,v.ownBlock=V j→base≤j∧j<w.heap.size:=by obtain⟨cs,h1,_⟩:=h;exact h1.lt
theorem OwnLa.app {wr w8:O} {base:Nat} {v':Z} {ps:List Pl} {cs:List (List Z)} {d:List Z} {p:Pl} (h:OwnC 101 12 w8 base v' (cs++[d])) (hcl:cs.length=ps.length)
  (hcp:∀(i:Nat) c p,cs[i]?=V c→ps[i]?=V p→PLa wr c p) (hk:KeepT 33 wr w8) (hd:PLa w8 d p):OwnLa w8 base v' (ps++[p]):=by
 refine⟨cs++[d],h,by simp [hcl],fun i c x hc hx=>?_⟩
 by_cases hi:i<cs.length
 ·rw [List.getElem?_append_left hi]at hc
  rw [List.getElem?_append_left (by omega)]at hx;exact(hcp i c x hc hx).keep hk
 ·rw [List.getElem?_append_right (by omega)]at hc hx
  have hl:=(lS.1 hc).1;simp at hl;have:i-cs.length=0:=by omega
  rw [this]at hc;rw [show i-ps.length=0 by omega]at hx;simp at hc hx;subst hc hx;exact hd
theorem zmg:(Tryz.prog.info? 101).map (fun i=>(i.zero,i.size,i.bytes))=V (V (F la0),12,152):=by kernel_rfl
theorem zca (W:O) (cs:Array Z) (T:TypeId):∀(j:Nat) u,[cs.toList].flatten[j]?=V u→(W.alloc (N cs T)).cell? ((⟨W.heap.size,0,X⟩:Addr).add j)=V u:=by
 intro j u hj;rw [List.flatten_cons,List.flatten_nil,List.append_nil,Array.getElem?_toList]at hj;have e:=qcB (aN W (N cs T)) hj;unfold Addr.add
 split
 ·subst j;exact e
 ·rw [show (⟨W.heap.size,0,X⟩:Addr).off+j=j by simp];exact e
def PPl (w:O) (c:List Z) (p:Pl):Prop:=∃v,c=(plc p v).toList∧IsPts w v p.shape∧0≤p.skin
theorem PPl.ext {w w':O} {c:List Z} {p:Pl} (h:PPl w c p) (k:Ext w w'):PPl w' c p:=by
 obtain⟨v,h1,h2,h3⟩:=h;exact⟨v,h1,h2.ext' k,h3⟩
abbrev IsPls (w:O) (v:Z) (ps:List Pl):Prop:=Sl 37 10 PPl w v ps
theorem IsPls.ext' {w w':O} {v:Z} {ps:List Pl} (h:IsPls w v ps) (k:Ext w w'):IsPls w' v ps:=Sl.ext h (fun _ _ h=>PPl.ext h k) k
theorem IsPls.at' {w:O} {a:Option Addr} {n c:Nat} {ps:List Pl} (h:IsPls w (Y a n c) ps) {i:Nat} {p:Pl} (hp:ps[i]?=V p) :
  ∃b o v,a=V ⟨b,o,X⟩∧b<w.heap.size∧IsPts w v p.shape∧0≤p.skin∧∀(j:Nat) u,(plc p v)[j]?=V u→w.cell? ⟨b,o+i*10+j,X⟩=V u:=by
 obtain⟨b,o,d,rfl,hb,hl,⟨v,rfl,h1,h2⟩,hc⟩:=Sl.at h hp;exact⟨b,o,v,rfl,hb,h1,h2,fun j u hj=>hc j u (by rw [Array.getElem?_toList];exact hj)⟩
def site0:Z:=F #[Y X 0 0,Y X 0 0]
def RetLo (w:O) (vg:Z) (g:List (Int×Int)) (ps:List Pl) (e:Ending) (w':O):Prop:=
 (laidP g ps≠0∧e = .returned (L #[site0,I J (laidP g ps)])∧Ext w w')∨(laidP g ps=0∧∃vs,e = .returned (L #[F #[vg,vs],I J 0])∧IsLas w' vs ps∧Ext w w')
def LoC (w:O) (b4:Nat) (vg vp vs:Z) (W:O):Prop:=
 W.heap[w.heap.size]?=V (N #[vg,vp] 50 (0,0))∧W.heap[w.heap.size+1]?=V (N #[Y X 0 0,Y X 0 0] 108 (0,0))∧W.heap[b4]?=V (N #[vg,vs] 108 (0,0))
theorem LoC.ext {w W W':O} {b4:Nat} {vg vp vs:Z} (h:LoC w b4 vg vp vs W) (k:Ext W W'):LoC w b4 vg vp vs W':=⟨k.heapS h.1,k.heapS h.2.1,k.heapS h.2.2⟩
theorem LoC.below {w W W':O} {b4:Nat} {vg vp vs:Z} (h:LoC w b4 vg vp vs W) (k:Below (b4+1) W W') (hz:w.heap.size+1<b4):LoC w b4 vg vp vs W':=by
 obtain⟨h1,h2,h3⟩:=h;exact⟨(k.block _ (by omega)).trans h1,(k.block _ (by omega)).trans h2,(k.block _ (by omega)).trans h3⟩
theorem LoC.put {w W:O} {b4:Nat} {vg vp vs:Z} (h:LoC w b4 vg vp vs W) (hz:w.heap.size+1<b4) (v:Z):LoC w b4 vg vp v (W.setCell ⟨b4,1,X⟩ v):=by
 obtain⟨h1,h2,h3⟩:=h;refine⟨?_,?_,?_⟩
 ·rw [bS _ _ _ _ (by dsimp only;omega)];exact h1
 ·rw [bS _ _ _ _ (by dsimp only;omega)];exact h2
 ·simp [World.setCell,Array.getElem?_modify,h3]
def LoS (w:O) (b4:Nat) (vg vp:Z) (g:List (Int×Int)) (ps:List Pl) (gk:Nat) (t28:Z) (W:O):Prop:=
 ∃(i:Nat) (vs:Z),i≤ps.length∧t28=I J i∧gk=ps.length-i∧Ext w W∧b4+1≤W.heap.size∧LoC w b4 vg vp vs W∧OwnLa W (b4+1) vs (ps.take i)∧laid1 g [] ps=laid1 g (ps.take i) (ps.drop i)∧∀p∈ps.take i,placedOk p=true
def LpS (w:O) (b4:Nat) (vg vp:Z) (vs:Z) (g:List (Int×Int)) (ps:List Pl) (gk:Nat) (t59:Z) (W:O):Prop:=
 ∃i:Nat,i≤ps.length∧t59=I J i∧gk=ps.length-i∧Ext w W∧b4+1≤W.heap.size∧LoC w b4 vg vp vs W∧IsLas W vs ps∧laid2 g [] ps=laid2 g (ps.take i) (ps.drop i)
theorem Ext.isPts {w w':O} {v:Z} {ps:List (Int×Int)} (h:IsPts w v ps) (k:Ext w w'):IsPts w' v ps:=h.ext' k
theorem zbE (w:O) (vg vp:Z) (g:List (Int×Int)) (ps:List Pl) (hg:IsPts w vg g) (hp:IsPls w vp ps) (hgw:Gw w) :
  Calls Tryz.prog 44 #[F #[vg,vp]] w (RetLo w vg g ps):=by
 have HG:=hd9 (fun(W:O) (hW:Ext w W)=>zhQ W vg g (hg.ext' hW));have Hpt:=hd9 (fun(W:O) (hW:Ext w W)=>hg.ext' hW);have Hpl:=hd9 (fun(W:O) (hW:Ext w W)=>hp.ext' hW);have Hgw:=hd9 hgw;obtain⟨ga,gn,gc,rfl⟩:=form3 hg;obtain⟨pa,pn,pc1,rfl⟩:=form3 hp;have hpl:=hp.len;have hpm:=hp.le;obtain⟨R,hR⟩:=gX (RetLo w (Y ga gn gc) g ps);rw [hR];have HR:=hd9 hR;have Hn:=hd9 hpl.symm;have hnc:pn≤9223372036854775807:=by unfold maxLen at hpm;omega
 clear hg hp hgw hpl hpm hR;obtain⟨G,hG⟩:=gX (groundB g);have HGb:=hd9 hG;rw [hG]at HG;clear hG
 cases G with
 | false =>
  have e:laidP g ps=2:=by unfold laidP;rw [HGb.out];rfl
  have E:=hd9 e;clear e;go_enter Tryz.func44,Tryz.ntmps44
  go_wp2_with(go_at_call 97;(with_reducible refine(HG.out _ ?_).mono ?_);exact eA;rintro e w3 ⟨rfl,hx3⟩;obtain⟨hc3,hf3⟩:=hx3.cells;have z3:=hx3.size;simp only [wZ]at z3)
  have z3':w.heap.size<w3.heap.size:=by omega
  have z4':w.heap.size+1<w3.heap.size:=by omega
  refine bR (v:=L #[F #[Y X 0 0,Y X 0 0],I J 2]) (by simp [results,Tryz.results44,go_sem,hc3,hf3]) rfl ?_;rw [←HR.out];exact .inl ⟨by rw [E.out];decide,by rw [E.out];rfl,eA⟩
 | true =>
  by_cases hn:120<pn
  ·have e:laidP g ps=5:=by unfold laidP;rw [HGb.out,if_pos rfl,if_pos (by rw [Hn.out];exact hn)]
   have E:=hd9 e;have hn':(120:Int)<(pn:Int):=by omega
   clear e hn;go_enter Tryz.func44,Tryz.ntmps44
   go_wp2_with(go_at_call 97;(with_reducible refine(HG.out _ ?_).mono ?_);exact eA;rintro e w3 ⟨rfl,hx3⟩;obtain⟨hc3,hf3⟩:=hx3.cells;have z3:=hx3.size;simp only [wZ]at z3)
   have z3':w.heap.size<w3.heap.size:=by omega
   have z4':w.heap.size+1<w3.heap.size:=by omega
   refine bR (v:=L #[F #[Y X 0 0,Y X 0 0],I J 5]) (by simp [results,Tryz.results44,go_sem,hc3,hf3]) rfl ?_;rw [←HR.out];exact .inl ⟨by rw [E.out];decide,by rw [E.out];rfl,eA⟩
  have e:laidP g ps=if laid1 g [] ps=0 then laid2 g [] ps else laid1 g [] ps:=by unfold laidP;rw [HGb.out,if_pos rfl,if_neg (by rw [Hn.out];exact hn)]
  have E:=hd9 e;have hn':¬(120:Int)<(pn:Int):=by omega
  clear e;go_enter Tryz.func44,Tryz.ntmps44
  go_wp2_with(go_at_call 97;(with_reducible refine(HG.out _ ?_).mono ?_);exact eA;rintro e w3 ⟨rfl,hx3⟩;obtain⟨hc3,hf3⟩:=hx3.cells;have z3:=hx3.size;simp only [wZ]at z3;have z3':w.heap.size<w3.heap.size:=(by omega);have z4':w.heap.size+1<w3.heap.size:=(by omega))
  obtain⟨b4,hb4⟩:=gX w3.heap.size;have Hs3:=hd9 (show (w3.alloc (N #[Y ga gn gc,Y X 0 0] 108)).heap.size=b4+1 by simp [hb4]);have Hz:=hd9 (show w.heap.size+1<b4 by omega)
  have hC:LoC w b4 (Y ga gn gc) (Y pa pn pc1) (Y X 0 0) (w3.alloc (N #[Y ga gn gc,Y X 0 0] 108)):=by
   have y:=(eR w3).alloc (N #[Y ga gn gc,Y X 0 0] 108);refine⟨y.heapS (hx3.heapS ?_),y.heapS (hx3.heapS (qhA _ _ _ (by simp))),qhA _ _ _ hb4.symm⟩;rw [zae,if_neg (by simp)];exact qhA _ _ _ rfl
  have hX3:Ext w w3:=eA;rw [hb4]at *;clear hc3 hf3 hx3
  go_loopg [28] pn (LoS w b4 (Y ga gn gc) (Y pa pn pc1) g ps)
  case atStart =>
   exact⟨0,_,by omega,rfl,by rw [Hn.out];rfl,hX3.alloc _,by rw [Hs3.out];omega,hC,OwnLa.nil _ _,by simp,fun p h=>by simp at h⟩
  case round =>
   clear hC hX3;obtain⟨i,vs,hi,rfl,rfl,hx,hbs,hC,hown,hl1,hok⟩:=hrel;rw [Hn.out]at hi;obtain⟨va,vn,vc,rfl⟩:=hown.form3;have HC:=hd9 hC;have Hown:=hd9 hown;have Hx:=hd9 hx;have Hok:=hd9 hok;have Hl1:=hd9 hl1;have k0:=qcB hC.2.1 (i:=0) (u:=Y X 0 0) rfl;have k1:=qcB hC.2.1 (i:=1) (u:=Y X 0 0) rfl;have kf:=qfB hC.2.1;have m0:=qcB hC.2.2 (i:=0) (u:=Y ga gn gc) rfl;have m1:=qcB hC.2.2 (i:=1) (u:=Y va vn vc) rfl;have mf:=qfB hC.2.2;have zb:b4<wr.heap.size:=by omega
   have zw:w.heap.size+1<wr.heap.size:=by have:=Hz.out;omega
   by_cases hlt:i<pn
   ·obtain⟨p,hq⟩:∃q,ps[i]?=V q:=⟨ps[i]'(by rw [Hn.out];omega),by simp [Hn.out,hlt]⟩
    obtain⟨b,o,v,rfl,hb,d1,dk,hc⟩:=(Hpl.out _ hx).at' hq;have Hd1:=hd9 d1;have HCk:=hd9 (fun W (hW:Ext wr W)=>zaz W p v (d1.ext' hW) dk);have HOu:=hd9 (fun W (hW:Ext wr W) (h:placedOk p=true)=>zaV W p v (d1.ext' hW) h (Hgw.out.ext (hx.trans hW)));obtain⟨sa1,sn1,sc1,rfl⟩:=form3 d1;have Hq:=hd9 hq;obtain⟨ok,f1⟩:=gX (placedOk p);have F1:=hd9 f1;rw [f1]at HCk;have cc0:=hc 0 (.string p.name) rfl;have cc1:=hc 1 (Y sa1 sn1 sc1) rfl;have cc2:=hc 2 (I J p.depth) rfl;have cc3:=hc 3 (I J p.density) rfl;have cc4:=hc 4 (I J p.gx) rfl;have cc5:=hc 5 (I J p.gz) rfl;have cc6:=hc 6 (I J p.way) rfl;have cc7:=hc 7 (I J p.ax) rfl;have cc8:=hc 8 (I J p.az) rfl;have cc9:=hc 9 (I .u8 p.skin) rfl;simp only [Nat.add_zero]at cc0;have zb1:b4<wr.heap.size+1:=by omega
    have zw1:w.heap.size+1<wr.heap.size+1:=by omega
    obtain⟨er,hE⟩:=gX (addE g (ps.take i) p);have hE2:=hE;unfold addE at hE2;unfold plc at HCk HOu
    cases ok with
    | false =>
     have e:laidP g ps=2:=by
      have h2:addE g (ps.take i) p=2:=by unfold addE;rw [f1];rfl
      have h1:laid1 g [] ps=2:=by rw [hl1,zcT hq (by rw [h2];decide),h2]
      rw [E.out,h1];rfl
     have E2:=hd9 e;clear e hE hE2 hq hc f1 d1 hC hl1 hok hown E
     go_wp2_with(go_at_call 45;(with_reducible refine(HCk.out _ ?_).mono ?_);exact eA;rintro e w5 ⟨rfl,hx5⟩;obtain⟨hc5,hf5⟩:=hx5.cells;(have z5:=hx5.size);(try simp only [wZ,qdZ]at z5);(have zb5:b4<w5.heap.size:=(by omega));(have zw5:w.heap.size+1<w5.heap.size:=(by omega));(have zv5:w.heap.size+1<w5.heap.size+1:=(by omega));(have zd5:b4<w5.heap.size+1:=(by omega));(have zr5:wr.heap.size<w5.heap.size:=(by omega));(have zs5:wr.heap.size<w5.heap.size+1:=(by omega)))
     have X5:Ext wr w5:=eA;have K5:=X5.heapS HC.out.2.1;have x0:=qcB K5 (i:=0) (u:=Y X 0 0) rfl;have x1:=qcB K5 (i:=1) (u:=Y X 0 0) rfl;have xf:=qfB K5;refine bR (v:=L #[F #[Y X 0 0,Y X 0 0],I J 2]) (by simp [results,Tryz.results44,go_sem,x0,x1,xf]) rfl ?_;rw [←HR.out];exact .inl ⟨by rw [E2.out];decide,by rw [E2.out];rfl,eA⟩
    | true =>
     rw [f1,if_pos rfl]at hE2
     have hdone:∀q∈ps.take i++[p],placedOk q=true:=fun q hq=>by
      rcases List.mem_append.1 hq with h|h
      ·exact hok q h
      ·rw [List.mem_singleton.1 h];exact f1
     have HO:=hd9 (fun W (hW:Ext wr W)=>HOu.out W hW f1);have HH:=hd9 (fun(W:O) (hW:Ext wr W) (vp2:Z) (h2:IsLa W vp2 p)=>zdH W (Y ga gn gc) (Y va vn vc) vp2 g p (Hpt.out _ (hx.trans hW)) ⟨_,_,_,rfl⟩ h2 (zbl HGb.out) f1);have HN:=hd9 (fun(W:O) (hW:Ext wr W)=>zbv W (Y ga gn gc) (Y va vn vc) (ps.take i) p.name ⟨_,_,_,rfl⟩ (hown.las.ext' hW));obtain⟨bh,f2⟩:=gX (holdsB g p);obtain⟨bn,f3⟩:=gX ((ps.take i).any (nameB p.name));rw [f2]at HH hE2;rw [f3]at HN hE2;have Hdone:=hd9 hdone;clear hdone HOu
     cases bh with
     | false =>
      have e:laidP g ps=2:=by
       have h2:addE g (ps.take i) p=2:=by rw [hE,←hE2];rfl
       have h1:laid1 g [] ps=2:=by rw [hl1,zcT hq (by rw [h2];decide),h2]
       rw [E.out,h1];rfl
      have E2:=hd9 e;clear e hE hE2 hq hc f1 f2 f3 d1 hC hl1 hok hown E
      go_wp2_with(first|(go_at_call 45;(with_reducible refine(HCk.out _ ?_).mono ?_);exact eA;rintro e w5 ⟨rfl,hx5⟩;obtain⟨hc5,hf5⟩:=hx5.cells;(have z5:=hx5.size);(try simp only [wZ,qdZ]at z5);(have zb5:b4<w5.heap.size:=(by omega));(have zw5:w.heap.size+1<w5.heap.size:=(by omega));(have zv5:w.heap.size+1<w5.heap.size+1:=(by omega));(have zd5:b4<w5.heap.size+1:=(by omega));(have zr5:wr.heap.size<w5.heap.size:=(by omega));(have zs5:wr.heap.size<w5.heap.size+1:=(by omega)))|(go_at_call 46;(with_reducible refine(HO.out _ ?_).mono ?_);exact eA;rintro e w6 ⟨vl,vu,rfl,hvl,hvu,hx6⟩;obtain⟨la1,ln1,lc1,rfl⟩:=form3 hvl;obtain⟨ua1,un1,uc1,rfl⟩:=form3 hvu;obtain⟨hc6,hf6⟩:=hx6.cells;(have z6:=hx6.size);(try simp only [wZ,qdZ]at z6);(have zb6:b4<w6.heap.size:=(by omega));(have zw6:w.heap.size+1<w6.heap.size:=(by omega));(have zv6:w.heap.size+1<w6.heap.size+1:=(by omega));(have zd6:b4<w6.heap.size+1:=(by omega));(have zr6:wr.heap.size<w6.heap.size:=(by omega));(have zs6:wr.heap.size<w6.heap.size+1:=(by omega));try unfold lac)|(go_at_call 47;(with_reducible refine(HH.out _ ?_ _ ?_).mono ?_);exact eA;(exact⟨_,_,_,rfl,Ext.isPts (w:=wr) Hd1.out eA,hvl.ext' eA,hvu.ext' eA⟩);rintro e w7 ⟨rfl,hx7⟩;obtain⟨hc7,hf7⟩:=hx7.cells;(have z7:=hx7.size);(try simp only [wZ,qdZ]at z7);(have zb7:b4<w7.heap.size:=(by omega));(have zw7:w.heap.size+1<w7.heap.size:=(by omega));(have zv7:w.heap.size+1<w7.heap.size+1:=(by omega));(have zd7:b4<w7.heap.size+1:=(by omega));(have zr7:wr.heap.size<w7.heap.size:=(by omega));(have zs7:wr.heap.size<w7.heap.size+1:=(by omega));(have zy7:w6.heap.size<w7.heap.size:=(by omega))))
      have X7:Ext wr w7:=eA;have K7:=X7.heapS HC.out.2.1;have x0:=qcB K7 (i:=0) (u:=Y X 0 0) rfl;have x1:=qcB K7 (i:=1) (u:=Y X 0 0) rfl;have xf:=qfB K7;refine bR (v:=L #[F #[Y X 0 0,Y X 0 0],I J 2]) (by simp [results,Tryz.results44,go_sem,x0,x1,xf]) rfl ?_;rw [←HR.out];exact .inl ⟨by rw [E2.out];decide,by rw [E2.out];rfl,eA⟩
     | true =>
      cases bn with
      | true =>
       have e:laidP g ps=7:=by
        have h2:addE g (ps.take i) p=7:=by rw [hE,←hE2];rfl
        have h1:laid1 g [] ps=7:=by rw [hl1,zcT hq (by rw [h2];decide),h2]
        rw [E.out,h1];rfl
       have E2:=hd9 e;clear e hE hE2 hq hc f1 f2 f3 d1 hC hl1 hok hown E
       go_wp2_with(first|(go_at_call 45;(with_reducible refine(HCk.out _ ?_).mono ?_);exact eA;rintro e w5 ⟨rfl,hx5⟩;obtain⟨hc5,hf5⟩:=hx5.cells;(have z5:=hx5.size);(try simp only [wZ,qdZ]at z5);(have zb5:b4<w5.heap.size:=(by omega));(have zw5:w.heap.size+1<w5.heap.size:=(by omega));(have zv5:w.heap.size+1<w5.heap.size+1:=(by omega));(have zd5:b4<w5.heap.size+1:=(by omega));(have zr5:wr.heap.size<w5.heap.size:=(by omega));(have zs5:wr.heap.size<w5.heap.size+1:=(by omega)))|(go_at_call 46;(with_reducible refine(HO.out _ ?_).mono ?_);exact eA;rintro e w6 ⟨vl,vu,rfl,hvl,hvu,hx6⟩;obtain⟨la1,ln1,lc1,rfl⟩:=form3 hvl;obtain⟨ua1,un1,uc1,rfl⟩:=form3 hvu;obtain⟨hc6,hf6⟩:=hx6.cells;(have z6:=hx6.size);(try simp only [wZ,qdZ]at z6);(have zb6:b4<w6.heap.size:=(by omega));(have zw6:w.heap.size+1<w6.heap.size:=(by omega));(have zv6:w.heap.size+1<w6.heap.size+1:=(by omega));(have zd6:b4<w6.heap.size+1:=(by omega));(have zr6:wr.heap.size<w6.heap.size:=(by omega));(have zs6:wr.heap.size<w6.heap.size+1:=(by omega));try unfold lac)|(go_at_call 47;(with_reducible refine(HH.out _ ?_ _ ?_).mono ?_);exact eA;(exact⟨_,_,_,rfl,Ext.isPts (w:=wr) Hd1.out eA,hvl.ext' eA,hvu.ext' eA⟩);rintro e w7 ⟨rfl,hx7⟩;obtain⟨hc7,hf7⟩:=hx7.cells;(have z7:=hx7.size);(try simp only [wZ,qdZ]at z7);(have zb7:b4<w7.heap.size:=(by omega));(have zw7:w.heap.size+1<w7.heap.size:=(by omega));(have zv7:w.heap.size+1<w7.heap.size+1:=(by omega));(have zd7:b4<w7.heap.size+1:=(by omega));(have zr7:wr.heap.size<w7.heap.size:=(by omega));(have zs7:wr.heap.size<w7.heap.size+1:=(by omega));(have zy7:w6.heap.size<w7.heap.size:=(by omega)))|(go_at_call 48;(with_reducible refine(HN.out _ ?_).mono ?_);exact eA;rintro e w8 ⟨rfl,hx8⟩;obtain⟨hc8,hf8⟩:=hx8.cells;(have z8:=hx8.size);(try simp only [wZ,qdZ]at z8);(have zb8:b4<w8.heap.size:=(by omega));(have zw8:w.heap.size+1<w8.heap.size:=(by omega));(have zv8:w.heap.size+1<w8.heap.size+1:=(by omega));(have zd8:b4<w8.heap.size+1:=(by omega));(have zr8:wr.heap.size<w8.heap.size:=(by omega));(have zs8:wr.heap.size<w8.heap.size+1:=(by omega));(have zy8:w6.heap.size<w8.heap.size:=(by omega))))
       have X8:Ext wr w8:=eA;have K8:=X8.heapS HC.out.2.1;have x0:=qcB K8 (i:=0) (u:=Y X 0 0) rfl;have x1:=qcB K8 (i:=1) (u:=Y X 0 0) rfl;have xf:=qfB K8;refine bR (v:=L #[F #[Y X 0 0,Y X 0 0],I J 7]) (by simp [results,Tryz.results44,go_sem,x0,x1,xf]) rfl ?_;rw [←HR.out];exact .inl ⟨by rw [E2.out];decide,by rw [E2.out];rfl,eA⟩
      | false =>
       have h2:addE g (ps.take i) p=0:=by rw [hE,←hE2];rfl
       have e:=hl1.trans (zhT hq h2);have E2:=hd9 e;have hsn:ps.take (i+1)=ps.take i++[p]:=zab _ _ _ hq;have Hsn:=hd9 hsn;obtain⟨cs,hcs,hcl,hcp⟩:=hown;have Hcs:=hd9 hcs;have Hcp:=hd9 hcp;have Hcl:=hd9 hcl;have Hlc:=hd9 (show cs.length≤120 by rw [hcl];simp;omega);have Hlt:=hd9 (fun j (h:(Value.slice va vn vc).ownBlock=V j)=>hcs.lt j h);clear e hE hE2 hq hc f1 f2 f3 d1 hC hl1 hok E h2 hsn hcs hcl hcp
       go_wp2_with(first|(go_at_call 45;(with_reducible refine(HCk.out _ ?_).mono ?_);exact eA;rintro e w5 ⟨rfl,hx5⟩;obtain⟨hc5,hf5⟩:=hx5.cells;(have z5:=hx5.size);(try simp only [wZ,qdZ]at z5);(have zb5:b4<w5.heap.size:=(by omega));(have zw5:w.heap.size+1<w5.heap.size:=(by omega));(have zv5:w.heap.size+1<w5.heap.size+1:=(by omega));(have zd5:b4<w5.heap.size+1:=(by omega));(have zr5:wr.heap.size<w5.heap.size:=(by omega));(have zs5:wr.heap.size<w5.heap.size+1:=(by omega)))|(go_at_call 46;(with_reducible refine(HO.out _ ?_).mono ?_);exact eA;rintro e w6 ⟨vl,vu,rfl,hvl,hvu,hx6⟩;obtain⟨la1,ln1,lc1,rfl⟩:=form3 hvl;obtain⟨ua1,un1,uc1,rfl⟩:=form3 hvu;obtain⟨hc6,hf6⟩:=hx6.cells;(have z6:=hx6.size);(try simp only [wZ,qdZ]at z6);(have zb6:b4<w6.heap.size:=(by omega));(have zw6:w.heap.size+1<w6.heap.size:=(by omega));(have zv6:w.heap.size+1<w6.heap.size+1:=(by omega));(have zd6:b4<w6.heap.size+1:=(by omega));(have zr6:wr.heap.size<w6.heap.size:=(by omega));(have zs6:wr.heap.size<w6.heap.size+1:=(by omega));try unfold lac)|(go_at_call 47;(with_reducible refine(HH.out _ ?_ _ ?_).mono ?_);exact eA;(exact⟨_,_,_,rfl,Ext.isPts (w:=wr) Hd1.out eA,hvl.ext' eA,hvu.ext' eA⟩);rintro e w7 ⟨rfl,hx7⟩;obtain⟨hc7,hf7⟩:=hx7.cells;(have z7:=hx7.size);(try simp only [wZ,qdZ]at z7);(have zb7:b4<w7.heap.size:=(by omega));(have zw7:w.heap.size+1<w7.heap.size:=(by omega));(have zv7:w.heap.size+1<w7.heap.size+1:=(by omega));(have zd7:b4<w7.heap.size+1:=(by omega));(have zr7:wr.heap.size<w7.heap.size:=(by omega));(have zs7:wr.heap.size<w7.heap.size+1:=(by omega));(have zy7:w6.heap.size<w7.heap.size:=(by omega)))|(go_at_call 48;(with_reducible refine(HN.out _ ?_).mono ?_);exact eA;rintro e w8 ⟨rfl,hx8⟩;obtain⟨hc8,hf8⟩:=hx8.cells;(have z8:=hx8.size);(try simp only [wZ,qdZ]at z8);(have zb8:b4<w8.heap.size:=(by omega));(have zw8:w.heap.size+1<w8.heap.size:=(by omega));(have zv8:w.heap.size+1<w8.heap.size+1:=(by omega));(have zd8:b4<w8.heap.size+1:=(by omega));(have zr8:wr.heap.size<w8.heap.size:=(by omega));(have zs8:wr.heap.size<w8.heap.size+1:=(by omega));(have zy8:w6.heap.size<w8.heap.size:=(by omega)))|(at_builtin;refine appC (T:=101) (t:=106) (z:=F la0) (k:=12) (bytes:=152) (base:=b4+1) (v:=Y va vn vc) (cs:=cs) (m:=1) (c:=1) (ad:=⟨w8.heap.size,0,X⟩) zmg rfl (by decide) (by decide) Tryz.underlying106 rfl _ _ rfl rfl (Hcs.out.ext eA) rfl [(lac p (Y sa1 sn1 sc1) (Y la1 ln1 lc1) (Y ua1 un1 uc1)).toList] rfl (by simp [lac]) (by exact zca w8 (lac p (Y sa1 sn1 sc1) (Y la1 ln1 lc1) (Y ua1 un1 uc1)) 101) (by simp [lac,Value.oneCell']) (by have:=Hlc.out;omega) (by simp only [wZ];omega) ?_;intro v' w9 hown9 hgrow hlie;obtain⟨a9,n9,c9,rfl⟩:=hown9.form3;(have hxA:Ext wr (w8.alloc (N (lac p (Y sa1 sn1 sc1) (Y la1 ln1 lc1) (Y ua1 un1 uc1)) 101)):=eA);(have hK:=hxA.heapS HC.out.2.2);(have hM:w9.heap[b4]?=V (N #[Y ga gn gc,Y va vn vc] 108 (0,0)):=zaf hgrow hK (fun e=>by have:=(Hlt.out _ e.symm).1;omega));(have n1:=qcB hM (i:=1) (u:=Y va vn vc) rfl);(have nf:=qfB hM)))
       go_roundg (pn-(i+1))
       case measure=>have:=Hn.out;omega
       case rel =>
        have hO2:=Hcs.out.ext hxA;have hb0:b4+1≤(w8.alloc (N (lac p (Y sa1 sn1 sc1) (Y la1 ln1 lc1) (Y ua1 un1 uc1)) 101)).heap.size:=by simp only [wZ];omega
        have hbw:=zad (base:=b4+1) hgrow hb0 (fun k hk=>(hO2.lt k hk).1);have hkt:=hO2.keepT (T':=33) (by decide) hgrow;have hXA:Ext w (w8.alloc (N (lac p (Y sa1 sn1 sc1) (Y la1 ln1 lc1) (Y ua1 un1 uc1)) 101)):=Hx.out.trans hxA;have hz:=Hz.out;have hX9:Ext w w9:=hXA.thenB hbw (by omega);have hL9:LoC w b4 _ _ _ w9:=(HC.out.ext hxA).below hbw hz;have hx87:Ext w6 (w8.alloc (N (lac p (Y sa1 sn1 sc1) (Y la1 ln1 lc1) (Y ua1 un1 uc1)) 101)):=eA;have hLa:OwnLa w9 (b4+1) (Y a9 n9 c9) (ps.take i++[p]):=OwnLa.app hown9 Hcl.out Hcp.out (hxA.keep.trans hkt) ⟨_,_,_,rfl,((Hd1.out.ext' hxA).keep' hkt),((hvl.ext' hx87).keep' hkt),((hvu.ext' hx87).keep' hkt)⟩;refine⟨i+1,Y a9 n9 c9,by rw [Hn.out];omega,by go_num,by rw [Hn.out],hX9.set (by dsimp only;omega) _,by rw [qcZ];exact nT hb0 hbw.size,hL9.put hz _,?_,E2.out,by rw [Hsn.out];exact Hdone.out⟩;rw [Hsn.out];exact hLa.setOther (fun e=>by have:=(hLa.lt _ e).1;dsimp only at this;omega) (fun cs fr h=>by rw [hM]at h;cases h) _
   ·obtain rfl:i=pn:=by omega
    have e1:ps.take i=ps:=lT (by rw [Hn.out];exact nE _);have e2:ps.drop i=[]:=List.drop_of_length_le (by rw [Hn.out];exact nE _);rw [e1]at hok hown hl1;rw [e2,show laid1 g ps []=0 from rfl]at hl1;have hE:=E.out;rw [if_pos hl1]at hE;have E3:=hd9 hE;have Hall:=hd9 hok;have hlas:=hown.las;have hlen:=hlas.len;rw [Hn.out]at hlen;subst hlen;have hvc:=hlas.le;rw [Hn.out]at hvc;have hvc2:vn≤vc:=hvc.1;have hvc3:vc≤9223372036854775807:=by have:=hvc.2;unfold maxLen at this;omega
    clear e1 e2 hl1 hE hown Hown Hok Hl1 E hok hvc;go_wp2
    go_loopg [59] vn (LpS w b4 (Y ga gn gc) (Y pa vn pc1) (Y va vn vc) g ps)
    case atStart=>exact⟨0,by omega,rfl,by rw [Hn.out];rfl,Hx.out,by omega,HC.out,hlas,by simp⟩
    case round =>
     clear hlas hC HC Hx hx k0 k1 kf m0 m1 mf hbs zb zw hlt hi;obtain⟨i,hi,rfl,rfl,hx,hbs,hC,hlas,hl2⟩:=hrel;rw [Hn.out]at hi;have HC:=hd9 hC;have Hx:=hd9 hx;have k0:=qcB hC.2.1 (i:=0) (u:=Y X 0 0) rfl;have k1:=qcB hC.2.1 (i:=1) (u:=Y X 0 0) rfl;have kf:=qfB hC.2.1;have m0:=qcB hC.2.2 (i:=0) (u:=Y ga gn gc) rfl;have m1:=qcB hC.2.2 (i:=1) (u:=Y va vn vc) rfl;have mf:=qfB hC.2.2;have zb:b4<wr.heap.size:=by omega
     have zw:w.heap.size+1<wr.heap.size:=by have:=Hz.out;omega
     by_cases hlt:i<vn
     ·obtain⟨p,hq⟩:∃q,ps[i]?=V q:=⟨ps[i]'(by rw [Hn.out];omega),by simp [Hn.out,hlt]⟩
      obtain⟨b,o,s1,l1,u1,rfl,hb,d1,d2,d3,hc⟩:=hlas.at' hq;have htk:IsLas wr (Y (V ⟨b,o,X⟩) i vc) (ps.take i):=hlas.take (by rw [Hn.out];omega) (by rw [Hn.out];omega) (by omega) (nE _);have hpk:=Hall.out p (lM hq);have HCl:=hd9 (fun W (hW:Ext wr W)=>zdu W (Y ga gn gc) (Y (V ⟨b,o,X⟩) i vc) (F (lac p s1 l1 u1)) g (ps.take i) p (Hpt.out _ (hx.trans hW)) (htk.ext' hW) ⟨_,_,_,rfl,d1.ext' hW,d2.ext' hW,d3.ext' hW⟩ (zbl HGb.out) (fun q h=>Hall.out q (List.mem_of_mem_take h)) hpk);obtain⟨sa1,sn1,sc1,rfl⟩:=form3 d1;obtain⟨la1,ln1,lc1,rfl⟩:=form3 d2;obtain⟨ua1,un1,uc1,rfl⟩:=form3 d3;obtain⟨cb,f1⟩:=gX (clearB g (ps.take i) p);rw [f1]at HCl;unfold lac at HCl;have cc0:=hc 0 (.string p.name) rfl;have cc1:=hc 1 (Y sa1 sn1 sc1) rfl;have cc2:=hc 2 (I J p.depth) rfl;have cc3:=hc 3 (I J p.density) rfl;have cc4:=hc 4 (I J p.gx) rfl;have cc5:=hc 5 (I J p.gz) rfl;have cc6:=hc 6 (I J p.way) rfl;have cc7:=hc 7 (I J p.ax) rfl;have cc8:=hc 8 (I J p.az) rfl;have cc9:=hc 9 (I .u8 p.skin) rfl;have cc10:=hc 10 (Y la1 ln1 lc1) rfl;have cc11:=hc 11 (Y ua1 un1 uc1) rfl;simp only [Nat.add_zero]at cc0;have Hq:=hd9 hq;have Hl2:=hd9 hl2;have F1:=hd9 f1;have Hlas:=hd9 hlas;have p0:(0:Int)≤(i:Int):=by omega
      have p1:(i:Int)≤(vc:Int):=by omega
      have p2:i≤vc:=by omega
      clear hc hq hl2 f1 hlas htk hpk d1 d2 d3 hC hx;go_wp2;refine wp_region_held_drew (S:=CellL [(⟨b4,0,X⟩,Y ga gn gc),(⟨b4,1,X⟩,Y (V ⟨b,o,X⟩) vn vc),(⟨wr.heap.size,0,X⟩,.string p.name),(⟨wr.heap.size,1,X⟩,Y sa1 sn1 sc1),(⟨wr.heap.size,2,X⟩,I J p.depth),(⟨wr.heap.size,3,X⟩,I J p.density),(⟨wr.heap.size,4,X⟩,I J p.gx),(⟨wr.heap.size,5,X⟩,I J p.gz),(⟨wr.heap.size,6,X⟩,I J p.way),(⟨wr.heap.size,7,X⟩,I J p.ax),(⟨wr.heap.size,8,X⟩,I J p.az),(⟨wr.heap.size,9,X⟩,I .u8 p.skin),(⟨wr.heap.size,10,X⟩,Y la1 ln1 lc1),(⟨wr.heap.size,11,X⟩,Y ua1 un1 uc1)]) (by kernel_rfl) cA (fun h9H=>?_);refine sN 0 ?_
      iterate 8
       refine tkn ?_
      refine oN ?_;refine cl1 (i:=8) fun K hK=>?_
      go_simp
      (with_reducible refine cM (HCl.out _ eA) ?_)
      rintro e w5 ⟨rfl,hx5⟩
      skip
      go_wp2_with fail
      refine kO hK (cE h9H hx5) (fun h9H=>?_);clear hK K;refine tk1 (i:=9) ?_;refine wpAnyH_done (by kernel_rfl) ?_ _;have X5:Ext wr w5:=eA;have K5:=X5.heapS HC.out.2.1;have y0:=qcB K5 (i:=0) (u:=Y X 0 0) rfl;have y1:=qcB K5 (i:=1) (u:=Y X 0 0) rfl;have yf:=qfB K5
      cases cb with
      | false =>
       have e:laidP g ps=12:=by rw [E3.out,Hl2.out,zhV Hq.out F1.out]
       have E2:=hd9 e;clear e;have hx:=Hx.out;go_wp2;have X5:Ext wr w5:=eA;have K5:=X5.heapS HC.out.2.1;have x0:=qcB K5 (i:=0) (u:=Y X 0 0) rfl;have x1:=qcB K5 (i:=1) (u:=Y X 0 0) rfl;have xf:=qfB K5;refine bR (v:=L #[F #[Y X 0 0,Y X 0 0],I J 12]) (by simp [results,Tryz.results44,go_sem,x0,x1,xf]) rfl ?_;rw [←HR.out];exact .inl ⟨by rw [E2.out];decide,by rw [E2.out];rfl,eA⟩
      | true =>
       go_wp2
       go_roundg (vn-(i+1))
       case measure=>have:=Hn.out;omega
       case rel=>exact⟨i+1,by rw [Hn.out];omega,by go_num,by rw [Hn.out],Hx.out.trans X5,nT hbs X5.size,HC.out.ext X5,Hlas.out.ext' X5,Hl2.out.trans (zhU Hq.out F1.out)⟩
     ·obtain rfl:i=vn:=by omega
      have e2:ps.drop i=[]:=List.drop_of_length_le (by rw [Hn.out];exact nE _);rw [e2]at hl2;have e:laidP g ps=0:=by rw [E3.out,hl2];cases ps.take i<;>rfl
      have E2:=hd9 e;have hs12:w.heap.size+1≠b4:=by have:=Hz.out;omega
      clear e e2 hl2 hC;go_wp2;refine bR (v:=L #[F #[Y ga gn gc,Y va i vc],I J 0]) (by simp [results,Tryz.results44,go_sem,k0,k1,kf,m0,m1,hs12]) rfl ?_;rw [←HR.out]
      have hN:∀T,T≠108→NoT T wr (w.heap.size+1):=fun T hT cs fr h=>by
       rw [HC.out.2.1]at h
       cases h
       exact hT rfl
      have hK:∀T u u',T≠108→KeepT T wr ((wr.setCell ⟨w.heap.size+1,0,X⟩ u).setCell ⟨w.heap.size+1,1,X⟩ u'):=fun T u u' hT=>((KeepT.refl _ wr).setN (hN T hT) _).setN ((hN T hT).set _ _) _
      exact .inr ⟨E2.out,_,rfl,Sl.keep hlas (fun _ _ h=>PLa.keep h (hK _ _ _ (by decide))) (hK _ _ _ (by decide)),(Hx.out.set (by dsimp only;omega) _).set (by dsimp only;omega) _⟩
end
section
open Go.RowKit Go.Shelf
def preds (md:Region.Mode) (ops:Array Oper) (j:Nat):List Nat:=match ops[j]? with|some o=>(o.after.toList.filter (Region.binds md)).map (·.on)|none=>[]
def reach (md:Region.Mode) (ops:Array Oper):Nat→Nat→List Nat
 | 0,j=>preds md ops j
 | n+1,j=>preds md ops j++(preds md ops j).flatMap (reach md ops n)
def gated (md:Region.Mode) (ops:Array Oper) (late:Nat→Bool) (n:Nat):Bool:=
 (List.range ops.size).all fun j=>!late j || ((List.range ops.size).all fun i=>late i || (reach md ops n j).contains i)
def Cl (md:Region.Mode) (ops:Array Oper) (listed:Array Bool):Prop:=∀k o,ops[k]?=V o→listed.getD k false=true→∀e∈o.after,Region.binds md e=true→listed.getD e.on false=true
section
variable {n:Nat} {P:Program} {ops:Array Oper} {Q:Exit→M→O→Prop} {md:Region.Mode} {S:O→Prop} {late:Nat→Bool}
theorem zbU {listed:Array Bool} {j:Nat} (h:∀o,ops[j]?=V o→∀e∈o.after,Region.binds md e=true→listed.getD e.on false=true):∀k∈preds md ops j,listed.getD k false=true:=by
 intro k hk;unfold preds at hk
 cases ho:ops[j]? with
 | none=>rw [ho]at hk;cases hk
 | some o =>
  rw [ho]at hk;obtain⟨e,he,rfl⟩:=List.mem_map.1 hk;obtain⟨h1,h2⟩:=List.mem_filter.1 he;exact h o ho e (by simpa using h1) h2
theorem zbt {listed:Array Bool} (hc:Cl md ops listed):∀(n j:Nat),(∀o,ops[j]?=V o→∀e∈o.after,Region.binds md e=true→listed.getD e.on false=true)→∀k∈reach md ops n j,listed.getD k false=true
 | 0,j,h=>zbU h
 | n+1,j,h=>by
  intro k hk
  rcases List.mem_append.1 hk with hk|hk
  ·exact zbU h k hk
  ·obtain⟨i,hi,hk⟩:=List.mem_flatMap.1 hk
   have h1:=zbU h i hi;exact zbt hc n i (fun o ho=>hc i o ho h1) k hk
theorem zd0 {listed:Array Bool} {m i j:Nat} (hg:gated md ops late m=true) (hc:Cl md ops listed) (hi:i∈Region.ready md ops listed) (hl:late i=false) (hj:j∈Region.ready md ops listed):late j=false:=by
 cases hlj:late j with
 | false=>rfl
 | true =>
  exfalso
  obtain⟨hjun,oj,hoj,hall⟩:=mem_ready.1 hj;obtain⟨hiun,oi,hoi,_⟩:=mem_ready.1 hi;unfold gated at hg;rw [List.all_eq_true]at hg;have h1:=hg j (List.mem_range.2 (Array.getElem?_eq_some_iff.1 hoj).1);rw [hlj]at h1;simp only [Bool.not_true,Bool.false_or,List.all_eq_true]at h1;have h2:=h1 i (List.mem_range.2 (Array.getElem?_eq_some_iff.1 hoi).1);rw [hl]at h2;simp only [Bool.false_or,List.contains_eq_mem,decide_eq_true_eq]at h2;have h3:=zbt hc m j (fun o ho=>by rw [hoj]at ho;cases ho;exact hall) i h2
  rcases Nat.lt_or_ge i listed.size with h' | h'
  ·simp [h']at h3 hiun;rw [h3]at hiun;cases hiun
  ·simp [Array.getElem?_eq_none h']at h3
theorem Cl.step {listed:Array Bool} (hc:Cl md ops listed) {j:Nat} (hj:j∈Region.ready md ops listed):Cl md ops (listed.setIfInBounds j true):=by
 intro k o ho hk e he hb
 have key:listed.getD e.on false=true→(listed.setIfInBounds j true).getD e.on false=true:=by
  intro h
  by_cases h0:e.on=j
  ·subst h0
   rcases Nat.lt_or_ge e.on listed.size with h' | h'
   ·simp [h']
   ·simp [Array.getElem?_eq_none h']at h
  ·rw [getD_set_ne false (Ne.symm h0)];exact h
 by_cases hkj:k=j
 ·subst hkj
  obtain⟨_,oj,hoj,hall⟩:=mem_ready.1 hj;rw [ho]at hoj;cases hoj;exact key (hall e he hb)
 ·rw [getD_set_ne false (Ne.symm hkj)]at hk
  exact key (hc k o ho hk e he hb)
theorem Cl.start (m:Nat):Cl md ops (Array.replicate m false):=by
 intro k o _ hk;simp [Array.getD_eq_getD_getElem?,Array.getElem?_replicate]at hk
 split at hk<;>simp at hk
theorem zbY {i:Nat} {o:Oper} {v:Z} {a:M} (hi:ops[i]?=V o) (hy:YieldsIf P ops S o v a)
  {K:M→O→Prop} {w:O} (hS:S w) (h:K (a.put o.dst v) w):wpOpIn Fence.wide n P ops Q i K a w:=by
 unfold Go.wpOpIn;simp only [hi];have hro:Fence.wide.round=X:=rfl
 rcases hy with ⟨hw,hv⟩|⟨hw,rfl⟩
 ·simp only [hw,if_true,Oper.wpIn,hro,Oper.semAt_none,hv w hS,Oper.uponIn];exact⟨fun _ _=>trivial,h⟩
 ·simp only [hw,Bool.false_eq_true,if_false];exact⟨fun _ _=>trivial,h⟩
theorem zf9 {j:Nat} {oi oj:Oper} {v:Z} (hj:ops[j]?=V oj) (hap:oi.apart ops oj=true)
  (hsi:∀cs b,oi.op ≠ .select cs b) (hsj:∀cs b,oj.op ≠ .select cs b)
  (hQ:∀c a w,Q (.panic c) (a.put oi.dst v) w→Q (.panic c) a w) {K:M→O→Prop} {a:M} {w:O}
  (hy:YieldsIf P ops S oi v a) (h:wpOpIn Fence.wide n P ops Q j K (a.put oi.dst v) w) :
  wpOpIn Fence.wide n P ops Q j (fun a' w'=>YieldsIf P ops S oi v a'∧K (a'.put oi.dst v) w') a w:=by
 obtain⟨h1,h2,h3⟩:=Oper.apart_spec hap;have hro:Fence.wide.round=X:=rfl
 have keep:∀(a:M),YieldsIf P ops S oi v a→∀u,YieldsIf P ops S oi v (a.put oj.dst u):=fun a hy u =>
  hy.of_same (execOp_put oi hsi a oj.dst u h3) (wanted_put oi a oj.dst u h3)
 have keepD:∀d,YieldsIf P ops S oi v { a with defers:=d::a.defers }:=fun d=>hy.of_same rfl rfl
 unfold wpOpIn at *;simp only [hj]at *;rw [wanted_put oj a oi.dst v h1]at h
 split
 ·rename_i hw
  simp only [hw,if_true]at h;unfold Oper.wpIn at *;refine⟨fun _ _=>trivial,?_⟩;have h:=h.2;rw [hro,Oper.semAt_none,execOp_put oj hsj a oi.dst v h1]at h;rw [hro,Oper.semAt_none]
  generalize (execOp a.eval oj).run P w=r at *
  cases r with
  | ok x w' =>
   cases x<;>simp only [Oper.uponIn]at h ⊢
   case value u=>exact⟨keep a hy u,by rw [←Act.put_comm a v u h2];exact h⟩
   case skip=>exact⟨keep a hy _,by rw [←Act.put_comm a v undef h2];exact h⟩
   case defer d =>
    refine⟨keep _ (keepD d) _,?_⟩;rw [←Act.put_comm _ v undef h2,←Act.put_defers];exact h
   case enter f args =>
    refine⟨h.1,CallsIn.mono h.2 fun e w'' he=>?_⟩
    cases e with
    | returned u=>exact⟨keep a hy u,by rw [←Act.put_comm a v u h2];exact he⟩
    | panicked c=>exact hQ _ _ _ he
    | outgrown=>exact he
   case row row args=>exact⟨h.1,RowsIn.mono h.2 fun u w'' he=>⟨keep a hy u,by rw [←Act.put_comm a v u h2];exact he⟩⟩
   case round l f tmps assign body =>
    refine⟨h.1,RoundIn.mono h.2 fun e w'' he=>?_⟩
    cases e with
    | returned u=>exact⟨keep a hy u,by rw [←Act.put_comm a v u h2];exact he⟩
    | panicked c=>exact hQ _ _ _ he
    | outgrown=>exact he
  | halt x w' =>
   cases x<;>simp only [Oper.uponIn]at h ⊢
   case panic u=>exact hQ _ _ _ h
 ·rename_i hw
  simp only [hw]at h;exact⟨fun _ _=>trivial,keep a hy _,by rw [←Act.put_comm a v undef h2];exact h.2⟩
def HI (n:Nat) (P:Program) (md:Region.Mode) (ops:Array Oper) (Q:Exit→M→O→Prop) (S:O→Prop) (late:Nat→Bool):Nat→Array Bool→M→O→Prop
 | 0,listed,a,w=>Region.ready md ops listed=[]∧Q .normal a w
 | fuel+1,listed,a,w =>
  (Region.ready md ops listed=[]→Q .normal a w) ∧
  ∀i∈Region.ready md ops listed,wpOpIn Fence.wide n P ops Q i (fun a' w'=>(late i=false→S w')∧HI n P md ops Q S late fuel (listed.setIfInBounds i true) a' w') a w
theorem zcJ:∀(fuel:Nat) (listed:Array Bool) (a:M) (w:O),HI n P md ops Q S late fuel listed a w→wpAnyIn Fence.wide n P md ops Q fuel listed a w
 | 0,_,_,_,h=>h
 | fuel+1,_,_,_,h=>⟨h.1,fun i hi=>wpOpIn_mono (fun a' w' h'=>zcJ fuel _ a' w' h'.2) (h.2 i hi)⟩
theorem zkm {m i:Nat} {oi:Oper} {v:Z} (hg:gated md ops late m=true) (hli:late i=false) (hi:ops[i]?=V oi) (hsel:∀(j:Nat) (o:Oper) cs b,ops[j]?=V o→o.op ≠ .select cs b)
  (hQ:∀c a w,Q (.panic c) (a.put oi.dst v) w→Q (.panic c) a w) :
  ∀(fuel:Nat) (listed:Array Bool) (a:M) (w:O),Cl md ops listed →
   (∀j oj,ops[j]?=V oj→j≠i→listed.getD j true=false→(∀e∈oj.after,Region.binds md e=true→e.on≠i)→oi.apart ops oj=true) →
   i∈Region.ready md ops listed→YieldsIf P ops S oi v a→S w →
   HI n P md ops Q S late fuel (listed.setIfInBounds i true) (a.put oi.dst v) w→HI n P md ops Q S late (fuel+1) listed a w:=by
 intro fuel
 induction fuel with
 | zero =>
  intro listed a w hc _ hr hy hS H;refine⟨fun h=>(by rw [h]at hr;cases hr),fun j hj=>?_⟩
  by_cases hji:j=i
  ·subst hji;exact zbY hi hy hS ⟨fun _=>hS,H⟩
  ·have:=ready_mono hj hji
   rw [H.1]at this
   cases this
 | succ fuel ih =>
  intro listed a w hc hfree hr hy hS H;refine⟨fun h=>(by rw [h]at hr;cases hr),fun j hj=>?_⟩
  by_cases hji:j=i
  ·subst hji;exact zbY hi hy hS ⟨fun _=>hS,H⟩
  ·have h1:=H.2 j (ready_mono hj hji)
   have hlj:=zd0 hg hc hr hli hj;obtain⟨hjun,oj,hoj,hall⟩:=mem_ready.1 hj
   have hnot:∀e∈oj.after,Region.binds md e=true→e.on≠i:=fun e he hb heq=>by
    have h1:=hall e he hb;have h0:=(mem_ready.1 hr).1;rw [heq]at h1
    rcases Nat.lt_or_ge i listed.size with h' | h'
    ·simp [h']at h0 h1;rw [h0]at h1;cases h1
    ·simp [Array.getElem?_eq_none h']at h1
   have h2:=zf9 hoj (hfree j oj hoj hji hjun hnot) (fun cs b=>hsel i oi cs b hi) (fun cs b=>hsel j oj cs b hoj) hQ hy h1
   have hfree':∀k ok,ops[k]?=V ok→k≠i→(listed.setIfInBounds j true).getD k true=false →
     (∀e∈ok.after,Region.binds md e=true→e.on≠i)→oi.apart ops ok=true:=fun k ok hk hki hun hno=>by
    refine hfree k ok hk hki ?_ hno
    by_cases hjk:j=k
    ·subst hjk;exact hjun
    ·rw [getD_set_ne true hjk]at hun;exact hun
   refine wpOpIn_mono (fun a' w' h3=>⟨h3.2.1,ih (listed.setIfInBounds j true) a' w' (hc.step hj) hfree' (ready_mono hr (Ne.symm hji)) h3.1 (h3.2.1 hlj) ?_⟩) h2;rw [Array.setIfInBounds_comm _ _ hji];exact h3.2.2
def HIc (n:Nat) (P:Program) (md:Region.Mode) (ops:Array Oper) (Q:Exit→M→O→Prop) (S:O→Prop) (late:Nat→Bool) (fuel:Nat) (listed:Array Bool) (a:M) (w:O):Prop:=Cl md ops listed→HI n P md ops Q S late fuel listed a w
def TakeHI (n:Nat) (P:Program) (md:Region.Mode) (ops:Array Oper) (Q:Exit→M→O→Prop) (S:O→Prop) (late:Nat→Bool) (fuel:Nat) (listed:Array Bool) (a:M) (w:O) (i:Nat) (oi:Oper):Prop:=
 ∃v,late i=false∧Region.noSelect ops=true∧Region.free md ops listed i=true∧(Region.ready md ops listed).contains i=true∧(∀c a w,Q (.panic c) (a.put oi.dst v) w→Q (.panic c) a w)∧YieldsIf P ops S oi v a∧S w ∧
  HIc n P md ops Q S late fuel (listed.setIfInBounds i true) (a.put oi.dst v) w
theorem takeHI {m:Nat} (hg:gated md ops late m=true) {i:Nat} {oi:Oper} {fuel:Nat} {listed:Array Bool} {a:M} {w:O} (hi:ops[i]?=V oi) (h:TakeHI n P md ops Q S late fuel listed a w i oi):HIc n P md ops Q S late (fuel+1) listed a w:=by
 obtain⟨v,h0,h1,h2,h3,h4,h5,h6,h7⟩:=h;intro hc;have hr:i∈Region.ready md ops listed:=by simpa using h3
 exact zkm hg h0 hi (Region.noSelect_spec h1) h4 fuel listed a w hc (Region.free_spec hi h2) hr h5 h6 (h7 (hc.step hr))
def CallHI (n:Nat) (P:Program) (md:Region.Mode) (ops:Array Oper) (Q:Exit→M→O→Prop) (S:O→Prop) (late:Nat→Bool) (fuel:Nat) (listed:Array Bool) (a:M) (w:O) (i:Nat) (o:Oper):Prop:=
 Region.ready md ops listed=[i]∧∀K':M→O→Prop,Shut (∀a w,(late i=false→S w)→((late i=false→S w)→HIc n P md ops Q S late fuel (listed.setIfInBounds i true) a w)→K' a w) →
  if Region.wanted o (yielded ops a.tmps)=true then Oper.wpIn Fence.wide n P o a w K' Q else K' (a.put o.dst undef) w
theorem callHI {i:Nat} {o:Oper} {fuel:Nat} {listed:Array Bool} {a:M} {w:O} (hi:ops[i]?=V o) (h:CallHI n P md ops Q S late fuel listed a w i o):HIc n P md ops Q S late (fuel+1) listed a w:=by
 obtain⟨hr,h⟩:=h;intro hc;refine⟨fun h0=>absurd (hr▸h0) (by simp),fun j hj=>?_⟩;have hj':=hj;rw [hr]at hj
 cases List.mem_singleton.1 hj
 refine wpOpIn_step hi (fun K' hK=>?_);have h9:=h K' (fun a w hS hW=>hK a w ⟨hS,hW hS (hc.step hj')⟩)
 split
 ·rename_i hw;rw [if_pos hw]at h9;exact h9
 ·rename_i hw;rw [if_neg hw]at h9;exact⟨fun _ _=>trivial,h9⟩
theorem ti1 {v:Z} {i:Nat} {oi:Oper} {fuel:Nat} {listed:Array Bool} {a:M} {w:O} {G:Prop} (h:G) (hg:gated md ops late 12=true:=by kernel_rfl) (hi:ops[i]?=V oi:=by(simp only [gA,gS,gZ];rfl)) (h0:late i=false:=by rfl) (h1:Region.noSelect ops=true:=by kernel_rfl) (h2:Region.free md ops listed i=true:=by kernel_rfl) (h3:(Region.ready md ops listed).contains i=true:=by kernel_rfl) (h4:∀c a w,Q (.panic c) (a.put oi.dst v) w→Q (.panic c) a w:=by exact fun _ _ _ h=>h) (hw:Region.wanted oi (yielded ops a.tmps)=true:=by rfl) (hy:∀w,S w→(execOp a.eval oi).run P w = .ok (.value v) w:=by(intro w hSw;simp only [CellL,and_true]at hSw;go_simp;try(with_reducible rfl))) (h6:S w:=by(with_reducible assumption)) (hG:HIc n P md ops Q S late fuel (listed.setIfInBounds i true) (a.put oi.dst v) w=G:=by((try simp only [Act.put,sA,sZ,sS]);rfl)):HIc n P md ops Q S late (fuel+1) listed a w:=by
 subst hG;exact takeHI hg hi ⟨v,h0,h1,h2,h3,h4,Or.inl ⟨hw,hy⟩,h6,h⟩
theorem tig1 {i:Nat} {oi:Oper} {fuel:Nat} {listed:Array Bool} {a:M} {w:O} {G:Prop} (h:G) (hg:gated md ops late 12=true:=by kernel_rfl) (hi:ops[i]?=V oi:=by(simp only [gA,gS,gZ];rfl)) (h0:late i=false:=by rfl) (h1:Region.noSelect ops=true:=by kernel_rfl) (h2:Region.free md ops listed i=true:=by kernel_rfl) (h3:(Region.ready md ops listed).contains i=true:=by kernel_rfl) (h4:∀c a w,Q (.panic c) (a.put oi.dst undef) w→Q (.panic c) a w:=by exact fun _ _ _ h=>h) (hw:Region.wanted oi (yielded ops a.tmps)=false:=by rfl)  (h6:S w:=by(with_reducible assumption)) (hG:HIc n P md ops Q S late fuel (listed.setIfInBounds i true) (a.put oi.dst undef) w=G:=by((try simp only [Act.put,sA,sZ,sS]);rfl)):HIc n P md ops Q S late (fuel+1) listed a w:=by
 subst hG;exact takeHI hg hi ⟨undef,h0,h1,h2,h3,h4,Or.inr ⟨hw,rfl⟩,h6,h⟩
theorem tin {v:Z} {i:Nat} {oi:Oper} {fuel:Nat} {listed:Array Bool} {a:M} {w:O} {G:Prop} (h:G) (hg:gated md ops late 12=true:=by kernel_rfl) (hi:ops[i]?=V oi:=by(simp only [gA,gS,gZ];rfl)) (h0:late i=false:=by rfl) (h1:Region.noSelect ops=true:=by kernel_rfl) (h2:Region.free md ops listed i=true:=by kernel_rfl) (h3:(Region.ready md ops listed).contains i=true:=by kernel_rfl) (h4:∀c a w,Q (.panic c) (a.put oi.dst v) w→Q (.panic c) a w:=by exact fun _ _ _ h=>h) (hw:Region.wanted oi (yielded ops a.tmps)=true:=by rfl) (hy:∀w,S w→(execOp a.eval oi).run P w = .ok (.value v) w:=by(intro w hSw;simp only [CellL,and_true]at hSw;go_simp;try(with_reducible rfl))) (h6:S w:=by(with_reducible assumption)) (hG:wpN (i+1) (HIc n P md ops Q S late fuel (listed.setIfInBounds i true) (a.put oi.dst v) w)=G:=by((try simp only [Act.put,sA,sZ,sS,Nat.reduceAdd]);rfl)):wpN i (HIc n P md ops Q S late (fuel+1) listed a w):=by
 subst hG;exact takeHI hg hi ⟨v,h0,h1,h2,h3,h4,Or.inl ⟨hw,hy⟩,h6,h⟩
theorem tign {i:Nat} {oi:Oper} {fuel:Nat} {listed:Array Bool} {a:M} {w:O} {G:Prop} (h:G) (hg:gated md ops late 12=true:=by kernel_rfl) (hi:ops[i]?=V oi:=by(simp only [gA,gS,gZ];rfl)) (h0:late i=false:=by rfl) (h1:Region.noSelect ops=true:=by kernel_rfl) (h2:Region.free md ops listed i=true:=by kernel_rfl) (h3:(Region.ready md ops listed).contains i=true:=by kernel_rfl) (h4:∀c a w,Q (.panic c) (a.put oi.dst undef) w→Q (.panic c) a w:=by exact fun _ _ _ h=>h) (hw:Region.wanted oi (yielded ops a.tmps)=false:=by rfl)  (h6:S w:=by(with_reducible assumption)) (hG:wpN (i+1) (HIc n P md ops Q S late fuel (listed.setIfInBounds i true) (a.put oi.dst undef) w)=G:=by((try simp only [Act.put,sA,sZ,sS,Nat.reduceAdd]);rfl)):wpN i (HIc n P md ops Q S late (fuel+1) listed a w):=by
 subst hG;exact takeHI hg hi ⟨undef,h0,h1,h2,h3,h4,Or.inr ⟨hw,rfl⟩,h6,h⟩
theorem ci1 {i:Nat} {o:Oper} {fuel:Nat} {listed:Array Bool} {a:M} {w:O} (h:∀K':M→O→Prop,Shut (∀a w,(late i=false→S w)→((late i=false→S w)→HIc n P md ops Q S late fuel (listed.setIfInBounds i true) a w)→K' a w) →
  if Region.wanted o (yielded ops a.tmps)=true then Oper.wpIn Fence.wide n P o a w K' Q else K' (a.put o.dst undef) w) (hi:ops[i]?=V o:=by(simp only [gA,gS,gZ];rfl)) (hr:Region.ready md ops listed=[i]:=by kernel_rfl):HIc n P md ops Q S late (fuel+1) listed a w:=callHI hi ⟨hr,h⟩
theorem doneHI {listed:Array Bool} {a:M} {w:O} (hr:Region.ready md ops listed=[]) (h:Q .normal a w):∀fuel,HIc n P md ops Q S late fuel listed a w
 | 0=>fun _=>⟨hr,h⟩
 | _+1=>fun _=>⟨fun _=>h,by rw [hr];simp⟩
theorem zeq {id:Nat} {a:M} {w:O} (late:Nat→Bool) (S:O→Prop) (hm:P.follows .mixedOrders=true) (hS:S w.drew)
  (h:S w.drew→HIc n P .any ops Q S late ops.size (Array.replicate ops.size false) a w.drew):(Code.region id ops true).wpIn Fence.wide n P Q a w:=
 wpIn_region_any hm (zcJ _ _ _ _ (h hS (Cl.start _)))
end
end
section
open Go.RowKit Go.Shelf
theorem zh6 {n:Nat} {P:Program} {row:String} {args:Array Z} {w:O} {R:Z→O→Prop} (h:Rows P row args w R):RowsIn Fence.wide n P row args w R:=by
 intro c cs _;obtain⟨v,w',r,s⟩:=h c cs;exact⟨v,w',r,stepsIn_wide.2 s⟩
theorem zjz {n:Nat} {P:Program} {o:Oper} {a:M} {w:O} {K:M→O→Prop} {Q:Exit→M→O→Prop} (hd:∀c,o.op ≠ .defer c) (h:o.wp P a w K (NQ Q)):o.wpIn Fence.wide n P a w K Q:=by
 refine⟨fun _ _=>trivial,?_⟩;rw [Oper.semAt_plain _ _ _ hd];unfold Oper.wp at h
 generalize (execOp a.eval o).run P w=r at *
 have hdep:Fence.wide.depth.isSome=true→1≤n:=fun h=>by cases h
 cases r with
 | ok x w' =>
  cases x with
  | value u=>exact h
  | skip=>exact h
  | defer d=>exact h
  | enter f args =>
   refine⟨hdep,callsIn_wide.2 (cM h fun e w'' he=>?_)⟩
   cases e with
   | returned u=>exact he
   | panicked c=>exact he.elim
   | outgrown=>exact(zgG he).elim
  | row row args=>exact⟨hdep,zh6 h⟩
  | _=>exact h.elim
 | halt x w' =>
  cases x<;>first|exact h.elim|skip
theorem zdi {n:Nat} {P:Program} {md:Region.Mode} {ops:Array Oper} {Q:Exit→M→O→Prop} (hd:noDefer ops=true):∀(fuel:Nat) (listed:Array Bool) (a:M) (w:O),
  wpAny P md ops (NQ Q) fuel listed a w→wpAnyIn Fence.wide n P md ops Q fuel listed a w
 | 0,_,_,_,h=>h
 | fuel+1,listed,a,w,h=>by
  refine⟨h.1,fun i hi=>?_⟩;have h1:=h.2 i hi;unfold wpOp at h1;unfold wpOpIn
  cases ho:ops[i]? with
  | none=>rw [ho]at h1;exact zdi hd fuel _ a w h1
  | some o =>
   rw [ho]at h1;dsimp only at h1 ⊢
   split
   ·rename_i hw
    rw [if_pos hw]at h1
    rcases h1 with h1|⟨_,h1⟩
    ·exact Oper.wpIn_mono (fun a' w' h2=>zdi hd fuel _ a' w' h2) (zjz (zeE hd ho) h1)
    ·exact(zgG h1).elim
   ·rename_i hw
    rw [if_neg hw]at h1;exact⟨fun _ _=>trivial,zdi hd fuel _ _ w h1⟩
theorem zit {n:Nat} {P:Program} {ops:Array Oper} {Q:Exit→M→O→Prop} {S:O→Prop} {id:Nat} {a:M} {w:O} (hm:P.follows .mixedOrders=true) (hd:noDefer ops=true) (hS:S w.drew)
  (h:S w.drew→wpAnyH P .any ops (NQ Q) S ops.size (Array.replicate ops.size false) a w.drew):(Code.region id ops true).wpIn Fence.wide n P Q a w:=
 wpIn_region_any hm (zdi hd _ _ _ _ (wpAny_of_held _ _ _ _ (h hS)))
theorem zkk {n:Nat} {P:Program} {ops:Array Oper} {Q:Exit→M→O→Prop} {id:Nat} {a:M} {w:O} (late:Nat→Bool) (S:O→Prop) (hm:P.follows .mixedOrders=true) (hS:S w.drew)
  (h:S w.drew→HIc n P .any ops (NQ Q) S late ops.size (Array.replicate ops.size false) a w.drew):(Code.region id ops true).wpIn Fence.wide n P Q a w:=
 wpIn_mono (zeq late S hm hS h) (fun e a w hq=>by cases e<;>first|exact hq|exact hq.elim)
def marks (Ds:List Nat):List Deferred:=Ds.map fun D=>{ target:=.collected D,args:=#[] }
def Marked (W:O) (Ds:List Nat):Prop:=Ds.Nodup∧∀D∈Ds,W.heap[D]?=V (.deferred (V []))
theorem Marked.ext {W W':O} {Ds:List Nat} (h:Marked W Ds) (k:Ext W W'):Marked W' Ds:=⟨h.1,fun D hD=>k.heapS (h.2 D hD)⟩
theorem Marked.nil (W:O):Marked W []:=⟨List.nodup_nil,fun D hD=>by cases hD⟩
theorem Marked.cons {W:O} {Ds:List Nat} {D:Nat} (h:Marked W Ds) (hD:W.heap[D]?=V (.deferred (V []))) (hn:D ∉ Ds):Marked W (D::Ds):=
 ⟨List.nodup_cons.2 ⟨hn,h.1⟩,fun E hE=>by rcases List.mem_cons.1 hE with rfl|hE;exact hD;exact h.2 E hE⟩
theorem Marked.set {W:O} {Ds:List Nat} (h:Marked W Ds) {p:Addr} {cs:Array Z} {T:TypeId} {fr:Nat×Nat} (hp:W.heap[p.block]?=V (N cs T fr)) (u:Z):Marked (W.setCell p u) Ds:=
 ⟨h.1,fun D hD=>by rw [bS _ _ _ _ (by intro e;have:=h.2 D hD;rw [e,hp]at this;cases this)];exact h.2 D hD⟩
theorem Marked.grown {W W':O} {Ds:List Nat} {row:Option Nat} (h:Marked W Ds) (hg:W.grownBy W' row) (hr:∀r,row=V r→∃cs T fr,W.heap[r]?=V (N cs T fr)):Marked W' Ds:=
 ⟨h.1,fun D hD=>by
  have hk:=h.2 D hD;rw [hg.block D (zaa hk) (fun e=>by obtain⟨cs,T,fr,hr⟩:=hr D e.symm;rw [hr]at hk;cases hk)];exact hk⟩
theorem zbT {n:Nat} {P:Program} {fn:Func} {tmps:Array Z} {R:Ending→O→Prop}:∀(Ds:List Nat) (W:O),Marked W Ds →
  (∀W':O,(∀B,(∀D∈Ds,B≤D)→Sim B W W')→LeavesInM Fence.wide n P fn tmps R [] .returning W')→LeavesInM Fence.wide n P fn tmps R (marks Ds) .returning W
 | [],W,_,h=>h W (fun B _=>⟨Below.refl _ _,fun _ _ h _=>h⟩)
 | D::Ds,W,hm,h=>by
  have hD:=hm.2 D (by simp);have hs:=zgA hD (.deferred X);refine⟨by simp,.inl ⟨D,_,rfl,run_takeDeferred hD,?_⟩⟩;refine zbT Ds _ ⟨(List.nodup_cons.1 hm.1).2,fun E hE=>?_⟩ (fun W' hW'=>h W' (fun B hB=>?_))
  ·have hne:E≠D:=fun e=>(List.nodup_cons.1 hm.1).1 (e▸hE)
   rw [World.putObj_heap_other hne];exact hm.2 E (mC _ hE)
  ·have h2:=hW' B (fun E hE=>hB E (mC _ hE))
   exact⟨(Below.mono hs.1 (hB D (by simp))).trans h2.1,fun k o hk ho=>h2.2 k o (hs.2 k o hk ho) ho⟩
section
variable {P:Program} {ops:Array Oper} {Q:Exit→M→O→Prop} {md:Region.Mode} {S:O→Prop} {late:Nat→Bool}
def HU (P:Program) (md:Region.Mode) (ops:Array Oper) (Q:Exit→M→O→Prop) (S:O→Prop) (late:Nat→Bool):Nat→Array Bool→M→O→Prop
 | 0,listed,a,w=>Region.ready md ops listed=[]∧Q .normal a w
 | fuel+1,listed,a,w =>
  (Region.ready md ops listed=[]→Q .normal a w) ∧
  ∀i∈Region.ready md ops listed,wpOp P ops Q i (fun a' w'=>(late i=false→S w')∧HU P md ops Q S late fuel (listed.setIfInBounds i true) a' w') a w
theorem zem:∀(fuel:Nat) (listed:Array Bool) (a:M) (w:O),HU P md ops Q S late fuel listed a w→wpAny P md ops Q fuel listed a w
 | 0,_,_,_,h=>h
 | fuel+1,_,_,_,h=>⟨h.1,fun i hi=>wpOp_mono (fun a' w' h'=>zem fuel _ a' w' h'.2) (h.2 i hi)⟩
theorem zkn {m i:Nat} {oi:Oper} {v:Z} (hg:gated md ops late m=true) (hli:late i=false) (hi:ops[i]?=V oi) (hsel:∀(j:Nat) (o:Oper) cs b,ops[j]?=V o→o.op ≠ .select cs b)
  (hQ:∀c a w,Q (.panic c) (a.put oi.dst v) w→Q (.panic c) a w) :
  ∀(fuel:Nat) (listed:Array Bool) (a:M) (w:O),Cl md ops listed →
   (∀j oj,ops[j]?=V oj→j≠i→listed.getD j true=false→(∀e∈oj.after,Region.binds md e=true→e.on≠i)→oi.apart ops oj=true) →
   i∈Region.ready md ops listed→YieldsIf P ops S oi v a→S w →
   HU P md ops Q S late fuel (listed.setIfInBounds i true) (a.put oi.dst v) w→HU P md ops Q S late (fuel+1) listed a w:=by
 intro fuel
 induction fuel with
 | zero =>
  intro listed a w hc _ hr hy hS H;refine⟨fun h=>(by rw [h]at hr;cases hr),fun j hj=>?_⟩
  by_cases hji:j=i
  ·subst hji;exact hy.wpOp hi hS ⟨fun _=>hS,H⟩
  ·have:=ready_mono hj hji
   rw [H.1]at this
   cases this
 | succ fuel ih =>
  intro listed a w hc hfree hr hy hS H;refine⟨fun h=>(by rw [h]at hr;cases hr),fun j hj=>?_⟩
  by_cases hji:j=i
  ·subst hji;exact hy.wpOp hi hS ⟨fun _=>hS,H⟩
  ·have h1:=H.2 j (ready_mono hj hji)
   have hlj:=zd0 hg hc hr hli hj;obtain⟨hjun,oj,hoj,hall⟩:=mem_ready.1 hj
   have hnot:∀e∈oj.after,Region.binds md e=true→e.on≠i:=fun e he hb heq=>by
    have h1:=hall e he hb;have h0:=(mem_ready.1 hr).1;rw [heq]at h1
    rcases Nat.lt_or_ge i listed.size with h' | h'
    ·simp [h']at h0 h1;rw [h0]at h1;cases h1
    ·simp [Array.getElem?_eq_none h']at h1
   have h2:=wpOp_putIf hoj (hfree j oj hoj hji hjun hnot) (fun cs b=>hsel i oi cs b hi) (fun cs b=>hsel j oj cs b hoj) hQ hy h1
   have hfree':∀k ok,ops[k]?=V ok→k≠i→(listed.setIfInBounds j true).getD k true=false →
     (∀e∈ok.after,Region.binds md e=true→e.on≠i)→oi.apart ops ok=true:=fun k ok hk hki hun hno=>by
    refine hfree k ok hk hki ?_ hno
    by_cases hjk:j=k
    ·subst hjk;exact hjun
    ·rw [getD_set_ne true hjk]at hun;exact hun
   refine wpOp_mono (fun a' w' h3=>⟨h3.2.1,ih (listed.setIfInBounds j true) a' w' (hc.step hj) hfree' (ready_mono hr (Ne.symm hji)) h3.1 (h3.2.1 hlj) ?_⟩) h2;rw [Array.setIfInBounds_comm _ _ hji];exact h3.2.2
def HUc (P:Program) (md:Region.Mode) (ops:Array Oper) (Q:Exit→M→O→Prop) (S:O→Prop) (late:Nat→Bool) (fuel:Nat) (listed:Array Bool) (a:M) (w:O):Prop:=Cl md ops listed→HU P md ops Q S late fuel listed a w
def TakeHU (P:Program) (md:Region.Mode) (ops:Array Oper) (Q:Exit→M→O→Prop) (S:O→Prop) (late:Nat→Bool) (fuel:Nat) (listed:Array Bool) (a:M) (w:O) (i:Nat) (oi:Oper):Prop:=
 ∃v,late i=false∧Region.noSelect ops=true∧Region.free md ops listed i=true∧(Region.ready md ops listed).contains i=true∧(∀c a w,Q (.panic c) (a.put oi.dst v) w→Q (.panic c) a w)∧YieldsIf P ops S oi v a∧S w ∧
  HUc P md ops Q S late fuel (listed.setIfInBounds i true) (a.put oi.dst v) w
theorem takeHU {m:Nat} (hg:gated md ops late m=true) {i:Nat} {oi:Oper} {fuel:Nat} {listed:Array Bool} {a:M} {w:O} (hi:ops[i]?=V oi) (h:TakeHU P md ops Q S late fuel listed a w i oi):HUc P md ops Q S late (fuel+1) listed a w:=by
 obtain⟨v,h0,h1,h2,h3,h4,h5,h6,h7⟩:=h;intro hc;have hr:i∈Region.ready md ops listed:=by simpa using h3
 exact zkn hg h0 hi (Region.noSelect_spec h1) h4 fuel listed a w hc (Region.free_spec hi h2) hr h5 h6 (h7 (hc.step hr))
def CallHU (P:Program) (md:Region.Mode) (ops:Array Oper) (Q:Exit→M→O→Prop) (S:O→Prop) (late:Nat→Bool) (fuel:Nat) (listed:Array Bool) (a:M) (w:O) (i:Nat) (o:Oper):Prop:=
 Region.ready md ops listed=[i]∧∀K':M→O→Prop,Shut (∀a w,(late i=false→S w)→((late i=false→S w)→HUc P md ops Q S late fuel (listed.setIfInBounds i true) a w)→K' a w) →
  if Region.wanted o (yielded ops a.tmps)=true then Oper.wp P o a w K' Q else K' (a.put o.dst undef) w
theorem callHU {i:Nat} {o:Oper} {fuel:Nat} {listed:Array Bool} {a:M} {w:O} (hi:ops[i]?=V o) (h:CallHU P md ops Q S late fuel listed a w i o):HUc P md ops Q S late (fuel+1) listed a w:=by
 obtain⟨hr,h⟩:=h;intro hc;refine⟨fun h0=>absurd (hr▸h0) (by simp),fun j hj=>?_⟩;have hj':=hj;rw [hr]at hj
 cases List.mem_singleton.1 hj
 exact wpOp_step hi (fun K' hK=>h K' (fun a w hS hW=>hK a w ⟨hS,hW hS (hc.step hj')⟩))
theorem doneHU {listed:Array Bool} {a:M} {w:O} (hr:Region.ready md ops listed=[]) (h:Q .normal a w):∀fuel,HUc P md ops Q S late fuel listed a w
 | 0=>fun _=>⟨hr,h⟩
 | _+1=>fun _=>⟨fun _=>h,by rw [hr];simp⟩
theorem tu1 {v:Z} {i:Nat} {oi:Oper} {fuel:Nat} {listed:Array Bool} {a:M} {w:O} {G:Prop} (h:G) (hg:gated md ops late 12=true:=by kernel_rfl) (hi:ops[i]?=V oi:=by(simp only [gA,gS,gZ];rfl)) (h0:late i=false:=by rfl) (h1:Region.noSelect ops=true:=by kernel_rfl) (h2:Region.free md ops listed i=true:=by kernel_rfl) (h3:(Region.ready md ops listed).contains i=true:=by kernel_rfl) (h4:∀c a w,Q (.panic c) (a.put oi.dst v) w→Q (.panic c) a w:=by exact fun _ _ _ h=>h) (hw:Region.wanted oi (yielded ops a.tmps)=true:=by rfl) (hy:∀w,S w→(execOp a.eval oi).run P w = .ok (.value v) w:=by(intro w hSw;simp only [CellL,and_true]at hSw;go_simp;try(with_reducible rfl))) (h6:S w:=by(with_reducible assumption)) (hG:HUc P md ops Q S late fuel (listed.setIfInBounds i true) (a.put oi.dst v) w=G:=by((try simp only [Act.put,sA,sZ,sS]);rfl)):HUc P md ops Q S late (fuel+1) listed a w:=by
 subst hG;exact takeHU hg hi ⟨v,h0,h1,h2,h3,h4,Or.inl ⟨hw,hy⟩,h6,h⟩
theorem tug1 {i:Nat} {oi:Oper} {fuel:Nat} {listed:Array Bool} {a:M} {w:O} {G:Prop} (h:G) (hg:gated md ops late 12=true:=by kernel_rfl) (hi:ops[i]?=V oi:=by(simp only [gA,gS,gZ];rfl)) (h0:late i=false:=by rfl) (h1:Region.noSelect ops=true:=by kernel_rfl) (h2:Region.free md ops listed i=true:=by kernel_rfl) (h3:(Region.ready md ops listed).contains i=true:=by kernel_rfl) (h4:∀c a w,Q (.panic c) (a.put oi.dst undef) w→Q (.panic c) a w:=by exact fun _ _ _ h=>h) (hw:Region.wanted oi (yielded ops a.tmps)=false:=by rfl)  (h6:S w:=by(with_reducible assumption)) (hG:HUc P md ops Q S late fuel (listed.setIfInBounds i true) (a.put oi.dst undef) w=G:=by((try simp only [Act.put,sA,sZ,sS]);rfl)):HUc P md ops Q S late (fuel+1) listed a w:=by
 subst hG;exact takeHU hg hi ⟨undef,h0,h1,h2,h3,h4,Or.inr ⟨hw,rfl⟩,h6,h⟩
theorem tun {v:Z} {i:Nat} {oi:Oper} {fuel:Nat} {listed:Array Bool} {a:M} {w:O} {G:Prop} (h:G) (hg:gated md ops late 12=true:=by kernel_rfl) (hi:ops[i]?=V oi:=by(simp only [gA,gS,gZ];rfl)) (h0:late i=false:=by rfl) (h1:Region.noSelect ops=true:=by kernel_rfl) (h2:Region.free md ops listed i=true:=by kernel_rfl) (h3:(Region.ready md ops listed).contains i=true:=by kernel_rfl) (h4:∀c a w,Q (.panic c) (a.put oi.dst v) w→Q (.panic c) a w:=by exact fun _ _ _ h=>h) (hw:Region.wanted oi (yielded ops a.tmps)=true:=by rfl) (hy:∀w,S w→(execOp a.eval oi).run P w = .ok (.value v) w:=by(intro w hSw;simp only [CellL,and_true]at hSw;go_simp;try(with_reducible rfl))) (h6:S w:=by(with_reducible assumption)) (hG:wpN (i+1) (HUc P md ops Q S late fuel (listed.setIfInBounds i true) (a.put oi.dst v) w)=G:=by((try simp only [Act.put,sA,sZ,sS,Nat.reduceAdd]);rfl)):wpN i (HUc P md ops Q S late (fuel+1) listed a w):=by
 subst hG;exact takeHU hg hi ⟨v,h0,h1,h2,h3,h4,Or.inl ⟨hw,hy⟩,h6,h⟩
theorem tugn {i:Nat} {oi:Oper} {fuel:Nat} {listed:Array Bool} {a:M} {w:O} {G:Prop} (h:G) (hg:gated md ops late 12=true:=by kernel_rfl) (hi:ops[i]?=V oi:=by(simp only [gA,gS,gZ];rfl)) (h0:late i=false:=by rfl) (h1:Region.noSelect ops=true:=by kernel_rfl) (h2:Region.free md ops listed i=true:=by kernel_rfl) (h3:(Region.ready md ops listed).contains i=true:=by kernel_rfl) (h4:∀c a w,Q (.panic c) (a.put oi.dst undef) w→Q (.panic c) a w:=by exact fun _ _ _ h=>h) (hw:Region.wanted oi (yielded ops a.tmps)=false:=by rfl)  (h6:S w:=by(with_reducible assumption)) (hG:wpN (i+1) (HUc P md ops Q S late fuel (listed.setIfInBounds i true) (a.put oi.dst undef) w)=G:=by((try simp only [Act.put,sA,sZ,sS,Nat.reduceAdd]);rfl)):wpN i (HUc P md ops Q S late (fuel+1) listed a w):=by
 subst hG;exact takeHU hg hi ⟨undef,h0,h1,h2,h3,h4,Or.inr ⟨hw,rfl⟩,h6,h⟩
theorem cu1 {i:Nat} {o:Oper} {fuel:Nat} {listed:Array Bool} {a:M} {w:O} (h:∀K':M→O→Prop,Shut (∀a w,(late i=false→S w)→((late i=false→S w)→HUc P md ops Q S late fuel (listed.setIfInBounds i true) a w)→K' a w)→if Region.wanted o (yielded ops a.tmps)=true then Oper.wp P o a w K' Q else K' (a.put o.dst undef) w) (hi:ops[i]?=V o:=by(simp only [gA,gS,gZ];rfl)) (hr:Region.ready md ops listed=[i]:=by kernel_rfl):HUc P md ops Q S late (fuel+1) listed a w:=callHU hi ⟨hr,h⟩
theorem callHU2 {i j:Nat} {oi oj:Oper} {fuel:Nat} {listed:Array Bool} {a:M} {w:O}
  (h1:∀K':M→O→Prop,Shut (∀a w,(late i=false→S w)→((late i=false→S w)→HUc P md ops Q S late fuel (listed.setIfInBounds i true) a w)→K' a w)→if Region.wanted oi (yielded ops a.tmps)=true then Oper.wp P oi a w K' Q else K' (a.put oi.dst undef) w)
  (h2:∀K':M→O→Prop,Shut (∀a w,(late j=false→S w)→((late j=false→S w)→HUc P md ops Q S late fuel (listed.setIfInBounds j true) a w)→K' a w)→if Region.wanted oj (yielded ops a.tmps)=true then Oper.wp P oj a w K' Q else K' (a.put oj.dst undef) w)
  (hi:ops[i]?=V oi:=by(simp only [gA,gS,gZ];rfl)) (hj:ops[j]?=V oj:=by(simp only [gA,gS,gZ];rfl)) (hr:Region.ready md ops listed=[i,j]:=by kernel_rfl) :
  HUc P md ops Q S late (fuel+1) listed a w:=by
 intro hc;refine⟨fun h0=>absurd (hr▸h0) (by simp),fun k hk=>?_⟩;have hk':=hk;rw [hr]at hk
 rcases List.mem_cons.1 hk with rfl|hk2
 ·exact wpOp_step hi (fun K' hK=>h1 K' (fun a w hS hW=>hK a w ⟨hS,hW hS (hc.step hk')⟩))
 ·cases List.mem_singleton.1 hk2
  exact wpOp_step hj (fun K' hK=>h2 K' (fun a w hS hW=>hK a w ⟨hS,hW hS (hc.step hk')⟩))
theorem zaQ {id:Nat} {a:M} {w:O} (late:Nat→Bool) (S:O→Prop) (hm:P.follows .mixedOrders=true) (hS:S w.drew)
  (h:S w.drew→HUc P .any ops Q S late ops.size (Array.replicate ops.size false) a w.drew):(Code.region id ops true).wp P Q a w:=
 wp_region_any hm (zem _ _ _ _ (h hS (Cl.start _)))
end
def loopsOf:Code→List Code
 | .seq a b=>loopsOf a++loopsOf b
 | .cond _ a b=>loopsOf a++loopsOf b
 | .block _ b=>loopsOf b
 | .loop b=>b::loopsOf b
 | .rangeFunc _ _ a b=>loopsOf a++loopsOf b
 | .scope b=>loopsOf b
 | _=>[]
def loopAt (f:Func) (k:Nat):Code:=match f.body with|some c=>(loopsOf c).getD k .skip|none=>.skip
end
end Go.Proofs.YtodpfeaihohpjaaGreatDoor.Cop
