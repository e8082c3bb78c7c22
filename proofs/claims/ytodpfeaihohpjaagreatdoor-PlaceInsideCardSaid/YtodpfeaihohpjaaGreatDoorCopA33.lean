/- Part 34: contracts of what the law calls. -/
import Derived.Test.YtodpfeaihohpjaaGreatDoorCopA32
set_option maxRecDepth 1000000
set_option maxHeartbeats 16000000
set_option linter.unusedSimpArgs false
set_option linter.unusedVariables false
open Go.Value renaming slice→O,bool→Z
open Option renaming none→Y
namespace Go.Proofs.YtodpfeaihohpjaaGreatDoor.Cop
section
open Go.RowKit Go.Shelf Go.Sort Go.Lib
attribute [local go_sem] Oper.semAt_some
theorem CellL.drew9 {L:List (Addr×Value)} {W:World} (h:CellL L W):CellL L W.drew:=cE h (eR _).drew
def regsOf:Code→List Code
 | .seq a b=>regsOf a++regsOf b
 | .cond _ a b=>regsOf a++regsOf b
 | .block _ b=>regsOf b
 | .loop b=>regsOf b
 | .rangeFunc _ _ a b=>regsOf a++regsOf b
 | .scope b=>regsOf b
 | .region i o d=>[.region i o d]
 | _=>[]
def regAt (f:Func) (k:Nat):Code:=match f.body with|some c=>(regsOf c).getD k .skip|none=>.skip
theorem zlL (Q:Exit→Act→World→Prop) (b:World) (p q:Pl) (x:Rat) (o r:Nat) (o1:placedOk p=true) (o2:placedOk q=true) (rx:Rb 300 x)
  (ra:Option Addr) (rm rc:Nat) (rs:Bool) (aq:Option Addr) (au ar:Nat) (ua:Option Addr) (um uc:Nat) (us:Bool) (av:Option Addr) (ax aw:Nat) (ya:Option Addr) (ym yc:Nat) (ys:Bool) (ay:Option Addr) (aA az:Nat) (za:Option Addr) (zm zc:Nat) (zs:Bool) (aB:Option Addr) (aD aC:Nat)
  (aE:CellL [(⟨o,0,Y⟩,O ra rm rc),(⟨o,1,Y⟩,Z rs),(⟨o,2,Y⟩,O aq au ar),(⟨o+1,0,Y⟩,O ua um uc),(⟨o+1,1,Y⟩,Z us),(⟨o+1,2,Y⟩,O av ax aw),(⟨r,0,Y⟩,O ya ym yc),(⟨r,1,Y⟩,Z ys),(⟨r,2,Y⟩,O ay aA az),(⟨r+1,0,Y⟩,O za zm zc),(⟨r+1,1,Y⟩,Z zs),(⟨r+1,2,Y⟩,O aB aD aC)] b)
  (aI:IsR b (.agg #[O ra rm rc,Z rs,O aq au ar]) (atR (lowP2 p) x)) (aJ:IsR b (.agg #[O ua um uc,Z us,O av ax aw]) (atR (upP2 p) x)) (aK:IsR b (.agg #[O ya ym yc,Z ys,O ay aA az]) (atR (lowP2 q) x)) (aL:IsR b (.agg #[O za zm zc,Z zs,O aB aD aC]) (atR (upP2 q) x))
  (HA:Hid (∀W:World,Ext b W→Calls Tryz.prog 10 #[] W fun e w'=>e = .returned (Z true)∧Ext W w')) (al:topI p q x≤botI p q x)
  (a0:Act) (f0:a0.tmps.size=272) (ae:a0.tmps.getD 32 undef = .pointer (some ⟨o,0,Y⟩)) (af:a0.tmps.getD 33 undef = .pointer (some ⟨o+1,0,Y⟩)) (ag:a0.tmps.getD 34 undef = .int .i64 0) (ah:a0.tmps.getD 35 undef = .pointer (some ⟨r,0,Y⟩)) (ai:a0.tmps.getD 36 undef = .pointer (some ⟨r+1,0,Y⟩)) (f37:a0.tmps.getD 37 undef = .int .i64 0) (aG:a0.defers=[])
  (aF:∀(c:List PanicEntry) (a:Act) (d:Option Nat) (v:Value) (w:World),Q (.panic c) (a.put d v) w→Q (.panic c) a w)
  (hQ:∀a' w',a'.tmps.getD 6 undef=Z true→a'.tmps.size=272→a'.defers=[]→Ext b w'→Q .normal a' w') :
  (regAt Tryz.f6 33).wp Tryz.prog Q a0 b:=by
 have HQ:=hd9 hQ;have g:=hd9 aF;have f1:Rb 1207 (atR (lowP2 p) x):=(Rb.atG (k:=300) dM rx (zae o1).1).up dM;have f2:Rb 1207 (atR (upP2 p) x):=(Rb.atG (k:=300) dM rx (zae o1).2).up dM;have f3:Rb 1207 (atR (lowP2 q) x):=(Rb.atG (k:=300) dM rx (zae o2).1).up dM;have f4:Rb 1207 (atR (upP2 q) x):=(Rb.atG (k:=300) dM rx (zae o2).2).up dM;have ao:=hd9 aK;have ap:=hd9 aL;have am:=hd9 aI;have an:=hd9 aJ
 have ak:=hd9 (fun(W:World) (v:Value) (h:IsRs W v [atR (upP2 p) x,atR (upP2 q) x])=>(show Calls Tryz.prog _ #[v] W (RetR W (topI p q x))from zbw W v _ h (fun z hz=>by
  simp only [List.mem_cons,List.not_mem_nil,or_false]at hz
  rcases hz with rfl|rfl
  ·exact zaf f2 dM
  ·exact zaf f4 dM)))
 have aj:=hd9 (fun(W:World) (v:Value) (h:IsRs W v [atR (lowP2 p) x,atR (lowP2 q) x])=>(show Calls Tryz.prog _ #[v] W (RetR W (botI p q x))from zbv W v _ h (fun z hz=>by
  simp only [List.mem_cons,List.not_mem_nil,or_false]at hz
  rcases hz with rfl|rfl
  ·exact zaf f1 dM
  ·exact zaf f3 dM)))
 have ad:=hd9 (fun(W:World) (va vb:Value) (h1:IsR W va (topI p q x)) (h2:IsR W vb (botI p q x))=>zan W va vb _ _ h1 h2 (zaf (zez o1 o2 rx) dM) (zaf (zdH o1 o2 rx) dM));have al:rcmp (topI p q x) (botI p q x)≤0:=(zcS _ _).2 al;obtain⟨q1,aH⟩:=gX (rcmp (topI p q x) (botI p q x));rw [aH]at ad al;clear hQ aF f1 f2 f3 f4 aK aL aI aJ aH rx o1 o2;unfold regAt;simp only [Tryz.f6,regsOf,List.cons_append,List.nil_append,List.append_nil,List.getD_cons_succ,List.getD_cons_zero];obtain⟨tt,dd⟩:=a0;dsimp only at f0 ae af ag ah ai f37 aG;subst aG;obtain⟨u,hu,ht⟩:=arrU tt 272 f0;simp only [hu]at ae af ag ah ai f37;clear hu f0;subst ht;simp only [List.range,List.range.loop,List.map_cons,List.map_nil,ae,af,ag,ah,ai,f37];clear ae af ag ah ai f37;refine wp_region_held_drew (S:=CellL [(⟨o,0,Y⟩,O ra rm rc),(⟨o,1,Y⟩,Z rs),(⟨o,2,Y⟩,O aq au ar),(⟨o+1,0,Y⟩,O ua um uc),(⟨o+1,1,Y⟩,Z us),(⟨o+1,2,Y⟩,O av ax aw),(⟨r,0,Y⟩,O ya ym yc),(⟨r,1,Y⟩,Z ys),(⟨r,2,Y⟩,O ay aA az),(⟨r+1,0,Y⟩,O za zm zc),(⟨r+1,1,Y⟩,Z zs),(⟨r+1,2,Y⟩,O aB aD aC)]) kM (by exact aE.drew9) (fun f=>?_);have P:=aE;refine tk1 (i:=0) (h4:=fun _ _ _ h=>g.out _ _ _ _ _ h) ?_;refine tk1 (i:=1) (h4:=fun _ _ _ h=>g.out _ _ _ _ _ h) ?_;refine tk1 (i:=2) (h4:=fun _ _ _ h=>g.out _ _ _ _ _ h) ?_;refine tk1 (i:=3) (h4:=fun _ _ _ h=>g.out _ _ _ _ _ h) ?_;refine tk1 (i:=4) (h4:=fun _ _ _ h=>g.out _ _ _ _ _ h) ?_;refine tk1 (i:=5) (h4:=fun _ _ _ h=>g.out _ _ _ _ _ h) ?_;refine tk1 (i:=6) (h4:=fun _ _ _ h=>g.out _ _ _ _ _ h) ?_;refine tk1 (i:=7) (h4:=fun _ _ _ h=>g.out _ _ _ _ _ h) ?_;refine tk1 (i:=8) (h4:=fun _ _ _ h=>g.out _ _ _ _ _ h) ?_;refine tk1 (i:=11) (h4:=fun _ _ _ h=>g.out _ _ _ _ _ h) ?_;refine tk1 (i:=12) (h4:=fun _ _ _ h=>g.out _ _ _ _ _ h) ?_;refine call2 (i:=9) (j:=13) (fun K l=>?_) (fun K l=>?_)
 ·go_simp
  refine kO l (cE P (((eR b).alloc _).drew)) (fun f=>?_);clear l K;have R9:=(zaU b rfl an.out ap.out).ext' (eR _).drew;refine call2 (i:=10) (j:=13) (fun K l=>?_) (fun K l=>?_)
  ·skip
   go_simp
   (with_reducible refine cM (ak.out _ _ R9) ?_)
   rintro e aa ⟨aM,rfl,s,n⟩;obtain⟨g1,g2,g3,g4,g5,g6,g7,rfl⟩:=s.form
   go_wp2_with fail
   refine kO l (cE f n) (fun f=>?_);clear l K;have X0:Ext b aa:=((eR b).alloc _).drew.trans n;refine cl1 (i:=13) fun K l=>?_
   go_simp;refine kO l (cE f ((eR _).alloc _)) (fun f=>?_);clear l K;refine cl1 (i:=14) fun K l=>?_
   go_simp
   (with_reducible refine cM (aj.out _ _ (zaU aa rfl (am.out.ext X0) (ao.out.ext X0))) ?_)
   rintro e ab ⟨aO,rfl,t,m⟩;obtain⟨j1,j2,j3,j4,j5,j6,j7,rfl⟩:=t.form
   go_wp2_with fail
   refine kO l (cE f m) (fun f=>?_);clear l K;have T:=s.ext (((eR _).alloc _).trans m);have XT:Ext b ab:=X0.trans (((eR _).alloc _).trans m);refine cl1 (i:=15) fun K l=>?_
   go_simp
   (with_reducible refine cM (ad.out _ _ _ T t) ?_)
   rintro e ac ⟨rfl,y⟩
   skip
   go_wp2_with fail
   refine kO l (cE f y) (fun f=>?_);clear l K;refine tk1 (i:=16) (h4:=fun _ _ _ h=>g.out _ _ _ _ _ h) ?_;refine tk1 (i:=17) (h4:=fun _ _ _ h=>g.out _ _ _ _ _ h) ?_;refine tk1 (i:=18) (h4:=fun _ _ _ h=>g.out _ _ _ _ _ h) ?_;have XU:Ext b ac:=XT.trans y;refine cl1 (i:=19) fun K l=>?_
   go_simp
   (with_reducible refine cM (HA.out _ XU) ?_)
   rintro e aP ⟨rfl,D⟩
   skip
   go_wp2_with fail
   refine kO l (cE f D) (fun f=>?_);clear l K;refine tk1 (i:=20) (h4:=fun _ _ _ h=>g.out _ _ _ _ _ h) ?_;refine tk1 (i:=21) (h4:=fun _ _ _ h=>g.out _ _ _ _ _ h) ?_;refine wpAnyH_done kM ?_ _;exact HQ.out _ _ rfl rfl rfl (XU.trans D)
  ·go_simp
   refine kO l (cE P ((((eR b).alloc _).alloc _).drew)) (fun f=>?_);clear l K;refine cl1 (i:=10) fun K l=>?_
   go_simp
   (with_reducible refine cM (ak.out _ _ ((zaU b rfl an.out ap.out).ext' (((eR _).alloc _).drew))) ?_)
   rintro e aa ⟨aM,rfl,s,n⟩;obtain⟨g1,g2,g3,g4,g5,g6,g7,rfl⟩:=s.form
   go_wp2_with fail
   refine kO l (cE f n) (fun f=>?_);clear l K;refine cl1 (i:=14) fun K l=>?_
   go_simp
   (with_reducible refine cM (aj.out _ _ ((zaU _ (wZ b _).symm (am.out.ext ((eR b).alloc _)) (ao.out.ext ((eR b).alloc _))).ext' ((eR _).drew.trans n))) ?_)
   rintro e ab ⟨aO,rfl,t,m⟩;obtain⟨j1,j2,j3,j4,j5,j6,j7,rfl⟩:=t.form
   go_wp2_with fail
   refine kO l (cE f m) (fun f=>?_);clear l K;have T:=s.ext m;have XT:Ext b ab:=(((eR b).alloc _).alloc _).drew.trans (n.trans m);refine cl1 (i:=15) fun K l=>?_
   go_simp
   (with_reducible refine cM (ad.out _ _ _ T t) ?_)
   rintro e ac ⟨rfl,y⟩
   skip
   go_wp2_with fail
   refine kO l (cE f y) (fun f=>?_);clear l K;refine tk1 (i:=16) (h4:=fun _ _ _ h=>g.out _ _ _ _ _ h) ?_;refine tk1 (i:=17) (h4:=fun _ _ _ h=>g.out _ _ _ _ _ h) ?_;refine tk1 (i:=18) (h4:=fun _ _ _ h=>g.out _ _ _ _ _ h) ?_;have XU:Ext b ac:=XT.trans y;refine cl1 (i:=19) fun K l=>?_
   go_simp
   (with_reducible refine cM (HA.out _ XU) ?_)
   rintro e aP ⟨rfl,D⟩
   skip
   go_wp2_with fail
   refine kO l (cE f D) (fun f=>?_);clear l K;refine tk1 (i:=20) (h4:=fun _ _ _ h=>g.out _ _ _ _ _ h) ?_;refine tk1 (i:=21) (h4:=fun _ _ _ h=>g.out _ _ _ _ _ h) ?_;refine wpAnyH_done kM ?_ _;exact HQ.out _ _ rfl rfl rfl (XU.trans D)
 ·go_simp
  refine kO l (cE P (((eR b).alloc _).drew)) (fun f=>?_);clear l K;refine cl1 (i:=9) fun K l=>?_
  go_simp;refine kO l (cE P ((((eR b).alloc _).alloc _).drew)) (fun f=>?_);clear l K;refine cl1 (i:=10) fun K l=>?_
  go_simp
  (with_reducible refine cM (ak.out _ _ ((zaU _ (wZ b _).symm (an.out.ext ((eR b).alloc _)) (ap.out.ext ((eR b).alloc _))).ext' (eR _).drew)) ?_)
  rintro e aa ⟨aM,rfl,s,n⟩;obtain⟨g1,g2,g3,g4,g5,g6,g7,rfl⟩:=s.form
  go_wp2_with fail
  refine kO l (cE f n) (fun f=>?_);clear l K;refine cl1 (i:=14) fun K l=>?_
  go_simp
  (with_reducible refine cM (aj.out _ _ ((zaU b rfl am.out ao.out).ext' (((eR _).alloc _).drew.trans n))) ?_)
  rintro e ab ⟨aO,rfl,t,m⟩;obtain⟨j1,j2,j3,j4,j5,j6,j7,rfl⟩:=t.form
  go_wp2_with fail
  refine kO l (cE f m) (fun f=>?_);clear l K;have T:=s.ext m;have XT:Ext b ab:=(((eR b).alloc _).alloc _).drew.trans (n.trans m);refine cl1 (i:=15) fun K l=>?_
  go_simp
  (with_reducible refine cM (ad.out _ _ _ T t) ?_)
  rintro e ac ⟨rfl,y⟩
  skip
  go_wp2_with fail
  refine kO l (cE f y) (fun f=>?_);clear l K;refine tk1 (i:=16) (h4:=fun _ _ _ h=>g.out _ _ _ _ _ h) ?_;refine tk1 (i:=17) (h4:=fun _ _ _ h=>g.out _ _ _ _ _ h) ?_;refine tk1 (i:=18) (h4:=fun _ _ _ h=>g.out _ _ _ _ _ h) ?_;have XU:Ext b ac:=XT.trans y;refine cl1 (i:=19) fun K l=>?_
  go_simp
  (with_reducible refine cM (HA.out _ XU) ?_)
  rintro e aP ⟨rfl,D⟩
  skip
  go_wp2_with fail
  refine kO l (cE f D) (fun f=>?_);clear l K;refine tk1 (i:=20) (h4:=fun _ _ _ h=>g.out _ _ _ _ _ h) ?_;refine tk1 (i:=21) (h4:=fun _ _ _ h=>g.out _ _ _ _ _ h) ?_;refine wpAnyH_done kM ?_ _;exact HQ.out _ _ rfl rfl rfl (XU.trans D)
end
end Go.Proofs.YtodpfeaihohpjaaGreatDoor.Cop
