/- Part 20: contracts of what the law calls. -/
import Derived.Test.YtodpfeaihohpjaaGreatDoorCopA18
import Derived.Test.YtodpfeaihohpjaaGreatDoorCopA17
set_option maxRecDepth 1000000
set_option maxHeartbeats 16000000
set_option linter.unusedSimpArgs false
set_option linter.unusedVariables false
open Option renaming none→O
open Go.Value renaming int→Y,slice→X
open Go.IntKind renaming i64→Z
namespace Go.Proofs.YtodpfeaihohpjaaGreatDoor.Cop
section
open Go.RowKit Go.Shelf
attribute [local go_sem] Oper.semAt_some
theorem zdZ (w:World) (v1 v2:Value) (s:Sp) (pin:Int) (h1:IsPts w v1 s.over) (h2:IsPts w v2 s.under) (hok:SpOk s) (hp:Bd 104000 pin) :
  Calls Tryz.prog 108 #[spc s v1 v2,Y Z pin] w (RetRc w (reachP s pin)):=by
 cases hno:reachNo s pin with
 | true=>exact zlb w v1 v2 s pin h1 h2 hok hp hno
 | false=>exact zh4 w v1 v2 s pin h1 h2 hok hp hno
structure Be where
 num:Int
 fx:Rat
 fz:Rat
 tx:Rat
 tz:Rat
 d1:Int×Int
 d2:Int×Int
def bedO (p:Pl) (t:List (Int×Int)) (b pin:Int):Option Be:=
 if (btw (lowP2 p) t).lo<(btw (lowP2 p) t).hi then
  (reachP (btw (lowP2 p) t) pin).map fun o=>⟨b,o.1,atR (lowP2 p) o.1,o.2,atR (lowP2 p) o.2,slopeR t o.1 o.2,slopeR t o.2 o.2⟩
 else O
def PBe (w:World) (c:List Value) (b:Be):Prop:=
 ∃f t:List Value,c=Y Z b.num::(f++(t++[Y Z b.d1.1,Y Z b.d1.2,Y Z b.d2.1,Y Z b.d2.2]))∧IsV w (.agg f.toArray) b.fx b.fz∧IsV w (.agg t.toArray) b.tx b.tz
theorem PBe.ext {w w':World} {c:List Value} {b:Be} (h:PBe w c b) (k:Ext w w'):PBe w' c b:=by
 obtain⟨f,t,h1,h2,h3⟩:=h;exact⟨f,t,h1,h2.ext k,h3.ext k⟩
def be0:Array Value:=#[Y Z 0,X O 0 0,.bool false,X O 0 0,X O 0 0,.bool false,X O 0 0,X O 0 0,.bool false,X O 0 0,X O 0 0,.bool false,X O 0 0,Y Z 0,Y Z 0,Y Z 0,Y Z 0]
def RetBe (w:World) (o:Option Be) (e:Ending) (w':World):Prop:=
 Ext w w'∧((o=O∧e = .returned (.tuple #[.agg be0,.bool false]))∨(∃b c,o=some b∧e = .returned (.tuple #[.agg c.toArray,.bool true])∧PBe w' c b))
theorem zdX {w W:World} {b:Nat} (h:Ext w W) (hb:w.heap.size≤b) (u0 u1 u2 u3 u4 u5 u6 u7 u8 u9 u10 u11 u12 u13 u14 u15 u16:Value):Ext w (((((((((((((((((W.setCell ⟨b,0,O⟩ u0).setCell ⟨b,1,O⟩ u1).setCell ⟨b,2,O⟩ u2).setCell ⟨b,3,O⟩ u3).setCell ⟨b,4,O⟩ u4).setCell ⟨b,5,O⟩ u5).setCell ⟨b,6,O⟩ u6).setCell ⟨b,7,O⟩ u7).setCell ⟨b,8,O⟩ u8).setCell ⟨b,9,O⟩ u9).setCell ⟨b,10,O⟩ u10).setCell ⟨b,11,O⟩ u11).setCell ⟨b,12,O⟩ u12).setCell ⟨b,13,O⟩ u13).setCell ⟨b,14,O⟩ u14).setCell ⟨b,15,O⟩ u15).setCell ⟨b,16,O⟩ u16):=by
 repeat(refine Ext.set ?_ hb _)
 exact h
theorem zeH {W:World} {T:TypeId} {b:Nat} (n0:NoT T W b) (u0 u1 u2 u3 u4 u5 u6 u7 u8 u9 u10 u11 u12 u13 u14 u15 u16:Value):KeepT T W (((((((((((((((((W.setCell ⟨b,0,O⟩ u0).setCell ⟨b,1,O⟩ u1).setCell ⟨b,2,O⟩ u2).setCell ⟨b,3,O⟩ u3).setCell ⟨b,4,O⟩ u4).setCell ⟨b,5,O⟩ u5).setCell ⟨b,6,O⟩ u6).setCell ⟨b,7,O⟩ u7).setCell ⟨b,8,O⟩ u8).setCell ⟨b,9,O⟩ u9).setCell ⟨b,10,O⟩ u10).setCell ⟨b,11,O⟩ u11).setCell ⟨b,12,O⟩ u12).setCell ⟨b,13,O⟩ u13).setCell ⟨b,14,O⟩ u14).setCell ⟨b,15,O⟩ u15).setCell ⟨b,16,O⟩ u16):=by
 repeat(first|with_reducible exact KeepT.refl _ _|(with_reducible refine KeepT.setN ?_ ?_ _)|with_reducible exact n0|with_reducible refine NoT.set ?_ _ _)
theorem CellL.set17 {L:List (Addr×Value)} {W:World} {b:Nat} (h:CellL L W) (hne:∀q∈L,b≠q.1.block) (u0 u1 u2 u3 u4 u5 u6 u7 u8 u9 u10 u11 u12 u13 u14 u15 u16:Value):CellL L (((((((((((((((((W.setCell ⟨b,0,O⟩ u0).setCell ⟨b,1,O⟩ u1).setCell ⟨b,2,O⟩ u2).setCell ⟨b,3,O⟩ u3).setCell ⟨b,4,O⟩ u4).setCell ⟨b,5,O⟩ u5).setCell ⟨b,6,O⟩ u6).setCell ⟨b,7,O⟩ u7).setCell ⟨b,8,O⟩ u8).setCell ⟨b,9,O⟩ u9).setCell ⟨b,10,O⟩ u10).setCell ⟨b,11,O⟩ u11).setCell ⟨b,12,O⟩ u12).setCell ⟨b,13,O⟩ u13).setCell ⟨b,14,O⟩ u14).setCell ⟨b,15,O⟩ u15).setCell ⟨b,16,O⟩ u16):=
 (CellL.set (p:=⟨b,16,O⟩) (CellL.set (p:=⟨b,15,O⟩) (CellL.set (p:=⟨b,14,O⟩) (CellL.set (p:=⟨b,13,O⟩) (CellL.set (p:=⟨b,12,O⟩) (CellL.set (p:=⟨b,11,O⟩) (CellL.set (p:=⟨b,10,O⟩) (CellL.set (p:=⟨b,9,O⟩) (CellL.set (p:=⟨b,8,O⟩) (CellL.set (p:=⟨b,7,O⟩) (CellL.set (p:=⟨b,6,O⟩) (CellL.set (p:=⟨b,5,O⟩) (CellL.set (p:=⟨b,4,O⟩) (CellL.set (p:=⟨b,3,O⟩) (CellL.set (p:=⟨b,2,O⟩) (CellL.set (p:=⟨b,1,O⟩) (CellL.set (p:=⟨b,0,O⟩) h hne _) hne _) hne _) hne _) hne _) hne _) hne _) hne _) hne _) hne _) hne _) hne _) hne _) hne _) hne _) hne _) hne _)
theorem IsV.keep {w w':World} {v:Value} {x z:Rat} (h:IsV w v x z) (k:KeepT 2 w w'):IsV w' v x z:=by
 obtain⟨a,m,c,s,a2,m2,c2,b,n,k1,t,b2,n2,k2,h1,h2,h3⟩:=h;exact⟨a,m,c,s,a2,m2,c2,b,n,k1,t,b2,n2,k2,h1,h2.keep k,h3.keep k⟩
theorem zku (w:World) (vg vs:Value) (ps:List Pl) (a:Nat) (p:Pl) (pin:Int) (hg:∃a n c,vg=X a n c) (hs:IsLas w vs ps) (ha:ps[a]?=some p) :
  Calls Tryz.prog 58 #[.agg #[vg,vs],Y Z a,Y Z a,Y Z pin] w (RetBe w O):=by
 obtain⟨ga,gn,gc,rfl⟩:=hg;obtain⟨sa,n,sc,rfl⟩:=form3 hs;have hl:=hs.len;have hle:=hs.le;obtain⟨b,o,s,vl,vu,rfl,hb,d1,d2,d3,hc⟩:=hs.at' ha;obtain⟨sa1,sn1,sc1,rfl⟩:=form3 d1;obtain⟨la1,ln1,lc1,rfl⟩:=form3 d2;obtain⟨ua1,un1,uc1,rfl⟩:=form3 d3;have hi:=(lS.1 ha).1;have p1:(0:Int)≤(a:Int):=by omega
 have p2:(a:Int)<(n:Int):=by omega
 have p3:a<n:=by omega
 have cc0:=hc 0 (.string p.name) rfl;have cc1:=hc 1 (X sa1 sn1 sc1) rfl;have cc2:=hc 2 (Y Z p.depth) rfl;have cc3:=hc 3 (Y Z p.density) rfl;have cc4:=hc 4 (Y Z p.gx) rfl;have cc5:=hc 5 (Y Z p.gz) rfl;have cc6:=hc 6 (Y Z p.way) rfl;have cc7:=hc 7 (Y Z p.ax) rfl;have cc8:=hc 8 (Y Z p.az) rfl;have cc9:=hc 9 (Y .u8 p.skin) rfl;have cc10:=hc 10 (X la1 ln1 lc1) rfl;have cc11:=hc 11 (X ua1 un1 uc1) rfl;simp only [Nat.add_zero]at cc0;clear hs ha hc d1 d2 d3 hl hle hi;go_enter Tryz.func58,Tryz.ntmps58;go_wp2;refine wp_region_held_drew (S:=CellL []) (by kernel_rfl) trivial (fun h9H=>?_);refine sN 0 ?_
 iterate 4
  refine tkn ?_
 iterate 14
  refine tkgn ?_
 refine tkn ?_;refine oN ?_;refine wpAnyH_done (by kernel_rfl) ?_ _;go_wp2;refine bR (v:=.tuple #[.agg be0,.bool false]) (by unfold be0;simp [results,Tryz.results58,go_sem]) rfl ?_;exact⟨eA,.inl ⟨rfl,rfl⟩⟩
end
end Go.Proofs.YtodpfeaihohpjaaGreatDoor.Cop
