/- Part 33: contracts of what the law calls. -/
import Derived.Test.YtjnjpagegkcgfaaGreatDoorCopA31
import Derived.Test.YtjnjpagegkcgfaaGreatDoorCopA30
set_option maxRecDepth 1000000
set_option maxHeartbeats 16000000
set_option linter.unusedSimpArgs false
set_option linter.unusedVariables false
open Option renaming none→O
open Go.Value renaming int→Y,slice→X
open Go.IntKind renaming i64→Z
namespace Go.Proofs.YtjnjpagegkcgfaaGreatDoor.Cop
section
open Go.RowKit Go.Shelf
attribute [local go_sem] Oper.semAt_some
theorem zee (w:World) (c d:Value) (s:Sp) (a:Int) (e:IsPts w c s.over) (f:IsPts w d s.under) (b:SpOk s) (g:Bd 104000 a) :
  Calls Tryz.prog 143 #[spc s c d,Y Z a] w (RetRc w (reachP s a)):=by
 cases hno:reachNo s a with
 | true=>exact zlU w c d s a e f b g hno
 | false=>exact zir w c d s a e f b g hno
structure Be where
 num:Int
 fx:Rat
 fz:Rat
 tx:Rat
 tz:Rat
 d1:Int×Int
 d2:Int×Int
def bedO (p:Pl) (t:List (Int×Int)) (b a:Int):Option Be:=
 if (btw (lowP2 p) t).lo<(btw (lowP2 p) t).hi then
  (reachP (btw (lowP2 p) t) a).map fun o=>⟨b,o.1,atR (lowP2 p) o.1,o.2,atR (lowP2 p) o.2,slopeR t o.1 o.2,slopeR t o.2 o.2⟩
 else O
def PBe (w:World) (c:List Value) (b:Be):Prop:=
 ∃f t:List Value,c=Y Z b.num::(f++(t++[Y Z b.d1.1,Y Z b.d1.2,Y Z b.d2.1,Y Z b.d2.2]))∧IsV w (.agg f.toArray) b.fx b.fz∧IsV w (.agg t.toArray) b.tx b.tz
theorem PBe.ext {w w':World} {c:List Value} {b:Be} (h:PBe w c b) (k:Ext w w'):PBe w' c b:=by
 obtain⟨f,t,a,d,e⟩:=h;exact⟨f,t,a,d.ext k,e.ext k⟩
def be0:Array Value:=#[Y Z 0,X O 0 0,.bool false,X O 0 0,X O 0 0,.bool false,X O 0 0,X O 0 0,.bool false,X O 0 0,X O 0 0,.bool false,X O 0 0,Y Z 0,Y Z 0,Y Z 0,Y Z 0]
def RetBe (w:World) (o:Option Be) (e:Ending) (w':World):Prop:=
 Ext w w'∧((o=O∧e = .returned (.tuple #[.agg be0,.bool false]))∨(∃b c,o=some b∧e = .returned (.tuple #[.agg c.toArray,.bool true])∧PBe w' c b))
theorem zea {w W:World} {b:Nat} (h:Ext w W) (j:w.heap.size≤b) (k l m n o p q r u8 s a c d e f g i:Value):Ext w (((((((((((((((((W.setCell ⟨b,0,O⟩ k).setCell ⟨b,1,O⟩ l).setCell ⟨b,2,O⟩ m).setCell ⟨b,3,O⟩ n).setCell ⟨b,4,O⟩ o).setCell ⟨b,5,O⟩ p).setCell ⟨b,6,O⟩ q).setCell ⟨b,7,O⟩ r).setCell ⟨b,8,O⟩ u8).setCell ⟨b,9,O⟩ s).setCell ⟨b,10,O⟩ a).setCell ⟨b,11,O⟩ c).setCell ⟨b,12,O⟩ d).setCell ⟨b,13,O⟩ e).setCell ⟨b,14,O⟩ f).setCell ⟨b,15,O⟩ g).setCell ⟨b,16,O⟩ i):=by
 repeat(refine Ext.set ?_ j _)
 exact h
theorem zeM {W:World} {T:TypeId} {b:Nat} (n0:NoT T W b) (i j k l m n o p u8 q a c d e f g h:Value):KeepT T W (((((((((((((((((W.setCell ⟨b,0,O⟩ i).setCell ⟨b,1,O⟩ j).setCell ⟨b,2,O⟩ k).setCell ⟨b,3,O⟩ l).setCell ⟨b,4,O⟩ m).setCell ⟨b,5,O⟩ n).setCell ⟨b,6,O⟩ o).setCell ⟨b,7,O⟩ p).setCell ⟨b,8,O⟩ u8).setCell ⟨b,9,O⟩ q).setCell ⟨b,10,O⟩ a).setCell ⟨b,11,O⟩ c).setCell ⟨b,12,O⟩ d).setCell ⟨b,13,O⟩ e).setCell ⟨b,14,O⟩ f).setCell ⟨b,15,O⟩ g).setCell ⟨b,16,O⟩ h):=by
 repeat(first|with_reducible exact KeepT.refl _ _|(with_reducible refine KeepT.setN ?_ ?_ _)|with_reducible exact n0|with_reducible refine NoT.set ?_ _ _)
theorem CellL.set17 {L:List (Addr×Value)} {W:World} {b:Nat} (h:CellL L W) (a:∀q∈L,b≠q.1.block) (k l m n o r s t u8 u c d e f g i j:Value):CellL L (((((((((((((((((W.setCell ⟨b,0,O⟩ k).setCell ⟨b,1,O⟩ l).setCell ⟨b,2,O⟩ m).setCell ⟨b,3,O⟩ n).setCell ⟨b,4,O⟩ o).setCell ⟨b,5,O⟩ r).setCell ⟨b,6,O⟩ s).setCell ⟨b,7,O⟩ t).setCell ⟨b,8,O⟩ u8).setCell ⟨b,9,O⟩ u).setCell ⟨b,10,O⟩ c).setCell ⟨b,11,O⟩ d).setCell ⟨b,12,O⟩ e).setCell ⟨b,13,O⟩ f).setCell ⟨b,14,O⟩ g).setCell ⟨b,15,O⟩ i).setCell ⟨b,16,O⟩ j):=
 (CellL.set (p:=⟨b,16,O⟩) (CellL.set (p:=⟨b,15,O⟩) (CellL.set (p:=⟨b,14,O⟩) (CellL.set (p:=⟨b,13,O⟩) (CellL.set (p:=⟨b,12,O⟩) (CellL.set (p:=⟨b,11,O⟩) (CellL.set (p:=⟨b,10,O⟩) (CellL.set (p:=⟨b,9,O⟩) (CellL.set (p:=⟨b,8,O⟩) (CellL.set (p:=⟨b,7,O⟩) (CellL.set (p:=⟨b,6,O⟩) (CellL.set (p:=⟨b,5,O⟩) (CellL.set (p:=⟨b,4,O⟩) (CellL.set (p:=⟨b,3,O⟩) (CellL.set (p:=⟨b,2,O⟩) (CellL.set (p:=⟨b,1,O⟩) (CellL.set (p:=⟨b,0,O⟩) h a _) a _) a _) a _) a _) a _) a _) a _) a _) a _) a _) a _) a _) a _) a _) a _) a _)
theorem IsV.keep {w w':World} {v:Value} {x z:Rat} (h:IsV w v x z) (k:KeepT 2 w w'):IsV w' v x z:=by
 obtain⟨a,m,c,s,d,p,f,b,n,l,t,e,q,o,g,i,j⟩:=h;exact⟨a,m,c,s,d,p,f,b,n,l,t,e,q,o,g,i.keep k,j.keep k⟩
theorem zk5 (w:World) (P Q:Value) (ps:List Pl) (a:Nat) (p:Pl) (l:Int) (hg:∃a n c,P=X a n c) (e:IsLas w Q ps) (g:ps[a]?=some p) :
  Calls Tryz.prog 72 #[.agg #[P,Q],Y Z a,Y Z a,Y Z l] w (RetBe w O):=by
 obtain⟨ga,gn,gc,rfl⟩:=hg;obtain⟨sa,n,sc,rfl⟩:=form3 e;have hl:=e.len;have h:=e.le;obtain⟨b,o,s,vl,vu,rfl,hb,D,K,L,d⟩:=e.at' g;obtain⟨m,r,q,rfl⟩:=form3 D;obtain⟨i,k,j,rfl⟩:=form3 K;obtain⟨t,x,u,rfl⟩:=form3 L;have hi:=(lS.1 g).1;have p1:(0:Int)≤(a:Int):=oM
 have p2:(a:Int)<(n:Int):=oM
 have p3:a<n:=oM
 have f:=d 0 (.string p.name) rfl;have R:=d 1 (X m r q) rfl;have T:=d 2 (Y Z p.depth) rfl;have W:=d 3 (Y Z p.density) rfl;have aa:=d 4 (Y Z p.gx) rfl;have ab:=d 5 (Y Z p.gz) rfl;have ac:=d 6 (Y Z p.way) rfl;have ad:=d 7 (Y Z p.ax) rfl;have ae:=d 8 (Y Z p.az) rfl;have af:=d 9 (Y .u8 p.skin) rfl;have y:=d 10 (X i k j) rfl;have z:=d 11 (X t x u) rfl;simp only [Nat.add_zero]at f;clear e g d D K L hl h hi;go_enter Tryz.func72,Tryz.ntmps72;go_wp2;refine wp_region_held_drew (S:=CellL []) kM trivial (fun ag=>?_);refine sN 0 ?_
 iterate 4
  refine tkn ?_
 iterate 14
  refine tkgn ?_
 refine tkn ?_;refine oN ?_;refine wpAnyH_done kM ?_ _;go_wp2;refine bR (v:=.tuple #[.agg be0,.bool false]) (by unfold be0;simp [results,Tryz.results72,go_sem]) rfl ?_;exact⟨eA,.inl ⟨rfl,rfl⟩⟩
end
end Go.Proofs.YtjnjpagegkcgfaaGreatDoor.Cop
