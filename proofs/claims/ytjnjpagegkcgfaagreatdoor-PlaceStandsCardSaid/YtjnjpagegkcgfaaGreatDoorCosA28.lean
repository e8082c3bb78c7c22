/- Part 29. -/
import Derived.Test.YtjnjpagegkcgfaaGreatDoorCosA27
import Derived.Test.YtjnjpagegkcgfaaGreatDoorCosA26
set_option maxRecDepth 1000000
set_option maxHeartbeats 16000000
set_option linter.unusedSimpArgs false
set_option linter.unusedVariables false
open Option renaming none->O
open Go.Value renaming int->Y,slice->V,bool->J
open Go renaming Value->Z,World->I
open Go.IntKind renaming i64->X
namespace Go.Proofs.YtjnjpagegkcgfaaGreatDoor.Cop
section
open Go.RowKit Go.Shelf
attribute [local go_sem] Oper.semAt_some
theorem zdZ(w:I)(c d:Z)(s:Sp)(a:Int)(e:IsPts w c s.over)(f:IsPts w d s.under)(b:SpOk s)(g:Bd 104000 a) :
  Calls Tryz.prog 143 #[spc s c d,Y X a] w (RetRc w (reachP s a)):=by
 cases hno:reachNo s a with
 | true=>exact zlD w c d s a e f b g hno
 | false=>exact zic w c d s a e f b g hno
structure Be where
 num:Int
 fx:Rat
 fz:Rat
 tx:Rat
 tz:Rat
 d1:Int×Int
 d2:Int×Int
def bedO(p:Pl)(t:LP)(b a:Int):Option Be:=
 if (btw (lowP2 p) t).lo<(btw (lowP2 p) t).hi then
  (reachP (btw (lowP2 p) t) a).map fun o=>⟨b,o.1,atR (lowP2 p) o.1,o.2,atR (lowP2 p) o.2,slopeR t o.1 o.2,slopeR t o.2 o.2⟩
 else O
def PBe(w:I)(c:List Z)(b:Be):Prop:=
 ∃f t:List Z,c=Y X b.num::(f++(t++[Y X b.d1.1,Y X b.d1.2,Y X b.d2.1,Y X b.d2.2]))/\IsV w (.agg f.toArray) b.fx b.fz/\IsV w (.agg t.toArray) b.tx b.tz
theorem PBe.ext{w w':I}{c:List Z}{b:Be}(h:PBe w c b)(k:Ext w w'):PBe w' c b:=by
 obtain⟨f,t,a,d,e⟩:=h;exact⟨f,t,a,d.ext k,e.ext k⟩
def be0:Array Z:=#[Y X 0,V O 0 0,J false,V O 0 0,V O 0 0,J false,V O 0 0,V O 0 0,J false,V O 0 0,V O 0 0,J false,V O 0 0,Y X 0,Y X 0,Y X 0,Y X 0]
def RetBe(w:I)(o:Option Be)(e:Ending)(w':I):Prop:=
 Ext w w'/\((o=O/\e = .returned (.tuple #[.agg be0,J false]))\/(∃b c,o=some b/\e = .returned (.tuple #[.agg c.toArray,J true])/\PBe w' c b))
theorem zdU{w W:I}{b:Nat}(h:Ext w W)(j:w.heap.size<=b)(k l m n o p q r u8 s a c d e f g i:Z):Ext w (((((((((((((((((W.setCell ⟨b,0,O⟩ k).setCell ⟨b,1,O⟩ l).setCell ⟨b,2,O⟩ m).setCell ⟨b,3,O⟩ n).setCell ⟨b,4,O⟩ o).setCell ⟨b,5,O⟩ p).setCell ⟨b,6,O⟩ q).setCell ⟨b,7,O⟩ r).setCell ⟨b,8,O⟩ u8).setCell ⟨b,9,O⟩ s).setCell ⟨b,10,O⟩ a).setCell ⟨b,11,O⟩ c).setCell ⟨b,12,O⟩ d).setCell ⟨b,13,O⟩ e).setCell ⟨b,14,O⟩ f).setCell ⟨b,15,O⟩ g).setCell ⟨b,16,O⟩ i):=by
 repeat(refine Ext.set ?_ j _)
 exact h
theorem zeB{W:I}{T:TypeId}{b:Nat}(j:NoT T W b)(k l m n o p q r u8 s a c d e f g i:Z):KeepT T W (((((((((((((((((W.setCell ⟨b,0,O⟩ k).setCell ⟨b,1,O⟩ l).setCell ⟨b,2,O⟩ m).setCell ⟨b,3,O⟩ n).setCell ⟨b,4,O⟩ o).setCell ⟨b,5,O⟩ p).setCell ⟨b,6,O⟩ q).setCell ⟨b,7,O⟩ r).setCell ⟨b,8,O⟩ u8).setCell ⟨b,9,O⟩ s).setCell ⟨b,10,O⟩ a).setCell ⟨b,11,O⟩ c).setCell ⟨b,12,O⟩ d).setCell ⟨b,13,O⟩ e).setCell ⟨b,14,O⟩ f).setCell ⟨b,15,O⟩ g).setCell ⟨b,16,O⟩ i):=by
 repeat(first|with_reducible exact KeepT.refl _ _|(with_reducible refine KeepT.setN ?_ ?_ _)|with_reducible exact j|with_reducible refine NoT.set ?_ _ _)
theorem CellL.set17{L:List (Addr×Z)}{W:I}{b:Nat}(h:CellL L W)(a:∀q∈L,b≠q.1.block)(k l m n o r s t u8 u c d e f g i j:Z):CellL L (((((((((((((((((W.setCell ⟨b,0,O⟩ k).setCell ⟨b,1,O⟩ l).setCell ⟨b,2,O⟩ m).setCell ⟨b,3,O⟩ n).setCell ⟨b,4,O⟩ o).setCell ⟨b,5,O⟩ r).setCell ⟨b,6,O⟩ s).setCell ⟨b,7,O⟩ t).setCell ⟨b,8,O⟩ u8).setCell ⟨b,9,O⟩ u).setCell ⟨b,10,O⟩ c).setCell ⟨b,11,O⟩ d).setCell ⟨b,12,O⟩ e).setCell ⟨b,13,O⟩ f).setCell ⟨b,14,O⟩ g).setCell ⟨b,15,O⟩ i).setCell ⟨b,16,O⟩ j):=
 (CellL.set (p:=⟨b,16,O⟩) (CellL.set (p:=⟨b,15,O⟩) (CellL.set (p:=⟨b,14,O⟩) (CellL.set (p:=⟨b,13,O⟩) (CellL.set (p:=⟨b,12,O⟩) (CellL.set (p:=⟨b,11,O⟩) (CellL.set (p:=⟨b,10,O⟩) (CellL.set (p:=⟨b,9,O⟩) (CellL.set (p:=⟨b,8,O⟩) (CellL.set (p:=⟨b,7,O⟩) (CellL.set (p:=⟨b,6,O⟩) (CellL.set (p:=⟨b,5,O⟩) (CellL.set (p:=⟨b,4,O⟩) (CellL.set (p:=⟨b,3,O⟩) (CellL.set (p:=⟨b,2,O⟩) (CellL.set (p:=⟨b,1,O⟩) (CellL.set (p:=⟨b,0,O⟩) h a _) a _) a _) a _) a _) a _) a _) a _) a _) a _) a _) a _) a _) a _) a _) a _) a _)
theorem IsV.keep{w w':I}{v:Z}{x z:Rat}(h:IsV w v x z)(k:KeepT 2 w w'):IsV w' v x z:=by
 obtain⟨a,m,c,s,d,p,f,b,n,l,t,e,q,o,g,i,j⟩:=h;exact⟨a,m,c,s,d,p,f,b,n,l,t,e,q,o,g,i.keep k,j.keep k⟩
theorem zkP(w:I)(R T:Z)(ps:List Pl)(a:Nat)(p:Pl)(m:Int)(hg:∃a n c,R=V a n c)(e:IsLas w T ps)(g:ps[a]?=some p) :
  Calls Tryz.prog 72 #[.agg #[R,T],Y X a,Y X a,Y X m] w (RetBe w O):=by
 obtain⟨ga,gn,gc,rfl⟩:=hg;obtain⟨sa,n,sc,rfl⟩:=form3 e;have hl:=e.len;have i:=e.le;obtain⟨b,o,s,vl,vu,rfl,hb,K,P,Q,d⟩:=e.at' g;obtain⟨q,t,r,rfl⟩:=form3 K;obtain⟨j,l,k,rfl⟩:=form3 P;obtain⟨u,y,x,rfl⟩:=form3 Q;have hi:=(lS.1 g).1;have p1:(0:Int)<=(a:Int):=oM
 have p2:(a:Int)<(n:Int):=oM
 have p3:a<n:=oM
 have f:=d 0 (.string p.name) rfl;have W:=d 1 (V q t r) rfl;have aa:=d 2 (Y X p.depth) rfl;have ab:=d 3 (Y X p.density) rfl;have ac:=d 4 (Y X p.gx) rfl;have ad:=d 5 (Y X p.gz) rfl;have ae:=d 6 (Y X p.way) rfl;have af:=d 7 (Y X p.ax) rfl;have ag:=d 8 (Y X p.az) rfl;have ah:=d 9 (Y .u8 p.skin) rfl;have z:=d 10 (V j l k) rfl;have D:=d 11 (V u y x) rfl;simp only[Nat.add_zero]at f;clear e g d K P Q hl i hi;go_enter Tryz.func72,Tryz.ntmps72;go_wp2;refine wp_region_held_drew (S:=CellL []) kM trivial (fun ai=>?_);refine sN 0 ?_
 iterate 4
  refine tkn ?_
 iterate 14
  refine tkgn ?_
 refine tkn ?_;refine oN ?_;refine wpAnyH_done kM ?_ _;go_wp2;refine bR (v:=.tuple #[.agg be0,J false]) (by unfold be0;simp[results,Tryz.results72,go_sem]) rfl ?_;exact⟨eA,.inl ⟨rfl,rfl⟩⟩
end
section
open Go.RowKit Go.Shelf Go.Sort Go.Lib
theorem mem_stopsZ{s:Sp}{z:Int}:z∈stopsZ s ↔ (z=s.lo\/z=s.hi\/(s.lo<z/\z<s.hi/\∃q∈s.over++s.under,q.1=z)):=by
 constructor
 ·intro h
  have a:=isort_mem.1 (zc7 h)
  rcases List.mem_cons.1 a with a|a
  ·exact .inl a
  rcases List.mem_cons.1 a with a|a
  ·exact .inr (.inl a)
  ·unfold midP at a
   obtain⟨c,b⟩:=List.mem_filter.1 a;obtain⟨q,d,rfl⟩:=List.mem_map.1 c;unfold inP at b;simp at b;exact .inr (.inr ⟨b.1,b.2,q,d,rfl⟩)
 ·intro h
  obtain⟨y,f,e⟩:=List.mem_map.1 (zlL h);have:y=z:=by exact_mod_cast e
  rwa [<-this]
theorem zlM{s:Sp}(h:s.lo<s.hi){z:Int}(c:z∈stopsZ s):s.lo<=z/\z<=s.hi:=by
 rcases mem_stopsZ.1 c with e|e|⟨a,b,_⟩<;>omega
section
variable {L U:LP} (rL:Rise L) (rU:Rise U) (nL:L≠[]) (nU:U≠[])
include rL rU nL nU
end
end
section
open Go.RowKit Go.Shelf
attribute [local go_sem] Oper.semAt_some
theorem zgw{q:Pl}{s b c:Z}{m:Nat}{u:Z}(h:(plc q s)[m]?=some u):(lac q s b c)[m]?=some u:=by
 have a:=(Array.getElem?_eq_some_iff.1 h).1;unfold plc at h a;unfold lac
 match m,a with
 | 0,_|1,_|2,_|3,_|4,_|5,_|6,_|7,_|8,_|9,_=>simpa using h
 | m+10,a=>exact absurd a (by simp only[List.size_toArray,List.length_cons,List.length_nil];omega)
def BdH(w:I)(c d:Z)(a:Array Z)(b:Z)(W:I):Prop:=
 b=J false/\Ext w W/\W.heap[w.heap.size]?=some (.cells #[c,d] 124 (0,0))/\W.heap[w.heap.size+1]?=some (.cells be0 79 (0,0))/\W.heap[w.heap.size+1+1]?=some (.cells a 128 (0,0))
end
end Go.Proofs.YtjnjpagegkcgfaaGreatDoor.Cop
