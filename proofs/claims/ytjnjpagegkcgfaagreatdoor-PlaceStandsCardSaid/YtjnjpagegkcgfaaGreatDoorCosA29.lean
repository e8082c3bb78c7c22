/- Part 30. -/
import Derived.Test.YtjnjpagegkcgfaaGreatDoorCosA28
set_option maxRecDepth 1000000
set_option maxHeartbeats 16000000
set_option linter.unusedSimpArgs false
set_option linter.unusedVariables false
open Go.Value renaming int->O,slice->X
open Go.IntKind renaming i64->Y
open Option renaming none->Z
namespace Go.Proofs.YtjnjpagegkcgfaaGreatDoor.Cop
section
open Go.RowKit Go.Shelf
attribute [local go_sem] Oper.semAt_some
theorem ziB(w:World)(vg vs:Value)(ps:List Pl)(a:Nat)(p:Pl)(b aj:Int)(hg:∃a n c,vg=X a n c)(P:IsLas w vs ps)(ha:ps[a]?=some p)(g:Nat)(ac:b=(g:Int))(q:Pl)(hq:ps[g]?=some q)(R:meetB p q=false)(af:(a:Int)≠b) :
  Calls Tryz.prog 72 #[.agg #[vg,vs],O Y a,O Y b,O Y aj] w (RetBe w Z):=by
 subst ac;obtain⟨ga,gn,gc,rfl⟩:=hg;obtain⟨sa,n,sc,rfl⟩:=form3 P;have hl:=P.len;have ae:=P.le;obtain⟨j,o,s,vl,vu,rfl,aM,d1,d2,d3,k⟩:=P.at' ha;obtain⟨t,D,y,rfl⟩:=form3 d1;obtain⟨ag,ai,ah,rfl⟩:=form3 d2;obtain⟨au,aw,av,rfl⟩:=form3 d3;have hi:=(lS.1 ha).1;have p1:(0:Int)<=(a:Int):=oM
 have p2:(a:Int)<(n:Int):=oM
 have p3:a<n:=oM
 have T:=k 0 (.string p.name) rfl;have aD:=k 1 (X t D y) rfl;have aE:=k 2 (O Y p.depth) rfl;have aF:=k 3 (O Y p.density) rfl;have aG:=k 4 (O Y p.gx) rfl;have aH:=k 5 (O Y p.gz) rfl;have aI:=k 6 (O Y p.way) rfl;have aJ:=k 7 (O Y p.ax) rfl;have aK:=k 8 (O Y p.az) rfl;have aL:=k 9 (O .u8 p.skin) rfl;have ay:=k 10 (X ag ai ah) rfl;have aA:=k 11 (X au aw av) rfl;simp only[Nat.add_zero]at T;have aR:((a:Int)==(g:Int))=false:=by simpa using af
 obtain⟨b1,o1,s',a2,a3,e9,aO,Q,aa,ab,d⟩:=P.at' hq
 cases e9
 have aQ:(0:Int)<=(g:Int):=oM
 have aP:decide ((0:Int)<=(g:Int))=true:=sM
 have aB:j<w.heap.size+1:=oM
 have aC:j<w.heap.size+1+1:=oM
 obtain⟨x,L,z,rfl⟩:=form3 Q;have ad:=(lS.1 hq).1;have r2:(g:Int)<(n:Int):=oM
 have r4:g<n:=oM
 have ak:=d 0 (.string q.name) rfl;have aT:=d 1 (X x L z) rfl;have aU:=d 2 (O Y q.depth) rfl;have aV:=d 3 (O Y q.density) rfl;have aW:=d 4 (O Y q.gx) rfl;have aX:=d 5 (O Y q.gz) rfl;have aY:=d 6 (O Y q.way) rfl;have aZ:=d 7 (O Y q.ax) rfl;have a0:=d 8 (O Y q.az) rfl;have a1:=d 9 (O .u8 q.skin) rfl;simp only[Nat.add_zero]at ak;have l:=hd9 (fun(W:World)=>zbY W p q (X t D y) (X x L z) ⟨_,_,_,rfl⟩ ⟨_,_,_,rfl⟩);rw[R]at l;unfold plc at l;clear P ha k d hq R Q aa ab ad d1 d2 d3 hl ae hi;go_enter Tryz.func72,Tryz.ntmps72;go_wp2;refine wp_region_held_drew (S:=CellL [(⟨w.heap.size+1+1,0,Z⟩,.string p.name),(⟨w.heap.size+1+1,1,Z⟩,X t D y),(⟨w.heap.size+1+1,2,Z⟩,O Y p.depth),(⟨w.heap.size+1+1,3,Z⟩,O Y p.density),(⟨w.heap.size+1+1,4,Z⟩,O Y p.gx),(⟨w.heap.size+1+1,5,Z⟩,O Y p.gz),(⟨w.heap.size+1+1,6,Z⟩,O Y p.way),(⟨w.heap.size+1+1,7,Z⟩,O Y p.ax),(⟨w.heap.size+1+1,8,Z⟩,O Y p.az),(⟨w.heap.size+1+1,9,Z⟩,O .u8 p.skin),(⟨w.heap.size,1,Z⟩,X (some ⟨j,o,Z⟩) n sc),(⟨j,o+g*12,Z⟩,.string q.name),(⟨j,o+g*12+1,Z⟩,X x L z),(⟨j,o+g*12+2,Z⟩,O Y q.depth),(⟨j,o+g*12+3,Z⟩,O Y q.density),(⟨j,o+g*12+4,Z⟩,O Y q.gx),(⟨j,o+g*12+5,Z⟩,O Y q.gz),(⟨j,o+g*12+6,Z⟩,O Y q.way),(⟨j,o+g*12+7,Z⟩,O Y q.ax),(⟨j,o+g*12+8,Z⟩,O Y q.az),(⟨j,o+g*12+9,Z⟩,O .u8 q.skin)]) kM cA (fun m=>?_);refine sN 0 ?_
 iterate 15
  refine tkn ?_
 refine oN ?_;refine cl1 (i:=15) fun K hK=>?_
 go_simp
 (with_reducible refine cM (l.out _) ?_)
 rintro e w3 ⟨rfl,r⟩
 skip
 go_wp2_with fail
 refine kO hK (cE m r) (fun m=>?_);clear hK K;refine sN 16 ?_
 iterate 3
  refine tkn ?_
 refine oN ?_;refine wpAnyH_done kM ?_ _;have X3:Ext w w3:=((((eR w).alloc _).alloc _).alloc _).drew.trans r;have f:w3.heap[w.heap.size+1]?=some (.cells be0 79 (0,0)):=r.heapS ((((eR _).alloc _).drew).heapS (qhA _ _ _ sM));have aS:∀i,w3.frozen? ⟨w.heap.size+1,i,Z⟩=false:=fun i=>qfB f i
 have u0:=qcB f (i:=0) (u:=O Y 0) rfl;have u1:=qcB f (i:=1) (u:=X Z 0 0) rfl;have u2:=qcB f (i:=2) (u:=.bool false) rfl;have u3:=qcB f (i:=3) (u:=X Z 0 0) rfl;have u4:=qcB f (i:=4) (u:=X Z 0 0) rfl;have u5:=qcB f (i:=5) (u:=.bool false) rfl;have u6:=qcB f (i:=6) (u:=X Z 0 0) rfl;have u7:=qcB f (i:=7) (u:=X Z 0 0) rfl;have u8:=qcB f (i:=8) (u:=.bool false) rfl;have u9:=qcB f (i:=9) (u:=X Z 0 0) rfl;have al:=qcB f (i:=10) (u:=X Z 0 0) rfl;have am:=qcB f (i:=11) (u:=.bool false) rfl;have an:=qcB f (i:=12) (u:=X Z 0 0) rfl;have ao:=qcB f (i:=13) (u:=O Y 0) rfl;have ap:=qcB f (i:=14) (u:=O Y 0) rfl;have aq:=qcB f (i:=15) (u:=O Y 0) rfl;have ar:=qcB f (i:=16) (u:=O Y 0) rfl;clear m;have a4:=zaa f;go_wp2;refine bR (v:=.tuple #[.agg be0,.bool false]) (by unfold be0;simp[results,Tryz.results72,go_sem,u0,u1,u2,u3,u4,u5,u6,u7,u8,u9,al,am,an,ao,ap,aq,ar]) rfl ?_;exact⟨eA,.inl ⟨rfl,rfl⟩⟩
end
end Go.Proofs.YtjnjpagegkcgfaaGreatDoor.Cop
