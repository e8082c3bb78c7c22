/- Part 35: contracts of what the law calls. -/
import Derived.Test.YtjnjpagegkcgfaaGreatDoorCopA32
set_option maxRecDepth 1000000
set_option maxHeartbeats 16000000
set_option linter.unusedSimpArgs false
set_option linter.unusedVariables false
open Go.Value renaming int→O,slice→X
open Go.IntKind renaming i64→Y
open Option renaming none→Z
namespace Go.Proofs.YtjnjpagegkcgfaaGreatDoor.Cop
section
open Go.RowKit Go.Shelf
attribute [local go_sem] Oper.semAt_some
theorem ziS (w:World) (vg vs:Value) (ps:List Pl) (a:Nat) (p:Pl) (b ai:Int) (hg:∃a n c,vg=X a n c) (L:IsLas w vs ps) (ha:ps[a]?=some p) (g:Nat) (ab:b=(g:Int)) (q:Pl) (hq:ps[g]?=some q) (Q:meetB p q=false) (ae:(a:Int)≠b) :
  Calls Tryz.prog 72 #[.agg #[vg,vs],O Y a,O Y b,O Y ai] w (RetBe w Z):=by
 subst ab;obtain⟨ga,gn,gc,rfl⟩:=hg;obtain⟨sa,n,sc,rfl⟩:=form3 L;have hl:=L.len;have ad:=L.le;obtain⟨h,o,s,vl,vu,rfl,aL,d1,d2,d3,j⟩:=L.at' ha;obtain⟨r,z,x,rfl⟩:=form3 d1;obtain⟨af,ah,ag,rfl⟩:=form3 d2;obtain⟨ar,av,au,rfl⟩:=form3 d3;have hi:=(lS.1 ha).1;have p1:(0:Int)≤(a:Int):=oM
 have p2:(a:Int)<(n:Int):=oM
 have p3:a<n:=oM
 have R:=j 0 (.string p.name) rfl;have aC:=j 1 (X r z x) rfl;have aD:=j 2 (O Y p.depth) rfl;have aE:=j 3 (O Y p.density) rfl;have aF:=j 4 (O Y p.gx) rfl;have aG:=j 5 (O Y p.gz) rfl;have aH:=j 6 (O Y p.way) rfl;have aI:=j 7 (O Y p.ax) rfl;have aJ:=j 8 (O Y p.az) rfl;have aK:=j 9 (O .u8 p.skin) rfl;have aw:=j 10 (X af ah ag) rfl;have ay:=j 11 (X ar av au) rfl;simp only [Nat.add_zero]at R;have aQ:((a:Int)==(g:Int))=false:=by simpa using ae
 obtain⟨b1,o1,s',a1,a2,e9,aM,P,T,aa,d⟩:=L.at' hq
 cases e9
 have aP:(0:Int)≤(g:Int):=oM
 have aO:decide ((0:Int)≤(g:Int))=true:=sM
 have aA:h<w.heap.size+1:=oM
 have aB:h<w.heap.size+1+1:=oM
 obtain⟨t,D,y,rfl⟩:=form3 P;have ac:=(lS.1 hq).1;have r2:(g:Int)<(n:Int):=oM
 have r4:g<n:=oM
 have aj:=d 0 (.string q.name) rfl;have aS:=d 1 (X t D y) rfl;have aT:=d 2 (O Y q.depth) rfl;have aU:=d 3 (O Y q.density) rfl;have aV:=d 4 (O Y q.gx) rfl;have aW:=d 5 (O Y q.gz) rfl;have aX:=d 6 (O Y q.way) rfl;have aY:=d 7 (O Y q.ax) rfl;have aZ:=d 8 (O Y q.az) rfl;have a0:=d 9 (O .u8 q.skin) rfl;simp only [Nat.add_zero]at aj;have k:=hd9 (fun(W:World)=>zce W p q (X r z x) (X t D y) ⟨_,_,_,rfl⟩ ⟨_,_,_,rfl⟩);rw [Q]at k;unfold plc at k;clear L ha j d hq Q P T aa ac d1 d2 d3 hl ad hi;go_enter Tryz.func72,Tryz.ntmps72;go_wp2;refine wp_region_held_drew (S:=CellL [(⟨w.heap.size+1+1,0,Z⟩,.string p.name),(⟨w.heap.size+1+1,1,Z⟩,X r z x),(⟨w.heap.size+1+1,2,Z⟩,O Y p.depth),(⟨w.heap.size+1+1,3,Z⟩,O Y p.density),(⟨w.heap.size+1+1,4,Z⟩,O Y p.gx),(⟨w.heap.size+1+1,5,Z⟩,O Y p.gz),(⟨w.heap.size+1+1,6,Z⟩,O Y p.way),(⟨w.heap.size+1+1,7,Z⟩,O Y p.ax),(⟨w.heap.size+1+1,8,Z⟩,O Y p.az),(⟨w.heap.size+1+1,9,Z⟩,O .u8 p.skin),(⟨w.heap.size,1,Z⟩,X (some ⟨h,o,Z⟩) n sc),(⟨h,o+g*12,Z⟩,.string q.name),(⟨h,o+g*12+1,Z⟩,X t D y),(⟨h,o+g*12+2,Z⟩,O Y q.depth),(⟨h,o+g*12+3,Z⟩,O Y q.density),(⟨h,o+g*12+4,Z⟩,O Y q.gx),(⟨h,o+g*12+5,Z⟩,O Y q.gz),(⟨h,o+g*12+6,Z⟩,O Y q.way),(⟨h,o+g*12+7,Z⟩,O Y q.ax),(⟨h,o+g*12+8,Z⟩,O Y q.az),(⟨h,o+g*12+9,Z⟩,O .u8 q.skin)]) kM cA (fun l=>?_);refine sN 0 ?_
 iterate 15
  refine tkn ?_
 refine oN ?_;refine cl1 (i:=15) fun K hK=>?_
 go_simp
 (with_reducible refine cM (k.out _) ?_)
 rintro e w3 ⟨rfl,m⟩
 skip
 go_wp2_with fail
 refine kO hK (cE l m) (fun l=>?_);clear hK K;refine sN 16 ?_
 iterate 3
  refine tkn ?_
 refine oN ?_;refine wpAnyH_done kM ?_ _;have X3:Ext w w3:=((((eR w).alloc _).alloc _).alloc _).drew.trans m;have f:w3.heap[w.heap.size+1]?=some (.cells be0 79 (0,0)):=m.heapS ((((eR _).alloc _).drew).heapS (qhA _ _ _ sM));have aR:∀i,w3.frozen? ⟨w.heap.size+1,i,Z⟩=false:=fun i=>qfB f i
 have u0:=qcB f (i:=0) (u:=O Y 0) rfl;have u1:=qcB f (i:=1) (u:=X Z 0 0) rfl;have u2:=qcB f (i:=2) (u:=.bool false) rfl;have u3:=qcB f (i:=3) (u:=X Z 0 0) rfl;have u4:=qcB f (i:=4) (u:=X Z 0 0) rfl;have u5:=qcB f (i:=5) (u:=.bool false) rfl;have u6:=qcB f (i:=6) (u:=X Z 0 0) rfl;have u7:=qcB f (i:=7) (u:=X Z 0 0) rfl;have u8:=qcB f (i:=8) (u:=.bool false) rfl;have u9:=qcB f (i:=9) (u:=X Z 0 0) rfl;have ak:=qcB f (i:=10) (u:=X Z 0 0) rfl;have al:=qcB f (i:=11) (u:=.bool false) rfl;have am:=qcB f (i:=12) (u:=X Z 0 0) rfl;have an:=qcB f (i:=13) (u:=O Y 0) rfl;have ao:=qcB f (i:=14) (u:=O Y 0) rfl;have ap:=qcB f (i:=15) (u:=O Y 0) rfl;have aq:=qcB f (i:=16) (u:=O Y 0) rfl;clear l;have a3:=zaa f;go_wp2;refine bR (v:=.tuple #[.agg be0,.bool false]) (by unfold be0;simp [results,Tryz.results72,go_sem,u0,u1,u2,u3,u4,u5,u6,u7,u8,u9,ak,al,am,an,ao,ap,aq]) rfl ?_;exact⟨eA,.inl ⟨rfl,rfl⟩⟩
end
end Go.Proofs.YtjnjpagegkcgfaaGreatDoor.Cop
