/- Part 22: contracts of what the law calls. -/
import Derived.Test.YtodpfeaihohpjaaGreatDoorCopA19
set_option maxRecDepth 1000000
set_option maxHeartbeats 16000000
set_option linter.unusedSimpArgs false
set_option linter.unusedVariables false
open Go.Value renaming int→O,slice→X
open Go.IntKind renaming i64→Y
open Option renaming none→Z
namespace Go.Proofs.YtodpfeaihohpjaaGreatDoor.Cop
section
open Go.RowKit Go.Shelf
attribute [local go_sem] Oper.semAt_some
theorem ziy (w:World) (vg vs:Value) (ps:List Pl) (a:Nat) (p:Pl) (b pin:Int) (hg:∃a n c,vg=X a n c) (hs:IsLas w vs ps) (ha:ps[a]?=some p) (jb:Nat) (hbj:b=(jb:Int)) (q:Pl) (hq:ps[jb]?=some q) (hmt:meetB p q=false) (hne:(a:Int)≠b) :
  Calls Tryz.prog 58 #[.agg #[vg,vs],O Y a,O Y b,O Y pin] w (RetBe w Z):=by
 subst hbj;obtain⟨ga,gn,gc,rfl⟩:=hg;obtain⟨sa,n,sc,rfl⟩:=form3 hs;have hl:=hs.len;have hle:=hs.le;obtain⟨b0,o,s,vl,vu,rfl,hb0,d1,d2,d3,hc⟩:=hs.at' ha;obtain⟨sa1,sn1,sc1,rfl⟩:=form3 d1;obtain⟨la1,ln1,lc1,rfl⟩:=form3 d2;obtain⟨ua1,un1,uc1,rfl⟩:=form3 d3;have hi:=(lS.1 ha).1;have p1:(0:Int)≤(a:Int):=by omega
 have p2:(a:Int)<(n:Int):=by omega
 have p3:a<n:=by omega
 have cc0:=hc 0 (.string p.name) rfl;have cc1:=hc 1 (X sa1 sn1 sc1) rfl;have cc2:=hc 2 (O Y p.depth) rfl;have cc3:=hc 3 (O Y p.density) rfl;have cc4:=hc 4 (O Y p.gx) rfl;have cc5:=hc 5 (O Y p.gz) rfl;have cc6:=hc 6 (O Y p.way) rfl;have cc7:=hc 7 (O Y p.ax) rfl;have cc8:=hc 8 (O Y p.az) rfl;have cc9:=hc 9 (O .u8 p.skin) rfl;have cc10:=hc 10 (X la1 ln1 lc1) rfl;have cc11:=hc 11 (X ua1 un1 uc1) rfl;simp only [Nat.add_zero]at cc0;have hnb:((a:Int)==(jb:Int))=false:=by simpa using hne
 obtain⟨b1,o1,s',vl',vu',e9,hb1,d1',d2',d3',hc'⟩:=hs.at' hq
 cases e9
 have hb9:(0:Int)≤(jb:Int):=by omega
 have hb8:decide ((0:Int)≤(jb:Int))=true:=by simp
 have hbz1:b0<w.heap.size+1:=by omega
 have hbz2:b0<w.heap.size+1+1:=by omega
 obtain⟨sa2,sn2,sc2,rfl⟩:=form3 d1';have hiq:=(lS.1 hq).1;have r2:(jb:Int)<(n:Int):=by omega
 have r4:jb<n:=by omega
 have qq0:=hc' 0 (.string q.name) rfl;have qq1:=hc' 1 (X sa2 sn2 sc2) rfl;have qq2:=hc' 2 (O Y q.depth) rfl;have qq3:=hc' 3 (O Y q.density) rfl;have qq4:=hc' 4 (O Y q.gx) rfl;have qq5:=hc' 5 (O Y q.gz) rfl;have qq6:=hc' 6 (O Y q.way) rfl;have qq7:=hc' 7 (O Y q.ax) rfl;have qq8:=hc' 8 (O Y q.az) rfl;have qq9:=hc' 9 (O .u8 q.skin) rfl;simp only [Nat.add_zero]at qq0;have HMt:=hd9 (fun(W:World)=>zb9 W p q (X sa1 sn1 sc1) (X sa2 sn2 sc2) ⟨_,_,_,rfl⟩ ⟨_,_,_,rfl⟩);rw [hmt]at HMt;unfold plc at HMt;clear hs ha hc hc' hq hmt d1' d2' d3' hiq d1 d2 d3 hl hle hi;go_enter Tryz.func58,Tryz.ntmps58;go_wp2;refine wp_region_held_drew (S:=CellL [(⟨w.heap.size+1+1,0,Z⟩,.string p.name),(⟨w.heap.size+1+1,1,Z⟩,X sa1 sn1 sc1),(⟨w.heap.size+1+1,2,Z⟩,O Y p.depth),(⟨w.heap.size+1+1,3,Z⟩,O Y p.density),(⟨w.heap.size+1+1,4,Z⟩,O Y p.gx),(⟨w.heap.size+1+1,5,Z⟩,O Y p.gz),(⟨w.heap.size+1+1,6,Z⟩,O Y p.way),(⟨w.heap.size+1+1,7,Z⟩,O Y p.ax),(⟨w.heap.size+1+1,8,Z⟩,O Y p.az),(⟨w.heap.size+1+1,9,Z⟩,O .u8 p.skin),(⟨w.heap.size,1,Z⟩,X (some ⟨b0,o,Z⟩) n sc),(⟨b0,o+jb*12,Z⟩,.string q.name),(⟨b0,o+jb*12+1,Z⟩,X sa2 sn2 sc2),(⟨b0,o+jb*12+2,Z⟩,O Y q.depth),(⟨b0,o+jb*12+3,Z⟩,O Y q.density),(⟨b0,o+jb*12+4,Z⟩,O Y q.gx),(⟨b0,o+jb*12+5,Z⟩,O Y q.gz),(⟨b0,o+jb*12+6,Z⟩,O Y q.way),(⟨b0,o+jb*12+7,Z⟩,O Y q.ax),(⟨b0,o+jb*12+8,Z⟩,O Y q.az),(⟨b0,o+jb*12+9,Z⟩,O .u8 q.skin)]) (by kernel_rfl) cA (fun h9H=>?_);refine sN 0 ?_
 iterate 15
  refine tkn ?_
 refine oN ?_;refine cl1 (i:=15) fun K hK=>?_
 go_simp
 (with_reducible refine cM (HMt.out _) ?_)
 rintro e w3 ⟨rfl,hx3⟩
 skip
 go_wp2_with fail
 refine kO hK (cE h9H hx3) (fun h9H=>?_);clear hK K;refine sN 16 ?_
 iterate 3
  refine tkn ?_
 refine oN ?_;refine wpAnyH_done (by kernel_rfl) ?_ _;have X3:Ext w w3:=((((eR w).alloc _).alloc _).alloc _).drew.trans hx3;have K8:w3.heap[w.heap.size+1]?=some (.cells be0 69 (0,0)):=hx3.heapS ((((eR _).alloc _).drew).heapS (qhA _ _ _ (by simp)));have hz8:∀i,w3.frozen? ⟨w.heap.size+1,i,Z⟩=false:=fun i=>qfB K8 i
 have u0:=qcB K8 (i:=0) (u:=O Y 0) rfl;have u1:=qcB K8 (i:=1) (u:=X Z 0 0) rfl;have u2:=qcB K8 (i:=2) (u:=.bool false) rfl;have u3:=qcB K8 (i:=3) (u:=X Z 0 0) rfl;have u4:=qcB K8 (i:=4) (u:=X Z 0 0) rfl;have u5:=qcB K8 (i:=5) (u:=.bool false) rfl;have u6:=qcB K8 (i:=6) (u:=X Z 0 0) rfl;have u7:=qcB K8 (i:=7) (u:=X Z 0 0) rfl;have u8:=qcB K8 (i:=8) (u:=.bool false) rfl;have u9:=qcB K8 (i:=9) (u:=X Z 0 0) rfl;have u10:=qcB K8 (i:=10) (u:=X Z 0 0) rfl;have u11:=qcB K8 (i:=11) (u:=.bool false) rfl;have u12:=qcB K8 (i:=12) (u:=X Z 0 0) rfl;have u13:=qcB K8 (i:=13) (u:=O Y 0) rfl;have u14:=qcB K8 (i:=14) (u:=O Y 0) rfl;have u15:=qcB K8 (i:=15) (u:=O Y 0) rfl;have u16:=qcB K8 (i:=16) (u:=O Y 0) rfl;clear h9H;have zb8:=zaa K8;go_wp2;refine bR (v:=.tuple #[.agg be0,.bool false]) (by unfold be0;simp [results,Tryz.results58,go_sem,u0,u1,u2,u3,u4,u5,u6,u7,u8,u9,u10,u11,u12,u13,u14,u15,u16]) rfl ?_;exact⟨eA,.inl ⟨rfl,rfl⟩⟩
end
end Go.Proofs.YtodpfeaihohpjaaGreatDoor.Cop
