/- Part 41: contracts of what the law calls. -/
import Derived.Test.YteipgejmhfpkaaaGreatDoorCopA34
import Derived.Test.YteipgejmhfpkaaaGreatDoorCopA29
import Derived.Test.YteipgejmhfpkaaaGreatDoorCopA39
import Derived.Test.YteipgejmhfpkaaaGreatDoorCopA05
import Derived.ProofKit
import Derived.Deep.Slices
set_option maxRecDepth 1000000
set_option maxHeartbeats 16000000
set_option linter.unusedSimpArgs false
set_option linter.unusedVariables false
open Go.Value renaming int→O,slice→Z
open Go.IntKind renaming i64→Y,u8→I
open Go.Obj renaming cells→X
open Option renaming none→V,some→J
namespace Go.Proofs.YteipgejmhfpkaaaGreatDoor.Cop
section
open Go.RowKit Go.Shelf Go.Sort Go.Lib
theorem zkh {r:Ru} {L L7:List Jt} {rs:List Int} {b fb:Bool} (h7:L7=L) (h:b=true ↔ rs.length=L7.length∧PrvP r L7 rs) (hf:fb=true ↔ ∃k,k<L.length∧r.run<hgt L rs k) (hl:rs.length=L.length) (hrs:rs=rootsP r L L.length):b=!fb:=by
 subst h7;have h1:=zm6 (r:=r) (L:=L7);rw [←hrs]at h1
 cases fb with
 | true =>
  cases b with
  | false=>rfl
  | true=>exact absurd (hf.1 rfl) (h1.1 (h.1 rfl).2)
 | false =>
  rw [h.2 ⟨hl,h1.2 (fun h9=>by have:=hf.2 h9;cases this)⟩];rfl
theorem zmH {g:List (Int×Int)} {ps:List Pl} {r:Ru} {l:List Fd} {ks:List (JS×Value)} {L:List Jt} {rs:List Int} (h:FdsOf g ps r l) (sv:SvP r ps ks L rs):runB l=true ↔ ∃k,k<L.length∧r.run<hgt L rs k:=by
 obtain⟨ks2,L2,rs2,o,sv2,_,rfl⟩:=h;obtain⟨rfl,_⟩:=zf8 sv sv2 rfl rfl;obtain rfl:rs2=rs:=by rw [sv2.roots,sv.roots]
 exact zih (zhn _ _ _ _) (zhq _ _) (zhs _ _ _ _ _)
theorem zlS (w:World) (vg vp:Value) (g:List (Int×Int)) (ps:List Pl) (r:Ru) (hg:IsPr w vg g) (hp:IsWr w vp ps) (hgw:Gw w) :
  Calls Tryz.prog 6 #[.agg #[vg,vp],.agg (ruc r)] w fun e w'=>e = .returned (.bool true)∧Ext w w':=by
 have HF:=hd9 (fun(W:World) (hW:Ext w W)=>zmJ W vg vp g ps (hg.ext' hW) (hp.ext' hW));have HW:=hd9 (fun(hf:fewB g ps=true) (W:World) (hW:Ext w W)=>zkN W vg vp g ps (hg.ext' hW) (hp.ext' hW) (zgi hf).1 (by have:=(zgi hf).2.1;omega) (zgi hf).2.2);have HA:=hd9 (fun(W:World) (hW:Ext w W)=>ziM W (hgw.ext hW));have HG:=hd9 hgw;obtain⟨ga,gc,rfl⟩:=hg.form;obtain⟨pa,pc1,rfl⟩:=hp.form;obtain⟨gn,hgn⟩:=gX g.length;obtain⟨pn,hpn⟩:=gX ps.length;rw [hgn,hpn]at HF HW ⊢;clear hg hp hgw hgn hpn;obtain⟨sk,pin,wide,lap,step,run,level⟩:=r;unfold ruc;dsimp only
 cases hfew:fewB g ps with
 | false =>
  rw [hfew]at HF;clear HW;go_enter Tryz.func6,Tryz.ntmps6
  go_wp2_with(first|(go_at_call 8;(with_reducible refine(HF.out _ ?_).mono ?_);exact eA;rintro e w1 ⟨rfl,hx1⟩;have X1:Ext w w1:=eA)|(go_at_call 9;(with_reducible refine(HA.out _ X1).mono ?_);rintro e w2 ⟨rfl,hx2⟩))
  go_ret;exact⟨rfl,X1.trans hx2⟩
 | true =>
  rw [hfew]at HF;have HW:=hd9 (HW.out hfew);clear hfew;go_enter Tryz.func6,Tryz.ntmps6
  go_upto_region 3 with (go_at_call 8;(with_reducible refine(HF.out _ ?_).mono ?_);exact eA;rintro e w1 ⟨rfl,hx1⟩;have X1:Ext w w1:=eA;obtain⟨⟨hc1,hf1⟩,z1_0,z1_1⟩:=cK2 w hx1)
  go_cut [5,6] (WRu w g ps ⟨sk,pin,wide,lap,step,run,level⟩)
  case first =>
   refine zap (fun i=>decide (5<i)) (CellL [(⟨w.heap.size,0,V⟩,Z ga gn gc),(⟨w.heap.size,1,V⟩,Z pa pn pc1),(⟨w.heap.size+1,0,V⟩,O I sk),(⟨w.heap.size+1,1,V⟩,O Y pin),(⟨w.heap.size+1,2,V⟩,O Y wide),(⟨w.heap.size+1,3,V⟩,O Y lap),(⟨w.heap.size+1,4,V⟩,O Y step),(⟨w.heap.size+1,5,V⟩,O Y run),(⟨w.heap.size+1,6,V⟩,O Y level)]) (by kernel_rfl) ?_ (fun h9H=>?_)
   ·exact cA
   refine tu1 (i:=0) ?_;refine tu1 (i:=2) ?_;have H0:=CellL.undrew h9H;have zd:=X1.size;refine callHU3 (i:=1) (j:=3) (k:=4) (fun K hK=>?h1) (fun K hK=>?h3) (fun K hK=>?h4)
   case h1 =>
    go_simp
    (with_reducible refine cM (HW.out _ eA) ?_)
    rintro e w2 ⟨vg2,vp2,rfl,hg2,ho2,hx2⟩;obtain⟨ga2,gn2,gc2,rfl⟩:=form3 hg2
    go_wp2_with fail
    refine kO hK (fun _=>cE h9H hx2) (fun h9H=>?_);clear hK K;have h9H:=h9H rfl;obtain⟨pa2,pn2,pc2,rfl⟩:=form3 ho2.pls;have z2:=hx2.size;simp only [wZ,qdZ]at z2;refine callHU2 (i:=3) (j:=4) (fun K hK=>?f1a) (fun K hK=>?f2a)
    case f1a =>
     go_simp;refine kO hK (fun _=>cE h9H ((eR _).alloc _)) (fun h9H=>?_);clear hK K;have h9H:=h9H rfl;refine cu1 (i:=4) fun K hK=>?_
     go_simp;refine kO hK (fun _=>cE h9H ((eR _).alloc _)) (fun h9H=>?_);clear hK K;have h9H:=h9H rfl;have hE:Ext w2 ((w2.alloc (X #[Z V 0 0,Z V 0 0] 33)).alloc (X #[O I 0,O Y 0,O Y 0,O Y 0,O Y 0,O Y 0,O Y 0] 35)):=eA;have q5:((w2.alloc (X #[Z V 0 0,Z V 0 0] 33)).alloc (X #[O I 0,O Y 0,O Y 0,O Y 0,O Y 0,O Y 0,O Y 0] 35)).heap[w2.heap.size]?=J (X #[Z V 0 0,Z V 0 0] 33 (0,0)):=(((eR _).alloc _).heapS (qhA _ _ _ rfl));have q6:((w2.alloc (X #[Z V 0 0,Z V 0 0] 33)).alloc (X #[O I 0,O Y 0,O Y 0,O Y 0,O Y 0,O Y 0,O Y 0] 35)).heap[w2.heap.size+1]?=J (X #[O I 0,O Y 0,O Y 0,O Y 0,O Y 0,O Y 0,O Y 0] 35 (0,0)):=(qhA _ _ _ (by simp));have hF:Ext w1 ((w2.alloc (X #[Z V 0 0,Z V 0 0] 33)).alloc (X #[O I 0,O Y 0,O Y 0,O Y 0,O Y 0,O Y 0,O Y 0] 35)):=eA;obtain⟨W9,hW9⟩:=gX (((w2.alloc (X #[Z V 0 0,Z V 0 0] 33)).alloc (X #[O I 0,O Y 0,O Y 0,O Y 0,O Y 0,O Y 0,O Y 0] 35)));rw [hW9]at hE q5 q6 hF h9H ⊢;have hb5:w1.heap.size≤w2.heap.size:=by omega
     have n5:(w2.heap.size)≠(w2.heap.size+1):=by omega
     have nf5:=qfB q5;have nf6:=qfB q6;have n50:=qcB q5 (i:=0) (u:=Z V 0 0) rfl;have n51:=qcB q5 (i:=1) (u:=Z V 0 0) rfl;have n60:=qcB q6 (i:=0) (u:=O I 0) rfl;have n61:=qcB q6 (i:=1) (u:=O Y 0) rfl;have n62:=qcB q6 (i:=2) (u:=O Y 0) rfl;have n63:=qcB q6 (i:=3) (u:=O Y 0) rfl;have n64:=qcB q6 (i:=4) (u:=O Y 0) rfl;have n65:=qcB q6 (i:=5) (u:=O Y 0) rfl;have n66:=qcB q6 (i:=6) (u:=O Y 0) rfl;refine cu1 (i:=5) fun K hK=>?_
     go_simp;refine kO hK (fun _=>cE H0 (hF.set2 hb5 _ _)) (fun h9H=>?_);clear hK K;refine cu1 (i:=6) fun K hK=>?_
     go_simp;refine kO hK (fun h=>nomatch h) (fun h9H=>?_);clear hK K;refine doneHU (by kernel_rfl) ?_ _;clear h9H H0;go_wp2;go_meet;refine zeQ (r:=⟨sk,pin,wide,lap,step,run,level⟩) ?_ ?_ ?_ q5 q6 (hg2.ext' hE) (ho2.extM hE) ?_ (X1.trans hF) rfl
     ·omega
     ·omega
     ·omega
     ·simp only [wZ,qdZ]
      omega
    case f2a =>
     go_simp;refine kO hK (fun _=>cE h9H ((eR _).alloc _)) (fun h9H=>?_);clear hK K;have h9H:=h9H rfl;refine cu1 (i:=3) fun K hK=>?_
     go_simp;refine kO hK (fun _=>cE h9H ((eR _).alloc _)) (fun h9H=>?_);clear hK K;have h9H:=h9H rfl;have hE:Ext w2 ((w2.alloc (X #[O I 0,O Y 0,O Y 0,O Y 0,O Y 0,O Y 0,O Y 0] 35)).alloc (X #[Z V 0 0,Z V 0 0] 33)):=eA;have q5:((w2.alloc (X #[O I 0,O Y 0,O Y 0,O Y 0,O Y 0,O Y 0,O Y 0] 35)).alloc (X #[Z V 0 0,Z V 0 0] 33)).heap[w2.heap.size+1]?=J (X #[Z V 0 0,Z V 0 0] 33 (0,0)):=(qhA _ _ _ (by simp));have q6:((w2.alloc (X #[O I 0,O Y 0,O Y 0,O Y 0,O Y 0,O Y 0,O Y 0] 35)).alloc (X #[Z V 0 0,Z V 0 0] 33)).heap[w2.heap.size]?=J (X #[O I 0,O Y 0,O Y 0,O Y 0,O Y 0,O Y 0,O Y 0] 35 (0,0)):=(((eR _).alloc _).heapS (qhA _ _ _ rfl));have hF:Ext w1 ((w2.alloc (X #[O I 0,O Y 0,O Y 0,O Y 0,O Y 0,O Y 0,O Y 0] 35)).alloc (X #[Z V 0 0,Z V 0 0] 33)):=eA;obtain⟨W9,hW9⟩:=gX (((w2.alloc (X #[O I 0,O Y 0,O Y 0,O Y 0,O Y 0,O Y 0,O Y 0] 35)).alloc (X #[Z V 0 0,Z V 0 0] 33)));rw [hW9]at hE q5 q6 hF h9H ⊢;have hb5:w1.heap.size≤w2.heap.size+1:=by omega
     have n5:(w2.heap.size+1)≠(w2.heap.size):=by omega
     have nf5:=qfB q5;have nf6:=qfB q6;have n50:=qcB q5 (i:=0) (u:=Z V 0 0) rfl;have n51:=qcB q5 (i:=1) (u:=Z V 0 0) rfl;have n60:=qcB q6 (i:=0) (u:=O I 0) rfl;have n61:=qcB q6 (i:=1) (u:=O Y 0) rfl;have n62:=qcB q6 (i:=2) (u:=O Y 0) rfl;have n63:=qcB q6 (i:=3) (u:=O Y 0) rfl;have n64:=qcB q6 (i:=4) (u:=O Y 0) rfl;have n65:=qcB q6 (i:=5) (u:=O Y 0) rfl;have n66:=qcB q6 (i:=6) (u:=O Y 0) rfl;refine cu1 (i:=5) fun K hK=>?_
     go_simp;refine kO hK (fun _=>cE H0 (hF.set2 hb5 _ _)) (fun h9H=>?_);clear hK K;refine cu1 (i:=6) fun K hK=>?_
     go_simp;refine kO hK (fun h=>nomatch h) (fun h9H=>?_);clear hK K;refine doneHU (by kernel_rfl) ?_ _;clear h9H H0;go_wp2;go_meet;refine zeQ (r:=⟨sk,pin,wide,lap,step,run,level⟩) ?_ ?_ ?_ q5 q6 (hg2.ext' hE) (ho2.extM hE) ?_ (X1.trans hF) rfl
     ·omega
     ·omega
     ·omega
     ·simp only [wZ,qdZ]
      omega
   case h3 =>
    go_simp;refine kO hK (fun _=>cE h9H ((eR _).alloc _)) (fun h9H=>?_);clear hK K;have h9H:=h9H rfl;refine callHU2 (i:=1) (j:=4) (fun K hK=>?f1b) (fun K hK=>?f2b)
    case f1b =>
     go_simp
     (with_reducible refine cM (HW.out _ eA) ?_)
     rintro e w2 ⟨vg2,vp2,rfl,hg2,ho2,hx2⟩;obtain⟨ga2,gn2,gc2,rfl⟩:=form3 hg2
     go_wp2_with fail
     refine kO hK (fun _=>cE h9H hx2) (fun h9H=>?_);clear hK K;have h9H:=h9H rfl;obtain⟨pa2,pn2,pc2,rfl⟩:=form3 ho2.pls;have z2:=hx2.size;simp only [wZ,qdZ]at z2;refine cu1 (i:=4) fun K hK=>?_
     go_simp;refine kO hK (fun _=>cE h9H ((eR _).alloc _)) (fun h9H=>?_);clear hK K;have h9H:=h9H rfl;have hE:Ext w2 (w2.alloc (X #[O I 0,O Y 0,O Y 0,O Y 0,O Y 0,O Y 0,O Y 0] 35)):=eA;have q5:(w2.alloc (X #[O I 0,O Y 0,O Y 0,O Y 0,O Y 0,O Y 0,O Y 0] 35)).heap[w1.heap.size]?=J (X #[Z V 0 0,Z V 0 0] 33 (0,0)):=(((eR _).alloc _).heapS (hx2.heapS (qhA _ _ _ rfl)));have q6:(w2.alloc (X #[O I 0,O Y 0,O Y 0,O Y 0,O Y 0,O Y 0,O Y 0] 35)).heap[w2.heap.size]?=J (X #[O I 0,O Y 0,O Y 0,O Y 0,O Y 0,O Y 0,O Y 0] 35 (0,0)):=(qhA _ _ _ rfl);have hF:Ext w1 (w2.alloc (X #[O I 0,O Y 0,O Y 0,O Y 0,O Y 0,O Y 0,O Y 0] 35)):=eA;obtain⟨W9,hW9⟩:=gX ((w2.alloc (X #[O I 0,O Y 0,O Y 0,O Y 0,O Y 0,O Y 0,O Y 0] 35)));rw [hW9]at hE q5 q6 hF h9H ⊢;have hb5:w1.heap.size≤w1.heap.size:=by omega
     have n5:(w1.heap.size)≠(w2.heap.size):=by omega
     have nf5:=qfB q5;have nf6:=qfB q6;have n50:=qcB q5 (i:=0) (u:=Z V 0 0) rfl;have n51:=qcB q5 (i:=1) (u:=Z V 0 0) rfl;have n60:=qcB q6 (i:=0) (u:=O I 0) rfl;have n61:=qcB q6 (i:=1) (u:=O Y 0) rfl;have n62:=qcB q6 (i:=2) (u:=O Y 0) rfl;have n63:=qcB q6 (i:=3) (u:=O Y 0) rfl;have n64:=qcB q6 (i:=4) (u:=O Y 0) rfl;have n65:=qcB q6 (i:=5) (u:=O Y 0) rfl;have n66:=qcB q6 (i:=6) (u:=O Y 0) rfl;refine cu1 (i:=5) fun K hK=>?_
     go_simp;refine kO hK (fun _=>cE H0 (hF.set2 hb5 _ _)) (fun h9H=>?_);clear hK K;refine cu1 (i:=6) fun K hK=>?_
     go_simp;refine kO hK (fun h=>nomatch h) (fun h9H=>?_);clear hK K;refine doneHU (by kernel_rfl) ?_ _;clear h9H H0;go_wp2;go_meet;refine zeQ (r:=⟨sk,pin,wide,lap,step,run,level⟩) ?_ ?_ ?_ q5 q6 (hg2.ext' hE) (ho2.extM hE) ?_ (X1.trans hF) rfl
     ·omega
     ·omega
     ·omega
     ·simp only [wZ,qdZ]
      omega
    case f2b =>
     go_simp;refine kO hK (fun _=>cE h9H ((eR _).alloc _)) (fun h9H=>?_);clear hK K;have h9H:=h9H rfl;refine cu1 (i:=1) fun K hK=>?_
     go_simp
     (with_reducible refine cM (HW.out _ eA) ?_)
     rintro e w2 ⟨vg2,vp2,rfl,hg2,ho2,hx2⟩;obtain⟨ga2,gn2,gc2,rfl⟩:=form3 hg2
     go_wp2_with fail
     refine kO hK (fun _=>cE h9H hx2) (fun h9H=>?_);clear hK K;have h9H:=h9H rfl;obtain⟨pa2,pn2,pc2,rfl⟩:=form3 ho2.pls;have z2:=hx2.size;simp only [wZ,qdZ]at z2;have hF:Ext w1 w2:=eA;have q5:w2.heap[w1.heap.size]?=J (X #[Z V 0 0,Z V 0 0] 33 (0,0)):=(hx2.heapS (show ((w1.alloc (X #[Z V 0 0,Z V 0 0] 33)).alloc (X #[O I 0,O Y 0,O Y 0,O Y 0,O Y 0,O Y 0,O Y 0] 35)).heap[w1.heap.size]?=J (X #[Z V 0 0,Z V 0 0] 33 (0,0))from((eR (w1.alloc (X #[Z V 0 0,Z V 0 0] 33))).alloc _).heapS (qhA w1 _ _ rfl)));have q6:w2.heap[w1.heap.size+1]?=J (X #[O I 0,O Y 0,O Y 0,O Y 0,O Y 0,O Y 0,O Y 0] 35 (0,0)):=(hx2.heapS (show ((w1.alloc (X #[Z V 0 0,Z V 0 0] 33)).alloc (X #[O I 0,O Y 0,O Y 0,O Y 0,O Y 0,O Y 0,O Y 0] 35)).heap[w1.heap.size+1]?=J (X #[O I 0,O Y 0,O Y 0,O Y 0,O Y 0,O Y 0,O Y 0] 35 (0,0))from qhA (w1.alloc (X #[Z V 0 0,Z V 0 0] 33)) _ _ (by simp)));have hE:=eR w2;have hb5:w1.heap.size≤w1.heap.size:=by omega
     have n5:(w1.heap.size)≠(w1.heap.size+1):=by omega
     have nf5:=qfB q5;have nf6:=qfB q6;have n50:=qcB q5 (i:=0) (u:=Z V 0 0) rfl;have n51:=qcB q5 (i:=1) (u:=Z V 0 0) rfl;have n60:=qcB q6 (i:=0) (u:=O I 0) rfl;have n61:=qcB q6 (i:=1) (u:=O Y 0) rfl;have n62:=qcB q6 (i:=2) (u:=O Y 0) rfl;have n63:=qcB q6 (i:=3) (u:=O Y 0) rfl;have n64:=qcB q6 (i:=4) (u:=O Y 0) rfl;have n65:=qcB q6 (i:=5) (u:=O Y 0) rfl;have n66:=qcB q6 (i:=6) (u:=O Y 0) rfl;refine cu1 (i:=5) fun K hK=>?_
     go_simp;refine kO hK (fun _=>cE H0 (hF.set2 hb5 _ _)) (fun h9H=>?_);clear hK K;refine cu1 (i:=6) fun K hK=>?_
     go_simp;refine kO hK (fun h=>nomatch h) (fun h9H=>?_);clear hK K;refine doneHU (by kernel_rfl) ?_ _;clear h9H H0;go_wp2;go_meet;refine zeQ (r:=⟨sk,pin,wide,lap,step,run,level⟩) ?_ ?_ ?_ q5 q6 (hg2.ext' hE) (ho2.extM hE) ?_ (X1.trans hF) rfl
     ·omega
     ·omega
     ·omega
     ·simp only [wZ,qdZ]
      omega
   case h4 =>
    go_simp;refine kO hK (fun _=>cE h9H ((eR _).alloc _)) (fun h9H=>?_);clear hK K;have h9H:=h9H rfl;refine callHU2 (i:=1) (j:=3) (fun K hK=>?f1c) (fun K hK=>?f2c)
    case f1c =>
     go_simp
     (with_reducible refine cM (HW.out _ eA) ?_)
     rintro e w2 ⟨vg2,vp2,rfl,hg2,ho2,hx2⟩;obtain⟨ga2,gn2,gc2,rfl⟩:=form3 hg2
     go_wp2_with fail
     refine kO hK (fun _=>cE h9H hx2) (fun h9H=>?_);clear hK K;have h9H:=h9H rfl;obtain⟨pa2,pn2,pc2,rfl⟩:=form3 ho2.pls;have z2:=hx2.size;simp only [wZ,qdZ]at z2;refine cu1 (i:=3) fun K hK=>?_
     go_simp;refine kO hK (fun _=>cE h9H ((eR _).alloc _)) (fun h9H=>?_);clear hK K;have h9H:=h9H rfl;have hE:Ext w2 (w2.alloc (X #[Z V 0 0,Z V 0 0] 33)):=eA;have q5:(w2.alloc (X #[Z V 0 0,Z V 0 0] 33)).heap[w2.heap.size]?=J (X #[Z V 0 0,Z V 0 0] 33 (0,0)):=(qhA _ _ _ rfl);have q6:(w2.alloc (X #[Z V 0 0,Z V 0 0] 33)).heap[w1.heap.size]?=J (X #[O I 0,O Y 0,O Y 0,O Y 0,O Y 0,O Y 0,O Y 0] 35 (0,0)):=(((eR _).alloc _).heapS (hx2.heapS (qhA _ _ _ rfl)));have hF:Ext w1 (w2.alloc (X #[Z V 0 0,Z V 0 0] 33)):=eA;obtain⟨W9,hW9⟩:=gX ((w2.alloc (X #[Z V 0 0,Z V 0 0] 33)));rw [hW9]at hE q5 q6 hF h9H ⊢;have hb5:w1.heap.size≤w2.heap.size:=by omega
     have n5:(w2.heap.size)≠(w1.heap.size):=by omega
     have nf5:=qfB q5;have nf6:=qfB q6;have n50:=qcB q5 (i:=0) (u:=Z V 0 0) rfl;have n51:=qcB q5 (i:=1) (u:=Z V 0 0) rfl;have n60:=qcB q6 (i:=0) (u:=O I 0) rfl;have n61:=qcB q6 (i:=1) (u:=O Y 0) rfl;have n62:=qcB q6 (i:=2) (u:=O Y 0) rfl;have n63:=qcB q6 (i:=3) (u:=O Y 0) rfl;have n64:=qcB q6 (i:=4) (u:=O Y 0) rfl;have n65:=qcB q6 (i:=5) (u:=O Y 0) rfl;have n66:=qcB q6 (i:=6) (u:=O Y 0) rfl;refine cu1 (i:=5) fun K hK=>?_
     go_simp;refine kO hK (fun _=>cE H0 (hF.set2 hb5 _ _)) (fun h9H=>?_);clear hK K;refine cu1 (i:=6) fun K hK=>?_
     go_simp;refine kO hK (fun h=>nomatch h) (fun h9H=>?_);clear hK K;refine doneHU (by kernel_rfl) ?_ _;clear h9H H0;go_wp2;go_meet;refine zeQ (r:=⟨sk,pin,wide,lap,step,run,level⟩) ?_ ?_ ?_ q5 q6 (hg2.ext' hE) (ho2.extM hE) ?_ (X1.trans hF) rfl
     ·omega
     ·omega
     ·omega
     ·simp only [wZ,qdZ]
      omega
    case f2c =>
     go_simp;refine kO hK (fun _=>cE h9H ((eR _).alloc _)) (fun h9H=>?_);clear hK K;have h9H:=h9H rfl;refine cu1 (i:=1) fun K hK=>?_
     go_simp
     (with_reducible refine cM (HW.out _ eA) ?_)
     rintro e w2 ⟨vg2,vp2,rfl,hg2,ho2,hx2⟩;obtain⟨ga2,gn2,gc2,rfl⟩:=form3 hg2
     go_wp2_with fail
     refine kO hK (fun _=>cE h9H hx2) (fun h9H=>?_);clear hK K;have h9H:=h9H rfl;obtain⟨pa2,pn2,pc2,rfl⟩:=form3 ho2.pls;have z2:=hx2.size;simp only [wZ,qdZ]at z2;have hF:Ext w1 w2:=eA;have q5:w2.heap[w1.heap.size+1]?=J (X #[Z V 0 0,Z V 0 0] 33 (0,0)):=(hx2.heapS (show ((w1.alloc (X #[O I 0,O Y 0,O Y 0,O Y 0,O Y 0,O Y 0,O Y 0] 35)).alloc (X #[Z V 0 0,Z V 0 0] 33)).heap[w1.heap.size+1]?=J (X #[Z V 0 0,Z V 0 0] 33 (0,0))from qhA (w1.alloc (X #[O I 0,O Y 0,O Y 0,O Y 0,O Y 0,O Y 0,O Y 0] 35)) _ _ (by simp)));have q6:w2.heap[w1.heap.size]?=J (X #[O I 0,O Y 0,O Y 0,O Y 0,O Y 0,O Y 0,O Y 0] 35 (0,0)):=(hx2.heapS (show ((w1.alloc (X #[O I 0,O Y 0,O Y 0,O Y 0,O Y 0,O Y 0,O Y 0] 35)).alloc (X #[Z V 0 0,Z V 0 0] 33)).heap[w1.heap.size]?=J (X #[O I 0,O Y 0,O Y 0,O Y 0,O Y 0,O Y 0,O Y 0] 35 (0,0))from((eR (w1.alloc (X #[O I 0,O Y 0,O Y 0,O Y 0,O Y 0,O Y 0,O Y 0] 35))).alloc _).heapS (qhA w1 _ _ rfl)));have hE:=eR w2;have hb5:w1.heap.size≤w1.heap.size+1:=by omega
     have n5:(w1.heap.size+1)≠(w1.heap.size):=by omega
     have nf5:=qfB q5;have nf6:=qfB q6;have n50:=qcB q5 (i:=0) (u:=Z V 0 0) rfl;have n51:=qcB q5 (i:=1) (u:=Z V 0 0) rfl;have n60:=qcB q6 (i:=0) (u:=O I 0) rfl;have n61:=qcB q6 (i:=1) (u:=O Y 0) rfl;have n62:=qcB q6 (i:=2) (u:=O Y 0) rfl;have n63:=qcB q6 (i:=3) (u:=O Y 0) rfl;have n64:=qcB q6 (i:=4) (u:=O Y 0) rfl;have n65:=qcB q6 (i:=5) (u:=O Y 0) rfl;have n66:=qcB q6 (i:=6) (u:=O Y 0) rfl;refine cu1 (i:=5) fun K hK=>?_
     go_simp;refine kO hK (fun _=>cE H0 (hF.set2 hb5 _ _)) (fun h9H=>?_);clear hK K;refine cu1 (i:=6) fun K hK=>?_
     go_simp;refine kO hK (fun h=>nomatch h) (fun h9H=>?_);clear hK K;refine doneHU (by kernel_rfl) ?_ _;clear h9H H0;go_wp2;go_meet;refine zeQ (r:=⟨sk,pin,wide,lap,step,run,level⟩) ?_ ?_ ?_ q5 q6 (hg2.ext' hE) (ho2.extM hE) ?_ (X1.trans hF) rfl
     ·omega
     ·omega
     ·omega
     ·simp only [wZ,qdZ]
      omega
  case rest =>
   obtain⟨b5,b6,vg2,vp2,rfl,rfl,hne,h5,h6,K5,K6,hg2,ho2,X2⟩:=hcut;have hp2:=ho2.pls;obtain⟨ga2,gn2,gc2,rfl⟩:=form3 hg2;obtain⟨pa2',pn2,pc2,rfl⟩:=form3 hp2;unfold ruc at K6;dsimp only at K6;obtain⟨wa,rfl⟩:∃W,W=wc:=⟨_,rfl⟩;obtain⟨ru,hru⟩:∃x:Ru,(⟨sk,pin,wide,lap,step,run,level⟩:Ru)=x:=⟨_,rfl⟩;have hruc:ruc ru=#[O I sk,O Y pin,O Y wide,O Y lap,O Y step,O Y run,O Y level]:=by rw [←hru];rfl
   have HSu:=hd9 (fun(W:World) (hW:Ext wa W)=>ziq W _ _ g ps ru (hg2.ext' hW) (hp2.ext' hW) (HG.out.ext (X2.trans hW)));have HRo:=hd9 (fun(W:World) (hW:Ext wa W)=>zfP W _ _ g ps ru (hg2.ext' hW) (hp2.ext' hW) (HG.out.ext (X2.trans hW)));have HJo:=hd9 (fun(W:World) (hW:Ext wa W)=>zeA W _ _ g ps ru (hg2.ext' hW) (hp2.ext' hW) (HG.out.ext (X2.trans hW)));have HPv:=hd9 (fun(W:World) (hW:Ext wa W) (vro:Value) (ro:List Int) (hro:IsIs W vro ro)=>zm5 W _ _ vro g ps ru ro (hg2.ext' hW) (hp2.ext' hW) (HG.out.ext (X2.trans hW)) hro);have HLg:=hd9 (fun(W:World) (hW:Ext wa W)=>zgu W _ _ g ps ru (hg2.ext' hW) (hp2.ext' hW) (HG.out.ext (X2.trans hW)));rw [hruc]at HSu HRo HJo HPv HLg;have z5:=zaa K5;have z6:=zaa K6;have k50:=qcB K5 (i:=0) (u:=Z ga2 gn2 gc2) rfl;have k51:=qcB K5 (i:=1) (u:=Z pa2' pn2 pc2) rfl;have k60:=qcB K6 (i:=0) (u:=O I sk) rfl;have k61:=qcB K6 (i:=1) (u:=O Y pin) rfl;have k62:=qcB K6 (i:=2) (u:=O Y wide) rfl;have k63:=qcB K6 (i:=3) (u:=O Y lap) rfl;have k64:=qcB K6 (i:=4) (u:=O Y step) rfl;have k65:=qcB K6 (i:=5) (u:=O Y run) rfl;have k66:=qcB K6 (i:=6) (u:=O Y level) rfl;obtain⟨k1,hk1⟩:=gX (byE g ps ru);have Hk1:=hd9 hk1;have HX2:=hd9 X2;have HK5:=hd9 K5;have HK6:=hd9 K6;have Hru:=hd9 hru;have Hruc:=hd9 hruc;clear hg2 hp2 ho2 X2 K5 K6 HF HW h5 h6 hk1 hru hruc
   by_cases h0:k1=0
   ·subst h0
    go_upto_region 6 with (first|(go_at_call 16;(with_reducible refine(HRo.out _ (eR _)).mono ?_);rintro e w3 (⟨hne9,_⟩|⟨_,v1,L1,ks1,rs1,rfl,hr1,sv1,hx3⟩);(focus(exact absurd Hk1.out hne9));obtain⟨ra,rn,rc,rfl⟩:=form3 hr1;have X3:Ext wa w3:=hx3;have k50:=hx3.cellS k50;have k51:=hx3.cellS k51;have k60:=hx3.cellS k60;have k61:=hx3.cellS k61;have k62:=hx3.cellS k62;have k63:=hx3.cellS k63;have k64:=hx3.cellS k64;have k65:=hx3.cellS k65;have k66:=hx3.cellS k66)|(go_at_call 15;(with_reducible refine(HJo.out _ X3).mono ?_);rintro e w4 (⟨hne9,_⟩|⟨_,v2,L,ks,rs,rfl,hj2,sv2,hx4⟩);(focus(exact absurd Hk1.out hne9));obtain⟨ja,jn,jc,rfl⟩:=form3 hj2;have X4:Ext wa w4:=X3.trans hx4;have k50:=hx4.cellS k50;have k51:=hx4.cellS k51;have k60:=hx4.cellS k60;have k61:=hx4.cellS k61;have k62:=hx4.cellS k62;have k63:=hx4.cellS k63;have k64:=hx4.cellS k64;have k65:=hx4.cellS k65;have k66:=hx4.cellS k66))
    obtain⟨rfl,_⟩:=zf8 sv1 sv2 rfl rfl;obtain rfl:rs=rs1:=by rw [sv1.roots,sv2.roots]
    have hB:=zkE (zau (zcX Hk1.out).1).1 (zau (zcX Hk1.out).1).2.1 sv2;have hr4:=hr1.ext' hx4;have hrn:rn=jn:=by rw [hr4.len,hj2.len,hB.rlen]
    have e9:((rn:Int) != (jn:Int))=false:=by rw [hrn];simp
    have HB:=hd9 hB;have HSv:=hd9 sv2;have Hr4:=hd9 hr4;have Hj4:=hd9 hj2;have HX4:=hd9 X4;clear sv1 sv2 hr1 hj2 hr4 hB hx3 hx4 X3 X4 hrn
    go_wp2_with(go_at_call 13;(with_reducible refine(HSu.out _ HX4.out).mono ?_);rintro e w5 ⟨v3,l,rfl,hl,hl9,hfd,hx5⟩;rw [Hk1.out];rw [Hk1.out]at hfd;obtain⟨la,ln,lc,rfl⟩:=form3 hl;have k50:=hx5.cellS k50;have k51:=hx5.cellS k51;have k60:=hx5.cellS k60;have k61:=hx5.cellS k61;have k62:=hx5.cellS k62;have k63:=hx5.cellS k63;have k64:=hx5.cellS k64;have k65:=hx5.cellS k65;have k66:=hx5.cellS k66)
    have hfar:=zmH (hfd trivial) HSv.out;have Hfar:=hd9 hfar;have HX5:=hd9 (HX4.out.trans hx5);have Hr5:=hd9 (Hr4.out.ext' hx5);have Hj5:=hd9 (Hj4.out.ext' hx5);have Hl:=hd9 hl;clear hfar hfd hx5 hl k50 k51 k60 k61 k62 k63 k64 k65 k66 e9;refine zlL _ w5 (.pointer (J ⟨b5,0,V⟩)) (.pointer (J ⟨b6,0,V⟩)) (Z ra rn rc) (Z ja jn jc) (O Y 0) (Z la ln lc) l Hl.out hl9 _ ⟨⟨rfl,rfl,rfl,rfl,rfl,rfl⟩,rfl,rfl⟩ rfl rfl (fun a W hfr h13 h14 hx=>?_);obtain⟨tt,dd⟩:=a;obtain⟨f1,f5,f6,f7,f9,hdd⟩:=hfr;dsimp only at f1 f5 f6 f7 f9 h13 h14 hdd;subst hdd;obtain⟨u,hu,ht⟩:=arrU tt 263 f1;simp only [hu]at f5 f6 f7 f9 h13 h14;clear hu;subst ht;simp only [List.range,List.range.loop,List.map_cons,List.map_nil,f5,f6,f7,f9,h13,h14];clear f1 f5 f6 f7 f9 h13 h14;obtain⟨fb,hfb⟩:=gX (runB l);rw [hfb]at Hfar ⊢;have HXa:=hd9 hx;clear hx hfb;have hrun:=(zcX Hk1.out).2;have K6a:=(HX5.out.trans HXa.out).heapS HK6.out;have K5a:=(HX5.out.trans HXa.out).heapS HK5.out;rw [←Hruc.out]at K6a;have Hra:=hd9 (Hr5.out.ext' HXa.out);have Hja:=hd9 (Hj5.out.ext' HXa.out);have HK6a:=hd9 K6a;clear K6a K5a;go_wp2;refine zlM _ W (.pointer (J ⟨b5,0,V⟩)) (Z ra rn rc) (Z ja jn jc) (.bool fb) b6 ru L rs HSv.out.ord HSv.out.roots HB.out.jts HB.out.len Hja.out Hra.out HK6a.out _ ⟨⟨rfl,rfl,rfl,rfl,rfl,rfl⟩,rfl⟩ rfl rfl (fun c a d v w h=>by cases d<;>exact h) (fun a W2 hfr h13 h14 hx=>?_);obtain⟨tt,dd⟩:=a;obtain⟨f1,f5,f6,f7,f9,hdd⟩:=hfr;dsimp only at f1 f5 f6 f7 f9 h13 h14 hdd;subst hdd;obtain⟨u2,hu,ht⟩:=arrU tt 263 f1;simp only [hu]at f5 f6 f7 f9 h13 h14;clear hu;subst ht;simp only [List.range,List.range.loop,List.map_cons,List.map_nil,f5,f6,f7,f9,h13,h14];clear f1 f5 f6 f7 f9 h13 h14;obtain⟨mm,hmm⟩:=gX (mostP L rs L.length);rw [hmm]
    have hmf:decide (run<mm)=fb:=by
     have h1:=zjX (L:=L) (rs:=rs) hrun.1;rw [hmm]at h1;rw [show ru.run=run by rw [←Hru.out]]at h1;have h2:=Hfar.out;rw [show ru.run=run by rw [←Hru.out]]at h2
     cases fb with
     | true=>exact decide_eq_true (h1.2 (h2.1 rfl))
     | false=>exact decide_eq_false (fun h9=>by have:=h2.2 (h1.1 h9);cases this)
    have X2:Ext wa W2:=HX5.out.trans (HXa.out.trans hx);have HXb:=hd9 X2;have Hmm:=hd9 hmm;have Hrb:=hd9 (Hra.out.ext' hx);have Hjb:=hd9 (Hja.out.ext' hx);have k50:=qcB (X2.heapS HK5.out) (i:=0) (u:=Z ga2 gn2 gc2) rfl;have k51:=qcB (X2.heapS HK5.out) (i:=1) (u:=Z pa2' pn2 pc2) rfl;have k60:=qcB (X2.heapS HK6.out) (i:=0) (u:=O I sk) rfl;have k61:=qcB (X2.heapS HK6.out) (i:=1) (u:=O Y pin) rfl;have k62:=qcB (X2.heapS HK6.out) (i:=2) (u:=O Y wide) rfl;have k63:=qcB (X2.heapS HK6.out) (i:=3) (u:=O Y lap) rfl;have k64:=qcB (X2.heapS HK6.out) (i:=4) (u:=O Y step) rfl;have k65:=qcB (X2.heapS HK6.out) (i:=5) (u:=O Y run) rfl;have k66:=qcB (X2.heapS HK6.out) (i:=6) (u:=O Y level) rfl;have Hmf:=hd9 hmf;clear hx hmm X2 hmf hrun
    go_upto_region 23 with fail
    go_cut [135]from 77 to 263 (CutF false W2)
    case first =>
     have HPv2:=hd9 (HPv.out W2 HXb.out _ rs Hrb.out);have hmf:=Hmf.out
     have hn0:fb=true→0<jn:=fun h9=>by
      obtain⟨q,hq,_⟩:=Hfar.out.1 h9;have:=Hjb.out.len;omega
     cases fb with
     | true =>
      have hn0:=hn0 rfl
      go_wp2_with(go_at_call 18;(with_reducible refine HPv2.out.mono ?_);rintro e w7 ⟨hx7,(⟨hne9,_⟩|⟨_,ks7,L7,rs7,bb,sv7,rfl,hiff⟩)⟩;(focus(exact absurd Hk1.out hne9));have hbb:=zkh (zf8 HSv.out sv7 rfl rfl).1 hiff Hfar.out HB.out.rlen HSv.out.roots;subst hbb;have k65:=hx7.cellS k65)
      go_meet;exact⟨rfl,hx7⟩
     | false =>
      clear hn0
      go_wp2_with(go_at_call 18;(with_reducible refine HPv2.out.mono ?_);rintro e w7 ⟨hx7,(⟨hne9,_⟩|⟨_,ks7,L7,rs7,bb,sv7,rfl,hiff⟩)⟩;(focus(exact absurd Hk1.out hne9));have hbb:=zkh (zf8 HSv.out sv7 rfl rfl).1 hiff Hfar.out HB.out.rlen HSv.out.roots;subst hbb;have k65:=hx7.cellS k65)
      go_meet;exact⟨rfl,hx7⟩
    case rest =>
     obtain⟨rfl,hx9⟩:=hcut;have k50:=hx9.cellS k50;have k51:=hx9.cellS k51;have k60:=hx9.cellS k60;have k61:=hx9.cellS k61;have k62:=hx9.cellS k62;have k63:=hx9.cellS k63;have k64:=hx9.cellS k64;have k65:=hx9.cellS k65;have k66:=hx9.cellS k66;have HXc:=hd9 (HXb.out.trans hx9);have Hjc:=hd9 (Hjb.out.ext' hx9);clear hx9
     by_cases hj0:jn=0
     ·subst hj0
      go_wp2_with(first|(go_at_call 19;(with_reducible refine(HLg.out _ HXc.out).mono ?_);rintro e w8 ⟨hx8,(⟨hne9,_⟩|⟨_,ks8,L8,rs8,sv8,(⟨h8,rfl⟩|⟨v8,cn,last,kk,rfl,hv8,hl8,_⟩)⟩)⟩;(focus(exact absurd Hk1.out hne9));rotate_left 1;(focus(exfalso;rw [(zf8 HSv.out sv8 rfl rfl).1,←Hjc.out.len]at hl8;omega)))|(go_at_call 9;(with_reducible refine(HA.out _ (HX2.out.trans (HXc.out.trans hx8))).mono ?_);rintro e w9 ⟨rfl,hx9⟩))
      go_ret;exact⟨rfl,HX2.out.trans (HXc.out.trans (hx8.trans hx9))⟩
     ·have e0:((jn:Int)==0)=false:=by simp;omega
      go_upto_region 28 with (go_at_call 19;(with_reducible refine(HLg.out _ HXc.out).mono ?_);rintro e w8 ⟨hx8,(⟨hne9,_⟩|⟨_,ks8,L8,rs8,sv8,(⟨h8,rfl⟩|⟨v8,cn,last,kk,rfl,hv8,hl8,ha8,hch8,jk8,hjk8,hfr8⟩)⟩)⟩;(focus(exact absurd Hk1.out hne9));(focus(exfalso;rw [(zf8 HSv.out sv8 rfl rfl).1,←Hjc.out.len]at h8;omega));obtain⟨va,vn,vc,rfl⟩:=form3 hv8)
      obtain rfl:L=L8:=(zf8 HSv.out sv8 rfl rfl).1.symm;obtain rfl:rs=rs8:=by rw [sv8.roots,HSv.out.roots]
      have hmt:hgt L rs last=mm:=by rw [←zjY HSv.out hl8 ha8];exact Hmm.out
      rw [hmt];obtain⟨hup0,hup1,hup2,hup3⟩:=hch8.up;have hvl:=hv8.len;rw [hup0]at hvl;obtain⟨m',rfl⟩:∃m',vn=m'+1:=⟨vn-1,by omega⟩;rw [←hvl]at hup2;rw [Nat.add_sub_cancel]at hup2;have hcap:=hv8.le;have hmx:m'+1≤9223372036854775807:=by rw [hup0,←hvl]at hcap;unfold maxLen at hcap;omega
      have X8:=HXc.out.trans hx8;have HX8:=hd9 X8;have Hj8:=hd9 (Hjc.out.ext' hx8);have Hv8:=hd9 hv8;have Hch:=hd9 hch8;have Hup1:=hd9 hup1;have Hup2:=hd9 hup2;have Hmt:=hd9 hmt;have Hjk8:=hd9 hjk8;have Hfr8:=hd9 hfr8;have K68:=X8.heapS HK6.out;rw [←Hruc.out]at K68;have HK68:=hd9 K68;have hvn:((m'+1:Nat):Int)≠0:=by omega
      have hvn':((m':Int)+1==0)=false:=by simp;omega
      have e14:(mm != mm)=false:=by simp
      clear sv8 hv8 ha8 hch8 hup0 hup1 hup2 hup3 hvl hcap hmt hjk8 hfr8 X8 K68 hx8;go_wp2;refine zlN _ w8 (Z ja jn jc) (Z va (m'+1) vc) (O Y mm) b6 ru L rs last kk cn Hch.out HB.out.jts Hj8.out Hv8.out HK68.out _ ⟨rfl,rfl,rfl,rfl,rfl,rfl⟩ rfl (fun c a d v w h=>by cases d<;>exact h) (fun a W3 hfr hx=>?_);obtain⟨tt,dd⟩:=a;obtain⟨f1,f9,f18,f19,hdd⟩:=hfr;dsimp only at f1 f9 f18 f19 hdd;subst hdd;obtain⟨u3,hu,ht⟩:=arrU tt 263 f1;simp only [hu]at f9 f18 f19;clear hu;subst ht;simp only [List.range,List.range.loop,List.map_cons,List.map_nil,f9,f18,f19];clear f1 f9 f18 f19;obtain⟨jl8,hjl8⟩:∃j,L[last]?=J j:=⟨L[last]'hl8,gE _⟩;obtain⟨bv,ov,e2,_,hc1⟩:=(Hv8.out.ext' hx).at' Hup1.out;subst e2;obtain⟨bv2,ov2,e2,_,hc2⟩:=(Hv8.out.ext' hx).at' Hup2.out
      cases e2
      obtain⟨bj,oj,e2,_,hd1⟩:=(Hj8.out.ext' hx).at' hjl8;subst e2;obtain⟨bj2,oj2,e2,_,hd2⟩:=(Hj8.out.ext' hx).at' Hjk8.out
      cases e2
      have hth:=ziw Hch.out hjl8 Hjk8.out Hfr8.out;rw [Hmt.out]at hth;have hb1:=(HB.out.jts _ (lM hjl8)).2.2.2.2.2;have hb2:=(HB.out.jts _ (lM Hjk8.out)).2.2.2.2.1;have hkL:kk<jn:=by rw [Hj8.out.len];exact(lS.1 Hjk8.out).1
      have hlL:last<jn:=by rw [Hj8.out.len];exact hl8
      obtain⟨l0,l1,l2,l3,l4,l5⟩:=jl8;obtain⟨g0,g1,g2,g3,g4,g5⟩:=jk8;dsimp only at hth hb1 hb2;unfold jta at hd1 hd2;dsimp only at hd1 hd2;have c5:=hd1 5 (O Y l5) rfl;have c4:=hd2 4 (O Y g4) rfl;simp only [Nat.add_zero]at hc1;unfold Bd at hb1 hb2;have y1:IntKind.i64.wrap (l5-g4)=mm:=by rw [hth];exact iW _ ⟨by omega,by omega⟩
      have y2:wrap64 (l5-g4)=mm:=by rw [hth];exact IntWalk.wrap64_in _ ⟨by omega,by omega⟩
      have p1:(0:Int)≤(m':Int):=by omega
      have p2:(m':Int)<(m':Int)+1:=by omega
      have p3:(0:Int)≤(last:Int):=by omega
      have p4:(last:Int)<(jn:Int):=by omega
      have p5:(0:Int)≤(kk:Int):=by omega
      have p6:(kk:Int)<(jn:Int):=by omega
      have p7:(0:Int)<(m':Int)+1:=by omega
      have X9:Ext w W3:=HX2.out.trans (HX8.out.trans hx);have HX9:=hd9 X9;clear hd1 hd2 hb1 hb2 hkL hlL hjl8 hx X9 hth;have q3:IntKind.i64.wrap (m':Int)=(m':Int):=iW _ ⟨by omega,by omega⟩
      go_upto_region 41 with fail
      refine wp_region_held_drew (S:=CellL [(⟨bv,ov,V⟩,O Y kk),(⟨bv,ov+m',V⟩,O Y last),(⟨bj,oj+last*6+5,V⟩,O Y l5),(⟨bj,oj+kk*6+4,V⟩,O Y g4)]) (by kernel_rfl) cA (fun h9H=>?_);refine tk1 (i:=0) ?_;refine tk1 (i:=1) ?_;refine tk1 (i:=2) ?_;refine tk1 (i:=3) ?_;refine tk1 (i:=4) ?_;refine tk1 (i:=5) ?_;refine tk1 (i:=6) ?_;refine tk1 (i:=7) ?_;refine tk1 (i:=8) ?_;refine tk1 (i:=9) ?_;refine tk1 (i:=10) ?_;refine tk1 (i:=11) ?_;refine tk1 (i:=12) ?_;refine tk1 (i:=13) ?_;refine tk1 (i:=14) ?_;refine tk1 (i:=15) ?_;refine tk1 (i:=16) ?_;refine tk1 (i:=17) ?_;refine tk1 (i:=18) ?_;refine tk1 (i:=19) ?_;refine tk1 (i:=20) ?_;refine cl1 (i:=21) fun K hK=>?_
      go_simp
      (with_reducible refine cM (HA.out _ HX9.out.drew) ?_)
      rintro e w9 ⟨rfl,hx9⟩
      skip
      go_wp2_with fail
      refine kO hK (cE h9H hx9) (fun h9H=>?_);clear hK K;refine tk1 (i:=22) ?_;refine tk1 (i:=23) ?_;refine wpAnyH_done (by kernel_rfl) ?_ _;go_wp2;go_ret;exact⟨rfl,HX9.out.drew.trans hx9⟩
   ·have u0:(k1 != 0)=true:=by simpa using h0
    have Hne:=hd9 h0;clear h0
    go_wp2_with(first|(go_at_call 16;(with_reducible refine(HRo.out _ (eR _)).mono ?_);rintro e w3 (⟨hne9,rfl,hx3⟩|⟨h9,_⟩);rotate_left 1;(focus(exact absurd (Hk1.out.symm.trans h9) Hne.out));rw [Hk1.out];have X3:Ext wa w3:=hx3;have k50:=hx3.cellS k50;have k51:=hx3.cellS k51;have k60:=hx3.cellS k60;have k61:=hx3.cellS k61;have k62:=hx3.cellS k62;have k63:=hx3.cellS k63;have k64:=hx3.cellS k64;have k65:=hx3.cellS k65;have k66:=hx3.cellS k66)|(go_at_call 15;(with_reducible refine(HJo.out _ X3).mono ?_);rintro e w4 (⟨hne9,rfl,hx4⟩|⟨h9,_⟩);rotate_left 1;(focus(exact absurd (Hk1.out.symm.trans h9) Hne.out));rw [Hk1.out];have X4:Ext wa w4:=X3.trans hx4;have k50:=hx4.cellS k50;have k51:=hx4.cellS k51;have k60:=hx4.cellS k60;have k61:=hx4.cellS k61;have k62:=hx4.cellS k62;have k63:=hx4.cellS k63;have k64:=hx4.cellS k64;have k65:=hx4.cellS k65;have k66:=hx4.cellS k66)|(go_at_call 13;(with_reducible refine(HSu.out _ X4).mono ?_);rintro e w5 ⟨v3,l3,rfl,hl3,_,_,hx5⟩;rw [Hk1.out];have X5:Ext w w5:=HX2.out.trans (X4.trans hx5))|(go_at_call 9;(with_reducible refine(HA.out _ X5).mono ?_);rintro e w8 ⟨rfl,hx8⟩))
    go_ret;exact⟨rfl,X5.trans hx8⟩
end
section
open Go.ChangeShapes Go.WideShapes Go.Deep
section
variable {H:Type} {enc:TypeId×Value→H} {P:Program} {w:World} {spare:Nat→Bool} {held:Bool}
theorem zg3 {k:Nat}:∀{css:List (List Value)} {j:Nat} {x:Value},0<k→(∀c∈css,c.length=k)→css.flatten[j]?=some x→∃d,css[j / k]?=some d∧d[j % k]?=some x
 | [],j,x,_,_,h=>by simp at h
 | c::css,j,x,hk,hc,h=>by
  have hl:c.length=k:=hc c (by simp);rw [List.flatten_cons]at h
  by_cases hj:j<k
  ·rw [List.getElem?_append_left (by omega)]at h
   rw [Nat.div_eq_of_lt hj,Nat.mod_eq_of_lt hj];exact⟨c,rfl,h⟩
  ·rw [List.getElem?_append_right (by omega),hl]at h
   obtain⟨d,h1,h2⟩:=zg3 (j:=j-k) hk (fun c hc'=>hc c (mC _ hc')) h;rw [Nat.div_eq_sub_div hk (by omega),Nat.mod_eq_sub_mod (by omega)];exact⟨d,by simpa using h1,h2⟩
theorem zd3 {t e:TypeId} {k fuel:Nat} {cs:List Value} {x:DataW H×List MemPlace} (ht:P.underlying t=some (.slice e)) (hk:P.cellsOf e=k) (hk0:0<k)
  (h:DataW.trod enc P w 0 spare held fuel t cs=some x) :
  ∃(a:Option Addr) (n c:Nat) (T:TypeId) (css:List (List Value)),cs=[.slice a n c]∧css.length=n∧(∀d∈css,d.length=k)∧Rd w T k (.slice a n c) n css.flatten ∧
   ∀d∈css,∃m y,DataW.trod enc P w 0 spare held m e d=some y:=by
 rcases open_slice ht h with ⟨rfl,_⟩|⟨a,len,cap,m,f,D,Pl,rfl,_,hl,hm,hmm,_,hel⟩
 ·exact⟨none,0,0,0,[],rfl,rfl,by simp,Rd.nil w 0 k,by simp⟩
 ·have hlm:len≤m:=by rw [hmm];split<;>omega
  rw [hk]at hel;obtain⟨F,hF⟩:=choose_lt (α:=List Value) (n:=len) (p:=fun i d=>w.cells? 0 (a.add (i*k)) k=some d∧DataW.trod enc P w 0 spare held f e d=some (D i,Pl i)) (fun i hi=>hel i (by omega))
  have hlen:∀d∈(List.range len).map F,d.length=k:=by
   intro d hd;obtain⟨i,hi,rfl⟩:=List.mem_map.1 hd;exact(World.cells?_some (hF i (List.mem_range.1 hi)).1).2.1
  have hall:∀d∈(List.range len).map F,∃m y,DataW.trod enc P w 0 spare held m e d=some y:=by
   intro d hd;obtain⟨i,hi,rfl⟩:=List.mem_map.1 hd;exact⟨f,_,(hF i (List.mem_range.1 hi)).2⟩
  by_cases h0:len=0
  ·subst h0
   exact⟨some a,0,cap,0,[],rfl,rfl,by simp,⟨by simp,some a,cap,rfl,hl,hm,.inl ⟨rfl,fun e=>by cases e⟩⟩,by simp⟩
  ·have c0:=(World.cells?_some (hF 0 (by omega)).1).2.2 0 hk0
   have hcl:=hlen (F 0) (List.mem_map.2 ⟨0,List.mem_range.2 (by omega),rfl⟩);obtain⟨v0,hv0⟩:∃v,(F 0)[0]?=some v:=⟨(F 0)[0]'(by omega),by simp⟩;rw [hv0]at c0;obtain⟨b,o,sp⟩:=a
   have hsp:sp=none:=by
    have:=World.cell?_spot c0
    simpa [Addr.add] using this
   subst hsp;have e0:((⟨b,o,none⟩:Addr).add (0*k)).add 0=⟨b,o,none⟩:=by simp [Addr.add]
   rw [e0]at c0
   obtain⟨blk,T,fr,hblk⟩:∃blk T fr,w.heap[b]?=some (.cells blk T fr):=by
    unfold World.cell? at c0
    split at c0
    ·rename_i blk T fr hb;exact⟨blk,T,fr,hb⟩
    ·cases c0
   refine⟨some ⟨b,o,none⟩,len,cap,T,(List.range len).map F,rfl,by simp,hlen,⟨?_,some ⟨b,o,none⟩,cap,rfl,hl,hm,.inr ⟨b,o,blk,fr,rfl,hblk,fun j y hj=>?_⟩⟩,hall⟩
   ·rw [zaq hlen];simp
   ·obtain⟨d,h1,h2⟩:=zg3 hk0 hlen hj
    obtain⟨hi,rfl⟩:j / k<len∧F (j / k)=d:=by
     rw [lP]at h1
     by_cases hi:j / k<len
     ·rw [List.getElem?_range hi]at h1
      exact⟨hi,Option.some.inj h1⟩
     ·rw [List.getElem?_eq_none (by simpa using hi)]at h1
      cases h1
    have c1:=(World.cells?_some (hF (j / k) hi).1).2.2 (j % k) (Nat.mod_lt _ hk0);rw [h2]at c1
    have e1:((⟨b,o,none⟩:Addr).add (j / k*k)).add (j % k)=⟨b,o+j,none⟩:=by
     rw [add_add];have:j / k*k+j % k=j:=by rw [Nat.mul_comm];exact Nat.div_add_mod j k
     rw [this];unfold Addr.add
     split
     ·rename_i h;rw [h];rfl
     ·rfl
    rw [e1]at c1
    simpa [World.cell?,hblk] using c1
end
end
section
open Go.ChangeShapes Go.WideShapes Go.Deep
def flds (P:Program) (t:TypeId):Array Field:=match P.underlying t with|some (.struct fs)=>fs|_=>#[]
section
variable {H:Type} {enc:TypeId×Value→H} {w:World} {spare:Nat→Bool} {held:Bool}
theorem fld {P:Program} {fs:Array Field} {n i ti oi ki:Nat} {cs:List Value} {xs:List (DataW H×List MemPlace)} (hx:xs.length=fs.size)
  (hf:∀(i:Nat) (f:Field),fs[i]?=some f→DataW.trod enc P w 0 spare held n f.type ((cs.drop f.offset).take (P.cellsOf f.type))=xs[i]?)
  (hi:fs[i]?.map (fun f=>(f.type,f.offset,P.cellsOf f.type))=some (ti,oi,ki)):∃y,DataW.trod enc P w 0 spare held n ti ((cs.drop oi).take ki)=some y:=by
 cases h:fs[i]? with
 | none=>rw [h]at hi;cases hi
 | some f =>
  rw [h]at hi;simp only [Option.map_some,Option.some.injEq,Prod.mk.injEq]at hi;obtain⟨rfl,rfl,rfl⟩:=hi;have hl:i<xs.length:=by rw [hx];exact(Array.getElem?_eq_some_iff.1 h).1
  exact⟨xs[i],by rw [hf i f h];simp [hl]⟩
theorem zbn:Tryz.prog.underlying 3=some (.int .i64):=by kernel_rfl
theorem zmn:Tryz.prog.underlying 5=some (.int .u8):=by kernel_rfl
theorem znl:Tryz.prog.underlying 9=some .string:=by kernel_rfl
theorem zoi:Tryz.prog.underlying 88=some (.struct (flds Tryz.prog 88)):=by kernel_rfl
theorem zoj:Tryz.prog.underlying 90=some (.struct (flds Tryz.prog 90)):=by kernel_rfl
theorem zoh:Tryz.prog.underlying 92=some (.struct (flds Tryz.prog 92)):=by kernel_rfl
theorem zmo:Tryz.prog.underlying 25=some (.struct (flds Tryz.prog 25)):=by kernel_rfl
theorem znk:Tryz.prog.underlying 22=some (.slice 88):=by kernel_rfl
theorem znj:Tryz.prog.underlying 23=some (.slice 92):=by kernel_rfl
theorem zbI {n:Nat} {cs:List Value} {y:DataW H×List MemPlace} (h:DataW.trod enc Tryz.prog w 0 spare held n 88 cs=some y):∃p:Int×Int,cs=[.int .i64 p.1,.int .i64 p.2]:=by
 obtain⟨xs,m,_,_,hl,hx,hf⟩:=DataW.trod_struct zoi h;have hc:Tryz.prog.cellsOf 88=2:=by kernel_rfl
 rw [hc]at hl;obtain⟨y0,h0⟩:=fld hx hf (i:=0) (ti:=3) (oi:=0) (ki:=1) (by kernel_rfl);obtain⟨y1,h1⟩:=fld hx hf (i:=1) (ti:=3) (oi:=1) (ki:=1) (by kernel_rfl)
 match cs,hl with
 | [a,b],_ =>
  obtain⟨x,e0,_⟩:=DataW.trod_int zbn h0;obtain⟨z,e1,_⟩:=DataW.trod_int zbn h1;simp at e0 e1;subst e0 e1;exact⟨(x,z),rfl⟩
theorem ziJ {α:Type} {Q:List Value→α→Prop}:∀{css:List (List Value)},(∀d∈css,∃a,Q d a)→∃l:List α,css.length=l.length∧∀(i:Nat) d a,css[i]?=some d→l[i]?=some a→Q d a
 | [],_=>⟨[],rfl,fun i d a h=>by simp at h⟩
 | c::css,h=>by
  obtain⟨a,ha⟩:=h c (by simp);obtain⟨l,hl,has⟩:=ziJ (css:=css) (fun d hd=>h d (mC _ hd));refine⟨a::l,by simp [hl],fun i d b hd hb=>?_⟩
  cases i with
  | zero=>simp at hd hb;subst hd hb;exact ha
  | succ i=>exact has i d b (by simpa using hd) (by simpa using hb)
theorem zcn {n:Nat} {v:Value} {y:DataW H×List MemPlace} (h:DataW.trod enc Tryz.prog w 0 spare held n 22 [v]=some y):∃ps,IsPr w v ps:=by
 obtain⟨a,m,c,T,css,e,hl,hk,hr,hd⟩:=zd3 znk (k:=2) (by kernel_rfl) (by omega) h
 cases e
 obtain⟨ps,hps,hq⟩:=ziJ (α:=Int×Int) (Q:=PP w) (fun d h=>by
  obtain⟨f,y,hy⟩:=hd d h;obtain⟨p,hp⟩:=zbI hy;exact⟨p,hp⟩)
 exact⟨ps,T,css,hps,hk,by rw [←hps,hl];exact hr,hq⟩
theorem zem {n:Nat} {cs:List Value} {y:DataW H×List MemPlace} (h:DataW.trod enc Tryz.prog w 0 spare held n 92 cs=some y):∃p:Pl,PPr w cs p:=by
 obtain⟨xs,m,_,_,hl,hx,hf⟩:=DataW.trod_struct zoh h;have hc:Tryz.prog.cellsOf 92=10:=by kernel_rfl
 rw [hc]at hl;obtain⟨y0,h0⟩:=fld hx hf (i:=0) (ti:=90) (oi:=0) (ki:=6) (by kernel_rfl);obtain⟨y1,h1⟩:=fld hx hf (i:=1) (ti:=3) (oi:=6) (ki:=1) (by kernel_rfl);obtain⟨y2,h2⟩:=fld hx hf (i:=2) (ti:=88) (oi:=7) (ki:=2) (by kernel_rfl);obtain⟨y3,h3⟩:=fld hx hf (i:=3) (ti:=5) (oi:=9) (ki:=1) (by kernel_rfl)
 match cs,hl with
 | [a0,a1,a2,a3,a4,a5,a6,a7,a8,a9],_ =>
  obtain⟨zs,k,_,_,_,hz,hg⟩:=DataW.trod_struct zoj h0;obtain⟨z0,g0⟩:=fld hz hg (i:=0) (ti:=9) (oi:=0) (ki:=1) (by kernel_rfl);obtain⟨z1,g1⟩:=fld hz hg (i:=1) (ti:=22) (oi:=1) (ki:=1) (by kernel_rfl);obtain⟨z2,g2⟩:=fld hz hg (i:=2) (ti:=3) (oi:=2) (ki:=1) (by kernel_rfl);obtain⟨z3,g3⟩:=fld hz hg (i:=3) (ti:=3) (oi:=3) (ki:=1) (by kernel_rfl);obtain⟨z4,g4⟩:=fld hz hg (i:=4) (ti:=88) (oi:=4) (ki:=2) (by kernel_rfl);obtain⟨nm,e0,_⟩:=DataW.trod_string znl g0;obtain⟨sh,hsh⟩:=zcn g1;obtain⟨de,e2,_⟩:=DataW.trod_int zbn g2;obtain⟨dn,e3,_⟩:=DataW.trod_int zbn g3;obtain⟨gr,e4⟩:=zbI g4;obtain⟨wy,e6,_⟩:=DataW.trod_int zbn h1;obtain⟨at9,e7⟩:=zbI h2;obtain⟨sk,e9,_,wsk⟩:=DataW.trod_int zmn h3;simp at e0 e2 e3 e4 e6 e7 e9;obtain⟨rfl,rfl⟩:=e4;obtain⟨rfl,rfl⟩:=e7;subst e0 e2 e3 e6 e9;refine⟨⟨nm,sh,de,dn,gr.1,gr.2,wy,at9.1,at9.2,sk⟩,_,rfl,hsh,?_⟩;have w9:decide (IntKind.u8.min≤sk)=true:=by unfold Lit.wf at wsk;simp only [Bool.and_eq_true]at wsk;exact wsk.1
  have w8:IntKind.u8.min=0:=by decide
  rw [w8]at w9;exact of_decide_eq_true w9
theorem zdY {n:Nat} {v:Value} {y:DataW H×List MemPlace} (h:DataW.trod enc Tryz.prog w 0 spare held n 23 [v]=some y):∃ps,IsWr w v ps:=by
 obtain⟨a,m,c,T,css,e,hl,hk,hr,hd⟩:=zd3 znj (k:=10) (by kernel_rfl) (by omega) h
 cases e
 obtain⟨ps,hps,hq⟩:=ziJ (α:=Pl) (Q:=PPr w) (fun d h=>by
  obtain⟨f,y,hy⟩:=hd d h;exact zem hy)
 exact⟨ps,T,css,hps,hk,by rw [←hps,hl];exact hr,hq⟩
theorem zfY {r:Reach} {b0:Nat} {v:Value} {d:DataW H} {p:List MemPlace} (hv:Value.okWide Tryz.prog w r b0 25 v) (h:DataW.Trod enc Tryz.prog w 0 spare held 25 v d p) :
  ∃vg vp g ps,v = .agg #[vg,vp]∧IsPr w vg g∧IsWr w vp ps:=by
 obtain⟨cs,rfl,hsz⟩:=okWide_struct zmo hv;have hc:Tryz.prog.cellsOf 25=2:=by kernel_rfl
 rw [hc]at hsz
 obtain⟨c0,c1,rfl⟩:∃a b,cs=#[a,b]:=by
  match cs,hsz with
  | ⟨[a,b]⟩,_=>exact⟨a,b,rfl⟩
 obtain⟨fuel,hf⟩:=h;obtain⟨xs,m,_,_,hl,hx,hg⟩:=DataW.trod_struct zmo hf;obtain⟨y0,h0⟩:=fld hx hg (i:=0) (ti:=22) (oi:=0) (ki:=1) (by kernel_rfl);obtain⟨y1,h1⟩:=fld hx hg (i:=1) (ti:=23) (oi:=1) (ki:=1) (by kernel_rfl);obtain⟨g,h2⟩:=zcn (v:=c0) h0;obtain⟨ps,h3⟩:=zdY (v:=c1) h1;exact⟨c0,c1,g,ps,rfl,h2,h3⟩
end
end
end Go.Proofs.YteipgejmhfpkaaaGreatDoor.Cop
