/- Part 38 of 39: contracts of what the law calls. -/
import Derived.Test.YteipgejmhfpkaaaGreatDoorCopA34
import Derived.Test.YteipgejmhfpkaaaGreatDoorCopA29
import Derived.Test.YteipgejmhfpkaaaGreatDoorCopA36
import Derived.Test.YteipgejmhfpkaaaGreatDoorCopA05
import Derived.ProofKit
import Derived.Deep.Slices
import Derived.Test.YteipgejmhfpkaaaGreatDoorRows
import Derived.Test.YteipgejmhfpkaaaGreatDoorCards
import Derived.Test.YteipgejmhfpkaaaGreatDoorTie
import Derived.LaidMore
import Derived.Stop.Joined
import Derived.OpenShut
import Derived.SevenTiedAt
import Derived.Test.YteipgejmhfpkaaaGreatDoorCopA16
set_option maxRecDepth 1000000
set_option maxHeartbeats 16000000
set_option linter.unusedSimpArgs false
set_option linter.unusedVariables false
open Go.Value renaming int→O,slice→Z
open Go.IntKind renaming i64→Y,u8→J
open Option renaming none→X,some→M
open Go.Obj renaming cells→I
open Go renaming World→N,Value→E
namespace Go.Proofs.YteipgejmhfpkaaaGreatDoor.Cop
open Go.RowKit Go.Shelf Go.Sort Go.Lib
theorem zem {g:List (Int×Int)} {ps:List Pl} {r:Ru} (h:byE g ps r=0):laidP g ps=0∧0≤r.lap∧r.lap≤10000∧0≤r.run∧r.run≤10000∧0≤r.level∧r.level≤10000:=by
 unfold byE at h
 by_cases h0:laidP g ps=0
 ·rw [if_pos h0]at h
  unfold rulesE at h
  split at h
  ·cases h
  ·split at h
   ·cases h
   ·split at h
    ·cases h
    ·split at h
     ·cases h
     ·rename_i h9
      simp [oddR]at h9;omega
 ·rw [if_neg h0]at h
  exact absurd h h0
def RuP (b:Nat) (V0:N) (c:Array E) (V:N):Prop:=V.heap[b]?=M (I c 35 (0,0))∧KeepT 73 V0 V∧(∀a:N,Ext a V0→a.heap.size≤b→Ext a V)∧∀c o,c≠b→V.cell? ⟨c,o,X⟩=V0.cell? ⟨c,o,X⟩
theorem RuP.put {b:Nat} {V V0:N} {c:Array E} (h:RuP b V0 c V) (i:Nat) (u:E) {c':Array E} (hc:c.setIfInBounds i u=c'):RuP b V0 c' (V.setCell ⟨b,i,X⟩ u):=by
 obtain⟨h1,h2,h3,h4⟩:=h;subst hc;refine⟨zag h1 i u,h2.set (p:=⟨b,i,X⟩) h1 (by decide) u,fun a ha hb=>(h3 a ha hb).set (by exact hb) u,fun c' o hc=>?_⟩;rw [←h4 c' o hc];exact World.cell?_setCell_far _ _ _ _ (by dsimp only;exact fun e=>hc e.symm)
theorem znE {W:N} {b:Nat} {x0 x1 x2 x3 x4 x5 x6 y0 y1 y2 y3 y4 y5 y6:E} (k:W.heap[b]?=M (I #[x0,x1,x2,x3,x4,x5,x6] 35 (0,0))) {W1:N}
  (hW:(((((((W.setCell ⟨b,0,X⟩ y0).setCell ⟨b,1,X⟩ y1).setCell ⟨b,2,X⟩ y2).setCell ⟨b,3,X⟩ y3).setCell ⟨b,4,X⟩ y4).setCell ⟨b,5,X⟩ y5).setCell ⟨b,6,X⟩ y6)=W1) :
  W1.heap[b]?=M (I #[y0,y1,y2,y3,y4,y5,y6] 35 (0,0))∧KeepT 73 W W1∧(∀a:N,Ext a W→a.heap.size≤b→Ext a W1)∧∀c o,c≠b→W1.cell? ⟨c,o,X⟩=W.cell? ⟨c,o,X⟩:=by
 have h0:RuP b W #[x0,x1,x2,x3,x4,x5,x6] W:=⟨k,KeepT.refl _ _,fun a ha _=>ha,fun c o _=>rfl⟩;have h:=((((((h0.put 0 y0 (c':=#[y0,x1,x2,x3,x4,x5,x6]) rfl).put 1 y1 (c':=#[y0,y1,x2,x3,x4,x5,x6]) rfl).put 2 y2 (c':=#[y0,y1,y2,x3,x4,x5,x6]) rfl).put 3 y3 (c':=#[y0,y1,y2,y3,x4,x5,x6]) rfl).put 4 y4 (c':=#[y0,y1,y2,y3,y4,x5,x6]) rfl).put 5 y5 (c':=#[y0,y1,y2,y3,y4,y5,x6]) rfl).put 6 y6 (c':=#[y0,y1,y2,y3,y4,y5,y6]) rfl;rw [hW]at h;exact h
theorem zk8 {x:Int} (h1:0<x) (h2:x≤9223372036854775808):¬IntKind.i64.wrap x=0:=by
 by_cases h:x=9223372036854775808
 ·subst h;decide
 ·rw [IntWalk.i64_in x ⟨by omega,by omega⟩];omega
def CutL (w3 W5:N) (b15:Nat) (sk pin wide lap step run level:Int) (k1:Int) (t15:E) (W:N):Prop:=
 ∃x:Int,t15 = .pointer (M ⟨b15,0,X⟩)∧Ext w3 W∧KeepT 73 W5 W∧W.heap[b15]?=M (I #[O J sk,O Y pin,O Y wide,O Y x,O Y step,O Y run,O Y level] 35 (0,0))∧(k1=0→x≤lap)
def CutM (w3 W5:N) (b15:Nat) (sk pin wide lap step run level:Int) (k1:Int) (t15:E) (W:N):Prop:=
 ∃y z:Int,t15 = .pointer (M ⟨b15,0,X⟩)∧Ext w3 W∧KeepT 73 W5 W∧W.heap[b15]?=M (I #[O J sk,O Y pin,O Y wide,O Y lap,O Y step,O Y y,O Y z] 35 (0,0))∧(k1=0→run≤y∧level≤z)
theorem zk3 (w:N) (vg vp:E) (g:List (Int×Int)) (ps:List Pl) (r:Ru) (pa1 pa2 pa3:Int) (hg:IsPr w vg g) (hp:IsWr w vp ps) (hgw:Gw w) (hlap:r.lap≤9223372036854775807) (h1:0≤pa1∧pa1<65536) (h2:0≤pa2∧pa2<65536) (h3:0≤pa3∧pa3<65536) :
  Calls Tryz.prog 4 #[.agg #[vg,vp],.agg (ruc r),O .u16 pa1,O .u16 pa2,O .u16 pa3] w fun e w'=>e = .returned (.bool true)∧Ext w w':=by
 have HF:=hd9 (fun(W:N) (hW:Ext w W)=>zmh W vg vp g ps (hg.ext' hW) (hp.ext' hW));have HW:=hd9 (fun(hf:fewB g ps=true) (W:N) (hW:Ext w W)=>ziY W vg vp g ps (hg.ext' hW) (hp.ext' hW) (zgw hf).1 (by have:=(zgw hf).2.1;omega) (zgw hf).2.2);have HA:=hd9 (fun(W:N) (hW:Ext w W)=>zkJ W (hgw.ext hW));have HG:=hd9 hgw;obtain⟨ga,gc,rfl⟩:=hg.form;obtain⟨pa,pc1,rfl⟩:=hp.form;obtain⟨gn,hgn⟩:∃x,g.length=x:=⟨_,rfl⟩;obtain⟨pn,hpn⟩:∃x,ps.length=x:=⟨_,rfl⟩;rw [hgn,hpn]at HF HW ⊢;clear hg hp hgw hgn hpn;obtain⟨sk,pin,wide,lap,step,run,level⟩:=r;dsimp only at hlap;unfold ruc;dsimp only
 cases hfew:fewB g ps with
 | false =>
  rw [hfew]at HF;clear HW;go_enter Tryz.func4,Tryz.ntmps4
  go_wp2_with(first|(go_at_call 8;(with_reducible refine(HF.out _ ?_).mono ?_);exact eA;rintro e w1 ⟨rfl,hx1⟩;have X1:Ext w w1:=eA)|(go_at_call 9;(with_reducible refine(HA.out _ X1).mono ?_);rintro e w2 ⟨rfl,hx2⟩))
  go_ret;exact⟨rfl,X1.trans hx2⟩
 | true =>
  rw [hfew]at HF;have HW:=hd9 (HW.out hfew);clear hfew;go_enter Tryz.func4,Tryz.ntmps4
  go_upto_region 3 with (go_at_call 8;(with_reducible refine(HF.out _ ?_).mono ?_);exact eA;rintro e w1 ⟨rfl,hx1⟩;have X1:Ext w w1:=eA;obtain⟨⟨hc1,hf1⟩,z1_0,z1_1⟩:=cK2 w hx1)
  go_cut [11,12] (WRu w g ps ⟨sk,pin,wide,lap,step,run,level⟩)
  case first =>
   refine zao (fun i=>decide (5<i)) (CellL [(⟨w.heap.size,0,X⟩,Z ga gn gc),(⟨w.heap.size,1,X⟩,Z pa pn pc1),(⟨w.heap.size+1,0,X⟩,O J sk),(⟨w.heap.size+1,1,X⟩,O Y pin),(⟨w.heap.size+1,2,X⟩,O Y wide),(⟨w.heap.size+1,3,X⟩,O Y lap),(⟨w.heap.size+1,4,X⟩,O Y step),(⟨w.heap.size+1,5,X⟩,O Y run),(⟨w.heap.size+1,6,X⟩,O Y level)]) (by kernel_rfl) ?_ (fun hHeld=>?_)
   ·refine⟨?_,?_,?_,?_,?_,?_,?_,?_,?_,trivial⟩<;>go_simp
   refine tu1 (i:=0) ?_;refine tu1 (i:=2) ?_;have H0:=CellL.undrew hHeld;have zd:=X1.size;refine callHU3 (i:=1) (j:=3) (k:=4) (fun K hK=>?h1) (fun K hK=>?h3) (fun K hK=>?h4)
   case h1 =>
    go_simp
    (with_reducible refine Calls.mono (HW.out _ eA) ?_)
    rintro e w2 ⟨vg2,vp2,rfl,hg2,ho2,hx2⟩;obtain⟨ga2,gn2,gc2,rfl⟩:=form3 hg2
    go_wp2_with fail
    refine kO hK (fun _=>CellL.ext hHeld hx2) (fun hHeld=>?_);clear hK K;have hHeld:=hHeld rfl;obtain⟨pa2,pn2,pc2,rfl⟩:=form3 ho2.pls;have z2:=hx2.size;simp only [wZ,qdZ]at z2;refine callHU2 (i:=3) (j:=4) (fun K hK=>?f1a) (fun K hK=>?f2a)
    case f1a =>
     go_simp;refine kO hK (fun _=>CellL.ext hHeld ((Ext.refl _).alloc _)) (fun hHeld=>?_);clear hK K;have hHeld:=hHeld rfl;refine cu1 (i:=4) fun K hK=>?_
     go_simp;refine kO hK (fun _=>CellL.ext hHeld ((Ext.refl _).alloc _)) (fun hHeld=>?_);clear hK K;have hHeld:=hHeld rfl;have hE:Ext w2 ((w2.alloc (I #[Z X 0 0,Z X 0 0] 33)).alloc (I #[O J 0,O Y 0,O Y 0,O Y 0,O Y 0,O Y 0,O Y 0] 35)):=eA;have q5:((w2.alloc (I #[Z X 0 0,Z X 0 0] 33)).alloc (I #[O J 0,O Y 0,O Y 0,O Y 0,O Y 0,O Y 0,O Y 0] 35)).heap[w2.heap.size]?=M (I #[Z X 0 0,Z X 0 0] 33 (0,0)):=(((Ext.refl _).alloc _).heapS (qhA _ _ _ rfl));have q6:((w2.alloc (I #[Z X 0 0,Z X 0 0] 33)).alloc (I #[O J 0,O Y 0,O Y 0,O Y 0,O Y 0,O Y 0,O Y 0] 35)).heap[w2.heap.size+1]?=M (I #[O J 0,O Y 0,O Y 0,O Y 0,O Y 0,O Y 0,O Y 0] 35 (0,0)):=(qhA _ _ _ (by simp));have hF:Ext w1 ((w2.alloc (I #[Z X 0 0,Z X 0 0] 33)).alloc (I #[O J 0,O Y 0,O Y 0,O Y 0,O Y 0,O Y 0,O Y 0] 35)):=eA;obtain⟨W9,hW9⟩:∃W,((w2.alloc (I #[Z X 0 0,Z X 0 0] 33)).alloc (I #[O J 0,O Y 0,O Y 0,O Y 0,O Y 0,O Y 0,O Y 0] 35))=W:=⟨_,rfl⟩;rw [hW9]at hE q5 q6 hF hHeld ⊢;have hb5:w1.heap.size≤w2.heap.size:=by omega
     have n5:(w2.heap.size)≠(w2.heap.size+1):=by omega
     have nf5:=qfB q5;have nf6:=qfB q6;have n50:=qcB q5 (i:=0) (u:=Z X 0 0) rfl;have n51:=qcB q5 (i:=1) (u:=Z X 0 0) rfl;have n60:=qcB q6 (i:=0) (u:=O J 0) rfl;have n61:=qcB q6 (i:=1) (u:=O Y 0) rfl;have n62:=qcB q6 (i:=2) (u:=O Y 0) rfl;have n63:=qcB q6 (i:=3) (u:=O Y 0) rfl;have n64:=qcB q6 (i:=4) (u:=O Y 0) rfl;have n65:=qcB q6 (i:=5) (u:=O Y 0) rfl;have n66:=qcB q6 (i:=6) (u:=O Y 0) rfl;refine cu1 (i:=5) fun K hK=>?_
     go_simp;refine kO hK (fun _=>CellL.ext H0 (hF.set2 hb5 _ _)) (fun hHeld=>?_);clear hK K;refine cu1 (i:=6) fun K hK=>?_
     go_simp;refine kO hK (fun h=>nomatch h) (fun hHeld=>?_);clear hK K;refine doneHU (by kernel_rfl) ?_ _;clear hHeld H0;go_wp2;go_meet;refine zeB (r:=⟨sk,pin,wide,lap,step,run,level⟩) ?_ ?_ ?_ q5 q6 (hg2.ext' hE) (ho2.extM hE) ?_ (X1.trans hF) rfl
     ·omega
     ·omega
     ·omega
     ·simp only [wZ,qdZ]
      omega
    case f2a =>
     go_simp;refine kO hK (fun _=>CellL.ext hHeld ((Ext.refl _).alloc _)) (fun hHeld=>?_);clear hK K;have hHeld:=hHeld rfl;refine cu1 (i:=3) fun K hK=>?_
     go_simp;refine kO hK (fun _=>CellL.ext hHeld ((Ext.refl _).alloc _)) (fun hHeld=>?_);clear hK K;have hHeld:=hHeld rfl;have hE:Ext w2 ((w2.alloc (I #[O J 0,O Y 0,O Y 0,O Y 0,O Y 0,O Y 0,O Y 0] 35)).alloc (I #[Z X 0 0,Z X 0 0] 33)):=eA;have q5:((w2.alloc (I #[O J 0,O Y 0,O Y 0,O Y 0,O Y 0,O Y 0,O Y 0] 35)).alloc (I #[Z X 0 0,Z X 0 0] 33)).heap[w2.heap.size+1]?=M (I #[Z X 0 0,Z X 0 0] 33 (0,0)):=(qhA _ _ _ (by simp));have q6:((w2.alloc (I #[O J 0,O Y 0,O Y 0,O Y 0,O Y 0,O Y 0,O Y 0] 35)).alloc (I #[Z X 0 0,Z X 0 0] 33)).heap[w2.heap.size]?=M (I #[O J 0,O Y 0,O Y 0,O Y 0,O Y 0,O Y 0,O Y 0] 35 (0,0)):=(((Ext.refl _).alloc _).heapS (qhA _ _ _ rfl));have hF:Ext w1 ((w2.alloc (I #[O J 0,O Y 0,O Y 0,O Y 0,O Y 0,O Y 0,O Y 0] 35)).alloc (I #[Z X 0 0,Z X 0 0] 33)):=eA;obtain⟨W9,hW9⟩:∃W,((w2.alloc (I #[O J 0,O Y 0,O Y 0,O Y 0,O Y 0,O Y 0,O Y 0] 35)).alloc (I #[Z X 0 0,Z X 0 0] 33))=W:=⟨_,rfl⟩;rw [hW9]at hE q5 q6 hF hHeld ⊢;have hb5:w1.heap.size≤w2.heap.size+1:=by omega
     have n5:(w2.heap.size+1)≠(w2.heap.size):=by omega
     have nf5:=qfB q5;have nf6:=qfB q6;have n50:=qcB q5 (i:=0) (u:=Z X 0 0) rfl;have n51:=qcB q5 (i:=1) (u:=Z X 0 0) rfl;have n60:=qcB q6 (i:=0) (u:=O J 0) rfl;have n61:=qcB q6 (i:=1) (u:=O Y 0) rfl;have n62:=qcB q6 (i:=2) (u:=O Y 0) rfl;have n63:=qcB q6 (i:=3) (u:=O Y 0) rfl;have n64:=qcB q6 (i:=4) (u:=O Y 0) rfl;have n65:=qcB q6 (i:=5) (u:=O Y 0) rfl;have n66:=qcB q6 (i:=6) (u:=O Y 0) rfl;refine cu1 (i:=5) fun K hK=>?_
     go_simp;refine kO hK (fun _=>CellL.ext H0 (hF.set2 hb5 _ _)) (fun hHeld=>?_);clear hK K;refine cu1 (i:=6) fun K hK=>?_
     go_simp;refine kO hK (fun h=>nomatch h) (fun hHeld=>?_);clear hK K;refine doneHU (by kernel_rfl) ?_ _;clear hHeld H0;go_wp2;go_meet;refine zeB (r:=⟨sk,pin,wide,lap,step,run,level⟩) ?_ ?_ ?_ q5 q6 (hg2.ext' hE) (ho2.extM hE) ?_ (X1.trans hF) rfl
     ·omega
     ·omega
     ·omega
     ·simp only [wZ,qdZ]
      omega
   case h3 =>
    go_simp;refine kO hK (fun _=>CellL.ext hHeld ((Ext.refl _).alloc _)) (fun hHeld=>?_);clear hK K;have hHeld:=hHeld rfl;refine callHU2 (i:=1) (j:=4) (fun K hK=>?f1b) (fun K hK=>?f2b)
    case f1b =>
     go_simp
     (with_reducible refine Calls.mono (HW.out _ eA) ?_)
     rintro e w2 ⟨vg2,vp2,rfl,hg2,ho2,hx2⟩;obtain⟨ga2,gn2,gc2,rfl⟩:=form3 hg2
     go_wp2_with fail
     refine kO hK (fun _=>CellL.ext hHeld hx2) (fun hHeld=>?_);clear hK K;have hHeld:=hHeld rfl;obtain⟨pa2,pn2,pc2,rfl⟩:=form3 ho2.pls;have z2:=hx2.size;simp only [wZ,qdZ]at z2;refine cu1 (i:=4) fun K hK=>?_
     go_simp;refine kO hK (fun _=>CellL.ext hHeld ((Ext.refl _).alloc _)) (fun hHeld=>?_);clear hK K;have hHeld:=hHeld rfl;have hE:Ext w2 (w2.alloc (I #[O J 0,O Y 0,O Y 0,O Y 0,O Y 0,O Y 0,O Y 0] 35)):=eA;have q5:(w2.alloc (I #[O J 0,O Y 0,O Y 0,O Y 0,O Y 0,O Y 0,O Y 0] 35)).heap[w1.heap.size]?=M (I #[Z X 0 0,Z X 0 0] 33 (0,0)):=(((Ext.refl _).alloc _).heapS (hx2.heapS (qhA _ _ _ rfl)));have q6:(w2.alloc (I #[O J 0,O Y 0,O Y 0,O Y 0,O Y 0,O Y 0,O Y 0] 35)).heap[w2.heap.size]?=M (I #[O J 0,O Y 0,O Y 0,O Y 0,O Y 0,O Y 0,O Y 0] 35 (0,0)):=(qhA _ _ _ rfl);have hF:Ext w1 (w2.alloc (I #[O J 0,O Y 0,O Y 0,O Y 0,O Y 0,O Y 0,O Y 0] 35)):=eA;obtain⟨W9,hW9⟩:∃W,(w2.alloc (I #[O J 0,O Y 0,O Y 0,O Y 0,O Y 0,O Y 0,O Y 0] 35))=W:=⟨_,rfl⟩;rw [hW9]at hE q5 q6 hF hHeld ⊢;have hb5:w1.heap.size≤w1.heap.size:=by omega
     have n5:(w1.heap.size)≠(w2.heap.size):=by omega
     have nf5:=qfB q5;have nf6:=qfB q6;have n50:=qcB q5 (i:=0) (u:=Z X 0 0) rfl;have n51:=qcB q5 (i:=1) (u:=Z X 0 0) rfl;have n60:=qcB q6 (i:=0) (u:=O J 0) rfl;have n61:=qcB q6 (i:=1) (u:=O Y 0) rfl;have n62:=qcB q6 (i:=2) (u:=O Y 0) rfl;have n63:=qcB q6 (i:=3) (u:=O Y 0) rfl;have n64:=qcB q6 (i:=4) (u:=O Y 0) rfl;have n65:=qcB q6 (i:=5) (u:=O Y 0) rfl;have n66:=qcB q6 (i:=6) (u:=O Y 0) rfl;refine cu1 (i:=5) fun K hK=>?_
     go_simp;refine kO hK (fun _=>CellL.ext H0 (hF.set2 hb5 _ _)) (fun hHeld=>?_);clear hK K;refine cu1 (i:=6) fun K hK=>?_
     go_simp;refine kO hK (fun h=>nomatch h) (fun hHeld=>?_);clear hK K;refine doneHU (by kernel_rfl) ?_ _;clear hHeld H0;go_wp2;go_meet;refine zeB (r:=⟨sk,pin,wide,lap,step,run,level⟩) ?_ ?_ ?_ q5 q6 (hg2.ext' hE) (ho2.extM hE) ?_ (X1.trans hF) rfl
     ·omega
     ·omega
     ·omega
     ·simp only [wZ,qdZ]
      omega
    case f2b =>
     go_simp;refine kO hK (fun _=>CellL.ext hHeld ((Ext.refl _).alloc _)) (fun hHeld=>?_);clear hK K;have hHeld:=hHeld rfl;refine cu1 (i:=1) fun K hK=>?_
     go_simp
     (with_reducible refine Calls.mono (HW.out _ eA) ?_)
     rintro e w2 ⟨vg2,vp2,rfl,hg2,ho2,hx2⟩;obtain⟨ga2,gn2,gc2,rfl⟩:=form3 hg2
     go_wp2_with fail
     refine kO hK (fun _=>CellL.ext hHeld hx2) (fun hHeld=>?_);clear hK K;have hHeld:=hHeld rfl;obtain⟨pa2,pn2,pc2,rfl⟩:=form3 ho2.pls;have z2:=hx2.size;simp only [wZ,qdZ]at z2;have hF:Ext w1 w2:=eA;have q5:w2.heap[w1.heap.size]?=M (I #[Z X 0 0,Z X 0 0] 33 (0,0)):=(hx2.heapS (show ((w1.alloc (I #[Z X 0 0,Z X 0 0] 33)).alloc (I #[O J 0,O Y 0,O Y 0,O Y 0,O Y 0,O Y 0,O Y 0] 35)).heap[w1.heap.size]?=M (I #[Z X 0 0,Z X 0 0] 33 (0,0))from((Ext.refl (w1.alloc (I #[Z X 0 0,Z X 0 0] 33))).alloc _).heapS (qhA w1 _ _ rfl)));have q6:w2.heap[w1.heap.size+1]?=M (I #[O J 0,O Y 0,O Y 0,O Y 0,O Y 0,O Y 0,O Y 0] 35 (0,0)):=(hx2.heapS (show ((w1.alloc (I #[Z X 0 0,Z X 0 0] 33)).alloc (I #[O J 0,O Y 0,O Y 0,O Y 0,O Y 0,O Y 0,O Y 0] 35)).heap[w1.heap.size+1]?=M (I #[O J 0,O Y 0,O Y 0,O Y 0,O Y 0,O Y 0,O Y 0] 35 (0,0))from qhA (w1.alloc (I #[Z X 0 0,Z X 0 0] 33)) _ _ (by simp)));have hE:=Ext.refl w2;have hb5:w1.heap.size≤w1.heap.size:=by omega
     have n5:(w1.heap.size)≠(w1.heap.size+1):=by omega
     have nf5:=qfB q5;have nf6:=qfB q6;have n50:=qcB q5 (i:=0) (u:=Z X 0 0) rfl;have n51:=qcB q5 (i:=1) (u:=Z X 0 0) rfl;have n60:=qcB q6 (i:=0) (u:=O J 0) rfl;have n61:=qcB q6 (i:=1) (u:=O Y 0) rfl;have n62:=qcB q6 (i:=2) (u:=O Y 0) rfl;have n63:=qcB q6 (i:=3) (u:=O Y 0) rfl;have n64:=qcB q6 (i:=4) (u:=O Y 0) rfl;have n65:=qcB q6 (i:=5) (u:=O Y 0) rfl;have n66:=qcB q6 (i:=6) (u:=O Y 0) rfl;refine cu1 (i:=5) fun K hK=>?_
     go_simp;refine kO hK (fun _=>CellL.ext H0 (hF.set2 hb5 _ _)) (fun hHeld=>?_);clear hK K;refine cu1 (i:=6) fun K hK=>?_
     go_simp;refine kO hK (fun h=>nomatch h) (fun hHeld=>?_);clear hK K;refine doneHU (by kernel_rfl) ?_ _;clear hHeld H0;go_wp2;go_meet;refine zeB (r:=⟨sk,pin,wide,lap,step,run,level⟩) ?_ ?_ ?_ q5 q6 (hg2.ext' hE) (ho2.extM hE) ?_ (X1.trans hF) rfl
     ·omega
     ·omega
     ·omega
     ·simp only [wZ,qdZ]
      omega
   case h4 =>
    go_simp;refine kO hK (fun _=>CellL.ext hHeld ((Ext.refl _).alloc _)) (fun hHeld=>?_);clear hK K;have hHeld:=hHeld rfl;refine callHU2 (i:=1) (j:=3) (fun K hK=>?f1c) (fun K hK=>?f2c)
    case f1c =>
     go_simp
     (with_reducible refine Calls.mono (HW.out _ eA) ?_)
     rintro e w2 ⟨vg2,vp2,rfl,hg2,ho2,hx2⟩;obtain⟨ga2,gn2,gc2,rfl⟩:=form3 hg2
     go_wp2_with fail
     refine kO hK (fun _=>CellL.ext hHeld hx2) (fun hHeld=>?_);clear hK K;have hHeld:=hHeld rfl;obtain⟨pa2,pn2,pc2,rfl⟩:=form3 ho2.pls;have z2:=hx2.size;simp only [wZ,qdZ]at z2;refine cu1 (i:=3) fun K hK=>?_
     go_simp;refine kO hK (fun _=>CellL.ext hHeld ((Ext.refl _).alloc _)) (fun hHeld=>?_);clear hK K;have hHeld:=hHeld rfl;have hE:Ext w2 (w2.alloc (I #[Z X 0 0,Z X 0 0] 33)):=eA;have q5:(w2.alloc (I #[Z X 0 0,Z X 0 0] 33)).heap[w2.heap.size]?=M (I #[Z X 0 0,Z X 0 0] 33 (0,0)):=(qhA _ _ _ rfl);have q6:(w2.alloc (I #[Z X 0 0,Z X 0 0] 33)).heap[w1.heap.size]?=M (I #[O J 0,O Y 0,O Y 0,O Y 0,O Y 0,O Y 0,O Y 0] 35 (0,0)):=(((Ext.refl _).alloc _).heapS (hx2.heapS (qhA _ _ _ rfl)));have hF:Ext w1 (w2.alloc (I #[Z X 0 0,Z X 0 0] 33)):=eA;obtain⟨W9,hW9⟩:∃W,(w2.alloc (I #[Z X 0 0,Z X 0 0] 33))=W:=⟨_,rfl⟩;rw [hW9]at hE q5 q6 hF hHeld ⊢;have hb5:w1.heap.size≤w2.heap.size:=by omega
     have n5:(w2.heap.size)≠(w1.heap.size):=by omega
     have nf5:=qfB q5;have nf6:=qfB q6;have n50:=qcB q5 (i:=0) (u:=Z X 0 0) rfl;have n51:=qcB q5 (i:=1) (u:=Z X 0 0) rfl;have n60:=qcB q6 (i:=0) (u:=O J 0) rfl;have n61:=qcB q6 (i:=1) (u:=O Y 0) rfl;have n62:=qcB q6 (i:=2) (u:=O Y 0) rfl;have n63:=qcB q6 (i:=3) (u:=O Y 0) rfl;have n64:=qcB q6 (i:=4) (u:=O Y 0) rfl;have n65:=qcB q6 (i:=5) (u:=O Y 0) rfl;have n66:=qcB q6 (i:=6) (u:=O Y 0) rfl;refine cu1 (i:=5) fun K hK=>?_
     go_simp;refine kO hK (fun _=>CellL.ext H0 (hF.set2 hb5 _ _)) (fun hHeld=>?_);clear hK K;refine cu1 (i:=6) fun K hK=>?_
     go_simp;refine kO hK (fun h=>nomatch h) (fun hHeld=>?_);clear hK K;refine doneHU (by kernel_rfl) ?_ _;clear hHeld H0;go_wp2;go_meet;refine zeB (r:=⟨sk,pin,wide,lap,step,run,level⟩) ?_ ?_ ?_ q5 q6 (hg2.ext' hE) (ho2.extM hE) ?_ (X1.trans hF) rfl
     ·omega
     ·omega
     ·omega
     ·simp only [wZ,qdZ]
      omega
    case f2c =>
     go_simp;refine kO hK (fun _=>CellL.ext hHeld ((Ext.refl _).alloc _)) (fun hHeld=>?_);clear hK K;have hHeld:=hHeld rfl;refine cu1 (i:=1) fun K hK=>?_
     go_simp
     (with_reducible refine Calls.mono (HW.out _ eA) ?_)
     rintro e w2 ⟨vg2,vp2,rfl,hg2,ho2,hx2⟩;obtain⟨ga2,gn2,gc2,rfl⟩:=form3 hg2
     go_wp2_with fail
     refine kO hK (fun _=>CellL.ext hHeld hx2) (fun hHeld=>?_);clear hK K;have hHeld:=hHeld rfl;obtain⟨pa2,pn2,pc2,rfl⟩:=form3 ho2.pls;have z2:=hx2.size;simp only [wZ,qdZ]at z2;have hF:Ext w1 w2:=eA;have q5:w2.heap[w1.heap.size+1]?=M (I #[Z X 0 0,Z X 0 0] 33 (0,0)):=(hx2.heapS (show ((w1.alloc (I #[O J 0,O Y 0,O Y 0,O Y 0,O Y 0,O Y 0,O Y 0] 35)).alloc (I #[Z X 0 0,Z X 0 0] 33)).heap[w1.heap.size+1]?=M (I #[Z X 0 0,Z X 0 0] 33 (0,0))from qhA (w1.alloc (I #[O J 0,O Y 0,O Y 0,O Y 0,O Y 0,O Y 0,O Y 0] 35)) _ _ (by simp)));have q6:w2.heap[w1.heap.size]?=M (I #[O J 0,O Y 0,O Y 0,O Y 0,O Y 0,O Y 0,O Y 0] 35 (0,0)):=(hx2.heapS (show ((w1.alloc (I #[O J 0,O Y 0,O Y 0,O Y 0,O Y 0,O Y 0,O Y 0] 35)).alloc (I #[Z X 0 0,Z X 0 0] 33)).heap[w1.heap.size]?=M (I #[O J 0,O Y 0,O Y 0,O Y 0,O Y 0,O Y 0,O Y 0] 35 (0,0))from((Ext.refl (w1.alloc (I #[O J 0,O Y 0,O Y 0,O Y 0,O Y 0,O Y 0,O Y 0] 35))).alloc _).heapS (qhA w1 _ _ rfl)));have hE:=Ext.refl w2;have hb5:w1.heap.size≤w1.heap.size+1:=by omega
     have n5:(w1.heap.size+1)≠(w1.heap.size):=by omega
     have nf5:=qfB q5;have nf6:=qfB q6;have n50:=qcB q5 (i:=0) (u:=Z X 0 0) rfl;have n51:=qcB q5 (i:=1) (u:=Z X 0 0) rfl;have n60:=qcB q6 (i:=0) (u:=O J 0) rfl;have n61:=qcB q6 (i:=1) (u:=O Y 0) rfl;have n62:=qcB q6 (i:=2) (u:=O Y 0) rfl;have n63:=qcB q6 (i:=3) (u:=O Y 0) rfl;have n64:=qcB q6 (i:=4) (u:=O Y 0) rfl;have n65:=qcB q6 (i:=5) (u:=O Y 0) rfl;have n66:=qcB q6 (i:=6) (u:=O Y 0) rfl;refine cu1 (i:=5) fun K hK=>?_
     go_simp;refine kO hK (fun _=>CellL.ext H0 (hF.set2 hb5 _ _)) (fun hHeld=>?_);clear hK K;refine cu1 (i:=6) fun K hK=>?_
     go_simp;refine kO hK (fun h=>nomatch h) (fun hHeld=>?_);clear hK K;refine doneHU (by kernel_rfl) ?_ _;clear hHeld H0;go_wp2;go_meet;refine zeB (r:=⟨sk,pin,wide,lap,step,run,level⟩) ?_ ?_ ?_ q5 q6 (hg2.ext' hE) (ho2.extM hE) ?_ (X1.trans hF) rfl
     ·omega
     ·omega
     ·omega
     ·simp only [wZ,qdZ]
      omega
  case rest =>
   obtain⟨b5,b6,vg2,vp2,rfl,rfl,hne,h5,h6,K5,K6,hg2,ho2,X2⟩:=hcut;have hp2:=ho2.pls;obtain⟨ga2,gn2,gc2,rfl⟩:=form3 hg2;obtain⟨pa2',pn2,pc2,rfl⟩:=form3 hp2;unfold ruc at K6;dsimp only at K6;obtain⟨wa,rfl⟩:∃W,W=wc:=⟨_,rfl⟩;have HSu:=hd9 (fun(W:N) (hW:Ext wa W) (a b c d e f h:Int)=>zim W _ _ g ps ⟨a,b,c,d,e,f,h⟩ (hg2.ext' hW) (hp2.ext' hW) (HG.out.ext (X2.trans hW)));unfold ruc at HSu;dsimp only at HSu;have z5:=zab K5;have z6:=zab K6;have k50:=qcB K5 (i:=0) (u:=Z ga2 gn2 gc2) rfl;have k51:=qcB K5 (i:=1) (u:=Z pa2' pn2 pc2) rfl;have k60:=qcB K6 (i:=0) (u:=O J sk) rfl;have k61:=qcB K6 (i:=1) (u:=O Y pin) rfl;have k62:=qcB K6 (i:=2) (u:=O Y wide) rfl;have k63:=qcB K6 (i:=3) (u:=O Y lap) rfl;have k64:=qcB K6 (i:=4) (u:=O Y step) rfl;have k65:=qcB K6 (i:=5) (u:=O Y run) rfl;have k66:=qcB K6 (i:=6) (u:=O Y level) rfl;obtain⟨k1,hk1⟩:∃k,byE g ps ⟨sk,pin,wide,lap,step,run,level⟩=k:=⟨_,rfl⟩;have Hk1:=hd9 hk1;have HX2:=hd9 X2;have HK6:=hd9 K6;clear hg2 hp2 ho2 X2 K5 K6 HF HW h5 h6 hk1
   go_upto_region 6 with (go_at_call 13;(with_reducible refine(HSu.out _ (Ext.refl _) _ _ _ _ _ _ _).mono ?_);rintro e w3 ⟨v1,l1,rfl,hl1,hn1,hd1,hx3⟩;rw [Hk1.out]at hd1;rw [Hk1.out];obtain⟨la1,ln1,lc1,rfl⟩:=form3 hl1;have m60:=hx3.cellS k60;have m61:=hx3.cellS k61;have m62:=hx3.cellS k62;have m63:=hx3.cellS k63;have m64:=hx3.cellS k64;have m65:=hx3.cellS k65;have m66:=hx3.cellS k66)
   obtain⟨W5,hW5⟩:∃W,w3.alloc (I #[O J sk,O Y pin,O Y wide,O Y lap,O Y step,O Y run,O Y level] 35)=W:=⟨_,rfl⟩;have hE5:Ext w3 W5:=by rw [←hW5];exact(Ext.refl _).alloc _
   have K15:W5.heap[w3.heap.size]?=M (I #[O J sk,O Y pin,O Y wide,O Y lap,O Y step,O Y run,O Y level] 35 (0,0)):=by rw [←hW5];exact heap_alloc_new _ _
   have z15:=zab K15;rw [hW5];have z36:=hx3.size;obtain⟨b15,hb15⟩:∃x,w3.heap.size=x:=⟨_,rfl⟩;rw [hb15]at K15 z36 z15;simp only [hb15];have zn1:b15≠b6:=by omega
   have zn2:b6≠b15:=by omega
   have zn3:b5≠b15:=by omega
   have m63:=hE5.cellS m63;have nf:=qfB K15;have n3:=qcB K15 (i:=3) (u:=O Y lap) rfl;have HE5:=hd9 (hx3.trans hE5);have HK15:=hd9 K15;have Hl1:=hd9 (hl1.ext' hE5);have Hd1:=hd9 hd1;have Hn1:=hd9 hn1;have Hb15:=hd9 (show wa.heap.size≤b15 from z36);clear hW5 hE5 K15 hl1 hd1 hn1 hx3 hb15 m60 m61 m62 m64 m65 m66
   go_cut [15] (CutL wa W5 b15 sk pin wide lap step run level k1)
   case first =>
    have hne:∀q∈[((⟨b6,3,X⟩:Addr),Value.int Y lap)],b15≠q.1.block:=by
     intro q hq;simp at hq;subst hq;exact zn1
    have q4:IntKind.i64.wrap pa1=pa1:=IntWalk.i64_in _ ⟨by omega,by omega⟩
    by_cases hk:k1=0
    ·obtain⟨_,l0,l1,_⟩:=zem (Hk1.out.trans hk)
     dsimp only at l0 l1;clear hk;have q1:max lap 0=lap:=by omega
     have q2:IntKind.i64.wrap (lap+1)=lap+1:=IntWalk.i64_in _ ⟨by omega,by omega⟩;have q2':wrap64 (lap+1)=lap+1:=IntWalk.wrap64_in _ ⟨by omega,by omega⟩;have q3:¬lap+1=0:=by omega
     have q3':(lap+1==0)=false:=by simpa using q3
     obtain⟨q,hq⟩:∃q,pa1.tmod (lap+1)=q:=⟨_,rfl⟩;have hqb:0≤q∧q<lap+1:=by rw [←hq];exact⟨Int.tmod_nonneg _ h1.1,Int.tmod_lt_of_pos _ (by omega)⟩
     have q5:IntKind.i64.wrap (pa1.tmod (lap+1))=q:=by rw [hq];exact IntWalk.i64_in _ ⟨by omega,by omega⟩
     have q6:IntKind.i64.wrap (lap-q)=lap-q:=IntWalk.i64_in _ ⟨by omega,by omega⟩;have q6':wrap64 (lap-q)=lap-q:=IntWalk.wrap64_in _ ⟨by omega,by omega⟩;refine wp_region_held_drew (S:=CellL [(⟨b6,3,X⟩,O Y lap)]) (by kernel_rfl) (by refine⟨?_,trivial⟩<;>go_simp) (fun hHeld=>?_);refine tk1 (i:=0) ?_;refine tk1 (i:=1) ?_;refine tk1 (i:=2) ?_;refine tk1 (i:=3) ?_;refine tk1 (i:=4) ?_;refine tk1 (i:=5) ?_;refine tk1 (i:=6) ?_;refine tk1 (i:=7) ?_;refine tk1 (i:=8) ?_;refine tk1 (i:=9) ?_;refine tk1 (i:=10) ?_;refine cl1 (i:=11) fun K hK=>?_
     go_simp;refine kO hK (CellL.set (p:=⟨b15,3,X⟩) hHeld hne _) (fun hHeld=>?_);clear hK K;refine wpAnyH_done (by kernel_rfl) ?_ _;go_wp2;go_meet;exact⟨_,rfl,HE5.out.drew.set (by exact Hb15.out) _,((Ext.refl W5).drew.keep).set (p:=⟨b15,3,X⟩) (show W5.drew.heap[b15]?=_ from HK15.out) (by decide) _,zag (show W5.drew.heap[b15]?=_ from HK15.out) 3 _,fun _=>by omega⟩
    ·obtain⟨dv,hdv⟩:∃x,IntKind.i64.wrap (max lap 0+1)=x:=⟨_,rfl⟩
     have hd0:¬dv=0:=by
      rw [←hdv];exact zk8 (by omega) (by omega)
     have hd0':(dv==0)=false:=by simpa using hd0
     have Hk:=hd9 hk;clear hk;refine wp_region_held_drew (S:=CellL [(⟨b6,3,X⟩,O Y lap)]) (by kernel_rfl) (by refine⟨?_,trivial⟩<;>go_simp) (fun hHeld=>?_);refine tk1 (i:=0) ?_;refine tk1 (i:=1) ?_;refine tk1 (i:=2) ?_;refine tk1 (i:=3) ?_;refine tk1 (i:=4) ?_;refine tk1 (i:=5) ?_;refine tk1 (i:=6) ?_;refine tk1 (i:=7) ?_;refine tk1 (i:=8) ?_;refine tk1 (i:=9) ?_;refine tk1 (i:=10) ?_;refine cl1 (i:=11) fun K hK=>?_
     go_simp;refine kO hK (CellL.set (p:=⟨b15,3,X⟩) hHeld hne _) (fun hHeld=>?_);clear hK K;refine wpAnyH_done (by kernel_rfl) ?_ _;go_wp2;go_meet;exact⟨_,rfl,HE5.out.drew.set (by exact Hb15.out) _,((Ext.refl W5).drew.keep).set (p:=⟨b15,3,X⟩) (show W5.drew.heap[b15]?=_ from HK15.out) (by decide) _,zag (show W5.drew.heap[b15]?=_ from HK15.out) 3 _,fun h=>absurd h Hk.out⟩
   case rest =>
    obtain⟨x,rfl,hXc,hkf,hK,hxl⟩:=hcut;have b60:=hXc.cellS k60;have b61:=hXc.cellS k61;have b62:=hXc.cellS k62;have b63:=hXc.cellS k63;have b64:=hXc.cellS k64;have b65:=hXc.cellS k65;have b66:=hXc.cellS k66;have b50:=hXc.cellS k50;have b51:=hXc.cellS k51;have c0:=qcB hK (i:=0) (u:=O J sk) rfl;have c1:=qcB hK (i:=1) (u:=O Y pin) rfl;have c2:=qcB hK (i:=2) (u:=O Y wide) rfl;have c3:=qcB hK (i:=3) (u:=O Y x) rfl;have c4:=qcB hK (i:=4) (u:=O Y step) rfl;have c5:=qcB hK (i:=5) (u:=O Y run) rfl;have c6:=qcB hK (i:=6) (u:=O Y level) rfl;have Hxl:=hd9 hxl;have HXc:=hd9 hXc;have HK:=hd9 hK;have Hl1:=hd9 (Sl.keep Hl1.out (fun _ _ h=>h) hkf);obtain⟨k2,hk2⟩:∃k,byE g ps ⟨sk,pin,wide,x,step,run,level⟩=k:=⟨_,rfl⟩;have Hk2:=hd9 hk2;clear hxl hXc hK hkf hk2 m63 nf n3
    go_upto_region 9 with (go_at_call 13;(with_reducible refine(HSu.out _ HXc.out _ _ _ _ _ _ _).mono ?_);rintro e w4 ⟨v2,l2,rfl,hl2,hn2,hd2,hx4⟩;rw [Hk2.out]at hd2;rw [Hk2.out];obtain⟨la2,ln2,lc2,rfl⟩:=form3 hl2;have b60:=hx4.cellS b60;have b61:=hx4.cellS b61;have b62:=hx4.cellS b62;have b63:=hx4.cellS b63;have b64:=hx4.cellS b64;have b65:=hx4.cellS b65;have b66:=hx4.cellS b66;have c0:=hx4.cellS c0;have c1:=hx4.cellS c1;have c2:=hx4.cellS c2;have c3:=hx4.cellS c3;have c4:=hx4.cellS c4;have c5:=hx4.cellS c5;have c6:=hx4.cellS c6;have K4:=hx4.heapS HK.out;have nf4:=qfB K4)
    obtain⟨W6,hW6⟩:∃W,(((((((w4.setCell ⟨b15,0,X⟩ (O J sk)).setCell ⟨b15,1,X⟩ (O Y pin)).setCell ⟨b15,2,X⟩ (O Y wide)).setCell ⟨b15,3,X⟩ (O Y lap)).setCell ⟨b15,4,X⟩ (O Y step)).setCell ⟨b15,5,X⟩ (O Y run)).setCell ⟨b15,6,X⟩ (O Y level))=W:=⟨_,rfl⟩;obtain⟨K7,hkf6,hX6,hcl6⟩:=znE K4 hW6;rw [hW6];have d5:W6.cell? ⟨b6,5,X⟩=M (O Y run):=by rw [hcl6 _ _ zn2];exact b65
    have d6:W6.cell? ⟨b6,6,X⟩=M (O Y level):=by rw [hcl6 _ _ zn2];exact b66
    have X6:=hX6 wa (HXc.out.trans hx4) Hb15.out;have nf6:=qfB K7;have n65:=qcB K7 (i:=5) (u:=O Y run) rfl;have n66:=qcB K7 (i:=6) (u:=O Y level) rfl;have HX6:=hd9 X6;have HK7:=hd9 K7;have Hl2:=hd9 (Sl.keep hl2 (fun _ _ h=>h) hkf6);have Hl1:=hd9 (Sl.keep (Sl.ext Hl1.out (fun _ _ h=>h) hx4) (fun _ _ h=>h) hkf6);have Hd2:=hd9 hd2;have Hn2:=hd9 hn2;clear hW6 hkf6 hX6 hcl6 X6 K7 hl2 hd2 hn2 hx4 b60 b61 b62 b63 b64 b65 b66 c0 c1 c2 c3 c4 c5 c6 K4 nf4 b50 b51
    go_cut [15] (CutM wa W6 b15 sk pin wide lap step run level k1)
    case first =>
     have hne:∀q∈[((⟨b6,5,X⟩:Addr),Value.int Y run),(⟨b6,6,X⟩,O Y level)],b15≠q.1.block:=by
      intro q hq;simp at hq
      rcases hq with rfl|rfl<;>exact zn1
     have q4:IntKind.i64.wrap pa2=pa2:=IntWalk.i64_in _ ⟨by omega,by omega⟩;have q5:IntKind.i64.wrap pa3=pa3:=IntWalk.i64_in _ ⟨by omega,by omega⟩;obtain⟨sy,hsy⟩:∃y,IntKind.i64.wrap (run+pa2)=y:=⟨_,rfl⟩;obtain⟨sz,hsz⟩:∃y,IntKind.i64.wrap (level+pa3)=y:=⟨_,rfl⟩
     have Hm:=hd9 (show k1=0→run≤min sy 10000∧level≤min sz 10000 from fun hk=>by
      obtain⟨_,_,_,r0,r1,v0,v1⟩:=zem (Hk1.out.trans hk);dsimp only at r0 r1 v0 v1;rw [IntWalk.i64_in _ ⟨by omega,by omega⟩]at hsy hsz;omega)
     refine wp_region_held_drew (S:=CellL [(⟨b6,5,X⟩,O Y run),(⟨b6,6,X⟩,O Y level)]) (by kernel_rfl) (by refine⟨?_,?_,trivial⟩<;>go_simp) (fun hHeld=>?_);refine tk1 (i:=0) ?_;refine tk1 (i:=1) ?_;refine tk1 (i:=2) ?_;refine tk1 (i:=3) ?_;refine tk1 (i:=4) ?_;refine tk1 (i:=5) ?_;refine tk1 (i:=6) ?_;refine tk1 (i:=7) ?_;refine tk1 (i:=8) ?_;refine tk1 (i:=9) ?_;refine tk1 (i:=10) ?_;refine tk1 (i:=11) ?_;refine tk1 (i:=12) ?_;refine cl1 (i:=13) fun K hK=>?_
     go_simp;refine kO hK (CellL.set (p:=⟨b15,5,X⟩) hHeld hne _) (fun hHeld=>?_);clear hK K;refine tk1 (i:=14) ?_;refine cl1 (i:=15) fun K hK=>?_
     go_simp;refine kO hK (CellL.set (p:=⟨b15,6,X⟩) hHeld hne _) (fun hHeld=>?_);clear hK K;refine wpAnyH_done (by kernel_rfl) ?_ _;go_wp2;go_meet;have e5:=zag (show W6.drew.heap[b15]?=_ from HK7.out) 5 (O Y (min sy 10000));exact⟨_,_,rfl,(HX6.out.drew.set (by exact Hb15.out) _).set (by exact Hb15.out) _,(((Ext.refl W6).drew.keep).set (p:=⟨b15,5,X⟩) (show W6.drew.heap[b15]?=_ from HK7.out) (by decide) _).set (p:=⟨b15,6,X⟩) e5 (by decide) _,zag e5 6 (O Y (min sz 10000)),Hm.out⟩
    case rest =>
     obtain⟨y,z,rfl,hXc,hkf,hK,hyz⟩:=hcut;have b50:=hXc.cellS k50;have b51:=hXc.cellS k51;have c0:=qcB hK (i:=0) (u:=O J sk) rfl;have c1:=qcB hK (i:=1) (u:=O Y pin) rfl;have c2:=qcB hK (i:=2) (u:=O Y wide) rfl;have c3:=qcB hK (i:=3) (u:=O Y lap) rfl;have c4:=qcB hK (i:=4) (u:=O Y step) rfl;have c5:=qcB hK (i:=5) (u:=O Y y) rfl;have c6:=qcB hK (i:=6) (u:=O Y z) rfl;have Hyz:=hd9 hyz;have HXc:=hd9 hXc;have Hl1:=hd9 (Sl.keep Hl1.out (fun _ _ h=>h) hkf);have Hl2:=hd9 (Sl.keep Hl2.out (fun _ _ h=>h) hkf);obtain⟨k3,hk3⟩:∃k,byE g ps ⟨sk,pin,wide,lap,step,y,z⟩=k:=⟨_,rfl⟩;have Hk3:=hd9 hk3;clear hyz hXc hK hkf hk3 d5 d6 nf6 n65 n66
     go_upto_region 11 with (go_at_call 13;(with_reducible refine(HSu.out _ HXc.out _ _ _ _ _ _ _).mono ?_);rintro e w7 ⟨v3,l3,rfl,hl3,hn3,hd3,hx7⟩;rw [Hk3.out]at hd3;rw [Hk3.out];obtain⟨la3,ln3,lc3,rfl⟩:=form3 hl3)
     have X7:Ext w w7:=HX2.out.trans (HXc.out.trans hx7);have Hq1:=hd9 (show IsFds w7 (Z la1 ln1 lc1) l1 from Sl.ext Hl1.out (fun _ _ h=>h) hx7);have Hq2:=hd9 (show IsFds w7 (Z la2 ln2 lc2) l2 from Sl.ext Hl2.out (fun _ _ h=>h) hx7);have Hq3:=hd9 hl3;have Hd3:=hd9 hd3;have Hn3:=hd9 hn3;clear hl3 hd3 hn3 hx7 b50 b51 c0 c1 c2 c3 c4 c5 c6 k50 k51 k60 k61 k62 k63 k64 k65 k66 HSu
     by_cases hzk1:k1=0
     ·subst hzk1
      by_cases hzk2:k2=0
      ·subst hzk2
       by_cases hzk3:k3=0
       ·subst hzk3
        have hl0:=(zem Hk1.out).1;have m1:=zk7 hl0 (Hd1.out rfl) (Hd2.out rfl) rfl rfl rfl rfl rfl rfl (Hxl.out rfl);have m2:=zlR hl0 (Hd1.out rfl) (Hd3.out rfl) rfl rfl rfl rfl rfl (Hyz.out rfl).1 (Hyz.out rfl).2;have p1:((cntF [1,2] l2:Nat):Int)≤((cntF [1,2] l1:Nat):Int):=by omega
        have p2:((cntF [3,4] l2:Nat):Int)=((cntF [3,4] l1:Nat):Int):=by omega
        have p2':(((cntF [3,4] l2:Nat):Int)==((cntF [3,4] l1:Nat):Int))=true:=by simpa using p2
        have p3:((cntF [1] l3:Nat):Int)≤((cntF [1] l1:Nat):Int):=by omega
        have p4:((cntF [4] l3:Nat):Int)≤((cntF [4] l1:Nat):Int):=by omega
        have HC12:=hd9 (fun(W:N) (hW:Ext w7 W) (a b:Int)=>zby (W.alloc (I #[O J a,O J b] 5)) _ (Z (M ⟨W.heap.size,0,X⟩) 2 2) l1 [a,b] (Hq1.out.ext' (hW.alloc _)) (zi3 W rfl a b) (by have:=Hn1.out;omega) (by simp));have HC11:=hd9 (fun(W:N) (hW:Ext w7 W) (a:Int)=>zby (W.alloc (I #[O J a] 5)) _ (Z (M ⟨W.heap.size,0,X⟩) 1 1) l1 [a] (Hq1.out.ext' (hW.alloc _)) (zj4 W rfl a) (by have:=Hn1.out;omega) (by simp));have HC22:=hd9 (fun(W:N) (hW:Ext w7 W) (a b:Int)=>zby (W.alloc (I #[O J a,O J b] 5)) _ (Z (M ⟨W.heap.size,0,X⟩) 2 2) l2 [a,b] (Hq2.out.ext' (hW.alloc _)) (zi3 W rfl a b) (by have:=Hn2.out;omega) (by simp));have HC21:=hd9 (fun(W:N) (hW:Ext w7 W) (a:Int)=>zby (W.alloc (I #[O J a] 5)) _ (Z (M ⟨W.heap.size,0,X⟩) 1 1) l2 [a] (Hq2.out.ext' (hW.alloc _)) (zj4 W rfl a) (by have:=Hn2.out;omega) (by simp));have HC32:=hd9 (fun(W:N) (hW:Ext w7 W) (a b:Int)=>zby (W.alloc (I #[O J a,O J b] 5)) _ (Z (M ⟨W.heap.size,0,X⟩) 2 2) l3 [a,b] (Hq3.out.ext' (hW.alloc _)) (zi3 W rfl a b) (by have:=Hn3.out;omega) (by simp));have HC31:=hd9 (fun(W:N) (hW:Ext w7 W) (a:Int)=>zby (W.alloc (I #[O J a] 5)) _ (Z (M ⟨W.heap.size,0,X⟩) 1 1) l3 [a] (Hq3.out.ext' (hW.alloc _)) (zj4 W rfl a) (by have:=Hn3.out;omega) (by simp));clear m1 m2 hl0
        go_wp2_with(first|(go_at_call 14;(with_reducible refine(HC12.out _ ?_ _ _).mono ?_);exact eA;rintro e w8 ⟨rfl,hx8⟩)|(go_at_call 14;(with_reducible refine(HC11.out _ ?_ _).mono ?_);exact eA;rintro e w8 ⟨rfl,hx8⟩)|(go_at_call 14;(with_reducible refine(HC22.out _ ?_ _ _).mono ?_);exact eA;rintro e w8 ⟨rfl,hx8⟩)|(go_at_call 14;(with_reducible refine(HC21.out _ ?_ _).mono ?_);exact eA;rintro e w8 ⟨rfl,hx8⟩)|(go_at_call 14;(with_reducible refine(HC32.out _ ?_ _ _).mono ?_);exact eA;rintro e w8 ⟨rfl,hx8⟩)|(go_at_call 14;(with_reducible refine(HC31.out _ ?_ _).mono ?_);exact eA;rintro e w8 ⟨rfl,hx8⟩)|(go_at_call 9;(with_reducible refine(HA.out _ ?_).mono ?_);exact eA;rintro e w8 ⟨rfl,hx8⟩))
        go_ret;exact⟨rfl,eA⟩
       ·skip
        have u0:(k3 != 0)=true:=by simpa using hzk3
        go_wp2_with(go_at_call 9;(with_reducible refine(HA.out _ ?_).mono ?_);exact eA;rintro e w8 ⟨rfl,hx8⟩)
        go_ret;exact⟨rfl,eA⟩
      ·skip
       have u0:(k2 != 0)=true:=by simpa using hzk2
       go_wp2_with(go_at_call 9;(with_reducible refine(HA.out _ ?_).mono ?_);exact eA;rintro e w8 ⟨rfl,hx8⟩)
       go_ret;exact⟨rfl,eA⟩
     ·skip
      have u0:(k1 != 0)=true:=by simpa using hzk1
      go_wp2_with(go_at_call 9;(with_reducible refine(HA.out _ ?_).mono ?_);exact eA;rintro e w8 ⟨rfl,hx8⟩)
      go_ret;exact⟨rfl,eA⟩
end Go.Proofs.YteipgejmhfpkaaaGreatDoor.Cop
namespace Go.Proofs.YteipgejmhfpkaaaGreatDoor.Cop
open Go.ChangeShapes Go.WideShapes Go.Deep
section
variable {H:Type} {enc:TypeId×Value→H} {P:Program} {w:World} {spare:Nat→Bool} {held:Bool}
theorem zha {k:Nat}:∀{css:List (List Value)} {j:Nat} {x:Value},0<k→(∀c∈css,c.length=k)→css.flatten[j]?=some x→∃d,css[j / k]?=some d∧d[j % k]?=some x
 | [],j,x,_,_,h=>by simp at h
 | c::css,j,x,hk,hc,h=>by
  have hl:c.length=k:=hc c (by simp);rw [List.flatten_cons]at h
  by_cases hj:j<k
  ·rw [List.getElem?_append_left (by omega)]at h
   rw [Nat.div_eq_of_lt hj,Nat.mod_eq_of_lt hj];exact⟨c,rfl,h⟩
  ·rw [List.getElem?_append_right (by omega),hl]at h
   obtain⟨d,h1,h2⟩:=zha (j:=j-k) hk (fun c hc'=>hc c (List.mem_cons_of_mem _ hc')) h;rw [Nat.div_eq_sub_div hk (by omega),Nat.mod_eq_sub_mod (by omega)];exact⟨d,by simpa using h1,h2⟩
theorem zdN {t e:TypeId} {k fuel:Nat} {cs:List Value} {x:DataW H×List MemPlace} (ht:P.underlying t=some (.slice e)) (hk:P.cellsOf e=k) (hk0:0<k)
  (h:DataW.trod enc P w 0 spare held fuel t cs=some x) :
  ∃(a:Option Addr) (n c:Nat) (T:TypeId) (css:List (List Value)),cs=[.slice a n c]∧css.length=n∧(∀d∈css,d.length=k)∧Rd w T k (.slice a n c) n css.flatten ∧
   ∀d∈css,∃m y,DataW.trod enc P w 0 spare held m e d=some y:=by
 rcases open_slice ht h with ⟨rfl,_⟩|⟨a,len,cap,m,f,D,Pl,rfl,_,hl,hm,hmm,_,hel⟩
 ·exact⟨none,0,0,0,[],rfl,rfl,by simp,Rd.nil w 0 k,by simp⟩
 ·have hlm:len≤m:=by rw [hmm];split<;>omega
  rw [hk]at hel;obtain⟨F,hF⟩:=choose_lt (α:=List Value) (n:=len) (p:=fun i d=>w.cells? 0 (a.add (i*k)) k=some d∧DataW.trod enc P w 0 spare held f e d=some (D i,Pl i)) (fun i hi=>hel i (by omega))
  have hlen:∀d∈(List.range len).map F,d.length=k:=by
   intro d hd;obtain⟨i,hi,rfl⟩:=List.mem_map.1 hd;exact(World.cells?_some (hF i (List.mem_range.1 hi)).1).2.1
  have hall:∀d∈(List.range len).map F,∃m y,DataW.trod enc P w 0 spare held m e d=some y:=by
   intro d hd;obtain⟨i,hi,rfl⟩:=List.mem_map.1 hd;exact⟨f,_,(hF i (List.mem_range.1 hi)).2⟩
  by_cases h0:len=0
  ·subst h0
   exact⟨some a,0,cap,0,[],rfl,rfl,by simp,⟨by simp,some a,cap,rfl,hl,hm,.inl ⟨rfl,fun e=>by cases e⟩⟩,by simp⟩
  ·have c0:=(World.cells?_some (hF 0 (by omega)).1).2.2 0 hk0
   have hcl:=hlen (F 0) (List.mem_map.2 ⟨0,List.mem_range.2 (by omega),rfl⟩);obtain⟨v0,hv0⟩:∃v,(F 0)[0]?=some v:=⟨(F 0)[0]'(by omega),by simp⟩;rw [hv0]at c0;obtain⟨b,o,sp⟩:=a
   have hsp:sp=none:=by
    have:=World.cell?_spot c0
    simpa [Addr.add] using this
   subst hsp;have e0:((⟨b,o,none⟩:Addr).add (0*k)).add 0=⟨b,o,none⟩:=by simp [Addr.add]
   rw [e0]at c0
   obtain⟨blk,T,fr,hblk⟩:∃blk T fr,w.heap[b]?=some (.cells blk T fr):=by
    unfold World.cell? at c0
    split at c0
    ·rename_i blk T fr hb;exact⟨blk,T,fr,hb⟩
    ·cases c0
   refine⟨some ⟨b,o,none⟩,len,cap,T,(List.range len).map F,rfl,by simp,hlen,⟨?_,some ⟨b,o,none⟩,cap,rfl,hl,hm,.inr ⟨b,o,blk,fr,rfl,hblk,fun j y hj=>?_⟩⟩,hall⟩
   ·rw [zal hlen];simp
   ·obtain⟨d,h1,h2⟩:=zha hk0 hlen hj
    obtain⟨hi,rfl⟩:j / k<len∧F (j / k)=d:=by
     rw [lP]at h1
     by_cases hi:j / k<len
     ·rw [List.getElem?_range hi]at h1
      exact⟨hi,Option.some.inj h1⟩
     ·rw [List.getElem?_eq_none (by simpa using hi)]at h1
      cases h1
    have c1:=(World.cells?_some (hF (j / k) hi).1).2.2 (j % k) (Nat.mod_lt _ hk0);rw [h2]at c1
    have e1:((⟨b,o,none⟩:Addr).add (j / k*k)).add (j % k)=⟨b,o+j,none⟩:=by
     rw [add_add];have:j / k*k+j % k=j:=by rw [Nat.mul_comm];exact Nat.div_add_mod j k
     rw [this];unfold Addr.add
     split
     ·rename_i h;rw [h];rfl
     ·rfl
    rw [e1]at c1
    simpa [World.cell?,hblk] using c1
end
def flds (P:Program) (t:TypeId):Array Field:=match P.underlying t with|some (.struct fs)=>fs|_=>#[]
section
variable {H:Type} {enc:TypeId×Value→H} {w:World} {spare:Nat→Bool} {held:Bool}
theorem fld {P:Program} {fs:Array Field} {n i ti oi ki:Nat} {cs:List Value} {xs:List (DataW H×List MemPlace)} (hx:xs.length=fs.size)
  (hf:∀(i:Nat) (f:Field),fs[i]?=some f→DataW.trod enc P w 0 spare held n f.type ((cs.drop f.offset).take (P.cellsOf f.type))=xs[i]?)
  (hi:fs[i]?.map (fun f=>(f.type,f.offset,P.cellsOf f.type))=some (ti,oi,ki)):∃y,DataW.trod enc P w 0 spare held n ti ((cs.drop oi).take ki)=some y:=by
 cases h:fs[i]? with
 | none=>rw [h]at hi;cases hi
 | some f =>
  rw [h]at hi;simp only [Option.map_some,Option.some.injEq,Prod.mk.injEq]at hi;obtain⟨rfl,rfl,rfl⟩:=hi;have hl:i<xs.length:=by rw [hx];exact(Array.getElem?_eq_some_iff.1 h).1
  exact⟨xs[i],by rw [hf i f h];simp [hl]⟩
theorem zbi:Tryz.prog.underlying 3=some (.int .i64):=by kernel_rfl
theorem zma:Tryz.prog.underlying 5=some (.int .u8):=by kernel_rfl
theorem zmR:Tryz.prog.underlying 9=some .string:=by kernel_rfl
theorem znN:Tryz.prog.underlying 88=some (.struct (flds Tryz.prog 88)):=by kernel_rfl
theorem znj:Tryz.prog.underlying 90=some (.struct (flds Tryz.prog 90)):=by kernel_rfl
theorem zny:Tryz.prog.underlying 92=some (.struct (flds Tryz.prog 92)):=by kernel_rfl
theorem zl4:Tryz.prog.underlying 25=some (.struct (flds Tryz.prog 25)):=by kernel_rfl
theorem zm5:Tryz.prog.underlying 22=some (.slice 88):=by kernel_rfl
theorem zna:Tryz.prog.underlying 23=some (.slice 92):=by kernel_rfl
theorem zbB {n:Nat} {cs:List Value} {y:DataW H×List MemPlace} (h:DataW.trod enc Tryz.prog w 0 spare held n 88 cs=some y):∃p:Int×Int,cs=[.int .i64 p.1,.int .i64 p.2]:=by
 obtain⟨xs,m,_,_,hl,hx,hf⟩:=DataW.trod_struct znN h;have hc:Tryz.prog.cellsOf 88=2:=by kernel_rfl
 rw [hc]at hl;obtain⟨y0,h0⟩:=fld hx hf (i:=0) (ti:=3) (oi:=0) (ki:=1) (by kernel_rfl);obtain⟨y1,h1⟩:=fld hx hf (i:=1) (ti:=3) (oi:=1) (ki:=1) (by kernel_rfl)
 match cs,hl with
 | [a,b],_ =>
  obtain⟨x,e0,_⟩:=DataW.trod_int zbi h0;obtain⟨z,e1,_⟩:=DataW.trod_int zbi h1;simp at e0 e1;subst e0 e1;exact⟨(x,z),rfl⟩
theorem zkf {α:Type} {Q:List Value→α→Prop}:∀{css:List (List Value)},(∀d∈css,∃a,Q d a)→∃l:List α,css.length=l.length∧∀(i:Nat) d a,css[i]?=some d→l[i]?=some a→Q d a
 | [],_=>⟨[],rfl,fun i d a h=>by simp at h⟩
 | c::css,h=>by
  obtain⟨a,ha⟩:=h c (by simp);obtain⟨l,hl,has⟩:=zkf (css:=css) (fun d hd=>h d (List.mem_cons_of_mem _ hd));refine⟨a::l,by simp [hl],fun i d b hd hb=>?_⟩
  cases i with
  | zero=>simp at hd hb;subst hd hb;exact ha
  | succ i=>exact has i d b (by simpa using hd) (by simpa using hb)
theorem zcs {n:Nat} {v:Value} {y:DataW H×List MemPlace} (h:DataW.trod enc Tryz.prog w 0 spare held n 22 [v]=some y):∃ps,IsPr w v ps:=by
 obtain⟨a,m,c,T,css,e,hl,hk,hr,hd⟩:=zdN zm5 (k:=2) (by kernel_rfl) (by omega) h
 cases e
 obtain⟨ps,hps,hq⟩:=zkf (α:=Int×Int) (Q:=PP w) (fun d h=>by
  obtain⟨f,y,hy⟩:=hd d h;obtain⟨p,hp⟩:=zbB hy;exact⟨p,hp⟩)
 exact⟨ps,T,css,hps,hk,by rw [←hps,hl];exact hr,hq⟩
theorem zen {n:Nat} {cs:List Value} {y:DataW H×List MemPlace} (h:DataW.trod enc Tryz.prog w 0 spare held n 92 cs=some y):∃p:Pl,PPr w cs p:=by
 obtain⟨xs,m,_,_,hl,hx,hf⟩:=DataW.trod_struct zny h;have hc:Tryz.prog.cellsOf 92=10:=by kernel_rfl
 rw [hc]at hl;obtain⟨y0,h0⟩:=fld hx hf (i:=0) (ti:=90) (oi:=0) (ki:=6) (by kernel_rfl);obtain⟨y1,h1⟩:=fld hx hf (i:=1) (ti:=3) (oi:=6) (ki:=1) (by kernel_rfl);obtain⟨y2,h2⟩:=fld hx hf (i:=2) (ti:=88) (oi:=7) (ki:=2) (by kernel_rfl);obtain⟨y3,h3⟩:=fld hx hf (i:=3) (ti:=5) (oi:=9) (ki:=1) (by kernel_rfl)
 match cs,hl with
 | [a0,a1,a2,a3,a4,a5,a6,a7,a8,a9],_ =>
  obtain⟨zs,k,_,_,_,hz,hg⟩:=DataW.trod_struct znj h0;obtain⟨z0,g0⟩:=fld hz hg (i:=0) (ti:=9) (oi:=0) (ki:=1) (by kernel_rfl);obtain⟨z1,g1⟩:=fld hz hg (i:=1) (ti:=22) (oi:=1) (ki:=1) (by kernel_rfl);obtain⟨z2,g2⟩:=fld hz hg (i:=2) (ti:=3) (oi:=2) (ki:=1) (by kernel_rfl);obtain⟨z3,g3⟩:=fld hz hg (i:=3) (ti:=3) (oi:=3) (ki:=1) (by kernel_rfl);obtain⟨z4,g4⟩:=fld hz hg (i:=4) (ti:=88) (oi:=4) (ki:=2) (by kernel_rfl);obtain⟨nm,e0,_⟩:=DataW.trod_string zmR g0;obtain⟨sh,hsh⟩:=zcs g1;obtain⟨de,e2,_⟩:=DataW.trod_int zbi g2;obtain⟨dn,e3,_⟩:=DataW.trod_int zbi g3;obtain⟨gr,e4⟩:=zbB g4;obtain⟨wy,e6,_⟩:=DataW.trod_int zbi h1;obtain⟨at9,e7⟩:=zbB h2;obtain⟨sk,e9,_,wsk⟩:=DataW.trod_int zma h3;simp at e0 e2 e3 e4 e6 e7 e9;obtain⟨rfl,rfl⟩:=e4;obtain⟨rfl,rfl⟩:=e7;subst e0 e2 e3 e6 e9;refine⟨⟨nm,sh,de,dn,gr.1,gr.2,wy,at9.1,at9.2,sk⟩,_,rfl,hsh,?_⟩;have w9:decide (IntKind.u8.min≤sk)=true:=by unfold Lit.wf at wsk;simp only [Bool.and_eq_true]at wsk;exact wsk.1
  have w8:IntKind.u8.min=0:=by decide
  rw [w8]at w9;exact of_decide_eq_true w9
theorem zdt {n:Nat} {v:Value} {y:DataW H×List MemPlace} (h:DataW.trod enc Tryz.prog w 0 spare held n 23 [v]=some y):∃ps,IsWr w v ps:=by
 obtain⟨a,m,c,T,css,e,hl,hk,hr,hd⟩:=zdN zna (k:=10) (by kernel_rfl) (by omega) h
 cases e
 obtain⟨ps,hps,hq⟩:=zkf (α:=Pl) (Q:=PPr w) (fun d h=>by
  obtain⟨f,y,hy⟩:=hd d h;exact zen hy)
 exact⟨ps,T,css,hps,hk,by rw [←hps,hl];exact hr,hq⟩
theorem zfV {r:Reach} {b0:Nat} {v:Value} {d:DataW H} {p:List MemPlace} (hv:Value.okWide Tryz.prog w r b0 25 v) (h:DataW.Trod enc Tryz.prog w 0 spare held 25 v d p) :
  ∃vg vp g ps,v = .agg #[vg,vp]∧IsPr w vg g∧IsWr w vp ps:=by
 obtain⟨cs,rfl,hsz⟩:=okWide_struct zl4 hv;have hc:Tryz.prog.cellsOf 25=2:=by kernel_rfl
 rw [hc]at hsz
 obtain⟨c0,c1,rfl⟩:∃a b,cs=#[a,b]:=by
  match cs,hsz with
  | ⟨[a,b]⟩,_=>exact⟨a,b,rfl⟩
 obtain⟨fuel,hf⟩:=h;obtain⟨xs,m,_,_,hl,hx,hg⟩:=DataW.trod_struct zl4 hf;obtain⟨y0,h0⟩:=fld hx hg (i:=0) (ti:=22) (oi:=0) (ki:=1) (by kernel_rfl);obtain⟨y1,h1⟩:=fld hx hg (i:=1) (ti:=23) (oi:=1) (ki:=1) (by kernel_rfl);obtain⟨g,h2⟩:=zcs (v:=c0) h0;obtain⟨ps,h3⟩:=zdt (v:=c1) h1;exact⟨c0,c1,g,ps,rfl,h2,h3⟩
end
end Go.Proofs.YteipgejmhfpkaaaGreatDoor.Cop
namespace Go.Proofs.YteipgejmhfpkaaaGreatDoor.Cop
open Go Go.ChangeShapes Go.WideShapes Go.ChangeAt Go.RowKit
theorem zlK:ownKnob Tryz.prog.godebug=none:=by kernel_rfl
theorem g_ways:Tryz.prog.globalNamed "copestone/stone.ways" = some 0:=by kernel_rfl
theorem t_ways:(Tryz.prog.globals[0]?).map (·.type)=some 243:=by kernel_rfl
theorem zlr:Tryz.prog.underlying 243=some (.array 4 242):=by kernel_rfl
theorem zdp:Tryz.prog.underlying 242=some (.func #[42] #[42] false):=by kernel_rfl
theorem zg7:laidOutB Tryz.prog=true:=by kernel_rfl
theorem ziy {W:World} (h:laidMetH Tryz.prog [("copestone/stone.ways",Rows.laid_copestone_stone_ways)] W):Gw W:=by
 obtain⟨g,t,cs,fuel,p,hg,ht,hv,hd⟩:=h.funcs (List.mem_singleton.2 rfl);obtain rfl:=Option.some.inj (g_ways.symm.trans hg);obtain rfl:=Option.some.inj (t_ways.symm.trans ht);have hd':DataW.trod (funcToken Tryz.prog) Tryz.prog W 0 (fun _=>true) true fuel 243 cs.toList=some (.agg [.held [99,111,112,101,115,116,111,110,101,47,115,116,111,110,101,46,119,97,121,115,36,49],.held [99,111,112,101,115,116,111,110,101,47,115,116,111,110,101,46,119,97,121,115,36,50],.held [99,111,112,101,115,116,111,110,101,47,115,116,111,110,101,46,119,97,121,115,36,51],.held [99,111,112,101,115,116,111,110,101,47,115,116,111,110,101,46,119,97,121,115,36,52]],p):=hd;obtain⟨xs,m,_,hx,hl,hxl,hf⟩:=DataW.trod_array zlr hd';have c1:Tryz.prog.cellsOf 242=1:=by kernel_rfl
 have c4:Tryz.prog.cellsOf 243=4:=by kernel_rfl
 rw [c4]at hl;rw [c1]at hf;obtain⟨cs⟩:=cs;have hl':cs.length=4:=hl
 match cs,hl',xs,hxl with
 | [v0,v1,v2,v3],_,[⟨y0,q0⟩,⟨y1,q1⟩,⟨y2,q2⟩,⟨y3,q3⟩],_ =>
  simp only [Prod.mk.injEq,List.map_cons,List.map_nil,DataW.agg.injEq,List.cons.injEq,and_true]at hx;obtain⟨⟨rfl,rfl,rfl,rfl⟩,_⟩:=hx;have r0:=hf 0 (by omega);have r1:=hf 1 (by omega);have r2:=hf 2 (by omega);have r3:=hf 3 (by omega);have k0:=World.var?_cell hg hv 0;have k1:=World.var?_cell hg hv 1;have k2:=World.var?_cell hg hv 2;have k3:=World.var?_cell hg hv 3;obtain rfl:=func_of_trod (f0:=264) zdp (by kernel_rfl) r0;obtain rfl:=func_of_trod (f0:=265) zdp (by kernel_rfl) r1;obtain rfl:=func_of_trod (f0:=266) zdp (by kernel_rfl) r2;obtain rfl:=func_of_trod (f0:=267) zdp (by kernel_rfl) r3;have e0:W.cell? ⟨0,0,none⟩=some (.func (.func 264) #[] #[]):=by simpa using k0
  exact⟨World.block_lt_of_cell? W _ (by rw [e0]),e0,by simpa using k1,by simpa using k2,by simpa using k3⟩
theorem zly (os:Os) (args:Array Value):laidMetH Tryz.prog [("copestone/stone.ways",Rows.laid_copestone_stone_ways)] ((World.doorLaid Tryz.prog 14 os).forCall (fun _ _=>0) ⟨#[],args,[]⟩).memory:=
 laidMetH_of_parts3 (fuel:=8) (laidMet_of_run' 8 (by kernel_rfl) (by kernel_rfl)) (by kernel_rfl) (by kernel_rfl)
theorem zmz {k:IntKind} {n:Int} (h:(Lit.int k n).wf=true):k.min≤n∧n≤k.max:=by
 unfold Lit.wf at h;simp only [Bool.and_eq_true,decide_eq_true_eq]at h;exact h
end Go.Proofs.YteipgejmhfpkaaaGreatDoor.Cop
namespace Go.Proofs.YteipgejmhfpkaaaGreatDoor.Cop
open Go.ChangeShapes Go.WideShapes Go.Deep
section
variable {H:Type} {enc:TypeId×Value→H} {w:World} {spare:Nat→Bool} {held:Bool}
theorem zl0:Tryz.prog.underlying 27=some (.struct (flds Tryz.prog 27)):=by kernel_rfl
theorem zep {r:Reach} {b0:Nat} {v:Value} {d:DataW H} {p:List MemPlace} (hv:Value.okWide Tryz.prog w r b0 27 v) (h:DataW.Trod enc Tryz.prog w 0 spare held 27 v d p) :
  ∃ru:Ru,v = .agg (ruc ru)∧ru.lap≤9223372036854775807:=by
 obtain⟨cs,rfl,hsz⟩:=okWide_struct zl0 hv;have hc:Tryz.prog.cellsOf 27=7:=by kernel_rfl
 rw [hc]at hsz
 obtain⟨c0,c1,c2,c3,c4,c5,c6,rfl⟩:∃a b c d e f g,cs=#[a,b,c,d,e,f,g]:=by
  match cs,hsz with
  | ⟨[a,b,c,d,e,f,g]⟩,_=>exact⟨a,b,c,d,e,f,g,rfl⟩
 obtain⟨fuel,hf⟩:=h;obtain⟨xs,m,_,_,hl,hx,hg⟩:=DataW.trod_struct zl0 hf;obtain⟨y0,h0⟩:=fld hx hg (i:=0) (ti:=5) (oi:=0) (ki:=1) (by kernel_rfl);obtain⟨y1,h1⟩:=fld hx hg (i:=1) (ti:=3) (oi:=1) (ki:=1) (by kernel_rfl);obtain⟨y2,h2⟩:=fld hx hg (i:=2) (ti:=3) (oi:=2) (ki:=1) (by kernel_rfl);obtain⟨y3,h3⟩:=fld hx hg (i:=3) (ti:=3) (oi:=3) (ki:=1) (by kernel_rfl);obtain⟨y4,h4⟩:=fld hx hg (i:=4) (ti:=3) (oi:=4) (ki:=1) (by kernel_rfl);obtain⟨y5,h5⟩:=fld hx hg (i:=5) (ti:=3) (oi:=5) (ki:=1) (by kernel_rfl);obtain⟨y6,h6⟩:=fld hx hg (i:=6) (ti:=3) (oi:=6) (ki:=1) (by kernel_rfl);obtain⟨z0,e0,_⟩:=DataW.trod_int zma h0;obtain⟨z1,e1,w1⟩:=DataW.trod_int zbi h1;obtain⟨z2,e2,w2⟩:=DataW.trod_int zbi h2;obtain⟨z3,e3,w3⟩:=DataW.trod_int zbi h3;obtain⟨z4,e4,w4⟩:=DataW.trod_int zbi h4;obtain⟨z5,e5,w5⟩:=DataW.trod_int zbi h5;obtain⟨z6,e6,w6⟩:=DataW.trod_int zbi h6;have f0:[c0]=[.int .u8 z0]:=e0;have f1:[c1]=[.int .i64 z1]:=e1;have f2:[c2]=[.int .i64 z2]:=e2;have f3:[c3]=[.int .i64 z3]:=e3;have f4:[c4]=[.int .i64 z4]:=e4;have f5:[c5]=[.int .i64 z5]:=e5;have f6:[c6]=[.int .i64 z6]:=e6
 have hb3:z3≤9223372036854775807:=by
  have h9:=w3.2;unfold Lit.wf at h9;simp only [Bool.and_eq_true,decide_eq_true_eq]at h9;exact Int.le_trans h9.2 (by decide)
 simp only [List.cons.injEq,and_true]at f0 f1 f2 f3 f4 f5 f6;exact⟨⟨z0,z1,z2,z3,z4,z5,z6⟩,by unfold ruc;rw [f0,f1,f2,f3,f4,f5,f6],hb3⟩
end
end Go.Proofs.YteipgejmhfpkaaaGreatDoor.Cop
