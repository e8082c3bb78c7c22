/- Part 41: contracts of what the law calls. -/
import Derived.Test.YteipgejmhfpkaaaGreatDoorCopA34
import Derived.Test.YteipgejmhfpkaaaGreatDoorCopA29
import Derived.Test.YteipgejmhfpkaaaGreatDoorCopA39
import Derived.Test.YteipgejmhfpkaaaGreatDoorCopA05
import Derived.ProofKit
import Derived.Deep.Slices
import Derived.Test.YteipgejmhfpkaaaGreatDoorRows
import Derived.Test.YteipgejmhfpkaaaGreatDoorCards
import Derived.Test.YteipgejmhfpkaaaGreatDoorTie
import Derived.LaidMore
import Derived.Stop.Joined
import Derived.OpenShut
import Derived.SevenTiedAt
import Derived.Test.YteipgejmhfpkaaaGreatDoorCopA16
set_option maxRecDepth 1000000
set_option maxHeartbeats 16000000
set_option linter.unusedSimpArgs false
set_option linter.unusedVariables false
open Go.Value renaming int→O,slice→Z
open Go.IntKind renaming i64→Y,u8→I
open Go.Obj renaming cells→X
open Option renaming none→V,some→J
namespace Go.Proofs.YteipgejmhfpkaaaGreatDoor.Cop
section
open Go.RowKit Go.Shelf Go.Sort Go.Lib
theorem zkS (x:Int):Bd 1000 (x.tmod 1000):=by
 unfold Bd
 by_cases h:x<0
 ·have h1:=Int.tmod_nonneg (a:=-x) 1000 (by omega)
  have h2:=Int.tmod_lt_of_pos (-x) (b:=1000) (by decide);rw [Int.neg_tmod]at h1 h2;omega
 ·have h1:=Int.tmod_nonneg (a:=x) 1000 (by omega)
  have h2:=Int.tmod_lt_of_pos x (b:=1000) (by decide);omega
theorem zpj {d:Int×Int} {g:List (Int×Int)} {ps:List Pl} (h:laidP g ps=0) (h1:Bd 1000 d.1) (h2:Bd 1000 d.2):g.map (mwQ d)=mvL d g∧ps.map (mwP d)=ps.map (mvP d):=by
 obtain⟨hok,_,hg⟩:=zal h
 have hw:∀x y:Int,Bd 104000 x→Bd 1000 y→wrap64 (x+y)=x+y:=fun x y hx hy=>by
  unfold Bd at hx hy;exact IntWalk.wrap64_in _ ⟨by omega,by omega⟩
 refine⟨List.map_congr_left fun q hq=>?_,List.map_congr_left fun p hp=>?_⟩
 ·have hb:=(zcN hg).2.1 q hq
  unfold mwQ mvQ;rw [hw _ _ hb.1 h1,hw _ _ hb.2 h2]
 ·have hb:=hok p hp
  unfold placedOk pfarB at hb;simp only [Bool.and_eq_true,Bool.not_eq_true',Bool.or_eq_false_iff,decide_eq_false_iff_not]at hb;obtain⟨_,_,hx,hz,_⟩:=hb;have b1:Bd 104000 p.ax:=by unfold Bd;omega
  have b2:Bd 104000 p.az:=by unfold Bd;omega
  unfold mwP mvP;rw [hw _ _ b1 h1,hw _ _ b2 h2]
theorem zhX (w:World) (vg vp:Value) (g:List (Int×Int)) (ps:List Pl) (r:Ru) (hg:IsPts w vg g) (hp:IsPls w vp ps) (hgw:Gw w) :
  Calls Tryz.prog 15 #[.agg #[vg,vp],.agg (ruc r)] w fun e w'=>∃v,e = .returned (.tuple #[v,O Y (byE g ps r)])∧(∃a n c,v=Z a n c)∧(byE g ps r=0→∃L ks rs,IsJts w' v L∧SvP r ps ks L rs)∧Ext w w':=by
 refine(zeA w vg vp g ps r hg hp hgw).mono ?_;rintro e w' (⟨h0,rfl,hx⟩|⟨h0,v,L,ks,rs,rfl,hj,sv,hx⟩)
 ·exact⟨_,rfl,⟨_,_,_,rfl⟩,fun h=>absurd h h0,hx⟩
 ·exact⟨v,by rw [h0],form3 hj,fun _=>⟨L,ks,rs,hj,sv⟩,hx⟩
theorem IsFds.keep {w w':World} {v:Value} {l:List Fd} (h:IsFds w v l) (k:KeepT 73 w w'):IsFds w' v l:=by
 obtain⟨cs,h1,h2,h3,h4⟩:=h;exact⟨cs,h1,h2,h3.keep k,fun i c x hc hx=>h4 i c x hc hx⟩
theorem OwnPlA.keepT {T':TypeId} {w w':World} {base L:Nat} {v:Value} {ps:List Pl} (h:OwnPlA w base L v ps) (hT:46≠T') (hg:w.grownBy w' v.ownBlock):KeepT T' w w':=by
 obtain⟨cs,h1,_⟩:=h;exact h1.keepT hT hg
theorem OwnPlA.lt {w:World} {base L:Nat} {v:Value} {ps:List Pl} (h:OwnPlA w base L v ps):∀j,v.ownBlock=J j→base≤j∧j<w.heap.size:=by
 obtain⟨cs,h1,_⟩:=h;exact h1.lt
theorem Rd.apart {w w':World} {T:TypeId} {k:Nat} {v:Value} {n:Nat} {xs:List Value} {row:Option Nat} (h:Rd w T k v n xs) (hg:w.grownBy w' row) (hn:∀j,v.ownBlock=J j→J j≠row):Rd w' T k v n xs:=by
 obtain⟨hl,a,c,rfl,h1,h2,h3⟩:=h;refine⟨hl,a,c,rfl,h1,h2,?_⟩
 rcases h3 with h3|⟨b,o,cs,fr,rfl,hb,hx⟩
 ·exact .inl h3
 ·exact .inr ⟨b,o,cs,fr,rfl,(hg.block b (zab hb) (hn b rfl)).trans hb,hx⟩
theorem OwnPlA.apart {w w':World} {base L:Nat} {v vg:Value} {ps:List Pl} {cs:List (List Value)} (h:OwnPlA w base L v ps) (ho:OwnC 42 2 w base vg cs) (hL:∀j,vg.ownBlock=J j→j<L) (hg:w.grownBy w' vg.ownBlock):OwnPlA w' base L v ps:=by
 obtain⟨ds,h1,h2,h3,h4⟩:=h;refine⟨ds,h1.keep (ho.keepT (by decide) hg),h2,fun i c p hc hp=>?_,h4⟩;obtain⟨sv,e,hs,hk⟩:=h3 i c p hc hp;refine⟨sv,e,?_,hk⟩;have hA:=h4 c (lM hc);rw [e]at hA;obtain⟨cs',q1,q2,q3,q4⟩:=hs;refine⟨cs',q1,q2,q3.apart hg (fun j hj e=>?_),q4⟩;have h8:=hA j hj;have h9:=hL j e.symm;omega
theorem zkd (w:World) (vg vp:Value) (g:List (Int×Int)) (ps:List Pl) (r:Ru) (x z:Int) (hg:IsPr w vg g) (hp:IsWr w vp ps) (hgw:Gw w) (hx:Bd 40000 x) (hz:Bd 40000 z) :
  Calls Tryz.prog 5 #[.agg #[vg,vp],.agg (ruc r),O .i16 x,O .i16 z] w fun e w'=>e = .returned (.bool true)∧Ext w w':=by
 have HF:=hd9 (fun(W:World) (hW:Ext w W)=>znj W vg vp g ps (hg.ext' hW) (hp.ext' hW));have HW:=hd9 (fun(hf:fewB g ps=true) (W:World) (hW:Ext w W)=>zk0 W vg vp g ps (hg.ext' hW) (hp.ext' hW) (zeU hf).1 (by have:=(zeU hf).2.1;omega) (zeU hf).2.2);have HA:=hd9 (fun(W:World) (hW:Ext w W)=>ziP W (hgw.ext hW));have HG:=hd9 hgw;obtain⟨ga,gc,rfl⟩:=hg.form;obtain⟨pa,pc1,rfl⟩:=hp.form;obtain⟨gn,hgn⟩:=gX g.length;obtain⟨pn,hpn⟩:=gX ps.length;have Hln:=hd9 (And.intro hgn hpn);rw [hgn,hpn]at HF HW ⊢;clear hg hp hgw hgn hpn;obtain⟨sk,pin,wide,lap,step,run,level⟩:=r;unfold ruc;dsimp only
 cases hfew:fewB g ps with
 | false =>
  rw [hfew]at HF;clear HW;go_enter Tryz.func5,Tryz.ntmps5
  go_wp2_with(first|(go_at_call 8;(with_reducible refine(HF.out _ ?_).mono ?_);exact eA;rintro e w1 ⟨rfl,hx1⟩;have X1:Ext w w1:=eA)|(go_at_call 9;(with_reducible refine(HA.out _ X1).mono ?_);rintro e w2 ⟨rfl,hx2⟩))
  go_ret;exact⟨rfl,X1.trans hx2⟩
 | true =>
  rw [hfew]at HF;have HW:=hd9 (HW.out hfew);have Hfw:=hd9 (zeU hfew);clear hfew;go_enter Tryz.func5,Tryz.ntmps5
  go_upto_region 3 with (go_at_call 8;(with_reducible refine(HF.out _ ?_).mono ?_);exact eA;rintro e w1 ⟨rfl,hx1⟩;have X1:Ext w w1:=eA;obtain⟨⟨hc1,hf1⟩,z1_0,z1_1⟩:=cK2 w hx1)
  go_cut [9,10] (WRv w g ps ⟨sk,pin,wide,lap,step,run,level⟩)
  case first =>
   refine zap (fun i=>decide (5<i)) (CellL [(⟨w.heap.size,0,V⟩,Z ga gn gc),(⟨w.heap.size,1,V⟩,Z pa pn pc1),(⟨w.heap.size+1,0,V⟩,O I sk),(⟨w.heap.size+1,1,V⟩,O Y pin),(⟨w.heap.size+1,2,V⟩,O Y wide),(⟨w.heap.size+1,3,V⟩,O Y lap),(⟨w.heap.size+1,4,V⟩,O Y step),(⟨w.heap.size+1,5,V⟩,O Y run),(⟨w.heap.size+1,6,V⟩,O Y level)]) (by kernel_rfl) ?_ (fun h9H=>?_)
   ·exact cA
   refine tu1 (i:=0) ?_;refine tu1 (i:=2) ?_;have H0:=CellL.undrew h9H;have zd:=X1.size;refine callHU3 (i:=1) (j:=3) (k:=4) (fun K hK=>?h1) (fun K hK=>?h3) (fun K hK=>?h4)
   case h1 =>
    go_simp
    (with_reducible refine cM (HW.out _ eA) ?_)
    rintro e w2 ⟨vg2,vp2,L2,rfl,hg2,hL2,ho2,hx2⟩;obtain⟨ga2,gn2,gc2,rfl⟩:=hg2.form3
    go_wp2_with fail
    refine kO hK (fun _=>cE h9H hx2) (fun h9H=>?_);clear hK K;have h9H:=h9H rfl;obtain⟨pa2,pn2,pc2,rfl⟩:=form3 ho2.own.pls;have z2:=hx2.size;simp only [wZ,qdZ]at z2;refine callHU2 (i:=3) (j:=4) (fun K hK=>?f1a) (fun K hK=>?f2a)
    case f1a =>
     go_simp;refine kO hK (fun _=>cE h9H ((eR _).alloc _)) (fun h9H=>?_);clear hK K;have h9H:=h9H rfl;refine cu1 (i:=4) fun K hK=>?_
     go_simp;refine kO hK (fun _=>cE h9H ((eR _).alloc _)) (fun h9H=>?_);clear hK K;have h9H:=h9H rfl;have hE:Ext w2 ((w2.alloc (X #[Z V 0 0,Z V 0 0] 33)).alloc (X #[O I 0,O Y 0,O Y 0,O Y 0,O Y 0,O Y 0,O Y 0] 35)):=eA;have q5:((w2.alloc (X #[Z V 0 0,Z V 0 0] 33)).alloc (X #[O I 0,O Y 0,O Y 0,O Y 0,O Y 0,O Y 0,O Y 0] 35)).heap[w2.heap.size]?=J (X #[Z V 0 0,Z V 0 0] 33 (0,0)):=(((eR _).alloc _).heapS (qhA _ _ _ rfl));have q6:((w2.alloc (X #[Z V 0 0,Z V 0 0] 33)).alloc (X #[O I 0,O Y 0,O Y 0,O Y 0,O Y 0,O Y 0,O Y 0] 35)).heap[w2.heap.size+1]?=J (X #[O I 0,O Y 0,O Y 0,O Y 0,O Y 0,O Y 0,O Y 0] 35 (0,0)):=(qhA _ _ _ (by simp));have hF:Ext w1 ((w2.alloc (X #[Z V 0 0,Z V 0 0] 33)).alloc (X #[O I 0,O Y 0,O Y 0,O Y 0,O Y 0,O Y 0,O Y 0] 35)):=eA;obtain⟨W9,hW9⟩:=gX (((w2.alloc (X #[Z V 0 0,Z V 0 0] 33)).alloc (X #[O I 0,O Y 0,O Y 0,O Y 0,O Y 0,O Y 0,O Y 0] 35)));rw [hW9]at hE q5 q6 hF h9H ⊢;have hb5:w1.heap.size≤w2.heap.size:=by omega
     have n5:(w2.heap.size)≠(w2.heap.size+1):=by omega
     have nf5:=qfB q5;have nf6:=qfB q6;have n50:=qcB q5 (i:=0) (u:=Z V 0 0) rfl;have n51:=qcB q5 (i:=1) (u:=Z V 0 0) rfl;have n60:=qcB q6 (i:=0) (u:=O I 0) rfl;have n61:=qcB q6 (i:=1) (u:=O Y 0) rfl;have n62:=qcB q6 (i:=2) (u:=O Y 0) rfl;have n63:=qcB q6 (i:=3) (u:=O Y 0) rfl;have n64:=qcB q6 (i:=4) (u:=O Y 0) rfl;have n65:=qcB q6 (i:=5) (u:=O Y 0) rfl;have n66:=qcB q6 (i:=6) (u:=O Y 0) rfl;refine cu1 (i:=5) fun K hK=>?_
     go_simp;refine kO hK (fun _=>cE H0 (hF.set2 hb5 _ _)) (fun h9H=>?_);clear hK K;refine cu1 (i:=6) fun K hK=>?_
     go_simp;refine kO hK (fun h=>nomatch h) (fun h9H=>?_);clear hK K;refine doneHU (by kernel_rfl) ?_ _;clear h9H H0;go_wp2;go_meet;refine zdd (r:=⟨sk,pin,wide,lap,step,run,level⟩) ?_ ?_ ?_ q5 q6 (hg2.ext hE) hL2 (ho2.ext hE) ?_ (X1.trans hF) rfl
     ·omega
     ·omega
     ·omega
     ·simp only [wZ,qdZ]
      omega
    case f2a =>
     go_simp;refine kO hK (fun _=>cE h9H ((eR _).alloc _)) (fun h9H=>?_);clear hK K;have h9H:=h9H rfl;refine cu1 (i:=3) fun K hK=>?_
     go_simp;refine kO hK (fun _=>cE h9H ((eR _).alloc _)) (fun h9H=>?_);clear hK K;have h9H:=h9H rfl;have hE:Ext w2 ((w2.alloc (X #[O I 0,O Y 0,O Y 0,O Y 0,O Y 0,O Y 0,O Y 0] 35)).alloc (X #[Z V 0 0,Z V 0 0] 33)):=eA;have q5:((w2.alloc (X #[O I 0,O Y 0,O Y 0,O Y 0,O Y 0,O Y 0,O Y 0] 35)).alloc (X #[Z V 0 0,Z V 0 0] 33)).heap[w2.heap.size+1]?=J (X #[Z V 0 0,Z V 0 0] 33 (0,0)):=(qhA _ _ _ (by simp));have q6:((w2.alloc (X #[O I 0,O Y 0,O Y 0,O Y 0,O Y 0,O Y 0,O Y 0] 35)).alloc (X #[Z V 0 0,Z V 0 0] 33)).heap[w2.heap.size]?=J (X #[O I 0,O Y 0,O Y 0,O Y 0,O Y 0,O Y 0,O Y 0] 35 (0,0)):=(((eR _).alloc _).heapS (qhA _ _ _ rfl));have hF:Ext w1 ((w2.alloc (X #[O I 0,O Y 0,O Y 0,O Y 0,O Y 0,O Y 0,O Y 0] 35)).alloc (X #[Z V 0 0,Z V 0 0] 33)):=eA;obtain⟨W9,hW9⟩:=gX (((w2.alloc (X #[O I 0,O Y 0,O Y 0,O Y 0,O Y 0,O Y 0,O Y 0] 35)).alloc (X #[Z V 0 0,Z V 0 0] 33)));rw [hW9]at hE q5 q6 hF h9H ⊢;have hb5:w1.heap.size≤w2.heap.size+1:=by omega
     have n5:(w2.heap.size+1)≠(w2.heap.size):=by omega
     have nf5:=qfB q5;have nf6:=qfB q6;have n50:=qcB q5 (i:=0) (u:=Z V 0 0) rfl;have n51:=qcB q5 (i:=1) (u:=Z V 0 0) rfl;have n60:=qcB q6 (i:=0) (u:=O I 0) rfl;have n61:=qcB q6 (i:=1) (u:=O Y 0) rfl;have n62:=qcB q6 (i:=2) (u:=O Y 0) rfl;have n63:=qcB q6 (i:=3) (u:=O Y 0) rfl;have n64:=qcB q6 (i:=4) (u:=O Y 0) rfl;have n65:=qcB q6 (i:=5) (u:=O Y 0) rfl;have n66:=qcB q6 (i:=6) (u:=O Y 0) rfl;refine cu1 (i:=5) fun K hK=>?_
     go_simp;refine kO hK (fun _=>cE H0 (hF.set2 hb5 _ _)) (fun h9H=>?_);clear hK K;refine cu1 (i:=6) fun K hK=>?_
     go_simp;refine kO hK (fun h=>nomatch h) (fun h9H=>?_);clear hK K;refine doneHU (by kernel_rfl) ?_ _;clear h9H H0;go_wp2;go_meet;refine zdd (r:=⟨sk,pin,wide,lap,step,run,level⟩) ?_ ?_ ?_ q5 q6 (hg2.ext hE) hL2 (ho2.ext hE) ?_ (X1.trans hF) rfl
     ·omega
     ·omega
     ·omega
     ·simp only [wZ,qdZ]
      omega
   case h3 =>
    go_simp;refine kO hK (fun _=>cE h9H ((eR _).alloc _)) (fun h9H=>?_);clear hK K;have h9H:=h9H rfl;refine callHU2 (i:=1) (j:=4) (fun K hK=>?f1b) (fun K hK=>?f2b)
    case f1b =>
     go_simp
     (with_reducible refine cM (HW.out _ eA) ?_)
     rintro e w2 ⟨vg2,vp2,L2,rfl,hg2,hL2,ho2,hx2⟩;obtain⟨ga2,gn2,gc2,rfl⟩:=hg2.form3
     go_wp2_with fail
     refine kO hK (fun _=>cE h9H hx2) (fun h9H=>?_);clear hK K;have h9H:=h9H rfl;obtain⟨pa2,pn2,pc2,rfl⟩:=form3 ho2.own.pls;have z2:=hx2.size;simp only [wZ,qdZ]at z2;refine cu1 (i:=4) fun K hK=>?_
     go_simp;refine kO hK (fun _=>cE h9H ((eR _).alloc _)) (fun h9H=>?_);clear hK K;have h9H:=h9H rfl;have hE:Ext w2 (w2.alloc (X #[O I 0,O Y 0,O Y 0,O Y 0,O Y 0,O Y 0,O Y 0] 35)):=eA;have q5:(w2.alloc (X #[O I 0,O Y 0,O Y 0,O Y 0,O Y 0,O Y 0,O Y 0] 35)).heap[w1.heap.size]?=J (X #[Z V 0 0,Z V 0 0] 33 (0,0)):=(((eR _).alloc _).heapS (hx2.heapS (qhA _ _ _ rfl)));have q6:(w2.alloc (X #[O I 0,O Y 0,O Y 0,O Y 0,O Y 0,O Y 0,O Y 0] 35)).heap[w2.heap.size]?=J (X #[O I 0,O Y 0,O Y 0,O Y 0,O Y 0,O Y 0,O Y 0] 35 (0,0)):=(qhA _ _ _ rfl);have hF:Ext w1 (w2.alloc (X #[O I 0,O Y 0,O Y 0,O Y 0,O Y 0,O Y 0,O Y 0] 35)):=eA;obtain⟨W9,hW9⟩:=gX ((w2.alloc (X #[O I 0,O Y 0,O Y 0,O Y 0,O Y 0,O Y 0,O Y 0] 35)));rw [hW9]at hE q5 q6 hF h9H ⊢;have hb5:w1.heap.size≤w1.heap.size:=by omega
     have n5:(w1.heap.size)≠(w2.heap.size):=by omega
     have nf5:=qfB q5;have nf6:=qfB q6;have n50:=qcB q5 (i:=0) (u:=Z V 0 0) rfl;have n51:=qcB q5 (i:=1) (u:=Z V 0 0) rfl;have n60:=qcB q6 (i:=0) (u:=O I 0) rfl;have n61:=qcB q6 (i:=1) (u:=O Y 0) rfl;have n62:=qcB q6 (i:=2) (u:=O Y 0) rfl;have n63:=qcB q6 (i:=3) (u:=O Y 0) rfl;have n64:=qcB q6 (i:=4) (u:=O Y 0) rfl;have n65:=qcB q6 (i:=5) (u:=O Y 0) rfl;have n66:=qcB q6 (i:=6) (u:=O Y 0) rfl;refine cu1 (i:=5) fun K hK=>?_
     go_simp;refine kO hK (fun _=>cE H0 (hF.set2 hb5 _ _)) (fun h9H=>?_);clear hK K;refine cu1 (i:=6) fun K hK=>?_
     go_simp;refine kO hK (fun h=>nomatch h) (fun h9H=>?_);clear hK K;refine doneHU (by kernel_rfl) ?_ _;clear h9H H0;go_wp2;go_meet;refine zdd (r:=⟨sk,pin,wide,lap,step,run,level⟩) ?_ ?_ ?_ q5 q6 (hg2.ext hE) hL2 (ho2.ext hE) ?_ (X1.trans hF) rfl
     ·omega
     ·omega
     ·omega
     ·simp only [wZ,qdZ]
      omega
    case f2b =>
     go_simp;refine kO hK (fun _=>cE h9H ((eR _).alloc _)) (fun h9H=>?_);clear hK K;have h9H:=h9H rfl;refine cu1 (i:=1) fun K hK=>?_
     go_simp
     (with_reducible refine cM (HW.out _ eA) ?_)
     rintro e w2 ⟨vg2,vp2,L2,rfl,hg2,hL2,ho2,hx2⟩;obtain⟨ga2,gn2,gc2,rfl⟩:=hg2.form3
     go_wp2_with fail
     refine kO hK (fun _=>cE h9H hx2) (fun h9H=>?_);clear hK K;have h9H:=h9H rfl;obtain⟨pa2,pn2,pc2,rfl⟩:=form3 ho2.own.pls;have z2:=hx2.size;simp only [wZ,qdZ]at z2;have hF:Ext w1 w2:=eA;have q5:w2.heap[w1.heap.size]?=J (X #[Z V 0 0,Z V 0 0] 33 (0,0)):=(hx2.heapS (show ((w1.alloc (X #[Z V 0 0,Z V 0 0] 33)).alloc (X #[O I 0,O Y 0,O Y 0,O Y 0,O Y 0,O Y 0,O Y 0] 35)).heap[w1.heap.size]?=J (X #[Z V 0 0,Z V 0 0] 33 (0,0))from((eR (w1.alloc (X #[Z V 0 0,Z V 0 0] 33))).alloc _).heapS (qhA w1 _ _ rfl)));have q6:w2.heap[w1.heap.size+1]?=J (X #[O I 0,O Y 0,O Y 0,O Y 0,O Y 0,O Y 0,O Y 0] 35 (0,0)):=(hx2.heapS (show ((w1.alloc (X #[Z V 0 0,Z V 0 0] 33)).alloc (X #[O I 0,O Y 0,O Y 0,O Y 0,O Y 0,O Y 0,O Y 0] 35)).heap[w1.heap.size+1]?=J (X #[O I 0,O Y 0,O Y 0,O Y 0,O Y 0,O Y 0,O Y 0] 35 (0,0))from qhA (w1.alloc (X #[Z V 0 0,Z V 0 0] 33)) _ _ (by simp)));have hE:=eR w2;have hb5:w1.heap.size≤w1.heap.size:=by omega
     have n5:(w1.heap.size)≠(w1.heap.size+1):=by omega
     have nf5:=qfB q5;have nf6:=qfB q6;have n50:=qcB q5 (i:=0) (u:=Z V 0 0) rfl;have n51:=qcB q5 (i:=1) (u:=Z V 0 0) rfl;have n60:=qcB q6 (i:=0) (u:=O I 0) rfl;have n61:=qcB q6 (i:=1) (u:=O Y 0) rfl;have n62:=qcB q6 (i:=2) (u:=O Y 0) rfl;have n63:=qcB q6 (i:=3) (u:=O Y 0) rfl;have n64:=qcB q6 (i:=4) (u:=O Y 0) rfl;have n65:=qcB q6 (i:=5) (u:=O Y 0) rfl;have n66:=qcB q6 (i:=6) (u:=O Y 0) rfl;refine cu1 (i:=5) fun K hK=>?_
     go_simp;refine kO hK (fun _=>cE H0 (hF.set2 hb5 _ _)) (fun h9H=>?_);clear hK K;refine cu1 (i:=6) fun K hK=>?_
     go_simp;refine kO hK (fun h=>nomatch h) (fun h9H=>?_);clear hK K;refine doneHU (by kernel_rfl) ?_ _;clear h9H H0;go_wp2;go_meet;refine zdd (r:=⟨sk,pin,wide,lap,step,run,level⟩) ?_ ?_ ?_ q5 q6 (hg2.ext hE) hL2 (ho2.ext hE) ?_ (X1.trans hF) rfl
     ·omega
     ·omega
     ·omega
     ·simp only [wZ,qdZ]
      omega
   case h4 =>
    go_simp;refine kO hK (fun _=>cE h9H ((eR _).alloc _)) (fun h9H=>?_);clear hK K;have h9H:=h9H rfl;refine callHU2 (i:=1) (j:=3) (fun K hK=>?f1c) (fun K hK=>?f2c)
    case f1c =>
     go_simp
     (with_reducible refine cM (HW.out _ eA) ?_)
     rintro e w2 ⟨vg2,vp2,L2,rfl,hg2,hL2,ho2,hx2⟩;obtain⟨ga2,gn2,gc2,rfl⟩:=hg2.form3
     go_wp2_with fail
     refine kO hK (fun _=>cE h9H hx2) (fun h9H=>?_);clear hK K;have h9H:=h9H rfl;obtain⟨pa2,pn2,pc2,rfl⟩:=form3 ho2.own.pls;have z2:=hx2.size;simp only [wZ,qdZ]at z2;refine cu1 (i:=3) fun K hK=>?_
     go_simp;refine kO hK (fun _=>cE h9H ((eR _).alloc _)) (fun h9H=>?_);clear hK K;have h9H:=h9H rfl;have hE:Ext w2 (w2.alloc (X #[Z V 0 0,Z V 0 0] 33)):=eA;have q5:(w2.alloc (X #[Z V 0 0,Z V 0 0] 33)).heap[w2.heap.size]?=J (X #[Z V 0 0,Z V 0 0] 33 (0,0)):=(qhA _ _ _ rfl);have q6:(w2.alloc (X #[Z V 0 0,Z V 0 0] 33)).heap[w1.heap.size]?=J (X #[O I 0,O Y 0,O Y 0,O Y 0,O Y 0,O Y 0,O Y 0] 35 (0,0)):=(((eR _).alloc _).heapS (hx2.heapS (qhA _ _ _ rfl)));have hF:Ext w1 (w2.alloc (X #[Z V 0 0,Z V 0 0] 33)):=eA;obtain⟨W9,hW9⟩:=gX ((w2.alloc (X #[Z V 0 0,Z V 0 0] 33)));rw [hW9]at hE q5 q6 hF h9H ⊢;have hb5:w1.heap.size≤w2.heap.size:=by omega
     have n5:(w2.heap.size)≠(w1.heap.size):=by omega
     have nf5:=qfB q5;have nf6:=qfB q6;have n50:=qcB q5 (i:=0) (u:=Z V 0 0) rfl;have n51:=qcB q5 (i:=1) (u:=Z V 0 0) rfl;have n60:=qcB q6 (i:=0) (u:=O I 0) rfl;have n61:=qcB q6 (i:=1) (u:=O Y 0) rfl;have n62:=qcB q6 (i:=2) (u:=O Y 0) rfl;have n63:=qcB q6 (i:=3) (u:=O Y 0) rfl;have n64:=qcB q6 (i:=4) (u:=O Y 0) rfl;have n65:=qcB q6 (i:=5) (u:=O Y 0) rfl;have n66:=qcB q6 (i:=6) (u:=O Y 0) rfl;refine cu1 (i:=5) fun K hK=>?_
     go_simp;refine kO hK (fun _=>cE H0 (hF.set2 hb5 _ _)) (fun h9H=>?_);clear hK K;refine cu1 (i:=6) fun K hK=>?_
     go_simp;refine kO hK (fun h=>nomatch h) (fun h9H=>?_);clear hK K;refine doneHU (by kernel_rfl) ?_ _;clear h9H H0;go_wp2;go_meet;refine zdd (r:=⟨sk,pin,wide,lap,step,run,level⟩) ?_ ?_ ?_ q5 q6 (hg2.ext hE) hL2 (ho2.ext hE) ?_ (X1.trans hF) rfl
     ·omega
     ·omega
     ·omega
     ·simp only [wZ,qdZ]
      omega
    case f2c =>
     go_simp;refine kO hK (fun _=>cE h9H ((eR _).alloc _)) (fun h9H=>?_);clear hK K;have h9H:=h9H rfl;refine cu1 (i:=1) fun K hK=>?_
     go_simp
     (with_reducible refine cM (HW.out _ eA) ?_)
     rintro e w2 ⟨vg2,vp2,L2,rfl,hg2,hL2,ho2,hx2⟩;obtain⟨ga2,gn2,gc2,rfl⟩:=hg2.form3
     go_wp2_with fail
     refine kO hK (fun _=>cE h9H hx2) (fun h9H=>?_);clear hK K;have h9H:=h9H rfl;obtain⟨pa2,pn2,pc2,rfl⟩:=form3 ho2.own.pls;have z2:=hx2.size;simp only [wZ,qdZ]at z2;have hF:Ext w1 w2:=eA;have q5:w2.heap[w1.heap.size+1]?=J (X #[Z V 0 0,Z V 0 0] 33 (0,0)):=(hx2.heapS (show ((w1.alloc (X #[O I 0,O Y 0,O Y 0,O Y 0,O Y 0,O Y 0,O Y 0] 35)).alloc (X #[Z V 0 0,Z V 0 0] 33)).heap[w1.heap.size+1]?=J (X #[Z V 0 0,Z V 0 0] 33 (0,0))from qhA (w1.alloc (X #[O I 0,O Y 0,O Y 0,O Y 0,O Y 0,O Y 0,O Y 0] 35)) _ _ (by simp)));have q6:w2.heap[w1.heap.size]?=J (X #[O I 0,O Y 0,O Y 0,O Y 0,O Y 0,O Y 0,O Y 0] 35 (0,0)):=(hx2.heapS (show ((w1.alloc (X #[O I 0,O Y 0,O Y 0,O Y 0,O Y 0,O Y 0,O Y 0] 35)).alloc (X #[Z V 0 0,Z V 0 0] 33)).heap[w1.heap.size]?=J (X #[O I 0,O Y 0,O Y 0,O Y 0,O Y 0,O Y 0,O Y 0] 35 (0,0))from((eR (w1.alloc (X #[O I 0,O Y 0,O Y 0,O Y 0,O Y 0,O Y 0,O Y 0] 35))).alloc _).heapS (qhA w1 _ _ rfl)));have hE:=eR w2;have hb5:w1.heap.size≤w1.heap.size+1:=by omega
     have n5:(w1.heap.size+1)≠(w1.heap.size):=by omega
     have nf5:=qfB q5;have nf6:=qfB q6;have n50:=qcB q5 (i:=0) (u:=Z V 0 0) rfl;have n51:=qcB q5 (i:=1) (u:=Z V 0 0) rfl;have n60:=qcB q6 (i:=0) (u:=O I 0) rfl;have n61:=qcB q6 (i:=1) (u:=O Y 0) rfl;have n62:=qcB q6 (i:=2) (u:=O Y 0) rfl;have n63:=qcB q6 (i:=3) (u:=O Y 0) rfl;have n64:=qcB q6 (i:=4) (u:=O Y 0) rfl;have n65:=qcB q6 (i:=5) (u:=O Y 0) rfl;have n66:=qcB q6 (i:=6) (u:=O Y 0) rfl;refine cu1 (i:=5) fun K hK=>?_
     go_simp;refine kO hK (fun _=>cE H0 (hF.set2 hb5 _ _)) (fun h9H=>?_);clear hK K;refine cu1 (i:=6) fun K hK=>?_
     go_simp;refine kO hK (fun h=>nomatch h) (fun h9H=>?_);clear hK K;refine doneHU (by kernel_rfl) ?_ _;clear h9H H0;go_wp2;go_meet;refine zdd (r:=⟨sk,pin,wide,lap,step,run,level⟩) ?_ ?_ ?_ q5 q6 (hg2.ext hE) hL2 (ho2.ext hE) ?_ (X1.trans hF) rfl
     ·omega
     ·omega
     ·omega
     ·simp only [wZ,qdZ]
      omega
  case rest =>
   obtain⟨b5,b6,vg2,vp2,L9,rfl,rfl,hne,h5,h6,K5,K6,ho1,hL9,ho2,X2⟩:=hcut;obtain⟨ga2,gn2,gc2,rfl⟩:=ho1.form3;obtain⟨pa2',pn2,pc2,rfl⟩:=form3 ho2.own.pls;unfold ruc at K6;dsimp only at K6;obtain⟨wa,rfl⟩:∃W,W=wc:=⟨_,rfl⟩;obtain⟨ru,hru⟩:∃x:Ru,(⟨sk,pin,wide,lap,step,run,level⟩:Ru)=x:=⟨_,rfl⟩;have hruc:ruc ru=#[O I sk,O Y pin,O Y wide,O Y lap,O Y step,O Y run,O Y level]:=by rw [←hru];rfl
   have HSu:=hd9 (fun(g:List (Int×Int)) (ps:List Pl) (W:World) (hg:IsPts W (Z ga2 gn2 gc2) g) (hp:IsPls W (Z pa2' pn2 pc2) ps) (hW:Ext w W)=>zit W _ _ g ps ru hg hp (HG.out.ext hW));have HJo:=hd9 (fun(g:List (Int×Int)) (ps:List Pl) (W:World) (hg:IsPts W (Z ga2 gn2 gc2) g) (hp:IsPls W (Z pa2' pn2 pc2) ps) (hW:Ext w W)=>zhX W _ _ g ps ru hg hp (HG.out.ext hW));rw [hruc]at HSu HJo;have z5:=zab K5;have z6:=zab K6;have k50:=qcB K5 (i:=0) (u:=Z ga2 gn2 gc2) rfl;have k51:=qcB K5 (i:=1) (u:=Z pa2' pn2 pc2) rfl;have k60:=qcB K6 (i:=0) (u:=O I sk) rfl;have k61:=qcB K6 (i:=1) (u:=O Y pin) rfl;have k62:=qcB K6 (i:=2) (u:=O Y wide) rfl;have k63:=qcB K6 (i:=3) (u:=O Y lap) rfl;have k64:=qcB K6 (i:=4) (u:=O Y step) rfl;have k65:=qcB K6 (i:=5) (u:=O Y run) rfl;have k66:=qcB K6 (i:=6) (u:=O Y level) rfl;obtain⟨k1,hk1⟩:=gX (byE g ps ru);have Hk1:=hd9 hk1;have HX2:=hd9 X2;have HK5:=hd9 K5;have HK6:=hd9 K6;have Ho1:=hd9 ho1;have Ho2:=hd9 ho2;have HL9:=hd9 hL9;have Hz:=hd9 (And.intro h5 h6);have Hz5:=hd9 (And.intro z5 z6);clear ho1 ho2 hL9 X2 K5 K6 HF HW h5 h6 hk1 hru hruc;have q1:IntKind.i64.wrap x=x:=iW _ ⟨by unfold Bd at hx;omega,by unfold Bd at hx;omega⟩;have q2:IntKind.i64.wrap z=z:=iW _ ⟨by unfold Bd at hz;omega,by unfold Bd at hz;omega⟩;obtain⟨dx,hdx⟩:=gX (x.tmod 1000);obtain⟨dz,hdz⟩:=gX (z.tmod 1000);have bdx:Bd 1000 dx:=by rw [←hdx];exact zkS x
   have bdz:Bd 1000 dz:=by rw [←hdz];exact zkS z
   have q3:IntKind.i64.wrap (x.tmod 1000)=dx:=by rw [hdx];exact iW _ ⟨by unfold Bd at bdx;omega,by unfold Bd at bdx;omega⟩
   have q4:IntKind.i64.wrap (z.tmod 1000)=dz:=by rw [hdz];exact iW _ ⟨by unfold Bd at bdz;omega,by unfold Bd at bdz;omega⟩
   go_wp2_with(first|(go_at_call 13;(with_reducible refine(HSu.out g ps _ Ho1.out.pts Ho2.out.own.pls HX2.out).mono ?_);rintro e w3 ⟨v1,l1,rfl,hl1,hn1,hd1,hx3⟩;rw [Hk1.out]at hd1;rw [Hk1.out];obtain⟨la1,ln1,lc1,rfl⟩:=form3 hl1;have k50:=hx3.cellS k50;have k51:=hx3.cellS k51;have k60:=hx3.cellS k60;have k61:=hx3.cellS k61;have k62:=hx3.cellS k62;have k63:=hx3.cellS k63;have k64:=hx3.cellS k64;have k65:=hx3.cellS k65;have k66:=hx3.cellS k66)|(go_at_call 15;(with_reducible refine(HJo.out g ps _ (Ho1.out.ext hx3).pts (Ho2.out.ext hx3).own.pls (HX2.out.trans hx3)).mono ?_);rintro e w4 ⟨v2,rfl,⟨ja1,jn1,jc1,rfl⟩,hj1,hx4⟩;rw [Hk1.out]at hj1;rw [Hk1.out];have k50:=hx4.cellS k50;have k51:=hx4.cellS k51;have k60:=hx4.cellS k60;have k61:=hx4.cellS k61;have k62:=hx4.cellS k62;have k63:=hx4.cellS k63;have k64:=hx4.cellS k64;have k65:=hx4.cellS k65;have k66:=hx4.cellS k66))
   have X4:Ext wa w4:=hx3.trans hx4;have Hl1:=hd9 (hl1.ext' hx4);have Hd1:=hd9 hd1;have Hj1:=hd9 hj1;have HX4:=hd9 X4;have HKa:=hd9 (X4.heapS HK5.out);have HKb:=hd9 (X4.heapS HK6.out);have Hoa:=hd9 (Ho1.out.ext X4);have Hob:=hd9 (Ho2.out.ext X4);clear k50 k51 k60 k61 k62 k63 k64 k65 k66 hl1 hd1 hj1 hx3 hx4 X4;refine zlV _ w4 b5 (.pointer (J ⟨b6,0,V⟩)) (Z la1 ln1 lc1) (O Y k1) (Z ja1 jn1 jc1) (O Y k1) dx dz w.heap.size (Z ga2 gn2 gc2) (Z pa2' pn2 pc2) g Hfw.out.1 HKa.out Hoa.out _ ⟨rfl,rfl,rfl,rfl,rfl,rfl,rfl,rfl,rfl,rfl⟩ rfl (fun c a d v w h=>by cases d<;>exact h) (fun a W5 hfr hoc hgb=>?_);obtain⟨tt,dd⟩:=a;obtain⟨f1,f9,f10,f11,f12,f13,f14,f15,f16,hdd⟩:=hfr;dsimp only at f1 f9 f10 f11 f12 f13 f14 f15 f16 hdd;subst hdd;obtain⟨u,hu,ht⟩:=arrU tt 225 f1;simp only [hu]at f9 f10 f11 f12 f13 f14 f15 f16;clear hu;subst ht;simp only [List.range,List.range.loop,List.map_cons,List.map_nil,f9,f10,f11,f12,f13,f14,f15,f16];clear f1 f9 f10 f11 f12 f13 f14 f15 f16;have Hgb:=hd9 hgb;have Hoc:=hd9 hoc;have HKc:=hd9 (zac hgb HKa.out (fun e=>Hoa.out.ne_blkD HKa.out (by decide) e.symm));have HKd:=hd9 (zac hgb HKb.out (fun e=>Hoa.out.ne_blkD HKb.out (by decide) e.symm));have Hod:=hd9 (Hob.out.apart Hoa.out HL9.out hgb);have Hl2:=hd9 (Hl1.out.keep (Hoa.out.keepT (by decide) hgb));have HX5:=hd9 (zaS (HX2.out.trans HX4.out) hgb (fun j hj=>(Hoa.out.lt j hj).1));have HjT:=hd9 (Hoa.out.keepT (T':=75) (by decide) hgb);clear hoc hgb;go_wp2;refine zlW _ W5 b5 (.pointer (J ⟨b6,0,V⟩)) (Z la1 ln1 lc1) (O Y k1) (Z ja1 jn1 jc1) (O Y k1) dx dz w.heap.size L9 (Z ga2 gn2 gc2) (Z pa2' pn2 pc2) ps (by have:=Hfw.out.2.1;omega) HKc.out Hod.out _ ⟨rfl,rfl,rfl,rfl,rfl,rfl,rfl,rfl,rfl,rfl⟩ rfl (fun c a d v w h=>by cases d<;>exact h) (fun a W6 hfr hoc hgb=>?_);obtain⟨tt,dd⟩:=a;obtain⟨f1,f9,f10,f11,f12,f13,f14,f15,f16,hdd⟩:=hfr;dsimp only at f1 f9 f10 f11 f12 f13 f14 f15 f16 hdd;subst hdd;obtain⟨u,hu,ht⟩:=arrU tt 225 f1;simp only [hu]at f9 f10 f11 f12 f13 f14 f15 f16;clear hu;subst ht;simp only [List.range,List.range.loop,List.map_cons,List.map_nil,f9,f10,f11,f12,f13,f14,f15,f16];clear f1 f9 f10 f11 f12 f13 f14 f15 f16;have K5:=zac hgb HKc.out (fun e=>Hod.out.ne_blk HKc.out (by decide) e.symm);have K6:=zac hgb HKd.out (fun e=>Hod.out.ne_blk HKd.out (by decide) e.symm);have Hpt:=hd9 (Hoc.out.keep (Hod.out.keepT (by decide) hgb)).pts;have Hpl:=hd9 hoc.own.pls;have Hl3:=hd9 (Hl2.out.keep (Hod.out.keepT (by decide) hgb));have X6:=zaS HX5.out hgb (fun j hj=>(Hod.out.lt j hj).1)
   have Hj3:=hd9 (fun h=>by
    obtain⟨L,ks,rs,hj,sv⟩:=Hj1.out h;exact(⟨L,ks,rs,(hj.keep HjT.out).keep (Hod.out.keepT (by decide) hgb),sv⟩:∃L ks rs,IsJts W6 (Z ja1 jn1 jc1) L∧SvP ru ps ks L rs))
   have HX6:=hd9 X6;have k50:=qcB K5 (i:=0) (u:=Z ga2 gn2 gc2) rfl;have k51:=qcB K5 (i:=1) (u:=Z pa2' pn2 pc2) rfl;have k60:=qcB K6 (i:=0) (u:=O I sk) rfl;have k61:=qcB K6 (i:=1) (u:=O Y pin) rfl;have k62:=qcB K6 (i:=2) (u:=O Y wide) rfl;have k63:=qcB K6 (i:=3) (u:=O Y lap) rfl;have k64:=qcB K6 (i:=4) (u:=O Y step) rfl;have k65:=qcB K6 (i:=5) (u:=O Y run) rfl;have k66:=qcB K6 (i:=6) (u:=O Y level) rfl;obtain⟨k2,hk2⟩:=gX (byE (g.map (mwQ (dx,dz))) (ps.map (mwP (dx,dz))) ru);have Hk2:=hd9 hk2;clear hoc hgb K5 K6 X6 hk2
   go_upto_region 17 with (first|(go_at_call 13;(with_reducible refine(HSu.out _ _ _ Hpt.out Hpl.out HX6.out).mono ?_);rintro e w7 ⟨v3,l3,rfl,hl3,hn3,hd3,hx7⟩;rw [Hk2.out]at hd3;rw [Hk2.out];obtain⟨la3,ln3,lc3,rfl⟩:=form3 hl3;have k50:=hx7.cellS k50;have k51:=hx7.cellS k51;have k60:=hx7.cellS k60;have k61:=hx7.cellS k61;have k62:=hx7.cellS k62;have k63:=hx7.cellS k63;have k64:=hx7.cellS k64;have k65:=hx7.cellS k65;have k66:=hx7.cellS k66)|(go_at_call 15;(with_reducible refine(HJo.out _ _ _ (Hpt.out.ext' hx7) (Hpl.out.ext' hx7) (HX6.out.trans hx7)).mono ?_);rintro e w8 ⟨v4,rfl,⟨ja3,jn3,jc3,rfl⟩,hj3,hx8⟩;rw [Hk2.out]at hj3;rw [Hk2.out];have k50:=hx8.cellS k50;have k51:=hx8.cellS k51;have k60:=hx8.cellS k60;have k61:=hx8.cellS k61;have k62:=hx8.cellS k62;have k63:=hx8.cellS k63;have k64:=hx8.cellS k64;have k65:=hx8.cellS k65;have k66:=hx8.cellS k66))
   have X8:Ext w w8:=HX6.out.trans (hx7.trans hx8);have Hl4:=hd9 (hl3.ext' hx8);have Hd3:=hd9 hd3;have Hj4:=hd9 hj3;have Hx78:=hd9 (hx7.trans hx8);clear k50 k51 k60 k61 k62 k63 k64 k65 k66 hl3 hd3 hj3 hx7 hx8
   by_cases h1:k1=0
   ·by_cases h2:k2=0
    ·subst h1
     subst h2;have h0:=(zi1 Hk1.out).1;have h0':=(zi1 Hk2.out).1;obtain⟨e1,e2⟩:=zpj (d:=(dx,dz)) h0 bdx bdz;obtain⟨L,ks,rs,hj,sv⟩:=Hj3.out rfl;obtain⟨L',ks',rs',hj',sv'⟩:=Hj4.out rfl;have hf:=Hd1.out rfl;have hf':=Hd3.out rfl;rw [e1,e2]at h0' hf';rw [e2]at sv';obtain rfl:=zoJ h0 h0' hf hf';obtain⟨rfl,_⟩:=L_mv (zal h0).1 sv sv';have hLb:=(znM (zal h0).1 (zal h0).2.1 sv).jts;have hl5:=Hl3.out.ext' Hx78.out;have hj5:=hj.ext' Hx78.out;have e3:((ln1:Int) != (ln3:Int))=false:=by rw [hl5.len,Hl4.out.len];simp
     have e4:((jn1:Int) != (jn3:Int))=false:=by rw [hj5.len,hj'.len,lL];simp
     have Hl5:=hd9 hl5;have Hj5:=hd9 hj5;have Hj6:=hd9 hj';have HLb:=hd9 hLb;have HX8:=hd9 X8;clear h0 h0' e1 e2 hj sv hj' sv' hf hf' hLb hl5 hj5 X8;go_wp2;refine zlX _ w8 (Z la1 ln1 lc1) (Z ja1 jn1 jc1) (O Y dx) (O Y dz) (Z la3 ln3 lc3) (Z ja3 jn3 jc3) _ Hl5.out Hl4.out _ ⟨rfl,rfl,rfl,rfl,rfl,rfl,rfl,rfl⟩ rfl (fun c a d v w h=>by cases d<;>exact h) (fun a W9 hfr hx9=>?_);obtain⟨tt,dd⟩:=a;obtain⟨f1,f11,f13,f15,f16,f19,f21,hdd⟩:=hfr;dsimp only at f1 f11 f13 f15 f16 f19 f21 hdd;subst hdd;obtain⟨u,hu,ht⟩:=arrU tt 225 f1;simp only [hu]at f11 f13 f15 f16 f19 f21;clear hu;subst ht;simp only [List.range,List.range.loop,List.map_cons,List.map_nil,f11,f13,f15,f16,f19,f21];clear f1 f11 f13 f15 f16 f19 f21;have HX9:=hd9 hx9;clear hx9;go_wp2;refine zlY _ W9 (Z la1 ln1 lc1) (Z ja1 jn1 jc1) (Z la3 ln3 lc3) (Z ja3 jn3 jc3) dx dz bdx bdz L HLb.out (Hj5.out.ext' HX9.out) (Hj6.out.ext' HX9.out) _ ⟨rfl,rfl,rfl,rfl,rfl,rfl,rfl,rfl⟩ rfl (fun c a d v w h=>by cases d<;>exact h) (fun a W10 hfr hx10=>?_);obtain⟨tt,dd⟩:=a;obtain⟨f1,f11,f13,f15,f16,f19,f21,hdd⟩:=hfr;dsimp only at f1 f11 f13 f15 f16 f19 f21 hdd;subst hdd;obtain⟨u,hu,ht⟩:=arrU tt 225 f1;simp only [hu]at f11 f13 f15 f16 f19 f21;clear hu;subst ht;simp only [List.range,List.range.loop,List.map_cons,List.map_nil,f11,f13,f15,f16,f19,f21];clear f1 f11 f13 f15 f16 f19 f21;have X10:Ext w W10:=HX8.out.trans (HX9.out.trans hx10)
     go_wp2_with(go_at_call 9;(with_reducible refine(HA.out _ X10).mono ?_);rintro e w11 ⟨rfl,hx11⟩)
     go_ret;exact⟨rfl,X10.trans hx11⟩
    ·have e2:(k2 != 0)=true:=by simpa using h2
     subst h1
     go_wp2_with(go_at_call 9;(with_reducible refine(HA.out _ X8).mono ?_);rintro e w9 ⟨rfl,hx9⟩)
     go_ret;exact⟨rfl,X8.trans hx9⟩
   ·have e1:(k1 != 0)=true:=by simpa using h1
    go_wp2_with(go_at_call 9;(with_reducible refine(HA.out _ X8).mono ?_);rintro e w9 ⟨rfl,hx9⟩)
    go_ret;exact⟨rfl,X8.trans hx9⟩
end
section
open Go.ChangeShapes Go.WideShapes Go.Deep
section
variable {H:Type} {enc:TypeId×Value→H} {P:Program} {w:World} {spare:Nat→Bool} {held:Bool}
theorem zg3 {k:Nat}:∀{css:List (List Value)} {j:Nat} {x:Value},0<k→(∀c∈css,c.length=k)→css.flatten[j]?=some x→∃d,css[j / k]?=some d∧d[j % k]?=some x
 | [],j,x,_,_,h=>by simp at h
 | c::css,j,x,hk,hc,h=>by
  have hl:c.length=k:=hc c (by simp);rw [List.flatten_cons]at h
  by_cases hj:j<k
  ·rw [List.getElem?_append_left (by omega)]at h
   rw [Nat.div_eq_of_lt hj,Nat.mod_eq_of_lt hj];exact⟨c,rfl,h⟩
  ·rw [List.getElem?_append_right (by omega),hl]at h
   obtain⟨d,h1,h2⟩:=zg3 (j:=j-k) hk (fun c hc'=>hc c (mC _ hc')) h;rw [Nat.div_eq_sub_div hk (by omega),Nat.mod_eq_sub_mod (by omega)];exact⟨d,by simpa using h1,h2⟩
theorem zd9 {t e:TypeId} {k fuel:Nat} {cs:List Value} {x:DataW H×List MemPlace} (ht:P.underlying t=some (.slice e)) (hk:P.cellsOf e=k) (hk0:0<k)
  (h:DataW.trod enc P w 0 spare held fuel t cs=some x) :
  ∃(a:Option Addr) (n c:Nat) (T:TypeId) (css:List (List Value)),cs=[.slice a n c]∧css.length=n∧(∀d∈css,d.length=k)∧Rd w T k (.slice a n c) n css.flatten ∧
   ∀d∈css,∃m y,DataW.trod enc P w 0 spare held m e d=some y:=by
 rcases open_slice ht h with ⟨rfl,_⟩|⟨a,len,cap,m,f,D,Pl,rfl,_,hl,hm,hmm,_,hel⟩
 ·exact⟨none,0,0,0,[],rfl,rfl,by simp,Rd.nil w 0 k,by simp⟩
 ·have hlm:len≤m:=by rw [hmm];split<;>omega
  rw [hk]at hel;obtain⟨F,hF⟩:=choose_lt (α:=List Value) (n:=len) (p:=fun i d=>w.cells? 0 (a.add (i*k)) k=some d∧DataW.trod enc P w 0 spare held f e d=some (D i,Pl i)) (fun i hi=>hel i (by omega))
  have hlen:∀d∈(List.range len).map F,d.length=k:=by
   intro d hd;obtain⟨i,hi,rfl⟩:=List.mem_map.1 hd;exact(World.cells?_some (hF i (List.mem_range.1 hi)).1).2.1
  have hall:∀d∈(List.range len).map F,∃m y,DataW.trod enc P w 0 spare held m e d=some y:=by
   intro d hd;obtain⟨i,hi,rfl⟩:=List.mem_map.1 hd;exact⟨f,_,(hF i (List.mem_range.1 hi)).2⟩
  by_cases h0:len=0
  ·subst h0
   exact⟨some a,0,cap,0,[],rfl,rfl,by simp,⟨by simp,some a,cap,rfl,hl,hm,.inl ⟨rfl,fun e=>by cases e⟩⟩,by simp⟩
  ·have c0:=(World.cells?_some (hF 0 (by omega)).1).2.2 0 hk0
   have hcl:=hlen (F 0) (List.mem_map.2 ⟨0,List.mem_range.2 (by omega),rfl⟩);obtain⟨v0,hv0⟩:∃v,(F 0)[0]?=some v:=⟨(F 0)[0]'(by omega),by simp⟩;rw [hv0]at c0;obtain⟨b,o,sp⟩:=a
   have hsp:sp=none:=by
    have:=World.cell?_spot c0
    simpa [Addr.add] using this
   subst hsp;have e0:((⟨b,o,none⟩:Addr).add (0*k)).add 0=⟨b,o,none⟩:=by simp [Addr.add]
   rw [e0]at c0
   obtain⟨blk,T,fr,hblk⟩:∃blk T fr,w.heap[b]?=some (.cells blk T fr):=by
    unfold World.cell? at c0
    split at c0
    ·rename_i blk T fr hb;exact⟨blk,T,fr,hb⟩
    ·cases c0
   refine⟨some ⟨b,o,none⟩,len,cap,T,(List.range len).map F,rfl,by simp,hlen,⟨?_,some ⟨b,o,none⟩,cap,rfl,hl,hm,.inr ⟨b,o,blk,fr,rfl,hblk,fun j y hj=>?_⟩⟩,hall⟩
   ·rw [zaj hlen];simp
   ·obtain⟨d,h1,h2⟩:=zg3 hk0 hlen hj
    obtain⟨hi,rfl⟩:j / k<len∧F (j / k)=d:=by
     rw [lP]at h1
     by_cases hi:j / k<len
     ·rw [List.getElem?_range hi]at h1
      exact⟨hi,Option.some.inj h1⟩
     ·rw [List.getElem?_eq_none (by simpa using hi)]at h1
      cases h1
    have c1:=(World.cells?_some (hF (j / k) hi).1).2.2 (j % k) (Nat.mod_lt _ hk0);rw [h2]at c1
    have e1:((⟨b,o,none⟩:Addr).add (j / k*k)).add (j % k)=⟨b,o+j,none⟩:=by
     rw [add_add];have:j / k*k+j % k=j:=by rw [Nat.mul_comm];exact Nat.div_add_mod j k
     rw [this];unfold Addr.add
     split
     ·rename_i h;rw [h];rfl
     ·rfl
    rw [e1]at c1
    simpa [World.cell?,hblk] using c1
end
end
section
open Go.ChangeShapes Go.WideShapes Go.Deep
def flds (P:Program) (t:TypeId):Array Field:=match P.underlying t with|some (.struct fs)=>fs|_=>#[]
section
variable {H:Type} {enc:TypeId×Value→H} {w:World} {spare:Nat→Bool} {held:Bool}
theorem fld {P:Program} {fs:Array Field} {n i ti oi ki:Nat} {cs:List Value} {xs:List (DataW H×List MemPlace)} (hx:xs.length=fs.size)
  (hf:∀(i:Nat) (f:Field),fs[i]?=some f→DataW.trod enc P w 0 spare held n f.type ((cs.drop f.offset).take (P.cellsOf f.type))=xs[i]?)
  (hi:fs[i]?.map (fun f=>(f.type,f.offset,P.cellsOf f.type))=some (ti,oi,ki)):∃y,DataW.trod enc P w 0 spare held n ti ((cs.drop oi).take ki)=some y:=by
 cases h:fs[i]? with
 | none=>rw [h]at hi;cases hi
 | some f =>
  rw [h]at hi;simp only [Option.map_some,Option.some.injEq,Prod.mk.injEq]at hi;obtain⟨rfl,rfl,rfl⟩:=hi;have hl:i<xs.length:=by rw [hx];exact(Array.getElem?_eq_some_iff.1 h).1
  exact⟨xs[i],by rw [hf i f h];simp [hl]⟩
theorem zbm:Tryz.prog.underlying 3=some (.int .i64):=by kernel_rfl
theorem zmV:Tryz.prog.underlying 5=some (.int .u8):=by kernel_rfl
theorem znV:Tryz.prog.underlying 9=some .string:=by kernel_rfl
theorem zo5:Tryz.prog.underlying 88=some (.struct (flds Tryz.prog 88)):=by kernel_rfl
theorem zo6:Tryz.prog.underlying 90=some (.struct (flds Tryz.prog 90)):=by kernel_rfl
theorem zo4:Tryz.prog.underlying 92=some (.struct (flds Tryz.prog 92)):=by kernel_rfl
theorem zmW:Tryz.prog.underlying 25=some (.struct (flds Tryz.prog 25)):=by kernel_rfl
theorem znU:Tryz.prog.underlying 22=some (.slice 88):=by kernel_rfl
theorem znT:Tryz.prog.underlying 23=some (.slice 92):=by kernel_rfl
theorem zbK {n:Nat} {cs:List Value} {y:DataW H×List MemPlace} (h:DataW.trod enc Tryz.prog w 0 spare held n 88 cs=some y):∃p:Int×Int,cs=[.int .i64 p.1,.int .i64 p.2]:=by
 obtain⟨xs,m,_,_,hl,hx,hf⟩:=DataW.trod_struct zo5 h;have hc:Tryz.prog.cellsOf 88=2:=by kernel_rfl
 rw [hc]at hl;obtain⟨y0,h0⟩:=fld hx hf (i:=0) (ti:=3) (oi:=0) (ki:=1) (by kernel_rfl);obtain⟨y1,h1⟩:=fld hx hf (i:=1) (ti:=3) (oi:=1) (ki:=1) (by kernel_rfl)
 match cs,hl with
 | [a,b],_ =>
  obtain⟨x,e0,_⟩:=DataW.trod_int zbm h0;obtain⟨z,e1,_⟩:=DataW.trod_int zbm h1;simp at e0 e1;subst e0 e1;exact⟨(x,z),rfl⟩
theorem ziM {α:Type} {Q:List Value→α→Prop}:∀{css:List (List Value)},(∀d∈css,∃a,Q d a)→∃l:List α,css.length=l.length∧∀(i:Nat) d a,css[i]?=some d→l[i]?=some a→Q d a
 | [],_=>⟨[],rfl,fun i d a h=>by simp at h⟩
 | c::css,h=>by
  obtain⟨a,ha⟩:=h c (by simp);obtain⟨l,hl,has⟩:=ziM (css:=css) (fun d hd=>h d (mC _ hd));refine⟨a::l,by simp [hl],fun i d b hd hb=>?_⟩
  cases i with
  | zero=>simp at hd hb;subst hd hb;exact ha
  | succ i=>exact has i d b (by simpa using hd) (by simpa using hb)
theorem zcn {n:Nat} {v:Value} {y:DataW H×List MemPlace} (h:DataW.trod enc Tryz.prog w 0 spare held n 22 [v]=some y):∃ps,IsPr w v ps:=by
 obtain⟨a,m,c,T,css,e,hl,hk,hr,hd⟩:=zd9 znU (k:=2) (by kernel_rfl) (by omega) h
 cases e
 obtain⟨ps,hps,hq⟩:=ziM (α:=Int×Int) (Q:=PP w) (fun d h=>by
  obtain⟨f,y,hy⟩:=hd d h;obtain⟨p,hp⟩:=zbK hy;exact⟨p,hp⟩)
 exact⟨ps,T,css,hps,hk,by rw [←hps,hl];exact hr,hq⟩
theorem zen {n:Nat} {cs:List Value} {y:DataW H×List MemPlace} (h:DataW.trod enc Tryz.prog w 0 spare held n 92 cs=some y):∃p:Pl,PPr w cs p:=by
 obtain⟨xs,m,_,_,hl,hx,hf⟩:=DataW.trod_struct zo4 h;have hc:Tryz.prog.cellsOf 92=10:=by kernel_rfl
 rw [hc]at hl;obtain⟨y0,h0⟩:=fld hx hf (i:=0) (ti:=90) (oi:=0) (ki:=6) (by kernel_rfl);obtain⟨y1,h1⟩:=fld hx hf (i:=1) (ti:=3) (oi:=6) (ki:=1) (by kernel_rfl);obtain⟨y2,h2⟩:=fld hx hf (i:=2) (ti:=88) (oi:=7) (ki:=2) (by kernel_rfl);obtain⟨y3,h3⟩:=fld hx hf (i:=3) (ti:=5) (oi:=9) (ki:=1) (by kernel_rfl)
 match cs,hl with
 | [a0,a1,a2,a3,a4,a5,a6,a7,a8,a9],_ =>
  obtain⟨zs,k,_,_,_,hz,hg⟩:=DataW.trod_struct zo6 h0;obtain⟨z0,g0⟩:=fld hz hg (i:=0) (ti:=9) (oi:=0) (ki:=1) (by kernel_rfl);obtain⟨z1,g1⟩:=fld hz hg (i:=1) (ti:=22) (oi:=1) (ki:=1) (by kernel_rfl);obtain⟨z2,g2⟩:=fld hz hg (i:=2) (ti:=3) (oi:=2) (ki:=1) (by kernel_rfl);obtain⟨z3,g3⟩:=fld hz hg (i:=3) (ti:=3) (oi:=3) (ki:=1) (by kernel_rfl);obtain⟨z4,g4⟩:=fld hz hg (i:=4) (ti:=88) (oi:=4) (ki:=2) (by kernel_rfl);obtain⟨nm,e0,_⟩:=DataW.trod_string znV g0;obtain⟨sh,hsh⟩:=zcn g1;obtain⟨de,e2,_⟩:=DataW.trod_int zbm g2;obtain⟨dn,e3,_⟩:=DataW.trod_int zbm g3;obtain⟨gr,e4⟩:=zbK g4;obtain⟨wy,e6,_⟩:=DataW.trod_int zbm h1;obtain⟨at9,e7⟩:=zbK h2;obtain⟨sk,e9,_,wsk⟩:=DataW.trod_int zmV h3;simp at e0 e2 e3 e4 e6 e7 e9;obtain⟨rfl,rfl⟩:=e4;obtain⟨rfl,rfl⟩:=e7;subst e0 e2 e3 e6 e9;refine⟨⟨nm,sh,de,dn,gr.1,gr.2,wy,at9.1,at9.2,sk⟩,_,rfl,hsh,?_⟩;have w9:decide (IntKind.u8.min≤sk)=true:=by unfold Lit.wf at wsk;simp only [Bool.and_eq_true]at wsk;exact wsk.1
  have w8:IntKind.u8.min=0:=by decide
  rw [w8]at w9;exact of_decide_eq_true w9
theorem zdY {n:Nat} {v:Value} {y:DataW H×List MemPlace} (h:DataW.trod enc Tryz.prog w 0 spare held n 23 [v]=some y):∃ps,IsWr w v ps:=by
 obtain⟨a,m,c,T,css,e,hl,hk,hr,hd⟩:=zd9 znT (k:=10) (by kernel_rfl) (by omega) h
 cases e
 obtain⟨ps,hps,hq⟩:=ziM (α:=Pl) (Q:=PPr w) (fun d h=>by
  obtain⟨f,y,hy⟩:=hd d h;exact zen hy)
 exact⟨ps,T,css,hps,hk,by rw [←hps,hl];exact hr,hq⟩
theorem zfW {r:Reach} {b0:Nat} {v:Value} {d:DataW H} {p:List MemPlace} (hv:Value.okWide Tryz.prog w r b0 25 v) (h:DataW.Trod enc Tryz.prog w 0 spare held 25 v d p) :
  ∃vg vp g ps,v = .agg #[vg,vp]∧IsPr w vg g∧IsWr w vp ps:=by
 obtain⟨cs,rfl,hsz⟩:=okWide_struct zmW hv;have hc:Tryz.prog.cellsOf 25=2:=by kernel_rfl
 rw [hc]at hsz
 obtain⟨c0,c1,rfl⟩:∃a b,cs=#[a,b]:=by
  match cs,hsz with
  | ⟨[a,b]⟩,_=>exact⟨a,b,rfl⟩
 obtain⟨fuel,hf⟩:=h;obtain⟨xs,m,_,_,hl,hx,hg⟩:=DataW.trod_struct zmW hf;obtain⟨y0,h0⟩:=fld hx hg (i:=0) (ti:=22) (oi:=0) (ki:=1) (by kernel_rfl);obtain⟨y1,h1⟩:=fld hx hg (i:=1) (ti:=23) (oi:=1) (ki:=1) (by kernel_rfl);obtain⟨g,h2⟩:=zcn (v:=c0) h0;obtain⟨ps,h3⟩:=zdY (v:=c1) h1;exact⟨c0,c1,g,ps,rfl,h2,h3⟩
end
end
section
open Go Go.ChangeShapes Go.WideShapes Go.ChangeAt Go.RowKit
theorem zl6:ownKnob Tryz.prog.godebug=none:=by kernel_rfl
theorem g_ways:Tryz.prog.globalNamed "copestone/stone.ways" = some 0:=by kernel_rfl
theorem t_ways:(Tryz.prog.globals[0]?).map (·.type)=some 243:=by kernel_rfl
theorem zmr:Tryz.prog.underlying 243=some (.array 4 242):=by kernel_rfl
theorem zdv:Tryz.prog.underlying 242=some (.func #[42] #[42] false):=by kernel_rfl
theorem zha:laidOutB Tryz.prog=true:=by kernel_rfl
theorem zhV {W:World} (h:laidMetH Tryz.prog [("copestone/stone.ways",Rows.laid_copestone_stone_ways)] W):Gw W:=by
 obtain⟨g,t,cs,fuel,p,hg,ht,hv,hd⟩:=h.funcs (List.mem_singleton.2 rfl);obtain rfl:=Option.some.inj (g_ways.symm.trans hg);obtain rfl:=Option.some.inj (t_ways.symm.trans ht);have hd':DataW.trod (funcToken Tryz.prog) Tryz.prog W 0 (fun _=>true) true fuel 243 cs.toList=some (.agg [.held [99,111,112,101,115,116,111,110,101,47,115,116,111,110,101,46,119,97,121,115,36,49],.held [99,111,112,101,115,116,111,110,101,47,115,116,111,110,101,46,119,97,121,115,36,50],.held [99,111,112,101,115,116,111,110,101,47,115,116,111,110,101,46,119,97,121,115,36,51],.held [99,111,112,101,115,116,111,110,101,47,115,116,111,110,101,46,119,97,121,115,36,52]],p):=hd;obtain⟨xs,m,_,hx,hl,hxl,hf⟩:=DataW.trod_array zmr hd';have c1:Tryz.prog.cellsOf 242=1:=by kernel_rfl
 have c4:Tryz.prog.cellsOf 243=4:=by kernel_rfl
 rw [c4]at hl;rw [c1]at hf;obtain⟨cs⟩:=cs;have hl':cs.length=4:=hl
 match cs,hl',xs,hxl with
 | [v0,v1,v2,v3],_,[⟨y0,q0⟩,⟨y1,q1⟩,⟨y2,q2⟩,⟨y3,q3⟩],_ =>
  simp only [Prod.mk.injEq,List.map_cons,List.map_nil,DataW.agg.injEq,List.cons.injEq,and_true]at hx;obtain⟨⟨rfl,rfl,rfl,rfl⟩,_⟩:=hx;have r0:=hf 0 (by omega);have r1:=hf 1 (by omega);have r2:=hf 2 (by omega);have r3:=hf 3 (by omega);have k0:=World.var?_cell hg hv 0;have k1:=World.var?_cell hg hv 1;have k2:=World.var?_cell hg hv 2;have k3:=World.var?_cell hg hv 3;obtain rfl:=func_of_trod (f0:=264) zdv (by kernel_rfl) r0;obtain rfl:=func_of_trod (f0:=265) zdv (by kernel_rfl) r1;obtain rfl:=func_of_trod (f0:=266) zdv (by kernel_rfl) r2;obtain rfl:=func_of_trod (f0:=267) zdv (by kernel_rfl) r3;have e0:W.cell? ⟨0,0,none⟩=some (.func (.func 264) #[] #[]):=by simpa using k0
  exact⟨World.block_lt_of_cell? W _ (by rw [e0]),e0,by simpa using k1,by simpa using k2,by simpa using k3⟩
theorem zlz (os:Os) (args:Array Value):laidMetH Tryz.prog [("copestone/stone.ways",Rows.laid_copestone_stone_ways)] ((World.doorLaid Tryz.prog 14 os).forCall (fun _ _=>0) ⟨#[],args,[]⟩).memory:=
 laidMetH_of_parts3 (fuel:=8) (laidMet_of_run' 8 (by kernel_rfl) (by kernel_rfl)) (by kernel_rfl) (by kernel_rfl)
theorem zo8 {k:IntKind} {n:Int} (h:(Lit.int k n).wf=true):k.min≤n∧n≤k.max:=by
 unfold Lit.wf at h;simp only [Bool.and_eq_true,decide_eq_true_eq]at h;exact h
end
section
open Go.ChangeShapes Go.WideShapes Go.Deep
section
variable {H:Type} {enc:TypeId×Value→H} {w:World} {spare:Nat→Bool} {held:Bool}
theorem zmU:Tryz.prog.underlying 27=some (.struct (flds Tryz.prog 27)):=by kernel_rfl
theorem zfb {r:Reach} {b0:Nat} {v:Value} {d:DataW H} {p:List MemPlace} (hv:Value.okWide Tryz.prog w r b0 27 v) (h:DataW.Trod enc Tryz.prog w 0 spare held 27 v d p) :
  ∃ru:Ru,v = .agg (ruc ru):=by
 obtain⟨cs,rfl,hsz⟩:=okWide_struct zmU hv;have hc:Tryz.prog.cellsOf 27=7:=by kernel_rfl
 rw [hc]at hsz
 obtain⟨c0,c1,c2,c3,c4,c5,c6,rfl⟩:∃a b c d e f g,cs=#[a,b,c,d,e,f,g]:=by
  match cs,hsz with
  | ⟨[a,b,c,d,e,f,g]⟩,_=>exact⟨a,b,c,d,e,f,g,rfl⟩
 obtain⟨fuel,hf⟩:=h;obtain⟨xs,m,_,_,hl,hx,hg⟩:=DataW.trod_struct zmU hf;obtain⟨y0,h0⟩:=fld hx hg (i:=0) (ti:=5) (oi:=0) (ki:=1) (by kernel_rfl);obtain⟨y1,h1⟩:=fld hx hg (i:=1) (ti:=3) (oi:=1) (ki:=1) (by kernel_rfl);obtain⟨y2,h2⟩:=fld hx hg (i:=2) (ti:=3) (oi:=2) (ki:=1) (by kernel_rfl);obtain⟨y3,h3⟩:=fld hx hg (i:=3) (ti:=3) (oi:=3) (ki:=1) (by kernel_rfl);obtain⟨y4,h4⟩:=fld hx hg (i:=4) (ti:=3) (oi:=4) (ki:=1) (by kernel_rfl);obtain⟨y5,h5⟩:=fld hx hg (i:=5) (ti:=3) (oi:=5) (ki:=1) (by kernel_rfl);obtain⟨y6,h6⟩:=fld hx hg (i:=6) (ti:=3) (oi:=6) (ki:=1) (by kernel_rfl);obtain⟨z0,e0,_⟩:=DataW.trod_int zmV h0;obtain⟨z1,e1,_⟩:=DataW.trod_int zbm h1;obtain⟨z2,e2,_⟩:=DataW.trod_int zbm h2;obtain⟨z3,e3,_⟩:=DataW.trod_int zbm h3;obtain⟨z4,e4,_⟩:=DataW.trod_int zbm h4;obtain⟨z5,e5,_⟩:=DataW.trod_int zbm h5;obtain⟨z6,e6,_⟩:=DataW.trod_int zbm h6;have f0:[c0]=[.int .u8 z0]:=e0;have f1:[c1]=[.int .i64 z1]:=e1;have f2:[c2]=[.int .i64 z2]:=e2;have f3:[c3]=[.int .i64 z3]:=e3;have f4:[c4]=[.int .i64 z4]:=e4;have f5:[c5]=[.int .i64 z5]:=e5;have f6:[c6]=[.int .i64 z6]:=e6;simp only [List.cons.injEq,and_true]at f0 f1 f2 f3 f4 f5 f6;exact⟨⟨z0,z1,z2,z3,z4,z5,z6⟩,by unfold ruc;rw [f0,f1,f2,f3,f4,f5,f6]⟩
end
end
end Go.Proofs.YteipgejmhfpkaaaGreatDoor.Cop
