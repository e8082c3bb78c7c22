/- Part 25: contracts of what the law calls. -/
import Derived.Test.YtodpfeaihohpjaaGreatDoorCopA23
import Derived.Test.YtodpfeaihohpjaaGreatDoorCopA05
import Derived.Test.YtodpfeaihohpjaaGreatDoorCopA14
set_option maxRecDepth 1000000
set_option maxHeartbeats 16000000
set_option linter.unusedSimpArgs false
set_option linter.unusedVariables false
open Go.Value renaming slice→O,bool→Y,agg→Z
open Option renaming none→X
namespace Go.Proofs.YtodpfeaihohpjaaGreatDoor.Cop
section
open Go.RowKit Go.Shelf Go.Sort Go.Lib
attribute [local go_sem] Oper.semAt_some
theorem zbg (w:World) (nm:ByteArray) (x z:Int):Calls Tryz.prog 33 #[.string nm,.int .i64 x,.int .i64 z] w fun e w'=>∃v,e = .returned (Z (plc (brickP nm x z) v))∧IsPts w' v brickS∧Ext w w':=by
 go_enter Tryz.func33,Tryz.ntmps33
 go_wp2_with(go_at_call 91;(with_reducible refine(zhF _).mono ?_);rintro e w3 ⟨v3,rfl,hv3,hx3⟩;obtain⟨a3,n3,c3,rfl⟩:=form3 hv3;obtain⟨hc3,hf3⟩:=hx3.cells;(have z3:=hx3.size);(simp only [wZ]at z3);(have y0:w.heap.size<w3.heap.size:=(by omega));(have y1:¬w.heap.size=w3.heap.size:=(by omega)))
 refine bR (v:=Z (plc (brickP nm x z) (O a3 n3 c3))) (by simp [results,Tryz.results33,go_sem,plc,brickP,hc3,hf3,y0,y1]) rfl ⟨_,rfl,?_,eA⟩;exact hv3.keep' kA
theorem zkM (w:World):Calls Tryz.prog 38 #[] w fun e w'=>∃v,e = .returned v∧IsPts w' v exG∧Ext w w':=by
 go_enter Tryz.func38,Tryz.ntmps38;go_wp2;go_ret;exact⟨_,rfl,zjQ _ rfl exG (by decide),eA⟩
theorem zf2 (w:World):Calls Tryz.prog 34 #[] w fun e w'=>∃vg vp,e = .returned (Z #[vg,vp])∧IsPts w' vg exG∧IsPls w' vp ex3∧Ext w w':=by
 go_enter Tryz.func34,Tryz.ntmps34
 go_wp2_with(first|(go_at_call 38;(with_reducible refine(zkM _).mono ?_);rintro e w1 ⟨v1,rfl,hv1,hx1⟩;obtain⟨a1,n1,c1,rfl⟩:=form3 hv1;obtain⟨hc1,hf1⟩:=hx1.cells;(have z1:w.heap.size<w1.heap.size:=by have:=hx1.size;simp only [wZ]at this;omega))|(go_at_call 33;(with_reducible refine(zbg _ ⟨#[97]⟩ 0 0).mono ?_);rintro e w2 ⟨v2,rfl,hv2,hx2⟩;obtain⟨a2,n2,c2,rfl⟩:=form3 hv2;obtain⟨hc2,hf2⟩:=hx2.cells;(have z2:w.heap.size<w2.heap.size:=by have:=hx2.size;omega);(unfold plc brickP);dsimp only)|(go_at_call 33;(with_reducible refine(zbg _ ⟨#[98]⟩ 200 0).mono ?_);rintro e w3 ⟨v3,rfl,hv3,hx3⟩;obtain⟨a3,n3,c3,rfl⟩:=form3 hv3;obtain⟨hc3,hf3⟩:=hx3.cells;(have z3:w.heap.size<w3.heap.size:=by have:=hx3.size;omega);(unfold plc brickP);dsimp only)|(go_at_call 33;(with_reducible refine(zbg _ ⟨#[99]⟩ 100 80).mono ?_);rintro e w4 ⟨v4,rfl,hv4,hx4⟩;obtain⟨a4,n4,c4,rfl⟩:=form3 hv4;obtain⟨hc4,hf4⟩:=hx4.cells;(have z4:w.heap.size<w4.heap.size:=by have:=hx4.size;omega);(unfold plc brickP);dsimp only))
 have K1:=hx1.heapS (aN w (.cells #[O X 0 0,O X 0 0] 50));have K4:=hx4.heapS (hx3.heapS (hx2.heapS K1));obtain⟨W5,hW5⟩:=gX ((w4.setCell ⟨w.heap.size,0,X⟩ (O a1 n1 c1)).setCell ⟨w.heap.size,1,X⟩ (O (some ⟨w4.heap.size,0,X⟩) 3 3))
 have hk:KeepT 33 w4 W5:=by
  rw [←hW5];have h1:=(KeepT.refl 33 w4).set (p:=⟨w.heap.size,0,X⟩) K4 (by decide) (O a1 n1 c1);exact h1.set (p:=⟨w.heap.size,1,X⟩) (zau K4 0 _) (by decide) _
 have hz:W5.heap.size=w4.heap.size:=by rw [←hW5];simp only [qcZ]
 have hb:W5.heap[w.heap.size]?=some (.cells #[O a1 n1 c1,O (some ⟨w4.heap.size,0,X⟩) 3 3] 50 (0,0)):=by
  rw [←hW5];exact zau (zau K4 0 _) 1 _
 have hX:Ext w W5:=by
  rw [←hW5];exact(Ext.set (Ext.set (((((eR w).alloc _).trans hx1).trans hx2).trans hx3 |>.trans hx4) (nE _) _) (nE _) _)
 rw [hW5];clear hW5 hc1 hf1 hc2 hf2 hc3 hf3 hc4 hf4;have b0:=qcB hb (i:=0) (u:=O a1 n1 c1) rfl;have b1:=qcB hb (i:=1) (u:=O (some ⟨w4.heap.size,0,X⟩) 3 3) rfl;have bz:=zaa hb
 have hq:=zjG W5 (k:=w4.heap.size) (base:=w.heap.size) hz.symm (by omega) [(brickP ⟨#[97]⟩ 0 0,O a2 n2 c2),(brickP ⟨#[98]⟩ 200 0,O a3 n3 c3),(brickP ⟨#[99]⟩ 100 80,O a4 n4 c4)] (by
  intro q hq;simp only [List.mem_cons,List.not_mem_nil,or_false]at hq
  rcases hq with rfl|rfl|rfl
  ·exact⟨((hv2.ext' hx3).ext' hx4).keep' hk,by unfold brickP;dsimp only;omega⟩
  ·exact⟨(hv3.ext' hx4).keep' hk,by unfold brickP;dsimp only;omega⟩
  ·exact⟨hv4.keep' hk,by unfold brickP;dsimp only;omega⟩) (by simp)
 refine bR (v:=Z #[O a1 n1 c1,O (some ⟨w4.heap.size,0,X⟩) 3 3]) (by simp [results,Tryz.results34,go_sem,b0,b1,bz]) rfl ⟨_,_,rfl,?_,?_,hX.alloc _⟩
 ·exact((((hv1.ext' hx2).ext' hx3).ext' hx4).keep' hk).ext' ((eR _).alloc _)
 ·exact hq.pls
end
section
open Go.RowKit Go.Shelf
attribute [local go_sem] Oper.semAt_some
theorem zh5 (w:World) (v:Value) (q:Rat) (h:IsR w v q) (hl:Rb limT q) (h0:0≤q.num) :
  Calls Tryz.prog 55 #[v] w (RetZ w q.floor):=by
 obtain⟨a,m,c,s,a2,m2,c2,rfl⟩:=h.form;rw [Rat.floor_def];have HB:=hd9 (fun(W:World) (hW:Ext w W)=>zas W _ q (h.ext hW) (hl.mono (by decide)));have HQ:=hd9 (fun(W:World) (hW:Ext w W) (v:Value) (hv:IsZ W v (q.den:Int))=>zfn W (Z #[O a m c,Y s]) v q.num (q.den:Int) (h.top.ext hW) hv (hl.1.mono (by decide)) (hl.2.mono (by decide)) (by have:=q.den_pos;omega) (.inl h0));obtain⟨R,hR⟩:=gX (RetZ w (q.num / (q.den:Int)));rw [hR];have HR:=hd9 hR;clear h hl h0 hR;go_enter Tryz.func55,Tryz.ntmps55;go_wp2
 have hn:∀b,w.heap.size<b→∀q∈[((⟨w.heap.size,0,X⟩:Addr),Value.slice a m c),(⟨w.heap.size,1,X⟩,Y s),(⟨w.heap.size,2,X⟩,O a2 m2 c2)],b≠q.1.block:=by
  intro b hb q hq;simp at hq
  rcases hq with rfl|rfl|rfl<;>(dsimp only;omega)
 refine wp_region_held_drew (S:=CellL [(⟨w.heap.size,0,X⟩,O a m c),(⟨w.heap.size,1,X⟩,Y s),(⟨w.heap.size,2,X⟩,O a2 m2 c2)]) (by kernel_rfl) cA (fun h9H=>?_);refine sN 0 ?_
 iterate 3
  refine tkn ?_
 refine oN ?_;refine call3 (i:=3) (j:=9) (k:=10) (fun K hK=>?_) (fun K hK=>?_) (fun K hK=>?_)
 ·skip
  go_simp
  (with_reducible refine cM (HB.out _ eA) ?_)
  rintro e w1 ⟨r1,rfl,hr1,hx1⟩;obtain⟨a1,m1,c1,s1,rfl⟩:=hr1.form;obtain⟨hc1,hf1⟩:=hx1.cells;have z1:=hx1.size
  (try simp only [wZ,qdZ]at z1)
  (try(have z1_0:w.heap.size<w1.heap.size:=by omega))
  (try(have z1_1:w.heap.size+1<w1.heap.size:=by omega))
  (try(have z1_2:w.heap.size+1+1<w1.heap.size:=by omega))
  (try(have z1_3:w.heap.size+1+1+1<w1.heap.size:=by omega))
  go_wp2_with fail
  refine kO hK (cE h9H hx1) (fun h9H=>?_);clear hK K;refine call3 (i:=4) (j:=9) (k:=10) (fun K hK=>?_) (fun K hK=>?_) (fun K hK=>?_)
  ·skip
   go_simp
   (with_reducible refine cM (HQ.out _ eA _ (hr1.ext eA)) ?_)
   rintro e w2 ⟨rq,rr,rfl,hrq,hrr,hx2⟩;obtain⟨⟨aq,mq,cq,sq,rfl⟩,ar,mr,cr,sr,rfl⟩:=And.intro hrq.form hrr.form;obtain⟨hc2,hf2⟩:=hx2.cells;have z2:=hx2.size
   (try simp only [wZ,qdZ]at z2)
   (try(have z2_0:w.heap.size<w2.heap.size:=by omega))
   (try(have z2_1:w.heap.size+1<w2.heap.size:=by omega))
   (try(have z2_2:w.heap.size+1+1<w2.heap.size:=by omega))
   (try(have z2_3:w.heap.size+1+1+1<w2.heap.size:=by omega))
   (try(have z2_4:w1.heap.size<w2.heap.size:=by omega))
   (try(have z2_5:w1.heap.size+1<w2.heap.size:=by omega))
   (try(have z2_6:w.heap.size<w1.heap.size+1:=by omega))
   (try(have z2_7:w.heap.size+1<w1.heap.size+1:=by omega))
   (try(have z2_8:w.heap.size<w2.heap.size+1:=by omega))
   (try(have z2_9:w.heap.size+1<w2.heap.size+1:=by omega))
   (try(have z2_10:w1.heap.size<w2.heap.size+1:=by omega))
   (try(have n1:w1.heap.size<w1.heap.size+1+1:=by omega))
   (try(have n2:w1.heap.size<w1.heap.size+1:=by omega))
   (try(have n3:w2.heap.size<w2.heap.size+1+1:=by omega))
   (try(have n4:w2.heap.size<w2.heap.size+1:=by omega))
   go_wp2_with fail
   refine kO hK (cE h9H hx2) (fun h9H=>?_);clear hK K;refine sN 5 ?_
   iterate 4
    refine tkn ?_
   refine oN ?_;refine call2 (i:=9) (j:=10) (fun K hK=>?_) (fun K hK=>?_)
   ·skip
    go_simp;refine kO hK (cE h9H ((eR _).alloc _)) (fun h9H=>?_);clear hK K;refine cl1 (i:=10) fun K hK=>?_
    go_simp;refine kO hK (cE h9H ((eR _).alloc _)) (fun h9H=>?_);clear hK K;refine cl1 (i:=11) fun K hK=>?_
    go_simp;refine kO hK (by first|(refine⟨?_,?_,?_,trivial⟩<;>(focus(go_simp;done)))|exact CellL.set (CellL.set h9H (hn _ (by omega)) _) (hn _ (by omega)) _) (fun h9H=>?_);clear hK K;refine cl1 (i:=12) fun K hK=>?_
    go_simp;refine kO hK (by first|(refine⟨?_,?_,?_,trivial⟩<;>(focus(go_simp;done)))|exact CellL.set (CellL.set h9H (hn _ (by omega)) _) (hn _ (by omega)) _) (fun h9H=>?_);clear hK K;refine tk1 (i:=13) ?_;refine wpAnyH_done (by kernel_rfl) ?_ _;go_wp2;refine bR (v:=Z #[O aq mq cq,Y sq]) (by first|(simp [results,Tryz.results55,go_sem,hc1,hf1,hc2,hf2,z1_0,z1_1,z2_0,z2_1,z2_4,z2_5,z2_6,z2_7,z2_10];done)|(simp [results,Tryz.results55,go_sem,hc1,hf1,hc2,hf2,z1_0,z1_1,z2_0,z2_1,z2_4,z2_6,z2_7,z2_8,z2_9,z2_10];done)|(simp [results,Tryz.results55,go_sem,hc1,hf1,hc2,hf2,z1_0,z1_1,z2_0,z2_1];done)) rfl ?_;rw [←HR.out]
    trace_state
    exact⟨_,rfl,hrq.keep kA,eA⟩
   ·skip
    go_simp;refine kO hK (cE h9H ((eR _).alloc _)) (fun h9H=>?_);clear hK K;refine cl1 (i:=9) fun K hK=>?_
    go_simp;refine kO hK (cE h9H ((eR _).alloc _)) (fun h9H=>?_);clear hK K;refine cl1 (i:=11) fun K hK=>?_
    go_simp;refine kO hK (by first|(refine⟨?_,?_,?_,trivial⟩<;>(focus(go_simp;done)))|exact CellL.set (CellL.set h9H (hn _ (by omega)) _) (hn _ (by omega)) _) (fun h9H=>?_);clear hK K;refine cl1 (i:=12) fun K hK=>?_
    go_simp;refine kO hK (by first|(refine⟨?_,?_,?_,trivial⟩<;>(focus(go_simp;done)))|exact CellL.set (CellL.set h9H (hn _ (by omega)) _) (hn _ (by omega)) _) (fun h9H=>?_);clear hK K;refine tk1 (i:=13) ?_;refine wpAnyH_done (by kernel_rfl) ?_ _;go_wp2;refine bR (v:=Z #[O aq mq cq,Y sq]) (by first|(simp [results,Tryz.results55,go_sem,hc1,hf1,hc2,hf2,z1_0,z1_1,z2_0,z2_1,z2_4,z2_5,z2_6,z2_7,z2_10];done)|(simp [results,Tryz.results55,go_sem,hc1,hf1,hc2,hf2,z1_0,z1_1,z2_0,z2_1,z2_4,z2_6,z2_7,z2_8,z2_9,z2_10];done)|(simp [results,Tryz.results55,go_sem,hc1,hf1,hc2,hf2,z1_0,z1_1,z2_0,z2_1];done)) rfl ?_;rw [←HR.out]
    trace_state
    exact⟨_,rfl,hrq.keep kA,eA⟩
  ·skip
   go_simp;refine kO hK (cE h9H ((eR _).alloc _)) (fun h9H=>?_);clear hK K;refine call2 (i:=4) (j:=10) (fun K hK=>?_) (fun K hK=>?_)
   ·skip
    go_simp
    (with_reducible refine cM (HQ.out _ eA _ (hr1.ext eA)) ?_)
    rintro e w2 ⟨rq,rr,rfl,hrq,hrr,hx2⟩;obtain⟨⟨aq,mq,cq,sq,rfl⟩,ar,mr,cr,sr,rfl⟩:=And.intro hrq.form hrr.form;obtain⟨hc2,hf2⟩:=hx2.cells;have z2:=hx2.size
    (try simp only [wZ,qdZ]at z2)
    (try(have z2_0:w.heap.size<w2.heap.size:=by omega))
    (try(have z2_1:w.heap.size+1<w2.heap.size:=by omega))
    (try(have z2_2:w.heap.size+1+1<w2.heap.size:=by omega))
    (try(have z2_3:w.heap.size+1+1+1<w2.heap.size:=by omega))
    (try(have z2_4:w1.heap.size<w2.heap.size:=by omega))
    (try(have z2_5:w1.heap.size+1<w2.heap.size:=by omega))
    (try(have z2_6:w.heap.size<w1.heap.size+1:=by omega))
    (try(have z2_7:w.heap.size+1<w1.heap.size+1:=by omega))
    (try(have z2_8:w.heap.size<w2.heap.size+1:=by omega))
    (try(have z2_9:w.heap.size+1<w2.heap.size+1:=by omega))
    (try(have z2_10:w1.heap.size<w2.heap.size+1:=by omega))
    (try(have n1:w1.heap.size<w1.heap.size+1+1:=by omega))
    (try(have n2:w1.heap.size<w1.heap.size+1:=by omega))
    (try(have n3:w2.heap.size<w2.heap.size+1+1:=by omega))
    (try(have n4:w2.heap.size<w2.heap.size+1:=by omega))
    go_wp2_with fail
    refine kO hK (cE h9H hx2) (fun h9H=>?_);clear hK K;refine sN 5 ?_
    iterate 4
     refine tkn ?_
    refine oN ?_;refine cl1 (i:=10) fun K hK=>?_
    go_simp;refine kO hK (cE h9H ((eR _).alloc _)) (fun h9H=>?_);clear hK K;refine cl1 (i:=11) fun K hK=>?_
    go_simp;refine kO hK (by first|(refine⟨?_,?_,?_,trivial⟩<;>(focus(go_simp;done)))|exact CellL.set (CellL.set h9H (hn _ (by omega)) _) (hn _ (by omega)) _) (fun h9H=>?_);clear hK K;refine cl1 (i:=12) fun K hK=>?_
    go_simp;refine kO hK (by first|(refine⟨?_,?_,?_,trivial⟩<;>(focus(go_simp;done)))|exact CellL.set (CellL.set h9H (hn _ (by omega)) _) (hn _ (by omega)) _) (fun h9H=>?_);clear hK K;refine tk1 (i:=13) ?_;refine wpAnyH_done (by kernel_rfl) ?_ _;go_wp2;refine bR (v:=Z #[O aq mq cq,Y sq]) (by first|(simp [results,Tryz.results55,go_sem,hc1,hf1,hc2,hf2,z1_0,z1_1,z2_0,z2_1,z2_4,z2_5,z2_6,z2_7,z2_10];done)|(simp [results,Tryz.results55,go_sem,hc1,hf1,hc2,hf2,z1_0,z1_1,z2_0,z2_1,z2_4,z2_6,z2_7,z2_8,z2_9,z2_10];done)|(simp [results,Tryz.results55,go_sem,hc1,hf1,hc2,hf2,z1_0,z1_1,z2_0,z2_1];done)) rfl ?_;rw [←HR.out]
    trace_state
    exact⟨_,rfl,hrq.keep kA,eA⟩
   ·skip
    go_simp;refine kO hK (cE h9H ((eR _).alloc _)) (fun h9H=>?_);clear hK K;refine cl1 (i:=4) fun K hK=>?_
    go_simp
    (with_reducible refine cM (HQ.out _ eA _ (hr1.ext eA)) ?_)
    rintro e w2 ⟨rq,rr,rfl,hrq,hrr,hx2⟩;obtain⟨⟨aq,mq,cq,sq,rfl⟩,ar,mr,cr,sr,rfl⟩:=And.intro hrq.form hrr.form;obtain⟨hc2,hf2⟩:=hx2.cells;have z2:=hx2.size
    (try simp only [wZ,qdZ]at z2)
    (try(have z2_0:w.heap.size<w2.heap.size:=by omega))
    (try(have z2_1:w.heap.size+1<w2.heap.size:=by omega))
    (try(have z2_2:w.heap.size+1+1<w2.heap.size:=by omega))
    (try(have z2_3:w.heap.size+1+1+1<w2.heap.size:=by omega))
    (try(have z2_4:w1.heap.size<w2.heap.size:=by omega))
    (try(have z2_5:w1.heap.size+1<w2.heap.size:=by omega))
    (try(have z2_6:w.heap.size<w1.heap.size+1:=by omega))
    (try(have z2_7:w.heap.size+1<w1.heap.size+1:=by omega))
    (try(have z2_8:w.heap.size<w2.heap.size+1:=by omega))
    (try(have z2_9:w.heap.size+1<w2.heap.size+1:=by omega))
    (try(have z2_10:w1.heap.size<w2.heap.size+1:=by omega))
    (try(have n1:w1.heap.size<w1.heap.size+1+1:=by omega))
    (try(have n2:w1.heap.size<w1.heap.size+1:=by omega))
    (try(have n3:w2.heap.size<w2.heap.size+1+1:=by omega))
    (try(have n4:w2.heap.size<w2.heap.size+1:=by omega))
    go_wp2_with fail
    refine kO hK (cE h9H hx2) (fun h9H=>?_);clear hK K;refine sN 5 ?_
    iterate 4
     refine tkn ?_
    refine oN ?_;refine cl1 (i:=11) fun K hK=>?_
    go_simp;refine kO hK (by first|(refine⟨?_,?_,?_,trivial⟩<;>(focus(go_simp;done)))|exact CellL.set (CellL.set h9H (hn _ (by omega)) _) (hn _ (by omega)) _) (fun h9H=>?_);clear hK K;refine cl1 (i:=12) fun K hK=>?_
    go_simp;refine kO hK (by first|(refine⟨?_,?_,?_,trivial⟩<;>(focus(go_simp;done)))|exact CellL.set (CellL.set h9H (hn _ (by omega)) _) (hn _ (by omega)) _) (fun h9H=>?_);clear hK K;refine tk1 (i:=13) ?_;refine wpAnyH_done (by kernel_rfl) ?_ _;go_wp2;refine bR (v:=Z #[O aq mq cq,Y sq]) (by first|(simp [results,Tryz.results55,go_sem,hc1,hf1,hc2,hf2,z1_0,z1_1,z2_0,z2_1,z2_4,z2_5,z2_6,z2_7,z2_10];done)|(simp [results,Tryz.results55,go_sem,hc1,hf1,hc2,hf2,z1_0,z1_1,z2_0,z2_1,z2_4,z2_6,z2_7,z2_8,z2_9,z2_10];done)|(simp [results,Tryz.results55,go_sem,hc1,hf1,hc2,hf2,z1_0,z1_1,z2_0,z2_1];done)) rfl ?_;rw [←HR.out]
    trace_state
    exact⟨_,rfl,hrq.keep kA,eA⟩
  ·skip
   go_simp;refine kO hK (cE h9H ((eR _).alloc _)) (fun h9H=>?_);clear hK K;refine call2 (i:=4) (j:=9) (fun K hK=>?_) (fun K hK=>?_)
   ·skip
    go_simp
    (with_reducible refine cM (HQ.out _ eA _ (hr1.ext eA)) ?_)
    rintro e w2 ⟨rq,rr,rfl,hrq,hrr,hx2⟩;obtain⟨⟨aq,mq,cq,sq,rfl⟩,ar,mr,cr,sr,rfl⟩:=And.intro hrq.form hrr.form;obtain⟨hc2,hf2⟩:=hx2.cells;have z2:=hx2.size
    (try simp only [wZ,qdZ]at z2)
    (try(have z2_0:w.heap.size<w2.heap.size:=by omega))
    (try(have z2_1:w.heap.size+1<w2.heap.size:=by omega))
    (try(have z2_2:w.heap.size+1+1<w2.heap.size:=by omega))
    (try(have z2_3:w.heap.size+1+1+1<w2.heap.size:=by omega))
    (try(have z2_4:w1.heap.size<w2.heap.size:=by omega))
    (try(have z2_5:w1.heap.size+1<w2.heap.size:=by omega))
    (try(have z2_6:w.heap.size<w1.heap.size+1:=by omega))
    (try(have z2_7:w.heap.size+1<w1.heap.size+1:=by omega))
    (try(have z2_8:w.heap.size<w2.heap.size+1:=by omega))
    (try(have z2_9:w.heap.size+1<w2.heap.size+1:=by omega))
    (try(have z2_10:w1.heap.size<w2.heap.size+1:=by omega))
    (try(have n1:w1.heap.size<w1.heap.size+1+1:=by omega))
    (try(have n2:w1.heap.size<w1.heap.size+1:=by omega))
    (try(have n3:w2.heap.size<w2.heap.size+1+1:=by omega))
    (try(have n4:w2.heap.size<w2.heap.size+1:=by omega))
    go_wp2_with fail
    refine kO hK (cE h9H hx2) (fun h9H=>?_);clear hK K;refine sN 5 ?_
    iterate 4
     refine tkn ?_
    refine oN ?_;refine cl1 (i:=9) fun K hK=>?_
    go_simp;refine kO hK (cE h9H ((eR _).alloc _)) (fun h9H=>?_);clear hK K;refine cl1 (i:=11) fun K hK=>?_
    go_simp;refine kO hK (by first|(refine⟨?_,?_,?_,trivial⟩<;>(focus(go_simp;done)))|exact CellL.set (CellL.set h9H (hn _ (by omega)) _) (hn _ (by omega)) _) (fun h9H=>?_);clear hK K;refine cl1 (i:=12) fun K hK=>?_
    go_simp;refine kO hK (by first|(refine⟨?_,?_,?_,trivial⟩<;>(focus(go_simp;done)))|exact CellL.set (CellL.set h9H (hn _ (by omega)) _) (hn _ (by omega)) _) (fun h9H=>?_);clear hK K;refine tk1 (i:=13) ?_;refine wpAnyH_done (by kernel_rfl) ?_ _;go_wp2;refine bR (v:=Z #[O aq mq cq,Y sq]) (by first|(simp [results,Tryz.results55,go_sem,hc1,hf1,hc2,hf2,z1_0,z1_1,z2_0,z2_1,z2_4,z2_5,z2_6,z2_7,z2_10];done)|(simp [results,Tryz.results55,go_sem,hc1,hf1,hc2,hf2,z1_0,z1_1,z2_0,z2_1,z2_4,z2_6,z2_7,z2_8,z2_9,z2_10];done)|(simp [results,Tryz.results55,go_sem,hc1,hf1,hc2,hf2,z1_0,z1_1,z2_0,z2_1];done)) rfl ?_;rw [←HR.out]
    trace_state
    exact⟨_,rfl,hrq.keep kA,eA⟩
   ·skip
    go_simp;refine kO hK (cE h9H ((eR _).alloc _)) (fun h9H=>?_);clear hK K;refine cl1 (i:=4) fun K hK=>?_
    go_simp
    (with_reducible refine cM (HQ.out _ eA _ (hr1.ext eA)) ?_)
    rintro e w2 ⟨rq,rr,rfl,hrq,hrr,hx2⟩;obtain⟨⟨aq,mq,cq,sq,rfl⟩,ar,mr,cr,sr,rfl⟩:=And.intro hrq.form hrr.form;obtain⟨hc2,hf2⟩:=hx2.cells;have z2:=hx2.size
    (try simp only [wZ,qdZ]at z2)
    (try(have z2_0:w.heap.size<w2.heap.size:=by omega))
    (try(have z2_1:w.heap.size+1<w2.heap.size:=by omega))
    (try(have z2_2:w.heap.size+1+1<w2.heap.size:=by omega))
    (try(have z2_3:w.heap.size+1+1+1<w2.heap.size:=by omega))
    (try(have z2_4:w1.heap.size<w2.heap.size:=by omega))
    (try(have z2_5:w1.heap.size+1<w2.heap.size:=by omega))
    (try(have z2_6:w.heap.size<w1.heap.size+1:=by omega))
    (try(have z2_7:w.heap.size+1<w1.heap.size+1:=by omega))
    (try(have z2_8:w.heap.size<w2.heap.size+1:=by omega))
    (try(have z2_9:w.heap.size+1<w2.heap.size+1:=by omega))
    (try(have z2_10:w1.heap.size<w2.heap.size+1:=by omega))
    (try(have n1:w1.heap.size<w1.heap.size+1+1:=by omega))
    (try(have n2:w1.heap.size<w1.heap.size+1:=by omega))
    (try(have n3:w2.heap.size<w2.heap.size+1+1:=by omega))
    (try(have n4:w2.heap.size<w2.heap.size+1:=by omega))
    go_wp2_with fail
    refine kO hK (cE h9H hx2) (fun h9H=>?_);clear hK K;refine sN 5 ?_
    iterate 4
     refine tkn ?_
    refine oN ?_;refine cl1 (i:=11) fun K hK=>?_
    go_simp;refine kO hK (by first|(refine⟨?_,?_,?_,trivial⟩<;>(focus(go_simp;done)))|exact CellL.set (CellL.set h9H (hn _ (by omega)) _) (hn _ (by omega)) _) (fun h9H=>?_);clear hK K;refine cl1 (i:=12) fun K hK=>?_
    go_simp;refine kO hK (by first|(refine⟨?_,?_,?_,trivial⟩<;>(focus(go_simp;done)))|exact CellL.set (CellL.set h9H (hn _ (by omega)) _) (hn _ (by omega)) _) (fun h9H=>?_);clear hK K;refine tk1 (i:=13) ?_;refine wpAnyH_done (by kernel_rfl) ?_ _;go_wp2;refine bR (v:=Z #[O aq mq cq,Y sq]) (by first|(simp [results,Tryz.results55,go_sem,hc1,hf1,hc2,hf2,z1_0,z1_1,z2_0,z2_1,z2_4,z2_5,z2_6,z2_7,z2_10];done)|(simp [results,Tryz.results55,go_sem,hc1,hf1,hc2,hf2,z1_0,z1_1,z2_0,z2_1,z2_4,z2_6,z2_7,z2_8,z2_9,z2_10];done)|(simp [results,Tryz.results55,go_sem,hc1,hf1,hc2,hf2,z1_0,z1_1,z2_0,z2_1];done)) rfl ?_;rw [←HR.out]
    trace_state
    exact⟨_,rfl,hrq.keep kA,eA⟩
 ·skip
  go_simp;refine kO hK (cE h9H ((eR _).alloc _)) (fun h9H=>?_);clear hK K;refine call2 (i:=3) (j:=10) (fun K hK=>?_) (fun K hK=>?_)
  ·skip
   go_simp
   (with_reducible refine cM (HB.out _ eA) ?_)
   rintro e w1 ⟨r1,rfl,hr1,hx1⟩;obtain⟨a1,m1,c1,s1,rfl⟩:=hr1.form;obtain⟨hc1,hf1⟩:=hx1.cells;have z1:=hx1.size
   (try simp only [wZ,qdZ]at z1)
   (try(have z1_0:w.heap.size<w1.heap.size:=by omega))
   (try(have z1_1:w.heap.size+1<w1.heap.size:=by omega))
   (try(have z1_2:w.heap.size+1+1<w1.heap.size:=by omega))
   (try(have z1_3:w.heap.size+1+1+1<w1.heap.size:=by omega))
   go_wp2_with fail
   refine kO hK (cE h9H hx1) (fun h9H=>?_);clear hK K;refine call2 (i:=4) (j:=10) (fun K hK=>?_) (fun K hK=>?_)
   ·skip
    go_simp
    (with_reducible refine cM (HQ.out _ eA _ (hr1.ext eA)) ?_)
    rintro e w2 ⟨rq,rr,rfl,hrq,hrr,hx2⟩;obtain⟨⟨aq,mq,cq,sq,rfl⟩,ar,mr,cr,sr,rfl⟩:=And.intro hrq.form hrr.form;obtain⟨hc2,hf2⟩:=hx2.cells;have z2:=hx2.size
    (try simp only [wZ,qdZ]at z2)
    (try(have z2_0:w.heap.size<w2.heap.size:=by omega))
    (try(have z2_1:w.heap.size+1<w2.heap.size:=by omega))
    (try(have z2_2:w.heap.size+1+1<w2.heap.size:=by omega))
    (try(have z2_3:w.heap.size+1+1+1<w2.heap.size:=by omega))
    (try(have z2_4:w1.heap.size<w2.heap.size:=by omega))
    (try(have z2_5:w1.heap.size+1<w2.heap.size:=by omega))
    (try(have z2_6:w.heap.size<w1.heap.size+1:=by omega))
    (try(have z2_7:w.heap.size+1<w1.heap.size+1:=by omega))
    (try(have z2_8:w.heap.size<w2.heap.size+1:=by omega))
    (try(have z2_9:w.heap.size+1<w2.heap.size+1:=by omega))
    (try(have z2_10:w1.heap.size<w2.heap.size+1:=by omega))
    (try(have n1:w1.heap.size<w1.heap.size+1+1:=by omega))
    (try(have n2:w1.heap.size<w1.heap.size+1:=by omega))
    (try(have n3:w2.heap.size<w2.heap.size+1+1:=by omega))
    (try(have n4:w2.heap.size<w2.heap.size+1:=by omega))
    go_wp2_with fail
    refine kO hK (cE h9H hx2) (fun h9H=>?_);clear hK K;refine sN 5 ?_
    iterate 4
     refine tkn ?_
    refine oN ?_;refine cl1 (i:=10) fun K hK=>?_
    go_simp;refine kO hK (cE h9H ((eR _).alloc _)) (fun h9H=>?_);clear hK K;refine cl1 (i:=11) fun K hK=>?_
    go_simp;refine kO hK (by first|(refine⟨?_,?_,?_,trivial⟩<;>(focus(go_simp;done)))|exact CellL.set (CellL.set h9H (hn _ (by omega)) _) (hn _ (by omega)) _) (fun h9H=>?_);clear hK K;refine cl1 (i:=12) fun K hK=>?_
    go_simp;refine kO hK (by first|(refine⟨?_,?_,?_,trivial⟩<;>(focus(go_simp;done)))|exact CellL.set (CellL.set h9H (hn _ (by omega)) _) (hn _ (by omega)) _) (fun h9H=>?_);clear hK K;refine tk1 (i:=13) ?_;refine wpAnyH_done (by kernel_rfl) ?_ _;go_wp2;refine bR (v:=Z #[O aq mq cq,Y sq]) (by first|(simp [results,Tryz.results55,go_sem,hc1,hf1,hc2,hf2,z1_0,z1_1,z2_0,z2_1,z2_4,z2_5,z2_6,z2_7,z2_10];done)|(simp [results,Tryz.results55,go_sem,hc1,hf1,hc2,hf2,z1_0,z1_1,z2_0,z2_1,z2_4,z2_6,z2_7,z2_8,z2_9,z2_10];done)|(simp [results,Tryz.results55,go_sem,hc1,hf1,hc2,hf2,z1_0,z1_1,z2_0,z2_1];done)) rfl ?_;rw [←HR.out]
    trace_state
    exact⟨_,rfl,hrq.keep kA,eA⟩
   ·skip
    go_simp;refine kO hK (cE h9H ((eR _).alloc _)) (fun h9H=>?_);clear hK K;refine cl1 (i:=4) fun K hK=>?_
    go_simp
    (with_reducible refine cM (HQ.out _ eA _ (hr1.ext eA)) ?_)
    rintro e w2 ⟨rq,rr,rfl,hrq,hrr,hx2⟩;obtain⟨⟨aq,mq,cq,sq,rfl⟩,ar,mr,cr,sr,rfl⟩:=And.intro hrq.form hrr.form;obtain⟨hc2,hf2⟩:=hx2.cells;have z2:=hx2.size
    (try simp only [wZ,qdZ]at z2)
    (try(have z2_0:w.heap.size<w2.heap.size:=by omega))
    (try(have z2_1:w.heap.size+1<w2.heap.size:=by omega))
    (try(have z2_2:w.heap.size+1+1<w2.heap.size:=by omega))
    (try(have z2_3:w.heap.size+1+1+1<w2.heap.size:=by omega))
    (try(have z2_4:w1.heap.size<w2.heap.size:=by omega))
    (try(have z2_5:w1.heap.size+1<w2.heap.size:=by omega))
    (try(have z2_6:w.heap.size<w1.heap.size+1:=by omega))
    (try(have z2_7:w.heap.size+1<w1.heap.size+1:=by omega))
    (try(have z2_8:w.heap.size<w2.heap.size+1:=by omega))
    (try(have z2_9:w.heap.size+1<w2.heap.size+1:=by omega))
    (try(have z2_10:w1.heap.size<w2.heap.size+1:=by omega))
    (try(have n1:w1.heap.size<w1.heap.size+1+1:=by omega))
    (try(have n2:w1.heap.size<w1.heap.size+1:=by omega))
    (try(have n3:w2.heap.size<w2.heap.size+1+1:=by omega))
    (try(have n4:w2.heap.size<w2.heap.size+1:=by omega))
    go_wp2_with fail
    refine kO hK (cE h9H hx2) (fun h9H=>?_);clear hK K;refine sN 5 ?_
    iterate 4
     refine tkn ?_
    refine oN ?_;refine cl1 (i:=11) fun K hK=>?_
    go_simp;refine kO hK (by first|(refine⟨?_,?_,?_,trivial⟩<;>(focus(go_simp;done)))|exact CellL.set (CellL.set h9H (hn _ (by omega)) _) (hn _ (by omega)) _) (fun h9H=>?_);clear hK K;refine cl1 (i:=12) fun K hK=>?_
    go_simp;refine kO hK (by first|(refine⟨?_,?_,?_,trivial⟩<;>(focus(go_simp;done)))|exact CellL.set (CellL.set h9H (hn _ (by omega)) _) (hn _ (by omega)) _) (fun h9H=>?_);clear hK K;refine tk1 (i:=13) ?_;refine wpAnyH_done (by kernel_rfl) ?_ _;go_wp2;refine bR (v:=Z #[O aq mq cq,Y sq]) (by first|(simp [results,Tryz.results55,go_sem,hc1,hf1,hc2,hf2,z1_0,z1_1,z2_0,z2_1,z2_4,z2_5,z2_6,z2_7,z2_10];done)|(simp [results,Tryz.results55,go_sem,hc1,hf1,hc2,hf2,z1_0,z1_1,z2_0,z2_1,z2_4,z2_6,z2_7,z2_8,z2_9,z2_10];done)|(simp [results,Tryz.results55,go_sem,hc1,hf1,hc2,hf2,z1_0,z1_1,z2_0,z2_1];done)) rfl ?_;rw [←HR.out]
    trace_state
    exact⟨_,rfl,hrq.keep kA,eA⟩
  ·skip
   go_simp;refine kO hK (cE h9H ((eR _).alloc _)) (fun h9H=>?_);clear hK K;refine cl1 (i:=3) fun K hK=>?_
   go_simp
   (with_reducible refine cM (HB.out _ eA) ?_)
   rintro e w1 ⟨r1,rfl,hr1,hx1⟩;obtain⟨a1,m1,c1,s1,rfl⟩:=hr1.form;obtain⟨hc1,hf1⟩:=hx1.cells;have z1:=hx1.size
   (try simp only [wZ,qdZ]at z1)
   (try(have z1_0:w.heap.size<w1.heap.size:=by omega))
   (try(have z1_1:w.heap.size+1<w1.heap.size:=by omega))
   (try(have z1_2:w.heap.size+1+1<w1.heap.size:=by omega))
   (try(have z1_3:w.heap.size+1+1+1<w1.heap.size:=by omega))
   go_wp2_with fail
   refine kO hK (cE h9H hx1) (fun h9H=>?_);clear hK K;refine cl1 (i:=4) fun K hK=>?_
   go_simp
   (with_reducible refine cM (HQ.out _ eA _ (hr1.ext eA)) ?_)
   rintro e w2 ⟨rq,rr,rfl,hrq,hrr,hx2⟩;obtain⟨⟨aq,mq,cq,sq,rfl⟩,ar,mr,cr,sr,rfl⟩:=And.intro hrq.form hrr.form;obtain⟨hc2,hf2⟩:=hx2.cells;have z2:=hx2.size
   (try simp only [wZ,qdZ]at z2)
   (try(have z2_0:w.heap.size<w2.heap.size:=by omega))
   (try(have z2_1:w.heap.size+1<w2.heap.size:=by omega))
   (try(have z2_2:w.heap.size+1+1<w2.heap.size:=by omega))
   (try(have z2_3:w.heap.size+1+1+1<w2.heap.size:=by omega))
   (try(have z2_4:w1.heap.size<w2.heap.size:=by omega))
   (try(have z2_5:w1.heap.size+1<w2.heap.size:=by omega))
   (try(have z2_6:w.heap.size<w1.heap.size+1:=by omega))
   (try(have z2_7:w.heap.size+1<w1.heap.size+1:=by omega))
   (try(have z2_8:w.heap.size<w2.heap.size+1:=by omega))
   (try(have z2_9:w.heap.size+1<w2.heap.size+1:=by omega))
   (try(have z2_10:w1.heap.size<w2.heap.size+1:=by omega))
   (try(have n1:w1.heap.size<w1.heap.size+1+1:=by omega))
   (try(have n2:w1.heap.size<w1.heap.size+1:=by omega))
   (try(have n3:w2.heap.size<w2.heap.size+1+1:=by omega))
   (try(have n4:w2.heap.size<w2.heap.size+1:=by omega))
   go_wp2_with fail
   refine kO hK (cE h9H hx2) (fun h9H=>?_);clear hK K;refine sN 5 ?_
   iterate 4
    refine tkn ?_
   refine oN ?_;refine cl1 (i:=11) fun K hK=>?_
   go_simp;refine kO hK (by first|(refine⟨?_,?_,?_,trivial⟩<;>(focus(go_simp;done)))|exact CellL.set (CellL.set h9H (hn _ (by omega)) _) (hn _ (by omega)) _) (fun h9H=>?_);clear hK K;refine cl1 (i:=12) fun K hK=>?_
   go_simp;refine kO hK (by first|(refine⟨?_,?_,?_,trivial⟩<;>(focus(go_simp;done)))|exact CellL.set (CellL.set h9H (hn _ (by omega)) _) (hn _ (by omega)) _) (fun h9H=>?_);clear hK K;refine tk1 (i:=13) ?_;refine wpAnyH_done (by kernel_rfl) ?_ _;go_wp2;refine bR (v:=Z #[O aq mq cq,Y sq]) (by first|(simp [results,Tryz.results55,go_sem,hc1,hf1,hc2,hf2,z1_0,z1_1,z2_0,z2_1,z2_4,z2_5,z2_6,z2_7,z2_10];done)|(simp [results,Tryz.results55,go_sem,hc1,hf1,hc2,hf2,z1_0,z1_1,z2_0,z2_1,z2_4,z2_6,z2_7,z2_8,z2_9,z2_10];done)|(simp [results,Tryz.results55,go_sem,hc1,hf1,hc2,hf2,z1_0,z1_1,z2_0,z2_1];done)) rfl ?_;rw [←HR.out]
   trace_state
   exact⟨_,rfl,hrq.keep kA,eA⟩
 ·skip
  go_simp;refine kO hK (cE h9H ((eR _).alloc _)) (fun h9H=>?_);clear hK K;refine call2 (i:=3) (j:=9) (fun K hK=>?_) (fun K hK=>?_)
  ·skip
   go_simp
   (with_reducible refine cM (HB.out _ eA) ?_)
   rintro e w1 ⟨r1,rfl,hr1,hx1⟩;obtain⟨a1,m1,c1,s1,rfl⟩:=hr1.form;obtain⟨hc1,hf1⟩:=hx1.cells;have z1:=hx1.size
   (try simp only [wZ,qdZ]at z1)
   (try(have z1_0:w.heap.size<w1.heap.size:=by omega))
   (try(have z1_1:w.heap.size+1<w1.heap.size:=by omega))
   (try(have z1_2:w.heap.size+1+1<w1.heap.size:=by omega))
   (try(have z1_3:w.heap.size+1+1+1<w1.heap.size:=by omega))
   go_wp2_with fail
   refine kO hK (cE h9H hx1) (fun h9H=>?_);clear hK K;refine call2 (i:=4) (j:=9) (fun K hK=>?_) (fun K hK=>?_)
   ·skip
    go_simp
    (with_reducible refine cM (HQ.out _ eA _ (hr1.ext eA)) ?_)
    rintro e w2 ⟨rq,rr,rfl,hrq,hrr,hx2⟩;obtain⟨⟨aq,mq,cq,sq,rfl⟩,ar,mr,cr,sr,rfl⟩:=And.intro hrq.form hrr.form;obtain⟨hc2,hf2⟩:=hx2.cells;have z2:=hx2.size
    (try simp only [wZ,qdZ]at z2)
    (try(have z2_0:w.heap.size<w2.heap.size:=by omega))
    (try(have z2_1:w.heap.size+1<w2.heap.size:=by omega))
    (try(have z2_2:w.heap.size+1+1<w2.heap.size:=by omega))
    (try(have z2_3:w.heap.size+1+1+1<w2.heap.size:=by omega))
    (try(have z2_4:w1.heap.size<w2.heap.size:=by omega))
    (try(have z2_5:w1.heap.size+1<w2.heap.size:=by omega))
    (try(have z2_6:w.heap.size<w1.heap.size+1:=by omega))
    (try(have z2_7:w.heap.size+1<w1.heap.size+1:=by omega))
    (try(have z2_8:w.heap.size<w2.heap.size+1:=by omega))
    (try(have z2_9:w.heap.size+1<w2.heap.size+1:=by omega))
    (try(have z2_10:w1.heap.size<w2.heap.size+1:=by omega))
    (try(have n1:w1.heap.size<w1.heap.size+1+1:=by omega))
    (try(have n2:w1.heap.size<w1.heap.size+1:=by omega))
    (try(have n3:w2.heap.size<w2.heap.size+1+1:=by omega))
    (try(have n4:w2.heap.size<w2.heap.size+1:=by omega))
    go_wp2_with fail
    refine kO hK (cE h9H hx2) (fun h9H=>?_);clear hK K;refine sN 5 ?_
    iterate 4
     refine tkn ?_
    refine oN ?_;refine cl1 (i:=9) fun K hK=>?_
    go_simp;refine kO hK (cE h9H ((eR _).alloc _)) (fun h9H=>?_);clear hK K;refine cl1 (i:=11) fun K hK=>?_
    go_simp;refine kO hK (by first|(refine⟨?_,?_,?_,trivial⟩<;>(focus(go_simp;done)))|exact CellL.set (CellL.set h9H (hn _ (by omega)) _) (hn _ (by omega)) _) (fun h9H=>?_);clear hK K;refine cl1 (i:=12) fun K hK=>?_
    go_simp;refine kO hK (by first|(refine⟨?_,?_,?_,trivial⟩<;>(focus(go_simp;done)))|exact CellL.set (CellL.set h9H (hn _ (by omega)) _) (hn _ (by omega)) _) (fun h9H=>?_);clear hK K;refine tk1 (i:=13) ?_;refine wpAnyH_done (by kernel_rfl) ?_ _;go_wp2;refine bR (v:=Z #[O aq mq cq,Y sq]) (by first|(simp [results,Tryz.results55,go_sem,hc1,hf1,hc2,hf2,z1_0,z1_1,z2_0,z2_1,z2_4,z2_5,z2_6,z2_7,z2_10];done)|(simp [results,Tryz.results55,go_sem,hc1,hf1,hc2,hf2,z1_0,z1_1,z2_0,z2_1,z2_4,z2_6,z2_7,z2_8,z2_9,z2_10];done)|(simp [results,Tryz.results55,go_sem,hc1,hf1,hc2,hf2,z1_0,z1_1,z2_0,z2_1];done)) rfl ?_;rw [←HR.out]
    trace_state
    exact⟨_,rfl,hrq.keep kA,eA⟩
   ·skip
    go_simp;refine kO hK (cE h9H ((eR _).alloc _)) (fun h9H=>?_);clear hK K;refine cl1 (i:=4) fun K hK=>?_
    go_simp
    (with_reducible refine cM (HQ.out _ eA _ (hr1.ext eA)) ?_)
    rintro e w2 ⟨rq,rr,rfl,hrq,hrr,hx2⟩;obtain⟨⟨aq,mq,cq,sq,rfl⟩,ar,mr,cr,sr,rfl⟩:=And.intro hrq.form hrr.form;obtain⟨hc2,hf2⟩:=hx2.cells;have z2:=hx2.size
    (try simp only [wZ,qdZ]at z2)
    (try(have z2_0:w.heap.size<w2.heap.size:=by omega))
    (try(have z2_1:w.heap.size+1<w2.heap.size:=by omega))
    (try(have z2_2:w.heap.size+1+1<w2.heap.size:=by omega))
    (try(have z2_3:w.heap.size+1+1+1<w2.heap.size:=by omega))
    (try(have z2_4:w1.heap.size<w2.heap.size:=by omega))
    (try(have z2_5:w1.heap.size+1<w2.heap.size:=by omega))
    (try(have z2_6:w.heap.size<w1.heap.size+1:=by omega))
    (try(have z2_7:w.heap.size+1<w1.heap.size+1:=by omega))
    (try(have z2_8:w.heap.size<w2.heap.size+1:=by omega))
    (try(have z2_9:w.heap.size+1<w2.heap.size+1:=by omega))
    (try(have z2_10:w1.heap.size<w2.heap.size+1:=by omega))
    (try(have n1:w1.heap.size<w1.heap.size+1+1:=by omega))
    (try(have n2:w1.heap.size<w1.heap.size+1:=by omega))
    (try(have n3:w2.heap.size<w2.heap.size+1+1:=by omega))
    (try(have n4:w2.heap.size<w2.heap.size+1:=by omega))
    go_wp2_with fail
    refine kO hK (cE h9H hx2) (fun h9H=>?_);clear hK K;refine sN 5 ?_
    iterate 4
     refine tkn ?_
    refine oN ?_;refine cl1 (i:=11) fun K hK=>?_
    go_simp;refine kO hK (by first|(refine⟨?_,?_,?_,trivial⟩<;>(focus(go_simp;done)))|exact CellL.set (CellL.set h9H (hn _ (by omega)) _) (hn _ (by omega)) _) (fun h9H=>?_);clear hK K;refine cl1 (i:=12) fun K hK=>?_
    go_simp;refine kO hK (by first|(refine⟨?_,?_,?_,trivial⟩<;>(focus(go_simp;done)))|exact CellL.set (CellL.set h9H (hn _ (by omega)) _) (hn _ (by omega)) _) (fun h9H=>?_);clear hK K;refine tk1 (i:=13) ?_;refine wpAnyH_done (by kernel_rfl) ?_ _;go_wp2;refine bR (v:=Z #[O aq mq cq,Y sq]) (by first|(simp [results,Tryz.results55,go_sem,hc1,hf1,hc2,hf2,z1_0,z1_1,z2_0,z2_1,z2_4,z2_5,z2_6,z2_7,z2_10];done)|(simp [results,Tryz.results55,go_sem,hc1,hf1,hc2,hf2,z1_0,z1_1,z2_0,z2_1,z2_4,z2_6,z2_7,z2_8,z2_9,z2_10];done)|(simp [results,Tryz.results55,go_sem,hc1,hf1,hc2,hf2,z1_0,z1_1,z2_0,z2_1];done)) rfl ?_;rw [←HR.out]
    trace_state
    exact⟨_,rfl,hrq.keep kA,eA⟩
  ·skip
   go_simp;refine kO hK (cE h9H ((eR _).alloc _)) (fun h9H=>?_);clear hK K;refine cl1 (i:=3) fun K hK=>?_
   go_simp
   (with_reducible refine cM (HB.out _ eA) ?_)
   rintro e w1 ⟨r1,rfl,hr1,hx1⟩;obtain⟨a1,m1,c1,s1,rfl⟩:=hr1.form;obtain⟨hc1,hf1⟩:=hx1.cells;have z1:=hx1.size
   (try simp only [wZ,qdZ]at z1)
   (try(have z1_0:w.heap.size<w1.heap.size:=by omega))
   (try(have z1_1:w.heap.size+1<w1.heap.size:=by omega))
   (try(have z1_2:w.heap.size+1+1<w1.heap.size:=by omega))
   (try(have z1_3:w.heap.size+1+1+1<w1.heap.size:=by omega))
   go_wp2_with fail
   refine kO hK (cE h9H hx1) (fun h9H=>?_);clear hK K;refine cl1 (i:=4) fun K hK=>?_
   go_simp
   (with_reducible refine cM (HQ.out _ eA _ (hr1.ext eA)) ?_)
   rintro e w2 ⟨rq,rr,rfl,hrq,hrr,hx2⟩;obtain⟨⟨aq,mq,cq,sq,rfl⟩,ar,mr,cr,sr,rfl⟩:=And.intro hrq.form hrr.form;obtain⟨hc2,hf2⟩:=hx2.cells;have z2:=hx2.size
   (try simp only [wZ,qdZ]at z2)
   (try(have z2_0:w.heap.size<w2.heap.size:=by omega))
   (try(have z2_1:w.heap.size+1<w2.heap.size:=by omega))
   (try(have z2_2:w.heap.size+1+1<w2.heap.size:=by omega))
   (try(have z2_3:w.heap.size+1+1+1<w2.heap.size:=by omega))
   (try(have z2_4:w1.heap.size<w2.heap.size:=by omega))
   (try(have z2_5:w1.heap.size+1<w2.heap.size:=by omega))
   (try(have z2_6:w.heap.size<w1.heap.size+1:=by omega))
   (try(have z2_7:w.heap.size+1<w1.heap.size+1:=by omega))
   (try(have z2_8:w.heap.size<w2.heap.size+1:=by omega))
   (try(have z2_9:w.heap.size+1<w2.heap.size+1:=by omega))
   (try(have z2_10:w1.heap.size<w2.heap.size+1:=by omega))
   (try(have n1:w1.heap.size<w1.heap.size+1+1:=by omega))
   (try(have n2:w1.heap.size<w1.heap.size+1:=by omega))
   (try(have n3:w2.heap.size<w2.heap.size+1+1:=by omega))
   (try(have n4:w2.heap.size<w2.heap.size+1:=by omega))
   go_wp2_with fail
   refine kO hK (cE h9H hx2) (fun h9H=>?_);clear hK K;refine sN 5 ?_
   iterate 4
    refine tkn ?_
   refine oN ?_;refine cl1 (i:=11) fun K hK=>?_
   go_simp;refine kO hK (by first|(refine⟨?_,?_,?_,trivial⟩<;>(focus(go_simp;done)))|exact CellL.set (CellL.set h9H (hn _ (by omega)) _) (hn _ (by omega)) _) (fun h9H=>?_);clear hK K;refine cl1 (i:=12) fun K hK=>?_
   go_simp;refine kO hK (by first|(refine⟨?_,?_,?_,trivial⟩<;>(focus(go_simp;done)))|exact CellL.set (CellL.set h9H (hn _ (by omega)) _) (hn _ (by omega)) _) (fun h9H=>?_);clear hK K;refine tk1 (i:=13) ?_;refine wpAnyH_done (by kernel_rfl) ?_ _;go_wp2;refine bR (v:=Z #[O aq mq cq,Y sq]) (by first|(simp [results,Tryz.results55,go_sem,hc1,hf1,hc2,hf2,z1_0,z1_1,z2_0,z2_1,z2_4,z2_5,z2_6,z2_7,z2_10];done)|(simp [results,Tryz.results55,go_sem,hc1,hf1,hc2,hf2,z1_0,z1_1,z2_0,z2_1,z2_4,z2_6,z2_7,z2_8,z2_9,z2_10];done)|(simp [results,Tryz.results55,go_sem,hc1,hf1,hc2,hf2,z1_0,z1_1,z2_0,z2_1];done)) rfl ?_;rw [←HR.out]
   trace_state
   exact⟨_,rfl,hrq.keep kA,eA⟩
theorem zls (w:World) (v:Value) (n:Int) (h:IsZ w v n) (h0:0≤n) (h1:n<281474976710656) :
  Calls Tryz.prog 56 #[v] w fun e w'=>e = .returned (.tuple #[.int .i64 n,Y true])∧Ext w w':=by
 obtain⟨a,m,c,s,rfl⟩:=h.form;have hs:s=false:=by rw [h.sgn];simp;omega
 subst hs;have hl:Lm lim n:=Lm.mono (j:=2) ⟨by unfold B;omega,by unfold B;omega⟩ (by decide);have hl1:Lm lim (-9223372036854775808):=Lm.mono (j:=3) ⟨by unfold B;omega,by unfold B;omega⟩ (by decide);have hl2:Lm lim 9223372036854775807:=Lm.mono (j:=3) ⟨by unfold B;omega,by unfold B;omega⟩ (by decide);have HI1:=hd9 (fun(W:World)=>zfm W (-9223372036854775808) (by decide) (by decide));have HI2:=hd9 (fun(W:World)=>zfm W 9223372036854775807 (by decide) (by decide));have HC1:=hd9 (fun(W:World) (hW:Ext w W) (v:Value) (hv:IsZ W v (-9223372036854775808))=>(zfl W (Z #[O a m c,Y false]) v n (-9223372036854775808) (h.ext hW) hv hl hl1).mono fun e w' (q:e = .returned (.int .i64 (n - -9223372036854775808).sign)∧Ext W w')=>(show e = .returned (.int .i64 1)∧Ext W w' from by rw [Int.sign_eq_one_of_pos (by omega)]at q;exact q));have HC2:=hd9 (fun(W:World) (hW:Ext w W) (v:Value) (hv:IsZ W v 9223372036854775807)=>(zfl W (Z #[O a m c,Y false]) v n 9223372036854775807 (h.ext hW) hv hl hl2).mono fun e w' (q:e = .returned (.int .i64 (n-9223372036854775807).sign)∧Ext W w')=>(show e = .returned (.int .i64 (-1))∧Ext W w' from by rw [Int.sign_eq_neg_one_of_neg (by omega)]at q;exact q));have HW:=hd9 (fun(W:World) (hW:Ext w W)=>zcI W (Z #[O a m c]) n (by have:=h.dig;rw [show ((n.natAbs:Nat):Int)=n by omega]at this;exact this.ext hW) ⟨by unfold B;omega,by unfold B;omega⟩);clear h hl hl1 hl2;go_enter Tryz.func56,Tryz.ntmps56;go_wp2;refine wp_region_held_drew (S:=CellL [(⟨w.heap.size,0,X⟩,O a m c),(⟨w.heap.size,1,X⟩,Y false)]) (by kernel_rfl) cA (fun h9H=>?_);refine tk1 (i:=0) ?_;refine cl1 (i:=1) fun K hK=>?_
 go_simp
 (with_reducible refine cM (HI1.out _) ?_)
 rintro e w1 ⟨r1,rfl,hr1,hx1⟩;obtain⟨a1,m1,c1,s1,rfl⟩:=hr1.form
 go_wp2_with fail
 refine kO hK (cE h9H hx1) (fun h9H=>?_);clear hK K;have X1:Ext w w1:=eA;refine cl1 (i:=2) fun K hK=>?_
 go_simp
 (with_reducible refine cM (HC1.out _ X1 _ hr1) ?_)
 rintro e w2 ⟨rfl,hx2⟩
 skip
 go_wp2_with fail
 refine kO hK (cE h9H hx2) (fun h9H=>?_);clear hK K;have X2:Ext w w2:=X1.trans hx2;refine sN 3 ?_
 iterate 3
  refine tkn ?_
 refine oN ?_;refine cl1 (i:=6) fun K hK=>?_
 go_simp
 (with_reducible refine cM (HI2.out _) ?_)
 rintro e w6 ⟨r6,rfl,hr6,hx6⟩;obtain⟨a6,m6,c6,s6,rfl⟩:=hr6.form
 go_wp2_with fail
 refine kO hK (cE h9H hx6) (fun h9H=>?_);clear hK K;have X6:Ext w w6:=X2.trans hx6;refine cl1 (i:=7) fun K hK=>?_
 go_simp
 (with_reducible refine cM (HC2.out _ X6 _ hr6) ?_)
 rintro e w7 ⟨rfl,hx7⟩
 skip
 go_wp2_with fail
 refine kO hK (cE h9H hx7) (fun h9H=>?_);clear hK K;have X7:Ext w w7:=X6.trans hx7;refine sN 8 ?_
 iterate 2
  refine tkn ?_
 refine oN ?_;refine wpAnyH_done (by kernel_rfl) ?_ _;obtain⟨d0,d1,_⟩:=h9H;have e1:IntKind.i64.wrap n=n:=iW _ (by omega);clear hx1 hx2 hx6 hx7 X1 X2 X6 hr1 hr6
 go_wp2_with((go_at_call 107;(with_reducible refine(HW.out _ X7).mono ?_);rintro e w8 ⟨rfl,hx8⟩;obtain⟨hc8,hf8⟩:=hx8.cells;(have z8:w.heap.size<w7.heap.size:=World.block_lt_of_cell? _ _ d0)))
 refine bR (v:=.tuple #[.int .i64 n,Y true]) (by simp [results,Tryz.results56,go_sem]) rfl ?_;exact⟨rfl,X7.trans hx8⟩
end
end Go.Proofs.YtodpfeaihohpjaaGreatDoor.Cop
