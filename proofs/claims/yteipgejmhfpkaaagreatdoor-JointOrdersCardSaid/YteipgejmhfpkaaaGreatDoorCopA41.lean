/- Part 42 of 44: contracts of what the law calls. -/
import Derived.Test.YteipgejmhfpkaaaGreatDoorCopA40
import Derived.Test.YteipgejmhfpkaaaGreatDoorCopA35
set_option maxRecDepth 1000000
set_option maxHeartbeats 16000000
set_option linter.unusedSimpArgs false
set_option linter.unusedVariables false
namespace Go.Proofs.YteipgejmhfpkaaaGreatDoor.Cop
open Go.RowKit Go.Shelf Go.Sort Go.Lib
def bc (b:Bool):List Value:=[.bool b]
theorem info_bool:(Tryz.prog.info? 4).map (fun i=>(i.zero,i.size,i.bytes))=some (some (.bool false),1,1):=by kernel_rfl
structure SeenP (o:List Int) (i:Nat) (bs:List Bool) (m:Int):Prop where
 len:bs.length=20
 lo:0≤m
 hi:m≤8
 top:m=0∨∃j,j<i∧o.getD j 0=m
 seen:∀j,j<i→bs[(o.getD j 0).toNat]?=some true
theorem SeenP.start (o:List Int):SeenP o 0 (List.replicate 20 false) 0:=⟨by simp,by omega,by omega,.inl rfl,fun j hj=>absurd hj (Nat.not_lt_zero _)⟩
theorem SeenP.step {o:List Int} {i:Nat} {bs:List Bool} {m:Int} (h:SeenP o i bs m) {c:Nat} (hc:o.getD i 0=(c:Int)) (h8:c≤8):SeenP o (i+1) (bs.set c true) (max m c):=by
 obtain⟨h1,h2,h3,h4,h5⟩:=h;refine⟨by simp [h1],by omega,by omega,?_,fun j hj=>?_⟩
 ·by_cases hm:m≤(c:Int)
  ·rw [Int.max_eq_right hm];exact .inr ⟨i,by omega,hc⟩
  ·rw [Int.max_eq_left (by omega)]
   rcases h4 with h4|⟨j,hj,e⟩
   ·exact .inl h4
   ·exact .inr ⟨j,by omega,e⟩
 ·by_cases hji:j=i
  ·subst hji
   rw [hc];exact List.getElem?_set_self (by omega)
  ·by_cases e:(o.getD j 0).toNat=c
   ·rw [e];exact List.getElem?_set_self (by omega)
   ·rw [List.getElem?_set_ne (Ne.symm e)];exact h5 j (by omega)
theorem SeenP.all {o:List Int} {n:Nat} {bs:List Bool} {m:Int} (h:SeenP o n bs m) (gap:∀(d:Nat) (i:Nat) (v:Int),i<n→1≤v→o.getD i 0=v+d→∃j,j<n∧o.getD j 0=v) {k:Int} (h1:1≤k) (h2:k≤m):∃kn:Nat,k=(kn:Int)∧bs[kn]?=some true:=by
 rcases h.top with h0|⟨j,hj,e⟩
 ·omega
 ·obtain⟨j',hj',e'⟩:=gap (m-k).toNat j k hj h1 (by rw [e];omega)
  have h3:=h.seen j' hj';rw [e']at h3;exact⟨k.toNat,by omega,h3⟩
theorem OwnC.cellB {w:World} {base g n c i:Nat} {bs:List Bool} (h:OwnC 4 1 w base (.slice (some ⟨g,0,none⟩) n c) (bs.map bc)) {b:Bool} (hi:bs[i]?=some b):w.cell? ⟨g,i,none⟩=some (.bool b):=by
 have:=h.cell (i:=i) (j:=0) (d:=bc b) (u:=.bool b) (by rw [lP,hi];rfl) rfl
 simpa using this
theorem OwnC.put1b {w:World} {base g n c i:Nat} {bs:List Bool} (h:OwnC 4 1 w base (.slice (some ⟨g,0,none⟩) n c) (bs.map bc)) (hi:i<bs.length) (z:Bool) :
  OwnC 4 1 (w.setCell ⟨g,i,none⟩ (.bool z)) base (.slice (some ⟨g,0,none⟩) n c) ((bs.set i z).map bc):=by
 have h2:=OwnC.putAll (j:=0) (us:=[.bool z]) h (i:=i) (d:=bc (bs[i])) (by rw [lP,List.getElem?_eq_getElem hi];rfl) rfl;rw [List.map_set]
 simpa [setL,bc] using h2
def OrdS (w3:World) (o:List Int) (n:Nat) (gk:Nat) (t9 t11:Value) (W:World):Prop:=
 ∃(i:Nat) (m:Int) (bs:List Bool),i≤n∧t11 = .int .i64 (i:Nat)∧t9 = .int .i64 m∧gk=n-i∧Ext w3 W∧OwnC 4 1 W w3.heap.size (.slice (some ⟨w3.heap.size,0,none⟩) 20 20) (bs.map bc)∧SeenP o i bs m
def BdkS (W0:World) (n:Nat) (gk:Nat) (t15:Value) (W:World):Prop:=∃k:Nat,k≤n∧t15 = .int .i64 (k:Nat)∧gk=n-k∧Ext W0 W
def GapS (W0:World) (m:Int) (gk:Nat) (t16:Value) (W:World):Prop:=∃k:Int,1≤k∧k≤m+1∧t16 = .int .i64 k∧gk=(m+1-k).toNat∧W0=W
def CutB (b:Bool) (W0:World) (t:Value) (W:World):Prop:=t = .bool b∧Ext W0 W
def CutB2 (b c:Bool) (W0:World) (t t':Value) (W:World):Prop:=t = .bool b∧t' = .bool c∧W0=W
theorem OwnBe.num {w:World} {base:Nat} {a:Option Addr} {n c:Nat} {bs:List Be} (h:OwnBe w base (.slice a n c) bs) {k:Nat} {b:Be} (hb:bs[k]?=some b):∃g,a=some ⟨g,0,none⟩∧base≤g∧g<w.heap.size∧w.cell? ⟨g,k*17,none⟩=some (.int .i64 b.num):=by
 obtain⟨cs,h1,h2,h3⟩:=h;have hk:=(lS.1 hb).1;have hd:cs[k]?=some (cs[k]'(by omega)):=List.getElem?_eq_getElem (by omega);obtain⟨g,rfl,hg1,hg2⟩:=h1.blk (by omega);obtain⟨a,m,c1,s,a2,m2,c2,b1,n,k1,t,b2,n2,k2,a',m',c',s',a2',m2',c2',b',n',k',t',b2',n2',k2',e⟩:=(h3 k _ _ hd hb).form;exact⟨g,rfl,hg1,hg2,by have:=h1.cell hd (j:=0) (u:=.int .i64 b.num) (by rw [e];rfl);simpa using this⟩
theorem OwnBe.len {w:World} {base:Nat} {a:Option Addr} {n c:Nat} {bs:List Be} (h:OwnBe w base (.slice a n c) bs):n=bs.length:=by
 obtain⟨cs,h1,h2,_⟩:=h;rw [h1.len,h2]
theorem ord_any (w:World) (vg vp:Value) (g:List (Int×Int)) (ps:List Pl) (r:Ru) (hg:IsPr w vg g) (hp:IsWr w vp ps) (hgw:Gw w) :
  Calls Tryz.prog 3 #[.agg #[vg,vp],.agg (ruc r)] w fun e w'=>e = .returned (.bool true)∧Ext w w':=by
 have HF:=hd9 (fun(W:World) (hW:Ext w W)=>few_any W vg vp g ps (hg.ext' hW) (hp.ext' hW));have HW:=hd9 (fun(hf:fewB g ps=true) (W:World) (hW:Ext w W)=>wallr_any W vg vp g ps (hg.ext' hW) (hp.ext' hW) (few_len hf).1 (by have:=(few_len hf).2.1;omega) (few_len hf).2.2);have HA:=hd9 (fun(W:World) (hW:Ext w W)=>awake_any W (hgw.ext hW));have HG:=hd9 hgw;obtain⟨ga,gc,rfl⟩:=hg.form;obtain⟨pa,pc1,rfl⟩:=hp.form;obtain⟨gn,hgn⟩:∃x,g.length=x:=⟨_,rfl⟩;obtain⟨pn,hpn⟩:∃x,ps.length=x:=⟨_,rfl⟩;rw [hgn,hpn]at HF HW ⊢;clear hg hp hgw hgn hpn;obtain⟨sk,pin,wide,lap,step,run,level⟩:=r;unfold ruc;dsimp only
 cases hfew:fewB g ps with
 | false =>
  rw [hfew]at HF;clear HW;go_enter Tryz.func3,Tryz.ntmps3
  go_wp2_with(first|(go_at_call 8;(with_reducible refine(HF.out _ ?_).mono ?_);exact eA;rintro e w1 ⟨rfl,hx1⟩;have X1:Ext w w1:=eA)|(go_at_call 9;(with_reducible refine(HA.out _ X1).mono ?_);rintro e w2 ⟨rfl,hx2⟩))
  go_ret;exact⟨rfl,X1.trans hx2⟩
 | true =>
  rw [hfew]at HF;have HW:=hd9 (HW.out hfew);have HL8:=hd9 (few_len hfew).2.1;clear hfew;go_enter Tryz.func3,Tryz.ntmps3
  go_upto_region 3 with (go_at_call 8;(with_reducible refine(HF.out _ ?_).mono ?_);exact eA;rintro e w1 ⟨rfl,hx1⟩;have X1:Ext w w1:=eA;obtain⟨hc1,hf1⟩:=hx1.cells;(try simp only [qcD,qfD,qdZ]at hc1 hf1);have z1_0:=hx1.lt (n:=w.heap.size) (by go_simp);have z1_1:=hx1.lt (n:=w.heap.size+1) (by go_simp))
  go_cut [5,6] (WRu w g ps ⟨sk,pin,wide,lap,step,run,level⟩)
  case first =>
   refine wp_region_HU (fun i=>decide (5<i)) (CellL [(⟨w.heap.size,0,none⟩,.slice ga gn gc),(⟨w.heap.size,1,none⟩,.slice pa pn pc1),(⟨w.heap.size+1,0,none⟩,.int .u8 sk),(⟨w.heap.size+1,1,none⟩,.int .i64 pin),(⟨w.heap.size+1,2,none⟩,.int .i64 wide),(⟨w.heap.size+1,3,none⟩,.int .i64 lap),(⟨w.heap.size+1,4,none⟩,.int .i64 step),(⟨w.heap.size+1,5,none⟩,.int .i64 run),(⟨w.heap.size+1,6,none⟩,.int .i64 level)]) (by kernel_rfl) ?_ (fun hHeld=>?_)
   ·refine⟨?_,?_,?_,?_,?_,?_,?_,?_,?_,trivial⟩<;>go_simp
   refine tu1 (i:=0) ?_;refine tu1 (i:=2) ?_;have H0:=CellL.undrew hHeld;have zd:=X1.size;refine callHU3 (i:=1) (j:=3) (k:=4) (fun K hK=>?h1) (fun K hK=>?h3) (fun K hK=>?h4)
   case h1 =>
    go_simp
    (with_reducible refine Calls.mono (HW.out _ eA) ?_)
    rintro e w2 ⟨vg2,vp2,rfl,hg2,ho2,hx2⟩;obtain⟨ga2,gn2,gc2,rfl⟩:=form3 hg2
    go_wp2_with fail
    refine kO hK (fun _=>CellL.ext hHeld hx2) (fun hHeld=>?_);clear hK K;have hHeld:=hHeld rfl;obtain⟨pa2,pn2,pc2,rfl⟩:=form3 ho2.pls;have z2:=hx2.size;simp only [wZ,qdZ]at z2;refine callHU2 (i:=3) (j:=4) (fun K hK=>?f1a) (fun K hK=>?f2a)
    case f1a =>
     go_simp;refine kO hK (fun _=>CellL.ext hHeld ((Ext.refl _).alloc _)) (fun hHeld=>?_);clear hK K;have hHeld:=hHeld rfl;refine cu1 (i:=4) fun K hK=>?_
     go_simp;refine kO hK (fun _=>CellL.ext hHeld ((Ext.refl _).alloc _)) (fun hHeld=>?_);clear hK K;have hHeld:=hHeld rfl;have hE:Ext w2 ((w2.alloc (.cells #[.slice none 0 0,.slice none 0 0] 33)).alloc (.cells #[.int .u8 0,.int .i64 0,.int .i64 0,.int .i64 0,.int .i64 0,.int .i64 0,.int .i64 0] 35)):=eA;have q5:((w2.alloc (.cells #[.slice none 0 0,.slice none 0 0] 33)).alloc (.cells #[.int .u8 0,.int .i64 0,.int .i64 0,.int .i64 0,.int .i64 0,.int .i64 0,.int .i64 0] 35)).heap[w2.heap.size]?=some (.cells #[.slice none 0 0,.slice none 0 0] 33 (0,0)):=(((Ext.refl _).alloc _).heapS (qhA _ _ _ rfl));have q6:((w2.alloc (.cells #[.slice none 0 0,.slice none 0 0] 33)).alloc (.cells #[.int .u8 0,.int .i64 0,.int .i64 0,.int .i64 0,.int .i64 0,.int .i64 0,.int .i64 0] 35)).heap[w2.heap.size+1]?=some (.cells #[.int .u8 0,.int .i64 0,.int .i64 0,.int .i64 0,.int .i64 0,.int .i64 0,.int .i64 0] 35 (0,0)):=(qhA _ _ _ (by simp));have hF:Ext w1 ((w2.alloc (.cells #[.slice none 0 0,.slice none 0 0] 33)).alloc (.cells #[.int .u8 0,.int .i64 0,.int .i64 0,.int .i64 0,.int .i64 0,.int .i64 0,.int .i64 0] 35)):=eA;obtain⟨W9,hW9⟩:∃W,((w2.alloc (.cells #[.slice none 0 0,.slice none 0 0] 33)).alloc (.cells #[.int .u8 0,.int .i64 0,.int .i64 0,.int .i64 0,.int .i64 0,.int .i64 0,.int .i64 0] 35))=W:=⟨_,rfl⟩;rw [hW9]at hE q5 q6 hF hHeld ⊢;have hb5:w1.heap.size≤w2.heap.size:=by omega
     have n5:(w2.heap.size)≠(w2.heap.size+1):=by omega
     have nf5:=qfB q5;have nf6:=qfB q6;have n50:=qcB q5 (i:=0) (u:=.slice none 0 0) rfl;have n51:=qcB q5 (i:=1) (u:=.slice none 0 0) rfl;have n60:=qcB q6 (i:=0) (u:=.int .u8 0) rfl;have n61:=qcB q6 (i:=1) (u:=.int .i64 0) rfl;have n62:=qcB q6 (i:=2) (u:=.int .i64 0) rfl;have n63:=qcB q6 (i:=3) (u:=.int .i64 0) rfl;have n64:=qcB q6 (i:=4) (u:=.int .i64 0) rfl;have n65:=qcB q6 (i:=5) (u:=.int .i64 0) rfl;have n66:=qcB q6 (i:=6) (u:=.int .i64 0) rfl;refine cu1 (i:=5) fun K hK=>?_
     go_simp;refine kO hK (fun _=>CellL.ext H0 (hF.set2 hb5 _ _)) (fun hHeld=>?_);clear hK K;refine cu1 (i:=6) fun K hK=>?_
     go_simp;refine kO hK (fun h=>nomatch h) (fun hHeld=>?_);clear hK K;refine doneHU (by kernel_rfl) ?_ _;clear hHeld H0;go_wp2;go_meet;refine wr_put (r:=⟨sk,pin,wide,lap,step,run,level⟩) ?_ ?_ ?_ q5 q6 (hg2.ext' hE) (ho2.extM hE) ?_ (X1.trans hF) rfl
     ·omega
     ·omega
     ·omega
     ·simp only [wZ,qdZ]
      omega
    case f2a =>
     go_simp;refine kO hK (fun _=>CellL.ext hHeld ((Ext.refl _).alloc _)) (fun hHeld=>?_);clear hK K;have hHeld:=hHeld rfl;refine cu1 (i:=3) fun K hK=>?_
     go_simp;refine kO hK (fun _=>CellL.ext hHeld ((Ext.refl _).alloc _)) (fun hHeld=>?_);clear hK K;have hHeld:=hHeld rfl;have hE:Ext w2 ((w2.alloc (.cells #[.int .u8 0,.int .i64 0,.int .i64 0,.int .i64 0,.int .i64 0,.int .i64 0,.int .i64 0] 35)).alloc (.cells #[.slice none 0 0,.slice none 0 0] 33)):=eA;have q5:((w2.alloc (.cells #[.int .u8 0,.int .i64 0,.int .i64 0,.int .i64 0,.int .i64 0,.int .i64 0,.int .i64 0] 35)).alloc (.cells #[.slice none 0 0,.slice none 0 0] 33)).heap[w2.heap.size+1]?=some (.cells #[.slice none 0 0,.slice none 0 0] 33 (0,0)):=(qhA _ _ _ (by simp));have q6:((w2.alloc (.cells #[.int .u8 0,.int .i64 0,.int .i64 0,.int .i64 0,.int .i64 0,.int .i64 0,.int .i64 0] 35)).alloc (.cells #[.slice none 0 0,.slice none 0 0] 33)).heap[w2.heap.size]?=some (.cells #[.int .u8 0,.int .i64 0,.int .i64 0,.int .i64 0,.int .i64 0,.int .i64 0,.int .i64 0] 35 (0,0)):=(((Ext.refl _).alloc _).heapS (qhA _ _ _ rfl));have hF:Ext w1 ((w2.alloc (.cells #[.int .u8 0,.int .i64 0,.int .i64 0,.int .i64 0,.int .i64 0,.int .i64 0,.int .i64 0] 35)).alloc (.cells #[.slice none 0 0,.slice none 0 0] 33)):=eA;obtain⟨W9,hW9⟩:∃W,((w2.alloc (.cells #[.int .u8 0,.int .i64 0,.int .i64 0,.int .i64 0,.int .i64 0,.int .i64 0,.int .i64 0] 35)).alloc (.cells #[.slice none 0 0,.slice none 0 0] 33))=W:=⟨_,rfl⟩;rw [hW9]at hE q5 q6 hF hHeld ⊢;have hb5:w1.heap.size≤w2.heap.size+1:=by omega
     have n5:(w2.heap.size+1)≠(w2.heap.size):=by omega
     have nf5:=qfB q5;have nf6:=qfB q6;have n50:=qcB q5 (i:=0) (u:=.slice none 0 0) rfl;have n51:=qcB q5 (i:=1) (u:=.slice none 0 0) rfl;have n60:=qcB q6 (i:=0) (u:=.int .u8 0) rfl;have n61:=qcB q6 (i:=1) (u:=.int .i64 0) rfl;have n62:=qcB q6 (i:=2) (u:=.int .i64 0) rfl;have n63:=qcB q6 (i:=3) (u:=.int .i64 0) rfl;have n64:=qcB q6 (i:=4) (u:=.int .i64 0) rfl;have n65:=qcB q6 (i:=5) (u:=.int .i64 0) rfl;have n66:=qcB q6 (i:=6) (u:=.int .i64 0) rfl;refine cu1 (i:=5) fun K hK=>?_
     go_simp;refine kO hK (fun _=>CellL.ext H0 (hF.set2 hb5 _ _)) (fun hHeld=>?_);clear hK K;refine cu1 (i:=6) fun K hK=>?_
     go_simp;refine kO hK (fun h=>nomatch h) (fun hHeld=>?_);clear hK K;refine doneHU (by kernel_rfl) ?_ _;clear hHeld H0;go_wp2;go_meet;refine wr_put (r:=⟨sk,pin,wide,lap,step,run,level⟩) ?_ ?_ ?_ q5 q6 (hg2.ext' hE) (ho2.extM hE) ?_ (X1.trans hF) rfl
     ·omega
     ·omega
     ·omega
     ·simp only [wZ,qdZ]
      omega
   case h3 =>
    go_simp;refine kO hK (fun _=>CellL.ext hHeld ((Ext.refl _).alloc _)) (fun hHeld=>?_);clear hK K;have hHeld:=hHeld rfl;refine callHU2 (i:=1) (j:=4) (fun K hK=>?f1b) (fun K hK=>?f2b)
    case f1b =>
     go_simp
     (with_reducible refine Calls.mono (HW.out _ eA) ?_)
     rintro e w2 ⟨vg2,vp2,rfl,hg2,ho2,hx2⟩;obtain⟨ga2,gn2,gc2,rfl⟩:=form3 hg2
     go_wp2_with fail
     refine kO hK (fun _=>CellL.ext hHeld hx2) (fun hHeld=>?_);clear hK K;have hHeld:=hHeld rfl;obtain⟨pa2,pn2,pc2,rfl⟩:=form3 ho2.pls;have z2:=hx2.size;simp only [wZ,qdZ]at z2;refine cu1 (i:=4) fun K hK=>?_
     go_simp;refine kO hK (fun _=>CellL.ext hHeld ((Ext.refl _).alloc _)) (fun hHeld=>?_);clear hK K;have hHeld:=hHeld rfl;have hE:Ext w2 (w2.alloc (.cells #[.int .u8 0,.int .i64 0,.int .i64 0,.int .i64 0,.int .i64 0,.int .i64 0,.int .i64 0] 35)):=eA;have q5:(w2.alloc (.cells #[.int .u8 0,.int .i64 0,.int .i64 0,.int .i64 0,.int .i64 0,.int .i64 0,.int .i64 0] 35)).heap[w1.heap.size]?=some (.cells #[.slice none 0 0,.slice none 0 0] 33 (0,0)):=(((Ext.refl _).alloc _).heapS (hx2.heapS (qhA _ _ _ rfl)));have q6:(w2.alloc (.cells #[.int .u8 0,.int .i64 0,.int .i64 0,.int .i64 0,.int .i64 0,.int .i64 0,.int .i64 0] 35)).heap[w2.heap.size]?=some (.cells #[.int .u8 0,.int .i64 0,.int .i64 0,.int .i64 0,.int .i64 0,.int .i64 0,.int .i64 0] 35 (0,0)):=(qhA _ _ _ rfl);have hF:Ext w1 (w2.alloc (.cells #[.int .u8 0,.int .i64 0,.int .i64 0,.int .i64 0,.int .i64 0,.int .i64 0,.int .i64 0] 35)):=eA;obtain⟨W9,hW9⟩:∃W,(w2.alloc (.cells #[.int .u8 0,.int .i64 0,.int .i64 0,.int .i64 0,.int .i64 0,.int .i64 0,.int .i64 0] 35))=W:=⟨_,rfl⟩;rw [hW9]at hE q5 q6 hF hHeld ⊢;have hb5:w1.heap.size≤w1.heap.size:=by omega
     have n5:(w1.heap.size)≠(w2.heap.size):=by omega
     have nf5:=qfB q5;have nf6:=qfB q6;have n50:=qcB q5 (i:=0) (u:=.slice none 0 0) rfl;have n51:=qcB q5 (i:=1) (u:=.slice none 0 0) rfl;have n60:=qcB q6 (i:=0) (u:=.int .u8 0) rfl;have n61:=qcB q6 (i:=1) (u:=.int .i64 0) rfl;have n62:=qcB q6 (i:=2) (u:=.int .i64 0) rfl;have n63:=qcB q6 (i:=3) (u:=.int .i64 0) rfl;have n64:=qcB q6 (i:=4) (u:=.int .i64 0) rfl;have n65:=qcB q6 (i:=5) (u:=.int .i64 0) rfl;have n66:=qcB q6 (i:=6) (u:=.int .i64 0) rfl;refine cu1 (i:=5) fun K hK=>?_
     go_simp;refine kO hK (fun _=>CellL.ext H0 (hF.set2 hb5 _ _)) (fun hHeld=>?_);clear hK K;refine cu1 (i:=6) fun K hK=>?_
     go_simp;refine kO hK (fun h=>nomatch h) (fun hHeld=>?_);clear hK K;refine doneHU (by kernel_rfl) ?_ _;clear hHeld H0;go_wp2;go_meet;refine wr_put (r:=⟨sk,pin,wide,lap,step,run,level⟩) ?_ ?_ ?_ q5 q6 (hg2.ext' hE) (ho2.extM hE) ?_ (X1.trans hF) rfl
     ·omega
     ·omega
     ·omega
     ·simp only [wZ,qdZ]
      omega
    case f2b =>
     go_simp;refine kO hK (fun _=>CellL.ext hHeld ((Ext.refl _).alloc _)) (fun hHeld=>?_);clear hK K;have hHeld:=hHeld rfl;refine cu1 (i:=1) fun K hK=>?_
     go_simp
     (with_reducible refine Calls.mono (HW.out _ eA) ?_)
     rintro e w2 ⟨vg2,vp2,rfl,hg2,ho2,hx2⟩;obtain⟨ga2,gn2,gc2,rfl⟩:=form3 hg2
     go_wp2_with fail
     refine kO hK (fun _=>CellL.ext hHeld hx2) (fun hHeld=>?_);clear hK K;have hHeld:=hHeld rfl;obtain⟨pa2,pn2,pc2,rfl⟩:=form3 ho2.pls;have z2:=hx2.size;simp only [wZ,qdZ]at z2;have hF:Ext w1 w2:=eA;have q5:w2.heap[w1.heap.size]?=some (.cells #[.slice none 0 0,.slice none 0 0] 33 (0,0)):=(hx2.heapS (show ((w1.alloc (.cells #[.slice none 0 0,.slice none 0 0] 33)).alloc (.cells #[.int .u8 0,.int .i64 0,.int .i64 0,.int .i64 0,.int .i64 0,.int .i64 0,.int .i64 0] 35)).heap[w1.heap.size]?=some (.cells #[.slice none 0 0,.slice none 0 0] 33 (0,0))from((Ext.refl (w1.alloc (.cells #[.slice none 0 0,.slice none 0 0] 33))).alloc _).heapS (qhA w1 _ _ rfl)));have q6:w2.heap[w1.heap.size+1]?=some (.cells #[.int .u8 0,.int .i64 0,.int .i64 0,.int .i64 0,.int .i64 0,.int .i64 0,.int .i64 0] 35 (0,0)):=(hx2.heapS (show ((w1.alloc (.cells #[.slice none 0 0,.slice none 0 0] 33)).alloc (.cells #[.int .u8 0,.int .i64 0,.int .i64 0,.int .i64 0,.int .i64 0,.int .i64 0,.int .i64 0] 35)).heap[w1.heap.size+1]?=some (.cells #[.int .u8 0,.int .i64 0,.int .i64 0,.int .i64 0,.int .i64 0,.int .i64 0,.int .i64 0] 35 (0,0))from qhA (w1.alloc (.cells #[.slice none 0 0,.slice none 0 0] 33)) _ _ (by simp)));have hE:=Ext.refl w2;have hb5:w1.heap.size≤w1.heap.size:=by omega
     have n5:(w1.heap.size)≠(w1.heap.size+1):=by omega
     have nf5:=qfB q5;have nf6:=qfB q6;have n50:=qcB q5 (i:=0) (u:=.slice none 0 0) rfl;have n51:=qcB q5 (i:=1) (u:=.slice none 0 0) rfl;have n60:=qcB q6 (i:=0) (u:=.int .u8 0) rfl;have n61:=qcB q6 (i:=1) (u:=.int .i64 0) rfl;have n62:=qcB q6 (i:=2) (u:=.int .i64 0) rfl;have n63:=qcB q6 (i:=3) (u:=.int .i64 0) rfl;have n64:=qcB q6 (i:=4) (u:=.int .i64 0) rfl;have n65:=qcB q6 (i:=5) (u:=.int .i64 0) rfl;have n66:=qcB q6 (i:=6) (u:=.int .i64 0) rfl;refine cu1 (i:=5) fun K hK=>?_
     go_simp;refine kO hK (fun _=>CellL.ext H0 (hF.set2 hb5 _ _)) (fun hHeld=>?_);clear hK K;refine cu1 (i:=6) fun K hK=>?_
     go_simp;refine kO hK (fun h=>nomatch h) (fun hHeld=>?_);clear hK K;refine doneHU (by kernel_rfl) ?_ _;clear hHeld H0;go_wp2;go_meet;refine wr_put (r:=⟨sk,pin,wide,lap,step,run,level⟩) ?_ ?_ ?_ q5 q6 (hg2.ext' hE) (ho2.extM hE) ?_ (X1.trans hF) rfl
     ·omega
     ·omega
     ·omega
     ·simp only [wZ,qdZ]
      omega
   case h4 =>
    go_simp;refine kO hK (fun _=>CellL.ext hHeld ((Ext.refl _).alloc _)) (fun hHeld=>?_);clear hK K;have hHeld:=hHeld rfl;refine callHU2 (i:=1) (j:=3) (fun K hK=>?f1c) (fun K hK=>?f2c)
    case f1c =>
     go_simp
     (with_reducible refine Calls.mono (HW.out _ eA) ?_)
     rintro e w2 ⟨vg2,vp2,rfl,hg2,ho2,hx2⟩;obtain⟨ga2,gn2,gc2,rfl⟩:=form3 hg2
     go_wp2_with fail
     refine kO hK (fun _=>CellL.ext hHeld hx2) (fun hHeld=>?_);clear hK K;have hHeld:=hHeld rfl;obtain⟨pa2,pn2,pc2,rfl⟩:=form3 ho2.pls;have z2:=hx2.size;simp only [wZ,qdZ]at z2;refine cu1 (i:=3) fun K hK=>?_
     go_simp;refine kO hK (fun _=>CellL.ext hHeld ((Ext.refl _).alloc _)) (fun hHeld=>?_);clear hK K;have hHeld:=hHeld rfl;have hE:Ext w2 (w2.alloc (.cells #[.slice none 0 0,.slice none 0 0] 33)):=eA;have q5:(w2.alloc (.cells #[.slice none 0 0,.slice none 0 0] 33)).heap[w2.heap.size]?=some (.cells #[.slice none 0 0,.slice none 0 0] 33 (0,0)):=(qhA _ _ _ rfl);have q6:(w2.alloc (.cells #[.slice none 0 0,.slice none 0 0] 33)).heap[w1.heap.size]?=some (.cells #[.int .u8 0,.int .i64 0,.int .i64 0,.int .i64 0,.int .i64 0,.int .i64 0,.int .i64 0] 35 (0,0)):=(((Ext.refl _).alloc _).heapS (hx2.heapS (qhA _ _ _ rfl)));have hF:Ext w1 (w2.alloc (.cells #[.slice none 0 0,.slice none 0 0] 33)):=eA;obtain⟨W9,hW9⟩:∃W,(w2.alloc (.cells #[.slice none 0 0,.slice none 0 0] 33))=W:=⟨_,rfl⟩;rw [hW9]at hE q5 q6 hF hHeld ⊢;have hb5:w1.heap.size≤w2.heap.size:=by omega
     have n5:(w2.heap.size)≠(w1.heap.size):=by omega
     have nf5:=qfB q5;have nf6:=qfB q6;have n50:=qcB q5 (i:=0) (u:=.slice none 0 0) rfl;have n51:=qcB q5 (i:=1) (u:=.slice none 0 0) rfl;have n60:=qcB q6 (i:=0) (u:=.int .u8 0) rfl;have n61:=qcB q6 (i:=1) (u:=.int .i64 0) rfl;have n62:=qcB q6 (i:=2) (u:=.int .i64 0) rfl;have n63:=qcB q6 (i:=3) (u:=.int .i64 0) rfl;have n64:=qcB q6 (i:=4) (u:=.int .i64 0) rfl;have n65:=qcB q6 (i:=5) (u:=.int .i64 0) rfl;have n66:=qcB q6 (i:=6) (u:=.int .i64 0) rfl;refine cu1 (i:=5) fun K hK=>?_
     go_simp;refine kO hK (fun _=>CellL.ext H0 (hF.set2 hb5 _ _)) (fun hHeld=>?_);clear hK K;refine cu1 (i:=6) fun K hK=>?_
     go_simp;refine kO hK (fun h=>nomatch h) (fun hHeld=>?_);clear hK K;refine doneHU (by kernel_rfl) ?_ _;clear hHeld H0;go_wp2;go_meet;refine wr_put (r:=⟨sk,pin,wide,lap,step,run,level⟩) ?_ ?_ ?_ q5 q6 (hg2.ext' hE) (ho2.extM hE) ?_ (X1.trans hF) rfl
     ·omega
     ·omega
     ·omega
     ·simp only [wZ,qdZ]
      omega
    case f2c =>
     go_simp;refine kO hK (fun _=>CellL.ext hHeld ((Ext.refl _).alloc _)) (fun hHeld=>?_);clear hK K;have hHeld:=hHeld rfl;refine cu1 (i:=1) fun K hK=>?_
     go_simp
     (with_reducible refine Calls.mono (HW.out _ eA) ?_)
     rintro e w2 ⟨vg2,vp2,rfl,hg2,ho2,hx2⟩;obtain⟨ga2,gn2,gc2,rfl⟩:=form3 hg2
     go_wp2_with fail
     refine kO hK (fun _=>CellL.ext hHeld hx2) (fun hHeld=>?_);clear hK K;have hHeld:=hHeld rfl;obtain⟨pa2,pn2,pc2,rfl⟩:=form3 ho2.pls;have z2:=hx2.size;simp only [wZ,qdZ]at z2;have hF:Ext w1 w2:=eA;have q5:w2.heap[w1.heap.size+1]?=some (.cells #[.slice none 0 0,.slice none 0 0] 33 (0,0)):=(hx2.heapS (show ((w1.alloc (.cells #[.int .u8 0,.int .i64 0,.int .i64 0,.int .i64 0,.int .i64 0,.int .i64 0,.int .i64 0] 35)).alloc (.cells #[.slice none 0 0,.slice none 0 0] 33)).heap[w1.heap.size+1]?=some (.cells #[.slice none 0 0,.slice none 0 0] 33 (0,0))from qhA (w1.alloc (.cells #[.int .u8 0,.int .i64 0,.int .i64 0,.int .i64 0,.int .i64 0,.int .i64 0,.int .i64 0] 35)) _ _ (by simp)));have q6:w2.heap[w1.heap.size]?=some (.cells #[.int .u8 0,.int .i64 0,.int .i64 0,.int .i64 0,.int .i64 0,.int .i64 0,.int .i64 0] 35 (0,0)):=(hx2.heapS (show ((w1.alloc (.cells #[.int .u8 0,.int .i64 0,.int .i64 0,.int .i64 0,.int .i64 0,.int .i64 0,.int .i64 0] 35)).alloc (.cells #[.slice none 0 0,.slice none 0 0] 33)).heap[w1.heap.size]?=some (.cells #[.int .u8 0,.int .i64 0,.int .i64 0,.int .i64 0,.int .i64 0,.int .i64 0,.int .i64 0] 35 (0,0))from((Ext.refl (w1.alloc (.cells #[.int .u8 0,.int .i64 0,.int .i64 0,.int .i64 0,.int .i64 0,.int .i64 0,.int .i64 0] 35))).alloc _).heapS (qhA w1 _ _ rfl)));have hE:=Ext.refl w2;have hb5:w1.heap.size≤w1.heap.size+1:=by omega
     have n5:(w1.heap.size+1)≠(w1.heap.size):=by omega
     have nf5:=qfB q5;have nf6:=qfB q6;have n50:=qcB q5 (i:=0) (u:=.slice none 0 0) rfl;have n51:=qcB q5 (i:=1) (u:=.slice none 0 0) rfl;have n60:=qcB q6 (i:=0) (u:=.int .u8 0) rfl;have n61:=qcB q6 (i:=1) (u:=.int .i64 0) rfl;have n62:=qcB q6 (i:=2) (u:=.int .i64 0) rfl;have n63:=qcB q6 (i:=3) (u:=.int .i64 0) rfl;have n64:=qcB q6 (i:=4) (u:=.int .i64 0) rfl;have n65:=qcB q6 (i:=5) (u:=.int .i64 0) rfl;have n66:=qcB q6 (i:=6) (u:=.int .i64 0) rfl;refine cu1 (i:=5) fun K hK=>?_
     go_simp;refine kO hK (fun _=>CellL.ext H0 (hF.set2 hb5 _ _)) (fun hHeld=>?_);clear hK K;refine cu1 (i:=6) fun K hK=>?_
     go_simp;refine kO hK (fun h=>nomatch h) (fun hHeld=>?_);clear hK K;refine doneHU (by kernel_rfl) ?_ _;clear hHeld H0;go_wp2;go_meet;refine wr_put (r:=⟨sk,pin,wide,lap,step,run,level⟩) ?_ ?_ ?_ q5 q6 (hg2.ext' hE) (ho2.extM hE) ?_ (X1.trans hF) rfl
     ·omega
     ·omega
     ·omega
     ·simp only [wZ,qdZ]
      omega
  case rest =>
   obtain⟨b5,b6,vg2,vp2,rfl,rfl,hne,h5,h6,K5,K6,hg2,ho2,X2⟩:=hcut;have hp2:=ho2.pls;obtain⟨ga2,gn2,gc2,rfl⟩:=form3 hg2;obtain⟨pa2,pn2,pc2,rfl⟩:=form3 hp2;unfold ruc at K6;dsimp only at K6;have HCy:=hd9 (fun(h0:byE g ps ⟨sk,pin,wide,lap,step,run,level⟩=0) (W:World) (hW:Ext wc W)=>Courses_yes W _ _ g ps ⟨sk,pin,wide,lap,step,run,level⟩ (hg2.ext' hW) (hp2.ext' hW) (HG.out.ext (X2.trans hW)) h0);have HCn:=hd9 (fun(h0:byE g ps ⟨sk,pin,wide,lap,step,run,level⟩≠0) (W:World) (hW:Ext wc W)=>Courses_no W _ _ g ps ⟨sk,pin,wide,lap,step,run,level⟩ (hg2.ext' hW) (hp2.ext' hW) (HG.out.ext (X2.trans hW)) h0);unfold ruc at HCy HCn;dsimp only at HCy HCn;have z5:=heap_lt K5;have z6:=heap_lt K6;have k50:=qcB K5 (i:=0) (u:=.slice ga2 gn2 gc2) rfl;have k51:=qcB K5 (i:=1) (u:=.slice pa2 pn2 pc2) rfl;have k60:=qcB K6 (i:=0) (u:=.int .u8 sk) rfl;have k61:=qcB K6 (i:=1) (u:=.int .i64 pin) rfl;have k62:=qcB K6 (i:=2) (u:=.int .i64 wide) rfl;have k63:=qcB K6 (i:=3) (u:=.int .i64 lap) rfl;have k64:=qcB K6 (i:=4) (u:=.int .i64 step) rfl;have k65:=qcB K6 (i:=5) (u:=.int .i64 run) rfl;have k66:=qcB K6 (i:=6) (u:=.int .i64 level) rfl;have Hg2:=hd9 hg2;have Hp2:=hd9 hp2;have HX2:=hd9 X2;have Hpn:=hd9 hp2.len;clear hg2 hp2 ho2 X2 K5 K6 HF HW h5 h6
   by_cases h0:byE g ps ⟨sk,pin,wide,lap,step,run,level⟩=0
   ·have HC:=hd9 (HCy.out h0)
    have Hl0:=hd9 (show laidP g ps=0 by unfold byE at h0;by_cases h:laidP g ps=0;exact h;rw [if_neg h]at h0;exact absurd h0 h);have Hpin:=hd9 (byE_pin h0);clear HCy HCn h0;dsimp only at Hpin;have HBd:=hd9 (fun(W:World) (hW:Ext wc W) (k:Nat) (q:Pl) (hq:ps[k]?=some q)=>beds_ok W _ _ g ps k q pin (Hg2.out.ext' hW) (Hp2.out.ext' hW) (HG.out.ext (HX2.out.trans hW)) Hl0.out hq Hpin.out.1 Hpin.out.2 (laidP_ok Hl0.out).2.2 (laidP_ok Hl0.out).1 (laidP_ok Hl0.out).2.1)
    go_wp2_with(first|(at_make;refine mkC (T:=4) (t:=40) (z:=.bool false) (k:=1) (bytes:=1) (zs:=[.bool false]) (n:=20) info_bool rfl rfl (by decide) Tryz.underlying40 rfl _ _ rfl _ rfl rfl rfl (by omega) ?_;intro scs hown)|(go_at_call 11;(with_reducible refine(HC.out _ (Ext.refl _)).mono ?_);rintro e w3 ⟨vc,ks,o,rfl,hks,hvc,hI,hx3⟩;obtain⟨ca,cn,cc,rfl⟩:=form3 hvc;obtain rfl:pn2=cn:=(hvc.len.trans hI.len).symm▸Hpn.out;have z35:=hx3.lt z5;have z36:=hx3.lt z6;have hc3:=hx3.cells.1;have Hx3:=hd9 hx3;have Hvc:=hd9 hvc;have HI:=hd9 hI;have Hks:=hd9 hks))
    have hl8:=HL8.out;have hle:=Hpn.out;have hn8:pn2≤8:=by omega
    have HCo:=hd9 (fun(i:Nat) (hi:i<pn2)=>co_bd Hks.out HI.out (i:=i) (by omega));have hs0:OrdS w3 o pn2 pn2 (.int .i64 0) (.int .i64 0) (w3.alloc (.cells scs 4)):=⟨0,0,List.replicate 20 false,Nat.zero_le _,rfl,rfl,rfl,(Ext.refl _).alloc _,by rw [List.map_replicate];exact hown,SeenP.start o⟩;have HS0:=hd9 hs0;have zq5:b5≠w3.heap.size:=by omega
    have zq6:b6≠w3.heap.size:=by omega
    clear hs0 hown hks hvc hI hx3 hl8 hle HC
    go_loopg [9,11] pn2 (OrdS w3 o pn2)
    case atStart=>exact HS0.out
    case round =>
     clear HS0;obtain⟨i,m,bs,hi,rfl,rfl,rfl,hxr,hor,hsn⟩:=hrel;have hcr:=hxr.cells.1;have k50':=hxr.cellS (Hx3.out.cellS k50);have k51':=hxr.cellS (Hx3.out.cellS k51);have k60':=hxr.cellS (Hx3.out.cellS k60);have k61':=hxr.cellS (Hx3.out.cellS k61);have Hsn:=hd9 hsn;have Hxr:=hd9 hxr;have zr:=hxr.size
     by_cases hlt:i<pn2
     ·obtain⟨p,hp⟩:∃p,ps[i]?=some p:=⟨ps[i]'(by rw [←Hpn.out];omega),by simp⟩
      obtain⟨b,o9,v9,rfl,hb,_,_,hc⟩:=(Hp2.out.ext' (Hx3.out.trans hxr)).at' hp;have c9:=hc 9 (.int .u8 p.skin) rfl;obtain⟨cn,hcn⟩:∃c:Nat,o.getD i 0=(c:Int):=⟨(o.getD i 0).toNat,by have:=(HCo.out i hlt).1;omega⟩;have hcn8:cn≤pn2:=by have:=(HCo.out i hlt).2;rw [hcn]at this;have:=Hpn.out;omega
      have hoi:o[i]?=some (cn:Int):=by
       have hl:i<o.length:=by rw [HI.out.len];have:=Hpn.out;omega
       rw [List.getElem?_eq_getElem hl,←hcn,List.getD_eq_getElem?_getD,List.getElem?_eq_getElem hl];rfl
      obtain⟨b7,o7,rfl,hb7,c70⟩:=Hvc.out.at' hoi;have c7:=hxr.cellS c70;clear c70;have HP:=hd9 hp;have Hcn:=hd9 hcn;have hsk:(0:Int)<(cn:Int) ↔ (p.skin=sk∨p.skin=3):=by rw [←hcn];exact co_iff Hks.out HI.out hp
      have p1:(0:Int)≤(i:Int):=by omega
      have p2:(i:Int)<(pn2:Int):=by omega
      have p3:(0:Int)≤(cn:Int):=by omega
      have p4:¬(cn:Int)<0:=by omega
      have p5:¬(pn2:Int)<(cn:Int):=by omega
      have p6:¬(20:Int)≤(cn:Int):=by omega
      have p7:(cn:Int)<20:=by omega
      obtain⟨inb,hin⟩:∃x,(decide (p.skin=sk) || decide (p.skin=3))=x:=⟨_,rfl⟩;have HBi:=hd9 (fun(W:World) (hW:Ext wc W)=>HBd.out W hW i p hp);have Hin:=hd9 hin;have Hor:=hd9 hor;clear hp hc hoi hcn hor hsn
      go_upto_region 14 with fail
      go_cut [12] (CutB inb wr)
      case first =>
       by_cases h1:p.skin=sk
       ·have e1:(p.skin==sk)=true:=by simpa using h1
        have e2:inb=true:=by rw [←Hin.out];simp [h1]
        refine wp_region_held_drew (S:=CellL [(⟨b5,1,none⟩,.slice (some ⟨b,o9,none⟩) pn2 pc2),(⟨b6,0,none⟩,.int .u8 sk),(⟨b,o9+i*10+9,none⟩,.int .u8 p.skin)]) (by kernel_rfl) (by refine⟨?_,?_,?_,trivial⟩<;>go_simp) (fun hHeld=>?_);refine sN 0 ?_
        iterate 10
         refine tkn ?_
        iterate 7
         refine tkgn ?_
        iterate 2
         refine tkn ?_
        refine oN ?_;refine wpAnyH_done (by kernel_rfl) ?_ _;go_wp2;go_meet;exact⟨by rw [e2],(Ext.refl _).drew⟩
       ·have e1:(p.skin==sk)=false:=by simpa using h1
        have e2:inb=(p.skin==3):=by rw [←Hin.out];simp [h1];rfl
        refine wp_region_held_drew (S:=CellL [(⟨b5,1,none⟩,.slice (some ⟨b,o9,none⟩) pn2 pc2),(⟨b6,0,none⟩,.int .u8 sk),(⟨b,o9+i*10+9,none⟩,.int .u8 p.skin)]) (by kernel_rfl) (by refine⟨?_,?_,?_,trivial⟩<;>go_simp) (fun hHeld=>?_);refine sN 0 ?_
        iterate 19
         refine tkn ?_
        refine oN ?_;refine wpAnyH_done (by kernel_rfl) ?_ _;go_wp2;go_meet;exact⟨by rw [e2],(Ext.refl _).drew⟩
      case rest =>
       obtain⟨rfl,hx14⟩:=hcut;have HXa:=hd9 (Hxr.out.trans hx14);have HOa:=hd9 (Hor.out.ext hx14);have a7:=hx14.cellS c7;have a50:=hx14.cellS k50';have a51:=hx14.cellS k51';have a60:=hx14.cellS k60';have a61:=hx14.cellS k61';have zc:=hx14.size;have nf:=HOa.out.frozen cn
       have sc:∃y,wc.cell? ⟨w3.heap.size,cn,none⟩=some (.bool y):=by
        have hl:=Hsn.out.len;refine⟨bs[cn]'(by omega),?_⟩;exact HOa.out.cellB (List.getElem?_eq_getElem (by omega))
       obtain⟨y9,sc⟩:=sc;clear c7 k50' k51' k60' k61' c9 hcr hx14
       go_upto_region 15 with fail
       go_cut [12,95] (CutB2 inb false wc)
       case first =>
        cases inb with
        | true =>
         have q:(0:Int)<(cn:Int):=hsk.2 (by have:=Hin.out;simpa using this);go_wp2;go_meet;exact⟨rfl,rfl,rfl⟩
        | false =>
         have q:¬(0:Int)<(cn:Int):=fun h=>by have h1:=Hin.out;have h2:=hsk.1 h;simp at h1;omega
         go_wp2;go_meet;exact⟨rfl,rfl,rfl⟩
       case rest =>
        obtain⟨rfl,rfl,rfl⟩:=hcut;have hXs:=HXa.out.set (p:=⟨w3.heap.size,cn,none⟩) (Nat.le_refl _) (.bool true);have hXw:=Hx3.out.trans hXs;have HXs:=hd9 hXs;have HOs:=hd9 (HOa.out.put1b (i:=cn) (by have:=Hsn.out.len;omega) true);have s50:(wc.setCell ⟨w3.heap.size,cn,none⟩ (.bool true)).cell? ⟨b5,0,none⟩=some (.slice ga2 gn2 gc2):=by go_simp
        have s51:(wc.setCell ⟨w3.heap.size,cn,none⟩ (.bool true)).cell? ⟨b5,1,none⟩=some (.slice (some ⟨b,o9,none⟩) pn2 pc2):=by go_simp
        have s61:(wc.setCell ⟨w3.heap.size,cn,none⟩ (.bool true)).cell? ⟨b6,1,none⟩=some (.int .i64 pin):=by go_simp
        have n7:b7≠w3.heap.size:=by omega
        have s7:(wc.setCell ⟨w3.heap.size,cn,none⟩ (.bool true)).cell? ⟨b7,o7+i,none⟩=some (.int .i64 cn):=by go_simp
        go_wp2_with(go_at_call 12;(with_reducible refine(HBi.out _ hXw).mono ?_);rintro e w5 ⟨vl,rfl,hbe,hx5⟩;obtain⟨la,ln,lc,rfl⟩:=hbe.form3;have HBe:=hd9 hbe)
        have Hx5:=hd9 hx5;have z5w:=hx5.size;rw [qcZ]at z5w;have q7:=hx5.cellS s7;have hlb:ln=(bedsN g ps i p pin (ps.length+1)).length:=hbe.len;have hbs:bsP g ps pin i=bedsN g ps i p pin (ps.length+1):=by unfold bsP;rw [HP.out]
        have hl9:ln≤121:=by rw [hlb,←hbs];exact(bsP_bd (laidP_ok Hl0.out).2.1 i).1
        have Hlb:=hd9 hlb;clear hbs;clear s50 s51 s61 s7 a50 a51 a60 a61 a7 sc nf hlb hbe hx5 hXs hXw;go_wp2
        go_loopg [15] ln (BdkS w5 ln)
        case atStart=>exact⟨0,Nat.zero_le _,rfl,rfl,Ext.refl _⟩
        case round =>
         obtain⟨k,hk,rfl,rfl,hxk⟩:=hrel
         by_cases hlk:k<ln
         ·obtain⟨be,hbk⟩:∃x,(bedsN g ps i p pin (ps.length+1))[k]?=some x:=⟨_,List.getElem?_eq_getElem (by rw [←Hlb.out];exact hlk)⟩
          have hnum:=bed_num (lM hbk);rw [←Hpn.out]at hnum;obtain⟨g9,rfl,hg9a,hg9b,c9⟩:=HBe.out.num hbk;have c9:=hxk.cellS c9;have q7:=hxk.cellS q7;have Hxk:=hd9 hxk;have hlow:=fun(hs:p.skin=sk∨p.skin=3) (h0:0≤be.num)=>co_bed Hks.out HI.out HP.out hs (lM hbk) h0
          rw [Hcn.out]at hlow;have Hlow:=hd9 hlow;have p10:(0:Int)≤(k:Int):=by omega
          have p11:(k:Int)<(ln:Int):=by omega
          obtain⟨nb,hnb⟩:∃x,be.num=x:=⟨_,rfl⟩;have p12:¬(pn2:Int)≤be.num:=by omega
          rw [hnb]at c9 p12 Hlow hnum;clear hlow hbk hxk
          go_upto_region 25 with fail
          go_cut [157] (CutB false wr)
          case first =>
           cases inb with
           | false =>
            refine wp_region_held_drew (S:=CellL [(⟨g9,k*17,none⟩,.int .i64 nb)]) (by kernel_rfl) (by refine⟨?_,trivial⟩<;>go_simp) (fun hHeld=>?_);refine sN 0 ?_
            iterate 11
             refine tkn ?_
            iterate 6
             refine tkgn ?_
            iterate 2
             refine tkn ?_
            iterate 13
             refine tkgn ?_
            iterate 2
             refine tkn ?_
            refine oN ?_;refine wpAnyH_done (by kernel_rfl) ?_ _;go_wp2;go_meet;exact⟨rfl,(Ext.refl _).drew⟩
           | true =>
            have hs:p.skin=sk∨p.skin=3:=by have:=Hin.out;simpa using this
            by_cases h0:0≤nb
            ·obtain⟨kn,rfl⟩:∃x:Nat,nb=(x:Int):=⟨nb.toNat,by omega⟩
             have h1:=Hlow.out hs h0
             have hoj:o[kn]?=some (o.getD kn 0):=by
              have hl:kn<o.length:=by rw [HI.out.len,←Hpn.out];omega
              rw [List.getElem?_eq_getElem hl,List.getD_eq_getElem?_getD,List.getElem?_eq_getElem hl];rfl
             obtain⟨_,_,e,_,c70⟩:=Hvc.out.at' hoj
             cases e
             have c71:=Hxk.out.cellS (Hx5.out.cellS (HXs.out.cellS c70))
             have h2:¬(cn:Int)≤o.getD kn 0:=by
              rw [Int.toNat_natCast]at h1;omega
             have p13:(kn:Int)<(pn2:Int):=by omega
             obtain⟨ck,hck⟩:∃x,o.getD kn 0=x:=⟨_,rfl⟩;rw [hck]at c71 h2;refine wp_region_held_drew (S:=CellL [(⟨g9,k*17,none⟩,.int .i64 kn),(⟨b7,o7+i,none⟩,.int .i64 cn),(⟨b7,o7+kn,none⟩,.int .i64 ck)]) (by kernel_rfl) (by refine⟨?_,?_,?_,trivial⟩<;>go_simp) (fun hHeld=>?_);refine sN 0 ?_
             iterate 34
              refine tkn ?_
             refine oN ?_;refine wpAnyH_done (by kernel_rfl) ?_ _;go_wp2;go_meet;exact⟨rfl,(Ext.refl _).drew⟩
            ·have h1:¬(0:Int)≤nb:=h0
             refine wp_region_held_drew (S:=CellL [(⟨g9,k*17,none⟩,.int .i64 nb)]) (by kernel_rfl) (by refine⟨?_,trivial⟩<;>go_simp) (fun hHeld=>?_);refine sN 0 ?_
             iterate 19
              refine tkn ?_
             iterate 13
              refine tkgn ?_
             iterate 2
              refine tkn ?_
             refine oN ?_;refine wpAnyH_done (by kernel_rfl) ?_ _;go_wp2;go_meet;exact⟨rfl,(Ext.refl _).drew⟩
          case rest =>
           obtain⟨rfl,hxq⟩:=hcut;go_wp2
           go_roundg (ln-(k+1))
           case measure=>omega
           case rel=>exact⟨k+1,by omega,by go_num,rfl,Hxk.out.trans hxq⟩
         ·obtain rfl:ln=k:=by omega
          have Hxk:=hd9 hxk;clear hxk;go_wp2
          go_roundg (pn2-(i+1))
          case measure=>omega
          case rel=>exact⟨i+1,max m cn,bs.set cn true,by omega,by go_num,rfl,rfl,HXs.out.trans (Hx5.out.trans Hxk.out),(HOs.out.ext Hx5.out).ext Hxk.out,Hsn.out.step Hcn.out (by omega)⟩
     ·obtain rfl:pn2=i:=by omega
      have hm9:=Hsn.out.hi;have hm0:=Hsn.out.lo;have hln:pn2=ps.length:=Hpn.out;have HGp:=hd9 (fun(k:Int) (h1:1≤k) (h2:k≤m)=>Hsn.out.all (fun d i v hi a b=>by rw [hln]at hi ⊢;exact co_gap (r:=⟨sk,pin,wide,lap,step,run,level⟩) HI.out d i v hi a b) h1 h2);clear hln;have Hor:=hd9 hor;clear hsn hor;go_wp2
      go_loopg [16] m.toNat (GapS wr m)
      case atStart=>exact⟨1,by omega,by omega,rfl,by omega,rfl⟩
      case round =>
       obtain⟨k,hk1,hk2,rfl,rfl,rfl⟩:=hrel
       by_cases hkm:k≤m
       ·obtain⟨kn,rfl,ck⟩:=HGp.out k hk1 hkm
        have ck:=Hor.out.cellB ck;have p1:(0:Int)≤(kn:Int):=by omega
        have p2:(kn:Int)<20:=by omega
        go_wp2
        go_roundg (m-(kn:Int)).toNat
        case measure=>omega
        case rel=>exact⟨(kn:Int)+1,by omega,by omega,by go_num,by omega,rfl⟩
       ·go_wp2_with(go_at_call 9;(with_reducible refine(HA.out _ (HX2.out.trans (Hx3.out.trans Hxr.out))).mono ?_);rintro e w6 ⟨rfl,hx6⟩)
        go_ret;exact⟨rfl,(HX2.out.trans (Hx3.out.trans Hxr.out)).trans hx6⟩
   ·have u0:(byE g ps ⟨sk,pin,wide,lap,step,run,level⟩ != 0)=true:=by simpa using h0
    have HC:=hd9 (HCn.out h0);clear HCy HCn h0
    go_wp2_with(first|(go_at_call 11;(with_reducible refine(HC.out _ (Ext.refl _)).mono ?_);rintro e w3 ⟨rfl,hx3⟩)|(go_at_call 9;(with_reducible refine(HA.out _ (HX2.out.trans hx3)).mono ?_);rintro e w6 ⟨rfl,hx6⟩))
    go_ret;exact⟨rfl,(HX2.out.trans hx3).trans hx6⟩
end Go.Proofs.YteipgejmhfpkaaaGreatDoor.Cop
