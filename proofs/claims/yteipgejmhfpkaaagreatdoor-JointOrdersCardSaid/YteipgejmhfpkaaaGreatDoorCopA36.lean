/- Part 37 of 44: contracts of what the law calls. -/
import Derived.Test.YteipgejmhfpkaaaGreatDoorCopA35
import Derived.Test.YteipgejmhfpkaaaGreatDoorCopA21
import Derived.Test.YteipgejmhfpkaaaGreatDoorCopA23
import Derived.Test.YteipgejmhfpkaaaGreatDoorCopA27
set_option maxRecDepth 1000000
set_option maxHeartbeats 16000000
set_option linter.unusedSimpArgs false
set_option linter.unusedVariables false
namespace Go.Proofs.YteipgejmhfpkaaaGreatDoor.Cop
open Go.RowKit Go.Shelf Go.Sort
def exR:Ru:=⟨1,0,20,50,10,100,5⟩
theorem exrules_any (w:World):Calls Tryz.prog 21 #[] w fun e w'=>e = .returned (.agg (ruc exR))∧Ext w w':=by
 go_enter Tryz.func21,Tryz.ntmps21;go_wp2;refine bodyPost_ret (v:=.agg (ruc exR)) (by simp [results,Tryz.results21,go_sem,ruc,exR]) rfl ⟨rfl,eA⟩
theorem pts_new (W:World) {k:Nat} (hk:k=W.heap.size) (ps:List (Int×Int)) (hl:ps.length≤1000) :
  IsPts (W.alloc (.cells (ps.map pc).flatten.toArray 42)) (.slice (some ⟨k,0,none⟩) ps.length ps.length) ps:=by
 subst hk
 exact⟨ps.map pc,by simp,pc_len,⟨by rw [flatten_len pc_len];simp,some ⟨W.heap.size,0,none⟩,ps.length,rfl,Nat.le_refl _,by unfold maxLen;omega,.inr ⟨W.heap.size,0,_,(0,0),rfl,heap_alloc_new _ _,fun i x hx=>by simpa using hx⟩⟩,
  fun i c x hc hx=>by rw [lP,hx]at hc;cases hc;rfl⟩
theorem pls_new (W:World) {k:Nat} (hk:k=W.heap.size) (qs:List (Pl×Value)) (hq:∀q∈qs,IsPts W q.2 q.1.shape∧0≤q.1.skin) (hl:qs.length≤1000) :
  IsPls (W.alloc (.cells (qs.map fun q=>(plc q.1 q.2).toList).flatten.toArray 46)) (.slice (some ⟨k,0,none⟩) qs.length qs.length) (qs.map Prod.fst):=by
 subst hk
 have h10:∀c∈(qs.map fun q=>(plc q.1 q.2).toList),c.length=10:=fun c hc=>by
  obtain⟨q,_,rfl⟩:=List.mem_map.1 hc;rfl
 refine⟨qs.map fun q=>(plc q.1 q.2).toList,by simp,h10,⟨by rw [flatten_len h10];simp,some ⟨W.heap.size,0,none⟩,qs.length,by simp,by simp,by unfold maxLen;omega,.inr ⟨W.heap.size,0,_,(0,0),rfl,heap_alloc_new _ _,fun i x hx=>by simpa using hx⟩⟩,?_⟩;intro i c x hc hx;rw [lP,Option.map_eq_some_iff]at hc hx;obtain⟨q,hq1,rfl⟩:=hc;obtain⟨q',hq2,rfl⟩:=hx;rw [hq1]at hq2
 cases hq2
 have:=hq q (lM hq1);exact⟨q.2,rfl,this.1.ext' ((Ext.refl W).alloc _),this.2⟩
def brickS:List (Int×Int):=[(0,0),(200,0),(200,80),(0,80)]
theorem brick0_any (w:World):Calls Tryz.prog 49 #[] w fun e w'=>∃v,e = .returned (.agg #[.string ⟨#[98,114,105,99,107]⟩,v,.int .i64 100,.int .i64 2400,.int .i64 1,.int .i64 0])∧IsPts w' v brickS∧Ext w w':=by
 go_enter Tryz.func49,Tryz.ntmps49;go_wp2;refine bodyPost_ret (v:=.agg #[.string ⟨#[98,114,105,99,107]⟩,.slice (some ⟨w.heap.size+1,0,none⟩) 4 4,.int .i64 100,.int .i64 2400,.int .i64 1,.int .i64 0]) (by simp [results,Tryz.results49,go_sem]) rfl ⟨_,rfl,?_,eA⟩;exact pts_new _ (by simp) brickS (by decide)
def brickP (nm:ByteArray) (x z:Int):Pl:=⟨nm,brickS,100,2400,1,0,0,x,z,1⟩
theorem brick_any (w:World) (nm:ByteArray) (x z:Int):Calls Tryz.prog 24 #[.string nm,.int .i64 x,.int .i64 z] w fun e w'=>∃v,e = .returned (.agg (plc (brickP nm x z) v))∧IsPts w' v brickS∧Ext w w':=by
 go_enter Tryz.func24,Tryz.ntmps24
 go_wp2_with(go_at_call 49;(with_reducible refine(brick0_any _).mono ?_);rintro e w3 ⟨v3,rfl,hv3,hx3⟩;obtain⟨a3,n3,c3,rfl⟩:=form3 hv3;obtain⟨hc3,hf3⟩:=hx3.cells;(have z3:=hx3.size);(simp only [wZ]at z3);(have y0:w.heap.size<w3.heap.size:=(by omega));(have y1:¬w.heap.size=w3.heap.size:=(by omega)))
 refine bodyPost_ret (v:=.agg (plc (brickP nm x z) (.slice a3 n3 c3))) (by simp [results,Tryz.results24,go_sem,plc,brickP,hc3,hf3,y0,y1]) rfl ⟨_,rfl,?_,eA⟩;exact hv3.keep' kA
def exG:List (Int×Int):=[(-1000,0),(1000,0)]
def exP:List Pl:=[brickP ⟨#[97]⟩ 0 0,brickP ⟨#[98]⟩ 200 0,brickP ⟨#[99]⟩ 0 80,brickP ⟨#[100]⟩ 200 80,brickP ⟨#[101]⟩ 100 160]
theorem blk_put {W:World} {b:Nat} {cs:Array Value} {T:TypeId} {fr:Nat×Nat} (h:W.heap[b]?=some (.cells cs T fr)) (i:Nat) (u:Value):(W.setCell ⟨b,i,none⟩ u).heap[b]?=some (.cells (cs.setIfInBounds i u) T fr):=by
 simp [World.setCell,Array.getElem?_modify,h]
theorem two_heap (w:World) (o o':Obj):((w.alloc o).alloc o').heap[w.heap.size]?=some o:=by
 rw [heap_get,if_neg (by simp)];exact heap_alloc_new w o
theorem two_heap1 (w:World) (o o':Obj):((w.alloc o).alloc o').heap[w.heap.size+1]?=some o':=qhA _ _ _ (by simp)
theorem five_any (w:World):Calls Tryz.prog 20 #[] w fun e w'=>∃vg vp,e = .returned (.agg #[vg,vp])∧IsPts w' vg exG∧IsPls w' vp exP∧Ext w w':=by
 go_enter Tryz.func20,Tryz.ntmps20
 go_wp2_with(go_at_call 24;(with_reducible refine(brick_any _ ⟨#[97]⟩ 0 0).mono ?_);rintro e w1 ⟨v1,rfl,hv1,hx1⟩;obtain⟨a1,n1,c1,rfl⟩:=form3 hv1;(unfold plc brickP);dsimp only)
 go_wp2_with(go_at_call 24;(with_reducible refine(brick_any _ ⟨#[98]⟩ 200 0).mono ?_);rintro e w2 ⟨v2,rfl,hv2,hx2⟩;obtain⟨a2,n2,c2,rfl⟩:=form3 hv2;(unfold plc brickP);dsimp only)
 go_wp2_with(go_at_call 24;(with_reducible refine(brick_any _ ⟨#[99]⟩ 0 80).mono ?_);rintro e w3 ⟨v3,rfl,hv3,hx3⟩;obtain⟨a3,n3,c3,rfl⟩:=form3 hv3;(unfold plc brickP);dsimp only)
 go_wp2_with(go_at_call 24;(with_reducible refine(brick_any _ ⟨#[100]⟩ 200 80).mono ?_);rintro e w4 ⟨v4,rfl,hv4,hx4⟩;obtain⟨a4,n4,c4,rfl⟩:=form3 hv4;(unfold plc brickP);dsimp only)
 have G1:IsPts w1 (.slice (some ⟨w.heap.size+1,0,none⟩) 2 2) exG:=(pts_new (w.alloc (.cells #[.slice none 0 0,.slice none 0 0] 33)) (by simp) exG (by decide)).ext' hx1;have K1:=hx1.heapS (two_heap w (.cells #[.slice none 0 0,.slice none 0 0] 33) (.cells #[.int .i64 (-1000),.int .i64 0,.int .i64 1000,.int .i64 0] 42));have K4:=hx4.heapS (hx3.heapS (hx2.heapS K1));have HG1:=hd9 G1;clear K1 G1
 go_wp2_with(go_at_call 24;(with_reducible refine(brick_any _ ⟨#[101]⟩ 100 160).mono ?_);rintro e w5 ⟨v5,rfl,hv5,hx5⟩;obtain⟨a5,n5,c5,rfl⟩:=form3 hv5;(unfold plc brickP);dsimp only;(have K5:=hx5.heapS K4);(have k0:=qcB K5 (i:=0) (u:=.slice none 0 0) rfl);(have k1:=qcB K5 (i:=1) (u:=.slice none 0 0) rfl);(have kf:=qfB K5);(have kz:=heap_lt K5);(have kn:¬w.heap.size=w5.heap.size:=(by omega)))
 obtain⟨W5,hW5⟩:∃W,(w5.setCell ⟨w.heap.size,0,none⟩ (.slice (some ⟨w.heap.size+1,0,none⟩) 2 2)).setCell ⟨w.heap.size,1,none⟩ (.slice (some ⟨w5.heap.size,0,none⟩) 5 5)=W:=⟨_,rfl⟩
 have hk:KeepT 42 w5 W5:=by
  rw [←hW5];have h1:=(KeepT.refl 42 w5).set (p:=⟨w.heap.size,0,none⟩) K5 (by decide) (.slice (some ⟨w.heap.size+1,0,none⟩) 2 2);exact h1.set (p:=⟨w.heap.size,1,none⟩) (blk_put K5 0 _) (by decide) _
 have hz:W5.heap.size=w5.heap.size:=by rw [←hW5];simp only [qcZ]
 have hb:W5.heap[w.heap.size]?=some (.cells #[.slice (some ⟨w.heap.size+1,0,none⟩) 2 2,.slice (some ⟨w5.heap.size,0,none⟩) 5 5] 33 (0,0)):=by
  rw [←hW5];exact blk_put (blk_put K5 0 _) 1 _
 have hX:Ext w W5:=by
  rw [←hW5];exact(Ext.set (Ext.set (((((((Ext.refl w).alloc _).alloc _).trans hx1).trans hx2).trans hx3).trans hx4 |>.trans hx5) (Nat.le_refl _) _) (Nat.le_refl _) _)
 rw [hW5];clear hW5;have b0:=qcB hb (i:=0) (u:=.slice (some ⟨w.heap.size+1,0,none⟩) 2 2) rfl;have b1:=qcB hb (i:=1) (u:=.slice (some ⟨w5.heap.size,0,none⟩) 5 5) rfl;have bz:=heap_lt hb
 have hq:=pls_new W5 (k:=w5.heap.size) hz.symm [(brickP ⟨#[97]⟩ 0 0,.slice a1 n1 c1),(brickP ⟨#[98]⟩ 200 0,.slice a2 n2 c2),(brickP ⟨#[99]⟩ 0 80,.slice a3 n3 c3),(brickP ⟨#[100]⟩ 200 80,.slice a4 n4 c4),(brickP ⟨#[101]⟩ 100 160,.slice a5 n5 c5)] (by
  intro q hq;simp only [List.mem_cons,List.not_mem_nil,or_false]at hq
  rcases hq with rfl|rfl|rfl|rfl|rfl
  ·exact⟨(((((hv1.ext' hx2).ext' hx3).ext' hx4).ext' hx5)).keep' hk,by unfold brickP;dsimp only;omega⟩
  ·exact⟨((((hv2.ext' hx3).ext' hx4).ext' hx5)).keep' hk,by unfold brickP;dsimp only;omega⟩
  ·exact⟨(((hv3.ext' hx4).ext' hx5)).keep' hk,by unfold brickP;dsimp only;omega⟩
  ·exact⟨((hv4.ext' hx5)).keep' hk,by unfold brickP;dsimp only;omega⟩
  ·exact⟨hv5.keep' hk,by unfold brickP;dsimp only;omega⟩) (by simp)
 refine bodyPost_ret (v:=.agg #[.slice (some ⟨w.heap.size+1,0,none⟩) 2 2,.slice (some ⟨w5.heap.size,0,none⟩) 5 5]) (by simp [results,Tryz.results20,go_sem,b0,b1,bz]) rfl ⟨_,_,rfl,?_,?_,hX.alloc _⟩
 ·exact((((((HG1.out.ext' hx2).ext' hx3).ext' hx4).ext' hx5)).keep' hk).ext' ((Ext.refl _).alloc _)
 ·exact hq
def PtS (w:World) (ps:List (Int×Int)) (g:Nat) (t3 t4:Value) (W:World):Prop:=
 ∃i:Nat,i≤ps.length∧t4 = .int .i64 (i:Nat)∧g=ps.length-i∧Ext w W∧OwnC 42 2 W w.heap.size t3 ((ps.take i).map pc)
theorem points_any (w:World) (v:Value) (ps:List (Int×Int)) (h:IsPr w v ps) (hn9:ps.length≤1000) :
  Calls Tryz.prog 26 #[v] w fun e w'=>∃v',e = .returned v'∧OwnC 42 2 w' w.heap.size v' (ps.map pc)∧Ext w w':=by
 obtain⟨a,c,rfl⟩:=h.form;obtain⟨n,hn⟩:∃n,ps.length=n:=⟨_,rfl⟩;rw [hn]at h hn9 ⊢;have Hn:=hd9 hn;have H:=hd9 h;obtain⟨R,hR⟩:∃R:Ending→World→Prop,(fun e w'=>∃v',e = .returned v'∧OwnC 42 2 w' w.heap.size v' (ps.map pc)∧Ext w w')=R:=⟨_,rfl⟩;rw [hR];have HR:=hd9 hR;clear hn h hR;go_enter Tryz.func26,Tryz.ntmps26;go_wp2
 go_loopg [3,4] n (PtS w ps)
 case atStart=>exact⟨0,by omega,rfl,by rw [Hn.out];rfl,Ext.refl _,by simpa using OwnC.nil _ _ _ _⟩
 case round =>
  obtain⟨i,hi,rfl,rfl,hx,hown⟩:=hrel;rw [Hn.out]at hi;obtain⟨va,vn,vc,rfl⟩:=hown.form3;have Hown:=hd9 hown;have Hx:=hd9 hx
  by_cases hlt:i<n
  ·obtain⟨⟨x,z⟩,hq⟩:∃q,ps[i]?=some q:=⟨ps[i]'(by rw [Hn.out];omega),by simp [Hn.out,hlt]⟩
   obtain⟨b,o,rfl,hb,d0,d1⟩:=(H.out.ext' hx).at' hq;obtain⟨b0,o0,e0,hb0,_⟩:=H.out.at' hq
   cases e0
   dsimp only at d0 d1;have Hq:=hd9 hq;have p1:(0:Int)≤(i:Int):=by omega
   have p2:(i:Int)<(n:Int):=by omega
   clear hq hx hown;go_wp2;refine wp_region_held_drew (S:=CellL [(⟨b,o+i*2,none⟩,.int .i64 x),(⟨b,o+i*2+1,none⟩,.int .i64 z)]) (by kernel_rfl) ⟨d0,d1,trivial⟩ (fun hHeld=>?_);refine sN 0 ?_
   iterate 12
    refine tkn ?_
   refine oN ?_;refine cl1 (i:=12) fun K hK=>?_
   go_simp;refine kO hK (CellL.ext hHeld ((Ext.refl _).alloc _)) (fun hHeld=>?_);clear hK K;have hA:Ext wr ((wr.alloc (.cells #[.int .i64 x,.int .i64 z] 42)).drew):=((Ext.refl wr).alloc _).drew;refine cl1 (i:=13) fun K hK=>?_
   refine step_appC (T:=42) (t:=30) (z:=.agg #[.int .i64 0,.int .i64 0]) (k:=2) (bytes:=16) (v:=.slice va vn vc) (base:=w.heap.size) info_pt rfl (by decide) (by decide) Tryz.underlying30 rfl _ _ rfl rfl (Hown.out.ext hA) (ad:=⟨wr.heap.size,0,none⟩) (m:=1) (c:=1) rfl [pc (x,z)] rfl (by simp [pc]) (by exact news_pt wr x z 42) (pt_one x z) (by rw [lL,List.length_take];omega) (by have:=hA.size;have:=Hx.out.size;omega) ?_;intro v' w9 hown9 hgrow hlie;obtain⟨a9,n9,c9,rfl⟩:=hown9.form3;have zb:b<wr.heap.size:=hb;refine kO hK (CellL.grown hHeld hgrow (fun q hq e=>?_)) (fun hHeld=>?_)
   ·have h9:=(Hown.out.lt _ e.symm).1
    simp at hq
    rcases hq with rfl|rfl<;>(dsimp only at h9;omega)
   clear hK K;refine tk1 (i:=14) ?_;refine wpAnyH_done (by kernel_rfl) ?_ _;go_wp2
   go_roundg (n-(i+1))
   case measure=>have:=Hn.out;omega
   case rel =>
    refine⟨i+1,by have:=Hn.out;omega,by go_num,by rw [Hn.out],(Hx.out.trans hA).thenB (grown_below (base:=w.heap.size) hgrow (by have:=hA.size;have:=Hx.out.size;omega) (fun k hk=>(Hown.out.lt k hk).1)) (Nat.le_refl _),?_⟩;rw [take_add_one' _ _ _ Hq.out,List.map_append];exact hown9
  ·obtain rfl:n=i:=by omega
   have e:ps.take n=ps:=lT (by rw [Hn.out];exact Nat.le_refl _);rw [e]at hown;go_wp2;rw [←HR.out];exact⟨_,rfl,hown,hx⟩
theorem stone_any (w:World) (nm:ByteArray) (v:Value) (sh:List (Int×Int)) (d de gx gz:Int) (h:IsPr w v sh) (hn9:sh.length≤1000) :
  Calls Tryz.prog 50 #[.agg #[.string nm,v,.int .i64 d,.int .i64 de,.int .i64 gx,.int .i64 gz]] w fun e w'=>∃v',e = .returned (.agg #[.string nm,v',.int .i64 d,.int .i64 de,.int .i64 gx,.int .i64 gz])∧IsPts w' v' sh∧Ext w w':=by
 have HP:=hd9 (fun W (hW:Ext w W)=>points_any W v sh (h.ext' hW) hn9);obtain⟨a,n,c,rfl⟩:=h.form3;clear h;go_enter Tryz.func50,Tryz.ntmps50;go_wp2;refine wp_region_held_drew (S:=CellL [(⟨w.heap.size,0,none⟩,.string nm),(⟨w.heap.size,1,none⟩,.slice a n c),(⟨w.heap.size,2,none⟩,.int .i64 d),(⟨w.heap.size,3,none⟩,.int .i64 de),(⟨w.heap.size,4,none⟩,.int .i64 gx),(⟨w.heap.size,5,none⟩,.int .i64 gz)]) (by kernel_rfl) (by refine⟨?_,?_,?_,?_,?_,?_,trivial⟩<;>go_simp) (fun hHeld=>?_);refine sN 0 ?_
 iterate 4
  refine tkn ?_
 refine oN ?_;refine sN 5 ?_
 iterate 11
  refine tkn ?_
 refine oN ?_;refine cl1 (i:=4) fun K hK=>?_
 go_simp
 (with_reducible refine Calls.mono (HP.out _ eA) ?_)
 rintro e w3 ⟨v3,rfl,hown3,hx3⟩;obtain⟨a3,n3,c3,rfl⟩:=hown3.form3
 go_wp2_with fail
 refine kO hK (CellL.ext hHeld hx3) (fun hHeld=>?_);clear hK K;refine tk1 (i:=16) ?_;have hv3:=hown3.pts;have K3:=hx3.heapS (two_heap1 w (.cells #[.string nm,.slice a n c,.int .i64 d,.int .i64 de,.int .i64 gx,.int .i64 gz] 90) (.cells #[.string ⟨#[]⟩,.slice none 0 0,.int .i64 0,.int .i64 0,.int .i64 0,.int .i64 0] 44));have k0:=qcB K3 (i:=0) (u:=.string ⟨#[]⟩) rfl;have k1:=qcB K3 (i:=1) (u:=.slice none 0 0) rfl;have k2:=qcB K3 (i:=2) (u:=.int .i64 0) rfl;have k3:=qcB K3 (i:=3) (u:=.int .i64 0) rfl;have k4:=qcB K3 (i:=4) (u:=.int .i64 0) rfl;have k5:=qcB K3 (i:=5) (u:=.int .i64 0) rfl;have kf:=qfB K3
 have Hne:=hd9 (show ∀q∈[((⟨w.heap.size,0,none⟩:Addr),Value.string nm),(⟨w.heap.size,1,none⟩,.slice a n c),(⟨w.heap.size,2,none⟩,.int .i64 d),(⟨w.heap.size,3,none⟩,.int .i64 de),(⟨w.heap.size,4,none⟩,.int .i64 gx),(⟨w.heap.size,5,none⟩,.int .i64 gz)],w.heap.size+1≠q.1.block from fun q hq h=>by
  simp at hq
  rcases hq with rfl|rfl|rfl|rfl|rfl|rfl<;>(dsimp only at h;omega))
 have hX3:Ext w w3:=((((Ext.refl w).alloc _).alloc _).drew).trans hx3;have HK3:=hd9 K3;clear K3;refine cl1 (i:=17) fun K hK=>?_
 go_simp;refine kO hK (CellL.set (p:=⟨w.heap.size+1,5,none⟩) (CellL.set (p:=⟨w.heap.size+1,4,none⟩) (CellL.set (p:=⟨w.heap.size+1,3,none⟩) (CellL.set (p:=⟨w.heap.size+1,2,none⟩) (CellL.set (p:=⟨w.heap.size+1,1,none⟩) (CellL.set (p:=⟨w.heap.size+1,0,none⟩) hHeld Hne.out _) Hne.out _) Hne.out _) Hne.out _) Hne.out _) Hne.out _) (fun hHeld=>?_);clear hK K;refine wpAnyH_done (by kernel_rfl) ?_ _;go_wp2;obtain⟨W5,hW5⟩:∃W,((((((w3.setCell ⟨w.heap.size+1,0,none⟩ (.string nm)).setCell ⟨w.heap.size+1,1,none⟩ (.slice a3 n3 c3)).setCell ⟨w.heap.size+1,2,none⟩ (.int .i64 d)).setCell ⟨w.heap.size+1,3,none⟩ (.int .i64 de)).setCell ⟨w.heap.size+1,4,none⟩ (.int .i64 gx)).setCell ⟨w.heap.size+1,5,none⟩ (.int .i64 gz))=W:=⟨_,rfl⟩
 have hb:W5.heap[w.heap.size+1]?=some (.cells #[.string nm,.slice a3 n3 c3,.int .i64 d,.int .i64 de,.int .i64 gx,.int .i64 gz] 44 (0,0)):=by
  rw [←hW5];exact blk_put (blk_put (blk_put (blk_put (blk_put (blk_put HK3.out 0 _) 1 _) 2 _) 3 _) 4 _) 5 _
 have hk:KeepT 42 w3 W5:=by
  rw [←hW5];exact(((((KeepT.refl 42 w3).set (p:=⟨w.heap.size+1,0,none⟩) HK3.out (by decide) _).set (p:=⟨w.heap.size+1,1,none⟩) (blk_put HK3.out 0 _) (by decide) _).set (p:=⟨w.heap.size+1,2,none⟩) (blk_put (blk_put HK3.out 0 _) 1 _) (by decide) _).set (p:=⟨w.heap.size+1,3,none⟩) (blk_put (blk_put (blk_put HK3.out 0 _) 1 _) 2 _) (by decide) _).set (p:=⟨w.heap.size+1,4,none⟩) (blk_put (blk_put (blk_put (blk_put HK3.out 0 _) 1 _) 2 _) 3 _) (by decide) _ |>.set (p:=⟨w.heap.size+1,5,none⟩) (blk_put (blk_put (blk_put (blk_put (blk_put HK3.out 0 _) 1 _) 2 _) 3 _) 4 _) (by decide) _
 have hX5:Ext w W5:=by
  rw [←hW5];exact((((((hX3.set (by dsimp only;omega) _).set (by dsimp only;omega) _).set (by dsimp only;omega) _).set (by dsimp only;omega) _).set (by dsimp only;omega) _).set (by dsimp only;omega) _)
 rw [hW5];have b0:=qcB hb (i:=0) (u:=.string nm) rfl;have b1:=qcB hb (i:=1) (u:=.slice a3 n3 c3) rfl;have b2:=qcB hb (i:=2) (u:=.int .i64 d) rfl;have b3:=qcB hb (i:=3) (u:=.int .i64 de) rfl;have b4:=qcB hb (i:=4) (u:=.int .i64 gx) rfl;have b5:=qcB hb (i:=5) (u:=.int .i64 gz) rfl;exact bodyPost_ret (v:=.agg #[.string nm,.slice a3 n3 c3,.int .i64 d,.int .i64 de,.int .i64 gx,.int .i64 gz]) (by simp [results,Tryz.results50,go_sem,b0,b1,b2,b3,b4,b5]) rfl ⟨_,rfl,hv3.keep' hk,hX5⟩
theorem placedr_any (w:World) (nm:ByteArray) (v:Value) (sh:List (Int×Int)) (d de gx gz wy px pz sk:Int) (h:IsPr w v sh) (hn9:sh.length≤1000) :
  Calls Tryz.prog 27 #[.agg #[.string nm,v,.int .i64 d,.int .i64 de,.int .i64 gx,.int .i64 gz,.int .i64 wy,.int .i64 px,.int .i64 pz,.int .u8 sk]] w
   fun e w'=>∃v',e = .returned (.agg #[.string nm,v',.int .i64 d,.int .i64 de,.int .i64 gx,.int .i64 gz,.int .i64 wy,.int .i64 px,.int .i64 pz,.int .u8 sk])∧IsPts w' v' sh∧Ext w w':=by
 have HP:=hd9 (fun W (hW:Ext w W)=>stone_any W nm v sh d de gx gz (h.ext' hW) hn9);obtain⟨a,n,c,rfl⟩:=h.form3;clear h;go_enter Tryz.func27,Tryz.ntmps27;go_wp2;refine wp_region_held_drew (S:=CellL [(⟨w.heap.size,0,none⟩,.string nm),(⟨w.heap.size,1,none⟩,.slice a n c),(⟨w.heap.size,2,none⟩,.int .i64 d),(⟨w.heap.size,3,none⟩,.int .i64 de),(⟨w.heap.size,4,none⟩,.int .i64 gx),(⟨w.heap.size,5,none⟩,.int .i64 gz),(⟨w.heap.size,6,none⟩,.int .i64 wy),(⟨w.heap.size,7,none⟩,.int .i64 px),(⟨w.heap.size,8,none⟩,.int .i64 pz),(⟨w.heap.size,9,none⟩,.int .u8 sk)]) (by kernel_rfl) (by refine⟨?_,?_,?_,?_,?_,?_,?_,?_,?_,?_,trivial⟩<;>go_simp) (fun hHeld=>?_);refine sN 0 ?_
 iterate 2
  refine tkn ?_
 refine oN ?_;refine sN 3 ?_
 iterate 11
  refine tkn ?_
 refine oN ?_;refine cl1 (i:=2) fun K hK=>?_
 go_simp
 (with_reducible refine Calls.mono (HP.out _ eA) ?_)
 rintro e w3 ⟨v3,rfl,hv3,hx3⟩;obtain⟨a3,n3,c3,rfl⟩:=form3 hv3
 go_wp2_with fail
 refine kO hK (CellL.ext hHeld hx3) (fun hHeld=>?_);clear hK K;refine tk1 (i:=14) ?_;have K3:=hx3.heapS (two_heap1 w (.cells #[.string nm,.slice a n c,.int .i64 d,.int .i64 de,.int .i64 gx,.int .i64 gz,.int .i64 wy,.int .i64 px,.int .i64 pz,.int .u8 sk] 92) (.cells #[.string ⟨#[]⟩,.slice none 0 0,.int .i64 0,.int .i64 0,.int .i64 0,.int .i64 0,.int .i64 0,.int .i64 0,.int .i64 0,.int .u8 0] 46));have k0:=qcB K3 (i:=0) (u:=.string ⟨#[]⟩) rfl;have k1:=qcB K3 (i:=1) (u:=.slice none 0 0) rfl;have k2:=qcB K3 (i:=2) (u:=.int .i64 0) rfl;have k3:=qcB K3 (i:=3) (u:=.int .i64 0) rfl;have k4:=qcB K3 (i:=4) (u:=.int .i64 0) rfl;have k5:=qcB K3 (i:=5) (u:=.int .i64 0) rfl;have k6:=qcB K3 (i:=6) (u:=.int .i64 0) rfl;have k7:=qcB K3 (i:=7) (u:=.int .i64 0) rfl;have k8:=qcB K3 (i:=8) (u:=.int .i64 0) rfl;have k9:=qcB K3 (i:=9) (u:=.int .u8 0) rfl;have kf:=qfB K3
 have Hne:=hd9 (show ∀q∈[((⟨w.heap.size,0,none⟩:Addr),Value.string nm),(⟨w.heap.size,1,none⟩,.slice a n c),(⟨w.heap.size,2,none⟩,.int .i64 d),(⟨w.heap.size,3,none⟩,.int .i64 de),(⟨w.heap.size,4,none⟩,.int .i64 gx),(⟨w.heap.size,5,none⟩,.int .i64 gz),(⟨w.heap.size,6,none⟩,.int .i64 wy),(⟨w.heap.size,7,none⟩,.int .i64 px),(⟨w.heap.size,8,none⟩,.int .i64 pz),(⟨w.heap.size,9,none⟩,.int .u8 sk)],w.heap.size+1≠q.1.block from fun q hq h=>by
  simp at hq
  rcases hq with rfl|rfl|rfl|rfl|rfl|rfl|rfl|rfl|rfl|rfl<;>(dsimp only at h;omega))
 have hX3:Ext w w3:=((((Ext.refl w).alloc _).alloc _).drew).trans hx3;have HK3:=hd9 K3;clear K3;refine cl1 (i:=15) fun K hK=>?_
 go_simp;refine kO hK (CellL.set (p:=⟨w.heap.size+1,9,none⟩) (CellL.set (p:=⟨w.heap.size+1,8,none⟩) (CellL.set (p:=⟨w.heap.size+1,7,none⟩) (CellL.set (p:=⟨w.heap.size+1,6,none⟩) (CellL.set (p:=⟨w.heap.size+1,5,none⟩) (CellL.set (p:=⟨w.heap.size+1,4,none⟩) (CellL.set (p:=⟨w.heap.size+1,3,none⟩) (CellL.set (p:=⟨w.heap.size+1,2,none⟩) (CellL.set (p:=⟨w.heap.size+1,1,none⟩) (CellL.set (p:=⟨w.heap.size+1,0,none⟩) hHeld Hne.out _) Hne.out _) Hne.out _) Hne.out _) Hne.out _) Hne.out _) Hne.out _) Hne.out _) Hne.out _) Hne.out _) (fun hHeld=>?_);clear hK K;refine wpAnyH_done (by kernel_rfl) ?_ _;go_wp2;have hz3:=heap_lt HK3.out;have hv4:IsPts w3 (.slice a3 n3 c3) sh:=hv3;have n0:NoT 42 w3 (w.heap.size+1):=by intro cs fr e;rw [HK3.out]at e;cases e
 refine bodyPost_ret (v:=.agg #[.string nm,.slice a3 n3 c3,.int .i64 d,.int .i64 de,.int .i64 gx,.int .i64 gz,.int .i64 wy,.int .i64 px,.int .i64 pz,.int .u8 sk]) (by simp [results,Tryz.results27,go_sem,k0,k1,k2,k3,k4,k5,k6,k7,k8,k9,kf]) rfl ⟨_,rfl,?_,?_⟩
 ·refine hv4.keep' ?_
  repeat(first|with_reducible exact KeepT.refl _ _|(with_reducible refine KeepT.setN ?_ ?_ _)|with_reducible exact n0|with_reducible refine NoT.set ?_ _ _)
 ·repeat(first|with_reducible exact hX3|(with_reducible refine Ext.set ?_ (by dsimp only;omega) _))
def OwnPl (w:World) (base:Nat) (v:Value) (ps:List Pl):Prop:=∃cs,OwnC 46 10 w base v cs∧cs.length=ps.length∧∀(i:Nat) c p,cs[i]?=some c→ps[i]?=some p→PPl w c p
theorem OwnPl.pls {w:World} {base:Nat} {v:Value} {ps:List Pl} (h:OwnPl w base v ps):IsPls w v ps:=by
 obtain⟨cs,h1,h2,h3⟩:=h;exact h1.sl h2 h3
theorem PPl.keep {w w':World} {c:List Value} {p:Pl} (h:PPl w c p) (k:KeepT 42 w w'):PPl w' c p:=by
 obtain⟨v,h1,h2,h3⟩:=h;exact⟨v,h1,h2.keep' k,h3⟩
theorem OwnC.ne_blkD {T T':TypeId} {k:Nat} {w:World} {base:Nat} {v:Value} {cs:List (List Value)} (h:OwnC T k w base v cs) {b:Nat} {c:Array Value} {fr:Nat×Nat} (hk:w.heap[b]?=some (.cells c T' fr)) (hT:T'≠T):v.ownBlock≠some b:=by
 intro e
 rcases h.2.2 with ⟨h1,_⟩|⟨g,cap,cur,hv,_,hh,_⟩
 ·rw [h1]at e;cases e
 ·rw [hv]at e;cases e;rw [hh]at hk;cases hk;exact hT rfl
theorem info_pl:(Tryz.prog.info? 46).map (fun i=>(i.zero,i.size,i.bytes))=some (some (.agg #[.string ⟨#[]⟩,.slice none 0 0,.int .i64 0,.int .i64 0,.int .i64 0,.int .i64 0,.int .i64 0,.int .i64 0,.int .i64 0,.int .u8 0]),10,104):=by kernel_rfl
def WlS (w w4:World) (b3:Nat) (vg vp v3:Value) (ps:List Pl) (g:Nat) (t4:Value) (W:World):Prop:=
 ∃(i:Nat) (vs:Value) (cs:List (List Value)),i≤ps.length∧t4 = .int .i64 (i:Nat)∧g=ps.length-i∧w4.grownBy W (some b3)∧W.heap[b3]?=some (.cells #[v3,vs] 33 (0,0)) ∧
  OwnC 46 10 W (b3+1) vs cs∧cs.length=i∧∀(j:Nat) c p,cs[j]?=some c→ps[j]?=some p→PPl W c p
theorem wallr_any (w:World) (vg vp:Value) (g:List (Int×Int)) (ps:List Pl) (hg:IsPr w vg g) (hp:IsWr w vp ps) (hg9:g.length≤1000) (hp9:ps.length≤1000) (hs9:∀p∈ps,p.shape.length≤1000) :
  Calls Tryz.prog 10 #[.agg #[vg,vp]] w fun e w'=>∃vg' vp',e = .returned (.agg #[vg',vp'])∧IsPts w' vg' g∧OwnPl w' w.heap.size vp' ps∧Ext w w':=by
 have HPt:=hd9 (fun W (hW:Ext w W)=>points_any W vg g (hg.ext' hW) hg9);obtain⟨ga,gn,gc,rfl⟩:=hg.form3;obtain⟨pa,pn,pc1,rfl⟩:=hp.form3;have Hn:=hd9 hp.len.symm;have Hp:=hd9 hp;have Hs9:=hd9 hs9;have hpn:pn≤1000:=by rw [hp.len];exact hp9
 obtain⟨R,hR⟩:∃R:Ending→World→Prop,(fun e w'=>∃vg' vp',e = .returned (.agg #[vg',vp'])∧IsPts w' vg' g∧OwnPl w' w.heap.size vp' ps∧Ext w w')=R:=⟨_,rfl⟩;rw [hR];have HR:=hd9 hR;clear hg hp hR hs9 hp9;go_enter Tryz.func10,Tryz.ntmps10
 go_wp2_with(go_at_call 26;(with_reducible refine(HPt.out _ ?_).mono ?_);exact eA;rintro e w3 ⟨v3,rfl,hown3,hx3⟩;obtain⟨a3,n3,c3,rfl⟩:=hown3.form3)
 have K0:=hx3.heapS (two_heap w (.cells #[.slice ga gn gc,.slice pa pn pc1] 25) (.cells #[.slice none 0 0,.slice none 0 0] 33));have K1:=hx3.heapS (two_heap1 w (.cells #[.slice ga gn gc,.slice pa pn pc1] 25) (.cells #[.slice none 0 0,.slice none 0 0] 33));obtain⟨b3,hb3⟩:∃b,w3.heap.size=b:=⟨_,rfl⟩;obtain⟨w4,hw4⟩:∃W,w3.alloc (.cells #[.slice a3 n3 c3,.slice none 0 0] 33)=W:=⟨_,rfl⟩;have hE4:Ext w3 w4:=by rw [←hw4];exact(Ext.refl w3).alloc _
 have hz4:w4.heap.size=b3+1:=by rw [←hw4];simp [hb3]
 have hB4:w4.heap[b3]?=some (.cells #[.slice a3 n3 c3,.slice none 0 0] 33 (0,0)):=by rw [←hw4];exact qhA _ _ _ hb3.symm
 have hX4:Ext w w4:=(((((Ext.refl w).alloc _).alloc _).trans hx3).trans hE4);have hv4:=hown3.pts.ext' hE4;have zb3:=heap_lt K1;rw [hb3]at zb3 ⊢;rw [hw4];have HK0:=hd9 (hE4.heapS K0);have HK1:=hd9 (hE4.heapS K1);have HB4:=hd9 hB4;have HX4:=hd9 hX4;have Hv4:=hd9 hv4;clear K0 K1 hw4 hE4 hB4 hX4 hv4 hown3 hx3 hb3;go_wp2
 go_loopg [4] pn (WlS w w4 b3 (.slice ga gn gc) (.slice pa pn pc1) (.slice a3 n3 c3) ps)
 case atStart=>exact⟨0,_,[],by omega,rfl,by rw [Hn.out];rfl,gb_refl _ _,HB4.out,by rw [←hz4];exact OwnC.nil _ _ _ _,rfl,fun j c p hc=>by simp at hc⟩
 case round =>
  obtain⟨i,vs,cs,hi,rfl,rfl,hgb,hbb,hown,hcl,hcp⟩:=hrel;rw [Hn.out]at hi;obtain⟨va,vn,vc,rfl⟩:=hown.form3;have hsz:=hgb.size;have hbx:=(hgb.block w.heap.size (by omega) (by simp;omega)).trans HK0.out;have bx0:=qcB hbx (i:=0) (u:=.slice ga gn gc) rfl;have bx1:=qcB hbx (i:=1) (u:=.slice pa pn pc1) rfl;have c31:=qcB hbb (i:=1) (u:=.slice va vn vc) rfl;have c30:=qcB hbb (i:=0) (u:=.slice a3 n3 c3) rfl;have hXr:Ext w wr:=gb_Ext HX4.out hgb (by omega)
  by_cases hlt:i<pn
  ·obtain⟨p,hq⟩:∃q,ps[i]?=some q:=⟨ps[i]'(by rw [Hn.out];omega),by simp [Hn.out,hlt]⟩
   obtain⟨b,o,v,rfl,hb,hv,hsk,hc⟩:=(Hp.out.ext' hXr).at' hq;obtain⟨b0,o0,v0,e0,hb0,_,_,_⟩:=Hp.out.at' hq
   cases e0
   have HPl:=hd9 (fun W (hW:Ext wr W)=>placedr_any W p.name v p.shape p.depth p.density p.gx p.gz p.way p.ax p.az p.skin (hv.ext' hW) (Hs9.out p (lM hq)));obtain⟨sa,sn,sc,rfl⟩:=hv.form3;have cc0:=hc 0 (.string p.name) rfl;have cc1:=hc 1 (.slice sa sn sc) rfl;have cc2:=hc 2 (.int .i64 p.depth) rfl;have cc3:=hc 3 (.int .i64 p.density) rfl;have cc4:=hc 4 (.int .i64 p.gx) rfl;have cc5:=hc 5 (.int .i64 p.gz) rfl;have cc6:=hc 6 (.int .i64 p.way) rfl;have cc7:=hc 7 (.int .i64 p.ax) rfl;have cc8:=hc 8 (.int .i64 p.az) rfl;have cc9:=hc 9 (.int .u8 p.skin) rfl;simp only [Nat.add_zero]at cc0;have Hq:=hd9 hq;have Hgb:=hd9 hgb;have Hbb:=hd9 hbb;have Hown:=hd9 hown;have Hcp:=hd9 hcp;have p1:(0:Int)≤(i:Int):=by omega
   have p2:(i:Int)<(pn:Int):=by omega
   clear hq hv hc hgb hbb hown hcp hbx;go_wp2;refine wp_region_HU (fun i=>decide (10<i)) (CellL [(⟨b3,1,none⟩,.slice va vn vc),(⟨w.heap.size,1,none⟩,.slice (some ⟨b,o,none⟩) pn pc1),(⟨b,o+i*10,none⟩,.string p.name),(⟨b,o+i*10+1,none⟩,.slice sa sn sc),(⟨b,o+i*10+2,none⟩,.int .i64 p.depth),(⟨b,o+i*10+3,none⟩,.int .i64 p.density),(⟨b,o+i*10+4,none⟩,.int .i64 p.gx),(⟨b,o+i*10+5,none⟩,.int .i64 p.gz),(⟨b,o+i*10+6,none⟩,.int .i64 p.way),(⟨b,o+i*10+7,none⟩,.int .i64 p.ax),(⟨b,o+i*10+8,none⟩,.int .i64 p.az),(⟨b,o+i*10+9,none⟩,.int .u8 p.skin)]) (by kernel_rfl) ?_ (fun hHeld=>?_)
   ·refine⟨?_,?_,?_,?_,?_,?_,?_,?_,?_,?_,?_,?_,trivial⟩<;>go_simp
   refine sN 0 ?_
   iterate 7
    refine tun ?_
   refine oN ?_;refine cu1 (i:=7) fun K hK=>?_
   go_simp
   (with_reducible refine Calls.mono (HPl.out _ (Ext.refl wr).drew) ?_)
   rintro e w7 ⟨v7,rfl,hv7,hx7⟩;obtain⟨a7,n7,c7,rfl⟩:=form3 hv7
   go_wp2_with fail
   refine kO hK (fun _=>CellL.ext hHeld hx7) (fun hHeld=>?_);clear hK K;have hHeld:=hHeld rfl;have X7:Ext wr w7:=((Ext.refl wr).drew).trans hx7;refine cu1 (i:=8) fun K hK=>?_
   go_simp;refine kO hK (fun _=>CellL.ext hHeld ((Ext.refl _).alloc _)) (fun hHeld=>?_);clear hK K;have hHeld:=hHeld rfl;have hA:Ext wr (w7.alloc (.cells #[.string p.name,.slice a7 n7 c7,.int .i64 p.depth,.int .i64 p.density,.int .i64 p.gx,.int .i64 p.gz,.int .i64 p.way,.int .i64 p.ax,.int .i64 p.az,.int .u8 p.skin] 46)):=X7.alloc _;refine cu1 (i:=9) fun K hK=>?_
   refine step_appC (T:=46) (t:=31) (z:=.agg #[.string ⟨#[]⟩,.slice none 0 0,.int .i64 0,.int .i64 0,.int .i64 0,.int .i64 0,.int .i64 0,.int .i64 0,.int .i64 0,.int .u8 0]) (k:=10) (bytes:=104) (v:=.slice va vn vc) (base:=b3+1) info_pl rfl (by decide) (by decide) Tryz.underlying31 rfl _ _ rfl rfl (cs:=cs) (Hown.out.ext hA) (ad:=⟨w7.heap.size,0,none⟩) (m:=1) (c:=1) rfl [(#[.string p.name,.slice a7 n7 c7,.int .i64 p.depth,.int .i64 p.density,.int .i64 p.gx,.int .i64 p.gz,.int .i64 p.way,.int .i64 p.ax,.int .i64 p.az,.int .u8 p.skin]:Array Value).toList] rfl (by simp) (by exact news_blk w7 #[.string p.name,.slice a7 n7 c7,.int .i64 p.depth,.int .i64 p.density,.int .i64 p.gx,.int .i64 p.gz,.int .i64 p.way,.int .i64 p.ax,.int .i64 p.az,.int .u8 p.skin] 46) (by simp [Value.oneCell']) (by omega) (by have:=hA.size;omega) ?_;intro v' w9 hown9 hgrow hlie;obtain⟨a9,n9,c9,rfl⟩:=hown9.form3;have Hlt9:=hd9 (fun j (h:(Value.slice va vn vc).ownBlock=some j)=>Hown.out.lt j h);refine kO hK (fun _=>CellL.grown hHeld hgrow (fun q hq e=>?_)) (fun hHeld=>?_)
   ·have h9:=(Hlt9.out _ e.symm).1
    simp at hq
    rcases hq with rfl|rfl|rfl|rfl|rfl|rfl|rfl|rfl|rfl|rfl|rfl|rfl<;>(dsimp only at h9;omega)
   clear hK K;have hHeld:=hHeld rfl;refine tu1 (i:=10) ?_;have hK9:=grown_heapS hgrow (hA.heapS Hbb.out) (fun e=>by have:=(Hlt9.out _ e.symm).1;omega);have n1:=qcB hK9 (i:=1) (u:=.slice va vn vc) rfl;have nf:=qfB hK9
   have hkp:KeepT 42 wr w9:=fun x c f hx=>grown_heapS hgrow (hA.heapS hx) (fun e=>by
    have h8:=(Hown.out.ext hA).ne_blkD (hA.heapS hx) (by decide);exact h8 e.symm)
   have HK9:=hd9 hK9;have Hkp:=hd9 hkp;clear hK9 hkp;refine cu1 (i:=11) fun K hK=>?_
   go_simp;refine kO hK (fun h=>nomatch h) (fun hHeld=>?_);clear hK K;refine doneHU (by kernel_rfl) ?_ _;go_wp2
   go_roundg (pn-(i+1))
   case measure=>have:=Hn.out;omega
   case rel =>
    have hkp2:KeepT 42 wr (w9.setCell ⟨b3,1,none⟩ (.slice a9 n9 c9)):=Hkp.out.set (p:=⟨b3,1,none⟩) HK9.out (by decide) _;refine⟨i+1,.slice a9 n9 c9,cs++[#[.string p.name,.slice a7 n7 c7,.int .i64 p.depth,.int .i64 p.density,.int .i64 p.gx,.int .i64 p.gz,.int .i64 p.way,.int .i64 p.ax,.int .i64 p.az,.int .u8 p.skin].toList],by rw [Hn.out];omega,by go_num,by rw [Hn.out],gb_set (gb_below Hgb.out ((Below.mono hA hsz).trans (grown_below (base:=w4.heap.size) hgrow (Nat.le_trans hsz hA.size) (fun k hk=>by have:=(Hlt9.out k hk).1;omega)))) 1 _,blk_put HK9.out 1 _,hown9.setOther (fun e=>by have:=(hown9.lt _ e).1;dsimp only at this;omega) _,by simp [hcl],?_⟩;intro j c x hc hx
    by_cases hj:j<cs.length
    ·rw [List.getElem?_append_left hj]at hc
     exact(Hcp.out j c x hc hx).keep hkp2
    ·rw [List.getElem?_append_right (by omega)]at hc
     have hl:=(lS.1 hc).1;simp at hl;have hj0:j-cs.length=0:=by omega
     rw [hj0]at hc;have hji:j=i:=by omega
     subst hji;rw [Hq.out]at hx
     cases hx
     simp at hc;subst hc;refine⟨.slice a7 n7 c7,rfl,?_,hsk⟩;have h1:IsPts (w7.alloc (.cells #[.string p.name,.slice a7 n7 c7,.int .i64 p.depth,.int .i64 p.density,.int .i64 p.gx,.int .i64 p.gz,.int .i64 p.way,.int .i64 p.ax,.int .i64 p.az,.int .u8 p.skin] 46)) (.slice a7 n7 c7) p.shape:=hv7.ext' ((Ext.refl _).alloc _)
     have h2:KeepT 42 (w7.alloc (.cells #[.string p.name,.slice a7 n7 c7,.int .i64 p.depth,.int .i64 p.density,.int .i64 p.gx,.int .i64 p.gz,.int .i64 p.way,.int .i64 p.ax,.int .i64 p.az,.int .u8 p.skin] 46)) w9:=fun x c f hx=>grown_heapS hgrow hx (fun e=>by
      have h8:=(Hown.out.ext hA).ne_blkD hx (by decide);exact h8 e.symm)
     exact(h1.keep' h2).keep' ((KeepT.refl _ w9).set (p:=⟨b3,1,none⟩) HK9.out (by decide) _)
  ·obtain rfl:pn=i:=by omega
   have hb1:=(hgb.block (w.heap.size+1) (by omega) (by simp;omega)).trans HK1.out;have r0:=qcB hb1 (i:=0) (u:=.slice none 0 0) rfl;have r1:=qcB hb1 (i:=1) (u:=.slice none 0 0) rfl;have rf:=qfB hb1;have hvg:IsPts wr (.slice a3 n3 c3) g:=Hv4.out.keep' (gb_keepT hgb HB4.out (by decide));have zr:=heap_lt hb1;have hW9:KeepT 42 wr ((wr.setCell ⟨w.heap.size+1,0,none⟩ (.slice a3 n3 c3)).setCell ⟨w.heap.size+1,1,none⟩ (.slice va vn vc)):=((KeepT.refl _ wr).set (p:=⟨w.heap.size+1,0,none⟩) hb1 (by decide) _).set (p:=⟨w.heap.size+1,1,none⟩) (blk_put hb1 0 _) (by decide) _;have hX9:Ext w ((wr.setCell ⟨w.heap.size+1,0,none⟩ (.slice a3 n3 c3)).setCell ⟨w.heap.size+1,1,none⟩ (.slice va vn vc)):=(hXr.set (by dsimp only;omega) _).set (by dsimp only;omega) _;have hown9:=(((hown.setOther (p:=⟨w.heap.size+1,0,none⟩) (fun e=>by have:=(hown.lt _ e).1;dsimp only at this;omega) (.slice a3 n3 c3)).setOther (p:=⟨w.heap.size+1,1,none⟩) (fun e=>by have:=(hown.lt _ e).1;dsimp only at this;omega) (.slice va vn vc))).mono (b':=w.heap.size) (by omega);have hb9:=blk_put (blk_put hb1 0 (.slice a3 n3 c3)) 1 (.slice va vn vc);have Hown9:=hd9 hown9;have HW9:=hd9 hW9;have HX9:=hd9 hX9;have Hvg:=hd9 hvg;have Hcp:=hd9 hcp;clear hown9 hW9 hX9 hvg hcp hown hgb hbx hbb hXr;go_wp2;refine bodyPost_ret (v:=.agg #[.slice a3 n3 c3,.slice va vn vc]) (by simp [results,Tryz.results10,go_sem,r0,r1,rf]) rfl ?_;rw [←HR.out];exact⟨_,_,rfl,Hvg.out.keep' HW9.out,⟨cs,Hown9.out,by rw [hcl,Hn.out],fun j c p hc hx=>(Hcp.out j c p hc hx).keep HW9.out⟩,HX9.out⟩
end Go.Proofs.YteipgejmhfpkaaaGreatDoor.Cop
namespace Go.Proofs.YteipgejmhfpkaaaGreatDoor.Cop
open Go.RowKit Go.Shelf Go.Maps Go.Sort Go.Lib
def undOk (ks:List (JS×Value)) (z:Int):Bool:=decide (0≤z)&&ks.any fun x=>x.1.k==z
def undQ (ks:List (JS×Value)) (bs:List Be) (q:Nat):List Int:=((bs.take q).map (·.num)).filter (undOk ks)
theorem undQ_step {ks:List (JS×Value)} {bs:List Be} {q:Nat} {b:Be} (h:bs[q]?=some b):undQ ks bs (q+1)=undQ ks bs q++(if undOk ks b.num=true then [b.num]else []):=by
 unfold undQ;rw [take_add_one' _ _ _ h,List.map_append,List.filter_append]
 congr 1
 by_cases h9:undOk ks b.num=true
 ·rw [if_pos h9];simp [h9]
 ·rw [if_neg h9];simp [h9]
def updA (f:Nat→List Int) (k:Nat) (L:List Int):Nat→List Int:=fun j=>if j=k then f k++L else f j
theorem updA_nil (f:Nat→List Int) (k:Nat):updA f k []=f:=by
 funext j
 unfold updA
 split
 ·rename_i h;rw [h,List.append_nil]
 ·rfl
theorem updA_snoc (f:Nat→List Int) (k:Nat) (L:List Int) (z:Int):(fun j=>if j=k then updA f k L k++[z]else updA f k L j)=updA f k (L++[z]):=by
 funext j
 unfold updA
 by_cases h:j=k
 ·simp [h]
 ·simp [h]
def CrK (base B:Nat) (W0 W:World):Prop:=(W0.heap.size≤W.heap.size∧W.os=W0.os∧W.tape=W0.tape∧W.output=W0.output)∧∀b o,W0.heap[b]?=some o→b≠B→(b<base∨∀cs fr,o ≠ .cells cs 3 fr)→W.heap[b]?=some o
theorem CrK.refl (base B:Nat) (W:World):CrK base B W W:=⟨⟨Nat.le_refl _,rfl,rfl,rfl⟩,fun _ _ h _ _=>h⟩
theorem CrK.trans {base B:Nat} {W0 W1 W2:World} (h:CrK base B W0 W1) (k:CrK base B W1 W2):CrK base B W0 W2:=
 ⟨⟨Nat.le_trans h.1.1 k.1.1,k.1.2.1.trans h.1.2.1,k.1.2.2.1.trans h.1.2.2.1,k.1.2.2.2.trans h.1.2.2.2⟩,fun b o hb hB ho=>k.2 b o (h.2 b o hb hB ho) hB ho⟩
theorem CrK.ofExt {base B:Nat} {W0 W:World} (h:Ext W0 W):CrK base B W0 W:=⟨⟨h.size,h.os,h.tape,h.output⟩,fun _ _ hb _ _=>h.heapS hb⟩
theorem CrK.ofMap {base B:Nat} {W0 W:World} (h:W0.grownBy W (some B)):CrK base B W0 W:=⟨⟨h.size,h.os,h.tape,h.output⟩,fun b o hb hB _=>(h.block b (heap_lt hb) (by simpa using hB)).trans hb⟩
theorem CrK.ofRow {base B:Nat} {W0 W:World} {v:Value} {cs:List (List Value)} (ho:OwnC 3 1 W0 base v cs) (h:W0.grownBy W v.ownBlock):CrK base B W0 W:=
 ⟨⟨h.size,h.os,h.tape,h.output⟩,fun b o hb hB hc=>(h.block b (heap_lt hb) (fun e=>by
  rcases hc with hc|hc
  ·have:=(ho.lt b e.symm).1
   omega
  ·rcases ho.2.2 with ⟨h1,_⟩|⟨g,cap,cur,hv,_,hh,_⟩
   ·rw [h1]at e;cases e
   ·rw [hv]at e;cases e;rw [hb]at hh;cases hh;exact hc _ _ rfl)).trans hb⟩
theorem CrK.ext {base B:Nat} {w W0 W:World} (h:CrK base B W0 W) (k:Ext w W0) (hb:w.heap.size≤base) (hB:w.heap.size≤B):Ext w W:=
 ⟨h.1.2.1.trans k.os,h.1.2.2.1.trans k.tape,h.1.2.2.2.trans k.output,Nat.le_trans k.size h.1.1,fun i hi=>by
  have e:w.heap[i]?=some (w.heap[i]'hi):=Array.getElem?_eq_getElem hi;rw [e];exact h.2 i _ (k.heapS e) (by omega) (.inl (by omega))⟩
theorem CrK.keepT {base B:Nat} {W0 W:World} {T:TypeId} (h:CrK base B W0 W) (hT:T≠3) (hm:∀cs fr,W0.heap[B]?≠some (.cells cs T fr)):KeepT T W0 W:=fun b ds fr hb =>
 h.2 b _ hb (fun e=>by subst e;exact hm _ _ hb) (.inr fun cs fr' e=>by cases e;exact hT rfl)
theorem Gm.map {W:World} {base B n:Nat} {f:Nat→List Int} (h:Gm W base B n f):∃es clock,W.heap[B]?=some (.map es clock):=by
 obtain⟨D,⟨es,clock,h1,_⟩,_⟩:=h;exact⟨es,clock,h1⟩
theorem Gm.notCells {W:World} {base B n:Nat} {f:Nat→List Int} (h:Gm W base B n f) {T:TypeId}:∀cs fr,W.heap[B]?≠some (.cells cs T fr):=fun cs fr e=>by
 obtain⟨es,clock,h1⟩:=h.map;rw [h1]at e;cases e
theorem Gm.ext {W W':World} {base B n:Nat} {f:Nat→List Int} (h:Gm W base B n f) (k:Ext W W'):Gm W' base B n f:=
 h.keptLow (gb_below (gb_refl W none) (k.belowB (Nat.le_refl _))) (by simp) (fun j hj=>by cases hj)
def PBf (_:World) (c:List Value) (b:Be):Prop:=∃a m c1 s a2 m2 c2 b1 n k t b2 n2 k2 a' m' c' s' a2' m2' c2' b' n' k' t' b2' n2' k2' e1 e2 e3 e4,c=[.int .i64 b.num,.slice a m c1,.bool s,.slice a2 m2 c2,.slice b1 n k,.bool t,.slice b2 n2 k2,.slice a' m' c',.bool s',.slice a2' m2' c2',.slice b' n' k',.bool t',.slice b2' n2' k2',.int .i64 e1,.int .i64 e2,.int .i64 e3,.int .i64 e4]
abbrev IsBes (w:World) (v:Value) (bs:List Be):Prop:=Sl 60 17 PBf w v bs
theorem OwnBe.bes {w:World} {base:Nat} {v:Value} {bs:List Be} (h:OwnBe w base v bs):IsBes w v bs:=by
 obtain⟨cs,h1,h2,h3⟩:=h;refine OwnC.sl h1 h2 (fun i c x hc hx=>?_);obtain⟨a,m,c1,s,a2,m2,c2,b1,n,k,t,b2,n2,k2,a',m',c',s',a2',m2',c2',b',n',k',t',b2',n2',k2',e⟩:=(h3 i c x hc hx).form;exact⟨a,m,c1,s,a2,m2,c2,b1,n,k,t,b2,n2,k2,a',m',c',s',a2',m2',c2',b',n',k',t',b2',n2',k2',_,_,_,_,e⟩
end Go.Proofs.YteipgejmhfpkaaaGreatDoor.Cop
