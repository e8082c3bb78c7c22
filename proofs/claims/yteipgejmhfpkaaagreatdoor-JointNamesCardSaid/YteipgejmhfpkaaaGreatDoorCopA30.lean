/- Part 31: contracts of what the law calls. -/
import Derived.Test.YteipgejmhfpkaaaGreatDoorCopA29
import Derived.Test.YteipgejmhfpkaaaGreatDoorCopA19
import Derived.Test.YteipgejmhfpkaaaGreatDoorCopA22
import Derived.Test.YteipgejmhfpkaaaGreatDoorCopA17
set_option maxRecDepth 1000000
set_option maxHeartbeats 16000000
set_option linter.unusedSimpArgs false
set_option linter.unusedVariables false
open Go.Value renaming int→O,slice→Z
open Go.IntKind renaming i64→Y,u8→N
open Option renaming none→X,some→J
open Go renaming World→V,Value→I
open Go.Obj renaming cells→M
namespace Go.Proofs.YteipgejmhfpkaaaGreatDoor.Cop
section
open Go.RowKit Go.Shelf Go.Sort
theorem zgx (w:V) (nm:ByteArray) (v:I) (sh:List (Int×Int)) (d de gx gz wy px pz sk:Int) (h:IsPr w v sh) (hn9:sh.length≤1000) :
  Calls Tryz.prog 27 #[.agg #[.string nm,v,O Y d,O Y de,O Y gx,O Y gz,O Y wy,O Y px,O Y pz,O N sk]] w
   fun e w'=>∃v',e = .returned (.agg #[.string nm,v',O Y d,O Y de,O Y gx,O Y gz,O Y wy,O Y px,O Y pz,O N sk])∧IsPts w' v' sh∧Ext w w'∧∀j,v'.ownBlock=J j→w.heap.size≤j:=by
 have HP:=hd9 (fun W (hW:Ext w W)=>zkP W nm v sh d de gx gz (h.ext' hW) hn9);obtain⟨a,n,c,rfl⟩:=h.form3;clear h;go_enter Tryz.func27,Tryz.ntmps27;go_wp2;refine wp_region_held_drew (S:=CellL [(⟨w.heap.size,0,X⟩,.string nm),(⟨w.heap.size,1,X⟩,Z a n c),(⟨w.heap.size,2,X⟩,O Y d),(⟨w.heap.size,3,X⟩,O Y de),(⟨w.heap.size,4,X⟩,O Y gx),(⟨w.heap.size,5,X⟩,O Y gz),(⟨w.heap.size,6,X⟩,O Y wy),(⟨w.heap.size,7,X⟩,O Y px),(⟨w.heap.size,8,X⟩,O Y pz),(⟨w.heap.size,9,X⟩,O N sk)]) (by kernel_rfl) cA (fun h9H=>?_);refine sN 0 ?_
 iterate 2
  refine tkn ?_
 refine oN ?_;refine sN 3 ?_
 iterate 11
  refine tkn ?_
 refine oN ?_;refine cl1 (i:=2) fun K hK=>?_
 go_simp
 (with_reducible refine cM (HP.out _ eA) ?_)
 rintro e w3 ⟨v3,rfl,hv3,hx3,ho3⟩;obtain⟨a3,n3,c3,rfl⟩:=form3 hv3
 go_wp2_with fail
 refine kO hK (cE h9H hx3) (fun h9H=>?_);clear hK K;refine tk1 (i:=14) ?_;have K3:=hx3.heapS (zej w (M #[.string nm,Z a n c,O Y d,O Y de,O Y gx,O Y gz,O Y wy,O Y px,O Y pz,O N sk] 92) (M #[.string ⟨#[]⟩,Z X 0 0,O Y 0,O Y 0,O Y 0,O Y 0,O Y 0,O Y 0,O Y 0,O N 0] 46));have k0:=qcB K3 (i:=0) (u:=.string ⟨#[]⟩) rfl;have k1:=qcB K3 (i:=1) (u:=Z X 0 0) rfl;have k2:=qcB K3 (i:=2) (u:=O Y 0) rfl;have k3:=qcB K3 (i:=3) (u:=O Y 0) rfl;have k4:=qcB K3 (i:=4) (u:=O Y 0) rfl;have k5:=qcB K3 (i:=5) (u:=O Y 0) rfl;have k6:=qcB K3 (i:=6) (u:=O Y 0) rfl;have k7:=qcB K3 (i:=7) (u:=O Y 0) rfl;have k8:=qcB K3 (i:=8) (u:=O Y 0) rfl;have k9:=qcB K3 (i:=9) (u:=O N 0) rfl;have kf:=qfB K3
 have Hne:=hd9 (show ∀q∈[((⟨w.heap.size,0,X⟩:Addr),Value.string nm),(⟨w.heap.size,1,X⟩,Z a n c),(⟨w.heap.size,2,X⟩,O Y d),(⟨w.heap.size,3,X⟩,O Y de),(⟨w.heap.size,4,X⟩,O Y gx),(⟨w.heap.size,5,X⟩,O Y gz),(⟨w.heap.size,6,X⟩,O Y wy),(⟨w.heap.size,7,X⟩,O Y px),(⟨w.heap.size,8,X⟩,O Y pz),(⟨w.heap.size,9,X⟩,O N sk)],w.heap.size+1≠q.1.block from fun q hq h=>by
  simp at hq
  rcases hq with rfl|rfl|rfl|rfl|rfl|rfl|rfl|rfl|rfl|rfl<;>(dsimp only at h;omega))
 have hX3:Ext w w3:=((((eR w).alloc _).alloc _).drew).trans hx3;have HK3:=hd9 K3;clear K3;refine cl1 (i:=15) fun K hK=>?_
 go_simp;refine kO hK (CellL.set (p:=⟨w.heap.size+1,9,X⟩) (CellL.set (p:=⟨w.heap.size+1,8,X⟩) (CellL.set (p:=⟨w.heap.size+1,7,X⟩) (CellL.set (p:=⟨w.heap.size+1,6,X⟩) (CellL.set (p:=⟨w.heap.size+1,5,X⟩) (CellL.set (p:=⟨w.heap.size+1,4,X⟩) (CellL.set (p:=⟨w.heap.size+1,3,X⟩) (CellL.set (p:=⟨w.heap.size+1,2,X⟩) (CellL.set (p:=⟨w.heap.size+1,1,X⟩) (CellL.set (p:=⟨w.heap.size+1,0,X⟩) h9H Hne.out _) Hne.out _) Hne.out _) Hne.out _) Hne.out _) Hne.out _) Hne.out _) Hne.out _) Hne.out _) Hne.out _) (fun h9H=>?_);clear hK K;refine wpAnyH_done (by kernel_rfl) ?_ _;go_wp2;have hz3:=zab HK3.out;have hv4:IsPts w3 (Z a3 n3 c3) sh:=hv3;have n0:NoT 42 w3 (w.heap.size+1):=by intro cs fr e;rw [HK3.out]at e;cases e
 refine bR (v:=.agg #[.string nm,Z a3 n3 c3,O Y d,O Y de,O Y gx,O Y gz,O Y wy,O Y px,O Y pz,O N sk]) (by simp [results,Tryz.results27,go_sem,k0,k1,k2,k3,k4,k5,k6,k7,k8,k9,kf]) rfl ⟨_,rfl,?_,?_,fun j hj=>by have:=ho3 j hj;simp only [wZ,qdZ]at this;omega⟩
 ·refine hv4.keep' ?_
  repeat(first|with_reducible exact KeepT.refl _ _|(with_reducible refine KeepT.setN ?_ ?_ _)|with_reducible exact n0|with_reducible refine NoT.set ?_ _ _)
 ·repeat(first|with_reducible exact hX3|(with_reducible refine Ext.set ?_ (by dsimp only;omega) _))
theorem PPl.keep {w w':V} {c:List I} {p:Pl} (h:PPl w c p) (k:KeepT 42 w w'):PPl w' c p:=by
 obtain⟨v,h1,h2,h3⟩:=h;exact⟨v,h1,h2.keep' k,h3⟩
theorem OwnC.ne_blkD {T T':TypeId} {k:Nat} {w:V} {base:Nat} {v:I} {cs:List (List I)} (h:OwnC T k w base v cs) {b:Nat} {c:Array I} {fr:Nat×Nat} (hk:w.heap[b]?=J (M c T' fr)) (hT:T'≠T):v.ownBlock≠J b:=by
 intro e
 rcases h.2.2 with ⟨h1,_⟩|⟨g,cap,cur,hv,_,hh,_⟩
 ·rw [h1]at e;cases e
 ·rw [hv]at e;cases e;rw [hh]at hk;cases hk;exact hT rfl
theorem znt:(Tryz.prog.info? 46).map (fun i=>(i.zero,i.size,i.bytes))=J (J (.agg #[.string ⟨#[]⟩,Z X 0 0,O Y 0,O Y 0,O Y 0,O Y 0,O Y 0,O Y 0,O Y 0,O N 0]),10,104):=by kernel_rfl
def Apart (L:Nat) (c:List I):Prop:=∀j,(c.getD 1 (.bool false)).ownBlock=J j→L≤j
def OwnPlA (w:V) (base L:Nat) (v:I) (ps:List Pl):Prop:=∃cs,OwnC 46 10 w base v cs∧cs.length=ps.length∧(∀(i:Nat) c p,cs[i]?=J c→ps[i]?=J p→PPl w c p)∧∀c∈cs,Apart L c
theorem OwnPlA.own {w:V} {base L:Nat} {v:I} {ps:List Pl} (h:OwnPlA w base L v ps):OwnPl w base v ps:=by
 obtain⟨cs,h1,h2,h3,_⟩:=h;exact⟨cs,h1,h2,h3⟩
def WlS (w w4:V) (b3:Nat) (vg vp v3:I) (ps:List Pl) (g:Nat) (t4:I) (W:V):Prop:=
 ∃(i:Nat) (vs:I) (cs:List (List I)),i≤ps.length∧t4=O Y (i:Nat)∧g=ps.length-i∧w4.grownBy W (J b3)∧W.heap[b3]?=J (M #[v3,vs] 33 (0,0)) ∧
  OwnC 46 10 W (b3+1) vs cs∧cs.length=i∧(∀(j:Nat) c p,cs[j]?=J c→ps[j]?=J p→PPl W c p)∧∀c∈cs,Apart b3 c
theorem zk0 (w:V) (vg vp:I) (g:List (Int×Int)) (ps:List Pl) (hg:IsPr w vg g) (hp:IsWr w vp ps) (hg9:g.length≤1000) (hp9:ps.length≤1000) (hs9:∀p∈ps,p.shape.length≤1000) :
  Calls Tryz.prog 10 #[.agg #[vg,vp]] w fun e w'=>∃vg' vp' L,e = .returned (.agg #[vg',vp'])∧OwnC 42 2 w' w.heap.size vg' (g.map pc)∧(∀j,vg'.ownBlock=J j→j<L)∧OwnPlA w' w.heap.size L vp' ps∧Ext w w':=by
 have HPt:=hd9 (fun W (hW:Ext w W)=>zeF W vg g (hg.ext' hW) hg9);obtain⟨ga,gn,gc,rfl⟩:=hg.form3;obtain⟨pa,pn,pc1,rfl⟩:=hp.form3;have Hn:=hd9 hp.len.symm;have Hp:=hd9 hp;have Hs9:=hd9 hs9;have hpn:pn≤1000:=by rw [hp.len];exact hp9
 obtain⟨R,hR⟩:∃R:Ending→V→Prop,(fun e w'=>∃vg' vp' L,e = .returned (.agg #[vg',vp'])∧OwnC 42 2 w' w.heap.size vg' (g.map pc)∧(∀j,vg'.ownBlock=J j→j<L)∧OwnPlA w' w.heap.size L vp' ps∧Ext w w')=R:=⟨_,rfl⟩;rw [hR];have HR:=hd9 hR;clear hg hp hR hs9 hp9;go_enter Tryz.func10,Tryz.ntmps10
 go_wp2_with(go_at_call 26;(with_reducible refine(HPt.out _ ?_).mono ?_);exact eA;rintro e w3 ⟨v3,rfl,hown3,hx3⟩;obtain⟨a3,n3,c3,rfl⟩:=hown3.form3)
 have K0:=hx3.heapS (zhp w (M #[Z ga gn gc,Z pa pn pc1] 25) (M #[Z X 0 0,Z X 0 0] 33));have K1:=hx3.heapS (zej w (M #[Z ga gn gc,Z pa pn pc1] 25) (M #[Z X 0 0,Z X 0 0] 33));obtain⟨b3,hb3⟩:=gX w3.heap.size;obtain⟨w4,hw4⟩:=gX (w3.alloc (M #[Z a3 n3 c3,Z X 0 0] 33));have hE4:Ext w3 w4:=by rw [←hw4];exact(eR w3).alloc _
 have hz4:w4.heap.size=b3+1:=by rw [←hw4];simp [hb3]
 have hB4:w4.heap[b3]?=J (M #[Z a3 n3 c3,Z X 0 0] 33 (0,0)):=by rw [←hw4];exact qhA _ _ _ hb3.symm
 have hX4:Ext w w4:=(((((eR w).alloc _).alloc _).trans hx3).trans hE4);have hv4:=hown3.ext hE4
 have hv5:∀j,(Value.slice a3 n3 c3).ownBlock=J j→w.heap.size+1<j∧j<b3:=fun j hj=>by
  obtain⟨q1,q2⟩:=hown3.lt j hj;simp only [wZ,qdZ]at q1;exact⟨by omega,by omega⟩
 have zb3:=zab K1;rw [hb3]at zb3 ⊢;rw [hw4];have HK0:=hd9 (hE4.heapS K0);have HK1:=hd9 (hE4.heapS K1);have HB4:=hd9 hB4;have HX4:=hd9 hX4;have Hv4:=hd9 hv4;have Hv5:=hd9 hv5;clear K0 K1 hw4 hE4 hB4 hX4 hv4 hv5 hown3 hx3 hb3;go_wp2
 go_loopg [4] pn (WlS w w4 b3 (Z ga gn gc) (Z pa pn pc1) (Z a3 n3 c3) ps)
 case atStart=>exact⟨0,_,[],by omega,rfl,by rw [Hn.out];rfl,zbk _ _,HB4.out,by rw [←hz4];exact OwnC.nil _ _ _ _,rfl,fun j c p hc=>by simp at hc,fun c hc=>by cases hc⟩
 case round =>
  obtain⟨i,vs,cs,hi,rfl,rfl,hgb,hbb,hown,hcl,hcp,hcA⟩:=hrel;rw [Hn.out]at hi;obtain⟨va,vn,vc,rfl⟩:=hown.form3;have hsz:=hgb.size;have hbx:=(hgb.block w.heap.size (by omega) (by simp;omega)).trans HK0.out;have bx0:=qcB hbx (i:=0) (u:=Z ga gn gc) rfl;have bx1:=qcB hbx (i:=1) (u:=Z pa pn pc1) rfl;have c31:=qcB hbb (i:=1) (u:=Z va vn vc) rfl;have c30:=qcB hbb (i:=0) (u:=Z a3 n3 c3) rfl;have hXr:Ext w wr:=zdh HX4.out hgb (by omega)
  by_cases hlt:i<pn
  ·obtain⟨p,hq⟩:∃q,ps[i]?=J q:=⟨ps[i]'(by rw [Hn.out];omega),by simp [Hn.out,hlt]⟩
   obtain⟨b,o,v,rfl,hb,hv,hsk,hc⟩:=(Hp.out.ext' hXr).at' hq;obtain⟨b0,o0,v0,e0,hb0,_,_,_⟩:=Hp.out.at' hq
   cases e0
   have HPl:=hd9 (fun W (hW:Ext wr W)=>zgx W p.name v p.shape p.depth p.density p.gx p.gz p.way p.ax p.az p.skin (hv.ext' hW) (Hs9.out p (lM hq)));obtain⟨sa,sn,sc,rfl⟩:=hv.form3;have cc0:=hc 0 (.string p.name) rfl;have cc1:=hc 1 (Z sa sn sc) rfl;have cc2:=hc 2 (O Y p.depth) rfl;have cc3:=hc 3 (O Y p.density) rfl;have cc4:=hc 4 (O Y p.gx) rfl;have cc5:=hc 5 (O Y p.gz) rfl;have cc6:=hc 6 (O Y p.way) rfl;have cc7:=hc 7 (O Y p.ax) rfl;have cc8:=hc 8 (O Y p.az) rfl;have cc9:=hc 9 (O N p.skin) rfl;simp only [Nat.add_zero]at cc0;have Hq:=hd9 hq;have Hgb:=hd9 hgb;have Hbb:=hd9 hbb;have Hown:=hd9 hown;have Hcp:=hd9 hcp;have HcA:=hd9 hcA;have p1:(0:Int)≤(i:Int):=by omega
   have p2:(i:Int)<(pn:Int):=by omega
   clear hq hv hc hgb hbb hown hcp hcA hbx;go_wp2;refine zap (fun i=>decide (10<i)) (CellL [(⟨b3,1,X⟩,Z va vn vc),(⟨w.heap.size,1,X⟩,Z (J ⟨b,o,X⟩) pn pc1),(⟨b,o+i*10,X⟩,.string p.name),(⟨b,o+i*10+1,X⟩,Z sa sn sc),(⟨b,o+i*10+2,X⟩,O Y p.depth),(⟨b,o+i*10+3,X⟩,O Y p.density),(⟨b,o+i*10+4,X⟩,O Y p.gx),(⟨b,o+i*10+5,X⟩,O Y p.gz),(⟨b,o+i*10+6,X⟩,O Y p.way),(⟨b,o+i*10+7,X⟩,O Y p.ax),(⟨b,o+i*10+8,X⟩,O Y p.az),(⟨b,o+i*10+9,X⟩,O N p.skin)]) (by kernel_rfl) ?_ (fun h9H=>?_)
   ·exact cA
   refine sN 0 ?_
   iterate 7
    refine tun ?_
   refine oN ?_;refine cu1 (i:=7) fun K hK=>?_
   go_simp
   (with_reducible refine cM (HPl.out _ (eR wr).drew) ?_)
   rintro e w7 ⟨v7,rfl,hv7,hx7,ho7⟩;obtain⟨a7,n7,c7,rfl⟩:=form3 hv7
   go_wp2_with fail
   refine kO hK (fun _=>cE h9H hx7) (fun h9H=>?_);clear hK K;have h9H:=h9H rfl;have X7:Ext wr w7:=((eR wr).drew).trans hx7;refine cu1 (i:=8) fun K hK=>?_
   go_simp;refine kO hK (fun _=>cE h9H ((eR _).alloc _)) (fun h9H=>?_);clear hK K;have h9H:=h9H rfl;have hA:Ext wr (w7.alloc (M #[.string p.name,Z a7 n7 c7,O Y p.depth,O Y p.density,O Y p.gx,O Y p.gz,O Y p.way,O Y p.ax,O Y p.az,O N p.skin] 46)):=X7.alloc _;refine cu1 (i:=9) fun K hK=>?_
   refine zbl (T:=46) (t:=31) (z:=.agg #[.string ⟨#[]⟩,Z X 0 0,O Y 0,O Y 0,O Y 0,O Y 0,O Y 0,O Y 0,O Y 0,O N 0]) (k:=10) (bytes:=104) (v:=Z va vn vc) (base:=b3+1) znt rfl (by decide) (by decide) Tryz.underlying31 rfl _ _ rfl rfl (cs:=cs) (Hown.out.ext hA) (ad:=⟨w7.heap.size,0,X⟩) (m:=1) (c:=1) rfl [(#[.string p.name,Z a7 n7 c7,O Y p.depth,O Y p.density,O Y p.gx,O Y p.gz,O Y p.way,O Y p.ax,O Y p.az,O N p.skin]:Array I).toList] rfl (by simp) (by exact zaE w7 #[.string p.name,Z a7 n7 c7,O Y p.depth,O Y p.density,O Y p.gx,O Y p.gz,O Y p.way,O Y p.ax,O Y p.az,O N p.skin] 46) (by simp [Value.oneCell']) (by omega) (by have:=hA.size;omega) ?_;intro v' w9 hown9 hgrow hlie;obtain⟨a9,n9,c9,rfl⟩:=hown9.form3;have Hlt9:=hd9 (fun j (h:(Value.slice va vn vc).ownBlock=J j)=>Hown.out.lt j h);refine kO hK (fun _=>CellL.grown h9H hgrow (fun q hq e=>?_)) (fun h9H=>?_)
   ·have h9:=(Hlt9.out _ e.symm).1
    simp at hq
    rcases hq with rfl|rfl|rfl|rfl|rfl|rfl|rfl|rfl|rfl|rfl|rfl|rfl<;>(dsimp only at h9;omega)
   clear hK K;have h9H:=h9H rfl;refine tu1 (i:=10) ?_;have hK9:=zac hgrow (hA.heapS Hbb.out) (fun e=>by have:=(Hlt9.out _ e.symm).1;omega);have n1:=qcB hK9 (i:=1) (u:=Z va vn vc) rfl;have nf:=qfB hK9
   have hkp:KeepT 42 wr w9:=fun x c f hx=>zac hgrow (hA.heapS hx) (fun e=>by
    have h8:=(Hown.out.ext hA).ne_blkD (hA.heapS hx) (by decide);exact h8 e.symm)
   have HK9:=hd9 hK9;have Hkp:=hd9 hkp;clear hK9 hkp;refine cu1 (i:=11) fun K hK=>?_
   go_simp;refine kO hK (fun h=>nomatch h) (fun h9H=>?_);clear hK K;refine doneHU (by kernel_rfl) ?_ _;go_wp2
   go_roundg (pn-(i+1))
   case measure=>have:=Hn.out;omega
   case rel =>
    have hkp2:KeepT 42 wr (w9.setCell ⟨b3,1,X⟩ (Z a9 n9 c9)):=Hkp.out.set (p:=⟨b3,1,X⟩) HK9.out (by decide) _;refine⟨i+1,Z a9 n9 c9,cs++[#[.string p.name,Z a7 n7 c7,O Y p.depth,O Y p.density,O Y p.gx,O Y p.gz,O Y p.way,O Y p.ax,O Y p.az,O N p.skin].toList],by rw [Hn.out];omega,by go_num,by rw [Hn.out],zaK (zau Hgb.out ((Below.mono hA hsz).trans (zad (base:=w4.heap.size) hgrow (nT hsz hA.size) (fun k hk=>by have:=(Hlt9.out k hk).1;omega)))) 1 _,zah HK9.out 1 _,hown9.setOther (fun e=>by have:=(hown9.lt _ e).1;dsimp only at this;omega) _,by simp [hcl],?_,?_⟩;rotate_left
    ·intro c hc
     rcases List.mem_append.1 hc with hc|hc
     ·exact HcA.out c hc
     ·rw [List.mem_singleton.1 hc]
      intro j hj;have h1:=ho7 j hj;simp only [qdZ]at h1;omega
    intro j c x hc hx
    by_cases hj:j<cs.length
    ·rw [List.getElem?_append_left hj]at hc
     exact(Hcp.out j c x hc hx).keep hkp2
    ·rw [List.getElem?_append_right (by omega)]at hc
     have hl:=(lS.1 hc).1;simp at hl;have hj0:j-cs.length=0:=by omega
     rw [hj0]at hc;have hji:j=i:=by omega
     subst hji;rw [Hq.out]at hx
     cases hx
     simp at hc;subst hc;refine⟨Z a7 n7 c7,rfl,?_,hsk⟩;have h1:IsPts (w7.alloc (M #[.string p.name,Z a7 n7 c7,O Y p.depth,O Y p.density,O Y p.gx,O Y p.gz,O Y p.way,O Y p.ax,O Y p.az,O N p.skin] 46)) (Z a7 n7 c7) p.shape:=hv7.ext' ((eR _).alloc _)
     have h2:KeepT 42 (w7.alloc (M #[.string p.name,Z a7 n7 c7,O Y p.depth,O Y p.density,O Y p.gx,O Y p.gz,O Y p.way,O Y p.ax,O Y p.az,O N p.skin] 46)) w9:=fun x c f hx=>zac hgrow hx (fun e=>by
      have h8:=(Hown.out.ext hA).ne_blkD hx (by decide);exact h8 e.symm)
     exact(h1.keep' h2).keep' ((KeepT.refl _ w9).set (p:=⟨b3,1,X⟩) HK9.out (by decide) _)
  ·obtain rfl:pn=i:=by omega
   have hb1:=(hgb.block (w.heap.size+1) (by omega) (by simp;omega)).trans HK1.out;have r0:=qcB hb1 (i:=0) (u:=Z X 0 0) rfl;have r1:=qcB hb1 (i:=1) (u:=Z X 0 0) rfl;have rf:=qfB hb1;have hvg:OwnC 42 2 wr (w.heap.size+1+1) (Z a3 n3 c3) (g.map pc):=(Hv4.out.keep (zaM hgb HB4.out (by decide))).mono (by simp only [wZ,qdZ];omega);have zr:=zab hb1;have hW9:KeepT 42 wr ((wr.setCell ⟨w.heap.size+1,0,X⟩ (Z a3 n3 c3)).setCell ⟨w.heap.size+1,1,X⟩ (Z va vn vc)):=((KeepT.refl _ wr).set (p:=⟨w.heap.size+1,0,X⟩) hb1 (by decide) _).set (p:=⟨w.heap.size+1,1,X⟩) (zah hb1 0 _) (by decide) _;have hX9:Ext w ((wr.setCell ⟨w.heap.size+1,0,X⟩ (Z a3 n3 c3)).setCell ⟨w.heap.size+1,1,X⟩ (Z va vn vc)):=(hXr.set (by dsimp only;omega) _).set (by dsimp only;omega) _;have hown9:=(((hown.setOther (p:=⟨w.heap.size+1,0,X⟩) (fun e=>by have:=(hown.lt _ e).1;dsimp only at this;omega) (Z a3 n3 c3)).setOther (p:=⟨w.heap.size+1,1,X⟩) (fun e=>by have:=(hown.lt _ e).1;dsimp only at this;omega) (Z va vn vc))).mono (b':=w.heap.size) (by omega);have hb9:=zah (zah hb1 0 (Z a3 n3 c3)) 1 (Z va vn vc);have Hown9:=hd9 hown9;have HW9:=hd9 hW9;have HX9:=hd9 hX9;have Hvg:=hd9 hvg;have Hcp:=hd9 hcp;have HcA:=hd9 hcA;clear hown9 hW9 hX9 hvg hcp hcA hown hgb hbx hbb hXr;go_wp2;refine bR (v:=.agg #[Z a3 n3 c3,Z va vn vc]) (by simp [results,Tryz.results10,go_sem,r0,r1,rf]) rfl ?_;rw [←HR.out];exact⟨_,_,b3,rfl,(Hvg.out.keep HW9.out).mono (by omega),fun j hj=>(Hv5.out j hj).2,⟨cs,Hown9.out,by rw [hcl,Hn.out],fun j c p hc hx=>(Hcp.out j c p hc hx).keep HW9.out,HcA.out⟩,HX9.out⟩
end
section
open Go.RowKit Go.Shelf Go.Maps Go.Sort Go.Lib
def undOk (ks:List (JS×I)) (z:Int):Bool:=decide (0≤z)&&ks.any fun x=>x.1.k==z
def undQ (ks:List (JS×I)) (bs:List Be) (q:Nat):List Int:=((bs.take q).map (·.num)).filter (undOk ks)
theorem zkY {ks:List (JS×I)} {bs:List Be} {q:Nat} {b:Be} (h:bs[q]?=J b):undQ ks bs (q+1)=undQ ks bs q++(if undOk ks b.num=true then [b.num]else []):=by
 unfold undQ;rw [zaa _ _ _ h,List.map_append,List.filter_append]
 congr 1
 by_cases h9:undOk ks b.num=true
 ·rw [if_pos h9];simp [h9]
 ·rw [if_neg h9];simp [h9]
def updA (f:Nat→List Int) (k:Nat) (L:List Int):Nat→List Int:=fun j=>if j=k then f k++L else f j
theorem zms (f:Nat→List Int) (k:Nat):updA f k []=f:=by
 funext j
 unfold updA
 split
 ·rename_i h;rw [h,List.append_nil]
 ·rfl
theorem zkZ (f:Nat→List Int) (k:Nat) (L:List Int) (z:Int):(fun j=>if j=k then updA f k L k++[z]else updA f k L j)=updA f k (L++[z]):=by
 funext j
 unfold updA
 by_cases h:j=k
 ·simp [h]
 ·simp [h]
def CrK (base B:Nat) (W0 W:V):Prop:=(W0.heap.size≤W.heap.size∧W.os=W0.os∧W.tape=W0.tape∧W.output=W0.output)∧∀b o,W0.heap[b]?=J o→b≠B→(b<base∨∀cs fr,o ≠ M cs 3 fr)→W.heap[b]?=J o
theorem CrK.refl (base B:Nat) (W:V):CrK base B W W:=⟨⟨nE _,rfl,rfl,rfl⟩,fun _ _ h _ _=>h⟩
theorem CrK.trans {base B:Nat} {W0 W1 W2:V} (h:CrK base B W0 W1) (k:CrK base B W1 W2):CrK base B W0 W2:=
 ⟨⟨nT h.1.1 k.1.1,k.1.2.1.trans h.1.2.1,k.1.2.2.1.trans h.1.2.2.1,k.1.2.2.2.trans h.1.2.2.2⟩,fun b o hb hB ho=>k.2 b o (h.2 b o hb hB ho) hB ho⟩
theorem CrK.ofExt {base B:Nat} {W0 W:V} (h:Ext W0 W):CrK base B W0 W:=⟨⟨h.size,h.os,h.tape,h.output⟩,fun _ _ hb _ _=>h.heapS hb⟩
theorem CrK.ofMap {base B:Nat} {W0 W:V} (h:W0.grownBy W (J B)):CrK base B W0 W:=⟨⟨h.size,h.os,h.tape,h.output⟩,fun b o hb hB _=>(h.block b (zab hb) (by simpa using hB)).trans hb⟩
theorem CrK.ofRow {base B:Nat} {W0 W:V} {v:I} {cs:List (List I)} (ho:OwnC 3 1 W0 base v cs) (h:W0.grownBy W v.ownBlock):CrK base B W0 W:=
 ⟨⟨h.size,h.os,h.tape,h.output⟩,fun b o hb hB hc=>(h.block b (zab hb) (fun e=>by
  rcases hc with hc|hc
  ·have:=(ho.lt b e.symm).1
   omega
  ·rcases ho.2.2 with ⟨h1,_⟩|⟨g,cap,cur,hv,_,hh,_⟩
   ·rw [h1]at e;cases e
   ·rw [hv]at e;cases e;rw [hb]at hh;cases hh;exact hc _ _ rfl)).trans hb⟩
theorem CrK.ext {base B:Nat} {w W0 W:V} (h:CrK base B W0 W) (k:Ext w W0) (hb:w.heap.size≤base) (hB:w.heap.size≤B):Ext w W:=
 ⟨h.1.2.1.trans k.os,h.1.2.2.1.trans k.tape,h.1.2.2.2.trans k.output,nT k.size h.1.1,fun i hi=>by
  have e:w.heap[i]?=J (w.heap[i]'hi):=Array.getElem?_eq_getElem hi;rw [e];exact h.2 i _ (k.heapS e) (by omega) (.inl (by omega))⟩
theorem CrK.keepT {base B:Nat} {W0 W:V} {T:TypeId} (h:CrK base B W0 W) (hT:T≠3) (hm:∀cs fr,W0.heap[B]?≠J (M cs T fr)):KeepT T W0 W:=fun b ds fr hb =>
 h.2 b _ hb (fun e=>by subst e;exact hm _ _ hb) (.inr fun cs fr' e=>by cases e;exact hT rfl)
theorem Gm.map {W:V} {base B n:Nat} {f:Nat→List Int} (h:Gm W base B n f):∃es clock,W.heap[B]?=J (.map es clock):=by
 obtain⟨D,⟨es,clock,h1,_⟩,_⟩:=h;exact⟨es,clock,h1⟩
theorem Gm.notCells {W:V} {base B n:Nat} {f:Nat→List Int} (h:Gm W base B n f) {T:TypeId}:∀cs fr,W.heap[B]?≠J (M cs T fr):=fun cs fr e=>by
 obtain⟨es,clock,h1⟩:=h.map;rw [h1]at e;cases e
theorem Gm.ext {W W':V} {base B n:Nat} {f:Nat→List Int} (h:Gm W base B n f) (k:Ext W W'):Gm W' base B n f:=
 h.keptLow (zau (zbk W X) (k.belowB (nE _))) (by simp) (fun j hj=>by cases hj)
def PBf (_:V) (c:List I) (b:Be):Prop:=∃a m c1 s a2 m2 c2 b1 n k t b2 n2 k2 a' m' c' s' a2' m2' c2' b' n' k' t' b2' n2' k2' e1 e2 e3 e4,c=[O Y b.num,Z a m c1,.bool s,Z a2 m2 c2,Z b1 n k,.bool t,Z b2 n2 k2,Z a' m' c',.bool s',Z a2' m2' c2',Z b' n' k',.bool t',Z b2' n2' k2',O Y e1,O Y e2,O Y e3,O Y e4]
abbrev IsBes (w:V) (v:I) (bs:List Be):Prop:=Sl 60 17 PBf w v bs
theorem OwnBe.bes {w:V} {base:Nat} {v:I} {bs:List Be} (h:OwnBe w base v bs):IsBes w v bs:=by
 obtain⟨cs,h1,h2,h3⟩:=h;refine OwnC.sl h1 h2 (fun i c x hc hx=>?_);obtain⟨a,m,c1,s,a2,m2,c2,b1,n,k,t,b2,n2,k2,a',m',c',s',a2',m2',c2',b',n',k',t',b2',n2',k2',e⟩:=(h3 i c x hc hx).form;exact⟨a,m,c1,s,a2,m2,c2,b1,n,k,t,b2,n2,k2,a',m',c',s',a2',m2',c2',b',n',k',t',b2',n2',k2',_,_,_,_,e⟩
end
end Go.Proofs.YteipgejmhfpkaaaGreatDoor.Cop
