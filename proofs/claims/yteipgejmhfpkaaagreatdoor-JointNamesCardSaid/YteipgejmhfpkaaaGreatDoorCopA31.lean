/- Part 32: contracts of what the law calls. -/
import Derived.Test.YteipgejmhfpkaaaGreatDoorCopA30
set_option maxRecDepth 1000000
set_option maxHeartbeats 16000000
set_option linter.unusedSimpArgs false
set_option linter.unusedVariables false
open Go.Value renaming slice→O,int→Z,bool→X,pointer→E
open Go.IntKind renaming i64→Y
open Option renaming some→V,none→I
open Go.Obj renaming cells→J
open Go renaming Value→M,World→C
namespace Go.Proofs.YteipgejmhfpkaaaGreatDoor.Cop
section
open Go.RowKit Go.Shelf Go.Maps Go.Sort Go.Lib
attribute [local go_sem] Oper.semAt_some
def CrI (W0:C) (base B N0 kk:Nat) (ks:List (JS×M)) (bs:List Be) (f:Nat→List Int) (gk:Nat) (t51:M) (W:C):Prop:=
 ∃q N:Nat,q≤bs.length∧t51=Z Y q∧gk=bs.length-q∧N≤N0+q∧CrK base B W0 W∧Gm W base B N (updA f kk (undQ ks bs q))
theorem zdW {W:C} {base:Nat} {v:M} {zs:List Int} (h:OwnC 3 1 W base v (zs.map ic)) (hz:∀z∈zs,(Lit.int Y z).wf=true):W.ownsInts base 3 Y v zs:=by
 have e:(zs.map ic).flatten=zs.map (Value.int Y):=by
  clear h hz
  induction zs with
  | nil=>rfl
  | cons z zs ih=>rw [List.map_cons,List.flatten_cons,ih];rfl
 refine⟨?_,hz⟩;have:=h.2;rw [e,lL]at this;exact this
theorem zjc {W0 wr w2 W9 w3 w4:C} {base B N0 N kk q:Nat} {ks:List (JS×M)} {bs:List Be} {f:Nat→List Int} {v:M} {cs:List (List M)} {nb:Int} (hq:q<bs.length) (hN:N≤N0+q) (hc0:CrK base B W0 wr) (X2:Ext wr w2) (X9:Ext w2 W9)
  (hO:OwnC 3 1 W9 base v cs) (hA:W9.grownBy w3 v.ownBlock) (hU:w3.grownBy w4 (V B)) (hs:undQ ks bs (q+1)=undQ ks bs q++[nb])
  (hg:Gm w4 base B (N+1) (fun j=>if j=kk then updA f kk (undQ ks bs q) kk++[nb]else updA f kk (undQ ks bs q) j)) :
  CrI W0 base B N0 kk ks bs f (bs.length-(q+1)) (Z Y (((q+1:Nat)):Int)) w4:=
 ⟨q+1,N+1,by omega,rfl,rfl,by omega,((hc0.trans (CrK.ofExt (X2.trans X9))).trans (CrK.ofRow hO hA)).trans (CrK.ofMap hU),by rw [hs,←zkZ];exact hg⟩
theorem zi9 (W0:C) (sb b5 b7 B base N0 kk:Nat) (r:Ru) (vg vp vs vj vr:M) (ks:List (JS×M)) (bs:List Be) (f:Nat→List Int) (cs7:Array M) (ba:Option Addr) (bn bc:Nat) (Q:Exit→Act→C→Prop) (x1 x2 x3 x4 x6 x8 x9 x10 x11 x12 x13 x14 x15 x16 x17 x18 x19 x20 x21 x22 x23 x24 x25 x26 x27 x28 x29 x30 x31 x32 x33 x34 x35 x36 x37 x38 x39 x40 x41 x42 x43 x44 x45 x46 x47 x48 x52 x53 x54 x55 x56 x57 x58 x59 x60 x61 x62 x63 x64 x65 x66 x67 x68 x69 x70 x71 x72 x73 x74 x75 x76 x77 x78 x79 x80 x81 x82 x83 x84 x85:M)
  (hS:W0.heap[sb]?=V (J (svc r vg vp vs vj vr) 113 (0,0))) (hks:IsJs W0 vs ks) (hkv:∀j∈ks,∃a n c,j.2=O a n c) (h5:W0.heap[b5]?=V (J #[.map (V B)] 140 (0,0)))
  (h7:W0.heap[b7]?=V (J cs7 127 (0,0))) (h7k:cs7[10]?=V (Z Y kk)) (hbs:IsBes W0 (O ba bn bc) bs) (hbl:bs.length≤121) (hG:Gm W0 base B N0 f) (hN0:N0≤100000) (hkk:kk<1000) (hbase:base≤W0.heap.size)
  (hz:∀b∈bs,-1≤b.num∧b.num≤1000)
  (hQp:∀(c:List PanicEntry) (a:Act) (d:Option Nat) (v:M) (w:C),Q (.panic c) (a.put d v) w→Q (.panic c) a w)
  (hQ:∀(y51 y11 y52 y53 y54 y55 y56 y57 y58 y59 y60 y61 y62 y63 y64 y65 y66 y67 y68 y69 y70 y71 y72 y73 y74 y75 y76 y77:M) (W:C) (N:Nat),CrK base B W0 W→Gm W base B N (updA f kk (undQ ks bs bs.length))→N≤N0+bs.length→Q (.exit 2) { tmps:=#[E (V ⟨sb,0,I⟩),x1,x2,x3,x4,E (V ⟨b5,0,I⟩),x6,E (V ⟨b7,0,I⟩),x8,x9,x10,y11,x12,x13,x14,x15,x16,x17,x18,x19,x20,x21,x22,x23,x24,x25,x26,x27,x28,x29,x30,x31,x32,x33,x34,x35,x36,x37,x38,x39,x40,x41,x42,x43,x44,x45,x46,x47,x48,O ba bn bc,Z Y bn,y51,y52,y53,y54,y55,y56,y57,y58,y59,y60,y61,y62,y63,y64,y65,y66,y67,y68,y69,y70,y71,y72,y73,y74,y75,y76,y77,x78,x79,x80,x81,x82,x83,x84,x85],defers:=[] } W) :
  (Code.loop (loopAt Tryz.f29 1)).wp Tryz.prog Q { tmps:=#[E (V ⟨sb,0,I⟩),x1,x2,x3,x4,E (V ⟨b5,0,I⟩),x6,E (V ⟨b7,0,I⟩),x8,x9,x10,x11,x12,x13,x14,x15,x16,x17,x18,x19,x20,x21,x22,x23,x24,x25,x26,x27,x28,x29,x30,x31,x32,x33,x34,x35,x36,x37,x38,x39,x40,x41,x42,x43,x44,x45,x46,x47,x48,O ba bn bc,Z Y bn,Z Y 0,x52,x53,x54,x55,x56,x57,x58,x59,x60,x61,x62,x63,x64,x65,x66,x67,x68,x69,x70,x71,x72,x73,x74,x75,x76,x77,x78,x79,x80,x81,x82,x83,x84,x85],defers:=[] } W0:=by
 have Hbn:=hd9 (show bn=bs.length from hbs.len);have hbnb:bn≤121:=by have:=Hbn.out;omega
 have HS:=hd9 hS;have Hks:=hd9 hks;have Hkv:=hd9 hkv;have H5:=hd9 h5;have H7:=hd9 h7;have Hbs:=hd9 hbs;have HG:=hd9 hG;have Hz:=hd9 hz;have HQ:=hd9 hQ;have HQp:=hd9 hQp;have hsl:=form3 hks;obtain⟨va,vn,vc,rfl⟩:=hsl
 have hns:B≠sb∧B≠b5∧B≠b7:=by
  obtain⟨es,clock,hm⟩:=hG.map;refine⟨fun e=>?_,fun e=>?_,fun e=>?_⟩<;>subst e
  ·rw [hS]at hm;cases hm
  ·rw [h5]at hm;cases hm
  ·rw [h7]at hm;cases hm
 clear hS hks hkv h5 h7 hbs hG hz hQ hbl hQp;unfold loopAt;simp only [Tryz.f29,loopsOf,List.append_nil,List.nil_append,List.singleton_append,List.cons_append,List.getD_cons_zero,List.getD_cons_succ]
 go_loopg [51] bn (CrI W0 base B N0 kk ks bs f)
 case atStart=>exact⟨0,N0,by omega,rfl,by rw [Hbn.out];rfl,by omega,CrK.refl _ _ _,by rw [show undQ ks bs 0=[]from rfl,zms];exact HG.out⟩
 case round =>
  obtain⟨q,N,hq,rfl,rfl,hN,hc0,hg⟩:=hrel;rw [←Hbn.out]at hq;have hS:=hc0.2 sb _ HS.out (Ne.symm hns.1) (.inr fun cs fr e=>by cases e);have h5:=hc0.2 b5 _ H5.out (Ne.symm hns.2.1) (.inr fun cs fr e=>by cases e);have h7:=hc0.2 b7 _ H7.out (Ne.symm hns.2.2) (.inr fun cs fr e=>by cases e);have hks:IsJs wr (O va vn vc) ks:=Hks.out.keep (hc0.keepT (by decide) HG.out.notCells);have hbs:IsBes wr (O ba bn bc) bs:=Sl.keep Hbs.out (fun _ _ h=>h) (hc0.keepT (by decide) HG.out.notCells);have hzw:=hc0.1.1
  by_cases hlt:q<bn
  ·obtain⟨be,hbe⟩:∃b,bs[q]?=V b:=⟨bs[q]'(by rw [←Hbn.out];exact hlt),gE _⟩
   obtain⟨bb,bo,dd,rfl,hbb,hdl,⟨a,m,c1,s,a2,m2,c2,b1,n,k,t,b2,n2,k2,a',m',c',s',a2',m2',c2',b',n',k',t',b2',n2',k2',e1,e2,e3,e4,hdd⟩,hc⟩:=hbs.at hbe;obtain⟨nb,hnb⟩:=gX be.num;have hzb:=Hz.out be (lM hbe);have hstep:=zkY (ks:=ks) hbe;rw [hnb]at hdd hzb hstep;subst hdd;have d0:=hc 0 (Z Y nb) rfl;have d1:=hc 1 (O a m c1) rfl;have d2:=hc 2 (X s) rfl;have d3:=hc 3 (O a2 m2 c2) rfl;have d4:=hc 4 (O b1 n k) rfl;have d5:=hc 5 (X t) rfl;have d6:=hc 6 (O b2 n2 k2) rfl;have d7:=hc 7 (O a' m' c') rfl;have d8:=hc 8 (X s') rfl;have d9:=hc 9 (O a2' m2' c2') rfl;have d10:=hc 10 (O b' n' k') rfl;have d11:=hc 11 (X t') rfl;have d12:=hc 12 (O b2' n2' k2') rfl;have d13:=hc 13 (Z Y e1) rfl;have d14:=hc 14 (Z Y e2) rfl;have d15:=hc 15 (Z Y e3) rfl;have d16:=hc 16 (Z Y e4) rfl;simp only [Nat.add_zero]at d0;have c9:=qcB hS (i:=9) (u:=O va vn vc) rfl;have c5:=qcB h5 (i:=0) (u:=.map (V B)) rfl;have c7:=qcB h7 (i:=10) (u:=Z Y kk) h7k;have zs:=zab hS;have z5:=zab h5;have z7:=zab h7;have zs1:sb<wr.heap.size+1:=by omega
   have z51:b5<wr.heap.size+1:=by omega
   have z71:b7<wr.heap.size+1:=by omega
   have hmf:∀(fn:Fn) (first cap:Array M) (w:C),(Instr.makeFunc fn first cap).run Tryz.prog w = .ok (.func fn first cap) w:=fun _ _ _ _=>rfl
   have Hg:=hd9 hg;have Hc0:=hd9 hc0;have Hst:=hd9 hstep;have HC:=hd9 (fun(W:C) (hW:Ext wr W) (hb:W.heap[wr.heap.size]?=V (J #[Z Y nb,O a m c1,X s,O a2 m2 c2,O b1 n k,X t,O b2 n2 k2,O a' m' c',X s',O a2' m2' c2',O b' n' k',X t',O b2' n2' k2',Z Y e1,Z Y e2,Z Y e3,Z Y e4] 60 (0,0)))=>zjf W (O va vn vc) ks wr.heap.size (fun x=>x.k==nb) (hks.ext' hW) (fun W' hW' j hj=>zlu W' j wr.heap.size nb #[Z Y nb,O a m c1,X s,O a2 m2 c2,O b1 n k,X t,O b2 n2 k2,O a' m' c',X s',O a2' m2' c2',O b' n' k',X t',O b2' n2' k2',Z Y e1,Z Y e2,Z Y e3,Z Y e4] (Hkv.out j hj) (hW'.heapS hb) rfl));have H5r:=hd9 h5;have H7r:=hd9 h7;clear hbe hc hS h5 h7 hks hbs hg hstep hdl hc0
   by_cases hn0:0≤nb
   ·cases hany:ks.any (fun x=>x.1.k==nb)with
    | true =>
     have hok:undOk ks nb=true:=by unfold undOk;rw [hany];simp [hn0]
     rw [hany]at HC
     go_wp2_with(go_at_call 57;(with_reducible refine(HC.out _ ((eR wr).alloc _) (aN _ _)).mono ?_);rintro e w2 ⟨rfl,hx2⟩)
     have X2:=((eR wr).alloc (J #[Z Y nb,O a m c1,X s,O a2 m2 c2,O b1 n k,X t,O b2 n2 k2,O a' m' c',X s',O a2' m2' c2',O b' n' k',X t',O b2' n2' k2',Z Y e1,Z Y e2,Z Y e3,Z Y e4] 60)).trans hx2;have h52:=X2.heapS H5r.out;have h72:=X2.heapS H7r.out;have h112:=hx2.heapS (aN wr (J #[Z Y nb,O a m c1,X s,O a2 m2 c2,O b1 n k,X t,O b2 n2 k2,O a' m' c',X s',O a2' m2' c2',O b' n' k',X t',O b2' n2' k2',Z Y e1,Z Y e2,Z Y e3,Z Y e4] 60));have HG2:=Hg.out.ext X2;have hbs2:base≤w2.heap.size:=by have:=X2.size;omega
     obtain⟨b11,hb11⟩:=gX wr.heap.size;rw [hb11]at h112;simp only [hb11];have e5:=qcB h52 (i:=0) (u:=.map (V B)) rfl;have e7:=qcB h72 (i:=10) (u:=Z Y kk) h7k;have e11:=qcB h112 (i:=0) (u:=Z Y nb) rfl
     have hnB11:B≠b11:=by
      intro e;subst e;exact HG2.notCells _ _ h112
     have D9:Ext w2 (w2.alloc (J #[Z Y nb] 3)).drew:=((eR w2).alloc _).drew;have h59:=D9.heapS h52;have h79:=D9.heapS h72;have h119:=D9.heapS h112;have hbs9:base≤(w2.alloc (J #[Z Y nb] 3)).drew.heap.size:=nT hbs2 D9.size;clear c9 c5 c7 d0 d1 d2 d3 d4 d5 d6 d7 d8 d9 d10 d11 d12 d13 d14 d15 d16 hx2 hb11 h52 h72 h112;go_wp2;refine wp_region_held_drew (S:=CellL [(⟨b5,0,I⟩,.map (V B)),(⟨b7,10,I⟩,Z Y kk),(⟨b11,0,I⟩,Z Y nb)]) (by kernel_rfl) cA (fun h9H=>?_);refine sN 0 ?_
     iterate 6
      refine tkn (h4:=fun _ _ _ h=>HQp.out _ _ _ _ _ h) ?_
     refine oN ?_;refine sN 7 ?_
     iterate 2
      refine tkn (h4:=fun _ _ _ h=>HQp.out _ _ _ _ _ h) ?_
     refine oN ?_;refine call2 (i:=6) (j:=9) (fun K hK=>?h1f) (fun K hK=>?h2f)
     case h1f =>
      obtain⟨v,hrun,hoi,hzl,hback⟩:=(HG2.ext (eR w2).drew).at (by unfold maxLen;omega) hkk;go_simp;refine kO hK h9H (fun h9H=>?_);clear hK K;refine cl1 (i:=9) fun K hK=>?_
      go_simp;refine kO hK (cE h9H ((eR _).alloc _)) (fun h9H=>?_);clear hK K;have hX:=((eR w2.drew).alloc (J #[Z Y nb] 3));have hO:=(zaH hoi).ext (w':=(w2.alloc (J #[Z Y nb] 3)).drew) hX;have hne5:=(hO).ne_blkD h59 (by decide);have hne7:=(hO).ne_blkD h79 (by decide);have hne11:=(hO).ne_blkD h119 (by decide)
      have hS10:∀q∈[((⟨b5,0,I⟩:Addr),Value.map (V B)),(⟨b7,10,I⟩,Z Y kk),(⟨b11,0,I⟩,Z Y nb)],V q.1.block≠v.ownBlock:=by
       intro q hq e;simp at hq
       rcases hq with rfl|rfl|rfl
       ·exact hne5 e.symm
       ·exact hne7 e.symm
       ·exact hne11 e.symm
      have hS11:∀q∈[((⟨b5,0,I⟩:Addr),Value.map (V B)),(⟨b7,10,I⟩,Z Y kk),(⟨b11,0,I⟩,Z Y nb)],V q.1.block≠V B:=by
       intro q hq e;simp at hq
       rcases hq with rfl|rfl|rfl
       ·exact hns.2.1 (by simpa using e.symm)
       ·exact hns.2.2 (by simpa using e.symm)
       ·exact hnB11 (by simpa using e.symm)
      refine cl1 (i:=10) fun K hK=>?_
      refine zbl (T:=3) (t:=36) (z:=Z Y 0) (k:=1) (bytes:=8) (v:=v) (base:=base) zcO rfl (by decide) (by decide) Tryz.underlying36 rfl _ _ rfl rfl (hO) (ad:=⟨w2.heap.size,0,I⟩) (m:=1) (c:=1) rfl [ic nb] rfl (by simp [ic]) (fun j u hj=>zgu w2 nb 3 j u hj) (zgl nb) (by rw [lL];omega) hbs9 ?_;intro v' w3 hownA hgrowA hlieA;refine kO hK (CellL.grown h9H hgrowA hS10) (fun h9H=>?_);clear hK K;rw [←show ∀(zs:List Int),(zs++[nb]).map ic=zs.map ic++[ic nb]from fun zs=>by simp]at hownA;obtain⟨w4,hrunU,hGm,hgrowU⟩:=hback w3 v' nb ((zau (zbk w2.drew v.ownBlock) (hX.belowB (nE _))).trans hgrowA) (zdW hownA (fun z hz=>by rcases List.mem_append.1 hz with h|h;exact hoi.2 z h;rw [List.mem_singleton.1 h];exact WalkArith.wf_i64 (by omega))) (hlieA.imp id (fun h=>⟨_,h,hX.size⟩));refine cl1 (i:=11) fun K hK=>?_
      go_simp;refine kO hK (CellL.grown h9H hgrowU hS11) (fun h9H=>?_);clear hK K;refine wpAnyH_done (by kernel_rfl) ?_ _;have HR1:=hd9 (zjc (by rw [←Hbn.out];exact hlt) hN Hc0.out X2 ((eR w2).alloc _).drew (hO) hgrowA hgrowU (by rw [Hst.out,if_pos hok]) hGm);clear h9H hrunU hgrowA hgrowU hGm hownA;go_wp2
      go_roundg (bn-(q+1))
      case measure=>have:=Hbn.out;omega
      case rel =>
       obtain⟨q9,N9,h1,h2,h3⟩:=HR1.out;exact⟨q9,N9,h1,by rw [←h2];go_num,by rw [Hbn.out];exact h3⟩
     case h2f =>
      obtain⟨v,hrun,hoi,hzl,hback⟩:=(HG2.ext D9).at (by unfold maxLen;omega) hkk;go_simp;refine kO hK (cE h9H ((eR _).alloc _)) (fun h9H=>?_);clear hK K;refine cl1 (i:=6) fun K hK=>?_
      go_simp;refine kO hK h9H (fun h9H=>?_);clear hK K;have hO:=zaH hoi;have hne5:=(hO).ne_blkD h59 (by decide);have hne7:=(hO).ne_blkD h79 (by decide);have hne11:=(hO).ne_blkD h119 (by decide)
      have hS10:∀q∈[((⟨b5,0,I⟩:Addr),Value.map (V B)),(⟨b7,10,I⟩,Z Y kk),(⟨b11,0,I⟩,Z Y nb)],V q.1.block≠v.ownBlock:=by
       intro q hq e;simp at hq
       rcases hq with rfl|rfl|rfl
       ·exact hne5 e.symm
       ·exact hne7 e.symm
       ·exact hne11 e.symm
      have hS11:∀q∈[((⟨b5,0,I⟩:Addr),Value.map (V B)),(⟨b7,10,I⟩,Z Y kk),(⟨b11,0,I⟩,Z Y nb)],V q.1.block≠V B:=by
       intro q hq e;simp at hq
       rcases hq with rfl|rfl|rfl
       ·exact hns.2.1 (by simpa using e.symm)
       ·exact hns.2.2 (by simpa using e.symm)
       ·exact hnB11 (by simpa using e.symm)
      refine cl1 (i:=10) fun K hK=>?_
      refine zbl (T:=3) (t:=36) (z:=Z Y 0) (k:=1) (bytes:=8) (v:=v) (base:=base) zcO rfl (by decide) (by decide) Tryz.underlying36 rfl _ _ rfl rfl (hO) (ad:=⟨w2.heap.size,0,I⟩) (m:=1) (c:=1) rfl [ic nb] rfl (by simp [ic]) (fun j u hj=>zgu w2 nb 3 j u hj) (zgl nb) (by rw [lL];omega) hbs9 ?_;intro v' w3 hownA hgrowA hlieA;refine kO hK (CellL.grown h9H hgrowA hS10) (fun h9H=>?_);clear hK K;rw [←show ∀(zs:List Int),(zs++[nb]).map ic=zs.map ic++[ic nb]from fun zs=>by simp]at hownA;obtain⟨w4,hrunU,hGm,hgrowU⟩:=hback w3 v' nb (hgrowA) (zdW hownA (fun z hz=>by rcases List.mem_append.1 hz with h|h;exact hoi.2 z h;rw [List.mem_singleton.1 h];exact WalkArith.wf_i64 (by omega))) (hlieA.imp id (fun h=>⟨_,h,nE _⟩));refine cl1 (i:=11) fun K hK=>?_
      go_simp;refine kO hK (CellL.grown h9H hgrowU hS11) (fun h9H=>?_);clear hK K;refine wpAnyH_done (by kernel_rfl) ?_ _;have HR1:=hd9 (zjc (by rw [←Hbn.out];exact hlt) hN Hc0.out X2 ((eR w2).alloc _).drew (hO) hgrowA hgrowU (by rw [Hst.out,if_pos hok]) hGm);clear h9H hrunU hgrowA hgrowU hGm hownA;go_wp2
      go_roundg (bn-(q+1))
      case measure=>have:=Hbn.out;omega
      case rel =>
       obtain⟨q9,N9,h1,h2,h3⟩:=HR1.out;exact⟨q9,N9,h1,by rw [←h2];go_num,by rw [Hbn.out];exact h3⟩
    | false =>
     have hok:¬undOk ks nb=true:=by unfold undOk;rw [hany];simp
     rw [hany]at HC
     go_wp2_with(go_at_call 57;(with_reducible refine(HC.out _ ((eR wr).alloc _) (aN _ _)).mono ?_);rintro e w2 ⟨rfl,hx2⟩)
     go_roundg (bn-(q+1))
     case measure=>have:=Hbn.out;omega
     case rel =>
      have X2:=((eR wr).alloc (J #[Z Y nb,O a m c1,X s,O a2 m2 c2,O b1 n k,X t,O b2 n2 k2,O a' m' c',X s',O a2' m2' c2',O b' n' k',X t',O b2' n2' k2',Z Y e1,Z Y e2,Z Y e3,Z Y e4] 60)).trans hx2;refine⟨q+1,N,by rw [←Hbn.out];omega,by go_num,by rw [←Hbn.out],by omega,Hc0.out.trans (CrK.ofExt X2),?_⟩;rw [Hst.out,if_neg hok,List.append_nil];exact Hg.out.ext X2
   ·have hok:¬undOk ks nb=true:=by unfold undOk;simp [hn0]
    go_wp2
    go_roundg (bn-(q+1))
    case measure=>have:=Hbn.out;omega
    case rel =>
     have X2:=(eR wr).alloc (J #[Z Y nb,O a m c1,X s,O a2 m2 c2,O b1 n k,X t,O b2 n2 k2,O a' m' c',X s',O a2' m2' c2',O b' n' k',X t',O b2' n2' k2',Z Y e1,Z Y e2,Z Y e3,Z Y e4] 60);refine⟨q+1,N,by rw [←Hbn.out];omega,by go_num,by rw [←Hbn.out],by omega,Hc0.out.trans (CrK.ofExt X2),?_⟩;rw [Hst.out,if_neg hok,List.append_nil];exact Hg.out.ext X2
  ·obtain rfl:q=bn:=by omega
   have hgE:Gm wr base B N (updA f kk (undQ ks bs bs.length)):=by rw [←Hbn.out];exact hg
   have HgE:=hd9 hgE;have Hc0:=hd9 hc0;clear hg hc0 hS h5 h7 hks hbs hgE;go_wp2;exact HQ.out _ _ _ _ _ _ _ _ _ _ _ _ _ _ _ _ _ _ _ _ _ _ _ _ _ _ _ _ wr N Hc0.out HgE.out (by rw [←Hbn.out];exact hN)
end
end Go.Proofs.YteipgejmhfpkaaaGreatDoor.Cop
