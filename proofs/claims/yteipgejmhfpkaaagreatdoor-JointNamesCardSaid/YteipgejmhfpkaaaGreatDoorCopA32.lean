/- Part 33: contracts of what the law calls. -/
import Derived.Test.YteipgejmhfpkaaaGreatDoorCopA31
import Derived.Test.YteipgejmhfpkaaaGreatDoorCopA30
import Derived.Test.YteipgejmhfpkaaaGreatDoorCopA13
import Derived.Test.YteipgejmhfpkaaaGreatDoorCopA23
import Derived.Test.YteipgejmhfpkaaaGreatDoorCopA00
set_option maxRecDepth 1000000
set_option maxHeartbeats 16000000
set_option linter.unusedSimpArgs false
set_option linter.unusedVariables false
open Go.Value renaming int→O,slice→I,pointer→F
open Go.IntKind renaming i64→V
open Go renaming Value→J,World→C
open Option renaming some→E,none→G
namespace Go.Proofs.YteipgejmhfpkaaaGreatDoor.Cop
section
open Go.RowKit Go.Shelf Go.Maps Go.Sort Go.Lib
attribute [local go_sem] Oper.semAt_some
def keyAt (ks:List (JS×J)) (m:Nat):Nat:=match ks[m]? with|some x=>x.1.k.toNat|none=>0
def fM (ks:List (JS×J)) (bsf:Nat→List Be):Nat→Nat→List Int
 | 0=>fun _=>[]
 | m+1=>updA (fM ks bsf m) (keyAt ks m) (undQ ks (bsf (keyAt ks m)) (bsf (keyAt ks m)).length)
def CrO (W4:C) (base B:Nat) (ks:List (JS×J)) (bsf:Nat→List Be) (gk:Nat) (t30:J) (W:C):Prop:=
 ∃m N:Nat,m≤ks.length∧t30=O V m∧gk=ks.length-m∧N≤121*m∧CrK base B W4 W∧Gm W base B N (fM ks bsf m)
theorem zja (W4:C) (sb b5 B base:Nat) (r:Ru) (vg vp vs vj vr:J) (ks:List (JS×J)) (bsf:Nat→List Be) (va:Option Addr) (vn vc:Nat) (Q:Exit→Act→C→Prop) (x1 x2 x3 x4 x6 x7 x8 x9 x10 x11 x12 x13 x14 x15 x16 x17 x18 x19 x20 x21 x22 x23 x24 x25 x26 x27 x31 x32 x33 x34 x35 x36 x37 x38 x39 x40 x41 x42 x43 x44 x45 x46 x47 x48 x49 x50 x51 x52 x53 x54 x55 x56 x57 x58 x59 x60 x61 x62 x63 x64 x65 x66 x67 x68 x69 x70 x71 x72 x73 x74 x75 x76 x77 x78 x79 x80 x81 x82 x83 x84 x85:J)
  (hvs:vs=I va vn vc) (hvg:∃a n c,vg=I a n c) (hvp:∃a n c,vp=I a n c)
  (hS:W4.heap[sb]?=E (.cells (svc r vg vp vs vj vr) 113 (0,0))) (hks:IsJs W4 vs ks) (hkv:∀j∈ks,∃a n c,j.2=I a n c) (h5:W4.heap[b5]?=E (.cells #[.map (E B)] 140 (0,0)))
  (hG:Gm W4 base B 0 (fun _=>[])) (hbase:base≤W4.heap.size) (hnk:ks.length≤120) (hkb:∀x∈ks,∃k:Nat,x.1.k=k∧k<1000)
  (hbl:∀k,(bsf k).length≤121) (hbz:∀k,∀b∈bsf k,-1≤b.num∧b.num≤1000)
  (hBd:∀W,CrK base B W4 W→∀k:Nat,(∃x∈ks,x.1.k=k)→Calls Tryz.prog 12 #[.agg #[vg,vp],O V k,O V r.pin] W (RetBs W (bsf k)))
  (hQp:∀(c:List PanicEntry) (a:Act) (d:Option Nat) (v:J) (w:C),Q (.panic c) (a.put d v) w→Q (.panic c) a w)
  (hQ:∀(y30 y7 y8 y9 y11 y31 y32 y33 y34 y35 y36 y37 y38 y39 y40 y41 y42 y43 y44 y45 y46 y47 y48 y49 y50 y51 y52 y53 y54 y55 y56 y57 y58 y59 y60 y61 y62 y63 y64 y65 y66 y67 y68 y69 y70 y71 y72 y73 y74 y75 y76 y77 y78:J) (W:C) (N:Nat),CrK base B W4 W→Gm W base B N (fM ks bsf ks.length)→N≤121*ks.length→Q (.exit 0) { tmps:=#[F (E ⟨sb,0,G⟩),x1,x2,x3,x4,F (E ⟨b5,0,G⟩),x6,y7,y8,y9,x10,y11,x12,x13,x14,x15,x16,x17,x18,x19,x20,x21,x22,x23,x24,x25,x26,x27,I va vn vc,O V vn,y30,y31,y32,y33,y34,y35,y36,y37,y38,y39,y40,y41,y42,y43,y44,y45,y46,y47,y48,y49,y50,y51,y52,y53,y54,y55,y56,y57,y58,y59,y60,y61,y62,y63,y64,y65,y66,y67,y68,y69,y70,y71,y72,y73,y74,y75,y76,y77,y78,x79,x80,x81,x82,x83,x84,x85],defers:=[] } W) :
  (Code.loop (loopAt Tryz.f29 0)).wp Tryz.prog Q { tmps:=#[F (E ⟨sb,0,G⟩),x1,x2,x3,x4,F (E ⟨b5,0,G⟩),x6,x7,x8,x9,x10,x11,x12,x13,x14,x15,x16,x17,x18,x19,x20,x21,x22,x23,x24,x25,x26,x27,I va vn vc,O V vn,O V 0,x31,x32,x33,x34,x35,x36,x37,x38,x39,x40,x41,x42,x43,x44,x45,x46,x47,x48,x49,x50,x51,x52,x53,x54,x55,x56,x57,x58,x59,x60,x61,x62,x63,x64,x65,x66,x67,x68,x69,x70,x71,x72,x73,x74,x75,x76,x77,x78,x79,x80,x81,x82,x83,x84,x85],defers:=[] } W4:=by
 subst hvs;have Hvn:=hd9 (show vn=ks.length from hks.len);have hvnb:vn≤120:=by have:=Hvn.out;omega
 obtain⟨ga,gn,gc,rfl⟩:=hvg;obtain⟨pa,pn,pc1,rfl⟩:=hvp;have HS:=hd9 hS;have Hks:=hd9 hks;have Hkv:=hd9 hkv;have H5:=hd9 h5;have HG:=hd9 hG;have Hbl:=hd9 hbl;have Hbz:=hd9 hbz;have HBd:=hd9 hBd;have HQ:=hd9 hQ;have HQp:=hd9 hQp;have Hkb:=hd9 hkb
 have hns:B≠sb∧B≠b5:=by
  obtain⟨es,clock,hm⟩:=hG.map;refine⟨fun e=>?_,fun e=>?_⟩<;>subst e
  ·rw [hS]at hm;cases hm
  ·rw [h5]at hm;cases hm
 clear hS hks hkv h5 hG hbl hbz hBd hQ hQp hkb hnk;unfold loopAt;simp only [Tryz.f29,loopsOf,List.append_nil,List.nil_append,List.singleton_append,List.cons_append,List.getD_cons_zero,List.getD_cons_succ]
 go_loopg [30] vn (CrO W4 base B ks bsf)
 case atStart=>exact⟨0,0,by omega,rfl,by rw [Hvn.out];rfl,by omega,CrK.refl _ _ _,HG.out⟩
 case round =>
  obtain⟨m,N,hm,rfl,rfl,hN,hc0,hg⟩:=hrel;rw [←Hvn.out]at hm
  by_cases hlt:m<vn
  ·have hS:=hc0.2 sb _ HS.out (Ne.symm hns.1) (.inr fun cs fr e=>by cases e)
   have h5:=hc0.2 b5 _ H5.out (Ne.symm hns.2) (.inr fun cs fr e=>by cases e);have hks:IsJs wr (I va vn vc) ks:=Hks.out.keep (hc0.keepT (by decide) HG.out.notCells);have hzw:=hc0.1.1;obtain⟨x,hx⟩:∃x,ks[m]?=E x:=⟨ks[m]'(by rw [←Hvn.out];exact hlt),gE _⟩;have hxm:=lM hx;obtain⟨sa,sn,sc,hxv⟩:=Hkv.out x hxm;obtain⟨kk,hkk,hkl⟩:=Hkb.out x hxm;have hkey:keyAt ks m=kk:=by unfold keyAt;rw [hx];simp [hkk]
   have hBk:=HBd.out;obtain⟨bb,bo,rfl,hbb,hc⟩:=hks.at' hx;obtain⟨⟨⟨nm,sh,d,de,gx,gz,wy,ax,az,sk⟩,k0,⟨xl,xh⟩,zl,zh⟩,v⟩:=x;dsimp only at hkk hxv;subst hkk hxv;unfold jca at hc;dsimp only at hc;have d0:=hc 0 (.string nm) rfl;have d1:=hc 1 (I sa sn sc) rfl;have d2:=hc 2 (O V d) rfl;have d3:=hc 3 (O V de) rfl;have d4:=hc 4 (O V gx) rfl;have d5:=hc 5 (O V gz) rfl;have d6:=hc 6 (O V wy) rfl;have d7:=hc 7 (O V ax) rfl;have d8:=hc 8 (O V az) rfl;have d9:=hc 9 (O .u8 sk) rfl;have d10:=hc 10 (O V (kk:Int)) rfl;have d11:=hc 11 (O V xl) rfl;have d12:=hc 12 (O V xh) rfl;have d13:=hc 13 (O V zl) rfl;have d14:=hc 14 (O V zh) rfl;simp only [Nat.add_zero]at d0;have e1:=qcB hS (i:=1) (u:=O V r.pin) rfl;have e7:=qcB hS (i:=7) (u:=I ga gn gc) rfl;have e8:=qcB hS (i:=8) (u:=I pa pn pc1) rfl;have zs:=zab hS;have zs1:sb<wr.heap.size+1:=by omega
   have Hg:=hd9 hg;have Hc0:=hd9 hc0;have HBi:=hd9 (fun(W:C) (hW:Ext wr W)=>HBd.out W (hc0.trans (CrK.ofExt hW)) kk ⟨_,hxm,rfl⟩);have HSr:=hd9 hS;have H5r:=hd9 h5;have Hksr:=hd9 hks;have Hbk:=hd9 (Hbl.out kk);have Hbzk:=hd9 (Hbz.out kk);have Hst:=hd9 (show fM ks bsf (m+1)=updA (fM ks bsf m) kk (undQ ks (bsf kk) (bsf kk).length) by show updA _ _ _=_;rw [hkey]);clear hx hxm hc hS h5 hks hg hc0 hkey hBk;go_wp2;refine wp_region_held_drew (S:=CellL [(⟨sb,7,G⟩,I ga gn gc),(⟨sb,8,G⟩,I pa pn pc1),(⟨wr.heap.size,10,G⟩,O V (kk:Int)),(⟨sb,1,G⟩,O V r.pin)]) (by kernel_rfl) cA (fun h9H=>?_);refine sN 0 ?_
   iterate 11
    refine tkn (h4:=fun _ _ _ h=>HQp.out _ _ _ _ _ h) ?_
   refine oN ?_;refine cl1 (i:=11) fun K hK=>?_
   go_simp
   (with_reducible refine cM (HBi.out _ ((eR wr).alloc _).drew) ?_)
   rintro e w2 ⟨v8,rfl,hob,hx2⟩;obtain⟨ba,bn,bc,rfl⟩:=hob.form3
   go_wp2_with fail
   refine kO hK (cE h9H hx2) (fun h9H=>?_);clear hK K;refine sN 12 ?_
   iterate 5
    refine tkn (h4:=fun _ _ _ h=>HQp.out _ _ _ _ _ h) ?_
   refine oN ?_;refine wpAnyH_done (by kernel_rfl) ?_ _;have X2:Ext wr w2:=((eR wr).alloc _).drew.trans hx2;have h72:=hx2.heapS (((eR _).drew).heapS (aN wr (.cells #[.string nm,I sa sn sc,O V d,O V de,O V gx,O V gz,O V wy,O V ax,O V az,O .u8 sk,O V (kk:Int),O V xl,O V xh,O V zl,O V zh] 127)));have hbes:=hob.bes;have Hin:=hd9 hbes;have H72:=hd9 h72;have HX2:=hd9 X2;have hbs2:base≤w2.heap.size:=by have:=X2.size;omega
   clear h9H hob hx2 X2 h72 hbes d0 d1 d2 d3 d4 d5 d6 d7 d8 d9 d10 d11 d12 d13 d14 e1 e7 e8 HBi;go_wp2;refine zi9 w2 sb b5 wr.heap.size B base N kk r (I ga gn gc) (I pa pn pc1) (I (E ⟨bb,bo,G⟩) vn vc) vj vr ks (bsf kk) (fM ks bsf m) #[.string nm,I sa sn sc,O V d,O V de,O V gx,O V gz,O V wy,O V ax,O V az,O .u8 sk,O V (kk:Int),O V xl,O V xh,O V zl,O V zh] ba bn bc _ _ _ _ _ _ _ _ _ _ _ _ _ _ _ _ _ _ _ _ _ _ _ _ _ _ _ _ _ _ _ _ _ _ _ _ _ _ _ _ _ _ _ _ _ _ _ _ _ _ _ _ _ _ _ _ _ _ _ _ _ _ _ _ _ _ _ _ _ _ _ _ _ _ _ _ _ _ _ _ _ (HX2.out.heapS HSr.out) (Hksr.out.ext' HX2.out) Hkv.out (HX2.out.heapS H5r.out) H72.out rfl Hin.out Hbk.out (Hg.out.ext HX2.out) (by omega) hkl hbs2 Hbzk.out (fun c a d v w h=>HQp.out c a d v w h) ?_;intro i51 i11 i52 i53 i54 i55 i56 i57 i58 i59 i60 i61 i62 i63 i64 i65 i66 i67 i68 i69 i70 i71 i72 i73 i74 i75 i76 i77 W N' hcI hgI hN';have HcI:=hd9 hcI;have HgI:=hd9 hgI;clear hcI hgI;go_wp2
   go_roundg (vn-(m+1))
   case measure=>have:=Hvn.out;omega
   case rel =>
    refine⟨m+1,N',by rw [←Hvn.out];omega,by go_num,by rw [←Hvn.out],by have:=Hbk.out;omega,(Hc0.out.trans (CrK.ofExt HX2.out)).trans HcI.out,?_⟩;rw [Hst.out];exact HgI.out
  ·obtain rfl:m=vn:=by omega
   have hgE:Gm wr base B N (fM ks bsf ks.length):=by rw [←Hvn.out];exact hg
   have HgE:=hd9 hgE;have Hc0:=hd9 hc0;clear hg hc0 hgE;go_wp2;exact HQ.out _ _ _ _ _ _ _ _ _ _ _ _ _ _ _ _ _ _ _ _ _ _ _ _ _ _ _ _ _ _ _ _ _ _ _ _ _ _ _ _ _ _ _ _ _ _ _ _ _ _ _ _ _ wr N Hc0.out HgE.out (by rw [←Hvn.out];exact hN)
def outC (n:Nat) (und:Nat→List Int) (ks:List (JS×J)):Nat→List Int
 | 0=>List.replicate n 0
 | m+1=>(outC n und ks m).set (keyAt ks m) (topC (outC n und ks m) (und (keyAt ks m))+1)
structure Pass1 (n:Nat) (und:Nat→List Int) (ks:List (JS×J)):Prop where
 known:∀m,m<ks.length→∀z∈und (keyAt ks m),0≤z∧z<n∧(outC n und ks m).getD z.toNat 0≠0
 fresh:∀m,m<ks.length→(outC n und ks m).getD (keyAt ks m) 0=0
 bound:∀m,m≤ks.length→∀v∈outC n und ks m,0≤v∧v≤1000
def StC (w:C) (b3 b5 B base N go gl n:Nat) (und:Nat→List Int) (ks:List (JS×J)) (vl:J) (m:Nat) (W:C):Prop:=
 Ext w W∧W.heap[b3]?=E (.cells #[I (E ⟨go,0,G⟩) n n] 36 (0,0))∧W.heap[b5]?=E (.cells #[.map (E B)] 140 (0,0))∧Gm W base B N und ∧
  OwnC 3 1 W w.heap.size (I (E ⟨go,0,G⟩) n n) ((outC n und ks m).map ic)∧OwnC 127 15 W gl vl (ks.map jc)
theorem StC.ext {w:C} {b3 b5 B base N go gl n:Nat} {und:Nat→List Int} {ks:List (JS×J)} {vl:J} {m:Nat} {W W':C} (h:StC w b3 b5 B base N go gl n und ks vl m W) (k:Ext W W'):StC w b3 b5 B base N go gl n und ks vl m W':=
 ⟨h.1.trans k,k.heapS h.2.1,k.heapS h.2.2.1,h.2.2.2.1.ext k,h.2.2.2.2.1.ext k,h.2.2.2.2.2.ext k⟩
theorem StC.step {w:C} {b3 b5 B base N go gl n:Nat} {und:Nat→List Int} {ks:List (JS×J)} {vl:J} {m:Nat} {W:C} (h:StC w b3 b5 B base N go gl n und ks vl m W) (hP:Pass1 n und ks) (hm:m<ks.length) {x:JS×J} (hx:ks[m]?=E x) (hv:∃a n c,x.2=I a n c) {k:Nat} (hk:x.1.k=k) (hkn:k<n) (hn:n≤120)
  (hN:N<1000000) (hgo:w.heap.size≤go∧go<base∧B≠go∧b3≠go∧b5≠go∧go<gl) :
  Calls Tryz.prog 59 #[.agg (jca x),F (E ⟨b5,0,G⟩),F (E ⟨b3,0,G⟩)] W fun e w'=>e = .returned (.bool true)∧StC w b3 b5 B base N go gl n und ks vl (m+1) w':=by
 obtain⟨h1,h2,h3,h4,h5,h6⟩:=h;have hkey:keyAt ks m=k:=by unfold keyAt;rw [hx];simp [hk]
 have hf:=hP.known m hm;have h0:=hP.fresh m hm;rw [hkey]at hf h0;refine(zhr W x b5 b3 B base w.heap.size N go n und (outC n und ks m) k hk hv h3 h2 h4 hN h5 hgo.2.1 hgo.2.2.1 hkn hn (hP.bound m (by omega)) h0 hf ⟨hgo.2.2.2.2.1,hgo.2.2.2.1⟩).mono ?_;rintro e w' ⟨rfl,hg,ho⟩;refine⟨rfl,?_,(hg.block b3 (zab h2) (by simpa using hgo.2.2.2.1)).trans h2,(hg.block b5 (zab h3) (by simpa using hgo.2.2.2.2.1)).trans h3,h4.keptLow hg (by simpa using hgo.2.2.1) (fun j hj=>by cases hj;exact hgo.2.1),?_,⟨h6.1,h6.2.kept hg ?_⟩⟩
 ·exact zdh h1 hg hgo.1
 ·rw [outC,hkey];exact ho
 ·by_cases h9:vl.ownBlock=G
  ·exact .inl h9
  ·right
   intro e;have:=(h6.lt go e).1;omega
theorem Gm.made2 (w:C) {base:Nat} (hb:w.heap.size<base):Gm (w.alloc (.map #[] 0)) base w.heap.size 0 (fun _=>[]):=by
 obtain⟨D,⟨es,clock,h1,h2,h3,h4,h5,h6,h7⟩,hD⟩:=Gm.made w;have hw:(w.alloc (.map #[] 0)).heap[w.heap.size]?=E (.map #[] 0):=(MapKept.heap_alloc w _).1;rw [hw]at h1
 cases h1
 exact⟨D,⟨#[],0,hw,⟨by simp,h2.stamped,by simp⟩,h3,by simpa using h4,hb,by simp,by simp⟩,hD⟩
theorem OwnC.crk {T:TypeId} {k:Nat} {W0 W:C} {base B base':Nat} {v:J} {cs:List (List J)} (h:OwnC T k W0 base' v cs) (hc:CrK base B W0 W) (h1:∀j,v.ownBlock=E j→j≠B∧(j<base∨T≠3)):OwnC T k W base' v cs:=by
 obtain⟨h0,hl,h2⟩:=h;refine⟨h0,hl,?_⟩
 rcases h2 with h2|⟨g,cap,cur,hv,hg,hh,r⟩
 ·exact .inl h2
 ·obtain⟨a1,a2⟩:=h1 g (by rw [hv];rfl)
  refine .inr ⟨g,cap,cur,hv,hg,hc.2 g _ hh a1 ?_,r⟩
  rcases a2 with a2|a2
  ·exact .inl a2
  ·exact .inr fun cs' fr e=>by cases e;exact a2 rfl
end
section
open Go.RowKit Go.Shelf Go.Maps Go.Sort Go.Lib
def bsP (g:List (Int×Int)) (ps:List Pl) (pin:Int) (k:Nat):List Be:=match ps[k]? with|some p=>bedsN g ps k p pin (ps.length+1)|none=>[]
theorem zdx {g:List (Int×Int)} {ps:List Pl} {a:Nat} {p:Pl} {pin b:Int} {be:Be} (h:bedAt g ps a p pin b=E be):be.num=b:=by
 have hO:∀t,bedO p t b pin=E be→be.num=b:=fun t h=>by
  unfold bedO at h
  split at h
  ·cases hr:reachP (btw (lowP2 p) t) pin with
   | none=>rw [hr]at h;cases h
   | some o=>rw [hr]at h;cases h;rfl
  ·cases h
 unfold bedAt at h
 split at h
 ·cases h
 ·split at h
  ·exact hO _ h
  ·split at h
   ·cases h
   ·split at h
    ·exact hO _ h
    ·cases h
theorem zgT {g:List (Int×Int)} {ps:List Pl} {pin:Int} (hn:ps.length≤120) (k:Nat):(bsP g ps pin k).length≤121∧∀b∈bsP g ps pin k,-1≤b.num∧b.num≤1000:=by
 unfold bsP
 cases h:ps[k]? with
 | none=>exact⟨by simp,fun b hb=>by simp at hb⟩
 | some p =>
  refine⟨nT (zfm _ _ _ _ _ _) (by omega),fun b hb=>?_⟩;unfold bedsN at hb;obtain⟨i,hi,he⟩:=List.mem_filterMap.1 hb;rw [List.mem_range]at hi;have:=zdx he;omega
theorem zci {r:Ru} {ps:List Pl} {ks:List (JS×J)} (h:ks.map Prod.fst=skinP r ps) {x:JS×J} (hx:x∈ks):∃k:Nat,x.1.k=k∧k<ps.length:=by
 have h1:x.1∈skinP r ps:=h▸List.mem_map_of_mem hx;unfold skinP at h1;have h2:=(List.mem_filter.1 h1).1;obtain⟨i,hi⟩:=List.getElem?_of_mem h2;have hl:=(lS.1 hi).1;rw [zbC]at hl;rw [zgm (gE hl)]at hi;have e:=Option.some.inj hi;exact⟨i,by rw [←e];rfl,hl⟩
theorem zeP {g:List (Int×Int)} {ps:List Pl} {r:Ru} (h:byE g ps r=0):0≤r.pin∧r.pin≤50:=by
 unfold byE at h
 split at h
 ·unfold rulesE at h
  split at h
  ·cases h
  ·split at h
   ·cases h
   ·split at h
    ·cases h
    ·omega
 ·rename_i h9;exact absurd h h9
end
section
open Go.RowKit Go.Shelf Go.Sort Go.Lib
theorem zaY {l m:List (Int×Int)} (hp:l.Perm m) (hb:∀x∈l,BP x) (hm:m.Pairwise fun x y=>x.1<y.1):sortX l=m:=by
 have h1:=zct hb;have h2:=(zaV l).trans hp;refine List.Perm.eq_of_pairwise (le:=fun x y=>x.1≤y.1) ?_ h1 (hm.imp fun h=>by omega) h2;intro a b ha hb' hab hba;have ha':a∈m:=h2.mem_iff.1 ha;obtain⟨i,hi,rfl⟩:=List.getElem_of_mem ha';obtain⟨j,hj,rfl⟩:=List.getElem_of_mem hb';rw [List.pairwise_iff_getElem]at hm
 rcases Nat.lt_trichotomy i j with h|h|h
 ·have:=hm i j hi hj h;omega
 ·subst h;rfl
 ·have:=hm j i hj hi h;omega
theorem zh2:lowP2 (brickP ⟨#[97]⟩ 0 0)=[(0,0),(0+200,0)]:=by
 unfold lowP2 lineOf;rw [show lowRaw (cornersP (brickP ⟨#[97]⟩ 0 0)) (cornersP (brickP ⟨#[97]⟩ 0 0)).length=[(0,0),(0+200,0)] by decide,zaY (List.Perm.refl _) (by decide) (by decide)]
 decide
theorem up_0:upP2 (brickP ⟨#[97]⟩ 0 0)=[(0,0+80),(0+200,0+80)]:=by
 unfold upP2 lineOf;rw [show upRaw (cornersP (brickP ⟨#[97]⟩ 0 0)) (cornersP (brickP ⟨#[97]⟩ 0 0)).length=[(0+200,0+80),(0,0+80)] by decide,zaY (List.Perm.swap _ _ _) (by decide) (by decide)]
 decide
theorem zh3:lowP2 (brickP ⟨#[98]⟩ 200 0)=[(200,0),(200+200,0)]:=by
 unfold lowP2 lineOf;rw [show lowRaw (cornersP (brickP ⟨#[98]⟩ 200 0)) (cornersP (brickP ⟨#[98]⟩ 200 0)).length=[(200,0),(200+200,0)] by decide,zaY (List.Perm.refl _) (by decide) (by decide)]
 decide
theorem up_1:upP2 (brickP ⟨#[98]⟩ 200 0)=[(200,0+80),(200+200,0+80)]:=by
 unfold upP2 lineOf;rw [show upRaw (cornersP (brickP ⟨#[98]⟩ 200 0)) (cornersP (brickP ⟨#[98]⟩ 200 0)).length=[(200+200,0+80),(200,0+80)] by decide,zaY (List.Perm.swap _ _ _) (by decide) (by decide)]
 decide
theorem zh4:lowP2 (brickP ⟨#[99]⟩ 0 80)=[(0,80),(0+200,80)]:=by
 unfold lowP2 lineOf;rw [show lowRaw (cornersP (brickP ⟨#[99]⟩ 0 80)) (cornersP (brickP ⟨#[99]⟩ 0 80)).length=[(0,80),(0+200,80)] by decide,zaY (List.Perm.refl _) (by decide) (by decide)]
 decide
theorem up_2:upP2 (brickP ⟨#[99]⟩ 0 80)=[(0,80+80),(0+200,80+80)]:=by
 unfold upP2 lineOf;rw [show upRaw (cornersP (brickP ⟨#[99]⟩ 0 80)) (cornersP (brickP ⟨#[99]⟩ 0 80)).length=[(0+200,80+80),(0,80+80)] by decide,zaY (List.Perm.swap _ _ _) (by decide) (by decide)]
 decide
theorem zh5:lowP2 (brickP ⟨#[100]⟩ 200 80)=[(200,80),(200+200,80)]:=by
 unfold lowP2 lineOf;rw [show lowRaw (cornersP (brickP ⟨#[100]⟩ 200 80)) (cornersP (brickP ⟨#[100]⟩ 200 80)).length=[(200,80),(200+200,80)] by decide,zaY (List.Perm.refl _) (by decide) (by decide)]
 decide
theorem up_3:upP2 (brickP ⟨#[100]⟩ 200 80)=[(200,80+80),(200+200,80+80)]:=by
 unfold upP2 lineOf;rw [show upRaw (cornersP (brickP ⟨#[100]⟩ 200 80)) (cornersP (brickP ⟨#[100]⟩ 200 80)).length=[(200+200,80+80),(200,80+80)] by decide,zaY (List.Perm.swap _ _ _) (by decide) (by decide)]
 decide
theorem zh6:lowP2 (brickP ⟨#[101]⟩ 100 160)=[(100,160),(100+200,160)]:=by
 unfold lowP2 lineOf;rw [show lowRaw (cornersP (brickP ⟨#[101]⟩ 100 160)) (cornersP (brickP ⟨#[101]⟩ 100 160)).length=[(100,160),(100+200,160)] by decide,zaY (List.Perm.refl _) (by decide) (by decide)]
 decide
theorem up_4:upP2 (brickP ⟨#[101]⟩ 100 160)=[(100,160+80),(100+200,160+80)]:=by
 unfold upP2 lineOf;rw [show upRaw (cornersP (brickP ⟨#[101]⟩ 100 160)) (cornersP (brickP ⟨#[101]⟩ 100 160)).length=[(100+200,160+80),(100,160+80)] by decide,zaY (List.Perm.swap _ _ _) (by decide) (by decide)]
 decide
def insI (z:Int):List Int→List Int
 | []=>[z]
 | y::ys=>if z≤y then z::y::ys else y::insI z ys
def sortI:List Int→List Int
 | []=>[]
 | z::zs=>insI z (sortI zs)
theorem zdL (z:Int):∀ys,(insI z ys).Perm (z::ys)
 | []=>List.Perm.refl _
 | y::ys=>by
  unfold insI
  split
  ·exact List.Perm.refl _
  ·exact((zdL z ys).cons y).trans (List.Perm.swap _ _ _)
theorem zez (z:Int):∀ys,ys.Pairwise (fun x y:Int=>x≤y)→(insI z ys).Pairwise (fun x y:Int=>x≤y)
 | [],_=>by unfold insI;exact List.pairwise_singleton _ _
 | y::ys,h=>by
  obtain⟨h1,h2⟩:=List.pairwise_cons.1 h;unfold insI
  split
  ·rename_i hz
   refine List.pairwise_cons.2 ⟨fun a ha=>?_,h⟩
   rcases List.mem_cons.1 ha with rfl|ha
   ·exact hz
   ·exact Int.le_trans hz (h1 a ha)
  ·rename_i hz
   refine List.pairwise_cons.2 ⟨fun a ha=>?_,zez z ys h2⟩
   rcases List.mem_cons.1 ((zdL z ys).mem_iff.1 ha)with rfl|ha
   ·omega
   ·exact h1 a ha
theorem zeL:∀zs,(sortI zs).Perm zs
 | []=>List.Perm.refl _
 | z::zs=>(zdL z _).trans ((zeL zs).cons z)
theorem zef:∀zs,(sortI zs).Pairwise (fun x y:Int=>x≤y)
 | []=>List.Pairwise.nil
 | z::zs=>zez z _ (zef zs)
theorem zdO:isort=sortI:=by
 funext zs
 unfold isort;refine List.Perm.eq_of_pairwise (le:=fun x y:Int=>x≤y) (fun a b _ _ h1 h2=>Int.le_antisymm h1 h2) ?_ (zef zs) ((List.mergeSort_perm zs _).trans (zeL zs).symm);have:=List.pairwise_mergeSort (le:=fun x y:Int=>decide (x≤y)) (fun a b c h1 h2=>by simp at *;omega) (fun a b=>by simp;omega) zs;exact this.imp fun h=>by simpa using h
example:reachNo ⟨[(0,0),(200,0)],[(-1000,0),(1000,0)],0,200⟩ 0=false:=by
 simp only [reachNo,leastR,stopsR,stopsZ,zdO]
 decide +kernel
theorem zng:laidP exG exP=0:=by
 unfold exP laidP;simp only [laid1,laid2,addE,clearB,clashB,List.any_cons,List.any_nil,List.nil_append,List.cons_append,relP,freeB,leastR,stopsR,stopsZ,zdO,holdsB,zh2,zh3,zh4,zh5,zh6,up_0,up_1,up_2,up_3,up_4]
 decide +kernel
theorem zm9:byE exG exP exR=0:=by
 unfold byE;rw [if_pos zng]
 decide
theorem znh:(skinP exR exP).length=5:=by decide
def exJ1:Jt:=⟨0,1,200,200,0,80⟩
def exJ2:Jt:=⟨2,3,200,200,80,160⟩
theorem zoH:rawP exR (skinP exR exP)=[exJ1,exJ2]:=by rfl
theorem ex_L {ks:List (JS×J)} {L:List Jt} {rs:List Int} (h:SvP exR exP ks L rs):L=[exJ1,exJ2]∧rs=[0,0]:=by
 have hp:=h.perm;rw [zoH]at hp
 have hL:L=[exJ1,exJ2]:=by
  refine List.Perm.eq_of_pairwise (le:=fun a b=>¬cfT b a<0) (fun a b ha hb h1 h2=>?_) h.ord ?_ hp
  ·have ha':=hp.mem_iff.1 ha
   simp only [List.mem_cons,List.not_mem_nil,or_false]at ha' hb
   rcases ha' with rfl|rfl<;>rcases hb with rfl|rfl
   ·rfl
   ·exact absurd (by decide) h2
   ·exact absurd (by decide) h1
   ·rfl
  ·refine List.pairwise_cons.2 ⟨fun a ha=>?_,List.pairwise_singleton _ _⟩
   rw [List.mem_singleton.1 ha]
   decide
 refine⟨hL,?_⟩;rw [h.roots,hL];rfl
theorem ziS (p:Pl) (t:List (Int×Int)) (b pin:Int):(bedO p t b pin).isSome=(decide ((btw (lowP2 p) t).lo<(btw (lowP2 p) t).hi)&&!reachNo (btw (lowP2 p) t) pin):=by
 unfold bedO reachP
 by_cases h1:(btw (lowP2 p) t).lo<(btw (lowP2 p) t).hi
 ·rw [if_pos h1]
  cases h2:reachNo (btw (lowP2 p) t) pin<;>simp [h1]
 ·rw [if_neg h1]
  simp [h1]
theorem zbc (g:List (Int×Int)) (ps:List Pl) (a:Nat) (p:Pl) (pin:Int):∀n,(bedsN g ps a p pin n).map (·.num)=((List.range n).filter fun i:Nat=>(bedAt g ps a p pin ((i:Int)-1)).isSome).map fun i:Nat=>(i:Int)-1
 | 0=>rfl
 | n+1=>by
  rw [zep,List.map_append,zbc g ps a p pin n,List.range_succ,List.filter_append,List.map_append]
  congr 1
  cases h:bedAt g ps a p pin ((n:Int)-1)with
  | none=>simp [h]
  | some be=>simp [h,zdx h]
theorem za3 {p:Pl} {t lo up:List (Int×Int)} {b:Int} {r:Bool} (h1:lowP2 p=lo) (h2:t=up) (h:(decide ((btw lo up).lo<(btw lo up).hi)&&!reachNo (btw lo up) 0)=r:=by(simp only [btw,reachNo,leastR,stopsR,stopsZ,zdO];decide +kernel)):(bedO p t b 0).isSome=r:=by
 rw [ziS,h1,h2];exact h
theorem zn4:(bedAt exG exP 0 (brickP ⟨#[97]⟩ 0 0) 0 (((0:Nat):Int)-1)).isSome=true:=
 za3 zh2 rfl
theorem zn5:(bedAt exG exP 0 (brickP ⟨#[97]⟩ 0 0) 0 (((1:Nat):Int)-1)).isSome=false:=by
 rfl
theorem zn6:(bedAt exG exP 0 (brickP ⟨#[97]⟩ 0 0) 0 (((2:Nat):Int)-1)).isSome=false:=
 za3 zh2 up_1
theorem zn7:(bedAt exG exP 0 (brickP ⟨#[97]⟩ 0 0) 0 (((3:Nat):Int)-1)).isSome=false:=
 za3 zh2 up_2
theorem zn8:(bedAt exG exP 0 (brickP ⟨#[97]⟩ 0 0) 0 (((4:Nat):Int)-1)).isSome=false:=
 za3 zh2 up_3
theorem zn9:(bedAt exG exP 0 (brickP ⟨#[97]⟩ 0 0) 0 (((5:Nat):Int)-1)).isSome=false:=
 za3 zh2 up_4
theorem zoa:(bedAt exG exP 1 (brickP ⟨#[98]⟩ 200 0) 0 (((0:Nat):Int)-1)).isSome=true:=
 za3 zh3 rfl
theorem zob:(bedAt exG exP 1 (brickP ⟨#[98]⟩ 200 0) 0 (((1:Nat):Int)-1)).isSome=false:=
 za3 zh3 up_0
theorem zoc:(bedAt exG exP 1 (brickP ⟨#[98]⟩ 200 0) 0 (((2:Nat):Int)-1)).isSome=false:=by
 rfl
theorem zod:(bedAt exG exP 1 (brickP ⟨#[98]⟩ 200 0) 0 (((3:Nat):Int)-1)).isSome=false:=
 za3 zh3 up_2
theorem zoe:(bedAt exG exP 1 (brickP ⟨#[98]⟩ 200 0) 0 (((4:Nat):Int)-1)).isSome=false:=
 za3 zh3 up_3
theorem zof:(bedAt exG exP 1 (brickP ⟨#[98]⟩ 200 0) 0 (((5:Nat):Int)-1)).isSome=false:=
 za3 zh3 up_4
theorem zog:(bedAt exG exP 2 (brickP ⟨#[99]⟩ 0 80) 0 (((0:Nat):Int)-1)).isSome=false:=
 za3 zh4 rfl
theorem zoh:(bedAt exG exP 2 (brickP ⟨#[99]⟩ 0 80) 0 (((1:Nat):Int)-1)).isSome=true:=
 za3 zh4 up_0
theorem zoi:(bedAt exG exP 2 (brickP ⟨#[99]⟩ 0 80) 0 (((2:Nat):Int)-1)).isSome=false:=
 za3 zh4 up_1
theorem zoj:(bedAt exG exP 2 (brickP ⟨#[99]⟩ 0 80) 0 (((3:Nat):Int)-1)).isSome=false:=by
 rfl
theorem zok:(bedAt exG exP 2 (brickP ⟨#[99]⟩ 0 80) 0 (((4:Nat):Int)-1)).isSome=false:=
 za3 zh4 up_3
theorem zol:(bedAt exG exP 2 (brickP ⟨#[99]⟩ 0 80) 0 (((5:Nat):Int)-1)).isSome=false:=
 za3 zh4 up_4
theorem zom:(bedAt exG exP 3 (brickP ⟨#[100]⟩ 200 80) 0 (((0:Nat):Int)-1)).isSome=false:=
 za3 zh5 rfl
theorem zon:(bedAt exG exP 3 (brickP ⟨#[100]⟩ 200 80) 0 (((1:Nat):Int)-1)).isSome=false:=
 za3 zh5 up_0
theorem zoo:(bedAt exG exP 3 (brickP ⟨#[100]⟩ 200 80) 0 (((2:Nat):Int)-1)).isSome=true:=
 za3 zh5 up_1
theorem zop:(bedAt exG exP 3 (brickP ⟨#[100]⟩ 200 80) 0 (((3:Nat):Int)-1)).isSome=false:=
 za3 zh5 up_2
theorem zoq:(bedAt exG exP 3 (brickP ⟨#[100]⟩ 200 80) 0 (((4:Nat):Int)-1)).isSome=false:=by
 rfl
theorem zor:(bedAt exG exP 3 (brickP ⟨#[100]⟩ 200 80) 0 (((5:Nat):Int)-1)).isSome=false:=
 za3 zh5 up_4
theorem zos:(bedAt exG exP 4 (brickP ⟨#[101]⟩ 100 160) 0 (((0:Nat):Int)-1)).isSome=false:=
 za3 zh6 rfl
theorem zot:(bedAt exG exP 4 (brickP ⟨#[101]⟩ 100 160) 0 (((1:Nat):Int)-1)).isSome=false:=
 za3 zh6 up_0
theorem zou:(bedAt exG exP 4 (brickP ⟨#[101]⟩ 100 160) 0 (((2:Nat):Int)-1)).isSome=false:=
 za3 zh6 up_1
theorem zov:(bedAt exG exP 4 (brickP ⟨#[101]⟩ 100 160) 0 (((3:Nat):Int)-1)).isSome=true:=
 za3 zh6 up_2
theorem zow:(bedAt exG exP 4 (brickP ⟨#[101]⟩ 100 160) 0 (((4:Nat):Int)-1)).isSome=true:=
 za3 zh6 up_3
theorem zox:(bedAt exG exP 4 (brickP ⟨#[101]⟩ 100 160) 0 (((5:Nat):Int)-1)).isSome=false:=by
 rfl
theorem zjp:(bsP exG exP 0 0).map (·.num)=[-1]:=by
 show (bedsN exG exP 0 (brickP ⟨#[97]⟩ 0 0) 0 (5+1)).map (·.num)=_
 rw [zbc];rw [show List.range (5+1)=[0,1,2,3,4,5]from rfl];simp only [List.filter_cons,List.filter_nil,zn4,zn5,zn6,zn7,zn8,zn9];rfl
theorem zjq:(bsP exG exP 0 1).map (·.num)=[-1]:=by
 show (bedsN exG exP 1 (brickP ⟨#[98]⟩ 200 0) 0 (5+1)).map (·.num)=_
 rw [zbc];rw [show List.range (5+1)=[0,1,2,3,4,5]from rfl];simp only [List.filter_cons,List.filter_nil,zoa,zob,zoc,zod,zoe,zof];rfl
theorem zjr:(bsP exG exP 0 2).map (·.num)=[0]:=by
 show (bedsN exG exP 2 (brickP ⟨#[99]⟩ 0 80) 0 (5+1)).map (·.num)=_
 rw [zbc];rw [show List.range (5+1)=[0,1,2,3,4,5]from rfl];simp only [List.filter_cons,List.filter_nil,zog,zoh,zoi,zoj,zok,zol];rfl
theorem zjs:(bsP exG exP 0 3).map (·.num)=[1]:=by
 show (bedsN exG exP 3 (brickP ⟨#[100]⟩ 200 80) 0 (5+1)).map (·.num)=_
 rw [zbc];rw [show List.range (5+1)=[0,1,2,3,4,5]from rfl];simp only [List.filter_cons,List.filter_nil,zom,zon,zoo,zop,zoq,zor];rfl
theorem zjt:(bsP exG exP 0 4).map (·.num)=[2,3]:=by
 show (bedsN exG exP 4 (brickP ⟨#[101]⟩ 100 160) 0 (5+1)).map (·.num)=_
 rw [zbc];rw [show List.range (5+1)=[0,1,2,3,4,5]from rfl];simp only [List.filter_cons,List.filter_nil,zos,zot,zou,zov,zow,zox];rfl
end
section
open Go.RowKit Go.Shelf
def EdgC (cs:List (Int×Int)) (u v:Int×Int):Prop:=(∃A B,cs=A++u::v::B)∨(∃M,cs=v::M++[u])
structure Cvx (cs:List (Int×Int)):Prop where
 nd:cs.Nodup
 three:3≤cs.length
 left:∀u v,EdgC cs u v→∀c∈cs,c≠u→c≠v→0<trn u v c
theorem EdgC.mem {cs:List (Int×Int)} {u v:Int×Int} (h:EdgC cs u v):u∈cs∧v∈cs:=by
 rcases h with ⟨A,B,rfl⟩|⟨M,rfl⟩<;>simp
theorem EdgC.rot {P Q:List (Int×Int)} {u v:Int×Int} (h:EdgC (Q++P) u v) (h3:2≤(P++Q).length):EdgC (P++Q) u v:=by
 rcases h with ⟨A,B,h⟩|⟨M,h⟩
 ·rcases List.append_eq_append_iff.1 h with ⟨X,e1,e2⟩|⟨X,e1,e2⟩
  ·
   subst e1;exact .inl ⟨X,B++Q,by rw [e2];simp⟩
  ·
   cases X with
   | nil =>
    simp at e1 e2;subst e1;exact .inl ⟨[],B++Q,by rw [←e2];simp⟩
   | cons x X =>
    simp at e2;obtain⟨rfl,e2⟩:=e2
    cases X with
    | nil =>
     simp at e2;subst e1 e2;exact .inr ⟨B++A,by simp⟩
    | cons y X =>
     simp at e2;obtain⟨rfl,rfl⟩:=e2;subst e1;exact .inl ⟨P++A,X,by simp⟩
 ·
  cases P with
  | nil=>simp at h;exact .inr ⟨M,by simpa using h⟩
  | cons p P =>
   cases Q with
   | nil=>simp at h;exact .inr ⟨M,by simpa using h⟩
   | cons q Q =>
    have hq:q=v:=by simp at h;exact h.1
    have hl:=congrArg List.getLast? h;rw [List.getLast?_append,List.getLast?_append]at hl
    have hp:(p::P).getLast?=E u:=by
     cases hh:(p::P).getLast? with
     | none=>simp at hh
     | some z=>rw [hh]at hl;simpa using hl
    obtain⟨P',hP⟩:∃P',p::P=P'++[u]:=⟨(p::P).dropLast,by
     have h9:=List.getLast?_eq_some_iff.1 hp;obtain⟨ys,hy⟩:=h9;rw [hy];simp⟩
    rw [hP];subst hq;exact .inl ⟨P',Q,by simp⟩
theorem EdgC.rev {cs:List (Int×Int)} {u v:Int×Int} (h:EdgC cs.reverse u v):EdgC cs v u:=by
 rcases h with ⟨A,B,h⟩|⟨M,h⟩
 ·refine .inl ⟨B.reverse,A.reverse,?_⟩
  rw [←List.reverse_reverse cs,h];simp
 ·refine .inr ⟨M.reverse,?_⟩
  rw [←List.reverse_reverse cs,h];simp
theorem EdgC.map {cs:List (Int×Int)} {f:Int×Int→Int×Int} {u v:Int×Int} (h:EdgC (cs.map f) u v):∃u' v',u=f u'∧v=f v'∧EdgC cs u' v':=by
 rcases h with ⟨A,B,h⟩|⟨M,h⟩
 ·obtain⟨A',X,e,hA,hX⟩:=List.map_eq_append_iff.1 h
  obtain⟨u',X',e2,hu,hX'⟩:=List.map_eq_cons_iff.1 hX;obtain⟨v',B',e3,hv,hB⟩:=List.map_eq_cons_iff.1 hX';exact⟨u',v',hu.symm,hv.symm,.inl ⟨A',B',by rw [e,e2,e3]⟩⟩
 ·rw [List.cons_append]at h
  obtain⟨v',X,e,hv,hX⟩:=List.map_eq_cons_iff.1 h;obtain⟨M',Y,e2,hM,hY⟩:=List.map_eq_append_iff.1 hX;obtain⟨u',Z,e3,hu,hZ⟩:=List.map_eq_cons_iff.1 hY;have:Z=[]:=List.map_eq_nil_iff.1 hZ;subst this;exact⟨u',v',hu.symm,hv.symm,.inr ⟨M',by rw [e,e2,e3];simp⟩⟩
theorem Cvx.rot {P Q:List (Int×Int)} (h:Cvx (P++Q)):Cvx (Q++P):=by
 have hm:∀x,x∈Q++P→x∈P++Q:=fun x hx=>by
  rcases List.mem_append.1 hx with hx|hx
  ·exact List.mem_append.2 (.inr hx)
  ·exact List.mem_append.2 (.inl hx)
 have hl:=h.three;refine⟨(List.perm_append_comm.nodup_iff).1 h.nd,by rw [lA]at *;omega,fun u v he c hc hu hv=>h.left u v (he.rot (by omega)) c (hm c hc) hu hv⟩
theorem Cvx.map {cs:List (Int×Int)} (h:Cvx cs) (f:Int×Int→Int×Int) (hf:∀u v c,trn (f u) (f v) (f c)=trn u v c) (hi:∀x y,f x=f y→x=y):Cvx (cs.map f):=by
 refine⟨?_,by rw [lL];exact h.three,fun u v he c hc hu hv=>?_⟩
 ·exact List.Pairwise.map f (fun a b hab e=>hab (hi a b e)) h.nd
 ·obtain⟨u',v',rfl,rfl,he'⟩:=he.map
  obtain⟨c',hc',rfl⟩:=List.mem_map.1 hc;rw [hf];exact h.left u' v' he' c' hc' (fun e=>hu (by rw [e])) (fun e=>hv (by rw [e]))
theorem Cvx.flip {cs:List (Int×Int)} (h:Cvx cs) (f:Int×Int→Int×Int) (hf:∀u v c,trn (f u) (f v) (f c)=trn v u c) (hi:∀x y,f x=f y→x=y):Cvx (cs.map f).reverse:=by
 refine⟨?_,by rw [List.length_reverse,lL];exact h.three,fun u v he c hc hu hv=>?_⟩
 ·exact(List.reverse_perm _).nodup_iff.2 (List.Pairwise.map f (fun a b hab e=>hab (hi a b e)) h.nd)
 ·obtain⟨v',u',rfl,rfl,he'⟩:=(EdgC.rev he).map
  obtain⟨c',hc',rfl⟩:=List.mem_map.1 (List.mem_reverse.1 hc);rw [hf];exact h.left v' u' he' c' hc' (fun e=>hv (by rw [e])) (fun e=>hu (by rw [e]))
theorem zeO {ps:List (Int×Int)} (i:Int):atc ps (i+ps.length)=atc ps i:=by
 unfold atc;rw [Int.add_emod_right]
theorem znQ (u v c:Int×Int):trn u v c=trn c u v:=by
 unfold trn
 grind
theorem zjk {ps:List (Int×Int)} (h:convexB ps=true) {i:Nat} (hi:i<ps.length):0<trn (atc ps ((i:Int)-1)) (atc ps i) (atc ps ((i:Int)+1))∧∀k:Nat,2≤k→k<ps.length-1→0<trn (atc ps i) (atc ps ((i:Int)+1)) (atc ps ((i:Int)+k)):=by
 unfold convexB at h;simp only [Bool.and_eq_true,List.all_eq_true,List.mem_range]at h;have h1:=h.2 i hi;unfold cvxR at h1;simp only [Bool.and_eq_true,List.all_eq_true,List.mem_range,Bool.or_eq_true,decide_eq_true_eq]at h1;refine⟨by simpa [cvx1] using h1.1,fun k hk hk2=>?_⟩
 rcases h1.2 k hk2 with h9|h9
 ·omega
 ·simpa [cvx2] using h9
theorem zfR {ps:List (Int×Int)} (h:convexB ps=true) {i j:Nat} (hi:i<ps.length) (hj:j<ps.length) (hij:i≠j) :
  ps[j]=atc ps ((i:Int)+1)∨ps[j]=atc ps ((i:Int)-1)∨0<trn (atc ps i) (atc ps ((i:Int)+1)) ps[j]:=by
 have hjn:ps[j]=atc ps (j:Int):=by
  have:=zdw hj;rw [gE hj]at this;exact Option.some.inj this
 obtain⟨k,hk1,hk2,hk⟩:∃k:Nat,1≤k∧k≤ps.length-1∧atc ps ((i:Int)+k)=atc ps (j:Int):=by
  by_cases hlt:i<j
  ·exact⟨j-i,by omega,by omega,by congr 1;omega⟩
  ·refine⟨j+ps.length-i,by omega,by omega,?_⟩
   rw [show (i:Int)+((j+ps.length-i:Nat):Int)=(j:Int)+ps.length by omega];exact zeO _
 rw [hjn,←hk]
 by_cases h1:k=1
 ·subst h1;exact .inl rfl
 ·by_cases h2:k=ps.length-1
  ·right;left
   rw [show (i:Int)+(k:Int)=((i:Int)-1)+ps.length by omega];exact zeO _
  ·right;right
   exact(zjk h hi).2 k (by omega) (by omega)
theorem zhM {ps:List (Int×Int)} (h:convexB ps=true):Cvx ps:=by
 have h3:3≤ps.length:=by
  unfold convexB wthn at h;simp only [Bool.and_eq_true,decide_eq_true_eq]at h;omega
 have hat:∀i:Nat,(hi:i<ps.length)→ps[i]=atc ps (i:Int):=fun i hi=>by
  have:=zdw hi;rw [gE hi]at this;exact Option.some.inj this
 refine⟨?_,h3,fun u v he c hc hu hv=>?_⟩
 ·rw [List.nodup_iff_pairwise_ne,List.pairwise_iff_getElem]
  intro i j hi hj hij e;have hc1:=(zjk h hi).1
  rcases zfR h hi hj (by omega)with h1|h1|h1
  ·rw [←h1,←e,hat i hi]at hc1
   unfold trn at hc1;simp at hc1
  ·rw [←h1,←e,hat i hi]at hc1
   unfold trn at hc1;simp at hc1
  ·rw [←e,hat i hi]at h1
   have:trn (atc ps (i:Int)) (atc ps ((i:Int)+1)) (atc ps (i:Int))=0:=by unfold trn;grind
   omega
 ·obtain⟨i,hi,rfl,rfl⟩:∃i:Nat,i<ps.length∧u=atc ps (i:Int)∧v=atc ps ((i:Int)+1):=by
   rcases he with ⟨A,B,e⟩|⟨M,e⟩
   ·have l1:A.length<ps.length:=by rw [e];simp
    have l2:A.length+1<ps.length:=by rw [e];simp
    refine⟨A.length,l1,?_,?_⟩
    ·rw [←hat _ l1];simp [e]
    ·have:=hat _ l2
     rw [show ((A.length+1:Nat):Int)=(A.length:Int)+1 by omega]at this;rw [←this];simp [e]
   ·have l0:0<ps.length:=by omega
    have l1:M.length+1<ps.length:=by rw [e];simp
    have ln:ps.length=M.length+2:=by rw [e];simp
    refine⟨M.length+1,l1,?_,?_⟩
    ·rw [←hat _ l1];simp [e]
    ·rw [show ((M.length+1:Nat):Int)+1=0+ps.length by omega,zeO]
     have:=hat 0 l0;rw [show ((0:Nat):Int)=0 from rfl]at this;rw [←this];simp [e]
  obtain⟨j,hj,rfl⟩:=List.mem_iff_getElem.1 hc;have hij:i≠j:=by rintro rfl;exact hu (hat i hi)
  rcases zfR h hi hj hij with h1|h1|h1
  ·exact absurd h1 hv
  ·rw [h1,znQ]
   exact(zjk h hi).1
  ·exact h1
theorem zgD {ps:List (Int×Int)} (h:Cvx ps):Cvx (settledP ps):=by
 unfold settledP;refine Cvx.map ?_ _ ?_ ?_
 ·have:=Cvx.rot (P:=ps.take (idxN ps)) (Q:=ps.drop (idxN ps)) (by rw [List.take_append_drop];exact h)
  exact this
 ·intro u v c
  unfold trn;dsimp only
  grind
 ·intro x y e
  simp only [Prod.mk.injEq]at e;exact Prod.ext (by omega) (by omega)
theorem zhx (way:Int) (u v c:Int×Int):trn (wayP way u) (wayP way v) (wayP way c)=if 3<way then trn v u c else trn u v c:=by
 unfold wayP trn;dsimp only
 split<;>(split<;>first|grind|(split<;>first|grind|(split<;>grind)))
theorem zhw (way:Int) (x y:Int×Int) (h:wayP way x=wayP way y):x=y:=by
 unfold wayP at h;dsimp only at h;obtain⟨x1,x2⟩:=x;obtain⟨y1,y2⟩:=y
 split at h<;>(split at h<;>first|(simp only [Prod.mk.injEq]at h ⊢;omega)|(split at h<;>first|(simp only [Prod.mk.injEq]at h ⊢;omega)|(split at h<;>(simp only [Prod.mk.injEq]at h ⊢;omega))))
theorem ziJ {way:Int} {ps:List (Int×Int)} (h:Cvx ps):Cvx (turnedP way ps):=by
 unfold turnedP;refine zgD ?_
 by_cases hw:3<way
 ·rw [if_pos hw]
  exact h.flip _ (fun u v c=>by rw [zhx,if_pos hw]) (zhw way)
 ·rw [if_neg hw]
  exact h.map _ (fun u v c=>by rw [zhx,if_neg hw]) (zhw way)
theorem zbi {p:Pl} (h:placedOk p=true):Cvx (cornersP p):=by
 have hc:convexB p.shape=true:=by
  cases hcc:convexB p.shape with
  | true=>rfl
  | false =>
   unfold placedOk stoneB at h;rw [zbJ hcc]at h;simp at h
 unfold cornersP;refine(ziJ (zhM hc)).map _ ?_ ?_
 ·intro u v c
  unfold trn;dsimp only
  grind
 ·intro x y e
  simp only [Prod.mk.injEq]at e;exact Prod.ext (by omega) (by omega)
end
section
open Go.RowKit Go.Shelf Go.Sort
theorem zoF {x y:Int} (h:0<x) (k:x*y≤0):y≤0:=by
 by_cases hy:y≤0
 ·exact hy
 ·have:=Int.mul_pos h (show 0<y by omega)
  omega
theorem zoE {x y:Int} (h:0<x) (k:x*y<0):y<0:=by
 by_cases hy:y<0
 ·exact hy
 ·have:=Int.mul_nonneg (Int.le_of_lt h) (show 0≤y by omega)
  omega
theorem zkV {px pz qx qz tx tz:Int} (hp:0<px) (hq:qx≤0) (ht:0<tx) (h1:0<px*tz-pz*tx) (h2:0<qx*tz-qz*tx):px*qz-pz*qx<0:=by
 have e:tx*(px*qz-pz*qx)=qx*(px*tz-pz*tx)-px*(qx*tz-qz*tx):=by grind
 have a:=Int.mul_pos hp h2;have b:qx*(px*tz-pz*tx)≤0:=Int.mul_nonpos_of_nonpos_of_nonneg hq (Int.le_of_lt h1);exact zoE ht (by omega)
theorem zfE {ux uz ax az bx bz:Int} (hu:0<ux) (ha:ax<0) (hb:0<bx) (h1:0≤ux*az-uz*ax) (h2:0≤ux*bz-uz*bx):ax*bz-az*bx≤0:=by
 have e:ux*(ax*bz-az*bx)=ax*(ux*bz-uz*bx)-bx*(ux*az-uz*ax):=by grind
 have a:0≤bx*(ux*az-uz*ax):=Int.mul_nonneg (Int.le_of_lt hb) h1;have b:ax*(ux*bz-uz*bx)≤0:=Int.mul_nonpos_of_nonpos_of_nonneg (Int.le_of_lt ha) h2;exact zoF hu (by omega)
def LowE (cs:List (Int×Int)) (u v:Int×Int):Prop:=EdgC cs u v∧u.1<v.1
def LowV (cs:List (Int×Int)) (q:Int×Int):Prop:=∃u v,LowE cs u v∧(q=u∨q=v)
theorem Cvx.left0 {cs:List (Int×Int)} (h:Cvx cs) {u v c:Int×Int} (he:EdgC cs u v) (hc:c∈cs):0≤trn u v c:=by
 by_cases hu:c=u
 ·subst hu;unfold trn;grind
 ·by_cases hv:c=v
  ·subst hv;unfold trn;grind
  ·exact Int.le_of_lt (h.left u v he c hc hu hv)
theorem LowV.mem {cs:List (Int×Int)} {q:Int×Int} (h:LowV cs q):q∈cs:=by
 obtain⟨u,v,⟨he,_⟩,rfl|rfl⟩:=h
 ·exact he.mem.1
 ·exact he.mem.2
theorem LowV.uniq {cs:List (Int×Int)} (h:Cvx cs) {u w:Int×Int} (hu:LowV cs u) (hw:LowV cs w) (hx:u.1=w.1):u=w:=by
 have key:∀{u w:Int×Int},LowV cs u→LowV cs w→u.1=w.1→¬u.2<w.2:=by
  intro u w hu hw hx hz;obtain⟨a,b,⟨he,hab⟩,hw⟩:=hw;have h0:=h.left0 he hu.mem;unfold trn at h0
  rcases hw with rfl|rfl
  ·have e:(b.1-w.1)*(u.2-b.2)-(b.2-w.2)*(u.1-b.1)=(b.1-w.1)*(u.2-w.2):=by rw [hx];grind
   rw [e]at h0;have:=Int.mul_neg_of_pos_of_neg (show 0<b.1-w.1 by omega) (show u.2-w.2<0 by omega);omega
  ·have e:(w.1-a.1)*(u.2-w.2)-(w.2-a.2)*(u.1-w.1)=(w.1-a.1)*(u.2-w.2):=by rw [hx];grind
   rw [e]at h0;have:=Int.mul_neg_of_pos_of_neg (show 0<w.1-a.1 by omega) (show u.2-w.2<0 by omega);omega
 have h1:=key hu hw hx;have h2:=key hw hu hx.symm;exact Prod.ext hx (by omega)
theorem EdgC.next {cs:List (Int×Int)} {a:Int×Int} (h:a∈cs) (h2:2≤cs.length):∃s,EdgC cs a s:=by
 obtain⟨A,B,rfl⟩:=List.append_of_mem h
 cases B with
 | cons s B=>exact⟨s,.inl ⟨A,B,rfl⟩⟩
 | nil =>
  cases A with
  | nil=>simp at h2
  | cons v M=>exact⟨v,.inr ⟨M,by simp⟩⟩
theorem LowV.goes {cs:List (Int×Int)} (h:Cvx cs) {a b:Int×Int} (ha:LowV cs a) (hb:b∈cs) (hab:a.1<b.1):∃b',LowE cs a b':=by
 obtain⟨u,v,⟨he,huv⟩,ha⟩:=ha
 rcases ha with rfl|rfl
 ·exact⟨v,he,huv⟩
 ·obtain⟨s,hs⟩:=EdgC.next he.mem.2 (by have:=h.three;omega)
  by_cases hsx:a.1<s.1
  ·exact⟨s,hs,hsx⟩
  ·exfalso
   have hbs:b≠s:=by rintro rfl;omega
   have hba:b≠a:=by rintro rfl;omega
   have hbu:b≠u:=by rintro rfl;omega
   have h1:=h.left u a he b hb hbu hba;have h2:=h.left a s hs b hb hba hbs;have h3:=h.left0 he hs.mem.2;unfold trn at h1 h2 h3;have e2:(s.1-a.1)*(b.2-s.2)-(s.2-a.2)*(b.1-s.1)=(s.1-a.1)*(b.2-a.2)-(s.2-a.2)*(b.1-a.1):=by grind
   rw [e2]at h2;have:=zkV (show 0<a.1-u.1 by omega) (show s.1-a.1≤0 by omega) (show 0<b.1-a.1 by omega) h1 h2;omega
theorem LowV.edge {cs:List (Int×Int)} (h:Cvx cs) {a b:Int×Int} (ha:LowV cs a) (hb:LowV cs b) (hab:a.1<b.1) (hno:∀q,LowV cs q→¬(a.1<q.1∧q.1<b.1)):LowE cs a b:=by
 obtain⟨b',he,hx⟩:=ha.goes h hb.mem hab;have hb':LowV cs b':=⟨a,b',⟨he,hx⟩,.inr rfl⟩
 by_cases hbb:b'.1=b.1
 ·rw [←hb'.uniq h hb hbb];exact⟨he,hx⟩
 ·have hlt:b.1<b'.1:=by
   have:=hno b' hb';omega
  exfalso
  have hba:b≠a:=by rintro rfl;omega
  have hbb':b≠b':=by rintro rfl;omega
  have h1:=h.left a b' he b hb.mem hba hbb';obtain⟨c,d,⟨hf,hcd⟩,hbe⟩:=hb;have g1:=h.left0 hf he.mem.1;have g2:=h.left0 hf he.mem.2;unfold trn at h1 g1 g2;have e1:(b'.1-a.1)*(b.2-b'.2)-(b'.2-a.2)*(b.1-b'.1)=(a.1-b.1)*(b'.2-b.2)-(a.2-b.2)*(b'.1-b.1):=by grind
  rw [e1]at h1
  rcases hbe with rfl|rfl
  ·have e2:(d.1-b.1)*(a.2-d.2)-(d.2-b.2)*(a.1-d.1)=(d.1-b.1)*(a.2-b.2)-(d.2-b.2)*(a.1-b.1):=by grind
   have e3:(d.1-b.1)*(b'.2-d.2)-(d.2-b.2)*(b'.1-d.1)=(d.1-b.1)*(b'.2-b.2)-(d.2-b.2)*(b'.1-b.1):=by grind
   rw [e2]at g1;rw [e3]at g2;have:=zfE (show 0<d.1-b.1 by omega) (show a.1-b.1<0 by omega) (show 0<b'.1-b.1 by omega) g1 g2;omega
  ·have:=zfE (show 0<b.1-c.1 by omega) (show a.1-b.1<0 by omega) (show 0<b'.1-b.1 by omega) g1 g2
   omega
def ngP (p:Int×Int):Int×Int:=(-p.1,-p.2)
theorem zaN (p:Int×Int):ngP (ngP p)=p:=by unfold ngP;simp
theorem Cvx.ng {cs:List (Int×Int)} (h:Cvx cs):Cvx (cs.map ngP):=
 h.map _ (fun u v c=>by unfold trn ngP;dsimp only;grind) (fun x y e=>by rw [←zaN x,e,zaN])
theorem EdgC.maps {cs:List (Int×Int)} (f:Int×Int→Int×Int) {u v:Int×Int} (h:EdgC cs u v):EdgC (cs.map f) (f u) (f v):=by
 rcases h with ⟨A,B,rfl⟩|⟨M,rfl⟩
 ·exact .inl ⟨A.map f,B.map f,by simp⟩
 ·exact .inr ⟨M.map f,by simp⟩
theorem EdgC.ng {cs:List (Int×Int)} {u v:Int×Int} (h:EdgC (cs.map ngP) u v):EdgC cs (ngP u) (ngP v):=by
 have:=h.maps ngP
 rwa [List.map_map,show ngP ∘ ngP=id from funext zaN,List.map_id]at this
def UpE (cs:List (Int×Int)) (u v:Int×Int):Prop:=EdgC cs u v∧v.1<u.1
def UpV (cs:List (Int×Int)) (q:Int×Int):Prop:=∃u v,UpE cs u v∧(q=u∨q=v)
theorem UpE.ng {cs:List (Int×Int)} {u v:Int×Int}:UpE cs u v ↔ LowE (cs.map ngP) (ngP u) (ngP v):=by
 constructor
 ·rintro ⟨h,k⟩
  exact⟨h.maps ngP,by unfold ngP;dsimp only;omega⟩
 ·rintro ⟨h,k⟩
  have:=h.ng;rw [zaN,zaN]at this;exact⟨this,by unfold ngP at k;dsimp only at k;omega⟩
theorem UpV.ng {cs:List (Int×Int)} {q:Int×Int}:UpV cs q ↔ LowV (cs.map ngP) (ngP q):=by
 constructor
 ·rintro ⟨u,v,h,hq⟩
  exact⟨ngP u,ngP v,UpE.ng.1 h,by rcases hq with rfl|rfl<;>simp⟩
 ·rintro ⟨u,v,h,hq⟩
  refine⟨ngP u,ngP v,UpE.ng.2 (by rw [zaN,zaN];exact h),?_⟩
  rcases hq with rfl|rfl
  ·exact .inl (zaN q).symm
  ·exact .inr (zaN q).symm
theorem UpV.uniq {cs:List (Int×Int)} (h:Cvx cs) {u w:Int×Int} (hu:UpV cs u) (hw:UpV cs w) (hx:u.1=w.1):u=w:=by
 have:=LowV.uniq h.ng (UpV.ng.1 hu) (UpV.ng.1 hw) (by unfold ngP;dsimp only;omega);rw [←zaN u,this,zaN]
theorem UpV.edge {cs:List (Int×Int)} (h:Cvx cs) {a b:Int×Int} (ha:UpV cs a) (hb:UpV cs b) (hab:a.1<b.1) (hno:∀q,UpV cs q→¬(a.1<q.1∧q.1<b.1)):UpE cs b a:=by
 refine UpE.ng.2 (LowV.edge h.ng (UpV.ng.1 hb) (UpV.ng.1 ha) (by unfold ngP;dsimp only;omega) (fun q hq hx=>?_));refine hno (ngP q) (UpV.ng.2 (by rw [zaN];exact hq)) ?_;unfold ngP at hx ⊢;dsimp only at hx ⊢;omega
theorem zeR {cs:List (Int×Int)} (h2:2≤cs.length) {u v:Int×Int}:EdgC cs u v ↔ ∃i,i<cs.length∧cs.getD i (0,0)=u∧cs.getD ((i+1) % cs.length) (0,0)=v:=by
 constructor
 ·rintro (⟨A,B,e⟩|⟨M,e⟩)
  ·have l2:A.length+1<cs.length:=by rw [e];simp
   refine⟨A.length,by omega,?_,?_⟩
   ·rw [gD,e];simp
   ·rw [Nat.mod_eq_of_lt l2,gD,e];simp
  ·have ln:cs.length=M.length+2:=by rw [e];simp
   refine⟨M.length+1,by omega,?_,?_⟩
   ·rw [gD,e];simp
   ·rw [show M.length+1+1=cs.length by omega,Nat.mod_self,gD,e];simp
 ·rintro ⟨i,hi,rfl,rfl⟩
  have g:∀j,(hj:j<cs.length)→cs.getD j (0,0)=cs[j]:=fun j hj=>by rw [gD,gE hj];rfl
  by_cases h1:i+1<cs.length
  ·rw [Nat.mod_eq_of_lt h1,g i hi,g (i+1) h1]
   refine .inl ⟨cs.take i,cs.drop (i+1+1),?_⟩;rw [←List.drop_eq_getElem_cons h1,←List.drop_eq_getElem_cons hi,List.take_append_drop]
  ·have e:i+1=cs.length:=by omega
   rw [e,Nat.mod_self,g i hi,g 0 (by omega)]
   right
   cases cs with
   | nil=>simp at h2
   | cons v r =>
    have hr:r≠[]:=by rintro rfl;simp at h2
    refine⟨r.dropLast,?_⟩
    have hl:(v::r)[i]=r.getLast hr:=by
     rw [List.getLast_eq_getElem];simp only [List.length_cons]at e;obtain⟨i',rfl⟩:∃i',i=i'+1:=⟨i-1,by have:=List.length_pos_iff.2 hr;omega⟩;simp only [List.getElem_cons_succ]
     congr 1
     omega
    rw [hl];simp [List.dropLast_concat_getLast]
theorem zc8 {cs:List (Int×Int)} (h2:2≤cs.length) {q:Int×Int}:q∈lowRaw cs cs.length ↔ LowV cs q:=by
 unfold lowRaw LowV LowE;rw [List.mem_flatMap]
 constructor
 ·rintro ⟨i,hi,hq⟩
  rw [List.mem_range]at hi;unfold edgeLow at hq
  split at hq
  ·rename_i hx
   refine⟨_,_,⟨(zeR h2).2 ⟨i,hi,rfl,rfl⟩,hx⟩,?_⟩
   simpa using hq
  ·cases hq
 ·rintro ⟨u,v,⟨he,hx⟩,hq⟩
  obtain⟨i,hi,rfl,rfl⟩:=(zeR h2).1 he;refine⟨i,List.mem_range.2 hi,?_⟩;unfold edgeLow;rw [if_pos hx]
  simpa using hq
theorem zdU {cs:List (Int×Int)} (h2:2≤cs.length) {q:Int×Int}:q∈upRaw cs cs.length ↔ UpV cs q:=by
 unfold upRaw UpV UpE;rw [List.mem_flatMap]
 constructor
 ·rintro ⟨i,hi,hq⟩
  rw [List.mem_range]at hi;unfold edgeUp at hq
  split at hq
  ·rename_i hx
   refine⟨_,_,⟨(zeR h2).2 ⟨i,hi,rfl,rfl⟩,hx⟩,?_⟩
   simpa using hq
  ·cases hq
 ·rintro ⟨u,v,⟨he,hx⟩,hq⟩
  obtain⟨i,hi,rfl,rfl⟩:=(zeR h2).1 he;refine⟨i,List.mem_range.2 hi,?_⟩;unfold edgeUp;rw [if_pos hx]
  simpa using hq
theorem zbn {α:Type} [DecidableEq α]:∀{xs:List α} {x:α},x∈xs→x∈compactP xs
 | [a],x,h=>by simpa [compactP] using h
 | a::b::r,x,h=>by
  rw [compactP]
  split
  ·rename_i e
   subst e
   rcases List.mem_cons.1 h with rfl|h
   ·exact zbn (by simp)
   ·exact zbn h
  ·rcases List.mem_cons.1 h with rfl|h
   ·simp
   ·exact mC _ (zbn h)
theorem zeB {raw:List (Int×Int)} {q:Int×Int}:q∈lineOf raw ↔ q∈raw:=
 ⟨fun h=>(zaV raw).mem_iff.1 (zaZ h),fun h=>zbn ((zaV raw).mem_iff.2 h)⟩
def Rise (l:List (Int×Int)):Prop:=l.Pairwise fun x y=>x.1<y.1
theorem zcA:∀(l:List (Int×Int)),l.Pairwise (fun x y=>x.1≤y.1)→(∀x∈l,∀y∈l,x.1=y.1→x=y)→Rise (compactP l)
 | [],_,_=>List.Pairwise.nil
 | [a],_,_=>by unfold Rise;simp [compactP]
 | a::b::r,h,hu=>by
  obtain⟨h1,h2⟩:=List.pairwise_cons.1 h;have ih:=zcA (b::r) h2 (fun x hx y hy=>hu x (mC _ hx) y (mC _ hy));rw [compactP]
  split
  ·exact ih
  ·rename_i hne
   refine List.pairwise_cons.2 ⟨fun y hy=>?_,ih⟩;have hy':=zaZ hy;have hle:=h1 y hy';have hb:=h1 b (by simp)
   have hby:b.1≤y.1:=by
    rcases List.mem_cons.1 hy' with rfl|hy'
    ·exact Int.le_refl _
    ·exact(List.pairwise_cons.1 h2).1 y hy'
   have:a.1≠b.1:=fun e=>hne (hu a (by simp) b (by simp) e)
   omega
theorem zdT {k:Int} {raw:List (Int×Int)} (hb:PBd k raw) (hk:k≤1000000) (hu:∀x∈raw,∀y∈raw,x.1=y.1→x=y):Rise (lineOf raw):=by
 have hp:=zaV raw
 exact zcA _ (zct fun x hx=>by
  have:=hb x hx;unfold BP;exact⟨this.1.mono hk,this.2.mono hk⟩) (fun x hx y hy=>hu x (hp.mem_iff.1 hx) y (hp.mem_iff.1 hy))
theorem Rise.between {l:List (Int×Int)} (h:Rise l) {e:Edg} (he:e∈eds l):e.1∈l∧e.2∈l∧e.1.1<e.2.1∧∀q∈l,¬(e.1.1<q.1∧q.1<e.2.1):=by
 unfold eds at he;obtain⟨i,hi,rfl⟩:=List.getElem_of_mem he;have hl:i+1<l.length:=by rw [List.length_zip,List.length_tail]at hi;omega
 have e1:(l.zip l.tail)[i]'hi=(l[i]'(by omega),l[i+1]'hl):=by simp
 rw [e1];have hp:=List.pairwise_iff_getElem.1 h;refine⟨List.getElem_mem _,List.getElem_mem _,hp i (i+1) (by omega) hl (by omega),fun q hq=>?_⟩;obtain⟨j,hj,rfl⟩:=List.getElem_of_mem hq;dsimp only;rintro ⟨h1,h2⟩
 rcases Nat.lt_trichotomy j i with h9|rfl|h9
 ·have:=hp j i hj (by omega) h9;omega
 ·omega
 ·rcases Nat.lt_or_eq_of_le (show i+1≤j from h9)with h8|rfl
  ·have:=hp (i+1) j hl hj h8;omega
  ·omega
theorem zbI {p:Pl} (h:placedOk p=true):Rise (lowP2 p)∧(∀q,q∈lowP2 p ↔ LowV (cornersP p) q)∧∀e∈eds (lowP2 p),LowE (cornersP p) e.1 e.2:=by
 have hc:=zbi h;have h2:2≤(cornersP p).length:=by have:=hc.three;omega
 obtain⟨hb,h3,h12⟩:=zaR h;have hr:=zfO hb (nE _);have hm:∀q,q∈lowP2 p ↔ LowV (cornersP p) q:=fun q=>by unfold lowP2;rw [zeB,zc8 h2]
 have hs:Rise (lowP2 p):=zdT hr.1 (by decide) (fun x hx y hy e=>LowV.uniq hc ((zc8 h2).1 hx) ((zc8 h2).1 hy) e);refine⟨hs,hm,fun e he=>?_⟩;obtain⟨m1,m2,hx,hno⟩:=hs.between he;exact LowV.edge hc ((hm _).1 m1) ((hm _).1 m2) hx (fun q hq=>hno q ((hm q).2 hq))
theorem zcw {p:Pl} (h:placedOk p=true):Rise (upP2 p)∧(∀q,q∈upP2 p ↔ UpV (cornersP p) q)∧∀e∈eds (upP2 p),UpE (cornersP p) e.2 e.1:=by
 have hc:=zbi h;have h2:2≤(cornersP p).length:=by have:=hc.three;omega
 obtain⟨hb,h3,h12⟩:=zaR h;have hr:=zfO hb (nE _);have hm:∀q,q∈upP2 p ↔ UpV (cornersP p) q:=fun q=>by unfold upP2;rw [zeB,zdU h2]
 have hs:Rise (upP2 p):=zdT hr.2 (by decide) (fun x hx y hy e=>UpV.uniq hc ((zdU h2).1 hx) ((zdU h2).1 hy) e);refine⟨hs,hm,fun e he=>?_⟩;obtain⟨m1,m2,hx,hno⟩:=hs.between he;exact UpV.edge hc ((hm _).1 m1) ((hm _).1 m2) hx (fun q hq=>hno q ((hm q).2 hq))
def xh (k:Int):Rat:=((2*k+1:Int):Rat) / 2
theorem zdt (x y:Rat):rcmp x y≤0 ↔ x≤y:=by
 rw [←Int.not_lt,znG,Rat.not_lt]
theorem zky {A B:Rat} {p q NA NB:Int} (hp:0<p) (hq:0<q) (hA:A*(p:Rat)=(NA:Rat)) (hB:B*(q:Rat)=(NB:Rat)) (h:NA*q<NB*p):A<B:=by
 refine Rat.not_le.1 fun hle=>?_
 have hp':(0:Rat)≤(p:Rat):=by exact_mod_cast Int.le_of_lt hp
 have hq':(0:Rat)≤(q:Rat):=by exact_mod_cast Int.le_of_lt hq
 have h1:B*(q:Rat)*(p:Rat)≤A*(p:Rat)*(q:Rat):=by
  have:=Rat.mul_le_mul_of_nonneg_right (Rat.mul_le_mul_of_nonneg_right hle hq') hp'
  grind
 rw [hA,hB]at h1
 have h2:((NB*p:Int):Rat)≤((NA*q:Int):Rat):=by
  rw [Rat.intCast_mul,Rat.intCast_mul];exact h1
 have:=Rat.intCast_le_intCast.1 h2;omega
theorem zhy (k:Int):xh k*2=((2*k+1:Int):Rat):=by unfold xh;rw [Rat.div_mul_cancel (by decide)]
theorem zpa (k m:Int):xh k≤(m:Rat) ↔ k<m:=by
 have h2:(0:Rat)≤2:=by decide
 have e2:(m:Rat)*2=((m*2:Int):Rat):=by rw [Rat.intCast_mul];rfl
 constructor
 ·intro h
  have:=Rat.mul_le_mul_of_nonneg_right h h2;rw [zhy,e2,Rat.intCast_le_intCast]at this;omega
 ·intro h
  refine Rat.not_lt.1 fun hlt=>?_
  have:=Rat.mul_le_mul_of_nonneg_right (Rat.le_of_lt hlt) h2;rw [zhy,e2,Rat.intCast_le_intCast]at this;omega
theorem zfu (k:Int):∀(l:List (Int×Int)) (a:Int×Int),a.1≤k→(∃b∈l,k<b.1)→∃e∈eds (a::l),e.1.1≤k∧k<e.2.1∧(eds (a::l)).find? (xLe (xh k))=E e
 | [],a,_,⟨b,hb,_⟩=>by cases hb
 | b::r,a,ha,h=>by
  have e:eds (a::b::r)=(a,b)::eds (b::r):=rfl
  have hx:xLe (xh k) (a,b)=decide (k<b.1):=by
   unfold xLe;rw [decide_eq_decide,zdt,zpa]
  rw [e]
  by_cases hb:k<b.1
  ·refine⟨(a,b),by simp,ha,hb,?_⟩
   rw [List.find?_cons,hx,decide_eq_true hb]
  ·obtain⟨b',hb',hk⟩:=h
   have hb2:∃b∈r,k<b.1:=by
    rcases List.mem_cons.1 hb' with rfl|hb'
    ·exact absurd hk hb
    ·exact⟨b',hb',hk⟩
   obtain⟨e',he',h1,h2,h3⟩:=zfu k r b (by omega) hb2;refine⟨e',mC _ he',h1,h2,?_⟩;rw [List.find?_cons,hx,decide_eq_false hb];exact h3
theorem zeZ {l:List (Int×Int)} {k:Int} (hne:l≠[]) (h1:lineL l≤k) (h2:k<lineR l):∃e∈eds l,e.1.1≤k∧k<e.2.1∧atR l (xh k)=atE (xh k) e:=by
 cases l with
 | nil=>exact absurd rfl hne
 | cons a r =>
  have ha:a.1≤k:=h1
  have hr:∃b∈r,k<b.1:=by
   cases r with
   | nil=>unfold lineR at h2;simp at h2;omega
   | cons b r =>
    refine⟨(b::r).getLast (by simp),List.getLast_mem _,?_⟩;unfold lineR at h2;rw [gD,gE (by simp)]at h2;simp only [Option.getD_some]at h2;rw [List.getLast_eq_getElem]
    simpa using h2
  obtain⟨e,he,g1,g2,g3⟩:=zfu k r a ha hr;refine⟨e,he,g1,g2,?_⟩;unfold atR;rw [g3]
theorem zgR (k:Int) (e:Edg) (h:e.1.1<e.2.1):atE (xh k) e*((2*(e.2.1-e.1.1):Int):Rat)=((2*(e.2.1-e.1.1)*e.1.2+(2*k+1-2*e.1.1)*(e.2.2-e.1.2):Int):Rat):=by
 have hw:((e.2.1-e.1.1:Int):Rat)≠0:=by
  intro h0;have:(e.2.1-e.1.1:Int)=0:=by exact_mod_cast h0
  omega
 have h2:(2:Rat)≠0:=by decide
 have hx:xh k*2=((2*k+1:Int):Rat):=by unfold xh;rw [Rat.div_mul_cancel h2]
 unfold atE
 generalize hq:((xh k-((e.1.1:Int):Rat))*((e.2.2-e.1.2:Int):Rat)) / ((e.2.1-e.1.1:Int):Rat)=q
 have hqw:q*((e.2.1-e.1.1:Int):Rat)=(xh k-((e.1.1:Int):Rat))*((e.2.2-e.1.2:Int):Rat):=by rw [←hq,Rat.div_mul_cancel hw]
 simp only [Rat.intCast_add,Rat.intCast_mul,Rat.intCast_sub]at hqw hx ⊢
 grind
end
section
theorem rlt {a b c:Rat} (h:a≤b) (k:b<c):a<c:=Rat.not_le.1 fun h9=>Rat.not_le.2 k (Rat.le_trans h9 h)
theorem ltr {a b c:Rat} (h:a<b) (k:b≤c):a<c:=Rat.not_le.1 fun h9=>Rat.not_le.2 h (Rat.le_trans k h9)
theorem rtr {a b c:Rat} (h:a<b) (k:b<c):a<c:=ltr h (Rat.le_of_lt k)
theorem rirr {a:Rat}:¬a<a:=fun h=>Rat.not_le.2 h Rat.le_refl
section
variable {α:Type} (l r:α→Int) (lo up:α→Int→Rat)
def AbK (i j:α):Prop:=max (l i) (l j)<min (r i) (r j)∧∀k:Int,max (l i) (l j)≤k→k<min (r i) (r j)→up j k≤lo i k
structure ApK (S:List α):Prop where
 fat:∀i∈S,∀k,l i≤k→k<r i→lo i k<up i k
 two:∀i∈S,∀j∈S,i≠j→max (l i) (l j)<min (r i) (r j)→AbK l r lo up i j∨AbK l r lo up j i
variable {l r lo up}
theorem ApK.irr {S:List α} (h:ApK l r lo up S) {i:α} (hi:i∈S):¬AbK l r lo up i i:=by
 rintro ⟨h1,h2⟩;have h3:=h2 (l i) (by omega) (by omega);have h4:=h.fat i hi (l i) (by omega) (by omega);exact rirr (ltr h4 h3)
theorem ApK.key {S:List α} (h:ApK l r lo up S) {a m b:α} (ha:a∈S) (hm:m∈S) (hb:b∈S) (h1:AbK l r lo up a m) (h2:AbK l r lo up m b) (ra:r m≤r a) (rb:r m≤r b):AbK l r lo up a b:=by
 obtain⟨o1,f1⟩:=h1;obtain⟨o2,f2⟩:=h2;have c1:=f1 (r m-1) (by omega) (by omega);have c2:=f2 (r m-1) (by omega) (by omega);have d0:=h.fat m hm (r m-1) (by omega) (by omega);have d1:=h.fat a ha (r m-1) (by omega) (by omega);have d2:=h.fat b hb (r m-1) (by omega) (by omega);have hlt:up b (r m-1)<lo a (r m-1):=ltr (rlt c2 d0) c1
 have hne:a≠b:=by
  rintro rfl;exact rirr (rtr hlt d1)
 rcases h.two a ha b hb hne (by omega)with h3|h3
 ·exact h3
 ·have:=h3.2 (r m-1) (by omega) (by omega)
  exact absurd (rtr (ltr (rtr hlt d1) this) d2) rirr
theorem ApK.sub {S T:List α} (h:ApK l r lo up S) (hs:∀x∈T,x∈S):ApK l r lo up T:=
 ⟨fun i hi=>h.fat i (hs i hi),fun i hi j hj=>h.two i (hs i hi) j (hs j hj)⟩
theorem zdV (r:α→Int):∀{S:List α},S≠[]→∃m∈S,∀x∈S,r m≤r x
 | [a],_=>⟨a,by simp,fun x hx=>by rw [List.mem_singleton.1 hx];exact Int.le_refl _⟩
 | a::b::t,_=>by
  obtain⟨m,hm,hmin⟩:=zdV r (S:=b::t) (by simp)
  by_cases hc:r a≤r m
  ·refine⟨a,by simp,fun x hx=>?_⟩
   rcases List.mem_cons.1 hx with rfl|hx
   ·exact Int.le_refl _
   ·exact Int.le_trans hc (hmin x hx)
  ·refine⟨m,mC _ hm,fun x hx=>?_⟩
   rcases List.mem_cons.1 hx with rfl|hx
   ·omega
   ·exact hmin x hx
theorem zgV (p:α→Prop):∀(L:List α),∃A B,L=A++B∧(∀y∈B,¬p y)∧(A=[]∨∃A' b,A=A'++[b]∧p b)
 | []=>⟨[],[],rfl,by simp,.inl rfl⟩
 | x::L=>by
  obtain⟨A,B,rfl,h1,h2⟩:=zgV p L
  rcases h2 with rfl|⟨A',b,rfl,hb⟩
  ·by_cases hx:p x
   ·exact⟨[x],B,rfl,h1,.inr ⟨[],x,rfl,hx⟩⟩
   ·exact⟨[],x::B,rfl,fun y hy=>by rcases List.mem_cons.1 hy with rfl|hy;exact hx;exact h1 y hy,.inl rfl⟩
  ·exact⟨x::(A'++[b]),B,rfl,h1,.inr ⟨x::A',b,rfl,hb⟩⟩
theorem ApK.order [DecidableEq α]:∀(n:Nat) (S:List α),S.length=n→S.Nodup→ApK l r lo up S→∃L:List α,(∀x,x∈L ↔ x∈S)∧L.Pairwise fun x y=>¬AbK l r lo up x y
 | 0,S,hn,_,_=>by
  have:=List.eq_nil_of_length_eq_zero hn;subst this;exact⟨[],by simp,List.Pairwise.nil⟩
 | n+1,S,hn,hnd,h=>by
  obtain⟨m,hm,hmin⟩:=zdV r (S:=S) (by rintro rfl;simp at hn);have hme:∀x,x∈S.erase m ↔ x≠m∧x∈S:=fun x=>hnd.mem_erase_iff
  obtain⟨L,hL,hp⟩:=ApK.order n (S.erase m) (by rw [List.length_erase_of_mem hm,hn];rfl) (hnd.erase m) (h.sub fun x hx=>((hme x).1 hx).2);obtain⟨A,B,rfl,h1,h2⟩:=zgV (fun y=>AbK l r lo up m y) L;have hin:∀x,x∈A++B→x∈S:=fun x hx=>((hme x).1 ((hL x).1 hx)).2
  refine⟨A++m::B,fun x=>?_,?_⟩
  ·by_cases hxm:x=m
   ·subst hxm;simp [hm]
   ·have:=hL x
    rw [hme x]at this;simp only [List.mem_append,List.mem_cons,hxm,false_or]at this ⊢;rw [this];simp [hxm]
  ·rw [List.pairwise_append]at hp ⊢
   obtain⟨pA,pB,pAB⟩:=hp;refine⟨pA,List.pairwise_cons.2 ⟨fun y hy=>h1 y hy,pB⟩,fun x hx y hy=>?_⟩
   rcases List.mem_cons.1 hy with rfl|hy
   ·intro hab
    rcases h2 with rfl|⟨A',b,rfl,hb⟩
    ·cases hx
    ·have hxS:=hin x (List.mem_append.2 (.inl hx))
     have hbS:=hin b (by simp);have hxb:=h.key hxS hm hbS hab hb (hmin x hxS) (hmin b hbS)
     rcases List.mem_append.1 hx with hx|hx
     ·rw [List.pairwise_append]at pA
      exact pA.2.2 x hx b (by simp) hxb
     ·rw [List.mem_singleton.1 hx]at hxb
      exact h.irr hbS hxb
   ·exact pAB x hx y hy
theorem ApK.rank [DecidableEq α] {S:List α} (hnd:S.Nodup) (h:ApK l r lo up S):∃rk:α→Nat,∀i∈S,∀j∈S,AbK l r lo up i j→rk j<rk i:=by
 obtain⟨L,hL,hp⟩:=ApK.order S.length S rfl hnd h;refine⟨fun x=>L.idxOf x,fun i hi j hj hab=>?_⟩;have hi':=(hL i).2 hi;have hj':=(hL j).2 hj;have ei:i≠j:=by rintro rfl;exact h.irr hi hab
 show L.idxOf j<L.idxOf i
 have li:=List.idxOf_lt_length_of_mem hi';have lj:=List.idxOf_lt_length_of_mem hj';have gi:=List.getElem_idxOf li;have gj:=List.getElem_idxOf lj
 rcases Nat.lt_trichotomy (L.idxOf i) (L.idxOf j)with hlt|he|hgt
 ·have:=List.pairwise_iff_getElem.1 hp _ _ li lj hlt
  rw [gi,gj]at this;exact absurd hab this
 ·have:L[L.idxOf i]'li=L[L.idxOf j]'lj:=by simp only [he]
  rw [gi,gj]at this;exact absurd this ei
 ·exact hgt
end
end
section
open Go.RowKit Go.Shelf Go.Sort
theorem third {cs:List (Int×Int)} (h:Cvx cs) (u v:Int×Int):∃c∈cs,c≠u∧c≠v:=by
 apply Classical.byContradiction
 intro hn
 have hs:∀c∈cs,c∈[u,v]:=fun c hc=>by
  apply Classical.byContradiction
  intro h9;exact hn ⟨c,hc,fun e=>h9 (by simp [e]),fun e=>h9 (by simp [e])⟩
 have:=List.Nodup.length_le_of_subset h.nd hs;have:=h.three;simp at *;omega
theorem EdgC.ne {cs:List (Int×Int)} (h:Cvx cs) {u v:Int×Int} (he:EdgC cs u v):u≠v:=by
 rintro rfl;obtain⟨c,hc,h1,h2⟩:=third h u u;have:=h.left u u he c hc h1 h2;unfold trn at this;have e:(u.1-u.1)*(c.2-u.2)-(u.2-u.2)*(c.1-u.1)=0:=by grind
 omega
theorem Cvx.minLow {cs:List (Int×Int)} (h:Cvx cs):∃u,LowV cs u∧∀c∈cs,u.1≤c.1:=by
 obtain⟨v,hv,hmin⟩:=zdV (fun q:Int×Int=>q.1) (S:=cs) (by rintro rfl;have:=h.three;simp at this);have h2:2≤cs.length:=by have:=h.three;omega
 obtain⟨s,hs⟩:=EdgC.next hv h2
 by_cases hvs:v.1<s.1
 ·exact⟨v,⟨v,s,⟨hs,hvs⟩,.inl rfl⟩,hmin⟩
 have hsm:=hs.mem.2;have e1:s.1=v.1:=by have:=hmin s hsm;omega
 obtain⟨t,ht⟩:=EdgC.next hsm h2
 by_cases hst:s.1<t.1
 ·exact⟨s,⟨s,t,⟨ht,hst⟩,.inl rfl⟩,fun c hc=>by rw [e1];exact hmin c hc⟩
 exfalso
 have htm:=ht.mem.2;have e2:t.1=v.1:=by have:=hmin t htm;omega
 by_cases htv:t=v
 ·subst htv
  obtain⟨c,hc,h1,h3⟩:=third h t s;have a1:=h.left t s hs c hc h1 h3;have a2:=h.left s t ht c hc h3 h1;unfold trn at a1 a2;have e:(s.1-t.1)*(c.2-s.2)-(s.2-t.2)*(c.1-s.1)+((t.1-s.1)*(c.2-t.2)-(t.2-s.2)*(c.1-t.1))=0:=by grind
  omega
 ·have hts:t≠s:=fun e=>(ht.ne h) e.symm
  have a1:=h.left v s hs t htm htv hts;unfold trn at a1;rw [e1,e2,Int.sub_self]at a1;simp at a1
def mzP (p:Int×Int):Int×Int:=(p.1,-p.2)
theorem ze7 (p:Int×Int):mzP (mzP p)=p:=by unfold mzP;simp
theorem Cvx.mz {cs:List (Int×Int)} (h:Cvx cs):Cvx (cs.map mzP).reverse:=
 h.flip _ (fun u v c=>by unfold trn mzP;dsimp only;grind) (fun x y e=>by rw [←ze7 x,e,ze7])
theorem LowV.mz {cs:List (Int×Int)} {q:Int×Int} (h:LowV (cs.map mzP).reverse q):UpV cs (mzP q):=by
 obtain⟨u,v,⟨he,hx⟩,hq⟩:=h;obtain⟨v',u',e1,e2,he'⟩:=(EdgC.rev he).map;refine⟨v',u',⟨he',?_⟩,?_⟩
 ·rw [e1,e2]at hx
  exact hx
 ·rcases hq with rfl|rfl
  ·right;rw [e2,ze7]
  ·left;rw [e1,ze7]
theorem Cvx.minUp {cs:List (Int×Int)} (h:Cvx cs):∃u,UpV cs u∧∀c∈cs,u.1≤c.1:=by
 obtain⟨u,hu,hm⟩:=h.mz.minLow;refine⟨mzP u,hu.mz,fun c hc=>?_⟩;exact hm (mzP c) (List.mem_reverse.2 (List.mem_map_of_mem hc))
theorem Cvx.maxLow {cs:List (Int×Int)} (h:Cvx cs):∃u,LowV cs u∧∀c∈cs,c.1≤u.1:=by
 obtain⟨u,hu,hm⟩:=h.ng.minUp;refine⟨ngP u,?_,fun c hc=>?_⟩
 ·have:=UpV.ng.1 hu
  rwa [List.map_map,show ngP ∘ ngP=id from funext zaN,List.map_id]at this
 ·have:=hm (ngP c) (List.mem_map_of_mem hc)
  unfold ngP at *;dsimp only at *;omega
theorem Cvx.maxUp {cs:List (Int×Int)} (h:Cvx cs):∃u,UpV cs u∧∀c∈cs,c.1≤u.1:=by
 obtain⟨u,hu,hm⟩:=h.ng.minLow;refine⟨ngP u,UpV.ng.2 (by rw [zaN];exact hu),fun c hc=>?_⟩;have:=hm (ngP c) (List.mem_map_of_mem hc);unfold ngP at *;dsimp only at *;omega
theorem Rise.ends {l:List (Int×Int)} (h:Rise l) (hne:l≠[]):(∃q∈l,q.1=lineL l)∧(∃q∈l,q.1=lineR l)∧∀q∈l,lineL l≤q.1∧q.1≤lineR l:=by
 have hl:=List.length_pos_iff.2 hne;have hp:=List.pairwise_iff_getElem.1 h;have e0:lineL l=(l[0]'hl).1:=by unfold lineL;rw [gD,gE hl];rfl
 have e1:lineR l=(l[l.length-1]'(by omega)).1:=by unfold lineR;rw [gD,gE (by omega)];rfl
 refine⟨⟨_,List.getElem_mem hl,e0.symm⟩,⟨_,List.getElem_mem (by omega),e1.symm⟩,fun q hq=>?_⟩;obtain⟨i,hi,rfl⟩:=List.getElem_of_mem hq;rw [e0,e1]
 constructor
 ·rcases Nat.eq_zero_or_pos i with rfl|hi0
  ·exact Int.le_refl _
  ·have:=hp 0 i hl hi hi0;omega
 ·rcases Nat.lt_or_ge i (l.length-1)with h9|h9
  ·have:=hp i (l.length-1) hi (by omega) h9;omega
  ·have:i=l.length-1:=by omega
   subst this;exact Int.le_refl _
theorem UpV.mem {cs:List (Int×Int)} {q:Int×Int} (h:UpV cs q):q∈cs:=by
 obtain⟨u,v,⟨he,_⟩,rfl|rfl⟩:=h
 ·exact he.mem.1
 ·exact he.mem.2
theorem zbe {p:Pl} (h:placedOk p=true):lineL (upP2 p)=lineL (lowP2 p)∧lineR (upP2 p)=lineR (lowP2 p)∧lineL (lowP2 p)<lineR (lowP2 p)∧lowP2 p≠[]∧upP2 p≠[]:=by
 have hc:=zbi h;obtain⟨r1,m1,d1⟩:=zbI h;obtain⟨r2,m2,d2⟩:=zcw h;obtain⟨a,ha,hamin⟩:=hc.minLow;obtain⟨b,hb,hbmin⟩:=hc.minUp;obtain⟨c,hcl,hcmax⟩:=hc.maxLow;obtain⟨d,hd,hdmax⟩:=hc.maxUp;have n1:lowP2 p≠[]:=fun e=>by have:=(m1 a).2 ha;rw [e]at this;cases this
 have n2:upP2 p≠[]:=fun e=>by have:=(m2 b).2 hb;rw [e]at this;cases this
 obtain⟨⟨q1,hq1,e1⟩,⟨q2,hq2,e2⟩,f1⟩:=r1.ends n1;obtain⟨⟨q3,hq3,e3⟩,⟨q4,hq4,e4⟩,f2⟩:=r2.ends n2;have g1:=f1 a ((m1 a).2 ha);have g2:=f2 b ((m2 b).2 hb);have g3:=f1 c ((m1 c).2 hcl);have g4:=f2 d ((m2 d).2 hd);have k1:=hamin q3 ((m2 q3).1 hq3).mem;have k2:=hbmin q1 ((m1 q1).1 hq1).mem;have k3:=hcmax q4 ((m2 q4).1 hq4).mem;have k4:=hdmax q2 ((m1 q2).1 hq2).mem;have k5:=hamin q1 ((m1 q1).1 hq1).mem;have k6:=hbmin q3 ((m2 q3).1 hq3).mem;have k7:=hcmax q2 ((m1 q2).1 hq2).mem;have k8:=hdmax q4 ((m2 q4).1 hq4).mem;refine⟨by omega,by omega,?_,n1,n2⟩;obtain⟨u,v,⟨he,hx⟩,_⟩:=ha;have hu:=f1 u ((m1 u).2 ⟨u,v,⟨he,hx⟩,.inl rfl⟩);have hv:=f1 v ((m1 v).2 ⟨u,v,⟨he,hx⟩,.inr rfl⟩);omega
theorem zlE {p:Pl} (h:placedOk p=true) {k:Int} (h1:lineL (lowP2 p)≤k) (h2:k<lineR (lowP2 p)):atR (lowP2 p) (xh k)<atR (upP2 p) (xh k):=by
 have hc:=zbi h;obtain⟨s1,s2,_,n1,n2⟩:=zbe h;obtain⟨_,_,d1⟩:=zbI h;obtain⟨_,_,d2⟩:=zcw h;obtain⟨⟨a,b⟩,he,a1,a2,e1⟩:=zeZ n1 h1 h2;obtain⟨⟨d,c⟩,hf,b1,b2,e2⟩:=zeZ n2 (by rw [s1];exact h1) (by rw [s2];exact h2);obtain⟨hE,hab⟩:=d1 _ he;obtain⟨hF,hcd⟩:=d2 _ hf;dsimp only at a1 a2 b1 b2 hE hab hF hcd;rw [e1,e2];have c0:=hc.left0 hE hF.mem.1;have c1:=hc.left0 hE hF.mem.2
 have hpos:0<trn a b c∨0<trn a b d:=by
  apply Classical.byContradiction
  intro hn;have z0:trn a b c=0:=by omega
  have z1:trn a b d=0:=by omega
  have hca:c=a∨c=b:=by
   apply Classical.byContradiction
   intro h9;have:=hc.left a b hE c hF.mem.1 (fun e=>h9 (.inl e)) (fun e=>h9 (.inr e));omega
  have hda:d=a∨d=b:=by
   apply Classical.byContradiction
   intro h9;have:=hc.left a b hE d hF.mem.2 (fun e=>h9 (.inl e)) (fun e=>h9 (.inr e));omega
  rcases hca with rfl|rfl
  ·omega
  ·rcases hda with rfl|rfl
   ·obtain⟨q,hq,h8,h9⟩:=third hc d c
    have w1:=hc.left d c hE q hq h8 h9;have w2:=hc.left c d hF q hq h9 h8;have:trn d c q+trn c d q=0:=by unfold trn;grind
    omega
   ·omega
 refine zky (p:=2*(b.1-a.1)) (q:=2*(c.1-d.1)) (by omega) (by omega) (zgR k (a,b) (by dsimp only;omega)) (zgR k (d,c) (by dsimp only;omega)) ?_;dsimp only
 have e:(2*(c.1-d.1)*d.2+(2*k+1-2*d.1)*(c.2-d.2))*(2*(b.1-a.1))-(2*(b.1-a.1)*a.2+(2*k+1-2*a.1)*(b.2-a.2))*(2*(c.1-d.1))=2*((2*k+1-2*d.1)*trn a b c+(2*c.1-(2*k+1))*trn a b d):=by
  unfold trn
  grind
 have p1:0≤(2*k+1-2*d.1)*trn a b c:=Int.mul_nonneg (by omega) c0;have p2:0≤(2*c.1-(2*k+1))*trn a b d:=Int.mul_nonneg (by omega) c1
 rcases hpos with hp|hp
 ·have:=Int.mul_pos (show 0<2*k+1-2*d.1 by omega) hp
  omega
 ·have:=Int.mul_pos (show 0<2*c.1-(2*k+1) by omega) hp
  omega
end
section
open Go.RowKit Go.Shelf Go.Sort Go.Lib
theorem zph (m k:Int):(m:Rat)≤xh k ↔ m≤k:=by
 have h2:(0:Rat)≤2:=by decide
 have e2:(m:Rat)*2=((m*2:Int):Rat):=by rw [Rat.intCast_mul];rfl
 constructor
 ·intro h
  have:=Rat.mul_le_mul_of_nonneg_right h h2;rw [zhy,e2,Rat.intCast_le_intCast]at this;omega
 ·intro h
  refine Rat.not_lt.1 fun hlt=>?_
  have:=Rat.mul_le_mul_of_nonneg_right (Rat.le_of_lt hlt) h2;rw [zhy,e2,Rat.intCast_le_intCast]at this;omega
theorem zk6 (a b:Int×Int):atE (a.1:Rat) (a,b)=(a.2:Rat):=by
 unfold atE;dsimp only;rw [Rat.sub_self,Rat.zero_mul,Rat.div_def,Rat.zero_mul,Rat.add_zero]
theorem ziN (a b:Int×Int) (h:a.1<b.1):atE (b.1:Rat) (a,b)=(b.2:Rat):=by
 have hw:((b.1-a.1:Int):Rat)≠0:=by
  intro h0;have:(b.1-a.1:Int)=0:=by exact_mod_cast h0
  omega
 unfold atE;dsimp only
 generalize hq:(((b.1:Int):Rat)-((a.1:Int):Rat))*((b.2-a.2:Int):Rat) / ((b.1-a.1:Int):Rat)=q
 have hqw:q*((b.1-a.1:Int):Rat)=(((b.1:Int):Rat)-((a.1:Int):Rat))*((b.2-a.2:Int):Rat):=by rw [←hq,Rat.div_mul_cancel hw]
 rw [←Rat.intCast_sub,Rat.mul_comm]at hqw
 have:q=((b.2-a.2:Int):Rat):=by
  have h9:(q-((b.2-a.2:Int):Rat))*((b.1-a.1:Int):Rat)=0:=by grind
  rcases Rat.mul_eq_zero.1 h9 with h9|h9
  ·grind
  ·exact absurd h9 hw
 rw [this,Rat.intCast_sub]
 grind
theorem ziO (x:Rat) (a b:Int×Int) (ha:((a.1:Int):Rat)≤x) (hb:x≤((b.1:Int):Rat)):∀(l:List (Int×Int)),Rise l→(a,b)∈eds l→∃e,(eds l).find? (xLe x)=E e∧atE x e=atE x (a,b)
 | [],_,h=>by simp [eds]at h
 | [c],_,h=>by simp [eds]at h
 | c::d::r,hR,h=>by
  have e:eds (c::d::r)=(c,d)::eds (d::r):=rfl
  have hx:xLe x (c,d)=decide (x≤((d.1:Int):Rat)):=by
   unfold xLe;rw [decide_eq_decide,zdt]
  obtain⟨hc,hR2⟩:=List.pairwise_cons.1 hR;rw [e]at h ⊢;rw [List.find?_cons,hx]
  rcases List.mem_cons.1 h with h|h
  ·cases h
   rw [decide_eq_true hb];exact⟨_,rfl,rfl⟩
  ·by_cases hd:x≤((d.1:Int):Rat)
   ·rw [decide_eq_true hd]
    refine⟨_,rfl,?_⟩;have ham:=(Rise.between hR2 h).1
    have hle:d.1≤a.1:=by
     rcases List.mem_cons.1 ham with hq|hq
     ·dsimp only at hq;rw [hq];exact Int.le_refl _
     ·have:=(List.pairwise_cons.1 hR2).1 _ hq;dsimp only at this;omega
    have hge:a.1≤d.1:=by
     have:=Rat.le_trans ha hd;exact Rat.intCast_le_intCast.1 this
    have had:a=d:=by
     rcases List.mem_cons.1 ham with hq|hq
     ·exact hq
     ·have:=(List.pairwise_cons.1 hR2).1 _ hq;dsimp only at this;omega
    subst had;have hxa:x=((a.1:Int):Rat):=Rat.le_antisymm hd ha;rw [hxa,zk6,ziN _ _ (hc a (by simp))]
   ·rw [decide_eq_false hd]
    exact ziO x a b ha hb (d::r) hR2 h
theorem zn3 {x:Rat} {l:List (Int×Int)} (hR:Rise l) {e:Edg} (he:e∈eds l) (ha:((e.1.1:Int):Rat)≤x) (hb:x≤((e.2.1:Int):Rat)):atR l x=atE x e:=by
 obtain⟨f,h1,h2⟩:=ziO x e.1 e.2 ha hb l hR he;unfold atR;rw [h1];exact h2
theorem zde (e:Edg) (s t x:Rat):(t-s)*atE x e=(t-x)*atE s e+(x-s)*atE t e:=by
 unfold atE;simp only [Rat.div_def]
 grind
theorem zfw {zs:List Int} {z:Int} (h:z∈zs):z∈compact zs:=by
 obtain⟨i,hi,rfl⟩:=List.getElem_of_mem h;have hg:∀j,(hj:j<zs.length)→zs.toArray[j]! = zs[j]:=fun j hj=>by rw [getElem!_pos _ _ (by simpa using hj)];simp
 have key:∀i,(hi:i<zs.length)→∃j,j<zs.length∧keeps zs.toArray j=true∧zs.toArray[j]! = zs[i]:=by
  intro i
  induction i with
  | zero=>intro hi;exact⟨0,hi,by simp [keeps],hg 0 hi⟩
  | succ i ih =>
   intro hi
   cases hk:keeps zs.toArray (i+1)with
   | true=>exact⟨i+1,hi,hk,hg _ hi⟩
   | false =>
    obtain⟨j,h1,h2,h3⟩:=ih (by omega);refine⟨j,h1,h2,?_⟩;rw [h3,←hg _ hi,←hg i (by omega)];simp [keeps]at hk
    grind
 obtain⟨j,h1,h2,h3⟩:=key i hi;unfold compact compactUpTo;refine List.mem_map.2 ⟨j,List.mem_filter.2 ⟨List.mem_range.2 h1,h2⟩,h3⟩
theorem zho {s:Sp} {z:Int} (h:z=s.lo∨z=s.hi∨(s.lo<z∧z<s.hi∧∃q∈s.over++s.under,q.1=z)):(z:Rat)∈stopsR s:=by
 unfold stopsR stopsZ;refine List.mem_map_of_mem (zfw (isort_mem.2 ?_))
 rcases h with rfl|rfl|⟨h1,h2,q,hq,rfl⟩
 ·simp
 ·simp
 ·refine mC _ (mC _ ?_)
  unfold midP;refine List.mem_filter.2 ⟨List.mem_map_of_mem hq,?_⟩;unfold inP;simp [h1,h2]
theorem znL {q:Rat} (h:0≤q.num.sign):0≤q:=by
 have:0≤q.num:=Int.sign_nonneg_iff.1 h;exact Rat.num_nonneg.1 this
theorem zjx {L U:List (Int×Int)} (rL:Rise L) (rU:Rise U) (nL:L≠[]) (nU:U≠[]) (h:0≤(leastR (btw L U)).2.num.sign) {k:Int} (h1:(btw L U).lo≤k) (h2:k<(btw L U).hi):atR U (xh k)≤atR L (xh k):=by
 have h0:=znL h;have u1:lineL L≤k∧lineL U≤k:=by unfold btw at h1;dsimp only at h1;omega
 have u2:k<lineR L∧k<lineR U:=by unfold btw at h2;dsimp only at h2;omega
 obtain⟨e,he,a1,a2,_⟩:=zeZ nL u1.1 u2.1;obtain⟨f,hf,b1,b2,_⟩:=zeZ nU u1.2 u2.2;have me:=rL.between he;have mf:=rU.between hf;obtain⟨s,hs⟩:∃s,s=max (btw L U).lo (max e.1.1 f.1.1):=⟨_,rfl⟩;obtain⟨t,ht⟩:∃t,t=min (btw L U).hi (min e.2.1 f.2.1):=⟨_,rfl⟩
 have ms:(s:Rat)∈stopsR (btw L U):=by
  refine zho ?_
  by_cases c1:s=(btw L U).lo
  ·exact .inl c1
  ·refine .inr (.inr ⟨by omega,by omega,?_⟩)
   by_cases c2:s=e.1.1
   ·exact⟨e.1,List.mem_append.2 (.inl me.1),c2.symm⟩
   ·exact⟨f.1,List.mem_append.2 (.inr mf.1),by omega⟩
 have mt:(t:Rat)∈stopsR (btw L U):=by
  refine zho ?_
  by_cases c1:t=(btw L U).hi
  ·exact .inr (.inl c1)
  ·refine .inr (.inr ⟨by omega,by omega,?_⟩)
   by_cases c2:t=e.2.1
   ·exact⟨e.2,List.mem_append.2 (.inl me.2.1),c2.symm⟩
   ·exact⟨f.2,List.mem_append.2 (.inr mf.2.1),by omega⟩
 have gs:0≤gapR (btw L U) (s:Rat):=Rat.le_trans h0 (zgS _ _ ms);have gt:0≤gapR (btw L U) (t:Rat):=Rat.le_trans h0 (zgS _ _ mt);have xs:(s:Rat)≤xh k:=(zph s k).2 (by omega);have xt:xh k≤(t:Rat):=(zpa k t).2 (by omega);have st:(s:Rat)<(t:Rat):=Rat.intCast_lt_intCast.2 (by omega);have es1:((e.1.1:Int):Rat)≤(s:Rat):=Rat.intCast_le_intCast.2 (by omega);have fs1:((f.1.1:Int):Rat)≤(s:Rat):=Rat.intCast_le_intCast.2 (by omega);have et1:(t:Rat)≤((e.2.1:Int):Rat):=Rat.intCast_le_intCast.2 (by omega);have ft1:(t:Rat)≤((f.2.1:Int):Rat):=Rat.intCast_le_intCast.2 (by omega)
 have on:∀x:Rat,(s:Rat)≤x→x≤(t:Rat)→atR L x=atE x e∧atR U x=atE x f:=fun x c1 c2 =>
  ⟨zn3 rL he (Rat.le_trans es1 c1) (Rat.le_trans c2 et1),zn3 rU hf (Rat.le_trans fs1 c1) (Rat.le_trans c2 ft1)⟩
 unfold gapR btw at gs gt;dsimp only at gs gt;rw [(on _ Rat.le_refl (Rat.le_of_lt st)).1,(on _ Rat.le_refl (Rat.le_of_lt st)).2]at gs;rw [(on _ (Rat.le_of_lt st) Rat.le_refl).1,(on _ (Rat.le_of_lt st) Rat.le_refl).2]at gt;rw [(on _ xs xt).1,(on _ xs xt).2];have q1:=zde e s t (xh k);have q2:=zde f s t (xh k)
 generalize atE (xh k) e=E0 at *
 generalize atE (xh k) f=F0 at *
 generalize atE (s:Rat) e=E1 at *
 generalize atE (s:Rat) f=F1 at *
 generalize atE (t:Rat) e=E2 at *
 generalize atE (t:Rat) f=F2 at *
 generalize (s:Rat)=s' at *
 generalize (t:Rat)=t' at *
 generalize xh k=x at *
 refine Rat.not_lt.1 fun hlt=>?_
 have p1:0≤(t'-x)*(E1-F1):=Rat.mul_nonneg (by grind) gs;have p2:0≤(x-s')*(E2-F2):=Rat.mul_nonneg (by grind) gt;have p3:0<(t'-s')*(F0-E0):=Rat.mul_pos (by grind) (by grind)
 grind
end
end Go.Proofs.YteipgejmhfpkaaaGreatDoor.Cop
