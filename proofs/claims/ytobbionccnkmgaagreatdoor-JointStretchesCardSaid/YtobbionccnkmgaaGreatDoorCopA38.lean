/- Part 39 of 41: contracts of what the law calls. -/
import Derived.Test.YtobbionccnkmgaaGreatDoorCopA37
import Derived.Test.YtobbionccnkmgaaGreatDoorCopA36
import Derived.Laws.StructEq
import Derived.Test.YtobbionccnkmgaaGreatDoorCopA24
set_option linter.unusedSectionVars false
set_option maxRecDepth 1000000
set_option maxHeartbeats 16000000
set_option linter.unusedSimpArgs false
set_option linter.unusedVariables false
namespace Go.Proofs.YtobbionccnkmgaaGreatDoor.Cop
open Go.RowKit Go.Shelf Go.Maps Go.Sort Go.Lib
attribute [local go_sem] Oper.semAt_some
def keyAt (ks:List (JS×Value)) (m:Nat):Nat:=match ks[m]? with|some x=>x.1.k.toNat|none=>0
def fM (ks:List (JS×Value)) (bsf:Nat→List Be):Nat→Nat→List Int
 | 0=>fun _=>[]
 | m+1=>updA (fM ks bsf m) (keyAt ks m) (undQ ks (bsf (keyAt ks m)) (bsf (keyAt ks m)).length)
def CrO (W4:World) (base B:Nat) (ks:List (JS×Value)) (bsf:Nat→List Be) (gk:Nat) (t30:Value) (W:World):Prop:=
 ∃m N:Nat,m≤ks.length∧t30 = .int .i64 m∧gk=ks.length-m∧N≤121*m∧CrK base B W4 W∧Gm W base B N (fM ks bsf m)
theorem crs_outer (W4:World) (sb b5 B base:Nat) (r:Ru) (vg vp vs vj vr:Value) (ks:List (JS×Value)) (bsf:Nat→List Be) (va:Option Addr) (vn vc:Nat) (Q:Exit→Act→World→Prop) (x1 x2 x3 x4 x6 x7 x8 x9 x10 x11 x12 x13 x14 x15 x16 x17 x18 x19 x20 x21 x22 x23 x24 x25 x26 x27 x31 x32 x33 x34 x35 x36 x37 x38 x39 x40 x41 x42 x43 x44 x45 x46 x47 x48 x49 x50 x51 x52 x53 x54 x55 x56 x57 x58 x59 x60 x61 x62 x63 x64 x65 x66 x67 x68 x69 x70 x71 x72 x73 x74 x75 x76 x77 x78 x79 x80 x81 x82 x83 x84 x85:Value)
  (hvs:vs = .slice va vn vc) (hvg:∃a n c,vg = .slice a n c) (hvp:∃a n c,vp = .slice a n c)
  (hS:W4.heap[sb]?=some (.cells (svc r vg vp vs vj vr) 83 (0,0))) (hks:IsJs W4 vs ks) (hkv:∀j∈ks,∃a n c,j.2 = .slice a n c) (h5:W4.heap[b5]?=some (.cells #[.map (some B)] 112 (0,0)))
  (hG:Gm W4 base B 0 (fun _=>[])) (hbase:base≤W4.heap.size) (hnk:ks.length≤120) (hkb:∀x∈ks,∃k:Nat,x.1.k=k∧k<1000)
  (hbl:∀k,(bsf k).length≤121) (hbz:∀k,∀b∈bsf k,-1≤b.num∧b.num≤1000)
  (hBd:∀W,CrK base B W4 W→∀k:Nat,(∃x∈ks,x.1.k=k)→Calls Tryz.prog 47 #[.agg #[vg,vp],.int .i64 k,.int .i64 r.pin] W (RetBs W (bsf k)))
  (hQp:∀(c:List PanicEntry) (a:Act) (d:Option Nat) (v:Value) (w:World),Q (.panic c) (a.put d v) w→Q (.panic c) a w)
  (hQ:∀(y30 y7 y8 y9 y11 y31 y32 y33 y34 y35 y36 y37 y38 y39 y40 y41 y42 y43 y44 y45 y46 y47 y48 y49 y50 y51 y52 y53 y54 y55 y56 y57 y58 y59 y60 y61 y62 y63 y64 y65 y66 y67 y68 y69 y70 y71 y72 y73 y74 y75 y76 y77 y78:Value) (W:World) (N:Nat),CrK base B W4 W→Gm W base B N (fM ks bsf ks.length)→N≤121*ks.length→Q (.exit 0) { tmps:=#[.pointer (some ⟨sb,0,none⟩),x1,x2,x3,x4,.pointer (some ⟨b5,0,none⟩),x6,y7,y8,y9,x10,y11,x12,x13,x14,x15,x16,x17,x18,x19,x20,x21,x22,x23,x24,x25,x26,x27,.slice va vn vc,.int .i64 vn,y30,y31,y32,y33,y34,y35,y36,y37,y38,y39,y40,y41,y42,y43,y44,y45,y46,y47,y48,y49,y50,y51,y52,y53,y54,y55,y56,y57,y58,y59,y60,y61,y62,y63,y64,y65,y66,y67,y68,y69,y70,y71,y72,y73,y74,y75,y76,y77,y78,x79,x80,x81,x82,x83,x84,x85],defers:=[] } W) :
  (Code.loop (loopAt Tryz.f28 0)).wp Tryz.prog Q { tmps:=#[.pointer (some ⟨sb,0,none⟩),x1,x2,x3,x4,.pointer (some ⟨b5,0,none⟩),x6,x7,x8,x9,x10,x11,x12,x13,x14,x15,x16,x17,x18,x19,x20,x21,x22,x23,x24,x25,x26,x27,.slice va vn vc,.int .i64 vn,.int .i64 0,x31,x32,x33,x34,x35,x36,x37,x38,x39,x40,x41,x42,x43,x44,x45,x46,x47,x48,x49,x50,x51,x52,x53,x54,x55,x56,x57,x58,x59,x60,x61,x62,x63,x64,x65,x66,x67,x68,x69,x70,x71,x72,x73,x74,x75,x76,x77,x78,x79,x80,x81,x82,x83,x84,x85],defers:=[] } W4:=by
 subst hvs;have Hvn:=hd9 (show vn=ks.length from hks.len);have hvnb:vn≤120:=by have:=Hvn.out;omega
 obtain⟨ga,gn,gc,rfl⟩:=hvg;obtain⟨pa,pn,pc1,rfl⟩:=hvp;have HS:=hd9 hS;have Hks:=hd9 hks;have Hkv:=hd9 hkv;have H5:=hd9 h5;have HG:=hd9 hG;have Hbl:=hd9 hbl;have Hbz:=hd9 hbz;have HBd:=hd9 hBd;have HQ:=hd9 hQ;have HQp:=hd9 hQp;have Hkb:=hd9 hkb
 have hns:B≠sb∧B≠b5:=by
  obtain⟨es,clock,hm⟩:=hG.map;refine⟨fun e=>?_,fun e=>?_⟩<;>subst e
  ·rw [hS]at hm;cases hm
  ·rw [h5]at hm;cases hm
 clear hS hks hkv h5 hG hbl hbz hBd hQ hQp hkb hnk;unfold loopAt;simp only [Tryz.f28,loopsOf,List.append_nil,List.nil_append,List.singleton_append,List.cons_append,List.getD_cons_zero,List.getD_cons_succ]
 go_loopg [30] vn (CrO W4 base B ks bsf)
 case atStart=>exact⟨0,0,by omega,rfl,by rw [Hvn.out];rfl,by omega,CrK.refl _ _ _,HG.out⟩
 case round =>
  obtain⟨m,N,hm,rfl,rfl,hN,hc0,hg⟩:=hrel;rw [←Hvn.out]at hm
  by_cases hlt:m<vn
  ·have hS:=hc0.2 sb _ HS.out (Ne.symm hns.1) (.inr fun cs fr e=>by cases e)
   have h5:=hc0.2 b5 _ H5.out (Ne.symm hns.2) (.inr fun cs fr e=>by cases e);have hks:IsJs wr (.slice va vn vc) ks:=Hks.out.keep (hc0.keepT (by decide) HG.out.notCells);have hzw:=hc0.1.1;obtain⟨x,hx⟩:∃x,ks[m]?=some x:=⟨ks[m]'(by rw [←Hvn.out];exact hlt),List.getElem?_eq_getElem _⟩;have hxm:=lM hx;obtain⟨sa,sn,sc,hxv⟩:=Hkv.out x hxm;obtain⟨kk,hkk,hkl⟩:=Hkb.out x hxm;have hkey:keyAt ks m=kk:=by unfold keyAt;rw [hx];simp [hkk]
   have hBk:=HBd.out;obtain⟨bb,bo,rfl,hbb,hc⟩:=hks.at' hx;obtain⟨⟨⟨nm,sh,d,de,gx,gz,wy,ax,az,sk⟩,k0,⟨xl,xh⟩,zl,zh⟩,v⟩:=x;dsimp only at hkk hxv;subst hkk hxv;unfold jca at hc;dsimp only at hc;have d0:=hc 0 (.string nm) rfl;have d1:=hc 1 (.slice sa sn sc) rfl;have d2:=hc 2 (.int .i64 d) rfl;have d3:=hc 3 (.int .i64 de) rfl;have d4:=hc 4 (.int .i64 gx) rfl;have d5:=hc 5 (.int .i64 gz) rfl;have d6:=hc 6 (.int .i64 wy) rfl;have d7:=hc 7 (.int .i64 ax) rfl;have d8:=hc 8 (.int .i64 az) rfl;have d9:=hc 9 (.int .u8 sk) rfl;have d10:=hc 10 (.int .i64 (kk:Int)) rfl;have d11:=hc 11 (.int .i64 xl) rfl;have d12:=hc 12 (.int .i64 xh) rfl;have d13:=hc 13 (.int .i64 zl) rfl;have d14:=hc 14 (.int .i64 zh) rfl;simp only [Nat.add_zero]at d0;have e1:=qcB hS (i:=1) (u:=.int .i64 r.pin) rfl;have e7:=qcB hS (i:=7) (u:=.slice ga gn gc) rfl;have e8:=qcB hS (i:=8) (u:=.slice pa pn pc1) rfl;have zs:=heap_lt hS;have zs1:sb<wr.heap.size+1:=by omega
   have Hg:=hd9 hg;have Hc0:=hd9 hc0;have HBi:=hd9 (fun(W:World) (hW:Ext wr W)=>HBd.out W (hc0.trans (CrK.ofExt hW)) kk ⟨_,hxm,rfl⟩);have HSr:=hd9 hS;have H5r:=hd9 h5;have Hksr:=hd9 hks;have Hbk:=hd9 (Hbl.out kk);have Hbzk:=hd9 (Hbz.out kk);have Hst:=hd9 (show fM ks bsf (m+1)=updA (fM ks bsf m) kk (undQ ks (bsf kk) (bsf kk).length) by show updA _ _ _=_;rw [hkey]);clear hx hxm hc hS h5 hks hg hc0 hkey hBk;go_wp2;refine wp_region_held_drew (S:=CellL [(⟨sb,7,none⟩,.slice ga gn gc),(⟨sb,8,none⟩,.slice pa pn pc1),(⟨wr.heap.size,10,none⟩,.int .i64 (kk:Int)),(⟨sb,1,none⟩,.int .i64 r.pin)]) (by kernel_rfl) (by refine⟨?_,?_,?_,?_,trivial⟩<;>go_simp) (fun hHeld=>?_);refine sN 0 ?_
   iterate 11
    refine tkn (by simp only [gA,gS,gZ];rfl) ?_;refine⟨?_,by kernel_rfl,by kernel_rfl,by kernel_rfl,fun _ _ _ h=>HQp.out _ _ _ _ _ h,Or.inl ⟨by rfl,?_⟩,by(with_reducible assumption),?_⟩;rotate_left 1
    ·(intro w hSw;simp only [CellL,and_true]at hSw;go_simp;try(with_reducible rfl))
    (try simp only [Act.put,sA,sZ,sS,Nat.reduceAdd])
   refine oN ?_;refine call1 (i:=11) (by simp only [gA,gS,gZ];rfl) ?_;refine⟨by kernel_rfl,fun K hK=>?_⟩;go_simp
   (with_reducible refine Calls.mono (HBi.out _ ((Ext.refl wr).alloc _).drew) ?_)
   rintro e w2 ⟨v8,rfl,hob,hx2⟩;obtain⟨ba,bn,bc,rfl⟩:=hob.form3
   go_wp2_with fail
   refine hK.out _ _ (CellL.ext hHeld hx2) (fun hHeld=>?_);clear hK K
   (try simp only [Act.put,sA,sZ,sS])
   refine sN 12 ?_
   iterate 5
    refine tkn (by simp only [gA,gS,gZ];rfl) ?_;refine⟨?_,by kernel_rfl,by kernel_rfl,by kernel_rfl,fun _ _ _ h=>HQp.out _ _ _ _ _ h,Or.inl ⟨by rfl,?_⟩,by(with_reducible assumption),?_⟩;rotate_left 1
    ·(intro w hSw;simp only [CellL,and_true]at hSw;go_simp;try(with_reducible rfl))
    (try simp only [Act.put,sA,sZ,sS,Nat.reduceAdd])
   refine oN ?_;refine wpAnyH_done (by kernel_rfl) ?_ _;have X2:Ext wr w2:=((Ext.refl wr).alloc _).drew.trans hx2;have h72:=hx2.heapS (((Ext.refl _).drew).heapS (heap_alloc_new wr (.cells #[.string nm,.slice sa sn sc,.int .i64 d,.int .i64 de,.int .i64 gx,.int .i64 gz,.int .i64 wy,.int .i64 ax,.int .i64 az,.int .u8 sk,.int .i64 (kk:Int),.int .i64 xl,.int .i64 xh,.int .i64 zl,.int .i64 zh] 74)));have hbes:=hob.bes;have Hin:=hd9 hbes;have H72:=hd9 h72;have HX2:=hd9 X2;have hbs2:base≤w2.heap.size:=by have:=X2.size;omega
   clear hHeld hob hx2 X2 h72 hbes d0 d1 d2 d3 d4 d5 d6 d7 d8 d9 d10 d11 d12 d13 d14 e1 e7 e8 HBi;go_wp2;refine crs_inner w2 sb b5 wr.heap.size B base N kk r (.slice ga gn gc) (.slice pa pn pc1) (.slice (some ⟨bb,bo,none⟩) vn vc) vj vr ks (bsf kk) (fM ks bsf m) #[.string nm,.slice sa sn sc,.int .i64 d,.int .i64 de,.int .i64 gx,.int .i64 gz,.int .i64 wy,.int .i64 ax,.int .i64 az,.int .u8 sk,.int .i64 (kk:Int),.int .i64 xl,.int .i64 xh,.int .i64 zl,.int .i64 zh] ba bn bc _ _ _ _ _ _ _ _ _ _ _ _ _ _ _ _ _ _ _ _ _ _ _ _ _ _ _ _ _ _ _ _ _ _ _ _ _ _ _ _ _ _ _ _ _ _ _ _ _ _ _ _ _ _ _ _ _ _ _ _ _ _ _ _ _ _ _ _ _ _ _ _ _ _ _ _ _ _ _ _ _ (HX2.out.heapS HSr.out) (Hksr.out.ext' HX2.out) Hkv.out (HX2.out.heapS H5r.out) H72.out rfl Hin.out Hbk.out (Hg.out.ext HX2.out) (by omega) hkl hbs2 Hbzk.out (fun c a d v w h=>HQp.out c a d v w h) ?_;intro i51 i11 i52 i53 i54 i55 i56 i57 i58 i59 i60 i61 i62 i63 i64 i65 i66 i67 i68 i69 i70 i71 i72 i73 i74 i75 i76 i77 W N' hcI hgI hN';have HcI:=hd9 hcI;have HgI:=hd9 hgI;clear hcI hgI;go_wp2
   go_roundg (vn-(m+1))
   case measure=>have:=Hvn.out;omega
   case rel =>
    refine⟨m+1,N',by rw [←Hvn.out];omega,by go_num,by rw [←Hvn.out],by have:=Hbk.out;omega,(Hc0.out.trans (CrK.ofExt HX2.out)).trans HcI.out,?_⟩;rw [Hst.out];exact HgI.out
  ·obtain rfl:m=vn:=by omega
   have hgE:Gm wr base B N (fM ks bsf ks.length):=by rw [←Hvn.out];exact hg
   have HgE:=hd9 hgE;have Hc0:=hd9 hc0;clear hg hc0 hgE;go_wp2;exact HQ.out _ _ _ _ _ _ _ _ _ _ _ _ _ _ _ _ _ _ _ _ _ _ _ _ _ _ _ _ _ _ _ _ _ _ _ _ _ _ _ _ _ _ _ _ _ _ _ _ _ _ _ _ _ wr N Hc0.out HgE.out (by rw [←Hvn.out];exact hN)
end Go.Proofs.YtobbionccnkmgaaGreatDoor.Cop
namespace Go.Proofs.YtobbionccnkmgaaGreatDoor.Cop
open Go.RowKit Go.Shelf Go.Maps Go.Sort Go.Lib
attribute [local go_sem] Oper.semAt_some
def outC (n:Nat) (und:Nat→List Int) (ks:List (JS×Value)):Nat→List Int
 | 0=>List.replicate n 0
 | m+1=>(outC n und ks m).set (keyAt ks m) (topC (outC n und ks m) (und (keyAt ks m))+1)
structure Pass1 (n:Nat) (und:Nat→List Int) (ks:List (JS×Value)):Prop where
 known:∀m,m<ks.length→∀z∈und (keyAt ks m),0≤z∧z<n∧(outC n und ks m).getD z.toNat 0≠0
 fresh:∀m,m<ks.length→(outC n und ks m).getD (keyAt ks m) 0=0
 bound:∀m,m≤ks.length→∀v∈outC n und ks m,0≤v∧v≤1000
def StC (w:World) (b3 b5 B base N go gl n:Nat) (und:Nat→List Int) (ks:List (JS×Value)) (vl:Value) (m:Nat) (W:World):Prop:=
 Ext w W∧W.heap[b3]?=some (.cells #[.slice (some ⟨go,0,none⟩) n n] 57 (0,0))∧W.heap[b5]?=some (.cells #[.map (some B)] 112 (0,0))∧Gm W base B N und ∧
  OwnC 3 1 W w.heap.size (.slice (some ⟨go,0,none⟩) n n) ((outC n und ks m).map ic)∧OwnC 74 15 W gl vl (ks.map jc)
theorem StC.ext {w:World} {b3 b5 B base N go gl n:Nat} {und:Nat→List Int} {ks:List (JS×Value)} {vl:Value} {m:Nat} {W W':World} (h:StC w b3 b5 B base N go gl n und ks vl m W) (k:Ext W W'):StC w b3 b5 B base N go gl n und ks vl m W':=
 ⟨h.1.trans k,k.heapS h.2.1,k.heapS h.2.2.1,h.2.2.2.1.ext k,h.2.2.2.2.1.ext k,h.2.2.2.2.2.ext k⟩
theorem StC.step {w:World} {b3 b5 B base N go gl n:Nat} {und:Nat→List Int} {ks:List (JS×Value)} {vl:Value} {m:Nat} {W:World} (h:StC w b3 b5 B base N go gl n und ks vl m W) (hP:Pass1 n und ks) (hm:m<ks.length) {x:JS×Value} (hx:ks[m]?=some x) (hv:∃a n c,x.2 = .slice a n c) {k:Nat} (hk:x.1.k=k) (hkn:k<n) (hn:n≤120)
  (hN:N<1000000) (hgo:w.heap.size≤go∧go<base∧B≠go∧b3≠go∧b5≠go∧go<gl) :
  Calls Tryz.prog 50 #[.agg (jca x),.pointer (some ⟨b5,0,none⟩),.pointer (some ⟨b3,0,none⟩)] W fun e w'=>e = .returned (.bool true)∧StC w b3 b5 B base N go gl n und ks vl (m+1) w':=by
 obtain⟨h1,h2,h3,h4,h5,h6⟩:=h;have hkey:keyAt ks m=k:=by unfold keyAt;rw [hx];simp [hk]
 have hf:=hP.known m hm;have h0:=hP.fresh m hm;rw [hkey]at hf h0;refine(und2_any W x b5 b3 B base w.heap.size N go n und (outC n und ks m) k hk hv h3 h2 h4 hN h5 hgo.2.1 hgo.2.2.1 hkn hn (hP.bound m (by omega)) h0 hf ⟨hgo.2.2.2.2.1,hgo.2.2.2.1⟩).mono ?_;rintro e w' ⟨rfl,hg,ho⟩;refine⟨rfl,?_,(hg.block b3 (heap_lt h2) (by simpa using hgo.2.2.2.1)).trans h2,(hg.block b5 (heap_lt h3) (by simpa using hgo.2.2.2.2.1)).trans h3,h4.keptLow hg (by simpa using hgo.2.2.1) (fun j hj=>by cases hj;exact hgo.2.1),?_,⟨h6.1,h6.2.kept hg ?_⟩⟩
 ·exact gb_Ext h1 hg hgo.1
 ·rw [outC,hkey];exact ho
 ·by_cases h9:vl.ownBlock=none
  ·exact .inl h9
  ·right
   intro e;have:=(h6.lt go e).1;omega
def CoL (w:World) (b3 b5 B base N go gl n:Nat) (und:Nat→List Int) (ks:List (JS×Value)) (vl:Value) (gk:Nat) (t4:Value) (W:World):Prop:=
 (gk=1∧t4=vl∧StC w b3 b5 B base N go gl n und ks vl 0 W)∨(gk=0∧∃a c,t4 = .slice a 0 c∧Ext w W∧W.heap[b3]?=some (.cells #[.slice (some ⟨go,0,none⟩) n n] 57 (0,0))∧OwnC 3 1 W w.heap.size (.slice (some ⟨go,0,none⟩) n n) ((outC n und ks ks.length).map ic))
theorem Gm.made2 (w:World) {base:Nat} (hb:w.heap.size<base):Gm (w.alloc (.map #[] 0)) base w.heap.size 0 (fun _=>[]):=by
 obtain⟨D,⟨es,clock,h1,h2,h3,h4,h5,h6,h7⟩,hD⟩:=Gm.made w;have hw:(w.alloc (.map #[] 0)).heap[w.heap.size]?=some (.map #[] 0):=(MapKept.heap_alloc w _).1;rw [hw]at h1
 cases h1
 exact⟨D,⟨#[],0,hw,⟨by simp,h2.stamped,by simp⟩,h3,by simpa using h4,hb,by simp,by simp⟩,hD⟩
theorem OwnC.crk {T:TypeId} {k:Nat} {W0 W:World} {base B base':Nat} {v:Value} {cs:List (List Value)} (h:OwnC T k W0 base' v cs) (hc:CrK base B W0 W) (h1:∀j,v.ownBlock=some j→j≠B∧(j<base∨T≠3)):OwnC T k W base' v cs:=by
 obtain⟨h0,hl,h2⟩:=h;refine⟨h0,hl,?_⟩
 rcases h2 with h2|⟨g,cap,cur,hv,hg,hh,r⟩
 ·exact .inl h2
 ·obtain⟨a1,a2⟩:=h1 g (by rw [hv];rfl)
  refine .inr ⟨g,cap,cur,hv,hg,hc.2 g _ hh a1 ?_,r⟩
  rcases a2 with a2|a2
  ·exact .inl a2
  ·exact .inr fun cs' fr e=>by cases e;exact a2 rfl
theorem courses_ok (w:World) (sb:Nat) (r:Ru) (vg vp vs vj vr:Value) (ks:List (JS×Value)) (L:List Jt) (rs:List Int) (n:Nat) (bsf:Nat→List Be) (hS:Sv w sb r vg vp vs vj vr ks L rs) (hvg:∃a n c,vg = .slice a n c) (hvp:∃a c,vp = .slice a n c) (hn:n≤120)
  (hne:0<ks.length) (hnk:ks.length≤120) (hkv:∀j∈ks,∃a n c,j.2 = .slice a n c) (hkb:∀x∈ks,∃k:Nat,x.1.k=k∧k<n) (hbl:∀k,(bsf k).length≤121) (hbz:∀k,∀b∈bsf k,-1≤b.num∧b.num≤1000)
  (hBd:∀W,Ext w W→∀k:Nat,(∃x∈ks,x.1.k=k)→Calls Tryz.prog 47 #[.agg #[vg,vp],.int .i64 k,.int .i64 r.pin] W (RetBs W (bsf k))) (hP:Pass1 n (fM ks bsf ks.length) ks) :
  Calls Tryz.prog 28 #[.pointer (some ⟨sb,0,none⟩)] w fun e w'=>∃v,e = .returned v∧IsIs w' v (outC n (fM ks bsf ks.length) ks ks.length)∧Ext w w':=by
 have hsk:=hS.skin;have HCl:=hd9 (fun(W:World) (hW:Ext w W)=>clone_any W vs ks (hsk.ext' hW) hne hkv (by omega));obtain⟨pa,pc1,rfl⟩:=hvp;obtain⟨ga,gn,gc,rfl⟩:=hvg;obtain⟨va,vn,vc,rfl⟩:=form3 hsk;have hb:=hS.blk;have c8:=qcB hb (i:=8) (u:=.slice pa n pc1) rfl;have c9:=qcB hb (i:=9) (u:=.slice va vn vc) rfl;have zs:=heap_lt hb;have zs1:sb<w.heap.size+1:=by omega
 have zs2:sb<w.heap.size+1+1:=by omega
 have HP:=hd9 hP;have HBd:=hd9 hBd;have HS:=hd9 hS;have Hkv:=hd9 hkv;have Hkb:=hd9 hkb;have Hbl:=hd9 hbl;have Hbz:=hd9 hbz;have hmm:=@run_makeMap Tryz.prog;have hmf:∀(fn:Fn) (first cap:Array Value) (w:World),(Instr.makeFunc fn first cap).run Tryz.prog w = .ok (.func fn first cap) w:=fun _ _ _ _=>rfl
 obtain⟨R,hR⟩:∃R:Ending→World→Prop,(fun e w'=>∃v,e = .returned v∧IsIs w' v (outC n (fM ks bsf ks.length) ks ks.length)∧Ext w w')=R:=⟨_,rfl⟩;rw [hR];have HR:=hd9 hR;clear hsk hb hP hBd hS hkv hkb hbl hbz hR;go_enter Tryz.func28,Tryz.ntmps28
 go_wp2_with(first|(at_make;refine mkC (T:=3) (t:=57) (z:=.int .i64 0) (k:=1) (bytes:=8) (zs:=[.int .i64 0]) (n:=n) info_int1 rfl rfl (by decide) Tryz.underlying57 rfl _ _ rfl _ rfl rfl rfl (by omega) ?_;intro ocs hown1)|(go_at_call 46;(with_reducible refine(HCl.out _ ?_).mono ?_);(focus((with_reducible repeat(first|assumption|exact eR _|refine eX ?_|refine eT ?_|refine eS ?_));done));rintro e w2 ⟨v2,rfl,hown2,hx2⟩;obtain⟨la,ln,lc,rfl⟩:=hown2.form3;obtain⟨hc2,hf2⟩:=hx2.cells;(have z2:=hx2.size);(simp only [wZ]at z2);(have zb2:sb<w2.heap.size:=(by omega));(have zb3:sb<w2.heap.size+1:=(by omega));(have zb4:sb<w2.heap.size+1+1:=(by omega))))
 have X2:Ext w w2:=(((Ext.refl w).alloc _).alloc _).trans hx2;have K3:w2.heap[w.heap.size+1]?=some (.cells #[.slice (some ⟨w.heap.size,0,none⟩) n n] 57 (0,0)):=hx2.heapS (qhA _ _ _ (by simp))
 have O1:OwnC 3 1 w2 w.heap.size (.slice (some ⟨w.heap.size,0,none⟩) n n) ((List.replicate n (0:Int)).map ic):=by
  have:=hown1.ext (((Ext.refl _).alloc (.cells #[.slice (some ⟨w.heap.size,0,none⟩) n n] 57)).trans hx2);rw [List.map_replicate];exact this
 obtain⟨gl,hgl⟩:∃x,w.heap.size+1+1=x:=⟨_,rfl⟩;have O2:OwnC 74 15 w2 gl (.slice la ln lc) (ks.map jc):=by rw [←hgl];simpa using hown2
 have hln:ln=ks.length:=by have:=hown2.len;rw [lL]at this;exact this
 have Hln:=hd9 hln;obtain⟨B,hB⟩:∃x,w2.heap.size=x:=⟨_,rfl⟩;obtain⟨W4,hW4⟩:∃W,((w2.alloc (.map #[] 0)).alloc (.cells #[.map (some w2.heap.size)] 112))=W:=⟨_,rfl⟩;have X24:Ext w2 W4:=by rw [←hW4];exact((Ext.refl w2).alloc _).alloc _
 have G4:Gm W4 (B+1+1) B 0 (fun _=>[]):=by
  have h:=(Gm.made2 w2 (base:=w2.heap.size+1+1) (by omega)).ext (((Ext.refl _).alloc (.cells #[.map (some w2.heap.size)] 112)));rw [hW4,hB]at h;exact h
 have K5:W4.heap[B+1]?=some (.cells #[.map (some B)] 112 (0,0)):=by rw [←hW4,←hB];exact qhA _ _ _ (by simp)
 have s4:W4.heap.size=B+1+1:=by rw [←hW4,←hB];simp
 have zB:w.heap.size+1+1≤B:=by omega
 rw [hW4];simp only [hB];have HX2:=hd9 X2;have HX24:=hd9 X24;have HK3:=hd9 (X24.heapS K3);have HK5:=hd9 K5;have HO1:=hd9 (O1.ext X24);have HO2:=hd9 (O2.ext X24);clear hown1 hown2 hx2 X2 K3 O1 O2 hln hB hW4 X24 K5 hc2 hf2 z2 zb2 zb3 zb4 c8 c9 zs zs1 zs2 HCl;refine crs_outer W4 sb (B+1) B (B+1+1) r (.slice ga gn gc) (.slice pa n pc1) (.slice va vn vc) vj vr ks bsf va vn vc _ _ _ _ _ _ _ _ _ _ _ _ _ _ _ _ _ _ _ _ _ _ _ _ _ _ _ _ _ _ _ _ _ _ _ _ _ _ _ _ _ _ _ _ _ _ _ _ _ _ _ _ _ _ _ _ _ _ _ _ _ _ _ _ _ _ _ _ _ _ _ _ _ _ _ _ _ _ _ _ _ _ rfl ⟨_,_,_,rfl⟩ ⟨_,_,_,rfl⟩ (HX24.out.heapS (HX2.out.heapS HS.out.blk)) ((HS.out.skin.ext' HX2.out).ext' HX24.out) Hkv.out HK5.out G4 (by omega) hnk (fun x hx=>by obtain⟨k,h1,h2⟩:=Hkb.out x hx;exact⟨k,h1,by omega⟩) Hbl.out Hbz.out (fun W hW k hk=>HBd.out W (hW.ext (HX2.out.trans HX24.out) (by omega) (by omega)) k hk) (fun c a d v w h=>by cases d<;>exact h) ?_;intro y30 y7 y8 y9 y11 y31 y32 y33 y34 y35 y36 y37 y38 y39 y40 y41 y42 y43 y44 y45 y46 y47 y48 y49 y50 y51 y52 y53 y54 y55 y56 y57 y58 y59 y60 y61 y62 y63 y64 y65 y66 y67 y68 y69 y70 y71 y72 y73 y74 y75 y76 y77 y78 W N hcW hgW hNW;obtain⟨und,hund⟩:∃f,fM ks bsf ks.length=f:=⟨_,rfl⟩;rw [hund]at hgW HP HR;have hXW:Ext w W:=hcW.ext (HX2.out.trans HX24.out) (by omega) (by omega)
 have HSt:=hd9 (show StC w (w.heap.size+1) (B+1) B (B+1+1) N w.heap.size gl n und ks (.slice la ln lc) 0 W from
  ⟨hXW,hcW.2 _ _ HK3.out (by omega) (.inl (by omega)),hcW.2 _ _ HK5.out (by omega) (.inr fun cs fr e=>by cases e),hgW,HO1.out.crk hcW (fun j hj=>by
   have:j=w.heap.size:=by simpa [Value.ownBlock] using hj.symm
   exact⟨by omega,.inl (by omega)⟩),HO2.out.crk hcW (fun j hj=>⟨by
   intro e;subst e;have h9:=HO2.out
   rcases h9.2.2 with ⟨h1,_⟩|⟨g,cap,cur,hv,_,hh,_⟩
   ·rw [h1]at hj;cases hj
   ·rw [hv]at hj;cases hj;exact G4.notCells _ _ hh,.inr (by decide)⟩)⟩)
 clear hcW hgW hXW hund HO1 HO2 HK3 HK5 G4 HX24 HBd Hbl Hbz;go_wp2
 go_loopg [4] 1 (CoL w (w.heap.size+1) (B+1) B (B+1+1) N w.heap.size gl n und ks (.slice la ln lc))
 case atStart=>exact .inl ⟨rfl,rfl,HSt.out⟩
 case round =>
  rcases hrel with ⟨rfl,rfl,hSt⟩|⟨rfl,a,c,rfl,hX,hK,hO⟩
  ·have hlen:(0:Int)<(ln:Int):=by have:=Hln.out;omega
   have hlen2:0<ln:=by omega
   have HD:=hd9 (delgo_any wr (.slice la ln lc) gl ks (B+1) (w.heap.size+1) (StC w (w.heap.size+1) (B+1) B (B+1+1) N w.heap.size gl n und ks (.slice la ln lc)) (fun k W h=>h.2.2.2.2.2) (fun k W W' h hx=>h.ext hx) hSt hne (by omega) Hkv.out (fun m W j h hj=>by
    obtain⟨kk,h1,h2⟩:=Hkb.out j (lM hj);exact h.step HP.out (lS.1 hj).1 hj (Hkv.out j (lM hj)) h1 h2 hn (by omega) ⟨Nat.le_refl _,by omega,by omega,by omega,by omega,by omega⟩))
   clear hSt HSt
   go_wp2_with(go_at_call 21;(with_reducible refine(HD.out).mono ?_);rintro e w' ⟨a',c',W1,rfl,hS1,hg1⟩)
   go_roundg 0
   case measure=>omega
   case rel =>
    obtain⟨h1,h2,h3,h4,h5,h6⟩:=hS1;have hz3:=heap_lt h2;have hb1:=heap_lt h3;have hbw:=grown_below (base:=gl) hg1 (by omega) (fun k hk=>(h6.lt k hk).1);refine .inr ⟨rfl,a',c',rfl,h1.thenB hbw (by omega),(hbw.block _ (by omega)).trans h2,⟨h5.1,h5.2.kept hg1 ?_⟩⟩
    right
    intro e;have h9:=(h6.lt w.heap.size (by rw [←e];rfl)).1;omega
  ·have k3:=qcB hK (i:=0) (u:=.slice (some ⟨w.heap.size,0,none⟩) n n) rfl
   have HO:=hd9 hO;have HX:=hd9 hX;clear hK hO hX HSt;go_wp2;rw [←HR.out];exact⟨_,rfl,HO.out.is,HX.out⟩
end Go.Proofs.YtobbionccnkmgaaGreatDoor.Cop
namespace Go.Proofs.YtobbionccnkmgaaGreatDoor.Cop
open Go.RowKit Go.Shelf Go.Maps Go.Sort Go.Lib
def bsP (g:List (Int×Int)) (ps:List Pl) (pin:Int) (k:Nat):List Be:=match ps[k]? with|some p=>bedsN g ps k p pin (ps.length+1)|none=>[]
theorem bedAt_num {g:List (Int×Int)} {ps:List Pl} {a:Nat} {p:Pl} {pin b:Int} {be:Be} (h:bedAt g ps a p pin b=some be):be.num=b:=by
 have hO:∀t,bedO p t b pin=some be→be.num=b:=fun t h=>by
  unfold bedO at h
  split at h
  ·cases hr:reachP (btw (lowP2 p) t) pin with
   | none=>rw [hr]at h;cases h
   | some o=>rw [hr]at h;cases h;rfl
  ·cases h
 unfold bedAt at h
 split at h
 ·cases h
 ·split at h
  ·exact hO _ h
  ·split at h
   ·cases h
   ·split at h
    ·exact hO _ h
    ·cases h
theorem bsP_bd {g:List (Int×Int)} {ps:List Pl} {pin:Int} (hn:ps.length≤120) (k:Nat):(bsP g ps pin k).length≤121∧∀b∈bsP g ps pin k,-1≤b.num∧b.num≤1000:=by
 unfold bsP
 cases h:ps[k]? with
 | none=>exact⟨by simp,fun b hb=>by simp at hb⟩
 | some p =>
  refine⟨Nat.le_trans (bedsN_len _ _ _ _ _ _) (by omega),fun b hb=>?_⟩;unfold bedsN at hb;obtain⟨i,hi,he⟩:=List.mem_filterMap.1 hb;rw [List.mem_range]at hi;have:=bedAt_num he;omega
theorem skin_key {r:Ru} {ps:List Pl} {ks:List (JS×Value)} (h:ks.map Prod.fst=skinP r ps) {x:JS×Value} (hx:x∈ks):∃k:Nat,x.1.k=k∧k<ps.length:=by
 have h1:x.1∈skinP r ps:=h▸List.mem_map_of_mem hx;unfold skinP at h1;have h2:=(List.mem_filter.1 h1).1;obtain⟨i,hi⟩:=List.getElem?_of_mem h2;have hl:=(lS.1 hi).1;rw [jsP_len]at hl;rw [jsP_get (List.getElem?_eq_getElem hl)]at hi;have e:=Option.some.inj hi;exact⟨i,by rw [←e];rfl,hl⟩
def RetCs (w:World) (ps:List Pl) (r:Ru) (g:List (Int×Int)) (e:Ending) (w':World):Prop:=
 ∃v ks,e = .returned (.tuple #[v,.int .i64 0])∧ks.map Prod.fst=skinP r ps∧IsIs w' v (outC ps.length (fM ks (bsP g ps r.pin) ks.length) ks ks.length)∧Ext w w'
theorem Courses_ok (w:World) (vg vp:Value) (g:List (Int×Int)) (ps:List Pl) (r:Ru) (hg:IsPts w vg g) (hp:IsPls w vp ps) (hgw:Gw w) (h0:byE g ps r=0) (hpin:r.pin=0) (hmt:∀p∈ps,∀q∈ps,meetB p q=true) (hne:0<(skinP r ps).length)
  (hP:∀ks:List (JS×Value),ks.map Prod.fst=skinP r ps→Pass1 ps.length (fM ks (bsP g ps r.pin) ks.length) ks) :
  Calls Tryz.prog 13 #[.agg #[vg,vp],.agg (ruc r)] w (RetCs w ps r g):=by
 have HB:=hd9 (fun W (hW:Ext w W)=>(by_any W vg vp g ps r (hg.ext' hW) (hp.ext' hW) (hgw.ext hW)).mono (fun e w' h=>h.resolve_left (fun h9=>h9.1 h0)))
 have hl0:laidP g ps=0:=by
  unfold byE at h0
  by_cases h:laidP g ps=0
  ·exact h
  ·rw [if_neg h]at h0;exact absurd h0 h
 obtain⟨hok,hn,hgr⟩:=laidP_ok hl0
 have HC:=hd9 (fun(W:World) (hW:Ext w W) (sb:Nat) (vs vj vr:Value) (ks:List (JS×Value)) (L:List Jt) (rs:List Int) (sv:Sv W sb r vg vp vs vj vr ks L rs) (svp:SvP r ps ks L rs) =>
  courses_ok W sb r vg vp vs vj vr ks L rs ps.length (bsP g ps r.pin) sv (form3 hg) (hp.form) hn
   (by have:=congrArg List.length svp.skin;rw [lL]at this;omega)
   (by have h9:=congrArg List.length svp.skin;rw [lL]at h9;have h8:(skinP r ps).length≤(jsP ps).length:=List.length_filter_le _ _;rw [jsP_len]at h8;omega)
   (fun j hj=>form3 (sv.pts j hj)) (fun x hx=>skin_key svp.skin hx) (fun k=>(bsP_bd hn k).1) (fun k=>(bsP_bd hn k).2)
   (fun W' hW' k hk=>by
    obtain⟨x,hx,hxk⟩:=hk;obtain⟨k',h1,h2⟩:=skin_key svp.skin hx;have hkk:k=k':=by omega
    subst hkk;have hpk:ps[k]?=some (ps[k]'h2):=List.getElem?_eq_getElem h2;have hbs:bsP g ps r.pin k=bedsN g ps k (ps[k]'h2) r.pin (ps.length+1):=by unfold bsP;rw [hpk]
    rw [hbs];exact beds_ok W' vg vp g ps k (ps[k]'h2) r.pin (hg.ext' (hW.trans hW')) (hp.ext' (hW.trans hW')) (hgw.ext (hW.trans hW')) hl0 hpk (by omega) (by omega) hgr hok hn (hmt _ (lM hpk)) (by rw [hpin];exact⟨noX_zero,fun q _=>noX_zero⟩))
   (hP ks svp.skin))
 obtain⟨ga,gn,gc,rfl⟩:=form3 hg;obtain⟨pa,pn,pc1,rfl⟩:=form3 hp;obtain⟨R,hR⟩:∃R,RetCs w ps r g=R:=⟨_,rfl⟩;rw [hR];have HR:=hd9 hR;clear hg hp hgw hR h0 hmt hne hP hl0 hok hn hgr hpin;obtain⟨sk,pin,wide,lap,step,run,level⟩:=r;unfold ruc at HB ⊢;dsimp only at HB;go_enter Tryz.func13,Tryz.ntmps13
 go_wp2_with(first|(go_at_call 26;(with_reducible refine(HB.out _ ?_).mono ?_);(focus((with_reducible repeat(first|assumption|exact eR _|refine eX ?_|refine eT ?_|refine eS ?_));done));rintro e w3 ⟨_,sb,vs,vj,vr,ks,L,rs,rfl,sv,svp,hx3⟩;have X3:Ext w w3:=(by with_reducible repeat(first|assumption|exact eR _|refine eX ?_|refine eT ?_|refine eS ?_)))|(go_at_call 28;(with_reducible refine(HC.out w3 X3 sb vs vj vr ks L rs sv svp).mono ?_);rintro e w4 ⟨v4,rfl,hv4,hx4⟩))
 rw [←HR.out];exact⟨_,ks,rfl,svp.skin,hv4,X3.trans hx4⟩
end Go.Proofs.YtobbionccnkmgaaGreatDoor.Cop
namespace Go.Proofs.YtobbionccnkmgaaGreatDoor.Cop
open Go.RowKit Go.Shelf Go.Sort Go.Lib
theorem sortX_eq {l m:List (Int×Int)} (hp:l.Perm m) (hb:∀x∈l,BP x) (hm:m.Pairwise fun x y=>x.1<y.1):sortX l=m:=by
 have h1:=sortX_pairs hb;have h2:=(sortX_perm l).trans hp;refine List.Perm.eq_of_pairwise (le:=fun x y=>x.1≤y.1) ?_ h1 (hm.imp fun h=>by omega) h2;intro a b ha hb' hab hba;have ha':a∈m:=h2.mem_iff.1 ha;obtain⟨i,hi,rfl⟩:=List.getElem_of_mem ha';obtain⟨j,hj,rfl⟩:=List.getElem_of_mem hb';rw [List.pairwise_iff_getElem]at hm
 rcases Nat.lt_trichotomy i j with h|h|h
 ·have:=hm i j hi hj h;omega
 ·subst h;rfl
 ·have:=hm j i hj hi h;omega
theorem low_0:lowP2 (brickP ⟨#[97]⟩ 0 0)=[(0,0),(0+200,0)]:=by
 unfold lowP2 lineOf;rw [show lowRaw (cornersP (brickP ⟨#[97]⟩ 0 0)) (cornersP (brickP ⟨#[97]⟩ 0 0)).length=[(0,0),(0+200,0)] by decide,sortX_eq (List.Perm.refl _) (by decide) (by decide)]
 decide
theorem up_0:upP2 (brickP ⟨#[97]⟩ 0 0)=[(0,0+80),(0+200,0+80)]:=by
 unfold upP2 lineOf;rw [show upRaw (cornersP (brickP ⟨#[97]⟩ 0 0)) (cornersP (brickP ⟨#[97]⟩ 0 0)).length=[(0+200,0+80),(0,0+80)] by decide,sortX_eq (List.Perm.swap _ _ _) (by decide) (by decide)]
 decide
theorem low_1:lowP2 (brickP ⟨#[98]⟩ 200 0)=[(200,0),(200+200,0)]:=by
 unfold lowP2 lineOf;rw [show lowRaw (cornersP (brickP ⟨#[98]⟩ 200 0)) (cornersP (brickP ⟨#[98]⟩ 200 0)).length=[(200,0),(200+200,0)] by decide,sortX_eq (List.Perm.refl _) (by decide) (by decide)]
 decide
theorem up_1:upP2 (brickP ⟨#[98]⟩ 200 0)=[(200,0+80),(200+200,0+80)]:=by
 unfold upP2 lineOf;rw [show upRaw (cornersP (brickP ⟨#[98]⟩ 200 0)) (cornersP (brickP ⟨#[98]⟩ 200 0)).length=[(200+200,0+80),(200,0+80)] by decide,sortX_eq (List.Perm.swap _ _ _) (by decide) (by decide)]
 decide
theorem low_2:lowP2 (brickP ⟨#[99]⟩ 0 80)=[(0,80),(0+200,80)]:=by
 unfold lowP2 lineOf;rw [show lowRaw (cornersP (brickP ⟨#[99]⟩ 0 80)) (cornersP (brickP ⟨#[99]⟩ 0 80)).length=[(0,80),(0+200,80)] by decide,sortX_eq (List.Perm.refl _) (by decide) (by decide)]
 decide
theorem up_2:upP2 (brickP ⟨#[99]⟩ 0 80)=[(0,80+80),(0+200,80+80)]:=by
 unfold upP2 lineOf;rw [show upRaw (cornersP (brickP ⟨#[99]⟩ 0 80)) (cornersP (brickP ⟨#[99]⟩ 0 80)).length=[(0+200,80+80),(0,80+80)] by decide,sortX_eq (List.Perm.swap _ _ _) (by decide) (by decide)]
 decide
theorem low_3:lowP2 (brickP ⟨#[100]⟩ 200 80)=[(200,80),(200+200,80)]:=by
 unfold lowP2 lineOf;rw [show lowRaw (cornersP (brickP ⟨#[100]⟩ 200 80)) (cornersP (brickP ⟨#[100]⟩ 200 80)).length=[(200,80),(200+200,80)] by decide,sortX_eq (List.Perm.refl _) (by decide) (by decide)]
 decide
theorem up_3:upP2 (brickP ⟨#[100]⟩ 200 80)=[(200,80+80),(200+200,80+80)]:=by
 unfold upP2 lineOf;rw [show upRaw (cornersP (brickP ⟨#[100]⟩ 200 80)) (cornersP (brickP ⟨#[100]⟩ 200 80)).length=[(200+200,80+80),(200,80+80)] by decide,sortX_eq (List.Perm.swap _ _ _) (by decide) (by decide)]
 decide
theorem low_4:lowP2 (brickP ⟨#[101]⟩ 100 160)=[(100,160),(100+200,160)]:=by
 unfold lowP2 lineOf;rw [show lowRaw (cornersP (brickP ⟨#[101]⟩ 100 160)) (cornersP (brickP ⟨#[101]⟩ 100 160)).length=[(100,160),(100+200,160)] by decide,sortX_eq (List.Perm.refl _) (by decide) (by decide)]
 decide
theorem up_4:upP2 (brickP ⟨#[101]⟩ 100 160)=[(100,160+80),(100+200,160+80)]:=by
 unfold upP2 lineOf;rw [show upRaw (cornersP (brickP ⟨#[101]⟩ 100 160)) (cornersP (brickP ⟨#[101]⟩ 100 160)).length=[(100+200,160+80),(100,160+80)] by decide,sortX_eq (List.Perm.swap _ _ _) (by decide) (by decide)]
 decide
def insI (z:Int):List Int→List Int
 | []=>[z]
 | y::ys=>if z≤y then z::y::ys else y::insI z ys
def sortI:List Int→List Int
 | []=>[]
 | z::zs=>insI z (sortI zs)
theorem insI_perm (z:Int):∀ys,(insI z ys).Perm (z::ys)
 | []=>List.Perm.refl _
 | y::ys=>by
  unfold insI
  split
  ·exact List.Perm.refl _
  ·exact((insI_perm z ys).cons y).trans (List.Perm.swap _ _ _)
theorem insI_pairs (z:Int):∀ys,ys.Pairwise (fun x y:Int=>x≤y)→(insI z ys).Pairwise (fun x y:Int=>x≤y)
 | [],_=>by unfold insI;exact List.pairwise_singleton _ _
 | y::ys,h=>by
  obtain⟨h1,h2⟩:=List.pairwise_cons.1 h;unfold insI
  split
  ·rename_i hz
   refine List.pairwise_cons.2 ⟨fun a ha=>?_,h⟩
   rcases List.mem_cons.1 ha with rfl|ha
   ·exact hz
   ·exact Int.le_trans hz (h1 a ha)
  ·rename_i hz
   refine List.pairwise_cons.2 ⟨fun a ha=>?_,insI_pairs z ys h2⟩
   rcases List.mem_cons.1 ((insI_perm z ys).mem_iff.1 ha)with rfl|ha
   ·omega
   ·exact h1 a ha
theorem sortI_perm:∀zs,(sortI zs).Perm zs
 | []=>List.Perm.refl _
 | z::zs=>(insI_perm z _).trans ((sortI_perm zs).cons z)
theorem sortI_pairs:∀zs,(sortI zs).Pairwise (fun x y:Int=>x≤y)
 | []=>List.Pairwise.nil
 | z::zs=>insI_pairs z _ (sortI_pairs zs)
theorem isort_fun:isort=sortI:=by
 funext zs
 unfold isort;refine List.Perm.eq_of_pairwise (le:=fun x y:Int=>x≤y) (fun a b _ _ h1 h2=>Int.le_antisymm h1 h2) ?_ (sortI_pairs zs) ((List.mergeSort_perm zs _).trans (sortI_perm zs).symm);have:=List.pairwise_mergeSort (le:=fun x y:Int=>decide (x≤y)) (fun a b c h1 h2=>by simp at *;omega) (fun a b=>by simp;omega) zs;exact this.imp fun h=>by simpa using h
example:reachNo ⟨[(0,0),(200,0)],[(-1000,0),(1000,0)],0,200⟩ 0=false:=by
 simp only [reachNo,leastR,stopsR,stopsZ,isort_fun]
 decide +kernel
theorem ex_laid:laidP exG exP=0:=by
 unfold exP laidP;simp only [laid1,laid2,addE,clearB,clashB,List.any_cons,List.any_nil,List.nil_append,List.cons_append,relP,freeB,leastR,stopsR,stopsZ,isort_fun,holdsB,low_0,low_1,low_2,low_3,low_4,up_0,up_1,up_2,up_3,up_4]
 decide +kernel
theorem ex_by:byE exG exP exR=0:=by
 unfold byE;rw [if_pos ex_laid]
 decide
theorem ex_meet:∀p∈exP,∀q∈exP,meetB p q=true:=by
 unfold exP;intro p hp q hq;simp only [List.mem_cons,List.not_mem_nil,or_false]at hp hq
 rcases hp with rfl|rfl|rfl|rfl|rfl<;>rcases hq with rfl|rfl|rfl|rfl|rfl<;>decide
theorem ex_skin:(skinP exR exP).length=5:=by decide
def exJ1:Jt:=⟨0,1,200,200,0,80⟩
def exJ2:Jt:=⟨2,3,200,200,80,160⟩
theorem ex_raw:rawP exR (skinP exR exP)=[exJ1,exJ2]:=by rfl
theorem ex_L {ks:List (JS×Value)} {L:List Jt} {rs:List Int} (h:SvP exR exP ks L rs):L=[exJ1,exJ2]∧rs=[0,0]:=by
 have hp:=h.perm;rw [ex_raw]at hp
 have hL:L=[exJ1,exJ2]:=by
  refine List.Perm.eq_of_pairwise (le:=fun a b=>¬cfT b a<0) (fun a b ha hb h1 h2=>?_) h.ord ?_ hp
  ·have ha':=hp.mem_iff.1 ha
   simp only [List.mem_cons,List.not_mem_nil,or_false]at ha' hb
   rcases ha' with rfl|rfl<;>rcases hb with rfl|rfl
   ·rfl
   ·exact absurd (by decide) h2
   ·exact absurd (by decide) h1
   ·rfl
  ·refine List.pairwise_cons.2 ⟨fun a ha=>?_,List.pairwise_singleton _ _⟩
   rw [List.mem_singleton.1 ha]
   decide
 refine⟨hL,?_⟩;rw [h.roots,hL];rfl
theorem bedO_some (p:Pl) (t:List (Int×Int)) (b pin:Int):(bedO p t b pin).isSome=(decide ((btw (lowP2 p) t).lo<(btw (lowP2 p) t).hi)&&!reachNo (btw (lowP2 p) t) pin):=by
 unfold bedO reachP
 by_cases h1:(btw (lowP2 p) t).lo<(btw (lowP2 p) t).hi
 ·rw [if_pos h1]
  cases h2:reachNo (btw (lowP2 p) t) pin<;>simp [h1]
 ·rw [if_neg h1]
  simp [h1]
theorem bedsN_nums (g:List (Int×Int)) (ps:List Pl) (a:Nat) (p:Pl) (pin:Int):∀n,(bedsN g ps a p pin n).map (·.num)=((List.range n).filter fun i:Nat=>(bedAt g ps a p pin ((i:Int)-1)).isSome).map fun i:Nat=>(i:Int)-1
 | 0=>rfl
 | n+1=>by
  rw [bedsN_step,List.map_append,bedsN_nums g ps a p pin n,List.range_succ,List.filter_append,List.map_append]
  congr 1
  cases h:bedAt g ps a p pin ((n:Int)-1)with
  | none=>simp [h]
  | some be=>simp [h,bedAt_num h]
theorem be_0_0:(bedAt exG exP 0 (brickP ⟨#[97]⟩ 0 0) 0 (((0:Nat):Int)-1)).isSome=true:=by
 show (bedO (brickP ⟨#[97]⟩ 0 0) exG (-1) 0).isSome=true
 rw [bedO_some,low_0];simp only [btw,reachNo,leastR,stopsR,stopsZ,isort_fun]
 decide +kernel
theorem be_0_1:(bedAt exG exP 0 (brickP ⟨#[97]⟩ 0 0) 0 (((1:Nat):Int)-1)).isSome=false:=by
 rfl
theorem be_0_2:(bedAt exG exP 0 (brickP ⟨#[97]⟩ 0 0) 0 (((2:Nat):Int)-1)).isSome=false:=by
 show (bedO (brickP ⟨#[97]⟩ 0 0) (upP2 (brickP ⟨#[98]⟩ 200 0)) (1) 0).isSome=false
 rw [bedO_some,low_0,up_1];simp only [btw,reachNo,leastR,stopsR,stopsZ,isort_fun]
 decide +kernel
theorem be_0_3:(bedAt exG exP 0 (brickP ⟨#[97]⟩ 0 0) 0 (((3:Nat):Int)-1)).isSome=false:=by
 show (bedO (brickP ⟨#[97]⟩ 0 0) (upP2 (brickP ⟨#[99]⟩ 0 80)) (2) 0).isSome=false
 rw [bedO_some,low_0,up_2];simp only [btw,reachNo,leastR,stopsR,stopsZ,isort_fun]
 decide +kernel
theorem be_0_4:(bedAt exG exP 0 (brickP ⟨#[97]⟩ 0 0) 0 (((4:Nat):Int)-1)).isSome=false:=by
 show (bedO (brickP ⟨#[97]⟩ 0 0) (upP2 (brickP ⟨#[100]⟩ 200 80)) (3) 0).isSome=false
 rw [bedO_some,low_0,up_3];simp only [btw,reachNo,leastR,stopsR,stopsZ,isort_fun]
 decide +kernel
theorem be_0_5:(bedAt exG exP 0 (brickP ⟨#[97]⟩ 0 0) 0 (((5:Nat):Int)-1)).isSome=false:=by
 show (bedO (brickP ⟨#[97]⟩ 0 0) (upP2 (brickP ⟨#[101]⟩ 100 160)) (4) 0).isSome=false
 rw [bedO_some,low_0,up_4];simp only [btw,reachNo,leastR,stopsR,stopsZ,isort_fun]
 decide +kernel
theorem be_1_0:(bedAt exG exP 1 (brickP ⟨#[98]⟩ 200 0) 0 (((0:Nat):Int)-1)).isSome=true:=by
 show (bedO (brickP ⟨#[98]⟩ 200 0) exG (-1) 0).isSome=true
 rw [bedO_some,low_1];simp only [btw,reachNo,leastR,stopsR,stopsZ,isort_fun]
 decide +kernel
theorem be_1_1:(bedAt exG exP 1 (brickP ⟨#[98]⟩ 200 0) 0 (((1:Nat):Int)-1)).isSome=false:=by
 show (bedO (brickP ⟨#[98]⟩ 200 0) (upP2 (brickP ⟨#[97]⟩ 0 0)) (0) 0).isSome=false
 rw [bedO_some,low_1,up_0];simp only [btw,reachNo,leastR,stopsR,stopsZ,isort_fun]
 decide +kernel
theorem be_1_2:(bedAt exG exP 1 (brickP ⟨#[98]⟩ 200 0) 0 (((2:Nat):Int)-1)).isSome=false:=by
 rfl
theorem be_1_3:(bedAt exG exP 1 (brickP ⟨#[98]⟩ 200 0) 0 (((3:Nat):Int)-1)).isSome=false:=by
 show (bedO (brickP ⟨#[98]⟩ 200 0) (upP2 (brickP ⟨#[99]⟩ 0 80)) (2) 0).isSome=false
 rw [bedO_some,low_1,up_2];simp only [btw,reachNo,leastR,stopsR,stopsZ,isort_fun]
 decide +kernel
theorem be_1_4:(bedAt exG exP 1 (brickP ⟨#[98]⟩ 200 0) 0 (((4:Nat):Int)-1)).isSome=false:=by
 show (bedO (brickP ⟨#[98]⟩ 200 0) (upP2 (brickP ⟨#[100]⟩ 200 80)) (3) 0).isSome=false
 rw [bedO_some,low_1,up_3];simp only [btw,reachNo,leastR,stopsR,stopsZ,isort_fun]
 decide +kernel
theorem be_1_5:(bedAt exG exP 1 (brickP ⟨#[98]⟩ 200 0) 0 (((5:Nat):Int)-1)).isSome=false:=by
 show (bedO (brickP ⟨#[98]⟩ 200 0) (upP2 (brickP ⟨#[101]⟩ 100 160)) (4) 0).isSome=false
 rw [bedO_some,low_1,up_4];simp only [btw,reachNo,leastR,stopsR,stopsZ,isort_fun]
 decide +kernel
theorem be_2_0:(bedAt exG exP 2 (brickP ⟨#[99]⟩ 0 80) 0 (((0:Nat):Int)-1)).isSome=false:=by
 show (bedO (brickP ⟨#[99]⟩ 0 80) exG (-1) 0).isSome=false
 rw [bedO_some,low_2];simp only [btw,reachNo,leastR,stopsR,stopsZ,isort_fun]
 decide +kernel
theorem be_2_1:(bedAt exG exP 2 (brickP ⟨#[99]⟩ 0 80) 0 (((1:Nat):Int)-1)).isSome=true:=by
 show (bedO (brickP ⟨#[99]⟩ 0 80) (upP2 (brickP ⟨#[97]⟩ 0 0)) (0) 0).isSome=true
 rw [bedO_some,low_2,up_0];simp only [btw,reachNo,leastR,stopsR,stopsZ,isort_fun]
 decide +kernel
theorem be_2_2:(bedAt exG exP 2 (brickP ⟨#[99]⟩ 0 80) 0 (((2:Nat):Int)-1)).isSome=false:=by
 show (bedO (brickP ⟨#[99]⟩ 0 80) (upP2 (brickP ⟨#[98]⟩ 200 0)) (1) 0).isSome=false
 rw [bedO_some,low_2,up_1];simp only [btw,reachNo,leastR,stopsR,stopsZ,isort_fun]
 decide +kernel
theorem be_2_3:(bedAt exG exP 2 (brickP ⟨#[99]⟩ 0 80) 0 (((3:Nat):Int)-1)).isSome=false:=by
 rfl
theorem be_2_4:(bedAt exG exP 2 (brickP ⟨#[99]⟩ 0 80) 0 (((4:Nat):Int)-1)).isSome=false:=by
 show (bedO (brickP ⟨#[99]⟩ 0 80) (upP2 (brickP ⟨#[100]⟩ 200 80)) (3) 0).isSome=false
 rw [bedO_some,low_2,up_3];simp only [btw,reachNo,leastR,stopsR,stopsZ,isort_fun]
 decide +kernel
theorem be_2_5:(bedAt exG exP 2 (brickP ⟨#[99]⟩ 0 80) 0 (((5:Nat):Int)-1)).isSome=false:=by
 show (bedO (brickP ⟨#[99]⟩ 0 80) (upP2 (brickP ⟨#[101]⟩ 100 160)) (4) 0).isSome=false
 rw [bedO_some,low_2,up_4];simp only [btw,reachNo,leastR,stopsR,stopsZ,isort_fun]
 decide +kernel
theorem be_3_0:(bedAt exG exP 3 (brickP ⟨#[100]⟩ 200 80) 0 (((0:Nat):Int)-1)).isSome=false:=by
 show (bedO (brickP ⟨#[100]⟩ 200 80) exG (-1) 0).isSome=false
 rw [bedO_some,low_3];simp only [btw,reachNo,leastR,stopsR,stopsZ,isort_fun]
 decide +kernel
theorem be_3_1:(bedAt exG exP 3 (brickP ⟨#[100]⟩ 200 80) 0 (((1:Nat):Int)-1)).isSome=false:=by
 show (bedO (brickP ⟨#[100]⟩ 200 80) (upP2 (brickP ⟨#[97]⟩ 0 0)) (0) 0).isSome=false
 rw [bedO_some,low_3,up_0];simp only [btw,reachNo,leastR,stopsR,stopsZ,isort_fun]
 decide +kernel
theorem be_3_2:(bedAt exG exP 3 (brickP ⟨#[100]⟩ 200 80) 0 (((2:Nat):Int)-1)).isSome=true:=by
 show (bedO (brickP ⟨#[100]⟩ 200 80) (upP2 (brickP ⟨#[98]⟩ 200 0)) (1) 0).isSome=true
 rw [bedO_some,low_3,up_1];simp only [btw,reachNo,leastR,stopsR,stopsZ,isort_fun]
 decide +kernel
theorem be_3_3:(bedAt exG exP 3 (brickP ⟨#[100]⟩ 200 80) 0 (((3:Nat):Int)-1)).isSome=false:=by
 show (bedO (brickP ⟨#[100]⟩ 200 80) (upP2 (brickP ⟨#[99]⟩ 0 80)) (2) 0).isSome=false
 rw [bedO_some,low_3,up_2];simp only [btw,reachNo,leastR,stopsR,stopsZ,isort_fun]
 decide +kernel
theorem be_3_4:(bedAt exG exP 3 (brickP ⟨#[100]⟩ 200 80) 0 (((4:Nat):Int)-1)).isSome=false:=by
 rfl
theorem be_3_5:(bedAt exG exP 3 (brickP ⟨#[100]⟩ 200 80) 0 (((5:Nat):Int)-1)).isSome=false:=by
 show (bedO (brickP ⟨#[100]⟩ 200 80) (upP2 (brickP ⟨#[101]⟩ 100 160)) (4) 0).isSome=false
 rw [bedO_some,low_3,up_4];simp only [btw,reachNo,leastR,stopsR,stopsZ,isort_fun]
 decide +kernel
theorem be_4_0:(bedAt exG exP 4 (brickP ⟨#[101]⟩ 100 160) 0 (((0:Nat):Int)-1)).isSome=false:=by
 show (bedO (brickP ⟨#[101]⟩ 100 160) exG (-1) 0).isSome=false
 rw [bedO_some,low_4];simp only [btw,reachNo,leastR,stopsR,stopsZ,isort_fun]
 decide +kernel
theorem be_4_1:(bedAt exG exP 4 (brickP ⟨#[101]⟩ 100 160) 0 (((1:Nat):Int)-1)).isSome=false:=by
 show (bedO (brickP ⟨#[101]⟩ 100 160) (upP2 (brickP ⟨#[97]⟩ 0 0)) (0) 0).isSome=false
 rw [bedO_some,low_4,up_0];simp only [btw,reachNo,leastR,stopsR,stopsZ,isort_fun]
 decide +kernel
theorem be_4_2:(bedAt exG exP 4 (brickP ⟨#[101]⟩ 100 160) 0 (((2:Nat):Int)-1)).isSome=false:=by
 show (bedO (brickP ⟨#[101]⟩ 100 160) (upP2 (brickP ⟨#[98]⟩ 200 0)) (1) 0).isSome=false
 rw [bedO_some,low_4,up_1];simp only [btw,reachNo,leastR,stopsR,stopsZ,isort_fun]
 decide +kernel
theorem be_4_3:(bedAt exG exP 4 (brickP ⟨#[101]⟩ 100 160) 0 (((3:Nat):Int)-1)).isSome=true:=by
 show (bedO (brickP ⟨#[101]⟩ 100 160) (upP2 (brickP ⟨#[99]⟩ 0 80)) (2) 0).isSome=true
 rw [bedO_some,low_4,up_2];simp only [btw,reachNo,leastR,stopsR,stopsZ,isort_fun]
 decide +kernel
theorem be_4_4:(bedAt exG exP 4 (brickP ⟨#[101]⟩ 100 160) 0 (((4:Nat):Int)-1)).isSome=true:=by
 show (bedO (brickP ⟨#[101]⟩ 100 160) (upP2 (brickP ⟨#[100]⟩ 200 80)) (3) 0).isSome=true
 rw [bedO_some,low_4,up_3];simp only [btw,reachNo,leastR,stopsR,stopsZ,isort_fun]
 decide +kernel
theorem be_4_5:(bedAt exG exP 4 (brickP ⟨#[101]⟩ 100 160) 0 (((5:Nat):Int)-1)).isSome=false:=by
 rfl
theorem ex_beds_0:(bsP exG exP 0 0).map (·.num)=[-1]:=by
 show (bedsN exG exP 0 (brickP ⟨#[97]⟩ 0 0) 0 (5+1)).map (·.num)=_
 rw [bedsN_nums];rw [show List.range (5+1)=[0,1,2,3,4,5]from rfl];simp only [List.filter_cons,List.filter_nil,be_0_0,be_0_1,be_0_2,be_0_3,be_0_4,be_0_5];rfl
theorem ex_beds_1:(bsP exG exP 0 1).map (·.num)=[-1]:=by
 show (bedsN exG exP 1 (brickP ⟨#[98]⟩ 200 0) 0 (5+1)).map (·.num)=_
 rw [bedsN_nums];rw [show List.range (5+1)=[0,1,2,3,4,5]from rfl];simp only [List.filter_cons,List.filter_nil,be_1_0,be_1_1,be_1_2,be_1_3,be_1_4,be_1_5];rfl
theorem ex_beds_2:(bsP exG exP 0 2).map (·.num)=[0]:=by
 show (bedsN exG exP 2 (brickP ⟨#[99]⟩ 0 80) 0 (5+1)).map (·.num)=_
 rw [bedsN_nums];rw [show List.range (5+1)=[0,1,2,3,4,5]from rfl];simp only [List.filter_cons,List.filter_nil,be_2_0,be_2_1,be_2_2,be_2_3,be_2_4,be_2_5];rfl
theorem ex_beds_3:(bsP exG exP 0 3).map (·.num)=[1]:=by
 show (bedsN exG exP 3 (brickP ⟨#[100]⟩ 200 80) 0 (5+1)).map (·.num)=_
 rw [bedsN_nums];rw [show List.range (5+1)=[0,1,2,3,4,5]from rfl];simp only [List.filter_cons,List.filter_nil,be_3_0,be_3_1,be_3_2,be_3_3,be_3_4,be_3_5];rfl
theorem ex_beds_4:(bsP exG exP 0 4).map (·.num)=[2,3]:=by
 show (bedsN exG exP 4 (brickP ⟨#[101]⟩ 100 160) 0 (5+1)).map (·.num)=_
 rw [bedsN_nums];rw [show List.range (5+1)=[0,1,2,3,4,5]from rfl];simp only [List.filter_cons,List.filter_nil,be_4_0,be_4_1,be_4_2,be_4_3,be_4_4,be_4_5];rfl
theorem keyAt_fst (ks:List (JS×Value)) (m:Nat):keyAt ks m=(match (ks.map Prod.fst)[m]? with|some j=>j.k.toNat|none=>0):=by
 unfold keyAt;rw [lP]
 cases ks[m]?<;>rfl
theorem undOk_fst (ks:List (JS×Value)) (z:Int):undOk ks z=(decide (0≤z)&&(ks.map Prod.fst).any fun j=>j.k==z):=by
 unfold undOk;rw [List.any_map];rfl
theorem undQ_nums (ks:List (JS×Value)) (bs:List Be):undQ ks bs bs.length=(bs.map (·.num)).filter (undOk ks):=by
 unfold undQ;rw [List.take_length]
section
variable {ks:List (JS×Value)} (h:ks.map Prod.fst=skinP exR exP)
include h
theorem ex_len:ks.length=5:=by rw [←lL (f:=Prod.fst),h];exact ex_skin
theorem ex_key_0:keyAt ks 0=0:=by rw [keyAt_fst,h];rfl
theorem ex_key_1:keyAt ks 1=1:=by rw [keyAt_fst,h];rfl
theorem ex_key_2:keyAt ks 2=2:=by rw [keyAt_fst,h];rfl
theorem ex_key_3:keyAt ks 3=3:=by rw [keyAt_fst,h];rfl
theorem ex_key_4:keyAt ks 4=4:=by rw [keyAt_fst,h];rfl
theorem ex_und_0:undQ ks (bsP exG exP 0 0) (bsP exG exP 0 0).length=[]:=by
 rw [undQ_nums,ex_beds_0];simp only [List.filter_cons,List.filter_nil,undOk_fst,h];rfl
theorem ex_und_1:undQ ks (bsP exG exP 0 1) (bsP exG exP 0 1).length=[]:=by
 rw [undQ_nums,ex_beds_1];simp only [List.filter_cons,List.filter_nil,undOk_fst,h];rfl
theorem ex_und_2:undQ ks (bsP exG exP 0 2) (bsP exG exP 0 2).length=[0]:=by
 rw [undQ_nums,ex_beds_2];simp only [List.filter_cons,List.filter_nil,undOk_fst,h];rfl
theorem ex_und_3:undQ ks (bsP exG exP 0 3) (bsP exG exP 0 3).length=[1]:=by
 rw [undQ_nums,ex_beds_3];simp only [List.filter_cons,List.filter_nil,undOk_fst,h];rfl
theorem ex_und_4:undQ ks (bsP exG exP 0 4) (bsP exG exP 0 4).length=[2,3]:=by
 rw [undQ_nums,ex_beds_4];simp only [List.filter_cons,List.filter_nil,undOk_fst,h];rfl
theorem ex_fm_0:fM ks (bsP exG exP 0) 5 0=[]:=by
 simp only [fM,ex_key_0 h,ex_key_1 h,ex_key_2 h,ex_key_3 h,ex_key_4 h,ex_und_0 h,ex_und_1 h,ex_und_2 h,ex_und_3 h,ex_und_4 h];rfl
theorem ex_fm_1:fM ks (bsP exG exP 0) 5 1=[]:=by
 simp only [fM,ex_key_0 h,ex_key_1 h,ex_key_2 h,ex_key_3 h,ex_key_4 h,ex_und_0 h,ex_und_1 h,ex_und_2 h,ex_und_3 h,ex_und_4 h];rfl
theorem ex_fm_2:fM ks (bsP exG exP 0) 5 2=[0]:=by
 simp only [fM,ex_key_0 h,ex_key_1 h,ex_key_2 h,ex_key_3 h,ex_key_4 h,ex_und_0 h,ex_und_1 h,ex_und_2 h,ex_und_3 h,ex_und_4 h];rfl
theorem ex_fm_3:fM ks (bsP exG exP 0) 5 3=[1]:=by
 simp only [fM,ex_key_0 h,ex_key_1 h,ex_key_2 h,ex_key_3 h,ex_key_4 h,ex_und_0 h,ex_und_1 h,ex_und_2 h,ex_und_3 h,ex_und_4 h];rfl
theorem ex_fm_4:fM ks (bsP exG exP 0) 5 4=[2,3]:=by
 simp only [fM,ex_key_0 h,ex_key_1 h,ex_key_2 h,ex_key_3 h,ex_key_4 h,ex_und_0 h,ex_und_1 h,ex_und_2 h,ex_und_3 h,ex_und_4 h];rfl
theorem ex_o0:outC 5 (fM ks (bsP exG exP 0) 5) ks 0=[0,0,0,0,0]:=rfl
theorem ex_o1:outC 5 (fM ks (bsP exG exP 0) 5) ks 1=[1,0,0,0,0]:=by
 show (outC 5 (fM ks (bsP exG exP 0) 5) ks 0).set (keyAt ks 0) (topC (outC 5 (fM ks (bsP exG exP 0) 5) ks 0) (fM ks (bsP exG exP 0) 5 (keyAt ks 0))+1)=_
 rw [ex_key_0 h,ex_o0 h,ex_fm_0 h]
 decide
theorem ex_o2:outC 5 (fM ks (bsP exG exP 0) 5) ks 2=[1,1,0,0,0]:=by
 show (outC 5 (fM ks (bsP exG exP 0) 5) ks 1).set (keyAt ks 1) (topC (outC 5 (fM ks (bsP exG exP 0) 5) ks 1) (fM ks (bsP exG exP 0) 5 (keyAt ks 1))+1)=_
 rw [ex_key_1 h,ex_o1 h,ex_fm_1 h]
 decide
theorem ex_o3:outC 5 (fM ks (bsP exG exP 0) 5) ks 3=[1,1,2,0,0]:=by
 show (outC 5 (fM ks (bsP exG exP 0) 5) ks 2).set (keyAt ks 2) (topC (outC 5 (fM ks (bsP exG exP 0) 5) ks 2) (fM ks (bsP exG exP 0) 5 (keyAt ks 2))+1)=_
 rw [ex_key_2 h,ex_o2 h,ex_fm_2 h]
 decide
theorem ex_o4:outC 5 (fM ks (bsP exG exP 0) 5) ks 4=[1,1,2,2,0]:=by
 show (outC 5 (fM ks (bsP exG exP 0) 5) ks 3).set (keyAt ks 3) (topC (outC 5 (fM ks (bsP exG exP 0) 5) ks 3) (fM ks (bsP exG exP 0) 5 (keyAt ks 3))+1)=_
 rw [ex_key_3 h,ex_o3 h,ex_fm_3 h]
 decide
theorem ex_o5:outC 5 (fM ks (bsP exG exP 0) 5) ks 5=[1,1,2,2,3]:=by
 show (outC 5 (fM ks (bsP exG exP 0) 5) ks 4).set (keyAt ks 4) (topC (outC 5 (fM ks (bsP exG exP 0) 5) ks 4) (fM ks (bsP exG exP 0) 5 (keyAt ks 4))+1)=_
 rw [ex_key_4 h,ex_o4 h,ex_fm_4 h]
 decide
theorem ex_pass:Pass1 5 (fM ks (bsP exG exP 0) 5) ks:=by
 refine⟨fun m hm=>?_,fun m hm=>?_,fun m hm=>?_⟩
 ·rw [ex_len h]at hm
  match m,hm with
  | 0,_=>rw [ex_key_0 h,ex_fm_0 h];intro z hz;cases hz
  | 1,_=>rw [ex_key_1 h,ex_fm_1 h];intro z hz;cases hz
  | 2,_=>rw [ex_key_2 h,ex_fm_2 h,ex_o2 h];decide
  | 3,_=>rw [ex_key_3 h,ex_fm_3 h,ex_o3 h];decide
  | 4,_=>rw [ex_key_4 h,ex_fm_4 h,ex_o4 h];decide
 ·rw [ex_len h]at hm
  match m,hm with
  | 0,_=>rw [ex_key_0 h,ex_o0 h];rfl
  | 1,_=>rw [ex_key_1 h,ex_o1 h];rfl
  | 2,_=>rw [ex_key_2 h,ex_o2 h];rfl
  | 3,_=>rw [ex_key_3 h,ex_o3 h];rfl
  | 4,_=>rw [ex_key_4 h,ex_o4 h];rfl
 ·rw [ex_len h]at hm
  match m,hm with
  | 0,_=>rw [ex_o0 h];decide
  | 1,_=>rw [ex_o1 h];decide
  | 2,_=>rw [ex_o2 h];decide
  | 3,_=>rw [ex_o3 h];decide
  | 4,_=>rw [ex_o4 h];decide
  | 5,_=>rw [ex_o5 h];decide
end
theorem ex_courses (w:World) (vg vp:Value) (hg:IsPts w vg exG) (hp:IsPls w vp exP) (hgw:Gw w) :
  Calls Tryz.prog 13 #[.agg #[vg,vp],.agg (ruc exR)] w fun e w'=>∃v,e = .returned (.tuple #[v,.int .i64 0])∧IsIs w' v [1,1,2,2,3]∧Ext w w':=by
 refine(Courses_ok w vg vp exG exP exR hg hp hgw ex_by rfl ex_meet (by rw [ex_skin];decide) (fun ks hk=>?_)).mono ?_
 ·have:=ex_pass hk
  rw [show exR.pin=0 from rfl,ex_len hk];exact this
 ·rintro e w' ⟨v,ks,rfl,hk,hi,hx⟩
  rw [show exR.pin=0 from rfl,ex_len hk]at hi;have h5:=ex_o5 hk;refine⟨v,rfl,?_,hx⟩;rw [←h5];exact hi
theorem ex_joints (w:World) (vg vp:Value) (hg:IsPts w vg exG) (hp:IsPls w vp exP) (hgw:Gw w) :
  Calls Tryz.prog 9 #[.agg #[vg,vp],.agg (ruc exR)] w fun e w'=>∃a c,e = .returned (.tuple #[.slice a 2 c,.int .i64 0])∧IsJts w' (.slice a 2 c) [exJ1,exJ2]∧Ext w w':=by
 refine(joints_any w vg vp exG exP exR hg hp hgw).mono ?_;rintro e w' (⟨h,_⟩|⟨_,v,L,ks,rs,rfl,hj,svp,hx⟩)
 ·exact absurd ex_by h
 ·obtain⟨rfl,-⟩:=ex_L svp
  obtain⟨a,c,rfl⟩:=hj.form;exact⟨a,c,rfl,hj,hx⟩
theorem ex_roots (w:World) (vg vp:Value) (hg:IsPts w vg exG) (hp:IsPls w vp exP) (hgw:Gw w) :
  Calls Tryz.prog 12 #[.agg #[vg,vp],.agg (ruc exR)] w fun e w'=>∃v,e = .returned (.tuple #[v,.int .i64 0])∧IsIs w' v [0,0]∧Ext w w':=by
 refine(roots_any w vg vp exG exP exR hg hp hgw).mono ?_;rintro e w' (⟨h,_⟩|⟨_,v,L,ks,rs,rfl,hi,svp,hx⟩)
 ·exact absurd ex_by h
 ·obtain⟨-,rfl⟩:=ex_L svp
  exact⟨v,rfl,hi,hx⟩
theorem awake_any (w:World) (hgw:Gw w):Calls Tryz.prog 5 #[] w fun e w'=>e = .returned (.bool true)∧Ext w w':=by
 have Hgw:=hd9 hgw;clear hgw;go_enter Tryz.func5,Tryz.ntmps5
 go_upto_region 2 with (first|(go_at_call 10;(with_reducible refine(five_any _).mono ?_);rintro e w11 ⟨vg1,vp1,rfl,hg1,hp1,hx1⟩;have E11:Ext w w11:=(Ext.refl w).trans hx1)|(go_at_call 11;(with_reducible refine(exrules_any _).mono ?_);rintro e w12 ⟨rfl,hy1⟩;have E12:Ext w w12:=E11.trans hy1)|(go_at_call 9;(with_reducible refine(ex_joints _ vg1 vp1 (hg1.ext' hy1) (hp1.ext' hy1) (Hgw.out.ext E12)).mono ?_);rintro e w13 ⟨ja,jc9,rfl,hj,hz1⟩;have E13:Ext w w13:=E12.trans hz1))
 go_upto_region 3 with (first|(go_at_call 10;(with_reducible refine(five_any _).mono ?_);rintro e w21 ⟨vg2,vp2,rfl,hg2,hp2,hx2⟩;have E21:Ext w w21:=E13.trans hx2)|(go_at_call 11;(with_reducible refine(exrules_any _).mono ?_);rintro e w22 ⟨rfl,hy2⟩;have E22:Ext w w22:=E21.trans hy2)|(go_at_call 12;(with_reducible refine(ex_roots _ vg2 vp2 (hg2.ext' hy2) (hp2.ext' hy2) (Hgw.out.ext E22)).mono ?_);rintro e w23 ⟨vr,rfl,hr,hz2⟩;have E23:Ext w w23:=E22.trans hz2))
 go_upto_region 4 with (first|(go_at_call 10;(with_reducible refine(five_any _).mono ?_);rintro e w31 ⟨vg3,vp3,rfl,hg3,hp3,hx3⟩;have E31:Ext w w31:=E23.trans hx3)|(go_at_call 11;(with_reducible refine(exrules_any _).mono ?_);rintro e w32 ⟨rfl,hy3⟩;have E32:Ext w w32:=E31.trans hy3)|(go_at_call 13;(with_reducible refine(ex_courses _ vg3 vp3 (hg3.ext' hy3) (hp3.ext' hy3) (Hgw.out.ext E32)).mono ?_);rintro e w33 ⟨vc,rfl,hc,hz3⟩;have E33:Ext w w33:=E32.trans hz3))
 have X3:Ext w13 w33:=((((hx2.trans hy2).trans hz2).trans hx3).trans hy3).trans hz3;have X2:Ext w23 w33:=(hx3.trans hy3).trans hz3;obtain⟨jb,jo,d,rfl,hjb,hjl,hd,hc'⟩:=Sl.at (hj.ext' X3) (i:=1) (x:=exJ2) rfl;subst hd;have d0:=hc' 0 (.int .i64 2) rfl;have d1:=hc' 1 (.int .i64 3) rfl;have d2:=hc' 2 (.int .i64 200) rfl;have d3:=hc' 3 (.int .i64 200) rfl;have d4:=hc' 4 (.int .i64 80) rfl;have d5:=hc' 5 (.int .i64 160) rfl;simp only [Nat.add_zero,Nat.one_mul]at d0 d1 d2 d3 d4 d5;have HI1:=hd9 (fun(W:World) (hW:Ext w33 W) (v:Value) (h:IsIs W v [0,0])=>ints_any W vr v [0,0] [0,0] ((hr.ext' X2).ext' hW) h);have HI2:=hd9 (fun(W:World) (hW:Ext w33 W) (v:Value) (h:IsIs W v [1,1,2,2,3])=>ints_any W vc v [1,1,2,2,3] [1,1,2,2,3] (hc.ext' hW) h);have E:=hd9 E33;clear hc' hj hr hc X3 X2 hjl hx1 hy1 hz1 hx2 hy2 hz2 hx3 hy3 hz3 E11 E12 E13 E21 E22 E23 E31 E32 E33
 go_wp2_with(first|(go_at_call 14;(with_reducible refine(HI1.out _ ((Ext.refl w33).alloc _) _ ((own_two w33 0 0 0 (Nat.zero_le _)).is)).mono ?_);rintro e w41 ⟨rfl,hx41⟩;have X41:=((Ext.refl w33).alloc (.cells #[.int .i64 0,.int .i64 0] 3)).trans hx41)|(go_at_call 14;(with_reducible refine(HI2.out _ (X41.alloc _) _ (is_five w41 rfl 1 1 2 2 3)).mono ?_);rintro e w42 ⟨rfl,hx42⟩))
 go_ret;exact⟨rfl,((E.out.trans X41).alloc _).trans hx42⟩
end Go.Proofs.YtobbionccnkmgaaGreatDoor.Cop
namespace Go.Proofs.YtobbionccnkmgaaGreatDoor.Cop
open Go.RowKit Go.Shelf Go.Sort
def Clr (js:List JS) (u v:Int):Prop:=∀j∈js,j.x.2≤u∨v≤j.x.1
def IsBare (lo hi:Int) (js:List JS) (n:Int):Prop:=
 0≤n∧(∀u v,lo≤u→v≤hi→u≤v→Clr js u v→v-u≤n)∧(n=0∨∃u v,lo≤u∧v≤hi∧u≤v∧Clr js u v∧n=v-u)
theorem Clr.sub {js ks:List JS} {u v:Int} (h:Clr js u v) (hs:∀j∈ks,∃i∈js,i.x=j.x):Clr ks u v:=fun j hj=>by
 obtain⟨i,hi,e⟩:=hs j hj;rw [←e];exact h i hi
theorem sw_inv (S:List JS) (lo hi:Int):∀(rest:List JS) (o:Int×Int),(∀y∈S,y∈rest∨y.x.2≤o.2)→(∀y∈rest,y∈S)→rest.Pairwise (fun x y=>x.x.1≤y.x.1)→lo≤o.2→0≤o.1 →
  (∀u v,lo≤u→v≤hi→u≤v→Clr S u v→v-u≤o.1∨o.2≤u)→(o.1=0∨∃u v,lo≤u∧v≤hi∧u≤v∧Clr S u v∧o.1=v-u)→lo≤hi →
  IsBare lo hi S (max (rest.foldl (swP hi) o).1 (hi-(rest.foldl (swP hi) o).2))
 | [],o,h1,h2,h3,h4,h5,h6,h7,h8=>by
  simp only [List.foldl_nil];refine⟨by omega,fun u v hu hv huv hc=>?_,?_⟩
  ·rcases h6 u v hu hv huv hc with h|h<;>omega
  ·by_cases h9:hi-o.2≤o.1
   ·rw [Int.max_eq_left h9];exact h7
   ·rw [Int.max_eq_right (by omega)]
    refine .inr ⟨o.2,hi,h4,Int.le_refl _,by omega,fun j hj=>?_,rfl⟩
    rcases h1 j hj with h|h
    ·cases h
    ·exact .inl h
 | x::rest,o,h1,h2,h3,h4,h5,h6,h7,h8=>by
  rw [List.foldl_cons];have hp:=List.pairwise_cons.1 h3;refine sw_inv S lo hi rest (swP hi o x) ?_ (fun y hy=>h2 y (List.mem_cons_of_mem _ hy)) hp.2 (by unfold swP;dsimp only;omega) (by unfold swP;dsimp only;omega) ?_ ?_ h8
  ·intro y hy
   rcases h1 y hy with h|h
   ·rcases List.mem_cons.1 h with rfl|h
    ·exact .inr (by unfold swP;dsimp only;omega)
    ·exact .inl h
   ·exact .inr (by unfold swP;dsimp only;omega)
  ·intro u v hu hv huv hc
   have hx:=hc x (h2 x (by simp));unfold swP;dsimp only
   rcases h6 u v hu hv huv hc with h|h<;>omega
  ·unfold swP
   dsimp only
   by_cases h9:min x.x.1 hi-o.2≤o.1
   ·rw [Int.max_eq_left h9];exact h7
   ·rw [Int.max_eq_right (by omega)]
    refine .inr ⟨o.2,min x.x.1 hi,h4,by omega,by omega,fun j hj=>?_,rfl⟩
    rcases h1 j hj with h|h
    ·rcases List.mem_cons.1 h with rfl|h
     ·exact .inr (by omega)
     ·have:=hp.1 j h
      exact .inr (by omega)
    ·exact .inl h
theorem sweep_bare {lo hi:Int} {js:List JS} (h:js.Pairwise (fun x y=>x.x.1≤y.x.1)) (hl:lo≤hi):IsBare lo hi js (sweepP lo hi js):=by
 unfold sweepP;refine sw_inv js lo hi js (0,lo) (fun y hy=>.inl hy) (fun _ h=>h) h (Int.le_refl _) (Int.le_refl _) (fun u v hu _ _ _=>.inr hu) (.inl rfl) hl
theorem IsBare.perm {lo hi n:Int} {js ks:List JS} (h:IsBare lo hi js n) (hp:js.Perm ks):IsBare lo hi ks n:=by
 have e:∀u v,Clr js u v ↔ Clr ks u v:=fun u v=>⟨fun h j hj=>h j (hp.mem_iff.2 hj),fun h j hj=>h j (hp.mem_iff.1 hj)⟩
 unfold IsBare at *;simp only [e]at h;exact h
theorem IsBare.le {lo hi n:Int} {js:List JS} (h:IsBare lo hi js n) (hl:lo≤hi):n≤hi-lo:=by
 rcases h.2.2 with h|⟨u,v,h1,h2,h3,_,h5⟩<;>omega
theorem IsBare.nil {lo hi n:Int} (h:IsBare lo hi [] n) (hl:lo≤hi):n=hi-lo:=by
 have h1:=h.le hl;have h2:=h.2.1 lo hi (Int.le_refl _) (Int.le_refl _) hl (fun j hj=>by cases hj);omega
theorem IsBare.part {lo hi lo' hi' n m:Int} {js ks:List JS} (h:IsBare lo hi js n) (k:IsBare lo' hi' ks m) (h1:lo≤lo') (h2:hi'≤hi) (hs:∀j∈js,∃i∈ks,i.x=j.x):m≤n:=by
 rcases k.2.2 with e|⟨u,v,g1,g2,g3,g4,g5⟩
 ·rw [e];exact h.1
 ·rw [g5]
  exact h.2.1 u v (by omega) (by omega) g3 (g4.sub hs)
theorem IsBare.two {lo mid hi n x y:Int} {js:List JS} (h:IsBare lo hi js n) (k:IsBare lo mid js x) (l:IsBare mid hi js y):n≤x+y:=by
 have hx:=k.1;have hy:=l.1
 rcases h.2.2 with e|⟨u,v,g1,g2,g3,g4,g5⟩
 ·omega
 ·by_cases a:v≤mid
  ·have:=k.2.1 u v g1 a g3 g4
   omega
  ·by_cases b:mid≤u
   ·have:=l.2.1 u v b g2 g3 g4
    omega
   ·have p:=k.2.1 u mid g1 (Int.le_refl _) (by omega) (fun j hj=>by have:=g4 j hj;omega)
    have q:=l.2.1 mid v (Int.le_refl _) g2 (by omega) (fun j hj=>by have:=g4 j hj;omega);omega
end Go.Proofs.YtobbionccnkmgaaGreatDoor.Cop
namespace Go.Proofs.YtobbionccnkmgaaGreatDoor.Cop
open Go.RowKit Go.Shelf Go.Sort Go.Lib
theorem bareE_in {b t lo hi lo' hi':Int} {g:List (Int×Int)} {ps:List Pl} (h:bareE b t lo hi g ps=0) (h1:lo≤lo') (h2:lo'<hi') (h3:hi'≤hi):bareE b t lo' hi' g ps=0:=by
 unfold bareE at *
 split at h
 ·rename_i e
  rw [if_pos e]
  split at h
  ·cases h
  ·rename_i h9
   simp only [List.any_cons,List.any_nil,Bool.or_false,Bool.or_eq_true,not_or,pfarB,decide_eq_true_eq]at h9;rw [if_neg];simp only [List.any_cons,List.any_nil,Bool.or_false,Bool.or_eq_true,not_or,pfarB,decide_eq_true_eq];omega
 ·rename_i h9;exact absurd h h9
def thrP (p:Pl):Pl:={ p with skin:=3 }
theorem OwnPl.thr {w:World} {base g n c k:Nat} {ps:List Pl} {p:Pl} (h:OwnPl w base (.slice (some ⟨g,0,none⟩) n c) ps) (hk:ps[k]?=some p) :
  OwnPl (w.setCell ⟨g,k*10+9,none⟩ (.int .u8 3)) base (.slice (some ⟨g,0,none⟩) n c) (ps.set k (thrP p)):=by
 obtain⟨cs,h1,h2,h3⟩:=h;have hkl:=(lS.1 hk).1;obtain⟨d,hd⟩:∃d,cs[k]?=some d:=⟨cs[k]'(by omega),by simp [h2,hkl]⟩
 have hK:KeepT 38 w (w.setCell ⟨g,k*10+9,none⟩ (.int .u8 3)):=by
  rcases h1.2.2 with ⟨e,_⟩|⟨g',cap,cur,hv,_,hh,_⟩
  ·cases e
  ·cases hv;exact(KeepT.refl _ _).set hh (by decide) _
 refine⟨cs.set k (d.set 9 (.int .u8 3)),h1.stored hd (by omega) _,by simp [h2],fun i c' q hc hq=>?_⟩
 by_cases hik:i=k
 ·subst hik
  rw [List.getElem?_set_self (by omega)]at hc hq
  cases hc;cases hq
  obtain⟨v,rfl,hv,hs⟩:=h3 i d p hd hk;exact⟨v,rfl,hv.keep' hK,by show (0:Int)≤3;omega⟩
 ·rw [List.getElem?_set_ne (fun e=>hik e.symm)]at hc hq
  exact(h3 i c' q hc hq).keep hK
theorem OwnPl.keepPt {w:World} {base g n c i:Nat} {ps:List Pl} (h:OwnPl w base (.slice (some ⟨g,0,none⟩) n c) ps) (u:Value):KeepT 38 w (w.setCell ⟨g,i,none⟩ u):=by
 obtain⟨cs,h1,h2,h3⟩:=h
 rcases h1.2.2 with ⟨e,_⟩|⟨g',cap,cur,hv,_,hh,_⟩
 ·cases e
 ·cases hv;exact(KeepT.refl _ _).set hh (by decide) _
theorem OwnPl.blk {w:World} {base n c:Nat} {a:Option Addr} {ps:List Pl} (h:OwnPl w base (.slice a n c) ps) (hn:0<ps.length):∃g,a=some ⟨g,0,none⟩∧base≤g∧g<w.heap.size:=by
 obtain⟨cs,h1,h2,h3⟩:=h;exact h1.blk (by omega)
theorem OwnPl.len {w:World} {base n c:Nat} {a:Option Addr} {ps:List Pl} (h:OwnPl w base (.slice a n c) ps):n=ps.length:=by
 obtain⟨cs,h1,h2,h3⟩:=h;rw [←h2];exact h1.len
theorem OwnPl.frozen {w:World} {base g n c:Nat} {ps:List Pl} (h:OwnPl w base (.slice (some ⟨g,0,none⟩) n c) ps) (i:Nat):w.frozen? ⟨g,i,none⟩=false:=by
 obtain⟨cs,h1,h2,h3⟩:=h;exact h1.frozen i
theorem OwnPl.skin {w:World} {base g n c k:Nat} {ps:List Pl} {p:Pl} (h:OwnPl w base (.slice (some ⟨g,0,none⟩) n c) ps) (hk:ps[k]?=some p):w.cell? ⟨g,k*10+9,none⟩=some (.int .u8 p.skin):=by
 obtain⟨cs,h1,h2,h3⟩:=h;have hkl:=(lS.1 hk).1;obtain⟨d,hd⟩:∃d,cs[k]?=some d:=⟨cs[k]'(by omega),by simp [h2,hkl]⟩;obtain⟨v,rfl,hv,hs⟩:=h3 k d p hd hk;exact h1.cell hd rfl
theorem OwnPl.extN {w w':World} {base:Nat} {v:Value} {ps:List Pl} (h:OwnPl w base v ps) (k:Ext w w'):OwnPl w' base v ps:=by
 obtain⟨cs,h1,h2,h3⟩:=h;exact⟨cs,h1.ext k,h2,fun i c p hc hp=>(h3 i c p hc hp).ext k⟩
theorem jsP_mem2 {ps:List Pl} {j:JS}:j∈jsP ps ↔ ∃i p,ps[i]?=some p∧j=jsOf i p:=by
 constructor
 ·intro h
  obtain⟨i,hi⟩:=List.mem_iff_getElem?.1 h;unfold jsP at hi;rw [List.getElem?_mapIdx]at hi
  cases hp:ps[i]? with
  | none=>rw [hp]at hi;cases hi
  | some p=>rw [hp]at hi;cases hi;exact⟨i,p,hp,rfl⟩
 ·rintro ⟨i,p,hp,rfl⟩
  exact lM (jsP_get hp)
theorem bareJ_thr {b t:Int} {ps:List Pl} {k:Nat} {p:Pl} (hk:ps[k]?=some p):∀j∈bareJ b t ps,∃i∈bareJ b t (ps.set k (thrP p)),i.x=j.x:=by
 intro j hj;unfold bareJ at *;obtain⟨hm,ho⟩:=List.mem_filter.1 hj;obtain⟨i,q,hq,rfl⟩:=jsP_mem2.1 hm
 by_cases hik:i=k
 ·subst hik
  rw [hk]at hq;cases hq;refine⟨jsOf i (thrP p),List.mem_filter.2 ⟨jsP_mem2.2 ⟨i,thrP p,?_,rfl⟩,?_⟩,rfl⟩
  ·rw [List.getElem?_set_self (lS.1 hk).1]
  ·unfold outB at ho ⊢
   simp only [Bool.not_or,Bool.and_eq_true,Bool.not_not]at ho ⊢;exact⟨rfl,ho.2⟩
 ·refine⟨jsOf i q,List.mem_filter.2 ⟨jsP_mem2.2 ⟨i,q,?_,rfl⟩,ho⟩,rfl⟩
  rw [List.getElem?_set_ne (fun e=>hik e.symm)];exact hq
theorem bareJ_none {b t:Int} {ps:List Pl} (h:∀(i:Nat) p,ps[i]?=some p→p.skin≠3):bareJ b t ps=[]:=by
 unfold bareJ;rw [List.filter_eq_nil_iff];intro j hj;obtain⟨i,p,hp,rfl⟩:=jsP_mem2.1 hj;have:((jsOf i p).p.skin != 3)=true:=by have h9:=h i p hp;show (p.skin != 3)=true;simpa using h9
 unfold outB;rw [this];simp
end Go.Proofs.YtobbionccnkmgaaGreatDoor.Cop
