/- Part 40 of 44: contracts of what the law calls. -/
import Derived.Test.YteipgejmhfpkaaaGreatDoorCopA35
set_option maxRecDepth 1000000
set_option maxHeartbeats 16000000
set_option linter.unusedSimpArgs false
set_option linter.unusedVariables false
namespace Go.Proofs.YteipgejmhfpkaaaGreatDoor.Cop
open Go.RowKit Go.Shelf Go.Sort Go.Lib
def ansF (ans:Nat→Bool) (p:(JS×Value)×Nat):Bool:=ans p.2
def jc2 (p:(JS×Value)×Nat):List Value:=jc p.1
def stayA (ans:Nat→Bool) (js:List (JS×Value)):List (JS×Value):=(js.zipIdx.filter fun p=>!ansF ans p).map Prod.fst
theorem zip_get {js:List (JS×Value)} {m:Nat} {j:JS×Value} (h:js[m]?=some j):js.zipIdx[m]?=some (j,m):=by
 rw [List.getElem?_zipIdx,h];simp
theorem zip_snd {js:List (JS×Value)} {m:Nat} {y:(JS×Value)×Nat} (h:js.zipIdx[m]?=some y):js[m]?=some y.1∧y.2=m:=by
 rw [List.getElem?_zipIdx]at h
 cases hj:js[m]? with
 | none=>rw [hj]at h;cases h
 | some j=>rw [hj]at h;simp at h;subst h;exact⟨rfl,rfl⟩
theorem zip_map (js:List (JS×Value)):js.zipIdx.map jc2=js.map jc:=by
 rw [show jc2=jc ∘ Prod.fst from rfl,←List.map_map,List.zipIdx_map_fst]
def IwS (St:Nat→World→Prop) (base n:Nat) (v:Value) (js:List (JS×Value)) (ans:Nat→Bool) (gk:Nat) (t8:Value) (W:World):Prop:=
 ∃i:Nat,t8 = .int .i64 (i:Int)∧gk=n-i∧i≤n∧St i W∧OwnC 127 15 W base v (js.map jc)∧∀j,j<i→ans j=false
def CwF (js:List (JS×Value)) (b1 b2 base:Nat) (v:Value) (St:Nat→World→Prop) (ans:Nat→Bool):Prop:=
 ∀m W j,St m W→js[m]?=some j→Calls Tryz.prog 59 #[.agg (jca j),.pointer (some ⟨b1,0,none⟩),.pointer (some ⟨b2,0,none⟩)] W fun e w'=>e = .returned (.bool (ans m))∧St (m+1) w'∧(∀ys,OwnC 127 15 W base v ys→OwnC 127 15 w' base v ys)∧W.heap.size≤w'.heap.size∧(∀b o,W.heap[b]?=some o→W.heap.size≤b+1→w'.heap[b]?=some o)
theorem ixw_any (w:World) (base:Nat) (v:Value) (js:List (JS×Value)) (b1 b2:Nat) (St:Nat→World→Prop) (ans:Nat→Bool) (h:OwnC 127 15 w base v (js.map jc)) (hext:∀k W W',St k W→Ext W W'→St k W') (h0:St 0 w) (hf:CwF js b1 b2 base v St ans) :
  Calls Tryz.prog 82 #[v,.func (.func 59) #[] #[.pointer (some ⟨b1,0,none⟩),.pointer (some ⟨b2,0,none⟩)]] w
   fun e w'=>OwnC 127 15 w' base v (js.map jc)∧((∃i:Nat,i<js.length∧e = .returned (.int .i64 i)∧ans i=true∧(∀j,j<i→ans j=false)∧St (i+1) w')∨(e = .returned (.int .i64 (-1))∧(∀j,j<js.length→ans j=false)∧St js.length w')):=by
 obtain⟨a,n,c,rfl⟩:=h.form3;have hl:=h.len;rw [lL]at hl;subst hl;obtain⟨n,hn⟩:∃n,js.length=n:=⟨_,rfl⟩;have hle:=h.js.le;unfold maxLen at hle;rw [hn]at h hf hle ⊢;have hnc:n≤9223372036854775807:=by omega
 have Hn:=hd9 hn;have Hf:=hd9 hf;have Hext:=hd9 hext;obtain⟨R,hR⟩:∃R:Ending→World→Prop,(fun e w'=>OwnC 127 15 w' base (.slice a n c) (js.map jc)∧((∃i:Nat,i<n∧e = .returned (.int .i64 i)∧ans i=true∧(∀j,j<i→ans j=false)∧St (i+1) w')∨(e = .returned (.int .i64 (-1))∧(∀j,j<n→ans j=false)∧St n w')))=R:=⟨_,rfl⟩;rw [hR];have HR:=hd9 hR;have H:=hd9 h;clear hn hle hf hext h hR;go_enter Tryz.func82,Tryz.ntmps82;go_wp2
 go_loopg [8] n (IwS St base n (.slice a n c) js ans)
 case atStart=>exact⟨0,rfl,by omega,by omega,h0,H.out,fun j hj=>by omega⟩
 case round =>
  obtain⟨i,rfl,rfl,hi,hS,hown,hall⟩:=hrel;have Hall:=hd9 hall;have HS:=hd9 hS
  by_cases hlt:i<n
  ·obtain⟨⟨⟨⟨nm,sh,d,de,gx,gz,wy,ax,az,sk⟩,k,⟨xl,xh⟩,zl,zh⟩,v⟩,hq⟩:∃q,js[i]?=some q:=⟨js[i]'(by rw [Hn.out];omega),by simp⟩
   obtain⟨b,o,rfl,hb,hc⟩:=hown.js.at' hq;have HC:=hd9 (fun(W:World) (hW:Ext wr W)=>Hf.out i W _ (Hext.out _ _ _ hS hW) hq);have Hown:=hd9 hown;unfold jca at hc HC;dsimp only at hc HC;have cc0:=hc 0 (.string nm) rfl;have cc1:=hc 1 (v) rfl;have cc2:=hc 2 (.int .i64 d) rfl;have cc3:=hc 3 (.int .i64 de) rfl;have cc4:=hc 4 (.int .i64 gx) rfl;have cc5:=hc 5 (.int .i64 gz) rfl;have cc6:=hc 6 (.int .i64 wy) rfl;have cc7:=hc 7 (.int .i64 ax) rfl;have cc8:=hc 8 (.int .i64 az) rfl;have cc9:=hc 9 (.int .u8 sk) rfl;have cc10:=hc 10 (.int .i64 k) rfl;have cc11:=hc 11 (.int .i64 xl) rfl;have cc12:=hc 12 (.int .i64 xh) rfl;have cc13:=hc 13 (.int .i64 zl) rfl;have cc14:=hc 14 (.int .i64 zh) rfl;simp only [Nat.add_zero]at cc0;obtain⟨an,han⟩:∃x,ans i=x:=⟨_,rfl⟩;rw [han]at HC;have Han:=hd9 han;have p1:(0:Int)≤(i:Int):=by omega
   have p2:(i:Int)<(n:Int):=by omega
   clear hq hc hS h0 hall han hown
   cases an with
   | true =>
    go_wp2_with(((go_at_call 59;(with_reducible refine(HC.out _ ?_).mono ?_);exact eA;rintro e w1 ⟨rfl,hx1,hk1,hz1,_⟩)))
    have Hk1:=hd9 (hk1 _ (Hown.out.ext eA));rw [←HR.out];exact⟨Hk1.out,.inl ⟨i,hlt,rfl,Han.out,Hall.out,hx1⟩⟩
   | false =>
    go_wp2_with(((go_at_call 59;(with_reducible refine(HC.out _ ?_).mono ?_);exact eA;rintro e w1 ⟨rfl,hx1,hk1,hz1,_⟩)))
    have Hk1:=hd9 (hk1 _ (Hown.out.ext eA))
    go_roundg (n-(i+1))
    case measure=>omega
    case rel=>exact⟨i+1,by go_num,rfl,by omega,hx1,Hk1.out,fun j hj=>by
     by_cases hji:j=i
     ·subst hji;exact Han.out
     ·exact Hall.out j (by omega)⟩
  ·obtain rfl:n=i:=by omega
   have p2:¬(n:Int)<(n:Int):=by omega
   have Hown:=hd9 hown;clear hall hown hS h0;go_wp2;rw [←HR.out];exact⟨Hown.out,.inr ⟨rfl,Hall.out,HS.out⟩⟩
def DwS (base g n c:Nat) (ans:Nat→Bool) (js:List (JS×Value)) (St:Nat→World→Prop) (gk:Nat) (t5 t6:Value) (W:World):Prop:=
 ∃(m e:Nat) (ys:List ((JS×Value)×Nat)),t6 = .int .i64 (m:Int)∧t5 = .int .i64 (e:Int)∧gk=js.length-m∧DlL (ansF ans) js.zipIdx m e ys∧OwnC 127 15 W base (.slice (some ⟨g,0,none⟩) n c) (ys.map jc2)∧St m W
theorem delw_any (w:World) (base:Nat) (v:Value) (js:List (JS×Value)) (b1 b2:Nat) (St:Nat→World→Prop) (ans:Nat→Bool) (h:OwnC 127 15 w base v (js.map jc)) (hn9:js.length≤1000000) (hv:∀j∈js,∃a n c,j.2 = .slice a n c)
  (hext:∀k W W',St k W→Ext W W'→St k W') (hgr:∀k W W',St k W→W.grownBy W' v.ownBlock→St k W') (h0:St 0 w) (hf:CwF js b1 b2 base v St ans) :
  Calls Tryz.prog 44 #[v,.func (.func 59) #[] #[.pointer (some ⟨b1,0,none⟩),.pointer (some ⟨b2,0,none⟩)]] w
   fun e w'=>∃v',e = .returned v'∧OwnC 127 15 w' base v' ((stayA ans js).map jc)∧(v'.ownBlock=none∨v'.ownBlock=v.ownBlock)∧St js.length w':=by
 have HI:=hd9 (ixw_any w base v js b1 b2 St ans h hext h0 hf);obtain⟨a,n,c,rfl⟩:=h.form3;have hl:=h.len;rw [lL]at hl;subst hl;obtain⟨n,hn⟩:∃n,js.length=n:=⟨_,rfl⟩;have hgr':=hgr;rw [hn]at h HI hn9 hgr hf ⊢;have Hn:=hd9 hn;have Hf:=hd9 hf;have Hext:=hd9 hext;have Hgr:=hd9 hgr;have H:=hd9 h;obtain⟨R,hR⟩:∃R:Ending→World→Prop,(fun e w'=>∃v',e = .returned v'∧OwnC 127 15 w' base v' ((stayA ans js).map jc)∧(v'.ownBlock=none∨v'.ownBlock=(Value.slice a n c).ownBlock)∧St n w')=R:=⟨_,rfl⟩;rw [hR];have HR:=hd9 hR
 have hcap:0<n→n≤c∧c≤9223372036854775807:=by
  intro hp
  rcases h.2.2 with ⟨h9,h8⟩|⟨g',cap,cur,hv,_,_,hnc,hcm,_⟩
  ·cases h9;omega
  ·cases hv;rw [lL,Hn.out]at hnc;unfold maxLen at hcm;omega
 clear hf hR hext hgr hgr' h0;go_enter Tryz.func44,Tryz.ntmps44
 go_upto_region 2 with (go_at_call 82;(with_reducible refine(HI.out).mono ?_);rintro e w1 ⟨hown1,⟨i0,hi0,rfl,hai,hall,hS1⟩|⟨rfl,hall,hS1⟩⟩)
 ·obtain⟨g,rfl,hg1,hg2⟩:=H.out.blk (by rw [lL,Hn.out];omega)
  obtain⟨hcap1,hcap2⟩:=hcap (by omega)
  have hst:DlL (ansF ans) js.zipIdx (i0+1) i0 js.zipIdx:=DlL.start (zip_get (List.getElem?_eq_getElem (by rw [Hn.out];exact hi0))) hai (fun j y hj hy=>by
   have:=(zip_snd hy).2;unfold ansF;rw [this];exact hall j hj)
  have Hst:=hd9 hst;have Ho0:=hd9 (show OwnC 127 15 w1 base (.slice (some ⟨g,0,none⟩) n c) (js.zipIdx.map jc2) by rw [zip_map];exact hown1);have HS1:=hd9 hS1;have u0:((i0:Int) == -1)=false:=by simp
  clear hst hown1 hS1 hall hai h hcap;go_wp2
  go_loopg [5,6] (n-(i0+1)) (DwS base g n c ans js St)
  case atStart=>exact⟨i0+1,i0,_,by go_num,rfl,by rw [Hn.out],Hst.out,Ho0.out,HS1.out⟩
  case round =>
   obtain⟨m,q,ys,rfl,rfl,rfl,hL,hown,hS⟩:=hrel;have hm1:=hL.2.1;have hm2:=hL.2.2.1;rw [List.length_zipIdx,Hn.out]at hm2;have HL:=hd9 hL;have Hown:=hd9 hown;have HS:=hd9 hS
   by_cases hlt:m<n
   ·obtain⟨⟨⟨⟨nm,sh,d,de,gx,gz,wy,ax,az,sk⟩,k,⟨xl,xh⟩,zl,zh⟩,v⟩,hq⟩:∃q,js[m]?=some q:=⟨js[m]'(by rw [Hn.out];omega),by simp⟩
    obtain⟨va,vn,vc,hvv⟩:=hv _ (lM hq);dsimp only at hvv;subst hvv;have hqy:=hL.2.2.2.2 m (Nat.le_refl _);rw [zip_get hq]at hqy;have cc0:=hown.cell (i:=m) (j:=0) (u:=.string nm) (by rw [lP,hqy];rfl) rfl;have cc1:=hown.cell (i:=m) (j:=1) (u:=.slice va vn vc) (by rw [lP,hqy];rfl) rfl;have cc2:=hown.cell (i:=m) (j:=2) (u:=.int .i64 d) (by rw [lP,hqy];rfl) rfl;have cc3:=hown.cell (i:=m) (j:=3) (u:=.int .i64 de) (by rw [lP,hqy];rfl) rfl;have cc4:=hown.cell (i:=m) (j:=4) (u:=.int .i64 gx) (by rw [lP,hqy];rfl) rfl;have cc5:=hown.cell (i:=m) (j:=5) (u:=.int .i64 gz) (by rw [lP,hqy];rfl) rfl;have cc6:=hown.cell (i:=m) (j:=6) (u:=.int .i64 wy) (by rw [lP,hqy];rfl) rfl;have cc7:=hown.cell (i:=m) (j:=7) (u:=.int .i64 ax) (by rw [lP,hqy];rfl) rfl;have cc8:=hown.cell (i:=m) (j:=8) (u:=.int .i64 az) (by rw [lP,hqy];rfl) rfl;have cc9:=hown.cell (i:=m) (j:=9) (u:=.int .u8 sk) (by rw [lP,hqy];rfl) rfl;have cc10:=hown.cell (i:=m) (j:=10) (u:=.int .i64 k) (by rw [lP,hqy];rfl) rfl;have cc11:=hown.cell (i:=m) (j:=11) (u:=.int .i64 xl) (by rw [lP,hqy];rfl) rfl;have cc12:=hown.cell (i:=m) (j:=12) (u:=.int .i64 xh) (by rw [lP,hqy];rfl) rfl;have cc13:=hown.cell (i:=m) (j:=13) (u:=.int .i64 zl) (by rw [lP,hqy];rfl) rfl;have cc14:=hown.cell (i:=m) (j:=14) (u:=.int .i64 zh) (by rw [lP,hqy];rfl) rfl;simp only [Nat.add_zero]at cc0;have HC:=hd9 (fun W (hW:Ext wr W)=>Hf.out m W _ (Hext.out _ _ _ hS hW) hq);obtain⟨fp,f7⟩:∃x,ans m=x:=⟨_,rfl⟩;rw [f7]at HC;have F7:=hd9 f7;unfold jca at HC;dsimp only at HC;have Hq:=hd9 (zip_get hq);have zg:=(hown.lt g rfl).2;have p0:(0:Int)≤(q:Int):=by omega
    have p1:(q:Int)<(n:Int):=by omega
    clear hq hqy f7 hL hown hS
    cases fp with
    | true =>
     go_wp2_with(((go_at_call 59;(with_reducible refine(HC.out _ ?_).mono ?_);exact eA;rintro e w2 ⟨rfl,hx2,hk2,_,_⟩)))
     have Hk2:=hd9 (hk2 _ (Hown.out.ext eA))
     go_roundg (n-(m+1))
     case measure=>have:=Hn.out;omega
     case rel=>exact⟨m+1,q,ys,by go_num,rfl,by rw [Hn.out],HL.out.drop Hq.out F7.out,Hk2.out,hx2⟩
    | false =>
     obtain⟨jq,hjq⟩:∃jq,ys[q]?=some jq:=⟨_,List.getElem?_eq_getElem (by rw [HL.out.1,List.length_zipIdx,Hn.out];omega)⟩;have Hjq:=hd9 hjq;clear hjq
     go_wp2_with(((go_at_call 59;(with_reducible refine(HC.out _ ?_).mono ?_);exact eA;rintro e w2 ⟨rfl,hx2,hk2,hz2,hb2⟩;have Ho1:=hd9 (hk2 _ (Hown.out.ext ((Ext.refl wr).alloc _)));have K1:=hb2 _ _ (heap_alloc_new wr (.cells #[.string nm,.slice va vn vc,.int .i64 d,.int .i64 de,.int .i64 gx,.int .i64 gz,.int .i64 wy,.int .i64 ax,.int .i64 az,.int .u8 sk,.int .i64 k,.int .i64 xl,.int .i64 xh,.int .i64 zl,.int .i64 zh] 127)) (by simp);have gf:=Ho1.out.frozen;(simp only [wZ]at hz2);(have zw2:wr.heap.size<w2.heap.size:=(by omega));(have zg2:g<w2.heap.size:=(by omega));have ee0:=qcB K1 (i:=0) (u:=.string nm) rfl;have ee1:=qcB K1 (i:=1) (u:=.slice va vn vc) rfl;have ee2:=qcB K1 (i:=2) (u:=.int .i64 d) rfl;have ee3:=qcB K1 (i:=3) (u:=.int .i64 de) rfl;have ee4:=qcB K1 (i:=4) (u:=.int .i64 gx) rfl;have ee5:=qcB K1 (i:=5) (u:=.int .i64 gz) rfl;have ee6:=qcB K1 (i:=6) (u:=.int .i64 wy) rfl;have ee7:=qcB K1 (i:=7) (u:=.int .i64 ax) rfl;have ee8:=qcB K1 (i:=8) (u:=.int .i64 az) rfl;have ee9:=qcB K1 (i:=9) (u:=.int .u8 sk) rfl;have ee10:=qcB K1 (i:=10) (u:=.int .i64 k) rfl;have ee11:=qcB K1 (i:=11) (u:=.int .i64 xl) rfl;have ee12:=qcB K1 (i:=12) (u:=.int .i64 xh) rfl;have ee13:=qcB K1 (i:=13) (u:=.int .i64 zl) rfl;have ee14:=qcB K1 (i:=14) (u:=.int .i64 zh) rfl;have dd0:=Ho1.out.cell (i:=q) (j:=0) (d:=jc jq.1) (u:=.string jq.1.1.p.name) (by rw [lP,Hjq.out];rfl) rfl;have dd1:=Ho1.out.cell (i:=q) (j:=1) (d:=jc jq.1) (u:=jq.1.2) (by rw [lP,Hjq.out];rfl) rfl;have dd2:=Ho1.out.cell (i:=q) (j:=2) (d:=jc jq.1) (u:=.int .i64 jq.1.1.p.depth) (by rw [lP,Hjq.out];rfl) rfl;have dd3:=Ho1.out.cell (i:=q) (j:=3) (d:=jc jq.1) (u:=.int .i64 jq.1.1.p.density) (by rw [lP,Hjq.out];rfl) rfl;have dd4:=Ho1.out.cell (i:=q) (j:=4) (d:=jc jq.1) (u:=.int .i64 jq.1.1.p.gx) (by rw [lP,Hjq.out];rfl) rfl;have dd5:=Ho1.out.cell (i:=q) (j:=5) (d:=jc jq.1) (u:=.int .i64 jq.1.1.p.gz) (by rw [lP,Hjq.out];rfl) rfl;have dd6:=Ho1.out.cell (i:=q) (j:=6) (d:=jc jq.1) (u:=.int .i64 jq.1.1.p.way) (by rw [lP,Hjq.out];rfl) rfl;have dd7:=Ho1.out.cell (i:=q) (j:=7) (d:=jc jq.1) (u:=.int .i64 jq.1.1.p.ax) (by rw [lP,Hjq.out];rfl) rfl;have dd8:=Ho1.out.cell (i:=q) (j:=8) (d:=jc jq.1) (u:=.int .i64 jq.1.1.p.az) (by rw [lP,Hjq.out];rfl) rfl;have dd9:=Ho1.out.cell (i:=q) (j:=9) (d:=jc jq.1) (u:=.int .u8 jq.1.1.p.skin) (by rw [lP,Hjq.out];rfl) rfl;have dd10:=Ho1.out.cell (i:=q) (j:=10) (d:=jc jq.1) (u:=.int .i64 jq.1.1.k) (by rw [lP,Hjq.out];rfl) rfl;have dd11:=Ho1.out.cell (i:=q) (j:=11) (d:=jc jq.1) (u:=.int .i64 jq.1.1.x.1) (by rw [lP,Hjq.out];rfl) rfl;have dd12:=Ho1.out.cell (i:=q) (j:=12) (d:=jc jq.1) (u:=.int .i64 jq.1.1.x.2) (by rw [lP,Hjq.out];rfl) rfl;have dd13:=Ho1.out.cell (i:=q) (j:=13) (d:=jc jq.1) (u:=.int .i64 jq.1.1.z.1) (by rw [lP,Hjq.out];rfl) rfl;have dd14:=Ho1.out.cell (i:=q) (j:=14) (d:=jc jq.1) (u:=.int .i64 jq.1.1.z.2) (by rw [lP,Hjq.out];rfl) rfl;simp only [Nat.add_zero]at dd0)))
     go_roundg (n-(m+1))
     case measure=>have:=Hn.out;omega
     case rel =>
      obtain⟨d0,hd0⟩:∃d,(ys.map jc2)[q]?=some d:=⟨_,List.getElem?_eq_getElem (by rw [lL,HL.out.1,List.length_zipIdx,Hn.out];omega)⟩;have hp:=OwnC.putAll (j:=0) (us:=[.string nm,.slice va vn vc,.int .i64 d,.int .i64 de,.int .i64 gx,.int .i64 gz,.int .i64 wy,.int .i64 ax,.int .i64 az,.int .u8 sk,.int .i64 k,.int .i64 xl,.int .i64 xh,.int .i64 zl,.int .i64 zh]) Ho1.out hd0 rfl;have hm:(ys.set q (⟨⟨⟨⟨nm,sh,d,de,gx,gz,wy,ax,az,sk⟩,k,⟨xl,xh⟩,zl,zh⟩,.slice va vn vc⟩,m⟩)).map jc2=(ys.map jc2).set q [.string nm,.slice va vn vc,.int .i64 d,.int .i64 de,.int .i64 gx,.int .i64 gz,.int .i64 wy,.int .i64 ax,.int .i64 az,.int .u8 sk,.int .i64 k,.int .i64 xl,.int .i64 xh,.int .i64 zl,.int .i64 zh]:=by rw [List.map_set];rfl
      rw [List.take_zero,List.nil_append,←hm]at hp;have hgrw:=setL_grown (g:=g) (us:=[.string nm,.slice va vn vc,.int .i64 d,.int .i64 de,.int .i64 gx,.int .i64 gz,.int .i64 wy,.int .i64 ax,.int .i64 az,.int .u8 sk,.int .i64 k,.int .i64 xl,.int .i64 xh,.int .i64 zl,.int .i64 zh]) (o:=q*15+0) (World.grownBy.refl w2 (some g));exact⟨m+1,q+1,_,by go_num,by go_num,by rw [Hn.out],HL.out.keep Hq.out F7.out,hp,Hgr.out _ _ _ hx2 hgrw⟩
   ·obtain rfl:m=n:=by omega
    have hdn:ys.take q=js.zipIdx.filter (fun p=>!ansF ans p):=by
     have h2:=hL.2.2.2.1;rw [lT (l:=js.zipIdx) (by rw [List.length_zipIdx,Hn.out];exact Nat.le_refl _)]at h2;exact h2
    obtain⟨wc,hclr,hoc,hgc⟩:=run_clearC (P:=Tryz.prog) (t:=111) (z:=.agg js0) (w:=wr) (o:=q*15) (c2:=c-q) (fun w=>Tryz.zeroValue127 w) rfl (by simp [Value.cells,js0];decide) Tryz.underlying111 hown hm1 rfl;have c1:(0:Int)≤(q:Int):=by omega
    have c2:(q:Int)≤(m:Int):=by omega
    have c3:(m:Int)≤(c:Int):=by omega
    have c4:(q:Int)<(c:Int):=by omega
    have c5:q<c:=by omega
    clear hL;go_wp2;rw [←HR.out];refine⟨_,rfl,?_,.inr rfl,Hgr.out _ _ _ HS.out hgc⟩;rw [←List.map_take,hdn]at hoc;unfold stayA;rw [List.map_map];exact hoc
 ·have e:stayA ans js=js:=by
   unfold stayA
   rw [List.filter_eq_self.2 (fun p hp=>by
    obtain⟨i,hi⟩:=List.mem_iff_getElem?.1 hp;have h1:=zip_snd hi;unfold ansF;rw [h1.2,hall i (by rw [←Hn.out];exact(lS.1 h1.1).1)];rfl),List.zipIdx_map_fst]
  rw [e]at HR;have Ho1:=hd9 hown1;clear hown1 h hall e;go_wp2;rw [←HR.out];exact⟨_,rfl,Ho1.out,.inr rfl,hS1⟩
end Go.Proofs.YteipgejmhfpkaaaGreatDoor.Cop
