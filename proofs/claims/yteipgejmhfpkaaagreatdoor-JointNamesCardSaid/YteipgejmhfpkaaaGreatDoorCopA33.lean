/- Part 34: contracts of what the law calls. -/
import Derived.Test.YteipgejmhfpkaaaGreatDoorCopA29
import Derived.Test.YteipgejmhfpkaaaGreatDoorCopA32
set_option linter.unusedSectionVars false
set_option maxRecDepth 1000000
set_option maxHeartbeats 16000000
set_option linter.unusedSimpArgs false
set_option linter.unusedVariables false
open Go.Value renaming int→O,slice→X,pointer→E,agg→G
open Go.IntKind renaming i64→Y
open Go renaming Value→Z,World→I
open Option renaming some→V,none→J
open Go.Obj renaming cells→F
namespace Go.Proofs.YteipgejmhfpkaaaGreatDoor.Cop
section
open Go.RowKit Go.Shelf Go.Sort Go.Lib
def ansF (ans:Nat→Bool) (p:(JS×Z)×Nat):Bool:=ans p.2
def jc2 (p:(JS×Z)×Nat):List Z:=jc p.1
def stayA (ans:Nat→Bool) (js:List (JS×Z)):List (JS×Z):=(js.zipIdx.filter fun p=>!ansF ans p).map Prod.fst
theorem zfk {js:List (JS×Z)} {m:Nat} {j:JS×Z} (h:js[m]?=V j):js.zipIdx[m]?=V (j,m):=by
 rw [List.getElem?_zipIdx,h];simp
theorem zgK {js:List (JS×Z)} {m:Nat} {y:(JS×Z)×Nat} (h:js.zipIdx[m]?=V y):js[m]?=V y.1∧y.2=m:=by
 rw [List.getElem?_zipIdx]at h
 cases hj:js[m]? with
 | none=>rw [hj]at h;cases h
 | some j=>rw [hj]at h;simp at h;subst h;exact⟨rfl,rfl⟩
theorem zip_map (js:List (JS×Z)):js.zipIdx.map jc2=js.map jc:=by
 rw [show jc2=jc ∘ Prod.fst from rfl,←List.map_map,List.zipIdx_map_fst]
def IwS (St:Nat→I→Prop) (base n:Nat) (v:Z) (js:List (JS×Z)) (ans:Nat→Bool) (gk:Nat) (t8:Z) (W:I):Prop:=
 ∃i:Nat,t8=O Y (i:Int)∧gk=n-i∧i≤n∧St i W∧OwnC 127 15 W base v (js.map jc)∧∀j,j<i→ans j=false
def CwF (js:List (JS×Z)) (b1 b2 base:Nat) (v:Z) (St:Nat→I→Prop) (ans:Nat→Bool):Prop:=
 ∀m W j,St m W→js[m]?=V j→Calls Tryz.prog 59 #[G (jca j),E (V ⟨b1,0,J⟩),E (V ⟨b2,0,J⟩)] W fun e w'=>e = .returned (.bool (ans m))∧St (m+1) w'∧(∀ys,OwnC 127 15 W base v ys→OwnC 127 15 w' base v ys)∧W.heap.size≤w'.heap.size∧(∀b o,W.heap[b]?=V o→W.heap.size≤b+1→w'.heap[b]?=V o)
theorem znu (w:I) (base:Nat) (v:Z) (js:List (JS×Z)) (b1 b2:Nat) (St:Nat→I→Prop) (ans:Nat→Bool) (h:OwnC 127 15 w base v (js.map jc)) (hext:∀k W W',St k W→Ext W W'→St k W') (h0:St 0 w) (hf:CwF js b1 b2 base v St ans) :
  Calls Tryz.prog 82 #[v,.func (.func 59) #[] #[E (V ⟨b1,0,J⟩),E (V ⟨b2,0,J⟩)]] w
   fun e w'=>OwnC 127 15 w' base v (js.map jc)∧((∃i:Nat,i<js.length∧e = .returned (O Y i)∧ans i=true∧(∀j,j<i→ans j=false)∧St (i+1) w')∨(e = .returned (O Y (-1))∧(∀j,j<js.length→ans j=false)∧St js.length w')):=by
 obtain⟨a,n,c,rfl⟩:=h.form3;have hl:=h.len;rw [lL]at hl;subst hl;obtain⟨n,hn⟩:=gX js.length;have hle:=h.js.le;unfold maxLen at hle;rw [hn]at h hf hle ⊢;have hnc:n≤9223372036854775807:=by omega
 have Hn:=hd9 hn;have Hf:=hd9 hf;have Hext:=hd9 hext;obtain⟨R,hR⟩:∃R:Ending→I→Prop,(fun e w'=>OwnC 127 15 w' base (X a n c) (js.map jc)∧((∃i:Nat,i<n∧e = .returned (O Y i)∧ans i=true∧(∀j,j<i→ans j=false)∧St (i+1) w')∨(e = .returned (O Y (-1))∧(∀j,j<n→ans j=false)∧St n w')))=R:=⟨_,rfl⟩;rw [hR];have HR:=hd9 hR;have H:=hd9 h;clear hn hle hf hext h hR;go_enter Tryz.func82,Tryz.ntmps82;go_wp2
 go_loopg [8] n (IwS St base n (X a n c) js ans)
 case atStart=>exact⟨0,rfl,by omega,by omega,h0,H.out,fun j hj=>by omega⟩
 case round =>
  obtain⟨i,rfl,rfl,hi,hS,hown,hall⟩:=hrel;have Hall:=hd9 hall;have HS:=hd9 hS
  by_cases hlt:i<n
  ·obtain⟨⟨⟨⟨nm,sh,d,de,gx,gz,wy,ax,az,sk⟩,k,⟨xl,xh⟩,zl,zh⟩,v⟩,hq⟩:∃q,js[i]?=V q:=⟨js[i]'(by rw [Hn.out];omega),by simp⟩
   obtain⟨b,o,rfl,hb,hc⟩:=hown.js.at' hq;have HC:=hd9 (fun(W:I) (hW:Ext wr W)=>Hf.out i W _ (Hext.out _ _ _ hS hW) hq);have Hown:=hd9 hown;unfold jca at hc HC;dsimp only at hc HC;have cc0:=hc 0 (.string nm) rfl;have cc1:=hc 1 (v) rfl;have cc2:=hc 2 (O Y d) rfl;have cc3:=hc 3 (O Y de) rfl;have cc4:=hc 4 (O Y gx) rfl;have cc5:=hc 5 (O Y gz) rfl;have cc6:=hc 6 (O Y wy) rfl;have cc7:=hc 7 (O Y ax) rfl;have cc8:=hc 8 (O Y az) rfl;have cc9:=hc 9 (O .u8 sk) rfl;have cc10:=hc 10 (O Y k) rfl;have cc11:=hc 11 (O Y xl) rfl;have cc12:=hc 12 (O Y xh) rfl;have cc13:=hc 13 (O Y zl) rfl;have cc14:=hc 14 (O Y zh) rfl;simp only [Nat.add_zero]at cc0;obtain⟨an,han⟩:=gX (ans i);rw [han]at HC;have Han:=hd9 han;have p1:(0:Int)≤(i:Int):=by omega
   have p2:(i:Int)<(n:Int):=by omega
   clear hq hc hS h0 hall han hown
   cases an with
   | true =>
    go_wp2_with(((go_at_call 59;(with_reducible refine(HC.out _ ?_).mono ?_);exact eA;rintro e w1 ⟨rfl,hx1,hk1,hz1,_⟩)))
    have Hk1:=hd9 (hk1 _ (Hown.out.ext eA));rw [←HR.out];exact⟨Hk1.out,.inl ⟨i,hlt,rfl,Han.out,Hall.out,hx1⟩⟩
   | false =>
    go_wp2_with(((go_at_call 59;(with_reducible refine(HC.out _ ?_).mono ?_);exact eA;rintro e w1 ⟨rfl,hx1,hk1,hz1,_⟩)))
    have Hk1:=hd9 (hk1 _ (Hown.out.ext eA))
    go_roundg (n-(i+1))
    case measure=>omega
    case rel=>exact⟨i+1,by go_num,rfl,by omega,hx1,Hk1.out,fun j hj=>by
     by_cases hji:j=i
     ·subst hji;exact Han.out
     ·exact Hall.out j (by omega)⟩
  ·obtain rfl:n=i:=by omega
   have p2:¬(n:Int)<(n:Int):=by omega
   have Hown:=hd9 hown;clear hall hown hS h0;go_wp2;rw [←HR.out];exact⟨Hown.out,.inr ⟨rfl,Hall.out,HS.out⟩⟩
def DwS (base g n c:Nat) (ans:Nat→Bool) (js:List (JS×Z)) (St:Nat→I→Prop) (gk:Nat) (t5 t6:Z) (W:I):Prop:=
 ∃(m e:Nat) (ys:List ((JS×Z)×Nat)),t6=O Y (m:Int)∧t5=O Y (e:Int)∧gk=js.length-m∧DlL (ansF ans) js.zipIdx m e ys∧OwnC 127 15 W base (X (V ⟨g,0,J⟩) n c) (ys.map jc2)∧St m W
theorem zly (w:I) (base:Nat) (v:Z) (js:List (JS×Z)) (b1 b2:Nat) (St:Nat→I→Prop) (ans:Nat→Bool) (h:OwnC 127 15 w base v (js.map jc)) (hn9:js.length≤1000000) (hv:∀j∈js,∃a n c,j.2=X a n c)
  (hext:∀k W W',St k W→Ext W W'→St k W') (hgr:∀k W W',St k W→W.grownBy W' v.ownBlock→St k W') (h0:St 0 w) (hf:CwF js b1 b2 base v St ans) :
  Calls Tryz.prog 44 #[v,.func (.func 59) #[] #[E (V ⟨b1,0,J⟩),E (V ⟨b2,0,J⟩)]] w
   fun e w'=>∃v',e = .returned v'∧OwnC 127 15 w' base v' ((stayA ans js).map jc)∧(v'.ownBlock=J∨v'.ownBlock=v.ownBlock)∧St js.length w':=by
 have HI:=hd9 (znu w base v js b1 b2 St ans h hext h0 hf);obtain⟨a,n,c,rfl⟩:=h.form3;have hl:=h.len;rw [lL]at hl;subst hl;obtain⟨n,hn⟩:=gX js.length;have hgr':=hgr;rw [hn]at h HI hn9 hgr hf ⊢;have Hn:=hd9 hn;have Hf:=hd9 hf;have Hext:=hd9 hext;have Hgr:=hd9 hgr;have H:=hd9 h;obtain⟨R,hR⟩:∃R:Ending→I→Prop,(fun e w'=>∃v',e = .returned v'∧OwnC 127 15 w' base v' ((stayA ans js).map jc)∧(v'.ownBlock=J∨v'.ownBlock=(Value.slice a n c).ownBlock)∧St n w')=R:=⟨_,rfl⟩;rw [hR];have HR:=hd9 hR
 have hcap:0<n→n≤c∧c≤9223372036854775807:=by
  intro hp
  rcases h.2.2 with ⟨h9,h8⟩|⟨g',cap,cur,hv,_,_,hnc,hcm,_⟩
  ·cases h9;omega
  ·cases hv;rw [lL,Hn.out]at hnc;unfold maxLen at hcm;omega
 clear hf hR hext hgr hgr' h0;go_enter Tryz.func44,Tryz.ntmps44
 go_upto_region 2 with (go_at_call 82;(with_reducible refine(HI.out).mono ?_);rintro e w1 ⟨hown1,⟨i0,hi0,rfl,hai,hall,hS1⟩|⟨rfl,hall,hS1⟩⟩)
 ·obtain⟨g,rfl,hg1,hg2⟩:=H.out.blk (by rw [lL,Hn.out];omega)
  obtain⟨hcap1,hcap2⟩:=hcap (by omega)
  have hst:DlL (ansF ans) js.zipIdx (i0+1) i0 js.zipIdx:=DlL.start (zfk (gE (by rw [Hn.out];exact hi0))) hai (fun j y hj hy=>by
   have:=(zgK hy).2;unfold ansF;rw [this];exact hall j hj)
  have Hst:=hd9 hst;have Ho0:=hd9 (show OwnC 127 15 w1 base (X (V ⟨g,0,J⟩) n c) (js.zipIdx.map jc2) by rw [zip_map];exact hown1);have HS1:=hd9 hS1;have u0:((i0:Int) == -1)=false:=by simp
  clear hst hown1 hS1 hall hai h hcap;go_wp2
  go_loopg [5,6] (n-(i0+1)) (DwS base g n c ans js St)
  case atStart=>exact⟨i0+1,i0,_,by go_num,rfl,by rw [Hn.out],Hst.out,Ho0.out,HS1.out⟩
  case round =>
   obtain⟨m,q,ys,rfl,rfl,rfl,hL,hown,hS⟩:=hrel;have hm1:=hL.2.1;have hm2:=hL.2.2.1;rw [List.length_zipIdx,Hn.out]at hm2;have HL:=hd9 hL;have Hown:=hd9 hown;have HS:=hd9 hS
   by_cases hlt:m<n
   ·obtain⟨⟨⟨⟨nm,sh,d,de,gx,gz,wy,ax,az,sk⟩,k,⟨xl,xh⟩,zl,zh⟩,v⟩,hq⟩:∃q,js[m]?=V q:=⟨js[m]'(by rw [Hn.out];omega),by simp⟩
    obtain⟨va,vn,vc,hvv⟩:=hv _ (lM hq);dsimp only at hvv;subst hvv;have hqy:=hL.2.2.2.2 m (nE _);rw [zfk hq]at hqy;have cc0:=hown.cell (i:=m) (j:=0) (u:=.string nm) (by rw [lP,hqy];rfl) rfl;have cc1:=hown.cell (i:=m) (j:=1) (u:=X va vn vc) (by rw [lP,hqy];rfl) rfl;have cc2:=hown.cell (i:=m) (j:=2) (u:=O Y d) (by rw [lP,hqy];rfl) rfl;have cc3:=hown.cell (i:=m) (j:=3) (u:=O Y de) (by rw [lP,hqy];rfl) rfl;have cc4:=hown.cell (i:=m) (j:=4) (u:=O Y gx) (by rw [lP,hqy];rfl) rfl;have cc5:=hown.cell (i:=m) (j:=5) (u:=O Y gz) (by rw [lP,hqy];rfl) rfl;have cc6:=hown.cell (i:=m) (j:=6) (u:=O Y wy) (by rw [lP,hqy];rfl) rfl;have cc7:=hown.cell (i:=m) (j:=7) (u:=O Y ax) (by rw [lP,hqy];rfl) rfl;have cc8:=hown.cell (i:=m) (j:=8) (u:=O Y az) (by rw [lP,hqy];rfl) rfl;have cc9:=hown.cell (i:=m) (j:=9) (u:=O .u8 sk) (by rw [lP,hqy];rfl) rfl;have cc10:=hown.cell (i:=m) (j:=10) (u:=O Y k) (by rw [lP,hqy];rfl) rfl;have cc11:=hown.cell (i:=m) (j:=11) (u:=O Y xl) (by rw [lP,hqy];rfl) rfl;have cc12:=hown.cell (i:=m) (j:=12) (u:=O Y xh) (by rw [lP,hqy];rfl) rfl;have cc13:=hown.cell (i:=m) (j:=13) (u:=O Y zl) (by rw [lP,hqy];rfl) rfl;have cc14:=hown.cell (i:=m) (j:=14) (u:=O Y zh) (by rw [lP,hqy];rfl) rfl;simp only [Nat.add_zero]at cc0;have HC:=hd9 (fun W (hW:Ext wr W)=>Hf.out m W _ (Hext.out _ _ _ hS hW) hq);obtain⟨fp,f7⟩:=gX (ans m);rw [f7]at HC;have F7:=hd9 f7;unfold jca at HC;dsimp only at HC;have Hq:=hd9 (zfk hq);have zg:=(hown.lt g rfl).2;have p0:(0:Int)≤(q:Int):=by omega
    have p1:(q:Int)<(n:Int):=by omega
    clear hq hqy f7 hL hown hS
    cases fp with
    | true =>
     go_wp2_with(((go_at_call 59;(with_reducible refine(HC.out _ ?_).mono ?_);exact eA;rintro e w2 ⟨rfl,hx2,hk2,_,_⟩)))
     have Hk2:=hd9 (hk2 _ (Hown.out.ext eA))
     go_roundg (n-(m+1))
     case measure=>have:=Hn.out;omega
     case rel=>exact⟨m+1,q,ys,by go_num,rfl,by rw [Hn.out],HL.out.drop Hq.out F7.out,Hk2.out,hx2⟩
    | false =>
     obtain⟨jq,hjq⟩:∃jq,ys[q]?=V jq:=⟨_,gE (by rw [HL.out.1,List.length_zipIdx,Hn.out];omega)⟩;have Hjq:=hd9 hjq;clear hjq
     go_wp2_with(((go_at_call 59;(with_reducible refine(HC.out _ ?_).mono ?_);exact eA;rintro e w2 ⟨rfl,hx2,hk2,hz2,hb2⟩;have Ho1:=hd9 (hk2 _ (Hown.out.ext ((eR wr).alloc _)));have K1:=hb2 _ _ (aN wr (F #[.string nm,X va vn vc,O Y d,O Y de,O Y gx,O Y gz,O Y wy,O Y ax,O Y az,O .u8 sk,O Y k,O Y xl,O Y xh,O Y zl,O Y zh] 127)) (by simp);have gf:=Ho1.out.frozen;(simp only [wZ]at hz2);(have zw2:wr.heap.size<w2.heap.size:=(by omega));(have zg2:g<w2.heap.size:=(by omega));have ee0:=qcB K1 (i:=0) (u:=.string nm) rfl;have ee1:=qcB K1 (i:=1) (u:=X va vn vc) rfl;have ee2:=qcB K1 (i:=2) (u:=O Y d) rfl;have ee3:=qcB K1 (i:=3) (u:=O Y de) rfl;have ee4:=qcB K1 (i:=4) (u:=O Y gx) rfl;have ee5:=qcB K1 (i:=5) (u:=O Y gz) rfl;have ee6:=qcB K1 (i:=6) (u:=O Y wy) rfl;have ee7:=qcB K1 (i:=7) (u:=O Y ax) rfl;have ee8:=qcB K1 (i:=8) (u:=O Y az) rfl;have ee9:=qcB K1 (i:=9) (u:=O .u8 sk) rfl;have ee10:=qcB K1 (i:=10) (u:=O Y k) rfl;have ee11:=qcB K1 (i:=11) (u:=O Y xl) rfl;have ee12:=qcB K1 (i:=12) (u:=O Y xh) rfl;have ee13:=qcB K1 (i:=13) (u:=O Y zl) rfl;have ee14:=qcB K1 (i:=14) (u:=O Y zh) rfl;have dd0:=Ho1.out.cell (i:=q) (j:=0) (d:=jc jq.1) (u:=.string jq.1.1.p.name) (by rw [lP,Hjq.out];rfl) rfl;have dd1:=Ho1.out.cell (i:=q) (j:=1) (d:=jc jq.1) (u:=jq.1.2) (by rw [lP,Hjq.out];rfl) rfl;have dd2:=Ho1.out.cell (i:=q) (j:=2) (d:=jc jq.1) (u:=O Y jq.1.1.p.depth) (by rw [lP,Hjq.out];rfl) rfl;have dd3:=Ho1.out.cell (i:=q) (j:=3) (d:=jc jq.1) (u:=O Y jq.1.1.p.density) (by rw [lP,Hjq.out];rfl) rfl;have dd4:=Ho1.out.cell (i:=q) (j:=4) (d:=jc jq.1) (u:=O Y jq.1.1.p.gx) (by rw [lP,Hjq.out];rfl) rfl;have dd5:=Ho1.out.cell (i:=q) (j:=5) (d:=jc jq.1) (u:=O Y jq.1.1.p.gz) (by rw [lP,Hjq.out];rfl) rfl;have dd6:=Ho1.out.cell (i:=q) (j:=6) (d:=jc jq.1) (u:=O Y jq.1.1.p.way) (by rw [lP,Hjq.out];rfl) rfl;have dd7:=Ho1.out.cell (i:=q) (j:=7) (d:=jc jq.1) (u:=O Y jq.1.1.p.ax) (by rw [lP,Hjq.out];rfl) rfl;have dd8:=Ho1.out.cell (i:=q) (j:=8) (d:=jc jq.1) (u:=O Y jq.1.1.p.az) (by rw [lP,Hjq.out];rfl) rfl;have dd9:=Ho1.out.cell (i:=q) (j:=9) (d:=jc jq.1) (u:=O .u8 jq.1.1.p.skin) (by rw [lP,Hjq.out];rfl) rfl;have dd10:=Ho1.out.cell (i:=q) (j:=10) (d:=jc jq.1) (u:=O Y jq.1.1.k) (by rw [lP,Hjq.out];rfl) rfl;have dd11:=Ho1.out.cell (i:=q) (j:=11) (d:=jc jq.1) (u:=O Y jq.1.1.x.1) (by rw [lP,Hjq.out];rfl) rfl;have dd12:=Ho1.out.cell (i:=q) (j:=12) (d:=jc jq.1) (u:=O Y jq.1.1.x.2) (by rw [lP,Hjq.out];rfl) rfl;have dd13:=Ho1.out.cell (i:=q) (j:=13) (d:=jc jq.1) (u:=O Y jq.1.1.z.1) (by rw [lP,Hjq.out];rfl) rfl;have dd14:=Ho1.out.cell (i:=q) (j:=14) (d:=jc jq.1) (u:=O Y jq.1.1.z.2) (by rw [lP,Hjq.out];rfl) rfl;simp only [Nat.add_zero]at dd0)))
     go_roundg (n-(m+1))
     case measure=>have:=Hn.out;omega
     case rel =>
      obtain⟨d0,hd0⟩:∃d,(ys.map jc2)[q]?=V d:=⟨_,gE (by rw [lL,HL.out.1,List.length_zipIdx,Hn.out];omega)⟩;have hp:=OwnC.putAll (j:=0) (us:=[.string nm,X va vn vc,O Y d,O Y de,O Y gx,O Y gz,O Y wy,O Y ax,O Y az,O .u8 sk,O Y k,O Y xl,O Y xh,O Y zl,O Y zh]) Ho1.out hd0 rfl;have hm:(ys.set q (⟨⟨⟨⟨nm,sh,d,de,gx,gz,wy,ax,az,sk⟩,k,⟨xl,xh⟩,zl,zh⟩,X va vn vc⟩,m⟩)).map jc2=(ys.map jc2).set q [.string nm,X va vn vc,O Y d,O Y de,O Y gx,O Y gz,O Y wy,O Y ax,O Y az,O .u8 sk,O Y k,O Y xl,O Y xh,O Y zl,O Y zh]:=by rw [List.map_set];rfl
      rw [List.take_zero,List.nil_append,←hm]at hp;have hgrw:=zdb (g:=g) (us:=[.string nm,X va vn vc,O Y d,O Y de,O Y gx,O Y gz,O Y wy,O Y ax,O Y az,O .u8 sk,O Y k,O Y xl,O Y xh,O Y zl,O Y zh]) (o:=q*15+0) (World.grownBy.refl w2 (V g));exact⟨m+1,q+1,_,by go_num,by go_num,by rw [Hn.out],HL.out.keep Hq.out F7.out,hp,Hgr.out _ _ _ hx2 hgrw⟩
   ·obtain rfl:m=n:=by omega
    have hdn:ys.take q=js.zipIdx.filter (fun p=>!ansF ans p):=by
     have h2:=hL.2.2.2.1;rw [lT (l:=js.zipIdx) (by rw [List.length_zipIdx,Hn.out];exact nE _)]at h2;exact h2
    obtain⟨wc,hclr,hoc,hgc⟩:=zda (P:=Tryz.prog) (t:=111) (z:=G js0) (w:=wr) (o:=q*15) (c2:=c-q) (fun w=>Tryz.zeroValue127 w) rfl (by simp [Value.cells,js0];decide) Tryz.underlying111 hown hm1 rfl;have c1:(0:Int)≤(q:Int):=by omega
    have c2:(q:Int)≤(m:Int):=by omega
    have c3:(m:Int)≤(c:Int):=by omega
    have c4:(q:Int)<(c:Int):=by omega
    have c5:q<c:=by omega
    clear hL;go_wp2;rw [←HR.out];refine⟨_,rfl,?_,.inr rfl,Hgr.out _ _ _ HS.out hgc⟩;rw [←List.map_take,hdn]at hoc;unfold stayA;rw [List.map_map];exact hoc
 ·have e:stayA ans js=js:=by
   unfold stayA
   rw [List.filter_eq_self.2 (fun p hp=>by
    obtain⟨i,hi⟩:=List.mem_iff_getElem?.1 hp;have h1:=zgK hi;unfold ansF;rw [h1.2,hall i (by rw [←Hn.out];exact(lS.1 h1.1).1)];rfl),List.zipIdx_map_fst]
  rw [e]at HR;have Ho1:=hd9 hown1;clear hown1 h hall e;go_wp2;rw [←HR.out];exact⟨_,rfl,Ho1.out,.inr rfl,hS1⟩
end
section
open Go.RowKit Go.Shelf Go.Maps Go.Sort Go.Lib
attribute [local go_sem] Oper.semAt_some
theorem znR (w:I) (x:JS×Z) (b1 b2 B base base' N go n:Nat) (f:Nat→List Int) (os:List Int) (k:Nat) (hkn:x.1.k=(k:Int)) (hv:∃a n c,x.2=X a n c)
  (hm:w.heap[b1]?=V (F #[.map (V B)] 140 (0,0))) (ho:w.heap[b2]?=V (F #[X (V ⟨go,0,J⟩) n n] 36 (0,0))) (hG:Gm w base B N f) (hN:N<1000000)
  (hos:OwnC 3 1 w base' (X (V ⟨go,0,J⟩) n n) (os.map ic)) (hk:k<n) (hn:n≤120) (hf:∀z∈f k,0≤z∧z<n) (hno:∃z∈f k,os.getD z.toNat 0=0) :
  Calls Tryz.prog 59 #[G (jca x),E (V ⟨b1,0,J⟩),E (V ⟨b2,0,J⟩)] w fun e w'=>e = .returned (.bool false)∧Ext w w':=by
 obtain⟨⟨⟨nm,sh,d,de,gx,gz,wy,ax,az,sk⟩,kk,⟨xl,xh⟩,zl,zh⟩,v⟩:=x;obtain⟨va,vn,vc,rfl⟩:=hv;dsimp only at *;subst hkn;obtain⟨L,hL⟩:=gX (f k);rw [hL]at hf hno;have hmf:∀(fn:Fn) (first cap:Array Z) (w:I),(Instr.makeFunc fn first cap).run Tryz.prog w = .ok (.func fn first cap) w:=fun _ _ _ _=>rfl
 have hol:=hos.len;rw [lL]at hol;have Hol:=hd9 hol.symm;clear hol;unfold jca;dsimp only;obtain⟨R,hR⟩:∃R:Ending→I→Prop,(fun e w'=>e = .returned (.bool false)∧Ext w w')=R:=⟨_,rfl⟩;rw [hR];have HR:=hd9 hR;have hA:w.grownBy (w.alloc (F #[.string nm,X va vn vc,O Y d,O Y de,O Y gx,O Y gz,O Y wy,O Y ax,O Y az,O .u8 sk,O Y k,O Y xl,O Y xh,O Y zl,O Y zh] 127)) J:=World.grownBy_alloc _ _ _;obtain⟨v1,hrun1,hoi1,hzl1,-⟩:=(hG.keptLow hA (by simp) (fun j h=>by cases h)).at (by unfold maxLen;omega) (k:=k) (by omega);rw [hL]at hoi1 hzl1;have hC:=hd9 (fun(W:I) (hW:Ext w W) (b':Nat) (v:Z) (h:IsIs W v L)=>zfp W v L b2 (fun z=>os.getD z.toNat 0==0) h (fun W' hW' z hz=>zhq W' b2 go n os z ((hW.trans hW').heapS ho) ((hos.ext (hW.trans hW')).is) (hf z hz).1 (hf z hz).2))
 have hany:(L.any fun z=>os.getD z.toNat 0==0)=true:=by
  obtain⟨z,hz,h0⟩:=hno;exact List.any_eq_true.2 ⟨z,hz,by simpa using h0⟩
 rw [hany]at hC;have m0:=qcB hm (i:=0) (u:=.map (V B)) rfl;have o0:=qcB ho (i:=0) (u:=X (V ⟨go,0,J⟩) n n) rfl;have zm:=zab hm;have zo:=zab ho;have zm1:b1<w.heap.size+1:=by omega
 have zo1:b2<w.heap.size+1:=by omega
 have HG:=hd9 hG;have Hos:=hd9 hos;have Hho:=hd9 ho;have Hhm:=hd9 hm;have HL:=hd9 hL;have Hf:=hd9 hf;have His1:=hd9 ((zaH hoi1).is);clear hG hos ho hm hL hf hR hany hno hoi1 hzl1;go_enter Tryz.func59,Tryz.ntmps59
 go_wp2_with(go_at_call 42;(with_reducible refine(hC.out _ ?_ b1 _ His1.out).mono ?_);exact eA;rintro e w2 ⟨rfl,hx2⟩)
 rw [←HR.out];exact⟨rfl,((eR w).alloc _).trans hx2⟩
end
section
open Go.RowKit
def knownB (o:List Int) (L:List Int):Bool:=!L.any fun z=>o.getD z.toNat 0==0
def passK (und:Nat→List Int):List Int→List Nat→List Int×List Nat
 | o,[]=>(o,[])
 | o,k::r=>if knownB o (und k)=true then passK und (o.set k (topC o (und k)+1)) r else ((passK und o r).1,k::(passK und o r).2)
theorem zbr (und:Nat→List Int):∀(A B:List Nat) (o:List Int),passK und o (A++B)=((passK und (passK und o A).1 B).1,(passK und o A).2++(passK und (passK und o A).1 B).2)
 | [],B,o=>by simp [passK]
 | k::A,B,o=>by
  rw [List.cons_append,passK,passK]
  split
  ·exact zbr und A B _
  ·rw [zbr und A B o];rfl
theorem znP {os:List Int} {M:Int} (hM:0≤M) (hb:∀v∈os,v≤M) (L:List Int):topC os L≤M:=by
 unfold topC
 have:∀(L:List Int) (o:Int),o≤M→L.foldl (fun o z=>max o (os.getD z.toNat 0)) o≤M:=by
  intro L
  induction L with
  | nil=>intro o h;exact h
  | cons z r ih =>
   intro o h;rw [List.foldl_cons];refine ih _ ?_
   have:os.getD z.toNat 0≤M:=by
    rw [gD]
    cases h9:os[z.toNat]? with
    | none=>exact hM
    | some v=>exact hb v (lM h9)
   omega
 exact this L 0 hM
theorem zeh (os:List Int) (L:List Int):0≤topC os L:=by
 unfold topC
 have:∀(L:List Int) (o:Int),0≤o→0≤L.foldl (fun o z=>max o (os.getD z.toNat 0)) o:=by
  intro L
  induction L with
  | nil=>intro o h;exact h
  | cons z r ih=>intro o h;rw [List.foldl_cons];exact ih _ (by omega)
 exact this L 0 (Int.le_refl _)
theorem zck {os os':List Int} {L:List Int} (h:∀z∈L,os'.getD z.toNat 0=os.getD z.toNat 0):topC os' L=topC os L:=by
 unfold topC
 have:∀(L:List Int),(∀z∈L,os'.getD z.toNat 0=os.getD z.toNat 0)→∀o:Int,L.foldl (fun o z=>max o (os'.getD z.toNat 0)) o=L.foldl (fun o z=>max o (os.getD z.toNat 0)) o:=by
  intro L
  induction L with
  | nil=>intro _ o;rfl
  | cons z r ih =>
   intro h o;rw [List.foldl_cons,List.foldl_cons,h z (by simp)];exact ih (fun z hz=>h z (mC _ hz)) _
 exact this L h 0
theorem zeY {l:List Int} {k:Nat} {v:Int} (h:k<l.length):(l.set k v).getD k 0=v:=by
 rw [gD,List.getElem?_set_self h];rfl
theorem zaW {l:List Int} {k j:Nat} {v:Int} (h:k≠j):(l.set k v).getD j 0=l.getD j 0:=by
 rw [gD,gD,List.getElem?_set_ne h]
theorem known_iff {o L:List Int}:knownB o L=true ↔ ∀z∈L,o.getD z.toNat 0≠0:=by
 unfold knownB;simp
structure CoI (n:Nat) (und:Nat→List Int) (K:List Nat) (o:List Int) (L:List Nat):Prop where
 len:o.length=n
 sub:∀k∈L,k∈K
 nd:L.Nodup
 zero:∀k∈L,o.getD k 0=0
 done:∀k∈K,k ∉ L→o.getD k 0=topC o (und k)+1∧∀z∈und k,o.getD z.toNat 0≠0
 off:∀k,k ∉ K→o.getD k 0=0
 bd:∀v∈o,0≤v∧v+L.length≤K.length
theorem CoI.start (n:Nat) (und:Nat→List Int) {K:List Nat} (h:K.Nodup):CoI n und K (List.replicate n 0) K:=by
 have h0:∀k,(List.replicate n (0:Int)).getD k 0=0:=by
  intro k;rw [gD,List.getElem?_replicate]
  split<;>rfl
 refine⟨by simp,fun k hk=>hk,h,fun k _=>h0 k,fun k hk hn=>absurd hk hn,fun k _=>h0 k,fun v hv=>?_⟩;have:=List.eq_of_mem_replicate hv;omega
theorem CoI.go {n:Nat} {und:Nat→List Int} {K:List Nat} {o:List Int} {A C:List Nat} {k:Nat} (h:CoI n und K o (A++k::C)) (hk:k<n) (hn:knownB o (und k)=true):CoI n und K (o.set k (topC o (und k)+1)) (A++C):=by
 have hkL:k∈A++k::C:=by simp
 have h0:=h.zero k hkL;have hu:=known_iff.1 hn
 have hkn:k ∉ A++C:=by
  have:=h.nd;rw [List.nodup_append]at this;obtain⟨h1,h2,h3⟩:=this;rw [List.nodup_cons]at h2;intro hm
  rcases List.mem_append.1 hm with hm|hm
  ·exact h3 k hm k (by simp) rfl
  ·exact h2.1 hm
 have hsub:∀j,j∈A++C→j∈A++k::C:=by
  intro j hj
  rcases List.mem_append.1 hj with hj|hj
  ·exact List.mem_append.2 (.inl hj)
  ·exact List.mem_append.2 (.inr (mC _ hj))
 have hun:∀(L:List Int),(∀z∈L,o.getD z.toNat 0≠0)→∀v,(∀z∈L,(o.set k v).getD z.toNat 0=o.getD z.toNat 0):=by
  intro L hL v z hz;refine zaW ?_;rintro rfl;exact hL z hz h0
 refine⟨by rw [List.length_set];exact h.len,fun j hj=>h.sub j (hsub j hj),?_,fun j hj=>?_,fun j hj hjn=>?_,fun j hj=>?_,fun v hv=>?_⟩
 ·have:=h.nd
  rw [List.nodup_append]at this ⊢;obtain⟨h1,h2,h3⟩:=this;rw [List.nodup_cons]at h2;exact⟨h1,h2.2,fun a ha b hb=>h3 a ha b (mC _ hb)⟩
 ·rw [zaW (fun e=>hkn (by rw [e];exact hj))]
  exact h.zero j (hsub j hj)
 ·by_cases hjk:j=k
  ·subst hjk
   rw [zeY (by rw [h.len];exact hk),zck (hun _ hu _)];exact⟨rfl,fun z hz=>by rw [hun _ hu _ z hz];exact hu z hz⟩
  ·have hjL:j ∉ A++k::C:=by
    intro hm
    rcases List.mem_append.1 hm with hm|hm
    ·exact hjn (List.mem_append.2 (.inl hm))
    ·rcases List.mem_cons.1 hm with hm|hm
     ·exact hjk hm
     ·exact hjn (List.mem_append.2 (.inr hm))
   obtain⟨d1,d2⟩:=h.done j hj hjL;rw [zaW (fun e=>hjk e.symm),zck (hun _ d2 _)];exact⟨d1,fun z hz=>by rw [hun _ d2 _ z hz];exact d2 z hz⟩
 ·rw [zaW (fun e=>hj (by rw [←e];exact h.sub k hkL))]
  exact h.off j hj
 ·have hl:(A++k::C).length=(A++C).length+1:=by simp;omega
  rcases List.mem_or_eq_of_mem_set hv with hv|rfl
  ·have:=h.bd v hv
   omega
  ·have h1:=zeh o (und k)
   have hM:(0:Int)≤(K.length:Int)-(A++k::C).length:=by
    cases ho:o with
    | nil=>rw [ho]at h;have:=h.len;simp at this;omega
    | cons v r=>have:=h.bd v (by rw [ho];simp);omega
   have h2:=znP (os:=o) hM (fun v hv=>by have:=h.bd v hv;omega) (und k);omega
theorem CoI.pass {n:Nat} {und:Nat→List Int} {K:List Nat} (hK:∀k∈K,k<n) (T:List Nat):∀(L A:List Nat) (o:List Int),CoI n und K o (A++(L++T))→CoI n und K (passK und o L).1 (A++((passK und o L).2++T))
 | [],A,o,h=>by simpa [passK] using h
 | k::r,A,o,h=>by
  rw [passK]
  split
  ·rename_i hk
   exact CoI.pass hK T r A _ (h.go (hK k (h.sub k (by simp))) hk)
  ·have h2:CoI n und K o ((A++[k])++(r++T)):=by simpa using h
   have:=CoI.pass hK T r (A++[k]) o h2
   simpa using this
theorem ze9 (und:Nat→List Int):∀(L:List Nat) (o:List Int),(passK und o L).2.length≤L.length
 | [],o=>by simp [passK]
 | k::r,o=>by
  rw [passK]
  split
  ·have:=ze9 und r (o.set k (topC o (und k)+1));simp;omega
  ·have:=ze9 und r o;simp;omega
theorem zhj (und:Nat→List Int):∀(L:List Nat) (o:List Int),(∃k∈L,knownB o (und k)=true)→(passK und o L).2.length<L.length
 | [],o,⟨k,hk,_⟩=>by cases hk
 | j::r,o,⟨k,hk,h⟩=>by
  rw [passK]
  split
  ·have:=ze9 und r (o.set j (topC o (und j)+1));simp;omega
  ·rename_i hj
   rcases List.mem_cons.1 hk with rfl|hk
   ·exact absurd h hj
   ·have:=zhj und r o ⟨k,hk,h⟩
    simp;omega
theorem CoI.less {n:Nat} {und:Nat→List Int} {K:List Nat} {o:List Int} {L:List Nat} (h:CoI n und K o L) (rk:Nat→Nat) (hrk:∀k∈K,∀z∈und k,z.toNat∈K∧rk z.toNat<rk k) (hne:L≠[]):(passK und o L).2.length<L.length:=by
 obtain⟨k,hk,hmin⟩:∃k∈L,∀j∈L,rk k≤rk j:=by
  clear h hrk
  induction L with
  | nil=>exact absurd rfl hne
  | cons a r ih =>
   cases r with
   | nil=>exact⟨a,by simp,fun j hj=>by rw [List.mem_singleton.1 hj];exact nE _⟩
   | cons b r =>
    obtain⟨k,hk,hm⟩:=ih (by simp)
    by_cases hak:rk a≤rk k
    ·refine⟨a,by simp,fun j hj=>?_⟩
     rcases List.mem_cons.1 hj with rfl|hj
     ·exact nE _
     ·exact nT hak (hm j hj)
    ·refine⟨k,mC _ hk,fun j hj=>?_⟩
     rcases List.mem_cons.1 hj with rfl|hj
     ·omega
     ·exact hm j hj
 refine zhj und L o ⟨k,hk,?_⟩;rw [known_iff];intro z hz;obtain⟨h1,h2⟩:=hrk k (h.sub k hk) z hz;have h3:z.toNat ∉ L:=fun h3=>by have:=hmin _ h3;omega
 have h4:=(h.done _ h1 h3).1;have:=zeh o (und z.toNat);omega
end
section
open Go.RowKit Go.Shelf Go.Maps Go.Sort Go.Lib
attribute [local go_sem] Oper.semAt_some
def keyJ (x:JS×Z):Nat:=x.1.k.toNat
def keysJ (js:List (JS×Z)):List Nat:=js.map keyJ
def outP (und:Nat→List Int) (o:List Int) (js:List (JS×Z)) (m:Nat):List Int:=(passK und o ((keysJ js).take m)).1
def ansP (und:Nat→List Int) (o:List Int) (js:List (JS×Z)) (m:Nat):Bool:=match js[m]? with|some x=>knownB (outP und o js m) (und (keyJ x))|none=>false
theorem zkm {und:Nat→List Int} {o:List Int} {js:List (JS×Z)} {m:Nat} {x:JS×Z} (h:js[m]?=V x) :
  outP und o js (m+1)=if ansP und o js m=true then (outP und o js m).set (keyJ x) (topC (outP und o js m) (und (keyJ x))+1)else outP und o js m:=by
 have hk:(keysJ js)[m]?=V (keyJ x):=by unfold keysJ;rw [lP,h];rfl
 unfold ansP;rw [h];dsimp only;unfold outP;rw [zaa _ _ _ hk,zbr];simp only [passK]
 split<;>rfl
theorem zfT {und:Nat→List Int} {o:List Int} {js:List (JS×Z)}:∀m,m≤js.length→(((js.zipIdx.take m).filter fun p=>!ansF (ansP und o js) p).map Prod.fst).map keyJ=(passK und o ((keysJ js).take m)).2
 | 0,_=>by simp [passK]
 | m+1,hm=>by
  obtain⟨x,hx⟩:∃x,js[m]?=V x:=⟨js[m]'(by omega),by simp⟩;have hk:(keysJ js)[m]?=V (keyJ x):=by unfold keysJ;rw [lP,hx];rfl
  rw [zaa _ _ _ (zfk hx),zaa _ _ _ hk,zbr,List.filter_append,List.map_append,List.map_append,zfT m (by omega)]
  have e:ansF (ansP und o js) (x,m)=knownB (passK und o ((keysJ js).take m)).1 (und (keyJ x)):=by
   show ansP und o js m=_
   unfold ansP outP;rw [hx]
  simp only [passK]
  congr 1
  by_cases hc:knownB (passK und o ((keysJ js).take m)).1 (und (keyJ x))=true
  ·rw [if_pos hc,List.filter_cons,e,hc];rfl
  ·have hc':knownB (passK und o ((keysJ js).take m)).1 (und (keyJ x))=false:=by simpa using hc
   rw [if_neg hc,List.filter_cons,e,hc'];rfl
theorem zmi {und:Nat→List Int} {o:List Int} {js:List (JS×Z)}:keysJ (stayA (ansP und o js) js)=(passK und o (keysJ js)).2:=by
 have h:=zfT (und:=und) (o:=o) (js:=js) js.length (nE _);rw [lT (by simp),lT (by simp [keysJ])]at h;exact h
theorem zmj {ans:Nat→Bool} {js:List (JS×Z)} {x:JS×Z} (h:x∈stayA ans js):x∈js:=by
 unfold stayA at h;obtain⟨p,hp,rfl⟩:=List.mem_map.1 h;obtain⟨i,hi⟩:=List.mem_iff_getElem?.1 (List.mem_filter.1 hp).1;exact lM (zgK hi).1
theorem zaS {a b c:I} {row:Option Nat} (h:Ext a b) (g:b.grownBy c row) (hr:∀j,row=V j→a.heap.size≤j):Ext a c:=
 ⟨g.os.trans h.os,g.tape.trans h.tape,g.output.trans h.output,nT h.size g.size,fun i hi=>(g.block i (Nat.lt_of_lt_of_le hi h.size) (fun e=>by have:=hr i e.symm;omega)).trans (h.block hi)⟩
def StG (w:I) (b3 b5 B base N go n:Nat) (und:Nat→List Int) (o:List Int) (js:List (JS×Z)) (m:Nat) (W:I):Prop:=
 Ext w W∧W.heap[b3]?=V (F #[X (V ⟨go,0,J⟩) n n] 36 (0,0))∧W.heap[b5]?=V (F #[.map (V B)] 140 (0,0))∧Gm W base B N und ∧
  OwnC 3 1 W w.heap.size (X (V ⟨go,0,J⟩) n n) ((outP und o js m).map ic)
theorem StG.ext {w:I} {b3 b5 B base N go n:Nat} {und:Nat→List Int} {o:List Int} {js:List (JS×Z)} {m:Nat} {W W':I} (h:StG w b3 b5 B base N go n und o js m W) (k:Ext W W'):StG w b3 b5 B base N go n und o js m W':=
 ⟨h.1.trans k,k.heapS h.2.1,k.heapS h.2.2.1,h.2.2.2.1.ext k,h.2.2.2.2.ext k⟩
theorem StG.grown {w:I} {b3 b5 B base N go n gl:Nat} {und:Nat→List Int} {o:List Int} {js:List (JS×Z)} {m:Nat} {W W':I} {row:Option Nat} (h:StG w b3 b5 B base N go n und o js m W) (hg:W.grownBy W' row)
  (hr:∀j,row=V j→gl≤j∧j<B) (hgl:w.heap.size<gl∧go<gl∧b3<gl) (hB:B<base∧B<b5):StG w b3 b5 B base N go n und o js m W':=by
 obtain⟨h1,h2,h3,h4,h5⟩:=h;have hz:=h1.size;refine⟨zaS h1 hg (fun j hj=>by have:=(hr j hj).1;omega),(hg.block b3 (zab h2) (fun e=>?_)).trans h2,(hg.block b5 (zab h3) (fun e=>?_)).trans h3,h4.keptLow hg (fun e=>?_) (fun j hj=>by have:=(hr j hj).2;omega),⟨h5.1,h5.2.kept hg (.inr fun e=>?_)⟩⟩
 ·have:=hr b3 e.symm;omega
 ·have:=hr b5 e.symm;omega
 ·have:=hr B e.symm;omega
 ·have:=hr go e.symm;omega
theorem StG.cw {w:I} {b3 b5 B base N go gl n:Nat} {und:Nat→List Int} {K:List Nat} {o:List Int} {js:List (JS×Z)} {vl:Z} (hI:CoI n und K o (keysJ js)) (hkey:∀x∈js,x.1.k=(keyJ x:Int)) (hkv:∀x∈js,∃a n c,x.2=X a n c) (hK:∀k∈K,k<n)
  (hn:n≤120) (hKl:K.length≤120) (hund:∀k∈K,∀z∈und k,0≤z∧z<n) (hN:N<1000000) (hgo:w.heap.size≤go∧go<base∧B≠go∧go<b3∧b5≠go∧go<gl) :
  CwF js b5 b3 gl vl (StG w b3 b5 B base N go n und o js) (ansP und o js):=by
 intro m W j hS hj;obtain⟨h1,h2,h3,h4,h5⟩:=hS;have hjm:=lM hj;have hm:=(lS.1 hj).1;have hk:=hkey j hjm;have hP:=CoI.pass hK ((keysJ js).drop m) ((keysJ js).take m) [] o (by simpa using hI);rw [List.nil_append]at hP
 have hkd:keyJ j∈(keysJ js).drop m:=by
  have e:(keysJ js)[m]?=V (keyJ j):=by unfold keysJ;rw [lP,hj];rfl
  exact lM (i:=0) (by rw [List.getElem?_drop];simpa using e)
 have hkL:=List.mem_append.2 (Or.inr (a:=keyJ j∈(passK und o ((keysJ js).take m)).2) hkd);have h0:=hP.zero _ hkL;have hkK:=hP.sub _ hkL;have hz2:=zab h2;have ha:ansP und o js m=knownB (outP und o js m) (und (keyJ j)):=by unfold ansP;rw [hj]
 have hstep:=zkm (und:=und) (o:=o) hj;have hob:∀v∈outP und o js m,0≤v∧v≤1000:=fun v hv=>by have:=hP.bd v hv;omega
 rw [ha]at hstep ⊢
 cases hb:knownB (outP und o js m) (und (keyJ j))with
 | true =>
  rw [hb]at hstep;rw [if_pos rfl]at hstep;have hkn:=known_iff.1 hb;refine(zhr W j b5 b3 B base w.heap.size N go n und (outP und o js m) (keyJ j) hk (hkv j hjm) h3 h2 h4 hN h5 hgo.2.1 hgo.2.2.1 (hK _ hkK) hn hob h0 (fun z hz=>⟨(hund _ hkK z hz).1,(hund _ hkK z hz).2,hkn z hz⟩) ⟨hgo.2.2.2.2.1,by omega⟩).mono ?_;rintro e w' ⟨rfl,hg,ho⟩;refine⟨rfl,⟨zdh h1 hg hgo.1,(hg.block b3 (zab h2) (by simp;omega)).trans h2,(hg.block b5 (zab h3) (by simpa using hgo.2.2.2.2.1)).trans h3,h4.keptLow hg (by simpa using hgo.2.2.1) (fun j hj=>by cases hj;exact hgo.2.1),?_⟩,fun ys hy=>⟨hy.1,hy.2.kept hg ?_⟩,hg.size,fun b o hbo hbs=>(hg.block b (zab hbo) (by simp;omega)).trans hbo⟩
  ·rw [hstep];exact ho
  ·by_cases h9:vl.ownBlock=J
   ·exact .inl h9
   ·right
    intro e;have:=(hy.lt go e).1;omega
 | false =>
  rw [hb]at hstep;rw [if_neg (by simp)]at hstep
  have hno:∃z∈und (keyJ j),(outP und o js m).getD z.toNat 0=0:=by
   unfold knownB at hb
   simpa using hb
  refine(znR W j b5 b3 B base w.heap.size N go n und (outP und o js m) (keyJ j) hk (hkv j hjm) h3 h2 h4 hN h5 (hK _ hkK) hn (hund _ hkK) hno).mono ?_;rintro e w' ⟨rfl,hx⟩;refine⟨rfl,?_,fun ys hy=>hy.ext hx,hx.size,fun b o hbo _=>hx.heapS hbo⟩;have hS':=StG.ext (⟨h1,h2,h3,h4,h5⟩:StG w b3 b5 B base N go n und o js m W) hx;obtain⟨g1,g2,g3,g4,g5⟩:=hS';exact⟨g1,g2,g3,g4,by rw [hstep];exact g5⟩
end
section
open Go.RowKit Go.Shelf Go.Sort Go.Lib
theorem zdQ {g:List (Int×Int)}:∀{ps done:List Pl},laid2 g done ps=0→∀(i:Nat) (p:Pl),ps[i]?=V p→clearB g (done++ps.take i) p=true
 | [],_,_,i,p,hp=>by simp at hp
 | a::r,done,h,i,p,hp=>by
  unfold laid2 at h
  split at h
  ·rename_i hc
   cases i with
   | zero=>simp at hp;subst hp;simpa using hc
   | succ i =>
    have:=zdQ h i p (by simpa using hp)
    simpa using this
  ·cases h
theorem zgn {g:List (Int×Int)} {ps:List Pl} (h:laidP g ps=0) {i:Nat} {p:Pl} (hp:ps[i]?=V p):clearB g (ps.take i) p=true:=by
 unfold laidP at h
 split at h
 ·split at h
  ·cases h
  ·split at h
   ·simpa using zdQ h i p hp
   ·rename_i h9;exact absurd h h9
 ·cases h
def lowN (ps:List Pl) (i:Nat):List (Int×Int):=match ps[i]? with|some p=>lowP2 p|none=>[]
def upN (ps:List Pl) (i:Nat):List (Int×Int):=match ps[i]? with|some p=>upP2 p|none=>[]
def lN (ps:List Pl) (i:Nat):Int:=lineL (lowN ps i)
def rN (ps:List Pl) (i:Nat):Int:=lineR (lowN ps i)
def loN (ps:List Pl) (i:Nat) (k:Int):Rat:=atR (lowN ps i) (xh k)
def tpN (ps:List Pl) (i:Nat) (k:Int):Rat:=atR (upN ps i) (xh k)
theorem zgM {ps:List Pl} {i j:Nat} {p q:Pl} (hp:ps[i]?=V p) (hq:ps[j]?=V q) (kp:placedOk p=true) (kq:placedOk q=true) (ho:(btw (lowP2 p) (upP2 q)).lo<(btw (lowP2 p) (upP2 q)).hi) (hs:0≤(leastR (btw (lowP2 p) (upP2 q))).2.num.sign):AbK (lN ps) (rN ps) (loN ps) (tpN ps) i j:=by
 obtain⟨s1,s2,s3,n1,n2⟩:=zbe kp;obtain⟨t1,t2,t3,m1,m2⟩:=zbe kq;have ei:lowN ps i=lowP2 p:=by unfold lowN;rw [hp]
 have ej:lowN ps j=lowP2 q:=by unfold lowN;rw [hq]
 have uj:upN ps j=upP2 q:=by unfold upN;rw [hq]
 have elo:(btw (lowP2 p) (upP2 q)).lo=max (lN ps i) (lN ps j):=by unfold btw lN;rw [ei,ej,←t1]
 have ehi:(btw (lowP2 p) (upP2 q)).hi=min (rN ps i) (rN ps j):=by unfold btw rN;rw [ei,ej,←t2]
 rw [elo,ehi]at ho;refine⟨ho,fun k h1 h2=>?_⟩;unfold loN tpN;rw [ei,uj];exact zjx (zbI kp).1 (zcw kq).1 n1 m2 hs (by rw [elo];exact h1) (by rw [ehi];exact h2)
theorem zeo {ps:List Pl} {i j:Nat} {p q:Pl} (hp:ps[i]?=V p) (hq:ps[j]?=V q) (kp:placedOk p=true) (kq:placedOk q=true) (ho:max (lN ps i) (lN ps j)<min (rN ps i) (rN ps j)) (hf:freeB (lowP2 p) (upP2 q)=true):AbK (lN ps) (rN ps) (loN ps) (tpN ps) i j:=by
 obtain⟨t1,t2,t3,m1,m2⟩:=zbe kq;have ei:lowN ps i=lowP2 p:=by unfold lowN;rw [hp]
 have ej:lowN ps j=lowP2 q:=by unfold lowN;rw [hq]
 have elo:(btw (lowP2 p) (upP2 q)).lo=max (lN ps i) (lN ps j):=by unfold btw lN;rw [ei,ej,←t1]
 have ehi:(btw (lowP2 p) (upP2 q)).hi=min (rN ps i) (rN ps j):=by unfold btw rN;rw [ei,ej,←t2]
 have ho':(btw (lowP2 p) (upP2 q)).lo<(btw (lowP2 p) (upP2 q)).hi:=by rw [elo,ehi];exact ho
 unfold freeB at hf;rw [if_pos ho',decide_eq_true_eq]at hf;exact zgM hp hq kp kq ho' hf
theorem zmS {g:List (Int×Int)} {ps:List Pl} (h0:laidP g ps=0) {i j:Nat} {p q:Pl} (hij:j<i) (hp:ps[i]?=V p) (hq:ps[j]?=V q) (hm:meetB p q=true) (ho:max (lN ps i) (lN ps j)<min (rN ps i) (rN ps j)):AbK (lN ps) (rN ps) (loN ps) (tpN ps) i j∨AbK (lN ps) (rN ps) (loN ps) (tpN ps) j i:=by
 obtain⟨hok,_,_⟩:=zal h0;have kp:=hok p (lM hp);have kq:=hok q (lM hq);have hc:=zgn h0 hp;unfold clearB at hc;rw [Bool.and_eq_true,Bool.not_eq_true',List.any_eq_false]at hc
 have hqm:q∈ps.take i:=by
  refine lM (i:=j) ?_;rw [List.getElem?_take,if_pos hij];exact hq
 have hcl:=hc.2 q hqm
 have hr:relP p q≠5:=by
  intro e;refine hcl ?_;unfold clashB;rw [hm,e];rfl
 have ei:lowN ps i=lowP2 p:=by unfold lowN;rw [hp]
 have ej:lowN ps j=lowP2 q:=by unfold lowN;rw [hq]
 have ho2:=ho;unfold lN rN at ho2;rw [ei,ej]at ho2;unfold relP at hr;rw [if_neg (by omega),if_neg (by omega)]at hr
 by_cases f1:freeB (lowP2 p) (upP2 q)=true
 ·exact .inl (zeo hp hq kp kq ho f1)
 ·rw [if_neg f1]at hr
  by_cases f2:freeB (lowP2 q) (upP2 p)=true
  ·exact .inr (zeo hq hp kq kp (by rw [Int.max_comm,Int.min_comm];exact ho) f2)
  ·rw [if_neg f2]at hr
   exact absurd rfl hr
theorem zkn {α:Type} {l r:α→Int} {i j:α} (h:max (l i) (l j)<min (r i) (r j)):max (l j) (l i)<min (r j) (r i):=by
 rw [Int.max_comm,Int.min_comm];exact h
theorem zgF {r:Ru} {ps:List Pl} {ks:List (JS×Z)} (h:ks.map Prod.fst=skinP r ps) {k:Nat} (hk:k∈keysJ ks):∃p,ps[k]?=V p∧(p.skin=r.skin∨p.skin=3):=by
 obtain⟨x,hx,rfl⟩:=List.mem_map.1 hk;have h1:x.1∈skinP r ps:=h▸List.mem_map_of_mem hx;unfold skinP at h1;obtain⟨h2,h3⟩:=List.mem_filter.1 h1;obtain⟨i,hi⟩:=List.getElem?_of_mem h2;have hl:=(lS.1 hi).1;rw [zbC]at hl;rw [zgm (gE hl)]at hi;have e:=Option.some.inj hi;have ek:keyJ x=i:=by unfold keyJ;rw [←e];unfold jsOf;simp
 rw [ek];refine⟨ps[i],gE hl,?_⟩;unfold inB at h3;rw [←e]at h3
 simpa [jsOf] using h3
theorem zc3 {r:Ru} {ps:List Pl} {ks:List (JS×Z)} (h:ks.map Prod.fst=skinP r ps):(keysJ ks).Nodup:=by
 have e:keysJ ks=(skinP r ps).map fun j:JS=>j.k.toNat:=by
  rw [←h,List.map_map];rfl
 rw [e]
 have e2:(jsP ps).map (fun j:JS=>j.k.toNat)=List.range ps.length:=by
  refine List.ext_getElem (by rw [lL,zbC,List.length_range]) fun i h1 h2=>?_
  simp [jsP,jsOf]
 have hn:((jsP ps).map (fun j:JS=>j.k.toNat)).Nodup:=by rw [e2];exact List.nodup_range
 exact hn.sublist ((List.filter_sublist).map _)
theorem zjv {ks:List (JS×Z)} {bsf:Nat→List Be}:∀(m k:Nat) (z:Int),z∈fM ks bsf m k→z∈undQ ks (bsf k) (bsf k).length
 | 0,k,z,h=>by simp [fM]at h
 | m+1,k,z,h=>by
  unfold fM updA at h
  split at h
  ·rename_i e
   subst e
   rcases List.mem_append.1 h with h|h
   ·exact zjv m _ z h
   ·exact h
  ·exact zjv m k z h
theorem ziT {g:List (Int×Int)} {ps:List Pl} (h0:laidP g ps=0) {pin:Int} {k:Nat} {z:Int} (hz:0≤z) {be:Be} (hb:be∈bsP g ps pin k) (hn:be.num=z):AbK (lN ps) (rN ps) (loN ps) (tpN ps) k z.toNat:=by
 obtain⟨hok,_,_⟩:=zal h0;unfold bsP at hb
 split at hb
 ·rename_i p hp
  unfold bedsN at hb;obtain⟨i,_,he⟩:=List.mem_filterMap.1 hb;have e1:=zdx he;rw [hn]at e1;rw [←e1]at he;unfold bedAt at he
  split at he
  ·cases he
  ·rw [if_neg (by omega)]at he
   split at he
   ·cases he
   ·rename_i q hq
    split at he
    ·unfold bedO at he
     split at he
     ·rename_i ho
      refine zgM hp hq (hok p (lM hp)) (hok q (lM hq)) ho ?_
      cases hr:reachP (btw (lowP2 p) (upP2 q)) pin with
      | none=>rw [hr]at he;cases he
      | some o =>
       unfold reachP at hr
       split at hr
       ·cases hr
       ·rename_i h9
        unfold reachNo at h9;simp only [Bool.or_eq_true,decide_eq_true_eq,not_or]at h9;omega
     ·cases he
    ·cases he
 ·cases hb
theorem zbX {g:List (Int×Int)} {ps:List Pl} {r:Ru} {ks:List (JS×Z)} (h0:laidP g ps=0) (h:ks.map Prod.fst=skinP r ps) (pin:Int):∃rk:Nat→Nat,∀k∈keysJ ks,∀z∈fM ks (bsP g ps pin) ks.length k,0≤z∧z.toNat∈keysJ ks∧rk z.toNat<rk k:=by
 obtain⟨hok,_,_⟩:=zal h0
 have hA:ApK (lN ps) (rN ps) (loN ps) (tpN ps) (keysJ ks):=by
  refine⟨fun i hi k h1 h2=>?_,fun i hi j hj hij ho=>?_⟩
  ·obtain⟨p,hp,_⟩:=zgF h hi
   have ei:lowN ps i=lowP2 p:=by unfold lowN;rw [hp]
   have ui:upN ps i=upP2 p:=by unfold upN;rw [hp]
   unfold lN at h1;unfold rN at h2;unfold loN tpN;rw [ei]at h1 h2 ⊢;rw [ui];exact zlE (hok p (lM hp)) h1 h2
  ·obtain⟨p,hp,sp⟩:=zgF h hi
   obtain⟨q,hq,sq⟩:=zgF h hj;have m1:meetB p q=true:=by unfold meetB;simp only [Bool.or_eq_true,beq_iff_eq];omega
   have m2:meetB q p=true:=by unfold meetB;simp only [Bool.or_eq_true,beq_iff_eq];omega
   rcases Nat.lt_or_gt_of_ne hij with hlt|hgt
   ·exact(zmS h0 hlt hq hp m2 (zkn ho)).symm
   ·exact zmS h0 hgt hp hq m1 ho
 obtain⟨rk,hrk⟩:=ApK.rank (zc3 h) hA;refine⟨rk,fun k hk z hz=>?_⟩;have hz2:=zjv _ _ _ hz;unfold undQ at hz2;obtain⟨hz3,hz4⟩:=List.mem_filter.1 hz2;rw [List.take_length]at hz3;obtain⟨be,hbe,hnum⟩:=List.mem_map.1 hz3;unfold undOk at hz4;simp only [Bool.and_eq_true,decide_eq_true_eq,List.any_eq_true,beq_iff_eq]at hz4;obtain⟨hz0,x,hx,hxk⟩:=hz4;have hmem:z.toNat∈keysJ ks:=List.mem_map.2 ⟨x,hx,by unfold keyJ;rw [hxk]⟩;exact⟨hz0,hmem,hrk k hk _ hmem (ziT h0 hz0 hbe hnum)⟩
theorem zhI (w:I) (v:Z) (h:IsJs w v []) :
  Calls Tryz.prog 56 #[v] w fun e w'=>∃v',e = .returned v'∧OwnC 127 15 w' w.heap.size v' []∧Ext w w':=by
 have hrd:=h.rdd;obtain⟨a,c,rfl⟩:=h.form;have hl9:([]:List (List Z)).length+(([]:List (JS×Z)).map jc).length≤100000000000:=by simp
 clear h;have hrd2:Rd (w.alloc (F #[] 127)) 127 15 (X a 0 c) (([]:List (JS×Z)).map jc).length (([]:List (JS×Z)).map jc).flatten:=Rd.ext hrd ((eR w).alloc _);clear hrd;have hnl:=fun W=>Lib.run_eql_slice_nil (P:=Tryz.prog) W 111 127 a 0 c 0 0 Tryz.underlying111
 have hnull:OwnC 127 15 w w.heap.size (X J 0 0) []:=⟨fun c hc=>by simp at hc,by simp,.inl ⟨rfl,rfl⟩⟩
 cases a with
 | none =>
  simp only [Option.isNone_none]at hnl;go_enter Tryz.func56,Tryz.ntmps56;go_wp2;go_ret;exact⟨_,rfl,hnull,eA⟩
 | some p =>
  simp only [Option.isNone_some]at hnl;go_enter Tryz.func56,Tryz.ntmps56
  go_wp2_with(at_builtin;refine appS (T:=127) (t:=111) (z:=G js0) (k:=15) (bytes:=144) (base:=w.heap.size) (v:=X (V ⟨w.heap.size,0,J⟩) 0 0) (cs:=[]) zdK rfl (by decide) (by decide) Tryz.underlying111 rfl _ _ rfl rfl (zfH w _ 15 w.heap.size (nE _)) rfl (([]:List (JS×Z)).map jc) (by simp) hrd2 (by simp) hl9 (by simp) ?_;intro v' w1 hown hgrow hlie;obtain⟨a3,n3,c3,rfl⟩:=hown.form3)
  go_ret;refine⟨_,rfl,hown,?_⟩;exact zdh ((eR w).alloc _) hgrow (nE _)
theorem zi3 (w:I) (v:Z) (js:List (JS×Z)) (h:IsJs w v js) (hv:∀j∈js,∃a n c,j.2=X a n c) (hn9:js.length≤1000000) :
  Calls Tryz.prog 56 #[v] w fun e w'=>∃v',e = .returned v'∧OwnC 127 15 w' w.heap.size v' (js.map jc)∧Ext w w':=by
 rcases Nat.eq_zero_or_pos js.length with h0|h0
 ·have e:=List.eq_nil_of_length_eq_zero h0
  subst e;exact zhI w v h
 ·exact zi4 w v js h h0 hv hn9
end
section
open Go.RowKit Go.Shelf Go.Maps Go.Sort Go.Lib
attribute [local go_sem] Oper.semAt_some
def CoG (w:I) (b3 b5 B base N go gl n:Nat) (und:Nat→List Int) (K:List Nat) (ks:List (JS×Z)) (vl:Z) (gk:Nat) (t4:Z) (W:I):Prop:=
 ∃(o:List Int) (js:List (JS×Z)) (v':Z),t4=v'∧gk=js.length∧CoI n und K o (keysJ js)∧(∀x∈js,x∈ks)∧OwnC 127 15 W gl v' (js.map jc)∧(v'.ownBlock=J∨v'.ownBlock=vl.ownBlock)∧StG w b3 b5 B base N go n und o js 0 W
theorem zdE (w:I) (sb:Nat) (r:Ru) (vg vp vs vj vr:Z) (ks:List (JS×Z)) (L:List Jt) (rs:List Int) (n:Nat) (bsf:Nat→List Be) (hS:Sv w sb r vg vp vs vj vr ks L rs) (hvg:∃a n c,vg=X a n c) (hvp:∃a c,vp=X a n c) (hn:n≤120)
  (hnk:ks.length≤120) (hkv:∀j∈ks,∃a n c,j.2=X a n c) (hkb:∀x∈ks,∃k:Nat,x.1.k=k∧k<n) (hbl:∀k,(bsf k).length≤121) (hbz:∀k,∀b∈bsf k,-1≤b.num∧b.num≤1000)
  (hBd:∀W,Ext w W→∀k:Nat,(∃x∈ks,x.1.k=k)→Calls Tryz.prog 12 #[G #[vg,vp],O Y k,O Y r.pin] W (RetBs W (bsf k))) (hnd:(keysJ ks).Nodup) (rk:Nat→Nat) (hrk:∀k∈keysJ ks,∀z∈fM ks bsf ks.length k,0≤z∧z.toNat∈keysJ ks∧rk z.toNat<rk k) :
  Calls Tryz.prog 29 #[E (V ⟨sb,0,J⟩)] w fun e w'=>∃v o,e = .returned v∧IsIs w' v o∧CoI n (fM ks bsf ks.length) (keysJ ks) o []∧Ext w w':=by
 have hsk:=hS.skin;have HCl:=hd9 (fun(W:I) (hW:Ext w W)=>zi3 W vs ks (hsk.ext' hW) hkv (by omega));obtain⟨pa,pc1,rfl⟩:=hvp;obtain⟨ga,gn,gc,rfl⟩:=hvg;obtain⟨va,vn,vc,rfl⟩:=form3 hsk;have hb:=hS.blk;have c8:=qcB hb (i:=8) (u:=X pa n pc1) rfl;have c9:=qcB hb (i:=9) (u:=X va vn vc) rfl;have zs:=zab hb;have zs1:sb<w.heap.size+1:=by omega
 have zs2:sb<w.heap.size+1+1:=by omega
 have Hnd:=hd9 hnd;have Hrk:=hd9 hrk;have HBd:=hd9 hBd;have HS:=hd9 hS;have Hkv:=hd9 hkv;have Hkb:=hd9 hkb;have Hbl:=hd9 hbl;have Hbz:=hd9 hbz;have hmm:=@run_makeMap Tryz.prog;have hmf:∀(fn:Fn) (first cap:Array Z) (w:I),(Instr.makeFunc fn first cap).run Tryz.prog w = .ok (.func fn first cap) w:=fun _ _ _ _=>rfl
 obtain⟨R,hR⟩:∃R:Ending→I→Prop,(fun e w'=>∃v o,e = .returned v∧IsIs w' v o∧CoI n (fM ks bsf ks.length) (keysJ ks) o []∧Ext w w')=R:=⟨_,rfl⟩;rw [hR];have HR:=hd9 hR;clear hsk hb hnd hrk hBd hS hkv hkb hbl hbz hR;go_enter Tryz.func29,Tryz.ntmps29
 go_wp2_with(first|(at_make;refine mkC (T:=3) (t:=36) (z:=O Y 0) (k:=1) (bytes:=8) (zs:=[O Y 0]) (n:=n) zcO rfl rfl (by decide) Tryz.underlying36 rfl _ _ rfl _ rfl rfl rfl (by omega) ?_;intro ocs hown1)|(go_at_call 56;(with_reducible refine(HCl.out _ ?_).mono ?_);exact eA;rintro e w2 ⟨v2,rfl,hown2,hx2⟩;obtain⟨la,ln,lc,rfl⟩:=hown2.form3;obtain⟨hc2,hf2⟩:=hx2.cells;(have z2:=hx2.size);(simp only [wZ]at z2);(have zb2:sb<w2.heap.size:=(by omega));(have zb3:sb<w2.heap.size+1:=(by omega));(have zb4:sb<w2.heap.size+1+1:=(by omega))))
 have X2:Ext w w2:=(((eR w).alloc _).alloc _).trans hx2;have K3:w2.heap[w.heap.size+1]?=V (F #[X (V ⟨w.heap.size,0,J⟩) n n] 36 (0,0)):=hx2.heapS (qhA _ _ _ (by simp))
 have O1:OwnC 3 1 w2 w.heap.size (X (V ⟨w.heap.size,0,J⟩) n n) ((List.replicate n (0:Int)).map ic):=by
  have:=hown1.ext (((eR _).alloc (F #[X (V ⟨w.heap.size,0,J⟩) n n] 36)).trans hx2);rw [List.map_replicate];exact this
 obtain⟨gl,hgl⟩:=gX (w.heap.size+1+1);have O2:OwnC 127 15 w2 gl (X la ln lc) (ks.map jc):=by rw [←hgl];simpa using hown2
 have Hlt2:=hd9 (show ∀j,(Value.slice la ln lc).ownBlock=V j→gl≤j∧j<w2.heap.size from fun j hj=>O2.lt j hj);have hln:ln=ks.length:=by have:=hown2.len;rw [lL]at this;exact this
 have Hln:=hd9 hln;obtain⟨B,hB⟩:=gX w2.heap.size;obtain⟨W4,hW4⟩:=gX (((w2.alloc (.map #[] 0)).alloc (F #[.map (V w2.heap.size)] 140)));have X24:Ext w2 W4:=by rw [←hW4];exact((eR w2).alloc _).alloc _
 have G4:Gm W4 (B+1+1) B 0 (fun _=>[]):=by
  have h:=(Gm.made2 w2 (base:=w2.heap.size+1+1) (by omega)).ext (((eR _).alloc (F #[.map (V w2.heap.size)] 140)));rw [hW4,hB]at h;exact h
 have K5:W4.heap[B+1]?=V (F #[.map (V B)] 140 (0,0)):=by rw [←hW4,←hB];exact qhA _ _ _ (by simp)
 have s4:W4.heap.size=B+1+1:=by rw [←hW4,←hB];simp
 have zB:w.heap.size+1+1≤B:=by omega
 rw [hW4];rw [hB]at Hlt2;simp only [hB];have HX2:=hd9 X2;have HX24:=hd9 X24;have HK3:=hd9 (X24.heapS K3);have HK5:=hd9 K5;have HO1:=hd9 (O1.ext X24);have HO2:=hd9 (O2.ext X24);clear hown1 hown2 hx2 X2 K3 O1 O2 hln hB hW4 X24 K5 hc2 hf2 z2 zb2 zb3 zb4 c8 c9 zs zs1 zs2 HCl;refine zja W4 sb (B+1) B (B+1+1) r (X ga gn gc) (X pa n pc1) (X va vn vc) vj vr ks bsf va vn vc _ _ _ _ _ _ _ _ _ _ _ _ _ _ _ _ _ _ _ _ _ _ _ _ _ _ _ _ _ _ _ _ _ _ _ _ _ _ _ _ _ _ _ _ _ _ _ _ _ _ _ _ _ _ _ _ _ _ _ _ _ _ _ _ _ _ _ _ _ _ _ _ _ _ _ _ _ _ _ _ _ _ rfl ⟨_,_,_,rfl⟩ ⟨_,_,_,rfl⟩ (HX24.out.heapS (HX2.out.heapS HS.out.blk)) ((HS.out.skin.ext' HX2.out).ext' HX24.out) Hkv.out HK5.out G4 (by omega) hnk (fun x hx=>by obtain⟨k,h1,h2⟩:=Hkb.out x hx;exact⟨k,h1,by omega⟩) Hbl.out Hbz.out (fun W hW k hk=>HBd.out W (hW.ext (HX2.out.trans HX24.out) (by omega) (by omega)) k hk) (fun c a d v w h=>by cases d<;>exact h) ?_;intro y30 y7 y8 y9 y11 y31 y32 y33 y34 y35 y36 y37 y38 y39 y40 y41 y42 y43 y44 y45 y46 y47 y48 y49 y50 y51 y52 y53 y54 y55 y56 y57 y58 y59 y60 y61 y62 y63 y64 y65 y66 y67 y68 y69 y70 y71 y72 y73 y74 y75 y76 y77 y78 W N hcW hgW hNW;obtain⟨und,hund⟩:=gX (fM ks bsf ks.length);rw [hund]at hgW Hrk HR;have hXW:Ext w W:=hcW.ext (HX2.out.trans HX24.out) (by omega) (by omega)
 have HSt:=hd9 (show StG w (w.heap.size+1) (B+1) B (B+1+1) N w.heap.size n und (List.replicate n 0) ks 0 W∧OwnC 127 15 W gl (X la ln lc) (ks.map jc)from
  ⟨⟨hXW,hcW.2 _ _ HK3.out (by omega) (.inl (by omega)),hcW.2 _ _ HK5.out (by omega) (.inr fun cs fr e=>by cases e),hgW,HO1.out.crk hcW (fun j hj=>by
   have:j=w.heap.size:=by simpa [Value.ownBlock] using hj.symm
   exact⟨by omega,.inl (by omega)⟩)⟩,HO2.out.crk hcW (fun j hj=>⟨by
   intro e;subst e;have h9:=HO2.out
   rcases h9.2.2 with ⟨h1,_⟩|⟨g,cap,cur,hv,_,hh,_⟩
   ·rw [h1]at hj;cases hj
   ·rw [hv]at hj;cases hj;exact G4.notCells _ _ hh,.inr (by decide)⟩)⟩)
 clear hcW hgW hXW hund HO1 HO2 HK3 HK5 G4 HX24 HBd Hbl Hbz;go_wp2;have HI0:=hd9 (CoI.start n und Hnd.out)
 have hKn:∀k∈keysJ ks,k<n:=by
  intro k hk;obtain⟨x,hx,rfl⟩:=List.mem_map.1 hk;obtain⟨k,h1,h2⟩:=Hkb.out x hx;unfold keyJ;omega
 have HKn:=hd9 hKn
 have Hund:=hd9 (show ∀k∈keysJ ks,∀z∈und k,0≤z∧z<n from fun k hk z hz=>by
  obtain⟨h1,h2,_⟩:=Hrk.out k hk z hz;have:=hKn _ h2;exact⟨h1,by omega⟩)
 have Hky:=hd9 (show ∀x∈ks,x.1.k=(keyJ x:Int)from fun x hx=>by
  obtain⟨k,h1,_⟩:=Hkb.out x hx;unfold keyJ;omega)
 clear hKn
 go_loopg [4] ks.length (CoG w (w.heap.size+1) (B+1) B (B+1+1) N w.heap.size gl n und (keysJ ks) ks (X la ln lc))
 case atStart=>exact⟨List.replicate n 0,ks,_,rfl,rfl,HI0.out,fun x hx=>hx,HSt.out.2,.inr rfl,HSt.out.1⟩
 case round =>
  clear HSt HI0;obtain⟨o,js,v',rfl,rfl,hI,hsub,hown,hvo,hSt⟩:=hrel;obtain⟨la',ln',lc',rfl⟩:=hown.form3;have hl:=hown.len;rw [lL]at hl
  have hvj:∀j,(Value.slice la' ln' lc').ownBlock=V j→gl≤j∧j<B:=by
   intro j hj
   rcases hvo with h|h
   ·rw [h]at hj;cases hj
   ·rw [h]at hj;exact Hlt2.out j hj
  have hjl:js.length≤ks.length:=by
   have h1:=hI.nd;have h2:=List.Nodup.length_le_of_subset h1 (fun k hk=>hI.sub k hk)
   simpa [keysJ] using h2
  by_cases hz:0<js.length
  ·have hlen:(0:Int)<(ln':Int):=by omega
   have hlen2:0<ln':=by omega
   have HD:=hd9 (zly wr gl (X la' ln' lc') js (B+1) (w.heap.size+1) (StG w (w.heap.size+1) (B+1) B (B+1+1) N w.heap.size n und o js) (ansP und o js) hown (by omega) (fun j hj=>Hkv.out j (hsub j hj)) (fun k W W' h hx=>h.ext hx)
    (fun k W W' h hg=>h.grown hg hvj ⟨by omega,by omega,by omega⟩ ⟨by omega,by omega⟩) hSt
    (StG.cw hI (fun x hx=>Hky.out x (hsub x hx)) (fun x hx=>Hkv.out x (hsub x hx)) HKn.out hn (by simpa [keysJ] using hnk) Hund.out (by omega) ⟨nE _,by omega,by omega,by omega,by omega,by omega⟩))
   have HI:=hd9 hI;have Hsub:=hd9 hsub;have Hvo:=hd9 hvo;have Hz:=hd9 hz;clear hSt hI hown hl hsub hvo hz
   go_wp2_with(go_at_call 44;(with_reducible refine(HD.out).mono ?_);rintro e w' ⟨v2,rfl,hown2,hvo2,hS2⟩)
   have hsk:=zmi (und:=und) (o:=o) (js:=js);have hlt:=HI.out.less rk (fun k hk z hz=>(Hrk.out k hk z hz).2) (by intro h;have h9:js=[]:=(by simpa [keysJ] using h);have h8:=Hz.out;rw [h9]at h8;exact absurd h8 (by simp));rw [←hsk]at hlt;have hlt':(stayA (ansP und o js) js).length<js.length:=by simpa [keysJ] using hlt
   go_roundg (stayA (ansP und o js) js).length
   case measure=>exact hlt'
   case rel =>
    have hP:=CoI.pass HKn.out [] (keysJ js) [] o (by simpa using HI.out);rw [List.nil_append,List.append_nil,←hsk]at hP;obtain⟨g1,g2,g3,g4,g5⟩:=hS2;have e1:outP und o js js.length=(passK und o (keysJ js)).1:=by unfold outP;rw [lT (by simp [keysJ])]
    rw [e1]at g5;refine⟨(passK und o (keysJ js)).1,stayA (ansP und o js) js,v2,rfl,rfl,hP,fun x hx=>Hsub.out x (zmj hx),hown2,?_,g1,g2,g3,g4,g5⟩
    rcases hvo2 with h|h
    ·exact .inl h
    ·rw [h];exact Hvo.out
  ·obtain rfl:js=[]:=List.eq_nil_of_length_eq_zero (by omega)
   have hlen:¬(0:Int)<(ln':Int):=by simp at hl;omega
   have hl0:ln'=0:=by simpa using hl
   obtain⟨hX,hK,_,_,hO⟩:=hSt;have k3:=qcB hK (i:=0) (u:=X (V ⟨w.heap.size,0,J⟩) n n) rfl;have HO:=hd9 hO;have HX:=hd9 hX;have HI:=hd9 hI;clear hK hO hX hI hown hl hsub hvo;go_wp2;rw [←HR.out];exact⟨_,o,rfl,HO.out.is,HI.out,HX.out⟩
def RetKo (w:I) (ps:List Pl) (r:Ru) (g:List (Int×Int)) (e:Ending) (w':I):Prop:=
 ∃v ks o,e = .returned (.tuple #[v,O Y 0])∧ks.map Prod.fst=skinP r ps∧IsIs w' v o∧CoI ps.length (fM ks (bsP g ps r.pin) ks.length) (keysJ ks) o []∧Ext w w'
theorem zf2 (w:I) (vg vp:Z) (g:List (Int×Int)) (ps:List Pl) (r:Ru) (hg:IsPts w vg g) (hp:IsPls w vp ps) (hgw:Gw w) (h0:byE g ps r=0) :
  Calls Tryz.prog 11 #[G #[vg,vp],G (ruc r)] w (RetKo w ps r g):=by
 have HB:=hd9 (fun W (hW:Ext w W)=>(zeq W vg vp g ps r (hg.ext' hW) (hp.ext' hW) (hgw.ext hW)).mono (fun e w' h=>h.resolve_left (fun h9=>h9.1 h0)))
 have hl0:laidP g ps=0:=by
  unfold byE at h0
  by_cases h:laidP g ps=0
  ·exact h
  ·rw [if_neg h]at h0;exact absurd h0 h
 obtain⟨hok,hn,hgr⟩:=zal hl0
 have HC:=hd9 (fun(W:I) (hW:Ext w W) (sb:Nat) (vs vj vr:Z) (ks:List (JS×Z)) (L:List Jt) (rs:List Int) (sv:Sv W sb r vg vp vs vj vr ks L rs) (svp:SvP r ps ks L rs) =>
  zdE W sb r vg vp vs vj vr ks L rs ps.length (bsP g ps r.pin) sv (form3 hg) (hp.form) hn
   (by have h9:=congrArg List.length svp.skin;rw [lL]at h9;have h8:(skinP r ps).length≤(jsP ps).length:=List.length_filter_le _ _;rw [zbC]at h8;omega)
   (fun j hj=>form3 (sv.pts j hj)) (fun x hx=>zci svp.skin hx) (fun k=>(zgT hn k).1) (fun k=>(zgT hn k).2)
   (fun W' hW' k hk=>by
    obtain⟨x,hx,hxk⟩:=hk;obtain⟨k',h1,h2⟩:=zci svp.skin hx;have hkk:k=k':=by omega
    subst hkk;have hpk:ps[k]?=V (ps[k]'h2):=gE h2;have hbs:bsP g ps r.pin k=bedsN g ps k (ps[k]'h2) r.pin (ps.length+1):=by unfold bsP;rw [hpk]
    rw [hbs];exact ziW W' vg vp g ps k (ps[k]'h2) r.pin (hg.ext' (hW.trans hW')) (hp.ext' (hW.trans hW')) (hgw.ext (hW.trans hW')) hl0 hpk (zeP h0).1 (zeP h0).2 hgr hok hn)
   (zc3 svp.skin) (zbX hl0 svp.skin r.pin).choose (zbX hl0 svp.skin r.pin).choose_spec)
 obtain⟨ga,gn,gc,rfl⟩:=form3 hg;obtain⟨pa,pn,pc1,rfl⟩:=form3 hp;obtain⟨R,hR⟩:=gX (RetKo w ps r g);rw [hR];have HR:=hd9 hR;clear hg hp hgw hR h0 hl0 hok hn hgr;obtain⟨sk,pin,wide,lap,step,run,level⟩:=r;unfold ruc at HB ⊢;dsimp only at HB;go_enter Tryz.func11,Tryz.ntmps11
 go_wp2_with(first|(go_at_call 28;(with_reducible refine(HB.out _ ?_).mono ?_);exact eA;rintro e w3 ⟨_,sb,vs,vj,vr,ks,L,rs,rfl,sv,svp,hx3⟩;have X3:Ext w w3:=eA)|(go_at_call 29;(with_reducible refine(HC.out w3 X3 sb vs vj vr ks L rs sv svp).mono ?_);rintro e w4 ⟨v4,o4,rfl,hv4,hI4,hx4⟩))
 rw [←HR.out];exact⟨_,ks,o4,rfl,svp.skin,hv4,hI4,X3.trans hx4⟩
theorem zhD (w:I) (vg vp:Z) (g:List (Int×Int)) (ps:List Pl) (r:Ru) (hg:IsPts w vg g) (hp:IsPls w vp ps) (hgw:Gw w) (h0:byE g ps r≠0) :
  Calls Tryz.prog 11 #[G #[vg,vp],G (ruc r)] w fun e w'=>e = .returned (.tuple #[X J 0 0,O Y (byE g ps r)])∧Ext w w':=by
 have HB:=hd9 (fun W (hW:Ext w W)=>(zeq W vg vp g ps r (hg.ext' hW) (hp.ext' hW) (hgw.ext hW)).mono (fun e w' h=>h.resolve_right (fun h9=>h0 h9.1)));obtain⟨ga,gn,gc,rfl⟩:=form3 hg;obtain⟨pa,pn,pc1,rfl⟩:=form3 hp;obtain⟨k,hk⟩:=gX (byE g ps r);rw [hk]at HB h0 ⊢;have u0:(k != 0)=true:=by simpa using h0
 obtain⟨R,hR⟩:∃R:Ending→I→Prop,(fun e w'=>e = .returned (.tuple #[X J 0 0,O Y k])∧Ext w w')=R:=⟨_,rfl⟩;rw [hR];have HR:=hd9 hR;clear hR;clear hg hp hgw hk h0;obtain⟨sk,pin,wide,lap,step,run,level⟩:=r;unfold ruc at HB ⊢;dsimp only at HB;go_enter Tryz.func11,Tryz.ntmps11
 go_wp2_with(go_at_call 28;(with_reducible refine(HB.out _ ?_).mono ?_);exact eA;rintro e w3 ⟨_,rfl,hx3⟩)
 rw [←HR.out];exact⟨rfl,eA⟩
def RetKoA (w:I) (ps:List Pl) (r:Ru) (g:List (Int×Int)) (e:Ending) (w':I):Prop:=
 (byE g ps r≠0∧e = .returned (.tuple #[X J 0 0,O Y (byE g ps r)])∧Ext w w')∨(byE g ps r=0∧RetKo w ps r g e w')
theorem zf1 (w:I) (vg vp:Z) (g:List (Int×Int)) (ps:List Pl) (r:Ru) (hg:IsPts w vg g) (hp:IsPls w vp ps) (hgw:Gw w) :
  Calls Tryz.prog 11 #[G #[vg,vp],G (ruc r)] w (RetKoA w ps r g):=by
 by_cases h0:byE g ps r=0
 ·exact(zf2 w vg vp g ps r hg hp hgw h0).mono fun e w' h=>.inr ⟨h0,h⟩
 ·exact(zhD w vg vp g ps r hg hp hgw h0).mono fun e w' h=>.inl ⟨h0,h⟩
end
section
open Go.RowKit Go.Shelf Go.Sort Go.Lib
theorem zbW (ks:List (JS×Z)) (m:Nat):keyAt ks m=(match (ks.map Prod.fst)[m]? with|some j=>j.k.toNat|none=>0):=by
 unfold keyAt;rw [lP]
 cases ks[m]?<;>rfl
theorem zca (ks:List (JS×Z)) (z:Int):undOk ks z=(decide (0≤z)&&(ks.map Prod.fst).any fun j=>j.k==z):=by
 unfold undOk;rw [List.any_map];rfl
theorem zcb (ks:List (JS×Z)) (bs:List Be):undQ ks bs bs.length=(bs.map (·.num)).filter (undOk ks):=by
 unfold undQ;rw [List.take_length]
section
variable {ks:List (JS×Z)} (h:ks.map Prod.fst=skinP exR exP)
include h
theorem zoG:ks.length=5:=by rw [←lL (f:=Prod.fst),h];exact znh
theorem zcC:keyAt ks 0=0:=by rw [zbW,h];rfl
theorem zcD:keyAt ks 1=1:=by rw [zbW,h];rfl
theorem zcE:keyAt ks 2=2:=by rw [zbW,h];rfl
theorem zcF:keyAt ks 3=3:=by rw [zbW,h];rfl
theorem zcG:keyAt ks 4=4:=by rw [zbW,h];rfl
theorem zcH:undQ ks (bsP exG exP 0 0) (bsP exG exP 0 0).length=[]:=by
 rw [zcb,zjp];simp only [List.filter_cons,List.filter_nil,zca,h];rfl
theorem zcI:undQ ks (bsP exG exP 0 1) (bsP exG exP 0 1).length=[]:=by
 rw [zcb,zjq];simp only [List.filter_cons,List.filter_nil,zca,h];rfl
theorem zcJ:undQ ks (bsP exG exP 0 2) (bsP exG exP 0 2).length=[0]:=by
 rw [zcb,zjr];simp only [List.filter_cons,List.filter_nil,zca,h];rfl
theorem zcK:undQ ks (bsP exG exP 0 3) (bsP exG exP 0 3).length=[1]:=by
 rw [zcb,zjs];simp only [List.filter_cons,List.filter_nil,zca,h];rfl
theorem zcL:undQ ks (bsP exG exP 0 4) (bsP exG exP 0 4).length=[2,3]:=by
 rw [zcb,zjt];simp only [List.filter_cons,List.filter_nil,zca,h];rfl
theorem zna:fM ks (bsP exG exP 0) 5 0=[]:=by
 simp only [fM,zcC h,zcD h,zcE h,zcF h,zcG h,zcH h,zcI h,zcJ h,zcK h,zcL h];rfl
theorem znb:fM ks (bsP exG exP 0) 5 1=[]:=by
 simp only [fM,zcC h,zcD h,zcE h,zcF h,zcG h,zcH h,zcI h,zcJ h,zcK h,zcL h];rfl
theorem znc:fM ks (bsP exG exP 0) 5 2=[0]:=by
 simp only [fM,zcC h,zcD h,zcE h,zcF h,zcG h,zcH h,zcI h,zcJ h,zcK h,zcL h];rfl
theorem znd:fM ks (bsP exG exP 0) 5 3=[1]:=by
 simp only [fM,zcC h,zcD h,zcE h,zcF h,zcG h,zcH h,zcI h,zcJ h,zcK h,zcL h];rfl
theorem zne:fM ks (bsP exG exP 0) 5 4=[2,3]:=by
 simp only [fM,zcC h,zcD h,zcE h,zcF h,zcG h,zcH h,zcI h,zcJ h,zcK h,zcL h];rfl
theorem znf:keysJ ks=[0,1,2,3,4]:=by
 unfold keysJ;rw [show keyJ=(fun j:JS=>j.k.toNat) ∘ Prod.fst from rfl,←List.map_map,h];rfl
theorem ex_o {o:List Int} (hI:CoI 5 (fM ks (bsP exG exP 0) 5) (keysJ ks) o []):o=[1,1,2,2,3]:=by
 have hd:=fun k hk=>(hI.done k hk (by simp)).1
 rw [znf h]at hd;have h0:=hd 0 (by simp);have h1:=hd 1 (by simp);have h2:=hd 2 (by simp);have h3:=hd 3 (by simp);have h4:=hd 4 (by simp);rw [zna h]at h0;rw [znb h]at h1;rw [znc h]at h2;rw [znd h]at h3;rw [zne h]at h4;have hl:=hI.len
 match o,hl with
 | [a,b,c,d,e],_ =>
  simp [topC]at h0 h1 h2 h3 h4;subst h0;subst h1;have h2:c=2:=by omega
  have h3:d=2:=by omega
  subst h2;subst h3;have h4:e=3:=by omega
  subst h4;rfl
end
theorem zhQ (w:I) (vg vp:Z) (hg:IsPts w vg exG) (hp:IsPls w vp exP) (hgw:Gw w) :
  Calls Tryz.prog 11 #[G #[vg,vp],G (ruc exR)] w fun e w'=>∃v,e = .returned (.tuple #[v,O Y 0])∧IsIs w' v [1,1,2,2,3]∧Ext w w':=by
 refine(zf1 w vg vp exG exP exR hg hp hgw).mono ?_;rintro e w' (⟨h0,_⟩|⟨_,v,ks,o,rfl,hk,hi,hI,hx⟩)
 ·exact absurd zm9 h0
 ·rw [show exR.pin=0 from rfl,zoG hk,show exP.length=5 from rfl]at hI
  rw [ex_o hk hI]at hi;exact⟨v,rfl,hi,hx⟩
end
end Go.Proofs.YteipgejmhfpkaaaGreatDoor.Cop
