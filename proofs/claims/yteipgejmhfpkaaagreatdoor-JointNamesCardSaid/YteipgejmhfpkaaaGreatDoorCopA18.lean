/- Part 19: contracts of what the law calls. -/
import Derived.Test.YteipgejmhfpkaaaGreatDoorCopA16
set_option maxRecDepth 1000000
set_option maxHeartbeats 16000000
set_option linter.unusedSimpArgs false
set_option linter.unusedVariables false
open Go.Value renaming int→O,slice→X
open Go.IntKind renaming i64→Y
open Go renaming Value→Z,World→V
namespace Go.Proofs.YteipgejmhfpkaaaGreatDoor.Cop
section
open Go.RowKit Go.Shelf Go.Sort Go.Lib
def DlS (w:V) (base g n c:Nat) (f:JS→Bool) (js:List (JS×Z)) (gk:Nat) (t5 t6:Z) (W:V):Prop:=
 ∃(m e:Nat) (ys:List (JS×Z)),t6=O Y (m:Int)∧t5=O Y (e:Int)∧gk=js.length-m∧DlL (fun j:JS×Z=>f j.1) js m e ys∧OwnC 127 15 W base (X (some ⟨g,0,none⟩) n c) (ys.map jc)∧Below base w W
def RetDl (w:V) (base:Nat) (js:List (JS×Z)) (e:Ending) (w':V):Prop:=∃v',e = .returned v'∧OwnC 127 15 w' base v' (js.map jc)∧Below base w w'
theorem Ext.belowB {w W:V} {base:Nat} (h:Ext w W) (hb:base≤w.heap.size):Below base w W:=Below.mono h hb
theorem zjl (w:V) (base:Nat) (v:Z) (js:List (JS×Z)) (b1 b2:Nat) (f:JS→Bool) (h:OwnC 127 15 w base v (js.map jc)) (hbs:base≤w.heap.size) (hn9:js.length≤1000000) (hv:∀j∈js,∃a n c,j.2=X a n c)
  (hf:∀W,Below base w W→∀j∈js,Calls Tryz.prog 45 #[.agg (jca j),.pointer (some ⟨b1,0,none⟩),.pointer (some ⟨b2,0,none⟩)] W fun e w'=>e = .returned (.bool (f j.1))∧Ext W w') :
  Calls Tryz.prog 44 #[v,.func (.func 45) #[] #[.pointer (some ⟨b1,0,none⟩),.pointer (some ⟨b2,0,none⟩)]] w (RetDl w base (js.filter fun j=>!f j.1)):=by
 have HI:=hd9 (fun W (hW:Ext w W)=>zlN W v js b1 b2 f ((h.ext hW).js) (fun W' hW' j hj=>hf W' ((hW.trans hW').belowB hbs) j hj));obtain⟨a,n,c,rfl⟩:=h.form3;have hl:=h.len;rw [lL]at hl;subst hl;obtain⟨n,hn⟩:=gX js.length;rw [hn]at h HI hn9 ⊢;have Hn:=hd9 hn;have Hf:=hd9 hf;obtain⟨R,hR⟩:=gX (RetDl w base (js.filter fun j=>!f j.1));rw [hR];have HR:=hd9 hR;obtain⟨x,hx⟩:=gX (idxB (fun j:JS×Z=>f j.1) js);simp only [hx]at HI;have H:=hd9 h;clear hn hf hR
 cases hfi:js.findIdx? (fun j:JS×Z=>f j.1)with
 | none =>
  have ex:x = -1:=by rw [←hx];unfold idxB;rw [hfi]
  subst ex
  have hall:js.filter (fun j=>!f j.1)=js:=by
   rw [List.findIdx?_eq_none_iff]at hfi;rw [List.filter_eq_self];intro j hj;simp [hfi j hj]
  rw [hall]at HR;clear hfi hx hall h;go_enter Tryz.func44,Tryz.ntmps44
  go_wp2_with(go_at_call 82;(with_reducible refine(HI.out _ ?_).mono ?_);exact eA;rintro e w1 ⟨rfl,hx1⟩)
  rw [←HR.out];exact⟨_,rfl,H.out.ext hx1,hx1.belowB hbs⟩
 | some i0 =>
  have ex:x=(i0:Int):=by rw [←hx];unfold idxB;rw [hfi]
  subst ex;rw [List.findIdx?_eq_some_iff_getElem]at hfi;obtain⟨hi0,hfx,hfn⟩:=hfi
  have hst:DlL (fun j:JS×Z=>f j.1) js (i0+1) i0 js:=DlL.start (gE hi0) hfx (fun j y hj hy=>by
   have:=hfn j hj;rw [gE (by omega)]at hy
   cases hy
   simpa using this)
  have Hst:=hd9 hst;rw [Hn.out]at hi0;obtain⟨g,rfl,hg1,hg2⟩:=h.blk (by rw [lL,Hn.out];omega)
  have hcap:n≤c∧c≤9223372036854775807:=by
   rcases h.2.2 with ⟨h9,_⟩|⟨g',cap,cur,hv,_,_,hnc,hcm,_⟩
   ·cases h9
   ·cases hv;rw [lL,Hn.out]at hnc;unfold maxLen at hcm;omega
  obtain⟨hcap1,hcap2⟩:=hcap;have u0:((i0:Int) == -1)=false:=by simp
  clear hfx hfn hst hx h;go_enter Tryz.func44,Tryz.ntmps44
  go_wp2_with(go_at_call 82;(with_reducible refine(HI.out _ ?_).mono ?_);exact eA;rintro e w1 ⟨rfl,hx1⟩)
  go_loopg [5,6] (n-(i0+1)) (DlS w base g n c f js)
  case atStart=>exact⟨i0+1,i0,js,by go_num,rfl,by rw [Hn.out],Hst.out,H.out.ext hx1,hx1.belowB hbs⟩
  case round =>
   clear hx1;obtain⟨m,q,ys,rfl,rfl,rfl,hL,hown,hB⟩:=hrel;have hm1:=hL.2.1;have hm2:=hL.2.2.1;rw [Hn.out]at hm2;have HL:=hd9 hL;have Hown:=hd9 hown;have HB:=hd9 hB;have hwr:=hB.size
   by_cases hlt:m<n
   ·obtain⟨⟨⟨⟨nm,sh,d,de,gx,gz,wy,ax,az,sk⟩,k,⟨xl,xh⟩,zl,zh⟩,v⟩,hq⟩:∃q,js[m]?=some q:=⟨js[m]'(by rw [Hn.out];omega),by simp⟩
    obtain⟨va,vn,vc,hvv⟩:=hv _ (lM hq);dsimp only at hvv;subst hvv;have hqy:=hL.2.2.2.2 m (nE _);rw [hq]at hqy;have cc0:=hown.cell (i:=m) (j:=0) (u:=.string nm) (by rw [lP,hqy];rfl) rfl;have cc1:=hown.cell (i:=m) (j:=1) (u:=X va vn vc) (by rw [lP,hqy];rfl) rfl;have cc2:=hown.cell (i:=m) (j:=2) (u:=O Y d) (by rw [lP,hqy];rfl) rfl;have cc3:=hown.cell (i:=m) (j:=3) (u:=O Y de) (by rw [lP,hqy];rfl) rfl;have cc4:=hown.cell (i:=m) (j:=4) (u:=O Y gx) (by rw [lP,hqy];rfl) rfl;have cc5:=hown.cell (i:=m) (j:=5) (u:=O Y gz) (by rw [lP,hqy];rfl) rfl;have cc6:=hown.cell (i:=m) (j:=6) (u:=O Y wy) (by rw [lP,hqy];rfl) rfl;have cc7:=hown.cell (i:=m) (j:=7) (u:=O Y ax) (by rw [lP,hqy];rfl) rfl;have cc8:=hown.cell (i:=m) (j:=8) (u:=O Y az) (by rw [lP,hqy];rfl) rfl;have cc9:=hown.cell (i:=m) (j:=9) (u:=O .u8 sk) (by rw [lP,hqy];rfl) rfl;have cc10:=hown.cell (i:=m) (j:=10) (u:=O Y k) (by rw [lP,hqy];rfl) rfl;have cc11:=hown.cell (i:=m) (j:=11) (u:=O Y xl) (by rw [lP,hqy];rfl) rfl;have cc12:=hown.cell (i:=m) (j:=12) (u:=O Y xh) (by rw [lP,hqy];rfl) rfl;have cc13:=hown.cell (i:=m) (j:=13) (u:=O Y zl) (by rw [lP,hqy];rfl) rfl;have cc14:=hown.cell (i:=m) (j:=14) (u:=O Y zh) (by rw [lP,hqy];rfl) rfl;simp only [Nat.add_zero]at cc0;have HC:=hd9 (fun W (hW:Ext wr W)=>Hf.out W (Below.trans hB (hW.belowB (nT hbs hwr))) _ (lM hq));obtain⟨fp,f7⟩:=gX (f ⟨⟨nm,sh,d,de,gx,gz,wy,ax,az,sk⟩,k,⟨xl,xh⟩,zl,zh⟩);rw [f7]at HC;have F7:=hd9 f7;unfold jca at HC;dsimp only at HC;have Hq:=hd9 hq;have zg:=(hown.lt g rfl).2;have p0:(0:Int)≤(q:Int):=by omega
    have p1:(q:Int)<(n:Int):=by omega
    clear hq hqy f7 hL hown hB
    cases fp with
    | true =>
     go_wp2_with(((go_at_call 45;(with_reducible refine(HC.out _ ?_).mono ?_);exact eA;rintro e w1 ⟨rfl,hx1⟩)))
     go_roundg (n-(m+1))
     case measure=>have:=Hn.out;omega
     case rel =>
      have X1:Ext wr w1:=((eR wr).alloc _).trans hx1;exact⟨m+1,q,ys,by go_num,rfl,by rw [Hn.out],HL.out.drop Hq.out F7.out,Hown.out.ext X1,Below.trans HB.out (X1.belowB (nT hbs hwr))⟩
    | false =>
     obtain⟨jq,hjq⟩:∃jq,ys[q]?=some jq:=⟨_,gE (by rw [HL.out.1,Hn.out];omega)⟩;have Hjq:=hd9 hjq;clear hjq
     go_wp2_with(((go_at_call 45;(with_reducible refine(HC.out _ ?_).mono ?_);exact eA;rintro e w1 ⟨rfl,hx1⟩;(have X1:Ext wr w1:=((eR wr).alloc _).trans hx1);have K1:=hx1.heapS (aN wr (.cells #[.string nm,X va vn vc,O Y d,O Y de,O Y gx,O Y gz,O Y wy,O Y ax,O Y az,O .u8 sk,O Y k,O Y xl,O Y xh,O Y zl,O Y zh] 127));have gf:=(Hown.out.ext X1).frozen;have ee0:=qcB K1 (i:=0) (u:=.string nm) rfl;have ee1:=qcB K1 (i:=1) (u:=X va vn vc) rfl;have ee2:=qcB K1 (i:=2) (u:=O Y d) rfl;have ee3:=qcB K1 (i:=3) (u:=O Y de) rfl;have ee4:=qcB K1 (i:=4) (u:=O Y gx) rfl;have ee5:=qcB K1 (i:=5) (u:=O Y gz) rfl;have ee6:=qcB K1 (i:=6) (u:=O Y wy) rfl;have ee7:=qcB K1 (i:=7) (u:=O Y ax) rfl;have ee8:=qcB K1 (i:=8) (u:=O Y az) rfl;have ee9:=qcB K1 (i:=9) (u:=O .u8 sk) rfl;have ee10:=qcB K1 (i:=10) (u:=O Y k) rfl;have ee11:=qcB K1 (i:=11) (u:=O Y xl) rfl;have ee12:=qcB K1 (i:=12) (u:=O Y xh) rfl;have ee13:=qcB K1 (i:=13) (u:=O Y zl) rfl;have ee14:=qcB K1 (i:=14) (u:=O Y zh) rfl;have dd0:=(Hown.out.ext X1).cell (i:=q) (j:=0) (d:=jc jq) (u:=.string jq.1.p.name) (by rw [lP,Hjq.out];rfl) rfl;have dd1:=(Hown.out.ext X1).cell (i:=q) (j:=1) (d:=jc jq) (u:=jq.2) (by rw [lP,Hjq.out];rfl) rfl;have dd2:=(Hown.out.ext X1).cell (i:=q) (j:=2) (d:=jc jq) (u:=O Y jq.1.p.depth) (by rw [lP,Hjq.out];rfl) rfl;have dd3:=(Hown.out.ext X1).cell (i:=q) (j:=3) (d:=jc jq) (u:=O Y jq.1.p.density) (by rw [lP,Hjq.out];rfl) rfl;have dd4:=(Hown.out.ext X1).cell (i:=q) (j:=4) (d:=jc jq) (u:=O Y jq.1.p.gx) (by rw [lP,Hjq.out];rfl) rfl;have dd5:=(Hown.out.ext X1).cell (i:=q) (j:=5) (d:=jc jq) (u:=O Y jq.1.p.gz) (by rw [lP,Hjq.out];rfl) rfl;have dd6:=(Hown.out.ext X1).cell (i:=q) (j:=6) (d:=jc jq) (u:=O Y jq.1.p.way) (by rw [lP,Hjq.out];rfl) rfl;have dd7:=(Hown.out.ext X1).cell (i:=q) (j:=7) (d:=jc jq) (u:=O Y jq.1.p.ax) (by rw [lP,Hjq.out];rfl) rfl;have dd8:=(Hown.out.ext X1).cell (i:=q) (j:=8) (d:=jc jq) (u:=O Y jq.1.p.az) (by rw [lP,Hjq.out];rfl) rfl;have dd9:=(Hown.out.ext X1).cell (i:=q) (j:=9) (d:=jc jq) (u:=O .u8 jq.1.p.skin) (by rw [lP,Hjq.out];rfl) rfl;have dd10:=(Hown.out.ext X1).cell (i:=q) (j:=10) (d:=jc jq) (u:=O Y jq.1.k) (by rw [lP,Hjq.out];rfl) rfl;have dd11:=(Hown.out.ext X1).cell (i:=q) (j:=11) (d:=jc jq) (u:=O Y jq.1.x.1) (by rw [lP,Hjq.out];rfl) rfl;have dd12:=(Hown.out.ext X1).cell (i:=q) (j:=12) (d:=jc jq) (u:=O Y jq.1.x.2) (by rw [lP,Hjq.out];rfl) rfl;have dd13:=(Hown.out.ext X1).cell (i:=q) (j:=13) (d:=jc jq) (u:=O Y jq.1.z.1) (by rw [lP,Hjq.out];rfl) rfl;have dd14:=(Hown.out.ext X1).cell (i:=q) (j:=14) (d:=jc jq) (u:=O Y jq.1.z.2) (by rw [lP,Hjq.out];rfl) rfl;simp only [Nat.add_zero]at dd0)))
     go_roundg (n-(m+1))
     case measure=>have:=Hn.out;omega
     case rel =>
      have hd:∃d,(ys.map jc)[q]?=some d:=⟨_,gE (by rw [lL,HL.out.1,Hn.out];omega)⟩;obtain⟨d0,hd0⟩:=hd;have hp:=OwnC.putAll (j:=0) (us:=[.string nm,X va vn vc,O Y d,O Y de,O Y gx,O Y gz,O Y wy,O Y ax,O Y az,O .u8 sk,O Y k,O Y xl,O Y xh,O Y zl,O Y zh]) (Hown.out.ext X1) hd0 rfl;have hm:(ys.set q (⟨⟨nm,sh,d,de,gx,gz,wy,ax,az,sk⟩,k,⟨xl,xh⟩,zl,zh⟩,X va vn vc)).map jc=(ys.map jc).set q [.string nm,X va vn vc,O Y d,O Y de,O Y gx,O Y gz,O Y wy,O Y ax,O Y az,O .u8 sk,O Y k,O Y xl,O Y xh,O Y zl,O Y zh]:=by rw [List.map_set];rfl
      rw [List.take_zero,List.nil_append,←hm]at hp;have hgr:=zdb (g:=g) (us:=[.string nm,X va vn vc,O Y d,O Y de,O Y gx,O Y gz,O Y wy,O Y ax,O Y az,O .u8 sk,O Y k,O Y xl,O Y xh,O Y zl,O Y zh]) (o:=q*15+0) (World.grownBy.refl w1 (some g));have hbw:=zad (base:=base) hgr (nT hbs (nT hwr X1.size)) (fun k hk=>by cases hk;exact hg1);exact⟨m+1,q+1,_,by go_num,by go_num,by rw [Hn.out],HL.out.keep Hq.out F7.out,hp,Below.trans (Below.trans HB.out (X1.belowB (nT hbs hwr))) hbw⟩
   ·obtain rfl:m=n:=by omega
    have hdn:ys.take q=js.filter (fun j:JS×Z=>!f j.1):=by
     have h2:=hL.2.2.2.1;rw [lT (l:=js) (by rw [Hn.out];exact nE _)]at h2;exact h2
    obtain⟨wc,hclr,hoc,hgc⟩:=zda (P:=Tryz.prog) (t:=111) (z:=.agg js0) (w:=wr) (o:=q*15) (c2:=c-q) (fun w=>Tryz.zeroValue127 w) rfl (by simp [Value.cells,js0];decide) Tryz.underlying111 hown hm1 rfl;have c1:(0:Int)≤(q:Int):=by omega
    have c2:(q:Int)≤(m:Int):=by omega
    have c3:(m:Int)≤(c:Int):=by omega
    have c4:(q:Int)<(c:Int):=by omega
    have c5:q<c:=by omega
    have hbw:=zad (base:=base) hgc (nT hbs hwr) (fun k hk=>by cases hk;exact hg1);clear hL;go_wp2;rw [←HR.out];refine⟨_,rfl,?_,Below.trans HB.out hbw⟩;rw [←List.map_take,hdn]at hoc;exact hoc
end
section
open Go.RowKit Go.Shelf Go.Sort
def BJ (j:JS×Z):Prop:=Bd 1000000 j.1.x.1∧∃a n c,j.2=X a n c
def cfJ (p q:JS×Z):Int:=p.1.x.1-q.1.x.1
instance:Inhabited {j // BJ j}:=⟨⟨(⟨⟨⟨#[]⟩,[],0,0,0,0,0,0,0,0⟩,0,(0,0),(0,0)⟩,X none 0 0),⟨by unfold Bd;decide,_,_,_,rfl⟩⟩⟩
theorem ltJ (x y:{j // BJ j}):ltOf (fun x y:{j // BJ j}=>cfJ x.1 y.1) x y=decide (x.1.1.x.1<y.1.1.x.1):=by
 unfold ltOf cfJ;rw [decide_eq_decide];dsimp only;omega
theorem swoJ:SWO (ltOf fun x y:{j // BJ j}=>cfJ x.1 y.1) where
 irrefl x:=by rw [ltJ];simp
 trans x y z h1 h2:=by rw [ltJ]at *;simp only [decide_eq_true_eq]at *;omega
 ntrans x y z h1 h2:=by rw [ltJ]at *;simp only [decide_eq_false_iff_not]at *;omega
theorem zlr (x y:{j // BJ j}) (W:V):Calls Tryz.prog 48 #[.agg (jca x.1),.agg (jca y.1)] W fun e w'=>e = .returned (O Y (cfJ x.1 y.1))∧∃q os',w'=grow (W.drewN q) os':=by
 obtain⟨⟨⟨⟨nm,sh,d,de,gx,gz,wy,ax,az,sk⟩,k,⟨xl,xh⟩,zl,zh⟩,v⟩,⟨hx1,hx2⟩,va,vn,vc,hv⟩:=x;obtain⟨⟨⟨⟨nm',sh',d',de',gx',gz',wy',ax',az',sk'⟩,k',⟨xl',xh'⟩,zl',zh'⟩,v'⟩,⟨hy1,hy2⟩,va',vn',vc',hv'⟩:=y;dsimp only at hv hv' ⊢;subst hv hv'
 replace hx1 : -1000000≤xl:=hx1
 replace hx2:xl≤1000000:=hx2
 replace hy1 : -1000000≤xl':=hy1
 replace hy2:xl'≤1000000:=hy2
 unfold cfJ jca;dsimp only;have d1 : -9223372036854775808≤xl-xl':=by omega
 have d2:xl-xl'≤9223372036854775807:=by omega
 clear hx1 hx2 hy1 hy2;go_enter Tryz.func48,Tryz.ntmps48;go_wp2;go_ret;exact⟨rfl,0,_,by rw [alloc_eq_grow,alloc_eq_grow,grow_grow];rfl⟩
theorem cmpLaysJ (blk off size:Nat) (w:V):CmpLays Tryz.prog 48 #[] (fun x:{j // BJ j}=>jc x.1) 15 (fun x y=>cfJ x.1 y.1) blk off size w:=
 fun _ _ _ _ x y=>zlr x y _
def RetSj (w:V) (base g n c:Nat) (js:List (JS×Z)) (e:Ending) (w':V):Prop:=
 e = .returned (.tuple #[])∧∃js':List (JS×Z),js'.Perm js∧js'.Pairwise (fun a b=>a.1.x.1≤b.1.x.1)∧OwnC 127 15 w' base (X (some ⟨g,0,none⟩) n c) (js'.map jc)∧w.grownBy w' (some g)
theorem zis (w:V) (base g n c:Nat) (js:List (JS×Z)) (h:OwnC 127 15 w base (X (some ⟨g,0,none⟩) n c) (js.map jc)) (hb:∀j∈js,BJ j) (hn9:js.length≤1000000) :
  Calls Tryz.prog 47 #[X (some ⟨g,0,none⟩) n c,.func (.func 48) #[] #[]] w (RetSj w base g n c js):=by
 have hn:=h.len;rw [lL]at hn;obtain⟨d,hd⟩:=gX ((js.attachWith BJ hb).toArray);have hds:d.size=n:=by rw [←hd,hn,List.size_toArray];exact List.length_attachWith
 have hdv:d.toList.map (·.1)=js:=by rw [←hd];exact zat hb
 have hdl:d.toList.map (fun x=>jc x.1)=js.map jc:=by
  rw [show (fun x:{j // BJ j}=>jc x.1)=jc ∘ (·.1)from rfl,←List.map_map,hdv]
 have hg:=(h.lt g rfl).2;have eg:∀args w,(callFunc 48 args).run Tryz.prog w = .ok (.enter 48 args) w:=enters_of Tryz.func48 (by kernel_rfl) rfl;have h':OwnC 127 15 w base (X (some ⟨g,0,none⟩) n c) (d.toList.map fun x=>jc x.1):=by rw [hdl];exact h
 have hH:=zcZ (enc:=fun x:{j // BJ j}=>jc x.1) (fun _=>rfl) h'
 have hO:∀x:{j // BJ j},∀v∈jc x.1,v.oneCell'=true:=fun x v hv=>by
  obtain⟨⟨j,u⟩,_,a,n,c,hu⟩:=x;dsimp only at hu;subst hu;simp [jc,jca]at hv
  rcases hv with rfl|rfl|rfl|rfl|rfl|rfl|rfl|rfl|rfl|rfl|rfl|rfl|rfl|rfl|rfl<;>rfl
 have hp:=AnyQ.slices_SortFunc (P:=Tryz.prog) (ρ:=Tryz.sortStone_ren) Tryz.sortStone 15 Tryz.isAgg127 Tryz.sizeOf127 (fun x:{j // BJ j}=>jc x.1) (fun _=>rfl) hO (fun x y=>cfJ x.1 y.1) swoJ 48 #[] g 0 c d w eg (cmpLaysJ g 0 d.size w) hH hg (by omega);rw [hds]at hp;refine hp.mono ?_;rintro e w' ⟨rfl,d',m,os,⟨q1,_,q3⟩,hs,rfl⟩;rw [←hds]at q3 hs
 have q4:d'.toList.Perm d.toList:=by
  have e1:d'.extract 0 d.size=d':=by rw [←q1];exact Array.extract_size
  rw [e1,Array.extract_size]at q3;exact q3
 refine⟨rfl,d'.toList.map (·.1),?_,?_,?_,zfe _⟩
 ·rw [←hdv];exact q4.map _
 ·rw [List.pairwise_map,List.pairwise_iff_getElem]
  intro i j hi hj hij;simp at hi hj;have h9:=hs i j (Nat.zero_le _) hij (by omega);rw [ltJ,getElem!_pos d' i hi,getElem!_pos d' j hj]at h9;simp at h9
  simpa using h9
 ·have:=zcu (m:=m) (os:=os) (enc:=fun x:{j // BJ j}=>jc x.1) (fun _=>rfl) (d':=d') h' q1
  rw [List.map_map];exact this
def swP (hi:Int) (o:Int×Int) (j:JS):Int×Int:=(max o.1 (min j.x.1 hi-o.2),max o.2 j.x.2)
def sweepP (lo hi:Int) (js:List JS):Int:=max (js.foldl (swP hi) (0,lo)).1 (hi-(js.foldl (swP hi) (0,lo)).2)
theorem zml (hi:Int) (o:Int×Int) (js:List JS) (j:JS):(js++[j]).foldl (swP hi) o=swP hi (js.foldl (swP hi) o) j:=by simp
def bareE (b t lo hi:Int) (g:List (Int×Int)) (ps:List Pl):Int:=
 if laidP g ps=0 then (if t≤b∨hi≤lo∨[b,t,lo,hi].any pfarB=true then 2 else 0)else laidP g ps
def bareJ (b t:Int) (ps:List Pl):List JS:=(jsP ps).filter fun j=>!outB b t j
def RetBa (w:V) (b t lo hi:Int) (g:List (Int×Int)) (ps:List Pl) (e:Ending) (w':V):Prop:=
 (bareE b t lo hi g ps≠0∧e = .returned (.tuple #[O Y 0,O Y (bareE b t lo hi g ps)])∧Ext w w') ∨
 (bareE b t lo hi g ps=0∧∃js:List JS,js.Perm (bareJ b t ps)∧js.Pairwise (fun x y=>x.x.1≤y.x.1)∧e = .returned (.tuple #[O Y (sweepP lo hi js),O Y 0])∧Ext w w')
theorem zmA {k:Int} {f:Int×Int→Int} {ps:List (Int×Int)} (hk:0≤k) (h:∀p∈ps,Bd k (f p)):Bd k (arP f ps).1∧Bd k (arP f ps).2:=by
 cases ps with
 | nil=>unfold arP Bd;simp;omega
 | cons p ps =>
  have:∀(qs:List (Int×Int)) (o:Int×Int),(Bd k o.1∧Bd k o.2)→(∀q∈qs,Bd k (f q))→Bd k (qs.foldl (fun o q=>(min o.1 (f q),max o.2 (f q))) o).1∧Bd k (qs.foldl (fun o q=>(min o.1 (f q),max o.2 (f q))) o).2:=by
   intro qs
   induction qs with
   | nil=>intro o ho _;exact ho
   | cons q qs ih =>
    intro o ho hq;refine ih _ ?_ (fun z hz=>hq z (mC _ hz));have:=hq q (by simp);unfold Bd at *;dsimp only;omega
  exact this ps (f p,f p) ⟨h p (by simp),h p (by simp)⟩ (fun q hq=>h q (mC _ hq))
theorem zo3 {k hi:Int} {js:List JS} (hh:Bd k hi) (h:∀j∈js,Bd k j.x.1∧Bd k j.x.2) {o:Int×Int} (ho:Bd (2*k) o.1∧Bd k o.2):Bd (2*k) (js.foldl (swP hi) o).1∧Bd k (js.foldl (swP hi) o).2:=by
 induction js generalizing o with
 | nil=>exact ho
 | cons j js ih =>
  refine ih (fun z hz=>h z (mC _ hz)) ?_;have:=h j (by simp);unfold swP;unfold Bd at *;dsimp only;omega
theorem zjJ (W:V) {k:Nat} (hk:k=W.heap.size) (x y z u:Int):IsIs (W.alloc (.cells #[O Y x,O Y y,O Y z,O Y u] 3)) (X (some ⟨k,0,none⟩) 4 4) [x,y,z,u]:=by
 subst hk;refine⟨[[O Y x],[O Y y],[O Y z],[O Y u]],rfl,by simp,⟨by simp,some ⟨W.heap.size,0,none⟩,4,rfl,nE _,by unfold maxLen;omega,.inr ⟨W.heap.size,0,_,(0,0),rfl,aN _ _,?_⟩⟩,?_⟩
 ·intro i v hv
  simpa using hv
 ·intro i c v hc hv
  match i,hc,hv with
  | 0,hc,hv=>simp at hc hv;subst hc hv;rfl
  | 1,hc,hv=>simp at hc hv;subst hc hv;rfl
  | 2,hc,hv=>simp at hc hv;subst hc hv;rfl
  | 3,hc,hv=>simp at hc hv;subst hc hv;rfl
  | i+4,hc,hv=>simp at hc
theorem zla (w:V) (vg vp:Z) (g:List (Int×Int)) (ps:List Pl) (b t lo hi:Int) (hg:IsPts w vg g) (hp:IsPls w vp ps) (hgw:Gw w) (hne:laidP g ps≠0) :
  Calls Tryz.prog 23 #[.agg #[vg,vp],O Y b,O Y t,O Y lo,O Y hi] w (RetBa w b t lo hi g ps):=by
 have HC:=hd9 (fun W (hW:Ext w W)=>zbf W vg vp g ps (hg.ext' hW) (hp.ext' hW) (hgw.ext hW));obtain⟨ga,gn,gc,rfl⟩:=form3 hg;obtain⟨pa,pn,pc1,rfl⟩:=form3 hp;obtain⟨R,hR⟩:=gX (RetBa w b t lo hi g ps);rw [hR];have HR:=hd9 hR;have he:bareE b t lo hi g ps=laidP g ps:=by unfold bareE;rw [if_neg hne]
 obtain⟨k,hk⟩:=gX (laidP g ps);rw [hk]at he hne HC;have HE:=hd9 he;have Hne:=hd9 hne;have u0:(k != 0)=true:=by simpa using hne
 clear hg hp hgw hR he hne hk;go_enter Tryz.func23,Tryz.ntmps23
 go_wp2_with(go_at_call 40;(with_reducible refine(HC.out _ ?_).mono ?_);exact eA;rintro e w3 ⟨rfl,hx3⟩)
 rw [←HR.out];exact .inl ⟨by rw [HE.out];exact Hne.out,by rw [HE.out];rfl,eA⟩
theorem zk9 (w:V) (vg vp:Z) (g:List (Int×Int)) (ps:List Pl) (b t lo hi:Int) (hg:IsPts w vg g) (hp:IsPls w vp ps) (hgw:Gw w) (h0:laidP g ps=0) (hbad:t≤b∨hi≤lo∨[b,t,lo,hi].any pfarB=true) :
  Calls Tryz.prog 23 #[.agg #[vg,vp],O Y b,O Y t,O Y lo,O Y hi] w (RetBa w b t lo hi g ps):=by
 have HC:=hd9 (fun W (hW:Ext w W)=>zbf W vg vp g ps (hg.ext' hW) (hp.ext' hW) (hgw.ext hW));obtain⟨ga,gn,gc,rfl⟩:=form3 hg;obtain⟨pa,pn,pc1,rfl⟩:=form3 hp;obtain⟨R,hR⟩:=gX (RetBa w b t lo hi g ps);rw [hR];have HR:=hd9 hR;have he:bareE b t lo hi g ps=2:=by unfold bareE;rw [if_pos h0,if_pos hbad]
 rw [h0]at HC;have HE:=hd9 he;clear hg hp hgw hR he h0
 by_cases c1:t≤b
 ·clear hbad
  go_enter Tryz.func23,Tryz.ntmps23
  go_wp2_with(go_at_call 40;(with_reducible refine(HC.out _ ?_).mono ?_);exact eA;rintro e w3 ⟨rfl,hx3⟩;obtain⟨hc3,hf3⟩:=hx3.cells)
  rw [←HR.out];exact .inl ⟨by rw [HE.out];decide,by rw [HE.out];rfl,eA⟩
 by_cases c2:hi≤lo
 ·clear hbad
  go_enter Tryz.func23,Tryz.ntmps23
  go_wp2_with(go_at_call 40;(with_reducible refine(HC.out _ ?_).mono ?_);exact eA;rintro e w3 ⟨rfl,hx3⟩;obtain⟨hc3,hf3⟩:=hx3.cells)
  rw [←HR.out];exact .inl ⟨by rw [HE.out];decide,by rw [HE.out];rfl,eA⟩
 ·have c3:[b,t,lo,hi].any pfarB=true:=by
   rcases hbad with h|h|h
   ·exact absurd h c1
   ·exact absurd h c2
   ·exact h
  have C3:=hd9 c3;clear hbad c3;go_enter Tryz.func23,Tryz.ntmps23
  go_wp2_with(first|(go_at_call 40;(with_reducible refine(HC.out _ ?_).mono ?_);exact eA;rintro e w3 ⟨rfl,hx3⟩;obtain⟨hc3,hf3⟩:=hx3.cells)|(go_at_call 42;(with_reducible refine(zfo _ _ [b,t,lo,hi] (zjJ _ rfl b t lo hi)).mono ?_);rw [C3.out];rintro e w4 ⟨rfl,hx4⟩))
  rw [←HR.out];exact .inl ⟨by rw [HE.out];decide,by rw [HE.out];rfl,eA⟩
def BaS (w:V) (v:Z) (lo hi:Int) (js:List (JS×Z)) (gk:Nat) (t15 t16 t51:Z) (W:V):Prop:=
 ∃i:Nat,i≤js.length∧t51=O Y i∧gk=js.length-i∧t15=O Y (((js.take i).map Prod.fst).foldl (swP hi) (0,lo)).1∧t16=O Y (((js.take i).map Prod.fst).foldl (swP hi) (0,lo)).2∧Ext w W∧IsJs W v js
theorem zjW {ps:List Pl} {j:JS} (h:j∈jsP ps):∃p∈ps,∃i,j=jsOf i p:=by
 obtain⟨i,hi⟩:=List.mem_iff_getElem?.1 h;unfold jsP at hi;rw [List.getElem?_mapIdx]at hi
 cases hp:ps[i]? with
 | none=>rw [hp]at hi;cases hi
 | some p=>rw [hp]at hi;cases hi;exact⟨p,lM hp,i,rfl⟩
theorem zdP {ps:List Pl} (hok:∀p∈ps,placedOk p=true) {j:JS} (h:j∈jsP ps):(Bd 104000 j.x.1∧Bd 104000 j.x.2)∧Bd 104000 j.z.1∧Bd 104000 j.z.2:=by
 obtain⟨p,hp,i,rfl⟩:=zjW h;have hb:=(zaR (hok p hp)).1;exact⟨zmA (by omega) (fun q hq=>(hb q hq).1),zmA (by omega) (fun q hq=>(hb q hq).2)⟩
theorem zg9 {g:List (Int×Int)}:∀{ps done:List Pl},laid1 g done ps=0→∀p∈ps,placedOk p=true
 | [],_,_,p,hp=>by cases hp
 | q::r,done,h,p,hp=>by
  unfold laid1 at h
  by_cases h0:addE g done q=0
  ·rw [if_pos h0]at h
   rcases List.mem_cons.1 hp with rfl|hp
   ·cases hk:placedOk p with
    | true=>rfl
    | false=>unfold addE at h0;rw [hk]at h0;simp at h0
   ·exact zg9 h p hp
  ·rw [if_neg h0]at h;exact absurd h h0
theorem zal {g:List (Int×Int)} {ps:List Pl} (h:laidP g ps=0):(∀p∈ps,placedOk p=true)∧ps.length≤120∧groundB g=true:=by
 unfold laidP at h
 cases hg:groundB g with
 | false=>rw [hg]at h;simp at h
 | true =>
  rw [hg,if_pos rfl]at h
  by_cases hl:120<ps.length
  ·rw [if_pos hl]at h;exact absurd h (by decide)
  ·rw [if_neg hl]at h
   by_cases h1:laid1 g [] ps=0
   ·exact⟨zg9 h1,by omega,rfl⟩
   ·rw [if_neg h1]at h;exact absurd h h1
end
end Go.Proofs.YteipgejmhfpkaaaGreatDoor.Cop
