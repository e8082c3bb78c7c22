/- Part 36 of 41: contracts of what the law calls. -/
import Derived.Test.YtobbionccnkmgaaGreatDoorCopA34
import Derived.Maps.GroupsBeside
import Derived.Maps.Views
import Derived.Test.YtobbionccnkmgaaGreatDoorCopA28
set_option maxRecDepth 1000000
set_option maxHeartbeats 16000000
set_option linter.unusedSimpArgs false
set_option linter.unusedVariables false
namespace Go.Proofs.YtobbionccnkmgaaGreatDoor.Cop
open Go.RowKit Go.Shelf Go.Sort Go.Lib
theorem beds_ok (w:World) (vg vp:Value) (g:List (Int×Int)) (ps:List Pl) (a:Nat) (p:Pl) (pin:Int) (hg:IsPts w vg g) (hp:IsPls w vp ps) (hgw:Gw w) (h0:laidP g ps=0) (ha:ps[a]?=some p) (hp0:0≤pin) (hp1:pin≤50)
  (hgr:groundB g=true) (hok:∀q∈ps,placedOk q=true) (hn9:ps.length≤120) (hmt:∀q∈ps,meetB p q=true) (hnx:NoXs g ps p pin) :
  Calls Tryz.prog 47 #[.agg #[vg,vp],.int .i64 a,.int .i64 pin] w (RetBs w (bedsN g ps a p pin (ps.length+1))):=by
 have HL:=hd9 (fun(W:World) (hW:Ext w W)=>(laidOut_any W vg vp g ps (hg.ext' hW) (hp.ext' hW) (hgw.ext hW)).mono (fun e w' h=>h.resolve_left (fun h9=>h9.1 h0)));have HB:=hd9 (fun(W:World) (hW:Ext w W) (vs:Value) (hs:IsLas W vs ps) (b:Int) (hb1 : -1≤b) (hb2:b<ps.length)=>bed_any W vg vs g ps a p b pin (hg.ext' hW) hs ha hgr hok hb1 hb2 (by unfold Bd;omega) hmt hnx);obtain⟨ga,gn,gc,rfl⟩:=form3 hg;obtain⟨pa,pn,pc1,rfl⟩:=form3 hp;have hpl:=hp.len;have Hn:=hd9 hpl;have Hw:=hd9 (fun(sn:Nat) (h:ps.length=sn)=>(show wrongB sn a pin=false by unfold wrongB;have:=(lS.1 ha).1;simp;omega));clear hpl;have hi:=(lS.1 ha).1;obtain⟨bsf,hbsf⟩:∃f,bedsN g ps a p pin=f:=⟨_,rfl⟩;have Hst:=hd9 (hbsf▸bedsN_step g ps a p pin);have Hbl:=hd9 (hbsf▸bedsN_len g ps a p pin);have Hb0:=hd9 (show bsf 0=[] by rw [←hbsf];rfl);rw [hbsf];obtain⟨bat,hbat⟩:∃f,bedAt g ps a p pin=f:=⟨_,rfl⟩;rw [hbat]at HB Hst;obtain⟨R,hR⟩:∃R,RetBs w (bsf (ps.length+1))=R:=⟨_,rfl⟩;rw [hR];have HR:=hd9 hR;clear hg hp hgw h0 ha hgr hok hmt hnx hR hbsf hbat;go_enter Tryz.func47,Tryz.ntmps47
 go_wp2_with(first|(go_at_call 30;(with_reducible refine(HL.out _ ?_).mono ?_);(focus((with_reducible repeat(first|assumption|exact eR _|refine eX ?_|refine eT ?_|refine eS ?_));done));rintro e w3 ⟨-,vs,rfl,hvs,hx3⟩;obtain⟨sa,sn,sc,rfl⟩:=form3 hvs;obtain⟨hc3,hf3⟩:=hx3.cells;(have z3:=hx3.size);(simp only [wZ]at z3);(have hwr:wrongB sn a pin=false:=Hw.out sn hvs.len.symm);(have Hvs:=hd9 hvs);clear hvs;(have zl3:w.heap.size<w3.heap.size:=(by omega)))|(go_at_call 75;(with_reducible refine(wrong_any _ (.slice ga gn gc) sa sn sc a pin ⟨_,_,_,rfl⟩).mono ?_);rw [hwr];rintro e w4 ⟨rfl,hx4⟩;obtain⟨hc4,hf4⟩:=hx4.cells;(have z4:=hx4.size);(simp only [wZ]at z4)))
 have X3:Ext w w3:=((Ext.refl w).alloc _).trans hx3;have Hsn:=hd9 (show sn=ps.length from Hvs.out.len);have K8:=hx4.heapS (heap_alloc_new w3 (.cells #[.slice ga gn gc,.slice sa sn sc] 90));have X34:Ext w3 w4:=((Ext.refl w3).alloc _).trans hx4;obtain⟨b8,hb8⟩:∃x,w3.heap.size=x:=⟨_,rfl⟩;have HX3:=hd9 X3;have H38:=hd9 hb8;have hz8:w.heap.size≤b8:=by omega
 have z48:b8+1≤w4.heap.size:=by omega
 rw [hb8]at K8;simp only [hb8];clear hc3 hf3 hc4 hf4 hx3 hx4 X3 hb8 z3 z4 zl3;refine beds_loop w3 w4 b8 (.slice ga gn gc) (.slice sa sn sc) ps a pin bsf bat _ _ _ _ _ _ _ _ _ _ _ _ _ _ _ _ _ _ _ _ _ _ _ _ _ _ _ _ _ _ _ _ _ _ _ _ _ _ _ _ _ _ _ ⟨_,_,_,rfl⟩ Hvs.out hn9 Hst.out Hbl.out Hb0.out (fun W hW b hb1 hb2=>HB.out W (HX3.out.trans hW) _ (Hvs.out.ext' hW) b hb1 hb2) X34 z48 H38.out K8 ?_;intro W v10 v11 y12 y13 y26 y27 y28 y29 y30 y31 y32 y33 y34 y35 y36 y37 y38 y39 y40 y41 y42 y43 y44 y45 y46 hxW hown hform;obtain⟨va,vn,vc,rfl⟩:=hform;have HxW:=hd9 hxW;have Hown:=hd9 hown;clear hxW hown K8 X34 HL HB Hst Hbl Hb0;go_wp2;rw [←HR.out];exact⟨_,rfl,Hown.out.mono (by omega),HX3.out.trans HxW.out⟩
end Go.Proofs.YtobbionccnkmgaaGreatDoor.Cop
namespace Go.Proofs.YtobbionccnkmgaaGreatDoor.Cop
open Go.RowKit Go.Shelf Go.Maps
theorem key3:Keyed Tryz.prog 3:=int_keyed Tryz.underlying3
theorem zero_ints (w:World):(zeroValue 57).run Tryz.prog w = .ok (.slice none 0 0) w:=by kernel_rfl
def Gm (W:World) (base B n:Nat) (f:Nat→List Int):Prop:=
 ∃D:DataW Unit,W.ownsGroups Tryz.prog 3 base 3 .i64 B n D∧∀k:Nat,k<1000→(D.atKey (.int .i64 (k:Int)) .nil = .nil∧f k=[])∨D.atKey (.int .i64 (k:Int)) .nil = .slice (ChangeShapes.lits .i64 (f k)) []
theorem Gm.made (w:World):Gm (w.alloc (.map #[] 0)) (w.heap.size+1) w.heap.size 0 (fun _=>[]):=
 ⟨.map [],World.ownsGroups_made _ _ _ _ _,fun k _=>.inl ⟨rfl,rfl⟩⟩
theorem Gm.keptLow {W W':World} {base B n:Nat} {f:Nat→List Int} {row:Option Nat} (h:Gm W base B n f) (hg:W.grownBy W' row) (hb:some B≠row) (hr:∀j,row=some j→j<base):Gm W' base B n f:=by
 obtain⟨D,h1,h2⟩:=h;exact⟨D,h1.kept hg hb (h1.rowsAbove hr),h2⟩
theorem wf_k {k:Nat} (h:k<1000):(Lit.int .i64 (k:Int)).wf=true:=WalkArith.wf_i64 (by omega)
theorem lits_inj {xs ys:List Int} (h:(ChangeShapes.lits (H:=Unit) .i64 xs)=ChangeShapes.lits .i64 ys):xs=ys:=by
 unfold ChangeShapes.lits at h;exact(List.map_inj_right (fun a b hab=>by simpa using hab)).1 h
theorem Gm.at {W:World} {base B n:Nat} {f:Nat→List Int} (h:Gm W base B n f) (hn:n<maxLen) {k:Nat} (hk:k<1000) :
  ∃v,(Instr.lookup 112 (.map (some B)) (.int .i64 (k:Int)) false).run Tryz.prog W = .ok v W∧W.ownsInts base 3 .i64 v (f k)∧(f k).length≤n ∧
   ∀w1 v' x,W.grownBy w1 v.ownBlock→w1.ownsInts base 3 .i64 v' (f k++[x])→(v'.ownBlock=v.ownBlock∨∃g,v'.ownBlock=some g∧W.heap.size≤g) →
    ∃w2,(Instr.mapUpdate 112 (.map (some B)) (.int .i64 (k:Int)) v').run Tryz.prog w1 = .ok () w2∧Gm w2 base B (n+1) (fun j=>if j=k then f k++[x]else f j)∧w1.grownBy w2 (some B):=by
 obtain⟨D,h1,h2⟩:=h;obtain⟨v,zs,hrun,hat,hoi,hzl,hback⟩:=h1.at key3 Tryz.underlying112 (zero_ints _) hn (keyOf_int_mk Tryz.underlying3 (wf_k hk))
 have e:f k=zs:=by
  rcases h2 k hk with ⟨a1,a2⟩|a1
  ·rw [a1]at hat
   rcases hoi.datum (H:=Unit)with ⟨b1,b2⟩|b1
   ·rw [a2,b2]
   ·rw [b1]at hat;cases hat
  ·rw [a1]at hat
   rcases hoi.datum (H:=Unit)with ⟨b1,b2⟩|b1
   ·rw [b1]at hat;cases hat
   ·rw [b1]at hat;exact lits_inj (by simpa using hat)
 subst e;refine⟨v,hrun,hoi,hzl,fun w1 v' x hg ho hl=>?_⟩;obtain⟨w2,r1,r2,r3⟩:=hback w1 v' _ hg ho (by simp;omega) hl;refine⟨w2,r1,⟨_,r2,fun j hj=>?_⟩,r3⟩
 have hD:IsMap D:=by
  obtain⟨es,clock,_,_,_,hD,_⟩:=h1;exact⟨_,hD⟩
 by_cases hjk:j=k
 ·subst hjk
  right
  dsimp only;rw [if_pos rfl,atKey_put_same hD (by first|trivial|exact True.intro|simp [WideAt.IsKeyLit])];exact ho.datum_pos (by simp)
 ·dsimp only
  rw [if_neg hjk,atKey_put_other (by simp;omega)];exact h2 j hj
theorem ownsInts_is {W:World} {base:Nat} {v:Value} {zs:List Int} (h:W.ownsInts base 3 .i64 v zs):OwnC 3 1 W base v (zs.map ic):=by
 refine⟨ic_len,?_⟩
 have e:(zs.map ic).flatten=zs.map (Value.int .i64):=by
  clear h
  induction zs with
  | nil=>rfl
  | cons z zs ih=>rw [List.map_cons,List.flatten_cons,ih];rfl
 rw [e,lL];exact h.1
end Go.Proofs.YtobbionccnkmgaaGreatDoor.Cop
namespace Go.Proofs.YtobbionccnkmgaaGreatDoor.Cop
open Go.RowKit Go.Shelf
theorem ixund_any (w:World) (v:Value) (zs:List Int) (b1:Nat) (f:Int→Bool) (h:IsIs w v zs)
  (hf9:∀W,Ext w W→∀z∈zs,Calls Tryz.prog 51 #[.int .i64 z,.pointer (some ⟨b1,0,none⟩)] W fun e w'=>e = .returned (.bool (f z))∧Ext W w') :
  Calls Tryz.prog 31 #[v,.func (.func 51) #[] #[.pointer (some ⟨b1,0,none⟩)]] w fun e w'=>e = .returned (.int .i64 (idxB f zs))∧Ext w w':=by
 obtain⟨a,c,rfl⟩:=h.form;obtain⟨n,hn⟩:∃n,zs.length=n:=⟨_,rfl⟩;rw [hn]at h ⊢;have hle:=h.le;unfold maxLen at hle;have hnc:n≤9223372036854775807:=by omega
 have Hn:=hd9 hn;have Hf9:=hd9 hf9;clear hn hle hf9;go_enter Tryz.func31,Tryz.ntmps31;go_wp2
 go_loopg [8] n (IiS w f zs)
 case atStart=>exact⟨0,by omega,rfl,by rw [Hn.out];rfl,Ext.refl _,fun j y hj=>by omega⟩
 case round =>
  obtain⟨i,hi,rfl,rfl,hx,hall⟩:=hrel;rw [Hn.out]at hi;have Hall:=hd9 hall;clear hall
  by_cases hlt:i<n
  ·obtain⟨z,hq⟩:∃q,zs[i]?=some q:=⟨zs[i]'(by rw [Hn.out];omega),by simp [Hn.out,hlt]⟩
   obtain⟨b,o,rfl,hb,d0⟩:=(h.ext' hx).at' hq;have Hq:=hd9 hq;have HC:=hd9 (fun W (hW:Ext wr W)=>Hf9.out W (hx.trans hW) z (lM hq));obtain⟨fz,hf⟩:∃x,f z=x:=⟨_,rfl⟩;rw [hf]at HC;have Hf:=hd9 hf;clear hq hf
   cases fz with
   | true =>
    have e:idxB f zs=(i:Int):=idxB_some Hq.out Hf.out Hall.out;have E:=hd9 e;clear e
    go_wp2_with(((go_at_call 51;(with_reducible refine(HC.out _ ?_).mono ?_);(focus((with_reducible repeat(first|assumption|exact eR _|refine eX ?_|refine eT ?_|refine eS ?_));done));rintro e w1 ⟨rfl,hx1⟩)))
    go_ret;exact⟨by rw [E.out];rfl,(by with_reducible repeat(first|assumption|exact eR _|refine eX ?_|refine eT ?_|refine eS ?_))⟩
   | false =>
    go_wp2_with(((go_at_call 51;(with_reducible refine(HC.out _ ?_).mono ?_);(focus((with_reducible repeat(first|assumption|exact eR _|refine eX ?_|refine eT ?_|refine eS ?_));done));rintro e w1 ⟨rfl,hx1⟩)))
    go_roundg (n-(i+1))
    case measure=>have:=Hn.out;omega
    case rel =>
     refine⟨i+1,by have:=Hn.out;omega,by go_num,by rw [Hn.out],(by with_reducible repeat(first|assumption|exact eR _|refine eX ?_|refine eT ?_|refine eS ?_)),fun j y hj hy=>?_⟩
     by_cases hji:j=i
     ·subst hji;rw [Hq.out]at hy;cases hy;exact Hf.out
     ·exact Hall.out j y (by omega) hy
  ·obtain rfl:i=n:=by omega
   have e:idxB f zs = -1:=idxB_none (fun j y hj hy=>Hall.out j y (by rw [Hn.out]at hj;exact hj) hy);have E:=hd9 e;clear e;go_wp2;go_ret;exact⟨by rw [E.out];rfl,hx⟩
theorem ctund_any (w:World) (v:Value) (zs:List Int) (b1:Nat) (f:Int→Bool) (h:IsIs w v zs)
  (hf9:∀W,Ext w W→∀z∈zs,Calls Tryz.prog 51 #[.int .i64 z,.pointer (some ⟨b1,0,none⟩)] W fun e w'=>e = .returned (.bool (f z))∧Ext W w') :
  Calls Tryz.prog 19 #[v,.func (.func 51) #[] #[.pointer (some ⟨b1,0,none⟩)]] w fun e w'=>e = .returned (.bool (zs.any f))∧Ext w w':=by
 rw [←idxB_any];obtain⟨x,hx⟩:∃x,idxB f zs=x:=⟨_,rfl⟩;have hc:=fun W (hW:Ext w W)=>ixund_any W v zs b1 f (h.ext' hW) (fun W' hW' z hz=>hf9 W' (hW.trans hW') z hz)
 obtain⟨a,n,c,rfl⟩:=form3 h;simp only [hx]at hc ⊢;have Hc:=hd9 hc;clear hc hx h hf9;go_enter Tryz.func19,Tryz.ntmps19
 go_wp2_with(((go_at_call 31;(with_reducible refine(Hc.out _ ?_).mono ?_);(focus((with_reducible repeat(first|assumption|exact eR _|refine eX ?_|refine eT ?_|refine eS ?_));done));rintro e w1 ⟨rfl,hx1⟩)))
 go_ret;exact⟨rfl,(by with_reducible repeat(first|assumption|exact eR _|refine eX ?_|refine eT ?_|refine eS ?_))⟩
end Go.Proofs.YtobbionccnkmgaaGreatDoor.Cop
namespace Go.Proofs.YtobbionccnkmgaaGreatDoor.Cop
open Go.RowKit Go.Shelf Go.Sort Go.Lib
def I0S (St:Nat→World→Prop) (_g:Nat) (t8:Value) (W:World):Prop:=t8 = .int .i64 0∧St 0 W
theorem ixgo_any (w:World) (v:Value) (js:List (JS×Value)) (b1 b2:Nat) (St:Nat→World→Prop) (hrow:∀k W,St k W→IsJs W v js) (h0:St 0 w) (hne:0<js.length)
  (hf:∀k W j,St k W→js[k]?=some j→Calls Tryz.prog 50 #[.agg (jca j),.pointer (some ⟨b1,0,none⟩),.pointer (some ⟨b2,0,none⟩)] W fun e w'=>e = .returned (.bool true)∧St (k+1) w') :
  Calls Tryz.prog 36 #[v,.func (.func 50) #[] #[.pointer (some ⟨b1,0,none⟩),.pointer (some ⟨b2,0,none⟩)]] w fun e w'=>e = .returned (.int .i64 0)∧St 1 w':=by
 have h:=hrow 0 w h0;obtain⟨a,c,rfl⟩:=h.form;obtain⟨n,hn⟩:∃n,js.length=n:=⟨_,rfl⟩;rw [hn]at h hne hrow ⊢;have hle:=h.le;unfold maxLen at hle;have hnc:n≤9223372036854775807:=by omega
 have Hn:=hd9 hn;have Hf:=hd9 hf;have Hrow:=hd9 hrow;have p1:(0:Int)<(n:Int):=by omega
 clear hn hle hf hrow h;go_enter Tryz.func36,Tryz.ntmps36;go_wp2
 go_loopg [8] 1 (I0S St)
 case atStart=>exact⟨rfl,h0⟩
 case round =>
  obtain⟨rfl,hS⟩:=hrel;obtain⟨⟨⟨⟨nm,sh,d,de,gx,gz,wy,ax,az,sk⟩,k,⟨xl,xh⟩,zl,zh⟩,v⟩,hq⟩:∃q,js[0]?=some q:=⟨js[0]'(by rw [Hn.out];omega),by simp⟩;obtain⟨b,o,rfl,hb,hc⟩:=(Hrow.out _ _ hS).at' hq;have HC:=hd9 (Hf.out 0 wr _ hS hq);unfold jca at hc HC;dsimp only at hc HC;have cc0:=hc 0 (.string nm) rfl;have cc1:=hc 1 v rfl;have cc2:=hc 2 (.int .i64 d) rfl;have cc3:=hc 3 (.int .i64 de) rfl;have cc4:=hc 4 (.int .i64 gx) rfl;have cc5:=hc 5 (.int .i64 gz) rfl;have cc6:=hc 6 (.int .i64 wy) rfl;have cc7:=hc 7 (.int .i64 ax) rfl;have cc8:=hc 8 (.int .i64 az) rfl;have cc9:=hc 9 (.int .u8 sk) rfl;have cc10:=hc 10 (.int .i64 k) rfl;have cc11:=hc 11 (.int .i64 xl) rfl;have cc12:=hc 12 (.int .i64 xh) rfl;have cc13:=hc 13 (.int .i64 zl) rfl;have cc14:=hc 14 (.int .i64 zh) rfl;simp only [Nat.add_zero,Nat.zero_mul]at cc0 cc1 cc2 cc3 cc4 cc5 cc6 cc7 cc8 cc9 cc10 cc11 cc12 cc13 cc14;clear hq hc hS h0
  go_wp2_with(((go_at_call 50;(with_reducible refine(HC.out).mono ?_);rintro e w1 ⟨rfl,hx1⟩)))
  go_ret;exact⟨rfl,hx1⟩
def DaS (St:Nat→World→Prop) (js:List (JS×Value)) (gk:Nat) (t5 t6:Value) (W:World):Prop:=
 ∃m:Nat,t5 = .int .i64 0∧t6 = .int .i64 (m:Int)∧gk=js.length-m∧1≤m∧m≤js.length∧St m W
theorem delgo_any (w:World) (v:Value) (base:Nat) (js:List (JS×Value)) (b1 b2:Nat) (St:Nat→World→Prop) (hrow:∀k W,St k W→OwnC 74 15 W base v (js.map jc)) (hext:∀k W W',St k W→Ext W W'→St k W') (h0:St 0 w) (hne:0<js.length) (hn9:js.length≤1000000)
  (hv:∀j∈js,∃a n c,j.2 = .slice a n c)
  (hf:∀k W j,St k W→js[k]?=some j→Calls Tryz.prog 50 #[.agg (jca j),.pointer (some ⟨b1,0,none⟩),.pointer (some ⟨b2,0,none⟩)] W fun e w'=>e = .returned (.bool true)∧St (k+1) w') :
  Calls Tryz.prog 21 #[v,.func (.func 50) #[] #[.pointer (some ⟨b1,0,none⟩),.pointer (some ⟨b2,0,none⟩)]] w
   fun e w'=>∃a c W1,e = .returned (.slice a 0 c)∧St js.length W1∧W1.grownBy w' v.ownBlock:=by
 have h:=hrow 0 w h0;have HI:=hd9 (ixgo_any w v js b1 b2 St (fun k W hW=>(hrow k W hW).js) h0 hne hf);obtain⟨a,n,c,rfl⟩:=h.form3;have hl:=h.len;rw [lL]at hl;subst hl;obtain⟨n,hn⟩:∃n,js.length=n:=⟨_,rfl⟩;rw [hn]at h HI hn9 hrow hne ⊢;have Hn:=hd9 hn;have Hf:=hd9 hf;have Hrow:=hd9 hrow;have Hext:=hd9 hext;obtain⟨g,rfl,hg1,hg2⟩:=h.blk (by rw [lL,Hn.out];omega)
 have hcap:n≤c∧c≤9223372036854775807:=by
  rcases h.2.2 with ⟨h9,_⟩|⟨g',cap,cur,hv,_,_,hnc,hcm,_⟩
  ·cases h9
  ·cases hv;rw [lL,Hn.out]at hnc;unfold maxLen at hcm;omega
 obtain⟨hcap1,hcap2⟩:=hcap;obtain⟨R,hR⟩:∃R:Ending→World→Prop,(fun e w'=>∃a c' W1,e = .returned (.slice a 0 c')∧St n W1∧W1.grownBy w' (Value.slice (some ⟨g,0,none⟩) n c).ownBlock)=R:=⟨_,rfl⟩;rw [hR];have HR:=hd9 hR;clear hn hf hrow hext h hR h0;go_enter Tryz.func21,Tryz.ntmps21
 go_wp2_with(go_at_call 36;(with_reducible refine(HI.out).mono ?_);rintro e w1 ⟨rfl,hx1⟩)
 go_loopg [5,6] (n-1) (DaS St js)
 case atStart=>exact⟨1,rfl,by go_num,by rw [Hn.out],Nat.le_refl _,by rw [Hn.out];omega,hx1⟩
 case round =>
  clear hx1;obtain⟨m,rfl,rfl,rfl,hm0,hm1,hS⟩:=hrel;rw [Hn.out]at hm1;have hown:=Hrow.out _ _ hS
  by_cases hlt:m<n
  ·obtain⟨⟨⟨⟨nm,sh,d,de,gx,gz,wy,ax,az,sk⟩,k,⟨xl,xh⟩,zl,zh⟩,v⟩,hq⟩:∃q,js[m]?=some q:=⟨js[m]'(by rw [Hn.out];omega),by simp⟩
   obtain⟨va,vn,vc,hvv⟩:=hv _ (lM hq);dsimp only at hvv;subst hvv;have cc0:=hown.cell (i:=m) (j:=0) (u:=.string nm) (by rw [lP,hq];rfl) rfl;have cc1:=hown.cell (i:=m) (j:=1) (u:=.slice va vn vc) (by rw [lP,hq];rfl) rfl;have cc2:=hown.cell (i:=m) (j:=2) (u:=.int .i64 d) (by rw [lP,hq];rfl) rfl;have cc3:=hown.cell (i:=m) (j:=3) (u:=.int .i64 de) (by rw [lP,hq];rfl) rfl;have cc4:=hown.cell (i:=m) (j:=4) (u:=.int .i64 gx) (by rw [lP,hq];rfl) rfl;have cc5:=hown.cell (i:=m) (j:=5) (u:=.int .i64 gz) (by rw [lP,hq];rfl) rfl;have cc6:=hown.cell (i:=m) (j:=6) (u:=.int .i64 wy) (by rw [lP,hq];rfl) rfl;have cc7:=hown.cell (i:=m) (j:=7) (u:=.int .i64 ax) (by rw [lP,hq];rfl) rfl;have cc8:=hown.cell (i:=m) (j:=8) (u:=.int .i64 az) (by rw [lP,hq];rfl) rfl;have cc9:=hown.cell (i:=m) (j:=9) (u:=.int .u8 sk) (by rw [lP,hq];rfl) rfl;have cc10:=hown.cell (i:=m) (j:=10) (u:=.int .i64 k) (by rw [lP,hq];rfl) rfl;have cc11:=hown.cell (i:=m) (j:=11) (u:=.int .i64 xl) (by rw [lP,hq];rfl) rfl;have cc12:=hown.cell (i:=m) (j:=12) (u:=.int .i64 xh) (by rw [lP,hq];rfl) rfl;have cc13:=hown.cell (i:=m) (j:=13) (u:=.int .i64 zl) (by rw [lP,hq];rfl) rfl;have cc14:=hown.cell (i:=m) (j:=14) (u:=.int .i64 zh) (by rw [lP,hq];rfl) rfl;simp only [Nat.add_zero]at cc0;have HC:=hd9 (fun W (hW:Ext wr W)=>Hf.out m W _ (Hext.out _ _ _ hS hW) hq);unfold jca at HC;dsimp only at HC;have zg:=(hown.lt g rfl).2;clear hq hown hS
   go_wp2_with(((go_at_call 50;(with_reducible refine(HC.out _ ?_).mono ?_);(focus((with_reducible repeat(first|assumption|exact eR _|refine eX ?_|refine eT ?_|refine eS ?_));done));rintro e w1 ⟨rfl,hx1⟩)))
   go_roundg (n-(m+1))
   case measure=>have:=Hn.out;omega
   case rel=>exact⟨m+1,rfl,by go_num,by rw [Hn.out],by omega,by rw [Hn.out];omega,hx1⟩
  ·obtain rfl:m=n:=by omega
   obtain⟨wc,hclr,hoc,hgc⟩:=run_clearC (P:=Tryz.prog) (t:=68) (z:=.agg js0) (w:=wr) (o:=0*15) (c2:=c-0) (fun w=>Tryz.zeroValue74 w) rfl (by simp [Value.cells,js0];decide) Tryz.underlying68 hown (by omega) rfl;have c3:(m:Int)≤(c:Int):=by omega
   have c5:0<c:=by omega
   have c6:(0:Int)<(c:Int):=by omega
   simp only [Nat.zero_mul,Nat.sub_zero]at hclr;go_wp2;rw [←HR.out];exact⟨_,_,wr,rfl,hS,hgc⟩
theorem IsJs.rdd {w:World} {v:Value} {js:List (JS×Value)} (h:IsJs w v js):Rd w 74 15 v (js.map jc).length (js.map jc).flatten:=by
 obtain⟨cs,h1,h2,h3,h4⟩:=h
 have e:cs=js.map jc:=by
  apply List.ext_getElem?
  intro i;rw [lP]
  cases hc:cs[i]? with
  | none =>
   rw [List.getElem?_eq_none_iff]at hc;rw [List.getElem?_eq_none (by omega)];rfl
  | some c =>
   have hi:=(lS.1 hc).1;have hj:js[i]?=some (js[i]'(by omega)):=List.getElem?_eq_getElem _;have:=h4 i c _ hc hj;rw [hj,Option.map_some,this]
 rw [←e,h1];exact h3
theorem own_empty (W:World) (T:TypeId) (k:Nat) (base:Nat) (h:base≤W.heap.size):OwnC T k (W.alloc (.cells #[] T)) base (.slice (some ⟨W.heap.size,0,none⟩) 0 0) []:=
 ⟨fun c hc=>by simp at hc,by simp,.inr ⟨W.heap.size,0,_,rfl,h,heap_alloc_new _ _,by simp,by unfold maxLen;omega,by simp,by simp⟩⟩
theorem clone_any (w:World) (v:Value) (js:List (JS×Value)) (h:IsJs w v js) (hne:0<js.length) (hv:∀j∈js,∃a n c,j.2 = .slice a n c) (hn9:js.length≤1000000) :
  Calls Tryz.prog 46 #[v] w fun e w'=>∃v',e = .returned v'∧OwnC 74 15 w' w.heap.size v' (js.map jc)∧Ext w w':=by
 have hrd:=h.rdd;obtain⟨a,c,rfl⟩:=h.form;obtain⟨b,o,rfl,hb,-⟩:=h.at' (i:=0) (j:=js[0]'hne) (List.getElem?_eq_getElem hne)
 have hl:∀c∈js.map jc,c.length=15:=fun c hc=>by
  obtain⟨j,_,rfl⟩:=List.mem_map.1 hc;simp [jc,jca]
 have h1:∀u∈(js.map jc).flatten,u.oneCell'=true:=fun u hu=>by
  obtain⟨l,hl,hu⟩:=List.mem_flatten.1 hu;obtain⟨j,hj,rfl⟩:=List.mem_map.1 hl;exact jc_one (hv j hj) u hu
 obtain⟨n,hn⟩:∃n,js.length=n:=⟨_,rfl⟩;rw [hn]at hrd hn9 ⊢;have hl9:([]:List (List Value)).length+(js.map jc).length≤100000000000:=by rw [lL,hn];simp;omega
 clear h hv;go_enter Tryz.func46,Tryz.ntmps46;have hrd2:Rd (w.alloc (.cells #[] 74)) 74 15 (.slice (some ⟨b,o,none⟩) n c) (js.map jc).length (js.map jc).flatten:=Rd.ext hrd ((Ext.refl w).alloc _);have hnl:=fun W=>Lib.run_eql_slice_nil (P:=Tryz.prog) W 68 74 (some ⟨b,o,none⟩) n c 0 0 Tryz.underlying68
 go_wp2_with(at_builtin;refine appS (T:=74) (t:=68) (z:=.agg js0) (k:=15) (bytes:=144) (base:=w.heap.size) (v:=.slice (some ⟨w.heap.size,0,none⟩) 0 0) (cs:=[]) info_js rfl (by decide) (by decide) Tryz.underlying68 rfl _ _ rfl rfl (own_empty w _ 15 w.heap.size (Nat.le_refl _)) rfl (js.map jc) hl hrd2 h1 hl9 (by simp) ?_;intro v' w1 hown hgrow hlie;obtain⟨a3,n3,c3,rfl⟩:=hown.form3)
 go_ret;refine⟨_,rfl,hown,?_⟩;exact gb_Ext ((Ext.refl w).alloc _) hgrow (Nat.le_refl _)
theorem cou1_any (w:World) (x:JS×Value) (b:Nat) (z:Int) (cs:Array Value) (hv:∃a n c,x.2 = .slice a n c) (hb:w.heap[b]?=some (.cells cs 126 (0,0))) (h0:cs[0]?=some (.int .i64 z)) :
  Calls Tryz.prog 49 #[.agg (jca x),.pointer (some ⟨b,0,none⟩)] w fun e w'=>e = .returned (.bool ((x.1.k:Int)==z))∧Ext w w':=by
 obtain⟨⟨⟨nm,sh,d,de,gx,gz,wy,ax,az,sk⟩,k,⟨xl,xh⟩,zl,zh⟩,v⟩:=x;obtain⟨va,vn,vc,rfl⟩:=hv;have c0:=qcB hb (i:=0) (u:=.int .i64 z) h0;have zb:=heap_lt hb;have zb1:b<w.heap.size+1:=by omega
 clear hb;unfold jca;dsimp only;go_enter Tryz.func49,Tryz.ntmps49;go_wp2;go_ret;exact⟨rfl,(by with_reducible repeat(first|assumption|exact eR _|refine eX ?_|refine eT ?_|refine eS ?_))⟩
end Go.Proofs.YtobbionccnkmgaaGreatDoor.Cop
namespace Go.Proofs.YtobbionccnkmgaaGreatDoor.Cop
open Go.RowKit Go.Shelf Go.Maps Go.Sort Go.Lib
attribute [local go_sem] Oper.semAt_some
theorem und1_any (w:World) (b g n:Nat) (os:List Int) (z:Int) (hb:w.heap[b]?=some (.cells #[.slice (some ⟨g,0,none⟩) n n] 57 (0,0))) (hos:IsIs w (.slice (some ⟨g,0,none⟩) n n) os) (h0:0≤z) (h1:z<n) :
  Calls Tryz.prog 51 #[.int .i64 z,.pointer (some ⟨b,0,none⟩)] w fun e w'=>e = .returned (.bool (os.getD z.toNat 0==0))∧Ext w w':=by
 have hl:=hos.len;obtain⟨i,rfl⟩:∃i:Nat,z=(i:Int):=⟨z.toNat,by omega⟩;obtain⟨y,hy⟩:∃y,os[i]?=some y:=⟨os[i]'(by omega),List.getElem?_eq_getElem _⟩;obtain⟨b',o',e,hb',d0⟩:=hos.at' hy
 cases e
 have c0:=qcB hb (i:=0) (u:=.slice (some ⟨g,0,none⟩) n n) rfl;have ey:os.getD ((i:Int)).toNat 0=y:=by rw [List.getD_eq_getElem?_getD,Int.toNat_natCast,hy];rfl
 rw [ey];have hi3:i<n:=by omega
 clear hos hl hy ey hb;simp only [Nat.zero_add]at d0;go_enter Tryz.func51,Tryz.ntmps51;go_wp2;go_ret;exact⟨rfl,Ext.refl _⟩
theorem OwnC.put1 {w:World} {base g n c i:Nat} {os:List Int} (h:OwnC 3 1 w base (.slice (some ⟨g,0,none⟩) n c) (os.map ic)) (hi:i<os.length) (z:Int) :
  OwnC 3 1 (w.setCell ⟨g,i,none⟩ (.int .i64 z)) base (.slice (some ⟨g,0,none⟩) n c) ((os.set i z).map ic):=by
 have h2:=OwnC.putAll (j:=0) (us:=[.int .i64 z]) h (i:=i) (d:=ic (os[i])) (by rw [lP,List.getElem?_eq_getElem hi];rfl) rfl;rw [List.map_set]
 simpa [setL,ic] using h2
theorem OwnC.frz {T:TypeId} {k:Nat} {w:World} {base g n c:Nat} {cs:List (List Value)} (h:OwnC T k w base (.slice (some ⟨g,0,none⟩) n c) cs):∃cur,w.heap[g]?=some (.cells cur T (0,0)):=by
 rcases h.2.2 with ⟨h9,_⟩|⟨g',cap,cur,hv,_,hh,_⟩
 ·cases h9
 ·cases hv;exact⟨cur,hh⟩
def topC (os:List Int) (L:List Int):Int:=L.foldl (fun o z=>max o (os.getD z.toNat 0)) 0
theorem topC_snoc (os L:List Int) (z:Int):topC os (L++[z])=max (topC os L) (os.getD z.toNat 0):=by unfold topC;rw [List.foldl_append];rfl
theorem topC_bd {os:List Int} (hb:∀v∈os,0≤v∧v≤1000) (L:List Int):0≤topC os L∧topC os L≤1000:=by
 unfold topC
 have:∀(L:List Int) (o:Int),0≤o∧o≤1000→0≤L.foldl (fun o z=>max o (os.getD z.toNat 0)) o∧L.foldl (fun o z=>max o (os.getD z.toNat 0)) o≤1000:=by
  intro L
  induction L with
  | nil=>intro o h;exact h
  | cons z L ih =>
   intro o h;refine ih _ ?_;dsimp only
   have hz:0≤os.getD z.toNat 0∧os.getD z.toNat 0≤1000:=by
    rw [List.getD_eq_getElem?_getD]
    cases h9:os[z.toNat]? with
    | none=>simp
    | some v=>exact hb v (lM h9)
   omega
 exact this L 0 (by decide)
def GoS (W2:World) (base' go n k:Nat) (os L:List Int) (gk:Nat) (t18:Value) (W:World):Prop:=
 ∃i:Nat,i≤L.length∧t18 = .int .i64 i∧gk=L.length-i∧W2.grownBy W (some go)∧OwnC 3 1 W base' (.slice (some ⟨go,0,none⟩) n n) ((os.set k (topC os (L.take i))).map ic)
theorem und2_any (w:World) (x:JS×Value) (b1 b2 B base base' N go n:Nat) (f:Nat→List Int) (os:List Int) (k:Nat) (hkn:x.1.k=(k:Int)) (hv:∃a n c,x.2 = .slice a n c)
  (hm:w.heap[b1]?=some (.cells #[.map (some B)] 112 (0,0))) (ho:w.heap[b2]?=some (.cells #[.slice (some ⟨go,0,none⟩) n n] 57 (0,0))) (hG:Gm w base B N f) (hN:N<1000000)
  (hos:OwnC 3 1 w base' (.slice (some ⟨go,0,none⟩) n n) (os.map ic)) (hgo:go<base) (hBg:B≠go) (hk:k<n) (hn:n≤120) (hob:∀v∈os,0≤v∧v≤1000) (hk0:os.getD k 0=0)
  (hf:∀z∈f k,0≤z∧z<n∧os.getD z.toNat 0≠0) (h12:b1≠go∧b2≠go) :
  Calls Tryz.prog 50 #[.agg (jca x),.pointer (some ⟨b1,0,none⟩),.pointer (some ⟨b2,0,none⟩)] w
   fun e w'=>e = .returned (.bool true)∧w.grownBy w' (some go)∧OwnC 3 1 w' base' (.slice (some ⟨go,0,none⟩) n n) ((os.set k (topC os (f k)+1)).map ic):=by
 obtain⟨⟨⟨nm,sh,d,de,gx,gz,wy,ax,az,sk⟩,kk,⟨xl,xh⟩,zl,zh⟩,v⟩:=x;obtain⟨va,vn,vc,rfl⟩:=hv;dsimp only at *;subst hkn;obtain⟨L,hL⟩:∃L,f k=L:=⟨_,rfl⟩;rw [hL]at hf ⊢;have hmf:∀(fn:Fn) (first cap:Array Value) (w:World),(Instr.makeFunc fn first cap).run Tryz.prog w = .ok (.func fn first cap) w:=fun _ _ _ _=>rfl
 have hol:=hos.len;rw [lL]at hol;have Hol:=hd9 hol.symm;clear hol;unfold jca;dsimp only;obtain⟨R,hR⟩:∃R:Ending→World→Prop,(fun e w'=>e = .returned (.bool true)∧w.grownBy w' (some go)∧OwnC 3 1 w' base' (.slice (some ⟨go,0,none⟩) n n) ((os.set k (topC os L+1)).map ic))=R:=⟨_,rfl⟩;rw [hR];have HR:=hd9 hR;have hA:w.grownBy (w.alloc (.cells #[.string nm,.slice va vn vc,.int .i64 d,.int .i64 de,.int .i64 gx,.int .i64 gz,.int .i64 wy,.int .i64 ax,.int .i64 az,.int .u8 sk,.int .i64 k,.int .i64 xl,.int .i64 xh,.int .i64 zl,.int .i64 zh] 74)) none:=World.grownBy_alloc _ _ _;obtain⟨v1,hrun1,hoi1,hzl1,-⟩:=(hG.keptLow hA (by simp) (fun j h=>by cases h)).at (by unfold maxLen;omega) (k:=k) (by omega);rw [hL]at hoi1 hzl1;have hC:=hd9 (fun(W:World) (hW:Ext w W) (b':Nat) (v:Value) (h:IsIs W v L)=>ctund_any W v L b2 (fun z=>os.getD z.toNat 0==0) h (fun W' hW' z hz=>und1_any W' b2 go n os z ((hW.trans hW').heapS ho) ((hos.ext (hW.trans hW')).is) (hf z hz).1 (hf z hz).2.1))
 have hany:(L.any fun z=>os.getD z.toNat 0==0)=false:=by
  rw [List.any_eq_false];intro z hz
  simpa using (hf z hz).2.2
 rw [hany]at hC;have m0:=qcB hm (i:=0) (u:=.map (some B)) rfl;have o0:=qcB ho (i:=0) (u:=.slice (some ⟨go,0,none⟩) n n) rfl;have zm:=heap_lt hm;have zo:=heap_lt ho;have zm1:b1<w.heap.size+1:=by omega
 have zo1:b2<w.heap.size+1:=by omega
 have HG:=hd9 hG;have Hos:=hd9 hos;have Hho:=hd9 ho;have Hhm:=hd9 hm;have HL:=hd9 hL;have Hf:=hd9 hf;have Hob:=hd9 hob;have Hk0:=hd9 hk0;have His1:=hd9 ((ownsInts_is hoi1).is);clear hG hos ho hm hL hf hR hany hob hoi1 hzl1 hk0;go_enter Tryz.func50,Tryz.ntmps50
 go_wp2_with(go_at_call 19;(with_reducible refine(hC.out _ ?_ b1 _ His1.out).mono ?_);(focus((with_reducible repeat(first|assumption|exact eR _|refine eX ?_|refine eT ?_|refine eS ?_));done));rintro e w2 ⟨rfl,hx2⟩;obtain⟨v2,hrun2,hoi2,hzl2,-⟩:=((HG.out.keptLow hA (by simp) (fun j h=>by cases h)).keptLow (gb_below (gb_refl _ none) (hx2.belowB (Nat.le_refl _))) (by simp) (fun j h=>by cases h)).at (by unfold maxLen;omega) (k:=k) (by omega);rw [HL.out]at hoi2 hzl2;obtain⟨la,ln,lc,rfl⟩:=(ownsInts_is hoi2).form3;obtain⟨hc2,hf2⟩:=hx2.cells;have z2:=hx2.size;simp only [wZ]at z2;have zm2:b1<w2.heap.size:=(by omega);have zo2:b2<w2.heap.size:=(by omega);have zb2:w.heap.size<w2.heap.size:=(by omega))
 have hg2:w.grownBy w2 (some go):=gb_below (gb_refl w (some go)) ((((Ext.refl w).alloc _).trans hx2).belowB (Nat.le_refl _));have X2:Ext w w2:=((Ext.refl w).alloc _).trans hx2;have K3:=hx2.heapS (heap_alloc_new w (.cells #[.string nm,.slice va vn vc,.int .i64 d,.int .i64 de,.int .i64 gx,.int .i64 gz,.int .i64 wy,.int .i64 ax,.int .i64 az,.int .u8 sk,.int .i64 k,.int .i64 xl,.int .i64 xh,.int .i64 zl,.int .i64 zh] 74));have Ho2:=hd9 (X2.heapS Hho.out);have Hos2:=hd9 (Hos.out.ext X2);have Hln:=hd9 (show ln=L.length by have:=(ownsInts_is hoi2).len;rw [lL]at this;exact this);have Hoi2:=hd9 hoi2;have HK3:=hd9 K3;have Hg2:=hd9 hg2;have hlnb:ln≤1000000:=by have:=Hln.out;omega
 have hbase:w.heap.size≠go:=by
  intro e;have:=(Hos.out.lt go rfl).2;omega
 clear hc2 hf2 hx2 X2 hA hoi2 K3 hg2 HG hC His1 hrun1 Hos Hho Hhm HL hzl2 m0 o0
 go_loopg [18] ln (GoS w2 base' go n k os L)
 case atStart =>
  refine⟨0,by omega,rfl,by rw [Hln.out];rfl,gb_refl _ _,?_⟩;rw [List.take_zero,show topC os []=0 from rfl]
  have e:os.set k 0=os:=by
   apply List.ext_getElem?
   intro j;rw [List.getElem?_set]
   split
   ·rename_i h
    subst h;have:=Hk0.out;rw [List.getD_eq_getElem?_getD]at this
    split
    ·rename_i h2
     rw [List.getElem?_eq_getElem h2]at this ⊢
     simpa using this.symm
    ·rw [List.getElem?_eq_none (by omega)]
   ·rfl
  rw [e];exact Hos2.out
 case round =>
  obtain⟨i,hi,rfl,rfl,hg,hown⟩:=hrel;rw [←Hln.out]at hi;have hsz:=hg.size;have hbox:=(hg.block w.heap.size (by omega) (by simp;omega)).trans HK3.out;have hobx:=(hg.block b2 (by omega) (by simp;omega)).trans Ho2.out;have c10:=qcB hbox (i:=10) (u:=.int .i64 k) rfl;have c0:=qcB hobx (i:=0) (u:=.slice (some ⟨go,0,none⟩) n n) rfl;obtain⟨cur,hcur⟩:=hown.frz;have hfz:=qfB hcur;obtain⟨mx,hmx⟩:∃m,topC os (L.take i)=m:=⟨_,rfl⟩;rw [hmx]at hown;have hmb:=topC_bd Hob.out (L.take i);rw [hmx]at hmb;have hkl:k<os.length:=by rw [Hol.out];exact hk
  have ck:=hown.cell (i:=k) (j:=0) (u:=.int .i64 mx) (by rw [lP,List.getElem?_set_self hkl];rfl) rfl;rw [Nat.mul_one,Nat.add_zero]at ck;have zgo:=(hown.lt go rfl).2;have Hown:=hd9 hown;have Hg:=hd9 hg;have Hmx:=hd9 hmx;have zr0:w.heap.size<wr.heap.size:=by omega
  have zr1:b2<wr.heap.size:=by omega
  have kn0:(0:Int)≤(k:Int):=by omega
  have kn1:(k:Int)<(n:Int):=by omega
  clear hbox hobx hcur hown hmx
  by_cases hlt:i<ln
  ·obtain⟨z,hz⟩:∃z,L[i]?=some z:=⟨L[i]'(by rw [←Hln.out];exact hlt),List.getElem?_eq_getElem _⟩
   obtain⟨z0,z1,z2'⟩:=Hf.out z (lM hz);obtain⟨zi,rfl⟩:∃zi:Nat,z=(zi:Int):=⟨z.toNat,by omega⟩;obtain⟨y,hy⟩:∃y,os[zi]?=some y:=⟨os[zi]'(by rw [Hol.out];omega),List.getElem?_eq_getElem _⟩;have hyd:os.getD zi 0=y:=by rw [List.getD_eq_getElem?_getD,hy];rfl
   rw [Int.toNat_natCast,hyd]at z2';have hzk:k≠zi:=by intro e;subst e;exact z2' (hyd.symm.trans Hk0.out)
   have hyb:=Hob.out y (lM hy);have his:=(ownsInts_is (Hoi2.out.kept hg (.inr (by intro e;have:=(Hoi2.out.1.lt _ e).1;omega)))).is;obtain⟨b',o',rfl,hb',d0⟩:=his.at' hz;have cz:=Hown.out.cell (i:=zi) (j:=0) (u:=.int .i64 y) (by rw [lP,List.getElem?_set_ne hzk,hy];rfl) rfl;rw [Nat.mul_one,Nat.add_zero]at cz;have Hst:=hd9 (show topC os (L.take (i+1))=max mx y by rw [take_add_one' _ _ _ hz,topC_snoc,Hmx.out,Int.toNat_natCast,hyd]);have zn1:zi<n:=by omega
   have ein:((zi:Int)).toNat=zi:=Int.toNat_natCast _;clear hz his hy hg z2' hyd;go_wp2;refine wp_region_HU (fun i=>decide (13<i)) (CellL [(⟨b2,0,none⟩,.slice (some ⟨go,0,none⟩) n n),(⟨w.heap.size,10,none⟩,.int .i64 k),(⟨go,k,none⟩,.int .i64 mx),(⟨go,zi,none⟩,.int .i64 y)]) (by kernel_rfl) ?_ (fun hHeld=>?_)
   ·refine⟨?_,?_,?_,?_,trivial⟩<;>go_simp
   refine sN 0 ?_
   iterate 12
    refine tun (m:=12) (by kernel_rfl) (by simp only [gA,gS,gZ];rfl) ?_;refine⟨?_,by rfl,by kernel_rfl,by kernel_rfl,by kernel_rfl,fun _ _ _ h=>h,Or.inl ⟨by rfl,?_⟩,by(with_reducible assumption),?_⟩;rotate_left 1
    ·(intro w hSw;simp only [CellL,and_true]at hSw;go_simp;try(with_reducible rfl))
    (try simp only [Act.put,sA,sZ,sS,Nat.reduceAdd])
   refine oN ?_;refine callHU (i:=12) (by simp only [gA,gS,gZ];rfl) ?_;refine⟨by kernel_rfl,fun K hK=>?_⟩;go_simp;refine hK.out _ _ (fun _=>hHeld) (fun hHeld=>?_);clear hK K
   (try simp only [Act.put,sA,sZ,sS])
   have hHeld:=hHeld rfl;refine takeHU (m:=12) (by kernel_rfl) (i:=13) (by simp only [gA,gS,gZ];rfl) ?_;refine⟨?_,by rfl,by kernel_rfl,by kernel_rfl,by kernel_rfl,fun _ _ _ h=>h,Or.inl ⟨by rfl,?_⟩,by(with_reducible assumption),?_⟩;rotate_left 1
   ·(intro w hSw;simp only [CellL,and_true]at hSw;go_simp;try(with_reducible rfl))
   (try simp only [Act.put,sA,sZ,sS])
   refine callHU (i:=14) (by simp only [gA,gS,gZ];rfl) ?_;refine⟨by kernel_rfl,fun K hK=>?_⟩;go_simp;refine hK.out _ _ (fun h=>nomatch h) (fun hHeld=>?_);clear hK K
   (try simp only [Act.put,sA,sZ,sS])
   refine doneHU (by kernel_rfl) ?_ _;clear hHeld;go_wp2
   go_roundg (ln-(i+1))
   case measure=>have:=Hln.out;omega
   case rel =>
    have h1:=Hown.out.put1 (i:=k) (by rw [List.length_set];exact hkl) (max mx y);rw [List.set_set]at h1;have h2:=gb_set Hg.out k (.int .i64 (max mx y));refine⟨i+1,by rw [←Hln.out];omega,by go_num,by rw [←Hln.out],gb_below h2 ((Ext.refl _).drew.belowB h2.size),?_⟩;rw [Hst.out];exact h1.ext (Ext.refl _).drew
  ·obtain rfl:i=ln:=by omega
   have hall:L.take i=L:=lT (by rw [←Hln.out];exact Nat.le_refl _);have Hmx2:=hd9 (show topC os L=mx by rw [←Hmx.out,hall]);have hw1:IntKind.i64.wrap (mx+1)=mx+1:=IntWalk.i64_in _ ⟨by omega,by omega⟩;have hw2:wrap64 (mx+1)=mx+1:=IntWalk.wrap64_in _ ⟨by omega,by omega⟩;clear hall;go_wp2;rw [←HR.out];have h1:=Hown.out.put1 (i:=k) (by rw [List.length_set];exact hkl) (mx+1);rw [List.set_set]at h1;exact⟨rfl,gb_set (Hg2.out.trans Hg.out) k (.int .i64 (mx+1)),by rw [Hmx2.out];exact h1⟩
end Go.Proofs.YtobbionccnkmgaaGreatDoor.Cop
