/- Part 27: contracts of what the law calls. -/
import Derived.Test.YtodpfeaihohpjaaGreatDoorCopA25
import Derived.Test.YtodpfeaihohpjaaGreatDoorCopA23
import Derived.Test.YtodpfeaihohpjaaGreatDoorCopA16
import Derived.Test.YtodpfeaihohpjaaGreatDoorCopA24
import Derived.Laws.StructEq
set_option maxRecDepth 1000000
set_option maxHeartbeats 16000000
set_option linter.unusedSimpArgs false
set_option linter.unusedVariables false
open Go.Value renaming slice→O,int→Y,bool→I,agg→J
open Go.IntKind renaming i64→Z
open Go renaming World→X,Value→V,Addr→E
open Option renaming none→M,some→N
namespace Go.Proofs.YtodpfeaihohpjaaGreatDoor.Cop
section
open Go.RowKit Go.Shelf Go.Sort Go.Lib
attribute [local go_sem] Oper.semAt_some
def OwnLn (w:X) (base:Nat) (v:V) (ts:List (List (Int×Int))):Prop:=∃cs,OwnC 99 1 w base v cs∧cs.length=ts.length∧∀(i:Nat) c t,cs[i]?=N c→ts[i]?=N t→PSl 99 w c t
theorem OwnLn.sl {w:X} {base:Nat} {v:V} {ts:List (List (Int×Int))} (h:OwnLn w base v ts):Sl 99 1 (PSl 99) w v ts:=by
 obtain⟨cs,h1,h2,h3⟩:=h;exact h1.sl h2 h3
theorem PSl.ext {w w':X} {c:List V} {t:List (Int×Int)} (h:PSl 99 w c t) (k:Ext w w'):PSl 99 w' c t:=by
 obtain⟨v,e,h⟩:=h;exact⟨v,e,h.ext' k⟩
theorem PSl.keep {w w':X} {c:List V} {t:List (Int×Int)} (h:PSl 99 w c t) (k:KeepT 33 w w'):PSl 99 w' c t:=by
 obtain⟨v,e,h⟩:=h;exact⟨v,e,h.keep' k⟩
theorem OwnLn.ext {w w':X} {base:Nat} {v:V} {ts:List (List (Int×Int))} (h:OwnLn w base v ts) (k:Ext w w'):OwnLn w' base v ts:=by
 obtain⟨cs,h1,h2,h3⟩:=h;exact⟨cs,h1.ext k,h2,fun i c p hc hp=>(h3 i c p hc hp).ext k⟩
theorem OwnLn.form3 {w:X} {base:Nat} {v:V} {ts:List (List (Int×Int))} (h:OwnLn w base v ts):∃a n c,v=O a n c:=by obtain⟨cs,h1,_⟩:=h;exact h1.form3
theorem OwnLn.lt {w:X} {base:Nat} {v:V} {ts:List (List (Int×Int))} (h:OwnLn w base v ts):∀j,v.ownBlock=N j→base≤j∧j<w.heap.size:=by obtain⟨cs,h1,_⟩:=h;exact h1.lt
theorem OwnLn.one {w:X} {a:Option E} {n c:Nat} {t:List (Int×Int)} (h:IsPts w (O a n c) t):OwnLn (w.alloc (.cells #[O a n c] 99)) w.heap.size (O (N ⟨w.heap.size,0,M⟩) 1 1) [t]:=by
 refine⟨[[O a n c]],⟨fun c hc=>by rw [List.mem_singleton.1 hc];rfl,⟨by simp,.inr ⟨w.heap.size,1,#[O a n c],rfl,nE _,aN w _,by simp,by simp [maxLen],by simp,by simp⟩⟩⟩,rfl,fun i d x hd hx=>?_⟩
 match i,hd,hx with
 | 0,hd,hx =>
  simp at hd hx;subst hd hx;exact⟨_,rfl,h.ext' ((eR w).alloc _)⟩
 | i+1,hd,_=>simp at hd
theorem OwnLn.app {wr w8:X} {base:Nat} {v':V} {ts:List (List (Int×Int))} {cs:List (List V)} {d:List V} {t:List (Int×Int)} (h:OwnC 99 1 w8 base v' (cs++[d])) (hcl:cs.length=ts.length)
  (hcp:∀(i:Nat) c p,cs[i]?=N c→ts[i]?=N p→PSl 99 wr c p) (hk:KeepT 33 wr w8) (hd:PSl 99 w8 d t):OwnLn w8 base v' (ts++[t]):=by
 refine⟨cs++[d],h,by simp [hcl],fun i c x hc hx=>?_⟩
 by_cases hi:i<cs.length
 ·rw [List.getElem?_append_left hi]at hc
  rw [List.getElem?_append_left (by omega)]at hx;exact(hcp i c x hc hx).keep hk
 ·rw [List.getElem?_append_right (by omega)]at hc hx
  have hl:=(lS.1 hc).1;simp at hl;have:i-cs.length=0:=by omega
  rw [this]at hc;rw [show i-ts.length=0 by omega]at hx;simp at hc hx;subst hc hx;exact hd
theorem zja:(Tryz.prog.info? 99).map (fun i=>(i.zero,i.size,i.bytes))=N (N (O M 0 0),1,24):=by kernel_rfl
theorem zkg {g:List (Int×Int)} {ps:List Pl} {p o:Pl} {i:Nat} (h:ps[i]?=N o):topsP g (ps.take (i+1)) p=topsP g (ps.take i) p++(if (meetB p o&&relP p o==3)=true then [upP2 o]else []):=by
 unfold topsP;rw [zab _ _ _ h,List.filter_append,List.map_append,List.cons_append]
 congr 2
 by_cases c:(meetB p o&&relP p o==3)=true
 ·rw [if_pos c]
  simp only [List.filter,c,List.map_cons,List.map_nil]
 ·rw [if_neg c]
  rw [Bool.not_eq_true]at c;simp only [List.filter,c,List.map_nil]
def DrS (wb:X) (g:List (Int×Int)) (ps:List Pl) (p:Pl) (gk:Nat) (t9 t51:V) (W:X):Prop:=
 ∃i:Nat,i≤ps.length∧t51=Y Z i∧gk=ps.length-i∧Ext wb W∧OwnLn W wb.heap.size t9 (topsP g (ps.take i) p)
theorem ziN (w:X) (vg vp v:V) (g:List (Int×Int)) (ps:List Pl) (p:Pl) (hg:IsPts w vg g) (hp:IsPls w vp ps) (hv:IsPts w v p.shape) (hk:0≤p.skin) (hgw:Gw w) (h0:laidP g ps=0) (hok:placedOk p=true)
  (e1:holdsB g p=true) (e2:ps.any (nameB p.name)=false) (e3:clearB g ps p=true) :
  Calls Tryz.prog 15 #[J #[vg,vp],J (plc p v)] w (RetDr w g ps p):=by
 obtain⟨hok1,_,hgr⟩:=zaH h0;have hgo:=zbl hgr;have HL:=hd9 (fun(W:X) (hW:Ext w W)=>ze8 (hg.ext' hW) (hp.ext' hW) (hgw.ext hW) h0);have HK:=hd9 (fun(W:X) (hW:Ext w W)=>zaz W p _ (hv.ext' hW) hk);rw [if_pos hok]at HK;have HO:=hd9 (fun(W:X) (hW:Ext w W)=>zaV W p _ (hv.ext' hW) hok (hgw.ext hW));have HH:=hd9 (fun(W:X) (hW:Ext w W) (vs:V) (hs:∃a n c,vs=O a n c) (vp:V) (h:IsLa W vp p)=>zdH W vg vs vp g p (hg.ext' hW) hs h hgo hok);have HN:=hd9 (fun(W:X) (hW:Ext w W) (vs:V) (hs:IsLas W vs ps)=>zbv W vg vs ps p.name (form3 hg) hs);have HC:=hd9 (fun(W:X) (hW:Ext w W) (vs:V) (hs:IsLas W vs ps) (vp:V) (h:IsLa W vp p)=>zdu W vg vs vp g ps p (hg.ext' hW) hs h hgo hok1 hok);have HRl:=hd9 (fun(W:X) (v1 v2:V) (o:Pl) (h1:IsLa W v1 p) (h2:IsLa W v2 o) (hm:o∈ps)=>zcY W v1 v2 p o h1 h2 hok (hok1 o hm));have HDp:=hd9 (And.intro h0 (And.intro hok (And.intro e1 e3)));have Hln:=hd9 (zam hok).1;have Hlo:=hd9 (fun o (hm:o∈ps)=>(zam (hok1 o hm)).2);have Hgo:=hd9 hgo;have Hv:=hd9 hv;have Hg:=hd9 hg
 have HE:Hid (dropE g ps p=0):=hd9 (by
  unfold dropE;rw [if_neg (fun h9=>h9 h0),if_neg (by rw [hok];decide),if_neg (by rw [e1];decide),if_neg (by rw [e2];decide),if_neg (by rw [e3];decide)])
 obtain⟨ga,gn,gc,rfl⟩:=form3 hg;obtain⟨pa,pn,pc1,rfl⟩:=form3 hp;obtain⟨sa,sn,sc1,rfl⟩:=form3 hv;obtain⟨R,hR⟩:=gX (RetDr w g ps p);rw [hR];have HR:=hd9 hR;rw [e1]at HH;rw [e2]at HN;rw [e3]at HC;clear h0 hok hg hp hv hk hgw hR hok1 hgr hgo e1 e2 e3;have Ep:p=p:=rfl;unfold plc at HK HO ⊢;unfold RetO lac at HO;go_enter Tryz.func15,Tryz.ntmps15
 go_upto_region 13 with (first|(go_at_call 44;(with_reducible refine(HL.out _ ?_).mono ?_);exact eA;rintro e w4 ⟨va,vn,vc,rfl,hvs,hx4⟩;obtain⟨hc4,hf4⟩:=hx4.cells;(have z4:=hx4.size);(simp only [wZ]at z4);(have z4a:w.heap.size+1<w4.heap.size:=by omega);(have z4b:w.heap.size+1<w4.heap.size+1:=by omega))|(go_at_call 45;(with_reducible refine(HK.out _ ?_).mono ?_);exact eA;rintro e w5 ⟨rfl,hx5⟩;obtain⟨hc5,hf5⟩:=hx5.cells;(have z5:=hx5.size);(simp only [wZ]at z5);(have z5a:w.heap.size+1<w5.heap.size:=by omega);(have z5b:w4.heap.size<w5.heap.size:=by omega))|(go_at_call 46;(with_reducible refine(HO.out _ ?_).mono ?_);exact eA;rintro e w6 ⟨vl,vu,rfl,hvl,hvu,hx6⟩;obtain⟨la1,ln1,lc1,rfl⟩:=form3 hvl;obtain⟨ua1,un1,uc1,rfl⟩:=form3 hvu;obtain⟨hc6,hf6⟩:=hx6.cells;(have z6:=hx6.size);(have z6a:w.heap.size+1<w6.heap.size:=by omega);(have z6b:w4.heap.size<w6.heap.size:=by omega);(have z6c:w4.heap.size<w6.heap.size+1:=by omega);(have z6d:w.heap.size+1<w6.heap.size+1:=by omega))|(go_at_call 47;(with_reducible refine(HH.out _ ?_ _ ?_ _ ?_).mono ?_);exact eA;(exact⟨_,_,_,rfl⟩);(exact⟨_,_,_,rfl,Ext.isPts (w:=w) Hv.out eA,hvl.ext' eA,hvu.ext' eA⟩);rintro e w7 ⟨rfl,hx7⟩;obtain⟨hc7,hf7⟩:=hx7.cells;(have z7:=hx7.size);(simp only [wZ]at z7);(have z7a:w.heap.size+1<w7.heap.size:=by omega);(have z7b:w4.heap.size<w7.heap.size:=by omega);(have z7c:w6.heap.size<w7.heap.size:=by omega))|(go_at_call 48;(with_reducible refine(HN.out _ ?_ _ ?_).mono ?_);exact eA;(exact hvs.ext' eA);rintro e w8 ⟨rfl,hx8⟩;obtain⟨hc8,hf8⟩:=hx8.cells;(have z8:=hx8.size);(have z8a:w.heap.size+1<w8.heap.size:=by omega);(have z8b:w4.heap.size<w8.heap.size:=by omega);(have z8c:w6.heap.size<w8.heap.size:=by omega))|(go_at_call 49;(with_reducible refine(HC.out _ ?_ _ ?_ _ ?_).mono ?_);exact eA;(exact hvs.ext' eA);(exact⟨_,_,_,rfl,Ext.isPts (w:=w) Hv.out eA,hvl.ext' eA,hvu.ext' eA⟩);rintro e w9 ⟨rfl,hx9⟩;obtain⟨hc9,hf9⟩:=hx9.cells;(have z9:=hx9.size)))
 have K6:w9.heap[w4.heap.size]?=N (.cells #[O ga gn gc,O va vn vc] 108 (0,0)):=
  Ext.heapS (a:=w4.alloc (.cells #[O ga gn gc,O va vn vc] 108)) eA (aN _ _)
 have K8:w9.heap[w6.heap.size]?=N (.cells #[.string p.name,O sa sn sc1,Y Z p.depth,Y Z p.density,Y Z p.gx,Y Z p.gz,Y Z p.way,Y Z p.ax,Y Z p.az,Y .u8 p.skin,O la1 ln1 lc1,O ua1 un1 uc1] 101 (0,0)):=
  Ext.heapS (a:=w6.alloc (.cells #[.string p.name,O sa sn sc1,Y Z p.depth,Y Z p.density,Y Z p.gx,Y Z p.gz,Y Z p.way,Y Z p.ax,Y Z p.az,Y .u8 p.skin,O la1 ln1 lc1,O ua1 un1 uc1] 101)) eA (aN _ _)
 have hvs9:IsLas w9 (O va vn vc) ps:=hvs.ext' eA;have hla9:IsLa w9 (J #[.string p.name,O sa sn sc1,Y Z p.depth,Y Z p.density,Y Z p.gx,Y Z p.gz,Y Z p.way,Y Z p.ax,Y Z p.az,Y .u8 p.skin,O la1 ln1 lc1,O ua1 un1 uc1]) p:=⟨_,_,_,rfl,Ext.isPts (w:=w) Hv.out eA,hvl.ext' eA,hvu.ext' eA⟩;have X9:Ext w w9:=eA;obtain⟨b6,hb6⟩:=gX w4.heap.size;obtain⟨b8,hb8⟩:=gX w6.heap.size;rw [hb6]at K6;rw [hb8]at K8;have y6:b6<w9.heap.size:=zaa K6;have y8:b8<w9.heap.size:=zaa K8;have HK6:=hd9 K6;have HK8:=hd9 K8;have H9:=hd9 X9;have HL9:=hd9 hvs9;have Hla:=hd9 hla9;have k60:=qcB K6 (i:=0) (u:=O ga gn gc) rfl;have k61:=qcB K6 (i:=1) (u:=O va vn vc) rfl;have hvn:vn=ps.length:=hvs9.len;have hvm:=hvs9.le;have Hn:=hd9 hvn;have hnc:vn≤9223372036854775807:=by rw [hvn];unfold maxLen at hvm;omega
 simp only [hb6,hb8];clear hc4 hf4 z4 z4a z4b hc5 hf5 z5 z5a z5b hc6 hf6 z6 z6a z6b z6c z6d hc7 hf7 z7 z7a z7b z7c hc8 hf8 z8 z8a z8b z8c hc9 hf9 z9 hx4 hx5 hx6 hx7 hx8 hx9 hvs hvl hvu hvs9 hla9 K6 K8 X9 hb6 hb8 hvn hvm HL HK HO HH HN HC Ep;go_wp2
 go_loopg [9,51] vn (DrS w9 g ps p)
 case atStart =>
  refine⟨0,Nat.zero_le _,rfl,by rw [Hn.out];rfl,(eR _).alloc _,?_⟩;exact OwnLn.one (Ext.isPts (w:=w) Hg.out H9.out)
 case round =>
  obtain⟨i,hi,rfl,rfl,hx,hown⟩:=hrel;rw [←Hn.out]at hi;have Hx:=hd9 hx;have Hown:=hd9 hown;obtain⟨xa,xn,xc,rfl⟩:=hown.form3;have K8:=hx.heapS HK8.out;have p0:=qcB K8 (i:=0) (u:=.string p.name) rfl;have p1:=qcB K8 (i:=1) (u:=O sa sn sc1) rfl;have p2:=qcB K8 (i:=2) (u:=Y Z p.depth) rfl;have p3:=qcB K8 (i:=3) (u:=Y Z p.density) rfl;have p4:=qcB K8 (i:=4) (u:=Y Z p.gx) rfl;have p5:=qcB K8 (i:=5) (u:=Y Z p.gz) rfl;have p6:=qcB K8 (i:=6) (u:=Y Z p.way) rfl;have p7:=qcB K8 (i:=7) (u:=Y Z p.ax) rfl;have p8:=qcB K8 (i:=8) (u:=Y Z p.az) rfl;have p9:=qcB K8 (i:=9) (u:=Y .u8 p.skin) rfl;have p10:=qcB K8 (i:=10) (u:=O la1 ln1 lc1) rfl;have p11:=qcB K8 (i:=11) (u:=O ua1 un1 uc1) rfl;have yw:b8<wr.heap.size:=zaa K8;have yx:=hx.size
  by_cases hlt:i<vn
  ·obtain⟨o,ho⟩:∃o,ps[i]?=N o:=⟨ps[i]'(by rw [←Hn.out];omega),by simp [←Hn.out,hlt]⟩
   obtain⟨b,q,s1,l1,u1,rfl,hb,d1,d2,d3,hc⟩:=(HL9.out.ext' hx).at' ho;have Hom:=hd9 (lM ho);have Ho:=hd9 ho;have Hd3:=hd9 d3;have HM:=hd9 (fun(W:X)=>zb9 W p o (O sa sn sc1) s1 ⟨_,_,_,rfl⟩ (form3 d1));have HR1:=hd9 (fun(W:X) (hW:Ext wr W)=>HRl.out W _ (J (lac o s1 l1 u1)) o (Hla.out.ext (Hx.out.trans hW)) ⟨_,_,_,rfl,d1.ext' hW,d2.ext' hW,d3.ext' hW⟩ Hom.out);obtain⟨sa1,sn1,sd1,rfl⟩:=form3 d1;obtain⟨ma1,mn1,mc1,rfl⟩:=form3 d2;obtain⟨va1,vn1,vd1,rfl⟩:=form3 d3;obtain⟨mb,f1⟩:=gX (meetB p o);obtain⟨rl,f2⟩:=gX (relP p o);have ht:topsP g (ps.take (i+1)) p=topsP g (ps.take i) p++(if (mb&&rl==3)=true then [upP2 o]else []):=by rw [zkg ho,f1,f2]
   have Ht:=hd9 ht;rw [f1]at HM;rw [f2]at HR1;unfold plc at HM;unfold lac at HR1;have cc0:=hc 0 (.string o.name) rfl;have cc1:=hc 1 (O sa1 sn1 sd1) rfl;have cc2:=hc 2 (Y Z o.depth) rfl;have cc3:=hc 3 (Y Z o.density) rfl;have cc4:=hc 4 (Y Z o.gx) rfl;have cc5:=hc 5 (Y Z o.gz) rfl;have cc6:=hc 6 (Y Z o.way) rfl;have cc7:=hc 7 (Y Z o.ax) rfl;have cc8:=hc 8 (Y Z o.az) rfl;have cc9:=hc 9 (Y .u8 o.skin) rfl;have cc10:=hc 10 (O ma1 mn1 mc1) rfl;have cc11:=hc 11 (O va1 vn1 vd1) rfl;simp only [Nat.add_zero]at cc0;clear hc ho d1 d2 d3 f1 f2 ht K8 hown hx
   cases mb with
   | false =>
    go_wp2_with(first|(go_at_call 50;(with_reducible refine(HM.out _).mono ?_);rintro e w11 ⟨rfl,hx11⟩;obtain⟨hc11,hf11⟩:=hx11.cells;(have z11:=hx11.size);(simp only [wZ]at z11);(have z11a:b8<w11.heap.size:=by omega);(have z11b:wr.heap.size<w11.heap.size:=by omega);(have z11c:b8<wr.heap.size+1:=by omega))|(go_at_call 42;(with_reducible refine(HR1.out _ ?_).mono ?_);exact eA;rintro e w12 ⟨rfl,hx12⟩;obtain⟨hc12,hf12⟩:=hx12.cells;(have z12:=hx12.size);(have z12a:wr.heap.size<w12.heap.size:=by omega)))
    go_roundg (ps.length-(i+1))
    case measure=>have:=Hn.out;omega
    case rel=>exact⟨i+1,by have:=Hn.out;omega,by go_num,rfl,Hx.out.trans eA,by rw [Ht.out,Bool.false_and,if_neg (by decide),List.append_nil];exact Hown.out.ext eA⟩
   | true =>
    by_cases h3:rl=3
    ·subst h3
     obtain⟨cs,hcs,hcl,hcp⟩:=Hown.out;have Hcs:=hd9 hcs;have Hcp:=hd9 hcp;have Hcl:=hd9 hcl
     have Hle:=hd9 (show cs.length+1≤100000000000 by
      rw [hcl];unfold topsP;have h8:=List.length_filter_le (fun o=>meetB p o&&relP p o==3) (ps.take i);rw [List.length_cons,lL];rw [List.length_take]at h8;omega)
     clear hcs hcp hcl
     go_wp2_with(first|(go_at_call 50;(with_reducible refine(HM.out _).mono ?_);rintro e w11 ⟨rfl,hx11⟩;obtain⟨hc11,hf11⟩:=hx11.cells;(have z11:=hx11.size);(simp only [wZ]at z11);(have z11a:b8<w11.heap.size:=by omega);(have z11b:wr.heap.size<w11.heap.size:=by omega);(have z11c:b8<wr.heap.size+1:=by omega))|(go_at_call 42;(with_reducible refine(HR1.out _ ?_).mono ?_);exact eA;rintro e w12 ⟨rfl,hx12⟩;obtain⟨hc12,hf12⟩:=hx12.cells;(have z12:=hx12.size);(have z12a:wr.heap.size<w12.heap.size:=by omega))|(at_builtin;refine appC (T:=99) (t:=115) (z:=O M 0 0) (k:=1) (bytes:=24) (base:=w9.heap.size) (v:=O xa xn xc) (cs:=cs) (m:=1) (c:=1) (ad:=⟨w12.heap.size,0,M⟩) zja rfl (by decide) (by decide) Tryz.underlying115 rfl _ _ rfl rfl (Hcs.out.ext eA) rfl [[O va1 vn1 vd1]] rfl (by simp) (by exact zca w12 #[O va1 vn1 vd1] 99) (by simp [Value.oneCell']) Hle.out (by simp only [wZ];omega) ?_;intro v' w13 hown13 hgrow hlie;obtain⟨a13,n13,c13,rfl⟩:=hown13.form3))
     go_roundg (ps.length-(i+1))
     case measure=>have:=Hn.out;omega
     case rel =>
      have hxA:Ext wr (w12.alloc (.cells #[O va1 vn1 vd1] 99)):=eA;have hO2:=Hcs.out.ext hxA;have hbw:=zad (base:=w9.heap.size) hgrow (by simp only [wZ];omega) (fun k hk=>(hO2.lt k hk).1);have hkt:=hO2.keepT (T':=33) (by decide) hgrow;refine⟨i+1,by have:=Hn.out;omega,by go_num,rfl,(Hx.out.trans hxA).thenB hbw (nE _),?_⟩;rw [Ht.out,if_pos (by decide)];exact OwnLn.app hown13 Hcl.out Hcp.out (hxA.keep.trans hkt) ⟨_,rfl,(Hd3.out.ext' hxA).keep' hkt⟩
    ·have h3b:(rl==3)=false:=by simpa using h3
     go_wp2_with(first|(go_at_call 50;(with_reducible refine(HM.out _).mono ?_);rintro e w11 ⟨rfl,hx11⟩;obtain⟨hc11,hf11⟩:=hx11.cells;(have z11:=hx11.size);(simp only [wZ]at z11);(have z11a:b8<w11.heap.size:=by omega);(have z11b:wr.heap.size<w11.heap.size:=by omega);(have z11c:b8<wr.heap.size+1:=by omega))|(go_at_call 42;(with_reducible refine(HR1.out _ ?_).mono ?_);exact eA;rintro e w12 ⟨rfl,hx12⟩;obtain⟨hc12,hf12⟩:=hx12.cells;(have z12:=hx12.size);(have z12a:wr.heap.size<w12.heap.size:=by omega)))
     go_roundg (ps.length-(i+1))
     case measure=>have:=Hn.out;omega
     case rel=>exact⟨i+1,by have:=Hn.out;omega,by go_num,rfl,Hx.out.trans eA,by rw [Ht.out,Bool.true_and,h3b,if_neg (by decide),List.append_nil];exact Hown.out.ext eA⟩
  ·obtain rfl:i=vn:=by omega
   have e:ps.take i=ps:=lT (by rw [←Hn.out];exact nE _);rw [e]at Hown;obtain⟨D0,D1,D2,D3⟩:=HDp.out;obtain⟨q1,q2,q3⟩:=ziM D0 D1 D2 D3
   have HB:=hd9 (fun(W:X) (hW:Ext wr W)=>zjl W (O xa xn xc) b8 (O la1 ln1 lc1) (lowP2 p) (topsP g ps p) ((Hown.out.ext hW).sl) (hW.cellS p10) (by
    obtain⟨s9,l9,u9,e9,_,h9,_⟩:=Hla.out;unfold lac at e9
    cases e9
    exact h9.ext' (Hx.out.trans hW)) Hln.out (fun t ht=>by
     unfold topsP at ht
     rcases List.mem_cons.1 ht with e8|ht
     ·rw [e8];exact Hgo.out
     ·obtain⟨o,ho,rfl⟩:=List.mem_map.1 ht
      exact Hlo.out o (List.mem_filter.1 ho).1))
   have hrb:Rb 23 (dropR g ps p):=Rb.minG fun t ht=>Rb.gapT Hln.out (by
     unfold topsP at ht
     rcases List.mem_cons.1 ht with e8|ht
     ·rw [e8];exact Hgo.out
     ·obtain⟨o,ho,rfl⟩:=List.mem_map.1 ht
      exact Hlo.out o (List.mem_filter.1 ho).1)
   rw [show minG (gapT (lowP2 p)) (topsP g ps p)=dropR g ps p from rfl]at HB;have HF:=hd9 (fun(W:X) (v:V) (hv:IsR W v (dropR g ps p))=>zh5 W v (dropR g ps p) hv (hrb.mono (by decide)) (Rat.num_nonneg.2 q1));rw [show (dropR g ps p).floor=dropP g ps p from rfl]at HF;have HI:=hd9 (fun(W:X) (v:V) (hv:IsZ W v (dropP g ps p))=>zls W v (dropP g ps p) hv q2 (by omega));have hz:IsR w9 (J #[]) 0∨True:=.inr trivial;clear D0 D1 D2 D3 q1 hrb hz HDp Hown HRl Hlo Hgo Hln;obtain⟨dn,hdn⟩:=gX (dropP g ps p);rw [hdn]at HF HI q2 q3;have Hdn:=hd9 hdn;clear hdn;have hw9:IntKind.i64.wrap dn=dn:=iW _ (by omega)
   go_wp2_with(first|(go_at_call 51;(with_reducible refine(HB.out _ ?_).mono ?_);exact eA;rintro e w14 ⟨ba,bn,bc,r,rfl,hr,hx14⟩;obtain⟨a4,m4,c4,s4,b4,n4,k4,rfl⟩:=hr.form;obtain⟨hc14,hf14⟩:=hx14.cells)|(go_at_call 55;(with_reducible refine(HF.out _ _ (hr.ext ?_)).mono ?_);exact eA;rintro e w15 ⟨r5,rfl,hr5,hx15⟩;obtain⟨a5,m5,c5,s5,rfl⟩:=hr5.form;obtain⟨hc15,hf15⟩:=hx15.cells)|(go_at_call 56;(with_reducible refine(HI.out _ _ (hr5.ext ?_)).mono ?_);exact eA;rintro e w16 ⟨rfl,hx16⟩))
   rw [←HR.out];have X16:Ext wr w16:=eA;exact⟨by rw [HE.out,if_pos rfl,Hdn.out];rfl,(H9.out.trans Hx.out).trans X16⟩
theorem zeU (w:X) (vg vp v:V) (g:List (Int×Int)) (ps:List Pl) (p:Pl) (hg:IsPts w vg g) (hp:IsPls w vp ps) (hv:IsPts w v p.shape) (hk:0≤p.skin) (hgw:Gw w) :
  Calls Tryz.prog 15 #[J #[vg,vp],J (plc p v)] w (RetDr w g ps p):=by
 by_cases h0:laidP g ps=0
 ·cases h1:placedOk p with
  | false=>exact zfu w vg vp v g ps p hg hp hv hk hgw (.inr h1)
  | true =>
   cases h2:holdsB g p with
   | false=>exact zdA w vg vp v g ps p hg hp hv hk hgw h0 h1 (.inl h2)
   | true =>
    cases h3:ps.any (nameB p.name)with
    | true=>exact zdA w vg vp v g ps p hg hp hv hk hgw h0 h1 (.inr (.inl h3))
    | false =>
     cases h4:clearB g ps p with
     | false=>exact zdA w vg vp v g ps p hg hp hv hk hgw h0 h1 (.inr (.inr h4))
     | true=>exact ziN w vg vp v g ps p hg hp hv hk hgw h0 h1 h2 h3 h4
 ·exact zfu w vg vp v g ps p hg hp hv hk hgw (.inl h0)
end
section
open Go.RowKit Go.Shelf Go.Sort Go.Lib
def rvc (a:Option E) (m c:Nat) (s:Bool) (a2:Option E) (m2 c2:Nat):Array V:=#[O a m c,I s,O a2 m2 c2]
theorem zcW {w:X} {base:Nat} {a:Option E} {n c:Nat} {bs:List Be} (h:OwnBe w base (O a n c) bs):n=bs.length:=by
 obtain⟨cs,h1,h2,_⟩:=h;rw [h1.len,h2]
theorem zhd {w:X} {base:Nat} {a:Option E} {n c:Nat} {bs:List Be} (h:OwnBe w base (O a n c) bs) {k:Nat} {b:Be} (hb:bs[k]?=N b) :
  ∃g a1 m1 c1 s1 b1 n1 d1 a2 m2 c2 s2 b2 n2 d2 a3 m3 c3 s3 b3 n3 d3 a4 m4 c4 s4 b4 n4 d4,a=N ⟨g,0,M⟩∧base≤g∧g<w.heap.size ∧
   CellL [(⟨g,k*17,M⟩,Y Z b.num),(⟨g,k*17+1,M⟩,O a1 m1 c1),(⟨g,k*17+2,M⟩,I s1),(⟨g,k*17+3,M⟩,O b1 n1 d1),(⟨g,k*17+4,M⟩,O a2 m2 c2),(⟨g,k*17+5,M⟩,I s2),(⟨g,k*17+6,M⟩,O b2 n2 d2),
    (⟨g,k*17+7,M⟩,O a3 m3 c3),(⟨g,k*17+8,M⟩,I s3),(⟨g,k*17+9,M⟩,O b3 n3 d3),(⟨g,k*17+10,M⟩,O a4 m4 c4),(⟨g,k*17+11,M⟩,I s4),(⟨g,k*17+12,M⟩,O b4 n4 d4),
    (⟨g,k*17+13,M⟩,Y Z b.d1.1),(⟨g,k*17+14,M⟩,Y Z b.d1.2),(⟨g,k*17+15,M⟩,Y Z b.d2.1),(⟨g,k*17+16,M⟩,Y Z b.d2.2)] w ∧
   IsR w (J #[O a1 m1 c1,I s1,O b1 n1 d1]) b.fx∧IsR w (J #[O a2 m2 c2,I s2,O b2 n2 d2]) b.fz∧IsR w (J #[O a3 m3 c3,I s3,O b3 n3 d3]) b.tx∧IsR w (J #[O a4 m4 c4,I s4,O b4 n4 d4]) b.tz:=by
 obtain⟨cs,h1,h2,h3⟩:=h;have hk:=(lS.1 hb).1;obtain⟨c,hc⟩:∃c,cs[k]?=N c:=⟨_,gE (by omega)⟩;obtain⟨f,t,e,⟨a1,m1,c1,s1,b1,n1,d1,a2,m2,c2,s2,b2,n2,d2,e1,r1,r2⟩,⟨a3,m3,c3,s3,b3,n3,d3,a4,m4,c4,s4,b4,n4,d4,e2,r3,r4⟩⟩:=h3 k c b hc hb
 obtain rfl:f=[O a1 m1 c1,I s1,O b1 n1 d1,O a2 m2 c2,I s2,O b2 n2 d2]:=by
  have:=congrArg Array.toList (Value.agg.inj e1)
  simpa using this
 obtain rfl:t=[O a3 m3 c3,I s3,O b3 n3 d3,O a4 m4 c4,I s4,O b4 n4 d4]:=by
  have:=congrArg Array.toList (Value.agg.inj e2)
  simpa using this
 subst e;obtain⟨g,rfl,hg1,hg2⟩:=h1.blk (by omega);refine⟨g,a1,m1,c1,s1,b1,n1,d1,a2,m2,c2,s2,b2,n2,d2,a3,m3,c3,s3,b3,n3,d3,a4,m4,c4,s4,b4,n4,d4,rfl,hg1,hg2,⟨?_,?_,?_,?_,?_,?_,?_,?_,?_,?_,?_,?_,?_,?_,?_,?_,?_,trivial⟩,r1,r2,r3,r4⟩
 ·exact h1.cell (j:=0) hc rfl
 ·exact h1.cell (j:=1) hc rfl
 ·exact h1.cell (j:=2) hc rfl
 ·exact h1.cell (j:=3) hc rfl
 ·exact h1.cell (j:=4) hc rfl
 ·exact h1.cell (j:=5) hc rfl
 ·exact h1.cell (j:=6) hc rfl
 ·exact h1.cell (j:=7) hc rfl
 ·exact h1.cell (j:=8) hc rfl
 ·exact h1.cell (j:=9) hc rfl
 ·exact h1.cell (j:=10) hc rfl
 ·exact h1.cell (j:=11) hc rfl
 ·exact h1.cell (j:=12) hc rfl
 ·exact h1.cell (j:=13) hc rfl
 ·exact h1.cell (j:=14) hc rfl
 ·exact h1.cell (j:=15) hc rfl
 ·exact h1.cell (j:=16) hc rfl
theorem zl2 (w:X) (vg vp:V) (hg:IsPts w vg exG) (hp:IsPls w vp ex3) (hgw:Gw w) :
  Calls Tryz.prog 16 #[J #[vg,vp],Y Z 2,Y Z 0] w (RetBs w [⟨0,100,80,200,80,(1,0),(1,0)⟩,⟨1,200,80,300,80,(1,0),(1,0)⟩]):=by
 have h:=zcP w vg vp exG ex3 2 exC 0 hg hp hgw ze2 rfl (by omega) (by omega) (zaH ze2).2.2 (zaH ze2).1 (by decide);rw [show ex3.length+1=4 from rfl,zlX]at h;exact h
theorem zl4 (w:X) (vg vp v:V) (hg:IsPts w vg exG) (hp:IsPls w vp ex3) (hv:IsPts w v brickS) (hgw:Gw w) :
  Calls Tryz.prog 15 #[J #[vg,vp],J (plc exD v)] w fun e w'=>e = .returned (.tuple #[Y Z 140,Y Z 0])∧Ext w w':=by
 refine(zeU w vg vp v exG ex3 exD hg hp hv (by decide) hgw).mono ?_;rintro e w' ⟨rfl,hx⟩
 have h:dropE exG ex3 exD=0:=by
  unfold dropE ex3;rw [show laidP exG [exA,exB,exC]=0 from ze2,if_neg (by decide),if_neg (by rw [zm4];decide)];simp only [holdsB,clearB,clashB,List.any_cons,List.any_nil,relP,freeB,leastR,stopsR,stopsZ,zcy,zdP,zdQ,ze9,zjo,zhq,zhr,zhs,zlQ]
  decide +kernel
 rw [h,if_pos rfl,zlZ];exact⟨rfl,hx⟩
theorem zmT (w:X) (v1 v2:V) (h1:IsPts w v1 brickS) (h2:IsPts w v2 brickS) (hgw:Gw w) :
  Calls Tryz.prog 12 #[J (plc exA v1),J (plc exB v2)] w fun e w'=>e = .returned (.tuple #[Y .u8 1,Y Z 0])∧Ext w w':=by
 refine(zhB w v1 v2 exA exB h1 h2 (by decide) (by decide) hgw).mono ?_;rintro e w' ⟨rfl,hx⟩;unfold relK relE;rw [if_pos ⟨zlI,zlJ⟩,if_pos ⟨zlI,zlJ⟩,zm8];exact⟨rfl,hx⟩
theorem zhl {n:Int} (h:Bd 1000 n):Rb limT (n:Rat):=(zaL h (by decide)).mono (by decide)
theorem zl5 (w:X) (a:Option E) (m c:Nat) (s:Bool) (a2:Option E) (m2 c2:Nat) (b:Option E) (n d:Nat) (t:Bool) (b2:Option E) (n2 d2:Nat) (h1:IsR w (J #[O a m c,I s,O a2 m2 c2]) 100) (h2:IsR w (J #[O b n d,I t,O b2 n2 d2]) 80) :
  Calls Tryz.prog 37 #[J #[O a m c,I s,O a2 m2 c2,O b n d,I t,O b2 n2 d2]] w fun e w'=>e = .returned (.string ⟨#[40,49,48,48,44,32,56,48,41]⟩)∧Ext w w':=by
 have:=zf7 w _ _ 100 80 h1 h2 (zhl (n:=100) (by unfold Bd;omega)) (zhl (n:=80) (by unfold Bd;omega)) _ ⟨a,m,c,s,a2,m2,c2,b,n,d,t,b2,n2,d2,rfl,rfl,rfl⟩;rw [zmA]at this;exact this
theorem zlj:textV 200 80=[40,50,48,48,44,32,56,48,41]:=by decide +kernel
theorem zgV (w:X) (a:Option E) (m c:Nat) (s:Bool) (a2:Option E) (m2 c2:Nat) (b:Option E) (n d:Nat) (t:Bool) (b2:Option E) (n2 d2:Nat) (h1:IsR w (J #[O a m c,I s,O a2 m2 c2]) 200) (h2:IsR w (J #[O b n d,I t,O b2 n2 d2]) 80) :
  Calls Tryz.prog 37 #[J #[O a m c,I s,O a2 m2 c2,O b n d,I t,O b2 n2 d2]] w fun e w'=>e = .returned (.string ⟨#[40,50,48,48,44,32,56,48,41]⟩)∧Ext w w':=by
 have:=zf7 w _ _ 200 80 h1 h2 (zhl (n:=200) (by unfold Bd;omega)) (zhl (n:=80) (by unfold Bd;omega)) _ ⟨a,m,c,s,a2,m2,c2,b,n,d,t,b2,n2,d2,rfl,rfl,rfl⟩;rw [zlj]at this;exact this
end
end Go.Proofs.YtodpfeaihohpjaaGreatDoor.Cop
