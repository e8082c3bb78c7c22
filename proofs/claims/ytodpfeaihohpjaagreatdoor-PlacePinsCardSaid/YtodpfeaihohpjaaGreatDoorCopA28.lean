/- Part 29: contracts of what the law calls. -/
import Derived.Test.YtodpfeaihohpjaaGreatDoorCopA25
import Derived.Test.YtodpfeaihohpjaaGreatDoorCopA27
set_option maxRecDepth 1000000
set_option maxHeartbeats 16000000
set_option linter.unusedSimpArgs false
set_option linter.unusedVariables false
open Go.Value renaming slice→O,bool→Z,int→X
open Option renaming none→Y,some→C
open Go.IntKind renaming i64→I
open Go renaming World→M,Value→N,Addr→F
open Go.Obj renaming cells→E
namespace Go.Proofs.YtodpfeaihohpjaaGreatDoor.Cop
section
open Go.RowKit Go.Shelf Go.Sort Go.Lib
attribute [local go_sem] Oper.semAt_some
def RetSd (w:M) (p q:Rat) (e:Ending) (w':M):Prop:=∃r s,e = .returned (.tuple #[r,s,X I 0])∧IsR w' r p∧IsR w' s q∧Ext w w'
theorem zfY (w:M) (v vx:N) (p:Pl) (x:Rat) (hv:IsPts w v p.shape) (hx:IsR w vx x) (hb:Rb 1000 x) (hk:0≤p.skin) (hgw:Gw w) (hok:placedOk p=true) (x0:((lineL (lowP2 p):Int):Rat)≤x) (x1:x≤((lineR (lowP2 p):Int):Rat)) :
  Calls Tryz.prog 18 #[.agg (plc p v),vx] w (RetSd w (atR (lowP2 p) x) (atR (upP2 p) x)):=by
 obtain⟨o1,o2⟩:=zam hok;have l1:=ze7 o1;have HK:=hd9 (fun(W:M) (hW:Ext w W)=>zaz W p _ (hv.ext' hW) hk);rw [if_pos hok]at HK;have HO:=hd9 (fun(W:M) (hW:Ext w W)=>zaV W p _ (hv.ext' hW) hok (hgw.ext hW));have HA:=hd9 (fun(W:M) (vl:N) (hl:IsPts W vl (lowP2 p))=>zbr W vl (lowP2 p) hl (List.length_pos_iff.2 o1.1));have HB:=hd9 (fun(W:M) (vl:N) (hl:IsPts W vl (lowP2 p))=>zbn W vl (lowP2 p) hl (List.length_pos_iff.2 o1.1));have HC:=hd9 (fun(W:M) (hW:Ext w W) (z:Int) (hz:Bd 104000 z) (v2:N) (h2:IsR W v2 (z:Rat))=>zao W vx v2 x (z:Rat) (hx.ext hW) h2 (hb.mono (by decide)) (zai (zaL hz) (by decide)));have HL:=hd9 (fun(W:M) (hW:Ext w W) (vl:N) (hl:IsPts W vl (lowP2 p))=>zdL W vl vx (lowP2 p) x hl o1 (hx.ext hW) hb);have HU:=hd9 (fun(W:M) (hW:Ext w W) (vl:N) (hl:IsPts W vl (upP2 p))=>zdL W vl vx (upP2 p) x hl o2 (hx.ext hW) hb)
 have c1:¬rcmp x ((lineL (lowP2 p):Int):Rat)<0:=fun h=>by
  have:=(zbx _ _).1 h
  grind
 have c2:¬0<rcmp x ((lineR (lowP2 p):Int):Rat):=fun h=>by
  have:=(zcl _ _).1 h
  grind
 obtain⟨sa,sn,sc1,rfl⟩:=form3 hv;obtain⟨xa,xm,xc,xs,xa2,xm2,xc2,rfl⟩:=hx.form;obtain⟨R,hR⟩:=gX (RetSd w (atR (lowP2 p) x) (atR (upP2 p) x));rw [hR];have HR:=hd9 hR;obtain⟨lo,elo⟩:=gX (lineL (lowP2 p));obtain⟨hi,ehi⟩:=gX (lineR (lowP2 p));rw [elo,ehi]at l1;rw [elo]at c1 HA;rw [ehi]at c2 HB;obtain⟨k1,e1⟩:=gX (rcmp x (lo:Rat));obtain⟨k2,e2⟩:=gX (rcmp x (hi:Rat));rw [e1]at c1;rw [e2]at c2;have HC1:=hd9 (fun(W:M) (hW:Ext w W) (v2:N) (h2:IsR W v2 (lo:Rat))=>HC.out W hW lo l1.1 v2 h2);have HC2:=hd9 (fun(W:M) (hW:Ext w W) (v2:N) (h2:IsR W v2 (hi:Rat))=>HC.out W hW hi l1.2 v2 h2);rw [e1]at HC1;rw [e2]at HC2;have HP1:=hd9 (fun(W:M)=>zaI W lo (by have:=l1.1;unfold Bd at this;omega) (by have:=l1.1;unfold Bd at this;omega));have HP2:=hd9 (fun(W:M)=>zaI W hi (by have:=l1.2;unfold Bd at this;omega) (by have:=l1.2;unfold Bd at this;omega));clear HC e1 e2 elo ehi hR hv hx hb hk hgw hok x0 x1 o1 o2 l1;unfold plc at HK HO ⊢;unfold RetO lac at HO;go_enter Tryz.func18,Tryz.ntmps18
 go_upto_region 5 with (first|(go_at_call 45;(with_reducible refine(HK.out _ ?_).mono ?_);exact eA;rintro e w5 ⟨rfl,hx5⟩;obtain⟨hc5,hf5⟩:=hx5.cells;(have z5:=hx5.size);(simp only [wZ]at z5);(have z5a:w.heap.size<w5.heap.size:=by omega);(have z5b:w.heap.size+1<w5.heap.size:=by omega))|(go_at_call 46;(with_reducible refine(HO.out _ ?_).mono ?_);exact eA;rintro e w6 ⟨vl,vu,rfl,hvl,hvu,hx6⟩;obtain⟨la1,ln1,lc1,rfl⟩:=form3 hvl;obtain⟨ua1,un1,uc1,rfl⟩:=form3 hvu;obtain⟨hc6,hf6⟩:=hx6.cells;(have z6:=hx6.size);(have z6a:w.heap.size+1<w6.heap.size:=by omega)))
 have zq:w.heap.size+1+1+1+1≤w5.heap.size:=z5;have zr:=hx6.size;have H2:RB w6 (w.heap.size+1+1) 0:=((RB.new (IsR.zero _) (by simp)).ext ((eR _).alloc _)).ext (hx5.trans hx6);have H3:RB w6 (w.heap.size+1+1+1) 0:=(RB.new (IsR.zero _) (by simp)).ext (hx5.trans hx6);have X6:Ext w w6:=eA;have zt:w.heap.size+1<w6.heap.size+1:=by omega
 have zu:w.heap.size+1<w.heap.size+1+1+1+1:=by omega
 have zu2:w.heap.size+1<w.heap.size+1+1+1:=by omega
 have hC:CellL [(⟨w.heap.size+1,0,Y⟩,O xa xm xc),(⟨w.heap.size+1,1,Y⟩,Z xs),(⟨w.heap.size+1,2,Y⟩,O xa2 xm2 xc2),(⟨w6.heap.size,10,Y⟩,O la1 ln1 lc1),(⟨w6.heap.size,11,Y⟩,O ua1 un1 uc1)] (w6.alloc (E #[.string p.name,O sa sn sc1,X I p.depth,X I p.density,X I p.gx,X I p.gz,X I p.way,X I p.ax,X I p.az,X .u8 p.skin,O la1 ln1 lc1,O ua1 un1 uc1] 101)):=by
  refine⟨?_,?_,?_,?_,?_,trivial⟩<;>go_simp
 obtain⟨Wa,hWa⟩:=gX (w6.alloc (E #[.string p.name,O sa sn sc1,X I p.depth,X I p.density,X I p.gx,X I p.gz,X I p.way,X I p.ax,X I p.az,X .u8 p.skin,O la1 ln1 lc1,O ua1 un1 uc1] 101));rw [hWa]at hC ⊢;have XA:Ext w6 Wa:=by rw [←hWa];exact(eR _).alloc _
 have hl:=hvl.ext' XA;have hu:=hvu.ext' XA;have H2:=H2.ext XA;have H3:=H3.ext XA;have XW:Ext w Wa:=X6.trans XA;have zz:w6.heap.size<Wa.heap.size:=by rw [←hWa];simp
 obtain⟨b8,hb8⟩:=gX w6.heap.size;simp only [hb8]at *;have zy:w.heap.size+1+1+1<b8:=by omega
 clear hc5 hf5 z5 z5a z5b hc6 hf6 z6 z6a hx5 hx6 hvl hvu hWa hb8 zq zr zt zu zu2 X6 XA HK HO;refine wp_region_held_drew (S:=CellL [(⟨w.heap.size+1,0,Y⟩,O xa xm xc),(⟨w.heap.size+1,1,Y⟩,Z xs),(⟨w.heap.size+1,2,Y⟩,O xa2 xm2 xc2),(⟨b8,10,Y⟩,O la1 ln1 lc1),(⟨b8,11,Y⟩,O ua1 un1 uc1)]) (by kernel_rfl) hC (fun h9H=>?_);refine sN 0 ?_
 iterate 3
  refine tkn ?_
 refine oN ?_;refine cl1 (i:=3) fun K hK=>?_
 go_simp
 (with_reducible refine cM (HA.out _ _ (hl.ext' (eR Wa).drew)) ?_)
 rintro e w7 ⟨rfl,hx7⟩
 skip
 go_wp2_with fail
 refine kO hK (cE h9H hx7) (fun h9H=>?_);clear hK K;refine cl1 (i:=4) fun K hK=>?_
 go_simp
 (with_reducible refine cM (HP1.out _) ?_)
 rintro e w8 ⟨r8,rfl,hr8,hx8⟩;obtain⟨a8,m8,c8,s8,b9,n8,k8,rfl⟩:=hr8.form
 go_wp2_with fail
 refine kO hK (cE h9H hx8) (fun h9H=>?_);clear hK K;have X8:Ext Wa w8:=((eR Wa).drew).trans (hx7.trans hx8);refine cl1 (i:=5) fun K hK=>?_
 go_simp
 (with_reducible refine cM (HC1.out _ (XW.trans X8) _ hr8) ?_)
 rintro e w9 ⟨rfl,hx9⟩
 skip
 go_wp2_with fail
 refine kO hK (cE h9H hx9) (fun h9H=>?_);clear hK K;have X9:Ext Wa w9:=X8.trans hx9;have d1:decide (k1<0)=false:=by simpa using c1
 refine sN 6 ?_
 iterate 5
  refine tkn ?_
 refine oN ?_;refine cl1 (i:=11) fun K hK=>?_
 go_simp
 (with_reducible refine cM (HB.out _ _ (hl.ext' X9)) ?_)
 rintro e w10 ⟨rfl,hx10⟩
 skip
 go_wp2_with fail
 refine kO hK (cE h9H hx10) (fun h9H=>?_);clear hK K;refine cl1 (i:=12) fun K hK=>?_
 go_simp
 (with_reducible refine cM (HP2.out _) ?_)
 rintro e w11 ⟨r11,rfl,hr11,hx11⟩;obtain⟨a11,m11,c11,s11,b11,n11,k11,rfl⟩:=hr11.form
 go_wp2_with fail
 refine kO hK (cE h9H hx11) (fun h9H=>?_);clear hK K;have X11:Ext Wa w11:=X9.trans (hx10.trans hx11);refine cl1 (i:=13) fun K hK=>?_
 go_simp
 (with_reducible refine cM (HC2.out _ (XW.trans X11) _ hr11) ?_)
 rintro e w12 ⟨rfl,hx12⟩
 skip
 go_wp2_with fail
 refine kO hK (cE h9H hx12) (fun h9H=>?_);clear hK K;have X12:Ext Wa w12:=X11.trans hx12;have d2:decide (0<k2)=false:=by simpa using c2
 refine sN 14 ?_
 iterate 2
  refine tkn ?_
 refine oN ?_;refine wpAnyH_done (by kernel_rfl) ?_ _;have H2:=H2.ext X12;have H3:=H3.ext X12;obtain⟨_,_,_,_,_,_,_,x0,x1,x2,xf0,xf1,xf2,xz,_⟩:=H2.rd;obtain⟨_,_,_,_,_,_,_,y0,y1,y2,yf0,yf1,yf2,yz,_⟩:=H3.rd;have hl12:=hl.ext' X12;have hu12:=hu.ext' X12;have XZ:=XW.trans X12;clear hx7 hx8 hx9 hx10 hx11 hx12 hr8 hr11 X8 X9 X11 X12 XW hl hu HA HB HC1 HC2 HP1 HP2
 go_upto_region 7 with fail
 refine wp_region_held_drew (S:=CellL [(⟨w.heap.size+1,0,Y⟩,O xa xm xc),(⟨w.heap.size+1,1,Y⟩,Z xs),(⟨w.heap.size+1,2,Y⟩,O xa2 xm2 xc2),(⟨b8,10,Y⟩,O la1 ln1 lc1),(⟨b8,11,Y⟩,O ua1 un1 uc1)]) (by kernel_rfl) h9H (fun h9H=>?_);refine sN 0 ?_
 iterate 3
  refine tkn ?_
 refine oN ?_;refine sN 4 ?_
 iterate 3
  refine tkn ?_
 refine oN ?_;refine cl1 (i:=3) fun K hK=>?_
 go_simp
 (with_reducible refine cM (HL.out _ XZ.drew _ (hl12.ext' (eR _).drew)) ?_)
 rintro e w13 ⟨r13,rfl,hr13,hx13⟩;obtain⟨a13,m13,c13,s13,b13,n13,k13,rfl⟩:=hr13.form
 go_wp2_with fail
 refine kO hK (cE h9H hx13) (fun h9H=>?_);clear hK K;have X13:Ext w w13:=XZ.drew.trans hx13;refine cl1 (i:=7) fun K hK=>?_
 go_simp
 (with_reducible refine cM (HU.out _ X13 _ ((hu12.ext' (eR _).drew).ext' hx13)) ?_)
 rintro e w14 ⟨r14,rfl,hr14,hx14⟩;obtain⟨a14,m14,c14,s14,b14,n14,k14,rfl⟩:=hr14.form
 go_wp2_with fail
 refine kO hK (cE h9H hx14) (fun h9H=>?_);clear hK K;have G2:=(H2.ext (eR _).drew).ext (hx13.trans hx14);have G3:=(H3.ext (eR _).drew).ext (hx13.trans hx14);have hr13':=hr13.ext hx14;have X14:=X13.trans hx14;clear x0 x1 x2 xf0 xf1 xf2 xz y0 y1 y2 yf0 yf1 yf2 yz H2 H3 hx13 hx14 hr13 X13 XZ;obtain⟨_,_,_,_,_,_,_,x0,x1,x2,xf0,xf1,xf2,xz,_⟩:=G2.rd;obtain⟨_,_,_,_,_,_,_,y0,y1,y2,yf0,yf1,yf2,yz,_⟩:=G3.rd
 have hnb:∀b,w.heap.size+1<b→b≠b8→∀q∈[((⟨w.heap.size+1,0,Y⟩:F),Value.slice xa xm xc),(⟨w.heap.size+1,1,Y⟩,Z xs),(⟨w.heap.size+1,2,Y⟩,O xa2 xm2 xc2),(⟨b8,10,Y⟩,O la1 ln1 lc1),(⟨b8,11,Y⟩,O ua1 un1 uc1)],b≠q.1.block:=by
  intro b hb hb2 q hq;simp at hq
  rcases hq with rfl|rfl|rfl|rfl|rfl<;>(dsimp only;omega)
 refine cl1 (i:=8) fun K hK=>?_
 go_simp;refine kO hK (CellL.set3 h9H (hnb _ (by omega) (by omega)) _ _ _) (fun h9H=>?_);clear hK K;refine cl1 (i:=9) fun K hK=>?_
 go_simp;refine kO hK (CellL.set3 h9H (hnb _ (by omega) (by omega)) _ _ _) (fun h9H=>?_);clear hK K;refine tk1 (i:=10) ?_;refine wpAnyH_done (by kernel_rfl) ?_ _;have P:=hd9 (RB.copy2 G2 G3 (by omega) hr13' hr14 rfl rfl);go_wp2;refine bR (v:=.tuple #[.agg #[O a13 m13 c13,Z s13,O b13 n13 k13],.agg #[O a14 m14 c14,Z s14,O b14 n14 k14],X I 0]) (by simp [results,Tryz.results18,go_sem,x0,x1,x2,xf0,xf1,xf2,y0,y1,y2,yf0,yf1,yf2]) rfl ?_;rw [←HR.out];obtain⟨P1,P2,P3,P4,P5,P6⟩:=P.out;exact⟨_,_,rfl,hr13'.keep P4,hr14.keep P4,P6 w X14 (by omega) (by omega)⟩
theorem Rb.atEG {k:Nat} (hk:1≤k) {x:Rat} {e:Edg} (hx:Rb k x) (h:Bd 104000 e.1.1∧Bd 104000 e.1.2∧Bd 104000 e.2.1∧Bd 104000 e.2.2):Rb (4*k+7) (Cop.atE x e):=by
 obtain⟨h1,h2,h3,h4⟩:=h;have e1:Bd 208000 (e.2.2-e.1.2):=by unfold Bd at *;omega
 have e2:Bd 208000 (e.2.1-e.1.1):=by unfold Bd at *;omega
 unfold Cop.atE;have a0:=Rb.sub hx ((zaL h1).mono (k:=k) hk);have a1:=Rb.mul a0 (zaL e1);have a2:=Rb.div a1 (zaL e2) (by omega);have a3:=(zaL h2).mono (k:=2*k+1+1+1) (by omega);exact(Rb.add a3 a2).up (by omega)
theorem Rb.atG {k:Nat} (hk:1≤k) {x:Rat} {ps:List (Int×Int)} (hx:Rb k x) (h:LnOk ps):Rb (4*k+7) (Cop.atR ps x):=by
 unfold Cop.atR
 cases hf:(eds ps).find? (xLe x)with
 | some e=>exact hx.atEG hk (zgU h.2.1 (List.mem_of_find?_eq_some hf))
 | none =>
  have hl:0<ps.length:=List.length_pos_iff.2 h.1
  have hm:ps.getD (ps.length-1) (0,0)∈ps:=by
   rw [gD,gE (by omega),Option.getD_some];exact List.getElem_mem _
  exact(zaL (h.2.1 _ hm).2).mono (by omega)
theorem zjT (q:Rat):rcmp q q=0:=by
 have h1:¬rcmp q q<0:=fun h=>Rat.lt_irrefl ((zbx q q).1 h)
 have h2:¬0<rcmp q q:=fun h=>Rat.lt_irrefl ((zcl q q).1 h)
 omega
theorem zmy {q:Rat} (h:0≤q):¬q.num.sign<0:=by
 have:0≤q.num:=Rat.num_nonneg.2 h;intro h9;have:=Int.sign_neg_iff.1 h9;omega
def PnF (p1 p2 p9 p10 p12 p14:N) (a:Act):Prop:=a.tmps.size=241∧a.tmps.getD 1 undef=p1∧a.tmps.getD 2 undef=p2∧a.tmps.getD 9 undef=p9∧a.tmps.getD 10 undef=p10∧a.tmps.getD 12 undef=p12∧a.tmps.getD 14 undef=p14∧a.defers=[]
def PnA (w5:M) (p1 p2 p9 p10 p12 p14 p87:N) (gk:Nat) (a:Act) (W:M):Prop:=
 (∃j:Nat,j≤2∧a.tmps.getD 89 undef=X I (j:Nat)∧gk=2-j∧Ext w5 W)∧a.tmps.getD 87 undef=p87∧a.tmps.getD 88 undef=X I 2∧PnF p1 p2 p9 p10 p12 p14 a
theorem zk7 (Q:Exit→Act→M→Prop) (w5:M) (a n:Nat) (pin:Int) (b9 b87 gg n3 c3:Nat) (p12:N) (g:List (Int×Int)) (ps:List Pl) (p:Pl) (be:Be) (vg2:N) (pa2:Option F) (pn2 pc2:Nat)
  (a1:Option F) (m1 c1:Nat) (s1:Bool) (b1:Option F) (n1 d1:Nat) (a2:Option F) (m2 c2:Nat) (s2:Bool) (b2:Option F) (n2 d2:Nat) (a5:Option F) (m5 c5:Nat) (s5:Bool) (b5:Option F) (n5 d5:Nat) (a6:Option F) (m6 c6:Nat) (s6:Bool) (b6:Option F) (n6 d6:Nat)
  (hn:n<n3) (hgw:Gw w5) (hpl:IsPls w5 (O pa2 pn2 pc2) ps) (ha:ps[a]?=C p) (hok:placedOk p=true) (hpin:0≤pin∧pin≤50)
  (K9:w5.heap[b9]?=C (E #[vg2,O pa2 pn2 pc2] 50 (0,0))) (K87:w5.heap[b87]?=C (E #[O a1 m1 c1,Z s1,O b1 n1 d1,O a2 m2 c2,Z s2,O b2 n2 d2,O a5 m5 c5,Z s5,O b5 n5 d5,O a6 m6 c6,Z s6,O b6 n6 d6] 67 (0,0)))
  (hnum:w5.cell? ⟨gg,n*17,Y⟩=C (X I be.num)) (r1:IsR w5 (.agg #[O a1 m1 c1,Z s1,O b1 n1 d1]) be.fx) (r2:IsR w5 (.agg #[O a2 m2 c2,Z s2,O b2 n2 d2]) (atR (lowP2 p) be.fx)) (r3:IsR w5 (.agg #[O a5 m5 c5,Z s5,O b5 n5 d5]) be.tx) (r4:IsR w5 (.agg #[O a6 m6 c6,Z s6,O b6 n6 d6]) (atR (lowP2 p) be.tx))
  (px1:PinX ps p pin be be.fx) (px2:PinX ps p pin be be.tx)
  (a0:Act) (h0:PnF (X I a) (X I pin) (.pointer (C ⟨b9,0,Y⟩)) (O (C ⟨gg,0,Y⟩) n3 c3) p12 (X I n) a0) (h87:a0.tmps.getD 87 undef=O (C ⟨b87,0,Y⟩) 2 2) (h88:a0.tmps.getD 88 undef=X I 2) (h89:a0.tmps.getD 89 undef=X I (0:Nat))
  (hQp:∀(c:List PanicEntry) (a:Act) (d:Option Nat) (v:N) (w:M),Q (.panic c) (a.put d v) w→Q (.panic c) a w) (hQr:∀(c:List PanicEntry) (a:Act) (d:Option Nat) (v:N) (w:M),Q (.panic c) a w→Q (.panic c) (a.put d v) w)
  (hQ:∀a' W,PnF (X I a) (X I pin) (.pointer (C ⟨b9,0,Y⟩)) (O (C ⟨gg,0,Y⟩) n3 c3) p12 (X I n) a'→Ext w5 W→Q (.exit 2) a' W) :
  (Code.loop (loopAt Tryz.f5 1)).wp Tryz.prog Q a0 w5:=by
 have HQ:=hd9 hQ;have HQp:=hd9 hQp;have HQr:=hd9 hQr;have HG:=hd9 hgw;have Hpl:=hd9 hpl;have Ha:=hd9 ha;have Hok:=hd9 hok;have Hpin:=hd9 hpin;have HK9:=hd9 K9;have HK87:=hd9 K87;have Hnum:=hd9 hnum;have HR:=hd9 (And.intro r1 (And.intro r2 (And.intro r3 r4)));have HX:=hd9 (And.intro px1 px2);have Hn:=hd9 hn;clear hQ hQp hQr hgw hpl ha hok hpin K9 K87 hnum r1 r2 r3 r4 px1 px2 hn;unfold loopAt;simp only [Tryz.f5,loopsOf,List.cons_append,List.nil_append,List.append_nil,List.getD_cons_succ,List.getD_cons_zero];refine wp_loop_ghost_k (PnA w5 (X I a) (X I pin) (.pointer (C ⟨b9,0,Y⟩)) (O (C ⟨gg,0,Y⟩) n3 c3) p12 (X I n) (O (C ⟨b87,0,Y⟩) 2 2)) 2 ⟨⟨0,by omega,h89,rfl,eR _⟩,h87,h88,h0⟩ ?round;intro gk aa wr hinv;obtain⟨tt,dd⟩:=aa;obtain⟨⟨j,hj,f89,rfl,hx⟩,f87,f88,f0,f1,f2,f9,f10,f12,f14,hdd⟩:=hinv;dsimp only at f0 f1 f2 f9 f10 f12 f14 f87 f88 f89 hdd;subst hdd;obtain⟨u,hu,ht⟩:=arrU tt 241 f0;simp only [hu]at f1 f2 f9 f10 f12 f14 f87 f88 f89;clear hu f0;subst ht;simp only [List.range,List.range.loop,List.map_cons,List.map_nil,f1,f2,f9,f10,f12,f14,f87,f88,f89];clear f1 f2 f9 f10 f12 f14 f87 f88 f89;intro J K hJ hK;have Hx:=hd9 hx
 by_cases hlt:j<2
 ·obtain⟨x,xa,xm,xc,xs,xb,xn,xd,za,zm,zc,zs,zb,zn,zd,hcl,hpx,hrx,hrz⟩:∃x xa xm xc xs xb xn xd za zm zc zs zb zn zd,CellL [(⟨b87,j*6,Y⟩,O xa xm xc),(⟨b87,j*6+1,Y⟩,Z xs),(⟨b87,j*6+2,Y⟩,O xb xn xd),(⟨b87,j*6+3,Y⟩,O za zm zc),(⟨b87,j*6+4,Y⟩,Z zs),(⟨b87,j*6+5,Y⟩,O zb zn zd)] wr ∧
    PinX ps p pin be x∧IsR wr (.agg #[O xa xm xc,Z xs,O xb xn xd]) x∧IsR wr (.agg #[O za zm zc,Z zs,O zb zn zd]) (atR (lowP2 p) x):=by
   have k87:=hx.heapS HK87.out;have hj2:j=0∨j=1:=by omega
   obtain⟨q1,q2,q3,q4⟩:=HR.out
   rcases hj2 with rfl|rfl
   ·exact⟨be.fx,_,_,_,_,_,_,_,_,_,_,_,_,_,_,⟨qcB k87 (i:=0) rfl,qcB k87 (i:=1) rfl,qcB k87 (i:=2) rfl,qcB k87 (i:=3) rfl,qcB k87 (i:=4) rfl,qcB k87 (i:=5) rfl,trivial⟩,HX.out.1,q1.ext hx,q2.ext hx⟩
   ·exact⟨be.tx,_,_,_,_,_,_,_,_,_,_,_,_,_,_,⟨qcB k87 (i:=6) rfl,qcB k87 (i:=7) rfl,qcB k87 (i:=8) rfl,qcB k87 (i:=9) rfl,qcB k87 (i:=10) rfl,qcB k87 (i:=11) rfl,trivial⟩,HX.out.2,q3.ext hx,q4.ext hx⟩
  obtain⟨y0,y1,y2,y3,y4,y5,_⟩:=hcl;have p0:(0:Int)≤(j:Int):=by omega
  have p1:(j:Int)<2:=by omega
  obtain⟨bp,op,vs,rfl,hbp,hvs,hsk,hcs⟩:=(Hpl.out.ext' hx).at' Ha.out;obtain⟨sa,sn,sc,rfl⟩:=form3 hvs;have hpn2:=Hpl.out.len;have k91:=qcB (hx.heapS HK9.out) (i:=1) (u:=O (C ⟨bp,op,Y⟩) pn2 pc2) rfl;have hz9:=zaa (hx.heapS HK9.out);clear hx;have cc0:=hcs 0 (.string p.name) rfl;have cc1:=hcs 1 (O sa sn sc) rfl;have cc2:=hcs 2 (X I p.depth) rfl;have cc3:=hcs 3 (X I p.density) rfl;have cc4:=hcs 4 (X I p.gx) rfl;have cc5:=hcs 5 (X I p.gz) rfl;have cc6:=hcs 6 (X I p.way) rfl;have cc7:=hcs 7 (X I p.ax) rfl;have cc8:=hcs 8 (X I p.az) rfl;have cc9:=hcs 9 (X .u8 p.skin) rfl;simp only [Nat.add_zero]at cc0;have hap:a<pn2:=by rw [hpn2];exact(lS.1 Ha.out).1
  have Hpn2:=hd9 hpn2;clear hpn2;have hap1:(0:Int)≤(a:Int):=by omega
  have hap2:(a:Int)<(pn2:Int):=by omega
  have hnc:pn2≤9223372036854775807:=by have h9:=Hpl.out.le;rw [←Hpn2.out]at h9;unfold maxLen at h9;omega
  obtain⟨b16,hb16⟩:=gX wr.heap.size
  go_upto_region 14 with fail
  obtain⟨W13,hW13⟩:=gX (wr.alloc (E #[O xa xm xc,Z xs,O xb xn xd,O za zm zc,Z zs,O zb zn zd] 67));rw [hW13];(try rw [hb16]);have XA:Ext wr W13:=by rw [←hW13];exact(eR _).alloc _
  have K16:W13.heap[b16]?=C (E #[O xa xm xc,Z xs,O xb xn xd,O za zm zc,Z zs,O zb zn zd] 67 (0,0)):=by
   rw [←hW13];exact qhA _ _ _ hb16.symm
  have X13:=Hx.out.trans XA
  have C13:CellL [(⟨b9,1,Y⟩,O (C ⟨bp,op,Y⟩) pn2 pc2),(⟨bp,op+a*10,Y⟩,.string p.name),(⟨bp,op+a*10+1,Y⟩,O sa sn sc),(⟨bp,op+a*10+2,Y⟩,X I p.depth),(⟨bp,op+a*10+3,Y⟩,X I p.density),(⟨bp,op+a*10+4,Y⟩,X I p.gx),(⟨bp,op+a*10+5,Y⟩,X I p.gz),(⟨bp,op+a*10+6,Y⟩,X I p.way),(⟨bp,op+a*10+7,Y⟩,X I p.ax),(⟨bp,op+a*10+8,Y⟩,X I p.az),(⟨bp,op+a*10+9,Y⟩,X .u8 p.skin),(⟨b16,0,Y⟩,O xa xm xc),(⟨b16,1,Y⟩,Z xs),(⟨b16,2,Y⟩,O xb xn xd)] W13.drew:=
   ⟨XA.cellS k91,XA.cellS cc0,XA.cellS cc1,XA.cellS cc2,XA.cellS cc3,XA.cellS cc4,XA.cellS cc5,XA.cellS cc6,XA.cellS cc7,XA.cellS cc8,XA.cellS cc9,qcB K16 (i:=0) rfl,qcB K16 (i:=1) rfl,qcB K16 (i:=2) rfl,trivial⟩
  obtain⟨rbx,xl,xr,hq⟩:=hpx;have HSd:=hd9 (fun(W:M) (hW:Ext W13 W)=>zfY W _ _ p x (hvs.ext' (XA.trans hW)) (hrx.ext (XA.trans hW)) (rbx.up (by decide)) hsk (HG.out.ext (X13.trans hW)) Hok.out xl xr);unfold plc RetSd at HSd;have Hq:=hd9 hq;have Hrb:=hd9 rbx;have Hrx:=hd9 (hrx.ext XA);have Hrz:=hd9 (hrz.ext XA);have HK16:=hd9 K16;have HX13:=hd9 X13;clear hcs hW13 hb16 y0 y1 y2 y3 y4 y5 k91 cc0 cc1 cc2 cc3 cc4 cc5 cc6 cc7 cc8 cc9 hvs hrx hrz hq rbx xl xr XA X13 K16 hz9 hbp;refine zbN [(12,17,E #[O Y 0 0,Z false,O Y 0 0] 65 (0,0)),(13,18,E #[O Y 0 0,Z false,O Y 0 0] 65 (0,0))] _ 15 3 (fun i=>decide (13<i)) (fun i=>i==10 || i==11) (by kernel_rfl) (by kernel_rfl) (by kernel_rfl) (by simp) (by kernel_rfl) (by intro x hx;simp only [List.mem_cons,List.not_mem_nil,or_false]at hx;rcases hx with rfl|rfl<;>exact⟨_,rfl,rfl,fun a W=>by go_simp⟩) (fun _ _ _ _ _ h=>HQr.out _ _ _ _ _ h) C13 (fun h9H=>?_);refine tf1 (i:=0) (h4:=fun _ _ _ h=>HQp.out _ _ _ _ _ h) ?_;refine tf1 (i:=1) (h4:=fun _ _ _ h=>HQp.out _ _ _ _ _ h) ?_;refine tf1 (i:=2) (h4:=fun _ _ _ h=>HQp.out _ _ _ _ _ h) ?_;refine tf1 (i:=3) (h4:=fun _ _ _ h=>HQp.out _ _ _ _ _ h) ?_;refine tf1 (i:=4) (h4:=fun _ _ _ h=>HQp.out _ _ _ _ _ h) ?_;refine tf1 (i:=5) (h4:=fun _ _ _ h=>HQp.out _ _ _ _ _ h) ?_;refine tf1 (i:=6) (h4:=fun _ _ _ h=>HQp.out _ _ _ _ _ h) ?_;refine cf1 (i:=7) fun W14 hXW14 hYW14 hCf K hK=>?_
  go_simp
  (with_reducible refine cM (HSd.out _ ((eR W13).drew.trans hYW14)) ?_)
  rintro e w14 ⟨l1,l2,rfl,hl1,hl2,hx14⟩;obtain⟨⟨la,lm,lc,ls,la2,lm2,lc2,rfl⟩,ua,um,uc,us,ua2,um2,uc2,rfl⟩:=And.intro hl1.form hl2.form
  go_wp2_with fail
  refine kO hK (.of hYW14 hx14) (fun _ _=>?_);clear hK K hCf;refine tf1 (i:=8) (h4:=fun _ _ _ h=>HQp.out _ _ _ _ _ h) ?_;refine tf1 (i:=9) (h4:=fun _ _ _ h=>HQp.out _ _ _ _ _ h) ?_;refine tf1 (i:=10) (h4:=fun _ _ _ h=>HQp.out _ _ _ _ _ h) ?_;refine tf1 (i:=11) (h4:=fun _ _ _ h=>HQp.out _ _ _ _ _ h) ?_;refine df (by kernel_rfl) (fun W5 hXW5 hY5=>?_);intro b17 q5 y5 _ _ b18 q6 y6 n56 _;have n56:b18≠b17:=by simpa using n56
  have z16:=zaa HK16.out;have Y5:Ext W13 W5:=(eR W13).drew.trans hY5
  have n16:b16≠b17∧b16≠b18:=by
   simp only [qdZ]at y5 y6;omega
  have X5:=HX13.out.trans Y5;have hlo:=hl1.ext hXW5;have hup:=hl2.ext hXW5;have K16:=Y5.heapS HK16.out;have kf:=qfB q5;have kg:=qfB q6;have g0:=qcB q5 (i:=0) (u:=O Y 0 0) rfl;have g1:=qcB q5 (i:=1) (u:=Z false) rfl;have g2:=qcB q5 (i:=2) (u:=O Y 0 0) rfl;have g3:=qcB q6 (i:=0) (u:=O Y 0 0) rfl;have g4:=qcB q6 (i:=1) (u:=Z false) rfl;have g5:=qcB q6 (i:=2) (u:=O Y 0 0) rfl;clear hx14 hl1 hl2 hXW5;refine cl1 (i:=14) fun K hK=>?_
  go_simp;refine kO hK (cE h9H (by(repeat refine Ext.set ?_ (by first|exact y5|exact y6) _);exact hY5)) (fun hCs=>?_);clear hK K;refine cl1 (i:=15) fun K hK=>?_
  go_simp;refine kO hK (cE h9H (by(repeat refine Ext.set ?_ (by first|exact y5|exact y6) _);exact hY5)) (fun hCs=>?_);clear hK K;refine tk1 (i:=16) (h4:=fun _ _ _ h=>HQp.out _ _ _ _ _ h) ?_;refine wpAnyH_done (by kernel_rfl) ?_ _;clear g0 g1 g2 g3 g4 g5 kf kg hCs;obtain⟨W6,hW6⟩:=gX (stL (stL W5 b17 0 [O la lm lc,Z ls,O la2 lm2 lc2]) b18 0 [O ua um uc,Z us,O ua2 um2 uc2]);have e6:(((((W5.setCell ⟨b17,0,Y⟩ (O la lm lc)).setCell ⟨b17,1,Y⟩ (Z ls)).setCell ⟨b17,2,Y⟩ (O la2 lm2 lc2)).setCell ⟨b18,0,Y⟩ (O ua um uc)).setCell ⟨b18,1,Y⟩ (Z us)).setCell ⟨b18,2,Y⟩ (O ua2 um2 uc2)=W6:=hW6;rw [e6];have TB:=zei (cs:=[O Y 0 0,Z false,O Y 0 0]) (ds:=[O Y 0 0,Z false,O Y 0 0]) [O la lm lc,Z ls,O la2 lm2 lc2] [O ua um uc,Z us,O ua2 um2 uc2] q5 q6 n56 rfl rfl;rw [hW6]at TB;obtain⟨K17,K18,tb,tk,te⟩:=TB;have z13:=HX13.out.size;have X6:=te w5 X5 (nT z13 y5) (nT z13 y6);have X36:=te W13 Y5 y5 y6;have ki:=tk 2 (by decide) (by decide);have hlo6:=hlo.keep ki;have K16:=(tb b16 n16.1 n16.2).trans K16;have hrz6:=Hrz.out.ext X36;have Hlo6:=hd9 hlo6;have HX6:=hd9 X6;have HX36:=hd9 X36;have k16:=qcB K16 (i:=0) (u:=O xa xm xc) rfl;have k17:=qcB K16 (i:=1) (u:=Z xs) rfl;have k18:=qcB K16 (i:=2) (u:=O xb xn xd) rfl;have k19:=qcB K16 (i:=3) (u:=O za zm zc) rfl;have k1a:=qcB K16 (i:=4) (u:=Z zs) rfl;have k1b:=qcB K16 (i:=5) (u:=O zb zn zd) rfl;have h170:=qcB K17 (i:=0) (u:=O la lm lc) rfl;have h171:=qcB K17 (i:=1) (u:=Z ls) rfl;have h172:=qcB K17 (i:=2) (u:=O la2 lm2 lc2) rfl;have hnum:=X6.cellS Hnum.out;have lims:Rb limR (atR (lowP2 p) x):=zai (Rb.atG (by decide) Hrb.out (zam Hok.out).1) (by decide);obtain⟨zq,hzq⟩:=gX (atR (lowP2 p) x);have HC:=hd9 (fun(W:M) (hW:Ext W6 W)=>zao W _ _ _ _ (hlo6.ext hW) (hrz6.ext hW) lims lims);rw [zjT]at HC;have HK16:=hd9 K16;have HK17:=hd9 K17;have Hlims:=hd9 lims;have hn3:=Hn.out;have pn0:(0:Int)≤(n:Int):=by omega
  have pn1:(n:Int)<(n3:Int):=by omega
  clear hW6 e6 tb tk te ki X5 Y5 q5 q6 K16 K17 K18 hlo hup hlo6 hrz6 X6 X36 hY5 y5 y6 h9H C13 n16 z16 z13 hzq lims
  go_upto_region 17 with (go_at_call 19;(with_reducible refine(HC.out _ ?_).mono ?_);exact eA;rintro e w15 ⟨rfl,hx15⟩;(replace hnum:=hx15.cellS hnum))
  have X15:Ext W6 w15:=eA;have Xw15:Ext w5 w15:=HX6.out.trans X15
  by_cases hb:0≤be.num
  ·obtain⟨m,hm⟩:∃m:Nat,be.num=(m:Int):=⟨be.num.toNat,by omega⟩
   obtain⟨q,hq1,hq2,hq3,hq4,hq5,hq6⟩:=Hq.out hb;rw [hm]at hnum hq1;rw [Int.toNat_natCast]at hq1;obtain⟨bp',op',vt,e9,hbp,hvt,htk,hcs⟩:=(Hpl.out.ext' Xw15).at' hq1;obtain⟨rfl,rfl⟩:bp=bp'∧op=op':=by cases e9;exact⟨rfl,rfl⟩
   obtain⟨ta,tn,tc,rfl⟩:=form3 hvt;have k91:=qcB (Xw15.heapS HK9.out) (i:=1) (u:=O (C ⟨bp,op,Y⟩) pn2 pc2) rfl;have cc0:=hcs 0 (.string q.name) rfl;have cc1:=hcs 1 (O ta tn tc) rfl;have cc2:=hcs 2 (X I q.depth) rfl;have cc3:=hcs 3 (X I q.density) rfl;have cc4:=hcs 4 (X I q.gx) rfl;have cc5:=hcs 5 (X I q.gz) rfl;have cc6:=hcs 6 (X I q.way) rfl;have cc7:=hcs 7 (X I q.ax) rfl;have cc8:=hcs 8 (X I q.az) rfl;have cc9:=hcs 9 (X .u8 q.skin) rfl;simp only [Nat.add_zero]at cc0;have hmp:m<pn2:=by rw [Hpn2.out];exact(lS.1 hq1).1
   have hm1:(0:Int)≤(m:Int):=by omega
   have hm2:(m:Int)<(pn2:Int):=by omega
   have hm3:¬(pn2:Int)≤(m:Int):=by omega
   have K16:=X15.heapS HK16.out;have Hq2:=hd9 hq2;have Hsd:=hd9 (And.intro hq5 hq6);have HX15:=hd9 (And.intro X15 Xw15);clear hcs e9 hq1 hq2 hq5 hq6 hx15 hbp hm hb Hq
   go_upto_region 18 with fail
   refine wp_region_held_drew (S:=CellL [(⟨b9,1,Y⟩,O (C ⟨bp,op,Y⟩) pn2 pc2),(⟨gg,n*17,Y⟩,X I (m:Int))]) (by kernel_rfl) ⟨k91,hnum,trivial⟩ (fun h9H=>?_);refine tk1 (i:=0) (h4:=fun _ _ _ h=>HQp.out _ _ _ _ _ h) ?_;refine tk1 (i:=1) (h4:=fun _ _ _ h=>HQp.out _ _ _ _ _ h) ?_;refine tk1 (i:=2) (h4:=fun _ _ _ h=>HQp.out _ _ _ _ _ h) ?_;refine tk1 (i:=3) (h4:=fun _ _ _ h=>HQp.out _ _ _ _ _ h) ?_;refine tk1 (i:=4) (h4:=fun _ _ _ h=>HQp.out _ _ _ _ _ h) ?_;refine tk1 (i:=5) (h4:=fun _ _ _ h=>HQp.out _ _ _ _ _ h) ?_;refine tk1 (i:=6) (h4:=fun _ _ _ h=>HQp.out _ _ _ _ _ h) ?_;refine tk1 (i:=7) (h4:=fun _ _ _ h=>HQp.out _ _ _ _ _ h) ?_;refine tk1 (i:=8) (h4:=fun _ _ _ h=>HQp.out _ _ _ _ _ h) ?_;refine wpAnyH_done (by kernel_rfl) ?_ _;clear h9H
   go_upto_region 20 with fail
   have C20:CellL [(⟨b9,1,Y⟩,O (C ⟨bp,op,Y⟩) pn2 pc2),(⟨gg,n*17,Y⟩,X I (m:Int)),(⟨bp,op+m*10,Y⟩,.string q.name),(⟨bp,op+m*10+1,Y⟩,O ta tn tc),(⟨bp,op+m*10+2,Y⟩,X I q.depth),(⟨bp,op+m*10+3,Y⟩,X I q.density),(⟨bp,op+m*10+4,Y⟩,X I q.gx),(⟨bp,op+m*10+5,Y⟩,X I q.gz),(⟨bp,op+m*10+6,Y⟩,X I q.way),(⟨bp,op+m*10+7,Y⟩,X I q.ax),(⟨bp,op+m*10+8,Y⟩,X I q.az),(⟨bp,op+m*10+9,Y⟩,X .u8 q.skin),(⟨b16,0,Y⟩,O xa xm xc),(⟨b16,1,Y⟩,Z xs),(⟨b16,2,Y⟩,O xb xn xd)] w15.drew.drew:=
    ⟨k91,hnum,cc0,cc1,cc2,cc3,cc4,cc5,cc6,cc7,cc8,cc9,qcB K16 (i:=0) rfl,qcB K16 (i:=1) rfl,qcB K16 (i:=2) rfl,trivial⟩
   have HSd:=hd9 (fun(W:M) (hW:Ext w15 W)=>zfY W _ _ q x (hvt.ext' hW) ((Hrx.out.ext (HX36.out.trans X15)).ext hW) (Hrb.out.up (by decide)) htk (HG.out.ext (Xw15.trans hW)) Hq2.out hq3 hq4);unfold plc RetSd at HSd;clear hvt htk hq3 hq4 X15 Xw15 k91 hnum cc0 cc1 cc2 cc3 cc4 cc5 cc6 cc7 cc8 cc9 K16 hm3 k16 k17 k18 k19 k1a k1b;refine zbN [(16,20,E #[O Y 0 0,Z false,O Y 0 0] 65 (0,0)),(17,21,E #[O Y 0 0,Z false,O Y 0 0] 65 (0,0))] _ 19 3 (fun i=>decide (17<i)) (fun i=>i==14 || i==15) (by kernel_rfl) (by kernel_rfl) (by kernel_rfl) (by simp) (by kernel_rfl) (by intro x hx;simp only [List.mem_cons,List.not_mem_nil,or_false]at hx;rcases hx with rfl|rfl<;>exact⟨_,rfl,rfl,fun a W=>by go_simp⟩) (fun _ _ _ _ _ h=>HQr.out _ _ _ _ _ h) C20 (fun h9H=>?_);refine tf1 (i:=0) (h4:=fun _ _ _ h=>HQp.out _ _ _ _ _ h) ?_;refine tf1 (i:=1) (h4:=fun _ _ _ h=>HQp.out _ _ _ _ _ h) ?_;refine tf1 (i:=2) (h4:=fun _ _ _ h=>HQp.out _ _ _ _ _ h) ?_;refine tf1 (i:=3) (h4:=fun _ _ _ h=>HQp.out _ _ _ _ _ h) ?_;refine tf1 (i:=4) (h4:=fun _ _ _ h=>HQp.out _ _ _ _ _ h) ?_;refine tf1 (i:=5) (h4:=fun _ _ _ h=>HQp.out _ _ _ _ _ h) ?_;refine tf1 (i:=6) (h4:=fun _ _ _ h=>HQp.out _ _ _ _ _ h) ?_;refine tf1 (i:=7) (h4:=fun _ _ _ h=>HQp.out _ _ _ _ _ h) ?_;refine tf1 (i:=8) (h4:=fun _ _ _ h=>HQp.out _ _ _ _ _ h) ?_;refine tf1 (i:=9) (h4:=fun _ _ _ h=>HQp.out _ _ _ _ _ h) ?_;refine tf1 (i:=10) (h4:=fun _ _ _ h=>HQp.out _ _ _ _ _ h) ?_;refine cf1 (i:=11) fun W20 hXW20 hYW20 hCf K hK=>?_
   go_simp
   (with_reducible refine cM (HSd.out _ (((eR w15).drew.drew).trans hYW20)) ?_)
   rintro e w20 ⟨l1,l2,rfl,hl1,hl2,hx20⟩;obtain⟨⟨oa,om,oc,os,oa2,om2,oc2,rfl⟩,va,vm,vc,vs,va2,vm2,vc2,rfl⟩:=And.intro hl1.form hl2.form
   go_wp2_with fail
   refine kO hK (.of hYW20 hx20) (fun _ _=>?_);clear hK K hCf;refine tf1 (i:=12) (h4:=fun _ _ _ h=>HQp.out _ _ _ _ _ h) ?_;refine tf1 (i:=13) (h4:=fun _ _ _ h=>HQp.out _ _ _ _ _ h) ?_;refine tf1 (i:=14) (h4:=fun _ _ _ h=>HQp.out _ _ _ _ _ h) ?_;refine tf1 (i:=15) (h4:=fun _ _ _ h=>HQp.out _ _ _ _ _ h) ?_;refine df (by kernel_rfl) (fun W5 hXW5 hY5=>?_);intro b20 q5 y5 _ _ b21 q6 y6 n56 _;have n56:b21≠b20:=by simpa using n56
   have Y5:Ext w15 W5:=((eR w15).drew.drew).trans hY5;have hup:=hl2.ext hXW5;have kf:=qfB q5;have kg:=qfB q6;have g0:=qcB q5 (i:=0) (u:=O Y 0 0) rfl;have g1:=qcB q5 (i:=1) (u:=Z false) rfl;have g2:=qcB q5 (i:=2) (u:=O Y 0 0) rfl;have g3:=qcB q6 (i:=0) (u:=O Y 0 0) rfl;have g4:=qcB q6 (i:=1) (u:=Z false) rfl;have g5:=qcB q6 (i:=2) (u:=O Y 0 0) rfl;clear hx20 hl1 hl2 hXW5;refine cl1 (i:=18) fun K hK=>?_
   go_simp;refine kO hK (cE h9H (by(repeat refine Ext.set ?_ (by first|exact y5|exact y6) _);exact hY5)) (fun hCs=>?_);clear hK K;refine cl1 (i:=19) fun K hK=>?_
   go_simp;refine kO hK (cE h9H (by(repeat refine Ext.set ?_ (by first|exact y5|exact y6) _);exact hY5)) (fun hCs=>?_);clear hK K;refine tk1 (i:=20) (h4:=fun _ _ _ h=>HQp.out _ _ _ _ _ h) ?_;refine wpAnyH_done (by kernel_rfl) ?_ _;clear g0 g1 g2 g3 g4 g5 kf kg hCs;obtain⟨W7,hW7⟩:=gX (stL (stL W5 b20 0 [O oa om oc,Z os,O oa2 om2 oc2]) b21 0 [O va vm vc,Z vs,O va2 vm2 vc2]);have e7:(((((W5.setCell ⟨b20,0,Y⟩ (O oa om oc)).setCell ⟨b20,1,Y⟩ (Z os)).setCell ⟨b20,2,Y⟩ (O oa2 om2 oc2)).setCell ⟨b21,0,Y⟩ (O va vm vc)).setCell ⟨b21,1,Y⟩ (Z vs)).setCell ⟨b21,2,Y⟩ (O va2 vm2 vc2)=W7:=hW7;rw [e7];have TB:=zei (cs:=[O Y 0 0,Z false,O Y 0 0]) (ds:=[O Y 0 0,Z false,O Y 0 0]) [O oa om oc,Z os,O oa2 om2 oc2] [O va vm vc,Z vs,O va2 vm2 vc2] q5 q6 n56 rfl rfl;rw [hW7]at TB;obtain⟨K20,K21,tb,tk,te⟩:=TB;simp only [qdZ]at y5 y6;have X7:=te w15 Y5 y5 y6;have hup7:=hup.keep (tk 2 (by decide) (by decide));have hlo7:=Hlo6.out.ext (HX15.out.1.trans X7);have K17:=(HX15.out.1.trans X7).heapS HK17.out;have h170:=qcB K17 (i:=0) (u:=O la lm lc) rfl;have h171:=qcB K17 (i:=1) (u:=Z ls) rfl;have h172:=qcB K17 (i:=2) (u:=O la2 lm2 lc2) rfl;have h210:=qcB K21 (i:=0) (u:=O va vm vc) rfl;have h211:=qcB K21 (i:=1) (u:=Z vs) rfl;have h212:=qcB K21 (i:=2) (u:=O va2 vm2 vc2) rfl;have lq:Rb limR (atR (upP2 q) x):=zai (Rb.atG (by decide) Hrb.out (zam Hq2.out).2) (by decide);have lg:Rb limR (atR (lowP2 p) x-atR (upP2 q) x):=zai (Rb.sub (k:=4*300+7) (Rb.atG (by decide) Hrb.out (zam Hok.out).1) (Rb.atG (by decide) Hrb.out (zam Hq2.out).2)) (by decide);have Hlg:=hd9 lg;have HS7:=hd9 (fun(W:M) (hW:Ext W7 W)=>zaC W _ _ _ _ (hlo7.ext hW) (hup7.ext hW) Hlims.out lq);have HX7:=hd9 (HX15.out.2.trans X7);clear hW7 e7 tb tk te q5 q6 K17 K20 K21 hup hup7 hlo7 X7 hY5 Y5 y5 y6 h9H C20 lq lg HSd n56
   go_upto_region 22 with (go_at_call 20;(with_reducible refine(HS7.out _ ?_).mono ?_);exact eA;rintro e w21 ⟨rg,rfl,hrg,hx21⟩;obtain⟨ga,gm,gc,gs,ga2,gm2,gc2,rfl⟩:=hrg.form)
   obtain⟨b23,hb23⟩:=gX w21.heap.size;obtain⟨V,hV⟩:=gX (w21.alloc (E #[O ga gm gc,Z gs,O ga2 gm2 gc2] 65));rw [hV]
   (try rw [hb23])
   have K23:V.heap[b23]?=C (E #[O ga gm gc,Z gs,O ga2 gm2 gc2] 65 (0,0)):=by
    rw [←hV];exact qhA _ _ _ hb23.symm
   have XV:Ext w21 V:=by rw [←hV];exact(eR _).alloc _
   have XwV:Ext w5 V:=(HX7.out.trans hx21).trans XV;have hgV:=hrg.ext XV;have C23:CellL [(⟨b23,0,Y⟩,O ga gm gc),(⟨b23,1,Y⟩,Z gs),(⟨b23,2,Y⟩,O ga2 gm2 gc2)] V:=⟨qcB K23 (i:=0) rfl,qcB K23 (i:=1) rfl,qcB K23 (i:=2) rfl,trivial⟩;have hq6b:=Hsd.out;obtain⟨gp,hgp⟩:=gX (atR (lowP2 p) x-atR (upP2 q) x);have hlg:=Hlg.out;rw [hgp]at hgV hq6b hlg;have hsg:=zmy hq6b.1;have HSg:=hd9 (fun(W:M) (v:N) (h:IsR W v gp)=>zbz W v gp h);obtain⟨sg,hsg2⟩:=gX gp.num.sign;rw [hsg2]at HSg hsg;have HOf:=hd9 (fun(W:M)=>zjV W pin (by have:=Hpin.out;omega) (by have:=Hpin.out;omega));have HCm:=hd9 (fun(W:M) (va vb:N) (h1:IsR W va gp) (h2:IsR W vb (pin:Rat))=>zao W va vb gp (pin:Rat) h1 h2 hlg (zai (zaL (k:=104000) (by have:=Hpin.out;unfold Bd;omega)) (by decide)))
   have hcm:¬0<rcmp gp (pin:Rat):=fun h=>by
    have:=(zcl _ _).1 h;exact Rat.not_lt.2 hq6b.2 this
   obtain⟨cm,hcm2⟩:=gX (rcmp gp (pin:Rat));rw [hcm2]at HCm hcm;have d1:decide (sg<0)=false:=by simpa using hsg
   have d2:decide (0<cm)=false:=by simpa using hcm
   clear hV hb23 K23 hrg hx21 hq6b hgp hlg hsg hsg2 hcm hcm2 HS7;refine wp_region_held_drew (S:=CellL [(⟨b23,0,Y⟩,O ga gm gc),(⟨b23,1,Y⟩,Z gs),(⟨b23,2,Y⟩,O ga2 gm2 gc2)]) (by kernel_rfl) C23 (fun h9H=>?_);refine tk1 (i:=0) (h4:=fun _ _ _ h=>HQp.out _ _ _ _ _ h) ?_;refine tk1 (i:=1) (h4:=fun _ _ _ h=>HQp.out _ _ _ _ _ h) ?_;refine tk1 (i:=2) (h4:=fun _ _ _ h=>HQp.out _ _ _ _ _ h) ?_;refine tk1 (i:=3) (h4:=fun _ _ _ h=>HQp.out _ _ _ _ _ h) ?_;refine cl1 (i:=4) fun K hK=>?_
   go_simp
   (with_reducible refine cM (HSg.out _ _ (hgV.ext (eR V).drew)) ?_)
   rintro e w22 ⟨rfl,hx22⟩
   skip
   go_wp2_with fail
   refine kO hK (cE h9H hx22) (fun h9H=>?_);clear hK K;refine tk1 (i:=5) (h4:=fun _ _ _ h=>HQp.out _ _ _ _ _ h) ?_;refine tk1 (i:=6) (h4:=fun _ _ _ h=>HQp.out _ _ _ _ _ h) ?_;refine tk1 (i:=7) (h4:=fun _ _ _ h=>HQp.out _ _ _ _ _ h) ?_;refine tk1 (i:=8) (h4:=fun _ _ _ h=>HQp.out _ _ _ _ _ h) ?_;refine tk1 (i:=9) (h4:=fun _ _ _ h=>HQp.out _ _ _ _ _ h) ?_;refine cl1 (i:=10) fun K hK=>?_
   go_simp
   (with_reducible refine cM (HOf.out _) ?_)
   rintro e w23 ⟨rp,rfl,hrp,hx23⟩;obtain⟨pa,pm,pc,pz,pa2,pm2,pc2',rfl⟩:=hrp.form
   go_wp2_with fail
   refine kO hK (cE h9H hx23) (fun h9H=>?_);clear hK K;have X23:Ext V w23:=((eR V).drew.trans hx22).trans hx23;refine cl1 (i:=11) fun K hK=>?_
   go_simp
   (with_reducible refine cM (HCm.out _ _ _ (hgV.ext X23) hrp) ?_)
   rintro e w24 ⟨rfl,hx24⟩
   skip
   go_wp2_with fail
   refine kO hK (cE h9H hx24) (fun h9H=>?_);clear hK K;refine tk1 (i:=12) (h4:=fun _ _ _ h=>HQp.out _ _ _ _ _ h) ?_;refine tk1 (i:=13) (h4:=fun _ _ _ h=>HQp.out _ _ _ _ _ h) ?_;refine wpAnyH_done (by kernel_rfl) ?_ _;have Xe:=hd9 ((XwV.trans X23).trans hx24);clear h9H hx22 hx23 hx24 X23 XV XwV C23 hgV hrp;go_wp2;refine Handed.intro (2-(j+1)) (by omega) (hJ _ _ _ ⟨⟨j+1,by omega,?_,rfl,Xe.out⟩,rfl,rfl,⟨rfl,rfl,rfl,rfl,rfl,rfl,rfl,rfl⟩⟩)
   show (_:N)=_
   go_num
  ·have hb2:be.num<0:=by omega
   have Xe:=hd9 Xw15;go_wp2;refine Handed.intro (2-(j+1)) (by omega) (hJ _ _ _ ⟨⟨j+1,by omega,?_,rfl,Xe.out⟩,rfl,rfl,⟨rfl,rfl,rfl,rfl,rfl,rfl,rfl,rfl⟩⟩)
   show (_:N)=_
   go_num
 ·obtain rfl:j=2:=by omega
  go_wp2;exact HQ.out _ _ ⟨rfl,rfl,rfl,rfl,rfl,rfl,rfl,rfl⟩ Hx.out
end
end Go.Proofs.YtodpfeaihohpjaaGreatDoor.Cop
