/- Part 31: contracts of what the law calls. -/
import Derived.Test.YtodpfeaihohpjaaGreatDoorCopA29
import Derived.Test.YtodpfeaihohpjaaGreatDoorCopA27
import Derived.Test.YtodpfeaihohpjaaGreatDoorCopA28
import Derived.Test.YtodpfeaihohpjaaGreatDoorCopA05
import Derived.ProofKit
import Derived.Deep.Slices
import Derived.Test.YtodpfeaihohpjaaGreatDoorRows
import Derived.Test.YtodpfeaihohpjaaGreatDoorCards
import Derived.Test.YtodpfeaihohpjaaGreatDoorTie
import Derived.LaidMore
import Derived.Lay
import Derived.Stop.Joined
import Derived.OpenShut
import Derived.SevenTiedAt
set_option maxRecDepth 1000000
set_option maxHeartbeats 16000000
set_option linter.unusedSimpArgs false
set_option linter.unusedVariables false
open Go.Value renaming slice→O,bool→X,int→V
open Go renaming World→Y,Value→N
open Option renaming none→Z,some→M
open Go.IntKind renaming i64→I
namespace Go.Proofs.YtodpfeaihohpjaaGreatDoor.Cop
section
open Go.RowKit Go.Shelf Go.Sort Go.Lib
attribute [local go_sem] Oper.semAt_some
def PnC (w4:Y) (p1 p2 p9 p10 p12:N) (l:Nat) (gk:Nat) (a:Act) (W:Y):Prop:=∃n:Nat,n≤l∧gk=l-n∧Ext w4 W∧PnF p1 p2 p9 p10 p12 (V I n) a
theorem zjL (Q:Exit→Act→Y→Prop) (w4:Y) (a:Nat) (pin:Int) (b9:Nat) (a3:Option Addr) (n3 c3:Nat) (a4:Option Addr) (n4 c4 base3 base4:Nat) (g:List (Int×Int)) (ps:List Pl) (p:Pl) (bs ks:List Be) (vg2:N) (pa2:Option Addr) (pn2 pc2:Nat)
  (hgw:Gw w4) (hpl:IsPls w4 (O pa2 pn2 pc2) ps) (ha:ps[a]?=M p) (hok:placedOk p=true) (hpin:0≤pin∧pin≤50)
  (K9:w4.heap[b9]?=M (.cells #[vg2,O pa2 pn2 pc2] 50 (0,0))) (ho3:OwnBe w4 base3 (O a3 n3 c3) bs) (ho4:OwnBe w4 base4 (O a4 n4 c4) ks)
  (PB:∀be∈bs,PinB ps p pin ks be) (PK:∀be∈ks,Rb 300 be.fx∧Rb 300 be.tx) (hk9:ks.length≤1000) (hb9:bs.length≤1000)
  (a0:Act) (h0:PnF (V I a) (V I pin) (.pointer (M ⟨b9,0,Z⟩)) (O a3 n3 c3) (O a4 n4 c4) (V I (0:Nat)) a0)
  (hQp:∀(c:List PanicEntry) (a:Act) (d:Option Nat) (v:N) (w:Y),Q (.panic c) (a.put d v) w→Q (.panic c) a w) (hQr:∀(c:List PanicEntry) (a:Act) (d:Option Nat) (v:N) (w:Y),Q (.panic c) a w→Q (.panic c) (a.put d v) w)
  (hQ:∀a' W,PnF (V I a) (V I pin) (.pointer (M ⟨b9,0,Z⟩)) (O a3 n3 c3) (O a4 n4 c4) (V I n3) a'→Ext w4 W→Q (.exit 0) a' W) :
  (Code.loop (loopAt Tryz.f5 0)).wp Tryz.prog Q a0 w4:=by
 have HQ:=hd9 hQ;have HQp:=hd9 hQp;have HQr:=hd9 hQr;have HG:=hd9 hgw;have Hpl:=hd9 hpl;have Ha:=hd9 ha;have HPk:=hd9 hok;have Hpn:=hd9 hpin;have HK9:=hd9 K9;have Hn3:=hd9 (zcW ho3);have Ho3:=hd9 ho3;have Ho4:=hd9 ho4;have PB:=hd9 PB;have PK:=hd9 PK;have Hk9:=hd9 hk9;have h39:n3≤1000:=by have:=Hn3.out;omega
 clear hQ hQp hQr hgw hpl ha hok hpin K9 ho3 ho4 hk9 hb9;unfold loopAt;simp only [Tryz.f5,loopsOf,List.cons_append,List.nil_append,List.append_nil,List.getD_cons_succ,List.getD_cons_zero];refine wp_loop_ghost_k (PnC w4 (V I a) (V I pin) (.pointer (M ⟨b9,0,Z⟩)) (O a3 n3 c3) (O a4 n4 c4) n3) n3 ⟨0,Nat.zero_le _,rfl,eR _,h0⟩ ?round;clear h0;intro gk a' wr hinv;obtain⟨n,hn,rfl,hx,hfr⟩:=hinv;obtain⟨tt,dd⟩:=a';obtain⟨f0,f1,f2,f9,f10,f12,f14,hdd⟩:=hfr;dsimp only at f0 f1 f2 f9 f10 f12 f14  hdd;subst hdd;obtain⟨u,hu,ht⟩:=arrU tt 241 f0;simp only [hu]at f1 f2 f9 f10 f12 f14;clear hu f0;subst ht;simp only [List.range,List.range.loop,List.map_cons,List.map_nil,f1,f2,f9,f10,f12,f14 ];clear f1 f2 f9 f10 f12 f14;intro J K hJ hK;have Hx:=hd9 hx
 by_cases hlt:n<n3
 ·obtain⟨be,hbe⟩:∃be,bs[n]?=M be:=⟨bs[n]'(by rw [←Hn3.out];exact hlt),gE _⟩
  obtain⟨be1,be2,px1,px2,be4,hkb⟩:=PB.out be (lM hbe);obtain⟨gg,a1,m1,c1,s1,b1,n1,d1,a2,m2,c2,s2,b2,n2,d2,a5,m5,c5,s5,b5,n5,d5,a6,m6,c6,s6,b6,n6,d6,rfl,-,-,hcl,r1,r2,r3,r4⟩:=zhd (Ho3.out.ext hx) hbe;have HCl:=hd9 hcl;obtain⟨y0,y1,y2,y3,y4,y5,y6,y7,y8,y9,y10,y11,y12,-⟩:=hcl;rw [be1]at r2;rw [be2]at r4;have HR:=hd9 (And.intro r1 (And.intro r2 (And.intro r3 r4)));have HP:=hd9 (And.intro px1 px2);have Hbe:=hd9 be4;have Hkb:=hd9 (zl7 hkb);have p0:(0:Int)≤(n:Int):=by omega
  have p1:(n:Int)<(n3:Int):=by omega
  clear r1 r2 r3 r4 px1 px2 be1 be2 be4 hkb hx hbe
  go_upto_region 11 with fail
  refine wp_region_held_drew (S:=CellL [(⟨gg,n*17+1,Z⟩,O a1 m1 c1),(⟨gg,n*17+2,Z⟩,X s1),(⟨gg,n*17+3,Z⟩,O b1 n1 d1),(⟨gg,n*17+4,Z⟩,O a2 m2 c2),(⟨gg,n*17+5,Z⟩,X s2),(⟨gg,n*17+6,Z⟩,O b2 n2 d2),(⟨gg,n*17+7,Z⟩,O a5 m5 c5),(⟨gg,n*17+8,Z⟩,X s5),(⟨gg,n*17+9,Z⟩,O b5 n5 d5),(⟨gg,n*17+10,Z⟩,O a6 m6 c6),(⟨gg,n*17+11,Z⟩,X s6),(⟨gg,n*17+12,Z⟩,O b6 n6 d6)]) (by kernel_rfl) ⟨y1,y2,y3,y4,y5,y6,y7,y8,y9,y10,y11,y12,trivial⟩ (fun h9H=>?_);refine tk1 (i:=0) (h4:=fun _ _ _ h=>HQp.out _ _ _ _ _ h) ?_;refine tk1 (i:=1) (h4:=fun _ _ _ h=>HQp.out _ _ _ _ _ h) ?_;refine tk1 (i:=2) (h4:=fun _ _ _ h=>HQp.out _ _ _ _ _ h) ?_;refine tk1 (i:=3) (h4:=fun _ _ _ h=>HQp.out _ _ _ _ _ h) ?_;refine tk1 (i:=4) (h4:=fun _ _ _ h=>HQp.out _ _ _ _ _ h) ?_;refine tk1 (i:=5) (h4:=fun _ _ _ h=>HQp.out _ _ _ _ _ h) ?_;refine tk1 (i:=6) (h4:=fun _ _ _ h=>HQp.out _ _ _ _ _ h) ?_;refine tk1 (i:=7) (h4:=fun _ _ _ h=>HQp.out _ _ _ _ _ h) ?_;refine tk1 (i:=8) (h4:=fun _ _ _ h=>HQp.out _ _ _ _ _ h) ?_;refine tk1 (i:=9) (h4:=fun _ _ _ h=>HQp.out _ _ _ _ _ h) ?_;refine tk1 (i:=12) (h4:=fun _ _ _ h=>HQp.out _ _ _ _ _ h) ?_;refine cl1 (i:=10) fun K hK=>?_
  go_simp;refine kO hK (cE h9H ((eR _).alloc _)) (fun h9H=>?_);clear hK K;refine tk1 (i:=11) (h4:=fun _ _ _ h=>HQp.out _ _ _ _ _ h) ?_;refine wpAnyH_done (by kernel_rfl) ?_ _;clear h9H y0 y1 y2 y3 y4 y5 y6 y7 y8 y9 y10 y11 y12;go_wp2;obtain⟨b87,hb87⟩:=gX wr.heap.size;obtain⟨W11,hW11⟩:=gX ((wr.alloc (.cells #[O a1 m1 c1,X s1,O b1 n1 d1,O a2 m2 c2,X s2,O b2 n2 d2,O a5 m5 c5,X s5,O b5 n5 d5,O a6 m6 c6,X s6,O b6 n6 d6] 67)).drew);rw [hW11]
  (try rw [hb87])
  have K87:W11.heap[b87]?=M (.cells #[O a1 m1 c1,X s1,O b1 n1 d1,O a2 m2 c2,X s2,O b2 n2 d2,O a5 m5 c5,X s5,O b5 n5 d5,O a6 m6 c6,X s6,O b6 n6 d6] 67 (0,0)):=by
   rw [←hW11];exact qhA wr _ _ hb87.symm
  have X11:Ext wr W11:=by rw [←hW11];exact((eR _).alloc _).drew
  have Xw:=Hx.out.trans X11;have hcl:=cE HCl.out X11;obtain⟨q1,q2,q3,q4⟩:=HR.out;have HXw:=hd9 Xw;have HX11:=hd9 X11;clear hW11 hb87;refine zk7 _ W11 a n pin b9 b87 gg n3 c3 (O a4 n4 c4) g ps p be vg2 pa2 pn2 pc2 a1 m1 c1 s1 b1 n1 d1 a2 m2 c2 s2 b2 n2 d2 a5 m5 c5 s5 b5 n5 d5 a6 m6 c6 s6 b6 n6 d6 hlt (HG.out.ext Xw) (Hpl.out.ext' Xw) Ha.out HPk.out Hpn.out (Xw.heapS HK9.out) K87 hcl.1 (q1.ext X11) (q2.ext X11) (q3.ext X11) (q4.ext X11) HP.out.1 HP.out.2 _ ⟨rfl,rfl,rfl,rfl,rfl,rfl,rfl,rfl⟩ rfl rfl rfl (fun c a d v w h=>HQp.out c a d v w h) (fun c a d v w h=>HQr.out c a d v w h) (fun a' W7 hfr hx7=>?_);clear K87 X11 Xw hcl q1 q2 q3 q4;obtain⟨tt,dd⟩:=a';obtain⟨f0,f1,f2,f9,f10,f12,f14,hdd⟩:=hfr;dsimp only at f0 f1 f2 f9 f10 f12 f14  hdd;subst hdd;obtain⟨u,hu,ht⟩:=arrU tt 241 f0;simp only [hu]at f1 f2 f9 f10 f12 f14;clear hu f0;subst ht;simp only [List.range,List.range.loop,List.map_cons,List.map_nil,f1,f2,f9,f10,f12,f14 ];clear f1 f2 f9 f10 f12 f14;have HX7:=hd9 hx7;clear hx7;go_wp2;have X17:=HX11.out.trans HX7.out;have hcl:=cE HCl.out X17;obtain⟨y0,y1,y2,y3,y4,y5,y6,y7,y8,y9,y10,y11,y12,-⟩:=hcl;have HY:=hd9 (And.intro y0 (And.intro y1 (And.intro y2 (And.intro y3 (And.intro y7 (And.intro y8 y9))))));have Xw7:=HXw.out.trans HX7.out;have q1:=HR.out.1.ext X17;have q3:=HR.out.2.2.1.ext X17;have HQ13:=hd9 (And.intro q1 q3);have HXw7:=hd9 Xw7;clear HXw HX7 HX11 HCl;refine zjK _ W7 n (V I a) (V I pin) (.pointer (M ⟨b9,0,Z⟩)) gg n3 c3 a4 n4 c4 base4 be ks hlt (Ho4.out.ext Xw7) PK.out ⟨HP.out.1.1,HP.out.2.1⟩ a1 m1 c1 s1 b1 n1 d1 a5 m5 c5 s5 b5 n5 d5 ⟨y0,y1,y2,y3,y7,y8,y9,trivial⟩ q1 q3 Hkb.out Hk9.out _ ⟨rfl,rfl,rfl,rfl,rfl,rfl,rfl,rfl⟩ rfl rfl (fun c a d v w h=>HQp.out c a d v w h) (fun a' W8 hfr f24 hx8=>?_);clear y0 y1 y2 y3 y4 y5 y6 y7 y8 y9 y10 y11 y12 q1 q3 X17 Xw7;obtain⟨tt,dd⟩:=a';obtain⟨f0,f1,f2,f9,f10,f12,f14,hdd⟩:=hfr;dsimp only at f0 f1 f2 f9 f10 f12 f14 f24 hdd;subst hdd;obtain⟨u,hu,ht⟩:=arrU tt 241 f0;simp only [hu]at f1 f2 f9 f10 f12 f14 f24;clear hu f0;subst ht;simp only [List.range,List.range.loop,List.map_cons,List.map_nil,f1,f2,f9,f10,f12,f14 ,f24];clear f1 f2 f9 f10 f12 f14 f24
  go_upto_region 30 with fail
  obtain⟨-,v1,v2,v3,v7,v8,v9⟩:=HY.out;have q1:=HQ13.out.1.ext hx8;have q3:=HQ13.out.2.ext hx8;have HX8:=hd9 (HXw7.out.trans hx8);have HC:=hd9 (fun(W:Y) (hW:Ext W8 W)=>zao W _ _ be.fx be.tx (q1.ext hW) (q3.ext hW) (zai HP.out.1.1 (by decide)) (zai HP.out.2.1 (by decide)));have hcm:¬0<rcmp be.fx be.tx:=fun h=>Rat.not_lt.2 Hbe.out ((zcl _ _).1 h)
  obtain⟨cm,hcm2⟩:=gX (rcmp be.fx be.tx);rw [hcm2]at HC hcm;have d2:decide (0<cm)=false:=by simpa using hcm
  have C30:CellL [(⟨gg,n*17+1,Z⟩,O a1 m1 c1),(⟨gg,n*17+2,Z⟩,X s1),(⟨gg,n*17+3,Z⟩,O b1 n1 d1),(⟨gg,n*17+7,Z⟩,O a5 m5 c5),(⟨gg,n*17+8,Z⟩,X s5),(⟨gg,n*17+9,Z⟩,O b5 n5 d5)] W8:=⟨hx8.cellS v1,hx8.cellS v2,hx8.cellS v3,hx8.cellS v7,hx8.cellS v8,hx8.cellS v9,trivial⟩;clear v1 v2 v3 v7 v8 v9 q1 q3 hx8 hcm hcm2;refine wp_region_held_drew (S:=CellL [(⟨gg,n*17+1,Z⟩,O a1 m1 c1),(⟨gg,n*17+2,Z⟩,X s1),(⟨gg,n*17+3,Z⟩,O b1 n1 d1),(⟨gg,n*17+7,Z⟩,O a5 m5 c5),(⟨gg,n*17+8,Z⟩,X s5),(⟨gg,n*17+9,Z⟩,O b5 n5 d5)]) (by kernel_rfl) C30 (fun h9H=>?_);refine tk1 (i:=0) (h4:=fun _ _ _ h=>HQp.out _ _ _ _ _ h) ?_;refine tk1 (i:=1) (h4:=fun _ _ _ h=>HQp.out _ _ _ _ _ h) ?_;refine tk1 (i:=2) (h4:=fun _ _ _ h=>HQp.out _ _ _ _ _ h) ?_;refine tk1 (i:=3) (h4:=fun _ _ _ h=>HQp.out _ _ _ _ _ h) ?_;refine tk1 (i:=4) (h4:=fun _ _ _ h=>HQp.out _ _ _ _ _ h) ?_;refine tk1 (i:=5) (h4:=fun _ _ _ h=>HQp.out _ _ _ _ _ h) ?_;refine tk1 (i:=6) (h4:=fun _ _ _ h=>HQp.out _ _ _ _ _ h) ?_;refine tk1 (i:=7) (h4:=fun _ _ _ h=>HQp.out _ _ _ _ _ h) ?_;refine tk1 (i:=8) (h4:=fun _ _ _ h=>HQp.out _ _ _ _ _ h) ?_;refine tk1 (i:=9) (h4:=fun _ _ _ h=>HQp.out _ _ _ _ _ h) ?_;refine tk1 (i:=10) (h4:=fun _ _ _ h=>HQp.out _ _ _ _ _ h) ?_;refine tk1 (i:=11) (h4:=fun _ _ _ h=>HQp.out _ _ _ _ _ h) ?_;refine tk1 (i:=12) (h4:=fun _ _ _ h=>HQp.out _ _ _ _ _ h) ?_;refine tk1 (i:=13) (h4:=fun _ _ _ h=>HQp.out _ _ _ _ _ h) ?_;refine tk1 (i:=14) (h4:=fun _ _ _ h=>HQp.out _ _ _ _ _ h) ?_;refine cl1 (i:=15) fun K hK=>?_
  go_simp
  (with_reducible refine cM (HC.out _ (eR W8).drew) ?_)
  rintro e w30 ⟨rfl,hx30⟩
  skip
  go_wp2_with fail
  refine kO hK (cE h9H hx30) (fun h9H=>?_);clear hK K;refine tk1 (i:=16) (h4:=fun _ _ _ h=>HQp.out _ _ _ _ _ h) ?_;refine tk1 (i:=17) (h4:=fun _ _ _ h=>HQp.out _ _ _ _ _ h) ?_;refine wpAnyH_done (by kernel_rfl) ?_ _;have Xe:=hd9 (HX8.out.trans ((eR W8).drew.trans hx30));clear h9H hx30 C30;go_wp2;refine Handed.intro (n3-(n+1)) (by omega) (hJ _ _ _ ⟨n+1,by omega,rfl,Xe.out,⟨rfl,rfl,rfl,rfl,rfl,rfl,?_,rfl⟩⟩)
  show (_:N)=_
  go_num
 ·obtain rfl:n=n3:=by omega
  go_wp2;exact HQ.out _ _ ⟨rfl,rfl,rfl,rfl,rfl,rfl,rfl,rfl⟩ Hx.out
theorem zlN (x:Int) : -20<x.tmod 20∧x.tmod 20<20∧(0≤x→0≤x.tmod 20):=by
 by_cases h:x<0
 ·have h1:=Int.tmod_nonneg (a:=-x) 20 (by omega)
  have h2:=Int.tmod_lt_of_pos (-x) (b:=20) (by decide);rw [Int.neg_tmod]at h1 h2;omega
 ·have h1:=Int.tmod_nonneg (a:=x) 20 (by omega)
  have h2:=Int.tmod_lt_of_pos x (b:=20) (by decide);omega
theorem zes {g:List (Int×Int)} {ps:List Pl} {i pin:Int} (h:bedsE g ps i pin=0):laidP g ps=0∧0≤pin∧pin≤50∧∃(a:Nat) (p:Pl),i=(a:Int)∧ps[a]?=M p:=by
 unfold bedsE at h
 by_cases h0:laidP g ps=0
 ·rw [if_neg (by simpa using h0)]at h
  cases hw:wrongB ps.length i pin with
  | true=>rw [hw,if_pos rfl]at h;cases h
  | false =>
   unfold wrongB at hw;simp only [Bool.or_eq_false_iff,decide_eq_false_iff_not]at hw;exact⟨h0,by omega,by omega,i.toNat,ps[i.toNat]'(by omega),by omega,gE _⟩
 ·rw [if_pos h0]at h
  exact absurd h h0
def PnS (w4:Y) (l:Nat) (gk:Nat) (t14:N) (W:Y):Prop:=∃n:Nat,n≤l∧t14=V I (n:Nat)∧gk=l-n∧Ext w4 W
theorem zjN (w:Y) (vg vp:N) (g:List (Int×Int)) (ps:List Pl) (a:Nat) (p:Pl) (pin more:Int) (hg:IsPr w vg g) (hp:IsWr w vp ps) (hgw:Gw w) (hmo : -9223372036854775808≤more∧more≤9223372036854775807) (hfew:fewB g ps=true) (l0:laidP g ps=0) (ha:ps[a]?=M p) (pn0:0≤pin) (pn1:pin≤50) (hE2:bedsE g ps a (pin+more.tmod 20)=0∧0≤more) :
  Calls Tryz.prog 5 #[.agg #[vg,vp],V I a,V I pin,V I more] w fun e w'=>e = .returned (X true)∧Ext w w':=by
 have HF:=hd9 (fun(W:Y) (hW:Ext w W)=>zgo W vg vp g ps (hg.ext' hW) (hp.ext' hW));have HW:=hd9 (fun(hf:fewB g ps=true) (W:Y) (hW:Ext w W)=>zcH W vg vp g ps (hg.ext' hW) (hp.ext' hW) (za9 hf).1 (by have:=(za9 hf).2.1;omega) (za9 hf).2.2);have HA:=hd9 (fun(W:Y) (hW:Ext w W)=>zcM W (hgw.ext hW));have HG:=hd9 hgw;obtain⟨ga,gc,rfl⟩:=hg.form;obtain⟨pa,pc1,rfl⟩:=hp.form;obtain⟨gn,hgn⟩:=gX g.length;obtain⟨pn,hpn⟩:=gX ps.length;have Hln:=hd9 (And.intro hgn hpn);rw [hgn,hpn]at HF HW ⊢;clear hg hp hgw hgn hpn;rw [hfew]at HF;have HW2:=hd9 (HW.out hfew);have Hfw:=hd9 (za9 hfew);clear hfew HW;have m20:=zlN more;have q0:IntKind.i64.wrap (more.tmod 20)=more.tmod 20:=iW _ (by omega);obtain⟨md,hmd⟩:=gX (more.tmod 20);rw [hmd]at m20 q0 hE2;have hok9:=zaH l0;have hal:=(lS.1 ha).1;have q1:IntKind.i64.wrap (pin+md)=pin+md:=iW _ (by omega);obtain⟨_,pm0,pm1,_⟩:=zes hE2.1;have hm0:0≤more:=hE2.2;obtain⟨PB,PL,PK⟩:=zh1 l0 ha (pin':=pin+md) (by have:=m20.2.2 hE2.2;omega) pn0 pm1;obtain⟨bs,hbs⟩:=gX (bedsN g ps a p pin (ps.length+1));obtain⟨ks,hks⟩:=gX (bedsN g ps a p (pin+md) (ps.length+1));rw [hbs]at PB PL;rw [hks]at PB PL PK;have hpk:=hok9.1 p (lM ha);go_enter Tryz.func5,Tryz.ntmps5
 go_upto_region 4 with (first|(go_at_call 13;(with_reducible refine(HF.out _ ?_).mono ?_);exact eA;rintro e w1 ⟨rfl,hx1⟩;obtain⟨⟨hc1,hf1⟩,z1_0⟩:=cK1 w hx1)|(go_at_call 14;(with_reducible refine(HW2.out _ ?_).mono ?_);exact eA;rintro e w2 ⟨vg2,vp2,L2,rfl,hg2,hL2,ho2,hx2⟩;obtain⟨⟨ga2,gn2,gc2,rfl⟩,pa2,pn2,pc2,rfl⟩:=And.intro hg2.form3 (form3 ho2.own.pls);obtain⟨hc2,hf2⟩:=hx2.cells))
 have X2:Ext w w2:=eA;have HB1:=hd9 (fun(W:Y) (hW:Ext w2 W)=>zcP W _ _ g ps a p pin (hg2.pts.ext' hW) (ho2.own.pls.ext' hW) (HG.out.ext (X2.trans hW)) l0 ha pn0 pn1 hok9.2.2 hok9.1 hok9.2.1);have HB2:=hd9 (fun(W:Y) (hW:Ext w2 W)=>zcP W _ _ g ps a p (pin+md) (hg2.pts.ext' hW) (ho2.own.pls.ext' hW) (HG.out.ext (X2.trans hW)) l0 ha pm0 pm1 hok9.2.2 hok9.1 hok9.2.1);rw [hbs]at HB1;rw [hks]at HB2;have hpn2:pn2=ps.length:=ho2.own.pls.len;have hap:a<pn2:=by omega
 have PB:=hd9 PB;have PL:=hd9 PL;have PK:=hd9 PK;have HPk:=hd9 hpk;have Hok:=hd9 hok9.1;have Ha:=hd9 ha;have Hpn:=hd9 (And.intro pn0 pn1);have Hpl:=hd9 ho2.own.pls;have Hpn2:=hd9 hpn2;have HX2:=hd9 X2;clear hg2 hL2 ho2 hE2 HW2 HF l0 ha hok9 hpk hpn2 X2 m20 pn0 pn1 pm0 pm1 hmo;obtain⟨b9,hb9⟩:=gX w2.heap.size;obtain⟨wa,hwa⟩:=gX (w2.alloc (.cells #[O ga2 gn2 gc2,O pa2 pn2 pc2] 50));rw [hwa,hb9]
 have K9:wa.heap[b9]?=M (.cells #[O ga2 gn2 gc2,O pa2 pn2 pc2] 50 (0,0)):=by
  rw [←hwa];exact qhA _ _ _ hb9.symm
 have X2a:Ext w2 wa:=by rw [←hwa];exact(eR _).alloc _
 have k90:=qcB K9 (i:=0) (u:=O ga2 gn2 gc2) rfl;have k91:=qcB K9 (i:=1) (u:=O pa2 pn2 pc2) rfl;clear hwa hb9 hc1 hf1 hc2 hf2 z1_0 hx1 hx2
 go_upto_region 8 with (first|(go_at_call 16;(with_reducible refine(HB1.out _ ?_).mono ?_);exact eA;rintro e w3 ⟨v3,rfl,ho3,hx3⟩;obtain⟨a3,n3,c3,rfl⟩:=ho3.form3;(replace k90:=hx3.cellS k90);(replace k91:=hx3.cellS k91))|(go_at_call 16;(with_reducible refine(HB2.out _ ?_).mono ?_);exact eA;rintro e w4 ⟨v4,rfl,ho4,hx4⟩;obtain⟨a4,n4,c4,rfl⟩:=ho4.form3;(replace k90:=hx4.cellS k90);(replace k91:=hx4.cellS k91)))
 have X34:Ext wa w4:=hx3.trans hx4;have X24:Ext w2 w4:=X2a.trans X34;have HK9:=hd9 (X34.heapS K9);have Ho3:=hd9 (ho3.ext hx4);have Ho4:=hd9 ho4;have hn3:=zcW ho3;have hn4:=zcW ho4;have Hn3:=hd9 hn3;have Hn4:=hd9 hn4;have hle34:n3≤n4:=by have:=PL.out;omega
 have HX4:=hd9 (HX2.out.trans X24)
 replace Hpl:=hd9 (Hpl.out.ext' X24)
 clear k90 k91 hx3 hx4 ho3 ho4 hn3 hn4 X34 X24 X2a K9 HB1 HB2;go_wp2;have hle:=PL.out;have hl3:bs.length≤1000:=by rw [←hbs];exact nT (zds ..) (by have:=Hfw.out.2.1;omega)
 have hl4:ks.length≤1000:=by rw [←hks];exact nT (zds ..) (by have:=Hfw.out.2.1;omega)
 refine zjL _ w4 a pin b9 a3 n3 c3 a4 n4 c4 _ _ g ps p bs ks _ pa2 pn2 pc2 (HG.out.ext HX4.out) Hpl.out Ha.out HPk.out Hpn.out HK9.out Ho3.out Ho4.out PB.out PK.out hl4 hl3 _ ⟨rfl,rfl,rfl,rfl,rfl,rfl,rfl,rfl⟩ (fun c a d v w h=>by cases d<;>exact h) (fun c a d v w h=>by cases d<;>exact h) (fun a' W5 hfr hx=>?_);obtain⟨tt,dd⟩:=a';obtain⟨f0,f1,f2,f9,f10,f12,f14,hdd⟩:=hfr;dsimp only at f0 f1 f2 f9 f10 f12 f14 hdd;subst hdd;obtain⟨u,hu,ht⟩:=arrU tt 241 f0;simp only [hu]at f1 f2 f9 f10 f12 f14;clear hu f0;subst ht;simp only [List.range,List.range.loop,List.map_cons,List.map_nil,f1,f2,f9,f10,f12,f14];clear f1 f2 f9 f10 f12 f14;have hge:n3≤n4:=hle34
 go_wp2_with(first|(go_at_call 10;(with_reducible refine(HA.out _ (HX4.out.trans hx)).mono ?_);rintro e w9 ⟨rfl,hx9⟩))
 go_ret;exact⟨rfl,(HX4.out.trans hx).trans hx9⟩
theorem zk8 (w:Y) (vg vp:N) (g:List (Int×Int)) (ps:List Pl) (i pin more:Int) (hg:IsPr w vg g) (hp:IsWr w vp ps) (hgw:Gw w) (hmo : -9223372036854775808≤more∧more≤9223372036854775807) :
  Calls Tryz.prog 5 #[.agg #[vg,vp],V I i,V I pin,V I more] w fun e w'=>e = .returned (X true)∧Ext w w':=by
 have HF:=hd9 (fun(W:Y) (hW:Ext w W)=>zgo W vg vp g ps (hg.ext' hW) (hp.ext' hW));have HW:=hd9 (fun(hf:fewB g ps=true) (W:Y) (hW:Ext w W)=>zcH W vg vp g ps (hg.ext' hW) (hp.ext' hW) (za9 hf).1 (by have:=(za9 hf).2.1;omega) (za9 hf).2.2);have HA:=hd9 (fun(W:Y) (hW:Ext w W)=>zcM W (hgw.ext hW));have HG:=hd9 hgw;obtain⟨ga,gc,rfl⟩:=hg.form;obtain⟨pa,pc1,rfl⟩:=hp.form;obtain⟨gn,hgn⟩:=gX g.length;obtain⟨pn,hpn⟩:=gX ps.length;have Hln:=hd9 (And.intro hgn hpn);rw [hgn,hpn]at HF HW ⊢
 cases hfew:fewB g ps with
 | false =>
  rw [hfew]at HF;clear HW;go_enter Tryz.func5,Tryz.ntmps5
  go_wp2_with(first|(go_at_call 13;(with_reducible refine(HF.out _ ?_).mono ?_);exact eA;rintro e w1 ⟨rfl,hx1⟩;obtain⟨⟨hc1,hf1⟩,z1_0⟩:=cK1 w hx1)|(go_at_call 10;(with_reducible refine(HA.out _ ?_).mono ?_);exact eA;rintro e w9 ⟨rfl,hx9⟩))
  go_ret;exact⟨rfl,eA⟩
 | true =>
  rw [hfew]at HF;have HW2:=hd9 (HW.out hfew);have Hfew:=hd9 hfew;clear hfew HW;have m20:=zlN more;have q0:IntKind.i64.wrap (more.tmod 20)=more.tmod 20:=iW _ (by omega);obtain⟨md,hmd⟩:=gX (more.tmod 20);have Hmd:=hd9 hmd;rw [hmd]at m20 q0
  by_cases hE1:bedsE g ps i pin=0
  ·obtain⟨l0,pn0,pn1,a,p,rfl,ha⟩:=zes hE1
   have hok9:=zaH l0;have hal:=(lS.1 ha).1;have q1:IntKind.i64.wrap (pin+md)=pin+md:=iW _ (by omega);clear hE1
   by_cases hE2:bedsE g ps a (pin+md)=0∧0≤more
   ·exact zjN w _ _ g ps a p pin more (hgn▸hg) (hpn▸hp) hgw hmo Hfew.out l0 ha pn0 pn1 (by rw [hmd];exact hE2)
   ·go_enter Tryz.func5,Tryz.ntmps5
    go_upto_region 4 with (first|(go_at_call 13;(with_reducible refine(HF.out _ ?_).mono ?_);exact eA;rintro e w1 ⟨rfl,hx1⟩;obtain⟨⟨hc1,hf1⟩,z1_0⟩:=cK1 w hx1)|(go_at_call 14;(with_reducible refine(HW2.out _ ?_).mono ?_);exact eA;rintro e w2 ⟨vg2,vp2,L2,rfl,hg2,hL2,ho2,hx2⟩;obtain⟨⟨ga2,gn2,gc2,rfl⟩,pa2,pn2,pc2,rfl⟩:=And.intro hg2.form3 (form3 ho2.own.pls);obtain⟨hc2,hf2⟩:=hx2.cells))
    have X2:Ext w w2:=eA;have HB1:=hd9 (fun(W:Y) (hW:Ext w2 W)=>zcP W _ _ g ps a p pin (hg2.pts.ext' hW) (ho2.own.pls.ext' hW) (HG.out.ext (X2.trans hW)) l0 ha pn0 pn1 hok9.2.2 hok9.1 hok9.2.1);have HB2:=hd9 (fun(W:Y) (hW:Ext w2 W)=>zeS W _ _ g ps a (pin+md) (hg2.pts.ext' hW) (ho2.own.pls.ext' hW) (HG.out.ext (X2.trans hW)));obtain⟨e2,he2⟩:=gX (bedsE g ps a (pin+md))
    by_cases hz:e2=0
    ·have hm0:more<0:=by
      rw [he2]at hE2;omega
     have HB3:=hd9 (fun(W:Y) (hW:Ext w2 W)=>(HB2.out W hW).mono (fun e w' h=>(show (∃a n c,e = .returned (.tuple #[O a n c,V I 0]))∧Ext W w' from by
      rcases h with ⟨h9,_,hx⟩|⟨_,_,_,_,_,_,_,_,v,rfl,ho,hx⟩
      ·exact absurd (he2.trans hz) h9
      ·obtain⟨a,n,c,rfl⟩:=ho.form3
       exact⟨⟨_,_,_,rfl⟩,hx⟩)))
     clear hg2 hL2 ho2 he2 hE2 hz HW2 HF Hfew HB2 l0 ha hok9 hal
     go_wp2_with(first|(go_at_call 16;(with_reducible refine(HB1.out _ ?_).mono ?_);exact eA;rintro e w3 ⟨v3,rfl,ho3,hx3⟩;obtain⟨a3,n3,c3,rfl⟩:=ho3.form3;obtain⟨hc3,hf3⟩:=hx3.cells)|(go_at_call 16;(with_reducible refine(HB3.out _ ?_).mono ?_);exact eA;rintro e w4 ⟨⟨a4,n4,c4,rfl⟩,hx4⟩;obtain⟨hc4,hf4⟩:=hx4.cells)|(go_at_call 10;(with_reducible refine(HA.out _ ?_).mono ?_);exact eA;rintro e w9 ⟨rfl,hx9⟩))
     go_ret;exact⟨rfl,eA⟩
    ·have HB3:=hd9 (fun(W:Y) (hW:Ext w2 W)=>(HB2.out W hW).mono (fun e w' h=>(show (e = .returned (.tuple #[O Z 0 0,V I e2]))∧Ext W w' from by
      rcases h with ⟨h9,h8,hx⟩|⟨h9,_⟩
      ·rw [he2]at h8;exact⟨h8,hx⟩
      ·exact absurd (he2.symm.trans h9) hz)))
     have h1b:(e2 != 0)=true:=by simpa using hz
     clear hg2 hL2 ho2 he2 hE2 hz HW2 HF Hfew HB2 l0 ha hok9 hal
     go_wp2_with(first|(go_at_call 16;(with_reducible refine(HB1.out _ ?_).mono ?_);exact eA;rintro e w3 ⟨v3,rfl,ho3,hx3⟩;obtain⟨a3,n3,c3,rfl⟩:=ho3.form3;obtain⟨hc3,hf3⟩:=hx3.cells)|(go_at_call 16;(with_reducible refine(HB3.out _ ?_).mono ?_);exact eA;rintro e w4 ⟨rfl,hx4⟩;obtain⟨hc4,hf4⟩:=hx4.cells)|(go_at_call 10;(with_reducible refine(HA.out _ ?_).mono ?_);exact eA;rintro e w9 ⟨rfl,hx9⟩))
     go_ret;exact⟨rfl,eA⟩
  ·go_enter Tryz.func5,Tryz.ntmps5
   go_upto_region 4 with (first|(go_at_call 13;(with_reducible refine(HF.out _ ?_).mono ?_);exact eA;rintro e w1 ⟨rfl,hx1⟩;obtain⟨⟨hc1,hf1⟩,z1_0⟩:=cK1 w hx1)|(go_at_call 14;(with_reducible refine(HW2.out _ ?_).mono ?_);exact eA;rintro e w2 ⟨vg2,vp2,L2,rfl,hg2,hL2,ho2,hx2⟩;obtain⟨⟨ga2,gn2,gc2,rfl⟩,pa2,pn2,pc2,rfl⟩:=And.intro hg2.form3 (form3 ho2.own.pls);obtain⟨hc2,hf2⟩:=hx2.cells))
   have X2:Ext w w2:=eA;have HB1:=hd9 (fun(W:Y) (hW:Ext w2 W)=>(zeS W _ _ g ps i pin (hg2.pts.ext' hW) (ho2.own.pls.ext' hW) (HG.out.ext (X2.trans hW))).mono (fun e w' h=>h.resolve_right (fun h9=>hE1 h9.1)))
   have HB2:=hd9 (fun(pin:Int) (W:Y) (hW:Ext w2 W)=>(zeS W _ _ g ps i pin (hg2.pts.ext' hW) (ho2.own.pls.ext' hW) (HG.out.ext (X2.trans hW))).mono (fun e w' h=>(show (∃a n c k,e = .returned (.tuple #[O a n c,V I k]))∧Ext W w' from by
    rcases h with ⟨_,rfl,hx⟩|⟨_,_,_,_,_,_,_,_,v,rfl,ho,hx⟩
    ·exact⟨⟨_,_,_,_,rfl⟩,hx⟩
    ·obtain⟨a,n,c,rfl⟩:=ho.form3
     exact⟨⟨_,_,_,_,rfl⟩,hx⟩)))
   obtain⟨e1,he1⟩:=gX (bedsE g ps i pin);rw [he1]at HB1 hE1;have h1b:(e1 != 0)=true:=by simpa using hE1
   clear hg2 hL2 ho2 he1 hE1 HW2 HF Hfew
   go_wp2_with(first|(go_at_call 16;(with_reducible refine(HB1.out _ ?_).mono ?_);exact eA;rintro e w3 ⟨-,rfl,hx3⟩;obtain⟨hc3,hf3⟩:=hx3.cells)|(go_at_call 16;(with_reducible refine(HB2.out _ _ ?_).mono ?_);exact eA;rintro e w4 ⟨⟨a4,n4,c4,k4,rfl⟩,hx4⟩;obtain⟨hc4,hf4⟩:=hx4.cells)|(go_at_call 10;(with_reducible refine(HA.out _ ?_).mono ?_);exact eA;rintro e w9 ⟨rfl,hx9⟩))
   go_ret;exact⟨rfl,eA⟩
end
section
open Go.ChangeShapes Go.WideShapes Go.Deep
section
variable {H:Type} {enc:TypeId×Value→H} {P:Program} {w:World} {spare:Nat→Bool} {held:Bool}
theorem zgY {k:Nat}:∀{css:List (List Value)} {j:Nat} {x:Value},0<k→(∀c∈css,c.length=k)→css.flatten[j]?=some x→∃d,css[j / k]?=some d∧d[j % k]?=some x
 | [],j,x,_,_,h=>by simp at h
 | c::css,j,x,hk,hc,h=>by
  have hl:c.length=k:=hc c (by simp);rw [List.flatten_cons]at h
  by_cases hj:j<k
  ·rw [List.getElem?_append_left (by omega)]at h
   rw [Nat.div_eq_of_lt hj,Nat.mod_eq_of_lt hj];exact⟨c,rfl,h⟩
  ·rw [List.getElem?_append_right (by omega),hl]at h
   obtain⟨d,h1,h2⟩:=zgY (j:=j-k) hk (fun c hc'=>hc c (mC _ hc')) h;rw [Nat.div_eq_sub_div hk (by omega),Nat.mod_eq_sub_mod (by omega)];exact⟨d,by simpa using h1,h2⟩
theorem zd2 {t e:TypeId} {k fuel:Nat} {cs:List Value} {x:DataW H×List MemPlace} (ht:P.underlying t=some (.slice e)) (hk:P.cellsOf e=k) (hk0:0<k)
  (h:DataW.trod enc P w 0 spare held fuel t cs=some x) :
  ∃(a:Option Addr) (n c:Nat) (T:TypeId) (css:List (List Value)),cs=[.slice a n c]∧css.length=n∧(∀d∈css,d.length=k)∧Rd w T k (.slice a n c) n css.flatten ∧
   ∀d∈css,∃m y,DataW.trod enc P w 0 spare held m e d=some y:=by
 rcases open_slice ht h with ⟨rfl,_⟩|⟨a,len,cap,m,f,D,Pl,rfl,_,hl,hm,hmm,_,hel⟩
 ·exact⟨none,0,0,0,[],rfl,rfl,by simp,Rd.nil w 0 k,by simp⟩
 ·have hlm:len≤m:=by rw [hmm];split<;>omega
  rw [hk]at hel;obtain⟨F,hF⟩:=choose_lt (α:=List Value) (n:=len) (p:=fun i d=>w.cells? 0 (a.add (i*k)) k=some d∧DataW.trod enc P w 0 spare held f e d=some (D i,Pl i)) (fun i hi=>hel i (by omega))
  have hlen:∀d∈(List.range len).map F,d.length=k:=by
   intro d hd;obtain⟨i,hi,rfl⟩:=List.mem_map.1 hd;exact(World.cells?_some (hF i (List.mem_range.1 hi)).1).2.1
  have hall:∀d∈(List.range len).map F,∃m y,DataW.trod enc P w 0 spare held m e d=some y:=by
   intro d hd;obtain⟨i,hi,rfl⟩:=List.mem_map.1 hd;exact⟨f,_,(hF i (List.mem_range.1 hi)).2⟩
  by_cases h0:len=0
  ·subst h0
   exact⟨some a,0,cap,0,[],rfl,rfl,by simp,⟨by simp,some a,cap,rfl,hl,hm,.inl ⟨rfl,fun e=>by cases e⟩⟩,by simp⟩
  ·have c0:=(World.cells?_some (hF 0 (by omega)).1).2.2 0 hk0
   have hcl:=hlen (F 0) (List.mem_map.2 ⟨0,List.mem_range.2 (by omega),rfl⟩);obtain⟨v0,hv0⟩:∃v,(F 0)[0]?=some v:=⟨(F 0)[0]'(by omega),by simp⟩;rw [hv0]at c0;obtain⟨b,o,sp⟩:=a
   have hsp:sp=none:=by
    have:=World.cell?_spot c0
    simpa [Addr.add] using this
   subst hsp;have e0:((⟨b,o,none⟩:Addr).add (0*k)).add 0=⟨b,o,none⟩:=by simp [Addr.add]
   rw [e0]at c0
   obtain⟨blk,T,fr,hblk⟩:∃blk T fr,w.heap[b]?=some (.cells blk T fr):=by
    unfold World.cell? at c0
    split at c0
    ·rename_i blk T fr hb;exact⟨blk,T,fr,hb⟩
    ·cases c0
   refine⟨some ⟨b,o,none⟩,len,cap,T,(List.range len).map F,rfl,by simp,hlen,⟨?_,some ⟨b,o,none⟩,cap,rfl,hl,hm,.inr ⟨b,o,blk,fr,rfl,hblk,fun j y hj=>?_⟩⟩,hall⟩
   ·rw [zaq hlen];simp
   ·obtain⟨d,h1,h2⟩:=zgY hk0 hlen hj
    obtain⟨hi,rfl⟩:j / k<len∧F (j / k)=d:=by
     rw [lP]at h1
     by_cases hi:j / k<len
     ·rw [List.getElem?_range hi]at h1
      exact⟨hi,Option.some.inj h1⟩
     ·rw [List.getElem?_eq_none (by simpa using hi)]at h1
      cases h1
    have c1:=(World.cells?_some (hF (j / k) hi).1).2.2 (j % k) (Nat.mod_lt _ hk0);rw [h2]at c1
    have e1:((⟨b,o,none⟩:Addr).add (j / k*k)).add (j % k)=⟨b,o+j,none⟩:=by
     rw [add_add];have:j / k*k+j % k=j:=by rw [Nat.mul_comm];exact Nat.div_add_mod j k
     rw [this];unfold Addr.add
     split
     ·rename_i h;rw [h];rfl
     ·rfl
    rw [e1]at c1
    simpa [World.cell?,hblk] using c1
end
end
section
open Go.ChangeShapes Go.WideShapes Go.Deep
def flds (P:Program) (t:TypeId):Array Field:=match P.underlying t with|some (.struct fs)=>fs|_=>#[]
section
variable {H:Type} {enc:TypeId×Value→H} {w:World} {spare:Nat→Bool} {held:Bool}
theorem fld {P:Program} {fs:Array Field} {n i ti oi ki:Nat} {cs:List Value} {xs:List (DataW H×List MemPlace)} (hx:xs.length=fs.size)
  (hf:∀(i:Nat) (f:Field),fs[i]?=some f→DataW.trod enc P w 0 spare held n f.type ((cs.drop f.offset).take (P.cellsOf f.type))=xs[i]?)
  (hi:fs[i]?.map (fun f=>(f.type,f.offset,P.cellsOf f.type))=some (ti,oi,ki)):∃y,DataW.trod enc P w 0 spare held n ti ((cs.drop oi).take ki)=some y:=by
 cases h:fs[i]? with
 | none=>rw [h]at hi;cases hi
 | some f =>
  rw [h]at hi;simp only [Option.map_some,Option.some.injEq,Prod.mk.injEq]at hi;obtain⟨rfl,rfl,rfl⟩:=hi;have hl:i<xs.length:=by rw [hx];exact(Array.getElem?_eq_some_iff.1 h).1
  exact⟨xs[i],by rw [hf i f h];simp [hl]⟩
theorem zel:Tryz.prog.underlying 3=some (.int .i64):=by kernel_rfl
theorem znh:Tryz.prog.underlying 5=some (.int .u8):=by kernel_rfl
theorem zmE:Tryz.prog.underlying 9=some .string:=by kernel_rfl
theorem znf:Tryz.prog.underlying 24=some (.struct (flds Tryz.prog 24)):=by kernel_rfl
theorem zng:Tryz.prog.underlying 26=some (.struct (flds Tryz.prog 26)):=by kernel_rfl
theorem zlO:Tryz.prog.underlying 28=some (.struct (flds Tryz.prog 28)):=by kernel_rfl
theorem zlP:Tryz.prog.underlying 46=some (.struct (flds Tryz.prog 46)):=by kernel_rfl
theorem zmD:Tryz.prog.underlying 22=some (.slice 24):=by kernel_rfl
theorem zmC:Tryz.prog.underlying 44=some (.slice 28):=by kernel_rfl
theorem zbK {n:Nat} {cs:List Value} {y:DataW H×List MemPlace} (h:DataW.trod enc Tryz.prog w 0 spare held n 24 cs=some y):∃p:Int×Int,cs=[.int .i64 p.1,.int .i64 p.2]:=by
 obtain⟨xs,m,_,_,hl,hx,hf⟩:=DataW.trod_struct znf h;have hc:Tryz.prog.cellsOf 24=2:=by kernel_rfl
 rw [hc]at hl;obtain⟨y0,h0⟩:=fld hx hf (i:=0) (ti:=3) (oi:=0) (ki:=1) (by kernel_rfl);obtain⟨y1,h1⟩:=fld hx hf (i:=1) (ti:=3) (oi:=1) (ki:=1) (by kernel_rfl)
 match cs,hl with
 | [a,b],_ =>
  obtain⟨x,e0,_⟩:=DataW.trod_int zel h0;obtain⟨z,e1,_⟩:=DataW.trod_int zel h1;simp at e0 e1;subst e0 e1;exact⟨(x,z),rfl⟩
theorem ziu {α:Type} {Q:List Value→α→Prop}:∀{css:List (List Value)},(∀d∈css,∃a,Q d a)→∃l:List α,css.length=l.length∧∀(i:Nat) d a,css[i]?=some d→l[i]?=some a→Q d a
 | [],_=>⟨[],rfl,fun i d a h=>by simp at h⟩
 | c::css,h=>by
  obtain⟨a,ha⟩:=h c (by simp);obtain⟨l,hl,has⟩:=ziu (css:=css) (fun d hd=>h d (mC _ hd));refine⟨a::l,by simp [hl],fun i d b hd hb=>?_⟩
  cases i with
  | zero=>simp at hd hb;subst hd hb;exact ha
  | succ i=>exact has i d b (by simpa using hd) (by simpa using hb)
theorem zci {n:Nat} {v:Value} {y:DataW H×List MemPlace} (h:DataW.trod enc Tryz.prog w 0 spare held n 22 [v]=some y):∃ps,IsPr w v ps:=by
 obtain⟨a,m,c,T,css,e,hl,hk,hr,hd⟩:=zd2 zmD (k:=2) (by kernel_rfl) (by omega) h
 cases e
 obtain⟨ps,hps,hq⟩:=ziu (α:=Int×Int) (Q:=PP w) (fun d h=>by
  obtain⟨f,y,hy⟩:=hd d h;obtain⟨p,hp⟩:=zbK hy;exact⟨p,hp⟩)
 exact⟨ps,T,css,hps,hk,by rw [←hps,hl];exact hr,hq⟩
theorem zch {n:Nat} {cs:List Value} {y:DataW H×List MemPlace} (h:DataW.trod enc Tryz.prog w 0 spare held n 28 cs=some y):∃p:Pl,PPr w cs p:=by
 obtain⟨xs,m,_,_,hl,hx,hf⟩:=DataW.trod_struct zlO h;have hc:Tryz.prog.cellsOf 28=10:=by kernel_rfl
 rw [hc]at hl;obtain⟨y0,h0⟩:=fld hx hf (i:=0) (ti:=26) (oi:=0) (ki:=6) (by kernel_rfl);obtain⟨y1,h1⟩:=fld hx hf (i:=1) (ti:=3) (oi:=6) (ki:=1) (by kernel_rfl);obtain⟨y2,h2⟩:=fld hx hf (i:=2) (ti:=24) (oi:=7) (ki:=2) (by kernel_rfl);obtain⟨y3,h3⟩:=fld hx hf (i:=3) (ti:=5) (oi:=9) (ki:=1) (by kernel_rfl)
 match cs,hl with
 | [a0,a1,a2,a3,a4,a5,a6,a7,a8,a9],_ =>
  obtain⟨zs,k,_,_,_,hz,hg⟩:=DataW.trod_struct zng h0;obtain⟨z0,g0⟩:=fld hz hg (i:=0) (ti:=9) (oi:=0) (ki:=1) (by kernel_rfl);obtain⟨z1,g1⟩:=fld hz hg (i:=1) (ti:=22) (oi:=1) (ki:=1) (by kernel_rfl);obtain⟨z2,g2⟩:=fld hz hg (i:=2) (ti:=3) (oi:=2) (ki:=1) (by kernel_rfl);obtain⟨z3,g3⟩:=fld hz hg (i:=3) (ti:=3) (oi:=3) (ki:=1) (by kernel_rfl);obtain⟨z4,g4⟩:=fld hz hg (i:=4) (ti:=24) (oi:=4) (ki:=2) (by kernel_rfl);obtain⟨nm,e0,_⟩:=DataW.trod_string zmE g0;obtain⟨sh,hsh⟩:=zci g1;obtain⟨de,e2,_⟩:=DataW.trod_int zel g2;obtain⟨dn,e3,_⟩:=DataW.trod_int zel g3;obtain⟨gr,e4⟩:=zbK g4;obtain⟨wy,e6,_⟩:=DataW.trod_int zel h1;obtain⟨at9,e7⟩:=zbK h2;obtain⟨sk,e9,_,wsk⟩:=DataW.trod_int znh h3;simp at e0 e2 e3 e4 e6 e7 e9;obtain⟨rfl,rfl⟩:=e4;obtain⟨rfl,rfl⟩:=e7;subst e0 e2 e3 e6 e9;refine⟨⟨nm,sh,de,dn,gr.1,gr.2,wy,at9.1,at9.2,sk⟩,_,rfl,hsh,?_⟩;have w9:decide (IntKind.u8.min≤sk)=true:=by unfold Lit.wf at wsk;simp only [Bool.and_eq_true]at wsk;exact wsk.1
  have w8:IntKind.u8.min=0:=by decide
  rw [w8]at w9;exact of_decide_eq_true w9
theorem zdW {n:Nat} {v:Value} {y:DataW H×List MemPlace} (h:DataW.trod enc Tryz.prog w 0 spare held n 44 [v]=some y):∃ps,IsWr w v ps:=by
 obtain⟨a,m,c,T,css,e,hl,hk,hr,hd⟩:=zd2 zmC (k:=10) (by kernel_rfl) (by omega) h
 cases e
 obtain⟨ps,hps,hq⟩:=ziu (α:=Pl) (Q:=PPr w) (fun d h=>by
  obtain⟨f,y,hy⟩:=hd d h;exact zch hy)
 exact⟨ps,T,css,hps,hk,by rw [←hps,hl];exact hr,hq⟩
theorem zf8 {r:Reach} {b0:Nat} {v:Value} {d:DataW H} {p:List MemPlace} (hv:Value.okWide Tryz.prog w r b0 46 v) (h:DataW.Trod enc Tryz.prog w 0 spare held 46 v d p) :
  ∃vg vp g ps,v = .agg #[vg,vp]∧IsPr w vg g∧IsWr w vp ps:=by
 obtain⟨cs,rfl,hsz⟩:=okWide_struct zlP hv;have hc:Tryz.prog.cellsOf 46=2:=by kernel_rfl
 rw [hc]at hsz
 obtain⟨c0,c1,rfl⟩:∃a b,cs=#[a,b]:=by
  match cs,hsz with
  | ⟨[a,b]⟩,_=>exact⟨a,b,rfl⟩
 obtain⟨fuel,hf⟩:=h;obtain⟨xs,m,_,_,hl,hx,hg⟩:=DataW.trod_struct zlP hf;obtain⟨y0,h0⟩:=fld hx hg (i:=0) (ti:=22) (oi:=0) (ki:=1) (by kernel_rfl);obtain⟨y1,h1⟩:=fld hx hg (i:=1) (ti:=44) (oi:=1) (ki:=1) (by kernel_rfl);obtain⟨g,h2⟩:=zci (v:=c0) h0;obtain⟨ps,h3⟩:=zdW (v:=c1) h1;exact⟨c0,c1,g,ps,rfl,h2,h3⟩
end
end
section
open Go Go.ChangeShapes Go.WideShapes Go.ChangeAt Go.RowKit
theorem zk5:ownKnob Tryz.prog.godebug=Z:=by kernel_rfl
theorem g_ways:Tryz.prog.globalNamed "copestone/stone.ways"=M 0:=by kernel_rfl
theorem t_ways:(Tryz.prog.globals[0]?).map (·.type)=M 224:=by kernel_rfl
theorem zln:Tryz.prog.underlying 224=M (.array 4 223):=by kernel_rfl
theorem zdp:Tryz.prog.underlying 223=M (.func #[33] #[33] false):=by kernel_rfl
theorem zkU:laidOutB Tryz.prog=true:=by kernel_rfl
abbrev vars3:List (String×DataW Unit):=[("unicode/utf8.acceptRanges",Rows.laid_unicode_utf8_acceptRanges),("copestone/stone.ways",Rows.laid_copestone_stone_ways),("unicode/utf8.first",Rows.laid_unicode_utf8_first)]
abbrev vars2:List (String×DataW Unit):=[("unicode/utf8.acceptRanges",Rows.laid_unicode_utf8_acceptRanges),("unicode/utf8.first",Rows.laid_unicode_utf8_first)]
theorem zhR {W:Y} (h:laidMetH Tryz.prog vars3 W):Gw W:=by
 obtain⟨g,t,cs,fuel,p,hg,ht,hv,hd⟩:=h.funcs (mC _ (List.mem_cons_self ..));obtain rfl:=Option.some.inj (g_ways.symm.trans hg);obtain rfl:=Option.some.inj (t_ways.symm.trans ht);have hd':DataW.trod (funcToken Tryz.prog) Tryz.prog W 0 (fun _=>true) true fuel 224 cs.toList=M (.agg [.held [99,111,112,101,115,116,111,110,101,47,115,116,111,110,101,46,119,97,121,115,36,49],.held [99,111,112,101,115,116,111,110,101,47,115,116,111,110,101,46,119,97,121,115,36,50],.held [99,111,112,101,115,116,111,110,101,47,115,116,111,110,101,46,119,97,121,115,36,51],.held [99,111,112,101,115,116,111,110,101,47,115,116,111,110,101,46,119,97,121,115,36,52]],p):=hd;obtain⟨xs,m,_,hx,hl,hxl,hf⟩:=DataW.trod_array zln hd';have c1:Tryz.prog.cellsOf 223=1:=by kernel_rfl
 have c4:Tryz.prog.cellsOf 224=4:=by kernel_rfl
 rw [c4]at hl;rw [c1]at hf;obtain⟨cs⟩:=cs;have hl':cs.length=4:=hl
 match cs,hl',xs,hxl with
 | [v0,v1,v2,v3],_,[⟨y0,q0⟩,⟨y1,q1⟩,⟨y2,q2⟩,⟨y3,q3⟩],_ =>
  simp only [Prod.mk.injEq,List.map_cons,List.map_nil,DataW.agg.injEq,List.cons.injEq,and_true]at hx;obtain⟨⟨rfl,rfl,rfl,rfl⟩,_⟩:=hx;have r0:=hf 0 (by omega);have r1:=hf 1 (by omega);have r2:=hf 2 (by omega);have r3:=hf 3 (by omega);have k0:=World.var?_cell hg hv 0;have k1:=World.var?_cell hg hv 1;have k2:=World.var?_cell hg hv 2;have k3:=World.var?_cell hg hv 3;obtain rfl:=func_of_trod (f0:=264) zdp (by kernel_rfl) r0;obtain rfl:=func_of_trod (f0:=265) zdp (by kernel_rfl) r1;obtain rfl:=func_of_trod (f0:=266) zdp (by kernel_rfl) r2;obtain rfl:=func_of_trod (f0:=267) zdp (by kernel_rfl) r3;have e0:W.cell? ⟨0,0,Z⟩=M (.func (.func 264) #[] #[]):=by simpa using k0
  exact⟨World.block_lt_of_cell? W _ (by rw [e0]),e0,by simpa using k1,by simpa using k2,by simpa using k3⟩
noncomputable def wit (os:Os):Y:=(World.doorLaid Tryz.prog 14 os).layVars Tryz.prog vars2
theorem zmI (os:Os) (args:Array N):laidMetH Tryz.prog vars3 ((wit os).forCall (fun _ _=>0) ⟨#[],args,[]⟩).memory:=by
 refine laidMetH_of_parts3 (fuel:=8) ?_ (by kernel_rfl) (by kernel_rfl)
 exact laidMet_layVars (w0:=World.doorLaid Tryz.prog 14 os) ["unicode/utf8.acceptRanges", "unicode/utf8.first"] [] (by rfl) (by kernel_rfl) (by kernel_rfl) LaidIn.none
theorem zmH {k:IntKind} {n:Int} (h:(Lit.int k n).wf=true):k.min≤n∧n≤k.max:=by
 unfold Lit.wf at h;simp only [Bool.and_eq_true,decide_eq_true_eq]at h;exact h
theorem zmK {H:Type} {enc:TypeId×N→H} {w:Y} {spare:Nat→Bool} {held:Bool} {r:Reach} {b0:Nat} {v:N} {d:DataW H} {p:List MemPlace} (hv:Value.okWide Tryz.prog w r b0 28 v) (h:DataW.Trod enc Tryz.prog w 0 spare held 28 v d p) :
  ∃v' q,v = .agg (plc q v')∧IsPr w v' q.shape∧0≤q.skin:=by
 obtain⟨cs,rfl,hsz⟩:=okWide_struct zlO hv;obtain⟨fuel,hf⟩:=h;obtain⟨q,v',e,h1,h2⟩:=zch hf;have e2:cs=plc q v':=Array.toList_inj.1 e;exact⟨v',q,by rw [e2],h1,h2⟩
end
end Go.Proofs.YtodpfeaihohpjaaGreatDoor.Cop
