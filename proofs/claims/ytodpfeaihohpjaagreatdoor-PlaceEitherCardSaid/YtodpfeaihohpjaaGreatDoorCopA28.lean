/- Part 29: contracts of what the law calls. -/
import Derived.Test.YtodpfeaihohpjaaGreatDoorCopA27
import Derived.Test.YtodpfeaihohpjaaGreatDoorCopA22
import Derived.Test.YtodpfeaihohpjaaGreatDoorCopA16
import Derived.Test.YtodpfeaihohpjaaGreatDoorCopA05
import Derived.ProofKit
import Derived.Deep.Slices
import Derived.Test.YtodpfeaihohpjaaGreatDoorRows
import Derived.Test.YtodpfeaihohpjaaGreatDoorCards
import Derived.Test.YtodpfeaihohpjaaGreatDoorTie
import Derived.LaidMore
import Derived.Lay
import Derived.Stop.Joined
import Derived.OpenShut
import Derived.SevenTiedAt
set_option maxRecDepth 1000000
set_option maxHeartbeats 16000000
set_option linter.unusedSimpArgs false
set_option linter.unusedVariables false
open Go.Value renaming int→O,slice→X
open Go.IntKind renaming i64→Y,u8→I
open Option renaming none→Z
namespace Go.Proofs.YtodpfeaihohpjaaGreatDoor.Cop
section
open Go.RowKit Go.Shelf Go.Sort Go.Lib
attribute [local go_sem] Oper.semAt_some
theorem znT (x:Int):Bd 1000 (x.tmod 1000):=by
 unfold Bd
 by_cases h:x<0
 ·have h1:=Int.tmod_nonneg (a:=-x) 1000 (by omega)
  have h2:=Int.tmod_lt_of_pos (-x) (b:=1000) (by decide);rw [Int.neg_tmod]at h1 h2;omega
 ·have h1:=Int.tmod_nonneg (a:=x) 1000 (by omega)
  have h2:=Int.tmod_lt_of_pos x (b:=1000) (by decide);omega
theorem znQ (p q:Pl):relE q p=relE p q:=by
 unfold relE
 by_cases h1:placedOk p=true<;>by_cases h2:placedOk q=true<;>simp [h1,h2]
theorem znR {p q:Pl} (h:relE p q=0):placedOk p=true∧placedOk q=true:=by
 unfold relE at h
 by_cases h1:placedOk p=true∧placedOk q=true
 ·exact h1
 ·rw [if_neg h1]at h;cases h
theorem znO {p:Pl} (h:placedOk p=true):Bd 100000 p.ax∧Bd 100000 p.az:=by
 unfold placedOk pfarB at h;simp only [Bool.and_eq_true,Bool.not_eq_true',Bool.or_eq_false_iff,decide_eq_false_iff_not]at h;unfold Bd;omega
theorem znN {p q:Pl} (h:relE p q=0):1≤relK p q∧relK p q≤5∧relK q p=mirB (relK p q)∧Bd 100000 p.ax∧Bd 100000 p.az∧Bd 100000 q.ax∧Bd 100000 q.az ∧
  ∀d:Int×Int,relE (mvP d p) (mvP d q)=0→relK (mvP d p) (mvP d q)=relK p q:=by
 obtain⟨h1,h2⟩:=znR h;have e1:relK p q=relP p q:=if_pos ⟨h1,h2⟩;have e2:relK q p=relP q p:=if_pos ⟨h2,h1⟩;rw [e1,e2];have b:=znI p q;refine⟨b.1,b.2,znD h1 h2,(znO h1).1,(znO h1).2,(znO h2).1,(znO h2).2,fun d hd=>?_⟩;obtain⟨k1,k2⟩:=znR hd;have e3:relK (mvP d p) (mvP d q)=relP (mvP d p) (mvP d q):=if_pos ⟨k1,k2⟩;rw [e3];exact znJ h1 h2 k1 k2
theorem znS {k:Int} (h1:1≤k) (h2:k≤5) (h:k.toNat<([O I 0,O I 2,O I 1,O I 4,O I 3,O I 5]:List Value).length):([O I 0,O I 2,O I 1,O I 4,O I 3,O I 5]:List Value)[k.toNat]'h=O I (mirB k):=by
 have:k=1∨k=2∨k=3∨k=4∨k=5:=by omega
 rcases this with rfl|rfl|rfl|rfl|rfl<;>rfl
theorem znP (w:World) (v v':Value) (p q:Pl) (x z:Int) (hv:IsPr w v p.shape) (hv2:IsPr w v' q.shape) (hk:0≤p.skin) (hk2:0≤q.skin) (hgw:Gw w) (hx:Bd 40000 x) (hz:Bd 40000 z) :
  Calls Tryz.prog 3 #[.agg (plc p v),.agg (plc q v'),O .i16 x,O .i16 z] w fun e w'=>e = .returned (.bool true)∧Ext w w':=by
 have HL:=hd9 (fun(W:World) (hW:Ext w W)=>zg8 W p.name v p.shape p.depth p.density p.gx p.gz (hv.ext' hW));have HM:=hd9 (fun(W:World) (hW:Ext w W)=>zg8 W q.name v' q.shape q.depth q.density q.gx q.gz (hv2.ext' hW));have HP:=hd9 (fun(hl:longB p=false) (W:World) (hW:Ext w W)=>zdV W p.name v p.shape p.depth p.density p.gx p.gz p.way p.ax p.az p.skin (hv.ext' hW) (by unfold longB at hl;simp at hl;omega));have HQ:=hd9 (fun(hl:longB q=false) (W:World) (hW:Ext w W)=>zdV W q.name v' q.shape q.depth q.density q.gx q.gz q.way q.ax q.az q.skin (hv2.ext' hW) (by unfold longB at hl;simp at hl;omega));have HA:=hd9 (fun(W:World) (hW:Ext w W)=>zcM W (hgw.ext hW));have HG:=hd9 hgw;have Hlp:=hd9 (show longB p=(decide (20<p.shape.length) || decide (40<p.name.size))from rfl);have Hlq:=hd9 (show longB q=(decide (20<q.shape.length) || decide (40<q.name.size))from rfl);obtain⟨sa,sc1,rfl⟩:=hv.form;obtain⟨ta,tc1,rfl⟩:=hv2.form;obtain⟨sn,hsn⟩:=gX p.shape.length;obtain⟨tn,htn⟩:=gX q.shape.length;rw [hsn]at HL HP Hlp;rw [htn]at HM HQ Hlq;rw [hsn,htn];obtain⟨lp,hlp⟩:=gX ((decide (20<sn) || decide (40<p.name.size)));rw [hlp]at HL Hlp;obtain⟨lq,hlq⟩:=gX ((decide (20<tn) || decide (40<q.name.size)));rw [hlq]at HM Hlq;have Hk:=hd9 hk;have Hk2:=hd9 hk2;clear hv hv2 hgw hsn htn hlp hlq hk hk2;unfold plc
 by_cases hbad:lp=true∨lq=true
 ·clear HP HQ
  have key:lp=true∨(lp=false∧lq=true):=by
   rcases hbad with h|h
   ·exact .inl h
   ·cases lp
    ·exact .inr ⟨rfl,h⟩
    ·exact .inl rfl
  clear hbad
  rcases key with rfl|⟨rfl,rfl⟩
  all_goals
   go_enter Tryz.func3,Tryz.ntmps3
   go_wp2_with(first|(go_at_call 9;(with_reducible refine(HL.out _ ?_).mono ?_);exact eA;rintro e w1 ⟨rfl,hx1⟩;obtain⟨⟨hc1,hf1⟩,z1_0,z1_1⟩:=cK2 w hx1)|(go_at_call 9;(with_reducible refine(HM.out _ ?_).mono ?_);exact eA;rintro e w2 ⟨rfl,hx2⟩)|(go_at_call 10;(with_reducible refine(HA.out _ ?_).mono ?_);exact eA;rintro e w3 ⟨rfl,hx3⟩))
   go_ret;exact⟨rfl,eA⟩
 ·obtain⟨rfl,rfl⟩:lp=false∧lq=false:=by
   cases lp<;>cases lq<;>simp at hbad ⊢
  have HP2:=hd9 (HP.out Hlp.out);have HQ2:=hd9 (HQ.out Hlq.out);clear hbad Hlp Hlq HP HQ;go_enter Tryz.func3,Tryz.ntmps3
  go_upto_region 3 with (first|(go_at_call 9;(with_reducible refine(HL.out _ ?_).mono ?_);exact eA;rintro e w1 ⟨rfl,hx1⟩;obtain⟨⟨hc1,hf1⟩,z1_0,z1_1⟩:=cK2 w hx1)|(go_at_call 9;(with_reducible refine(HM.out _ ?_).mono ?_);exact eA;rintro e w2 ⟨rfl,hx2⟩;obtain⟨⟨hc2,hf2⟩,z2_0,z2_1⟩:=cK2 w hx2))
  have X2:Ext w w2:=eA
  have C2:CellL [(⟨w.heap.size,0,Z⟩,.string p.name),(⟨w.heap.size,1,Z⟩,X sa sn sc1),(⟨w.heap.size,2,Z⟩,O Y p.depth),(⟨w.heap.size,3,Z⟩,O Y p.density),(⟨w.heap.size,4,Z⟩,O Y p.gx),(⟨w.heap.size,5,Z⟩,O Y p.gz),(⟨w.heap.size,6,Z⟩,O Y p.way),(⟨w.heap.size,7,Z⟩,O Y p.ax),(⟨w.heap.size,8,Z⟩,O Y p.az),(⟨w.heap.size,9,Z⟩,O I p.skin),(⟨w.heap.size+1,0,Z⟩,.string q.name),(⟨w.heap.size+1,1,Z⟩,X ta tn tc1),(⟨w.heap.size+1,2,Z⟩,O Y q.depth),(⟨w.heap.size+1,3,Z⟩,O Y q.density),(⟨w.heap.size+1,4,Z⟩,O Y q.gx),(⟨w.heap.size+1,5,Z⟩,O Y q.gz),(⟨w.heap.size+1,6,Z⟩,O Y q.way),(⟨w.heap.size+1,7,Z⟩,O Y q.ax),(⟨w.heap.size+1,8,Z⟩,O Y q.az),(⟨w.heap.size+1,9,Z⟩,O I q.skin)] w2.drew:=by
   refine⟨?_,?_,?_,?_,?_,?_,?_,?_,?_,?_,?_,?_,?_,?_,?_,?_,?_,?_,?_,?_,trivial⟩<;>go_simp
  clear hx1 hx2 hc1 hf1 hc2 hf2 z1_0 z1_1 z2_0 z2_1 HL HM;refine zbN [(4,9,.cells zpl 37 (0,0)),(5,10,.cells zpl 37 (0,0))] _ 6 3 (fun i=>decide (5<i)) (fun _=>false) (by kernel_rfl) (by kernel_rfl) (by kernel_rfl) (by simp) (by kernel_rfl) (by intro x hx;simp only [List.mem_cons,List.not_mem_nil,or_false]at hx;rcases hx with rfl|rfl<;>exact⟨_,rfl,rfl,fun a W=>by go_simp⟩) (fun _ _ d _ _ h=>by cases d<;>exact h) C2 (fun h9H=>?_);refine tf1 (i:=0) ?_;refine tf1 (i:=2) ?_;refine cf1 (i:=1) fun W4 hXW4 hYW4 hCf K hK=>?_
  go_simp
  (with_reducible refine cM (HP2.out _ (X2.drew.trans hXW4)) ?_)
  rintro e w4 ⟨v4,rfl,hv4,hx4,hL4⟩;obtain⟨sa4,sn4,sc4,rfl⟩:=form3 hv4
  go_wp2_with fail
  refine kO hK (.of hYW4 hx4) (fun _ _=>?_);clear hK K hCf;have X4:Ext w w4:=(X2.drew.trans hXW4).trans hx4;refine cf1 (i:=3) fun W3 hXW3 hYW3 hCf K hK=>?_
  go_simp
  (with_reducible refine cM (HQ2.out _ (X4.trans hXW3)) ?_)
  rintro e w3 ⟨v3,rfl,hv3,hx3,hL3⟩;obtain⟨sa3,sn3,sc3,rfl⟩:=form3 hv3
  go_wp2_with fail
  refine kO hK (.of hYW3 hx3) (fun _ _=>?_);clear hK K hCf;refine df (by kernel_rfl) (fun W5 hXW5 hY5=>?_);intro b5 q5 y5 _ _ b6 q6 y6 n56 _;have n56:b6≠b5:=by simpa using n56
  have X35:Ext w4 W5:=(hXW3.trans hx3).trans hXW5;have X5:Ext w W5:=X4.trans X35;have hv5:=hv4.ext' X35;have hu5:=hv3.ext' hXW5;have xf:=qfB q5;have yf:=qfB q6;have x0:=qcB q5 (i:=0) (u:=.string ⟨#[]⟩) rfl;have x1:=qcB q5 (i:=1) (u:=X Z 0 0) rfl;have x2:=qcB q5 (i:=2) (u:=O Y 0) rfl;have x3:=qcB q5 (i:=3) (u:=O Y 0) rfl;have x4:=qcB q5 (i:=4) (u:=O Y 0) rfl;have x5:=qcB q5 (i:=5) (u:=O Y 0) rfl;have x6:=qcB q5 (i:=6) (u:=O Y 0) rfl;have x7:=qcB q5 (i:=7) (u:=O Y 0) rfl;have x8:=qcB q5 (i:=8) (u:=O Y 0) rfl;have x9:=qcB q5 (i:=9) (u:=O I 0) rfl;have u0:=qcB q6 (i:=0) (u:=.string ⟨#[]⟩) rfl;have u1:=qcB q6 (i:=1) (u:=X Z 0 0) rfl;have u2:=qcB q6 (i:=2) (u:=O Y 0) rfl;have u3:=qcB q6 (i:=3) (u:=O Y 0) rfl;have u4:=qcB q6 (i:=4) (u:=O Y 0) rfl;have u5:=qcB q6 (i:=5) (u:=O Y 0) rfl;have u6:=qcB q6 (i:=6) (u:=O Y 0) rfl;have u7:=qcB q6 (i:=7) (u:=O Y 0) rfl;have u8:=qcB q6 (i:=8) (u:=O Y 0) rfl;have u9:=qcB q6 (i:=9) (u:=O I 0) rfl;clear hXW4 hx4 hXW3 hx3 hXW5 X35 hv3 hL3 hv4 hL4 C2;refine cl1 (i:=6) fun K hK=>?_
  go_simp;refine kO hK (cE h9H (by(repeat refine Ext.set ?_ (by first|exact y5|exact y6) _);exact hY5)) (fun hCs=>?_);clear hK K;refine cl1 (i:=7) fun K hK=>?_
  go_simp;refine kO hK (cE h9H (by(repeat refine Ext.set ?_ (by first|exact y5|exact y6) _);exact hY5)) (fun hCs=>?_);clear hK K;refine wpAnyH_done (by kernel_rfl) ?_ _;clear x0 x1 x2 x3 x4 x5 x6 x7 x8 x9 u0 u1 u2 u3 u4 u5 u6 u7 u8 u9 xf yf;obtain⟨W6,hW6⟩:=gX (stL (stL W5 b5 0 [.string p.name,X sa4 sn4 sc4,O Y p.depth,O Y p.density,O Y p.gx,O Y p.gz,O Y p.way,O Y p.ax,O Y p.az,O I p.skin]) b6 0 [.string q.name,X sa3 sn3 sc3,O Y q.depth,O Y q.density,O Y q.gx,O Y q.gz,O Y q.way,O Y q.ax,O Y q.az,O I q.skin]);have e6:(((((((((((((((((((W5.setCell ⟨b5,0,Z⟩ (.string p.name)).setCell ⟨b5,1,Z⟩ (X sa4 sn4 sc4)).setCell ⟨b5,2,Z⟩ (O Y p.depth)).setCell ⟨b5,3,Z⟩ (O Y p.density)).setCell ⟨b5,4,Z⟩ (O Y p.gx)).setCell ⟨b5,5,Z⟩ (O Y p.gz)).setCell ⟨b5,6,Z⟩ (O Y p.way)).setCell ⟨b5,7,Z⟩ (O Y p.ax)).setCell ⟨b5,8,Z⟩ (O Y p.az)).setCell ⟨b5,9,Z⟩ (O I p.skin)).setCell ⟨b6,0,Z⟩ (.string q.name)).setCell ⟨b6,1,Z⟩ (X sa3 sn3 sc3)).setCell ⟨b6,2,Z⟩ (O Y q.depth)).setCell ⟨b6,3,Z⟩ (O Y q.density)).setCell ⟨b6,4,Z⟩ (O Y q.gx)).setCell ⟨b6,5,Z⟩ (O Y q.gz)).setCell ⟨b6,6,Z⟩ (O Y q.way)).setCell ⟨b6,7,Z⟩ (O Y q.ax)).setCell ⟨b6,8,Z⟩ (O Y q.az)).setCell ⟨b6,9,Z⟩ (O I q.skin)=W6:=hW6;rw [e6];have TB:=zei (cs:=zplL) (ds:=zplL) [.string p.name,X sa4 sn4 sc4,O Y p.depth,O Y p.density,O Y p.gx,O Y p.gz,O Y p.way,O Y p.ax,O Y p.az,O I p.skin] [.string q.name,X sa3 sn3 sc3,O Y q.depth,O Y q.density,O Y q.gx,O Y q.gz,O Y q.way,O Y q.ax,O Y q.az,O I q.skin] q5 q6 n56 rfl rfl;rw [hW6]at TB;obtain⟨K5,K6,tb,tk,te⟩:=TB
  replace y5:=nT X2.size y5
  replace y6:=nT X2.size y6
  have X6:=te w X5 y5 y6;have kp6:=tk 33 (by decide) (by decide);have hv6:=hv5.keep' kp6;have hu6:=hu5.keep' kp6;have z5:=zaa K5;have z6:=zaa K6;clear hW6 e6 tb tk te kp6 hv5 hu5 X5 X4 q5 q6 HP2 HQ2 X2;have HK5:=hd9 K5;have HK6:=hd9 K6;have HX6:=hd9 X6;have Hv6:=hd9 hv6;have Hu6:=hd9 hu6;have Kz:=hd9 (And.intro y5 y6);clear K5 K6 X6 hv6 hu6 y5 y6
  (have k50:=qcB HK5.out (i:=0) (u:=.string p.name) rfl);(have k51:=qcB HK5.out (i:=1) (u:=X sa4 sn4 sc4) rfl);(have k52:=qcB HK5.out (i:=2) (u:=O Y p.depth) rfl);(have k53:=qcB HK5.out (i:=3) (u:=O Y p.density) rfl);(have k54:=qcB HK5.out (i:=4) (u:=O Y p.gx) rfl);(have k55:=qcB HK5.out (i:=5) (u:=O Y p.gz) rfl);(have k56:=qcB HK5.out (i:=6) (u:=O Y p.way) rfl);(have k57:=qcB HK5.out (i:=7) (u:=O Y (p.ax)) rfl);(have k58:=qcB HK5.out (i:=8) (u:=O Y (p.az)) rfl);(have k59:=qcB HK5.out (i:=9) (u:=O I p.skin) rfl);(have k5f:=qfB HK5.out);(have k60:=qcB HK6.out (i:=0) (u:=.string q.name) rfl);(have k61:=qcB HK6.out (i:=1) (u:=X sa3 sn3 sc3) rfl);(have k62:=qcB HK6.out (i:=2) (u:=O Y q.depth) rfl);(have k63:=qcB HK6.out (i:=3) (u:=O Y q.density) rfl);(have k64:=qcB HK6.out (i:=4) (u:=O Y q.gx) rfl);(have k65:=qcB HK6.out (i:=5) (u:=O Y q.gz) rfl);(have k66:=qcB HK6.out (i:=6) (u:=O Y q.way) rfl);(have k67:=qcB HK6.out (i:=7) (u:=O Y (q.ax)) rfl);(have k68:=qcB HK6.out (i:=8) (u:=O Y (q.az)) rfl);(have k69:=qcB HK6.out (i:=9) (u:=O I q.skin) rfl);(have k6f:=qfB HK6.out)
  have HR1:=hd9 (fun(W:World) (hW:Ext W6 W)=>zhB W _ _ p q (Hv6.out.ext' hW) (Hu6.out.ext' hW) Hk.out Hk2.out (HG.out.ext (HX6.out.trans hW)));have HR2:=hd9 (fun(W:World) (hW:Ext W6 W)=>zhB W _ _ q p (Hu6.out.ext' hW) (Hv6.out.ext' hW) Hk2.out Hk.out (HG.out.ext (HX6.out.trans hW)));unfold plc RetRl at HR1 HR2;rw [znQ p q]at HR2;obtain⟨er,her⟩:=gX (relE p q);obtain⟨k,hk⟩:=gX (relK p q);obtain⟨m,hm⟩:=gX (relK q p);rw [her,hk]at HR1;rw [her,hm]at HR2;have HE:=hd9 (And.intro her (And.intro hk hm));clear her hk hm
  go_upto_region 8 with (first|(go_at_call 12;(with_reducible refine(HR1.out _ ?_).mono ?_);exact eA;rintro e w7 ⟨rfl,hx7⟩;(replace HK5:=hd9 (hx7.heapS HK5.out));(replace HK6:=hd9 (hx7.heapS HK6.out));clear k50 k51 k52 k53 k54 k55 k56 k57 k58 k59 k5f k60 k61 k62 k63 k64 k65 k66 k67 k68 k69 k6f;(have k50:=qcB HK5.out (i:=0) (u:=.string p.name) rfl);(have k51:=qcB HK5.out (i:=1) (u:=X sa4 sn4 sc4) rfl);(have k52:=qcB HK5.out (i:=2) (u:=O Y p.depth) rfl);(have k53:=qcB HK5.out (i:=3) (u:=O Y p.density) rfl);(have k54:=qcB HK5.out (i:=4) (u:=O Y p.gx) rfl);(have k55:=qcB HK5.out (i:=5) (u:=O Y p.gz) rfl);(have k56:=qcB HK5.out (i:=6) (u:=O Y p.way) rfl);(have k57:=qcB HK5.out (i:=7) (u:=O Y (p.ax)) rfl);(have k58:=qcB HK5.out (i:=8) (u:=O Y (p.az)) rfl);(have k59:=qcB HK5.out (i:=9) (u:=O I p.skin) rfl);(have k5f:=qfB HK5.out);(have k60:=qcB HK6.out (i:=0) (u:=.string q.name) rfl);(have k61:=qcB HK6.out (i:=1) (u:=X sa3 sn3 sc3) rfl);(have k62:=qcB HK6.out (i:=2) (u:=O Y q.depth) rfl);(have k63:=qcB HK6.out (i:=3) (u:=O Y q.density) rfl);(have k64:=qcB HK6.out (i:=4) (u:=O Y q.gx) rfl);(have k65:=qcB HK6.out (i:=5) (u:=O Y q.gz) rfl);(have k66:=qcB HK6.out (i:=6) (u:=O Y q.way) rfl);(have k67:=qcB HK6.out (i:=7) (u:=O Y (q.ax)) rfl);(have k68:=qcB HK6.out (i:=8) (u:=O Y (q.az)) rfl);(have k69:=qcB HK6.out (i:=9) (u:=O I q.skin) rfl);(have k6f:=qfB HK6.out))|(go_at_call 12;(with_reducible refine(HR2.out _ ?_).mono ?_);exact eA;rintro e w8 ⟨rfl,hx8⟩;(replace HK5:=hd9 (hx8.heapS HK5.out));(replace HK6:=hd9 (hx8.heapS HK6.out));clear k50 k51 k52 k53 k54 k55 k56 k57 k58 k59 k5f k60 k61 k62 k63 k64 k65 k66 k67 k68 k69 k6f;(have k50:=qcB HK5.out (i:=0) (u:=.string p.name) rfl);(have k51:=qcB HK5.out (i:=1) (u:=X sa4 sn4 sc4) rfl);(have k52:=qcB HK5.out (i:=2) (u:=O Y p.depth) rfl);(have k53:=qcB HK5.out (i:=3) (u:=O Y p.density) rfl);(have k54:=qcB HK5.out (i:=4) (u:=O Y p.gx) rfl);(have k55:=qcB HK5.out (i:=5) (u:=O Y p.gz) rfl);(have k56:=qcB HK5.out (i:=6) (u:=O Y p.way) rfl);(have k57:=qcB HK5.out (i:=7) (u:=O Y (p.ax)) rfl);(have k58:=qcB HK5.out (i:=8) (u:=O Y (p.az)) rfl);(have k59:=qcB HK5.out (i:=9) (u:=O I p.skin) rfl);(have k5f:=qfB HK5.out);(have k60:=qcB HK6.out (i:=0) (u:=.string q.name) rfl);(have k61:=qcB HK6.out (i:=1) (u:=X sa3 sn3 sc3) rfl);(have k62:=qcB HK6.out (i:=2) (u:=O Y q.depth) rfl);(have k63:=qcB HK6.out (i:=3) (u:=O Y q.density) rfl);(have k64:=qcB HK6.out (i:=4) (u:=O Y q.gx) rfl);(have k65:=qcB HK6.out (i:=5) (u:=O Y q.gz) rfl);(have k66:=qcB HK6.out (i:=6) (u:=O Y q.way) rfl);(have k67:=qcB HK6.out (i:=7) (u:=O Y (q.ax)) rfl);(have k68:=qcB HK6.out (i:=8) (u:=O Y (q.az)) rfl);(have k69:=qcB HK6.out (i:=9) (u:=O I q.skin) rfl);(have k6f:=qfB HK6.out)))
  have X8:Ext w w8:=HX6.out.trans (hx7.trans hx8)
  by_cases hr:er=0
  ·subst hr
   obtain⟨p1,p2,p3,p4,p5,p6,p7,p8⟩:=znN HE.out.1;rw [HE.out.2.1]at p1 p2 p3 p8;rw [HE.out.2.2]at p3;have Hmv:=hd9 p8;have hmc:=znS p1 p2;rw [←p3]at hmc
   have p9:1≤m∧m≤5:=by
    subst p3;have:k=1∨k=2∨k=3∨k=4∨k=5:=by omega
    rcases this with rfl|rfl|rfl|rfl|rfl<;>decide
   have c1:¬k<1:=by omega
   have c2:¬5<k:=by omega
   have c3:¬m<1:=by omega
   have c4:¬5<m:=by omega
   have c5:0≤k:=by omega
   have c6:k<6:=by omega
   have H6:=hd9 (And.intro p4 (And.intro p5 (And.intro p6 p7)));clear p1 p2 p3 p4 p5 p6 p7 p8 p9 HE
   go_upto_region 14 with fail
   clear c1 c2 c3 c4;obtain⟨dx,hdx⟩:=gX (x.tmod 1000);obtain⟨dz,hdz⟩:=gX (z.tmod 1000);have bdx:Bd 1000 dx:=by rw [←hdx];exact znT x
   have bdz:Bd 1000 dz:=by rw [←hdz];exact znT z
   have q1:IntKind.i64.wrap x=x:=iW _ ⟨by unfold Bd at hx;omega,by unfold Bd at hx;omega⟩;have q2:IntKind.i64.wrap z=z:=iW _ ⟨by unfold Bd at hz;omega,by unfold Bd at hz;omega⟩;have q3:IntKind.i64.wrap (x.tmod 1000)=dx:=by rw [hdx];exact iW _ ⟨by unfold Bd at bdx;omega,by unfold Bd at bdx;omega⟩
   have q4:IntKind.i64.wrap (z.tmod 1000)=dz:=by rw [hdz];exact iW _ ⟨by unfold Bd at bdz;omega,by unfold Bd at bdz;omega⟩
   clear hmc c5 c6
   go_upto_region 15 with fail
   obtain⟨b15,hb15⟩:=gX (w8.heap.size+1);obtain⟨W9,hW9⟩:=gX (((w8.alloc (.cells #[O I 0,O I 2,O I 1,O I 4,O I 3,O I 5] 5)).alloc (.cells #[O Y dx,O Y dz] 33)));rw [hW9,hb15];have X89:Ext w8 W9:=by rw [←hW9];exact((eR _).alloc _).alloc _
   have K15:W9.heap[b15]?=some (.cells #[O Y dx,O Y dz] 33 (0,0)):=by
    rw [←hW9];exact qhA _ _ _ (by simp [←hb15])
   have hz8:=zaa HK5.out;have hz9:=zaa HK6.out;have n155:b15≠b5:=by omega
   have n156:b15≠b6:=by omega
   have X9:=X8.trans X89
   replace HK5:=hd9 (X89.heapS HK5.out)
   replace HK6:=hd9 (X89.heapS HK6.out)
   have HX9:=hd9 (And.intro X9 ((hx7.trans hx8).trans X89));clear hW9 hb15 X89 hx7 hx8 X8 X9 hz8 hz9 hz hx;clear k50 k51 k52 k53 k54 k55 k56 k57 k58 k59 k5f k60 k61 k62 k63 k64 k65 k66 k67 k68 k69 k6f
   have C9:CellL [(⟨b15,0,Z⟩,O Y dx),(⟨b15,1,Z⟩,O Y dz)] W9.drew∧CellL [(⟨b5,7,Z⟩,O Y p.ax),(⟨b5,8,Z⟩,O Y p.az),(⟨b6,8,Z⟩,O Y q.az)] W9.drew∧CellL [(⟨b6,7,Z⟩,O Y q.ax)] W9.drew:=
    ⟨⟨qcB K15 (i:=0) rfl,qcB K15 (i:=1) rfl,trivial⟩,⟨qcB HK5.out (i:=7) rfl,qcB HK5.out (i:=8) rfl,qcB HK6.out (i:=8) rfl,trivial⟩,qcB HK6.out (i:=7) rfl,trivial⟩
   have r1:IntKind.i64.wrap (p.ax+dx)=p.ax+dx:=iW _ (by have:=H6.out.1;unfold Bd at this bdx;omega);have r2:IntKind.i64.wrap (p.az+dz)=p.az+dz:=iW _ (by have:=H6.out.2.1;unfold Bd at this bdz;omega);have r3:IntKind.i64.wrap (q.ax+dx)=q.ax+dx:=iW _ (by have:=H6.out.2.2.1;unfold Bd at this bdx;omega);have r4:IntKind.i64.wrap (q.az+dz)=q.az+dz:=iW _ (by have:=H6.out.2.2.2;unfold Bd at this bdz;omega);have k5f:=qfB HK5.out;have k6f:=qfB HK6.out;have s7:=qcB HK5.out (i:=7) (u:=O Y p.ax) rfl;have s8:=qcB HK5.out (i:=8) (u:=O Y p.az) rfl;have u7:=qcB HK6.out (i:=7) (u:=O Y q.ax) rfl;have u8:=qcB HK6.out (i:=8) (u:=O Y q.az) rfl;clear bdx bdz q1 q2 q3 q4 hdx hdz;refine zlS _ _ _ 26 32 (by kernel_rfl) C9 (fun hA hB hC=>?_);refine tx1 (i:=0) false false ?_;refine tx1 (i:=1) false false ?_;refine tx1 (i:=2) true false ?_;refine tx1 (i:=3) false false ?_;refine tx1 (i:=4) false false ?_;refine tx1 (i:=5) false false ?_;refine tx1 (i:=6) false false ?_;refine tx1 (i:=7) false false ?_;refine tx1 (i:=8) true false ?_;refine tx1 (i:=9) false false ?_;refine tx1 (i:=10) false false ?_;refine tx1 (i:=11) false false ?_;refine tx1 (i:=12) false false ?_;refine tx1 (i:=13) false false ?_;refine tx1 (i:=14) false true ?_;refine tx1 (i:=15) false false ?_;refine tx1 (i:=16) false false ?_;refine tx1 (i:=17) false false ?_;refine tx1 (i:=18) false false ?_;refine tx1 (i:=19) false false ?_;refine tx1 (i:=20) true false ?_;refine tx1 (i:=21) false false ?_;refine tx1 (i:=22) false false ?_;refine tx1 (i:=23) false false ?_;refine tx1 (i:=24) false false ?_;refine tx1 (i:=25) false false ?_;refine cx1 (i:=26) fun K hK=>?_
   go_simp;refine kO hK (TwS.step (CellL.set hA (by simp [n155.symm]) _) (fun h=>nomatch h) (fun _=>CellL.set hC (by simp [n56.symm]) _)) (fun hT=>?_);clear hK K;have hA:=hT.1;have hC:=hT.2.2 rfl;clear hB;refine tx1 (i:=27) false false ?_;refine tx1 (i:=28) false false ?_;refine cx1 (i:=29) fun K hK=>?_
   go_simp;refine kO hK (TwS.step (CellL.set hA (by simp [n155.symm]) _) (fun h=>nomatch h) (fun _=>CellL.set hC (by simp [n56.symm]) _)) (fun hT=>?_);clear hK K;have hA:=hT.1;have hC:=hT.2.2 rfl;refine tx1 (i:=30) false false ?_;refine tx1 (i:=31) false false ?_;refine cx1 (i:=32) fun K hK=>?_
   go_simp;refine kO hK (TwS.step (CellL.set hA (by simp [n156.symm]) _) (fun h=>nomatch h) (fun h=>nomatch h)) (fun hT=>?_);clear hK K;have hA:=hT.1;refine tx1 (i:=33) false false ?_;refine tx1 (i:=34) false false ?_;refine cx1 (i:=35) fun K hK=>?_
   go_simp;refine kO hK (TwS.step (CellL.set hA (by simp [n156.symm]) _) (fun h=>nomatch h) (fun h=>nomatch h)) (fun hT=>?_);clear hK K;refine doneHX (by kernel_rfl) ?_ _;clear hA;obtain⟨V,hV⟩:=gX ((((W9.setCell ⟨b5,7,Z⟩ (O Y (p.ax+dx))).setCell ⟨b5,8,Z⟩ (O Y (p.az+dz))).setCell ⟨b6,7,Z⟩ (O Y (q.ax+dx))).setCell ⟨b6,8,Z⟩ (O Y (q.az+dz)));rw [hV];have e5:=zau (zau HK5.out 7 (O Y (p.ax+dx))) 8 (O Y (p.az+dz));have e6:((W9.setCell ⟨b5,7,Z⟩ (O Y (p.ax+dx))).setCell ⟨b5,8,Z⟩ (O Y (p.az+dz))).heap[b6]?=_:=((bS _ _ _ _ n56).trans (bS _ _ _ _ n56)).trans HK6.out
   have L5:V.heap[b5]?=some (.cells #[.string p.name,X sa4 sn4 sc4,O Y p.depth,O Y p.density,O Y p.gx,O Y p.gz,O Y p.way,O Y (p.ax+dx),O Y (p.az+dz),O I p.skin] 37 (0,0)):=by
    rw [←hV];exact((bS _ _ _ _ (fun e=>n56 e.symm)).trans (bS _ _ _ _ (fun e=>n56 e.symm))).trans e5
   have L6:V.heap[b6]?=some (.cells #[.string q.name,X sa3 sn3 sc3,O Y q.depth,O Y q.density,O Y q.gx,O Y q.gz,O Y q.way,O Y (q.ax+dx),O Y (q.az+dz),O I q.skin] 37 (0,0)):=by
    rw [←hV];exact zau (zau e6 7 (O Y (q.ax+dx))) 8 (O Y (q.az+dz))
   have kp:KeepT 33 W9 V:=by
    rw [←hV];exact((((KeepT.refl _ _).set (p:=⟨b5,7,Z⟩) HK5.out (by decide) _).set (p:=⟨b5,8,Z⟩) (zau HK5.out 7 _) (by decide) _).set (p:=⟨b6,7,Z⟩) e6 (by decide) _).set (p:=⟨b6,8,Z⟩) (zau e6 7 _) (by decide) _
   have XV:Ext w V:=by
    rw [←hV];exact(((HX9.out.1.set (p:=⟨b5,7,Z⟩) Kz.out.1 _).set (p:=⟨b5,8,Z⟩) Kz.out.1 _).set (p:=⟨b6,7,Z⟩) Kz.out.2 _).set (p:=⟨b6,8,Z⟩) Kz.out.2 _
   have hvV:=(Hv6.out.ext' HX9.out.2).keep' kp;have huV:=(Hu6.out.ext' HX9.out.2).keep' kp;have HXV:=hd9 XV;have HR3:=hd9 (fun(W:World) (hW:Ext V W)=>zhB W _ _ (mvP (dx,dz) p) (mvP (dx,dz) q) (hvV.ext' hW) (huV.ext' hW) Hk.out Hk2.out (HG.out.ext (HXV.out.trans hW)));unfold plc RetRl at HR3;obtain⟨n,hn⟩:=gX (relK (mvP (dx,dz) p) (mvP (dx,dz) q));obtain⟨g,hg⟩:=gX (relE (mvP (dx,dz) p) (mvP (dx,dz) q));have hmv:=Hmv.out (dx,dz);rw [hn,hg]at HR3 hmv;unfold mvP at HR3;dsimp only at HR3;have z5:=zaa L5;have z6:=zaa L6
   replace HK5:=hd9 L5
   replace HK6:=hd9 L6
   clear k5f k6f s7 s8 u7 u8 e5 e6 L5 L6 kp XV hvV huV hn hg hV r1 r2 r3 r4 C9 hC hT HR1 HR2 Hmv n155 n156 K15 HX9
   (have k50:=qcB HK5.out (i:=0) (u:=.string p.name) rfl);(have k51:=qcB HK5.out (i:=1) (u:=X sa4 sn4 sc4) rfl);(have k52:=qcB HK5.out (i:=2) (u:=O Y p.depth) rfl);(have k53:=qcB HK5.out (i:=3) (u:=O Y p.density) rfl);(have k54:=qcB HK5.out (i:=4) (u:=O Y p.gx) rfl);(have k55:=qcB HK5.out (i:=5) (u:=O Y p.gz) rfl);(have k56:=qcB HK5.out (i:=6) (u:=O Y p.way) rfl);(have k57:=qcB HK5.out (i:=7) (u:=O Y (p.ax+dx)) rfl);(have k58:=qcB HK5.out (i:=8) (u:=O Y (p.az+dz)) rfl);(have k59:=qcB HK5.out (i:=9) (u:=O I p.skin) rfl);(have k5f:=qfB HK5.out);(have k60:=qcB HK6.out (i:=0) (u:=.string q.name) rfl);(have k61:=qcB HK6.out (i:=1) (u:=X sa3 sn3 sc3) rfl);(have k62:=qcB HK6.out (i:=2) (u:=O Y q.depth) rfl);(have k63:=qcB HK6.out (i:=3) (u:=O Y q.density) rfl);(have k64:=qcB HK6.out (i:=4) (u:=O Y q.gx) rfl);(have k65:=qcB HK6.out (i:=5) (u:=O Y q.gz) rfl);(have k66:=qcB HK6.out (i:=6) (u:=O Y q.way) rfl);(have k67:=qcB HK6.out (i:=7) (u:=O Y (q.ax+dx)) rfl);(have k68:=qcB HK6.out (i:=8) (u:=O Y (q.az+dz)) rfl);(have k69:=qcB HK6.out (i:=9) (u:=O I q.skin) rfl);(have k6f:=qfB HK6.out)
   go_upto_region 17 with (first|(go_at_call 12;(with_reducible refine(HR3.out _ ?_).mono ?_);exact eA;rintro e w16 ⟨rfl,hx16⟩))
   have X16:Ext w w16:=HXV.out.trans (((eR V).drew).trans hx16)
   by_cases hg0:g=0
   ·obtain rfl:=hmv hg0
    subst hg0
    go_wp2_with(first|(go_at_call 10;(with_reducible refine(HA.out _ X16).mono ?_);rintro e w17 ⟨rfl,hx17⟩))
    go_ret;exact⟨rfl,X16.trans hx17⟩
   ·have hg1:(g != 0)=true:=by simpa using hg0
    clear hmv
    go_wp2_with(first|(go_at_call 10;(with_reducible refine(HA.out _ X16).mono ?_);rintro e w17 ⟨rfl,hx17⟩))
    go_ret;exact⟨rfl,X16.trans hx17⟩
  ·have hd1:(er != 0)=true:=by simpa using hr
   clear HE
   go_wp2_with(first|(go_at_call 10;(with_reducible refine(HA.out _ X8).mono ?_);rintro e w9 ⟨rfl,hx9⟩))
   go_ret;exact⟨rfl,X8.trans hx9⟩
end
section
open Go.ChangeShapes Go.WideShapes Go.Deep
section
variable {H:Type} {enc:TypeId×Value→H} {P:Program} {w:World} {spare:Nat→Bool} {held:Bool}
theorem zgY {k:Nat}:∀{css:List (List Value)} {j:Nat} {x:Value},0<k→(∀c∈css,c.length=k)→css.flatten[j]?=some x→∃d,css[j / k]?=some d∧d[j % k]?=some x
 | [],j,x,_,_,h=>by simp at h
 | c::css,j,x,hk,hc,h=>by
  have hl:c.length=k:=hc c (by simp);rw [List.flatten_cons]at h
  by_cases hj:j<k
  ·rw [List.getElem?_append_left (by omega)]at h
   rw [Nat.div_eq_of_lt hj,Nat.mod_eq_of_lt hj];exact⟨c,rfl,h⟩
  ·rw [List.getElem?_append_right (by omega),hl]at h
   obtain⟨d,h1,h2⟩:=zgY (j:=j-k) hk (fun c hc'=>hc c (mC _ hc')) h;rw [Nat.div_eq_sub_div hk (by omega),Nat.mod_eq_sub_mod (by omega)];exact⟨d,by simpa using h1,h2⟩
theorem zd2 {t e:TypeId} {k fuel:Nat} {cs:List Value} {x:DataW H×List MemPlace} (ht:P.underlying t=some (.slice e)) (hk:P.cellsOf e=k) (hk0:0<k)
  (h:DataW.trod enc P w 0 spare held fuel t cs=some x) :
  ∃(a:Option Addr) (n c:Nat) (T:TypeId) (css:List (List Value)),cs=[.slice a n c]∧css.length=n∧(∀d∈css,d.length=k)∧Rd w T k (.slice a n c) n css.flatten ∧
   ∀d∈css,∃m y,DataW.trod enc P w 0 spare held m e d=some y:=by
 rcases open_slice ht h with ⟨rfl,_⟩|⟨a,len,cap,m,f,D,Pl,rfl,_,hl,hm,hmm,_,hel⟩
 ·exact⟨none,0,0,0,[],rfl,rfl,by simp,Rd.nil w 0 k,by simp⟩
 ·have hlm:len≤m:=by rw [hmm];split<;>omega
  rw [hk]at hel;obtain⟨F,hF⟩:=choose_lt (α:=List Value) (n:=len) (p:=fun i d=>w.cells? 0 (a.add (i*k)) k=some d∧DataW.trod enc P w 0 spare held f e d=some (D i,Pl i)) (fun i hi=>hel i (by omega))
  have hlen:∀d∈(List.range len).map F,d.length=k:=by
   intro d hd;obtain⟨i,hi,rfl⟩:=List.mem_map.1 hd;exact(World.cells?_some (hF i (List.mem_range.1 hi)).1).2.1
  have hall:∀d∈(List.range len).map F,∃m y,DataW.trod enc P w 0 spare held m e d=some y:=by
   intro d hd;obtain⟨i,hi,rfl⟩:=List.mem_map.1 hd;exact⟨f,_,(hF i (List.mem_range.1 hi)).2⟩
  by_cases h0:len=0
  ·subst h0
   exact⟨some a,0,cap,0,[],rfl,rfl,by simp,⟨by simp,some a,cap,rfl,hl,hm,.inl ⟨rfl,fun e=>by cases e⟩⟩,by simp⟩
  ·have c0:=(World.cells?_some (hF 0 (by omega)).1).2.2 0 hk0
   have hcl:=hlen (F 0) (List.mem_map.2 ⟨0,List.mem_range.2 (by omega),rfl⟩);obtain⟨v0,hv0⟩:∃v,(F 0)[0]?=some v:=⟨(F 0)[0]'(by omega),by simp⟩;rw [hv0]at c0;obtain⟨b,o,sp⟩:=a
   have hsp:sp=none:=by
    have:=World.cell?_spot c0
    simpa [Addr.add] using this
   subst hsp;have e0:((⟨b,o,none⟩:Addr).add (0*k)).add 0=⟨b,o,none⟩:=by simp [Addr.add]
   rw [e0]at c0
   obtain⟨blk,T,fr,hblk⟩:∃blk T fr,w.heap[b]?=some (.cells blk T fr):=by
    unfold World.cell? at c0
    split at c0
    ·rename_i blk T fr hb;exact⟨blk,T,fr,hb⟩
    ·cases c0
   refine⟨some ⟨b,o,none⟩,len,cap,T,(List.range len).map F,rfl,by simp,hlen,⟨?_,some ⟨b,o,none⟩,cap,rfl,hl,hm,.inr ⟨b,o,blk,fr,rfl,hblk,fun j y hj=>?_⟩⟩,hall⟩
   ·rw [zaq hlen];simp
   ·obtain⟨d,h1,h2⟩:=zgY hk0 hlen hj
    obtain⟨hi,rfl⟩:j / k<len∧F (j / k)=d:=by
     rw [lP]at h1
     by_cases hi:j / k<len
     ·rw [List.getElem?_range hi]at h1
      exact⟨hi,Option.some.inj h1⟩
     ·rw [List.getElem?_eq_none (by simpa using hi)]at h1
      cases h1
    have c1:=(World.cells?_some (hF (j / k) hi).1).2.2 (j % k) (Nat.mod_lt _ hk0);rw [h2]at c1
    have e1:((⟨b,o,none⟩:Addr).add (j / k*k)).add (j % k)=⟨b,o+j,none⟩:=by
     rw [add_add];have:j / k*k+j % k=j:=by rw [Nat.mul_comm];exact Nat.div_add_mod j k
     rw [this];unfold Addr.add
     split
     ·rename_i h;rw [h];rfl
     ·rfl
    rw [e1]at c1
    simpa [World.cell?,hblk] using c1
end
end
section
open Go.ChangeShapes Go.WideShapes Go.Deep
def flds (P:Program) (t:TypeId):Array Field:=match P.underlying t with|some (.struct fs)=>fs|_=>#[]
section
variable {H:Type} {enc:TypeId×Value→H} {w:World} {spare:Nat→Bool} {held:Bool}
theorem fld {P:Program} {fs:Array Field} {n i ti oi ki:Nat} {cs:List Value} {xs:List (DataW H×List MemPlace)} (hx:xs.length=fs.size)
  (hf:∀(i:Nat) (f:Field),fs[i]?=some f→DataW.trod enc P w 0 spare held n f.type ((cs.drop f.offset).take (P.cellsOf f.type))=xs[i]?)
  (hi:fs[i]?.map (fun f=>(f.type,f.offset,P.cellsOf f.type))=some (ti,oi,ki)):∃y,DataW.trod enc P w 0 spare held n ti ((cs.drop oi).take ki)=some y:=by
 cases h:fs[i]? with
 | none=>rw [h]at hi;cases hi
 | some f =>
  rw [h]at hi;simp only [Option.map_some,Option.some.injEq,Prod.mk.injEq]at hi;obtain⟨rfl,rfl,rfl⟩:=hi;have hl:i<xs.length:=by rw [hx];exact(Array.getElem?_eq_some_iff.1 h).1
  exact⟨xs[i],by rw [hf i f h];simp [hl]⟩
theorem zel:Tryz.prog.underlying 3=some (.int .i64):=by kernel_rfl
theorem znh:Tryz.prog.underlying 5=some (.int .u8):=by kernel_rfl
theorem zmE:Tryz.prog.underlying 9=some .string:=by kernel_rfl
theorem znf:Tryz.prog.underlying 24=some (.struct (flds Tryz.prog 24)):=by kernel_rfl
theorem zng:Tryz.prog.underlying 26=some (.struct (flds Tryz.prog 26)):=by kernel_rfl
theorem zlO:Tryz.prog.underlying 28=some (.struct (flds Tryz.prog 28)):=by kernel_rfl
theorem zlP:Tryz.prog.underlying 46=some (.struct (flds Tryz.prog 46)):=by kernel_rfl
theorem zmD:Tryz.prog.underlying 22=some (.slice 24):=by kernel_rfl
theorem zmC:Tryz.prog.underlying 44=some (.slice 28):=by kernel_rfl
theorem zbK {n:Nat} {cs:List Value} {y:DataW H×List MemPlace} (h:DataW.trod enc Tryz.prog w 0 spare held n 24 cs=some y):∃p:Int×Int,cs=[.int .i64 p.1,.int .i64 p.2]:=by
 obtain⟨xs,m,_,_,hl,hx,hf⟩:=DataW.trod_struct znf h;have hc:Tryz.prog.cellsOf 24=2:=by kernel_rfl
 rw [hc]at hl;obtain⟨y0,h0⟩:=fld hx hf (i:=0) (ti:=3) (oi:=0) (ki:=1) (by kernel_rfl);obtain⟨y1,h1⟩:=fld hx hf (i:=1) (ti:=3) (oi:=1) (ki:=1) (by kernel_rfl)
 match cs,hl with
 | [a,b],_ =>
  obtain⟨x,e0,_⟩:=DataW.trod_int zel h0;obtain⟨z,e1,_⟩:=DataW.trod_int zel h1;simp at e0 e1;subst e0 e1;exact⟨(x,z),rfl⟩
theorem ziu {α:Type} {Q:List Value→α→Prop}:∀{css:List (List Value)},(∀d∈css,∃a,Q d a)→∃l:List α,css.length=l.length∧∀(i:Nat) d a,css[i]?=some d→l[i]?=some a→Q d a
 | [],_=>⟨[],rfl,fun i d a h=>by simp at h⟩
 | c::css,h=>by
  obtain⟨a,ha⟩:=h c (by simp);obtain⟨l,hl,has⟩:=ziu (css:=css) (fun d hd=>h d (mC _ hd));refine⟨a::l,by simp [hl],fun i d b hd hb=>?_⟩
  cases i with
  | zero=>simp at hd hb;subst hd hb;exact ha
  | succ i=>exact has i d b (by simpa using hd) (by simpa using hb)
theorem zci {n:Nat} {v:Value} {y:DataW H×List MemPlace} (h:DataW.trod enc Tryz.prog w 0 spare held n 22 [v]=some y):∃ps,IsPr w v ps:=by
 obtain⟨a,m,c,T,css,e,hl,hk,hr,hd⟩:=zd2 zmD (k:=2) (by kernel_rfl) (by omega) h
 cases e
 obtain⟨ps,hps,hq⟩:=ziu (α:=Int×Int) (Q:=PP w) (fun d h=>by
  obtain⟨f,y,hy⟩:=hd d h;obtain⟨p,hp⟩:=zbK hy;exact⟨p,hp⟩)
 exact⟨ps,T,css,hps,hk,by rw [←hps,hl];exact hr,hq⟩
theorem zch {n:Nat} {cs:List Value} {y:DataW H×List MemPlace} (h:DataW.trod enc Tryz.prog w 0 spare held n 28 cs=some y):∃p:Pl,PPr w cs p:=by
 obtain⟨xs,m,_,_,hl,hx,hf⟩:=DataW.trod_struct zlO h;have hc:Tryz.prog.cellsOf 28=10:=by kernel_rfl
 rw [hc]at hl;obtain⟨y0,h0⟩:=fld hx hf (i:=0) (ti:=26) (oi:=0) (ki:=6) (by kernel_rfl);obtain⟨y1,h1⟩:=fld hx hf (i:=1) (ti:=3) (oi:=6) (ki:=1) (by kernel_rfl);obtain⟨y2,h2⟩:=fld hx hf (i:=2) (ti:=24) (oi:=7) (ki:=2) (by kernel_rfl);obtain⟨y3,h3⟩:=fld hx hf (i:=3) (ti:=5) (oi:=9) (ki:=1) (by kernel_rfl)
 match cs,hl with
 | [a0,a1,a2,a3,a4,a5,a6,a7,a8,a9],_ =>
  obtain⟨zs,k,_,_,_,hz,hg⟩:=DataW.trod_struct zng h0;obtain⟨z0,g0⟩:=fld hz hg (i:=0) (ti:=9) (oi:=0) (ki:=1) (by kernel_rfl);obtain⟨z1,g1⟩:=fld hz hg (i:=1) (ti:=22) (oi:=1) (ki:=1) (by kernel_rfl);obtain⟨z2,g2⟩:=fld hz hg (i:=2) (ti:=3) (oi:=2) (ki:=1) (by kernel_rfl);obtain⟨z3,g3⟩:=fld hz hg (i:=3) (ti:=3) (oi:=3) (ki:=1) (by kernel_rfl);obtain⟨z4,g4⟩:=fld hz hg (i:=4) (ti:=24) (oi:=4) (ki:=2) (by kernel_rfl);obtain⟨nm,e0,_⟩:=DataW.trod_string zmE g0;obtain⟨sh,hsh⟩:=zci g1;obtain⟨de,e2,_⟩:=DataW.trod_int zel g2;obtain⟨dn,e3,_⟩:=DataW.trod_int zel g3;obtain⟨gr,e4⟩:=zbK g4;obtain⟨wy,e6,_⟩:=DataW.trod_int zel h1;obtain⟨at9,e7⟩:=zbK h2;obtain⟨sk,e9,_,wsk⟩:=DataW.trod_int znh h3;simp at e0 e2 e3 e4 e6 e7 e9;obtain⟨rfl,rfl⟩:=e4;obtain⟨rfl,rfl⟩:=e7;subst e0 e2 e3 e6 e9;refine⟨⟨nm,sh,de,dn,gr.1,gr.2,wy,at9.1,at9.2,sk⟩,_,rfl,hsh,?_⟩;have w9:decide (IntKind.u8.min≤sk)=true:=by unfold Lit.wf at wsk;simp only [Bool.and_eq_true]at wsk;exact wsk.1
  have w8:IntKind.u8.min=0:=by decide
  rw [w8]at w9;exact of_decide_eq_true w9
theorem zdW {n:Nat} {v:Value} {y:DataW H×List MemPlace} (h:DataW.trod enc Tryz.prog w 0 spare held n 44 [v]=some y):∃ps,IsWr w v ps:=by
 obtain⟨a,m,c,T,css,e,hl,hk,hr,hd⟩:=zd2 zmC (k:=10) (by kernel_rfl) (by omega) h
 cases e
 obtain⟨ps,hps,hq⟩:=ziu (α:=Pl) (Q:=PPr w) (fun d h=>by
  obtain⟨f,y,hy⟩:=hd d h;exact zch hy)
 exact⟨ps,T,css,hps,hk,by rw [←hps,hl];exact hr,hq⟩
theorem zf8 {r:Reach} {b0:Nat} {v:Value} {d:DataW H} {p:List MemPlace} (hv:Value.okWide Tryz.prog w r b0 46 v) (h:DataW.Trod enc Tryz.prog w 0 spare held 46 v d p) :
  ∃vg vp g ps,v = .agg #[vg,vp]∧IsPr w vg g∧IsWr w vp ps:=by
 obtain⟨cs,rfl,hsz⟩:=okWide_struct zlP hv;have hc:Tryz.prog.cellsOf 46=2:=by kernel_rfl
 rw [hc]at hsz
 obtain⟨c0,c1,rfl⟩:∃a b,cs=#[a,b]:=by
  match cs,hsz with
  | ⟨[a,b]⟩,_=>exact⟨a,b,rfl⟩
 obtain⟨fuel,hf⟩:=h;obtain⟨xs,m,_,_,hl,hx,hg⟩:=DataW.trod_struct zlP hf;obtain⟨y0,h0⟩:=fld hx hg (i:=0) (ti:=22) (oi:=0) (ki:=1) (by kernel_rfl);obtain⟨y1,h1⟩:=fld hx hg (i:=1) (ti:=44) (oi:=1) (ki:=1) (by kernel_rfl);obtain⟨g,h2⟩:=zci (v:=c0) h0;obtain⟨ps,h3⟩:=zdW (v:=c1) h1;exact⟨c0,c1,g,ps,rfl,h2,h3⟩
end
end
section
open Go Go.ChangeShapes Go.WideShapes Go.ChangeAt Go.RowKit
theorem zk5:ownKnob Tryz.prog.godebug=Z:=by kernel_rfl
theorem g_ways:Tryz.prog.globalNamed "copestone/stone.ways" = some 0:=by kernel_rfl
theorem t_ways:(Tryz.prog.globals[0]?).map (·.type)=some 224:=by kernel_rfl
theorem zln:Tryz.prog.underlying 224=some (.array 4 223):=by kernel_rfl
theorem zdp:Tryz.prog.underlying 223=some (.func #[33] #[33] false):=by kernel_rfl
theorem zkU:laidOutB Tryz.prog=true:=by kernel_rfl
abbrev vars3:List (String×DataW Unit):=[("unicode/utf8.acceptRanges",Rows.laid_unicode_utf8_acceptRanges),("copestone/stone.ways",Rows.laid_copestone_stone_ways),("unicode/utf8.first",Rows.laid_unicode_utf8_first)]
abbrev vars2:List (String×DataW Unit):=[("unicode/utf8.acceptRanges",Rows.laid_unicode_utf8_acceptRanges),("unicode/utf8.first",Rows.laid_unicode_utf8_first)]
theorem zhR {W:World} (h:laidMetH Tryz.prog vars3 W):Gw W:=by
 obtain⟨g,t,cs,fuel,p,hg,ht,hv,hd⟩:=h.funcs (mC _ (List.mem_cons_self ..));obtain rfl:=Option.some.inj (g_ways.symm.trans hg);obtain rfl:=Option.some.inj (t_ways.symm.trans ht);have hd':DataW.trod (funcToken Tryz.prog) Tryz.prog W 0 (fun _=>true) true fuel 224 cs.toList=some (.agg [.held [99,111,112,101,115,116,111,110,101,47,115,116,111,110,101,46,119,97,121,115,36,49],.held [99,111,112,101,115,116,111,110,101,47,115,116,111,110,101,46,119,97,121,115,36,50],.held [99,111,112,101,115,116,111,110,101,47,115,116,111,110,101,46,119,97,121,115,36,51],.held [99,111,112,101,115,116,111,110,101,47,115,116,111,110,101,46,119,97,121,115,36,52]],p):=hd;obtain⟨xs,m,_,hx,hl,hxl,hf⟩:=DataW.trod_array zln hd';have c1:Tryz.prog.cellsOf 223=1:=by kernel_rfl
 have c4:Tryz.prog.cellsOf 224=4:=by kernel_rfl
 rw [c4]at hl;rw [c1]at hf;obtain⟨cs⟩:=cs;have hl':cs.length=4:=hl
 match cs,hl',xs,hxl with
 | [v0,v1,v2,v3],_,[⟨y0,q0⟩,⟨y1,q1⟩,⟨y2,q2⟩,⟨y3,q3⟩],_ =>
  simp only [Prod.mk.injEq,List.map_cons,List.map_nil,DataW.agg.injEq,List.cons.injEq,and_true]at hx;obtain⟨⟨rfl,rfl,rfl,rfl⟩,_⟩:=hx;have r0:=hf 0 (by omega);have r1:=hf 1 (by omega);have r2:=hf 2 (by omega);have r3:=hf 3 (by omega);have k0:=World.var?_cell hg hv 0;have k1:=World.var?_cell hg hv 1;have k2:=World.var?_cell hg hv 2;have k3:=World.var?_cell hg hv 3;obtain rfl:=func_of_trod (f0:=264) zdp (by kernel_rfl) r0;obtain rfl:=func_of_trod (f0:=265) zdp (by kernel_rfl) r1;obtain rfl:=func_of_trod (f0:=266) zdp (by kernel_rfl) r2;obtain rfl:=func_of_trod (f0:=267) zdp (by kernel_rfl) r3;have e0:W.cell? ⟨0,0,Z⟩=some (.func (.func 264) #[] #[]):=by simpa using k0
  exact⟨World.block_lt_of_cell? W _ (by rw [e0]),e0,by simpa using k1,by simpa using k2,by simpa using k3⟩
noncomputable def wit (os:Os):World:=(World.doorLaid Tryz.prog 14 os).layVars Tryz.prog vars2
theorem zmI (os:Os) (args:Array Value):laidMetH Tryz.prog vars3 ((wit os).forCall (fun _ _=>0) ⟨#[],args,[]⟩).memory:=by
 refine laidMetH_of_parts3 (fuel:=8) ?_ (by kernel_rfl) (by kernel_rfl)
 exact laidMet_layVars (w0:=World.doorLaid Tryz.prog 14 os) ["unicode/utf8.acceptRanges", "unicode/utf8.first"] [] (by rfl) (by kernel_rfl) (by kernel_rfl) LaidIn.none
theorem zmH {k:IntKind} {n:Int} (h:(Lit.int k n).wf=true):k.min≤n∧n≤k.max:=by
 unfold Lit.wf at h;simp only [Bool.and_eq_true,decide_eq_true_eq]at h;exact h
theorem zmK {H:Type} {enc:TypeId×Value→H} {w:World} {spare:Nat→Bool} {held:Bool} {r:Reach} {b0:Nat} {v:Value} {d:DataW H} {p:List MemPlace} (hv:Value.okWide Tryz.prog w r b0 28 v) (h:DataW.Trod enc Tryz.prog w 0 spare held 28 v d p) :
  ∃v' q,v = .agg (plc q v')∧IsPr w v' q.shape∧0≤q.skin:=by
 obtain⟨cs,rfl,hsz⟩:=okWide_struct zlO hv;obtain⟨fuel,hf⟩:=h;obtain⟨q,v',e,h1,h2⟩:=zch hf;have e2:cs=plc q v':=Array.toList_inj.1 e;exact⟨v',q,by rw [e2],h1,h2⟩
end
end Go.Proofs.YtodpfeaihohpjaaGreatDoor.Cop
