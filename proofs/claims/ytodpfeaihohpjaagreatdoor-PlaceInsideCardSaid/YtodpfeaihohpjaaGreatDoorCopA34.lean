/- Part 35: contracts of what the law calls. -/
import Derived.Test.YtodpfeaihohpjaaGreatDoorCopA32
import Derived.Test.YtodpfeaihohpjaaGreatDoorCopA33
import Derived.Test.YtodpfeaihohpjaaGreatDoorCopA06
import Derived.ProofKit
import Derived.Deep.Slices
import Derived.Test.YtodpfeaihohpjaaGreatDoorRows
import Derived.Test.YtodpfeaihohpjaaGreatDoorCards
import Derived.Test.YtodpfeaihohpjaaGreatDoorTie
import Derived.LaidMore
import Derived.Lay
import Derived.Stop.Joined
import Derived.OpenShut
import Derived.SevenTiedAt
set_option maxRecDepth 1000000
set_option maxHeartbeats 16000000
set_option linter.unusedSimpArgs false
set_option linter.unusedVariables false
open Go.Value renaming int→O,slice→Z,bool→I
open Go.IntKind renaming i64→Y,u8→E
open Option renaming none→X,some→N
open Go renaming World→J
open Go.Obj renaming cells→M
namespace Go.Proofs.YtodpfeaihohpjaaGreatDoor.Cop
section
open Go.RowKit Go.Shelf Go.Sort Go.Lib
attribute [local go_sem] Oper.semAt_some
theorem zig (w:J) (v v':Value) (p q:Pl) (aE:Int) (hv:IsPr w v p.shape) (bN:IsPr w v' q.shape) (hk:0≤p.skin) (cC:0≤q.skin) (cz:Gw w) (d7:0≤aE) (d8:aE<256) (hl:longB p=false∧longB q=false) (h0:relE p q=0) (h6:relP p q≠5) :
  Calls Tryz.prog 6 #[.agg (plc p v),.agg (plc q v'),O E aE] w fun e w'=>e = .returned (I true)∧Ext w w':=by
 have HL:=hd9 (fun(W:J) (l:Ext w W)=>zbP W p.name v p.shape p.depth p.density p.gx p.gz (hv.ext' l));have HM:=hd9 (fun(W:J) (l:Ext w W)=>zbP W q.name v' q.shape q.depth q.density q.gx q.gz (bN.ext' l));have HP:=hd9 (fun(hl:longB p=false) (W:J) (l:Ext w W)=>zaR W p.name v p.shape p.depth p.density p.gx p.gz p.way p.ax p.az p.skin (hv.ext' l) (by unfold longB at hl;simp at hl;omega));have HQ:=hd9 (fun(hl:longB q=false) (W:J) (l:Ext w W)=>zaR W q.name v' q.shape q.depth q.density q.gx q.gz q.way q.ax q.az q.skin (bN.ext' l) (by unfold longB at hl;simp at hl;omega));have HA:=hd9 (fun(W:J) (l:Ext w W)=>zc8 W (cz.ext l));have HG:=hd9 cz;have be:=hd9 (show longB p=(decide (20<p.shape.length) || decide (40<p.name.size))from rfl);have bf:=hd9 (show longB q=(decide (20<q.shape.length) || decide (40<q.name.size))from rfl);obtain⟨sa,dY,rfl⟩:=hv.form;obtain⟨ta,dZ,rfl⟩:=bN.form;obtain⟨sn,cI⟩:=gX p.shape.length;obtain⟨tn,cJ⟩:=gX q.shape.length;rw [cI]at HL HP be;rw [cJ]at HM HQ bf;rw [cI,cJ];obtain⟨lp,dr⟩:=gX ((decide (20<sn) || decide (40<p.name.size)));rw [dr]at HL be;obtain⟨lq,dt⟩:=gX ((decide (20<tn) || decide (40<q.name.size)));rw [dt]at HM bf;have Hk:=hd9 hk;have ch:=hd9 cC;clear hv bN cz cI cJ dr dt hk cC;unfold plc;obtain⟨rfl,rfl⟩:lp=false∧lq=false:=⟨by rw [←be.out];exact hl.1,by rw [←bf.out];exact hl.2⟩;have cW:=hd9 (HP.out be.out);have cX:=hd9 (HQ.out bf.out);clear be bf HP HQ hl;go_enter Tryz.func6,Tryz.ntmps6
 go_upto_region 3 with (first|(go_at_call 9;(with_reducible refine(HL.out _ ?_).mono ?_);exact eA;rintro e w1 ⟨rfl,dE⟩;obtain⟨⟨dS,dV⟩,dH,dI⟩:=cK2 w dE)|(go_at_call 9;(with_reducible refine(HM.out _ ?_).mono ?_);exact eA;rintro e w2 ⟨rfl,dF⟩;obtain⟨⟨dU,dW⟩,dJ,dK⟩:=cK2 w dF))
 have X2:Ext w w2:=eA
 have C2:CellL [(⟨w.heap.size,0,X⟩,.string p.name),(⟨w.heap.size,1,X⟩,Z sa sn dY),(⟨w.heap.size,2,X⟩,O Y p.depth),(⟨w.heap.size,3,X⟩,O Y p.density),(⟨w.heap.size,4,X⟩,O Y p.gx),(⟨w.heap.size,5,X⟩,O Y p.gz),(⟨w.heap.size,6,X⟩,O Y p.way),(⟨w.heap.size,7,X⟩,O Y p.ax),(⟨w.heap.size,8,X⟩,O Y p.az),(⟨w.heap.size,9,X⟩,O E p.skin),(⟨w.heap.size+1,0,X⟩,.string q.name),(⟨w.heap.size+1,1,X⟩,Z ta tn dZ),(⟨w.heap.size+1,2,X⟩,O Y q.depth),(⟨w.heap.size+1,3,X⟩,O Y q.density),(⟨w.heap.size+1,4,X⟩,O Y q.gx),(⟨w.heap.size+1,5,X⟩,O Y q.gz),(⟨w.heap.size+1,6,X⟩,O Y q.way),(⟨w.heap.size+1,7,X⟩,O Y q.ax),(⟨w.heap.size+1,8,X⟩,O Y q.az),(⟨w.heap.size+1,9,X⟩,O E q.skin)] w2.drew:=by
  refine⟨?_,?_,?_,?_,?_,?_,?_,?_,?_,?_,?_,?_,?_,?_,?_,?_,?_,?_,?_,?_,trivial⟩<;>go_simp
 clear dE dF dS dV dU dW dH dI dJ dK HL HM;refine zbb [(4,7,M zpl 37 (0,0)),(5,8,M zpl 37 (0,0))] _ 6 3 (fun i=>decide (5<i)) (fun _=>false) kM kM kM sM kM (by intro x hx;simp only [List.mem_cons,List.not_mem_nil,or_false]at hx;rcases hx with rfl|rfl<;>exact⟨_,rfl,rfl,fun a W=>by go_simp⟩) (fun _ _ d _ _ h=>by cases d<;>exact h) C2 (fun aJ=>?_);refine tf1 (i:=0) ?_;refine tf1 (i:=2) ?_;refine cf1 (i:=1) fun W4 aD bm r K m=>?_
 go_simp
 (with_reducible refine cM (cW.out _ (X2.drew.trans aD)) ?_)
 rintro e w4 ⟨v4,rfl,cL,aX,dR⟩;obtain⟨av,aB,ay,rfl⟩:=form3 cL
 go_wp2_with fail
 refine kO m (.of bm aX) (fun _ _=>?_);clear m K r;have X4:Ext w w4:=(X2.drew.trans aD).trans aX;refine cf1 (i:=3) fun W3 bj dg r K m=>?_
 go_simp
 (with_reducible refine cM (cX.out _ (X4.trans bj)) ?_)
 rintro e w3 ⟨v3,rfl,cK,cN,dQ⟩;obtain⟨au,aA,aw,rfl⟩:=form3 cK
 go_wp2_with fail
 refine kO m (.of dg cN) (fun _ _=>?_);clear m K r;refine df kM (fun W5 s db=>?_);intro b5 q5 y5 _ _ b6 q6 y6 cP _;have cP:b6≠b5:=by simpa using cP
 have co:Ext w4 W5:=(bj.trans cN).trans s;have X5:Ext w W5:=X4.trans co;have dC:=cL.ext' co;have dz:=cK.ext' s;have xf:=qfB q5;have yf:=qfB q6;have x0:=qcB q5 (i:=0) (u:=.string ⟨#[]⟩) rfl;have x1:=qcB q5 (i:=1) (u:=Z X 0 0) rfl;have x2:=qcB q5 (i:=2) (u:=O Y 0) rfl;have x3:=qcB q5 (i:=3) (u:=O Y 0) rfl;have x4:=qcB q5 (i:=4) (u:=O Y 0) rfl;have x5:=qcB q5 (i:=5) (u:=O Y 0) rfl;have x6:=qcB q5 (i:=6) (u:=O Y 0) rfl;have x7:=qcB q5 (i:=7) (u:=O Y 0) rfl;have x8:=qcB q5 (i:=8) (u:=O Y 0) rfl;have x9:=qcB q5 (i:=9) (u:=O E 0) rfl;have u0:=qcB q6 (i:=0) (u:=.string ⟨#[]⟩) rfl;have u1:=qcB q6 (i:=1) (u:=Z X 0 0) rfl;have u2:=qcB q6 (i:=2) (u:=O Y 0) rfl;have u3:=qcB q6 (i:=3) (u:=O Y 0) rfl;have u4:=qcB q6 (i:=4) (u:=O Y 0) rfl;have u5:=qcB q6 (i:=5) (u:=O Y 0) rfl;have u6:=qcB q6 (i:=6) (u:=O Y 0) rfl;have u7:=qcB q6 (i:=7) (u:=O Y 0) rfl;have u8:=qcB q6 (i:=8) (u:=O Y 0) rfl;have u9:=qcB q6 (i:=9) (u:=O E 0) rfl;clear aD aX bj cN s co cK dQ cL dR C2;refine cl1 (i:=6) fun K m=>?_
 go_simp;refine kO m (cE aJ (by(repeat refine Ext.set ?_ (by first|exact y5|exact y6) _);exact db)) (fun cq=>?_);clear m K;refine cl1 (i:=7) fun K m=>?_
 go_simp;refine kO m (cE aJ (by(repeat refine Ext.set ?_ (by first|exact y5|exact y6) _);exact db)) (fun cq=>?_);clear m K;refine wpAnyH_done kM ?_ _;clear x0 x1 x2 x3 x4 x5 x6 x7 x8 x9 u0 u1 u2 u3 u4 u5 u6 u7 u8 u9 xf yf;obtain⟨W6,cr⟩:=gX (stL (stL W5 b5 0 [.string p.name,Z av aB ay,O Y p.depth,O Y p.density,O Y p.gx,O Y p.gz,O Y p.way,O Y p.ax,O Y p.az,O E p.skin]) b6 0 [.string q.name,Z au aA aw,O Y q.depth,O Y q.density,O Y q.gx,O Y q.gz,O Y q.way,O Y q.ax,O Y q.az,O E q.skin]);have e6:(((((((((((((((((((W5.setCell ⟨b5,0,X⟩ (.string p.name)).setCell ⟨b5,1,X⟩ (Z av aB ay)).setCell ⟨b5,2,X⟩ (O Y p.depth)).setCell ⟨b5,3,X⟩ (O Y p.density)).setCell ⟨b5,4,X⟩ (O Y p.gx)).setCell ⟨b5,5,X⟩ (O Y p.gz)).setCell ⟨b5,6,X⟩ (O Y p.way)).setCell ⟨b5,7,X⟩ (O Y p.ax)).setCell ⟨b5,8,X⟩ (O Y p.az)).setCell ⟨b5,9,X⟩ (O E p.skin)).setCell ⟨b6,0,X⟩ (.string q.name)).setCell ⟨b6,1,X⟩ (Z au aA aw)).setCell ⟨b6,2,X⟩ (O Y q.depth)).setCell ⟨b6,3,X⟩ (O Y q.density)).setCell ⟨b6,4,X⟩ (O Y q.gx)).setCell ⟨b6,5,X⟩ (O Y q.gz)).setCell ⟨b6,6,X⟩ (O Y q.way)).setCell ⟨b6,7,X⟩ (O Y q.ax)).setCell ⟨b6,8,X⟩ (O Y q.az)).setCell ⟨b6,9,X⟩ (O E q.skin)=W6:=cr;rw [e6];have TB:=zeB (cs:=zplL) (ds:=zplL) [.string p.name,Z av aB ay,O Y p.depth,O Y p.density,O Y p.gx,O Y p.gz,O Y p.way,O Y p.ax,O Y p.az,O E p.skin] [.string q.name,Z au aA aw,O Y q.depth,O Y q.density,O Y q.gx,O Y q.gz,O Y q.way,O Y q.ax,O Y q.az,O E q.skin] q5 q6 cP rfl rfl;rw [cr]at TB;obtain⟨K5,K6,tb,tk,te⟩:=TB
 replace y5:=nT X2.size y5
 replace y6:=nT X2.size y6
 have X6:=te w X5 y5 y6;have cO:=tk 33 dM dM;have dD:=dC.keep' cO;have dB:=dz.keep' cO;have z5:=zaa K5;have z6:=zaa K6;clear cr e6 tb tk te cO dC dz X5 X4 q5 q6 cW cX X2;have f:=hd9 K5;have g:=hd9 K6;have aL:=hd9 X6;have ck:=hd9 dD;have cj:=hd9 dB;have Kz:=hd9 (And.intro y5 y6);clear K5 K6 X6 dD dB y5 y6
 (have y:=qcB f.out (i:=0) (u:=.string p.name) rfl);(have z:=qcB f.out (i:=1) (u:=Z av aB ay) rfl);(have D:=qcB f.out (i:=2) (u:=O Y p.depth) rfl);(have Q:=qcB f.out (i:=3) (u:=O Y p.density) rfl);(have T:=qcB f.out (i:=4) (u:=O Y p.gx) rfl);(have aa:=qcB f.out (i:=5) (u:=O Y p.gz) rfl);(have ab:=qcB f.out (i:=6) (u:=O Y p.way) rfl);(have ac:=qcB f.out (i:=7) (u:=O Y (p.ax)) rfl);(have ad:=qcB f.out (i:=8) (u:=O Y (p.az)) rfl);(have ae:=qcB f.out (i:=9) (u:=O E p.skin) rfl);(have af:=qfB f.out);(have ag:=qcB g.out (i:=0) (u:=.string q.name) rfl);(have ah:=qcB g.out (i:=1) (u:=Z au aA aw) rfl);(have ai:=qcB g.out (i:=2) (u:=O Y q.depth) rfl);(have aj:=qcB g.out (i:=3) (u:=O Y q.density) rfl);(have ak:=qcB g.out (i:=4) (u:=O Y q.gx) rfl);(have al:=qcB g.out (i:=5) (u:=O Y q.gz) rfl);(have am:=qcB g.out (i:=6) (u:=O Y q.way) rfl);(have an:=qcB g.out (i:=7) (u:=O Y (q.ax)) rfl);(have ao:=qcB g.out (i:=8) (u:=O Y (q.az)) rfl);(have ap:=qcB g.out (i:=9) (u:=O E q.skin) rfl);(have aq:=qfB g.out)
 have bw:=hd9 (fun(W:J) (l:Ext W6 W)=>zc3 W _ _ p q (ck.out.ext' l) (cj.out.ext' l) Hk.out ch.out (HG.out.ext (aL.out.trans l)));unfold plc RetRl at bw;obtain⟨er,cx⟩:=gX (relE p q);obtain⟨k,hk⟩:=gX (relK p q);rw [cx,hk]at bw;have HE:=hd9 (And.intro cx hk);clear cx hk;obtain rfl:er=0:=by rw [←HE.out.1];exact h0
 obtain⟨o1,o2⟩:=zkn HE.out.1;have bL:relP p q=k:=by rw [←HE.out.2];exact(if_pos ⟨o1,o2⟩).symm
 have HB:=hd9 (And.intro o1 (And.intro o2 bL));have rb:=zmk p q;rw [bL]at rb;obtain⟨a3,aY⟩:=rb;have h5:k≠5:=by rw [←bL];exact h6
 clear HE o1 o2 bL h0 h6
 have bu:Hid (∀W:J,Ext W6 W→Calls Tryz.prog 24 #[.agg (plc p (Z av aB ay))] W (fun e w'=>∃v,e = .returned (.tuple #[v,O Y 0])∧IsPts w' v (cornersP p)∧Ext W w')):=hd9 (fun(W:J) (l:Ext W6 W)=>cM (zdE W p _ (ck.out.ext' l) Hk.out (HG.out.ext (aL.out.trans l))) (by
  rintro e w' (⟨h,-⟩|⟨-,v,h1,h2,h3⟩)
  ·rw [HB.out.1]at h;cases h
  ·exact⟨v,h1,h2,h3⟩))
 have bv:Hid (∀W:J,Ext W6 W→Calls Tryz.prog 24 #[.agg (plc q (Z au aA aw))] W (fun e w'=>∃v,e = .returned (.tuple #[v,O Y 0])∧IsPts w' v (cornersP q)∧Ext W w')):=hd9 (fun(W:J) (l:Ext W6 W)=>cM (zdE W q _ (cj.out.ext' l) ch.out (HG.out.ext (aL.out.trans l))) (by
  rintro e w' (⟨h,-⟩|⟨-,v,h1,h2,h3⟩)
  ·rw [HB.out.2.1]at h;cases h
  ·exact⟨v,h1,h2,h3⟩))
 unfold plc at bu bv;have dP:(k==5)=false:=by simpa using h5
 have l1:=(zaH HB.out.1).2.1;have l2:=(zaH HB.out.2.1).2.1;obtain⟨cs,cu⟩:=gX (cornersP p);obtain⟨ds,cw⟩:=gX (cornersP q);rw [cu]at bu l1;rw [cw]at bv l2;have bc:=hd9 (And.intro cu cw);clear cu cw
 go_upto_region 13 with (first|(go_at_call 12;(with_reducible refine(bw.out _ ?_).mono ?_);exact eA;rintro e w7 ⟨rfl,ar⟩;(replace f:=hd9 (ar.heapS f.out));(replace g:=hd9 (ar.heapS g.out));clear y z D Q T aa ab ac ad ae af ag ah ai aj ak al am an ao ap aq;(have y:=qcB f.out (i:=0) (u:=.string p.name) rfl);(have z:=qcB f.out (i:=1) (u:=Z av aB ay) rfl);(have D:=qcB f.out (i:=2) (u:=O Y p.depth) rfl);(have Q:=qcB f.out (i:=3) (u:=O Y p.density) rfl);(have T:=qcB f.out (i:=4) (u:=O Y p.gx) rfl);(have aa:=qcB f.out (i:=5) (u:=O Y p.gz) rfl);(have ab:=qcB f.out (i:=6) (u:=O Y p.way) rfl);(have ac:=qcB f.out (i:=7) (u:=O Y (p.ax)) rfl);(have ad:=qcB f.out (i:=8) (u:=O Y (p.az)) rfl);(have ae:=qcB f.out (i:=9) (u:=O E p.skin) rfl);(have af:=qfB f.out);(have ag:=qcB g.out (i:=0) (u:=.string q.name) rfl);(have ah:=qcB g.out (i:=1) (u:=Z au aA aw) rfl);(have ai:=qcB g.out (i:=2) (u:=O Y q.depth) rfl);(have aj:=qcB g.out (i:=3) (u:=O Y q.density) rfl);(have ak:=qcB g.out (i:=4) (u:=O Y q.gx) rfl);(have al:=qcB g.out (i:=5) (u:=O Y q.gz) rfl);(have am:=qcB g.out (i:=6) (u:=O Y q.way) rfl);(have an:=qcB g.out (i:=7) (u:=O Y (q.ax)) rfl);(have ao:=qcB g.out (i:=8) (u:=O Y (q.az)) rfl);(have ap:=qcB g.out (i:=9) (u:=O E q.skin) rfl);(have aq:=qfB g.out))|(go_at_call 24;(with_reducible refine(bu.out _ ar).mono ?_);rintro e w8 ⟨v8,rfl,bO,aQ⟩;(replace f:=hd9 (aQ.heapS f.out));(replace g:=hd9 (aQ.heapS g.out));clear y z D Q T aa ab ac ad ae af ag ah ai aj ak al am an ao ap aq;(have y:=qcB f.out (i:=0) (u:=.string p.name) rfl);(have z:=qcB f.out (i:=1) (u:=Z av aB ay) rfl);(have D:=qcB f.out (i:=2) (u:=O Y p.depth) rfl);(have Q:=qcB f.out (i:=3) (u:=O Y p.density) rfl);(have T:=qcB f.out (i:=4) (u:=O Y p.gx) rfl);(have aa:=qcB f.out (i:=5) (u:=O Y p.gz) rfl);(have ab:=qcB f.out (i:=6) (u:=O Y p.way) rfl);(have ac:=qcB f.out (i:=7) (u:=O Y (p.ax)) rfl);(have ad:=qcB f.out (i:=8) (u:=O Y (p.az)) rfl);(have ae:=qcB f.out (i:=9) (u:=O E p.skin) rfl);(have af:=qfB f.out);(have ag:=qcB g.out (i:=0) (u:=.string q.name) rfl);(have ah:=qcB g.out (i:=1) (u:=Z au aA aw) rfl);(have ai:=qcB g.out (i:=2) (u:=O Y q.depth) rfl);(have aj:=qcB g.out (i:=3) (u:=O Y q.density) rfl);(have ak:=qcB g.out (i:=4) (u:=O Y q.gx) rfl);(have al:=qcB g.out (i:=5) (u:=O Y q.gz) rfl);(have am:=qcB g.out (i:=6) (u:=O Y q.way) rfl);(have an:=qcB g.out (i:=7) (u:=O Y (q.ax)) rfl);(have ao:=qcB g.out (i:=8) (u:=O Y (q.az)) rfl);(have ap:=qcB g.out (i:=9) (u:=O E q.skin) rfl);(have aq:=qfB g.out);obtain⟨ca,cn,cc,rfl⟩:=form3 bO))
 have X8:=ar.trans aQ
 go_upto_region 14 with (go_at_call 24;(with_reducible refine(bv.out _ X8).mono ?_);rintro e w9 ⟨v9,rfl,bq,br⟩;(replace f:=hd9 (br.heapS f.out));(replace g:=hd9 (br.heapS g.out));clear y z D Q T aa ab ac ad ae af ag ah ai aj ak al am an ao ap aq;(have y:=qcB f.out (i:=0) (u:=.string p.name) rfl);(have z:=qcB f.out (i:=1) (u:=Z av aB ay) rfl);(have D:=qcB f.out (i:=2) (u:=O Y p.depth) rfl);(have Q:=qcB f.out (i:=3) (u:=O Y p.density) rfl);(have T:=qcB f.out (i:=4) (u:=O Y p.gx) rfl);(have aa:=qcB f.out (i:=5) (u:=O Y p.gz) rfl);(have ab:=qcB f.out (i:=6) (u:=O Y p.way) rfl);(have ac:=qcB f.out (i:=7) (u:=O Y (p.ax)) rfl);(have ad:=qcB f.out (i:=8) (u:=O Y (p.az)) rfl);(have ae:=qcB f.out (i:=9) (u:=O E p.skin) rfl);(have af:=qfB f.out);(have ag:=qcB g.out (i:=0) (u:=.string q.name) rfl);(have ah:=qcB g.out (i:=1) (u:=Z au aA aw) rfl);(have ai:=qcB g.out (i:=2) (u:=O Y q.depth) rfl);(have aj:=qcB g.out (i:=3) (u:=O Y q.density) rfl);(have ak:=qcB g.out (i:=4) (u:=O Y q.gx) rfl);(have al:=qcB g.out (i:=5) (u:=O Y q.gz) rfl);(have am:=qcB g.out (i:=6) (u:=O Y q.way) rfl);(have an:=qcB g.out (i:=7) (u:=O Y (q.ax)) rfl);(have ao:=qcB g.out (i:=8) (u:=O Y (q.az)) rfl);(have ap:=qcB g.out (i:=9) (u:=O E q.skin) rfl);(have aq:=qfB g.out);obtain⟨da,dn,dc,rfl⟩:=form3 bq)
 have bp:=bO.ext' br;have X9:=X8.trans br;have m1:¬(cn:Int)=0:=by have:=Sl.len bO;omega
 have m2:¬(dn:Int)=0:=by have:=Sl.len bq;omega
 have m3:¬cn=0:=oM
 have m4:¬dn=0:=oM
 have m5:((cn:Int)==0)=false:=by simpa using m3
 have m6:((dn:Int)==0)=false:=by simpa using m4
 clear y z D Q T aa ab ac ad ae af ag ah ai aj ak al am an ao ap aq;clear bO bu bv X8 ar aQ br bw
 go_upto_region 16 with fail
 clear m1 m2 m5 m6;have m1:(0:Int)<(cn:Int):=oM
 have m2:(0:Int)<(dn:Int):=oM
 have m5:0<cn:=oM
 have m6:0<dn:=oM
 obtain⟨c0,ct⟩:∃c,cs[0]?=N c:=⟨cs[0]' oM,gE _⟩;obtain⟨d0,cv⟩:∃c,ds[0]?=N c:=⟨ds[0]' oM,gE _⟩;have du:=lM ct;have dw:=lM cv;obtain⟨g1,o1,rfl,-,kc,-⟩:=bp.at' ct;obtain⟨g2,o2,rfl,-,kd,-⟩:=bq.at' cv;have bg:=hd9 bp;have cl:=hd9 bq;have bb:=hd9 X9;have bz:=hd9 (And.intro du dw);have Kd:=hd9 kd;clear bp bq X9 du dw ct cv kd;refine wp_region_held_drew (S:=CellL [(⟨g1,o1,X⟩,O Y c0.1)]) kM (by exact⟨by simpa using kc,trivial⟩) (fun aJ=>?_);refine tk1 (i:=0) ?_;refine tk1 (i:=1) ?_;refine tk1 (i:=2) ?_;refine tk1 (i:=3) ?_;refine tk1 (i:=4) ?_;refine tk1 (i:=5) ?_;refine tk1 (i:=6) ?_;refine tk1 (i:=7) ?_;refine tk1 (i:=8) ?_;refine tk1 (i:=9) ?_;refine wpAnyH_done kM ?_ _;clear aJ kc;go_wp2;refine mm_0 _ _ (O E aE) (.pointer (N ⟨b5,0,X⟩)) (.pointer (N ⟨b6,0,X⟩)) (O E k) _ (Z (N ⟨g2,o2,X⟩) dn dc) undef undef cs c0.1 (bg.out.ext' (eR _).drew) _ ⟨rfl,rfl,rfl,rfl,rfl,rfl,rfl,rfl⟩ rfl rfl rfl rfl rfl (fun _ _ d _ _ h=>by cases d<;>exact h) (fun a' W cy fx fy fu fv bs=>?_);obtain⟨tt,dd⟩:=a';obtain⟨f0,f2,f7,f8,f9,aH,aI,bo⟩:=cy;dsimp only at f0 f2 f7 f8 f9 aH aI fx fy fu fv bo;subst bo;obtain⟨u,hu,ht⟩:=arrU tt 272 f0;simp only [hu]at f2 f7 f8 f9 aH aI fx fy fu fv;clear hu f0;subst ht;simp only [List.range,List.range.loop,List.map_cons,List.map_nil,f2,f7,f8,f9,aH,aI,fx,fy,fu,fv];clear f2 f7 f8 f9 aH aI fx fy fu fv;have e0:=zjV HB.out.1 (c:=c0) (by rw [bc.out.1];exact bz.out.1);rw [bc.out.1]at e0;rw [e0.1,e0.2];clear e0;have XW:Ext w9 W:=(eR _).drew.trans bs;have kd:=XW.cellS Kd.out;clear bs
 go_upto_region 21 with fail
 refine wp_region_held_drew (S:=CellL [(⟨g2,o2,X⟩,O Y d0.1)]) kM (by exact⟨by simpa using kd,trivial⟩) (fun aJ=>?_);refine tk1 (i:=0) ?_;refine tk1 (i:=1) ?_;refine tk1 (i:=2) ?_;refine tk1 (i:=3) ?_;refine tk1 (i:=4) ?_;refine tk1 (i:=5) ?_;refine tk1 (i:=6) ?_;refine tk1 (i:=7) ?_;refine tk1 (i:=8) ?_;refine tk1 (i:=9) ?_;refine wpAnyH_done kM ?_ _;clear aJ kd;go_wp2;refine mm_1 _ _ (O E aE) (.pointer (N ⟨b5,0,X⟩)) (.pointer (N ⟨b6,0,X⟩)) (O E k) (Z (N ⟨g1,o1,X⟩) cn cc) _ (O Y (lineL (lowP2 p))) (O Y (lineR (lowP2 p))) ds d0.1 (cl.out.ext' (XW.trans (eR _).drew)) _ ⟨rfl,rfl,rfl,rfl,rfl,rfl,rfl,rfl⟩ rfl rfl rfl rfl rfl (fun _ _ d _ _ h=>by cases d<;>exact h) (fun a' V cy fx fy fu fv dG=>?_);obtain⟨tt,dd⟩:=a';obtain⟨f0,f2,f7,f8,f9,aH,aI,bo⟩:=cy;dsimp only at f0 f2 f7 f8 f9 aH aI fx fy fu fv bo;subst bo;obtain⟨u9,hu,ht⟩:=arrU tt 272 f0;simp only [hu]at f2 f7 f8 f9 aH aI fx fy fu fv;clear hu f0;subst ht;simp only [List.range,List.range.loop,List.map_cons,List.map_nil,f2,f7,f8,f9,aH,aI,fx,fy,fu,fv];clear f2 f7 f8 f9 aH aI fx fy fu fv;have e0:=zjV HB.out.2.1 (c:=d0) (by rw [bc.out.2];exact bz.out.2);rw [bc.out.2]at e0;rw [e0.1,e0.2];clear e0;have XV:Ext w9 V:=XW.trans ((eR _).drew.trans dG);clear dG XW;have cY:=hd9 XV;have pq:=zag HB.out.1;have qq:=zag HB.out.2.1;have cB:=HB.out.2.2;obtain⟨lo,dq⟩:=gX (max (lineL (lowP2 p)) (lineL (lowP2 q)));obtain⟨hi,dp⟩:=gX (min (lineR (lowP2 p)) (lineR (lowP2 q)))
 by_cases bM:lo<hi
 ·have dm:¬hi≤lo:=oM
  clear pq qq cB XV a3 aY;have ci:=hd9 (And.intro dq (And.intro dp bM))
  go_upto_region 29 with fail
  clear dm;obtain⟨pm,d9⟩:=gX (aE % 101);have pb:0≤pm∧pm≤100:=oM
  have bl:=zbO (zae HB.out.1).1;have dN:=zbO (zae HB.out.2.1).1;have bI:Bd 104000 lo:=by unfold Bd at *;omega
  have dL:Bd 104000 hi:=by unfold Bd at *;omega
  have bd:Bd 1000000 (hi-lo):=by unfold Bd at *;omega
  have px:=zn0 (Int.le_of_lt bM) pb.1 pb.2;obtain⟨a3,aY,bt⟩:=zne (a:=lo) (b:=hi) (n:=pm) (by unfold Bd at *;omega) bd (by unfold Bd;omega);have bx:=hd9 (fun(W:J)=>ziQ W pm 100 (by unfold Bd;omega) (by unfold Bd;omega));rw [if_neg dM]at bx;obtain⟨sh,dy⟩:=gX (Rat.divInt pm 100);rw [dy]at bx px a3 aY bt;have cV:=hd9 (fun(W:J)=>zfw W lo (by unfold Bd at bI;omega) (by unfold Bd at bI;omega));have cd:=hd9 (fun(W:J)=>zfw W (hi-lo) (by unfold Bd at bd;omega) (by unfold Bd at bd;omega));obtain⟨dh,dl⟩:=gX (hi-lo);have ea:IntKind.i64.wrap dh=dh:=iW _ (by unfold Bd at bd;omega);rw [dl]at cd px aY bt;have cU:=hd9 (fun(W:J) (va vb:Value) (h1:IsR W va (dh:Rat)) (h2:IsR W vb sh)=>zbx W va vb _ _ h1 h2 (zaf (zau (k:=1000000) (by rw [←dl];exact bd)) dM) (zaf a3 dM));have cb:=hd9 (fun(W:J) (va vb:Value) (h1:IsR W va (lo:Rat)) (h2:IsR W vb ((dh:Rat)*sh))=>zaZ W va vb _ _ h1 h2 (zaf (zau (k:=104000) bI) dM) (zaf aY dM));obtain⟨x,hx⟩:=gX ((lo:Rat)+(dh:Rat)*sh);rw [hx]at px bt cb;have Hx:=hd9 (And.intro px bt);clear bl dN bI dL bd px a3 aY bt dy hx pb dq dp bM
  go_upto_region 30 with (go_at_call 25;(with_reducible refine(bx.out _).mono ?_);rintro e y1 ⟨r1,rfl,t,j1⟩;obtain⟨ra,rm,rc,rs,aR,aT,aS,rfl⟩:=t.form)
  obtain⟨bH,bn⟩:=gX y1.heap.size;obtain⟨V1,bK⟩:=gX (y1.alloc (M #[Z ra rm rc,I rs,Z aR aT aS] 65));rw [bK,bn];have cp:Ext y1 V1:=by rw [←bK];exact(eR _).alloc _
  have bC:V1.heap[bH]?=N (M #[Z ra rm rc,I rs,Z aR aT aS] 65 (0,0)):=by rw [←bK,←bn];exact aN y1 _
  have cS:CellL [(⟨bH,0,X⟩,Z ra rm rc),(⟨bH,1,X⟩,I rs),(⟨bH,2,X⟩,Z aR aT aS)] V1.drew:=⟨qcB bC (i:=0) rfl,qcB bC (i:=1) rfl,qcB bC (i:=2) rfl,trivial⟩;have c3:=hd9 (t.ext cp);have cg:=hd9 (cY.out.trans (j1.trans cp));have D1:Ext V1 V1.drew:=(eR V1).drew;clear bK bn cp bC t j1 bx;refine zbb [(9,31,M #[Z X 0 0,I false,Z X 0 0] 65 (0,0))] _ 10 2 (fun i=>decide (9<i)) (fun _=>false) kM kM kM sM kM (by intro x hx;simp only [List.mem_cons,List.not_mem_nil,or_false]at hx;rcases hx with rfl<;>exact⟨_,rfl,rfl,fun a W=>by go_simp⟩) (fun _ _ d _ _ h=>by cases d<;>exact h) cS (fun aJ=>?_);refine tf1 (i:=0) ?_;refine tf1 (i:=2) ?_;refine tf1 (i:=3) ?_;refine tf1 (i:=4) ?_;refine tf1 (i:=6) ?_;refine cf1 (i:=1) fun W4 aD bm r K m=>?_
  go_simp
  (with_reducible refine cM (cV.out _) ?_)
  rintro e w4 ⟨r4,rfl,cD,aX⟩;obtain⟨a4,m4,c4,s4,d1,eb,d4,rfl⟩:=cD.form
  go_wp2_with fail
  refine kO m (.of bm aX) (fun _ _=>?_);clear m K r;refine cf1 (i:=5) fun W5 s di r K m=>?_
  go_simp
  (with_reducible refine cM (cd.out _) ?_)
  rintro e w5 ⟨r5,rfl,cF,bP⟩;obtain⟨a5,m5,c5,s5,d2,ec,d5,rfl⟩:=cF.form
  go_wp2_with fail
  refine kO m (.of di bP) (fun _ _=>?_);clear m K r;have X5:=((D1.trans aD).trans aX).trans (s.trans bP);refine cf1 (i:=7) fun W7 aP dj r K m=>?_
  go_simp
  (with_reducible refine cM (cU.out _ _ _ (cF.ext aP) (c3.out.ext (X5.trans aP))) ?_)
  rintro e w7 ⟨r7,rfl,cG,ar⟩;obtain⟨a7,m7,c7,s7,d3,ed,d6,rfl⟩:=cG.form
  go_wp2_with fail
  refine kO m (.of dj ar) (fun _ _=>?_);clear m K r;refine cf1 (i:=8) fun W8 aZ dk r K m=>?_
  go_simp
  (with_reducible refine cM (cb.out _ _ _ (cD.ext (((s.trans bP).trans (aP.trans ar)).trans aZ)) (cG.ext aZ)) ?_)
  rintro e w8 ⟨r8,rfl,cH,aQ⟩;obtain⟨a8,m8,c8,s8,bG,bQ,bJ,rfl⟩:=cH.form
  go_wp2_with fail
  refine kO m (.of dk aQ) (fun _ _=>?_);clear m K r;have X8:=(X5.trans (aP.trans ar)).trans (aZ.trans aQ);clear cD cF cG aD aX s bP aP ar aZ aQ;refine df kM (fun W9 bk de=>?_);intro o aK cQ _ _;have xf:=qfB aK;have x0:=qcB aK (i:=0) (u:=Z X 0 0) rfl;have x1:=qcB aK (i:=1) (u:=I false) rfl;have x2:=qcB aK (i:=2) (u:=Z X 0 0) rfl;refine cl1 (i:=10) fun K m=>?_
  go_simp;refine kO m (cE aJ (by(repeat refine Ext.set ?_ (by exact cQ) _);exact de)) (fun cq=>?_);clear m K;refine wpAnyH_done kM ?_ _;clear x0 x1 x2 xf cq;have zb:w9.heap.size≤o:=nT cg.out.size (by simpa only [qdZ] using cQ);obtain⟨V3,bi⟩:=gX (((W9.setCell ⟨o,0,X⟩ (Z a8 m8 c8)).setCell ⟨o,1,X⟩ (I s8)).setCell ⟨o,2,X⟩ (Z bG bQ bJ));rw [bi];have c9:V3.heap[o]?=N (M #[Z a8 m8 c8,I s8,Z bG bQ bJ] 65 (0,0)):=by rw [←bi];exact zac (zac (zac aK 0 _) 1 _) 2 _
  have kT:KeepT 2 W9 V3:=by rw [←bi];exact(((KeepT.refl _ _).set (p:=⟨o,0,X⟩) aK dM _).set (p:=⟨o,1,X⟩) (zac aK 0 _) dM _).set (p:=⟨o,2,X⟩) (zac (zac aK 0 _) 1 _) dM _
  have bF:Ext w9 V3:=by rw [←bi];exact(((cg.out.trans (X8.trans bk)).set (p:=⟨o,0,X⟩) zb _).set (p:=⟨o,1,X⟩) zb _).set (p:=⟨o,2,X⟩) zb _
  have b7:=(cH.ext bk).keep kT;have ba:=hd9 (bb.out.trans bF);have c6:=hd9 b7
  replace f:=hd9 (bF.heapS f.out)
  replace g:=hd9 (bF.heapS g.out)
  have j:=hd9 c9
  have a6:Hid (((((lineL (lowP2 p):Int):Rat)≤x∧x≤((lineR (lowP2 p):Int):Rat))∧(((lineL (lowP2 q):Int):Rat)≤x∧x≤((lineR (lowP2 q):Int):Rat)))):=by
   obtain⟨g1,g2,-⟩:=ci.out;obtain⟨⟨g3,g4⟩,-⟩:=Hx.out;exact hd9 ⟨⟨Rat.le_trans (Rat.intCast_le_intCast.2 oM) g3,Rat.le_trans g4 (Rat.intCast_le_intCast.2 oM)⟩,⟨Rat.le_trans (Rat.intCast_le_intCast.2 oM) g3,Rat.le_trans g4 (Rat.intCast_le_intCast.2 oM)⟩⟩
  have ce:=hd9 (fun(W:J) (l:Ext V3 W)=>zcT W _ _ p x (ck.out.ext' (ba.out.trans l)) (c6.out.ext l) (Hx.out.2.up dM) Hk.out (HG.out.ext (aL.out.trans (ba.out.trans l))) HB.out.1 a6.out.1.1 a6.out.1.2);have cf:=hd9 (fun(W:J) (l:Ext V3 W)=>zcT W _ _ q x (cj.out.ext' (ba.out.trans l)) (c6.out.ext l) (Hx.out.2.up dM) ch.out (HG.out.ext (aL.out.trans (ba.out.trans l))) HB.out.2.1 a6.out.2.1 a6.out.2.2);unfold plc RetSd at ce cf;clear bi c9 kT bF b7 cH aK cQ zb X8 bk de D1 cb cU cV cd cS cY cg c3 aJ bg cl Kd bz bc
  (have y:=qcB f.out (i:=0) (u:=.string p.name) rfl);(have z:=qcB f.out (i:=1) (u:=Z av aB ay) rfl);(have D:=qcB f.out (i:=2) (u:=O Y p.depth) rfl);(have Q:=qcB f.out (i:=3) (u:=O Y p.density) rfl);(have T:=qcB f.out (i:=4) (u:=O Y p.gx) rfl);(have aa:=qcB f.out (i:=5) (u:=O Y p.gz) rfl);(have ab:=qcB f.out (i:=6) (u:=O Y p.way) rfl);(have ac:=qcB f.out (i:=7) (u:=O Y (p.ax)) rfl);(have ad:=qcB f.out (i:=8) (u:=O Y (p.az)) rfl);(have ae:=qcB f.out (i:=9) (u:=O E p.skin) rfl);(have af:=qfB f.out);(have ag:=qcB g.out (i:=0) (u:=.string q.name) rfl);(have ah:=qcB g.out (i:=1) (u:=Z au aA aw) rfl);(have ai:=qcB g.out (i:=2) (u:=O Y q.depth) rfl);(have aj:=qcB g.out (i:=3) (u:=O Y q.density) rfl);(have ak:=qcB g.out (i:=4) (u:=O Y q.gx) rfl);(have al:=qcB g.out (i:=5) (u:=O Y q.gz) rfl);(have am:=qcB g.out (i:=6) (u:=O Y q.way) rfl);(have an:=qcB g.out (i:=7) (u:=O Y (q.ax)) rfl);(have ao:=qcB g.out (i:=8) (u:=O Y (q.az)) rfl);(have ap:=qcB g.out (i:=9) (u:=O E q.skin) rfl);(have aq:=qfB g.out)
  have v0:=qcB j.out (i:=0) (u:=Z a8 m8 c8) rfl;have v1:=qcB j.out (i:=1) (u:=I s8) rfl;have v2:=qcB j.out (i:=2) (u:=Z bG bQ bJ) rfl
  go_upto_region 32 with (go_at_call 18;(with_reducible refine(ce.out _ (eR _)).mono ?_);rintro e bW ⟨r1,r2,rfl,t,aW,b8⟩;obtain⟨ra,rm,rc,rs,aR,aT,aS,rfl⟩:=t.form;obtain⟨ua,um,uc,us,bT,bV,bU,rfl⟩:=aW.form)
  obtain⟨aF,a0⟩:=gX bW.heap.size;obtain⟨cm,aM⟩:=gX ((bW.alloc (M #[Z ra rm rc,I rs,Z aR aT aS] 65)).alloc (M #[Z ua um uc,I us,Z bT bV bU] 65));rw [aM,a0];have bD:Ext bW cm:=by rw [←aM];exact((eR _).alloc _).alloc _
  have aU:cm.heap[aF]?=N (M #[Z ra rm rc,I rs,Z aR aT aS] 65 (0,0)):=by rw [←aM,←a0];exact((eR _).alloc _).heapS (aN bW _)
  have aV:cm.heap[aF+1]?=N (M #[Z ua um uc,I us,Z bT bV bU] 65 (0,0)):=by rw [←aM];exact qhA _ _ _ (by simp [a0])
  have bh:=b8.trans bD
  replace f:=hd9 (bh.heapS f.out)
  replace g:=hd9 (bh.heapS g.out)
  replace j:=hd9 (bh.heapS j.out)
  have b4:=hd9 bh;have cZ:=hd9 (And.intro (t.ext bD) (aW.ext bD));have a9:=hd9 (And.intro aU aV);clear y z D Q T aa ab ac ad ae af ag ah ai aj ak al am an ao ap aq;clear aM a0 bD bh b8 t aW aU aV v0 v1 v2
  (have y:=qcB f.out (i:=0) (u:=.string p.name) rfl);(have z:=qcB f.out (i:=1) (u:=Z av aB ay) rfl);(have D:=qcB f.out (i:=2) (u:=O Y p.depth) rfl);(have Q:=qcB f.out (i:=3) (u:=O Y p.density) rfl);(have T:=qcB f.out (i:=4) (u:=O Y p.gx) rfl);(have aa:=qcB f.out (i:=5) (u:=O Y p.gz) rfl);(have ab:=qcB f.out (i:=6) (u:=O Y p.way) rfl);(have ac:=qcB f.out (i:=7) (u:=O Y (p.ax)) rfl);(have ad:=qcB f.out (i:=8) (u:=O Y (p.az)) rfl);(have ae:=qcB f.out (i:=9) (u:=O E p.skin) rfl);(have af:=qfB f.out);(have ag:=qcB g.out (i:=0) (u:=.string q.name) rfl);(have ah:=qcB g.out (i:=1) (u:=Z au aA aw) rfl);(have ai:=qcB g.out (i:=2) (u:=O Y q.depth) rfl);(have aj:=qcB g.out (i:=3) (u:=O Y q.density) rfl);(have ak:=qcB g.out (i:=4) (u:=O Y q.gx) rfl);(have al:=qcB g.out (i:=5) (u:=O Y q.gz) rfl);(have am:=qcB g.out (i:=6) (u:=O Y q.way) rfl);(have an:=qcB g.out (i:=7) (u:=O Y (q.ax)) rfl);(have ao:=qcB g.out (i:=8) (u:=O Y (q.az)) rfl);(have ap:=qcB g.out (i:=9) (u:=O E q.skin) rfl);(have aq:=qfB g.out)
  have v0:=qcB j.out (i:=0) (u:=Z a8 m8 c8) rfl;have v1:=qcB j.out (i:=1) (u:=I s8) rfl;have v2:=qcB j.out (i:=2) (u:=Z bG bQ bJ) rfl
  go_upto_region 33 with (go_at_call 18;(with_reducible refine(cf.out _ b4.out).mono ?_);rintro e bX ⟨r1,r2,rfl,t,aW,b9⟩;obtain⟨ya,ym,yc,ys,bY,b0,bZ,rfl⟩:=t.form;obtain⟨za,zm,zc,zs,b1,b3,b2,rfl⟩:=aW.form)
  obtain⟨aG,a1⟩:=gX bX.heap.size;obtain⟨a2,aO⟩:=gX ((bX.alloc (M #[Z ya ym yc,I ys,Z bY b0 bZ] 65)).alloc (M #[Z za zm zc,I zs,Z b1 b3 b2] 65));rw [aO,a1];have bE:Ext bX a2:=by rw [←aO];exact((eR _).alloc _).alloc _
  have bA:a2.heap[aG]?=N (M #[Z ya ym yc,I ys,Z bY b0 bZ] 65 (0,0)):=by rw [←aO,←a1];exact((eR _).alloc _).heapS (aN bX _)
  have bB:a2.heap[aG+1]?=N (M #[Z za zm zc,I zs,Z b1 b3 b2] 65 (0,0)):=by rw [←aO];exact qhA _ _ _ (by simp [a1])
  have aC:=b9.trans bE;have aU:=aC.heapS a9.out.1;have aV:=aC.heapS a9.out.2
  have cR:CellL [(⟨aF,0,X⟩,Z ra rm rc),(⟨aF,1,X⟩,I rs),(⟨aF,2,X⟩,Z aR aT aS),(⟨aF+1,0,X⟩,Z ua um uc),(⟨aF+1,1,X⟩,I us),(⟨aF+1,2,X⟩,Z bT bV bU),(⟨aG,0,X⟩,Z ya ym yc),(⟨aG,1,X⟩,I ys),(⟨aG,2,X⟩,Z bY b0 bZ),(⟨aG+1,0,X⟩,Z za zm zc),(⟨aG+1,1,X⟩,I zs),(⟨aG+1,2,X⟩,Z b1 b3 b2)] a2:=
   ⟨qcB aU (i:=0) rfl,qcB aU (i:=1) rfl,qcB aU (i:=2) rfl,qcB aV (i:=0) rfl,qcB aV (i:=1) rfl,qcB aV (i:=2) rfl,qcB bA (i:=0) rfl,qcB bA (i:=1) rfl,qcB bA (i:=2) rfl,qcB bB (i:=0) rfl,qcB bB (i:=1) rfl,qcB bB (i:=2) rfl,trivial⟩
  have HX:=hd9 (aL.out.trans (ba.out.trans (b4.out.trans aC)))
  have dx:topI p q x≤botI p q x:=by
   obtain⟨g1,g2,g3⟩:=ci.out;have e1:(insS p q).lo=lo:=g1;have e2:(insS p q).hi=hi:=g2;obtain⟨⟨g4,g5⟩,-⟩:=Hx.out;exact zlA HB.out.1 HB.out.2.1 (by rw [HB.out.2.2];exact h5) (by rw [e1,e2];exact g3) (by rw [e1];exact g4) (by rw [e2];exact g5)
  have cT:=hd9 (fun(W:J) (l:Ext a2 W)=>HA.out W (HX.out.trans l));clear y z D Q T aa ab ac ad ae af ag ah ai aj ak al am an ao ap aq;clear v0 v1 v2 aO a1 aU aV bA bB b9 ce cf a6 ci f g j a9 h5 dP;refine zlL _ a2 p q x aF aG HB.out.1 HB.out.2.1 (Hx.out.2.up dM) ra rm rc rs aR aT aS ua um uc us bT bV bU ya ym yc ys bY b0 bZ za zm zc zs b1 b3 b2 cR (cZ.out.1.ext aC) (cZ.out.2.ext aC) (t.ext bE) (aW.ext bE) cT dx _ rfl rfl rfl rfl rfl rfl rfl rfl (fun _ _ d _ _ h=>by cases d<;>exact h) (fun a' W h6 h0 hd bs=>?_);obtain⟨tt,dd⟩:=a';dsimp only at h6 h0 hd;subst hd;obtain⟨u8,hu,ht⟩:=arrU tt 272 h0;simp only [hu]at h6;clear hu h0;subst ht;simp only [List.range,List.range.loop,List.map_cons,List.map_nil,h6];clear h6;have XL:=HX.out.trans bs;clear bs t aW bE aC cR dx cT;go_wp2;exact bR (v:=I true) (by simp [results,Tryz.results6,go_sem]) rfl ⟨rfl,XL⟩
 ·have dm:hi≤lo:=oM
  have cC:k≤2:=by
   rw [←cB];unfold relP
   by_cases c1:lineR (lowP2 p)≤lineL (lowP2 q)
   ·rw [if_pos c1];decide
   ·rw [if_neg c1]
    by_cases c2:lineR (lowP2 q)≤lineL (lowP2 p)
    ·rw [if_pos c2];decide
    ·omega
  clear pq qq cB bM a3 aY bz bg cl
  go_wp2_with(go_at_call 10;(with_reducible refine(HA.out _ (aL.out.trans (bb.out.trans XV))).mono ?_);rintro e y5 ⟨rfl,j5⟩)
  go_ret;exact⟨rfl,aL.out.trans ((bb.out.trans XV).trans j5)⟩
theorem zie (w:J) (v i:Value) (p q:Pl) (a:Int) (hv:IsPr w v p.shape) (g:IsPr w i q.shape) (k:0≤p.skin) (c:0≤q.skin) (b:Gw w) (d:0≤a) (f:a<256) :
  Calls Tryz.prog 6 #[.agg (plc p v),.agg (plc q i),O E a] w fun e m=>e = .returned (I true)∧Ext w m:=by
 by_cases l:longB p=false∧longB q=false
 ·by_cases j:relE p q=0∧relP p q≠5
  ·exact zig w v i p q a hv g k c b d f l j.1 j.2
  ·exact zgG w v i p q a hv g k c b d f l (fun e=>Decidable.byContradiction fun h=>j ⟨e,h⟩)
 ·refine zif w v i p q a hv g k c b d f ?_
  cases h1:longB p
  ·cases h2:longB q
   ·exact absurd ⟨h1,h2⟩ l
   ·exact .inr rfl
  ·exact .inl rfl
end
section
open Go.ChangeShapes Go.WideShapes Go.Deep
section
variable {H:Type} {enc:TypeId×Value→H} {P:Program} {w:World} {spare:Nat→Bool} {held:Bool}
theorem zhi {k:Nat}:∀{a:List (List Value)} {j:Nat} {x:Value},0<k→(∀c∈a,c.length=k)→a.flatten[j]?=some x→∃d,a[j / k]?=some d∧d[j % k]?=some x
 | [],j,x,_,_,h=>by simp at h
 | c::a,j,x,hk,hc,h=>by
  have i:c.length=k:=hc c sM;rw [List.flatten_cons]at h
  by_cases e:j<k
  ·rw [List.getElem?_append_left oM]at h
   rw [Nat.div_eq_of_lt e,Nat.mod_eq_of_lt e];exact⟨c,rfl,h⟩
  ·rw [List.getElem?_append_right oM,i]at h
   obtain⟨d,f,g⟩:=zhi (j:=j-k) hk (fun c b=>hc c (mC _ b)) h;rw [Nat.div_eq_sub_div hk oM,Nat.mod_eq_sub_mod oM];exact⟨d,by simpa using f,g⟩
theorem zel {t e:TypeId} {k fuel:Nat} {cs:List Value} {x:DataW H×List MemPlace} (ht:P.underlying t=some (.slice e)) (hk:P.cellsOf e=k) (s:0<k)
  (h:DataW.trod enc P w 0 spare held fuel t cs=some x) :
  ∃(a:Option Addr) (n c:Nat) (T:TypeId) (q:List (List Value)),cs=[.slice a n c]∧q.length=n∧(∀d∈q,d.length=k)∧Rd w T k (.slice a n c) n q.flatten ∧
   ∀d∈q,∃m y,DataW.trod enc P w 0 spare held m e d=some y:=by
 rcases open_slice ht h with ⟨rfl,_⟩|⟨a,len,cap,m,f,D,Pl,rfl,_,hl,hm,aa,_,W⟩
 ·exact⟨none,0,0,0,[],rfl,rfl,by simp,Rd.nil w 0 k,by simp⟩
 ·have ae:len≤m:=by rw [aa];split<;>omega
  rw [hk]at W;obtain⟨F,hF⟩:=choose_lt (α:=List Value) (n:=len) (p:=fun i d=>w.cells? 0 (a.add (i*k)) k=some d∧DataW.trod enc P w 0 spare held f e d=some (D i,Pl i)) (fun i l=>W i oM)
  have g:∀d∈(List.range len).map F,d.length=k:=by
   intro d hd;obtain⟨i,l,rfl⟩:=List.mem_map.1 hd;exact(World.cells?_some (hF i (List.mem_range.1 l)).1).2.1
  have Q:∀d∈(List.range len).map F,∃m y,DataW.trod enc P w 0 spare held m e d=some y:=by
   intro d hd;obtain⟨i,l,rfl⟩:=List.mem_map.1 hd;exact⟨f,_,(hF i (List.mem_range.1 l)).2⟩
  by_cases h0:len=0
  ·subst h0
   exact⟨some a,0,cap,0,[],rfl,rfl,by simp,⟨by simp,some a,cap,rfl,hl,hm,.inl ⟨rfl,fun e=>by cases e⟩⟩,by simp⟩
  ·have u:=(World.cells?_some (hF 0 oM).1).2.2 0 s
   have ad:=g (F 0) (List.mem_map.2 ⟨0,List.mem_range.2 oM,rfl⟩);obtain⟨v0,ac⟩:∃v,(F 0)[0]?=some v:=⟨(F 0)[0]' oM,by simp⟩;rw [ac]at u;obtain⟨b,o,sp⟩:=a
   have ab:sp=none:=by
    have:=World.cell?_spot u
    simpa [Addr.add] using this
   subst ab;have e0:((⟨b,o,none⟩:Addr).add (0*k)).add 0=⟨b,o,none⟩:=by simp [Addr.add]
   rw [e0]at u
   obtain⟨blk,T,z,r⟩:∃blk T z,w.heap[b]?=some (.cells blk T z):=by
    unfold World.cell? at u
    split at u
    ·rename_i blk T z hb;exact⟨blk,T,z,hb⟩
    ·cases u
   refine⟨some ⟨b,o,none⟩,len,cap,T,(List.range len).map F,rfl,by simp,g,⟨?_,some ⟨b,o,none⟩,cap,rfl,hl,hm,.inr ⟨b,o,blk,z,rfl,r,fun j y hj=>?_⟩⟩,Q⟩
   ·rw [zaq g];simp
   ·obtain⟨d,K,h2⟩:=zhi s g hj
    obtain⟨l,rfl⟩:j / k<len∧F (j / k)=d:=by
     rw [lP]at K
     by_cases l:j / k<len
     ·rw [List.getElem?_range l]at K
      exact⟨l,Option.some.inj K⟩
     ·rw [List.getElem?_eq_none (by simpa using l)]at K
      cases K
    have c1:=(World.cells?_some (hF (j / k) l).1).2.2 (j % k) (Nat.mod_lt _ s);rw [h2]at c1
    have e1:((⟨b,o,none⟩:Addr).add (j / k*k)).add (j % k)=⟨b,o+j,none⟩:=by
     rw [add_add];have:j / k*k+j % k=j:=by rw [Nat.mul_comm];exact Nat.div_add_mod j k
     rw [this];unfold Addr.add
     split
     ·rename_i h;rw [h];rfl
     ·rfl
    rw [e1]at c1
    simpa [World.cell?,r] using c1
end
end
section
open Go.ChangeShapes Go.WideShapes Go.Deep
def flds (P:Program) (t:TypeId):Array Field:=match P.underlying t with|some (.struct fs)=>fs|_=>#[]
section
variable {H:Type} {enc:TypeId×Value→H} {w:World} {spare:Nat→Bool} {held:Bool}
theorem fld {P:Program} {a:Array Field} {n i ti oi ki:Nat} {cs:List Value} {xs:List (DataW H×List MemPlace)} (d:xs.length=a.size)
  (b:∀(i:Nat) (f:Field),a[i]?=some f→DataW.trod enc P w 0 spare held n f.type ((cs.drop f.offset).take (P.cellsOf f.type))=xs[i]?)
  (hi:a[i]?.map (fun f=>(f.type,f.offset,P.cellsOf f.type))=some (ti,oi,ki)):∃y,DataW.trod enc P w 0 spare held n ti ((cs.drop oi).take ki)=some y:=by
 cases h:a[i]? with
 | none=>rw [h]at hi;cases hi
 | some f =>
  rw [h]at hi;simp only [Option.map_some,Option.some.injEq,Prod.mk.injEq]at hi;obtain⟨rfl,rfl,rfl⟩:=hi;have c:i<xs.length:=by rw [d];exact(Array.getElem?_eq_some_iff.1 h).1
  exact⟨xs[i],by rw [b i f h];simp [c]⟩
theorem zeE:Tryz.prog.underlying 3=some (.int .i64):=kM
theorem zoa:Tryz.prog.underlying 5=some (.int .u8):=kM
theorem znr:Tryz.prog.underlying 9=some .string:=kM
theorem zn8:Tryz.prog.underlying 24=some (.struct (flds Tryz.prog 24)):=kM
theorem zn9:Tryz.prog.underlying 26=some (.struct (flds Tryz.prog 26)):=kM
theorem zmm:Tryz.prog.underlying 28=some (.struct (flds Tryz.prog 28)):=kM
theorem zmn:Tryz.prog.underlying 46=some (.struct (flds Tryz.prog 46)):=kM
theorem znq:Tryz.prog.underlying 22=some (.slice 24):=kM
theorem znp:Tryz.prog.underlying 44=some (.slice 28):=kM
theorem zbT {n:Nat} {cs:List Value} {y:DataW H×List MemPlace} (h:DataW.trod enc Tryz.prog w 0 spare held n 24 cs=some y):∃p:Int×Int,cs=[.int .i64 p.1,.int .i64 p.2]:=by
 obtain⟨o,m,_,_,f,g,e⟩:=DataW.trod_struct zn8 h;have l:Tryz.prog.cellsOf 24=2:=kM
 rw [l]at f;obtain⟨q,j⟩:=fld g e (i:=0) (ti:=3) (oi:=0) (ki:=1) kM;obtain⟨r,k⟩:=fld g e (i:=1) (ti:=3) (oi:=1) (ki:=1) kM
 match cs,f with
 | [a,b],_ =>
  obtain⟨x,c,_⟩:=DataW.trod_int zeE j;obtain⟨z,d,_⟩:=DataW.trod_int zeE k;simp at c d;subst c d;exact⟨(x,z),rfl⟩
theorem ziR {α:Type} {Q:List Value→α→Prop}:∀{css:List (List Value)},(∀d∈css,∃a,Q d a)→∃l:List α,css.length=l.length∧∀(i:Nat) d a,css[i]?=some d→l[i]?=some a→Q d a
 | [],_=>⟨[],rfl,fun i d a h=>by simp at h⟩
 | c::css,h=>by
  obtain⟨a,j⟩:=h c sM;obtain⟨l,k,f⟩:=ziR (css:=css) (fun d e=>h d (mC _ e));refine⟨a::l,by simp [k],fun i d b e g=>?_⟩
  cases i with
  | zero=>simp at e g;subst e g;exact j
  | succ i=>exact f i d b (by simpa using e) (by simpa using g)
theorem zcw {n:Nat} {v:Value} {y:DataW H×List MemPlace} (h:DataW.trod enc Tryz.prog w 0 spare held n 22 [v]=some y):∃ps,IsPr w v ps:=by
 obtain⟨a,m,c,T,g,e,l,j,r,i⟩:=zel znq (k:=2) kM oM h
 cases e
 obtain⟨ps,b,q⟩:=ziR (α:=Int×Int) (Q:=PP w) (fun d h=>by
  obtain⟨f,y,s⟩:=i d h;obtain⟨p,o⟩:=zbT s;exact⟨p,o⟩)
 exact⟨ps,T,g,b,j,by rw [←b,l];exact r,q⟩
theorem zcv {n:Nat} {cs:List Value} {y:DataW H×List MemPlace} (h:DataW.trod enc Tryz.prog w 0 spare held n 28 cs=some y):∃p:Pl,PPr w cs p:=by
 obtain⟨xs,m,_,_,v,f,e⟩:=DataW.trod_struct zmm h;have hc:Tryz.prog.cellsOf 28=10:=kM
 rw [hc]at v;obtain⟨y0,h0⟩:=fld f e (i:=0) (ti:=26) (oi:=0) (ki:=6) kM;obtain⟨y1,h1⟩:=fld f e (i:=1) (ti:=3) (oi:=6) (ki:=1) kM;obtain⟨y2,h2⟩:=fld f e (i:=2) (ti:=24) (oi:=7) (ki:=2) kM;obtain⟨y3,h3⟩:=fld f e (i:=3) (ti:=5) (oi:=9) (ki:=1) kM
 match cs,v with
 | [a0,a1,a2,a3,a4,a5,a6,a7,a8,a9],_ =>
  obtain⟨zs,k,_,_,_,d,c⟩:=DataW.trod_struct zn9 h0;obtain⟨z0,Q⟩:=fld d c (i:=0) (ti:=9) (oi:=0) (ki:=1) kM;obtain⟨z1,T⟩:=fld d c (i:=1) (ti:=22) (oi:=1) (ki:=1) kM;obtain⟨z2,W⟩:=fld d c (i:=2) (ti:=3) (oi:=2) (ki:=1) kM;obtain⟨z3,g3⟩:=fld d c (i:=3) (ti:=3) (oi:=3) (ki:=1) kM;obtain⟨z4,g4⟩:=fld d c (i:=4) (ti:=24) (oi:=4) (ki:=2) kM;obtain⟨nm,j,_⟩:=DataW.trod_string znr Q;obtain⟨sh,g⟩:=zcw T;obtain⟨D,l,_⟩:=DataW.trod_int zeE W;obtain⟨K,o,_⟩:=DataW.trod_int zeE g3;obtain⟨u,q⟩:=zbT g4;obtain⟨wy,r,_⟩:=DataW.trod_int zeE h1;obtain⟨b,s⟩:=zbT h2;obtain⟨x,t,_,a⟩:=DataW.trod_int zoa h3;simp at j l o q r s t;obtain⟨rfl,rfl⟩:=q;obtain⟨rfl,rfl⟩:=s;subst j l o r t;refine⟨⟨nm,sh,D,K,u.1,u.2,wy,b.1,b.2,x⟩,_,rfl,g,?_⟩;have z:decide (IntKind.u8.min≤x)=true:=by unfold Lit.wf at a;simp only [Bool.and_eq_true]at a;exact a.1
  have w8:IntKind.u8.min=0:=dM
  rw [w8]at z;exact of_decide_eq_true z
theorem zed {n:Nat} {v:Value} {y:DataW H×List MemPlace} (h:DataW.trod enc Tryz.prog w 0 spare held n 44 [v]=some y):∃ps,IsWr w v ps:=by
 obtain⟨a,m,c,T,g,e,l,j,p,i⟩:=zel znp (k:=10) kM oM h
 cases e
 obtain⟨ps,b,o⟩:=ziR (α:=Pl) (Q:=PPr w) (fun d h=>by
  obtain⟨f,y,q⟩:=i d h;exact zcv q)
 exact⟨ps,T,g,b,j,by rw [←b,l];exact p,o⟩
theorem zmp {r:Reach} {n:Nat} {v:Value} {d:DataW H} {p:List MemPlace} (hv:Value.okWide Tryz.prog w r n 46 v) (h:DataW.Trod enc Tryz.prog w 0 spare held 46 v d p) :
  ∃vg vp g ps,v = .agg #[vg,vp]∧IsPr w vg g∧IsWr w vp ps:=by
 obtain⟨j,rfl,c⟩:=okWide_struct zmn hv;have u:Tryz.prog.cellsOf 46=2:=kM
 rw [u]at c
 obtain⟨e,f,rfl⟩:∃a b,j=#[a,b]:=by
  match j,c with
  | ⟨[a,b]⟩,_=>exact⟨a,b,rfl⟩
 obtain⟨fuel,x⟩:=h;obtain⟨z,m,_,_,y,l,k⟩:=DataW.trod_struct zmn x;obtain⟨D,o⟩:=fld l k (i:=0) (ti:=22) (oi:=0) (ki:=1) kM;obtain⟨K,q⟩:=fld l k (i:=1) (ti:=44) (oi:=1) (ki:=1) kM;obtain⟨g,s⟩:=zcw (v:=e) o;obtain⟨ps,t⟩:=zed (v:=f) q;exact⟨e,f,g,ps,rfl,s,t⟩
end
end
section
open Go Go.ChangeShapes Go.WideShapes Go.ChangeAt Go.RowKit
theorem zlE:ownKnob Tryz.prog.godebug=X:=kM
theorem g_ways:Tryz.prog.globalNamed "copestone/stone.ways"=N 0:=kM
theorem t_ways:(Tryz.prog.globals[0]?).map (·.type)=N 224:=kM
theorem zlS:Tryz.prog.underlying 224=N (.array 4 223):=kM
theorem zdC:Tryz.prog.underlying 223=N (.func #[33] #[33] false):=kM
theorem zhq:laidOutB Tryz.prog=true:=kM
abbrev vars3:List (String×DataW Unit):=[("unicode/utf8.acceptRanges",Rows.laid_unicode_utf8_acceptRanges),("copestone/stone.ways",Rows.laid_copestone_stone_ways),("unicode/utf8.first",Rows.laid_unicode_utf8_first)]
abbrev vars2:List (String×DataW Unit):=[("unicode/utf8.acceptRanges",Rows.laid_unicode_utf8_acceptRanges),("unicode/utf8.first",Rows.laid_unicode_utf8_first)]
theorem zic {W:J} (h:laidMetH Tryz.prog vars3 W):Gw W:=by
 obtain⟨g,t,a,fuel,p,c,q,hv,o⟩:=h.funcs (mC _ (List.mem_cons_self ..));obtain rfl:=Option.some.inj (g_ways.symm.trans c);obtain rfl:=Option.some.inj (t_ways.symm.trans q);have d:DataW.trod (funcToken Tryz.prog) Tryz.prog W 0 (fun _=>true) true fuel 224 a.toList=N (.agg [.held [99,111,112,101,115,116,111,110,101,47,115,116,111,110,101,46,119,97,121,115,36,49],.held [99,111,112,101,115,116,111,110,101,47,115,116,111,110,101,46,119,97,121,115,36,50],.held [99,111,112,101,115,116,111,110,101,47,115,116,111,110,101,46,119,97,121,115,36,51],.held [99,111,112,101,115,116,111,110,101,47,115,116,111,110,101,46,119,97,121,115,36,52]],p):=o;obtain⟨K,m,_,k,j,f,b⟩:=DataW.trod_array zlS d;have l:Tryz.prog.cellsOf 223=1:=kM
 have n:Tryz.prog.cellsOf 224=4:=kM
 rw [n]at j;rw [l]at b;obtain⟨a⟩:=a;have e:a.length=4:=j
 match a,e,K,f with
 | [v0,v1,v2,v3],_,[⟨y0,Q⟩,⟨y1,T⟩,⟨y2,q2⟩,⟨y3,q3⟩],_ =>
  simp only [Prod.mk.injEq,List.map_cons,List.map_nil,DataW.agg.injEq,List.cons.injEq,and_true]at k;obtain⟨⟨rfl,rfl,rfl,rfl⟩,_⟩:=k;have x:=b 0 oM;have y:=b 1 oM;have z:=b 2 oM;have D:=b 3 oM;have r:=World.var?_cell c hv 0;have s:=World.var?_cell c hv 1;have u:=World.var?_cell c hv 2;have v:=World.var?_cell c hv 3;obtain rfl:=func_of_trod (f0:=264) zdC kM x;obtain rfl:=func_of_trod (f0:=265) zdC kM y;obtain rfl:=func_of_trod (f0:=266) zdC kM z;obtain rfl:=func_of_trod (f0:=267) zdC kM D;have i:W.cell? ⟨0,0,X⟩=N (.func (.func 264) #[] #[]):=by simpa using r
  exact⟨World.block_lt_of_cell? W _ (by rw [i]),i,by simpa using s,by simpa using u,by simpa using v⟩
noncomputable def wit (os:Os):J:=(World.doorLaid Tryz.prog 14 os).layVars Tryz.prog vars2
theorem znv (os:Os) (args:Array Value):laidMetH Tryz.prog vars3 ((wit os).forCall (fun _ _=>0) ⟨#[],args,[]⟩).memory:=by
 refine laidMetH_of_parts3 (fuel:=8) ?_ kM kM
 exact laidMet_layVars (w0:=World.doorLaid Tryz.prog 14 os) ["unicode/utf8.acceptRanges", "unicode/utf8.first"] [] (by rfl) kM kM LaidIn.none
theorem zoz {k:IntKind} {n:Int} (h:(Lit.int k n).wf=true):k.min≤n∧n≤k.max:=by
 unfold Lit.wf at h;simp only [Bool.and_eq_true,decide_eq_true_eq]at h;exact h
theorem ze0 {H:Type} {enc:TypeId×Value→H} {w:J} {spare:Nat→Bool} {held:Bool} {r:Reach} {a:Nat} {v:Value} {d:DataW H} {p:List MemPlace} (hv:Value.okWide Tryz.prog w r a 28 v) (h:DataW.Trod enc Tryz.prog w 0 spare held 28 v d p) :
  ∃v' q,v = .agg (plc q v')∧IsPr w v' q.shape∧0≤q.skin:=by
 obtain⟨b,rfl,j⟩:=okWide_struct zmm hv;obtain⟨fuel,i⟩:=h;obtain⟨q,v',e,f,g⟩:=zcv i;have c:b=plc q v':=Array.toList_inj.1 e;exact⟨v',q,by rw [c],f,g⟩
end
end Go.Proofs.YtodpfeaihohpjaaGreatDoor.Cop
