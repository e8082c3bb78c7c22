/- Part 39: contracts of what the law calls. -/
import Derived.Test.YteipgejmhfpkaaaGreatDoorCopA37
import Derived.Test.YteipgejmhfpkaaaGreatDoorCopA36
import Derived.Test.YteipgejmhfpkaaaGreatDoorCopA18
import Derived.Test.YteipgejmhfpkaaaGreatDoorCopA30
import Derived.Test.YteipgejmhfpkaaaGreatDoorCopA19
import Derived.Test.YteipgejmhfpkaaaGreatDoorCopA34
import Derived.Test.YteipgejmhfpkaaaGreatDoorCopA16
set_option maxRecDepth 1000000
set_option maxHeartbeats 16000000
set_option linter.unusedSimpArgs false
set_option linter.unusedVariables false
open Option renaming some→O,none→Y
open Go.Value renaming int→Z,pointer→I,slice→N,bool→H,tuple→A
open Go.IntKind renaming i64→X
open Go renaming World→V,Value→G,Act→U
open Go.Obj renaming cells→C
namespace Go.Proofs.YteipgejmhfpkaaaGreatDoor.Cop
section
open Go.RowKit Go.Shelf Go.Sort
attribute [local go_sem] Oper.semAt_some
def PrvK (r:Ru) (L:List Jt) (ro:List Int) (k:Nat) (j:Jt):Prop:=ro.getD k 0≤j.fr∧j.til-r.run≤ro.getD k 0∧∀i∈befL r L k,ro.getD k 0≤ro.getD i 0
def PrvF (s sb:Nat) (qa:Option Addr) (qn qc:Nat) (a:U):Prop:=
 a.tmps.size=73∧a.tmps.getD 4 undef=I (O ⟨s+1,0,Y⟩)∧a.tmps.getD 5 undef=I (O ⟨s+1+1,0,Y⟩)∧a.tmps.getD 6 undef=I (O ⟨s+1+1+1,0,Y⟩)∧a.tmps.getD 7 undef=I (O ⟨sb,0,Y⟩)∧a.tmps.getD 33 undef=N qa qn qc∧a.tmps.getD 34 undef=Z X qn
def PrvI (w1:V) (s sb:Nat) (qa:Option Addr) (qn qc:Nat) (r:Ru) (L:List Jt) (ro:List Int) (gk:Nat) (a:U) (W:V):Prop:=
 (∃(i:Nat) (Ds:List Nat),i≤L.length∧a.tmps.getD 35 undef=Z X (i:Nat)∧gk=L.length-i∧Ext w1 W∧a.defers=marks Ds∧Marked W Ds∧(∀D∈Ds,w1.heap.size≤D)∧∀k j,k<i→L[k]?=O j→PrvK r L ro k j)∧PrvF s sb qa qn qc a
def PrvJ (wr:V) (ro:List Int) (i:Nat) (pre:List {x:Nat // x<i}) (W:V):Prop:=
 Ext wr W∧wr.heap.size+1+1+1+1≤W.heap.size∧W.heap[wr.heap.size]?=O (C #[Z X i] 3 (0,0))∧∀x∈pre,ro.getD i 0≤ro.getD x.1 0
def PrvX (wr:V) (b6:Nat) (ro:List Int) (i:Nat) (c:Code) (pre:List {x:Nat // x<i}) (W:V):Prop:=
 c = .ret∧wr.grownBy W (O b6)∧wr.heap.size+1+1+1+1≤W.heap.size∧W.heap[b6]?=O (C #[H false] 4 (0,0))∧∃x∈pre,¬ro.getD i 0≤ro.getD x.1 0
theorem zpS {a b c:V} {row:Option Nat} (h:Ext a b) (g:b.grownBy c row):a.grownBy c row:=
 ⟨g.os.trans h.os,g.tape.trans h.tape,g.output.trans h.output,nT h.size g.size,fun i hi hr=>(g.block i (Nat.lt_of_lt_of_le hi h.size) hr).trans (h.block hi)⟩
def PrvA (s rz:Nat) (x:Nat) (a:U):Prop:=
 a.tmps.size=73∧a.tmps.getD 5 undef=I (O ⟨s+1+1,0,Y⟩)∧a.tmps.getD 6 undef=I (O ⟨s+1+1+1,0,Y⟩)∧a.tmps.getD 9 undef=I (O ⟨rz,0,Y⟩)∧a.tmps.getD 11 undef=Z X (x:Nat)∧a.defers=[]
theorem zpM (Q:Exit→U→V→Prop) (w1:V) (s sb:Nat) (vg vp vs vr:G) (r:Ru) (hrun:0≤r.run∧r.run≤10000) (qa:Option Addr) (qn qc:Nat) (L:List Jt) (ra:Option Addr) (rn rc:Nat) (ro:List Int)
  (hjL:IsJts w1 (N qa qn qc) L) (hncL:qn≤14400) (hLb:∀j∈L,BJt j) (hro:IsIs w1 (N ra rn rc) ro) (hrl:ro.length=L.length)
  (hS:w1.heap[sb]?=O (C (svc r vg vp vs (N qa qn qc) vr) 113 (0,0))) (hK1:w1.heap[s+1]?=O (C (ruc r) 35 (0,0)))
  (hK2:w1.heap[s+1+1]?=O (C #[N ra rn rc] 36 (0,0))) (hK3:w1.heap[s+1+1+1]?=O (C #[H false] 4 (0,0)))
  (a0:U) (ha0:PrvF s sb qa qn qc a0) (hi0:a0.tmps.getD 35 undef=Z X (0:Nat)) (hd0:a0.defers=marks [])
  (hQ1:∀a W Ds,PrvF s sb qa qn qc a→a.defers=marks Ds→Ext w1 W→Marked W Ds→(∀D∈Ds,w1.heap.size≤D)→PrvP r L ro→Q (.exit 0) a W)
  (hQ2:∀a W Ds,(a.tmps.size=73∧a.tmps.getD 6 undef=I (O ⟨s+1+1+1,0,Y⟩))→a.defers=marks Ds→w1.grownBy W (O (s+1+1+1))→W.heap[s+1+1+1]?=O (C #[H false] 4 (0,0))→Marked W Ds→(∀D∈Ds,w1.heap.size≤D)→¬PrvP r L ro→Q .ret a W) :
  (Code.loop (loopAt Tryz.f18 0)).wpIn Fence.wide 5 Tryz.prog Q a0 w1:=by
 have zs3:=zab hK3;have HnL:=hd9 hjL.len.symm;have Hnr:=hd9 hro.len;have HjL:=hd9 hjL;have HLb:=hd9 hLb;have Hro:=hd9 hro;have Hrl:=hd9 hrl;have HS:=hd9 hS;have HK1:=hd9 hK1;have HK2:=hd9 hK2;have HK3:=hd9 hK3;have HQ1:=hd9 hQ1;have HQ2:=hd9 hQ2;clear hjL hLb hro hrl hS hK1 hK2 hK3 hQ1 hQ2;unfold loopAt;simp only [Tryz.f18,loopsOf,List.cons_append,List.nil_append,List.append_nil,List.getD_cons_succ,List.getD_cons_zero];refine wpIn_loop_ghost_k (PrvI w1 s sb qa qn qc r L ro) qn ?h0 ?round
 case h0=>exact⟨⟨0,[],by omega,hi0,by rw [HnL.out];rfl,eR _,hd0,Marked.nil _,(fun D hD=>by cases hD),fun k j hk=>by omega⟩,ha0⟩
 case round =>
  intro gk aa wr hinv;obtain⟨tt,dd⟩:=aa;obtain⟨⟨i,Ds,hi,f35,rfl,hx,hdd,hmk,hDs,hall⟩,f1,f4,f5,f6,f7,f33,f34⟩:=hinv;dsimp only at f1 f4 f5 f6 f7 f33 f34 f35 hdd;subst hdd;obtain⟨u,hu,ht⟩:=arrU tt 73 f1;simp only [hu]at f4 f5 f6 f7 f33 f34 f35;clear hu f1;subst ht;simp only [List.range,List.range.loop,List.map_cons,List.map_nil,f4,f5,f6,f7,f33,f34,f35];intro J K hJ hK;clear f4 f5 f6 f7 f33 f34 f35;rw [HnL.out]at hi;have k2:=qcB (hx.heapS HK2.out) (i:=0) (u:=N ra rn rc) rfl;have k3:=qcB (hx.heapS HK3.out) (i:=0) (u:=H false) rfl;have k3f:=qfB (hx.heapS HK3.out);have zs:=hx.size;have y0:s+1+1<wr.heap.size:=by omega
  have y1:s+1+1+1<wr.heap.size:=by omega
  have y2:s+1<wr.heap.size:=by omega
  have y3:s+1+1<wr.heap.size+1:=by omega
  have y4:s+1+1+1<wr.heap.size+1:=by omega
  have y5:s+1<wr.heap.size+1:=by omega
  have HX:=hd9 hx;have Hmk:=hd9 hmk;have HDs:=hd9 hDs;have Hall:=hd9 hall;clear hx hmk hDs hall
  by_cases hlt:i<qn
  ·obtain⟨⟨ja,jb,jl,jr,jf,jt⟩,hqJ⟩:∃q,L[i]?=O q:=⟨L[i]'(by rw [HnL.out];omega),by simp [HnL.out,hlt]⟩
   obtain⟨q,hq⟩:∃q,ro[i]?=O q:=⟨ro[i]'(by rw [Hrl.out,HnL.out];omega),gE _⟩;have hjb:=HLb.out _ (lM hqJ);obtain⟨_,_,_,_,_,hjb5⟩:=hjb;dsimp only at hjb5;obtain⟨bk,o,e0,hb,hc⟩:=(HjL.out.ext' HX.out).at' hqJ;subst e0;unfold jta at hc;dsimp only at hc;have cc0:=hc 0 (Z X ja) rfl;have cc1:=hc 1 (Z X jb) rfl;have cc2:=hc 2 (Z X jl) rfl;have cc3:=hc 3 (Z X jr) rfl;have cc4:=hc 4 (Z X jf) rfl;have cc5:=hc 5 (Z X jt) rfl;simp only [Nat.add_zero]at cc0;obtain⟨br,or,e1,hbr,hcr⟩:=(Hro.out.ext' HX.out).at' hq;subst e1;have hK1:=HX.out.heapS HK1.out;obtain⟨sk,pin,wide,lap,step,run,level⟩:=r;dsimp only at hrun;have k15:=qcB hK1 (i:=5) (u:=Z X run) rfl;have hqd:ro.getD i 0=q:=by rw [gD,hq];rfl
   have hnr:=Hnr.out;have hrn:rn=qn:=by rw [hnr,Hrl.out,HnL.out]
   have p1:(0:Int)≤(i:Int):=by omega
   have p2:(i:Int)<(rn:Int):=by omega
   have p3:(i:Int)<(qn:Int):=by omega
   have p4:i<rn:=by omega
   have HqJ:=hd9 hqJ;have Hqd:=hd9 hqd;have w1':IntKind.i64.wrap (jt-run)=jt-run:=iW _ (by unfold Bd at hjb5;exact⟨by omega,by omega⟩);have w2':wrap64 (jt-run)=jt-run:=IntWalk.wrap64_in _ (by unfold Bd at hjb5;exact⟨by omega,by omega⟩);clear hc hqJ hqd hnr hrn hK1 hq hjb5
   gi_wp2
   obtain⟨W7,hW7⟩:=gX ((wr.alloc (C #[Z X i] 3)).alloc (C #[Z X ja,Z X jb,Z X jl,Z X jr,Z X jf,Z X jt] 75));have hx7:Ext wr W7:=by rw [←hW7];exact((eR wr).alloc _).alloc _
   have hs7:W7.heap.size=wr.heap.size+1+1:=by rw [←hW7];simp
   have hk9:W7.heap[wr.heap.size]?=O (C #[Z X i] 3 (0,0)):=by rw [←hW7];exact zfv wr _ _
   have hj10:W7.heap[wr.heap.size+1]?=O (C #[Z X ja,Z X jb,Z X jl,Z X jr,Z X jf,Z X jt] 75 (0,0)):=by rw [←hW7];exact zbT wr _ _
   rw [hW7];have m2:=hx7.cellS k2;have m15:=hx7.cellS k15;have mr:=hx7.cellS hcr;have m3f:=qfB (hx7.heapS (HX.out.heapS HK3.out));have m9:=qcB hk9 (i:=0) (u:=Z X i) rfl;have m104:=qcB hj10 (i:=4) (u:=Z X jf) rfl;have m105:=qcB hj10 (i:=5) (u:=Z X jt) rfl;have m3:=hx7.cellS k3;have HX7:=hd9 hx7;have Hk9:=hd9 hk9;clear hW7 hx7 hk9 hj10 k2 k15 hcr k3 k3f cc0 cc1 cc2 cc3 cc4 cc5
   have HW:=hd9 (show ∀(W:V),Ext W7 W→¬PrvP ⟨sk,pin,wide,lap,step,run,level⟩ L ro→∀a:U,(a.tmps.size=73∧a.tmps.getD 6 undef=I (O ⟨s+1+1+1,0,Y⟩))→a.defers=marks Ds→Q .ret a (W.setCell ⟨s+1+1+1,0,Y⟩ (H false))from fun W hW hP a ha hd=>by
    have X9:Ext w1 W:=HX.out.trans (HX7.out.trans hW);have h9:=X9.heapS HK3.out;exact HQ2.out a _ Ds ha hd (zaK (zau (zbk w1 _) X9) 0 _) (zbh h9 0 _) ((Hmk.out.ext (HX7.out.trans hW)).set h9 _) HDs.out hP)
   by_cases hA:jf<q
   ·have hbad:¬PrvP ⟨sk,pin,wide,lap,step,run,level⟩ L ro:=fun hp=>by
     have:=(hp i _ HqJ.out).1;rw [Hqd.out]at this;dsimp only at this;omega
    refine ziL (S:=CellL [(⟨s+1+1,0,Y⟩,N (O ⟨br,or,Y⟩) rn rc),(⟨wr.heap.size,0,Y⟩,Z X i),(⟨br,or+i,Y⟩,Z X q),(⟨wr.heap.size+1,4,Y⟩,Z X jf)]) (by kernel_rfl) (by kernel_rfl) ?_ (fun h9H=>?_)
    ·exact cA
    refine tk1 (i:=0) ?_;refine tk1 (i:=1) ?_;refine tk1 (i:=2) ?_;refine tk1 (i:=3) ?_;refine tk1 (i:=4) ?_;refine tk1 (i:=5) ?_;refine tk1 (i:=6) ?_;refine tk1 (i:=7) ?_;refine tkg1 (i:=8) ?_;refine tkg1 (i:=9) ?_;refine tkg1 (i:=10) ?_;refine tkg1 (i:=11) ?_;refine tkg1 (i:=12) ?_;refine tkg1 (i:=13) ?_;refine tkg1 (i:=14) ?_;refine tkg1 (i:=15) ?_;refine tkg1 (i:=16) ?_;refine tkg1 (i:=17) ?_;refine tk1 (i:=18) ?_;refine wpAnyH_done (by kernel_rfl) ?_ _;unfold NQ
    gi_wp2
    exact HW.out _ (eR _).drew hbad _ ⟨rfl,rfl⟩ rfl
   ·have hA':q≤jf:=Int.not_lt.1 hA
    obtain⟨d,hd⟩:=gX (decide (q<jt-run));have hdA:decide (jf<q)=false:=decide_eq_false hA;have Hd:=hd9 hd;refine ziL (S:=CellL [(⟨s+1+1,0,Y⟩,N (O ⟨br,or,Y⟩) rn rc),(⟨wr.heap.size,0,Y⟩,Z X i),(⟨br,or+i,Y⟩,Z X q),(⟨wr.heap.size+1,4,Y⟩,Z X jf),(⟨wr.heap.size+1,5,Y⟩,Z X jt),(⟨s+1,5,Y⟩,Z X run)]) (by kernel_rfl) (by kernel_rfl) ?_ (fun h9H=>?_)
    ·exact cA
    refine tk1 (i:=0) ?_;refine tk1 (i:=1) ?_;refine tk1 (i:=2) ?_;refine tk1 (i:=3) ?_;refine tk1 (i:=4) ?_;refine tk1 (i:=5) ?_;refine tk1 (i:=6) ?_;refine tk1 (i:=7) ?_;refine tk1 (i:=8) ?_;refine tk1 (i:=9) ?_;refine tk1 (i:=10) ?_;refine tk1 (i:=11) ?_;refine tk1 (i:=12) ?_;refine tk1 (i:=13) ?_;refine tk1 (i:=14) ?_;refine tk1 (i:=15) ?_;refine tk1 (i:=16) ?_;refine tk1 (i:=17) ?_;refine tk1 (i:=18) ?_;refine wpAnyH_done (by kernel_rfl) ?_ _;unfold NQ
    cases d with
    | true =>
     have hbad:¬PrvP ⟨sk,pin,wide,lap,step,run,level⟩ L ro:=fun hp=>by
      have:=(hp i _ HqJ.out).2.1;rw [Hqd.out]at this;dsimp only at this;have:=of_decide_eq_true Hd.out;omega
     gi_wp2
     exact HW.out _ (eR _).drew hbad _ ⟨rfl,rfl⟩ rfl
    | false =>
     have m15':=Hd.out;obtain⟨W8,hW8⟩:=gX W7.drew;have hx8:Ext wr W8:=by rw [←hW8];exact HX7.out.drew
     have m9:W8.cell? ⟨wr.heap.size,0,Y⟩=O (Z X i):=by rw [←hW8];exact m9
     have hi8:W8.heap[wr.heap.size]?=O (C #[Z X i] 3 (0,0)):=by rw [←hW8];exact Hk9.out
     have hs8:W8.heap.size=wr.heap.size+1+1:=by rw [←hW8];exact hs7
     rw [hW8];clear h9H hW8 m2 m3 m104 m105 m15 m15' m3f mr hdA
     gi_wp2_with(refine⟨trivial,?_⟩;gi_at_call 37;refine(callsIn_wide.2 (zhE _ sb i)).mono ?_;rintro e w' ⟨rfl,rfl⟩)
     obtain⟨W9,hW9⟩:=gX (((W8.alloc (C #[I (O ⟨sb,0,Y⟩)] 95)).alloc (C #[Z X i] 3)));have hx9:Ext wr W9:=by rw [←hW9];exact(hx8.alloc _).alloc _
     have hs9:W9.heap.size=wr.heap.size+1+1+1+1:=by rw [←hW9];simp [hs8]
     have hb9:W9.heap[wr.heap.size+1+1]?=O (C #[I (O ⟨sb,0,Y⟩)] 95 (0,0)):=by rw [←hW9,←hs8];exact zfv W8 _ _
     have hk9:W9.heap[wr.heap.size+1+1+1]?=O (C #[Z X i] 3 (0,0)):=by rw [←hW9,←hs8];exact zbT W8 _ _
     rw [hW9];have hi9:W9.heap[wr.heap.size]?=O (C #[Z X i] 3 (0,0)):=by rw [←hW9];exact(((eR W8).alloc _).alloc _).heapS hi8
     clear hW9 hs8 hx8;have hjw:=HjL.out.ext' HX.out;have hrw:=Hro.out.ext' HX.out
     refine wpIn_rangeFunc_ownH rfl (by decide) (gf:=75) (lb:=#[I (O ⟨wr.heap.size+1+1+1,0,Y⟩),I (O ⟨wr.heap.size+1+1,0,Y⟩)]) rfl trivial (enters_of Tryz.func75 (by kernel_rfl) rfl)
      (ziZ _ (by decide) (wr.heap.size+1+1) wr W9 sb ⟨sk,pin,wide,lap,step,run,level⟩ vg vp vs (N (O ⟨bk,o,Y⟩) qn qc) vr L i (by rw [HnL.out];exact hlt) HLb.out (HX.out.heapS HS.out) hjw hb9 hk9 hx9) KpQ.trans (KpQ.put (by omega) (by omega)) (Below.refl _ _) (fun _=>rfl)
      (PrvJ wr ro i) (PrvX wr (s+1+1+1) ro i) (zag (fun s W h=>by have:=h.2.1;omega) (fun s W W' h k=>⟨k.ext h.1 (by omega),nT h.2.1 k.size,k.heap h.2.2.1,h.2.2.2⟩)) (fun c=>zag (fun s W h=>by have:=h.2.2.1;omega) (fun s W W' h k=>⟨h.1,zau h.2.1 (Below.mono k.1 (by omega)),nT h.2.2.1 k.size,k.heap h.2.2.2.1,h.2.2.2.2⟩)) ⟨hx9,by omega,hi9,fun x hx=>by cases hx⟩
      (fun x a' _=>PrvA s wr.heap.size x.1 a') (fun x a'=>ownFrom_pure _ (fun _=>PrvA s wr.heap.size x.1 a')) ?assign ?body ?done ?stop
     case assign =>
      rintro l pre x W K hI hK
      gi_wp2
      refine hK _ _ (KeepsFrom.refl _ _) (KpQ.refl _ _ _) hI ⟨rfl,rfl,rfl,rfl,rfl,rfl⟩
     case body =>
      rintro l pre x a' W hl ⟨rr,hr⟩ hI hA hlt;obtain⟨tt,dd⟩:=a';obtain⟨g1,g2,g3,g4,g5,g6⟩:=hA;dsimp only at g1 g2 g3 g4 g5 g6;subst g6;obtain⟨v,hu,ht⟩:=arrU tt 73 g1;simp only [hu]at g2 g3 g4 g5;clear hu;subst ht;simp only [List.range,List.range.loop,List.map_cons,List.map_nil,g2,g3,g4,g5];clear g1 g2 g3 g4 g5;obtain⟨x,hxi⟩:=x;obtain⟨h1,h2,h4,h3⟩:=hI;obtain⟨z,hz⟩:∃z,ro[x]?=O z:=⟨ro[x]'(by rw [Hrl.out,HnL.out];omega),gE _⟩;have hzd:ro.getD x 0=z:=by rw [gD,hz];rfl
      have hq:ro[i]?=O q:=by
       have h9:=Hqd.out;rw [gD]at h9;obtain⟨y,hy⟩:∃y,ro[i]?=O y:=⟨ro[i]'(by rw [Hrl.out,HnL.out];omega),gE _⟩;rw [hy]at h9 ⊢;exact congrArg O h9
      obtain⟨b2,o2,e2,_,d2⟩:=(hrw.ext' h1).at' hz;obtain⟨b3,o3,e3,_,d3⟩:=(hrw.ext' h1).at' hq
      cases e2
      cases e3
      have n5:=qcB (h1.heapS (HX.out.heapS HK2.out)) (i:=0) (u:=N (O ⟨br,or,Y⟩) rn rc) rfl;have h6:=h1.heapS (HX.out.heapS HK3.out);have n6:=qcB h6 (i:=0) (u:=H false) rfl;have n6f:=qfB h6;have n9:=qcB h4 (i:=0) (u:=Z X i) rfl;have zw:=h1.size;have p5:(0:Int)≤(x:Int):=by omega
      have p6:(x:Int)<(rn:Int):=by omega
      have p7:x<rn:=by omega
      have H1:=hd9 h1;have H3:=hd9 h3;have H4:=hd9 h4;have H6:=hd9 h6;have Hzd:=hd9 hzd;have Hqd9:=hd9 Hqd.out;obtain⟨d,hd⟩:=gX (decide (z<q));have Hd9:=hd9 hd;clear hz hq hzd h1 h3 h4 h6
      gi_wp2
      refine zai (S:=CellL [(⟨s+1+1,0,Y⟩,N (O ⟨br,or,Y⟩) rn rc),(⟨wr.heap.size,0,Y⟩,Z X i),(⟨br,or+i,Y⟩,Z X q),(⟨br,or+x,Y⟩,Z X z)]) (by kernel_rfl) (by kernel_rfl) ?_ (fun h9H=>?_)
      ·exact cA
      refine tk1 (i:=0) ?_;refine tk1 (i:=1) ?_;refine tk1 (i:=2) ?_;refine tk1 (i:=3) ?_;refine tk1 (i:=4) ?_;refine tk1 (i:=5) ?_;refine tk1 (i:=6) ?_;refine tk1 (i:=7) ?_;refine tk1 (i:=8) ?_;refine wpAnyH_done (by kernel_rfl) ?_ _;unfold NQ
      cases d with
      | true =>
       have hz9:=of_decide_eq_true Hd9.out
       gi_wp2
       have h9:W.drew.heap[s+1+1+1]?=O (C #[H false] 4 (0,0)):=H6.out;refine⟨(zak ((eR W).drew)).trans ((KeepsOthers.setCell _ _ _).from _),rfl,zaK (zau (zbk wr _) H1.out.drew) 0 _,by rw [qdZ,qcZ];exact h2,zbh h9 0 _,⟨x,hxi⟩,by simp,?_⟩;rw [Hzd.out,Hqd9.out];omega
      | false =>
       have hz9:=of_decide_eq_false Hd9.out
       gi_wp2
       refine⟨zak ((eR W).drew),(KpQ.refl wr (wr.heap.size+1+1) W).ext ((eR W).drew) H1.out.size (by omega),H1.out.drew,h2,H4.out,fun y hy=>?_⟩
       rcases List.mem_append.1 hy with hy|hy
       ·exact H3.out y hy
       ·rw [List.mem_singleton.1 hy,Hzd.out,Hqd9.out]
        omega
     case done =>
      rintro D ys W hD hys ⟨h1,h2,h4,h3⟩ hKD;have zw:=h1.size;have HH:=hd9 h3;have Hys:=hd9 hys;clear h3 hys h4
      gi_wp2
      refine Handed.intro (qn-(i+1)) (by have:=HnL.out;omega) (hJ _ _ _ ⟨⟨i+1,D::Ds,by have:=HnL.out;omega,?_,by rw [HnL.out],HX.out.trans h1,rfl,(Hmk.out.ext h1).cons hKD (fun hin=>by have:=zab (Hmk.out.2 D hin);omega),?_,?_⟩,rfl,rfl,rfl,rfl,rfl,rfl,rfl⟩)
      ·show (_:G)=_
       go_num
      ·intro E hE
       rcases List.mem_cons.1 hE with rfl|hE
       ·omega
       ·exact HDs.out E hE
      ·intro k j hk hj
       by_cases hki:k<i
       ·exact Hall.out k j hki hj
       ·obtain rfl:k=i:=by omega
        rw [HqJ.out]at hj
        cases hj
        have h9:=Hd.out;refine⟨by rw [Hqd.out];exact hA',by rw [Hqd.out];have:=of_decide_eq_false h9;dsimp only;omega,fun y hy=>?_⟩;rw [←Hys.out]at hy;obtain⟨x,hx,rfl⟩:=List.mem_map.1 hy;exact HH.out x hx
     case stop =>
      rintro D c pre W hD hpre ⟨rfl,hgb,hsz,hb6,x,hx,hbad⟩ hK;have zw:=hgb.size
      gi_wp2
      refine HQ2.out _ _ (D::Ds) ⟨rfl,rfl⟩ rfl (zpS HX.out hgb) hb6 ((Hmk.out.grown hgb (fun r hr=>by cases hr;exact⟨_,_,_,HX.out.heapS HK3.out⟩)).cons hK (fun hin=>by have:=zab (Hmk.out.2 D hin);omega)) (fun E hE=>?_) (fun hp=>Int.not_le.2 hbad ?_)
      ·rcases List.mem_cons.1 hE with rfl|hE
       ·omega
       ·exact HDs.out E hE
      ·exact(hp i _ HqJ.out).2.2 x.1 (hpre.subset (List.mem_map_of_mem hx))
  ·obtain rfl:qn=i:=by omega
   gi_wp2
   exact HQ1.out _ _ Ds ⟨rfl,rfl,rfl,rfl,rfl,rfl,rfl⟩ rfl HX.out Hmk.out HDs.out (fun k j hj=>Hall.out k j (by have:=(lS.1 hj).1;rw [HnL.out]at this;exact this) hj)
def RetPv (w:V) (g:List (Int×Int)) (ps:List Pl) (r:Ru) (ro:List Int) (e:Ending) (w':V):Prop:=
 Ext w w'∧((byE g ps r≠0∧e = .returned (H false))∨(byE g ps r=0∧∃ks L rs b,SvP r ps ks L rs∧e = .returned (H b)∧(b=true ↔ ro.length=L.length∧PrvP r L ro)))
theorem zi1 {g:List (Int×Int)} {ps:List Pl} {r:Ru} (h:byE g ps r=0):laidP g ps=0∧0≤r.run∧r.run≤10000:=by
 unfold byE at h
 by_cases h0:laidP g ps=0
 ·rw [if_pos h0]at h
  unfold rulesE at h
  repeat(first|(split at h;(focus(cases h;done))))
  simp [oddR]at *;omega
 ·rw [if_neg h0]at h
  exact absurd h h0
theorem zpU (w:V) (vg vp vro:G) (g:List (Int×Int)) (ps:List Pl) (r:Ru) (ro:List Int) (hg:IsPts w vg g) (hp:IsPls w vp ps) (hgw:Gw w) (hro:IsIs w vro ro) :
  Calls Tryz.prog 18 #[.agg #[vg,vp],.agg (ruc r),vro] w (RetPv w g ps r ro):=by
 have HB:=hd9 (fun W (hW:Ext w W)=>zeq W vg vp g ps r (hg.ext' hW) (hp.ext' hW) (hgw.ext hW));obtain⟨ga,gn,gc,rfl⟩:=form3 hg;obtain⟨pa,pn,pc1,rfl⟩:=form3 hp;obtain⟨ra,rn,rc,rfl⟩:=form3 hro;obtain⟨R,hR⟩:=gX (RetPv w g ps r ro);rw [hR];have HR:=hd9 hR;obtain⟨k,hk⟩:=gX (byE g ps r);have HE:=hd9 hk;have Hro:=hd9 hro;have Hro9:=hd9 hro.len;obtain⟨sk,pin,wide,lap,step,run,level⟩:=r;unfold ruc at HB ⊢;dsimp only at HB;clear hg hp hgw hR hro;refine(callsIn_wide (n:=5)).1 ?_;refine callsIn_of_wp_marks Tryz.func18 rfl trivial ?_ rfl;simp only [Tryz.ntmps18,List.size_toArray,List.length_cons,List.length_nil,Nat.reduceAdd,Nat.reduceSub,Array.replicate_succ,Array.replicate_zero,List.push_toArray,List.append_toArray,List.nil_append,List.cons_append];have HF:=hd9 (show ∀(W:V),Ext w W→W.heap[w.heap.size+1+1+1]?=O (C #[H false] 4 (0,0))→Ext w (W.setCell ⟨w.heap.size+1+1+1,0,Y⟩ (H false))∧(W.setCell ⟨w.heap.size+1+1+1,0,Y⟩ (H false)).heap[w.heap.size+1+1+1]?=O (C #[H false] 4 (0,0))from fun W hW h=>⟨hW.set (by dsimp only;omega) _,zbh h 0 _⟩)
 by_cases h0:k=0
 ·subst h0
  clear hk;obtain⟨hl0,hrun⟩:=zi1 HE.out;dsimp only at hrun
  gi_wp2_with(refine⟨trivial,?_⟩;gi_at_call 28;(with_reducible refine(callsIn_wide.2 (HB.out _ ?_)).mono ?_);exact eA;rintro e w3 (⟨hne,_⟩|⟨_,sb,vs,vj,vr,ks,L,rs,rfl,sv,svp,hx3⟩);(focus(exact absurd HE.out hne)))
  have K1:w3.heap[w.heap.size+1]?=O (C #[Z .u8 sk,Z X pin,Z X wide,Z X lap,Z X step,Z X run,Z X level] 35 (0,0)):=hx3.heapS (((((eR _).alloc _).alloc _)).heapS (zbT w _ _));have K2:w3.heap[w.heap.size+1+1]?=O (C #[N ra rn rc] 36 (0,0)):=hx3.heapS (((eR ((w.alloc _).alloc _ |>.alloc _)).alloc _).heapS (qhA _ _ _ (by rw [wZ,wZ])));have K3:w3.heap[w.heap.size+1+1+1]?=O (C #[H false] 4 (0,0)):=hx3.heapS (qhA _ _ _ (by simp));have X3:Ext w w3:=eA;have hL3:=znM (zal hl0).1 (zal hl0).2.1 svp;obtain⟨ja,jn,jc9,rfl⟩:=form3 sv.joints;have n2:=qcB K2 (i:=0) (u:=N ra rn rc) rfl;have n3:=qcB K3 (i:=0) (u:=H false) rfl;have n3f:=qfB K3;have n10:=qcB sv.blk (i:=10) (u:=N ja jn jc9) rfl;have hjn:=sv.joints.len;have Hsv:=hd9 sv;have Hsvp:=hd9 svp;have HL3:=hd9 hL3;have Hjn:=hd9 hjn;have HK1:=hd9 K1;have HK2:=hd9 K2;have HK3:=hd9 K3;have HX3:=hd9 X3;clear sv svp hL3 hjn hx3 K1 K2 K3 X3;obtain⟨d,hd⟩:=gX (((rn:Int) != (jn:Int)));have Hd:=hd9 hd;refine ziL (S:=CellL [(⟨w.heap.size+1+1,0,Y⟩,N ra rn rc),(⟨sb,10,Y⟩,N ja jn jc9)]) (by kernel_rfl) (by kernel_rfl) ?_ (fun h9H=>?_)
  ·exact cA
  refine tk1 (i:=0) ?_;refine tk1 (i:=1) ?_;refine tk1 (i:=2) ?_;refine tk1 (i:=3) ?_;refine tk1 (i:=4) ?_;refine tk1 (i:=5) ?_;refine tk1 (i:=6) ?_;refine tk1 (i:=7) ?_;refine tk1 (i:=8) ?_;refine tk1 (i:=9) ?_;refine tk1 (i:=10) ?_;refine tk1 (i:=11) ?_;refine wpAnyH_done (by kernel_rfl) ?_ _;unfold NQ
  cases d with
  | true =>
   gi_wp2
   obtain⟨q1,q2⟩:=HF.out w3 HX3.out HK3.out;refine zbp [] _ (Marked.nil _) (fun W' hW'=>?_);have hS:=hW' w.heap.size (fun D hD=>by cases hD);have c9:=qcB (hS.heap q2) (i:=0) (u:=H false) rfl;refine⟨H false,by simp [results,Tryz.results18,go_sem,c9],?_⟩;rw [←HR.out];exact⟨hS.ext q1.drew (nE _),.inr ⟨HE.out,ks,L,rs,false,Hsvp.out,rfl,by simp,fun h=>by have:=Hd.out;rw [Hro9.out,h.1,←Hjn.out]at this;simp at this⟩⟩
  | false =>
   have hrj:rn=jn:=by have:=Hd.out;simp at this;omega
   gi_wp2
   refine zpM _ w3.drew w.heap.size sb _ _ _ _ ⟨sk,pin,wide,lap,step,run,level⟩ hrun ja jn jc9 L ra rn rc ro (Hsv.out.joints.ext' (eR w3).drew) (by rw [Hjn.out];exact HL3.out.len) HL3.out.jts (Hro.out.ext' HX3.out.drew) (by rw [←Hro9.out,←Hjn.out];exact hrj) Hsv.out.blk HK1.out HK2.out HK3.out _ ⟨rfl,rfl,rfl,rfl,rfl,rfl,rfl⟩ rfl rfl (fun a W Ds hfr hdd hx hmk hDs hP=>?_) (fun a W Ds hfr hdd hgb hb6 hmk hDs hP=>?_)
   ·obtain⟨tt,dd⟩:=a
    obtain⟨f1,f4,f5,f6,f7,f33,f34⟩:=hfr;dsimp only at f1 f4 f5 f6 f7 f33 f34 hdd;subst hdd;obtain⟨u,hu,ht⟩:=arrU tt 73 f1;simp only [hu]at f4 f5 f6 f7 f33 f34;clear hu;subst ht;simp only [List.range,List.range.loop,List.map_cons,List.map_nil,f6];have h3:=hx.heapS (show w3.drew.heap[w.heap.size+1+1+1]?=_ from HK3.out);have n3:=qcB h3 (i:=0) (u:=H false) rfl;have n3f:=qfB h3;have HDs:=hd9 hDs;have Hmk:=hd9 hmk;clear f1 f4 f5 f6 f7 f33 f34 hDs hmk
    gi_wp2
    refine zbp Ds _ (Hmk.out.set h3 _) (fun W' hW'=>?_);have hS:=hW' w.heap.size (fun D hD=>nT HX3.out.size (HDs.out D hD));have c9:=qcB (hS.heap (zbh h3 0 (H true))) (i:=0) (u:=H true) rfl;refine⟨H true,by simp [results,Tryz.results18,go_sem,c9],?_⟩;rw [←HR.out];exact⟨hS.ext ((HX3.out.drew.trans hx).set (by dsimp only;omega) _) (nE _),.inr ⟨HE.out,ks,L,rs,true,Hsvp.out,rfl,fun _=>⟨by rw [←Hro9.out,←Hjn.out];exact hrj,hP⟩,fun _=>rfl⟩⟩
   ·obtain⟨tt,dd⟩:=a
    obtain⟨f1,f6⟩:=hfr;dsimp only at f1 f6 hdd;subst hdd;refine zbp Ds _ hmk (fun W' hW'=>?_);have hS:=hW' w.heap.size (fun D hD=>nT HX3.out.size (hDs D hD));have c9:=qcB (hS.heap hb6) (i:=0) (u:=H false) rfl;have f6':tt[6]?.getD undef=I (O ⟨w.heap.size+1+1+1,0,Y⟩):=by simpa using f6
    refine⟨H false,by simp [results,Tryz.results18,go_sem,f6,f6',c9],?_⟩;rw [←HR.out];exact⟨hS.ext (zdh HX3.out.drew hgb (by omega)) (nE _),.inr ⟨HE.out,ks,L,rs,false,Hsvp.out,rfl,by simp,fun h=>absurd h.2 hP⟩⟩
 ·have u0:(k != 0)=true:=by simpa using h0
  have Hne:=hd9 h0;clear h0 hk
  gi_wp2_with(refine⟨trivial,?_⟩;gi_at_call 28;(with_reducible refine(callsIn_wide.2 (HB.out _ ?_)).mono ?_);exact eA;rintro e w3 (⟨hne,rfl,hx3⟩|⟨h0,_⟩);rotate_left 1;(focus(exact absurd (HE.out.symm.trans h0) Hne.out));rw [HE.out])
  have K3:w3.heap[w.heap.size+1+1+1]?=O (C #[H false] 4 (0,0)):=hx3.heapS (qhA _ _ _ (by simp));have X3:Ext w w3:=eA;have n3:=qcB K3 (i:=0) (u:=H false) rfl;have n3f:=qfB K3;refine ziL (S:=CellL []) (by kernel_rfl) (by kernel_rfl) trivial (fun h9H=>?_);refine tk1 (i:=0) ?_;refine tk1 (i:=1) ?_;refine tk1 (i:=2) ?_;refine tkg1 (i:=3) ?_;refine tkg1 (i:=4) ?_;refine tkg1 (i:=5) ?_;refine tkg1 (i:=6) ?_;refine tkg1 (i:=7) ?_;refine tkg1 (i:=8) ?_;refine tkg1 (i:=9) ?_;refine tkg1 (i:=10) ?_;refine tk1 (i:=11) ?_;refine wpAnyH_done (by kernel_rfl) ?_ _;unfold NQ
  gi_wp2
  obtain⟨q1,q2⟩:=HF.out w3 X3 K3;refine zbp [] _ (Marked.nil _) (fun W' hW'=>?_);have hS:=hW' w.heap.size (fun D hD=>by cases hD);have c9:=qcB (hS.heap q2) (i:=0) (u:=H false) rfl;refine⟨H false,by simp [results,Tryz.results18,go_sem,c9],?_⟩;rw [←HR.out];exact⟨hS.ext q1.drew (nE _),.inl ⟨by rw [HE.out];exact Hne.out,rfl⟩⟩
end
section
open Go.RowKit Go.Shelf Go.Sort Go.Lib
attribute [local go_sem] Oper.semAt_some
theorem zpI (w:V) (base g n c:Nat) (zs:List Int) (h:OwnC 3 1 w base (N (O ⟨g,0,Y⟩) n c) (zs.map ic)) (hs:zs.length≤1000000000) :
  Calls Tryz.prog 39 #[N (O ⟨g,0,Y⟩) n c] w fun e w'=>e = .returned (A #[])∧OwnC 3 1 w' base (N (O ⟨g,0,Y⟩) n c) (zs.reverse.map ic)∧w.grownBy w' (O g):=by
 obtain⟨h1,h2,rfl,h3,h4,h5,cur,h6,h7,h8⟩:=h.ints;refine(Tryz.slices_Reverse_int g 0 c zs w h5 (by omega)).mono ?_;rintro e w' ⟨rfl,q,rfl⟩
 have hg:∀d,w.grownBy (putRow (Value.int X) (Sort.ahead w q) g 0 d) (O g):=fun d=>by
  have:=grownBy_sortedI (w:=w) (g:=g) (n:=q) (os:=#[]) d
  rwa [grow_empty]at this
 refine⟨rfl,⟨zg7,?_⟩,hg _⟩;have:=ownsRow_sortedI (base:=base) (n:=q) (os:=#[]) (ss:=zs) (ts:=zs.reverse) (List.length_reverse ..) h1 h6 h3 h4 h7;rw [grow_empty]at this;rw [ze0,lL,List.length_reverse];exact this
theorem zpO {F:Fence} {nF:Nat} {P:Program} {T t:TypeId} {k bytes:Nat} {z:G} {w:V} {base:Nat} {v:G} {cs:List (List G)} {ops:Array Oper} {rest:List Oper} {o:Oper} {a:U} {Q:Exit→U→V→Prop}
  (hinfo:(P.info? T).map (fun i=>(i.zero,i.size,i.bytes))=O (O z,k,bytes)) (hzs:z.cells.size=k) (hk:0<k) (hby:bytes≤1000) (ht:P.underlying t=O (.slice T)) (hgd:o.guard=Y) (s x:Operand)
  (ho:o.op = .call { callee:=.builtin .append,args:=#[s,x],argTypes:=#[t,t] }) (hs:a.eval s=v) (hown:OwnC T k w base v cs) {ad:Addr} {m c:Nat} (hx:a.eval x=N (O ad) m c)
  (ds:List (List G)) (hm:ds.length=m) (hd:∀c∈ds,c.length=k) (hnews:∀(j:Nat) u,ds.flatten[j]?=O u→w.cell? (ad.add j)=O u) (h1:∀u∈ds.flatten,u.oneCell'=true) (hlen:cs.length+m≤100000000000) (hbase:base≤w.heap.size)
  (h:∀v' w',OwnC T k w' base v' (cs++ds)→w.grownBy w' v.ownBlock→(v'.ownBlock=v.ownBlock∨v'.ownBlock=O w.heap.size)→wpListIn F nF P ops Q rest (a.put o.dst v') w'):wpListIn F nF P ops Q (o::rest) a w:=by
 obtain⟨v',w',hrun,h2,h3,h4⟩:=zfc (P:=P) o.type hinfo hzs hk hby ht hown hm hd hnews h1 hlen hbase (c:=c);refine wpListIn_plain hgd fun K hK=>?_
 unfold Oper.wpIn;refine⟨?_,?_⟩
 ·simp [Oper.about,ho,resolve,Target.leads,Sem.run_pure]
 ·rw [Oper.semAt_plain F _ _ (by rw [ho];intro c hc';cases hc')]
  simp [execOp,ho,resolve,invoke,builtin,hs,hx,hrun,Result.andThen];exact hK _ _ (h v' w' h2 h3 h4)
theorem zpT {w:V} {base:Nat} (z:Int) (hb:base≤w.heap.size):OwnC 3 1 (w.alloc (C #[Z X z] 3)) base (N (O ⟨w.heap.size,0,Y⟩) 1 1) [ic z]:=
 ⟨fun c hc=>by rw [List.mem_singleton.1 hc];rfl,⟨by simp [ic],.inr ⟨w.heap.size,1,#[Z X z],rfl,hb,aN w _,by simp,by simp [maxLen],by simp,by simp [ic]⟩⟩⟩
structure ChP (r:Ru) (L:List Jt) (rs:List Int) (last:Nat) (cn:List Nat) (k:Nat):Prop where
 top:cn.head?=O last
 low:cn.getLast?=O k
 fol:∀i a b,cn[i]?=O a→cn[i+1]?=O b→folB r L a b=true
 all:∀x∈cn,x<L.length∧rs.getD x 0=rs.getD last 0
theorem ChP.one {r:Ru} {L:List Jt} {rs:List Int} {last:Nat} (h:last<L.length):ChP r L rs last [last] last:=
 ⟨rfl,rfl,fun i a b _ hb=>by simp at hb,fun x hx=>by rw [List.mem_singleton.1 hx];exact⟨h,rfl⟩⟩
theorem ChP.snoc {r:Ru} {L:List Jt} {rs:List Int} {last:Nat} {cn:List Nat} {k i:Nat} (h:ChP r L rs last cn k) (hf:folB r L k i=true) (hi:i<L.length) (hr:rs.getD i 0=rs.getD k 0):ChP r L rs last (cn++[i]) i:=by
 have hk:=h.all k (List.mem_of_getLast? h.low);refine⟨by rw [List.head?_append,h.top];rfl,by simp,fun j a b ha hb=>?_,fun x hx=>?_⟩
 ·have hj:=(lS.1 hb).1
  rw [lA,List.length_singleton]at hj
  by_cases hjl:j+1<cn.length
  ·rw [List.getElem?_append_left hjl]at hb
   rw [List.getElem?_append_left (by omega)]at ha;exact h.fol j a b ha hb
  ·have e:cn.length=j+1:=by omega
   rw [List.getElem?_append_right (by omega),e,Nat.sub_self]at hb;rw [List.getElem?_append_left (by omega)]at ha;have hl:=h.low;rw [List.getLast?_eq_getElem?,e,Nat.add_sub_cancel,ha]at hl
   cases hl
   cases hb
   exact hf
 ·rcases List.mem_append.1 hx with hx|hx
  ·exact h.all x hx
  ·rw [List.mem_singleton.1 hx]
   exact⟨hi,hr.trans hk.2⟩
theorem zpn (f:Nat→Int):∀(l:List Nat) (a:Int),l.foldl (fun o i=>min o (f i)) a=a∨∃i∈l,l.foldl (fun o i=>min o (f i)) a=f i
 | [],a=>.inl rfl
 | x::l,a=>by
  rw [List.foldl_cons]
  rcases zpn f l (min a (f x))with h|⟨i,hi,h⟩
  ·rw [h]
   by_cases q:a≤f x
   ·exact .inl (by omega)
   ·exact .inr ⟨x,by simp,by omega⟩
  ·exact .inr ⟨i,mC _ hi,h⟩
theorem zpz {r:Ru} {L:List Jt} {k:Nat} {j:Jt} (hj:L[k]?=O j) (hne:j.fr≠(rootsP r L L.length).getD k 0):∃i∈befL r L k,(rootsP r L L.length).getD i 0=(rootsP r L L.length).getD k 0:=by
 have hk:=(lS.1 hj).1
 have e:(rootsP r L L.length).getD k 0=rootP r L (rootsP r L k) k j.fr:=by
  rw [zpo r L L.length (k+1) k (by omega) (by omega)]
  show (rootsP r L k++_).getD k 0=_
  rw [gD,List.getElem?_append_right (by rw [zaT];omega),zaT,Nat.sub_self,hj];rfl
 rw [e]at hne ⊢;unfold rootP at hne ⊢
 rcases zpn (fun i=>(rootsP r L k).getD i 0) (befL r L k) j.fr with h|⟨i,hi,h⟩
 ·exact absurd h.symm hne
 ·have hik:i<k:=by unfold befL at hi;exact List.mem_range.1 (List.mem_filter.1 hi).1
  exact⟨i,hi,by rw [zpo r L L.length k i hik (by omega)];exact h.symm⟩
def LgA (w3:V) (b7:Nat) (L:List Jt) (rs:List Int) (gk:Nat) (a:U) (W:V):Prop:=
 (∃(i last:Nat),i≤L.length∧a.tmps.getD 8 undef=Z X (last:Nat)∧a.tmps.getD 32 undef=Z X (i:Nat)∧gk=L.length-i∧last<L.length∧(∀j,j<i→hgt L rs j≤hgt L rs last)∧Ext w3 W) ∧
 a.tmps.size=95∧a.tmps.getD 7 undef=I (O ⟨b7,0,Y⟩)∧a.tmps.getD 31 undef=Z X L.length∧a.defers=[]
theorem zpJ (Q:Exit→U→V→Prop) (w3:V) (b7 sb:Nat) (r:Ru) (vg vp vs vj vr:G) (ks:List (JS×G)) (L:List Jt) (rs:List Int) (hsv:Sv w3 sb r vg vp vs vj vr ks L rs) (hB:SvB ks L rs) (hne:0<L.length)
  (hK7:w3.heap[b7]?=O (C #[I (O ⟨sb,0,Y⟩)] 95 (0,0)))
  (a0:U) (ha0:a0.tmps.size=95∧a0.tmps.getD 7 undef=I (O ⟨b7,0,Y⟩)∧a0.tmps.getD 31 undef=Z X L.length∧a0.defers=[]) (h8:a0.tmps.getD 8 undef=Z X (0:Nat)) (h32:a0.tmps.getD 32 undef=Z X (0:Nat))
  (hQ:∀a W last,(a.tmps.size=95∧a.tmps.getD 7 undef=I (O ⟨b7,0,Y⟩)∧a.defers=[])→a.tmps.getD 8 undef=Z X (last:Nat)→last<L.length→(∀j,j<L.length→hgt L rs j≤hgt L rs last)→Ext w3 W→Q (.exit 0) a W) :
  (Code.loop (loopAt Tryz.f19 0)).wpIn Fence.wide 5 Tryz.prog Q a0 w3:=by
 have HH:=hd9 (fun(W:V) (hW:Ext w3 W) (k:Nat) (hk:k<L.length)=>zhW W sb k r vg vp vs vj vr ks L rs (hsv.ext hW) hk hB.rlen hB.jts hB.rbd);obtain⟨n,hn⟩:=gX L.length;have Hn:=hd9 hn;have HK7:=hd9 hK7;have HQ:=hd9 hQ;have hl9:=hB.len;clear hsv hB hK7 hQ;unfold loopAt;simp only [Tryz.f19,loopsOf,List.cons_append,List.nil_append,List.append_nil,List.getD_cons_succ,List.getD_cons_zero];refine wpIn_loop_ghost_k (LgA w3 b7 L rs) n ?h0 ?round
 case h0=>exact⟨⟨0,0,by omega,h8,h32,by rw [hn];rfl,hne,fun j hj=>by omega,eR _⟩,ha0⟩
 case round =>
  intro gk aa wr hinv;obtain⟨tt,dd⟩:=aa;obtain⟨⟨i,last,hi,f8,f32,rfl,hl,hall,hx⟩,f1,f7,f31,hdd⟩:=hinv;dsimp only at f1 f7 f8 f31 f32 hdd;subst hdd;obtain⟨u,hu,ht⟩:=arrU tt 95 f1;simp only [hu]at f7 f8 f31 f32;clear hu f1;subst ht;rw [hn]at f31;simp only [List.range,List.range.loop,List.map_cons,List.map_nil,f7,f8,f31,f32];clear f7 f8 f31 f32;intro J K hJ hK;have k7:=qcB (hx.heapS HK7.out) (i:=0) (u:=I (O ⟨sb,0,Y⟩)) rfl;rw [hn]at hi hl hl9;have HX:=hd9 hx;have Hall:=hd9 hall;have Hl:=hd9 hl;clear hx hall hn hne
  by_cases hlt:i<n
  ·have p1:(i:Int)<(n:Int):=by omega
   obtain⟨d,hd⟩:=gX (decide (hgt L rs last<hgt L rs i));obtain⟨hi9,hhi⟩:=gX (hgt L rs i);obtain⟨hl8,hhl⟩:=gX (hgt L rs last);have H1:=HH.out;have HA:=hd9 (fun W hW=>HH.out W hW i (by rw [Hn.out];exact hlt));have HB:=hd9 (fun W hW=>HH.out W hW last (by rw [Hn.out];exact hl));rw [hhi]at HA;rw [hhl]at HB;rw [hhi,hhl]at hd;have Hd:=hd9 hd;have Hhi:=hd9 hhi;have Hhl:=hd9 hhl;clear H1 hhi hhl
   gi_wp2
   refine ziL (S:=CellL [(⟨b7,0,Y⟩,I (O ⟨sb,0,Y⟩))]) (by kernel_rfl) (by kernel_rfl) ?_ (fun h9H=>?_)
   ·exact cA
   refine tk1 (i:=0) ?_;refine tk1 (i:=1) ?_;refine tk1 (i:=3) ?_;refine tk1 (i:=4) ?_;refine cl1 (i:=2) fun K hK=>?_
   go_simp
   (with_reducible refine cM (HA.out _ HX.out.drew) ?_)
   rintro e w1 ⟨rfl,hx1⟩
   skip
   go_wp2_with fail
   refine kO hK (cE h9H hx1) (fun h9H=>?_);clear hK K;refine cl1 (i:=5) fun K hK=>?_
   go_simp
   (with_reducible refine cM (HB.out _ (HX.out.drew.trans hx1)) ?_)
   rintro e w2 ⟨rfl,hx2⟩
   skip
   go_wp2_with fail
   refine kO hK (cE h9H hx2) (fun h9H=>?_);clear hK K;refine tk1 (i:=6) ?_;refine wpAnyH_done (by kernel_rfl) ?_ _;unfold NQ;have X9:=HX.out.drew.trans (hx1.trans hx2);have HX9:=hd9 X9;clear X9 hx1 hx2
   cases d with
   | true =>
    have hdd9:=of_decide_eq_true Hd.out
    gi_wp2
    refine Handed.intro (n-(i+1)) (by have:=Hn.out;omega) (hJ _ _ _ ⟨⟨i+1,i,by have:=Hn.out;omega,rfl,?_,by rw [Hn.out],by rw [Hn.out];exact hlt,fun j hj=>?_,HX9.out⟩,rfl,rfl,by rw [Hn.out];rfl,rfl⟩)
    ·show (_:G)=_
     go_num
    ·rw [Hhi.out]
     by_cases q:j=i
     ·rw [q,Hhi.out];exact Int.le_refl _
     ·have:=Hall.out j (by omega)
      rw [Hhl.out]at this;omega
   | false =>
    have hdd9:=of_decide_eq_false Hd.out
    gi_wp2
    refine Handed.intro (n-(i+1)) (by have:=Hn.out;omega) (hJ _ _ _ ⟨⟨i+1,last,by have:=Hn.out;omega,rfl,?_,by rw [Hn.out],by rw [Hn.out];exact Hl.out,fun j hj=>?_,HX9.out⟩,rfl,rfl,by rw [Hn.out];rfl,rfl⟩)
    ·show (_:G)=_
     go_num
    ·rw [Hhl.out]
     by_cases q:j=i
     ·rw [q,Hhi.out];exact hdd9
     ·have:=Hall.out j (by omega)
      rw [Hhl.out]at this;omega
  ·obtain rfl:n=i:=by omega
   gi_wp2
   exact HQ.out _ _ last ⟨rfl,rfl,rfl⟩ rfl (by rw [Hn.out];exact Hl.out) (by rw [Hn.out];exact Hall.out) HX.out
def iN (cn:List Nat):List Int:=cn.map fun x:Nat=>(x:Int)
def LgF (b7:Nat) (h:Int) (a:U):Prop:=a.tmps.size=95∧a.tmps.getD 5 undef=Z X h∧a.tmps.getD 7 undef=I (O ⟨b7,0,Y⟩)
def LgB (w5:V) (b7:Nat) (h:Int) (r:Ru) (L:List Jt) (rs:List Int) (last:Nat) (gk:Nat) (a:U) (W:V):Prop:=
 (∃(k:Nat) (cn:List Nat) (v:G) (b:Nat) (Ds:List Nat),k=gk∧a.tmps.getD 4 undef=v∧a.tmps.getD 10 undef=I (O ⟨b,0,Y⟩)∧W.heap[b]?=O (C #[Z X k] 3 (0,0))∧w5.heap.size≤b∧OwnC 3 1 W w5.heap.size v ((iN cn).map ic)∧v.ownBlock≠O b ∧
  Ext w5 W∧a.defers=marks Ds∧Marked W Ds∧(∀D∈Ds,w5.heap.size≤D)∧ChP r L rs last cn k∧cn.length+k≤last+1)∧LgF b7 h a
def LgJ (wr:V) (rs:List Int) (k:Nat) (pre:List {x:Nat // x<k}) (W:V):Prop:=
 Ext wr W∧wr.heap.size+1+1≤W.heap.size∧∀x∈pre,rs.getD x.1 0≠rs.getD k 0
def LgX (wr:V) (b:Nat) (rs:List Int) (k:Nat) (c:Code) (pre:List {x:Nat // x<k}) (W:V):Prop:=
 c = .exit 4∧wr.grownBy W (O b)∧wr.heap.size+1+1≤W.heap.size∧∃x∈pre,W.heap[b]?=O (C #[Z X x.1] 3 (0,0))∧rs.getD x.1 0=rs.getD k 0
def LgC (b7 b:Nat) (x:Nat) (a:U):Prop:=
 a.tmps.size=95∧a.tmps.getD 7 undef=I (O ⟨b7,0,Y⟩)∧a.tmps.getD 10 undef=I (O ⟨b,0,Y⟩)∧a.tmps.getD 11 undef=Z X (x:Nat)∧a.defers=[]
theorem zpL (W:V) (z:Int) (T:TypeId):∀(j:Nat) u,[ic z].flatten[j]?=O u→(W.alloc (C #[Z X z] T)).cell? ((⟨W.heap.size,0,Y⟩:Addr).add j)=O u:=by
 intro j u hj
 match j,hj with
 | 0,hj=>simp [ic]at hj;subst hj;simp [Addr.add]
 | j+1,hj=>simp [ic]at hj
theorem zpK (Q:Exit→U→V→Prop) (w5:V) (b7 sb:Nat) (h:Int) (r:Ru) (vg vp vs vj vr:G) (ks:List (JS×G)) (L:List Jt) (rs:List Int) (hsv:Sv w5 sb r vg vp vs vj vr ks L rs) (hB:SvB ks L rs) (hrs:rs=rootsP r L L.length) (last:Nat) (hl:last<L.length)
  (hK7:w5.heap[b7]?=O (C #[I (O ⟨sb,0,Y⟩)] 95 (0,0)))
  (a0:U) (W0:V) (hi0:∃gk,gk≤L.length∧LgB w5 b7 h r L rs last gk a0 W0)
  (hQ:∀a W Ds cn k v,LgF b7 h a→a.tmps.getD 4 undef=v→a.defers=marks Ds→Ext w5 W→Marked W Ds→(∀D∈Ds,w5.heap.size≤D)→OwnC 3 1 W w5.heap.size v ((iN cn).map ic)→ChP r L rs last cn k→cn.length≤last+1→(∃j,L[k]?=O j∧j.fr=rs.getD k 0)→Q (.exit 2) a W) :
  (Code.loop (loopAt Tryz.f19 1)).wpIn Fence.wide 5 Tryz.prog Q a0 W0:=by
 obtain⟨gk0,hg0,hI0⟩:=hi0;obtain⟨qa,qn,qc,rfl⟩:=form3 hsv.joints;obtain⟨ra,rn,rc,rfl⟩:=form3 hsv.roots;have HnL:=hd9 hsv.joints.len.symm;have Hnr:=hd9 hsv.roots.len;have HjL:=hd9 hsv.joints;have HrL:=hd9 hsv.roots;have HS:=hd9 hsv.blk;have HB:=hd9 hB;have Hrs:=hd9 hrs;have HK7:=hd9 hK7;have HQ:=hd9 hQ;have HI0:=hd9 hI0;clear hsv hB hK7 hQ hI0 hrs;unfold loopAt;simp only [Tryz.f19,loopsOf,List.cons_append,List.nil_append,List.append_nil,List.getD_cons_succ,List.getD_cons_zero];refine wpIn_loop_ghost_k (LgB w5 b7 h r L rs last) gk0 HI0.out ?round;intro gk aa wr hinv;obtain⟨tt,dd⟩:=aa;obtain⟨⟨k,cn,v,b,Ds,rfl,f4,f10,hb,hb5,hown,hvb,hx,hdd,hmk,hDs,hch,hcl⟩,f1,f5,f7⟩:=hinv;dsimp only at f1 f4 f5 f7 f10 hdd;subst hdd;obtain⟨u,hu,ht⟩:=arrU tt 95 f1;simp only [hu]at f4 f5 f7 f10;clear hu f1;subst ht;simp only [List.range,List.range.loop,List.map_cons,List.map_nil,f4,f5,f7,f10];clear f4 f5 f7 f10;intro J K hJ hK;have hkL:=hch.all k (List.mem_of_getLast? hch.low);obtain⟨j,hj⟩:∃j,L[k]?=O j:=⟨L[k]'hkL.1,gE _⟩;obtain⟨rk,hrk⟩:∃z,rs[k]?=O z:=⟨rs[k]'(by rw [HB.out.rlen];exact hkL.1),gE _⟩;have hrd:rs.getD k 0=rk:=by rw [gD,hrk];rfl
 obtain⟨bk,o,e0,hbk,hc⟩:=(HjL.out.ext' hx).at' hj;obtain⟨br,or,e1,hbr,hcr⟩:=(HrL.out.ext' hx).at' hrk;subst e0;subst e1;have Hj:=hd9 hj;obtain⟨ja,jb,jl,jr,jf,jt⟩:=j;unfold jta at hc;dsimp only at hc;have cc4:=hc 4 (Z X jf) rfl;have hsv5:=hx.heapS HS.out;have k7:=qcB (hx.heapS HK7.out) (i:=0) (u:=I (O ⟨sb,0,Y⟩)) rfl;have s10:=qcB hsv5 (i:=10) (u:=N (O ⟨bk,o,Y⟩) qn qc) rfl;have s11:=qcB hsv5 (i:=11) (u:=N (O ⟨br,or,Y⟩) rn rc) rfl;have kb:=qcB hb (i:=0) (u:=Z X k) rfl;have hkq:k<qn:=by rw [←HnL.out];exact hkL.1
 have hkr:k<rn:=by rw [Hnr.out,HB.out.rlen];exact hkL.1
 have p1:(0:Int)≤(k:Int):=by omega
 have p2:(k:Int)<(qn:Int):=by omega
 have p3:(k:Int)<(rn:Int):=by omega
 have zb:=zab hb;have HX:=hd9 hx;have Hown:=hd9 hown;have Hvb:=hd9 hvb;have Hmk:=hd9 hmk;have HDs:=hd9 hDs;have Hch:=hd9 hch;have Hcl:=hd9 hcl;have Hrd:=hd9 hrd;have Hb:=hd9 hb;obtain⟨d,hd⟩:=gX ((jf != rk));have Hd:=hd9 hd;clear hx hown hvb hmk hDs hch hcl hrd hb hc hj hsv5 hrk
 gi_wp2
 refine ziL (S:=CellL [(⟨b7,0,Y⟩,I (O ⟨sb,0,Y⟩)),(⟨sb,10,Y⟩,N (O ⟨bk,o,Y⟩) qn qc),(⟨b,0,Y⟩,Z X k),(⟨bk,o+k*6+4,Y⟩,Z X jf),(⟨sb,11,Y⟩,N (O ⟨br,or,Y⟩) rn rc),(⟨br,or+k,Y⟩,Z X rk)]) (by kernel_rfl) (by kernel_rfl) ?_ (fun h9H=>?_)
 ·exact cA
 refine tk1 (i:=0) ?_;refine tk1 (i:=1) ?_;refine tk1 (i:=2) ?_;refine tk1 (i:=3) ?_;refine tk1 (i:=4) ?_;refine tk1 (i:=5) ?_;refine tk1 (i:=6) ?_;refine tk1 (i:=7) ?_;refine tk1 (i:=8) ?_;refine tk1 (i:=9) ?_;refine tk1 (i:=10) ?_;refine tk1 (i:=11) ?_;refine tk1 (i:=12) ?_;refine tk1 (i:=13) ?_;refine tk1 (i:=14) ?_;refine tk1 (i:=15) ?_;refine wpAnyH_done (by kernel_rfl) ?_ _;unfold NQ
 cases d with
 | false =>
  have hdd9:jf=rk:=by have:=Hd.out;simpa using this
  gi_wp2
  exact HQ.out _ _ Ds cn k v ⟨rfl,rfl,rfl⟩ rfl rfl HX.out.drew (Hmk.out.ext (eR wr).drew) HDs.out (Hown.out.ext (eR wr).drew) Hch.out (by have:=Hcl.out;omega) ⟨_,Hj.out,by rw [Hrd.out];exact hdd9⟩
 | true =>
  have hdd9:jf≠rk:=by have:=Hd.out;simpa using this
  clear h9H s10 cc4 hcr;obtain⟨W8,hW8⟩:=gX wr.drew;have hx8:Ext wr W8:=by rw [←hW8];exact(eR wr).drew
  have hs8:W8.heap.size=wr.heap.size:=by rw [←hW8];rfl
  have m7:=hx8.cellS k7;have mb:=hx8.cellS kb;rw [hW8];clear hW8
  gi_wp2_with(refine⟨trivial,?_⟩;gi_at_call 37;refine(callsIn_wide.2 (zhE _ sb k)).mono ?_;rintro e w' ⟨rfl,rfl⟩)
  obtain⟨W9,hW9⟩:=gX (((W8.alloc (C #[I (O ⟨sb,0,Y⟩)] 95)).alloc (C #[Z X k] 3)));have hx9:Ext wr W9:=by rw [←hW9];exact(hx8.alloc _).alloc _
  have hs9:W9.heap.size=wr.heap.size+1+1:=by rw [←hW9];simp [hs8]
  have hb9:W9.heap[wr.heap.size]?=O (C #[I (O ⟨sb,0,Y⟩)] 95 (0,0)):=by rw [←hW9,←hs8];exact zfv W8 _ _
  have hk9:W9.heap[wr.heap.size+1]?=O (C #[Z X k] 3 (0,0)):=by rw [←hW9,←hs8];exact zbT W8 _ _
  rw [hW9];clear hW9 hx8 m7 mb;have hjw:=HjL.out.ext' HX.out;have hrw:=HrL.out.ext' HX.out;have hkn:k<L.length:=by rw [HnL.out];exact hkq
  refine wpIn_rangeFunc_ownH rfl (by decide) (gf:=75) (lb:=#[I (O ⟨wr.heap.size+1,0,Y⟩),I (O ⟨wr.heap.size,0,Y⟩)]) rfl trivial (enters_of Tryz.func75 (by kernel_rfl) rfl)
   (ziZ _ (by decide) wr.heap.size wr W9 sb r vg vp vs (N (O ⟨bk,o,Y⟩) qn qc) (N (O ⟨br,or,Y⟩) rn rc) L k hkn HB.out.jts (HX.out.heapS HS.out) hjw hb9 hk9 hx9) KpQ.trans (KpQ.put (by omega) (by omega)) (Below.refl _ _) (fun _=>rfl)
   (LgJ wr rs k) (LgX wr b rs k) (zag (fun s W h=>by have:=h.2.1;omega) (fun s W W' h k=>⟨k.ext h.1 (by omega),nT h.2.1 k.size,h.2.2⟩))
   (fun c=>zag (fun s W h=>by have:=h.2.2.1;omega) (fun s W W' h k=>⟨h.1,zau h.2.1 (Below.mono k.1 (by omega)),nT h.2.2.1 k.size,by obtain⟨x,h1,h2,h3⟩:=h.2.2.2;exact⟨x,h1,k.heap h2,h3⟩⟩)) ⟨hx9,by omega,fun x hx=>by cases hx⟩
   (fun x a' _=>LgC b7 b x.1 a') (fun x a'=>ownFrom_pure _ (fun _=>LgC b7 b x.1 a')) ?assign ?body ?done ?stop
  case assign =>
   rintro l pre x W K hI hK
   gi_wp2
   refine hK _ _ (KeepsFrom.refl _ _) (KpQ.refl _ _ _) hI ⟨rfl,rfl,rfl,rfl,rfl⟩
  case body =>
   rintro l pre x a' W hl ⟨rr,hr⟩ hI hA hlt;obtain⟨tt,dd⟩:=a';obtain⟨g1,g2,g3,g4,g5⟩:=hA;dsimp only at g1 g2 g3 g4 g5;subst g5;obtain⟨v',hu,ht⟩:=arrU tt 95 g1;simp only [hu]at g2 g3 g4;clear hu;subst ht;simp only [List.range,List.range.loop,List.map_cons,List.map_nil,g2,g3,g4];clear g1 g2 g3 g4;obtain⟨x,hxi⟩:=x;obtain⟨h1,h2,h3⟩:=hI;obtain⟨z,hz⟩:∃z,rs[x]?=O z:=⟨rs[x]'(by rw [HB.out.rlen];omega),gE _⟩;obtain⟨zk,hzk⟩:∃z,rs[k]?=O z:=⟨rs[k]'(by rw [HB.out.rlen];omega),gE _⟩;have hzd:rs.getD x 0=z:=by rw [gD,hz];rfl
   have hzkd:rs.getD k 0=zk:=by rw [gD,hzk];rfl
   obtain⟨b2,o2,e2,_,d2⟩:=(hrw.ext' h1).at' hz;obtain⟨b3,o3,e3,_,d3⟩:=(hrw.ext' h1).at' hzk
   cases e2
   cases e3
   have n7:=h1.cellS k7;have n11:=h1.cellS s11;have h6:=h1.heapS Hb.out;have n6:=qcB h6 (i:=0) (u:=Z X k) rfl;have n6f:=qfB h6;have p5:(0:Int)≤(x:Int):=by omega
   have p6:(x:Int)<(rn:Int):=by omega
   have p7:x<rn:=by omega
   have H1:=hd9 h1;have H3:=hd9 h3;have H6:=hd9 h6;have Hzd:=hd9 hzd;have Hzk:=hd9 hzkd;obtain⟨d,hd⟩:=gX ((z==zk));have Hd9:=hd9 hd;clear hz hzk hzd hzkd h1 h3 h6
   gi_wp2
   refine zai (S:=CellL [(⟨b7,0,Y⟩,I (O ⟨sb,0,Y⟩)),(⟨sb,11,Y⟩,N (O ⟨br,or,Y⟩) rn rc),(⟨b,0,Y⟩,Z X k),(⟨br,or+x,Y⟩,Z X z),(⟨br,or+k,Y⟩,Z X zk)]) (by kernel_rfl) (by kernel_rfl) ?_ (fun h9H=>?_)
   ·exact cA
   refine tk1 (i:=0) ?_;refine tk1 (i:=1) ?_;refine tk1 (i:=2) ?_;refine tk1 (i:=3) ?_;refine tk1 (i:=4) ?_;refine tk1 (i:=5) ?_;refine tk1 (i:=6) ?_;refine tk1 (i:=7) ?_;refine tk1 (i:=8) ?_;refine tk1 (i:=9) ?_;refine tk1 (i:=10) ?_;refine tk1 (i:=11) ?_;refine tk1 (i:=12) ?_;refine tk1 (i:=13) ?_;refine tk1 (i:=14) ?_;refine wpAnyH_done (by kernel_rfl) ?_ _;unfold NQ
   cases d with
   | true =>
    have hz9:z=zk:=by have:=Hd9.out;simpa using this
    gi_wp2
    have h9:W.drew.heap[b]?=O (C #[Z X k] 3 (0,0)):=H6.out;refine⟨(zak ((eR W).drew)).trans ((KeepsOthers.setCell _ _ _).from _),rfl,zaK (zau (zbk wr _) H1.out.drew) 0 _,by rw [qdZ,qcZ];exact h2,⟨x,hxi⟩,by simp,zbh h9 0 _,?_⟩;rw [Hzd.out,Hzk.out];exact hz9
   | false =>
    have hz9:z≠zk:=by have:=Hd9.out;simpa using this
    gi_wp2
    refine⟨zak ((eR W).drew),(KpQ.refl wr wr.heap.size W).ext ((eR W).drew) H1.out.size (by omega),H1.out.drew,h2,fun y hy=>?_⟩
    rcases List.mem_append.1 hy with hy|hy
    ·exact H3.out y hy
    ·rw [List.mem_singleton.1 hy,Hzd.out,Hzk.out]
     exact hz9
  case done =>
   rintro D ys W hD hys ⟨h1,h2,h3⟩ hKD
   exfalso
   obtain⟨i,hi,hr⟩:=zpz (r:=r) Hj.out (by rw [←Hrs.out,Hrd.out];exact hdd9);rw [←hys]at hi;obtain⟨x,hx,rfl⟩:=List.mem_map.1 hi;rw [←Hrs.out]at hr;exact h3 x hx hr
  case stop =>
   rintro D c pre W hD hpre ⟨rfl,hgb,hsz,x,hx,hbx,hbad⟩ hK;have zw:=hgb.size;have hxb:=hpre.subset (List.mem_map_of_mem (f:=fun y:{x:Nat // x<k}=>y.1) hx);obtain⟨x,hxk⟩:=x;have hf:folB r L k x=true:=by unfold befL at hxb;exact(List.mem_filter.1 hxb).2
   have hown:=Hown.out.grown hgb (.inr Hvb.out);have hch:=Hch.out.snoc hf (by omega) hbad;have hmk:=(Hmk.out.grown hgb (fun r hr=>by cases hr;exact⟨_,_,_,Hb.out⟩)).cons hK (fun hin=>by have:=zab (Hmk.out.2 D hin);omega);have nb:=qcB hbx (i:=0) (u:=Z X x) rfl;have hgw:Ext w5 W:=⟨hgb.os.trans HX.out.os,hgb.tape.trans HX.out.tape,hgb.output.trans HX.out.output,nT HX.out.size hgb.size,fun i hi=>(hgb.block i (Nat.lt_of_lt_of_le hi HX.out.size) (by simp;omega)).trans (HX.out.block hi)⟩;have Hown:=hd9 hown;have Hch:=hd9 hch;have Hmk:=hd9 hmk;have Hgw:=hd9 hgw;have Hbx:=hd9 hbx;clear hown hch hmk hgw hbx;have hlen9:((iN cn).map ic).length+1≤100000000000:=by have:=Hcl.out;have:=HB.out.len;simp only [iN,lL];omega
   have hbs9:w5.heap.size≤(W.alloc (C #[Z X x] 3)).heap.size:=by rw [wZ];have:=Hgw.out.size;omega
   gi_wp2_with(gi_at_builtin;go_loud (refine zpO (k:=1) (bytes:=8) (z:=Z X 0) znq rfl (by decide) (by decide) Tryz.underlying36 rfl _ _ rfl rfl (Hown.out.ext ((eR W).alloc _)) rfl [ic x] rfl (by simp [ic]) (zpL W x 3) (by simp [ic,Value.oneCell']) hlen9 hbs9 ?_);intro v' w1 hown1 hgb1 hv1;have hbx1:=zac hgb1 (((eR W).alloc _).heapS Hbx.out) (fun e=>Hvb.out e.symm);have nb1:=qcB hbx1 (i:=0) (u:=Z X x) rfl)
   have hA:Ext W (W.alloc (C #[Z X x] 3)):=(eR W).alloc _;have hX1:Ext w5 w1:=(Hgw.out.trans hA).thenB (zad (base:=w5.heap.size) hgb1 hbs9 (fun k hk=>(Hown.out.lt k hk).1)) (nE _);refine Handed.intro x hxk (hJ _ _ _ ⟨⟨x,cn++[x],v',w1.heap.size,D::Ds,rfl,rfl,rfl,aN _ _,hX1.size,?_,fun e=>by have:=(hown1.lt _ e).2;omega,hX1.alloc _,rfl,?_,?_,Hch.out,?_⟩,rfl,rfl,rfl⟩)
   ·rw [show (iN (cn++[x])).map ic=(iN cn).map ic++[ic x] by simp [iN]]
    exact hown1.ext ((eR w1).alloc _)
   ·exact((Hmk.out.ext hA).grown hgb1 (fun r hr=>by
     rcases(Hown.out.ext hA).2.2 with ⟨q1,_⟩|⟨g,cap,cur,hv,_,hh,_⟩
     ·rw [q1]at hr;cases hr
     ·rw [hv]at hr;cases hr;exact⟨_,_,_,hh⟩)).ext ((eR w1).alloc _)
   ·intro E hE
    rcases List.mem_cons.1 hE with rfl|hE
    ·have:=HX.out.size;omega
    ·exact HDs.out E hE
   ·have:=Hcl.out
    rw [lA,List.length_singleton];omega
def RetLg (w:V) (g:List (Int×Int)) (ps:List Pl) (r:Ru) (e:Ending) (w':V):Prop:=
 Ext w w'∧((byE g ps r≠0∧e = .returned (A #[N Y 0 0,Z X 0,Z X (byE g ps r)])) ∨
 (byE g ps r=0∧∃ks L rs,SvP r ps ks L rs∧((L.length=0∧e = .returned (A #[N Y 0 0,Z X 0,Z X 8])) ∨
  (∃v cn last k,e = .returned (A #[v,Z X (hgt L rs last),Z X 0])∧IsIs w' v (iN cn).reverse∧last<L.length∧(∀i,i<L.length→hgt L rs i≤hgt L rs last)∧ChP r L rs last cn k∧∃j,L[k]?=O j∧j.fr=rs.getD k 0))))
theorem zpq (w:V) (vg vp:G) (g:List (Int×Int)) (ps:List Pl) (r:Ru) (hg:IsPts w vg g) (hp:IsPls w vp ps) (hgw:Gw w) :
  Calls Tryz.prog 19 #[.agg #[vg,vp],.agg (ruc r)] w (RetLg w g ps r):=by
 have HB:=hd9 (fun W (hW:Ext w W)=>zeq W vg vp g ps r (hg.ext' hW) (hp.ext' hW) (hgw.ext hW));obtain⟨ga,gn,gc,rfl⟩:=form3 hg;obtain⟨pa,pn,pc1,rfl⟩:=form3 hp;obtain⟨R,hR⟩:=gX (RetLg w g ps r);rw [hR];have HR:=hd9 hR;obtain⟨k,hk⟩:=gX (byE g ps r);have HE:=hd9 hk;obtain⟨sk,pin,wide,lap,step,run,level⟩:=r;unfold ruc at HB ⊢;dsimp only at HB;clear hg hp hgw hR;refine(callsIn_wide (n:=5)).1 ?_;refine callsIn_of_wp_marks Tryz.func19 rfl trivial ?_ rfl;simp only [Tryz.ntmps19,List.size_toArray,List.length_cons,List.length_nil,Nat.reduceAdd,Nat.reduceSub,Array.replicate_succ,Array.replicate_zero,List.push_toArray,List.append_toArray,List.nil_append,List.cons_append]
 by_cases h0:k=0
 ·subst h0
  clear hk
  gi_wp2_with(refine⟨trivial,?_⟩;gi_at_call 28;(with_reducible refine(callsIn_wide.2 (HB.out _ ?_)).mono ?_);exact eA;rintro e w3 (⟨hne,_⟩|⟨_,sb,vs,vj,vr,ks,L,rs,rfl,sv,svp,hx3⟩);(focus(exact absurd HE.out hne));obtain⟨ja,jn,jc9,hvj⟩:=form3 sv.joints;subst hvj;have n10:=qcB sv.blk (i:=10) (u:=N ja jn jc9) rfl;have zb:=zab sv.blk;rcases Nat.eq_zero_or_pos jn with hj0|hj0;(have e0:((jn:Int)==0)=true:=by simp [hj0]);rotate_left 1;(have e0:((jn:Int)==0)=false:=by simp;omega))
  ·have hB:=znM (zal (zi1 HE.out).1).1 (zal (zi1 HE.out).1).2.1 svp
   obtain⟨W5,hW5⟩:=gX (w3.alloc (C #[I (O ⟨sb,0,Y⟩)] 95));have hx5:Ext w3 W5:=by rw [←hW5];exact(eR w3).alloc _
   have hK7:W5.heap[w3.heap.size]?=O (C #[I (O ⟨sb,0,Y⟩)] 95 (0,0)):=by rw [←hW5];exact aN w3 _
   rw [hW5];have X3:Ext w w3:=eA;have hjl:=sv.joints.len;have HX5:=hd9 (X3.trans hx5);have sv5:=sv.ext hx5;have HSV:=hd9 sv5;have HBd:=hd9 hB;have HK7:=hd9 hK7;have HSP:=hd9 svp;have Hjl:=hd9 hjl;clear hW5 hx5 hK7 X3 sv sv5 svp hx3 hjl hB;refine zpJ _ W5 w3.heap.size sb ⟨sk,pin,wide,lap,step,run,level⟩ _ _ vs _ vr ks L rs HSV.out HBd.out (by rw [←Hjl.out];exact hj0) HK7.out _ ⟨rfl,rfl,by rw [←Hjl.out];rfl,rfl⟩ rfl rfl (fun a W last hfr h8 hl hall hx=>?_);obtain⟨tt,dd⟩:=a;obtain⟨f1,f7,hdd⟩:=hfr;dsimp only at f1 f7 h8 hdd;subst hdd;obtain⟨u,hu,ht⟩:=arrU tt 95 f1;simp only [hu]at f7 h8;clear hu;subst ht;simp only [List.range,List.range.loop,List.map_cons,List.map_nil,f7,h8];clear f1 f7 h8;have HH:=hd9 (fun(W':V) (hW:Ext W W')=>zhW W' sb last _ _ _ _ _ _ ks L rs ((HSV.out.ext hx).ext hW) hl HBd.out.rlen HBd.out.jts HBd.out.rbd);obtain⟨h,hh⟩:=gX (hgt L rs last);rw [hh]at HH;have k7:=qcB (hx.heapS HK7.out) (i:=0) (u:=I (O ⟨sb,0,Y⟩)) rfl;have Hh:=hd9 hh;have Hall:=hd9 hall;have HX:=hd9 hx;have Hl:=hd9 hl;clear hh hall hx hl
   gi_wp2_with(refine⟨trivial,?_⟩;gi_at_call 38;(with_reducible refine(callsIn_wide.2 (HH.out _ ?_)).mono ?_);exact eA;rintro e w6 ⟨rfl,hx6⟩)
   have hzz:(Value.slice (O ⟨w6.heap.size,0,Y⟩) 1 1).ownBlock≠O (w6.heap.size+1):=fun e=>by simp [Value.ownBlock]at e
   refine zpK _ w6 w3.heap.size sb h ⟨sk,pin,wide,lap,step,run,level⟩ _ _ vs _ vr ks L rs (HSV.out.ext (HX.out.trans hx6)) HBd.out HSP.out.roots last Hl.out ((HX.out.trans hx6).heapS HK7.out) _ _
    ⟨last,Nat.le_of_lt Hl.out,⟨last,[last],_,w6.heap.size+1,[],rfl,rfl,rfl,zbT w6 _ _,by omega,(zpT (w:=w6) (last:Nat) (nE _)).ext ((eR _).alloc _),hzz,((eR w6).alloc _).alloc _,rfl,Marked.nil _,(fun D hD=>by cases hD),ChP.one Hl.out,by simp;omega⟩,rfl,rfl,rfl⟩ (fun a W2 Ds cn k v hfr h4 hdd hx2 hmk hDs hown hch hcl hj=>?_)
   obtain⟨tt,dd⟩:=a;obtain⟨f1,f5,f7⟩:=hfr;dsimp only at f1 f5 f7 h4 hdd;subst hdd;obtain⟨u2,hu,ht⟩:=arrU tt 95 f1;simp only [hu]at f5 f7 h4;clear hu;subst ht;simp only [List.range,List.range.loop,List.map_cons,List.map_nil,f5,f7,h4];clear f1 f5 f7 h4;have hne:cn≠[]:=fun e=>by have:=hch.top;rw [e]at this;cases this
   have hnl:(iN cn).length≤1000000000:=by
    have:=Hl.out;have:=HBd.out.len;rw [iN,lL];omega
   obtain⟨va,vn,vc,rfl⟩:=hown.form3;obtain⟨gv,rfl,hgv,_⟩:=hown.blk (by rw [lL,iN,lL];exact List.length_pos_iff.2 hne);have HRv:=hd9 (zpI W2 w6.heap.size gv vn vc (iN cn) hown hnl);have Hmk:=hd9 hmk;have HDs:=hd9 hDs;have Hch:=hd9 hch;have Hj:=hd9 hj;have HX2:=hd9 hx2;have Hown:=hd9 hown;clear hmk hDs hch hj hx2 hown
   gi_wp2_with(refine⟨trivial,?_⟩;gi_at_call 39;(with_reducible refine(callsIn_wide.2 HRv.out).mono ?_);rintro e w7 ⟨rfl,hown7,hgb7⟩)
   refine zbp Ds _ (Hmk.out.grown hgb7 (fun r hr=>by cases hr;obtain⟨cur,hc⟩:=Hown.out.frz;exact⟨_,_,_,hc⟩)) (fun W' hW'=>?_);have hX7:Ext w6 w7:=HX2.out.thenB (zad (base:=w6.heap.size) hgb7 HX2.out.size (fun k hk=>by cases hk;exact hgv)) (nE _);have hX6:Ext w w6:=HX5.out.trans (HX.out.trans hx6);have hS:=hW' w.heap.size (fun D hD=>nT hX6.size (HDs.out D hD));refine⟨A #[N (O ⟨gv,0,Y⟩) vn vc,Z X h,Z X 0],by simp [results,Tryz.results19,go_sem],?_⟩;rw [←HR.out];exact⟨hS.ext (hX6.trans hX7) (nE _),.inr ⟨HE.out,ks,L,rs,HSP.out,.inr ⟨_,cn,last,k,by rw [Hh.out],hown7.is.keep (hS.keep _),Hl.out,Hall.out,Hch.out,Hj.out⟩⟩⟩
  ·have X3:Ext w w3:=eA
   refine zbp [] _ (Marked.nil _) (fun W' hW'=>?_);have hS:=hW' w.heap.size (fun D hD=>by cases hD);refine⟨A #[N Y 0 0,Z X 0,Z X 8],by simp [results,Tryz.results19,go_sem],?_⟩;rw [←HR.out];exact⟨hS.ext (X3.alloc _) (nE _),.inr ⟨HE.out,ks,L,rs,svp,.inl ⟨by rw [←sv.joints.len];exact hj0,rfl⟩⟩⟩
 ·have u0:(k != 0)=true:=by simpa using h0
  have Hne:=hd9 h0;clear h0 hk
  gi_wp2_with(refine⟨trivial,?_⟩;gi_at_call 28;(with_reducible refine(callsIn_wide.2 (HB.out _ ?_)).mono ?_);exact eA;rintro e w3 (⟨hne,rfl,hx3⟩|⟨h0,_⟩);rotate_left 1;(focus(exact absurd (HE.out.symm.trans h0) Hne.out));rw [HE.out])
  refine zbp [] _ (Marked.nil _) (fun W' hW'=>?_);have hS:=hW' w.heap.size (fun D hD=>by cases hD);refine⟨A #[N Y 0 0,Z X 0,Z X k],by simp [results,Tryz.results19,go_sem],?_⟩;rw [←HR.out];exact⟨hS.ext eA (nE _),.inl ⟨by rw [HE.out];exact Hne.out,by rw [HE.out]⟩⟩
end
section
open Go.RowKit Go.Shelf Go.Sort Go.Lib
abbrev IsU8s (w:V) (v:G) (kd:List Int):Prop:=Sl 5 1 (fun _ c k=>c=[Z .u8 k]) w v kd
theorem IsU8s.ext' {w w':V} {v:G} {kd:List Int} (h:IsU8s w v kd) (k:Ext w w'):IsU8s w' v kd:=Sl.ext h (fun _ _ h=>h) k
def RetSu (w:V) (g:List (Int×Int)) (ps:List Pl) (r:Ru) (e:Ending) (w':V):Prop:=
 ∃v l,e = .returned (A #[v,Z X (byE g ps r)])∧IsFds w' v l∧l.length≤2000000∧(byE g ps r=0→FdsOf g ps r l)∧Ext w w'
theorem zni (w:V):IsFds w (N Y 0 0) []:=(OwnC.nil 73 4 w 0).fds
theorem zit (w:V) (vg vp:G) (g:List (Int×Int)) (ps:List Pl) (r:Ru) (hg:IsPts w vg g) (hp:IsPls w vp ps) (hgw:Gw w) :
  Calls Tryz.prog 13 #[.agg #[vg,vp],.agg (ruc r)] w (RetSu w g ps r):=by
 by_cases h0:byE g ps r=0
 ·refine(ziu w vg vp g ps r hg hp hgw h0).mono ?_
  rintro e w' ⟨v,ks,L,rs,o,rfl,sv,sb,co,hf,hx⟩;refine⟨v,_,by rw [h0],hf,?_,fun _=>⟨ks,L,rs,o,sv,co,rfl⟩,hx⟩;have h1:=zdu L rs r.run L.length;have h2:=nT (zfd r ks L L.length) (Nat.mul_le_mul sb.len sb.few);have h3:=zfh ks ks.length;have h4:=zfi o (levP o ks ks.length) r.level ks ks.length;have h5:=sb.len;have h6:=sb.few;simp only [lA];omega
 ·refine(zkQ w vg vp g ps r hg hp hgw h0).mono ?_
  rintro e w' ⟨rfl,hx⟩;exact⟨_,[],rfl,zni _,by simp,fun h=>absurd h h0,hx⟩
theorem ChP.up {r:Ru} {L:List Jt} {rs:List Int} {last:Nat} {cn:List Nat} {k:Nat} (h:ChP r L rs last cn k) :
  (iN cn).reverse.length=cn.length∧(iN cn).reverse[0]?=O (k:Int)∧(iN cn).reverse[cn.length-1]?=O (last:Int)∧0<cn.length:=by
 have hne:cn≠[]:=fun e=>by have:=h.top;rw [e]at this;cases this
 have hp:=List.length_pos_iff.2 hne;refine⟨by simp [iN],?_,?_,hp⟩
 ·rw [List.getElem?_reverse (by simpa [iN] using hp)]
  have:=h.low;rw [List.getLast?_eq_getElem?]at this;simp only [iN,lL,lP];rw [show cn.length-1-0=cn.length-1 by omega,this];rfl
 ·rw [List.getElem?_reverse (by simp only [iN,lL];omega)]
  have:=h.top;rw [List.head?_eq_getElem?]at this;simp only [iN,lL,lP];rw [show cn.length-1-(cn.length-1)=0 by omega,this];rfl
theorem ChP.at {r:Ru} {L:List Jt} {rs:List Int} {last:Nat} {cn:List Nat} {k:Nat} (h:ChP r L rs last cn k) {i:Nat} (hi:i<cn.length) :
  ∃x:Nat,(iN cn).reverse[i]?=O (x:Int)∧x<L.length∧(0<i→∃y:Nat,(iN cn).reverse[i-1]?=O (y:Int)∧y<L.length∧folB r L x y=true):=by
 have e:∀j,j<cn.length→(iN cn).reverse[j]?=(cn[cn.length-1-j]?).map fun x:Nat=>(x:Int):=fun j hj=>by
  rw [List.getElem?_reverse (by simpa [iN] using hj)];simp only [iN,lL,lP]
 obtain⟨x,hx⟩:∃x,cn[cn.length-1-i]?=O x:=⟨_,gE (by omega)⟩;refine⟨x,by rw [e i hi,hx];rfl,(h.all x (lM hx)).1,fun h0=>?_⟩;obtain⟨y,hy⟩:∃y,cn[cn.length-1-(i-1)]?=O y:=⟨_,gE (by omega)⟩;refine⟨y,by rw [e (i-1) (by omega),hy];rfl,(h.all y (lM hy)).1,h.fol (cn.length-1-i) x y hx (by rw [show cn.length-1-i+1=cn.length-1-(i-1) by omega];exact hy)⟩
end
section
open Go.RowKit Go.Shelf Go.Sort
def Clr (js:List JS) (u v:Int):Prop:=∀j∈js,j.x.2≤u∨v≤j.x.1
def IsBare (lo hi:Int) (js:List JS) (n:Int):Prop:=
 0≤n∧(∀u v,lo≤u→v≤hi→u≤v→Clr js u v→v-u≤n)∧(n=0∨∃u v,lo≤u∧v≤hi∧u≤v∧Clr js u v∧n=v-u)
theorem Clr.sub {js ks:List JS} {u v:Int} (h:Clr js u v) (hs:∀j∈ks,∃i∈js,i.x=j.x):Clr ks u v:=fun j hj=>by
 obtain⟨i,hi,e⟩:=hs j hj;rw [←e];exact h i hi
theorem IsBare.perm {lo hi n:Int} {js ks:List JS} (h:IsBare lo hi js n) (hp:js.Perm ks):IsBare lo hi ks n:=by
 have e:∀u v,Clr js u v ↔ Clr ks u v:=fun u v=>⟨fun h j hj=>h j (hp.mem_iff.2 hj),fun h j hj=>h j (hp.mem_iff.1 hj)⟩
 unfold IsBare at *;simp only [e]at h;exact h
theorem IsBare.le {lo hi n:Int} {js:List JS} (h:IsBare lo hi js n) (hl:lo≤hi):n≤hi-lo:=by
 rcases h.2.2 with h|⟨u,v,h1,h2,h3,_,h5⟩<;>omega
theorem IsBare.nil {lo hi n:Int} (h:IsBare lo hi [] n) (hl:lo≤hi):n=hi-lo:=by
 have h1:=h.le hl;have h2:=h.2.1 lo hi (Int.le_refl _) (Int.le_refl _) hl (fun j hj=>by cases hj);omega
theorem IsBare.two {lo mid hi n x y:Int} {js:List JS} (h:IsBare lo hi js n) (k:IsBare lo mid js x) (l:IsBare mid hi js y):n≤x+y:=by
 have hx:=k.1;have hy:=l.1
 rcases h.2.2 with e|⟨u,v,g1,g2,g3,g4,g5⟩
 ·omega
 ·by_cases a:v≤mid
  ·have:=k.2.1 u v g1 a g3 g4
   omega
  ·by_cases b:mid≤u
   ·have:=l.2.1 u v b g2 g3 g4
    omega
   ·have p:=k.2.1 u mid g1 (Int.le_refl _) (by omega) (fun j hj=>by have:=g4 j hj;omega)
    have q:=l.2.1 mid v (Int.le_refl _) g2 (by omega) (fun j hj=>by have:=g4 j hj;omega);omega
end
section
open Go.RowKit Go.Shelf Go.Sort Go.Lib
def thrP (p:Pl):Pl:={ p with skin:=3 }
theorem OwnPl.thr {w:V} {base g n c k:Nat} {ps:List Pl} {p:Pl} (h:OwnPl w base (N (O ⟨g,0,Y⟩) n c) ps) (hk:ps[k]?=O p) :
  OwnPl (w.setCell ⟨g,k*10+9,Y⟩ (Z .u8 3)) base (N (O ⟨g,0,Y⟩) n c) (ps.set k (thrP p)):=by
 obtain⟨cs,h1,h2,h3⟩:=h;have hkl:=(lS.1 hk).1;obtain⟨d,hd⟩:∃d,cs[k]?=O d:=⟨cs[k]'(by omega),by simp [h2,hkl]⟩
 have hK:KeepT 42 w (w.setCell ⟨g,k*10+9,Y⟩ (Z .u8 3)):=by
  rcases h1.2.2 with ⟨e,_⟩|⟨g',cap,cur,hv,_,hh,_⟩
  ·cases e
  ·cases hv;exact(KeepT.refl _ _).set hh (by decide) _
 refine⟨cs.set k (d.set 9 (Z .u8 3)),h1.stored hd (by omega) _,by simp [h2],fun i c' q hc hq=>?_⟩
 by_cases hik:i=k
 ·subst hik
  rw [List.getElem?_set_self (by omega)]at hc hq
  cases hc;cases hq
  obtain⟨v,rfl,hv,hs⟩:=h3 i d p hd hk;exact⟨v,rfl,hv.keep' hK,by show (0:Int)≤3;omega⟩
 ·rw [List.getElem?_set_ne (fun e=>hik e.symm)]at hc hq
  exact(h3 i c' q hc hq).keep hK
theorem OwnPl.keepPt {w:V} {base g n c i:Nat} {ps:List Pl} (h:OwnPl w base (N (O ⟨g,0,Y⟩) n c) ps) (u:G):KeepT 42 w (w.setCell ⟨g,i,Y⟩ u):=by
 obtain⟨cs,h1,h2,h3⟩:=h
 rcases h1.2.2 with ⟨e,_⟩|⟨g',cap,cur,hv,_,hh,_⟩
 ·cases e
 ·cases hv;exact(KeepT.refl _ _).set hh (by decide) _
theorem OwnPl.blk {w:V} {base n c:Nat} {a:Option Addr} {ps:List Pl} (h:OwnPl w base (N a n c) ps) (hn:0<ps.length):∃g,a=O ⟨g,0,Y⟩∧base≤g∧g<w.heap.size:=by
 obtain⟨cs,h1,h2,h3⟩:=h;exact h1.blk (by omega)
theorem OwnPl.len {w:V} {base n c:Nat} {a:Option Addr} {ps:List Pl} (h:OwnPl w base (N a n c) ps):n=ps.length:=by
 obtain⟨cs,h1,h2,h3⟩:=h;rw [←h2];exact h1.len
theorem OwnPl.frozen {w:V} {base g n c:Nat} {ps:List Pl} (h:OwnPl w base (N (O ⟨g,0,Y⟩) n c) ps) (i:Nat):w.frozen? ⟨g,i,Y⟩=false:=by
 obtain⟨cs,h1,h2,h3⟩:=h;exact h1.frozen i
theorem OwnPl.skin {w:V} {base g n c k:Nat} {ps:List Pl} {p:Pl} (h:OwnPl w base (N (O ⟨g,0,Y⟩) n c) ps) (hk:ps[k]?=O p):w.cell? ⟨g,k*10+9,Y⟩=O (Z .u8 p.skin):=by
 obtain⟨cs,h1,h2,h3⟩:=h;have hkl:=(lS.1 hk).1;obtain⟨d,hd⟩:∃d,cs[k]?=O d:=⟨cs[k]'(by omega),by simp [h2,hkl]⟩;obtain⟨v,rfl,hv,hs⟩:=h3 k d p hd hk;exact h1.cell hd rfl
theorem zps {r:Ru} {k:Nat} {j:Jt} {ks ks':List (JS×G)} (hk:ks'.map Prod.fst=ks.map Prod.fst):∀i,shRow r k j ks' i=shRow r k j ks i
 | 0=>rfl
 | i+1=>by
  have h4:=zpg hk i;unfold shRow;rw [zps hk i]
  cases q:ks'[i]? with
  | none =>
   rw [q]at h4
   cases q2:ks[i]? with
   | none=>rfl
   | some y=>rw [q2]at h4;cases h4
  | some x =>
   rw [q]at h4
   cases q2:ks[i]? with
   | none=>rw [q2]at h4;cases h4
   | some y =>
    rw [q2]at h4;have e:x.1=y.1:=by simpa using h4
    dsimp only;rw [e]
theorem zpu {r:Ru} {ks ks':List (JS×G)} {L:List Jt} (hk:ks'.map Prod.fst=ks.map Prod.fst):∀i,shP r ks' L i=shP r ks L i
 | 0=>rfl
 | i+1=>by
  have hl:ks'.length=ks.length:=by have:=congrArg List.length hk;simpa using this
  unfold shP;rw [zpu hk i,hl]
  cases L[i]? with
  | none=>rfl
  | some j=>dsimp only;rw [zps hk]
def exF:List Fd:=[⟨1,1,-1,160⟩,⟨2,0,2,0⟩,⟨2,0,3,0⟩,⟨3,-1,0,100⟩,⟨3,-1,1,100⟩,⟨3,-1,2,100⟩,⟨3,-1,3,100⟩,⟨3,-1,4,100⟩]
def exK:List (JS×G):=(skinP exR exP).map fun j=>(j,H false)
theorem zpX {l:List Fd} (h:FdsOf exG exP exR l):l=exF:=by
 obtain⟨ks,L,rs,o,sv,co,rfl⟩:=h;obtain⟨rfl,rfl⟩:=ex_L sv;have hk:ks.map Prod.fst=exK.map Prod.fst:=by rw [sv.skin];rfl
 have hn:=zoG sv.skin;rw [show exR.pin=0 from rfl,hn,show exP.length=5 from rfl]at co;obtain rfl:=ex_o sv.skin co;rw [hn,zmm hk,zj5 hk,zmp hk,zpu hk];rfl
theorem zp2 {x:Int} {ks:List (JS×G)} {L:List Jt} {rs:List Int} (h:SvP ⟨1,0,20,50,10,x,5⟩ exP ks L rs):L=[exJ1,exJ2]∧rs=[0,0]:=by
 have h2:SvP exR exP ks L (rootsP exR L L.length):=⟨h.skin,h.perm,h.ord,rfl⟩;obtain⟨e1,e2⟩:=ex_L h2;refine⟨e1,?_⟩;rw [h.roots,e1];rfl
theorem zpN (x a b:Int):PrvP ⟨1,0,20,50,10,x,5⟩ [exJ1,exJ2] [a,b] ↔ (a≤0∧80-x≤a)∧(b≤80∧160-x≤b∧b≤a):=by
 have b0:befL ⟨1,0,20,50,10,x,5⟩ [exJ1,exJ2] 0=[]:=rfl;have b1:befL ⟨1,0,20,50,10,x,5⟩ [exJ1,exJ2] 1=[0]:=rfl;unfold PrvP
 constructor
 ·intro h
  have h0:=h 0 exJ1 rfl;have h1:=h 1 exJ2 rfl;rw [b1]at h1;have h2:=h1.2.2 0 (by simp);simp [exJ1,exJ2]at h0 h1 h2;omega
 ·rintro ⟨⟨h1,h2⟩,h3,h4,h5⟩ k j hj
  match k,hj with
  | 0,hj =>
   cases hj
   rw [b0];exact⟨h1,h2,fun i hi=>by cases hi⟩
  | 1,hj =>
   cases hj
   rw [b1];refine⟨h3,h4,fun i hi=>?_⟩;rw [List.mem_singleton.1 hi];exact h5
  | k+2,hj=>cases hj
theorem zpF {x:Int} {w:V} {ro:List Int} {e:Ending} {w':V} (hb:byE exG exP ⟨1,0,20,50,10,x,5⟩=0) (h:RetPv w exG exP ⟨1,0,20,50,10,x,5⟩ ro e w'):Ext w w'∧∃b,e = .returned (H b)∧(b=true ↔ ro.length=2∧PrvP ⟨1,0,20,50,10,x,5⟩ [exJ1,exJ2] ro):=by
 obtain⟨hx,(⟨h0,_⟩|⟨_,ks,L,rs,b,sv,rfl,hi⟩)⟩:=h
 ·exact absurd hb h0
 ·obtain⟨rfl,rfl⟩:=zp2 sv
  exact⟨hx,b,rfl,hi⟩
theorem zpW:byE exG exP ⟨1,0,20,50,10,160,5⟩=0:=by
 unfold byE;rw [if_pos zng]
 decide
theorem zpC {last k:Nat} {cn:List Nat} (h:ChP exR [exJ1,exJ2] [0,0] last cn k) (hl:last<2) (hm:∀i,i<2→hgt [exJ1,exJ2] [0,0] i≤hgt [exJ1,exJ2] [0,0] last) (hk:∃j,[exJ1,exJ2][k]?=O j∧j.fr=[0,0].getD k (0:Int)):last=1∧cn=[1,0]:=by
 have e1:last=1:=by
  have h1:=hm 1 (by omega)
  match last,hl with
  | 0,_=>exact absurd h1 (by decide)
  | 1,_=>rfl
 subst e1
 have hf:∀a b,a<2→b<2→folB exR [exJ1,exJ2] a b=true→a=1∧b=0:=by
  intro a b ha hb hab
  match a,b,ha,hb with
  | 0,0,_,_=>exact absurd hab (by decide)
  | 0,1,_,_=>exact absurd hab (by decide)
  | 1,0,_,_=>exact⟨rfl,rfl⟩
  | 1,1,_,_=>exact absurd hab (by decide)
 refine⟨rfl,?_⟩;have ht:=h.top;have hw:=h.low
 match cn,h,ht,hw with
 | [a],h,ht,hw =>
  simp at ht hw;subst ht;subst hw;obtain⟨j,hj,he⟩:=hk
  cases hj
  exact absurd he (by decide)
 | [a,b],h,ht,hw =>
  simp at ht;subst ht;have:=hf 1 b (by omega) (h.all b (by simp)).1 (h.fol 0 1 b rfl rfl);rw [this.2]
 | a::b::c::t,h,ht,hw =>
  have h1:=hf b c (h.all b (by simp)).1 (h.all c (by simp)).1 (h.fol 1 b c rfl rfl);have h2:=hf a b (h.all a (by simp)).1 (h.all b (by simp)).1 (h.fol 0 a b rfl rfl);omega
theorem zpv {w:V} {e:Ending} {w':V} (h:RetLg w exG exP exR e w'):Ext w w'∧∃v,e = .returned (A #[v,Z X 160,Z X 0])∧IsIs w' v [0,1]:=by
 obtain⟨hx,(⟨h0,_⟩|⟨_,ks,L,rs,sv,h⟩)⟩:=h
 ·exact absurd zm9 h0
 ·obtain⟨rfl,rfl⟩:=ex_L sv
  rcases h with ⟨h0,_⟩|⟨v,cn,last,k,rfl,hv,hl,hm,hc,hk⟩
  ·cases h0
  ·obtain⟨rfl,rfl⟩:=zpC hc hl hm hk
   exact⟨hx,v,rfl,hv⟩
def exQ:List Pl:=exP.set 2 (thrP (brickP ⟨#[99]⟩ 0 80))
theorem zpV (p:Pl):lowP2 (thrP p)=lowP2 p:=rfl
theorem zp1 (p:Pl):upP2 (thrP p)=upP2 p:=rfl
theorem zpE:laidP exG exQ=0:=by
 unfold exQ exP laidP;simp only [List.set_cons_succ,List.set_cons_zero,laid1,laid2,addE,clearB,clashB,List.any_cons,List.any_nil,List.nil_append,List.cons_append,relP,freeB,leastR,stopsR,stopsZ,zdO,holdsB,zpV,zp1,zh2,zh3,zh4,zh5,zh6,up_0,up_1,up_2,up_3,up_4]
 decide +kernel
theorem zpP {w:V} {e:Ending} {w':V} (h:RetBa w 0 160 0 400 exG exP e w'):e = .returned (A #[Z X 400,Z X 0])∧Ext w w':=by
 have h0:bareE 0 160 0 400 exG exP=0:=by
  unfold bareE;rw [if_pos zng]
  decide
 rcases h with ⟨h1,_⟩|⟨_,js,hp,_,rfl,hx⟩
 ·exact absurd h0 h1
 ·rw [show bareJ 0 160 exP=[] by rfl]at hp
  rw [hp.eq_nil];exact⟨rfl,hx⟩
theorem zpB {w:V} {e:Ending} {w':V} (h:RetBa w 0 160 0 400 exG exQ e w'):e = .returned (A #[Z X 200,Z X 0])∧Ext w w':=by
 have h0:bareE 0 160 0 400 exG exQ=0:=by
  unfold bareE;rw [if_pos zpE]
  decide
 rcases h with ⟨h1,_⟩|⟨_,js,hp,_,rfl,hx⟩
 ·exact absurd h0 h1
 ·rw [show bareJ 0 160 exQ=[jsOf 2 (thrP (brickP ⟨#[99]⟩ 0 80))] by rfl]at hp
  rw [hp.eq_singleton];exact⟨rfl,hx⟩
def thinS:List (Int×Int):=[(0,0),(5,0),(5,40),(0,40)]
def thinP:Pl:=⟨⟨#[116]⟩,thinS,100,2400,1,0,0,205,0,1⟩
def exT:List Pl:=[brickP ⟨#[97]⟩ 0 0,brickP ⟨#[98]⟩ 215 0,thinP]
theorem zp3:lowP2 (brickP ⟨#[98]⟩ 215 0)=[(215,0),(215+200,0)]:=by
 unfold lowP2 lineOf;rw [show lowRaw (cornersP (brickP ⟨#[98]⟩ 215 0)) (cornersP (brickP ⟨#[98]⟩ 215 0)).length=[(215,0),(215+200,0)] by decide,zaY (List.Perm.refl _) (by decide) (by decide)]
 decide
theorem up_b:upP2 (brickP ⟨#[98]⟩ 215 0)=[(215,80),(215+200,80)]:=by
 unfold upP2 lineOf;rw [show upRaw (cornersP (brickP ⟨#[98]⟩ 215 0)) (cornersP (brickP ⟨#[98]⟩ 215 0)).length=[(215+200,80),(215,80)] by decide,zaY (List.Perm.swap _ _ _) (by decide) (by decide)]
 decide
theorem zp4:lowP2 thinP=[(205,0),(210,0)]:=by
 unfold lowP2 lineOf;rw [show lowRaw (cornersP thinP) (cornersP thinP).length=[(205,0),(210,0)] by decide,zaY (List.Perm.refl _) (by decide) (by decide)]
 decide
theorem up_t:upP2 thinP=[(205,40),(210,40)]:=by
 unfold upP2 lineOf;rw [show upRaw (cornersP thinP) (cornersP thinP).length=[(210,40),(205,40)] by decide,zaY (List.Perm.swap _ _ _) (by decide) (by decide)]
 decide
theorem zpp:laidP exG exT=0:=by
 unfold exT laidP;simp only [laid1,laid2,addE,clearB,clashB,List.any_cons,List.any_nil,List.nil_append,List.cons_append,relP,freeB,leastR,stopsR,stopsZ,zdO,holdsB,zh2,zp3,zp4,up_0,up_b,up_t]
 decide +kernel
theorem zpD:laidP exG [brickP ⟨#[97]⟩ 0 0]=0:=by
 unfold laidP;simp only [laid1,laid2,addE,clearB,clashB,List.any_cons,List.any_nil,List.nil_append,List.cons_append,relP,freeB,leastR,stopsR,stopsZ,zdO,holdsB,zh2,up_0]
 decide +kernel
theorem zpt (ps:List Pl) (h:laidP exG ps=0) (r:Ru):byE exG ps r=rulesE r:=by
 unfold byE;rw [if_pos h]
theorem zpr {r:Ru} {ps:List Pl} {ks:List (JS×G)} {L M:List Jt} {rs:List Int} (h:SvP r ps ks L rs) (hM:rawP r (skinP r ps)=M) (hs:M.Pairwise fun a b=>cfT a b<0):L=M:=by
 have hp:=h.perm;rw [hM]at hp;refine List.Perm.eq_of_pairwise (le:=fun a b=>¬cfT b a<0) (fun a b ha hb h1 h2=>?_) h.ord (hs.imp fun {a b} hab=>by rw [zgU]at hab ⊢;omega) hp;exact znF (h.perm.mem_iff.1 ha) (by rw [hM];exact hb) h1 h2
def thJ1:Jt:=⟨0,2,200,205,0,40⟩
def thJ2:Jt:=⟨2,1,210,215,0,40⟩
theorem zpR {w:V} {e:Ending} {w':V} (h:RetJo w exG exT ⟨1,0,20,50,10,160,5⟩ e w'):∃a c,e = .returned (A #[N a 2 c,Z X 0])∧IsJts w' (N a 2 c) [thJ1,thJ2]∧Ext w w':=by
 rcases h with ⟨h0,_⟩|⟨_,v,L,ks,rs,rfl,hj,sv,hx⟩
 ·exact absurd (by rw [zpt _ zpp];decide) h0
 ·obtain rfl:=zpr sv (M:=[thJ1,thJ2]) rfl (by decide)
  obtain⟨a,c,rfl⟩:=hj.form;exact⟨a,c,rfl,hj,hx⟩
theorem zpH {w:V} {e:Ending} {w':V} (h:RetJo w exG exT ⟨1,0,4,50,10,160,5⟩ e w'):∃a c,e = .returned (A #[N a 0 c,Z X 0])∧Ext w w':=by
 rcases h with ⟨h0,_⟩|⟨_,v,L,ks,rs,rfl,hj,sv,hx⟩
 ·exact absurd (by rw [zpt _ zpp];decide) h0
 ·obtain rfl:=zpr sv (M:=[]) rfl List.Pairwise.nil
  obtain⟨a,c,rfl⟩:=hj.form;exact⟨a,c,rfl,hx⟩
theorem zpY {w:V} {e:Ending} {w':V} (h:RetLg w exG [brickP ⟨#[97]⟩ 0 0] ⟨1,0,4,50,10,160,5⟩ e w'):e = .returned (A #[N Y 0 0,Z X 0,Z X 8])∧Ext w w':=by
 obtain⟨hx,(⟨h0,_⟩|⟨_,ks,L,rs,sv,h⟩)⟩:=h
 ·exact absurd (by rw [zpt _ zpD];decide) h0
 ·obtain rfl:=zpr sv (M:=[]) rfl List.Pairwise.nil
  rcases h with ⟨_,rfl⟩|⟨v,cn,last,k,rfl,hv,hl,_⟩
  ·exact⟨rfl,hx⟩
  ·cases hl
theorem zpG {w:V} {e:Ending} {w':V} (h:RetJo w exG exT ⟨3,0,4,50,10,160,5⟩ e w'):e = .returned (A #[N Y 0 0,Z X 2])∧Ext w w':=by
 have hb:byE exG exT ⟨3,0,4,50,10,160,5⟩=2:=by rw [zpt _ zpp];decide
 rcases h with ⟨_,rfl,hx⟩|⟨h0,_⟩
 ·rw [hb];exact⟨rfl,hx⟩
 ·rw [hb]at h0;cases h0
theorem zpA {w:V} {e:Ending} {w':V} (h:RetBa w 5 5 0 10 exG exT e w'):e = .returned (A #[Z X 0,Z X 2])∧Ext w w':=by
 have hb:bareE 5 5 0 10 exG exT=2:=by
  unfold bareE;rw [if_pos zpp]
  decide
 rcases h with ⟨_,rfl,hx⟩|⟨h0,_⟩
 ·rw [hb];exact⟨rfl,hx⟩
 ·rw [hb]at h0;cases h0
section
variable {P:Program} {ops:Array Oper} {Q:Exit→U→V→Prop} {md:Region.Mode} {S:V→Prop} {late:Nat→Bool}
end
theorem OwnPl.extM {w w':V} {base:Nat} {v:G} {ps:List Pl} (h:OwnPl w base v ps) (k:Ext w w'):OwnPl w' base v ps:=by
 obtain⟨cs,h1,h2,h3⟩:=h;exact⟨cs,h1.ext k,h2,fun i c p hc hp=>(h3 i c p hc hp).ext k⟩
def WRu (w:V) (g:List (Int×Int)) (ps:List Pl) (r:Ru) (t5 t6:G) (W:V):Prop:=
 ∃b5 b6 vg vp,t5=I (O ⟨b5,0,Y⟩)∧t6=I (O ⟨b6,0,Y⟩)∧b5≠b6∧w.heap.size≤b5∧w.heap.size≤b6∧W.heap[b5]?=O (C #[vg,vp] 33 (0,0))∧W.heap[b6]?=O (C (ruc r) 35 (0,0)) ∧
  IsPts W vg g∧OwnPl W w.heap.size vp ps∧Ext w W
def WRm (w:V) (g:List (Int×Int)) (ps:List Pl) (b5 b6 base:Nat) (vg vp:G) (c5 c6:Array G) (W:V):Prop:=
 W.heap[b5]?=O (C c5 33 (0,0))∧W.heap[b6]?=O (C c6 35 (0,0))∧IsPts W vg g∧OwnPl W base vp ps∧Ext w W
theorem OwnPl.setOther {w:V} {base:Nat} {v:G} {ps:List Pl} (h:OwnPl w base v ps) {b i:Nat} {c:Array G} {T:TypeId} {fr:Nat×Nat} (hk:w.heap[b]?=O (C c T fr)) (h1:T≠46) (h2:T≠42) (u:G):OwnPl (w.setCell ⟨b,i,Y⟩ u) base v ps:=by
 obtain⟨cs,hown,hcl,hcp⟩:=h;have f:v.ownBlock≠O b:=fun e=>hown.ne_blkD hk h1 e
 have k:KeepT 42 w (w.setCell ⟨b,i,Y⟩ u):=(KeepT.refl _ w).set (p:=⟨b,i,Y⟩) hk h2 u;exact⟨cs,hown.setOther (p:=⟨b,i,Y⟩) f u,hcl,fun j c p hc hq=>(hcp j c p hc hq).keep k⟩
theorem WRm.put5 {w W:V} {g:List (Int×Int)} {ps:List Pl} {b5 b6 base:Nat} {vg vp:G} {c5 c6:Array G} (h:WRm w g ps b5 b6 base vg vp c5 c6 W) (hne:b5≠b6) (hb:w.heap.size≤b5) (i:Nat) (u:G) {c:Array G} (hc:c5.setIfInBounds i u=c) :
  WRm w g ps b5 b6 base vg vp c c6 (W.setCell ⟨b5,i,Y⟩ u):=by
 obtain⟨k5,k6,hg,hp,hx⟩:=h;subst hc;have ko:(W.setCell ⟨b5,i,Y⟩ u).heap[b6]?=W.heap[b6]?:=bS _ _ _ _ (by dsimp only;omega);exact⟨zah k5 i u,ko.trans k6,hg.keep' ((KeepT.refl _ W).set (p:=⟨b5,i,Y⟩) k5 (by decide) u),hp.setOther k5 (by decide) (by decide) u,hx.set (by exact hb) u⟩
theorem WRm.put6 {w W:V} {g:List (Int×Int)} {ps:List Pl} {b5 b6 base:Nat} {vg vp:G} {c5 c6:Array G} (h:WRm w g ps b5 b6 base vg vp c5 c6 W) (hne:b5≠b6) (hb:w.heap.size≤b6) (i:Nat) (u:G) {c:Array G} (hc:c6.setIfInBounds i u=c) :
  WRm w g ps b5 b6 base vg vp c5 c (W.setCell ⟨b6,i,Y⟩ u):=by
 obtain⟨k5,k6,hg,hp,hx⟩:=h;subst hc;have ko:(W.setCell ⟨b6,i,Y⟩ u).heap[b5]?=W.heap[b5]?:=bS _ _ _ _ (by dsimp only;omega);exact⟨ko.trans k5,zah k6 i u,hg.keep' ((KeepT.refl _ W).set (p:=⟨b6,i,Y⟩) k6 (by decide) u),hp.setOther k6 (by decide) (by decide) u,hx.set (by exact hb) u⟩
end
end Go.Proofs.YteipgejmhfpkaaaGreatDoor.Cop
