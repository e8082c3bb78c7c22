/- Part 40: contracts of what the law calls. -/
import Derived.Test.YteipgejmhfpkaaaGreatDoorCopA38
import Derived.Test.YteipgejmhfpkaaaGreatDoorCopA34
set_option maxRecDepth 1000000
set_option maxHeartbeats 16000000
set_option linter.unusedSimpArgs false
set_option linter.unusedVariables false
open Go.Value renaming int→O,pointer→E,slice→C
open Go.IntKind renaming i64→Y
open Go renaming World→Z,Value→I
open Option renaming none→X,some→N
open Go.Obj renaming cells→M
namespace Go.Proofs.YteipgejmhfpkaaaGreatDoor.Cop
section
open Go.RowKit Go.Shelf Go.Sort Go.Lib
attribute [local go_sem] Oper.semAt_some
theorem zhd {L:List Jt} {rs:List Int} (h:∀k,k<L.length→Bd 2000000 (hgt L rs k)):∀n,n≤L.length→0≤mostP L rs n∧mostP L rs n≤2000000
 | 0,_=>by unfold mostP;omega
 | n+1,hn=>by
  have:=zhd h n (by omega);have h2:=h n (by omega);unfold Bd at h2;unfold mostP;omega
theorem zn4 {L:List Jt} {rs:List Int} (h1:∀j∈L,BJt j) (h2:∀z∈rs,Bd 1000000 z) {k:Nat} (hk:k<L.length):Bd 2000000 (hgt L rs k):=by
 have hj:L[k]?=N (L[k]'hk):=gE hk;obtain⟨_,_,_,_,_,h3⟩:=h1 _ (lM hj)
 have h4:Bd 1000000 (rs.getD k 0):=by
  rw [gD]
  cases h9:rs[k]? with
  | none=>unfold Bd;simp
  | some v=>exact h2 v (lM h9)
 unfold hgt;rw [hj];dsimp only;unfold Bd at *;omega
def RnF (p5 p6 p7 p9:I) (a:Act):Prop:=a.tmps.size=263∧a.tmps.getD 5 undef=p5∧a.tmps.getD 6 undef=p6∧a.tmps.getD 7 undef=p7∧a.tmps.getD 9 undef=p9∧a.defers=[]
def RnA (w5:Z) (p5 p6 p7 p9 p14 v:I) (l:List Fd) (gk:Nat) (a:Act) (W:Z):Prop:=
 (∃i:Nat,i≤l.length∧a.tmps.getD 13 undef = .bool (runB (l.take i))∧a.tmps.getD 15 undef=O Y (i:Nat)∧gk=l.length-i∧Ext w5 W)∧RnF p5 p6 p7 p9 a∧a.tmps.getD 11 undef=v∧a.tmps.getD 14 undef=p14
theorem zlL (Q:Exit→Act→Z→Prop) (w5:Z) (p5 p6 p7 p9 p14 v:I) (l:List Fd) (hl:IsFds w5 v l) (hl9:l.length≤2000000)
  (a0:Act) (h0:RnF p5 p6 p7 p9 a0∧a0.tmps.getD 11 undef=v∧a0.tmps.getD 14 undef=p14) (h13:a0.tmps.getD 13 undef = .bool false) (h15:a0.tmps.getD 15 undef=O Y (0:Nat))
  (hQ:∀a W,RnF p5 p6 p7 p9 a→a.tmps.getD 13 undef = .bool (runB l)→a.tmps.getD 14 undef=p14→Ext w5 W→Q (.exit 0) a W) :
  (Code.loop (loopAt Tryz.f6 0)).wp Tryz.prog Q a0 w5:=by
 obtain⟨la,ln,lc,rfl⟩:=form3 hl;have Hl:=hd9 hl;have Hn:=hd9 (show l.length=ln from hl.len.symm);have HQ:=hd9 hQ;clear hl hQ;unfold loopAt;simp only [Tryz.f6,loopsOf,List.cons_append,List.nil_append,List.append_nil,List.getD_cons_succ,List.getD_cons_zero];refine wp_loop_ghost_k (RnA w5 p5 p6 p7 p9 p14 (C la ln lc) l) ln ⟨⟨0,by omega,h13,h15,by rw [Hn.out];rfl,eR _⟩,h0⟩ ?round;intro gk aa wr hinv;obtain⟨tt,dd⟩:=aa;obtain⟨⟨i,hi,f13,f15,rfl,hx⟩,⟨f1,f5,f6,f7,f9,hdd⟩,f11,f14⟩:=hinv;dsimp only at f1 f5 f6 f7 f9 f11 f13 f14 f15 hdd;subst hdd;obtain⟨u,hu,ht⟩:=arrU tt 263 f1;simp only [hu]at f5 f6 f7 f9 f11 f13 f14 f15;clear hu f1;subst ht;simp only [List.range,List.range.loop,List.map_cons,List.map_nil,f5,f6,f7,f9,f11,f13,f14,f15];clear f5 f6 f7 f9 f11 f13 f14 f15;intro J K hJ hK;rw [Hn.out]at hi hl9;have HX:=hd9 hx
 by_cases hlt:i<ln
 ·obtain⟨f,hf⟩:∃f,l[i]?=N f:=⟨l[i]'(by rw [Hn.out];exact hlt),gE _⟩
  obtain⟨lb,lo,d,rfl,hlb,_,hd,hc⟩:=Sl.at (Hl.out.ext' hx) hf;subst hd;have c0:=hc 0 (O .u8 f.kind) rfl;simp only [Nat.add_zero]at c0;have Hst:=hd9 (zkt hf);have p1:(0:Int)≤(i:Int):=by omega
  have p2:(i:Int)<(ln:Int):=by omega
  clear hc hx hf;obtain⟨d,hd⟩:=gX (runB (l.take i));obtain⟨e,he⟩:=gX ((f.kind==1));obtain⟨k,hk⟩:=gX f.kind;rw [hd,he]at Hst;rw [hk]at he c0;rw [hd]
  cases d with
  | true =>
   go_wp2;refine Handed.intro (ln-(i+1)) (by have:=Hn.out;omega) (hJ _ _ _ ⟨⟨i+1,by rw [Hn.out];omega,by rw [Hst.out];rfl,?_,by rw [Hn.out],HX.out⟩,⟨rfl,rfl,rfl,rfl,rfl,rfl⟩,rfl,rfl⟩)
   show (_:I)=_
   go_num
  | false =>
   go_wp2;refine Handed.intro (ln-(i+1)) (by have:=Hn.out;omega) (hJ _ _ _ ⟨⟨i+1,by rw [Hn.out];omega,by rw [Hst.out];show Value.bool _=Value.bool _;simp [he],?_,by rw [Hn.out],HX.out⟩,⟨rfl,rfl,rfl,rfl,rfl,rfl⟩,rfl,rfl⟩)
   show (_:I)=_
   go_num
 ·obtain rfl:ln=i:=by omega
  have e:l.take ln=l:=lT (by rw [Hn.out];exact nE _);rw [e];clear hx;go_wp2;exact HQ.out _ _ ⟨rfl,rfl,rfl,rfl,rfl,rfl⟩ rfl rfl HX.out
def RnB (w5:Z) (p5 p6 p7 p9 p13:I) (L:List Jt) (rs:List Int) (gk:Nat) (a:Act) (W:Z):Prop:=
 (∃k:Nat,k≤L.length∧a.tmps.getD 14 undef=O Y (mostP L rs k)∧a.tmps.getD 16 undef=O Y (k:Nat)∧gk=L.length-k∧Ext w5 W)∧RnF p5 p6 p7 p9 a∧a.tmps.getD 13 undef=p13
theorem zlM (Q:Exit→Act→Z→Prop) (w5:Z) (p5 p7 p9 p13:I) (b6:Nat) (r:Ru) (L:List Jt) (rs:List Int) (hord:L.Pairwise (fun a b=>¬cfT b a<0)) (hrs:rs=rootsP r L L.length) (hL:∀j∈L,BJt j) (hL9:L.length≤14400)
  (hj:IsJts w5 p9 L) (hr:IsIs w5 p7 rs) (hK6:w5.heap[b6]?=N (M (ruc r) 35 (0,0)))
  (a0:Act) (h0:RnF p5 (E (N ⟨b6,0,X⟩)) p7 p9 a0∧a0.tmps.getD 13 undef=p13) (h14:a0.tmps.getD 14 undef=O Y 0) (h16:a0.tmps.getD 16 undef=O Y (0:Nat))
  (hQp:∀(c:List PanicEntry) (a:Act) (d:Option Nat) (v:I) (w:Z),Q (.panic c) (a.put d v) w→Q (.panic c) a w)
  (hQ:∀a W,RnF p5 (E (N ⟨b6,0,X⟩)) p7 p9 a→a.tmps.getD 13 undef=p13→a.tmps.getD 14 undef=O Y (mostP L rs L.length)→Ext w5 W→Q (.exit 2) a W) :
  (Code.loop (loopAt Tryz.f6 1)).wp Tryz.prog Q a0 w5:=by
 obtain⟨ja,n,jc9,rfl⟩:=form3 hj;obtain⟨ra,rn,rc,rfl⟩:=form3 hr;have hrb:∀z∈rs,Bd 1000000 z:=by rw [hrs];exact zbX hL L.length
 have HMb:=hd9 (zhd (L:=L) (rs:=rs) (fun k hk=>zn4 hL hrb hk));have HCh:=hd9 (fun(W:Z) (hW:Ext w5 W) (k:Nat) (hk:k<L.length)=>zfo r L hord hL (by omega) (C ja n jc9) k k (nE _) hk W (hj.ext' hW));rw [←hrs]at HCh;have Hj:=hd9 hj;have Hr:=hd9 hr;have Hn:=hd9 (show L.length=n from hj.len.symm);have Hrn:=hd9 (show rn=rs.length from hr.len);have Hrl:=hd9 (show rs.length=L.length by rw [hrs,zam]);have HK6:=hd9 hK6;have HQ:=hd9 hQ;have HQp:=hd9 hQp;have HL:=hd9 hL;have Hrb:=hd9 hrb;clear hj hr hQ hQp hrs hord hL hrb hK6;unfold loopAt;simp only [Tryz.f6,loopsOf,List.cons_append,List.nil_append,List.append_nil,List.getD_cons_succ,List.getD_cons_zero];refine wp_loop_ghost_k (RnB w5 p5 (E (N ⟨b6,0,X⟩)) (C ra rn rc) (C ja n jc9) p13 L rs) n ⟨⟨0,by omega,h14,h16,by rw [Hn.out];rfl,eR _⟩,h0⟩ ?round;intro gk aa wr hinv;obtain⟨tt,dd⟩:=aa;obtain⟨⟨k,hk,f14,f16,rfl,hx⟩,⟨f1,f5,f6,f7,f9,hdd⟩,f13⟩:=hinv;dsimp only at f1 f5 f6 f7 f9 f13 f14 f16 hdd;subst hdd;obtain⟨u,hu,ht⟩:=arrU tt 263 f1;simp only [hu]at f5 f6 f7 f9 f13 f14 f16;clear hu f1;subst ht;simp only [List.range,List.range.loop,List.map_cons,List.map_nil,f5,f6,f7,f9,f13,f14,f16];clear f5 f6 f7 f9 f13 f14 f16;intro J K hJ hK;rw [Hn.out]at hk hL9;have HX:=hd9 hx;obtain⟨m,hm⟩:=gX (mostP L rs k);rw [hm]
 by_cases hlt:k<n
 ·obtain⟨⟨kA,kB,kl,kr,kf,kt⟩,hjk⟩:∃j,L[k]?=N j:=⟨L[k]'(by rw [Hn.out];exact hlt),gE _⟩
  obtain⟨z,hz⟩:∃z,rs[k]?=N z:=⟨rs[k]'(by rw [Hrl.out,Hn.out];exact hlt),gE _⟩;obtain⟨bj,oj,e0,_,hc⟩:=(Hj.out.ext' hx).at' hjk;obtain⟨br,or,e1,_,hcr⟩:=(Hr.out.ext' hx).at' hz;subst e0;subst e1;unfold jta at hc;dsimp only at hc;have cc5:=hc 5 (O Y kt) rfl;have hbt:=(HL.out _ (lM hjk)).2.2.2.2.2;have hbz:=Hrb.out _ (lM hz);dsimp only at hbt
  have hh:hgt L rs k=kt-z:=by
   unfold hgt;rw [hjk,gD,hz];rfl
  have hst:mostP L rs (k+1)=max m (kt-z):=by rw [←hm,←hh];rfl
  have Hst:=hd9 hst;have HC:=hd9 (fun W hW=>HCh.out W hW k (by rw [Hn.out];exact hlt));rw [hh]at HC;have K6:=hx.heapS HK6.out;obtain⟨sk,pin,wide,lap,step,run,level⟩:=r;unfold ruc at K6 HC;dsimp only at K6 HC;have r0:=qcB K6 (i:=0) (u:=O .u8 sk) rfl;have r1:=qcB K6 (i:=1) (u:=O Y pin) rfl;have r2:=qcB K6 (i:=2) (u:=O Y wide) rfl;have r3:=qcB K6 (i:=3) (u:=O Y lap) rfl;have r4:=qcB K6 (i:=4) (u:=O Y step) rfl;have r5:=qcB K6 (i:=5) (u:=O Y run) rfl;have r6:=qcB K6 (i:=6) (u:=O Y level) rfl;have p1:(0:Int)≤(k:Int):=by omega
  have p2:(k:Int)<(n:Int):=by omega
  have p3:k<rn:=by rw [Hrn.out,Hrl.out,Hn.out];exact hlt
  have p4:(k:Int)<(rn:Int):=by omega
  unfold Bd at hbt hbz;have q0:IntKind.i64.wrap (kt-z)=kt-z:=iW _ ⟨by omega,by omega⟩;have q0':wrap64 (kt-z)=kt-z:=IntWalk.wrap64_in _ ⟨by omega,by omega⟩;obtain⟨h,hh9⟩:=gX (kt-z);rw [hh9]at q0 q0' Hst HC;clear hc hjk hz K6 hst hh hm hx
  go_upto_region 21 with (go_at_call 17;(with_reducible refine(HC.out _ HX.out).mono ?_);rintro e w6 ⟨rfl,hx6⟩;have cc5:=hx6.cellS cc5;have hcr:=hx6.cellS hcr)
  refine wp_region_held_drew (S:=CellL [(⟨bj,oj+k*6+5,X⟩,O Y kt),(⟨br,or+k,X⟩,O Y z)]) (by kernel_rfl) cA (fun h9H=>?_);refine tk1 (i:=0) (h4:=fun _ _ _ h=>HQp.out _ _ _ _ _ h) ?_;refine tk1 (i:=1) (h4:=fun _ _ _ h=>HQp.out _ _ _ _ _ h) ?_;refine tk1 (i:=2) (h4:=fun _ _ _ h=>HQp.out _ _ _ _ _ h) ?_;refine tk1 (i:=3) (h4:=fun _ _ _ h=>HQp.out _ _ _ _ _ h) ?_;refine tk1 (i:=4) (h4:=fun _ _ _ h=>HQp.out _ _ _ _ _ h) ?_;refine tk1 (i:=5) (h4:=fun _ _ _ h=>HQp.out _ _ _ _ _ h) ?_;refine tk1 (i:=6) (h4:=fun _ _ _ h=>HQp.out _ _ _ _ _ h) ?_;refine tk1 (i:=7) (h4:=fun _ _ _ h=>HQp.out _ _ _ _ _ h) ?_;refine tk1 (i:=8) (h4:=fun _ _ _ h=>HQp.out _ _ _ _ _ h) ?_;refine tk1 (i:=9) (h4:=fun _ _ _ h=>HQp.out _ _ _ _ _ h) ?_;refine tk1 (i:=10) (h4:=fun _ _ _ h=>HQp.out _ _ _ _ _ h) ?_;refine tk1 (i:=11) (h4:=fun _ _ _ h=>HQp.out _ _ _ _ _ h) ?_;refine wpAnyH_done (by kernel_rfl) ?_ _;go_wp2;refine Handed.intro (n-(k+1)) (by have:=Hn.out;omega) (hJ _ _ _ ⟨⟨k+1,by rw [Hn.out];omega,by rw [Hst.out];rfl,?_,by rw [Hn.out],(HX.out.trans hx6).drew⟩,⟨rfl,rfl,rfl,rfl,rfl,rfl⟩,rfl⟩)
  show (_:I)=_
  go_num
 ·obtain rfl:n=k:=by omega
  have e:m=mostP L rs L.length:=by rw [←hm,Hn.out]
  have He:=hd9 e;clear hx hm e;go_wp2;exact HQ.out _ _ ⟨rfl,rfl,rfl,rfl,rfl,rfl⟩ rfl (by rw [←He.out];rfl) HX.out
def RnC (w7:Z) (p6 p9 p18 p19:I) (m:Nat) (gk:Nat) (a:Act) (W:Z):Prop:=
 (∃i:Nat,i≤m∧a.tmps.getD 21 undef=O Y (i:Nat)∧gk=m-i∧Ext w7 W)∧a.tmps.size=263∧a.tmps.getD 6 undef=p6∧a.tmps.getD 9 undef=p9∧a.tmps.getD 18 undef=p18∧a.tmps.getD 19 undef=p19∧a.defers=[]
def RnP (wr:Z) (jx jy:Jt) (t22 t23:I) (W:Z):Prop:=
 ∃bx by',t22=E (N ⟨bx,0,X⟩)∧t23=E (N ⟨by',0,X⟩)∧W.heap[bx]?=N (M (jta jx) 75 (0,0))∧W.heap[by']?=N (M (jta jy) 75 (0,0))∧Ext wr W
def JtP (b:Nat) (V0:Z) (c:Array I) (V:Z):Prop:=V.heap[b]?=N (M c 75 (0,0))∧(∀a:Z,Ext a V0→a.heap.size≤b→Ext a V)∧∀c,c≠b→V.heap[c]?=V0.heap[c]?
theorem JtP.put {b:Nat} {V V0:Z} {c:Array I} (h:JtP b V0 c V) (i:Nat) (u:I) {c':Array I} (hc:c.setIfInBounds i u=c'):JtP b V0 c' (V.setCell ⟨b,i,X⟩ u):=by
 obtain⟨h1,h3,h4⟩:=h;subst hc;refine⟨zaj h1 i u,fun a ha hb=>(h3 a ha hb).set (by exact hb) u,fun c' hc=>?_⟩;rw [←h4 c' hc];exact bS _ _ _ _ (by dsimp only;exact hc)
theorem zg7 {W:Z} {b:Nat} {x0 x1 x2 x3 x4 x5 y0 y1 y2 y3 y4 y5:I} (k:W.heap[b]?=N (M #[x0,x1,x2,x3,x4,x5] 75 (0,0))) {W1:Z}
  (hW:((((((W.setCell ⟨b,0,X⟩ y0).setCell ⟨b,1,X⟩ y1).setCell ⟨b,2,X⟩ y2).setCell ⟨b,3,X⟩ y3).setCell ⟨b,4,X⟩ y4).setCell ⟨b,5,X⟩ y5)=W1):JtP b W #[y0,y1,y2,y3,y4,y5] W1:=by
 have h0:JtP b W #[x0,x1,x2,x3,x4,x5] W:=⟨k,fun a ha _=>ha,fun c _=>rfl⟩;have h:=(((((h0.put 0 y0 (c':=#[y0,x1,x2,x3,x4,x5]) rfl).put 1 y1 (c':=#[y0,y1,x2,x3,x4,x5]) rfl).put 2 y2 (c':=#[y0,y1,y2,x3,x4,x5]) rfl).put 3 y3 (c':=#[y0,y1,y2,y3,x4,x5]) rfl).put 4 y4 (c':=#[y0,y1,y2,y3,y4,x5]) rfl).put 5 y5 (c':=#[y0,y1,y2,y3,y4,y5]) rfl;rw [hW]at h;exact h
theorem zlN (Q:Exit→Act→Z→Prop) (w7:Z) (p9 p18 p19:I) (b6:Nat) (r:Ru) (L:List Jt) (rs:List Int) (last k:Nat) (cn:List Nat) (hch:ChP r L rs last cn k) (hL:∀j∈L,BJt j)
  (hj:IsJts w7 p9 L) (hv:IsIs w7 p18 (iN cn).reverse) (hK6:w7.heap[b6]?=N (M (ruc r) 35 (0,0)))
  (a0:Act) (h0:a0.tmps.size=263∧a0.tmps.getD 6 undef=E (N ⟨b6,0,X⟩)∧a0.tmps.getD 9 undef=p9∧a0.tmps.getD 18 undef=p18∧a0.tmps.getD 19 undef=p19∧a0.defers=[]) (h21:a0.tmps.getD 21 undef=O Y (0:Nat))
  (hQp:∀(c:List PanicEntry) (a:Act) (d:Option Nat) (v:I) (w:Z),Q (.panic c) (a.put d v) w→Q (.panic c) a w)
  (hQ:∀a W,(a.tmps.size=263∧a.tmps.getD 9 undef=p9∧a.tmps.getD 18 undef=p18∧a.tmps.getD 19 undef=p19∧a.defers=[])→Ext w7 W→Q (.exit 4) a W) :
  (Code.loop (loopAt Tryz.f6 2)).wp Tryz.prog Q a0 w7:=by
 obtain⟨ja,n,jc9,rfl⟩:=form3 hj;obtain⟨va,m,vc,rfl⟩:=form3 hv;have Hj:=hd9 hj;have Hv:=hd9 hv;have Hn:=hd9 (show L.length=n from hj.len.symm);have hm:m=cn.length:=by rw [show m=_ from hv.len];simp [iN]
 have Hm:=hd9 hm;have Hch:=hd9 hch;have HK6:=hd9 hK6;have HQ:=hd9 hQ;have HQp:=hd9 hQp;have HL:=hd9 hL;have hn9:=hj.le;have hm9:m≤9223372036854775807:=by have h1:=hv.le;have h2:=hv.len;unfold maxLen at h1;omega
 clear hj hv hQ hQp hL hK6 hch;unfold loopAt;simp only [Tryz.f6,loopsOf,List.cons_append,List.nil_append,List.append_nil,List.getD_cons_succ,List.getD_cons_zero];refine wp_loop_ghost_k (RnC w7 (E (N ⟨b6,0,X⟩)) (C ja n jc9) (C va m vc) p19 m) m ⟨⟨0,by omega,h21,rfl,eR _⟩,h0⟩ ?round;intro gk aa wr hinv;obtain⟨tt,dd⟩:=aa;obtain⟨⟨i,hi,f21,rfl,hx⟩,f1,f6,f9,f18,f19,hdd⟩:=hinv;dsimp only at f1 f6 f9 f18 f19 f21 hdd;subst hdd;obtain⟨u,hu,ht⟩:=arrU tt 263 f1;simp only [hu]at f6 f9 f18 f19 f21;clear hu f1;subst ht;simp only [List.range,List.range.loop,List.map_cons,List.map_nil,f6,f9,f18,f19,f21];clear f6 f9 f18 f19 f21;intro J K hJ hK;have HX:=hd9 hx
 by_cases hlt:i<m
 ·obtain⟨x,hx9,hxL,hpre⟩:=Hch.out.at (i:=i) (by rw [←hm];exact hlt)
  obtain⟨bv,ov,e0,_,hcx⟩:=(Hv.out.ext' hx).at' hx9;subst e0;rw [Hn.out]at hxL;have p1:(0:Int)≤(i:Int):=by omega
  have p2:(i:Int)<(m:Int):=by omega
  have p3:(0:Int)≤(x:Int):=by omega
  have p4:(x:Int)<(n:Int):=by omega
  by_cases hi0:i=0
  ·subst hi0
   have Hlt:=hd9 hlt;clear hx hx9 hpre hm;simp only [Nat.add_zero]at hcx;go_wp2;refine Handed.intro (m-(0+1)) (by have:=Hlt.out;omega) (hJ _ _ _ ⟨⟨0+1,by omega,?_,rfl,HX.out⟩,rfl,rfl,rfl,rfl,rfl,rfl⟩)
   show (_:I)=_
   go_num
  ·obtain⟨y,hy9,hyL,hfol⟩:=hpre (by omega)
   rw [Hn.out]at hyL;obtain⟨bv2,ov2,e2,_,hcy⟩:=(Hv.out.ext' hx).at' hy9
   cases e2
   obtain⟨jx,hjx⟩:∃j,L[x]?=N j:=⟨L[x]'(by rw [Hn.out];exact hxL),gE _⟩;obtain⟨jy,hjy⟩:∃j,L[y]?=N j:=⟨L[y]'(by rw [Hn.out];exact hyL),gE _⟩;have hff:=zjn hfol hjx hjy;obtain⟨bj,oj,e0,_,hc⟩:=(Hj.out.ext' hx).at' hjx;subst e0;obtain⟨bj2,oj2,e2,_,hd⟩:=(Hj.out.ext' hx).at' hjy
   cases e2
   have hbx:=HL.out _ (lM hjx);have hby:=HL.out _ (lM hjy);obtain⟨xA,xB,xl,xr,xf,xt⟩:=jx;obtain⟨yA,yB,yl,yr,yf,yt⟩:=jy;dsimp only at hff;unfold jta at hc hd;dsimp only at hc hd;have cx0:=hc 0 (O Y xA) rfl;have cx1:=hc 1 (O Y xB) rfl;have cx2:=hc 2 (O Y xl) rfl;have cx3:=hc 3 (O Y xr) rfl;have cx4:=hc 4 (O Y xf) rfl;have cx5:=hc 5 (O Y xt) rfl;have cy0:=hd 0 (O Y yA) rfl;have cy1:=hd 1 (O Y yB) rfl;have cy2:=hd 2 (O Y yl) rfl;have cy3:=hd 3 (O Y yr) rfl;have cy4:=hd 4 (O Y yf) rfl;have cy5:=hd 5 (O Y yt) rfl;simp only [Nat.add_zero]at cx0 cy0;obtain⟨i',rfl⟩:∃i',i=i'+1:=⟨i-1,by omega⟩;have hmx:i'+1≤9223372036854775807:=by omega
   have e9:((i'+1:Nat):Int)-1=(i':Int):=by omega
   rw [Nat.add_sub_cancel]at hcy;have p5:(0:Int)≤(i':Int):=by omega
   have p6:(i':Int)<(m:Int):=by omega
   have p7:(0:Int)≤(y:Int):=by omega
   have p8:(y:Int)<(n:Int):=by omega
   have p10:(0:Int)<(i':Int)+1:=by omega
   have p11:(i':Int)+1<(m:Int):=by omega
   have p12:(0:Int)≤(i':Int)+1:=by omega
   have p13:i'+1<m:=hlt;have Hff:=hd9 hff;have Hbx:=hd9 hbx
   have Hby:=hd9 hby;clear hc hd hjx hjy hff hbx hby hx hx9 hy9 hpre hm hfol hi0
   go_upto_region 36 with fail
   go_cut [22,23]from 163 to 263 (RnP wr ⟨yA,yB,yl,yr,yf,yt⟩ ⟨xA,xB,xl,xr,xf,xt⟩)
   case first =>
    have q3:IntKind.i64.wrap (i':Int)=(i':Int):=iW _ ⟨by omega,by omega⟩
    refine zap (fun i=>decide (17<i)) (CellL [(⟨bv,ov+i',X⟩,O Y y),(⟨bv,ov+(i'+1),X⟩,O Y x),(⟨bj,oj+x*6,X⟩,O Y xA),(⟨bj,oj+x*6+1,X⟩,O Y xB),(⟨bj,oj+x*6+2,X⟩,O Y xl),(⟨bj,oj+x*6+3,X⟩,O Y xr),(⟨bj,oj+x*6+4,X⟩,O Y xf),(⟨bj,oj+x*6+5,X⟩,O Y xt),
     (⟨bj,oj+y*6,X⟩,O Y yA),(⟨bj,oj+y*6+1,X⟩,O Y yB),(⟨bj,oj+y*6+2,X⟩,O Y yl),(⟨bj,oj+y*6+3,X⟩,O Y yr),(⟨bj,oj+y*6+4,X⟩,O Y yf),(⟨bj,oj+y*6+5,X⟩,O Y yt)]) (by kernel_rfl) ?_ (fun h9H=>?_)
    ·exact cA
    refine tu1 (i:=0) (h4:=fun _ _ _ h=>HQp.out _ _ _ _ _ h) ?_;refine tu1 (i:=1) (h4:=fun _ _ _ h=>HQp.out _ _ _ _ _ h) ?_;refine tu1 (i:=2) (h4:=fun _ _ _ h=>HQp.out _ _ _ _ _ h) ?_;refine tu1 (i:=3) (h4:=fun _ _ _ h=>HQp.out _ _ _ _ _ h) ?_;refine tu1 (i:=4) (h4:=fun _ _ _ h=>HQp.out _ _ _ _ _ h) ?_;refine tu1 (i:=5) (h4:=fun _ _ _ h=>HQp.out _ _ _ _ _ h) ?_;refine tu1 (i:=6) (h4:=fun _ _ _ h=>HQp.out _ _ _ _ _ h) ?_;refine tu1 (i:=7) (h4:=fun _ _ _ h=>HQp.out _ _ _ _ _ h) ?_;refine tu1 (i:=8) (h4:=fun _ _ _ h=>HQp.out _ _ _ _ _ h) ?_;refine tu1 (i:=9) (h4:=fun _ _ _ h=>HQp.out _ _ _ _ _ h) ?_;refine tu1 (i:=10) (h4:=fun _ _ _ h=>HQp.out _ _ _ _ _ h) ?_;refine tu1 (i:=11) (h4:=fun _ _ _ h=>HQp.out _ _ _ _ _ h) ?_;refine tu1 (i:=12) (h4:=fun _ _ _ h=>HQp.out _ _ _ _ _ h) ?_;refine tu1 (i:=13) (h4:=fun _ _ _ h=>HQp.out _ _ _ _ _ h) ?_;refine tu1 (i:=14) (h4:=fun _ _ _ h=>HQp.out _ _ _ _ _ h) ?_;have H0:=CellL.undrew h9H;refine callHU2 (i:=15) (j:=16) (fun K hK=>?f1) (fun K hK=>?f2)
    case f1 =>
     go_simp;refine kO hK (fun _=>cE h9H ((eR _).alloc _)) (fun h9H=>?_);clear hK K;have h9H:=h9H rfl;refine cu1 (i:=16) fun K hK=>?_
     go_simp;refine kO hK (fun _=>cE h9H ((eR _).alloc _)) (fun h9H=>?_);clear hK K;have h9H:=h9H rfl;obtain⟨W9,hW9⟩:=gX (((wr.alloc (M #[O Y 0,O Y 0,O Y 0,O Y 0,O Y 0,O Y 0] 75)).alloc (M #[O Y 0,O Y 0,O Y 0,O Y 0,O Y 0,O Y 0] 75)).drew);have hF:Ext wr W9:=by rw [←hW9];exact(((eR wr).alloc _).alloc _).drew
     have q0:W9.heap[wr.heap.size]?=N (M #[O Y 0,O Y 0,O Y 0,O Y 0,O Y 0,O Y 0] 75 (0,0)):=by rw [←hW9];exact zbl wr _ _
     have q1:W9.heap[wr.heap.size+1]?=N (M #[O Y 0,O Y 0,O Y 0,O Y 0,O Y 0,O Y 0] 75 (0,0)):=by rw [←hW9];exact zax wr _ _
     rw [hW9]at h9H ⊢;clear hW9;have j1:=zg7 (y0:=O Y yA) (y1:=O Y yB) (y2:=O Y yl) (y3:=O Y yr) (y4:=O Y yf) (y5:=O Y yt) q0 rfl;have j2:=zg7 (y0:=O Y xA) (y1:=O Y xB) (y2:=O Y xl) (y3:=O Y xr) (y4:=O Y xf) (y5:=O Y xt) ((j1.2.2 (wr.heap.size+1) (by omega)).trans q1) rfl;have nf0:=qfB q0;have nf1:=qfB q1;have n0:=qcB q0 (i:=0) (u:=O Y 0) rfl;have n1:=qcB q0 (i:=1) (u:=O Y 0) rfl;have n2:=qcB q0 (i:=2) (u:=O Y 0) rfl;have n3:=qcB q0 (i:=3) (u:=O Y 0) rfl;have n4:=qcB q0 (i:=4) (u:=O Y 0) rfl;have n5:=qcB q0 (i:=5) (u:=O Y 0) rfl;have m0:=qcB q1 (i:=0) (u:=O Y 0) rfl;have m1:=qcB q1 (i:=1) (u:=O Y 0) rfl;have m2:=qcB q1 (i:=2) (u:=O Y 0) rfl;have m3:=qcB q1 (i:=3) (u:=O Y 0) rfl;have m4:=qcB q1 (i:=4) (u:=O Y 0) rfl;have m5:=qcB q1 (i:=5) (u:=O Y 0) rfl;have J1:=hd9 j1;have J2:=hd9 j2;have HF:=hd9 hF;clear j1 j2 hF q0 q1;refine cu1 (i:=17) fun K hK=>?_
     go_simp;refine kO hK (fun _=>cE H0 (J1.out.2.1 wr HF.out (by omega))) (fun h9H=>?_);clear hK K;refine cu1 (i:=18) fun K hK=>?_
     go_simp;refine kO hK (fun h=>nomatch h) (fun h9H=>?_);clear hK K;refine doneHU (by kernel_rfl) ?_ _;clear h9H H0;go_wp2;go_meet;exact⟨_,_,rfl,rfl,(J2.out.2.2 (wr.heap.size) (by omega)).trans J1.out.1,J2.out.1,J2.out.2.1 wr (J1.out.2.1 wr HF.out (by omega)) (by omega)⟩
    case f2 =>
     go_simp;refine kO hK (fun _=>cE h9H ((eR _).alloc _)) (fun h9H=>?_);clear hK K;have h9H:=h9H rfl;refine cu1 (i:=15) fun K hK=>?_
     go_simp;refine kO hK (fun _=>cE h9H ((eR _).alloc _)) (fun h9H=>?_);clear hK K;have h9H:=h9H rfl;obtain⟨W9,hW9⟩:=gX (((wr.alloc (M #[O Y 0,O Y 0,O Y 0,O Y 0,O Y 0,O Y 0] 75)).alloc (M #[O Y 0,O Y 0,O Y 0,O Y 0,O Y 0,O Y 0] 75)).drew);have hF:Ext wr W9:=by rw [←hW9];exact(((eR wr).alloc _).alloc _).drew
     have q0:W9.heap[wr.heap.size]?=N (M #[O Y 0,O Y 0,O Y 0,O Y 0,O Y 0,O Y 0] 75 (0,0)):=by rw [←hW9];exact zbl wr _ _
     have q1:W9.heap[wr.heap.size+1]?=N (M #[O Y 0,O Y 0,O Y 0,O Y 0,O Y 0,O Y 0] 75 (0,0)):=by rw [←hW9];exact zax wr _ _
     rw [hW9]at h9H ⊢;clear hW9;have j1:=zg7 (y0:=O Y yA) (y1:=O Y yB) (y2:=O Y yl) (y3:=O Y yr) (y4:=O Y yf) (y5:=O Y yt) q1 rfl;have j2:=zg7 (y0:=O Y xA) (y1:=O Y xB) (y2:=O Y xl) (y3:=O Y xr) (y4:=O Y xf) (y5:=O Y xt) ((j1.2.2 (wr.heap.size) (by omega)).trans q0) rfl;have nf0:=qfB q0;have nf1:=qfB q1;have n0:=qcB q0 (i:=0) (u:=O Y 0) rfl;have n1:=qcB q0 (i:=1) (u:=O Y 0) rfl;have n2:=qcB q0 (i:=2) (u:=O Y 0) rfl;have n3:=qcB q0 (i:=3) (u:=O Y 0) rfl;have n4:=qcB q0 (i:=4) (u:=O Y 0) rfl;have n5:=qcB q0 (i:=5) (u:=O Y 0) rfl;have m0:=qcB q1 (i:=0) (u:=O Y 0) rfl;have m1:=qcB q1 (i:=1) (u:=O Y 0) rfl;have m2:=qcB q1 (i:=2) (u:=O Y 0) rfl;have m3:=qcB q1 (i:=3) (u:=O Y 0) rfl;have m4:=qcB q1 (i:=4) (u:=O Y 0) rfl;have m5:=qcB q1 (i:=5) (u:=O Y 0) rfl;have J1:=hd9 j1;have J2:=hd9 j2;have HF:=hd9 hF;clear j1 j2 hF q0 q1;refine cu1 (i:=17) fun K hK=>?_
     go_simp;refine kO hK (fun _=>cE H0 (J1.out.2.1 wr HF.out (by omega))) (fun h9H=>?_);clear hK K;refine cu1 (i:=18) fun K hK=>?_
     go_simp;refine kO hK (fun h=>nomatch h) (fun h9H=>?_);clear hK K;refine doneHU (by kernel_rfl) ?_ _;clear h9H H0;go_wp2;go_meet;exact⟨_,_,rfl,rfl,(J2.out.2.2 (wr.heap.size+1) (by omega)).trans J1.out.1,J2.out.1,J2.out.2.1 wr (J1.out.2.1 wr HF.out (by omega)) (by omega)⟩
   case rest =>
    obtain⟨bx,by',rfl,rfl,hbx,hby,hxc⟩:=hcut;obtain⟨W8,rfl⟩:∃W,W=wc:=⟨_,rfl⟩;obtain⟨sk,pin,wide,lap,step,run,level⟩:=r
    unfold jta at hbx hby
    dsimp only at hbx hby;have K6:=(HX.out.trans hxc).heapS HK6.out;unfold ruc at K6;dsimp only at K6;have c3:=qcB K6 (i:=3) (u:=O Y lap) rfl;have c4:=qcB K6 (i:=4) (u:=O Y step) rfl;have a2:=qcB hbx (i:=2) (u:=O Y yl) rfl;have a3:=qcB hbx (i:=3) (u:=O Y yr) rfl;have a4:=qcB hbx (i:=4) (u:=O Y yf) rfl;have a5:=qcB hbx (i:=5) (u:=O Y yt) rfl;have d2:=qcB hby (i:=2) (u:=O Y xl) rfl;have d3:=qcB hby (i:=3) (u:=O Y xr) rfl;have d4:=qcB hby (i:=4) (u:=O Y xf) rfl;obtain⟨_,_,b2,b3,b4,b5⟩:=Hbx.out;obtain⟨_,_,e2,e3,e4,e5⟩:=Hby.out;dsimp only at b2 b3 b4 b5 e2 e3 e4 e5;unfold Bd at b2 b3 b4 b5 e2 e3 e4 e5;obtain⟨g1,g2,g3,g4⟩:=Hff.out;dsimp only at g2 g3 g4;have z1:decide (xf≤yf)=false:=decide_eq_false (by omega);have z2:decide (step<xf-yt)=false:=decide_eq_false (by omega);have z3:decide (step < -(xf-yt))=false:=decide_eq_false (by omega);obtain⟨d,hd⟩:=gX (max 0 (max (xl-yr) (yl-xr)));have z4:decide (lap≤d)=false:=decide_eq_false (by omega);have Hd:=hd9 (show max (max 0 (xl-yr)) (yl-xr)=d by omega);have y1:IntKind.i64.wrap (xl-yr)=xl-yr:=iW _ ⟨by omega,by omega⟩;have y1':wrap64 (xl-yr)=xl-yr:=IntWalk.wrap64_in _ ⟨by omega,by omega⟩;have y2:IntKind.i64.wrap (yl-xr)=yl-xr:=iW _ ⟨by omega,by omega⟩;have y2':wrap64 (yl-xr)=yl-xr:=IntWalk.wrap64_in _ ⟨by omega,by omega⟩;have y3:IntKind.i64.wrap (xf-yt)=xf-yt:=iW _ ⟨by omega,by omega⟩;have y3':wrap64 (xf-yt)=xf-yt:=IntWalk.wrap64_in _ ⟨by omega,by omega⟩;have y4:IntKind.i64.wrap (-(xf-yt)) = -(xf-yt):=iW _ ⟨by omega,by omega⟩;have y4':wrap64 (-(xf-yt)) = -(xf-yt):=IntWalk.wrap64_in _ ⟨by omega,by omega⟩;have Hxc:=hd9 hxc;clear hd g1 g2 g3 g4 hbx hby K6 hxc b2 b3 b4 b5 e2 e3 e4 e5
    go_upto_region 37 with fail
    go_cut [24]from 163 to 263 (CutI d W8)
    case first =>
     go_wp2
     all_goals go_meet
     all_goals refine⟨?_,eR _⟩
     all_goals congr 1
     all_goals(have hd:=Hd.out;first|omega|(split at *<;>omega))
    case rest =>
     obtain⟨rfl,hx5⟩:=hcut;have c3:=hx5.cellS c3;have c4:=hx5.cellS c4;have a4:=hx5.cellS a4;have a5:=hx5.cellS a5;have d4:=hx5.cellS d4;have Hx5:=hd9 (HX.out.trans (Hxc.out.trans hx5));clear hx5 a2 a3 d2 d3;go_wp2;refine Handed.intro (m-(i'+1+1)) (by omega) (hJ _ _ _ ⟨⟨i'+1+1,by omega,?_,rfl,Hx5.out⟩,rfl,rfl,rfl,rfl,rfl,rfl⟩)
     show (_:I)=_
     go_num
 ·obtain rfl:m=i:=by omega
  clear hx;go_wp2;exact HQ.out _ _ ⟨rfl,rfl,rfl,rfl,rfl⟩ HX.out
end
end Go.Proofs.YteipgejmhfpkaaaGreatDoor.Cop
