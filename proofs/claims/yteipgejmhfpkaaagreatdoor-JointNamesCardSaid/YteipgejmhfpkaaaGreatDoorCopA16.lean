/- Part 17: contracts of what the law calls. -/
import Derived.Test.YteipgejmhfpkaaaGreatDoorCopA15
set_option maxRecDepth 1000000
set_option maxHeartbeats 16000000
set_option linter.unusedSimpArgs false
set_option linter.unusedVariables false
open Go.Value renaming int→O,slice→I,agg→M,pointer→N
open Go.IntKind renaming i64→Y,u8→C
open Go renaming World→Z,Value→X
open Option renaming some→V,none→J
namespace Go.Proofs.YteipgejmhfpkaaaGreatDoor.Cop
section
open Go.RowKit Go.Shelf Go.Sort Go.Lib
def arP (f:Int×Int→Int):List (Int×Int)→Int×Int
 | []=>(0,0)
 | p::ps=>ps.foldl (fun o q=>(min o.1 (f q),max o.2 (f q))) (f p,f p)
theorem zgQ {f:Int×Int→Int} {ps:List (Int×Int)} {q:Int×Int} (h:ps≠[]):arP f (ps++[q])=(min (arP f ps).1 (f q),max (arP f ps).2 (f q)):=by
 cases ps with
 | nil=>exact absurd rfl h
 | cons p ps=>simp [arP]
def TwB (T:TypeId) (W:Z) (b:Nat) (x z:Int):Prop:=W.heap[b]?=V (.cells #[O Y x,O Y z] T (0,0))
theorem TwB.ext {T:TypeId} {W W':Z} {b:Nat} {x z:Int} (h:TwB T W b x z) (k:Ext W W'):TwB T W' b x z:=k.heapS h
theorem TwB.put {T:TypeId} {W:Z} {b:Nat} {x z:Int} (h:TwB T W b x z) (x' z':Int):TwB T ((W.setCell ⟨b,0,J⟩ (O Y x')).setCell ⟨b,1,J⟩ (O Y z')) b x' z':=by
 unfold TwB at *;simp [World.setCell,Array.getElem?_modify,h]
theorem TwB.other {T:TypeId} {W:Z} {b:Nat} {x z:Int} (h:TwB T W b x z) {p:Addr} (hp:p.block≠b) (u:X):TwB T (W.setCell p u) b x z:=by
 unfold TwB at *;rw [bS _ _ _ _ (Ne.symm hp)];exact h
def ArS (w:Z) (f:Int×Int→Int) (ps:List (Int×Int)) (g:Nat) (t11:X) (W:Z):Prop:=
 ∃i:Nat,i≤ps.length∧t11=O Y i∧g=ps.length-i∧Ext w W∧TwB 125 W w.heap.size 0 0∧TwB 125 W (w.heap.size+1) (arP f (ps.take i)).1 (arP f (ps.take i)).2
theorem zkN (w:Z) (x z:Int):Calls Tryz.prog 79 #[M #[O Y x,O Y z]] w fun e w'=>e = .returned (O Y x)∧Ext w w':=by
 go_enter Tryz.func79,Tryz.ntmps79;go_wp2;go_ret;exact⟨rfl,eA⟩
theorem zf3 (w:Z) (v:X) (ps:List (Int×Int)) (h:IsPts w v ps) :
  Calls Tryz.prog 81 #[v,.func (.func 79) #[] #[]] w fun e w'=>e = .returned (M #[O Y (arP Prod.fst ps).1,O Y (arP Prod.fst ps).2])∧Ext w w':=by
 obtain⟨a,c,rfl⟩:=h.form;obtain⟨n,hn⟩:=gX ps.length;rw [hn]at h ⊢;have hle:=h.le;unfold maxLen at hle;have hnc:n≤9223372036854775807:=by omega
 have Hn:=hd9 hn;obtain⟨R,hR⟩:=gX ((fun(e:Ending) (w':Z)=>e = .returned (M #[O Y (arP Prod.fst ps).1,O Y (arP Prod.fst ps).2])∧Ext w w'));rw [hR];have HR:=hd9 hR;clear hn hle hR;go_enter Tryz.func81,Tryz.ntmps81;go_wp2
 go_loopg [11] n (ArS w Prod.fst ps)
 case atStart=>exact⟨0,by omega,rfl,by rw [Hn.out];rfl,eA,((eR _).alloc _).heapS (qhA _ _ _ rfl),qhA _ _ _ (by simp)⟩
 case round =>
  obtain⟨i,hi,rfl,rfl,hx,hA,hB⟩:=hrel;rw [Hn.out]at hi;obtain⟨lo,hlo⟩:=gX ((arP Prod.fst (ps.take i)).1);obtain⟨hh,hhh⟩:=gX ((arP Prod.fst (ps.take i)).2);rw [hlo,hhh]at hB;have zB:=zab hB;have zB1:w.heap.size+1<wr.heap.size+1:=by omega
  have HA:=hd9 hA;have HB:=hd9 hB;have Hx:=hd9 hx
  by_cases hlt:i<n
  ·obtain⟨⟨x,z⟩,hq⟩:∃q,ps[i]?=V q:=⟨ps[i]'(by rw [Hn.out];omega),by simp [Hn.out,hlt]⟩
   obtain⟨b,o,rfl,hb,d0,d1⟩:=(h.ext' hx).at' hq;have Hq:=hd9 hq;have hsn:ps.take (i+1)=ps.take i++[(x,z)]:=zaa _ _ _ hq;have Hsn:=hd9 hsn;have Hlo:=hd9 hlo;have Hhh:=hd9 hhh;clear hq hA hx hsn hlo hhh
   by_cases h0:i=0
   ·have h0b:((i:Int)==0)=true:=by simp;omega
    have H0:=hd9 h0;clear h0 hB
    go_wp2_with(go_at_call 79;(with_reducible refine(zkN _ x z).mono ?_);rintro e w1 ⟨rfl,hx1⟩;(have X1:Ext wr w1:=((eR wr).alloc _).trans hx1);(have B1:=HB.out.ext X1);have b0:=qcB B1 (i:=0) (u:=O Y lo) rfl;have b1:=qcB B1 (i:=1) (u:=O Y hh) rfl;have bf:=qfB B1)
    go_roundg (n-(i+1))
    case measure=>have:=Hn.out;omega
    case rel =>
     have e:arP Prod.fst (ps.take (i+1))=(x,x):=by
      have:=H0.out;subst this;rw [Hsn.out];simp [arP]
     have hx:=Hx.out;have P:=(B1.put x x).put (min x x) (max x x);refine⟨i+1,by rw [Hn.out];omega,by go_num,by rw [Hn.out],eA,((((HA.out.ext X1).other (by dsimp only;omega) _).other (by dsimp only;omega) _).other (by dsimp only;omega) _).other (by dsimp only;omega) _,?_⟩;rw [e]
     simpa using P
   ·have h0b:((i:Int)==0)=false:=by simp;omega
    have H0:=hd9 h0;clear h0 hB
    go_wp2_with(go_at_call 79;(with_reducible refine(zkN _ x z).mono ?_);rintro e w1 ⟨rfl,hx1⟩;(have X1:Ext wr w1:=((eR wr).alloc _).trans hx1);(have B1:=HB.out.ext X1);have b0:=qcB B1 (i:=0) (u:=O Y lo) rfl;have b1:=qcB B1 (i:=1) (u:=O Y hh) rfl;have bf:=qfB B1)
    go_roundg (n-(i+1))
    case measure=>have:=Hn.out;omega
    case rel =>
     have e:arP Prod.fst (ps.take (i+1))=(min lo x,max hh x):=by
      rw [Hsn.out,zgQ,Hlo.out,Hhh.out];intro h;have h2:(ps.take i).length=0:=by rw [h];rfl
      rw [List.length_take,Hn.out]at h2;have:=H0.out;omega
     have hx:=Hx.out;have P:=B1.put (min lo x) (max hh x);refine⟨i+1,by rw [Hn.out];omega,by go_num,by rw [Hn.out],eA,((HA.out.ext X1).other (by dsimp only;omega) _).other (by dsimp only;omega) _,?_⟩;rw [e];exact P
  ·obtain rfl:i=n:=by omega
   have e:ps.take i=ps:=lT (by rw [Hn.out];exact nE _);rw [e]at hlo hhh;have a0:=qcB hA (i:=0) (u:=O Y 0) rfl;have a1:=qcB hA (i:=1) (u:=O Y 0) rfl;have af:=qfB hA;have b0:=qcB hB (i:=0) (u:=O Y lo) rfl;have b1:=qcB hB (i:=1) (u:=O Y hh) rfl;go_wp2;refine bR (v:=M #[O Y lo,O Y hh]) (by simp [results,Tryz.results81,go_sem,a0,a1,af,b0,b1]) rfl ?_;rw [←HR.out];exact⟨by rw [hlo,hhh],eA⟩
theorem zkO (w:Z) (x z:Int):Calls Tryz.prog 80 #[M #[O Y x,O Y z]] w fun e w'=>e = .returned (O Y z)∧Ext w w':=by
 go_enter Tryz.func80,Tryz.ntmps80;go_wp2;go_ret;exact⟨rfl,eA⟩
theorem zf7 (w:Z) (v:X) (ps:List (Int×Int)) (h:IsPts w v ps) :
  Calls Tryz.prog 81 #[v,.func (.func 80) #[] #[]] w fun e w'=>e = .returned (M #[O Y (arP Prod.snd ps).1,O Y (arP Prod.snd ps).2])∧Ext w w':=by
 obtain⟨a,c,rfl⟩:=h.form;obtain⟨n,hn⟩:=gX ps.length;rw [hn]at h ⊢;have hle:=h.le;unfold maxLen at hle;have hnc:n≤9223372036854775807:=by omega
 have Hn:=hd9 hn;obtain⟨R,hR⟩:=gX ((fun(e:Ending) (w':Z)=>e = .returned (M #[O Y (arP Prod.snd ps).1,O Y (arP Prod.snd ps).2])∧Ext w w'));rw [hR];have HR:=hd9 hR;clear hn hle hR;go_enter Tryz.func81,Tryz.ntmps81;go_wp2
 go_loopg [11] n (ArS w Prod.snd ps)
 case atStart=>exact⟨0,by omega,rfl,by rw [Hn.out];rfl,eA,((eR _).alloc _).heapS (qhA _ _ _ rfl),qhA _ _ _ (by simp)⟩
 case round =>
  obtain⟨i,hi,rfl,rfl,hx,hA,hB⟩:=hrel;rw [Hn.out]at hi;obtain⟨lo,hlo⟩:=gX ((arP Prod.snd (ps.take i)).1);obtain⟨hh,hhh⟩:=gX ((arP Prod.snd (ps.take i)).2);rw [hlo,hhh]at hB;have zB:=zab hB;have zB1:w.heap.size+1<wr.heap.size+1:=by omega
  have HA:=hd9 hA;have HB:=hd9 hB;have Hx:=hd9 hx
  by_cases hlt:i<n
  ·obtain⟨⟨x,z⟩,hq⟩:∃q,ps[i]?=V q:=⟨ps[i]'(by rw [Hn.out];omega),by simp [Hn.out,hlt]⟩
   obtain⟨b,o,rfl,hb,d0,d1⟩:=(h.ext' hx).at' hq;have Hq:=hd9 hq;have hsn:ps.take (i+1)=ps.take i++[(x,z)]:=zaa _ _ _ hq;have Hsn:=hd9 hsn;have Hlo:=hd9 hlo;have Hhh:=hd9 hhh;clear hq hA hx hsn hlo hhh
   by_cases h0:i=0
   ·have h0b:((i:Int)==0)=true:=by simp;omega
    have H0:=hd9 h0;clear h0 hB
    go_wp2_with(go_at_call 80;(with_reducible refine(zkO _ x z).mono ?_);rintro e w1 ⟨rfl,hx1⟩;(have X1:Ext wr w1:=((eR wr).alloc _).trans hx1);(have B1:=HB.out.ext X1);have b0:=qcB B1 (i:=0) (u:=O Y lo) rfl;have b1:=qcB B1 (i:=1) (u:=O Y hh) rfl;have bf:=qfB B1)
    go_roundg (n-(i+1))
    case measure=>have:=Hn.out;omega
    case rel =>
     have e:arP Prod.snd (ps.take (i+1))=(z,z):=by
      have:=H0.out;subst this;rw [Hsn.out];simp [arP]
     have hx:=Hx.out;have P:=(B1.put z z).put (min z z) (max z z);refine⟨i+1,by rw [Hn.out];omega,by go_num,by rw [Hn.out],eA,((((HA.out.ext X1).other (by dsimp only;omega) _).other (by dsimp only;omega) _).other (by dsimp only;omega) _).other (by dsimp only;omega) _,?_⟩;rw [e]
     simpa using P
   ·have h0b:((i:Int)==0)=false:=by simp;omega
    have H0:=hd9 h0;clear h0 hB
    go_wp2_with(go_at_call 80;(with_reducible refine(zkO _ x z).mono ?_);rintro e w1 ⟨rfl,hx1⟩;(have X1:Ext wr w1:=((eR wr).alloc _).trans hx1);(have B1:=HB.out.ext X1);have b0:=qcB B1 (i:=0) (u:=O Y lo) rfl;have b1:=qcB B1 (i:=1) (u:=O Y hh) rfl;have bf:=qfB B1)
    go_roundg (n-(i+1))
    case measure=>have:=Hn.out;omega
    case rel =>
     have e:arP Prod.snd (ps.take (i+1))=(min lo z,max hh z):=by
      rw [Hsn.out,zgQ,Hlo.out,Hhh.out];intro h;have h2:(ps.take i).length=0:=by rw [h];rfl
      rw [List.length_take,Hn.out]at h2;have:=H0.out;omega
     have hx:=Hx.out;have P:=B1.put (min lo z) (max hh z);refine⟨i+1,by rw [Hn.out];omega,by go_num,by rw [Hn.out],eA,((HA.out.ext X1).other (by dsimp only;omega) _).other (by dsimp only;omega) _,?_⟩;rw [e];exact P
  ·obtain rfl:i=n:=by omega
   have e:ps.take i=ps:=lT (by rw [Hn.out];exact nE _);rw [e]at hlo hhh;have a0:=qcB hA (i:=0) (u:=O Y 0) rfl;have a1:=qcB hA (i:=1) (u:=O Y 0) rfl;have af:=qfB hA;have b0:=qcB hB (i:=0) (u:=O Y lo) rfl;have b1:=qcB hB (i:=1) (u:=O Y hh) rfl;go_wp2;refine bR (v:=M #[O Y lo,O Y hh]) (by simp [results,Tryz.results81,go_sem,a0,a1,af,b0,b1]) rfl ?_;rw [←HR.out];exact⟨by rw [hlo,hhh],eA⟩
structure JS where
 p:Pl
 k:Int
 x:Int×Int
 z:Int×Int
def jsOf (i:Nat) (p:Pl):JS:=⟨p,i,arP Prod.fst (cornersP p),arP Prod.snd (cornersP p)⟩
def jsP (ps:List Pl):List JS:=ps.mapIdx jsOf
def jca (j:JS×X):Array X:=#[.string j.1.p.name,j.2,O Y j.1.p.depth,O Y j.1.p.density,O Y j.1.p.gx,O Y j.1.p.gz,O Y j.1.p.way,O Y j.1.p.ax,O Y j.1.p.az,O C j.1.p.skin,O Y j.1.k,O Y j.1.x.1,O Y j.1.x.2,O Y j.1.z.1,O Y j.1.z.2]
def jc (j:JS×X):List X:=(jca j).toList
theorem zgm {ps:List Pl} {i:Nat} {p:Pl} (h:ps[i]?=V p):(jsP ps)[i]?=V (jsOf i p):=by
 unfold jsP;rw [List.getElem?_mapIdx,h];rfl
theorem zbC (ps:List Pl):(jsP ps).length=ps.length:=by simp [jsP]
def js0:Array X:=#[.string ⟨#[]⟩,I J 0 0,O Y 0,O Y 0,O Y 0,O Y 0,O Y 0,O Y 0,O Y 0,O C 0,O Y 0,O Y 0,O Y 0,O Y 0,O Y 0]
theorem zdK:(Tryz.prog.info? 127).map (fun i=>(i.zero,i.size,i.bytes))=V (V (M js0),15,144):=by kernel_rfl
theorem CellL.grown:∀{L:List (Addr×X)} {W W':Z} {row:Option Nat},CellL L W→W.grownBy W' row→(∀q∈L,V q.1.block≠row)→CellL L W'
 | [],_,_,_,_,_,_=>trivial
 | (a,v)::r,W,W',row,⟨h1,h2⟩,hg,hn=>by
  refine⟨?_,h2.grown hg (fun q hq=>hn q (mC _ hq))⟩;have hb:=World.block_lt_of_cell? _ _ h1;rw [←h1];unfold World.cell?;rw [hg.block _ hb (hn (a,v) (by simp))]
def SoS (w:Z) (base:Nat) (ps:List Pl) (g:Nat) (t3 t13:X) (W:Z):Prop:=
 ∃(i:Nat) (js:List (JS×X)),i≤ps.length∧t13=O Y i∧g=ps.length-i∧Ext w W∧base≤W.heap.size∧OwnC 127 15 W base t3 (js.map jc)∧js.map Prod.fst=(jsP ps).take i∧∀j∈js,IsPts w j.2 j.1.p.shape
def RetSt (w:Z) (ps:List Pl) (e:Ending) (w':Z):Prop:=∃(v:X) (js:List (JS×X)),e = .returned v∧OwnC 127 15 w' w.heap.size v (js.map jc)∧js.map Prod.fst=jsP ps∧(∀j∈js,IsPts w j.2 j.1.p.shape)∧Ext w w'
theorem zeM (w:Z) (vg vp:X) (ps:List Pl) (hg:∃a n c,vg=I a n c) (hp:IsPls w vp ps) (hgw:Gw w) (hok:∀p∈ps,placedOk p=true) (hn9:ps.length≤120) :
  Calls Tryz.prog 43 #[M #[vg,vp]] w (RetSt w ps):=by
 obtain⟨ga,gn,gc,rfl⟩:=hg;have Hpl:=hd9 (fun(W:Z) (hW:Ext w W)=>hp.ext' hW);have Hgw:=hd9 hgw;have Hok:=hd9 hok;obtain⟨pa,pn,pc1,rfl⟩:=form3 hp;have hpl:=hp.len;rw [←hpl]at hn9;have Hn:=hd9 hpl.symm;obtain⟨R,hR⟩:=gX (RetSt w ps);rw [hR];have HR:=hd9 hR;have Hp:=hd9 hp;clear hp hgw hok hpl hR;go_enter Tryz.func43,Tryz.ntmps43;go_wp2
 go_loopg [3,13] pn (SoS w w.heap.size ps)
 case atStart=>exact⟨0,[],by omega,rfl,by rw [Hn.out];rfl,eA,by simp,by simpa using OwnC.nil _ _ _ _,by simp,fun j hj=>by cases hj⟩
 case round =>
  obtain⟨i,js,hi,rfl,rfl,hx,hbs,hown,hjs,hjp⟩:=hrel;rw [Hn.out]at hi;obtain⟨va,vn,vc,rfl⟩:=hown.form3
  have hjl:js.length=i:=by
   have:=congrArg List.length hjs;rw [lL,List.length_take,zbC,Hn.out]at this;omega
  have Hlc:=hd9 (show (js.map jc).length≤120 by rw [lL,hjl];omega);have Hlt:=hd9 (fun j (h:(Value.slice va vn vc).ownBlock=V j)=>hown.lt j h);have Hown:=hd9 hown;have Hx:=hd9 hx;have Hjs:=hd9 hjs;have Hjp:=hd9 hjp
  by_cases hlt:i<pn
  ·obtain⟨p,hq⟩:∃q,ps[i]?=V q:=⟨ps[i]'(by rw [Hn.out];omega),by simp [Hn.out,hlt]⟩
   obtain⟨b,o,v,rfl,hb0,hvw,dk,hcw⟩:=Hp.out.at' hq;have hb:b<wr.heap.size:=Nat.lt_of_lt_of_le hb0 hx.size;have d1:IsPts wr v p.shape:=hvw.ext' hx;have hc:∀(j:Nat) u,(plc p v)[j]?=V u→wr.cell? ⟨b,o+i*10+j,J⟩=V u:=fun j u hj=>hx.cellS (hcw j u hj)
   clear hcw;have Hvw:=hd9 hvw;have HCo:=hd9 (fun W (hW:Ext wr W)=>zf0 W p v (d1.ext' hW) dk (Hgw.out.ext (hx.trans hW)));have hpk:=Hok.out p (lM hq);have Hpk:=hd9 hpk;obtain⟨sa1,sn1,sc1,rfl⟩:=form3 d1;have Hq:=hd9 hq;have cc0:=hc 0 (.string p.name) rfl;have cc1:=hc 1 (I sa1 sn1 sc1) rfl;have cc2:=hc 2 (O Y p.depth) rfl;have cc3:=hc 3 (O Y p.density) rfl;have cc4:=hc 4 (O Y p.gx) rfl;have cc5:=hc 5 (O Y p.gz) rfl;have cc6:=hc 6 (O Y p.way) rfl;have cc7:=hc 7 (O Y p.ax) rfl;have cc8:=hc 8 (O Y p.az) rfl;have cc9:=hc 9 (O C p.skin) rfl;simp only [Nat.add_zero]at cc0;unfold plc at HCo;clear hc hq hown hx hjs hjp d1 hvw hjl hpk
   go_wp2_with(go_at_call 78;(with_reducible refine(HCo.out _ ?_).mono ?_);exact eA;rintro e w5 (⟨h5,rfl,hx5⟩|⟨_,v5,rfl,hv5,hx5⟩);(focus(have:=Hpk.out;rw [h5]at this;cases this));obtain⟨a5,n5,c5,rfl⟩:=form3 hv5;obtain⟨hc5,hf5⟩:=hx5.cells)
   have X5:Ext wr w5:=eA;have K5:=hx5.heapS (aN wr (.cells #[.string p.name,I sa1 sn1 sc1,O Y p.depth,O Y p.density,O Y p.gx,O Y p.gz,O Y p.way,O Y p.ax,O Y p.az,O C p.skin] 46));have e0:=qcB K5 (i:=0) (u:=.string p.name) rfl;have e1:=qcB K5 (i:=1) (u:=I sa1 sn1 sc1) rfl;have e2:=qcB K5 (i:=2) (u:=O Y p.depth) rfl;have e3:=qcB K5 (i:=3) (u:=O Y p.density) rfl;have e4:=qcB K5 (i:=4) (u:=O Y p.gx) rfl;have e5:=qcB K5 (i:=5) (u:=O Y p.gz) rfl;have e6:=qcB K5 (i:=6) (u:=O Y p.way) rfl;have e7:=qcB K5 (i:=7) (u:=O Y p.ax) rfl;have e8:=qcB K5 (i:=8) (u:=O Y p.az) rfl;have e9:=qcB K5 (i:=9) (u:=O C p.skin) rfl;obtain⟨xl,hxl⟩:=gX ((arP Prod.fst (cornersP p)).1);obtain⟨xh,hxh⟩:=gX ((arP Prod.fst (cornersP p)).2);obtain⟨zl,hzl⟩:=gX ((arP Prod.snd (cornersP p)).1);obtain⟨zh,hzh⟩:=gX ((arP Prod.snd (cornersP p)).2);have HA1:=hd9 (fun W (hW:Ext w5 W)=>zf3 W (I a5 n5 c5) (cornersP p) (hv5.ext' hW));have HA2:=hd9 (fun W (hW:Ext w5 W)=>zf7 W (I a5 n5 c5) (cornersP p) (hv5.ext' hW));simp only [hxl,hxh,hzl,hzh]at HA1 HA2
   have hj:jc (jsOf i p,I sa1 sn1 sc1)=[.string p.name,I sa1 sn1 sc1,O Y p.depth,O Y p.density,O Y p.gx,O Y p.gz,O Y p.way,O Y p.ax,O Y p.az,O C p.skin,O Y i,O Y xl,O Y xh,O Y zl,O Y zh]:=by
    unfold jc jca jsOf;dsimp only;rw [hxl,hxh,hzl,hzh]
   have Hj:=hd9 hj;clear hxl hxh hzl hzh hv5 hj hc5 hf5;refine wp_region_held_drew (S:=CellL [(⟨wr.heap.size,0,J⟩,.string p.name),(⟨wr.heap.size,1,J⟩,I sa1 sn1 sc1),(⟨wr.heap.size,2,J⟩,O Y p.depth),(⟨wr.heap.size,3,J⟩,O Y p.density),(⟨wr.heap.size,4,J⟩,O Y p.gx),(⟨wr.heap.size,5,J⟩,O Y p.gz),(⟨wr.heap.size,6,J⟩,O Y p.way),(⟨wr.heap.size,7,J⟩,O Y p.ax),(⟨wr.heap.size,8,J⟩,O Y p.az),(⟨wr.heap.size,9,J⟩,O C p.skin)]) (by kernel_rfl) cA (fun h9H=>?_);refine sN 0 ?_
   iterate 5
    refine tkn ?_
   refine oN ?_;refine sN 6 ?_
   iterate 2
    refine tkn ?_
   refine oN ?_;refine cl1 (i:=5) fun K hK=>?_
   go_simp
   (with_reducible refine cM (HA1.out _ eA) ?_)
   rintro e w6 ⟨rfl,hx6⟩
   skip
   go_wp2_with fail
   refine kO hK (cE h9H hx6) (fun h9H=>?_);clear hK K;have X6:Ext w5 w6:=eA;refine cl1 (i:=8) fun K hK=>?_
   go_simp
   (with_reducible refine cM (HA2.out _ X6) ?_)
   rintro e w7 ⟨rfl,hx7⟩
   skip
   go_wp2_with fail
   refine kO hK (cE h9H hx7) (fun h9H=>?_);clear hK K;have X7:Ext w5 w7:=X6.trans hx7;refine tk1 (i:=9) ?_;refine cl1 (i:=10) fun K hK=>?_
   go_simp;refine kO hK (cE h9H ((eR _).alloc _)) (fun h9H=>?_);clear hK K;have hA:Ext wr (w7.alloc (.cells #[.string p.name,I sa1 sn1 sc1,O Y p.depth,O Y p.density,O Y p.gx,O Y p.gz,O Y p.way,O Y p.ax,O Y p.az,O C p.skin,O Y i,O Y xl,O Y xh,O Y zl,O Y zh] 127)):=(X5.trans X7).alloc _;refine cl1 (i:=11) fun K hK=>?_
   refine zbl (T:=127) (t:=111) (z:=M js0) (k:=15) (bytes:=144) (v:=I va vn vc) (base:=w.heap.size) zdK rfl (by decide) (by decide) Tryz.underlying111 rfl _ _ rfl rfl (cs:=js.map jc) (Hown.out.ext hA) (ad:=⟨w7.heap.size,0,J⟩) (m:=1) (c:=1) rfl [[.string p.name,I sa1 sn1 sc1,O Y p.depth,O Y p.density,O Y p.gx,O Y p.gz,O Y p.way,O Y p.ax,O Y p.az,O C p.skin,O Y i,O Y xl,O Y xh,O Y zl,O Y zh]] rfl (by simp) (by exact zaE w7 #[.string p.name,I sa1 sn1 sc1,O Y p.depth,O Y p.density,O Y p.gx,O Y p.gz,O Y p.way,O Y p.ax,O Y p.az,O C p.skin,O Y i,O Y xl,O Y xh,O Y zl,O Y zh] 127) (by simp [Value.oneCell']) (by have:=Hlc.out;omega) (by have:=hA.size;omega) ?_;intro v' w9 hown9 hgrow hlie;obtain⟨a9,n9,c9,rfl⟩:=hown9.form3;refine kO hK (CellL.grown h9H hgrow (fun q hq e=>?_)) (fun h9H=>?_)
   ·have h9:=(Hlt.out _ e.symm).2
    simp at hq
    rcases hq with rfl|rfl|rfl|rfl|rfl|rfl|rfl|rfl|rfl|rfl<;>(dsimp only at h9;omega)
   clear hK K;refine tk1 (i:=12) ?_;refine wpAnyH_done (by kernel_rfl) ?_ _;have hB:=zad (base:=w.heap.size) hgrow (by have:=hA.size;omega) (fun k hk=>(Hlt.out k hk).1);go_wp2
   go_roundg (pn-(i+1))
   case measure=>have:=Hn.out;omega
   case rel =>
    refine⟨i+1,js++[(jsOf i p,I sa1 sn1 sc1)],by rw [Hn.out];omega,by go_num,by rw [Hn.out],(Hx.out.trans hA).thenB hB (nE _),nT (nT hbs hA.size) hB.size,?_,?_,?_⟩
    ·rw [List.map_append,List.map_cons,List.map_nil,Hj.out];exact hown9
    ·rw [List.map_append,Hjs.out,zaa _ _ _ (zgm Hq.out)];rfl
    ·intro j hj
     rcases List.mem_append.1 hj with h|h
     ·exact Hjp.out j h
     ·rw [List.mem_singleton.1 h];exact Hvw.out
  ·obtain rfl:i=pn:=by omega
   have e:(jsP ps).take i=jsP ps:=lT (by rw [zbC,Hn.out];exact nE _);rw [e]at hjs;go_wp2;rw [←HR.out];exact⟨_,js,rfl,hown,hjs,hjp,hx⟩
def PI (_:Z) (c:List X) (z:Int):Prop:=c=[O Y z]
abbrev IsIs (w:Z) (v:X) (zs:List Int):Prop:=Sl 3 1 PI w v zs
theorem IsIs.ext' {w w':Z} {v:X} {zs:List Int} (h:IsIs w v zs) (k:Ext w w'):IsIs w' v zs:=Sl.ext h (fun _ _ h=>h) k
theorem IsIs.at' {w:Z} {a:Option Addr} {n c:Nat} {zs:List Int} (h:IsIs w (I a n c) zs) {i:Nat} {z:Int} (hz:zs[i]?=V z) :
  ∃b o,a=V ⟨b,o,J⟩∧b<w.heap.size∧w.cell? ⟨b,o+i,J⟩=V (O Y z):=by
 obtain⟨b,o,d,rfl,hb,hl,rfl,hc⟩:=Sl.at h hz;have:=hc 0 _ rfl;rw [Nat.mul_one,Nat.add_zero]at this;exact⟨b,o,rfl,hb,this⟩
theorem OwnC.is {w:Z} {base:Nat} {v:X} {zs:List Int} (h:OwnC 3 1 w base v (zs.map ic)):IsIs w v zs:=
 OwnC.sl h (by simp) (fun i c x hc hx=>by
  rw [lP,hx]at hc
  cases hc;rfl)
def IiS (w:Z) (f:Int→Bool) (zs:List Int) (g:Nat) (t8:X) (W:Z):Prop:=
 ∃i:Nat,i≤zs.length∧t8=O Y i∧g=zs.length-i∧Ext w W∧∀j y,j<i→zs[j]?=V y→f y=false
def outB (lo hi:Int) (j:JS):Bool:=j.p.skin != 3 || !decide (max j.z.1 lo<min j.z.2 hi)
def IjS (w:Z) (f:JS→Bool) (js:List (JS×X)) (g:Nat) (t8:X) (W:Z):Prop:=
 ∃i:Nat,i≤js.length∧t8=O Y i∧g=js.length-i∧Ext w W∧∀j y,j<i→js[j]?=V y→f y.1=false
theorem zlM (w:Z) (b:Int) (o o':Obj):(((w.alloc o).alloc (.cells #[O Y b] 3)).alloc o').heap[w.heap.size+1]?=V (.cells #[O Y b] 3 (0,0)):=by
 rw [zae,if_neg (by simp)];exact qhA _ _ _ (by simp)
theorem zfl (w:Z) (z:Int):Calls Tryz.prog 41 #[O Y z] w fun e w'=>e = .returned (.bool (pfarB z))∧Ext w w':=by
 unfold pfarB
 by_cases h:z < -100000
 ·go_enter Tryz.func41,Tryz.ntmps41
  go_wp2;go_ret;exact⟨by simp [h],eA⟩
 ·go_enter Tryz.func41,Tryz.ntmps41
  go_wp2;go_ret;exact⟨by simp;omega,eA⟩
theorem zjS (w:Z) (v:X) (zs:List Int) (h:IsIs w v zs) :
  Calls Tryz.prog 77 #[v,.func (.func 41) #[] #[]] w fun e w'=>e = .returned (O Y (idxB pfarB zs))∧Ext w w':=by
 obtain⟨a,c,rfl⟩:=h.form;obtain⟨n,hn⟩:=gX zs.length;rw [hn]at h ⊢;have hle:=h.le;unfold maxLen at hle;have hnc:n≤9223372036854775807:=by omega
 have Hn:=hd9 hn;clear hn hle;go_enter Tryz.func77,Tryz.ntmps77;go_wp2
 go_loopg [8] n (IiS w pfarB zs)
 case atStart=>exact⟨0,by omega,rfl,by rw [Hn.out];rfl,eR _,fun j y hj=>by omega⟩
 case round =>
  obtain⟨i,hi,rfl,rfl,hx,hall⟩:=hrel;rw [Hn.out]at hi;have Hall:=hd9 hall;clear hall
  by_cases hlt:i<n
  ·obtain⟨z,hq⟩:∃q,zs[i]?=V q:=⟨zs[i]'(by rw [Hn.out];omega),by simp [Hn.out,hlt]⟩
   obtain⟨b,o,rfl,hb,d0⟩:=(h.ext' hx).at' hq;have Hq:=hd9 hq;obtain⟨fz,hf⟩:=gX (pfarB z);have Hf:=hd9 hf;clear hq hf
   cases fz with
   | true =>
    have e:idxB pfarB zs=(i:Int):=zaC Hq.out Hf.out Hall.out;have E:=hd9 e;clear e
    go_wp2_with(((go_at_call 41;(with_reducible refine(zfl _ z).mono ?_);rw [Hf.out];rintro e w1 ⟨rfl,hx1⟩)))
    go_ret;exact⟨by rw [E.out];rfl,eA⟩
   | false =>
    go_wp2_with(((go_at_call 41;(with_reducible refine(zfl _ z).mono ?_);rw [Hf.out];rintro e w1 ⟨rfl,hx1⟩)))
    go_roundg (n-(i+1))
    case measure=>have:=Hn.out;omega
    case rel =>
     refine⟨i+1,by have:=Hn.out;omega,by go_num,by rw [Hn.out],eA,fun j y hj hy=>?_⟩
     by_cases hji:j=i
     ·subst hji;rw [Hq.out]at hy;cases hy;exact Hf.out
     ·exact Hall.out j y (by omega) hy
  ·obtain rfl:i=n:=by omega
   have e:idxB pfarB zs = -1:=zaB (fun j y hj hy=>Hall.out j y (by rw [Hn.out]at hj;exact hj) hy);have E:=hd9 e;clear e;go_wp2;go_ret;exact⟨by rw [E.out];rfl,hx⟩
theorem zfo (w:Z) (v:X) (zs:List Int) (h:IsIs w v zs) :
  Calls Tryz.prog 42 #[v,.func (.func 41) #[] #[]] w fun e w'=>e = .returned (.bool (zs.any pfarB))∧Ext w w':=by
 rw [←zbo];obtain⟨x,hx⟩:=gX (idxB pfarB zs);have hc:=fun W (hW:Ext w W)=>zjS W v zs (h.ext' hW)
 obtain⟨a,n,c,rfl⟩:=form3 h;simp only [hx]at hc ⊢;have Hc:=hd9 hc;clear hc hx h;go_enter Tryz.func42,Tryz.ntmps42
 go_wp2_with(((go_at_call 77;(with_reducible refine(Hc.out _ ?_).mono ?_);exact eA;rintro e w1 ⟨rfl,hx1⟩)))
 go_ret;exact⟨rfl,eA⟩
theorem ziQ (w:Z) (j:JS×X) (lo hi:Int) (b1 b2:Nat) (h1:w.cell? ⟨b1,0,J⟩=V (O Y lo)) (h2:w.cell? ⟨b2,0,J⟩=V (O Y hi)) :
  Calls Tryz.prog 45 #[M (jca j),N (V ⟨b1,0,J⟩),N (V ⟨b2,0,J⟩)] w fun e w'=>e = .returned (.bool (outB lo hi j.1))∧Ext w w':=by
 obtain⟨⟨⟨nm,sh,d,de,gx,gz,wy,ax,az,sk⟩,k,⟨xl,xh⟩,zl,zh⟩,v⟩:=j;have z1:b1<w.heap.size:=World.block_lt_of_cell? w _ h1;have z2:b2<w.heap.size:=World.block_lt_of_cell? w _ h2;have z3:b1<w.heap.size+1:=by omega
 have z4:b2<w.heap.size+1:=by omega
 unfold outB jca;dsimp only
 by_cases h3:sk=3
 ·have e1:(sk != 3)=false:=by simp [h3]
  rw [e1];clear h3;go_enter Tryz.func45,Tryz.ntmps45
  go_wp2_with(go_at_call 46;(with_reducible refine(zbq _ zl zh lo hi).mono ?_);rintro e w3 ⟨rfl,hx3⟩)
  go_ret;exact⟨by simp,eA⟩
 ·have e1:(sk != 3)=true:=by simpa using h3
  rw [e1];clear h3;go_enter Tryz.func45,Tryz.ntmps45;go_wp2;go_ret;exact⟨rfl,eA⟩
def PJ (_:Z) (c:List X) (j:JS×X):Prop:=c=jc j
abbrev IsJs (w:Z) (v:X) (js:List (JS×X)):Prop:=Sl 127 15 PJ w v js
theorem IsJs.ext' {w w':Z} {v:X} {js:List (JS×X)} (h:IsJs w v js) (k:Ext w w'):IsJs w' v js:=Sl.ext h (fun _ _ h=>h) k
theorem IsJs.at' {w:Z} {a:Option Addr} {n c:Nat} {js:List (JS×X)} (h:IsJs w (I a n c) js) {i:Nat} {j:JS×X} (hj:js[i]?=V j) :
  ∃b o,a=V ⟨b,o,J⟩∧b<w.heap.size∧∀(m:Nat) u,(jca j)[m]?=V u→w.cell? ⟨b,o+i*15+m,J⟩=V u:=by
 obtain⟨b,o,d,rfl,hb,hl,rfl,hc⟩:=Sl.at h hj;exact⟨b,o,rfl,hb,fun m u hm=>hc m u (by unfold jc;rw [Array.getElem?_toList];exact hm)⟩
theorem OwnC.js {w:Z} {base:Nat} {v:X} {js:List (JS×X)} (h:OwnC 127 15 w base v (js.map jc)):IsJs w v js:=
 OwnC.sl h (by simp) (fun i c x hc hx=>by
  rw [lP,hx]at hc
  cases hc;rfl)
def setL (w:Z) (g o:Nat):List X→Z
 | []=>w
 | u::us=>setL (w.setCell ⟨g,o,J⟩ u) g (o+1) us
theorem OwnC.putAll {T:TypeId} {k base g n c i:Nat}:∀{us:List X} {w:Z} {cs:List (List X)} {d:List X} {j:Nat},OwnC T k w base (I (V ⟨g,0,J⟩) n c) cs→cs[i]?=V d→j+us.length=k →
  OwnC T k (setL w g (i*k+j) us) base (I (V ⟨g,0,J⟩) n c) (cs.set i (d.take j++us))
 | [],w,cs,d,j,h,hd,hj=>by
  have hl:=h.1 d (lM hd);have hi:=(lS.1 hd).1
  have e:cs.set i (d.take j++[])=cs:=by
   rw [List.append_nil,lT (by simp at hj;omega)];rw [←(lS.1 hd).2];exact List.set_getElem_self hi
  rw [e];exact h
 | u::us,w,cs,d,j,h,hd,hj=>by
  have hl:=h.1 d (lM hd);have hi:=(lS.1 hd).1;have hj2:j<k:=by simp at hj;omega
  have h2:=OwnC.putAll (us:=us) (j:=j+1) (d:=d.set j u) (h.stored hd hj2 u) (by rw [List.getElem?_set_self hi]) (by simp at hj;omega)
  have e:(cs.set i (d.set j u)).set i ((d.set j u).take (j+1)++us)=cs.set i (d.take j++u::us):=by
   rw [List.set_set,zaa _ _ u (by rw [List.getElem?_set_self (by omega)]),List.take_set_of_le (nE _),List.append_assoc];rfl
  rw [e]at h2;exact h2
theorem zdb {g:Nat}:∀{us:List X} {o:Nat} {w w0:Z},w0.grownBy w (V g)→w0.grownBy (setL w g o us) (V g)
 | [],_,_,_,h=>h
 | u::us,o,w,w0,h=>by unfold setL;exact zdb (us:=us) (zaK h _ _)
def DlL {α:Type} (f:α→Bool) (js:List α) (m c:Nat) (ys:List α):Prop:=
 ys.length=js.length∧c<m∧m≤js.length∧ys.take c=(js.take m).filter (fun x=>!f x)∧∀j,m≤j→ys[j]?=js[j]?
theorem DlL.start {α:Type} {f:α→Bool} {js:List α} {i:Nat} {x:α} (hx:js[i]?=V x) (hf:f x=true) (hn:∀j y,j<i→js[j]?=V y→f y=false):DlL f js (i+1) i js:=by
 have hi:=(lS.1 hx).1;refine⟨rfl,by omega,by omega,?_,fun _ _=>rfl⟩;rw [zaa _ _ _ hx,List.filter_append]
 have e1:(js.take i).filter (fun x=>!f x)=js.take i:=by
  rw [List.filter_eq_self];intro a ha;obtain⟨j,hj⟩:=List.mem_iff_getElem?.1 ha;have hj2:=(lS.1 hj).1;rw [List.length_take]at hj2;rw [List.getElem?_take_of_lt (by omega)]at hj;simp [hn j a (by omega) hj]
 rw [e1];simp [hf]
theorem DlL.drop {α:Type} {f:α→Bool} {js ys:List α} {m c:Nat} {x:α} (h:DlL f js m c ys) (hx:js[m]?=V x) (hf:f x=true):DlL f js (m+1) c ys:=by
 obtain⟨h1,h2,h3,h4,h5⟩:=h;have hi:=(lS.1 hx).1;refine⟨h1,by omega,by omega,?_,fun j hj=>h5 j (by omega)⟩;rw [zaa _ _ _ hx,List.filter_append,h4];simp [hf]
theorem DlL.keep {α:Type} {f:α→Bool} {js ys:List α} {m c:Nat} {x:α} (h:DlL f js m c ys) (hx:js[m]?=V x) (hf:f x=false):DlL f js (m+1) (c+1) (ys.set c x):=by
 obtain⟨h1,h2,h3,h4,h5⟩:=h;have hi:=(lS.1 hx).1;refine⟨by rw [List.length_set];exact h1,by omega,by omega,?_,fun j hj=>by rw [List.getElem?_set_ne (by omega)];exact h5 j (by omega)⟩;rw [zaa _ _ _ hx,List.filter_append,←h4,zaa _ _ _ (show (ys.set c x)[c]?=V x by rw [List.getElem?_set_self (by omega)]),List.take_set_of_le (nE _)];simp [hf]
theorem DlL.done {α:Type} {f:α→Bool} {js ys:List α} {c:Nat} (h:DlL f js js.length c ys):ys.take c=js.filter (fun x=>!f x):=by
 rw [h.2.2.2.1,List.take_length]
theorem zlN (w:Z) (v:X) (js:List (JS×X)) (b1 b2:Nat) (f:JS→Bool) (h:IsJs w v js)
  (hf:∀W,Ext w W→∀j∈js,Calls Tryz.prog 45 #[M (jca j),N (V ⟨b1,0,J⟩),N (V ⟨b2,0,J⟩)] W fun e w'=>e = .returned (.bool (f j.1))∧Ext W w') :
  Calls Tryz.prog 82 #[v,.func (.func 45) #[] #[N (V ⟨b1,0,J⟩),N (V ⟨b2,0,J⟩)]] w fun e w'=>e = .returned (O Y (idxB (fun j=>f j.1) js))∧Ext w w':=by
 obtain⟨a,c,rfl⟩:=h.form;obtain⟨n,hn⟩:=gX js.length;rw [hn]at h ⊢;have hle:=h.le;unfold maxLen at hle;have hnc:n≤9223372036854775807:=by omega
 have Hn:=hd9 hn;have Hf:=hd9 hf;clear hn hle hf;go_enter Tryz.func82,Tryz.ntmps82;go_wp2
 go_loopg [8] n (IjS w f js)
 case atStart=>exact⟨0,by omega,rfl,by rw [Hn.out];rfl,eR _,fun j y hj=>by omega⟩
 case round =>
  obtain⟨i,hi,rfl,rfl,hx,hall⟩:=hrel;rw [Hn.out]at hi;have Hall:=hd9 hall;clear hall
  by_cases hlt:i<n
  ·obtain⟨⟨⟨⟨nm,sh,d,de,gx,gz,wy,ax,az,sk⟩,k,⟨xl,xh⟩,zl,zh⟩,v⟩,hq⟩:∃q,js[i]?=V q:=⟨js[i]'(by rw [Hn.out];omega),by simp [Hn.out,hlt]⟩
   obtain⟨b,o,rfl,hb,hc⟩:=(h.ext' hx).at' hq;have HC:=hd9 (fun W (hW:Ext wr W)=>Hf.out W (hx.trans hW) _ (lM hq));obtain⟨fp,f7⟩:=gX (f ⟨⟨nm,sh,d,de,gx,gz,wy,ax,az,sk⟩,k,⟨xl,xh⟩,zl,zh⟩);rw [f7]at HC;have F7:=hd9 f7;unfold jca at hc HC;dsimp only at hc HC;have cc0:=hc 0 (.string nm) rfl;have cc1:=hc 1 v rfl;have cc2:=hc 2 (O Y d) rfl;have cc3:=hc 3 (O Y de) rfl;have cc4:=hc 4 (O Y gx) rfl;have cc5:=hc 5 (O Y gz) rfl;have cc6:=hc 6 (O Y wy) rfl;have cc7:=hc 7 (O Y ax) rfl;have cc8:=hc 8 (O Y az) rfl;have cc9:=hc 9 (O C sk) rfl;have cc10:=hc 10 (O Y k) rfl;have cc11:=hc 11 (O Y xl) rfl;have cc12:=hc 12 (O Y xh) rfl;have cc13:=hc 13 (O Y zl) rfl;have cc14:=hc 14 (O Y zh) rfl;simp only [Nat.add_zero]at cc0;have Hq:=hd9 hq;clear hq hc f7
   cases fp with
   | true =>
    have e:idxB (fun j:JS×X=>f j.1) js=(i:Int):=zaC Hq.out F7.out Hall.out;have E:=hd9 e;clear e
    go_wp2_with(((go_at_call 45;(with_reducible refine(HC.out _ ?_).mono ?_);exact eA;rintro e w1 ⟨rfl,hx1⟩)))
    go_ret;exact⟨by rw [E.out];rfl,eA⟩
   | false =>
    go_wp2_with(((go_at_call 45;(with_reducible refine(HC.out _ ?_).mono ?_);exact eA;rintro e w1 ⟨rfl,hx1⟩)))
    go_roundg (n-(i+1))
    case measure=>have:=Hn.out;omega
    case rel =>
     refine⟨i+1,by have:=Hn.out;omega,by go_num,by rw [Hn.out],eA,fun j y hj hy=>?_⟩
     by_cases hji:j=i
     ·subst hji;rw [Hq.out]at hy;cases hy;exact F7.out
     ·exact Hall.out j y (by omega) hy
  ·obtain rfl:i=n:=by omega
   have e:idxB (fun j:JS×X=>f j.1) js = -1:=zaB (fun j y hj hy=>Hall.out j y (by rw [Hn.out]at hj;exact hj) hy);have E:=hd9 e;clear e;go_wp2;go_ret;exact⟨by rw [E.out];rfl,hx⟩
structure Ru where
 skin:Int
 pin:Int
 wide:Int
 lap:Int
 step:Int
 run:Int
 level:Int
def ruc (r:Ru):Array X:=#[O C r.skin,O Y r.pin,O Y r.wide,O Y r.lap,O Y r.step,O Y r.run,O Y r.level]
def oddR (n:Int):Bool:=decide (n<0) || decide (10000<n)
def rulesE (r:Ru):Int:=if (r.skin != 1&&r.skin != 2)=true then 2 else if r.pin<0 then 2 else if 50<r.pin then 2 else if [r.wide,r.lap,r.step,r.run,r.level].any oddR=true then 2 else 0
theorem zhg (w:Z) (z:Int):Calls Tryz.prog 85 #[O Y z] w fun e w'=>e = .returned (.bool (oddR z))∧Ext w w':=by
 unfold oddR
 by_cases h:z<0
 ·go_enter Tryz.func85,Tryz.ntmps85
  go_wp2;go_ret;exact⟨by simp [h],eA⟩
 ·go_enter Tryz.func85,Tryz.ntmps85
  go_wp2;go_ret;exact⟨by simp;omega,eA⟩
theorem zjU (w:Z) (v:X) (zs:List Int) (h:IsIs w v zs) :
  Calls Tryz.prog 77 #[v,.func (.func 85) #[] #[]] w fun e w'=>e = .returned (O Y (idxB oddR zs))∧Ext w w':=by
 obtain⟨a,c,rfl⟩:=h.form;obtain⟨n,hn⟩:=gX zs.length;rw [hn]at h ⊢;have hle:=h.le;unfold maxLen at hle;have hnc:n≤9223372036854775807:=by omega
 have Hn:=hd9 hn;clear hn hle;go_enter Tryz.func77,Tryz.ntmps77;go_wp2
 go_loopg [8] n (IiS w oddR zs)
 case atStart=>exact⟨0,by omega,rfl,by rw [Hn.out];rfl,eR _,fun j y hj=>by omega⟩
 case round =>
  obtain⟨i,hi,rfl,rfl,hx,hall⟩:=hrel;rw [Hn.out]at hi;have Hall:=hd9 hall;clear hall
  by_cases hlt:i<n
  ·obtain⟨z,hq⟩:∃q,zs[i]?=V q:=⟨zs[i]'(by rw [Hn.out];omega),by simp [Hn.out,hlt]⟩
   obtain⟨b,o,rfl,hb,d0⟩:=(h.ext' hx).at' hq;have Hq:=hd9 hq;obtain⟨fz,hf⟩:=gX (oddR z);have Hf:=hd9 hf;clear hq hf
   cases fz with
   | true =>
    have e:idxB oddR zs=(i:Int):=zaC Hq.out Hf.out Hall.out;have E:=hd9 e;clear e
    go_wp2_with(((go_at_call 85;(with_reducible refine(zhg _ z).mono ?_);rw [Hf.out];rintro e w1 ⟨rfl,hx1⟩)))
    go_ret;exact⟨by rw [E.out];rfl,eA⟩
   | false =>
    go_wp2_with(((go_at_call 85;(with_reducible refine(zhg _ z).mono ?_);rw [Hf.out];rintro e w1 ⟨rfl,hx1⟩)))
    go_roundg (n-(i+1))
    case measure=>have:=Hn.out;omega
    case rel =>
     refine⟨i+1,by have:=Hn.out;omega,by go_num,by rw [Hn.out],eA,fun j y hj hy=>?_⟩
     by_cases hji:j=i
     ·subst hji;rw [Hq.out]at hy;cases hy;exact Hf.out
     ·exact Hall.out j y (by omega) hy
  ·obtain rfl:i=n:=by omega
   have e:idxB oddR zs = -1:=zaB (fun j y hj hy=>Hall.out j y (by rw [Hn.out]at hj;exact hj) hy);have E:=hd9 e;clear e;go_wp2;go_ret;exact⟨by rw [E.out];rfl,hx⟩
theorem zcd (w:Z) (v:X) (zs:List Int) (h:IsIs w v zs) :
  Calls Tryz.prog 42 #[v,.func (.func 85) #[] #[]] w fun e w'=>e = .returned (.bool (zs.any oddR))∧Ext w w':=by
 rw [←zbo];obtain⟨x,hx⟩:=gX (idxB oddR zs);have hc:=fun W (hW:Ext w W)=>zjU W v zs (h.ext' hW)
 obtain⟨a,n,c,rfl⟩:=form3 h;simp only [hx]at hc ⊢;have Hc:=hd9 hc;clear hc hx h;go_enter Tryz.func42,Tryz.ntmps42
 go_wp2_with(((go_at_call 77;(with_reducible refine(Hc.out _ ?_).mono ?_);exact eA;rintro e w1 ⟨rfl,hx1⟩)))
 go_ret;exact⟨rfl,eA⟩
theorem zdM (W:Z) {k:Nat} (hk:k=W.heap.size) (x y z u v:Int):IsIs (W.alloc (.cells #[O Y x,O Y y,O Y z,O Y u,O Y v] 3)) (I (V ⟨k,0,J⟩) 5 5) [x,y,z,u,v]:=by
 subst hk;refine⟨[[O Y x],[O Y y],[O Y z],[O Y u],[O Y v]],rfl,by simp,⟨by simp,V ⟨W.heap.size,0,J⟩,5,rfl,nE _,by unfold maxLen;omega,.inr ⟨W.heap.size,0,_,(0,0),rfl,aN _ _,?_⟩⟩,?_⟩
 ·intro i v hv
  simpa using hv
 ·intro i c v hc hv
  match i,hc,hv with
  | 0,hc,hv=>simp at hc hv;subst hc hv;rfl
  | 1,hc,hv=>simp at hc hv;subst hc hv;rfl
  | 2,hc,hv=>simp at hc hv;subst hc hv;rfl
  | 3,hc,hv=>simp at hc hv;subst hc hv;rfl
  | 4,hc,hv=>simp at hc hv;subst hc hv;rfl
  | i+5,hc,hv=>simp at hc
theorem zkF (w:Z) (r:Ru) (h:(r.skin != 1&&r.skin != 2)=true) :
  Calls Tryz.prog 51 #[M (ruc r)] w fun e w'=>e = .returned (O Y (rulesE r))∧Ext w w':=by
 have e:rulesE r=2:=by unfold rulesE;rw [if_pos h]
 rw [e];clear e;obtain⟨sk,pin,wide,lap,step,run,level⟩:=r;unfold ruc;dsimp only at h ⊢;rw [Bool.and_eq_true]at h;obtain⟨h1,h2⟩:=h;have g1:(sk==1)=false:=by simpa using h1
 have g2:(sk==2)=false:=by simpa using h2
 go_enter Tryz.func51,Tryz.ntmps51;go_wp2;go_ret;exact⟨rfl,eA⟩
theorem zgz (w:Z) (pin wide lap step run level:Int) :
  Calls Tryz.prog 51 #[M #[O C 1,O Y pin,O Y wide,O Y lap,O Y step,O Y run,O Y level]] w fun e w'=>e = .returned (O Y (rulesE ⟨1,pin,wide,lap,step,run,level⟩))∧Ext w w':=by
 obtain⟨x,hx⟩:=gX (rulesE ⟨1,pin,wide,lap,step,run,level⟩);rw [hx];have e0:rulesE ⟨1,pin,wide,lap,step,run,level⟩=if pin<0 then 2 else if 50<pin then 2 else if [wide,lap,step,run,level].any oddR=true then 2 else 0:=rfl
 by_cases c1:pin<0
 ·rw [e0,if_pos c1]at hx
  subst hx;clear e0;go_enter Tryz.func51,Tryz.ntmps51;go_wp2;go_ret;exact⟨rfl,eA⟩
 by_cases c2:50<pin
 ·rw [e0,if_neg c1,if_pos c2]at hx
  subst hx;clear e0;go_enter Tryz.func51,Tryz.ntmps51;go_wp2;go_ret;exact⟨rfl,eA⟩
 rw [e0,if_neg c1,if_neg c2]at hx;clear e0;obtain⟨b,hb⟩:=gX ([wide,lap,step,run,level].any oddR);rw [hb]at hx;have HB:=hd9 hb;clear hb
 cases b with
 | true =>
  rw [if_pos rfl]at hx;subst hx;go_enter Tryz.func51,Tryz.ntmps51
  go_wp2_with(go_at_call 42;(with_reducible refine(zcd _ (I (V ⟨w.heap.size+1,0,J⟩) 5 5) [wide,lap,step,run,level] (zdM _ (by simp) wide lap step run level)).mono ?_);rw [HB.out];rintro e w4 ⟨rfl,hx4⟩)
  go_ret;exact⟨rfl,eA⟩
 | false =>
  rw [if_neg (by decide)]at hx;subst hx;go_enter Tryz.func51,Tryz.ntmps51
  go_wp2_with(go_at_call 42;(with_reducible refine(zcd _ (I (V ⟨w.heap.size+1,0,J⟩) 5 5) [wide,lap,step,run,level] (zdM _ (by simp) wide lap step run level)).mono ?_);rw [HB.out];rintro e w4 ⟨rfl,hx4⟩)
  go_ret;exact⟨rfl,eA⟩
theorem zij (w:Z) (pin wide lap step run level:Int) :
  Calls Tryz.prog 51 #[M #[O C 2,O Y pin,O Y wide,O Y lap,O Y step,O Y run,O Y level]] w fun e w'=>e = .returned (O Y (rulesE ⟨2,pin,wide,lap,step,run,level⟩))∧Ext w w':=by
 obtain⟨x,hx⟩:=gX (rulesE ⟨2,pin,wide,lap,step,run,level⟩);rw [hx];have e0:rulesE ⟨2,pin,wide,lap,step,run,level⟩=if pin<0 then 2 else if 50<pin then 2 else if [wide,lap,step,run,level].any oddR=true then 2 else 0:=rfl
 by_cases c1:pin<0
 ·rw [e0,if_pos c1]at hx
  subst hx;clear e0;go_enter Tryz.func51,Tryz.ntmps51;go_wp2;go_ret;exact⟨rfl,eA⟩
 by_cases c2:50<pin
 ·rw [e0,if_neg c1,if_pos c2]at hx
  subst hx;clear e0;go_enter Tryz.func51,Tryz.ntmps51;go_wp2;go_ret;exact⟨rfl,eA⟩
 rw [e0,if_neg c1,if_neg c2]at hx;clear e0;obtain⟨b,hb⟩:=gX ([wide,lap,step,run,level].any oddR);rw [hb]at hx;have HB:=hd9 hb;clear hb
 cases b with
 | true =>
  rw [if_pos rfl]at hx;subst hx;go_enter Tryz.func51,Tryz.ntmps51
  go_wp2_with(go_at_call 42;(with_reducible refine(zcd _ (I (V ⟨w.heap.size+1,0,J⟩) 5 5) [wide,lap,step,run,level] (zdM _ (by simp) wide lap step run level)).mono ?_);rw [HB.out];rintro e w4 ⟨rfl,hx4⟩)
  go_ret;exact⟨rfl,eA⟩
 | false =>
  rw [if_neg (by decide)]at hx;subst hx;go_enter Tryz.func51,Tryz.ntmps51
  go_wp2_with(go_at_call 42;(with_reducible refine(zcd _ (I (V ⟨w.heap.size+1,0,J⟩) 5 5) [wide,lap,step,run,level] (zdM _ (by simp) wide lap step run level)).mono ?_);rw [HB.out];rintro e w4 ⟨rfl,hx4⟩)
  go_ret;exact⟨rfl,eA⟩
theorem zfQ (w:Z) (r:Ru):Calls Tryz.prog 51 #[M (ruc r)] w fun e w'=>e = .returned (O Y (rulesE r))∧Ext w w':=by
 by_cases h:(r.skin != 1&&r.skin != 2)=true
 ·exact zkF w r h
 ·obtain⟨sk,pin,wide,lap,step,run,level⟩:=r
  rw [Bool.and_eq_true]at h
  by_cases h1:sk=1
  ·subst h1;exact zgz w pin wide lap step run level
  ·by_cases h2:sk=2
   ·subst h2;exact zij w pin wide lap step run level
   ·exact absurd (by dsimp only;simp [h1,h2]) h
end
end Go.Proofs.YteipgejmhfpkaaaGreatDoor.Cop
