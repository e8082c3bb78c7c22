/- Part 40: contracts of what the law calls. -/
import Derived.Test.YteipgejmhfpkaaaGreatDoorCopA38
import Derived.Laws.StructEq
set_option maxRecDepth 1000000
set_option maxHeartbeats 16000000
set_option linter.unusedSimpArgs false
set_option linter.unusedVariables false
open Go.Value renaming int→O,slice→M,pointer→N
open Go.IntKind renaming i64→Y
open Option renaming none→Z,some→V
open Go renaming World→X,Value→I,Act→E
namespace Go.Proofs.YteipgejmhfpkaaaGreatDoor.Cop
section
open Go.RowKit Go.Shelf Go.Sort Go.Lib
attribute [local go_sem] Oper.semAt_some
def mwQ (d q:Int×Int):Int×Int:=(wrap64 (q.1+d.1),wrap64 (q.2+d.2))
def mwP (d:Int×Int) (p:Pl):Pl:={ p with ax:=wrap64 (p.ax+d.1),az:=wrap64 (p.az+d.2) }
def partL {α:Type} (f:α→α) (i:Nat) (l:List α):List α:=(l.take i).map f++l.drop i
theorem zfI {α:Type} (f:α→α) (i:Nat) (l:List α):(partL f i l).length=l.length:=by
 unfold partL;rw [lA,lL,←lA,List.take_append_drop]
theorem zhi {α:Type} (f:α→α) {i:Nat} {l:List α} {x:α} (h:l[i]?=V x):(partL f i l)[i]?=V x:=by
 have hi:=(lS.1 h).1;have hl:((l.take i).map f).length=i:=by rw [lL,List.length_take];omega
 unfold partL;rw [List.getElem?_append_right (by omega),hl,Nat.sub_self,List.getElem?_drop,Nat.add_zero];exact h
theorem zeE {α:Type} (f:α→α) {i:Nat} {l:List α} {x:α} (h:l[i]?=V x):(partL f i l).set i (f x)=partL f (i+1) l:=by
 have hi:=(lS.1 h).1;have hl:((l.take i).map f).length=i:=by rw [lL,List.length_take];omega
 have hx:l[i]=x:=(lS.1 h).2;unfold partL;rw [List.set_append_right _ _ (by omega),hl,Nat.sub_self,List.drop_eq_getElem_cons hi,List.set_cons_zero,zaa _ _ _ h,List.map_append,List.append_assoc];rfl
theorem OwnPlA.len {w:X} {base L n c:Nat} {a:Option Addr} {ps:List Pl} (h:OwnPlA w base L (M a n c) ps):n=ps.length:=by
 obtain⟨cs,h1,h2,_⟩:=h;rw [←h2];exact h1.len
theorem OwnPlA.blk {w:X} {base L n c:Nat} {a:Option Addr} {ps:List Pl} (h:OwnPlA w base L (M a n c) ps) (hn:0<ps.length):∃g,a=V ⟨g,0,Z⟩∧base≤g∧g<w.heap.size:=by
 obtain⟨cs,h1,h2,_⟩:=h;exact h1.blk (by omega)
theorem OwnPlA.frozen {w:X} {base L g n c:Nat} {ps:List Pl} (h:OwnPlA w base L (M (V ⟨g,0,Z⟩) n c) ps) (i:Nat):w.frozen? ⟨g,i,Z⟩=false:=by
 obtain⟨cs,h1,_⟩:=h;exact h1.frozen i
theorem OwnPlA.ne_blk {T':TypeId} {w:X} {base L:Nat} {v:I} {ps:List Pl} (h:OwnPlA w base L v ps) {b:Nat} {c:Array I} {fr:Nat×Nat} (hk:w.heap[b]?=V (.cells c T' fr)) (hT:T'≠46):v.ownBlock≠V b:=by
 obtain⟨cs,h1,_⟩:=h;exact h1.ne_blkD hk hT
theorem OwnPlA.place {w:X} {base L g n c k:Nat} {ps:List Pl} {p:Pl} (h:OwnPlA w base L (M (V ⟨g,0,Z⟩) n c) ps) (hk:ps[k]?=V p):w.cell? ⟨g,k*10+7,Z⟩=V (O Y p.ax)∧w.cell? ⟨g,k*10+8,Z⟩=V (O Y p.az):=by
 obtain⟨cs,h1,h2,h3,_⟩:=h;have hkl:=(lS.1 hk).1;obtain⟨d,hd⟩:∃d,cs[k]?=V d:=⟨cs[k]'(by omega),by simp [h2,hkl]⟩;obtain⟨v,rfl,hv,hs⟩:=h3 k d p hd hk;exact⟨h1.cell hd rfl,h1.cell hd rfl⟩
theorem OwnPlA.put {w:X} {base L g n c k:Nat} {ps:List Pl} {p:Pl} (h:OwnPlA w base L (M (V ⟨g,0,Z⟩) n c) ps) (hk:ps[k]?=V p) (x z:Int) :
  OwnPlA ((w.setCell ⟨g,k*10+7,Z⟩ (O Y x)).setCell ⟨g,k*10+8,Z⟩ (O Y z)) base L (M (V ⟨g,0,Z⟩) n c) (ps.set k { p with ax:=x,az:=z }):=by
 obtain⟨cs,h1,h2,h3,h4⟩:=h;have hkl:=(lS.1 hk).1;obtain⟨d,hd⟩:∃d,cs[k]?=V d:=⟨cs[k]'(by omega),by simp [h2,hkl]⟩;obtain⟨cur,hcur⟩:=h1.frz;have hK:KeepT 42 w ((w.setCell ⟨g,k*10+7,Z⟩ (O Y x)).setCell ⟨g,k*10+8,Z⟩ (O Y z)):=((KeepT.refl _ _).set (p:=⟨g,k*10+7,Z⟩) hcur (by decide) _).set (p:=⟨g,k*10+8,Z⟩) (zah hcur _ _) (by decide) _;have q1:=h1.stored hd (j:=7) (by omega) (O Y x);have q2:=q1.stored (d:=d.set 7 (O Y x)) (by rw [List.getElem?_set_self (by omega)]) (j:=8) (by omega) (O Y z);rw [List.set_set]at q2;obtain⟨v,rfl,hv,hs⟩:=h3 k d p hd hk;refine⟨_,q2,by simp [h2],fun i c' q hc hq=>?_,fun c' hc=>?_⟩
 ·by_cases hik:i=k
  ·subst hik
   rw [List.getElem?_set_self (by omega)]at hc hq
   cases hc;cases hq
   exact⟨v,rfl,hv.keep' hK,hs⟩
  ·rw [List.getElem?_set_ne (fun e=>hik e.symm)]at hc hq
   exact(h3 i c' q hc hq).keep hK
 ·rcases List.mem_or_eq_of_mem_set hc with h9|h9
  ·exact h4 _ h9
  ·subst h9
   exact fun j hj=>h4 _ (lM hd) j hj
def MvF (p9 p10 p11 p12 p13 p14 p15 p16:I) (a:E):Prop:=a.tmps.size=225∧a.tmps.getD 9 undef=p9∧a.tmps.getD 10 undef=p10∧a.tmps.getD 11 undef=p11∧a.tmps.getD 12 undef=p12∧a.tmps.getD 13 undef=p13∧a.tmps.getD 14 undef=p14∧a.tmps.getD 15 undef=p15∧a.tmps.getD 16 undef=p16∧a.defers=[]
def MvA (w5:X) (p9 p10 p11 p12 p13 p14 p15 p16:I) (base:Nat) (vg:I) (d:Int×Int) (g:List (Int×Int)) (gk:Nat) (a:E) (W:X):Prop:=
 (∃i:Nat,i≤g.length∧a.tmps.getD 17 undef=O Y (i:Nat)∧gk=g.length-i∧OwnC 42 2 W base vg ((partL (mwQ d) i g).map pc)∧w5.grownBy W vg.ownBlock)∧MvF p9 p10 p11 p12 p13 p14 p15 p16 a
theorem zlV (Q:Exit→E→X→Prop) (w5:X) (b9:Nat) (p10 p11 p12 p13 p14:I) (dx dz:Int) (base:Nat) (vg vp:I) (g:List (Int×Int)) (hg9:g.length≤1000) (hK9:w5.heap[b9]?=V (.cells #[vg,vp] 33 (0,0))) (hg:OwnC 42 2 w5 base vg (g.map pc))
  (a0:E) (h0:MvF (N (V ⟨b9,0,Z⟩)) p10 p11 p12 p13 p14 (O Y dx) (O Y dz) a0) (h17:a0.tmps.getD 17 undef=O Y (0:Nat))
  (hQp:∀(c:List PanicEntry) (a:E) (d:Option Nat) (v:I) (w:X),Q (.panic c) (a.put d v) w→Q (.panic c) a w)
  (hQ:∀a W,MvF (N (V ⟨b9,0,Z⟩)) p10 p11 p12 p13 p14 (O Y dx) (O Y dz) a→OwnC 42 2 W base vg ((g.map (mwQ (dx,dz))).map pc)→w5.grownBy W vg.ownBlock→Q (.exit 0) a W) :
  (Code.loop (loopAt Tryz.f5 0)).wp Tryz.prog Q a0 w5:=by
 obtain⟨va,vn,vc,rfl⟩:=hg.form3;have hlen:=hg.len;rw [lL]at hlen;subst hlen;have HK9:=hd9 hK9;have HQ:=hd9 hQ;have HQp:=hd9 hQp;have Hne:=hd9 (hg.ne_blkD hK9 (by decide));have Hg:=hd9 hg;obtain⟨n,hn⟩:=gX g.length;have Hn:=hd9 hn;clear hQ hQp hg;unfold loopAt;simp only [Tryz.f5,loopsOf,List.cons_append,List.nil_append,List.append_nil,List.getD_cons_succ,List.getD_cons_zero];refine wp_loop_ghost_k (MvA w5 (N (V ⟨b9,0,Z⟩)) p10 p11 p12 p13 p14 (O Y dx) (O Y dz) base (M va g.length vc) (dx,dz) g) n ⟨⟨0,by omega,h17,by rw [hn];rfl,Hg.out,zbk _ _⟩,h0⟩ ?round;intro gk aa wr hinv;obtain⟨tt,dd⟩:=aa;obtain⟨⟨i,hi,f17,rfl,hown,hgb⟩,⟨f1,f9,f10,f11,f12,f13,f14,f15,f16,hdd⟩⟩:=hinv;dsimp only at f1 f9 f10 f11 f12 f13 f14 f15 f16 f17 hdd;subst hdd;obtain⟨u,hu,ht⟩:=arrU tt 225 f1;simp only [hu]at f9 f10 f11 f12 f13 f14 f15 f16 f17;clear hu f1;subst ht;simp only [List.range,List.range.loop,List.map_cons,List.map_nil,f9,f10,f11,f12,f13,f14,f15,f16,f17];clear f9 f10 f11 f12 f13 f14 f15 f16 f17;intro J K hJ hK;rw [hn]at hi;have hKr:=zac hgb HK9.out (fun e=>Hne.out e.symm);have k0:=qcB hKr (i:=0) (u:=M va g.length vc) rfl;rw [hn]at k0;have hnr:g.length≤1000:=hg9
 by_cases hlt:i<n
 ·obtain⟨q,hq⟩:∃q,g[i]?=V q:=⟨g[i]'(by rw [hn];exact hlt),gE _⟩
  have hqp:((partL (mwQ (dx,dz)) i g).map pc)[i]?=V (pc q):=by rw [lP,zhi _ hq];rfl
  obtain⟨gb,rfl,hgb1,hgb2⟩:=hown.blk (by rw [lL,zfI];omega);have c0:=hown.cell (j:=0) hqp rfl;have c1:=hown.cell (j:=1) hqp rfl;have f0:=hown.frozen;simp only [Nat.add_zero]at c0;have hput:=(hown.pair hqp (O Y (wrap64 (q.1+dx))) (O Y (wrap64 (q.2+dz)))).ext (eR _).drew
  have e1:((partL (mwQ (dx,dz)) i g).map pc).set i [O Y (wrap64 (q.1+dx)),O Y (wrap64 (q.2+dz))]=(partL (mwQ (dx,dz)) (i+1) g).map pc:=by
   rw [←zeE (mwQ (dx,dz)) hq];exact zbw _ _ (mwQ (dx,dz) q)
  rw [e1]at hput;have Hput:=hd9 hput;have Hgb:=hd9 hgb;have hneb:gb≠b9:=fun e=>Hne.out (by subst e;rfl)
  have p1:(0:Int)≤(i:Int):=by omega
  have p2:(i:Int)<(n:Int):=by omega
  obtain⟨qx,qz⟩:=q;dsimp only [pc]at c0 c1;clear hput e1 hown hgb hqp hq hKr Hg hK9
  go_upto_region 10 with fail
  refine zdo (CellL [(⟨b9,0,Z⟩,M (V ⟨gb,0,Z⟩) n vc)]) (CellL [(⟨gb,i*2,Z⟩,O Y qx),(⟨gb,i*2+1,Z⟩,O Y qz)]) 24 (by kernel_rfl) cA cA (fun hA hB=>?_);refine tv1 (i:=0) false (h4:=fun _ _ _ h=>HQp.out _ _ _ _ _ h) ?_;refine tv1 (i:=1) false (h4:=fun _ _ _ h=>HQp.out _ _ _ _ _ h) ?_;refine tv1 (i:=2) false (h4:=fun _ _ _ h=>HQp.out _ _ _ _ _ h) ?_;refine tv1 (i:=3) false (h4:=fun _ _ _ h=>HQp.out _ _ _ _ _ h) ?_;refine tv1 (i:=4) false (h4:=fun _ _ _ h=>HQp.out _ _ _ _ _ h) ?_;refine tv1 (i:=5) false (h4:=fun _ _ _ h=>HQp.out _ _ _ _ _ h) ?_;refine tv1 (i:=6) false (h4:=fun _ _ _ h=>HQp.out _ _ _ _ _ h) ?_;refine tv1 (i:=7) false (h4:=fun _ _ _ h=>HQp.out _ _ _ _ _ h) ?_;refine tv1 (i:=8) false (h4:=fun _ _ _ h=>HQp.out _ _ _ _ _ h) ?_;refine tv1 (i:=9) false (h4:=fun _ _ _ h=>HQp.out _ _ _ _ _ h) ?_;refine tv1 (i:=10) false (h4:=fun _ _ _ h=>HQp.out _ _ _ _ _ h) ?_;refine tv1 (i:=11) true (h4:=fun _ _ _ h=>HQp.out _ _ _ _ _ h) ?_;refine tv1 (i:=12) false (h4:=fun _ _ _ h=>HQp.out _ _ _ _ _ h) ?_;refine tv1 (i:=13) false (h4:=fun _ _ _ h=>HQp.out _ _ _ _ _ h) ?_;refine tv1 (i:=14) false (h4:=fun _ _ _ h=>HQp.out _ _ _ _ _ h) ?_;refine tv1 (i:=15) false (h4:=fun _ _ _ h=>HQp.out _ _ _ _ _ h) ?_;refine tv1 (i:=16) false (h4:=fun _ _ _ h=>HQp.out _ _ _ _ _ h) ?_;refine tv1 (i:=17) false (h4:=fun _ _ _ h=>HQp.out _ _ _ _ _ h) ?_;refine tv1 (i:=18) false (h4:=fun _ _ _ h=>HQp.out _ _ _ _ _ h) ?_;refine tv1 (i:=19) true (h4:=fun _ _ _ h=>HQp.out _ _ _ _ _ h) ?_;refine tv1 (i:=20) false (h4:=fun _ _ _ h=>HQp.out _ _ _ _ _ h) ?_;refine tv1 (i:=21) false (h4:=fun _ _ _ h=>HQp.out _ _ _ _ _ h) ?_;refine tv1 (i:=22) false (h4:=fun _ _ _ h=>HQp.out _ _ _ _ _ h) ?_;refine tv1 (i:=23) false (h4:=fun _ _ _ h=>HQp.out _ _ _ _ _ h) ?_
  have hne9:∀q∈[((⟨b9,0,Z⟩:Addr),Value.slice (V ⟨gb,0,Z⟩) n vc)],gb≠q.1.block:=by
   intro q hq;simp at hq;subst hq;exact hneb
  refine cv1 (i:=24) fun K hK=>?_
  go_simp;refine kO hK ⟨CellL.set (p:=⟨gb,i*2,Z⟩) hA hne9 _,fun h=>nomatch h⟩ (fun hA2=>?_);clear hK K;have hA:=hA2.1;refine tv1 (i:=25) false (h4:=fun _ _ _ h=>HQp.out _ _ _ _ _ h) ?_;refine tv1 (i:=26) false (h4:=fun _ _ _ h=>HQp.out _ _ _ _ _ h) ?_;refine cv1 (i:=27) fun K hK=>?_
  go_simp;refine kO hK ⟨CellL.set (p:=⟨gb,i*2+1,Z⟩) hA hne9 _,fun h=>nomatch h⟩ (fun hA3=>?_);clear hK K;refine doneHV (by kernel_rfl) ?_ _;go_wp2;refine Handed.intro (n-(i+1)) (by omega) (hJ _ _ _ ⟨⟨i+1,by omega,?_,by rw [Hn.out],Hput.out,zgi (zaK (zaK Hgb.out _ _) _ _)⟩,⟨rfl,rfl,rfl,rfl,rfl,rfl,rfl,rfl,rfl,rfl⟩⟩)
  show (_:I)=_
  go_num
 ·obtain rfl:n=i:=by omega
  have e:partL (mwQ (dx,dz)) n g=g.map (mwQ (dx,dz)):=by
   unfold partL;rw [lT (by omega),List.drop_of_length_le (by omega),List.append_nil]
  rw [e]at hown;have Hown:=hd9 hown;have Hgb:=hd9 hgb;clear hown hgb e hKr Hg hK9;go_wp2;rw [hn]at HQ;exact HQ.out _ _ ⟨rfl,rfl,rfl,rfl,rfl,rfl,rfl,rfl,rfl,rfl⟩ (by have:=Hown.out;rw [hn]at this;exact this) (by have:=Hgb.out;rw [hn]at this;exact this)
def MvB (w5:X) (p9 p10 p11 p12 p13 p14 p15 p16:I) (base L:Nat) (vp:I) (d:Int×Int) (ps:List Pl) (gk:Nat) (a:E) (W:X):Prop:=
 (∃i:Nat,i≤ps.length∧a.tmps.getD 18 undef=O Y (i:Nat)∧gk=ps.length-i∧OwnPlA W base L vp (partL (mwP d) i ps)∧w5.grownBy W vp.ownBlock)∧MvF p9 p10 p11 p12 p13 p14 p15 p16 a
theorem zlW (Q:Exit→E→X→Prop) (w5:X) (b9:Nat) (p10 p11 p12 p13 p14:I) (dx dz:Int) (base L:Nat) (vg vp:I) (ps:List Pl) (hp9:ps.length≤1000) (hK9:w5.heap[b9]?=V (.cells #[vg,vp] 33 (0,0))) (hp:OwnPlA w5 base L vp ps)
  (a0:E) (h0:MvF (N (V ⟨b9,0,Z⟩)) p10 p11 p12 p13 p14 (O Y dx) (O Y dz) a0) (h18:a0.tmps.getD 18 undef=O Y (0:Nat))
  (hQp:∀(c:List PanicEntry) (a:E) (d:Option Nat) (v:I) (w:X),Q (.panic c) (a.put d v) w→Q (.panic c) a w)
  (hQ:∀a W,MvF (N (V ⟨b9,0,Z⟩)) p10 p11 p12 p13 p14 (O Y dx) (O Y dz) a→OwnPlA W base L vp (ps.map (mwP (dx,dz)))→w5.grownBy W vp.ownBlock→Q (.exit 2) a W) :
  (Code.loop (loopAt Tryz.f5 1)).wp Tryz.prog Q a0 w5:=by
 obtain⟨va,vn,vc,rfl⟩:=form3 hp.own.pls;have hlen:=hp.len;have HK9:=hd9 hK9;have HQ:=hd9 hQ;have HQp:=hd9 hQp;have Hne:=hd9 (hp.ne_blk hK9 (by decide));have Hp:=hd9 hp;have Hn:=hd9 hlen.symm;have hn9:vn≤1000:=by omega
 clear hQ hQp hp hp9 hlen hK9;unfold loopAt;simp only [Tryz.f5,loopsOf,List.cons_append,List.nil_append,List.append_nil,List.getD_cons_succ,List.getD_cons_zero];refine wp_loop_ghost_k (MvB w5 (N (V ⟨b9,0,Z⟩)) p10 p11 p12 p13 p14 (O Y dx) (O Y dz) base L (M va vn vc) (dx,dz) ps) vn ⟨⟨0,by omega,h18,by rw [Hn.out];rfl,Hp.out,zbk _ _⟩,h0⟩ ?round;intro gk aa wr hinv;obtain⟨tt,dd⟩:=aa;obtain⟨⟨i,hi,f18,rfl,hown,hgb⟩,⟨f1,f9,f10,f11,f12,f13,f14,f15,f16,hdd⟩⟩:=hinv;dsimp only at f1 f9 f10 f11 f12 f13 f14 f15 f16 f18 hdd;subst hdd;obtain⟨u,hu,ht⟩:=arrU tt 225 f1;simp only [hu]at f9 f10 f11 f12 f13 f14 f15 f16 f18;clear hu f1;subst ht;simp only [List.range,List.range.loop,List.map_cons,List.map_nil,f9,f10,f11,f12,f13,f14,f15,f16,f18];clear f9 f10 f11 f12 f13 f14 f15 f16 f18;intro J K hJ hK;rw [Hn.out]at hi;have hKr:=zac hgb HK9.out (fun e=>Hne.out e.symm);have k1:=qcB hKr (i:=1) (u:=M va vn vc) rfl
 by_cases hlt:i<vn
 ·obtain⟨p,hq⟩:∃q,ps[i]?=V q:=⟨ps[i]'(by rw [Hn.out];exact hlt),gE _⟩
  have hqp:=zhi (mwP (dx,dz)) hq;obtain⟨gb,rfl,hgb1,hgb2⟩:=hown.blk (by rw [zfI,Hn.out];omega);obtain⟨c0,c1⟩:=hown.place hqp;have f0:=hown.frozen;have hput:=(hown.put hqp (wrap64 (p.ax+dx)) (wrap64 (p.az+dz))).ext (eR _).drew;have e2:(partL (mwP (dx,dz)) i ps).set i { p with ax:=wrap64 (p.ax+dx),az:=wrap64 (p.az+dz) }=partL (mwP (dx,dz)) (i+1) ps:=zeE (mwP (dx,dz)) hq;rw [e2]at hput;have Hput:=hd9 hput;have Hgb:=hd9 hgb;have hneb:gb≠b9:=fun e=>Hne.out (by subst e;rfl)
  have p1:(0:Int)≤(i:Int):=by omega
  have p2:(i:Int)<(vn:Int):=by omega
  obtain⟨px,hpx⟩:=gX p.ax;obtain⟨pz,hpz⟩:=gX p.az;rw [hpx]at c0 Hput;rw [hpz]at c1 Hput;clear hput e2 hown hgb hqp hq hKr Hp hpx hpz
  go_upto_region 14 with fail
  refine zdo (CellL [(⟨b9,1,Z⟩,M (V ⟨gb,0,Z⟩) vn vc)]) (CellL [(⟨gb,i*10+7,Z⟩,O Y px),(⟨gb,i*10+8,Z⟩,O Y pz)]) 27 (by kernel_rfl) cA cA (fun hA hB=>?_);refine tv1 (i:=0) false (h4:=fun _ _ _ h=>HQp.out _ _ _ _ _ h) ?_;refine tv1 (i:=1) false (h4:=fun _ _ _ h=>HQp.out _ _ _ _ _ h) ?_;refine tv1 (i:=2) false (h4:=fun _ _ _ h=>HQp.out _ _ _ _ _ h) ?_;refine tv1 (i:=3) false (h4:=fun _ _ _ h=>HQp.out _ _ _ _ _ h) ?_;refine tv1 (i:=4) false (h4:=fun _ _ _ h=>HQp.out _ _ _ _ _ h) ?_;refine tv1 (i:=5) false (h4:=fun _ _ _ h=>HQp.out _ _ _ _ _ h) ?_;refine tv1 (i:=6) false (h4:=fun _ _ _ h=>HQp.out _ _ _ _ _ h) ?_;refine tv1 (i:=7) false (h4:=fun _ _ _ h=>HQp.out _ _ _ _ _ h) ?_;refine tv1 (i:=8) false (h4:=fun _ _ _ h=>HQp.out _ _ _ _ _ h) ?_;refine tv1 (i:=9) false (h4:=fun _ _ _ h=>HQp.out _ _ _ _ _ h) ?_;refine tv1 (i:=10) false (h4:=fun _ _ _ h=>HQp.out _ _ _ _ _ h) ?_;refine tv1 (i:=11) false (h4:=fun _ _ _ h=>HQp.out _ _ _ _ _ h) ?_;refine tv1 (i:=12) true (h4:=fun _ _ _ h=>HQp.out _ _ _ _ _ h) ?_;refine tv1 (i:=13) false (h4:=fun _ _ _ h=>HQp.out _ _ _ _ _ h) ?_;refine tv1 (i:=14) false (h4:=fun _ _ _ h=>HQp.out _ _ _ _ _ h) ?_;refine tv1 (i:=15) false (h4:=fun _ _ _ h=>HQp.out _ _ _ _ _ h) ?_;refine tv1 (i:=16) false (h4:=fun _ _ _ h=>HQp.out _ _ _ _ _ h) ?_;refine tv1 (i:=17) false (h4:=fun _ _ _ h=>HQp.out _ _ _ _ _ h) ?_;refine tv1 (i:=18) false (h4:=fun _ _ _ h=>HQp.out _ _ _ _ _ h) ?_;refine tv1 (i:=19) false (h4:=fun _ _ _ h=>HQp.out _ _ _ _ _ h) ?_;refine tv1 (i:=20) false (h4:=fun _ _ _ h=>HQp.out _ _ _ _ _ h) ?_;refine tv1 (i:=21) true (h4:=fun _ _ _ h=>HQp.out _ _ _ _ _ h) ?_;refine tv1 (i:=22) false (h4:=fun _ _ _ h=>HQp.out _ _ _ _ _ h) ?_;refine tv1 (i:=23) false (h4:=fun _ _ _ h=>HQp.out _ _ _ _ _ h) ?_;refine tv1 (i:=24) false (h4:=fun _ _ _ h=>HQp.out _ _ _ _ _ h) ?_;refine tv1 (i:=25) false (h4:=fun _ _ _ h=>HQp.out _ _ _ _ _ h) ?_;refine tv1 (i:=26) false (h4:=fun _ _ _ h=>HQp.out _ _ _ _ _ h) ?_
  have hne9:∀q∈[((⟨b9,1,Z⟩:Addr),Value.slice (V ⟨gb,0,Z⟩) vn vc)],gb≠q.1.block:=by
   intro q hq;simp at hq;subst hq;exact hneb
  refine cv1 (i:=27) fun K hK=>?_
  go_simp;refine kO hK ⟨CellL.set (p:=⟨gb,i*10+7,Z⟩) hA hne9 _,fun h=>nomatch h⟩ (fun hA2=>?_);clear hK K;have hA:=hA2.1;refine tv1 (i:=28) false (h4:=fun _ _ _ h=>HQp.out _ _ _ _ _ h) ?_;refine tv1 (i:=29) false (h4:=fun _ _ _ h=>HQp.out _ _ _ _ _ h) ?_;refine tv1 (i:=30) false (h4:=fun _ _ _ h=>HQp.out _ _ _ _ _ h) ?_;refine cv1 (i:=31) fun K hK=>?_
  go_simp;refine kO hK ⟨CellL.set (p:=⟨gb,i*10+8,Z⟩) hA hne9 _,fun h=>nomatch h⟩ (fun hA3=>?_);clear hK K;refine doneHV (by kernel_rfl) ?_ _;go_wp2;refine Handed.intro (vn-(i+1)) (by have:=Hn.out;omega) (hJ _ _ _ ⟨⟨i+1,by rw [Hn.out];omega,?_,by rw [Hn.out],Hput.out,zgi (zaK (zaK Hgb.out _ _) _ _)⟩,⟨rfl,rfl,rfl,rfl,rfl,rfl,rfl,rfl,rfl,rfl⟩⟩)
  show (_:I)=_
  go_num
 ·obtain rfl:vn=i:=by omega
  have e:partL (mwP (dx,dz)) vn ps=ps.map (mwP (dx,dz)):=by
   unfold partL;rw [lT (by rw [Hn.out];omega),List.drop_of_length_le (by rw [Hn.out];omega),List.append_nil]
  rw [e]at hown;have Hown:=hd9 hown;have Hgb:=hd9 hgb;clear hown hgb e hKr Hp;go_wp2;exact HQ.out _ _ ⟨rfl,rfl,rfl,rfl,rfl,rfl,rfl,rfl,rfl,rfl⟩ Hown.out Hgb.out
def MvG (p11 p13 p15 p16 p19 p21:I) (a:E):Prop:=a.tmps.size=225∧a.tmps.getD 11 undef=p11∧a.tmps.getD 13 undef=p13∧a.tmps.getD 15 undef=p15∧a.tmps.getD 16 undef=p16∧a.tmps.getD 19 undef=p19∧a.tmps.getD 21 undef=p21∧a.defers=[]
def MvC (w7:X) (p11 p13 p15 p16 p19 p21:I) (m:Nat) (gk:Nat) (a:E) (W:X):Prop:=
 (∃i:Nat,i≤m∧a.tmps.getD 23 undef=O Y (i:Nat)∧gk=m-i∧Ext w7 W)∧MvG p11 p13 p15 p16 p19 p21 a
def MvD (w7:X) (p11 p13 p15 p16 p19 p21:I) (m:Nat) (gk:Nat) (a:E) (W:X):Prop:=
 (∃i:Nat,i≤m∧a.tmps.getD 24 undef=O Y (i:Nat)∧gk=m-i∧Ext w7 W)∧MvG p11 p13 p15 p16 p19 p21 a
theorem zlX (Q:Exit→E→X→Prop) (w7:X) (p11 p13 p15 p16 p19 p21:I) (l:List Fd) (hl:IsFds w7 p11 l) (hm:IsFds w7 p19 l)
  (a0:E) (h0:MvG p11 p13 p15 p16 p19 p21 a0) (h23:a0.tmps.getD 23 undef=O Y (0:Nat))
  (hQp:∀(c:List PanicEntry) (a:E) (d:Option Nat) (v:I) (w:X),Q (.panic c) (a.put d v) w→Q (.panic c) a w)
  (hQ:∀a W,MvG p11 p13 p15 p16 p19 p21 a→Ext w7 W→Q (.exit 4) a W) :
  (Code.loop (loopAt Tryz.f5 2)).wp Tryz.prog Q a0 w7:=by
 obtain⟨la,n,lc,rfl⟩:=form3 hl;obtain⟨ma,mn,mc,rfl⟩:=form3 hm;have hmn:mn=n:=by rw [hm.len,hl.len]
 subst hmn;have Hl:=hd9 hl;have Hm:=hd9 hm;have Hn:=hd9 (show l.length=mn from hl.len.symm);have hn9:mn≤maxLen:=by have h1:=hl.le;have h2:=hl.len;omega
 unfold maxLen at hn9;have HQ:=hd9 hQ;have HQp:=hd9 hQp;clear hl hm hQ hQp;unfold loopAt;simp only [Tryz.f5,loopsOf,List.cons_append,List.nil_append,List.append_nil,List.getD_cons_succ,List.getD_cons_zero];refine wp_loop_ghost_k (MvC w7 (M la mn lc) p13 p15 p16 (M ma mn mc) p21 mn) mn ⟨⟨0,by omega,h23,by rfl,eR _⟩,h0⟩ ?round;intro gk aa wr hinv;obtain⟨tt,dd⟩:=aa;obtain⟨⟨i,hi,f23,rfl,hx⟩,⟨f1,f11,f13,f15,f16,f19,f21,hdd⟩⟩:=hinv;dsimp only at f1 f11 f13 f15 f16 f19 f21 f23 hdd;subst hdd;obtain⟨u,hu,ht⟩:=arrU tt 225 f1;simp only [hu]at f11 f13 f15 f16 f19 f21 f23;clear hu f1;subst ht;simp only [List.range,List.range.loop,List.map_cons,List.map_nil,f11,f13,f15,f16,f19,f21,f23];clear f11 f13 f15 f16 f19 f21 f23;intro J K hJ hK;have HX:=hd9 hx
 by_cases hlt:i<mn
 ·obtain⟨f,hf⟩:∃f,l[i]?=V f:=⟨l[i]'(by rw [Hn.out];exact hlt),gE _⟩
  obtain⟨lb,lo,d,rfl,hlb,_,hd,hc⟩:=Sl.at (Hl.out.ext' hx) hf;obtain⟨mb,mo,d2,rfl,hmb,_,hd2,hc2⟩:=Sl.at (Hm.out.ext' hx) hf;subst hd;subst hd2;obtain⟨fk,fa,fs,fm⟩:=f;have c0:=hc 0 (O .u8 fk) rfl;have c1:=hc 1 (O Y fa) rfl;have c2:=hc 2 (O Y fs) rfl;have c3:=hc 3 (O Y fm) rfl;have d0:=hc2 0 (O .u8 fk) rfl;have d1:=hc2 1 (O Y fa) rfl;have d2:=hc2 2 (O Y fs) rfl;have d3:=hc2 3 (O Y fm) rfl;simp only [Nat.add_zero]at c0 d0;have p1:(0:Int)≤(i:Int):=by omega
  have p2:(i:Int)<(mn:Int):=by omega
  have q0:(fk==fk)=true:=beq_self_eq_true _;have q1:(fa==fa)=true:=beq_self_eq_true _;have q2:(fs==fs)=true:=beq_self_eq_true _;have q3:(fm==fm)=true:=beq_self_eq_true _;clear hc hc2 hf hx
  go_upto_region 24 with fail
  refine wp_region_held_drew (S:=CellL [(⟨lb,lo+i*4,Z⟩,O .u8 fk),(⟨lb,lo+i*4+1,Z⟩,O Y fa),(⟨lb,lo+i*4+2,Z⟩,O Y fs),(⟨lb,lo+i*4+3,Z⟩,O Y fm),(⟨mb,mo+i*4,Z⟩,O .u8 fk),(⟨mb,mo+i*4+1,Z⟩,O Y fa),(⟨mb,mo+i*4+2,Z⟩,O Y fs),(⟨mb,mo+i*4+3,Z⟩,O Y fm)]) (by kernel_rfl) cA (fun h9H=>?_);refine tk1 (i:=0) (h4:=fun _ _ _ h=>HQp.out _ _ _ _ _ h) ?_;refine tk1 (i:=1) (h4:=fun _ _ _ h=>HQp.out _ _ _ _ _ h) ?_;refine tk1 (i:=2) (h4:=fun _ _ _ h=>HQp.out _ _ _ _ _ h) ?_;refine tk1 (i:=3) (h4:=fun _ _ _ h=>HQp.out _ _ _ _ _ h) ?_;refine tk1 (i:=4) (h4:=fun _ _ _ h=>HQp.out _ _ _ _ _ h) ?_;refine tk1 (i:=5) (h4:=fun _ _ _ h=>HQp.out _ _ _ _ _ h) ?_;refine tk1 (i:=6) (h4:=fun _ _ _ h=>HQp.out _ _ _ _ _ h) ?_;refine tk1 (i:=7) (h4:=fun _ _ _ h=>HQp.out _ _ _ _ _ h) ?_;refine tk1 (i:=8) (h4:=fun _ _ _ h=>HQp.out _ _ _ _ _ h) ?_;refine wpAnyH_done (by kernel_rfl) ?_ _;go_wp2;refine Handed.intro (mn-(i+1)) (by omega) (hJ _ _ _ ⟨⟨i+1,by omega,?_,rfl,HX.out.drew⟩,⟨rfl,rfl,rfl,rfl,rfl,rfl,rfl,rfl⟩⟩)
  show (_:I)=_
  go_num
 ·obtain rfl:mn=i:=by omega
  clear hx;go_wp2;exact HQ.out _ _ ⟨rfl,rfl,rfl,rfl,rfl,rfl,rfl,rfl⟩ HX.out
theorem zlY (Q:Exit→E→X→Prop) (w7:X) (p11 p13 p19 p21:I) (dx dz:Int) (hdx:Bd 1000 dx) (hdz:Bd 1000 dz) (L:List Jt) (hL:∀j∈L,BJt j) (hl:IsJts w7 p13 L) (hm:IsJts w7 p21 (L.map (mvT (dx,dz))))
  (a0:E) (h0:MvG p11 p13 (O Y dx) (O Y dz) p19 p21 a0) (h24:a0.tmps.getD 24 undef=O Y (0:Nat))
  (hQp:∀(c:List PanicEntry) (a:E) (d:Option Nat) (v:I) (w:X),Q (.panic c) (a.put d v) w→Q (.panic c) a w)
  (hQ:∀a W,MvG p11 p13 (O Y dx) (O Y dz) p19 p21 a→Ext w7 W→Q (.exit 6) a W) :
  (Code.loop (loopAt Tryz.f5 3)).wp Tryz.prog Q a0 w7:=by
 obtain⟨la,n,lc,rfl⟩:=form3 hl;obtain⟨ma,mn,mc,rfl⟩:=form3 hm;have hmn:mn=n:=by rw [hm.len,hl.len,lL]
 subst hmn;have Hl:=hd9 hl;have Hm:=hd9 hm;have Hn:=hd9 (show L.length=mn from hl.len.symm);have hn9:mn≤maxLen:=by have h1:=hl.le;have h2:=hl.len;omega
 unfold maxLen at hn9;have HL:=hd9 hL;have HQ:=hd9 hQ;have HQp:=hd9 hQp;clear hl hm hQ hQp hL;unfold loopAt;simp only [Tryz.f5,loopsOf,List.cons_append,List.nil_append,List.append_nil,List.getD_cons_succ,List.getD_cons_zero];refine wp_loop_ghost_k (MvD w7 p11 (M la mn lc) (O Y dx) (O Y dz) p19 (M ma mn mc) mn) mn ⟨⟨0,by omega,h24,by rfl,eR _⟩,h0⟩ ?round;intro gk aa wr hinv;obtain⟨tt,dd⟩:=aa;obtain⟨⟨i,hi,f24,rfl,hx⟩,⟨f1,f11,f13,f15,f16,f19,f21,hdd⟩⟩:=hinv;dsimp only at f1 f11 f13 f15 f16 f19 f21 f24 hdd;subst hdd;obtain⟨u,hu,ht⟩:=arrU tt 225 f1;simp only [hu]at f11 f13 f15 f16 f19 f21 f24;clear hu f1;subst ht;simp only [List.range,List.range.loop,List.map_cons,List.map_nil,f11,f13,f15,f16,f19,f21,f24];clear f11 f13 f15 f16 f19 f21 f24;intro J K hJ hK;have HX:=hd9 hx
 by_cases hlt:i<mn
 ·obtain⟨⟨jA,jB,jl,jr,jf,jt⟩,hj⟩:∃j,L[i]?=V j:=⟨L[i]'(by rw [Hn.out];exact hlt),gE _⟩
  have hj2:(L.map (mvT (dx,dz)))[i]?=V (mvT (dx,dz) ⟨jA,jB,jl,jr,jf,jt⟩):=by rw [lP,hj];rfl
  obtain⟨lb,lo,e0,hlb,hc⟩:=(Hl.out.ext' hx).at' hj;obtain⟨mb,mo,e1,hmb,hc2⟩:=(Hm.out.ext' hx).at' hj2;subst e0;subst e1;obtain⟨b0,b1,b2,b3,b4,b5⟩:=HL.out _ (lM hj);unfold jta at hc hc2;unfold mvT at hc2;dsimp only at hc hc2 b0 b1 b2 b3 b4 b5;have c0:=hc 0 (O Y jA) rfl;have c1:=hc 1 (O Y jB) rfl;have c2:=hc 2 (O Y jl) rfl;have c3:=hc 3 (O Y jr) rfl;have c4:=hc 4 (O Y jf) rfl;have c5:=hc 5 (O Y jt) rfl;have d0:=hc2 0 (O Y jA) rfl;have d1:=hc2 1 (O Y jB) rfl;have d2:=hc2 2 (O Y (jl+dx)) rfl;have d3:=hc2 3 (O Y (jr+dx)) rfl;have d4:=hc2 4 (O Y (jf+dz)) rfl;have d5:=hc2 5 (O Y (jt+dz)) rfl;simp only [Nat.add_zero]at c0 d0;unfold Bd at b2 b3 b4 b5 hdx hdz;have y2:IntKind.i64.wrap (jl+dx)=jl+dx:=iW _ ⟨by omega,by omega⟩;have z2:wrap64 (jl+dx)=jl+dx:=IntWalk.wrap64_in _ ⟨by omega,by omega⟩;have u2:((jl+dx)==(jl+dx))=true:=beq_self_eq_true _;have y3:IntKind.i64.wrap (jr+dx)=jr+dx:=iW _ ⟨by omega,by omega⟩;have z3:wrap64 (jr+dx)=jr+dx:=IntWalk.wrap64_in _ ⟨by omega,by omega⟩;have u3:((jr+dx)==(jr+dx))=true:=beq_self_eq_true _;have y4:IntKind.i64.wrap (jf+dz)=jf+dz:=iW _ ⟨by omega,by omega⟩;have z4:wrap64 (jf+dz)=jf+dz:=IntWalk.wrap64_in _ ⟨by omega,by omega⟩;have u4:((jf+dz)==(jf+dz))=true:=beq_self_eq_true _;have y5:IntKind.i64.wrap (jt+dz)=jt+dz:=iW _ ⟨by omega,by omega⟩;have z5:wrap64 (jt+dz)=jt+dz:=IntWalk.wrap64_in _ ⟨by omega,by omega⟩;have u5:((jt+dz)==(jt+dz))=true:=beq_self_eq_true _;have u0:(jA==jA)=true:=beq_self_eq_true _;have u1:(jB==jB)=true:=beq_self_eq_true _;have p1:(0:Int)≤(i:Int):=by omega
  have p2:(i:Int)<(mn:Int):=by omega
  clear hc hc2 hj hj2 hx b0 b1 b2 b3 b4 b5
  go_upto_region 29 with fail
  refine wp_region_held_drew (S:=CellL [(⟨lb,lo+i*6,Z⟩,O Y jA),(⟨lb,lo+i*6+1,Z⟩,O Y jB),(⟨lb,lo+i*6+2,Z⟩,O Y jl),(⟨lb,lo+i*6+3,Z⟩,O Y jr),(⟨lb,lo+i*6+4,Z⟩,O Y jf),(⟨lb,lo+i*6+5,Z⟩,O Y jt),
   (⟨mb,mo+i*6,Z⟩,O Y jA),(⟨mb,mo+i*6+1,Z⟩,O Y jB),(⟨mb,mo+i*6+2,Z⟩,O Y (jl+dx)),(⟨mb,mo+i*6+3,Z⟩,O Y (jr+dx)),(⟨mb,mo+i*6+4,Z⟩,O Y (jf+dz)),(⟨mb,mo+i*6+5,Z⟩,O Y (jt+dz))]) (by kernel_rfl) cA (fun h9H=>?_)
  refine tk1 (i:=0) (h4:=fun _ _ _ h=>HQp.out _ _ _ _ _ h) ?_;refine tk1 (i:=1) (h4:=fun _ _ _ h=>HQp.out _ _ _ _ _ h) ?_;refine tk1 (i:=2) (h4:=fun _ _ _ h=>HQp.out _ _ _ _ _ h) ?_;refine tk1 (i:=3) (h4:=fun _ _ _ h=>HQp.out _ _ _ _ _ h) ?_;refine tk1 (i:=4) (h4:=fun _ _ _ h=>HQp.out _ _ _ _ _ h) ?_;refine tk1 (i:=5) (h4:=fun _ _ _ h=>HQp.out _ _ _ _ _ h) ?_;refine tk1 (i:=6) (h4:=fun _ _ _ h=>HQp.out _ _ _ _ _ h) ?_;refine tk1 (i:=7) (h4:=fun _ _ _ h=>HQp.out _ _ _ _ _ h) ?_;refine tk1 (i:=8) (h4:=fun _ _ _ h=>HQp.out _ _ _ _ _ h) ?_;refine tk1 (i:=9) (h4:=fun _ _ _ h=>HQp.out _ _ _ _ _ h) ?_;refine tk1 (i:=10) (h4:=fun _ _ _ h=>HQp.out _ _ _ _ _ h) ?_;refine tk1 (i:=11) (h4:=fun _ _ _ h=>HQp.out _ _ _ _ _ h) ?_;refine tk1 (i:=12) (h4:=fun _ _ _ h=>HQp.out _ _ _ _ _ h) ?_;refine tk1 (i:=13) (h4:=fun _ _ _ h=>HQp.out _ _ _ _ _ h) ?_;refine tk1 (i:=14) (h4:=fun _ _ _ h=>HQp.out _ _ _ _ _ h) ?_;refine tk1 (i:=15) (h4:=fun _ _ _ h=>HQp.out _ _ _ _ _ h) ?_;refine tk1 (i:=16) (h4:=fun _ _ _ h=>HQp.out _ _ _ _ _ h) ?_;refine tk1 (i:=17) (h4:=fun _ _ _ h=>HQp.out _ _ _ _ _ h) ?_;refine tk1 (i:=18) (h4:=fun _ _ _ h=>HQp.out _ _ _ _ _ h) ?_;refine tk1 (i:=19) (h4:=fun _ _ _ h=>HQp.out _ _ _ _ _ h) ?_;refine tk1 (i:=20) (h4:=fun _ _ _ h=>HQp.out _ _ _ _ _ h) ?_;refine tk1 (i:=21) (h4:=fun _ _ _ h=>HQp.out _ _ _ _ _ h) ?_;refine tk1 (i:=22) (h4:=fun _ _ _ h=>HQp.out _ _ _ _ _ h) ?_;refine tk1 (i:=23) (h4:=fun _ _ _ h=>HQp.out _ _ _ _ _ h) ?_;refine tk1 (i:=24) (h4:=fun _ _ _ h=>HQp.out _ _ _ _ _ h) ?_;refine tk1 (i:=25) (h4:=fun _ _ _ h=>HQp.out _ _ _ _ _ h) ?_;refine tk1 (i:=26) (h4:=fun _ _ _ h=>HQp.out _ _ _ _ _ h) ?_;refine tk1 (i:=27) (h4:=fun _ _ _ h=>HQp.out _ _ _ _ _ h) ?_;refine tk1 (i:=28) (h4:=fun _ _ _ h=>HQp.out _ _ _ _ _ h) ?_;refine tk1 (i:=29) (h4:=fun _ _ _ h=>HQp.out _ _ _ _ _ h) ?_;refine tk1 (i:=30) (h4:=fun _ _ _ h=>HQp.out _ _ _ _ _ h) ?_;refine tk1 (i:=31) (h4:=fun _ _ _ h=>HQp.out _ _ _ _ _ h) ?_;refine tk1 (i:=32) (h4:=fun _ _ _ h=>HQp.out _ _ _ _ _ h) ?_;refine tk1 (i:=33) (h4:=fun _ _ _ h=>HQp.out _ _ _ _ _ h) ?_;refine tk1 (i:=34) (h4:=fun _ _ _ h=>HQp.out _ _ _ _ _ h) ?_;refine tk1 (i:=35) (h4:=fun _ _ _ h=>HQp.out _ _ _ _ _ h) ?_;refine tk1 (i:=36) (h4:=fun _ _ _ h=>HQp.out _ _ _ _ _ h) ?_;refine tk1 (i:=37) (h4:=fun _ _ _ h=>HQp.out _ _ _ _ _ h) ?_;refine tk1 (i:=38) (h4:=fun _ _ _ h=>HQp.out _ _ _ _ _ h) ?_;refine tk1 (i:=39) (h4:=fun _ _ _ h=>HQp.out _ _ _ _ _ h) ?_;refine tk1 (i:=40) (h4:=fun _ _ _ h=>HQp.out _ _ _ _ _ h) ?_;refine tk1 (i:=41) (h4:=fun _ _ _ h=>HQp.out _ _ _ _ _ h) ?_;refine tk1 (i:=42) (h4:=fun _ _ _ h=>HQp.out _ _ _ _ _ h) ?_;refine tk1 (i:=43) (h4:=fun _ _ _ h=>HQp.out _ _ _ _ _ h) ?_;refine wpAnyH_done (by kernel_rfl) ?_ _;go_wp2;refine Handed.intro (mn-(i+1)) (by omega) (hJ _ _ _ ⟨⟨i+1,by omega,?_,rfl,HX.out.drew⟩,⟨rfl,rfl,rfl,rfl,rfl,rfl,rfl,rfl⟩⟩)
  show (_:I)=_
  go_num
 ·obtain rfl:mn=i:=by omega
  clear hx;go_wp2;exact HQ.out _ _ ⟨rfl,rfl,rfl,rfl,rfl,rfl,rfl,rfl⟩ HX.out
end
end Go.Proofs.YteipgejmhfpkaaaGreatDoor.Cop
