/- Part 49: contracts of what the law calls. -/
import Derived.Test.YtjnjpagegkcgfaaGreatDoorCopA47
import Derived.Test.YtjnjpagegkcgfaaGreatDoorCopA46
import Derived.Test.YtjnjpagegkcgfaaGreatDoorCopA41
import Derived.Test.YtjnjpagegkcgfaaGreatDoorCopA27
import Derived.Test.YtjnjpagegkcgfaaGreatDoorCopA20
set_option maxRecDepth 1000000
set_option maxHeartbeats 16000000
set_option linter.unusedSimpArgs false
set_option linter.unusedVariables false
open Go.IntKind renaming i64→O,u8→C
open Go.Value renaming slice→Y,int→Z,agg→I
open Option renaming none→X,some→J
open Go renaming World→V
namespace Go.Proofs.YtjnjpagegkcgfaaGreatDoor.Cop
section
open Go.RowKit Go.Shelf Go.Sort
attribute [local go_sem] Oper.semAt_some
def minQ (p q:Rat):Rat:=if rcmp q p<0 then q else p
def Mn (w:V) (p q:Rat) (h:Nat) (t4:Value) (W:V):Prop:=
 ∃i:Nat,t4=Z O i∧((i=0∧QX W (h+1) 0)∨(i=1∧QX W (h+1) p)∨(i=2∧QX W (h+1) (minQ p q)))∧Ext w W∧W.heap[h]?=J (.cells #[Z O 0,Y X 0 0,Z O 0,Y X 0 0] 68 (0,0))
theorem znn (w:V) (b:Nat) (p q:Rat) (s1 t1 s2 t2:Int) (a1 e1 L P:Option Addr) (m1 c1 i1 j1 T c2 Q R:Nat)
  (hC:CellL [(⟨b,0,X⟩,Z O s1),(⟨b,1,X⟩,Y a1 m1 c1),(⟨b,2,X⟩,Z O t1),(⟨b,3,X⟩,Y e1 i1 j1),(⟨b,4,X⟩,Z O s2),(⟨b,5,X⟩,Y L T c2),(⟨b,6,X⟩,Z O t2),(⟨b,7,X⟩,Y P Q R)] w)
  (hp:IsQ w (I #[Z O s1,Y a1 m1 c1,Z O t1,Y e1 i1 j1]) p) (hq:IsQ w (I #[Z O s2,Y L T c2,Z O t2,Y P Q R]) q) (kp:Rb limQ p) (kq:Rb limQ q) :
  Calls Tryz.prog 68 #[Y (J ⟨b,0,X⟩) 2 2] w (RetQr w (minQ p q)):=by
 have HP:=hd9 hp;have HQ:=hd9 hq;have aa:=hd9 kp;have ab:=hd9 kq;have HC:=hd9 hC;have hb:b<w.heap.size:=World.block_lt_of_cell? w _ hC.1;clear hp hq kp kq hC;go_enter Tryz.func68,Tryz.ntmps68;go_wp2;obtain⟨W0,f⟩:=gX ((w.alloc (.cells #[Z O 0,Y X 0 0,Z O 0,Y X 0 0] 68)).alloc (.cells #[Z O 0,Y X 0 0,Z O 0,Y X 0 0] 68));have X0:Ext w W0:=by rw [←f];exact((eR w).alloc _).alloc _
 have k0:W0.heap[w.heap.size]?=J (Obj.cells #[Value.int O 0,Value.slice X 0 0,Value.int O 0,Value.slice X 0 0] 68 (0,0)):=by rw [←f];exact((eR _).alloc _).heapS (aN _ _)
 have k1:QX W0 (w.heap.size+1) 0:=by rw [←f];exact QX.new (IsQ.zero _) sM
 rw [f];clear f
 go_loopw [4] (Mn w p q w.heap.size) (fun t4 _=>2-(intOf t4).toNat)
 case atStart=>exact⟨0,rfl,.inl ⟨rfl,k1⟩,X0,k0⟩
 case round =>
  clear X0 k0 k1;obtain⟨i,rfl,hi,h,hk⟩:=hrel;have hc:=cE HC.out h;have ad:b<wr.heap.size:=h.lt hb;have g:=hd9 hk;clear hk
  rcases hi with ⟨rfl,k⟩|⟨rfl,k⟩|⟨rfl,k⟩
  ·have HX:=hd9 k
   obtain⟨s,a,m,c,t,e,i,j,y0,y1,y2,y3,yf,yz,n⟩:=k
    |>.rd
   clear n;have ne:¬w.heap.size+1=b:=oM
   go_wp2;refine wp_region_held_drew (S:=CellL [(⟨w.heap.size+1,0,X⟩,Z O s)]) kM cA (fun l=>?_);refine sN 0 ?_
   iterate 3
    refine tkn ?_
   refine oN ?_;refine tkg1 (i:=3) ?_;refine tkg1 (i:=4) ?_;refine tkg1 (i:=5) ?_;refine tkg1 (i:=6) ?_;refine tkg1 (i:=7) ?_;refine tkg1 (i:=8) ?_;refine tkg1 (i:=9) ?_;refine tk1 (i:=10) ?_;refine wpAnyH_done kM ?_ _;obtain⟨d0,d1,d2,d3,_⟩:=hc;go_wp2
   go_roundw
   case rel=>exact⟨1,by go_num,.inr (.inl ⟨rfl,HX.out.drew.put (HP.out.ext (h.trans (eR _).drew))⟩),zaQ (h.trans (eR _).drew) (Nat.le_succ _) _ _ _ _,zb9 g.out oM _ _ _ _⟩
   case measure=>simp [intOf]
  ·have HX:=hd9 k
   obtain⟨s,a,m,c,t,e,i,j,y0,y1,y2,y3,yf,yz,n⟩:=k
    |>.rd
   have HI:=hd9 n;clear n;have ne:¬w.heap.size+1=b:=oM
   obtain⟨r,hr⟩:=gX (rcmp q p);have HM:=hd9 (show minQ p q=if r<0 then q else p by unfold minQ;rw [hr]);have x:=hd9 (fun(W:V) (hW:Ext wr W)=>zhc W (I #[Z O s2,Y L T c2,Z O t2,Y P Q R]) (I #[Z O s,Y a m c,Z O t,Y e i j]) q p (HQ.out.ext (h.trans hW)) (HI.out.ext hW) ab.out aa.out);rw [hr]at x;clear hr;obtain⟨d0,d1,d2,d3,d4,d5,d6,d7,_⟩:=hc;go_wp2;refine wp_region_held_drew (S:=CellL [(⟨w.heap.size+1,0,X⟩,Z O s),(⟨w.heap.size+1,1,X⟩,Y a m c),(⟨w.heap.size+1,2,X⟩,Z O t),(⟨w.heap.size+1,3,X⟩,Y e i j),(⟨b,4,X⟩,Z O s2),(⟨b,5,X⟩,Y L T c2),(⟨b,6,X⟩,Z O t2),(⟨b,7,X⟩,Y P Q R)]) kM cA (fun l=>?_);refine tk1 (i:=0) ?_;refine tk1 (i:=1) ?_;refine tk1 (i:=2) ?_;refine tk1 (i:=3) ?_;refine tk1 (i:=4) ?_;refine tk1 (i:=5) ?_;refine tk1 (i:=6) ?_;refine tk1 (i:=7) ?_;refine cl1 (i:=8) fun K hK=>?_
   go_simp
   (with_reducible refine cM (x.out _ ((eR wr).drew)) ?_)
   rintro ee w5 ⟨rfl,D⟩
   go_wp2_with fail
   refine kO hK (cE l D) (fun l=>?_);clear hK K;refine sN 9 ?_
   iterate 2
    refine tkn ?_
   refine oN ?_;refine wpAnyH_done kM ?_ _;have d:Ext wr w5:=(eR wr).drew.trans D
   replace d4:=d.cellS d4
   replace d5:=d.cellS d5
   replace d6:=d.cellS d6
   replace d7:=d.cellS d7
   have o:=HX.out.ext d;have y:=hd9 o;have ae:=d.lt ad;clear d0 d1 d2 d3 y0 y1 y2 y3 yf yz;obtain⟨_,_,_,_,_,_,_,_,y0,y1,y2,y3,yf,yz,-⟩:=o.rd;clear o
   by_cases h9:r<0
   ·have e9:minQ p q=q:=by rw [HM.out,if_pos h9]
    go_wp2
    go_roundw
    case rel=>exact⟨2,by go_num,.inr (.inr ⟨rfl,by rw [e9];exact y.out.put (HQ.out.ext (h.trans d))⟩),zaQ (h.trans d) (Nat.le_succ _) _ _ _ _,zb9 (d.heapS g.out) oM _ _ _ _⟩
    case measure=>simp [intOf]
   ·have e9:minQ p q=p:=by rw [HM.out,if_neg h9]
    go_wp2
    go_roundw
    case rel=>exact⟨2,by go_num,.inr (.inr ⟨rfl,by rw [e9];exact y.out⟩),h.trans d,d.heapS g.out⟩
    case measure=>simp [intOf]
  ·have HX:=hd9 k
   obtain⟨s,a,m,c,t,e,i,j,y0,y1,y2,y3,yf,yz,n⟩:=k
    |>.rd
   have HI:=hd9 n;clear n hc;have r0:=qcB g.out (i:=0) (u:=Z O 0) rfl;have r1:=qcB g.out (i:=1) (u:=Y X 0 0) rfl;have r2:=qcB g.out (i:=2) (u:=Z O 0) rfl;have r3:=qcB g.out (i:=3) (u:=Y X 0 0) rfl;have rf:=qfB g.out;have zr:=zaa g.out;have z:QX wr w.heap.size 0:=⟨_,_,_,_,_,_,_,_,g.out,IsQ.zero _⟩;have ac:=hd9 z;clear z;go_wp2;exact bR (v:=I #[Z O s,Y a m c,Z O t,Y e i j]) (by simp [results,Tryz.results68,go_sem,zr,r0,r1,r2,r3,rf]) rfl ⟨_,rfl,HI.out.keep (zaS [_,_,_,_] 0 ac.out.not),zaQ h (nE _) _ _ _ _⟩
end
section
open Go.RowKit Go.Shelf Go.Sort
def drN (g:List (Int×Int)) (ps:List Pl) (p:Pl) (i:Nat):Rat:=minG (gapT (lowP2 p)) (topsP g (ps.take i) p)
theorem zm9 (g:List (Int×Int)) (ps:List Pl) (p:Pl):drN g ps p ps.length=dropR g ps p:=by unfold drN dropR;rw [List.take_length]
theorem zli (g:List (Int×Int)) (ps:List Pl) (p:Pl):drN g ps p 0=gapT (lowP2 p) g:=by
 unfold drN topsP;rw [List.take_zero];rfl
theorem zlI {α:Type} (f:α→Rat) (x:α) (xs:List α) (y:α):minG f (x::(xs++[y]))=minQ (minG f (x::xs)) (f y):=by
 unfold minG minQ;dsimp only;rw [List.foldl_append];rfl
theorem zok {g:List (Int×Int)} {ps:List Pl} {p q:Pl} {i:Nat} (h:ps[i]?=J q) (a:(meetB p q&&relP p q==3)=false):drN g ps p (i+1)=drN g ps p i:=by
 unfold drN topsP;rw [zab ps i q h,List.filter_append,List.filter_cons_of_neg (by rw [a];decide),List.filter_nil,List.append_nil]
theorem zna {g:List (Int×Int)} {ps:List Pl} {p q:Pl} {i:Nat} (h:ps[i]?=J q) (a:(meetB p q&&relP p q==3)=true):drN g ps p (i+1)=minQ (drN g ps p i) (gapT (lowP2 p) (upP2 q)):=by
 unfold drN topsP;rw [zab ps i q h,List.filter_append,List.filter_cons_of_pos (p:=fun o=>meetB p o&&relP p o==3) a,List.filter_nil,List.map_append];exact zlI _ _ _ _
theorem zjn {l t:List (Int×Int)} (a:LnOk l) (b:LnOk t):Rb 23 (gapT l t):=by
 have m:=zaJ (gapR (btw l t)) (zbc (btw l t));unfold gapT leastR;rw [m.2];exact Rb.gap (zap (zbw a b) _ m.1) (zbw a b)
theorem zmn {g:List (Int×Int)} {ps:List Pl} {p:Pl} (c:LnOk g) (b:∀q∈ps,placedOk q=true) (d:placedOk p=true) (i:Nat):Rb 23 (drN g ps p i):=by
 obtain⟨⟨t,a,e⟩,_⟩:=zcR (gapT (lowP2 p)) (l:=topsP g (ps.take i) p) (by unfold topsP;simp);unfold drN;rw [e];refine zjn (zaj d).1 ?_;unfold topsP at a
 rcases List.mem_cons.1 a with rfl|a
 ·exact c
 ·obtain⟨q,f,rfl⟩:=List.mem_map.1 a
  exact(zaj (b q (List.mem_of_mem_take (List.mem_filter.1 f).1))).2
theorem znP {p q:Pl} (c:placedOk p=true) (d:placedOk q=true) (h:relP p q=3):(btw (lowP2 p) (upP2 q)).lo<(btw (lowP2 p) (upP2 q)).hi:=by
 unfold relP at h
 by_cases a:lineR (lowP2 p)≤lineL (lowP2 q)
 ·rw [if_pos a]at h;cases h
 ·rw [if_neg a]at h
  by_cases b:lineR (lowP2 q)≤lineL (lowP2 p)
  ·rw [if_pos b]at h;cases h
  ·exact ziV c d a b
def Dq (w:V) (g:List (Int×Int)) (ps:List Pl) (p:Pl) (a:Nat) (b c:Obj) (d:Value) (W:V):Prop:=
 ∃i:Nat,d=Z O i∧i≤ps.length∧Ext w W∧W.heap[w.heap.size]?=J b∧W.heap[w.heap.size+1]?=J c∧QX W a (drN g ps p i)
end
section
open Go.RowKit Go.Shelf Go.Sort
attribute [local go_sem] Oper.semAt_some
theorem ggapT (w:V) (g h:Value) (A B:List (Int×Int)) (a:IsPr w g A) (b:IsPr w h B) (d:LnOk A) (f:LnOk B) (l:Rise A) (m:Rise B) (c:(btw A B).lo<(btw A B).hi) :
  Calls Tryz.prog 43 #[g,h] w fun e i=>∃v1 v2,e = .returned (.tuple #[v1,v2])∧IsQ i v1 (gapT A B)∧(∃x,IsQ i v2 x)∧Ext w i:=
 (zhe w g h A B a b d f l m c).mono fun _ _ ⟨v1,v2,a,b,j,k⟩=>⟨v1,v2,a,b,⟨_,j⟩,k⟩
theorem zia (w:V) (vg vp v:Value) (g:List (Int×Int)) (ps:List Pl) (p:Pl) (hg:IsPr w vg g) (hp:IsWr w vp ps) (hv:IsPr w v p.shape) (hz:laidP g ps=0) (h1:placedOk p=true) (h2:holdsB g p=true) (h4:clearB g ps p=true) :
  Calls Tryz.prog 15 #[I #[vg,vp],I (plc p v)] w fun e w'=>e = .returned (Z O (dropP g ps p))∧Ext w w':=by
 obtain⟨aO,bL,aI⟩:=zbo hz;have bu:=hd9 (zi9 hz h1 h2 h4).2;have aF:=hd9 (fun W (hW:Ext w W)=>zby W v p (hv.ext' hW) h1);have bV:=hd9 (fun W vl (hW:Ext w W) (b4:IsPr W vl (lowP2 p))=>ggapT W vl vg (lowP2 p) g b4 (hg.ext' hW) (zaj h1).1 (zaB aI) (zaL h1).1 (zbE aI) (zcs h1 h2));have bv:=hd9 (zaB aI);have HP:=hd9 hp;have Hv:=hd9 hv;have aS:=hd9 aO;have H1:=hd9 h1;obtain⟨ga,gn,gc,rfl⟩:=hg.form3;obtain⟨pa,T,rfl⟩:=hp.form;obtain⟨sa,sn,sc,rfl⟩:=hv.form3;obtain⟨n,hn⟩:=gX ps.length;have bK:=hp.le;unfold maxLen at bK;rw [hn]at bK bL ⊢;have Hn:=hd9 hn;obtain⟨D,hD⟩:=gX (dropP g ps p);rw [hD]at bu ⊢;have bU:Hid ((drN g ps p n).floor=D):=hd9 (by rw [←hn,zm9];exact hD);clear hg hp hv hn aO aI hz h1 h2 h4 hD;have cc:=aF;unfold plc at aF ⊢;go_enter Tryz.func15,Tryz.ntmps15
 go_upto_region 1 with fail
 obtain⟨W0,L⟩:=gX ((w.alloc (Obj.cells #[Value.slice ga gn gc,Value.slice pa n T] 25)).alloc (Obj.cells #[Value.string p.name,Value.slice sa sn sc,Value.int O p.depth,Value.int O p.density,Value.int O p.gx,Value.int O p.gz,Value.int O p.way,Value.int O p.ax,Value.int O p.az,Value.int C p.skin] 31));have X0:Ext w W0:=by rw [←L];exact((eR w).alloc _).alloc _
 have k0:W0.heap[w.heap.size]?=J (Obj.cells #[Value.slice ga gn gc,Value.slice pa n T] 25 (0,0)):=by rw [←L];exact((eR _).alloc _).heapS (aN _ _)
 have k1:W0.heap[w.heap.size+1]?=J (Obj.cells #[Value.string p.name,Value.slice sa sn sc,Value.int O p.depth,Value.int O p.density,Value.int O p.gx,Value.int O p.gz,Value.int O p.way,Value.int O p.ax,Value.int O p.az,Value.int C p.skin] 31 (0,0)):=by rw [←L];exact sec2 w _ _
 have cx:W0.heap.size=w.heap.size+2:=by rw [←L];simp
 have C0:CellL [(⟨w.heap.size,0,X⟩,Y ga gn gc),(⟨w.heap.size+1,0,X⟩,.string p.name),(⟨w.heap.size+1,1,X⟩,Y sa sn sc),(⟨w.heap.size+1,2,X⟩,Z O p.depth),(⟨w.heap.size+1,3,X⟩,Z O p.density),(⟨w.heap.size+1,4,X⟩,Z O p.gx),(⟨w.heap.size+1,5,X⟩,Z O p.gz),(⟨w.heap.size+1,6,X⟩,Z O p.way),(⟨w.heap.size+1,7,X⟩,Z O p.ax),(⟨w.heap.size+1,8,X⟩,Z O p.az),(⟨w.heap.size+1,9,X⟩,Z C p.skin)] W0.drew:=by
  rw [←L];clear L;refine⟨?_,?_,?_,?_,?_,?_,?_,?_,?_,?_,?_,trivial⟩<;>go_simp
 rw [L];clear L;refine zaN [(8,5,.cells #[Z O 0,Y X 0 0,Z O 0,Y X 0 0] 68 (0,0)),(9,6,.cells #[Z O 0,Y X 0 0,Z O 0,Y X 0 0] 68 (0,0))] _ 10 3 (fun i=>decide (9<i)) (fun i=>i==7) kM kM kM sM kM (by intro x hx;simp only [List.mem_cons,List.not_mem_nil,or_false]at hx;rcases hx with rfl|rfl<;>exact⟨_,rfl,rfl,fun a W=>by go_simp⟩) (fun _ _ d _ _ h=>by cases d<;>exact h) C0 (fun f=>?_);refine tf1 (i:=0) ?_;refine tf1 (i:=2) ?_;refine tf1 (i:=3) ?_;refine cf1 (i:=1) fun W3 ao bH y K c=>?_
 go_simp
 (with_reducible refine cM (aF.out W3 (X0.drew.trans ao)) ?_)
 rintro e w3 ⟨v3,rfl,bm,bo⟩;obtain⟨la,ln,lc,rfl⟩:=bm.form3
 go_wp2_with fail
 refine kO c (.of bH bo) (fun _ _=>?_);clear c K y;refine cf1 (i:=4) fun W4 ap bI y K c=>?_
 go_simp
 (with_reducible refine cM (bV.out W4 _ (((X0.drew.trans ao).trans bo).trans ap) (bm.pr.ext' ap)) ?_)
 rintro e w4 ⟨v4,v5,rfl,bn,⟨xx,bM⟩,bP⟩;obtain⟨⟨s4,a4,m4,c4,t4,e4,i4,j4,rfl⟩,s5,a5,m5,c5,t5,e5,i5,j5,rfl⟩:=And.intro bn.form bM.form
 go_wp2_with fail
 refine kO c (.of bI bP) (fun _ _=>?_);clear c K y;refine tf1 (i:=5) ?_;refine tf1 (i:=6) ?_;refine tf1 (i:=7) ?_;refine df kM (fun W5 aM aH=>?_);intro b5 q5 y5 _ _ b6 q6 y6 z _;have z:b6≠b5:=by simpa using z
 have z5:W0.heap.size≤b5:=by simpa using y5
 have z6:W0.heap.size≤b6:=by simpa using y6
 have X5:Ext W0 W5:=(eR W0).drew.trans aH;have h4:=bn.ext aM;clear ao bo ap bP aM bm bn bM;have xf:=qfB q5;have yf:=qfB q6;have x0:=qcB q5 (i:=0) (u:=Z O 0) rfl;have x1:=qcB q5 (i:=1) (u:=Y X 0 0) rfl;have x2:=qcB q5 (i:=2) (u:=Z O 0) rfl;have x3:=qcB q5 (i:=3) (u:=Y X 0 0) rfl;have u0:=qcB q6 (i:=0) (u:=Z O 0) rfl;have u1:=qcB q6 (i:=1) (u:=Y X 0 0) rfl;have u2:=qcB q6 (i:=2) (u:=Z O 0) rfl;have u3:=qcB q6 (i:=3) (u:=Y X 0 0) rfl;refine cl1 (i:=10) fun K c=>?_
 go_simp;refine kO c (cE f (by(repeat refine Ext.set ?_ (by first|exact y5|exact y6) _);exact aH)) (fun ak=>?_);clear c K;refine cl1 (i:=11) fun K c=>?_
 go_simp;refine kO c (cE f (by(repeat refine Ext.set ?_ (by first|exact y5|exact y6) _);exact aH)) (fun ak=>?_);clear c K;refine wpAnyH_done kM ?_ _;clear x0 x1 x2 x3 u0 u1 u2 u3 xf yf;obtain⟨W7,bh⟩:=gX (stL (stL W5 b5 0 [Z O s4,Y a4 m4 c4,Z O t4,Y e4 i4 j4]) b6 0 [Z O s5,Y a5 m5 c5,Z O t5,Y e5 i5 j5]);have e7:(((((((((W5.setCell ⟨b5,0,X⟩ (Z O s4)).setCell ⟨b5,1,X⟩ (Y a4 m4 c4)).setCell ⟨b5,2,X⟩ (Z O t4)).setCell ⟨b5,3,X⟩ (Y e4 i4 j4))).setCell ⟨b6,0,X⟩ (Z O s5)).setCell ⟨b6,1,X⟩ (Y a5 m5 c5)).setCell ⟨b6,2,X⟩ (Z O t5)).setCell ⟨b6,3,X⟩ (Y e5 i5 j5))=W7:=bh;rw [e7];have TB:=zcZ (cs:=[Z O 0,Y X 0 0,Z O 0,Y X 0 0]) (ds:=[Z O 0,Y X 0 0,Z O 0,Y X 0 0]) [Z O s4,Y a4 m4 c4,Z O t4,Y e4 i4 j4] [Z O s5,Y a5 m5 c5,Z O t5,Y e5 i5 j5] q5 q6 z rfl rfl;rw [bh]at TB;obtain⟨K5,K6,tb,tk,te⟩:=TB;have X7:=te W0 X5 z5 z6;have kp:=tk 3 dM dM;have f5:QX W7 b5 (drN g ps p 0):=by rw [zli];exact⟨_,_,_,_,_,_,_,_,K5,h4.keep kp⟩
 have K0:=X7.heapS k0;have K1:=X7.heapS k1;have bE:=X0.trans X7;have cj:w.heap.size+2≤b5:=oM
 clear bh e7 tb tk te kp h4 X5 q5 q6 K5 K6 k0 k1 aH ak f C0 y5 y6 z6 z5 z X0 X7;go_wp2
 go_loopw [7] (Dq w g ps p b5 (Obj.cells #[Value.slice ga gn gc,Value.slice pa n T] 25) (Obj.cells #[Value.string p.name,Value.slice sa sn sc,Value.int O p.depth,Value.int O p.density,Value.int O p.gx,Value.int O p.gz,Value.int O p.way,Value.int O p.ax,Value.int O p.az,Value.int C p.skin] 31)) (fun t7 _=>n-(intOf t7).toNat)
 case atStart=>exact⟨0,rfl,by omega,bE,K0,K1,f5⟩
 case round =>
  clear bE K0 K1 f5;obtain⟨k,rfl,hk,hx,aJ,l,hX⟩:=hrel;rw [Hn.out]at hk;have HX:=hd9 hX;have b3:=qcB aJ (i:=0) (u:=Y ga gn gc) rfl;have bc:=qcB aJ (i:=1) (u:=Y pa n T) rfl;have aY:=qcB l (i:=0) (u:=.string p.name) rfl;have aZ:=qcB l (i:=1) (u:=Y sa sn sc) rfl;have a0:=qcB l (i:=2) (u:=Z O p.depth) rfl;have a2:=qcB l (i:=3) (u:=Z O p.density) rfl;have a3:=qcB l (i:=4) (u:=Z O p.gx) rfl;have a6:=qcB l (i:=5) (u:=Z O p.gz) rfl;have a7:=qcB l (i:=6) (u:=Z O p.way) rfl;have a8:=qcB l (i:=7) (u:=Z O p.ax) rfl;have ba:=qcB l (i:=8) (u:=Z O p.az) rfl;have bb:=qcB l (i:=9) (u:=Z C p.skin) rfl;have zk:=zaa l;have K1:=hd9 aJ;have K2:=hd9 l;clear aJ l hX
  by_cases ck:k<n
  ·obtain⟨q,ae⟩:∃q,ps[k]?=J q:=⟨_,gE (by rw [Hn.out];omega)⟩
   obtain⟨b,o,v2,rfl,bJ,aK,bN,m⟩:=(HP.out.ext' hx).at' ae;have t:=aS.out q (lM ae);obtain⟨aa,ac,ab,rfl⟩:=aK.form3;have aG:=hd9 (fun W=>zdO W p q (Y sa sn sc) (Y aa ac ab) ⟨_,_,_,rfl⟩ ⟨_,_,_,rfl⟩);have aT:=hd9 (fun W (hW:Ext wr W)=>zeZ W p q (Y sa sn sc) (Y aa ac ab) (Hv.out.ext' (hx.trans hW)) (aK.ext' hW) H1.out t);have bx:=hd9 (fun W (hW:Ext wr W)=>ze1 W (Y aa ac ab) q (aK.ext' hW) t);have bW:=hd9 (fun W va vb (h1:IsPr W va (lowP2 p)) (h2:IsPr W vb (upP2 q)) h3=>ggapT W va vb (lowP2 p) (upP2 q) h1 h2 (zaj H1.out).1 (zaj t).2 (zaL H1.out).1 (zb0 t).1 (znP H1.out t h3));have bZ:=hd9 (zjn (zaj H1.out).1 (zaj t).2);have cd:=hd9 ae;have j0:(0:Int)≤(k:Int):=oM
   have j1:(k:Int)<(n:Int):=oM
   have bl:=fun hc=>zok (g:=g) (p:=p) ae hc
   have ay:=fun hc=>zna (g:=g) (p:=p) ae hc
   obtain⟨mb,bk⟩:=gX (meetB p q);obtain⟨r,hr⟩:=gX (relP p q);have Hr:=hd9 hr;rw [bk,hr]at bl ay;have bw:=hd9 bl;have bA:=hd9 ay;rw [bk]at aG;rw [hr]at aT;clear aK bN ae bk hr t bl ay;unfold plc at m aG aT bx;have d0:=m 0 (.string q.name) rfl;have d1:=m 1 (Y aa ac ab) rfl;have d2:=m 2 (Z O q.depth) rfl;have d3:=m 3 (Z O q.density) rfl;have d4:=m 4 (Z O q.gx) rfl;have d5:=m 5 (Z O q.gz) rfl;have d6:=m 6 (Z O q.way) rfl;have d7:=m 7 (Z O q.ax) rfl;have d8:=m 8 (Z O q.az) rfl;have d9:=m 9 (Z C q.skin) rfl;simp only [Nat.add_zero]at d0;clear m
   cases mb with
   | false =>
    go_wp2;refine wp_region_held_drew (S:=CellL [(⟨w.heap.size,1,X⟩,Y (J ⟨b,o,X⟩) n T),(⟨w.heap.size+1,0,X⟩,.string p.name),(⟨w.heap.size+1,1,X⟩,Y sa sn sc),(⟨w.heap.size+1,2,X⟩,Z O p.depth),(⟨w.heap.size+1,3,X⟩,Z O p.density),(⟨w.heap.size+1,4,X⟩,Z O p.gx),(⟨w.heap.size+1,5,X⟩,Z O p.gz),(⟨w.heap.size+1,6,X⟩,Z O p.way),(⟨w.heap.size+1,7,X⟩,Z O p.ax),(⟨w.heap.size+1,8,X⟩,Z O p.az),(⟨w.heap.size+1,9,X⟩,Z C p.skin),(⟨b,o+k*10,X⟩,.string q.name),(⟨b,o+k*10+1,X⟩,Y aa ac ab),(⟨b,o+k*10+2,X⟩,Z O q.depth),(⟨b,o+k*10+3,X⟩,Z O q.density),(⟨b,o+k*10+4,X⟩,Z O q.gx),(⟨b,o+k*10+5,X⟩,Z O q.gz),(⟨b,o+k*10+6,X⟩,Z O q.way),(⟨b,o+k*10+7,X⟩,Z O q.ax),(⟨b,o+k*10+8,X⟩,Z O q.az),(⟨b,o+k*10+9,X⟩,Z C q.skin)]) kM cA (fun f=>?_);refine sN 0 ?_
    iterate 6
     refine tkn ?_
    refine oN ?_;refine cl1 (i:=6) fun K c=>?_
    go_simp
    (with_reducible refine cM (aG.out wr.drew) ?_)
    rintro e w7 ⟨rfl,s⟩
    go_wp2_with fail
    refine kO c (cE f s) (fun f=>?_);clear c K;refine sN 7 ?_;refine tkn ?_
    iterate 8
     refine tkgn ?_
    refine tkn ?_;refine oN ?_;refine wpAnyH_done kM ?_ _;go_wp2;have e9:=bw.out rfl
    go_roundw
    case rel=>exact⟨k+1,by go_num,by rw [Hn.out];omega,hx.trans ((eR _).drew.trans s),s.heapS K1.out,s.heapS K2.out,by rw [e9];exact HX.out.ext ((eR _).drew.trans s)⟩
    case measure=>simp [intOf];omega
   | true =>
    go_wp2;refine wp_region_held_drew (S:=CellL [(⟨w.heap.size,1,X⟩,Y (J ⟨b,o,X⟩) n T),(⟨w.heap.size+1,0,X⟩,.string p.name),(⟨w.heap.size+1,1,X⟩,Y sa sn sc),(⟨w.heap.size+1,2,X⟩,Z O p.depth),(⟨w.heap.size+1,3,X⟩,Z O p.density),(⟨w.heap.size+1,4,X⟩,Z O p.gx),(⟨w.heap.size+1,5,X⟩,Z O p.gz),(⟨w.heap.size+1,6,X⟩,Z O p.way),(⟨w.heap.size+1,7,X⟩,Z O p.ax),(⟨w.heap.size+1,8,X⟩,Z O p.az),(⟨w.heap.size+1,9,X⟩,Z C p.skin),(⟨b,o+k*10,X⟩,.string q.name),(⟨b,o+k*10+1,X⟩,Y aa ac ab),(⟨b,o+k*10+2,X⟩,Z O q.depth),(⟨b,o+k*10+3,X⟩,Z O q.density),(⟨b,o+k*10+4,X⟩,Z O q.gx),(⟨b,o+k*10+5,X⟩,Z O q.gz),(⟨b,o+k*10+6,X⟩,Z O q.way),(⟨b,o+k*10+7,X⟩,Z O q.ax),(⟨b,o+k*10+8,X⟩,Z O q.az),(⟨b,o+k*10+9,X⟩,Z C q.skin)]) kM cA (fun f=>?_);refine sN 0 ?_
    iterate 6
     refine tkn ?_
    refine oN ?_;refine cl1 (i:=6) fun K c=>?_
    go_simp
    (with_reducible refine cM (aG.out wr.drew) ?_)
    rintro e w7 ⟨rfl,s⟩
    go_wp2_with fail
    refine kO c (cE f s) (fun f=>?_);clear c K;refine sN 7 ?_
    iterate 7
     refine tkn ?_
    refine oN ?_;refine cl1 (i:=14) fun K c=>?_
    go_simp
    (with_reducible refine cM (aT.out w7 ((eR wr).drew.trans s)) ?_)
    rintro e w8 ⟨rfl,aw⟩
    go_wp2_with fail
    refine kO c (cE f aw) (fun f=>?_);clear c K;refine sN 15 ?_
    iterate 2
     refine tkn ?_
    refine oN ?_;refine wpAnyH_done kM ?_ _;have j:Ext wr w8:=((eR _).drew.trans s).trans aw
    by_cases h5:r=3
    ·subst h5
     have e9:=bA.out rfl;have bj:=HX.out.ext j;have F8:=hd9 bj;have cw:b5<w8.heap.size:=by obtain⟨_,_,_,_,_,_,_,_,_,_,_,_,_,yz,_⟩:=bj.rd;exact yz
     have b2:=hx.trans j;have bc:=j.cellS bc
     replace aY:=j.cellS aY
     replace aZ:=j.cellS aZ
     replace a0:=j.cellS a0
     replace a2:=j.cellS a2
     replace a3:=j.cellS a3
     replace a6:=j.cellS a6
     replace a7:=j.cellS a7
     replace a8:=j.cellS a8
     replace ba:=j.cellS ba
     replace bb:=j.cellS bb
     replace d0:=j.cellS d0
     replace d1:=j.cellS d1
     replace d2:=j.cellS d2
     replace d3:=j.cellS d3
     replace d4:=j.cellS d4
     replace d5:=j.cellS d5
     replace d6:=j.cellS d6
     replace d7:=j.cellS d7
     replace d8:=j.cellS d8
     replace d9:=j.cellS d9
     have cb:=j.lt zk;have ca:=j.lt bJ;clear bj f s aw b3;go_wp2
     have C8:CellL [(⟨w.heap.size,1,X⟩,Y (J ⟨b,o,X⟩) n T),(⟨w.heap.size+1,0,X⟩,.string p.name),(⟨w.heap.size+1,1,X⟩,Y sa sn sc),(⟨w.heap.size+1,2,X⟩,Z O p.depth),(⟨w.heap.size+1,3,X⟩,Z O p.density),(⟨w.heap.size+1,4,X⟩,Z O p.gx),(⟨w.heap.size+1,5,X⟩,Z O p.gz),(⟨w.heap.size+1,6,X⟩,Z O p.way),(⟨w.heap.size+1,7,X⟩,Z O p.ax),(⟨w.heap.size+1,8,X⟩,Z O p.az),(⟨w.heap.size+1,9,X⟩,Z C p.skin),(⟨b,o+k*10,X⟩,.string q.name),(⟨b,o+k*10+1,X⟩,Y aa ac ab),(⟨b,o+k*10+2,X⟩,Z O q.depth),(⟨b,o+k*10+3,X⟩,Z O q.density),(⟨b,o+k*10+4,X⟩,Z O q.gx),(⟨b,o+k*10+5,X⟩,Z O q.gz),(⟨b,o+k*10+6,X⟩,Z O q.way),(⟨b,o+k*10+7,X⟩,Z O q.ax),(⟨b,o+k*10+8,X⟩,Z O q.az),(⟨b,o+k*10+9,X⟩,Z C q.skin)] w8.drew:=by
      refine⟨?_,?_,?_,?_,?_,?_,?_,?_,?_,?_,?_,?_,?_,?_,?_,?_,?_,?_,?_,?_,?_,trivial⟩<;>go_simp
     refine zaN [(12,8,.cells #[Z O 0,Y X 0 0,Z O 0,Y X 0 0] 68 (0,0)),(13,9,.cells #[Z O 0,Y X 0 0,Z O 0,Y X 0 0] 68 (0,0))] _ 14 3 (fun i=>decide (13<i)) (fun i=>i==11) kM kM kM sM kM (by intro x hx;simp only [List.mem_cons,List.not_mem_nil,or_false]at hx;rcases hx with rfl|rfl<;>exact⟨_,rfl,rfl,fun a W=>by go_simp⟩) (fun _ _ d _ _ h=>by cases d<;>exact h) C8 (fun f=>?_);refine tf1 (i:=0) ?_;refine tf1 (i:=2) ?_;refine tf1 (i:=3) ?_;refine tf1 (i:=4) ?_;refine tf1 (i:=5) ?_;refine tf1 (i:=6) ?_;refine cf1 (i:=1) fun W9 bG ar y K c=>?_
     go_simp
     (with_reducible refine cM (aF.out W9 (b2.trans ((eR w8).drew.trans ar))) ?_)
     rintro e w9 ⟨v9,rfl,af,aL⟩;obtain⟨la,ln,lc,rfl⟩:=af.form3
     go_wp2_with fail
     refine kO c (.of ar aL) (fun _ _=>?_);clear c K y;refine cf1 (i:=7) fun b0 am R y K c=>?_
     go_simp
     (with_reducible refine cM (bx.out b0 (j.trans ((eR w8).drew.trans R))) ?_)
     rintro e b7 ⟨cr,rfl,au,P⟩;obtain⟨ua,un,uc,rfl⟩:=au.form3
     go_wp2_with fail
     refine kO c (.of R P) (fun _ _=>?_);clear c K y;refine cf1 (i:=8) fun b1 Q aq y K c=>?_
     go_simp
     (with_reducible refine cM (bW.out b1 _ _ (af.pr.ext' (am.trans (P.trans Q))) (au.pr.ext' Q) Hr.out) ?_)
     rintro e cv ⟨ct,cu,rfl,av,⟨xx,aP⟩,aR⟩;obtain⟨⟨aD,ah,aC,ai,aE,aj,aA,aB,rfl⟩,bs,aW,br,aX,bt,be,bp,bq,rfl⟩:=And.intro av.form aP.form
     go_wp2_with fail
     refine kO c (.of aq aR) (fun _ _=>?_);clear c K y;refine tf1 (i:=9) ?_;refine tf1 (i:=10) ?_;refine tf1 (i:=11) ?_;refine df kM (fun aV an ad=>?_);intro b8 q8 y8 _ _ b9 q9 y9 z _;have z:b9≠b8:=by simpa using z
     have z8:w8.heap.size≤b8:=by simpa using y8
     have z9:w8.heap.size≤b9:=by simpa using y9
     have bB:Ext w8 aV:=(eR w8).drew.trans ad;have bg:=av.ext an;clear bG aL am P Q aR an af au av aP ar R aq;have xf:=qfB q8;have yf:=qfB q9;have x0:=qcB q8 (i:=0) (u:=Z O 0) rfl;have x1:=qcB q8 (i:=1) (u:=Y X 0 0) rfl;have x2:=qcB q8 (i:=2) (u:=Z O 0) rfl;have x3:=qcB q8 (i:=3) (u:=Y X 0 0) rfl;have u0:=qcB q9 (i:=0) (u:=Z O 0) rfl;have u1:=qcB q9 (i:=1) (u:=Y X 0 0) rfl;have u2:=qcB q9 (i:=2) (u:=Z O 0) rfl;have u3:=qcB q9 (i:=3) (u:=Y X 0 0) rfl;refine cl1 (i:=14) fun K c=>?_
     go_simp;refine kO c (cE f (by(repeat refine Ext.set ?_ (by first|exact y8|exact y9) _);exact ad)) (fun ak=>?_);clear c K;refine cl1 (i:=15) fun K c=>?_
     go_simp;refine kO c (cE f (by(repeat refine Ext.set ?_ (by first|exact y8|exact y9) _);exact ad)) (fun ak=>?_);clear c K;refine wpAnyH_done kM ?_ _;clear x0 x1 x2 x3 u0 u1 u2 u3 xf yf;obtain⟨ag,al⟩:=gX (stL (stL aV b8 0 [Z O aD,Y ah aC ai,Z O aE,Y aj aA aB]) b9 0 [Z O bs,Y aW br aX,Z O bt,Y be bp bq]);have bF:(((((((((aV.setCell ⟨b8,0,X⟩ (Z O aD)).setCell ⟨b8,1,X⟩ (Y ah aC ai)).setCell ⟨b8,2,X⟩ (Z O aE)).setCell ⟨b8,3,X⟩ (Y aj aA aB))).setCell ⟨b9,0,X⟩ (Z O bs)).setCell ⟨b9,1,X⟩ (Y aW br aX)).setCell ⟨b9,2,X⟩ (Z O bt)).setCell ⟨b9,3,X⟩ (Y be bp bq))=ag:=al;rw [bF];have TB:=zcZ (cs:=[Z O 0,Y X 0 0,Z O 0,Y X 0 0]) (ds:=[Z O 0,Y X 0 0,Z O 0,Y X 0 0]) [Z O aD,Y ah aC ai,Z O aE,Y aj aA aB] [Z O bs,Y aW br aX,Z O bt,Y be bp bq] q8 q9 z rfl rfl;rw [al]at TB;obtain⟨K8,K9,tb,tk,te⟩:=TB;have bC:=te w8 bB z8 z9;have kp:=tk 3 dM dM;have f8:QX ag b8 (gapT (lowP2 p) (upP2 q)):=⟨_,_,_,_,_,_,_,_,K8,bg.keep kp⟩;have bi:=F8.out.ext bC;have F5:=hd9 bi;have bY:=hd9 (bg.keep kp);have v0:=qcB K8 (i:=0) (u:=Z O aD) rfl;have v1:=qcB K8 (i:=1) (u:=Y ah aC ai) rfl;have v2:=qcB K8 (i:=2) (u:=Z O aE) rfl;have v3:=qcB K8 (i:=3) (u:=Y aj aA aB) rfl;have vz:=zaa K8;have bz:=hd9 bC;clear al bF tb tk te kp bg bB q8 q9 K8 K9 ad ak f C8 y8 y9 z9 z f8;obtain⟨s1,a1,m1,c1,t1,e1,i1,j1,y0,y1,y2,y3,yf,yz,hI⟩:=bi.rd;have bX:=hd9 hI;clear bi hI yf aY aZ a0 a2 a3 a6 a7 a8 ba bb d0 d1 d2 d3 d4 d5 d6 d7 d8 d9 bc cb ca bJ zk;have aU:=hd9 (zmn (g:=g) (ps:=ps) bv.out aS.out H1.out k)
     go_wp2_with(go_at_call 68;(refine(znn _ ag.heap.size (drN g ps p k) (gapT (lowP2 p) (upP2 q)) s1 t1 aD aE a1 e1 ah aj m1 c1 i1 j1 aC ai aA aB ?_ (bX.out.ext ((eR _).alloc _)) (bY.out.ext ((eR _).alloc _)) (aU.out.mono dM) (bZ.out.mono dM)).mono ?_);(refine⟨?_,?_,?_,?_,?_,?_,?_,?_,trivial⟩<;>go_simp);rintro e bQ ⟨co,rfl,aQ,bO⟩;obtain⟨cp,ce,cn,cf,cq,cg,cl,cm,rfl⟩:=aQ.form;(have bD:Ext ag bQ:=((eR ag).alloc _).trans bO);(have bf:=F5.out.ext bD);(have bT:=hd9 bf);clear y0 y1 y2 y3 yz v0 v1 v2 v3 vz;(obtain⟨_,_,_,_,_,_,_,_,y0,y1,y2,y3,yf,yz,-⟩:=bf.rd);clear bf)
     have XE:Ext wr bQ:=j.trans (bz.out.trans bD)
     go_roundw
     case rel=>exact⟨k+1,by go_num,by rw [Hn.out];omega,zaQ (hx.trans XE) oM _ _ _ _,zb9 (XE.heapS K1.out) oM _ _ _ _,zb9 (XE.heapS K2.out) oM _ _ _ _,by rw [e9];exact bT.out.put aQ⟩
     case measure=>simp [intOf];omega
    ·go_wp2
     have e9:=bw.out (by rw [beq_false_of_ne h5];rfl)
     go_roundw
     case rel=>exact⟨k+1,by go_num,by rw [Hn.out];omega,hx.trans j,aw.heapS (s.heapS K1.out),aw.heapS (s.heapS K2.out),by rw [e9];exact HX.out.ext j⟩
     case measure=>simp [intOf];omega
  ·obtain rfl:k=n:=oM
   obtain⟨s1,a1,m1,c1,t1,e1,i1,j1,y0,y1,y2,y3,yf,yz,hI⟩:=HX.out.rd;have HI:=hd9 hI;have aU:=hd9 (zmn (g:=g) (ps:=ps) bv.out aS.out H1.out k);obtain⟨ch,ci⟩:=bu.out;clear hI
   go_wp2_with(first|(go_at_call 70;(with_reducible refine(zlv _ (I #[Z O s1,Y a1 m1 c1,Z O t1,Y e1 i1 j1]) (drN g ps p k) HI.out (aU.out.mono dM)).mono ?_);rw [bU.out];rintro e w9 ⟨r9,rfl,af,aL⟩;obtain⟨s9,a9,m9,c9,rfl,-⟩:=af.form2)|(go_at_call 69;(with_reducible refine(zlz _ _ D af oM oM).mono ?_);rintro e b7 ⟨rfl,P⟩))
   go_ret;exact⟨rfl,hx.trans (aL.trans P)⟩
end
section
open Go.RowKit Go.Shelf Go.Sort Go.Lib
attribute [local go_sem] Oper.semAt_some
theorem zlj {g:List (Int×Int)} {ps:List Pl} (h:fewB g ps=true):∀p∈ps,p.name.size≤1000000:=by
 unfold fewB at h;simp only [Bool.and_eq_true,Bool.not_eq_true',List.any_eq_false,decide_eq_true_eq]at h;intro p a;have:=h.1 p a;unfold longB at this;simp at this;omega
theorem zeW {g:List (Int×Int)} {ps:List Pl} {p:Pl} (h:dropE g ps p=0):laidP g ps=0∧placedOk p=true∧holdsB g p=true∧ps.any (nameB p.name)=false∧clearB g ps p=true:=by
 unfold dropE at h
 by_cases a:laidP g ps=0
 ·rw [if_neg (by simpa using a)]at h
  cases h1:placedOk p with
  | false=>rw [if_pos h1]at h;cases h
  | true =>
   rw [if_neg (by rw [h1];decide)]at h
   cases h2:holdsB g p with
   | false=>rw [if_pos h2]at h;cases h
   | true =>
    rw [if_neg (by rw [h2];decide)]at h
    cases h3:ps.any (nameB p.name)with
    | true=>rw [if_pos h3]at h;cases h
    | false =>
     rw [if_neg (by rw [h3];decide)]at h
     cases h4:clearB g ps p with
     | false=>rw [if_pos h4]at h;cases h
     | true=>exact⟨a,rfl,rfl,rfl,rfl⟩
 ·rw [if_pos a]at h
  exact absurd h a
theorem zig (w:V) (d f:Value) (g:List (Int×Int)) (ps:List Pl) (b:IsPr w d g) (c:IsWr w f ps) (a:∀p∈ps,p.name.size≤1000000) (j:g.length≤1000000) :
  Calls Tryz.prog 13 #[I #[d,f]] w fun e m=>e = .returned (Z O (laidP g ps))∧Ext w m:=by
 have i:=hd9 (fun W (h:Ext w W)=>zh9 W d f g ps (b.ext' h) (c.ext' h) a j);obtain⟨n,q,o,rfl⟩:=b.form3;obtain⟨r,s,l,rfl⟩:=c.form3;clear b c a;go_enter Tryz.func13,Tryz.ntmps13
 go_wp2_with(go_at_call 64;(with_reducible refine(i.out _ ?_).mono ?_);exact eA;rintro e t ⟨rfl,k⟩)
 go_ret;exact⟨rfl,eA⟩
theorem zjb (w:V) (vg vp v:Value) (g:List (Int×Int)) (ps:List Pl) (p:Pl) (hg:IsPr w vg g) (hp:IsWr w vp ps) (hv:IsPr w v p.shape) (hk:0≤p.skin) (am:Gw w) :
  Calls Tryz.prog 3 #[I #[vg,vp],I (plc p v)] w fun e w'=>e = .returned (.bool true)∧Ext w w':=by
 have HF:=hd9 (fun(W:V) (c:Ext w W)=>znh W vg vp g ps (hg.ext' c) (hp.ext' c));have HL:=hd9 (fun(W:V) (c:Ext w W)=>zhm W p.name v p.shape p.depth p.density p.gx p.gz (hv.ext' c));have HW:=hd9 (fun(hf:fewB g ps=true) (W:V) (c:Ext w W)=>zkT W vg vp g ps (hg.ext' c) (hp.ext' c) (zdJ hf).1 (by have:=(zdJ hf).2.1;omega) (zdJ hf).2.2);have HP:=hd9 (fun(hl:longB p=false) (W:V) (c:Ext w W)=>zd2 W p.name v p.shape p.depth p.density p.gx p.gz p.way p.ax p.az p.skin (hv.ext' c) (by unfold longB at hl;simp at hl;omega));have z:=hd9 (fun(hf:fewB g ps=true) (W:V) (c:Ext w W)=>zig W vg vp g ps (hg.ext' c) (hp.ext' c) (zlj hf) (by have:=(zdJ hf).1;omega));have y:=hd9 (fun(hf:fewB g ps=true) (hl:longB p=false) (hz:laidP g ps=0) (W:V) (c:Ext w W)=>zjr W vg vp v g ps p (hg.ext' c) (hp.ext' c) (hv.ext' c) (by unfold longB at hl;simp at hl;omega) (by have:=(zdJ hf).1;omega) hz);have k:=hd9 (fun(hz:dropE g ps p=0) (W:V) (c:Ext w W)=>zia W vg vp v g ps p (hg.ext' c) (hp.ext' c) (hv.ext' c) (zeW hz).1 (zeW hz).2.1 (zeW hz).2.2.1 (zeW hz).2.2.2.2);have HA:=hd9 (fun(W:V) (c:Ext w W)=>zhW W (am.ext c));have HG:=hd9 am;have D:=hd9 (show longB p=(decide (20<p.shape.length) || decide (40<p.name.size))from rfl);obtain⟨ga,gc,rfl⟩:=hg.form;obtain⟨pa,aG,rfl⟩:=hp.form;obtain⟨sa,aH,rfl⟩:=hv.form;obtain⟨gn,ac⟩:=gX g.length;obtain⟨pn,ad⟩:=gX ps.length;obtain⟨sn,ae⟩:=gX p.shape.length;rw [ac,ad]at HF HW z;rw [ae]at HL HP D;rw [ac,ad,ae]at y k;rw [ac,ad,ae];obtain⟨lg,aE⟩:=gX ((decide (20<sn) || decide (40<p.name.size)));rw [aE]at HL D;obtain⟨fw,aD⟩:=gX (fewB g ps);rw [aD]at HF HW z y;have Hk:=hd9 hk;clear hg hp hv am ac ad ae aE hk aD;unfold plc
 by_cases r:fw=false∨lg=true
 ·clear HW HP z y k
  have key:fw=false∨(fw=true∧lg=true):=by
   rcases r with h|h
   ·exact .inl h
   ·cases fw
    ·exact .inl rfl
    ·exact .inr ⟨rfl,h⟩
  clear r
  rcases key with rfl|⟨rfl,rfl⟩
  all_goals
   go_enter Tryz.func3,Tryz.ntmps3
   go_wp2_with(first|(go_at_call 7;(with_reducible refine(HF.out _ ?_).mono ?_);exact eA;rintro e w1 ⟨rfl,af⟩;obtain⟨⟨ay,aC⟩,aj,ak⟩:=cK2 w af)|(go_at_call 8;(with_reducible refine(HL.out _ ?_).mono ?_);exact eA;rintro e w2 ⟨rfl,ap⟩)|(go_at_call 9;(with_reducible refine(HA.out _ ?_).mono ?_);exact eA;rintro e w3 ⟨rfl,u⟩))
   go_ret;exact⟨rfl,eA⟩
 ·obtain⟨rfl,rfl⟩:fw=true∧lg=false:=by
   cases fw<;>cases lg<;>simp at r ⊢
  have aw:=hd9 (HW.out rfl);clear HW;have av:=hd9 (HP.out D.out);have q:=hd9 (z.out rfl);have o:=hd9 (y.out rfl D.out);clear r D HP z y;unfold plc at o k;obtain⟨E,hE⟩:=gX (dropE g ps p);obtain⟨E1,ab⟩:=gX (laidP g ps);obtain⟨N,hN⟩:=gX (dropP g ps p)
  have aB:E1≠0→E=E1:=by
   intro h;rw [←hE,←ab];unfold dropE;rw [if_pos (by rw [ab];exact h)]
  have au:=hd9 aB;rw [hE]at k;simp only [hE,ab,hN]at q o k
  have aA:∀(W:V) (ag ah v':Value),IsPts W ag g→IsPls W ah ps→IsPts W v' p.shape→Gw W→Calls Tryz.prog 10 #[I #[ag,ah],I (plc p v')] W fun e w'=>e = .returned (.tuple #[Z O (if E=0 then N else 0),Z O E])∧Ext W w':=fun W ag ah v' h1 h2 h3 h4=>by
   have:=zg0 W ag ah v' g ps p h1 h2 h3 Hk.out h4;unfold RetDr at this;rw [hE,hN]at this;exact this
  have aa:=hd9 aA;unfold plc at aa;clear hE ab hN aB aA;obtain⟨M,hM⟩:=gX ((if E=0 then N else 0));rw [hM]at aa;have HM:=hd9 hM;clear hM;go_enter Tryz.func3,Tryz.ntmps3
  go_upto_region 3 with (first|(go_at_call 7;(with_reducible refine(HF.out _ ?_).mono ?_);exact eA;rintro e w1 ⟨rfl,af⟩;obtain⟨⟨ay,aC⟩,aj,ak⟩:=cK2 w af)|(go_at_call 8;(with_reducible refine(HL.out _ ?_).mono ?_);exact eA;rintro e w2 ⟨rfl,ap⟩;obtain⟨⟨aP,aQ⟩,aI,aJ⟩:=cK2 w ap))
  have X2:Ext w w2:=eA
  have C2:CellL [(⟨w.heap.size,0,X⟩,Y ga gn gc),(⟨w.heap.size,1,X⟩,Y pa pn aG),(⟨w.heap.size+1,0,X⟩,.string p.name),(⟨w.heap.size+1,1,X⟩,Y sa sn aH),(⟨w.heap.size+1,2,X⟩,Z O p.depth),(⟨w.heap.size+1,3,X⟩,Z O p.density),(⟨w.heap.size+1,4,X⟩,Z O p.gx),(⟨w.heap.size+1,5,X⟩,Z O p.gz),(⟨w.heap.size+1,6,X⟩,Z O p.way),(⟨w.heap.size+1,7,X⟩,Z O p.ax),(⟨w.heap.size+1,8,X⟩,Z O p.az),(⟨w.heap.size+1,9,X⟩,Z C p.skin)] w2.drew:=by
   refine⟨?_,?_,?_,?_,?_,?_,?_,?_,?_,?_,?_,?_,trivial⟩<;>go_simp
  clear af ap ay aC aP aQ aj ak aI aJ HF HL;refine wp_region_held_drew (S:=CellL [(⟨w.heap.size,0,X⟩,Y ga gn gc),(⟨w.heap.size,1,X⟩,Y pa pn aG),(⟨w.heap.size+1,0,X⟩,.string p.name),(⟨w.heap.size+1,1,X⟩,Y sa sn aH),(⟨w.heap.size+1,2,X⟩,Z O p.depth),(⟨w.heap.size+1,3,X⟩,Z O p.density),(⟨w.heap.size+1,4,X⟩,Z O p.gx),(⟨w.heap.size+1,5,X⟩,Z O p.gz),(⟨w.heap.size+1,6,X⟩,Z O p.way),(⟨w.heap.size+1,7,X⟩,Z O p.ax),(⟨w.heap.size+1,8,X⟩,Z O p.az),(⟨w.heap.size+1,9,X⟩,Z C p.skin)]) kM C2 (fun n=>?_);refine tk1 (i:=0) ?_;refine tk1 (i:=2) ?_;refine cl1 (i:=1) fun K hK=>?_
  go_simp
  (with_reducible refine cM (aw.out _ X2.drew) ?_)
  rintro e w3 ⟨a2,a3,L3,rfl,al,aM,an,u⟩
  (obtain⟨⟨aT,aV,aU,rfl⟩,aW,aY,aX,rfl⟩:=And.intro al.form3 (form3 an.own.pls))
  go_wp2_with fail
  refine kO hK (cE n u) (fun n=>?_);clear hK K;refine cl1 (i:=3) fun K hK=>?_
  go_simp
  (with_reducible refine cM (av.out w3 (X2.drew.trans u)) ?_)
  rintro e w4 ⟨v4,rfl,ao,x,aO⟩
  (obtain⟨aZ,a1,a0,rfl⟩:=form3 ao)
  go_wp2_with fail
  refine kO hK (cE n x) (fun n=>?_);clear hK K;refine cl1 (i:=4) fun K hK=>?_
  go_simp
  (with_reducible refine cM (aa.out w4 _ _ _ (al.ext x).pts (an.own.pls.ext' x) ao (HG.out.ext ((X2.drew.trans u).trans x))) ?_)
  rintro e w5 ⟨rfl,aq⟩
  (skip)
  go_wp2_with fail
  refine kO hK (cE n aq) (fun n=>?_);clear hK K;refine sN 5 ?_
  iterate 5
   refine tkn ?_
  refine oN ?_;refine wpAnyH_done kM ?_ _;have X5:Ext w w5:=((X2.drew.trans u).trans x).trans aq;have s:=hd9 X5;clear u x aq al an ao aM aO C2 X2 aw av aa;obtain⟨l,P,m,Q,R,T,c6,c7,c8,c9,d,f,_⟩:=n
  by_cases h1:E1=0
  ·subst h1
   clear au;have ai:=hd9 (o.out rfl);clear o
   by_cases h2:E=0
   ·subst h2
    have ar:=hd9 (k.out rfl);clear k;have hm:N=M:=by rw [←HM.out,if_pos rfl]
    subst hm
    go_wp2_with(first|(go_at_call 13;(with_reducible refine(q.out _ s.out).mono ?_);rintro e w6 ⟨rfl,a⟩;(replace l:=a.cellS l);(replace P:=a.cellS P);(replace m:=a.cellS m);(replace Q:=a.cellS Q);(replace R:=a.cellS R);(replace T:=a.cellS T);(replace c6:=a.cellS c6);(replace c7:=a.cellS c7);(replace c8:=a.cellS c8);(replace c9:=a.cellS c9);(replace d:=a.cellS d);(replace f:=a.cellS f);(have j:=hd9 (s.out.trans a));(have aL:=World.block_lt_of_cell? w6 _ l);(have aK:=World.block_lt_of_cell? w6 _ m))|(go_at_call 14;(with_reducible refine(ai.out _ j.out).mono ?_);rintro e w7 ⟨rfl,b⟩;(replace l:=b.cellS l);(replace P:=b.cellS P);(replace m:=b.cellS m);(replace Q:=b.cellS Q);(replace R:=b.cellS R);(replace T:=b.cellS T);(replace c6:=b.cellS c6);(replace c7:=b.cellS c7);(replace c8:=b.cellS c8);(replace c9:=b.cellS c9);(replace d:=b.cellS d);(replace f:=b.cellS f);(have t:=hd9 (j.out.trans b));(have aS:=World.block_lt_of_cell? w7 _ l);(have aR:=World.block_lt_of_cell? w7 _ m))|(go_at_call 15;(with_reducible refine(ar.out _ t.out).mono ?_);rintro e w8 ⟨rfl,aF⟩)|(go_at_call 9;(with_reducible refine(HA.out _ (t.out.trans aF)).mono ?_);rintro e w9 ⟨rfl,L⟩))
    go_ret;exact⟨rfl,(t.out.trans aF).trans L⟩
   ·have hm:0=M:=by rw [←HM.out,if_neg h2]
    subst hm
    go_wp2_with(first|(go_at_call 13;(with_reducible refine(q.out _ s.out).mono ?_);rintro e w6 ⟨rfl,a⟩;(replace l:=a.cellS l);(replace P:=a.cellS P);(replace m:=a.cellS m);(replace Q:=a.cellS Q);(replace R:=a.cellS R);(replace T:=a.cellS T);(replace c6:=a.cellS c6);(replace c7:=a.cellS c7);(replace c8:=a.cellS c8);(replace c9:=a.cellS c9);(replace d:=a.cellS d);(replace f:=a.cellS f);(have j:=hd9 (s.out.trans a));(have aL:=World.block_lt_of_cell? w6 _ l);(have aK:=World.block_lt_of_cell? w6 _ m))|(go_at_call 14;(with_reducible refine(ai.out _ j.out).mono ?_);rintro e w7 ⟨rfl,b⟩;(replace l:=b.cellS l);(replace P:=b.cellS P);(replace m:=b.cellS m);(replace Q:=b.cellS Q);(replace R:=b.cellS R);(replace T:=b.cellS T);(replace c6:=b.cellS c6);(replace c7:=b.cellS c7);(replace c8:=b.cellS c8);(replace c9:=b.cellS c9);(replace d:=b.cellS d);(replace f:=b.cellS f);(have t:=hd9 (j.out.trans b));(have aS:=World.block_lt_of_cell? w7 _ l);(have aR:=World.block_lt_of_cell? w7 _ m))|(go_at_call 9;(with_reducible refine(HA.out _ (t.out)).mono ?_);rintro e w9 ⟨rfl,L⟩))
    go_ret;exact⟨rfl,t.out.trans L⟩
  ·have e:=au.out h1
   subst e;have hm:0=M:=by rw [←HM.out,if_neg h1]
   subst hm
   go_wp2_with(first|(go_at_call 13;(with_reducible refine(q.out _ s.out).mono ?_);rintro e w6 ⟨rfl,a⟩;(replace l:=a.cellS l);(replace P:=a.cellS P);(replace m:=a.cellS m);(replace Q:=a.cellS Q);(replace R:=a.cellS R);(replace T:=a.cellS T);(replace c6:=a.cellS c6);(replace c7:=a.cellS c7);(replace c8:=a.cellS c8);(replace c9:=a.cellS c9);(replace d:=a.cellS d);(replace f:=a.cellS f);(have j:=hd9 (s.out.trans a));(have aL:=World.block_lt_of_cell? w6 _ l);(have aK:=World.block_lt_of_cell? w6 _ m))|(go_at_call 9;(with_reducible refine(HA.out _ (j.out)).mono ?_);rintro e w9 ⟨rfl,L⟩))
   go_ret;exact⟨rfl,j.out.trans L⟩
end
end Go.Proofs.YtjnjpagegkcgfaaGreatDoor.Cop
