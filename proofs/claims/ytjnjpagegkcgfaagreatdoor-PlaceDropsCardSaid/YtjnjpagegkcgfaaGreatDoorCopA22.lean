/- Part 23: contracts of what the law calls. -/
import Derived.Test.YtjnjpagegkcgfaaGreatDoorCopA20
import Derived.Test.YtjnjpagegkcgfaaGreatDoorCopA21
import Derived.Test.YtjnjpagegkcgfaaGreatDoorCopA07
set_option maxRecDepth 1000000
set_option maxHeartbeats 16000000
set_option linter.unusedSimpArgs false
set_option linter.unusedVariables false
open Go.Value renaming slice→O,int→V,pointer→M,agg→N,bool→C
open Go renaming World→Y,Value→X
open Option renaming none→Z,some→J
open Go.IntKind renaming i64→I
namespace Go.Proofs.YtjnjpagegkcgfaaGreatDoor.Cop
section
open Go.RowKit Go.Shelf
attribute [local go_sem] Oper.semAt_some
theorem zjc (w:Y) (va:X) (n0:Nat) (ha:IsD w va n0) (hl:Lm limT n0) :
  Calls Tryz.prog 211 #[va] w fun e w'=>e = .returned (.string ⟨(textN n0).toArray⟩)∧Ext w w':=by
 obtain⟨a0,m0,c0,rfl⟩:=ha.form;have Hl:=hd9 hl;have Ha:=hd9 ha;obtain⟨Tx,af⟩:=gX (textN n0);rw [af];have aj:=hd9 af;clear ha hl af;go_enter Tryz.func211,Tryz.ntmps211;go_wp2
 go_loopg [3] n0 (TxS w n0)
 case atStart=>exact⟨n0,n0+1,[],a0,m0,c0,rfl,by omega,by rw [List.append_nil],by simp,by simp,fun s hs=>(by cases hs),(eR _).alloc _,aN _ _,Ha.out.ext ((eR _).alloc _),OwnC.nil _ _ _ _,by simp⟩
 case round =>
  obtain⟨n,k,ps,a,m,c,hg,hk,aa,ag,ab,h7,hx,hb,hd,ho,hz⟩:=hrel;have Hx:=hd9 hx;have Hd:=hd9 hd;have k1:=cell_of_one hb;have kf:=free_of_one hb;have kf:=free_of_one hb
  by_cases h0:n=0
  ·have aC:((n:Int)==0)=true:=by simp [h0]
   have av:chunksF (n0+1) n0=ps:=by rw [aa,h0,zcp,List.nil_append]
   have HJ:=hd9 (fun(W:Y) (hW:Ext wr W)=>zlD W u3 w.heap.size ps (ho.ext hW) ag h7);obtain⟨va,vn,vc,rfl⟩:=ho.form3;obtain⟨T,hT⟩:=gX (Lib.trimLeftB ps.flatten 48);have aw:Tx=if T=[]then [48]else T:=by rw [←aj.out];unfold textN;rw [av,hT]
   have HT:=hd9 hT;have ak:=hd9 aw;clear hg hk aa ag ab h7 hd ho av hT aw aj
   cases T with
   | nil =>
    go_wp2_with(first|((go_at_call 166;(with_reducible refine(zaA _ (N #[O a m c]) n ?_).mono ?_);(refine Hd.out.ext ?_;exact eA);rintro e w1 ⟨rfl,ac⟩))|(go_at_call 250;(with_reducible refine(HJ.out _ ?_).mono ?_);exact eA;rintro e g ⟨rfl,ad⟩)|(go_at_call 249;(with_reducible refine(Tryz.strings_TrimLeft_one _ 48 dM _).mono ?_);rintro e w3 ⟨rfl,rfl⟩;rw [HT.out]))
    go_ret;have e:Tx=[48]:=by have:=ak.out;simpa using this
    exact⟨by rw [e];rfl,Hx.out.trans eA⟩
   | cons t T =>
    go_wp2_with(first|((go_at_call 166;(with_reducible refine(zaA _ (N #[O a m c]) n ?_).mono ?_);(refine Hd.out.ext ?_;exact eA);rintro e w1 ⟨rfl,ac⟩))|(go_at_call 250;(with_reducible refine(HJ.out _ ?_).mono ?_);exact eA;rintro e g ⟨rfl,ad⟩)|(go_at_call 249;(with_reducible refine(Tryz.strings_TrimLeft_one _ 48 dM _).mono ?_);rintro e w3 ⟨rfl,rfl⟩;rw [HT.out]))
    go_ret;have e:Tx=t::T:=by have:=ak.out;simpa using this
    exact⟨by rw [e];rfl,Hx.out.trans eA⟩
  ·have aC:((n:Int)==0)=false:=by simp [h0]
   obtain⟨k',al,am,an,ao⟩:=TxS.step Hl.out h0 hk aa ab
   have ap:Lm limA (n:Int):=by
    have R:=Hl.out;have h8:n≤n0:=nT (Nat.le_mul_of_pos_right _ (Nat.pow_pos dM)) ab;have h7:Lm limA (n0:Int):=R.mono dM;exact⟨by have:=h7.1;have:(0:Int)≤B ^ limA:=Int.le_of_lt (zaq zbr _);omega,by have:=h7.2;omega⟩
   have aA:=hd9 ap;have ae:Hid (n / 10000000<k'∧chunksF (n0+1) n0=chunksF k' (n / 10000000)++(fix7 (n % 10000000)::ps)∧(fix7 (n % 10000000)::ps).length≤2*limT∧n / 10000000*2 ^ (23*(fix7 (n % 10000000)::ps).length)≤n0):=hd9 ⟨al,am,an,ao⟩;have az:=hd9 (show Lm limA 10000000 from Lm.mono (j:=1) ⟨by decide,by decide⟩ dM);clear ap al am an ao aa ag ab;obtain⟨f,aL⟩:=gX (n % 10000000);have aO:(n:Int) % 10000000=(f:Int):=oM
   have au:Lm 2 (f:Int):=⟨by unfold B;omega,by unfold B;omega⟩;have aB:=hd9 au;clear au
   go_upto_region 5 with (first|((go_at_call 166;(with_reducible refine(zaA _ (N #[O a m c]) n ?_).mono ?_);(refine Hd.out.ext ?_;exact eA);rintro e w1 ⟨rfl,ac⟩;obtain⟨aE,aH⟩:=ac.cells;(have z1:w.heap.size<w1.heap.size:=by have:=ac.size;omega)))|((go_at_call 182;(with_reducible refine(zht _ (N #[O a m c]) (N #[O (J ⟨w1.heap.size,0,Z⟩) 1 1]) n 10000000 ?_ ?_ aA.out az.out dM).mono ?_);(refine Hd.out.ext ?_;exact eA);(exact znF w1 dM dM);rintro e g ⟨q,r,rfl,hq,hr,ad⟩;rw [aO]at hr;obtain⟨⟨P,mq,Q,rfl⟩,⟨ar,mr,cr,rfl⟩⟩:=And.intro hq.isD.form hr.isD.form;obtain⟨aF,aI⟩:=ad.cells;(have z2:w.heap.size<g.heap.size:=by have:=ad.size;simp only [wZ]at this;omega)))|((go_at_call 138;(with_reducible refine(zc3 _ (N #[O ar mr cr]) (f:Int) ?_ aB.out).mono ?_);(refine hr.isD.ext ?_;exact eA);rintro e w3 ⟨rfl,ah⟩;(have z3:g.heap.size+1+1≤w3.heap.size:=by have:=ah.size;simp only [wZ]at this;omega))))
   clear aE aH aF aI;have X3:Ext wr w3:=eA;obtain⟨wo,rfl⟩:∃W,W=wr:=⟨_,rfl⟩;have aR:=mk7;go_wp2
   go_loopg [6,25] 7 (TiS w3 f w3.heap.size)
   case atStart=>exact⟨0,by omega,rfl,rfl,by rw [Nat.pow_zero,Nat.div_one],(eR _).alloc _,aN _ _⟩
   case round =>
    obtain⟨i,hi,aQ,rfl,rfl,d,o⟩:=hrel
    by_cases aJ:i<7
    ·obtain⟨x,ai⟩:=gX (f / 10 ^ i)
     rw [ai]
     have aS:x<10000000:=by
      have:f / 10 ^ i≤f:=Nat.div_le_self _ _;omega
     obtain⟨j,hj⟩:=gX (6-i);obtain⟨u,hu⟩:∃u,(fixA f i)[j]?=J u:=⟨_,Array.getElem?_eq_getElem (by unfold fixA;rw [List.size_toArray,lL,zg6];omega)⟩;have ki:=qcB o hu;have aV:=qfB o;have e6:IntKind.i64.wrap (6-(i:Int))=(j:Int):=by rw [iW _ oM];omega
     obtain⟨y,hy⟩:=gX (48+x % 10);have e7:IntKind.u64.wrap (48+(x:Int) % 10)=(y:Int):=by rw [IntWalk.u64_in _ oM];omega
     have e8:IntKind.u8.wrap (y:Int)=(y:Int):=IntWalk.u8_in _ oM;have z9:=d.size;go_wp2
     go_roundg (7-(i+1))
     case measure=>omega
     case rel =>
      refine⟨i+1,by omega,rfl,by go_num,?_,d.set (nE _) _,?_⟩
      ·rw [show f / 10 ^ (i+1)=x / 10 by rw [Nat.pow_succ,←Nat.div_div_eq_div_mul,ai]]
       simp
      ·have R:=zlm f aJ
       rw [ai,hy,hj]at R;rw [←R];simp [World.setCell,Array.getElem?_modify,o]
    ·obtain rfl:i=7:=oM
     have ay:=hd9 o;clear o
     go_upto_region 12 with fail
     have aG:(convert 308 9 (O (J ⟨w3.heap.size,0,Z⟩) 7 7)).run Tryz.prog wr.drew = .ok (.string ⟨(fix7 f).toArray⟩) wr.drew:=conv7 (W:=wr.drew) ay.out
     have c4:wr.cell? ⟨g.heap.size,0,Z⟩=J (O P mq Q):=by
      have h1:(g.alloc (.cells #[O P mq Q] 59)).cell? ⟨g.heap.size,0,Z⟩=J (O P mq Q):=by go_simp
      exact d.cellS (ah.cellS (Ext.cellS ((eR _).alloc _) h1))
     refine wp_region_held_drew (S:=CellL [(⟨g.heap.size,0,Z⟩,O P mq Q)]) kM cA (fun b=>?_);refine tk1 (i:=0) ?_;refine tk1 (i:=3) ?_;refine tk1 (i:=5) ?_;refine cl1 (i:=1) fun K h=>?_
     go_simp;refine kO h b (fun b=>?_);clear h K aG;refine cl1 (i:=2) fun K h=>?_
     go_simp;refine kO h (cE b ((eR _).alloc _)) (fun b=>?_);clear h K;refine cl1 (i:=4) fun K h=>?_
     have hA:Ext w wr:=Hx.out.trans (X3.trans d);refine zkJ (T:=9) (t:=307) (z:=.string ⟨#[]⟩) (k:=1) (bytes:=16) (v:=O (J ⟨wr.heap.size,0,Z⟩) 1 1) (base:=w.heap.size) zlB rfl dM dM Tryz.underlying307 rfl _ _ rfl rfl (zoO (fix7 f) hA.size) rfl (ps.map sc) zoY ((ho.ext (((X3.trans d).alloc _).drew)).rd) zoZ ?_ ?_ ?_
     ·rw [lL,List.length_singleton]
      have R:=ae.out.2.2.1;unfold limT at R;rw [List.length_cons]at R;omega
     ·have:=hA.size
      simp only [qdZ,wZ];omega
     intro v' w9 L D aP;obtain⟨a9,n9,c9,rfl⟩:=L.form3;have zb:g.heap.size<wr.heap.size:=by have:=d.size;omega
     refine kO h (CellL.grown b D (fun q hq e=>?_)) (fun b=>?_)
     ·have R:wr.heap.size=g.heap.size:=by
       simp at hq;subst hq;exact Option.some.inj e.symm
      omega
     clear h K;have X9:Ext wr w9:=(((eR wr).alloc (.cells #[.string ⟨(fix7 f).toArray⟩] 9)).drew).thenB (zad (base:=wr.heap.size) D (by simp only [qdZ,wZ];omega) (fun k hk=>by cases hk;exact nE _)) (nE _);have l:w9.heap[w.heap.size]?=J (.cells #[O a m c] 59 (0,0)):=((X3.trans d).trans X9).heapS hb;have aT:=cell_of_one l;have aU:=free_of_one l;refine tk1 (i:=6) ?_
     have aM:IsD w9 (N #[O P mq Q]) ((n / 10000000:Nat):Int):=by
      have R:IsD g (N #[O P mq Q]) ((n / 10000000:Nat):Int):=by rw [show ((n / 10000000:Nat):Int)=(n:Int) / 10000000 by omega];exact hq.isD
      exact((R.ext ((((eR _).alloc _).alloc _).trans ah)).ext d).ext X9
     have hT:KeepT 2 w9 (w9.setCell ⟨w.heap.size,0,Z⟩ (O P mq Q)):=(KeepT.refl _ w9).set l dM _;have aD:KeepT 9 w9 (w9.setCell ⟨w.heap.size,0,Z⟩ (O P mq Q)):=(KeepT.refl _ w9).set l dM _
     have aK:∀q∈[((⟨g.heap.size,0,Z⟩:Addr),Value.slice P mq Q)],(⟨w.heap.size,0,Z⟩:Addr).block≠q.1.block:=by
      intro q hq;simp at hq;subst hq;dsimp only;omega
     refine cl1 (i:=7) fun K h=>?_
     go_simp;refine kO h (CellL.set b aK _) (fun b=>?_);clear h K;refine wpAnyH_done kM ?_ _;go_wp2;have ax:=hd9 l
     go_roundg (n / 10000000)
     case measure=>omega
     case rel =>
      obtain⟨g1,g2,g3,g4⟩:=ae.out;rw [aL]at g2 g3 g4;refine⟨n / 10000000,k',fix7 f::ps,P,mq,Q,rfl,g1,g2,g3,g4,?_,?_,?_,?_,?_,?_⟩
      ·intro s hs
       rcases List.mem_cons.1 hs with rfl|hs
       ·rfl
       ·exact h7 s hs
      ·exact Ext.set (p:=⟨w.heap.size,0,Z⟩) (hA.trans X9) (nE _) _
      ·exact one_setCell ax.out
      ·exact aM.keep hT
      ·exact L.keep aD
      ·have:=hA.size
       have:=X9.size;simp;omega
end
section
open Go.RowKit Go.Shelf Go.Sort Go.Lib
def leastR (s:Sp):Rat×Rat:=bestR (gapR s) (stopsR s)
theorem zbc (s:Sp):stopsR s≠[]:=by
 unfold stopsR;intro h;have a:stopsZ s=[]:=List.map_eq_nil_iff.1 h;unfold stopsZ at a;have b:=zh1 (zs:=isort (s.lo::s.hi::midP s (s.over++s.under))) (by intro c;have:=congrArg List.length c;rw [zbS]at this;simp at this);exact b a
theorem zcj (w:Y) (r t:X) (s:Sp) (o:IsPts w r s.over) (p:IsPts w t s.under) (d:SpOk s) :
  Calls Tryz.prog 59 #[spc s r t] w (RetR2 w (leastR s).1 (leastR s).2):=by
 have x:=hd9 (fun(W:Y) (m:Ext w W)=>zf9 W r t s (o.ext' m) (p.ext' m) d);have u:=hd9 (fun(W:Y) (m:Ext w W) (v:X) (hv:IsRs W v (stopsR s))=>zk8 W v r t s (stopsR s) hv (o.ext' m) (p.ext' m) d (zap d));obtain⟨a1,m1,rfl⟩:=o.form;obtain⟨a2,m2,rfl⟩:=p.form;obtain⟨n1,f1⟩:=gX s.over.length;obtain⟨n2,f2⟩:=gX s.under.length;obtain⟨lo,l⟩:=gX s.lo;obtain⟨hi,k⟩:=gX s.hi;obtain⟨R,y⟩:=gX (RetR2 w (leastR s).1 (leastR s).2);rw [y];have HR:=hd9 y;unfold spc at x u ⊢;simp only [f1,f2,l,k]at x u ⊢;clear o p d f1 f2 l k y;have ac:∀(fn:Fn) (first cap:Array X) (w:Y),(Instr.makeFunc fn first cap).run Tryz.prog w = .ok (.func fn first cap) w:=fun _ _ _ _=>rfl
 go_enter Tryz.func59,Tryz.ntmps59;go_wp2;refine wp_region_held_drew (S:=CellL [(⟨w.heap.size,0,Z⟩,O a1 n1 m1),(⟨w.heap.size,1,Z⟩,O a2 n2 m2),(⟨w.heap.size,2,Z⟩,V I lo),(⟨w.heap.size,3,Z⟩,V I hi)]) kM cA (fun a=>?_);refine tk1 (i:=0) ?_;refine sN 2 ?_
 iterate 2
  refine tkn ?_
 refine oN ?_;refine cl1 (i:=1) fun K c=>?_
 go_simp
 (with_reducible refine cM (x.out _ eA) ?_)
 rintro e w3 ⟨r3,rfl,z,j⟩
 skip
 go_wp2_with fail
 refine kO c (cE a j) (fun a=>?_);clear c K;have X3:Ext w w3:=eA;refine cl1 (i:=4) fun K c=>?_
 go_simp
 (with_reducible refine cM (u.out _ X3 _ z.rs) ?_)
 rintro e w4 ⟨r4,r5,rfl,g,h,f⟩;obtain⟨⟨a4,m4,c4,s4,b4,n4,k4,rfl⟩,a5,m5,c5,s5,b5,n5,k5,rfl⟩:=And.intro g.form h.form
 go_wp2_with fail
 refine kO c (cE a f) (fun a=>?_);clear c K;refine sN 5 ?_
 iterate 2
  refine tkn ?_
 refine oN ?_;have X4:Ext w w4:=X3.trans f;have hO:RB w4 (w.heap.size+1) 0:=(((RB.new (IsR.zero _) sM).ext ((eR _).alloc _)).ext ((eR _).drew.trans j)).ext f;have hP:RB w4 (w.heap.size+1+1) 0:=((RB.new (IsR.zero _) sM).ext ((eR _).drew.trans j)).ext f;obtain⟨_,_,_,_,_,_,_,o0,o1,o2,D,L,Q,zo,_⟩:=hO.rd;obtain⟨_,_,_,_,_,_,_,p0,p1,p2,T,aa,ab,zp,_⟩:=hP.rd
 have n:∀b,w.heap.size<b→∀q∈[((⟨w.heap.size,0,Z⟩:Addr),Value.slice a1 n1 m1),(⟨w.heap.size,1,Z⟩,O a2 n2 m2),(⟨w.heap.size,2,Z⟩,V I lo),(⟨w.heap.size,3,Z⟩,V I hi)],b≠q.1.block:=by
  intro b hb q hq;simp at hq
  rcases hq with rfl|rfl|rfl|rfl<;>(dsimp only;omega)
 refine cl1 (i:=7) fun K c=>?_
 go_simp;refine kO c (CellL.set3 a (n _ oM) _ _ _) (fun a=>?_);clear c K;refine cl1 (i:=8) fun K c=>?_
 go_simp;refine kO c (CellL.set3 a (n _ oM) _ _ _) (fun a=>?_);clear c K;refine wpAnyH_done kM ?_ _;have P:=hd9 (RB.copy2 hO hP oM g h rfl rfl);go_wp2;refine bR (v:=.tuple #[N #[O a4 m4 c4,C s4,O b4 n4 k4],N #[O a5 m5 c5,C s5,O b5 n5 k5]]) (by simp [results,Tryz.results59,go_sem,o0,o1,o2,D,L,Q,p0,p1,p2,T,aa,ab]) rfl ?_;rw [←HR.out];obtain⟨P1,P2,P3,P4,P5,P6⟩:=P.out;exact⟨_,_,rfl,g.keep P4,h.keep P4,P6 w X4 oM oM⟩
def freeB (ps a:List (Int×Int)):Bool:=if (btw ps a).lo<(btw ps a).hi then decide (0≤(leastR (btw ps a)).2.num.sign)else true
theorem zeX (w:Y) (o p:X) (ps c:List (Int×Int)) (m:IsPts w o ps) (n:IsPts w p c) (y:LnOk ps) (z:LnOk c) :
  Calls Tryz.prog 131 #[o,p] w fun e w'=>e = .returned (C (freeB ps c))∧Ext w w':=by
 have Q:0<ps.length:=List.length_pos_iff.2 y.1;have R:0<c.length:=List.length_pos_iff.2 z.1;have a:=hd9 (fun(W:Y) (i:Ext w W)=>zbf W o p ps c (m.ext' i) (n.ext' i) Q R);have l:=hd9 (fun(W:Y) (i:Ext w W)=>zcj W o p (btw ps c) (m.ext' i) (n.ext' i) (zbw y z));obtain⟨B,q⟩:=gX (freeB ps c);rw [q];have d:=hd9 q;unfold freeB at d;obtain⟨s,P⟩:=gX (btw ps c);rw [P]at d a l;obtain⟨a1,m1,rfl⟩:=m.form;obtain⟨a2,m2,rfl⟩:=n.form;obtain⟨n1,K⟩:=gX ps.length;obtain⟨n2,L⟩:=gX c.length;obtain⟨D,h⟩:=gX s.lo;obtain⟨u,g⟩:=gX s.hi;unfold RetBt at a;unfold spc at a l;simp only [K,L,h,g]at d a l ⊢;clear m n y z Q R q P K L h g
 by_cases b:D<u
 ·have e:decide (D<u)=true:=by simpa using b
  rw [if_pos b]at d;rw [e]at a;obtain⟨k,v⟩:=gX ((leastR s).2.num.sign);rw [v]at d;have S:=hd9 v;clear v e b;go_enter Tryz.func131,Tryz.ntmps131
  go_wp2_with(first|(go_at_call 58;(with_reducible refine(a.out _ ?_).mono ?_);exact eA;rintro e w3 ⟨rfl,f⟩;obtain⟨r,t⟩:=f.cells)|(go_at_call 59;(with_reducible refine(l.out _ ?_).mono ?_);exact eA;rintro e w4 ⟨r4,r5,rfl,x,j,T⟩;obtain⟨a4,m4,c4,s4,b4,n4,k4,rfl⟩:=x.form;obtain⟨a5,m5,c5,s5,b5,n5,k5,rfl⟩:=j.form)|(go_at_call 93;(with_reducible refine(zbX _ _ _ (j.ext ?_)).mono ?_);exact eA;rintro e w6 ⟨rfl,aa⟩;rw [S.out]))
  go_ret;exact⟨by rw [←d.out];rfl,eA⟩
 ·have e:decide (D<u)=false:=by simpa using b
  rw [if_neg b]at d;rw [e]at a;clear e b;go_enter Tryz.func131,Tryz.ntmps131
  go_wp2_with(first|(go_at_call 58;(with_reducible refine(a.out _ ?_).mono ?_);exact eA;rintro e w3 ⟨rfl,f⟩;obtain⟨r,t⟩:=f.cells))
  go_ret;exact⟨by rw [←d.out];rfl,eA⟩
end
section
open Go.RowKit Go.Shelf
attribute [local go_sem] Oper.semAt_some
def textZ (n:Int):List UInt8:=if n<0 then 45::textN n.natAbs else textN n.natAbs
def textR (q:Rat):List UInt8:=if q.den=1 then textZ q.num else textZ q.num++(47::textZ q.den)
def textV (x z:Rat):List UInt8:=40::(textR x++(44::32::(textR z++[41])))
theorem zew:∀(k n:Nat),n<k→n≠0→0<(chunksF k n).length∧2 ^ (23*((chunksF k n).length-1))≤n
 | 0,_,h,_=>by omega
 | k+1,n,h,d=>by
  rw [chunksF,if_neg d,lA,List.length_singleton];refine⟨by omega,?_⟩;rw [Nat.add_sub_cancel]
  by_cases b:n / 10000000=0
  ·rw [b,zcp]
   simp;omega
  ·obtain⟨c,a⟩:=zew k (n / 10000000) oM b
   obtain⟨L,e⟩:∃L,(chunksF k (n / 10000000)).length=L+1:=⟨_,(Nat.succ_pred_eq_of_pos c).symm⟩;rw [e]at a ⊢;rw [Nat.add_sub_cancel]at a;rw [Nat.mul_add,Nat.pow_add,show (2:Nat) ^ (23*1)=8388608 from rfl];have:n / 10000000*8388608≤n:=oM
   exact nT (Nat.mul_le_mul_right _ a) this
theorem zdh:∀(k n:Nat),∀s∈chunksF k n,s.length=7
 | 0,_,s,h=>by simp [chunksF]at h
 | k+1,n,s,h=>by
  unfold chunksF at h
  split at h
  ·cases h
  ·rcases List.mem_append.1 h with h|h
   ·exact zdh k _ s h
   ·rw [List.mem_singleton.1 h];rfl
theorem zen {n:Nat} (h:Lm limT (n:Int)):(textN n).length≤20*limT:=by
 have g:(chunksF (n+1) n).length≤2*limT:=by
  by_cases c:n=0
  ·rw [c,zcp];exact Nat.zero_le _
  ·obtain⟨f,d⟩:=zew (n+1) n oM c
   have a:(n:Int)<B ^ limT:=h.2
   have e:(B:Int) ^ limT=((2 ^ (24*limT):Nat):Int):=by
    rw [Nat.pow_mul];unfold B;rw [Int.natCast_pow];rfl
   rw [e]at a;have b:n<2 ^ (24*limT):=by exact_mod_cast a
   have k:23*((chunksF (n+1) n).length-1)<24*limT:=(Nat.pow_lt_pow_iff_right (by decide:1<2)).1 (Nat.lt_of_le_of_lt d b);unfold limT at *;omega
 have i:=flat7 (zdh (n+1) n);have j:(Lib.trimLeftB (chunksF (n+1) n).flatten 48).length≤(chunksF (n+1) n).flatten.length:=List.IsSuffix.length_le (List.dropWhile_suffix _);unfold textN
 split
 ·unfold limT;simp
 ·omega
theorem zcX {n:Int} (h:Lm limT n):(textZ n).length≤21*limT:=by
 have:=zen (n:=n.natAbs) h.abs;unfold textZ
 split
 ·rw [List.length_cons];unfold limT at *;omega
 ·omega
theorem zga {q:Rat} (h:Rb limT q):(textR q).length≤43*limT:=by
 have a:=zcX h.1;have b:=zcX h.2;unfold textR
 split
 ·omega
 ·rw [lA,List.length_cons]
  unfold limT at *;omega
theorem zcx (a b:List UInt8):(⟨a.toArray⟩:ByteArray)++(⟨b.toArray⟩:ByteArray)=⟨(a++b).toArray⟩:=by
 apply ByteArray.ext
 rw [ByteArray.data_append];simp
theorem zgj (w:Y) (v:X) (n:Int) (h:IsZ w v n) (f:Lm limT n) :
  Calls Tryz.prog 167 #[v] w fun e o=>e = .returned (.string ⟨(textZ n).toArray⟩)∧Ext w o:=by
 obtain⟨a,m,c,s,rfl⟩:=h.form;have i:=hd9 (fun(W:Y) (l:Ext w W)=>zjc W (N #[O a m c]) n.natAbs (h.dig.ext l) f.abs);have j:=h.sgn;unfold textZ;clear h
 cases s with
 | true =>
  have g:n<0:=by simpa using j.symm
  rw [if_pos g];obtain⟨T,b⟩:=gX (textN n.natAbs);rw [b]at i ⊢;have d:T.length≤20*limT:=by rw [←b];exact zen f.abs
  unfold limT at d;clear j g b f;go_enter Tryz.func167,Tryz.ntmps167
  go_wp2_with((go_at_call 211;(with_reducible refine(i.out _ ?_).mono ?_);exact eA;rintro e p ⟨rfl,k⟩))
  go_ret;exact⟨by rw [show (⟨#[45]⟩:ByteArray)=⟨[45].toArray⟩from rfl,zcx];rfl,eA⟩
 | false =>
  have g:¬n<0:=by simpa using j.symm
  rw [if_neg g];obtain⟨T,b⟩:=gX (textN n.natAbs);rw [b]at i ⊢;have d:T.length≤20*limT:=by rw [←b];exact zen f.abs
  unfold limT at d;clear j g b f;go_enter Tryz.func167,Tryz.ntmps167
  go_wp2_with((go_at_call 211;(with_reducible refine(i.out _ ?_).mono ?_);exact eA;rintro e p ⟨rfl,k⟩))
  go_ret;exact⟨rfl,eA⟩
end
section
open Go.RowKit Go.Shelf Go.Sort Go.Lib
def relP (p q:Pl):Int:=
 if lineR (lowP2 p)≤lineL (lowP2 q)then 1
 else if lineR (lowP2 q)≤lineL (lowP2 p)then 2
 else if freeB (lowP2 p) (upP2 q)then 3
 else if freeB (lowP2 q) (upP2 p)then 4
 else 5
def PLa (w:Y) (c:List X) (p:Pl):Prop:=∃v vl vu,c=(lac p v vl vu).toList∧IsPts w v p.shape∧IsPts w vl (lowP2 p)∧IsPts w vu (upP2 p)
def IsLa (w:Y) (v:X) (p:Pl):Prop:=∃s vl vu,v=N (lac p s vl vu)∧IsPts w s p.shape∧IsPts w vl (lowP2 p)∧IsPts w vu (upP2 p)
theorem IsLa.ext {w w':Y} {v:X} {p:Pl} (h:IsLa w v p) (k:Ext w w'):IsLa w' v p:=by
 obtain⟨s,e,f,a,b,c,d⟩:=h;exact⟨s,e,f,a,b.ext' k,c.ext' k,d.ext' k⟩
theorem IsLa.keep {w w':Y} {v:X} {p:Pl} (h:IsLa w v p) (k:KeepT 43 w w'):IsLa w' v p:=by
 obtain⟨s,e,f,a,b,c,d⟩:=h;exact⟨s,e,f,a,b.keep' k,c.keep' k,d.keep' k⟩
abbrev IsLas (w:Y) (v:X) (ps:List Pl):Prop:=Sl 128 12 PLa w v ps
theorem PLa.ext {w w':Y} {c:List X} {p:Pl} (h:PLa w c p) (k:Ext w w'):PLa w' c p:=by
 obtain⟨s,f,g,a,b,d,e⟩:=h;exact⟨s,f,g,a,b.ext' k,d.ext' k,e.ext' k⟩
theorem PLa.keep {w w':Y} {c:List X} {p:Pl} (h:PLa w c p) (k:KeepT 43 w w'):PLa w' c p:=by
 obtain⟨s,f,g,a,b,d,e⟩:=h;exact⟨s,f,g,a,b.keep' k,d.keep' k,e.keep' k⟩
theorem IsLas.ext' {w w':Y} {v:X} {ps:List Pl} (h:IsLas w v ps) (k:Ext w w'):IsLas w' v ps:=Sl.ext h (fun _ _ h=>PLa.ext h k) k
theorem zde (w:Y) (v1 v2:X) (p q:Pl) (h1:IsLa w v1 p) (h2:IsLa w v2 q) (k1:placedOk p=true) (k2:placedOk q=true) :
  Calls Tryz.prog 55 #[v1,v2] w fun e w'=>e = .returned (V .u8 (relP p q))∧Ext w w':=by
 obtain⟨s1,l1,u1,rfl,p1,x,p3⟩:=h1;obtain⟨s2,l2,u2,rfl,q1,y,q3⟩:=h2;obtain⟨R,o2⟩:=zaj k1;obtain⟨T,o4⟩:=zaj k2;have HA:=hd9 (fun(W:Y) (c:Ext w W)=>zbA W l1 (lowP2 p) (x.ext' c) (List.length_pos_iff.2 R.1));have HB:=hd9 (fun(W:Y) (c:Ext w W)=>zbG W l2 (lowP2 q) (y.ext' c) (List.length_pos_iff.2 T.1));have HC:=hd9 (fun(W:Y) (c:Ext w W)=>zbG W l1 (lowP2 p) (x.ext' c) (List.length_pos_iff.2 R.1));have HD:=hd9 (fun(W:Y) (c:Ext w W)=>zbA W l2 (lowP2 q) (y.ext' c) (List.length_pos_iff.2 T.1));have Q:=hd9 (fun(W:Y) (c:Ext w W)=>zeX W l1 u2 (lowP2 p) (upP2 q) (x.ext' c) (q3.ext' c) R o4);have HF:=hd9 (fun(W:Y) (c:Ext w W)=>zeX W l2 u1 (lowP2 q) (upP2 p) (y.ext' c) (p3.ext' c) T o2);obtain⟨ap,ar,rfl⟩:=p1.form;obtain⟨aq,au,rfl⟩:=q1.form;obtain⟨a1,c1,rfl⟩:=x.form;obtain⟨a2,c2,rfl⟩:=y.form;obtain⟨z,L,rfl⟩:=p3.form;obtain⟨D,P,rfl⟩:=q3.form;obtain⟨k,hk⟩:=gX (relP p q);have g:=hd9 hk;unfold relP at g;rw [hk];obtain⟨n1,f1⟩:=gX ((lowP2 p).length);obtain⟨n2,f2⟩:=gX ((lowP2 q).length);obtain⟨m1,f3⟩:=gX ((upP2 p).length);obtain⟨m2,f4⟩:=gX ((upP2 q).length);obtain⟨j1,f5⟩:=gX p.shape.length;obtain⟨j2,f6⟩:=gX q.shape.length;obtain⟨rp,f7⟩:=gX (lineR (lowP2 p));obtain⟨lp,f8⟩:=gX (lineL (lowP2 p));obtain⟨rq,f9⟩:=gX (lineR (lowP2 q));obtain⟨lq,r⟩:=gX (lineL (lowP2 q));obtain⟨fa,s⟩:=gX (freeB (lowP2 p) (upP2 q));obtain⟨fb,t⟩:=gX (freeB (lowP2 q) (upP2 p));simp only [f1,f2,f3,f4,f5,f6,f7,f8,f9,r,s,t]at HA HB HC HD Q HF g ⊢;obtain⟨nm,sh,d,de,gx,gz,wy,ax,az,sk⟩:=p;obtain⟨ao,av,d',al,am,an,ay,af,ag,aw⟩:=q;clear hk p1 x p3 q1 y q3 R o2 T o4 k1 k2 f1 f2 f3 f4 f5 f6 f7 f8 f9 r s t;unfold lac;dsimp only;go_enter Tryz.func55,Tryz.ntmps55;go_wp2;refine wp_region_held_drew (S:=CellL [(⟨w.heap.size,10,Z⟩,O a1 n1 c1),(⟨w.heap.size+1,10,Z⟩,O a2 n2 c2),(⟨w.heap.size,11,Z⟩,O z m1 L),(⟨w.heap.size+1,11,Z⟩,O D m2 P)]) kM cA (fun a=>?_);refine sN 0 ?_
 iterate 2
  refine tkn ?_
 refine oN ?_;refine sN 3 ?_
 iterate 2
  refine tkn ?_
 refine oN ?_;refine cl1 (i:=2) fun K f=>?_
 go_simp
 (with_reducible refine cM (HA.out _ eA) ?_)
 rintro e w3 ⟨rfl,u⟩
 skip
 go_wp2_with fail
 refine kO f (cE a u) (fun a=>?_);clear f K;have X3:Ext w w3:=eA;refine cl1 (i:=5) fun K f=>?_
 go_simp
 (with_reducible refine cM (HB.out _ X3) ?_)
 rintro e w4 ⟨rfl,h⟩
 skip
 go_wp2_with fail
 refine kO f (cE a h) (fun a=>?_);clear f K;have X4:Ext w w4:=X3.trans h;refine sN 6 ?_
 iterate 2
  refine tkn ?_
 refine oN ?_;refine wpAnyH_done kM ?_ _;obtain⟨ah,ai,aj,ak,_⟩:=a
 (try clear u);clear h X3
 by_cases g1:rp≤lq
 ·go_wp2
  go_ret;exact⟨by rw [←g.out,if_pos g1];rfl,X4⟩
 rw [if_neg g1]at g;have aA:=X4.size;go_wp2;refine wp_region_held_drew (S:=CellL [(⟨w.heap.size,10,Z⟩,O a1 n1 c1),(⟨w.heap.size+1,10,Z⟩,O a2 n2 c2),(⟨w.heap.size,11,Z⟩,O z m1 L),(⟨w.heap.size+1,11,Z⟩,O D m2 P)]) kM cA (fun a=>?_);refine sN 0 ?_
 iterate 2
  refine tkn ?_
 refine oN ?_;refine sN 3 ?_
 iterate 2
  refine tkn ?_
 refine oN ?_;refine cl1 (i:=2) fun K f=>?_
 go_simp
 (with_reducible refine cM (HC.out _ eA) ?_)
 rintro e w5 ⟨rfl,v⟩
 skip
 go_wp2_with fail
 refine kO f (cE a v) (fun a=>?_);clear f K;have X5:Ext w w5:=eA;refine cl1 (i:=5) fun K f=>?_
 go_simp
 (with_reducible refine cM (HD.out _ X5) ?_)
 rintro e w6 ⟨rfl,j⟩
 skip
 go_wp2_with fail
 refine kO f (cE a j) (fun a=>?_);clear f K;have X6:Ext w w6:=X5.trans j;refine sN 6 ?_
 iterate 2
  refine tkn ?_
 refine oN ?_;refine wpAnyH_done kM ?_ _;obtain⟨l,m,n,o,_⟩:=a
 (try clear v);clear j X5
 by_cases g2:rq≤lp
 ·go_wp2
  go_ret;exact⟨by rw [←g.out,if_pos g2];rfl,X6⟩
 rw [if_neg g2]at g
 cases fa with
 | true =>
  go_wp2_with(go_at_call 131;(with_reducible refine(Q.out _ ?_).mono ?_);exact eA;rintro e w7 ⟨rfl,b⟩)
  go_ret;exact⟨by rw [←g.out];rfl,eA⟩
 | false =>
  cases fb with
  | true =>
   go_wp2_with(first|(go_at_call 131;(with_reducible refine(Q.out _ ?_).mono ?_);exact eA;rintro e w7 ⟨rfl,b⟩;have aa:=b.cellS l;have ab:=b.cellS m;have ac:=b.cellS n;have ad:=b.cellS o)|(go_at_call 131;(with_reducible refine(HF.out _ ?_).mono ?_);exact eA;rintro e w8 ⟨rfl,ae⟩))
   go_ret;exact⟨by rw [←g.out];rfl,eA⟩
  | false =>
   go_wp2_with(first|(go_at_call 131;(with_reducible refine(Q.out _ ?_).mono ?_);exact eA;rintro e w7 ⟨rfl,b⟩;have aa:=b.cellS l;have ab:=b.cellS m;have ac:=b.cellS n;have ad:=b.cellS o)|(go_at_call 131;(with_reducible refine(HF.out _ ?_).mono ?_);exact eA;rintro e w8 ⟨rfl,ae⟩))
   go_ret;exact⟨by rw [←g.out];rfl,eA⟩
theorem IsLas.at' {w:Y} {a:Option Addr} {n c:Nat} {ps:List Pl} (h:IsLas w (O a n c) ps) {i:Nat} {p:Pl} (q:ps[i]?=J p) :
  ∃b o s vl vu,a=J ⟨b,o,Z⟩∧b<w.heap.size∧IsPts w s p.shape∧IsPts w vl (lowP2 p)∧IsPts w vu (upP2 p) ∧
   ∀(j:Nat) u,(lac p s vl vu)[j]?=J u→w.cell? ⟨b,o+i*12+j,Z⟩=J u:=by
 obtain⟨b,o,d,rfl,k,r,⟨s,vl,vu,rfl,e,f,g⟩,l⟩:=Sl.at h q;exact⟨b,o,s,vl,vu,rfl,k,e,f,g,fun j u m=>l j u (by rw [Array.getElem?_toList];exact m)⟩
def LaB (W:Y) (b:Nat) (p:Pl) (s a c:X):Prop:=W.heap[b]?=J (.cells (lac p s a c) 128 (0,0))∧IsPts W s p.shape∧IsPts W a (lowP2 p)∧IsPts W c (upP2 p)
theorem LaB.ext {W W':Y} {b:Nat} {p:Pl} {s a c:X} (h:LaB W b p s a c) (k:Ext W W'):LaB W' b p s a c:=⟨k.heapS h.1,h.2.1.ext' k,h.2.2.1.ext' k,h.2.2.2.ext' k⟩
def clashB (q p:Pl):Bool:=meetB q p&&(relP q p==5)
def nameB (a:ByteArray) (p:Pl):Bool:=p.name.toList==a.toList
theorem zlJ (w:Y) (l:X) (p:Pl) (g:ByteArray) (a:Nat) (h:IsLa w l p) (m:w.cell? ⟨a,0,Z⟩=J (.string g)) :
  Calls Tryz.prog 130 #[l,M (J ⟨a,0,Z⟩)] w fun e s=>e = .returned (C (nameB g p))∧Ext w s:=by
 obtain⟨T,P,u1,rfl,i,j,k⟩:=h;obtain⟨n,o,rfl⟩:=i.form;obtain⟨u,y,rfl⟩:=j.form;obtain⟨q,r,rfl⟩:=k.form;obtain⟨R,b⟩:=gX ((lowP2 p).length);obtain⟨Q,c⟩:=gX ((upP2 p).length);obtain⟨L,f⟩:=gX p.shape.length;rw [b,c,f];obtain⟨S,W,d,z,D,K,wy,v,x,sk⟩:=p;clear i j k b c f;have zq:a<w.heap.size:=World.block_lt_of_cell? w _ m;have t:a<w.heap.size+1:=oM
 unfold lac nameB;dsimp only;go_enter Tryz.func130,Tryz.ntmps130;go_wp2;go_ret;exact⟨rfl,eA⟩
theorem zlb (w:Y) (vp:X) (p q:Pl) (k:Nat) (s vl vu:X) (h:IsLa w vp p) (hq:LaB w k q s vl vu) (k1:placedOk p=true) (k2:placedOk q=true) :
  Calls Tryz.prog 132 #[vp,M (J ⟨k,0,Z⟩)] w fun e w'=>e = .returned (C (clashB q p))∧Ext w w':=by
 obtain⟨b,n,K,L⟩:=hq;have j:=hd9 (fun(W:Y) (l:Ext w W)=>zde W (N (lac q s vl vu)) vp q p ⟨_,_,_,rfl,n.ext' l,K.ext' l,L.ext' l⟩ (h.ext l) k2 k1);obtain⟨s1,l1,u1,rfl,D,p2,p3⟩:=h;have f:=hd9 (fun(W:Y)=>zce W q p s s1 (by obtain⟨a,c,h⟩:=n.form;exact⟨a,_,c,h⟩) (by obtain⟨a,c,h⟩:=D.form;exact⟨a,_,c,h⟩));obtain⟨aq,ar,rfl⟩:=D.form;obtain⟨a1,c1,rfl⟩:=p2.form;obtain⟨av,aw,rfl⟩:=p3.form;obtain⟨P,Q,rfl⟩:=n.form;obtain⟨a2,c2,rfl⟩:=K.form;obtain⟨S,T,rfl⟩:=L.form;obtain⟨n1,f1⟩:=gX ((lowP2 p).length);obtain⟨n2,f2⟩:=gX ((lowP2 q).length);obtain⟨m1,f3⟩:=gX ((upP2 p).length);obtain⟨m2,f4⟩:=gX ((upP2 q).length);obtain⟨j1,f5⟩:=gX p.shape.length;obtain⟨j2,f6⟩:=gX q.shape.length;obtain⟨r,f7⟩:=gX (relP q p);obtain⟨m,f8⟩:=gX (meetB q p);unfold clashB;simp only [f1,f2,f3,f4,f5,f6,f7,f8]at j f b ⊢;obtain⟨nm,sh,d,de,gx,gz,wy,ax,az,sk⟩:=p;obtain⟨z,au,d',v,x,y,aa,o,t,R⟩:=q;unfold lac at j b ⊢;unfold plc at f;dsimp only at j f b ⊢;have ad:=qcB b (i:=0) (u:=.string z) rfl;have ae:=qcB b (i:=1) (u:=O P j2 Q) rfl;have af:=qcB b (i:=2) (u:=V I d') rfl;have ag:=qcB b (i:=3) (u:=V I v) rfl;have ah:=qcB b (i:=4) (u:=V I x) rfl;have ai:=qcB b (i:=5) (u:=V I y) rfl;have aj:=qcB b (i:=6) (u:=V I aa) rfl;have ak:=qcB b (i:=7) (u:=V I o) rfl;have al:=qcB b (i:=8) (u:=V I t) rfl;have am:=qcB b (i:=9) (u:=V .u8 R) rfl;have ab:=qcB b (i:=10) (u:=O a2 n2 c2) rfl;have ac:=qcB b (i:=11) (u:=O S m2 T) rfl;have zq:k<w.heap.size:=zaa b;have ay:k<w.heap.size+1:=oM
 clear b D p2 p3 n K L k1 k2 f1 f2 f3 f4 f5 f6 f7 f8
 cases m with
 | false =>
  go_enter Tryz.func132,Tryz.ntmps132
  go_wp2_with(go_at_call 54;(with_reducible refine(f.out _).mono ?_);rintro e w3 ⟨rfl,g⟩)
  go_ret;exact⟨rfl,eA⟩
 | true =>
  go_enter Tryz.func132,Tryz.ntmps132
  go_wp2_with(first|(go_at_call 54;(with_reducible refine(f.out _).mono ?_);rintro e w3 ⟨rfl,g⟩;obtain⟨an,ao⟩:=g.cells)|(go_at_call 55;(with_reducible refine(j.out _ ?_).mono ?_);exact eA;rintro e w4 ⟨rfl,ap⟩))
  go_ret;exact⟨rfl,eA⟩
def IlS (w:Y) (f:Pl→Bool) (ps:List Pl) (g:Nat) (a:X) (W:Y):Prop:=
 ∃i:Nat,i≤ps.length∧a=V I i∧g=ps.length-i∧Ext w W∧∀j y,j<i→ps[j]?=J y→f y=false
theorem zjQ (w:Y) (v:X) (ps:List Pl) (bq:Nat) (f:Pl→Bool) (h:IsLas w v ps)
  (hf:∀W,Ext w W→∀vp p,p∈ps→IsLa W vp p→Calls Tryz.prog 130 #[vp,M (J ⟨bq,0,Z⟩)] W fun e w'=>e = .returned (C (f p))∧Ext W w') :
  Calls Tryz.prog 181 #[v,.func (.func 130) #[] #[M (J ⟨bq,0,Z⟩)]] w fun e w'=>e = .returned (V I (idxB f ps))∧Ext w w':=by
 obtain⟨a,c,rfl⟩:=h.form;obtain⟨n,T⟩:=gX ps.length;rw [T]at h ⊢;have r:=h.le;unfold maxLen at r;have aq:n≤9223372036854775807:=oM
 have k:=hd9 T;have Hf:=hd9 hf;clear T r hf;go_enter Tryz.func181,Tryz.ntmps181;go_wp2
 go_loopg [8] n (IlS w f ps)
 case atStart=>exact⟨0,by omega,rfl,by rw [k.out];rfl,eR _,fun j y x=>by omega⟩
 case round =>
  obtain⟨i,hi,rfl,rfl,hx,l⟩:=hrel;rw [k.out]at hi;have g:=hd9 l;clear l
  by_cases S:i<n
  ·obtain⟨p,z⟩:∃q,ps[i]?=J q:=⟨ps[i]'(by rw [k.out];omega),by simp [k.out,S]⟩
   obtain⟨b,o,s,vl,vu,rfl,hb,K,L,P,d⟩:=(h.ext' hx).at' z;have m:=hd9 (fun W (u:Ext wr W)=>Hf.out W (hx.trans u) (N (lac p s vl vu)) p (lM z) ⟨_,_,_,rfl,K.ext' u,L.ext' u,P.ext' u⟩);obtain⟨ab,ac,rfl⟩:=K.form;obtain⟨a1,c1,rfl⟩:=L.form;obtain⟨ad,ae,rfl⟩:=P.form;obtain⟨n1,f1⟩:=gX ((lowP2 p).length);obtain⟨m1,f3⟩:=gX ((upP2 p).length);obtain⟨j1,f5⟩:=gX p.shape.length;obtain⟨fp,Q⟩:=gX (f p);rw [f1,f3,f5]at d m;rw [Q]at m;have F7:=hd9 Q;have D:=d 0 (.string p.name) rfl;have ah:=d 1 (O ab j1 ac) rfl;have ai:=d 2 (V I p.depth) rfl;have aj:=d 3 (V I p.density) rfl;have ak:=d 4 (V I p.gx) rfl;have al:=d 5 (V I p.gz) rfl;have am:=d 6 (V I p.way) rfl;have an:=d 7 (V I p.ax) rfl;have ao:=d 8 (V I p.az) rfl;have ap:=d 9 (V .u8 p.skin) rfl;have af:=d 10 (O a1 n1 c1) rfl;have ag:=d 11 (O ad m1 ae) rfl;simp only [Nat.add_zero]at D;have Hq:=hd9 z;unfold lac at m;clear z d K L P f1 f3 f5 Q
   cases fp with
   | true =>
    have e:idxB f ps=(i:Int):=zcN Hq.out F7.out g.out;have E:=hd9 e;clear e
    go_wp2_with(((go_at_call 130;(with_reducible refine(m.out _ ?_).mono ?_);exact eA;rintro e w1 ⟨rfl,aa⟩)))
    go_ret;exact⟨by rw [E.out];rfl,eA⟩
   | false =>
    go_wp2_with(((go_at_call 130;(with_reducible refine(m.out _ ?_).mono ?_);exact eA;rintro e w1 ⟨rfl,aa⟩)))
    go_roundg (n-(i+1))
    case measure=>have:=k.out;omega
    case rel =>
     refine⟨i+1,by have:=k.out;omega,by go_num,by rw [k.out],eA,fun j y x t=>?_⟩
     by_cases R:j=i
     ·subst R;rw [Hq.out]at t;cases t;exact F7.out
     ·exact g.out j y oM t
  ·obtain rfl:i=n:=oM
   have e:idxB f ps = -1:=zcM (fun j y x t=>g.out j y (by rw [k.out]at x;exact x) t);have E:=hd9 e;clear e;go_wp2;go_ret;exact⟨by rw [E.out];rfl,hx⟩
theorem zi4 (w:Y) (v:X) (ps:List Pl) (b:Nat) (f:Pl→Bool) (h:IsLas w v ps)
  (k:∀W,Ext w W→∀vp p,p∈ps→IsLa W vp p→Calls Tryz.prog 130 #[vp,M (J ⟨b,0,Z⟩)] W fun e g=>e = .returned (C (f p))∧Ext W g) :
  Calls Tryz.prog 129 #[v,.func (.func 130) #[] #[M (J ⟨b,0,Z⟩)]] w fun e g=>e = .returned (C (ps.any f))∧Ext w g:=by
 rw [←ze3];obtain⟨x,l⟩:=gX (idxB f ps);have j:=fun W (i:Ext w W)=>zjQ W v ps b f (h.ext' i) (fun W' d=>k W' (i.trans d))
 obtain⟨a,n,c,rfl⟩:∃a n c,v=O a n c:=by obtain⟨a,c,h⟩:=h.form;exact⟨a,_,c,h⟩
 rw [l]at *;have m:=hd9 j;clear j l h k;go_enter Tryz.func129,Tryz.ntmps129
 go_wp2_with(((go_at_call 181;(with_reducible refine(m.out _ ?_).mono ?_);exact eA;rintro e q ⟨rfl,o⟩)))
 go_ret;exact⟨rfl,eA⟩
theorem zjO (w:Y) (v:X) (ps:List Pl) (bq:Nat) (f:Pl→Bool) (h:IsLas w v ps)
  (hf:∀W,Ext w W→∀vp p,p∈ps→IsLa W vp p→Calls Tryz.prog 132 #[vp,M (J ⟨bq,0,Z⟩)] W fun e w'=>e = .returned (C (f p))∧Ext W w') :
  Calls Tryz.prog 181 #[v,.func (.func 132) #[] #[M (J ⟨bq,0,Z⟩)]] w fun e w'=>e = .returned (V I (idxB f ps))∧Ext w w':=by
 obtain⟨a,c,rfl⟩:=h.form;obtain⟨n,T⟩:=gX ps.length;rw [T]at h ⊢;have r:=h.le;unfold maxLen at r;have aq:n≤9223372036854775807:=oM
 have k:=hd9 T;have Hf:=hd9 hf;clear T r hf;go_enter Tryz.func181,Tryz.ntmps181;go_wp2
 go_loopg [8] n (IlS w f ps)
 case atStart=>exact⟨0,by omega,rfl,by rw [k.out];rfl,eR _,fun j y x=>by omega⟩
 case round =>
  obtain⟨i,hi,rfl,rfl,hx,l⟩:=hrel;rw [k.out]at hi;have g:=hd9 l;clear l
  by_cases S:i<n
  ·obtain⟨p,z⟩:∃q,ps[i]?=J q:=⟨ps[i]'(by rw [k.out];omega),by simp [k.out,S]⟩
   obtain⟨b,o,s,vl,vu,rfl,hb,K,L,P,d⟩:=(h.ext' hx).at' z;have m:=hd9 (fun W (u:Ext wr W)=>Hf.out W (hx.trans u) (N (lac p s vl vu)) p (lM z) ⟨_,_,_,rfl,K.ext' u,L.ext' u,P.ext' u⟩);obtain⟨ab,ac,rfl⟩:=K.form;obtain⟨a1,c1,rfl⟩:=L.form;obtain⟨ad,ae,rfl⟩:=P.form;obtain⟨n1,f1⟩:=gX ((lowP2 p).length);obtain⟨m1,f3⟩:=gX ((upP2 p).length);obtain⟨j1,f5⟩:=gX p.shape.length;obtain⟨fp,Q⟩:=gX (f p);rw [f1,f3,f5]at d m;rw [Q]at m;have F7:=hd9 Q;have D:=d 0 (.string p.name) rfl;have ah:=d 1 (O ab j1 ac) rfl;have ai:=d 2 (V I p.depth) rfl;have aj:=d 3 (V I p.density) rfl;have ak:=d 4 (V I p.gx) rfl;have al:=d 5 (V I p.gz) rfl;have am:=d 6 (V I p.way) rfl;have an:=d 7 (V I p.ax) rfl;have ao:=d 8 (V I p.az) rfl;have ap:=d 9 (V .u8 p.skin) rfl;have af:=d 10 (O a1 n1 c1) rfl;have ag:=d 11 (O ad m1 ae) rfl;simp only [Nat.add_zero]at D;have Hq:=hd9 z;unfold lac at m;clear z d K L P f1 f3 f5 Q
   cases fp with
   | true =>
    have e:idxB f ps=(i:Int):=zcN Hq.out F7.out g.out;have E:=hd9 e;clear e
    go_wp2_with(((go_at_call 132;(with_reducible refine(m.out _ ?_).mono ?_);exact eA;rintro e w1 ⟨rfl,aa⟩)))
    go_ret;exact⟨by rw [E.out];rfl,eA⟩
   | false =>
    go_wp2_with(((go_at_call 132;(with_reducible refine(m.out _ ?_).mono ?_);exact eA;rintro e w1 ⟨rfl,aa⟩)))
    go_roundg (n-(i+1))
    case measure=>have:=k.out;omega
    case rel =>
     refine⟨i+1,by have:=k.out;omega,by go_num,by rw [k.out],eA,fun j y x t=>?_⟩
     by_cases R:j=i
     ·subst R;rw [Hq.out]at t;cases t;exact F7.out
     ·exact g.out j y oM t
  ·obtain rfl:i=n:=oM
   have e:idxB f ps = -1:=zcM (fun j y x t=>g.out j y (by rw [k.out]at x;exact x) t);have E:=hd9 e;clear e;go_wp2;go_ret;exact⟨by rw [E.out];rfl,hx⟩
theorem zi2 (w:Y) (v:X) (ps:List Pl) (b:Nat) (f:Pl→Bool) (h:IsLas w v ps)
  (k:∀W,Ext w W→∀vp p,p∈ps→IsLa W vp p→Calls Tryz.prog 132 #[vp,M (J ⟨b,0,Z⟩)] W fun e g=>e = .returned (C (f p))∧Ext W g) :
  Calls Tryz.prog 129 #[v,.func (.func 132) #[] #[M (J ⟨b,0,Z⟩)]] w fun e g=>e = .returned (C (ps.any f))∧Ext w g:=by
 rw [←ze3];obtain⟨x,l⟩:=gX (idxB f ps);have j:=fun W (i:Ext w W)=>zjO W v ps b f (h.ext' i) (fun W' d=>k W' (i.trans d))
 obtain⟨a,n,c,rfl⟩:∃a n c,v=O a n c:=by obtain⟨a,c,h⟩:=h.form;exact⟨a,_,c,h⟩
 rw [l]at *;have m:=hd9 j;clear j l h k;go_enter Tryz.func129,Tryz.ntmps129
 go_wp2_with(((go_at_call 181;(with_reducible refine(m.out _ ?_).mono ?_);exact eA;rintro e q ⟨rfl,o⟩)))
 go_ret;exact⟨rfl,eA⟩
end
end Go.Proofs.YtjnjpagegkcgfaaGreatDoor.Cop
