/- Part 32: contracts of what the law calls. -/
import Derived.Test.YtodpfeaihohpjaaGreatDoorCopA30
import Derived.Test.YtodpfeaihohpjaaGreatDoorCopA27
import Derived.Laws.StructEq
set_option maxRecDepth 1000000
set_option maxHeartbeats 16000000
set_option linter.unusedSimpArgs false
set_option linter.unusedVariables false
open Go.Value renaming slice→O,int→Y,bool→I,agg→J
open Go.IntKind renaming i64→Z
open Go renaming World→X,Value→V,Addr→E
open Option renaming none→M,some→N
namespace Go.Proofs.YtodpfeaihohpjaaGreatDoor.Cop
section
open Go.RowKit Go.Shelf Go.Sort Go.Lib
attribute [local go_sem] Oper.semAt_some
def OwnLn (w:X) (base:Nat) (v:V) (ts:List (List (Int×Int))):Prop:=∃cs,OwnC 99 1 w base v cs∧cs.length=ts.length∧∀(i:Nat) c t,cs[i]?=N c→ts[i]?=N t→PSl 99 w c t
theorem OwnLn.sl {w:X} {base:Nat} {v:V} {ts:List (List (Int×Int))} (h:OwnLn w base v ts):Sl 99 1 (PSl 99) w v ts:=by
 obtain⟨d,a,b,c⟩:=h;exact a.sl b c
theorem PSl.ext {w w':X} {c:List V} {t:List (Int×Int)} (h:PSl 99 w c t) (k:Ext w w'):PSl 99 w' c t:=by
 obtain⟨v,e,h⟩:=h;exact⟨v,e,h.ext' k⟩
theorem PSl.keep {w w':X} {c:List V} {t:List (Int×Int)} (h:PSl 99 w c t) (k:KeepT 33 w w'):PSl 99 w' c t:=by
 obtain⟨v,e,h⟩:=h;exact⟨v,e,h.keep' k⟩
theorem OwnLn.ext {w w':X} {base:Nat} {v:V} {ts:List (List (Int×Int))} (h:OwnLn w base v ts) (k:Ext w w'):OwnLn w' base v ts:=by
 obtain⟨a,b,d,e⟩:=h;exact⟨a,b.ext k,d,fun i c p f g=>(e i c p f g).ext k⟩
theorem OwnLn.form3 {w:X} {base:Nat} {v:V} {ts:List (List (Int×Int))} (h:OwnLn w base v ts):∃a n c,v=O a n c:=by obtain⟨d,b,_⟩:=h;exact b.form3
theorem OwnLn.lt {w:X} {base:Nat} {v:V} {ts:List (List (Int×Int))} (h:OwnLn w base v ts):∀j,v.ownBlock=N j→base≤j∧j<w.heap.size:=by obtain⟨b,a,_⟩:=h;exact a.lt
theorem OwnLn.one {w:X} {a:Option E} {n c:Nat} {t:List (Int×Int)} (h:IsPts w (O a n c) t):OwnLn (w.alloc (.cells #[O a n c] 99)) w.heap.size (O (N ⟨w.heap.size,0,M⟩) 1 1) [t]:=by
 refine⟨[[O a n c]],⟨fun c f=>by rw [List.mem_singleton.1 f];rfl,⟨by simp,.inr ⟨w.heap.size,1,#[O a n c],rfl,nE _,aN w _,by simp,by simp [maxLen],by simp,by simp⟩⟩⟩,rfl,fun i d x b e=>?_⟩
 match i,b,e with
 | 0,b,e =>
  simp at b e;subst b e;exact⟨_,rfl,h.ext' ((eR w).alloc _)⟩
 | i+1,b,_=>simp at b
theorem OwnLn.app {wr e:X} {base:Nat} {j:V} {ts:List (List (Int×Int))} {cs:List (List V)} {d:List V} {t:List (Int×Int)} (h:OwnC 99 1 e base j (cs++[d])) (f:cs.length=ts.length)
  (g:∀(i:Nat) c p,cs[i]?=N c→ts[i]?=N p→PSl 99 wr c p) (m:KeepT 33 wr e) (k:PSl 99 e d t):OwnLn e base j (ts++[t]):=by
 refine⟨cs++[d],h,by simp [f],fun i c x a b=>?_⟩
 by_cases l:i<cs.length
 ·rw [List.getElem?_append_left l]at a
  rw [List.getElem?_append_left oM]at b;exact(g i c x a b).keep m
 ·rw [List.getElem?_append_right oM]at a b
  have n:=(lS.1 a).1;simp at n;have:i-cs.length=0:=oM
  rw [this]at a;rw [show i-ts.length=0 by omega]at b;simp at a b;subst a b;exact k
theorem zjw:(Tryz.prog.info? 99).map (fun i=>(i.zero,i.size,i.bytes))=N (N (O M 0 0),1,24):=kM
theorem zkI {g:List (Int×Int)} {ps:List Pl} {p o:Pl} {i:Nat} (h:ps[i]?=N o):topsP g (ps.take (i+1)) p=topsP g (ps.take i) p++(if (meetB p o&&relP p o==3)=true then [upP2 o]else []):=by
 unfold topsP;rw [zab _ _ _ h,List.filter_append,List.map_append,List.cons_append]
 congr 2
 by_cases c:(meetB p o&&relP p o==3)=true
 ·rw [if_pos c]
  simp only [List.filter,c,List.map_cons,List.map_nil]
 ·rw [if_neg c]
  rw [Bool.not_eq_true]at c;simp only [List.filter,c,List.map_nil]
def DrS (a:X) (g:List (Int×Int)) (ps:List Pl) (p:Pl) (b:Nat) (t9 t51:V) (W:X):Prop:=
 ∃i:Nat,i≤ps.length∧t51=Y Z i∧b=ps.length-i∧Ext a W∧OwnLn W a.heap.size t9 (topsP g (ps.take i) p)
theorem zi9 (w:X) (vg vp v:V) (g:List (Int×Int)) (ps:List Pl) (p:Pl) (hg:IsPts w vg g) (hp:IsPls w vp ps) (hv:IsPts w v p.shape) (hk:0≤p.skin) (aP:Gw w) (h0:laidP g ps=0) (x:placedOk p=true)
  (e1:holdsB g p=true) (e2:ps.any (nameB p.name)=false) (e3:clearB g ps p=true) :
  Calls Tryz.prog 15 #[J #[vg,vp],J (plc p v)] w (RetDr w g ps p):=by
 obtain⟨K,_,a6⟩:=zbt h0;have al:=zbC a6;have HL:=hd9 (fun(W:X) (j:Ext w W)=>zgJ (hg.ext' j) (hp.ext' j) (aP.ext j) h0);have HK:=hd9 (fun(W:X) (j:Ext w W)=>zaD W p _ (hv.ext' j) hk);rw [if_pos x]at HK;have HO:=hd9 (fun(W:X) (j:Ext w W)=>za9 W p _ (hv.ext' j) x (aP.ext j));have HH:=hd9 (fun(W:X) (j:Ext w W) (vs:V) (hs:∃a n c,vs=O a n c) (vp:V) (h:IsLa W vp p)=>zdW W vg vs vp g p (hg.ext' j) hs h al x);have HN:=hd9 (fun(W:X) (j:Ext w W) (vs:V) (hs:IsLas W vs ps)=>zbz W vg vs ps p.name (form3 hg) hs);have HC:=hd9 (fun(W:X) (j:Ext w W) (vs:V) (hs:IsLas W vs ps) (vp:V) (h:IsLa W vp p)=>zdI W vg vs vp g ps p (hg.ext' j) hs h al K x);have aY:=hd9 (fun(W:X) (v1 v2:V) (o:Pl) (h1:IsLa W v1 p) (h2:IsLa W v2 o) (hm:o∈ps)=>zbG W v1 v2 p o h1 h2 x (K o hm));have aX:=hd9 (And.intro h0 (And.intro x (And.intro e1 e3)));have aI:=hd9 (zae x).1;have aJ:=hd9 (fun o (hm:o∈ps)=>(zae (K o hm)).2);have aH:=hd9 al;have Hv:=hd9 hv;have Hg:=hd9 hg
 have HE:Hid (dropE g ps p=0):=hd9 (by
  unfold dropE;rw [if_neg (fun h9=>h9 h0),if_neg (by rw [x];decide),if_neg (by rw [e1];decide),if_neg (by rw [e2];decide),if_neg (by rw [e3];decide)])
 obtain⟨ga,gn,gc,rfl⟩:=form3 hg;obtain⟨pa,pn,cz,rfl⟩:=form3 hp;obtain⟨sa,sn,aj,rfl⟩:=form3 hv;obtain⟨R,hR⟩:=gX (RetDr w g ps p);rw [hR];have HR:=hd9 hR;rw [e1]at HH;rw [e2]at HN;rw [e3]at HC;clear h0 x hg hp hv hk aP hR K a6 al e1 e2 e3;have Ep:p=p:=rfl;unfold plc at HK HO ⊢;unfold RetO lac at HO;go_enter Tryz.func15,Tryz.ntmps15
 go_upto_region 13 with (first|(go_at_call 44;(with_reducible refine(HL.out _ ?_).mono ?_);exact eA;rintro e w4 ⟨va,vn,vc,rfl,am,aR⟩;obtain⟨bt,bA⟩:=aR.cells;(have z4:=aR.size);(simp only [wZ]at z4);(have bP:w.heap.size+1<w4.heap.size:=oM);(have bQ:w.heap.size+1<w4.heap.size+1:=oM))|(go_at_call 45;(with_reducible refine(HK.out _ ?_).mono ?_);exact eA;rintro e w5 ⟨rfl,aS⟩;obtain⟨bu,bB⟩:=aS.cells;(have z5:=aS.size);(simp only [wZ]at z5);(have bT:w.heap.size+1<w5.heap.size:=oM);(have bU:w4.heap.size<w5.heap.size:=oM))|(go_at_call 46;(with_reducible refine(HO.out _ ?_).mono ?_);exact eA;rintro e w6 ⟨vl,vu,rfl,ae,af,aT⟩;obtain⟨ag,ai,ah,rfl⟩:=form3 ae;obtain⟨ao,aq,ap,rfl⟩:=form3 af;obtain⟨bv,bC⟩:=aT.cells;(have z6:=aT.size);(have bV:w.heap.size+1<w6.heap.size:=oM);(have bW:w4.heap.size<w6.heap.size:=oM);(have bX:w4.heap.size<w6.heap.size+1:=oM);(have bY:w.heap.size+1<w6.heap.size+1:=oM))|(go_at_call 47;(with_reducible refine(HH.out _ ?_ _ ?_ _ ?_).mono ?_);exact eA;(exact⟨_,_,_,rfl⟩);(exact⟨_,_,_,rfl,Ext.isPts (w:=w) Hv.out eA,ae.ext' eA,af.ext' eA⟩);rintro e w7 ⟨rfl,aU⟩;obtain⟨bw,bD⟩:=aU.cells;(have z7:=aU.size);(simp only [wZ]at z7);(have bZ:w.heap.size+1<w7.heap.size:=oM);(have b0:w4.heap.size<w7.heap.size:=oM);(have b1:w6.heap.size<w7.heap.size:=oM))|(go_at_call 48;(with_reducible refine(HN.out _ ?_ _ ?_).mono ?_);exact eA;(exact am.ext' eA);rintro e w8 ⟨rfl,aV⟩;obtain⟨bx,bE⟩:=aV.cells;(have z8:=aV.size);(have b2:w.heap.size+1<w8.heap.size:=oM);(have b3:w4.heap.size<w8.heap.size:=oM);(have b5:w6.heap.size<w8.heap.size:=oM))|(go_at_call 49;(with_reducible refine(HC.out _ ?_ _ ?_ _ ?_).mono ?_);exact eA;(exact am.ext' eA);(exact⟨_,_,_,rfl,Ext.isPts (w:=w) Hv.out eA,ae.ext' eA,af.ext' eA⟩);rintro e w9 ⟨rfl,aW⟩;obtain⟨bz,bF⟩:=aW.cells;(have z9:=aW.size)))
 have K6:w9.heap[w4.heap.size]?=N (.cells #[O ga gn gc,O va vn vc] 108 (0,0)):=
  Ext.heapS (a:=w4.alloc (.cells #[O ga gn gc,O va vn vc] 108)) eA (aN _ _)
 have s:w9.heap[w6.heap.size]?=N (.cells #[.string p.name,O sa sn aj,Y Z p.depth,Y Z p.density,Y Z p.gx,Y Z p.gz,Y Z p.way,Y Z p.ax,Y Z p.az,Y .u8 p.skin,O ag ai ah,O ao aq ap] 101 (0,0)):=
  Ext.heapS (a:=w6.alloc (.cells #[.string p.name,O sa sn aj,Y Z p.depth,Y Z p.density,Y Z p.gx,Y Z p.gz,Y Z p.way,Y Z p.ax,Y Z p.az,Y .u8 p.skin,O ag ai ah,O ao aq ap] 101)) eA (aN _ _)
 have Q:IsLas w9 (O va vn vc) ps:=am.ext' eA;have aC:IsLa w9 (J #[.string p.name,O sa sn aj,Y Z p.depth,Y Z p.density,Y Z p.gx,Y Z p.gz,Y Z p.way,Y Z p.ax,Y Z p.az,Y .u8 p.skin,O ag ai ah,O ao aq ap]) p:=⟨_,_,_,rfl,Ext.isPts (w:=w) Hv.out eA,ae.ext' eA,af.ext' eA⟩;have X9:Ext w w9:=eA;obtain⟨b6,aK⟩:=gX w4.heap.size;obtain⟨b8,aL⟩:=gX w6.heap.size;rw [aK]at K6;rw [aL]at s;have y6:b6<w9.heap.size:=zaa K6;have y8:b8<w9.heap.size:=zaa s;have cg:=hd9 K6;have bg:=hd9 s;have H9:=hd9 X9;have bh:=hd9 Q;have a0:=hd9 aC;have cv:=qcB K6 (i:=0) (u:=O ga gn gc) rfl;have cw:=qcB K6 (i:=1) (u:=O va vn vc) rfl;have aQ:vn=ps.length:=Q.len;have bb:=Q.le;have Hn:=hd9 aQ;have ct:vn≤9223372036854775807:=by rw [aQ];unfold maxLen at bb;omega
 simp only [aK,aL];clear bt bA z4 bP bQ bu bB z5 bT bU bv bC z6 bV bW bX bY bw bD z7 bZ b0 b1 bx bE z8 b2 b3 b5 bz bF z9 aR aS aT aU aV aW am ae af Q aC K6 s X9 aK aL aQ bb HL HK HO HH HN HC Ep;go_wp2
 go_loopg [9,51] vn (DrS w9 g ps p)
 case atStart =>
  refine⟨0,Nat.zero_le _,rfl,by rw [Hn.out];rfl,(eR _).alloc _,?_⟩;exact OwnLn.one (Ext.isPts (w:=w) Hg.out H9.out)
 case round =>
  obtain⟨i,hi,rfl,rfl,hx,ac⟩:=hrel;rw [←Hn.out]at hi;have Hx:=hd9 hx;have l:=hd9 ac;obtain⟨xa,xn,xc,rfl⟩:=ac.form3;have s:=hx.heapS bg.out;have p0:=qcB s (i:=0) (u:=.string p.name) rfl;have p1:=qcB s (i:=1) (u:=O sa sn aj) rfl;have p2:=qcB s (i:=2) (u:=Y Z p.depth) rfl;have p3:=qcB s (i:=3) (u:=Y Z p.density) rfl;have p4:=qcB s (i:=4) (u:=Y Z p.gx) rfl;have p5:=qcB s (i:=5) (u:=Y Z p.gz) rfl;have p6:=qcB s (i:=6) (u:=Y Z p.way) rfl;have p7:=qcB s (i:=7) (u:=Y Z p.ax) rfl;have p8:=qcB s (i:=8) (u:=Y Z p.az) rfl;have p9:=qcB s (i:=9) (u:=Y .u8 p.skin) rfl;have bK:=qcB s (i:=10) (u:=O ag ai ah) rfl;have cy:=qcB s (i:=11) (u:=O ao aq ap) rfl;have yw:b8<wr.heap.size:=zaa s;have yx:=hx.size
  by_cases bG:i<vn
  ·obtain⟨o,ho⟩:∃o,ps[i]?=N o:=⟨ps[i]'(by rw [←Hn.out];omega),by simp [←Hn.out,bG]⟩
   obtain⟨b,q,s1,l1,u1,rfl,hb,d1,d2,d3,hc⟩:=(bh.out.ext' hx).at' ho;have bo:=hd9 (lM ho);have Ho:=hd9 ho;have bk:=hd9 d3;have HM:=hd9 (fun(W:X)=>zck W p o (O sa sn aj) s1 ⟨_,_,_,rfl⟩ (form3 d1));have aa:=hd9 (fun(W:X) (j:Ext wr W)=>aY.out W _ (J (lac o s1 l1 u1)) o (a0.out.ext (Hx.out.trans j)) ⟨_,_,_,rfl,d1.ext' j,d2.ext' j,d3.ext' j⟩ bo.out);obtain⟨bL,bN,bM,rfl⟩:=form3 d1;obtain⟨bH,bJ,bI,rfl⟩:=form3 d2;obtain⟨ar,av,au,rfl⟩:=form3 d3;obtain⟨mb,f1⟩:=gX (meetB p o);obtain⟨rl,f2⟩:=gX (relP p o);have ht:topsP g (ps.take (i+1)) p=topsP g (ps.take i) p++(if (mb&&rl==3)=true then [upP2 o]else []):=by rw [zkI ho,f1,f2]
   have Ht:=hd9 ht;rw [f1]at HM;rw [f2]at aa;unfold plc at HM;unfold lac at aa;have bq:=hc 0 (.string o.name) rfl;have cj:=hc 1 (O bL bN bM) rfl;have ck:=hc 2 (Y Z o.depth) rfl;have cl:=hc 3 (Y Z o.density) rfl;have cm:=hc 4 (Y Z o.gx) rfl;have cn:=hc 5 (Y Z o.gz) rfl;have co:=hc 6 (Y Z o.way) rfl;have cp:=hc 7 (Y Z o.ax) rfl;have cq:=hc 8 (Y Z o.az) rfl;have cr:=hc 9 (Y .u8 o.skin) rfl;have b7:=hc 10 (O bH bJ bI) rfl;have b9:=hc 11 (O ar av au) rfl;simp only [Nat.add_zero]at bq;clear hc ho d1 d2 d3 f1 f2 ht s ac hx
   cases mb with
   | false =>
    go_wp2_with(first|(go_at_call 50;(with_reducible refine(HM.out _).mono ?_);rintro e y ⟨rfl,d⟩;obtain⟨aw,aA⟩:=d.cells;(have ak:=d.size);(simp only [wZ]at ak);(have aD:b8<y.heap.size:=oM);(have aE:wr.heap.size<y.heap.size:=oM);(have aF:b8<wr.heap.size+1:=oM))|(go_at_call 42;(with_reducible refine(aa.out _ ?_).mono ?_);exact eA;rintro e D ⟨rfl,f⟩;obtain⟨ay,aB⟩:=f.cells;(have bf:=f.size);(have aG:wr.heap.size<D.heap.size:=oM)))
    go_roundg (ps.length-(i+1))
    case measure=>have:=Hn.out;omega
    case rel=>exact⟨i+1,by have:=Hn.out;omega,by go_num,rfl,Hx.out.trans eA,by rw [Ht.out,Bool.false_and,if_neg dM,List.append_nil];exact l.out.ext eA⟩
   | true =>
    by_cases h3:rl=3
    ·subst h3
     obtain⟨cs,a3,aM,a2⟩:=l.out;have aZ:=hd9 a3;have bj:=hd9 a2;have bi:=hd9 aM
     have bm:=hd9 (show cs.length+1≤100000000000 by
      rw [aM];unfold topsP;have h8:=List.length_filter_le (fun o=>meetB p o&&relP p o==3) (ps.take i);rw [List.length_cons,lL];rw [List.length_take]at h8;omega)
     clear a3 a2 aM
     go_wp2_with(first|(go_at_call 50;(with_reducible refine(HM.out _).mono ?_);rintro e y ⟨rfl,d⟩;obtain⟨aw,aA⟩:=d.cells;(have ak:=d.size);(simp only [wZ]at ak);(have aD:b8<y.heap.size:=oM);(have aE:wr.heap.size<y.heap.size:=oM);(have aF:b8<wr.heap.size+1:=oM))|(go_at_call 42;(with_reducible refine(aa.out _ ?_).mono ?_);exact eA;rintro e D ⟨rfl,f⟩;obtain⟨ay,aB⟩:=f.cells;(have bf:=f.size);(have aG:wr.heap.size<D.heap.size:=oM))|(at_builtin;refine appC (T:=99) (t:=115) (z:=O M 0 0) (k:=1) (bytes:=24) (base:=w9.heap.size) (v:=O xa xn xc) (cs:=cs) (m:=1) (c:=1) (ad:=⟨D.heap.size,0,M⟩) zjw rfl dM dM Tryz.underlying115 rfl _ _ rfl rfl (aZ.out.ext eA) rfl [[O ar av au]] rfl sM (by exact zdw D #[O ar av au] 99) (by simp [Value.oneCell']) bm.out (by simp only [wZ];omega) ?_;intro v' cB P ab ce;obtain⟨ch,cx,ci,rfl⟩:=P.form3))
     go_roundg (ps.length-(i+1))
     case measure=>have:=Hn.out;omega
     case rel =>
      have an:Ext wr (D.alloc (.cells #[O ar av au] 99)):=eA;have a1:=aZ.out.ext an;have bs:=zah (base:=w9.heap.size) ab (by simp only [wZ];omega) (fun k hk=>(a1.lt k hk).1);have a7:=a1.keepT (T':=33) dM ab;refine⟨i+1,by have:=Hn.out;omega,by go_num,rfl,(Hx.out.trans an).thenB bs (nE _),?_⟩;rw [Ht.out,if_pos dM];exact OwnLn.app P bi.out bj.out (an.keep.trans a7) ⟨_,rfl,(bk.out.ext' an).keep' a7⟩
    ·have br:(rl==3)=false:=by simpa using h3
     go_wp2_with(first|(go_at_call 50;(with_reducible refine(HM.out _).mono ?_);rintro e y ⟨rfl,d⟩;obtain⟨aw,aA⟩:=d.cells;(have ak:=d.size);(simp only [wZ]at ak);(have aD:b8<y.heap.size:=oM);(have aE:wr.heap.size<y.heap.size:=oM);(have aF:b8<wr.heap.size+1:=oM))|(go_at_call 42;(with_reducible refine(aa.out _ ?_).mono ?_);exact eA;rintro e D ⟨rfl,f⟩;obtain⟨ay,aB⟩:=f.cells;(have bf:=f.size);(have aG:wr.heap.size<D.heap.size:=oM)))
     go_roundg (ps.length-(i+1))
     case measure=>have:=Hn.out;omega
     case rel=>exact⟨i+1,by have:=Hn.out;omega,by go_num,rfl,Hx.out.trans eA,by rw [Ht.out,Bool.true_and,br,if_neg dM,List.append_nil];exact l.out.ext eA⟩
  ·obtain rfl:i=vn:=oM
   have e:ps.take i=ps:=lT (by rw [←Hn.out];exact nE _);rw [e]at l;obtain⟨D0,D1,D2,D3⟩:=aX.out;obtain⟨q1,q2,q3⟩:=zmD D0 D1 D2 D3
   have HB:=hd9 (fun(W:X) (j:Ext wr W)=>zjK W (O xa xn xc) b8 (O ag ai ah) (lowP2 p) (topsP g ps p) ((l.out.ext j).sl) (j.cellS bK) (by
    obtain⟨s9,l9,u9,e9,_,h9,_⟩:=a0.out;unfold lac at e9
    cases e9
    exact h9.ext' (Hx.out.trans j)) aI.out (fun t ht=>by
     unfold topsP at ht
     rcases List.mem_cons.1 ht with e8|ht
     ·rw [e8];exact aH.out
     ·obtain⟨o,ho,rfl⟩:=List.mem_map.1 ht
      exact aJ.out o (List.mem_filter.1 ho).1))
   have a9:Rb 23 (dropR g ps p):=Rb.minG fun t ht=>Rb.gapT aI.out (by
     unfold topsP at ht
     rcases List.mem_cons.1 ht with e8|ht
     ·rw [e8];exact aH.out
     ·obtain⟨o,ho,rfl⟩:=List.mem_map.1 ht
      exact aJ.out o (List.mem_filter.1 ho).1)
   rw [show minG (gapT (lowP2 p)) (topsP g ps p)=dropR g ps p from rfl]at HB;have HF:=hd9 (fun(W:X) (v:V) (hv:IsR W v (dropR g ps p))=>zit W v (dropR g ps p) hv (a9.mono dM) (Rat.num_nonneg.2 q1));rw [show (dropR g ps p).floor=dropP g ps p from rfl]at HF;have HI:=hd9 (fun(W:X) (v:V) (hv:IsZ W v (dropP g ps p))=>zlY W v (dropP g ps p) hv q2 oM);have hz:IsR w9 (J #[]) 0∨True:=.inr trivial;clear D0 D1 D2 D3 q1 a9 hz aX l aY aJ aH aI;obtain⟨dn,aO⟩:=gX (dropP g ps p);rw [aO]at HF HI q2 q3;have bl:=hd9 aO;clear aO;have cu:IntKind.i64.wrap dn=dn:=iW _ oM
   go_wp2_with(first|(go_at_call 51;(with_reducible refine(HB.out _ ?_).mono ?_);exact eA;rintro e cC ⟨ba,bn,bc,r,rfl,hr,bd⟩;obtain⟨a4,m4,c4,s4,b4,n4,k4,rfl⟩:=hr.form;obtain⟨ca,cc⟩:=bd.cells)|(go_at_call 55;(with_reducible refine(HF.out _ _ (hr.ext ?_)).mono ?_);exact eA;rintro e cD ⟨r5,rfl,a8,be⟩;obtain⟨a5,m5,c5,s5,rfl⟩:=a8.form;obtain⟨cb,cd⟩:=be.cells)|(go_at_call 56;(with_reducible refine(HI.out _ _ (a8.ext ?_)).mono ?_);exact eA;rintro e bO ⟨rfl,cf⟩))
   rw [←HR.out];have bp:Ext wr bO:=eA;exact⟨by rw [HE.out,if_pos rfl,bl.out];rfl,(H9.out.trans Hx.out).trans bp⟩
theorem zlf (w:X) (b c v:V) (g:List (Int×Int)) (ps:List Pl) (p:Pl) (d:IsPts w b g) (f:IsPls w c ps) (hv:IsPts w v p.shape) (e:0≤p.skin) (a:Gw w) :
  Calls Tryz.prog 15 #[J #[b,c],J (plc p v)] w (RetDr w g ps p):=by
 by_cases h:laidP g ps=0
 ·cases h1:placedOk p with
  | false=>exact zfN w b c v g ps p d f hv e a (.inr h1)
  | true =>
   cases h2:holdsB g p with
   | false=>exact zdQ w b c v g ps p d f hv e a h h1 (.inl h2)
   | true =>
    cases h3:ps.any (nameB p.name)with
    | true=>exact zdQ w b c v g ps p d f hv e a h h1 (.inr (.inl h3))
    | false =>
     cases h4:clearB g ps p with
     | false=>exact zdQ w b c v g ps p d f hv e a h h1 (.inr (.inr h4))
     | true=>exact zi9 w b c v g ps p d f hv e a h h1 h2 h3 h4
 ·exact zfN w b c v g ps p d f hv e a (.inl h)
end
section
open Go.RowKit Go.Shelf Go.Sort Go.Lib
def rvc (a:Option E) (m c:Nat) (s:Bool) (b:Option E) (d c2:Nat):Array V:=#[O a m c,I s,O b d c2]
theorem zm7 {w:X} {base:Nat} {a:Option E} {n c:Nat} {b:List Be} (h:OwnBe w base (O a n c) b):n=b.length:=by
 obtain⟨f,d,e,_⟩:=h;rw [d.len,e]
theorem zmd {w:X} {base:Nat} {a:Option E} {n c:Nat} {o:List Be} (h:OwnBe w base (O a n c) o) {k:Nat} {b:Be} (p:o[k]?=N b) :
  ∃g a1 m1 c1 s1 b1 n1 d1 a2 m2 c2 s2 b2 n2 d2 a3 m3 c3 s3 b3 n3 d3 a4 m4 c4 s4 b4 n4 d4,a=N ⟨g,0,M⟩∧base≤g∧g<w.heap.size ∧
   CellL [(⟨g,k*17,M⟩,Y Z b.num),(⟨g,k*17+1,M⟩,O a1 m1 c1),(⟨g,k*17+2,M⟩,I s1),(⟨g,k*17+3,M⟩,O b1 n1 d1),(⟨g,k*17+4,M⟩,O a2 m2 c2),(⟨g,k*17+5,M⟩,I s2),(⟨g,k*17+6,M⟩,O b2 n2 d2),
    (⟨g,k*17+7,M⟩,O a3 m3 c3),(⟨g,k*17+8,M⟩,I s3),(⟨g,k*17+9,M⟩,O b3 n3 d3),(⟨g,k*17+10,M⟩,O a4 m4 c4),(⟨g,k*17+11,M⟩,I s4),(⟨g,k*17+12,M⟩,O b4 n4 d4),
    (⟨g,k*17+13,M⟩,Y Z b.d1.1),(⟨g,k*17+14,M⟩,Y Z b.d1.2),(⟨g,k*17+15,M⟩,Y Z b.d2.1),(⟨g,k*17+16,M⟩,Y Z b.d2.2)] w ∧
   IsR w (J #[O a1 m1 c1,I s1,O b1 n1 d1]) b.fx∧IsR w (J #[O a2 m2 c2,I s2,O b2 n2 d2]) b.fz∧IsR w (J #[O a3 m3 c3,I s3,O b3 n3 d3]) b.tx∧IsR w (J #[O a4 m4 c4,I s4,O b4 n4 d4]) b.tz:=by
 obtain⟨q,d,D,u⟩:=h;have K:=(lS.1 p).1;obtain⟨c,i⟩:∃c,q[k]?=N c:=⟨_,gE oM⟩;obtain⟨f,t,e,⟨a1,m1,c1,s1,b1,n1,d1,a2,m2,c2,s2,b2,n2,d2,r,v,x⟩,⟨a3,m3,c3,s3,b3,n3,d3,a4,m4,c4,s4,b4,n4,d4,s,y,z⟩⟩:=u k c b i p
 obtain rfl:f=[O a1 m1 c1,I s1,O b1 n1 d1,O a2 m2 c2,I s2,O b2 n2 d2]:=by
  have:=congrArg Array.toList (Value.agg.inj r)
  simpa using this
 obtain rfl:t=[O a3 m3 c3,I s3,O b3 n3 d3,O a4 m4 c4,I s4,O b4 n4 d4]:=by
  have:=congrArg Array.toList (Value.agg.inj s)
  simpa using this
 subst e;obtain⟨g,rfl,l,m⟩:=d.blk oM;refine⟨g,a1,m1,c1,s1,b1,n1,d1,a2,m2,c2,s2,b2,n2,d2,a3,m3,c3,s3,b3,n3,d3,a4,m4,c4,s4,b4,n4,d4,rfl,l,m,⟨?_,?_,?_,?_,?_,?_,?_,?_,?_,?_,?_,?_,?_,?_,?_,?_,?_,trivial⟩,v,x,y,z⟩
 ·exact d.cell (j:=0) i rfl
 ·exact d.cell (j:=1) i rfl
 ·exact d.cell (j:=2) i rfl
 ·exact d.cell (j:=3) i rfl
 ·exact d.cell (j:=4) i rfl
 ·exact d.cell (j:=5) i rfl
 ·exact d.cell (j:=6) i rfl
 ·exact d.cell (j:=7) i rfl
 ·exact d.cell (j:=8) i rfl
 ·exact d.cell (j:=9) i rfl
 ·exact d.cell (j:=10) i rfl
 ·exact d.cell (j:=11) i rfl
 ·exact d.cell (j:=12) i rfl
 ·exact d.cell (j:=13) i rfl
 ·exact d.cell (j:=14) i rfl
 ·exact d.cell (j:=15) i rfl
 ·exact d.cell (j:=16) i rfl
theorem zmH (w:X) (b c:V) (d:IsPts w b exG) (e:IsPls w c ex3) (a:Gw w) :
  Calls Tryz.prog 16 #[J #[b,c],Y Z 2,Y Z 0] w (RetBs w [⟨0,100,80,200,80,(1,0),(1,0)⟩,⟨1,200,80,300,80,(1,0),(1,0)⟩]):=by
 have h:=zmB w b c exG ex3 2 exC 0 d e a zfo rfl oM oM (zbt zfo).2.2 (zbt zfo).1 dM;rw [show ex3.length+1=4 from rfl,zmA]at h;exact h
theorem zmI (w:X) (b c v:V) (f:IsPts w b exG) (g:IsPls w c ex3) (hv:IsPts w v brickS) (a:Gw w) :
  Calls Tryz.prog 15 #[J #[b,c],J (plc exD v)] w fun e d=>e = .returned (.tuple #[Y Z 140,Y Z 0])∧Ext w d:=by
 refine(zlf w b c v exG ex3 exD f g hv dM a).mono ?_;rintro e d ⟨rfl,i⟩
 have h:dropE exG ex3 exD=0:=by
  unfold dropE ex3;rw [show laidP exG [exA,exB,exC]=0 from zfo,if_neg dM,if_neg (by rw [znX];decide)];simp only [holdsB,clearB,clashB,List.any_cons,List.any_nil,relP,freeB,leastR,stopsR,stopsZ,zcN,zd2,zd3,zfq,zjN,zhO,zhP,zhQ,zmo]
  decide +kernel
 rw [h,if_pos rfl,zmE];exact⟨rfl,i⟩
theorem znK (w:X) (b c:V) (f:IsPts w b brickS) (g:IsPts w c brickS) (a:Gw w) :
  Calls Tryz.prog 12 #[J (plc exA b),J (plc exB c)] w fun e d=>e = .returned (.tuple #[Y .u8 1,Y Z 0])∧Ext w d:=by
 refine(zc3 w b c exA exB f g dM dM a).mono ?_;rintro e d ⟨rfl,h⟩;unfold relK relE;rw [if_pos ⟨zme,zmf⟩,if_pos ⟨zme,zmf⟩,zn3];exact⟨rfl,h⟩
theorem zhK {n:Int} (h:Bd 1000 n):Rb limT (n:Rat):=(zau h dM).mono dM
theorem zmJ (w:X) (a:Option E) (m c:Nat) (s:Bool) (f:Option E) (i c2:Nat) (b:Option E) (n d:Nat) (t:Bool) (g:Option E) (j h:Nat) (k:IsR w (J #[O a m c,I s,O f i c2]) 100) (l:IsR w (J #[O b n d,I t,O g j h]) 80) :
  Calls Tryz.prog 37 #[J #[O a m c,I s,O f i c2,O b n d,I t,O g j h]] w fun e o=>e = .returned (.string ⟨#[40,49,48,48,44,32,56,48,41]⟩)∧Ext w o:=by
 have:=zgo w _ _ 100 80 k l (zhK (n:=100) (by unfold Bd;omega)) (zhK (n:=80) (by unfold Bd;omega)) _ ⟨a,m,c,s,f,i,c2,b,n,d,t,g,j,h,rfl,rfl,rfl⟩;rw [znn]at this;exact this
theorem zlO:textV 200 80=[40,50,48,48,44,32,56,48,41]:=by decide +kernel
theorem zhf (w:X) (a:Option E) (m c:Nat) (s:Bool) (f:Option E) (i c2:Nat) (b:Option E) (n d:Nat) (t:Bool) (g:Option E) (j h:Nat) (k:IsR w (J #[O a m c,I s,O f i c2]) 200) (l:IsR w (J #[O b n d,I t,O g j h]) 80) :
  Calls Tryz.prog 37 #[J #[O a m c,I s,O f i c2,O b n d,I t,O g j h]] w fun e o=>e = .returned (.string ⟨#[40,50,48,48,44,32,56,48,41]⟩)∧Ext w o:=by
 have:=zgo w _ _ 200 80 k l (zhK (n:=200) (by unfold Bd;omega)) (zhK (n:=80) (by unfold Bd;omega)) _ ⟨a,m,c,s,f,i,c2,b,n,d,t,g,j,h,rfl,rfl,rfl⟩;rw [zlO]at this;exact this
end
end Go.Proofs.YtodpfeaihohpjaaGreatDoor.Cop
