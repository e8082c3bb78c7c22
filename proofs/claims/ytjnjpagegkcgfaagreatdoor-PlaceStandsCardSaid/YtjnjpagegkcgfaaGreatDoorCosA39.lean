/- Part 40. -/
import Derived.Test.YtjnjpagegkcgfaaGreatDoorCosA38
import Derived.Test.YtjnjpagegkcgfaaGreatDoorCosA36
import Derived.Test.YtjnjpagegkcgfaaGreatDoorCosA37
import Derived.Test.YtjnjpagegkcgfaaGreatDoorCosA34
set_option maxRecDepth 1000000
set_option maxHeartbeats 16000000
set_option linter.unusedSimpArgs false
set_option linter.unusedVariables false
open Go.Value renaming slice->O,int->Y,agg->I
open Go.IntKind renaming i64->Z
open Go renaming World->X,Value->V
namespace Go.Proofs.YtjnjpagegkcgfaaGreatDoor.Cop
section
open Go.RowKit Go.Shelf Go.Sort Go.Lib
attribute [local go_sem] Oper.semAt_some
def OwnLn(w:X)(base:Nat)(v:V)(ts:List LP):Prop:=∃cs,OwnC 121 1 w base v cs/\cs.length=ts.length/\∀(i:Nat) c t,cs[i]?=some c->ts[i]?=some t->PSl 121 w c t
theorem OwnLn.sl{w:X}{base:Nat}{v:V}{ts:List LP}(h:OwnLn w base v ts):Sl 121 1 (PSl 121) w v ts:=by
 obtain⟨d,a,b,c⟩:=h;exact a.sl b c
theorem PSl.ext{w w':X}{c:List V}{t:LP}(h:PSl 121 w c t)(k:Ext w w'):PSl 121 w' c t:=by
 obtain⟨v,e,h⟩:=h;exact⟨v,e,h.ext' k⟩
theorem PSl.keep{w w':X}{c:List V}{t:LP}(h:PSl 121 w c t)(k:KeepT 43 w w'):PSl 121 w' c t:=by
 obtain⟨v,e,h⟩:=h;exact⟨v,e,h.keep' k⟩
theorem OwnLn.ext{w w':X}{base:Nat}{v:V}{ts:List LP}(h:OwnLn w base v ts)(k:Ext w w'):OwnLn w' base v ts:=by
 obtain⟨a,b,d,e⟩:=h;exact⟨a,b.ext k,d,fun i c p f g=>(e i c p f g).ext k⟩
theorem OwnLn.form3{w:X}{base:Nat}{v:V}{ts:List LP}(h:OwnLn w base v ts):∃a n c,v=O a n c:=by obtain⟨d,b,_⟩:=h;exact b.form3
theorem OwnLn.lt{w:X}{base:Nat}{v:V}{ts:List LP}(h:OwnLn w base v ts):∀j,v.ownBlock=some j->base<=j/\j<w.heap.size:=by obtain⟨b,a,_⟩:=h;exact a.lt
theorem OwnLn.one{w:X}{a:Option Addr}{n c:Nat}{t:LP}(h:IsPts w (O a n c) t):OwnLn (w.alloc (.cells #[O a n c] 121)) w.heap.size (O (some ⟨w.heap.size,0,none⟩) 1 1) [t]:=by
 refine⟨[[O a n c]],⟨fun c f=>by rw[List.mem_singleton.1 f];rfl,⟨by simp,.inr ⟨w.heap.size,1,#[O a n c],rfl,nE _,aN w _,by simp,by simp[maxLen],by simp,by simp⟩⟩⟩,rfl,fun i d x b e=>?_⟩
 match i,b,e with
 | 0,b,e =>
  simp at b e;subst b e;exact⟨_,rfl,h.ext' ((eR w).alloc _)⟩
 | i+1,b,_=>simp at b
theorem OwnLn.app{wr e:X}{base:Nat}{j:V}{ts:List LP}{cs:List (List V)}{d:List V}{t:LP}(h:OwnC 121 1 e base j (cs++[d]))(f:cs.length=ts.length)
  (g:∀(i:Nat) c p,cs[i]?=some c->ts[i]?=some p->PSl 121 wr c p)(m:KeepT 43 wr e)(k:PSl 121 e d t):OwnLn e base j (ts++[t]):=by
 refine⟨cs++[d],h,by simp[f],fun i c x a b=>?_⟩
 by_cases l:i<cs.length
 ·rw[List.getElem?_append_left l]at a
  rw[List.getElem?_append_left oM]at b;exact(g i c x a b).keep m
 ·rw[List.getElem?_append_right oM]at a b
  have n:=(lS.1 a).1;simp at n;have:i-cs.length=0:=oM
  rw[this]at a;rw[show i-ts.length=0 by omega]at b;simp at a b;subst a b;exact k
theorem zjo:(Tryz.prog.info? 121).map (fun i=>(i.zero,i.size,i.bytes))=some (some (O none 0 0),1,24):=kM
theorem zkv{g:LP}{ps:List Pl}{p o:Pl}{i:Nat}(h:ps[i]?=some o):topsP g (ps.take (i+1)) p=topsP g (ps.take i) p++(if (meetB p o&&relP p o==3)=true then [upP2 o]else []):=by
 unfold topsP;rw[zab _ _ _ h,List.filter_append,List.map_append,List.cons_append]
 congr 2
 by_cases c:(meetB p o&&relP p o==3)=true
 ·rw[if_pos c]
  simp only[List.filter,c,List.map_cons,List.map_nil]
 ·rw[if_neg c]
  rw[Bool.not_eq_true]at c;simp only[List.filter,c,List.map_nil]
def DrS(a:X)(g:LP)(ps:List Pl)(p:Pl)(b:Nat)(t9 t51:V)(W:X):Prop:=
 ∃i:Nat,i<=ps.length/\t51=Y Z i/\b=ps.length-i/\Ext a W/\OwnLn W a.heap.size t9 (topsP g (ps.take i) p)
theorem ziQ(w:X)(vg vp v:V)(g:LP)(ps:List Pl)(p:Pl)(hg:IsPts w vg g)(hp:IsPls w vp ps)(hv:IsPts w v p.shape)(hk:0<=p.skin)(aP:Gw w)(h0:laidP g ps=0)(x:placedOk p=true)
  (e1:holdsB g p=true)(e2:ps.any (nameB p.name)=false)(e3:clearB g ps p=true) :
  Calls Tryz.prog 10 #[I #[vg,vp],I (plc p v)] w (RetDr w g ps p):=by
 obtain⟨K,_,a6⟩:=zbW h0;have al:=zby a6;have HL:=hd9 (fun(W:X)(j:Ext w W)=>zgq (hg.ext' j) (hp.ext' j) (aP.ext j) h0);have HK:=hd9 (fun(W:X)(j:Ext w W)=>zau W p _ (hv.ext' j) hk);rw[if_pos x]at HK;have HO:=hd9 (fun(W:X)(j:Ext w W)=>zaR W p _ (hv.ext' j) x (aP.ext j));have HH:=hd9 (fun(W:X)(j:Ext w W)(vs:V)(hs:∃a n c,vs=O a n c)(vp:V)(h:IsLa W vp p)=>zdE W vg vs vp g p (hg.ext' j) hs h al x);have HN:=hd9 (fun(W:X)(j:Ext w W)(vs:V)(hs:IsLas W vs ps)=>zbv W vg vs ps p.name (form3 hg) hs);have HC:=hd9 (fun(W:X)(j:Ext w W)(vs:V)(hs:IsLas W vs ps)(vp:V)(h:IsLa W vp p)=>zdq W vg vs vp g ps p (hg.ext' j) hs h al K x);have aY:=hd9 (fun(W:X)(v1 v2:V)(o:Pl)(h1:IsLa W v1 p)(h2:IsLa W v2 o)(hm:o∈ps)=>zcR W v1 v2 p o h1 h2 x (K o hm));have aX:=hd9 (And.intro h0 (And.intro x (And.intro e1 e3)));have aI:=hd9 (zao x).1;have aJ:=hd9 (fun o (hm:o∈ps)=>(zao (K o hm)).2);have aH:=hd9 al;have Hv:=hd9 hv;have Hg:=hd9 hg
 have HE:Hid (dropE g ps p=0):=hd9 (by
  unfold dropE;rw[if_neg (fun h9=>h9 h0),if_neg (by rw[x];decide),if_neg (by rw[e1];decide),if_neg (by rw[e2];decide),if_neg (by rw[e3];decide)])
 obtain⟨ga,gn,gc,rfl⟩:=form3 hg;obtain⟨pa,pn,cB,rfl⟩:=form3 hp;obtain⟨sa,sn,aj,rfl⟩:=form3 hv;obtain⟨R,hR⟩:=gX (RetDr w g ps p);rw[hR];have HR:=hd9 hR;rw[e1]at HH;rw[e2]at HN;rw[e3]at HC;clear h0 x hg hp hv hk aP hR K a6 al e1 e2 e3;have Ep:p=p:=rfl;unfold plc at HK HO ⊢;unfold RetO lac at HO;go_enter Tryz.func10,Tryz.ntmps10
 go_upto_region 13 with (first|(go_at_call 49;(with_reducible refine(HL.out _ ?_).mono ?_);exact eA;rintro e w4 ⟨va,vn,vc,rfl,am,aR⟩;obtain⟨bu,bB⟩:=aR.cells;(have z4:=aR.size);(simp only[wZ]at z4);(have bQ:w.heap.size+1<w4.heap.size:=oM);(have bT:w.heap.size+1<w4.heap.size+1:=oM))|(go_at_call 28;(with_reducible refine(HK.out _ ?_).mono ?_);exact eA;rintro e w5 ⟨rfl,aS⟩;obtain⟨bv,bC⟩:=aS.cells;(have z5:=aS.size);(simp only[wZ]at z5);(have bU:w.heap.size+1<w5.heap.size:=oM);(have bV:w4.heap.size<w5.heap.size:=oM))|(go_at_call 50;(with_reducible refine(HO.out _ ?_).mono ?_);exact eA;rintro e w6 ⟨vl,vu,rfl,ae,af,aT⟩;obtain⟨ag,ai,ah,rfl⟩:=form3 ae;obtain⟨ao,aq,ap,rfl⟩:=form3 af;obtain⟨bw,bD⟩:=aT.cells;(have z6:=aT.size);(have bW:w.heap.size+1<w6.heap.size:=oM);(have bX:w4.heap.size<w6.heap.size:=oM);(have bY:w4.heap.size<w6.heap.size+1:=oM);(have bZ:w.heap.size+1<w6.heap.size+1:=oM))|(go_at_call 51;(with_reducible refine(HH.out _ ?_ _ ?_ _ ?_).mono ?_);exact eA;(exact⟨_,_,_,rfl⟩);(exact⟨_,_,_,rfl,Ext.isPts (w:=w) Hv.out eA,ae.ext' eA,af.ext' eA⟩);rintro e w7 ⟨rfl,aU⟩;obtain⟨bx,bE⟩:=aU.cells;(have z7:=aU.size);(simp only[wZ]at z7);(have b0:w.heap.size+1<w7.heap.size:=oM);(have b1:w4.heap.size<w7.heap.size:=oM);(have b2:w6.heap.size<w7.heap.size:=oM))|(go_at_call 52;(with_reducible refine(HN.out _ ?_ _ ?_).mono ?_);exact eA;(exact am.ext' eA);rintro e w8 ⟨rfl,aV⟩;obtain⟨bz,bF⟩:=aV.cells;(have z8:=aV.size);(have b3:w.heap.size+1<w8.heap.size:=oM);(have b5:w4.heap.size<w8.heap.size:=oM);(have b7:w6.heap.size<w8.heap.size:=oM))|(go_at_call 53;(with_reducible refine(HC.out _ ?_ _ ?_ _ ?_).mono ?_);exact eA;(exact am.ext' eA);(exact⟨_,_,_,rfl,Ext.isPts (w:=w) Hv.out eA,ae.ext' eA,af.ext' eA⟩);rintro e w9 ⟨rfl,aW⟩;obtain⟨bA,bG⟩:=aW.cells;(have z9:=aW.size)))
 have K6:w9.heap[w4.heap.size]?=some (.cells #[O ga gn gc,O va vn vc] 124 (0,0)):=
  Ext.heapS (a:=w4.alloc (.cells #[O ga gn gc,O va vn vc] 124)) eA (aN _ _)
 have s:w9.heap[w6.heap.size]?=some (.cells #[.string p.name,O sa sn aj,Y Z p.depth,Y Z p.density,Y Z p.gx,Y Z p.gz,Y Z p.way,Y Z p.ax,Y Z p.az,Y .u8 p.skin,O ag ai ah,O ao aq ap] 128 (0,0)):=
  Ext.heapS (a:=w6.alloc (.cells #[.string p.name,O sa sn aj,Y Z p.depth,Y Z p.density,Y Z p.gx,Y Z p.gz,Y Z p.way,Y Z p.ax,Y Z p.az,Y .u8 p.skin,O ag ai ah,O ao aq ap] 128)) eA (aN _ _)
 have P:IsLas w9 (O va vn vc) ps:=am.ext' eA;have aC:IsLa w9 (I #[.string p.name,O sa sn aj,Y Z p.depth,Y Z p.density,Y Z p.gx,Y Z p.gz,Y Z p.way,Y Z p.ax,Y Z p.az,Y .u8 p.skin,O ag ai ah,O ao aq ap]) p:=⟨_,_,_,rfl,Ext.isPts (w:=w) Hv.out eA,ae.ext' eA,af.ext' eA⟩;have X9:Ext w w9:=eA;obtain⟨b6,aK⟩:=gX w4.heap.size;obtain⟨b8,aL⟩:=gX w6.heap.size;rw[aK]at K6;rw[aL]at s;have y6:b6<w9.heap.size:=zaa K6;have y8:b8<w9.heap.size:=zaa s;have ch:=hd9 K6;have bh:=hd9 s;have H9:=hd9 X9;have bi:=hd9 P;have a0:=hd9 aC;have cw:=qcB K6 (i:=0) (u:=O ga gn gc) rfl;have cx:=qcB K6 (i:=1) (u:=O va vn vc) rfl;have aQ:vn=ps.length:=P.len;have bb:=P.le;have Hn:=hd9 aQ;have cu:vn<=9223372036854775807:=by rw[aQ];unfold maxLen at bb;omega
 simp only[aK,aL];clear bu bB z4 bQ bT bv bC z5 bU bV bw bD z6 bW bX bY bZ bx bE z7 b0 b1 b2 bz bF z8 b3 b5 b7 bA bG z9 aR aS aT aU aV aW am ae af P aC K6 s X9 aK aL aQ bb HL HK HO HH HN HC Ep;go_wp2
 go_loopg [9,51] vn (DrS w9 g ps p)
 case atStart =>
  refine⟨0,Nat.zero_le _,rfl,by rw[Hn.out];rfl,(eR _).alloc _,?_⟩;exact OwnLn.one (Ext.isPts (w:=w) Hg.out H9.out)
 case round =>
  obtain⟨i,hi,rfl,rfl,hx,ac⟩:=hrel;rw[<-Hn.out]at hi;have Hx:=hd9 hx;have l:=hd9 ac;obtain⟨xa,xn,xc,rfl⟩:=ac.form3;have s:=hx.heapS bh.out;have p0:=qcB s (i:=0) (u:=.string p.name) rfl;have p1:=qcB s (i:=1) (u:=O sa sn aj) rfl;have p2:=qcB s (i:=2) (u:=Y Z p.depth) rfl;have p3:=qcB s (i:=3) (u:=Y Z p.density) rfl;have p4:=qcB s (i:=4) (u:=Y Z p.gx) rfl;have p5:=qcB s (i:=5) (u:=Y Z p.gz) rfl;have p6:=qcB s (i:=6) (u:=Y Z p.way) rfl;have p7:=qcB s (i:=7) (u:=Y Z p.ax) rfl;have p8:=qcB s (i:=8) (u:=Y Z p.az) rfl;have p9:=qcB s (i:=9) (u:=Y .u8 p.skin) rfl;have bL:=qcB s (i:=10) (u:=O ag ai ah) rfl;have cz:=qcB s (i:=11) (u:=O ao aq ap) rfl;have yw:b8<wr.heap.size:=zaa s;have yx:=hx.size
  by_cases bH:i<vn
  ·obtain⟨o,ho⟩:∃o,ps[i]?=some o:=⟨ps[i]'(by rw[<-Hn.out];omega),by simp[<-Hn.out,bH]⟩
   obtain⟨b,q,s1,l1,u1,rfl,hb,d1,d2,d3,Q⟩:=(bi.out.ext' hx).at' ho;have bp:=hd9 (lM ho);have Ho:=hd9 ho;have bl:=hd9 d3;have HM:=hd9 (fun(W:X)=>zbY W p o (O sa sn aj) s1 ⟨_,_,_,rfl⟩ (form3 d1));have aa:=hd9 (fun(W:X)(j:Ext wr W)=>aY.out W _ (I (lac o s1 l1 u1)) o (a0.out.ext (Hx.out.trans j)) ⟨_,_,_,rfl,d1.ext' j,d2.ext' j,d3.ext' j⟩ bp.out);obtain⟨bM,bO,bN,rfl⟩:=form3 d1;obtain⟨bI,bK,bJ,rfl⟩:=form3 d2;obtain⟨ar,av,au,rfl⟩:=form3 d3;obtain⟨mb,f1⟩:=gX (meetB p o);obtain⟨rl,f2⟩:=gX (relP p o);have ht:topsP g (ps.take (i+1)) p=topsP g (ps.take i) p++(if (mb&&rl==3)=true then [upP2 o]else []):=by rw[zkv ho,f1,f2]
   have Ht:=hd9 ht;rw[f1]at HM;rw[f2]at aa;unfold plc at HM;unfold lac at aa;have br:=Q 0 (.string o.name) rfl;have ck:=Q 1 (O bM bO bN) rfl;have cl:=Q 2 (Y Z o.depth) rfl;have cm:=Q 3 (Y Z o.density) rfl;have cn:=Q 4 (Y Z o.gx) rfl;have co:=Q 5 (Y Z o.gz) rfl;have cp:=Q 6 (Y Z o.way) rfl;have cq:=Q 7 (Y Z o.ax) rfl;have cr:=Q 8 (Y Z o.az) rfl;have ct:=Q 9 (Y .u8 o.skin) rfl;have b9:=Q 10 (O bI bK bJ) rfl;have ca:=Q 11 (O ar av au) rfl;simp only[Nat.add_zero]at br;clear Q ho d1 d2 d3 f1 f2 ht s ac hx
   cases mb with
   | false =>
    go_wp2_with(first|(go_at_call 54;(with_reducible refine(HM.out _).mono ?_);rintro e y ⟨rfl,d⟩;obtain⟨aw,aA⟩:=d.cells;(have ak:=d.size);(simp only[wZ]at ak);(have aD:b8<y.heap.size:=oM);(have aE:wr.heap.size<y.heap.size:=oM);(have aF:b8<wr.heap.size+1:=oM))|(go_at_call 55;(with_reducible refine(aa.out _ ?_).mono ?_);exact eA;rintro e D ⟨rfl,f⟩;obtain⟨ay,aB⟩:=f.cells;(have bg:=f.size);(have aG:wr.heap.size<D.heap.size:=oM)))
    go_roundg (ps.length-(i+1))
    case measure=>have:=Hn.out;omega
    case rel=>exact⟨i+1,by have:=Hn.out;omega,by go_num,rfl,Hx.out.trans eA,by rw[Ht.out,Bool.false_and,if_neg dM,List.append_nil];exact l.out.ext eA⟩
   | true =>
    by_cases h3:rl=3
    ·subst h3
     obtain⟨cs,a3,aM,a2⟩:=l.out;have aZ:=hd9 a3;have bk:=hd9 a2;have bj:=hd9 aM
     have bo:=hd9 (show cs.length+1<=100000000000 by
      rw[aM];unfold topsP;have h8:=List.length_filter_le (fun o=>meetB p o&&relP p o==3) (ps.take i);rw[List.length_cons,lL];rw[List.length_take]at h8;omega)
     clear a3 a2 aM
     go_wp2_with(first|(go_at_call 54;(with_reducible refine(HM.out _).mono ?_);rintro e y ⟨rfl,d⟩;obtain⟨aw,aA⟩:=d.cells;(have ak:=d.size);(simp only[wZ]at ak);(have aD:b8<y.heap.size:=oM);(have aE:wr.heap.size<y.heap.size:=oM);(have aF:b8<wr.heap.size+1:=oM))|(go_at_call 55;(with_reducible refine(aa.out _ ?_).mono ?_);exact eA;rintro e D ⟨rfl,f⟩;obtain⟨ay,aB⟩:=f.cells;(have bg:=f.size);(have aG:wr.heap.size<D.heap.size:=oM))|(at_builtin;refine appC (T:=121) (t:=132) (z:=O none 0 0) (k:=1) (bytes:=24) (base:=w9.heap.size) (v:=O xa xn xc) (cs:=cs) (m:=1) (c:=1) (ad:=⟨D.heap.size,0,none⟩) zjo rfl dM dM Tryz.underlying132 rfl _ _ rfl rfl (aZ.out.ext eA) rfl [[O ar av au]] rfl sM (by exact zeW D #[O ar av au] 121) (by simp[Value.oneCell']) bo.out (by simp only[wZ];omega) ?_;intro v' cC L ab cf;obtain⟨ci,cy,cj,rfl⟩:=L.form3))
     go_roundg (ps.length-(i+1))
     case measure=>have:=Hn.out;omega
     case rel =>
      have an:Ext wr (D.alloc (.cells #[O ar av au] 121)):=eA;have a1:=aZ.out.ext an;have bt:=zad (base:=w9.heap.size) ab (by simp only[wZ];omega) (fun k hk=>(a1.lt k hk).1);have a7:=a1.keepT (T':=43) dM ab;refine⟨i+1,by have:=Hn.out;omega,by go_num,rfl,(Hx.out.trans an).thenB bt (nE _),?_⟩;rw[Ht.out,if_pos dM];exact OwnLn.app L bj.out bk.out (an.keep.trans a7) ⟨_,rfl,(bl.out.ext' an).keep' a7⟩
    ·have bs:(rl==3)=false:=by simpa using h3
     go_wp2_with(first|(go_at_call 54;(with_reducible refine(HM.out _).mono ?_);rintro e y ⟨rfl,d⟩;obtain⟨aw,aA⟩:=d.cells;(have ak:=d.size);(simp only[wZ]at ak);(have aD:b8<y.heap.size:=oM);(have aE:wr.heap.size<y.heap.size:=oM);(have aF:b8<wr.heap.size+1:=oM))|(go_at_call 55;(with_reducible refine(aa.out _ ?_).mono ?_);exact eA;rintro e D ⟨rfl,f⟩;obtain⟨ay,aB⟩:=f.cells;(have bg:=f.size);(have aG:wr.heap.size<D.heap.size:=oM)))
     go_roundg (ps.length-(i+1))
     case measure=>have:=Hn.out;omega
     case rel=>exact⟨i+1,by have:=Hn.out;omega,by go_num,rfl,Hx.out.trans eA,by rw[Ht.out,Bool.true_and,bs,if_neg dM,List.append_nil];exact l.out.ext eA⟩
  ·obtain rfl:i=vn:=oM
   have e:ps.take i=ps:=lT (by rw[<-Hn.out];exact nE _);rw[e]at l;obtain⟨D0,D1,D2,D3⟩:=aX.out;obtain⟨q1,q2,q3⟩:=zmT D0 D1 D2 D3
   have HB:=hd9 (fun(W:X)(j:Ext wr W)=>zjy W (O xa xn xc) b8 (O ag ai ah) (lowP2 p) (topsP g ps p) ((l.out.ext j).sl) (j.cellS bL) (by
    obtain⟨s9,l9,u9,e9,_,h9,_⟩:=a0.out;unfold lac at e9
    cases e9
    exact h9.ext' (Hx.out.trans j)) aI.out (fun t ht=>by
     unfold topsP at ht
     rcases List.mem_cons.1 ht with e8|ht
     ·rw[e8];exact aH.out
     ·obtain⟨o,ho,rfl⟩:=List.mem_map.1 ht
      exact aJ.out o (List.mem_filter.1 ho).1))
   have a9:Rb 23 (dropR g ps p):=Rb.minG fun t ht=>Rb.gapT aI.out (by
     unfold topsP at ht
     rcases List.mem_cons.1 ht with e8|ht
     ·rw[e8];exact aH.out
     ·obtain⟨o,ho,rfl⟩:=List.mem_map.1 ht
      exact aJ.out o (List.mem_filter.1 ho).1)
   rw[show minG (gapT (lowP2 p)) (topsP g ps p)=dropR g ps p from rfl]at HB;have HF:=hd9 (fun(W:X)(v:V)(hv:IsR W v (dropR g ps p))=>zid W v (dropR g ps p) hv (a9.mono dM) (Rat.num_nonneg.2 q1));rw[show (dropR g ps p).floor=dropP g ps p from rfl]at HF;have HI:=hd9 (fun(W:X)(v:V)(hv:IsZ W v (dropP g ps p))=>zl1 W v (dropP g ps p) hv q2 oM);have hz:IsR w9 (I #[]) 0\/True:=.inr trivial;clear D0 D1 D2 D3 q1 a9 hz aX l aY aJ aH aI;obtain⟨dn,aO⟩:=gX (dropP g ps p);rw[aO]at HF HI q2 q3;have bm:=hd9 aO;clear aO;have cv:IntKind.i64.wrap dn=dn:=iW _ oM
   go_wp2_with(first|(go_at_call 56;(with_reducible refine(HB.out _ ?_).mono ?_);exact eA;rintro e cD ⟨ba,bn,bc,r,rfl,hr,be⟩;obtain⟨a4,m4,c4,s4,b4,n4,k4,rfl⟩:=hr.form;obtain⟨cb,cd⟩:=be.cells)|(go_at_call 60;(with_reducible refine(HF.out _ _ (hr.ext ?_)).mono ?_);exact eA;rintro e cF ⟨r5,rfl,a8,bf⟩;obtain⟨a5,m5,c5,s5,rfl⟩:=a8.form;obtain⟨cc,ce⟩:=bf.cells)|(go_at_call 61;(with_reducible refine(HI.out _ _ (a8.ext ?_)).mono ?_);exact eA;rintro e bP ⟨rfl,cg⟩))
   rw[<-HR.out];have bq:Ext wr bP:=eA;exact⟨by rw[HE.out,if_pos rfl,bm.out];rfl,(H9.out.trans Hx.out).trans bq⟩
theorem zk3(w:X)(b c v:V)(g:LP)(ps:List Pl)(p:Pl)(d:IsPts w b g)(f:IsPls w c ps)(hv:IsPts w v p.shape)(e:0<=p.skin)(a:Gw w) :
  Calls Tryz.prog 10 #[I #[b,c],I (plc p v)] w (RetDr w g ps p):=by
 by_cases i:laidP g ps=0
 ·cases h1:placedOk p with
  | false=>exact zfi w b c v g ps p d f hv e a (.inr h1)
  | true =>
   cases h2:holdsB g p with
   | false=>exact zdw w b c v g ps p d f hv e a i h1 (.inl h2)
   | true =>
    cases h3:ps.any (nameB p.name)with
    | true=>exact zdw w b c v g ps p d f hv e a i h1 (.inr (.inl h3))
    | false =>
     cases h4:clearB g ps p with
     | false=>exact zdw w b c v g ps p d f hv e a i h1 (.inr (.inr h4))
     | true=>exact ziQ w b c v g ps p d f hv e a i h1 h2 h3 h4
 ·exact zfi w b c v g ps p d f hv e a (.inl i)
end
section
open Go.RowKit Go.Shelf Go.Sort Go.Lib
theorem Rb.atEG{k:Nat}(l:1<=k){x:Rat}{e:Edg}(m:Rb k x)(h:Bd 104000 e.1.1/\Bd 104000 e.1.2/\Bd 104000 e.2.1/\Bd 104000 e.2.2):Rb (4*k+7) (Cop.atE x e):=by
 obtain⟨i,j,n,o⟩:=h;have f:Bd 208000 (e.2.2-e.1.2):=by unfold Bd at *;omega
 have g:Bd 208000 (e.2.1-e.1.1):=by unfold Bd at *;omega
 unfold Cop.atE;have a:=Rb.sub m ((zaC i).mono (k:=k) l);have b:=Rb.mul a (zaC f);have c:=Rb.div b (zaC g) oM;have d:=(zaC j).mono (k:=2*k+1+1+1) oM;exact(Rb.add d c).up oM
theorem Rb.atG{k:Nat}(a:1<=k){x:Rat}{ps:LP}(c:Rb k x)(h:LnOk ps):Rb (4*k+7) (Cop.atR ps x):=by
 unfold Cop.atR
 cases hf:(eds ps).find? (xLe x)with
 | some e=>exact c.atEG a (zgO h.2.1 (List.mem_of_find?_eq_some hf))
 | none =>
  have d:0<ps.length:=List.length_pos_iff.2 h.1
  have b:ps.getD (ps.length-1) (0,0)∈ps:=by
   rw[gD,gE oM,Option.getD_some];exact List.getElem_mem _
  exact(zaC (h.2.1 _ b).2).mono oM
end
section
open Go.RowKit Go.Shelf Go.Sort
attribute [local go_sem] Oper.semAt_some
theorem zi8(w:X)(v:V)(p:Pl)(h:IsPr w v p.shape)(b:placedOk p=true) :
  Calls Tryz.prog 36 #[I (plc p v)] w (RetRow w (lowP2 p)):=by
 have t:=fun W (D:Ext w W)=>zdC W v p (h.ext' D) b
 obtain⟨s,z,h12⟩:=zaK b;have n:=zao b;have f:=znb b;have k:=hd9 t;have x:Hid (∀q∈cornersP p,Bd 3000000 q.1/\Bd 3000000 q.2):=hd9 (fun q K=>by have:=s q K;unfold Bd at *;omega);have m:=hd9 f;have j:=hd9 h12;have y:Hid ((lowP2 p).length<=1000):=hd9 (by have:=n.1.2.2;have:=n.2.2.2;omega);obtain⟨a,c,rfl⟩:=h.form;obtain⟨nm,l,d,de,gx,gz,wy,R,T,sk⟩:=p;dsimp only at *;unfold plc;unfold plc at k;dsimp only at k ⊢;clear t s z h12 n f h;go_enter Tryz.func36,Tryz.ntmps36
 go_wp2_with(first|(go_at_call 31;(with_reducible refine(k.out _ ?_).mono ?_);exact eA;rintro e u ⟨v1,rfl,g,L⟩;obtain⟨P,n1,c1,rfl⟩:=g.form3)|(go_at_call 99;(with_reducible refine(zer u _ _ _ (1) dM g.pr m.out x.out (by have:=j.out;omega) y.out).mono ?_);rintro e w2 ⟨v2,rfl,i,o⟩;obtain⟨Q,n2,c2,rfl⟩:=i.form3))
 go_ret;have r:Ext w u:=eA;exact⟨_,rfl,i.mono r.size,r.trans o⟩
theorem zlh(w:X)(v:V)(p:Pl)(h:IsPr w v p.shape)(b:placedOk p=true) :
  Calls Tryz.prog 38 #[I (plc p v)] w (RetRow w (upP2 p)):=by
 have t:=fun W (D:Ext w W)=>zdC W v p (h.ext' D) b
 obtain⟨s,z,h12⟩:=zaK b;have n:=zao b;have f:=zoC b;have k:=hd9 t;have x:Hid (∀q∈cornersP p,Bd 3000000 q.1/\Bd 3000000 q.2):=hd9 (fun q K=>by have:=s q K;unfold Bd at *;omega);have m:=hd9 f;have j:=hd9 h12;have y:Hid ((upP2 p).length<=1000):=hd9 (by have:=n.1.2.2;have:=n.2.2.2;omega);obtain⟨a,c,rfl⟩:=h.form;obtain⟨nm,l,d,de,gx,gz,wy,R,T,sk⟩:=p;dsimp only at *;unfold plc;unfold plc at k;dsimp only at k ⊢;clear t s z h12 n f h;go_enter Tryz.func38,Tryz.ntmps38
 go_wp2_with(first|(go_at_call 31;(with_reducible refine(k.out _ ?_).mono ?_);exact eA;rintro e u ⟨v1,rfl,g,L⟩;obtain⟨P,n1,c1,rfl⟩:=g.form3)|(go_at_call 99;(with_reducible refine(zer u _ _ _ (-1) dM g.pr m.out x.out (by have:=j.out;omega) y.out).mono ?_);rintro e w2 ⟨v2,rfl,i,o⟩;obtain⟨Q,n2,c2,rfl⟩:=i.form3))
 go_ret;have r:Ext w u:=eA;exact⟨_,rfl,i.mono r.size,r.trans o⟩
theorem zdf(w:X)(n:Int)(j : -9223372036854775808<=n)(k:n<=9223372036854775807):Calls Tryz.prog 82 #[Y Z n] w (RetQr w (n:Rat)):=by
 go_enter Tryz.func82,Tryz.ntmps82
 go_wp2_with(go_at_call 34;(with_reducible refine(zgg _ n j k).mono ?_);rintro e t ⟨s,rfl,a,d⟩;obtain⟨q,f,p,g,r,i,m,o,rfl⟩:=a.form;obtain⟨⟨c,l⟩,b⟩:=cK1 w d)
 exact bR (v:=I #[Y Z q,O f p g,Y Z r,O i m o]) (by simp[results,Tryz.results82,go_sem,c,b]) rfl ⟨_,rfl,a.keep kA,eA⟩
theorem zmH(x:Rat)(a b:Int×Int):((a.2:Int):Rat)+Rat.divInt (b.2-a.2) (b.1-a.1)*(x-((a.1:Int):Rat))=atE x (a,b):=by
 unfold atE;dsimp only;rw[Rat.divInt_eq_div,Rat.div_def,Rat.div_def,Rat.mul_comm (x-_),Rat.mul_assoc,Rat.mul_assoc,Rat.mul_comm (x-_)]
theorem ziV{L:LP}{m:Nat}(h:m+1<L.length):(eds L)[m]?=some (ptN L m,ptN L (m+1)):=
 zgd (by rw[zal oM];exact gE _) (by rw[zal h];exact gE _)
theorem znU{L:LP}{x:Rat}{m:Nat}(l:m+1<L.length)(c:∀j,j<m->¬rcmp x (((ptN L (j+1)).1:Int):Rat)<=0)(n:rcmp x (((ptN L (m+1)).1:Int):Rat)<=0) :
  atR L x=atE x (ptN L m,ptN L (m+1)):=by
 have d:=ziV l;obtain⟨i,f⟩:=lS.1 d
 have e:(eds L).find? (xLe x)=some (ptN L m,ptN L (m+1)):=by
  rw[List.find?_eq_some_iff_getElem];refine⟨by unfold xLe;simpa using n,m,i,f,fun j g=>?_⟩;have a:=ziV (L:=L) (m:=j) oM;obtain⟨k,b⟩:=lS.1 a;rw[b];unfold xLe;have:=c j g
  simpa using this
 unfold atR;rw[e]
theorem znT{L:LP}{x:Rat}(k:L≠[])(c:∀j,j+1<L.length->¬rcmp x (((ptN L (j+1)).1:Int):Rat)<=0):atR L x=(((ptN L (L.length-1)).2:Int):Rat):=by
 have f:(eds L).find? (xLe x)=none:=by
  rw[List.find?_eq_none];intro e d;obtain⟨j,g,rfl⟩:=List.getElem_of_mem d;rw[ziW]at g;have a:=ziV (L:=L) (m:=j) oM;obtain⟨i,b⟩:=lS.1 a;rw[b];unfold xLe;have:=c j oM
  simpa using this
 unfold atR;rw[f];rfl
end
end Go.Proofs.YtjnjpagegkcgfaaGreatDoor.Cop
