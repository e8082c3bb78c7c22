import Derived.Test.YtjnjpagegkcgfaaGreatDoorCobA26
set_option maxRecDepth 1000000
set_option maxHeartbeats 16000000
set_option linter.all false
open Go.Value renaming slice->O,int->Z,agg->M,bool->C,tuple->F
open Go.IntKind renaming i64->Y
open Option renaming none->X,some->J
open Go renaming World->V,Value->I
open Go.Obj renaming cells->E
namespace Go.Proofs.YtjnjpagegkcgfaaGreatDoor.Cop
section
open Go.RowKit Go.Shelf Go.Sort Go.Lib
attribute [local go_sem] Oper.semAt_some
def We(w:V)(base:Nat)(v:I)(ts:List LP):Prop:=∃cs,Ka 121 1 w base v cs/\cs.length=ts.length/\∀(i:Nat) c t,cs[i]?=J c->ts[i]?=J t->Ej 121 w c t
def We.sl{w:V}{base:Nat}{v:I}{ts:List LP}(h:We w base v ts):Sl 121 1 (Ej 121) w v ts:=by obtain⟨e,a,c,d⟩:=h;exact a.sl c d
def Ej.ext{w w':V}{c:List I}{t:LP}(h:Ej 121 w c t)(k:Ba w w'):Ej 121 w' c t:=by obtain⟨v,e,h⟩:=h;exact⟨v,e,h.f k⟩
def Ej.keep{w w':V}{c:List I}{t:LP}(h:Ej 121 w c t)(k:Ia 43 w w'):Ej 121 w' c t:=by obtain⟨v,e,h⟩:=h;exact⟨v,e,h.z k⟩
def We.ext{w w':V}{base:Nat}{v:I}{ts:List LP}(h:We w base v ts)(k:Ba w w'):We w' base v ts:=by obtain⟨a,d,e,f⟩:=h;exact⟨a,d.ext k,e,fun i c p g j=>(f i c p g j).ext k⟩
def We.i{w:V}{base:Nat}{v:I}{ts:List LP}(h:We w base v ts):∃a n c,v=O a n c:=by obtain⟨e,d,_⟩:=h;exact d.i
def We.one{w:V}{a:Option Addr}{n c:Nat}{t:LP}(h:Ja w (O a n c) t):We (w.alloc (E #[O a n c] 121)) w.heap.size (O (J ⟨w.heap.size,0,X⟩) 1 1) [t]:=by
 refine⟨[[O a n c]],⟨fun c g=>by rw[List.mem_singleton.1 g];rfl,⟨by simp,.inr ⟨w.heap.size,1,#[O a n c],rfl,nE _,aN w _,by simp,by simp[maxLen],by simp,by simp⟩⟩⟩,rfl,fun i d x e f=>?_⟩
 match i,e,f with
 | 0,e,f =>
  simp at e f;subst e f;exact⟨_,rfl,h.f ((eR w).alloc _)⟩
 | i+1,e,_=>simp at e
def We.app{wr f:V}{base:Nat}{k:I}{ts:List LP}{cs:List (List I)}{d:List I}{t:LP}(h:Ka 121 1 f base k (cs++[d]))(g:cs.length=ts.length)(j:∀(i:Nat) c p,cs[i]?=J c->ts[i]?=J p->Ej 121 wr c p)(n:Ia 43 wr f)(l:Ej 121 f d t):We f base k (ts++[t]):=by
 refine⟨cs++[d],h,by simp[g],fun i c x a e=>?_⟩;by_cases m:i<cs.length
 ·rw[List.getElem?_append_left m]at a;rw[List.getElem?_append_left oM]at e;exact(j i c x a e).keep n
 ·rw[List.getElem?_append_right oM]at a e;have o:=(lS.1 a).1;simp at o;have:i-cs.length=0:=oM;rw[this]at a;rw[show i-ts.length=0 by omega]at e;simp at a e;subst a e;exact l
def uM:(Tryz.prog.info? 121).map (fun i=>(i.zero,i.size,i.bytes))=J (J (O X 0 0),1,24):=kM
def OL{g:LP}{ps:List Pl}{p o:Pl}{i:Nat}(h:ps[i]?=J o):qe g (ps.take (i+1)) p=qe g (ps.take i) p++(if (sd p o&&jf p o==3)=true then [Pb o]else []):=by
 unfold qe;rw[Rf _ _ _ h,List.filter_append,List.map_append,List.cons_append]
 congr 2
 by_cases c:(sd p o&&jf p o==3)=true
 ·rw[if_pos c];simp only[List.filter,c,List.map_cons,List.map_nil]
 ·rw[if_neg c];rw[Bool.not_eq_true]at c;simp only[List.filter,c,List.map_nil]
def CR(a:V)(g:LP)(ps:List Pl)(p:Pl)(c:Nat)(t9 t51:I)(W:V):Prop:=
 ∃i:Nat,i<=ps.length/\t51=Z Y i/\c=ps.length-i/\Ba a W/\We W a.heap.size t9 (qe g (ps.take i) p)
def NN(w:V)(vg vp v:I)(g:LP)(ps:List Pl)(p:Pl)(hg:Ja w vg g)(hp:Pd w vp ps)(hv:Ja w v p.shape)(hk:0<=p.skin)(aP:Gw w)(h0:Bb g ps=0)(x:Fa p=true)(e1:Vc g p=true)(e2:ps.any (Uf p.name)=false)(e3:Fd g ps p=true):Calls Tryz.prog 10 #[M #[vg,vp],M (Dd p v)] w (Co w g ps p):=by
 obtain⟨P,_,a6⟩:=On h0;have al:=Ll a6;have HL:=Aa (fun(W:V)(j:Ba w W)=>Dt (hg.f j) (hp.f j) (aP.ext j) h0);have HK:=Aa (fun(W:V)(j:Ba w W)=>iu W p _ (hv.f j) hk);rw[if_pos x]at HK;have HO:=Aa (fun(W:V)(j:Ba w W)=>Du W p _ (hv.f j) x (aP.ext j));have HH:=Aa (fun(W:V)(j:Ba w W)(vs:I)(hs:∃a n c,vs=O a n c)(vp:I)(h:Ce W vp p)=>QC W vg vs vp g p (hg.f j) hs h al x);have HN:=Aa (fun(W:V)(j:Ba w W)(vs:I)(hs:Sb W vs ps)=>WE W vg vs ps p.name (La hg) hs);have HC:=Aa (fun(W:V)(j:Ba w W)(vs:I)(hs:Sb W vs ps)(vp:I)(h:Ce W vp p)=>AD W vg vs vp g ps p (hg.f j) hs h al P x);have aY:=Aa (fun(W:V)(v1 v2:I)(o:Pl)(h1:Ce W v1 p)(h2:Ce W v2 o)(hm:o∈ps)=>Mw W v1 v2 p o h1 h2 x (P o hm));have aX:=Aa (And.intro h0 (And.intro x (And.intro e1 e3)));have aI:=Aa (Lh x).1;have aJ:=Aa (fun o (hm:o∈ps)=>(Lh (P o hm)).2);have aH:=Aa al;have Hv:=Aa hv;have Hg:=Aa hg;have HE:Sa (Ph g ps p=0):=Aa (by
  unfold Ph;rw[if_neg (fun h9=>h9 h0),if_neg (by rw[x];decide),if_neg (by rw[e1];decide),if_neg (by rw[e2];decide),if_neg (by rw[e3];decide)])
 obtain⟨ga,gn,gc,rfl⟩:=La hg;obtain⟨pa,pn,cB,rfl⟩:=La hp;obtain⟨sa,sn,aj,rfl⟩:=La hv;obtain⟨R,hR⟩:=gX (Co w g ps p);rw[hR];have HR:=Aa hR;rw[e1]at HH;rw[e2]at HN;rw[e3]at HC;clear h0 x hg hp hv hk aP hR P a6 al e1 e2 e3;have Ep:p=p:=rfl;unfold Dd at HK HO ⊢;unfold Bm Je at HO;go_in;go_upto_region 13 with (first|(go_at_call 49;refine cM (HL.o _ eA) ?_;rintro e w4 ⟨va,vn,vc,rfl,am,aR⟩;obtain⟨bu,bB⟩:=aR.cells;(have z4:=aR.size);(simp only[wZ]at z4);(have bQ:w.heap.size+1<w4.heap.size:=oM);(have bT:w.heap.size+1<w4.heap.size+1:=oM))|(go_at_call 28;refine cM (HK.o _ eA) ?_;rintro e w5 ⟨rfl,aS⟩;obtain⟨bv,bC⟩:=aS.cells;(have z5:=aS.size);(simp only[wZ]at z5);(have bU:w.heap.size+1<w5.heap.size:=oM);(have bV:w4.heap.size<w5.heap.size:=oM))|(go_at_call 50;refine cM (HO.o _ eA) ?_;rintro e w6 ⟨vl,vu,rfl,ae,af,aT⟩;obtain⟨ag,ai,ah,rfl⟩:=La ae;obtain⟨ao,aq,ap,rfl⟩:=La af;obtain⟨bw,bD⟩:=aT.cells;(have z6:=aT.size);(have bW:w.heap.size+1<w6.heap.size:=oM);(have bX:w4.heap.size<w6.heap.size:=oM);(have bY:w4.heap.size<w6.heap.size+1:=oM);(have bZ:w.heap.size+1<w6.heap.size+1:=oM))|(go_at_call 51;refine cM (HH.o _ eA _ ?_ _ ?_) ?_;(exact⟨_,_,_,rfl⟩);(exact⟨_,_,_,rfl,Ba.isPts (w:=w) Hv.o eA,ae.f eA,af.f eA⟩);rintro e w7 ⟨rfl,aU⟩;obtain⟨bx,bE⟩:=aU.cells;(have z7:=aU.size);(simp only[wZ]at z7);(have b0:w.heap.size+1<w7.heap.size:=oM);(have b1:w4.heap.size<w7.heap.size:=oM);(have b2:w6.heap.size<w7.heap.size:=oM))|(go_at_call 52;refine cM (HN.o _ eA _ ?_) ?_;(exact am.f eA);rintro e w8 ⟨rfl,aV⟩;obtain⟨bz,bF⟩:=aV.cells;(have z8:=aV.size);(have b3:w.heap.size+1<w8.heap.size:=oM);(have b5:w4.heap.size<w8.heap.size:=oM);(have b7:w6.heap.size<w8.heap.size:=oM))|(go_at_call 53;refine cM (HC.o _ eA _ ?_ _ ?_) ?_;(exact am.f eA);(exact⟨_,_,_,rfl,Ba.isPts (w:=w) Hv.o eA,ae.f eA,af.f eA⟩);rintro e w9 ⟨rfl,aW⟩;obtain⟨bA,bG⟩:=aW.cells;(have z9:=aW.size)));have K6:w9.heap[w4.heap.size]?=J (E #[O ga gn gc,O va vn vc] 124 (0,0)):=
  Ba.e (a:=w4.alloc (E #[O ga gn gc,O va vn vc] 124)) eA (aN _ _)
 have s:w9.heap[w6.heap.size]?=J (E #[.string p.name,O sa sn aj,Z Y p.depth,Z Y p.density,Z Y p.gx,Z Y p.gz,Z Y p.way,Z Y p.ax,Z Y p.az,Z .u8 p.skin,O ag ai ah,O ao aq ap] 128 (0,0)):=
  Ba.e (a:=w6.alloc (E #[.string p.name,O sa sn aj,Z Y p.depth,Z Y p.density,Z Y p.gx,Z Y p.gz,Z Y p.way,Z Y p.ax,Z Y p.az,Z .u8 p.skin,O ag ai ah,O ao aq ap] 128)) eA (aN _ _)
 have S:Sb w9 (O va vn vc) ps:=am.f eA;have aC:Ce w9 (M #[.string p.name,O sa sn aj,Z Y p.depth,Z Y p.density,Z Y p.gx,Z Y p.gz,Z Y p.way,Z Y p.ax,Z Y p.az,Z .u8 p.skin,O ag ai ah,O ao aq ap]) p:=⟨_,_,_,rfl,Ba.isPts (w:=w) Hv.o eA,ae.f eA,af.f eA⟩;have X9:Ba w w9:=eA;obtain⟨b6,aK⟩:=gX w4.heap.size;obtain⟨b8,aL⟩:=gX w6.heap.size;rw[aK]at K6;rw[aL]at s;have y6:b6<w9.heap.size:=Gb K6;have y8:b8<w9.heap.size:=Gb s;have ch:=Aa K6;have bh:=Aa s;have H9:=Aa X9;have bi:=Aa S;have a0:=Aa aC;have cw:=Ca K6 (i:=0) (u:=O ga gn gc) rfl;have cx:=Ca K6 (i:=1) (u:=O va vn vc) rfl;have aQ:vn=ps.length:=S.len;have bb:=S.le;have Hn:=Aa aQ;have cu:vn<=9223372036854775807:=by rw[aQ];unfold maxLen at bb;omega
 simp only[aK,aL];clear bu bB z4 bQ bT bv bC z5 bU bV bw bD z6 bW bX bY bZ bx bE z7 b0 b1 b2 bz bF z8 b3 b5 b7 bA bG z9 aR aS aT aU aV aW am ae af S aC K6 s X9 aK aL aQ bb HL HK HO HH HN HC Ep;go_wp2;go_loopg [9,51] vn (CR w9 g ps p)
 case atStart =>
  refine⟨0,Nat.zero_le _,rfl,by rw[Hn.o];rfl,(eR _).alloc _,?_⟩;exact We.one (Ba.isPts (w:=w) Hg.o H9.o)
 case round =>
  obtain⟨i,hi,rfl,rfl,hx,ac⟩:=hrel;rw[<-Hn.o]at hi;have Hx:=Aa hx;have l:=Aa ac;obtain⟨xa,xn,xc,rfl⟩:=ac.i;have s:=hx.e bh.o;have p0:=Ca s (i:=0) (u:=.string p.name) rfl;have p1:=Ca s (i:=1) (u:=O sa sn aj) rfl;have p2:=Ca s (i:=2) (u:=Z Y p.depth) rfl;have p3:=Ca s (i:=3) (u:=Z Y p.density) rfl;have p4:=Ca s (i:=4) (u:=Z Y p.gx) rfl;have p5:=Ca s (i:=5) (u:=Z Y p.gz) rfl;have p6:=Ca s (i:=6) (u:=Z Y p.way) rfl;have p7:=Ca s (i:=7) (u:=Z Y p.ax) rfl;have p8:=Ca s (i:=8) (u:=Z Y p.az) rfl;have p9:=Ca s (i:=9) (u:=Z .u8 p.skin) rfl;have bL:=Ca s (i:=10) (u:=O ag ai ah) rfl;have cz:=Ca s (i:=11) (u:=O ao aq ap) rfl;have yw:b8<wr.heap.size:=Gb s;have yx:=hx.size;by_cases bH:i<vn
  ·obtain⟨o,ho⟩:∃o,ps[i]?=J o:=⟨ps[i]'(by rw[<-Hn.o];omega),by simp[<-Hn.o,bH]⟩;obtain⟨b,q,s1,l1,u1,rfl,hb,d1,d2,d3,hc⟩:=(bi.o.f hx).at' ho;have bp:=Aa (lM ho);have Ho:=Aa ho;have bl:=Aa d3;have HM:=Aa (fun(W:V)=>Tp W p o (O sa sn aj) s1 ⟨_,_,_,rfl⟩ (La d1));have aa:=Aa (fun(W:V)(j:Ba wr W)=>aY.o W _ (M (Je o s1 l1 u1)) o (a0.o.ext (Hx.o.trans j)) ⟨_,_,_,rfl,d1.f j,d2.f j,d3.f j⟩ bp.o);obtain⟨bM,bO,bN,rfl⟩:=La d1;obtain⟨bI,bK,bJ,rfl⟩:=La d2;obtain⟨ar,av,au,rfl⟩:=La d3;obtain⟨mb,f1⟩:=gX (sd p o);obtain⟨rl,f2⟩:=gX (jf p o);have ht:qe g (ps.take (i+1)) p=qe g (ps.take i) p++(if (mb&&rl==3)=true then [Pb o]else []):=by rw[OL ho,f1,f2]
   have Ht:=Aa ht;rw[f1]at HM;rw[f2]at aa;unfold Dd at HM;unfold Je at aa;have br:=hc 0 (.string o.name) rfl;have ck:=hc 1 (O bM bO bN) rfl;have cl:=hc 2 (Z Y o.depth) rfl;have cm:=hc 3 (Z Y o.density) rfl;have cn:=hc 4 (Z Y o.gx) rfl;have co:=hc 5 (Z Y o.gz) rfl;have cp:=hc 6 (Z Y o.way) rfl;have cq:=hc 7 (Z Y o.ax) rfl;have cr:=hc 8 (Z Y o.az) rfl;have ct:=hc 9 (Z .u8 o.skin) rfl;have b9:=hc 10 (O bI bK bJ) rfl;have ca:=hc 11 (O ar av au) rfl;simp only[Nat.add_zero]at br;clear hc ho d1 d2 d3 f1 f2 ht s ac hx;cases mb with
   |false=>
    go_wp2_with(first|(go_at_call 54;refine cM (HM.o _) ?_;rintro e y ⟨rfl,d⟩;obtain⟨aw,aA⟩:=d.cells;(have ak:=d.size);(simp only[wZ]at ak);(have aD:b8<y.heap.size:=oM);(have aE:wr.heap.size<y.heap.size:=oM);(have aF:b8<wr.heap.size+1:=oM))|(go_at_call 55;refine cM (aa.o _ eA) ?_;rintro e K ⟨rfl,f⟩;obtain⟨ay,aB⟩:=f.cells;(have bg:=f.size);(have aG:wr.heap.size<K.heap.size:=oM)));go_roundg (ps.length-(i+1))
    case measure=>have:=Hn.o;omega
    case rel=>exact⟨i+1,by have:=Hn.o;omega,by go_num,rfl,Hx.o.trans eA,by rw[Ht.o,Bool.false_and,if_neg dM,List.append_nil];exact l.o.ext eA⟩
   |true=>
    by_cases h3:rl=3
    ·subst h3;obtain⟨cs,a3,aM,a2⟩:=l.o;have aZ:=Aa a3;have bk:=Aa a2;have bj:=Aa aM;have bo:=Aa (show cs.length+1<=100000000000 by
      rw[aM];unfold qe;have h8:=List.length_filter_le (fun o=>sd p o&&jf p o==3) (ps.take i);rw[List.length_cons,lL];rw[List.length_take]at h8;omega)
     clear a3 a2 aM;go_wp2_with(first|(go_at_call 54;refine cM (HM.o _) ?_;rintro e y ⟨rfl,d⟩;obtain⟨aw,aA⟩:=d.cells;(have ak:=d.size);(simp only[wZ]at ak);(have aD:b8<y.heap.size:=oM);(have aE:wr.heap.size<y.heap.size:=oM);(have aF:b8<wr.heap.size+1:=oM))|(go_at_call 55;refine cM (aa.o _ eA) ?_;rintro e K ⟨rfl,f⟩;obtain⟨ay,aB⟩:=f.cells;(have bg:=f.size);(have aG:wr.heap.size<K.heap.size:=oM))|(at_builtin;refine zh (T:=121) (t:=132) (z:=O X 0 0) (k:=1) (bytes:=24) (base:=w9.heap.size) (v:=O xa xn xc) (cs:=cs) (m:=1) (c:=1) (ad:=⟨K.heap.size,0,X⟩) uM rfl dM dM Tryz.underlying132 rfl _ _ rfl rfl (aZ.o.ext eA) rfl [[O ar av au]] rfl sM (by exact Nn K #[O ar av au] 121) (by simp[Value.oneCell']) bo.o (by simp only[wZ];omega) ?_;intro v' cC Q ab cf;obtain⟨ci,cy,cj,rfl⟩:=Q.i));go_roundg (ps.length-(i+1))
     case measure=>have:=Hn.o;omega
     case rel =>
      have an:Ba wr (K.alloc (E #[O ar av au] 121)):=eA;have a1:=aZ.o.ext an;have bt:=Mh (base:=w9.heap.size) ab (by simp only[wZ];omega) (fun k hk=>(a1.lt k hk).1);have a7:=a1.keepT (T':=43) dM ab;refine⟨i+1,by have:=Hn.o;omega,by go_num,rfl,(Hx.o.trans an).y bt (nE _),?_⟩;rw[Ht.o,if_pos dM];exact We.app Q bj.o bk.o (an.keep.trans a7) ⟨_,rfl,(bl.o.f an).z a7⟩
    ·(have bs:(rl==3)=false:=by simpa using h3);go_wp2_with(first|(go_at_call 54;refine cM (HM.o _) ?_;rintro e y ⟨rfl,d⟩;obtain⟨aw,aA⟩:=d.cells;(have ak:=d.size);(simp only[wZ]at ak);(have aD:b8<y.heap.size:=oM);(have aE:wr.heap.size<y.heap.size:=oM);(have aF:b8<wr.heap.size+1:=oM))|(go_at_call 55;refine cM (aa.o _ eA) ?_;rintro e K ⟨rfl,f⟩;obtain⟨ay,aB⟩:=f.cells;(have bg:=f.size);(have aG:wr.heap.size<K.heap.size:=oM)));go_roundg (ps.length-(i+1))
     case measure=>have:=Hn.o;omega
     case rel=>exact⟨i+1,by have:=Hn.o;omega,by go_num,rfl,Hx.o.trans eA,by rw[Ht.o,Bool.true_and,bs,if_neg dM,List.append_nil];exact l.o.ext eA⟩
  ·obtain rfl:i=vn:=oM;have e:ps.take i=ps:=lT (by rw[<-Hn.o];exact nE _);rw[e]at l;obtain⟨D0,D1,D2,D3⟩:=aX.o;obtain⟨q1,q2,q3⟩:=oJ D0 D1 D2 D3;have HB:=Aa (fun(W:V)(j:Ba wr W)=>iM W (O xa xn xc) b8 (O ag ai ah) (Ea p) (qe g ps p) ((l.o.ext j).sl) (j.d bL) (by
    obtain⟨s9,l9,u9,e9,_,h9,_⟩:=a0.o;unfold Je at e9;cases e9;exact h9.f (Hx.o.trans j)) aI.o (fun t ht=>by
     unfold qe at ht;rcases List.mem_cons.1 ht with e8|ht
     ·rw[e8];exact aH.o
     ·obtain⟨o,ho,rfl⟩:=List.mem_map.1 ht;exact aJ.o o (List.mem_filter.1 ho).1))
   have a9:Rb 23 (qg g ps p):=Rb.minG fun t ht=>Rb.gapT aI.o (by
     unfold qe at ht;rcases List.mem_cons.1 ht with e8|ht
     ·rw[e8];exact aH.o
     ·obtain⟨o,ho,rfl⟩:=List.mem_map.1 ht;exact aJ.o o (List.mem_filter.1 ho).1)
   rw[show Dg (Xf (Ea p)) (qe g ps p)=qg g ps p from rfl]at HB;have HF:=Aa (fun(W:V)(v:I)(hv:Ab W v (qg g ps p))=>LO W v (qg g ps p) hv (a9.mono dM) (Rat.num_nonneg.2 q1));rw[show (qg g ps p).floor=tg g ps p from rfl]at HF;have HI:=Aa (fun(W:V)(v:I)(hv:vd W v (tg g ps p))=>PI W v (tg g ps p) hv q2 oM);have hz:Ab w9 (M #[]) 0\/True:=.inr trivial;clear D0 D1 D2 D3 q1 a9 hz aX l aY aJ aH aI;obtain⟨dn,aO⟩:=gX (tg g ps p);rw[aO]at HF HI q2 q3;have bm:=Aa aO;clear aO;have cv:IntKind.i64.wrap dn=dn:=iW _ oM;go_wp2_with(first|(go_at_call 56;refine cM (HB.o _ eA) ?_;rintro e cD ⟨ba,bn,bc,r,rfl,hr,be⟩;obtain⟨a4,m4,c4,s4,b4,n4,k4,rfl⟩:=hr.form;obtain⟨cb,cd⟩:=be.cells)|(go_at_call 60;refine cM (HF.o _ _ (hr.ext eA)) ?_;rintro e cF ⟨r5,rfl,a8,bf⟩;obtain⟨a5,m5,c5,s5,rfl⟩:=a8.form;obtain⟨cc,ce⟩:=bf.cells)|(go_at_call 61;refine cM (HI.o _ _ (a8.ext eA)) ?_;rintro e bP ⟨rfl,cg⟩));rw[<-HR.o];have bq:Ba wr bP:=eA;exact⟨by rw[HE.o,if_pos rfl,bm.o];rfl,(H9.o.trans Hx.o).trans bq⟩
end
section
open Go.RowKit Go.Shelf Go.Sort Go.Lib
def Rb.atEG{k:Nat}(m:1<=k){x:Rat}{e:Gj}(n:Rb k x)(h:Bd 104000 e.1.1/\Bd 104000 e.1.2/\Bd 104000 e.2.1/\Bd 104000 e.2.2):Rb (4*k+7) (Cop.Oi x e):=by
 obtain⟨j,l,o,p⟩:=h;have g:Bd 208000 (e.2.2-e.1.2):=by unfold Bd at *;omega
 have i:Bd 208000 (e.2.1-e.1.1):=by unfold Bd at *;omega
 unfold Cop.Oi;have a:=Rb.sub n ((Rg j).mono (k:=k) m);have c:=Rb.mul a (Rg g);have d:=Rb.div c (Rg i) oM;have f:=(Rg l).mono (k:=2*k+1+1+1) oM;exact(Rb.add f d).up oM
def Rb.atG{k:Nat}(a:1<=k){x:Rat}{ps:LP}(d:Rb k x)(h:mc ps):Rb (4*k+7) (Cop.Yd ps x):=by
 unfold Cop.Yd;cases hf:(Qe ps).find? (Oh x)with
 | some e=>exact d.atEG a (jt h.2.1 (List.mem_of_find?_eq_some hf))
 |none=>
  have f:0<ps.length:=List.length_pos_iff.2 h.1;have c:ps.getD (ps.length-1) (0,0)∈ps:=by
   rw[gD,gE oM,Option.getD_some];exact List.getElem_mem _
  exact(Rg (h.2.1 _ c).2).mono oM
def tL(q:Rat):Eb q q=0:=by have a:¬Eb q q<0:=fun h=>Rat.lt_irrefl ((Kn q q).1 h);have c:¬0<Eb q q:=fun h=>Rat.lt_irrefl ((Kq q q).1 h);omega
end
section
open Go.RowKit Go.Shelf Go.Sort
attribute [local go_sem] Oper.semAt_some
def Cr(w:V)(v:I)(p:Pl)(h:yb w v p.shape)(f:Fa p=true):Calls Tryz.prog 36 #[M (Dd p v)] w (Ci w (Ea p)):=by have u:=fun W (P:Ba w W)=>ID W v p (h.f P) f;obtain⟨t,K,yj⟩:=To f;have o:=Lh f;have g:=yH f;have m:=Aa u;have y:Sa (∀q∈Ga p,Bd 3000000 q.1/\Bd 3000000 q.2):=Aa (fun q Q=>by have:=t q Q;unfold Bd at *;omega);have n:=Aa g;have k:=Aa yj;have z:Sa ((Ea p).length<=1000):=Aa (by have:=o.1.2.2;have:=o.2.2.2;omega);obtain⟨a,c,rfl⟩:=h.form;obtain⟨nm,l,d,de,gx,gz,wy,ax,az,sk⟩:=p;dsimp only at *;unfold Dd;unfold Dd at m;dsimp only at m ⊢;clear u t K yj o g h;go_in;go_wp2_with(first|(go_at_call 31;refine cM (m.o _ eA) ?_;rintro e x ⟨v1,rfl,i,R⟩;obtain⟨S,n1,c1,rfl⟩:=i.i)|(go_at_call 99;(with_reducible refine(TD x _ _ _ (1) dM i.pr n.o y.o (by have:=k.o;omega) z.o).mono ?_);rintro e w2 ⟨v2,rfl,j,r⟩;obtain⟨T,n2,c2,rfl⟩:=j.i));go_ret;have s:Ba w x:=eA;exact⟨_,rfl,j.mono s.size,s.trans r⟩
def Ov(w:V)(v:I)(p:Pl)(h:yb w v p.shape)(f:Fa p=true):Calls Tryz.prog 38 #[M (Dd p v)] w (Ci w (Pb p)):=by have u:=fun W (P:Ba w W)=>ID W v p (h.f P) f;obtain⟨t,K,yj⟩:=To f;have o:=Lh f;have g:=MF f;have m:=Aa u;have y:Sa (∀q∈Ga p,Bd 3000000 q.1/\Bd 3000000 q.2):=Aa (fun q Q=>by have:=t q Q;unfold Bd at *;omega);have n:=Aa g;have k:=Aa yj;have z:Sa ((Pb p).length<=1000):=Aa (by have:=o.1.2.2;have:=o.2.2.2;omega);obtain⟨a,c,rfl⟩:=h.form;obtain⟨nm,l,d,de,gx,gz,wy,ax,az,sk⟩:=p;dsimp only at *;unfold Dd;unfold Dd at m;dsimp only at m ⊢;clear u t K yj o g h;go_in;go_wp2_with(first|(go_at_call 31;refine cM (m.o _ eA) ?_;rintro e x ⟨v1,rfl,i,R⟩;obtain⟨S,n1,c1,rfl⟩:=i.i)|(go_at_call 99;(with_reducible refine(TD x _ _ _ (-1) dM i.pr n.o y.o (by have:=k.o;omega) z.o).mono ?_);rintro e w2 ⟨v2,rfl,j,r⟩;obtain⟨T,n2,c2,rfl⟩:=j.i));go_ret;have s:Ba w x:=eA;exact⟨_,rfl,j.mono s.size,s.trans r⟩
def Jm(w:V)(n:Int)(k:-9223372036854775808<=n)(l:n<=9223372036854775807):Calls Tryz.prog 82 #[Z Y n] w (De w (n:Rat)):=by go_in;go_wp2_with(go_at_call 34;(with_reducible refine(LH _ n k l).mono ?_);rintro e x ⟨u,rfl,a,f⟩;obtain⟨s,g,r,i,t,j,o,p,rfl⟩:=a.form;obtain⟨⟨d,m⟩,c⟩:=Md w f);exact bR (v:=M #[Z Y s,O g r i,Z Y t,O j o p]) (by simp[results,Tryz.results82,go_sem,d,c]) rfl ⟨_,rfl,a.keep kA,eA⟩
def jJ(x:Rat)(a b:Int×Int):((a.2:Int):Rat)+Rat.divInt (b.2-a.2) (b.1-a.1)*(x-((a.1:Int):Rat))=Oi x (a,b):=by unfold Oi;dsimp only;rw[Rat.divInt_eq_div,Rat.div_def,Rat.div_def,Rat.mul_comm (x-_),Rat.mul_assoc,Rat.mul_assoc,Rat.mul_comm (x-_)]
def Ip{L:LP}{m:Nat}(h:m+1<L.length):(Qe L)[m]?=J (Pa L m,Pa L (m+1)):=
 Jv (by rw[Ah oM];exact gE _) (by rw[Ah h];exact gE _)
def mG{L:LP}{x:Rat}{m:Nat}(n:m+1<L.length)(d:∀j,j<m->¬Eb x (((Pa L (j+1)).1:Int):Rat)<=0)(hy:Eb x (((Pa L (m+1)).1:Int):Rat)<=0):Yd L x=Oi x (Pa L m,Pa L (m+1)):=by
 have e:=Ip n;obtain⟨k,g⟩:=lS.1 e;have f:(Qe L).find? (Oh x)=J (Pa L m,Pa L (m+1)):=by
  rw[List.find?_eq_some_iff_getElem];refine⟨by unfold Oh;simpa using hy,m,k,g,fun j i=>?_⟩;have a:=Ip (L:=L) (m:=j) oM;obtain⟨l,c⟩:=lS.1 a;rw[c];unfold Oh;have:=d j i;simpa using this
 unfold Yd;rw[f]
def nG{L:LP}{x:Rat}(l:L≠[])(d:∀j,j+1<L.length->¬Eb x (((Pa L (j+1)).1:Int):Rat)<=0):Yd L x=(((Pa L (L.length-1)).2:Int):Rat):=by
 have g:(Qe L).find? (Oh x)=X:=by
  rw[List.find?_eq_none];intro e f;obtain⟨j,i,rfl⟩:=List.getElem_of_mem f;rw[Iv]at i;have a:=Ip (L:=L) (m:=j) oM;obtain⟨k,c⟩:=lS.1 a;rw[c];unfold Oh;have:=d j oM;simpa using this
 unfold Yd;rw[g];rfl
def xy(w:V)(L:LP)(x:Rat)(a c:Obj)(t5:I)(W:V):Prop:=
 ∃m:Nat,t5=Z Y ((m:Int)+1)/\m+1<=L.length/\(∀j,j<m->¬Eb x (((Pa L (j+1)).1:Int):Rat)<=0)/\Ba w W/\W.heap[w.heap.size]?=J a/\W.heap[w.heap.size+1]?=J c
def nS(wr:V)(a b:Int×Int)(c d:I)(W:V):Prop:=
 ∃b6 b7:Nat,c = .pointer (J ⟨b6,0,X⟩)/\d = .pointer (J ⟨b7,0,X⟩)/\W.heap[b6]?=J (Obj.cells #[Value.int Y (a.1),Value.int Y (a.2)] 27 (0,0))/\W.heap[b7]?=J (Obj.cells #[Value.int Y (b.1),Value.int Y (b.2)] 27 (0,0))/\Ba wr W
def Xq(w:V)(v vx:I)(L:LP)(x:Rat)(h:yb w v L)(ok:mc L)(hr:Gc L)(hx:nc w vx x)(hb:Rb 2000 x):Calls Tryz.prog 37 #[v,vx] w (De w (Yd L x)):=by
 obtain⟨a,c,rfl⟩:=h.form;obtain⟨n,hn⟩:=gX L.length;obtain⟨xs,xa,xm,xc,xt,xe,xi,xj,rfl⟩:=hx.form;have bO:0<n:=by rw[<-hn];exact List.length_pos_iff.2 ok.1
 have bG:n<=64:=by rw[<-hn];exact ok.2.2
 have aO:∀i,i<n->Bd 104000 (Pa L i).1/\Bd 104000 (Pa L i).2:=fun i hi=>ok.2.1 _ (ji (by rw[hn];exact hi));obtain⟨q,hq⟩:=gX (Yd L x);rw[hq,hn];have Hq:=Aa hq;have Hn:=Aa hn;have H:=Aa h;have Hr:=Aa hr;have ay:=Aa aO;have av:Sa (Rb Ae x):=Aa (hb.mono dM);have Hb:=Aa hb;have a3:=Aa ok.1;clear hq hn h hr aO ok hb;go_in;go_wp2;go_loopw [5] (xy w L x (Obj.cells #[Value.int Y xs,Value.slice xa xm xc,Value.int Y xt,Value.slice xe xi xj] 68) (Obj.cells #[Value.int Y 0,Value.slice X 0 0,Value.int Y 0,Value.slice X 0 0] 68)) (fun t5 _=>n-(intOf t5).toNat)
 case atStart=>exact⟨0,rfl,by rw[Hn.o];omega,fun j hj=>by omega,eA,Ch ..,Ec _ _ _ sM⟩
 case round =>
  obtain⟨m,rfl,hm,aM,an,R,g⟩:=hrel;rw[Hn.o]at hm;have ax:=Aa aM;have c0:=Ca R (i:=0) (u:=Z Y xs) rfl;have c1:=Ca R (i:=1) (u:=O xa xm xc) rfl;have c2:=Ca R (i:=2) (u:=Z Y xt) rfl;have c3:=Ca R (i:=3) (u:=O xe xi xj) rfl;have r0:=Ca g (i:=0) (u:=Z Y 0) rfl;have r1:=Ca g (i:=1) (u:=O X 0 0) rfl;have r2:=Ca g (i:=2) (u:=Z Y 0) rfl;have r3:=Ca g (i:=3) (u:=O X 0 0) rfl;have bw:=Ua g 0;have bx:=Ua g 1;have bz:=Ua g 2;have bA:=Ua g 3;have rz:=Gb g;have a1:=Aa R;have aw:=Aa g;have ai:=Aa an;clear aM R g;by_cases ak:m+1<n
  ·obtain⟨b,o,rfl,bm,d0,d1⟩:=(H.o.f an).pt (i:=m+1) (by rw[Hn.o];exact ak);obtain⟨b2,o2,e2,bF,f0,f1⟩:=(H.o.f an).pt (i:=m) (by rw[Hn.o];omega);cases e2;have bb:=ay.o (m+1) ak;have ba:=ay.o m oM;have aB:(Pa L m).1<(Pa L (m+1)).1:=Jn Hr.o oM (by rw[Hn.o];exact ak);have l:=mG (L:=L) (x:=x) (m:=m) (by rw[Hn.o];exact ak) ax.o;rw[Hq.o]at l;obtain⟨⟨s,pz⟩,hp⟩:∃p,Pa L m=p:=⟨_,rfl⟩;obtain⟨⟨Q,qz⟩,aA⟩:∃p,Pa L (m+1)=p:=⟨_,rfl⟩;rw[hp]at f0 f1 ba aB l;rw[aA]at d0 d1 bb aB l;dsimp only at d0 d1 f0 f1 ba bb aB l;obtain⟨T,hT⟩:=gX (Eb x ((Q:Int):Rat));rw[hT]at l;have HT:=Aa hT;have aI:=Aa l;have a4:=Aa aA;have aD:Sa (Rb Ae ((Q:Int):Rat)):=Aa ((Rg bb.1).mono dM);unfold Bd at ba bb;obtain⟨⟨bI,bJ⟩,⟨bK,bL⟩⟩:=ba;obtain⟨⟨bM,bN⟩,⟨bg,bh⟩⟩:=bb;have aE:=Aa (fun W=>Jm W Q oM oM);have g0:(0:Int)<=(m:Int)+1:=oM;have g1:(m:Int)+1<(n:Int):=oM;have g2:((m:Int)+1).toNat=m+1:=oM;have kw:IntKind.i64.wrap ((m:Int)+1)=(m:Int)+1:=iW _ oM;clear hp aA hT l;by_cases aj:T<=0
   ·(have k9:decide (T<=0)=true:=by simpa using aj);go_wp2;refine Kc [(⟨w.heap.size,0,X⟩,Z Y xs),(⟨w.heap.size,1,X⟩,O xa xm xc),(⟨w.heap.size,2,X⟩,Z Y xt),(⟨w.heap.size,3,X⟩,O xe xi xj),(⟨b,o+(m+1)*2,X⟩,Z Y Q)] cA fun d=>?_;refine sN 0 ?_
    (iterate 6 refine xb ?_);refine oN ?_;refine Ub (i:=6) (aE.o wr.drew) ?_;rintro e w5 ⟨r5,rfl,aa,y⟩;obtain⟨s5,a5,m5,c5,t5,e5,i5,j5,rfl⟩:=aa.form;refine⟨_,rfl,(cE d y),fun d=>?_⟩;refine Ld (i:=7) fun K f=>?_;go_simp;(with_reducible refine cM (Em w5 _ _ x ((Q:Int):Rat) ((hx.ext ai.o).ext ((eR wr).drew.trans y)) aa av.o aD.o) ?_);rw[HT.o];rintro e z ⟨rfl,ac⟩;go_wp2;refine kO f (cE d ac) (fun d=>?_);clear f K;refine Db (i:=8) ?_;refine Wb ?_;have P:Ba wr z:=(eR wr).drew.trans (y.trans ac);have h9:=aI.o aj;have H9:=Aa h9;replace d0:=P.d d0;replace d1:=P.d d1;replace f0:=P.d f0;replace f1:=P.d f1;replace c0:=P.d c0;replace c1:=P.d c1;replace c2:=P.d c2;replace c3:=P.d c3;have z6:w.heap.size+1<z.heap.size:=P.lt rz;have g3:(m:Int)+1-1=(m:Int):=oM;have g4:(0:Int)<=(m:Int):=oM;have g5:(m:Int)<(n:Int):=oM;have bt:IntKind.i64.wrap (m:Int)=(m:Int):=iW _ oM;clear h9 d r0 r1 r2 r3 bw bx bz bA aa y ac;go_upto_region 5 with fail;have bV:b<z.heap.size:=World.block_lt_of_cell? z _ d0;go_cut [6,7] (nS z (s,pz) (Q,qz))
    case first =>
     go_wp2;refine Kc [(⟨b,o+(m+1)*2,X⟩,Z Y Q),(⟨b,o+(m+1)*2+1,X⟩,Z Y qz),(⟨b,o+m*2,X⟩,Z Y s),(⟨b,o+m*2+1,X⟩,Z Y pz)] cA fun d=>?_;refine sN 0 ?_
     (iterate 9 refine xb ?_);refine oN ?_;refine Xr (i:=9) (j:=10) (fun K f=>?_) (fun K f=>?_)
     ·go_simp;refine kO f (cE d ((eR _).alloc _)) (fun d=>?_);clear f K;refine Ld (i:=10) fun K f=>?_;go_simp;refine kO f (cE d ((eR _).alloc _)) (fun d=>?_);clear f K;have q1:¬b=z.heap.size:=oM;have q2:¬b=z.heap.size+1:=oM;refine Ld (i:=11) fun K f=>?_;go_simp;refine kO f cA (fun d=>?_);clear f K;refine Ld (i:=12) fun K f=>?_;go_simp;refine kO f cA (fun d=>?_);clear f K;refine Wb ?_;go_wp2;go_meet;exact⟨z.heap.size,z.heap.size+1,rfl,rfl,Ch ..,Ec _ _ _ sM,(((eR z).alloc _).alloc _).drew⟩
     ·go_simp;refine kO f (cE d ((eR _).alloc _)) (fun d=>?_);clear f K;refine Ld (i:=9) fun K f=>?_;go_simp;refine kO f (cE d ((eR _).alloc _)) (fun d=>?_);clear f K;have q1:¬b=z.heap.size:=oM;have q2:¬b=z.heap.size+1:=oM;refine Ld (i:=11) fun K f=>?_;go_simp;refine kO f cA (fun d=>?_);clear f K;refine Ld (i:=12) fun K f=>?_;go_simp;refine kO f cA (fun d=>?_);clear f K;refine Wb ?_;go_wp2;go_meet;exact⟨z.heap.size+1,z.heap.size,rfl,rfl,Ec _ _ _ sM,Ch ..,(((eR z).alloc _).alloc _).drew⟩
    case rest =>
     obtain⟨b6,b7,rfl,rfl,a6,a7,XC⟩:=hcut;have u0:=Ca a6 (i:=0) (u:=Z Y s) rfl;have u1:=Ca a6 (i:=1) (u:=Z Y pz) rfl;have v0:=Ca a7 (i:=0) (u:=Z Y Q) rfl;have v1:=Ca a7 (i:=1) (u:=Z Y qz) rfl;have uz:=Gb a6;replace c0:=XC.d c0;replace c1:=XC.d c1;replace c2:=XC.d c2;replace c3:=XC.d c3;have z9:w.heap.size+1<wc.heap.size:=XC.lt z6;have bU:w.heap.size<wc.heap.size:=oM;have X0:Ba w wc:=ai.o.trans (P.trans XC);have g:=(P.trans XC).e aw.o;have aH:=Aa g;have bc:Sa (nc wc (M #[Z Y xs,O xa xm xc,Z Y xt,O xe xi xj]) x):=Aa (hx.ext X0);have aF:=Aa (fun W=>RD W (qz-pz) (Q-s) oM oM oM oM oM);obtain⟨sl,al⟩:=gX (Rat.divInt (qz-pz) (Q-s));rw[al]at aF;have af:Rb 1 sl:=by
      rw[<-al];have hd:Q-s≠0:=oM;exact⟨mt hd (by unfold Lm B;simp;omega),Iq hd (by unfold Lm B;simp;omega)⟩
     (have ap:((pz:Int):Rat)+sl*(x-((s:Int):Rat))=q:=by rw[<-al,jJ x (s,pz) (Q,qz)];exact H9.o.symm);have HE:=Aa ap;have aU:Sa (Rb Ae ((s:Int):Rat)):=Aa ((Rg (k:=104000) (by unfold Bd;omega)).mono dM);have aV:Sa (Rb Ae ((pz:Int):Rat)):=Aa ((Rg (k:=104000) (by unfold Bd;omega)).mono dM);have ag:Rb 4001 (x-((s:Int):Rat)):=Rb.sub (k:=2000) Hb.o ((Rg (k:=104000) (by unfold Bd;omega)).mono dM);have aW:Sa (Rb Ae (x-((s:Int):Rat))):=Aa (ag.mono dM);have aX:Sa (Rb Ae sl):=Aa (af.mono dM);have aY:Sa (Rb Ae (sl*(x-((s:Int):Rat)))):=Aa ((Rb.mul af ag).mono dM);have aZ:=Aa (fun W=>Jm W s oM oM);have a0:=Aa (fun W=>Jm W pz oM oM);clear al af ap ag g a6 a7 d0 d1 f0 f1;go_upto_region 7 with (go_at_call 74;refine cM (aF.o wc) ?_;rintro e w8 ⟨r8,rfl,ab,ad⟩;obtain⟨s8,a8,m8,c8,t8,e8,i8,j8,rfl⟩:=ab.form;obtain⟨az,aL⟩:=ad.cells);obtain⟨W8,ae⟩:=gX (w8.alloc (Obj.cells #[Value.int Y s8,Value.slice a8 m8 c8,Value.int Y t8,Value.slice e8 i8 j8] 68));(have X8:Ba wc W8:=by rw[<-ae];exact ad.alloc _);(have h8:W8.heap[w8.heap.size]?=J (Obj.cells #[Value.int Y s8,Value.slice a8 m8 c8,Value.int Y t8,Value.slice e8 i8 j8] 68 (0,0)):=by rw[<-ae];exact aN _ _);(have bo:nc W8 (M #[Z Y s8,O a8 m8 c8,Z Y t8,O e8 i8 j8]) sl:=by rw[<-ae];exact ab.ext ((eR _).alloc _));rw[ae];obtain⟨b8,aK⟩:=gX w8.heap.size;rw[aK]at h8 ⊢;have y0:=Ca h8 (i:=0) (u:=Z Y s8) rfl;have y1:=Ca h8 (i:=1) (u:=O a8 m8 c8) rfl;have y2:=Ca h8 (i:=2) (u:=Z Y t8) rfl;have y3:=Ca h8 (i:=3) (u:=O e8 i8 j8) rfl;replace u0:=X8.d u0;replace u1:=X8.d u1;replace c0:=X8.d c0;replace c1:=X8.d c1;replace c2:=X8.d c2;replace c3:=X8.d c3;have g:=X8.e aH.o;have aG:=Aa g;have aT:=bc.o.ext X8;have zr:=Gb g;have bH:Ba w W8:=X0.trans X8;clear ae aK az aL ad ab h8 g v0 v1 kw bt g0 g1 g2 g3 g4 g5;refine Nh (fun i=>decide (10<i)) (Da [(⟨b6,0,X⟩,Z Y s),(⟨b6,1,X⟩,Z Y pz),(⟨b8,0,X⟩,Z Y s8),(⟨b8,1,X⟩,O a8 m8 c8),(⟨b8,2,X⟩,Z Y t8),(⟨b8,3,X⟩,O e8 i8 j8),(⟨w.heap.size,0,X⟩,Z Y xs),(⟨w.heap.size,1,X⟩,O xa xm xc),(⟨w.heap.size,2,X⟩,Z Y xt),(⟨w.heap.size,3,X⟩,O xe xi xj)]) kM ?_ (fun d=>?_)
     ·exact cA
     refine sN 0 ?_
     (iterate 2 refine Yh ?_);refine oN ?_;refine sN 3 ?_
     (iterate 4 refine Yh ?_);refine oN ?_;refine Jc (i:=2) fun K f=>?_;go_simp;refine cM (a0.o _) ?_;rintro e w2 ⟨r2,rfl,aP,aS⟩;obtain⟨s2,a2,m2,c2,t2,e2,i2,j2,rfl⟩:=aP.form;go_wp2;refine kO f (fun _=>cE d aS) (fun d=>?_);clear f K;replace d:=d rfl;refine Jc (i:=7) fun K f=>?_;go_simp;refine cM (aZ.o _) ?_;rintro e w7 ⟨r7,rfl,aQ,aC⟩;obtain⟨s7,a7,m7,c7,t7,e7,i7,j7,rfl⟩:=aQ.form;go_wp2;refine kO f (fun _=>cE d aC) (fun d=>?_);clear f K;replace d:=d rfl;have E7:Ba W8 w7:=(eR W8).drew.trans (aS.trans aC);refine Jc (i:=8) fun K f=>?_;go_simp;(with_reducible refine cM (Dn _ (M #[Z Y xs,O xa xm xc,Z Y xt,O xe xi xj]) (M #[Z Y s7,O a7 m7 c7,Z Y t7,O e7 i7 j7]) x ((s:Int):Rat) (aT.ext E7) aQ av.o aU.o) ?_);rintro e w9 ⟨r9,rfl,aR,am⟩;obtain⟨s9,a9,m9,c9,t9,e9,i9,j9,rfl⟩:=aR.form;go_wp2;refine kO f (fun _=>cE d am) (fun d=>?_);clear f K;replace d:=d rfl;refine Jc (i:=9) fun K f=>?_;go_simp;(with_reducible refine cM (Jy _ (M #[Z Y s8,O a8 m8 c8,Z Y t8,O e8 i8 j8]) (M #[Z Y s9,O a9 m9 c9,Z Y t9,O e9 i9 j9]) sl (x-((s:Int):Rat)) (bo.ext (E7.trans am)) aR aX.o aW.o) ?_);rintro e bT ⟨bP,rfl,aq,ah⟩;obtain⟨bB,be,bu,bi,bD,bk,bp,br,rfl⟩:=aq.form;go_wp2;refine kO f (fun _=>cE d ah) (fun d=>?_);clear f K;replace d:=d rfl;refine Jc (i:=10) fun K f=>?_;go_simp;(with_reducible refine cM (jv _ (M #[Z Y s2,O a2 m2 c2,Z Y t2,O e2 i2 j2]) (M #[Z Y bB,O be bu bi,Z Y bD,O bk bp br]) ((pz:Int):Rat) (sl*(x-((s:Int):Rat))) (aP.ext (aC.trans (am.trans ah))) aq aV.o aY.o) ?_);rintro e ao ⟨bQ,rfl,ar,au⟩;obtain⟨bC,bf,bv,bj,bE,bl,bq,bs,rfl⟩:=ar.form;go_wp2;refine kO f (fun _=>cE d au) (fun d=>?_);clear f K;replace d:=d rfl;have XF:Ba W8 ao:=E7.trans (am.trans (ah.trans au));have zf:w.heap.size+1<ao.heap.size:=XF.lt zr;have S:=XF.e aG.o;have o0:=Ca S (i:=0) (u:=Z Y 0) rfl;have o1:=Ca S (i:=1) (u:=O X 0 0) rfl;have o2:=Ca S (i:=2) (u:=Z Y 0) rfl;have o3:=Ca S (i:=3) (u:=O X 0 0) rfl;have of:=Ua S;refine Jc (i:=11) fun K f=>?_;go_simp;refine kO f (fun h=>nomatch h) (fun d=>?_);clear f K;refine Kb kM ?_ _;go_wp2;refine bR (v:=M #[Z Y bC,O bf bv bj,Z Y bE,O bl bq bs]) (by simp[results,Tryz.results37,go_sem,zf,o0,o1,o2,o3]) rfl ⟨_,rfl,?_,eA⟩;(have r:ld 3 ao (w.heap.size+1):=by intro cs fr e;rw[S]at e;cases e);rw[<-HE.o];exact ar.keep (((((Ia.refl _ ao).x r _).x (r.set _ _) _).x ((r.set _ _).set _ _) _).x (((r.set _ _).set _ _).set _ _) _)
   ·(have k9:decide (T<=0)=false:=by simpa using aj);have aJ:Sa (∀j,j<m+1->¬Eb x (((Pa L (j+1)).1:Int):Rat)<=0):=Aa fun j hj=>by
     by_cases bn:j=m
     ·subst bn;rw[a4.o,HT.o];exact aj
     ·exact ax.o j oM
    go_wp2;refine Kc [(⟨w.heap.size,0,X⟩,Z Y xs),(⟨w.heap.size,1,X⟩,O xa xm xc),(⟨w.heap.size,2,X⟩,Z Y xt),(⟨w.heap.size,3,X⟩,O xe xi xj),(⟨b,o+(m+1)*2,X⟩,Z Y Q)] cA fun d=>?_;refine sN 0 ?_
    (iterate 6 refine xb ?_);refine oN ?_;refine Ub (i:=6) (aE.o wr.drew) ?_;rintro e w5 ⟨r5,rfl,aa,y⟩;obtain⟨s5,a5,m5,c5,t5,e5,i5,j5,rfl⟩:=aa.form;refine⟨_,rfl,(cE d y),fun d=>?_⟩;refine Ld (i:=7) fun K f=>?_;go_simp;(with_reducible refine cM (Em w5 _ _ x ((Q:Int):Rat) ((hx.ext ai.o).ext ((eR wr).drew.trans y)) aa av.o aD.o) ?_);rw[HT.o];rintro e z ⟨rfl,ac⟩;go_wp2;refine kO f (cE d ac) (fun d=>?_);clear f K;refine Db (i:=8) ?_;refine Wb ?_;have P:Ba wr z:=(eR wr).drew.trans (y.trans ac);clear kw;go_wp2;go_roundw
    case rel=>exact⟨m+1,by go_num,by rw[Hn.o];omega,fun j hj=>(by have:=aJ.o j hj;omega),ai.o.trans P,P.e a1.o,P.e aw.o⟩
    case measure=>simp[intOf];omega
  ·obtain rfl:m+1=n:=oM;obtain⟨b,o,rfl,bm,d0,d1⟩:=(H.o.f an).pt (i:=m) (by rw[Hn.o];omega);have bb:=ay.o m oM;have t:=nG (L:=L) (x:=x) a3.o (fun j hj=>ax.o j (by rw[Hn.o]at hj;omega));rw[Hq.o,Hn.o,show m+1-1=m by omega]at t;obtain⟨⟨s,pz⟩,hp⟩:∃p,Pa L m=p:=⟨_,rfl⟩;rw[hp]at d0 d1 bb t;dsimp only at d0 d1 bb t;unfold Bd at bb;obtain⟨-,⟨bg,bh⟩⟩:=bb;have HE:=Aa t;have HO:=Aa (fun W=>Jm W pz oM oM);have g0:¬(m:Int)+1<(m:Int)+1:=oM;have g3:(m:Int)+1-1=(m:Int):=oM;have g4:(0:Int)<=(m:Int):=oM;have g5:(m:Int)<(m:Int)+1:=oM;clear hp t;go_wp2_with(go_at_call 82;refine cM (HO.o wr) ?_;rintro e w8 ⟨r8,rfl,ab,ad⟩;obtain⟨s8,a8,m8,c8,t8,e8,i8,j8,rfl⟩:=ab.form;obtain⟨az,aL⟩:=ad.cells);refine bR (v:=M #[Z Y s8,O a8 m8 c8,Z Y t8,O e8 i8 j8]) (by simp[results,Tryz.results37,go_sem,az,rz,r0,r1,r2,r3]) rfl ⟨_,rfl,?_,eA⟩;have r:ld 3 w8 (w.heap.size+1):=by intro cs fr e;rw[ad.e aw.o]at e;cases e
   rw[HE.o];exact ab.keep (((((Ia.refl _ w8).x r _).x (r.set _ _) _).x ((r.set _ _).set _ _) _).x (((r.set _ _).set _ _).set _ _) _)
def Bx(w:V)(u x:I)(ps qs:LP)(p:yb w u ps)(r:yb w x qs)(Q:ps≠[])(R:qs≠[]):Calls Tryz.prog 119 #[u,x] w fun e T=>e=.returned (F #[Z Y (Nb ps qs).lo,Z Y (Nb ps qs).hi,C (decide ((Nb ps qs).lo<(Nb ps qs).hi))])/\Ba w T:=by
 have l:=Aa (fun W (s:Ba w W)=>Er W u ps (p.f s) Q);have m:=Aa (fun W (s:Ba w W)=>Er W x qs (r.f s) R);obtain⟨a1,c1,rfl⟩:=p.form;obtain⟨a2,c2,rfl⟩:=r.form;obtain⟨g,f,t⟩:∃g f,(Nb ps qs).lo=g/\(Nb ps qs).hi=f:=⟨_,_,rfl,rfl⟩;rw[t.1,t.2];obtain⟨i,d⟩:=t;unfold Nb at i d;dsimp only at i d;obtain⟨K,a⟩:=gX (Ra ps);obtain⟨P,c⟩:=gX (Ra qs);obtain⟨n,j⟩:=gX (Ya ps);obtain⟨o,k⟩:=gX (Ya qs);rw[show (Pa ps 0).1=K from a,show (Pa ps (ps.length-1)).1=n from j]at l;rw[show (Pa qs 0).1=P from c,show (Pa qs (qs.length-1)).1=o from k]at m;rw[a,c]at i;rw[j,k]at d;clear a c j k p r Q R;by_cases k1:K<P
 ·obtain rfl:g=P:=oM;clear i;by_cases S:o<n
  ·obtain rfl:f=o:=oM;clear d;go_in;go_wp2_with(first|(go_at_call 118;(with_reducible refine(l.o _ (eR _)).mono ?_);rintro e y ⟨rfl,a⟩)|(go_at_call 118;(with_reducible refine(m.o _ a).mono ?_);rintro e z ⟨rfl,c⟩));exact bR (v:=F #[Z Y g,Z Y f,C (decide (g<f))]) (by simp[results,Tryz.results119,go_sem]) rfl ⟨rfl,a.trans c⟩
  ·obtain rfl:f=n:=oM;clear d;go_in;go_wp2_with(first|(go_at_call 118;(with_reducible refine(l.o _ (eR _)).mono ?_);rintro e y ⟨rfl,a⟩)|(go_at_call 118;(with_reducible refine(m.o _ a).mono ?_);rintro e z ⟨rfl,c⟩));exact bR (v:=F #[Z Y g,Z Y f,C (decide (g<f))]) (by simp[results,Tryz.results119,go_sem]) rfl ⟨rfl,a.trans c⟩
 ·obtain rfl:g=K:=oM;clear i;by_cases S:o<n
  ·obtain rfl:f=o:=oM;clear d;go_in;go_wp2_with(first|(go_at_call 118;(with_reducible refine(l.o _ (eR _)).mono ?_);rintro e y ⟨rfl,a⟩)|(go_at_call 118;(with_reducible refine(m.o _ a).mono ?_);rintro e z ⟨rfl,c⟩));exact bR (v:=F #[Z Y g,Z Y f,C (decide (g<f))]) (by simp[results,Tryz.results119,go_sem]) rfl ⟨rfl,a.trans c⟩
  ·obtain rfl:f=n:=oM;clear d;go_in;go_wp2_with(first|(go_at_call 118;(with_reducible refine(l.o _ (eR _)).mono ?_);rintro e y ⟨rfl,a⟩)|(go_at_call 118;(with_reducible refine(m.o _ a).mono ?_);rintro e z ⟨rfl,c⟩));exact bR (v:=F #[Z Y g,Z Y f,C (decide (g<f))]) (by simp[results,Tryz.results119,go_sem]) rfl ⟨rfl,a.trans c⟩
def VQ(w:V)(c:List I)(l:LP):Prop:=∃v,c=[v]/\yb w v l
abbrev rj(w:V)(v:I)(lss:List LP):Prop:=Sl 88 1 VQ w v lss
def rj.f{w w':V}{v:I}{a:List LP}(h:rj w v a)(k:Ba w w'):rj w' v a:=Sl.ext h (fun _ _ ⟨v,c,d⟩=>⟨v,c,d.f k⟩) k
def rj.at'{w:V}{a:Option Addr}{n c:Nat}{e:List LP}(h:rj w (O a n c) e){i:Nat}{l:LP}(j:e[i]?=J l):∃b o v,a=J ⟨b,o,X⟩/\b<w.heap.size/\w.cell? ⟨b,o+i,X⟩=J v/\yb w v l:=by obtain⟨b,o,d,rfl,f,k,⟨v,rfl,hv⟩,g⟩:=Sl.at h j;exact⟨b,o,v,rfl,f,by simpa using g 0 v rfl,hv⟩
def Li(a:List LP):List Int:=a.flatten.map (·.1)
def RM(cs:List Int)(c x n0:Int):Me (cs++[c]) x n0=if x<c/\c<Me cs x n0 then c else Me cs x n0:=by rw[AK];rfl
def SI(a:List LP)(l:LP):Li (a++[l])=Li a++l.map (·.1):=by unfold Li;simp
def PQ(w:V)(cs:List Int)(e a:Int)(L:List Int)(c d:I)(W:V):Prop:=
 ∃(k:Nat)(x:Int),d=Z Y x/\k<=L.length/\Mb 3 W w.heap.size c (L.take k)/\Ba w W/\(k<L.length->zN L k=x)/\(k=L.length->a<x)
def QQ(d:V)(a:List LP)(x n0:Int)(t9 c:I)(W:V):Prop:=
 ∃(i:Nat)(n:Int),c=Z Y i/\t9=Z Y n/\i<=a.length/\Me (Li (a.take i)) x n0=n/\W=d
def RQ(c:V)(pre:List Int)(l:LP)(x n0:Int)(t9 a:I)(W:V):Prop:=
 ∃(k:Nat)(n:Int),a=Z Y k/\t9=Z Y n/\k<=l.length/\Me (pre++(l.take k).map (·.1)) x n0=n/\W=c
def LG{cs:List Int}{x n0:Int}(a:∀c∈cs,Bd 104000 c)(d:Bd 104001 n0):Bd 104001 (Me cs x n0):=by
 rcases(nr cs x n0).2.2 with h|⟨h,-⟩
 ·rw[h];exact d
 ·have:=a _ h;unfold Bd at *;omega
def Is(w:V)(L:List Int)(e:Ending)(w':V):Prop:=∃v,e=.returned v/\Mb 3 w' w.heap.size v L/\Ba w w'
def vG{a:List LP}{l:LP}(h:l∈a){k:Nat}(c:k<l.length):(Pa l k).1∈Li a:=by unfold Li;exact List.mem_map.2 ⟨_,List.mem_flatten.2 ⟨l,h,ji c⟩,rfl⟩
def PD(w:V)(v:I)(d:List LP)(lo f:Int)(L:List Int)(h:rj w v d)(hp:Ks (Li d) lo f L)(aA:Bd 104000 lo)(ax:Bd 104000 f)(hB:∀c∈Li d,Bd 104000 c)(aL:d.length<=1000)(ae:∀l∈d,l.length<=1000)(hL:L.length<=1000000):Calls Tryz.prog 120 #[Z Y lo,Z Y f,v] w (Is w L):=by
 obtain⟨a,c,rfl⟩:=h.form;obtain⟨n,hn⟩:=gX d.length;obtain⟨cs,ak⟩:=gX (Li d);rw[hn]at aL ⊢;rw[ak]at hp hB;have Hn:=Aa hn;have ao:=Aa ak;have H:=Aa h;have Hp:=Aa hp;have HB:=Aa hB;have aF:=Aa ae;have aQ:=hp.pos;have an:=Aa hL;have ad:=aA;unfold Bd at ax ad;obtain⟨aS,aT⟩:=ax;obtain⟨aY,aZ⟩:=ad;clear hn ak h hp hB ae hL aA;go_in;go_wp2;go_loopw [7,8] (PQ w cs lo f L) (fun t7 _ _=>L.length-(match t7 with | O _ n _=>n|_=>0))
 case atStart=>exact⟨0,lo,rfl,by omega,Mb.nil _ _ _,eR _,fun _=>Hp.o.h0,fun e=>by omega⟩
 case round =>
  obtain⟨k,x,rfl,hk,s,hx,ay,z⟩:=hrel;obtain⟨va,vc,rfl⟩:=s.form;rw[List.length_take,Nat.min_eq_left hk]at s ⊢;have ab:=Aa s;have aH:=Aa ay;have Hx:=Aa hx;have aV:=hx.size;clear s ay;by_cases S:k<L.length
  ·have T:=aH.o S;have aX:x<=f:=by rw[<-T];exact Hp.o.le k S
   have aW:-200000<=x:=by
    have:∀j,j<L.length->lo<=zN L j:=by
     intro j;induction j with
     | zero=>intro _;rw[Hp.o.h0];omega
     | succ j ih =>
      intro hj;have h1:=ih oM;rw[Hp.o.st j hj];unfold Vi;obtain⟨-,-,e⟩:=nr cs (zN L j) (f+1);have h3:=Hp.o.le j oM;split<;>rcases e with e|⟨-,e⟩<;>omega
    have:=this k S;omega
   have ag:L[k]?=J x:=by rw[<-T,Eq S];exact gE _
   have aq:=Aa T;have ar:=Aa ag;have aP:=Aa an.o;clear z T ag;have aU:k<=1000000:=by have:=an.o;omega
   go_wp2_with(at_builtin;refine mj (y:=x) Ok Tryz.underlying64 rfl _ _ rfl rfl ab.o rfl (by rw[List.length_take];omega) oM ?_;intro v' w1 g t al);have X1:Ba w w1:=Hx.o.y t (nE _);have e1:L.take k++[x]=L.take (k+1):=(Rf L k x ar.o).symm;rw[e1]at g;obtain⟨a0,a1,aE⟩:=g.form;rw[List.length_take,Nat.min_eq_left oM]at aE;subst aE;have r:=Aa g;obtain⟨wa,rfl⟩:∃W,W=w1:=⟨_,rfl⟩;clear g t al e1 hx;go_loopw [9,10] (QQ wa d x (f+1)) (fun _ aM _=>n-(intOf aM).toNat)
   case atStart=>exact⟨0,f+1,rfl,rfl,by omega,by simp[Li,Me],rfl⟩
   case round =>
    obtain⟨i,nx,rfl,rfl,aI,aD,rfl⟩:=hrel;rw[Hn.o]at aI;have ai:=Aa aD;clear aD;by_cases aB:i<n
    ·obtain⟨l,hl⟩:∃l,d[i]?=J l:=⟨_,gE (by rw[Hn.o];exact aB)⟩;have az:=lM hl;obtain⟨b,o,vl,rfl,hb,c0,hv⟩:=(H.o.f X1).at' hl;obtain⟨la,lc,rfl⟩:=hv.form;have aK:=aF.o l az;obtain⟨ln,R⟩:=gX l.length;rw[R]at c0 aK;have p:=Aa R;have Hv:=Aa hv;(have K:Li (d.take (i+1))=Li (d.take i)++l.map (·.1):=by rw[Rf d i l hl,SI]);obtain⟨pre,P⟩:=gX (Li (d.take i));rw[P]at K ai;have ap:=Aa K;have Hl:=Aa hl;have av:∀k2,k2<ln->Bd 104000 (Pa l k2).1:=fun k2 h2=>HB.o _ (by rw[<-ao.o];exact vG az (by rw[R];exact h2));have aG:=Aa av;have g0:(0:Int)<=(i:Int):=oM;have g1:(i:Int)<(n:Int):=oM;clear R hv K P hl av;go_wp2;go_loopw [9,11] (RQ wr pre l x (f+1)) (fun _ aO _=>ln-(intOf aO).toNat)
     case atStart=>exact⟨0,nx,rfl,rfl,by omega,by simpa using ai.o,rfl⟩
     case round =>
      obtain⟨k2,m,rfl,rfl,aJ,af,rfl⟩:=hrel;rw[p.o]at aJ;have aa:=Aa af;clear af;by_cases u:k2<ln
      ·obtain⟨b2,o2,rfl,aR,e0,-⟩:=Hv.o.pt (i:=k2) (by rw[p.o];exact u);have aw:=aG.o k2 u;have am:(l.take (k2+1)).map (·.1)=(l.take k2).map (·.1)++[(Pa l k2).1]:=by
        rw[Rf l k2 (Pa l k2) (by rw[Ah (by rw[p.o];exact u)];exact gE _),List.map_append];rfl
       obtain⟨cc,ac⟩:=gX ((Pa l k2).1);rw[ac]at e0 aw am;have Q:Me (pre++(l.take (k2+1)).map (·.1)) x (f+1)=if x<cc/\cc<m then cc else m:=by
        rw[am,<-List.append_assoc,RM,aa.o]
       have aj:=Aa Q;have k0:(0:Int)<=(k2:Int):=oM;have k1:(k2:Int)<(ln:Int):=oM;unfold Bd at aw;clear ac am Q;by_cases q1:x<cc
       ·by_cases q2:cc<m
        ·go_wp2;go_roundw
         case rel=>exact⟨k2+1,cc,by go_num,rfl,by rw[p.o];omega,by rw[aj.o,if_pos ⟨q1,q2⟩],rfl⟩
         case measure=>simp[intOf];omega
        ·have q3:¬(x<cc/\cc<m):=fun h=>q2 h.2;have Q3:=Aa q3;clear q3;go_wp2;go_roundw
         case rel=>exact⟨k2+1,m,by go_num,rfl,by rw[p.o];omega,by rw[aj.o,if_neg oM],rfl⟩
         case measure=>simp[intOf];omega
       ·go_wp2;go_roundw
        case rel=>exact⟨k2+1,m,by go_num,rfl,by rw[p.o];omega,by rw[aj.o,if_neg oM],rfl⟩
        case measure=>simp[intOf];omega
      ·obtain rfl:k2=ln:=oM;have e9:Me (Li (d.take (i+1))) x (f+1)=m:=by
        rw[ap.o];have:=aa.o;rw[lT (by rw[p.o];omega)]at this;exact this
       have E9:=Aa e9;clear e9;go_wp2;go_roundw
       case rel=>exact⟨i+1,m,by go_num,rfl,by rw[Hn.o];omega,E9.o,rfl⟩
       case measure=>simp[intOf];omega
    ·obtain rfl:i=n:=oM;have e9:Me cs x (f+1)=nx:=by
      have:=ai.o;rw[lT (by rw[Hn.o];omega),ao.o]at this;exact this
     have aC:=LG (cs:=cs) (x:=x) (n0:=f+1) HB.o (by unfold Bd;omega);rw[e9]at aC;unfold Bd at aC;have hR:∀y,Vi cs x f=y->(k+1<L.length->zN L (k+1)=y)/\(k+1=L.length->f<y):=by
      intro y hy;refine⟨fun h=>by rw[Hp.o.st k h,aq.o,hy],fun h=>?_⟩;have:=Hp.o.stop;rw[show L.length-1=k by omega,aq.o,hy]at this;exact this
     (have au:Vi cs x f=if x<f/\f<nx then f else nx:=by unfold Vi;rw[e9]);have HR:=Aa hR;have ah:=Aa au;clear e9 hR au;by_cases q1:x<f
     ·by_cases q2:f<nx
      ·skip
       go_wp2;go_roundw
       case rel =>
        obtain⟨z1,z2⟩:=HR.o f (by rw[ah.o,if_pos oM]);exact⟨k+1,f,rfl,by omega,r.o,X1,z1,z2⟩
       case measure=>simp;omega
      ·skip
       go_wp2;go_roundw
       case rel =>
        obtain⟨z1,z2⟩:=HR.o nx (by rw[ah.o,if_neg oM]);exact⟨k+1,nx,rfl,by omega,r.o,X1,z1,z2⟩
       case measure=>simp;omega
     ·skip
      go_wp2;go_roundw
      case rel =>
       obtain⟨z1,z2⟩:=HR.o nx (by rw[ah.o,if_neg oM]);exact⟨k+1,nx,rfl,by omega,r.o,X1,z1,z2⟩
      case measure=>simp;omega
  ·obtain rfl:k=L.length:=oM;have h1:=z rfl;have e1:L.take L.length=L:=List.take_length;have hf:Mb 3 wr w.heap.size (O va L.length vc) L:=by have:=ab.o;rw[e1]at this;exact this
   have Hf:=Aa hf;clear hf z;have h2:¬x<=f:=oM;go_wp2;go_ret;exact⟨_,rfl,Hf.o,Hx.o⟩
def QX(W:V)(b:Nat)(q:Rat):Prop:=∃s a m c t e i j,W.heap[b]?=J (E #[Z Y s,O a m c,Z Y t,O e i j] 68 (0,0))/\nc W (M #[Z Y s,O a m c,Z Y t,O e i j]) q
section
variable {W W':V} {b b':Nat} {q q':Rat}
def QX.ext(h:QX W b q)(k:Ba W W'):QX W' b q:=by obtain⟨s,a,m,c,t,e,i,j,d,f⟩:=h;exact⟨s,a,m,c,t,e,i,j,k.e d,f.ext k⟩
def QX.not(h:QX W b q):ld 3 W b:=by obtain⟨s,a,m,c,t,e,i,j,d,k⟩:=h;intro f g e;rw[d]at e;cases e
def QX.rd(h:QX W b q):∃s a m c t e i j,W.cell? ⟨b,0,X⟩=J (Z Y s)/\W.cell? ⟨b,1,X⟩=J (O a m c)/\W.cell? ⟨b,2,X⟩=J (Z Y t)/\W.cell? ⟨b,3,X⟩=J (O e i j)/\(∀k,W.frozen? ⟨b,k,X⟩=false)/\b<W.heap.size/\nc W (M #[Z Y s,O a m c,Z Y t,O e i j]) q:=by obtain⟨s,a,m,c,t,e,i,j,d,f⟩:=h;exact⟨s,a,m,c,t,e,i,j,Ca d (i:=0) rfl,Ca d (i:=1) rfl,Ca d (i:=2) rfl,Ca d (i:=3) rfl,Ua d,Gb d,f⟩
def QX.put{s t:Int}{a e:Option Addr}{m c i j:Nat}(h:QX W b q)(n:nc W (M #[Z Y s,O a m c,Z Y t,O e i j]) q'):QX ((((W.setCell ⟨b,0,X⟩ (Z Y s)).setCell ⟨b,1,X⟩ (O a m c)).setCell ⟨b,2,X⟩ (Z Y t)).setCell ⟨b,3,X⟩ (O e i j)) b q':=by have l:=h.not;obtain⟨u,d,r,f,v,g,o,p,k,w⟩:=h;exact⟨s,a,m,c,t,e,i,j,Mp (cs:=[Z Y u,O d r f,Z Y v,O g o p]) [Z Y s,O a m c,Z Y t,O e i j] k rfl,n.keep (Pj [Z Y s,O a m c,Z Y t,O e i j] 0 l)⟩
def QX.other4(h:QX W b q)(n:QX W b' q')(d:b≠b')(f g k l:I):QX ((((W.setCell ⟨b',0,X⟩ f).setCell ⟨b',1,X⟩ g).setCell ⟨b',2,X⟩ k).setCell ⟨b',3,X⟩ l) b q:=by obtain⟨s,a,m,c,t,e,i,j,o,p⟩:=h;refine⟨s,a,m,c,t,e,i,j,?_,p.keep (Pj [f,g,k,l] 0 n.not)⟩;have:=Xm d [f,g,k,l] 0 W;exact this.trans o
def QX.new{s t:Int}{a e:Option Addr}{m c i j:Nat}(f:nc W (M #[Z Y s,O a m c,Z Y t,O e i j]) q)(d:b=W.heap.size):QX (W.alloc (E #[Z Y s,O a m c,Z Y t,O e i j] 68)) b q:=
 ⟨s,a,m,c,t,e,i,j,Ec _ _ _ d,f.ext ((eR _).alloc _)⟩
def QX.put2{p w:Rat}{j k t u:Int}{a d l m:Option Addr}{i c f g s c2 o r:Nat}(h:QX W b q)(x:QX W b' q')(e:b≠b')(y:nc W (M #[Z Y j,O a i c,Z Y k,O d f g]) p)(n:nc W (M #[Z Y t,O l s c2,Z Y u,O m o r]) w):QX ((((((((W.setCell ⟨b,0,X⟩ (Z Y j)).setCell ⟨b,1,X⟩ (O a i c)).setCell ⟨b,2,X⟩ (Z Y k)).setCell ⟨b,3,X⟩ (O d f g)).setCell ⟨b',0,X⟩ (Z Y t)).setCell ⟨b',1,X⟩ (O l s c2)).setCell ⟨b',2,X⟩ (Z Y u)).setCell ⟨b',3,X⟩ (O m o r)) b p/\QX ((((((((W.setCell ⟨b,0,X⟩ (Z Y j)).setCell ⟨b,1,X⟩ (O a i c)).setCell ⟨b,2,X⟩ (Z Y k)).setCell ⟨b,3,X⟩ (O d f g)).setCell ⟨b',0,X⟩ (Z Y t)).setCell ⟨b',1,X⟩ (O l s c2)).setCell ⟨b',2,X⟩ (Z Y u)).setCell ⟨b',3,X⟩ (O m o r)) b' w:=by have z:=h.put y;have v:=x.other4 h (Ne.symm e) (Z Y j) (O a i c) (Z Y k) (O d f g);exact⟨z.other4 v e _ _ _ _,v.put (n.keep (Pj [Z Y j,O a i c,Z Y k,O d f g] 0 h.not))⟩
def QX.drew(h:QX W b q):QX W.drew b q:=h.ext (eR _).drew
def ju{o:Obj}(h:W.heap[b]?=J o)(a:b≠b')(c d e f:I):((((W.setCell ⟨b',0,X⟩ c).setCell ⟨b',1,X⟩ d).setCell ⟨b',2,X⟩ e).setCell ⟨b',3,X⟩ f).heap[b]?=J o:=
 (Xm a [c,d,e,f] 0 W).trans h
def zj{w:V}(h:Ba w W)(a:w.heap.size<=b)(c d e f:I):Ba w ((((W.setCell ⟨b,0,X⟩ c).setCell ⟨b,1,X⟩ d).setCell ⟨b,2,X⟩ e).setCell ⟨b,3,X⟩ f):=
 (((h.set (p:=⟨b,0,X⟩) a _).set (p:=⟨b,1,X⟩) a _).set (p:=⟨b,2,X⟩) a _).set (p:=⟨b,3,X⟩) a _
end
def Xh(s:Sp)(L:List Int)(i:Nat):Rat×Rat:=Gd (Tb s) ((L.take i).map fun z:Int=>(z:Rat))
def vJ{s:Sp}{L:List Int}{x:Int}(h:L[0]?=J x):Xh s L 1=((x:Rat),Tb s (x:Rat)):=by unfold Xh;rw[Rf L 0 x h];rfl
def XL{s:Sp}{L:List Int}{i:Nat}{x:Int}(h:L[i]?=J x)(a:0<i):Xh s L (i+1)=jc (Tb s) (Xh s L i) (x:Rat):=by unfold Xh;rw[Rf L i x h,List.map_append];refine iE _ _ _ ?_;intro e;have:=congrArg List.length e;have c:=(lS.1 h).1;rw[lL,List.length_take,Nat.min_eq_left oM]at this;exact absurd this (by simp;omega)
def nD(W:V){b:Nat}(l:b=W.heap.size){e f:I}{ps qs:LP}(j:yb W e ps)(k:yb W f qs):rj (W.alloc (E #[e,f] 88)) (O (J ⟨b,0,X⟩) 2 2) [ps,qs]:=by
 subst l;refine⟨[[e],[f]],rfl,by simp,⟨by simp,J ⟨W.heap.size,0,X⟩,2,rfl,nE _,by unfold maxLen;omega,.inr ⟨W.heap.size,0,#[e,f],(0,0),rfl,aN _ _,?_⟩⟩,?_⟩
 ·intro i x a;simpa using a
 ·intro i c x d a;have g:Ba W (W.alloc (E #[e,f] 88)):=(eR W).alloc _
  match i,d,a with
  | 0,d,a=>simp at d a;subst d a;exact⟨_,rfl,j.f g⟩
  | 1,d,a=>simp at d a;subst d a;exact⟨_,rfl,k.f g⟩
  | i+2,d,a=>simp at d
def lH{s:Sp}(ok:Gg s){x:Int}(a:Bd 104000 x):Rb 23 (Tb s (x:Rat)):=by unfold Tb;exact Rb.sub (k:=11) (Rb.atR (Rg a) ok.1) (Rb.atR (Rg a) ok.2.1)
def Cy{cs L:List Int}{c a:Int}(h:Ks cs c a L):∀k,k<L.length->c+(k:Int)<=zN L k
 | 0,_=>by rw[h.h0];omega
 | k+1,d=>by
  have g:=Cy h k oM;have f:=h.le k oM;rw[h.st k d];obtain⟨-,-,e⟩:=nr cs (zN L k) (a+1);unfold Vi;split
  ·omega
  ·rcases e with e|⟨-,e⟩<;>omega
def Ez{cs L:List Int}{c a:Int}(h:Ks cs c a L)(d:Bd 104000 c)(e:Bd 104000 a):L.length<=1000000:=by have f:=h.pos;have g:=Cy h (L.length-1) oM;have i:=h.le (L.length-1) oM;unfold Bd at d e;omega
def jD{s:Sp}(ok:Gg s):∀z∈Mc s,Bd 104000 z:=by
 intro z d;have a:=ok.2.2.1;have c:=ok.2.2.2;rcases lh.1 d with rfl|rfl|⟨e,f,-⟩
 ·exact a
 ·exact c
 ·unfold Bd at *;omega
def Qs(w g:V)(s:Sp)(L:List Int)(c d:Nat)(e:I)(W:V):Prop:=
 ∃(i:Nat)(f a:Rat),e=Z Y i/\i<=L.length/\(0<i->Xh s L i=(f,a))/\Rb 100 a/\QX W c a/\QX W d f/\Ba g W
def Tr{s:Sp}{L:List Int}{i:Nat}{x:Int}{c a:Rat}(h:L[i]?=J x)(d:0<i)(e:Xh s L i=(c,a)):Xh s L (i+1)=if Eb (Tb s (x:Rat)) a<0 then ((x:Rat),Tb s (x:Rat))else (c,a):=by rw[XL h d,e];rfl
def KB(w:V)(va vb:I)(A B:LP)(h1:yb w va A)(h2:yb w vb B)(ar:mc A)(au:mc B)(r1:Gc A)(r2:Gc B)(ag:(Nb A B).lo<(Nb A B).hi):Calls Tryz.prog 43 #[va,vb] w fun e w'=>∃v1 v2,e=.returned (F #[v1,v2])/\nc w' v1 (Ma (Nb A B)).2/\nc w' v2 (Ma (Nb A B)).1/\Ba w w':=by
 have ap:=lk ar au;have ae:=YA ag;have hC:=fun W (hW:Ba w W)=>Bx W va vb A B (h1.f hW) (h2.f hW) ar.1 au.1;obtain⟨s,hs⟩:=gX (Nb A B);have a9:s.over=A:=by rw[<-hs];rfl
 have bh:s.under=B:=by rw[<-hs];rfl
 rw[hs]at ap ae hC ag ⊢;obtain⟨lo,a8⟩:=gX s.lo;obtain⟨hi,aZ⟩:=gX s.hi;rw[a8,aZ]at hC ae ag;have bJ:decide (lo<hi)=true:=by simpa using ag
 simp only[bJ]at hC;obtain⟨L,hL⟩:=gX (Mc s);have aL:Xh s L L.length=Ma s:=by
  unfold Xh Ma Jb;rw[hL,List.take_length]
 rw[hL]at ae;have bQ:Li [A,B]=(s.over++s.under).map (·.1):=by rw[a9,bh];simp[Li]
 rw[<-bQ]at ae;have aC:=ap.2.2.1;have aB:=ap.2.2.2;rw[a8]at aC;rw[aZ]at aB;have bT:∀z∈L,Bd 104000 z:=by rw[<-hL];exact jD ap
 have bA:=Ez ae aC aB;have hP:=fun W v (hv:rj W v [A,B])=>PD W v [A,B] lo hi L hv ae aC aB (by
  intro c hc;unfold Li at hc;obtain⟨q,hq,rfl⟩:=List.mem_map.1 hc;simp at hq;rcases hq with hq|hq
  ·exact(ar.2.1 q hq).1
  ·exact(au.2.1 q hq).1) sM (by
  intro l hl;simp at hl;rcases hl with rfl|rfl
  ·have:=ar.2.2;omega
  ·have:=au.2.2;omega) bA
 have bz:=ae.pos;rw[<-aL];have HC:=Aa hC;have HP:=Aa hP;have aS:=Aa ap;have b1:=Aa bT;have br:=Aa a9;have bu:=Aa bh;have H1:=Aa h1;have H2:=Aa h2;have bm:=Aa (fun W vx x (hW:Ba w W) (hx:nc W vx x) (hb:Rb 2000 x)=>Xq W va vx A x (h1.f hW) ar r1 hx hb);have bn:=Aa (fun W vx x (hW:Ba w W) (hx:nc W vx x) (hb:Rb 2000 x)=>Xq W vb vx B x (h2.f hW) au r2 hx hb);obtain⟨a1,c1,bF⟩:=h1.form;obtain⟨a2,c2,bG⟩:=h2.form;obtain⟨n1,bK⟩:=gX A.length;obtain⟨n2,bL⟩:=gX B.length;rw[bK]at bF;rw[bL]at bG;subst bF bG;obtain⟨n,hn⟩:=gX L.length;rw[hn]at bz bA ⊢;have Hn:=Aa hn;clear hC hP ap bT a9 bh h1 h2 a8 aZ hL aL bQ ae aC aB ar au r1 r2 bK bL hn ag bJ hs;go_in;go_upto_region 3 with (first|(go_at_call 119;refine cM (HC.o _ eA) ?_;rintro e w1 ⟨rfl,bN⟩;(have X1:Ba w w1:=eA))|(go_at_call 120;refine cM (HP.o _ _ (nD w1 rfl (H1.o.f X1) (H2.o.f X1))) ?_;rintro e w2 ⟨v2,rfl,r,bi⟩;obtain⟨ra,rc,rfl⟩:=r.form));have X2:Ba w w2:=X1.trans (((eR w1).alloc _).trans bi);have ay:w2.heap[w.heap.size]?=J (Obj.cells #[Value.int Y 0,Value.slice X 0 0,Value.int Y 0,Value.slice X 0 0] 68 (0,0)):=((bN.trans ((eR w1).alloc _)).trans bi).e (Ch ..);have ah:w2.heap[w.heap.size+1]?=J (Obj.cells #[Value.int Y 0,Value.slice X 0 0,Value.int Y 0,Value.slice X 0 0] 68 (0,0)):=((bN.trans ((eR w1).alloc _)).trans bi).e (Ec _ _ _ sM);rw[Hn.o]at r;have bs:=Aa r.ints;have aQ:=Aa ay;have aR:=Aa ah;have zw:w.heap.size+1<w2.heap.size:=Gb ah;have en:L.length=n:=Hn.o;rw[en];clear r ay ah en;go_wp2;go_loopw [12] (Qs w w2 s L w2.heap.size (w2.heap.size+1)) (fun cj _=>n-(intOf cj).toNat)
 case atStart=>exact⟨0,0,0,rfl,by omega,fun h=>by omega,(Rg (k:=0) (n:=0) (by unfold Bd;omega)).mono dM,QX.ext (W:=w2.alloc (Obj.cells #[Value.int Y 0,Value.slice X 0 0,Value.int Y 0,Value.slice X 0 0] 68)) (QX.new (nc.zero _) rfl) ((eR _).alloc _),QX.new (W:=w2.alloc (Obj.cells #[Value.int Y 0,Value.slice X 0 0,Value.int Y 0,Value.slice X 0 0] 68)) (nc.zero _) sM,((eR w2).alloc _).alloc _⟩
 case round =>
  obtain⟨f,bH⟩:=gX w2.heap.size;rw[bH]at hrel ⊢;obtain⟨i,bx,bg,rfl,cc,aM,bD,bl,bU,hx⟩:=hrel;rw[Hn.o]at cc;have aG:=Aa aM;have bq:=Aa bD;have XW:Ba w wr:=X2.trans hx;have bV:=bl.rd;have bw:=Aa bl;have aT:=Aa bU;clear aM bD bV bl bU;by_cases ag:i<n
  ·obtain⟨x,aE⟩:∃x,L[i]?=J x:=⟨_,gE (by rw[Hn.o];exact ag)⟩;obtain⟨b,o,cd,cp,bE⟩:=(bs.o.ext hx).open (by rw[Hn.o];omega);subst cd;have c0:=bE i x aE;have aq:=b1.o x (lM aE);have aY:=lH aS.o aq;have aW:Tb s (x:Rat)=Yd A (x:Rat)-Yd B (x:Rat):=by unfold Tb;rw[br.o,bu.o]
   obtain⟨G,hG⟩:=gX (Tb s (x:Rat));rw[hG]at aY aW;have aO:=Aa aY;have b0:=Aa aW;have HG:=Aa hG;have bv:=Aa aE;have bX:Sa (Rb 11 (Yd A (x:Rat))):=Aa (by have:=Rb.atR (Rg aq) aS.o.1;rw[br.o]at this;exact this);have bY:Sa (Rb 11 (Yd B (x:Rat))):=Aa (by have:=Rb.atR (Rg aq) aS.o.2.1;rw[bu.o]at this;exact this);have bp:Sa (Rb 2000 (x:Rat)):=Aa ((Rg aq).mono dM);have bW:=Aa (fun W=>Jm W x (by unfold Bd at aq;omega) (by unfold Bd at aq;omega));have g0:(0:Int)<=(i:Int):=oM;have g1:(i:Int)<(n:Int):=oM;clear bE aY aW hG aE;go_upto_region 8 with (go_at_call 82;refine cM (bW.o wr) ?_;rintro e w3 ⟨r3,rfl,aD,bj⟩;obtain⟨s3,a3,m3,c3,t3,e3,i3,j3,rfl⟩:=aD.form);obtain⟨W3,ao⟩:=gX (w3.alloc (Obj.cells #[Value.int Y s3,Value.slice a3 m3 c3,Value.int Y t3,Value.slice e3 i3 j3] 68));obtain⟨g,ad⟩:=gX w3.heap.size;have X3:Ba wr W3:=by rw[<-ao];exact bj.alloc _
   have ch:QX W3 g (x:Rat):=by rw[<-ao];exact QX.new aD ad.symm
   have an:W3.heap[g]?=J (Obj.cells #[Value.int Y s3,Value.slice a3 m3 c3,Value.int Y t3,Value.slice e3 i3 j3] 68 (0,0)):=by rw[<-ao];exact Ec _ _ _ ad.symm
   have bM:nc W3 (M #[Z Y s3,O a3 m3 c3,Z Y t3,O e3 i3 j3]) (x:Rat):=by rw[<-ao];exact aD.ext ((eR _).alloc _)
   have ct:wr.heap.size<=g:=by rw[<-ad];exact bj.size
   have co:g<W3.heap.size:=Gb an;rw[ao,ad];have C3:Da [(⟨g,0,X⟩,Z Y s3),(⟨g,1,X⟩,O a3 m3 c3),(⟨g,2,X⟩,Z Y t3),(⟨g,3,X⟩,O e3 i3 j3)] W3.drew:=⟨Ca an (i:=0) rfl,Ca an (i:=1) rfl,Ca an (i:=2) rfl,Ca an (i:=3) rfl,trivial⟩;clear ao ad aD bj an c0 g0 g1;refine Vn [(7,14,Obj.cells #[Value.int Y 0,Value.slice X 0 0,Value.int Y 0,Value.slice X 0 0] 68 (0,0))] _ 8 8 (fun i=>decide (7<i)) (fun _=>false) kM kM kM sM kM (by intro x hx;simp only[List.mem_cons,List.not_mem_nil,or_false]at hx;rcases hx with rfl<;>exact⟨_,rfl,rfl,fun a W=>by go_simp⟩) (fun _ _ d _ _ h=>by cases d<;>exact h) C3 (fun j=>?_);refine Wd (i:=0) ?_;refine Wd (i:=1) ?_;refine Wd (i:=3) ?_;refine Wd (i:=4) ?_;refine Gh (i:=2) fun W4 bC al aw K p=>?_;go_simp;refine cM (bm.o W4 _ (x:Rat) (XW.trans (X3.trans ((eR W3).drew.trans al))) (bM.ext ((eR W3).drew.trans al)) bp.o) ?_;rintro e w4 ⟨r4,rfl,ba,bO⟩;obtain⟨s4,a4,m4,c4,t4,e4,i4,j4,rfl⟩:=ba.form;go_wp2;refine kO p (.of al bO) (fun _ _=>?_);clear p K aw;refine Gh (i:=5) fun W5 aI am aw K p=>?_;go_simp;refine cM (bn.o W5 _ (x:Rat) (XW.trans (X3.trans ((eR W3).drew.trans am))) (bM.ext ((eR W3).drew.trans am)) bp.o) ?_;rintro e w5 ⟨r5,rfl,bb,bk⟩;obtain⟨s5,a5,m5,c5,t5,e5,i5,j5,rfl⟩:=bb.form;go_wp2;refine kO p (.of am bk) (fun _ _=>?_);clear p K aw;refine Gh (i:=6) fun W6 ax aK aw K p=>?_;go_simp;(with_reducible refine cM (Dn W6 _ _ (Yd A (x:Rat)) (Yd B (x:Rat)) (ba.ext (aI.trans (bk.trans ax))) (bb.ext ax) (bX.o.mono dM) (bY.o.mono dM)) ?_);rintro e w6 ⟨r6,rfl,bc,bP⟩;obtain⟨s6,a6,m6,c6,t6,e6,i6,j6,rfl⟩:=bc.form;go_wp2;refine kO p (.of aK bP) (fun _ _=>?_);clear p K aw;refine df kM (fun W7 aJ aV=>?_);intro m ak aF _ _;have Y7:Ba W3 W7:=(eR W3).drew.trans aV;have be:=bc.ext aJ;rw[<-b0.o]at be;have aH:QX W7 m 0:=⟨_,_,_,_,_,_,_,_,ak,nc.zero _⟩;have k0:=Ca ak (i:=0) (u:=Z Y 0) rfl;have k1:=Ca ak (i:=1) (u:=O X 0 0) rfl;have k2:=Ca ak (i:=2) (u:=Z Y 0) rfl;have k3:=Ca ak (i:=3) (u:=O X 0 0) rfl;have kf:=Ua ak;clear bO ba bk bb bP bc bC aI ax aJ al am aK;refine Ld (i:=8) fun K p=>?_;go_simp;refine kO p (cE j (by(repeat refine Ba.set ?_ (by exact aF) _);exact aV)) (fun b7=>?_);clear p K;refine Wb ?_;clear k0 k1 k2 k3 kf b7;obtain⟨W8,aU⟩:=gX (((((W7.setCell ⟨m,0,X⟩ (Z Y s6)).setCell ⟨m,1,X⟩ (O a6 m6 c6)).setCell ⟨m,2,X⟩ (Z Y t6)).setCell ⟨m,3,X⟩ (O e6 i6 j6)));have av:=aH.put be;have cl:W3.heap.size<=m:=by simp only[Cc]at aF;exact aF
   have X8:Ba W3 W8:=by rw[<-aU];exact zj Y7 cl _ _ _ _
   rw[aU]at av ⊢;clear aU be aH Y7 aV aF ak C3 j;have XF:Ba wr W8:=X3.trans X8;have R:=bw.o.ext XF;have ac:=aT.o.ext XF;have aA:=ch.ext X8;have aP:=Aa XF;have b8:f+1<g:=by have:=aT.o.rd;obtain⟨_,_,_,_,_,_,_,_,_,_,_,_,_,h9,_⟩:=this;omega
   have b9:f+1<m:=oM;have cm:¬g=f:=oM;have cn:¬m=f:=oM;by_cases a0:i=0
   ·subst a0;have S:=hx;obtain⟨s1,t,m1,y,t1,e1,i1,j1,y0,y1,y2,y3,yf,yz,hy⟩:=av.rd;obtain⟨s2,P,m2,Q,t2,e2,i2,j2,v0,v1,v2,v3,vf,vz,hv⟩:=aA.rd;have ai:=R.rd;have aj:=ac.rd;obtain⟨s5,b2,m5,b4,t5,e5,i5,j5,x0,x1,x2,x3,xf,xz,az⟩:=R.rd;obtain⟨ci,b3,cg,b5,ck,b6,ce,cf,u0,u1,u2,u3,uf,uz,hu⟩:=ac.rd;clear ai aj;go_upto_region 10 with fail;refine Nh (fun i=>decide (2<i)) (Da [(⟨m,0,X⟩,Z Y s1),(⟨m,1,X⟩,O t m1 y),(⟨m,2,X⟩,Z Y t1),(⟨m,3,X⟩,O e1 i1 j1),(⟨g,0,X⟩,Z Y s2),(⟨g,1,X⟩,O P m2 Q),(⟨g,2,X⟩,Z Y t2),(⟨g,3,X⟩,O e2 i2 j2)]) kM ?_ (fun j=>?_)
    ·exact cA
    refine sN 0 ?_
    (iterate 2 refine Yh ?_);refine oN ?_;refine Jc (i:=2) fun K p=>?_;go_simp;refine kO p (fun _=>?_) (fun j=>?_)
    ·exact cA
    clear p K;replace j:=j rfl;refine Jc (i:=3) fun K p=>?_;go_simp;refine kO p (fun h=>nomatch h) (fun j=>?_);clear p K;refine Kb kM ?_ _;obtain⟨ai,aj⟩:=QX.put2 R ac (show f≠f+1 by omega) hy hv;have kX:=zj (zj (Ba.trans ‹Ba w2 _› aP.o) (show w2.heap.size<=f by omega) (Z Y s1) (O t m1 y) (Z Y t1) (O e1 i1 j1)) (show w2.heap.size<=f+1 by omega) (Z Y s2) (O P m2 Q) (Z Y t2) (O e2 i2 j2);go_wp2;go_roundw
    case rel=>exact⟨0+1,(x:Rat),G,by go_num,by rw[Hn.o];omega,fun _=>by rw[vJ bv.o,HG.o],aO.o.mono dM,ai.drew,aj.drew,kX.drew⟩
    case measure=>simp[intOf];omega
   ·have bI:0<i:=oM;(have cq:((i:Int)==0)=false:=by simpa using a0);obtain⟨sa,aa,ma,ca,ta,ea,ia,ja,y0,y1,y2,y3,-,yz,hy⟩:=av.rd;obtain⟨sb,ab,mb,cb,tb,eb,ib,jb,x0,x1,x2,x3,-,xz,az⟩:=R.rd;have aX:=Em W8 _ _ G bg hy az (aO.o.mono dM) (bq.o.mono dM);obtain⟨T,hT⟩:=gX (Eb G bg);rw[hT]at aX;have HT:=Aa hT;have bo:=Aa aX;have bf:=Tr bv.o bI (aG.o bI);rw[HG.o,hT]at bf;have bt:=Aa bf;clear aX hT bf a0;by_cases bB:T<0
    ·(have e9:Xh s L (i+1)=((x:Rat),G):=by rw[bt.o,if_pos bB]);have E9:=Aa e9;clear e9 hy az;go_upto_if 53 with (go_at_call 22;(with_reducible refine bo.o.mono ?_);rintro e w9 ⟨rfl,S⟩);replace av:=av.ext S;replace R:=R.ext S;replace ac:=ac.ext S;replace aA:=aA.ext S;obtain⟨s1,t,m1,y,t1,e1,i1,j1,y0,y1,y2,y3,yf,yz,hy⟩:=av.rd;obtain⟨s2,P,m2,Q,t2,e2,i2,j2,v0,v1,v2,v3,vf,vz,hv⟩:=aA.rd;have ai:=R.rd;have aj:=ac.rd;obtain⟨s5,b2,m5,b4,t5,e5,i5,j5,x0,x1,x2,x3,xf,xz,az⟩:=R.rd;obtain⟨ci,b3,cg,b5,ck,b6,ce,cf,u0,u1,u2,u3,uf,uz,hu⟩:=ac.rd;clear ai aj;go_upto_region 10 with fail;refine Nh (fun i=>decide (2<i)) (Da [(⟨m,0,X⟩,Z Y s1),(⟨m,1,X⟩,O t m1 y),(⟨m,2,X⟩,Z Y t1),(⟨m,3,X⟩,O e1 i1 j1),(⟨g,0,X⟩,Z Y s2),(⟨g,1,X⟩,O P m2 Q),(⟨g,2,X⟩,Z Y t2),(⟨g,3,X⟩,O e2 i2 j2)]) kM ?_ (fun j=>?_)
     ·exact cA
     refine sN 0 ?_
     (iterate 2 refine Yh ?_);refine oN ?_;refine Jc (i:=2) fun K p=>?_;go_simp;refine kO p (fun _=>?_) (fun j=>?_)
     ·exact cA
     clear p K;replace j:=j rfl;refine Jc (i:=3) fun K p=>?_;go_simp;refine kO p (fun h=>nomatch h) (fun j=>?_);clear p K;refine Kb kM ?_ _;obtain⟨ai,aj⟩:=QX.put2 R ac (show f≠f+1 by omega) hy hv;have kX:=zj (zj (Ba.trans ‹Ba w2 _› (aP.o.trans S)) (show w2.heap.size<=f by omega) (Z Y s1) (O t m1 y) (Z Y t1) (O e1 i1 j1)) (show w2.heap.size<=f+1 by omega) (Z Y s2) (O P m2 Q) (Z Y t2) (O e2 i2 j2);go_wp2;go_roundw
     case rel=>exact⟨i+1,(x:Rat),G,by go_num,by rw[Hn.o];omega,fun _=>E9.o,aO.o.mono dM,ai.drew,aj.drew,kX.drew⟩
     case measure=>simp[intOf];omega
    ·(have e9:Xh s L (i+1)=(bx,bg):=by rw[bt.o,if_neg bB]);have E9:=Aa e9;clear e9 hy az;go_wp2_with(go_at_call 22;(with_reducible refine bo.o.mono ?_);rintro e w9 ⟨rfl,S⟩);go_roundw
     case rel=>exact⟨i+1,bx,bg,by go_num,by rw[Hn.o];omega,fun _=>E9.o,bq.o,R.ext S,ac.ext S,hx.trans (aP.o.trans S)⟩
     case measure=>simp[intOf];omega
  ·obtain rfl:i=n:=oM;have hb:=aG.o bz;obtain⟨s1,t,m1,y,t1,e1,i1,j1,y0,y1,y2,y3,yf,yz,hy⟩:=bw.o.rd;obtain⟨s2,P,m2,Q,t2,e2,i2,j2,v0,v1,v2,v3,vf,vz,hv⟩:=aT.o.rd;have af:=hx.e aQ.o;have r:=hx.e aR.o;have q1:QX wr w.heap.size 0:=⟨_,_,_,_,_,_,_,_,af,nc.zero _⟩;have q2:QX wr (w.heap.size+1) 0:=⟨_,_,_,_,_,_,_,_,r,nc.zero _⟩;have o0:=Ca af (i:=0) (u:=Z Y 0) rfl;have o1:=Ca af (i:=1) (u:=O X 0 0) rfl;have o2:=Ca af (i:=2) (u:=Z Y 0) rfl;have o3:=Ca af (i:=3) (u:=O X 0 0) rfl;have of:=Ua af;have k0:=Ca r (i:=0) (u:=Z Y 0) rfl;have k1:=Ca r (i:=1) (u:=O X 0 0) rfl;have k2:=Ca r (i:=2) (u:=Z Y 0) rfl;have k3:=Ca r (i:=3) (u:=O X 0 0) rfl;have kf:=Ua r;have oz:=Gb af;have kz:=Gb r;have cr:¬f=w.heap.size:=oM;have cs:¬f+1=w.heap.size:=oM;have Hb:=Aa hb;have a7:=(Pj [Z Y s1,O t m1 y,Z Y t1,O e1 i1 j1] 0 q1.not).trans (Pj [Z Y s2,O P m2 Q,Z Y t2,O e2 i2 j2] 0 (q2.other4 q1 (show w.heap.size+1≠w.heap.size by omega) (Z Y s1) (O t m1 y) (Z Y t1) (O e1 i1 j1)).not);have P1:=Aa (hy.keep a7);have P2:=Aa (hv.keep a7);have XF:=zj (zj XW (show w.heap.size<=w.heap.size by omega) (Z Y s1) (O t m1 y) (Z Y t1) (O e1 i1 j1)) (show w.heap.size<=w.heap.size+1 by omega) (Z Y s2) (O P m2 Q) (Z Y t2) (O e2 i2 j2);have bZ:=Aa XF;clear hb af r q1 q2 hy hv a7 XF XW hx;go_wp2;refine Nh (fun i=>decide (2<i)) (Da [(⟨f,0,X⟩,Z Y s1),(⟨f,1,X⟩,O t m1 y),(⟨f,2,X⟩,Z Y t1),(⟨f,3,X⟩,O e1 i1 j1),(⟨f+1,0,X⟩,Z Y s2),(⟨f+1,1,X⟩,O P m2 Q),(⟨f+1,2,X⟩,Z Y t2),(⟨f+1,3,X⟩,O e2 i2 j2)]) kM ?_ (fun j=>?_)
   ·exact cA
   refine sN 0 ?_
   iterate 2 refine Yh ?_
   refine oN ?_;refine Jc (i:=2) fun K p=>?_;go_simp;refine kO p (fun _=>?_) (fun j=>?_)
   ·exact cA
   clear p K;replace j:=j rfl;refine Jc (i:=3) fun K p=>?_;go_simp;refine kO p (fun h=>nomatch h) (fun j=>?_);clear p K;refine Kb kM ?_ _;go_wp2;refine bR (v:=F #[M #[Z Y s1,O t m1 y,Z Y t1,O e1 i1 j1],M #[Z Y s2,O P m2 Q,Z Y t2,O e2 i2 j2]]) (by simp[results,Tryz.results43,go_sem,oz,kz,o0,o1,o2,o3,k0,k1,k2,k3]) rfl ⟨_,_,rfl,?_,?_,bZ.o.drew⟩
   ·rw[Hb.o];exact P1.o.ext (eR _).drew
   ·rw[Hb.o];exact P2.o.ext (eR _).drew
def Dw(w:V)(r s:I)(A B:LP)(l:yb w r A)(m:yb w s B)(f:mc A)(i:mc B)(y:Gc A)(z:Gc B)(a:(Nb A B).lo<(Nb A B).hi):Calls Tryz.prog 66 #[r,s] w fun e w'=>e=.returned (C (re A B))/\Ba w w':=by
 have c:re A B=decide (0<=(Ma (Nb A B)).2.num.sign):=by unfold re;rw[if_pos a]
 have t:=Aa (fun W (u:Ba w W)=>KB W r s A B (l.f u) (m.f u) f i y z a);rw[c];obtain⟨g,o⟩:=gX ((Ma (Nb A B)).2);obtain⟨x,v⟩:=gX ((Ma (Nb A B)).1);rw[o,v]at t;rw[o];obtain⟨T,n⟩:=gX g.num.sign;rw[n];have K:=Aa n;obtain⟨a1,n1,c1,rfl⟩:=l.i;obtain⟨a2,n2,c2,rfl⟩:=m.i;clear o v n l m f i y z a c;go_in;go_wp2_with(first|(go_at_call 43;refine cM (t.o w (eR _)) ?_;rintro e w1 ⟨v1,v2,rfl,d,p,S⟩;obtain⟨s1,j,m1,k,t1,R,i1,j1,rfl⟩:=d.form;obtain⟨s2,P,m2,Q,t2,e2,i2,j2,rfl⟩:=p.form)|(go_at_call 140;(with_reducible refine(No _ (M #[Z Y s1,O j m1 k,Z Y t1,O R i1 j1]) g ?_).mono ?_);(exact d.ext (((eR w1).alloc _).alloc _));rw[K.o];rintro e w3 ⟨rfl,aa⟩));go_ret;exact⟨rfl,eA⟩
def Ql(N D:Int):Rat:=Rat.divInt N (if D=0 then 1 else D)
def mn{n:Int}(a:-9223372036854775808<=n)(c:n<=9223372036854775807):Lm 3 n:=by unfold Lm B;omega
def zI{N D:Int}(a:-9223372036854775808<=N)(c:N<=9223372036854775807)(d:-9223372036854775808<=D)(e:D<=9223372036854775807):Rb 6 (Ql N D):=by unfold Ql;rw[Rat.divInt_eq_div];exact Rb.div (Rb.int (mn a c) dM) (Rb.int (k:=3) (mn (by split<;>omega) (by split<;>omega)) dM) dM
def Js(w:V)(q:Rat)(e:Ending)(w':V):Prop:=∃r s,e=.returned (F #[r,s])/\Ab w' r q/\nc w' s q/\Ba w w'
def TI(w:V)(n d:Int)(k:-9223372036854775808<=n)(l:n<=9223372036854775807)(m:-9223372036854775808<=d)(o:d<=9223372036854775807)(z:d≠0):Calls Tryz.prog 73 #[Z Y n,Z Y d] w fun e Q=>∃r,e=.returned (F #[r,Z Y 0])/\Ab Q r (Rat.divInt n d)/\Ba w Q:=by have T:=Aa (fun(W:V)=>Rq W n k l);have S:=Aa (fun(W:V)=>Rq W d m o);have y:=Aa (fun(W:V)(K P:I)(h4:vd W K n)(h5:vd W P d)=>qA W K P n d h4 h5 ((mn k l).mono dM) ((mn m o).mono dM));rw[if_neg z]at y;clear k l m o z;go_in;go_wp2_with(first|(go_at_call 137;(with_reducible refine(T.o _).mono ?_);rintro e w1 ⟨r1,rfl,a,u⟩;obtain⟨a1,m1,c1,s1,rfl⟩:=a.form;obtain⟨⟨p,aa⟩,i⟩:=Md w u)|(go_at_call 137;(with_reducible refine(S.o _).mono ?_);rintro e w2 ⟨r2,rfl,c,g⟩;obtain⟨a2,m2,c2,s2,rfl⟩:=c.form;obtain⟨⟨s,ab⟩,j⟩:=Md w g)|(go_at_call 145;refine cM (y.o _ _ _ (a.ext g) c) ?_;rintro e w3 ⟨r3,rfl,f,x⟩;obtain⟨a3,m3,c3,s3,b3,n3,k3,rfl⟩:=f.form;obtain⟨⟨t,ac⟩,R⟩:=Md w x));refine bR (v:=F #[M #[O a3 m3 c3,C s3,O b3 n3 k3],Z Y 0]) (by simp[results,Tryz.results73,go_sem,p,s,t,i,j]) rfl ⟨_,rfl,f.keep kA,eA⟩
def YL{W:V}{b b':Nat}{p q q':Rat}{s t:Int}{a e:Option Addr}{m c i j:Nat}{f g:Option Addr}{n k o c2:Nat}{r:Bool}(h:RB W b q)(K:QX W b' q')(P:b≠b')(Q:Ab W (M #[O f n k,C r,O g o c2]) p)(R:nc W (M #[Z Y s,O a m c,Z Y t,O e i j]) p):∀W',(((((((W.setCell ⟨b,0,X⟩ (O f n k)).setCell ⟨b,1,X⟩ (C r)).setCell ⟨b,2,X⟩ (O g o c2)).setCell ⟨b',0,X⟩ (Z Y s)).setCell ⟨b',1,X⟩ (O a m c)).setCell ⟨b',2,X⟩ (Z Y t)).setCell ⟨b',3,X⟩ (O e i j))=W' ->Ab W' (M #[O f n k,C r,O g o c2]) p/\nc W' (M #[Z Y s,O a m c,Z Y t,O e i j]) p/\∀w,Ba w W->w.heap.size<=b->w.heap.size<=b'->Ba w W':=by
 rintro W' rfl;have nb:∀T,T≠63->ld T W b:=fun T v=>by
  obtain⟨_,_,_,_,_,_,_,d,_⟩:=h;intro y z e;rw[d]at e;cases e;exact v rfl
 have x:∀T,T≠68->ld T W b':=fun T v=>by
  obtain⟨_,_,_,_,_,_,_,_,d,_⟩:=K;intro y z e;rw[d]at e;cases e;exact v rfl
 have l:∀T,T≠63->T≠68->Ia T W (Ig (Ig W b 0 [O f n k,C r,O g o c2]) b' 0 [Z Y s,O a m c,Z Y t,O e i j]):=fun T d u =>
  (Pj _ 0 (nb T d)).trans (Pj _ 0 (((x T u).set _ _).set _ _ |>.set _ _))
 exact⟨Q.keep (l _ dM dM),R.keep (l _ dM dM),fun w S d u=>Gn u [Z Y s,O a m c,Z Y t,O e i j] 0 (Gn d [O f n k,C r,O g o c2] 0 S)⟩
def ZR(w:V)(N d:Int)(W:V):Prop:=
 W.heap[w.heap.size]?=J (E #[Z Y N,Z Y d] 53 (0,0))/\RB W (w.heap.size+1) 0/\QX W (w.heap.size+1+1) 0/\Ba w W
def uL(w:V)(N D:Int)(h0:-9223372036854775808<=N)(h1:N<=9223372036854775807)(h2:-9223372036854775808<=D)(h3:D<=9223372036854775807):Calls Tryz.prog 17 #[M #[Z Y N,Z Y D]] w (Js w (Ql N D)):=by
 obtain⟨d,hd⟩:=gX ((if D=0 then 1 else D));have Q:d≠0:=by rw[<-hd];split<;>omega
 have R:-9223372036854775808<=d:=by rw[<-hd];split<;>omega
 have S:d<=9223372036854775807:=by rw[<-hd];split<;>omega
 have HR:=Aa (fun W=>TI W N d h0 h1 R S Q);have HQ:=Aa (fun W=>RD W N d h0 h1 R S Q);unfold Ql;rw[hd];obtain⟨q,hq⟩:=gX (Rat.divInt N d);rw[hq]at HR HQ ⊢;have Hd:=Aa hd;clear hd Q R S h0 h1 h2 h3 hq;go_in;go_upto_if 8 with fail;obtain⟨W0,g⟩:=gX (((w.alloc (E #[Z Y N,Z Y D] 53)).alloc (E #[O X 0 0,C false,O X 0 0] 63)).alloc (E #[Z Y 0,O X 0 0,Z Y 0,O X 0 0] 68));have X0:Ba w W0:=by rw[<-g];exact(((eR w).alloc _).alloc _).alloc _
 have k:W0.heap[w.heap.size]?=J (E #[Z Y N,Z Y D] 53 (0,0)):=by rw[<-g];exact(((eR _).alloc _).alloc _).e (aN w _)
 have r0:RB W0 (w.heap.size+1) 0:=by rw[<-g];exact(RB.new (Ab.zero _) sM).ext ((eR _).alloc _)
 have q0:QX W0 (w.heap.size+1+1) 0:=by rw[<-g];exact QX.new (nc.zero _) sM
 have c1:=Ca k (i:=1) (u:=Z Y D) rfl;have f1:=Ua k 1;have z1:=Gb k;rw[g];clear g;go_cut [] (fun W=>ZR w N d W)
 case first =>
  by_cases hD:D=0
  ·subst hD;obtain rfl:1=d:=Hd.o;clear Hd;go_wp2;go_meet;have nn:∀T,T≠53->ld T W0 w.heap.size:=fun T hT cs fr e=>by rw[k]at e;cases e;exact hT rfl
   refine⟨Pk k 1 _,r0.other (p:=⟨w.heap.size,1,X⟩) dO (nn _ dM) _,?_,X0.set (p:=⟨w.heap.size,1,X⟩) (nE _) _⟩;obtain⟨s,a,m,c,t,e,i,j,g1,g2⟩:=q0;exact⟨s,a,m,c,t,e,i,j,(bS _ _ _ _ dO).trans g1,g2.keep ((Ia.refl _ W0).x (p:=⟨w.heap.size,1,X⟩) (nn _ dM) _)⟩
  ·obtain rfl:D=d:=by have:=Hd.o;rwa [if_neg hD]at this
   clear Hd;go_wp2;go_meet;exact⟨k,r0,q0,X0⟩
 case rest =>
  clear k r0 q0 c1 f1 z1 X0 Hd;obtain⟨k,r0,q0,X0⟩:=hcut;have c0:=Ca k (i:=0) (u:=Z Y N) rfl;have c1:=Ca k (i:=1) (u:=Z Y d) rfl;have af:=Aa X0;have z1:=Gb k;go_upto_region 4 with (go_at_call 73;refine cM (HR.o _) ?_;rintro e w3 ⟨r3,rfl,ab,ad⟩;obtain⟨n,m3,x,s3,o,n3,y,rfl⟩:=ab.form);obtain⟨W4,l⟩:=gX (w3.alloc (E #[O n m3 x,C s3,O o n3 y] 63));have X4:Ba wc W4:=by rw[<-l];exact ad.alloc _
  have r4:=r0.ext X4;have q4:=q0.ext X4;have e0:=X4.d c0;have e1:=X4.d c1;have ag:Ab W4 (M #[O n m3 x,C s3,O o n3 y]) q:=by rw[<-l];exact ab.ext ((eR _).alloc _)
  have kk:W4.heap[w3.heap.size]?=J (E #[O n m3 x,C s3,O o n3 y] 63 (0,0)):=by rw[<-l];exact aN w3 _
  have e2:=Ca kk (i:=0) (u:=O n m3 x) rfl;have aj:=Ca kk (i:=1) (u:=C s3) rfl;have e4:=Ca kk (i:=2) (u:=O o n3 y) rfl;obtain⟨r,z⟩:=gX w3.heap.size;have zb:wc.heap.size<=r:=by rw[<-z];exact ad.size
  have z2:w.heap.size+1+1<wc.heap.size:=by obtain⟨_,_,_,_,_,_,_,_,g1,_⟩:=q0;exact Gb g1
  rw[l];rw[z]at e2 aj e4 ⊢;have ah:=Aa (af.o.trans X4);clear l z kk ab ad k r0 q0 c0 c1 X0 af X4;have aa:∀b,b=w.heap.size+1\/b=w.heap.size+1+1->∀q∈[((⟨w.heap.size,0,X⟩:Addr),Value.int Y N),(⟨w.heap.size,1,X⟩,Z Y d),(⟨r,0,X⟩,O n m3 x),(⟨r,1,X⟩,C s3),(⟨r,2,X⟩,O o n3 y)],b≠q.1.block:=by
   intro b hb q hq;simp at hq;rcases hq with rfl|rfl|rfl|rfl|rfl<;>(dsimp only;omega)
  refine Kc [(⟨w.heap.size,0,X⟩,Z Y N),(⟨w.heap.size,1,X⟩,Z Y d),(⟨r,0,X⟩,O n m3 x),(⟨r,1,X⟩,C s3),(⟨r,2,X⟩,O o n3 y)] cA fun f=>?_;refine sN 0 ?_
  iterate 5 refine xb ?_
  refine oN ?_;refine Ub (i:=5) (HQ.o _) ?_;rintro e w5 ⟨r5,rfl,ac,ae⟩;obtain⟨s5,a5,m5,c5,t5,i5,j5,l5,rfl⟩:=ac.form;refine⟨_,rfl,(cE f ae),fun f=>?_⟩;have X5:Ba W4 w5:=(eR W4).drew.trans ae;have R5:=r4.ext X5;have Q5:=q4.ext X5;have P:=Aa (YL R5 Q5 oM (ag.ext X5) ac);have ai:=Aa (ah.o.trans X5);obtain⟨_,_,_,_,_,_,_,x0,x1,x2,ak,al,am,xz,_⟩:=R5.rd;obtain⟨_,_,_,_,_,_,_,_,y0,y1,y2,y3,yf,yz,_⟩:=Q5.rd;have an:=yf 0;have ao:=yf 1;have ap:=yf 2;have aq:=yf 3;clear ae X5 r4 q4 ag ac R5 Q5 yf;refine Ld (i:=6) fun K hK=>?_;go_simp;refine kO hK (Da.set3 f (aa _ (.inl rfl)) _ _ _) (fun f=>?_);clear hK K;refine Ld (i:=7) fun K hK=>?_;go_simp;refine kO hK (Da.set (Da.set3 f (aa _ (.inr rfl)) _ _ _) (aa _ (.inr rfl)) _) (fun f=>?_);clear hK K;refine Wb ?_;go_wp2;refine bR (v:=F #[M #[O n m3 x,C s3,O o n3 y],M #[Z Y s5,O a5 m5 c5,Z Y t5,O i5 j5 l5]]) (by simp[results,Tryz.results17,go_sem,x0,x1,x2,ak,al,am,y0,y1,y2,y3,an,ao,ap,aq]) rfl ?_;obtain⟨P1,P2,P3⟩:=P.o _ rfl;exact⟨_,_,rfl,P1,P2,P3 w ai.o oM oM⟩
