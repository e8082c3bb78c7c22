import Derived.Test.YthgbjoahfnjadaaGreatDoorCopA17
import Derived.Laws.StructEq
import Derived.Sort.LoopGhostIn
import Derived.Laws.EntriesVeiled
set_option maxRecDepth 1000000
set_option maxHeartbeats 16000000
set_option linter.all false
open Go.Value renaming slice->O,int->I,bool->A,pointer->Ob,agg->Oc
open Option renaming none->Z,some->H
open Go renaming World->M,Value->U,Addr->Od
open Go.IntKind renaming i64->N
open Go.Obj renaming cells->Oa
namespace Go.Proofs.YthgbjoahfnjadaaGreatDoor.Cop
section
open Go.RowKit Go.Shelf Go.Sort Go.Lib
attribute [local go_sem] Oper.semAt_some
def je(w:M)(base:Nat)(v:U)(ts:List LP):Prop:=∃cs,Ga 107 1 w base v cs/\cs.length=ts.length/\∀(i:Nat) c t,cs[i]?=H c->ts[i]?=H t->Ii 107 w c t
def je.sl{w:M}{base:Nat}{v:U}{ts:List LP}(h:je w base v ts):Sl 107 1 (Ii 107) w v ts:=by obtain⟨d,a,b,c⟩:=h;exact a.sl b c
def Ii.ext{w w':M}{c:List U}{t:LP}(h:Ii 107 w c t)(k:oa w w'):Ii 107 w' c t:=by obtain⟨v,e,h⟩:=h;exact⟨v,e,h.i k⟩
def Ii.keep{w w':M}{c:List U}{t:LP}(h:Ii 107 w c t)(k:Fa 55 w w'):Ii 107 w' c t:=by obtain⟨v,e,h⟩:=h;exact⟨v,e,h.G k⟩
def je.ext{w w':M}{base:Nat}{v:U}{ts:List LP}(h:je w base v ts)(k:oa w w'):je w' base v ts:=by obtain⟨a,b,d,e⟩:=h;exact⟨a,b.ext k,d,fun i c p f g=>(e i c p f g).ext k⟩
def je.j{w:M}{base:Nat}{v:U}{ts:List LP}(h:je w base v ts):∃a n c,v=O a n c:=by obtain⟨d,b,_⟩:=h;exact b.j
def je.lt{w:M}{base:Nat}{v:U}{ts:List LP}(h:je w base v ts):∀j,v.ownBlock=H j->base<=j/\j<w.heap.size:=by obtain⟨b,a,_⟩:=h;exact a.lt
def je.one{w:M}{a:Option Od}{n c:Nat}{t:LP}(h:Aa w (O a n c) t):je (w.alloc (Oa #[O a n c] 107)) w.heap.size (O (H ⟨w.heap.size,0,Z⟩) 1 1) [t]:=by
 refine⟨[[O a n c]],⟨fun c f=>by rw[List.mem_singleton.1 f];rfl,⟨by simp,.inr ⟨w.heap.size,1,#[O a n c],rfl,nE _,aN w _,by simp,by simp[maxLen],by simp,by simp⟩⟩⟩,rfl,fun i d x b e=>?_⟩
 match i,b,e with
 | 0,b,e =>
  simp at b e;subst b e;exact⟨_,rfl,h.i ((eR w).alloc _)⟩
 | i+1,b,_=>simp at b
def je.app{wr e:M}{base:Nat}{j:U}{ts:List LP}{cs:List (List U)}{d:List U}{t:LP}(h:Ga 107 1 e base j (cs++[d]))(f:cs.length=ts.length)(g:∀(i:Nat) c p,cs[i]?=H c->ts[i]?=H p->Ii 107 wr c p)(l:Fa 55 wr e)(k:Ii 107 e d t):je e base j (ts++[t]):=by
 refine⟨cs++[d],h,by simp[f],fun i c x a b=>?_⟩;by_cases hi:i<cs.length
 ·rw[List.getElem?_append_left hi]at a;rw[List.getElem?_append_left oM]at b;exact(g i c x a b).keep l
 ·rw[List.getElem?_append_right oM]at a b;have m:=(lS.1 a).1;simp at m;have:i-cs.length=0:=oM;rw[this]at a;rw[show i-ts.length=0 by omega]at b;simp at a b;subst a b;exact k
def DI:(Tryz.prog.info? 107).map (fun i=>(i.zero,i.size,i.bytes))=H (H (O Z 0 0),1,24):=kM
def vG{g:LP}{ps:List Pl}{p o:Pl}{i:Nat}(h:ps[i]?=H o):Cd g (ps.take (i+1)) p=Cd g (ps.take i) p++(if (jd p o&&Ee p o==3)=true then [Ra o]else []):=by
 unfold Cd;rw[Xf _ _ _ h,List.filter_append,List.map_append,List.cons_append]
 congr 2
 by_cases c:(jd p o&&Ee p o==3)=true
 ·rw[if_pos c];simp only[List.filter,c,List.map_cons,List.map_nil]
 ·rw[if_neg c];rw[Bool.not_eq_true]at c;simp only[List.filter,c,List.map_nil]
def BM(a:M)(g:LP)(ps:List Pl)(p:Pl)(b:Nat)(t9 t51:U)(W:M):Prop:=
 ∃i:Nat,i<=ps.length/\t51=I N i/\b=ps.length-i/\oa a W/\je W a.heap.size t9 (Cd g (ps.take i) p)
def iI(w:M)(vg vp v:U)(g:LP)(ps:List Pl)(p:Pl)(hg:Aa w vg g)(hp:td w vp ps)(hv:Aa w v p.shape)(hk:0<=p.skin)(aR:Gw w)(h0:pb g ps=0)(u:Ea p=true)(e1:fe g p=true)(e2:ps.any (qg p.name)=false)(e3:kd g ps p=true):Calls Tryz.prog 39 #[Oc #[vg,vp],Oc (pe p v)] w (Gm w g ps p):=by
 obtain⟨K,_,a8⟩:=Ui h0;have an:=pp a8;have HL:=ia (fun(W:M)(j:oa w W)=>Et (hg.i j) (hp.i j) (aR.ext j) h0);have HK:=ia (fun(W:M)(j:oa w W)=>Bs W p _ (hv.i j) hk);rw[if_pos u]at HK;have HO:=ia (fun(W:M)(j:oa w W)=>Rr W p _ (hv.i j) u (aR.ext j));have HH:=ia (fun(W:M)(j:oa w W)(vs:U)(hs:∃a n c,vs=O a n c)(vp:U)(h:Qd W vp p)=>oA W vg vs vp g p (hg.i j) hs h an u);have HN:=ia (fun(W:M)(j:oa w W)(vs:U)(hs:Ub W vs ps)=>WB W vg vs ps p.name (Ia hg) hs);have HC:=ia (fun(W:M)(j:oa w W)(vs:U)(hs:Ub W vs ps)(vp:U)(h:Qd W vp p)=>yA W vg vs vp g ps p (hg.i j) hs h an K u);have a0:=ia (fun(W:M)(v1 v2:U)(o:Pl)(h1:Qd W v1 p)(h2:Qd W v2 o)(hm:o∈ps)=>Pu W v1 v2 p o h1 h2 u (K o hm));have aZ:=ia (And.intro h0 (And.intro u (And.intro e1 e3)));have aK:=ia (rj u).1;have aL:=ia (fun o (hm:o∈ps)=>(rj (K o hm)).2);have aJ:=ia an;have Hv:=ia hv;have Hg:=ia hg;have HE:zc (nh g ps p=0):=ia (by
  unfold nh;rw[if_neg (fun h9=>h9 h0),if_neg (by rw[u];decide),if_neg (by rw[e1];decide),if_neg (by rw[e2];decide),if_neg (by rw[e3];decide)])
 obtain⟨ga,gn,gc,rfl⟩:=Ia hg;obtain⟨pa,pn,cC,rfl⟩:=Ia hp;obtain⟨sa,sn,al,rfl⟩:=Ia hv;obtain⟨R,hR⟩:=gX (Gm w g ps p);rw[hR];have HR:=ia hR;rw[e1]at HH;rw[e2]at HN;rw[e3]at HC;clear h0 u hg hp hv hk aR hR K a8 an e1 e2 e3;have Ep:p=p:=rfl;unfold pe at HK HO ⊢;unfold Rk Jd at HO;go_in;go_upto_region 13 with (first|(go_at_call 43;refine cM (HL.o _ eA) ?_;rintro e w4 ⟨va,vn,vc,rfl,ao,aT⟩;obtain⟨bv,bC⟩:=aT.cells;(have z4:=aT.size);(simp only[wZ]at z4);(have bT:w.heap.size+1<w4.heap.size:=oM);(have bU:w.heap.size+1<w4.heap.size+1:=oM))|(go_at_call 103;refine cM (HK.o _ eA) ?_;rintro e w5 ⟨rfl,aU⟩;obtain⟨bw,bD⟩:=aU.cells;(have z5:=aU.size);(simp only[wZ]at z5);(have bV:w.heap.size+1<w5.heap.size:=oM);(have bW:w4.heap.size<w5.heap.size:=oM))|(go_at_call 104;refine cM (HO.o _ eA) ?_;rintro e w6 ⟨vl,vu,rfl,ag,ah,aV⟩;obtain⟨ai,ak,aj,rfl⟩:=Ia ag;obtain⟨aq,au,ar,rfl⟩:=Ia ah;obtain⟨bx,bE⟩:=aV.cells;(have z6:=aV.size);(have bX:w.heap.size+1<w6.heap.size:=oM);(have bY:w4.heap.size<w6.heap.size:=oM);(have bZ:w4.heap.size<w6.heap.size+1:=oM);(have b0:w.heap.size+1<w6.heap.size+1:=oM))|(go_at_call 105;refine cM (HH.o _ eA _ ?_ _ ?_) ?_;(exact⟨_,_,_,rfl⟩);(exact⟨_,_,_,rfl,oa.isPts (w:=w) Hv.o eA,ag.i eA,ah.i eA⟩);rintro e w7 ⟨rfl,aW⟩;obtain⟨bz,bF⟩:=aW.cells;(have z7:=aW.size);(simp only[wZ]at z7);(have b1:w.heap.size+1<w7.heap.size:=oM);(have b2:w4.heap.size<w7.heap.size:=oM);(have b3:w6.heap.size<w7.heap.size:=oM))|(go_at_call 106;refine cM (HN.o _ eA _ ?_) ?_;(exact ao.i eA);rintro e w8 ⟨rfl,aX⟩;obtain⟨bA,bG⟩:=aX.cells;(have z8:=aX.size);(have b5:w.heap.size+1<w8.heap.size:=oM);(have b7:w4.heap.size<w8.heap.size:=oM);(have b9:w6.heap.size<w8.heap.size:=oM))|(go_at_call 107;refine cM (HC.o _ eA _ ?_ _ ?_) ?_;(exact ao.i eA);(exact⟨_,_,_,rfl,oa.isPts (w:=w) Hv.o eA,ag.i eA,ah.i eA⟩);rintro e w9 ⟨rfl,aY⟩;obtain⟨bB,bH⟩:=aY.cells;(have z9:=aY.size)));have K6:w9.heap[w4.heap.size]?=H (Oa #[O ga gn gc,O va vn vc] 110 (0,0)):=
  oa.e (a:=w4.alloc (Oa #[O ga gn gc,O va vn vc] 110)) eA (aN _ _)
 have s:w9.heap[w6.heap.size]?=H (Oa #[.string p.name,O sa sn al,I N p.depth,I N p.density,I N p.gx,I N p.gz,I N p.way,I N p.ax,I N p.az,I .u8 p.skin,O ai ak aj,O aq au ar] 118 (0,0)):=
  oa.e (a:=w6.alloc (Oa #[.string p.name,O sa sn al,I N p.depth,I N p.density,I N p.gx,I N p.gz,I N p.way,I N p.ax,I N p.az,I .u8 p.skin,O ai ak aj,O aq au ar] 118)) eA (aN _ _)
 have ab:Ub w9 (O va vn vc) ps:=ao.i eA;have aE:Qd w9 (Oc #[.string p.name,O sa sn al,I N p.depth,I N p.density,I N p.gx,I N p.gz,I N p.way,I N p.ax,I N p.az,I .u8 p.skin,O ai ak aj,O aq au ar]) p:=⟨_,_,_,rfl,oa.isPts (w:=w) Hv.o eA,ag.i eA,ah.i eA⟩;have X9:oa w w9:=eA;obtain⟨b6,aM⟩:=gX w4.heap.size;obtain⟨b8,aO⟩:=gX w6.heap.size;rw[aM]at K6;rw[aO]at s;have y6:b6<w9.heap.size:=jc K6;have y8:b8<w9.heap.size:=jc s;have ci:=ia K6;have bi:=ia s;have H9:=ia X9;have bj:=ia ab;have a2:=ia aE;have cx:=ja K6 0 (O ga gn gc);have cy:=ja K6 1 (O va vn vc);have aS:vn=ps.length:=ab.len;have be:=ab.le;have Hn:=ia aS;have cv:vn<=9223372036854775807:=by rw[aS];unfold maxLen at be;omega
 simp only[aM,aO];clear bv bC z4 bT bU bw bD z5 bV bW bx bE z6 bX bY bZ b0 bz bF z7 b1 b2 b3 bA bG z8 b5 b7 b9 bB bH z9 aT aU aV aW aX aY ao ag ah ab aE K6 s X9 aM aO aS be HL HK HO HH HN HC Ep;go_wp2;go_loopg [9,51] vn (BM w9 g ps p)
 case atStart =>
  refine⟨0,Nat.zero_le _,rfl,by rw[Hn.o];rfl,(eR _).alloc _,?_⟩;exact je.one (oa.isPts (w:=w) Hg.o H9.o)
 case round =>
  obtain⟨i,hi,rfl,rfl,hx,af⟩:=hrel;rw[<-Hn.o]at hi;have Hx:=ia hx;have l:=ia af;obtain⟨xa,xn,xc,rfl⟩:=af.j;have s:=hx.e bi.o;have p0:=ja s 0 (.string p.name);have p1:=ja s 1 (O sa sn al);have p2:=ja s 2 (I N p.depth);have p3:=ja s 3 (I N p.density);have p4:=ja s 4 (I N p.gx);have p5:=ja s 5 (I N p.gz);have p6:=ja s 6 (I N p.way);have p7:=ja s 7 (I N p.ax);have p8:=ja s 8 (I N p.az);have p9:=ja s 9 (I .u8 p.skin);have bM:=ja s 10 (O ai ak aj);have cB:=ja s 11 (O aq au ar);have yw:b8<wr.heap.size:=jc s;have yx:=hx.size;by_cases bI:i<vn
  ·obtain⟨o,ho⟩:∃o,ps[i]?=H o:=⟨ps[i]'(by rw[<-Hn.o];omega),by simp[<-Hn.o,bI]⟩;obtain⟨b,q,s1,l1,u1,rfl,hb,d1,d2,d3,hc⟩:=(bj.o.i hx).at' ho;have bq:=ia (lM ho);have Ho:=ia ho;have bm:=ia d3;have HM:=ia (fun(W:M)=>jo W p o (O sa sn al) s1 ⟨_,_,_,rfl⟩ (Ia d1));have ac:=ia (fun(W:M)(j:oa wr W)=>a0.o W _ (Oc (Jd o s1 l1 u1)) o (a2.o.ext (Hx.o.trans j)) ⟨_,_,_,rfl,d1.i j,d2.i j,d3.i j⟩ bq.o);obtain⟨bN,bP,bO,rfl⟩:=Ia d1;obtain⟨bJ,bL,bK,rfl⟩:=Ia d2;obtain⟨av,ay,aw,rfl⟩:=Ia d3;obtain⟨mb,f1⟩:=gX (jd p o);obtain⟨rl,f2⟩:=gX (Ee p o);have ht:Cd g (ps.take (i+1)) p=Cd g (ps.take i) p++(if (mb&&rl==3)=true then [Ra o]else []):=by rw[vG ho,f1,f2]
   have Ht:=ia ht;rw[f1]at HM;rw[f2]at ac;unfold pe at HM;unfold Jd at ac;have bs:=hc 0 (.string o.name) rfl;have cl:=hc 1 (O bN bP bO) rfl;have cm:=hc 2 (I N o.depth) rfl;have cn:=hc 3 (I N o.density) rfl;have co:=hc 4 (I N o.gx) rfl;have cp:=hc 5 (I N o.gz) rfl;have cq:=hc 6 (I N o.way) rfl;have cr:=hc 7 (I N o.ax) rfl;have ct:=hc 8 (I N o.az) rfl;have cu:=hc 9 (I .u8 o.skin) rfl;have ca:=hc 10 (O bJ bL bK) rfl;have cb:=hc 11 (O av ay aw) rfl;simp only[Nat.add_zero]at bs;clear hc ho d1 d2 d3 f1 f2 ht s af hx;cases mb with
   |false=>
    go_wp2_with(first|(go_at_call 108;refine cM (HM.o _) ?_;rintro e x ⟨rfl,d⟩;obtain⟨aA,aC⟩:=d.cells;(have am:=d.size);(simp only[wZ]at am);(have aF:b8<x.heap.size:=oM);(have aG:wr.heap.size<x.heap.size:=oM);(have aH:b8<wr.heap.size+1:=oM))|(go_at_call 85;refine cM (ac.o _ eA) ?_;rintro e y ⟨rfl,f⟩;obtain⟨aB,aD⟩:=f.cells;(have bh:=f.size);(have aI:wr.heap.size<y.heap.size:=oM)));go_roundg (ps.length-(i+1))
    case measure=>have:=Hn.o;omega
    case rel=>exact⟨i+1,by have:=Hn.o;omega,by go_num,rfl,Hx.o.trans eA,by rw[Ht.o,Bool.false_and,if_neg dM,List.append_nil];exact l.o.ext eA⟩
   |true=>
    by_cases h3:rl=3
    ·subst h3;obtain⟨cs,a7,aP,a6⟩:=l.o;have a1:=ia a7;have bl:=ia a6;have bk:=ia aP;have bp:=ia (show cs.length+1<=100000000000 by
      rw[aP];unfold Cd;have h8:=List.length_filter_le (fun o=>jd p o&&Ee p o==3) (ps.take i);rw[List.length_cons,lL];rw[List.length_take]at h8;omega)
     clear a7 a6 aP;go_wp2_with(first|(go_at_call 108;refine cM (HM.o _) ?_;rintro e x ⟨rfl,d⟩;obtain⟨aA,aC⟩:=d.cells;(have am:=d.size);(simp only[wZ]at am);(have aF:b8<x.heap.size:=oM);(have aG:wr.heap.size<x.heap.size:=oM);(have aH:b8<wr.heap.size+1:=oM))|(go_at_call 85;refine cM (ac.o _ eA) ?_;rintro e y ⟨rfl,f⟩;obtain⟨aB,aD⟩:=f.cells;(have bh:=f.size);(have aI:wr.heap.size<y.heap.size:=oM))|(at_builtin;refine kj (T:=107) (t:=183) (z:=O Z 0 0) (k:=1) (bytes:=24) (base:=w9.heap.size) (v:=O xa xn xc) (cs:=cs) (m:=1) (c:=1) (ad:=⟨y.heap.size,0,Z⟩) DI rfl dM dM Tryz.underlying183 rfl _ _ rfl rfl (a1.o.ext eA) rfl [[O av ay aw]] rfl sM (by exact yr y #[O av ay aw] 107) (by simp[Value.oneCell']) bp.o (by simp only[wZ];omega) ?_;intro v' cD aa ae cg;obtain⟨cj,cz,ck,rfl⟩:=aa.j));go_roundg (ps.length-(i+1))
     case measure=>have:=Hn.o;omega
     case rel =>
      have ap:oa wr (y.alloc (Oa #[O av ay aw] 107)):=eA;have a3:=a1.o.ext ap;have bu:=Ch (base:=w9.heap.size) ae (by simp only[wZ];omega) (fun k hk=>(a3.lt k hk).1);have a9:=a3.keepT (T':=55) dM ae;refine⟨i+1,by have:=Hn.o;omega,by go_num,rfl,(Hx.o.trans ap).E bu (nE _),?_⟩;rw[Ht.o,if_pos dM];exact je.app aa bk.o bl.o (ap.keep.trans a9) ⟨_,rfl,(bm.o.i ap).G a9⟩
    ·(have bt:(rl==3)=false:=by simpa using h3);go_wp2_with(first|(go_at_call 108;refine cM (HM.o _) ?_;rintro e x ⟨rfl,d⟩;obtain⟨aA,aC⟩:=d.cells;(have am:=d.size);(simp only[wZ]at am);(have aF:b8<x.heap.size:=oM);(have aG:wr.heap.size<x.heap.size:=oM);(have aH:b8<wr.heap.size+1:=oM))|(go_at_call 85;refine cM (ac.o _ eA) ?_;rintro e y ⟨rfl,f⟩;obtain⟨aB,aD⟩:=f.cells;(have bh:=f.size);(have aI:wr.heap.size<y.heap.size:=oM)));go_roundg (ps.length-(i+1))
     case measure=>have:=Hn.o;omega
     case rel=>exact⟨i+1,by have:=Hn.o;omega,by go_num,rfl,Hx.o.trans eA,by rw[Ht.o,Bool.true_and,bt,if_neg dM,List.append_nil];exact l.o.ext eA⟩
  ·obtain rfl:i=vn:=oM;have e:ps.take i=ps:=lT (by rw[<-Hn.o];exact nE _);rw[e]at l;obtain⟨D0,D1,D2,D3⟩:=aZ.o;obtain⟨q1,q2,q3⟩:=VD D0 D1 D2 D3;have HB:=ia (fun(W:M)(j:oa wr W)=>UI W (O xa xn xc) b8 (O ai ak aj) (za p) (Cd g ps p) ((l.o.ext j).sl) (j.d bM) (by
    obtain⟨s9,l9,u9,e9,_,h9,_⟩:=a2.o;unfold Jd at e9;cases e9;exact h9.i (Hx.o.trans j)) aK.o (fun t ht=>by
     unfold Cd at ht;rcases List.mem_cons.1 ht with e8|ht
     ·rw[e8];exact aJ.o
     ·obtain⟨o,ho,rfl⟩:=List.mem_map.1 ht;exact aL.o o (List.mem_filter.1 ho).1))
   have bd:Rb 23 (Bf g ps p):=Rb.minG fun t ht=>Rb.gapT aK.o (by
     unfold Cd at ht;rcases List.mem_cons.1 ht with e8|ht
     ·rw[e8];exact aJ.o
     ·obtain⟨o,ho,rfl⟩:=List.mem_map.1 ht;exact aL.o o (List.mem_filter.1 ho).1)
   rw[show Gf (jf (za p)) (Cd g ps p)=Bf g ps p from rfl]at HB;have HF:=ia (fun(W:M)(v:U)(hv:La W v (Bf g ps p))=>SJ W v (Bf g ps p) hv (bd.mono dM) (Rat.num_nonneg.2 q1));rw[show (Bf g ps p).floor=Cf g ps p from rfl]at HF;have HI:=ia (fun(W:M)(v:U)(hv:Nc W v (Cf g ps p))=>MF W v (Cf g ps p) hv q2 oM);have hz:La w9 (Oc #[]) 0\/True:=.inr trivial;clear D0 D1 D2 D3 q1 bd hz aZ l a0 aL aJ aK;obtain⟨dn,aQ⟩:=gX (Cf g ps p);rw[aQ]at HF HI q2 q3;have bo:=ia aQ;clear aQ;have cw:IntKind.i64.wrap dn=dn:=iW _ oM;go_wp2_with(first|(go_at_call 109;refine cM (HB.o _ eA) ?_;rintro e cF ⟨ba,bn,bc,r,rfl,hr,bf⟩;obtain⟨a4,m4,c4,s4,b4,n4,k4,rfl⟩:=hr.form;obtain⟨cc,ce⟩:=bf.cells)|(go_at_call 111;refine cM (HF.o _ _ (hr.ext eA)) ?_;rintro e cG ⟨r5,rfl,bb,bg⟩;obtain⟨a5,m5,c5,s5,rfl⟩:=bb.form;obtain⟨cd,cf⟩:=bg.cells)|(go_at_call 112;refine cM (HI.o _ _ (bb.ext eA)) ?_;rintro e bQ ⟨rfl,ch⟩));rw[<-HR.o];have br:oa wr bQ:=eA;exact⟨by rw[HE.o,if_pos rfl,bo.o];rfl,(H9.o.trans Hx.o).trans br⟩
end
section
open Go.RowKit Go.Shelf Go.Lib
attribute [local go_sem] Oper.semAt_some
structure Ln (w:M) (b6 b7:Nat) (p q:Pl):Prop where
 h6:∃v u,w.cell? ⟨b6,10,Z⟩=H v/\w.cell? ⟨b6,11,Z⟩=H u/\Aa w v (za p)/\Aa w u (Ra p)
 h7:∃v u,w.cell? ⟨b7,10,Z⟩=H v/\w.cell? ⟨b7,11,Z⟩=H u/\Aa w v (za q)/\Aa w u (Ra q)
def Ln.ext{w w':M}{a b:Nat}{p q:Pl}(h:Ln w a b p q)(k:oa w w'):Ln w' a b p q:=by obtain⟨⟨v,u,c,d,e,f⟩,⟨m,l,g,h6,i,j⟩⟩:=h;exact⟨⟨v,u,k.d c,k.d d,e.i k,f.i k⟩,⟨m,l,k.d g,k.d h6,i.i k,j.i k⟩⟩
end
section
open Go.RowKit Go.Shelf Go.Sort Go.Lib
def zE{w:M}{base:Nat}{a:Option Od}{n c:Nat}{b:List Be}(h:qd w base (O a n c) b):n=b.length:=by obtain⟨f,d,e,_⟩:=h;rw[d.len,e]
def nw{w:M}{base:Nat}{a:Option Od}{n c:Nat}{o:List Be}(h:qd w base (O a n c) o){k:Nat}{b:Be}(p:o[k]?=H b):∃g a1 m1 c1 s1 b1 n1 d1 a2 m2 c2 s2 b2 n2 d2 a3 m3 c3 s3 b3 n3 d3 a4 m4 c4 s4 b4 n4 d4,a=H ⟨g,0,Z⟩/\base<=g/\g<w.heap.size/\Ca [(⟨g,k*17,Z⟩,I N b.num),(⟨g,k*17+1,Z⟩,O a1 m1 c1),(⟨g,k*17+2,Z⟩,A s1),(⟨g,k*17+3,Z⟩,O b1 n1 d1),(⟨g,k*17+4,Z⟩,O a2 m2 c2),(⟨g,k*17+5,Z⟩,A s2),(⟨g,k*17+6,Z⟩,O b2 n2 d2),(⟨g,k*17+7,Z⟩,O a3 m3 c3),(⟨g,k*17+8,Z⟩,A s3),(⟨g,k*17+9,Z⟩,O b3 n3 d3),(⟨g,k*17+10,Z⟩,O a4 m4 c4),(⟨g,k*17+11,Z⟩,A s4),(⟨g,k*17+12,Z⟩,O b4 n4 d4),(⟨g,k*17+13,Z⟩,I N b.d1.1),(⟨g,k*17+14,Z⟩,I N b.d1.2),(⟨g,k*17+15,Z⟩,I N b.d2.1),(⟨g,k*17+16,Z⟩,I N b.d2.2)] w/\La w (Oc #[O a1 m1 c1,A s1,O b1 n1 d1]) b.fx/\La w (Oc #[O a2 m2 c2,A s2,O b2 n2 d2]) b.fz/\La w (Oc #[O a3 m3 c3,A s3,O b3 n3 d3]) b.tx/\La w (Oc #[O a4 m4 c4,A s4,O b4 n4 d4]) b.tz:=by
 obtain⟨r,d,h2,x⟩:=h;have hk:=(lS.1 p).1;obtain⟨c,i⟩:∃c,r[k]?=H c:=⟨_,gE oM⟩;obtain⟨f,t,e,⟨a1,m1,c1,s1,b1,n1,d1,a2,m2,c2,s2,b2,n2,d2,s,y,z⟩,⟨a3,m3,c3,s3,b3,n3,d3,a4,m4,c4,s4,b4,n4,d4,u,K,R⟩⟩:=x k c b i p;obtain rfl:f=[O a1 m1 c1,A s1,O b1 n1 d1,O a2 m2 c2,A s2,O b2 n2 d2]:=by
  have:=congrArg Array.toList (Value.agg.inj s);simpa using this
 obtain rfl:t=[O a3 m3 c3,A s3,O b3 n3 d3,O a4 m4 c4,A s4,O b4 n4 d4]:=by
  have:=congrArg Array.toList (Value.agg.inj u);simpa using this
 subst e;obtain⟨g,rfl,l,m⟩:=d.blk oM;refine⟨g,a1,m1,c1,s1,b1,n1,d1,a2,m2,c2,s2,b2,n2,d2,a3,m3,c3,s3,b3,n3,d3,a4,m4,c4,s4,b4,n4,d4,rfl,l,m,⟨?_,?_,?_,?_,?_,?_,?_,?_,?_,?_,?_,?_,?_,?_,?_,?_,?_,trivial⟩,y,z,K,R⟩
 ·exact d.cell (j:=0) i rfl
 ·exact d.cell (j:=1) i rfl
 ·exact d.cell (j:=2) i rfl
 ·exact d.cell (j:=3) i rfl
 ·exact d.cell (j:=4) i rfl
 ·exact d.cell (j:=5) i rfl
 ·exact d.cell (j:=6) i rfl
 ·exact d.cell (j:=7) i rfl
 ·exact d.cell (j:=8) i rfl
 ·exact d.cell (j:=9) i rfl
 ·exact d.cell (j:=10) i rfl
 ·exact d.cell (j:=11) i rfl
 ·exact d.cell (j:=12) i rfl
 ·exact d.cell (j:=13) i rfl
 ·exact d.cell (j:=14) i rfl
 ·exact d.cell (j:=15) i rfl
 ·exact d.cell (j:=16) i rfl
def RD(w:M)(b c:U)(d:Aa w b Cj)(e:td w c Ni)(a:Gw w):Calls Tryz.prog 34 #[Oc #[b,c],I N 2,I N 0] w (Sk w [⟨0,100,80,200,80,(1,0),(1,0)⟩,⟨1,200,80,300,80,(1,0),(1,0)⟩]):=by have h:=fE w b c Cj Ni 2 zm 0 d e a No rfl rfl (Ui No).2.2 (Ui No).1 dM;rw[show Ni.length+1=4 from rfl,iE]at h;exact h
def LG{g:LP}{ps:List Pl}{p:Pl}(h:nh g ps p=0):pb g ps=0/\Ea p=true/\fe g p=true/\ps.any (qg p.name)=false/\kd g ps p=true:=by
 unfold nh at h;split at h
 ·rename_i h1;exact absurd h h1
 ·rename_i h1;split at h
  ·cases h
  ·split at h
   ·cases h
   ·split at h
    ·cases h
    ·split at h
     ·cases h
     ·rename_i h2 h3 h4 h5;exact⟨by simpa using h1,by simpa using h2,by simpa using h3,by simpa using h4,by simpa using h5⟩
def QD(w:M)(b c v:U)(k:Aa w b Cj)(l:td w c Ni)(hv:Aa w v Pe)(a:Gw w):Calls Tryz.prog 39 #[Oc #[b,c],Oc (pe ll v)] w fun e d=>e=.returned (.tuple #[I N 140,I N 0])/\oa w d:=by
 have h:nh Cj Ni ll=0:=by
  unfold nh Ni;rw[show pb Cj [Jk,Ik,zm]=0 from No,if_neg dM,if_neg (by rw[LC];decide)];simp only[fe,kd,Tf,List.any_cons,List.any_nil,Ee,Fd,Na,Jb,Qa,Qr,Mo,Lo,Rq,Lw,Jq,Iq,Cq,fw];decide +kernel
 obtain⟨_,f,g,i,j⟩:=LG h;refine(iI w b c v Cj Ni ll k l hv dM a No f g i j).mono ?_;rintro e d ⟨rfl,m⟩;rw[h,if_pos rfl,UD];exact⟨rfl,m⟩
def ZC(w:M)(b c:U)(d:Aa w b Pe)(f:Aa w c Pe)(a:Gw w):Calls Tryz.prog 38 #[Oc (pe Jk b),Oc (pe Ik c)] w fun e g=>e=.returned (.tuple #[I .u8 1,I N 0])/\oa w g:=by have:=gK w b c Jk Ik d f dM dM a ⟨NC,MC⟩;rw[ID]at this;exact this
def Dq{n:Int}(h:Bd 1000 n):Rb mc (n:Rat):=(me h dM).mono dM
def PD(w:M)(a:Option Od)(m c:Nat)(s:Bool)(f:Option Od)(j c2:Nat)(b:Option Od)(n d:Nat)(t:Bool)(g:Option Od)(k i:Nat)(l:La w (Oc #[O a m c,A s,O f j c2]) 100)(o:La w (Oc #[O b n d,A t,O g k i]) 80):Calls Tryz.prog 32 #[Oc #[O a m c,A s,O f j c2,O b n d,A t,O g k i]] w fun e p=>e=.returned (.string ⟨#[40,49,48,48,44,32,56,48,41]⟩)/\oa w p:=by have:=Nz w _ _ 100 80 l o (Dq (n:=100) (by unfold Bd;omega)) (Dq (n:=80) (by unfold Bd;omega)) _ ⟨a,m,c,s,f,j,c2,b,n,d,t,g,k,i,rfl,rfl,rfl⟩;rw[WE]at this;exact this
def WF:vj 200 80=[40,50,48,48,44,32,56,48,41]:=by decide +kernel
def Wx(w:M)(a:Option Od)(m c:Nat)(s:Bool)(f:Option Od)(j c2:Nat)(b:Option Od)(n d:Nat)(t:Bool)(g:Option Od)(k i:Nat)(l:La w (Oc #[O a m c,A s,O f j c2]) 200)(o:La w (Oc #[O b n d,A t,O g k i]) 80):Calls Tryz.prog 32 #[Oc #[O a m c,A s,O f j c2,O b n d,A t,O g k i]] w fun e p=>e=.returned (.string ⟨#[40,50,48,48,44,32,56,48,41]⟩)/\oa w p:=by have:=Nz w _ _ 200 80 l o (Dq (n:=200) (by unfold Bd;omega)) (Dq (n:=80) (by unfold Bd;omega)) _ ⟨a,m,c,s,f,j,c2,b,n,d,t,g,k,i,rfl,rfl,rfl⟩;rw[WF]at this;exact this
def qH{w w':M}(h:oa w w')(k:Dr w w'):∃q os,w'=grow (w.drewN q) os:=by
 obtain⟨d,f,g,m,j⟩:=(h:Below w.heap.size w w');obtain⟨b,s,l,os,r⟩:=w';obtain⟨a,p,c,n,o⟩:=w;dsimp only at d f g m j;unfold Dr at k;dsimp only at k;subst d f g;refine⟨l-c,b.extract a.size b.size,?_⟩;have e:b=a++b.extract a.size b.size:=by
  apply Array.ext_getElem?;intro i;rw[Array.getElem?_append];split
  ·exact j i (by assumption)
  ·rw[Array.getElem?_extract];split
   ·congr 1;omega
   ·rw[Array.getElem?_eq_none oM]
 unfold grow World.drewN;dsimp only;rw[<-e]
 congr 1
 omega
def GD{W:M}{c:List U}{q:Rat}(h:PR W c q):∀u∈c,u.oneCell'=true:=by
 obtain⟨a,m,d,s,f,j,g,e⟩:=La.form h;intro u b;have i:c=[O a m d,A s,O f j g]:=by
  have:=congrArg (fun v=>match v with | Oc a=>a.toList|_=>[]) e;simpa using this
 subst i;simp at b;rcases b with rfl|rfl|rfl<;>rfl
def Rx(w:M)(x:List U×Rat):Prop:=PR w x.1 x.2/\Rb Yb x.2
instance (w:M):Inhabited {x // Rx w x}:=⟨⟨([O Z 0 0,A false,O Z 0 0],0),La.zero w,by have:=(me (n:=0) (k:=1000) (by unfold Bd;omega)).mono (k:=Yb) dM;simpa using this⟩⟩
def Ls(w:M)(x y:{x // Rx w x}):ltOf (fun x y:{x // Rx w x}=>Pb x.1.2 y.1.2) x y=decide (x.1.2<y.1.2):=by unfold ltOf;rw[decide_eq_decide];exact xl _ _
def fv(w:M):SWO (ltOf fun x y:{x // Rx w x}=>Pb x.1.2 y.1.2) where
 irrefl x:=by rw[Ls];simp
 trans x y z h1 h2:=by rw[Ls]at *;simp only[decide_eq_true_eq]at *;grind
 ntrans x y z h1 h2:=by rw[Ls]at *;simp only[decide_eq_false_iff_not]at *;exact Rat.not_lt.2 (Rat.le_trans (Rat.not_lt.1 h2) (Rat.not_lt.1 h1))
def kv(w:M)(x y:{x // Rx w x})(W:M)(a:Fa 2 w W):Calls Tryz.prog 21 #[Oc x.1.1.toArray,Oc y.1.1.toArray] W fun e f=>e=.returned (I N (Pb x.1.2 y.1.2))/\∃q os',f=grow (W.drewN q) os':=
 (iw W _ _ _ _ (La.keep x.2.1 a) (La.keep y.2.1 a) x.2.2 y.2.2).mono fun _ _ ⟨b,c,d⟩=>⟨b,qH c d⟩
def Ys{W:M}{c:List U}{q:Rat}(h:PR W c q):c.length=3:=by obtain⟨a,m,d,s,b,g,f,e⟩:=La.form h;have:=congrArg (fun v=>match v with | Oc a=>a.size|_=>0) e;simpa using this
def Cm(w:M)(base g n c:Nat)(d:List Rat)(e:Ending)(w':M):Prop:=
 e=.returned (.tuple #[])/\∃qs':List Rat,qs'.Perm d/\qs'.Pairwise (fun a b=>¬b<a)/\Zc w' base (O (H ⟨g,0,Z⟩) n c) qs'/\w.grownBy w' (H g)/\Fa 2 w w'
def WH(w:M)(base g n c:Nat)(a:List Rat)(h:Zc w base (O (H ⟨g,0,Z⟩) n c) a)(hb:∀q∈a,Rb Yb q)(aa:a.length<=1000000):Calls Tryz.prog 90 #[O (H ⟨g,0,Z⟩) n c,.func (.func 21) #[] #[]] w (Cm w base g n c a):=by
 obtain⟨p,r,h2,h3⟩:=h;have hn:=r.len;have s:∀x∈p.zip a,Rx w x:=fun x s=>by
  obtain⟨i,hi⟩:=List.mem_iff_getElem?.1 s;rw[List.getElem?_zip_eq_some]at hi;exact⟨h3 i _ _ hi.1 hi.2,hb _ (lM hi.2)⟩
 obtain⟨d,hd⟩:=gX (((p.zip a).attachWith (Rx w) s).toArray);have b:d.size=n:=by rw[<-hd,hn,List.size_toArray,List.length_attachWith,List.length_zip];omega
 have f:d.toList.map (·.1)=p.zip a:=by rw[<-hd];exact jl s
 have t:d.toList.map (fun x=>x.1.1)=p:=by
  rw[show (fun x:{x // Rx w x}=>x.1.1)=Prod.fst ∘ (·.1)from rfl,<-List.map_map,f,List.map_fst_zip oM]
 have u:d.toList.map (fun x=>x.1.2)=a:=by
  rw[show (fun x:{x // Rx w x}=>x.1.2)=Prod.snd ∘ (·.1)from rfl,<-List.map_map,f,List.map_snd_zip oM]
 have hg:=(r.lt g rfl).2;have eg:∀args w,(callFunc 21 args).run Tryz.prog w = .ok (.enter 21 args) w:=enters_of Tryz.func21 kM rfl;have h':Ga 43 3 w base (O (H ⟨g,0,Z⟩) n c) (d.toList.map fun x=>x.1.1):=by rw[t];exact r
 have hH:=oB (enc:=fun x:{x // Rx w x}=>x.1.1) (fun x=>Ys x.2.1) h';have hk:∀{W:M},w.grownBy W (H g)->Fa 2 w W:=fun z=>r.keepT dM z;have hp:=AnyQ.slices_SortFunc (P:=Tryz.prog) (ρ:=Tryz.sortRat_ren) Tryz.sortRat 3 Tryz.isAgg43 Tryz.sizeOf43 (fun x:{x // Rx w x}=>x.1.1) (fun x=>Ys x.2.1) (fun x=>GD x.2.1) (fun x y=>Pb x.1.2 y.1.2) (fv w) 21 #[] g 0 c d w eg (fun _ _ dk _ x y=>kv w x y _ (hk (lr dk))) hH hg oM;rw[b]at hp;refine hp.mono ?_;rintro e w' ⟨rfl,d',m,os,⟨q1,_,q3⟩,hs,rfl⟩;rw[<-b]at q3 hs;have q4:d'.toList.Perm d.toList:=by
  have e1:d'.extract 0 d.size=d':=by rw[<-q1];exact Array.extract_size
  rw[e1,Array.extract_size]at q3;exact q3
 have l:=hk (lr (enc:=fun x:{x // Rx w x}=>x.1.1) (k:=3) (w:=w) (g:=g) (m:=m) (os:=os) d');refine⟨rfl,d'.toList.map (fun x=>x.1.2),?_,?_,⟨d'.toList.map fun x=>x.1.1,IA (m:=m) (os:=os) (enc:=fun x:{x // Rx w x}=>x.1.1) (fun x=>Ys x.2.1) (d':=d') h' q1,by simp,?_⟩,lr _,l⟩
 ·rw[<-u];exact q4.map _
 ·rw[List.pairwise_map,List.pairwise_iff_getElem];intro i j hi hj K;simp at hi hj;have h9:=hs i j (Nat.zero_le _) K oM;rw[Ls,getElem!_pos d' i hi,getElem!_pos d' j hj]at h9;simpa using h9
 ·intro i c q hc hq;rw[lP,Option.map_eq_some_iff]at hc hq;obtain⟨x,R,rfl⟩:=hc;obtain⟨y,o,rfl⟩:=hq;rw[R]at o;cases o;exact La.keep x.2.1 l
end
section
def Rb.add2{j k:Nat}{p q:Rat}(h:Rb j p)(a:Rb k q):Rb (j+k+1) (p+q):=by rw[<-Qu];exact⟨Eq (Ll p q) ((h.1.mul a.2).add ((a.1.mul h.2).mono oM)),Eo (Ll p q) ((Lm.mul h.2 a.2).mono oM)⟩
def Rb.sub2{j k:Nat}{p q:Rat}(h:Rb j p)(a:Rb k q):Rb (j+k+1) (p-q):=by rw[Rat.sub_eq_add_neg];exact h.add2 a.neg
def Rb.half{k:Nat}{p:Rat}(h:Rb k p):Rb (k+1) (p/2):=by have:=Rb.div h (me (k:=1000) (n:=2) (by unfold Bd;omega)) oM;simpa using this
def Rb.atE2{k:Nat}{x:Rat}{e:Md}(f:Rb k x)(h:Bd 104000 e.1.1/\Bd 104000 e.1.2/\Bd 104000 e.2.1/\Bd 104000 e.2.2):Rb (k+6) (Cop.Ug x e):=by
 obtain⟨c,d,g,i⟩:=h;have a:Bd 208000 (e.2.2-e.1.2):=by unfold Bd at *;omega
 have b:Bd 208000 (e.2.1-e.1.1):=by unfold Bd at *;omega
 unfold Cop.Ug;exact(Rb.add2 (me d) (Rb.div (Rb.mul (Rb.sub2 f (me c)) (me a)) (me b) oM)).up oM
def Rb.atR2{k:Nat}{x:Rat}{ps:LP}(b:Rb k x)(h:Fb ps):Rb (k+6) (Cop.Sb ps x):=by
 unfold Cop.Sb;cases hf:(yb ps).find? (Jh x)with
 | some e=>exact b.atE2 (pl h.2.1 (List.mem_of_find?_eq_some hf))
 |none=>
  have c:0<ps.length:=List.length_pos_iff.2 h.1;have a:ps.getD (ps.length-1) (0,0)∈ps:=by
   rw[gD,gE oM,Option.getD_some];exact List.getElem_mem _
  exact(me (h.2.1 _ a).2).mono oM
def Ws(p a:Rat):Za 1 [p,a]=if p<=a then a else p:=by show Qb 1 p a=_;unfold Qb;simp only[Lq];grind
def Vs(p a:Rat):Za (-1) [p,a]=if p<=a then p else a:=by show Qb (-1) p a=_;unfold Qb;simp only[Mq];grind
section
variable {lo hi px qx:Int}
def ve(px:Int)(e:Md):Rat:=Za 1 [(px:Rat),(e.1.1:Rat)]
def Xi(qx:Int)(e:Md):Rat:=Za (-1) [(qx:Rat),(e.2.1:Rat)]
def Me(lo hi:Int)(z:Rat):Rat:=Za 1 [(lo:Rat),Za (-1) [(hi:Rat),z]]-(lo:Rat)
def QG(a:lo<hi)(z:Rat):Me lo hi z=Zd (lo:Rat) (hi:Rat) z:=by have h:(lo:Rat)<(hi:Rat):=Rat.intCast_lt_intCast.2 a;unfold Me;rw[Ws,Vs];exact tE h z
def ix{a b:Int×Int}(h:a.1<b.1){s:Rat}(c:(a.1:Rat)<=s)(d:s<=(b.1:Rat)):Sb [a,b] s=Mb (qp a) (qp b) s:=by
 have f:Bb [a,b]:=by unfold Bb;simp[h]
 rw[Yk f (e:=(a,b)) (by simp[yb]) c d,Zq h]
def rB{a b:Int×Int}(h:a.1<b.1)(k:Int){x y:Rat}(f:(a.1:Rat)<=x)(g:x<=(b.1:Rat))(i:(a.1:Rat)<=y)(j:y<=(b.1:Rat)):Rc (tg [a,b] [(a.1,k),(b.1,k)]) x y=Ge (k:Rat) (qp a) (qp b) x y:=by
 have d:∀s:Rat,(a.1:Rat)<=s->s<=(b.1:Rat)->tg [a,b] [(a.1,k),(b.1,k)] s=Mb (qp a) (qp b) s-(k:Rat):=fun s l m=>by
  unfold tg;rw[ix h l m,ix (a:=(a.1,k)) (b:=(b.1,k)) h l m];have e:Mb (qp (a.1,k)) (qp (b.1,k)) s=(k:Rat):=by unfold Mb Re qp;grind
  rw[e]
 unfold Rc Sf Ge;rw[d x f g,d y i j];by_cases c:(Mb (qp a) (qp b) x-(k:Rat))*(Mb (qp a) (qp b) y-(k:Rat))<0
 ·rw[if_pos c,if_pos ((Wy _ _).2 c)]
 ·rw[if_neg c,if_neg (fun h=>c ((Wy _ _).1 h))]
def Om{a b:Int×Int}(h:Bd 104000 a.1/\Bd 104000 a.2/\Bd 104000 b.1/\Bd 104000 b.2):Fb [a,b]:=
 ⟨by simp,fun x c=>by
  rcases List.mem_cons.1 c with rfl|c
  ·exact⟨h.1,h.2.1⟩
  ·rw[List.mem_singleton.1 c];exact⟨h.2.2.1,h.2.2.2⟩,by simp⟩
def tA{a b:LP}{y x c:Rat}(m:Fb a)(n:Fb b)(d:Rb 1 y)(g:Rb 1 x)(h:c∈Rc (tg a b) y x):Rb 51 c:=by
 have f:∀{z:Rat},Rb 1 z->Rb 15 (tg a b z):=fun i=>by
  unfold tg;exact(Rb.sub2 (i.atR2 m) (i.atR2 n)).up dM
 unfold Rc at h;split at h
 ·rw[List.mem_singleton.1 h];unfold Sf;have e:=f d;have j:=f g;have k:=e.div (e.sub2 j) dM;have l:=k.mul (g.sub2 d);exact(d.add2 l).up dM
 ·cases h
def Uv{k:Nat}{z:Rat}(h:Rb k z)(b:1<=k)(a:Bd 104000 lo)(c:Bd 104000 hi):Rb (k+2) (Me lo hi z):=
 (Rb.sub2 (Yl 1 ((me a).up b) (Yl (-1) ((me c).up b) h)) (me a)).up oM
def Nn(e:Md):Prop:=(Bd 104000 e.1.1/\Bd 104000 e.1.2/\Bd 104000 e.2.1/\Bd 104000 e.2.2)/\e.1.1<e.2.1
def uh(lo hi px qx:Int):Prop:=(Bd 104000 lo/\Bd 104000 hi/\Bd 104000 px/\Bd 104000 qx)/\lo<hi/\px<qx
def Ax(h:uh lo hi px qx){e:Md}(a:Nn e):Rb 1 (ve px e)/\Rb 1 (Xi qx e):=
 ⟨Yl 1 (me h.1.2.2.1) (me a.1.1),Yl (-1) (me h.1.2.2.2) (me a.1.2.2.1)⟩
def Ue(lo hi:Int)(e:Md)(x y:Rat):List Rat:=[x,y]++Rc (tg [e.1,e.2] [(e.1.1,lo),(e.2.1,lo)]) x y++Rc (tg [e.1,e.2] [(e.1.1,hi),(e.2.1,hi)]) x y
def Sy(h:uh lo hi px qx){e:Md}(m:Nn e):∀c∈Ue lo hi e (ve px e) (Xi qx e),Rb 51 c:=by
 obtain⟨i,j⟩:=Ax h m;obtain⟨⟨f,k,g,l⟩,-⟩:=m;intro c d;unfold Ue at d;rcases List.mem_append.1 d with d|d
 ·rcases List.mem_append.1 d with d|d
  ·rcases List.mem_cons.1 d with rfl|d
   ·exact i.up dM
   ·rw[List.mem_singleton.1 d];exact j.up dM
  ·exact tA (Om (a:=e.1) (b:=e.2) ⟨f,k,g,l⟩) (Om (a:=(e.1.1,lo)) (b:=(e.2.1,lo)) ⟨f,h.1.1,g,h.1.1⟩) i j d
 ·exact tA (Om (a:=e.1) (b:=e.2) ⟨f,k,g,l⟩) (Om (a:=(e.1.1,hi)) (b:=(e.2.1,hi)) ⟨f,h.1.2.1,g,h.1.2.1⟩) i j d
def Cu(f:Rat->Rat)(y x:Rat):(Rc f y x).length<=1:=by unfold Rc;split<;>simp
def Xt(lo hi:Int)(e:Md)(x y:Rat):2<=(Ue lo hi e x y).length/\(Ue lo hi e x y).length<=4:=by have a:=Cu (tg [e.1,e.2] [(e.1.1,lo),(e.2.1,lo)]) x y;have b:=Cu (tg [e.1,e.2] [(e.1.1,hi),(e.2.1,hi)]) x y;unfold Ue;simp only[lA,List.length_cons,List.length_nil];omega
def qe(lo hi:Int)(l:LP):List Rat->Rat
 | s::t::r=>(t-s)*((Me lo hi (Sb l s)+Me lo hi (Sb l t))/2)+qe lo hi l (t::r)
 | _=>0
def vw(d:lo<hi){l:LP}(b:Bb l){e:Md}(a:e∈yb l):∀S:List Rat,(∀s∈S,(e.1.1:Rat)<=s/\s<=(e.2.1:Rat))->qe lo hi l S=Jg (lo:Rat) (hi:Rat) (qp e.1) (qp e.2) S
 | [],_=>rfl
 | [s],_=>rfl
 | s::t::r,h=>by
  have c:∀s:Rat,(e.1.1:Rat)<=s/\s<=(e.2.1:Rat)->Me lo hi (Sb l s)=Zd (lo:Rat) (hi:Rat) (Mb (qp e.1) (qp e.2) s):=fun s h=>by
   rw[QG d,Yk b a h.1 h.2,Zq (Oo b a)]
  show (t-s)*((Me lo hi (Sb l s)+Me lo hi (Sb l t))/2)+qe lo hi l (t::r)=(t-s)*((Zd (lo:Rat) (hi:Rat) (Mb (qp e.1) (qp e.2) s)+Zd (lo:Rat) (hi:Rat) (Mb (qp e.1) (qp e.2) t))/2)+Jg (lo:Rat) (hi:Rat) (qp e.1) (qp e.2) (t::r);rw[c s (h s sM),c t (h t sM),vw d b a (t::r) (fun x f=>h x (mC _ f))]
def Ig(lo hi:Int)(l:LP)(s t:Rat):Rat:=(t-s)*((Me lo hi (Sb l s)+Me lo hi (Sb l t))/2)
def Qy{l:LP}(e:Fb l)(c:Bd 104000 lo)(d:Bd 104000 hi){s t:Rat}(a:Rb 51 s)(b:Rb 51 t):Rb 223 (Ig lo hi l s t):=by have h:∀{s:Rat},Rb 51 s->Rb 59 (Me lo hi (Sb l s)):=fun a=>Uv (a.atR2 e) dM c d;exact(Rb.mul (b.sub2 a) (((h a).add2 (h b)).half)).up dM
def Kt{l:LP}(c:Fb l)(a:Bd 104000 lo)(b:Bd 104000 hi):∀S:List Rat,(∀s∈S,Rb 51 s)->Rb (224*S.length+1) (qe lo hi l S)
 | [],_=>(me (k:=1000) (n:=0) (by unfold Bd;omega)).up (by simp)
 | [s],_=>(me (k:=1000) (n:=0) (by unfold Bd;omega)).up (by simp)
 | s::t::r,h=>by
  have d:=Qy c a b (h s sM) (h t sM);have e:=Kt c a b (t::r) (fun x f=>h x (mC _ f));exact(d.add2 e).up (by simp only[List.length_cons];omega)
def vB(l:LP):∀(S:List Rat)(i:Nat)(s t:Rat),S[i]?=H s->S[i+1]?=H t->qe lo hi l (S.take (i+2))=qe lo hi l (S.take (i+1))+Ig lo hi l s t
 | [],_,_,_,h,_=>by simp at h
 | [a],i,_,_,_,h=>by simp at h
 | a::b::r,0,s,t,h1,h2=>by
  cases h1;cases h2;show (b-a)*_+qe lo hi l [b]=qe lo hi l [a]+_;show Ig lo hi l a b+0=0+Ig lo hi l a b;grind
 | a::b::r,i+1,s,t,h1,h2=>by
  have c:=vB l (b::r) i s t h1 h2;show Ig lo hi l a b+qe lo hi l ((b::r).take (i+2))=Ig lo hi l a b+qe lo hi l ((b::r).take (i+1))+Ig lo hi l s t;rw[c];grind
def Yx(h:uh lo hi px qx){l:LP}(K:Bb l){e:Md}(t:e∈yb l)(d:ve px e<Xi qx e){S:List Rat}(i:S.Perm (Ue lo hi e (ve px e) (Xi qx e)))(hs:S.Pairwise fun a b=>¬b<a):qe lo hi l S=Eb (lo:Rat) (hi:Rat) (px:Rat) (qx:Rat) (qp e.1) (qp e.2):=by
 have f:=Oo K t;have z:(qp e.1).1<(qp e.2).1:=Rat.intCast_lt_intCast.2 f;have hl:(lo:Rat)<(hi:Rat):=Rat.intCast_lt_intCast.2 h.2.1;have u:(px:Rat)<(qx:Rat):=Rat.intCast_lt_intCast.2 h.2.2;obtain⟨x,R⟩:=gX (ve px e);obtain⟨y,hy⟩:=gX (Xi qx e);rw[R,hy]at d i;have p:x=if (px:Rat)<=(qp e.1).1 then (qp e.1).1 else (px:Rat):=by rw[<-R];exact Ws _ _
 have r:y=if (qp e.2).1<=(qx:Rat)then (qp e.2).1 else (qx:Rat):=by
  rw[<-hy];refine(Vs _ _).trans ?_;show (if (qx:Rat)<=(e.2.1:Rat)then (qx:Rat)else (e.2.1:Rat))=if (e.2.1:Rat)<=(qx:Rat)then (e.2.1:Rat)else (qx:Rat);grind
 obtain⟨cx,cy⟩:=SI u z p r d;have n:(e.1.1:Rat)<=x:=by have:x=if (px:Rat)<=(e.1.1:Rat)then (e.1.1:Rat)else (px:Rat):=p;grind
 have o:y<=(e.2.1:Rat):=by have:y=if (e.2.1:Rat)<=(qx:Rat)then (e.2.1:Rat)else (qx:Rat):=r;grind
 have j:Ue lo hi e x y=Mg (lo:Rat) (hi:Rat) (qp e.1) (qp e.2) x y:=by
  unfold Ue Mg;rw[rB (a:=e.1) (b:=e.2) f lo n (by grind) (by grind) o,rB (a:=e.1) (b:=e.2) f hi n (by grind) (by grind) o]
 rw[j]at i;have m:S.Pairwise (·<=·):=hs.imp fun h=>Rat.not_lt.1 h;have k:∀s∈S,(e.1.1:Rat)<=s/\s<=(e.2.1:Rat):=fun s c=>by
  have c:=i.mem_iff.1 c;unfold Mg at c;have g:=Rat.le_of_lt d;rcases List.mem_append.1 c with c|c
  ·rcases List.mem_append.1 c with c|c
   ·rcases List.mem_cons.1 c with rfl|c
    ·exact⟨n,by grind⟩
    ·rw[List.mem_singleton.1 c];exact⟨by grind,o⟩
   ·have:=Qq g s c;exact⟨by grind,by grind⟩
  ·have:=Qq g s c;exact⟨by grind,by grind⟩
 rw[vw h.2.1 K t S k];exact YH hl u z cx cy d i m
def rA(h:uh lo hi px qx){e:Md}(a:e.1.1<e.2.1)(b:¬ve px e<Xi qx e):Eb (lo:Rat) (hi:Rat) (px:Rat) (qx:Rat) (qp e.1) (qp e.2)=0:=by have d:(qp e.1).1<(qp e.2).1:=Rat.intCast_lt_intCast.2 a;have c:(px:Rat)<(qx:Rat):=Rat.intCast_lt_intCast.2 h.2.2;refine RI c d (x:=ve px e) (y:=Xi qx e) (Ws _ _) ?_ b;refine(Vs _ _).trans ?_;show (if (qx:Rat)<=(e.2.1:Rat)then (qx:Rat)else (e.2.1:Rat))=if (e.2.1:Rat)<=(qx:Rat)then (e.2.1:Rat)else (qx:Rat);grind
def fF(h:uh lo hi px qx){e:Md}(f:Nn e):Rb 897 (Eb (lo:Rat) (hi:Rat) (px:Rat) (qx:Rat) (qp e.1) (qp e.2)):=by
 by_cases d:ve px e<Xi qx e
 ·have l:Bb [e.1,e.2]:=by unfold Bb;simp[f.2]
  have j:e∈yb [e.1,e.2]:=by simp[yb]
  have g:=List.mergeSort_perm (Ue lo hi e (ve px e) (Xi qx e)) (fun a b=>decide (a<=b));have i:=List.pairwise_mergeSort (le:=fun a b:Rat=>decide (a<=b)) (fun a b c m o=>by simp at *;grind) (fun a b=>by simp;exact Rat.le_total) (Ue lo hi e (ve px e) (Xi qx e));rw[<-Yx h l j d g (i.imp fun h=>by simp at h;exact Rat.not_lt.2 h)];refine(Kt (Om f.1) h.1.1 h.1.2.1 _ (fun s i=>Sy h f s (g.mem_iff.1 i))).up ?_;rw[g.length_eq];have:=(Xt lo hi e (ve px e) (Xi qx e)).2;omega
 ·rw[rA h f.2 d];exact(me (k:=1000) (n:=0) (by unfold Bd;omega)).up dM
def qt(h:uh lo hi px qx):∀{l:List Md},(∀e∈l,Nn e)->Rb (898*l.length+1) (qb (Eb (lo:Rat) (hi:Rat) (px:Rat) (qx:Rat)) l)
 | [],_=>(me (k:=1000) (n:=0) (by unfold Bd;omega)).up (by simp)
 | e::t,hl=>by
  have a:=fF h (hl e sM);have b:=qt h (fun x c=>hl x (mC e c));exact(a.add2 b).up (by simp only[List.length_cons];omega)
def Wt(J:Pq->Pq->Rat):∀(l:List Md)(e:Md),qb J (l++[e])=qb J l+J (qp e.1) (qp e.2)
 | [],e=>by show J (qp e.1) (qp e.2)+0=0+J (qp e.1) (qp e.2);grind
 | a::l,e=>by
  show J (qp a.1) (qp a.2)+qb J (l++[e])=J (qp a.1) (qp a.2)+qb J l+J (qp e.1) (qp e.2);rw[Wt J l e];grind
end
end
section
open Go.RowKit Go.Shelf Go.Sort Go.Lib
def yJ(w:M)(a:Gw w):Calls Tryz.prog 7 #[] w fun e w'=>e=.returned (A true)/\oa w w':=by
 have an:=ia a;have HR:=ia (fun(W:M)(n:oa w W)(v1 v2:U)(h1:Aa W v1 Pe)(h2:Aa W v2 Pe)=>ZC W v1 v2 h1 h2 (a.ext n));have HB:=ia (fun(W:M)(n:oa w W)(vg vp:U)(hg:Aa W vg Cj)(hp:td W vp Ni)=>RD W vg vp hg hp (a.ext n));have HD:=ia (fun(W:M)(n:oa w W)(vg vp v:U)(hg:Aa W vg Cj)(hp:td W vp Ni)(hv:Aa W v Pe)=>QD W vg vp v hg hp hv (a.ext n));unfold Jk Ik at HR;unfold ll at HD;have E0:=eR w;clear a;go_in;go_upto_region 2 with (first|(go_at_call 28;(with_reducible refine(ro _ ⟨#[97]⟩ 0 0).mono ?_);rintro e w1 ⟨v1,rfl,y,R⟩;have E1:oa w w1:=E0.trans R)|(go_at_call 28;(with_reducible refine(ro _ ⟨#[98]⟩ 200 0).mono ?_);rintro e w2 ⟨v2,rfl,z,j⟩;have E2:oa w w2:=E1.trans j)|(go_at_call 38;refine cM (HR.o _ E2 _ _ (y.i j) z) ?_;rintro e w3 ⟨rfl,aa⟩;have E3:oa w w3:=E2.trans aa));clear R j aa y z;go_upto_region 3 with (first|(go_at_call 30;(with_reducible refine(Tz _).mono ?_);rintro e w4 ⟨aF,aH,rfl,s,u,ab⟩;have E4:oa w w4:=E3.trans ab)|(go_at_call 34;refine cM (HB.o _ E4 _ _ s u) ?_;rintro e w5 ⟨vb,rfl,i,ac⟩;obtain⟨ba,bn,bc,rfl⟩:=i.j;have E5:oa w w5:=E4.trans ac));clear ab ac s u;go_upto_region 4 with (first|(go_at_call 30;(with_reducible refine(Tz _).mono ?_);rintro e w6 ⟨aG,aI,rfl,t,x,l⟩;have E6:oa w w6:=E5.trans l)|(go_at_call 28;(with_reducible refine(ro _ ⟨#[100]⟩ 50 300).mono ?_);rintro e w7 ⟨v7,rfl,K,f⟩;have E7:oa w w7:=E6.trans f)|(go_at_call 39;refine cM (HD.o _ E7 _ _ _ (t.i f) (x.i f) K) ?_;rintro e w8 ⟨rfl,m⟩;have E8:oa w w8:=E7.trans m));have i:=i.ext ((l.trans f).trans m);clear l f m t x K E0 E1 E2 E3 E4 E5 E6 E7 HR HB HD;obtain rfl:=zE i;obtain⟨g,a1,m1,c1,s1,b1,n1,d1,a2,m2,c2,s2,b2,n2,d2,a3,m3,c3,s3,b3,n3,d3,a4,m4,c4,s4,b4,n4,d4,rfl,ad,ao,hc,r1,r2,r3,r4⟩:=nw i (k:=0) rfl;obtain⟨g',a5,m5,c5,s5,b5,n5,d5,a6,m6,c6,s6,b6,n6,d6,a7,m7,c7,s7,b7,n7,d7,a8,m8,c8,s8,b8,n8,d8,e,p,r,o,r5,r6,r7,r8⟩:=nw i (k:=1) rfl;obtain rfl:g=g':=by cases e;rfl
 simp only[Ca,Nat.reduceMul,Nat.reduceAdd,and_true]at hc o;obtain⟨q0,q1,q2,q3,q4,q5,q6,q7,q8,q9,ay,az,aA,aB,aC,aD,aE⟩:=hc;obtain⟨p0,p1,p2,p3,p4,p5,p6,p7,p8,p9,ap,aq,ar,au,av,aw,ax⟩:=o;clear e p r ad;have E:=ia E8;clear E8 i;go_wp2_with(first|(go_at_call 32;(with_reducible refine(PD _ _ _ _ _ _ _ _ _ _ _ _ _ _ _ (r1.ext ?_) (r2.ext ?_)).mono ?_);exact eA;exact eA;rintro e ae ⟨rfl,b⟩;obtain⟨ah,ak⟩:=b.cells;(have aJ:g<ae.heap.size:=by have:=b.size;omega))|(go_at_call 32;(with_reducible refine(Wx _ _ _ _ _ _ _ _ _ _ _ _ _ _ _ (r3.ext ?_) (r4.ext ?_)).mono ?_);exact eA;exact eA;rintro e af ⟨rfl,c⟩;obtain⟨ai,al⟩:=c.cells;(have aK:g<af.heap.size:=by have:=c.size;omega))|(go_at_call 32;(with_reducible refine(Wx _ _ _ _ _ _ _ _ _ _ _ _ _ _ _ (r5.ext ?_) (r6.ext ?_)).mono ?_);exact eA;exact eA;rintro e ag ⟨rfl,d⟩;obtain⟨aj,am⟩:=d.cells;(have aL:g<ag.heap.size:=by have:=d.size;omega)));go_ret;exact⟨rfl,((E.o.trans b).trans c).trans d⟩
end
section
open Go.RowKit Go.Shelf Go.Lib
attribute [local go_sem] Oper.semAt_some
def WD(w:M)(vz:U)(z:Rat)(lo hi:Int)(b1 b2:Nat)(hz:La w vz z)(hb:Rb 57 z)(c1:w.cell? ⟨b1,0,Z⟩=H (I N lo))(c2:w.cell? ⟨b2,0,Z⟩=H (I N hi))(k1:Bd 104000 lo)(k2:Bd 104000 hi):Calls Tryz.prog 120 #[vz,Ob (H ⟨b1,0,Z⟩),Ob (H ⟨b2,0,Z⟩)] w (Id w (Me lo hi z)):=by
 have l:=ia (fun(W:M)=>vi W lo (by unfold Bd at k1;omega) (by unfold Bd at k1;omega));have ai:=ia (fun(W:M)=>vi W hi (by unfold Bd at k2;omega) (by unfold Bd at k2;omega));have r1:Rb 57 ((lo:Int):Rat):=(me k1).up dM;have r2:Rb 57 ((hi:Int):Rat):=(me k2).up dM;have m1:Rb 57 (Za (-1) [(hi:Rat),z]):=Yl (-1) r2 hb;have m2:Rb 57 (Za 1 [(lo:Rat),Za (-1) [(hi:Rat),z]]):=Yl 1 r1 m1;have j:∀{x y:Rat},Rb 57 x->Rb 57 y->∀q∈[x,y],Rb Yb q:=fun hx hy q hq=>by
  simp only[List.mem_cons,List.not_mem_nil,or_false]at hq;rcases hq with rfl|rfl
  ·exact od hx dM
  ·exact od hy dM
 have k:=ia (fun(W:M)(v:U)(h:Wf W v [(hi:Rat),z])=>Ro W v _ h (j r2 hb));have c:=ia (fun(W:M)(v:U)(h:Wf W v [(lo:Rat),Za (-1) [(hi:Rat),z]])=>So W v _ h (j r1 m1));have HS:=ia (fun(W:M)(va vb:U)(q1:La W va (Za 1 [(lo:Rat),Za (-1) [(hi:Rat),z]]))(q2:La W vb (lo:Rat))=>(show Calls Tryz.prog 52 #[va,vb] W (Id W (Me lo hi z))from Ak W va vb _ _ q1 q2 (od m2 dM) (od r1 dM)));have HZ:=ia (fun(W:M)(hW:oa w W)=>hz.ext hW);obtain⟨xa,xm,xc,xs,af,ah,ag,rfl⟩:=hz.form;obtain⟨y1,ad⟩:=gX (Za (-1) [(hi:Rat),z]);rw[ad]at k c HS;obtain⟨y2,ae⟩:=gX (Za 1 [(lo:Rat),y1]);rw[ae]at c HS;obtain⟨y3,g⟩:=gX (Me lo hi z);rw[g]at HS;rw[g];have l6:=World.block_lt_of_cell? w _ c1;have l7:=World.block_lt_of_cell? w _ c2;clear r1 r2 m1 m2 j ad ae g hz hb k1 k2;dsimp only at l6 l7;go_in;go_wp2;refine Ke [(⟨b1,0,Z⟩,I N lo),(⟨b2,0,Z⟩,I N hi),(⟨w.heap.size,0,Z⟩,O xa xm xc),(⟨w.heap.size,1,Z⟩,A xs),(⟨w.heap.size,2,Z⟩,O af ah ag)] cA fun a=>?_;refine Ac (i:=0) ?_;refine Ac (i:=2) ?_;refine Ac (i:=4) ?_;refine Ac (i:=9) ?_;refine Ec (i:=1) (l.o _) ?_;rintro e w3 ⟨r3,rfl,o,R⟩;obtain⟨a3,m3,c3,s3,b3,n3,k3,rfl⟩:=o.form;refine⟨_,rfl,(cE a R),fun a=>?_⟩;have X3:oa w w3:=eA;refine Ec (i:=3) (ai.o _) ?_;rintro e w4 ⟨r4,rfl,p,d⟩;obtain⟨a4,m4,c4,s4,b4,n4,k4,rfl⟩:=p.form;refine⟨_,rfl,(cE a d),fun a=>?_⟩;refine Je (i:=5) fun K b=>?_;go_simp;refine kO b (cE a ((eR _).alloc _)) (fun a=>?_);clear b K;refine Ec (i:=6) (k.o _ _ (Zk w4 rfl p (HZ.o _ (X3.trans d)))) ?_;rintro e w5 ⟨r5,rfl,r,aa⟩;obtain⟨a5,m5,c5,s5,b5,n5,k5,rfl⟩:=r.form;refine⟨_,rfl,(cE a aa),fun a=>?_⟩;have m:oa w3 w5:=(d.trans ((eR w4).alloc _)).trans aa;refine Je (i:=7) fun K b=>?_;go_simp;refine kO b (cE a ((eR _).alloc _)) (fun a=>?_);clear b K;refine Ec (i:=8) (c.o _ _ (Zk w5 rfl (o.ext m) r)) ?_;rintro e w6 ⟨r6,rfl,s,ab⟩;obtain⟨a6,m6,c6,s6,b6,n6,k6,rfl⟩:=s.form;refine⟨_,rfl,(cE a ab),fun a=>?_⟩;have aj:oa w3 w6:=(m.trans ((eR w5).alloc _)).trans ab;refine Ec (i:=10) (l.o _) ?_;rintro e w7 ⟨r7,rfl,t,f⟩;obtain⟨a7,m7,c7,s7,b7,n7,k7,rfl⟩:=t.form;refine⟨_,rfl,(cE a f),fun a=>?_⟩;refine Ec (i:=11) (HS.o _ _ _ (s.ext f) t) ?_;rintro e w8 ⟨r8,rfl,u,ac⟩;obtain⟨a8,m8,c8,s8,b8,n8,k8,rfl⟩:=u.form;refine⟨_,rfl,(cE a ac),fun a=>?_⟩;have n:oa w3 w8:=(aj.trans f).trans ac;have hO:RB w8 (w.heap.size+1) 0:=((RB.new (La.zero _) sM).ext ((eR _).drew.trans R)).ext n;obtain⟨_,_,_,_,_,_,_,o0,o1,o2,av,aw,ax,zo,_⟩:=hO.rd;have ak:∀q∈[((⟨b1,0,Z⟩:Od),(I N lo:U)),(⟨b2,0,Z⟩,I N hi),(⟨w.heap.size,0,Z⟩,O xa xm xc),(⟨w.heap.size,1,Z⟩,A xs),(⟨w.heap.size,2,Z⟩,O af ah ag)],w.heap.size+1≠q.1.block:=by
  simp;omega
 refine Je (i:=12) fun K b=>?_;go_simp;refine kO b (Ca.set3 (by assumption) ak _ _ _) (fun a=>?_);clear b K;refine Wd ?_;go_wp2;have hP:=hO.put u;obtain⟨pa,pm,an,ap,al,ao,am,aq,ar,au,_,_,_,_,hz⟩:=hP.rd;exact bR (v:=Oc #[O pa pm an,A ap,O al ao am]) (by simp[results,Tryz.results120,go_sem,aq,ar,au]) rfl ⟨_,rfl,hz,(((X3.trans n).set dO _).set dO _).set dO _⟩
end
section
open Go.RowKit Go.Shelf Go.Sort Go.Lib
attribute [local go_sem] Oper.semAt_some
def iG{F:Fence}{nF:Nat}{P:Program}{T t:TypeId}{k bytes:Nat}{z:U}{w:M}{base:Nat}{v:U}{cs:List (List U)}{ops:Array Oper}{rest:List Oper}{o:Oper}{a:Act}{Q:Exit->Act->M->Prop}(d:(P.info? T).map (fun i=>(i.zero,i.size,i.bytes))=H (H z,k,bytes))(R:z.cells.size=k)(hk:0<k)(n:bytes<=1000)(ht:P.underlying t=H (.slice T))(r:o.guard=Z)(s x:Operand)(y:o.op = .call { callee:=.builtin .append,args:=#[s,x],argTypes:=#[t,t] })(hs:a.eval s=v)(g:Ga T k w base v cs){ad:Od}{m c:Nat}(hx:a.eval x=O (H ad) m c)
  (ds:List (List U))(hm:ds.length=m)(hd:∀c∈ds,c.length=k)(e:∀(j:Nat) u,ds.flatten[j]?=H u->w.cell? (ad.add j)=H u)(h1:∀u∈ds.flatten,u.oneCell'=true)(f:cs.length+m<=100000000000)(b:base<=w.heap.size)
  (h:∀v' w',Ga T k w' base v' (cs++ds)->w.grownBy w' v.ownBlock->(v'.ownBlock=v.ownBlock\/v'.ownBlock=H w.heap.size)->wpListIn F nF P ops Q rest (a.put o.dst v') w'):wpListIn F nF P ops Q (o::rest) a w:=by
 obtain⟨v',w',l,h2,h3,h4⟩:=qr (P:=P) o.type d R hk n ht g hm hd e h1 f b (c:=c);refine wpListIn_plain r fun K hK=>?_;unfold Oper.wpIn;refine⟨?_,?_⟩
 ·simp[Oper.about,y,resolve,Target.leads,Sem.run_pure]
 ·rw[Oper.semAt_plain F _ _ (by rw[y];intro c p;cases p)];simp[execOp,y,resolve,invoke,builtin,hs,hx,l,Result.andThen];exact hK _ _ (h v' w' h2 h3 h4)
def Rw(W:M){b:Nat}(j:b=W.heap.size)(d e f g:Int):Aa (W.alloc (Oa #[I N d,I N e,I N f,I N g] 55)) (O (H ⟨b,0,Z⟩) 2 2) [(d,e),(f,g)]:=by
 subst j;refine⟨[[I N d,I N e],[I N f,I N g]],rfl,by simp,⟨rfl,_,_,rfl,nE _,by unfold maxLen;decide,.inr ⟨_,0,_,_,rfl,aN W _,fun i x h=>by simpa using h⟩⟩,fun i k x a c=>?_⟩
 match i,a,c with
 | 0,a,c=>cases a;cases c;rfl
 | 1,a,c=>cases a;cases c;rfl
 | i+2,a,c=>simp at a
def CE(W:M){b:Nat}(a:b=W.heap.size)(x y z:U)(T:TypeId):∀(j:Nat) u,[[x,y,z]].flatten[j]?=H u->(W.alloc (Oa #[x,y,z] T)).cell? ((⟨b,0,Z⟩:Od).add j)=H u:=by subst a;exact ow W x y z T
def Di(lo hi:Int)(e:Md)(x y:Rat):Nat->List Rat
 | 0=>[x,y]
 | 1=>[x,y]++Rc (tg [e.1,e.2] [(e.1.1,lo),(e.2.1,lo)]) x y
 | _=>Ue lo hi e x y
def rv(f d e:U)(B C b c:Nat)(a:Act):Prop:=a.tmps.size=120/\a.tmps.getD 5 undef=f/\a.tmps.getD 11 undef=d/\a.tmps.getD 12 undef=e/\a.tmps.getD 13 undef=Ob (H ⟨B,0,Z⟩)/\a.tmps.getD 14 undef=Ob (H ⟨C,0,Z⟩)/\a.tmps.getD 15 undef=Ob (H ⟨b,0,Z⟩)/\a.tmps.getD 16 undef=Ob (H ⟨c,0,Z⟩)/\a.defers=[]
def UL(wc:M)(b:Nat)(lo hi:Int)(e:Md)(x y:Rat)(c:Nat)(a:Act)(W:M):Prop:=
 ∃j v,j<=2/\c=2-j/\a.tmps.getD 51 undef=I N (j:Nat)/\a.tmps.getD 17 undef=v/\Zc W wc.heap.size v (Di lo hi e x y j)/\oa wc W/\W.heap[b]?=H (Oa #[I N lo,I N hi] 3 (0,0))/\a.tmps.getD 49 undef=O (H ⟨b,0,Z⟩) 2 2/\a.tmps.getD 50 undef=I N 2
def kF(l n0:Nat)(Q:Exit->Act->M->Prop)(wc w5:M)(p5 aw ay:U)(B C ac ae af:Nat)(lo hi:Int)(e:Md)(x y:Rat)(aA:U)(hA:wc.heap[B]?=H (Oa #[I N e.1.1,I N e.1.2] 55 (0,0)))(hC:wc.heap[C]?=H (Oa #[I N e.2.1,I N e.2.2] 55 (0,0)))(hX:RB wc ac x)(hY:RB wc ae y)(he:Nn e)(k1:Bd 104000 lo)(k2:Bd 104000 hi)(aT:Rb 1 x)(aU:Rb 1 y)(aW:oa wc w5)(ho:Zc w5 wc.heap.size aA [x,y])(hK:w5.heap[af]?=H (Oa #[I N lo,I N hi] 3 (0,0)))(a0:Act)(h0:rv p5 aw ay B C ac ae a0)(aF:a0.tmps.getD 17 undef=aA)(aG:a0.tmps.getD 49 undef=O (H ⟨af,0,Z⟩) 2 2)(aH:a0.tmps.getD 50 undef=I N 2)(aI:a0.tmps.getD 51 undef=I N (0:Nat))(hQ:∀a' W v,rv p5 aw ay B C ac ae a'->a'.tmps.getD 17 undef=v->Zc W wc.heap.size v (Ue lo hi e x y)->oa wc W->Q (.exit 2) a' W):(Code.loop (Yg Tryz.f51 0)).wpIn (Fence.wide.inRound l) n0 Tryz.prog Q a0 w5:=by
 have HQ:=ia hQ;have HE:=ia (And.intro he (And.intro (And.intro k1 k2) (And.intro aT aU)));have HA:=ia (And.intro hA hC);have aD:=ia (And.intro hX hY);clear hQ he k1 k2 aT aU hA hC hX hY;unfold Yg;simp only[Tryz.f51,Xc,List.cons_append,List.nil_append,List.append_nil,List.getD_cons_zero];refine wpIn_loop_ghost_k (fun gk a W=>UL wc af lo hi e x y gk a W/\rv p5 aw ay B C ac ae a) 2 ⟨⟨0,aA,Nat.zero_le _,rfl,aI,aF,ho,aW,hK,aG,aH⟩,h0⟩ ?round;clear ho aW hK h0 aF aG aH aI;intro gk aa wr hinv;obtain⟨tt,dd⟩:=aa;obtain⟨⟨j,v,hj,rfl,ap,am,ho,hx,hK,an,ao⟩,f0,f5,ag,ah,ai,aj,ak,al,aP⟩:=hinv;obtain⟨a1,a6,a2,rfl⟩:=Ia ho.rs;dsimp only at ap am an ao f0 f5 ag ah ai aj ak al aP;subst aP;obtain⟨u,hu,ht⟩:=jj tt 120 f0;simp only[hu]at ap am an ao f5 ag ah ai aj ak al;clear hu f0;subst ht;simp only[List.range,List.range.loop,List.map_cons,List.map_nil,ap,am,an,ao,f5,ag,ah,ai,aj,ak,al];clear ap am an ao f5 ag ah ai aj ak al;intro J K hJ ba;have Hx:=ia hx;have Ho:=ia ho;have HK:=ia hK;clear ho;by_cases bb:j<2
 ·obtain⟨z,cz,kz,aV⟩:∃z,wr.cell? ⟨af,j,Z⟩=H (I N z)/\Bd 104000 z/\Di lo hi e x y (j+1)=Di lo hi e x y j++Rc (tg [e.1,e.2] [(e.1.1,z),(e.2.1,z)]) x y:=by
   obtain⟨-,⟨i1,i2⟩,-⟩:=HE.o;rcases(show j=0\/j=1 by omega)with rfl|rfl
   ·exact⟨lo,Gb hK (i:=0) rfl,i1,rfl⟩
   ·exact⟨hi,Gb hK (i:=1) rfl,i2,rfl⟩
  have ab:=ia aV;obtain⟨⟨b,R⟩,d,bz⟩:=e;have cA:=hx.e HA.o.1;have cC:=hx.e HA.o.2;dsimp only at cA cC;have d0:=ja cA 0 (I N b);have d1:=ja cA 1 (I N R);have d2:=ja cC 0 (I N d);have d3:=ja cC 1 (I N bz);have zA:=jc cA;have zC:=jc cC;obtain⟨xa,xm,xc,xs,bc,be,bd,x0,x1,x2,_,_,_,zx,rx⟩:=(aD.o.1.ext hx).rd;obtain⟨ya,ym,yc,ys,bf,bh,bg,y0,y1,y2,_,_,_,zy,ry⟩:=(aD.o.2.ext hx).rd;have aJ:=jc hK;have p0:(0:Int)<=(j:Int):=oM;have p1:(j:Int)<2:=oM;have aq:=ia (fun(W:M)(v1 v2:U)(hW:oa wr W)(q1:Aa W v1 [(b,R),(d,bz)])(q2:Aa W v2 [(b,z),(d,z)])=>gL W v1 v2 _ _ [(b,R),(d,bz)] [(b,z),(d,z)] x y q1 q2 (Om HE.o.1.1) (Om ⟨HE.o.1.1.1,kz,HE.o.1.1.2.2.1,kz⟩) (rx.ext hW) (ry.ext hW) (HE.o.2.2.1.up dM) (HE.o.2.2.2.up dM));clear aV kz rx ry hK hx cA cC;have aS:Rc (tg [(b,R),(d,bz)] [(b,z),(d,z)]) x y=[]\/∃q,Rc (tg [(b,R),(d,bz)] [(b,z),(d,z)]) x y=[q]:=by unfold Rc;split<;>simp
  obtain⟨cl,aO⟩:=gX (Rc (tg [(b,R),(d,bz)] [(b,z),(d,z)]) x y);dsimp only at ab;rw[aO]at aS aq ab;clear aO
  gi_wp2
  refine⟨trivial,(fun h=>by cases h),CallsIn.mono (CallsIn.inRound l (callsIn_wide.2 (aq.o _ _ _ (((eR wr).alloc _).alloc _) ((Rw wr rfl b R d bz).i ((eR _).alloc _)) (Rw _ (wZ wr _).symm b z d z)))) ?_⟩;rintro e9 s ⟨r,rfl,hr,aX⟩;dsimp only;obtain⟨ra,rm,rc,rs,g,o,n,rfl⟩:=hr.form;have X6:oa wr s:=(((eR wr).alloc _).alloc _).trans aX;have ar:=ia (Hx.o.trans X6);have aC:=ia (Ho.o.ext X6);have aB:=ia (X6.e HK.o);have Hr:=ia hr;clear d0 d1 d2 d3 x0 x1 x2 y0 y1 y2 cz aJ zx zy zA zC aq hr aX X6;rcases aS with rfl|⟨q,rfl⟩
  ·gi_wp2
   refine Handed.intro (2-(j+1)) oM (hJ _ _ _ ⟨⟨j+1,_,by omega,rfl,?_,rfl,?_,ar.o.alloc _,((eR s).alloc _).e aB.o,rfl,rfl⟩,⟨rfl,rfl,rfl,rfl,rfl,rfl,rfl,rfl,rfl⟩⟩)
   ·show (_:U)=_;go_num
   ·rw[ab.o,List.append_nil];exact aC.o.ext ((eR s).alloc _)
  ·have a4:(Di lo hi ((b,R),d,bz) x y j).length<=4:=by
    have h1:=Xt lo hi ((b,R),d,bz) x y;have h2:=Cu (tg [(b,R),(d,bz)] [(b,lo),(d,lo)]) x y;unfold Di;split
    ·simp
    ·simp only[lA,List.length_cons,List.length_nil];omega
    ·exact h1.2
   obtain⟨cs,aK,aL,aM⟩:=aC.o.ext ((eR s).alloc (Oa #[O ra rm rc,A rs,O g o n] 43));have aR:cs.length<=4:=oM;have aY:wc.heap.size<=s.heap.size:=ar.o.size;have Hc:=ia (And.intro aK (And.intro aL aM));have aZ:=ia aR;have aE:=ia aY;clear aK aL aM aR a4 aY
   gi_wp2_with(gi_at_builtin;refine iG (T:=43) (t:=123) (z:=Oc #[O Z 0 0,A false,O Z 0 0]) (k:=3) (bytes:=56) (base:=wc.heap.size) (v:=O a1 a6 a2) (m:=1) (c:=1) (ad:=⟨s.heap.size+1,0,Z⟩) Qv rfl dM dM Tryz.underlying123 rfl _ _ rfl rfl (Hc.o.1.ext ((eR _).alloc _)) rfl [[O ra rm rc,A rs,O g o n]] rfl sM (CE _ (wZ s _).symm _ _ _ _) (by simp[Value.oneCell']) (by have:=aZ.o;omega) (by have:=aE.o;simp only[wZ];omega) ?_;intro v' w8 p f a7;obtain⟨a9,n9,c9,rfl⟩:=p.j)
   have au:oa s (s.alloc (Oa #[O ra rm rc,A rs,O g o n] 43)):=(eR _).alloc _;have hA:oa (s.alloc (Oa #[O ra rm rc,A rs,O g o n] 43)) ((s.alloc (Oa #[O ra rm rc,A rs,O g o n] 43)).alloc (Oa #[O ra rm rc,A rs,O g o n] 43)):=(eR _).alloc _;have av:=Hc.o.1.ext hA;have a5:=hA.size;have a8:=aE.o;simp only[wZ]at a5;have a3:=Ch (base:=wc.heap.size) f (by simp only[wZ];omega) (fun k hk=>(av.lt k hk).1);have aQ:=hA.keep.trans (av.keepT (T':=2) dM f);refine Handed.intro (2-(j+1)) oM (hJ _ _ _ ⟨⟨j+1,_,by omega,rfl,?_,rfl,?_,((ar.o.trans au).trans hA).E a3 (nE _),?_,rfl,rfl⟩,⟨rfl,rfl,rfl,rfl,rfl,rfl,rfl,rfl,rfl⟩⟩)
   ·show (_:U)=_;go_num
   ·rw[ab.o];exact Zc.app p Hc.o.2.1 Hc.o.2.2 aQ ((Hr.o.ext au).keep aQ)
   ·exact(av.keepT (T':=3) dM f) _ _ _ ((au.trans hA).e aB.o)
 ·obtain rfl:j=2:=oM;clear hx hK
  gi_wp2
  exact HQ.o _ _ _ ⟨rfl,rfl,rfl,rfl,rfl,rfl,rfl,rfl,rfl⟩ rfl Ho.o Hx.o
section
variable {P:Program} {ops:Array Oper} {Q:Exit->Act->M->Prop}
def Wu{l n e:Nat}{a:Act}{w:M}(late:Nat->Bool)(S:M->Prop)(d:P.follows .mixedOrders=true)(c:fg ops=true)(b:S w.drew)(h:S w.drew->xi P .any ops (NQ Q) S late ops.size (Array.replicate ops.size false) a w.drew):(Code.region e ops true).wpIn (Fence.wide.inRound l) n P Q a w:=
 wpIn_region_any d (Xn c _ _ _ _ (Gu _ _ _ _ (h b (Cl.start _))))
end
def Gk(s:Nat):U:=.func (.func 120) #[] #[Ob (H ⟨s+1+1+1,0,Z⟩),Ob (H ⟨s+1+1+1+1,0,Z⟩)]
structure Vh (w:M) (v:U) (F T:Rat) (lo hi:Int) (q:Rat) (W:M):Prop where
 x:oa w W
 sz:w.heap.size+1+1+1+1+1+1+1+1+1<=W.heap.size
 ln:W.heap[w.heap.size]?=H (Oa #[v] 107 (0,0))
 fr:RB W (w.heap.size+1) F
 tt:RB W (w.heap.size+1+1) T
 lo:W.heap[w.heap.size+1+1+1]?=H (Oa #[I N lo] 3 (0,0))
 hi:W.heap[w.heap.size+1+1+1+1]?=H (Oa #[I N hi] 3 (0,0))
 rs:RB W (w.heap.size+1+1+1+1+1) 0
 fn:W.heap[w.heap.size+1+1+1+1+1+1]?=H (Oa #[Gk w.heap.size] 68 (0,0))
 sm:RB W (w.heap.size+1+1+1+1+1+1+1) q
section
variable {w W W':M} {v:U} {F T:Rat} {lo hi:Int} {q q':Rat}
def Vh.ext(h:Vh w v F T lo hi q W)(k:oa W W'):Vh w v F T lo hi q W':=
 ⟨h.x.trans k,nT h.sz k.size,k.e h.ln,h.fr.ext k,h.tt.ext k,k.e h.lo,k.e h.hi,h.rs.ext k,k.e h.fn,h.sm.ext k⟩
def Vh.sim{B:Nat}(h:Vh w v F T lo hi q W)(k:Uh B W W')(a:w.heap.size<=B):Vh w v F T lo hi q W':=
 ⟨k.ext h.x a,nT h.sz k.size,k.heap h.ln,h.fr.sim k,h.tt.sim k,k.heap h.lo,k.heap h.hi,h.rs.sim k,k.heap h.fn,h.sm.sim k⟩
def Vh.put(h:Vh w v F T lo hi q W){a j:Option Od}{m c l c2:Nat}{s:Bool}(o:La W (Oc #[O a m c,A s,O j l c2]) q')(b:((W.setCell ⟨w.heap.size+1+1+1+1+1+1+1,0,Z⟩ (O a m c)).setCell ⟨w.heap.size+1+1+1+1+1+1+1,1,Z⟩ (A s)).setCell ⟨w.heap.size+1+1+1+1+1+1+1,2,Z⟩ (O j l c2)=W'):Vh w v F T lo hi q' W'/\(∀D,KeepsFrom D W W')/\Mc w (w.heap.size+1+1+1+1+1+1+1+1) W W'/\∀(base:Nat)(u:U)(i:List Rat),w.heap.size+1+1+1+1+1+1+1<base->Zc W base u i->Zc W' base u i:=by
 have f:=h.sm.not;obtain⟨r,g,-,t,y⟩:=h.sm.put3 o b;have d:∀k,k≠w.heap.size+1+1+1+1+1+1+1->W'.heap[k]?=W.heap[k]?:=fun k z=>by
  rw[<-b,bS _ _ _ _ dO,bS _ _ _ _ dO,bS _ _ _ _ dO]
 refine⟨⟨y w h.x oM,by rw[t];exact h.sz,(d _ oM).trans h.ln,g _ _ oM h.fr,g _ _ oM h.tt,(d _ oM).trans h.lo,(d _ oM).trans h.hi,g _ _ oM h.rs,(d _ oM).trans h.fn,r⟩,fun D=>?_,?_,fun base u i e n=>?_⟩
 ·rw[<-b];exact(((KeepsOthers.setCell _ _ _).from _).trans ((KeepsOthers.setCell _ _ _).from _)).trans ((KeepsOthers.setCell _ _ _).from _)
 ·rw[<-b];exact(((Mc.refl w _ W).set dO dO _).set dO dO _).set dO dO _
 ·rw[<-b];exact((n.setOther (p:=⟨w.heap.size+1+1+1+1+1+1+1,0,Z⟩) e f _).setOther (p:=⟨w.heap.size+1+1+1+1+1+1+1,1,Z⟩) e (f.set _ _) _).setOther (p:=⟨w.heap.size+1+1+1+1+1+1+1,2,Z⟩) e ((f.set _ _).set _ _) _
end
def tC(s:Nat)(b:U)(a:Act):Prop:=a.tmps.size=120/\a.tmps.getD 5 undef=Ob (H ⟨s,0,Z⟩)/\a.tmps.getD 11 undef=Ob (H ⟨s+1+1+1+1+1+1,0,Z⟩)/\a.tmps.getD 12 undef=Ob (H ⟨s+1+1+1+1+1+1+1,0,Z⟩)/\a.tmps.getD 17 undef=b/\a.defers=[]
def TL(w c:M)(D base:Nat)(v:U)(F T:Rat)(lo hi:Int)(L:LP)(e:Rat)(S:List Rat)(b:U)(d:Nat)(a:Act)(W:M):Prop:=
 ∃k,k+1<=S.length/\d=S.length-(k+1)/\a.tmps.getD 22 undef=I N ((k+1:Nat):Int)/\Vh w v F T lo hi (e+qe lo hi L (S.take (k+1))) W/\Zc W base b S/\KeepsFrom D c W/\Mc w (w.heap.size+1+1+1+1+1+1+1+1) c W
def jF(l n0:Nat)(Q:Exit->Act->M->Prop)(w Wr w5:M)(D base g n c kq:Nat)(v:U)(F T:Rat)(lo hi:Int)(L:LP)(q0:Rat)(S:List Rat)(hL:Aa w v L)(hk:Fb L)(k1:Bd 104000 lo)(k2:Bd 104000 hi)(hS:∀s∈S,Rb 51 s)(aT:Rb kq q0)(aS:kq+3000<=Yb)(ag:1<=S.length/\S.length<=4)(hb:w.heap.size+1+1+1+1+1+1+1<base)(j:Vh w v F T lo hi q0 w5)(ho:Zc w5 base (O (H ⟨g,0,Z⟩) n c) S)(y:KeepsFrom D Wr w5)(R:Mc w (w.heap.size+1+1+1+1+1+1+1+1) Wr w5)(a0:Act)(h0:tC w.heap.size (O (H ⟨g,0,Z⟩) n c) a0)(aO:a0.tmps.getD 22 undef=I N (1:Int))(hQ:∀a' W,Vh w v F T lo hi (q0+qe lo hi L S) W->KeepsFrom D Wr W->Mc w (w.heap.size+1+1+1+1+1+1+1+1) Wr W->Q (.exit 4) a' W):(Code.loop (Yg Tryz.f51 1)).wpIn (Fence.wide.inRound l) n0 Tryz.prog Q a0 w5:=by
 have HQ:=ia hQ;have HS:=ia hS;have r:=ia (And.intro (And.intro k1 k2) (And.intro aT (And.intro aS (And.intro ag hb))));have HL:=ia (And.intro hL hk);clear hQ hS aT aS hL;obtain⟨va,vn,vc,rfl⟩:=Ia HL.o.1;unfold Yg;simp only[Tryz.f51,Xc,List.cons_append,List.nil_append,List.append_nil,List.getD_cons_succ,List.getD_cons_zero];have e0:q0+qe lo hi L (S.take 1)=q0:=by
  match S,ag with
  | s::t,_=>show q0+0=q0;grind
 refine wpIn_loop_ghost_k (fun gk a W=>TL w Wr D base (O va vn vc) F T lo hi L q0 S (O (H ⟨g,0,Z⟩) n c) gk a W/\tC w.heap.size (O (H ⟨g,0,Z⟩) n c) a) (S.length-1) ⟨⟨0,ag.1,rfl,aO,by rw[show 0+1=1 from rfl,e0];exact j,ho,y,R⟩,h0⟩ ?round;clear ho j h0 aO y R e0 k1 k2 ag hb;intro gk aa W hinv;obtain⟨tt,dd⟩:=aa;obtain⟨⟨k,hk,rfl,af,j,ho,y,R⟩,f0,f5,ac,ad,ae,aR⟩:=hinv;dsimp only at af f0 f5 ac ad ae aR;subst aR;obtain⟨u,hu,ht⟩:=jj tt 120 f0;simp only[hu]at af f5 ac ad ae;clear hu f0;subst ht;simp only[List.range,List.range.loop,List.map_cons,List.map_nil,af,f5,ac,ad,ae];clear af f5 ac ad ae;intro J K hJ bp;have hn:=Sl.len ho.rs;have Hn:=ia hn;have p:=ia j;have Ho:=ia ho;have Hk:=ia (And.intro y R);clear hn y R;by_cases br:k+1<S.length
 ·obtain⟨s,hs⟩:∃s,S[k]?=H s:=⟨S[k]' oM,by simp⟩;obtain⟨t,ht⟩:∃t,S[k+1]?=H t:=⟨S[k+1]' oM,by simp⟩;have d:=HS.o s (lM hs);have f:=HS.o t (lM ht);have aW:=vB (lo:=lo) (hi:=hi) L S k s t hs ht;have az:=ho.rs;obtain⟨g1,o1,ya,ym,yc,ys,bd,bf,be,ey,bh,ry,y0,y1,y2⟩:=az.at' hs;cases ey;obtain⟨g2,o2,xa,xm,xc,xt,ba,bc,bb,ex,-,rx,x0,x1,x2⟩:=az.at' ht;cases ex;simp only[Nat.zero_add]at y0 y1 y2 x0 x1 x2;obtain⟨qa,qm,qc,qs,aX,aZ,aY,z0,z1,z2,bl,bm,bn,zb,rq⟩:=j.sm.rd;have l0:=ja j.ln 0 (O va vn vc);have f0:=ja j.fn 0 (Gk w.heap.size);have aQ:=ja j.lo 0 (I N lo);have aP:=ja j.hi 0 (I N hi);unfold Gk at f0;have bq:k+1<n:=by have:=Hn.o;omega
  have bs:n<=4:=by have:=Hn.o;have:=r.o.2.2.2.1.2;omega
  have p3:(k:Int)<(n:Int):=oM;have p5:((k+1:Nat):Int)<(n:Int):=oM;have p2:(0:Int)<=(k:Int):=oM;have p6:(0:Int)<=((k+1:Nat):Int):=oM;have p7:(k:Int)+1<(n:Int):=oM;have p8:(0:Int)<=(k:Int)+1:=oM;have aM:IntKind.i64.wrap (k:Int)=(k:Int):=iW _ ⟨by omega,by omega⟩;have bo:IntKind.i64.wrap ((k:Int)+1-1)=(k:Int):=by rw[show (k:Int)+1-1=k by omega];exact aM
  have o:∀{z:Rat},Rb 51 z->Rb 59 (Me lo hi (Sb L z)):=fun hz=>Uv (hz.atR2 HL.o.2) dM r.o.1.1 r.o.1.2;have hX:∀W',oa W W'->oa w W':=fun W' m=>p.o.x.trans m;have aL:=ia (fun(W':M)(m:oa W W')=>Ak W' _ _ t s (rx.ext m) (ry.ext m) (od f dM) (od d dM));have aH:=ia (fun(W':M)(m:oa W W')=>tl W' _ _ L s (HL.o.1.i (hX W' m)) HL.o.2 (ry.ext m) (d.up dM));have aI:=ia (fun(W':M)(m:oa W W')=>tl W' _ _ L t (HL.o.1.i (hX W' m)) HL.o.2 (rx.ext m) (f.up dM));have ak:=ia (fun(W':M)(u:U)(z:Rat)(m:oa W W')(hu:La W' u z)(hz:Rb 57 z)=>WD W' u z lo hi _ _ hu hz (m.d aQ) (m.d aP) r.o.1.1 r.o.1.2);have aG:=ia (fun(W':M)(u1 u2:U)(h1:La W' u1 (Me lo hi (Sb L s)))(h2:La W' u2 (Me lo hi (Sb L t)))=>Tl W' u1 u2 _ _ h1 h2 (od (o d) dM) (od (o f) dM));have aJ:=ia (fun(W':M)(u1:U)(h1:La W' u1 (Me lo hi (Sb L s)+Me lo hi (Sb L t)))=>RH W' u1 _ h1 (((o d).add2 (o f)).up dM));have aK:=ia (fun(W':M)(u1 u2:U)(h1:La W' u1 (t-s))(h2:La W' u2 ((Me lo hi (Sb L s)+Me lo hi (Sb L t))/2))=>(show Calls Tryz.prog 23 #[u1,u2] W' (Id W' (Ig lo hi L s t))from rr W' u1 u2 _ _ h1 h2 (od (f.sub2 d) dM) (od ((o d).add2 (o f)).half dM)));have aU:Rb Yb (q0+qe lo hi L (S.take (k+1))):=by
   have h1:=Kt HL.o.2 r.o.1.1 r.o.1.2 (S.take (k+1)) (fun s hs=>HS.o s (List.mem_of_mem_take hs));refine(r.o.2.1.add2 h1).up ?_;have h2:(S.take (k+1)).length<=4:=by rw[List.length_take];omega
   have:=r.o.2.2.1;omega
  have aF:=ia (fun(W':M)(u2:U)(m:oa W W')(h2:La W' u2 (Ig lo hi L s t))=>Tl W' _ u2 _ _ (rq.ext m) h2 aU (od (Qy HL.o.2 r.o.1.1 r.o.1.2 d f) dM));have aV:=ia (And.intro (d.atR2 HL.o.2) (f.atR2 HL.o.2));have C0:Ca [(⟨w.heap.size+1+1+1+1+1+1+1,0,Z⟩,O qa qm qc),(⟨w.heap.size+1+1+1+1+1+1+1,1,Z⟩,A qs),(⟨w.heap.size+1+1+1+1+1+1+1,2,Z⟩,O aX aZ aY),(⟨w.heap.size,0,Z⟩,O va vn vc),(⟨w.heap.size+1+1+1+1+1+1,0,Z⟩,.func (.func 120) #[] #[Ob (H ⟨w.heap.size+1+1+1,0,Z⟩),Ob (H ⟨w.heap.size+1+1+1+1,0,Z⟩)]),(⟨g,k*3,Z⟩,O ya ym yc),(⟨g,k*3+1,Z⟩,A ys),(⟨g,k*3+2,Z⟩,O bd bf be),(⟨g,(k+1)*3,Z⟩,O xa xm xc),(⟨g,(k+1)*3+1,Z⟩,A xt),(⟨g,(k+1)*3+2,Z⟩,O ba bc bb)] W.drew:=
   ⟨z0,z1,z2,l0,f0,y0,y1,y2,x0,x1,x2,trivial⟩
  have bg:=ia aW;clear hs ht d f aW az rx ry rq l0 f0 aQ aP o hX aU z0 z1 z2 bl bm bn y0 y1 y2 x0 x1 x2 j ho bh
  gi_wp2
  refine Wu (fun i=>decide (31<i)) (Ca [(⟨w.heap.size+1+1+1+1+1+1+1,0,Z⟩,O qa qm qc),(⟨w.heap.size+1+1+1+1+1+1+1,1,Z⟩,A qs),(⟨w.heap.size+1+1+1+1+1+1+1,2,Z⟩,O aX aZ aY),(⟨w.heap.size,0,Z⟩,O va vn vc),(⟨w.heap.size+1+1+1+1+1+1,0,Z⟩,.func (.func 120) #[] #[Ob (H ⟨w.heap.size+1+1+1,0,Z⟩),Ob (H ⟨w.heap.size+1+1+1+1,0,Z⟩)]),(⟨g,k*3,Z⟩,O ya ym yc),(⟨g,k*3+1,Z⟩,A ys),(⟨g,k*3+2,Z⟩,O bd bf be),(⟨g,(k+1)*3,Z⟩,O xa xm xc),(⟨g,(k+1)*3+1,Z⟩,A xt),(⟨g,(k+1)*3+2,Z⟩,O ba bc bb)]) kM kM C0 (fun b=>?_);refine Ae (i:=0) ?_;refine Ae (i:=1) ?_;refine Ae (i:=2) ?_;refine Ae (i:=3) ?_;refine Ae (i:=4) ?_;refine Ae (i:=5) ?_;refine Ae (i:=6) ?_;refine Ae (i:=7) ?_;refine Ae (i:=8) ?_;refine Ae (i:=9) ?_;refine Ae (i:=11) ?_;refine Ae (i:=12) ?_;refine Ae (i:=13) ?_;refine Ae (i:=14) ?_;refine Ae (i:=15) ?_;refine Ae (i:=16) ?_;refine Ae (i:=17) ?_;refine Ae (i:=20) ?_;refine Ae (i:=21) ?_;refine Ae (i:=22) ?_;refine Ae (i:=23) ?_;refine Ae (i:=24) ?_;refine Ae (i:=25) ?_;have D0:oa W W.drew:=(eR W).drew;refine Th (i:=10) (aL.o _ D0) ?_;rintro e w1 ⟨r1,rfl,ao,aA⟩;obtain⟨a1,m1,c1,s1,b1,n1,k1,rfl⟩:=ao.form;refine⟨_,rfl,(cE b aA),fun b=>?_⟩;have D1:oa W w1:=D0.trans aA;refine Th (i:=18) (aH.o _ D1) ?_;rintro e w2 ⟨r2,rfl,ap,ah⟩;obtain⟨a2,m2,c2,s2,b2,n2,k2,rfl⟩:=ap.form;refine⟨_,rfl,(cE b ah),fun b=>?_⟩;have D2:oa W w2:=D1.trans ah;refine Th (i:=19) (ak.o _ _ _ D2 ap aV.o.1) ?_;rintro e w3 ⟨r3,rfl,aq,ai⟩;obtain⟨a3,m3,c3,s3,b3,n3,k3,rfl⟩:=aq.form;refine⟨_,rfl,(cE b ai),fun b=>?_⟩;have D3:oa W w3:=D2.trans ai;refine Th (i:=26) (aI.o _ D3) ?_;rintro e w4 ⟨r4,rfl,ar,ab⟩;obtain⟨a4,m4,c4,s4,b4,n4,k4,rfl⟩:=ar.form;refine⟨_,rfl,(cE b ab),fun b=>?_⟩;have D4:oa W w4:=D3.trans ab;refine Th (i:=27) (ak.o _ _ _ D4 ar aV.o.2) ?_;rintro e w6 ⟨r5,rfl,au,aj⟩;obtain⟨a5,m5,c5,s5,b5,n5,k5,rfl⟩:=au.form;refine⟨_,rfl,(cE b aj),fun b=>?_⟩;refine Th (i:=28) (aG.o _ _ _ (aq.ext (ab.trans aj)) au) ?_;rintro e w7 ⟨r6,rfl,av,aB⟩;obtain⟨a6,m6,c6,s6,b6,n6,k6,rfl⟩:=av.form;refine⟨_,rfl,(cE b aB),fun b=>?_⟩;refine Th (i:=29) (aJ.o _ _ av) ?_;rintro e w8 ⟨r7,rfl,aw,aC⟩;obtain⟨a7,m7,c7,s7,b7,n7,k7,rfl⟩:=aw.form;refine⟨_,rfl,(cE b aC),fun b=>?_⟩;have al:oa w1 w8:=ah.trans (ai.trans (ab.trans (aj.trans (aB.trans aC))));refine Th (i:=30) (aK.o _ _ _ (ao.ext al) aw) ?_;rintro e w9 ⟨r8,rfl,ax,aD⟩;obtain⟨a8,m8,c8,s8,b8,n8,k8,rfl⟩:=ax.form;refine⟨_,rfl,(cE b aD),fun b=>?_⟩;have D9:oa W w9:=D1.trans (al.trans aD);refine Th (i:=31) (aF.o _ _ D9 ax) ?_;rintro e wa ⟨r9,rfl,ay,aE⟩;obtain⟨a9,m9,c9,s9,b9,n9,k9,rfl⟩:=ay.form;refine⟨_,rfl,(cE b aE),fun b=>?_⟩;have Da:oa W wa:=D9.trans aE;have am:=p.o.ext Da;obtain⟨_,_,_,_,_,_,_,_,_,_,bi,bj,bk,zo,_⟩:=am.sm.rd;obtain⟨o0,o1,o2,-⟩:=b;refine Ah (i:=32) fun K hK=>?_;go_simp;refine kO hK (fun h=>nomatch h) (fun b=>?_);clear hK K;refine Le kM ?_ _;unfold NQ;obtain⟨W',an⟩:∃W',((wa.setCell ⟨w.heap.size+1+1+1+1+1+1+1,0,Z⟩ (O a9 m9 c9)).setCell ⟨w.heap.size+1+1+1+1+1+1+1,1,Z⟩ (A s9)).setCell ⟨w.heap.size+1+1+1+1+1+1+1,2,Z⟩ (O b9 n9 k9)=W':=⟨_,rfl⟩;rw[an];obtain⟨g1,g2,g3,g4⟩:=am.put ay an;have G:=ia (And.intro g1 (And.intro (g4 base _ S r.o.2.2.2.2 (Ho.o.ext Da)) (And.intro ((Hk.o.1.trans (il Da)).trans (g2 D)) ((Hk.o.2.ext Da p.o.x.size (by have:=p.o.sz;omega)).trans g3))));clear am an g1 g2 g3 g4 bi bj bk zo o0 o1 o2 Da D9 D4 D3 D2 D1 D0 al aA ah ai ab aj aB aC aD aE ao ap aq ar au av aw ax ay aL aH aI ak aG aJ aK aF
  gi_wp2
  refine Handed.intro (S.length-(k+1+1)) oM (hJ _ _ _ ⟨⟨k+1,by omega,rfl,?_,?_,G.o.2.1,G.o.2.2.1,G.o.2.2.2⟩,⟨rfl,rfl,rfl,rfl,rfl,rfl⟩⟩)
  ·show (_:U)=_;go_num
  ·rw[show k+1+1=k+2 from rfl,bg.o,<-Rat.add_assoc];exact G.o.1
 ·have e:S.take (k+1)=S:=lT oM;rw[e]at p;have p3:¬((k+1:Nat):Int)<(n:Int):=by have:=Hn.o;omega
  have p4:¬(k:Int)+1<(n:Int):=by have:=Hn.o;omega
  clear j ho e
  gi_wp2
  exact HQ.o _ _ p.o Hk.o.1 Hk.o.2
section
variable {P:Program} {ops:Array Oper} {Q:Exit->Act->M->Prop}
def kL{l n u:Nat}{a:Act}{w:M}(b:List (Nat×Tmp×Obj))(L:List (Od×U))(k m:Nat)(late c:Nat->Bool)(s:P.follows .mixedOrders=true)(o:fg ops=true)(d:Rg .any ops (b.map qn) late c m=true)(p:ops.size=k+b.length)(f:b≠[])(e:Region.noSelect ops=true)(r:∀x∈b,Kn P ops x.1 x.2.2)(g:Ca L w.drew)(h:Ca L w.drew->Mn P .any ops (NQ Q) c b w.drew (Ca L) k [] (Array.replicate ops.size false) a w.drew):(Code.region u ops true).wpIn (Fence.wide.inRound l) n P Q a w:=by obtain⟨_,i,_,_,_⟩:=Lu d;have j:=Zv (w0:=w.drew) (S:=Ca L) d f e r (fun _ _ _ _ _ h=>h) (fun _ h=>cE g h) ops.size k [] (Array.replicate ops.size false) a w.drew w.drew [] b (h g) sM (eR _) (eR _) sM p (Cl.start _) sM (fun x t=>by simp[(i x t).2.2.2.1]) sM sM (Cl.start _);exact wpIn_region_any s (Xn o _ _ _ _ (wpAny_of_held _ _ _ _ j))
end
def UE(W:M){a f e g:Option Od}{m c l c2 n k o j:Nat}{s t:Bool}{p q:Rat}(u:La W (Oc #[O a m c,A s,O f l c2]) p)(y:La W (Oc #[O e n k,A t,O g o j]) q):Zc (W.alloc (Oa #[O a m c,A s,O f l c2,O e n k,A t,O g o j] 43)) W.heap.size (O (H ⟨W.heap.size,0,Z⟩) 2 2) [p,q]:=by
 have r:oa W (W.alloc (Oa #[O a m c,A s,O f l c2,O e n k,A t,O g o j] 43)):=(eR W).alloc _;refine⟨[[O a m c,A s,O f l c2],[O e n k,A t,O g o j]],⟨by simp,by simp,.inr ⟨W.heap.size,2,_,rfl,nE _,aN W _,by simp,by unfold maxLen;decide,by simp,by simp⟩⟩,rfl,fun i z x b d=>?_⟩
 match i,b,d with
 | 0,b,d=>cases b;cases d;exact u.ext r
 | 1,b,d=>cases b;cases d;exact y.ext r
 | i+2,b,d=>simp at b
abbrev BR(ps:LP):={ e:Md // Nn e/\e∈yb ps }
def XL{ps:LP}(s:Nat)(e:BR ps)(a:Act)(W:M):Prop:=
 ∃B,s+1+1+1+1+1+1+1+1+1<=B/\W.heap[B]?=H (Oa #[I N e.1.1.1,I N e.1.1.2] 55 (0,0))/\W.heap[B+1]?=H (Oa #[I N e.1.2.1,I N e.1.2.2] 55 (0,0))/\
  a.tmps.size=120/\a.tmps.getD 5 undef=Ob (H ⟨s,0,Z⟩)/\a.tmps.getD 6 undef=Ob (H ⟨s+1,0,Z⟩)/\a.tmps.getD 7 undef=Ob (H ⟨s+1+1,0,Z⟩)/\a.tmps.getD 8 undef=Ob (H ⟨s+1+1+1,0,Z⟩)/\a.tmps.getD 9 undef=Ob (H ⟨s+1+1+1+1,0,Z⟩)/\
  a.tmps.getD 11 undef=Ob (H ⟨s+1+1+1+1+1+1,0,Z⟩)/\a.tmps.getD 12 undef=Ob (H ⟨s+1+1+1+1+1+1+1,0,Z⟩)/\a.tmps.getD 13 undef=Ob (H ⟨B,0,Z⟩)/\a.tmps.getD 14 undef=Ob (H ⟨B+1,0,Z⟩)/\a.defers=[]
def uC{ps:LP}(w:M)(v:U)(lo hi px qx:Int)(pre:List (BR ps))(W:M):Prop:=
 Vh w v (px:Rat) (qx:Rat) lo hi (qb (Eb (lo:Rat) (hi:Rat) (px:Rat) (qx:Rat)) (pre.map (·.1))) W
def Vy(w:M)(v vf vt:U)(ps:LP)(lo hi px qx:Int)(h:Aa w v ps)(aF:Fb ps)(hr:Bb ps)(hx:La w vf (px:Rat))(ht:La w vt (qx:Rat))(hw:uh lo hi px qx):Calls Tryz.prog 51 #[v,vf,vt,I N lo,I N hi] w (Id w (qb (Eb (lo:Rat) (hi:Rat) (px:Rat) (qx:Rat)) (yb ps))):=by
 have cT:∀(fn:Fn)(first cap:Array U)(w:M),(Instr.makeFunc fn first cap).run Tryz.prog w = .ok (.func fn first cap) w:=fun _ _ _ _=>rfl;obtain⟨a,c,rfl⟩:=h.form;obtain⟨xa,xm,xc,xs,cB,cD,cC,rfl⟩:=hx.form;obtain⟨ya,ym,yc,ys,cF,cH,cG,rfl⟩:=ht.form;have Hw:=ia hw;have HL:=ia (And.intro h (And.intro aF hr));obtain⟨n,hn⟩:=gX ps.length;rw[hn]at h HL ⊢;obtain⟨es,a6⟩:∃es:List (BR ps),es.map (fun e=>e.1)=yb ps:=⟨(yb ps).attachWith (fun e=>Nn e/\e∈yb ps) (fun e he=>⟨⟨pl aF.2.1 he,Oo hr he⟩,he⟩),jl _⟩;have b1:=ia a6;have bI:es.length<=64:=by
  have:=congrArg List.length a6;rw[lL,Xq]at this;have:=aF.2.2;omega
 have b0:=ia bI;clear aF hn bI hw hr;refine(callsIn_wide (n:=5)).1 ?_;refine callsIn_of_wp_marks Tryz.func51 rfl trivial ?_ rfl;simp only[Tryz.ntmps51,List.size_toArray,List.length_cons,List.length_nil,Nat.reduceAdd,Nat.reduceSub,Array.replicate_succ,Array.replicate_zero,List.push_toArray,List.append_toArray,List.nil_append,List.cons_append]
 gi_wp2_with(refine⟨trivial,?_⟩;gi_at_call 116;refine(callsIn_wide.2 (Au _ _ _ _)).mono ?_;rintro e w' ⟨rfl,rfl⟩)
 obtain⟨W0,b⟩:=gX ((((((((((w.alloc (Oa #[O a n c] 107)).alloc (Oa #[O xa xm xc,A xs,O cB cD cC] 43)).alloc (Oa #[O ya ym yc,A ys,O cF cH cG] 43)).alloc (Oa #[I N lo] 3)).alloc (Oa #[I N hi] 3)).alloc (Oa #[O Z 0 0,A false,O Z 0 0] 43)).alloc (Oa #[Gk w.heap.size] 68)).alloc (Oa #[O Z 0 0,A false,O Z 0 0] 43)).alloc (Oa #[O a n c] 107)));have bV:oa w W0:=by rw[<-b];exact(((((((((eR w).alloc _).alloc _).alloc _).alloc _).alloc _).alloc _).alloc _).alloc _).alloc _
 have cV:W0.heap.size=w.heap.size+1+1+1+1+1+1+1+1+1:=by rw[<-b];simp
 have cf:W0.cell? ⟨w.heap.size+1+1+1+1+1+1+1+1,0,Z⟩=H (O a n c):=by rw[<-b,World.cell?_alloc_at _ _ _ _ sM];rfl
 have cd:uC (ps:=ps) w (O a n c) lo hi px qx [] W0:=by
  refine⟨bV,by omega,?_,?_,?_,?_,?_,?_,?_,?_⟩
  ·rw[<-b];exact(((((((((eR _).alloc _).alloc _).alloc _).alloc _).alloc _).alloc _).alloc _).alloc _).e (aN w _)
  ·rw[<-b];exact(RB.new (hx.ext ((eR w).alloc _)) sM).ext ((((((((eR _).alloc _).alloc _).alloc _).alloc _).alloc _).alloc _).alloc _)
  ·rw[<-b];exact(RB.new (ht.ext (((eR w).alloc _).alloc _)) sM).ext (((((((eR _).alloc _).alloc _).alloc _).alloc _).alloc _).alloc _)
  ·rw[<-b];exact((((((eR _).alloc _).alloc _).alloc _).alloc _).alloc _).e (Kc _ _ _ sM)
  ·rw[<-b];exact(((((eR _).alloc _).alloc _).alloc _).alloc _).e (Kc _ _ _ sM)
  ·rw[<-b];exact(RB.new (La.zero _) sM).ext ((((eR _).alloc _).alloc _).alloc _)
  ·rw[<-b];exact(((eR _).alloc _).alloc _).e (Kc _ _ _ sM)
  ·rw[<-b];exact(RB.new (La.zero _) sM).ext ((eR _).alloc _)
 unfold Gk at b;rw[b];clear b;refine wpIn_rangeFunc_ownH rfl dM (gf:=179) (lb:=#[Ob (H ⟨w.heap.size+1+1+1+1+1+1+1+1,0,Z⟩)]) rfl trivial (enters_of Tryz.func179 kM rfl)
  (Mu (fun e:BR ps=>e.1) _ dM (w.heap.size+1+1+1+1+1+1+1+1) w _ _ ps es a6 cf oM h bV) Mc.trans (Mc.put oM oM) (Below.refl _ _) (fun _=>rfl)
  (uC w (O a n c) lo hi px qx) (fun _ _ _=>False) (Zh (fun s W h=>by have:=h.sz;omega) (fun s W W' h k=>h.sim k oM)) (fun c=>Zh (fun s W h=>h.elim) (fun s W W' h k=>h.elim)) cd
  (fun e a' W=>XL w.heap.size e a' W) (fun e a'=>Zh (fun s W h=>by obtain⟨B,h1,h2,h3,_⟩:=h;have:=jc h2;omega) (fun s W W' h k=>by obtain⟨B,h1,h2,h3,h4⟩:=h;exact⟨B,h1,k.heap h2,k.heap h3,h4⟩)) ?assign ?body ?done ?stop
 case assign =>
  rintro l pre e W K hI d;unfold Oh
  gi_wp2
  have t:oa W ((W.alloc (Oa #[I N e.1.1.1,I N e.1.1.2] 55)).alloc (Oa #[I N e.1.2.1,I N e.1.2.2] 55)):=((eR W).alloc _).alloc _;have aH:=Vh.sz hI;refine d _ _ (((KeepsOthers.alloc _ _).trans (KeepsOthers.alloc _ _)).from _) ((Mc.refl _ _ W).ext t (Vh.x hI).size oM) (Vh.ext hI t) ⟨W.heap.size,aH,xu W _ _,uu W _ _,rfl,rfl,rfl,rfl,rfl,rfl,rfl,rfl,rfl,rfl,rfl⟩
 case body =>
  rintro l pre e a' W hl ⟨r,cU⟩ hI hA cS;obtain⟨tt,dd⟩:=a';obtain⟨B,hB,q1,q2,g0,g5,g6,g7,g8,g9,ay,aA,aB,aC,gd⟩:=hA;dsimp only at g0 g5 g6 g7 g8 g9 ay aA aB aC gd;subst gd;obtain⟨u,hu,bd⟩:=jj tt 120 g0;simp only[hu]at g5 g6 g7 g8 g9 ay aA aB aC;clear hu g0;subst bd;simp only[List.range,List.range.loop,List.map_cons,List.map_nil,g5,g6,g7,g8,g9,ay,aA,aB,aC];clear g5 g6 g7 g8 g9 ay aA aB aC;obtain⟨⟨⟨ax,az⟩,bx,bz⟩,t,bL⟩:=e;dsimp only at q1 q2;have ai:Vh w (O a n c) (px:Rat) (qx:Rat) lo hi (qb (Eb (lo:Rat) (hi:Rat) (px:Rat) (qx:Rat)) (pre.map (·.1))) W:=hI;obtain⟨q0,aG⟩:=gX (qb (Eb (lo:Rat) (hi:Rat) (px:Rat) (qx:Rat)) (pre.map (·.1)));have bM:Rb (898*64+1) q0:=by
   rw[<-aG];refine(qt Hw.o (fun e he=>?_)).up ?_
   ·obtain⟨x,-,rfl⟩:=List.mem_map.1 he;exact x.2.1
   ·rw[lL];have:=b0.o;omega
  have bo:=ia aG;rw[aG]at ai;have R:=ia ai;have b2:=ia bM;have HP:=ia (And.intro q1 q2);obtain⟨fa,fm,fc,fs,b8,cc,ca,r0,r1,r2,_,_,_,zf,aE⟩:=ai.fr.rd;obtain⟨ta,tm,tc,ts,cu,cw,cv,t0,t1,t2,_,_,_,zt,bP⟩:=ai.tt.rd;have e0:=ja q1 0 (I N ax);have e2:=ja q2 0 (I N bx);have bj:=ia (fun W=>vi W ax (by have:=t.1.1;unfold Bd at this;dsimp only at this;omega) (by have:=t.1.1;unfold Bd at this;dsimp only at this;omega));have bk:=ia (fun W=>vi W bx (by have:=t.1.2.2.1;unfold Bd at this;dsimp only at this;omega) (by have:=t.1.2.2.1;unfold Bd at this;dsimp only at this;omega));have bf:∀{x y:Rat},Rb 1 x->Rb 1 y->∀q∈[x,y],Rb Yb q:=fun hx hy q hq=>by
   simp only[List.mem_cons,List.not_mem_nil,or_false]at hq;rcases hq with rfl|rfl
   ·exact od hx dM
   ·exact od hy dM
  have aY:=ia (fun(W:M)(v:U)(h:Wf W v [(px:Rat),(ax:Rat)])=>(show Calls Tryz.prog _ #[v] W (Id W (ve px ((ax,az),bx,bz)))from So W v _ h (bf (me Hw.o.1.2.2.1) (me t.1.1))));have aX:=ia (fun(W:M)(v:U)(h:Wf W v [(qx:Rat),(bx:Rat)])=>(show Calls Tryz.prog _ #[v] W (Id W (Xi qx ((ax,az),bx,bz)))from Ro W v _ h (bf (me Hw.o.1.2.2.2) (me t.1.2.2.1))));obtain⟨k1,k2⟩:=Ax Hw.o t;obtain⟨X,hX⟩:=gX (ve px ((ax,az),bx,bz));obtain⟨Y,hY⟩:=gX (Xi qx ((ax,az),bx,bz));rw[hX]at aY k1;rw[hY]at aX k2;have f:=ia (And.intro (And.intro hX hY) (And.intro k1 k2));have bl:=ia aE;have bp:=ia bP;have C0:Ca [(⟨w.heap.size+1,0,Z⟩,O fa fm fc),(⟨w.heap.size+1,1,Z⟩,A fs),(⟨w.heap.size+1,2,Z⟩,O b8 cc ca),(⟨w.heap.size+1+1,0,Z⟩,O ta tm tc),(⟨w.heap.size+1+1,1,Z⟩,A ts),(⟨w.heap.size+1+1,2,Z⟩,O cu cw cv),(⟨B,0,Z⟩,I N ax),(⟨B+1,0,Z⟩,I N bx)] W.drew:=⟨r0,r1,r2,t0,t1,t2,e0,e2,trivial⟩;clear aG bM bf hX hY k1 k2 aE bP r0 r1 r2 t0 t1 t2 e0 e2 q1 q2 ai hI
  gi_wp2
  refine kL [(12,15,Oa #[O Z 0 0,A false,O Z 0 0] 43 (0,0)),(13,16,Oa #[O Z 0 0,A false,O Z 0 0] 43 (0,0))] _ 14 4 (fun i=>decide (13<i)) (fun _=>false) kM kM kM kM sM kM (by intro x hx;simp only[List.mem_cons,List.not_mem_nil,or_false]at hx;rcases hx with rfl|rfl<;>exact⟨_,rfl,rfl,fun a W=>by go_simp⟩) C0 (fun a0=>?_);refine pg (i:=0) ?_;refine pg (i:=1) ?_;refine pg (i:=2) ?_;refine pg (i:=6) ?_;refine pg (i:=7) ?_;refine pg (i:=8) ?_;refine li (i:=3) fun W3 bB bC m K d=>?_;go_simp;refine cM (bj.o _) ?_;rintro e w3 ⟨r3,rfl,a7,bW⟩;obtain⟨a3,m3,c3,s3,b3,n3,k3,rfl⟩:=a7.form;go_wp2;refine kO d (.of bC bW) (fun _ _=>?_);clear d K m;refine li (i:=4) fun W4 aO aR m K d=>?_;go_simp;refine kO d (.of aR ((eR _).alloc _)) (fun _ _=>?_);clear d K m;have R4:=Zk W4 rfl (bl.o.ext ((eR W).drew.trans aR)) (a7.ext aO);refine li (i:=5) fun W5 aP bD m K d=>?_;go_simp;refine cM (aY.o _ _ (R4.i aP)) ?_;rintro e w5 ⟨r5,rfl,a8,bX⟩;obtain⟨a5,m5,c5,s5,b5,n5,k5,rfl⟩:=a8.form;go_wp2;refine kO d (.of bD bX) (fun _ _=>?_);clear d K m;refine li (i:=9) fun W9 aQ bE m K d=>?_;go_simp;refine cM (bk.o _) ?_;rintro e w9 ⟨r9,rfl,ba,af⟩;obtain⟨a9,m9,c9,s9,b9,n9,k9,rfl⟩:=ba.form;go_wp2;refine kO d (.of bE af) (fun _ _=>?_);clear d K m;refine li (i:=10) fun Wa aj aS m K d=>?_;go_simp;refine kO d (.of aS ((eR _).alloc _)) (fun _ _=>?_);clear d K m;have bs:=Zk Wa rfl (bp.o.ext ((eR W).drew.trans aS)) (ba.ext aj);refine li (i:=11) fun Wb ak bF m K d=>?_;go_simp;refine cM (aX.o _ _ (bs.i ak)) ?_;rintro e wb ⟨rb,rfl,bc,be⟩;obtain⟨ab,mb,cb,sb,bb,nb,kb,rfl⟩:=bc.form;go_wp2;refine kO d (.of bF be) (fun _ _=>?_);clear d K m;refine df kM (fun V a2 aD=>?_);intro aa j5 y5 _ _ ac j6 y6 aI _;have aI:ac≠aa:=by simpa using aI
  have hd:=((a8.ext aQ).ext (af.trans aj)).ext (((eR Wa).alloc _).trans (ak.trans (be.trans a2)));have he:=bc.ext a2;have YV:oa W V:=(eR W).drew.trans aD;have kf:=Vb j5;have kg:=Vb j6;have g0:=ja j5 0 (O Z 0 0);have g1:=ja j5 1 (A false);have g2:=ja j5 2 (O Z 0 0);have g3:=ja j6 0 (O Z 0 0);have g4:=ja j6 1 (A false);have g5:=ja j6 2 (O Z 0 0);clear bB aO aP aQ aj ak a2 bW bX af be a7 a8 ba bc R4 bs bj bk aY aX bl bp;refine Je (i:=14) fun K d=>?_;go_simp;refine kO d (cE a0 (by(repeat refine oa.set ?_ (by first|exact y5|exact y6) _);exact aD)) (fun bv=>?_);clear d K;refine Je (i:=15) fun K d=>?_;go_simp;refine kO d (cE a0 (by(repeat refine oa.set ?_ (by first|exact y5|exact y6) _);exact aD)) (fun bv=>?_);clear d K;refine Wd ?_;unfold NQ;clear g0 g1 g2 g3 g4 g5 kf kg bv;obtain⟨W7,a1⟩:=gX (Xg (Xg V aa 0 [O a5 m5 c5,A s5,O b5 n5 k5]) ac 0 [O ab mb cb,A sb,O bb nb kb]);have e7:(((((V.setCell ⟨aa,0,Z⟩ (O a5 m5 c5)).setCell ⟨aa,1,Z⟩ (A s5)).setCell ⟨aa,2,Z⟩ (O b5 n5 k5)).setCell ⟨ac,0,Z⟩ (O ab mb cb)).setCell ⟨ac,1,Z⟩ (A sb)).setCell ⟨ac,2,Z⟩ (O bb nb kb)=W7:=a1;rw[e7];have TB:=Lr (cs:=[O Z 0 0,A false,O Z 0 0]) (ds:=[O Z 0 0,A false,O Z 0 0]) [O a5 m5 c5,A s5,O b5 n5 k5] [O ab mb cb,A sb,O bb nb kb] j5 j6 aI rfl rfl;rw[a1]at TB;obtain⟨ag,ah,-,tk,te⟩:=TB;simp only[Tb]at y5 y6;have X7:=te W YV y5 y6;have ki:=tk 2 dM dM;have bw:RB W7 aa X:=⟨_,_,_,_,_,_,_,ag,hd.keep ki⟩;have bA:RB W7 ac Y:=⟨_,_,_,_,_,_,_,ah,he.keep ki⟩;have bg:=ia bw;have bh:=ia bA;have aZ:=ia X7;have c0:=ja ag 0 (O a5 m5 c5);have c1:=ja ag 1 (A s5);have c2:=ja ag 2 (O b5 n5 k5);have c3:=ja ah 0 (O ab mb cb);have c4:=ja ah 1 (A sb);have bu:=ja ah 2 (O bb nb kb);have am:=ia (Mi W7 _ _ X Y (hd.keep ki) (he.keep ki) (od f.o.2.1 dM) (od f.o.2.2 dM));obtain⟨T,hT⟩:=gX (Pb X Y);rw[hT]at am;have HT:=ia hT;clear hT bw bA X7 ki tk te ag ah e7 a1 YV aD hd he j5 j6 y5 y6 aI a0;by_cases hn:0<=T
  ·gi_wp2
   refine⟨trivial,CallsIn.mono (CallsIn.inRound l (callsIn_wide.2 am.o)) ?_⟩;rintro e9 z ⟨rfl,j⟩;dsimp only;have X8:=aZ.o.trans j
   gi_wp2
   have hz:¬ve px ((ax,az),bx,bz)<Xi qx ((ax,az),bx,bz):=by
    rw[f.o.1.1,f.o.1.2];intro h9;have:=(xl X Y).2 h9;rw[HT.o]at this;omega
   have aH:=R.o.sz;refine⟨il X8,(Mc.refl _ _ W).ext X8 R.o.x.size oM,?_⟩;show Vh w _ _ _ lo hi (qb _ ((pre++[_]).map _)) z;rw[List.map_append,List.map_cons,List.map_nil,Wt,bo.o,rA Hw.o t.2 hz,Rat.add_zero];exact R.o.ext X8
  ·have bY:ve px ((ax,az),bx,bz)<Xi qx ((ax,az),bx,bz):=by
    rw[f.o.1.1,f.o.1.2];refine(xl X Y).1 ?_;rw[HT.o];omega
   have b4:=ia bY;clear bY
   gi_wp2
   refine⟨trivial,CallsIn.mono (CallsIn.inRound l (callsIn_wide.2 am.o)) ?_⟩;rintro e9 z ⟨rfl,j⟩;dsimp only;have X8:=aZ.o.trans j;have S8:=R.o.ext X8;have d0:=j.d c0;have d1:=j.d c1;have d2:=j.d c2;have d3:=j.d c3;have d4:=j.d c4;have d5:=j.d bu;have zl:=ja S8.lo 0 (I N lo);have zh:=ja S8.hi 0 (I N hi);have cI:=S8.sz;have aL:=World.block_lt_of_cell? z _ d0;have aM:=World.block_lt_of_cell? z _ d3;dsimp only at aL aM;have an:=ia X8;have aJ:=ia (bg.o.ext j);have aK:=ia (bh.o.ext j);obtain⟨cW,cY,cX,cZ,cK,cN,cL,x0,x1,x2,_,_,_,-,bT⟩:=aJ.o.rd;obtain⟨c6,c8,c7,da,cO,cQ,cP,y0,y1,y2,_,_,_,-,bU⟩:=aK.o.rd;rw[d0]at x0;cases x0;rw[d1]at x1;cases x1;rw[d2]at x2;cases x2;rw[d3]at y0;cases y0;rw[d4]at y1;cases y1;rw[d5]at y2;cases y2;have bq:=ia (And.intro bT bU);have cj:w.heap.size+1+1+1+1<z.heap.size:=oM;have ck:w.heap.size+1+1+1<z.heap.size:=oM;clear bT bU bg bh aZ j X8 S8 c0 c1 c2 c3 c4 bu am
   gi_wp2
   refine kF l _ _ z _ _ _ _ B (B+1) aa ac (z.heap.size+1) lo hi ((ax,az),bx,bz) X Y (O (H ⟨z.heap.size,0,Z⟩) 2 2) (an.o.e HP.o.1) (an.o.e HP.o.2) aJ.o aK.o t Hw.o.1.1 Hw.o.1.2.1 f.o.2.1 f.o.2.2 (((eR _).alloc _).alloc _) ((UE z bq.o.1 bq.o.2).ext ((eR _).alloc _)) (Kc _ _ _ sM) _ ⟨rfl,rfl,rfl,rfl,rfl,rfl,rfl,rfl,rfl⟩ rfl rfl rfl rfl (fun a' W9 v aE aw al af=>?_);obtain⟨tt,dd⟩:=a';obtain⟨f0,f5,ao,ap,aq,ar,au,av,bH⟩:=aE;have bN:=Xt lo hi ((ax,az),bx,bz) X Y;have ad:=Sy Hw.o t;rw[f.o.1.1,f.o.1.2]at ad;obtain⟨va,vn,vc,rfl⟩:=Ia al.rs;obtain⟨tb,rfl⟩:∃tb,va=H ⟨tb,0,Z⟩:=by
    obtain⟨cs,k1,k2,k3⟩:=al;obtain⟨g,rfl,_⟩:=k1.blk oM;exact⟨g,rfl⟩
   dsimp only at aw f0 f5 ao ap aq ar au av bH;subst bH;obtain⟨u',bQ,bd⟩:=jj tt 120 f0;simp only[bQ]at aw f5 ao ap aq ar au av;clear bQ f0;subst bd;simp only[List.range,List.range.loop,List.map_cons,List.map_nil,aw,f5,ao,ap,aq,ar,au,av];clear aw f5 ao ap aq ar au av;have HS:=ia (WH W9 z.heap.size tb vn vc (Ue lo hi ((ax,az),bx,bz) X Y) al (fun c hc=>od (ad c hc) dM) oM);have bO:z.heap.size<=tb/\tb<W9.heap.size:=by
    obtain⟨cs,k1,k2,k3⟩:=al;exact k1.lt tb rfl
   have HB:=ia (And.intro bN ad);have br:=ia af;clear bN ad al af d0 d1 d2 d3 d4 d5 zl zh cI aL aM cj ck;unfold Cm at HS
   gi_wp2
   refine⟨trivial,CallsIn.mono (CallsIn.inRound l (callsIn_wide.2 HS.o)) ?_⟩;rintro cR bZ ⟨rfl,ls,o,aW,aV,bJ,cg⟩;dsimp only;have bt:oa z bZ:=br.o.E (Ch (base:=z.heap.size) bJ br.o.size (fun k hk=>by cases hk;exact bO.1)) (nE _);have XX:=an.o.trans bt;have b6:=ia (R.o.ext XX);have bK:=o.length_eq;have aH:=R.o.sz;have bG:∀s∈ls,Rb 51 s:=fun s hs=>HB.o.2 s (o.mem_iff.1 hs);have ch:1<=ls.length/\ls.length<=4:=by have:=HB.o.1;omega
   have a4:w.heap.size+1+1+1+1+1+1+1<z.heap.size:=by have:=an.o.size;omega
   have aU:=Yx Hw.o HL.o.2.2 bL b4.o (by rw[f.o.1.1,f.o.1.2];exact o) aW;have bm:=ia aU;have bi:=ia XX;have bn:=ia aV;have aT:=Hw.o.1;clear aU bJ cg bO bt o aW bK XX aV HS HB
   gi_wp2
   refine jF l _ _ w W bZ W0.heap.size z.heap.size tb vn vc (898*64+1) (O a n c) (px:Rat) (qx:Rat) lo hi ps q0 ls HL.o.1 HL.o.2.1 aT.1 aT.2.1 bG b2.o dM ch a4 b6.o bn.o (il bi.o) ((Mc.refl _ _ W).ext bi.o R.o.x.size oM) _ ⟨rfl,rfl,rfl,rfl,rfl,rfl⟩ rfl (fun a' b7 hs hk hp=>?_)
   gi_wp2
   refine⟨hk,hp,?_⟩;show Vh w _ _ _ lo hi (qb _ ((pre++[_]).map _)) b7;rw[List.map_append,List.map_cons,List.map_nil,Wt,bo.o,<-bm.o];exact hs
 case done =>
  rintro D zs W hD rfl hI d;have ae:Vh w (O a n c) (px:Rat) (qx:Rat) lo hi (qb (Eb (lo:Rat) (hi:Rat) (px:Rat) (qx:Rat)) (yb ps)) W:=by rw[<-b1.o];exact hI
  obtain⟨s,hs⟩:=gX (qb (Eb (lo:Rat) (hi:Rat) (px:Rat) (qx:Rat)) (yb ps));rw[hs]at ae;have Hs:=ia hs;clear hI hs;obtain⟨sa,sm,sc,ss,cq,ct,cr,e0,e1,e2,-,-,-,zs,ci⟩:=ae.sm.rd;obtain⟨_,_,_,_,_,_,_,o0,o1,o2,f0,f1,f2,zr,-⟩:=ae.rs.rd;have hP:=ae.rs.put ci;have hX:=((ae.x.set (p:=⟨w.heap.size+1+1+1+1+1,0,Z⟩) dO (O sa sm sc)).set (p:=⟨w.heap.size+1+1+1+1+1,1,Z⟩) dO (A ss)).set (p:=⟨w.heap.size+1+1+1+1+1,2,Z⟩) dO (O cq ct cr);have aH:=ae.sz
  gi_wp2
  refine oo [D] _ ⟨by simp,fun E t=>?_⟩ (fun W' ce=>?_)
  ·rw[List.mem_singleton.1 t,bS _ _ _ _ dO,bS _ _ _ _ dO,bS _ _ _ _ dO];exact d
  ·have hS:=ce w.heap.size (fun E t=>by rw[List.mem_singleton.1 t];omega);obtain⟨pa,pm,cn,cp,cl,co,cm,cx,cy,cz,_,_,_,_,hz⟩:=(hP.sim hS).rd;exact⟨Oc #[O pa pm cn,A cp,O cl co cm],by simp[results,Tryz.results51,go_sem,cx,cy,cz],_,rfl,by rw[Hs.o];exact hz,hS.ext hX (nE _)⟩
 case stop =>
  rintro D c pre W hD cJ hf d;exact hf.elim
end
section
open Go.RowKit Go.Shelf Go.Lib
attribute [local go_sem] Oper.semAt_some
def ij(e:Md):Int:=e.1.1*e.2.2-e.1.2*e.2.1
def Ib(ps:LP):Int:=((fd ps).map ij).sum
def PA:∀l:List Md,qb Pa l=(((l.map ij).sum:Int):Rat)
 | []=>rfl
 | e::t=>by
  show Pa (qp e.1) (qp e.2)+qb Pa t=((ij e+(t.map ij).sum:Int):Rat);rw[PA t,Rat.intCast_add];unfold Pa ij qp;rw[Rat.intCast_sub,Rat.intCast_mul,Rat.intCast_mul]
def IJ(ps:LP):De ps=((Ib ps:Int):Rat):=by unfold De Ib;rw[Pr,PA]
abbrev BQ:={ e:Md // Bd 2000 e.1.1/\Bd 2000 e.1.2/\Bd 2000 e.2.1/\Bd 2000 e.2.2 }
def Vv{a b c d:Int}(e:Bd 2000 a)(f:Bd 2000 b)(g:Bd 2000 c)(i:Bd 2000 d):-8000000<=a*d-b*c/\a*d-b*c<=8000000:=by obtain⟨j,k⟩:=e.mul i;obtain⟨l,m⟩:=f.mul g;omega
def st:∀l:List BQ,-(8000000*(l.length:Int))<=(l.map fun e=>ij e.1).sum/\(l.map fun e=>ij e.1).sum<=8000000*(l.length:Int)
 | []=>by simp
 | e::t=>by
  have h:=st t;obtain⟨e,a,b,c,d⟩:=e;have f:=Vv a b c d;simp only[List.map_cons,List.sum_cons,List.length_cons];unfold ij at *;omega
def NL(s:Nat)(e:BQ)(a:Act)(W:M):Prop:=
 ∃B,s+1+1<=B/\W.heap[B]?=H (Oa #[I N e.1.1.1,I N e.1.1.2] 55 (0,0))/\W.heap[B+1]?=H (Oa #[I N e.1.2.1,I N e.1.2.2] 55 (0,0))/\
  a.tmps.size=16/\a.tmps.getD 3 undef=Ob (H ⟨s,0,Z⟩)/\a.tmps.getD 4 undef=Ob (H ⟨B,0,Z⟩)/\a.tmps.getD 5 undef=Ob (H ⟨B+1,0,Z⟩)/\a.defers=[]
structure lj (w:M) (z:Int) (W:M):Prop where
 x:oa w W
 sz:w.heap.size+1+1<=W.heap.size
 sm:W.heap[w.heap.size]?=H (Oa #[I N z] 3 (0,0))
def lj.ext{w W W':M}{z:Int}(h:lj w z W)(k:oa W W'):lj w z W':=⟨h.x.trans k,nT h.sz k.size,k.e h.sm⟩
def lj.sim{w W W':M}{z:Int}{B:Nat}(h:lj w z W)(k:Uh B W W')(a:w.heap.size<=B):lj w z W':=⟨k.ext h.x a,nT h.sz k.size,k.heap h.sm⟩
def rC(w:M)(pre:List BQ)(W:M):Prop:=lj w (pre.map fun e=>ij e.1).sum W
def tG(w:M)(v:U)(ps:LP)(h:Aa w v ps)(hb:Se 2000 ps)(hl:ps.length<=12):Calls Tryz.prog 79 #[v] w fun e w'=>e=.returned (I N (Ib ps))/\oa w w':=by
 obtain⟨a,c,rfl⟩:=h.form;obtain⟨n,hn⟩:=gX ps.length;rw[hn]at h ⊢;have j:∀e∈fd ps,Bd 2000 e.1.1/\Bd 2000 e.1.2/\Bd 2000 e.2.1/\Bd 2000 e.2.2:=fun e he=>by
  cases ps with
  | nil=>cases he
  | cons p t =>
   refine pl (k:=2000) (ps:=p::t++[p]) (fun q hq=>?_) he;rcases List.mem_append.1 hq with hq|hq
   ·exact hb q hq
   ·rw[List.mem_singleton.1 hq];exact hb p sM
 obtain⟨es,y⟩:∃es:List BQ,es.map (fun e=>e.1)=fd ps:=⟨(fd ps).attachWith _ j,jl _⟩;have ab:es.length<=12:=by
  have:=congrArg List.length y;rw[lL,Du]at this;omega
 have af:=ia ab;have ag:=ia y;have Hn:=ia hn;clear hn ab j hb;refine(callsIn_wide (n:=5)).1 ?_;refine callsIn_of_wp_marks Tryz.func79 rfl trivial ?_ rfl;simp only[Tryz.ntmps79,List.size_toArray,List.length_cons,List.length_nil,Nat.reduceAdd,Nat.reduceSub,Array.replicate_succ,Array.replicate_zero,List.push_toArray,List.append_toArray,List.nil_append,List.cons_append]
 gi_wp2_with(refine⟨trivial,?_⟩;gi_at_call 155;refine(callsIn_wide.2 (KJ _ _ _ _)).mono ?_;rintro e w' ⟨rfl,rfl⟩)
 obtain⟨W0,b⟩:=gX ((w.alloc (Oa #[I N 0] 3)).alloc (Oa #[O a n c] 32));have ac:oa w W0:=by rw[<-b];exact((eR w).alloc _).alloc _
 have ar:W0.heap.size=w.heap.size+1+1:=by rw[<-b];simp
 have aj:W0.cell? ⟨w.heap.size+1,0,Z⟩=H (O a n c):=by rw[<-b,World.cell?_alloc_at _ _ _ _ sM];rfl
 have ah:rC w [] W0:=⟨ac,by omega,by rw[<-b];exact((eR _).alloc _).e (aN w _)⟩;rw[b];clear b;refine wpIn_rangeFunc_ownH rfl dM (gf:=197) (lb:=#[Ob (H ⟨w.heap.size+1,0,Z⟩)]) rfl trivial (enters_of Tryz.func197 kM rfl)
  (AK (fun e:BQ=>e.1) _ dM (w.heap.size+1) w _ _ ps es y aj oM h (by have:=Hn.o;omega) ac) Mc.trans (Mc.put oM oM) (Below.refl _ _) (fun _=>rfl)
  (rC w) (fun _ _ _=>False) (Zh (fun s W h=>by have:=lj.sz h;omega) (fun s W W' h k=>lj.sim h k oM)) (fun c=>Zh (fun s W h=>h.elim) (fun s W W' h k=>h.elim)) ah
  (fun e a' W=>NL w.heap.size e a' W) (fun e a'=>Zh (fun s W h=>by obtain⟨B,h1,h2,h3,_⟩:=h;have:=jc h2;omega) (fun s W W' h k=>by obtain⟨B,h1,h2,h3,h4⟩:=h;exact⟨B,h1,k.heap h2,k.heap h3,h4⟩)) ?assign ?body ?done ?stop
 case assign =>
  rintro l pre e W K f m;unfold Oh
  gi_wp2
  have R:oa W ((W.alloc (Oa #[I N e.1.1.1,I N e.1.1.2] 55)).alloc (Oa #[I N e.1.2.1,I N e.1.2.2] 55)):=((eR W).alloc _).alloc _;have al:=lj.sz f;refine m _ _ (((KeepsOthers.alloc _ _).trans (KeepsOthers.alloc _ _)).from _) ((Mc.refl _ _ W).ext R (lj.x f).size oM) (lj.ext f R) ⟨W.heap.size,al,xu W _ _,uu W _ _,rfl,rfl,rfl,rfl,rfl⟩
 case body =>
  rintro l pre e a' W ao ⟨r,aq⟩ f hA ap;obtain⟨tt,dd⟩:=a';obtain⟨B,hB,q1,q2,g0,g3,g4,g5,gd⟩:=hA;dsimp only at g0 g3 g4 g5 gd;subst gd;obtain⟨u,hu,am⟩:=jj tt 16 g0;simp only[hu]at g3 g4 g5;clear hu g0;subst am;simp only[List.range,List.range.loop,List.map_cons,List.map_nil,g3,g4,g5];clear g3 g4 g5;have g:lj w (pre.map fun e=>ij e.1).sum W:=f;obtain⟨z,hz⟩:=gX ((pre.map fun e=>ij e.1).sum);have ae:=st pre;have ak:pre.length<=12:=by have:=af.o;omega
  rw[hz]at g ae;obtain⟨⟨⟨ax,az⟩,bx,bz⟩,b1,b2,b3,b4⟩:=e;have o:=Vv b1 b2 b3 b4;dsimp only at q1 q2 b1 b2 b3 b4 o;have HC:=ia (fun(W:M)=>YA W ax az bx bz (b1.mono dM) (b2.mono dM) (b3.mono dM) (b4.mono dM));obtain⟨k,hk⟩:=gX (ax*bz-az*bx);rw[hk]at HC o;have HT:=ia g;have Ag:((pre++[(⟨((ax,az),bx,bz),⟨b1,b2,b3,b4⟩⟩:BQ)]).map fun e:BQ=>ij e.1).sum=z+k:=by
   rw[List.map_append,List.sum_append,hz];simp[ij,hk]
  have aa:=ia Ag;have u1:IntKind.i64.wrap (z+k)=z+k:=iW _ ⟨by omega,by omega⟩;have C0:Ca [(⟨w.heap.size,0,Z⟩,I N z),(⟨B,0,Z⟩,I N ax),(⟨B,1,Z⟩,I N az),(⟨B+1,0,Z⟩,I N bx),(⟨B+1,1,Z⟩,I N bz)] W.drew:=
   ⟨Gb g.sm rfl,Gb q1 rfl,Gb q1 rfl,Gb q2 rfl,Gb q2 rfl,trivial⟩
  clear f g hz ae ak o hk q1 q2 Ag
  gi_wp2
  refine Wu (fun i=>decide (4<i)) (Ca [(⟨w.heap.size,0,Z⟩,I N z),(⟨B,0,Z⟩,I N ax),(⟨B,1,Z⟩,I N az),(⟨B+1,0,Z⟩,I N bx),(⟨B+1,1,Z⟩,I N bz)]) kM kM C0 (fun d=>?_);refine Ae (i:=0) ?_;refine Ae (i:=1) ?_;refine Ae (i:=2) ?_;refine Th (i:=3) (HC.o _) ?_;rintro e w1 ⟨rfl,ad⟩;refine⟨_,rfl,(cE d ad),fun d=>?_⟩;refine Ae (i:=4) ?_;have D1:oa W w1:=(eR W).drew.trans ad;have hS:=HT.o.ext D1;have ff:=Vb hS.sm;obtain⟨o0,-⟩:=d;refine Ah (i:=5) fun K m=>?_;go_simp;refine kO m (fun h=>nomatch h) (fun d=>?_);clear m K;refine Le kM ?_ _;unfold NQ;refine⟨(il D1).trans ((KeepsOthers.setCell _ _ _).from _),((Mc.refl _ _ W).ext D1 HT.o.x.size (by have:=HT.o.sz;omega)).set dO dO _,?_⟩;show lj w ((pre++[_]).map fun e:BQ=>ij e.1).sum _;rw[aa.o];exact⟨hS.x.set dO _,by rw[sf];exact hS.sz,Bk hS.sm 0 _⟩
 case done =>
  rintro D zs W hD rfl f m;have g:lj w (Ib ps) W:=by
   unfold Ib;rw[<-ag.o,List.map_map];exact f
  obtain⟨t,ht⟩:=gX (Ib ps);rw[ht]at g;have Ht:=ia ht;have e0:=ja g.sm 0 (I N t);have au:=g.sz;clear f ht
  gi_wp2
  refine oo [D] _ ⟨by simp,fun E R=>?_⟩ (fun W' ai=>?_)
  ·rw[List.mem_singleton.1 R];exact m
  ·have hS:=ai w.heap.size (fun E R=>by rw[List.mem_singleton.1 R];omega);exact⟨I N t,by simp[results,Tryz.results79,go_sem],by rw[Ht.o],hS.ext g.x (nE _)⟩
 case stop =>
  rintro D c pre W hD an hf m;exact hf.elim
def iK(w:M)(b:Nat)(v:U)(ps:LP)(k:w.cell? ⟨b,1,Z⟩=H v)(h:Aa w v ps)(d:Se 2000 ps)(f:ps.length<=12):Calls Tryz.prog 78 #[Ob (H ⟨b,0,Z⟩)] w fun e j=>e=.returned (I N (Ib ps))/\oa w j:=by have g:=ia (tG w v ps h d f);obtain⟨a,c,rfl⟩:=h.form;clear h d f;go_in;go_wp2_with(go_at_call 79;(with_reducible refine g.o.mono ?_);rintro e l ⟨rfl,i⟩);go_ret;exact⟨rfl,eA⟩
def fK(w:M)(s:ByteArray)(v:U)(ps:LP)(d l m o:Int)(h:Aa w v ps)(f:ud (Xe s) ps d l m o=true):Calls Tryz.prog 25 #[Oc #[.string s,v,I N d,I N l,I N m,I N o]] w fun e x=>e=.returned (.tuple #[I N (Ib ps),I N 0])/\oa w x:=by
 have aa:∀(y:Fn)(first cap:Array U)(w:M),(Instr.makeFunc y first cap).run Tryz.prog w = .ok (.func y first cap) w:=fun _ _ _ _=>rfl;obtain⟨-,Sh,z,-⟩:=Xm f;have j:=ia (fun(W:M)(g:oa w W)=>lu W s v ps d l m o (h.i g));rw[if_pos f]at j;have k:=ia (fun(W:M)(b:Nat)(g:oa w W)(p:W.cell? ⟨b,1,Z⟩=H v)=>iK W b v ps p (h.i g) z Sh);obtain⟨t,u⟩:=gX (Ib ps);rw[u]at k;rw[u];obtain⟨a,c,rfl⟩:=h.form;obtain⟨n,K⟩:=gX ps.length;rw[K]at j k ⊢;clear h f z Sh u K;have R:zc (∀(W:M)(b:Nat),oa w W->W.cell? ⟨b,1,Z⟩=H (O a n c)->Calls Tryz.prog 77 #[Oc #[.string s,O a n c,I N d,I N l,I N m,I N o],.func (.func 78) #[] #[Ob (H ⟨b,0,Z⟩)]] W fun e x=>e=.returned (.tuple #[I N t,I N 0])/\oa W x):=ia fun W b g p=>by
  have zb:=World.block_lt_of_cell? W _ p;dsimp only at zb;go_in;go_wp2_with(first|(go_at_call 154;refine cM (j.o _ (g.alloc _)) ?_;rintro e w1 ⟨rfl,i⟩;(have r:=i.d (((eR W).alloc _).d p)))|(go_at_call 78;refine cM (k.o _ b ((g.alloc _).trans i) r) ?_;rintro e w2 ⟨rfl,ab⟩));exact bR (v:=.tuple #[I N t,I N 0]) (by simp[results,Tryz.results77,go_sem]) rfl ⟨rfl,eA⟩
 clear j k;go_in;go_wp2_with(go_at_call 77;refine cM (R.o _ _ ((eR w).alloc _) (Gb (aN w _) rfl)) ?_;rintro e w3 ⟨rfl,ac⟩);exact bR (v:=.tuple #[I N t,I N 0]) (by simp[results,Tryz.results25,go_sem]) rfl ⟨rfl,eA⟩
