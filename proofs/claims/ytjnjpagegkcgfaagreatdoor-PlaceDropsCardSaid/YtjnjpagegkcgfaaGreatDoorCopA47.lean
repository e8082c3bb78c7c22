/- Part 48: contracts of what the law calls. -/
import Derived.Test.YtjnjpagegkcgfaaGreatDoorCopA46
import Derived.Test.YtjnjpagegkcgfaaGreatDoorCopA43
set_option maxRecDepth 1000000
set_option maxHeartbeats 16000000
set_option linter.unusedSimpArgs false
set_option linter.unusedVariables false
open Go.Value renaming int→O,slice→X,agg→J
open Go.IntKind renaming i64→Y,u8→I
open Option renaming none→Z,some→V
namespace Go.Proofs.YtjnjpagegkcgfaaGreatDoor.Cop
section
open Go.RowKit Go.Shelf Go.Sort
attribute [local go_sem] Oper.semAt_some
theorem zh9 (w:World) (vg vp:Value) (g:List (Int×Int)) (ps:List Pl) (hg:IsPr w vg g) (hp:IsWr w vp ps) (aw:∀p∈ps,p.name.size≤1000000) (hl:g.length≤1000000) :
  Calls Tryz.prog 64 #[J #[vg,vp]] w fun e w'=>e = .returned (O Y (laidP g ps))∧Ext w w':=by
 have aE:=hd9 (fun W (hW:Ext w W)=>zlx W vg g (hg.ext' hW) hl);have HG:=hd9 hg;have HP:=hd9 hp;have bw:=hd9 aw;have Hl:=hd9 hl;obtain⟨ga,gn,gc,rfl⟩:=hg.form3;obtain⟨pa,D,rfl⟩:=hp.form;obtain⟨n,hn⟩:=gX ps.length;have bt:=hp.le;unfold maxLen at bt;rw [hn]at bt ⊢;have Hn:=hd9 hn;obtain⟨R,hR⟩:=gX (laidP g ps);rw [hR];have aJ:=hR;unfold laidP at aJ;rw [hn]at aJ;have aU:=hd9 aJ;obtain⟨gb,a6⟩:=gX (groundB g);have am:=hd9 a6;rw [a6]at aE;clear hR aJ hg hp aw hl hn a6
 cases gb with
 | false =>
  have e:=aU.out;rw [am.out,if_neg dM]at e;subst e;go_enter Tryz.func64,Tryz.ntmps64
  go_wp2_with(go_at_call 139;(with_reducible refine(aE.out _ ?_).mono ?_);exact eA;rintro e w1 ⟨rfl,ap⟩)
  go_ret;exact⟨rfl,eA⟩
 | true =>
 by_cases aL:120<n
 ·have e:=aU.out
  rw [am.out,if_pos rfl,if_pos aL]at e;subst e;have h1:(120:Int)<(n:Int):=oM
  go_enter Tryz.func64,Tryz.ntmps64
  go_wp2_with(go_at_call 139;(with_reducible refine(aE.out _ ?_).mono ?_);exact eA;rintro e w1 ⟨rfl,ap⟩;obtain⟨⟨bo,br⟩,aS⟩:=cK1 w ap)
  go_ret;exact⟨rfl,eA⟩
 have h1:¬(120:Int)<(n:Int):=oM
 have a2:=aU.out;rw [am.out,if_pos rfl,if_neg aL]at a2;have aG:=hd9 a2;have aQ:g≠[]:=(zaB am.out).1;have bl:=hd9 aQ;clear a2 aQ;go_enter Tryz.func64,Tryz.ntmps64
 go_wp2_with(go_at_call 139;(with_reducible refine(aE.out _ ?_).mono ?_);exact eA;rintro e w1 ⟨rfl,ap⟩;obtain⟨⟨bo,br⟩,aS⟩:=cK1 w ap)
 have X1:Ext w w1:=eA;have aO:w1.heap[w.heap.size]?=V (Obj.cells #[Value.slice ga gn gc,Value.slice pa n D] 25 (0,0)):=ap.heapS (aN _ _);clear ap bo br aS
 go_loopw [3] (Ck1 w g ps (Obj.cells #[Value.slice ga gn gc,Value.slice pa n D] 25)) (fun t3 _=>n-(intOf t3).toNat)
 case atStart=>exact⟨0,rfl,by omega,X1,aO,by simp⟩
 case round =>
  clear X1 aO;obtain⟨i,rfl,hi,hx,P,Q⟩:=hrel;rw [Hn.out]at hi;have t:=hd9 Q;have w0:=qcB P (i:=0) (u:=X ga gn gc) rfl;have ac:=qcB P (i:=1) (u:=X pa n D) rfl;have wz:=zaa P;have ar:=hd9 P;clear Q P
  by_cases a8:i<n
  ·obtain⟨p,ao⟩:∃p,ps[i]?=V p:=⟨_,gE (by rw [Hn.out];exact a8)⟩
   obtain⟨b,o,v,rfl,hb,hv,be,y⟩:=(HP.out.ext' hx).at' ao;have aw:=bw.out p (lM ao);have af:=hd9 (fun W (hW:Ext wr W)=>zhi W v p (hv.ext' hW) aw);have bj:=hd9 (fun W (hW:Ext wr W) aa=>zhh W _ v g p (HG.out.ext' (hx.trans hW)) (hv.ext' hW) aa bl.out Hl.out);have l:=fun h0=>zeF (g:=g) ao h0
   have m:=fun h0=>zcc (g:=g) ao h0
   rw [t.out]at l m;have ag:=hd9 l;have x:=hd9 m;have bE:=hd9 ao;obtain⟨sa,sn,sc,rfl⟩:=hv.form3;obtain⟨pb,aK⟩:=gX (placedOk p);obtain⟨bu,ak⟩:=gX (holdsB g p);have bm:=hd9 aK;have bC:=hd9 ak;rw [aK]at af;have ad:=hd9 (fun W (hW:Ext wr W) aa=>bj.out W hW aa);rw [ak]at ad
   have aM:addE g (ps.take i) p=if pb=true then (if bu=true then (if (ps.take i).any (nameB p.name)=true then 7 else 0)else 2)else 2:=by
    unfold addE;rw [aK,ak]
   have aj:=hd9 aM;have g0:(0:Int)≤(i:Int):=oM
   have g1:(i:Int)<(n:Int):=oM
   clear aK ak aM l m bj ao hv be;obtain⟨L,sh,d,de,gx,gz,wy,ax,az,sk⟩:=p;unfold plc at y af ad;dsimp only at y af ad aw;have c0:=y 0 (.string L) rfl;have c1:=y 1 (X sa sn sc) rfl;have c2:=y 2 (O Y d) rfl;have c3:=y 3 (O Y de) rfl;have c4:=y 4 (O Y gx) rfl;have c5:=y 5 (O Y gz) rfl;have c6:=y 6 (O Y wy) rfl;have c7:=y 7 (O Y ax) rfl;have c8:=y 8 (O Y az) rfl;have c9:=y 9 (O I sk) rfl;simp only [Nat.add_zero]at c0;clear y
   cases pb with
   | false =>
    have hA:addE g (ps.take i) ⟨L,sh,d,de,gx,gz,wy,ax,az,sk⟩=2:=by rw [aj.out];rfl
    have e:R=2:=by
     have h9:=x.out (by rw [hA];decide);rw [←aG.out,if_neg (by rw [h9,hA];decide),h9,hA]
    subst e;clear hA;go_wp2;refine wp_region_held_drew (S:=CellL [(⟨w.heap.size,0,Z⟩,X ga gn gc),(⟨w.heap.size,1,Z⟩,X (V ⟨b,o,Z⟩) n D),(⟨b,o+i*10,Z⟩,.string L),(⟨b,o+i*10+1,Z⟩,X sa sn sc),(⟨b,o+i*10+2,Z⟩,O Y d),(⟨b,o+i*10+3,Z⟩,O Y de),(⟨b,o+i*10+4,Z⟩,O Y gx),(⟨b,o+i*10+5,Z⟩,O Y gz),(⟨b,o+i*10+6,Z⟩,O Y wy),(⟨b,o+i*10+7,Z⟩,O Y ax),(⟨b,o+i*10+8,Z⟩,O Y az),(⟨b,o+i*10+9,Z⟩,O I sk)]) kM cA (fun a=>?_);refine sN 0 ?_
    iterate 5
     refine tkn ?_
    refine oN ?_;refine cl1 (i:=5) fun K s=>?_
    go_simp
    (with_reducible refine cM (af.out _ ((eR wr).drew)) ?_)
    rintro e w5 ⟨rfl,f⟩
    go_wp2_with fail
    refine kO s (cE a f) (fun a=>?_);clear s K;refine sN 6 ?_
    iterate 2
     refine tkn ?_
    iterate 9
     refine tkgn ?_
    refine tkn ?_;refine oN ?_;refine wpAnyH_done kM ?_ _;go_wp2;go_ret;exact⟨rfl,(hx.drew.trans f)⟩
   | true =>
    cases bu with
    | false =>
     have hA:addE g (ps.take i) ⟨L,sh,d,de,gx,gz,wy,ax,az,sk⟩=2:=by rw [aj.out];rfl
     have e:R=2:=by
      have h9:=x.out (by rw [hA];decide);rw [←aG.out,if_neg (by rw [h9,hA];decide),h9,hA]
     subst e;clear hA;go_wp2;refine wp_region_held_drew (S:=CellL [(⟨w.heap.size,0,Z⟩,X ga gn gc),(⟨w.heap.size,1,Z⟩,X (V ⟨b,o,Z⟩) n D),(⟨b,o+i*10,Z⟩,.string L),(⟨b,o+i*10+1,Z⟩,X sa sn sc),(⟨b,o+i*10+2,Z⟩,O Y d),(⟨b,o+i*10+3,Z⟩,O Y de),(⟨b,o+i*10+4,Z⟩,O Y gx),(⟨b,o+i*10+5,Z⟩,O Y gz),(⟨b,o+i*10+6,Z⟩,O Y wy),(⟨b,o+i*10+7,Z⟩,O Y ax),(⟨b,o+i*10+8,Z⟩,O Y az),(⟨b,o+i*10+9,Z⟩,O I sk)]) kM cA (fun a=>?_);refine sN 0 ?_
     iterate 5
      refine tkn ?_
     refine oN ?_;refine cl1 (i:=5) fun K s=>?_
     go_simp
     (with_reducible refine cM (af.out _ ((eR wr).drew)) ?_)
     rintro e w5 ⟨rfl,f⟩
     go_wp2_with fail
     refine kO s (cE a f) (fun a=>?_);clear s K;refine sN 6 ?_
     iterate 9
      refine tkn ?_
     refine oN ?_;refine cl1 (i:=15) fun K s=>?_
     go_simp
     (with_reducible refine cM (ad.out w5 ((eR wr).drew.trans f) bm.out) ?_)
     rintro e w6 ⟨rfl,ab⟩
     go_wp2_with fail
     refine kO s (cE a ab) (fun a=>?_);clear s K;refine sN 16 ?_
     iterate 2
      refine tkn ?_
     refine oN ?_;refine wpAnyH_done kM ?_ _;go_wp2;go_ret;exact⟨rfl,((hx.drew.trans f).trans ab)⟩
    | true =>
     go_wp2;refine wp_region_held_drew (S:=CellL [(⟨w.heap.size,0,Z⟩,X ga gn gc),(⟨w.heap.size,1,Z⟩,X (V ⟨b,o,Z⟩) n D),(⟨b,o+i*10,Z⟩,.string L),(⟨b,o+i*10+1,Z⟩,X sa sn sc),(⟨b,o+i*10+2,Z⟩,O Y d),(⟨b,o+i*10+3,Z⟩,O Y de),(⟨b,o+i*10+4,Z⟩,O Y gx),(⟨b,o+i*10+5,Z⟩,O Y gz),(⟨b,o+i*10+6,Z⟩,O Y wy),(⟨b,o+i*10+7,Z⟩,O Y ax),(⟨b,o+i*10+8,Z⟩,O Y az),(⟨b,o+i*10+9,Z⟩,O I sk)]) kM cA (fun a=>?_);refine sN 0 ?_
     iterate 5
      refine tkn ?_
     refine oN ?_;refine cl1 (i:=5) fun K s=>?_
     go_simp
     (with_reducible refine cM (af.out _ ((eR wr).drew)) ?_)
     rintro e w5 ⟨rfl,f⟩
     go_wp2_with fail
     refine kO s (cE a f) (fun a=>?_);clear s K;refine sN 6 ?_
     iterate 9
      refine tkn ?_
     refine oN ?_;refine cl1 (i:=15) fun K s=>?_
     go_simp
     (with_reducible refine cM (ad.out w5 ((eR wr).drew.trans f) bm.out) ?_)
     rintro e w6 ⟨rfl,ab⟩
     go_wp2_with fail
     refine kO s (cE a ab) (fun a=>?_);clear s K;refine sN 16 ?_
     iterate 2
      refine tkn ?_
     refine oN ?_;refine wpAnyH_done kM ?_ _;have X6:Ext wr w6:=((eR wr).drew.trans f).trans ab;have al:=hd9 X6
     replace w0:=X6.cellS w0
     replace ac:=X6.cellS ac
     replace c0:=X6.cellS c0
     have av:b<w6.heap.size:=X6.lt hb;clear a f ab c1 c2 c3 c4 c5 c6 c7 c8 c9 af ad;go_wp2
     go_loopw [4] (Ck1i w6 ps L i) (fun t4 _=>i-(intOf t4).toNat)
     case atStart=>exact⟨0,rfl,by omega,eR _,fun j q hj=>by omega⟩
     case round =>
      obtain⟨k,rfl,hk,c,hq⟩:=hrel;have Hq:=hd9 hq;clear hq;have XK:Ext w wr:=hx.trans (al.out.trans c)
      replace w0:=c.cellS w0
      replace ac:=c.cellS ac
      replace c0:=c.cellS c0
      have bz:b<wr.heap.size:=c.lt av;have bB:w.heap.size<wr.heap.size:=World.block_lt_of_cell? wr _ w0
      by_cases a7:k<i
      ·obtain⟨q,ae⟩:∃q,ps[k]?=V q:=⟨_,gE (by rw [Hn.out];omega)⟩
       obtain⟨b2,o2,v2,e2,a4,aA,ay,bq⟩:=(HP.out.ext' XK).at' ae
       cases e2
       have d0:=bq 0 (.string q.name) rfl;simp only [Nat.add_zero]at d0;have an:=hd9 ae;have j0:(0:Int)≤(k:Int):=oM
       have j1:(k:Int)<(i:Int):=oM
       have j2:(k:Int)<(n:Int):=oM
       obtain⟨qb,ba⟩:=gX (nameB L q);have bn:=hd9 ba;obtain⟨qn,bb⟩:=gX q.name;rw [bb]at d0;have bD:(qn.toList==L.toList)=qb:=by rw [←ba,←bb];rfl
       clear bq a4 aA ay ae ba bb;go_wp2;refine wp_region_held_drew (S:=CellL [(⟨w.heap.size,1,Z⟩,X (V ⟨b,o,Z⟩) n D),(⟨b,o+k*10,Z⟩,.string qn),(⟨b,o+i*10,Z⟩,.string L)]) kM cA (fun a=>?_);refine sN 0 ?_
       iterate 15
        refine tkn ?_
       refine oN ?_;refine wpAnyH_done kM ?_ _
       cases qb with
       | true =>
        have hA:addE g (ps.take i) ⟨L,sh,d,de,gx,gz,wy,ax,az,sk⟩=7:=by
         rw [aj.out,zdg a7 an.out bn.out];rfl
        have e:R=7:=by
         have h9:=x.out (by rw [hA];decide);rw [←aG.out,if_neg (by rw [h9,hA];decide),h9,hA]
        subst e;clear hA;go_wp2;go_ret;exact⟨rfl,XK.trans (eR _).drew⟩
       | false =>
        go_wp2
        go_roundw
        case rel =>
         refine⟨k+1,by go_num,by omega,c.trans (eR _).drew,fun j q' hj T=>?_⟩
         by_cases h:j=k
         ·subst h
          rw [an.out]at T
          cases T
          exact bn.out
         ·exact Hq.out j q' oM T
        case measure=>simp [intOf];omega
      ·obtain rfl:k=i:=oM
       have hA:addE g (ps.take k) ⟨L,sh,d,de,gx,gz,wy,ax,az,sk⟩=0:=by
        rw [aj.out,zeT Hq.out];rfl
       go_wp2
       go_roundw
       case rel=>exact⟨k+1,by go_num,by rw [Hn.out];omega,XK,(al.out.trans c).heapS ar.out,by rw [←ag.out hA]⟩
       case measure=>simp [intOf];omega
  ·obtain rfl:i=n:=oM
   have aI:laid1 g [] ps=0:=by
    rw [←t.out,List.drop_of_length_le (by rw [Hn.out];exact nE _)];unfold laid1;rfl
   have a3:=aG.out;rw [if_pos aI]at a3;have aV:=hd9 a3;have bk:=hd9 (zfa aI);have bv:=hd9 (laid1_holds aI);clear a3 aI;go_wp2
   go_loopw [5] (Ck2 w g ps (Obj.cells #[Value.slice ga gn gc,Value.slice pa i D] 25 (0,0))) (fun t5 _=>i-(intOf t5).toNat)
   case atStart=>exact⟨0,rfl,by omega,hx,ar.out,by simp⟩
   case round =>
    clear w0 ac wz hx ar t;obtain⟨j,rfl,hj,hx,P,Q⟩:=hrel;rw [Hn.out]at hj;have t:=hd9 Q;have w0:=qcB P (i:=0) (u:=X ga gn gc) rfl;have ac:=qcB P (i:=1) (u:=X pa i D) rfl;have wz:=zaa P;have ar:=hd9 P;clear Q P
    by_cases a8:j<i
    ·obtain⟨p,ah⟩:∃p,ps[j]?=V p:=⟨_,gE (by rw [Hn.out];exact a8)⟩
     obtain⟨b,o,v,rfl,hb,hv,be,y⟩:=(HP.out.ext' hx).at' ah;have aa:=bk.out p (lM ah);have bs:=bv.out p (lM ah);have aF:=hd9 (fun W (hW:Ext wr W)=>zby W v p (hv.ext' hW) aa);have aT:=hd9 (fun W vl (hW:Ext wr W) (bA:IsPr W vl (lowP2 p))=>zcK W vl _ (lowP2 p) g bA (HG.out.ext' (hx.trans hW)) (zaj aa).1 (zaB am.out) (zaL aa).1 (zbE am.out) (zcs aa bs));have l:=fun h0=>zeG (g:=g) ah h0
     have m:=fun h0=>zeH (g:=g) ah h0
     rw [t.out,aV.out]at l m;have ag:=hd9 l;have x:=hd9 m;have bF:=hd9 ah;have bx:=hd9 aa;have Hv:=hd9 hv;obtain⟨sa,sn,sc,rfl⟩:=hv.form3;obtain⟨fb,a5⟩:=gX (freeB (lowP2 p) g);have aP:clearB g (ps.take j) p=(fb&&!(ps.take j).any (clashB p)):=by unfold clearB;rw [a5]
     have au:=hd9 aP;rw [a5]at aT;have g0:(0:Int)≤(j:Int):=oM
     have g1:(j:Int)<(i:Int):=oM
     clear a5 aP l m ah hv be aa bs;obtain⟨L,sh,d,de,gx,gz,wy,ax,az,sk⟩:=p;unfold plc at y aF;dsimp only at y aF;have c0:=y 0 (.string L) rfl;have c1:=y 1 (X sa sn sc) rfl;have c2:=y 2 (O Y d) rfl;have c3:=y 3 (O Y de) rfl;have c4:=y 4 (O Y gx) rfl;have c5:=y 5 (O Y gz) rfl;have c6:=y 6 (O Y wy) rfl;have c7:=y 7 (O Y ax) rfl;have c8:=y 8 (O Y az) rfl;have c9:=y 9 (O I sk) rfl;simp only [Nat.add_zero]at c0;clear y;go_wp2;refine wp_region_held_drew (S:=CellL [(⟨w.heap.size,0,Z⟩,X ga gn gc),(⟨w.heap.size,1,Z⟩,X (V ⟨b,o,Z⟩) i D),(⟨b,o+j*10,Z⟩,.string L),(⟨b,o+j*10+1,Z⟩,X sa sn sc),(⟨b,o+j*10+2,Z⟩,O Y d),(⟨b,o+j*10+3,Z⟩,O Y de),(⟨b,o+j*10+4,Z⟩,O Y gx),(⟨b,o+j*10+5,Z⟩,O Y gz),(⟨b,o+j*10+6,Z⟩,O Y wy),(⟨b,o+j*10+7,Z⟩,O Y ax),(⟨b,o+j*10+8,Z⟩,O Y az),(⟨b,o+j*10+9,Z⟩,O I sk)]) kM cA (fun a=>?_);refine sN 0 ?_
     iterate 5
      refine tkn ?_
     refine oN ?_;refine sN 6 ?_
     iterate 2
      refine tkn ?_
     refine oN ?_;refine cl1 (i:=5) fun K s=>?_
     go_simp
     (with_reducible refine cM (aF.out _ ((eR wr).drew)) ?_)
     rintro e w5 ⟨v5,rfl,bc,f⟩;obtain⟨la,ln,lc,rfl⟩:=bc.form3
     go_wp2_with fail
     refine kO s (cE a f) (fun a=>?_);clear s K;refine cl1 (i:=8) fun K s=>?_
     go_simp
     (with_reducible refine cM (aT.out w5 _ ((eR wr).drew.trans f) bc.pr) ?_)
     rintro e w6 ⟨rfl,ab⟩
     go_wp2_with fail
     refine kO s (cE a ab) (fun a=>?_);clear s K;refine tk1 (i:=9) ?_;refine wpAnyH_done kM ?_ _;have X6:Ext wr w6:=((eR wr).drew.trans f).trans ab
     cases fb with
     | false =>
      have e:R=12:=x.out (by rw [au.out];rfl);subst e;go_wp2;go_ret;exact⟨rfl,hx.trans X6⟩
     | true =>
      have al:=hd9 X6
      replace w0:=X6.cellS w0
      replace ac:=X6.cellS ac
      have av:b<w6.heap.size:=X6.lt hb
      replace c0:=X6.cellS c0
      replace c1:=X6.cellS c1
      replace c2:=X6.cellS c2
      replace c3:=X6.cellS c3
      replace c4:=X6.cellS c4
      replace c5:=X6.cellS c5
      replace c6:=X6.cellS c6
      replace c7:=X6.cellS c7
      replace c8:=X6.cellS c8
      replace c9:=X6.cellS c9
      clear a f ab aF aT bc;go_wp2
      go_loopw [6] (Ck2i w6 ps ⟨L,sh,d,de,gx,gz,wy,ax,az,sk⟩ j) (fun t6 _=>j-(intOf t6).toNat)
      case atStart=>exact⟨0,rfl,by omega,eR _,fun j q hj=>by omega⟩
      case round =>
       obtain⟨k,rfl,hk,c,hq⟩:=hrel;have Hq:=hd9 hq;clear hq;have XK:Ext w wr:=hx.trans (al.out.trans c)
       replace w0:=c.cellS w0
       replace ac:=c.cellS ac
       replace c0:=c.cellS c0
       replace c1:=c.cellS c1
       replace c2:=c.cellS c2
       replace c3:=c.cellS c3
       replace c4:=c.cellS c4
       replace c5:=c.cellS c5
       replace c6:=c.cellS c6
       replace c7:=c.cellS c7
       replace c8:=c.cellS c8
       replace c9:=c.cellS c9
       have bz:b<wr.heap.size:=c.lt av;have bB:w.heap.size<wr.heap.size:=World.block_lt_of_cell? wr _ w0
       by_cases a7:k<j
       ·obtain⟨q,ae⟩:∃q,ps[k]?=V q:=⟨_,gE (by rw [Hn.out];omega)⟩
        obtain⟨b2,o2,v2,e2,a4,aA,ay,z⟩:=(HP.out.ext' XK).at' ae
        cases e2
        have aR:=bk.out q (lM ae);obtain⟨aB,aD,aC,rfl⟩:=aA.form3;have aq:=hd9 (fun W=>zdO W ⟨L,sh,d,de,gx,gz,wy,ax,az,sk⟩ q (X sa sn sc) (X aB aD aC) ⟨_,_,_,rfl⟩ ⟨_,_,_,rfl⟩);have aH:=hd9 (fun W (hW:Ext wr W)=>zeZ W ⟨L,sh,d,de,gx,gz,wy,ax,az,sk⟩ q (X sa sn sc) (X aB aD aC) (Hv.out.ext' ((al.out.trans c).trans hW)) (aA.ext' hW) bx.out aR);have an:=hd9 ae;have j0:(0:Int)≤(k:Int):=oM
        have j1:(k:Int)<(j:Int):=oM
        have j2:(k:Int)<(i:Int):=oM
        obtain⟨mb,a9⟩:=gX (meetB ⟨L,sh,d,de,gx,gz,wy,ax,az,sk⟩ q);obtain⟨r,hr⟩:=gX (relP ⟨L,sh,d,de,gx,gz,wy,ax,az,sk⟩ q);have bp:clashB ⟨L,sh,d,de,gx,gz,wy,ax,az,sk⟩ q=(mb&&(r==5)):=by unfold clashB;rw [a9,hr]
        have aW:=hd9 bp;rw [a9]at aq;rw [hr]at aH;clear a4 aA ay ae a9 hr bp aR;obtain⟨bg,bG,d',aZ,a0,a1,bi,aX,aY,bh⟩:=q;unfold plc at z aq aH;dsimp only at z aq aH;have d0:=z 0 (.string bg) rfl;have d1:=z 1 (X aB aD aC) rfl;have d2:=z 2 (O Y d') rfl;have d3:=z 3 (O Y aZ) rfl;have d4:=z 4 (O Y a0) rfl;have d5:=z 5 (O Y a1) rfl;have d6:=z 6 (O Y bi) rfl;have d7:=z 7 (O Y aX) rfl;have d8:=z 8 (O Y aY) rfl;have d9:=z 9 (O I bh) rfl;simp only [Nat.add_zero]at d0;clear z
        cases mb with
        | false =>
         go_wp2;refine wp_region_held_drew (S:=CellL [(⟨w.heap.size,1,Z⟩,X (V ⟨b,o,Z⟩) i D),(⟨b,o+j*10,Z⟩,.string L),(⟨b,o+j*10+1,Z⟩,X sa sn sc),(⟨b,o+j*10+2,Z⟩,O Y d),(⟨b,o+j*10+3,Z⟩,O Y de),(⟨b,o+j*10+4,Z⟩,O Y gx),(⟨b,o+j*10+5,Z⟩,O Y gz),(⟨b,o+j*10+6,Z⟩,O Y wy),(⟨b,o+j*10+7,Z⟩,O Y ax),(⟨b,o+j*10+8,Z⟩,O Y az),(⟨b,o+j*10+9,Z⟩,O I sk),(⟨b,o+k*10,Z⟩,.string bg),(⟨b,o+k*10+1,Z⟩,X aB aD aC),(⟨b,o+k*10+2,Z⟩,O Y d'),(⟨b,o+k*10+3,Z⟩,O Y aZ),(⟨b,o+k*10+4,Z⟩,O Y a0),(⟨b,o+k*10+5,Z⟩,O Y a1),(⟨b,o+k*10+6,Z⟩,O Y bi),(⟨b,o+k*10+7,Z⟩,O Y aX),(⟨b,o+k*10+8,Z⟩,O Y aY),(⟨b,o+k*10+9,Z⟩,O I bh)]) kM cA (fun a=>?_);refine sN 0 ?_
         iterate 10
          refine tkn ?_
         refine oN ?_;refine cl1 (i:=10) fun K s=>?_
         go_simp
         (with_reducible refine cM (aq.out wr.drew) ?_)
         rintro e w7 ⟨rfl,ai⟩
         go_wp2_with fail
         refine kO s (cE a ai) (fun a=>?_);clear s K;refine sN 11 ?_;refine tkn ?_
         iterate 12
          refine tkgn ?_
         refine tkn ?_;refine oN ?_;refine wpAnyH_done kM ?_ _;go_wp2;refine⟨?_,?measure1⟩
         repeat apply Exists.intro
         refine⟨?rel1,rfl⟩
         case rel1 =>
          refine⟨k+1,by go_num,by omega,c.trans ((eR _).drew.trans ai),fun j q' hj T=>?_⟩
          by_cases h:j=k
          ·subst h
           rw [an.out]at T
           cases T
           rw [aW.out];rfl
          ·exact Hq.out j q' oM T
         case measure1=>simp [intOf];omega
        | true =>
         go_wp2;refine wp_region_held_drew (S:=CellL [(⟨w.heap.size,1,Z⟩,X (V ⟨b,o,Z⟩) i D),(⟨b,o+j*10,Z⟩,.string L),(⟨b,o+j*10+1,Z⟩,X sa sn sc),(⟨b,o+j*10+2,Z⟩,O Y d),(⟨b,o+j*10+3,Z⟩,O Y de),(⟨b,o+j*10+4,Z⟩,O Y gx),(⟨b,o+j*10+5,Z⟩,O Y gz),(⟨b,o+j*10+6,Z⟩,O Y wy),(⟨b,o+j*10+7,Z⟩,O Y ax),(⟨b,o+j*10+8,Z⟩,O Y az),(⟨b,o+j*10+9,Z⟩,O I sk),(⟨b,o+k*10,Z⟩,.string bg),(⟨b,o+k*10+1,Z⟩,X aB aD aC),(⟨b,o+k*10+2,Z⟩,O Y d'),(⟨b,o+k*10+3,Z⟩,O Y aZ),(⟨b,o+k*10+4,Z⟩,O Y a0),(⟨b,o+k*10+5,Z⟩,O Y a1),(⟨b,o+k*10+6,Z⟩,O Y bi),(⟨b,o+k*10+7,Z⟩,O Y aX),(⟨b,o+k*10+8,Z⟩,O Y aY),(⟨b,o+k*10+9,Z⟩,O I bh)]) kM cA (fun a=>?_);refine sN 0 ?_
         iterate 10
          refine tkn ?_
         refine oN ?_;refine cl1 (i:=10) fun K s=>?_
         go_simp
         (with_reducible refine cM (aq.out wr.drew) ?_)
         rintro e w7 ⟨rfl,ai⟩
         go_wp2_with fail
         refine kO s (cE a ai) (fun a=>?_);clear s K;refine sN 11 ?_
         iterate 11
          refine tkn ?_
         refine oN ?_;refine cl1 (i:=22) fun K s=>?_
         go_simp
         (with_reducible refine cM (aH.out w7 ((eR wr).drew.trans ai)) ?_)
         rintro e w8 ⟨rfl,bf⟩
         go_wp2_with fail
         refine kO s (cE a bf) (fun a=>?_);clear s K;refine sN 23 ?_
         iterate 2
          refine tkn ?_
         refine oN ?_;refine wpAnyH_done kM ?_ _
         by_cases h5:r=5
         ·have e:R=12:=x.out (by rw [au.out,zdg a7 an.out (by rw [aW.out,h5];rfl)];rfl)
          subst e h5;go_wp2;go_ret;exact⟨rfl,XK.trans (((eR _).drew.trans ai).trans bf)⟩
         ·go_wp2
          refine⟨?_,?measure3⟩
          repeat apply Exists.intro
          refine⟨?rel3,rfl⟩
          case rel3 =>
           refine⟨k+1,by go_num,by omega,c.trans (((eR _).drew.trans ai).trans bf),fun j q' hj T=>?_⟩
           by_cases h:j=k
           ·subst h
            rw [an.out]at T
            cases T
            rw [aW.out,beq_false_of_ne h5];rfl
           ·exact Hq.out j q' oM T
          case measure3=>simp [intOf];omega
       ·obtain rfl:k=j:=oM
        have hA:clearB g (ps.take k) ⟨L,sh,d,de,gx,gz,wy,ax,az,sk⟩=true:=by
         rw [au.out,zeT Hq.out];rfl
        have hS:=ag.out hA;go_wp2
        go_roundw
        case rel=>exact⟨k+1,by go_num,by rw [Hn.out];omega,XK,(al.out.trans c).heapS ar.out,by rw [aV.out];exact hS.symm⟩
        case measure=>simp [intOf];omega
    ·obtain rfl:j=i:=oM
     have e:R=0:=by
      rw [←aV.out,←t.out,List.drop_of_length_le (by rw [Hn.out];exact nE _)];unfold laid2;rfl
     subst e;go_wp2;go_ret;exact⟨rfl,hx⟩
def Dk (w:World) (ps:List Pl) (f:Pl→Bool) (a b:Obj) (t5:Value) (W:World):Prop:=
 ∃i:Nat,t5=O Y i∧i≤ps.length∧Ext w W∧W.heap[w.heap.size]?=V a∧W.heap[w.heap.size+1]?=V b∧∀j q,j<i→ps[j]?=V q→f q=false
theorem ziP {ps:List Pl} {f:Pl→Bool} (h:∀j q,j<ps.length→ps[j]?=V q→f q=false):ps.any f=false:=by
 have:=zeT (ps:=ps) (f:=f) h
 rwa [lT (nE _)]at this
theorem zmi {ps:List Pl} {f:Pl→Bool} {k:Nat} {q:Pl} (b:ps[k]?=V q) (a:f q=true):ps.any f=true:=List.any_eq_true.2 ⟨q,lM b,a⟩
theorem sec2 (w:World) (b a:Obj):((w.alloc b).alloc a).heap[w.heap.size+1]?=V a:=qhA _ _ _ sM
theorem zju {g:List (Int×Int)} (h:groundB g=true):g≠[]:=(zaB h).1
theorem zjr (w:World) (vg vp v:Value) (g:List (Int×Int)) (ps:List Pl) (p:Pl) (hg:IsPr w vg g) (hp:IsWr w vp ps) (hv:IsPr w v p.shape) (bq:p.name.size≤1000000) (hl:g.length≤1000000) (hz:laidP g ps=0) :
  Calls Tryz.prog 14 #[J #[vg,vp],J (plc p v)] w fun e w'=>e = .returned (O Y (dropE g ps p))∧Ext w w':=by
 obtain⟨aC,bp,aw⟩:=zbo hz;have ae:=hd9 (fun W (hW:Ext w W)=>zhi W v p (hv.ext' hW) bq);have a2:=hd9 (fun W (hW:Ext w W) x=>zhh W vg v g p (hg.ext' hW) (hv.ext' hW) x (zju aw) hl);have aF:=hd9 (fun W (hW:Ext w W) (x:placedOk p=true)=>zby W v p (hv.ext' hW) x);have bu:=hd9 (fun W vl (hW:Ext w W) (aX:IsPr W vl (lowP2 p)) (x:placedOk p=true) (bw:holdsB g p=true)=>zcK W vl vg (lowP2 p) g aX (hg.ext' hW) (zaj x).1 (zaB aw) (zaL x).1 (zbE aw) (zcs x bw));have HP:=hd9 hp;have Hv:=hd9 hv;have bt:=hd9 aC;obtain⟨ga,gn,gc,rfl⟩:=hg.form3;obtain⟨pa,z,rfl⟩:=hp.form;obtain⟨sa,sn,sc,rfl⟩:=hv.form3;obtain⟨n,hn⟩:=gX ps.length;have bo:=hp.le;unfold maxLen at bo;rw [hn]at bo bp ⊢;have Hn:=hd9 hn;obtain⟨R,hR⟩:=gX (dropE g ps p);rw [hR];have av:=hR;unfold dropE at av;rw [if_neg (by simpa using hz)]at av;have aG:=hd9 av;obtain⟨pb,aT⟩:=gX (placedOk p);obtain⟨bz,ak⟩:=gX (holdsB g p);have ab:=hd9 aT;have aj:=hd9 ak;rw [aT]at ae;have aa:=hd9 (fun W hW x=>a2.out W hW x);rw [ak]at aa;clear hR av hg hp hv bq hl hn aT ak aC aw hz a2;obtain⟨t,sh,d,P,Q,T,wy,D,L,sk⟩:=p;unfold plc at ae aF aa ⊢;dsimp only at ae aF aa ⊢
 cases pb with
 | false =>
  have e:=aG.out;rw [if_pos ab.out]at e;subst e;go_enter Tryz.func14,Tryz.ntmps14
  go_wp2_with(go_at_call 27;go_loud ((with_reducible refine(ae.out _ ?_).mono ?_);exact eA;rintro e w1 ⟨rfl,y⟩))
  go_ret;exact⟨rfl,eA⟩
 | true =>
 cases bz with
 | false =>
  have e:=aG.out;rw [if_neg (by rw [ab.out];decide),if_pos aj.out]at e;subst e;go_enter Tryz.func14,Tryz.ntmps14
  go_wp2_with(first|(go_at_call 27;(with_reducible refine(ae.out _ ?_).mono ?_);exact eA;rintro e w1 ⟨rfl,y⟩;obtain⟨⟨bk,bn⟩,aD,aE⟩:=cK2 w y;(have X1:Ext w w1:=eA);(have k1:w1.heap[w.heap.size]?=V (Obj.cells #[Value.slice ga gn gc,Value.slice pa n z] 25 (0,0)):=y.heapS (((eR _).alloc _).heapS (aN _ _)));(have k2:w1.heap[w.heap.size+1]?=V (Obj.cells #[.string t,X sa sn sc,O Y d,O Y P,O Y Q,O Y T,O Y wy,O Y D,O Y L,O I sk] 31 (0,0)):=y.heapS (sec2 w _ _)))|(go_at_call 65;(with_reducible refine(aa.out w1 X1 ab.out).mono ?_);rintro e w2 ⟨rfl,ad⟩))
  go_ret;exact⟨rfl,X1.trans ad⟩
 | true =>
 have aP:=aG.out;rw [if_neg (by rw [ab.out];decide),if_neg (by rw [aj.out];decide)]at aP;have a3:=hd9 aP;clear aP;go_enter Tryz.func14,Tryz.ntmps14
 go_wp2_with(first|(go_at_call 27;(with_reducible refine(ae.out _ ?_).mono ?_);exact eA;rintro e w1 ⟨rfl,y⟩;obtain⟨⟨bk,bn⟩,aD,aE⟩:=cK2 w y;(have X1:Ext w w1:=eA);(have k1:w1.heap[w.heap.size]?=V (Obj.cells #[Value.slice ga gn gc,Value.slice pa n z] 25 (0,0)):=y.heapS (((eR _).alloc _).heapS (aN _ _)));(have k2:w1.heap[w.heap.size+1]?=V (Obj.cells #[.string t,X sa sn sc,O Y d,O Y P,O Y Q,O Y T,O Y wy,O Y D,O Y L,O I sk] 31 (0,0)):=y.heapS (sec2 w _ _)))|(go_at_call 65;(with_reducible refine(aa.out w1 X1 ab.out).mono ?_);rintro e w2 ⟨rfl,ad⟩;(have X2:Ext w w2:=X1.trans ad);(replace k1:=ad.heapS k1);(replace k2:=ad.heapS k2);obtain⟨⟨c,bv⟩,br,bs⟩:=cK2 w ad))
 have K1:=hd9 k1;have K2:=hd9 k2;clear k1 k2 y ad bk bn c bv aD aE br bs X1
 go_loopw [5] (Dk w ps (nameB t) (Obj.cells #[Value.slice ga gn gc,Value.slice pa n z] 25) (Obj.cells #[Value.string t,Value.slice sa sn sc,Value.int Y d,Value.int Y P,Value.int Y Q,Value.int Y T,Value.int Y wy,Value.int Y D,Value.int Y L,Value.int I sk] 31)) (fun t5 _=>n-(intOf t5).toNat)
 case atStart=>exact⟨0,rfl,by omega,X2,K1.out,K2.out,fun j q hj=>by omega⟩
 case round =>
  clear X2 K1 K2;obtain⟨k,rfl,hk,hx,l,a,hq⟩:=hrel;rw [Hn.out]at hk;have Hq:=hd9 hq;have bi:=qcB l (i:=0) (u:=X ga gn gc) rfl;have bj:=qcB l (i:=1) (u:=X pa n z) rfl;have a7:=qcB a (i:=0) (u:=.string t) rfl;have a8:=qcB a (i:=1) (u:=X sa sn sc) rfl;have a9:=qcB a (i:=2) (u:=O Y d) rfl;have ba:=qcB a (i:=3) (u:=O Y P) rfl;have bb:=qcB a (i:=4) (u:=O Y Q) rfl;have bc:=qcB a (i:=5) (u:=O Y T) rfl;have be:=qcB a (i:=6) (u:=O Y wy) rfl;have bf:=qcB a (i:=7) (u:=O Y D) rfl;have bg:=qcB a (i:=8) (u:=O Y L) rfl;have bh:=qcB a (i:=9) (u:=O I sk) rfl;have zk:=zaa a;have K1:=hd9 l;have K2:=hd9 a;clear hq l a
  by_cases bx:k<n
  ·obtain⟨q,ac⟩:∃q,ps[k]?=V q:=⟨_,gE (by rw [Hn.out];omega)⟩
   obtain⟨b,o,v2,rfl,aQ,am,al,bm⟩:=(HP.out.ext' hx).at' ac;have d0:=bm 0 (.string q.name) rfl;simp only [Nat.add_zero]at d0;have af:=hd9 ac;have j0:(0:Int)≤(k:Int):=oM
   have j2:(k:Int)<(n:Int):=oM
   obtain⟨qb,aU⟩:=gX (nameB t q);have a4:=hd9 aU;obtain⟨qn,aV⟩:=gX q.name;rw [aV]at d0;have bA:(qn.toList==t.toList)=qb:=by rw [←aU,←aV];rfl
   clear bm aQ am al ac aU aV;go_wp2;refine wp_region_held_drew (S:=CellL [(⟨w.heap.size,1,Z⟩,X (V ⟨b,o,Z⟩) n z),(⟨b,o+k*10,Z⟩,.string qn),(⟨w.heap.size+1,0,Z⟩,.string t)]) kM cA (fun f=>?_);refine sN 0 ?_
   iterate 11
    refine tkn ?_
   refine oN ?_;refine wpAnyH_done kM ?_ _
   cases qb with
   | true =>
    have e:=a3.out;rw [if_pos (zmi af.out a4.out)]at e;subst e;go_wp2;go_ret;exact⟨rfl,hx.trans (eR _).drew⟩
   | false =>
    go_wp2
    go_roundw
    case rel =>
     refine⟨k+1,by go_num,by rw [Hn.out];omega,hx.trans (eR _).drew,K1.out,K2.out,fun j q' hj m=>?_⟩
     by_cases h:j=k
     ·subst h
      rw [af.out]at m
      cases m
      exact a4.out
     ·exact Hq.out j q' oM m
    case measure=>simp [intOf];omega
  ·obtain rfl:k=n:=oM
   have e:=a3.out;rw [if_neg (by rw [ziP (by rw [Hn.out];exact Hq.out)];decide)]at e;have aH:=hd9 e;clear e Hq;have XB:=hx;obtain⟨fb,aR⟩:=gX (freeB (lowP2 ⟨t,sh,d,P,Q,T,wy,D,L,sk⟩) g);have aA:clearB g ps ⟨t,sh,d,P,Q,T,wy,D,L,sk⟩=(fb&&!ps.any (clashB ⟨t,sh,d,P,Q,T,wy,D,L,sk⟩)):=by unfold clearB;rw [aR]
   have ai:=hd9 aA;have a1:=hd9 (fun W hW=>aF.out W hW ab.out);have ay:=hd9 (fun W vl hW aX=>bu.out W vl hW aX ab.out aj.out);rw [aR]at ay;clear aR aA;go_wp2;refine wp_region_held_drew (S:=CellL [(⟨w.heap.size,0,Z⟩,X ga gn gc),(⟨w.heap.size+1,0,Z⟩,.string t),(⟨w.heap.size+1,1,Z⟩,X sa sn sc),(⟨w.heap.size+1,2,Z⟩,O Y d),(⟨w.heap.size+1,3,Z⟩,O Y P),(⟨w.heap.size+1,4,Z⟩,O Y Q),(⟨w.heap.size+1,5,Z⟩,O Y T),(⟨w.heap.size+1,6,Z⟩,O Y wy),(⟨w.heap.size+1,7,Z⟩,O Y D),(⟨w.heap.size+1,8,Z⟩,O Y L),(⟨w.heap.size+1,9,Z⟩,O I sk)]) kM cA (fun f=>?_);refine tk1 (i:=0) ?_;refine sN 2 ?_
   iterate 2
    refine tkn ?_
   refine oN ?_;refine cl1 (i:=1) fun K hK=>?_
   go_simp
   (with_reducible refine cM (a1.out _ XB.drew) ?_)
   rintro e w5 ⟨v5,rfl,aW,ag⟩;obtain⟨la,ln,lc,rfl⟩:=aW.form3
   go_wp2_with fail
   refine kO hK (cE f ag) (fun f=>?_);clear hK K;refine cl1 (i:=4) fun K hK=>?_
   go_simp
   (with_reducible refine cM (ay.out w5 _ (XB.drew.trans ag) aW.pr) ?_)
   rintro e w6 ⟨rfl,an⟩
   go_wp2_with fail
   refine kO hK (cE f an) (fun f=>?_);clear hK K;refine tk1 (i:=5) ?_;refine wpAnyH_done kM ?_ _;have X6:Ext w w6:=(XB.drew.trans ag).trans an
   cases fb with
   | false =>
    have e:=aH.out;rw [if_pos (by rw [ai.out];rfl)]at e;subst e;go_wp2;go_ret;exact⟨rfl,X6⟩
   | true =>
    have l:=(((eR wr).drew.trans ag).trans an).heapS K1.out;have a:=(((eR wr).drew.trans ag).trans an).heapS K2.out;have a5:=hd9 l;have a6:=hd9 a;clear f ag an aW l a K1 K2 XB hx bi bj zk a7 a8 a9 ba bb bc be bf bg bh;go_wp2
    go_loopw [6] (Dk w ps (clashB ⟨t,sh,d,P,Q,T,wy,D,L,sk⟩) (Obj.cells #[Value.slice ga gn gc,Value.slice pa k z] 25) (Obj.cells #[Value.string t,Value.slice sa sn sc,Value.int Y d,Value.int Y P,Value.int Y Q,Value.int Y T,Value.int Y wy,Value.int Y D,Value.int Y L,Value.int I sk] 31)) (fun t6 _=>k-(intOf t6).toNat)
    case atStart=>exact⟨0,rfl,by omega,X6,a5.out,a6.out,fun j q hj=>by omega⟩
    case round =>
     clear X6 a5 a6;obtain⟨n,rfl⟩:∃n,n=k:=⟨_,rfl⟩;obtain⟨k,rfl,hk,hx,l,a,hq⟩:=hrel;rw [Hn.out]at hk;have Hq:=hd9 hq;have bi:=qcB l (i:=0) (u:=X ga gn gc) rfl;have bj:=qcB l (i:=1) (u:=X pa n z) rfl;have a7:=qcB a (i:=0) (u:=.string t) rfl;have a8:=qcB a (i:=1) (u:=X sa sn sc) rfl;have a9:=qcB a (i:=2) (u:=O Y d) rfl;have ba:=qcB a (i:=3) (u:=O Y P) rfl;have bb:=qcB a (i:=4) (u:=O Y Q) rfl;have bc:=qcB a (i:=5) (u:=O Y T) rfl;have be:=qcB a (i:=6) (u:=O Y wy) rfl;have bf:=qcB a (i:=7) (u:=O Y D) rfl;have bg:=qcB a (i:=8) (u:=O Y L) rfl;have bh:=qcB a (i:=9) (u:=O I sk) rfl;have zk:=zaa a;have K1:=hd9 l;have K2:=hd9 a;clear hq l a
     by_cases bx:k<n
     ·obtain⟨q,ac⟩:∃q,ps[k]?=V q:=⟨_,gE (by rw [Hn.out];omega)⟩
      obtain⟨b,o,v2,rfl,aQ,am,al,c⟩:=(HP.out.ext' hx).at' ac;have aB:=bt.out q (lM ac);obtain⟨ap,ar,aq,rfl⟩:=am.form3;have ah:=hd9 (fun W=>zdO W ⟨t,sh,d,P,Q,T,wy,D,L,sk⟩ q (X sa sn sc) (X ap ar aq) ⟨_,_,_,rfl⟩ ⟨_,_,_,rfl⟩);have au:=hd9 (fun W (hW:Ext wr W)=>zeZ W ⟨t,sh,d,P,Q,T,wy,D,L,sk⟩ q (X sa sn sc) (X ap ar aq) (Hv.out.ext' (hx.trans hW)) (am.ext' hW) ab.out aB);have af:=hd9 ac;have j0:(0:Int)≤(k:Int):=oM
      have j1:(k:Int)<(n:Int):=oM
      obtain⟨mb,aS⟩:=gX (meetB ⟨t,sh,d,P,Q,T,wy,D,L,sk⟩ q);obtain⟨r,hr⟩:=gX (relP ⟨t,sh,d,P,Q,T,wy,D,L,sk⟩ q);have bl:clashB ⟨t,sh,d,P,Q,T,wy,D,L,sk⟩ q=(mb&&(r==5)):=by unfold clashB;rw [aS,hr]
      have aI:=hd9 bl;rw [aS]at ah;rw [hr]at au;clear aQ am al ac aS hr bl aB;obtain⟨aY,bB,d',aL,aM,aO,a0,aJ,aK,aZ⟩:=q;unfold plc at c ah au;dsimp only at c ah au;have d0:=c 0 (.string aY) rfl;have d1:=c 1 (X ap ar aq) rfl;have d2:=c 2 (O Y d') rfl;have d3:=c 3 (O Y aL) rfl;have d4:=c 4 (O Y aM) rfl;have d5:=c 5 (O Y aO) rfl;have d6:=c 6 (O Y a0) rfl;have d7:=c 7 (O Y aJ) rfl;have d8:=c 8 (O Y aK) rfl;have d9:=c 9 (O I aZ) rfl;simp only [Nat.add_zero]at d0;clear c
      cases mb with
      | false =>
       go_wp2;refine wp_region_held_drew (S:=CellL [(⟨w.heap.size,1,Z⟩,X (V ⟨b,o,Z⟩) n z),(⟨w.heap.size+1,0,Z⟩,.string t),(⟨w.heap.size+1,1,Z⟩,X sa sn sc),(⟨w.heap.size+1,2,Z⟩,O Y d),(⟨w.heap.size+1,3,Z⟩,O Y P),(⟨w.heap.size+1,4,Z⟩,O Y Q),(⟨w.heap.size+1,5,Z⟩,O Y T),(⟨w.heap.size+1,6,Z⟩,O Y wy),(⟨w.heap.size+1,7,Z⟩,O Y D),(⟨w.heap.size+1,8,Z⟩,O Y L),(⟨w.heap.size+1,9,Z⟩,O I sk),(⟨b,o+k*10,Z⟩,.string aY),(⟨b,o+k*10+1,Z⟩,X ap ar aq),(⟨b,o+k*10+2,Z⟩,O Y d'),(⟨b,o+k*10+3,Z⟩,O Y aL),(⟨b,o+k*10+4,Z⟩,O Y aM),(⟨b,o+k*10+5,Z⟩,O Y aO),(⟨b,o+k*10+6,Z⟩,O Y a0),(⟨b,o+k*10+7,Z⟩,O Y aJ),(⟨b,o+k*10+8,Z⟩,O Y aK),(⟨b,o+k*10+9,Z⟩,O I aZ)]) kM cA (fun f=>?_);refine sN 0 ?_
       iterate 6
        refine tkn ?_
       refine oN ?_;refine cl1 (i:=6) fun K hK=>?_
       go_simp
       (with_reducible refine cM (ah.out wr.drew) ?_)
       rintro e w7 ⟨rfl,s⟩
       go_wp2_with fail
       refine kO hK (cE f s) (fun f=>?_);clear hK K;refine sN 7 ?_;refine tkn ?_
       iterate 8
        refine tkgn ?_
       refine tkn ?_;refine oN ?_;refine wpAnyH_done kM ?_ _;go_wp2;refine⟨?_,?measure1⟩
       repeat apply Exists.intro
       refine⟨?rel1,rfl⟩
       case rel1 =>
        refine⟨k+1,by go_num,by rw [Hn.out];omega,hx.trans ((eR _).drew.trans s),s.heapS K1.out,s.heapS K2.out,fun j q' hj m=>?_⟩
        by_cases h:j=k
        ·subst h
         rw [af.out]at m
         cases m
         rw [aI.out];rfl
        ·exact Hq.out j q' oM m
       case measure1=>simp [intOf];omega
      | true =>
       go_wp2;refine wp_region_held_drew (S:=CellL [(⟨w.heap.size,1,Z⟩,X (V ⟨b,o,Z⟩) n z),(⟨w.heap.size+1,0,Z⟩,.string t),(⟨w.heap.size+1,1,Z⟩,X sa sn sc),(⟨w.heap.size+1,2,Z⟩,O Y d),(⟨w.heap.size+1,3,Z⟩,O Y P),(⟨w.heap.size+1,4,Z⟩,O Y Q),(⟨w.heap.size+1,5,Z⟩,O Y T),(⟨w.heap.size+1,6,Z⟩,O Y wy),(⟨w.heap.size+1,7,Z⟩,O Y D),(⟨w.heap.size+1,8,Z⟩,O Y L),(⟨w.heap.size+1,9,Z⟩,O I sk),(⟨b,o+k*10,Z⟩,.string aY),(⟨b,o+k*10+1,Z⟩,X ap ar aq),(⟨b,o+k*10+2,Z⟩,O Y d'),(⟨b,o+k*10+3,Z⟩,O Y aL),(⟨b,o+k*10+4,Z⟩,O Y aM),(⟨b,o+k*10+5,Z⟩,O Y aO),(⟨b,o+k*10+6,Z⟩,O Y a0),(⟨b,o+k*10+7,Z⟩,O Y aJ),(⟨b,o+k*10+8,Z⟩,O Y aK),(⟨b,o+k*10+9,Z⟩,O I aZ)]) kM cA (fun f=>?_);refine sN 0 ?_
       iterate 6
        refine tkn ?_
       refine oN ?_;refine cl1 (i:=6) fun K hK=>?_
       go_simp
       (with_reducible refine cM (ah.out wr.drew) ?_)
       rintro e w7 ⟨rfl,s⟩
       go_wp2_with fail
       refine kO hK (cE f s) (fun f=>?_);clear hK K;refine sN 7 ?_
       iterate 7
        refine tkn ?_
       refine oN ?_;refine cl1 (i:=14) fun K hK=>?_
       go_simp
       (with_reducible refine cM (au.out w7 ((eR wr).drew.trans s)) ?_)
       rintro e w8 ⟨rfl,ao⟩
       go_wp2_with fail
       refine kO hK (cE f ao) (fun f=>?_);clear hK K;refine sN 15 ?_
       iterate 2
        refine tkn ?_
       refine oN ?_;refine wpAnyH_done kM ?_ _
       by_cases h5:r=5
       ·have e:=aH.out
        rw [if_pos (by rw [ai.out,zmi af.out (by rw [aI.out,h5];rfl)];rfl)]at e;subst e h5;go_wp2;go_ret;exact⟨rfl,hx.trans (((eR _).drew.trans s).trans ao)⟩
       ·go_wp2
        refine⟨?_,?measure2⟩
        repeat apply Exists.intro
        refine⟨?rel2,rfl⟩
        case rel2 =>
         refine⟨k+1,by go_num,by rw [Hn.out];omega,hx.trans (((eR _).drew.trans s).trans ao),ao.heapS (s.heapS K1.out),ao.heapS (s.heapS K2.out),fun j q' hj m=>?_⟩
         by_cases h:j=k
         ·subst h
          rw [af.out]at m
          cases m
          rw [aI.out,beq_false_of_ne h5];rfl
         ·exact Hq.out j q' oM m
        case measure2=>simp [intOf];omega
     ·obtain rfl:k=n:=oM
      have e:=aH.out;rw [if_neg (by rw [ai.out,ziP (by rw [Hn.out];exact Hq.out)];decide)]at e;subst e;go_wp2;go_ret;exact⟨rfl,hx⟩
theorem Rb.up1 {q:Rat} (h:Rb limQ q):Lm limE q.num:=Lm.mono h.1 dM
theorem Rb.up2 {q:Rat} (h:Rb limQ q):Lm limE (q.den:Int):=Lm.mono h.2 dM
theorem gc2 {P:Program} {f:Nat} {b:Array Value} {w:World} {x p:Int} (h:x.sign=p) (k:Calls P f b w fun e a=>e = .returned (O Y x.sign)∧Ext w a):Calls P f b w fun e a=>e = .returned (O Y p)∧Ext w a:=by subst h;exact k
theorem zlo (q:Rat):q.floor=q.num / (q.den:Int):=by
 unfold Rat.floor
 split
 ·rename_i h;rw [h];simp
 ·rfl
theorem zlv (w:World) (v:Value) (q:Rat) (h:IsQ w v q) (hb:Rb limQ q) :
  Calls Tryz.prog 70 #[v] w (RetN w q.floor):=by
 obtain⟨s,a,m,c,s2,a2,m2,c2,rfl⟩:=h.form;rw [zlo];have HI:=hd9 h;have ab:(q.den:Int)≠0:=by have:=q.den_pos;omega
 have ah:=hd9 ab;have af:=hd9 (hb.up1);have ag:=hd9 (hb.up2);clear h ab hb;go_enter Tryz.func70,Tryz.ntmps70
 go_upto_region 1 with fail
 obtain⟨W0,b⟩:=gX ((w.alloc (.cells #[O Y s,X a m c,O Y s2,X a2 m2 c2] 68)).alloc (.cells #[O Y 0,X Z 0 0] 66));have X0:Ext w W0:=by rw [←b];exact((eR w).alloc _).alloc _
 have kr:W0.heap[w.heap.size+1]?=V (.cells #[O Y 0,X Z 0 0] 66 (0,0)):=by rw [←b];exact qhA _ _ _ sM
 have C0:CellL [(⟨w.heap.size,0,Z⟩,O Y s),(⟨w.heap.size,1,Z⟩,X a m c),(⟨w.heap.size,2,Z⟩,O Y s2),(⟨w.heap.size,3,Z⟩,X a2 m2 c2)] W0.drew:=by
  rw [←b];clear b;refine⟨?_,?_,?_,?_,trivial⟩<;>go_simp
 rw [b];clear b;refine zaN [(8,3,.cells #[O Y 0,X Z 0 0] 66 (0,0)),(9,4,.cells #[O Y 0,X Z 0 0] 66 (0,0))] _ 10 3 (fun i=>decide (9<i)) (fun i=>i==7) kM kM kM sM kM (by intro x hx;simp only [List.mem_cons,List.not_mem_nil,or_false]at hx;rcases hx with rfl|rfl<;>exact⟨_,rfl,rfl,fun a W=>by go_simp⟩) (fun _ _ d _ _ h=>by cases d<;>exact h) C0 (fun o=>?_);refine tf1 (i:=0) ?_;refine tf1 (i:=1) ?_;refine tf1 (i:=2) ?_;refine cf1 (i:=3) fun W3 j T p K g=>?_
 go_simp
 (with_reducible refine cM (zaZ W3 (J #[O Y s,X a m c,O Y s2,X a2 m2 c2]) q (HI.out.ext (X0.drew.trans j))) ?_)
 rintro e w3 ⟨v3,rfl,t,z⟩;obtain⟨s3,a3,m3,c3,rfl,-⟩:=t.form2
 go_wp2_with fail
 refine kO g (.of T z) (fun _ _=>?_);clear g K p;refine cf1 (i:=4) fun W4 k aa p K g=>?_
 go_simp
 (with_reducible refine cM (zcL W4 (J #[O Y s,X a m c]) (J #[O Y s3,X a3 m3 c3]) q.num (q.den:Int) (HI.out.top.ext (X0.drew.trans (j.trans (z.trans k)))) (t.ext k) af.out ag.out ah.out) ?_)
 rintro e w4 ⟨v4,v5,rfl,y,ac,ad⟩;obtain⟨⟨s4,L,m4,R,rfl,-⟩,s5,a5,m5,c5,rfl,-⟩:=And.intro y.form2 ac.form2
 go_wp2_with fail
 refine kO g (.of aa ad) (fun _ _=>?_);clear g K p;refine tf1 (i:=5) ?_;refine tf1 (i:=6) ?_;refine tf1 (i:=7) ?_;refine df kM (fun W5 n l=>?_);intro P q5 y5 _ _ Q q6 y6 D _;have D:Q≠P:=by simpa using D
 have X5:Ext W0 W5:=(eR W0).drew.trans l;have h4:=y.ext n;have aj:=X5.heapS kr;have zk:=zaa kr;have ak:W0.heap.size≤P:=by simpa using y5
 have al:W0.heap.size≤Q:=by simpa using y6
 have xf:=qfB q5;have yf:=qfB q6;have x0:=qcB q5 (i:=0) (u:=O Y 0) rfl;have x1:=qcB q5 (i:=1) (u:=X Z 0 0) rfl;have u0:=qcB q6 (i:=0) (u:=O Y 0) rfl;have u1:=qcB q6 (i:=1) (u:=X Z 0 0) rfl;clear j z k ad n t y ac;refine cl1 (i:=10) fun K g=>?_
 go_simp;refine kO g (cE o (by(repeat refine Ext.set ?_ (by first|exact y5|exact y6) _);exact l)) (fun S=>?_);clear g K;refine cl1 (i:=11) fun K g=>?_
 go_simp;refine kO g (cE o (by(repeat refine Ext.set ?_ (by first|exact y5|exact y6) _);exact l)) (fun S=>?_);clear g K;refine wpAnyH_done kM ?_ _;clear x0 x1 u0 u1 xf yf;obtain⟨W6,r⟩:=gX (stL (stL W5 P 0 [O Y s4,X L m4 R]) Q 0 [O Y s5,X a5 m5 c5]);have e6:(((W5.setCell ⟨P,0,Z⟩ (O Y s4)).setCell ⟨P,1,Z⟩ (X L m4 R)).setCell ⟨Q,0,Z⟩ (O Y s5)).setCell ⟨Q,1,Z⟩ (X a5 m5 c5)=W6:=r;rw [e6];have TB:=zcZ (cs:=[O Y 0,X Z 0 0]) (ds:=[O Y 0,X Z 0 0]) [O Y s4,X L m4 R] [O Y s5,X a5 m5 c5] q5 q6 D rfl rfl;rw [r]at TB;obtain⟨K5,K6,tb,tk,te⟩:=TB;have X6:=te W0 X5 ak al;have ae:=tk 3 dM dM;have h6:=h4.keep ae;have f:=X6.heapS kr;have z5:=zaa K5;have zr:=zaa f;have c0:=qcB K5 (i:=0) (u:=O Y s4) rfl;have c1:=qcB K5 (i:=1) (u:=X L m4 R) rfl;have r0:=qcB f (i:=0) (u:=O Y 0) rfl;have r1:=qcB f (i:=1) (u:=X Z 0 0) rfl;have rf:=qfB f;have ai:=hd9 f;clear r e6 tb tk te ae h4 X5 aj q5 q6 f K5 K6 kr l S o C0;go_wp2;exact bR (v:=J #[O Y s4,X L m4 R]) (by simp [results,Tryz.results70,go_sem,zr,r0,r1,rf]) rfl ⟨_,rfl,h6.keep (zbU ai.out _ _),zcF (X0.trans X6) (Nat.le_succ _) _ _⟩
theorem zlz (w:World) (v:Value) (n:Int) (h:IsN w v n) (W : -9223372036854775808≤n) (h1:n≤9223372036854775807) :
  Calls Tryz.prog 69 #[v] w fun e w'=>e = .returned (.tuple #[O Y n,.bool true])∧Ext w w':=by
 have R:=hd9 (show Lm limG n from Lm.mono (j:=3) (by unfold Lm B;omega) dM);have x:=hd9 (show Lm limG (-9223372036854775808)from Lm.mono (j:=3) (by unfold Lm B;omega) dM);have y:=hd9 (show Lm limG 9223372036854775807 from Lm.mono (j:=3) (by unfold Lm B;omega) dM);obtain⟨s,a,m,c,rfl,hs⟩:=h.form2;obtain⟨p,D⟩:=gX ((n-(-9223372036854775808)).sign);obtain⟨r,L⟩:=gX ((n-9223372036854775807).sign);obtain⟨k,rfl⟩:∃k:Nat,p=k:=⟨p.toNat,by rw [←D];rcases zai (n-(-9223372036854775808))with ⟨e,h⟩|⟨e,h⟩|⟨e,h⟩<;>omega⟩;obtain⟨j,rfl⟩:∃j:Nat,r = -(j:Int):=⟨(-r).toNat,by rw [←L];rcases zai (n-9223372036854775807)with ⟨e,h⟩|⟨e,h⟩|⟨e,h⟩<;>omega⟩;have HI:=hd9 h;have Hp:=hd9 D;have Hr:=hd9 L;have Q:=hd9 (And.intro W h1);clear hs h D L W h1;go_enter Tryz.func69,Tryz.ntmps69;go_wp2;obtain⟨W0,f⟩:=gX (w.alloc (.cells #[O Y s,X a m c] 66));have z:Ext w W0:=by rw [←f];exact(eR w).alloc _
 have C0:CellL [(⟨w.heap.size,0,Z⟩,O Y s),(⟨w.heap.size,1,Z⟩,X a m c)] W0.drew:=by
  rw [←f];clear f;refine⟨?_,?_,trivial⟩<;>go_simp
 rw [f];clear f;refine wp_region_held_drew (S:=CellL [(⟨w.heap.size,0,Z⟩,O Y s),(⟨w.heap.size,1,Z⟩,X a m c)]) kM C0 (fun b=>?_);refine tk1 (i:=0) ?_;refine cl1 (i:=1) fun K d=>?_
 go_simp
 (with_reducible refine cM (za0 W0.drew (-9223372036854775808) dM dM) ?_)
 rintro e w1 ⟨v1,rfl,q,g⟩
 (obtain⟨s1,a1,m1,c1,rfl,-⟩:=q.form2)
 go_wp2_with fail
 refine kO d (cE b g) (fun b=>?_);clear d K;refine cl1 (i:=2) fun K d=>?_
 go_simp
 (with_reducible refine cM (gc2 Hp.out (zds w1 (J #[O Y s,X a m c]) (J #[O Y s1,X a1 m1 c1]) n (-9223372036854775808) (HI.out.ext (z.drew.trans g)) q R.out x.out)) ?_)
 rintro e w2 ⟨rfl,l⟩
 (skip)
 go_wp2_with fail
 refine kO d (cE b l) (fun b=>?_);clear d K;refine sN 3 ?_
 iterate 3
  refine tkn ?_
 refine oN ?_;refine cl1 (i:=6) fun K d=>?_
 go_simp
 (with_reducible refine cM (za0 w2 9223372036854775807 dM dM) ?_)
 rintro e w3 ⟨v3,rfl,t,o⟩
 (obtain⟨s3,a3,m3,c3,rfl,-⟩:=t.form2)
 go_wp2_with fail
 refine kO d (cE b o) (fun b=>?_);clear d K;refine cl1 (i:=7) fun K d=>?_
 go_simp
 (with_reducible refine cM (gc2 Hr.out (zds w3 (J #[O Y s,X a m c]) (J #[O Y s3,X a3 m3 c3]) n 9223372036854775807 (HI.out.ext (((z.drew.trans g).trans l).trans o)) t R.out y.out)) ?_)
 rintro e w4 ⟨rfl,u⟩
 (skip)
 go_wp2_with fail
 refine kO d (cE b u) (fun b=>?_);clear d K;refine sN 8 ?_
 iterate 2
  refine tkn ?_
 refine oN ?_;refine wpAnyH_done kM ?_ _;obtain⟨c0,aa,_⟩:=b;have T:=(((z.drew.trans g).trans l).trans o).trans u;have zz:w.heap.size<w4.heap.size:=World.block_lt_of_cell? w4 _ c0
 go_wp2_with(go_at_call 141;(with_reducible refine(zda _ (J #[O Y s,X a m c]) n (HI.out.ext T) Q.out.1 Q.out.2).mono ?_);rintro e w5 ⟨rfl,P⟩)
 exact bR (v:=.tuple #[O Y n,.bool true]) (by simp [results,Tryz.results69,go_sem]) rfl ⟨rfl,T.trans P⟩
end
end Go.Proofs.YtjnjpagegkcgfaaGreatDoor.Cop
