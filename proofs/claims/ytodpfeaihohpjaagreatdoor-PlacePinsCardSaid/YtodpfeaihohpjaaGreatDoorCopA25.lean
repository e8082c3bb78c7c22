/- Part 26: contracts of what the law calls. -/
import Derived.Test.YtodpfeaihohpjaaGreatDoorCopA24
import Derived.Test.YtodpfeaihohpjaaGreatDoorCopA22
import Derived.Test.YtodpfeaihohpjaaGreatDoorCopA15
set_option maxRecDepth 1000000
set_option maxHeartbeats 16000000
set_option linter.unusedSimpArgs false
set_option linter.unusedVariables false
open Go.Value renaming slice→O,bool→X,agg→I
open Go renaming World→Y,Value→V
open Option renaming none→Z
namespace Go.Proofs.YtodpfeaihohpjaaGreatDoor.Cop
section
open Go.RowKit Go.Shelf Go.Sort Go.Lib
attribute [local go_sem] Oper.semAt_some
theorem zjs {α:Type} (f:α→Rat) (xs:List α) (x:α) (h:xs≠[]):minG f (xs++[x])=if rcmp (f x) (minG f xs)<0 then f x else minG f xs:=by
 cases xs with
 | nil=>exact absurd rfl h
 | cons y ys =>
  show (ys++[x]).foldl _ (f y)=_
  rw [List.foldl_append];rfl
theorem Rb.gapT {l t:List (Int×Int)} (hl:LnOk l) (ht:LnOk t):Rb 23 (gapT l t):=by
 unfold Cop.gapT leastR;obtain⟨h1,h2⟩:=zax (gapR (btw l t)) (zaD (btw l t));rw [h2];exact Rb.gap (zak (zbQ hl ht) _ h1) (zbQ hl ht)
theorem Rb.minG {α:Type} {f:α→Rat} {xs:List α} (h:∀x∈xs,Rb 23 (f x)):Rb 23 (minG f xs):=by
 by_cases h0:xs=[]
 ·subst h0
  exact Rb.int (n:=0) (by unfold Lm;have:=zaB zbA 23;omega) (by decide)
 ·obtain⟨⟨x,hx,e⟩,_⟩:=zbm f h0
  rw [e];exact h x hx
theorem ziL (w:Y) (bx:Nat) (vl vt:V) (l t:List (Int×Int)) (hb:w.cell? ⟨bx,10,Z⟩=some vl) (h1:IsPts w vl l) (h2:IsPts w vt t) (k1:LnOk l) (k2:LnOk t) :
  Calls Tryz.prog 52 #[vt,.pointer (some ⟨bx,0,Z⟩)] w (RetR w (gapT l t)):=by
 have HB:=hd9 (fun(W:Y) (hW:Ext w W)=>zbi W vl vt l t (h1.ext' hW) (h2.ext' hW) (List.length_pos_iff.2 k1.1) (List.length_pos_iff.2 k2.1));have HL:=hd9 (fun(W:Y) (hW:Ext w W)=>zce W vl vt (btw l t) (h1.ext' hW) (h2.ext' hW) (zbQ k1 k2));obtain⟨R,hR⟩:=gX (RetR w (gapT l t));rw [hR];have HR:=hd9 hR;have hbz:=World.block_lt_of_cell? _ _ hb;unfold gapT at HR;obtain⟨s,hs⟩:=gX (btw l t);rw [hs]at HB HL HR;obtain⟨a1,m1,rfl⟩:=h1.form;obtain⟨a2,m2,rfl⟩:=h2.form;obtain⟨n1,f1⟩:=gX l.length;obtain⟨n2,f2⟩:=gX t.length;obtain⟨lo,elo⟩:=gX s.lo;obtain⟨hi,ehi⟩:=gX s.hi;obtain⟨o,eo⟩:=gX (leastR s);unfold RetBt at HB;unfold spc at HB HL;simp only [f1,f2,elo,ehi,eo]at HB HL HR hb ⊢;clear h1 h2 k1 k2 hs f1 f2 elo ehi eo hR;dsimp only at hbz;go_enter Tryz.func52,Tryz.ntmps52
 go_wp2_with(first|(go_at_call 53;(with_reducible refine(HB.out _ ?_).mono ?_);exact eA;rintro e w3 ⟨rfl,hx3⟩;obtain⟨hc3,hf3⟩:=hx3.cells;(have z3:w.heap.size<w3.heap.size:=by have:=hx3.size;simp only [wZ]at this;omega);(have z3a:w.heap.size<w3.heap.size+1:=by omega))|(go_at_call 54;(with_reducible refine(HL.out _ ?_).mono ?_);exact eA;rintro e w4 ⟨r4,r5,rfl,hr4,hr5,hx4⟩;obtain⟨a4,m4,c4,s4,b4,n4,k4,rfl⟩:=hr4.form;obtain⟨a5,m5,c5,s5,b5,n5,k5,rfl⟩:=hr5.form;obtain⟨hc4,hf4⟩:=hx4.cells;(have z4:w.heap.size<w4.heap.size:=by have:=hx4.size;simp only [wZ]at this;omega);(have z4a:w.heap.size<w4.heap.size+1:=by omega)))
 refine bR (v:=I #[O a5 m5 c5,X s5,O b5 n5 k5]) (by simp [results,Tryz.results52,go_sem,hc3,hf3,hc4,hf4,z3,z4,z3a,z4a]) rfl ?_;rw [←HR.out];exact⟨_,rfl,hr5.keep kA,eA⟩
def LbS (w:Y) (f:List (Int×Int)→Rat) (ts:List (List (Int×Int))) (g:Nat) (t6 t13:V) (W:Y):Prop:=
 ∃(i:Nat),i≤ts.length∧t13 = .int .i64 i∧g=ts.length-i∧(∃a n c,t6=O a n c)∧Ext w W∧RB W w.heap.size 0∧RB W (w.heap.size+1) (minG f (ts.take i))
def RetLb (w:Y) (q:Rat) (e:Ending) (w':Y):Prop:=∃a n c r,e = .returned (.tuple #[O a n c,r])∧IsR w' r q∧Ext w w'
theorem zjl (w:Y) (v:V) (bx:Nat) (vl:V) (l:List (Int×Int)) (ts:List (List (Int×Int))) (hs:Sl 99 1 (PSl 99) w v ts) (hb:w.cell? ⟨bx,10,Z⟩=some vl) (h1:IsPts w vl l) (k1:LnOk l) (k2:∀t∈ts,LnOk t) :
  Calls Tryz.prog 51 #[v,.func (.func 52) #[] #[.pointer (some ⟨bx,0,Z⟩)]] w (RetLb w (minG (gapT l) ts)):=by
 obtain⟨a,c,rfl⟩:=hs.form;obtain⟨n,hn⟩:=gX ts.length;rw [hn]at hs ⊢;have hle:=hs.le;unfold maxLen at hle;have Hn:=hd9 hn;have Hb23:=hd9 (fun t (ht:t∈ts)=>Rb.gapT k1 (k2 t ht));have hnc:n≤9223372036854775807:=by omega
 have HG:=hd9 (fun(W:Y) (hW:Ext w W) (vt:V) (t:List (Int×Int)) (ht:IsPts W vt t) (hm:t∈ts)=>ziL W bx vl vt l t (hW.cellS hb) (h1.ext' hW) ht k1 (k2 t hm));obtain⟨R,hR⟩:=gX (RetLb w (minG (gapT l) ts));rw [hR];have HR:=hd9 hR;obtain⟨f,hf⟩:=gX (gapT l);rw [hf]at HG HR Hb23;clear hn hle hR hf h1 k1 k2 hb;go_enter Tryz.func51,Tryz.ntmps51;go_wp2
 go_loopg [6,13] n (LbS w f ts)
 case atStart =>
  have z:∀W,IsR W (I #[O Z 0 0,X false,O Z 0 0]) 0:=fun W=>IsR.zero _
  exact⟨0,by omega,rfl,by rw [Hn.out];rfl,⟨_,_,_,rfl⟩,eA,(RB.new (z w) rfl).ext ((eR _).alloc _),RB.new (z _) (by simp)⟩
 case round =>
  obtain⟨i,hi,rfl,rfl,⟨xa,xn,xc,rfl⟩,hx,hA,hB⟩:=hrel;rw [Hn.out]at hi;have Hx:=hd9 hx;have HA:=hd9 hA;have HB:=hd9 hB
  by_cases hlt:i<n
  ·obtain⟨t,hti⟩:∃t,ts[i]?=some t:=⟨ts[i]'(by rw [Hn.out];omega),by simp [Hn.out,hlt]⟩
   obtain⟨b,o,d,rfl,hbl,hdl,⟨vt,rfl,hvt⟩,hc⟩:=Sl.at (Sl.ext hs (fun _ _ h=>by obtain⟨v,e,h⟩:=h;exact⟨v,e,h.ext' hx⟩) hx) hti;have e0:=hc 0 _ rfl;rw [Nat.mul_one,Nat.add_zero]at e0;obtain⟨ta,tn,tc,rfl⟩:=form3 hvt;have Hm:=hd9 (lM hti);have Hvt:=hd9 hvt;have Hti:=hd9 hti;have Hbt:=hd9 (Hb23.out t Hm.out);have zB:w.heap.size+1<wr.heap.size:=by obtain⟨_,_,_,_,_,_,_,_,_,_,_,_,_,z,_⟩:=hB.rd;exact z
   obtain⟨d1,dm,dc,ds,d2,dm2,dc2,dD0,dD1,dD2,df0,df1,df2,zD,hzD⟩:=hB.rd;clear hti hA hB hx hvt hc
   by_cases h0:i=0
   ·have h0b:((i:Int)==0)=true:=by simp;omega
    have H0:=hd9 h0;clear h0
    go_wp2_with((go_at_call 52;(with_reducible refine(HG.out _ Hx.out (O ta tn tc) t Hvt.out Hm.out).mono ?_);rintro e w1 ⟨r1,rfl,hr1,hx1⟩;obtain⟨b1,n1,k1,t1,b2,n2,k2,rfl⟩:=hr1.form;obtain⟨hc1,hf1⟩:=hx1.cells;(have z1:w.heap.size+1<w1.heap.size:=by have:=hx1.size;omega)))
    have E:Hid (minG f (ts.take (i+1))=f t):=hd9 (by
     have:=H0.out;subst this;rw [zab _ _ _ Hti.out];simp [minG])
    have hX8:Ext wr (w1.alloc (.cells #[O b1 n1 k1,X t1,O b2 n2 k2] 65)):=hx1.alloc _;obtain⟨W8,hW8⟩:=gX ((w1.alloc (.cells #[O b1 n1 k1,X t1,O b2 n2 k2] 65)));have g1:RB W8 w1.heap.size (f t):=by rw [←hW8];exact RB.new hr1 rfl
    rw [hW8]at hX8 ⊢;have g2:=HB.out.ext hX8;have zW:=hX8.size;obtain⟨s1,hs1⟩:=gX w1.heap.size;simp only [hs1]at *;have zs:w.heap.size+1<s1:=z1;clear hW8 hc1 hf1 hr1 hx1 hzD dD0 dD1 dD2 df0 df1 df2 hs1 e0;obtain⟨pa,pm,pc1,ps,pa2,pm2,pc2,p0,p1,p2,_,_,_,pz,hp⟩:=(g1).rd;obtain⟨_,_,_,_,_,_,_,x0,x1,x2,xf0,xf1,xf2,xz,_⟩:=(g2).rd;refine wp_region_held_drew (S:=CellL [(⟨s1,0,Z⟩,O pa pm pc1),(⟨s1,1,Z⟩,X ps),(⟨s1,2,Z⟩,O pa2 pm2 pc2)]) (by kernel_rfl) cA (fun h9H=>?_);refine sN 0 ?_
    iterate 3
     refine tkn ?_
    refine oN ?_
    have hnb1:∀q∈[((⟨s1,0,Z⟩:Addr),Value.slice pa pm pc1),(⟨s1,1,Z⟩,X ps),(⟨s1,2,Z⟩,O pa2 pm2 pc2)],w.heap.size+1≠q.1.block:=by
     intro q hq;simp at hq
     rcases hq with rfl|rfl|rfl<;>(dsimp only;omega)
    refine cl1 (i:=3) fun K hK=>?_
    go_simp;refine kO hK (CellL.set3d h9H hnb1 _ _ _) (fun h9H=>?_);clear hK K;refine wpAnyH_done (by kernel_rfl) ?_ _;have HX8:=hd9 hX8;have P:=hd9 (RB.put3 g2 hp rfl);clear hX8 g1 g2;go_wp2
    go_roundg (n-(i+1))
    case measure=>have:=Hn.out;omega
    case rel =>
     obtain⟨P1,P2,P3,P4,P5⟩:=P.out;have D:=fun W=>(eR W).drew
     exact⟨i+1,by rw [Hn.out];omega,by go_num,by rw [Hn.out],⟨_,_,_,rfl⟩,(P5 w (Hx.out.trans HX8.out) (by omega)).drew,
      (P2 _ _ (by omega) (HA.out.ext HX8.out)).ext (D _),by rw [E.out];exact P1.ext (D _)⟩
   ·have h0b:((i:Int)==0)=false:=by simp;omega
    have hne:ts.take i≠[]:=fun h=>by
     have h2:(ts.take i).length=0:=by rw [h];rfl
     rw [List.length_take,Hn.out]at h2;omega
    have e9:minG f (ts.take (i+1))=if rcmp (f t) (minG f (ts.take i))<0 then f t else minG f (ts.take i):=by
     rw [zab _ _ _ Hti.out,zjs _ _ _ hne]
    have Hgb:=hd9 (zai Hbt.out (by omega));have Hgo:=hd9 (zai (Rb.minG (f:=f) (xs:=ts.take i) fun x hx=>Hb23.out x (List.mem_of_mem_take hx)) (by omega));obtain⟨k,hk⟩:=gX (rcmp (f t) (minG f (ts.take i)));rw [hk]at e9;have Hk:=hd9 hk;clear h0 hne hk
    by_cases hkn:k<0
    ·rw [if_pos hkn]at e9
     have E:=hd9 e9;clear e9
     go_wp2_with(first|(go_at_call 52;(with_reducible refine(HG.out _ Hx.out (O ta tn tc) t Hvt.out Hm.out).mono ?_);rintro e w1 ⟨r1,rfl,hr1,hx1⟩;obtain⟨b1,n1,k1,t1,b2,n2,k2,rfl⟩:=hr1.form;obtain⟨hc1,hf1⟩:=hx1.cells;(have z1:w.heap.size+1<w1.heap.size:=by have:=hx1.size;omega))|(go_at_call 19;(with_reducible refine(zao _ (I #[O b1 n1 k1,X t1,O b2 n2 k2]) (I #[O d1 dm dc,X ds,O d2 dm2 dc2]) _ _ (hr1.ext ?_) (hzD.ext ?_) Hgb.out Hgo.out).mono ?_);exact eA;exact eA;rintro e w3 ⟨rfl,hx3⟩;(try rw [Hk.out]);obtain⟨hc3,hf3⟩:=hx3.cells))
     have hX8:Ext wr (w3):=(hx1.alloc _).trans hx3;obtain⟨W8,hW8⟩:=gX ((w3));have g1:RB W8 w1.heap.size (f t):=by rw [←hW8];exact(RB.new hr1 rfl).ext hx3
     rw [hW8]at hX8 ⊢;have g2:=HB.out.ext hX8;have zW:=hX8.size;obtain⟨s1,hs1⟩:=gX w1.heap.size;simp only [hs1]at *;have zs:w.heap.size+1<s1:=z1;clear hW8 hc1 hf1 hr1 hx1 hzD dD0 dD1 dD2 df0 df1 df2 hs1 e0 hx3 hc3 hf3;obtain⟨pa,pm,pc1,ps,pa2,pm2,pc2,p0,p1,p2,_,_,_,pz,hp⟩:=(g1).rd;obtain⟨_,_,_,_,_,_,_,x0,x1,x2,xf0,xf1,xf2,xz,_⟩:=(g2).rd;refine wp_region_held_drew (S:=CellL [(⟨s1,0,Z⟩,O pa pm pc1),(⟨s1,1,Z⟩,X ps),(⟨s1,2,Z⟩,O pa2 pm2 pc2)]) (by kernel_rfl) cA (fun h9H=>?_);refine sN 0 ?_
     iterate 3
      refine tkn ?_
     refine oN ?_
     have hnb1:∀q∈[((⟨s1,0,Z⟩:Addr),Value.slice pa pm pc1),(⟨s1,1,Z⟩,X ps),(⟨s1,2,Z⟩,O pa2 pm2 pc2)],w.heap.size+1≠q.1.block:=by
      intro q hq;simp at hq
      rcases hq with rfl|rfl|rfl<;>(dsimp only;omega)
     refine cl1 (i:=3) fun K hK=>?_
     go_simp;refine kO hK (CellL.set3d h9H hnb1 _ _ _) (fun h9H=>?_);clear hK K;refine wpAnyH_done (by kernel_rfl) ?_ _;have HX8:=hd9 hX8;have P:=hd9 (RB.put3 g2 hp rfl);clear hX8 g1 g2;go_wp2
     go_roundg (n-(i+1))
     case measure=>have:=Hn.out;omega
     case rel =>
      obtain⟨P1,P2,P3,P4,P5⟩:=P.out;have D:=fun W=>(eR W).drew
      exact⟨i+1,by rw [Hn.out];omega,by go_num,by rw [Hn.out],⟨_,_,_,rfl⟩,(P5 w (Hx.out.trans HX8.out) (by omega)).drew,
       (P2 _ _ (by omega) (HA.out.ext HX8.out)).ext (D _),by rw [E.out];exact P1.ext (D _)⟩
    ·rw [if_neg hkn]at e9
     have E:=hd9 e9;clear e9
     go_wp2_with(first|(go_at_call 52;(with_reducible refine(HG.out _ Hx.out (O ta tn tc) t Hvt.out Hm.out).mono ?_);rintro e w1 ⟨r1,rfl,hr1,hx1⟩;obtain⟨b1,n1,k1,t1,b2,n2,k2,rfl⟩:=hr1.form;obtain⟨hc1,hf1⟩:=hx1.cells;(have z1:w.heap.size+1<w1.heap.size:=by have:=hx1.size;omega))|(go_at_call 19;(with_reducible refine(zao _ (I #[O b1 n1 k1,X t1,O b2 n2 k2]) (I #[O d1 dm dc,X ds,O d2 dm2 dc2]) _ _ (hr1.ext ?_) (hzD.ext ?_) Hgb.out Hgo.out).mono ?_);exact eA;exact eA;rintro e w3 ⟨rfl,hx3⟩;(try rw [Hk.out]);obtain⟨hc3,hf3⟩:=hx3.cells))
     have hX8:Ext wr w3:=(hx1.alloc _).trans hx3
     go_roundg (n-(i+1))
     case measure=>have:=Hn.out;omega
     case rel=>exact⟨i+1,by rw [Hn.out];omega,by go_num,by rw [Hn.out],⟨_,_,_,rfl⟩,Hx.out.trans hX8,HA.out.ext hX8,by rw [E.out];exact HB.out.ext hX8⟩
  ·obtain rfl:i=n:=by omega
   have e:ts.take i=ts:=lT (by rw [Hn.out];exact nE _);rw [e]at hB HB;clear e;have zW:=hx.size;have zD:w.heap.size+1<wr.heap.size:=by obtain⟨_,_,_,_,_,_,_,_,_,_,_,_,_,z,_⟩:=hB.rd;exact z
   go_wp2;obtain⟨pa,pm,pc1,ps,pa2,pm2,pc2,p0,p1,p2,_,_,_,pz,hp⟩:=(hB).rd;obtain⟨_,_,_,_,_,_,_,x0,x1,x2,xf0,xf1,xf2,xz,_⟩:=(hA).rd;refine wp_region_held_drew (S:=CellL [(⟨w.heap.size+1,0,Z⟩,O pa pm pc1),(⟨w.heap.size+1,1,Z⟩,X ps),(⟨w.heap.size+1,2,Z⟩,O pa2 pm2 pc2)]) (by kernel_rfl) cA (fun h9H=>?_);refine sN 0 ?_
   iterate 3
    refine tkn ?_
   refine oN ?_
   have hnb1:∀q∈[((⟨w.heap.size+1,0,Z⟩:Addr),Value.slice pa pm pc1),(⟨w.heap.size+1,1,Z⟩,X ps),(⟨w.heap.size+1,2,Z⟩,O pa2 pm2 pc2)],w.heap.size≠q.1.block:=by
    intro q hq;simp at hq
    rcases hq with rfl|rfl|rfl<;>(dsimp only;omega)
   refine cl1 (i:=3) fun K hK=>?_
   go_simp;refine kO hK (CellL.set3d h9H hnb1 _ _ _) (fun h9H=>?_);clear hK K;refine wpAnyH_done (by kernel_rfl) ?_ _;have P:=hd9 (RB.put3 hA hp rfl);go_wp2;refine bR (v:=.tuple #[O xa xn xc,I #[O pa pm pc1,X ps,O pa2 pm2 pc2]]) (by simp [results,Tryz.results51,go_sem,x0,x1,x2,xf0,xf1,xf2]) rfl ?_;rw [←HR.out];obtain⟨P1,P2,P3,P4,P5⟩:=P.out;exact⟨_,_,_,_,rfl,(hp.keep P3).ext (eR _).drew,(P5 w Hx.out (by omega)).drew⟩
def dropE (g:List (Int×Int)) (ps:List Pl) (p:Pl):Int:=
 if laidP g ps≠0 then laidP g ps else if placedOk p=false then 2 else if holdsB g p=false then 2 else if ps.any (nameB p.name)=true then 7 else if clearB g ps p=false then 12 else 0
def RetDr (w:Y) (g:List (Int×Int)) (ps:List Pl) (p:Pl) (e:Ending) (w':Y):Prop:=
 e = .returned (.tuple #[.int .i64 (if dropE g ps p=0 then dropP g ps p else 0),.int .i64 (dropE g ps p)])∧Ext w w'
theorem zlC {w:Y} {vg vp:V} {g:List (Int×Int)} {ps:List Pl} (hg:IsPts w vg g) (hp:IsPls w vp ps) (hgw:Gw w) (h:laidP g ps≠0) :
  Calls Tryz.prog 44 #[I #[vg,vp]] w fun e w'=>e = .returned (.tuple #[I #[O Z 0 0,O Z 0 0],.int .i64 (laidP g ps)])∧Ext w w':=by
 refine(zbE w vg vp g ps hg hp hgw).mono ?_;rintro e w' (⟨_,h2,h3⟩|⟨h1,_⟩)
 ·exact⟨h2,h3⟩
 ·exact absurd h1 h
theorem ze8 {w:Y} {vg vp:V} {g:List (Int×Int)} {ps:List Pl} (hg:IsPts w vg g) (hp:IsPls w vp ps) (hgw:Gw w) (h:laidP g ps=0) :
  Calls Tryz.prog 44 #[I #[vg,vp]] w fun e w'=>∃a n c,e = .returned (.tuple #[I #[vg,O a n c],.int .i64 0])∧IsLas w' (O a n c) ps∧Ext w w':=by
 refine(zbE w vg vp g ps hg hp hgw).mono ?_;rintro e w' (⟨h1,_⟩|⟨_,vs,h2,h3,h4⟩)
 ·exact absurd h h1
 ·obtain⟨a,n,c,rfl⟩:=form3 h3
  exact⟨a,n,c,h2,h3,h4⟩
theorem zfu (w:Y) (vg vp v:V) (g:List (Int×Int)) (ps:List Pl) (p:Pl) (hg:IsPts w vg g) (hp:IsPls w vp ps) (hv:IsPts w v p.shape) (hk:0≤p.skin) (hgw:Gw w) (h:laidP g ps≠0∨placedOk p=false) :
  Calls Tryz.prog 15 #[I #[vg,vp],I (plc p v)] w (RetDr w g ps p):=by
 obtain⟨ga,gn,gc,rfl⟩:=form3 hg;obtain⟨pa,pn,pc1,rfl⟩:=form3 hp;obtain⟨sa,sn,sc1,rfl⟩:=form3 hv;obtain⟨R,hR⟩:=gX (RetDr w g ps p);rw [hR];have HR:=hd9 hR
 by_cases h0:laidP g ps=0
 ·have hok:placedOk p=false:=h.resolve_left (fun h9=>h9 h0)
  have e:dropE g ps p=2:=by unfold dropE;rw [if_neg (fun h9=>h9 h0),if_pos hok]
  have HL:=hd9 (fun(W:Y) (hW:Ext w W)=>ze8 (hg.ext' hW) (hp.ext' hW) (hgw.ext hW) h0);have HK:=hd9 (fun(W:Y) (hW:Ext w W)=>zaz W p _ (hv.ext' hW) hk);rw [hok,if_neg (by decide)]at HK;have HE:=hd9 e;obtain⟨nm,sh,d,de,gx,gz,wy,ax,az,sk⟩:=p;clear e h0 h hok hg hp hv hk hgw hR;unfold plc at HK ⊢;dsimp only at HK ⊢;go_enter Tryz.func15,Tryz.ntmps15
  go_wp2_with(first|(go_at_call 44;(with_reducible refine(HL.out _ ?_).mono ?_);exact eA;rintro e w4 ⟨va,vn,vc,rfl,hvs,hx4⟩;obtain⟨hc4,hf4⟩:=hx4.cells;(have z4:=hx4.size);(simp only [wZ]at z4);(have z4a:w.heap.size+1<w4.heap.size:=by omega);(have z4b:w.heap.size+1<w4.heap.size+1:=by omega))|(go_at_call 45;(with_reducible refine(HK.out _ ?_).mono ?_);exact eA;rintro e w5 ⟨rfl,hx5⟩;obtain⟨hc5,hf5⟩:=hx5.cells;(have z5:=hx5.size);(simp only [wZ]at z5);(have z5a:w.heap.size+1<w5.heap.size:=by omega);(have z5b:w4.heap.size<w5.heap.size:=by omega)))
  rw [←HR.out];exact⟨by rw [HE.out];rfl,eA⟩
 ·have e:dropE g ps p=laidP g ps:=by unfold dropE;rw [if_pos h0]
  have HL:=hd9 (fun(W:Y) (hW:Ext w W)=>zlC (hg.ext' hW) (hp.ext' hW) (hgw.ext hW) h0);obtain⟨L,hL⟩:=gX (laidP g ps);rw [hL]at HL e h0;have HE:=hd9 e;have h0b:(L != 0)=true:=by simpa using h0
  have H0:=hd9 h0;obtain⟨nm,sh,d,de,gx,gz,wy,ax,az,sk⟩:=p;clear e h hg hp hv hk hgw hR hL h0;unfold plc;dsimp only;go_enter Tryz.func15,Tryz.ntmps15
  go_wp2_with(first|(go_at_call 44;(with_reducible refine(HL.out _ ?_).mono ?_);exact eA;rintro e w4 ⟨rfl,hx4⟩;obtain⟨hc4,hf4⟩:=hx4.cells))
  rw [←HR.out];exact⟨by rw [HE.out,if_neg H0.out];rfl,eA⟩
theorem zdA (w:Y) (vg vp v:V) (g:List (Int×Int)) (ps:List Pl) (p:Pl) (hg:IsPts w vg g) (hp:IsPls w vp ps) (hv:IsPts w v p.shape) (hk:0≤p.skin) (hgw:Gw w) (h0:laidP g ps=0) (hok:placedOk p=true)
  (h:holdsB g p=false∨ps.any (nameB p.name)=true∨clearB g ps p=false) :
  Calls Tryz.prog 15 #[I #[vg,vp],I (plc p v)] w (RetDr w g ps p):=by
 obtain⟨hok1,_,hgr⟩:=zaH h0;have hgo:=zbl hgr;have HL:=hd9 (fun(W:Y) (hW:Ext w W)=>ze8 (hg.ext' hW) (hp.ext' hW) (hgw.ext hW) h0);have HK:=hd9 (fun(W:Y) (hW:Ext w W)=>zaz W p _ (hv.ext' hW) hk);rw [if_pos hok]at HK;have HO:=hd9 (fun(W:Y) (hW:Ext w W)=>zaV W p _ (hv.ext' hW) hok (hgw.ext hW));have HH:=hd9 (fun(W:Y) (hW:Ext w W) (vs:V) (hs:∃a n c,vs=O a n c) (vp:V) (h:IsLa W vp p)=>zdH W vg vs vp g p (hg.ext' hW) hs h hgo hok);have HN:=hd9 (fun(W:Y) (hW:Ext w W) (vs:V) (hs:IsLas W vs ps)=>zbv W vg vs ps p.name (form3 hg) hs);have HC:=hd9 (fun(W:Y) (hW:Ext w W) (vs:V) (hs:IsLas W vs ps) (vp:V) (h:IsLa W vp p)=>zdu W vg vs vp g ps p (hg.ext' hW) hs h hgo hok1 hok);have Hv:=hd9 hv;obtain⟨ga,gn,gc,rfl⟩:=form3 hg;obtain⟨pa,pn,pc1,rfl⟩:=form3 hp;obtain⟨sa,sn,sc1,rfl⟩:=form3 hv;obtain⟨R,hR⟩:=gX (RetDr w g ps p);rw [hR];have HR:=hd9 hR
 have hh9:dropE g ps p=if holdsB g p=false then 2 else if ps.any (nameB p.name)=true then 7 else if clearB g ps p=false then 12 else 0:=by
  unfold dropE;rw [if_neg (fun h9=>h9 h0),if_neg (by rw [hok];decide)]
 obtain⟨b1,e1⟩:=gX (holdsB g p);obtain⟨b2,e2⟩:=gX (ps.any (nameB p.name));obtain⟨b3,e3⟩:=gX (clearB g ps p);rw [e1,e2,e3]at hh9 h;rw [e1]at HH;rw [e2]at HN;rw [e3]at HC;have HE:=hd9 hh9;obtain⟨nm,sh,d,de,gx,gz,wy,ax,az,sk⟩:=p;clear hh9 h0 hok hg hp hv hk hgw hR hok1 hgr hgo e1 e2 e3;unfold plc at HK HO ⊢;unfold RetO lac at HO;dsimp only at HK HO HN Hv ⊢
 cases b1 with
 | false =>
  have HE:Hid (dropE g ps ⟨nm,sh,d,de,gx,gz,wy,ax,az,sk⟩=2):=hd9 (by rw [HE.out];rfl);go_enter Tryz.func15,Tryz.ntmps15
  go_wp2_with(first|(go_at_call 44;(with_reducible refine(HL.out _ ?_).mono ?_);exact eA;rintro e w4 ⟨va,vn,vc,rfl,hvs,hx4⟩;obtain⟨hc4,hf4⟩:=hx4.cells;(have z4:=hx4.size);(simp only [wZ]at z4);(have z4a:w.heap.size+1<w4.heap.size:=by omega);(have z4b:w.heap.size+1<w4.heap.size+1:=by omega))|(go_at_call 45;(with_reducible refine(HK.out _ ?_).mono ?_);exact eA;rintro e w5 ⟨rfl,hx5⟩;obtain⟨hc5,hf5⟩:=hx5.cells;(have z5:=hx5.size);(simp only [wZ]at z5);(have z5a:w.heap.size+1<w5.heap.size:=by omega);(have z5b:w4.heap.size<w5.heap.size:=by omega))|(go_at_call 46;(with_reducible refine(HO.out _ ?_).mono ?_);exact eA;rintro e w6 ⟨vl,vu,rfl,hvl,hvu,hx6⟩;obtain⟨la1,ln1,lc1,rfl⟩:=form3 hvl;obtain⟨ua1,un1,uc1,rfl⟩:=form3 hvu;obtain⟨hc6,hf6⟩:=hx6.cells;(have z6:=hx6.size);(have z6a:w.heap.size+1<w6.heap.size:=by omega);(have z6b:w4.heap.size<w6.heap.size:=by omega);(have z6c:w4.heap.size<w6.heap.size+1:=by omega);(have z6d:w.heap.size+1<w6.heap.size+1:=by omega))|(go_at_call 47;(with_reducible refine(HH.out _ ?_ _ ?_ _ ?_).mono ?_);exact eA;(exact⟨_,_,_,rfl⟩);(exact⟨_,_,_,rfl,Ext.isPts (w:=w) Hv.out eA,hvl.ext' eA,hvu.ext' eA⟩);rintro e w7 ⟨rfl,hx7⟩;obtain⟨hc7,hf7⟩:=hx7.cells;(have z7:=hx7.size);(simp only [wZ]at z7);(have z7a:w.heap.size+1<w7.heap.size:=by omega);(have z7b:w4.heap.size<w7.heap.size:=by omega);(have z7c:w6.heap.size<w7.heap.size:=by omega))|(go_at_call 48;(with_reducible refine(HN.out _ ?_ _ ?_).mono ?_);exact eA;(exact hvs.ext' eA);rintro e w8 ⟨rfl,hx8⟩;obtain⟨hc8,hf8⟩:=hx8.cells;(have z8:=hx8.size);(have z8a:w.heap.size+1<w8.heap.size:=by omega);(have z8b:w4.heap.size<w8.heap.size:=by omega);(have z8c:w6.heap.size<w8.heap.size:=by omega))|(go_at_call 49;(with_reducible refine(HC.out _ ?_ _ ?_ _ ?_).mono ?_);exact eA;(exact hvs.ext' eA);(exact⟨_,_,_,rfl,Ext.isPts (w:=w) Hv.out eA,hvl.ext' eA,hvu.ext' eA⟩);rintro e w9 ⟨rfl,hx9⟩;obtain⟨hc9,hf9⟩:=hx9.cells;(have z9:=hx9.size)))
  rw [←HR.out];exact⟨by rw [HE.out];rfl,eA⟩
 | true =>
  cases b2 with
  | true =>
   have HE:Hid (dropE g ps ⟨nm,sh,d,de,gx,gz,wy,ax,az,sk⟩=7):=hd9 (by rw [HE.out];rfl);go_enter Tryz.func15,Tryz.ntmps15
   go_wp2_with(first|(go_at_call 44;(with_reducible refine(HL.out _ ?_).mono ?_);exact eA;rintro e w4 ⟨va,vn,vc,rfl,hvs,hx4⟩;obtain⟨hc4,hf4⟩:=hx4.cells;(have z4:=hx4.size);(simp only [wZ]at z4);(have z4a:w.heap.size+1<w4.heap.size:=by omega);(have z4b:w.heap.size+1<w4.heap.size+1:=by omega))|(go_at_call 45;(with_reducible refine(HK.out _ ?_).mono ?_);exact eA;rintro e w5 ⟨rfl,hx5⟩;obtain⟨hc5,hf5⟩:=hx5.cells;(have z5:=hx5.size);(simp only [wZ]at z5);(have z5a:w.heap.size+1<w5.heap.size:=by omega);(have z5b:w4.heap.size<w5.heap.size:=by omega))|(go_at_call 46;(with_reducible refine(HO.out _ ?_).mono ?_);exact eA;rintro e w6 ⟨vl,vu,rfl,hvl,hvu,hx6⟩;obtain⟨la1,ln1,lc1,rfl⟩:=form3 hvl;obtain⟨ua1,un1,uc1,rfl⟩:=form3 hvu;obtain⟨hc6,hf6⟩:=hx6.cells;(have z6:=hx6.size);(have z6a:w.heap.size+1<w6.heap.size:=by omega);(have z6b:w4.heap.size<w6.heap.size:=by omega);(have z6c:w4.heap.size<w6.heap.size+1:=by omega);(have z6d:w.heap.size+1<w6.heap.size+1:=by omega))|(go_at_call 47;(with_reducible refine(HH.out _ ?_ _ ?_ _ ?_).mono ?_);exact eA;(exact⟨_,_,_,rfl⟩);(exact⟨_,_,_,rfl,Ext.isPts (w:=w) Hv.out eA,hvl.ext' eA,hvu.ext' eA⟩);rintro e w7 ⟨rfl,hx7⟩;obtain⟨hc7,hf7⟩:=hx7.cells;(have z7:=hx7.size);(simp only [wZ]at z7);(have z7a:w.heap.size+1<w7.heap.size:=by omega);(have z7b:w4.heap.size<w7.heap.size:=by omega);(have z7c:w6.heap.size<w7.heap.size:=by omega))|(go_at_call 48;(with_reducible refine(HN.out _ ?_ _ ?_).mono ?_);exact eA;(exact hvs.ext' eA);rintro e w8 ⟨rfl,hx8⟩;obtain⟨hc8,hf8⟩:=hx8.cells;(have z8:=hx8.size);(have z8a:w.heap.size+1<w8.heap.size:=by omega);(have z8b:w4.heap.size<w8.heap.size:=by omega);(have z8c:w6.heap.size<w8.heap.size:=by omega))|(go_at_call 49;(with_reducible refine(HC.out _ ?_ _ ?_ _ ?_).mono ?_);exact eA;(exact hvs.ext' eA);(exact⟨_,_,_,rfl,Ext.isPts (w:=w) Hv.out eA,hvl.ext' eA,hvu.ext' eA⟩);rintro e w9 ⟨rfl,hx9⟩;obtain⟨hc9,hf9⟩:=hx9.cells;(have z9:=hx9.size)))
   rw [←HR.out];exact⟨by rw [HE.out];rfl,eA⟩
  | false =>
   cases b3 with
   | false =>
    have HE:Hid (dropE g ps ⟨nm,sh,d,de,gx,gz,wy,ax,az,sk⟩=12):=hd9 (by rw [HE.out];rfl);go_enter Tryz.func15,Tryz.ntmps15
    go_wp2_with(first|(go_at_call 44;(with_reducible refine(HL.out _ ?_).mono ?_);exact eA;rintro e w4 ⟨va,vn,vc,rfl,hvs,hx4⟩;obtain⟨hc4,hf4⟩:=hx4.cells;(have z4:=hx4.size);(simp only [wZ]at z4);(have z4a:w.heap.size+1<w4.heap.size:=by omega);(have z4b:w.heap.size+1<w4.heap.size+1:=by omega))|(go_at_call 45;(with_reducible refine(HK.out _ ?_).mono ?_);exact eA;rintro e w5 ⟨rfl,hx5⟩;obtain⟨hc5,hf5⟩:=hx5.cells;(have z5:=hx5.size);(simp only [wZ]at z5);(have z5a:w.heap.size+1<w5.heap.size:=by omega);(have z5b:w4.heap.size<w5.heap.size:=by omega))|(go_at_call 46;(with_reducible refine(HO.out _ ?_).mono ?_);exact eA;rintro e w6 ⟨vl,vu,rfl,hvl,hvu,hx6⟩;obtain⟨la1,ln1,lc1,rfl⟩:=form3 hvl;obtain⟨ua1,un1,uc1,rfl⟩:=form3 hvu;obtain⟨hc6,hf6⟩:=hx6.cells;(have z6:=hx6.size);(have z6a:w.heap.size+1<w6.heap.size:=by omega);(have z6b:w4.heap.size<w6.heap.size:=by omega);(have z6c:w4.heap.size<w6.heap.size+1:=by omega);(have z6d:w.heap.size+1<w6.heap.size+1:=by omega))|(go_at_call 47;(with_reducible refine(HH.out _ ?_ _ ?_ _ ?_).mono ?_);exact eA;(exact⟨_,_,_,rfl⟩);(exact⟨_,_,_,rfl,Ext.isPts (w:=w) Hv.out eA,hvl.ext' eA,hvu.ext' eA⟩);rintro e w7 ⟨rfl,hx7⟩;obtain⟨hc7,hf7⟩:=hx7.cells;(have z7:=hx7.size);(simp only [wZ]at z7);(have z7a:w.heap.size+1<w7.heap.size:=by omega);(have z7b:w4.heap.size<w7.heap.size:=by omega);(have z7c:w6.heap.size<w7.heap.size:=by omega))|(go_at_call 48;(with_reducible refine(HN.out _ ?_ _ ?_).mono ?_);exact eA;(exact hvs.ext' eA);rintro e w8 ⟨rfl,hx8⟩;obtain⟨hc8,hf8⟩:=hx8.cells;(have z8:=hx8.size);(have z8a:w.heap.size+1<w8.heap.size:=by omega);(have z8b:w4.heap.size<w8.heap.size:=by omega);(have z8c:w6.heap.size<w8.heap.size:=by omega))|(go_at_call 49;(with_reducible refine(HC.out _ ?_ _ ?_ _ ?_).mono ?_);exact eA;(exact hvs.ext' eA);(exact⟨_,_,_,rfl,Ext.isPts (w:=w) Hv.out eA,hvl.ext' eA,hvu.ext' eA⟩);rintro e w9 ⟨rfl,hx9⟩;obtain⟨hc9,hf9⟩:=hx9.cells;(have z9:=hx9.size)))
    rw [←HR.out];exact⟨by rw [HE.out];rfl,eA⟩
   | true=>simp at h
end
end Go.Proofs.YtodpfeaihohpjaaGreatDoor.Cop
