/- Part 25: contracts of what the law calls. -/
import Derived.Test.YtodpfeaihohpjaaGreatDoorCopA23
import Derived.Test.YtodpfeaihohpjaaGreatDoorCopA15
import Derived.Test.YtodpfeaihohpjaaGreatDoorCopA16
import Derived.Test.YtodpfeaihohpjaaGreatDoorCopA14
set_option maxRecDepth 1000000
set_option maxHeartbeats 16000000
set_option linter.unusedSimpArgs false
set_option linter.unusedVariables false
open Go renaming World→O,Value→X,Act→J
open Go.Value renaming slice→Y,int→M,bool→F,pointer→Oa
open Option renaming some→Z,none→I
open Go.IntKind renaming i64→N
open Go.Obj renaming cells→U
namespace Go.Proofs.YtodpfeaihohpjaaGreatDoor.Cop
section
open Go.RowKit Go.Shelf Go.Sort Go.Lib
attribute [local go_sem] Oper.semAt_some
theorem zjS {α:Type} (f:α→Rat) (xs:List α) (x:α) (h:xs≠[]):minG f (xs++[x])=if rcmp (f x) (minG f xs)<0 then f x else minG f xs:=by
 cases xs with
 | nil=>exact absurd rfl h
 | cons y a =>
  show (a++[x]).foldl _ (f y)=_
  rw [List.foldl_append];rfl
theorem Rb.gapT {l t:List (Int×Int)} (a:LnOk l) (b:LnOk t):Rb 23 (gapT l t):=by
 unfold Cop.gapT leastR;obtain⟨c,d⟩:=zav (gapR (btw l t)) (zaw (btw l t));rw [d];exact Rb.gap (zas (zct a b) _ c) (zct a b)
theorem Rb.minG {α:Type} {f:α→Rat} {xs:List α} (h:∀x∈xs,Rb 23 (f x)):Rb 23 (minG f xs):=by
 by_cases a:xs=[]
 ·subst a
  exact Rb.int (n:=0) (by unfold Lm;have:=zaE zbI 23;omega) dM
 ·obtain⟨⟨x,b,e⟩,_⟩:=zbo f a
  rw [e];exact h x b
theorem zi8 (w:O) (bx:Nat) (p q:X) (l t:List (Int×Int)) (hb:w.cell? ⟨bx,10,I⟩=Z p) (k:IsPts w p l) (n:IsPts w q t) (T:LnOk l) (k2:LnOk t) :
  Calls Tryz.prog 52 #[q,Oa (Z ⟨bx,0,I⟩)] w (RetR w (gapT l t)):=by
 have a:=hd9 (fun(W:O) (d:Ext w W)=>za3 W p q l t (k.ext' d) (n.ext' d) (List.length_pos_iff.2 T.1) (List.length_pos_iff.2 k2.1));have i:=hd9 (fun(W:O) (d:Ext w W)=>zcn W p q (btw l t) (k.ext' d) (n.ext' d) (zct T k2));obtain⟨R,r⟩:=gX (RetR w (gapT l t));rw [r];have j:=hd9 r;have u:=World.block_lt_of_cell? _ _ hb;unfold gapT at j;obtain⟨s,hs⟩:=gX (btw l t);rw [hs]at a i j;obtain⟨a1,m1,rfl⟩:=k.form;obtain⟨a2,m2,rfl⟩:=n.form;obtain⟨n1,f1⟩:=gX l.length;obtain⟨n2,f2⟩:=gX t.length;obtain⟨lo,c⟩:=gX s.lo;obtain⟨hi,b⟩:=gX s.hi;obtain⟨o,eo⟩:=gX (leastR s);unfold RetBt at a;unfold spc at a i;simp only [f1,f2,c,b,eo]at a i j hb ⊢;clear k n T k2 hs f1 f2 c b eo r;dsimp only at u;go_enter Tryz.func52,Tryz.ntmps52
 go_wp2_with(first|(go_at_call 53;(with_reducible refine(a.out _ ?_).mono ?_);exact eA;rintro e w3 ⟨rfl,g⟩;obtain⟨x,z⟩:=g.cells;(have z3:w.heap.size<w3.heap.size:=by have:=g.size;simp only [wZ]at this;omega);(have aa:w.heap.size<w3.heap.size+1:=oM))|(go_at_call 54;(with_reducible refine(i.out _ ?_).mono ?_);exact eA;rintro e w4 ⟨r4,r5,rfl,K,f,h⟩;obtain⟨a4,m4,c4,s4,b4,n4,k4,rfl⟩:=K.form;obtain⟨a5,m5,c5,s5,b5,n5,k5,rfl⟩:=f.form;obtain⟨y,D⟩:=h.cells;(have z4:w.heap.size<w4.heap.size:=by have:=h.size;simp only [wZ]at this;omega);(have ab:w.heap.size<w4.heap.size+1:=oM)))
 refine bR (v:=.agg #[Y a5 m5 c5,F s5,Y b5 n5 k5]) (by simp [results,Tryz.results52,go_sem,x,z,y,D,z3,z4,aa,ab]) rfl ?_;rw [←j.out];exact⟨_,rfl,f.keep kA,eA⟩
def LbS (w:O) (f:List (Int×Int)→Rat) (ts:List (List (Int×Int))) (g:Nat) (d b:X) (W:O):Prop:=
 ∃(i:Nat),i≤ts.length∧b=M N i∧g=ts.length-i∧(∃a n c,d=Y a n c)∧Ext w W∧RB W w.heap.size 0∧RB W (w.heap.size+1) (minG f (ts.take i))
def RetLb (w:O) (q:Rat) (e:Ending) (w':O):Prop:=∃a n c r,e = .returned (.tuple #[Y a n c,r])∧IsR w' r q∧Ext w w'
theorem zjK (w:O) (v:X) (bx:Nat) (vl:X) (l:List (Int×Int)) (ts:List (List (Int×Int))) (hs:Sl 99 1 (PSl 99) w v ts) (hb:w.cell? ⟨bx,10,I⟩=Z vl) (h1:IsPts w vl l) (k1:LnOk l) (k2:∀t∈ts,LnOk t) :
  Calls Tryz.prog 51 #[v,.func (.func 52) #[] #[Oa (Z ⟨bx,0,I⟩)]] w (RetLb w (minG (gapT l) ts)):=by
 obtain⟨a,c,rfl⟩:=hs.form;obtain⟨n,hn⟩:=gX ts.length;rw [hn]at hs ⊢;have aF:=hs.le;unfold maxLen at aF;have Hn:=hd9 hn;have ae:=hd9 (fun t (ht:t∈ts)=>Rb.gapT k1 (k2 t ht));have aM:n≤9223372036854775807:=oM
 have HG:=hd9 (fun(W:O) (hW:Ext w W) (vt:X) (t:List (Int×Int)) (ht:IsPts W vt t) (hm:t∈ts)=>zi8 W bx vl vt l t (hW.cellS hb) (h1.ext' hW) ht k1 (k2 t hm));obtain⟨R,hR⟩:=gX (RetLb w (minG (gapT l) ts));rw [hR];have HR:=hd9 hR;obtain⟨f,hf⟩:=gX (gapT l);rw [hf]at HG HR ae;clear hn aF hR hf h1 k1 k2 hb;go_enter Tryz.func51,Tryz.ntmps51;go_wp2
 go_loopg [6,13] n (LbS w f ts)
 case atStart =>
  have z:∀W,IsR W (.agg #[Y I 0 0,F false,Y I 0 0]) 0:=fun W=>IsR.zero _
  exact⟨0,by omega,rfl,by rw [Hn.out];rfl,⟨_,_,_,rfl⟩,eA,(RB.new (z w) rfl).ext ((eR _).alloc _),RB.new (z _) sM⟩
 case round =>
  obtain⟨i,hi,rfl,rfl,⟨xa,xn,xc,rfl⟩,hx,hA,hB⟩:=hrel;rw [Hn.out]at hi;have Hx:=hd9 hx;have HA:=hd9 hA;have HB:=hd9 hB
  by_cases aJ:i<n
  ·obtain⟨t,ai⟩:∃t,ts[i]?=Z t:=⟨ts[i]'(by rw [Hn.out];omega),by simp [Hn.out,aJ]⟩
   obtain⟨b,o,d,rfl,aK,aL,⟨vt,rfl,al⟩,hc⟩:=Sl.at (Sl.ext hs (fun _ _ h=>by obtain⟨v,e,h⟩:=h;exact⟨v,e,h.ext' hx⟩) hx) ai;have e0:=hc 0 _ rfl;rw [Nat.mul_one,Nat.add_zero]at e0;obtain⟨ta,tn,tc,rfl⟩:=form3 al;have Hm:=hd9 (lM ai);have ak:=hd9 al;have ar:=hd9 ai;have aH:=hd9 (ae.out t Hm.out);have zB:w.heap.size+1<wr.heap.size:=by obtain⟨_,_,_,_,_,_,_,_,_,_,_,_,_,z,_⟩:=hB.rd;exact z
   obtain⟨d1,dm,dc,ds,d2,aB,ax,au,av,aw,ay,az,aA,zD,aj⟩:=hB.rd;clear ai hA hB hx al hc
   by_cases h0:i=0
   ·have aI:((i:Int)==0)=true:=by simp;omega
    have H0:=hd9 h0;clear h0
    go_wp2_with((go_at_call 52;(with_reducible refine(HG.out _ Hx.out (Y ta tn tc) t ak.out Hm.out).mono ?_);rintro e w1 ⟨r1,rfl,p,j⟩;obtain⟨b1,n1,k1,t1,b2,n2,k2,rfl⟩:=p.form;obtain⟨ag,ah⟩:=j.cells;(have z1:w.heap.size+1<w1.heap.size:=by have:=j.size;omega)))
    have E:Hid (minG f (ts.take (i+1))=f t):=hd9 (by
     have:=H0.out;subst this;rw [zab _ _ _ ar.out];simp [minG])
    have g:Ext wr (w1.alloc (U #[Y b1 n1 k1,F t1,Y b2 n2 k2] 65)):=j.alloc _;obtain⟨W8,ab⟩:=gX ((w1.alloc (U #[Y b1 n1 k1,F t1,Y b2 n2 k2] 65)));have g1:RB W8 w1.heap.size (f t):=by rw [←ab];exact RB.new p rfl
    rw [ab]at g ⊢;have g2:=HB.out.ext g;have zW:=g.size;obtain⟨s1,af⟩:=gX w1.heap.size;simp only [af]at *;have zs:w.heap.size+1<s1:=z1;clear ab ag ah p j aj au av aw ay az aA af e0;obtain⟨pa,pm,s,ps,r,y,u,p0,p1,p2,_,_,_,pz,hp⟩:=(g1).rd;obtain⟨_,_,_,_,_,_,_,x0,x1,x2,am,an,ao,xz,_⟩:=(g2).rd;refine wp_region_held_drew (S:=CellL [(⟨s1,0,I⟩,Y pa pm s),(⟨s1,1,I⟩,F ps),(⟨s1,2,I⟩,Y r y u)]) kM cA (fun T=>?_);refine sN 0 ?_
    iterate 3
     refine tkn ?_
    refine oN ?_
    have aa:∀q∈[((⟨s1,0,I⟩:Addr),Value.slice pa pm s),(⟨s1,1,I⟩,F ps),(⟨s1,2,I⟩,Y r y u)],w.heap.size+1≠q.1.block:=by
     intro q hq;simp at hq
     rcases hq with rfl|rfl|rfl<;>(dsimp only;omega)
    refine cl1 (i:=3) fun K hK=>?_
    go_simp;refine kO hK (CellL.set3d T aa _ _ _) (fun T=>?_);clear hK K;refine wpAnyH_done kM ?_ _;have ad:=hd9 g;have P:=hd9 (RB.put3 g2 hp rfl);clear g g1 g2;go_wp2
    go_roundg (n-(i+1))
    case measure=>have:=Hn.out;omega
    case rel =>
     obtain⟨P1,P2,P3,P4,P5⟩:=P.out;have D:=fun W=>(eR W).drew
     exact⟨i+1,by rw [Hn.out];omega,by go_num,by rw [Hn.out],⟨_,_,_,rfl⟩,(P5 w (Hx.out.trans ad.out) oM).drew,
      (P2 _ _ oM (HA.out.ext ad.out)).ext (D _),by rw [E.out];exact P1.ext (D _)⟩
   ·have aI:((i:Int)==0)=false:=by simp;omega
    have aG:ts.take i≠[]:=fun h=>by
     have h2:(ts.take i).length=0:=by rw [h];rfl
     rw [List.length_take,Hn.out]at h2;omega
    have e9:minG f (ts.take (i+1))=if rcmp (f t) (minG f (ts.take i))<0 then f t else minG f (ts.take i):=by
     rw [zab _ _ _ ar.out,zjS _ _ _ aG]
    have ap:=hd9 (zaf aH.out oM);have aq:=hd9 (zaf (Rb.minG (f:=f) (xs:=ts.take i) fun x hx=>ae.out x (List.mem_of_mem_take hx)) oM);obtain⟨k,hk⟩:=gX (rcmp (f t) (minG f (ts.take i)));rw [hk]at e9;have Hk:=hd9 hk;clear h0 aG hk
    by_cases aE:k<0
    ·rw [if_pos aE]at e9
     have E:=hd9 e9;clear e9
     go_wp2_with(first|(go_at_call 52;(with_reducible refine(HG.out _ Hx.out (Y ta tn tc) t ak.out Hm.out).mono ?_);rintro e w1 ⟨r1,rfl,p,j⟩;obtain⟨b1,n1,k1,t1,b2,n2,k2,rfl⟩:=p.form;obtain⟨ag,ah⟩:=j.cells;(have z1:w.heap.size+1<w1.heap.size:=by have:=j.size;omega))|(go_at_call 19;(with_reducible refine(zan _ (.agg #[Y b1 n1 k1,F t1,Y b2 n2 k2]) (.agg #[Y d1 dm dc,F ds,Y d2 aB ax]) _ _ (p.ext ?_) (aj.ext ?_) ap.out aq.out).mono ?_);exact eA;exact eA;rintro e w3 ⟨rfl,ac⟩;(try rw [Hk.out]);obtain⟨aC,aD⟩:=ac.cells))
     have g:Ext wr (w3):=(j.alloc _).trans ac;obtain⟨W8,ab⟩:=gX ((w3));have g1:RB W8 w1.heap.size (f t):=by rw [←ab];exact(RB.new p rfl).ext ac
     rw [ab]at g ⊢;have g2:=HB.out.ext g;have zW:=g.size;obtain⟨s1,af⟩:=gX w1.heap.size;simp only [af]at *;have zs:w.heap.size+1<s1:=z1;clear ab ag ah p j aj au av aw ay az aA af e0 ac aC aD;obtain⟨pa,pm,s,ps,r,y,u,p0,p1,p2,_,_,_,pz,hp⟩:=(g1).rd;obtain⟨_,_,_,_,_,_,_,x0,x1,x2,am,an,ao,xz,_⟩:=(g2).rd;refine wp_region_held_drew (S:=CellL [(⟨s1,0,I⟩,Y pa pm s),(⟨s1,1,I⟩,F ps),(⟨s1,2,I⟩,Y r y u)]) kM cA (fun T=>?_);refine sN 0 ?_
     iterate 3
      refine tkn ?_
     refine oN ?_
     have aa:∀q∈[((⟨s1,0,I⟩:Addr),Value.slice pa pm s),(⟨s1,1,I⟩,F ps),(⟨s1,2,I⟩,Y r y u)],w.heap.size+1≠q.1.block:=by
      intro q hq;simp at hq
      rcases hq with rfl|rfl|rfl<;>(dsimp only;omega)
     refine cl1 (i:=3) fun K hK=>?_
     go_simp;refine kO hK (CellL.set3d T aa _ _ _) (fun T=>?_);clear hK K;refine wpAnyH_done kM ?_ _;have ad:=hd9 g;have P:=hd9 (RB.put3 g2 hp rfl);clear g g1 g2;go_wp2
     go_roundg (n-(i+1))
     case measure=>have:=Hn.out;omega
     case rel =>
      obtain⟨P1,P2,P3,P4,P5⟩:=P.out;have D:=fun W=>(eR W).drew
      exact⟨i+1,by rw [Hn.out];omega,by go_num,by rw [Hn.out],⟨_,_,_,rfl⟩,(P5 w (Hx.out.trans ad.out) oM).drew,
       (P2 _ _ oM (HA.out.ext ad.out)).ext (D _),by rw [E.out];exact P1.ext (D _)⟩
    ·rw [if_neg aE]at e9
     have E:=hd9 e9;clear e9
     go_wp2_with(first|(go_at_call 52;(with_reducible refine(HG.out _ Hx.out (Y ta tn tc) t ak.out Hm.out).mono ?_);rintro e w1 ⟨r1,rfl,p,j⟩;obtain⟨b1,n1,k1,t1,b2,n2,k2,rfl⟩:=p.form;obtain⟨ag,ah⟩:=j.cells;(have z1:w.heap.size+1<w1.heap.size:=by have:=j.size;omega))|(go_at_call 19;(with_reducible refine(zan _ (.agg #[Y b1 n1 k1,F t1,Y b2 n2 k2]) (.agg #[Y d1 dm dc,F ds,Y d2 aB ax]) _ _ (p.ext ?_) (aj.ext ?_) ap.out aq.out).mono ?_);exact eA;exact eA;rintro e w3 ⟨rfl,ac⟩;(try rw [Hk.out]);obtain⟨aC,aD⟩:=ac.cells))
     have g:Ext wr w3:=(j.alloc _).trans ac
     go_roundg (n-(i+1))
     case measure=>have:=Hn.out;omega
     case rel=>exact⟨i+1,by rw [Hn.out];omega,by go_num,by rw [Hn.out],⟨_,_,_,rfl⟩,Hx.out.trans g,HA.out.ext g,by rw [E.out];exact HB.out.ext g⟩
  ·obtain rfl:i=n:=oM
   have e:ts.take i=ts:=lT (by rw [Hn.out];exact nE _);rw [e]at hB HB;clear e;have zW:=hx.size;have zD:w.heap.size+1<wr.heap.size:=by obtain⟨_,_,_,_,_,_,_,_,_,_,_,_,_,z,_⟩:=hB.rd;exact z
   go_wp2;obtain⟨pa,pm,s,ps,r,y,u,p0,p1,p2,_,_,_,pz,hp⟩:=(hB).rd;obtain⟨_,_,_,_,_,_,_,x0,x1,x2,am,an,ao,xz,_⟩:=(hA).rd;refine wp_region_held_drew (S:=CellL [(⟨w.heap.size+1,0,I⟩,Y pa pm s),(⟨w.heap.size+1,1,I⟩,F ps),(⟨w.heap.size+1,2,I⟩,Y r y u)]) kM cA (fun T=>?_);refine sN 0 ?_
   iterate 3
    refine tkn ?_
   refine oN ?_
   have aa:∀q∈[((⟨w.heap.size+1,0,I⟩:Addr),Value.slice pa pm s),(⟨w.heap.size+1,1,I⟩,F ps),(⟨w.heap.size+1,2,I⟩,Y r y u)],w.heap.size≠q.1.block:=by
    intro q hq;simp at hq
    rcases hq with rfl|rfl|rfl<;>(dsimp only;omega)
   refine cl1 (i:=3) fun K hK=>?_
   go_simp;refine kO hK (CellL.set3d T aa _ _ _) (fun T=>?_);clear hK K;refine wpAnyH_done kM ?_ _;have P:=hd9 (RB.put3 hA hp rfl);go_wp2;refine bR (v:=.tuple #[Y xa xn xc,.agg #[Y pa pm s,F ps,Y r y u]]) (by simp [results,Tryz.results51,go_sem,x0,x1,x2,am,an,ao]) rfl ?_;rw [←HR.out];obtain⟨P1,P2,P3,P4,P5⟩:=P.out;exact⟨_,_,_,_,rfl,(hp.keep P3).ext (eR _).drew,(P5 w Hx.out oM).drew⟩
def RetSd (w:O) (p q:Rat) (e:Ending) (w':O):Prop:=∃r s,e = .returned (.tuple #[r,s,M N 0])∧IsR w' r p∧IsR w' s q∧Ext w w'
theorem zcT (w:O) (v vx:X) (p:Pl) (x:Rat) (hv:IsPts w v p.shape) (hx:IsR w vx x) (hb:Rb 1000 x) (hk:0≤p.skin) (aL:Gw w) (ai:placedOk p=true) (x0:((lineL (lowP2 p):Int):Rat)≤x) (x1:x≤((lineR (lowP2 p):Int):Rat)) :
  Calls Tryz.prog 18 #[.agg (plc p v),vx] w (RetSd w (atR (lowP2 p) x) (atR (upP2 p) x)):=by
 obtain⟨o1,o2⟩:=zae ai;have l1:=zbO o1;have HK:=hd9 (fun(W:O) (g:Ext w W)=>zaD W p _ (hv.ext' g) hk);rw [if_pos ai]at HK;have HO:=hd9 (fun(W:O) (g:Ext w W)=>za9 W p _ (hv.ext' g) ai (aL.ext g));have HA:=hd9 (fun(W:O) (y:X) (u:IsPts W y (lowP2 p))=>zbc W y (lowP2 p) u (List.length_pos_iff.2 o1.1));have HB:=hd9 (fun(W:O) (y:X) (u:IsPts W y (lowP2 p))=>za1 W y (lowP2 p) u (List.length_pos_iff.2 o1.1));have HC:=hd9 (fun(W:O) (g:Ext w W) (z:Int) (hz:Bd 104000 z) (v2:X) (h2:IsR W v2 (z:Rat))=>zan W vx v2 x (z:Rat) (hx.ext g) h2 (hb.mono dM) (zaf (zau hz) dM));have HL:=hd9 (fun(W:O) (g:Ext w W) (y:X) (u:IsPts W y (lowP2 p))=>za7 W y vx (lowP2 p) x u o1 (hx.ext g) hb);have HU:=hd9 (fun(W:O) (g:Ext w W) (y:X) (u:IsPts W y (upP2 p))=>za7 W y vx (upP2 p) x u o2 (hx.ext g) hb)
 have c1:¬rcmp x ((lineL (lowP2 p):Int):Rat)<0:=fun h=>by
  have:=(za0 _ _).1 h
  grind
 have c2:¬0<rcmp x ((lineR (lowP2 p):Int):Rat):=fun h=>by
  have:=(zeh _ _).1 h
  grind
 obtain⟨sa,sn,aQ,rfl⟩:=form3 hv;obtain⟨xa,xm,xc,xs,aj,al,ak,rfl⟩:=hx.form;obtain⟨R,hR⟩:=gX (RetSd w (atR (lowP2 p) x) (atR (upP2 p) x));rw [hR];have HR:=hd9 hR;obtain⟨lo,ar⟩:=gX (lineL (lowP2 p));obtain⟨hi,aq⟩:=gX (lineR (lowP2 p));rw [ar,aq]at l1;rw [ar]at c1 HA;rw [aq]at c2 HB;obtain⟨k1,e1⟩:=gX (rcmp x (lo:Rat));obtain⟨k2,e2⟩:=gX (rcmp x (hi:Rat));rw [e1]at c1;rw [e2]at c2;have am:=hd9 (fun(W:O) (g:Ext w W) (v2:X) (h2:IsR W v2 (lo:Rat))=>HC.out W g lo l1.1 v2 h2);have an:=hd9 (fun(W:O) (g:Ext w W) (v2:X) (h2:IsR W v2 (hi:Rat))=>HC.out W g hi l1.2 v2 h2);rw [e1]at am;rw [e2]at an;have aI:=hd9 (fun(W:O)=>zaM W lo (by have:=l1.1;unfold Bd at this;omega) (by have:=l1.1;unfold Bd at this;omega));have aJ:=hd9 (fun(W:O)=>zaM W hi (by have:=l1.2;unfold Bd at this;omega) (by have:=l1.2;unfold Bd at this;omega));clear HC e1 e2 ar aq hR hv hx hb hk aL ai x0 x1 o1 o2 l1;unfold plc at HK HO ⊢;unfold RetO lac at HO;go_enter Tryz.func18,Tryz.ntmps18
 go_upto_region 5 with (first|(go_at_call 45;(with_reducible refine(HK.out _ ?_).mono ?_);exact eA;rintro e w5 ⟨rfl,ag⟩;obtain⟨aY,a0⟩:=ag.cells;(have z5:=ag.size);(simp only [wZ]at z5);(have be:w.heap.size<w5.heap.size:=oM);(have bf:w.heap.size+1<w5.heap.size:=oM))|(go_at_call 46;(with_reducible refine(HO.out _ ?_).mono ?_);exact eA;rintro e D ⟨y,vu,rfl,av,aw,k⟩;obtain⟨l,o,n,rfl⟩:=form3 av;obtain⟨r,t,s,rfl⟩:=form3 aw;obtain⟨aZ,a1⟩:=k.cells;(have z6:=k.size);(have bg:w.heap.size+1<D.heap.size:=oM)))
 have zq:w.heap.size+1+1+1+1≤w5.heap.size:=z5;have zr:=k.size;have H2:RB D (w.heap.size+1+1) 0:=((RB.new (IsR.zero _) sM).ext ((eR _).alloc _)).ext (ag.trans k);have H3:RB D (w.heap.size+1+1+1) 0:=(RB.new (IsR.zero _) sM).ext (ag.trans k);have X6:Ext w D:=eA;have zt:w.heap.size+1<D.heap.size+1:=oM
 have zu:w.heap.size+1<w.heap.size+1+1+1+1:=oM
 have bh:w.heap.size+1<w.heap.size+1+1+1:=oM
 have hC:CellL [(⟨w.heap.size+1,0,I⟩,Y xa xm xc),(⟨w.heap.size+1,1,I⟩,F xs),(⟨w.heap.size+1,2,I⟩,Y aj al ak),(⟨D.heap.size,10,I⟩,Y l o n),(⟨D.heap.size,11,I⟩,Y r t s)] (D.alloc (U #[.string p.name,Y sa sn aQ,M N p.depth,M N p.density,M N p.gx,M N p.gz,M N p.way,M N p.ax,M N p.az,M .u8 p.skin,Y l o n,Y r t s] 101)):=by
  refine⟨?_,?_,?_,?_,?_,trivial⟩<;>go_simp
 obtain⟨Wa,ah⟩:=gX (D.alloc (U #[.string p.name,Y sa sn aQ,M N p.depth,M N p.density,M N p.gx,M N p.gz,M N p.way,M N p.ax,M N p.az,M .u8 p.skin,Y l o n,Y r t s] 101));rw [ah]at hC ⊢;have XA:Ext D Wa:=by rw [←ah];exact(eR _).alloc _
 have u:=av.ext' XA;have hu:=aw.ext' XA;have H2:=H2.ext XA;have H3:=H3.ext XA;have XW:Ext w Wa:=X6.trans XA;have zz:D.heap.size<Wa.heap.size:=by rw [←ah];simp
 obtain⟨b8,aK⟩:=gX D.heap.size;simp only [aK]at *;have zy:w.heap.size+1+1+1<b8:=oM
 clear aY a0 z5 be bf aZ a1 z6 bg ag k av aw ah aK zq zr zt zu bh X6 XA HK HO;refine wp_region_held_drew (S:=CellL [(⟨w.heap.size+1,0,I⟩,Y xa xm xc),(⟨w.heap.size+1,1,I⟩,F xs),(⟨w.heap.size+1,2,I⟩,Y aj al ak),(⟨b8,10,I⟩,Y l o n),(⟨b8,11,I⟩,Y r t s)]) kM hC (fun a=>?_);refine sN 0 ?_
 iterate 3
  refine tkn ?_
 refine oN ?_;refine cl1 (i:=3) fun K c=>?_
 go_simp
 (with_reducible refine cM (HA.out _ _ (u.ext' (eR Wa).drew)) ?_)
 rintro e w7 ⟨rfl,ay⟩
 skip
 go_wp2_with fail
 refine kO c (cE a ay) (fun a=>?_);clear c K;refine cl1 (i:=4) fun K c=>?_
 go_simp
 (with_reducible refine cM (aI.out _) ?_)
 rintro e w8 ⟨r8,rfl,au,aA⟩;obtain⟨a8,m8,c8,s8,b9,n8,k8,rfl⟩:=au.form
 go_wp2_with fail
 refine kO c (cE a aA) (fun a=>?_);clear c K;have X8:Ext Wa w8:=((eR Wa).drew).trans (ay.trans aA);refine cl1 (i:=5) fun K c=>?_
 go_simp
 (with_reducible refine cM (am.out _ (XW.trans X8) _ au) ?_)
 rintro e w9 ⟨rfl,aB⟩
 skip
 go_wp2_with fail
 refine kO c (cE a aB) (fun a=>?_);clear c K;have X9:Ext Wa w9:=X8.trans aB;have d1:decide (k1<0)=false:=by simpa using c1
 refine sN 6 ?_
 iterate 5
  refine tkn ?_
 refine oN ?_;refine cl1 (i:=11) fun K c=>?_
 go_simp
 (with_reducible refine cM (HB.out _ _ (u.ext' X9)) ?_)
 rintro e bt ⟨rfl,ad⟩
 skip
 go_wp2_with fail
 refine kO c (cE a ad) (fun a=>?_);clear c K;refine cl1 (i:=12) fun K c=>?_
 go_simp
 (with_reducible refine cM (aJ.out _) ?_)
 rintro e bb ⟨bp,rfl,T,ae⟩;obtain⟨bi,bn,bk,bs,bj,bo,bm,rfl⟩:=T.form
 go_wp2_with fail
 refine kO c (cE a ae) (fun a=>?_);clear c K;have ao:Ext Wa bb:=X9.trans (ad.trans ae);refine cl1 (i:=13) fun K c=>?_
 go_simp
 (with_reducible refine cM (an.out _ (XW.trans ao) _ T) ?_)
 rintro e bc ⟨rfl,af⟩
 skip
 go_wp2_with fail
 refine kO c (cE a af) (fun a=>?_);clear c K;have j:Ext Wa bc:=ao.trans af;have d2:decide (0<k2)=false:=by simpa using c2
 refine sN 14 ?_
 iterate 2
  refine tkn ?_
 refine oN ?_;refine wpAnyH_done kM ?_ _;have H2:=H2.ext j;have H3:=H3.ext j;obtain⟨_,_,_,_,_,_,_,x0,x1,x2,aC,aD,aE,xz,_⟩:=H2.rd;obtain⟨_,_,_,_,_,_,_,y0,y1,y2,aF,aG,aH,yz,_⟩:=H3.rd;have aM:=u.ext' j;have aP:=hu.ext' j;have XZ:=XW.trans j;clear ay aA aB ad ae af au T X8 X9 ao j XW u hu HA HB am an aI aJ
 go_upto_region 7 with fail
 refine wp_region_held_drew (S:=CellL [(⟨w.heap.size+1,0,I⟩,Y xa xm xc),(⟨w.heap.size+1,1,I⟩,F xs),(⟨w.heap.size+1,2,I⟩,Y aj al ak),(⟨b8,10,I⟩,Y l o n),(⟨b8,11,I⟩,Y r t s)]) kM a (fun a=>?_);refine sN 0 ?_
 iterate 3
  refine tkn ?_
 refine oN ?_;refine sN 4 ?_
 iterate 3
  refine tkn ?_
 refine oN ?_;refine cl1 (i:=3) fun K c=>?_
 go_simp
 (with_reducible refine cM (HL.out _ XZ.drew _ (aM.ext' (eR _).drew)) ?_)
 rintro e bd ⟨bq,rfl,aa,d⟩;obtain⟨aS,a4,aW,a9,aU,a6,a2,rfl⟩:=aa.form
 go_wp2_with fail
 refine kO c (cE a d) (fun a=>?_);clear c K;have ap:Ext w bd:=XZ.drew.trans d;refine cl1 (i:=7) fun K c=>?_
 go_simp
 (with_reducible refine cM (HU.out _ ap _ ((aP.ext' (eR _).drew).ext' d)) ?_)
 rintro e bu ⟨br,rfl,ac,f⟩;obtain⟨aT,a5,aX,ba,aV,a7,a3,rfl⟩:=ac.form
 go_wp2_with fail
 refine kO c (cE a f) (fun a=>?_);clear c K;have G2:=(H2.ext (eR _).drew).ext (d.trans f);have G3:=(H3.ext (eR _).drew).ext (d.trans f);have ab:=aa.ext f;have aR:=ap.trans f;clear x0 x1 x2 aC aD aE xz y0 y1 y2 aF aG aH yz H2 H3 d f aa ap XZ;obtain⟨_,_,_,_,_,_,_,x0,x1,x2,aC,aD,aE,xz,_⟩:=G2.rd;obtain⟨_,_,_,_,_,_,_,y0,y1,y2,aF,aG,aH,yz,_⟩:=G3.rd
 have aO:∀b,w.heap.size+1<b→b≠b8→∀q∈[((⟨w.heap.size+1,0,I⟩:Addr),Value.slice xa xm xc),(⟨w.heap.size+1,1,I⟩,F xs),(⟨w.heap.size+1,2,I⟩,Y aj al ak),(⟨b8,10,I⟩,Y l o n),(⟨b8,11,I⟩,Y r t s)],b≠q.1.block:=by
  intro b hb bl q hq;simp at hq
  rcases hq with rfl|rfl|rfl|rfl|rfl<;>(dsimp only;omega)
 refine cl1 (i:=8) fun K c=>?_
 go_simp;refine kO c (CellL.set3 a (aO _ oM oM) _ _ _) (fun a=>?_);clear c K;refine cl1 (i:=9) fun K c=>?_
 go_simp;refine kO c (CellL.set3 a (aO _ oM oM) _ _ _) (fun a=>?_);clear c K;refine tk1 (i:=10) ?_;refine wpAnyH_done kM ?_ _;have P:=hd9 (RB.copy2 G2 G3 oM ab ac rfl rfl);go_wp2;refine bR (v:=.tuple #[.agg #[Y aS a4 aW,F a9,Y aU a6 a2],.agg #[Y aT a5 aX,F ba,Y aV a7 a3],M N 0]) (by simp [results,Tryz.results18,go_sem,x0,x1,x2,aC,aD,aE,y0,y1,y2,aF,aG,aH]) rfl ?_;rw [←HR.out];obtain⟨P1,P2,P3,P4,P5,P6⟩:=P.out;exact⟨_,_,rfl,ab.keep P4,ac.keep P4,P6 w aR oM oM⟩
end
section
open Go.RowKit Go.Shelf Go.Sort Go.Lib
theorem Rb.atEG {k:Nat} (l:1≤k) {x:Rat} {e:Edg} (n:Rb k x) (h:Bd 104000 e.1.1∧Bd 104000 e.1.2∧Bd 104000 e.2.1∧Bd 104000 e.2.2):Rb (4*k+7) (Cop.atE x e):=by
 obtain⟨i,j,o,p⟩:=h;have f:Bd 208000 (e.2.2-e.1.2):=by unfold Bd at *;omega
 have g:Bd 208000 (e.2.1-e.1.1):=by unfold Bd at *;omega
 unfold Cop.atE;have a:=Rb.sub n ((zau i).mono (k:=k) l);have b:=Rb.mul a (zau f);have c:=Rb.div b (zau g) oM;have d:=(zau j).mono (k:=2*k+1+1+1) oM;exact(Rb.add d c).up oM
theorem Rb.atG {k:Nat} (a:1≤k) {x:Rat} {ps:List (Int×Int)} (c:Rb k x) (h:LnOk ps):Rb (4*k+7) (Cop.atR ps x):=by
 unfold Cop.atR
 cases hf:(eds ps).find? (xLe x)with
 | some e=>exact c.atEG a (zhe h.2.1 (List.mem_of_find?_eq_some hf))
 | none =>
  have d:0<ps.length:=List.length_pos_iff.2 h.1
  have b:ps.getD (ps.length-1) (0,0)∈ps:=by
   rw [gD,gE oM,Option.getD_some];exact List.getElem_mem _
  exact(zau (h.2.1 _ b).2).mono oM
theorem zn1 (q:Rat):rcmp q q=0:=by
 have a:¬rcmp q q<0:=fun h=>Rat.lt_irrefl ((za0 q q).1 h)
 have b:¬0<rcmp q q:=fun h=>Rat.lt_irrefl ((zeh q q).1 h)
 omega
theorem zoy {q:Rat} (h:0≤q):¬q.num.sign<0:=by
 have:0≤q.num:=Rat.num_nonneg.2 h;intro a;have:=Int.sign_neg_iff.1 a;omega
end
section
open Go.RowKit Go.Shelf
def waitsB (md:Region.Mode) (ops:Array Oper) (pv i:Nat):Bool:=match ops[pv]? with|some o=>o.after.toList.any (fun e=>Region.binds md e&&e.on==i)|none=>false
section
variable {P:Program} {ops:Array Oper} {Q:Exit→J→O→Prop} {md:Region.Mode} {A B:O→Prop} {pv:Nat}
def HV (P:Program) (md:Region.Mode) (ops:Array Oper) (Q:Exit→J→O→Prop) (A B:O→Prop) (pv:Nat):Nat→Array Bool→J→O→Prop
 | 0,b,a,w=>Region.ready md ops b=[]∧Q .normal a w
 | fuel+1,b,a,w =>
  (Region.ready md ops b=[]→Q .normal a w) ∧
  ∀i∈Region.ready md ops b,wpOp P ops Q i (fun d c=>(A c∧((b.setIfInBounds i true).getD pv false=false→B c))∧HV P md ops Q A B pv fuel (b.setIfInBounds i true) d c) a w
theorem zeG:∀(fuel:Nat) (b:Array Bool) (a:J) (w:O),HV P md ops Q A B pv fuel b a w→wpAny P md ops Q fuel b a w
 | 0,_,_,_,h=>h
 | fuel+1,_,_,_,h=>⟨h.1,fun i e=>wpOp_mono (fun c f d=>zeG fuel _ c f d.2) (h.2 i e)⟩
theorem zdf {a:Array Bool} {i:Nat} (g:Cl md ops a) (b:waitsB md ops pv i=true) (hi:a.getD i true=false):a.getD pv false=false:=by
 cases h:a.getD pv false with
 | false=>rfl
 | true =>
  unfold waitsB at b
  cases ho:ops[pv]? with
  | none=>rw [ho]at b;cases b
  | some o =>
   rw [ho]at b;obtain⟨e,j,f⟩:=List.any_eq_true.1 b;rw [Bool.and_eq_true,beq_iff_eq]at f;have c:=g pv o ho h e (by simpa using j) f.1;rw [f.2]at c
   rcases Nat.lt_or_ge i a.size with d | d
   ·simp [d]at hi c;rw [hi]at c;cases c
   ·simp [Array.getElem?_eq_none d]at hi
theorem zkU {i:Nat} {oi:Oper} {v:X} {f:Bool} (ae:i≠pv) (he:f=true→waitsB md ops pv i=true) (hi:ops[i]?=Z oi) (u:∀(j:Nat) (o:Oper) K b,ops[j]?=Z o→o.op ≠ .select K b)
  (hQ:∀c a w,Q (.panic c) (a.put oi.dst v) w→Q (.panic c) a w) :
  ∀(fuel:Nat) (d:Array Bool) (a:J) (w:O),Cl md ops d →
   (∀j oj,ops[j]?=Z oj→j≠i→d.getD j true=false→(∀e∈oj.after,Region.binds md e=true→e.on≠i)→oi.apart ops oj=true) →
   i∈Region.ready md ops d→YieldsIf P ops (fun w=>A w∧(f=true→B w)) oi v a→(A w∧(d.getD pv false=false→B w)) →
   HV P md ops Q A B pv fuel (d.setIfInBounds i true) (a.put oi.dst v) w→HV P md ops Q A B pv (fuel+1) d a w:=by
 have p:∀l:Array Bool,(l.setIfInBounds i true).getD pv false=l.getD pv false:=fun l=>getD_set_ne false ae
 intro fuel
 induction fuel with
 | zero =>
  intro d a w hc _ s hy q H;have z:A w∧(f=true→B w):=⟨q.1,fun h=>q.2 (zdf hc (he h) (mem_ready.1 s).1)⟩;refine⟨fun h=>(by rw [h]at s;cases s),fun j hj=>?_⟩
  by_cases g:j=i
  ·subst g;exact hy.wpOp hi z ⟨⟨q.1,fun h=>q.2 (by rw [p]at h;exact h)⟩,H⟩
  ·have:=ready_mono hj g
   rw [H.1]at this
   cases this
 | succ fuel ih =>
  intro d a w hc n s hy q H;have z:A w∧(f=true→B w):=⟨q.1,fun h=>q.2 (zdf hc (he h) (mem_ready.1 s).1)⟩;refine⟨fun h=>(by rw [h]at s;cases s),fun j hj=>?_⟩
  by_cases g:j=i
  ·subst g;exact hy.wpOp hi z ⟨⟨q.1,fun h=>q.2 (by rw [p]at h;exact h)⟩,H⟩
  ·have x:=H.2 j (ready_mono hj g)
   obtain⟨t,oj,D,W⟩:=mem_ready.1 hj
   have ab:∀e∈oj.after,Region.binds md e=true→e.on≠i:=fun e he hb ad=>by
    have x:=W e he hb;have h0:=(mem_ready.1 s).1;rw [ad]at x
    rcases Nat.lt_or_ge i d.size with h' | h'
    ·simp [h']at h0 x;rw [h0]at x;cases x
    ·simp [Array.getElem?_eq_none h']at x
   have h2:=wpOp_putIf D (n j oj D g t ab) (fun K b=>u i oi K b hi) (fun K b=>u j oj K b D) hQ hy x
   have r:∀k ok,ops[k]?=Z ok→k≠i→(d.setIfInBounds j true).getD k true=false →
     (∀e∈ok.after,Region.binds md e=true→e.on≠i)→oi.apart ops ok=true:=fun k ok hk af ac ag=>by
    refine n k ok hk af ?_ ag
    by_cases aa:j=k
    ·subst aa;exact t
    ·rw [getD_set_ne true aa]at ac;exact ac
   refine wpOp_mono (fun a' w' h3=>?_) h2;obtain⟨ah,⟨T,y⟩,hH⟩:=h3;rw [Array.setIfInBounds_comm _ _ (Ne.symm g),p]at y;refine⟨⟨T,y⟩,ih (d.setIfInBounds j true) a' w' (hc.step hj) r (ready_mono s (Ne.symm g)) ah ⟨T,y⟩ ?_⟩;rw [Array.setIfInBounds_comm _ _ g];exact hH
def HVc (P:Program) (md:Region.Mode) (ops:Array Oper) (Q:Exit→J→O→Prop) (A B:O→Prop) (pv:Nat) (fuel:Nat) (b:Array Bool) (a:J) (w:O):Prop:=Cl md ops b→HV P md ops Q A B pv fuel b a w
theorem doneHV {b:Array Bool} {a:J} {w:O} (c:Region.ready md ops b=[]) (h:Q .normal a w):∀fuel,HVc P md ops Q A B pv fuel b a w
 | 0=>fun _=>⟨c,h⟩
 | _+1=>fun _=>⟨fun _=>h,by rw [c];simp⟩
theorem tv1 {v:X} {i:Nat} {oi:Oper} {fuel:Nat} {b:Array Bool} {a:J} {w:O} (d:Bool) {G:Prop} (h:G) (g:i≠pv:=by decide) (r:d=true→waitsB md ops pv i=true:=by(intro h;first|(cases h;done)|kernel_rfl)) (hi:ops[i]?=Z oi:=by(simp only [gA,gS,gZ];rfl)) (l:Region.noSelect ops=true:=by kernel_rfl) (n:Region.free md ops b i=true:=by kernel_rfl) (o:(Region.ready md ops b).contains i=true:=by kernel_rfl) (h4:∀c a w,Q (.panic c) (a.put oi.dst v) w→Q (.panic c) a w:=by exact fun _ _ _ h=>h) (s:Region.wanted oi (yielded ops a.tmps)=true:=by rfl) (t:∀w,A w→(d=true→B w)→(execOp a.eval oi).run P w = .ok (.value v) w:=by(intro w f e;(first|(have e:=e rfl;simp only [CellL,and_true]at f e)|(simp only [CellL,and_true]at f));go_simp;try(with_reducible rfl))) (h6:A w:=by(with_reducible assumption)) (p:b.getD pv false=false→B w:=by(first|exact fun _=>(by with_reducible assumption)|exact fun h=>nomatch h)) (q:HVc P md ops Q A B pv fuel (b.setIfInBounds i true) (a.put oi.dst v) w=G:=by((try simp only [Act.put,sA,sZ,sS]);rfl)):HVc P md ops Q A B pv (fuel+1) b a w:=by
 subst q;intro j;have k:i∈Region.ready md ops b:=by simpa using o
 exact zkU g r hi (Region.noSelect_spec l) h4 fuel b a w j (Region.free_spec hi n) k (Or.inl ⟨s,fun w h=>t w h.1 h.2⟩) ⟨h6,p⟩ (h (j.step k))
theorem cv1 {i:Nat} {o:Oper} {fuel:Nat} {b:Array Bool} {a:J} {w:O} (h:∀K':J→O→Prop,Shut (∀a w,(A w∧((b.setIfInBounds i true).getD pv false=false→B w))→((A w∧((b.setIfInBounds i true).getD pv false=false→B w))→HVc P md ops Q A B pv fuel (b.setIfInBounds i true) a w)→K' a w)→if Region.wanted o (yielded ops a.tmps)=true then Oper.wp P o a w K' Q else K' (a.put o.dst undef) w) (hi:ops[i]?=Z o:=by(simp only [gA,gS,gZ];rfl)) (f:Region.ready md ops b=[i]:=by kernel_rfl):HVc P md ops Q A B pv (fuel+1) b a w:=by
 intro n;refine⟨fun g=>absurd (f▸g) sM,fun j c=>?_⟩;have d:=c;rw [f]at c
 cases List.mem_singleton.1 c
 exact wpOp_step hi (fun K' k=>h K' (fun a w e l=>k a w ⟨e,l e (n.step d)⟩))
theorem zmr {e:Nat} {a:J} {w:O} (A B:O→Prop) (pv:Nat) (d:P.follows .mixedOrders=true) (b:A w.drew) (c:B w.drew)
  (h:A w.drew→B w.drew→HVc P .any ops Q A B pv ops.size (Array.replicate ops.size false) a w.drew):(Code.region e ops true).wp P Q a w:=
 wp_region_any d (zeG _ _ _ _ (h b c (Cl.start _)))
end
end
section
open Go.RowKit Go.Shelf
section
variable {P:Program} {ops:Array Oper} {Q:Exit→J→O→Prop} {md:Region.Mode} {A B C:O→Prop} {pv pc:Nat}
def TwS (A B C:O→Prop) (pv pc:Nat) (a:Array Bool) (w:O):Prop:=A w∧(a.getD pv false=false→B w)∧(a.getD pc false=false→C w)
def HX (P:Program) (md:Region.Mode) (ops:Array Oper) (Q:Exit→J→O→Prop) (A B C:O→Prop) (pv pc:Nat):Nat→Array Bool→J→O→Prop
 | 0,b,a,w=>Region.ready md ops b=[]∧Q .normal a w
 | fuel+1,b,a,w =>
  (Region.ready md ops b=[]→Q .normal a w) ∧
  ∀i∈Region.ready md ops b,wpOp P ops Q i (fun d c=>TwS A B C pv pc (b.setIfInBounds i true) c∧HX P md ops Q A B C pv pc fuel (b.setIfInBounds i true) d c) a w
theorem zeH:∀(fuel:Nat) (b:Array Bool) (a:J) (w:O),HX P md ops Q A B C pv pc fuel b a w→wpAny P md ops Q fuel b a w
 | 0,_,_,_,h=>h
 | fuel+1,_,_,_,h=>⟨h.1,fun i e=>wpOp_mono (fun c f d=>zeH fuel _ c f d.2) (h.2 i e)⟩
theorem zkV {i:Nat} {oi:Oper} {v:X} {eb ec:Bool} (ae:i≠pv) (af:i≠pc) (he:eb=true→waitsB md ops pv i=true) (W:ec=true→waitsB md ops pc i=true) (hi:ops[i]?=Z oi) (t:∀(j:Nat) (o:Oper) K b,ops[j]?=Z o→o.op ≠ .select K b)
  (hQ:∀c a w,Q (.panic c) (a.put oi.dst v) w→Q (.panic c) a w) :
  ∀(fuel:Nat) (d:Array Bool) (a:J) (w:O),Cl md ops d →
   (∀j oj,ops[j]?=Z oj→j≠i→d.getD j true=false→(∀e∈oj.after,Region.binds md e=true→e.on≠i)→oi.apart ops oj=true) →
   i∈Region.ready md ops d→YieldsIf P ops (fun w=>A w∧(eb=true→B w)∧(ec=true→C w)) oi v a→TwS A B C pv pc d w →
   HX P md ops Q A B C pv pc fuel (d.setIfInBounds i true) (a.put oi.dst v) w→HX P md ops Q A B C pv pc (fuel+1) d a w:=by
 have p:∀l:Array Bool,TwS A B C pv pc (l.setIfInBounds i true)=TwS A B C pv pc l:=fun l=>by
  funext w
  unfold TwS;rw [show (l.setIfInBounds i true).getD pv false=l.getD pv false from getD_set_ne false ae,show (l.setIfInBounds i true).getD pc false=l.getD pc false from getD_set_ne false af]
 intro fuel
 induction fuel with
 | zero =>
  intro d a w D _ n hy q H;have y:A w∧(eb=true→B w)∧(ec=true→C w):=⟨q.1,fun h=>q.2.1 (zdf D (he h) (mem_ready.1 n).1),fun h=>q.2.2 (zdf D (W h) (mem_ready.1 n).1)⟩;refine⟨fun h=>(by rw [h]at n;cases n),fun j hj=>?_⟩
  by_cases f:j=i
  ·subst f;exact hy.wpOp hi y ⟨by rw [p];exact q,H⟩
  ·have:=ready_mono hj f
   rw [H.1]at this
   cases this
 | succ fuel ih =>
  intro d a w D g n hy q H;have y:A w∧(eb=true→B w)∧(ec=true→C w):=⟨q.1,fun h=>q.2.1 (zdf D (he h) (mem_ready.1 n).1),fun h=>q.2.2 (zdf D (W h) (mem_ready.1 n).1)⟩;refine⟨fun h=>(by rw [h]at n;cases n),fun j hj=>?_⟩
  by_cases f:j=i
  ·subst f;exact hy.wpOp hi y ⟨by rw [p];exact q,H⟩
  ·have u:=H.2 j (ready_mono hj f)
   obtain⟨s,oj,z,T⟩:=mem_ready.1 hj
   have ab:∀e∈oj.after,Region.binds md e=true→e.on≠i:=fun e he hb ad=>by
    have u:=T e he hb;have h0:=(mem_ready.1 n).1;rw [ad]at u
    rcases Nat.lt_or_ge i d.size with h' | h'
    ·simp [h']at h0 u;rw [h0]at u;cases u
    ·simp [Array.getElem?_eq_none h']at u
   have h2:=wpOp_putIf z (g j oj z f s ab) (fun K b=>t i oi K b hi) (fun K b=>t j oj K b z) hQ hy u
   have r:∀k ok,ops[k]?=Z ok→k≠i→(d.setIfInBounds j true).getD k true=false →
     (∀e∈ok.after,Region.binds md e=true→e.on≠i)→oi.apart ops ok=true:=fun k ok hk ag ac ah=>by
    refine g k ok hk ag ?_ ah
    by_cases aa:j=k
    ·subst aa;exact s
    ·rw [getD_set_ne true aa]at ac;exact ac
   refine wpOp_mono (fun a' w' h3=>?_) h2;obtain⟨ai,x,hH⟩:=h3;rw [Array.setIfInBounds_comm _ _ (Ne.symm f),p]at x;refine⟨x,ih (d.setIfInBounds j true) a' w' (D.step hj) r (ready_mono n (Ne.symm f)) ai x ?_⟩;rw [Array.setIfInBounds_comm _ _ f];exact hH
def HXc (P:Program) (md:Region.Mode) (ops:Array Oper) (Q:Exit→J→O→Prop) (A B C:O→Prop) (pv pc:Nat) (fuel:Nat) (b:Array Bool) (a:J) (w:O):Prop:=Cl md ops b→HX P md ops Q A B C pv pc fuel b a w
theorem doneHX {b:Array Bool} {a:J} {w:O} (c:Region.ready md ops b=[]) (h:Q .normal a w):∀fuel,HXc P md ops Q A B C pv pc fuel b a w
 | 0=>fun _=>⟨c,h⟩
 | _+1=>fun _=>⟨fun _=>h,by rw [c];simp⟩
theorem tx1 {v:X} {i:Nat} {oi:Oper} {fuel:Nat} {b:Array Bool} {a:J} {w:O} (l n:Bool) {G:Prop} (h:G) (j:i≠pv:=by decide) (k:i≠pc:=by decide) (y:l=true→waitsB md ops pv i=true:=by(intro h;first|(cases h;done)|kernel_rfl)) (g:n=true→waitsB md ops pc i=true:=by(intro h;first|(cases h;done)|kernel_rfl)) (hi:ops[i]?=Z oi:=by(simp only [gA,gS,gZ];rfl)) (q:Region.noSelect ops=true:=by kernel_rfl) (r:Region.free md ops b i=true:=by kernel_rfl) (s:(Region.ready md ops b).contains i=true:=by kernel_rfl) (h4:∀c a w,Q (.panic c) (a.put oi.dst v) w→Q (.panic c) a w:=by exact fun _ _ _ h=>h) (z:Region.wanted oi (yielded ops a.tmps)=true:=by rfl) (D:∀w,A w→(l=true→B w)→(n=true→C w)→(execOp a.eval oi).run P w = .ok (.value v) w:=by(intro w f d e;simp only [CellL,and_true,true_implies,forall_const,reduceCtorEq,false_implies]at f d e;go_simp;try(with_reducible rfl))) (h6:A w:=by(with_reducible assumption)) (t:b.getD pv false=false→B w:=by(first|exact fun _=>(by with_reducible assumption)|exact fun h=>nomatch h)) (u:b.getD pc false=false→C w:=by(first|exact fun _=>(by with_reducible assumption)|exact fun h=>nomatch h)) (x:HXc P md ops Q A B C pv pc fuel (b.setIfInBounds i true) (a.put oi.dst v) w=G:=by((try simp only [Act.put,sA,sZ,sS]);rfl)):HXc P md ops Q A B C pv pc (fuel+1) b a w:=by
 subst x;intro o;have p:i∈Region.ready md ops b:=by simpa using s
 exact zkV j k y g hi (Region.noSelect_spec q) h4 fuel b a w o (Region.free_spec hi r) p (Or.inl ⟨z,fun w h=>D w h.1 h.2.1 h.2.2⟩) ⟨h6,t,u⟩ (h (o.step p))
theorem cx1 {i:Nat} {o:Oper} {fuel:Nat} {b:Array Bool} {a:J} {w:O} (h:∀K':J→O→Prop,Shut (∀a w,TwS A B C pv pc (b.setIfInBounds i true) w→(TwS A B C pv pc (b.setIfInBounds i true) w→HXc P md ops Q A B C pv pc fuel (b.setIfInBounds i true) a w)→K' a w)→if Region.wanted o (yielded ops a.tmps)=true then Oper.wp P o a w K' Q else K' (a.put o.dst undef) w) (hi:ops[i]?=Z o:=by(simp only [gA,gS,gZ];rfl)) (f:Region.ready md ops b=[i]:=by kernel_rfl):HXc P md ops Q A B C pv pc (fuel+1) b a w:=by
 intro n;refine⟨fun g=>absurd (f▸g) sM,fun j c=>?_⟩;have d:=c;rw [f]at c
 cases List.mem_singleton.1 c
 exact wpOp_step hi (fun K' k=>h K' (fun a w e l=>k a w ⟨e,l e (n.step d)⟩))
theorem TwS.step {a:Array Bool} {w:O} (b:A w) (c:a.getD pv false=false→B w) (d:a.getD pc false=false→C w):TwS A B C pv pc a w:=⟨b,c,d⟩
theorem zms {d:Nat} {a:J} {w:O} (A B C:O→Prop) (pv pc:Nat) (c:P.follows .mixedOrders=true) (b:A w.drew∧B w.drew∧C w.drew)
  (h:A w.drew→B w.drew→C w.drew→HXc P .any ops Q A B C pv pc ops.size (Array.replicate ops.size false) a w.drew):(Code.region d ops true).wp P Q a w:=
 wp_region_any c (zeH _ _ _ _ (h b.1 b.2.1 b.2.2 (Cl.start _)))
end
end
section
open Go.RowKit Go.Shelf
section
variable {P:Program} {ops:Array Oper} {Q:Exit→J→O→Prop} {md:Region.Mode} {S:O→Prop} {fl:List (Nat×Tmp×Obj)} {w0:O} {late:Nat→Bool}
def inF (fl:List (Nat×Tmp×Obj)) (i:Nat):Bool:=fl.any (·.1==i)
def rdy (md:Region.Mode) (ops:Array Oper) (fl:List (Nat×Tmp×Obj)) (L:Array Bool):List Nat:=(Region.ready md ops L).filter fun i=>!inF fl i
def fdst (ops:Array Oper) (f:Nat):Option Tmp:=(ops[f]?).bind (·.dst)
def Outs (b:Nat):List (Nat×Nat)→Prop
 | []=>True
 | x::l=>(b<x.1∨x.2≤b)∧Outs b l
def FEnd (P:Program) (md:Region.Mode) (ops:Array Oper) (Q:Exit→J→O→Prop) (S:O→Prop) (w0:O) (k:Nat) (iv:List (Nat×Nat)):List (Nat×Tmp×Obj)→List Nat→Array Bool→J→O→Prop
 | [],_,L,a,W=>wpAnyH P md ops Q S k L a W
 | (f,d,o)::fl,bs,L,a,W=>∀b,W.heap[b]?=Z o→w0.heap.size≤b→b ∉ bs→Outs b iv→FEnd P md ops Q S w0 k iv fl (b::bs) (L.setIfInBounds f true) (a.put (Z d) (Oa (Z ⟨b,0,I⟩))) W
def ExtI (iv:List (Nat×Nat)) (w0 W w':O):Prop:=Ext w0 w'∧W.heap.size≤w'.heap.size∧∀k,k<W.heap.size→Outs k iv→w'.heap[k]?=W.heap[k]?
theorem ExtI.of {iv:List (Nat×Nat)} {w0 W w':O} (a:Ext w0 W) (h:Ext W w'):ExtI iv w0 W w':=⟨a.trans h,h.size,fun k b _=>h.block b⟩
def GF (P:Program) (md:Region.Mode) (ops:Array Oper) (Q:Exit→J→O→Prop) (S:O→Prop) (b:Nat→Bool) (fl:List (Nat×Tmp×Obj)) (w0:O):Nat→List (Nat×Nat)→Array Bool→J→O→Prop
 | 0,d,L,a,w=>rdy md ops fl L=[]∧∀W,Ext w W→Ext w0 W→FEnd P md ops Q S w0 0 d fl [] L a W
 | k+1,d,L,a,w=>((rdy md ops fl L=[]→∀W,Ext w W→Ext w0 W→FEnd P md ops Q S w0 (k+1) d fl [] L a W)∧(∀i∈rdy md ops fl L,b i=false) ∧
   ∀i∈rdy md ops fl L,∀W,Ext w W→Ext w0 W→wpOp P ops Q i (fun g f=>ExtI d w0 W f∧GF P md ops Q S b fl w0 k ((W.heap.size,f.heap.size)::d) (L.setIfInBounds i true) g f) a W) ∨
  (∃i oi v,ops[i]?=Z oi∧i∈rdy md ops fl L∧(∀j oj,ops[j]?=Z oj→j≠i→L.getD j true=false→(∀e∈oj.after,Region.binds md e=true→e.on≠i)→oi.apart ops oj=true) ∧
   (∀c a w,Q (.panic c) (a.put oi.dst v) w→Q (.panic c) a w)∧YieldsIf P ops S oi v a∧GF P md ops Q S b fl w0 k d (L.setIfInBounds i true) (a.put oi.dst v) w)
theorem FEnd.more {k:Nat} {iv iv':List (Nat×Nat)} (h:∀b,Outs b iv'→Outs b iv):∀(fl:List (Nat×Tmp×Obj)) (c:List Nat) (L:Array Bool) (a:J) (W:O),FEnd P md ops Q S w0 k iv fl c L a W→FEnd P md ops Q S w0 k iv' fl c L a W
 | [],_,_,_,_,H=>H
 | _::fl,_,_,_,_,H=>fun b d e f g=>FEnd.more h fl _ _ _ _ (H b d e f (h b g))
theorem GF.more {d:Nat→Bool}:∀{k:Nat} {iv iv':List (Nat×Nat)} {L:Array Bool} {a:J} {w:O},(∀b,Outs b iv'→Outs b iv)→GF P md ops Q S d fl w0 k iv L a w→GF P md ops Q S d fl w0 k iv' L a w
 | 0,_,_,_,_,_,h,H=>⟨H.1,fun V e c=>FEnd.more h _ _ _ _ _ (H.2 V e c)⟩
 | k+1,iv,iv',_,_,_,h,.inl H=>.inl ⟨fun u V e c=>FEnd.more h _ _ _ _ _ (H.1 u V e c),H.2.1,fun i s V e c=>wpOp_mono (fun y l f=>⟨⟨f.1.1,f.1.2.1,fun j t g=>f.1.2.2 j t (h j g)⟩,GF.more (iv:=(V.heap.size,l.heap.size)::iv) (iv':=(V.heap.size,l.heap.size)::iv') (fun b g=>⟨g.1,h b g.2⟩) f.2⟩) (H.2.2 i s V e c)⟩
 | k+1,_,_,_,_,_,h,.inr ⟨i,x,v,n,o,p,q,r,h6⟩=>.inr ⟨i,x,v,n,o,p,q,r,GF.more h h6⟩
theorem GF.later {b:Nat→Bool}:∀{k:Nat} {d:List (Nat×Nat)} {L:Array Bool} {a:J} {w W:O},Ext w W→GF P md ops Q S b fl w0 k d L a w→GF P md ops Q S b fl w0 k d L a W
 | 0,_,_,_,_,_,h,H=>⟨H.1,fun V c=>H.2 V (h.trans c)⟩
 | _+1,_,_,_,_,_,h,.inl H=>.inl ⟨fun o V c=>H.1 o V (h.trans c),H.2.1,fun i n V c=>H.2.2 i n V (h.trans c)⟩
 | _+1,_,_,_,_,_,h,.inr ⟨i,p,v,e,f,g,j,l,h6⟩=>.inr ⟨i,p,v,e,f,g,j,l,GF.later h h6⟩
theorem mem_rdy {i:Nat} {L:Array Bool}:i∈rdy md ops fl L ↔ i∈Region.ready md ops L∧inF fl i=false:=by
 unfold rdy;rw [List.mem_filter];simp
def gatedE (md:Region.Mode) (ops:Array Oper) (late a:Nat→Bool) (n:Nat):Bool:=
 (List.range ops.size).all fun j=>!late j || ((List.range ops.size).all fun i=>late i || a i || (reach md ops n j).contains i)
theorem zge {late c:Nat→Bool} {a:Array Bool} {m i j:Nat} (l:gatedE md ops late c m=true) (r:Cl md ops a) (hi:i∈Region.ready md ops a) (u:late i=false) (s:c i=false) (t:j∈Region.ready md ops a):late j=false:=by
 cases hlj:late j with
 | false=>rfl
 | true =>
  exfalso
  obtain⟨p,w,e,d⟩:=mem_ready.1 t;obtain⟨b,v,n,_⟩:=mem_ready.1 hi;unfold gatedE at l;rw [List.all_eq_true]at l;have g:=l j (List.mem_range.2 (Array.getElem?_eq_some_iff.1 e).1);rw [hlj]at g;simp only [Bool.not_true,Bool.false_or,List.all_eq_true]at g;have h:=g i (List.mem_range.2 (Array.getElem?_eq_some_iff.1 n).1);rw [u,s]at h;simp only [Bool.false_or,List.contains_eq_mem,decide_eq_true_eq]at h;have k:=zbu r m j (fun o q=>by rw [e]at q;cases q;exact d) i h
  rcases Nat.lt_or_ge i a.size with f | f
  ·simp [f]at k b;rw [k]at b;cases b
  ·simp [Array.getElem?_eq_none f]at k
def floatsB (md:Region.Mode) (ops:Array Oper) (b:List (Nat×Tmp)) (late a:Nat→Bool) (n:Nat):Bool:=
 gatedE md ops late a n&&b.all (fun f=>!late f.1&&!a f.1&&(preds md ops f.1).isEmpty&&decide (f.1<ops.size)&&fdst ops f.1==Z f.2)&&decide (b.map (·.1)).Nodup&&decide (b.map (·.2)).Nodup &&
 (List.range ops.size).all fun i=>late i || b.any (·.1==i) || b.all fun f=>!(preds md ops i).contains f.1&&(match ops[f.1]?,ops[i]? with|some x,Z y=>x.apart ops y|_,_=>true)
def Lays (P:Program) (ops:Array Oper) (f:Nat) (o:Obj):Prop:=∃x,ops[f]?=Z x∧x.guard=I∧∀(a:J) (W:O),(execOp a.eval x).run P W = .ok (.value (Oa (Z ⟨W.heap.size,0,I⟩))) (W.alloc o)
theorem zkN {j:Nat} {oi k:Oper} {v:X} (T:ops[j]?=Z k) (s:oi.apart ops k=true) (p:∀cs b,k.op ≠ .select cs b)
  (z:∀c a w,Q (.panic c) a w→Q (.panic c) (a.put oi.dst v) w) {K:J→O→Prop} {a:J} {w:O}
  (h:wpOp P ops Q j K a w):wpOp P ops Q j (fun D t=>∃a0,D=a0.put oi.dst v∧K a0 t) (a.put oi.dst v) w:=by
 obtain⟨q,l,W⟩:=Oper.apart_spec s;unfold wpOp at *;simp only [T]at *;rw [wanted_put k a oi.dst v q]
 split
 ·rename_i hw
  simp only [hw,if_true]at h
  rcases h with h|⟨g,i⟩
  case inr=>exact .inr ⟨by unfold Oper.asks at *;rw [execOp_put k p a oi.dst v q];exact g,i⟩
  refine .inl ?_;unfold Oper.wp at *;rw [execOp_put k p a oi.dst v q]
  generalize (execOp a.eval k).run P w=r at *
  cases r with
  | ok n t =>
   cases n<;>simp only [Oper.upon]at h ⊢
   case value u=>exact⟨_,Act.put_comm a v u l,h⟩
   case skip=>exact⟨_,Act.put_comm a v undef l,h⟩
   case defer d=>exact⟨_,by rw [Act.put_defers];exact Act.put_comm _ v undef l,h⟩
   case enter f args =>
    refine cM h fun e y o=>?_
    cases e with
    | returned u=>exact⟨_,Act.put_comm a v u l,o⟩
    | panicked c=>exact z _ _ _ o
    | outgrown=>exact o
   case row row args=>exact Rows.mono h fun u y o=>⟨_,Act.put_comm a v u l,o⟩
  | halt x t =>
   cases x<;>simp only [Oper.upon]at h ⊢
   case panic u=>exact z _ _ _ h
 ·rename_i hw
  simp only [hw]at h;exact⟨_,Act.put_comm a v undef l,h⟩
abbrev Come:=List (Nat×Tmp×Obj×Nat)
def came (x:Nat×Tmp×Obj×Nat):Nat×Tmp×Obj:=(x.1,x.2.1,x.2.2.1)
def setC (L:Array Bool) (a:Come):Array Bool:=a.foldl (fun L x=>L.setIfInBounds x.1 true) L
def putC (a:J) (b:Come):J:=b.foldl (fun a x=>a.put (Z x.2.1) (Oa (Z ⟨x.2.2.2,0,I⟩))) a
theorem zdy {i:Nat} {d:Bool}:∀(a:Come) (L:Array Bool),(∀x∈a,x.1≠i)→(setC L a).getD i d=L.getD i d
 | [],_,_=>rfl
 | x::a,L,h=>(zdy a _ fun y b=>h y (mC _ b)).trans (getD_set_ne d (h x (List.mem_cons_self ..)))
theorem zkw:∀(a:Come) (L:Array Bool),(setC L a).size=L.size
 | [],_=>rfl
 | _::a,L=>(zkw a _).trans (by simp)
theorem zku {i:Nat} {d:Bool}:∀(b:Come) (L:Array Bool),(∃x∈b,x.1=i)→i<L.size→(setC L b).getD i d=true
 | [],_,h,_=>by obtain⟨x,a,_⟩:=h;cases a
 | y::b,L,h,hi=>by
  by_cases e:∃x∈b,x.1=i
  ·exact zku b _ e (by simpa using hi)
  ·have f:y.1=i:=by
    obtain⟨x,a,c⟩:=h
    rcases List.mem_cons.1 a with rfl|a
    ·exact c
    ·exact absurd ⟨x,a,c⟩ e
   subst f;refine(zdy b _ fun x a c=>e ⟨x,a,c⟩).trans ?_;simp [hi]
theorem zfy {i:Nat}:∀(a:Come) (L:Array Bool),(∀x∈a,x.1≠i)→(setC L a).setIfInBounds i true=setC (L.setIfInBounds i true) a
 | [],_,_=>rfl
 | x::a,L,h=>by
  refine(zfy a _ fun y b=>h y (mC _ b)).trans ?_
  show setC ((L.setIfInBounds x.1 true).setIfInBounds i true) a=setC ((L.setIfInBounds i true).setIfInBounds x.1 true) a
  rw [Array.setIfInBounds_comm _ _ (h x (List.mem_cons_self ..))]
theorem zke {α β:Type} {g:α→β} {x y:List β} (h:x.Perm y):∀l:List α,l.map g=x→∃m,l.Perm m∧m.map g=y:=by
 induction h with
 | nil=>exact fun l d=>⟨l,.refl _,d⟩
 | cons b _ p =>
  intro l d;obtain⟨a,l,rfl,rfl,e⟩:=List.map_eq_cons_iff.1 d;obtain⟨m,f,i⟩:=p l e;exact⟨a::m,f.cons a,by simp [i]⟩
 | swap b c t =>
  intro l d;obtain⟨a,l,rfl,rfl,e⟩:=List.map_eq_cons_iff.1 d;obtain⟨n,l,rfl,rfl,f⟩:=List.map_eq_cons_iff.1 e;exact⟨n::a::l,.swap ..,by simp [f]⟩
 | trans _ _ j k =>
  intro l d;obtain⟨m,o,e⟩:=j l d;obtain⟨q,f,i⟩:=k m e;exact⟨q,o.trans f,i⟩
theorem FEnd.use {k:Nat} {W:O} {iv:List (Nat×Nat)}:∀(b:Come) (c:List Nat) (L:Array Bool) (a:J),FEnd P md ops Q S w0 k iv (b.map came) c L a W →
  (∀x∈b,W.heap[x.2.2.2]?=Z x.2.2.1∧w0.heap.size≤x.2.2.2∧Outs x.2.2.2 iv)→(c.reverse++b.map (·.2.2.2)).Nodup→wpAnyH P md ops Q S k (setC L b) (putC a b) W
 | [],_,_,_,h,_,_=>h
 | x::b,c,L,a,h,h1,h2=>by
  have d:=h1 x (List.mem_cons_self ..)
  have e:x.2.2.2 ∉ c:=fun f=>by
   rw [List.map_cons,List.nodup_append]at h2;exact h2.2.2 _ (List.mem_reverse.2 f) _ (List.mem_cons_self ..) rfl
  exact FEnd.use b (x.2.2.2::c) _ _ (h x.2.2.2 d.1 d.2.1 e d.2.2) (fun y g=>h1 y (mC _ g)) (by simpa using h2)
theorem zgq {j:Nat} {l:Oper} (r:ops[j]?=Z l) (f:∀cs b,l.op ≠ .select cs b) (q:∀c a d v w,Q (.panic c) a w→Q (.panic c) (a.put d v) w) {W:O} :
  ∀(e:Come) (a:J) (K:J→O→Prop),(∀x∈e,∃p:Oper,p.dst=Z x.2.1∧p.apart ops l=true)→wpOp P ops Q j K a W→wpOp P ops Q j (fun g n=>∃a0,g=putC a0 e∧K a0 n) (putC a e) W
 | [],_,_,_,h=>wpOp_mono (fun g n i=>⟨g,rfl,i⟩) h
 | x::e,a,K,h1,h=>by
  obtain⟨p,u,k⟩:=h1 x (List.mem_cons_self ..);have o:=zkN (oi:=p) (v:=Oa (Z ⟨x.2.2.2,0,I⟩)) r k f (fun c a w h=>q c a _ _ w h) h;rw [u]at o;refine wpOp_mono (fun g n i=>?_) (zgq r f q e _ _ (fun y z=>h1 y (mC _ z)) o);obtain⟨a0,rfl,s,rfl,t⟩:=i;exact⟨s,rfl,t⟩
end
section
variable {P:Program} {ops:Array Oper} {Q:Exit→J→O→Prop} {md:Region.Mode} {S:O→Prop} {fl:List (Nat×Tmp×Obj)} {w0:O} {late:Nat→Bool} {m:Nat}
def ftm (x:Nat×Tmp×Obj):Nat×Tmp:=(x.1,x.2.1)
theorem zdU {a:Nat→Bool} (h:floatsB md ops (fl.map ftm) late a m=true):gatedE md ops late a m=true∧(∀x∈fl,late x.1=false∧a x.1=false∧preds md ops x.1=[]∧x.1<ops.size∧fdst ops x.1=Z x.2.1)∧(fl.map (·.1)).Nodup∧(fl.map (·.2.1)).Nodup ∧
  ∀i<ops.size,late i=false→inF fl i=false→∀x∈fl,x.1 ∉ preds md ops i∧∀p q,ops[x.1]?=Z p→ops[i]?=Z q→p.apart ops q=true:=by
 unfold floatsB at h;simp only [Bool.and_eq_true,decide_eq_true_eq]at h;obtain⟨⟨⟨⟨n,o⟩,k⟩,l⟩,r⟩:=h;rw [List.map_map]at k l;refine⟨n,fun x j=>?_,k,l,fun i s t g x j=>?_⟩
 ·have:=List.all_eq_true.1 o _ (List.mem_map_of_mem (f:=ftm) j)
  simp only [Bool.and_eq_true,Bool.not_eq_true',List.isEmpty_iff,decide_eq_true_eq,beq_iff_eq]at this;exact⟨this.1.1.1.1,this.1.1.1.2,this.1.1.2,this.1.2,this.2⟩
 ·have h6:=List.all_eq_true.1 r i (List.mem_range.2 s)
  rw [t,Bool.false_or,Bool.or_eq_true]at h6
  rcases h6 with e|e
  ·exfalso
   obtain⟨y,w,c⟩:=List.any_eq_true.1 e;obtain⟨z,D,rfl⟩:=List.mem_map.1 w;unfold inF at g;rw [List.any_eq_false]at g;exact g z D c
  ·have c:=List.all_eq_true.1 e _ (List.mem_map_of_mem (f:=ftm) j)
   rw [Bool.and_eq_true]at c;refine⟨fun d=>?_,fun p q u v=>?_⟩
   ·have b:=c.1
    rw [Bool.not_eq_true',List.contains_eq_mem,decide_eq_false_iff_not]at b;exact b d
   ·have b:=c.2
    dsimp only [ftm]at b;rw [u,v]at b;exact b
theorem zhI {i:Nat} {o:Oper} (c:ops[i]?=Z o) {e:_} (b:e∈o.after) (a:Region.binds md e=true):e.on∈preds md ops i:=by
 unfold preds;rw [c];exact List.mem_map.2 ⟨e,List.mem_filter.2 ⟨by simpa using b,a⟩,rfl⟩
theorem zhm {i:Nat} (h:inF fl i=true):∃d o,(i,d,o)∈fl:=by
 unfold inF at h;obtain⟨x,b,a⟩:=List.any_eq_true.1 h;rw [beq_iff_eq]at a;subst a;exact⟨x.2.1,x.2.2,b⟩
theorem zfV {i:Nat} (h:inF fl i=false):∀x∈fl,x.1≠i:=by
 unfold inF at h;rw [List.any_eq_false]at h;exact fun x a e=>h x a (by simpa using e)
theorem zj6 {b:Nat}:∀{a:List (Nat×Nat)},(∀x∈a,b<x.1∨x.2≤b)→Outs b a
 | [],_=>trivial
 | x::_,h=>⟨h x (List.mem_cons_self ..),zj6 fun y c=>h y (mC _ c)⟩
theorem zl7 {α β:Type} {g:α→β}:∀{l:List α},(l.map g).Nodup→∀x∈l,∀y∈l,g x=g y→x=y
 | [],_,_,c,_,_,_=>nomatch c
 | z::l,h,x,c,y,hy,e=>by
  rw [List.map_cons,List.nodup_cons]at h;obtain⟨d,h⟩:=h
  rcases List.mem_cons.1 c with b|b
  ·rcases List.mem_cons.1 hy with a|a
   ·rw [b,a]
   ·exact absurd (List.mem_map.2 ⟨y,a,by rw [←e,b]⟩) d
  ·rcases List.mem_cons.1 hy with a|a
   ·exact absurd (List.mem_map.2 ⟨x,b,by rw [e,a]⟩) d
   ·exact zl7 h x b y a e
theorem zkv {b a:Come} (h:b.Perm a) (L:Array Bool):setC L b=setC L a:=
 h.foldl_eq' (fun x _ y _ z=>by
  by_cases e:x.1=y.1
  ·rw [e]
  ·exact Array.setIfInBounds_comm _ _ e) L
theorem zkl {c b:Come} (i:(c.map (·.2.1)).Nodup) (h:c.Perm b) (a:J):putC a c=putC a b:=
 h.foldl_eq' (fun x j y k z=>by
  by_cases e:x.2.1=y.2.1
  ·rw [zl7 i x j y k e]
  ·exact Act.put_comm z _ _ (fun d g f=>e ((Option.some.inj g).trans (Option.some.inj f).symm))) a
theorem zgh {j:Nat}:∀(b:Come) (L:Array Bool),(setC L b).getD j true=false→L.getD j true=false
 | [],_,h=>h
 | x::b,L,h=>by
  have a:=zgh b _ h
  by_cases e:x.1=j
  ·subst e
   rcases Nat.lt_or_ge x.1 L.size with c | c
   ·simp [c]at a
   ·simp [Array.getElem?_eq_none c]at a
  ·rw [getD_set_ne true e]at a
   exact a
theorem zhJ {d:Option Tmp} {v:X}:∀(b:Come) (a:J),(∀x∈b,d≠Z x.2.1)→(putC a b).put d v=putC (a.put d v) b
 | [],_,_=>rfl
 | x::b,a,h=>by
  refine(zhJ b _ fun y f=>h y (mC _ f)).trans ?_
  show putC ((a.put (Z x.2.1) _).put d v) b=putC ((a.put d v).put (Z x.2.1) _) b
  rw [Act.put_comm a _ v (fun q c e=>h x (List.mem_cons_self ..) (e.trans c.symm))]
theorem zeI {oi:Oper} {v:X} (f:∀cs b,oi.op ≠ .select cs b):∀(c:Come) (a:J),(∀x∈c,x.2.1 ∉ oi.looksAt ops)→YieldsIf P ops S oi v a→YieldsIf P ops S oi v (putC a c)
 | [],_,_,h=>h
 | x::c,a,h1,h=>zeI f c _ (fun y g=>h1 y (mC _ g)) (h.of_same (execOp_put oi f a _ _ (fun d e=>by cases e;exact h1 x (List.mem_cons_self ..))) (wanted_put oi a _ _ (fun d e=>by cases e;exact h1 x (List.mem_cons_self ..))))
theorem zkx {j:Nat}:∀(a:Come) (L:Array Bool),L.getD j false=true→(setC L a).getD j false=true
 | [],_,h=>h
 | _::a,_,h=>zkx a _ (getD_set_true h)
theorem znB {ag:Nat→Bool} (aU:floatsB md ops (fl.map ftm) late ag m=true) (aC:fl≠[]) (am:Region.noSelect ops=true) (hl:∀x∈fl,Lays P ops x.1 x.2.2) (hQ:∀c a d v w,Q (.panic c) a w→Q (.panic c) (a.put d v) w) (aA:∀w',Ext w0 w'→S w') :
  ∀(n k:Nat) (iv:List (Nat×Nat)) (L:Array Bool) (a:J) (w W:O) (g:Come) (rest:List (Nat×Tmp×Obj)),GF P md ops Q S ag fl w0 k iv L a w→(∀x∈iv,x.2≤w.heap.size)→Ext w0 w→Ext w W→(g.map came++rest).Perm fl→n=k+rest.length→Cl md ops L→L.size=ops.size →
   (∀x∈fl,L.getD x.1 true=false)→(∀x∈g,W.heap[x.2.2.2]?=Z x.2.2.1∧w0.heap.size≤x.2.2.2∧Outs x.2.2.2 iv)→(g.map (·.2.2.2)).Nodup→Cl md ops (setC L g)→wpAnyH P md ops Q S n (setC L g) (putC a g) W:=by
 obtain⟨f1,f2,f3,f4,f5⟩:=zdU aU
 have ay:∀(k:Nat) (iv:List (Nat×Nat)) (L:Array Bool) (a:J) (W:O) (g:Come),FEnd P md ops Q S w0 k iv fl [] L a W→(g.map came).Perm fl→(∀x∈g,W.heap[x.2.2.2]?=Z x.2.2.1∧w0.heap.size≤x.2.2.2∧Outs x.2.2.2 iv)→(g.map (·.2.2.2)).Nodup→wpAnyH P md ops Q S k (setC L g) (putC a g) W:=by
  intro k iv L a W g H hp hb ad;obtain⟨aL,p1,p2⟩:=zke hp g rfl
  have aS:(g.map (·.2.1)).Nodup:=by
   have:=(hp.map (·.2.1)).nodup_iff.2 f4
   rwa [List.map_map]at this
  rw [zkv p1,zkl aS p1];refine FEnd.use aL [] L a (by rw [p2];exact H) (fun x l=>hb x (p1.mem_iff.2 l)) ?_
  simpa using (p1.map (·.2.2.2)).nodup_iff.1 ad
 intro n
 induction n with
 | zero =>
  intro k iv L a w W g rest H ak h0 hw hp hn hc an ae hb ad ah;obtain rfl:k=0:=oM
  obtain rfl:rest=[]:=List.eq_nil_of_length_eq_zero oM;rw [List.append_nil]at hp;exact ay 0 iv L a W g (H.2 W hw (h0.trans hw)) hp hb ad
 | succ n ih =>
  intro k iv L a w W g rest H ak h0 hw hp hn hc an ae hb ad ah;have z:∀x∈g,came x∈fl:=fun x l=>hp.mem_iff.1 (List.mem_append_left _ (List.mem_map_of_mem l))
  have aw:∀x∈rest,x∈fl:=fun x l=>hp.mem_iff.1 (List.mem_append_right _ l)
  have ai:∀i d,inF fl i=false→(setC L g).getD i d=L.getD i d:=fun i d hi=>zdy g L fun x l=>zfV hi (came x) (z x l)
  have af:((g.map came++rest).map (·.1)).Nodup:=(hp.map (·.1)).nodup_iff.2 f3
  have ap:∀x∈g,∀y∈rest,x.1≠y.1:=fun x l y hy e=>by
   rw [List.map_append,List.nodup_append]at af;exact af.2.2 _ (List.mem_map_of_mem (f:=(·.1)) (List.mem_map_of_mem (f:=came) l)) _ (List.mem_map_of_mem (f:=(·.1)) hy) e
  have az:∀i∈rdy md ops fl L,late i=false:=fun i hi=>by
   obtain⟨u,T⟩:=mem_rdy.1 hi;obtain⟨D,K,q,aa⟩:=mem_ready.1 u
   cases hli:late i with
   | false=>rfl
   | true =>
    exfalso
    obtain⟨x,l⟩:=List.exists_mem_of_ne_nil fl aC;obtain⟨g1,ge,g2,g3,g4⟩:=f2 x l;have hg:=f1;unfold gatedE at hg;rw [List.all_eq_true]at hg;have h3:=hg i (List.mem_range.2 (Array.getElem?_eq_some_iff.1 q).1);rw [hli]at h3;simp only [Bool.not_true,Bool.false_or,List.all_eq_true]at h3;have h4:=h3 x.1 (List.mem_range.2 g3);rw [g1,ge]at h4;simp only [Bool.false_or,List.contains_eq_mem,decide_eq_true_eq]at h4;have h5:=zbu hc m i (fun o ho=>by rw [q]at ho;cases ho;exact aa) x.1 h4;have h6:=ae x l;have h7:x.1<L.size:=oM
    simp [h7]at h5 h6;rw [h5]at h6
    cases h6
  have aF:∀i∈rdy md ops fl L,i∈Region.ready md ops (setC L g):=fun i hi=>by
   obtain⟨u,T⟩:=mem_rdy.1 hi;obtain⟨D,K,q,aa⟩:=mem_ready.1 u;exact mem_ready.2 ⟨by rw [ai i true T];exact D,K,q,fun e he hb=>zkx g L (aa e he hb)⟩
  have aR:∀x∈rest,x.1∈Region.ready md ops (setC L g):=fun x l=>by
   obtain⟨g1,ge,g2,g3,g4⟩:=f2 x (aw x l);refine mem_ready.2 ⟨?_,ops[x.1],by simp [g3],fun e he hb=>?_⟩
   ·rw [zdy g L fun y hy=>ap y hy x l]
    exact ae x (aw x l)
   ·have:=zhI (md:=md) (ops:=ops) (i:=x.1) (o:=ops[x.1]) (by simp [g3]) he hb
    rw [g2]at this
    cases this
  have ax:∀x∈g,∃p:Oper,ops[x.1]?=Z p∧p.dst=Z x.2.1:=fun x l=>by
   have u:=f2 _ (z x l);have h4:x.1<ops.size:=u.2.2.2.1;have h3:ops[x.1]?=Z (ops[x.1]'h4):=Array.getElem?_eq_getElem h4;refine⟨ops[x.1]'h4,h3,?_⟩;have T:(ops[x.1]?).bind (·.dst)=Z x.2.1:=u.2.2.2.2;rw [h3]at T;exact T
  by_cases hE:rest=[]∧rdy md ops fl L=[]
  ·obtain⟨rfl,T⟩:=hE
   rw [List.append_nil]at hp
   cases k with
   | zero=>exact absurd hn sM
   | succ k =>
    obtain rfl:n=k:=by simp at hn;omega
    rcases H with H|⟨i,K,v,u,h3,_⟩
    ·exact ay _ iv L a W g (H.1 T W hw (h0.trans hw)) hp hb ad
    ·rw [T]at h3;cases h3
  ·have aK:(k=0∨∃k',k=k'+1∧((rdy md ops fl L=[]→∀W,Ext w W→Ext w0 W→FEnd P md ops Q S w0 (k'+1) iv fl [] L a W)∧(∀i∈rdy md ops fl L,ag i=false) ∧
   ∀i∈rdy md ops fl L,∀W,Ext w W→Ext w0 W→wpOp P ops Q i (fun a' w'=>ExtI iv w0 W w'∧GF P md ops Q S ag fl w0 k' ((W.heap.size,w'.heap.size)::iv) (L.setIfInBounds i true) a' w') a W))∨(∃k',k=k'+1∧∃i K v,ops[i]?=Z K∧i∈rdy md ops fl L∧(∀j oj,ops[j]?=Z oj→j≠i→L.getD j true=false→(∀e∈oj.after,Region.binds md e=true→e.on≠i)→K.apart ops oj=true) ∧
   (∀c a w,Q (.panic c) (a.put K.dst v) w→Q (.panic c) a w)∧YieldsIf P ops S K v a∧GF P md ops Q S ag fl w0 k' iv (L.setIfInBounds i true) (a.put K.dst v) w):=by
    cases k with
    | zero=>exact .inl (.inl rfl)
    | succ k =>
     rcases H with H|H
     ·exact .inl (.inr ⟨k,rfl,H⟩)
     ·exact .inr ⟨k,rfl,H⟩
   rcases aK with H2|⟨k,rfl,i,K,v,q,aj,aB,aI,hy,HG⟩
   case inr =>
    obtain⟨_,hF⟩:=mem_rdy.1 aj;have ar:=az i aj;have aH:=(Array.getElem?_eq_some_iff.1 q).1
    have aG:∀x∈g,K.dst≠Z x.2.1∧x.2.1 ∉ K.looksAt ops:=fun x l=>by
     obtain⟨p,aD,av⟩:=ax x l;obtain⟨q1,q2,q3⟩:=Oper.apart_spec ((f5 i aH ar hF _ (z x l)).2 p K aD q);exact⟨q2 _ av,q1 _ av⟩
    have ab:=ah.step (aF i aj);have e1:(setC L g).setIfInBounds i true=setC (L.setIfInBounds i true) g:=zfy g L fun x l=>zfV hF (came x) (z x l)
    refine wpAnyH_first q (Region.noSelect_spec am) aI n (setC L g) (putC a g) W (fun j oj hj aC ae aT=>aB j oj hj aC (zgh g L ae) aT) (aF i aj) (zeI (fun cs b=>Region.noSelect_spec am i K cs b q) g a (fun x l=>(aG x l).2) hy) (aA W (h0.trans hw)) ?_;rw [e1]at ab ⊢;rw [zhJ g a fun x l=>(aG x l).1];refine ih k iv _ _ w W g rest HG ak h0 hw hp oM (hc.step (mem_rdy.1 aj).1) (by simpa using an) (fun x r=>?_) hb ad ab;rw [getD_set_ne true (fun e=>zfV hF x r e.symm)];exact ae x r
   have aE:∃e,e∈Region.ready md ops (setC L g)∧late e=false∧ag e=false:=by
    by_cases u:rest=[]
    ·have T:rdy md ops fl L≠[]:=fun h=>hE ⟨u,h⟩
     obtain⟨e,he⟩:=List.exists_mem_of_ne_nil _ T
     rcases H2 with rfl|⟨k',rfl,H2⟩
     ·exact absurd H.1 T
     ·exact⟨e,aF e he,az e he,H2.2.1 e he⟩
    ·obtain⟨x,l⟩:=List.exists_mem_of_ne_nil _ u
     exact⟨x.1,aR x l,(f2 x (aw x l)).1,(f2 x (aw x l)).2.1⟩
   obtain⟨e,he,aQ,aP⟩:=aE;refine⟨fun hr=>(by rw [hr]at he;cases he),fun i hi=>?_⟩;obtain⟨D,K,q,aa⟩:=mem_ready.1 hi;have ar:late i=false:=zge f1 ah he aQ aP hi
   cases hF:inF fl i with
   | true =>
    obtain⟨d,o,ac⟩:=zhm hF
    have au:(i,d,o)∈rest:=by
     rcases List.mem_append.1 (hp.mem_iff.2 ac)with u|u
     ·exfalso
      obtain⟨x,l,T⟩:=List.mem_map.1 u;have h3:x.1=i:=by have:=congrArg (·.1) T;exact this
      have h4:=zku (d:=true) g L ⟨x,l,h3⟩ (by rw [an];exact(Array.getElem?_eq_some_iff.1 q).1);rw [h4]at D
      cases D
     ·exact u
    obtain⟨s,t,aV⟩:=List.append_of_mem au;subst aV;obtain⟨x,aJ,r,aW⟩:=hl _ ac;rw [q]at aJ
    cases aJ
    have hd:K.dst=Z d:=by
     have:=(f2 _ ac).2.2.2.2;unfold fdst at this;rw [q]at this;exact this
    unfold wpOp;rw [q];dsimp only;have ao:Region.wanted K (yielded ops (putC a g).tmps)=true:=by unfold Region.wanted;rw [r]
    rw [if_pos ao];refine .inl ?_;unfold Oper.wp;rw [aW]
    show S (W.alloc o)∧wpAnyH P md ops Q S n ((setC L g).setIfInBounds i true) ((putC a g).put K.dst _) (W.alloc o)
    refine⟨aA _ ((h0.trans hw).alloc o),?_⟩;rw [hd];have e1:(setC L g).setIfInBounds i true=setC L (g++[(i,d,o,W.heap.size)]):=by unfold setC;rw [List.foldl_append];rfl
    have e2:(putC a g).put (Z d) (Oa (Z ⟨W.heap.size,0,I⟩))=putC a (g++[(i,d,o,W.heap.size)]):=by unfold putC;rw [List.foldl_append];rfl
    have ab:=ah.step hi;rw [e1]at ab ⊢;rw [e2];refine ih k iv L a w (W.alloc o) (g++[(i,d,o,W.heap.size)]) (s++t) H ak h0 (hw.alloc o) ?_ (by simp at hn ⊢;omega) hc an ae ?_ ?_ ab
    ·refine List.Perm.trans ?_ hp
     rw [List.map_append,List.append_assoc];exact List.Perm.append_left _ (show ((i,d,o)::(s++t)).Perm (s++(i,d,o)::t)from List.perm_middle.symm)
    ·intro x l
     rcases List.mem_append.1 l with l|l
     ·obtain⟨u,T⟩:=hb x l
      exact⟨((eR W).alloc o).heapS u,T⟩
     ·cases List.mem_singleton.1 l
      exact⟨aN W o,(h0.trans hw).size,zj6 fun x l=>.inr (nT (ak x l) hw.size)⟩
    ·rw [List.map_append,List.nodup_append]
     refine⟨ad,by simp,fun b aM c aO e=>?_⟩;obtain⟨x,l,rfl⟩:=List.mem_map.1 aM;have u:=zaa (hb x l).1;simp at aO;omega
   | false =>
    have aq:i∈rdy md ops fl L:=mem_rdy.2 ⟨mem_ready.2 ⟨by rw [←ai i true hF];exact D,K,q,fun e he hb=>by
     have u:=aa e he hb
     have T:inF fl e.on=false:=by
      cases h3:inF fl e.on with
      | false=>rfl
      | true =>
       obtain⟨d,o,ac⟩:=zhm h3;exact absurd (zhI q he hb) (f5 i (Array.getElem?_eq_some_iff.1 q).1 ar hF _ ac).1
     rw [←ai e.on false T];exact u⟩,hF⟩
    rcases H2 with rfl|⟨k,rfl,H2⟩
    ·rw [H.1]at aq;cases aq
    ·refine wpOp_mono (fun a' w' h'=>?_) (zgq q (fun cs b=>Region.noSelect_spec am i K cs b q) hQ g a _ (fun x l=>?_) (H2.2.2 i aq W hw (h0.trans hw)))
     ·obtain⟨a0,rfl,l,hG⟩:=h'
      have e1:(setC L g).setIfInBounds i true=setC (L.setIfInBounds i true) g:=zfy g L fun x l=>zfV hF (came x) (z x l)
      have ab:=ah.step hi;refine⟨aA _ l.1,?_⟩;rw [e1]at ab ⊢;refine ih k _ _ a0 w' w' g rest hG (fun x r=>?_) l.1 (eR _) hp oM (hc.step (mem_rdy.1 aq).1) (by simpa using an) (fun x r=>?_) (fun x r=>?_) ad ab
      ·rcases List.mem_cons.1 r with rfl|r
       ·exact nE _
       ·exact nT (ak x r) (nT hw.size l.2.1)
      ·rw [getD_set_ne true (fun e=>zfV hF x r e.symm)]
       exact ae x r
      ·obtain⟨u,T,h3⟩:=hb x r
       exact⟨by rw [l.2.2 _ (zaa u) h3];exact u,T,.inl (zaa u),h3⟩
     ·obtain⟨p,aD,av⟩:=ax x l
      exact⟨p,av,(f5 i (Array.getElem?_eq_some_iff.1 q).1 ar hF _ (z x l)).2 _ _ aD q⟩
end
section
variable {P:Program} {ops:Array Oper} {Q:Exit→J→O→Prop} {md:Region.Mode} {S:O→Prop} {fl:List (Nat×Tmp×Obj)} {w0:O}
def GFs (P:Program) (md:Region.Mode) (ops:Array Oper) (Q:Exit→J→O→Prop) (b:Nat→Bool) (fl:List (Nat×Tmp×Obj)) (w0:O) (S:O→Prop) (k:Nat) (iv:List (Nat×Nat)) (L:Array Bool) (a:J) (w:O):Prop:=GF P md ops Q S b fl w0 k iv L a w
theorem tf1 {d:Nat→Bool} {iv:List (Nat×Nat)} {L:List (Addr×X)} {v:X} {i:Nat} {oi:Oper} {k:Nat} {b:Array Bool} {a:J} {w:O} {G:Prop} (h:G) (hi:ops[i]?=Z oi:=by(simp only [gA,gS,gZ];rfl)) (o:Region.noSelect ops=true:=by kernel_rfl) (f:Region.free md ops b i=true:=by kernel_rfl) (g:(rdy md ops fl b).contains i=true:=by kernel_rfl) (h4:∀c a w,Q (.panic c) (a.put oi.dst v) w→Q (.panic c) a w:=by exact fun _ _ _ h=>h) (l:Region.wanted oi (yielded ops a.tmps)=true:=by rfl) (n:∀w,CellL L w→(execOp a.eval oi).run P w = .ok (.value v) w:=by(intro w e;simp only [CellL,and_true]at e;go_simp;try(with_reducible rfl))) (h6:CellL L w0:=by(with_reducible assumption)) (j:GFs P md ops Q d fl w0 (CellL L) k iv (b.setIfInBounds i true) (a.put oi.dst v) w=G:=by((try simp only [Act.put,sA,sZ,sS]);rfl)):GFs P md ops Q d fl w0 (CellL L) (k+1) iv b a w:=by
 subst j;exact .inr ⟨i,oi,v,hi,by simpa using g,Region.free_spec hi f,h4,Or.inl ⟨l,n⟩,h⟩
theorem cf1 {c:Nat→Bool} {iv:List (Nat×Nat)} {L:List (Addr×X)} {i:Nat} {o:Oper} {k:Nat} {b:Array Bool} {a:J} {w:O} (h:∀W,Ext w W→Ext w0 W→CellL L W→∀K':J→O→Prop,Shut (∀a w',ExtI iv w0 W w'→(ExtI iv w0 W w'→CellL L w'→GFs P md ops Q c fl w0 (CellL L) k ((W.heap.size,w'.heap.size)::iv) (b.setIfInBounds i true) a w')→K' a w')→if Region.wanted o (yielded ops a.tmps)=true then Oper.wp P o a W K' Q else K' (a.put o.dst undef) W) (h6:CellL L w0:=by(with_reducible assumption)) (hi:ops[i]?=Z o:=by(simp only [gA,gS,gZ];rfl)) (g:rdy md ops fl b=[i]:=by kernel_rfl) (r:c i=false:=by rfl):GFs P md ops Q c fl w0 (CellL L) (k+1) iv b a w:=by
 refine .inl ⟨fun n=>absurd (g▸n) sM,fun j e=>?_,fun j e W q d=>?_⟩
 ·rw [g]at e
  cases List.mem_singleton.1 e
  exact r
 rw [g]at e
 cases List.mem_singleton.1 e
 exact wpOp_step hi (fun K' p=>h W q d (cE h6 d) K' (fun a w' l f=>p a w' ⟨l,f l (cE h6 l.1)⟩))
theorem cf2 {c:Nat→Bool} {iv:List (Nat×Nat)} {L:List (Addr×X)} {i j:Nat} {oi h:Oper} {k:Nat} {b:Array Bool} {a:J} {w:O}
  (t:∀W,Ext w W→Ext w0 W→CellL L W→∀K':J→O→Prop,Shut (∀a w',ExtI iv w0 W w'→(ExtI iv w0 W w'→CellL L w'→GFs P md ops Q c fl w0 (CellL L) k ((W.heap.size,w'.heap.size)::iv) (b.setIfInBounds i true) a w')→K' a w')→if Region.wanted oi (yielded ops a.tmps)=true then Oper.wp P oi a W K' Q else K' (a.put oi.dst undef) W)
  (u:∀W,Ext w W→Ext w0 W→CellL L W→∀K':J→O→Prop,Shut (∀a w',ExtI iv w0 W w'→(ExtI iv w0 W w'→CellL L w'→GFs P md ops Q c fl w0 (CellL L) k ((W.heap.size,w'.heap.size)::iv) (b.setIfInBounds j true) a w')→K' a w')→if Region.wanted h (yielded ops a.tmps)=true then Oper.wp P h a W K' Q else K' (a.put h.dst undef) W)
  (h6:CellL L w0:=by(with_reducible assumption)) (hi:ops[i]?=Z oi:=by(simp only [gA,gS,gZ];rfl)) (v:ops[j]?=Z h:=by(simp only [gA,gS,gZ];rfl)) (n:rdy md ops fl b=[i,j]:=by kernel_rfl) (r:c i=false∧c j=false:=by exact⟨rfl,rfl⟩):GFs P md ops Q c fl w0 (CellL L) (k+1) iv b a w:=by
 refine .inl ⟨fun s=>absurd (n▸s) sM,fun q d=>?_,fun q d W p f=>?_⟩
 ·rw [n]at d
  rcases List.mem_cons.1 d with rfl|d
  ·exact r.1
  ·cases List.mem_singleton.1 d
   exact r.2
 have o:=cE h6 f;rw [n]at d
 rcases List.mem_cons.1 d with rfl|d
 ·exact wpOp_step hi (fun K' l=>t W p f o K' (fun a w' g e=>l a w' ⟨g,e g (cE h6 g.1)⟩))
 ·cases List.mem_singleton.1 d
  exact wpOp_step v (fun K' l=>u W p f o K' (fun a w' g e=>l a w' ⟨g,e g (cE h6 g.1)⟩))
theorem df {d:Nat→Bool} {iv:List (Nat×Nat)} {L:List (Addr×X)} {k:Nat} {b:Array Bool} {a:J} {w:O} (e:rdy md ops fl b=[]) (h:∀W,Ext w W→Ext w0 W→FEnd P md ops Q (CellL L) w0 k iv fl [] b a W):GFs P md ops Q d fl w0 (CellL L) k iv b a w:=by
 cases k with
 | zero=>exact⟨e,h⟩
 | succ k=>exact .inl ⟨fun _=>h,fun i c=>(by rw [e]at c;cases c),fun i c=>by rw [e]at c;cases c⟩
theorem zbb {s:Nat} {a:J} {w:O} (fl:List (Nat×Tmp×Obj)) (L:List (Addr×X)) (k m:Nat) (late b:Nat→Bool) (q:P.follows .mixedOrders=true) (e:floatsB .any ops (fl.map ftm) late b m=true) (o:ops.size=k+fl.length) (g:fl≠[]) (f:Region.noSelect ops=true) (p:∀x∈fl,Lays P ops x.1 x.2.2)
  (n:∀c a d v w,Q (.panic c) a w→Q (.panic c) (a.put d v) w) (i:CellL L w.drew) (h:CellL L w.drew→GFs P .any ops Q b fl w.drew (CellL L) k [] (Array.replicate ops.size false) a w.drew):(Code.region s ops true).wp P Q a w:=by
 obtain⟨_,j,_,_,_⟩:=zdU e;have l:=znB (w0:=w.drew) (S:=CellL L) e g f p n (fun _ h=>cE i h) ops.size k [] (Array.replicate ops.size false) a w.drew w.drew [] fl (h i) sM (eR _) (eR _) sM o (Cl.start _) sM (fun x r=>by simp [(j x r).2.2.2.1]) sM sM (Cl.start _);exact wp_region_any q (wpAny_of_held _ _ _ _ l)
end
end
section
open Go.RowKit Go.Shelf
theorem zad {W:O} {p:Addr} {v:X} (h:W.cell? p=Z v):W.setCell p v=W:=by
 obtain⟨heap,e,b,k,a⟩:=W;unfold World.cell? at h;unfold World.setCell;simp only [World.mk.injEq,and_true]
 apply Array.ext_getElem?
 intro i;rw [Array.getElem?_modify]
 by_cases d:p.block=i
 ·subst d
  rw [if_pos rfl];dsimp only at h
  cases hb:heap[p.block]? with
  | none=>rfl
  | some o =>
   rw [hb]at h
   cases o with
   | cells c T g =>
    dsimp only at h
    split at h
    ·cases h
    ·rename_i hs
     have f:c.setIfInBounds p.off v=c:=by
      apply Array.ext_getElem?
      intro j;rw [Array.getElem?_setIfInBounds]
      split
      ·rename_i hj
       subst hj;rw [h];simp [(Array.getElem?_eq_some_iff.1 h).1]
      ·rfl
     simp [hs,f]
   | _=>cases h
 ·rw [if_neg d]
def stL (W:O) (b:Nat):Nat→List X→O
 | _,[]=>W
 | i,v::vs=>stL (W.setCell ⟨b,i,I⟩ v) b (i+1) vs
def putA (cs:Array X):Nat→List X→Array X
 | _,[]=>cs
 | i,v::vs=>putA (cs.setIfInBounds i v) (i+1) vs
theorem zkB {b:Nat} {T:TypeId} {d:Nat×Nat}:∀(a:List X) (i:Nat) {W:O} {c:Array X},W.heap[b]?=Z (U c T d)→(stL W b i a).heap[b]?=Z (U (putA c i a) T d)
 | [],_,_,_,h=>h
 | _::a,i,_,_,h=>zkB a (i+1) (zac h i _)
theorem zgb:∀(d b a:List X),b.length=d.length→putA (a++b).toArray a.length d=(a++d).toArray
 | [],b,a,h=>by rw [List.eq_nil_of_length_eq_zero h];rfl
 | v::d,[],_,h=>by cases h
 | v::d,c::b,a,h=>by
  have e:=zgb d b (a++[v]) (by simpa using h);unfold putA;rw [show (a++c::b).toArray.setIfInBounds a.length v=(a++[v]++b).toArray by simp];rw [lA,List.length_singleton]at e;rw [e];simp
theorem zdA {W:O} {b:Nat} {cs:List X} {T:TypeId} {c:Nat×Nat} (a:List X) (h:W.heap[b]?=Z (U cs.toArray T c)) (d:cs.length=a.length):(stL W b 0 a).heap[b]?=Z (U a.toArray T c):=by
 rw [zkB a 0 h];have:=zgb a cs [] d;rw [List.nil_append,List.nil_append]at this;rw [List.length_nil]at this;rw [this]
theorem zbq {b k:Nat} (c:k≠b):∀(a:List X) (i:Nat) (W:O),(stL W b i a).heap[k]?=W.heap[k]?
 | [],_,_=>rfl
 | _::a,i,W=>(zbq c a (i+1) _).trans (bS _ _ _ _ c)
theorem zcU {T:TypeId} {b:Nat}:∀(a:List X) (i:Nat) {W:O},NoT T W b→KeepT T W (stL W b i a)
 | [],_,_,_=>KeepT.refl _ _
 | _::a,i,_,h=>(KeepT.setN (p:=⟨b,i,I⟩) (KeepT.refl _ _) h _).trans (zcU a (i+1) (h.set _ _))
theorem zet {w:O} {b:Nat} (c:w.heap.size≤b):∀(a:List X) (i:Nat) {W:O},Ext w W→Ext w (stL W b i a)
 | [],_,_,h=>h
 | _::a,i,_,h=>zet c a (i+1) (Ext.set (p:=⟨b,i,I⟩) h c _)
theorem zeB {W:O} {b c:Nat} {l k:TypeId} {o n:Nat×Nat} {cs ds:List X} (a d:List X) (q:W.heap[b]?=Z (U cs.toArray l o)) (y:W.heap[c]?=Z (U ds.toArray k n)) (i:c≠b) (u:cs.length=a.length) (w:ds.length=d.length) :
  (stL (stL W b 0 a) c 0 d).heap[b]?=Z (U a.toArray l o)∧(stL (stL W b 0 a) c 0 d).heap[c]?=Z (U d.toArray k n)∧(∀j,j≠b→j≠c→(stL (stL W b 0 a) c 0 d).heap[j]?=W.heap[j]?) ∧
   (∀T,T≠l→T≠k→KeepT T W (stL (stL W b 0 a) c 0 d))∧∀v:O,Ext v W→v.heap.size≤b→v.heap.size≤c→Ext v (stL (stL W b 0 a) c 0 d):=by
 have s:=zdA a q u;have p:(stL W b 0 a).heap[c]?=Z (U ds.toArray k n):=(zbq i a 0 W).trans y;refine⟨(zbq (fun e=>i e.symm) d 0 _).trans s,zdA d p w,fun j f g=>(zbq g d 0 _).trans (zbq f a 0 W),fun T f g=>(zcU a 0 ?_).trans (zcU d 0 ?_),fun v f g t=>zet t d 0 (zet g a 0 f)⟩
 ·intro x r h
  rw [q]at h
  cases h
  exact f rfl
 ·intro x r h
  rw [p]at h
  cases h
  exact g rfl
abbrev zplL:List X:=[.string ⟨#[]⟩,Y I 0 0,M N 0,M N 0,M N 0,M N 0,M N 0,M N 0,M N 0,M .u8 0]
abbrev zpl:Array X:=#[.string ⟨#[]⟩,Y I 0 0,M N 0,M N 0,M N 0,M N 0,M N 0,M N 0,M N 0,M .u8 0]
end
end Go.Proofs.YtodpfeaihohpjaaGreatDoor.Cop
