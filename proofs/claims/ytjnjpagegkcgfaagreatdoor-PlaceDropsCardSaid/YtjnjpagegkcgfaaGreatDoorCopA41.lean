/- Part 42: contracts of what the law calls. -/
import Derived.Test.YtjnjpagegkcgfaaGreatDoorCopA38
import Derived.Test.YtjnjpagegkcgfaaGreatDoorCopA40
import Derived.Test.YtjnjpagegkcgfaaGreatDoorCopA30
import Derived.Test.YtjnjpagegkcgfaaGreatDoorCopA25
import Derived.Test.YtjnjpagegkcgfaaGreatDoorCopA24
import Derived.Test.YtjnjpagegkcgfaaGreatDoorCopA23
set_option maxRecDepth 1000000
set_option maxHeartbeats 16000000
set_option linter.unusedSimpArgs false
set_option linter.unusedVariables false
open Go.Value renaming slice→O,bool→Z,agg→X
open Option renaming none→Y,some→V
namespace Go.Proofs.YtjnjpagegkcgfaaGreatDoor.Cop
section
open Go.RowKit Go.Shelf Go.Sort Go.Lib
section
variable {g:List (Int×Int)} {ps:List Pl} (hg:Rise g) (ng:g≠[]) (hok:∀p∈ps,placedOk p=true) {a:Nat} {p:Pl} (hp:ps[a]?=V p)
include hg ng hok hp
end
end
section
open Go.RowKit Go.Shelf Go.Sort Go.Lib Go.Maps
def mvQ (d q:Int×Int):Int×Int:=(q.1+d.1,q.2+d.2)
def mvL (d:Int×Int) (l:List (Int×Int)):List (Int×Int):=l.map (mvQ d)
theorem LowV.mv {cs:List (Int×Int)} {q:Int×Int} (d:Int×Int) (h:LowV cs q):LowV (mvL d cs) (mvQ d q):=by
 obtain⟨u,v,⟨b,e⟩,c⟩:=h;exact⟨mvQ d u,mvQ d v,⟨b.maps _,by unfold mvQ;dsimp only;omega⟩,by rcases c with rfl|rfl<;>simp⟩
theorem UpV.mv {cs:List (Int×Int)} {q:Int×Int} (d:Int×Int) (h:UpV cs q):UpV (mvL d cs) (mvQ d q):=by
 obtain⟨u,v,⟨b,e⟩,c⟩:=h;exact⟨mvQ d u,mvQ d v,⟨b.maps _,by unfold mvQ;dsimp only;omega⟩,by rcases c with rfl|rfl<;>simp⟩
theorem Rise.mv {l:List (Int×Int)} (d:Int×Int) (h:Rise l):Rise (mvL d l):=by
 unfold Rise mvL at *;rw [List.pairwise_map];exact h.imp fun h=>by unfold mvQ;dsimp only;omega
end
section
open Go.RowKit Go.Shelf Go.Sort

def minG {α:Type} (f:α→Rat):List α→Rat
 | []=>0
 | x::xs=>xs.foldl (fun o y=>if rcmp (f y) o<0 then f y else o) (f x)
theorem zcR {α:Type} (f:α→Rat):∀{l:List α},l≠[]→(∃x∈l,minG f l=f x)∧∀x∈l,minG f l≤f x
 | [],h=>absurd rfl h
 | x::xs,_=>by
  have key:∀(e:List α) (o:Rat),(e.foldl (fun o y=>if rcmp (f y) o<0 then f y else o) o=o∨∃y∈e,e.foldl (fun o y=>if rcmp (f y) o<0 then f y else o) o=f y)∧e.foldl (fun o y=>if rcmp (f y) o<0 then f y else o) o≤o∧∀y∈e,e.foldl (fun o y=>if rcmp (f y) o<0 then f y else o) o≤f y:=by
   intro e
   induction e with
   | nil=>intro o;exact⟨.inl rfl,Rat.le_refl,fun y m=>by cases m⟩
   | cons y e k =>
    intro o;rw [List.foldl_cons]
    by_cases c:rcmp (f y) o<0
    ·rw [if_pos c]
     have hc:=(zgL _ _).1 c;obtain⟨b,i,j⟩:=k (f y);refine⟨.inr ?_,Rat.le_trans i (Rat.le_of_lt hc),fun z d=>?_⟩
     ·rcases b with b|⟨z,d,b⟩
      ·exact⟨y,by simp,b⟩
      ·exact⟨z,mC _ d,b⟩
     ·rcases List.mem_cons.1 d with rfl|d
      ·exact i
      ·exact j z d
    ·rw [if_neg c]
     have hc:o≤f y:=Rat.not_lt.1 fun h=>c ((zgL _ _).2 h)
     obtain⟨b,i,j⟩:=k o;refine⟨?_,i,fun z d=>?_⟩
     ·rcases b with b|⟨z,d,b⟩
      ·exact .inl b
      ·exact .inr ⟨z,mC _ d,b⟩
     ·rcases List.mem_cons.1 d with rfl|d
      ·exact Rat.le_trans i hc
      ·exact j z d
  obtain⟨b,i,j⟩:=key xs (f x);refine⟨?_,fun z d=>?_⟩
  ·rcases b with b|⟨z,d,b⟩
   ·exact⟨x,by simp,b⟩
   ·exact⟨z,mC _ d,b⟩
  ·rcases List.mem_cons.1 d with rfl|d
   ·exact i
   ·exact j z d
def gapT (l t:List (Int×Int)):Rat:=(leastR (btw l t)).2
def topsP (g:List (Int×Int)) (ps:List Pl) (p:Pl):List (List (Int×Int)):=g::(ps.filter fun o=>meetB p o&&relP p o==3).map upP2
def dropR (g:List (Int×Int)) (ps:List Pl) (p:Pl):Rat:=minG (gapT (lowP2 p)) (topsP g ps p)
theorem zg9 {l t:List (Int×Int)} (h:(btw l t).lo<(btw l t).hi):freeB l t=true ↔ 0≤gapT l t:=by
 unfold freeB gapT;rw [if_pos h,decide_eq_true_eq];exact⟨znW,fun h=>Int.sign_nonneg_iff.2 (Rat.num_nonneg.2 h)⟩
section
variable {p o:Pl} (hp:placedOk p=true) (ho:placedOk o=true)
include hp ho
theorem zlM (c:¬lineR (lowP2 p)≤lineL (lowP2 o)) (d:¬lineR (lowP2 o)≤lineL (lowP2 p)):(btw (lowP2 p) (upP2 o)).lo<(btw (lowP2 p) (upP2 o)).hi:=by
 have a:=zaW hp;have b:=zaW ho;unfold btw;dsimp only;omega
theorem zfZ (h:relP p o=3):(btw (lowP2 p) (upP2 o)).lo<(btw (lowP2 p) (upP2 o)).hi∧0≤gapT (lowP2 p) (upP2 o):=by
 unfold relP at h
 split at h
 ·omega
 ·rename_i h1
  split at h
  ·omega
  ·rename_i h2
   have b:=zlM hp ho h1 h2
   split at h
   ·rename_i h3
    exact⟨b,(zg9 b).1 h3⟩
   ·split at h<;>omega
end
def dropP (g:List (Int×Int)) (ps:List Pl) (p:Pl):Int:=(dropR g ps p).floor
set_option linter.unusedSectionVars false
section
variable {g:List (Int×Int)} {ps:List Pl} {p:Pl} (h0:laidP g ps=0) (hp:placedOk p=true) (hh:holdsB g p=true) (hc:clearB g ps p=true)
include h0 hp hh hc
theorem zdZ:(btw (lowP2 p) g).lo<(btw (lowP2 p) g).hi:=by
 have a:=zaW hp;unfold holdsB at hh;simp only [Bool.and_eq_true,decide_eq_true_eq]at hh;unfold btw;dsimp only;omega
theorem zgd:∀t∈topsP g ps p,0≤gapT (lowP2 p) t:=by
 intro t c;unfold topsP at c
 rcases List.mem_cons.1 c with rfl|c
 ·refine(zg9 (zdZ h0 hp hh hc)).1 ?_
  unfold clearB at hc;rw [Bool.and_eq_true]at hc;exact hc.1
 ·obtain⟨o,ho,rfl⟩:=List.mem_map.1 c
  obtain⟨d,b⟩:=List.mem_filter.1 ho;rw [Bool.and_eq_true,beq_iff_eq]at b;exact(zfZ hp ((zbo h0).1 o d) b.2).2
theorem znc:0≤dropP g ps p:=by
 unfold dropP;rw [Rat.le_floor_iff];obtain⟨⟨t,b,e⟩,_⟩:=zcR (gapT (lowP2 p)) (l:=topsP g ps p) (by unfold topsP;simp);unfold dropR;rw [e,Rat.intCast_zero];exact zgd h0 hp hh hc t b
end
end
section
open Go.RowKit Go.Shelf Go.Sort
theorem h12:(0:Rat)<1 / 2:=by decide +kernel
end
section
open Go.RowKit Go.Shelf Go.Sort Go.Lib
attribute [local go_sem] Oper.semAt_some
theorem zj5 {α:Type} (f:α→Rat) (xs:List α) (x:α) (h:xs≠[]):minG f (xs++[x])=if rcmp (f x) (minG f xs)<0 then f x else minG f xs:=by
 cases xs with
 | nil=>exact absurd rfl h
 | cons y b =>
  show (b++[x]).foldl _ (f y)=_
  rw [List.foldl_append];rfl
theorem Rb.gapT {l t:List (Int×Int)} (b:LnOk l) (c:LnOk t):Rb 23 (gapT l t):=by
 unfold Cop.gapT leastR;obtain⟨d,e⟩:=zaJ (gapR (btw l t)) (zbc (btw l t));rw [e];exact Rb.gap (zap (zbw b c) _ d) (zbw b c)
theorem Rb.minG {α:Type} {f:α→Rat} {xs:List α} (h:∀x∈xs,Rb 23 (f x)):Rb 23 (minG f xs):=by
 by_cases h0:xs=[]
 ·subst h0
  exact Rb.int (n:=0) (by unfold Lm;have:=zaq zbr 23;omega) dM
 ·obtain⟨⟨x,b,e⟩,_⟩:=zcR f h0
  rw [e];exact h x b
theorem zi8 (w:World) (bx:Nat) (r u:Value) (l t:List (Int×Int)) (hb:w.cell? ⟨bx,10,Y⟩=V r) (n:IsPts w r l) (q:IsPts w u t) (Q:LnOk l) (S:LnOk t) :
  Calls Tryz.prog 57 #[u,.pointer (V ⟨bx,0,Y⟩)] w (RetR w (gapT l t)):=by
 have b:=hd9 (fun(W:World) (f:Ext w W)=>zbf W r u l t (n.ext' f) (q.ext' f) (List.length_pos_iff.2 Q.1) (List.length_pos_iff.2 S.1));have k:=hd9 (fun(W:World) (f:Ext w W)=>zcj W r u (btw l t) (n.ext' f) (q.ext' f) (zbw Q S));obtain⟨R,x⟩:=gX (RetR w (gapT l t));rw [x];have m:=hd9 x;have y:=World.block_lt_of_cell? _ _ hb;unfold gapT at m;obtain⟨s,hs⟩:=gX (btw l t);rw [hs]at b k m;obtain⟨a1,m1,rfl⟩:=n.form;obtain⟨a2,m2,rfl⟩:=q.form;obtain⟨n1,f1⟩:=gX l.length;obtain⟨n2,f2⟩:=gX t.length;obtain⟨lo,d⟩:=gX s.lo;obtain⟨hi,c⟩:=gX s.hi;obtain⟨o,eo⟩:=gX (leastR s);unfold RetBt at b;unfold spc at b k;simp only [f1,f2,d,c,eo]at b k m hb ⊢;clear n q Q S hs f1 f2 d c eo x;dsimp only at y;go_enter Tryz.func57,Tryz.ntmps57
 go_wp2_with(first|(go_at_call 58;(with_reducible refine(b.out _ ?_).mono ?_);exact eA;rintro e w3 ⟨rfl,i⟩;obtain⟨z,K⟩:=i.cells;(have z3:w.heap.size<w3.heap.size:=by have:=i.size;simp only [wZ]at this;omega);(have T:w.heap.size<w3.heap.size+1:=oM))|(go_at_call 59;(with_reducible refine(k.out _ ?_).mono ?_);exact eA;rintro e w4 ⟨r4,r5,rfl,P,h,j⟩;obtain⟨a4,m4,c4,s4,b4,n4,k4,rfl⟩:=P.form;obtain⟨a5,m5,c5,s5,b5,n5,k5,rfl⟩:=h.form;obtain⟨D,L⟩:=j.cells;(have z4:w.heap.size<w4.heap.size:=by have:=j.size;simp only [wZ]at this;omega);(have aa:w.heap.size<w4.heap.size+1:=oM)))
 refine bR (v:=X #[O a5 m5 c5,Z s5,O b5 n5 k5]) (by simp [results,Tryz.results57,go_sem,z,K,D,L,z3,z4,T,aa]) rfl ?_;rw [←m.out];exact⟨_,rfl,h.keep kA,eA⟩
def LbS (w:World) (f:List (Int×Int)→Rat) (ts:List (List (Int×Int))) (g:Nat) (d b:Value) (W:World):Prop:=
 ∃(i:Nat),i≤ts.length∧b = .int .i64 i∧g=ts.length-i∧(∃a n c,d=O a n c)∧Ext w W∧RB W w.heap.size 0∧RB W (w.heap.size+1) (minG f (ts.take i))
def RetLb (w:World) (q:Rat) (e:Ending) (w':World):Prop:=∃a n c r,e = .returned (.tuple #[O a n c,r])∧IsR w' r q∧Ext w w'
theorem zjT (w:World) (v:Value) (bx:Nat) (vl:Value) (l:List (Int×Int)) (ts:List (List (Int×Int))) (hs:Sl 121 1 (PSl 121) w v ts) (hb:w.cell? ⟨bx,10,Y⟩=V vl) (h1:IsPts w vl l) (k1:LnOk l) (k2:∀t∈ts,LnOk t) :
  Calls Tryz.prog 56 #[v,.func (.func 57) #[] #[.pointer (V ⟨bx,0,Y⟩)]] w (RetLb w (minG (gapT l) ts)):=by
 obtain⟨a,c,rfl⟩:=hs.form;obtain⟨n,hn⟩:=gX ts.length;rw [hn]at hs ⊢;have aE:=hs.le;unfold maxLen at aE;have Hn:=hd9 hn;have ad:=hd9 (fun t (ht:t∈ts)=>Rb.gapT k1 (k2 t ht));have aL:n≤9223372036854775807:=oM
 have HG:=hd9 (fun(W:World) (hW:Ext w W) (vt:Value) (t:List (Int×Int)) (ht:IsPts W vt t) (hm:t∈ts)=>zi8 W bx vl vt l t (hW.cellS hb) (h1.ext' hW) ht k1 (k2 t hm));obtain⟨R,hR⟩:=gX (RetLb w (minG (gapT l) ts));rw [hR];have HR:=hd9 hR;obtain⟨f,hf⟩:=gX (gapT l);rw [hf]at HG HR ad;clear hn aE hR hf h1 k1 k2 hb;go_enter Tryz.func56,Tryz.ntmps56;go_wp2
 go_loopg [6,13] n (LbS w f ts)
 case atStart =>
  have z:∀W,IsR W (X #[O Y 0 0,Z false,O Y 0 0]) 0:=fun W=>IsR.zero _
  exact⟨0,by omega,rfl,by rw [Hn.out];rfl,⟨_,_,_,rfl⟩,eA,(RB.new (z w) rfl).ext ((eR _).alloc _),RB.new (z _) sM⟩
 case round =>
  obtain⟨i,hi,rfl,rfl,⟨xa,xn,xc,rfl⟩,hx,hA,hB⟩:=hrel;rw [Hn.out]at hi;have Hx:=hd9 hx;have HA:=hd9 hA;have HB:=hd9 hB
  by_cases aI:i<n
  ·obtain⟨t,ah⟩:∃t,ts[i]?=V t:=⟨ts[i]'(by rw [Hn.out];omega),by simp [Hn.out,aI]⟩
   obtain⟨b,o,d,rfl,aJ,aK,⟨vt,rfl,ak⟩,hc⟩:=Sl.at (Sl.ext hs (fun _ _ h=>by obtain⟨v,e,h⟩:=h;exact⟨v,e,h.ext' hx⟩) hx) ah;have e0:=hc 0 _ rfl;rw [Nat.mul_one,Nat.add_zero]at e0;obtain⟨ta,tn,tc,rfl⟩:=form3 ak;have Hm:=hd9 (lM ah);have aj:=hd9 ak;have aq:=hd9 ah;have aG:=hd9 (ad.out t Hm.out);have zB:w.heap.size+1<wr.heap.size:=by obtain⟨_,_,_,_,_,_,_,_,_,_,_,_,_,z,_⟩:=hB.rd;exact z
   obtain⟨d1,dm,dc,ds,d2,aA,aw,ar,au,av,ax,ay,az,zD,ai⟩:=hB.rd;clear ah hA hB hx ak hc
   by_cases h0:i=0
   ·have aH:((i:Int)==0)=true:=by simp;omega
    have H0:=hd9 h0;clear h0
    go_wp2_with((go_at_call 57;(with_reducible refine(HG.out _ Hx.out (O ta tn tc) t aj.out Hm.out).mono ?_);rintro e w1 ⟨r1,rfl,r,m⟩;obtain⟨b1,n1,k1,t1,b2,n2,k2,rfl⟩:=r.form;obtain⟨af,ag⟩:=m.cells;(have z1:w.heap.size+1<w1.heap.size:=by have:=m.size;omega)))
    have E:Hid (minG f (ts.take (i+1))=f t):=hd9 (by
     have:=H0.out;subst this;rw [zab _ _ _ aq.out];simp [minG])
    have j:Ext wr (w1.alloc (.cells #[O b1 n1 k1,Z t1,O b2 n2 k2] 63)):=m.alloc _;obtain⟨W8,aa⟩:=gX ((w1.alloc (.cells #[O b1 n1 k1,Z t1,O b2 n2 k2] 63)));have g1:RB W8 w1.heap.size (f t):=by rw [←aa];exact RB.new r rfl
    rw [aa]at j ⊢;have g2:=HB.out.ext j;have zW:=j.size;obtain⟨s1,ae⟩:=gX w1.heap.size;simp only [ae]at *;have zs:w.heap.size+1<s1:=z1;clear aa af ag r m ai ar au av ax ay az ae e0;obtain⟨pa,pm,u,ps,s,L,y,p0,p1,p2,_,_,_,pz,hp⟩:=(g1).rd;obtain⟨_,_,_,_,_,_,_,x0,x1,x2,al,am,an,xz,_⟩:=(g2).rd;refine wp_region_held_drew (S:=CellL [(⟨s1,0,Y⟩,O pa pm u),(⟨s1,1,Y⟩,Z ps),(⟨s1,2,Y⟩,O s L y)]) kM cA (fun Q=>?_);refine sN 0 ?_
    iterate 3
     refine tkn ?_
    refine oN ?_
    have T:∀q∈[((⟨s1,0,Y⟩:Addr),Value.slice pa pm u),(⟨s1,1,Y⟩,Z ps),(⟨s1,2,Y⟩,O s L y)],w.heap.size+1≠q.1.block:=by
     intro q hq;simp at hq
     rcases hq with rfl|rfl|rfl<;>(dsimp only;omega)
    refine cl1 (i:=3) fun K hK=>?_
    go_simp;refine kO hK (CellL.set3d Q T _ _ _) (fun Q=>?_);clear hK K;refine wpAnyH_done kM ?_ _;have ac:=hd9 j;have P:=hd9 (RB.put3 g2 hp rfl);clear j g1 g2;go_wp2
    go_roundg (n-(i+1))
    case measure=>have:=Hn.out;omega
    case rel =>
     obtain⟨P1,P2,P3,P4,P5⟩:=P.out;have D:=fun W=>(eR W).drew
     exact⟨i+1,by rw [Hn.out];omega,by go_num,by rw [Hn.out],⟨_,_,_,rfl⟩,(P5 w (Hx.out.trans ac.out) oM).drew,
      (P2 _ _ oM (HA.out.ext ac.out)).ext (D _),by rw [E.out];exact P1.ext (D _)⟩
   ·have aH:((i:Int)==0)=false:=by simp;omega
    have aF:ts.take i≠[]:=fun h=>by
     have h2:(ts.take i).length=0:=by rw [h];rfl
     rw [List.length_take,Hn.out]at h2;omega
    have e9:minG f (ts.take (i+1))=if rcmp (f t) (minG f (ts.take i))<0 then f t else minG f (ts.take i):=by
     rw [zab _ _ _ aq.out,zj5 _ _ _ aF]
    have ao:=hd9 (zav aG.out oM);have ap:=hd9 (zav (Rb.minG (f:=f) (xs:=ts.take i) fun x hx=>ad.out x (List.mem_of_mem_take hx)) oM);obtain⟨k,hk⟩:=gX (rcmp (f t) (minG f (ts.take i)));rw [hk]at e9;have Hk:=hd9 hk;clear h0 aF hk
    by_cases aD:k<0
    ·rw [if_pos aD]at e9
     have E:=hd9 e9;clear e9
     go_wp2_with(first|(go_at_call 57;(with_reducible refine(HG.out _ Hx.out (O ta tn tc) t aj.out Hm.out).mono ?_);rintro e w1 ⟨r1,rfl,r,m⟩;obtain⟨b1,n1,k1,t1,b2,n2,k2,rfl⟩:=r.form;obtain⟨af,ag⟩:=m.cells;(have z1:w.heap.size+1<w1.heap.size:=by have:=m.size;omega))|(go_at_call 75;(with_reducible refine(zaI _ (X #[O b1 n1 k1,Z t1,O b2 n2 k2]) (X #[O d1 dm dc,Z ds,O d2 aA aw]) _ _ (r.ext ?_) (ai.ext ?_) ao.out ap.out).mono ?_);exact eA;exact eA;rintro e w3 ⟨rfl,ab⟩;(try rw [Hk.out]);obtain⟨aB,aC⟩:=ab.cells))
     have j:Ext wr (w3):=(m.alloc _).trans ab;obtain⟨W8,aa⟩:=gX ((w3));have g1:RB W8 w1.heap.size (f t):=by rw [←aa];exact(RB.new r rfl).ext ab
     rw [aa]at j ⊢;have g2:=HB.out.ext j;have zW:=j.size;obtain⟨s1,ae⟩:=gX w1.heap.size;simp only [ae]at *;have zs:w.heap.size+1<s1:=z1;clear aa af ag r m ai ar au av ax ay az ae e0 ab aB aC;obtain⟨pa,pm,u,ps,s,L,y,p0,p1,p2,_,_,_,pz,hp⟩:=(g1).rd;obtain⟨_,_,_,_,_,_,_,x0,x1,x2,al,am,an,xz,_⟩:=(g2).rd;refine wp_region_held_drew (S:=CellL [(⟨s1,0,Y⟩,O pa pm u),(⟨s1,1,Y⟩,Z ps),(⟨s1,2,Y⟩,O s L y)]) kM cA (fun Q=>?_);refine sN 0 ?_
     iterate 3
      refine tkn ?_
     refine oN ?_
     have T:∀q∈[((⟨s1,0,Y⟩:Addr),Value.slice pa pm u),(⟨s1,1,Y⟩,Z ps),(⟨s1,2,Y⟩,O s L y)],w.heap.size+1≠q.1.block:=by
      intro q hq;simp at hq
      rcases hq with rfl|rfl|rfl<;>(dsimp only;omega)
     refine cl1 (i:=3) fun K hK=>?_
     go_simp;refine kO hK (CellL.set3d Q T _ _ _) (fun Q=>?_);clear hK K;refine wpAnyH_done kM ?_ _;have ac:=hd9 j;have P:=hd9 (RB.put3 g2 hp rfl);clear j g1 g2;go_wp2
     go_roundg (n-(i+1))
     case measure=>have:=Hn.out;omega
     case rel =>
      obtain⟨P1,P2,P3,P4,P5⟩:=P.out;have D:=fun W=>(eR W).drew
      exact⟨i+1,by rw [Hn.out];omega,by go_num,by rw [Hn.out],⟨_,_,_,rfl⟩,(P5 w (Hx.out.trans ac.out) oM).drew,
       (P2 _ _ oM (HA.out.ext ac.out)).ext (D _),by rw [E.out];exact P1.ext (D _)⟩
    ·rw [if_neg aD]at e9
     have E:=hd9 e9;clear e9
     go_wp2_with(first|(go_at_call 57;(with_reducible refine(HG.out _ Hx.out (O ta tn tc) t aj.out Hm.out).mono ?_);rintro e w1 ⟨r1,rfl,r,m⟩;obtain⟨b1,n1,k1,t1,b2,n2,k2,rfl⟩:=r.form;obtain⟨af,ag⟩:=m.cells;(have z1:w.heap.size+1<w1.heap.size:=by have:=m.size;omega))|(go_at_call 75;(with_reducible refine(zaI _ (X #[O b1 n1 k1,Z t1,O b2 n2 k2]) (X #[O d1 dm dc,Z ds,O d2 aA aw]) _ _ (r.ext ?_) (ai.ext ?_) ao.out ap.out).mono ?_);exact eA;exact eA;rintro e w3 ⟨rfl,ab⟩;(try rw [Hk.out]);obtain⟨aB,aC⟩:=ab.cells))
     have j:Ext wr w3:=(m.alloc _).trans ab
     go_roundg (n-(i+1))
     case measure=>have:=Hn.out;omega
     case rel=>exact⟨i+1,by rw [Hn.out];omega,by go_num,by rw [Hn.out],⟨_,_,_,rfl⟩,Hx.out.trans j,HA.out.ext j,by rw [E.out];exact HB.out.ext j⟩
  ·obtain rfl:i=n:=oM
   have e:ts.take i=ts:=lT (by rw [Hn.out];exact nE _);rw [e]at hB HB;clear e;have zW:=hx.size;have zD:w.heap.size+1<wr.heap.size:=by obtain⟨_,_,_,_,_,_,_,_,_,_,_,_,_,z,_⟩:=hB.rd;exact z
   go_wp2;obtain⟨pa,pm,u,ps,s,L,y,p0,p1,p2,_,_,_,pz,hp⟩:=(hB).rd;obtain⟨_,_,_,_,_,_,_,x0,x1,x2,al,am,an,xz,_⟩:=(hA).rd;refine wp_region_held_drew (S:=CellL [(⟨w.heap.size+1,0,Y⟩,O pa pm u),(⟨w.heap.size+1,1,Y⟩,Z ps),(⟨w.heap.size+1,2,Y⟩,O s L y)]) kM cA (fun Q=>?_);refine sN 0 ?_
   iterate 3
    refine tkn ?_
   refine oN ?_
   have T:∀q∈[((⟨w.heap.size+1,0,Y⟩:Addr),Value.slice pa pm u),(⟨w.heap.size+1,1,Y⟩,Z ps),(⟨w.heap.size+1,2,Y⟩,O s L y)],w.heap.size≠q.1.block:=by
    intro q hq;simp at hq
    rcases hq with rfl|rfl|rfl<;>(dsimp only;omega)
   refine cl1 (i:=3) fun K hK=>?_
   go_simp;refine kO hK (CellL.set3d Q T _ _ _) (fun Q=>?_);clear hK K;refine wpAnyH_done kM ?_ _;have P:=hd9 (RB.put3 hA hp rfl);go_wp2;refine bR (v:=.tuple #[O xa xn xc,X #[O pa pm u,Z ps,O s L y]]) (by simp [results,Tryz.results56,go_sem,x0,x1,x2,al,am,an]) rfl ?_;rw [←HR.out];obtain⟨P1,P2,P3,P4,P5⟩:=P.out;exact⟨_,_,_,_,rfl,(hp.keep P3).ext (eR _).drew,(P5 w Hx.out oM).drew⟩
end
section
open Go.RowKit Go.Shelf Go.Sort
theorem zbE {g:List (Int×Int)} (h:groundB g=true):Rise g:=by
 unfold groundB at h;rw [Bool.and_eq_true,List.all_eq_true]at h;obtain⟨q,k⟩:=h
 have f:∀i,(hi:i+1<g.length)→g[i].1<g[i+1].1:=fun i hi=>by
  have b:=k (i+1) (List.mem_range.2 hi);unfold grdR at b;rw [Nat.add_sub_cancel,gD,gE hi,Option.getD_some,gD,gE oM,Option.getD_some]at b;simp only [Bool.and_eq_true,Bool.or_eq_true,beq_iff_eq,decide_eq_true_eq]at b
  rcases b.2.2 with c|c
  ·omega
  ·exact c
 unfold Rise;rw [List.pairwise_iff_getElem];intro i j hi m l;obtain⟨d,rfl⟩:∃d,j=i+d+1:=⟨j-i-1,by omega⟩
 induction d with
 | zero=>exact f i m
 | succ d n =>
  have:=n oM oM;have:=f (i+d+1) oM
  show g[i].1<g[i+(d+1)+1].1
  have e:i+(d+1)+1=i+d+1+1:=oM
  simp only [e];omega
theorem zof {l:List (Int×Int)} (m:Rise l) (x:LnOk l) (D:lineL l<lineR l) {z:Int} (h1:lineL l≤z) (h2:z≤lineR l):((-104000:Int):Rat)≤atR l (z:Rat)∧atR l (z:Rat)≤((104000:Int):Rat):=by
 obtain⟨Q,e,_⟩:=x
 obtain⟨k,L,P,k3,k4⟩:∃k,lineL l≤k∧k<lineR l∧k≤z∧z≤k+1:=by
  by_cases c:z=lineR l
  ·exact⟨z-1,by omega,by omega,by omega,by omega⟩
  ·exact⟨z,by omega,by omega,by omega,by omega⟩
 obtain⟨⟨a,b⟩,f,t,u,_⟩:=znp Q L P;obtain⟨i,j,d,_⟩:=m.between f;dsimp only at t u i j d;have v:=e a i;have w:=e b j;unfold Bd at v w;have R:((a.1:Int):Rat)≤(z:Rat):=Rat.intCast_le_intCast.2 oM;have S:(z:Rat)≤((b.1:Int):Rat):=Rat.intCast_le_intCast.2 oM;rw [zpf m f R S];have s:=zfs (a,b) (a.1:Rat) (b.1:Rat) (z:Rat);rw [zgX,zfr a b d]at s
 have n:(0:Rat)<((b.1:Int):Rat)-((a.1:Int):Rat):=by
  have:=Rat.intCast_lt_intCast.2 d
  grind
 obtain⟨y,K⟩:=gX (atE (z:Rat) (a,b));rw [K]at s ⊢;have T:((-104000:Int):Rat)≤((a.2:Int):Rat):=Rat.intCast_le_intCast.2 oM;have W:((a.2:Int):Rat)≤((104000:Int):Rat):=Rat.intCast_le_intCast.2 oM;have u3:((-104000:Int):Rat)≤((b.2:Int):Rat):=Rat.intCast_le_intCast.2 oM;have u4:((b.2:Int):Rat)≤((104000:Int):Rat):=Rat.intCast_le_intCast.2 oM;have q:0≤((b.1:Int):Rat)-(z:Rat):=by grind
 have r:0≤(z:Rat)-((a.1:Int):Rat):=by grind
 have v1:=Rat.mul_le_mul_of_nonneg_left T q;have v2:=Rat.mul_le_mul_of_nonneg_left W q;have v3:=Rat.mul_le_mul_of_nonneg_left u3 r;have v4:=Rat.mul_le_mul_of_nonneg_left u4 r;refine⟨Rat.not_lt.1 fun h=>?_,Rat.not_lt.1 fun h=>?_⟩
 ·have:=Rat.mul_lt_mul_of_pos_left h n
  grind
 ·have:=Rat.mul_lt_mul_of_pos_left h n
  grind
theorem zjm {l t:List (Int×Int)} (m:Rise l) (n:Rise t) (h:LnOk l) (j:LnOk t) (ho:(btw l t).lo<(btw l t).hi):gapT l t≤((208000:Int):Rat):=by
 unfold gapT leastR;obtain⟨i,f⟩:=zaJ (gapR (btw l t)) (zbc (btw l t));obtain⟨z,k,e⟩:=List.mem_map.1 i;have c:=zl1 ho k;rw [f,←e];unfold btw at ho c;dsimp only at ho c;have a:=zof m h oM (z:=z) oM oM;have b:=zof n j oM (z:=z) oM oM;unfold gapR btw;dsimp only;have d:((208000:Int):Rat)=((104000:Int):Rat)-((-104000:Int):Rat):=by rw [←Rat.intCast_sub];rfl
 rw [d]
 grind
theorem zi9 {g:List (Int×Int)} {ps:List Pl} {p:Pl} (h0:laidP g ps=0) (hp:placedOk p=true) (hh:holdsB g p=true) (hc:clearB g ps p=true):0≤dropR g ps p∧0≤dropP g ps p∧dropP g ps p≤208000:=by
 obtain⟨hok,_,hg⟩:=zbo h0;obtain⟨⟨t,d,e⟩,_⟩:=zcR (gapT (lowP2 p)) (l:=topsP g ps p) (by unfold topsP;simp);have h:=zgd h0 hp hh hc t d
 have i:gapT (lowP2 p) t≤((208000:Int):Rat):=by
  unfold topsP at d
  rcases List.mem_cons.1 d with f|d
  ·rw [f]
   exact zjm (zaL hp).1 (zbE hg) (zaj hp).1 (zaB hg) (zdZ h0 hp hh hc)
  ·obtain⟨o,ho,rfl⟩:=List.mem_map.1 d
   obtain⟨b,c⟩:=List.mem_filter.1 ho;rw [Bool.and_eq_true,beq_iff_eq]at c;exact zjm (zaL hp).1 (zb0 (hok o b)).1 (zaj hp).1 (zaj (hok o b)).2 (zfZ hp (hok o b) c.2).1
 refine⟨by unfold dropR;rw [e];exact h,znc h0 hp hh hc,?_⟩;have j:=Rat.floor_le (dropR g ps p);have k:((dropP g ps p:Int):Rat)≤((208000:Int):Rat):=Rat.le_trans j (by unfold dropR;rw [e];exact i);exact Rat.intCast_le_intCast.1 k
end
section
open Go.RowKit Go.Shelf Go.Sort Go.Lib
def exA:Pl:=brickP ⟨#[97]⟩ 0 0
def exB:Pl:=brickP ⟨#[98]⟩ 200 0
def exC:Pl:=brickP ⟨#[99]⟩ 100 80
def exD:Pl:=brickP ⟨#[100]⟩ 50 300
theorem zdV:lowP2 exA=[(0,0),(0+200,0)]:=by
 unfold exA lowP2 lineOf;rw [show lowRaw (cornersP (brickP ⟨#[97]⟩ 0 0)) (cornersP (brickP ⟨#[97]⟩ 0 0)).length=[(0,0),(0+200,0)] by decide,zbq (List.Perm.refl _) dM dM]
 decide
theorem zhL:upP2 exA=[(0,0+80),(0+200,0+80)]:=by
 unfold exA upP2 lineOf;rw [show upRaw (cornersP (brickP ⟨#[97]⟩ 0 0)) (cornersP (brickP ⟨#[97]⟩ 0 0)).length=[(0+200,0+80),(0,0+80)] by decide,zbq (List.Perm.swap _ _ _) dM dM]
 decide
theorem zmF:placedOk exA=true:=by decide +kernel
theorem zdW:lowP2 exB=[(200,0),(200+200,0)]:=by
 unfold exB lowP2 lineOf;rw [show lowRaw (cornersP (brickP ⟨#[98]⟩ 200 0)) (cornersP (brickP ⟨#[98]⟩ 200 0)).length=[(200,0),(200+200,0)] by decide,zbq (List.Perm.refl _) dM dM]
 decide
theorem zhM:upP2 exB=[(200,0+80),(200+200,0+80)]:=by
 unfold exB upP2 lineOf;rw [show upRaw (cornersP (brickP ⟨#[98]⟩ 200 0)) (cornersP (brickP ⟨#[98]⟩ 200 0)).length=[(200+200,0+80),(200,0+80)] by decide,zbq (List.Perm.swap _ _ _) dM dM]
 decide
theorem zmG:placedOk exB=true:=by decide +kernel
theorem zfe:lowP2 exC=[(100,80),(100+200,80)]:=by
 unfold exC lowP2 lineOf;rw [show lowRaw (cornersP (brickP ⟨#[99]⟩ 100 80)) (cornersP (brickP ⟨#[99]⟩ 100 80)).length=[(100,80),(100+200,80)] by decide,zbq (List.Perm.refl _) dM dM]
 decide
theorem zhN:upP2 exC=[(100,80+80),(100+200,80+80)]:=by
 unfold exC upP2 lineOf;rw [show upRaw (cornersP (brickP ⟨#[99]⟩ 100 80)) (cornersP (brickP ⟨#[99]⟩ 100 80)).length=[(100+200,80+80),(100,80+80)] by decide,zbq (List.Perm.swap _ _ _) dM dM]
 decide
theorem zjX:lowP2 exD=[(50,300),(50+200,300)]:=by
 unfold exD lowP2 lineOf;rw [show lowRaw (cornersP (brickP ⟨#[100]⟩ 50 300)) (cornersP (brickP ⟨#[100]⟩ 50 300)).length=[(50,300),(50+200,300)] by decide,zbq (List.Perm.refl _) dM dM]
 decide
theorem zmL:upP2 exD=[(50,300+80),(50+200,300+80)]:=by
 unfold exD upP2 lineOf;rw [show upRaw (cornersP (brickP ⟨#[100]⟩ 50 300)) (cornersP (brickP ⟨#[100]⟩ 50 300)).length=[(50+200,300+80),(50,300+80)] by decide,zbq (List.Perm.swap _ _ _) dM dM]
 decide
theorem zoM:placedOk exD=true:=by decide +kernel
theorem zoW:relP exA exB=1:=by
 unfold relP;rw [zdV,zdW]
 decide
def ex3:List Pl:=[exA,exB,exC]
theorem zfb:laidP exG ex3=0:=by
 unfold ex3 laidP;simp only [laid1,laid2,addE,clearB,clashB,List.any_cons,List.any_nil,List.nil_append,List.cons_append,relP,freeB,leastR,stopsR,stopsZ,zcO,holdsB,zdV,zdW,zfe,zhL,zhM,zhN]
 decide +kernel
theorem znb:dropP exG ex3 exD=140:=by
 unfold dropP dropR topsP ex3;simp only [List.filter,List.map_cons,List.map_nil,minG,List.foldl_cons,List.foldl_nil,gapT,relP,freeB,leastR,stopsR,stopsZ,zcO,zdV,zdW,zfe,zjX,zhL,zhM,zhN,zmL]
 decide +kernel
instance:DecidableEq Be:=fun⟨a,b,c,d,e,f,g⟩ ⟨a',b',c',d',e',f',g'⟩=>decidable_of_iff (a=a'∧b=b'∧c=c'∧d=d'∧e=e'∧f=f'∧g=g') sM
theorem zmZ:bedsN exG ex3 2 exC 0 4=[⟨0,100,80,200,80,(1,0),(1,0)⟩,⟨1,200,80,300,80,(1,0),(1,0)⟩]:=by
 unfold bedsN ex3;simp only [bedAt,bedO,reachP,reachNo,leastR,stopsR,stopsZ,zcO,zdV,zdW,zfe,zhL,zhM,zhN]
 decide +kernel
theorem znY:textV 100 80=[40,49,48,48,44,32,56,48,41]:=by decide +kernel
end
section
open Go.RowKit Go.Shelf Go.Sort Go.Lib
attribute [local go_sem] Oper.semAt_some
theorem zbe (w:World) (h:ByteArray) (x z:Int):Calls Tryz.prog 46 #[.string h,.int .i64 x,.int .i64 z] w fun e i=>∃v,e = .returned (X (plc (brickP h x z) v))∧IsPts i v brickS∧Ext w i:=by
 go_enter Tryz.func46,Tryz.ntmps46
 go_wp2_with(go_at_call 123;(with_reducible refine(zhY _).mono ?_);rintro e j ⟨s,rfl,b,c⟩;obtain⟨k,m,l,rfl⟩:=form3 b;obtain⟨d,f⟩:=c.cells;(have r:=c.size);(simp only [wZ]at r);(have n:w.heap.size<j.heap.size:=oM);(have q:¬w.heap.size=j.heap.size:=oM))
 refine bR (v:=X (plc (brickP h x z) (O k m l))) (by simp [results,Tryz.results46,go_sem,plc,brickP,d,f,n,q]) rfl ⟨_,rfl,?_,eA⟩;exact b.keep' kA
theorem zln (w:World):Calls Tryz.prog 124 #[] w fun e b=>∃v,e = .returned v∧IsPts b v exG∧Ext w b:=by
 go_enter Tryz.func124,Tryz.ntmps124;go_wp2;go_ret;exact⟨_,rfl,zkp _ rfl exG dM,eA⟩
theorem zgb (w:World):Calls Tryz.prog 47 #[] w fun e w'=>∃vg vp,e = .returned (X #[vg,vp])∧IsPts w' vg exG∧IsPls w' vp ex3∧Ext w w':=by
 go_enter Tryz.func47,Tryz.ntmps47
 go_wp2_with(first|(go_at_call 124;(with_reducible refine(zln _).mono ?_);rintro e w1 ⟨v1,rfl,r,j⟩;obtain⟨m,y,n,rfl⟩:=form3 r;obtain⟨P,T⟩:=j.cells;(have z1:w.heap.size<w1.heap.size:=by have:=j.size;simp only [wZ]at this;omega))|(go_at_call 46;(with_reducible refine(zbe _ ⟨#[97]⟩ 0 0).mono ?_);rintro e w2 ⟨v2,rfl,s,f⟩;obtain⟨a2,n2,c2,rfl⟩:=form3 s;obtain⟨Q,W⟩:=f.cells;(have z2:w.heap.size<w2.heap.size:=by have:=f.size;omega);(unfold plc brickP);dsimp only)|(go_at_call 46;(with_reducible refine(zbe _ ⟨#[98]⟩ 200 0).mono ?_);rintro e w3 ⟨v3,rfl,t,d⟩;obtain⟨a3,n3,c3,rfl⟩:=form3 t;obtain⟨R,aa⟩:=d.cells;(have z3:w.heap.size<w3.heap.size:=by have:=d.size;omega);(unfold plc brickP);dsimp only)|(go_at_call 46;(with_reducible refine(zbe _ ⟨#[99]⟩ 100 80).mono ?_);rintro e h ⟨v4,rfl,x,b⟩;obtain⟨a4,n4,c4,rfl⟩:=form3 x;obtain⟨S,ab⟩:=b.cells;(have z4:w.heap.size<h.heap.size:=by have:=b.size;omega);(unfold plc brickP);dsimp only))
 have K1:=j.heapS (aN w (.cells #[O Y 0 0,O Y 0 0] 41));have K:=b.heapS (d.heapS (f.heapS K1));obtain⟨l,c⟩:=gX ((h.setCell ⟨w.heap.size,0,Y⟩ (O m y n)).setCell ⟨w.heap.size,1,Y⟩ (O (V ⟨h.heap.size,0,Y⟩) 3 3))
 have z:KeepT 43 h l:=by
  rw [←c];have h1:=(KeepT.refl 43 h).set (p:=⟨w.heap.size,0,Y⟩) K dM (O m y n);exact h1.set (p:=⟨w.heap.size,1,Y⟩) (zbs K 0 _) dM _
 have hz:l.heap.size=h.heap.size:=by rw [←c];simp only [qcZ]
 have L:l.heap[w.heap.size]?=V (.cells #[O m y n,O (V ⟨h.heap.size,0,Y⟩) 3 3] 41 (0,0)):=by
  rw [←c];exact zbs (zbs K 0 _) 1 _
 have hX:Ext w l:=by
  rw [←c];exact(Ext.set (Ext.set (((((eR w).alloc _).trans j).trans f).trans d |>.trans b) (nE _) _) (nE _) _)
 rw [c];clear c P T Q W R aa S ab;have b0:=qcB L (i:=0) (u:=O m y n) rfl;have b1:=qcB L (i:=1) (u:=O (V ⟨h.heap.size,0,Y⟩) 3 3) rfl;have bz:=zaa L
 have D:=zkh l (k:=h.heap.size) (base:=w.heap.size) hz.symm oM [(brickP ⟨#[97]⟩ 0 0,O a2 n2 c2),(brickP ⟨#[98]⟩ 200 0,O a3 n3 c3),(brickP ⟨#[99]⟩ 100 80,O a4 n4 c4)] (by
  intro q D;simp only [List.mem_cons,List.not_mem_nil,or_false]at D
  rcases D with rfl|rfl|rfl
  ·exact⟨((s.ext' d).ext' b).keep' z,by unfold brickP;dsimp only;omega⟩
  ·exact⟨(t.ext' b).keep' z,by unfold brickP;dsimp only;omega⟩
  ·exact⟨x.keep' z,by unfold brickP;dsimp only;omega⟩) sM
 refine bR (v:=X #[O m y n,O (V ⟨h.heap.size,0,Y⟩) 3 3]) (by simp [results,Tryz.results47,go_sem,b0,b1,bz]) rfl ⟨_,_,rfl,?_,?_,hX.alloc _⟩
 ·exact((((r.ext' f).ext' d).ext' b).keep' z).ext' ((eR _).alloc _)
 ·exact D.pls
end
end Go.Proofs.YtjnjpagegkcgfaaGreatDoor.Cop
