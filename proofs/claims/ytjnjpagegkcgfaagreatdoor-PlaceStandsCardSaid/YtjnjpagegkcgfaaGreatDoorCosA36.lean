/- Part 37. -/
import Derived.Test.YtjnjpagegkcgfaaGreatDoorCosA35
import Derived.Test.YtjnjpagegkcgfaaGreatDoorCosA33
import Derived.Test.YtjnjpagegkcgfaaGreatDoorCosA21
import Derived.Test.YtjnjpagegkcgfaaGreatDoorCosA22
import Derived.Test.YtjnjpagegkcgfaaGreatDoorCosA26
import Derived.Test.YtjnjpagegkcgfaaGreatDoorCosA20
set_option maxRecDepth 1000000
set_option maxHeartbeats 16000000
set_option linter.unusedSimpArgs false
set_option linter.unusedVariables false
open Go.Value renaming slice->O,bool->Z,agg->X
open Option renaming none->Y,some->V
namespace Go.Proofs.YtjnjpagegkcgfaaGreatDoor.Cop
section
open Go.RowKit Go.Shelf Go.Sort
def minG{α:Type}(f:α->Rat):List α->Rat
 | []=>0
 | x::xs=>xs.foldl (fun o y=>if rcmp (f y) o<0 then f y else o) (f x)
theorem zdP{α:Type}(f:α->Rat):∀{l:List α},l≠[]->(∃x∈l,minG f l=f x)/\∀x∈l,minG f l<=f x
 | [],h=>absurd rfl h
 | x::xs,_=>by
  have key:∀(d:List α)(o:Rat),(d.foldl (fun o y=>if rcmp (f y) o<0 then f y else o) o=o\/∃y∈d,d.foldl (fun o y=>if rcmp (f y) o<0 then f y else o) o=f y)/\d.foldl (fun o y=>if rcmp (f y) o<0 then f y else o) o<=o/\∀y∈d,d.foldl (fun o y=>if rcmp (f y) o<0 then f y else o) o<=f y:=by
   intro d
   induction d with
   | nil=>intro o;exact⟨.inl rfl,Rat.le_refl,fun y k=>by cases k⟩
   | cons y d j =>
    intro o;rw[List.foldl_cons]
    by_cases c:rcmp (f y) o<0
    ·rw[if_pos c]
     have hc:=(zdY _ _).1 c;obtain⟨a,e,i⟩:=j (f y);refine⟨.inr ?_,Rat.le_trans e (Rat.le_of_lt hc),fun z b=>?_⟩
     ·rcases a with a|⟨z,b,a⟩
      ·exact⟨y,by simp,a⟩
      ·exact⟨z,mC _ b,a⟩
     ·rcases List.mem_cons.1 b with rfl|b
      ·exact e
      ·exact i z b
    ·rw[if_neg c]
     have hc:o<=f y:=Rat.not_lt.1 fun h=>c ((zdY _ _).2 h)
     obtain⟨a,e,i⟩:=j o;refine⟨?_,e,fun z b=>?_⟩
     ·rcases a with a|⟨z,b,a⟩
      ·exact .inl a
      ·exact .inr ⟨z,mC _ b,a⟩
     ·rcases List.mem_cons.1 b with rfl|b
      ·exact Rat.le_trans e hc
      ·exact i z b
  obtain⟨a,e,i⟩:=key xs (f x);refine⟨?_,fun z b=>?_⟩
  ·rcases a with a|⟨z,b,a⟩
   ·exact⟨x,by simp,a⟩
   ·exact⟨z,mC _ b,a⟩
  ·rcases List.mem_cons.1 b with rfl|b
   ·exact e
   ·exact i z b
def gapT(l t:LP):Rat:=(leastR (btw l t)).2
def topsP(g:LP)(ps:List Pl)(p:Pl):List LP:=g::(ps.filter fun o=>meetB p o&&relP p o==3).map upP2
def dropR(g:LP)(ps:List Pl)(p:Pl):Rat:=minG (gapT (lowP2 p)) (topsP g ps p)
theorem zgT{l t:LP}(h:(btw l t).lo<(btw l t).hi):freeB l t=true ↔ 0<=gapT l t:=by
 unfold freeB gapT;rw[if_pos h,decide_eq_true_eq];exact⟨znA,fun h=>Int.sign_nonneg_iff.2 (Rat.num_nonneg.2 h)⟩
section
variable {p o:Pl} (hp:placedOk p=true) (ho:placedOk o=true)
include hp ho
theorem zlt(c:¬lineR (lowP2 p)<=lineL (lowP2 o))(d:¬lineR (lowP2 o)<=lineL (lowP2 p)):(btw (lowP2 p) (upP2 o)).lo<(btw (lowP2 p) (upP2 o)).hi:=by
 have a:=zba hp;have b:=zba ho;unfold btw;dsimp only;omega
theorem zfL(h:relP p o=3):(btw (lowP2 p) (upP2 o)).lo<(btw (lowP2 p) (upP2 o)).hi/\0<=gapT (lowP2 p) (upP2 o):=by
 unfold relP at h
 split at h
 ·omega
 ·rename_i h1
  split at h
  ·omega
  ·rename_i h2
   have a:=zlt hp ho h1 h2
   split at h
   ·rename_i h3
    exact⟨a,(zgT a).1 h3⟩
   ·split at h<;>omega
end
def dropP(g:LP)(ps:List Pl)(p:Pl):Int:=(dropR g ps p).floor
set_option linter.unusedSectionVars false
section
variable {g:LP} {ps:List Pl} {p:Pl} (h0:laidP g ps=0) (hp:placedOk p=true) (hh:holdsB g p=true) (hc:clearB g ps p=true)
include h0 hp hh hc
theorem zdR:(btw (lowP2 p) g).lo<(btw (lowP2 p) g).hi:=by
 have a:=zba hp;unfold holdsB at hh;simp only[Bool.and_eq_true,decide_eq_true_eq]at hh;unfold btw;dsimp only;omega
theorem zfW:∀t∈topsP g ps p,0<=gapT (lowP2 p) t:=by
 intro t b;unfold topsP at b
 rcases List.mem_cons.1 b with rfl|b
 ·refine(zgT (zdR h0 hp hh hc)).1 ?_
  unfold clearB at hc;rw[Bool.and_eq_true]at hc;exact hc.1
 ·obtain⟨o,ho,rfl⟩:=List.mem_map.1 b
  obtain⟨c,a⟩:=List.mem_filter.1 ho;rw[Bool.and_eq_true,beq_iff_eq]at a;exact(zfL hp ((zbW h0).1 o c) a.2).2
theorem zmV:0<=dropP g ps p:=by
 unfold dropP;rw[Rat.le_floor_iff];obtain⟨⟨t,a,e⟩,_⟩:=zdP (gapT (lowP2 p)) (l:=topsP g ps p) (by unfold topsP;simp);unfold dropR;rw[e,Rat.intCast_zero];exact zfW h0 hp hh hc t a
end
end
section
open Go.RowKit Go.Shelf Go.Sort
theorem h12:(0:Rat)<1 / 2:=by decide +kernel
end
section
open Go.RowKit Go.Shelf Go.Sort Go.Lib
attribute [local go_sem] Oper.semAt_some
theorem zjG{α:Type}(f:α->Rat)(xs:List α)(x:α)(h:xs≠[]):minG f (xs++[x])=if rcmp (f x) (minG f xs)<0 then f x else minG f xs:=by
 cases xs with
 | nil=>exact absurd rfl h
 | cons y a =>
  show (a++[x]).foldl _ (f y)=_
  rw[List.foldl_append];rfl
theorem Rb.gapT{l t:LP}(a:LnOk l)(b:LnOk t):Rb 23 (gapT l t):=by
 unfold Cop.gapT leastR;obtain⟨c,d⟩:=zaM (gapR (btw l t)) (zbs (btw l t));rw[d];exact Rb.gap (zas (zcf a b) _ c) (zcf a b)
theorem Rb.minG{α:Type}{f:α->Rat}{xs:List α}(h:∀x∈xs,Rb 23 (f x)):Rb 23 (minG f xs):=by
 by_cases h0:xs=[]
 ·subst h0
  exact Rb.int (n:=0) (by unfold Lm;have:=zap zbt 23;omega) dM
 ·obtain⟨⟨x,a,e⟩,_⟩:=zdP f h0
  rw[e];exact h x a
theorem ziP(w:World)(bx:Nat)(r u:Value)(l t:LP)(hb:w.cell? ⟨bx,10,Y⟩=V r)(n:IsPts w r l)(q:IsPts w u t)(Q:LnOk l)(T:LnOk t) :
  Calls Tryz.prog 57 #[u,.pointer (V ⟨bx,0,Y⟩)] w (RetR w (gapT l t)):=by
 have a:=hd9 (fun(W:World)(d:Ext w W)=>zbb W r u l t (n.ext' d) (q.ext' d) (List.length_pos_iff.2 Q.1) (List.length_pos_iff.2 T.1));have k:=hd9 (fun(W:World)(d:Ext w W)=>zcb W r u (btw l t) (n.ext' d) (q.ext' d) (zcf Q T));obtain⟨R,x⟩:=gX (RetR w (gapT l t));rw[x];have m:=hd9 x;have y:=World.block_lt_of_cell? _ _ hb;unfold gapT at m;obtain⟨s,hs⟩:=gX (btw l t);rw[hs]at a k m;obtain⟨a1,m1,rfl⟩:=n.form;obtain⟨a2,m2,rfl⟩:=q.form;obtain⟨n1,f1⟩:=gX l.length;obtain⟨n2,f2⟩:=gX t.length;obtain⟨lo,c⟩:=gX s.lo;obtain⟨hi,b⟩:=gX s.hi;obtain⟨o,eo⟩:=gX (leastR s);unfold RetBt at a;unfold spc at a k;simp only[f1,f2,c,b,eo]at a k m hb ⊢;clear n q Q T hs f1 f2 c b eo x;dsimp only at y;go_enter Tryz.func57,Tryz.ntmps57
 go_wp2_with(first|(go_at_call 58;(with_reducible refine(a.out _ ?_).mono ?_);exact eA;rintro e w3 ⟨rfl,i⟩;obtain⟨z,K⟩:=i.cells;(have z3:w.heap.size<w3.heap.size:=by have:=i.size;simp only[wZ]at this;omega);(have aa:w.heap.size<w3.heap.size+1:=oM))|(go_at_call 59;(with_reducible refine(k.out _ ?_).mono ?_);exact eA;rintro e w4 ⟨r4,r5,rfl,P,f,j⟩;obtain⟨a4,m4,c4,s4,b4,n4,k4,rfl⟩:=P.form;obtain⟨a5,m5,c5,s5,b5,n5,k5,rfl⟩:=f.form;obtain⟨D,L⟩:=j.cells;(have z4:w.heap.size<w4.heap.size:=by have:=j.size;simp only[wZ]at this;omega);(have ab:w.heap.size<w4.heap.size+1:=oM)))
 refine bR (v:=X #[O a5 m5 c5,Z s5,O b5 n5 k5]) (by simp[results,Tryz.results57,go_sem,z,K,D,L,z3,z4,aa,ab]) rfl ?_;rw[<-m.out];exact⟨_,rfl,f.keep kA,eA⟩
def LbS(w:World)(f:LP->Rat)(ts:List LP)(g:Nat)(d b:Value)(W:World):Prop:=
 ∃(i:Nat),i<=ts.length/\b = .int .i64 i/\g=ts.length-i/\(∃a n c,d=O a n c)/\Ext w W/\RB W w.heap.size 0/\RB W (w.heap.size+1) (minG f (ts.take i))
def RetLb(w:World)(q:Rat)(e:Ending)(w':World):Prop:=∃a n c r,e = .returned (.tuple #[O a n c,r])/\IsR w' r q/\Ext w w'
theorem zjy(w:World)(v:Value)(bx:Nat)(vl:Value)(l:LP)(ts:List LP)(hs:Sl 121 1 (PSl 121) w v ts)(hb:w.cell? ⟨bx,10,Y⟩=V vl)(h1:IsPts w vl l)(k1:LnOk l)(k2:∀t∈ts,LnOk t) :
  Calls Tryz.prog 56 #[v,.func (.func 57) #[] #[.pointer (V ⟨bx,0,Y⟩)]] w (RetLb w (minG (gapT l) ts)):=by
 obtain⟨a,c,rfl⟩:=hs.form;obtain⟨n,hn⟩:=gX ts.length;rw[hn]at hs ⊢;have aE:=hs.le;unfold maxLen at aE;have Hn:=hd9 hn;have ad:=hd9 (fun t (ht:t∈ts)=>Rb.gapT k1 (k2 t ht));have aL:n<=9223372036854775807:=oM
 have HG:=hd9 (fun(W:World)(hW:Ext w W)(vt:Value)(t:LP)(ht:IsPts W vt t)(hm:t∈ts)=>ziP W bx vl vt l t (hW.cellS hb) (h1.ext' hW) ht k1 (k2 t hm));obtain⟨R,hR⟩:=gX (RetLb w (minG (gapT l) ts));rw[hR];have HR:=hd9 hR;obtain⟨f,hf⟩:=gX (gapT l);rw[hf]at HG HR ad;clear hn aE hR hf h1 k1 k2 hb;go_enter Tryz.func56,Tryz.ntmps56;go_wp2
 go_loopg [6,13] n (LbS w f ts)
 case atStart =>
  have z:∀W,IsR W (X #[O Y 0 0,Z false,O Y 0 0]) 0:=fun W=>IsR.zero _
  exact⟨0,by omega,rfl,by rw[Hn.out];rfl,⟨_,_,_,rfl⟩,eA,(RB.new (z w) rfl).ext ((eR _).alloc _),RB.new (z _) sM⟩
 case round =>
  obtain⟨i,hi,rfl,rfl,⟨xa,xn,xc,rfl⟩,hx,hA,hB⟩:=hrel;rw[Hn.out]at hi;have Hx:=hd9 hx;have HA:=hd9 hA;have HB:=hd9 hB
  by_cases aI:i<n
  ·obtain⟨t,ah⟩:∃t,ts[i]?=V t:=⟨ts[i]'(by rw[Hn.out];omega),by simp[Hn.out,aI]⟩
   obtain⟨b,o,d,rfl,aJ,aK,⟨vt,rfl,ak⟩,hc⟩:=Sl.at (Sl.ext hs (fun _ _ h=>by obtain⟨v,e,h⟩:=h;exact⟨v,e,h.ext' hx⟩) hx) ah;have e0:=hc 0 _ rfl;rw[Nat.mul_one,Nat.add_zero]at e0;obtain⟨ta,tn,tc,rfl⟩:=form3 ak;have Hm:=hd9 (lM ah);have aj:=hd9 ak;have aq:=hd9 ah;have aG:=hd9 (ad.out t Hm.out);have zB:w.heap.size+1<wr.heap.size:=by obtain⟨_,_,_,_,_,_,_,_,_,_,_,_,_,z,_⟩:=hB.rd;exact z
   obtain⟨d1,dm,dc,ds,d2,aA,aw,ar,au,av,ax,ay,az,zD,ai⟩:=hB.rd;clear ah hA hB hx ak hc
   by_cases h0:i=0
   ·have aH:((i:Int)==0)=true:=by simp;omega
    have H0:=hd9 h0;clear h0
    go_wp2_with((go_at_call 57;(with_reducible refine(HG.out _ Hx.out (O ta tn tc) t aj.out Hm.out).mono ?_);rintro e w1 ⟨r1,rfl,r,m⟩;obtain⟨b1,n1,k1,t1,b2,n2,k2,rfl⟩:=r.form;obtain⟨af,ag⟩:=m.cells;(have z1:w.heap.size+1<w1.heap.size:=by have:=m.size;omega)))
    have E:Hid (minG f (ts.take (i+1))=f t):=hd9 (by
     have:=H0.out;subst this;rw[zab _ _ _ aq.out];simp[minG])
    have j:Ext wr (w1.alloc (.cells #[O b1 n1 k1,Z t1,O b2 n2 k2] 63)):=m.alloc _;obtain⟨W8,aa⟩:=gX ((w1.alloc (.cells #[O b1 n1 k1,Z t1,O b2 n2 k2] 63)));have g1:RB W8 w1.heap.size (f t):=by rw[<-aa];exact RB.new r rfl
    rw[aa]at j ⊢;have g2:=HB.out.ext j;have zW:=j.size;obtain⟨s1,ae⟩:=gX w1.heap.size;simp only[ae]at *;have zs:w.heap.size+1<s1:=z1;clear aa af ag r m ai ar au av ax ay az ae e0;obtain⟨pa,pm,u,ps,s,L,y,p0,p1,p2,_,_,_,pz,hp⟩:=(g1).rd;obtain⟨_,_,_,_,_,_,_,x0,x1,x2,al,am,an,xz,_⟩:=(g2).rd;refine wp_region_held_drew (S:=CellL [(⟨s1,0,Y⟩,O pa pm u),(⟨s1,1,Y⟩,Z ps),(⟨s1,2,Y⟩,O s L y)]) kM cA (fun Q=>?_);refine sN 0 ?_
    iterate 3
     refine tkn ?_
    refine oN ?_
    have T:∀q∈[((⟨s1,0,Y⟩:Addr),Value.slice pa pm u),(⟨s1,1,Y⟩,Z ps),(⟨s1,2,Y⟩,O s L y)],w.heap.size+1≠q.1.block:=by
     intro q hq;simp at hq
     rcases hq with rfl|rfl|rfl<;>(dsimp only;omega)
    refine cl1 (i:=3) fun K hK=>?_
    go_simp;refine kO hK (CellL.set3d Q T _ _ _) (fun Q=>?_);clear hK K;refine wpAnyH_done kM ?_ _;have ac:=hd9 j;have P:=hd9 (RB.put3 g2 hp rfl);clear j g1 g2;go_wp2
    go_roundg (n-(i+1))
    case measure=>have:=Hn.out;omega
    case rel =>
     obtain⟨P1,P2,P3,P4,P5⟩:=P.out;have D:=fun W=>(eR W).drew
     exact⟨i+1,by rw[Hn.out];omega,by go_num,by rw[Hn.out],⟨_,_,_,rfl⟩,(P5 w (Hx.out.trans ac.out) oM).drew,
      (P2 _ _ oM (HA.out.ext ac.out)).ext (D _),by rw[E.out];exact P1.ext (D _)⟩
   ·have aH:((i:Int)==0)=false:=by simp;omega
    have aF:ts.take i≠[]:=fun h=>by
     have h2:(ts.take i).length=0:=by rw[h];rfl
     rw[List.length_take,Hn.out]at h2;omega
    have e9:minG f (ts.take (i+1))=if rcmp (f t) (minG f (ts.take i))<0 then f t else minG f (ts.take i):=by
     rw[zab _ _ _ aq.out,zjG _ _ _ aF]
    have ao:=hd9 (zat aG.out oM);have ap:=hd9 (zat (Rb.minG (f:=f) (xs:=ts.take i) fun x hx=>ad.out x (List.mem_of_mem_take hx)) oM);obtain⟨k,hk⟩:=gX (rcmp (f t) (minG f (ts.take i)));rw[hk]at e9;have Hk:=hd9 hk;clear h0 aF hk
    by_cases aD:k<0
    ·rw[if_pos aD]at e9
     have E:=hd9 e9;clear e9
     go_wp2_with(first|(go_at_call 57;(with_reducible refine(HG.out _ Hx.out (O ta tn tc) t aj.out Hm.out).mono ?_);rintro e w1 ⟨r1,rfl,r,m⟩;obtain⟨b1,n1,k1,t1,b2,n2,k2,rfl⟩:=r.form;obtain⟨af,ag⟩:=m.cells;(have z1:w.heap.size+1<w1.heap.size:=by have:=m.size;omega))|(go_at_call 75;(with_reducible refine(zaE _ (X #[O b1 n1 k1,Z t1,O b2 n2 k2]) (X #[O d1 dm dc,Z ds,O d2 aA aw]) _ _ (r.ext ?_) (ai.ext ?_) ao.out ap.out).mono ?_);exact eA;exact eA;rintro e w3 ⟨rfl,ab⟩;(try rw[Hk.out]);obtain⟨aB,aC⟩:=ab.cells))
     have j:Ext wr (w3):=(m.alloc _).trans ab;obtain⟨W8,aa⟩:=gX ((w3));have g1:RB W8 w1.heap.size (f t):=by rw[<-aa];exact(RB.new r rfl).ext ab
     rw[aa]at j ⊢;have g2:=HB.out.ext j;have zW:=j.size;obtain⟨s1,ae⟩:=gX w1.heap.size;simp only[ae]at *;have zs:w.heap.size+1<s1:=z1;clear aa af ag r m ai ar au av ax ay az ae e0 ab aB aC;obtain⟨pa,pm,u,ps,s,L,y,p0,p1,p2,_,_,_,pz,hp⟩:=(g1).rd;obtain⟨_,_,_,_,_,_,_,x0,x1,x2,al,am,an,xz,_⟩:=(g2).rd;refine wp_region_held_drew (S:=CellL [(⟨s1,0,Y⟩,O pa pm u),(⟨s1,1,Y⟩,Z ps),(⟨s1,2,Y⟩,O s L y)]) kM cA (fun Q=>?_);refine sN 0 ?_
     iterate 3
      refine tkn ?_
     refine oN ?_
     have T:∀q∈[((⟨s1,0,Y⟩:Addr),Value.slice pa pm u),(⟨s1,1,Y⟩,Z ps),(⟨s1,2,Y⟩,O s L y)],w.heap.size+1≠q.1.block:=by
      intro q hq;simp at hq
      rcases hq with rfl|rfl|rfl<;>(dsimp only;omega)
     refine cl1 (i:=3) fun K hK=>?_
     go_simp;refine kO hK (CellL.set3d Q T _ _ _) (fun Q=>?_);clear hK K;refine wpAnyH_done kM ?_ _;have ac:=hd9 j;have P:=hd9 (RB.put3 g2 hp rfl);clear j g1 g2;go_wp2
     go_roundg (n-(i+1))
     case measure=>have:=Hn.out;omega
     case rel =>
      obtain⟨P1,P2,P3,P4,P5⟩:=P.out;have D:=fun W=>(eR W).drew
      exact⟨i+1,by rw[Hn.out];omega,by go_num,by rw[Hn.out],⟨_,_,_,rfl⟩,(P5 w (Hx.out.trans ac.out) oM).drew,
       (P2 _ _ oM (HA.out.ext ac.out)).ext (D _),by rw[E.out];exact P1.ext (D _)⟩
    ·rw[if_neg aD]at e9
     have E:=hd9 e9;clear e9
     go_wp2_with(first|(go_at_call 57;(with_reducible refine(HG.out _ Hx.out (O ta tn tc) t aj.out Hm.out).mono ?_);rintro e w1 ⟨r1,rfl,r,m⟩;obtain⟨b1,n1,k1,t1,b2,n2,k2,rfl⟩:=r.form;obtain⟨af,ag⟩:=m.cells;(have z1:w.heap.size+1<w1.heap.size:=by have:=m.size;omega))|(go_at_call 75;(with_reducible refine(zaE _ (X #[O b1 n1 k1,Z t1,O b2 n2 k2]) (X #[O d1 dm dc,Z ds,O d2 aA aw]) _ _ (r.ext ?_) (ai.ext ?_) ao.out ap.out).mono ?_);exact eA;exact eA;rintro e w3 ⟨rfl,ab⟩;(try rw[Hk.out]);obtain⟨aB,aC⟩:=ab.cells))
     have j:Ext wr w3:=(m.alloc _).trans ab
     go_roundg (n-(i+1))
     case measure=>have:=Hn.out;omega
     case rel=>exact⟨i+1,by rw[Hn.out];omega,by go_num,by rw[Hn.out],⟨_,_,_,rfl⟩,Hx.out.trans j,HA.out.ext j,by rw[E.out];exact HB.out.ext j⟩
  ·obtain rfl:i=n:=oM
   have e:ts.take i=ts:=lT (by rw[Hn.out];exact nE _);rw[e]at hB HB;clear e;have zW:=hx.size;have zD:w.heap.size+1<wr.heap.size:=by obtain⟨_,_,_,_,_,_,_,_,_,_,_,_,_,z,_⟩:=hB.rd;exact z
   go_wp2;obtain⟨pa,pm,u,ps,s,L,y,p0,p1,p2,_,_,_,pz,hp⟩:=(hB).rd;obtain⟨_,_,_,_,_,_,_,x0,x1,x2,al,am,an,xz,_⟩:=(hA).rd;refine wp_region_held_drew (S:=CellL [(⟨w.heap.size+1,0,Y⟩,O pa pm u),(⟨w.heap.size+1,1,Y⟩,Z ps),(⟨w.heap.size+1,2,Y⟩,O s L y)]) kM cA (fun Q=>?_);refine sN 0 ?_
   iterate 3
    refine tkn ?_
   refine oN ?_
   have T:∀q∈[((⟨w.heap.size+1,0,Y⟩:Addr),Value.slice pa pm u),(⟨w.heap.size+1,1,Y⟩,Z ps),(⟨w.heap.size+1,2,Y⟩,O s L y)],w.heap.size≠q.1.block:=by
    intro q hq;simp at hq
    rcases hq with rfl|rfl|rfl<;>(dsimp only;omega)
   refine cl1 (i:=3) fun K hK=>?_
   go_simp;refine kO hK (CellL.set3d Q T _ _ _) (fun Q=>?_);clear hK K;refine wpAnyH_done kM ?_ _;have P:=hd9 (RB.put3 hA hp rfl);go_wp2;refine bR (v:=.tuple #[O xa xn xc,X #[O pa pm u,Z ps,O s L y]]) (by simp[results,Tryz.results56,go_sem,x0,x1,x2,al,am,an]) rfl ?_;rw[<-HR.out];obtain⟨P1,P2,P3,P4,P5⟩:=P.out;exact⟨_,_,_,_,rfl,(hp.keep P3).ext (eR _).drew,(P5 w Hx.out oM).drew⟩
end
section
open Go.RowKit Go.Shelf Go.Sort
theorem zgj{g:LP}(h:groundB g=true):Rise g:=by
 unfold groundB at h;rw[Bool.and_eq_true,List.all_eq_true]at h;obtain⟨n,f⟩:=h
 have c:∀i,(hi:i+1<g.length)->g[i].1<g[i+1].1:=fun i hi=>by
  have a:=f (i+1) (List.mem_range.2 hi);unfold grdR at a;rw[Nat.add_sub_cancel,gD,gE hi,Option.getD_some,gD,gE oM,Option.getD_some]at a;simp only[Bool.and_eq_true,Bool.or_eq_true,beq_iff_eq,decide_eq_true_eq]at a
  rcases a.2.2 with b|b
  ·omega
  ·exact b
 unfold Rise;rw[List.pairwise_iff_getElem];intro i j hi l k;obtain⟨d,rfl⟩:∃d,j=i+d+1:=⟨j-i-1,by omega⟩
 induction d with
 | zero=>exact c i l
 | succ d m =>
  have:=m oM oM;have:=c (i+d+1) oM
  show g[i].1<g[i+(d+1)+1].1
  have e:i+(d+1)+1=i+d+1+1:=oM
  simp only[e];omega
theorem znS{l:LP}(m:Rise l)(x:LnOk l)(D:lineL l<lineR l){z:Int}(h1:lineL l<=z)(h2:z<=lineR l):((-104000:Int):Rat)<=atR l (z:Rat)/\atR l (z:Rat)<=((104000:Int):Rat):=by
 obtain⟨Q,e,_⟩:=x
 obtain⟨k,L,P,k3,k4⟩:∃k,lineL l<=k/\k<lineR l/\k<=z/\z<=k+1:=by
  by_cases c:z=lineR l
  ·exact⟨z-1,by omega,by omega,by omega,by omega⟩
  ·exact⟨z,by omega,by omega,by omega,by omega⟩
 obtain⟨⟨a,b⟩,f,t,u,_⟩:=zm5 Q L P;obtain⟨i,j,d,_⟩:=m.between f;dsimp only at t u i j d;have v:=e a i;have w:=e b j;unfold Bd at v w;have R:((a.1:Int):Rat)<=(z:Rat):=Rat.intCast_le_intCast.2 oM;have T:(z:Rat)<=((b.1:Int):Rat):=Rat.intCast_le_intCast.2 oM;rw[zoK m f R T];have s:=zfd (a,b) (a.1:Rat) (b.1:Rat) (z:Rat);rw[zgJ,zfc a b d]at s
 have n:(0:Rat)<((b.1:Int):Rat)-((a.1:Int):Rat):=by
  have:=Rat.intCast_lt_intCast.2 d
  grind
 obtain⟨y,K⟩:=gX (atE (z:Rat) (a,b));rw[K]at s ⊢;have W:((-104000:Int):Rat)<=((a.2:Int):Rat):=Rat.intCast_le_intCast.2 oM;have u2:((a.2:Int):Rat)<=((104000:Int):Rat):=Rat.intCast_le_intCast.2 oM;have u3:((-104000:Int):Rat)<=((b.2:Int):Rat):=Rat.intCast_le_intCast.2 oM;have u4:((b.2:Int):Rat)<=((104000:Int):Rat):=Rat.intCast_le_intCast.2 oM;have q:0<=((b.1:Int):Rat)-(z:Rat):=by grind
 have r:0<=(z:Rat)-((a.1:Int):Rat):=by grind
 have v1:=Rat.mul_le_mul_of_nonneg_left W q;have v2:=Rat.mul_le_mul_of_nonneg_left u2 q;have v3:=Rat.mul_le_mul_of_nonneg_left u3 r;have v4:=Rat.mul_le_mul_of_nonneg_left u4 r;refine⟨Rat.not_lt.1 fun h=>?_,Rat.not_lt.1 fun h=>?_⟩
 ·have:=Rat.mul_lt_mul_of_pos_left h n
  grind
 ·have:=Rat.mul_lt_mul_of_pos_left h n
  grind
theorem zi1{l t:LP}(n:Rise l)(q:Rise t)(i:LnOk l)(k:LnOk t)(ho:(btw l t).lo<(btw l t).hi):gapT l t<=((208000:Int):Rat):=by
 unfold gapT leastR;obtain⟨j,f⟩:=zaM (gapR (btw l t)) (zbs (btw l t));obtain⟨z,m,e⟩:=List.mem_map.1 j;have c:=zlM ho m;rw[f,<-e];unfold btw at ho c;dsimp only at ho c;have a:=znS n i oM (z:=z) oM oM;have b:=znS q k oM (z:=z) oM oM;unfold gapR btw;dsimp only;have d:((208000:Int):Rat)=((104000:Int):Rat)-((-104000:Int):Rat):=by rw[<-Rat.intCast_sub];rfl
 rw[d]
 grind
theorem zmT{g:LP}{ps:List Pl}{p:Pl}(h0:laidP g ps=0)(hp:placedOk p=true)(hh:holdsB g p=true)(hc:clearB g ps p=true):0<=dropR g ps p/\0<=dropP g ps p/\dropP g ps p<=208000:=by
 obtain⟨b,_,f⟩:=zbW h0;obtain⟨⟨t,d,e⟩,_⟩:=zdP (gapT (lowP2 p)) (l:=topsP g ps p) (by unfold topsP;simp);have j:=zfW h0 hp hh hc t d
 have k:gapT (lowP2 p) t<=((208000:Int):Rat):=by
  unfold topsP at d
  rcases List.mem_cons.1 d with i|d
  ·rw[i]
   exact zi1 (zbp hp).1 (zgj f) (zao hp).1 (zby f) (zdR h0 hp hh hc)
  ·obtain⟨o,ho,rfl⟩:=List.mem_map.1 d
   obtain⟨a,c⟩:=List.mem_filter.1 ho;rw[Bool.and_eq_true,beq_iff_eq]at c;exact zi1 (zbp hp).1 (zcT (b o a)).1 (zao hp).1 (zao (b o a)).2 (zfL hp (b o a) c.2).1
 refine⟨by unfold dropR;rw[e];exact j,zmV h0 hp hh hc,?_⟩;have m:=Rat.floor_le (dropR g ps p);have n:((dropP g ps p:Int):Rat)<=((208000:Int):Rat):=Rat.le_trans m (by unfold dropR;rw[e];exact k);exact Rat.intCast_le_intCast.1 n
end
section
open Go.RowKit Go.Shelf Go.Sort Go.Lib
def exA:Pl:=brickP ⟨#[97]⟩ 0 0
def exB:Pl:=brickP ⟨#[98]⟩ 200 0
def exC:Pl:=brickP ⟨#[99]⟩ 100 80
def exD:Pl:=brickP ⟨#[100]⟩ 50 300
theorem zdM:lowP2 exA=[(0,0),(0+200,0)]:=by
 unfold exA lowP2 lineOf;rw[show lowRaw (cornersP (brickP ⟨#[97]⟩ 0 0)) (cornersP (brickP ⟨#[97]⟩ 0 0)).length=[(0,0),(0+200,0)] by decide,zbr (List.Perm.refl _) dM dM]
 decide
theorem zhw:upP2 exA=[(0,0+80),(0+200,0+80)]:=by
 unfold exA upP2 lineOf;rw[show upRaw (cornersP (brickP ⟨#[97]⟩ 0 0)) (cornersP (brickP ⟨#[97]⟩ 0 0)).length=[(0+200,0+80),(0,0+80)] by decide,zbr (List.Perm.swap _ _ _) dM dM]
 decide
theorem zms:placedOk exA=true:=by decide +kernel
theorem zdN:lowP2 exB=[(200,0),(200+200,0)]:=by
 unfold exB lowP2 lineOf;rw[show lowRaw (cornersP (brickP ⟨#[98]⟩ 200 0)) (cornersP (brickP ⟨#[98]⟩ 200 0)).length=[(200,0),(200+200,0)] by decide,zbr (List.Perm.refl _) dM dM]
 decide
theorem zhx:upP2 exB=[(200,0+80),(200+200,0+80)]:=by
 unfold exB upP2 lineOf;rw[show upRaw (cornersP (brickP ⟨#[98]⟩ 200 0)) (cornersP (brickP ⟨#[98]⟩ 200 0)).length=[(200+200,0+80),(200,0+80)] by decide,zbr (List.Perm.swap _ _ _) dM dM]
 decide
theorem zmt:placedOk exB=true:=by decide +kernel
theorem zeU:lowP2 exC=[(100,80),(100+200,80)]:=by
 unfold exC lowP2 lineOf;rw[show lowRaw (cornersP (brickP ⟨#[99]⟩ 100 80)) (cornersP (brickP ⟨#[99]⟩ 100 80)).length=[(100,80),(100+200,80)] by decide,zbr (List.Perm.refl _) dM dM]
 decide
theorem zhy:upP2 exC=[(100,80+80),(100+200,80+80)]:=by
 unfold exC upP2 lineOf;rw[show upRaw (cornersP (brickP ⟨#[99]⟩ 100 80)) (cornersP (brickP ⟨#[99]⟩ 100 80)).length=[(100+200,80+80),(100,80+80)] by decide,zbr (List.Perm.swap _ _ _) dM dM]
 decide
theorem zjC:lowP2 exD=[(50,300),(50+200,300)]:=by
 unfold exD lowP2 lineOf;rw[show lowRaw (cornersP (brickP ⟨#[100]⟩ 50 300)) (cornersP (brickP ⟨#[100]⟩ 50 300)).length=[(50,300),(50+200,300)] by decide,zbr (List.Perm.refl _) dM dM]
 decide
theorem zmx:upP2 exD=[(50,300+80),(50+200,300+80)]:=by
 unfold exD upP2 lineOf;rw[show upRaw (cornersP (brickP ⟨#[100]⟩ 50 300)) (cornersP (brickP ⟨#[100]⟩ 50 300)).length=[(50+200,300+80),(50,300+80)] by decide,zbr (List.Perm.swap _ _ _) dM dM]
 decide
theorem zol:placedOk exD=true:=by decide +kernel
theorem zos:relP exA exB=1:=by
 unfold relP;rw[zdM,zdN]
 decide
def ex3:List Pl:=[exA,exB,exC]
theorem zeR:laidP exG ex3=0:=by
 unfold ex3 laidP;simp only[laid1,laid2,addE,clearB,clashB,List.any_cons,List.any_nil,List.nil_append,List.cons_append,relP,freeB,leastR,stopsR,stopsZ,zcz,holdsB,zdM,zdN,zeU,zhw,zhx,zhy]
 decide +kernel
theorem zmU:dropP exG ex3 exD=140:=by
 unfold dropP dropR topsP ex3;simp only[List.filter,List.map_cons,List.map_nil,minG,List.foldl_cons,List.foldl_nil,gapT,relP,freeB,leastR,stopsR,stopsZ,zcz,zdM,zdN,zeU,zjC,zhw,zhx,zhy,zmx]
 decide +kernel
instance:DecidableEq Be:=fun⟨a,b,c,d,e,f,g⟩ ⟨a',b',c',d',e',f',g'⟩=>decidable_of_iff (a=a'/\b=b'/\c=c'/\d=d'/\e=e'/\f=f'/\g=g') sM
theorem zmL:bedsN exG ex3 2 exC 0 4=[⟨0,100,80,200,80,(1,0),(1,0)⟩,⟨1,200,80,300,80,(1,0),(1,0)⟩]:=by
 unfold bedsN ex3;simp only[bedAt,bedO,reachP,reachNo,leastR,stopsR,stopsZ,zcz,zdM,zdN,zeU,zhw,zhx,zhy]
 decide +kernel
theorem znD:textV 100 80=[40,49,48,48,44,32,56,48,41]:=by decide +kernel
end
section
open Go.RowKit Go.Shelf Go.Sort Go.Lib
attribute [local go_sem] Oper.semAt_some
theorem za9(w:World)(f:ByteArray)(x z:Int):Calls Tryz.prog 46 #[.string f,.int .i64 x,.int .i64 z] w fun e i=>∃v,e = .returned (X (plc (brickP f x z) v))/\IsPts i v brickS/\Ext w i:=by
 go_enter Tryz.func46,Tryz.ntmps46
 go_wp2_with(go_at_call 123;(with_reducible refine(zhL _).mono ?_);rintro e j ⟨s,rfl,a,b⟩;obtain⟨k,m,l,rfl⟩:=form3 a;obtain⟨c,d⟩:=b.cells;(have r:=b.size);(simp only[wZ]at r);(have n:w.heap.size<j.heap.size:=oM);(have q:¬w.heap.size=j.heap.size:=oM))
 refine bR (v:=X (plc (brickP f x z) (O k m l))) (by simp[results,Tryz.results46,go_sem,plc,brickP,c,d,n,q]) rfl ⟨_,rfl,?_,eA⟩;exact a.keep' kA
theorem zk8(w:World):Calls Tryz.prog 124 #[] w fun e a=>∃v,e = .returned v/\IsPts a v exG/\Ext w a:=by
 go_enter Tryz.func124,Tryz.ntmps124;go_wp2;go_ret;exact⟨_,rfl,zj0 _ rfl exG dM,eA⟩
theorem zfU(w:World):Calls Tryz.prog 47 #[] w fun e w'=>∃vg vp,e = .returned (X #[vg,vp])/\IsPts w' vg exG/\IsPls w' vp ex3/\Ext w w':=by
 go_enter Tryz.func47,Tryz.ntmps47
 go_wp2_with(first|(go_at_call 124;(with_reducible refine(zk8 _).mono ?_);rintro e w1 ⟨v1,rfl,r,j⟩;obtain⟨m,y,n,rfl⟩:=form3 r;obtain⟨P,W⟩:=j.cells;(have z1:w.heap.size<w1.heap.size:=by have:=j.size;simp only[wZ]at this;omega))|(go_at_call 46;(with_reducible refine(za9 _ ⟨#[97]⟩ 0 0).mono ?_);rintro e w2 ⟨v2,rfl,s,d⟩;obtain⟨a2,n2,c2,rfl⟩:=form3 s;obtain⟨Q,aa⟩:=d.cells;(have z2:w.heap.size<w2.heap.size:=by have:=d.size;omega);(unfold plc brickP);dsimp only)|(go_at_call 46;(with_reducible refine(za9 _ ⟨#[98]⟩ 200 0).mono ?_);rintro e w3 ⟨v3,rfl,t,c⟩;obtain⟨a3,n3,c3,rfl⟩:=form3 t;obtain⟨R,ab⟩:=c.cells;(have z3:w.heap.size<w3.heap.size:=by have:=c.size;omega);(unfold plc brickP);dsimp only)|(go_at_call 46;(with_reducible refine(za9 _ ⟨#[99]⟩ 100 80).mono ?_);rintro e f ⟨v4,rfl,x,a⟩;obtain⟨a4,n4,c4,rfl⟩:=form3 x;obtain⟨T,ac⟩:=a.cells;(have z4:w.heap.size<f.heap.size:=by have:=a.size;omega);(unfold plc brickP);dsimp only))
 have K1:=j.heapS (aN w (.cells #[O Y 0 0,O Y 0 0] 41));have K:=a.heapS (c.heapS (d.heapS K1));obtain⟨l,b⟩:=gX ((f.setCell ⟨w.heap.size,0,Y⟩ (O m y n)).setCell ⟨w.heap.size,1,Y⟩ (O (V ⟨f.heap.size,0,Y⟩) 3 3))
 have z:KeepT 43 f l:=by
  rw[<-b];have h1:=(KeepT.refl 43 f).set (p:=⟨w.heap.size,0,Y⟩) K dM (O m y n);exact h1.set (p:=⟨w.heap.size,1,Y⟩) (zbc K 0 _) dM _
 have hz:l.heap.size=f.heap.size:=by rw[<-b];simp only[qcZ]
 have L:l.heap[w.heap.size]?=V (.cells #[O m y n,O (V ⟨f.heap.size,0,Y⟩) 3 3] 41 (0,0)):=by
  rw[<-b];exact zbc (zbc K 0 _) 1 _
 have hX:Ext w l:=by
  rw[<-b];exact(Ext.set (Ext.set (((((eR w).alloc _).trans j).trans d).trans c |>.trans a) (nE _) _) (nE _) _)
 rw[b];clear b P W Q aa R ab T ac;have b0:=qcB L (i:=0) (u:=O m y n) rfl;have b1:=qcB L (i:=1) (u:=O (V ⟨f.heap.size,0,Y⟩) 3 3) rfl;have bz:=zaa L
 have D:=zjS l (k:=f.heap.size) (base:=w.heap.size) hz.symm oM [(brickP ⟨#[97]⟩ 0 0,O a2 n2 c2),(brickP ⟨#[98]⟩ 200 0,O a3 n3 c3),(brickP ⟨#[99]⟩ 100 80,O a4 n4 c4)] (by
  intro q D;simp only[List.mem_cons,List.not_mem_nil,or_false]at D
  rcases D with rfl|rfl|rfl
  ·exact⟨((s.ext' c).ext' a).keep' z,by unfold brickP;dsimp only;omega⟩
  ·exact⟨(t.ext' a).keep' z,by unfold brickP;dsimp only;omega⟩
  ·exact⟨x.keep' z,by unfold brickP;dsimp only;omega⟩) sM
 refine bR (v:=X #[O m y n,O (V ⟨f.heap.size,0,Y⟩) 3 3]) (by simp[results,Tryz.results47,go_sem,b0,b1,bz]) rfl ⟨_,_,rfl,?_,?_,hX.alloc _⟩
 ·exact((((r.ext' d).ext' c).ext' a).keep' z).ext' ((eR _).alloc _)
 ·exact D.pls
end
end Go.Proofs.YtjnjpagegkcgfaaGreatDoor.Cop
