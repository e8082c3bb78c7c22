import Derived.Test.YtjnjpagegkcgfaaGreatDoorCoqA11
import Derived.Test.YtjnjpagegkcgfaaGreatDoorCoqA16
set_option maxRecDepth 1000000
set_option maxHeartbeats 16000000
set_option linter.all false
open Go.Value renaming slice->O,bool->Z,agg->I
open Option renaming none->Y,some->V
open Go renaming World->X
namespace Go.Proofs.YtjnjpagegkcgfaaGreatDoor.Cop
section
open Go.RowKit Go.Shelf Go.Sort Go.Lib
attribute [local go_sem] Oper.semAt_some
def mN{α} f xs(x:α)(h:xs≠[]):Bg f (xs++[x])=if yb (f x) (Bg f xs)<0 then f x else Bg f xs:=by
 cases xs with
 | nil=>exact absurd rfl h
 | cons y a =>
  show (a++[x]).foldl _ (f y)=_;rw[List.foldl_append];rfl
def Rb.gapT{l t}(a:Wb l)(b:Wb t):Rb 23 (Yf l t):=by unfold Cop.Yf Na;obtain⟨c,d⟩:=Ak (Tb (Ac l t)) (Al (Ac l t));rw[d];exact Rb.gap (Wj (Mm a b) _ c) (Mm a b)
def Rb.minG{α f}{xs:List α}(h:∀x∈xs,Rb 23 (f x)):Rb 23 (Bg f xs):=by
 by_cases a:xs=[]
 ·subst a;exact Rb.int (n:=0) (by unfold Lm;have:=jj Pn 23;omega) dM
 ·obtain⟨⟨x,b,e⟩,_⟩:=Xq f a;rw[e];exact h x b
def Pv w bx r u l t(hb:w.cell? ⟨bx,10,Y⟩=V r)(m:Fa w r l)(n:Fa w u t)(k1:Wb l)(k2:Wb t):Calls Tryz.prog 57 #[u,.pointer (V ⟨bx,0,Y⟩)] w (Nd w (Yf l t)):=by have a:=ka (fun(W:X)(d:Aa w W)=>Uo W r u l t (m.f d) (n.f d) (List.length_pos_iff.2 k1.1) (List.length_pos_iff.2 k2.1));have j:=ka (fun(W:X)(d:Aa w W)=>Qr W r u (Ac l t) (m.f d) (n.f d) (Mm k1 k2));obtain⟨R,x⟩:=gX (Nd w (Yf l t));rw[x];have k:=ka x;have y:=World.block_lt_of_cell? _ _ hb;unfold Yf at k;obtain⟨s,hs⟩:=gX (Ac l t);rw[hs]at a j k;obtain⟨a1,m1,rfl⟩:=m.form;obtain⟨a2,m2,rfl⟩:=n.form;obtain⟨n1,f1⟩:=gX l.length;obtain⟨n2,f2⟩:=gX t.length;obtain⟨lo,c⟩:=gX s.lo;obtain⟨hi,b⟩:=gX s.hi;obtain⟨o,eo⟩:=gX (Na s);unfold Zi at a;unfold ni at a j;simp only[f1,f2,c,b,eo]at a j k hb ⊢;clear m n k1 k2 hs f1 f2 c b eo x;dsimp only at y;go_in;go_wp2_with(first|(go_at_call 58;refine cM (a.o _ eA) ?_;rintro e w3 ⟨rfl,g⟩;obtain⟨z,P⟩:=g.cells;(have z3:w.heap.size<w3.heap.size:=by have:=g.size;simp only[wZ]at this;omega);(have ac:w.heap.size<w3.heap.size+1:=oM))|(go_at_call 59;refine cM (j.o _ eA) ?_;rintro e w4 ⟨r4,r5,rfl,ab,f,i⟩;obtain⟨a4,m4,c4,s4,b4,n4,k4,rfl⟩:=ab.form;obtain⟨a5,m5,c5,s5,b5,n5,k5,rfl⟩:=f.form;obtain⟨K,aa⟩:=i.cells;(have z4:w.heap.size<w4.heap.size:=by have:=i.size;simp only[wZ]at this;omega);(have ad:w.heap.size<w4.heap.size+1:=oM)));refine bR (v:=I #[O a5 m5 c5,Z s5,O b5 n5 k5]) (by simp[results,Tryz.results57,go_sem,z,P,K,aa,z3,z4,ac,ad]) rfl ?_;rw[<-k.o];exact⟨_,rfl,f.keep kA,eA⟩
def NR(w:X)(f:LP->Rat)(ts:List LP)(g:Nat)(d b:Value)(W:X):Prop:=
 ∃(i:Nat),i<=ts.length/\b = .int .i64 i/\g=ts.length-i/\(∃a n c,d=O a n c)/\Aa w W/\RB W w.heap.size 0/\RB W (w.heap.size+1) (Bg f (ts.take i))
def xo(w:X)(q:Rat)(e:Ending)(w':X):Prop:=∃a n c r,e=.returned (.tuple #[O a n c,r])/\Sa w' r q/\Aa w w'
def AM w v bx vl l ts(hs:Sl 121 1 (gj 121) w v ts)(hb:w.cell? ⟨bx,10,Y⟩=V vl)(h1:Fa w vl l)(k1:Wb l)(k2:∀t∈ts,Wb t):Calls Tryz.prog 56 #[v,.func (.func 57) #[] #[.pointer (V ⟨bx,0,Y⟩)]] w (xo w (Bg (Yf l) ts)):=by
 obtain⟨a,c,rfl⟩:=hs.form;obtain⟨n,hn⟩:=gX ts.length;rw[hn]at hs ⊢;have aG:=hs.le;unfold maxLen at aG;have Hn:=ka hn;have af:=ka (fun t (ht:t∈ts)=>Rb.gapT k1 (k2 t ht));have aO:n<=9223372036854775807:=oM;have HG:=ka (fun(W:X)(hW:Aa w W)(vt:Value)(t:LP)(ht:Fa W vt t)(hm:t∈ts)=>Pv W bx vl vt l t (hW.d hb) (h1.f hW) ht k1 (k2 t hm));obtain⟨R,hR⟩:=gX (xo w (Bg (Yf l) ts));rw[hR];have HR:=ka hR;obtain⟨f,hf⟩:=gX (Yf l);rw[hf]at HG HR af;clear hn aG hR hf h1 k1 k2 hb;go_in;go_wp2;go_loopg [6,13] n (NR w f ts)
 case atStart =>
  have z:∀W,Sa W (I #[O Y 0 0,Z false,O Y 0 0]) 0:=fun W=>Sa.zero _;exact⟨0,by omega,rfl,by rw[Hn.o];rfl,⟨_,_,_,rfl⟩,eA,(RB.new (z w) rfl).ext ((eR _).alloc _),RB.new (z _) sM⟩
 case round =>
  obtain⟨i,hi,rfl,rfl,⟨xa,xn,xc,rfl⟩,hx,hA,hB⟩:=hrel;rw[Hn.o]at hi;have Hx:=ka hx;have HA:=ka hA;have HB:=ka hB;by_cases aK:i<n
  ·obtain⟨t,aj⟩:∃t,ts[i]?=V t:=⟨ts[i]'(by rw[Hn.o];omega),by simp[Hn.o,aK]⟩;obtain⟨b,o,d,rfl,aL,aM,⟨vt,rfl,am⟩,hc⟩:=Sl.at (Sl.ext hs (fun _ _ h=>by obtain⟨v,e,h⟩:=h;exact⟨v,e,h.f hx⟩) hx) aj;have e0:=hc 0 _ rfl;rw[Nat.mul_one,Nat.add_zero]at e0;obtain⟨ta,tn,tc,rfl⟩:=Ja am;have Hm:=ka (lM aj);have al:=ka am;have au:=ka aj;have aI:=ka (af.o t Hm.o);have zB:w.heap.size+1<wr.heap.size:=by obtain⟨_,_,_,_,_,_,_,_,_,_,_,_,_,z,_⟩:=hB.rd;exact z
   obtain⟨d1,dm,dc,ds,d2,aC,ay,av,aw,ax,az,aA,aB,zD,ak⟩:=hB.rd;clear aj hA hB hx am hc;by_cases h0:i=0
   ·(have aJ:((i:Int)==0)=true:=by simp<;>omega);have H0:=ka h0;clear h0;go_wp2_with((go_at_call 57;refine cM (HG.o _ Hx.o (O ta tn tc) t al.o Hm.o) ?_;rintro e w1 ⟨r1,rfl,m,j⟩;obtain⟨b1,n1,k1,t1,b2,n2,k2,rfl⟩:=m.form;obtain⟨ah,ai⟩:=j.cells;(have z1:w.heap.size+1<w1.heap.size:=by have:=j.size;omega)));have E:Ta (Bg f (ts.take (i+1))=f t):=ka (by
     have:=H0.o;subst this;rw[Uf _ _ _ au.o];simp[Bg])
    have g:Aa wr (w1.alloc (.cells #[O b1 n1 k1,Z t1,O b2 n2 k2] 63)):=j.alloc _;obtain⟨W8,ac⟩:=gX ((w1.alloc (.cells #[O b1 n1 k1,Z t1,O b2 n2 k2] 63)));(have g1:RB W8 w1.heap.size (f t):=by rw[<-ac];exact RB.new m rfl);rw[ac]at g ⊢;have g2:=HB.o.ext g;have zW:=g.size;obtain⟨s1,ag⟩:=gX w1.heap.size;simp only[ag]at *;have zs:w.heap.size+1<s1:=z1;clear ac ah ai m j ak av aw ax az aA aB ag e0;obtain⟨pa,pm,s,ps,r,y,u,p0,p1,p2,_,_,_,pz,hp⟩:=(g1).rd;obtain⟨_,_,_,_,_,_,_,x0,x1,x2,an,ao,ap,xz,_⟩:=(g2).rd;refine Uc [(⟨s1,0,Y⟩,O pa pm s),(⟨s1,1,Y⟩,Z ps),(⟨s1,2,Y⟩,O r y u)] cA fun aa=>?_;refine sN 0 ?_
    (iterate 3 refine Bb ?_);refine oN ?_;have ab:∀q∈[((⟨s1,0,Y⟩:Addr),Value.slice pa pm s),(⟨s1,1,Y⟩,Z ps),(⟨s1,2,Y⟩,O r y u)],w.heap.size+1≠q.1.block:=by
     simp<;>omega
    refine Vc (i:=3) fun K hK=>?_;go_simp;refine kO hK (Ea.set3d aa ab _ _ _) (fun aa=>?_);clear hK K;refine Sb ?_;have ae:=ka g;have P:=ka (RB.put3 g2 hp rfl);clear g g1 g2;go_wp2;go_roundg (n-(i+1))
    case measure=>have:=Hn.o;omega
    case rel =>
     obtain⟨P1,P2,P3,P4,P5⟩:=P.o;have D:=fun W=>(eR W).drew;exact⟨i+1,by rw[Hn.o];omega,by go_num,by rw[Hn.o],⟨_,_,_,rfl⟩,(P5 w (Hx.o.trans ae.o) oM).drew,
      (P2 _ _ oM (HA.o.ext ae.o)).ext (D _),by rw[E.o];exact P1.ext (D _)⟩
   ·(have aJ:((i:Int)==0)=false:=by simp<;>omega);have aH:ts.take i≠[]:=fun h=>by
     (have h2:(ts.take i).length=0:=by rw[h];rfl);rw[List.length_take,Hn.o]at h2;omega
    have e9:Bg f (ts.take (i+1))=if yb (f t) (Bg f (ts.take i))<0 then f t else Bg f (ts.take i):=by
     rw[Uf _ _ _ au.o,mN _ _ _ aH]
    have aq:=ka (Ji aI.o oM);have ar:=ka (Ji (Rb.minG (f:=f) (xs:=ts.take i) fun x hx=>af.o x (List.mem_of_mem_take hx)) oM);obtain⟨k,hk⟩:=gX (yb (f t) (Bg f (ts.take i)));rw[hk]at e9;have Hk:=ka hk;clear h0 aH hk;by_cases aF:k<0
    ·rw[if_pos aF]at e9;have E:=ka e9;clear e9;go_wp2_with(first|(go_at_call 57;refine cM (HG.o _ Hx.o (O ta tn tc) t al.o Hm.o) ?_;rintro e w1 ⟨r1,rfl,m,j⟩;obtain⟨b1,n1,k1,t1,b2,n2,k2,rfl⟩:=m.form;obtain⟨ah,ai⟩:=j.cells;(have z1:w.heap.size+1<w1.heap.size:=by have:=j.size;omega))|(go_at_call 75;(with_reducible refine(Yj _ (I #[O b1 n1 k1,Z t1,O b2 n2 k2]) (I #[O d1 dm dc,Z ds,O d2 aC ay]) _ _ (m.ext ?_) (ak.ext ?_) aq.o ar.o).mono ?_);exact eA;exact eA;rintro e w3 ⟨rfl,ad⟩;(try rw[Hk.o]);obtain⟨aD,aE⟩:=ad.cells));have g:Aa wr (w3):=(j.alloc _).trans ad;obtain⟨W8,ac⟩:=gX ((w3));(have g1:RB W8 w1.heap.size (f t):=by rw[<-ac];exact(RB.new m rfl).ext ad);rw[ac]at g ⊢;have g2:=HB.o.ext g;have zW:=g.size;obtain⟨s1,ag⟩:=gX w1.heap.size;simp only[ag]at *;have zs:w.heap.size+1<s1:=z1;clear ac ah ai m j ak av aw ax az aA aB ag e0 ad aD aE;obtain⟨pa,pm,s,ps,r,y,u,p0,p1,p2,_,_,_,pz,hp⟩:=(g1).rd;obtain⟨_,_,_,_,_,_,_,x0,x1,x2,an,ao,ap,xz,_⟩:=(g2).rd;refine Uc [(⟨s1,0,Y⟩,O pa pm s),(⟨s1,1,Y⟩,Z ps),(⟨s1,2,Y⟩,O r y u)] cA fun aa=>?_;refine sN 0 ?_
     (iterate 3 refine Bb ?_);refine oN ?_;have ab:∀q∈[((⟨s1,0,Y⟩:Addr),Value.slice pa pm s),(⟨s1,1,Y⟩,Z ps),(⟨s1,2,Y⟩,O r y u)],w.heap.size+1≠q.1.block:=by
      simp<;>omega
     refine Vc (i:=3) fun K hK=>?_;go_simp;refine kO hK (Ea.set3d aa ab _ _ _) (fun aa=>?_);clear hK K;refine Sb ?_;have ae:=ka g;have P:=ka (RB.put3 g2 hp rfl);clear g g1 g2;go_wp2;go_roundg (n-(i+1))
     case measure=>have:=Hn.o;omega
     case rel =>
      obtain⟨P1,P2,P3,P4,P5⟩:=P.o;have D:=fun W=>(eR W).drew;exact⟨i+1,by rw[Hn.o];omega,by go_num,by rw[Hn.o],⟨_,_,_,rfl⟩,(P5 w (Hx.o.trans ae.o) oM).drew,
       (P2 _ _ oM (HA.o.ext ae.o)).ext (D _),by rw[E.o];exact P1.ext (D _)⟩
    ·rw[if_neg aF]at e9;have E:=ka e9;clear e9;go_wp2_with(first|(go_at_call 57;refine cM (HG.o _ Hx.o (O ta tn tc) t al.o Hm.o) ?_;rintro e w1 ⟨r1,rfl,m,j⟩;obtain⟨b1,n1,k1,t1,b2,n2,k2,rfl⟩:=m.form;obtain⟨ah,ai⟩:=j.cells;(have z1:w.heap.size+1<w1.heap.size:=by have:=j.size;omega))|(go_at_call 75;(with_reducible refine(Yj _ (I #[O b1 n1 k1,Z t1,O b2 n2 k2]) (I #[O d1 dm dc,Z ds,O d2 aC ay]) _ _ (m.ext ?_) (ak.ext ?_) aq.o ar.o).mono ?_);exact eA;exact eA;rintro e w3 ⟨rfl,ad⟩;(try rw[Hk.o]);obtain⟨aD,aE⟩:=ad.cells));have g:Aa wr w3:=(j.alloc _).trans ad;go_roundg (n-(i+1))
     case measure=>have:=Hn.o;omega
     case rel=>exact⟨i+1,by rw[Hn.o];omega,by go_num,by rw[Hn.o],⟨_,_,_,rfl⟩,Hx.o.trans g,HA.o.ext g,by rw[E.o];exact HB.o.ext g⟩
  ·obtain rfl:i=n:=oM;have e:ts.take i=ts:=lT (by rw[Hn.o];exact nE _);rw[e]at hB HB;clear e;have zW:=hx.size;have zD:w.heap.size+1<wr.heap.size:=by obtain⟨_,_,_,_,_,_,_,_,_,_,_,_,_,z,_⟩:=hB.rd;exact z
   go_wp2;obtain⟨pa,pm,s,ps,r,y,u,p0,p1,p2,_,_,_,pz,hp⟩:=(hB).rd;obtain⟨_,_,_,_,_,_,_,x0,x1,x2,an,ao,ap,xz,_⟩:=(hA).rd;refine Uc [(⟨w.heap.size+1,0,Y⟩,O pa pm s),(⟨w.heap.size+1,1,Y⟩,Z ps),(⟨w.heap.size+1,2,Y⟩,O r y u)] cA fun aa=>?_;refine sN 0 ?_
   iterate 3 refine Bb ?_
   refine oN ?_;have ab:∀q∈[((⟨w.heap.size+1,0,Y⟩:Addr),Value.slice pa pm s),(⟨w.heap.size+1,1,Y⟩,Z ps),(⟨w.heap.size+1,2,Y⟩,O r y u)],w.heap.size≠q.1.block:=by
    simp<;>omega
   refine Vc (i:=3) fun K hK=>?_;go_simp;refine kO hK (Ea.set3d aa ab _ _ _) (fun aa=>?_);clear hK K;refine Sb ?_;have P:=ka (RB.put3 hA hp rfl);go_wp2;refine bR (v:=.tuple #[O xa xn xc,I #[O pa pm s,Z ps,O r y u]]) (by simp[results,Tryz.results56,go_sem,x0,x1,x2,an,ao,ap]) rfl ?_;rw[<-HR.o];obtain⟨P1,P2,P3,P4,P5⟩:=P.o;exact⟨_,_,_,_,rfl,(hp.keep P3).ext (eR _).drew,(P5 w Hx.o oM).drew⟩
end
section
open Go.RowKit Go.Shelf Go.Sort
def nw{g}(h:Nb g=true):vd g:=by
 unfold Nb at h;rw[Bool.and_eq_true,List.all_eq_true]at h;obtain⟨n,f⟩:=h;have c:∀i,(hi:i+1<g.length)->g[i].1<g[i+1].1:=fun i hi=>by
  have a:=f (i+1) (List.mem_range.2 hi);unfold Ng at a;rw[Nat.add_sub_cancel,gD,gE hi,Option.getD_some,gD,gE oM,Option.getD_some]at a;simp only[Bool.and_eq_true,Bool.or_eq_true,beq_iff_eq,decide_eq_true_eq]at a;rcases a.2.2 with b|b
  ·omega
  ·exact b
 unfold vd;rw[List.pairwise_iff_getElem];intro i j hi l k;obtain⟨d,rfl⟩:∃d,j=i+d+1:=⟨j-i-1,by omega⟩;induction d with
 | zero=>exact c i l
 | succ d m =>
  have:=m oM oM;have:=c (i+d+1) oM;show g[i].1<g[i+(d+1)+1].1;have e:i+(d+1)+1=i+d+1+1:=oM;simp only[e];omega
def nz{l}(j:vd l)(w:Wb l)(x:Ua l<qb l){z}(h1:Ua l<=z)(h2:z<=qb l):((-104000:Int):Rat)<=kb l (z:Rat)/\kb l (z:Rat)<=((104000:Int):Rat):=by
 obtain⟨W,e,_⟩:=w;obtain⟨k,P,R,k3,k4⟩:∃k,Ua l<=k/\k<qb l/\k<=z/\z<=k+1:=by
  by_cases c:z=qb l
  ·exact⟨z-1,by omega,by omega,by omega,by omega⟩
  ·exact⟨z,by omega,by omega,by omega,by omega⟩
 obtain⟨⟨a,b⟩,f,r,t,_⟩:=EJ W P R;obtain⟨g,i,d,_⟩:=j.between f;dsimp only at r t g i d;have u:=e a g;have v:=e b i;unfold Bd at u v;have q1:((a.1:Int):Rat)<=(z:Rat):=Rat.intCast_le_intCast.2 oM;have q2:(z:Rat)<=((b.1:Int):Rat):=Rat.intCast_le_intCast.2 oM;rw[lG j f q1 q2];have s:=Dw (a,b) (a.1:Rat) (b.1:Rat) (z:Rat);rw[qC,Ew a b d]at s;have m:(0:Rat)<((b.1:Int):Rat)-((a.1:Int):Rat):=by
  have:=Rat.intCast_lt_intCast.2 d;grind
 obtain⟨y,K⟩:=gX (Yi (z:Rat) (a,b));rw[K]at s ⊢;have u1:((-104000:Int):Rat)<=((a.2:Int):Rat):=Rat.intCast_le_intCast.2 oM;have u2:((a.2:Int):Rat)<=((104000:Int):Rat):=Rat.intCast_le_intCast.2 oM;have u3:((-104000:Int):Rat)<=((b.2:Int):Rat):=Rat.intCast_le_intCast.2 oM;have u4:((b.2:Int):Rat)<=((104000:Int):Rat):=Rat.intCast_le_intCast.2 oM;have n:0<=((b.1:Int):Rat)-(z:Rat):=by grind
 have o:0<=(z:Rat)-((a.1:Int):Rat):=by grind
 have v1:=Rat.mul_le_mul_of_nonneg_left u1 n;have v2:=Rat.mul_le_mul_of_nonneg_left u2 n;have v3:=Rat.mul_le_mul_of_nonneg_left u3 o;have v4:=Rat.mul_le_mul_of_nonneg_left u4 o;refine⟨Rat.not_lt.1 fun h=>?_,Rat.not_lt.1 fun h=>?_⟩
 ·have:=Rat.mul_lt_mul_of_pos_left h m;grind
 ·have:=Rat.mul_lt_mul_of_pos_left h m;grind
def UN{l t}(m:vd l)(n:vd t)(g:Wb l)(j:Wb t)(ho:(Ac l t).lo<(Ac l t).hi):Yf l t<=((208000:Int):Rat):=by
 unfold Yf Na;obtain⟨i,f⟩:=Ak (Tb (Ac l t)) (Al (Ac l t));obtain⟨z,k,e⟩:=List.mem_map.1 i;have c:=LK ho k;rw[f,<-e];unfold Ac at ho c;dsimp only at ho c;have a:=nz m g oM (z:=z) oM oM;have b:=nz n j oM (z:=z) oM oM;unfold Tb Ac;dsimp only;have d:((208000:Int):Rat)=((104000:Int):Rat)-((-104000:Int):Rat):=by rw[<-Rat.intCast_sub];rfl
 rw[d];grind
def mJ{g ps p}(f:Rc g ps=0)(hp:Ca p=true)(j:Pe g p=true)(i:Ce g ps p=true):0<=og g ps p/\0<=pg g ps p/\pg g ps p<=208000:=by
 obtain⟨b,_,k⟩:=Ku f;obtain⟨⟨t,d,e⟩,_⟩:=Xq (Yf (Da p)) (l:=ke g ps p) (by unfold ke;simp);have n:=MD f hp j i t d;have r:Yf (Da p) t<=((208000:Int):Rat):=by
  unfold ke at d;rcases List.mem_cons.1 d with m|d
  ·rw[m];exact UN (Ol hp).1 (nw k) (Ye hp).1 (On k) (Ww f hp j i)
  ·obtain⟨o,ho,rfl⟩:=List.mem_map.1 d;obtain⟨a,c⟩:=List.mem_filter.1 ho;rw[Bool.and_eq_true,beq_iff_eq]at c;exact UN (Ol hp).1 (yy (b o a)).1 (Ye hp).1 (Ye (b o a)).2 (mD hp (b o a) c.2).1
 refine⟨by unfold og;rw[e];exact n,kJ f hp j i,?_⟩;have s:=Rat.floor_le (og g ps p);have u:((pg g ps p:Int):Rat)<=((208000:Int):Rat):=Rat.le_trans s (by unfold og;rw[e];exact r);exact Rat.intCast_le_intCast.1 u
def ii(T:Rat->Rat)(a b:Rat):Prop:=∃α β:Rat,∀x,a<=x->x<=b->T x=α+β*x
def ii.sub{T a b v0 c}(h:ii T a b)(d:a<=v0)(e:c<=b):ii T v0 c:=by obtain⟨α,β,h⟩:=h;exact⟨α,β,fun x f g=>h x (Rat.le_trans d f) (Rat.le_trans g e)⟩
def ii.of{T a b}(j:a<b)(h:∀x,a<=x->x<=b->(b-a)*T x=(b-x)*T a+(x-a)*T b):ii T a b:=by
 have c:b-a≠0:=fun e=>by grind
 obtain⟨β,k⟩:∃β:Rat,β*(b-a)=T b-T a:=⟨(T b-T a)/(b-a),Rat.div_mul_cancel c⟩;refine⟨T a-β*a,β,fun x f g=>?_⟩;have e:=h x f g;have i:(b-a)*T x=(b-a)*(T a-β*a+β*x):=by
  rw[e];grind
 have d:(b-a)*(T x-(T a-β*a+β*x))=0:=by grind
 rcases Rat.mul_eq_zero.1 d with z|z
 ·exact absurd z c
 ·grind
def VH{A B x w0 a:Rat}(b:w0<=x)(d:x<=a)(h:0<A+B*x):0<A+B*w0\/0<A+B*a:=by
 by_cases c:0<=B
 ·have:=Rat.mul_nonneg c (show 0<=a-x by grind)
  right
  grind
 ·have:=Rat.mul_nonneg (show 0 <= -B by grind) (show 0<=x-w0 by grind)
  left
  grind
def ii.le{S T b c x}(d:ii S b c)(e:ii T b c)(f:b<=x)(g:x<=c)(i:S b<=T b)(j:S c<=T c):S x<=T x:=by obtain⟨α,β,d⟩:=d;obtain⟨γ,δ,e⟩:=e;have a:=Rat.le_trans f g;rw[d b Rat.le_refl a,e b Rat.le_refl a]at i;rw[d c a Rat.le_refl,e c a Rat.le_refl]at j;rw[d x f g,e x f g];refine Rat.not_lt.1 fun h=>?_;rcases VH (A:=α-γ) (B:=β-δ) f g (by grind)with z|z<;>grind
def ii.max{S T c d x}(g:ii S c d)(i:ii T c d)(j:c<=x)(k:x<=d)(h:S x<T x):S c<T c\/S d<T d:=by apply Classical.byContradiction;intro f;have a:T c<=S c:=Rat.not_lt.1 fun e=>f (.inl e);have b:T d<=S d:=Rat.not_lt.1 fun e=>f (.inr e);have:=ii.le i g j k a b;grind
def Qb(p q:Pl):Sp:=⟨Da p++La p,Da q++La q,max (Ua (Da p)) (Ua (Da q)),min (qb (Da p)) (qb (Da q))⟩
def od(f:Rat->Rat)(y x:Rat):List Rat:=if (f y).num.sign*(f x).num.sign<0 then [Ae f y x]else []
def Sg(a b:LP)(x:Rat):Rat:=kb a x-kb b x
def Mi(p q:Pl)(y x:Rat):List Rat:=od (Sg (La p) (La q)) y x++od (Sg (Da p) (Da q)) y x
def Xf(p q:Pl):Nat->List Rat
 | 0=>Pa (Qb p q)
 | n+1=>Xf p q n++Mi p q ((Pa (Qb p q)).getD n 0) ((Pa (Qb p q)).getD (n+1) 0)
def Ze(p q:Pl)(x:Rat):Rat:=Sc (-1) [kb (La p) x,kb (La q) x]
def Ef(p q:Pl)(x:Rat):Rat:=Sc 1 [kb (Da p) x,kb (Da q) x]
def GP{p q x}(h:x∈Pa (Qb p q)):∀n,x∈Xf p q n
 | 0=>h
 | n+1=>List.mem_append.2 (.inl (GP h n))
section
variable {p q:Pl} (hp:Ca p=true) (hq:Ca q=true) (ho:(Qb p q).lo<(Qb p q).hi)
include hp hq ho
end
end
section
open Go.RowKit Go.Shelf Go.Sort Go.Lib
def jm:Pl:=Cb ⟨#[97]⟩ 0 0
def im:Pl:=Cb ⟨#[98]⟩ 200 0
def mo:Pl:=Cb ⟨#[99]⟩ 100 80
def Tm:Pl:=Cb ⟨#[100]⟩ 50 300
def Yq:Da jm=[(0,0),(0+200,0)]:=by unfold jm Da kd;rw[show Pc (Ga (Cb ⟨#[97]⟩ 0 0)) (Ga (Cb ⟨#[97]⟩ 0 0)).length=[(0,0),(0+200,0)] by decide,Ru (List.Perm.refl _) dM dM];decide
def PB:La jm=[(0,0+80),(0+200,0+80)]:=by unfold jm La kd;rw[show je (Ga (Cb ⟨#[97]⟩ 0 0)) (Ga (Cb ⟨#[97]⟩ 0 0)).length=[(0+200,0+80),(0,0+80)] by decide,Ru (List.Perm.swap _ _ _) dM dM];decide
def jH:Ca jm=true:=by decide +kernel
def vE:Da im=[(200,0),(200+200,0)]:=by unfold im Da kd;rw[show Pc (Ga (Cb ⟨#[98]⟩ 200 0)) (Ga (Cb ⟨#[98]⟩ 200 0)).length=[(200,0),(200+200,0)] by decide,Ru (List.Perm.refl _) dM dM];decide
def yt:La im=[(200,0+80),(200+200,0+80)]:=by unfold im La kd;rw[show je (Ga (Cb ⟨#[98]⟩ 200 0)) (Ga (Cb ⟨#[98]⟩ 200 0)).length=[(200+200,0+80),(200,0+80)] by decide,Ru (List.Perm.swap _ _ _) dM dM];decide
def iH:Ca im=true:=by decide +kernel
def Qw:Da mo=[(100,80),(100+200,80)]:=by unfold mo Da kd;rw[show Pc (Ga (Cb ⟨#[99]⟩ 100 80)) (Ga (Cb ⟨#[99]⟩ 100 80)).length=[(100,80),(100+200,80)] by decide,Ru (List.Perm.refl _) dM dM];decide
def ut:La mo=[(100,80+80),(100+200,80+80)]:=by unfold mo La kd;rw[show je (Ga (Cb ⟨#[99]⟩ 100 80)) (Ga (Cb ⟨#[99]⟩ 100 80)).length=[(100+200,80+80),(100,80+80)] by decide,Ru (List.Perm.swap _ _ _) dM dM];decide
def jB:Da Tm=[(50,300),(50+200,300)]:=by unfold Tm Da kd;rw[show Pc (Ga (Cb ⟨#[100]⟩ 50 300)) (Ga (Cb ⟨#[100]⟩ 50 300)).length=[(50,300),(50+200,300)] by decide,Ru (List.Perm.refl _) dM dM];decide
def Lz:La Tm=[(50,300+80),(50+200,300+80)]:=by unfold Tm La kd;rw[show je (Ga (Cb ⟨#[100]⟩ 50 300)) (Ga (Cb ⟨#[100]⟩ 50 300)).length=[(50+200,300+80),(50,300+80)] by decide,Ru (List.Perm.swap _ _ _) dM dM];decide
def ZG:Ca Tm=true:=by decide +kernel
def RG:Dc jm im=1:=by unfold Dc;rw[Yq,vE];decide
def Qj:List Pl:=[jm,im,mo]
def Zw:Rc Jk Qj=0:=by unfold Qj Rc;simp only[me,Mg,qh,Ce,oh,List.any_cons,List.any_nil,List.nil_append,List.cons_append,Dc,ye,Na,Pa,Eb,Fr,Pe,Yq,vE,Qw,PB,yt,ut];decide +kernel
def lJ:pg Jk Qj Tm=140:=by unfold pg og ke Qj;simp only[List.filter,List.map_cons,List.map_nil,Bg,List.foldl_cons,List.foldl_nil,Yf,Dc,ye,Na,Pa,Eb,Fr,Yq,vE,Qw,jB,PB,yt,ut,Lz];decide +kernel
instance:DecidableEq Be:=fun⟨a,b,c,d,e,f,g⟩ ⟨a',b',c',d',e',f',g'⟩=>decidable_of_iff (a=a'/\b=b'/\c=c'/\d=d'/\e=e'/\f=f'/\g=g') sM
def vJ:zh Jk Qj 2 mo 0 4=[⟨0,100,80,200,80,(1,0),(1,0)⟩,⟨1,200,80,300,80,(1,0),(1,0)⟩]:=by unfold zh Qj;simp only[Sh,Hh,ud,Lf,Na,Pa,Eb,Fr,Yq,vE,Qw,PB,yt,ut];decide +kernel
def uI:Ck 100 80=[40,49,48,48,44,32,56,48,41]:=by decide +kernel
end
section
open Go.RowKit Go.Shelf Go.Sort
def Pq f:∀{c},c≠[]->c.Pairwise (fun a b=>¬b<a)->(xb f c).1∈c/\∀y∈c,f (xb f c).1<f y\/(f (xb f c).1=f y/\¬y<(xb f c).1):=by
 intro k g j;refine⟨(Ak f g).1,?_⟩;obtain⟨rs,rfl⟩:∃rs:List Rat,k=rs.reverse:=⟨k.reverse,by simp⟩;induction rs with
 | nil=>exact absurd rfl g
 | cons a rs m =>
  rw[List.reverse_cons]at g j ⊢;generalize rs.reverse=c at *
  by_cases l:c=[]
  ·subst l;intro y d;have e:y=a:=by simpa using d
   subst e;exact .inr ⟨rfl,Rat.lt_irrefl⟩
  ·obtain⟨t,-,u⟩:=List.pairwise_append.1 j;have m:=m l t;have n:=Ak f l;rw[Yx f c a l];intro y d;unfold Ab;have o:=Kr (f a) (xb f c).2;by_cases i:f a<(xb f c).2
   ·rw[if_pos (o.2 i)];dsimp only;rcases List.mem_append.1 d with d|d
    ·rw[n.2]at i;rcases m y d with h|h
     ·exact .inl (by grind)
     ·exact .inl (by rw[<-h.1];exact i)
    ·(have e:y=a:=by simpa using d);subst e;exact .inr ⟨rfl,Rat.lt_irrefl⟩
   ·rw[if_neg (fun s=>i (o.1 s))];rcases List.mem_append.1 d with d|d
    ·exact m y d
    ·(have e:y=a:=by simpa using d);subst e;rw[n.2]at i;by_cases r:f (xb f c).1=f y
     ·exact .inr ⟨r,u _ n.1 _ d⟩
     ·exact .inl (by grind)
def If(h:Rat->Rat)(xs:List Rat)(i:Nat)(a:Rat):Prop:=∃k,k<i/\xs[k]?=V a/\∀j y,j<i->xs[j]?=V y->h y<h a\/(h y=h a/\¬y<a)
def If.start{h xs a}(b:xs[0]?=V a):If h xs 1 a:=by refine⟨0,by omega,b,fun j y d c=>?_⟩;have e:j=0:=oM;subst e;rw[b]at c;cases c;exact .inr ⟨rfl,Rat.lt_irrefl⟩
def If.keep{h xs i a x}(g:If h xs i a)(f:xs[i]?=V x)(n:¬(h a<h x\/(h x=h a/\x<a))):If h xs (i+1) a:=by
 obtain⟨k,l,c,d⟩:=g;refine⟨k,by omega,c,fun j y m b=>?_⟩;by_cases e:j=i
 ·subst e;rw[f]at b;cases b;grind
 ·exact d j y oM b
def If.take{h xs i a x}(g:If h xs i a)(c:xs[i]?=V x)(n:h a<h x\/(h x=h a/\x<a)):If h xs (i+1) x:=by
 obtain⟨k,f,l,d⟩:=g;refine⟨i,by omega,c,fun j y m b=>?_⟩;by_cases e:j=i
 ·subst e;rw[c]at b;cases b;exact .inr ⟨rfl,Rat.lt_irrefl⟩
 ·have:=d j y oM b;grind
def If.uniq{f h xs l a}(e:∀x,f x =-h x)(g:If h xs xs.length a)(i:∀y,y∈l ↔ y∈xs)(s:l.Pairwise (fun a b=>¬b<a)):(xb f l).1=a:=by obtain⟨k,w,o,r⟩:=g;have d:a∈l:=(i a).2 (lM o);have c:l≠[]:=List.ne_nil_of_mem d;obtain⟨t,u⟩:=Pq f c s;obtain⟨m,j⟩:=List.mem_iff_getElem?.1 ((i _).1 t);have v:=r m _ (lS.1 j).1 j;have n:=u a d;rw[e,e]at n;grind
end
section
open Go.RowKit Go.Shelf Go.Sort Go.Lib
attribute [local go_sem] Oper.semAt_some
def Xm(w:X)(f:ByteArray)(x z:Int):Calls Tryz.prog 46 #[.string f,.int .i64 x,.int .i64 z] w fun e g=>∃v,e=.returned (I (nc (Cb f x z) v))/\Fa g v Qf/\Aa w g:=by go_in;go_wp2_with(go_at_call 123;(with_reducible refine(WO _).mono ?_);rintro e i ⟨r,rfl,a,b⟩;obtain⟨j,l,k,rfl⟩:=Ja a;obtain⟨c,d⟩:=b.cells;(have o:=b.size);(simp only[wZ]at o);(have m:w.heap.size<i.heap.size:=oM);(have n:¬w.heap.size=i.heap.size:=oM));refine bR (v:=I (nc (Cb f x z) (O j l k))) (by simp[results,Tryz.results46,go_sem,nc,Cb,c,d,m,n]) rfl ⟨_,rfl,?_,eA⟩;exact a.z kA
def mM(w:X):Calls Tryz.prog 124 #[] w fun e a=>∃v,e=.returned v/\Fa a v Jk/\Aa w a:=by go_in;go_wp2;go_ret;exact⟨_,rfl,qB _ rfl Jk dM,eA⟩
def Rq(w:X):Calls Tryz.prog 47 #[] w fun e w'=>∃vg vp,e=.returned (I #[vg,vp])/\Fa w' vg Jk/\Gf w' vp Qj/\Aa w w':=by
 go_in;go_wp2_with(first|(go_at_call 124;(with_reducible refine(mM _).mono ?_);rintro e w1 ⟨v1,rfl,n,g⟩;obtain⟨l,t,m,rfl⟩:=Ja n;obtain⟨K,aa⟩:=g.cells;(have z1:w.heap.size<w1.heap.size:=by have:=g.size;simp only[wZ]at this;omega))|(go_at_call 46;(with_reducible refine(Xm _ ⟨#[97]⟩ 0 0).mono ?_);rintro e w2 ⟨v2,rfl,o,d⟩;obtain⟨a2,n2,c2,rfl⟩:=Ja o;obtain⟨P,ab⟩:=d.cells;(have z2:w.heap.size<w2.heap.size:=by have:=d.size;omega);(unfold nc Cb);dsimp only)|(go_at_call 46;(with_reducible refine(Xm _ ⟨#[98]⟩ 200 0).mono ?_);rintro e w3 ⟨v3,rfl,r,c⟩;obtain⟨a3,n3,c3,rfl⟩:=Ja r;obtain⟨R,ac⟩:=c.cells;(have z3:w.heap.size<w3.heap.size:=by have:=c.size;omega);(unfold nc Cb);dsimp only)|(go_at_call 46;(with_reducible refine(Xm _ ⟨#[99]⟩ 100 80).mono ?_);rintro e f ⟨v4,rfl,s,a⟩;obtain⟨a4,n4,c4,rfl⟩:=Ja s;obtain⟨W,ad⟩:=a.cells;(have z4:w.heap.size<f.heap.size:=by have:=a.size;omega);(unfold nc Cb);dsimp only));have K1:=g.e (aN w (.cells #[O Y 0 0,O Y 0 0] 41));have y:=a.e (c.e (d.e K1));obtain⟨j,b⟩:=gX ((f.setCell ⟨w.heap.size,0,Y⟩ (O l t m)).setCell ⟨w.heap.size,1,Y⟩ (O (V ⟨f.heap.size,0,Y⟩) 3 3));have x:Ia 43 f j:=by
  rw[<-b];have h1:=(Ia.refl 43 f).set (p:=⟨w.heap.size,0,Y⟩) y dM (O l t m);exact h1.set (p:=⟨w.heap.size,1,Y⟩) (Td y 0 _) dM _
 have hz:j.heap.size=f.heap.size:=by rw[<-b];simp only[yg]
 have z:j.heap[w.heap.size]?=V (.cells #[O l t m,O (V ⟨f.heap.size,0,Y⟩) 3 3] 41 (0,0)):=by
  rw[<-b];exact Td (Td y 0 _) 1 _
 have hX:Aa w j:=by
  rw[<-b];exact(Aa.set (Aa.set (((((eR w).alloc _).trans g).trans d).trans c |>.trans a) (nE _) _) (nE _) _)
 rw[b];clear b K aa P ab R ac W ad;have b0:=Ba z (i:=0) (u:=O l t m) rfl;have b1:=Ba z (i:=1) (u:=O (V ⟨f.heap.size,0,Y⟩) 3 3) rfl;have bz:=Jb z;have hq:=Jv j (k:=f.heap.size) (base:=w.heap.size) hz.symm oM [(Cb ⟨#[97]⟩ 0 0,O a2 n2 c2),(Cb ⟨#[98]⟩ 200 0,O a3 n3 c3),(Cb ⟨#[99]⟩ 100 80,O a4 n4 c4)] (by
  intro q hq;simp only[List.mem_cons,List.not_mem_nil,or_false]at hq;rcases hq with rfl|rfl|rfl
  ·exact⟨((o.f c).f a).z x,by unfold Cb;dsimp only;omega⟩
  ·exact⟨(r.f a).z x,by unfold Cb;dsimp only;omega⟩
  ·exact⟨s.z x,by unfold Cb;dsimp only;omega⟩) sM
 refine bR (v:=I #[O l t m,O (V ⟨f.heap.size,0,Y⟩) 3 3]) (by simp[results,Tryz.results47,go_sem,b0,b1,bz]) rfl ⟨_,_,rfl,?_,?_,hX.alloc _⟩
 ·exact((((n.f d).f c).f a).z x).f ((eR _).alloc _)
 ·exact hq.pls
def Rh(g:LP)(ps:List Pl)(p:Pl):Int:=
 if Rc g ps≠0 then Rc g ps else if Ca p=false then 2 else if Pe g p=false then 2 else if ps.any (Xg p.name)=true then 7 else if Ce g ps p=false then 12 else 0
def Co(w:X)(g:LP)(ps:List Pl)(p:Pl)(e:Ending)(w':X):Prop:=
 e=.returned (.tuple #[.int .i64 (if Rh g ps p=0 then pg g ps p else 0),.int .i64 (Rh g ps p)])/\Aa w w'
def UH{w b f g ps}(o:Fa w b g)(hp:Gf w f ps)(d:Gw w)(h:Rc g ps=0):Calls Tryz.prog 49 #[I #[b,f]] w fun e i=>∃a n c,e=.returned (.tuple #[I #[b,O a n c],.int .i64 0])/\Ic i (O a n c) ps/\Aa w i:=by
 refine(Zq w b f g ps o hp d).mono ?_;rintro e i (⟨k,_⟩|⟨_,r,l,j,m⟩)
 ·exact absurd h k
 ·obtain⟨a,n,c,rfl⟩:=Ja j;exact⟨a,n,c,l,j,m⟩
