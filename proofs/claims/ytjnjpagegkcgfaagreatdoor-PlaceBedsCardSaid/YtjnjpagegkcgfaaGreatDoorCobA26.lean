import Derived.Test.YtjnjpagegkcgfaaGreatDoorCobA14
import Derived.Test.YtjnjpagegkcgfaaGreatDoorCobA25
set_option maxRecDepth 1000000
set_option maxHeartbeats 16000000
set_option linter.all false
open Go.Value renaming slice->O,bool->X,agg->V
open Option renaming none->Y,some->I
open Go renaming World->Z
namespace Go.Proofs.YtjnjpagegkcgfaaGreatDoor.Cop
section
open Go.RowKit Go.Shelf Go.Sort Go.Lib
attribute [local go_sem] Oper.semAt_some
def TM{α:Type}(f:α->Rat)(xs:List α)(x:α)(h:xs≠[]):Dg f (xs++[x])=if Eb (f x) (Dg f xs)<0 then f x else Dg f xs:=by
 cases xs with
 | nil=>exact absurd rfl h
 | cons y a =>
  show (a++[x]).foldl _ (f y)=_;rw[List.foldl_append];rfl
def Rb.gapT{l t:LP}(a:mc l)(b:mc t):Rb 23 (Xf l t):=by unfold Cop.Xf Ma;obtain⟨c,d⟩:=Nk (Tb (Nb l t)) (pl (Nb l t));rw[d];exact Rb.gap (Bh (lk a b) _ c) (lk a b)
def Rb.minG{α:Type}{f:α->Rat}{xs:List α}(h:∀x∈xs,Rb 23 (f x)):Rb 23 (Dg f xs):=by
 by_cases a:xs=[]
 ·subst a;exact Rb.int (n:=0) (by unfold Lm;have:=Ri Fi 23;omega) dM
 ·obtain⟨⟨x,b,e⟩,_⟩:=xw f a;rw[e];exact h x b
def ON(w:Z)(bx:Nat)(p q:Value)(l t:LP)(hb:w.cell? ⟨bx,10,Y⟩=I p)(m:Ja w p l)(n:Ja w q t)(Q:mc l)(S:mc t):Calls Tryz.prog 57 #[q,.pointer (I ⟨bx,0,Y⟩)] w (Pf w (Xf l t)):=by have a:=Aa (fun(W:Z)(d:Ba w W)=>xr W p q l t (m.f d) (n.f d) (List.length_pos_iff.2 Q.1) (List.length_pos_iff.2 S.1));have j:=Aa (fun(W:Z)(d:Ba w W)=>Wt W p q (Nb l t) (m.f d) (n.f d) (lk Q S));obtain⟨R,r⟩:=gX (Pf w (Xf l t));rw[r];have k:=Aa r;have u:=World.block_lt_of_cell? _ _ hb;unfold Xf at k;obtain⟨s,hs⟩:=gX (Nb l t);rw[hs]at a j k;obtain⟨a1,m1,rfl⟩:=m.form;obtain⟨a2,m2,rfl⟩:=n.form;obtain⟨n1,f1⟩:=gX l.length;obtain⟨n2,f2⟩:=gX t.length;obtain⟨lo,c⟩:=gX s.lo;obtain⟨hi,b⟩:=gX s.hi;obtain⟨o,eo⟩:=gX (Ma s);unfold Gk at a;unfold Hi at a j;simp only[f1,f2,c,b,eo]at a j k hb ⊢;clear m n Q S hs f1 f2 c b eo r;dsimp only at u;go_in;go_wp2_with(first|(go_at_call 58;refine cM (a.o _ eA) ?_;rintro e w3 ⟨rfl,g⟩;obtain⟨x,z⟩:=g.cells;(have z3:w.heap.size<w3.heap.size:=by have:=g.size;simp only[wZ]at this;omega);(have T:w.heap.size<w3.heap.size+1:=oM))|(go_at_call 59;refine cM (j.o _ eA) ?_;rintro e w4 ⟨r4,r5,rfl,P,f,i⟩;obtain⟨a4,m4,c4,s4,b4,n4,k4,rfl⟩:=P.form;obtain⟨a5,m5,c5,s5,b5,n5,k5,rfl⟩:=f.form;obtain⟨y,K⟩:=i.cells;(have z4:w.heap.size<w4.heap.size:=by have:=i.size;simp only[wZ]at this;omega);(have aa:w.heap.size<w4.heap.size+1:=oM)));refine bR (v:=V #[O a5 m5 c5,X s5,O b5 n5 k5]) (by simp[results,Tryz.results57,go_sem,x,z,y,K,z3,z4,T,aa]) rfl ?_;rw[<-k.o];exact⟨_,rfl,f.keep kA,eA⟩
def xR(w:Z)(f:LP->Rat)(ts:List LP)(g:Nat)(d b:Value)(W:Z):Prop:=
 ∃(i:Nat),i<=ts.length/\b = .int .i64 i/\g=ts.length-i/\(∃a n c,d=O a n c)/\Ba w W/\RB W w.heap.size 0/\RB W (w.heap.size+1) (Dg f (ts.take i))
def Bo(w:Z)(q:Rat)(e:Ending)(w':Z):Prop:=∃a n c r,e=.returned (.tuple #[O a n c,r])/\Ab w' r q/\Ba w w'
def iM(w:Z)(v:Value)(bx:Nat)(vl:Value)(l:LP)(ts:List LP)(hs:Sl 121 1 (Ej 121) w v ts)(hb:w.cell? ⟨bx,10,Y⟩=I vl)(h1:Ja w vl l)(k1:mc l)(k2:∀t∈ts,mc t):Calls Tryz.prog 56 #[v,.func (.func 57) #[] #[.pointer (I ⟨bx,0,Y⟩)]] w (Bo w (Dg (Xf l) ts)):=by
 obtain⟨a,c,rfl⟩:=hs.form;obtain⟨n,hn⟩:=gX ts.length;rw[hn]at hs ⊢;have aD:=hs.le;unfold maxLen at aD;have S:=Aa hn;have ac:=Aa (fun t (ht:t∈ts)=>Rb.gapT k1 (k2 t ht));have aK:n<=9223372036854775807:=oM;have HG:=Aa (fun(W:Z)(hW:Ba w W)(vt:Value)(t:LP)(ht:Ja W vt t)(hm:t∈ts)=>ON W bx vl vt l t (hW.d hb) (h1.f hW) ht k1 (k2 t hm));obtain⟨R,hR⟩:=gX (Bo w (Dg (Xf l) ts));rw[hR];have HR:=Aa hR;obtain⟨f,hf⟩:=gX (Xf l);rw[hf]at HG HR ac;clear hn aD hR hf h1 k1 k2 hb;go_in;go_wp2;go_loopg [6,13] n (xR w f ts)
 case atStart =>
  have z:∀W,Ab W (V #[O Y 0 0,X false,O Y 0 0]) 0:=fun W=>Ab.zero _;exact⟨0,by omega,rfl,by rw[S.o];rfl,⟨_,_,_,rfl⟩,eA,(RB.new (z w) rfl).ext ((eR _).alloc _),RB.new (z _) sM⟩
 case round =>
  obtain⟨i,hi,rfl,rfl,⟨xa,xn,xc,rfl⟩,hx,hA,hB⟩:=hrel;rw[S.o]at hi;have Hx:=Aa hx;have HA:=Aa hA;have HB:=Aa hB;by_cases aH:i<n
  ·obtain⟨t,ag⟩:∃t,ts[i]?=I t:=⟨ts[i]'(by rw[S.o];omega),by simp[S.o,aH]⟩;obtain⟨b,o,d,rfl,aI,aJ,⟨vt,rfl,aj⟩,hc⟩:=Sl.at (Sl.ext hs (fun _ _ h=>by obtain⟨v,e,h⟩:=h;exact⟨v,e,h.f hx⟩) hx) ag;have e0:=hc 0 _ rfl;rw[Nat.mul_one,Nat.add_zero]at e0;obtain⟨ta,tn,tc,rfl⟩:=La aj;have Hm:=Aa (lM ag);have ai:=Aa aj;have ap:=Aa ag;have aF:=Aa (ac.o t Hm.o);have zB:w.heap.size+1<wr.heap.size:=by obtain⟨_,_,_,_,_,_,_,_,_,_,_,_,_,z,_⟩:=hB.rd;exact z
   obtain⟨d1,dm,dc,ds,d2,az,av,aq,ar,au,aw,ax,ay,zD,ah⟩:=hB.rd;clear ag hA hB hx aj hc;by_cases h0:i=0
   ·(have aG:((i:Int)==0)=true:=by simp;omega);have H0:=Aa h0;clear h0;go_wp2_with((go_at_call 57;refine cM (HG.o _ Hx.o (O ta tn tc) t ai.o Hm.o) ?_;rintro e w1 ⟨r1,rfl,m,j⟩;obtain⟨b1,n1,k1,t1,b2,n2,k2,rfl⟩:=m.form;obtain⟨ae,af⟩:=j.cells;(have z1:w.heap.size+1<w1.heap.size:=by have:=j.size;omega)));have E:Sa (Dg f (ts.take (i+1))=f t):=Aa (by
     have:=H0.o;subst this;rw[Rf _ _ _ ap.o];simp[Dg])
    have g:Ba wr (w1.alloc (.cells #[O b1 n1 k1,X t1,O b2 n2 k2] 63)):=j.alloc _;obtain⟨W8,T⟩:=gX ((w1.alloc (.cells #[O b1 n1 k1,X t1,O b2 n2 k2] 63)));(have g1:RB W8 w1.heap.size (f t):=by rw[<-T];exact RB.new m rfl);rw[T]at g ⊢;have g2:=HB.o.ext g;have zW:=g.size;obtain⟨s1,ad⟩:=gX w1.heap.size;simp only[ad]at *;have zs:w.heap.size+1<s1:=z1;clear T ae af m j ah aq ar au aw ax ay ad e0;obtain⟨pa,pm,r,ps,p,u,s,p0,p1,p2,_,_,_,pz,hp⟩:=(g1).rd;obtain⟨_,_,_,_,_,_,_,x0,x1,x2,ak,al,am,xz,_⟩:=(g2).rd;refine Kc [(⟨s1,0,Y⟩,O pa pm r),(⟨s1,1,Y⟩,X ps),(⟨s1,2,Y⟩,O p u s)] cA fun y=>?_;refine sN 0 ?_
    (iterate 3 refine xb ?_);refine oN ?_;have Q:∀q∈[((⟨s1,0,Y⟩:Addr),Value.slice pa pm r),(⟨s1,1,Y⟩,X ps),(⟨s1,2,Y⟩,O p u s)],w.heap.size+1≠q.1.block:=by
     intro q hq;simp at hq;rcases hq with rfl|rfl|rfl<;>(dsimp only;omega)
    refine Ld (i:=3) fun K hK=>?_;go_simp;refine kO hK (Da.set3d y Q _ _ _) (fun y=>?_);clear hK K;refine Wb ?_;have ab:=Aa g;have P:=Aa (RB.put3 g2 hp rfl);clear g g1 g2;go_wp2;go_roundg (n-(i+1))
    case measure=>have:=S.o;omega
    case rel =>
     obtain⟨P1,P2,P3,P4,P5⟩:=P.o;have D:=fun W=>(eR W).drew;exact⟨i+1,by rw[S.o];omega,by go_num,by rw[S.o],⟨_,_,_,rfl⟩,(P5 w (Hx.o.trans ab.o) oM).drew,
      (P2 _ _ oM (HA.o.ext ab.o)).ext (D _),by rw[E.o];exact P1.ext (D _)⟩
   ·(have aG:((i:Int)==0)=false:=by simp;omega);have aE:ts.take i≠[]:=fun h=>by
     (have h2:(ts.take i).length=0:=by rw[h];rfl);rw[List.length_take,S.o]at h2;omega
    have e9:Dg f (ts.take (i+1))=if Eb (f t) (Dg f (ts.take i))<0 then f t else Dg f (ts.take i):=by
     rw[Rf _ _ _ ap.o,TM _ _ _ aE]
    have an:=Aa (Ug aF.o oM);have ao:=Aa (Ug (Rb.minG (f:=f) (xs:=ts.take i) fun x hx=>ac.o x (List.mem_of_mem_take hx)) oM);obtain⟨k,hk⟩:=gX (Eb (f t) (Dg f (ts.take i)));rw[hk]at e9;have Hk:=Aa hk;clear h0 aE hk;by_cases aC:k<0
    ·rw[if_pos aC]at e9;have E:=Aa e9;clear e9;go_wp2_with(first|(go_at_call 57;refine cM (HG.o _ Hx.o (O ta tn tc) t ai.o Hm.o) ?_;rintro e w1 ⟨r1,rfl,m,j⟩;obtain⟨b1,n1,k1,t1,b2,n2,k2,rfl⟩:=m.form;obtain⟨ae,af⟩:=j.cells;(have z1:w.heap.size+1<w1.heap.size:=by have:=j.size;omega))|(go_at_call 75;(with_reducible refine(Qj _ (V #[O b1 n1 k1,X t1,O b2 n2 k2]) (V #[O d1 dm dc,X ds,O d2 az av]) _ _ (m.ext ?_) (ah.ext ?_) an.o ao.o).mono ?_);exact eA;exact eA;rintro e w3 ⟨rfl,aa⟩;(try rw[Hk.o]);obtain⟨aA,aB⟩:=aa.cells));have g:Ba wr (w3):=(j.alloc _).trans aa;obtain⟨W8,T⟩:=gX ((w3));(have g1:RB W8 w1.heap.size (f t):=by rw[<-T];exact(RB.new m rfl).ext aa);rw[T]at g ⊢;have g2:=HB.o.ext g;have zW:=g.size;obtain⟨s1,ad⟩:=gX w1.heap.size;simp only[ad]at *;have zs:w.heap.size+1<s1:=z1;clear T ae af m j ah aq ar au aw ax ay ad e0 aa aA aB;obtain⟨pa,pm,r,ps,p,u,s,p0,p1,p2,_,_,_,pz,hp⟩:=(g1).rd;obtain⟨_,_,_,_,_,_,_,x0,x1,x2,ak,al,am,xz,_⟩:=(g2).rd;refine Kc [(⟨s1,0,Y⟩,O pa pm r),(⟨s1,1,Y⟩,X ps),(⟨s1,2,Y⟩,O p u s)] cA fun y=>?_;refine sN 0 ?_
     (iterate 3 refine xb ?_);refine oN ?_;have Q:∀q∈[((⟨s1,0,Y⟩:Addr),Value.slice pa pm r),(⟨s1,1,Y⟩,X ps),(⟨s1,2,Y⟩,O p u s)],w.heap.size+1≠q.1.block:=by
      intro q hq;simp at hq;rcases hq with rfl|rfl|rfl<;>(dsimp only;omega)
     refine Ld (i:=3) fun K hK=>?_;go_simp;refine kO hK (Da.set3d y Q _ _ _) (fun y=>?_);clear hK K;refine Wb ?_;have ab:=Aa g;have P:=Aa (RB.put3 g2 hp rfl);clear g g1 g2;go_wp2;go_roundg (n-(i+1))
     case measure=>have:=S.o;omega
     case rel =>
      obtain⟨P1,P2,P3,P4,P5⟩:=P.o;have D:=fun W=>(eR W).drew;exact⟨i+1,by rw[S.o];omega,by go_num,by rw[S.o],⟨_,_,_,rfl⟩,(P5 w (Hx.o.trans ab.o) oM).drew,
       (P2 _ _ oM (HA.o.ext ab.o)).ext (D _),by rw[E.o];exact P1.ext (D _)⟩
    ·rw[if_neg aC]at e9;have E:=Aa e9;clear e9;go_wp2_with(first|(go_at_call 57;refine cM (HG.o _ Hx.o (O ta tn tc) t ai.o Hm.o) ?_;rintro e w1 ⟨r1,rfl,m,j⟩;obtain⟨b1,n1,k1,t1,b2,n2,k2,rfl⟩:=m.form;obtain⟨ae,af⟩:=j.cells;(have z1:w.heap.size+1<w1.heap.size:=by have:=j.size;omega))|(go_at_call 75;(with_reducible refine(Qj _ (V #[O b1 n1 k1,X t1,O b2 n2 k2]) (V #[O d1 dm dc,X ds,O d2 az av]) _ _ (m.ext ?_) (ah.ext ?_) an.o ao.o).mono ?_);exact eA;exact eA;rintro e w3 ⟨rfl,aa⟩;(try rw[Hk.o]);obtain⟨aA,aB⟩:=aa.cells));have g:Ba wr w3:=(j.alloc _).trans aa;go_roundg (n-(i+1))
     case measure=>have:=S.o;omega
     case rel=>exact⟨i+1,by rw[S.o];omega,by go_num,by rw[S.o],⟨_,_,_,rfl⟩,Hx.o.trans g,HA.o.ext g,by rw[E.o];exact HB.o.ext g⟩
  ·obtain rfl:i=n:=oM;have e:ts.take i=ts:=lT (by rw[S.o];exact nE _);rw[e]at hB HB;clear e;have zW:=hx.size;have zD:w.heap.size+1<wr.heap.size:=by obtain⟨_,_,_,_,_,_,_,_,_,_,_,_,_,z,_⟩:=hB.rd;exact z
   go_wp2;obtain⟨pa,pm,r,ps,p,u,s,p0,p1,p2,_,_,_,pz,hp⟩:=(hB).rd;obtain⟨_,_,_,_,_,_,_,x0,x1,x2,ak,al,am,xz,_⟩:=(hA).rd;refine Kc [(⟨w.heap.size+1,0,Y⟩,O pa pm r),(⟨w.heap.size+1,1,Y⟩,X ps),(⟨w.heap.size+1,2,Y⟩,O p u s)] cA fun y=>?_;refine sN 0 ?_
   iterate 3 refine xb ?_
   refine oN ?_;have Q:∀q∈[((⟨w.heap.size+1,0,Y⟩:Addr),Value.slice pa pm r),(⟨w.heap.size+1,1,Y⟩,X ps),(⟨w.heap.size+1,2,Y⟩,O p u s)],w.heap.size≠q.1.block:=by
    intro q hq;simp at hq;rcases hq with rfl|rfl|rfl<;>(dsimp only;omega)
   refine Ld (i:=3) fun K hK=>?_;go_simp;refine kO hK (Da.set3d y Q _ _ _) (fun y=>?_);clear hK K;refine Wb ?_;have P:=Aa (RB.put3 hA hp rfl);go_wp2;refine bR (v:=.tuple #[O xa xn xc,V #[O pa pm r,X ps,O p u s]]) (by simp[results,Tryz.results56,go_sem,x0,x1,x2,ak,al,am]) rfl ?_;rw[<-HR.o];obtain⟨P1,P2,P3,P4,P5⟩:=P.o;exact⟨_,_,_,_,rfl,(hp.keep P3).ext (eR _).drew,(P5 w Hx.o oM).drew⟩
end
section
open Go.RowKit Go.Shelf Go.Sort
def xx{g:LP}(h:Za g=true):Gc g:=by
 unfold Za at h;rw[Bool.and_eq_true,List.all_eq_true]at h;obtain⟨n,f⟩:=h;have c:∀i,(hi:i+1<g.length)->g[i].1<g[i+1].1:=fun i hi=>by
  have a:=f (i+1) (List.mem_range.2 hi);unfold Gf at a;rw[Nat.add_sub_cancel,gD,gE hi,Option.getD_some,gD,gE oM,Option.getD_some]at a;simp only[Bool.and_eq_true,Bool.or_eq_true,beq_iff_eq,decide_eq_true_eq]at a;rcases a.2.2 with b|b
  ·omega
  ·exact b
 unfold Gc;rw[List.pairwise_iff_getElem];intro i j hi l k;obtain⟨d,rfl⟩:∃d,j=i+d+1:=⟨j-i-1,by omega⟩;induction d with
 | zero=>exact c i l
 | succ d m =>
  have:=m oM oM;have:=c (i+d+1) oM;show g[i].1<g[i+(d+1)+1].1;have e:i+(d+1)+1=i+d+1+1:=oM;simp only[e];omega
def Ay{l:LP}(j:Gc l)(u:mc l)(v:Ra l<Ya l){z:Int}(h1:Ra l<=z)(h2:z<=Ya l):((-104000:Int):Rat)<=Yd l (z:Rat)/\Yd l (z:Rat)<=((104000:Int):Rat):=by
 obtain⟨P,e,_⟩:=u;obtain⟨k,x,K,k3,k4⟩:∃k,Ra l<=k/\k<Ya l/\k<=z/\z<=k+1:=by
  by_cases c:z=Ya l
  ·exact⟨z-1,by omega,by omega,by omega,by omega⟩
  ·exact⟨z,by omega,by omega,by omega,by omega⟩
 obtain⟨⟨a,b⟩,f,p,q,_⟩:=GH P x K;obtain⟨g,i,d,_⟩:=j.between f;dsimp only at p q g i d;have r:=e a g;have t:=e b i;unfold Bd at r t;have Q:((a.1:Int):Rat)<=(z:Rat):=Rat.intCast_le_intCast.2 oM;have R:(z:Rat)<=((b.1:Int):Rat):=Rat.intCast_le_intCast.2 oM;rw[DF j f Q R];have s:=NP (a,b) (a.1:Rat) (b.1:Rat) (z:Rat);rw[pC,ED a b d]at s;have m:(0:Rat)<((b.1:Int):Rat)-((a.1:Int):Rat):=by
  have:=Rat.intCast_lt_intCast.2 d;grind
 obtain⟨y,w⟩:=gX (Oi (z:Rat) (a,b));rw[w]at s ⊢;have S:((-104000:Int):Rat)<=((a.2:Int):Rat):=Rat.intCast_le_intCast.2 oM;have T:((a.2:Int):Rat)<=((104000:Int):Rat):=Rat.intCast_le_intCast.2 oM;have W:((-104000:Int):Rat)<=((b.2:Int):Rat):=Rat.intCast_le_intCast.2 oM;have u4:((b.2:Int):Rat)<=((104000:Int):Rat):=Rat.intCast_le_intCast.2 oM;have n:0<=((b.1:Int):Rat)-(z:Rat):=by grind
 have o:0<=(z:Rat)-((a.1:Int):Rat):=by grind
 have v1:=Rat.mul_le_mul_of_nonneg_left S n;have v2:=Rat.mul_le_mul_of_nonneg_left T n;have v3:=Rat.mul_le_mul_of_nonneg_left W o;have v4:=Rat.mul_le_mul_of_nonneg_left u4 o;refine⟨Rat.not_lt.1 fun h=>?_,Rat.not_lt.1 fun h=>?_⟩
 ·have:=Rat.mul_lt_mul_of_pos_left h m;grind
 ·have:=Rat.mul_lt_mul_of_pos_left h m;grind
def RA{l t:LP}(n:Gc l)(o:Gc t)(i:mc l)(k:mc t)(d:(Nb l t).lo<(Nb l t).hi):Xf l t<=((208000:Int):Rat):=by
 unfold Xf Ma;obtain⟨j,g⟩:=Nk (Tb (Nb l t)) (pl (Nb l t));obtain⟨z,m,f⟩:=List.mem_map.1 j;have c:=ZA d m;rw[g,<-f];unfold Nb at d c;dsimp only at d c;have a:=Ay n i oM (z:=z) oM oM;have b:=Ay o k oM (z:=z) oM oM;unfold Tb Nb;dsimp only;have e:((208000:Int):Rat)=((104000:Int):Rat)-((-104000:Int):Rat):=by rw[<-Rat.intCast_sub];rfl
 rw[e];grind
def oJ{g:LP}{ps:List Pl}{p:Pl}(i:Bb g ps=0)(a:Fa p=true)(k:Vc g p=true)(j:Fd g ps p=true):0<=qg g ps p/\0<=tg g ps p/\tg g ps p<=208000:=by
 obtain⟨c,_,m⟩:=On i;obtain⟨⟨t,f,e⟩,_⟩:=xw (Xf (Ea p)) (l:=qe g ps p) (by unfold qe;simp);have q:=VC i a k j t f;have r:Xf (Ea p) t<=((208000:Int):Rat):=by
  unfold qe at f;rcases List.mem_cons.1 f with n|f
  ·rw[n];exact RA (Qk a).1 (xx m) (Lh a).1 (Ll m) (MD i a k j)
  ·obtain⟨o,v,rfl⟩:=List.mem_map.1 f;obtain⟨b,d⟩:=List.mem_filter.1 v;rw[Bool.and_eq_true,beq_iff_eq]at d;exact RA (Qk a).1 (En (c o b)).1 (Lh a).1 (Lh (c o b)).2 (DC a (c o b) d.2).1
 refine⟨by unfold qg;rw[e];exact q,YH i a k j,?_⟩;have s:=Rat.floor_le (qg g ps p);have u:((tg g ps p:Int):Rat)<=((208000:Int):Rat):=Rat.le_trans s (by unfold qg;rw[e];exact r);exact Rat.intCast_le_intCast.1 u
end
section
open Go.RowKit Go.Shelf Go.Sort Go.Lib
def Zl:Pl:=Lb ⟨#[97]⟩ 0 0
def Wl:Pl:=Lb ⟨#[98]⟩ 200 0
def mo:Pl:=Lb ⟨#[99]⟩ 100 80
def Mm:Pl:=Lb ⟨#[100]⟩ 50 300
def Nq:Ea Zl=[(0,0),(0+200,0)]:=by unfold Zl Ea kd;rw[show Tc (Ga (Lb ⟨#[97]⟩ 0 0)) (Ga (Lb ⟨#[97]⟩ 0 0)).length=[(0,0),(0+200,0)] by decide,Ln (List.Perm.refl _) dM dM];decide
def Us:Pb Zl=[(0,0+80),(0+200,0+80)]:=by unfold Zl Pb kd;rw[show pe (Ga (Lb ⟨#[97]⟩ 0 0)) (Ga (Lb ⟨#[97]⟩ 0 0)).length=[(0+200,0+80),(0,0+80)] by decide,Ln (List.Perm.swap _ _ _) dM dM];decide
def JG:Fa Zl=true:=by decide +kernel
def Mq:Ea Wl=[(200,0),(200+200,0)]:=by unfold Wl Ea kd;rw[show Tc (Ga (Lb ⟨#[98]⟩ 200 0)) (Ga (Lb ⟨#[98]⟩ 200 0)).length=[(200,0),(200+200,0)] by decide,Ln (List.Perm.refl _) dM dM];decide
def Ts:Pb Wl=[(200,0+80),(200+200,0+80)]:=by unfold Wl Pb kd;rw[show pe (Ga (Lb ⟨#[98]⟩ 200 0)) (Ga (Lb ⟨#[98]⟩ 200 0)).length=[(200+200,0+80),(200,0+80)] by decide,Ln (List.Perm.swap _ _ _) dM dM];decide
def IG:Fa Wl=true:=by decide +kernel
def Ct:Ea mo=[(100,80),(100+200,80)]:=by unfold mo Ea kd;rw[show Tc (Ga (Lb ⟨#[99]⟩ 100 80)) (Ga (Lb ⟨#[99]⟩ 100 80)).length=[(100,80),(100+200,80)] by decide,Ln (List.Perm.refl _) dM dM];decide
def Ss:Pb mo=[(100,80+80),(100+200,80+80)]:=by unfold mo Pb kd;rw[show pe (Ga (Lb ⟨#[99]⟩ 100 80)) (Ga (Lb ⟨#[99]⟩ 100 80)).length=[(100+200,80+80),(100,80+80)] by decide,Ln (List.Perm.swap _ _ _) dM dM];decide
def yA:Ea Mm=[(50,300),(50+200,300)]:=by unfold Mm Ea kd;rw[show Tc (Ga (Lb ⟨#[100]⟩ 50 300)) (Ga (Lb ⟨#[100]⟩ 50 300)).length=[(50,300),(50+200,300)] by decide,Ln (List.Perm.refl _) dM dM];decide
def Az:Pb Mm=[(50,300+80),(50+200,300+80)]:=by unfold Mm Pb kd;rw[show pe (Ga (Lb ⟨#[100]⟩ 50 300)) (Ga (Lb ⟨#[100]⟩ 50 300)).length=[(50+200,300+80),(50,300+80)] by decide,Ln (List.Perm.swap _ _ _) dM dM];decide
def GG:Fa Mm=true:=by decide +kernel
def pH:jf Zl Wl=1:=by unfold jf;rw[Nq,Mq];decide
def Kj:List Pl:=[Zl,Wl,mo]
def Oq:Bb yk Kj=0:=by unfold Kj Bb;simp only[jd,Kf,Df,Fd,Bf,List.any_cons,List.any_nil,List.nil_append,List.cons_append,jf,re,Ma,Jb,Mc,xu,Vc,Nq,Mq,Ct,Us,Ts,Ss];decide +kernel
def nJ:tg yk Kj Mm=140:=by unfold tg qg qe Kj;simp only[List.filter,List.map_cons,List.map_nil,Dg,List.foldl_cons,List.foldl_nil,Xf,jf,re,Ma,Jb,Mc,xu,Nq,Mq,Ct,yA,Us,Ts,Ss,Az];decide +kernel
instance:DecidableEq Be:=fun⟨a,b,c,d,e,f,g⟩ ⟨a',b',c',d',e',f',g'⟩=>decidable_of_iff (a=a'/\b=b'/\c=c'/\d=d'/\e=e'/\f=f'/\g=g') sM
def XI:Ue yk Kj 2 mo 0 4=[⟨0,100,80,200,80,(1,0),(1,0)⟩,⟨1,200,80,300,80,(1,0),(1,0)⟩]:=by unfold Ue Kj;simp only[Qc,Of,Ac,pd,Ma,Jb,Mc,xu,Nq,Mq,Ct,Us,Ts,Ss];decide +kernel
def NI:qk 100 80=[40,49,48,48,44,32,56,48,41]:=by decide +kernel
end
section
def JA{p:Pl}{t:LP}{b pin:Int}{c:Be}(i:mc (Ea p))(m:mc t)(k:Bd 104000 pin)(h:Of p t b pin=I c):Rb 300 c.fx/\Rb 300 c.tx:=by obtain⟨j,d⟩:=ZM h;rw[IO j d]at h;have h:=(Option.some.inj h).symm;have a:Gg (Nb (Ea p) t):=lk i m;have e:Rb 1 (Ma (Nb (Ea p) t)).1:=Bh a _ (by unfold Ma;exact(Nk (Tb _) (pl _)).1);have g:=Rb.reach_n (f:=Ib (Nb (Ea p) t) pin) (qs:=Jb (Nb (Ea p) t)) (o:=((Ma (Nb (Ea p) t)).1,(Ma (Nb (Ea p) t)).1)) ⟨e.up dM,e.up dM⟩ (Bh a) (fun q l=>Rb.pin_g (Bh a q l) a k) _ (nE _);subst h;exact g
def DL{g:LP}{ps:List Pl}(i:mc g)(c:∀p∈ps,Fa p=true){a:Nat}{p:Pl}(j:ps[a]?=I p){b pin:Int}(e:Bd 104000 pin){d:Be}(h:Qc g ps a p pin b=I d):Rb 300 d.fx/\Rb 300 d.tx:=by
 have f:=(Lh (c p (lM j))).1;unfold Qc at h;split at h
 ·cases h
 ·split at h
  ·exact JA f i e h
  ·split at h
   ·cases h
   ·rename_i q hq;split at h
    ·exact JA f (Lh (c q (lM hq))).2 e h
    ·cases h
end
section
open Go.RowKit Go.Shelf Go.Sort Go.Lib
attribute [local go_sem] Oper.semAt_some
def Wp(w:Z)(f:ByteArray)(x z:Int):Calls Tryz.prog 46 #[.string f,.int .i64 x,.int .i64 z] w fun e g=>∃v,e=.returned (V (Dd (Lb f x z) v))/\Ja g v Nf/\Ba w g:=by go_in;go_wp2_with(go_at_call 123;(with_reducible refine(GO _).mono ?_);rintro e i ⟨p,rfl,a,b⟩;obtain⟨j,l,k,rfl⟩:=La a;obtain⟨c,d⟩:=b.cells;(have o:=b.size);(simp only[wZ]at o);(have m:w.heap.size<i.heap.size:=oM);(have n:¬w.heap.size=i.heap.size:=oM));refine bR (v:=V (Dd (Lb f x z) (O j l k))) (by simp[results,Tryz.results46,go_sem,Dd,Lb,c,d,m,n]) rfl ⟨_,rfl,?_,eA⟩;exact a.z kA
def QJ(w:Z):Calls Tryz.prog 124 #[] w fun e a=>∃v,e=.returned v/\Ja a v yk/\Ba w a:=by go_in;go_wp2;go_ret;exact⟨_,rfl,DA _ rfl yk dM,eA⟩
def ZC(w:Z):Calls Tryz.prog 47 #[] w fun e w'=>∃vg vp,e=.returned (V #[vg,vp])/\Ja w' vg yk/\Pd w' vp Kj/\Ba w w':=by
 go_in;go_wp2_with(first|(go_at_call 124;(with_reducible refine(QJ _).mono ?_);rintro e w1 ⟨v1,rfl,n,g⟩;obtain⟨l,t,m,rfl⟩:=La n;obtain⟨P,T⟩:=g.cells;(have z1:w.heap.size<w1.heap.size:=by have:=g.size;simp only[wZ]at this;omega))|(go_at_call 46;(with_reducible refine(Wp _ ⟨#[97]⟩ 0 0).mono ?_);rintro e w2 ⟨v2,rfl,o,d⟩;obtain⟨a2,n2,c2,rfl⟩:=La o;obtain⟨Q,W⟩:=d.cells;(have z2:w.heap.size<w2.heap.size:=by have:=d.size;omega);(unfold Dd Lb);dsimp only)|(go_at_call 46;(with_reducible refine(Wp _ ⟨#[98]⟩ 200 0).mono ?_);rintro e w3 ⟨v3,rfl,r,c⟩;obtain⟨a3,n3,c3,rfl⟩:=La r;obtain⟨R,aa⟩:=c.cells;(have z3:w.heap.size<w3.heap.size:=by have:=c.size;omega);(unfold Dd Lb);dsimp only)|(go_at_call 46;(with_reducible refine(Wp _ ⟨#[99]⟩ 100 80).mono ?_);rintro e f ⟨v4,rfl,s,a⟩;obtain⟨a4,n4,c4,rfl⟩:=La s;obtain⟨S,ab⟩:=a.cells;(have z4:w.heap.size<f.heap.size:=by have:=a.size;omega);(unfold Dd Lb);dsimp only));have K1:=g.e (aN w (.cells #[O Y 0 0,O Y 0 0] 41));have z:=a.e (c.e (d.e K1));obtain⟨j,b⟩:=gX ((f.setCell ⟨w.heap.size,0,Y⟩ (O l t m)).setCell ⟨w.heap.size,1,Y⟩ (O (I ⟨f.heap.size,0,Y⟩) 3 3));have x:Ia 43 f j:=by
  rw[<-b];have h1:=(Ia.refl 43 f).set (p:=⟨w.heap.size,0,Y⟩) z dM (O l t m);exact h1.set (p:=⟨w.heap.size,1,Y⟩) (Pk z 0 _) dM _
 have hz:j.heap.size=f.heap.size:=by rw[<-b];simp only[Bg]
 have K:j.heap[w.heap.size]?=I (.cells #[O l t m,O (I ⟨f.heap.size,0,Y⟩) 3 3] 41 (0,0)):=by
  rw[<-b];exact Pk (Pk z 0 _) 1 _
 have hX:Ba w j:=by
  rw[<-b];exact(Ba.set (Ba.set (((((eR w).alloc _).trans g).trans d).trans c |>.trans a) (nE _) _) (nE _) _)
 rw[b];clear b P T Q W R aa S ab;have b0:=Ca K (i:=0) (u:=O l t m) rfl;have b1:=Ca K (i:=1) (u:=O (I ⟨f.heap.size,0,Y⟩) 3 3) rfl;have bz:=Gb K;have y:=LM j (k:=f.heap.size) (base:=w.heap.size) hz.symm oM [(Lb ⟨#[97]⟩ 0 0,O a2 n2 c2),(Lb ⟨#[98]⟩ 200 0,O a3 n3 c3),(Lb ⟨#[99]⟩ 100 80,O a4 n4 c4)] (by
  intro q y;simp only[List.mem_cons,List.not_mem_nil,or_false]at y;rcases y with rfl|rfl|rfl
  ·exact⟨((o.f c).f a).z x,by unfold Lb;dsimp only;omega⟩
  ·exact⟨(r.f a).z x,by unfold Lb;dsimp only;omega⟩
  ·exact⟨s.z x,by unfold Lb;dsimp only;omega⟩) sM
 refine bR (v:=V #[O l t m,O (I ⟨f.heap.size,0,Y⟩) 3 3]) (by simp[results,Tryz.results47,go_sem,b0,b1,bz]) rfl ⟨_,_,rfl,?_,?_,hX.alloc _⟩
 ·exact((((n.f d).f c).f a).z x).f ((eR _).alloc _)
 ·exact y.pls
def Ph(g:LP)(ps:List Pl)(p:Pl):Int:=
 if Bb g ps≠0 then Bb g ps else if Fa p=false then 2 else if Vc g p=false then 2 else if ps.any (Uf p.name)=true then 7 else if Fd g ps p=false then 12 else 0
def Co(w:Z)(g:LP)(ps:List Pl)(p:Pl)(e:Ending)(w':Z):Prop:=
 e=.returned (.tuple #[.int .i64 (if Ph g ps p=0 then tg g ps p else 0),.int .i64 (Ph g ps p)])/\Ba w w'
def Dy{w:Z}{b c:Value}{g:LP}{ps:List Pl}(k:Ja w b g)(l:Pd w c ps)(a:Gw w)(h:Bb g ps≠0):Calls Tryz.prog 49 #[V #[b,c]] w fun e d=>e=.returned (.tuple #[V #[O Y 0 0,O Y 0 0],.int .i64 (Bb g ps)])/\Ba w d:=by
 refine(ux w b c g ps k l a).mono ?_;rintro e d (⟨_,i,j⟩|⟨f,_⟩)
 ·exact⟨i,j⟩
 ·exact absurd f h
def Dt{w:Z}{b f:Value}{g:LP}{ps:List Pl}(o:Ja w b g)(p:Pd w f ps)(d:Gw w)(h:Bb g ps=0):Calls Tryz.prog 49 #[V #[b,f]] w fun e i=>∃a n c,e=.returned (.tuple #[V #[b,O a n c],.int .i64 0])/\Sb i (O a n c) ps/\Ba w i:=by
 refine(ux w b f g ps o p d).mono ?_;rintro e i (⟨k,_⟩|⟨_,q,l,j,m⟩)
 ·exact absurd h k
 ·obtain⟨a,n,c,rfl⟩:=La j;exact⟨a,n,c,l,j,m⟩
