import Derived.Test.YtjnjpagegkcgfaaGreatDoorCobA27
import Derived.Test.YtjnjpagegkcgfaaGreatDoorCobA16
import Derived.Laws.StructEq
set_option maxRecDepth 1000000
set_option maxHeartbeats 16000000
set_option linter.all false
open Option renaming none->O,some->C
open Go.Value renaming int->Y,slice->I,bool->M,agg->F
open Go.IntKind renaming i64->V,u8->G
open Go renaming World->J,Value->N,Addr->A
namespace Go.Proofs.YtjnjpagegkcgfaaGreatDoor.Cop
section
open Go.RowKit Go.Shelf Go.Sort
attribute [local go_sem] Oper.semAt_some
def GD(w:J)(p q:Pl)(s t:N)(v:∃a n c,s=I a n c)(x:∃a n c,t=I a n c):Calls Tryz.prog 67 #[F (Dd p s),F (Dd q t)] w fun e K=>e=.returned (M (sd p q))/\Ba w K:=by
 obtain⟨a,n,c,rfl⟩:=v;obtain⟨Q,n',T,rfl⟩:=x;obtain⟨nm,sh,d,de,gx,gz,wy,R,S,f⟩:=p;obtain⟨y,z,W,o,r,u,P,l,m,b⟩:=q;unfold sd Dd;dsimp only;by_cases g:f=b
 ·have j:(f==b)=true:=by simpa using g
  rw[j];clear g;go_in;go_wp2;go_ret;exact⟨rfl,eA⟩
 have j:(f==b)=false:=by simpa using g
 rw[j];clear g;by_cases i:f=3
 ·have k:(f==3)=true:=by simpa using i
  rw[k];clear i;go_in;go_wp2;go_ret;exact⟨rfl,eA⟩
 have k:(f==3)=false:=by simpa using i
 rw[k];clear i;go_in;go_wp2;go_ret;exact⟨rfl,eA⟩
def Wu{p:Pl}(h:Fa p=true):Ra (Ea p)<Ya (Ea p):=(Ro h).2.2.1
def Sy{p q:Pl}(e:Fa p=true)(d:Fa q=true)(f:¬Ya (Ea p)<=Ra (Ea q))(g:¬Ya (Ea q)<=Ra (Ea p)):(Nb (Ea p) (Pb q)).lo<(Nb (Ea p) (Pb q)).hi:=by have a:=Ro d;have b:=Wu e;have c:=Wu d;unfold Nb;dsimp only;omega
def DJ(w:J)(p q:Pl)(s t:N)(hs:yb w s p.shape)(ht:yb w t q.shape)(hp:Fa p=true)(hq:Fa q=true):Calls Tryz.prog 42 #[F (Dd p s),F (Dd q t)] w fun e w'=>e=.returned (Y G (jf p q))/\Ba w w':=by
 have aM:=Lh hp;have aO:=Lh hq;have x:=Aa (fun W (hW:Ba w W)=>Cr W s p (hs.f hW) hp);have y:=Aa (fun W (hW:Ba w W)=>Cr W t q (ht.f hW) hq);have aD:=Aa (fun W (hW:Ba w W)=>Ov W s p (hs.f hW) hp);have al:=Aa (fun W (hW:Ba w W)=>Ov W t q (ht.f hW) hq);have aj:=Aa (fun W v (hv:yb W v (Ea p))=>Er W v _ hv aM.1.1);have ak:=Aa (fun W v (hv:yb W v (Ea q))=>Er W v _ hv aO.1.1);have aC:=Aa (fun W v1 v2 (h1:yb W v1 (Ea p)) (h2:yb W v2 (Pb q)) aU=>Dw W v1 v2 _ _ h1 h2 aM.1 aO.2 (Qk hp).1 (En hq).1 aU);have aR:=Aa (fun W v1 v2 (h1:yb W v1 (Ea q)) (h2:yb W v2 (Pb p)) aU=>Dw W v1 v2 _ _ h1 h2 aO.1 aM.2 (Qk hq).1 (En hp).1 aU);have aW:=Aa (Sy hp hq);have aX:=Aa (Sy hq hp);obtain⟨k,hk⟩:=gX (jf p q);rw[hk];unfold jf at hk;obtain⟨l1,e1⟩:=gX (Ra (Ea p));obtain⟨r1,e2⟩:=gX (Ya (Ea p));obtain⟨l2,e3⟩:=gX (Ra (Ea q));obtain⟨r2,e4⟩:=gX (Ya (Ea q));rw[show (Pa (Ea p) 0).1=l1 from e1,show (Pa (Ea p) ((Ea p).length-1)).1=r1 from e2]at aj;rw[show (Pa (Ea q) 0).1=l2 from e3,show (Pa (Ea q) ((Ea q).length-1)).1=r2 from e4]at ak;rw[e1,e2,e3,e4]at hk aW;rw[e1,e2,e3,e4]at aX;obtain⟨f1,e5⟩:=gX (re (Ea p) (Pb q));obtain⟨f2,e6⟩:=gX (re (Ea q) (Pb p));rw[e5,e6]at hk;rw[e5]at aC;rw[e6]at aR;have Hk:=Aa hk;obtain⟨a,n,c,rfl⟩:=hs.i;obtain⟨a',n',c',rfl⟩:=ht.i;clear hk e1 e2 e3 e4 e5 e6 aM aO hs ht hp hq;obtain⟨nm,sh,d,de,gx,gz,wy,ax,az,sk⟩:=p;obtain⟨av,aZ,d',ao,ap,aq,ay,am,an,aw⟩:=q;unfold Dd at x y aD al ⊢;dsimp only at x y aD al ⊢;by_cases h1:r1<=l2
 ·have e:=Hk.o;rw[if_pos h1]at e;subst e;go_in;go_wp2_with(first|(go_at_call 36;(with_reducible refine(x.o _ ?_).mono ?_);exact eA;rintro e w1 ⟨v1,rfl,f,z⟩;obtain⟨a1,n1,c1,rfl⟩:=f.i;obtain⟨⟨aE,aI⟩,ab,ac⟩:=Zb w z;(have X1:Ba w w1:=eA))|(go_at_call 118;(with_reducible refine(aj.o w1 _ f.pr).mono ?_);rintro e w2 ⟨rfl,j⟩;obtain⟨⟨aF,aJ⟩,ad,ae⟩:=Zb w j;(have X2:Ba w w2:=X1.trans j))|(go_at_call 36;(with_reducible refine(y.o w2 X2).mono ?_);rintro e w3 ⟨v3,rfl,g,l⟩;obtain⟨a3,n3,c3,rfl⟩:=g.i;obtain⟨⟨aG,aK⟩,af,ag⟩:=Zb w l;(have X3:Ba w w3:=X2.trans l))|(go_at_call 118;(with_reducible refine(ak.o w3 _ g.pr).mono ?_);rintro e w4 ⟨rfl,m⟩;obtain⟨⟨aH,aL⟩,ah,ai⟩:=Zb w m;(have S:Ba w w4:=X3.trans m)));go_ret;exact⟨rfl,S⟩
 by_cases h2:r2<=l1
 ·have e:=Hk.o;rw[if_neg h1,if_pos h2]at e;subst e;go_in;go_wp2_with(first|(go_at_call 36;(with_reducible refine(x.o _ ?_).mono ?_);exact eA;rintro e w1 ⟨v1,rfl,f,z⟩;obtain⟨a1,n1,c1,rfl⟩:=f.i;obtain⟨⟨aE,aI⟩,ab,ac⟩:=Zb w z;(have X1:Ba w w1:=eA))|(go_at_call 118;(with_reducible refine(aj.o w1 _ f.pr).mono ?_);rintro e w2 ⟨rfl,j⟩;obtain⟨⟨aF,aJ⟩,ad,ae⟩:=Zb w j;(have X2:Ba w w2:=X1.trans j))|(go_at_call 36;(with_reducible refine(y.o w2 X2).mono ?_);rintro e w3 ⟨v3,rfl,g,l⟩;obtain⟨a3,n3,c3,rfl⟩:=g.i;obtain⟨⟨aG,aK⟩,af,ag⟩:=Zb w l;(have X3:Ba w w3:=X2.trans l))|(go_at_call 118;(with_reducible refine(ak.o w3 _ g.pr).mono ?_);rintro e w4 ⟨rfl,m⟩;obtain⟨⟨aH,aL⟩,ah,ai⟩:=Zb w m;(have S:Ba w w4:=X3.trans m)));go_ret;exact⟨rfl,S⟩
 have b1:=aW.o h1 h2;have b2:=aX.o h2 h1;have B1:=Aa b1;have B2:=Aa b2;have aT:=Hk.o;rw[if_neg h1,if_neg h2]at aT;have aY:=Aa aT;clear b1 b2 aT;cases f1 with
 |true=>
  have e:=aY.o;rw[if_pos rfl]at e;subst e;go_in;go_upto_region 7 with (first|(go_at_call 36;(with_reducible refine(x.o _ ?_).mono ?_);exact eA;rintro e w1 ⟨v1,rfl,f,z⟩;obtain⟨a1,n1,c1,rfl⟩:=f.i;obtain⟨⟨aE,aI⟩,ab,ac⟩:=Zb w z;(have X1:Ba w w1:=eA))|(go_at_call 118;(with_reducible refine(aj.o w1 _ f.pr).mono ?_);rintro e w2 ⟨rfl,j⟩;obtain⟨⟨aF,aJ⟩,ad,ae⟩:=Zb w j;(have X2:Ba w w2:=X1.trans j))|(go_at_call 36;(with_reducible refine(y.o w2 X2).mono ?_);rintro e w3 ⟨v3,rfl,g,l⟩;obtain⟨a3,n3,c3,rfl⟩:=g.i;obtain⟨⟨aG,aK⟩,af,ag⟩:=Zb w l;(have X3:Ba w w3:=X2.trans l))|(go_at_call 118;(with_reducible refine(ak.o w3 _ g.pr).mono ?_);rintro e w4 ⟨rfl,m⟩;obtain⟨⟨aH,aL⟩,ah,ai⟩:=Zb w m;(have S:Ba w w4:=X3.trans m)));refine Kc [(⟨w.heap.size,0,O⟩,.string nm),(⟨w.heap.size,1,O⟩,I a n c),(⟨w.heap.size,2,O⟩,Y V d),(⟨w.heap.size,3,O⟩,Y V de),(⟨w.heap.size,4,O⟩,Y V gx),(⟨w.heap.size,5,O⟩,Y V gz),(⟨w.heap.size,6,O⟩,Y V wy),(⟨w.heap.size,7,O⟩,Y V ax),(⟨w.heap.size,8,O⟩,Y V az),(⟨w.heap.size,9,O⟩,Y G sk),(⟨w.heap.size+1,0,O⟩,.string av),(⟨w.heap.size+1,1,O⟩,I a' n' c'),(⟨w.heap.size+1,2,O⟩,Y V d'),(⟨w.heap.size+1,3,O⟩,Y V ao),(⟨w.heap.size+1,4,O⟩,Y V ap),(⟨w.heap.size+1,5,O⟩,Y V aq),(⟨w.heap.size+1,6,O⟩,Y V ay),(⟨w.heap.size+1,7,O⟩,Y V am),(⟨w.heap.size+1,8,O⟩,Y V an),(⟨w.heap.size+1,9,O⟩,Y G aw)] cA fun b=>?_;refine Db (i:=0) ?_;refine Db (i:=2) ?_;refine Ub (i:=1) (x.o _ (S.drew)) ?_;rintro e w5 ⟨v5,rfl,K,o⟩;obtain⟨a5,n5,c5,rfl⟩:=K.i;refine⟨_,rfl,(cE b o),fun b=>?_⟩;refine Ub (i:=3) (al.o w5 (S.drew.trans o)) ?_;rintro e w6 ⟨v6,rfl,P,r⟩;obtain⟨a6,n6,c6,rfl⟩:=P.i;refine⟨_,rfl,(cE b r),fun b=>?_⟩;refine Ub (i:=4) (aC.o w6 _ _ (K.pr.f r) P.pr B1.o) ?_;rintro e w7 ⟨rfl,u⟩;have X7:Ba w w7:=(S.drew.trans o).trans (r.trans u);refine⟨_,rfl,(cE b u),fun b=>?_⟩;refine Db (i:=5) ?_;refine Wb ?_;have R:=o.trans (r.trans u);obtain⟨⟨aP,aQ⟩,aA,aB⟩:=Zb w R;go_wp2;go_ret;exact⟨rfl,X7⟩
 |false=>
  have e1:=aY.o;rw[if_neg dM]at e1;cases f2 with
  |true=>
   rw[if_pos rfl]at e1;subst e1;go_in;go_upto_region 7 with (first|(go_at_call 36;(with_reducible refine(x.o _ ?_).mono ?_);exact eA;rintro e w1 ⟨v1,rfl,f,z⟩;obtain⟨a1,n1,c1,rfl⟩:=f.i;obtain⟨⟨aE,aI⟩,ab,ac⟩:=Zb w z;(have X1:Ba w w1:=eA))|(go_at_call 118;(with_reducible refine(aj.o w1 _ f.pr).mono ?_);rintro e w2 ⟨rfl,j⟩;obtain⟨⟨aF,aJ⟩,ad,ae⟩:=Zb w j;(have X2:Ba w w2:=X1.trans j))|(go_at_call 36;(with_reducible refine(y.o w2 X2).mono ?_);rintro e w3 ⟨v3,rfl,g,l⟩;obtain⟨a3,n3,c3,rfl⟩:=g.i;obtain⟨⟨aG,aK⟩,af,ag⟩:=Zb w l;(have X3:Ba w w3:=X2.trans l))|(go_at_call 118;(with_reducible refine(ak.o w3 _ g.pr).mono ?_);rintro e w4 ⟨rfl,m⟩;obtain⟨⟨aH,aL⟩,ah,ai⟩:=Zb w m;(have S:Ba w w4:=X3.trans m)));refine Kc [(⟨w.heap.size,0,O⟩,.string nm),(⟨w.heap.size,1,O⟩,I a n c),(⟨w.heap.size,2,O⟩,Y V d),(⟨w.heap.size,3,O⟩,Y V de),(⟨w.heap.size,4,O⟩,Y V gx),(⟨w.heap.size,5,O⟩,Y V gz),(⟨w.heap.size,6,O⟩,Y V wy),(⟨w.heap.size,7,O⟩,Y V ax),(⟨w.heap.size,8,O⟩,Y V az),(⟨w.heap.size,9,O⟩,Y G sk),(⟨w.heap.size+1,0,O⟩,.string av),(⟨w.heap.size+1,1,O⟩,I a' n' c'),(⟨w.heap.size+1,2,O⟩,Y V d'),(⟨w.heap.size+1,3,O⟩,Y V ao),(⟨w.heap.size+1,4,O⟩,Y V ap),(⟨w.heap.size+1,5,O⟩,Y V aq),(⟨w.heap.size+1,6,O⟩,Y V ay),(⟨w.heap.size+1,7,O⟩,Y V am),(⟨w.heap.size+1,8,O⟩,Y V an),(⟨w.heap.size+1,9,O⟩,Y G aw)] cA fun b=>?_;refine Db (i:=0) ?_;refine Db (i:=2) ?_;refine Ub (i:=1) (x.o _ (S.drew)) ?_;rintro e w5 ⟨v5,rfl,K,o⟩;obtain⟨a5,n5,c5,rfl⟩:=K.i;refine⟨_,rfl,(cE b o),fun b=>?_⟩;refine Ub (i:=3) (al.o w5 (S.drew.trans o)) ?_;rintro e w6 ⟨v6,rfl,P,r⟩;obtain⟨a6,n6,c6,rfl⟩:=P.i;refine⟨_,rfl,(cE b r),fun b=>?_⟩;refine Ub (i:=4) (aC.o w6 _ _ (K.pr.f r) P.pr B1.o) ?_;rintro e w7 ⟨rfl,u⟩;have X7:Ba w w7:=(S.drew.trans o).trans (r.trans u);refine⟨_,rfl,(cE b u),fun b=>?_⟩;refine Db (i:=5) ?_;refine Wb ?_;have R:=o.trans (r.trans u);obtain⟨⟨aP,aQ⟩,aA,aB⟩:=Zb w R;go_upto_region 9 with fail;refine Kc [(⟨w.heap.size,0,O⟩,.string nm),(⟨w.heap.size,1,O⟩,I a n c),(⟨w.heap.size,2,O⟩,Y V d),(⟨w.heap.size,3,O⟩,Y V de),(⟨w.heap.size,4,O⟩,Y V gx),(⟨w.heap.size,5,O⟩,Y V gz),(⟨w.heap.size,6,O⟩,Y V wy),(⟨w.heap.size,7,O⟩,Y V ax),(⟨w.heap.size,8,O⟩,Y V az),(⟨w.heap.size,9,O⟩,Y G sk),(⟨w.heap.size+1,0,O⟩,.string av),(⟨w.heap.size+1,1,O⟩,I a' n' c'),(⟨w.heap.size+1,2,O⟩,Y V d'),(⟨w.heap.size+1,3,O⟩,Y V ao),(⟨w.heap.size+1,4,O⟩,Y V ap),(⟨w.heap.size+1,5,O⟩,Y V aq),(⟨w.heap.size+1,6,O⟩,Y V ay),(⟨w.heap.size+1,7,O⟩,Y V am),(⟨w.heap.size+1,8,O⟩,Y V an),(⟨w.heap.size+1,9,O⟩,Y G aw)] cA fun b=>?_;refine Db (i:=0) ?_;refine Db (i:=2) ?_;refine Ub (i:=1) (y.o _ (X7.drew)) ?_;rintro e w8 ⟨v8,rfl,ar,T⟩;obtain⟨a8,n8,c8,rfl⟩:=ar.i;refine⟨_,rfl,(cE b T),fun b=>?_⟩;refine Ub (i:=3) (aD.o w8 (X7.drew.trans T)) ?_;rintro e w9 ⟨v9,rfl,au,aa⟩;obtain⟨a9,n9,c9,rfl⟩:=au.i;refine⟨_,rfl,(cE b aa),fun b=>?_⟩;refine Ub (i:=4) (aR.o w9 _ _ (ar.pr.f aa) au.pr B2.o) ?_;rintro e aV ⟨rfl,Q⟩;have aS:Ba w aV:=(X7.drew.trans T).trans (aa.trans Q);refine⟨_,rfl,(cE b Q),fun b=>?_⟩;refine Db (i:=5) ?_;refine Wb ?_;go_wp2;go_ret;exact⟨rfl,aS⟩
  |false=>
   rw[if_neg dM]at e1;subst e1;go_in;go_upto_region 7 with (first|(go_at_call 36;(with_reducible refine(x.o _ ?_).mono ?_);exact eA;rintro e w1 ⟨v1,rfl,f,z⟩;obtain⟨a1,n1,c1,rfl⟩:=f.i;obtain⟨⟨aE,aI⟩,ab,ac⟩:=Zb w z;(have X1:Ba w w1:=eA))|(go_at_call 118;(with_reducible refine(aj.o w1 _ f.pr).mono ?_);rintro e w2 ⟨rfl,j⟩;obtain⟨⟨aF,aJ⟩,ad,ae⟩:=Zb w j;(have X2:Ba w w2:=X1.trans j))|(go_at_call 36;(with_reducible refine(y.o w2 X2).mono ?_);rintro e w3 ⟨v3,rfl,g,l⟩;obtain⟨a3,n3,c3,rfl⟩:=g.i;obtain⟨⟨aG,aK⟩,af,ag⟩:=Zb w l;(have X3:Ba w w3:=X2.trans l))|(go_at_call 118;(with_reducible refine(ak.o w3 _ g.pr).mono ?_);rintro e w4 ⟨rfl,m⟩;obtain⟨⟨aH,aL⟩,ah,ai⟩:=Zb w m;(have S:Ba w w4:=X3.trans m)));refine Kc [(⟨w.heap.size,0,O⟩,.string nm),(⟨w.heap.size,1,O⟩,I a n c),(⟨w.heap.size,2,O⟩,Y V d),(⟨w.heap.size,3,O⟩,Y V de),(⟨w.heap.size,4,O⟩,Y V gx),(⟨w.heap.size,5,O⟩,Y V gz),(⟨w.heap.size,6,O⟩,Y V wy),(⟨w.heap.size,7,O⟩,Y V ax),(⟨w.heap.size,8,O⟩,Y V az),(⟨w.heap.size,9,O⟩,Y G sk),(⟨w.heap.size+1,0,O⟩,.string av),(⟨w.heap.size+1,1,O⟩,I a' n' c'),(⟨w.heap.size+1,2,O⟩,Y V d'),(⟨w.heap.size+1,3,O⟩,Y V ao),(⟨w.heap.size+1,4,O⟩,Y V ap),(⟨w.heap.size+1,5,O⟩,Y V aq),(⟨w.heap.size+1,6,O⟩,Y V ay),(⟨w.heap.size+1,7,O⟩,Y V am),(⟨w.heap.size+1,8,O⟩,Y V an),(⟨w.heap.size+1,9,O⟩,Y G aw)] cA fun b=>?_;refine Db (i:=0) ?_;refine Db (i:=2) ?_;refine Ub (i:=1) (x.o _ (S.drew)) ?_;rintro e w5 ⟨v5,rfl,K,o⟩;obtain⟨a5,n5,c5,rfl⟩:=K.i;refine⟨_,rfl,(cE b o),fun b=>?_⟩;refine Ub (i:=3) (al.o w5 (S.drew.trans o)) ?_;rintro e w6 ⟨v6,rfl,P,r⟩;obtain⟨a6,n6,c6,rfl⟩:=P.i;refine⟨_,rfl,(cE b r),fun b=>?_⟩;refine Ub (i:=4) (aC.o w6 _ _ (K.pr.f r) P.pr B1.o) ?_;rintro e w7 ⟨rfl,u⟩;have X7:Ba w w7:=(S.drew.trans o).trans (r.trans u);refine⟨_,rfl,(cE b u),fun b=>?_⟩;refine Db (i:=5) ?_;refine Wb ?_;have R:=o.trans (r.trans u);obtain⟨⟨aP,aQ⟩,aA,aB⟩:=Zb w R;go_upto_region 9 with fail;refine Kc [(⟨w.heap.size,0,O⟩,.string nm),(⟨w.heap.size,1,O⟩,I a n c),(⟨w.heap.size,2,O⟩,Y V d),(⟨w.heap.size,3,O⟩,Y V de),(⟨w.heap.size,4,O⟩,Y V gx),(⟨w.heap.size,5,O⟩,Y V gz),(⟨w.heap.size,6,O⟩,Y V wy),(⟨w.heap.size,7,O⟩,Y V ax),(⟨w.heap.size,8,O⟩,Y V az),(⟨w.heap.size,9,O⟩,Y G sk),(⟨w.heap.size+1,0,O⟩,.string av),(⟨w.heap.size+1,1,O⟩,I a' n' c'),(⟨w.heap.size+1,2,O⟩,Y V d'),(⟨w.heap.size+1,3,O⟩,Y V ao),(⟨w.heap.size+1,4,O⟩,Y V ap),(⟨w.heap.size+1,5,O⟩,Y V aq),(⟨w.heap.size+1,6,O⟩,Y V ay),(⟨w.heap.size+1,7,O⟩,Y V am),(⟨w.heap.size+1,8,O⟩,Y V an),(⟨w.heap.size+1,9,O⟩,Y G aw)] cA fun b=>?_;refine Db (i:=0) ?_;refine Db (i:=2) ?_;refine Ub (i:=1) (y.o _ (X7.drew)) ?_;rintro e w8 ⟨v8,rfl,ar,T⟩;obtain⟨a8,n8,c8,rfl⟩:=ar.i;refine⟨_,rfl,(cE b T),fun b=>?_⟩;refine Ub (i:=3) (aD.o w8 (X7.drew.trans T)) ?_;rintro e w9 ⟨v9,rfl,au,aa⟩;obtain⟨a9,n9,c9,rfl⟩:=au.i;refine⟨_,rfl,(cE b aa),fun b=>?_⟩;refine Ub (i:=4) (aR.o w9 _ _ (ar.pr.f aa) au.pr B2.o) ?_;rintro e aV ⟨rfl,Q⟩;have aS:Ba w aV:=(X7.drew.trans T).trans (aa.trans Q);refine⟨_,rfl,(cE b Q),fun b=>?_⟩;refine Db (i:=5) ?_;refine Wb ?_;go_wp2;go_ret;exact⟨rfl,aS⟩
def Cz{X:Int}{m:Nat}(b:X<=400000)(a:-400000<=X):-400000<=X.tdiv (m:Int)/\X.tdiv (m:Int)<=400000:=by
 have e:(X.tdiv (m:Int)).natAbs<=X.natAbs:=by rw[Int.natAbs_tdiv];exact Nat.div_le_self _ _
 omega
def TQ(X Z:Int)(a b:N):Prop:=∃m n:Nat,a=Y V m/\b=Y V n/\Nat.gcd m n=Nat.gcd X.natAbs Z.natAbs/\m<=1000000/\n<=1000000
def qF(w:J)(X Z:Int)(a b:N)(W:J):Prop:=TQ X Z a b/\Ba w W/\W.heap[w.heap.size+1+1]?=C (.cells #[Y V 0,Y V 0] 27 (0,0))
def ZN(w:J)(a b:Int×Int)(ha:Bd 200000 a.1/\Bd 200000 a.2)(hb:Bd 200000 b.1/\Bd 200000 b.2)(g:a.1<b.1):Calls Tryz.prog 83 #[F #[Y V a.1,Y V a.2],F #[Y V b.1,Y V b.2]] w (Ek w (Vg (a,b))):=by
 obtain⟨y,z⟩:=a;obtain⟨P,Q⟩:=b;unfold Vg;dsimp only at *;unfold Bd at ha hb;obtain⟨X,R⟩:=gX (P-y);obtain⟨Z,S⟩:=gX (Q-z);rw[R,S];have x0:0<X:=oM;have x1:X<=400000:=oM;have z0:-400000<=Z:=oM;have z1:Z<=400000:=oM;have r:=Aa (And.intro R S);clear ha hb g;go_in;go_upto_region 1 with fail;refine Kc [(⟨w.heap.size,0,O⟩,Y V y),(⟨w.heap.size,1,O⟩,Y V z),(⟨w.heap.size+1,0,O⟩,Y V P),(⟨w.heap.size+1,1,O⟩,Y V Q)] cA fun c=>?_;have e1:IntKind.i64.wrap X=X:=iW _ oM;have e2:IntKind.i64.wrap Z=Z:=iW _ oM;refine Db (i:=0) ?_;refine Db (i:=1) ?_;refine Db (i:=2) ?_;refine Db (i:=3) ?_;refine Db (i:=4) ?_;refine Db (i:=5) ?_;refine Db (i:=6) ?_;refine Db (i:=7) ?_;refine Db (i:=8) ?_;refine Db (i:=9) ?_;refine Db (i:=10) ?_;refine Db (i:=11) ?_;refine Wb ?_;obtain⟨W1,d⟩:=gX ((((w.alloc (.cells #[Y V y,Y V z] 27)).alloc (.cells #[Y V P,Y V Q] 27)).alloc (.cells #[Y V 0,Y V 0] 27)).drew);have x:Ba w W1:=by rw[<-d];exact((((eR w).alloc _).alloc _).alloc _).drew
 have T:W1.heap[w.heap.size+1+1]?=C (.cells #[Y V 0,Y V 0] 27 (0,0)):=by rw[<-d];exact Ec _ _ _ sM
 rw[d];clear d c e1 e2 r R S;go_upto_if 22 with fail;go_cut [7,8] (qF w X Z)
 case first =>
  by_cases hz:Z<0
  ·go_wp2;go_meet;exact⟨⟨X.toNat,(-Z).toNat,by rw[Int.toNat_of_nonneg oM],by rw[Int.toNat_of_nonneg oM],by congr 1<;>omega,by omega,by omega⟩,x,T⟩
  ·go_wp2;go_meet;exact⟨⟨X.toNat,Z.toNat,by rw[Int.toNat_of_nonneg oM],by rw[Int.toNat_of_nonneg oM],by congr 1<;>omega,by omega,by omega⟩,x,T⟩
 case rest =>
  clear x T;go_wp2;go_loopw [7,8] (qF w X Z) (fun _ t8 _=>(intOf t8).toNat)
  case atStart=>exact hcut
  case round =>
   clear hcut;obtain⟨⟨m,n,rfl,rfl,f,hm,hn⟩,g,e⟩:=hrel;by_cases h0:n=0
   ·subst h0;have r0:=Ca e (i:=0) (u:=Y V 0) rfl;have r1:=Ca e (i:=1) (u:=Y V 0) rfl;have W:=Ua e;have aa:=W 0;have ab:=W 1;have rz:=Gb e;rw[Nat.gcd_zero_right]at f;(have ad:0<m:=by rw[f];exact Nat.gcd_pos_of_pos_left _ oM);have Hk:=Aa e;have ae:¬m=0:=oM;have q1:=Cz (X:=X) (m:=m) x1 oM;have q2:=Cz (X:=Z) (m:=m) z1 z0;obtain⟨o,k⟩:=gX (X.tdiv (m:Int));obtain⟨q,l⟩:=gX (Z.tdiv (m:Int));rw[k]at q1;rw[l]at q2;have s:Sa (X.tdiv ((Nat.gcd X.natAbs Z.natAbs:Nat):Int)=o):=Aa (by rw[<-f];exact k);have t:Sa (Z.tdiv ((Nat.gcd X.natAbs Z.natAbs:Nat):Int)=q):=Aa (by rw[<-f];exact l);have e1:IntKind.i64.wrap o=o:=iW _ oM;have e2:IntKind.i64.wrap q=q:=iW _ oM;have HX:=Aa g;clear e W f q1 q2 g;go_wp2;refine Kc [] (Da.nil _) fun c=>?_;refine Db (i:=0) ?_;refine Db (i:=1) ?_;refine Db (i:=2) ?_;refine Db (i:=3) ?_;refine Db (i:=4) ?_;refine Db (i:=5) ?_;refine Db (i:=6) ?_;refine Ld (i:=7) fun K hK=>?_;go_simp;refine kO hK (Da.nil _) (fun c=>?_);clear hK K;refine Wb ?_;go_wp2;exact bR (v:=F #[Y V o,Y V q]) (by simp[results,Tryz.results83,go_sem,r0,r1,aa,ab,rz]) rfl ⟨by dsimp only;rw[s.o,t.o],(HX.o.drew.set (p:=⟨w.heap.size+1+1,0,O⟩) dO _).set (p:=⟨w.heap.size+1+1,1,O⟩) dO _⟩
   ·have af:¬(n:Int)=0:=oM;have ac:m%n<n:=Nat.mod_lt _ oM;(have j:Nat.gcd n (m%n)=Nat.gcd X.natAbs Z.natAbs:=by rw[<-f,Nat.gcd_comm n,<-Nat.gcd_rec,Nat.gcd_comm]);have HX:=Aa (And.intro g (And.intro e j));clear e f j g;go_wp2;refine Kc [] (Da.nil _) fun c=>?_;refine Db (i:=0) ?_;refine Db (i:=1) ?_;refine Db (i:=2) ?_;refine Db (i:=3) ?_;refine Db (i:=4) ?_;refine Db (i:=5) ?_;refine Wb ?_;go_wp2;go_roundw
    case rel=>exact⟨⟨n,m%n,rfl,rfl,HX.o.2.2,by omega,by omega⟩,HX.o.1.drew,(eR _).drew.e HX.o.2.1⟩
    case measure =>
     show ((m:Int).tmod (n:Int)).toNat<((n:Nat):Int).toNat
     rw[show (m:Int).tmod (n:Int)=((m%n:Nat):Int)from rfl];omega
def ky(w:J)(l:LP)(t3:N)(W:J):Prop:=
 ∃i:Nat,t3=Y V i/\i<=l.length/\Ba w W/\∀j,j<i->Gf l j=true
def ZG(l:LP)(i:Nat):Gf l i=(!og (Pa l i).1&&(!og (Pa l i).2&&(i==0 || decide ((Pa l (i-1)).1<(Pa l i).1)))):=rfl
def IJ(w:J)(v:N)(l:LP)(h:yb w v l)(hl:l.length<=1000000):Calls Tryz.prog 139 #[v] w fun e w'=>e=.returned (M (Za l))/\Ba w w':=by
 obtain⟨a,c,rfl⟩:=h.form;obtain⟨n,hn⟩:=gX l.length;rw[hn]at hl ⊢;obtain⟨Q,R⟩:=gX (Za l);rw[R];have T:=Aa R;have K:=Aa hn;have H:=Aa h;clear hn h R;go_in;go_wp2;go_loopw [3] (ky w l) (fun t3 _=>n-(intOf t3).toNat)
 case atStart=>exact⟨0,rfl,by omega,eR _,fun j hj=>by omega⟩
 case round =>
  obtain⟨i,rfl,hi,hx,u⟩:=hrel;rw[K.o]at hi;have r:=Aa u;clear u;by_cases ad:i<n
  ·obtain⟨b,o,rfl,hb,c0,c1⟩:=(H.o.f hx).pt (i:=i) (by rw[K.o];exact ad);have p:=ZG l i;have af:Gf l i=false->Q=false:=fun h9=>by rw[<-T.o];exact Zt (by rw[K.o];exact ad) h9
   have f:0<i->∃px pz,Pa l (i-1)=(px,pz)/\wr.cell? ⟨b,o+(i-1)*2,O⟩=C (Y V px):=fun h0=>by
    obtain⟨b2,o2,e2,-,d0,-⟩:=(H.o.f hx).pt (i:=i-1) (by rw[K.o];omega);cases e2;exact⟨_,_,rfl,d0⟩
   obtain⟨⟨x,z⟩,hq⟩:∃q,Pa l i=q:=⟨_,rfl⟩;rw[hq]at c0 c1 p;dsimp only at c0 c1 p;obtain⟨bx,ab⟩:=gX ((!og x));obtain⟨bz,ac⟩:=gX ((!og z));have hX:=fun W=>ou W x;have hZ:=fun W=>ou W z;rw[ab]at hX p;rw[ac]at hZ p;have HX:=Aa hX;have HZ:=Aa hZ;have t:=Aa p;have P:=Aa af;have g0:(0:Int)<=(i:Int):=oM;have g1:(i:Int)<(n:Int):=oM;clear hq ab ac hX hZ p af;cases bx with
   |false=>
    have e:Q=false:=P.o (by rw[t.o];rfl);subst e;clear f;go_wp2;refine Kc [(⟨b,o+i*2,O⟩,Y V x),(⟨b,o+i*2+1,O⟩,Y V z)] cA fun d=>?_;refine sN 0 ?_
    (iterate 5 refine xb ?_);refine oN ?_;refine Ub (i:=5) (HX.o wr.drew) ?_;rintro e y ⟨rfl,g⟩;refine⟨_,rfl,(cE d g),fun d=>?_⟩;refine sN 6 ?_
    iterate 2 refine xb ?_
    iterate 7 refine Ee ?_
    iterate 2 refine xb ?_
    (iterate 16 refine Ee ?_);refine xb ?_;refine oN ?_;refine Wb ?_;go_wp2;go_ret;exact⟨rfl,eA⟩
   |true=>
    cases bz with
    |false=>
     have e:Q=false:=P.o (by rw[t.o];rfl);subst e;clear f;go_wp2;refine Kc [(⟨b,o+i*2,O⟩,Y V x),(⟨b,o+i*2+1,O⟩,Y V z)] cA fun d=>?_;refine sN 0 ?_
     (iterate 5 refine xb ?_);refine oN ?_;refine Ub (i:=5) (HX.o wr.drew) ?_;rintro e y ⟨rfl,g⟩;refine⟨_,rfl,(cE d g),fun d=>?_⟩;refine sN 6 ?_
     (iterate 7 refine xb ?_);refine oN ?_;refine Ub (i:=13) (HZ.o y) ?_;rintro e w6 ⟨rfl,k⟩;refine⟨_,rfl,(cE d k),fun d=>?_⟩;refine sN 14 ?_
     iterate 3 refine xb ?_
     (iterate 16 refine Ee ?_);refine xb ?_;refine oN ?_;refine Wb ?_;go_wp2;go_ret;exact⟨rfl,eA⟩
    |true=>
     by_cases ag:i=0
     ·subst ag;(have e9:Gf l 0=true:=by rw[t.o];rfl);simp only[Nat.zero_mul,Nat.add_zero]at c0 c1;have E9:=Aa e9;clear e9 f;go_wp2;refine Kc [(⟨b,o,O⟩,Y V x),(⟨b,o+1,O⟩,Y V z)] cA fun d=>?_;refine sN 0 ?_
      (iterate 5 refine xb ?_);refine oN ?_;refine Ub (i:=5) (HX.o wr.drew) ?_;rintro e y ⟨rfl,g⟩;refine⟨_,rfl,(cE d g),fun d=>?_⟩;refine sN 6 ?_
      (iterate 7 refine xb ?_);refine oN ?_;refine Ub (i:=13) (HZ.o y) ?_;rintro e w6 ⟨rfl,k⟩;refine⟨_,rfl,(cE d k),fun d=>?_⟩;refine sN 14 ?_
      iterate 6 refine xb ?_
      iterate 12 refine Ee ?_
      (iterate 2 refine xb ?_);refine oN ?_;refine Wb ?_;go_wp2;go_roundw
      case rel=>exact⟨0+1,by go_num,by rw[K.o];omega,(hx.drew.trans g).trans k,fun j hj=>by
        by_cases S:j=0
        ·subst S;exact E9.o
        ·exact r.o j oM⟩
      case measure=>simp[intOf];omega
     ·obtain⟨m,rfl⟩:∃m,i=m+1:=⟨i-1,by omega⟩;obtain⟨px,pz,hp,d0⟩:=f oM;simp only[Nat.add_sub_cancel]at hp d0;have s:=t.o;rw[Nat.add_sub_cancel,hp]at s;have e8:(m+1==0)=false:=sM;rw[e8,Bool.true_and,Bool.true_and,Bool.false_or]at s;dsimp only at s;have aa:=Aa s;have k1:(0:Int)<=(m:Int):=oM;have k2:(m:Int)<(n:Int):=oM;have k3:(0:Int)<(m:Int)+1:=oM;have k4:((m:Int)+1).toNat=m+1:=oM;have k5:(m:Int)+1-1=(m:Int):=oM;have k6:(0:Int)<=(m:Int)+1:=oM;have k7:(m:Int)+1<(n:Int):=oM;have kw:IntKind.i64.wrap (m:Int)=(m:Int):=iW _ oM;clear f hp s;by_cases ae:px<x
      ·(have e1:decide (x<=px)=false:=by simp;omega);(have e9:Gf l (m+1)=true:=by rw[aa.o];simpa using ae);have E9:=Aa e9;clear e9;go_wp2;refine Kc [(⟨b,o+(m+1)*2,O⟩,Y V x),(⟨b,o+(m+1)*2+1,O⟩,Y V z),(⟨b,o+m*2,O⟩,Y V px)] cA fun d=>?_;refine sN 0 ?_
       (iterate 5 refine xb ?_);refine oN ?_;refine Ub (i:=5) (HX.o wr.drew) ?_;rintro e y ⟨rfl,g⟩;refine⟨_,rfl,(cE d g),fun d=>?_⟩;refine sN 6 ?_
       (iterate 7 refine xb ?_);refine oN ?_;refine Ub (i:=13) (HZ.o y) ?_;rintro e w6 ⟨rfl,k⟩;refine⟨_,rfl,(cE d k),fun d=>?_⟩;refine sN 14 ?_
       (iterate 20 refine xb ?_);refine oN ?_;clear kw;refine Wb ?_;go_wp2;go_roundw
       case rel=>exact⟨m+1+1,by go_num,by rw[K.o];omega,(hx.drew.trans g).trans k,fun j hj=>by
         by_cases S:j=m+1
         ·subst S;exact E9.o
         ·exact r.o j oM⟩
       case measure=>simp[intOf];omega
      ·(have e1:decide (x<=px)=true:=by simp;omega);have e:Q=false:=P.o (by rw[aa.o];simpa using ae);subst e;go_wp2;refine Kc [(⟨b,o+(m+1)*2,O⟩,Y V x),(⟨b,o+(m+1)*2+1,O⟩,Y V z),(⟨b,o+m*2,O⟩,Y V px)] cA fun d=>?_;refine sN 0 ?_
       (iterate 5 refine xb ?_);refine oN ?_;refine Ub (i:=5) (HX.o wr.drew) ?_;rintro e y ⟨rfl,g⟩;refine⟨_,rfl,(cE d g),fun d=>?_⟩;refine sN 6 ?_
       (iterate 7 refine xb ?_);refine oN ?_;refine Ub (i:=13) (HZ.o y) ?_;rintro e w6 ⟨rfl,k⟩;refine⟨_,rfl,(cE d k),fun d=>?_⟩;refine sN 14 ?_
       (iterate 20 refine xb ?_);refine oN ?_;clear kw;refine Wb ?_;go_wp2;go_ret;exact⟨rfl,eA⟩
  ·obtain rfl:i=n:=oM;have e:Q=Ta i 2 40:=by
    rw[<-T.o];unfold Za;rw[K.o,uu r.o,Bool.and_true]
   have E:=Aa e;clear e;unfold Ta at E;by_cases k1:2<=i
   ·have k2:(2:Int)<=(i:Int):=oM;(have e2:Q=decide ((i:Int)<=40):=by rw[E.o];simp;omega);subst e2;go_wp2;go_ret;exact⟨Ij sM,eA⟩
   ·have k2:¬(2:Int)<=(i:Int):=oM;(have e2:Q=false:=by rw[E.o];simp;omega);subst e2;go_wp2;go_ret;exact⟨rfl,eA⟩
def FJ(w:J)(vg v:N)(g:LP)(p:Pl)(hg:yb w vg g)(h:yb w v p.shape)(q:Fa p=true)(K:g≠[])(hl:g.length<=1000000):Calls Tryz.prog 65 #[vg,F (Dd p v)] w fun e w'=>e=.returned (M (Vc g p))/\Ba w w':=by
 have P:=Lh q;have S:=Aa (fun W (hW:Ba w W)=>Cr W v p (h.f hW) q);have HE:=Aa (fun W v (hv:yb W v (Ea p))=>Er W v _ hv P.1.1);obtain⟨k,j⟩:=gX (Vc g p);rw[j];unfold Vc at j;obtain⟨l1,e1⟩:=gX (Ra (Ea p));obtain⟨r1,e2⟩:=gX (Ya (Ea p));rw[show (Pa (Ea p) 0).1=l1 from e1,show (Pa (Ea p) ((Ea p).length-1)).1=r1 from e2]at HE;rw[e1,e2]at j;obtain⟨ga,gc,rfl⟩:=hg.form;obtain⟨n,t⟩:=gX g.length;have af:0<n:=by rw[<-t];exact List.length_pos_iff.2 K
 obtain⟨b,o,rfl,hb,T,-⟩:=hg.pt (i:=0) (by rw[t];exact af);obtain⟨b2,o2,e9,ac,d0,-⟩:=hg.pt (i:=n-1) (by rw[t];omega);cases e9;have u:Ra g=(Pa g 0).1:=rfl;have z:Ya g=(Pa g (n-1)).1:=by rw[<-t];rfl
 rw[u,z]at j;obtain⟨x,hx⟩:=gX ((Pa g 0).1);obtain⟨y,hy⟩:=gX ((Pa g (n-1)).1);rw[hx]at T j;rw[hy]at d0 j;rw[t]at hl ⊢;obtain⟨m,hm⟩:=gX (n-1);rw[hm]at d0;obtain rfl:n=m+1:=oM;simp only[Nat.zero_mul,Nat.add_zero]at T;have Hk:=Aa j;have k1:(0:Int)<=(m:Int):=oM;have k2:(m:Int)<(m:Int)+1:=oM;have k5:(m:Int)+1-1=(m:Int):=oM;have k3:(0:Int)<(m:Int)+1:=oM;obtain⟨a,n9,c,rfl⟩:=h.i;clear j e1 e2 u z hx hy t hm hg h P q K ac;obtain⟨nm,sh,d,de,gx,gz,wy,ax,az,sk⟩:=p;unfold Dd at S ⊢;dsimp only at S ⊢;by_cases h1:x<=l1
 ·have e:k=decide (r1<=y):=by rw[<-Hk.o];simp[h1]
  subst e;go_in;go_wp2_with(first|(go_at_call 36;refine cM (S.o _ eA) ?_;rintro e Q ⟨v1,rfl,f,r⟩;obtain⟨a1,n1,c1,rfl⟩:=f.i;obtain⟨⟨ad,ae⟩,R⟩:=Md w r;(have X1:Ba w Q:=eA))|(go_at_call 118;refine cM (HE.o Q _ f.pr) ?_;rintro e w2 ⟨rfl,s⟩;(have l:Ba w w2:=X1.trans s);(have aa:=l.d T);(have ab:=l.d d0)));go_ret;exact⟨rfl,l⟩
 ·have e:k=false:=by rw[<-Hk.o];simp[h1]
  subst e;go_in;go_wp2_with(first|(go_at_call 36;refine cM (S.o _ eA) ?_;rintro e Q ⟨v1,rfl,f,r⟩;obtain⟨a1,n1,c1,rfl⟩:=f.i;obtain⟨⟨ad,ae⟩,R⟩:=Md w r;(have X1:Ba w Q:=eA))|(go_at_call 118;refine cM (HE.o Q _ f.pr) ?_;rintro e w2 ⟨rfl,s⟩;(have l:Ba w w2:=X1.trans s);(have aa:=l.d T);(have ab:=l.d d0)));go_ret;exact⟨rfl,l⟩
end
section
open Go.RowKit Go.Shelf Go.Sort Go.Lib
def rA{w:J}{base:Nat}{a:Option A}{n c:Nat}{b:List Be}(h:Id w base (I a n c) b):n=b.length:=by obtain⟨f,d,e,_⟩:=h;rw[d.len,e]
def Iz{w:J}{base:Nat}{a:Option A}{n c:Nat}{o:List Be}(h:Id w base (I a n c) o){k:Nat}{b:Be}(p:o[k]?=C b):∃g a1 m1 c1 s1 b1 n1 d1 a2 m2 c2 s2 b2 n2 d2 a3 m3 c3 s3 b3 n3 d3 a4 m4 c4 s4 b4 n4 d4,a=C ⟨g,0,O⟩/\base<=g/\g<w.heap.size/\Da [(⟨g,k*17,O⟩,Y V b.num),(⟨g,k*17+1,O⟩,I a1 m1 c1),(⟨g,k*17+2,O⟩,M s1),(⟨g,k*17+3,O⟩,I b1 n1 d1),(⟨g,k*17+4,O⟩,I a2 m2 c2),(⟨g,k*17+5,O⟩,M s2),(⟨g,k*17+6,O⟩,I b2 n2 d2),(⟨g,k*17+7,O⟩,I a3 m3 c3),(⟨g,k*17+8,O⟩,M s3),(⟨g,k*17+9,O⟩,I b3 n3 d3),(⟨g,k*17+10,O⟩,I a4 m4 c4),(⟨g,k*17+11,O⟩,M s4),(⟨g,k*17+12,O⟩,I b4 n4 d4),(⟨g,k*17+13,O⟩,Y V b.d1.1),(⟨g,k*17+14,O⟩,Y V b.d1.2),(⟨g,k*17+15,O⟩,Y V b.d2.1),(⟨g,k*17+16,O⟩,Y V b.d2.2)] w/\Ab w (F #[I a1 m1 c1,M s1,I b1 n1 d1]) b.fx/\Ab w (F #[I a2 m2 c2,M s2,I b2 n2 d2]) b.fz/\Ab w (F #[I a3 m3 c3,M s3,I b3 n3 d3]) b.tx/\Ab w (F #[I a4 m4 c4,M s4,I b4 n4 d4]) b.tz:=by
 obtain⟨q,d,K,u⟩:=h;have P:=(lS.1 p).1;obtain⟨c,i⟩:∃c,q[k]?=C c:=⟨_,gE oM⟩;obtain⟨f,t,e,⟨a1,m1,c1,s1,b1,n1,d1,a2,m2,c2,s2,b2,n2,d2,r,v,x⟩,⟨a3,m3,c3,s3,b3,n3,d3,a4,m4,c4,s4,b4,n4,d4,s,y,z⟩⟩:=u k c b i p;obtain rfl:f=[I a1 m1 c1,M s1,I b1 n1 d1,I a2 m2 c2,M s2,I b2 n2 d2]:=by
  have:=congrArg Array.toList (Value.agg.inj r);simpa using this
 obtain rfl:t=[I a3 m3 c3,M s3,I b3 n3 d3,I a4 m4 c4,M s4,I b4 n4 d4]:=by
  have:=congrArg Array.toList (Value.agg.inj s);simpa using this
 subst e;obtain⟨g,rfl,l,m⟩:=d.blk oM;refine⟨g,a1,m1,c1,s1,b1,n1,d1,a2,m2,c2,s2,b2,n2,d2,a3,m3,c3,s3,b3,n3,d3,a4,m4,c4,s4,b4,n4,d4,rfl,l,m,⟨?_,?_,?_,?_,?_,?_,?_,?_,?_,?_,?_,?_,?_,?_,?_,?_,?_,trivial⟩,v,x,y,z⟩
 ·exact d.cell (j:=0) i rfl
 ·exact d.cell (j:=1) i rfl
 ·exact d.cell (j:=2) i rfl
 ·exact d.cell (j:=3) i rfl
 ·exact d.cell (j:=4) i rfl
 ·exact d.cell (j:=5) i rfl
 ·exact d.cell (j:=6) i rfl
 ·exact d.cell (j:=7) i rfl
 ·exact d.cell (j:=8) i rfl
 ·exact d.cell (j:=9) i rfl
 ·exact d.cell (j:=10) i rfl
 ·exact d.cell (j:=11) i rfl
 ·exact d.cell (j:=12) i rfl
 ·exact d.cell (j:=13) i rfl
 ·exact d.cell (j:=14) i rfl
 ·exact d.cell (j:=15) i rfl
 ·exact d.cell (j:=16) i rfl
def WH(w:J)(b c:N)(d:Ja w b yk)(e:Pd w c Kj)(a:Gw w):Calls Tryz.prog 16 #[F #[b,c],Y V 2,Y V 0] w (Ik w [⟨0,100,80,200,80,(1,0),(1,0)⟩,⟨1,200,80,300,80,(1,0),(1,0)⟩]):=by have h:=QA w b c yk Kj 2 mo 0 d e a Oq rfl oM oM (On Oq).2.2 (On Oq).1 dM;rw[show Kj.length+1=4 from rfl,XI]at h;exact h
def VJ{g:LP}{ps:List Pl}{p:Pl}(h:Ph g ps p=0):Bb g ps=0/\Fa p=true/\Vc g p=true/\ps.any (Uf p.name)=false/\Fd g ps p=true:=by
 unfold Ph at h;split at h
 ·rename_i h1;exact absurd h h1
 ·rename_i h1;split at h
  ·cases h
  ·split at h
   ·cases h
   ·split at h
    ·cases h
    ·split at h
     ·cases h
     ·rename_i h2 h3 h4 h5;exact⟨by simpa using h1,by simpa using h2,by simpa using h3,by simpa using h4,by simpa using h5⟩
def VH(w:J)(b c v:N)(k:Ja w b yk)(l:Pd w c Kj)(hv:Ja w v Nf)(a:Gw w):Calls Tryz.prog 10 #[F #[b,c],F (Dd Mm v)] w fun e d=>e=.returned (.tuple #[Y V 140,Y V 0])/\Ba w d:=by
 have h:Ph yk Kj Mm=0:=by
  unfold Ph Kj;rw[show Bb yk [Zl,Wl,mo]=0 from Oq,if_neg dM,if_neg (by rw[GG];decide)];simp only[Vc,Fd,Bf,List.any_cons,List.any_nil,jf,re,Ma,Jb,Mc,xu,Nq,Mq,Ct,yA,Us,Ts,Ss,Az];decide +kernel
 obtain⟨_,f,g,i,j⟩:=VJ h;refine(NN w b c v yk Kj Mm k l hv dM a Oq f g i j).mono ?_;rintro e d ⟨rfl,m⟩;rw[h,if_pos rfl,nJ];exact⟨rfl,m⟩
def jG(w:J)(b c:N)(d:Ja w b Nf)(f:Ja w c Nf)(a:Gw w):Calls Tryz.prog 39 #[F (Dd Zl b),F (Dd Wl c)] w fun e g=>e=.returned (.tuple #[Y G 1,Y V 0])/\Ba w g:=by have:=jN w b c Zl Wl d f dM dM a ⟨JG,IG⟩;rw[pH]at this;exact this
def Zs{n:Int}(h:Bd 1000 n):Rb Fb (n:Rat):=(Rg h dM).mono dM
def UH(w:J)(a:Option A)(m c:Nat)(s:Bool)(f:Option A)(j c2:Nat)(b:Option A)(n d:Nat)(t:Bool)(g:Option A)(k i:Nat)(l:Ab w (F #[I a m c,M s,I f j c2]) 100)(o:Ab w (F #[I b n d,M t,I g k i]) 80):Calls Tryz.prog 48 #[F #[I a m c,M s,I f j c2,I b n d,M t,I g k i]] w fun e p=>e=.returned (.string ⟨#[40,49,48,48,44,32,56,48,41]⟩)/\Ba w p:=by have:=UC w _ _ 100 80 l o (Zs (n:=100) (by unfold Bd;omega)) (Zs (n:=80) (by unfold Bd;omega)) _ ⟨a,m,c,s,f,j,c2,b,n,d,t,g,k,i,rfl,rfl,rfl⟩;rw[NI]at this;exact this
def ZJ:qk 200 80=[40,50,48,48,44,32,56,48,41]:=by decide +kernel
def iC(w:J)(a:Option A)(m c:Nat)(s:Bool)(f:Option A)(j c2:Nat)(b:Option A)(n d:Nat)(t:Bool)(g:Option A)(k i:Nat)(l:Ab w (F #[I a m c,M s,I f j c2]) 200)(o:Ab w (F #[I b n d,M t,I g k i]) 80):Calls Tryz.prog 48 #[F #[I a m c,M s,I f j c2,I b n d,M t,I g k i]] w fun e p=>e=.returned (.string ⟨#[40,50,48,48,44,32,56,48,41]⟩)/\Ba w p:=by have:=UC w _ _ 200 80 l o (Zs (n:=200) (by unfold Bd;omega)) (Zs (n:=80) (by unfold Bd;omega)) _ ⟨a,m,c,s,f,j,c2,b,n,d,t,g,k,i,rfl,rfl,rfl⟩;rw[ZJ]at this;exact this
end
section
open Go.RowKit Go.Shelf Go.Sort
attribute [local go_sem] Oper.semAt_some
def Jj(L:LP)(x a:Rat)(i:Nat):Prop:=Eb x (((Pa L i).1:Int):Rat)<0\/(Eb x (((Pa L i).1:Int):Rat)=0/\(i+1=L.length\/0<=Eb x a))
instance (L:LP) (x rt:Rat) (i:Nat):Decidable (Jj L x rt i):=by unfold Jj;infer_instance
def KF{L:LP}{x a:Rat}{i:Nat}(Q:Gc L)(S:((Ra L:Int):Rat)<=x)(K:i+1<L.length)(r:∀j,j<i->¬Jj L x a (j+1))(hy:Jj L x a (i+1)):Qa L x a=Vg (Pa L i,Pa L (i+1)):=by
 have t:(Qe L).length=L.length-1:=Iv L;have d:Ra L=(Pa L 0).1:=rfl;have s:∀j,j+1<L.length->(Pa L 0).1<(Pa L (j+1)).1:=fun j k=>Jn Q oM k;have w:∀j,j+1<L.length->od (Ra L) x a (Pa L j,Pa L (j+1))=true->j≠0/\Jj L x a j:=by
  intro j k c;unfold od at c;simp only[Bool.or_eq_true,Bool.and_eq_true,decide_eq_true_eq]at c;unfold Jj;rcases c with h|⟨o,n,v⟩
  ·refine⟨fun e=>?_,.inl h⟩;subst e;rw[<-d]at h;have:=(Kn _ _).1 h;grind
  ·refine⟨fun e=>?_,.inr ⟨o,.inr v⟩⟩;subst e;rw[d]at n;omega
 have p:∀j,j+1<L.length->j≠0->Jj L x a j->od (Ra L) x a (Pa L j,Pa L (j+1))=true:=by
  intro j k u c;unfold Jj at c;unfold od;simp only[Bool.or_eq_true,Bool.and_eq_true,decide_eq_true_eq];rcases c with h|⟨o,n|n⟩
  ·exact .inl h
  ·omega
  ·refine .inr ⟨o,?_,n⟩;have:=s (j-1) oM;rw[Nat.sub_add_cancel oM]at this;rw[d];exact this
 have b:Qe L=(Qe L).take (i+1)++(Qe L).drop (i+1):=(List.take_append_drop _ _).symm;have l:∀e∈(Qe L).take (i+1),(!od (Ra L) x a e)=true:=by
  intro e y;obtain⟨j,k,rfl⟩:=List.getElem_of_mem y;rw[List.length_take]at k;rw[List.getElem_take];have g:=Ip (L:=L) (m:=j) oM;rw[(lS.1 g).2];cases c:od (Ra L) x a (Pa L j,Pa L (j+1))with
  | false=>rfl
  |true=>
   obtain⟨u,R⟩:=w j oM c;exact absurd R (by have:=r (j-1) oM;rwa [Nat.sub_add_cancel oM]at this)
 have f:((Qe L).drop (i+1)).takeWhile (fun e=>!od (Ra L) x a e)=[]:=by
  by_cases q:i+2<L.length
  ·have g:=Ip (L:=L) (m:=i+1) oM;obtain⟨P,z⟩:=lS.1 g;rw[List.drop_eq_getElem_cons P,z,List.takeWhile_cons_of_neg];rw[p (i+1) oM oM hy];simp
  ·rw[List.drop_eq_nil_of_le oM];rfl
 unfold Qa;rw[b,List.takeWhile_append_of_pos l,f,List.append_nil];have g:=Ip (L:=L) (m:=i) K;rw[Rf _ i _ g,List.foldl_append];rfl
def qQ(w:J)(L:LP)(x c:Rat)(b a:Array N)(d:N)(W:J):Prop:=
 ∃m:Nat,d=Y V ((m:Int)+1)/\m+1<=L.length/\(∀j,j<m->¬Jj L x c (j+1))/\Ba w W/\W.heap[w.heap.size]?=C (.cells b 68 (0,0))/\W.heap[w.heap.size+1]?=C (.cells a 68 (0,0))/\
  W.heap[w.heap.size+1+1]?=C (.cells #[Y V 0,Y V 0] 27 (0,0))
def FB(w:J)(v vx vr:N)(L:LP)(x y:Rat)(h:yb w v L)(ok:mc L)(hr:Gc L)(R:2<=L.length)(hx:nc w vx x)(hq:nc w vr y)(bx:Rb 2000 x)(br:Rb 2000 y)(x0:((Ra L:Int):Rat)<=x)(x1:x<=((Ya L:Int):Rat)):Calls Tryz.prog 23 #[v,vx,vr] w (Ek w (Qa L x y)):=by
 obtain⟨a,c,rfl⟩:=h.form;obtain⟨n,hn⟩:=gX L.length;obtain⟨s,xa,xm,xc,t,ya,ym,yc,rfl⟩:=hx.form;obtain⟨s',ab,ad,ac,t',ae,ag,af,rfl⟩:=hq.form;have aZ:n<=64:=by rw[<-hn];exact ok.2.2
 have aD:∀i,i<n->Bd 104000 (Pa L i).1/\Bd 104000 (Pa L i).2:=fun i hi=>ok.2.1 _ (ji (by rw[hn];exact hi));have d:∀i,i+1<n->(∀j,j<i->¬Jj L x y (j+1))->Jj L x y (i+1)->Qa L x y=Vg (Pa L i,Pa L (i+1)):=fun i hi g1 g2=>KF hr x0 (by rw[hn];exact hi) g1 g2;have ai:Jj L x y (n-2+1):=by
  have e:(Pa L (n-2+1)).1=Ya L:=by unfold Ya Pa;rw[hn,show n-2+1=n-1 by omega]
  unfold Jj;rw[e];by_cases r:x<((Ya L:Int):Rat)
  ·exact .inl ((Kn _ _).2 r)
  ·exact .inr ⟨by rw[show x=((Ya L:Int):Rat) by grind];exact tL _,.inl oM⟩
 have aF:∀i,i+1<n->(Pa L i).1<(Pa L (i+1)).1:=fun i hi=>Jn hr oM (by rw[hn];exact hi);obtain⟨P,hP⟩:=gX (Qa L x y);rw[hP]at d ⊢;rw[hn]at R ⊢;obtain⟨k2,an⟩:=gX (Eb x y);have ap:=Aa (fun(W:J)(hW:Ba w W)=>Em W _ _ x y (hx.ext hW) (hq.ext hW) (bx.mono dM) (br.mono dM));have aK:=Aa (fun(W:J)(hW:Ba w W)(z:Int)(hz:Bd 104000 z)(v2:N)(R:nc W v2 (z:Rat))=>Em W _ v2 x (z:Rat) (hx.ext hW) R (bx.mono dM) ((Rg hz).mono dM));rw[an]at ap;have aP:=Aa an;have H:=Aa h;have Hn:=Aa hn;have av:=Aa aD;have au:=Aa d;have ar:=Aa ai;have aR:=Aa aF;clear h ok hr hx hq bx br x0 x1 hn aD d ai aF hP an;go_in;go_wp2;go_loopw [7] (qQ w L x y (#[Y V s,I xa xm xc,Y V t,I ya ym yc]) (#[Y V s',I ab ad ac,Y V t',I ae ag af])) (fun t7 _=>n-(intOf t7).toNat)
 case atStart=>exact⟨0,rfl,by rw[Hn.o];omega,fun j hj=>by omega,eA,(((eR _).alloc _).alloc _).e (aN _ _),((eR _).alloc _).e (Ec _ _ _ sM),Ec _ _ _ sM⟩
 case round =>
  obtain⟨m,rfl,hm,aA,ah,k,l,ax⟩:=hrel;rw[Hn.o]at hm;have am:=Aa aA;by_cases r:m+1<n
  ·obtain⟨b,o,rfl,a1,d0,d1⟩:=(H.o.f ah).pt (i:=m+1) (by rw[Hn.o];exact r);obtain⟨b2,o2,e2,aY,f0,f1⟩:=(H.o.f ah).pt (i:=m) (by rw[Hn.o];omega);cases e2;obtain⟨b3,o3,e3,ay,-,-⟩:=H.o.pt (i:=m) (by rw[Hn.o];omega);cases e3;have bb:=av.o (m+1) r;have ba:=av.o m oM;have S:=aR.o m r;have d:=au.o m r am.o;have aa:Jj L x y (m+1) ↔ (Eb x (((Pa L (m+1)).1:Int):Rat)<0\/(Eb x (((Pa L (m+1)).1:Int):Rat)=0/\(m+2=n\/0<=k2))):=by unfold Jj;rw[Hn.o,aP.o]
   obtain⟨⟨px,pz⟩,hp⟩:∃p,Pa L m=p:=⟨_,rfl⟩;obtain⟨⟨qx,qz⟩,aB⟩:∃p,Pa L (m+1)=p:=⟨_,rfl⟩;rw[hp]at f0 f1 ba S d;rw[aB]at d0 d1 bb S d aa;dsimp only at d0 d1 f0 f1 ba bb S d aa;obtain⟨T,hT⟩:=gX (Eb x ((qx:Int):Rat));have aq:=Aa (fun(W:J)(hW:Ba w W)(v2:N)(R:nc W v2 ((qx:Int):Rat))=>aK.o W hW qx bb.1 v2 R);rw[hT]at aq aa;have aw:=Aa aa;have al:=Aa d;have aM:=Aa (fun(W:J)=>ZN W (px,pz) (qx,qz) (by unfold Bd at *;dsimp only;omega) (by unfold Bd at *;dsimp only;omega) S);have aL:=Aa (fun W=>Jm W qx (by have:=bb.1;unfold Bd at this;omega) (by have:=bb.1;unfold Bd at this;omega));have ak:=Aa ah;have g0:(0:Int)<=(m:Int)+1:=oM;have g1:(m:Int)+1<(n:Int):=oM;have g2:((m:Int)+1).toNat=m+1:=oM;have g3:(m:Int)+1-1=(m:Int):=oM;have g4:(0:Int)<=(m:Int):=oM;have g5:(m:Int)<(n:Int):=oM;have kw:IntKind.i64.wrap ((m:Int)+1)=(m:Int)+1:=iW _ oM;have a2:IntKind.i64.wrap (m:Int)=(m:Int):=iW _ oM;have hC:Da [(⟨w.heap.size,0,O⟩,Y V s),(⟨w.heap.size,1,O⟩,I xa xm xc),(⟨w.heap.size,2,O⟩,Y V t),(⟨w.heap.size,3,O⟩,I ya ym yc),(⟨w.heap.size+1,0,O⟩,Y V s'),(⟨w.heap.size+1,1,O⟩,I ab ad ac),(⟨w.heap.size+1,2,O⟩,Y V t'),(⟨w.heap.size+1,3,O⟩,I ae ag af),(⟨b,o+(m+1)*2,O⟩,Y V qx),(⟨b,o+(m+1)*2+1,O⟩,Y V qz),(⟨b,o+m*2,O⟩,Y V px),(⟨b,o+m*2+1,O⟩,Y V pz)] wr:=
    ⟨Ca k (i:=0) rfl,Ca k (i:=1) rfl,Ca k (i:=2) rfl,Ca k (i:=3) rfl,Ca l (i:=0) rfl,Ca l (i:=1) rfl,Ca l (i:=2) rfl,Ca l (i:=3) rfl,d0,d1,f0,f1,trivial⟩
   have HC:=Aa hC;have HB:=Aa (And.intro k (And.intro l ax));clear hp aB hT d aa S ba bb aA ah k l ax hC d0 d1 f0 f1;go_wp2;go_cut [8] (fun t8 W=>t8=Y V T/\Ba wr W)
   case first =>
    refine Kc [(⟨w.heap.size,0,O⟩,Y V s),(⟨w.heap.size,1,O⟩,I xa xm xc),(⟨w.heap.size,2,O⟩,Y V t),(⟨w.heap.size,3,O⟩,I ya ym yc),(⟨w.heap.size+1,0,O⟩,Y V s'),(⟨w.heap.size+1,1,O⟩,I ab ad ac),(⟨w.heap.size+1,2,O⟩,Y V t'),(⟨w.heap.size+1,3,O⟩,I ae ag af),(⟨b,o+(m+1)*2,O⟩,Y V qx),(⟨b,o+(m+1)*2+1,O⟩,Y V qz),(⟨b,o+m*2,O⟩,Y V px),(⟨b,o+m*2+1,O⟩,Y V pz)] HC.o fun f=>?_;refine Db (i:=0) ?_;refine Db (i:=1) ?_;refine Db (i:=2) ?_;refine Db (i:=3) ?_;refine Db (i:=4) ?_;refine Db (i:=5) ?_;refine Ub (i:=6) (aL.o wr.drew) ?_;rintro e w5 ⟨r5,rfl,aE,g⟩;obtain⟨s5,a5,m5,c5,t5,e5,i5,j5,rfl⟩:=aE.form;refine⟨_,rfl,(cE f g),fun f=>?_⟩;refine Ub (i:=7) (aq.o w5 (ak.o.trans ((eR wr).drew.trans g)) _ aE) ?_;rintro e w6 ⟨rfl,aH⟩;refine⟨_,rfl,(cE f aH),fun f=>?_⟩;refine Db (i:=8) ?_;refine Wb ?_;go_wp2;go_meet;exact⟨rfl,(eR wr).drew.trans (g.trans aH)⟩
   case rest =>
    obtain⟨rfl,X1⟩:=hcut;have aj:=Aa X1;obtain⟨c0,c1,c2,c3,d0,d1,d2,d3,q0,q1,p0,p1,_⟩:=cE HC.o X1;obtain⟨W1,eW⟩:∃W,W=wc:=⟨_,rfl⟩;rw[<-eW]at c0 c1 c2 c3 d0 d1 d2 d3 q0 q1 p0 p1 aj ⊢;clear X1 eW;go_upto_region 5 with fail;go_cut [41] (fun aX W=>aX=M (decide (T<0\/(T=0/\(m+2=n\/0<=k2))))/\Ba W1 W)
    case first =>
     by_cases h1:T<0
     ·(have d1:decide (T<0)=true:=by simpa using h1);go_wp2;go_meet;exact⟨by simp[h1],eR _⟩
     ·(have d1:decide (T<0)=false:=by simpa using h1);by_cases R:T=0
      ·(have d2:(T==0)=true:=by simpa using R);have H2:=Aa R;clear R;by_cases h3:m+2=n
       ·(have d3:((m:Int)+1==(n:Int)-1)=true:=by simp;omega);have H3:=Aa h3;clear h3 h1;go_wp2;go_meet;exact⟨by simp[H2.o,H3.o],eR _⟩
       ·(have d3:((m:Int)+1==(n:Int)-1)=false:=by simp;omega);have H3:=Aa h3;clear h3 h1;go_wp2_with(go_at_call 22;refine cM (ap.o _ (ak.o.trans aj.o)) ?_;rintro e w7 ⟨rfl,aU⟩);go_meet;exact⟨by simp[H2.o,H3.o],aU⟩
      ·(have d2:(T==0)=false:=by simpa using R);go_wp2;go_meet;exact⟨by simp[h1,R],eR _⟩
    case rest =>
     obtain⟨rfl,X2⟩:=hcut;have Q:=Aa (aj.o.trans X2);have aT:=cE HC.o Q.o;have aI:=Aa (Q.o.e HB.o.1);have aJ:=Aa (Q.o.e HB.o.2.1);have ao:=Aa (Q.o.e HB.o.2.2);have Bp:=Aa (ak.o.trans Q.o);clear c0 c1 c2 c3 d0 d1 d2 d3 q0 q1 p0 p1 X2;by_cases hs:T<0\/(T=0/\(m+2=n\/0<=k2))
     ·rw[show decide (T<0\/(T=0/\(m+2=n\/0<=k2)))=true from decide_eq_true hs];have aC:=al.o (aw.o.2 hs);have aQ:=Aa aC;clear hs aC;go_wp2;refine Kc [(⟨w.heap.size,0,O⟩,Y V s),(⟨w.heap.size,1,O⟩,I xa xm xc),(⟨w.heap.size,2,O⟩,Y V t),(⟨w.heap.size,3,O⟩,I ya ym yc),(⟨w.heap.size+1,0,O⟩,Y V s'),(⟨w.heap.size+1,1,O⟩,I ab ad ac),(⟨w.heap.size+1,2,O⟩,Y V t'),(⟨w.heap.size+1,3,O⟩,I ae ag af),(⟨b,o+(m+1)*2,O⟩,Y V qx),(⟨b,o+(m+1)*2+1,O⟩,Y V qz),(⟨b,o+m*2,O⟩,Y V px),(⟨b,o+m*2+1,O⟩,Y V pz)] aT fun f=>?_;refine Db (i:=0) ?_;refine Db (i:=1) ?_;refine Db (i:=2) ?_;refine Db (i:=3) ?_;refine Db (i:=4) ?_;refine Db (i:=5) ?_;refine Db (i:=6) ?_;refine Db (i:=7) ?_;refine Db (i:=8) ?_;refine Ub (i:=9) (aM.o _) ?_;rintro e w5 ⟨rfl,g⟩;refine⟨_,rfl,(cE f g),fun f=>?_⟩;have X5:Ba wc w5:=(eR wc).drew.trans g;have kb:=X5.e ao.o;have r0:=Ca kb (i:=0) (u:=Y V 0) rfl;have r1:=Ca kb (i:=1) (u:=Y V 0) rfl;have aV:=Ua kb 0;have aW:=Ua kb 1;have rz:=Gb kb;have aO:=Aa (Bp.o.trans X5);clear kb X5 g;have az:∀q∈([(⟨w.heap.size,0,O⟩,Y V s),(⟨w.heap.size,1,O⟩,I xa xm xc),(⟨w.heap.size,2,O⟩,Y V t),(⟨w.heap.size,3,O⟩,I ya ym yc),(⟨w.heap.size+1,0,O⟩,Y V s'),(⟨w.heap.size+1,1,O⟩,I ab ad ac),(⟨w.heap.size+1,2,O⟩,Y V t'),(⟨w.heap.size+1,3,O⟩,I ae ag af),(⟨b,o+(m+1)*2,O⟩,Y V qx),(⟨b,o+(m+1)*2+1,O⟩,Y V qz),(⟨b,o+m*2,O⟩,Y V px),(⟨b,o+m*2+1,O⟩,Y V pz)]:List (A×N)),w.heap.size+1+1≠q.1.block:=by
       have a0:b<w.heap.size:=ay;simp;omega
      refine Ld (i:=10) fun K hK=>?_;go_simp;refine kO hK (Da.set (p:=⟨w.heap.size+1+1,1,O⟩) (Da.set (p:=⟨w.heap.size+1+1,0,O⟩) f az _) az _) (fun f=>?_);clear hK K;refine Wb ?_;go_wp2;exact bR (v:=F #[Y V (Vg ((px,pz),(qx,qz))).1,Y V (Vg ((px,pz),(qx,qz))).2]) (by simp[results,Tryz.results23,go_sem,r0,r1,aV,aW,rz]) rfl ⟨by rw[aQ.o],(aO.o.set (p:=⟨w.heap.size+1+1,0,O⟩) dO _).set (p:=⟨w.heap.size+1+1,1,O⟩) dO _⟩
     ·rw[show decide (T<0\/(T=0/\(m+2=n\/0<=k2)))=false from decide_eq_false hs];have aG:¬Jj L x y (m+1):=fun h9=>hs (aw.o.1 h9);have aS:=Aa aG;clear hs aG;go_wp2;go_roundw
      case rel=>exact⟨m+1,by go_num,by rw[Hn.o];omega,fun j hj=>by
       by_cases e:j=m
       ·subst e;exact aS.o
       ·exact am.o j oM,Bp.o,aI.o,aJ.o,ao.o⟩
      case measure=>simp[intOf];omega
  ·exfalso;exact am.o (n-2) oM ar.o
end
section
open Go.RowKit Go.Shelf Go.Sort Go.Lib
def JO(w:J)(a:Gw w):Calls Tryz.prog 9 #[] w fun e w'=>e=.returned (M true)/\Ba w w':=by
 have ak:=Aa a;have HR:=Aa (fun(W:J)(n:Ba w W)(v1 v2:N)(h1:Ja W v1 Nf)(h2:Ja W v2 Nf)=>jG W v1 v2 h1 h2 (a.ext n));have HB:=Aa (fun(W:J)(n:Ba w W)(S T:N)(hg:Ja W S yk)(hp:Pd W T Kj)=>WH W S T hg hp (a.ext n));have HD:=Aa (fun(W:J)(n:Ba w W)(S T v:N)(hg:Ja W S yk)(hp:Pd W T Kj)(hv:Ja W v Nf)=>VH W S T v hg hp hv (a.ext n));unfold Zl Wl at HR;unfold Mm at HD;have E0:=eR w;clear a;go_in;go_upto_region 2 with (first|(go_at_call 46;(with_reducible refine(Wp _ ⟨#[97]⟩ 0 0).mono ?_);rintro e w1 ⟨v1,rfl,x,K⟩;have E1:Ba w w1:=E0.trans K)|(go_at_call 46;(with_reducible refine(Wp _ ⟨#[98]⟩ 200 0).mono ?_);rintro e w2 ⟨v2,rfl,y,j⟩;have E2:Ba w w2:=E1.trans j)|(go_at_call 39;refine cM (HR.o _ E2 _ _ (x.f j) y) ?_;rintro e w3 ⟨rfl,P⟩;have E3:Ba w w3:=E2.trans P));clear K j P x y;go_upto_region 3 with (first|(go_at_call 47;(with_reducible refine(ZC _).mono ?_);rintro e w4 ⟨aC,aE,rfl,r,t,Q⟩;have E4:Ba w w4:=E3.trans Q)|(go_at_call 16;refine cM (HB.o _ E4 _ _ r t) ?_;rintro e w5 ⟨vb,rfl,i,R⟩;obtain⟨ba,bn,bc,rfl⟩:=i.i;have E5:Ba w w5:=E4.trans R));clear Q R r t;go_upto_region 4 with (first|(go_at_call 47;(with_reducible refine(ZC _).mono ?_);rintro e w6 ⟨aD,aF,rfl,s,u,l⟩;have E6:Ba w w6:=E5.trans l)|(go_at_call 46;(with_reducible refine(Wp _ ⟨#[100]⟩ 50 300).mono ?_);rintro e w7 ⟨v7,rfl,z,f⟩;have E7:Ba w w7:=E6.trans f)|(go_at_call 10;refine cM (HD.o _ E7 _ _ _ (s.f f) (u.f f) z) ?_;rintro e w8 ⟨rfl,m⟩;have E8:Ba w w8:=E7.trans m));have i:=i.ext ((l.trans f).trans m);clear l f m s u z E0 E1 E2 E3 E4 E5 E6 E7 HR HB HD;obtain rfl:=rA i;obtain⟨g,a1,m1,c1,s1,b1,n1,d1,a2,m2,c2,s2,b2,n2,d2,a3,m3,c3,s3,b3,n3,d3,a4,m4,c4,s4,b4,n4,d4,rfl,aa,al,hc,r1,r2,r3,r4⟩:=Iz i (k:=0) rfl;obtain⟨g',a5,m5,c5,s5,b5,n5,d5,a6,m6,c6,s6,b6,n6,d6,a7,m7,c7,s7,b7,n7,d7,a8,m8,c8,s8,b8,n8,d8,e,p,q,o,r5,r6,r7,r8⟩:=Iz i (k:=1) rfl;obtain rfl:g=g':=by cases e;rfl
 simp only[Da,Nat.reduceMul,Nat.reduceAdd,and_true]at hc o;obtain⟨q0,q1,q2,q3,q4,q5,q6,q7,q8,q9,av,aw,ax,ay,az,aA,aB⟩:=hc;obtain⟨p0,p1,p2,p3,p4,p5,p6,p7,p8,p9,am,an,ao,ap,aq,ar,au⟩:=o;clear e p q aa;have E:=Aa E8;clear E8 i;go_wp2_with(first|(go_at_call 48;(with_reducible refine(UH _ _ _ _ _ _ _ _ _ _ _ _ _ _ _ (r1.ext ?_) (r2.ext ?_)).mono ?_);exact eA;exact eA;rintro e ab ⟨rfl,b⟩;obtain⟨ae,ah⟩:=b.cells;(have aG:g<ab.heap.size:=by have:=b.size;omega))|(go_at_call 48;(with_reducible refine(iC _ _ _ _ _ _ _ _ _ _ _ _ _ _ _ (r3.ext ?_) (r4.ext ?_)).mono ?_);exact eA;exact eA;rintro e ac ⟨rfl,c⟩;obtain⟨af,ai⟩:=c.cells;(have aH:g<ac.heap.size:=by have:=c.size;omega))|(go_at_call 48;(with_reducible refine(iC _ _ _ _ _ _ _ _ _ _ _ _ _ _ _ (r5.ext ?_) (r6.ext ?_)).mono ?_);exact eA;exact eA;rintro e ad ⟨rfl,d⟩;obtain⟨ag,aj⟩:=d.cells;(have aI:g<ad.heap.size:=by have:=d.size;omega)));go_ret;exact⟨rfl,((E.o.trans b).trans c).trans d⟩
def Ve(g:LP)(ps:List Pl)(i pin:Int):Int:=if Bb g ps≠0 then Bb g ps else if Vb ps.length i pin=true then 3 else 0
def Jk(w:J)(g:LP)(ps:List Pl)(i pin:Int)(e:Ending)(w':J):Prop:=
 (Ve g ps i pin≠0/\e=.returned (.tuple #[I O 0 0,Y V (Ve g ps i pin)])/\Ba w w') \/
  (Ve g ps i pin=0/\∃a:Nat,∃p,i=(a:Int)/\ps[a]?=C p/\0<=pin/\pin<=50/\Bb g ps=0/\Ik w (Ue g ps a p pin (ps.length+1)) e w')
def yL(w:J)(r z:N)(g:LP)(ps:List Pl)(i pin:Int)(j:Ja w r g)(o:Pd w z ps)(d:Gw w):Calls Tryz.prog 16 #[F #[r,z],Y V i,Y V pin] w (Jk w g ps i pin):=by
 by_cases b:Bb g ps=0
 ·cases hw:Vb ps.length i pin with
  |false=>
   have e:Ve g ps i pin=0:=by unfold Ve;rw[if_neg (by simpa using b),hw];rfl
   have q:=hw;unfold Vb at q;simp only[Bool.or_eq_false_iff,decide_eq_false_iff_not]at q;obtain⟨a,rfl⟩:∃a:Nat,i=(a:Int):=⟨i.toNat,by omega⟩;have P:ps[a]?=C (ps[a]' oM):=gE _;have m:=On b;exact(QA w r z g ps a _ pin j o d b P oM oM m.2.2 m.1 m.2.1).mono fun e' S h=>.inr ⟨e,a,_,rfl,P,by omega,by omega,b,h⟩
  |true=>
   have e:Ve g ps i pin=3:=by unfold Ve;rw[if_neg (by simpa using b),hw];rfl
   have s:=Aa (fun(W:J)(l:Ba w W)=>Dt (j.f l) (o.f l) (d.ext l) b);have HW:=Aa (fun(W:J)(a:Option A)(n c:Nat)(Q:Sb W (I a n c) ps)=>(show Calls Tryz.prog 71 #[F #[r,I a n c],Y V i,Y V pin] W fun e S=>e=.returned (M true)/\Ba W S from by
    have h:=Et W r a n c i pin (La j);rw[Q.len,hw]at h;rw[Q.len];exact h))
   obtain⟨R,k⟩:=gX (Jk w g ps i pin);rw[k];have t:=Aa k;have p:=Aa e;obtain⟨ga,gn,gc,rfl⟩:=La j;obtain⟨pa,pn,y,rfl⟩:=La o;clear b hw j o d e k;go_in;go_wp2_with(first|(go_at_call 49;refine cM (s.o _ eA) ?_;rintro e T ⟨va,vn,vc,rfl,x,f⟩;obtain⟨u,v⟩:=f.cells;(have z4:=f.size);(simp only[wZ]at z4);(have ac:w.heap.size<T.heap.size:=oM))|(go_at_call 71;refine cM (HW.o _ _ _ _ (x.f eA)) ?_;rintro e w5 ⟨rfl,ab⟩));rw[<-t.o];exact .inl ⟨by rw[p.o];decide,by rw[p.o];rfl,eA⟩
 ·have e:Ve g ps i pin=Bb g ps:=by unfold Ve;rw[if_pos b]
  have s:=Aa (fun(W:J)(l:Ba w W)=>Dy (j.f l) (o.f l) (d.ext l) b);obtain⟨L,K⟩:=gX (Bb g ps);rw[K]at s e b;obtain⟨R,k⟩:=gX (Jk w g ps i pin);rw[k];have t:=Aa k;have p:=Aa e;have H0:=Aa b;have aa:(L != 0)=true:=by simpa using b
  obtain⟨ga,gn,gc,rfl⟩:=La j;obtain⟨pa,pn,y,rfl⟩:=La o;clear j o d e k K b;go_in;go_wp2_with(first|(go_at_call 49;refine cM (s.o _ eA) ?_;rintro e T ⟨rfl,f⟩;obtain⟨u,v⟩:=f.cells));rw[<-t.o];exact .inl ⟨by rw[p.o];exact H0.o,by rw[p.o];rfl,eA⟩
end
section
open Go.RowKit Go.Shelf Go.Sort
attribute [local go_sem] Oper.semAt_some
theorem laid1_holds{g:LP}:∀{c done:List Pl},jd g done c=0->∀p∈c,Vc g p=true
 | [],_,_,p,b=>by cases b
 | q::r,done,h,p,b=>by
  unfold jd at h;by_cases a:Df g done q=0
  ·rw[if_pos a]at h;rcases List.mem_cons.1 b with rfl|b
   ·cases hk:Vc g p with
    | true=>rfl
    | false=>unfold Df at a;rw[hk]at a;split at a<;>simp at a
   ·exact laid1_holds h p b
  ·rw[if_neg a]at h;exact absurd h a
def GP{g:LP}{p:Pl}(c:Fa p=true)(a:Vc g p=true):(Nb (Ea p) g).lo<(Nb (Ea p) g).hi:=by have b:=Wu c;unfold Vc at a;simp only[Bool.and_eq_true,decide_eq_true_eq]at a;unfold Nb;dsimp only;omega
def SR(w:J)(g:LP)(ps:List Pl)(a:Obj)(t3:N)(W:J):Prop:=
 ∃i:Nat,t3=Y V i/\i<=ps.length/\Ba w W/\W.heap[w.heap.size]?=C a/\jd g (ps.take i) (ps.drop i)=jd g [] ps
def qy(b:J)(ps:List Pl)(a:ByteArray)(i:Nat)(t4:N)(W:J):Prop:=
 ∃k:Nat,t4=Y V k/\k<=i/\Ba b W/\∀j q,j<k->ps[j]?=C q->Uf a q=false
def RR(w:J)(g:LP)(ps:List Pl)(a:Obj)(t5:N)(W:J):Prop:=
 ∃i:Nat,t5=Y V i/\i<=ps.length/\Ba w W/\W.heap[w.heap.size]?=C a/\Kf g (ps.take i) (ps.drop i)=Kf g [] ps
def py(b:J)(ps:List Pl)(p:Pl)(i:Nat)(a:N)(W:J):Prop:=
 ∃k:Nat,a=Y V k/\k<=i/\Ba b W/\∀j q,j<k->ps[j]?=C q->Bf p q=false
def qC{ps:List Pl}{f:Pl->Bool}{i:Nat}(h:∀j q,j<i->ps[j]?=C q->f q=false):(ps.take i).any f=false:=by rw[List.any_eq_false];intro q c;obtain⟨j,b,rfl⟩:=List.getElem_of_mem c;have a:=b;rw[List.length_take]at a;have:=h j ((ps.take i)[j]) oM (by rw[List.getElem_take];exact gE _);rw[this];decide
def CE{ps:List Pl}{f:Pl->Bool}{i k:Nat}{q:Pl}(b:k<i)(c:ps[k]?=C q)(a:f q=true):(ps.take i).any f=true:=by rw[List.any_eq_true];exact⟨q,lM (i:=k) (by rw[List.getElem?_take,if_pos b];exact c),a⟩
def vO(w:J)(vg vp:N)(g:LP)(ps:List Pl)(hg:yb w vg g)(hp:Ff w vp ps)(ay:∀p∈ps,p.name.size<=1000000)(hl:g.length<=1000000):Calls Tryz.prog 64 #[F #[vg,vp]] w fun e w'=>e=.returned (Y V (Bb g ps))/\Ba w w':=by
 have aF:=Aa (fun W (hW:Ba w W)=>IJ W vg g (hg.f hW) hl);have HG:=Aa hg;have HP:=Aa hp;have bx:=Aa ay;have Hl:=Aa hl;obtain⟨ga,gn,gc,rfl⟩:=hg.i;obtain⟨pa,P,rfl⟩:=hp.form;obtain⟨n,hn⟩:=gX ps.length;have bu:=hp.le;unfold maxLen at bu;rw[hn]at bu ⊢;have Hn:=Aa hn;obtain⟨R,hR⟩:=gX (Bb g ps);rw[hR];have aK:=hR;unfold Bb at aK;rw[hn]at aK;have aV:=Aa aK;obtain⟨gb,a7⟩:=gX (Za g);have an:=Aa a7;rw[a7]at aF;clear hR aK hg hp ay hl hn a7;cases gb with
 |false=>
  have e:=aV.o;rw[an.o,if_neg dM]at e;subst e;go_in;go_wp2_with(go_at_call 139;refine cM (aF.o _ eA) ?_;rintro e w1 ⟨rfl,aq⟩);go_ret;exact⟨rfl,eA⟩
 |true=>
 by_cases aM:120<n
 ·have e:=aV.o;rw[an.o,if_pos rfl,if_pos aM]at e;subst e;have h1:(120:Int)<(n:Int):=oM;go_in;go_wp2_with(go_at_call 139;refine cM (aF.o _ eA) ?_;rintro e w1 ⟨rfl,aq⟩;obtain⟨⟨bp,bs⟩,aT⟩:=Md w aq);go_ret;exact⟨rfl,eA⟩
 have h1:¬(120:Int)<(n:Int):=oM;have a3:=aV.o;rw[an.o,if_pos rfl,if_neg aM]at a3;have aH:=Aa a3;have aR:g≠[]:=(Ll an.o).1;have bm:=Aa aR;clear a3 aR;go_in;go_wp2_with(go_at_call 139;refine cM (aF.o _ eA) ?_;rintro e w1 ⟨rfl,aq⟩;obtain⟨⟨bp,bs⟩,aT⟩:=Md w aq);have X1:Ba w w1:=eA;have aP:w1.heap[w.heap.size]?=C (Obj.cells #[Value.slice ga gn gc,Value.slice pa n P] 25 (0,0)):=aq.e (aN _ _);clear aq bp bs aT;go_loopw [3] (SR w g ps (Obj.cells #[Value.slice ga gn gc,Value.slice pa n P] 25)) (fun t3 _=>n-(intOf t3).toNat)
 case atStart=>exact⟨0,rfl,by omega,X1,aP,by simp⟩
 case round =>
  clear X1 aP;obtain⟨i,rfl,hi,hx,S,T⟩:=hrel;rw[Hn.o]at hi;have t:=Aa T;have w0:=Ca S (i:=0) (u:=I ga gn gc) rfl;have ad:=Ca S (i:=1) (u:=I pa n P) rfl;have wz:=Gb S;have au:=Aa S;clear T S;by_cases a9:i<n
  ·obtain⟨p,ap⟩:∃p,ps[i]?=C p:=⟨_,gE (by rw[Hn.o];exact a9)⟩;obtain⟨b,o,v,rfl,hb,hv,bf,y⟩:=(HP.o.f hx).at' ap;have ay:=bx.o p (lM ap);have ag:=Aa (fun W (hW:Ba wr W)=>EJ W v p (hv.f hW) ay);have bk:=Aa (fun W (hW:Ba wr W) ab=>FJ W _ v g p (HG.o.f (hx.trans hW)) (hv.f hW) ab bm.o Hl.o);have l:=fun h0=>tE (g:=g) ap h0;have m:=fun h0=>Yt (g:=g) ap h0;rw[t.o]at l m;have ah:=Aa l;have x:=Aa m;have bF:=Aa ap;obtain⟨sa,sn,sc,rfl⟩:=hv.i;obtain⟨pb,aL⟩:=gX (Fa p);obtain⟨bv,al⟩:=gX (Vc g p);have bn:=Aa aL;have bD:=Aa al;rw[aL]at ag;have ae:=Aa (fun W (hW:Ba wr W) ab=>bk.o W hW ab);rw[al]at ae;have aO:Df g (ps.take i) p=if pb=true then (if bv=true then (if (ps.take i).any (Uf p.name)=true then 7 else 0)else 2)else 2:=by
    unfold Df;rw[aL,al]
   have ak:=Aa aO;have g0:(0:Int)<=(i:Int):=oM;have g1:(i:Int)<(n:Int):=oM;clear aL al aO l m bk ap hv bf;obtain⟨Q,sh,d,de,gx,gz,wy,ax,az,sk⟩:=p;unfold Dd at y ag ae;dsimp only at y ag ae ay;have c0:=y 0 (.string Q) rfl;have c1:=y 1 (I sa sn sc) rfl;have c2:=y 2 (Y V d) rfl;have c3:=y 3 (Y V de) rfl;have c4:=y 4 (Y V gx) rfl;have c5:=y 5 (Y V gz) rfl;have c6:=y 6 (Y V wy) rfl;have c7:=y 7 (Y V ax) rfl;have c8:=y 8 (Y V az) rfl;have c9:=y 9 (Y G sk) rfl;simp only[Nat.add_zero]at c0;clear y;cases pb with
   |false=>
    (have hA:Df g (ps.take i) ⟨Q,sh,d,de,gx,gz,wy,ax,az,sk⟩=2:=by rw[ak.o];rfl);have e:R=2:=by
     have h9:=x.o (by rw[hA];decide);rw[<-aH.o,if_neg (by rw[h9,hA];decide),h9,hA]
    subst e;clear hA;go_wp2;refine Kc [(⟨w.heap.size,0,O⟩,I ga gn gc),(⟨w.heap.size,1,O⟩,I (C ⟨b,o,O⟩) n P),(⟨b,o+i*10,O⟩,.string Q),(⟨b,o+i*10+1,O⟩,I sa sn sc),(⟨b,o+i*10+2,O⟩,Y V d),(⟨b,o+i*10+3,O⟩,Y V de),(⟨b,o+i*10+4,O⟩,Y V gx),(⟨b,o+i*10+5,O⟩,Y V gz),(⟨b,o+i*10+6,O⟩,Y V wy),(⟨b,o+i*10+7,O⟩,Y V ax),(⟨b,o+i*10+8,O⟩,Y V az),(⟨b,o+i*10+9,O⟩,Y G sk)] cA fun a=>?_;refine sN 0 ?_
    (iterate 5 refine xb ?_);refine oN ?_;refine Ld (i:=5) fun K s=>?_;go_simp;refine cM (ag.o _ ((eR wr).drew)) ?_;rintro e w5 ⟨rfl,f⟩;go_wp2;refine kO s (cE a f) (fun a=>?_);clear s K;refine sN 6 ?_
    iterate 2 refine xb ?_
    (iterate 9 refine Ee ?_);refine xb ?_;refine oN ?_;refine Wb ?_;go_wp2;go_ret;exact⟨rfl,(hx.drew.trans f)⟩
   |true=>
    cases bv with
    |false=>
     (have hA:Df g (ps.take i) ⟨Q,sh,d,de,gx,gz,wy,ax,az,sk⟩=2:=by rw[ak.o];rfl);have e:R=2:=by
      have h9:=x.o (by rw[hA];decide);rw[<-aH.o,if_neg (by rw[h9,hA];decide),h9,hA]
     subst e;clear hA;go_wp2;refine Kc [(⟨w.heap.size,0,O⟩,I ga gn gc),(⟨w.heap.size,1,O⟩,I (C ⟨b,o,O⟩) n P),(⟨b,o+i*10,O⟩,.string Q),(⟨b,o+i*10+1,O⟩,I sa sn sc),(⟨b,o+i*10+2,O⟩,Y V d),(⟨b,o+i*10+3,O⟩,Y V de),(⟨b,o+i*10+4,O⟩,Y V gx),(⟨b,o+i*10+5,O⟩,Y V gz),(⟨b,o+i*10+6,O⟩,Y V wy),(⟨b,o+i*10+7,O⟩,Y V ax),(⟨b,o+i*10+8,O⟩,Y V az),(⟨b,o+i*10+9,O⟩,Y G sk)] cA fun a=>?_;refine sN 0 ?_
     (iterate 5 refine xb ?_);refine oN ?_;refine Ld (i:=5) fun K s=>?_;go_simp;refine cM (ag.o _ ((eR wr).drew)) ?_;rintro e w5 ⟨rfl,f⟩;go_wp2;refine kO s (cE a f) (fun a=>?_);clear s K;refine sN 6 ?_
     (iterate 9 refine xb ?_);refine oN ?_;refine Ld (i:=15) fun K s=>?_;go_simp;refine cM (ae.o w5 ((eR wr).drew.trans f) bn.o) ?_;rintro e w6 ⟨rfl,ac⟩;go_wp2;refine kO s (cE a ac) (fun a=>?_);clear s K;refine sN 16 ?_
     (iterate 2 refine xb ?_);refine oN ?_;refine Wb ?_;go_wp2;go_ret;exact⟨rfl,((hx.drew.trans f).trans ac)⟩
    |true=>
     go_wp2;refine Kc [(⟨w.heap.size,0,O⟩,I ga gn gc),(⟨w.heap.size,1,O⟩,I (C ⟨b,o,O⟩) n P),(⟨b,o+i*10,O⟩,.string Q),(⟨b,o+i*10+1,O⟩,I sa sn sc),(⟨b,o+i*10+2,O⟩,Y V d),(⟨b,o+i*10+3,O⟩,Y V de),(⟨b,o+i*10+4,O⟩,Y V gx),(⟨b,o+i*10+5,O⟩,Y V gz),(⟨b,o+i*10+6,O⟩,Y V wy),(⟨b,o+i*10+7,O⟩,Y V ax),(⟨b,o+i*10+8,O⟩,Y V az),(⟨b,o+i*10+9,O⟩,Y G sk)] cA fun a=>?_;refine sN 0 ?_
     (iterate 5 refine xb ?_);refine oN ?_;refine Ld (i:=5) fun K s=>?_;go_simp;refine cM (ag.o _ ((eR wr).drew)) ?_;rintro e w5 ⟨rfl,f⟩;go_wp2;refine kO s (cE a f) (fun a=>?_);clear s K;refine sN 6 ?_
     (iterate 9 refine xb ?_);refine oN ?_;refine Ld (i:=15) fun K s=>?_;go_simp;refine cM (ae.o w5 ((eR wr).drew.trans f) bn.o) ?_;rintro e w6 ⟨rfl,ac⟩;go_wp2;refine kO s (cE a ac) (fun a=>?_);clear s K;refine sN 16 ?_
     (iterate 2 refine xb ?_);refine oN ?_;refine Wb ?_;have X6:Ba wr w6:=((eR wr).drew.trans f).trans ac;have am:=Aa X6;replace w0:=X6.d w0;replace ad:=X6.d ad;replace c0:=X6.d c0;have aw:b<w6.heap.size:=X6.lt hb;clear a f ac c1 c2 c3 c4 c5 c6 c7 c8 c9 ag ae;go_wp2;go_loopw [4] (qy w6 ps Q i) (fun t4 _=>i-(intOf t4).toNat)
     case atStart=>exact⟨0,rfl,by omega,eR _,fun j q hj=>by omega⟩
     case round =>
      obtain⟨k,rfl,hk,c,hq⟩:=hrel;have Hq:=Aa hq;clear hq;have XK:Ba w wr:=hx.trans (am.o.trans c);replace w0:=c.d w0;replace ad:=c.d ad;replace c0:=c.d c0;have bA:b<wr.heap.size:=c.lt aw;have bC:w.heap.size<wr.heap.size:=World.block_lt_of_cell? wr _ w0;by_cases a8:k<i
      ·obtain⟨q,af⟩:∃q,ps[k]?=C q:=⟨_,gE (by rw[Hn.o];omega)⟩;obtain⟨b2,o2,v2,e2,a5,aB,aA,br⟩:=(HP.o.f XK).at' af;cases e2;have d0:=br 0 (.string q.name) rfl;simp only[Nat.add_zero]at d0;have ao:=Aa af;have j0:(0:Int)<=(k:Int):=oM;have j1:(k:Int)<(i:Int):=oM;have j2:(k:Int)<(n:Int):=oM;obtain⟨qb,bb⟩:=gX (Uf Q q);have bo:=Aa bb;obtain⟨qn,bc⟩:=gX q.name;rw[bc]at d0;(have bE:(qn.toList==Q.toList)=qb:=by rw[<-bb,<-bc];rfl);clear br a5 aB aA af bb bc;go_wp2;refine Kc [(⟨w.heap.size,1,O⟩,I (C ⟨b,o,O⟩) n P),(⟨b,o+k*10,O⟩,.string qn),(⟨b,o+i*10,O⟩,.string Q)] cA fun a=>?_;refine sN 0 ?_
       (iterate 15 refine xb ?_);refine oN ?_;refine Wb ?_;cases qb with
       |true=>
        have hA:Df g (ps.take i) ⟨Q,sh,d,de,gx,gz,wy,ax,az,sk⟩=7:=by
         rw[ak.o,CE a8 ao.o bo.o];rfl
        have e:R=7:=by
         have h9:=x.o (by rw[hA];decide);rw[<-aH.o,if_neg (by rw[h9,hA];decide),h9,hA]
        subst e;clear hA;go_wp2;go_ret;exact⟨rfl,XK.trans (eR _).drew⟩
       |false=>
        go_wp2;go_roundw
        case rel =>
         refine⟨k+1,by go_num,by omega,c.trans (eR _).drew,fun j q' hj aa=>?_⟩;by_cases h:j=k
         ·subst h;rw[ao.o]at aa;cases aa;exact bo.o
         ·exact Hq.o j q' oM aa
        case measure=>simp[intOf];omega
      ·obtain rfl:k=i:=oM;have hA:Df g (ps.take k) ⟨Q,sh,d,de,gx,gz,wy,ax,az,sk⟩=0:=by
        rw[ak.o,qC Hq.o];rfl
       go_wp2;go_roundw
       case rel=>exact⟨k+1,by go_num,by rw[Hn.o];omega,XK,(am.o.trans c).e au.o,by rw[<-ah.o hA]⟩
       case measure=>simp[intOf];omega
  ·obtain rfl:i=n:=oM;have aJ:jd g [] ps=0:=by
    rw[<-t.o,List.drop_of_length_le (by rw[Hn.o];exact nE _)];unfold jd;rfl
   have a4:=aH.o;rw[if_pos aJ]at a4;have aW:=Aa a4;have bl:=Aa (Lv aJ);have bw:=Aa (laid1_holds aJ);clear a4 aJ;go_wp2;go_loopw [5] (RR w g ps (Obj.cells #[Value.slice ga gn gc,Value.slice pa i P] 25 (0,0))) (fun t5 _=>i-(intOf t5).toNat)
   case atStart=>exact⟨0,rfl,by omega,hx,au.o,by simp⟩
   case round =>
    clear w0 ad wz hx au t;obtain⟨j,rfl,hj,hx,S,T⟩:=hrel;rw[Hn.o]at hj;have t:=Aa T;have w0:=Ca S (i:=0) (u:=I ga gn gc) rfl;have ad:=Ca S (i:=1) (u:=I pa i P) rfl;have wz:=Gb S;have au:=Aa S;clear T S;by_cases a9:j<i
    ·obtain⟨p,ai⟩:∃p,ps[j]?=C p:=⟨_,gE (by rw[Hn.o];exact a9)⟩;obtain⟨b,o,v,rfl,hb,hv,bf,y⟩:=(HP.o.f hx).at' ai;have ab:=bl.o p (lM ai);have bt:=bw.o p (lM ai);have aG:=Aa (fun W (hW:Ba wr W)=>Cr W v p (hv.f hW) ab);have aU:=Aa (fun W vl (hW:Ba wr W) (bB:yb W vl (Ea p))=>Dw W vl _ (Ea p) g bB (HG.o.f (hx.trans hW)) (Lh ab).1 (Ll an.o) (Qk ab).1 (xx an.o) (GP ab bt));have l:=fun h0=>sE (g:=g) ai h0;have m:=fun h0=>rE (g:=g) ai h0;rw[t.o,aW.o]at l m;have ah:=Aa l;have x:=Aa m;have bG:=Aa ai;have bz:=Aa ab;have Hv:=Aa hv;obtain⟨sa,sn,sc,rfl⟩:=hv.i;obtain⟨fb,a6⟩:=gX (re (Ea p) g);(have aQ:Fd g (ps.take j) p=(fb&&!(ps.take j).any (Bf p)):=by unfold Fd;rw[a6]);have av:=Aa aQ;rw[a6]at aU;have g0:(0:Int)<=(j:Int):=oM;have g1:(j:Int)<(i:Int):=oM;clear a6 aQ l m ai hv bf ab bt;obtain⟨Q,sh,d,de,gx,gz,wy,ax,az,sk⟩:=p;unfold Dd at y aG;dsimp only at y aG;have c0:=y 0 (.string Q) rfl;have c1:=y 1 (I sa sn sc) rfl;have c2:=y 2 (Y V d) rfl;have c3:=y 3 (Y V de) rfl;have c4:=y 4 (Y V gx) rfl;have c5:=y 5 (Y V gz) rfl;have c6:=y 6 (Y V wy) rfl;have c7:=y 7 (Y V ax) rfl;have c8:=y 8 (Y V az) rfl;have c9:=y 9 (Y G sk) rfl;simp only[Nat.add_zero]at c0;clear y;go_wp2;refine Kc [(⟨w.heap.size,0,O⟩,I ga gn gc),(⟨w.heap.size,1,O⟩,I (C ⟨b,o,O⟩) i P),(⟨b,o+j*10,O⟩,.string Q),(⟨b,o+j*10+1,O⟩,I sa sn sc),(⟨b,o+j*10+2,O⟩,Y V d),(⟨b,o+j*10+3,O⟩,Y V de),(⟨b,o+j*10+4,O⟩,Y V gx),(⟨b,o+j*10+5,O⟩,Y V gz),(⟨b,o+j*10+6,O⟩,Y V wy),(⟨b,o+j*10+7,O⟩,Y V ax),(⟨b,o+j*10+8,O⟩,Y V az),(⟨b,o+j*10+9,O⟩,Y G sk)] cA fun a=>?_;refine sN 0 ?_
     (iterate 5 refine xb ?_);refine oN ?_;refine sN 6 ?_
     (iterate 2 refine xb ?_);refine oN ?_;refine Ld (i:=5) fun K s=>?_;go_simp;refine cM (aG.o _ ((eR wr).drew)) ?_;rintro e w5 ⟨v5,rfl,be,f⟩;obtain⟨la,ln,lc,rfl⟩:=be.i;go_wp2;refine kO s (cE a f) (fun a=>?_);clear s K;refine Ld (i:=8) fun K s=>?_;go_simp;refine cM (aU.o w5 _ ((eR wr).drew.trans f) be.pr) ?_;rintro e w6 ⟨rfl,ac⟩;go_wp2;refine kO s (cE a ac) (fun a=>?_);clear s K;refine Db (i:=9) ?_;refine Wb ?_;have X6:Ba wr w6:=((eR wr).drew.trans f).trans ac;cases fb with
     |false=>
      have e:R=12:=x.o (by rw[av.o];rfl);subst e;go_wp2;go_ret;exact⟨rfl,hx.trans X6⟩
     |true=>
      have am:=Aa X6;replace w0:=X6.d w0;replace ad:=X6.d ad;have aw:b<w6.heap.size:=X6.lt hb;replace c0:=X6.d c0;replace c1:=X6.d c1;replace c2:=X6.d c2;replace c3:=X6.d c3;replace c4:=X6.d c4;replace c5:=X6.d c5;replace c6:=X6.d c6;replace c7:=X6.d c7;replace c8:=X6.d c8;replace c9:=X6.d c9;clear a f ac aG aU be;go_wp2;go_loopw [6] (py w6 ps ⟨Q,sh,d,de,gx,gz,wy,ax,az,sk⟩ j) (fun t6 _=>j-(intOf t6).toNat)
      case atStart=>exact⟨0,rfl,by omega,eR _,fun j q hj=>by omega⟩
      case round =>
       obtain⟨k,rfl,hk,c,hq⟩:=hrel;have Hq:=Aa hq;clear hq;have XK:Ba w wr:=hx.trans (am.o.trans c);replace w0:=c.d w0;replace ad:=c.d ad;replace c0:=c.d c0;replace c1:=c.d c1;replace c2:=c.d c2;replace c3:=c.d c3;replace c4:=c.d c4;replace c5:=c.d c5;replace c6:=c.d c6;replace c7:=c.d c7;replace c8:=c.d c8;replace c9:=c.d c9;have bA:b<wr.heap.size:=c.lt aw;have bC:w.heap.size<wr.heap.size:=World.block_lt_of_cell? wr _ w0;by_cases a8:k<j
       ·obtain⟨q,af⟩:∃q,ps[k]?=C q:=⟨_,gE (by rw[Hn.o];omega)⟩;obtain⟨b2,o2,v2,e2,a5,aB,aA,z⟩:=(HP.o.f XK).at' af;cases e2;have aS:=bl.o q (lM af);obtain⟨aC,aE,aD,rfl⟩:=aB.i;have ar:=Aa (fun W=>GD W ⟨Q,sh,d,de,gx,gz,wy,ax,az,sk⟩ q (I sa sn sc) (I aC aE aD) ⟨_,_,_,rfl⟩ ⟨_,_,_,rfl⟩);have aI:=Aa (fun W (hW:Ba wr W)=>DJ W ⟨Q,sh,d,de,gx,gz,wy,ax,az,sk⟩ q (I sa sn sc) (I aC aE aD) (Hv.o.f ((am.o.trans c).trans hW)) (aB.f hW) bz.o aS);have ao:=Aa af;have j0:(0:Int)<=(k:Int):=oM;have j1:(k:Int)<(j:Int):=oM;have j2:(k:Int)<(i:Int):=oM;obtain⟨mb,ba⟩:=gX (sd ⟨Q,sh,d,de,gx,gz,wy,ax,az,sk⟩ q);obtain⟨r,hr⟩:=gX (jf ⟨Q,sh,d,de,gx,gz,wy,ax,az,sk⟩ q);(have bq:Bf ⟨Q,sh,d,de,gx,gz,wy,ax,az,sk⟩ q=(mb&&(r==5)):=by unfold Bf;rw[ba,hr]);have aX:=Aa bq;rw[ba]at ar;rw[hr]at aI;clear a5 aB aA af ba hr bq aS;obtain⟨bh,bH,d',a0,a1,a2,bj,aY,aZ,bi⟩:=q;unfold Dd at z ar aI;dsimp only at z ar aI;have d0:=z 0 (.string bh) rfl;have d1:=z 1 (I aC aE aD) rfl;have d2:=z 2 (Y V d') rfl;have d3:=z 3 (Y V a0) rfl;have d4:=z 4 (Y V a1) rfl;have d5:=z 5 (Y V a2) rfl;have d6:=z 6 (Y V bj) rfl;have d7:=z 7 (Y V aY) rfl;have d8:=z 8 (Y V aZ) rfl;have d9:=z 9 (Y G bi) rfl;simp only[Nat.add_zero]at d0;clear z;cases mb with
        |false=>
         go_wp2;refine Kc [(⟨w.heap.size,1,O⟩,I (C ⟨b,o,O⟩) i P),(⟨b,o+j*10,O⟩,.string Q),(⟨b,o+j*10+1,O⟩,I sa sn sc),(⟨b,o+j*10+2,O⟩,Y V d),(⟨b,o+j*10+3,O⟩,Y V de),(⟨b,o+j*10+4,O⟩,Y V gx),(⟨b,o+j*10+5,O⟩,Y V gz),(⟨b,o+j*10+6,O⟩,Y V wy),(⟨b,o+j*10+7,O⟩,Y V ax),(⟨b,o+j*10+8,O⟩,Y V az),(⟨b,o+j*10+9,O⟩,Y G sk),(⟨b,o+k*10,O⟩,.string bh),(⟨b,o+k*10+1,O⟩,I aC aE aD),(⟨b,o+k*10+2,O⟩,Y V d'),(⟨b,o+k*10+3,O⟩,Y V a0),(⟨b,o+k*10+4,O⟩,Y V a1),(⟨b,o+k*10+5,O⟩,Y V a2),(⟨b,o+k*10+6,O⟩,Y V bj),(⟨b,o+k*10+7,O⟩,Y V aY),(⟨b,o+k*10+8,O⟩,Y V aZ),(⟨b,o+k*10+9,O⟩,Y G bi)] cA fun a=>?_;refine sN 0 ?_
         (iterate 10 refine xb ?_);refine oN ?_;refine Ld (i:=10) fun K s=>?_;go_simp;refine cM (ar.o wr.drew) ?_;rintro e w7 ⟨rfl,aj⟩;go_wp2;refine kO s (cE a aj) (fun a=>?_);clear s K;refine sN 11 ?_;refine xb ?_
         (iterate 12 refine Ee ?_);refine xb ?_;refine oN ?_;refine Wb ?_;go_wp2;refine⟨?_,?measure1⟩
         repeat apply Exists.intro
         refine⟨?rel1,rfl⟩
         case rel1 =>
          refine⟨k+1,by go_num,by omega,c.trans ((eR _).drew.trans aj),fun j q' hj aa=>?_⟩;by_cases h:j=k
          ·subst h;rw[ao.o]at aa;cases aa;rw[aX.o];rfl
          ·exact Hq.o j q' oM aa
         case measure1=>simp[intOf];omega
        |true=>
         go_wp2;refine Kc [(⟨w.heap.size,1,O⟩,I (C ⟨b,o,O⟩) i P),(⟨b,o+j*10,O⟩,.string Q),(⟨b,o+j*10+1,O⟩,I sa sn sc),(⟨b,o+j*10+2,O⟩,Y V d),(⟨b,o+j*10+3,O⟩,Y V de),(⟨b,o+j*10+4,O⟩,Y V gx),(⟨b,o+j*10+5,O⟩,Y V gz),(⟨b,o+j*10+6,O⟩,Y V wy),(⟨b,o+j*10+7,O⟩,Y V ax),(⟨b,o+j*10+8,O⟩,Y V az),(⟨b,o+j*10+9,O⟩,Y G sk),(⟨b,o+k*10,O⟩,.string bh),(⟨b,o+k*10+1,O⟩,I aC aE aD),(⟨b,o+k*10+2,O⟩,Y V d'),(⟨b,o+k*10+3,O⟩,Y V a0),(⟨b,o+k*10+4,O⟩,Y V a1),(⟨b,o+k*10+5,O⟩,Y V a2),(⟨b,o+k*10+6,O⟩,Y V bj),(⟨b,o+k*10+7,O⟩,Y V aY),(⟨b,o+k*10+8,O⟩,Y V aZ),(⟨b,o+k*10+9,O⟩,Y G bi)] cA fun a=>?_;refine sN 0 ?_
         (iterate 10 refine xb ?_);refine oN ?_;refine Ld (i:=10) fun K s=>?_;go_simp;refine cM (ar.o wr.drew) ?_;rintro e w7 ⟨rfl,aj⟩;go_wp2;refine kO s (cE a aj) (fun a=>?_);clear s K;refine sN 11 ?_
         (iterate 11 refine xb ?_);refine oN ?_;refine Ld (i:=22) fun K s=>?_;go_simp;refine cM (aI.o w7 ((eR wr).drew.trans aj)) ?_;rintro e w8 ⟨rfl,bg⟩;go_wp2;refine kO s (cE a bg) (fun a=>?_);clear s K;refine sN 23 ?_
         (iterate 2 refine xb ?_);refine oN ?_;refine Wb ?_;by_cases h5:r=5
         ·have e:R=12:=x.o (by rw[av.o,CE a8 ao.o (by rw[aX.o,h5];rfl)];rfl);subst e h5;go_wp2;go_ret;exact⟨rfl,XK.trans (((eR _).drew.trans aj).trans bg)⟩
         ·go_wp2;refine⟨?_,?measure3⟩
          repeat apply Exists.intro
          refine⟨?rel3,rfl⟩
          case rel3 =>
           refine⟨k+1,by go_num,by omega,c.trans (((eR _).drew.trans aj).trans bg),fun j q' hj aa=>?_⟩;by_cases h:j=k
           ·subst h;rw[ao.o]at aa;cases aa;rw[aX.o,beq_false_of_ne h5];rfl
           ·exact Hq.o j q' oM aa
          case measure3=>simp[intOf];omega
       ·obtain rfl:k=j:=oM;have hA:Fd g (ps.take k) ⟨Q,sh,d,de,gx,gz,wy,ax,az,sk⟩=true:=by
         rw[av.o,qC Hq.o];rfl
        have hS:=ah.o hA;go_wp2;go_roundw
        case rel=>exact⟨k+1,by go_num,by rw[Hn.o];omega,XK,(am.o.trans c).e au.o,by rw[aW.o];exact hS.symm⟩
        case measure=>simp[intOf];omega
    ·obtain rfl:j=i:=oM;have e:R=0:=by
      rw[<-aW.o,<-t.o,List.drop_of_length_le (by rw[Hn.o];exact nE _)];unfold Kf;rfl
     subst e;go_wp2;go_ret;exact⟨rfl,hx⟩
