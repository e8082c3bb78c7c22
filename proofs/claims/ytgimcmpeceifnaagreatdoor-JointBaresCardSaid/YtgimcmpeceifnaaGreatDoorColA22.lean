import Derived.Test.YtgimcmpeceifnaaGreatDoorColA21
set_option maxRecDepth 1000000
set_option maxHeartbeats 16000000
set_option linter.all false
open Go.Value renaming int->O,slice->X,pointer->G,agg->P
open Go.IntKind renaming i64->Y,u8->S
open Option renaming none->Z,some->J
open Go renaming Value->V,World->I
open Go.Obj renaming cells->F
namespace Go.Proofs.YtgimcmpeceifnaaGreatDoor.Cop
section
open Go.RowKit Go.Shelf Go.Sort
attribute [local go_sem] Oper.semAt_some
def tA(w:I)(l:LP)(t3:V)(W:I):Prop:=
 ∃i:Nat,t3=O Y i/\i<=l.length/\Ba w W/\∀j,j<i->Kf l j=true
def EI(l:LP)(i:Nat):Kf l i=(!Uc (Pa l i).1&&(!Uc (Pa l i).2&&(i==0 || decide ((Pa l (i-1)).1<(Pa l i).1)))):=rfl
def jM(w:I)(v:V)(l:LP)(h:Ab w v l)(hl:l.length<=1000000):Calls Tryz.prog 56 #[v] w fun e w'=>e=.returned (.bool (Bb l))/\Ba w w':=by
 obtain⟨a,c,rfl⟩:=h.form;obtain⟨n,hn⟩:=gX l.length;rw[hn]at hl ⊢;obtain⟨cb,ab⟩:=gX (Bb l);rw[ab];have ad:=Aa ab;have R:=Aa hn;have H:=Aa h;clear hn h ab;go_in;go_wp2;go_loopw [3] (tA w l) (fun t3 _=>n-(intOf t3).toNat)
 case atStart=>exact⟨0,rfl,by omega,eR _,fun j hj=>by omega⟩
 case round =>
  obtain⟨i,rfl,hi,hx,K⟩:=hrel;rw[R.o]at hi;have t:=Aa K;clear K;by_cases ah:i<n
  ·obtain⟨b,o,rfl,hb,c0,c1⟩:=(H.o.f hx).pt (i:=i) (by rw[R.o];exact ah);have s:=EI l i;have aj:Kf l i=false->cb=false:=fun h9=>by rw[<-ad.o];exact Gv (by rw[R.o];exact ah) h9
   have f:0<i->∃px pz,Pa l (i-1)=(px,pz)/\wr.cell? ⟨b,o+(i-1)*2,Z⟩=J (O Y px):=fun h0=>by
    obtain⟨b2,o2,e2,-,d0,-⟩:=(H.o.f hx).pt (i:=i-1) (by rw[R.o];omega);cases e2;exact⟨_,_,rfl,d0⟩
   obtain⟨⟨x,z⟩,hq⟩:∃q,Pa l i=q:=⟨_,rfl⟩;rw[hq]at c0 c1 s;dsimp only at c0 c1 s;obtain⟨bx,af⟩:=gX ((!Uc x));obtain⟨bz,ag⟩:=gX ((!Uc z));have hX:=fun W=>Ov W x;have hZ:=fun W=>Ov W z;rw[af]at hX s;rw[ag]at hZ s;have HX:=Aa hX;have HZ:=Aa hZ;have y:=Aa s;have aa:=Aa aj;have g0:(0:Int)<=(i:Int):=oM;have g1:(i:Int)<(n:Int):=oM;clear hq af ag hX hZ s aj;cases bx with
   |false=>
    have e:cb=false:=aa.o (by rw[y.o];rfl);subst e;clear f;go_wp2;refine od [(⟨b,o+i*2,Z⟩,O Y x),(⟨b,o+i*2+1,Z⟩,O Y z)] cA fun d=>?_;refine sN 0 ?_
    (iterate 5 refine ub ?_);refine oN ?_;refine mc (i:=5) (HX.o wr.drew) ?_;rintro e L ⟨rfl,k⟩;refine⟨_,rfl,(cE d k),fun d=>?_⟩;refine sN 6 ?_
    iterate 2 refine ub ?_
    iterate 7 refine Te ?_
    iterate 2 refine ub ?_
    (iterate 16 refine Te ?_);refine ub ?_;refine oN ?_;refine Tb ?_;go_wp2;go_ret;exact⟨rfl,eA⟩
   |true=>
    cases bz with
    |false=>
     have e:cb=false:=aa.o (by rw[y.o];rfl);subst e;clear f;go_wp2;refine od [(⟨b,o+i*2,Z⟩,O Y x),(⟨b,o+i*2+1,Z⟩,O Y z)] cA fun d=>?_;refine sN 0 ?_
     (iterate 5 refine ub ?_);refine oN ?_;refine mc (i:=5) (HX.o wr.drew) ?_;rintro e L ⟨rfl,k⟩;refine⟨_,rfl,(cE d k),fun d=>?_⟩;refine sN 6 ?_
     (iterate 7 refine ub ?_);refine oN ?_;refine mc (i:=13) (HZ.o L) ?_;rintro e w6 ⟨rfl,p⟩;refine⟨_,rfl,(cE d p),fun d=>?_⟩;refine sN 14 ?_
     iterate 3 refine ub ?_
     (iterate 16 refine Te ?_);refine ub ?_;refine oN ?_;refine Tb ?_;go_wp2;go_ret;exact⟨rfl,eA⟩
    |true=>
     by_cases ak:i=0
     ·subst ak;(have e9:Kf l 0=true:=by rw[y.o];rfl);simp only[Nat.zero_mul,Nat.add_zero]at c0 c1;have E9:=Aa e9;clear e9 f;go_wp2;refine od [(⟨b,o,Z⟩,O Y x),(⟨b,o+1,Z⟩,O Y z)] cA fun d=>?_;refine sN 0 ?_
      (iterate 5 refine ub ?_);refine oN ?_;refine mc (i:=5) (HX.o wr.drew) ?_;rintro e L ⟨rfl,k⟩;refine⟨_,rfl,(cE d k),fun d=>?_⟩;refine sN 6 ?_
      (iterate 7 refine ub ?_);refine oN ?_;refine mc (i:=13) (HZ.o L) ?_;rintro e w6 ⟨rfl,p⟩;refine⟨_,rfl,(cE d p),fun d=>?_⟩;refine sN 14 ?_
      iterate 6 refine ub ?_
      iterate 12 refine Te ?_
      (iterate 2 refine ub ?_);refine oN ?_;refine Tb ?_;go_wp2;go_roundw
      case rel=>exact⟨0+1,by go_num,by rw[R.o];omega,(hx.drew.trans k).trans p,fun j hj=>by
        by_cases ac:j=0
        ·subst ac;exact E9.o
        ·exact t.o j oM⟩
      case measure=>simp[intOf];omega
     ·obtain⟨m,rfl⟩:∃m,i=m+1:=⟨i-1,by omega⟩;obtain⟨px,pz,hp,d0⟩:=f oM;simp only[Nat.add_sub_cancel]at hp d0;have u:=y.o;rw[Nat.add_sub_cancel,hp]at u;have e8:(m+1==0)=false:=sM;rw[e8,Bool.true_and,Bool.true_and,Bool.false_or]at u;dsimp only at u;have ae:=Aa u;have k1:(0:Int)<=(m:Int):=oM;have k2:(m:Int)<(n:Int):=oM;have k3:(0:Int)<(m:Int)+1:=oM;have k4:((m:Int)+1).toNat=m+1:=oM;have k5:(m:Int)+1-1=(m:Int):=oM;have k6:(0:Int)<=(m:Int)+1:=oM;have k7:(m:Int)+1<(n:Int):=oM;have kw:IntKind.i64.wrap (m:Int)=(m:Int):=iW _ oM;clear f hp u;by_cases ai:px<x
      ·(have e1:decide (x<=px)=false:=by simp;omega);(have e9:Kf l (m+1)=true:=by rw[ae.o];simpa using ai);have E9:=Aa e9;clear e9;go_wp2;refine od [(⟨b,o+(m+1)*2,Z⟩,O Y x),(⟨b,o+(m+1)*2+1,Z⟩,O Y z),(⟨b,o+m*2,Z⟩,O Y px)] cA fun d=>?_;refine sN 0 ?_
       (iterate 5 refine ub ?_);refine oN ?_;refine mc (i:=5) (HX.o wr.drew) ?_;rintro e L ⟨rfl,k⟩;refine⟨_,rfl,(cE d k),fun d=>?_⟩;refine sN 6 ?_
       (iterate 7 refine ub ?_);refine oN ?_;refine mc (i:=13) (HZ.o L) ?_;rintro e w6 ⟨rfl,p⟩;refine⟨_,rfl,(cE d p),fun d=>?_⟩;refine sN 14 ?_
       (iterate 20 refine ub ?_);refine oN ?_;clear kw;refine Tb ?_;go_wp2;go_roundw
       case rel=>exact⟨m+1+1,by go_num,by rw[R.o];omega,(hx.drew.trans k).trans p,fun j hj=>by
         by_cases ac:j=m+1
         ·subst ac;exact E9.o
         ·exact t.o j oM⟩
       case measure=>simp[intOf];omega
      ·(have e1:decide (x<=px)=true:=by simp;omega);have e:cb=false:=aa.o (by rw[ae.o];simpa using ai);subst e;go_wp2;refine od [(⟨b,o+(m+1)*2,Z⟩,O Y x),(⟨b,o+(m+1)*2+1,Z⟩,O Y z),(⟨b,o+m*2,Z⟩,O Y px)] cA fun d=>?_;refine sN 0 ?_
       (iterate 5 refine ub ?_);refine oN ?_;refine mc (i:=5) (HX.o wr.drew) ?_;rintro e L ⟨rfl,k⟩;refine⟨_,rfl,(cE d k),fun d=>?_⟩;refine sN 6 ?_
       (iterate 7 refine ub ?_);refine oN ?_;refine mc (i:=13) (HZ.o L) ?_;rintro e w6 ⟨rfl,p⟩;refine⟨_,rfl,(cE d p),fun d=>?_⟩;refine sN 14 ?_
       (iterate 20 refine ub ?_);refine oN ?_;clear kw;refine Tb ?_;go_wp2;go_ret;exact⟨rfl,eA⟩
  ·obtain rfl:i=n:=oM;have e:cb=Ra i 2 40:=by
    rw[<-ad.o];unfold Bb;rw[R.o,Mv t.o,Bool.and_true]
   have E:=Aa e;clear e;unfold Ra at E;by_cases k1:2<=i
   ·have k2:(2:Int)<=(i:Int):=oM;(have e2:cb=decide ((i:Int)<=40):=by rw[E.o];simp;omega);subst e2;go_wp2;go_ret;exact⟨Uj sM,eA⟩
   ·have k2:¬(2:Int)<=(i:Int):=oM;(have e2:cb=false:=by rw[E.o];simp;omega);subst e2;go_wp2;go_ret;exact⟨rfl,eA⟩
def VL(w:I)(vg v:V)(g:LP)(p:Pl)(hg:Ab w vg g)(h:Ab w v p.shape)(q:Ia p=true)(L:g≠[])(hl:g.length<=1000000):Calls Tryz.prog 58 #[vg,P (Dd p v)] w fun e w'=>e=.returned (.bool (te g p))/\Ba w w':=by
 have R:=ol q;have HL:=Aa (fun W (hW:Ba w W)=>Pv W v p (h.f hW) q);have HE:=Aa (fun W v (hv:Ab W v (Ga p))=>Ys W v _ hv R.1.1);obtain⟨k,j⟩:=gX (te g p);rw[j];unfold te at j;obtain⟨l1,e1⟩:=gX (yb (Ga p));obtain⟨r1,e2⟩:=gX (Vb (Ga p));rw[show (Pa (Ga p) 0).1=l1 from e1,show (Pa (Ga p) ((Ga p).length-1)).1=r1 from e2]at HE;rw[e1,e2]at j;obtain⟨ga,gc,rfl⟩:=hg.form;obtain⟨n,u⟩:=gX g.length;have ag:0<n:=by rw[<-u];exact List.length_pos_iff.2 L
 obtain⟨b,o,rfl,hb,c0,-⟩:=hg.pt (i:=0) (by rw[u];exact ag);obtain⟨b2,o2,e9,ad,d0,-⟩:=hg.pt (i:=n-1) (by rw[u];omega);cases e9;have z:yb g=(Pa g 0).1:=rfl;have K:Vb g=(Pa g (n-1)).1:=by rw[<-u];rfl
 rw[z,K]at j;obtain⟨x,hx⟩:=gX ((Pa g 0).1);obtain⟨y,hy⟩:=gX ((Pa g (n-1)).1);rw[hx]at c0 j;rw[hy]at d0 j;rw[u]at hl ⊢;obtain⟨m,hm⟩:=gX (n-1);rw[hm]at d0;obtain rfl:n=m+1:=oM;simp only[Nat.zero_mul,Nat.add_zero]at c0;have Hk:=Aa j;have k1:(0:Int)<=(m:Int):=oM;have k2:(m:Int)<(m:Int)+1:=oM;have k5:(m:Int)+1-1=(m:Int):=oM;have k3:(0:Int)<(m:Int)+1:=oM;obtain⟨a,n9,c,rfl⟩:=h.i;clear j e1 e2 z K hx hy u hm hg h R q L ad;obtain⟨nm,sh,d,de,gx,gz,wy,ax,az,sk⟩:=p;unfold Dd at HL ⊢;dsimp only at HL ⊢;by_cases h1:x<=l1
 ·have e:k=decide (r1<=y):=by rw[<-Hk.o];simp[h1]
  subst e;go_in;go_wp2_with(first|(go_at_call 60;refine cM (HL.o _ eA) ?_;rintro e w1 ⟨v1,rfl,f,s⟩;obtain⟨a1,n1,c1,rfl⟩:=f.i;obtain⟨⟨ae,af⟩,aa⟩:=Id w s;(have X1:Ba w w1:=eA))|(go_at_call 93;refine cM (HE.o w1 _ f.pr) ?_;rintro e w2 ⟨rfl,t⟩;(have l:Ba w w2:=X1.trans t);(have ab:=l.d c0);(have ac:=l.d d0)));go_ret;exact⟨rfl,l⟩
 ·have e:k=false:=by rw[<-Hk.o];simp[h1]
  subst e;go_in;go_wp2_with(first|(go_at_call 60;refine cM (HL.o _ eA) ?_;rintro e w1 ⟨v1,rfl,f,s⟩;obtain⟨a1,n1,c1,rfl⟩:=f.i;obtain⟨⟨ae,af⟩,aa⟩:=Id w s;(have X1:Ba w w1:=eA))|(go_at_call 93;refine cM (HE.o w1 _ f.pr) ?_;rintro e w2 ⟨rfl,t⟩;(have l:Ba w w2:=X1.trans t);(have ab:=l.d c0);(have ac:=l.d d0)));go_ret;exact⟨rfl,l⟩
end
section
open Go.RowKit Go.Shelf Go.Maps Go.Sort Go.Lib
attribute [local go_sem] Oper.semAt_some
def Kc(ks:List (JS×V))(m:Nat):Nat:=match ks[m]? with|some x=>x.1.k.toNat|none=>0
def fM(ks:List (JS×V))(a:Nat->List Be):Nat->Nat->List Int
 | 0=>fun _=>[]
 | m+1=>Dh (fM ks a m) (Kc ks m) (Sf ks (a (Kc ks m)) (a (Kc ks m)).length)
def xV(c:I)(base B:Nat)(ks:List (JS×V))(a:Nat->List Be)(d:Nat)(b:V)(W:I):Prop:=
 ∃m N:Nat,m<=ks.length/\b=O Y m/\d=ks.length-m/\N<=121*m/\mh base B c W/\Gm W base B N (fM ks a m)
def CP(R:I)(L b5 B base:Nat)(r:Ru)(vg vp vs vj vr:V)(ks:List (JS×V))(f:Nat->List Be)(va:Option Addr)(y vc:Nat)(Q:Exit->Act->I->Prop)(x1 x2 x3 x4 x6 x7 x8 x9 aH bD aI aJ aK aL aM aO aP aQ aR aS aT aU aV aW aX aY bE bF bG bH bI bJ bK bL bM bN bO bP bQ bT bU bV bW bX bY bZ b0 b1 b2 b3 b4 b6 b7 b8 b9 ca cb cc cd ce cf cg ch ci cj ck cl cm cn co cp cq cr ct aZ a0 a1 a2 a3 a4 a5:V)(bC:vs=X va y vc)(bA:∃a n c,vg=X a n c)(bB:∃a n c,vp=X a n c)(K:R.heap[L]?=J (F (pj r vg vp vs vj vr) 89 (0,0)))(s:Fe R vs ks)(aE:∀j∈ks,∃a n c,j.2=X a n c)(h5:R.heap[b5]?=J (F #[.map (J B)] 171 (0,0)))(hG:Gm R base B 0 (fun _=>[]))(bv:base<=R.heap.size)(bz:ks.length<=120)(aD:∀x∈ks,∃k:Nat,x.1.k=k/\k<1000)(av:∀k,(f k).length<=121)(ay:∀k,∀b∈f k,-1<=b.num/\b.num<=1000)(ar:∀W,mh base B R W->∀k:Nat,(∃x∈ks,x.1.k=k)->Calls Tryz.prog 99 #[P #[vg,vp],O Y k,O Y r.pin] W (Xk W (f k)))(au:∀(c:List PanicEntry)(a:Act)(d:Option Nat)(v:V)(w:I),Q (.panic c) (a.put d v) w->Q (.panic c) a w)(hQ:∀(cv y7 y8 y9 cu cx cy cz cB cC cD cF cG cH cI cJ cK cL cN cO cP cQ cR cS cT cU cV cW cX cY cZ c0 c1 c2 c3 c4 c5 c6 c7 c8 c9 da db dc dd dg dh di dj dk dl dm dn:V)(W:I)(N:Nat),mh base B R W->Gm W base B N (fM ks f ks.length)->N<=121*ks.length->Q (.exit 0) { tmps:=#[G (J ⟨L,0,Z⟩),x1,x2,x3,x4,G (J ⟨b5,0,Z⟩),x6,y7,y8,y9,aH,cu,aI,aJ,aK,aL,aM,aO,aP,aQ,aR,aS,aT,aU,aV,aW,aX,aY,X va y vc,O Y y,cv,cx,cy,cz,cB,cC,cD,cF,cG,cH,cI,cJ,cK,cL,cN,cO,cP,cQ,cR,cS,cT,cU,cV,cW,cX,cY,cZ,c0,c1,c2,c3,c4,c5,c6,c7,c8,c9,da,db,dc,dd,dg,dh,di,dj,dk,dl,dm,dn,aZ,a0,a1,a2,a3,a4,a5],defers:=[] } W) :
  (Code.loop (Qc Tryz.f66 0)).wp Tryz.prog Q { tmps:=#[G (J ⟨L,0,Z⟩),x1,x2,x3,x4,G (J ⟨b5,0,Z⟩),x6,x7,x8,x9,aH,bD,aI,aJ,aK,aL,aM,aO,aP,aQ,aR,aS,aT,aU,aV,aW,aX,aY,X va y vc,O Y y,O Y 0,bE,bF,bG,bH,bI,bJ,bK,bL,bM,bN,bO,bP,bQ,bT,bU,bV,bW,bX,bY,bZ,b0,b1,b2,b3,b4,b6,b7,b8,b9,ca,cb,cc,cd,ce,cf,cg,ch,ci,cj,ck,cl,cm,cn,co,cp,cq,cr,ct,aZ,a0,a1,a2,a3,a4,a5],defers:=[] } R:=by
 subst bC;have l:=Aa (show y=ks.length from s.len);have dp:y<=120:=by have:=l.o;omega
 obtain⟨ga,gn,gc,rfl⟩:=bA;obtain⟨pa,pn,aj,rfl⟩:=bB;have HS:=Aa K;have bk:=Aa s;have ap:=Aa aE;have H5:=Aa h5;have HG:=Aa hG;have a9:=Aa av;have be:=Aa ay;have ak:=Aa ar;have HQ:=Aa hQ;have ae:=Aa au;have bj:=Aa aD;have aF:B≠L/\B≠b5:=by
  obtain⟨es,bm,hm⟩:=hG.map;refine⟨fun e=>?_,fun e=>?_⟩<;>subst e
  ·rw[K]at hm;cases hm
  ·rw[h5]at hm;cases hm
 clear K s aE h5 hG av ay ar hQ au aD bz;unfold Qc;simp only[Tryz.f66,Qb,List.append_nil,List.nil_append,List.singleton_append,List.cons_append,List.getD_cons_zero,List.getD_cons_succ];go_loopg [30] y (xV R base B ks f)
 case atStart=>exact⟨0,0,by omega,rfl,by rw[l.o];rfl,by omega,mh.refl _ _ _,HG.o⟩
 case round =>
  obtain⟨m,N,hm,rfl,rfl,hN,p,hg⟩:=hrel;rw[<-l.o]at hm;by_cases bx:m<y
  ·have K:=p.2 L _ HS.o (Ne.symm aF.1) (.inr fun cs fr e=>by cases e);have h5:=p.2 b5 _ H5.o (Ne.symm aF.2) (.inr fun cs fr e=>by cases e);have s:Fe wr (X va y vc) ks:=bk.o.keep (p.keepT dM HG.o.notCells);have ds:=p.1.1;obtain⟨x,hx⟩:∃x,ks[m]?=J x:=⟨ks[m]'(by rw[<-l.o];exact bx),gE _⟩;have ab:=lM hx;obtain⟨sa,sn,sc,aG⟩:=ap.o x ab;obtain⟨t,ah,bw⟩:=bj.o x ab;have ad:Kc ks m=t:=by unfold Kc;rw[hx];simp[ah]
   have bu:=ak.o;obtain⟨bb,bo,rfl,dr,q⟩:=s.at' hx;obtain⟨⟨⟨nm,sh,d,de,gx,gz,wy,ax,az,sk⟩,k0,⟨xl,xh⟩,zl,zh⟩,v⟩:=x;dsimp only at ah aG;subst ah aG;unfold qh at q;dsimp only at q;have d0:=q 0 (.string nm) rfl;have d1:=q 1 (X sa sn sc) rfl;have d2:=q 2 (O Y d) rfl;have d3:=q 3 (O Y de) rfl;have d4:=q 4 (O Y gx) rfl;have d5:=q 5 (O Y gz) rfl;have d6:=q 6 (O Y wy) rfl;have d7:=q 7 (O Y ax) rfl;have d8:=q 8 (O Y az) rfl;have d9:=q 9 (O S sk) rfl;have bp:=q 10 (O Y (t:Int)) rfl;have bq:=q 11 (O Y xl) rfl;have br:=q 12 (O Y xh) rfl;have bs:=q 13 (O Y zl) rfl;have bt:=q 14 (O Y zh) rfl;simp only[Nat.add_zero]at d0;have e1:=Da K (i:=1) (u:=O Y r.pin) rfl;have e7:=Da K (i:=7) (u:=X ga gn gc) rfl;have e8:=Da K (i:=8) (u:=X pa pn aj) rfl;have zs:=Ya K;have ea:L<wr.heap.size+1:=oM;have Hg:=Aa hg;have af:=Aa p;have al:=Aa (fun(W:I)(hW:Ba wr W)=>ak.o W (p.trans (mh.ofExt hW)) t ⟨_,ab,rfl⟩);have a8:=Aa K;have a6:=Aa h5;have ao:=Aa s;have am:=Aa (a9.o t);have an:=Aa (be.o t);have bl:=Aa (show fM ks f (m+1)=Dh (fM ks f m) t (Sf ks (f t) (f t).length) by show Dh _ _ _=_;rw[ad]);clear hx ab q K h5 s hg p ad bu;go_wp2;refine od [(⟨L,7,Z⟩,X ga gn gc),(⟨L,8,Z⟩,X pa pn aj),(⟨wr.heap.size,10,Z⟩,O Y (t:Int)),(⟨L,1,Z⟩,O Y r.pin)] cA fun ag=>?_;refine sN 0 ?_
   iterate 11 refine ub (h4:=fun _ _ _ h=>ae.o _ _ _ _ _ h) ?_
   refine oN ?_;refine mc (i:=11) (al.o _ ((eR wr).alloc _).drew) ?_;rintro e w2 ⟨v8,rfl,ai,aa⟩;obtain⟨ba,bn,bc,rfl⟩:=ai.i;refine⟨_,rfl,(cE ag aa),fun ag=>?_⟩;refine sN 12 ?_
   iterate 5 refine ub (h4:=fun _ _ _ h=>ae.o _ _ _ _ _ h) ?_
   refine oN ?_;refine Tb ?_;have X2:Ba wr w2:=((eR wr).alloc _).drew.trans aa;have aq:=aa.e (((eR _).drew).e (aN wr (F #[.string nm,X sa sn sc,O Y d,O Y de,O Y gx,O Y gz,O Y wy,O Y ax,O Y az,O S sk,O Y (t:Int),O Y xl,O Y xh,O Y zl,O Y zh] 113)));have ac:=ai.bes;have bi:=Aa ac;have a7:=Aa aq;have z:=Aa X2;have aw:base<=w2.heap.size:=by have:=X2.size;omega
   clear ag ai aa X2 aq ac d0 d1 d2 d3 d4 d5 d6 d7 d8 d9 bp bq br bs bt e1 e7 e8 al;go_wp2;refine DP w2 L b5 wr.heap.size B base N t r (X ga gn gc) (X pa pn aj) (X (J ⟨bb,bo,Z⟩) y vc) vj vr ks (f t) (fM ks f m) #[.string nm,X sa sn sc,O Y d,O Y de,O Y gx,O Y gz,O Y wy,O Y ax,O Y az,O S sk,O Y (t:Int),O Y xl,O Y xh,O Y zl,O Y zh] ba bn bc _ _ _ _ _ _ _ _ _ _ _ _ _ _ _ _ _ _ _ _ _ _ _ _ _ _ _ _ _ _ _ _ _ _ _ _ _ _ _ _ _ _ _ _ _ _ _ _ _ _ _ _ _ _ _ _ _ _ _ _ _ _ _ _ _ _ _ _ _ _ _ _ _ _ _ _ _ _ _ _ _ (z.o.e a8.o) (ao.o.f z.o) ap.o (z.o.e a6.o) a7.o rfl bi.o am.o (Hg.o.ext z.o) oM bw aw an.o (fun c a d v w h=>ae.o c a d v w h) ?_;intro du dt dw dx dy dz dB dC dD dE dF dG dH dI i64 dJ dK dL dN dP dQ dR dS dU dV dW dY dZ W N' aA aC dq;have bf:=Aa aA;have bh:=Aa aC;clear aA aC;go_wp2;go_roundg (y-(m+1))
   case measure=>have:=l.o;omega
   case rel =>
    refine⟨m+1,N',by rw[<-l.o];omega,by go_num,by rw[<-l.o],by have:=am.o;omega,(af.o.trans (mh.ofExt z.o)).trans bf.o,?_⟩;rw[bl.o];exact bh.o
  ·obtain rfl:m=y:=oM;have aB:Gm wr base B N (fM ks f ks.length):=by rw[<-l.o];exact hg
   have bg:=Aa aB;have af:=Aa p;clear hg p aB;go_wp2;exact HQ.o _ _ _ _ _ _ _ _ _ _ _ _ _ _ _ _ _ _ _ _ _ _ _ _ _ _ _ _ _ _ _ _ _ _ _ _ _ _ _ _ _ _ _ _ _ _ _ _ _ _ _ _ _ wr N af.o bg.o (by rw[<-l.o];exact hN)
end
section
open Go.RowKit Go.Shelf Go.Sort Go.Lib
attribute [local go_sem] Oper.semAt_some
def pV(w:I)(l:LP)(c d t9 a b:V)(W:I):Prop:=
 ∃i:Nat,b=O Y i/\0<i/\i<=l.length/\c=O Y (pd Prod.fst (l.take i)).1/\d=O Y (pd Prod.fst (l.take i)).2/\t9=O Y (pd Prod.snd (l.take i)).1/\a=O Y (pd Prod.snd (l.take i)).2/\Ba w W
def py(w:I)(v:V)(p:Pl)(h:Ab w v p.shape)(t:Ia p=true):Calls Tryz.prog 43 #[P (Dd p v)] w fun e w'=>e=.returned (.tuple #[O Y (pd Prod.fst (Ca p)).1,O Y (pd Prod.fst (Ca p)).2,O Y (pd Prod.snd (Ca p)).1,O Y (pd Prod.snd (Ca p)).2])/\Ba w w':=by
 have R:=Aa (fun(W:I)(hW:Ba w W)=>Fy W v p (h.f hW) t);obtain⟨-,h3,Vi⟩:=ko t;obtain⟨sa,sn,sc,rfl⟩:=h.i;unfold Dd at R ⊢;obtain⟨l,hl⟩:=gX (Ca p);rw[hl]at R h3 Vi ⊢;obtain⟨n,hn⟩:=gX l.length;rw[hn]at h3 Vi;have k:=Aa hn;obtain⟨⟨x0,z0⟩,K⟩:∃q,l[0]?=J q:=⟨l[0]' oM,by simp⟩;have u:=Aa K;clear h t hl hn K;go_in;go_upto_region 2 with (go_at_call 80;refine cM (R.o _ eA) ?_;rintro e w1 ⟨v1,rfl,j,ad⟩;obtain⟨a1,L,k1,rfl⟩:=j.i);have X1:Ba w w1:=eA;have HP:=Aa j.pr;obtain rfl:L=n:=by have:=j.len;rw[lL]at this;exact this.trans k.o
 obtain⟨b,o,rfl,hb,c0,c1⟩:=HP.o.at' u.o;simp only[Nat.zero_mul,Nat.add_zero]at c0 c1;have aa:=Aa X1;clear ad j X1 R;go_cut [7,8,9,10] (fun t7 t8 t9 ae W=>t7=O Y x0/\t8=O Y x0/\t9=O Y z0/\ae=O Y z0/\Ba w1 W)
 case first =>
  go_quiet (fail)
  all_goals go_wp2
  all_goals go_meet
  all_goals exact⟨rfl,rfl,rfl,rfl,eA⟩
 case rest =>
  obtain⟨rfl,rfl,rfl,rfl,X2⟩:=hcut;have ab:=Aa X2;clear c0 c1 X2;go_wp2;go_loopw [7,8,9,10,11] (pV w1 l) (fun _ _ _ _ af _=>L-(intOf af).toNat)
  case atStart=>exact⟨1,rfl,by omega,by rw[k.o];omega,by rw[Nu u.o],by rw[Nu u.o],by rw[Nu u.o],by rw[Nu u.o],ab.o⟩
  case round =>
   obtain⟨i,rfl,y,hi,rfl,rfl,rfl,rfl,hx⟩:=hrel;rw[k.o]at hi;by_cases ac:i<L
   ·obtain⟨⟨x,z⟩,hq⟩:∃q,l[i]?=J q:=⟨l[i]'(by rw[k.o];omega),by simp[k.o,ac]⟩;obtain⟨b2,o2,e2,ag,d0,d1⟩:=(HP.o.f hx).at' hq;cases e2;have g0:(0:Int)<=(i:Int):=oM;have g1:(i:Int)<(L:Int):=oM;have s1:=Aa (OC (f:=Prod.fst) hq y);have s2:=Aa (OC (f:=Prod.snd) hq y);dsimp only at d0 d1;obtain⟨⟨a,bb⟩,m⟩:∃q,pd Prod.fst (l.take i)=q:=⟨_,rfl⟩;obtain⟨⟨c,d⟩,s⟩:∃q,pd Prod.snd (l.take i)=q:=⟨_,rfl⟩;rw[m]at s1;rw[s]at s2;simp only[m,s];clear hq m s;by_cases h1:x<a<;>by_cases h2:bb<x<;>by_cases h3:z<c<;>by_cases h4:d<z
    all_goals
     have r1:=Aa s1.o;have r2:=Aa s2.o;have k1:pd Prod.fst (l.take (i+1))=(_,_):=r1.o;have k2:pd Prod.snd (l.take (i+1))=(_,_):=r2.o;simp only[h1,h2,if_true,if_false]at k1;simp only[h3,h4,if_true,if_false]at k2;have K1:=Aa k1;have K2:=Aa k2;clear k1 k2 r1 r2;go_wp2;go_roundw
     case rel=>exact⟨i+1,by go_num,by omega,by rw[k.o];omega,by rw[K1.o],by rw[K1.o],by rw[K2.o],by rw[K2.o],hx⟩
     case measure=>simp[intOf];omega
   ·obtain rfl:i=L:=oM;rw[show l.take i=l by rw[<-k.o,List.take_length]];go_wp2;exact bR (v:=.tuple #[O Y (pd Prod.fst l).1,O Y (pd Prod.fst l).2,O Y (pd Prod.snd l).1,O Y (pd Prod.snd l).2]) (by simp[results,Tryz.results43,go_sem]) rfl ⟨rfl,aa.o.trans hx⟩
end
section
open Go.RowKit Go.Shelf Go.Sort
attribute [local go_sem] Oper.semAt_some
theorem laid1_holds{g:LP}:∀{ps done:List Pl},Vc g done ps=0->∀p∈ps,te g p=true
 | [],_,_,p,b=>by cases b
 | q::r,done,h,p,b=>by
  unfold Vc at h;by_cases a:If g done q=0
  ·rw[if_pos a]at h;rcases List.mem_cons.1 b with rfl|b
   ·cases hk:te g p with
    | true=>rfl
    | false=>unfold If at a;rw[hk]at a;split at a<;>simp at a
   ·exact laid1_holds h p b
  ·rw[if_neg a]at h;exact absurd h a
def AS{g:LP}{p:Pl}(c:Ia p=true)(a:te g p=true):(Ld (Ga p) g).lo<(Ld (Ga p) g).hi:=by have b:=Kw c;unfold te at a;simp only[Bool.and_eq_true,decide_eq_true_eq]at a;unfold Ld;dsimp only;omega
def IV(w:I)(g:LP)(ps:List Pl)(a:Obj)(t3:V)(W:I):Prop:=
 ∃i:Nat,t3=O Y i/\i<=ps.length/\Ba w W/\W.heap[w.heap.size]?=J a/\Vc g (ps.take i) (ps.drop i)=Vc g [] ps
def CA(b:I)(ps:List Pl)(a:ByteArray)(i:Nat)(t4:V)(W:I):Prop:=
 ∃k:Nat,t4=O Y k/\k<=i/\Ba b W/\∀j q,j<k->ps[j]?=J q->jh a q=false
def GV(w:I)(g:LP)(ps:List Pl)(a:Obj)(t5:V)(W:I):Prop:=
 ∃i:Nat,t5=O Y i/\i<=ps.length/\Ba w W/\W.heap[w.heap.size]?=J a/\Mf g (ps.take i) (ps.drop i)=Mf g [] ps
def BA(b:I)(ps:List Pl)(p:Pl)(i:Nat)(a:V)(W:I):Prop:=
 ∃k:Nat,a=O Y k/\k<=i/\Ba b W/\∀j q,j<k->ps[j]?=J q->Qf p q=false
def RD{ps:List Pl}{f:Pl->Bool}{i:Nat}(h:∀j q,j<i->ps[j]?=J q->f q=false):(ps.take i).any f=false:=by rw[List.any_eq_false];intro q c;obtain⟨j,b,rfl⟩:=List.getElem_of_mem c;have a:=b;rw[List.length_take]at a;have:=h j ((ps.take i)[j]) oM (by rw[List.getElem_take];exact gE _);rw[this];decide
def iG{ps:List Pl}{f:Pl->Bool}{i k:Nat}{q:Pl}(b:k<i)(c:ps[k]?=J q)(a:f q=true):(ps.take i).any f=true:=by rw[List.any_eq_true];exact⟨q,lM (i:=k) (by rw[List.getElem?_take,if_pos b];exact c),a⟩
def BR(w:I)(vg vp:V)(g:LP)(ps:List Pl)(hg:Ab w vg g)(hp:pf w vp ps)(aB:∀p∈ps,p.name.size<=1000000)(hl:g.length<=1000000):Calls Tryz.prog 21 #[P #[vg,vp]] w fun e w'=>e=.returned (O Y (Fb g ps))/\Ba w w':=by
 have aH:=Aa (fun W (hW:Ba w W)=>jM W vg g (hg.f hW) hl);have HG:=Aa hg;have HP:=Aa hp;have bA:=Aa aB;have Hl:=Aa hl;obtain⟨ga,gn,gc,rfl⟩:=hg.i;obtain⟨pa,L,rfl⟩:=hp.form;obtain⟨n,hn⟩:=gX ps.length;have bw:=hp.le;unfold maxLen at bw;rw[hn]at bw ⊢;have Hn:=Aa hn;obtain⟨R,hR⟩:=gX (Fb g ps);rw[hR];have aM:=hR;unfold Fb at aM;rw[hn]at aM;have aX:=Aa aM;obtain⟨gb,a9⟩:=gX (Bb g);have ap:=Aa a9;rw[a9]at aH;clear hR aM hg hp aB hl hn a9;cases gb with
 |false=>
  have e:=aX.o;rw[ap.o,if_neg dM]at e;subst e;go_in;go_wp2_with(go_at_call 56;refine cM (aH.o _ eA) ?_;rintro e w1 ⟨rfl,au⟩);go_ret;exact⟨rfl,eA⟩
 |true=>
 by_cases aP:120<n
 ·have e:=aX.o;rw[ap.o,if_pos rfl,if_pos aP]at e;subst e;have h1:(120:Int)<(n:Int):=oM;go_in;go_wp2_with(go_at_call 56;refine cM (aH.o _ eA) ?_;rintro e w1 ⟨rfl,au⟩;obtain⟨⟨br,bu⟩,aV⟩:=Id w au);go_ret;exact⟨rfl,eA⟩
 have h1:¬(120:Int)<(n:Int):=oM;have a5:=aX.o;rw[ap.o,if_pos rfl,if_neg aP]at a5;have aJ:=Aa a5;have aT:g≠[]:=(nt ap.o).1;have bo:=Aa aT;clear a5 aT;go_in;go_wp2_with(go_at_call 56;refine cM (aH.o _ eA) ?_;rintro e w1 ⟨rfl,au⟩;obtain⟨⟨br,bu⟩,aV⟩:=Id w au);have X1:Ba w w1:=eA;have aR:w1.heap[w.heap.size]?=J (Obj.cells #[Value.slice ga gn gc,Value.slice pa n L] 25 (0,0)):=au.e (aN _ _);clear au br bu aV;go_loopw [3] (IV w g ps (Obj.cells #[Value.slice ga gn gc,Value.slice pa n L] 25)) (fun t3 _=>n-(intOf t3).toNat)
 case atStart=>exact⟨0,rfl,by omega,X1,aR,by simp⟩
 case round =>
  clear X1 aR;obtain⟨i,rfl,hi,hx,aa,ab⟩:=hrel;rw[Hn.o]at hi;have t:=Aa ab;have w0:=Da aa (i:=0) (u:=X ga gn gc) rfl;have af:=Da aa (i:=1) (u:=X pa n L) rfl;have wz:=Ya aa;have aw:=Aa aa;clear ab aa;by_cases bb:i<n
  ·obtain⟨p,ar⟩:∃p,ps[i]?=J p:=⟨_,gE (by rw[Hn.o];exact bb)⟩;obtain⟨b,o,v,rfl,hb,hv,bh,y⟩:=(HP.o.f hx).at' ar;have aB:=bA.o p (lM ar);have ai:=Aa (fun W (hW:Ba wr W)=>TL W v p (hv.f hW) aB);have bm:=Aa (fun W (hW:Ba wr W) ad=>VL W _ v g p (HG.o.f (hx.trans hW)) (hv.f hW) ad bo.o Hl.o);have l:=fun h0=>kF (g:=g) ar h0;have m:=fun h0=>Fv (g:=g) ar h0;rw[t.o]at l m;have aj:=Aa l;have x:=Aa m;have bH:=Aa ar;obtain⟨sa,sn,sc,rfl⟩:=hv.i;obtain⟨pb,aO⟩:=gX (Ia p);obtain⟨bx,an⟩:=gX (te g p);have bp:=Aa aO;have bF:=Aa an;rw[aO]at ai;have ag:=Aa (fun W (hW:Ba wr W) ad=>bm.o W hW ad);rw[an]at ag;have aQ:If g (ps.take i) p=if pb=true then (if bx=true then (if (ps.take i).any (jh p.name)=true then 7 else 0)else 2)else 2:=by
    unfold If;rw[aO,an]
   have am:=Aa aQ;have g0:(0:Int)<=(i:Int):=oM;have g1:(i:Int)<(n:Int):=oM;clear aO an aQ l m bm ar hv bh;obtain⟨nm,sh,d,de,gx,gz,wy,ax,az,sk⟩:=p;unfold Dd at y ai ag;dsimp only at y ai ag aB;have c0:=y 0 (.string nm) rfl;have c1:=y 1 (X sa sn sc) rfl;have c2:=y 2 (O Y d) rfl;have c3:=y 3 (O Y de) rfl;have c4:=y 4 (O Y gx) rfl;have c5:=y 5 (O Y gz) rfl;have c6:=y 6 (O Y wy) rfl;have c7:=y 7 (O Y ax) rfl;have c8:=y 8 (O Y az) rfl;have c9:=y 9 (O S sk) rfl;simp only[Nat.add_zero]at c0;clear y;cases pb with
   |false=>
    (have hA:If g (ps.take i) ⟨nm,sh,d,de,gx,gz,wy,ax,az,sk⟩=2:=by rw[am.o];rfl);have e:R=2:=by
     have h9:=x.o (by rw[hA];decide);rw[<-aJ.o,if_neg (by rw[h9,hA];decide),h9,hA]
    subst e;clear hA;go_wp2;refine od [(⟨w.heap.size,0,Z⟩,X ga gn gc),(⟨w.heap.size,1,Z⟩,X (J ⟨b,o,Z⟩) n L),(⟨b,o+i*10,Z⟩,.string nm),(⟨b,o+i*10+1,Z⟩,X sa sn sc),(⟨b,o+i*10+2,Z⟩,O Y d),(⟨b,o+i*10+3,Z⟩,O Y de),(⟨b,o+i*10+4,Z⟩,O Y gx),(⟨b,o+i*10+5,Z⟩,O Y gz),(⟨b,o+i*10+6,Z⟩,O Y wy),(⟨b,o+i*10+7,Z⟩,O Y ax),(⟨b,o+i*10+8,Z⟩,O Y az),(⟨b,o+i*10+9,Z⟩,O S sk)] cA fun a=>?_;refine sN 0 ?_
    (iterate 5 refine ub ?_);refine oN ?_;refine ye (i:=5) fun K s=>?_;go_simp;refine cM (ai.o _ ((eR wr).drew)) ?_;rintro e w5 ⟨rfl,f⟩;go_wp2;refine kO s (cE a f) (fun a=>?_);clear s K;refine sN 6 ?_
    iterate 2 refine ub ?_
    (iterate 9 refine Te ?_);refine ub ?_;refine oN ?_;refine Tb ?_;go_wp2;go_ret;exact⟨rfl,(hx.drew.trans f)⟩
   |true=>
    cases bx with
    |false=>
     (have hA:If g (ps.take i) ⟨nm,sh,d,de,gx,gz,wy,ax,az,sk⟩=2:=by rw[am.o];rfl);have e:R=2:=by
      have h9:=x.o (by rw[hA];decide);rw[<-aJ.o,if_neg (by rw[h9,hA];decide),h9,hA]
     subst e;clear hA;go_wp2;refine od [(⟨w.heap.size,0,Z⟩,X ga gn gc),(⟨w.heap.size,1,Z⟩,X (J ⟨b,o,Z⟩) n L),(⟨b,o+i*10,Z⟩,.string nm),(⟨b,o+i*10+1,Z⟩,X sa sn sc),(⟨b,o+i*10+2,Z⟩,O Y d),(⟨b,o+i*10+3,Z⟩,O Y de),(⟨b,o+i*10+4,Z⟩,O Y gx),(⟨b,o+i*10+5,Z⟩,O Y gz),(⟨b,o+i*10+6,Z⟩,O Y wy),(⟨b,o+i*10+7,Z⟩,O Y ax),(⟨b,o+i*10+8,Z⟩,O Y az),(⟨b,o+i*10+9,Z⟩,O S sk)] cA fun a=>?_;refine sN 0 ?_
     (iterate 5 refine ub ?_);refine oN ?_;refine ye (i:=5) fun K s=>?_;go_simp;refine cM (ai.o _ ((eR wr).drew)) ?_;rintro e w5 ⟨rfl,f⟩;go_wp2;refine kO s (cE a f) (fun a=>?_);clear s K;refine sN 6 ?_
     (iterate 9 refine ub ?_);refine oN ?_;refine ye (i:=15) fun K s=>?_;go_simp;refine cM (ag.o w5 ((eR wr).drew.trans f) bp.o) ?_;rintro e w6 ⟨rfl,ae⟩;go_wp2;refine kO s (cE a ae) (fun a=>?_);clear s K;refine sN 16 ?_
     (iterate 2 refine ub ?_);refine oN ?_;refine Tb ?_;go_wp2;go_ret;exact⟨rfl,((hx.drew.trans f).trans ae)⟩
    |true=>
     go_wp2;refine od [(⟨w.heap.size,0,Z⟩,X ga gn gc),(⟨w.heap.size,1,Z⟩,X (J ⟨b,o,Z⟩) n L),(⟨b,o+i*10,Z⟩,.string nm),(⟨b,o+i*10+1,Z⟩,X sa sn sc),(⟨b,o+i*10+2,Z⟩,O Y d),(⟨b,o+i*10+3,Z⟩,O Y de),(⟨b,o+i*10+4,Z⟩,O Y gx),(⟨b,o+i*10+5,Z⟩,O Y gz),(⟨b,o+i*10+6,Z⟩,O Y wy),(⟨b,o+i*10+7,Z⟩,O Y ax),(⟨b,o+i*10+8,Z⟩,O Y az),(⟨b,o+i*10+9,Z⟩,O S sk)] cA fun a=>?_;refine sN 0 ?_
     (iterate 5 refine ub ?_);refine oN ?_;refine ye (i:=5) fun K s=>?_;go_simp;refine cM (ai.o _ ((eR wr).drew)) ?_;rintro e w5 ⟨rfl,f⟩;go_wp2;refine kO s (cE a f) (fun a=>?_);clear s K;refine sN 6 ?_
     (iterate 9 refine ub ?_);refine oN ?_;refine ye (i:=15) fun K s=>?_;go_simp;refine cM (ag.o w5 ((eR wr).drew.trans f) bp.o) ?_;rintro e w6 ⟨rfl,ae⟩;go_wp2;refine kO s (cE a ae) (fun a=>?_);clear s K;refine sN 16 ?_
     (iterate 2 refine ub ?_);refine oN ?_;refine Tb ?_;have X6:Ba wr w6:=((eR wr).drew.trans f).trans ae;have ao:=Aa X6;replace w0:=X6.d w0;replace af:=X6.d af;replace c0:=X6.d c0;have aA:b<w6.heap.size:=X6.lt hb;clear a f ae c1 c2 c3 c4 c5 c6 c7 c8 c9 ai ag;go_wp2;go_loopw [4] (CA w6 ps nm i) (fun t4 _=>i-(intOf t4).toNat)
     case atStart=>exact⟨0,rfl,by omega,eR _,fun j q hj=>by omega⟩
     case round =>
      obtain⟨k,rfl,hk,c,hq⟩:=hrel;have Hq:=Aa hq;clear hq;have XK:Ba w wr:=hx.trans (ao.o.trans c);replace w0:=c.d w0;replace af:=c.d af;replace c0:=c.d c0;have bC:b<wr.heap.size:=c.lt aA;have bE:w.heap.size<wr.heap.size:=World.block_lt_of_cell? wr _ w0;by_cases ba:k<i
      ·obtain⟨q,ah⟩:∃q,ps[k]?=J q:=⟨_,gE (by rw[Hn.o];omega)⟩;obtain⟨b2,o2,v2,e2,a7,aD,aC,bt⟩:=(HP.o.f XK).at' ah;cases e2;have d0:=bt 0 (.string q.name) rfl;simp only[Nat.add_zero]at d0;have aq:=Aa ah;have j0:(0:Int)<=(k:Int):=oM;have j1:(k:Int)<(i:Int):=oM;have j2:(k:Int)<(n:Int):=oM;obtain⟨qb,be⟩:=gX (jh nm q);have bq:=Aa be;obtain⟨qn,bf⟩:=gX q.name;rw[bf]at d0;(have bG:(qn.toList==nm.toList)=qb:=by rw[<-be,<-bf];rfl);clear bt a7 aD aC ah be bf;go_wp2;refine od [(⟨w.heap.size,1,Z⟩,X (J ⟨b,o,Z⟩) n L),(⟨b,o+k*10,Z⟩,.string qn),(⟨b,o+i*10,Z⟩,.string nm)] cA fun a=>?_;refine sN 0 ?_
       (iterate 15 refine ub ?_);refine oN ?_;refine Tb ?_;cases qb with
       |true=>
        have hA:If g (ps.take i) ⟨nm,sh,d,de,gx,gz,wy,ax,az,sk⟩=7:=by
         rw[am.o,iG ba aq.o bq.o];rfl
        have e:R=7:=by
         have h9:=x.o (by rw[hA];decide);rw[<-aJ.o,if_neg (by rw[h9,hA];decide),h9,hA]
        subst e;clear hA;go_wp2;go_ret;exact⟨rfl,XK.trans (eR _).drew⟩
       |false=>
        go_wp2;go_roundw
        case rel =>
         refine⟨k+1,by go_num,by omega,c.trans (eR _).drew,fun j q' hj ac=>?_⟩;by_cases h:j=k
         ·subst h;rw[aq.o]at ac;cases ac;exact bq.o
         ·exact Hq.o j q' oM ac
        case measure=>simp[intOf];omega
      ·obtain rfl:k=i:=oM;have hA:If g (ps.take k) ⟨nm,sh,d,de,gx,gz,wy,ax,az,sk⟩=0:=by
        rw[am.o,RD Hq.o];rfl
       go_wp2;go_roundw
       case rel=>exact⟨k+1,by go_num,by rw[Hn.o];omega,XK,(ao.o.trans c).e aw.o,by rw[<-aj.o hA]⟩
       case measure=>simp[intOf];omega
  ·obtain rfl:i=n:=oM;have aL:Vc g [] ps=0:=by
    rw[<-t.o,List.drop_of_length_le (by rw[Hn.o];exact nE _)];unfold Vc;rfl
   have a6:=aJ.o;rw[if_pos aL]at a6;have aY:=Aa a6;have bn:=Aa (ky aL);have bz:=Aa (laid1_holds aL);clear a6 aL;go_wp2;go_loopw [5] (GV w g ps (Obj.cells #[Value.slice ga gn gc,Value.slice pa i L] 25 (0,0))) (fun t5 _=>i-(intOf t5).toNat)
   case atStart=>exact⟨0,rfl,by omega,hx,aw.o,by simp⟩
   case round =>
    clear w0 af wz hx aw t;obtain⟨j,rfl,hj,hx,aa,ab⟩:=hrel;rw[Hn.o]at hj;have t:=Aa ab;have w0:=Da aa (i:=0) (u:=X ga gn gc) rfl;have af:=Da aa (i:=1) (u:=X pa i L) rfl;have wz:=Ya aa;have aw:=Aa aa;clear ab aa;by_cases bb:j<i
    ·obtain⟨p,ak⟩:∃p,ps[j]?=J p:=⟨_,gE (by rw[Hn.o];exact bb)⟩;obtain⟨b,o,v,rfl,hb,hv,bh,y⟩:=(HP.o.f hx).at' ak;have ad:=bn.o p (lM ak);have bv:=bz.o p (lM ak);have aI:=Aa (fun W (hW:Ba wr W)=>Pv W v p (hv.f hW) ad);have aW:=Aa (fun W vl (hW:Ba wr W) (bD:Ab W vl (Ga p))=>Dy W vl _ (Ga p) g bD (HG.o.f (hx.trans hW)) (ol ad).1 (nt ap.o) (Lp ad).1 (zS ap.o) (AS ad bv));have l:=fun h0=>jF (g:=g) ak h0;have m:=fun h0=>iF (g:=g) ak h0;rw[t.o,aY.o]at l m;have aj:=Aa l;have x:=Aa m;have bI:=Aa ak;have bB:=Aa ad;have Hv:=Aa hv;obtain⟨sa,sn,sc,rfl⟩:=hv.i;obtain⟨fb,a8⟩:=gX (Ve (Ga p) g);(have aS:Ff g (ps.take j) p=(fb&&!(ps.take j).any (Qf p)):=by unfold Ff;rw[a8]);have ay:=Aa aS;rw[a8]at aW;have g0:(0:Int)<=(j:Int):=oM;have g1:(j:Int)<(i:Int):=oM;clear a8 aS l m ak hv bh ad bv;obtain⟨nm,sh,d,de,gx,gz,wy,ax,az,sk⟩:=p;unfold Dd at y aI;dsimp only at y aI;have c0:=y 0 (.string nm) rfl;have c1:=y 1 (X sa sn sc) rfl;have c2:=y 2 (O Y d) rfl;have c3:=y 3 (O Y de) rfl;have c4:=y 4 (O Y gx) rfl;have c5:=y 5 (O Y gz) rfl;have c6:=y 6 (O Y wy) rfl;have c7:=y 7 (O Y ax) rfl;have c8:=y 8 (O Y az) rfl;have c9:=y 9 (O S sk) rfl;simp only[Nat.add_zero]at c0;clear y;go_wp2;refine od [(⟨w.heap.size,0,Z⟩,X ga gn gc),(⟨w.heap.size,1,Z⟩,X (J ⟨b,o,Z⟩) i L),(⟨b,o+j*10,Z⟩,.string nm),(⟨b,o+j*10+1,Z⟩,X sa sn sc),(⟨b,o+j*10+2,Z⟩,O Y d),(⟨b,o+j*10+3,Z⟩,O Y de),(⟨b,o+j*10+4,Z⟩,O Y gx),(⟨b,o+j*10+5,Z⟩,O Y gz),(⟨b,o+j*10+6,Z⟩,O Y wy),(⟨b,o+j*10+7,Z⟩,O Y ax),(⟨b,o+j*10+8,Z⟩,O Y az),(⟨b,o+j*10+9,Z⟩,O S sk)] cA fun a=>?_;refine sN 0 ?_
     (iterate 5 refine ub ?_);refine oN ?_;refine sN 6 ?_
     (iterate 2 refine ub ?_);refine oN ?_;refine ye (i:=5) fun K s=>?_;go_simp;refine cM (aI.o _ ((eR wr).drew)) ?_;rintro e w5 ⟨v5,rfl,bg,f⟩;obtain⟨la,ln,lc,rfl⟩:=bg.i;go_wp2;refine kO s (cE a f) (fun a=>?_);clear s K;refine ye (i:=8) fun K s=>?_;go_simp;refine cM (aW.o w5 _ ((eR wr).drew.trans f) bg.pr) ?_;rintro e w6 ⟨rfl,ae⟩;go_wp2;refine kO s (cE a ae) (fun a=>?_);clear s K;refine Qa (i:=9) ?_;refine Tb ?_;have X6:Ba wr w6:=((eR wr).drew.trans f).trans ae;cases fb with
     |false=>
      have e:R=12:=x.o (by rw[ay.o];rfl);subst e;go_wp2;go_ret;exact⟨rfl,hx.trans X6⟩
     |true=>
      have ao:=Aa X6;replace w0:=X6.d w0;replace af:=X6.d af;have aA:b<w6.heap.size:=X6.lt hb;replace c0:=X6.d c0;replace c1:=X6.d c1;replace c2:=X6.d c2;replace c3:=X6.d c3;replace c4:=X6.d c4;replace c5:=X6.d c5;replace c6:=X6.d c6;replace c7:=X6.d c7;replace c8:=X6.d c8;replace c9:=X6.d c9;clear a f ae aI aW bg;go_wp2;go_loopw [6] (BA w6 ps ⟨nm,sh,d,de,gx,gz,wy,ax,az,sk⟩ j) (fun t6 _=>j-(intOf t6).toNat)
      case atStart=>exact⟨0,rfl,by omega,eR _,fun j q hj=>by omega⟩
      case round =>
       obtain⟨k,rfl,hk,c,hq⟩:=hrel;have Hq:=Aa hq;clear hq;have XK:Ba w wr:=hx.trans (ao.o.trans c);replace w0:=c.d w0;replace af:=c.d af;replace c0:=c.d c0;replace c1:=c.d c1;replace c2:=c.d c2;replace c3:=c.d c3;replace c4:=c.d c4;replace c5:=c.d c5;replace c6:=c.d c6;replace c7:=c.d c7;replace c8:=c.d c8;replace c9:=c.d c9;have bC:b<wr.heap.size:=c.lt aA;have bE:w.heap.size<wr.heap.size:=World.block_lt_of_cell? wr _ w0;by_cases ba:k<j
       ·obtain⟨q,ah⟩:∃q,ps[k]?=J q:=⟨_,gE (by rw[Hn.o];omega)⟩;obtain⟨b2,o2,v2,e2,a7,aD,aC,z⟩:=(HP.o.f XK).at' ah;cases e2;have aU:=bn.o q (lM ah);obtain⟨aE,aG,aF,rfl⟩:=aD.i;have av:=Aa (fun W=>TP W ⟨nm,sh,d,de,gx,gz,wy,ax,az,sk⟩ q (X sa sn sc) (X aE aG aF) ⟨_,_,_,rfl⟩ ⟨_,_,_,rfl⟩);have aK:=Aa (fun W (hW:Ba wr W)=>SL W ⟨nm,sh,d,de,gx,gz,wy,ax,az,sk⟩ q (X sa sn sc) (X aE aG aF) (Hv.o.f ((ao.o.trans c).trans hW)) (aD.f hW) bB.o aU);have aq:=Aa ah;have j0:(0:Int)<=(k:Int):=oM;have j1:(k:Int)<(j:Int):=oM;have j2:(k:Int)<(i:Int):=oM;obtain⟨mb,bc⟩:=gX (Le ⟨nm,sh,d,de,gx,gz,wy,ax,az,sk⟩ q);obtain⟨r,hr⟩:=gX (Yi ⟨nm,sh,d,de,gx,gz,wy,ax,az,sk⟩ q);(have bs:Qf ⟨nm,sh,d,de,gx,gz,wy,ax,az,sk⟩ q=(mb&&(r==5)):=by unfold Qf;rw[bc,hr]);have aZ:=Aa bs;rw[bc]at av;rw[hr]at aK;clear a7 aD aC ah bc hr bs aU;obtain⟨bj,bJ,d',a2,a3,a4,bl,a0,a1,bk⟩:=q;unfold Dd at z av aK;dsimp only at z av aK;have d0:=z 0 (.string bj) rfl;have d1:=z 1 (X aE aG aF) rfl;have d2:=z 2 (O Y d') rfl;have d3:=z 3 (O Y a2) rfl;have d4:=z 4 (O Y a3) rfl;have d5:=z 5 (O Y a4) rfl;have d6:=z 6 (O Y bl) rfl;have d7:=z 7 (O Y a0) rfl;have d8:=z 8 (O Y a1) rfl;have d9:=z 9 (O S bk) rfl;simp only[Nat.add_zero]at d0;clear z;cases mb with
        |false=>
         go_wp2;refine od [(⟨w.heap.size,1,Z⟩,X (J ⟨b,o,Z⟩) i L),(⟨b,o+j*10,Z⟩,.string nm),(⟨b,o+j*10+1,Z⟩,X sa sn sc),(⟨b,o+j*10+2,Z⟩,O Y d),(⟨b,o+j*10+3,Z⟩,O Y de),(⟨b,o+j*10+4,Z⟩,O Y gx),(⟨b,o+j*10+5,Z⟩,O Y gz),(⟨b,o+j*10+6,Z⟩,O Y wy),(⟨b,o+j*10+7,Z⟩,O Y ax),(⟨b,o+j*10+8,Z⟩,O Y az),(⟨b,o+j*10+9,Z⟩,O S sk),(⟨b,o+k*10,Z⟩,.string bj),(⟨b,o+k*10+1,Z⟩,X aE aG aF),(⟨b,o+k*10+2,Z⟩,O Y d'),(⟨b,o+k*10+3,Z⟩,O Y a2),(⟨b,o+k*10+4,Z⟩,O Y a3),(⟨b,o+k*10+5,Z⟩,O Y a4),(⟨b,o+k*10+6,Z⟩,O Y bl),(⟨b,o+k*10+7,Z⟩,O Y a0),(⟨b,o+k*10+8,Z⟩,O Y a1),(⟨b,o+k*10+9,Z⟩,O S bk)] cA fun a=>?_;refine sN 0 ?_
         (iterate 10 refine ub ?_);refine oN ?_;refine ye (i:=10) fun K s=>?_;go_simp;refine cM (av.o wr.drew) ?_;rintro e w7 ⟨rfl,al⟩;go_wp2;refine kO s (cE a al) (fun a=>?_);clear s K;refine sN 11 ?_;refine ub ?_
         (iterate 12 refine Te ?_);refine ub ?_;refine oN ?_;refine Tb ?_;go_wp2;refine⟨?_,?measure1⟩
         repeat apply Exists.intro
         refine⟨?rel1,rfl⟩
         case rel1 =>
          refine⟨k+1,by go_num,by omega,c.trans ((eR _).drew.trans al),fun j q' hj ac=>?_⟩;by_cases h:j=k
          ·subst h;rw[aq.o]at ac;cases ac;rw[aZ.o];rfl
          ·exact Hq.o j q' oM ac
         case measure1=>simp[intOf];omega
        |true=>
         go_wp2;refine od [(⟨w.heap.size,1,Z⟩,X (J ⟨b,o,Z⟩) i L),(⟨b,o+j*10,Z⟩,.string nm),(⟨b,o+j*10+1,Z⟩,X sa sn sc),(⟨b,o+j*10+2,Z⟩,O Y d),(⟨b,o+j*10+3,Z⟩,O Y de),(⟨b,o+j*10+4,Z⟩,O Y gx),(⟨b,o+j*10+5,Z⟩,O Y gz),(⟨b,o+j*10+6,Z⟩,O Y wy),(⟨b,o+j*10+7,Z⟩,O Y ax),(⟨b,o+j*10+8,Z⟩,O Y az),(⟨b,o+j*10+9,Z⟩,O S sk),(⟨b,o+k*10,Z⟩,.string bj),(⟨b,o+k*10+1,Z⟩,X aE aG aF),(⟨b,o+k*10+2,Z⟩,O Y d'),(⟨b,o+k*10+3,Z⟩,O Y a2),(⟨b,o+k*10+4,Z⟩,O Y a3),(⟨b,o+k*10+5,Z⟩,O Y a4),(⟨b,o+k*10+6,Z⟩,O Y bl),(⟨b,o+k*10+7,Z⟩,O Y a0),(⟨b,o+k*10+8,Z⟩,O Y a1),(⟨b,o+k*10+9,Z⟩,O S bk)] cA fun a=>?_;refine sN 0 ?_
         (iterate 10 refine ub ?_);refine oN ?_;refine ye (i:=10) fun K s=>?_;go_simp;refine cM (av.o wr.drew) ?_;rintro e w7 ⟨rfl,al⟩;go_wp2;refine kO s (cE a al) (fun a=>?_);clear s K;refine sN 11 ?_
         (iterate 11 refine ub ?_);refine oN ?_;refine ye (i:=22) fun K s=>?_;go_simp;refine cM (aK.o w7 ((eR wr).drew.trans al)) ?_;rintro e w8 ⟨rfl,bi⟩;go_wp2;refine kO s (cE a bi) (fun a=>?_);clear s K;refine sN 23 ?_
         (iterate 2 refine ub ?_);refine oN ?_;refine Tb ?_;by_cases h5:r=5
         ·have e:R=12:=x.o (by rw[ay.o,iG ba aq.o (by rw[aZ.o,h5];rfl)];rfl);subst e h5;go_wp2;go_ret;exact⟨rfl,XK.trans (((eR _).drew.trans al).trans bi)⟩
         ·go_wp2;refine⟨?_,?measure3⟩
          repeat apply Exists.intro
          refine⟨?rel3,rfl⟩
          case rel3 =>
           refine⟨k+1,by go_num,by omega,c.trans (((eR _).drew.trans al).trans bi),fun j q' hj ac=>?_⟩;by_cases h:j=k
           ·subst h;rw[aq.o]at ac;cases ac;rw[aZ.o,beq_false_of_ne h5];rfl
           ·exact Hq.o j q' oM ac
          case measure3=>simp[intOf];omega
       ·obtain rfl:k=j:=oM;have hA:Ff g (ps.take k) ⟨nm,sh,d,de,gx,gz,wy,ax,az,sk⟩=true:=by
         rw[ay.o,RD Hq.o];rfl
        have hS:=aj.o hA;go_wp2;go_roundw
        case rel=>exact⟨k+1,by go_num,by rw[Hn.o];omega,XK,(ao.o.trans c).e aw.o,by rw[aY.o];exact hS.symm⟩
        case measure=>simp[intOf];omega
    ·obtain rfl:j=i:=oM;have e:R=0:=by
      rw[<-aY.o,<-t.o,List.drop_of_length_le (by rw[Hn.o];exact nE _)];unfold Mf;rfl
     subst e;go_wp2;go_ret;exact⟨rfl,hx⟩
end
section
open Go.RowKit Go.Shelf Go.Maps Go.Sort Go.Lib
attribute [local go_sem] Oper.semAt_some
def ve(n:Nat)(und:Nat->List Int)(ks:List (JS×V)):Nat->List Int
 | 0=>List.replicate n 0
 | m+1=>(ve n und ks m).set (Kc ks m) (oe (ve n und ks m) (und (Kc ks m))+1)
structure Zk (n:Nat) (und:Nat->List Int) (ks:List (JS×V)):Prop where
 known:∀m,m<ks.length->∀z∈und (Kc ks m),0<=z/\z<n/\(ve n und ks m).getD z.toNat 0≠0
 fresh:∀m,m<ks.length->(ve n und ks m).getD (Kc ks m) 0=0
 bound:∀m,m<=ks.length->∀v∈ve n und ks m,0<=v/\v<=1000
def xo(w:I)(a b B base N go c n:Nat)(und:Nat->List Int)(ks:List (JS×V))(d:V)(m:Nat)(W:I):Prop:=
 Ba w W/\W.heap[a]?=J (F #[X (J ⟨go,0,Z⟩) n n] 47 (0,0))/\W.heap[b]?=J (F #[.map (J B)] 171 (0,0))/\Gm W base B N und/\
  Fa 3 1 W w.heap.size (X (J ⟨go,0,Z⟩) n n) ((ve n und ks m).map ic)/\Fa 113 15 W c d (ks.map jc)
def xo.ext{w:I}{a b B base N go c n:Nat}{und:Nat->List Int}{ks:List (JS×V)}{d:V}{m:Nat}{W W':I}(h:xo w a b B base N go c n und ks d m W)(k:Ba W W'):xo w a b B base N go c n und ks d m W':=
 ⟨h.1.trans k,k.e h.2.1,k.e h.2.2.1,h.2.2.2.1.ext k,h.2.2.2.2.1.ext k,h.2.2.2.2.2.ext k⟩
def xo.step{w:I}{f i B base N go p n:Nat}{und:Nat->List Int}{ks:List (JS×V)}{v:V}{m:Nat}{W:I}(h:xo w f i B base N go p n und ks v m W)(t:Zk n und ks)(R:m<ks.length){x:JS×V}(hx:ks[m]?=J x)(hv:∃a n c,x.2=X a n c){k:Nat}(L:x.1.k=k)(u:k<n)(hn:n<=120)(hN:N<1000000)(b:w.heap.size<=go/\go<base/\B≠go/\f≠go/\i≠go/\go<p):Calls Tryz.prog 102 #[P (qh x),G (J ⟨i,0,Z⟩),G (J ⟨f,0,Z⟩)] W fun e w'=>e=.returned (.bool true)/\xo w f i B base N go p n und ks v (m+1) w':=by
 obtain⟨h1,q,s,z,h5,h6⟩:=h;have d:Kc ks m=k:=by unfold Kc;rw[hx];simp[L]
 have K:=t.known m R;have y:=t.fresh m R;rw[d]at K y;refine(SC W x i f B base w.heap.size N go n und (ve n und ks m) k L hv s q z hN h5 b.2.1 b.2.2.1 u hn (t.bound m oM) y K ⟨b.2.2.2.2.1,b.2.2.2.1⟩).mono ?_;rintro e w' ⟨rfl,l,ho⟩;refine⟨rfl,?_,(l.block f (Ya q) (by simpa using b.2.2.2.1)).trans q,(l.block i (Ya s) (by simpa using b.2.2.2.2.1)).trans s,z.keptLow l (by simpa using b.2.2.1) (fun j hj=>by cases hj;exact b.2.1),?_,⟨h6.1,h6.2.kept l ?_⟩⟩
 ·exact Gp h1 l b.1
 ·rw[ve,d];exact ho
 ·by_cases h9:v.ownBlock=Z
  ·exact .inl h9
  ·right
   intro e;have:=(h6.lt go e).1;omega
def yV(w:I)(b f B base N go i n:Nat)(und:Nat->List Int)(ks:List (JS×V))(e:V)(d:Nat)(t4:V)(W:I):Prop:=
 (d=1/\t4=e/\xo w b f B base N go i n und ks e 0 W)\/(d=0/\∃a c,t4=X a 0 c/\Ba w W/\W.heap[b]?=J (F #[X (J ⟨go,0,Z⟩) n n] 47 (0,0))/\Fa 3 1 W w.heap.size (X (J ⟨go,0,Z⟩) n n) ((ve n und ks ks.length).map ic))
def Gm.made2(w:I){base:Nat}(j:w.heap.size<base):Gm (w.alloc (.map #[] 0)) base w.heap.size 0 (fun _=>[]):=by obtain⟨D,⟨k,a,b,d,e,f,l,h6,m⟩,i⟩:=Gm.made w;have c:(w.alloc (.map #[] 0)).heap[w.heap.size]?=J (.map #[] 0):=(MapKept.heap_alloc w _).1;rw[c]at b;cases b;exact⟨D,⟨#[],0,c,⟨by simp,d.stamped,by simp⟩,e,by simpa using f,j,by simp,by simp⟩,i⟩
def Fa.crk{T:TypeId}{k:Nat}{W0 W:I}{base B a:Nat}{v:V}{cs:List (List V)}(h:Fa T k W0 a v cs)(m:mh base B W0 W)(l:∀j,v.ownBlock=J j->j≠B/\(j<base\/T≠3)):Fa T k W a v cs:=by
 obtain⟨i,q,c⟩:=h;refine⟨i,q,?_⟩;rcases c with c|⟨g,cap,cur,hv,n,p,r⟩
 ·exact .inl c
 ·obtain⟨d,b⟩:=l g (by rw[hv];rfl);refine .inr ⟨g,cap,cur,hv,n,m.2 g _ p d ?_,r⟩;rcases b with b|b
  ·exact .inl b
  ·exact .inr fun f s e=>by cases e;exact b rfl
end
section
open Go.RowKit
def Eg(o:List Int)(L:List Int):Bool:=!L.any fun z=>o.getD z.toNat 0==0
def se(und:Nat->List Int):List Int->List Nat->List Int×List Nat
 | o,[]=>(o,[])
 | o,k::r=>if Eg o (und k)=true then se und (o.set k (oe o (und k)+1)) r else ((se und o r).1,k::(se und o r).2)
def Zy(und:Nat->List Int):∀(A B:List Nat)(o:List Int),se und o (A++B)=((se und (se und o A).1 B).1,(se und o A).2++(se und (se und o A).1 B).2)
 | [],B,o=>by simp[se]
 | k::A,B,o=>by
  rw[List.cons_append,se,se];split
  ·exact Zy und A B _
  ·rw[Zy und A B o];rfl
def lK{os:List Int}{M:Int}(a:0<=M)(b:∀v∈os,v<=M)(L:List Int):oe os L<=M:=by
 unfold oe;have:∀(L:List Int)(o:Int),o<=M->L.foldl (fun o z=>max o (os.getD z.toNat 0)) o<=M:=by
  intro L;induction L with
  | nil=>intro o h;exact h
  | cons z r c =>
   intro o h;rw[List.foldl_cons];refine c _ ?_;have:os.getD z.toNat 0<=M:=by
    rw[gD];cases h9:os[z.toNat]? with
    | none=>exact a
    | some v=>exact b v (lM h9)
   omega
 exact this L 0 a
def DS(os:List Int)(L:List Int):0<=oe os L:=by
 unfold oe;have:∀(L:List Int)(o:Int),0<=o->0<=L.foldl (fun o z=>max o (os.getD z.toNat 0)) o:=by
  intro L;induction L with
  | nil=>intro o h;exact h
  | cons z r a=>intro o h;rw[List.foldl_cons];exact a _ oM
 exact this L 0 (Int.le_refl _)
def PE{os a:List Int}{L:List Int}(h:∀z∈L,a.getD z.toNat 0=os.getD z.toNat 0):oe a L=oe os L:=by
 unfold oe;have:∀(L:List Int),(∀z∈L,a.getD z.toNat 0=os.getD z.toNat 0)->∀o:Int,L.foldl (fun o z=>max o (a.getD z.toNat 0)) o=L.foldl (fun o z=>max o (os.getD z.toNat 0)) o:=by
  intro L;induction L with
  | nil=>intro _ o;rfl
  | cons z r c =>
   intro h o;rw[List.foldl_cons,List.foldl_cons,h z sM];exact c (fun z b=>h z (mC _ b)) _
 exact this L h 0
def oT{l:List Int}{k:Nat}{v:Int}(h:k<l.length):(l.set k v).getD k 0=v:=by rw[gD,List.getElem?_set_self h];rfl
def ow{l:List Int}{k j:Nat}{v:Int}(h:k≠j):(l.set k v).getD j 0=l.getD j 0:=by rw[gD,gD,List.getElem?_set_ne h]
def sj{o L:List Int}:Eg o L=true ↔ ∀z∈L,o.getD z.toNat 0≠0:=by unfold Eg;simp
structure ml (n:Nat) (und:Nat->List Int) (K:List Nat) (o:List Int) (L:List Nat):Prop where
 len:o.length=n
 sub:∀k∈L,k∈K
 nd:L.Nodup
 zero:∀k∈L,o.getD k 0=0
 done:∀k∈K,k ∉ L->o.getD k 0=oe o (und k)+1/\∀z∈und k,o.getD z.toNat 0≠0
 off:∀k,k ∉ K->o.getD k 0=0
 bd:∀v∈o,0<=v/\v+L.length<=K.length
def ml.start(n:Nat)(und:Nat->List Int){K:List Nat}(h:K.Nodup):ml n und K (List.replicate n 0) K:=by
 have b:∀k,(List.replicate n (0:Int)).getD k 0=0:=by
  intro k;rw[gD,List.getElem?_replicate];split<;>rfl
 refine⟨by simp,fun k a=>a,h,fun k _=>b k,fun k a c=>absurd a c,fun k _=>b k,fun v hv=>?_⟩;have:=List.eq_of_mem_replicate hv;omega
def ml.go{n:Nat}{und:Nat->List Int}{K:List Nat}{o:List Int}{A C:List Nat}{k:Nat}(h:ml n und K o (A++k::C))(hk:k<n)(hn:Eg o (und k)=true):ml n und K (o.set k (oe o (und k)+1)) (A++C):=by
 have s:k∈A++k::C:=sM;have h0:=h.zero k s;have R:=sj.1 hn;have y:k ∉ A++C:=by
  have:=h.nd;rw[List.nodup_append]at this;obtain⟨u,p,w⟩:=this;rw[List.nodup_cons]at p;intro d;rcases List.mem_append.1 d with d|d
  ·exact w k d k sM rfl
  ·exact p.1 d
 have i:∀j,j∈A++C->j∈A++k::C:=by
  intro j c;rcases List.mem_append.1 c with c|c
  ·exact List.mem_append.2 (.inl c)
  ·exact List.mem_append.2 (.inr (mC _ c))
 have f:∀(L:List Int),(∀z∈L,o.getD z.toNat 0≠0)->∀v,(∀z∈L,(o.set k v).getD z.toNat 0=o.getD z.toNat 0):=by
  intro L hL v z m;refine ow ?_;rintro rfl;exact hL z m h0
 refine⟨by rw[List.length_set];exact h.len,fun j c=>h.sub j (i j c),?_,fun j c=>?_,fun j c q=>?_,fun j c=>?_,fun v hv=>?_⟩
 ·have:=h.nd;rw[List.nodup_append]at this ⊢;obtain⟨u,p,w⟩:=this;rw[List.nodup_cons]at p;exact⟨u,p.2,fun a ha b hb=>w a ha b (mC _ hb)⟩
 ·rw[ow (fun e=>y (by rw[e];exact c))];exact h.zero j (i j c)
 ·by_cases l:j=k
  ·subst l;rw[oT (by rw[h.len];exact hk),PE (f _ R _)];exact⟨rfl,fun z m=>by rw[f _ R _ z m];exact R z m⟩
  ·have x:j ∉ A++k::C:=by
    intro d;rcases List.mem_append.1 d with d|d
    ·exact q (List.mem_append.2 (.inl d))
    ·rcases List.mem_cons.1 d with d|d
     ·exact l d
     ·exact q (List.mem_append.2 (.inr d))
   obtain⟨W,t⟩:=h.done j c x;rw[ow (fun e=>l e.symm),PE (f _ t _)];exact⟨W,fun z m=>by rw[f _ t _ z m];exact t z m⟩
 ·rw[ow (fun e=>c (by rw[<-e];exact h.sub k s))];exact h.off j c
 ·have hl:(A++k::C).length=(A++C).length+1:=by simp;omega
  rcases List.mem_or_eq_of_mem_set hv with hv|rfl
  ·have:=h.bd v hv;omega
  ·have u:=DS o (und k);have hM:(0:Int)<=(K.length:Int)-(A++k::C).length:=by
    cases ho:o with
    | nil=>rw[ho]at h;have:=h.len;simp at this;omega
    | cons v r=>have:=h.bd v (by rw[ho];simp);omega
   have p:=lK (os:=o) hM (fun v hv=>by have:=h.bd v hv;omega) (und k);omega
def ml.pass{n:Nat}{und:Nat->List Int}{K:List Nat}(a:∀k∈K,k<n)(T:List Nat):∀(L A:List Nat)(o:List Int),ml n und K o (A++(L++T))->ml n und K (se und o L).1 (A++((se und o L).2++T))
 | [],A,o,h=>by simpa[se] using h
 | k::r,A,o,h=>by
  rw[se];split
  ·rename_i hk;exact ml.pass a T r A _ (h.go (a k (h.sub k (by simp))) hk)
  ·have b:ml n und K o ((A++[k])++(r++T)):=by simpa using h
   have:=ml.pass a T r (A++[k]) o b;simpa using this
end
section
open Go.RowKit Go.Shelf Go.Maps Go.Sort Go.Lib
attribute [local go_sem] Oper.semAt_some
def Gh(x:JS×V):Nat:=x.1.k.toNat
def Fg(js:List (JS×V)):List Nat:=js.map Gh
def Ph(und:Nat->List Int)(o:List Int)(js:List (JS×V))(m:Nat):List Int:=(se und o ((Fg js).take m)).1
def xn(und:Nat->List Int)(o:List Int)(js:List (JS×V))(m:Nat):Bool:=match js[m]? with|some x=>Eg (Ph und o js m) (und (Gh x))|none=>false
def zO{und:Nat->List Int}{o:List Int}{js:List (JS×V)}{m:Nat}{x:JS×V}(h:js[m]?=J x):Ph und o js (m+1)=if xn und o js m=true then (Ph und o js m).set (Gh x) (oe (Ph und o js m) (und (Gh x))+1)else Ph und o js m:=by
 have a:(Fg js)[m]?=J (Gh x):=by unfold Fg;rw[lP,h];rfl
 unfold xn;rw[h];dsimp only;unfold Ph;rw[Ce _ _ _ a,Zy];simp only[se];split<;>rfl
def xL{a b c:I}{row:Option Nat}(h:Ba a b)(g:b.grownBy c row)(f:∀j,row=J j->a.heap.size<=j):Ba a c:=
 ⟨g.os.trans h.os,g.tape.trans h.tape,g.output.trans h.output,nT h.size g.size,fun i d=>(g.block i (Nat.lt_of_lt_of_le d h.size) (fun e=>by have:=f i e.symm;omega)).trans (h.block d)⟩
def Pn(w:I)(a b B base N go n:Nat)(und:Nat->List Int)(o:List Int)(js:List (JS×V))(m:Nat)(W:I):Prop:=
 Ba w W/\W.heap[a]?=J (F #[X (J ⟨go,0,Z⟩) n n] 47 (0,0))/\W.heap[b]?=J (F #[.map (J B)] 171 (0,0))/\Gm W base B N und/\
  Fa 3 1 W w.heap.size (X (J ⟨go,0,Z⟩) n n) ((Ph und o js m).map ic)
def Pn.ext{w:I}{a b B base N go n:Nat}{und:Nat->List Int}{o:List Int}{js:List (JS×V)}{m:Nat}{W W':I}(h:Pn w a b B base N go n und o js m W)(k:Ba W W'):Pn w a b B base N go n und o js m W':=
 ⟨h.1.trans k,k.e h.2.1,k.e h.2.2.1,h.2.2.2.1.ext k,h.2.2.2.2.ext k⟩
def Pn.grown{w:I}{b c B base N go n f:Nat}{und:Nat->List Int}{o:List Int}{js:List (JS×V)}{m:Nat}{W W':I}{row:Option Nat}(h:Pn w b c B base N go n und o js m W)(d:W.grownBy W' row)(a:∀j,row=J j->f<=j/\j<B)(t:w.heap.size<f/\go<f/\b<f)(u:B<base/\B<c):Pn w b c B base N go n und o js m W':=by
 obtain⟨k,l,p,s,q⟩:=h;have v:=k.size;refine⟨xL k d (fun j i=>by have:=(a j i).1;omega),(d.block b (Ya l) (fun e=>?_)).trans l,(d.block c (Ya p) (fun e=>?_)).trans p,s.keptLow d (fun e=>?_) (fun j i=>by have:=(a j i).2;omega),⟨q.1,q.2.kept d (.inr fun e=>?_)⟩⟩
 ·have:=a b e.symm;omega
 ·have:=a c e.symm;omega
 ·have:=a B e.symm;omega
 ·have:=a go e.symm;omega
def Pn.cw{w:I}{s t B base N go gl n:Nat}{und:Nat->List Int}{K:List Nat}{o:List Int}{js:List (JS×V)}{vl:V}(hI:ml n und K o (Fg js))(ab:∀x∈js,x.1.k=(Gh x:Int))(ac:∀x∈js,∃a n c,x.2=X a n c)(hK:∀k∈K,k<n)(hn:n<=120)(ai:K.length<=120)(p:∀k∈K,∀z∈und k,0<=z/\z<n)(hN:N<1000000)(f:w.heap.size<=go/\go<base/\B≠go/\go<s/\t≠go/\go<gl):rV js t s gl vl (Pn w s t B base N go n und o js) (xn und o js):=by
 intro m W j hS y;obtain⟨h1,R,h3,h4,h5⟩:=hS;have L:=lM y;have hm:=(lS.1 y).1;have hk:=ab j L;have hP:=ml.pass hK ((Fg js).drop m) ((Fg js).take m) [] o (by simpa using hI);rw[List.nil_append]at hP;have ae:Gh j∈(Fg js).drop m:=by
  have e:(Fg js)[m]?=J (Gh j):=by unfold Fg;rw[lP,y];rfl
  exact lM (i:=0) (by rw[List.getElem?_drop];simpa using e)
 have aa:=List.mem_append.2 (Or.inr (a:=Gh j∈(se und o ((Fg js).take m)).2) ae);have h0:=hP.zero _ aa;have l:=hP.sub _ aa;have ak:=Ya R;have ha:xn und o js m=Eg (Ph und o js m) (und (Gh j)):=by unfold xn;rw[y]
 have d:=zO (und:=und) (o:=o) y;have ah:∀v∈Ph und o js m,0<=v/\v<=1000:=fun v hv=>by have:=hP.bd v hv;omega
 rw[ha]at d ⊢;cases hb:Eg (Ph und o js m) (und (Gh j))with
 |true=>
  rw[hb]at d;rw[if_pos rfl]at d;have af:=sj.1 hb;refine(SC W j t s B base w.heap.size N go n und (Ph und o js m) (Gh j) hk (ac j L) h3 R h4 hN h5 f.2.1 f.2.2.1 (hK _ l) hn ah h0 (fun z hz=>⟨(p _ l z hz).1,(p _ l z hz).2,af z hz⟩) ⟨f.2.2.2.2.1,by omega⟩).mono ?_;rintro e w' ⟨rfl,u,ho⟩;refine⟨rfl,⟨Gp h1 u f.1,(u.block s (Ya R) (by simp;omega)).trans R,(u.block t (Ya h3) (by simpa using f.2.2.2.2.1)).trans h3,h4.keptLow u (by simpa using f.2.2.1) (fun j y=>by cases y;exact f.2.1),?_⟩,fun ys hy=>⟨hy.1,hy.2.kept u ?_⟩,u.size,fun b o q aj=>(u.block b (Ya q) (by simp;omega)).trans q⟩
  ·rw[d];exact ho
  ·by_cases h9:vl.ownBlock=Z
   ·exact .inl h9
   ·right
    intro e;have:=(hy.lt go e).1;omega
 |false=>
  rw[hb]at d;rw[if_neg sM]at d;have ag:∃z∈und (Gh j),(Ph und o js m).getD z.toNat 0=0:=by
   unfold Eg at hb;simpa using hb
  refine(iK W j t s B base w.heap.size N go n und (Ph und o js m) (Gh j) hk (ac j L) h3 R h4 hN h5 (hK _ l) hn (p _ l) ag).mono ?_;rintro e w' ⟨rfl,hx⟩;refine⟨rfl,?_,fun ys hy=>hy.ext hx,hx.size,fun b o q _=>hx.e q⟩;have ad:=Pn.ext (⟨h1,R,h3,h4,h5⟩:Pn w s t B base N go n und o js m W) hx;obtain⟨g1,g2,g3,g4,g5⟩:=ad;exact⟨g1,g2,g3,g4,by rw[d];exact g5⟩
end
section
open Go.RowKit Go.Shelf Go.Maps Go.Sort Go.Lib
def Ue(g:LP)(ps:List Pl)(pin:Int)(k:Nat):List Be:=match ps[k]? with|some p=>We g ps k p pin (ps.length+1)|none=>[]
def mF{g:LP}{ps:List Pl}{a:Nat}{p:Pl}{pin b:Int}{c:Be}(h:Eb g ps a p pin b=J c):c.num=b:=by
 have d:∀t,Ig p t b pin=J c->c.num=b:=fun t h=>by
  unfold Ig at h;split at h
  ·cases hr:Wc (Ld (Ga p) t) pin with
   | none=>rw[hr]at h;cases h
   | some o=>rw[hr]at h;cases h;rfl
  ·cases h
 unfold Eb at h;split at h
 ·cases h
 ·split at h
  ·exact d _ h
  ·split at h
   ·cases h
   ·split at h
    ·exact d _ h
    ·cases h
def yB{g:LP}{ps:List Pl}{pin:Int}(e:ps.length<=120)(k:Nat):(Ue g ps pin k).length<=121/\∀b∈Ue g ps pin k,-1<=b.num/\b.num<=1000:=by
 unfold Ue;cases h:ps[k]? with
 | none=>exact⟨by simp,fun b a=>by simp at a⟩
 | some p =>
  refine⟨nT (lF _ _ _ _ _ _) oM,fun b a=>?_⟩;unfold We at a;obtain⟨i,d,c⟩:=List.mem_filterMap.1 a;rw[List.mem_range]at d;have:=mF c;omega
def ZC{r:Ru}{ps:List Pl}{ks:List (JS×V)}(h:ks.map Prod.fst=Pb r ps){x:JS×V}(f:x∈ks):∃k:Nat,x.1.k=k/\k<ps.length:=by have c:x.1∈Pb r ps:=h▸List.mem_map_of_mem f;unfold Pb at c;have d:=(List.mem_filter.1 c).1;obtain⟨i,a⟩:=List.getElem?_of_mem d;have b:=(lS.1 a).1;rw[Yn]at b;rw[Wq (gE b)]at a;have e:=Option.some.inj a;exact⟨i,by rw[<-e];rfl,b⟩
def Ap(w:I)(ps:List Pl)(r:Ru)(g:LP)(e:Ending)(w':I):Prop:=
 ∃v ks,e=.returned (.tuple #[v,O Y 0])/\ks.map Prod.fst=Pb r ps/\Ae w' v (ve ps.length (fM ks (Ue g ps r.pin) ks.length) ks ks.length)/\Ba w w'
def NC{g:LP}{ps:List Pl}{r:Ru}(h:Ch g ps r=0):0<=r.pin/\r.pin<=50:=by
 unfold Ch at h;split at h
 ·unfold Lb at h;split at h
  ·cases h
  ·split at h
   ·cases h
   ·split at h
    ·cases h
    ·omega
 ·rename_i h9;exact absurd h h9
end
section
open Go.RowKit Go.Shelf Go.Maps Go.Sort Go.Lib
attribute [local go_sem] Oper.semAt_some
def MR(w:I)(sb:Nat)(r:Ru)(vg vp vs vj vr:V)(ks:List (JS×V))(L:List Jt)(rs:List Int)(n:Nat)(p:Nat->List Be)(hS:Sv w sb r vg vp vs vj vr ks L rs)(aO:∃a n c,vg=X a n c)(aP:∃a c,vp=X a n c)(hn:n<=120)(aE:0<ks.length)(aM:ks.length<=120)(aj:∀j∈ks,∃a n c,j.2=X a n c)(aC:∀x∈ks,∃k:Nat,x.1.k=k/\k<n)(ay:∀k,(p k).length<=121)(aA:∀k,∀b∈p k,-1<=b.num/\b.num<=1000)(av:∀W,Ba w W->∀k:Nat,(∃x∈ks,x.1.k=k)->Calls Tryz.prog 99 #[P #[vg,vp],O Y k,O Y r.pin] W (Xk W (p k)))(hP:Zk n (fM ks p ks.length) ks):Calls Tryz.prog 66 #[G (J ⟨sb,0,Z⟩)] w fun e w'=>∃v,e=.returned v/\Ae w' v (ve n (fM ks p ks.length) ks ks.length)/\Ba w w':=by
 have ak:=hS.skin;have an:=Aa (fun(W:I)(hW:Ba w W)=>vR W vs ks (ak.f hW) aE aj oM);obtain⟨pa,aF,rfl⟩:=aP;obtain⟨ga,gn,gc,rfl⟩:=aO;obtain⟨va,vn,vc,rfl⟩:=Ma ak;have hb:=hS.blk;have c8:=Da hb (i:=8) (u:=X pa n aF) rfl;have c9:=Da hb (i:=9) (u:=X va vn vc) rfl;have zs:=Ya hb;have aT:sb<w.heap.size+1:=oM;have aU:sb<w.heap.size+1+1:=oM;have HP:=Aa hP;have am:=Aa av;have HS:=Aa hS;have ah:=Aa aj;have au:=Aa aC;have aq:=Aa ay;have ar:=Aa aA;have aZ:=@run_makeMap Tryz.prog;have aY:∀(fn:Fn)(first cap:Array V)(w:I),(Instr.makeFunc fn first cap).run Tryz.prog w = .ok (.func fn first cap) w:=fun _ _ _ _=>rfl;obtain⟨R,hR⟩:∃R:Ending->I->Prop,(fun e w'=>∃v,e=.returned v/\Ae w' v (ve n (fM ks p ks.length) ks ks.length)/\Ba w w')=R:=⟨_,rfl⟩;rw[hR];have HR:=Aa hR;clear ak hb hP av hS aj aC ay aA hR;go_in;go_wp2_with(first|(at_make;refine IG (T:=3) (t:=47) (z:=O Y 0) (k:=1) (bytes:=8) (zs:=[O Y 0]) (n:=n) jv rfl rfl dM Tryz.underlying47 rfl _ _ rfl _ rfl rfl rfl oM ?_;intro a1 ab)|(go_at_call 98;refine cM (an.o _ eA) ?_;rintro e q ⟨v2,rfl,f,K⟩;obtain⟨la,ln,lc,rfl⟩:=f.i;obtain⟨aI,aJ⟩:=K.cells;(have z2:=K.size);(simp only[wZ]at z2);(have aQ:sb<q.heap.size:=oM);(have aR:sb<q.heap.size+1:=oM);(have aS:sb<q.heap.size+1+1:=oM)));have X2:Ba w q:=(((eR w).alloc _).alloc _).trans K;have K3:q.heap[w.heap.size+1]?=J (F #[X (J ⟨w.heap.size,0,Z⟩) n n] 47 (0,0)):=K.e (kc _ _ _ sM);have O1:Fa 3 1 q w.heap.size (X (J ⟨w.heap.size,0,Z⟩) n n) ((List.replicate n (0:Int)).map ic):=by
  have:=ab.ext (((eR _).alloc (F #[X (J ⟨w.heap.size,0,Z⟩) n n] 47)).trans K);rw[List.map_replicate];exact this
 obtain⟨gl,aK⟩:=gX (w.heap.size+1+1);have O2:Fa 113 15 q gl (X la ln lc) (ks.map jc):=by rw[<-aK];simpa using f
 have aD:ln=ks.length:=by have:=f.len;rw[lL]at this;exact this
 have aG:=Aa aD;obtain⟨B,hB⟩:=gX q.heap.size;obtain⟨W4,s⟩:=gX (((q.alloc (.map #[] 0)).alloc (F #[.map (J q.heap.size)] 171)));have aa:Ba q W4:=by rw[<-s];exact((eR q).alloc _).alloc _
 have G4:Gm W4 (B+1+1) B 0 (fun _=>[]):=by
  have h:=(Gm.made2 q (base:=q.heap.size+1+1) oM).ext (((eR _).alloc (F #[.map (J q.heap.size)] 171)));rw[s,hB]at h;exact h
 have K5:W4.heap[B+1]?=J (F #[.map (J B)] 171 (0,0)):=by rw[<-s,<-hB];exact kc _ _ _ sM
 have s4:W4.heap.size=B+1+1:=by rw[<-s,<-hB];simp
 have zB:w.heap.size+1+1<=B:=oM;rw[s];simp only[hB];have ac:=Aa X2;have l:=Aa aa;have ao:=Aa (aa.e K3);have ae:=Aa K5;have ap:=Aa (O1.ext aa);have af:=Aa (O2.ext aa);clear ab f K X2 K3 O1 O2 aD hB s aa K5 aI aJ z2 aQ aR aS c8 c9 zs aT aU an;refine CP W4 sb (B+1) B (B+1+1) r (X ga gn gc) (X pa n aF) (X va vn vc) vj vr ks p va vn vc _ _ _ _ _ _ _ _ _ _ _ _ _ _ _ _ _ _ _ _ _ _ _ _ _ _ _ _ _ _ _ _ _ _ _ _ _ _ _ _ _ _ _ _ _ _ _ _ _ _ _ _ _ _ _ _ _ _ _ _ _ _ _ _ _ _ _ _ _ _ _ _ _ _ _ _ _ _ _ _ _ _ rfl ⟨_,_,_,rfl⟩ ⟨_,_,_,rfl⟩ (l.o.e (ac.o.e HS.o.blk)) ((HS.o.skin.f ac.o).f l.o) ah.o ae.o G4 oM aM (fun x hx=>by obtain⟨k,h1,h2⟩:=au.o x hx;exact⟨k,h1,by omega⟩) aq.o ar.o (fun W hW k hk=>am.o W (hW.ext (ac.o.trans l.o) oM oM) k hk) (fun c a d v w h=>by cases d<;>exact h) ?_;intro a3 y7 y8 y9 a2 a4 a5 a6 a7 a8 a9 ba bb bc be bf bg bh bi bj bk bl bm bn bo bp bq br bs bt bu bv bw bx bz bA bB bC bD bE bF bG bH bI bJ bK bL bM bN bO bP bQ bT W N y ai aW;obtain⟨al,ad⟩:=gX (fM ks p ks.length);rw[ad]at ai HP HR;have ax:Ba w W:=y.ext (ac.o.trans l.o) oM oM;have ag:=Aa (show xo w (w.heap.size+1) (B+1) B (B+1+1) N w.heap.size gl n al ks (X la ln lc) 0 W from
  ⟨ax,y.2 _ _ ao.o oM (.inl oM),y.2 _ _ ae.o oM (.inr fun cs fr e=>by cases e),ai,ap.o.crk y (fun j hj=>by
   have:j=w.heap.size:=by simpa[Value.ownBlock] using hj.symm
   exact⟨by omega,.inl oM⟩),af.o.crk y (fun j hj=>⟨by
   intro e;subst e;have h9:=af.o;rcases h9.2.2 with ⟨h1,_⟩|⟨g,cap,cur,hv,_,hh,_⟩
   ·rw[h1]at hj;cases hj
   ·rw[hv]at hj;cases hj;exact G4.notCells _ _ hh,.inr dM⟩)⟩)
 clear y ai ax ad ap af ao ae G4 l am aq ar;go_wp2;go_loopg [4] 1 (yV w (w.heap.size+1) (B+1) B (B+1+1) N w.heap.size gl n al ks (X la ln lc))
 case atStart=>exact .inl ⟨rfl,rfl,ag.o⟩
 case round =>
  rcases hrel with ⟨rfl,rfl,aw⟩|⟨rfl,a,c,rfl,hX,hK,hO⟩
  ·have aV:(0:Int)<(ln:Int):=by have:=aG.o;omega
   have aL:0<ln:=oM;have HD:=Aa (tP wr (X la ln lc) gl ks (B+1) (w.heap.size+1) (xo w (w.heap.size+1) (B+1) B (B+1+1) N w.heap.size gl n al ks (X la ln lc)) (fun k W h=>h.2.2.2.2.2) (fun k W W' h hx=>h.ext hx) aw aE oM ah.o (fun m W j h hj=>by
    obtain⟨kk,h1,h2⟩:=au.o j (lM hj);exact h.step HP.o (lS.1 hj).1 hj (ah.o j (lM hj)) h1 h2 hn oM ⟨nE _,by omega,by omega,by omega,by omega,by omega⟩))
   clear aw ag;go_wp2_with(go_at_call 51;(with_reducible refine(HD.o).mono ?_);rintro e w' ⟨a',c',W1,rfl,aH,aB⟩);go_roundg 0
   case measure=>omega
   case rel =>
    obtain⟨h1,h2,h3,h4,h5,h6⟩:=aH;have a0:=Ya h2;have aX:=Ya h3;have az:=Yg (base:=gl) aB oM (fun k hk=>(h6.lt k hk).1);refine .inr ⟨rfl,a',c',rfl,h1.D az oM,(az.block _ oM).trans h2,⟨h5.1,h5.2.kept aB ?_⟩⟩
    right
    intro e;have h9:=(h6.lt w.heap.size (by rw[<-e];rfl)).1;omega
  ·have k3:=Da hK (i:=0) (u:=X (J ⟨w.heap.size,0,Z⟩) n n) rfl;have HO:=Aa hO;have HX:=Aa hX;clear hK hO hX ag;go_wp2;rw[<-HR.o];exact⟨_,rfl,HO.o.is,HX.o⟩
end
section
open Go.RowKit Go.Shelf Go.Sort Go.Lib
attribute [local go_sem] Oper.semAt_some
structure Fd where
 kind:Int
 at':Int
 stone:Int
 amount:Int
deriving DecidableEq
def MT(f:Fd):List V:=[O S f.kind,O Y f.at',O Y f.stone,O Y f.amount]
abbrev Dn(w:I)(v:V)(l:List Fd):Prop:=Sl 135 4 (fun _ c f=>c=MT f) w v l
def Dn.f{w w':I}{v:V}{l:List Fd}(h:Dn w v l)(k:Ba w w'):Dn w' v l:=Sl.ext h (fun _ _ h=>h) k
def vw(L:List Jt)(rs:List Int)(k:Nat):Int:=(match L[k]? with|some j=>j.til|none=>0)-rs.getD k 0
end
section
open Go.RowKit Go.Shelf Go.Sort Go.Lib
end
section
open Go.RowKit Go.Shelf Go.Maps Go.Sort Go.Lib
attribute [local go_sem] Oper.semAt_some
end
section
open Go.RowKit Go.Shelf Go.Sort Go.Lib
def Nq:Ga (La ⟨#[97]⟩ 0 0)=[(0,0),(0+200,0)]:=by unfold Ga Ic;rw[show Gc (Ca (La ⟨#[97]⟩ 0 0)) (Ca (La ⟨#[97]⟩ 0 0)).length=[(0,0),(0+200,0)] by decide,Ln (List.Perm.refl _) dM dM];decide
def Mm:Kb (La ⟨#[97]⟩ 0 0)=[(0,0+80),(0+200,0+80)]:=by unfold Kb Ic;rw[show Pd (Ca (La ⟨#[97]⟩ 0 0)) (Ca (La ⟨#[97]⟩ 0 0)).length=[(0+200,0+80),(0,0+80)] by decide,Ln (List.Perm.swap _ _ _) dM dM];decide
def Mq:Ga (La ⟨#[98]⟩ 200 0)=[(200,0),(200+200,0)]:=by unfold Ga Ic;rw[show Gc (Ca (La ⟨#[98]⟩ 200 0)) (Ca (La ⟨#[98]⟩ 200 0)).length=[(200,0),(200+200,0)] by decide,Ln (List.Perm.refl _) dM dM];decide
def Km:Kb (La ⟨#[98]⟩ 200 0)=[(200,0+80),(200+200,0+80)]:=by unfold Kb Ic;rw[show Pd (Ca (La ⟨#[98]⟩ 200 0)) (Ca (La ⟨#[98]⟩ 200 0)).length=[(200+200,0+80),(200,0+80)] by decide,Ln (List.Perm.swap _ _ _) dM dM];decide
def Lq:Ga (La ⟨#[99]⟩ 0 80)=[(0,80),(0+200,80)]:=by unfold Ga Ic;rw[show Gc (Ca (La ⟨#[99]⟩ 0 80)) (Ca (La ⟨#[99]⟩ 0 80)).length=[(0,80),(0+200,80)] by decide,Ln (List.Perm.refl _) dM dM];decide
def Jm:Kb (La ⟨#[99]⟩ 0 80)=[(0,80+80),(0+200,80+80)]:=by unfold Kb Ic;rw[show Pd (Ca (La ⟨#[99]⟩ 0 80)) (Ca (La ⟨#[99]⟩ 0 80)).length=[(0+200,80+80),(0,80+80)] by decide,Ln (List.Perm.swap _ _ _) dM dM];decide
def Kq:Ga (La ⟨#[100]⟩ 200 80)=[(200,80),(200+200,80)]:=by unfold Ga Ic;rw[show Gc (Ca (La ⟨#[100]⟩ 200 80)) (Ca (La ⟨#[100]⟩ 200 80)).length=[(200,80),(200+200,80)] by decide,Ln (List.Perm.refl _) dM dM];decide
def Im:Kb (La ⟨#[100]⟩ 200 80)=[(200,80+80),(200+200,80+80)]:=by unfold Kb Ic;rw[show Pd (Ca (La ⟨#[100]⟩ 200 80)) (Ca (La ⟨#[100]⟩ 200 80)).length=[(200+200,80+80),(200,80+80)] by decide,Ln (List.Perm.swap _ _ _) dM dM];decide
def Jq:Ga (La ⟨#[101]⟩ 100 160)=[(100,160),(100+200,160)]:=by unfold Ga Ic;rw[show Gc (Ca (La ⟨#[101]⟩ 100 160)) (Ca (La ⟨#[101]⟩ 100 160)).length=[(100,160),(100+200,160)] by decide,Ln (List.Perm.refl _) dM dM];decide
def Fm:Kb (La ⟨#[101]⟩ 100 160)=[(100,160+80),(100+200,160+80)]:=by unfold Kb Ic;rw[show Pd (Ca (La ⟨#[101]⟩ 100 160)) (Ca (La ⟨#[101]⟩ 100 160)).length=[(100+200,160+80),(100,160+80)] by decide,Ln (List.Perm.swap _ _ _) dM dM];decide
example:Cd ⟨[(0,0),(200,0)],[(-1000,0),(1000,0)],0,200⟩ 0=false:=by simp only[Cd,Ta,Mc,Vd,Ay];decide +kernel
def BL:Fb Ec Ac=0:=by unfold Ac Fb;simp only[Vc,Mf,If,Ff,Qf,List.any_cons,List.any_nil,List.nil_append,List.cons_append,Yi,Ve,Ta,Mc,Vd,Ay,te,Nq,Mq,Lq,Kq,Jq,Mm,Km,Jm,Im,Fm];decide +kernel
def Dw:Ch Ec Ac Yj=0:=by unfold Ch;rw[if_pos BL];decide
def IC:(Pb Yj Ac).length=5:=dM
def uo:Jt:=⟨0,1,200,200,0,80⟩
def Rm:Jt:=⟨2,3,200,200,80,160⟩
def TI:oh Yj (Pb Yj Ac)=[uo,Rm]:=by rfl
def Pt{ks:List (JS×V)}{L:List Jt}{rs:List Int}(h:On Yj Ac ks L rs):L=[uo,Rm]/\rs=[0,0]:=by
 have e:=h.perm;rw[TI]at e;have f:L=[uo,Rm]:=by
  refine List.Perm.eq_of_pairwise (le:=fun a b=>¬Ug b a<0) (fun a b d i j k=>?_) h.ord ?_ e
  ·have c:=e.mem_iff.1 d;simp only[List.mem_cons,List.not_mem_nil,or_false]at c i;rcases c with rfl|rfl<;>rcases i with rfl|rfl
   ·rfl
   ·exact absurd dM k
   ·exact absurd dM j
   ·rfl
  ·refine List.pairwise_cons.2 ⟨fun a d=>?_,List.pairwise_singleton _ _⟩;rw[List.mem_singleton.1 d];decide
 refine⟨f,?_⟩;rw[h.roots,f];rfl
def UQ(p:Pl)(t:LP)(b pin:Int):(Ig p t b pin).isSome=(decide ((Ld (Ga p) t).lo<(Ld (Ga p) t).hi)&&!Cd (Ld (Ga p) t) pin):=by
 unfold Ig Wc;by_cases a:(Ld (Ga p) t).lo<(Ld (Ga p) t).hi
 ·rw[if_pos a];cases h2:Cd (Ld (Ga p) t) pin<;>simp[a]
 ·rw[if_neg a];simp[a]
section
variable {g:LP} {ps:List Pl} {r:Ru} {ks:List (JS×V)} {o:List Int} (hs:ks.map Prod.fst=Pb r ps) (hI:ml ps.length (fM ks (Ue g ps r.pin) ks.length) (Fg ks) o [])
include hs hI
omit hs in
omit hs in
end
def xr(g:LP)(ps:List Pl)(a:Nat)(p:Pl)(pin:Int):∀n,(We g ps a p pin n).map (·.num)=((List.range n).filter fun i:Nat=>(Eb g ps a p pin ((i:Int)-1)).isSome).map fun i:Nat=>(i:Int)-1
 | 0=>rfl
 | n+1=>by
  rw[KF,List.map_append,xr g ps a p pin n,List.range_succ,List.filter_append,List.map_append]
  congr 1
  cases h:Eb g ps a p pin ((n:Int)-1)with
  | none=>simp[h]
  | some b=>simp[h,mF h]
def ji{p:Pl}{t a up:LP}{b:Int}{r:Bool}(c:Ga p=a)(d:t=up)(h:(decide ((Ld a up).lo<(Ld a up).hi)&&!Cd (Ld a up) 0)=r:=by(simp only[Ld,Cd,Ta,Mc,Vd,Ay];decide +kernel)):(Ig p t b 0).isSome=r:=by rw[UQ,c,d];exact h
def AI:(Eb Ec Ac 0 (La ⟨#[97]⟩ 0 0) 0 (((0:Nat):Int)-1)).isSome=true:=
 ji Nq rfl
def zI:(Eb Ec Ac 0 (La ⟨#[97]⟩ 0 0) 0 (((1:Nat):Int)-1)).isSome=false:=by rfl
def yI:(Eb Ec Ac 0 (La ⟨#[97]⟩ 0 0) 0 (((2:Nat):Int)-1)).isSome=false:=
 ji Nq Km
def xI:(Eb Ec Ac 0 (La ⟨#[97]⟩ 0 0) 0 (((3:Nat):Int)-1)).isSome=false:=
 ji Nq Jm
def vI:(Eb Ec Ac 0 (La ⟨#[97]⟩ 0 0) 0 (((4:Nat):Int)-1)).isSome=false:=
 ji Nq Im
def uI:(Eb Ec Ac 0 (La ⟨#[97]⟩ 0 0) 0 (((5:Nat):Int)-1)).isSome=false:=
 ji Nq Fm
def tI:(Eb Ec Ac 1 (La ⟨#[98]⟩ 200 0) 0 (((0:Nat):Int)-1)).isSome=true:=
 ji Mq rfl
def sI:(Eb Ec Ac 1 (La ⟨#[98]⟩ 200 0) 0 (((1:Nat):Int)-1)).isSome=false:=
 ji Mq Mm
def rI:(Eb Ec Ac 1 (La ⟨#[98]⟩ 200 0) 0 (((2:Nat):Int)-1)).isSome=false:=by rfl
def qI:(Eb Ec Ac 1 (La ⟨#[98]⟩ 200 0) 0 (((3:Nat):Int)-1)).isSome=false:=
 ji Mq Jm
def pI:(Eb Ec Ac 1 (La ⟨#[98]⟩ 200 0) 0 (((4:Nat):Int)-1)).isSome=false:=
 ji Mq Im
def oI:(Eb Ec Ac 1 (La ⟨#[98]⟩ 200 0) 0 (((5:Nat):Int)-1)).isSome=false:=
 ji Mq Fm
def nI:(Eb Ec Ac 2 (La ⟨#[99]⟩ 0 80) 0 (((0:Nat):Int)-1)).isSome=false:=
 ji Lq rfl
def mI:(Eb Ec Ac 2 (La ⟨#[99]⟩ 0 80) 0 (((1:Nat):Int)-1)).isSome=true:=
 ji Lq Mm
def lI:(Eb Ec Ac 2 (La ⟨#[99]⟩ 0 80) 0 (((2:Nat):Int)-1)).isSome=false:=
 ji Lq Km
def kI:(Eb Ec Ac 2 (La ⟨#[99]⟩ 0 80) 0 (((3:Nat):Int)-1)).isSome=false:=by rfl
def jI:(Eb Ec Ac 2 (La ⟨#[99]⟩ 0 80) 0 (((4:Nat):Int)-1)).isSome=false:=
 ji Lq Im
def iI:(Eb Ec Ac 2 (La ⟨#[99]⟩ 0 80) 0 (((5:Nat):Int)-1)).isSome=false:=
 ji Lq Fm
def ZH:(Eb Ec Ac 3 (La ⟨#[100]⟩ 200 80) 0 (((0:Nat):Int)-1)).isSome=false:=
 ji Kq rfl
def YH:(Eb Ec Ac 3 (La ⟨#[100]⟩ 200 80) 0 (((1:Nat):Int)-1)).isSome=false:=
 ji Kq Mm
def XH:(Eb Ec Ac 3 (La ⟨#[100]⟩ 200 80) 0 (((2:Nat):Int)-1)).isSome=true:=
 ji Kq Km
def WH:(Eb Ec Ac 3 (La ⟨#[100]⟩ 200 80) 0 (((3:Nat):Int)-1)).isSome=false:=
 ji Kq Jm
def VH:(Eb Ec Ac 3 (La ⟨#[100]⟩ 200 80) 0 (((4:Nat):Int)-1)).isSome=false:=by rfl
def mJ:(Eb Ec Ac 3 (La ⟨#[100]⟩ 200 80) 0 (((5:Nat):Int)-1)).isSome=false:=
 ji Kq Fm
def lJ:(Eb Ec Ac 4 (La ⟨#[101]⟩ 100 160) 0 (((0:Nat):Int)-1)).isSome=false:=
 ji Jq rfl
def kJ:(Eb Ec Ac 4 (La ⟨#[101]⟩ 100 160) 0 (((1:Nat):Int)-1)).isSome=false:=
 ji Jq Mm
def jJ:(Eb Ec Ac 4 (La ⟨#[101]⟩ 100 160) 0 (((2:Nat):Int)-1)).isSome=false:=
 ji Jq Km
def iJ:(Eb Ec Ac 4 (La ⟨#[101]⟩ 100 160) 0 (((3:Nat):Int)-1)).isSome=true:=
 ji Jq Jm
def ZI:(Eb Ec Ac 4 (La ⟨#[101]⟩ 100 160) 0 (((4:Nat):Int)-1)).isSome=true:=
 ji Jq Im
def YI:(Eb Ec Ac 4 (La ⟨#[101]⟩ 100 160) 0 (((5:Nat):Int)-1)).isSome=false:=by rfl
def rP:(Ue Ec Ac 0 0).map (·.num)=[-1]:=by show (We Ec Ac 0 (La ⟨#[97]⟩ 0 0) 0 (5+1)).map (·.num)=_;rw[xr];rw[show List.range (5+1)=[0,1,2,3,4,5]from rfl];simp only[List.filter_cons,List.filter_nil,AI,zI,yI,xI,vI,uI];rfl
def qP:(Ue Ec Ac 0 1).map (·.num)=[-1]:=by show (We Ec Ac 1 (La ⟨#[98]⟩ 200 0) 0 (5+1)).map (·.num)=_;rw[xr];rw[show List.range (5+1)=[0,1,2,3,4,5]from rfl];simp only[List.filter_cons,List.filter_nil,tI,sI,rI,qI,pI,oI];rfl
def pP:(Ue Ec Ac 0 2).map (·.num)=[0]:=by show (We Ec Ac 2 (La ⟨#[99]⟩ 0 80) 0 (5+1)).map (·.num)=_;rw[xr];rw[show List.range (5+1)=[0,1,2,3,4,5]from rfl];simp only[List.filter_cons,List.filter_nil,nI,mI,lI,kI,jI,iI];rfl
def oP:(Ue Ec Ac 0 3).map (·.num)=[1]:=by show (We Ec Ac 3 (La ⟨#[100]⟩ 200 80) 0 (5+1)).map (·.num)=_;rw[xr];rw[show List.range (5+1)=[0,1,2,3,4,5]from rfl];simp only[List.filter_cons,List.filter_nil,ZH,YH,XH,WH,VH,mJ];rfl
def nP:(Ue Ec Ac 0 4).map (·.num)=[2,3]:=by show (We Ec Ac 4 (La ⟨#[101]⟩ 100 160) 0 (5+1)).map (·.num)=_;rw[xr];rw[show List.range (5+1)=[0,1,2,3,4,5]from rfl];simp only[List.filter_cons,List.filter_nil,lJ,kJ,jJ,iJ,ZI,YI];rfl
end
section
open Go.RowKit Go.Shelf Go.Maps Go.Sort Go.Lib
def WR(w:I)(l m:V)(g:LP)(ps:List Pl)(r:Ru)(n:Ja w l g)(t:Jd w m ps)(f:Gw w)(b:Ch g ps r=0)(ac:0<(Pb r ps).length)(hP:∀ks:List (JS×V),ks.map Prod.fst=Pb r ps->Zk ps.length (fM ks (Ue g ps r.pin) ks.length) ks):Calls Tryz.prog 28 #[P #[l,m],P (xg r)] w (Ap w ps r g):=by
 have HB:=Aa (fun W (c:Ba w W)=>(Uw W l m g ps r (n.f c) (t.f c) (f.ext c)).mono (fun e w' h=>h.resolve_left (fun h9=>h9.1 b)));have i:Fb g ps=0:=by
  unfold Ch at b;by_cases h:Fb g ps=0
  ·exact h
  ·rw[if_neg h]at b;exact absurd b h
 obtain⟨s,q,p⟩:=Bs i;have HC:=Aa (fun(W:I)(c:Ba w W)(y:Nat)(vs K vr:V)(ks:List (JS×V))(L:List Jt)(rs:List Int)(z:Sv W y r l m vs K vr ks L rs)(a:On r ps ks L rs) =>
  MR W y r l m vs K vr ks L rs ps.length (Ue g ps r.pin) z (Ma n) (t.form) q
   (by have:=congrArg List.length a.skin;rw[lL]at this;omega)
   (by have h9:=congrArg List.length a.skin;rw[lL]at h9;have h8:(Pb r ps).length<=(Me ps).length:=List.length_filter_le _ _;rw[Yn]at h8;omega)
   (fun j hj=>Ma (z.pts j hj)) (fun x hx=>ZC a.skin hx) (fun k=>(yB q k).1) (fun k=>(yB q k).2)
   (fun W' d k hk=>by
    obtain⟨x,hx,ai⟩:=hk;obtain⟨k',h1,v⟩:=ZC a.skin hx;have ab:k=k':=oM;subst ab;have u:ps[k]?=J (ps[k]'v):=gE v;(have aa:Ue g ps r.pin k=We g ps k (ps[k]'v) r.pin (ps.length+1):=by unfold Ue;rw[u]);rw[aa];exact kL W' l m g ps k (ps[k]'v) r.pin (n.f (c.trans d)) (t.f (c.trans d)) (f.ext (c.trans d)) i u (NC b).1 (NC b).2 p s q)
   (hP ks a.skin))
 obtain⟨ga,gn,gc,rfl⟩:=Ma n;obtain⟨pa,pn,ak,rfl⟩:=Ma t;obtain⟨R,hR⟩:=gX (Ap w ps r g);rw[hR];have HR:=Aa hR;clear n t f hR b ac hP i s q p;obtain⟨sk,pin,ag,aj,step,al,af⟩:=r;unfold xg at HB ⊢;dsimp only at HB;go_in;go_wp2_with(first|(go_at_call 38;refine cM (HB.o _ eA) ?_;rintro e w3 ⟨_,y,vs,K,vr,ks,L,rs,rfl,z,a,ah⟩;have X3:Ba w w3:=eA)|(go_at_call 66;refine cM (HC.o w3 X3 y vs K vr ks L rs z a) ?_;rintro e w4 ⟨v4,rfl,ad,ae⟩));rw[<-HR.o];exact⟨_,ks,rfl,a.skin,ad,X3.trans ae⟩
end
section
open Go.RowKit Go.Shelf Go.Maps Go.Sort Go.Lib
attribute [local go_sem] Oper.semAt_some
end
section
open Go.RowKit Go.Shelf Go.Sort Go.Lib
def Ks(ks:List (JS×V))(m:Nat):Kc ks m=(match (ks.map Prod.fst)[m]? with|some j=>j.k.toNat|none=>0):=by unfold Kc;rw[lP];cases ks[m]?<;>rfl
def Gs(ks:List (JS×V))(z:Int):Vf ks z=(decide (0<=z)&&(ks.map Prod.fst).any fun j=>j.k==z):=by unfold Vf;rw[List.any_map];rfl
def Fs(ks:List (JS×V))(a:List Be):Sf ks a a.length=(a.map (·.num)).filter (Vf ks):=by unfold Sf;rw[List.take_length]
section
variable {ks:List (JS×V)} (h:ks.map Prod.fst=Pb Yj Ac)
include h
theorem Rr:ks.length=5:=by rw[<-lL (f:=Prod.fst),h];exact IC
theorem Mo:Kc ks 0=0:=by rw[Ks,h];rfl
theorem Lo:Kc ks 1=1:=by rw[Ks,h];rfl
theorem Ko:Kc ks 2=2:=by rw[Ks,h];rfl
theorem Jo:Kc ks 3=3:=by rw[Ks,h];rfl
theorem Io:Kc ks 4=4:=by rw[Ks,h];rfl
theorem Ss:Sf ks (Ue Ec Ac 0 0) (Ue Ec Ac 0 0).length=[]:=by rw[Fs,rP];simp only[List.filter_cons,List.filter_nil,Gs,h];rfl
theorem Rs:Sf ks (Ue Ec Ac 0 1) (Ue Ec Ac 0 1).length=[]:=by rw[Fs,qP];simp only[List.filter_cons,List.filter_nil,Gs,h];rfl
theorem Qs:Sf ks (Ue Ec Ac 0 2) (Ue Ec Ac 0 2).length=[0]:=by rw[Fs,pP];simp only[List.filter_cons,List.filter_nil,Gs,h];rfl
theorem Ps:Sf ks (Ue Ec Ac 0 3) (Ue Ec Ac 0 3).length=[1]:=by rw[Fs,oP];simp only[List.filter_cons,List.filter_nil,Gs,h];rfl
theorem Ns:Sf ks (Ue Ec Ac 0 4) (Ue Ec Ac 0 4).length=[2,3]:=by rw[Fs,nP];simp only[List.filter_cons,List.filter_nil,Gs,h];rfl
theorem yC:fM ks (Ue Ec Ac 0) 5 0=[]:=by simp only[fM,Mo h,Lo h,Ko h,Jo h,Io h,Ss h,Rs h,Qs h,Ps h,Ns h];rfl
theorem xC:fM ks (Ue Ec Ac 0) 5 1=[]:=by simp only[fM,Mo h,Lo h,Ko h,Jo h,Io h,Ss h,Rs h,Qs h,Ps h,Ns h];rfl
theorem vC:fM ks (Ue Ec Ac 0) 5 2=[0]:=by simp only[fM,Mo h,Lo h,Ko h,Jo h,Io h,Ss h,Rs h,Qs h,Ps h,Ns h];rfl
theorem KC:fM ks (Ue Ec Ac 0) 5 3=[1]:=by simp only[fM,Mo h,Lo h,Ko h,Jo h,Io h,Ss h,Rs h,Qs h,Ps h,Ns h];rfl
theorem JC:fM ks (Ue Ec Ac 0) 5 4=[2,3]:=by simp only[fM,Mo h,Lo h,Ko h,Jo h,Io h,Ss h,Rs h,Qs h,Ps h,Ns h];rfl
theorem Fw:ve 5 (fM ks (Ue Ec Ac 0) 5) ks 0=[0,0,0,0,0]:=by have:=h;rfl
theorem Ew:ve 5 (fM ks (Ue Ec Ac 0) 5) ks 1=[1,0,0,0,0]:=by show (ve 5 (fM ks (Ue Ec Ac 0) 5) ks 0).set (Kc ks 0) (oe (ve 5 (fM ks (Ue Ec Ac 0) 5) ks 0) (fM ks (Ue Ec Ac 0) 5 (Kc ks 0))+1)=_;rw[Mo h,Fw h,yC h];decide
theorem Gu:ve 5 (fM ks (Ue Ec Ac 0) 5) ks 2=[1,1,0,0,0]:=by show (ve 5 (fM ks (Ue Ec Ac 0) 5) ks 1).set (Kc ks 1) (oe (ve 5 (fM ks (Ue Ec Ac 0) 5) ks 1) (fM ks (Ue Ec Ac 0) 5 (Kc ks 1))+1)=_;rw[Lo h,Ew h,xC h];decide
theorem Fu:ve 5 (fM ks (Ue Ec Ac 0) 5) ks 3=[1,1,2,0,0]:=by show (ve 5 (fM ks (Ue Ec Ac 0) 5) ks 2).set (Kc ks 2) (oe (ve 5 (fM ks (Ue Ec Ac 0) 5) ks 2) (fM ks (Ue Ec Ac 0) 5 (Kc ks 2))+1)=_;rw[Ko h,Gu h,vC h];decide
theorem Eu:ve 5 (fM ks (Ue Ec Ac 0) 5) ks 4=[1,1,2,2,0]:=by show (ve 5 (fM ks (Ue Ec Ac 0) 5) ks 3).set (Kc ks 3) (oe (ve 5 (fM ks (Ue Ec Ac 0) 5) ks 3) (fM ks (Ue Ec Ac 0) 5 (Kc ks 3))+1)=_;rw[Jo h,Fu h,KC h];decide
theorem NA:ve 5 (fM ks (Ue Ec Ac 0) 5) ks 5=[1,1,2,2,3]:=by show (ve 5 (fM ks (Ue Ec Ac 0) 5) ks 4).set (Kc ks 4) (oe (ve 5 (fM ks (Ue Ec Ac 0) 5) ks 4) (fM ks (Ue Ec Ac 0) 5 (Kc ks 4))+1)=_;rw[Io h,Eu h,JC h];decide
theorem AL:Zk 5 (fM ks (Ue Ec Ac 0) 5) ks:=by
 refine⟨fun m a=>?_,fun m a=>?_,fun m a=>?_⟩
 ·rw[Rr h]at a
  match m,a with
  | 0,_=>rw[Mo h,yC h];intro z b;cases b
  | 1,_=>rw[Lo h,xC h];intro z b;cases b
  | 2,_=>rw[Ko h,vC h,Gu h];decide
  | 3,_=>rw[Jo h,KC h,Fu h];decide
  | 4,_=>rw[Io h,JC h,Eu h];decide
 ·rw[Rr h]at a
  match m,a with
  | 0,_=>rw[Mo h,Fw h];rfl
  | 1,_=>rw[Lo h,Ew h];rfl
  | 2,_=>rw[Ko h,Gu h];rfl
  | 3,_=>rw[Jo h,Fu h];rfl
  | 4,_=>rw[Io h,Eu h];rfl
 ·rw[Rr h]at a
  match m,a with
  | 0,_=>rw[Fw h];decide
  | 1,_=>rw[Ew h];decide
  | 2,_=>rw[Gu h];decide
  | 3,_=>rw[Fu h];decide
  | 4,_=>rw[Eu h];decide
  | 5,_=>rw[NA h];decide
end
def GR(w:I)(c d:V)(k:Ja w c Ec)(l:Jd w d Ac)(b:Gw w):Calls Tryz.prog 28 #[P #[c,d],P (xg Yj)] w fun e f=>∃v,e=.returned (.tuple #[v,O Y 0])/\Ae f v [1,1,2,2,3]/\Ba w f:=by
 refine(WR w c d Ec Ac Yj k l b Dw (by rw[IC];decide) (fun ks a=>?_)).mono ?_
 ·have:=AL a;rw[show Yj.pin=0 from rfl,Rr a];exact this
 ·rintro e f ⟨v,ks,rfl,a,i,m⟩;rw[show Yj.pin=0 from rfl,Rr a]at i;have j:=NA a;refine⟨v,rfl,?_,m⟩;rw[<-j];exact i
