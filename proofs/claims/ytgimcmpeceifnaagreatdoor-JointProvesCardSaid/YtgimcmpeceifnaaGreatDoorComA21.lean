import Derived.Test.YtgimcmpeceifnaaGreatDoorComA20
set_option maxRecDepth 1000000
set_option maxHeartbeats 16000000
set_option linter.all false
open Go.Value renaming int->O,slice->Z,pointer->G,agg->P
open Go.IntKind renaming i64->Y
open Option renaming none->X,some->J
open Go renaming Value->V,World->I
open Go.Obj renaming cells->F
namespace Go.Proofs.YtgimcmpeceifnaaGreatDoor.Cop
section
open Go.RowKit Go.Shelf Go.Sort
attribute [local go_sem] Oper.semAt_some
def IA(w:I)(l:LP)(t3:V)(W:I):Prop:=
 ∃i:Nat,t3=O Y i/\i<=l.length/\Ba w W/\∀j,j<i->Pf l j=true
def QH l i:Pf l i=(!Uc (Qa l i).1&&(!Uc (Qa l i).2&&(i==0 || decide ((Qa l (i-1)).1<(Qa l i).1)))):=rfl
def zM w v l(h:Ab w v l)(hl:l.length<=1000000):Calls Tryz.prog 56 #[v] w fun e w'=>e=.returned (.bool (Bb l))/\Ba w w':=by
 obtain⟨a,c,rfl⟩:=h.form;obtain⟨n,hn⟩:=gX l.length;rw[hn]at hl ⊢;obtain⟨cb,ab⟩:=gX (Bb l);rw[ab];have ad:=za ab;have R:=za hn;have H:=za h;clear hn h ab;go_in;go_wp2;go_loopw [3] (IA w l) (fun t3 _=>n-(intOf t3).toNat)
 case atStart=>exact⟨0,rfl,by omega,eR _,fun j hj=>by omega⟩
 case round =>
  obtain⟨i,rfl,hi,hx,K⟩:=hrel;rw[R.o]at hi;have t:=za K;clear K;by_cases ah:i<n
  ·obtain⟨b,o,rfl,hb,c0,c1⟩:=(H.o.f hx).pt (i:=i) (by rw[R.o];exact ah);have s:=QH l i;have aj:Pf l i=false->cb=false:=fun h9=>by rw[<-ad.o];exact Qv (by rw[R.o];exact ah) h9
   have f:0<i->∃px pz,Qa l (i-1)=(px,pz)/\wr.cell? ⟨b,o+(i-1)*2,X⟩=J (O Y px):=fun h0=>by
    obtain⟨b2,o2,e2,-,d0,-⟩:=(H.o.f hx).pt (i:=i-1) (by rw[R.o];omega);cases e2;exact⟨_,_,rfl,d0⟩
   obtain⟨⟨x,z⟩,hq⟩:∃q,Qa l i=q:=⟨_,rfl⟩;rw[hq]at c0 c1 s;dsimp only at c0 c1 s;obtain⟨bx,af⟩:=gX ((!Uc x));obtain⟨bz,ag⟩:=gX ((!Uc z));have hX:=fun W=>iw W x;have hZ:=fun W=>iw W z;rw[af]at hX s;rw[ag]at hZ s;have HX:=za hX;have HZ:=za hZ;have y:=za s;have aa:=za aj;have g0:(0:Int)<=(i:Int):=oM;have g1:(i:Int)<(n:Int):=oM;clear hq af ag hX hZ s aj;cases bx with
   |false=>
    have e:cb=false:=aa.o (by rw[y.o];rfl);subst e;clear f;go_wp2;refine jd [(⟨b,o+i*2,X⟩,O Y x),(⟨b,o+i*2+1,X⟩,O Y z)] cA fun d=>?_;refine sN 0 ?_
    (iterate 5 refine Db ?_);refine oN ?_;refine Ac (i:=5) (HX.o wr.drew) ?_;rintro e L ⟨rfl,k⟩;refine⟨_,rfl,(cE d k),fun d=>?_⟩;refine sN 6 ?_
    iterate 2 refine Db ?_
    iterate 7 refine Ze ?_
    iterate 2 refine Db ?_
    (iterate 16 refine Ze ?_);refine Db ?_;refine oN ?_;refine Pb ?_;go_wp2;go_ret;exact⟨rfl,eA⟩
   |true=>
    cases bz with
    |false=>
     have e:cb=false:=aa.o (by rw[y.o];rfl);subst e;clear f;go_wp2;refine jd [(⟨b,o+i*2,X⟩,O Y x),(⟨b,o+i*2+1,X⟩,O Y z)] cA fun d=>?_;refine sN 0 ?_
     (iterate 5 refine Db ?_);refine oN ?_;refine Ac (i:=5) (HX.o wr.drew) ?_;rintro e L ⟨rfl,k⟩;refine⟨_,rfl,(cE d k),fun d=>?_⟩;refine sN 6 ?_
     (iterate 7 refine Db ?_);refine oN ?_;refine Ac (i:=13) (HZ.o L) ?_;rintro e w6 ⟨rfl,p⟩;refine⟨_,rfl,(cE d p),fun d=>?_⟩;refine sN 14 ?_
     iterate 3 refine Db ?_
     (iterate 16 refine Ze ?_);refine Db ?_;refine oN ?_;refine Pb ?_;go_wp2;go_ret;exact⟨rfl,eA⟩
    |true=>
     by_cases ak:i=0
     ·subst ak;(have e9:Pf l 0=true:=by rw[y.o];rfl);simp only[Nat.zero_mul,Nat.add_zero]at c0 c1;have E9:=za e9;clear e9 f;go_wp2;refine jd [(⟨b,o,X⟩,O Y x),(⟨b,o+1,X⟩,O Y z)] cA fun d=>?_;refine sN 0 ?_
      (iterate 5 refine Db ?_);refine oN ?_;refine Ac (i:=5) (HX.o wr.drew) ?_;rintro e L ⟨rfl,k⟩;refine⟨_,rfl,(cE d k),fun d=>?_⟩;refine sN 6 ?_
      (iterate 7 refine Db ?_);refine oN ?_;refine Ac (i:=13) (HZ.o L) ?_;rintro e w6 ⟨rfl,p⟩;refine⟨_,rfl,(cE d p),fun d=>?_⟩;refine sN 14 ?_
      iterate 6 refine Db ?_
      iterate 12 refine Ze ?_
      (iterate 2 refine Db ?_);refine oN ?_;refine Pb ?_;go_wp2;go_roundw
      case rel=>exact⟨0+1,by go_num,by rw[R.o];omega,(hx.drew.trans k).trans p,fun j hj=>by
        by_cases ac:j=0
        ·subst ac;exact E9.o
        ·exact t.o j oM⟩
      case measure=>simp[intOf];omega
     ·obtain⟨m,rfl⟩:∃m,i=m+1:=⟨i-1,by omega⟩;obtain⟨px,pz,hp,d0⟩:=f oM;simp only[Nat.add_sub_cancel]at hp d0;have u:=y.o;rw[Nat.add_sub_cancel,hp]at u;have e8:(m+1==0)=false:=sM;rw[e8,Bool.true_and,Bool.true_and,Bool.false_or]at u;dsimp only at u;have ae:=za u;have k1:(0:Int)<=(m:Int):=oM;have k2:(m:Int)<(n:Int):=oM;have k3:(0:Int)<(m:Int)+1:=oM;have k4:((m:Int)+1).toNat=m+1:=oM;have k5:(m:Int)+1-1=(m:Int):=oM;have k6:(0:Int)<=(m:Int)+1:=oM;have k7:(m:Int)+1<(n:Int):=oM;have kw:IntKind.i64.wrap (m:Int)=(m:Int):=iW _ oM;clear f hp u;by_cases ai:px<x
      ·(have e1:decide (x<=px)=false:=by simp;omega);(have e9:Pf l (m+1)=true:=by rw[ae.o];simpa using ai);have E9:=za e9;clear e9;go_wp2;refine jd [(⟨b,o+(m+1)*2,X⟩,O Y x),(⟨b,o+(m+1)*2+1,X⟩,O Y z),(⟨b,o+m*2,X⟩,O Y px)] cA fun d=>?_;refine sN 0 ?_
       (iterate 5 refine Db ?_);refine oN ?_;refine Ac (i:=5) (HX.o wr.drew) ?_;rintro e L ⟨rfl,k⟩;refine⟨_,rfl,(cE d k),fun d=>?_⟩;refine sN 6 ?_
       (iterate 7 refine Db ?_);refine oN ?_;refine Ac (i:=13) (HZ.o L) ?_;rintro e w6 ⟨rfl,p⟩;refine⟨_,rfl,(cE d p),fun d=>?_⟩;refine sN 14 ?_
       (iterate 20 refine Db ?_);refine oN ?_;clear kw;refine Pb ?_;go_wp2;go_roundw
       case rel=>exact⟨m+1+1,by go_num,by rw[R.o];omega,(hx.drew.trans k).trans p,fun j hj=>by
         by_cases ac:j=m+1
         ·subst ac;exact E9.o
         ·exact t.o j oM⟩
       case measure=>simp[intOf];omega
      ·(have e1:decide (x<=px)=true:=by simp;omega);have e:cb=false:=aa.o (by rw[ae.o];simpa using ai);subst e;go_wp2;refine jd [(⟨b,o+(m+1)*2,X⟩,O Y x),(⟨b,o+(m+1)*2+1,X⟩,O Y z),(⟨b,o+m*2,X⟩,O Y px)] cA fun d=>?_;refine sN 0 ?_
       (iterate 5 refine Db ?_);refine oN ?_;refine Ac (i:=5) (HX.o wr.drew) ?_;rintro e L ⟨rfl,k⟩;refine⟨_,rfl,(cE d k),fun d=>?_⟩;refine sN 6 ?_
       (iterate 7 refine Db ?_);refine oN ?_;refine Ac (i:=13) (HZ.o L) ?_;rintro e w6 ⟨rfl,p⟩;refine⟨_,rfl,(cE d p),fun d=>?_⟩;refine sN 14 ?_
       (iterate 20 refine Db ?_);refine oN ?_;clear kw;refine Pb ?_;go_wp2;go_ret;exact⟨rfl,eA⟩
  ·obtain rfl:i=n:=oM;have e:cb=Ra i 2 40:=by
    rw[<-ad.o];unfold Bb;rw[R.o,fw t.o,Bool.and_true]
   have E:=za e;clear e;unfold Ra at E;by_cases k1:2<=i
   ·have k2:(2:Int)<=(i:Int):=oM;(have e2:cb=decide ((i:Int)<=40):=by rw[E.o];simp;omega);subst e2;go_wp2;go_ret;exact⟨Uj sM,eA⟩
   ·have k2:¬(2:Int)<=(i:Int):=oM;(have e2:cb=false:=by rw[E.o];simp;omega);subst e2;go_wp2;go_ret;exact⟨rfl,eA⟩
def AN w vg v g p(hg:Ab w vg g)(h:Ab w v p.shape)(q:Fa p=true)(L:g≠[])(hl:g.length<=1000000):Calls Tryz.prog 58 #[vg,P (Dd p v)] w fun e w'=>e=.returned (.bool (ve g p))/\Ba w w':=by
 have R:=Dl q;have HL:=za (fun W (hW:Ba w W)=>Uv W v p (h.f hW) q);have HE:=za (fun W v (hv:Ab W v (Ga p))=>mt W v _ hv R.1.1);obtain⟨k,j⟩:=gX (ve g p);rw[j];unfold ve at j;obtain⟨l1,e1⟩:=gX (ub (Ga p));obtain⟨r1,e2⟩:=gX (Wb (Ga p));rw[show (Qa (Ga p) 0).1=l1 from e1,show (Qa (Ga p) ((Ga p).length-1)).1=r1 from e2]at HE;rw[e1,e2]at j;obtain⟨ga,gc,rfl⟩:=hg.form;obtain⟨n,u⟩:=gX g.length;have ag:0<n:=by rw[<-u];exact List.length_pos_iff.2 L
 obtain⟨b,o,rfl,hb,c0,-⟩:=hg.pt (i:=0) (by rw[u];exact ag);obtain⟨b2,o2,e9,ad,d0,-⟩:=hg.pt (i:=n-1) (by rw[u];omega);cases e9;have z:ub g=(Qa g 0).1:=rfl;have K:Wb g=(Qa g (n-1)).1:=by rw[<-u];rfl
 rw[z,K]at j;obtain⟨x,hx⟩:=gX ((Qa g 0).1);obtain⟨y,hy⟩:=gX ((Qa g (n-1)).1);rw[hx]at c0 j;rw[hy]at d0 j;rw[u]at hl ⊢;obtain⟨m,hm⟩:=gX (n-1);rw[hm]at d0;obtain rfl:n=m+1:=oM;simp only[Nat.zero_mul,Nat.add_zero]at c0;have Hk:=za j;have k1:(0:Int)<=(m:Int):=oM;have k2:(m:Int)<(m:Int)+1:=oM;have k5:(m:Int)+1-1=(m:Int):=oM;have k3:(0:Int)<(m:Int)+1:=oM;obtain⟨a,n9,c,rfl⟩:=h.i;clear j e1 e2 z K hx hy u hm hg h R q L ad;obtain⟨nm,sh,d,de,gx,gz,wy,ax,az,sk⟩:=p;unfold Dd at HL ⊢;dsimp only at HL ⊢;by_cases h1:x<=l1
 ·have e:k=decide (r1<=y):=by rw[<-Hk.o];simp[h1]
  subst e;go_in;go_wp2_with(first|(go_at_call 60;refine cM (HL.o _ eA) ?_;rintro e w1 ⟨v1,rfl,f,s⟩;obtain⟨a1,n1,c1,rfl⟩:=f.i;obtain⟨⟨ae,af⟩,aa⟩:=Jd w s;(have X1:Ba w w1:=eA))|(go_at_call 93;refine cM (HE.o w1 _ f.pr) ?_;rintro e w2 ⟨rfl,t⟩;(have l:Ba w w2:=X1.trans t);(have ab:=l.d c0);(have ac:=l.d d0)));go_ret;exact⟨rfl,l⟩
 ·have e:k=false:=by rw[<-Hk.o];simp[h1]
  subst e;go_in;go_wp2_with(first|(go_at_call 60;refine cM (HL.o _ eA) ?_;rintro e w1 ⟨v1,rfl,f,s⟩;obtain⟨a1,n1,c1,rfl⟩:=f.i;obtain⟨⟨ae,af⟩,aa⟩:=Jd w s;(have X1:Ba w w1:=eA))|(go_at_call 93;refine cM (HE.o w1 _ f.pr) ?_;rintro e w2 ⟨rfl,t⟩;(have l:Ba w w2:=X1.trans t);(have ab:=l.d c0);(have ac:=l.d d0)));go_ret;exact⟨rfl,l⟩
end
section
open Go.RowKit Go.Shelf Go.Maps Go.Sort Go.Lib
attribute [local go_sem] Oper.semAt_some
def Nc(ks:List (JS×V))(m:Nat):Nat:=match ks[m]? with|some x=>x.1.k.toNat|none=>0
def fM(ks:List (JS×V))(a:Nat->List Be):Nat->Nat->List Int
 | 0=>fun _=>[]
 | m+1=>Ih (fM ks a m) (Nc ks m) (Zf ks (a (Nc ks m)) (a (Nc ks m)).length)
def FV(c:I)(base B:Nat)(ks:List (JS×V))(a:Nat->List Be)(d:Nat)(b:V)(W:I):Prop:=
 ∃m N:Nat,m<=ks.length/\b=O Y m/\d=ks.length-m/\N<=121*m/\rh base B c W/\Gm W base B N (fM ks a m)
def WP L K b5 B base r vg vp vs vj vr ks f va u vc Q x1 x2 x3 x4 x6 x7 x8 x9 aG bC aH aI aJ aK aL aM aO aP aQ aR aS aT aU aV aW aX bD bE bF bG bH bI bJ bK bL bM bN bO bP bQ bT bU bV bW bX bY bZ b0 b1 b2 b3 b4 b6 b7 b8 b9 ca cb cc cd ce cf cg ch ci cj ck cl cm cn co cp cq cr aY aZ a0 a1 a2 a3 a4(bB:vs=Z va u vc)(bz:∃a n c,vg=Z a n c)(bA:∃a n c,vp=Z a n c)(z:L.heap[K]?=J (F (nj r vg vp vs vj vr) 89 (0,0)))(s:Ge L vs ks)(aD:∀j∈ks,∃a n c,j.2=Z a n c)(h5:L.heap[b5]?=J (F #[.map (J B)] 171 (0,0)))(hG:Gm L base B 0 (fun _=>[]))(bu:base<=L.heap.size)(bx:ks.length<=120)(aC:∀x∈ks,∃k:Nat,x.1.k=k/\k<1000)(au:∀k,(f k).length<=121)(aw:∀k,∀b∈f k,-1<=b.num/\b.num<=1000)(aq:∀W,rh base B L W->∀k:Nat,(∃x∈ks,x.1.k=k)->Calls Tryz.prog 99 #[P #[vg,vp],O Y k,O Y r.pin] W (ol W (f k)))(ar:En Q)(hQ:∀(cu y7 y8 y9 ct cv cx cy cz cB cC cD cF cG cH cI cJ cK cL cN cO cP cQ cR cS cT cU cV cW cX cY cZ c0 c1 c2 c3 c4 c5 c6 c7 c8 c9 da db dc dd dg dh di dj dk dl dm:V)(W:I)(N:Nat),rh base B L W->Gm W base B N (fM ks f ks.length)->N<=121*ks.length->Q (.exit 0) { tmps:=#[G (J ⟨K,0,X⟩),x1,x2,x3,x4,G (J ⟨b5,0,X⟩),x6,y7,y8,y9,aG,ct,aH,aI,aJ,aK,aL,aM,aO,aP,aQ,aR,aS,aT,aU,aV,aW,aX,Z va u vc,O Y u,cu,cv,cx,cy,cz,cB,cC,cD,cF,cG,cH,cI,cJ,cK,cL,cN,cO,cP,cQ,cR,cS,cT,cU,cV,cW,cX,cY,cZ,c0,c1,c2,c3,c4,c5,c6,c7,c8,c9,da,db,dc,dd,dg,dh,di,dj,dk,dl,dm,aY,aZ,a0,a1,a2,a3,a4],defers:=[] } W) :
  (Code.loop (Tb Tryz.f66 0)).wp Tryz.prog Q { tmps:=#[G (J ⟨K,0,X⟩),x1,x2,x3,x4,G (J ⟨b5,0,X⟩),x6,x7,x8,x9,aG,bC,aH,aI,aJ,aK,aL,aM,aO,aP,aQ,aR,aS,aT,aU,aV,aW,aX,Z va u vc,O Y u,O Y 0,bD,bE,bF,bG,bH,bI,bJ,bK,bL,bM,bN,bO,bP,bQ,bT,bU,bV,bW,bX,bY,bZ,b0,b1,b2,b3,b4,b6,b7,b8,b9,ca,cb,cc,cd,ce,cf,cg,ch,ci,cj,ck,cl,cm,cn,co,cp,cq,cr,aY,aZ,a0,a1,a2,a3,a4],defers:=[] } L:=by
 subst bB;have l:=za (show u=ks.length from s.len);have dn:u<=120:=by have:=l.o;omega
 obtain⟨ga,gn,gc,rfl⟩:=bz;obtain⟨pa,pn,ai,rfl⟩:=bA;have HS:=za z;have bj:=za s;have ao:=za aD;have H5:=za h5;have HG:=za hG;have a8:=za au;have a9:=za aw;have aj:=za aq;have HQ:=za hQ;have ad:=za ar;have bi:=za aC;have aE:B≠K/\B≠b5:=by
  obtain⟨es,bl,hm⟩:=hG.map;refine⟨fun e=>?_,fun e=>?_⟩<;>subst e
  ·rw[z]at hm;cases hm
  ·rw[h5]at hm;cases hm
 clear z s aD h5 hG au aw aq hQ ar aC bx;unfold Tb;simp only[Tryz.f66,Jb,List.append_nil,List.nil_append,List.singleton_append,List.cons_append,List.getD_cons_zero,List.getD_cons_succ];go_loopg [30] u (FV L base B ks f)
 case atStart=>exact⟨0,0,by omega,rfl,by rw[l.o];rfl,by omega,rh.refl _ _ _,HG.o⟩
 case round =>
  obtain⟨m,N,hm,rfl,rfl,hN,p,hg⟩:=hrel;rw[<-l.o]at hm;by_cases bw:m<u
  ·have z:=p.2 K _ HS.o (Ne.symm aE.1) (.inr fun cs fr e=>by cases e);have h5:=p.2 b5 _ H5.o (Ne.symm aE.2) (.inr fun cs fr e=>by cases e);have s:Ge wr (Z va u vc) ks:=bj.o.keep (p.keepT dM HG.o.notCells);have dr:=p.1.1;obtain⟨x,hx⟩:∃x,ks[m]?=J x:=⟨ks[m]'(by rw[<-l.o];exact bw),gE _⟩;have aa:=lM hx;obtain⟨sa,sn,sc,aF⟩:=ao.o x aa;obtain⟨t,ag,bv⟩:=bi.o x aa;have ac:Nc ks m=t:=by unfold Nc;rw[hx];simp[ag]
   have bt:=aj.o;obtain⟨bb,bo,rfl,dq,q⟩:=s.at' hx;obtain⟨⟨⟨nm,sh,d,de,gx,gz,wy,ax,az,sk⟩,k0,⟨xl,xh⟩,zl,zh⟩,v⟩:=x;dsimp only at ag aF;subst ag aF;unfold Ah at q;dsimp only at q;have d0:=q 0 (.string nm) rfl;have d1:=q 1 (Z sa sn sc) rfl;have d2:=q 2 (O Y d) rfl;have d3:=q 3 (O Y de) rfl;have d4:=q 4 (O Y gx) rfl;have d5:=q 5 (O Y gz) rfl;have d6:=q 6 (O Y wy) rfl;have d7:=q 7 (O Y ax) rfl;have d8:=q 8 (O Y az) rfl;have d9:=q 9 (O .u8 sk) rfl;have bm:=q 10 (O Y (t:Int)) rfl;have bp:=q 11 (O Y xl) rfl;have bq:=q 12 (O Y xh) rfl;have br:=q 13 (O Y zl) rfl;have bs:=q 14 (O Y zh) rfl;simp only[Nat.add_zero]at d0;have e1:=Aa z 1 (O Y r.pin);have e7:=Aa z 7 (Z ga gn gc);have e8:=Aa z 8 (Z pa pn ai);have zs:=Ya z;have dZ:K<wr.heap.size+1:=oM;have Hg:=za hg;have ae:=za p;have ak:=za (fun(W:I)(hW:Ba wr W)=>aj.o W (p.trans (rh.ofExt hW)) t ⟨_,aa,rfl⟩);have a7:=za z;have a5:=za h5;have an:=za s;have al:=za (a8.o t);have am:=za (a9.o t);have bk:=za (show fM ks f (m+1)=Ih (fM ks f m) t (Zf ks (f t) (f t).length) by show Ih _ _ _=_;rw[ac]);clear hx aa q z h5 s hg p ac bt;go_wp2;refine jd [(⟨K,7,X⟩,Z ga gn gc),(⟨K,8,X⟩,Z pa pn ai),(⟨wr.heap.size,10,X⟩,O Y (t:Int)),(⟨K,1,X⟩,O Y r.pin)] cA fun af=>?_;refine sN 0 ?_
   iterate 11 refine Db (h4:=Ic ad) ?_
   refine oN ?_;refine Ac (i:=11) (ak.o _ ((eR wr).alloc _).drew) ?_;rintro e w2 ⟨v8,rfl,ah,R⟩;obtain⟨ba,bn,bc,rfl⟩:=ah.i;refine⟨_,rfl,(cE af R),fun af=>?_⟩;refine sN 12 ?_
   iterate 5 refine Db (h4:=Ic ad) ?_
   refine oN ?_;refine Pb ?_;have X2:Ba wr w2:=((eR wr).alloc _).drew.trans R;have ap:=R.e (((eR _).drew).e (aN wr (F #[.string nm,Z sa sn sc,O Y d,O Y de,O Y gx,O Y gz,O Y wy,O Y ax,O Y az,O .u8 sk,O Y (t:Int),O Y xl,O Y xh,O Y zl,O Y zh] 113)));have ab:=ah.bes;have bh:=za ab;have a6:=za ap;have y:=za X2;have av:base<=w2.heap.size:=by have:=X2.size;omega
   clear af ah R X2 ap ab d0 d1 d2 d3 d4 d5 d6 d7 d8 d9 bm bp bq br bs e1 e7 e8 ak;go_wp2;refine XP w2 K b5 wr.heap.size B base N t r (Z ga gn gc) (Z pa pn ai) (Z (J ⟨bb,bo,X⟩) u vc) vj vr ks (f t) (fM ks f m) #[.string nm,Z sa sn sc,O Y d,O Y de,O Y gx,O Y gz,O Y wy,O Y ax,O Y az,O .u8 sk,O Y (t:Int),O Y xl,O Y xh,O Y zl,O Y zh] ba bn bc _ _ _ _ _ _ _ _ _ _ _ _ _ _ _ _ _ _ _ _ _ _ _ _ _ _ _ _ _ _ _ _ _ _ _ _ _ _ _ _ _ _ _ _ _ _ _ _ _ _ _ _ _ _ _ _ _ _ _ _ _ _ _ _ _ _ _ _ _ _ _ _ _ _ _ _ _ _ _ _ _ (y.o.e a7.o) (an.o.f y.o) ao.o (y.o.e a5.o) a6.o rfl bh.o al.o (Hg.o.ext y.o) oM bv av am.o (fun c a d v w h=>ad.o c a d v w h) ?_;intro dt ds du dw dx dy dz dB dC dD dE dF dG dH i64 dI dJ dK dL dN dP dQ dR dS dU dV dW dY W N' ay aB dp;have be:=za ay;have bg:=za aB;clear ay aB;go_wp2;go_roundg (u-(m+1))
   case measure=>have:=l.o;omega
   case rel =>
    refine⟨m+1,N',by rw[<-l.o];omega,by go_num,by rw[<-l.o],by have:=al.o;omega,(ae.o.trans (rh.ofExt y.o)).trans be.o,?_⟩;rw[bk.o];exact bg.o
  ·obtain rfl:m=u:=oM;have aA:Gm wr base B N (fM ks f ks.length):=by rw[<-l.o];exact hg
   have bf:=za aA;have ae:=za p;clear hg p aA;go_wp2;exact HQ.o _ _ _ _ _ _ _ _ _ _ _ _ _ _ _ _ _ _ _ _ _ _ _ _ _ _ _ _ _ _ _ _ _ _ _ _ _ _ _ _ _ _ _ _ _ _ _ _ _ _ _ _ _ wr N ae.o bf.o (by rw[<-l.o];exact hN)
end
section
open Go.RowKit Go.Shelf Go.Sort Go.Lib
attribute [local go_sem] Oper.semAt_some
def yV(w:I)(l:LP)(c d t9 a b:V)(W:I):Prop:=
 ∃i:Nat,b=O Y i/\0<i/\i<=l.length/\c=O Y (td Prod.fst (l.take i)).1/\d=O Y (td Prod.fst (l.take i)).2/\t9=O Y (td Prod.snd (l.take i)).1/\a=O Y (td Prod.snd (l.take i)).2/\Ba w W
def py w v p(h:Ab w v p.shape)(t:Fa p=true):Calls Tryz.prog 43 #[P (Dd p v)] w fun e w'=>e=.returned (.tuple #[O Y (td Prod.fst (Ca p)).1,O Y (td Prod.fst (Ca p)).2,O Y (td Prod.snd (Ca p)).1,O Y (td Prod.snd (Ca p)).2])/\Ba w w':=by
 have R:=za (fun(W:I)(hW:Ba w W)=>Ly W v p (h.f hW) t);obtain⟨-,h3,Wi⟩:=oo t;obtain⟨sa,sn,sc,rfl⟩:=h.i;unfold Dd at R ⊢;obtain⟨l,hl⟩:=gX (Ca p);rw[hl]at R h3 Wi ⊢;obtain⟨n,hn⟩:=gX l.length;rw[hn]at h3 Wi;have k:=za hn;obtain⟨⟨x0,z0⟩,K⟩:∃q,l[0]?=J q:=⟨l[0]' oM,by simp⟩;have u:=za K;clear h t hl hn K;go_in;go_upto_region 2 with (go_at_call 80;refine cM (R.o _ eA) ?_;rintro e w1 ⟨v1,rfl,j,ad⟩;obtain⟨a1,L,k1,rfl⟩:=j.i);have X1:Ba w w1:=eA;have HP:=za j.pr;obtain rfl:L=n:=by have:=j.len;rw[lL]at this;exact this.trans k.o
 obtain⟨b,o,rfl,hb,c0,c1⟩:=HP.o.at' u.o;simp only[Nat.zero_mul,Nat.add_zero]at c0 c1;have aa:=za X1;clear ad j X1 R;go_cut [7,8,9,10] (fun t7 t8 t9 ae W=>t7=O Y x0/\t8=O Y x0/\t9=O Y z0/\ae=O Y z0/\Ba w1 W)
 case first =>
  go_quiet (fail)
  all_goals go_wp2
  all_goals go_meet
  all_goals exact⟨rfl,rfl,rfl,rfl,eA⟩
 case rest =>
  obtain⟨rfl,rfl,rfl,rfl,X2⟩:=hcut;have ab:=za X2;clear c0 c1 X2;go_wp2;go_loopw [7,8,9,10,11] (yV w1 l) (fun _ _ _ _ af _=>L-(intOf af).toNat)
  case atStart=>exact⟨1,rfl,by omega,by rw[k.o];omega,by rw[fv u.o],by rw[fv u.o],by rw[fv u.o],by rw[fv u.o],ab.o⟩
  case round =>
   obtain⟨i,rfl,y,hi,rfl,rfl,rfl,rfl,hx⟩:=hrel;rw[k.o]at hi;by_cases ac:i<L
   ·obtain⟨⟨x,z⟩,hq⟩:∃q,l[i]?=J q:=⟨l[i]'(by rw[k.o];omega),by simp[k.o,ac]⟩;obtain⟨b2,o2,e2,ag,d0,d1⟩:=(HP.o.f hx).at' hq;cases e2;have g0:(0:Int)<=(i:Int):=oM;have g1:(i:Int)<(L:Int):=oM;have s1:=za (QC (f:=Prod.fst) hq y);have s2:=za (QC (f:=Prod.snd) hq y);dsimp only at d0 d1;obtain⟨⟨a,bb⟩,m⟩:∃q,td Prod.fst (l.take i)=q:=⟨_,rfl⟩;obtain⟨⟨c,d⟩,s⟩:∃q,td Prod.snd (l.take i)=q:=⟨_,rfl⟩;rw[m]at s1;rw[s]at s2;simp only[m,s];clear hq m s;by_cases h1:x<a<;>by_cases h2:bb<x<;>by_cases h3:z<c<;>by_cases h4:d<z
    all_goals
     have r1:=za s1.o;have r2:=za s2.o;have k1:td Prod.fst (l.take (i+1))=(_,_):=r1.o;have k2:td Prod.snd (l.take (i+1))=(_,_):=r2.o;simp only[h1,h2,if_true,if_false]at k1;simp only[h3,h4,if_true,if_false]at k2;have K1:=za k1;have K2:=za k2;clear k1 k2 r1 r2;go_wp2;go_roundw
     case rel=>exact⟨i+1,by go_num,by omega,by rw[k.o];omega,by rw[K1.o],by rw[K1.o],by rw[K2.o],by rw[K2.o],hx⟩
     case measure=>simp[intOf];omega
   ·obtain rfl:i=L:=oM;rw[show l.take i=l by rw[<-k.o,List.take_length]];go_wp2;exact bR (v:=.tuple #[O Y (td Prod.fst l).1,O Y (td Prod.fst l).2,O Y (td Prod.snd l).1,O Y (td Prod.snd l).2]) (by simp[results,Tryz.results43,go_sem]) rfl ⟨rfl,aa.o.trans hx⟩
end
section
open Go.RowKit Go.Shelf Go.Sort
attribute [local go_sem] Oper.semAt_some
theorem laid1_holds{g}:∀{ps done},Vc g done ps=0->∀p∈ps,ve g p=true
 | [],_,_,p,b=>by cases b
 | q::r,done,h,p,b=>by
  unfold Vc at h;by_cases a:Mf g done q=0
  ·rw[if_pos a]at h;rcases List.mem_cons.1 b with rfl|b
   ·cases hk:ve g p with
    | true=>rfl
    | false=>unfold Mf at a;rw[hk]at a;split at a<;>simp at a
   ·exact laid1_holds h p b
  ·rw[if_neg a]at h;exact absurd h a
def BS{g p}(c:Fa p=true)(a:ve g p=true):(Ld (Ga p) g).lo<(Ld (Ga p) g).hi:=by have b:=Sw c;unfold ve at a;simp only[Bool.and_eq_true,decide_eq_true_eq]at a;unfold Ld;dsimp only;omega
def QV(w:I)(g:LP)(ps:List Pl)(a:Obj)(t3:V)(W:I):Prop:=
 ∃i:Nat,t3=O Y i/\i<=ps.length/\Ba w W/\W.heap[w.heap.size]?=J a/\Vc g (ps.take i) (ps.drop i)=Vc g [] ps
def PA(b:I)(ps:List Pl)(a:ByteArray)(i:Nat)(t4:V)(W:I):Prop:=
 ∃k:Nat,t4=O Y k/\k<=i/\Ba b W/\∀j q,j<k->ps[j]?=J q->oh a q=false
def PV(w:I)(g:LP)(ps:List Pl)(a:Obj)(t5:V)(W:I):Prop:=
 ∃i:Nat,t5=O Y i/\i<=ps.length/\Ba w W/\W.heap[w.heap.size]?=J a/\Sf g (ps.take i) (ps.drop i)=Sf g [] ps
def OA(b:I)(ps:List Pl)(p:Pl)(i:Nat)(a:V)(W:I):Prop:=
 ∃k:Nat,a=O Y k/\k<=i/\Ba b W/\∀j q,j<k->ps[j]?=J q->Vf p q=false
def uE{ps:List Pl}{f i}(h:∀j q,j<i->ps[j]?=J q->f q=false):(ps.take i).any f=false:=by rw[List.any_eq_false];intro q c;obtain⟨j,b,rfl⟩:=List.getElem_of_mem c;have a:=b;rw[List.length_take]at a;have:=h j ((ps.take i)[j]) oM (by rw[List.getElem_take];exact gE _);rw[this];decide
def rG{ps:List Pl}{f i k q}(b:k<i)(c:ps[k]?=J q)(a:f q=true):(ps.take i).any f=true:=by rw[List.any_eq_true];exact⟨q,lM (i:=k) (by rw[List.getElem?_take,if_pos b];exact c),a⟩
def lR w vg vp g ps(hg:Ab w vg g)(hp:Cf w vp ps)(av:∀p∈ps,p.name.size<=1000000)(hl:g.length<=1000000):Calls Tryz.prog 21 #[P #[vg,vp]] w fun e w'=>e=.returned (O Y (Eb g ps))/\Ba w w':=by
 have aB:=za (fun W (hW:Ba w W)=>zM W vg g (hg.f hW) hl);have HG:=za hg;have HP:=za hp;have bw:=za av;have Hl:=za hl;obtain⟨ga,gn,gc,rfl⟩:=hg.i;obtain⟨pa,ac,rfl⟩:=hp.form;obtain⟨n,hn⟩:=gX ps.length;have bq:=hp.le;unfold maxLen at bq;rw[hn]at bq ⊢;have Hn:=za hn;obtain⟨R,hR⟩:=gX (Eb g ps);rw[hR];have aH:=hR;unfold Eb at aH;rw[hn]at aH;have aV:=za aH;obtain⟨gb,a2⟩:=gX (Bb g);have al:=za a2;rw[a2]at aB;clear hR aH hg hp av hl hn a2;cases gb with
 |false=>
  have e:=aV.o;rw[al.o,if_neg dM]at e;subst e;go_in;go_wp2_with(go_at_call 56;refine cM (aB.o _ eA) ?_;rintro e w1 ⟨rfl,ao⟩);go_ret;exact⟨rfl,eA⟩
 |true=>
 by_cases aM:120<n
 ·have e:=aV.o;rw[al.o,if_pos rfl,if_pos aM]at e;subst e;have h1:(120:Int)<(n:Int):=oM;go_in;go_wp2_with(go_at_call 56;refine cM (aB.o _ eA) ?_;rintro e w1 ⟨rfl,ao⟩;obtain⟨⟨bl,bo⟩,aT⟩:=Jd w ao);go_ret;exact⟨rfl,eA⟩
 have h1:¬(120:Int)<(n:Int):=oM;have aY:=aV.o;rw[al.o,if_pos rfl,if_neg aM]at aY;have aE:=za aY;have aR:g≠[]:=(Ys al.o).1;have be:=za aR;clear aY aR;go_in;go_wp2_with(go_at_call 56;refine cM (aB.o _ eA) ?_;rintro e w1 ⟨rfl,ao⟩;obtain⟨⟨bl,bo⟩,aT⟩:=Jd w ao);have X1:Ba w w1:=eA;have aP:w1.heap[w.heap.size]?=J (Obj.cells #[Value.slice ga gn gc,Value.slice pa n ac] 25 (0,0)):=ao.e (aN _ _);clear ao bl bo aT;go_loopw [3] (QV w g ps (Obj.cells #[Value.slice ga gn gc,Value.slice pa n ac] 25)) (fun t3 _=>n-(intOf t3).toNat)
 case atStart=>exact⟨0,rfl,by omega,X1,aP,by simp⟩
 case round =>
  clear X1 aP;obtain⟨i,rfl,hi,hx,x,y⟩:=hrel;rw[Hn.o]at hi;have m:=za y;have w0:=Aa x 0 (Z ga gn gc);have ab:=Aa x 1 (Z pa n ac);have wz:=Ya x;have aq:=za x;clear y x;by_cases a4:i<n
  ·obtain⟨p,an⟩:∃p,ps[i]?=J p:=⟨_,gE (by rw[Hn.o];exact a4)⟩;obtain⟨b,o,v,rfl,hb,hv,a9,t⟩:=(HP.o.f hx).at' an;have av:=bw.o p (lM an);have ap:=za (fun W (hW:Ba wr W)=>xN W v p (hv.f hW) av);have bb:=za (fun W (hW:Ba wr W) aa=>AN W _ v g p (HG.o.f (hx.trans hW)) (hv.f hW) aa be.o Hl.o);have f:=fun h0=>yF (g:=g) an h0;have l:=fun h0=>Pv (g:=g) an h0;rw[m.o]at f l;have ag:=za f;have s:=za l;have bF:=za an;obtain⟨sa,sn,sc,rfl⟩:=hv.i;obtain⟨pb,aI⟩:=gX (Fa p);obtain⟨br,aj⟩:=gX (ve g p);have bz:=za aI;have bD:=za aj;rw[aI]at ap;have ad:=za (fun W (hW:Ba wr W) aa=>bb.o W hW aa);rw[aj]at ad;have aO:Mf g (ps.take i) p=if pb=true then (if br=true then (if (ps.take i).any (oh p.name)=true then 7 else 0)else 2)else 2:=by
    unfold Mf;rw[aI,aj]
   have ai:=za aO;have g0:(0:Int)<=(i:Int):=oM;have g1:(i:Int)<(n:Int):=oM;clear aI aj aO f l bb an hv a9;obtain⟨nm,sh,d,de,gx,gz,wy,ax,az,sk⟩:=p;unfold Dd at t ap ad;dsimp only at t ap ad av;have c0:=t 0 (.string nm) rfl;have c1:=t 1 (Z sa sn sc) rfl;have c2:=t 2 (O Y d) rfl;have c3:=t 3 (O Y de) rfl;have c4:=t 4 (O Y gx) rfl;have c5:=t 5 (O Y gz) rfl;have c6:=t 6 (O Y wy) rfl;have c7:=t 7 (O Y ax) rfl;have c8:=t 8 (O Y az) rfl;have c9:=t 9 (O .u8 sk) rfl;simp only[Nat.add_zero]at c0;clear t;go_wp2;refine jd [(⟨w.heap.size,0,X⟩,Z ga gn gc),(⟨w.heap.size,1,X⟩,Z (J ⟨b,o,X⟩) n ac),(⟨b,o+i*10,X⟩,.string nm),(⟨b,o+i*10+1,X⟩,Z sa sn sc),(⟨b,o+i*10+2,X⟩,O Y d),(⟨b,o+i*10+3,X⟩,O Y de),(⟨b,o+i*10+4,X⟩,O Y gx),(⟨b,o+i*10+5,X⟩,O Y gz),(⟨b,o+i*10+6,X⟩,O Y wy),(⟨b,o+i*10+7,X⟩,O Y ax),(⟨b,o+i*10+8,X⟩,O Y az),(⟨b,o+i*10+9,X⟩,O .u8 sk)] cA fun c=>?_;refine sN 0 ?_
   iterate 5 refine Db ?_
   refine oN ?_;refine Te (i:=5) fun K hK=>?_;go_simp;refine cM (ap.o _ ((eR wr).drew)) ?_;rintro e w5 ⟨rfl,L⟩;go_wp2;refine kO hK (cE c L) (fun c=>?_);clear hK K;refine sN 6 ?_
   iterate 2 refine Db ?_
   refine oN ?_;cases pb with
   |false=>
    (have hA:Mf g (ps.take i) ⟨nm,sh,d,de,gx,gz,wy,ax,az,sk⟩=2:=by rw[ai.o];rfl);have e:R=2:=by
     have h9:=s.o (by rw[hA];decide);rw[<-aE.o,if_neg (by rw[h9,hA];decide),h9,hA]
    subst e;clear hA;refine sN 8 ?_
    (iterate 9 refine Ze ?_);refine Db ?_;refine oN ?_;refine Pb ?_;go_wp2;go_ret;exact⟨rfl,(hx.drew.trans L)⟩
   |true=>
    refine sN 8 ?_
    (iterate 7 refine Db ?_);refine oN ?_;refine Te (i:=15) fun K hK=>?_;go_simp;refine cM (ad.o w5 ((eR wr).drew.trans L) bz.o) ?_;rintro e w6 ⟨rfl,af⟩;go_wp2;refine kO hK (cE c af) (fun c=>?_);clear hK K;refine sN 16 ?_
    (iterate 2 refine Db ?_);refine oN ?_;refine Pb ?_;cases br with
    |false=>
     (have hA:Mf g (ps.take i) ⟨nm,sh,d,de,gx,gz,wy,ax,az,sk⟩=2:=by rw[ai.o];rfl);have e:R=2:=by
      have h9:=s.o (by rw[hA];decide);rw[<-aE.o,if_neg (by rw[h9,hA];decide),h9,hA]
     subst e;clear hA;go_wp2;go_ret;exact⟨rfl,((hx.drew.trans L).trans af)⟩
    |true=>
     have X6:Ba wr w6:=((eR wr).drew.trans L).trans af;have ak:=za X6;replace w0:=X6.d w0;replace ab:=X6.d ab;replace c0:=X6.d c0;have au:b<w6.heap.size:=X6.lt hb;clear c L af c1 c2 c3 c4 c5 c6 c7 c8 c9 ap ad;go_wp2;go_loopw [4] (PA w6 ps nm i) (fun t4 _=>i-(intOf t4).toNat)
     case atStart=>exact⟨0,rfl,by omega,eR _,fun j q hj=>by omega⟩
     case round =>
      obtain⟨k,rfl,hk,a,hq⟩:=hrel;have Hq:=za hq;clear hq;have XK:Ba w wr:=hx.trans (ak.o.trans a);replace w0:=a.d w0;replace ab:=a.d ab;replace c0:=a.d c0;have bA:b<wr.heap.size:=a.lt au;have bC:w.heap.size<wr.heap.size:=World.block_lt_of_cell? wr _ w0;by_cases a3:k<i
      ·obtain⟨q,ae⟩:∃q,ps[k]?=J q:=⟨_,gE (by rw[Hn.o];omega)⟩;obtain⟨b2,o2,v2,e2,a0,ay,aw,bn⟩:=(HP.o.f XK).at' ae;cases e2;have d0:=bn 0 (.string q.name) rfl;simp only[Nat.add_zero]at d0;have am:=za ae;have j0:(0:Int)<=(k:Int):=oM;have j1:(k:Int)<(i:Int):=oM;have j2:(k:Int)<(n:Int):=oM;obtain⟨qb,a6⟩:=gX (oh nm q);have bf:=za a6;obtain⟨qn,a7⟩:=gX q.name;rw[a7]at d0;(have bE:(qn.toList==nm.toList)=qb:=by rw[<-a6,<-a7];rfl);clear bn a0 ay aw ae a6 a7;go_wp2;refine jd [(⟨w.heap.size,1,X⟩,Z (J ⟨b,o,X⟩) n ac),(⟨b,o+k*10,X⟩,.string qn),(⟨b,o+i*10,X⟩,.string nm)] cA fun c=>?_;refine sN 0 ?_
       (iterate 15 refine Db ?_);refine oN ?_;refine Pb ?_;cases qb with
       |true=>
        have hA:Mf g (ps.take i) ⟨nm,sh,d,de,gx,gz,wy,ax,az,sk⟩=7:=by
         rw[ai.o,rG a3 am.o bf.o];rfl
        have e:R=7:=by
         have h9:=s.o (by rw[hA];decide);rw[<-aE.o,if_neg (by rw[h9,hA];decide),h9,hA]
        subst e;clear hA;go_wp2;go_ret;exact⟨rfl,XK.trans (eR _).drew⟩
       |false=>
        go_wp2;go_roundw
        case rel =>
         refine⟨k+1,by go_num,by omega,a.trans (eR _).drew,fun j q' hj z=>?_⟩;by_cases h:j=k
         ·subst h;rw[am.o]at z;cases z;exact bf.o
         ·exact Hq.o j q' oM z
        case measure=>simp[intOf];omega
      ·obtain rfl:k=i:=oM;have hA:Mf g (ps.take k) ⟨nm,sh,d,de,gx,gz,wy,ax,az,sk⟩=0:=by
        rw[ai.o,uE Hq.o];rfl
       go_wp2;go_roundw
       case rel=>exact⟨k+1,by go_num,by rw[Hn.o];omega,XK,(ak.o.trans a).e aq.o,by rw[<-ag.o hA]⟩
       case measure=>simp[intOf];omega
  ·obtain rfl:i=n:=oM;have aG:Vc g [] ps=0:=by
    rw[<-m.o,List.drop_of_length_le (by rw[Hn.o];exact nE _)];unfold Vc;rfl
   have aZ:=aE.o;rw[if_pos aG]at aZ;have aW:=za aZ;have bc:=za (jy aG);have bv:=za (laid1_holds aG);clear aZ aG;go_wp2;go_loopw [5] (PV w g ps (Obj.cells #[Value.slice ga gn gc,Value.slice pa i ac] 25 (0,0))) (fun t5 _=>i-(intOf t5).toNat)
   case atStart=>exact⟨0,rfl,by omega,hx,aq.o,by simp⟩
   case round =>
    clear w0 ab wz hx aq m;obtain⟨j,rfl,hj,hx,x,y⟩:=hrel;rw[Hn.o]at hj;have m:=za y;have w0:=Aa x 0 (Z ga gn gc);have ab:=Aa x 1 (Z pa i ac);have wz:=Ya x;have aq:=za x;clear y x;by_cases a4:j<i
    ·obtain⟨p,ah⟩:∃p,ps[j]?=J p:=⟨_,gE (by rw[Hn.o];exact a4)⟩;obtain⟨b,o,v,rfl,hb,hv,a9,t⟩:=(HP.o.f hx).at' ah;have aa:=bc.o p (lM ah);have bp:=bv.o p (lM ah);have aC:=za (fun W (hW:Ba wr W)=>Uv W v p (hv.f hW) aa);have aU:=za (fun W vl (hW:Ba wr W) (bB:Ab W vl (Ga p))=>Jy W vl _ (Ga p) g bB (HG.o.f (hx.trans hW)) (Dl aa).1 (Ys al.o) (Xp aa).1 (AS al.o) (BS aa bp));have f:=fun h0=>xF (g:=g) ah h0;have l:=fun h0=>vF (g:=g) ah h0;rw[m.o,aW.o]at f l;have ag:=za f;have s:=za l;have bG:=za ah;have bx:=za aa;have Hv:=za hv;obtain⟨sa,sn,sc,rfl⟩:=hv.i;obtain⟨fb,a1⟩:=gX (We (Ga p) g);(have aQ:Kf g (ps.take j) p=(fb&&!(ps.take j).any (Vf p)):=by unfold Kf;rw[a1]);have ar:=za aQ;rw[a1]at aU;have g0:(0:Int)<=(j:Int):=oM;have g1:(j:Int)<(i:Int):=oM;clear a1 aQ f l ah hv a9 aa bp;obtain⟨nm,sh,d,de,gx,gz,wy,ax,az,sk⟩:=p;unfold Dd at t aC;dsimp only at t aC;have c0:=t 0 (.string nm) rfl;have c1:=t 1 (Z sa sn sc) rfl;have c2:=t 2 (O Y d) rfl;have c3:=t 3 (O Y de) rfl;have c4:=t 4 (O Y gx) rfl;have c5:=t 5 (O Y gz) rfl;have c6:=t 6 (O Y wy) rfl;have c7:=t 7 (O Y ax) rfl;have c8:=t 8 (O Y az) rfl;have c9:=t 9 (O .u8 sk) rfl;simp only[Nat.add_zero]at c0;clear t;go_wp2;refine jd [(⟨w.heap.size,0,X⟩,Z ga gn gc),(⟨w.heap.size,1,X⟩,Z (J ⟨b,o,X⟩) i ac),(⟨b,o+j*10,X⟩,.string nm),(⟨b,o+j*10+1,X⟩,Z sa sn sc),(⟨b,o+j*10+2,X⟩,O Y d),(⟨b,o+j*10+3,X⟩,O Y de),(⟨b,o+j*10+4,X⟩,O Y gx),(⟨b,o+j*10+5,X⟩,O Y gz),(⟨b,o+j*10+6,X⟩,O Y wy),(⟨b,o+j*10+7,X⟩,O Y ax),(⟨b,o+j*10+8,X⟩,O Y az),(⟨b,o+j*10+9,X⟩,O .u8 sk)] cA fun c=>?_;refine sN 0 ?_
     (iterate 5 refine Db ?_);refine oN ?_;refine sN 6 ?_
     (iterate 2 refine Db ?_);refine oN ?_;refine Te (i:=5) fun K hK=>?_;go_simp;refine cM (aC.o _ ((eR wr).drew)) ?_;rintro e w5 ⟨v5,rfl,a8,L⟩;obtain⟨la,ln,lc,rfl⟩:=a8.i;go_wp2;refine kO hK (cE c L) (fun c=>?_);clear hK K;refine Te (i:=8) fun K hK=>?_;go_simp;refine cM (aU.o w5 _ ((eR wr).drew.trans L) a8.pr) ?_;rintro e w6 ⟨rfl,af⟩;go_wp2;refine kO hK (cE c af) (fun c=>?_);clear hK K;refine La (i:=9) ?_;refine Pb ?_;have X6:Ba wr w6:=((eR wr).drew.trans L).trans af;cases fb with
     |false=>
      have e:R=12:=s.o (by rw[ar.o];rfl);subst e;go_wp2;go_ret;exact⟨rfl,hx.trans X6⟩
     |true=>
      have ak:=za X6;replace w0:=X6.d w0;replace ab:=X6.d ab;have au:b<w6.heap.size:=X6.lt hb;replace c0:=X6.d c0;replace c1:=X6.d c1;replace c2:=X6.d c2;replace c3:=X6.d c3;replace c4:=X6.d c4;replace c5:=X6.d c5;replace c6:=X6.d c6;replace c7:=X6.d c7;replace c8:=X6.d c8;replace c9:=X6.d c9;clear c L af aC aU a8;go_wp2;go_loopw [6] (OA w6 ps ⟨nm,sh,d,de,gx,gz,wy,ax,az,sk⟩ j) (fun t6 _=>j-(intOf t6).toNat)
      case atStart=>exact⟨0,rfl,by omega,eR _,fun j q hj=>by omega⟩
      case round =>
       obtain⟨k,rfl,hk,a,hq⟩:=hrel;have Hq:=za hq;clear hq;have XK:Ba w wr:=hx.trans (ak.o.trans a);replace w0:=a.d w0;replace ab:=a.d ab;replace c0:=a.d c0;replace c1:=a.d c1;replace c2:=a.d c2;replace c3:=a.d c3;replace c4:=a.d c4;replace c5:=a.d c5;replace c6:=a.d c6;replace c7:=a.d c7;replace c8:=a.d c8;replace c9:=a.d c9;have bA:b<wr.heap.size:=a.lt au;have bC:w.heap.size<wr.heap.size:=World.block_lt_of_cell? wr _ w0;by_cases a3:k<j
       ·obtain⟨q,ae⟩:∃q,ps[k]?=J q:=⟨_,gE (by rw[Hn.o];omega)⟩;obtain⟨b2,o2,v2,e2,a0,ay,aw,u⟩:=(HP.o.f XK).at' ae;cases e2;have aS:=bc.o q (lM ae);obtain⟨aJ,aL,aK,rfl⟩:=ay.i;have aD:=za (fun W=>OQ W ⟨nm,sh,d,de,gx,gz,wy,ax,az,sk⟩ q (Z sa sn sc) (Z aJ aL aK) ⟨_,_,_,rfl⟩ ⟨_,_,_,rfl⟩);have aF:=za (fun W (hW:Ba wr W)=>vN W ⟨nm,sh,d,de,gx,gz,wy,ax,az,sk⟩ q (Z sa sn sc) (Z aJ aL aK) (Hv.o.f ((ak.o.trans a).trans hW)) (ay.f hW) bx.o aS);have am:=za ae;have j0:(0:Int)<=(k:Int):=oM;have j1:(k:Int)<(j:Int):=oM;have j2:(k:Int)<(i:Int):=oM;obtain⟨mb,a5⟩:=gX (Me ⟨nm,sh,d,de,gx,gz,wy,ax,az,sk⟩ q);obtain⟨r,hr⟩:=gX (Zi ⟨nm,sh,d,de,gx,gz,wy,ax,az,sk⟩ q);(have bm:Vf ⟨nm,sh,d,de,gx,gz,wy,ax,az,sk⟩ q=(mb&&(r==5)):=by unfold Vf;rw[a5,hr]);have aX:=za bm;rw[a5]at aD;rw[hr]at aF;clear a0 ay aw ae a5 hr bm aS;obtain⟨bs,bH,d',bi,bj,bk,bu,bg,bh,bt⟩:=q;unfold Dd at u aD aF;dsimp only at u aD aF;have d0:=u 0 (.string bs) rfl;have d1:=u 1 (Z aJ aL aK) rfl;have d2:=u 2 (O Y d') rfl;have d3:=u 3 (O Y bi) rfl;have d4:=u 4 (O Y bj) rfl;have d5:=u 5 (O Y bk) rfl;have d6:=u 6 (O Y bu) rfl;have d7:=u 7 (O Y bg) rfl;have d8:=u 8 (O Y bh) rfl;have d9:=u 9 (O .u8 bt) rfl;simp only[Nat.add_zero]at d0;clear u;go_wp2;refine jd [(⟨w.heap.size,1,X⟩,Z (J ⟨b,o,X⟩) i ac),(⟨b,o+j*10,X⟩,.string nm),(⟨b,o+j*10+1,X⟩,Z sa sn sc),(⟨b,o+j*10+2,X⟩,O Y d),(⟨b,o+j*10+3,X⟩,O Y de),(⟨b,o+j*10+4,X⟩,O Y gx),(⟨b,o+j*10+5,X⟩,O Y gz),(⟨b,o+j*10+6,X⟩,O Y wy),(⟨b,o+j*10+7,X⟩,O Y ax),(⟨b,o+j*10+8,X⟩,O Y az),(⟨b,o+j*10+9,X⟩,O .u8 sk),(⟨b,o+k*10,X⟩,.string bs),(⟨b,o+k*10+1,X⟩,Z aJ aL aK),(⟨b,o+k*10+2,X⟩,O Y d'),(⟨b,o+k*10+3,X⟩,O Y bi),(⟨b,o+k*10+4,X⟩,O Y bj),(⟨b,o+k*10+5,X⟩,O Y bk),(⟨b,o+k*10+6,X⟩,O Y bu),(⟨b,o+k*10+7,X⟩,O Y bg),(⟨b,o+k*10+8,X⟩,O Y bh),(⟨b,o+k*10+9,X⟩,O .u8 bt)] cA fun c=>?_;refine sN 0 ?_
        (iterate 10 refine Db ?_);refine oN ?_;refine Te (i:=10) fun K hK=>?_;go_simp;refine cM (aD.o wr.drew) ?_;rintro e w7 ⟨rfl,aA⟩;go_wp2;refine kO hK (cE c aA) (fun c=>?_);clear hK K;refine La (i:=11) ?_;cases mb with
        |false=>
         refine sN 12 ?_
         (iterate 12 refine Ze ?_);refine Db ?_;refine oN ?_;refine Pb ?_;go_wp2;refine⟨?_,?measure1⟩
         repeat apply Exists.intro
         refine⟨?rel1,rfl⟩
         case rel1 =>
          refine⟨k+1,by go_num,by omega,a.trans ((eR _).drew.trans aA),fun j q' hj z=>?_⟩;by_cases h:j=k
          ·subst h;rw[am.o]at z;cases z;rw[aX.o];rfl
          ·exact Hq.o j q' oM z
         case measure1=>simp[intOf];omega
        |true=>
         refine sN 12 ?_
         (iterate 10 refine Db ?_);refine oN ?_;refine Te (i:=22) fun K hK=>?_;go_simp;refine cM (aF.o w7 ((eR wr).drew.trans aA)) ?_;rintro e w8 ⟨rfl,ba⟩;go_wp2;refine kO hK (cE c ba) (fun c=>?_);clear hK K;refine sN 23 ?_
         (iterate 2 refine Db ?_);refine oN ?_;refine Pb ?_;by_cases h5:r=5
         ·have e:R=12:=s.o (by rw[ar.o,rG a3 am.o (by rw[aX.o,h5];rfl)];rfl);subst e h5;go_wp2;go_ret;exact⟨rfl,XK.trans (((eR _).drew.trans aA).trans ba)⟩
         ·go_wp2;refine⟨?_,?measure3⟩
          repeat apply Exists.intro
          refine⟨?rel3,rfl⟩
          case rel3 =>
           refine⟨k+1,by go_num,by omega,a.trans (((eR _).drew.trans aA).trans ba),fun j q' hj z=>?_⟩;by_cases h:j=k
           ·subst h;rw[am.o]at z;cases z;rw[aX.o,beq_false_of_ne h5];rfl
           ·exact Hq.o j q' oM z
          case measure3=>simp[intOf];omega
       ·obtain rfl:k=j:=oM;have hA:Kf g (ps.take k) ⟨nm,sh,d,de,gx,gz,wy,ax,az,sk⟩=true:=by
         rw[ar.o,uE Hq.o];rfl
        have hS:=ag.o hA;go_wp2;go_roundw
        case rel=>exact⟨k+1,by go_num,by rw[Hn.o];omega,XK,(ak.o.trans a).e aq.o,by rw[aW.o];exact hS.symm⟩
        case measure=>simp[intOf];omega
    ·obtain rfl:j=i:=oM;have e:R=0:=by
      rw[<-aW.o,<-m.o,List.drop_of_length_le (by rw[Hn.o];exact nE _)];unfold Sf;rfl
     subst e;go_wp2;go_ret;exact⟨rfl,hx⟩
end
section
open Go.RowKit Go.Shelf Go.Maps Go.Sort Go.Lib
attribute [local go_sem] Oper.semAt_some
def Ce(n:Nat)(und:Nat->List Int)(ks:List (JS×V)):Nat->List Int
 | 0=>List.replicate n 0
 | m+1=>(Ce n und ks m).set (Nc ks m) (pe (Ce n und ks m) (und (Nc ks m))+1)
structure tl (n:Nat) (und:Nat->List Int) (ks:List (JS×V)):Prop where
 known:∀m,m<ks.length->∀z∈und (Nc ks m),0<=z/\z<n/\(Ce n und ks m).getD z.toNat 0≠0
 fresh:∀m,m<ks.length->(Ce n und ks m).getD (Nc ks m) 0=0
 bound:∀m,m<=ks.length->∀v∈Ce n und ks m,0<=v/\v<=1000
def Co(w:I)(a b B base N go c n:Nat)(und:Nat->List Int)(ks:List (JS×V))(d:V)(m:Nat)(W:I):Prop:=
 Ba w W/\W.heap[a]?=J (F #[Z (J ⟨go,0,X⟩) n n] 47 (0,0))/\W.heap[b]?=J (F #[.map (J B)] 171 (0,0))/\Gm W base B N und/\
  Ea 3 1 W w.heap.size (Z (J ⟨go,0,X⟩) n n) ((Ce n und ks m).map ic)/\Ea 113 15 W c d (ks.map jc)
def Co.ext{w a b B base N go c n und ks d m W W'}(h:Co w a b B base N go c n und ks d m W)(k:Ba W W'):Co w a b B base N go c n und ks d m W':=
 ⟨h.1.trans k,k.e h.2.1,k.e h.2.2.1,h.2.2.2.1.ext k,h.2.2.2.2.1.ext k,h.2.2.2.2.2.ext k⟩
def Co.step{w f i B base N go p n und ks v m W}(h:Co w f i B base N go p n und ks v m W)(t:tl n und ks)(R:m<ks.length){x}(hx:ks[m]?=J x)(hv:∃a n c,x.2=Z a n c){k:Nat}(L:x.1.k=k)(u:k<n)(hn:n<=120)(hN:N<1000000)(b:w.heap.size<=go/\go<base/\B≠go/\f≠go/\i≠go/\go<p):Calls Tryz.prog 102 #[P (Ah x),G (J ⟨i,0,X⟩),G (J ⟨f,0,X⟩)] W fun e w'=>e=.returned (.bool true)/\Co w f i B base N go p n und ks v (m+1) w':=by
 obtain⟨h1,q,s,z,h5,h6⟩:=h;have d:Nc ks m=k:=by unfold Nc;rw[hx];simp[L]
 have K:=t.known m R;have y:=t.fresh m R;rw[d]at K y;refine(TD W x i f B base w.heap.size N go n und (Ce n und ks m) k L hv s q z hN h5 b.2.1 b.2.2.1 u hn (t.bound m oM) y K ⟨b.2.2.2.2.1,b.2.2.2.1⟩).mono ?_;rintro e w' ⟨rfl,l,ho⟩;refine⟨rfl,?_,(l.block f (Ya q) (by simpa using b.2.2.2.1)).trans q,(l.block i (Ya s) (by simpa using b.2.2.2.2.1)).trans s,z.keptLow l (by simpa using b.2.2.1) (fun j hj=>by cases hj;exact b.2.1),?_,⟨h6.1,h6.2.kept l ?_⟩⟩
 ·exact Rp h1 l b.1
 ·rw[Ce,d];exact ho
 ·by_cases h9:v.ownBlock=X
  ·exact .inl h9
  ·right
   intro e;have:=(h6.lt go e).1;omega
def GV(w:I)(b f B base N go i n:Nat)(und:Nat->List Int)(ks:List (JS×V))(e:V)(d:Nat)(t4:V)(W:I):Prop:=
 (d=1/\t4=e/\Co w b f B base N go i n und ks e 0 W)\/(d=0/\∃a c,t4=Z a 0 c/\Ba w W/\W.heap[b]?=J (F #[Z (J ⟨go,0,X⟩) n n] 47 (0,0))/\Ea 3 1 W w.heap.size (Z (J ⟨go,0,X⟩) n n) ((Ce n und ks ks.length).map ic))
def Gm.made2(w:I){base}(j:w.heap.size<base):Gm (w.alloc (.map #[] 0)) base w.heap.size 0 (fun _=>[]):=by obtain⟨D,⟨k,a,b,d,e,f,l,h6,m⟩,i⟩:=Gm.made w;have c:(w.alloc (.map #[] 0)).heap[w.heap.size]?=J (.map #[] 0):=(MapKept.heap_alloc w _).1;rw[c]at b;cases b;exact⟨D,⟨#[],0,c,⟨by simp,d.stamped,by simp⟩,e,by simpa using f,j,by simp,by simp⟩,i⟩
def Ea.crk{T k W0 W base B a v cs}(h:Ea T k W0 a v cs)(m:rh base B W0 W)(l:∀j,v.ownBlock=J j->j≠B/\(j<base\/T≠3)):Ea T k W a v cs:=by
 obtain⟨i,q,c⟩:=h;refine⟨i,q,?_⟩;rcases c with c|⟨g,cap,cur,hv,n,p,r⟩
 ·exact .inl c
 ·obtain⟨d,b⟩:=l g (by rw[hv];rfl);refine .inr ⟨g,cap,cur,hv,n,m.2 g _ p d ?_,r⟩;rcases b with b|b
  ·exact .inl b
  ·exact .inr fun f s e=>by cases e;exact b rfl
end
section
open Go.RowKit
def Mg(o:List Int)(L:List Int):Bool:=!L.any fun z=>o.getD z.toNat 0==0
def ue(und:Nat->List Int):List Int->List Nat->List Int×List Nat
 | o,[]=>(o,[])
 | o,k::r=>if Mg o (und k)=true then ue und (o.set k (pe o (und k)+1)) r else ((ue und o r).1,k::(ue und o r).2)
def Gz und:∀ A B  o ,ue und o (A++B)=((ue und (ue und o A).1 B).1,(ue und o A).2++(ue und (ue und o A).1 B).2)
 | [],B,o=>by simp[ue]
 | k::A,B,o=>by
  rw[List.cons_append,ue,ue];split
  ·exact Gz und A B _
  ·rw[Gz und A B o];rfl
def nJ{os M}(a:0<=M)(b:∀v∈os,v<=M) L:pe os L<=M:=by
 unfold pe;have:∀(L:List Int)(o:Int),o<=M->L.foldl (fun o z=>max o (os.getD z.toNat 0)) o<=M:=by
  intro L;induction L with
  | nil=>intro o h;exact h
  | cons z r c =>
   intro o h;rw[List.foldl_cons];refine c _ ?_;have:os.getD z.toNat 0<=M:=by
    rw[gD];cases h9:os[z.toNat]? with
    | none=>exact a
    | some v=>exact b v (lM h9)
   omega
 exact this L 0 a
def OS os L:0<=pe os L:=by
 unfold pe;have:∀(L:List Int)(o:Int),0<=o->0<=L.foldl (fun o z=>max o (os.getD z.toNat 0)) o:=by
  intro L;induction L with
  | nil=>intro o h;exact h
  | cons z r a=>intro o h;rw[List.foldl_cons];exact a _ oM
 exact this L 0 (Int.le_refl _)
def jF{os a L}(h:∀z∈L,a.getD z.toNat 0=os.getD z.toNat 0):pe a L=pe os L:=by
 unfold pe;have:∀(L:List Int),(∀z∈L,a.getD z.toNat 0=os.getD z.toNat 0)->∀o:Int,L.foldl (fun o z=>max o (a.getD z.toNat 0)) o=L.foldl (fun o z=>max o (os.getD z.toNat 0)) o:=by
  intro L;induction L with
  | nil=>intro _ o;rfl
  | cons z r c =>
   intro h o;rw[List.foldl_cons,List.foldl_cons,h z sM];exact c (fun z b=>h z (mC _ b)) _
 exact this L h 0
def BT{l:List Int}{k v}(h:k<l.length):(l.set k v).getD k 0=v:=by rw[gD,List.getElem?_set_self h];rfl
def vw{l:List Int}{k j v}(h:k≠j):(l.set k v).getD j 0=l.getD j 0:=by rw[gD,gD,List.getElem?_set_ne h]
def sj{o L}:Mg o L=true ↔ ∀z∈L,o.getD z.toNat 0≠0:=by unfold Mg;simp
structure Bl (n:Nat) (und:Nat->List Int) (K:List Nat) (o:List Int) (L:List Nat):Prop where
 len:o.length=n
 sub:∀k∈L,k∈K
 nd:L.Nodup
 zero:∀k∈L,o.getD k 0=0
 done:∀k∈K,k ∉ L->o.getD k 0=pe o (und k)+1/\∀z∈und k,o.getD z.toNat 0≠0
 off:∀k,k ∉ K->o.getD k 0=0
 bd:∀v∈o,0<=v/\v+L.length<=K.length
def Bl.start n und{K}(h:K.Nodup):Bl n und K (List.replicate n 0) K:=by
 have b:∀k,(List.replicate n (0:Int)).getD k 0=0:=by
  intro k;rw[gD,List.getElem?_replicate];split<;>rfl
 refine⟨by simp,fun k a=>a,h,fun k _=>b k,fun k a c=>absurd a c,fun k _=>b k,fun v hv=>?_⟩;have:=List.eq_of_mem_replicate hv;omega
def Bl.go{n und K o A C k}(h:Bl n und K o (A++k::C))(hk:k<n)(hn:Mg o (und k)=true):Bl n und K (o.set k (pe o (und k)+1)) (A++C):=by
 have s:k∈A++k::C:=sM;have h0:=h.zero k s;have R:=sj.1 hn;have y:k ∉ A++C:=by
  have:=h.nd;rw[List.nodup_append]at this;obtain⟨u,p,w⟩:=this;rw[List.nodup_cons]at p;intro d;rcases List.mem_append.1 d with d|d
  ·exact w k d k sM rfl
  ·exact p.1 d
 have i:∀j,j∈A++C->j∈A++k::C:=by
  intro j c;rcases List.mem_append.1 c with c|c
  ·exact List.mem_append.2 (.inl c)
  ·exact List.mem_append.2 (.inr (mC _ c))
 have f:∀(L:List Int),(∀z∈L,o.getD z.toNat 0≠0)->∀v,(∀z∈L,(o.set k v).getD z.toNat 0=o.getD z.toNat 0):=by
  intro L hL v z m;refine vw ?_;rintro rfl;exact hL z m h0
 refine⟨by rw[List.length_set];exact h.len,fun j c=>h.sub j (i j c),?_,fun j c=>?_,fun j c q=>?_,fun j c=>?_,fun v hv=>?_⟩
 ·have:=h.nd;rw[List.nodup_append]at this ⊢;obtain⟨u,p,w⟩:=this;rw[List.nodup_cons]at p;exact⟨u,p.2,fun a ha b hb=>w a ha b (mC _ hb)⟩
 ·rw[vw (fun e=>y (by rw[e];exact c))];exact h.zero j (i j c)
 ·by_cases l:j=k
  ·subst l;rw[BT (by rw[h.len];exact hk),jF (f _ R _)];exact⟨rfl,fun z m=>by rw[f _ R _ z m];exact R z m⟩
  ·have x:j ∉ A++k::C:=by
    intro d;rcases List.mem_append.1 d with d|d
    ·exact q (List.mem_append.2 (.inl d))
    ·rcases List.mem_cons.1 d with d|d
     ·exact l d
     ·exact q (List.mem_append.2 (.inr d))
   obtain⟨W,t⟩:=h.done j c x;rw[vw (fun e=>l e.symm),jF (f _ t _)];exact⟨W,fun z m=>by rw[f _ t _ z m];exact t z m⟩
 ·rw[vw (fun e=>c (by rw[<-e];exact h.sub k s))];exact h.off j c
 ·have hl:(A++k::C).length=(A++C).length+1:=by simp;omega
  rcases List.mem_or_eq_of_mem_set hv with hv|rfl
  ·have:=h.bd v hv;omega
  ·have u:=OS o (und k);have hM:(0:Int)<=(K.length:Int)-(A++k::C).length:=by
    cases ho:o with
    | nil=>rw[ho]at h;have:=h.len;simp at this;omega
    | cons v r=>have:=h.bd v (by rw[ho];simp);omega
   have p:=nJ (os:=o) hM (fun v hv=>by have:=h.bd v hv;omega) (und k);omega
def Bl.pass{n und K}(a:∀k∈K,k<n) T:∀ L A  o ,Bl n und K o (A++(L++T))->Bl n und K (ue und o L).1 (A++((ue und o L).2++T))
 | [],A,o,h=>by simpa[ue] using h
 | k::r,A,o,h=>by
  rw[ue];split
  ·rename_i hk;exact Bl.pass a T r A _ (h.go (a k (h.sub k (by simp))) hk)
  ·have b:Bl n und K o ((A++[k])++(r++T)):=by simpa using h
   have:=Bl.pass a T r (A++[k]) o b;simpa using this
end
section
open Go.RowKit Go.Shelf Go.Maps Go.Sort Go.Lib
attribute [local go_sem] Oper.semAt_some
def Mh(x:JS×V):Nat:=x.1.k.toNat
def Ng(js:List (JS×V)):List Nat:=js.map Mh
def Th(und:Nat->List Int)(o:List Int)(js:List (JS×V))(m:Nat):List Int:=(ue und o ((Ng js).take m)).1
def zn(und:Nat->List Int)(o:List Int)(js:List (JS×V))(m:Nat):Bool:=match js[m]? with|some x=>Mg (Th und o js m) (und (Mh x))|none=>false
def DP{und o js m x}(h:js[m]?=J x):Th und o js (m+1)=if zn und o js m=true then (Th und o js m).set (Mh x) (pe (Th und o js m) (und (Mh x))+1)else Th und o js m:=by
 have a:(Ng js)[m]?=J (Mh x):=by unfold Ng;rw[lP,h];rfl
 unfold zn;rw[h];dsimp only;unfold Th;rw[ze _ _ _ a,Gz];simp only[ue];split<;>rfl
def tL{a b c row}(h:Ba a b)(g:b.grownBy c row)(f:∀j,row=J j->a.heap.size<=j):Ba a c:=
 ⟨g.os.trans h.os,g.tape.trans h.tape,g.output.trans h.output,nT h.size g.size,fun i d=>(g.block i (Nat.lt_of_lt_of_le d h.size) (fun e=>by have:=f i e.symm;omega)).trans (h.block d)⟩
def Wn(w:I)(a b B base N go n:Nat)(und:Nat->List Int)(o:List Int)(js:List (JS×V))(m:Nat)(W:I):Prop:=
 Ba w W/\W.heap[a]?=J (F #[Z (J ⟨go,0,X⟩) n n] 47 (0,0))/\W.heap[b]?=J (F #[.map (J B)] 171 (0,0))/\Gm W base B N und/\
  Ea 3 1 W w.heap.size (Z (J ⟨go,0,X⟩) n n) ((Th und o js m).map ic)
def Wn.ext{w a b B base N go n und o js m W W'}(h:Wn w a b B base N go n und o js m W)(k:Ba W W'):Wn w a b B base N go n und o js m W':=
 ⟨h.1.trans k,k.e h.2.1,k.e h.2.2.1,h.2.2.2.1.ext k,h.2.2.2.2.ext k⟩
def Wn.grown{w b c B base N go n f und o js m W W' row}(h:Wn w b c B base N go n und o js m W)(d:W.grownBy W' row)(a:∀j,row=J j->f<=j/\j<B)(t:w.heap.size<f/\go<f/\b<f)(u:B<base/\B<c):Wn w b c B base N go n und o js m W':=by
 obtain⟨k,l,p,s,q⟩:=h;have v:=k.size;refine⟨tL k d (fun j i=>by have:=(a j i).1;omega),(d.block b (Ya l) (fun e=>?_)).trans l,(d.block c (Ya p) (fun e=>?_)).trans p,s.keptLow d (fun e=>?_) (fun j i=>by have:=(a j i).2;omega),⟨q.1,q.2.kept d (.inr fun e=>?_)⟩⟩
 ·have:=a b e.symm;omega
 ·have:=a c e.symm;omega
 ·have:=a B e.symm;omega
 ·have:=a go e.symm;omega
def Wn.cw{w s t B base N go gl n und K o js vl}(hI:Bl n und K o (Ng js))(ab:∀x∈js,x.1.k=(Mh x:Int))(ac:∀x∈js,∃a n c,x.2=Z a n c)(hK:∀k∈K,k<n)(hn:n<=120)(ai:K.length<=120)(p:∀k∈K,∀z∈und k,0<=z/\z<n)(hN:N<1000000)(f:w.heap.size<=go/\go<base/\B≠go/\go<s/\t≠go/\go<gl):AV js t s gl vl (Wn w s t B base N go n und o js) (zn und o js):=by
 intro m W j hS y;obtain⟨h1,R,h3,h4,h5⟩:=hS;have L:=lM y;have hm:=(lS.1 y).1;have hk:=ab j L;have hP:=Bl.pass hK ((Ng js).drop m) ((Ng js).take m) [] o (by simpa using hI);rw[List.nil_append]at hP;have ae:Mh j∈(Ng js).drop m:=by
  have e:(Ng js)[m]?=J (Mh j):=by unfold Ng;rw[lP,y];rfl
  exact lM (i:=0) (by rw[List.getElem?_drop];simpa using e)
 have aa:=List.mem_append.2 (Or.inr (a:=Mh j∈(ue und o ((Ng js).take m)).2) ae);have h0:=hP.zero _ aa;have l:=hP.sub _ aa;have ak:=Ya R;have ha:zn und o js m=Mg (Th und o js m) (und (Mh j)):=by unfold zn;rw[y]
 have d:=DP (und:=und) (o:=o) y;have ah:∀v∈Th und o js m,0<=v/\v<=1000:=fun v hv=>by have:=hP.bd v hv;omega
 rw[ha]at d ⊢;cases hb:Mg (Th und o js m) (und (Mh j))with
 |true=>
  rw[hb]at d;rw[if_pos rfl]at d;have af:=sj.1 hb;refine(TD W j t s B base w.heap.size N go n und (Th und o js m) (Mh j) hk (ac j L) h3 R h4 hN h5 f.2.1 f.2.2.1 (hK _ l) hn ah h0 (fun z hz=>⟨(p _ l z hz).1,(p _ l z hz).2,af z hz⟩) ⟨f.2.2.2.2.1,by omega⟩).mono ?_;rintro e w' ⟨rfl,u,ho⟩;refine⟨rfl,⟨Rp h1 u f.1,(u.block s (Ya R) (by simp;omega)).trans R,(u.block t (Ya h3) (by simpa using f.2.2.2.2.1)).trans h3,h4.keptLow u (by simpa using f.2.2.1) (fun j y=>by cases y;exact f.2.1),?_⟩,fun ys hy=>⟨hy.1,hy.2.kept u ?_⟩,u.size,fun b o q aj=>(u.block b (Ya q) (by simp;omega)).trans q⟩
  ·rw[d];exact ho
  ·by_cases h9:vl.ownBlock=X
   ·exact .inl h9
   ·right
    intro e;have:=(hy.lt go e).1;omega
 |false=>
  rw[hb]at d;rw[if_neg sM]at d;have ag:∃z∈und (Mh j),(Th und o js m).getD z.toNat 0=0:=by
   unfold Mg at hb;simpa using hb
  refine(jJ W j t s B base w.heap.size N go n und (Th und o js m) (Mh j) hk (ac j L) h3 R h4 hN h5 (hK _ l) hn (p _ l) ag).mono ?_;rintro e w' ⟨rfl,hx⟩;refine⟨rfl,?_,fun ys hy=>hy.ext hx,hx.size,fun b o q _=>hx.e q⟩;have ad:=Wn.ext (⟨h1,R,h3,h4,h5⟩:Wn w s t B base N go n und o js m W) hx;obtain⟨g1,g2,g3,g4,g5⟩:=ad;exact⟨g1,g2,g3,g4,by rw[d];exact g5⟩
end
section
open Go.RowKit Go.Shelf Go.Maps Go.Sort Go.Lib
def Ve(g:LP)(ps:List Pl)(pin:Int)(k:Nat):List Be:=match ps[k]? with|some p=>Xe g ps k p pin (ps.length+1)|none=>[]
def FF{g ps a p pin b c}(h:Gb g ps a p pin b=J c):c.num=b:=by
 have d:∀t,Pg p t b pin=J c->c.num=b:=fun t h=>by
  unfold Pg at h;split at h
  ·cases hr:Wc (Ld (Ga p) t) pin with
   | none=>rw[hr]at h;cases h
   | some o=>rw[hr]at h;cases h;rfl
  ·cases h
 unfold Gb at h;split at h
 ·cases h
 ·split at h
  ·exact d _ h
  ·split at h
   ·cases h
   ·split at h
    ·exact d _ h
    ·cases h
def LB{g ps pin}(e:ps.length<=120) k:(Ve g ps pin k).length<=121/\∀b∈Ve g ps pin k,-1<=b.num/\b.num<=1000:=by
 unfold Ve;cases h:ps[k]? with
 | none=>exact⟨by simp,fun b a=>by simp at a⟩
 | some p =>
  refine⟨nT (ME _ _ _ _ _ _) oM,fun b a=>?_⟩;unfold Xe at a;obtain⟨i,d,c⟩:=List.mem_filterMap.1 a;rw[List.mem_range]at d;have:=FF c;omega
def Ay{r ps}{ks:List (JS×V)}(h:ks.map Prod.fst=Kb r ps){x}(f:x∈ks):∃k:Nat,x.1.k=k/\k<ps.length:=by have c:x.1∈Kb r ps:=h▸List.mem_map_of_mem f;unfold Kb at c;have d:=(List.mem_filter.1 c).1;obtain⟨i,a⟩:=List.getElem?_of_mem d;have b:=(lS.1 a).1;rw[ko]at b;rw[yr (gE b)]at a;have e:=Option.some.inj a;exact⟨i,by rw[<-e];rfl,b⟩
def Jp(w:I)(ps:List Pl)(r:Ru)(g:LP)(e:Ending)(w':I):Prop:=
 ∃v ks,e=.returned (.tuple #[v,O Y 0])/\ks.map Prod.fst=Kb r ps/\Ud w' v (Ce ps.length (fM ks (Ve g ps r.pin) ks.length) ks ks.length)/\Ba w w'
end
section
open Go.RowKit Go.Shelf Go.Maps Go.Sort Go.Lib
attribute [local go_sem] Oper.semAt_some
def pS w sb r vg vp vs vj vr ks L rs n l(hS:Sv w sb r vg vp vs vj vr ks L rs)(aM:∃a n c,vg=Z a n c)(aO:∃a c,vp=Z a n c)(hn:n<=120)(aD:0<ks.length)(aL:ks.length<=120)(ai:∀j∈ks,∃a n c,j.2=Z a n c)(aB:∀x∈ks,∃k:Nat,x.1.k=k/\k<n)(ax:∀k,(l k).length<=121)(az:∀k,∀b∈l k,-1<=b.num/\b.num<=1000)(au:∀W,Ba w W->∀k:Nat,(∃x∈ks,x.1.k=k)->Calls Tryz.prog 99 #[P #[vg,vp],O Y k,O Y r.pin] W (ol W (l k)))(hP:tl n (fM ks l ks.length) ks):Calls Tryz.prog 66 #[G (J ⟨sb,0,X⟩)] w fun e w'=>∃v,e=.returned v/\Ud w' v (Ce n (fM ks l ks.length) ks ks.length)/\Ba w w':=by
 have aj:=hS.skin;have am:=za (fun(W:I)(hW:Ba w W)=>iQ W vs ks (aj.f hW) aD ai oM);obtain⟨pa,aE,rfl⟩:=aO;obtain⟨ga,gn,gc,rfl⟩:=aM;obtain⟨va,vn,vc,rfl⟩:=Ma aj;have hb:=hS.blk;have c8:=Aa hb 8 (Z pa n aE);have c9:=Aa hb 9 (Z va vn vc);have zs:=Ya hb;have aS:sb<w.heap.size+1:=oM;have aT:sb<w.heap.size+1+1:=oM;have HP:=za hP;have al:=za au;have HS:=za hS;have ag:=za ai;have ar:=za aB;have ap:=za ax;have aq:=za az;have aY:=@run_makeMap Tryz.prog;have aX:∀(fn:Fn)(first cap:Array V)(w:I),(Instr.makeFunc fn first cap).run Tryz.prog w = .ok (.func fn first cap) w:=fun _ _ _ _=>rfl;obtain⟨R,hR⟩:∃R:Ending->I->Prop,(fun e w'=>∃v,e=.returned v/\Ud w' v (Ce n (fM ks l ks.length) ks ks.length)/\Ba w w')=R:=⟨_,rfl⟩;rw[hR];have HR:=za hR;clear aj hb hP au hS ai aB ax az hR;go_in;go_wp2_with(first|(at_make;refine SG (T:=3) (t:=47) (z:=O Y 0) (k:=1) (bytes:=8) (zs:=[O Y 0]) (n:=n) gw rfl rfl dM Tryz.underlying47 rfl _ _ rfl _ rfl rfl rfl oM ?_;intro a0 aa)|(go_at_call 98;refine cM (am.o _ eA) ?_;rintro e p ⟨v2,rfl,f,u⟩;obtain⟨la,ln,lc,rfl⟩:=f.i;obtain⟨aH,aI⟩:=u.cells;(have z2:=u.size);(simp only[wZ]at z2);(have aP:sb<p.heap.size:=oM);(have aQ:sb<p.heap.size+1:=oM);(have aR:sb<p.heap.size+1+1:=oM)));have X2:Ba w p:=(((eR w).alloc _).alloc _).trans u;have K3:p.heap[w.heap.size+1]?=J (F #[Z (J ⟨w.heap.size,0,X⟩) n n] 47 (0,0)):=u.e (mc _ _ _ sM);have O1:Ea 3 1 p w.heap.size (Z (J ⟨w.heap.size,0,X⟩) n n) ((List.replicate n (0:Int)).map ic):=by
  have:=aa.ext (((eR _).alloc (F #[Z (J ⟨w.heap.size,0,X⟩) n n] 47)).trans u);rw[List.map_replicate];exact this
 obtain⟨gl,aJ⟩:=gX (w.heap.size+1+1);have O2:Ea 113 15 p gl (Z la ln lc) (ks.map jc):=by rw[<-aJ];simpa using f
 have aC:ln=ks.length:=by have:=f.len;rw[lL]at this;exact this
 have aF:=za aC;obtain⟨B,hB⟩:=gX p.heap.size;obtain⟨W4,q⟩:=gX (((p.alloc (.map #[] 0)).alloc (F #[.map (J p.heap.size)] 171)));have y:Ba p W4:=by rw[<-q];exact((eR p).alloc _).alloc _
 have G4:Gm W4 (B+1+1) B 0 (fun _=>[]):=by
  have h:=(Gm.made2 p (base:=p.heap.size+1+1) oM).ext (((eR _).alloc (F #[.map (J p.heap.size)] 171)));rw[q,hB]at h;exact h
 have K5:W4.heap[B+1]?=J (F #[.map (J B)] 171 (0,0)):=by rw[<-q,<-hB];exact mc _ _ _ sM
 have s4:W4.heap.size=B+1+1:=by rw[<-q,<-hB];simp
 have zB:w.heap.size+1+1<=B:=oM;rw[q];simp only[hB];have ab:=za X2;have i:=za y;have an:=za (y.e K3);have ad:=za K5;have ao:=za (O1.ext y);have ae:=za (O2.ext y);clear aa f u X2 K3 O1 O2 aC hB q y K5 aH aI z2 aP aQ aR c8 c9 zs aS aT am;refine WP W4 sb (B+1) B (B+1+1) r (Z ga gn gc) (Z pa n aE) (Z va vn vc) vj vr ks l va vn vc _ _ _ _ _ _ _ _ _ _ _ _ _ _ _ _ _ _ _ _ _ _ _ _ _ _ _ _ _ _ _ _ _ _ _ _ _ _ _ _ _ _ _ _ _ _ _ _ _ _ _ _ _ _ _ _ _ _ _ _ _ _ _ _ _ _ _ _ _ _ _ _ _ _ _ _ _ _ _ _ _ _ rfl ⟨_,_,_,rfl⟩ ⟨_,_,_,rfl⟩ (i.o.e (ab.o.e HS.o.blk)) ((HS.o.skin.f ab.o).f i.o) ag.o ad.o G4 oM aL (fun x hx=>by obtain⟨k,h1,h2⟩:=ar.o x hx;exact⟨k,h1,by omega⟩) ap.o aq.o (fun W hW k hk=>al.o W (hW.ext (ab.o.trans i.o) oM oM) k hk) (fun c a d v w h=>by cases d<;>exact h) ?_;intro a2 y7 y8 y9 a1 a3 a4 a5 a6 a7 a8 a9 ba bb bc be bf bg bh bi bj bk bl bm bn bo bp bq br bs bt bu bv bw bx bz bA bB bC bD bE bF bG bH bI bJ bK bL bM bN bO bP bQ W N s ah aV;obtain⟨ak,ac⟩:=gX (fM ks l ks.length);rw[ac]at ah HP HR;have aw:Ba w W:=s.ext (ab.o.trans i.o) oM oM;have af:=za (show Co w (w.heap.size+1) (B+1) B (B+1+1) N w.heap.size gl n ak ks (Z la ln lc) 0 W from
  ⟨aw,s.2 _ _ an.o oM (.inl oM),s.2 _ _ ad.o oM (.inr fun cs fr e=>by cases e),ah,ao.o.crk s (fun j K=>by
   have:j=w.heap.size:=by simpa[Value.ownBlock] using K.symm
   exact⟨by omega,.inl oM⟩),ae.o.crk s (fun j K=>⟨by
   intro e;subst e;have h9:=ae.o;rcases h9.2.2 with ⟨h1,_⟩|⟨g,cap,cur,hv,_,hh,_⟩
   ·rw[h1]at K;cases K
   ·rw[hv]at K;cases K;exact G4.notCells _ _ hh,.inr dM⟩)⟩)
 clear s ah aw ac ao ae an ad G4 i al ap aq;go_wp2;go_loopg [4] 1 (GV w (w.heap.size+1) (B+1) B (B+1+1) N w.heap.size gl n ak ks (Z la ln lc))
 case atStart=>exact .inl ⟨rfl,rfl,af.o⟩
 case round =>
  rcases hrel with ⟨rfl,rfl,av⟩|⟨rfl,a,c,rfl,hX,hK,hO⟩
  ·have aU:(0:Int)<(ln:Int):=by have:=aF.o;omega
   have aK:0<ln:=oM;have HD:=za (EQ wr (Z la ln lc) gl ks (B+1) (w.heap.size+1) (Co w (w.heap.size+1) (B+1) B (B+1+1) N w.heap.size gl n ak ks (Z la ln lc)) (fun k W h=>h.2.2.2.2.2) (fun k W W' h hx=>h.ext hx) av aD oM ag.o (fun m W j h K=>by
    obtain⟨kk,h1,h2⟩:=ar.o j (lM K);exact h.step HP.o (lS.1 K).1 K (ag.o j (lM K)) h1 h2 hn oM ⟨nE _,by omega,by omega,by omega,by omega,by omega⟩))
   clear av af;go_wp2_with(go_at_call 51;(with_reducible refine(HD.o).mono ?_);rintro e w' ⟨a',c',W1,rfl,aG,aA⟩);go_roundg 0
   case measure=>omega
   case rel =>
    obtain⟨h1,h2,h3,h4,h5,h6⟩:=aG;have aZ:=Ya h2;have aW:=Ya h3;have ay:=Yg (base:=gl) aA oM (fun k hk=>(h6.lt k hk).1);refine .inr ⟨rfl,a',c',rfl,h1.D ay oM,(ay.block _ oM).trans h2,⟨h5.1,h5.2.kept aA ?_⟩⟩
    right
    intro e;have h9:=(h6.lt w.heap.size (by rw[<-e];rfl)).1;omega
  ·have k3:=Aa hK 0 (Z (J ⟨w.heap.size,0,X⟩) n n);have HO:=za hO;have HX:=za hX;clear hK hO hX af;go_wp2;rw[<-HR.o];exact⟨_,rfl,HO.o.is,HX.o⟩
end
section
open Go.RowKit Go.Shelf Go.Sort Go.Lib
attribute [local go_sem] Oper.semAt_some
structure Fd where
 kind:Int
 at':Int
 stone:Int
 amount:Int
deriving DecidableEq
def UT(f:Fd):List V:=[O .u8 f.kind,O Y f.at',O Y f.stone,O Y f.amount]
abbrev Jn(w:I)(v:V)(l:List Fd):Prop:=Sl 135 4 (fun _ c f=>c=UT f) w v l
def Jn.f{w w' v l}(h:Jn w v l)(k:Ba w w'):Jn w' v l:=Sl.ext h (fun _ _ h=>h) k
def Af(L:List Jt)(rs:List Int)(k:Nat):Int:=(match L[k]? with|some j=>j.til|none=>0)-rs.getD k 0
def iM{r L rs k a}(b:Bd 1000000 a)(c:∀z∈rs,Bd 1000000 z):Bd 1000000 (Jh r L rs k a):=by
 unfold Jh;generalize Wf r L k=l;induction l generalizing a with
 | nil=>exact b
 | cons i t d =>
  rw[List.foldl_cons];refine d ?_;have e:Bd 1000000 (rs.getD i 0):=by
   rw[gD];cases h9:rs[i]? with
   | none=>unfold Bd;simp
   | some v=>exact c v (lM h9)
  unfold Bd at *;omega
def zv{r L}(b:∀j∈L,Fh j):∀k,∀z∈Wa r L k,Bd 1000000 z
 | 0,z,a=>by simp[Wa]at a
 | k+1,z,a=>by
  unfold Wa at a;rcases List.mem_append.1 a with a|a
  ·exact zv b k z a
  ·rw[List.mem_singleton.1 a];cases h:L[k]? with
   | none=>unfold Bd;simp
   | some j=>exact iM (b j (lM h)).2.2.2.2.1 (zv b k)
def DF w s k r vg vp vs vj vr ks L rs(a:Sv w s r vg vp vs vj vr ks L rs)(q:k<L.length)(x:rs.length=L.length)(hL:∀j∈L,Fh j)(l:∀z∈rs,Bd 1000000 z):Calls Tryz.prog 64 #[G (J ⟨s,0,X⟩),O Y k] w fun e w'=>e=.returned (O Y (Af L rs k))/\Ba w w':=by
 obtain⟨ja,K,p,rfl⟩:=Ma a.joints;obtain⟨ra,rn,rc,rfl⟩:=Ma a.roots;have b:L[k]?=J (L[k]'q):=gE q;have m:rs[k]?=J (rs[k]' oM):=gE oM;have e:Af L rs k=(L[k]'q).til-rs[k]' oM:=by
  unfold Af;rw[b,gD,m];rfl
 rw[e];have t:=(hL _ (lM b)).2.2.2.2.2;have u:=l _ (lM m);obtain⟨j,c⟩:=gX (L[k]'q);obtain⟨z,n⟩:=gX (rs[k]' oM);rw[c]at t b ⊢;rw[n]at u m ⊢;have v:=a.joints.len;have f:=a.roots.len;obtain⟨y,R,d,rfl,ab,_,hd,hc⟩:=Sl.at a.joints b;subst hd;have c5:=hc 5 (O Y j.til) rfl;obtain⟨W,ro,rfl,ac,cr⟩:=a.roots.at' m;have ad:=Aa a.blk 10 (Z (J ⟨y,R,X⟩) K p);have ae:=Aa a.blk 11 (Z (J ⟨W,ro,X⟩) rn rc);unfold Bd at t u;have q1:IntKind.i64.wrap (j.til-z)=j.til-z:=iW _ ⟨by omega,by omega⟩;have q2:wrap64 (j.til-z)=j.til-z:=IntWalk.wrap64_in _ ⟨by omega,by omega⟩;have p0:(0:Int)<=(k:Int):=oM;have p1:(k:Int)<(K:Int):=oM;have p2:(k:Int)<(rn:Int):=oM;clear hc b m hL l t u a c n e v f x;go_in;go_upto_region 1 with fail;refine jd [(⟨s,10,X⟩,Z (J ⟨y,R,X⟩) K p),(⟨s,11,X⟩,Z (J ⟨W,ro,X⟩) rn rc),(⟨y,R+k*6+5,X⟩,O Y j.til),(⟨W,ro+k,X⟩,O Y z)] cA fun aa=>?_;refine La (i:=0) ?_;refine La (i:=1) ?_;refine La (i:=2) ?_;refine La (i:=3) ?_;refine La (i:=4) ?_;refine La (i:=5) ?_;refine La (i:=6) ?_;refine La (i:=7) ?_;refine La (i:=8) ?_;refine La (i:=9) ?_;refine La (i:=10) ?_;refine La (i:=11) ?_;refine La (i:=12) ?_;refine La (i:=13) ?_;refine La (i:=14) ?_;refine La (i:=15) ?_;refine La (i:=16) ?_;refine Pb ?_;go_wp2;go_ret;exact⟨rfl,eA⟩
end
section
open Go.RowKit Go.Shelf Go.Sort Go.Lib
end
section
open Go.RowKit Go.Shelf Go.Maps Go.Sort Go.Lib
attribute [local go_sem] Oper.semAt_some
end
section
open Go.RowKit Go.Shelf Go.Sort Go.Lib
def Zq:Ga (Ka ⟨#[97]⟩ 0 0)=[(0,0),(0+200,0)]:=by unfold Ga Lc;rw[show Kc (Ca (Ka ⟨#[97]⟩ 0 0)) (Ca (Ka ⟨#[97]⟩ 0 0)).length=[(0,0),(0+200,0)] by decide,Qn (List.Perm.refl _) dM dM];decide
def Rm:Mb (Ka ⟨#[97]⟩ 0 0)=[(0,0+80),(0+200,0+80)]:=by unfold Mb Lc;rw[show Pd (Ca (Ka ⟨#[97]⟩ 0 0)) (Ca (Ka ⟨#[97]⟩ 0 0)).length=[(0+200,0+80),(0,0+80)] by decide,Qn (List.Perm.swap _ _ _) dM dM];decide
def Yq:Ga (Ka ⟨#[98]⟩ 200 0)=[(200,0),(200+200,0)]:=by unfold Ga Lc;rw[show Kc (Ca (Ka ⟨#[98]⟩ 200 0)) (Ca (Ka ⟨#[98]⟩ 200 0)).length=[(200,0),(200+200,0)] by decide,Qn (List.Perm.refl _) dM dM];decide
def Qm:Mb (Ka ⟨#[98]⟩ 200 0)=[(200,0+80),(200+200,0+80)]:=by unfold Mb Lc;rw[show Pd (Ca (Ka ⟨#[98]⟩ 200 0)) (Ca (Ka ⟨#[98]⟩ 200 0)).length=[(200+200,0+80),(200,0+80)] by decide,Qn (List.Perm.swap _ _ _) dM dM];decide
def Xq:Ga (Ka ⟨#[99]⟩ 0 80)=[(0,80),(0+200,80)]:=by unfold Ga Lc;rw[show Kc (Ca (Ka ⟨#[99]⟩ 0 80)) (Ca (Ka ⟨#[99]⟩ 0 80)).length=[(0,80),(0+200,80)] by decide,Qn (List.Perm.refl _) dM dM];decide
def Pm:Mb (Ka ⟨#[99]⟩ 0 80)=[(0,80+80),(0+200,80+80)]:=by unfold Mb Lc;rw[show Pd (Ca (Ka ⟨#[99]⟩ 0 80)) (Ca (Ka ⟨#[99]⟩ 0 80)).length=[(0+200,80+80),(0,80+80)] by decide,Qn (List.Perm.swap _ _ _) dM dM];decide
def Wq:Ga (Ka ⟨#[100]⟩ 200 80)=[(200,80),(200+200,80)]:=by unfold Ga Lc;rw[show Kc (Ca (Ka ⟨#[100]⟩ 200 80)) (Ca (Ka ⟨#[100]⟩ 200 80)).length=[(200,80),(200+200,80)] by decide,Qn (List.Perm.refl _) dM dM];decide
def Om:Mb (Ka ⟨#[100]⟩ 200 80)=[(200,80+80),(200+200,80+80)]:=by unfold Mb Lc;rw[show Pd (Ca (Ka ⟨#[100]⟩ 200 80)) (Ca (Ka ⟨#[100]⟩ 200 80)).length=[(200+200,80+80),(200,80+80)] by decide,Qn (List.Perm.swap _ _ _) dM dM];decide
def Vq:Ga (Ka ⟨#[101]⟩ 100 160)=[(100,160),(100+200,160)]:=by unfold Ga Lc;rw[show Kc (Ca (Ka ⟨#[101]⟩ 100 160)) (Ca (Ka ⟨#[101]⟩ 100 160)).length=[(100,160),(100+200,160)] by decide,Qn (List.Perm.refl _) dM dM];decide
def Nm:Mb (Ka ⟨#[101]⟩ 100 160)=[(100,160+80),(100+200,160+80)]:=by unfold Mb Lc;rw[show Pd (Ca (Ka ⟨#[101]⟩ 100 160)) (Ca (Ka ⟨#[101]⟩ 100 160)).length=[(100+200,160+80),(100,160+80)] by decide,Qn (List.Perm.swap _ _ _) dM dM];decide
example:Xc ⟨[(0,0),(200,0)],[(-1000,0),(1000,0)],0,200⟩ 0=false:=by simp only[Xc,Sa,Zb,Xd,Ey];decide +kernel
def sK:Eb Fc Bc=0:=by unfold Bc Eb;simp only[Vc,Sf,Mf,Kf,Vf,List.any_cons,List.any_nil,List.nil_append,List.cons_append,Zi,We,Sa,Zb,Xd,Ey,ve,Zq,Yq,Xq,Wq,Vq,Rm,Qm,Pm,Om,Nm];decide +kernel
def Kw:gh Fc Bc Zj=0:=by unfold gh;rw[if_pos sK];decide
def SC:(Kb Zj Bc).length=5:=dM
def Ao:Jt:=⟨0,1,200,200,0,80⟩
def Vm:Jt:=⟨2,3,200,200,80,160⟩
def jI:Fg Zj (Kb Zj Bc)=[Ao,Vm]:=by rfl
def fu{ks L rs}(h:il Zj Bc ks L rs):L=[Ao,Vm]/\rs=[0,0]:=by
 have e:=h.perm;rw[jI]at e;have f:L=[Ao,Vm]:=by
  refine List.Perm.eq_of_pairwise (le:=fun a b=>¬fh b a<0) (fun a b d i j k=>?_) h.ord ?_ e
  ·have c:=e.mem_iff.1 d;simp only[List.mem_cons,List.not_mem_nil,or_false]at c i;rcases c with rfl|rfl<;>rcases i with rfl|rfl
   ·rfl
   ·exact absurd dM k
   ·exact absurd dM j
   ·rfl
  ·refine List.pairwise_cons.2 ⟨fun a d=>?_,List.pairwise_singleton _ _⟩;rw[List.mem_singleton.1 d];decide
 refine⟨f,?_⟩;rw[h.roots,f];rfl
def pQ p t b pin:(Pg p t b pin).isSome=(decide ((Ld (Ga p) t).lo<(Ld (Ga p) t).hi)&&!Xc (Ld (Ga p) t) pin):=by
 unfold Pg Wc;by_cases a:(Ld (Ga p) t).lo<(Ld (Ga p) t).hi
 ·rw[if_pos a];cases h2:Xc (Ld (Ga p) t) pin<;>simp[a]
 ·rw[if_neg a];simp[a]
section
variable {g:LP} {ps:List Pl} {r:Ru} {ks:List (JS×V)} {o:List Int} (hs:ks.map Prod.fst=Kb r ps) (hI:Bl ps.length (fM ks (Ve g ps r.pin) ks.length) (Ng ks) o [])
include hs hI
omit hs in
omit hs in
end
def Ir g ps a p pin:∀n,(Xe g ps a p pin n).map (·.num)=((List.range n).filter fun i:Nat=>(Gb g ps a p pin ((i:Int)-1)).isSome).map fun i:Nat=>(i:Int)-1
 | 0=>rfl
 | n+1=>by
  rw[UF,List.map_append,Ir g ps a p pin n,List.range_succ,List.filter_append,List.map_append]
  congr 1
  cases h:Gb g ps a p pin ((n:Int)-1)with
  | none=>simp[h]
  | some b=>simp[h,FF h]
def ni{p t a up b r}(c:Ga p=a)(d:t=up)(h:(decide ((Ld a up).lo<(Ld a up).hi)&&!Xc (Ld a up) 0)=r:=by(simp only[Ld,Xc,Sa,Zb,Xd,Ey];decide +kernel)):(Pg p t b 0).isSome=r:=by rw[pQ,c,d];exact h
def XJ:(Gb Fc Bc 0 (Ka ⟨#[97]⟩ 0 0) 0 (((0:Nat):Int)-1)).isSome=true:=
 ni Zq rfl
def WJ:(Gb Fc Bc 0 (Ka ⟨#[97]⟩ 0 0) 0 (((1:Nat):Int)-1)).isSome=false:=by rfl
def VJ:(Gb Fc Bc 0 (Ka ⟨#[97]⟩ 0 0) 0 (((2:Nat):Int)-1)).isSome=false:=
 ni Zq Qm
def UJ:(Gb Fc Bc 0 (Ka ⟨#[97]⟩ 0 0) 0 (((3:Nat):Int)-1)).isSome=false:=
 ni Zq Pm
def TJ:(Gb Fc Bc 0 (Ka ⟨#[97]⟩ 0 0) 0 (((4:Nat):Int)-1)).isSome=false:=
 ni Zq Om
def SJ:(Gb Fc Bc 0 (Ka ⟨#[97]⟩ 0 0) 0 (((5:Nat):Int)-1)).isSome=false:=
 ni Zq Nm
def RJ:(Gb Fc Bc 1 (Ka ⟨#[98]⟩ 200 0) 0 (((0:Nat):Int)-1)).isSome=true:=
 ni Yq rfl
def QJ:(Gb Fc Bc 1 (Ka ⟨#[98]⟩ 200 0) 0 (((1:Nat):Int)-1)).isSome=false:=
 ni Yq Rm
def OJ:(Gb Fc Bc 1 (Ka ⟨#[98]⟩ 200 0) 0 (((2:Nat):Int)-1)).isSome=false:=by rfl
def NJ:(Gb Fc Bc 1 (Ka ⟨#[98]⟩ 200 0) 0 (((3:Nat):Int)-1)).isSome=false:=
 ni Yq Pm
def MJ:(Gb Fc Bc 1 (Ka ⟨#[98]⟩ 200 0) 0 (((4:Nat):Int)-1)).isSome=false:=
 ni Yq Om
def LJ:(Gb Fc Bc 1 (Ka ⟨#[98]⟩ 200 0) 0 (((5:Nat):Int)-1)).isSome=false:=
 ni Yq Nm
def KJ:(Gb Fc Bc 2 (Ka ⟨#[99]⟩ 0 80) 0 (((0:Nat):Int)-1)).isSome=false:=
 ni Xq rfl
def JJ:(Gb Fc Bc 2 (Ka ⟨#[99]⟩ 0 80) 0 (((1:Nat):Int)-1)).isSome=true:=
 ni Xq Rm
def IJ:(Gb Fc Bc 2 (Ka ⟨#[99]⟩ 0 80) 0 (((2:Nat):Int)-1)).isSome=false:=
 ni Xq Qm
def GJ:(Gb Fc Bc 2 (Ka ⟨#[99]⟩ 0 80) 0 (((3:Nat):Int)-1)).isSome=false:=by rfl
def EJ:(Gb Fc Bc 2 (Ka ⟨#[99]⟩ 0 80) 0 (((4:Nat):Int)-1)).isSome=false:=
 ni Xq Om
def DJ:(Gb Fc Bc 2 (Ka ⟨#[99]⟩ 0 80) 0 (((5:Nat):Int)-1)).isSome=false:=
 ni Xq Nm
def rK:(Gb Fc Bc 3 (Ka ⟨#[100]⟩ 200 80) 0 (((0:Nat):Int)-1)).isSome=false:=
 ni Wq rfl
def qK:(Gb Fc Bc 3 (Ka ⟨#[100]⟩ 200 80) 0 (((1:Nat):Int)-1)).isSome=false:=
 ni Wq Rm
def pK:(Gb Fc Bc 3 (Ka ⟨#[100]⟩ 200 80) 0 (((2:Nat):Int)-1)).isSome=true:=
 ni Wq Qm
def oK:(Gb Fc Bc 3 (Ka ⟨#[100]⟩ 200 80) 0 (((3:Nat):Int)-1)).isSome=false:=
 ni Wq Pm
def nK:(Gb Fc Bc 3 (Ka ⟨#[100]⟩ 200 80) 0 (((4:Nat):Int)-1)).isSome=false:=by rfl
def mK:(Gb Fc Bc 3 (Ka ⟨#[100]⟩ 200 80) 0 (((5:Nat):Int)-1)).isSome=false:=
 ni Wq Nm
def tI:(Gb Fc Bc 4 (Ka ⟨#[101]⟩ 100 160) 0 (((0:Nat):Int)-1)).isSome=false:=
 ni Vq rfl
def sI:(Gb Fc Bc 4 (Ka ⟨#[101]⟩ 100 160) 0 (((1:Nat):Int)-1)).isSome=false:=
 ni Vq Rm
def rI:(Gb Fc Bc 4 (Ka ⟨#[101]⟩ 100 160) 0 (((2:Nat):Int)-1)).isSome=false:=
 ni Vq Qm
def qI:(Gb Fc Bc 4 (Ka ⟨#[101]⟩ 100 160) 0 (((3:Nat):Int)-1)).isSome=true:=
 ni Vq Pm
def pI:(Gb Fc Bc 4 (Ka ⟨#[101]⟩ 100 160) 0 (((4:Nat):Int)-1)).isSome=true:=
 ni Vq Om
def oI:(Gb Fc Bc 4 (Ka ⟨#[101]⟩ 100 160) 0 (((5:Nat):Int)-1)).isSome=false:=by rfl
def CQ:(Ve Fc Bc 0 0).map (·.num)=[-1]:=by show (Xe Fc Bc 0 (Ka ⟨#[97]⟩ 0 0) 0 (5+1)).map (·.num)=_;rw[Ir];rw[show List.range (5+1)=[0,1,2,3,4,5]from rfl];simp only[List.filter_cons,List.filter_nil,XJ,WJ,VJ,UJ,TJ,SJ];rfl
def BQ:(Ve Fc Bc 0 1).map (·.num)=[-1]:=by show (Xe Fc Bc 1 (Ka ⟨#[98]⟩ 200 0) 0 (5+1)).map (·.num)=_;rw[Ir];rw[show List.range (5+1)=[0,1,2,3,4,5]from rfl];simp only[List.filter_cons,List.filter_nil,RJ,QJ,OJ,NJ,MJ,LJ];rfl
def AQ:(Ve Fc Bc 0 2).map (·.num)=[0]:=by show (Xe Fc Bc 2 (Ka ⟨#[99]⟩ 0 80) 0 (5+1)).map (·.num)=_;rw[Ir];rw[show List.range (5+1)=[0,1,2,3,4,5]from rfl];simp only[List.filter_cons,List.filter_nil,KJ,JJ,IJ,GJ,EJ,DJ];rfl
def zQ:(Ve Fc Bc 0 3).map (·.num)=[1]:=by show (Xe Fc Bc 3 (Ka ⟨#[100]⟩ 200 80) 0 (5+1)).map (·.num)=_;rw[Ir];rw[show List.range (5+1)=[0,1,2,3,4,5]from rfl];simp only[List.filter_cons,List.filter_nil,rK,qK,pK,oK,nK,mK];rfl
def yQ:(Ve Fc Bc 0 4).map (·.num)=[2,3]:=by show (Xe Fc Bc 4 (Ka ⟨#[101]⟩ 100 160) 0 (5+1)).map (·.num)=_;rw[Ir];rw[show List.range (5+1)=[0,1,2,3,4,5]from rfl];simp only[List.filter_cons,List.filter_nil,tI,sI,rI,qI,pI,oI];rfl
end
section
open Go.RowKit Go.Shelf Go.Maps Go.Sort Go.Lib
def jS w i l g ps r(n:Ia w i g)(t:ld w l ps)(d:Gw w)(m:gh g ps r=0)(u:r.pin=0)(ac:0<(Kb r ps).length)(hP:∀ks:List (JS×V),ks.map Prod.fst=Kb r ps->tl ps.length (fM ks (Ve g ps r.pin) ks.length) ks):Calls Tryz.prog 28 #[P #[i,l],P (Uf r)] w (Jp w ps r g):=by
 have HB:=za (fun W (b:Ba w W)=>(Zu W i l g ps r (n.f b) (t.f b) (d.ext b)).mono (fun e w' h=>h.resolve_left (fun h9=>h9.1 m)));have f:Eb g ps=0:=by
  unfold gh at m;by_cases h:Eb g ps=0
  ·exact h
  ·rw[if_neg h]at m;exact absurd m h
 obtain⟨s,q,p⟩:=No f;have HC:=za (fun(W:I)(b:Ba w W)(z:Nat)(vs vj vr:V)(ks:List (JS×V))(L:List Jt)(rs:List Int)(K:Sv W z r i l vs vj vr ks L rs)(a:il r ps ks L rs) =>
  pS W z r i l vs vj vr ks L rs ps.length (Ve g ps r.pin) K (Ma n) (t.form) q
   (by have:=congrArg List.length a.skin;rw[lL]at this;omega)
   (by have h9:=congrArg List.length a.skin;rw[lL]at h9;have h8:(Kb r ps).length<=(Se ps).length:=List.length_filter_le _ _;rw[ko]at h8;omega)
   (fun j hj=>Ma (K.pts j hj)) (fun x hx=>Ay a.skin hx) (fun k=>(LB q k).1) (fun k=>(LB q k).2)
   (fun W' c k hk=>by
    obtain⟨x,hx,ai⟩:=hk;obtain⟨k',h1,y⟩:=Ay a.skin hx;have ab:k=k':=oM;subst ab;have v:ps[k]?=J (ps[k]'y):=gE y;(have aa:Ve g ps r.pin k=Xe g ps k (ps[k]'y) r.pin (ps.length+1):=by unfold Ve;rw[v]);rw[aa];exact EK W' i l g ps k (ps[k]'y) r.pin (n.f (b.trans c)) (t.f (b.trans c)) (d.ext (b.trans c)) f v u p s q)
   (hP ks a.skin))
 obtain⟨ga,gn,gc,rfl⟩:=Ma n;obtain⟨pa,pn,ak,rfl⟩:=Ma t;obtain⟨R,hR⟩:=gX (Jp w ps r g);rw[hR];have HR:=za hR;clear n t d hR m u ac hP f s q p;obtain⟨sk,pin,ag,aj,step,al,af⟩:=r;unfold Uf at HB ⊢;dsimp only at HB;go_in;go_wp2_with(first|(go_at_call 38;refine cM (HB.o _ eA) ?_;rintro e w3 ⟨_,z,vs,vj,vr,ks,L,rs,rfl,K,a,ah⟩;have X3:Ba w w3:=eA)|(go_at_call 66;refine cM (HC.o w3 X3 z vs vj vr ks L rs K a) ?_;rintro e w4 ⟨v4,rfl,ad,ae⟩));rw[<-HR.o];exact⟨_,ks,rfl,a.skin,ad,X3.trans ae⟩
end
section
open Go.RowKit Go.Shelf Go.Maps Go.Sort Go.Lib
attribute [local go_sem] Oper.semAt_some
end
section
open Go.RowKit Go.Shelf Go.Sort Go.Lib
def fW(j:JS):Prop:=Bd 104000 j.x.1/\Bd 104000 j.x.2/\Bd 104000 j.z.1/\Bd 104000 j.z.2/\Bd 10000 j.p.depth/\∃k:Nat,j.k=(k:Int)/\k<120
def Ws ks m:Nc ks m=(match (ks.map Prod.fst)[m]? with|some j=>j.k.toNat|none=>0):=by unfold Nc;rw[lP];cases ks[m]?<;>rfl
def Ts ks z:mg ks z=(decide (0<=z)&&(ks.map Prod.fst).any fun j=>j.k==z):=by unfold mg;rw[List.any_map];rfl
def Ss ks a:Zf ks a a.length=(a.map (·.num)).filter (mg ks):=by unfold Zf;rw[List.take_length]
section
variable {ks:List (JS×V)} (h:ks.map Prod.fst=Kb Zj Bc)
include h
theorem ns:ks.length=5:=by rw[<-lL (f:=Prod.fst),h];exact SC
theorem To:Nc ks 0=0:=by rw[Ws,h];rfl
theorem So:Nc ks 1=1:=by rw[Ws,h];rfl
theorem Ro:Nc ks 2=2:=by rw[Ws,h];rfl
theorem Qo:Nc ks 3=3:=by rw[Ws,h];rfl
theorem Po:Nc ks 4=4:=by rw[Ws,h];rfl
theorem At:Zf ks (Ve Fc Bc 0 0) (Ve Fc Bc 0 0).length=[]:=by rw[Ss,CQ];simp only[List.filter_cons,List.filter_nil,Ts,h];rfl
theorem yt:Zf ks (Ve Fc Bc 0 1) (Ve Fc Bc 0 1).length=[]:=by rw[Ss,BQ];simp only[List.filter_cons,List.filter_nil,Ts,h];rfl
theorem ut:Zf ks (Ve Fc Bc 0 2) (Ve Fc Bc 0 2).length=[0]:=by rw[Ss,AQ];simp only[List.filter_cons,List.filter_nil,Ts,h];rfl
theorem qt:Zf ks (Ve Fc Bc 0 3) (Ve Fc Bc 0 3).length=[1]:=by rw[Ss,zQ];simp only[List.filter_cons,List.filter_nil,Ts,h];rfl
theorem ot:Zf ks (Ve Fc Bc 0 4) (Ve Fc Bc 0 4).length=[2,3]:=by rw[Ss,yQ];simp only[List.filter_cons,List.filter_nil,Ts,h];rfl
theorem YC:fM ks (Ve Fc Bc 0) 5 0=[]:=by simp only[fM,To h,So h,Ro h,Qo h,Po h,At h,yt h,ut h,qt h,ot h];rfl
theorem WC:fM ks (Ve Fc Bc 0) 5 1=[]:=by simp only[fM,To h,So h,Ro h,Qo h,Po h,At h,yt h,ut h,qt h,ot h];rfl
theorem VC:fM ks (Ve Fc Bc 0) 5 2=[0]:=by simp only[fM,To h,So h,Ro h,Qo h,Po h,At h,yt h,ut h,qt h,ot h];rfl
theorem UC:fM ks (Ve Fc Bc 0) 5 3=[1]:=by simp only[fM,To h,So h,Ro h,Qo h,Po h,At h,yt h,ut h,qt h,ot h];rfl
theorem TC:fM ks (Ve Fc Bc 0) 5 4=[2,3]:=by simp only[fM,To h,So h,Ro h,Qo h,Po h,At h,yt h,ut h,qt h,ot h];rfl
theorem Jw:Ce 5 (fM ks (Ve Fc Bc 0) 5) ks 0=[0,0,0,0,0]:=by have:=h;rfl
theorem Lw:Ce 5 (fM ks (Ve Fc Bc 0) 5) ks 1=[1,0,0,0,0]:=by show (Ce 5 (fM ks (Ve Fc Bc 0) 5) ks 0).set (Nc ks 0) (pe (Ce 5 (fM ks (Ve Fc Bc 0) 5) ks 0) (fM ks (Ve Fc Bc 0) 5 (Nc ks 0))+1)=_;rw[To h,Jw h,YC h];decide
theorem Qu:Ce 5 (fM ks (Ve Fc Bc 0) 5) ks 2=[1,1,0,0,0]:=by show (Ce 5 (fM ks (Ve Fc Bc 0) 5) ks 1).set (Nc ks 1) (pe (Ce 5 (fM ks (Ve Fc Bc 0) 5) ks 1) (fM ks (Ve Fc Bc 0) 5 (Nc ks 1))+1)=_;rw[So h,Lw h,WC h];decide
theorem Pu:Ce 5 (fM ks (Ve Fc Bc 0) 5) ks 3=[1,1,2,0,0]:=by show (Ce 5 (fM ks (Ve Fc Bc 0) 5) ks 2).set (Nc ks 2) (pe (Ce 5 (fM ks (Ve Fc Bc 0) 5) ks 2) (fM ks (Ve Fc Bc 0) 5 (Nc ks 2))+1)=_;rw[Ro h,Qu h,VC h];decide
theorem Ou:Ce 5 (fM ks (Ve Fc Bc 0) 5) ks 4=[1,1,2,2,0]:=by show (Ce 5 (fM ks (Ve Fc Bc 0) 5) ks 3).set (Nc ks 3) (pe (Ce 5 (fM ks (Ve Fc Bc 0) 5) ks 3) (fM ks (Ve Fc Bc 0) 5 (Nc ks 3))+1)=_;rw[Qo h,Pu h,UC h];decide
theorem YA:Ce 5 (fM ks (Ve Fc Bc 0) 5) ks 5=[1,1,2,2,3]:=by show (Ce 5 (fM ks (Ve Fc Bc 0) 5) ks 4).set (Nc ks 4) (pe (Ce 5 (fM ks (Ve Fc Bc 0) 5) ks 4) (fM ks (Ve Fc Bc 0) 5 (Nc ks 4))+1)=_;rw[Po h,Ou h,TC h];decide
theorem xL:tl 5 (fM ks (Ve Fc Bc 0) 5) ks:=by
 refine⟨fun m a=>?_,fun m a=>?_,fun m a=>?_⟩
 ·rw[ns h]at a
  match m,a with
  | 0,_=>rw[To h,YC h];intro z b;cases b
  | 1,_=>rw[So h,WC h];intro z b;cases b
  | 2,_=>rw[Ro h,VC h,Qu h];decide
  | 3,_=>rw[Qo h,UC h,Pu h];decide
  | 4,_=>rw[Po h,TC h,Ou h];decide
 ·rw[ns h]at a
  match m,a with
  | 0,_=>rw[To h,Jw h];rfl
  | 1,_=>rw[So h,Lw h];rfl
  | 2,_=>rw[Ro h,Qu h];rfl
  | 3,_=>rw[Qo h,Pu h];rfl
  | 4,_=>rw[Po h,Ou h];rfl
 ·rw[ns h]at a
  match m,a with
  | 0,_=>rw[Jw h];decide
  | 1,_=>rw[Lw h];decide
  | 2,_=>rw[Qu h];decide
  | 3,_=>rw[Pu h];decide
  | 4,_=>rw[Ou h];decide
  | 5,_=>rw[YA h];decide
end
def kS w c d(k:Ia w c Fc)(l:ld w d Bc)(b:Gw w):Calls Tryz.prog 28 #[P #[c,d],P (Uf Zj)] w fun e f=>∃v,e=.returned (.tuple #[v,O Y 0])/\Ud f v [1,1,2,2,3]/\Ba w f:=by
 refine(jS w c d Fc Bc Zj k l b Kw rfl (by rw[SC];decide) (fun ks a=>?_)).mono ?_
 ·have:=xL a;rw[show Zj.pin=0 from rfl,ns a];exact this
 ·rintro e f ⟨v,ks,rfl,a,i,m⟩;rw[show Zj.pin=0 from rfl,ns a]at i;have j:=YA a;refine⟨v,rfl,?_,m⟩;rw[<-j];exact i
