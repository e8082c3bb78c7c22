import Derived.Test.YtgimcmpeceifnaaGreatDoorColA20
import Derived.Laws.IdiomStrings
set_option maxRecDepth 1000000
set_option maxHeartbeats 16000000
set_option linter.all false
open Go.Value renaming slice->O,int->Z,bool->J,agg->E,pointer->F,tuple->D
open Go.IntKind renaming i64->Y
open Option renaming none->X,some->I
open Go renaming World->V,Value->M
open Go.Obj renaming cells->C
namespace Go.Proofs.YtgimcmpeceifnaaGreatDoor.Cop
section
open Go.RowKit Go.Shelf Go.Maps Go.Sort Go.Lib
attribute [local go_sem] Oper.semAt_some
def VG(W0:V)(base B c e:Nat)(ks:List (JS×M))(a:List Be)(f:Nat->List Int)(d:Nat)(t51:M)(W:V):Prop:=
 ∃q N:Nat,q<=a.length/\t51=Z Y q/\d=a.length-q/\N<=c+q/\mh base B W0 W/\Gm W base B N (Dh f e (Sf ks a q))
def tF{W:V}{base:Nat}{v:M}{zs:List Int}(h:Fa 3 1 W base v (zs.map ic))(a:∀z∈zs,(Lit.int Y z).wf=true):W.ownsInts base 3 Y v zs:=by
 have e:(zs.map ic).flatten=zs.map (Value.int Y):=by
  clear h a;induction zs with
  | nil=>rfl
  | cons z zs c=>rw[List.map_cons,List.flatten_cons,c];rfl
 refine⟨?_,a⟩;have:=h.2;rw[e,lL]at this;exact this
def DC{W0 wr k d l g:V}{base B i N c q:Nat}{ks:List (JS×M)}{a:List Be}{f:Nat->List Int}{v:M}{cs:List (List M)}{nb:Int}(w:q<a.length)(u:N<=i+q)(e:mh base B W0 wr)(m:Ba wr k)(n:Ba k d)(p:Fa 3 1 d base v cs)(o:d.grownBy l v.ownBlock)(r:l.grownBy g (I B))(t:Sf ks a (q+1)=Sf ks a q++[nb])(s:Gm g base B (N+1) (fun j=>if j=c then Dh f c (Sf ks a q) c++[nb]else Dh f c (Sf ks a q) j)):VG W0 base B i c ks a f (a.length-(q+1)) (Z Y (((q+1:Nat)):Int)) g:=
 ⟨q+1,N+1,by omega,rfl,rfl,by omega,((e.trans (mh.ofExt (m.trans n))).trans (mh.ofRow p o)).trans (mh.ofMap r),by rw[t,<-rN];exact s⟩
def DP(W0:V)(sb b5 b7 B base N0 kk:Nat)(r:Ru)(vg vp vs vj vr:M)(ks:List (JS×M))(bs:List Be)(f:Nat->List Int)(aP:Array M)(ba:Option Addr)(bn bc:Nat)(Q:Exit->Act->V->Prop)(x1 x2 x3 x4 x6 x8 x9 a1 cn a3 a4 a5 a6 a7 a8 a9 bf bg bh bi bj bk bl bm bp bq br bt bu bv bw bx bz bA bB bC bD bE bF bG bH bI bJ bK bL bM co cp cq cr ct cu cv cx cy cz cB cC cD cF cG cH cI cJ cK cL cN cO cP cQ cR cS bN bO bP bQ bT bU bV bW:M)(hS:W0.heap[sb]?=I (C (pj r vg vp vs vj vr) 89 (0,0)))(ah:Fe W0 vs ks)(aY:∀j∈ks,∃a n c,j.2=O a n c)(h5:W0.heap[b5]?=I (C #[.map (I B)] 171 (0,0)))(h7:W0.heap[b7]?=I (C aP 113 (0,0)))(aS:aP[10]?=I (Z Y kk))(ag:En W0 (O ba bn bc) bs)(ch:bs.length<=121)(hG:Gm W0 base B N0 f)(dw:N0<=100000)(aX:kk<1000)(cg:base<=W0.heap.size)(hz:∀b∈bs,-1<=b.num/\b.num<=1000)(aT:∀(c:List PanicEntry)(a:Act)(d:Option Nat)(v:M)(w:V),Q (.panic c) (a.put d v) w->Q (.panic c) a w)(hQ:∀(cU cT cV cW cX cY cZ c0 c3 c4 c6 c8 da db dc de dg dh di dj dk dl dm dn dp dq dr ds:M)(W:V)(N:Nat),mh base B W0 W->Gm W base B N (Dh f kk (Sf ks bs bs.length))->N<=N0+bs.length->Q (.exit 2) { tmps:=#[F (I ⟨sb,0,X⟩),x1,x2,x3,x4,F (I ⟨b5,0,X⟩),x6,F (I ⟨b7,0,X⟩),x8,x9,a1,cT,a3,a4,a5,a6,a7,a8,a9,bf,bg,bh,bi,bj,bk,bl,bm,bp,bq,br,bt,bu,bv,bw,bx,bz,bA,bB,bC,bD,bE,bF,bG,bH,bI,bJ,bK,bL,bM,O ba bn bc,Z Y bn,cU,cV,cW,cX,cY,cZ,c0,c3,c4,c6,c8,da,db,dc,de,dg,dh,di,dj,dk,dl,dm,dn,dp,dq,dr,ds,bN,bO,bP,bQ,bT,bU,bV,bW],defers:=[] } W) :
  (Code.loop (Qc Tryz.f66 1)).wp Tryz.prog Q { tmps:=#[F (I ⟨sb,0,X⟩),x1,x2,x3,x4,F (I ⟨b5,0,X⟩),x6,F (I ⟨b7,0,X⟩),x8,x9,a1,cn,a3,a4,a5,a6,a7,a8,a9,bf,bg,bh,bi,bj,bk,bl,bm,bp,bq,br,bt,bu,bv,bw,bx,bz,bA,bB,bC,bD,bE,bF,bG,bH,bI,bJ,bK,bL,bM,O ba bn bc,Z Y bn,Z Y 0,co,cp,cq,cr,ct,cu,cv,cx,cy,cz,cB,cC,cD,cF,cG,cH,cI,cJ,cK,cL,cN,cO,cP,cQ,cR,cS,bN,bO,bP,bQ,bT,bU,bV,bW],defers:=[] } W0:=by
 have o:=Aa (show bn=bs.length from ag.len);have dt:bn<=121:=by have:=o.o;omega
 have HS:=Aa hS;have b3:=Aa ah;have b4:=Aa aY;have H5:=Aa h5;have H7:=Aa h7;have bZ:=Aa ag;have HG:=Aa hG;have Hz:=Aa hz;have HQ:=Aa hQ;have aO:=Aa aT;have ck:=Ma ah;obtain⟨va,vn,vc,rfl⟩:=ck;have ak:B≠sb/\B≠b5/\B≠b7:=by
  obtain⟨es,b6,hm⟩:=hG.map;refine⟨fun e=>?_,fun e=>?_,fun e=>?_⟩<;>subst e
  ·rw[hS]at hm;cases hm
  ·rw[h5]at hm;cases hm
  ·rw[h7]at hm;cases hm
 clear hS ah aY h5 h7 ag hG hz hQ ch aT;unfold Qc;simp only[Tryz.f66,Qb,List.append_nil,List.nil_append,List.singleton_append,List.cons_append,List.getD_cons_zero,List.getD_cons_succ];go_loopg [51] bn (VG W0 base B N0 kk ks bs f)
 case atStart=>exact⟨0,N0,by omega,rfl,by rw[o.o];rfl,by omega,mh.refl _ _ _,by rw[show Sf ks bs 0=[]from rfl,XM];exact HG.o⟩
 case round =>
  obtain⟨q,N,hq,rfl,rfl,hN,R,hg⟩:=hrel;rw[<-o.o]at hq;have hS:=R.2 sb _ HS.o (Ne.symm ak.1) (.inr fun cs fr e=>by cases e);have h5:=R.2 b5 _ H5.o (Ne.symm ak.2.1) (.inr fun cs fr e=>by cases e);have h7:=R.2 b7 _ H7.o (Ne.symm ak.2.2) (.inr fun cs fr e=>by cases e);have ah:Fe wr (O va vn vc) ks:=b3.o.keep (R.keepT dM HG.o.notCells);have ag:En wr (O ba bn bc) bs:=Sl.keep bZ.o (fun _ _ h=>h) (R.keepT dM HG.o.notCells);have dz:=R.1.1;by_cases aM:q<bn
  ·obtain⟨be,aF⟩:∃b,bs[q]?=I b:=⟨bs[q]'(by rw[<-o.o];exact aM),gE _⟩;obtain⟨bb,bo,dd,rfl,dx,ci,⟨a,m,c1,s,a2,m2,c2,b1,n,k,t,b2,n2,k2,a',m',c',s',ab,ao,ae,b',n',k',t',ac,ap,an,e1,e2,e3,e4,aV⟩,hc⟩:=ag.at aF;obtain⟨nb,cj⟩:=gX be.num;have cl:=Hz.o be (lM aF);have am:=tN (ks:=ks) aF;rw[cj]at aV cl am;subst aV;have d0:=hc 0 (Z Y nb) rfl;have d1:=hc 1 (O a m c1) rfl;have d2:=hc 2 (J s) rfl;have d3:=hc 3 (O a2 m2 c2) rfl;have d4:=hc 4 (O b1 n k) rfl;have d5:=hc 5 (J t) rfl;have d6:=hc 6 (O b2 n2 k2) rfl;have d7:=hc 7 (O a' m' c') rfl;have d8:=hc 8 (J s') rfl;have d9:=hc 9 (O ab ao ae) rfl;have b8:=hc 10 (O b' n' k') rfl;have b9:=hc 11 (J t') rfl;have ca:=hc 12 (O ac ap an) rfl;have cb:=hc 13 (Z Y e1) rfl;have cc:=hc 14 (Z Y e2) rfl;have cd:=hc 15 (Z Y e3) rfl;have ce:=hc 16 (Z Y e4) rfl;simp only[Nat.add_zero]at d0;have c9:=Da hS (i:=9) (u:=O va vn vc) rfl;have c5:=Da h5 (i:=0) (u:=.map (I B)) rfl;have c7:=Da h7 (i:=10) (u:=Z Y kk) aS;have zs:=Ya hS;have z5:=Ya h5;have z7:=Ya h7;have dD:sb<wr.heap.size+1:=oM;have dB:b5<wr.heap.size+1:=oM;have dC:b7<wr.heap.size+1:=oM;have dy:∀(fn:Fn)(first cap:Array M)(w:V),(Instr.makeFunc fn first cap).run Tryz.prog w = .ok (.func fn first cap) w:=fun _ _ _ _=>rfl;have Hg:=Aa hg;have aq:=Aa R;have aE:=Aa am;have HC:=Aa (fun(W:V)(hW:Ba wr W)(hb:W.heap[wr.heap.size]?=I (C #[Z Y nb,O a m c1,J s,O a2 m2 c2,O b1 n k,J t,O b2 n2 k2,O a' m' c',J s',O ab ao ae,O b' n' k',J t',O ac ap an,Z Y e1,Z Y e2,Z Y e3,Z Y e4] 185 (0,0)))=>zP W (O va vn vc) ks wr.heap.size (fun x=>x.k==nb) (ah.f hW) (fun W' cf j hj=>MN W' j wr.heap.size nb #[Z Y nb,O a m c1,J s,O a2 m2 c2,O b1 n k,J t,O b2 n2 k2,O a' m' c',J s',O ab ao ae,O b' n' k',J t',O ac ap an,Z Y e1,Z Y e2,Z Y e3,Z Y e4] (b4.o j hj) (cf.e hb) rfl));have bX:=Aa h5;have bY:=Aa h7;clear aF hc hS h5 h7 ah ag hg am ci R;by_cases aZ:0<=nb
   ·cases hany:ks.any (fun x=>x.1.k==nb)with
    |true=>
     (have au:Vf ks nb=true:=by unfold Vf;rw[hany];simp[aZ]);rw[hany]at HC;go_wp2_with(go_at_call 100;refine cM (HC.o _ ((eR wr).alloc _) (aN _ _)) ?_;rintro e w2 ⟨rfl,aD⟩);have X2:=((eR wr).alloc (C #[Z Y nb,O a m c1,J s,O a2 m2 c2,O b1 n k,J t,O b2 n2 k2,O a' m' c',J s',O ab ao ae,O b' n' k',J t',O ac ap an,Z Y e1,Z Y e2,Z Y e3,Z Y e4] 185)).trans aD;have aK:=X2.e bX.o;have aL:=X2.e bY.o;have aa:=aD.e (aN wr (C #[Z Y nb,O a m c1,J s,O a2 m2 c2,O b1 n k,J t,O b2 n2 k2,O a' m' c',J s',O ab ao ae,O b' n' k',J t',O ac ap an,Z Y e1,Z Y e2,Z Y e3,Z Y e4] 185));have aI:=Hg.o.ext X2;(have aU:base<=w2.heap.size:=by have:=X2.size;omega);obtain⟨ar,ay⟩:=gX wr.heap.size;rw[ay]at aa;simp only[ay];have e5:=Da aK (i:=0) (u:=.map (I B)) rfl;have e7:=Da aL (i:=10) (u:=Z Y kk) aS;have du:=Da aa (i:=0) (u:=Z Y nb) rfl;have az:B≠ar:=by
      intro e;subst e;exact aI.notCells _ _ aa
     have D9:Ba w2 (w2.alloc (C #[Z Y nb] 3)).drew:=((eR w2).alloc _).drew;have aQ:=D9.e aK;have aR:=D9.e aL;have aG:=D9.e aa;have aH:base<=(w2.alloc (C #[Z Y nb] 3)).drew.heap.size:=nT aU D9.size;clear c9 c5 c7 d0 d1 d2 d3 d4 d5 d6 d7 d8 d9 b8 b9 ca cb cc cd ce aD ay aK aL aa;go_wp2;refine od [(⟨b5,0,X⟩,.map (I B)),(⟨b7,10,X⟩,Z Y kk),(⟨ar,0,X⟩,Z Y nb)] cA fun p=>?_;refine sN 0 ?_
     (iterate 6 refine ub (h4:=fun _ _ _ h=>aO.o _ _ _ _ _ h) ?_);refine oN ?_;refine sN 7 ?_
     (iterate 2 refine ub (h4:=fun _ _ _ h=>aO.o _ _ _ _ _ h) ?_);refine oN ?_;refine nn (i:=6) (j:=9) (fun K L=>?h1f) (fun K L=>?h2f)
     case h1f =>
      obtain⟨v,a0,aC,cm,af⟩:=(aI.ext (eR w2).drew).at (by unfold maxLen;omega) aX;go_simp;refine kO L p (fun p=>?_);clear L K;refine ye (i:=9) fun K L=>?_;go_simp;refine kO L (cE p ((eR _).alloc _)) (fun p=>?_);clear L K;have hX:=((eR w2.drew).alloc (C #[Z Y nb] 3));have hO:=(Wp aC).ext (w':=(w2.alloc (C #[Z Y nb] 3)).drew) hX;have aA:=(hO).ne_blkD aQ dM;have aB:=(hO).ne_blkD aR dM;have aj:=(hO).ne_blkD aG dM;have aw:∀q∈[((⟨b5,0,X⟩:Addr),Value.map (I B)),(⟨b7,10,X⟩,Z Y kk),(⟨ar,0,X⟩,Z Y nb)],I q.1.block≠v.ownBlock:=by
       intro q hq e;simp at hq;rcases hq with rfl|rfl|rfl
       ·exact aA e.symm
       ·exact aB e.symm
       ·exact aj e.symm
      have ax:∀q∈[((⟨b5,0,X⟩:Addr),Value.map (I B)),(⟨b7,10,X⟩,Z Y kk),(⟨ar,0,X⟩,Z Y nb)],I q.1.block≠I B:=by
       intro q hq e;simp at hq;rcases hq with rfl|rfl|rfl
       ·exact ak.2.1 (by simpa using e.symm)
       ·exact ak.2.2 (by simpa using e.symm)
       ·exact az (by simpa using e.symm)
      refine ye (i:=10) fun K L=>?_;refine Vo (T:=3) (t:=47) (z:=Z Y 0) (k:=1) (bytes:=8) (v:=v) (base:=base) jv rfl dM dM Tryz.underlying47 rfl _ _ rfl rfl (hO) (ad:=⟨w2.heap.size,0,X⟩) (m:=1) (c:=1) rfl [ic nb] rfl (by simp[ic]) (fun j u hj=>ix w2 nb 3 j u hj) (Bx nb) (by rw[lL];omega) aH ?_;intro v' w3 y g ai;refine kO L (Ea.grown p g aw) (fun p=>?_);clear L K;rw[<-show ∀(zs:List Int),(zs++[nb]).map ic=zs.map ic++[ic nb]from fun zs=>by simp]at y;obtain⟨w4,al,av,l⟩:=af w3 v' nb ((Lk (io w2.drew v.ownBlock) (hX.belowB (nE _))).trans g) (tF y (fun z hz=>by rcases List.mem_append.1 hz with h|h;exact aC.2 z h;rw[List.mem_singleton.1 h];exact WalkArith.wf_i64 oM)) (ai.imp id (fun h=>⟨_,h,hX.size⟩));refine ye (i:=11) fun K L=>?_;go_simp;refine kO L (Ea.grown p l ax) (fun p=>?_);clear L K;refine Tb ?_;have aJ:=Aa (DC (by rw[<-o.o];exact aM) hN aq.o X2 ((eR w2).alloc _).drew (hO) g l (by rw[aE.o,if_pos au]) av);clear p al g l av y;go_wp2;go_roundg (bn-(q+1))
      case measure=>have:=o.o;omega
      case rel =>
       obtain⟨q9,N9,h1,h2,h3⟩:=aJ.o;exact⟨q9,N9,h1,by rw[<-h2];go_num,by rw[o.o];exact h3⟩
     case h2f =>
      obtain⟨v,a0,aC,cm,af⟩:=(aI.ext D9).at (by unfold maxLen;omega) aX;go_simp;refine kO L (cE p ((eR _).alloc _)) (fun p=>?_);clear L K;refine ye (i:=6) fun K L=>?_;go_simp;refine kO L p (fun p=>?_);clear L K;have hO:=Wp aC;have aA:=(hO).ne_blkD aQ dM;have aB:=(hO).ne_blkD aR dM;have aj:=(hO).ne_blkD aG dM;have aw:∀q∈[((⟨b5,0,X⟩:Addr),Value.map (I B)),(⟨b7,10,X⟩,Z Y kk),(⟨ar,0,X⟩,Z Y nb)],I q.1.block≠v.ownBlock:=by
       intro q hq e;simp at hq;rcases hq with rfl|rfl|rfl
       ·exact aA e.symm
       ·exact aB e.symm
       ·exact aj e.symm
      have ax:∀q∈[((⟨b5,0,X⟩:Addr),Value.map (I B)),(⟨b7,10,X⟩,Z Y kk),(⟨ar,0,X⟩,Z Y nb)],I q.1.block≠I B:=by
       intro q hq e;simp at hq;rcases hq with rfl|rfl|rfl
       ·exact ak.2.1 (by simpa using e.symm)
       ·exact ak.2.2 (by simpa using e.symm)
       ·exact az (by simpa using e.symm)
      refine ye (i:=10) fun K L=>?_;refine Vo (T:=3) (t:=47) (z:=Z Y 0) (k:=1) (bytes:=8) (v:=v) (base:=base) jv rfl dM dM Tryz.underlying47 rfl _ _ rfl rfl (hO) (ad:=⟨w2.heap.size,0,X⟩) (m:=1) (c:=1) rfl [ic nb] rfl (by simp[ic]) (fun j u hj=>ix w2 nb 3 j u hj) (Bx nb) (by rw[lL];omega) aH ?_;intro v' w3 y g ai;refine kO L (Ea.grown p g aw) (fun p=>?_);clear L K;rw[<-show ∀(zs:List Int),(zs++[nb]).map ic=zs.map ic++[ic nb]from fun zs=>by simp]at y;obtain⟨w4,al,av,l⟩:=af w3 v' nb (g) (tF y (fun z hz=>by rcases List.mem_append.1 hz with h|h;exact aC.2 z h;rw[List.mem_singleton.1 h];exact WalkArith.wf_i64 oM)) (ai.imp id (fun h=>⟨_,h,nE _⟩));refine ye (i:=11) fun K L=>?_;go_simp;refine kO L (Ea.grown p l ax) (fun p=>?_);clear L K;refine Tb ?_;have aJ:=Aa (DC (by rw[<-o.o];exact aM) hN aq.o X2 ((eR w2).alloc _).drew (hO) g l (by rw[aE.o,if_pos au]) av);clear p al g l av y;go_wp2;go_roundg (bn-(q+1))
      case measure=>have:=o.o;omega
      case rel =>
       obtain⟨q9,N9,h1,h2,h3⟩:=aJ.o;exact⟨q9,N9,h1,by rw[<-h2];go_num,by rw[o.o];exact h3⟩
    |false=>
     (have au:¬Vf ks nb=true:=by unfold Vf;rw[hany];simp);rw[hany]at HC;go_wp2_with(go_at_call 100;refine cM (HC.o _ ((eR wr).alloc _) (aN _ _)) ?_;rintro e w2 ⟨rfl,aD⟩);go_roundg (bn-(q+1))
     case measure=>have:=o.o;omega
     case rel =>
      have X2:=((eR wr).alloc (C #[Z Y nb,O a m c1,J s,O a2 m2 c2,O b1 n k,J t,O b2 n2 k2,O a' m' c',J s',O ab ao ae,O b' n' k',J t',O ac ap an,Z Y e1,Z Y e2,Z Y e3,Z Y e4] 185)).trans aD;refine⟨q+1,N,by rw[<-o.o];omega,by go_num,by rw[<-o.o],by omega,aq.o.trans (mh.ofExt X2),?_⟩;rw[aE.o,if_neg au,List.append_nil];exact Hg.o.ext X2
   ·(have au:¬Vf ks nb=true:=by unfold Vf;simp[aZ]);go_wp2;go_roundg (bn-(q+1))
    case measure=>have:=o.o;omega
    case rel =>
     have X2:=(eR wr).alloc (C #[Z Y nb,O a m c1,J s,O a2 m2 c2,O b1 n k,J t,O b2 n2 k2,O a' m' c',J s',O ab ao ae,O b' n' k',J t',O ac ap an,Z Y e1,Z Y e2,Z Y e3,Z Y e4] 185);refine⟨q+1,N,by rw[<-o.o];omega,by go_num,by rw[<-o.o],by omega,aq.o.trans (mh.ofExt X2),?_⟩;rw[aE.o,if_neg au,List.append_nil];exact Hg.o.ext X2
  ·obtain rfl:q=bn:=oM;have aW:Gm wr base B N (Dh f kk (Sf ks bs bs.length)):=by rw[<-o.o];exact hg
   have b0:=Aa aW;have aq:=Aa R;clear hg R hS h5 h7 ah ag aW;go_wp2;exact HQ.o _ _ _ _ _ _ _ _ _ _ _ _ _ _ _ _ _ _ _ _ _ _ _ _ _ _ _ _ wr N aq.o b0.o (by rw[<-o.o];exact hN)
end
section
open Go.RowKit Go.Shelf Go.Sort Go.Lib
end
section
open Go.RowKit Go.Shelf Go.Sort
attribute [local go_sem] Oper.semAt_some
def Pv(w:V)(v:M)(p:Pl)(h:Ab w v p.shape)(f:Ia p=true):Calls Tryz.prog 60 #[E (Dd p v)] w (Ni w (Ga p)):=by have u:=fun W (L:Ba w W)=>Fy W v p (h.f L) f;obtain⟨t,K,Vi⟩:=ko f;have o:=ol f;have g:=AJ f;have m:=Aa u;have y:Va (∀q∈Ca p,Bd 3000000 q.1/\Bd 3000000 q.2):=Aa (fun q R=>by have:=t q R;unfold Bd at *;omega);have n:=Aa g;have k:=Aa Vi;have z:Va ((Ga p).length<=1000):=Aa (by have:=o.1.2.2;have:=o.2.2.2;omega);obtain⟨a,c,rfl⟩:=h.form;obtain⟨nm,l,d,de,gx,gz,wy,ax,az,sk⟩:=p;dsimp only at *;unfold Dd;unfold Dd at m;dsimp only at m ⊢;clear u t K Vi o g h;go_in;go_wp2_with(first|(go_at_call 80;refine cM (m.o _ eA) ?_;rintro e x ⟨v1,rfl,i,aa⟩;obtain⟨a1,n1,c1,rfl⟩:=i.i)|(go_at_call 96;(with_reducible refine(zF x _ _ _ (1) dM i.pr n.o y.o (by have:=k.o;omega) z.o).mono ?_);rintro e w2 ⟨v2,rfl,j,r⟩;obtain⟨a2,n2,c2,rfl⟩:=j.i));go_ret;have s:Ba w x:=eA;exact⟨_,rfl,j.mono s.size,s.trans r⟩
def DD(w:V)(v:M)(p:Pl)(h:Ab w v p.shape)(f:Ia p=true):Calls Tryz.prog 97 #[E (Dd p v)] w (Ni w (Kb p)):=by have u:=fun W (L:Ba w W)=>Fy W v p (h.f L) f;obtain⟨t,K,Vi⟩:=ko f;have o:=ol f;have g:=jH f;have m:=Aa u;have y:Va (∀q∈Ca p,Bd 3000000 q.1/\Bd 3000000 q.2):=Aa (fun q R=>by have:=t q R;unfold Bd at *;omega);have n:=Aa g;have k:=Aa Vi;have z:Va ((Kb p).length<=1000):=Aa (by have:=o.1.2.2;have:=o.2.2.2;omega);obtain⟨a,c,rfl⟩:=h.form;obtain⟨nm,l,d,de,gx,gz,wy,ax,az,sk⟩:=p;dsimp only at *;unfold Dd;unfold Dd at m;dsimp only at m ⊢;clear u t K Vi o g h;go_in;go_wp2_with(first|(go_at_call 80;refine cM (m.o _ eA) ?_;rintro e x ⟨v1,rfl,i,aa⟩;obtain⟨a1,n1,c1,rfl⟩:=i.i)|(go_at_call 96;(with_reducible refine(zF x _ _ _ (-1) dM i.pr n.o y.o (by have:=k.o;omega) z.o).mono ?_);rintro e w2 ⟨v2,rfl,j,r⟩;obtain⟨a2,n2,c2,rfl⟩:=j.i));go_ret;have s:Ba w x:=eA;exact⟨_,rfl,j.mono s.size,s.trans r⟩
def Ts(w:V)(n:Int)(k:-9223372036854775808<=n)(l:n<=9223372036854775807):Calls Tryz.prog 133 #[Z Y n] w (Jh w (n:Rat)):=by go_in;go_wp2_with(go_at_call 174;(with_reducible refine(NJ _ n k l).mono ?_);rintro e x ⟨u,rfl,a,f⟩;obtain⟨s,g,r,i,t,j,o,p,rfl⟩:=a.form;obtain⟨⟨d,m⟩,c⟩:=Id w f);exact bR (v:=E #[Z Y s,O g r i,Z Y t,O j o p]) (by simp[results,Tryz.results133,go_sem,d,c]) rfl ⟨_,rfl,a.keep kA,eA⟩
def qL(x:Rat)(a b:Int×Int):((a.2:Int):Rat)+Rat.divInt (b.2-a.2) (b.1-a.1)*(x-((a.1:Int):Rat))=uq x (a,b):=by unfold uq;dsimp only;rw[Rat.divInt_eq_div,Rat.div_def,Rat.div_def,Rat.mul_comm (x-_),Rat.mul_assoc,Rat.mul_assoc,Rat.mul_comm (x-_)]
def Qw{L:LP}{m:Nat}(h:m+1<L.length):(rW L)[m]?=I (Pa L m,Pa L (m+1)):=
 Ex (by rw[Oh oM];exact gE _) (by rw[Oh h];exact gE _)
def BI{L:LP}{x:Rat}{m:Nat}(n:m+1<L.length)(d:∀j,j<m->¬jd x (((Pa L (j+1)).1:Int):Rat)<=0)(o:jd x (((Pa L (m+1)).1:Int):Rat)<=0):Lh L x=uq x (Pa L m,Pa L (m+1)):=by
 have e:=Qw n;obtain⟨k,g⟩:=lS.1 e;have f:(rW L).find? (Aj x)=I (Pa L m,Pa L (m+1)):=by
  rw[List.find?_eq_some_iff_getElem];refine⟨by unfold Aj;simpa using o,m,k,g,fun j i=>?_⟩;have a:=Qw (L:=L) (m:=j) oM;obtain⟨l,c⟩:=lS.1 a;rw[c];unfold Aj;have:=d j i;simpa using this
 unfold Lh;rw[f]
def CI{L:LP}{x:Rat}(l:L≠[])(d:∀j,j+1<L.length->¬jd x (((Pa L (j+1)).1:Int):Rat)<=0):Lh L x=(((Pa L (L.length-1)).2:Int):Rat):=by
 have g:(rW L).find? (Aj x)=X:=by
  rw[List.find?_eq_none];intro e f;obtain⟨j,i,rfl⟩:=List.getElem_of_mem f;rw[zC]at i;have a:=Qw (L:=L) (m:=j) oM;obtain⟨k,c⟩:=lS.1 a;rw[c];unfold Aj;have:=d j oM;simpa using this
 unfold Lh;rw[g];rfl
end
section
open Go.RowKit Go.Shelf Go.Sort
def zS{g:LP}(h:Bb g=true):Zd g:=by
 unfold Bb at h;rw[Bool.and_eq_true,List.all_eq_true]at h;obtain⟨o,k⟩:=h;have f:∀i,(hi:i+1<g.length)->g[i].1<g[i+1].1:=fun i hi=>by
  have a:=k (i+1) (List.mem_range.2 hi);unfold Kf at a;rw[Nat.add_sub_cancel,gD,gE hi,Option.getD_some,gD,gE oM,Option.getD_some]at a;simp only[Bool.and_eq_true,Bool.or_eq_true,beq_iff_eq,decide_eq_true_eq]at a;rcases a.2.2 with c|c
  ·omega
  ·exact c
 unfold Zd;rw[List.pairwise_iff_getElem];intro i j hi m l;obtain⟨d,rfl⟩:∃d,j=i+d+1:=⟨j-i-1,by omega⟩;induction d with
 | zero=>exact f i m
 | succ d n =>
  have:=n oM oM;have:=f (i+d+1) oM;show g[i].1<g[i+(d+1)+1].1;have e:i+(d+1)+1=i+d+1+1:=oM;simp only[e];omega
end
section
open Go.RowKit Go.Shelf Go.Sort
attribute [local go_sem] Oper.semAt_some
def GA(w:V)(L:LP)(x:Rat)(a c:Obj)(t5:M)(W:V):Prop:=
 ∃m:Nat,t5=Z Y ((m:Int)+1)/\m+1<=L.length/\(∀j,j<m->¬jd x (((Pa L (j+1)).1:Int):Rat)<=0)/\Ba w W/\W.heap[w.heap.size]?=I a/\W.heap[w.heap.size+1]?=I c
def UV(wr:V)(a b:Int×Int)(c d:M)(W:V):Prop:=
 ∃b6 b7:Nat,c=F (I ⟨b6,0,X⟩)/\d=F (I ⟨b7,0,X⟩)/\W.heap[b6]?=I (Obj.cells #[Value.int Y (a.1),Value.int Y (a.2)] 74 (0,0))/\W.heap[b7]?=I (Obj.cells #[Value.int Y (b.1),Value.int Y (b.2)] 74 (0,0))/\Ba wr W
def GC(w:V)(v vx:M)(L:LP)(x:Rat)(h:Ab w v L)(ok:je L)(hr:Zd L)(hx:Qe w vx x)(hb:Rb 2000 x):Calls Tryz.prog 135 #[v,vx] w (Jh w (Lh L x)):=by
 obtain⟨a,c,rfl⟩:=h.form;obtain⟨n,hn⟩:=gX L.length;obtain⟨xs,xa,xm,xc,xt,xe,xi,xj,rfl⟩:=hx.form;have bQ:0<n:=by rw[<-hn];exact List.length_pos_iff.2 ok.1
 have bI:n<=64:=by rw[<-hn];exact ok.2.2
 have aQ:∀i,i<n->Bd 104000 (Pa L i).1/\Bd 104000 (Pa L i).2:=fun i hi=>ok.2.1 _ (Ti (by rw[hn];exact hi));obtain⟨q,hq⟩:=gX (Lh L x);rw[hq,hn];have Hq:=Aa hq;have Hn:=Aa hn;have H:=Aa h;have Hr:=Aa hr;have aA:=Aa aQ;have ax:Va (Rb ph x):=Aa (hb.mono dM);have Hb:=Aa hb;have bc:=Aa ok.1;clear hq hn h hr aQ ok hb;go_in;go_wp2;go_loopw [5] (GA w L x (Obj.cells #[Value.int Y xs,Value.slice xa xm xc,Value.int Y xt,Value.slice xe xi xj] 165) (Obj.cells #[Value.int Y 0,Value.slice X 0 0,Value.int Y 0,Value.slice X 0 0] 165)) (fun t5 _=>n-(intOf t5).toNat)
 case atStart=>exact⟨0,rfl,by rw[Hn.o];omega,fun j hj=>by omega,eA,Ei ..,kc _ _ _ sM⟩
 case round =>
  obtain⟨m,rfl,hm,aP,ap,aa,g⟩:=hrel;rw[Hn.o]at hm;have az:=Aa aP;have c0:=Da aa (i:=0) (u:=Z Y xs) rfl;have c1:=Da aa (i:=1) (u:=O xa xm xc) rfl;have c2:=Da aa (i:=2) (u:=Z Y xt) rfl;have c3:=Da aa (i:=3) (u:=O xe xi xj) rfl;have r0:=Da g (i:=0) (u:=Z Y 0) rfl;have r1:=Da g (i:=1) (u:=O X 0 0) rfl;have r2:=Da g (i:=2) (u:=Z Y 0) rfl;have r3:=Da g (i:=3) (u:=O X 0 0) rfl;have bz:=Za g 0;have bA:=Za g 1;have bB:=Za g 2;have bC:=Za g 3;have rz:=Ya g;have a4:=Aa aa;have ay:=Aa g;have ak:=Aa ap;clear aP aa g;by_cases am:m+1<n
  ·obtain⟨b,o,rfl,bo,d0,d1⟩:=(H.o.f ap).pt (i:=m+1) (by rw[Hn.o];exact am);obtain⟨b2,o2,e2,bH,f0,f1⟩:=(H.o.f ap).pt (i:=m) (by rw[Hn.o];omega);cases e2;have bb:=aA.o (m+1) am;have ba:=aA.o m oM;have aD:(Pa L m).1<(Pa L (m+1)).1:=Vq Hr.o oM (by rw[Hn.o];exact am);have l:=BI (L:=L) (x:=x) (m:=m) (by rw[Hn.o];exact am) az.o;rw[Hq.o]at l;obtain⟨⟨s,pz⟩,hp⟩:∃p,Pa L m=p:=⟨_,rfl⟩;obtain⟨⟨qx,qz⟩,aC⟩:∃p,Pa L (m+1)=p:=⟨_,rfl⟩;rw[hp]at f0 f1 ba aD l;rw[aC]at d0 d1 bb aD l;dsimp only at d0 d1 f0 f1 ba bb aD l;obtain⟨T,hT⟩:=gX (jd x ((qx:Int):Rat));rw[hT]at l;have HT:=Aa hT;have aK:=Aa l;have be:=Aa aC;have aF:Va (Rb ph ((qx:Int):Rat)):=Aa ((Bi bb.1).mono dM);unfold Bd at ba bb;obtain⟨⟨bK,bL⟩,⟨bM,bN⟩⟩:=ba;obtain⟨⟨bO,bP⟩,⟨bi,bj⟩⟩:=bb;have aG:=Aa (fun W=>Ts W qx oM oM);have g0:(0:Int)<=(m:Int)+1:=oM;have g1:(m:Int)+1<(n:Int):=oM;have g2:((m:Int)+1).toNat=m+1:=oM;have kw:IntKind.i64.wrap ((m:Int)+1)=(m:Int)+1:=iW _ oM;clear hp aC hT l;by_cases al:T<=0
   ·(have k9:decide (T<=0)=true:=by simpa using al);go_wp2;refine od [(⟨w.heap.size,0,X⟩,Z Y xs),(⟨w.heap.size,1,X⟩,O xa xm xc),(⟨w.heap.size,2,X⟩,Z Y xt),(⟨w.heap.size,3,X⟩,O xe xi xj),(⟨b,o+(m+1)*2,X⟩,Z Y qx)] cA fun d=>?_;refine sN 0 ?_
    (iterate 6 refine ub ?_);refine oN ?_;refine mc (i:=6) (aG.o wr.drew) ?_;rintro e w5 ⟨r5,rfl,ac,y⟩;obtain⟨s5,a5,m5,c5,t5,e5,i5,j5,rfl⟩:=ac.form;refine⟨_,rfl,(cE d y),fun d=>?_⟩;refine ye (i:=7) fun K f=>?_;go_simp;(with_reducible refine cM (Tw w5 _ _ x ((qx:Int):Rat) ((hx.ext ak.o).ext ((eR wr).drew.trans y)) ac ax.o aF.o) ?_);rw[HT.o];rintro e z ⟨rfl,ae⟩;go_wp2;refine kO f (cE d ae) (fun d=>?_);clear f K;refine Qa (i:=8) ?_;refine Tb ?_;have R:Ba wr z:=(eR wr).drew.trans (y.trans ae);have h9:=aK.o al;have H9:=Aa h9;replace d0:=R.d d0;replace d1:=R.d d1;replace f0:=R.d f0;replace f1:=R.d f1;replace c0:=R.d c0;replace c1:=R.d c1;replace c2:=R.d c2;replace c3:=R.d c3;have z6:w.heap.size+1<z.heap.size:=R.lt rz;have g3:(m:Int)+1-1=(m:Int):=oM;have g4:(0:Int)<=(m:Int):=oM;have g5:(m:Int)<(n:Int):=oM;have bv:IntKind.i64.wrap (m:Int)=(m:Int):=iW _ oM;clear h9 d r0 r1 r2 r3 bz bA bB bC ac y ae;go_upto_region 5 with fail;have bX:b<z.heap.size:=World.block_lt_of_cell? z _ d0;go_cut [6,7] (UV z (s,pz) (qx,qz))
    case first =>
     go_wp2;refine od [(⟨b,o+(m+1)*2,X⟩,Z Y qx),(⟨b,o+(m+1)*2+1,X⟩,Z Y qz),(⟨b,o+m*2,X⟩,Z Y s),(⟨b,o+m*2+1,X⟩,Z Y pz)] cA fun d=>?_;refine sN 0 ?_
     (iterate 9 refine ub ?_);refine oN ?_;refine nn (i:=9) (j:=10) (fun K f=>?_) (fun K f=>?_)
     ·go_simp;refine kO f (cE d ((eR _).alloc _)) (fun d=>?_);clear f K;refine ye (i:=10) fun K f=>?_;go_simp;refine kO f (cE d ((eR _).alloc _)) (fun d=>?_);clear f K;have q1:¬b=z.heap.size:=oM;have q2:¬b=z.heap.size+1:=oM;refine ye (i:=11) fun K f=>?_;go_simp;refine kO f cA (fun d=>?_);clear f K;refine ye (i:=12) fun K f=>?_;go_simp;refine kO f cA (fun d=>?_);clear f K;refine Tb ?_;go_wp2;go_meet;exact⟨z.heap.size,z.heap.size+1,rfl,rfl,Ei ..,kc _ _ _ sM,(((eR z).alloc _).alloc _).drew⟩
     ·go_simp;refine kO f (cE d ((eR _).alloc _)) (fun d=>?_);clear f K;refine ye (i:=9) fun K f=>?_;go_simp;refine kO f (cE d ((eR _).alloc _)) (fun d=>?_);clear f K;have q1:¬b=z.heap.size:=oM;have q2:¬b=z.heap.size+1:=oM;refine ye (i:=11) fun K f=>?_;go_simp;refine kO f cA (fun d=>?_);clear f K;refine ye (i:=12) fun K f=>?_;go_simp;refine kO f cA (fun d=>?_);clear f K;refine Tb ?_;go_wp2;go_meet;exact⟨z.heap.size+1,z.heap.size,rfl,rfl,kc _ _ _ sM,Ei ..,(((eR z).alloc _).alloc _).drew⟩
    case rest =>
     obtain⟨b6,b7,rfl,rfl,a6,a7,XC⟩:=hcut;have u0:=Da a6 (i:=0) (u:=Z Y s) rfl;have u1:=Da a6 (i:=1) (u:=Z Y pz) rfl;have v0:=Da a7 (i:=0) (u:=Z Y qx) rfl;have v1:=Da a7 (i:=1) (u:=Z Y qz) rfl;have uz:=Ya a6;replace c0:=XC.d c0;replace c1:=XC.d c1;replace c2:=XC.d c2;replace c3:=XC.d c3;have z9:w.heap.size+1<wc.heap.size:=XC.lt z6;have bW:w.heap.size<wc.heap.size:=oM;have X0:Ba w wc:=ak.o.trans (R.trans XC);have g:=(R.trans XC).e ay.o;have aJ:=Aa g;have bf:Va (Qe wc (E #[Z Y xs,O xa xm xc,Z Y xt,O xe xi xj]) x):=Aa (hx.ext X0);have aH:=Aa (fun W=>zR W (qz-pz) (qx-s) oM oM oM oM oM);obtain⟨sl,an⟩:=gX (Rat.divInt (qz-pz) (qx-s));rw[an]at aH;have ah:Rb 1 sl:=by
      rw[<-an];have hd:qx-s≠0:=oM;exact⟨Ou hd (by unfold Lm B;simp;omega),Ur hd (by unfold Lm B;simp;omega)⟩
     (have ar:((pz:Int):Rat)+sl*(x-((s:Int):Rat))=q:=by rw[<-an,qL x (s,pz) (qx,qz)];exact H9.o.symm);have HE:=Aa ar;have aW:Va (Rb ph ((s:Int):Rat)):=Aa ((Bi (k:=104000) (by unfold Bd;omega)).mono dM);have aX:Va (Rb ph ((pz:Int):Rat)):=Aa ((Bi (k:=104000) (by unfold Bd;omega)).mono dM);have ai:Rb 4001 (x-((s:Int):Rat)):=Rb.sub (k:=2000) Hb.o ((Bi (k:=104000) (by unfold Bd;omega)).mono dM);have aY:Va (Rb ph (x-((s:Int):Rat))):=Aa (ai.mono dM);have aZ:Va (Rb ph sl):=Aa (ah.mono dM);have a0:Va (Rb ph (sl*(x-((s:Int):Rat)))):=Aa ((Rb.mul ah ai).mono dM);have a1:=Aa (fun W=>Ts W s oM oM);have a3:=Aa (fun W=>Ts W pz oM oM);clear an ah ar ai g a6 a7 d0 d1 f0 f1;go_upto_region 7 with (go_at_call 177;refine cM (aH.o wc) ?_;rintro e w8 ⟨r8,rfl,ad,af⟩;obtain⟨s8,a8,m8,c8,t8,e8,i8,j8,rfl⟩:=ad.form;obtain⟨aB,aO⟩:=af.cells);obtain⟨W8,ag⟩:=gX (w8.alloc (Obj.cells #[Value.int Y s8,Value.slice a8 m8 c8,Value.int Y t8,Value.slice e8 i8 j8] 165));(have X8:Ba wc W8:=by rw[<-ag];exact af.alloc _);(have h8:W8.heap[w8.heap.size]?=I (Obj.cells #[Value.int Y s8,Value.slice a8 m8 c8,Value.int Y t8,Value.slice e8 i8 j8] 165 (0,0)):=by rw[<-ag];exact aN _ _);(have bq:Qe W8 (E #[Z Y s8,O a8 m8 c8,Z Y t8,O e8 i8 j8]) sl:=by rw[<-ag];exact ad.ext ((eR _).alloc _));rw[ag];obtain⟨b8,aM⟩:=gX w8.heap.size;rw[aM]at h8 ⊢;have y0:=Da h8 (i:=0) (u:=Z Y s8) rfl;have y1:=Da h8 (i:=1) (u:=O a8 m8 c8) rfl;have y2:=Da h8 (i:=2) (u:=Z Y t8) rfl;have y3:=Da h8 (i:=3) (u:=O e8 i8 j8) rfl;replace u0:=X8.d u0;replace u1:=X8.d u1;replace c0:=X8.d c0;replace c1:=X8.d c1;replace c2:=X8.d c2;replace c3:=X8.d c3;have g:=X8.e aJ.o;have aI:=Aa g;have aV:=bf.o.ext X8;have zr:=Ya g;have bJ:Ba w W8:=X0.trans X8;clear ag aM aB aO af ad h8 g v0 v1 kw bv g0 g1 g2 g3 g4 g5;refine Ai (fun i=>decide (10<i)) (Ea [(⟨b6,0,X⟩,Z Y s),(⟨b6,1,X⟩,Z Y pz),(⟨b8,0,X⟩,Z Y s8),(⟨b8,1,X⟩,O a8 m8 c8),(⟨b8,2,X⟩,Z Y t8),(⟨b8,3,X⟩,O e8 i8 j8),(⟨w.heap.size,0,X⟩,Z Y xs),(⟨w.heap.size,1,X⟩,O xa xm xc),(⟨w.heap.size,2,X⟩,Z Y xt),(⟨w.heap.size,3,X⟩,O xe xi xj)]) kM ?_ (fun d=>?_)
     ·exact cA
     refine sN 0 ?_
     (iterate 2 refine qi ?_);refine oN ?_;refine sN 3 ?_
     (iterate 4 refine qi ?_);refine oN ?_;refine kd (i:=2) fun K f=>?_;go_simp;refine cM (a3.o _) ?_;rintro e w2 ⟨r2,rfl,aR,aU⟩;obtain⟨s2,a2,m2,c2,t2,e2,i2,j2,rfl⟩:=aR.form;go_wp2;refine kO f (fun _=>cE d aU) (fun d=>?_);clear f K;replace d:=d rfl;refine kd (i:=7) fun K f=>?_;go_simp;refine cM (a1.o _) ?_;rintro e w7 ⟨r7,rfl,aS,aE⟩;obtain⟨s7,a7,m7,c7,t7,e7,i7,j7,rfl⟩:=aS.form;go_wp2;refine kO f (fun _=>cE d aE) (fun d=>?_);clear f K;replace d:=d rfl;have E7:Ba W8 w7:=(eR W8).drew.trans (aU.trans aE);refine kd (i:=8) fun K f=>?_;go_simp;(with_reducible refine cM (XA _ (E #[Z Y xs,O xa xm xc,Z Y xt,O xe xi xj]) (E #[Z Y s7,O a7 m7 c7,Z Y t7,O e7 i7 j7]) x ((s:Int):Rat) (aV.ext E7) aS ax.o aW.o) ?_);rintro e w9 ⟨r9,rfl,aT,ao⟩;obtain⟨s9,a9,m9,c9,t9,e9,i9,j9,rfl⟩:=aT.form;go_wp2;refine kO f (fun _=>cE d ao) (fun d=>?_);clear f K;replace d:=d rfl;refine kd (i:=9) fun K f=>?_;go_simp;(with_reducible refine cM (GI _ (E #[Z Y s8,O a8 m8 c8,Z Y t8,O e8 i8 j8]) (E #[Z Y s9,O a9 m9 c9,Z Y t9,O e9 i9 j9]) sl (x-((s:Int):Rat)) (bq.ext (E7.trans ao)) aT aZ.o aY.o) ?_);rintro e bV ⟨bT,rfl,au,aj⟩;obtain⟨bD,bg,bw,bk,bF,bm,br,bt,rfl⟩:=au.form;go_wp2;refine kO f (fun _=>cE d aj) (fun d=>?_);clear f K;replace d:=d rfl;refine kd (i:=10) fun K f=>?_;go_simp;(with_reducible refine cM (jB _ (E #[Z Y s2,O a2 m2 c2,Z Y t2,O e2 i2 j2]) (E #[Z Y bD,O bg bw bk,Z Y bF,O bm br bt]) ((pz:Int):Rat) (sl*(x-((s:Int):Rat))) (aR.ext (aE.trans (ao.trans aj))) au aX.o a0.o) ?_);rintro e aq ⟨bU,rfl,av,aw⟩;obtain⟨bE,bh,bx,bl,bG,bn,bs,bu,rfl⟩:=av.form;go_wp2;refine kO f (fun _=>cE d aw) (fun d=>?_);clear f K;replace d:=d rfl;have XF:Ba W8 aq:=E7.trans (ao.trans (aj.trans aw));have zf:w.heap.size+1<aq.heap.size:=XF.lt zr;have ab:=XF.e aI.o;have o0:=Da ab (i:=0) (u:=Z Y 0) rfl;have o1:=Da ab (i:=1) (u:=O X 0 0) rfl;have o2:=Da ab (i:=2) (u:=Z Y 0) rfl;have o3:=Da ab (i:=3) (u:=O X 0 0) rfl;have of:=Za ab;refine kd (i:=11) fun K f=>?_;go_simp;refine kO f (fun h=>nomatch h) (fun d=>?_);clear f K;refine Jb kM ?_ _;go_wp2;refine bR (v:=E #[Z Y bE,O bh bx bl,Z Y bG,O bn bs bu]) (by simp[results,Tryz.results135,go_sem,zf,o0,o1,o2,o3]) rfl ⟨_,rfl,?_,eA⟩;(have r:sd 3 aq (w.heap.size+1):=by intro cs fr e;rw[ab]at e;cases e);rw[<-HE.o];exact av.keep (((((Ka.refl _ aq).y r _).y (r.set _ _) _).y ((r.set _ _).set _ _) _).y (((r.set _ _).set _ _).set _ _) _)
   ·(have k9:decide (T<=0)=false:=by simpa using al);have aL:Va (∀j,j<m+1->¬jd x (((Pa L (j+1)).1:Int):Rat)<=0):=Aa fun j hj=>by
     by_cases bp:j=m
     ·subst bp;rw[be.o,HT.o];exact al
     ·exact az.o j oM
    go_wp2;refine od [(⟨w.heap.size,0,X⟩,Z Y xs),(⟨w.heap.size,1,X⟩,O xa xm xc),(⟨w.heap.size,2,X⟩,Z Y xt),(⟨w.heap.size,3,X⟩,O xe xi xj),(⟨b,o+(m+1)*2,X⟩,Z Y qx)] cA fun d=>?_;refine sN 0 ?_
    (iterate 6 refine ub ?_);refine oN ?_;refine mc (i:=6) (aG.o wr.drew) ?_;rintro e w5 ⟨r5,rfl,ac,y⟩;obtain⟨s5,a5,m5,c5,t5,e5,i5,j5,rfl⟩:=ac.form;refine⟨_,rfl,(cE d y),fun d=>?_⟩;refine ye (i:=7) fun K f=>?_;go_simp;(with_reducible refine cM (Tw w5 _ _ x ((qx:Int):Rat) ((hx.ext ak.o).ext ((eR wr).drew.trans y)) ac ax.o aF.o) ?_);rw[HT.o];rintro e z ⟨rfl,ae⟩;go_wp2;refine kO f (cE d ae) (fun d=>?_);clear f K;refine Qa (i:=8) ?_;refine Tb ?_;have R:Ba wr z:=(eR wr).drew.trans (y.trans ae);clear kw;go_wp2;go_roundw
    case rel=>exact⟨m+1,by go_num,by rw[Hn.o];omega,fun j hj=>(by have:=aL.o j hj;omega),ak.o.trans R,R.e a4.o,R.e ay.o⟩
    case measure=>simp[intOf];omega
  ·obtain rfl:m+1=n:=oM;obtain⟨b,o,rfl,bo,d0,d1⟩:=(H.o.f ap).pt (i:=m) (by rw[Hn.o];omega);have bb:=aA.o m oM;have t:=CI (L:=L) (x:=x) bc.o (fun j hj=>az.o j (by rw[Hn.o]at hj;omega));rw[Hq.o,Hn.o,show m+1-1=m by omega]at t;obtain⟨⟨s,pz⟩,hp⟩:∃p,Pa L m=p:=⟨_,rfl⟩;rw[hp]at d0 d1 bb t;dsimp only at d0 d1 bb t;unfold Bd at bb;obtain⟨-,⟨bi,bj⟩⟩:=bb;have HE:=Aa t;have HO:=Aa (fun W=>Ts W pz oM oM);have g0:¬(m:Int)+1<(m:Int)+1:=oM;have g3:(m:Int)+1-1=(m:Int):=oM;have g4:(0:Int)<=(m:Int):=oM;have g5:(m:Int)<(m:Int)+1:=oM;clear hp t;go_wp2_with(go_at_call 133;refine cM (HO.o wr) ?_;rintro e w8 ⟨r8,rfl,ad,af⟩;obtain⟨s8,a8,m8,c8,t8,e8,i8,j8,rfl⟩:=ad.form;obtain⟨aB,aO⟩:=af.cells);refine bR (v:=E #[Z Y s8,O a8 m8 c8,Z Y t8,O e8 i8 j8]) (by simp[results,Tryz.results135,go_sem,aB,rz,r0,r1,r2,r3]) rfl ⟨_,rfl,?_,eA⟩;have r:sd 3 w8 (w.heap.size+1):=by intro cs fr e;rw[af.e ay.o]at e;cases e
   rw[HE.o];exact ad.keep (((((Ka.refl _ w8).y r _).y (r.set _ _) _).y ((r.set _ _).set _ _) _).y (((r.set _ _).set _ _).set _ _) _)
def jT(w:V)(x y:M)(ps g:LP)(r:Ab w x ps)(s:Ab w y g)(n1:ps≠[])(n2:g≠[]):Calls Tryz.prog 131 #[x,y] w fun e w'=>e=.returned (D #[Z Y (Ld ps g).lo,Z Y (Ld ps g).hi,J (decide ((Ld ps g).lo<(Ld ps g).hi))])/\Ba w w':=by
 have m:=Aa (fun W (t:Ba w W)=>Ys W x ps (r.f t) n1);have n:=Aa (fun W (t:Ba w W)=>Ys W y g (s.f t) n2);obtain⟨a1,c1,rfl⟩:=r.form;obtain⟨a2,c2,rfl⟩:=s.form;obtain⟨i,f,u⟩:∃i f,(Ld ps g).lo=i/\(Ld ps g).hi=f:=⟨_,_,rfl,rfl⟩;rw[u.1,u.2];obtain⟨j,d⟩:=u;unfold Ld at j d;dsimp only at j d;obtain⟨L,a⟩:=gX (yb ps);obtain⟨R,c⟩:=gX (yb g);obtain⟨o,k⟩:=gX (Vb ps);obtain⟨p,l⟩:=gX (Vb g);rw[show (Pa ps 0).1=L from a,show (Pa ps (ps.length-1)).1=o from k]at m;rw[show (Pa g 0).1=R from c,show (Pa g (g.length-1)).1=p from l]at n;rw[a,c]at j;rw[k,l]at d;clear a c k l r s n1 n2;by_cases k1:L<R
 ·obtain rfl:i=R:=oM;clear j;by_cases k2:p<o
  ·obtain rfl:f=p:=oM;clear d;go_in;go_wp2_with(first|(go_at_call 93;(with_reducible refine(m.o _ (eR _)).mono ?_);rintro e z ⟨rfl,a⟩)|(go_at_call 93;(with_reducible refine(n.o _ a).mono ?_);rintro e K ⟨rfl,c⟩));exact bR (v:=D #[Z Y i,Z Y f,J (decide (i<f))]) (by simp[results,Tryz.results131,go_sem]) rfl ⟨rfl,a.trans c⟩
  ·obtain rfl:f=o:=oM;clear d;go_in;go_wp2_with(first|(go_at_call 93;(with_reducible refine(m.o _ (eR _)).mono ?_);rintro e z ⟨rfl,a⟩)|(go_at_call 93;(with_reducible refine(n.o _ a).mono ?_);rintro e K ⟨rfl,c⟩));exact bR (v:=D #[Z Y i,Z Y f,J (decide (i<f))]) (by simp[results,Tryz.results131,go_sem]) rfl ⟨rfl,a.trans c⟩
 ·obtain rfl:i=L:=oM;clear j;by_cases k2:p<o
  ·obtain rfl:f=p:=oM;clear d;go_in;go_wp2_with(first|(go_at_call 93;(with_reducible refine(m.o _ (eR _)).mono ?_);rintro e z ⟨rfl,a⟩)|(go_at_call 93;(with_reducible refine(n.o _ a).mono ?_);rintro e K ⟨rfl,c⟩));exact bR (v:=D #[Z Y i,Z Y f,J (decide (i<f))]) (by simp[results,Tryz.results131,go_sem]) rfl ⟨rfl,a.trans c⟩
  ·obtain rfl:f=o:=oM;clear d;go_in;go_wp2_with(first|(go_at_call 93;(with_reducible refine(m.o _ (eR _)).mono ?_);rintro e z ⟨rfl,a⟩)|(go_at_call 93;(with_reducible refine(n.o _ a).mono ?_);rintro e K ⟨rfl,c⟩));exact bR (v:=D #[Z Y i,Z Y f,J (decide (i<f))]) (by simp[results,Tryz.results131,go_sem]) rfl ⟨rfl,a.trans c⟩
def BU(w:V)(c:List M)(l:LP):Prop:=∃v,c=[v]/\Ab w v l
abbrev nk(w:V)(v:M)(lss:List LP):Prop:=Sl 122 1 BU w v lss
def nk.f{w w':V}{v:M}{a:List LP}(h:nk w v a)(k:Ba w w'):nk w' v a:=Sl.ext h (fun _ _ ⟨v,c,d⟩=>⟨v,c,d.f k⟩) k
def nk.at'{w:V}{a:Option Addr}{n c:Nat}{e:List LP}(h:nk w (O a n c) e){i:Nat}{l:LP}(j:e[i]?=I l):∃b o v,a=I ⟨b,o,X⟩/\b<w.heap.size/\w.cell? ⟨b,o+i,X⟩=I v/\Ab w v l:=by obtain⟨b,o,d,rfl,f,k,⟨v,rfl,hv⟩,g⟩:=Sl.at h j;exact⟨b,o,v,rfl,f,by simpa using g 0 v rfl,hv⟩
def Vj(a:List LP):List Int:=a.flatten.map (·.1)
def CO(cs:List Int)(c x n0:Int):Ke (cs++[c]) x n0=if x<c/\c<Ke cs x n0 then c else Ke cs x n0:=by rw[CL];rfl
def UM(a:List LP)(l:LP):Vj (a++[l])=Vj a++l.map (·.1):=by unfold Vj;simp
def vU(w:V)(cs:List Int)(d hi:Int)(L:List Int)(a c:M)(W:V):Prop:=
 ∃(k:Nat)(x:Int),c=Z Y x/\k<=L.length/\Db 3 W w.heap.size a (L.take k)/\Ba w W/\(k<L.length->zN L k=x)/\(k=L.length->hi<x)
def xU(d:V)(a:List LP)(x n0:Int)(t9 c:M)(W:V):Prop:=
 ∃(i:Nat)(n:Int),c=Z Y i/\t9=Z Y n/\i<=a.length/\Ke (Vj (a.take i)) x n0=n/\W=d
def yU(c:V)(pre:List Int)(l:LP)(x n0:Int)(t9 a:M)(W:V):Prop:=
 ∃(k:Nat)(n:Int),a=Z Y k/\t9=Z Y n/\k<=l.length/\Ke (pre++(l.take k).map (·.1)) x n0=n/\W=c
def AH{cs:List Int}{x n0:Int}(a:∀c∈cs,Bd 104000 c)(d:Bd 104001 n0):Bd 104001 (Ke cs x n0):=by
 rcases(ms cs x n0).2.2 with h|⟨h,-⟩
 ·rw[h];exact d
 ·have:=a _ h;unfold Bd at *;omega
def ou(w:V)(L:List Int)(e:Ending)(w':V):Prop:=∃v,e=.returned v/\Db 3 w' w.heap.size v L/\Ba w w'
def LK{a:List LP}{l:LP}(h:l∈a){k:Nat}(c:k<l.length):(Pa l k).1∈Vj a:=by unfold Vj;exact List.mem_map.2 ⟨_,List.mem_flatten.2 ⟨l,h,Ti c⟩,rfl⟩
def CS(w:V)(v:M)(d:List LP)(lo hi:Int)(L:List Int)(h:nk w v d)(hp:qu (Vj d) lo hi L)(aD:Bd 104000 lo)(aA:Bd 104000 hi)(hB:∀c∈Vj d,Bd 104000 c)(aP:d.length<=1000)(ah:∀l∈d,l.length<=1000)(hL:L.length<=1000000):Calls Tryz.prog 132 #[Z Y lo,Z Y hi,v] w (ou w L):=by
 obtain⟨a,c,rfl⟩:=h.form;obtain⟨n,hn⟩:=gX d.length;obtain⟨cs,an⟩:=gX (Vj d);rw[hn]at aP ⊢;rw[an]at hp hB;have Hn:=Aa hn;have ar:=Aa an;have H:=Aa h;have Hp:=Aa hp;have HB:=Aa hB;have aI:=Aa ah;have aT:=hp.pos;have aq:=Aa hL;have ag:=aD;unfold Bd at aA ag;obtain⟨aV,aW⟩:=aA;obtain⟨a1,a2⟩:=ag;clear hn an h hp hB ah hL aD;go_in;go_wp2;go_loopw [7,8] (vU w cs lo hi L) (fun t7 _ _=>L.length-(match t7 with | O _ n _=>n|_=>0))
 case atStart=>exact⟨0,lo,rfl,by omega,Db.nil _ _ _,eR _,fun _=>Hp.o.h0,fun e=>by omega⟩
 case round =>
  obtain⟨k,x,rfl,hk,r,hx,aB,u⟩:=hrel;obtain⟨va,vc,rfl⟩:=r.form;rw[List.length_take,Nat.min_eq_left hk]at r ⊢;have ae:=Aa r;have aK:=Aa aB;have Hx:=Aa hx;have aY:=hx.size;clear r aB;by_cases ab:k<L.length
  ·have ac:=aK.o ab;have a0:x<=hi:=by rw[<-ac];exact Hp.o.le k ab
   have aZ:-200000<=x:=by
    have:∀j,j<L.length->lo<=zN L j:=by
     intro j;induction j with
     | zero=>intro _;rw[Hp.o.h0];omega
     | succ j ih =>
      intro hj;have h1:=ih oM;rw[Hp.o.st j hj];unfold Fj;obtain⟨-,-,e⟩:=ms cs (zN L j) (hi+1);have h3:=Hp.o.le j oM;split<;>rcases e with e|⟨-,e⟩<;>omega
    have:=this k ab;omega
   have aj:L[k]?=I x:=by rw[<-ac,Sr ab];exact gE _
   have av:=Aa ac;have aw:=Aa aj;have aS:=Aa aq.o;clear u ac aj;have aX:k<=1000000:=by have:=aq.o;omega
   go_wp2_with(at_builtin;refine Mj (y:=x) nl Tryz.underlying47 rfl _ _ rfl rfl ae.o rfl (by rw[List.length_take];omega) oM ?_;intro v' w1 f s ao);have X1:Ba w w1:=Hx.o.D s (nE _);have e1:L.take k++[x]=L.take (k+1):=(Ce L k x aw.o).symm;rw[e1]at f;obtain⟨a3,a4,aH⟩:=f.form;rw[List.length_take,Nat.min_eq_left oM]at aH;subst aH;have p:=Aa f;obtain⟨wa,rfl⟩:∃W,W=w1:=⟨_,rfl⟩;clear f s ao e1 hx;go_loopw [9,10] (xU wa d x (hi+1)) (fun _ aQ _=>n-(intOf aQ).toNat)
   case atStart=>exact⟨0,hi+1,rfl,rfl,by omega,by simp[Vj,Ke],rfl⟩
   case round =>
    obtain⟨i,nx,rfl,rfl,aL,aG,rfl⟩:=hrel;rw[Hn.o]at aL;have al:=Aa aG;clear aG;by_cases aE:i<n
    ·obtain⟨l,hl⟩:∃l,d[i]?=I l:=⟨_,gE (by rw[Hn.o];exact aE)⟩;have aC:=lM hl;obtain⟨b,o,vl,rfl,hb,c0,hv⟩:=(H.o.f X1).at' hl;obtain⟨la,lc,rfl⟩:=hv.form;have aO:=aI.o l aC;obtain⟨ln,aa⟩:=gX l.length;rw[aa]at c0 aO;have m:=Aa aa;have Hv:=Aa hv;(have z:Vj (d.take (i+1))=Vj (d.take i)++l.map (·.1):=by rw[Ce d i l hl,UM]);obtain⟨pre,K⟩:=gX (Vj (d.take i));rw[K]at z al;have au:=Aa z;have Hl:=Aa hl;have ay:∀k2,k2<ln->Bd 104000 (Pa l k2).1:=fun k2 h2=>HB.o _ (by rw[<-ar.o];exact LK aC (by rw[aa];exact h2));have aJ:=Aa ay;have g0:(0:Int)<=(i:Int):=oM;have g1:(i:Int)<(n:Int):=oM;clear aa hv z K hl ay;go_wp2;go_loopw [9,11] (yU wr pre l x (hi+1)) (fun _ aR _=>ln-(intOf aR).toNat)
     case atStart=>exact⟨0,nx,rfl,rfl,by omega,by simpa using al.o,rfl⟩
     case round =>
      obtain⟨k2,g,rfl,rfl,aM,ai,rfl⟩:=hrel;rw[m.o]at aM;have ad:=Aa ai;clear ai;by_cases t:k2<ln
      ·obtain⟨b2,o2,rfl,aU,e0,-⟩:=Hv.o.pt (i:=k2) (by rw[m.o];exact t);have az:=aJ.o k2 t;have ap:(l.take (k2+1)).map (·.1)=(l.take k2).map (·.1)++[(Pa l k2).1]:=by
        rw[Ce l k2 (Pa l k2) (by rw[Oh (by rw[m.o];exact t)];exact gE _),List.map_append];rfl
       obtain⟨cc,af⟩:=gX ((Pa l k2).1);rw[af]at e0 az ap;have R:Ke (pre++(l.take (k2+1)).map (·.1)) x (hi+1)=if x<cc/\cc<g then cc else g:=by
        rw[ap,<-List.append_assoc,CO,ad.o]
       have am:=Aa R;have k0:(0:Int)<=(k2:Int):=oM;have k1:(k2:Int)<(ln:Int):=oM;unfold Bd at az;clear af ap R;by_cases q1:x<cc
       ·by_cases q2:cc<g
        ·go_wp2;go_roundw
         case rel=>exact⟨k2+1,cc,by go_num,rfl,by rw[m.o];omega,by rw[am.o,if_pos ⟨q1,q2⟩],rfl⟩
         case measure=>simp[intOf];omega
        ·have q3:¬(x<cc/\cc<g):=fun h=>q2 h.2;have Q3:=Aa q3;clear q3;go_wp2;go_roundw
         case rel=>exact⟨k2+1,g,by go_num,rfl,by rw[m.o];omega,by rw[am.o,if_neg oM],rfl⟩
         case measure=>simp[intOf];omega
       ·go_wp2;go_roundw
        case rel=>exact⟨k2+1,g,by go_num,rfl,by rw[m.o];omega,by rw[am.o,if_neg oM],rfl⟩
        case measure=>simp[intOf];omega
      ·obtain rfl:k2=ln:=oM;have e9:Ke (Vj (d.take (i+1))) x (hi+1)=g:=by
        rw[au.o];have:=ad.o;rw[lT (by rw[m.o];omega)]at this;exact this
       have E9:=Aa e9;clear e9;go_wp2;go_roundw
       case rel=>exact⟨i+1,g,by go_num,rfl,by rw[Hn.o];omega,E9.o,rfl⟩
       case measure=>simp[intOf];omega
    ·obtain rfl:i=n:=oM;have e9:Ke cs x (hi+1)=nx:=by
      have:=al.o;rw[lT (by rw[Hn.o];omega),ar.o]at this;exact this
     have aF:=AH (cs:=cs) (x:=x) (n0:=hi+1) HB.o (by unfold Bd;omega);rw[e9]at aF;unfold Bd at aF;have hR:∀y,Fj cs x hi=y->(k+1<L.length->zN L (k+1)=y)/\(k+1=L.length->hi<y):=by
      intro y hy;refine⟨fun h=>by rw[Hp.o.st k h,av.o,hy],fun h=>?_⟩;have:=Hp.o.stop;rw[show L.length-1=k by omega,av.o,hy]at this;exact this
     (have ax:Fj cs x hi=if x<hi/\hi<nx then hi else nx:=by unfold Fj;rw[e9]);have HR:=Aa hR;have ak:=Aa ax;clear e9 hR ax;by_cases q1:x<hi
     ·by_cases q2:hi<nx
      ·skip
       go_wp2;go_roundw
       case rel =>
        obtain⟨z1,z2⟩:=HR.o hi (by rw[ak.o,if_pos oM]);exact⟨k+1,hi,rfl,by omega,p.o,X1,z1,z2⟩
       case measure=>simp;omega
      ·skip
       go_wp2;go_roundw
       case rel =>
        obtain⟨z1,z2⟩:=HR.o nx (by rw[ak.o,if_neg oM]);exact⟨k+1,nx,rfl,by omega,p.o,X1,z1,z2⟩
       case measure=>simp;omega
     ·skip
      go_wp2;go_roundw
      case rel =>
       obtain⟨z1,z2⟩:=HR.o nx (by rw[ak.o,if_neg oM]);exact⟨k+1,nx,rfl,by omega,p.o,X1,z1,z2⟩
      case measure=>simp;omega
  ·obtain rfl:k=L.length:=oM;have h1:=u rfl;have e1:L.take L.length=L:=List.take_length;have hf:Db 3 wr w.heap.size (O va L.length vc) L:=by have:=ae.o;rw[e1]at this;exact this
   have Hf:=Aa hf;clear hf u;have h2:¬x<=hi:=oM;go_wp2;go_ret;exact⟨_,rfl,Hf.o,Hx.o⟩
def QX(W:V)(b:Nat)(q:Rat):Prop:=∃s a m c t e i j,W.heap[b]?=I (C #[Z Y s,O a m c,Z Y t,O e i j] 165 (0,0))/\Qe W (E #[Z Y s,O a m c,Z Y t,O e i j]) q
section
variable {W W':V} {b b':Nat} {q q':Rat}
def QX.ext(h:QX W b q)(k:Ba W W'):QX W' b q:=by obtain⟨s,a,m,c,t,e,i,j,d,f⟩:=h;exact⟨s,a,m,c,t,e,i,j,k.e d,f.ext k⟩
def QX.not(h:QX W b q):sd 3 W b:=by obtain⟨s,a,m,c,t,e,i,j,d,k⟩:=h;intro f g e;rw[d]at e;cases e
def QX.rd(h:QX W b q):∃s a m c t e i j,W.cell? ⟨b,0,X⟩=I (Z Y s)/\W.cell? ⟨b,1,X⟩=I (O a m c)/\W.cell? ⟨b,2,X⟩=I (Z Y t)/\W.cell? ⟨b,3,X⟩=I (O e i j)/\(∀k,W.frozen? ⟨b,k,X⟩=false)/\b<W.heap.size/\Qe W (E #[Z Y s,O a m c,Z Y t,O e i j]) q:=by obtain⟨s,a,m,c,t,e,i,j,d,f⟩:=h;exact⟨s,a,m,c,t,e,i,j,Da d (i:=0) rfl,Da d (i:=1) rfl,Da d (i:=2) rfl,Da d (i:=3) rfl,Za d,Ya d,f⟩
def QX.put{s t:Int}{a e:Option Addr}{m c i j:Nat}(h:QX W b q)(n:Qe W (E #[Z Y s,O a m c,Z Y t,O e i j]) q'):QX ((((W.setCell ⟨b,0,X⟩ (Z Y s)).setCell ⟨b,1,X⟩ (O a m c)).setCell ⟨b,2,X⟩ (Z Y t)).setCell ⟨b,3,X⟩ (O e i j)) b q':=by have l:=h.not;obtain⟨u,d,r,f,v,g,o,p,k,w⟩:=h;exact⟨s,a,m,c,t,e,i,j,xM (cs:=[Z Y u,O d r f,Z Y v,O g o p]) [Z Y s,O a m c,Z Y t,O e i j] k rfl,n.keep (Yq [Z Y s,O a m c,Z Y t,O e i j] 0 l)⟩
def QX.other4(h:QX W b q)(n:QX W b' q')(d:b≠b')(f g k l:M):QX ((((W.setCell ⟨b',0,X⟩ f).setCell ⟨b',1,X⟩ g).setCell ⟨b',2,X⟩ k).setCell ⟨b',3,X⟩ l) b q:=by obtain⟨s,a,m,c,t,e,i,j,o,p⟩:=h;refine⟨s,a,m,c,t,e,i,j,?_,p.keep (Yq [f,g,k,l] 0 n.not)⟩;have:=JE d [f,g,k,l] 0 W;exact this.trans o
def QX.new{s t:Int}{a e:Option Addr}{m c i j:Nat}(f:Qe W (E #[Z Y s,O a m c,Z Y t,O e i j]) q)(d:b=W.heap.size):QX (W.alloc (C #[Z Y s,O a m c,Z Y t,O e i j] 165)) b q:=
 ⟨s,a,m,c,t,e,i,j,kc _ _ _ d,f.ext ((eR _).alloc _)⟩
def QX.put2{p w:Rat}{j k t u:Int}{a d l m:Option Addr}{i c f g s c2 o r:Nat}(h:QX W b q)(x:QX W b' q')(e:b≠b')(y:Qe W (E #[Z Y j,O a i c,Z Y k,O d f g]) p)(n:Qe W (E #[Z Y t,O l s c2,Z Y u,O m o r]) w):QX ((((((((W.setCell ⟨b,0,X⟩ (Z Y j)).setCell ⟨b,1,X⟩ (O a i c)).setCell ⟨b,2,X⟩ (Z Y k)).setCell ⟨b,3,X⟩ (O d f g)).setCell ⟨b',0,X⟩ (Z Y t)).setCell ⟨b',1,X⟩ (O l s c2)).setCell ⟨b',2,X⟩ (Z Y u)).setCell ⟨b',3,X⟩ (O m o r)) b p/\QX ((((((((W.setCell ⟨b,0,X⟩ (Z Y j)).setCell ⟨b,1,X⟩ (O a i c)).setCell ⟨b,2,X⟩ (Z Y k)).setCell ⟨b,3,X⟩ (O d f g)).setCell ⟨b',0,X⟩ (Z Y t)).setCell ⟨b',1,X⟩ (O l s c2)).setCell ⟨b',2,X⟩ (Z Y u)).setCell ⟨b',3,X⟩ (O m o r)) b' w:=by have z:=h.put y;have v:=x.other4 h (Ne.symm e) (Z Y j) (O a i c) (Z Y k) (O d f g);exact⟨z.other4 v e _ _ _ _,v.put (n.keep (Yq [Z Y j,O a i c,Z Y k,O d f g] 0 h.not))⟩
def QX.drew(h:QX W b q):QX W.drew b q:=h.ext (eR _).drew
def Qp{w:V}(h:Ba w W)(a:w.heap.size<=b)(c d e f:M):Ba w ((((W.setCell ⟨b,0,X⟩ c).setCell ⟨b,1,X⟩ d).setCell ⟨b,2,X⟩ e).setCell ⟨b,3,X⟩ f):=
 (((h.set (p:=⟨b,0,X⟩) a _).set (p:=⟨b,1,X⟩) a _).set (p:=⟨b,2,X⟩) a _).set (p:=⟨b,3,X⟩) a _
end
def ni(s:Sp)(L:List Int)(i:Nat):Rat×Rat:=yd (Ub s) ((L.take i).map fun z:Int=>(z:Rat))
def ZK{s:Sp}{L:List Int}{x:Int}(h:L[0]?=I x):ni s L 1=((x:Rat),Ub s (x:Rat)):=by unfold ni;rw[Ce L 0 x h];rfl
def VN{s:Sp}{L:List Int}{i:Nat}{x:Int}(h:L[i]?=I x)(a:0<i):ni s L (i+1)=Nb (Ub s) (ni s L i) (x:Rat):=by unfold ni;rw[Ce L i x h,List.map_append];refine JF _ _ _ ?_;intro e;have:=congrArg List.length e;have c:=(lS.1 h).1;rw[lL,List.length_take,Nat.min_eq_left oM]at this;exact absurd this (by simp;omega)
def XQ(W:V){b:Nat}(m:b=W.heap.size){e f:M}{ps j:LP}(k:Ab W e ps)(l:Ab W f j):nk (W.alloc (C #[e,f] 122)) (O (I ⟨b,0,X⟩) 2 2) [ps,j]:=by
 subst m;refine⟨[[e],[f]],rfl,by simp,⟨by simp,I ⟨W.heap.size,0,X⟩,2,rfl,nE _,by unfold maxLen;omega,.inr ⟨W.heap.size,0,#[e,f],(0,0),rfl,aN _ _,?_⟩⟩,?_⟩
 ·intro i x a;simpa using a
 ·intro i c x d a;have g:Ba W (W.alloc (C #[e,f] 122)):=(eR W).alloc _
  match i,d,a with
  | 0,d,a=>simp at d a;subst d a;exact⟨_,rfl,k.f g⟩
  | 1,d,a=>simp at d a;subst d a;exact⟨_,rfl,l.f g⟩
  | i+2,d,a=>simp at d
def LI{s:Sp}(ok:Kg s){x:Int}(a:Bd 104000 x):Rb 23 (Ub s (x:Rat)):=by unfold Ub;exact Rb.sub (k:=11) (Rb.atR (Bi a) ok.1) (Rb.atR (Bi a) ok.2.1)
def JA{cs L:List Int}{a hi:Int}(h:qu cs a hi L):∀k,k<L.length->a+(k:Int)<=zN L k
 | 0,_=>by rw[h.h0];omega
 | k+1,c=>by
  have f:=JA h k oM;have d:=h.le k oM;rw[h.st k c];obtain⟨-,-,e⟩:=ms cs (zN L k) (hi+1);unfold Fj;split
  ·omega
  ·rcases e with e|⟨-,e⟩<;>omega
def xH{cs L:List Int}{a hi:Int}(h:qu cs a hi L)(c:Bd 104000 a)(d:Bd 104000 hi):L.length<=1000000:=by have e:=h.pos;have f:=JA h (L.length-1) oM;have g:=h.le (L.length-1) oM;unfold Bd at c d;omega
def CN{s:Sp}(ok:Kg s):∀z∈Vd s,Bd 104000 z:=by
 intro z d;have a:=ok.2.2.1;have c:=ok.2.2.2;rcases Fi.1 d with rfl|rfl|⟨e,f,-⟩
 ·exact a
 ·exact c
 ·unfold Bd at *;omega
def zu(w g:V)(s:Sp)(L:List Int)(c d:Nat)(e:M)(W:V):Prop:=
 ∃(i:Nat)(f a:Rat),e=Z Y i/\i<=L.length/\(0<i->ni s L i=(f,a))/\Rb 100 a/\QX W c a/\QX W d f/\Ba g W
def Ot{s:Sp}{L:List Int}{i:Nat}{x:Int}{c a:Rat}(h:L[i]?=I x)(d:0<i)(e:ni s L i=(c,a)):ni s L (i+1)=if jd (Ub s (x:Rat)) a<0 then ((x:Rat),Ub s (x:Rat))else (c,a):=by rw[VN h d,e];rfl
def nM(w:V)(va vb:M)(A B:LP)(h1:Ab w va A)(h2:Ab w vb B)(aw:je A)(ax:je B)(r1:Zd A)(r2:Zd B)(aj:(Ld A B).lo<(Ld A B).hi):Calls Tryz.prog 94 #[va,vb] w fun e w'=>∃v1 v2,e=.returned (D #[v1,v2])/\Qe w' v1 (Ta (Ld A B)).2/\Qe w' v2 (Ta (Ld A B)).1/\Ba w w':=by
 have au:=Co aw ax;have ah:=uM aj;have hC:=fun W (hW:Ba w W)=>jT W va vb A B (h1.f hW) (h2.f hW) aw.1 ax.1;obtain⟨s,hs⟩:=gX (Ld A B);have bc:s.over=A:=by rw[<-hs];rfl
 have bk:s.under=B:=by rw[<-hs];rfl
 rw[hs]at au ah hC aj ⊢;obtain⟨lo,bb⟩:=gX s.lo;obtain⟨hi,a8⟩:=gX s.hi;rw[bb,a8]at hC ah aj;have bM:decide (lo<hi)=true:=by simpa using aj
 simp only[bM]at hC;obtain⟨L,hL⟩:=gX (Vd s);have aP:ni s L L.length=Ta s:=by
  unfold ni Ta Mc;rw[hL,List.take_length]
 rw[hL]at ah;have bV:Vj [A,B]=(s.over++s.under).map (·.1):=by rw[bc,bk];simp[Vj]
 rw[<-bV]at ah;have aF:=au.2.2.1;have aE:=au.2.2.2;rw[bb]at aF;rw[a8]at aE;have bW:∀z∈L,Bd 104000 z:=by rw[<-hL];exact CN au
 have bD:=xH ah aF aE;have hP:=fun W v (hv:nk W v [A,B])=>CS W v [A,B] lo hi L hv ah aF aE (by
  intro c hc;unfold Vj at hc;obtain⟨q,hq,rfl⟩:=List.mem_map.1 hc;simp at hq;rcases hq with hq|hq
  ·exact(aw.2.1 q hq).1
  ·exact(ax.2.1 q hq).1) sM (by
  intro l hl;simp at hl;rcases hl with rfl|rfl
  ·have:=aw.2.2;omega
  ·have:=ax.2.2;omega) bD
 have bC:=ah.pos;rw[<-aP];have HC:=Aa hC;have HP:=Aa hP;have aV:=Aa au;have b4:=Aa bW;have bu:=Aa bc;have bz:=Aa bk;have H1:=Aa h1;have H2:=Aa h2;have bp:=Aa (fun W vx x (hW:Ba w W) (hx:Qe W vx x) (hb:Rb 2000 x)=>GC W va vx A x (h1.f hW) aw r1 hx hb);have bq:=Aa (fun W vx x (hW:Ba w W) (hx:Qe W vx x) (hb:Rb 2000 x)=>GC W vb vx B x (h2.f hW) ax r2 hx hb);obtain⟨a1,c1,bI⟩:=h1.form;obtain⟨a2,c2,bJ⟩:=h2.form;obtain⟨n1,bN⟩:=gX A.length;obtain⟨n2,bO⟩:=gX B.length;rw[bN]at bI;rw[bO]at bJ;subst bI bJ;obtain⟨n,hn⟩:=gX L.length;rw[hn]at bC bD ⊢;have Hn:=Aa hn;clear hC hP au bW bc bk h1 h2 bb a8 hL aP bV ah aF aE aw ax r1 r2 bN bO hn aj bM hs;go_in;go_upto_region 3 with (first|(go_at_call 131;refine cM (HC.o _ eA) ?_;rintro e w1 ⟨rfl,bQ⟩;(have X1:Ba w w1:=eA))|(go_at_call 132;refine cM (HP.o _ _ (XQ w1 rfl (H1.o.f X1) (H2.o.f X1))) ?_;rintro e w2 ⟨v2,rfl,r,bl⟩;obtain⟨ra,rc,rfl⟩:=r.form));have X2:Ba w w2:=X1.trans (((eR w1).alloc _).trans bl);have aB:w2.heap[w.heap.size]?=I (Obj.cells #[Value.int Y 0,Value.slice X 0 0,Value.int Y 0,Value.slice X 0 0] 165 (0,0)):=((bQ.trans ((eR w1).alloc _)).trans bl).e (Ei ..);have ak:w2.heap[w.heap.size+1]?=I (Obj.cells #[Value.int Y 0,Value.slice X 0 0,Value.int Y 0,Value.slice X 0 0] 165 (0,0)):=((bQ.trans ((eR w1).alloc _)).trans bl).e (kc _ _ _ sM);rw[Hn.o]at r;have bv:=Aa r.ints;have aT:=Aa aB;have aU:=Aa ak;have zw:w.heap.size+1<w2.heap.size:=Ya ak;have en:L.length=n:=Hn.o;rw[en];clear r aB ak en;go_wp2;go_loopw [12] (zu w w2 s L w2.heap.size (w2.heap.size+1)) (fun cm _=>n-(intOf cm).toNat)
 case atStart=>exact⟨0,0,0,rfl,by omega,fun h=>by omega,(Bi (k:=0) (n:=0) (by unfold Bd;omega)).mono dM,QX.ext (W:=w2.alloc (Obj.cells #[Value.int Y 0,Value.slice X 0 0,Value.int Y 0,Value.slice X 0 0] 165)) (QX.new (Qe.zero _) rfl) ((eR _).alloc _),QX.new (W:=w2.alloc (Obj.cells #[Value.int Y 0,Value.slice X 0 0,Value.int Y 0,Value.slice X 0 0] 165)) (Qe.zero _) sM,((eR w2).alloc _).alloc _⟩
 case round =>
  obtain⟨f,bK⟩:=gX w2.heap.size;rw[bK]at hrel ⊢;obtain⟨i,bx,bg,rfl,cf,aQ,bG,bo,bX,hx⟩:=hrel;rw[Hn.o]at cf;have aJ:=Aa aQ;have bt:=Aa bG;have XW:Ba w wr:=X2.trans hx;have bY:=bo.rd;have bB:=Aa bo;have aW:=Aa bX;clear aQ bG bY bo bX;by_cases aj:i<n
  ·obtain⟨x,aH⟩:∃x,L[i]?=I x:=⟨_,gE (by rw[Hn.o];exact aj)⟩;obtain⟨b,o,cg,cs,bH⟩:=(bv.o.ext hx).open (by rw[Hn.o];omega);subst cg;have c0:=bH i x aH;have av:=b4.o x (lM aH);have a7:=LI aV.o av;have aZ:Ub s (x:Rat)=Lh A (x:Rat)-Lh B (x:Rat):=by unfold Ub;rw[bu.o,bz.o]
   obtain⟨G,hG⟩:=gX (Ub s (x:Rat));rw[hG]at a7 aZ;have aR:=Aa a7;have b3:=Aa aZ;have HG:=Aa hG;have bA:=Aa aH;have b0:Va (Rb 11 (Lh A (x:Rat))):=Aa (by have:=Rb.atR (Bi av) aV.o.1;rw[bu.o]at this;exact this);have b1:Va (Rb 11 (Lh B (x:Rat))):=Aa (by have:=Rb.atR (Bi av) aV.o.2.1;rw[bz.o]at this;exact this);have bs:Va (Rb 2000 (x:Rat)):=Aa ((Bi av).mono dM);have bZ:=Aa (fun W=>Ts W x (by unfold Bd at av;omega) (by unfold Bd at av;omega));have g0:(0:Int)<=(i:Int):=oM;have g1:(i:Int)<(n:Int):=oM;clear bH a7 aZ hG aH;go_upto_region 8 with (go_at_call 133;refine cM (bZ.o wr) ?_;rintro e w3 ⟨r3,rfl,aG,bm⟩;obtain⟨s3,a3,m3,c3,t3,e3,i3,j3,rfl⟩:=aG.form);obtain⟨W3,ar⟩:=gX (w3.alloc (Obj.cells #[Value.int Y s3,Value.slice a3 m3 c3,Value.int Y t3,Value.slice e3 i3 j3] 165));obtain⟨g,ag⟩:=gX w3.heap.size;have X3:Ba wr W3:=by rw[<-ar];exact bm.alloc _
   have ck:QX W3 g (x:Rat):=by rw[<-ar];exact QX.new aG ag.symm
   have aq:W3.heap[g]?=I (Obj.cells #[Value.int Y s3,Value.slice a3 m3 c3,Value.int Y t3,Value.slice e3 i3 j3] 165 (0,0)):=by rw[<-ar];exact kc _ _ _ ag.symm
   have bP:Qe W3 (E #[Z Y s3,O a3 m3 c3,Z Y t3,O e3 i3 j3]) (x:Rat):=by rw[<-ar];exact aG.ext ((eR _).alloc _)
   have cx:wr.heap.size<=g:=by rw[<-ag];exact bm.size
   have cr:g<W3.heap.size:=Ya aq;rw[ar,ag];have C3:Ea [(⟨g,0,X⟩,Z Y s3),(⟨g,1,X⟩,O a3 m3 c3),(⟨g,2,X⟩,Z Y t3),(⟨g,3,X⟩,O e3 i3 j3)] W3.drew:=⟨Da aq (i:=0) rfl,Da aq (i:=1) rfl,Da aq (i:=2) rfl,Da aq (i:=3) rfl,trivial⟩;clear ar ag aG bm aq c0 g0 g1;refine jz [(7,14,Obj.cells #[Value.int Y 0,Value.slice X 0 0,Value.int Y 0,Value.slice X 0 0] 165 (0,0))] _ 8 8 (fun i=>decide (7<i)) (fun _=>false) kM kM kM sM kM (by intro x hx;simp only[List.mem_cons,List.not_mem_nil,or_false]at hx;rcases hx with rfl<;>exact⟨_,rfl,rfl,fun a W=>by go_simp⟩) (fun _ _ d _ _ h=>by cases d<;>exact h) C3 (fun j=>?_);refine Bh (i:=0) ?_;refine Bh (i:=1) ?_;refine Bh (i:=3) ?_;refine Bh (i:=4) ?_;refine Ym (i:=2) fun W4 bF ao az K p=>?_;go_simp;refine cM (bp.o W4 _ (x:Rat) (XW.trans (X3.trans ((eR W3).drew.trans ao))) (bP.ext ((eR W3).drew.trans ao)) bs.o) ?_;rintro e w4 ⟨r4,rfl,be,bT⟩;obtain⟨s4,a4,m4,c4,t4,e4,i4,j4,rfl⟩:=be.form;go_wp2;refine kO p (.of ao bT) (fun _ _=>?_);clear p K az;refine Ym (i:=5) fun W5 aL ap az K p=>?_;go_simp;refine cM (bq.o W5 _ (x:Rat) (XW.trans (X3.trans ((eR W3).drew.trans ap))) (bP.ext ((eR W3).drew.trans ap)) bs.o) ?_;rintro e w5 ⟨r5,rfl,bf,bn⟩;obtain⟨s5,a5,m5,c5,t5,e5,i5,j5,rfl⟩:=bf.form;go_wp2;refine kO p (.of ap bn) (fun _ _=>?_);clear p K az;refine Ym (i:=6) fun W6 aA aO az K p=>?_;go_simp;(with_reducible refine cM (XA W6 _ _ (Lh A (x:Rat)) (Lh B (x:Rat)) (be.ext (aL.trans (bn.trans aA))) (bf.ext aA) (b0.o.mono dM) (b1.o.mono dM)) ?_);rintro e w6 ⟨r6,rfl,bh,bU⟩;obtain⟨s6,a6,m6,c6,t6,e6,i6,j6,rfl⟩:=bh.form;go_wp2;refine kO p (.of aO bU) (fun _ _=>?_);clear p K az;refine df kM (fun W7 aM aY=>?_);intro m an aI _ _;have Y7:Ba W3 W7:=(eR W3).drew.trans aY;have bi:=bh.ext aM;rw[<-b3.o]at bi;have aK:QX W7 m 0:=⟨_,_,_,_,_,_,_,_,an,Qe.zero _⟩;have k0:=Da an (i:=0) (u:=Z Y 0) rfl;have k1:=Da an (i:=1) (u:=O X 0 0) rfl;have k2:=Da an (i:=2) (u:=Z Y 0) rfl;have k3:=Da an (i:=3) (u:=O X 0 0) rfl;have kf:=Za an;clear bT be bn bf bU bh bF aL aA aM ao ap aO;refine ye (i:=8) fun K p=>?_;go_simp;refine kO p (cE j (by(repeat refine Ba.set ?_ (by exact aI) _);exact aY)) (fun cc=>?_);clear p K;refine Tb ?_;clear k0 k1 k2 k3 kf cc;obtain⟨W8,aX⟩:=gX (((((W7.setCell ⟨m,0,X⟩ (Z Y s6)).setCell ⟨m,1,X⟩ (O a6 m6 c6)).setCell ⟨m,2,X⟩ (Z Y t6)).setCell ⟨m,3,X⟩ (O e6 i6 j6)));have ay:=aK.put bi;have co:W3.heap.size<=m:=by simp only[Yb]at aI;exact aI
   have X8:Ba W3 W8:=by rw[<-aX];exact Qp Y7 co _ _ _ _
   rw[aX]at ay ⊢;clear aX bi aK Y7 aY aI an C3 j;have XF:Ba wr W8:=X3.trans X8;have ad:=bB.o.ext XF;have af:=aW.o.ext XF;have aD:=ck.ext X8;have aS:=Aa XF;have cd:f+1<g:=by have:=aW.o.rd;obtain⟨_,_,_,_,_,_,_,_,_,_,_,_,_,h9,_⟩:=this;omega
   have ce:f+1<m:=oM;have cp:¬g=f:=oM;have cq:¬m=f:=oM;by_cases a9:i=0
   ·subst a9;have ae:=hx;obtain⟨s1,t,m1,y,t1,e1,i1,j1,y0,y1,y2,y3,yf,yz,hy⟩:=ay.rd;obtain⟨s2,R,m2,ac,t2,e2,i2,j2,v0,v1,v2,v3,vf,vz,hv⟩:=aD.rd;have al:=ad.rd;have am:=af.rd;obtain⟨s5,b5,m5,b7,t5,e5,i5,j5,x0,x1,x2,x3,xf,xz,aC⟩:=ad.rd;obtain⟨cl,b6,cj,b8,cn,b9,ch,ci,u0,u1,u2,u3,uf,uz,hu⟩:=af.rd;clear al am;go_upto_region 10 with fail;refine Ai (fun i=>decide (2<i)) (Ea [(⟨m,0,X⟩,Z Y s1),(⟨m,1,X⟩,O t m1 y),(⟨m,2,X⟩,Z Y t1),(⟨m,3,X⟩,O e1 i1 j1),(⟨g,0,X⟩,Z Y s2),(⟨g,1,X⟩,O R m2 ac),(⟨g,2,X⟩,Z Y t2),(⟨g,3,X⟩,O e2 i2 j2)]) kM ?_ (fun j=>?_)
    ·exact cA
    refine sN 0 ?_
    (iterate 2 refine qi ?_);refine oN ?_;refine kd (i:=2) fun K p=>?_;go_simp;refine kO p (fun _=>?_) (fun j=>?_)
    ·exact cA
    clear p K;replace j:=j rfl;refine kd (i:=3) fun K p=>?_;go_simp;refine kO p (fun h=>nomatch h) (fun j=>?_);clear p K;refine Jb kM ?_ _;obtain⟨al,am⟩:=QX.put2 ad af (show f≠f+1 by omega) hy hv;have kX:=Qp (Qp (Ba.trans ‹Ba w2 _› aS.o) (show w2.heap.size<=f by omega) (Z Y s1) (O t m1 y) (Z Y t1) (O e1 i1 j1)) (show w2.heap.size<=f+1 by omega) (Z Y s2) (O R m2 ac) (Z Y t2) (O e2 i2 j2);go_wp2;go_roundw
    case rel=>exact⟨0+1,(x:Rat),G,by go_num,by rw[Hn.o];omega,fun _=>by rw[ZK bA.o,HG.o],aR.o.mono dM,al.drew,am.drew,kX.drew⟩
    case measure=>simp[intOf];omega
   ·have bL:0<i:=oM;(have ct:((i:Int)==0)=false:=by simpa using a9);obtain⟨sa,aa,ma,ca,ta,ea,ia,ja,y0,y1,y2,y3,-,yz,hy⟩:=ay.rd;obtain⟨sb,ab,mb,cb,tb,eb,ib,jb,x0,x1,x2,x3,-,xz,aC⟩:=ad.rd;have a0:=Tw W8 _ _ G bg hy aC (aR.o.mono dM) (bt.o.mono dM);obtain⟨T,hT⟩:=gX (jd G bg);rw[hT]at a0;have HT:=Aa hT;have br:=Aa a0;have bj:=Ot bA.o bL (aJ.o bL);rw[HG.o,hT]at bj;have bw:=Aa bj;clear a0 hT bj a9;by_cases bE:T<0
    ·(have e9:ni s L (i+1)=((x:Rat),G):=by rw[bw.o,if_pos bE]);have E9:=Aa e9;clear e9 hy aC;go_upto_if 53 with (go_at_call 136;(with_reducible refine br.o.mono ?_);rintro e w9 ⟨rfl,ae⟩);replace ay:=ay.ext ae;replace ad:=ad.ext ae;replace af:=af.ext ae;replace aD:=aD.ext ae;obtain⟨s1,t,m1,y,t1,e1,i1,j1,y0,y1,y2,y3,yf,yz,hy⟩:=ay.rd;obtain⟨s2,R,m2,ac,t2,e2,i2,j2,v0,v1,v2,v3,vf,vz,hv⟩:=aD.rd;have al:=ad.rd;have am:=af.rd;obtain⟨s5,b5,m5,b7,t5,e5,i5,j5,x0,x1,x2,x3,xf,xz,aC⟩:=ad.rd;obtain⟨cl,b6,cj,b8,cn,b9,ch,ci,u0,u1,u2,u3,uf,uz,hu⟩:=af.rd;clear al am;go_upto_region 10 with fail;refine Ai (fun i=>decide (2<i)) (Ea [(⟨m,0,X⟩,Z Y s1),(⟨m,1,X⟩,O t m1 y),(⟨m,2,X⟩,Z Y t1),(⟨m,3,X⟩,O e1 i1 j1),(⟨g,0,X⟩,Z Y s2),(⟨g,1,X⟩,O R m2 ac),(⟨g,2,X⟩,Z Y t2),(⟨g,3,X⟩,O e2 i2 j2)]) kM ?_ (fun j=>?_)
     ·exact cA
     refine sN 0 ?_
     (iterate 2 refine qi ?_);refine oN ?_;refine kd (i:=2) fun K p=>?_;go_simp;refine kO p (fun _=>?_) (fun j=>?_)
     ·exact cA
     clear p K;replace j:=j rfl;refine kd (i:=3) fun K p=>?_;go_simp;refine kO p (fun h=>nomatch h) (fun j=>?_);clear p K;refine Jb kM ?_ _;obtain⟨al,am⟩:=QX.put2 ad af (show f≠f+1 by omega) hy hv;have kX:=Qp (Qp (Ba.trans ‹Ba w2 _› (aS.o.trans ae)) (show w2.heap.size<=f by omega) (Z Y s1) (O t m1 y) (Z Y t1) (O e1 i1 j1)) (show w2.heap.size<=f+1 by omega) (Z Y s2) (O R m2 ac) (Z Y t2) (O e2 i2 j2);go_wp2;go_roundw
     case rel=>exact⟨i+1,(x:Rat),G,by go_num,by rw[Hn.o];omega,fun _=>E9.o,aR.o.mono dM,al.drew,am.drew,kX.drew⟩
     case measure=>simp[intOf];omega
    ·(have e9:ni s L (i+1)=(bx,bg):=by rw[bw.o,if_neg bE]);have E9:=Aa e9;clear e9 hy aC;go_wp2_with(go_at_call 136;(with_reducible refine br.o.mono ?_);rintro e w9 ⟨rfl,ae⟩);go_roundw
     case rel=>exact⟨i+1,bx,bg,by go_num,by rw[Hn.o];omega,fun _=>E9.o,bt.o,ad.ext ae,af.ext ae,hx.trans (aS.o.trans ae)⟩
     case measure=>simp[intOf];omega
  ·obtain rfl:i=n:=oM;have hb:=aJ.o bC;obtain⟨s1,t,m1,y,t1,e1,i1,j1,y0,y1,y2,y3,yf,yz,hy⟩:=bB.o.rd;obtain⟨s2,R,m2,ac,t2,e2,i2,j2,v0,v1,v2,v3,vf,vz,hv⟩:=aW.o.rd;have ai:=hx.e aT.o;have r:=hx.e aU.o;have q1:QX wr w.heap.size 0:=⟨_,_,_,_,_,_,_,_,ai,Qe.zero _⟩;have q2:QX wr (w.heap.size+1) 0:=⟨_,_,_,_,_,_,_,_,r,Qe.zero _⟩;have o0:=Da ai (i:=0) (u:=Z Y 0) rfl;have o1:=Da ai (i:=1) (u:=O X 0 0) rfl;have o2:=Da ai (i:=2) (u:=Z Y 0) rfl;have o3:=Da ai (i:=3) (u:=O X 0 0) rfl;have of:=Za ai;have k0:=Da r (i:=0) (u:=Z Y 0) rfl;have k1:=Da r (i:=1) (u:=O X 0 0) rfl;have k2:=Da r (i:=2) (u:=Z Y 0) rfl;have k3:=Da r (i:=3) (u:=O X 0 0) rfl;have kf:=Za r;have oz:=Ya ai;have kz:=Ya r;have cu:¬f=w.heap.size:=oM;have cv:¬f+1=w.heap.size:=oM;have Hb:=Aa hb;have ba:=(Yq [Z Y s1,O t m1 y,Z Y t1,O e1 i1 j1] 0 q1.not).trans (Yq [Z Y s2,O R m2 ac,Z Y t2,O e2 i2 j2] 0 (q2.other4 q1 (show w.heap.size+1≠w.heap.size by omega) (Z Y s1) (O t m1 y) (Z Y t1) (O e1 i1 j1)).not);have P1:=Aa (hy.keep ba);have P2:=Aa (hv.keep ba);have XF:=Qp (Qp XW (show w.heap.size<=w.heap.size by omega) (Z Y s1) (O t m1 y) (Z Y t1) (O e1 i1 j1)) (show w.heap.size<=w.heap.size+1 by omega) (Z Y s2) (O R m2 ac) (Z Y t2) (O e2 i2 j2);have b2:=Aa XF;clear hb ai r q1 q2 hy hv ba XF XW hx;go_wp2;refine Ai (fun i=>decide (2<i)) (Ea [(⟨f,0,X⟩,Z Y s1),(⟨f,1,X⟩,O t m1 y),(⟨f,2,X⟩,Z Y t1),(⟨f,3,X⟩,O e1 i1 j1),(⟨f+1,0,X⟩,Z Y s2),(⟨f+1,1,X⟩,O R m2 ac),(⟨f+1,2,X⟩,Z Y t2),(⟨f+1,3,X⟩,O e2 i2 j2)]) kM ?_ (fun j=>?_)
   ·exact cA
   refine sN 0 ?_
   iterate 2 refine qi ?_
   refine oN ?_;refine kd (i:=2) fun K p=>?_;go_simp;refine kO p (fun _=>?_) (fun j=>?_)
   ·exact cA
   clear p K;replace j:=j rfl;refine kd (i:=3) fun K p=>?_;go_simp;refine kO p (fun h=>nomatch h) (fun j=>?_);clear p K;refine Jb kM ?_ _;go_wp2;refine bR (v:=D #[E #[Z Y s1,O t m1 y,Z Y t1,O e1 i1 j1],E #[Z Y s2,O R m2 ac,Z Y t2,O e2 i2 j2]]) (by simp[results,Tryz.results94,go_sem,oz,kz,o0,o1,o2,o3,k0,k1,k2,k3]) rfl ⟨_,_,rfl,?_,?_,b2.o.drew⟩
   ·rw[Hb.o];exact P1.o.ext (eR _).drew
   ·rw[Hb.o];exact P2.o.ext (eR _).drew
def Dy(w:V)(r s:M)(A B:LP)(l:Ab w r A)(m:Ab w s B)(f:je A)(i:je B)(y:Zd A)(z:Zd B)(a:(Ld A B).lo<(Ld A B).hi):Calls Tryz.prog 59 #[r,s] w fun e w'=>e=.returned (J (Ve A B))/\Ba w w':=by
 have c:Ve A B=decide (0<=(Ta (Ld A B)).2.num.sign):=by unfold Ve;rw[if_pos a]
 have t:=Aa (fun W (u:Ba w W)=>nM W r s A B (l.f u) (m.f u) f i y z a);rw[c];obtain⟨g,o⟩:=gX ((Ta (Ld A B)).2);obtain⟨x,v⟩:=gX ((Ta (Ld A B)).1);rw[o,v]at t;rw[o];obtain⟨T,n⟩:=gX g.num.sign;rw[n];have K:=Aa n;obtain⟨a1,n1,c1,rfl⟩:=l.i;obtain⟨a2,n2,c2,rfl⟩:=m.i;clear o v n l m f i y z a c;go_in;go_wp2_with(first|(go_at_call 94;refine cM (t.o w (eR _)) ?_;rintro e w1 ⟨v1,v2,rfl,d,p,aa⟩;obtain⟨s1,j,m1,k,t1,e1,i1,j1,rfl⟩:=d.form;obtain⟨s2,L,m2,R,t2,e2,i2,j2,rfl⟩:=p.form)|(go_at_call 95;(with_reducible refine(KP _ (E #[Z Y s1,O j m1 k,Z Y t1,O e1 i1 j1]) g ?_).mono ?_);(exact d.ext (((eR w1).alloc _).alloc _));rw[K.o];rintro e w3 ⟨rfl,ab⟩));go_ret;exact⟨rfl,eA⟩
def TP(w:V)(p q:Pl)(s t:M)(x:∃a n c,s=O a n c)(y:∃a n c,t=O a n c):Calls Tryz.prog 61 #[E (Dd p s),E (Dd q t)] w fun e L=>e=.returned (J (Le p q))/\Ba w L:=by
 obtain⟨a,n,c,rfl⟩:=x;obtain⟨a',n',c',rfl⟩:=y;obtain⟨nm,sh,d,de,gx,gz,wy,ax,az,g⟩:=p;obtain⟨z,K,d',r,u,v,R,m,o,f⟩:=q;unfold Le Dd;dsimp only;by_cases i:g=f
 ·have k:(g==f)=true:=by simpa using i
  rw[k];clear i;go_in;go_wp2;go_ret;exact⟨rfl,eA⟩
 have k:(g==f)=false:=by simpa using i
 rw[k];clear i;by_cases j:g=3
 ·have l:(g==3)=true:=by simpa using j
  rw[l];clear j;go_in;go_wp2;go_ret;exact⟨rfl,eA⟩
 have l:(g==3)=false:=by simpa using j
 rw[l];clear j;go_in;go_wp2;go_ret;exact⟨rfl,eA⟩
def Kw{p:Pl}(h:Ia p=true):yb (Ga p)<Vb (Ga p):=(Cv h).2.2.1
def xB{p q:Pl}(e:Ia p=true)(d:Ia q=true)(f:¬Vb (Ga p)<=yb (Ga q))(g:¬Vb (Ga q)<=yb (Ga p)):(Ld (Ga p) (Kb q)).lo<(Ld (Ga p) (Kb q)).hi:=by have a:=Cv d;have b:=Kw e;have c:=Kw d;unfold Ld;dsimp only;omega
def SL(w:V)(p q:Pl)(s t:M)(hs:Ab w s p.shape)(ht:Ab w t q.shape)(hp:Ia p=true)(hq:Ia q=true):Calls Tryz.prog 62 #[E (Dd p s),E (Dd q t)] w fun e w'=>e=.returned (Z .u8 (Yi p q))/\Ba w w':=by
 have aQ:=ol hp;have aR:=ol hq;have y:=Aa (fun W (hW:Ba w W)=>Pv W s p (hs.f hW) hp);have z:=Aa (fun W (hW:Ba w W)=>Pv W t q (ht.f hW) hq);have aG:=Aa (fun W (hW:Ba w W)=>DD W s p (hs.f hW) hp);have ao:=Aa (fun W (hW:Ba w W)=>DD W t q (ht.f hW) hq);have am:=Aa (fun W v (hv:Ab W v (Ga p))=>Ys W v _ hv aQ.1.1);have an:=Aa (fun W v (hv:Ab W v (Ga q))=>Ys W v _ hv aR.1.1);have aF:=Aa (fun W v1 v2 (h1:Ab W v1 (Ga p)) (h2:Ab W v2 (Kb q)) aX=>Dy W v1 v2 _ _ h1 h2 aQ.1 aR.2 (Lp hp).1 (Uq hq).1 aX);have aU:=Aa (fun W v1 v2 (h1:Ab W v1 (Ga q)) (h2:Ab W v2 (Kb p)) aX=>Dy W v1 v2 _ _ h1 h2 aR.1 aQ.2 (Lp hq).1 (Uq hp).1 aX);have aZ:=Aa (xB hp hq);have a0:=Aa (xB hq hp);obtain⟨k,hk⟩:=gX (Yi p q);rw[hk];unfold Yi at hk;obtain⟨l1,e1⟩:=gX (yb (Ga p));obtain⟨r1,e2⟩:=gX (Vb (Ga p));obtain⟨l2,e3⟩:=gX (yb (Ga q));obtain⟨r2,e4⟩:=gX (Vb (Ga q));rw[show (Pa (Ga p) 0).1=l1 from e1,show (Pa (Ga p) ((Ga p).length-1)).1=r1 from e2]at am;rw[show (Pa (Ga q) 0).1=l2 from e3,show (Pa (Ga q) ((Ga q).length-1)).1=r2 from e4]at an;rw[e1,e2,e3,e4]at hk aZ;rw[e1,e2,e3,e4]at a0;obtain⟨f1,e5⟩:=gX (Ve (Ga p) (Kb q));obtain⟨f2,e6⟩:=gX (Ve (Ga q) (Kb p));rw[e5,e6]at hk;rw[e5]at aF;rw[e6]at aU;have Hk:=Aa hk;obtain⟨a,n,c,rfl⟩:=hs.i;obtain⟨a',n',c',rfl⟩:=ht.i;clear hk e1 e2 e3 e4 e5 e6 aQ aR hs ht hp hq;obtain⟨nm,sh,d,de,gx,gz,wy,ax,az,sk⟩:=p;obtain⟨aA,a4,d',ar,au,av,aC,ap,aq,aB⟩:=q;unfold Dd at y z aG ao ⊢;dsimp only at y z aG ao ⊢;by_cases h1:r1<=l2
 ·have e:=Hk.o;rw[if_pos h1]at e;subst e;go_in;go_wp2_with(first|(go_at_call 60;(with_reducible refine(y.o _ ?_).mono ?_);exact eA;rintro e w1 ⟨v1,rfl,g,K⟩;obtain⟨a1,n1,c1,rfl⟩:=g.i;obtain⟨⟨aH,aL⟩,ae,af⟩:=Mb w K;(have X1:Ba w w1:=eA))|(go_at_call 93;(with_reducible refine(am.o w1 _ g.pr).mono ?_);rintro e w2 ⟨rfl,l⟩;obtain⟨⟨aI,aM⟩,ag,ah⟩:=Mb w l;(have X2:Ba w w2:=X1.trans l))|(go_at_call 60;(with_reducible refine(z.o w2 X2).mono ?_);rintro e w3 ⟨v3,rfl,j,m⟩;obtain⟨a3,n3,c3,rfl⟩:=j.i;obtain⟨⟨aJ,aO⟩,ai,aj⟩:=Mb w m;(have X3:Ba w w3:=X2.trans m))|(go_at_call 93;(with_reducible refine(an.o w3 _ j.pr).mono ?_);rintro e w4 ⟨rfl,o⟩;obtain⟨⟨aK,aP⟩,ak,al⟩:=Mb w o;(have X4:Ba w w4:=X3.trans o)));go_ret;exact⟨rfl,X4⟩
 by_cases h2:r2<=l1
 ·have e:=Hk.o;rw[if_neg h1,if_pos h2]at e;subst e;go_in;go_wp2_with(first|(go_at_call 60;(with_reducible refine(y.o _ ?_).mono ?_);exact eA;rintro e w1 ⟨v1,rfl,g,K⟩;obtain⟨a1,n1,c1,rfl⟩:=g.i;obtain⟨⟨aH,aL⟩,ae,af⟩:=Mb w K;(have X1:Ba w w1:=eA))|(go_at_call 93;(with_reducible refine(am.o w1 _ g.pr).mono ?_);rintro e w2 ⟨rfl,l⟩;obtain⟨⟨aI,aM⟩,ag,ah⟩:=Mb w l;(have X2:Ba w w2:=X1.trans l))|(go_at_call 60;(with_reducible refine(z.o w2 X2).mono ?_);rintro e w3 ⟨v3,rfl,j,m⟩;obtain⟨a3,n3,c3,rfl⟩:=j.i;obtain⟨⟨aJ,aO⟩,ai,aj⟩:=Mb w m;(have X3:Ba w w3:=X2.trans m))|(go_at_call 93;(with_reducible refine(an.o w3 _ j.pr).mono ?_);rintro e w4 ⟨rfl,o⟩;obtain⟨⟨aK,aP⟩,ak,al⟩:=Mb w o;(have X4:Ba w w4:=X3.trans o)));go_ret;exact⟨rfl,X4⟩
 have b1:=aZ.o h1 h2;have b2:=a0.o h2 h1;have B1:=Aa b1;have B2:=Aa b2;have aW:=Hk.o;rw[if_neg h1,if_neg h2]at aW;have a2:=Aa aW;clear b1 b2 aW;cases f1 with
 |true=>
  have e:=a2.o;rw[if_pos rfl]at e;subst e;go_in;go_upto_region 7 with (first|(go_at_call 60;(with_reducible refine(y.o _ ?_).mono ?_);exact eA;rintro e w1 ⟨v1,rfl,g,K⟩;obtain⟨a1,n1,c1,rfl⟩:=g.i;obtain⟨⟨aH,aL⟩,ae,af⟩:=Mb w K;(have X1:Ba w w1:=eA))|(go_at_call 93;(with_reducible refine(am.o w1 _ g.pr).mono ?_);rintro e w2 ⟨rfl,l⟩;obtain⟨⟨aI,aM⟩,ag,ah⟩:=Mb w l;(have X2:Ba w w2:=X1.trans l))|(go_at_call 60;(with_reducible refine(z.o w2 X2).mono ?_);rintro e w3 ⟨v3,rfl,j,m⟩;obtain⟨a3,n3,c3,rfl⟩:=j.i;obtain⟨⟨aJ,aO⟩,ai,aj⟩:=Mb w m;(have X3:Ba w w3:=X2.trans m))|(go_at_call 93;(with_reducible refine(an.o w3 _ j.pr).mono ?_);rintro e w4 ⟨rfl,o⟩;obtain⟨⟨aK,aP⟩,ak,al⟩:=Mb w o;(have X4:Ba w w4:=X3.trans o)));refine od [(⟨w.heap.size,0,X⟩,.string nm),(⟨w.heap.size,1,X⟩,O a n c),(⟨w.heap.size,2,X⟩,Z Y d),(⟨w.heap.size,3,X⟩,Z Y de),(⟨w.heap.size,4,X⟩,Z Y gx),(⟨w.heap.size,5,X⟩,Z Y gz),(⟨w.heap.size,6,X⟩,Z Y wy),(⟨w.heap.size,7,X⟩,Z Y ax),(⟨w.heap.size,8,X⟩,Z Y az),(⟨w.heap.size,9,X⟩,Z .u8 sk),(⟨w.heap.size+1,0,X⟩,.string aA),(⟨w.heap.size+1,1,X⟩,O a' n' c'),(⟨w.heap.size+1,2,X⟩,Z Y d'),(⟨w.heap.size+1,3,X⟩,Z Y ar),(⟨w.heap.size+1,4,X⟩,Z Y au),(⟨w.heap.size+1,5,X⟩,Z Y av),(⟨w.heap.size+1,6,X⟩,Z Y aC),(⟨w.heap.size+1,7,X⟩,Z Y ap),(⟨w.heap.size+1,8,X⟩,Z Y aq),(⟨w.heap.size+1,9,X⟩,Z .u8 aB)] cA fun f=>?_;refine Qa (i:=0) ?_;refine Qa (i:=2) ?_;refine mc (i:=1) (y.o _ (X4.drew)) ?_;rintro e w5 ⟨v5,rfl,L,r⟩;obtain⟨a5,n5,c5,rfl⟩:=L.i;refine⟨_,rfl,(cE f r),fun f=>?_⟩;refine mc (i:=3) (ao.o w5 (X4.drew.trans r)) ?_;rintro e w6 ⟨v6,rfl,R,u⟩;obtain⟨a6,n6,c6,rfl⟩:=R.i;refine⟨_,rfl,(cE f u),fun f=>?_⟩;refine mc (i:=4) (aF.o w6 _ _ (L.pr.f u) R.pr B1.o) ?_;rintro e w7 ⟨rfl,x⟩;have X7:Ba w w7:=(X4.drew.trans r).trans (u.trans x);refine⟨_,rfl,(cE f x),fun f=>?_⟩;refine Qa (i:=5) ?_;refine Tb ?_;have ab:=r.trans (u.trans x);obtain⟨⟨aS,aT⟩,aD,aE⟩:=Mb w ab;go_wp2;go_ret;exact⟨rfl,X7⟩
 |false=>
  have e1:=a2.o;rw[if_neg dM]at e1;cases f2 with
  |true=>
   rw[if_pos rfl]at e1;subst e1;go_in;go_upto_region 7 with (first|(go_at_call 60;(with_reducible refine(y.o _ ?_).mono ?_);exact eA;rintro e w1 ⟨v1,rfl,g,K⟩;obtain⟨a1,n1,c1,rfl⟩:=g.i;obtain⟨⟨aH,aL⟩,ae,af⟩:=Mb w K;(have X1:Ba w w1:=eA))|(go_at_call 93;(with_reducible refine(am.o w1 _ g.pr).mono ?_);rintro e w2 ⟨rfl,l⟩;obtain⟨⟨aI,aM⟩,ag,ah⟩:=Mb w l;(have X2:Ba w w2:=X1.trans l))|(go_at_call 60;(with_reducible refine(z.o w2 X2).mono ?_);rintro e w3 ⟨v3,rfl,j,m⟩;obtain⟨a3,n3,c3,rfl⟩:=j.i;obtain⟨⟨aJ,aO⟩,ai,aj⟩:=Mb w m;(have X3:Ba w w3:=X2.trans m))|(go_at_call 93;(with_reducible refine(an.o w3 _ j.pr).mono ?_);rintro e w4 ⟨rfl,o⟩;obtain⟨⟨aK,aP⟩,ak,al⟩:=Mb w o;(have X4:Ba w w4:=X3.trans o)));refine od [(⟨w.heap.size,0,X⟩,.string nm),(⟨w.heap.size,1,X⟩,O a n c),(⟨w.heap.size,2,X⟩,Z Y d),(⟨w.heap.size,3,X⟩,Z Y de),(⟨w.heap.size,4,X⟩,Z Y gx),(⟨w.heap.size,5,X⟩,Z Y gz),(⟨w.heap.size,6,X⟩,Z Y wy),(⟨w.heap.size,7,X⟩,Z Y ax),(⟨w.heap.size,8,X⟩,Z Y az),(⟨w.heap.size,9,X⟩,Z .u8 sk),(⟨w.heap.size+1,0,X⟩,.string aA),(⟨w.heap.size+1,1,X⟩,O a' n' c'),(⟨w.heap.size+1,2,X⟩,Z Y d'),(⟨w.heap.size+1,3,X⟩,Z Y ar),(⟨w.heap.size+1,4,X⟩,Z Y au),(⟨w.heap.size+1,5,X⟩,Z Y av),(⟨w.heap.size+1,6,X⟩,Z Y aC),(⟨w.heap.size+1,7,X⟩,Z Y ap),(⟨w.heap.size+1,8,X⟩,Z Y aq),(⟨w.heap.size+1,9,X⟩,Z .u8 aB)] cA fun f=>?_;refine Qa (i:=0) ?_;refine Qa (i:=2) ?_;refine mc (i:=1) (y.o _ (X4.drew)) ?_;rintro e w5 ⟨v5,rfl,L,r⟩;obtain⟨a5,n5,c5,rfl⟩:=L.i;refine⟨_,rfl,(cE f r),fun f=>?_⟩;refine mc (i:=3) (ao.o w5 (X4.drew.trans r)) ?_;rintro e w6 ⟨v6,rfl,R,u⟩;obtain⟨a6,n6,c6,rfl⟩:=R.i;refine⟨_,rfl,(cE f u),fun f=>?_⟩;refine mc (i:=4) (aF.o w6 _ _ (L.pr.f u) R.pr B1.o) ?_;rintro e w7 ⟨rfl,x⟩;have X7:Ba w w7:=(X4.drew.trans r).trans (u.trans x);refine⟨_,rfl,(cE f x),fun f=>?_⟩;refine Qa (i:=5) ?_;refine Tb ?_;have ab:=r.trans (u.trans x);obtain⟨⟨aS,aT⟩,aD,aE⟩:=Mb w ab;go_upto_region 9 with fail;refine od [(⟨w.heap.size,0,X⟩,.string nm),(⟨w.heap.size,1,X⟩,O a n c),(⟨w.heap.size,2,X⟩,Z Y d),(⟨w.heap.size,3,X⟩,Z Y de),(⟨w.heap.size,4,X⟩,Z Y gx),(⟨w.heap.size,5,X⟩,Z Y gz),(⟨w.heap.size,6,X⟩,Z Y wy),(⟨w.heap.size,7,X⟩,Z Y ax),(⟨w.heap.size,8,X⟩,Z Y az),(⟨w.heap.size,9,X⟩,Z .u8 sk),(⟨w.heap.size+1,0,X⟩,.string aA),(⟨w.heap.size+1,1,X⟩,O a' n' c'),(⟨w.heap.size+1,2,X⟩,Z Y d'),(⟨w.heap.size+1,3,X⟩,Z Y ar),(⟨w.heap.size+1,4,X⟩,Z Y au),(⟨w.heap.size+1,5,X⟩,Z Y av),(⟨w.heap.size+1,6,X⟩,Z Y aC),(⟨w.heap.size+1,7,X⟩,Z Y ap),(⟨w.heap.size+1,8,X⟩,Z Y aq),(⟨w.heap.size+1,9,X⟩,Z .u8 aB)] cA fun f=>?_;refine Qa (i:=0) ?_;refine Qa (i:=2) ?_;refine mc (i:=1) (z.o _ (X7.drew)) ?_;rintro e w8 ⟨v8,rfl,aw,ac⟩;obtain⟨a8,n8,c8,rfl⟩:=aw.i;refine⟨_,rfl,(cE f ac),fun f=>?_⟩;refine mc (i:=3) (aG.o w8 (X7.drew.trans ac)) ?_;rintro e w9 ⟨v9,rfl,ay,ad⟩;obtain⟨a9,n9,c9,rfl⟩:=ay.i;refine⟨_,rfl,(cE f ad),fun f=>?_⟩;refine mc (i:=4) (aU.o w9 _ _ (aw.pr.f ad) ay.pr B2.o) ?_;rintro e aY ⟨rfl,aa⟩;have aV:Ba w aY:=(X7.drew.trans ac).trans (ad.trans aa);refine⟨_,rfl,(cE f aa),fun f=>?_⟩;refine Qa (i:=5) ?_;refine Tb ?_;go_wp2;go_ret;exact⟨rfl,aV⟩
  |false=>
   rw[if_neg dM]at e1;subst e1;go_in;go_upto_region 7 with (first|(go_at_call 60;(with_reducible refine(y.o _ ?_).mono ?_);exact eA;rintro e w1 ⟨v1,rfl,g,K⟩;obtain⟨a1,n1,c1,rfl⟩:=g.i;obtain⟨⟨aH,aL⟩,ae,af⟩:=Mb w K;(have X1:Ba w w1:=eA))|(go_at_call 93;(with_reducible refine(am.o w1 _ g.pr).mono ?_);rintro e w2 ⟨rfl,l⟩;obtain⟨⟨aI,aM⟩,ag,ah⟩:=Mb w l;(have X2:Ba w w2:=X1.trans l))|(go_at_call 60;(with_reducible refine(z.o w2 X2).mono ?_);rintro e w3 ⟨v3,rfl,j,m⟩;obtain⟨a3,n3,c3,rfl⟩:=j.i;obtain⟨⟨aJ,aO⟩,ai,aj⟩:=Mb w m;(have X3:Ba w w3:=X2.trans m))|(go_at_call 93;(with_reducible refine(an.o w3 _ j.pr).mono ?_);rintro e w4 ⟨rfl,o⟩;obtain⟨⟨aK,aP⟩,ak,al⟩:=Mb w o;(have X4:Ba w w4:=X3.trans o)));refine od [(⟨w.heap.size,0,X⟩,.string nm),(⟨w.heap.size,1,X⟩,O a n c),(⟨w.heap.size,2,X⟩,Z Y d),(⟨w.heap.size,3,X⟩,Z Y de),(⟨w.heap.size,4,X⟩,Z Y gx),(⟨w.heap.size,5,X⟩,Z Y gz),(⟨w.heap.size,6,X⟩,Z Y wy),(⟨w.heap.size,7,X⟩,Z Y ax),(⟨w.heap.size,8,X⟩,Z Y az),(⟨w.heap.size,9,X⟩,Z .u8 sk),(⟨w.heap.size+1,0,X⟩,.string aA),(⟨w.heap.size+1,1,X⟩,O a' n' c'),(⟨w.heap.size+1,2,X⟩,Z Y d'),(⟨w.heap.size+1,3,X⟩,Z Y ar),(⟨w.heap.size+1,4,X⟩,Z Y au),(⟨w.heap.size+1,5,X⟩,Z Y av),(⟨w.heap.size+1,6,X⟩,Z Y aC),(⟨w.heap.size+1,7,X⟩,Z Y ap),(⟨w.heap.size+1,8,X⟩,Z Y aq),(⟨w.heap.size+1,9,X⟩,Z .u8 aB)] cA fun f=>?_;refine Qa (i:=0) ?_;refine Qa (i:=2) ?_;refine mc (i:=1) (y.o _ (X4.drew)) ?_;rintro e w5 ⟨v5,rfl,L,r⟩;obtain⟨a5,n5,c5,rfl⟩:=L.i;refine⟨_,rfl,(cE f r),fun f=>?_⟩;refine mc (i:=3) (ao.o w5 (X4.drew.trans r)) ?_;rintro e w6 ⟨v6,rfl,R,u⟩;obtain⟨a6,n6,c6,rfl⟩:=R.i;refine⟨_,rfl,(cE f u),fun f=>?_⟩;refine mc (i:=4) (aF.o w6 _ _ (L.pr.f u) R.pr B1.o) ?_;rintro e w7 ⟨rfl,x⟩;have X7:Ba w w7:=(X4.drew.trans r).trans (u.trans x);refine⟨_,rfl,(cE f x),fun f=>?_⟩;refine Qa (i:=5) ?_;refine Tb ?_;have ab:=r.trans (u.trans x);obtain⟨⟨aS,aT⟩,aD,aE⟩:=Mb w ab;go_upto_region 9 with fail;refine od [(⟨w.heap.size,0,X⟩,.string nm),(⟨w.heap.size,1,X⟩,O a n c),(⟨w.heap.size,2,X⟩,Z Y d),(⟨w.heap.size,3,X⟩,Z Y de),(⟨w.heap.size,4,X⟩,Z Y gx),(⟨w.heap.size,5,X⟩,Z Y gz),(⟨w.heap.size,6,X⟩,Z Y wy),(⟨w.heap.size,7,X⟩,Z Y ax),(⟨w.heap.size,8,X⟩,Z Y az),(⟨w.heap.size,9,X⟩,Z .u8 sk),(⟨w.heap.size+1,0,X⟩,.string aA),(⟨w.heap.size+1,1,X⟩,O a' n' c'),(⟨w.heap.size+1,2,X⟩,Z Y d'),(⟨w.heap.size+1,3,X⟩,Z Y ar),(⟨w.heap.size+1,4,X⟩,Z Y au),(⟨w.heap.size+1,5,X⟩,Z Y av),(⟨w.heap.size+1,6,X⟩,Z Y aC),(⟨w.heap.size+1,7,X⟩,Z Y ap),(⟨w.heap.size+1,8,X⟩,Z Y aq),(⟨w.heap.size+1,9,X⟩,Z .u8 aB)] cA fun f=>?_;refine Qa (i:=0) ?_;refine Qa (i:=2) ?_;refine mc (i:=1) (z.o _ (X7.drew)) ?_;rintro e w8 ⟨v8,rfl,aw,ac⟩;obtain⟨a8,n8,c8,rfl⟩:=aw.i;refine⟨_,rfl,(cE f ac),fun f=>?_⟩;refine mc (i:=3) (aG.o w8 (X7.drew.trans ac)) ?_;rintro e w9 ⟨v9,rfl,ay,ad⟩;obtain⟨a9,n9,c9,rfl⟩:=ay.i;refine⟨_,rfl,(cE f ad),fun f=>?_⟩;refine mc (i:=4) (aU.o w9 _ _ (aw.pr.f ad) ay.pr B2.o) ?_;rintro e aY ⟨rfl,aa⟩;have aV:Ba w aY:=(X7.drew.trans ac).trans (ad.trans aa);refine⟨_,rfl,(cE f aa),fun f=>?_⟩;refine Qa (i:=5) ?_;refine Tb ?_;go_wp2;go_ret;exact⟨rfl,aV⟩
end
section
open Go.RowKit Go.Shelf Go.Sort Go.Lib
attribute [local go_sem] Oper.semAt_some
def Tf(z:Int):Bool:=decide (0<=z)&&decide (z<=10000)
def XL(w:V)(z:Int):Calls Tryz.prog 41 #[Z Y z] w fun e d=>e=.returned (J (Tf z))/\d=w:=by
 unfold Tf;by_cases a:0<=z<;>by_cases c:z<=10000
 all_goals
  go_in;go_wp2;go_ret;exact⟨by simp[a,c],rfl⟩
def Xj(a b c d:Int):Bool:=decide (max a c<min b d)
def UL(w:V)(a b c d:Int):Calls Tryz.prog 63 #[Z Y a,Z Y b,Z Y c,Z Y d] w fun e k=>e=.returned (J (Xj a b c d))/\k=w:=by
 have e:Xj a b c d=(decide (a<d)&&(decide (c<b)&&(decide (a<b)&&decide (c<d)))):=by
  unfold Xj;rw[<-Bool.decide_and,<-Bool.decide_and,<-Bool.decide_and,decide_eq_decide];omega
 rw[e];clear e;by_cases f:a<d<;>by_cases g:c<b<;>by_cases i:a<b<;>by_cases j:c<d
 all_goals
  go_in;go_wp2;go_ret;exact⟨by simp[f,g,i,j],rfl⟩
def ZA(w:V)(a b c d:Int):Calls Tryz.prog 63 #[Z Y a,Z Y b,Z Y c,Z Y d] w fun e i=>e=.returned (J (Xj a b c d))/\Ba w i:=
 (UL w a b c d).mono fun _ _ ⟨f,g⟩=>⟨f,by rw[g];exact eR _⟩
def Ey(w:V)(p:Pl)(v:M)(s:Int)(hv:∃a n c,v=O a n c):Calls Tryz.prog 42 #[E (Dd p v),Z .u8 s] w fun e l=>e=.returned (J (p.skin==s || p.skin==3))/\Ba w l:=by
 obtain⟨a,n,c,rfl⟩:=hv;obtain⟨x,y,d,r,t,u,z,m,o,f⟩:=p;unfold Dd;dsimp only;by_cases g:f=s
 ·have j:(f==s)=true:=by simpa using g
  rw[j];clear g;go_in;go_wp2;go_ret;exact⟨rfl,eA⟩
 have j:(f==s)=false:=by simpa using g
 rw[j];clear g;by_cases i:f=3
 ·have k:(f==3)=true:=by simpa using i
  rw[k];clear i;go_in;go_wp2;go_ret;exact⟨rfl,eA⟩
 ·have k:(f==3)=false:=by simpa using i
  rw[k];clear i;go_in;go_wp2;go_ret;exact⟨rfl,eA⟩
def yg(r:Ru):Bool:=(r.skin==1 || r.skin==2)&&(decide (0<=r.pin)&&(decide (r.pin<=50)&&(Tf r.wide&&(Tf r.lap&&(Tf r.step&&(Tf r.run&&Tf r.level))))))
def Qt{p q:Prop}[Decidable p][Decidable q](h:p ↔ ¬q):decide p=!decide q:=by by_cases a:q<;>simp[h,a]
def NE(r:Ru):yg r=decide (Lb r=0):=by
 have f:∀z,Rg z=!Tf z:=fun z=>by
  unfold Rg Tf;by_cases a:0<=z<;>by_cases c:z<=10000<;>simp[a,c]<;>omega
 unfold yg Lb;simp only[List.any_cons,List.any_nil,f];by_cases a:r.skin=1<;>by_cases c:r.skin=2<;>by_cases d:r.pin<0<;>by_cases e:50<r.pin
 all_goals
  have g:decide (0<=r.pin)=!decide (r.pin<0):=Qt oM;have i:decide (r.pin<=50)=!decide (50<r.pin):=Qt oM;rw[g,i];simp[a,c,d,e]
 all_goals
  cases Tf r.wide<;>cases Tf r.lap<;>cases Tf r.step<;>cases Tf r.run<;>cases Tf r.level<;>rfl
def pS:∀b3 b4 c1 c2 c3 c4 c5:Bool,b3=false\/(b3=true/\b4=false)\/(b3=true/\b4=true/\c1=false)\/(b3=true/\b4=true/\c1=true/\c2=false)\/(b3=true/\b4=true/\c1=true/\c2=true/\c3=false)\/(b3=true/\b4=true/\c1=true/\c2=true/\c3=true/\c4=false)\/(b3=true/\b4=true/\c1=true/\c2=true/\c3=true/\c4=true/\c5=false)\/(b3=true/\b4=true/\c1=true/\c2=true/\c3=true/\c4=true/\c5=true):=by intro b3 b4 c1 c2 c3 c4 c5;cases b3<;>cases b4<;>cases c1<;>cases c2<;>cases c3<;>cases c4<;>cases c5<;>simp
def YF(w:V)(r:Ru):Calls Tryz.prog 13 #[E (xg r)] w fun e w'=>e=.returned (J (yg r))/\Ba w w':=by
 obtain⟨t,c,d,j,step,k,a⟩:=r;unfold yg xg;dsimp only;obtain⟨f,R⟩:=gX ((t==1));obtain⟨g,e2⟩:=gX ((t==2));obtain⟨u,e3⟩:=gX (decide (0<=c));obtain⟨v,i⟩:∃b,decide (c<=50)=b:=⟨_,rfl⟩;obtain⟨x,l⟩:=gX (Tf d);obtain⟨y,m⟩:=gX (Tf j);obtain⟨z,n⟩:=gX (Tf step);obtain⟨K,o⟩:=gX (Tf k);obtain⟨L,p⟩:=gX (Tf a);rw[R,e2,e3,i,l,m,n,o,p];have hs:(f=true\/(f=false/\g=true))\/(f=false/\g=false):=by cases f<;>cases g<;>simp
 have s:=pS u v x y z K L;rcases hs with (rfl|⟨rfl,rfl⟩)|⟨rfl,rfl⟩
 rotate_left 2
 ·clear s;go_in;go_wp2;go_ret;exact⟨rfl,eA⟩
 all_goals
  rcases s with rfl|⟨rfl,rfl⟩|⟨rfl,rfl,rfl⟩|⟨rfl,rfl,rfl,rfl⟩|⟨rfl,rfl,rfl,rfl,rfl⟩|⟨rfl,rfl,rfl,rfl,rfl,rfl⟩|⟨rfl,rfl,rfl,rfl,rfl,rfl,rfl⟩|⟨rfl,rfl,rfl,rfl,rfl,rfl,rfl⟩
 all_goals
  go_in;go_wp2_with(go_at_call 41;(with_reducible refine(XL _ _).mono ?_);rintro e w1 ⟨rfl,rfl⟩;first|rw[l]|rw[m]|rw[n]|rw[o]|rw[p]);go_ret;exact⟨rfl,eA⟩
