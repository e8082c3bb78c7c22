import Derived.Test.YtgimcmpeceifnaaGreatDoorComA19
import Derived.Laws.IdiomStrings
set_option maxRecDepth 1000000
set_option maxHeartbeats 16000000
set_option linter.all false
open Go.Value renaming slice->O,int->Z,bool->I,agg->E,pointer->F,tuple->D
open Go.IntKind renaming i64->Y
open Option renaming none->X,some->J
open Go renaming World->V,Value->M
open Go.Obj renaming cells->C
namespace Go.Proofs.YtgimcmpeceifnaaGreatDoor.Cop
section
open Go.RowKit Go.Shelf Go.Maps Go.Sort Go.Lib
attribute [local go_sem] Oper.semAt_some
def rH(W0:V)(base B c e:Nat)(ks:List (JS×M))(a:List Be)(f:Nat->List Int)(d:Nat)(t51:M)(W:V):Prop:=
 ∃q N:Nat,q<=a.length/\t51=Z Y q/\d=a.length-q/\N<=c+q/\rh base B W0 W/\Gm W base B N (Ih f e (Zf ks a q))
def JF{W base v zs}(h:Ea 3 1 W base v (zs.map ic))(a:∀z∈zs,(Lit.int Y z).wf=true):W.ownsInts base 3 Y v zs:=by
 have e:(zs.map ic).flatten=zs.map (Value.int Y):=by
  clear h a;induction zs with
  | nil=>rfl
  | cons z zs c=>rw[List.map_cons,List.flatten_cons,c];rfl
 refine⟨?_,a⟩;have:=h.2;rw[e,lL]at this;exact this
def OC{W0 wr k d l g base B i N c q ks a f v cs nb}(w:q<a.length)(u:N<=i+q)(e:rh base B W0 wr)(m:Ba wr k)(n:Ba k d)(p:Ea 3 1 d base v cs)(o:d.grownBy l v.ownBlock)(r:l.grownBy g (J B))(t:Zf ks a (q+1)=Zf ks a q++[nb])(s:Gm g base B (N+1) (fun j=>if j=c then Ih f c (Zf ks a q) c++[nb]else Ih f c (Zf ks a q) j)):rH W0 base B i c ks a f (a.length-(q+1)) (Z Y (((q+1:Nat)):Int)) g:=
 ⟨q+1,N+1,by omega,rfl,rfl,by omega,((e.trans (rh.ofExt (m.trans n))).trans (rh.ofRow p o)).trans (rh.ofMap r),by rw[t,<-DO];exact s⟩
def XP W0(sb b5 b7 B base N0 kk:Nat) r vg vp vs vj vr ks bs f aP ba bn bc Q x1 x2 x3 x4 x6 x8 x9 a1 cn a3 a4 a5 a6 a7 a8 a9 bf bg bh bi bj bk bl bm bp bq br bt bu bv bw bx bz bA bB bC bD bE bF bG bH bI bJ bK bL bM co cp cq cr ct cu cv cx cy cz cB cC cD cF cG cH cI cJ cK cL cN cO cP cQ cR cS bN bO bP bQ bT bU bV bW(hS:W0.heap[sb]?=J (C (nj r vg vp vs vj vr) 89 (0,0)))(ah:Ge W0 vs ks)(aY:∀j∈ks,∃a n c,j.2=O a n c)(h5:W0.heap[b5]?=J (C #[.map (J B)] 171 (0,0)))(h7:W0.heap[b7]?=J (C aP 113 (0,0)))(aS:aP[10]?=J (Z Y kk))(ag:Kn W0 (O ba bn bc) bs)(ch:bs.length<=121)(hG:Gm W0 base B N0 f)(dw:N0<=100000)(aX:kk<1000)(cg:base<=W0.heap.size)(hz:∀b∈bs,-1<=b.num/\b.num<=1000)(aT:En Q)(hQ:∀(cU cT cV cW cX cY cZ c0 c3 c4 c6 c8 da db dc de dg dh di dj dk dl dm dn dp dq dr ds:M)(W:V)(N:Nat),rh base B W0 W->Gm W base B N (Ih f kk (Zf ks bs bs.length))->N<=N0+bs.length->Q (.exit 2) { tmps:=#[F (J ⟨sb,0,X⟩),x1,x2,x3,x4,F (J ⟨b5,0,X⟩),x6,F (J ⟨b7,0,X⟩),x8,x9,a1,cT,a3,a4,a5,a6,a7,a8,a9,bf,bg,bh,bi,bj,bk,bl,bm,bp,bq,br,bt,bu,bv,bw,bx,bz,bA,bB,bC,bD,bE,bF,bG,bH,bI,bJ,bK,bL,bM,O ba bn bc,Z Y bn,cU,cV,cW,cX,cY,cZ,c0,c3,c4,c6,c8,da,db,dc,de,dg,dh,di,dj,dk,dl,dm,dn,dp,dq,dr,ds,bN,bO,bP,bQ,bT,bU,bV,bW],defers:=[] } W) :
  (Code.loop (Tb Tryz.f66 1)).wp Tryz.prog Q { tmps:=#[F (J ⟨sb,0,X⟩),x1,x2,x3,x4,F (J ⟨b5,0,X⟩),x6,F (J ⟨b7,0,X⟩),x8,x9,a1,cn,a3,a4,a5,a6,a7,a8,a9,bf,bg,bh,bi,bj,bk,bl,bm,bp,bq,br,bt,bu,bv,bw,bx,bz,bA,bB,bC,bD,bE,bF,bG,bH,bI,bJ,bK,bL,bM,O ba bn bc,Z Y bn,Z Y 0,co,cp,cq,cr,ct,cu,cv,cx,cy,cz,cB,cC,cD,cF,cG,cH,cI,cJ,cK,cL,cN,cO,cP,cQ,cR,cS,bN,bO,bP,bQ,bT,bU,bV,bW],defers:=[] } W0:=by
 have l:=za (show bn=bs.length from ag.len);have dt:bn<=121:=by have:=l.o;omega
 have HS:=za hS;have b3:=za ah;have b4:=za aY;have H5:=za h5;have H7:=za h7;have bZ:=za ag;have HG:=za hG;have Hz:=za hz;have HQ:=za hQ;have aO:=za aT;have ck:=Ma ah;obtain⟨va,vn,vc,rfl⟩:=ck;have ak:B≠sb/\B≠b5/\B≠b7:=by
  obtain⟨es,b6,hm⟩:=hG.map;refine⟨fun e=>?_,fun e=>?_,fun e=>?_⟩<;>subst e
  ·rw[hS]at hm;cases hm
  ·rw[h5]at hm;cases hm
  ·rw[h7]at hm;cases hm
 clear hS ah aY h5 h7 ag hG hz hQ ch aT;unfold Tb;simp only[Tryz.f66,Jb,List.append_nil,List.nil_append,List.singleton_append,List.cons_append,List.getD_cons_zero,List.getD_cons_succ];go_loopg [51] bn (rH W0 base B N0 kk ks bs f)
 case atStart=>exact⟨0,N0,by omega,rfl,by rw[l.o];rfl,by omega,rh.refl _ _ _,by rw[show Zf ks bs 0=[]from rfl,NL];exact HG.o⟩
 case round =>
  obtain⟨q,N,hq,rfl,rfl,hN,L,hg⟩:=hrel;rw[<-l.o]at hq;have hS:=L.2 sb _ HS.o (Ne.symm ak.1) (.inr fun cs fr e=>by cases e);have h5:=L.2 b5 _ H5.o (Ne.symm ak.2.1) (.inr fun cs fr e=>by cases e);have h7:=L.2 b7 _ H7.o (Ne.symm ak.2.2) (.inr fun cs fr e=>by cases e);have ah:Ge wr (O va vn vc) ks:=b3.o.keep (L.keepT dM HG.o.notCells);have ag:Kn wr (O ba bn bc) bs:=Sl.keep bZ.o (fun _ _ h=>h) (L.keepT dM HG.o.notCells);have dz:=L.1.1;by_cases aM:q<bn
  ·obtain⟨be,aF⟩:∃b,bs[q]?=J b:=⟨bs[q]'(by rw[<-l.o];exact aM),gE _⟩;obtain⟨bb,bo,dd,rfl,dx,ci,⟨a,m,c1,s,a2,m2,c2,b1,n,k,t,b2,n2,k2,a',m',c',s',ab,ao,ae,b',n',k',t',ac,ap,an,e1,e2,e3,e4,aV⟩,R⟩:=ag.at aF;obtain⟨nb,cj⟩:=gX be.num;have cl:=Hz.o be (lM aF);have am:=EO (ks:=ks) aF;rw[cj]at aV cl am;subst aV;have d0:=R 0 (Z Y nb) rfl;have d1:=R 1 (O a m c1) rfl;have d2:=R 2 (I s) rfl;have d3:=R 3 (O a2 m2 c2) rfl;have d4:=R 4 (O b1 n k) rfl;have d5:=R 5 (I t) rfl;have d6:=R 6 (O b2 n2 k2) rfl;have d7:=R 7 (O a' m' c') rfl;have d8:=R 8 (I s') rfl;have d9:=R 9 (O ab ao ae) rfl;have b8:=R 10 (O b' n' k') rfl;have b9:=R 11 (I t') rfl;have ca:=R 12 (O ac ap an) rfl;have cb:=R 13 (Z Y e1) rfl;have cc:=R 14 (Z Y e2) rfl;have cd:=R 15 (Z Y e3) rfl;have ce:=R 16 (Z Y e4) rfl;simp only[Nat.add_zero]at d0;have c9:=Aa hS 9 (O va vn vc);have c5:=Aa h5 0 (.map (J B));have c7:=Lb h7 (i:=10) (u:=Z Y kk) aS;have zs:=Ya hS;have z5:=Ya h5;have z7:=Ya h7;have dD:sb<wr.heap.size+1:=oM;have dB:b5<wr.heap.size+1:=oM;have dC:b7<wr.heap.size+1:=oM;have dy:∀(fn:Fn)(first cap:Array M)(w:V),(Instr.makeFunc fn first cap).run Tryz.prog w = .ok (.func fn first cap) w:=fun _ _ _ _=>rfl;have Hg:=za hg;have aq:=za L;have aE:=za am;have HC:=za (fun(W:V)(hW:Ba wr W)(hb:W.heap[wr.heap.size]?=J (C #[Z Y nb,O a m c1,I s,O a2 m2 c2,O b1 n k,I t,O b2 n2 k2,O a' m' c',I s',O ab ao ae,O b' n' k',I t',O ac ap an,Z Y e1,Z Y e2,Z Y e3,Z Y e4] 185 (0,0)))=>UP W (O va vn vc) ks wr.heap.size (fun x=>x.k==nb) (ah.f hW) (fun W' cf j hj=>QM W' j wr.heap.size nb #[Z Y nb,O a m c1,I s,O a2 m2 c2,O b1 n k,I t,O b2 n2 k2,O a' m' c',I s',O ab ao ae,O b' n' k',I t',O ac ap an,Z Y e1,Z Y e2,Z Y e3,Z Y e4] (b4.o j hj) (cf.e hb) rfl));have bX:=za h5;have bY:=za h7;clear aF R hS h5 h7 ah ag hg am ci L;by_cases aZ:0<=nb
   ·cases hany:ks.any (fun x=>x.1.k==nb)with
    |true=>
     (have au:mg ks nb=true:=by unfold mg;rw[hany];simp[aZ]);rw[hany]at HC;go_wp2_with(go_at_call 100;refine cM (HC.o _ ((eR wr).alloc _) (aN _ _)) ?_;rintro e w2 ⟨rfl,aD⟩);have X2:=((eR wr).alloc (C #[Z Y nb,O a m c1,I s,O a2 m2 c2,O b1 n k,I t,O b2 n2 k2,O a' m' c',I s',O ab ao ae,O b' n' k',I t',O ac ap an,Z Y e1,Z Y e2,Z Y e3,Z Y e4] 185)).trans aD;have aK:=X2.e bX.o;have aL:=X2.e bY.o;have aa:=aD.e (aN wr (C #[Z Y nb,O a m c1,I s,O a2 m2 c2,O b1 n k,I t,O b2 n2 k2,O a' m' c',I s',O ab ao ae,O b' n' k',I t',O ac ap an,Z Y e1,Z Y e2,Z Y e3,Z Y e4] 185));have aI:=Hg.o.ext X2;(have aU:base<=w2.heap.size:=by have:=X2.size;omega);obtain⟨ar,ay⟩:=gX wr.heap.size;rw[ay]at aa;simp only[ay];have e5:=Aa aK 0 (.map (J B));have e7:=Lb aL (i:=10) (u:=Z Y kk) aS;have du:=Aa aa 0 (Z Y nb);have az:B≠ar:=by
      intro e;subst e;exact aI.notCells _ _ aa
     have D9:Ba w2 (w2.alloc (C #[Z Y nb] 3)).drew:=((eR w2).alloc _).drew;have aQ:=D9.e aK;have aR:=D9.e aL;have aG:=D9.e aa;have aH:base<=(w2.alloc (C #[Z Y nb] 3)).drew.heap.size:=nT aU D9.size;clear c9 c5 c7 d0 d1 d2 d3 d4 d5 d6 d7 d8 d9 b8 b9 ca cb cc cd ce aD ay aK aL aa;go_wp2;refine jd [(⟨b5,0,X⟩,.map (J B)),(⟨b7,10,X⟩,Z Y kk),(⟨ar,0,X⟩,Z Y nb)] cA fun o=>?_;refine sN 0 ?_
     (iterate 6 refine Db (h4:=Ic aO) ?_);refine oN ?_;refine sN 7 ?_
     (iterate 2 refine Db (h4:=Ic aO) ?_);refine oN ?_;refine yn (i:=6) (j:=9) (fun K y=>?h1f) (fun K y=>?h2f)
     case h1f =>
      obtain⟨v,a0,aC,cm,af⟩:=(aI.ext (eR w2).drew).at (by unfold maxLen;omega) aX;go_simp;refine kO y o (fun o=>?_);clear y K;refine Te (i:=9) fun K y=>?_;go_simp;refine kO y (cE o ((eR _).alloc _)) (fun o=>?_);clear y K;have hX:=((eR w2.drew).alloc (C #[Z Y nb] 3));have hO:=(qq aC).ext (w':=(w2.alloc (C #[Z Y nb] 3)).drew) hX;have aA:=(hO).ne_blkD aQ dM;have aB:=(hO).ne_blkD aR dM;have aj:=(hO).ne_blkD aG dM;have aw:∀q∈[((⟨b5,0,X⟩:Addr),Value.map (J B)),(⟨b7,10,X⟩,Z Y kk),(⟨ar,0,X⟩,Z Y nb)],J q.1.block≠v.ownBlock:=by
       intro q hq e;simp at hq;rcases hq with rfl|rfl|rfl
       ·exact aA e.symm
       ·exact aB e.symm
       ·exact aj e.symm
      have ax:∀q∈[((⟨b5,0,X⟩:Addr),Value.map (J B)),(⟨b7,10,X⟩,Z Y kk),(⟨ar,0,X⟩,Z Y nb)],J q.1.block≠J B:=by
       intro q hq e;simp at hq;rcases hq with rfl|rfl|rfl
       ·exact ak.2.1 (by simpa using e.symm)
       ·exact ak.2.2 (by simpa using e.symm)
       ·exact az (by simpa using e.symm)
      refine Te (i:=10) fun K y=>?_;refine kp (T:=3) (t:=47) (z:=Z Y 0) (k:=1) (bytes:=8) (v:=v) (base:=base) gw rfl dM dM Tryz.underlying47 rfl _ _ rfl rfl (hO) (ad:=⟨w2.heap.size,0,X⟩) (m:=1) (c:=1) rfl [ic nb] rfl (by simp[ic]) (fun j u hj=>Ox w2 nb 3 j u hj) (yx nb) (by rw[lL];omega) aH ?_;intro v' w3 p d ai;refine kO y (Da.grown o d aw) (fun o=>?_);clear y K;rw[<-show ∀(zs:List Int),(zs++[nb]).map ic=zs.map ic++[ic nb]from fun zs=>by simp]at p;obtain⟨w4,al,av,g⟩:=af w3 v' nb ((Ck (Mn w2.drew v.ownBlock) (hX.belowB (nE _))).trans d) (JF p (fun z hz=>by rcases List.mem_append.1 hz with h|h;exact aC.2 z h;rw[List.mem_singleton.1 h];exact WalkArith.wf_i64 oM)) (ai.imp id (fun h=>⟨_,h,hX.size⟩));refine Te (i:=11) fun K y=>?_;go_simp;refine kO y (Da.grown o g ax) (fun o=>?_);clear y K;refine Pb ?_;have aJ:=za (OC (by rw[<-l.o];exact aM) hN aq.o X2 ((eR w2).alloc _).drew (hO) d g (by rw[aE.o,if_pos au]) av);clear o al d g av p;go_wp2;go_roundg (bn-(q+1))
      case measure=>have:=l.o;omega
      case rel =>
       obtain⟨q9,N9,h1,h2,h3⟩:=aJ.o;exact⟨q9,N9,h1,by rw[<-h2];go_num,by rw[l.o];exact h3⟩
     case h2f =>
      obtain⟨v,a0,aC,cm,af⟩:=(aI.ext D9).at (by unfold maxLen;omega) aX;go_simp;refine kO y (cE o ((eR _).alloc _)) (fun o=>?_);clear y K;refine Te (i:=6) fun K y=>?_;go_simp;refine kO y o (fun o=>?_);clear y K;have hO:=qq aC;have aA:=(hO).ne_blkD aQ dM;have aB:=(hO).ne_blkD aR dM;have aj:=(hO).ne_blkD aG dM;have aw:∀q∈[((⟨b5,0,X⟩:Addr),Value.map (J B)),(⟨b7,10,X⟩,Z Y kk),(⟨ar,0,X⟩,Z Y nb)],J q.1.block≠v.ownBlock:=by
       intro q hq e;simp at hq;rcases hq with rfl|rfl|rfl
       ·exact aA e.symm
       ·exact aB e.symm
       ·exact aj e.symm
      have ax:∀q∈[((⟨b5,0,X⟩:Addr),Value.map (J B)),(⟨b7,10,X⟩,Z Y kk),(⟨ar,0,X⟩,Z Y nb)],J q.1.block≠J B:=by
       intro q hq e;simp at hq;rcases hq with rfl|rfl|rfl
       ·exact ak.2.1 (by simpa using e.symm)
       ·exact ak.2.2 (by simpa using e.symm)
       ·exact az (by simpa using e.symm)
      refine Te (i:=10) fun K y=>?_;refine kp (T:=3) (t:=47) (z:=Z Y 0) (k:=1) (bytes:=8) (v:=v) (base:=base) gw rfl dM dM Tryz.underlying47 rfl _ _ rfl rfl (hO) (ad:=⟨w2.heap.size,0,X⟩) (m:=1) (c:=1) rfl [ic nb] rfl (by simp[ic]) (fun j u hj=>Ox w2 nb 3 j u hj) (yx nb) (by rw[lL];omega) aH ?_;intro v' w3 p d ai;refine kO y (Da.grown o d aw) (fun o=>?_);clear y K;rw[<-show ∀(zs:List Int),(zs++[nb]).map ic=zs.map ic++[ic nb]from fun zs=>by simp]at p;obtain⟨w4,al,av,g⟩:=af w3 v' nb (d) (JF p (fun z hz=>by rcases List.mem_append.1 hz with h|h;exact aC.2 z h;rw[List.mem_singleton.1 h];exact WalkArith.wf_i64 oM)) (ai.imp id (fun h=>⟨_,h,nE _⟩));refine Te (i:=11) fun K y=>?_;go_simp;refine kO y (Da.grown o g ax) (fun o=>?_);clear y K;refine Pb ?_;have aJ:=za (OC (by rw[<-l.o];exact aM) hN aq.o X2 ((eR w2).alloc _).drew (hO) d g (by rw[aE.o,if_pos au]) av);clear o al d g av p;go_wp2;go_roundg (bn-(q+1))
      case measure=>have:=l.o;omega
      case rel =>
       obtain⟨q9,N9,h1,h2,h3⟩:=aJ.o;exact⟨q9,N9,h1,by rw[<-h2];go_num,by rw[l.o];exact h3⟩
    |false=>
     (have au:¬mg ks nb=true:=by unfold mg;rw[hany];simp);rw[hany]at HC;go_wp2_with(go_at_call 100;refine cM (HC.o _ ((eR wr).alloc _) (aN _ _)) ?_;rintro e w2 ⟨rfl,aD⟩);go_roundg (bn-(q+1))
     case measure=>have:=l.o;omega
     case rel =>
      have X2:=((eR wr).alloc (C #[Z Y nb,O a m c1,I s,O a2 m2 c2,O b1 n k,I t,O b2 n2 k2,O a' m' c',I s',O ab ao ae,O b' n' k',I t',O ac ap an,Z Y e1,Z Y e2,Z Y e3,Z Y e4] 185)).trans aD;refine⟨q+1,N,by rw[<-l.o];omega,by go_num,by rw[<-l.o],by omega,aq.o.trans (rh.ofExt X2),?_⟩;rw[aE.o,if_neg au,List.append_nil];exact Hg.o.ext X2
   ·(have au:¬mg ks nb=true:=by unfold mg;simp[aZ]);go_wp2;go_roundg (bn-(q+1))
    case measure=>have:=l.o;omega
    case rel =>
     have X2:=(eR wr).alloc (C #[Z Y nb,O a m c1,I s,O a2 m2 c2,O b1 n k,I t,O b2 n2 k2,O a' m' c',I s',O ab ao ae,O b' n' k',I t',O ac ap an,Z Y e1,Z Y e2,Z Y e3,Z Y e4] 185);refine⟨q+1,N,by rw[<-l.o];omega,by go_num,by rw[<-l.o],by omega,aq.o.trans (rh.ofExt X2),?_⟩;rw[aE.o,if_neg au,List.append_nil];exact Hg.o.ext X2
  ·obtain rfl:q=bn:=oM;have aW:Gm wr base B N (Ih f kk (Zf ks bs bs.length)):=by rw[<-l.o];exact hg
   have b0:=za aW;have aq:=za L;clear hg L hS h5 h7 ah ag aW;go_wp2;exact HQ.o _ _ _ _ _ _ _ _ _ _ _ _ _ _ _ _ _ _ _ _ _ _ _ _ _ _ _ _ wr N aq.o b0.o (by rw[<-l.o];exact hN)
end
section
open Go.RowKit Go.Shelf Go.Sort Go.Lib
end
section
open Go.RowKit Go.Shelf Go.Sort
attribute [local go_sem] Oper.semAt_some
def Uv w v p(h:Ab w v p.shape)(f:Fa p=true):Calls Tryz.prog 60 #[E (Dd p v)] w (Ni w (Ga p)):=by have u:=fun W (L:Ba w W)=>Ly W v p (h.f L) f;obtain⟨t,K,Wi⟩:=oo f;have o:=Dl f;have g:=QK f;have m:=za u;have y:Ua (∀q∈Ca p,Bd 3000000 q.1/\Bd 3000000 q.2):=za (fun q R=>by have:=t q R;unfold Bd at *;omega);have n:=za g;have k:=za Wi;have z:Ua ((Ga p).length<=1000):=za (by have:=o.1.2.2;have:=o.2.2.2;omega);obtain⟨a,c,rfl⟩:=h.form;obtain⟨nm,l,d,de,gx,gz,wy,ax,az,sk⟩:=p;dsimp only at *;unfold Dd;unfold Dd at m;dsimp only at m ⊢;clear u t K Wi o g h;go_in;go_wp2_with(first|(go_at_call 80;refine cM (m.o _ eA) ?_;rintro e x ⟨v1,rfl,i,aa⟩;obtain⟨a1,n1,c1,rfl⟩:=i.i)|(go_at_call 96;(with_reducible refine(nG x _ _ _ (1) dM i.pr n.o y.o (by have:=k.o;omega) z.o).mono ?_);rintro e w2 ⟨v2,rfl,j,r⟩;obtain⟨a2,n2,c2,rfl⟩:=j.i));go_ret;have s:Ba w x:=eA;exact⟨_,rfl,j.mono s.size,s.trans r⟩
def CD w v p(h:Ab w v p.shape)(f:Fa p=true):Calls Tryz.prog 97 #[E (Dd p v)] w (Ni w (Mb p)):=by have u:=fun W (L:Ba w W)=>Ly W v p (h.f L) f;obtain⟨t,K,Wi⟩:=oo f;have o:=Dl f;have g:=LH f;have m:=za u;have y:Ua (∀q∈Ca p,Bd 3000000 q.1/\Bd 3000000 q.2):=za (fun q R=>by have:=t q R;unfold Bd at *;omega);have n:=za g;have k:=za Wi;have z:Ua ((Mb p).length<=1000):=za (by have:=o.1.2.2;have:=o.2.2.2;omega);obtain⟨a,c,rfl⟩:=h.form;obtain⟨nm,l,d,de,gx,gz,wy,ax,az,sk⟩:=p;dsimp only at *;unfold Dd;unfold Dd at m;dsimp only at m ⊢;clear u t K Wi o g h;go_in;go_wp2_with(first|(go_at_call 80;refine cM (m.o _ eA) ?_;rintro e x ⟨v1,rfl,i,aa⟩;obtain⟨a1,n1,c1,rfl⟩:=i.i)|(go_at_call 96;(with_reducible refine(nG x _ _ _ (-1) dM i.pr n.o y.o (by have:=k.o;omega) z.o).mono ?_);rintro e w2 ⟨v2,rfl,j,r⟩;obtain⟨a2,n2,c2,rfl⟩:=j.i));go_ret;have s:Ba w x:=eA;exact⟨_,rfl,j.mono s.size,s.trans r⟩
def Ct w n(k:-9223372036854775808<=n)(l:n<=9223372036854775807):Calls Tryz.prog 133 #[Z Y n] w (Ph w (n:Rat)):=by go_in;go_wp2_with(go_at_call 174;(with_reducible refine(ZK _ n k l).mono ?_);rintro e x ⟨u,rfl,a,f⟩;obtain⟨s,g,r,i,t,j,o,p,rfl⟩:=a.form;obtain⟨⟨d,m⟩,c⟩:=Jd w f);exact bR (v:=E #[Z Y s,O g r i,Z Y t,O j o p]) (by simp[results,Tryz.results133,go_sem,d,c]) rfl ⟨_,rfl,a.keep kA,eA⟩
def JK x a b:((a.2:Int):Rat)+Rat.divInt (b.2-a.2) (b.1-a.1)*(x-((a.1:Int):Rat))=Jq x (a,b):=by unfold Jq;dsimp only;rw[Rat.divInt_eq_div,Rat.div_def,Rat.div_def,Rat.mul_comm (x-_),Rat.mul_assoc,Rat.mul_assoc,Rat.mul_comm (x-_)]
def Ww{L m}(h:m+1<L.length):(Wg L)[m]?=J (Qa L m,Qa L (m+1)):=
 Ex (by rw[Sh oM];exact gE _) (by rw[Sh h];exact gE _)
def YJ{L x m}(n:m+1<L.length)(d:∀j,j<m->¬yd x (((Qa L (j+1)).1:Int):Rat)<=0)(o:yd x (((Qa L (m+1)).1:Int):Rat)<=0):Rh L x=Jq x (Qa L m,Qa L (m+1)):=by
 have e:=Ww n;obtain⟨k,g⟩:=lS.1 e;have f:(Wg L).find? (Aj x)=J (Qa L m,Qa L (m+1)):=by
  rw[List.find?_eq_some_iff_getElem];refine⟨by unfold Aj;simpa using o,m,k,g,fun j i=>?_⟩;have a:=Ww (L:=L) (m:=j) oM;obtain⟨l,c⟩:=lS.1 a;rw[c];unfold Aj;have:=d j i;simpa using this
 unfold Rh;rw[f]
def ZJ{L:LP}{x}(l:L≠[])(d:∀j,j+1<L.length->¬yd x (((Qa L (j+1)).1:Int):Rat)<=0):Rh L x=(((Qa L (L.length-1)).2:Int):Rat):=by
 have g:(Wg L).find? (Aj x)=X:=by
  rw[List.find?_eq_none];intro e f;obtain⟨j,i,rfl⟩:=List.getElem_of_mem f;rw[ZC]at i;have a:=Ww (L:=L) (m:=j) oM;obtain⟨k,c⟩:=lS.1 a;rw[c];unfold Aj;have:=d j oM;simpa using this
 unfold Rh;rw[g];rfl
end
section
open Go.RowKit Go.Shelf Go.Sort
def AS{g}(h:Bb g=true):ie g:=by
 unfold Bb at h;rw[Bool.and_eq_true,List.all_eq_true]at h;obtain⟨o,k⟩:=h;have f:∀i,(hi:i+1<g.length)->g[i].1<g[i+1].1:=fun i hi=>by
  have a:=k (i+1) (List.mem_range.2 hi);unfold Pf at a;rw[Nat.add_sub_cancel,gD,gE hi,Option.getD_some,gD,gE oM,Option.getD_some]at a;simp only[Bool.and_eq_true,Bool.or_eq_true,beq_iff_eq,decide_eq_true_eq]at a;rcases a.2.2 with c|c
  ·omega
  ·exact c
 unfold ie;rw[List.pairwise_iff_getElem];intro i j hi m l;obtain⟨d,rfl⟩:∃d,j=i+d+1:=⟨j-i-1,by omega⟩;induction d with
 | zero=>exact f i m
 | succ d n =>
  have:=n oM oM;have:=f (i+d+1) oM;show g[i].1<g[i+(d+1)+1].1;have e:i+(d+1)+1=i+d+1+1:=oM;simp only[e];omega
end
section
open Go.RowKit Go.Shelf Go.Sort
attribute [local go_sem] Oper.semAt_some
def TA(w:V)(L:LP)(x:Rat)(a c:Obj)(t5:M)(W:V):Prop:=
 ∃m:Nat,t5=Z Y ((m:Int)+1)/\m+1<=L.length/\(∀j,j<m->¬yd x (((Qa L (j+1)).1:Int):Rat)<=0)/\Ba w W/\W.heap[w.heap.size]?=J a/\W.heap[w.heap.size+1]?=J c
def kW(wr:V)(a b:Int×Int)(c d:M)(W:V):Prop:=
 ∃b6 b7:Nat,c=F (J ⟨b6,0,X⟩)/\d=F (J ⟨b7,0,X⟩)/\W.heap[b6]?=J (Obj.cells #[Value.int Y (a.1),Value.int Y (a.2)] 74 (0,0))/\W.heap[b7]?=J (Obj.cells #[Value.int Y (b.1),Value.int Y (b.2)] 74 (0,0))/\Ba wr W
def RC w v vx L x(h:Ab w v L)(ok:ke L)(hr:ie L)(hx:Re w vx x)(hb:Rb 2000 x):Calls Tryz.prog 135 #[v,vx] w (Ph w (Rh L x)):=by
 obtain⟨a,c,rfl⟩:=h.form;obtain⟨n,hn⟩:=gX L.length;obtain⟨xs,xa,xm,xc,xt,xe,xi,xj,rfl⟩:=hx.form;have bQ:0<n:=by rw[<-hn];exact List.length_pos_iff.2 ok.1
 have bI:n<=64:=by rw[<-hn];exact ok.2.2
 have aQ:∀i,i<n->Bd 104000 (Qa L i).1/\Bd 104000 (Qa L i).2:=fun i hi=>ok.2.1 _ (Si (by rw[hn];exact hi));obtain⟨q,hq⟩:=gX (Rh L x);rw[hq,hn];have Hq:=za hq;have Hn:=za hn;have H:=za h;have Hr:=za hr;have aA:=za aQ;have ax:Ua (Rb vh x):=za (hb.mono dM);have Hb:=za hb;have bc:=za ok.1;clear hq hn h hr aQ ok hb;go_in;go_wp2;go_loopw [5] (TA w L x (Obj.cells #[Value.int Y xs,Value.slice xa xm xc,Value.int Y xt,Value.slice xe xi xj] 165) (Obj.cells #[Value.int Y 0,Value.slice X 0 0,Value.int Y 0,Value.slice X 0 0] 165)) (fun t5 _=>n-(intOf t5).toNat)
 case atStart=>exact⟨0,rfl,by rw[Hn.o];omega,fun j hj=>by omega,eA,Ei ..,mc _ _ _ sM⟩
 case round =>
  obtain⟨m,rfl,hm,aP,ap,aa,g⟩:=hrel;rw[Hn.o]at hm;have az:=za aP;have c0:=Aa aa 0 (Z Y xs);have c1:=Aa aa 1 (O xa xm xc);have c2:=Aa aa 2 (Z Y xt);have c3:=Aa aa 3 (O xe xi xj);have r0:=Aa g 0 (Z Y 0);have r1:=Aa g 1 (O X 0 0);have r2:=Aa g 2 (Z Y 0);have r3:=Aa g 3 (O X 0 0);have bz:=Za g 0;have bA:=Za g 1;have bB:=Za g 2;have bC:=Za g 3;have rz:=Ya g;have a4:=za aa;have ay:=za g;have ak:=za ap;clear aP aa g;by_cases am:m+1<n
  ·obtain⟨b,o,rfl,bo,d0,d1⟩:=(H.o.f ap).pt (i:=m+1) (by rw[Hn.o];exact am);obtain⟨b2,o2,e2,bH,f0,f1⟩:=(H.o.f ap).pt (i:=m) (by rw[Hn.o];omega);cases e2;have bb:=aA.o (m+1) am;have ba:=aA.o m oM;have aD:(Qa L m).1<(Qa L (m+1)).1:=xr Hr.o oM (by rw[Hn.o];exact am);have l:=YJ (L:=L) (x:=x) (m:=m) (by rw[Hn.o];exact am) az.o;rw[Hq.o]at l;obtain⟨⟨s,pz⟩,hp⟩:∃p,Qa L m=p:=⟨_,rfl⟩;obtain⟨⟨R,qz⟩,aC⟩:∃p,Qa L (m+1)=p:=⟨_,rfl⟩;rw[hp]at f0 f1 ba aD l;rw[aC]at d0 d1 bb aD l;dsimp only at d0 d1 f0 f1 ba bb aD l;obtain⟨T,hT⟩:=gX (yd x ((R:Int):Rat));rw[hT]at l;have HT:=za hT;have aK:=za l;have be:=za aC;have aF:Ua (Rb vh ((R:Int):Rat)):=za ((Ai bb.1).mono dM);unfold Bd at ba bb;obtain⟨⟨bK,bL⟩,⟨bM,bN⟩⟩:=ba;obtain⟨⟨bO,bP⟩,⟨bi,bj⟩⟩:=bb;have aG:=za (fun W=>Ct W R oM oM);have g0:(0:Int)<=(m:Int)+1:=oM;have g1:(m:Int)+1<(n:Int):=oM;have g2:((m:Int)+1).toNat=m+1:=oM;have kw:IntKind.i64.wrap ((m:Int)+1)=(m:Int)+1:=iW _ oM;clear hp aC hT l;by_cases al:T<=0
   ·(have k9:decide (T<=0)=true:=by simpa using al);go_wp2;refine jd [(⟨w.heap.size,0,X⟩,Z Y xs),(⟨w.heap.size,1,X⟩,O xa xm xc),(⟨w.heap.size,2,X⟩,Z Y xt),(⟨w.heap.size,3,X⟩,O xe xi xj),(⟨b,o+(m+1)*2,X⟩,Z Y R)] cA fun d=>?_;refine sN 0 ?_
    (iterate 6 refine Db ?_);refine oN ?_;refine Ac (i:=6) (aG.o wr.drew) ?_;rintro e w5 ⟨r5,rfl,ac,u⟩;obtain⟨s5,a5,m5,c5,t5,e5,i5,j5,rfl⟩:=ac.form;refine⟨_,rfl,(cE d u),fun d=>?_⟩;refine Te (i:=7) fun K f=>?_;go_simp;(with_reducible refine cM (Uw w5 _ _ x ((R:Int):Rat) ((hx.ext ak.o).ext ((eR wr).drew.trans u)) ac ax.o aF.o) ?_);rw[HT.o];rintro e y ⟨rfl,ae⟩;go_wp2;refine kO f (cE d ae) (fun d=>?_);clear f K;refine La (i:=8) ?_;refine Pb ?_;have z:Ba wr y:=(eR wr).drew.trans (u.trans ae);have h9:=aK.o al;have H9:=za h9;replace d0:=z.d d0;replace d1:=z.d d1;replace f0:=z.d f0;replace f1:=z.d f1;replace c0:=z.d c0;replace c1:=z.d c1;replace c2:=z.d c2;replace c3:=z.d c3;have z6:w.heap.size+1<y.heap.size:=z.lt rz;have g3:(m:Int)+1-1=(m:Int):=oM;have g4:(0:Int)<=(m:Int):=oM;have g5:(m:Int)<(n:Int):=oM;have bv:IntKind.i64.wrap (m:Int)=(m:Int):=iW _ oM;clear h9 d r0 r1 r2 r3 bz bA bB bC ac u ae;go_upto_region 5 with fail;have bX:b<y.heap.size:=World.block_lt_of_cell? y _ d0;go_cut [6,7] (kW y (s,pz) (R,qz))
    case first =>
     go_wp2;refine jd [(⟨b,o+(m+1)*2,X⟩,Z Y R),(⟨b,o+(m+1)*2+1,X⟩,Z Y qz),(⟨b,o+m*2,X⟩,Z Y s),(⟨b,o+m*2+1,X⟩,Z Y pz)] cA fun d=>?_;refine sN 0 ?_
     (iterate 9 refine Db ?_);refine oN ?_;refine yn (i:=9) (j:=10) (fun K f=>?_) (fun K f=>?_)
     ·go_simp;refine kO f (cE d ((eR _).alloc _)) (fun d=>?_);clear f K;refine Te (i:=10) fun K f=>?_;go_simp;refine kO f (cE d ((eR _).alloc _)) (fun d=>?_);clear f K;have q1:¬b=y.heap.size:=oM;have q2:¬b=y.heap.size+1:=oM;refine Te (i:=11) fun K f=>?_;go_simp;refine kO f cA (fun d=>?_);clear f K;refine Te (i:=12) fun K f=>?_;go_simp;refine kO f cA (fun d=>?_);clear f K;refine Pb ?_;go_wp2;go_meet;exact⟨y.heap.size,y.heap.size+1,rfl,rfl,Ei ..,mc _ _ _ sM,(((eR y).alloc _).alloc _).drew⟩
     ·go_simp;refine kO f (cE d ((eR _).alloc _)) (fun d=>?_);clear f K;refine Te (i:=9) fun K f=>?_;go_simp;refine kO f (cE d ((eR _).alloc _)) (fun d=>?_);clear f K;have q1:¬b=y.heap.size:=oM;have q2:¬b=y.heap.size+1:=oM;refine Te (i:=11) fun K f=>?_;go_simp;refine kO f cA (fun d=>?_);clear f K;refine Te (i:=12) fun K f=>?_;go_simp;refine kO f cA (fun d=>?_);clear f K;refine Pb ?_;go_wp2;go_meet;exact⟨y.heap.size+1,y.heap.size,rfl,rfl,mc _ _ _ sM,Ei ..,(((eR y).alloc _).alloc _).drew⟩
    case rest =>
     obtain⟨b6,b7,rfl,rfl,a6,a7,XC⟩:=hcut;have u0:=Aa a6 0 (Z Y s);have u1:=Aa a6 1 (Z Y pz);have v0:=Aa a7 0 (Z Y R);have v1:=Aa a7 1 (Z Y qz);have uz:=Ya a6;replace c0:=XC.d c0;replace c1:=XC.d c1;replace c2:=XC.d c2;replace c3:=XC.d c3;have z9:w.heap.size+1<wc.heap.size:=XC.lt z6;have bW:w.heap.size<wc.heap.size:=oM;have X0:Ba w wc:=ak.o.trans (z.trans XC);have g:=(z.trans XC).e ay.o;have aJ:=za g;have bf:Ua (Re wc (E #[Z Y xs,O xa xm xc,Z Y xt,O xe xi xj]) x):=za (hx.ext X0);have aH:=za (fun W=>jR W (qz-pz) (R-s) oM oM oM oM oM);obtain⟨sl,an⟩:=gX (Rat.divInt (qz-pz) (R-s));rw[an]at aH;have ah:Rb 1 sl:=by
      rw[<-an];have hd:R-s≠0:=oM;exact⟨Su hd (by unfold Lm B;simp;omega),As hd (by unfold Lm B;simp;omega)⟩
     (have ar:((pz:Int):Rat)+sl*(x-((s:Int):Rat))=q:=by rw[<-an,JK x (s,pz) (R,qz)];exact H9.o.symm);have HE:=za ar;have aW:Ua (Rb vh ((s:Int):Rat)):=za ((Ai (k:=104000) (by unfold Bd;omega)).mono dM);have aX:Ua (Rb vh ((pz:Int):Rat)):=za ((Ai (k:=104000) (by unfold Bd;omega)).mono dM);have ai:Rb 4001 (x-((s:Int):Rat)):=Rb.sub (k:=2000) Hb.o ((Ai (k:=104000) (by unfold Bd;omega)).mono dM);have aY:Ua (Rb vh (x-((s:Int):Rat))):=za (ai.mono dM);have aZ:Ua (Rb vh sl):=za (ah.mono dM);have a0:Ua (Rb vh (sl*(x-((s:Int):Rat)))):=za ((Rb.mul ah ai).mono dM);have a1:=za (fun W=>Ct W s oM oM);have a3:=za (fun W=>Ct W pz oM oM);clear an ah ar ai g a6 a7 d0 d1 f0 f1;go_upto_region 7 with (go_at_call 177;refine cM (aH.o wc) ?_;rintro e w8 ⟨r8,rfl,ad,af⟩;obtain⟨s8,a8,m8,c8,t8,e8,i8,j8,rfl⟩:=ad.form;obtain⟨aB,aO⟩:=af.cells);obtain⟨W8,ag⟩:=gX (w8.alloc (Obj.cells #[Value.int Y s8,Value.slice a8 m8 c8,Value.int Y t8,Value.slice e8 i8 j8] 165));(have X8:Ba wc W8:=by rw[<-ag];exact af.alloc _);(have h8:W8.heap[w8.heap.size]?=J (Obj.cells #[Value.int Y s8,Value.slice a8 m8 c8,Value.int Y t8,Value.slice e8 i8 j8] 165 (0,0)):=by rw[<-ag];exact aN _ _);(have bq:Re W8 (E #[Z Y s8,O a8 m8 c8,Z Y t8,O e8 i8 j8]) sl:=by rw[<-ag];exact ad.ext ((eR _).alloc _));rw[ag];obtain⟨b8,aM⟩:=gX w8.heap.size;rw[aM]at h8 ⊢;have y0:=Aa h8 0 (Z Y s8);have y1:=Aa h8 1 (O a8 m8 c8);have y2:=Aa h8 2 (Z Y t8);have y3:=Aa h8 3 (O e8 i8 j8);replace u0:=X8.d u0;replace u1:=X8.d u1;replace c0:=X8.d c0;replace c1:=X8.d c1;replace c2:=X8.d c2;replace c3:=X8.d c3;have g:=X8.e aJ.o;have aI:=za g;have aV:=bf.o.ext X8;have zr:=Ya g;have bJ:Ba w W8:=X0.trans X8;clear ag aM aB aO af ad h8 g v0 v1 kw bv g0 g1 g2 g3 g4 g5;refine Ti (fun i=>decide (10<i)) (Da [(⟨b6,0,X⟩,Z Y s),(⟨b6,1,X⟩,Z Y pz),(⟨b8,0,X⟩,Z Y s8),(⟨b8,1,X⟩,O a8 m8 c8),(⟨b8,2,X⟩,Z Y t8),(⟨b8,3,X⟩,O e8 i8 j8),(⟨w.heap.size,0,X⟩,Z Y xs),(⟨w.heap.size,1,X⟩,O xa xm xc),(⟨w.heap.size,2,X⟩,Z Y xt),(⟨w.heap.size,3,X⟩,O xe xi xj)]) kM ?_ (fun d=>?_)
     ·exact cA
     refine sN 0 ?_
     (iterate 2 refine Ui ?_);refine oN ?_;refine sN 3 ?_
     (iterate 4 refine Ui ?_);refine oN ?_;refine Ed (i:=2) fun K f=>?_;go_simp;refine cM (a3.o _) ?_;rintro e w2 ⟨r2,rfl,aR,aU⟩;obtain⟨s2,a2,m2,c2,t2,e2,i2,j2,rfl⟩:=aR.form;go_wp2;refine kO f (fun _=>cE d aU) (fun d=>?_);clear f K;replace d:=d rfl;refine Ed (i:=7) fun K f=>?_;go_simp;refine cM (a1.o _) ?_;rintro e w7 ⟨r7,rfl,aS,aE⟩;obtain⟨s7,a7,m7,c7,t7,e7,i7,j7,rfl⟩:=aS.form;go_wp2;refine kO f (fun _=>cE d aE) (fun d=>?_);clear f K;replace d:=d rfl;have E7:Ba W8 w7:=(eR W8).drew.trans (aU.trans aE);refine Ed (i:=8) fun K f=>?_;go_simp;(with_reducible refine cM (sB _ (E #[Z Y xs,O xa xm xc,Z Y xt,O xe xi xj]) (E #[Z Y s7,O a7 m7 c7,Z Y t7,O e7 i7 j7]) x ((s:Int):Rat) (aV.ext E7) aS ax.o aW.o) ?_);rintro e w9 ⟨r9,rfl,aT,ao⟩;obtain⟨s9,a9,m9,c9,t9,e9,i9,j9,rfl⟩:=aT.form;go_wp2;refine kO f (fun _=>cE d ao) (fun d=>?_);clear f K;replace d:=d rfl;refine Ed (i:=9) fun K f=>?_;go_simp;(with_reducible refine cM (SH _ (E #[Z Y s8,O a8 m8 c8,Z Y t8,O e8 i8 j8]) (E #[Z Y s9,O a9 m9 c9,Z Y t9,O e9 i9 j9]) sl (x-((s:Int):Rat)) (bq.ext (E7.trans ao)) aT aZ.o aY.o) ?_);rintro e bV ⟨bT,rfl,au,aj⟩;obtain⟨bD,bg,bw,bk,bF,bm,br,bt,rfl⟩:=au.form;go_wp2;refine kO f (fun _=>cE d aj) (fun d=>?_);clear f K;replace d:=d rfl;refine Ed (i:=10) fun K f=>?_;go_simp;(with_reducible refine cM (yB _ (E #[Z Y s2,O a2 m2 c2,Z Y t2,O e2 i2 j2]) (E #[Z Y bD,O bg bw bk,Z Y bF,O bm br bt]) ((pz:Int):Rat) (sl*(x-((s:Int):Rat))) (aR.ext (aE.trans (ao.trans aj))) au aX.o a0.o) ?_);rintro e aq ⟨bU,rfl,av,aw⟩;obtain⟨bE,bh,bx,bl,bG,bn,bs,bu,rfl⟩:=av.form;go_wp2;refine kO f (fun _=>cE d aw) (fun d=>?_);clear f K;replace d:=d rfl;have XF:Ba W8 aq:=E7.trans (ao.trans (aj.trans aw));have zf:w.heap.size+1<aq.heap.size:=XF.lt zr;have ab:=XF.e aI.o;have o0:=Aa ab 0 (Z Y 0);have o1:=Aa ab 1 (O X 0 0);have o2:=Aa ab 2 (Z Y 0);have o3:=Aa ab 3 (O X 0 0);have of:=Za ab;refine Ed (i:=11) fun K f=>?_;go_simp;refine kO f (fun h=>nomatch h) (fun d=>?_);clear f K;refine Ub kM ?_ _;go_wp2;refine bR (v:=E #[Z Y bE,O bh bx bl,Z Y bG,O bn bs bu]) (by simp[results,Tryz.results135,go_sem,zf,o0,o1,o2,o3]) rfl ⟨_,rfl,?_,eA⟩;(have r:ud 3 aq (w.heap.size+1):=by intro cs fr e;rw[ab]at e;cases e);rw[<-HE.o];exact av.keep (((((Ja.refl _ aq).y r _).y (r.set _ _) _).y ((r.set _ _).set _ _) _).y (((r.set _ _).set _ _).set _ _) _)
   ·(have k9:decide (T<=0)=false:=by simpa using al);have aL:Ua (∀j,j<m+1->¬yd x (((Qa L (j+1)).1:Int):Rat)<=0):=za fun j hj=>by
     by_cases bp:j=m
     ·subst bp;rw[be.o,HT.o];exact al
     ·exact az.o j oM
    go_wp2;refine jd [(⟨w.heap.size,0,X⟩,Z Y xs),(⟨w.heap.size,1,X⟩,O xa xm xc),(⟨w.heap.size,2,X⟩,Z Y xt),(⟨w.heap.size,3,X⟩,O xe xi xj),(⟨b,o+(m+1)*2,X⟩,Z Y R)] cA fun d=>?_;refine sN 0 ?_
    (iterate 6 refine Db ?_);refine oN ?_;refine Ac (i:=6) (aG.o wr.drew) ?_;rintro e w5 ⟨r5,rfl,ac,u⟩;obtain⟨s5,a5,m5,c5,t5,e5,i5,j5,rfl⟩:=ac.form;refine⟨_,rfl,(cE d u),fun d=>?_⟩;refine Te (i:=7) fun K f=>?_;go_simp;(with_reducible refine cM (Uw w5 _ _ x ((R:Int):Rat) ((hx.ext ak.o).ext ((eR wr).drew.trans u)) ac ax.o aF.o) ?_);rw[HT.o];rintro e y ⟨rfl,ae⟩;go_wp2;refine kO f (cE d ae) (fun d=>?_);clear f K;refine La (i:=8) ?_;refine Pb ?_;have z:Ba wr y:=(eR wr).drew.trans (u.trans ae);clear kw;go_wp2;go_roundw
    case rel=>exact⟨m+1,by go_num,by rw[Hn.o];omega,fun j hj=>(by have:=aL.o j hj;omega),ak.o.trans z,z.e a4.o,z.e ay.o⟩
    case measure=>simp[intOf];omega
  ·obtain rfl:m+1=n:=oM;obtain⟨b,o,rfl,bo,d0,d1⟩:=(H.o.f ap).pt (i:=m) (by rw[Hn.o];omega);have bb:=aA.o m oM;have t:=ZJ (L:=L) (x:=x) bc.o (fun j hj=>az.o j (by rw[Hn.o]at hj;omega));rw[Hq.o,Hn.o,show m+1-1=m by omega]at t;obtain⟨⟨s,pz⟩,hp⟩:∃p,Qa L m=p:=⟨_,rfl⟩;rw[hp]at d0 d1 bb t;dsimp only at d0 d1 bb t;unfold Bd at bb;obtain⟨-,⟨bi,bj⟩⟩:=bb;have HE:=za t;have HO:=za (fun W=>Ct W pz oM oM);have g0:¬(m:Int)+1<(m:Int)+1:=oM;have g3:(m:Int)+1-1=(m:Int):=oM;have g4:(0:Int)<=(m:Int):=oM;have g5:(m:Int)<(m:Int)+1:=oM;clear hp t;go_wp2_with(go_at_call 133;refine cM (HO.o wr) ?_;rintro e w8 ⟨r8,rfl,ad,af⟩;obtain⟨s8,a8,m8,c8,t8,e8,i8,j8,rfl⟩:=ad.form;obtain⟨aB,aO⟩:=af.cells);refine bR (v:=E #[Z Y s8,O a8 m8 c8,Z Y t8,O e8 i8 j8]) (by simp[results,Tryz.results135,go_sem,aB,rz,r0,r1,r2,r3]) rfl ⟨_,rfl,?_,eA⟩;have r:ud 3 w8 (w.heap.size+1):=by intro cs fr e;rw[af.e ay.o]at e;cases e
   rw[HE.o];exact ad.keep (((((Ja.refl _ w8).y r _).y (r.set _ _) _).y ((r.set _ _).set _ _) _).y (((r.set _ _).set _ _).set _ _) _)
def GS w x y ps g(r:Ab w x ps)(s:Ab w y g)(n1:ps≠[])(n2:g≠[]):Calls Tryz.prog 131 #[x,y] w fun e w'=>e=.returned (D #[Z Y (Ld ps g).lo,Z Y (Ld ps g).hi,I (decide ((Ld ps g).lo<(Ld ps g).hi))])/\Ba w w':=by
 have m:=za (fun W (t:Ba w W)=>mt W x ps (r.f t) n1);have n:=za (fun W (t:Ba w W)=>mt W y g (s.f t) n2);obtain⟨a1,c1,rfl⟩:=r.form;obtain⟨a2,c2,rfl⟩:=s.form;obtain⟨i,f,u⟩:∃i f,(Ld ps g).lo=i/\(Ld ps g).hi=f:=⟨_,_,rfl,rfl⟩;rw[u.1,u.2];obtain⟨j,d⟩:=u;unfold Ld at j d;dsimp only at j d;obtain⟨L,a⟩:=gX (ub ps);obtain⟨R,c⟩:=gX (ub g);obtain⟨o,k⟩:=gX (Wb ps);obtain⟨p,l⟩:=gX (Wb g);rw[show (Qa ps 0).1=L from a,show (Qa ps (ps.length-1)).1=o from k]at m;rw[show (Qa g 0).1=R from c,show (Qa g (g.length-1)).1=p from l]at n;rw[a,c]at j;rw[k,l]at d;clear a c k l r s n1 n2;by_cases k1:L<R
 ·obtain rfl:i=R:=oM;clear j;by_cases k2:p<o
  ·obtain rfl:f=p:=oM;clear d;go_in;go_wp2_with(first|(go_at_call 93;(with_reducible refine(m.o _ (eR _)).mono ?_);rintro e z ⟨rfl,a⟩)|(go_at_call 93;(with_reducible refine(n.o _ a).mono ?_);rintro e K ⟨rfl,c⟩));exact bR (v:=D #[Z Y i,Z Y f,I (decide (i<f))]) (by simp[results,Tryz.results131,go_sem]) rfl ⟨rfl,a.trans c⟩
  ·obtain rfl:f=o:=oM;clear d;go_in;go_wp2_with(first|(go_at_call 93;(with_reducible refine(m.o _ (eR _)).mono ?_);rintro e z ⟨rfl,a⟩)|(go_at_call 93;(with_reducible refine(n.o _ a).mono ?_);rintro e K ⟨rfl,c⟩));exact bR (v:=D #[Z Y i,Z Y f,I (decide (i<f))]) (by simp[results,Tryz.results131,go_sem]) rfl ⟨rfl,a.trans c⟩
 ·obtain rfl:i=L:=oM;clear j;by_cases k2:p<o
  ·obtain rfl:f=p:=oM;clear d;go_in;go_wp2_with(first|(go_at_call 93;(with_reducible refine(m.o _ (eR _)).mono ?_);rintro e z ⟨rfl,a⟩)|(go_at_call 93;(with_reducible refine(n.o _ a).mono ?_);rintro e K ⟨rfl,c⟩));exact bR (v:=D #[Z Y i,Z Y f,I (decide (i<f))]) (by simp[results,Tryz.results131,go_sem]) rfl ⟨rfl,a.trans c⟩
  ·obtain rfl:f=o:=oM;clear d;go_in;go_wp2_with(first|(go_at_call 93;(with_reducible refine(m.o _ (eR _)).mono ?_);rintro e z ⟨rfl,a⟩)|(go_at_call 93;(with_reducible refine(n.o _ a).mono ?_);rintro e K ⟨rfl,c⟩));exact bR (v:=D #[Z Y i,Z Y f,I (decide (i<f))]) (by simp[results,Tryz.results131,go_sem]) rfl ⟨rfl,a.trans c⟩
def IU(w:V)(c:List M)(l:LP):Prop:=∃v,c=[v]/\Ab w v l
abbrev nk(w:V)(v:M)(lss:List LP):Prop:=Sl 122 1 IU w v lss
def nk.f{w w' v a}(h:nk w v a)(k:Ba w w'):nk w' v a:=Sl.ext h (fun _ _ ⟨v,c,d⟩=>⟨v,c,d.f k⟩) k
def nk.at'{w a n c e}(h:nk w (O a n c) e){i l}(j:e[i]?=J l):∃b o v,a=J ⟨b,o,X⟩/\b<w.heap.size/\w.cell? ⟨b,o+i,X⟩=J v/\Ab w v l:=by obtain⟨b,o,d,rfl,f,k,⟨v,rfl,hv⟩,g⟩:=Sl.at h j;exact⟨b,o,v,rfl,f,by simpa using g 0 v rfl,hv⟩
def Vj(a:List LP):List Int:=a.flatten.map (·.1)
def FP cs c x n0:Le (cs++[c]) x n0=if x<c/\c<Le cs x n0 then c else Le cs x n0:=by rw[NN];rfl
def KL a l:Vj (a++[l])=Vj a++l.map (·.1):=by unfold Vj;simp
def CU(w:V)(cs:List Int)(d hi:Int)(L:List Int)(a c:M)(W:V):Prop:=
 ∃(k:Nat)(x:Int),c=Z Y x/\k<=L.length/\Cb 3 W w.heap.size a (L.take k)/\Ba w W/\(k<L.length->zN L k=x)/\(k=L.length->hi<x)
def DU(d:V)(a:List LP)(x n0:Int)(t9 c:M)(W:V):Prop:=
 ∃(i:Nat)(n:Int),c=Z Y i/\t9=Z Y n/\i<=a.length/\Le (Vj (a.take i)) x n0=n/\W=d
def EU(c:V)(pre:List Int)(l:LP)(x n0:Int)(t9 a:M)(W:V):Prop:=
 ∃(k:Nat)(n:Int),a=Z Y k/\t9=Z Y n/\k<=l.length/\Le (pre++(l.take k).map (·.1)) x n0=n/\W=c
def GI{cs x n0}(a:∀c∈cs,Bd 104000 c)(d:Bd 104001 n0):Bd 104001 (Le cs x n0):=by
 rcases(Ns cs x n0).2.2 with h|⟨h,-⟩
 ·rw[h];exact d
 ·have:=a _ h;unfold Bd at *;omega
def Cu(w:V)(L:List Int)(e:Ending)(w':V):Prop:=∃v,e=.returned v/\Cb 3 w' w.heap.size v L/\Ba w w'
def lK{a l}(h:l∈a){k}(c:k<l.length):(Qa l k).1∈Vj a:=by unfold Vj;exact List.mem_map.2 ⟨_,List.mem_flatten.2 ⟨l,h,Si c⟩,rfl⟩
def DS w v d lo hi L(h:nk w v d)(hp:Eu (Vj d) lo hi L)(aD:Bd 104000 lo)(aA:Bd 104000 hi)(hB:∀c∈Vj d,Bd 104000 c)(aP:d.length<=1000)(ah:∀l∈d,l.length<=1000)(hL:L.length<=1000000):Calls Tryz.prog 132 #[Z Y lo,Z Y hi,v] w (Cu w L):=by
 obtain⟨a,c,rfl⟩:=h.form;obtain⟨n,hn⟩:=gX d.length;obtain⟨cs,an⟩:=gX (Vj d);rw[hn]at aP ⊢;rw[an]at hp hB;have Hn:=za hn;have ar:=za an;have H:=za h;have Hp:=za hp;have HB:=za hB;have aI:=za ah;have aT:=hp.pos;have aq:=za hL;have ag:=aD;unfold Bd at aA ag;obtain⟨aV,aW⟩:=aA;obtain⟨a1,a2⟩:=ag;clear hn an h hp hB ah hL aD;go_in;go_wp2;go_loopw [7,8] (CU w cs lo hi L) (fun t7 _ _=>L.length-(match t7 with | O _ n _=>n|_=>0))
 case atStart=>exact⟨0,lo,rfl,by omega,Cb.nil _ _ _,eR _,fun _=>Hp.o.h0,fun e=>by omega⟩
 case round =>
  obtain⟨k,x,rfl,hk,r,hx,aB,u⟩:=hrel;obtain⟨va,vc,rfl⟩:=r.form;rw[List.length_take,Nat.min_eq_left hk]at r ⊢;have ae:=za r;have aK:=za aB;have Hx:=za hx;have aY:=hx.size;clear r aB;by_cases ab:k<L.length
  ·have ac:=aK.o ab;have a0:x<=hi:=by rw[<-ac];exact Hp.o.le k ab
   have aZ:-200000<=x:=by
    have:∀j,j<L.length->lo<=zN L j:=by
     intro j;induction j with
     | zero=>intro _;rw[Hp.o.h0];omega
     | succ j ih =>
      intro hj;have h1:=ih oM;rw[Hp.o.st j hj];unfold Fj;obtain⟨-,-,e⟩:=Ns cs (zN L j) (hi+1);have h3:=Hp.o.le j oM;split<;>rcases e with e|⟨-,e⟩<;>omega
    have:=this k ab;omega
   have aj:L[k]?=J x:=by rw[<-ac,Gs ab];exact gE _
   have av:=za ac;have aw:=za aj;have aS:=za aq.o;clear u ac aj;have aX:k<=1000000:=by have:=aq.o;omega
   go_wp2_with(at_builtin;refine lj (y:=x) Ek Tryz.underlying47 rfl _ _ rfl rfl ae.o rfl (by rw[List.length_take];omega) oM ?_;intro v' w1 f s ao);have X1:Ba w w1:=Hx.o.D s (nE _);have e1:L.take k++[x]=L.take (k+1):=(ze L k x aw.o).symm;rw[e1]at f;obtain⟨a3,a4,aH⟩:=f.form;rw[List.length_take,Nat.min_eq_left oM]at aH;subst aH;have p:=za f;obtain⟨wa,rfl⟩:∃W,W=w1:=⟨_,rfl⟩;clear f s ao e1 hx;go_loopw [9,10] (DU wa d x (hi+1)) (fun _ aQ _=>n-(intOf aQ).toNat)
   case atStart=>exact⟨0,hi+1,rfl,rfl,by omega,by simp[Vj,Le],rfl⟩
   case round =>
    obtain⟨i,nx,rfl,rfl,aL,aG,rfl⟩:=hrel;rw[Hn.o]at aL;have al:=za aG;clear aG;by_cases aE:i<n
    ·obtain⟨l,hl⟩:∃l,d[i]?=J l:=⟨_,gE (by rw[Hn.o];exact aE)⟩;have aC:=lM hl;obtain⟨b,o,vl,rfl,hb,c0,hv⟩:=(H.o.f X1).at' hl;obtain⟨la,lc,rfl⟩:=hv.form;have aO:=aI.o l aC;obtain⟨ln,aa⟩:=gX l.length;rw[aa]at c0 aO;have m:=za aa;have Hv:=za hv;(have z:Vj (d.take (i+1))=Vj (d.take i)++l.map (·.1):=by rw[ze d i l hl,KL]);obtain⟨pre,K⟩:=gX (Vj (d.take i));rw[K]at z al;have au:=za z;have Hl:=za hl;have ay:∀k2,k2<ln->Bd 104000 (Qa l k2).1:=fun k2 h2=>HB.o _ (by rw[<-ar.o];exact lK aC (by rw[aa];exact h2));have aJ:=za ay;have g0:(0:Int)<=(i:Int):=oM;have g1:(i:Int)<(n:Int):=oM;clear aa hv z K hl ay;go_wp2;go_loopw [9,11] (EU wr pre l x (hi+1)) (fun _ aR _=>ln-(intOf aR).toNat)
     case atStart=>exact⟨0,nx,rfl,rfl,by omega,by simpa using al.o,rfl⟩
     case round =>
      obtain⟨k2,g,rfl,rfl,aM,ai,rfl⟩:=hrel;rw[m.o]at aM;have ad:=za ai;clear ai;by_cases t:k2<ln
      ·obtain⟨b2,o2,rfl,aU,e0,-⟩:=Hv.o.pt (i:=k2) (by rw[m.o];exact t);have az:=aJ.o k2 t;have ap:(l.take (k2+1)).map (·.1)=(l.take k2).map (·.1)++[(Qa l k2).1]:=by
        rw[ze l k2 (Qa l k2) (by rw[Sh (by rw[m.o];exact t)];exact gE _),List.map_append];rfl
       obtain⟨cc,af⟩:=gX ((Qa l k2).1);rw[af]at e0 az ap;have R:Le (pre++(l.take (k2+1)).map (·.1)) x (hi+1)=if x<cc/\cc<g then cc else g:=by
        rw[ap,<-List.append_assoc,FP,ad.o]
       have am:=za R;have k0:(0:Int)<=(k2:Int):=oM;have k1:(k2:Int)<(ln:Int):=oM;unfold Bd at az;clear af ap R;by_cases q1:x<cc
       ·by_cases q2:cc<g
        ·go_wp2;go_roundw
         case rel=>exact⟨k2+1,cc,by go_num,rfl,by rw[m.o];omega,by rw[am.o,if_pos ⟨q1,q2⟩],rfl⟩
         case measure=>simp[intOf];omega
        ·have q3:¬(x<cc/\cc<g):=fun h=>q2 h.2;have Q3:=za q3;clear q3;go_wp2;go_roundw
         case rel=>exact⟨k2+1,g,by go_num,rfl,by rw[m.o];omega,by rw[am.o,if_neg oM],rfl⟩
         case measure=>simp[intOf];omega
       ·go_wp2;go_roundw
        case rel=>exact⟨k2+1,g,by go_num,rfl,by rw[m.o];omega,by rw[am.o,if_neg oM],rfl⟩
        case measure=>simp[intOf];omega
      ·obtain rfl:k2=ln:=oM;have e9:Le (Vj (d.take (i+1))) x (hi+1)=g:=by
        rw[au.o];have:=ad.o;rw[lT (by rw[m.o];omega)]at this;exact this
       have E9:=za e9;clear e9;go_wp2;go_roundw
       case rel=>exact⟨i+1,g,by go_num,rfl,by rw[Hn.o];omega,E9.o,rfl⟩
       case measure=>simp[intOf];omega
    ·obtain rfl:i=n:=oM;have e9:Le cs x (hi+1)=nx:=by
      have:=al.o;rw[lT (by rw[Hn.o];omega),ar.o]at this;exact this
     have aF:=GI (cs:=cs) (x:=x) (n0:=hi+1) HB.o (by unfold Bd;omega);rw[e9]at aF;unfold Bd at aF;have hR:∀y,Fj cs x hi=y->(k+1<L.length->zN L (k+1)=y)/\(k+1=L.length->hi<y):=by
      intro y hy;refine⟨fun h=>by rw[Hp.o.st k h,av.o,hy],fun h=>?_⟩;have:=Hp.o.stop;rw[show L.length-1=k by omega,av.o,hy]at this;exact this
     (have ax:Fj cs x hi=if x<hi/\hi<nx then hi else nx:=by unfold Fj;rw[e9]);have HR:=za hR;have ak:=za ax;clear e9 hR ax;by_cases q1:x<hi
     ·by_cases q2:hi<nx
      ·skip
       go_wp2;go_roundw
       case rel =>
        obtain⟨z1,z2⟩:=HR.o hi (by rw[ak.o,if_pos oM]);exact⟨k+1,hi,rfl,by omega,p.o,X1,z1,z2⟩
       case measure=>simp;omega
      ·skip
       go_wp2;go_roundw
       case rel =>
        obtain⟨z1,z2⟩:=HR.o nx (by rw[ak.o,if_neg oM]);exact⟨k+1,nx,rfl,by omega,p.o,X1,z1,z2⟩
       case measure=>simp;omega
     ·skip
      go_wp2;go_roundw
      case rel =>
       obtain⟨z1,z2⟩:=HR.o nx (by rw[ak.o,if_neg oM]);exact⟨k+1,nx,rfl,by omega,p.o,X1,z1,z2⟩
      case measure=>simp;omega
  ·obtain rfl:k=L.length:=oM;have h1:=u rfl;have e1:L.take L.length=L:=List.take_length;have hf:Cb 3 wr w.heap.size (O va L.length vc) L:=by have:=ae.o;rw[e1]at this;exact this
   have Hf:=za hf;clear hf u;have h2:¬x<=hi:=oM;go_wp2;go_ret;exact⟨_,rfl,Hf.o,Hx.o⟩
def QX(W:V)(b:Nat)(q:Rat):Prop:=∃s a m c t e i j,W.heap[b]?=J (C #[Z Y s,O a m c,Z Y t,O e i j] 165 (0,0))/\Re W (E #[Z Y s,O a m c,Z Y t,O e i j]) q
section
variable {W W':V} {b b':Nat} {q q':Rat}
def QX.ext(h:QX W b q)(k:Ba W W'):QX W' b q:=by obtain⟨s,a,m,c,t,e,i,j,d,f⟩:=h;exact⟨s,a,m,c,t,e,i,j,k.e d,f.ext k⟩
def QX.not(h:QX W b q):ud 3 W b:=by obtain⟨s,a,m,c,t,e,i,j,d,k⟩:=h;intro f g e;rw[d]at e;cases e
def QX.rd(h:QX W b q):∃s a m c t e i j,W.cell? ⟨b,0,X⟩=J (Z Y s)/\W.cell? ⟨b,1,X⟩=J (O a m c)/\W.cell? ⟨b,2,X⟩=J (Z Y t)/\W.cell? ⟨b,3,X⟩=J (O e i j)/\(∀k,W.frozen? ⟨b,k,X⟩=false)/\b<W.heap.size/\Re W (E #[Z Y s,O a m c,Z Y t,O e i j]) q:=by obtain⟨s,a,m,c,t,e,i,j,d,f⟩:=h;exact⟨s,a,m,c,t,e,i,j,Lb d (i:=0) rfl,Lb d (i:=1) rfl,Lb d (i:=2) rfl,Lb d (i:=3) rfl,Za d,Ya d,f⟩
def QX.put{s t a e m c i j}(h:QX W b q)(n:Re W (E #[Z Y s,O a m c,Z Y t,O e i j]) q'):QX ((((W.setCell ⟨b,0,X⟩ (Z Y s)).setCell ⟨b,1,X⟩ (O a m c)).setCell ⟨b,2,X⟩ (Z Y t)).setCell ⟨b,3,X⟩ (O e i j)) b q':=by have l:=h.not;obtain⟨u,d,r,f,v,g,o,p,k,w⟩:=h;exact⟨s,a,m,c,t,e,i,j,zy (cs:=[Z Y u,O d r f,Z Y v,O g o p]) [Z Y s,O a m c,Z Y t,O e i j] k rfl,n.keep (Uo [Z Y s,O a m c,Z Y t,O e i j] 0 l)⟩
def QX.other4(h:QX W b q)(n:QX W b' q')(d:b≠b') f g k l:QX ((((W.setCell ⟨b',0,X⟩ f).setCell ⟨b',1,X⟩ g).setCell ⟨b',2,X⟩ k).setCell ⟨b',3,X⟩ l) b q:=by obtain⟨s,a,m,c,t,e,i,j,o,p⟩:=h;refine⟨s,a,m,c,t,e,i,j,?_,p.keep (Uo [f,g,k,l] 0 n.not)⟩;have:=Jr d [f,g,k,l] 0 W;exact this.trans o
def QX.new{s t a e m c i j}(f:Re W (E #[Z Y s,O a m c,Z Y t,O e i j]) q)(d:b=W.heap.size):QX (W.alloc (C #[Z Y s,O a m c,Z Y t,O e i j] 165)) b q:=
 ⟨s,a,m,c,t,e,i,j,mc _ _ _ d,f.ext ((eR _).alloc _)⟩
def QX.put2{p w j k t u a d l m i c f g s c2 o r}(h:QX W b q)(x:QX W b' q')(e:b≠b')(y:Re W (E #[Z Y j,O a i c,Z Y k,O d f g]) p)(n:Re W (E #[Z Y t,O l s c2,Z Y u,O m o r]) w):QX ((((((((W.setCell ⟨b,0,X⟩ (Z Y j)).setCell ⟨b,1,X⟩ (O a i c)).setCell ⟨b,2,X⟩ (Z Y k)).setCell ⟨b,3,X⟩ (O d f g)).setCell ⟨b',0,X⟩ (Z Y t)).setCell ⟨b',1,X⟩ (O l s c2)).setCell ⟨b',2,X⟩ (Z Y u)).setCell ⟨b',3,X⟩ (O m o r)) b p/\QX ((((((((W.setCell ⟨b,0,X⟩ (Z Y j)).setCell ⟨b,1,X⟩ (O a i c)).setCell ⟨b,2,X⟩ (Z Y k)).setCell ⟨b,3,X⟩ (O d f g)).setCell ⟨b',0,X⟩ (Z Y t)).setCell ⟨b',1,X⟩ (O l s c2)).setCell ⟨b',2,X⟩ (Z Y u)).setCell ⟨b',3,X⟩ (O m o r)) b' w:=by have z:=h.put y;have v:=x.other4 h (Ne.symm e) (Z Y j) (O a i c) (Z Y k) (O d f g);exact⟨z.other4 v e _ _ _ _,v.put (n.keep (Uo [Z Y j,O a i c,Z Y k,O d f g] 0 h.not))⟩
def QX.drew(h:QX W b q):QX W.drew b q:=h.ext (eR _).drew
def iq{w}(h:Ba w W)(a:w.heap.size<=b) c d e f:Ba w ((((W.setCell ⟨b,0,X⟩ c).setCell ⟨b,1,X⟩ d).setCell ⟨b,2,X⟩ e).setCell ⟨b,3,X⟩ f):=
 (((h.set (p:=⟨b,0,X⟩) a _).set (p:=⟨b,1,X⟩) a _).set (p:=⟨b,2,X⟩) a _).set (p:=⟨b,3,X⟩) a _
end
def si(s:Sp)(L:List Int)(i:Nat):Rat×Rat:=sd (Qb s) ((L.take i).map fun z:Int=>(z:Rat))
def BK{s L}{x:Int}(h:L[0]?=J x):si s L 1=((x:Rat),Qb s (x:Rat)):=by unfold si;rw[ze L 0 x h];rfl
def QO{s L i}{x:Int}(h:L[i]?=J x)(a:0<i):si s L (i+1)=yb (Qb s) (si s L i) (x:Rat):=by unfold si;rw[ze L i x h,List.map_append];refine SF _ _ _ ?_;intro e;have:=congrArg List.length e;have c:=(lS.1 h).1;rw[lL,List.length_take,Nat.min_eq_left oM]at this;exact absurd this (by simp;omega)
def VR W{b}(m:b=W.heap.size){e f ps j}(k:Ab W e ps)(l:Ab W f j):nk (W.alloc (C #[e,f] 122)) (O (J ⟨b,0,X⟩) 2 2) [ps,j]:=by
 subst m;refine⟨[[e],[f]],rfl,by simp,⟨by simp,J ⟨W.heap.size,0,X⟩,2,rfl,nE _,by unfold maxLen;omega,.inr ⟨W.heap.size,0,#[e,f],(0,0),rfl,aN _ _,?_⟩⟩,?_⟩
 ·intro i x a;simpa using a
 ·intro i c x d a;have g:Ba W (W.alloc (C #[e,f] 122)):=(eR W).alloc _
  match i,d,a with
  | 0,d,a=>simp at d a;subst d a;exact⟨_,rfl,k.f g⟩
  | 1,d,a=>simp at d a;subst d a;exact⟨_,rfl,l.f g⟩
  | i+2,d,a=>simp at d
def WH{s}(ok:Qg s){x}(a:Bd 104000 x):Rb 23 (Qb s (x:Rat)):=by unfold Qb;exact Rb.sub (k:=11) (Rb.atR (Ai a) ok.1) (Rb.atR (Ai a) ok.2.1)
def ZA{cs L a hi}(h:Eu cs a hi L):∀k,k<L.length->a+(k:Int)<=zN L k
 | 0,_=>by rw[h.h0];omega
 | k+1,c=>by
  have f:=ZA h k oM;have d:=h.le k oM;rw[h.st k c];obtain⟨-,-,e⟩:=Ns cs (zN L k) (hi+1);unfold Fj;split
  ·omega
  ·rcases e with e|⟨-,e⟩<;>omega
def DI{cs L a hi}(h:Eu cs a hi L)(c:Bd 104000 a)(d:Bd 104000 hi):L.length<=1000000:=by have e:=h.pos;have f:=ZA h (L.length-1) oM;have g:=h.le (L.length-1) oM;unfold Bd at c d;omega
def RN{s}(ok:Qg s):∀z∈Xd s,Bd 104000 z:=by
 intro z d;have a:=ok.2.2.1;have c:=ok.2.2.2;rcases Fi.1 d with rfl|rfl|⟨e,f,-⟩
 ·exact a
 ·exact c
 ·unfold Bd at *;omega
def Ju(w g:V)(s:Sp)(L:List Int)(c d:Nat)(e:M)(W:V):Prop:=
 ∃(i:Nat)(f a:Rat),e=Z Y i/\i<=L.length/\(0<i->si s L i=(f,a))/\Rb 100 a/\QX W c a/\QX W d f/\Ba g W
def Yt{s L i}{x:Int}{c a}(h:L[i]?=J x)(d:0<i)(e:si s L i=(c,a)):si s L (i+1)=if yd (Qb s (x:Rat)) a<0 then ((x:Rat),Qb s (x:Rat))else (c,a):=by rw[QO h d,e];rfl
def BM w va vb A B(h1:Ab w va A)(h2:Ab w vb B)(av:ke A)(aw:ke B)(r1:ie A)(r2:ie B)(ai:(Ld A B).lo<(Ld A B).hi):Calls Tryz.prog 94 #[va,vb] w fun e w'=>∃v1 v2,e=.returned (D #[v1,v2])/\Re w' v1 (Sa (Ld A B)).2/\Re w' v2 (Sa (Ld A B)).1/\Ba w w':=by
 have ar:=Io av aw;have ag:=TL ai;have hC:=fun W (hW:Ba w W)=>GS W va vb A B (h1.f hW) (h2.f hW) av.1 aw.1;obtain⟨s,hs⟩:=gX (Ld A B);have bb:s.over=A:=by rw[<-hs];rfl
 have bj:s.under=B:=by rw[<-hs];rfl
 rw[hs]at ar ag hC ai ⊢;obtain⟨lo,ba⟩:=gX s.lo;obtain⟨hi,a7⟩:=gX s.hi;rw[ba,a7]at hC ag ai;have bL:decide (lo<hi)=true:=by simpa using ai
 simp only[bL]at hC;obtain⟨L,hL⟩:=gX (Xd s);have aO:si s L L.length=Sa s:=by
  unfold si Sa Zb;rw[hL,List.take_length]
 rw[hL]at ag;have bU:Vj [A,B]=(s.over++s.under).map (·.1):=by rw[bb,bj];simp[Vj]
 rw[<-bU]at ag;have aE:=ar.2.2.1;have aD:=ar.2.2.2;rw[ba]at aE;rw[a7]at aD;have bV:∀z∈L,Bd 104000 z:=by rw[<-hL];exact RN ar
 have bC:=DI ag aE aD;have hP:=fun W v (hv:nk W v [A,B])=>DS W v [A,B] lo hi L hv ag aE aD (by
  intro c hc;unfold Vj at hc;obtain⟨q,hq,rfl⟩:=List.mem_map.1 hc;simp at hq;rcases hq with hq|hq
  ·exact(av.2.1 q hq).1
  ·exact(aw.2.1 q hq).1) sM (by
  intro l hl;simp at hl;rcases hl with rfl|rfl
  ·have:=av.2.2;omega
  ·have:=aw.2.2;omega) bC
 have bB:=ag.pos;rw[<-aO];have HC:=za hC;have HP:=za hP;have aU:=za ar;have b3:=za bV;have bt:=za bb;have bw:=za bj;have H1:=za h1;have H2:=za h2;have bo:=za (fun W vx x (hW:Ba w W) (hx:Re W vx x) (hb:Rb 2000 x)=>RC W va vx A x (h1.f hW) av r1 hx hb);have bp:=za (fun W vx x (hW:Ba w W) (hx:Re W vx x) (hb:Rb 2000 x)=>RC W vb vx B x (h2.f hW) aw r2 hx hb);obtain⟨a1,c1,bH⟩:=h1.form;obtain⟨a2,c2,bI⟩:=h2.form;obtain⟨n1,bM⟩:=gX A.length;obtain⟨n2,bN⟩:=gX B.length;rw[bM]at bH;rw[bN]at bI;subst bH bI;obtain⟨n,hn⟩:=gX L.length;rw[hn]at bB bC ⊢;have Hn:=za hn;clear hC hP ar bV bb bj h1 h2 ba a7 hL aO bU ag aE aD av aw r1 r2 bM bN hn ai bL hs;go_in;go_upto_region 3 with (first|(go_at_call 131;refine cM (HC.o _ eA) ?_;rintro e w1 ⟨rfl,bP⟩;(have X1:Ba w w1:=eA))|(go_at_call 132;refine cM (HP.o _ _ (VR w1 rfl (H1.o.f X1) (H2.o.f X1))) ?_;rintro e w2 ⟨v2,rfl,r,bk⟩;obtain⟨ra,rc,rfl⟩:=r.form));have X2:Ba w w2:=X1.trans (((eR w1).alloc _).trans bk);have aA:w2.heap[w.heap.size]?=J (Obj.cells #[Value.int Y 0,Value.slice X 0 0,Value.int Y 0,Value.slice X 0 0] 165 (0,0)):=((bP.trans ((eR w1).alloc _)).trans bk).e (Ei ..);have aj:w2.heap[w.heap.size+1]?=J (Obj.cells #[Value.int Y 0,Value.slice X 0 0,Value.int Y 0,Value.slice X 0 0] 165 (0,0)):=((bP.trans ((eR w1).alloc _)).trans bk).e (mc _ _ _ sM);rw[Hn.o]at r;have bu:=za r.ints;have aS:=za aA;have aT:=za aj;have zw:w.heap.size+1<w2.heap.size:=Ya aj;have en:L.length=n:=Hn.o;rw[en];clear r aA aj en;go_wp2;go_loopw [12] (Ju w w2 s L w2.heap.size (w2.heap.size+1)) (fun cl _=>n-(intOf cl).toNat)
 case atStart=>exact⟨0,0,0,rfl,by omega,fun h=>by omega,(Ai (k:=0) (n:=0) (by unfold Bd;omega)).mono dM,QX.ext (W:=w2.alloc (Obj.cells #[Value.int Y 0,Value.slice X 0 0,Value.int Y 0,Value.slice X 0 0] 165)) (QX.new (Re.zero _) rfl) ((eR _).alloc _),QX.new (W:=w2.alloc (Obj.cells #[Value.int Y 0,Value.slice X 0 0,Value.int Y 0,Value.slice X 0 0] 165)) (Re.zero _) sM,((eR w2).alloc _).alloc _⟩
 case round =>
  obtain⟨f,bJ⟩:=gX w2.heap.size;rw[bJ]at hrel ⊢;obtain⟨i,bx,bg,rfl,ce,aP,bF,bn,bW,hx⟩:=hrel;rw[Hn.o]at ce;have aI:=za aP;have bs:=za bF;have XW:Ba w wr:=X2.trans hx;have bX:=bn.rd;have bA:=za bn;have aV:=za bW;clear aP bF bX bn bW;by_cases ai:i<n
  ·obtain⟨x,aG⟩:∃x,L[i]?=J x:=⟨_,gE (by rw[Hn.o];exact ai)⟩;obtain⟨b,o,cf,cr,bG⟩:=(bu.o.ext hx).open (by rw[Hn.o];omega);subst cf;have c0:=bG i x aG;have au:=b3.o x (lM aG);have a0:=WH aU.o au;have aY:Qb s (x:Rat)=Rh A (x:Rat)-Rh B (x:Rat):=by unfold Qb;rw[bt.o,bw.o]
   obtain⟨G,hG⟩:=gX (Qb s (x:Rat));rw[hG]at a0 aY;have aQ:=za a0;have b2:=za aY;have HG:=za hG;have bz:=za aG;have bZ:Ua (Rb 11 (Rh A (x:Rat))):=za (by have:=Rb.atR (Ai au) aU.o.1;rw[bt.o]at this;exact this);have b0:Ua (Rb 11 (Rh B (x:Rat))):=za (by have:=Rb.atR (Ai au) aU.o.2.1;rw[bw.o]at this;exact this);have br:Ua (Rb 2000 (x:Rat)):=za ((Ai au).mono dM);have bY:=za (fun W=>Ct W x (by unfold Bd at au;omega) (by unfold Bd at au;omega));have g0:(0:Int)<=(i:Int):=oM;have g1:(i:Int)<(n:Int):=oM;clear bG a0 aY hG aG;go_upto_region 8 with (go_at_call 133;refine cM (bY.o wr) ?_;rintro e w3 ⟨r3,rfl,aF,bl⟩;obtain⟨s3,a3,m3,c3,t3,e3,i3,j3,rfl⟩:=aF.form);obtain⟨W3,aq⟩:=gX (w3.alloc (Obj.cells #[Value.int Y s3,Value.slice a3 m3 c3,Value.int Y t3,Value.slice e3 i3 j3] 165));obtain⟨g,af⟩:=gX w3.heap.size;have X3:Ba wr W3:=by rw[<-aq];exact bl.alloc _
   have cj:QX W3 g (x:Rat):=by rw[<-aq];exact QX.new aF af.symm
   have ap:W3.heap[g]?=J (Obj.cells #[Value.int Y s3,Value.slice a3 m3 c3,Value.int Y t3,Value.slice e3 i3 j3] 165 (0,0)):=by rw[<-aq];exact mc _ _ _ af.symm
   have bO:Re W3 (E #[Z Y s3,O a3 m3 c3,Z Y t3,O e3 i3 j3]) (x:Rat):=by rw[<-aq];exact aF.ext ((eR _).alloc _)
   have cv:wr.heap.size<=g:=by rw[<-af];exact bl.size
   have cq:g<W3.heap.size:=Ya ap;rw[aq,af];have C3:Da [(⟨g,0,X⟩,Z Y s3),(⟨g,1,X⟩,O a3 m3 c3),(⟨g,2,X⟩,Z Y t3),(⟨g,3,X⟩,O e3 i3 j3)] W3.drew:=⟨Lb ap (i:=0) rfl,Lb ap (i:=1) rfl,Lb ap (i:=2) rfl,Lb ap (i:=3) rfl,trivial⟩;clear aq af aF bl ap c0 g0 g1;refine Jz [(7,14,Obj.cells #[Value.int Y 0,Value.slice X 0 0,Value.int Y 0,Value.slice X 0 0] 165 (0,0))] _ 8 8 (fun i=>decide (7<i)) (fun _=>false) kM kM kM sM kM (by intro x hx;simp only[List.mem_cons,List.not_mem_nil,or_false]at hx;rcases hx with rfl<;>exact⟨_,rfl,rfl,fun a W=>by go_simp⟩) (fun _ _ d _ _ h=>by cases d<;>exact h) C3 (fun j=>?_);refine Rj (i:=0) ?_;refine Rj (i:=1) ?_;refine Rj (i:=3) ?_;refine Rj (i:=4) ?_;refine Eq (i:=2) fun W4 bE an ay K p=>?_;go_simp;refine cM (bo.o W4 _ (x:Rat) (XW.trans (X3.trans ((eR W3).drew.trans an))) (bO.ext ((eR W3).drew.trans an)) br.o) ?_;rintro e w4 ⟨r4,rfl,bc,bQ⟩;obtain⟨s4,a4,m4,c4,t4,e4,i4,j4,rfl⟩:=bc.form;go_wp2;refine kO p (.of an bQ) (fun _ _=>?_);clear p K ay;refine Eq (i:=5) fun W5 aK ao ay K p=>?_;go_simp;refine cM (bp.o W5 _ (x:Rat) (XW.trans (X3.trans ((eR W3).drew.trans ao))) (bO.ext ((eR W3).drew.trans ao)) br.o) ?_;rintro e w5 ⟨r5,rfl,be,bm⟩;obtain⟨s5,a5,m5,c5,t5,e5,i5,j5,rfl⟩:=be.form;go_wp2;refine kO p (.of ao bm) (fun _ _=>?_);clear p K ay;refine Eq (i:=6) fun W6 az aM ay K p=>?_;go_simp;(with_reducible refine cM (sB W6 _ _ (Rh A (x:Rat)) (Rh B (x:Rat)) (bc.ext (aK.trans (bm.trans az))) (be.ext az) (bZ.o.mono dM) (b0.o.mono dM)) ?_);rintro e w6 ⟨r6,rfl,bf,bT⟩;obtain⟨s6,a6,m6,c6,t6,e6,i6,j6,rfl⟩:=bf.form;go_wp2;refine kO p (.of aM bT) (fun _ _=>?_);clear p K ay;refine df kM (fun W7 aL aX=>?_);intro m am aH _ _;have Y7:Ba W3 W7:=(eR W3).drew.trans aX;have bh:=bf.ext aL;rw[<-b2.o]at bh;have aJ:QX W7 m 0:=⟨_,_,_,_,_,_,_,_,am,Re.zero _⟩;have k0:=Aa am 0 (Z Y 0);have k1:=Aa am 1 (O X 0 0);have k2:=Aa am 2 (Z Y 0);have k3:=Aa am 3 (O X 0 0);have kf:=Za am;clear bQ bc bm be bT bf bE aK az aL an ao aM;refine Te (i:=8) fun K p=>?_;go_simp;refine kO p (cE j (by(repeat refine Ba.set ?_ (by exact aH) _);exact aX)) (fun b9=>?_);clear p K;refine Pb ?_;clear k0 k1 k2 k3 kf b9;obtain⟨W8,aW⟩:=gX (((((W7.setCell ⟨m,0,X⟩ (Z Y s6)).setCell ⟨m,1,X⟩ (O a6 m6 c6)).setCell ⟨m,2,X⟩ (Z Y t6)).setCell ⟨m,3,X⟩ (O e6 i6 j6)));have ax:=aJ.put bh;have cn:W3.heap.size<=m:=by simp only[Yb]at aH;exact aH
   have X8:Ba W3 W8:=by rw[<-aW];exact iq Y7 cn _ _ _ _
   rw[aW]at ax ⊢;clear aW bh aJ Y7 aX aH am C3 j;have XF:Ba wr W8:=X3.trans X8;have ac:=bA.o.ext XF;have ae:=aV.o.ext XF;have aC:=cj.ext X8;have aR:=za XF;have cc:f+1<g:=by have:=aV.o.rd;obtain⟨_,_,_,_,_,_,_,_,_,_,_,_,_,h9,_⟩:=this;omega
   have cd:f+1<m:=oM;have co:¬g=f:=oM;have cp:¬m=f:=oM;by_cases a8:i=0
   ·subst a8;have ad:=hx;obtain⟨s1,t,m1,u,t1,e1,i1,j1,y0,y1,y2,y3,yf,yz,hy⟩:=ax.rd;obtain⟨s2,y,m2,R,t2,e2,i2,j2,v0,v1,v2,v3,vf,vz,hv⟩:=aC.rd;have ak:=ac.rd;have al:=ae.rd;obtain⟨s5,b4,m5,b6,t5,e5,i5,j5,x0,x1,x2,x3,xf,xz,aB⟩:=ac.rd;obtain⟨ck,b5,ci,b7,cm,b8,cg,ch,u0,u1,u2,u3,uf,uz,hu⟩:=ae.rd;clear ak al;go_upto_region 10 with fail;refine Ti (fun i=>decide (2<i)) (Da [(⟨m,0,X⟩,Z Y s1),(⟨m,1,X⟩,O t m1 u),(⟨m,2,X⟩,Z Y t1),(⟨m,3,X⟩,O e1 i1 j1),(⟨g,0,X⟩,Z Y s2),(⟨g,1,X⟩,O y m2 R),(⟨g,2,X⟩,Z Y t2),(⟨g,3,X⟩,O e2 i2 j2)]) kM ?_ (fun j=>?_)
    ·exact cA
    refine sN 0 ?_
    (iterate 2 refine Ui ?_);refine oN ?_;refine Ed (i:=2) fun K p=>?_;go_simp;refine kO p (fun _=>?_) (fun j=>?_)
    ·exact cA
    clear p K;replace j:=j rfl;refine Ed (i:=3) fun K p=>?_;go_simp;refine kO p (fun h=>nomatch h) (fun j=>?_);clear p K;refine Ub kM ?_ _;obtain⟨ak,al⟩:=QX.put2 ac ae (show f≠f+1 by omega) hy hv;have kX:=iq (iq (Ba.trans ‹Ba w2 _› aR.o) (show w2.heap.size<=f by omega) (Z Y s1) (O t m1 u) (Z Y t1) (O e1 i1 j1)) (show w2.heap.size<=f+1 by omega) (Z Y s2) (O y m2 R) (Z Y t2) (O e2 i2 j2);go_wp2;go_roundw
    case rel=>exact⟨0+1,(x:Rat),G,by go_num,by rw[Hn.o];omega,fun _=>by rw[BK bz.o,HG.o],aQ.o.mono dM,ak.drew,al.drew,kX.drew⟩
    case measure=>simp[intOf];omega
   ·have bK:0<i:=oM;(have cs:((i:Int)==0)=false:=by simpa using a8);obtain⟨sa,aa,ma,ca,ta,ea,ia,ja,y0,y1,y2,y3,-,yz,hy⟩:=ax.rd;obtain⟨sb,ab,mb,cb,tb,eb,ib,jb,x0,x1,x2,x3,-,xz,aB⟩:=ac.rd;have aZ:=Uw W8 _ _ G bg hy aB (aQ.o.mono dM) (bs.o.mono dM);obtain⟨T,hT⟩:=gX (yd G bg);rw[hT]at aZ;have HT:=za hT;have bq:=za aZ;have bi:=Yt bz.o bK (aI.o bK);rw[HG.o,hT]at bi;have bv:=za bi;clear aZ hT bi a8;by_cases bD:T<0
    ·(have e9:si s L (i+1)=((x:Rat),G):=by rw[bv.o,if_pos bD]);have E9:=za e9;clear e9 hy aB;go_upto_if 53 with (go_at_call 136;(with_reducible refine bq.o.mono ?_);rintro e w9 ⟨rfl,ad⟩);replace ax:=ax.ext ad;replace ac:=ac.ext ad;replace ae:=ae.ext ad;replace aC:=aC.ext ad;obtain⟨s1,t,m1,u,t1,e1,i1,j1,y0,y1,y2,y3,yf,yz,hy⟩:=ax.rd;obtain⟨s2,y,m2,R,t2,e2,i2,j2,v0,v1,v2,v3,vf,vz,hv⟩:=aC.rd;have ak:=ac.rd;have al:=ae.rd;obtain⟨s5,b4,m5,b6,t5,e5,i5,j5,x0,x1,x2,x3,xf,xz,aB⟩:=ac.rd;obtain⟨ck,b5,ci,b7,cm,b8,cg,ch,u0,u1,u2,u3,uf,uz,hu⟩:=ae.rd;clear ak al;go_upto_region 10 with fail;refine Ti (fun i=>decide (2<i)) (Da [(⟨m,0,X⟩,Z Y s1),(⟨m,1,X⟩,O t m1 u),(⟨m,2,X⟩,Z Y t1),(⟨m,3,X⟩,O e1 i1 j1),(⟨g,0,X⟩,Z Y s2),(⟨g,1,X⟩,O y m2 R),(⟨g,2,X⟩,Z Y t2),(⟨g,3,X⟩,O e2 i2 j2)]) kM ?_ (fun j=>?_)
     ·exact cA
     refine sN 0 ?_
     (iterate 2 refine Ui ?_);refine oN ?_;refine Ed (i:=2) fun K p=>?_;go_simp;refine kO p (fun _=>?_) (fun j=>?_)
     ·exact cA
     clear p K;replace j:=j rfl;refine Ed (i:=3) fun K p=>?_;go_simp;refine kO p (fun h=>nomatch h) (fun j=>?_);clear p K;refine Ub kM ?_ _;obtain⟨ak,al⟩:=QX.put2 ac ae (show f≠f+1 by omega) hy hv;have kX:=iq (iq (Ba.trans ‹Ba w2 _› (aR.o.trans ad)) (show w2.heap.size<=f by omega) (Z Y s1) (O t m1 u) (Z Y t1) (O e1 i1 j1)) (show w2.heap.size<=f+1 by omega) (Z Y s2) (O y m2 R) (Z Y t2) (O e2 i2 j2);go_wp2;go_roundw
     case rel=>exact⟨i+1,(x:Rat),G,by go_num,by rw[Hn.o];omega,fun _=>E9.o,aQ.o.mono dM,ak.drew,al.drew,kX.drew⟩
     case measure=>simp[intOf];omega
    ·(have e9:si s L (i+1)=(bx,bg):=by rw[bv.o,if_neg bD]);have E9:=za e9;clear e9 hy aB;go_wp2_with(go_at_call 136;(with_reducible refine bq.o.mono ?_);rintro e w9 ⟨rfl,ad⟩);go_roundw
     case rel=>exact⟨i+1,bx,bg,by go_num,by rw[Hn.o];omega,fun _=>E9.o,bs.o,ac.ext ad,ae.ext ad,hx.trans (aR.o.trans ad)⟩
     case measure=>simp[intOf];omega
  ·obtain rfl:i=n:=oM;have hb:=aI.o bB;obtain⟨s1,t,m1,u,t1,e1,i1,j1,y0,y1,y2,y3,yf,yz,hy⟩:=bA.o.rd;obtain⟨s2,y,m2,R,t2,e2,i2,j2,v0,v1,v2,v3,vf,vz,hv⟩:=aV.o.rd;have ah:=hx.e aS.o;have r:=hx.e aT.o;have q1:QX wr w.heap.size 0:=⟨_,_,_,_,_,_,_,_,ah,Re.zero _⟩;have q2:QX wr (w.heap.size+1) 0:=⟨_,_,_,_,_,_,_,_,r,Re.zero _⟩;have o0:=Aa ah 0 (Z Y 0);have o1:=Aa ah 1 (O X 0 0);have o2:=Aa ah 2 (Z Y 0);have o3:=Aa ah 3 (O X 0 0);have of:=Za ah;have k0:=Aa r 0 (Z Y 0);have k1:=Aa r 1 (O X 0 0);have k2:=Aa r 2 (Z Y 0);have k3:=Aa r 3 (O X 0 0);have kf:=Za r;have oz:=Ya ah;have kz:=Ya r;have ct:¬f=w.heap.size:=oM;have cu:¬f+1=w.heap.size:=oM;have Hb:=za hb;have a9:=(Uo [Z Y s1,O t m1 u,Z Y t1,O e1 i1 j1] 0 q1.not).trans (Uo [Z Y s2,O y m2 R,Z Y t2,O e2 i2 j2] 0 (q2.other4 q1 (show w.heap.size+1≠w.heap.size by omega) (Z Y s1) (O t m1 u) (Z Y t1) (O e1 i1 j1)).not);have P1:=za (hy.keep a9);have P2:=za (hv.keep a9);have XF:=iq (iq XW (show w.heap.size<=w.heap.size by omega) (Z Y s1) (O t m1 u) (Z Y t1) (O e1 i1 j1)) (show w.heap.size<=w.heap.size+1 by omega) (Z Y s2) (O y m2 R) (Z Y t2) (O e2 i2 j2);have b1:=za XF;clear hb ah r q1 q2 hy hv a9 XF XW hx;go_wp2;refine Ti (fun i=>decide (2<i)) (Da [(⟨f,0,X⟩,Z Y s1),(⟨f,1,X⟩,O t m1 u),(⟨f,2,X⟩,Z Y t1),(⟨f,3,X⟩,O e1 i1 j1),(⟨f+1,0,X⟩,Z Y s2),(⟨f+1,1,X⟩,O y m2 R),(⟨f+1,2,X⟩,Z Y t2),(⟨f+1,3,X⟩,O e2 i2 j2)]) kM ?_ (fun j=>?_)
   ·exact cA
   refine sN 0 ?_
   iterate 2 refine Ui ?_
   refine oN ?_;refine Ed (i:=2) fun K p=>?_;go_simp;refine kO p (fun _=>?_) (fun j=>?_)
   ·exact cA
   clear p K;replace j:=j rfl;refine Ed (i:=3) fun K p=>?_;go_simp;refine kO p (fun h=>nomatch h) (fun j=>?_);clear p K;refine Ub kM ?_ _;go_wp2;refine bR (v:=D #[E #[Z Y s1,O t m1 u,Z Y t1,O e1 i1 j1],E #[Z Y s2,O y m2 R,Z Y t2,O e2 i2 j2]]) (by simp[results,Tryz.results94,go_sem,oz,kz,o0,o1,o2,o3,k0,k1,k2,k3]) rfl ⟨_,_,rfl,?_,?_,b1.o.drew⟩
   ·rw[Hb.o];exact P1.o.ext (eR _).drew
   ·rw[Hb.o];exact P2.o.ext (eR _).drew
def Jy w r s A B(l:Ab w r A)(m:Ab w s B)(f:ke A)(i:ke B)(y:ie A)(z:ie B)(a:(Ld A B).lo<(Ld A B).hi):Calls Tryz.prog 59 #[r,s] w fun e w'=>e=.returned (I (We A B))/\Ba w w':=by
 have c:We A B=decide (0<=(Sa (Ld A B)).2.num.sign):=by unfold We;rw[if_pos a]
 have t:=za (fun W (u:Ba w W)=>BM W r s A B (l.f u) (m.f u) f i y z a);rw[c];obtain⟨g,o⟩:=gX ((Sa (Ld A B)).2);obtain⟨x,v⟩:=gX ((Sa (Ld A B)).1);rw[o,v]at t;rw[o];obtain⟨T,n⟩:=gX g.num.sign;rw[n];have K:=za n;obtain⟨a1,n1,c1,rfl⟩:=l.i;obtain⟨a2,n2,c2,rfl⟩:=m.i;clear o v n l m f i y z a c;go_in;go_wp2_with(first|(go_at_call 94;refine cM (t.o w (eR _)) ?_;rintro e w1 ⟨v1,v2,rfl,d,p,aa⟩;obtain⟨s1,j,m1,k,t1,e1,i1,j1,rfl⟩:=d.form;obtain⟨s2,L,m2,R,t2,e2,i2,j2,rfl⟩:=p.form)|(go_at_call 95;(with_reducible refine(FQ _ (E #[Z Y s1,O j m1 k,Z Y t1,O e1 i1 j1]) g ?_).mono ?_);(exact d.ext (((eR w1).alloc _).alloc _));rw[K.o];rintro e w3 ⟨rfl,ab⟩));go_ret;exact⟨rfl,eA⟩
def OQ w p q s t(x:∃a n c,s=O a n c)(y:∃a n c,t=O a n c):Calls Tryz.prog 61 #[E (Dd p s),E (Dd q t)] w fun e L=>e=.returned (I (Me p q))/\Ba w L:=by
 obtain⟨a,n,c,rfl⟩:=x;obtain⟨a',n',c',rfl⟩:=y;obtain⟨nm,sh,d,de,gx,gz,wy,ax,az,g⟩:=p;obtain⟨z,K,d',r,u,v,R,m,o,f⟩:=q;unfold Me Dd;dsimp only;by_cases i:g=f
 ·have k:(g==f)=true:=by simpa using i
  rw[k];clear i;go_in;go_wp2;go_ret;exact⟨rfl,eA⟩
 have k:(g==f)=false:=by simpa using i
 rw[k];clear i;by_cases j:g=3
 ·have l:(g==3)=true:=by simpa using j
  rw[l];clear j;go_in;go_wp2;go_ret;exact⟨rfl,eA⟩
 have l:(g==3)=false:=by simpa using j
 rw[l];clear j;go_in;go_wp2;go_ret;exact⟨rfl,eA⟩
def Sw{p}(h:Fa p=true):ub (Ga p)<Wb (Ga p):=(Nv h).2.2.1
def KB{p q}(e:Fa p=true)(d:Fa q=true)(f:¬Wb (Ga p)<=ub (Ga q))(g:¬Wb (Ga q)<=ub (Ga p)):(Ld (Ga p) (Mb q)).lo<(Ld (Ga p) (Mb q)).hi:=by have a:=Nv d;have b:=Sw e;have c:=Sw d;unfold Ld;dsimp only;omega
def vN w p q s t(hs:Ab w s p.shape)(ht:Ab w t q.shape)(hp:Fa p=true)(hq:Fa q=true):Calls Tryz.prog 62 #[E (Dd p s),E (Dd q t)] w fun e w'=>e=.returned (Z .u8 (Zi p q))/\Ba w w':=by
 have R:=Dl hp;have aa:=Dl hq;have l:=za (fun W (hW:Ba w W)=>Uv W s p (hs.f hW) hp);have m:=za (fun W (hW:Ba w W)=>Uv W t q (ht.f hW) hq);have ae:=za (fun W (hW:Ba w W)=>CD W s p (hs.f hW) hp);have af:=za (fun W (hW:Ba w W)=>CD W t q (ht.f hW) hq);have ac:=za (fun W v (hv:Ab W v (Ga p))=>mt W v _ hv R.1.1);have ad:=za (fun W v (hv:Ab W v (Ga q))=>mt W v _ hv aa.1.1);have ao:=za (fun W v1 v2 (j:Ab W v1 (Ga p)) (z:Ab W v2 (Mb q)) ah=>Jy W v1 v2 _ _ j z R.1 aa.2 (Xp hp).1 (ur hq).1 ah);have ap:=za (fun W v1 v2 (j:Ab W v1 (Ga q)) (z:Ab W v2 (Mb p)) ah=>Jy W v1 v2 _ _ j z aa.1 R.2 (Xp hq).1 (ur hp).1 ah);have am:=za (KB hp hq);have an:=za (KB hq hp);obtain⟨k,hk⟩:=gX (Zi p q);rw[hk];unfold Zi at hk;obtain⟨l1,g⟩:=gX (ub (Ga p));obtain⟨r1,e2⟩:=gX (Wb (Ga p));obtain⟨l2,e3⟩:=gX (ub (Ga q));obtain⟨r2,e4⟩:=gX (Wb (Ga q));rw[show (Qa (Ga p) 0).1=l1 from g,show (Qa (Ga p) ((Ga p).length-1)).1=r1 from e2]at ac;rw[show (Qa (Ga q) 0).1=l2 from e3,show (Qa (Ga q) ((Ga q).length-1)).1=r2 from e4]at ad;rw[g,e2,e3,e4]at hk am;rw[g,e2,e3,e4]at an;obtain⟨f1,e5⟩:=gX (We (Ga p) (Mb q));obtain⟨f2,e6⟩:=gX (We (Ga q) (Mb p));rw[e5,e6]at hk;rw[e5]at ao;rw[e6]at ap;have Hk:=za hk;obtain⟨a,n,c,rfl⟩:=hs.i;obtain⟨a',n',c',rfl⟩:=ht.i;clear hk g e2 e3 e4 e5 e6 R aa hs ht hp hq;obtain⟨nm,sh,d,de,gx,gz,wy,ax,az,sk⟩:=p;obtain⟨aF,bb,d',av,aw,ay,aH,ar,au,aG⟩:=q;unfold Dd at l m ae af ⊢;dsimp only at l m ae af ⊢;by_cases Wi:r1<=l2\/(¬r1<=l2/\r2<=l1)
 ·rcases Wi with j|⟨j,z⟩
  all_goals
   have e:=Hk.o
   first
   | rw[if_pos j]at e
   | rw[if_neg j,if_pos z]at e
   subst e;go_in;go_wp2_with(first|(go_at_call 60;(with_reducible refine(l.o _ ?_).mono ?_);exact eA;rintro e w1 ⟨v1,rfl,o,ai⟩;obtain⟨a1,n1,c1,rfl⟩:=o.i;obtain⟨⟨aS,aW⟩,aI,aJ⟩:=Nb w ai;(have X1:Ba w w1:=eA))|(go_at_call 93;(with_reducible refine(ac.o w1 _ o.pr).mono ?_);rintro e w2 ⟨rfl,u⟩;obtain⟨⟨aT,aX⟩,aK,aL⟩:=Nb w u;(have X2:Ba w w2:=X1.trans u))|(go_at_call 60;(with_reducible refine(m.o w2 X2).mono ?_);rintro e w3 ⟨v3,rfl,r,x⟩;obtain⟨a3,n3,c3,rfl⟩:=r.i;obtain⟨⟨aU,aY⟩,aM,aO⟩:=Nb w x;(have X3:Ba w w3:=X2.trans x))|(go_at_call 93;(with_reducible refine(ad.o w3 _ r.pr).mono ?_);rintro e w4 ⟨rfl,y⟩;obtain⟨⟨aV,aZ⟩,aP,aQ⟩:=Nb w y;(have X4:Ba w w4:=X3.trans y)));go_ret;exact⟨rfl,X4⟩
 have j:¬r1<=l2:=fun h=>Wi (.inl h);have z:¬r2<=l1:=fun h=>Wi (.inr ⟨j,h⟩);clear Wi;have b1:=am.o j z;have b2:=an.o z j;have B1:=za b1;have B2:=za b2;have ag:=Hk.o;rw[if_neg j,if_neg z]at ag;have aq:=za ag;clear b1 b2 ag;go_in;go_upto_region 7 with (first|(go_at_call 60;(with_reducible refine(l.o _ ?_).mono ?_);exact eA;rintro e w1 ⟨v1,rfl,o,ai⟩;obtain⟨a1,n1,c1,rfl⟩:=o.i;obtain⟨⟨aS,aW⟩,aI,aJ⟩:=Nb w ai;(have X1:Ba w w1:=eA))|(go_at_call 93;(with_reducible refine(ac.o w1 _ o.pr).mono ?_);rintro e w2 ⟨rfl,u⟩;obtain⟨⟨aT,aX⟩,aK,aL⟩:=Nb w u;(have X2:Ba w w2:=X1.trans u))|(go_at_call 60;(with_reducible refine(m.o w2 X2).mono ?_);rintro e w3 ⟨v3,rfl,r,x⟩;obtain⟨a3,n3,c3,rfl⟩:=r.i;obtain⟨⟨aU,aY⟩,aM,aO⟩:=Nb w x;(have X3:Ba w w3:=X2.trans x))|(go_at_call 93;(with_reducible refine(ad.o w3 _ r.pr).mono ?_);rintro e w4 ⟨rfl,y⟩;obtain⟨⟨aV,aZ⟩,aP,aQ⟩:=Nb w y;(have X4:Ba w w4:=X3.trans y)));refine jd [(⟨w.heap.size,0,X⟩,.string nm),(⟨w.heap.size,1,X⟩,O a n c),(⟨w.heap.size,2,X⟩,Z Y d),(⟨w.heap.size,3,X⟩,Z Y de),(⟨w.heap.size,4,X⟩,Z Y gx),(⟨w.heap.size,5,X⟩,Z Y gz),(⟨w.heap.size,6,X⟩,Z Y wy),(⟨w.heap.size,7,X⟩,Z Y ax),(⟨w.heap.size,8,X⟩,Z Y az),(⟨w.heap.size,9,X⟩,Z .u8 sk),(⟨w.heap.size+1,0,X⟩,.string aF),(⟨w.heap.size+1,1,X⟩,O a' n' c'),(⟨w.heap.size+1,2,X⟩,Z Y d'),(⟨w.heap.size+1,3,X⟩,Z Y av),(⟨w.heap.size+1,4,X⟩,Z Y aw),(⟨w.heap.size+1,5,X⟩,Z Y ay),(⟨w.heap.size+1,6,X⟩,Z Y aH),(⟨w.heap.size+1,7,X⟩,Z Y ar),(⟨w.heap.size+1,8,X⟩,Z Y au),(⟨w.heap.size+1,9,X⟩,Z .u8 aG)] cA fun f=>?_;refine La (i:=0) ?_;refine La (i:=2) ?_;refine Ac (i:=1) (l.o _ (X4.drew)) ?_;rintro e w5 ⟨v5,rfl,aA,K⟩;obtain⟨a5,n5,c5,rfl⟩:=aA.i;refine⟨_,rfl,(cE f K),fun f=>?_⟩;refine Ac (i:=3) (af.o w5 (X4.drew.trans K)) ?_;rintro e w6 ⟨v6,rfl,aB,L⟩;obtain⟨a6,n6,c6,rfl⟩:=aB.i;refine⟨_,rfl,(cE f L),fun f=>?_⟩;refine Ac (i:=4) (ao.o w6 _ _ (aA.pr.f L) aB.pr B1.o) ?_;rintro e w7 ⟨rfl,aj⟩;have X7:Ba w w7:=(X4.drew.trans K).trans (L.trans aj);refine⟨_,rfl,(cE f aj),fun f=>?_⟩;refine La (i:=5) ?_;refine Pb ?_;have aE:=K.trans (L.trans aj);obtain⟨⟨a7,ba⟩,a2,a4⟩:=Nb w aE;cases f1 with
 |true=>
  have e:=aq.o;rw[if_pos rfl]at e;subst e;go_wp2;go_ret;exact⟨rfl,X7⟩
 |false=>
  have g:=aq.o;rw[if_neg dM]at g;have E1:=za g;clear g;go_upto_region 9 with fail;refine jd [(⟨w.heap.size,0,X⟩,.string nm),(⟨w.heap.size,1,X⟩,O a n c),(⟨w.heap.size,2,X⟩,Z Y d),(⟨w.heap.size,3,X⟩,Z Y de),(⟨w.heap.size,4,X⟩,Z Y gx),(⟨w.heap.size,5,X⟩,Z Y gz),(⟨w.heap.size,6,X⟩,Z Y wy),(⟨w.heap.size,7,X⟩,Z Y ax),(⟨w.heap.size,8,X⟩,Z Y az),(⟨w.heap.size,9,X⟩,Z .u8 sk),(⟨w.heap.size+1,0,X⟩,.string aF),(⟨w.heap.size+1,1,X⟩,O a' n' c'),(⟨w.heap.size+1,2,X⟩,Z Y d'),(⟨w.heap.size+1,3,X⟩,Z Y av),(⟨w.heap.size+1,4,X⟩,Z Y aw),(⟨w.heap.size+1,5,X⟩,Z Y ay),(⟨w.heap.size+1,6,X⟩,Z Y aH),(⟨w.heap.size+1,7,X⟩,Z Y ar),(⟨w.heap.size+1,8,X⟩,Z Y au),(⟨w.heap.size+1,9,X⟩,Z .u8 aG)] cA fun f=>?_;refine La (i:=0) ?_;refine La (i:=2) ?_;refine Ac (i:=1) (m.o _ (X7.drew)) ?_;rintro e w8 ⟨v8,rfl,aC,ak⟩;obtain⟨a8,n8,c8,rfl⟩:=aC.i;refine⟨_,rfl,(cE f ak),fun f=>?_⟩;refine Ac (i:=3) (ae.o w8 (X7.drew.trans ak)) ?_;rintro e w9 ⟨v9,rfl,aD,al⟩;obtain⟨a9,n9,c9,rfl⟩:=aD.i;refine⟨_,rfl,(cE f al),fun f=>?_⟩;refine Ac (i:=4) (ap.o w9 _ _ (aC.pr.f al) aD.pr B2.o) ?_;rintro e a0 ⟨rfl,ab⟩;have aR:Ba w a0:=(X7.drew.trans ak).trans (al.trans ab);refine⟨_,rfl,(cE f ab),fun f=>?_⟩;refine La (i:=5) ?_;refine Pb ?_;cases f2
  all_goals
   have g:=E1.o
   first
   | rw[if_pos rfl]at g
   | rw[if_neg dM]at g
   subst g;go_wp2;go_ret;exact⟨rfl,aR⟩
end
section
open Go.RowKit Go.Shelf Go.Sort Go.Lib
attribute [local go_sem] Oper.semAt_some
def ig(z:Int):Bool:=decide (0<=z)&&decide (z<=10000)
def DN w z:Calls Tryz.prog 41 #[Z Y z] w fun e d=>e=.returned (I (ig z))/\d=w:=by
 unfold ig;by_cases a:0<=z<;>by_cases c:z<=10000
 all_goals
  go_in;go_wp2;go_ret;exact⟨by simp[a,c],rfl⟩
def BN w a b m(c:Bd 1000000 a)(d:Bd 1000000 b):Calls Tryz.prog 72 #[Z Y a,Z Y b,Z Y m] w fun e i=>e=.returned (I (ji m a b))/\i=w:=by
 have e:ji m a b=(decide (a-b<=m)&&decide (b-a<=m)):=by
  unfold ji;rw[<-Bool.decide_and,decide_eq_decide];omega
 rw[e];unfold Bd at c d;have j:IntKind.i64.wrap (a-b)=a-b:=iW _ oM;have k:IntKind.i64.wrap (b-a)=b-a:=iW _ oM;clear c d e;by_cases f:a-b<=m<;>by_cases g:b-a<=m
 all_goals
  go_in;go_wp2;go_ret;exact⟨by simp[f,g],rfl⟩
def Yj(a b c d:Int):Bool:=decide (max a c<min b d)
def yN w a b c d:Calls Tryz.prog 63 #[Z Y a,Z Y b,Z Y c,Z Y d] w fun e k=>e=.returned (I (Yj a b c d))/\k=w:=by
 have e:Yj a b c d=(decide (a<d)&&(decide (c<b)&&(decide (a<b)&&decide (c<d)))):=by
  unfold Yj;rw[<-Bool.decide_and,<-Bool.decide_and,<-Bool.decide_and,decide_eq_decide];omega
 rw[e];clear e;by_cases f:a<d<;>by_cases g:c<b<;>by_cases i:a<b<;>by_cases j:c<d
 all_goals
  go_in;go_wp2;go_ret;exact⟨by simp[f,g,i,j],rfl⟩
def uB w a b c d:Calls Tryz.prog 63 #[Z Y a,Z Y b,Z Y c,Z Y d] w fun e i=>e=.returned (I (Yj a b c d))/\Ba w i:=
 (yN w a b c d).mono fun _ _ ⟨f,g⟩=>⟨f,by rw[g];exact eR _⟩
def Ky w p v s(hv:∃a n c,v=O a n c):Calls Tryz.prog 42 #[E (Dd p v),Z .u8 s] w fun e l=>e=.returned (I (p.skin==s || p.skin==3))/\Ba w l:=by
 obtain⟨a,n,c,rfl⟩:=hv;obtain⟨x,y,d,r,t,u,z,m,o,f⟩:=p;unfold Dd;dsimp only;by_cases g:f=s
 ·have j:(f==s)=true:=by simpa using g
  rw[j];clear g;go_in;go_wp2;go_ret;exact⟨rfl,eA⟩
 have j:(f==s)=false:=by simpa using g
 rw[j];clear g;by_cases i:f=3
 ·have k:(f==3)=true:=by simpa using i
  rw[k];clear i;go_in;go_wp2;go_ret;exact⟨rfl,eA⟩
 ·have k:(f==3)=false:=by simpa using i
  rw[k];clear i;go_in;go_wp2;go_ret;exact⟨rfl,eA⟩
def uh(r:Ru):Bool:=(r.skin==1 || r.skin==2)&&(decide (0<=r.pin)&&(decide (r.pin<=50)&&(ig r.wide&&(ig r.lap&&(ig r.step&&(ig r.run&&ig r.level))))))
def gu{p q}[Decidable p][Decidable q](h:p ↔ ¬q):decide p=!decide q:=by by_cases a:q<;>simp[h,a]
def lO r:uh r=decide (Cc r=0):=by
 have f:∀z,Kg z=!ig z:=fun z=>by
  unfold Kg ig;by_cases a:0<=z<;>by_cases c:z<=10000<;>simp[a,c]<;>omega
 unfold uh Cc;simp only[List.any_cons,List.any_nil,f];by_cases a:r.skin=1<;>by_cases c:r.skin=2<;>by_cases d:r.pin<0<;>by_cases e:50<r.pin
 all_goals
  have g:decide (0<=r.pin)=!decide (r.pin<0):=gu oM;have i:decide (r.pin<=50)=!decide (50<r.pin):=gu oM;rw[g,i];simp[a,c,d,e]
 all_goals
  cases ig r.wide<;>cases ig r.lap<;>cases ig r.step<;>cases ig r.run<;>cases ig r.level<;>rfl
def WS:∀b3 b4 c1 c2 c3 c4 c5,b3=false\/(b3=true/\b4=false)\/(b3=true/\b4=true/\c1=false)\/(b3=true/\b4=true/\c1=true/\c2=false)\/(b3=true/\b4=true/\c1=true/\c2=true/\c3=false)\/(b3=true/\b4=true/\c1=true/\c2=true/\c3=true/\c4=false)\/(b3=true/\b4=true/\c1=true/\c2=true/\c3=true/\c4=true/\c5=false)\/(b3=true/\b4=true/\c1=true/\c2=true/\c3=true/\c4=true/\c5=true):=by intro b3 b4 c1 c2 c3 c4 c5;cases b3<;>cases b4<;>cases c1<;>cases c2<;>cases c3<;>cases c4<;>cases c5<;>simp
def iR w r:Calls Tryz.prog 13 #[E (Uf r)] w fun e w'=>e=.returned (I (uh r))/\Ba w w':=by
 obtain⟨t,c,d,j,step,k,a⟩:=r;unfold uh Uf;dsimp only;obtain⟨f,R⟩:=gX ((t==1));obtain⟨g,e2⟩:=gX ((t==2));obtain⟨u,e3⟩:=gX (decide (0<=c));obtain⟨v,i⟩:∃b,decide (c<=50)=b:=⟨_,rfl⟩;obtain⟨x,l⟩:=gX (ig d);obtain⟨y,m⟩:=gX (ig j);obtain⟨z,n⟩:=gX (ig step);obtain⟨K,o⟩:=gX (ig k);obtain⟨L,p⟩:=gX (ig a);rw[R,e2,e3,i,l,m,n,o,p];have hs:(f=true\/(f=false/\g=true))\/(f=false/\g=false):=by cases f<;>cases g<;>simp
 have s:=WS u v x y z K L;rcases hs with (rfl|⟨rfl,rfl⟩)|⟨rfl,rfl⟩
 rotate_left 2
 ·clear s;go_in;go_wp2;go_ret;exact⟨rfl,eA⟩
 all_goals
  rcases s with rfl|⟨rfl,rfl⟩|⟨rfl,rfl,rfl⟩|⟨rfl,rfl,rfl,rfl⟩|⟨rfl,rfl,rfl,rfl,rfl⟩|⟨rfl,rfl,rfl,rfl,rfl,rfl⟩|⟨rfl,rfl,rfl,rfl,rfl,rfl,rfl⟩|⟨rfl,rfl,rfl,rfl,rfl,rfl,rfl⟩
 all_goals
  go_in;go_wp2_with(go_at_call 41;(with_reducible refine(DN _ _).mono ?_);rintro e w1 ⟨rfl,rfl⟩;first|rw[l]|rw[m]|rw[n]|rw[o]|rw[p]);go_ret;exact⟨rfl,eA⟩
def FD w r j k(hj:Fh j)(hk:Fh k):Calls Tryz.prog 46 #[E (Uf r),E (yh j),E (yh k)] w fun e w'=>e=.returned (I (Qd r j k))/\Ba w w':=by
 obtain⟨sk,ad,ab,ac,step,ae,aa⟩:=r;obtain⟨ja,jb,i,f,jf,jt⟩:=j;obtain⟨ka,kb,g,l,kf,kt⟩:=k;obtain⟨s,t,u,v,x,m⟩:=hj;obtain⟨y,z,K,L,n,R⟩:=hk;dsimp only at s t u v x m y z K L n R;have HN:=za (fun W=>BN W kf jt step n m);unfold Qd Uf yh;dsimp only;unfold Bd at *;have d1:IntKind.i64.wrap (g-f)=g-f:=iW _ oM;have d2:IntKind.i64.wrap (i-l)=i-l:=iW _ oM;clear s t u v x m y z K L n R;obtain⟨nb,p⟩:=gX (ji step kf jt);rw[p]at HN ⊢;obtain⟨d,hd⟩:=gX (max 0 (max (g-f) (i-l)));rw[hd];clear p;have hc:(g-f<=0/\i-l<=0/\d=0)\/(0<g-f/\i-l<=g-f/\d=g-f)\/(g-f<=0/\0<i-l/\d=i-l)\/(0<g-f/\g-f<i-l/\d=i-l):=oM;clear hd;by_cases hf:jf<kf
 ·have o:decide (jf<kf)=true:=by simpa using hf
  rw[o];clear o;cases nb
  ·rcases hc with ⟨a,c,rfl⟩|⟨a,c,rfl⟩|⟨a,c,rfl⟩|⟨a,c,rfl⟩
   all_goals
    go_in;go_wp2_with(go_at_call 72;refine cM (HN.o _) ?_;rintro e w1 ⟨rfl,rfl⟩);go_ret;exact⟨rfl,eA⟩
  ·rcases hc with ⟨a,c,rfl⟩|⟨a,c,rfl⟩|⟨a,c,rfl⟩|⟨a,c,rfl⟩
   all_goals
    go_in;go_wp2_with(go_at_call 72;refine cM (HN.o _) ?_;rintro e w1 ⟨rfl,rfl⟩);go_ret;exact⟨rfl,eA⟩
 ·have o:decide (jf<kf)=false:=by simpa using hf
  rw[o];clear o;rcases hc with ⟨a,c,rfl⟩|⟨a,c,rfl⟩|⟨a,c,rfl⟩|⟨a,c,rfl⟩
  all_goals
   go_in;go_wp2_with(go_at_call 72;refine cM (HN.o _) ?_;rintro e w1 ⟨rfl,rfl⟩);go_ret;exact⟨rfl,eA⟩
