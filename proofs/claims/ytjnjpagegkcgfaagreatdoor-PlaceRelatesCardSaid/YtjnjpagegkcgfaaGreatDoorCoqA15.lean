import Derived.Test.YtjnjpagegkcgfaaGreatDoorCoqA13
set_option maxRecDepth 1000000
set_option maxHeartbeats 16000000
set_option linter.all false
open Go.Value renaming int->O,slice->Z,bool->I,agg->M
open Go.IntKind renaming i64->Y
open Option renaming none->X,some->N
open Go renaming World->V,Value->J
namespace Go.Proofs.YtjnjpagegkcgfaaGreatDoor.Cop
section
open Go.RowKit Go.Shelf
attribute [local go_sem] Oper.semAt_some
def QL(w:V)(vg vs:J)(ps:List Pl)(a:Nat)(p:Pl)(b pin:Int)(l:LP)(hg:∃a n c,vg=Z a n c)(hs:Ic w vs ps)(ha:ps[a]?=N p)(t:b<0\/∃(k:Nat)(q:Pl),b=(k:Int)/\ps[k]?=N q/\ve p q=true/\(a:Int)≠b)(ah:Wb (Da p))(hT:Wb l)(bu:Kh l)(aT:∀W,Aa w W->Calls Tryz.prog 76 #[M #[vg,vs],O Y b] W fun e w'=>∃v,e=.returned v/\Fa w' v l/\Aa W w')(hp:pin=0)(a2:(Ac (Da p) l).lo<(Ac (Da p) l).hi)(d:Rat×Rat)(a4:ud (Ac (Da p) l) pin=N d):Calls Tryz.prog 72 #[M #[vg,vs],O Y a,O Y b,O Y pin] w (qg w (Hh p l b pin)):=by
 have cm:(a:Int)≠b:=by
  rcases t with h|⟨k,q,_,_,_,h⟩
  ·omega
  ·exact h
 obtain⟨ga,gn,gc,rfl⟩:=hg;obtain⟨sa,n,sc,rfl⟩:=Ja hs;have hl:=hs.len;have cl:=hs.le;obtain⟨r,o,s,vl,vu,rfl,cU,d1,d2,d3,hc⟩:=hs.at' ha;have bg:=ka (fun(W:V)(hW:Aa w W)(vt:J)(h:Fa W vt l)=>Uo W vl vt (Da p) l (d2.f hW) h (List.length_pos_iff.2 ah.1) (List.length_pos_iff.2 hT.1));have ao:=ka (fun(W:V)(hW:Aa w W)(vt:J)(h:Fa W vt l)=>Sw W vl vt (Ac (Da p) l) pin (d2.f hW) h (Mm ah hT) hp);have aR:=ka (fun(W:V)(hW:Aa w W)(vx:J)(x:Rat)(hx:Sa W vx x)(hb:Rb 1000 x)(bl:Nat)(cd:W.heap[bl]?=N (.cells (De p s vl vu) 128 (0,0)))=>jr W vx x p bl s vl vu hx hb cd (d2.f hW) ah);have bj:=ka (fun(W:V)(vt vx vr:J)(x rt:Rat)(h:Fa W vt l)(hx:Sa W vx x)(hb:Rb 1000 x)(hr:Sa W vr rt)(ce:Rb 1000 rt)=>Cx W vt vx vr l x rt h hT bu hx hb hr ce);have bW:=ka aT;obtain⟨R,hR⟩:=gX (qg w (Hh p l b pin));rw[hR];have HR:=ka hR;unfold Hh at HR;obtain⟨sp,aJ⟩:=gX (Ac (Da p) l);rw[aJ]at bg ao HR;have ai:Rf sp:=aJ▸Mm ah hT;have bt:∀o,ud sp pin=N o->Rb 300 o.1/\Rb 300 o.2:=fun o ho=>by
  unfold ud at ho;split at ho
  ·cases ho
  ·cases ho;have h1:Rb 300 (Na sp).1:=(Wj ai _ (by unfold Na;exact(Ak (Tb sp) (Al sp)).1)).up dM;exact Rb.reach_n (o:=((Na sp).1,(Na sp).1)) ⟨h1,h1⟩ (Wj ai) (fun q hq=>Rb.pin_g (Wj ai q hq) ai (by rw[hp];unfold Bd;omega)) _ (nE _)
 have bX:=ka bt;unfold ni at ao;obtain⟨aM,aP,aO,rfl⟩:=Ja d1;obtain⟨a6,a8,a7,rfl⟩:=Ja d2;obtain⟨bQ,bU,bT,rfl⟩:=Ja d3;have hi:=(lS.1 ha).1;have p1:(0:Int)<=(a:Int):=oM;have p2:(a:Int)<(n:Int):=oM;have p3:a<n:=oM;have bm:=hc 0 (.string p.name) rfl;have bY:=hc 1 (Z aM aP aO) rfl;have bZ:=hc 2 (O Y p.depth) rfl;have b2:=hc 3 (O Y p.density) rfl;have b3:=hc 4 (O Y p.gx) rfl;have b4:=hc 5 (O Y p.gz) rfl;have b5:=hc 6 (O Y p.way) rfl;have b6:=hc 7 (O Y p.ax) rfl;have b7:=hc 8 (O Y p.az) rfl;have b8:=hc 9 (O .u8 p.skin) rfl;have bn:=hc 10 (Z a6 a8 a7) rfl;have bo:=hc 11 (Z bQ bU bT) rfl;simp only[Nat.add_zero]at bm;have cY:((a:Int)==b)=false:=by simpa using cm
 rw[aJ]at a2 a4;have ad:=ka (show b<0\/∃(k:Nat)(q:Pl)(v2:J),b=(k:Int)/\k<n/\ve p q=true/\(∃a n c,v2=Z a n c)/\∀(m:Nat) u,(nc q v2)[m]?=N u->w.cell? ⟨r,o+k*12+m,X⟩=N u from by
  rcases t with h|⟨k,q,h1,hq,h3,h4⟩
  ·exact .inl h
  ·obtain⟨b1,o1,s',db,dc,e9,cV,b9,cS,cT,g⟩:=hs.at' hq;cases e9;have cW:=(lS.1 hq).1;exact .inr ⟨k,q,s',h1,by omega,h3,Ja b9,fun m u hu=>g m u (Wv hu)⟩)
 have cQ:r<w.heap.size+1:=oM;have cR:r<w.heap.size+1+1:=oM;clear t hs ha hc d1 d2 d3 hl cl hi aT hR bt aJ ai hT bu ah hp;go_in;go_upto_region 2 with fail;go_cut [40] (Yy w (Z ga gn gc) (Z (N ⟨r,o,X⟩) n sc) (De p (Z aM aP aO) (Z a6 a8 a7) (Z bQ bU bT)))
 case first =>
  rcases ad.o with hb|⟨k,q,v2,cc,r4,bs,⟨a9,bb,ba,rfl⟩,g⟩
  ·have cb:¬0<=b:=oM;have ca:decide ((0:Int)<=b)=false:=by simp;omega
   refine Uc [] trivial fun f=>?_;refine sN 0 ?_
   iterate 7 refine Bb ?_
   iterate 10 refine Nf ?_
   iterate 2 refine Bb ?_
   refine oN ?_;refine Sb ?_;go_wp2;go_meet;exact⟨rfl,((((eR w).alloc _).alloc _).alloc _).drew,((((eR _).alloc _).alloc _).drew).e (aN w _),(((eR _).alloc _).drew).e (Bc _ _ _ sM),((eR _).drew).e (Bc _ _ _ sM)⟩
  ·subst cc;have cb:(0:Int)<=(k:Int):=oM;have ca:decide ((0:Int)<=(k:Int))=true:=sM;have r2:(k:Int)<(n:Int):=oM;have cx:=g 0 (.string q.name) rfl;have c0:=g 1 (Z a9 bb ba) rfl;have c1:=g 2 (O Y q.depth) rfl;have c2:=g 3 (O Y q.density) rfl;have c3:=g 4 (O Y q.gx) rfl;have c4:=g 5 (O Y q.gz) rfl;have c5:=g 6 (O Y q.way) rfl;have c6:=g 7 (O Y q.ax) rfl;have c7:=g 8 (O Y q.az) rfl;have c8:=g 9 (O .u8 q.skin) rfl;simp only[Nat.add_zero]at cx;have a0:=ka (fun(W:V)=>Du W p q (Z aM aP aO) (Z a9 bb ba) ⟨_,_,_,rfl⟩ ⟨_,_,_,rfl⟩);rw[bs]at a0;unfold nc at a0;clear g bs;refine Uc [(⟨w.heap.size+1+1,0,X⟩,.string p.name),(⟨w.heap.size+1+1,1,X⟩,Z aM aP aO),(⟨w.heap.size+1+1,2,X⟩,O Y p.depth),(⟨w.heap.size+1+1,3,X⟩,O Y p.density),(⟨w.heap.size+1+1,4,X⟩,O Y p.gx),(⟨w.heap.size+1+1,5,X⟩,O Y p.gz),(⟨w.heap.size+1+1,6,X⟩,O Y p.way),(⟨w.heap.size+1+1,7,X⟩,O Y p.ax),(⟨w.heap.size+1+1,8,X⟩,O Y p.az),(⟨w.heap.size+1+1,9,X⟩,O .u8 p.skin),(⟨w.heap.size,1,X⟩,Z (N ⟨r,o,X⟩) n sc),(⟨r,o+k*12,X⟩,.string q.name),(⟨r,o+k*12+1,X⟩,Z a9 bb ba),(⟨r,o+k*12+2,X⟩,O Y q.depth),(⟨r,o+k*12+3,X⟩,O Y q.density),(⟨r,o+k*12+4,X⟩,O Y q.gx),(⟨r,o+k*12+5,X⟩,O Y q.gz),(⟨r,o+k*12+6,X⟩,O Y q.way),(⟨r,o+k*12+7,X⟩,O Y q.ax),(⟨r,o+k*12+8,X⟩,O Y q.az),(⟨r,o+k*12+9,X⟩,O .u8 q.skin)] cA fun f=>?_;refine sN 0 ?_
   iterate 15 refine Bb ?_
   refine oN ?_;refine Fb (i:=15) (a0.o _) ?_;rintro e w3 ⟨rfl,al⟩;refine⟨_,rfl,(cE f al),fun f=>?_⟩;refine sN 16 ?_
   iterate 3 refine Bb ?_
   refine oN ?_;refine Sb ?_;go_wp2;go_meet;exact⟨rfl,((((eR w).alloc _).alloc _).alloc _).drew.trans al,al.e (((((eR _).alloc _).alloc _).drew).e (aN w _)),al.e ((((eR _).alloc _).drew).e (Bc _ _ _ sM)),al.e (((eR _).drew).e (Bc _ _ _ sM))⟩
 case rest =>
  obtain⟨rfl,X3,K4,K8,aq⟩:=hcut;obtain⟨W3,rfl⟩:∃W,W=wc:=⟨_,rfl⟩;have z3:w.heap.size+1+1<W3.heap.size:=Jb aq;have dd:w.heap.size<W3.heap.size:=oM;have de:w.heap.size+1<W3.heap.size:=oM;clear ad bm bY bZ b2 b3 b4 b5 b6 b7 b8 bn bo;have s0:=Ba K4 (i:=0) (u:=Z ga gn gc) rfl;have s1:=Ba K4 (i:=1) (u:=Z (N ⟨r,o,X⟩) n sc) rfl;have cZ:=Ba aq (i:=10) (u:=Z a6 a8 a7) rfl;obtain⟨k0,k1,k2,k3,k4,k5,k6,k7,k8,k9,cp,cq,cr,ct,cu,cv,cw⟩:=kl K8;have kf:=Ya K8;have bV:=ka K8;have bh:=ka aq;have ap:=ka X3;clear K4 K8 aq X3;have hd:decide (sp.lo<sp.hi)=true:=by simp[a2]
  rw[if_pos a2]at HR;rw[a4]at ao HR;have aa:=ka (bX.o d a4);have cX:∀(fn:Fn)(first cap:Array J)(w:V),(Instr.makeFunc fn first cap).run Tryz.prog w = .ok (.func fn first cap) w:=fun _ _ _ _=>rfl;go_wp2_with(first|(go_at_call 76;refine cM (bW.o _ ap.o) ?_;rintro e w4 ⟨vt,rfl,aK,am⟩;obtain⟨ta,tn,tc,rfl⟩:=Ja aK;obtain⟨cf,ci⟩:=am.cells;(have z4:=am.size);(try simp only[wZ,jc]at z4);(have dg:w.heap.size<w4.heap.size:=oM);(have dj:w.heap.size+1<w4.heap.size:=oM);(have dm:w.heap.size+1+1<w4.heap.size:=oM);(have dq:w.heap.size<w4.heap.size+1:=oM);(have dt:w.heap.size+1<w4.heap.size+1:=oM);(have dx:w.heap.size+1+1<w4.heap.size+1:=oM))|(go_at_call 58;refine cM (bg.o _ (ap.o.trans am) _ aK) ?_;rintro e w5 ⟨rfl,ab⟩;unfold ni;(try rw[hd]);obtain⟨cg,cj⟩:=ab.cells;(have z5:=ab.size);(try simp only[wZ,jc]at z5);(have dh:w.heap.size<w5.heap.size:=oM);(have dk:w.heap.size+1<w5.heap.size:=oM);(have dn:w.heap.size+1+1<w5.heap.size:=oM);(have dr:w.heap.size<w5.heap.size+1:=oM);(have du:w.heap.size+1<w5.heap.size+1:=oM);(have dy:w.heap.size+1+1<w5.heap.size+1:=oM))|(go_at_call 143;refine cM (ao.o _ (((ap.o.trans am).trans ab).alloc _) _ ((aK.f ab).f ((eR _).alloc _))) ?_;rintro e P ⟨aL,r1,r2,aj,ak,rfl⟩;obtain⟨bJ,bN,bL,bP,bK,bO,bM,rfl⟩:=aj.form;obtain⟨bC,bG,bE,bI,bD,bH,bF,rfl⟩:=ak.form;obtain⟨ch,ck⟩:=aL.cells;(have z6:=aL.size);(try simp only[wZ,jc]at z6);(have di:w.heap.size<P.heap.size:=oM);(have dl:w.heap.size+1<P.heap.size:=oM);(have dp:w.heap.size+1+1<P.heap.size:=oM);(have ds:w.heap.size<P.heap.size+1:=oM);(have dw:w.heap.size+1<P.heap.size+1:=oM);(have dz:w.heap.size+1+1<P.heap.size+1:=oM)));have aj:Sa P (M #[Z bJ bN bL,I bP,Z bK bO bM]) d.1:=aj;have ak:Sa P (M #[Z bC bG bE,I bI,Z bD bH bF]) d.2:=ak;obtain⟨W7,ae⟩:=gX (((P.alloc (.cells #[Z bJ bN bL,I bP,Z bK bO bM] 63)).alloc (.cells #[Z bC bG bE,I bI,Z bD bH bF] 63)));have aZ:Aa P W7:=by rw[<-ae];exact((eR _).alloc _).alloc _
  have aY:Aa W3 W7:=((am.trans ab).trans (((eR _).alloc _).trans aL)).trans aZ;have bc:RB W7 P.heap.size d.1:=by rw[<-ae];exact(RB.new aj rfl).ext ((eR _).alloc _)
  have be:RB W7 (P.heap.size+1) d.2:=by rw[<-ae];exact RB.new (ak.ext ((eR _).alloc _)) sM
  have ac:=ka (aY.e bh.o);have bi:=ka (aY.e bV.o);have bk:=ka ((((aK.f ab).f ((eR _).alloc _)).f aL).f aZ);have cP:w.heap.size+1<P.heap.size:=oM;have a1:=ka (ap.o.trans aY);rw[ae];obtain⟨j,af⟩:=gX P.heap.size;rw[af]at bc be cP;simp only[af];clear ae k0 k1 k2 k3 k4 k5 k6 k7 k8 k9 cp cq cr ct cu cv cw kf cf ci cg cj ch ck af aZ aj ak;obtain⟨pa,pm,bx,bB,bw,bA,bz,x0,x1,x2,cI,cJ,cK,xz,a3⟩:=bc.rd;obtain⟨ea,em,ec,es,bp,br,bq,y0,y1,y2,cL,cN,cO,yz,ag⟩:=be.rd;have aS:∀q∈[((⟨j,0,X⟩:Addr),Value.slice pa pm bx),(⟨j,1,X⟩,I bB),(⟨j,2,X⟩,Z bw bA bz),(⟨j+1,0,X⟩,Z ea em ec),(⟨j+1,1,X⟩,I es),(⟨j+1,2,X⟩,Z bp br bq)],w.heap.size+1≠q.1.block:=by
   simp;omega
  go_wp2;refine Uc [(⟨j,0,X⟩,Z pa pm bx),(⟨j,1,X⟩,I bB),(⟨j,2,X⟩,Z bw bA bz),(⟨j+1,0,X⟩,Z ea em ec),(⟨j+1,1,X⟩,I es),(⟨j+1,2,X⟩,Z bp br bq)] cA fun f=>?_;refine sN 0 ?_
  iterate 3 refine Bb ?_
  refine oN ?_;refine sN 4 ?_
  iterate 2 refine Bb ?_
  refine oN ?_;refine sN 7 ?_
  iterate 3 refine Bb ?_
  refine oN ?_;refine sN 11 ?_
  iterate 3 refine Bb ?_
  refine oN ?_;have D0:Aa W7 W7.drew:=(eR _).drew;refine Fb (i:=3) (aR.o _ (a1.o.trans D0) _ d.1 (a3.ext D0) (aa.o.1.mono oM) _ (D0.e ac.o)) ?_;rintro e w8 ⟨c9,rfl,cn,bv⟩;obtain⟨fa,fm,fc,fs,ar,ay,av,fb,fn,fk,ft,au,aA,aw,rfl,aU,aV⟩:=cn;refine⟨_,rfl,(cE f bv),fun f=>?_⟩;have D8:Aa W7 w8:=D0.trans bv;refine Fb (i:=6) (aR.o _ (a1.o.trans D8) _ d.2 (ag.ext D8) (aa.o.2.mono oM) _ (D8.e ac.o)) ?_;rintro e w9 ⟨da,rfl,co,a5⟩;obtain⟨aB,gm,aE,gs,aC,aG,Cs,gb,aH,gk,gt,aD,aI,aF,rfl,aW,aX⟩:=co;refine⟨_,rfl,(cE f a5),fun f=>?_⟩;have D9:Aa W7 w9:=D8.trans a5;refine Fb (i:=10) (bj.o _ _ _ _ d.1 d.2 (bk.o.f D9) (a3.ext D9) (aa.o.1.mono oM) (ag.ext D9) (aa.o.2.mono oM)) ?_;rintro e cH ⟨rfl,y⟩;refine⟨_,rfl,(cE f y),fun f=>?_⟩;have an:Aa W7 cH:=D9.trans y;refine Fb (i:=14) (bj.o _ _ _ _ d.2 d.2 (bk.o.f an) (ag.ext an) (aa.o.2.mono oM) (ag.ext an) (aa.o.2.mono oM)) ?_;rintro e aQ ⟨rfl,z⟩;refine⟨_,rfl,(cE f z),fun f=>?_⟩;have bf:Aa W7 aQ:=an.trans z;refine Ib (i:=15) ?_;have KZ:=bf.e bi.o;obtain⟨u0,u1,u2,u3,u4,u5,u6,u7,u8,u9,cy,cz,cB,cC,cD,cF,cG⟩:=kl KZ;have uf:=Ya KZ;have zk:=Jb KZ;have HZ:=ka KZ;have Hf:=ka (show Rk aQ (M #[Z fa fm fc,I fs,Z ar ay av,Z fb fn fk,I ft,Z au aA aw]) d.1 (kb (Da p) d.1)from((Rk.ext ⟨_,_,_,_,_,_,_,_,_,_,_,_,_,_,rfl,aU,aV⟩ a5).ext y).ext z);have Hg:=ka (show Rk aQ (M #[Z aB gm aE,I gs,Z aC aG Cs,Z gb aH gk,I gt,Z aD aI aF]) d.2 (kb (Da p) d.2)from(Rk.ext ⟨_,_,_,_,_,_,_,_,_,_,_,_,_,_,rfl,aW,aX⟩ y).ext z);clear KZ aU aV aW aX x0 x1 x2 cI cJ cK y0 y1 y2 cL cN cO a3 ag;refine Vc (i:=16) fun K hK=>?_;go_simp;refine kO hK (Ea.set17 f aS _ _ _ _ _ _ _ _ _ _ _ _ _ _ _ _ _) (fun f=>?_);clear hK K;refine Ib (i:=17) ?_;refine Sb ?_;clear f aS;go_wp2;have n0:td 2 aQ (w.heap.size+1):=by intro cs fr e;rw[HZ.o]at e;cases e
  have EZ:=ka (a1.o.trans bf);refine bR (v:=.tuple #[M #[O Y b,Z fa fm fc,I fs,Z ar ay av,Z fb fn fk,I ft,Z au aA aw,Z aB gm aE,I gs,Z aC aG Cs,Z gb aH gk,I gt,Z aD aI aF,O Y (Xd l d.1 d.2).1,O Y (Xd l d.1 d.2).2,O Y (Xd l d.2 d.2).1,O Y (Xd l d.2 d.2).2],I true]) (by simp[results,Tryz.results72,go_sem,zk,uf,u0,u1,u2,u3,u4,u5,u6,u7,u8,u9,cy,cz,cB,cC,cD,cF,cG]) rfl ?_;rw[<-HR.o];refine⟨rE EZ.o (Nat.le_succ _) _ _ _ _ _ _ _ _ _ _ _ _ _ _ _ _ _,.inr ⟨_,[O Y b,Z fa fm fc,I fs,Z ar ay av,Z fb fn fk,I ft,Z au aA aw,Z aB gm aE,I gs,Z aC aG Cs,Z gb aH gk,I gt,Z aD aI aF,O Y (Xd l d.1 d.2).1,O Y (Xd l d.1 d.2).2,O Y (Xd l d.2 d.2).1,O Y (Xd l d.2 d.2).2],rfl,rfl,[Z fa fm fc,I fs,Z ar ay av,Z fb fn fk,I ft,Z au aA aw],[Z aB gm aE,I gs,Z aC aG Cs,Z gb aH gk,I gt,Z aD aI aF],rfl,Hf.o.keep (XD n0 _ _ _ _ _ _ _ _ _ _ _ _ _ _ _ _ _),Hg.o.keep (XD n0 _ _ _ _ _ _ _ _ _ _ _ _ _ _ _ _ _)⟩⟩
end
section
open Go.RowKit Go.Shelf
def Ke(cs:List Int)(x n0:Int):Int:=cs.foldl (fun n c=>if x<c/\c<n then c else n) n0
def mj(cs:List Int)(x hi:Int):Int:=if x<hi/\hi<Ke cs x (hi+1)then hi else Ke cs x (hi+1)
def RJ cs ds x n0:Ke (cs++ds) x n0=Ke ds x (Ke cs x n0):=by unfold Ke;rw[List.foldl_append]
def Hu cs x:∀n0,Ke cs x n0<=n0/\(∀c∈cs,x<c->Ke cs x n0<=c)/\(Ke cs x n0=n0\/(Ke cs x n0∈cs/\x<Ke cs x n0)):=by
 induction cs with
 | nil=>intro n0;exact⟨Int.le_refl _,fun c h=>(nomatch h),.inl rfl⟩
 | cons d cs k =>
  intro n0;have e:Ke (d::cs) x n0=Ke cs x (if x<d/\d<n0 then d else n0):=rfl;obtain⟨f,g,a⟩:=k (if x<d/\d<n0 then d else n0);rw[e];by_cases j:x<d/\d<n0
  ·rw[if_pos j]at f g a ⊢;refine⟨by omega,fun c b i=>?_,?_⟩
   ·rcases List.mem_cons.1 b with rfl|b
    ·exact f
    ·exact g c b i
   ·rcases a with a|a
    ·exact .inr ⟨by rw[a];exact List.mem_cons_self,by omega⟩
    ·exact .inr ⟨mC _ a.1,a.2⟩
  ·rw[if_neg j]at f g a ⊢;refine⟨f,fun c b i=>?_,?_⟩
   ·rcases List.mem_cons.1 b with rfl|b
    ·omega
    ·exact g c b i
   ·rcases a with a|a
    ·exact .inl a
    ·exact .inr ⟨mC _ a.1,a.2⟩
def zN(l:List Int)(i:Nat):Int:=l.getD i 0
def GD{l i}(h:i<l.length):zN l i=l[i]:=by unfold zN;rw[gD,gE h];rfl
def SD{l i}(h:i<l.length):zN l i∈l:=by rw[GD h];exact List.getElem_mem h
structure Vs (cs:List Int) (lo hi:Int) (L:List Int):Prop where
 pos:0<L.length
 h0:zN L 0=lo
 st:∀k,k+1<L.length->zN L (k+1)=mj cs (zN L k) hi
 le:∀k,k<L.length->zN L k<=hi
 stop:hi<mj cs (zN L (L.length-1)) hi
def kG{cs L lo hi}(K:lo<hi)(W:L.Pairwise (·<·))(n:∀z,z∈L ↔ (z=lo\/z=hi\/(lo<z/\z<hi/\z∈cs))):Vs cs lo hi L:=by
 have a:∀z∈L,lo<=z/\z<=hi:=fun z b=>by
  rcases(n z).1 b with h|h|h<;>omega
 have R:=List.pairwise_iff_getElem.1 W;have up:∀{i j:Nat},i<j->j<L.length->zN L i<zN L j:=fun {i j} p u=>by
  rw[GD oM,GD u];exact R i j oM u p
 have c:∀{z},z∈L->∃i,i<L.length/\zN L i=z:=fun {z} b=>by
  obtain⟨i,hi,e⟩:=List.getElem_of_mem b;exact⟨i,hi,by rw[GD hi];exact e⟩
 have m:lo∈L:=(n lo).2 (.inl rfl);have r:hi∈L:=(n hi).2 (.inr (.inl rfl));have v:0<L.length:=List.length_pos_iff.2 (List.ne_nil_of_mem m);refine⟨v,?_,fun k l=>?_,fun k l=>(a _ (SD l)).2,?_⟩
 ·obtain⟨i,hi,e⟩:=c m;have p:=(a _ (SD v)).1;rcases Nat.eq_zero_or_pos i with rfl|q
  ·exact e
  ·have:=up q hi;omega
 ·have f:=up (show k<k+1 by omega) l;have ha:=a _ (SD (show k<L.length by omega));have hb:=a _ (SD l);have g:=(n _).1 (SD l);obtain⟨n1,s,d⟩:=Hu cs (zN L k) (hi+1);have t:∀{z},z∈L->zN L k<z->zN L (k+1)<=z:=fun {z} b P=>by
   obtain⟨j,y,e⟩:=c b;rcases Nat.lt_trichotomy j (k+1)with h|h|h
   ·rcases Nat.lt_trichotomy j k with o | o | o
    ·have:=up o oM;omega
    ·subst o;omega
    ·omega
   ·subst h;omega
   ·have:=up h y;omega
  unfold mj;by_cases hc:Ke cs (zN L k) (hi+1)<=hi
  ·rw[if_neg oM];rcases d with d|⟨d,w⟩
   ·omega
   ·have b:Ke cs (zN L k) (hi+1)∈L:=(n _).2 (by
     by_cases q:Ke cs (zN L k) (hi+1)=hi
     ·exact .inr (.inl q)
     ·exact .inr (.inr ⟨by omega,by omega,d⟩))
    have h5:=t b w;rcases g with h|h|h
    ·omega
    ·omega
    ·have:=s _ h.2.2 f;omega
  ·rw[if_pos oM];rcases g with h|h|h
   ·omega
   ·exact h
   ·have:=s _ h.2.2 f;omega
 ·have e:zN L (L.length-1)=hi:=by
   obtain⟨i,x,e⟩:=c r;have p:=(a _ (SD (show L.length-1<L.length by omega))).2;rcases Nat.lt_or_ge i (L.length-1)with h|h
   ·have:=up h oM;omega
   ·have:i=L.length-1:=oM;subst this;exact e
  rw[e];obtain⟨n1,s,d⟩:=Hu cs hi (hi+1);unfold mj;rw[if_neg oM];rcases d with d|⟨_,w⟩<;>omega
def VB{s}(h:s.lo<s.hi):Vs ((s.over++s.under).map (·.1)) s.lo s.hi (Eb s):=
 kG h (QN s) (fun z=>by
  rw[lh];constructor
  ·rintro (h|h|⟨a,b,q,c,rfl⟩)
   ·exact .inl h
   ·exact .inr (.inl h)
   ·exact .inr (.inr ⟨a,b,List.mem_map_of_mem c⟩)
  ·rintro (h|h|⟨a,b,d⟩)
   ·exact .inl h
   ·exact .inr (.inl h)
   ·obtain⟨q,c,e⟩:=List.mem_map.1 d;exact .inr (.inr ⟨a,b,q,c,e⟩))
end
section
open Go.RowKit Go.Shelf Go.Sort Go.Lib
def oB x y:yb x y = -1 ↔ x<y:=by
 rw[<-Kr];unfold yb;rcases Int.lt_trichotomy (x.num*y.den-y.num*x.den) 0 with h|h|h
 ·rw[Int.sign_eq_neg_one_of_neg h];decide
 ·rw[h];decide
 ·rw[Int.sign_eq_one_of_pos h];decide
def nB x y:yb x y=1 ↔ y<x:=by
 rw[<-Ox];unfold yb;rcases Int.lt_trichotomy (x.num*y.den-y.num*x.den) 0 with h|h|h
 ·rw[Int.sign_eq_neg_one_of_neg h];decide
 ·rw[h];decide
 ·rw[Int.sign_eq_one_of_pos h];decide
def Gk{q:Rat}:q.num<0 ↔ q<0:=by rw[Rat.lt_iff];simp
def Ik{q:Rat}:0<q.num ↔ 0<q:=by rw[Rat.lt_iff];simp
def yj(o:Rat×Rat)(S:Rat->Prop):Prop:=S o.1/\S o.2/\∀x,S x->o.1<=x/\x<=o.2
def yj.wid{o S}(h:yj o S) y:yj (Dh o y) fun x=>S x\/x=y:=by
 obtain⟨d,f,e⟩:=h;have b:(Dh o y).1=if y<o.1 then y else o.1:=by
  show Ed (-1) o.1 y=_;unfold Ed;simp only[oB]
 have c:(Dh o y).2=if o.2<y then y else o.2:=by
  show Ed 1 o.2 y=_;unfold Ed;simp only[nB]
 refine⟨?_,?_,fun x a=>?_⟩
 ·rw[b];split
  ·exact .inr rfl
  ·exact .inl d
 ·rw[c];split
  ·exact .inr rfl
  ·exact .inl f
 ·rw[b,c];rcases a with a|rfl
  ·have:=e x a;constructor<;>split<;>grind
  ·have:=e _ d;constructor<;>split<;>grind
def yj.of{o S a}(h:yj o S)(e:∀x,a x ↔ S x):yj o a:=by obtain⟨b,c,d⟩:=h;exact⟨(e _).2 b,(e _).2 c,fun x f=>d x ((e x).1 f)⟩
def Us(f:Rat->Rat)(a:List Rat)(m:Rat):Nat->Rat->Prop
 | 0,x=>x=m
 | i+1,x=>Us f a m i x\/(f (a.getD i 0)<=0/\x=a.getD i 0)\/(i≠0/\f (a.getD i 0)*f (a.getD (i-1) 0)<0/\x=Ae f (a.getD (i-1) 0) (a.getD i 0))
def Yr(x y:Rat):x.num.sign*y.num.sign<0 ↔ x*y<0:=by
 have e:x.num.sign = -1/\x<0\/x.num.sign=0/\x=0\/x.num.sign=1/\0<x:=by
  rcases Int.lt_trichotomy x.num 0 with h|h|h
  ·exact .inl ⟨Int.sign_eq_neg_one_of_neg h,Gk.1 h⟩
  ·exact .inr (.inl ⟨by rw[h];rfl,Rat.num_eq_zero.1 h⟩)
  ·exact .inr (.inr ⟨Int.sign_eq_one_of_pos h,Ik.1 h⟩)
 have f:y.num.sign = -1/\y<0\/y.num.sign=0/\y=0\/y.num.sign=1/\0<y:=by
  rcases Int.lt_trichotomy y.num 0 with h|h|h
  ·exact .inl ⟨Int.sign_eq_neg_one_of_neg h,Gk.1 h⟩
  ·exact .inr (.inl ⟨by rw[h];rfl,Rat.num_eq_zero.1 h⟩)
  ·exact .inr (.inr ⟨Int.sign_eq_one_of_pos h,Ik.1 h⟩)
 rcases e with ⟨a,b⟩|⟨a,b⟩|⟨a,b⟩<;>rcases f with ⟨c,d⟩|⟨c,d⟩|⟨c,d⟩<;>rw[a,c]
 ·have:=Rat.mul_pos (show 0 < -x by grind) (show 0 < -y by grind);exact⟨fun h=>absurd h dM,fun h=>by grind⟩
 ·rw[d,Rat.mul_zero];decide
 ·have:=Rat.mul_pos (show 0 < -x by grind) d;exact⟨fun _=>by grind,fun _=>by decide⟩
 ·rw[b,Rat.zero_mul];decide
 ·rw[b,Rat.zero_mul];decide
 ·rw[b,Rat.zero_mul];decide
 ·have:=Rat.mul_pos b (show 0 < -y by grind);exact⟨fun _=>by grind,fun _=>by decide⟩
 ·rw[d,Rat.mul_zero];decide
 ·have:=Rat.mul_pos b d;exact⟨fun h=>absurd h dM,fun h=>by grind⟩
def Us.mono{f a m}:∀{n k x},Us f a m n x->n<=k->Us f a m k x
 | n,0,x,h,b=>by
  obtain rfl:n=0:=oM;exact h
 | n,k+1,x,h,b=>by
  by_cases e:n=k+1
  ·subst e;exact h
  ·exact .inl (Us.mono h oM)
end
section
open Go.RowKit Go.Shelf Go.Sort
attribute [local go_sem] Oper.semAt_some
def Yt w n a b:Calls Tryz.prog 159 #[O Y n,O Y a,O Y b] w fun e d=>e=.returned (I (Ra n a b))/\Aa w d:=by
 unfold Ra;by_cases h:a<=n
 ·have c:decide (a<=n)=true:=by simpa using h
  go_in;go_wp2;go_ret;exact⟨by simp[c],eA⟩
 ·have c:decide (a<=n)=false:=by simpa using h
  go_in;go_wp2;go_ret;exact⟨by simp[c],eA⟩
def ub.pt{w:V}{a:Option Addr}{n c:Nat}{l:LP}(h:ub w (Z a n c) l){i:Nat}(hi:i<l.length):∃b o,a=N ⟨b,o,X⟩/\b<w.heap.size/\w.cell? ⟨b,o+i*2,X⟩=N (O Y (Qa l i).1)/\w.cell? ⟨b,o+i*2+1,X⟩=N (O Y (Qa l i).2):=by rw[Ch hi];exact h.at' (gE hi)
def yO(w:V)(v:J)(l:LP)(i:Nat)(h:ub w v l)(hi:i<l.length)(s:l.length<=1000000):Calls Tryz.prog 242 #[v,O Y i] w fun e u=>e=.returned (M #[O Y (Qa l ((i+1)%l.length)).1,O Y (Qa l ((i+1)%l.length)).2])/\Aa w u:=by
 obtain⟨a,c,rfl⟩:=h.form;obtain⟨n,f⟩:=gX l.length;have t:(i+1)%n<n:=Nat.mod_lt _ oM;obtain⟨k,d⟩:=gX ((i+1)%n);rw[d]at t;obtain⟨b,o,rfl,x,q,r⟩:=h.pt (i:=k) oM;rw[f,d];rw[f]at hi s;obtain⟨p,m⟩:=gX (Qa l k);rw[m]at q r ⊢;have y:Int.tmod ((i:Int)+1) (n:Int)=(k:Int):=by
  rw[Int.tmod_eq_emod_of_nonneg oM,<-d,Int.natCast_emod];rfl
 have g:¬(n:Int)=0:=oM;have j:((n:Int)==0)=false:=by simpa using g
 have z:(0:Int)<=(k:Int):=oM;have K:(k:Int)<(n:Int):=oM;clear m d h f;go_in;go_wp2;exact bR (v:=M #[O Y p.1,O Y p.2]) (by simp[results,Tryz.results242,go_sem]) rfl ⟨rfl,eA⟩
def AA{j k x y}(e:Bd j x)(f:Bd k y)(a:0<=j):Bd (j*k) (x*y):=by
 unfold Bd at *;have b:0<=k:=oM;have c:(x*y).natAbs<=(j*k).natAbs:=by
  rw[Int.natAbs_mul,Int.natAbs_mul];exact Nat.mul_le_mul oM oM
 have d:0<=j*k:=Int.mul_nonneg a b;omega
def tO w p q r(m:Bd 1000000 p.1)(n:Bd 1000000 p.2)(o:Bd 1000000 q.1)(s:Bd 1000000 q.2)(t:Bd 1000000 r.1)(u:Bd 1000000 r.2):Calls Tryz.prog 241 #[M #[O Y p.1,O Y p.2],M #[O Y q.1,O Y q.2],M #[O Y r.1,O Y r.2]] w fun e K=>e=.returned (O Y (ri p q r))/\Aa w K:=by obtain⟨a,b⟩:=p;obtain⟨c,d⟩:=q;obtain⟨f,g⟩:=r;unfold ri;dsimp only at *;have v:=AA (j:=2000000) (k:=2000000) (x:=c-a) (y:=g-b) (by unfold Bd at *;omega) (by unfold Bd at *;omega) dM;have z:=AA (j:=2000000) (k:=2000000) (x:=d-b) (y:=f-a) (by unfold Bd at *;omega) (by unfold Bd at *;omega) dM;obtain⟨A,i⟩:=gX ((c-a)*(g-b));obtain⟨P,l⟩:=gX ((d-b)*(f-a));rw[i]at v ⊢;rw[l]at z ⊢;unfold Bd at *;go_in;go_wp2;go_ret;exact⟨rfl,eA⟩
def Hi(l:LP):Nat->Int×Int
 | 0=>Qa l 0
 | i+1=>(min (Hi l i).1 (Qa l i).1,min (Hi l i).2 (Qa l i).2)
def uC l:∀i,i<=l.length->Hi l i=(l.take i).foldl (fun o q=>(min o.1 q.1,min o.2 q.2)) (Qa l 0)
 | 0,_=>by simp[Hi]
 | i+1,h=>by
  rw[Hi,uC l i (by omega),Uf l i (Qa l i) (by rw[Ch (by omega)];exact gE _),List.foldl_append];rfl
def Zv{l:LP}(h:l≠[]):Hi l l.length=Va l:=by rw[uC l l.length (nE _),List.take_length];exact sH h
def GR(w:V)(l:LP)(t4:J)(W:V):Prop:=
 ∃i:Nat,t4=O Y i/\i<=l.length/\Aa w W/\W.heap[w.heap.size]?=N (.cells #[O Y 0,O Y 0] 27 (0,0))/\W.heap[w.heap.size+1]?=N (.cells #[O Y (Hi l i).1,O Y (Hi l i).2] 27 (0,0))
def FC(w:V)(v:J)(l:LP)(h:ub w v l)(k:l≠[]):Calls Tryz.prog 164 #[v] w fun e w'=>e=.returned (M #[O Y (Va l).1,O Y (Va l).2])/\Aa w w':=by
 obtain⟨a,c,rfl⟩:=h.form;rw[<-Zv k];obtain⟨n,P⟩:=gX l.length;have ag:0<n:=by rw[<-P];exact List.length_pos_iff.2 k
 have z:=h.le;unfold maxLen at z;rw[P]at z ⊢;obtain⟨b,o,rfl,hb,s,t⟩:=h.pt (i:=0) oM;obtain⟨p,hp⟩:=gX (Qa l 0);rw[hp]at s t;simp only[Nat.zero_mul,Nat.add_zero,Nat.zero_add]at s t;have Hp:=ka hp;have Hn:=ka P;have H:=ka h;clear hp P h k;go_in;go_wp2;go_loopw [4] (GR w l) (fun t4 _=>n-(intOf t4).toNat)
 case atStart =>
  refine⟨0,rfl,by omega,eA,?_,?_⟩
  ·rw[Below.heap_alloc _ _ _ sM];exact aN _ _
  ·rw[show Hi l 0=p from Hp.o];exact Bc _ _ _ sM
 case round =>
  clear s t;obtain⟨i,rfl,hi,hx,y,d⟩:=hrel;rw[Hn.o]at hi;obtain⟨m,hm⟩:=gX (Hi l i);rw[hm]at d;have Hm:=ka hm;have m0:=Ba d (i:=0) (u:=O Y m.1) rfl;have m1:=Ba d (i:=1) (u:=O Y m.2) rfl;have ah:=Ya d 0;have ai:=Ya d 1;have mz:=Jb d;have f:=ka y;have R:=ka d;clear hm y d;by_cases ac:i<n
  ·obtain⟨b2,o2,e2,ae,s,t⟩:=(H.o.f hx).pt (i:=i) (by rw[Hn.o];exact ac);cases e2;have af:b<w.heap.size:=hb;obtain⟨q,hq⟩:=gX (Qa l i);rw[hq]at s t;have Hq:=ka hq;have g0:(0:Int)<=(i:Int):=oM;have g1:(i:Int)<(n:Int):=oM;have g:Hi l (i+1)=(min m.1 q.1,min m.2 q.2):=by rw[Hi,Hm.o,Hq.o]
   have aa:=ka g;obtain⟨mx,r⟩:=m;obtain⟨qx,qz⟩:=q;dsimp only at m0 m1 s t;have aj:¬b=w.heap.size+1:=oM;clear hq g;go_wp2;refine Qq (Ea [(⟨b,o+i*2,X⟩,O Y qx),(⟨b,o+i*2+1,X⟩,O Y qz)]) (Ea [(⟨w.heap.size+1,0,X⟩,O Y mx),(⟨w.heap.size+1,1,X⟩,O Y r)]) 17 kM cA cA (fun hA hB=>?_);refine Cj (i:=0) false ?_;refine Cj (i:=1) true ?_;refine Cj (i:=2) false ?_;refine Cj (i:=3) false ?_;refine Cj (i:=4) false ?_;refine Cj (i:=5) false ?_;refine Cj (i:=6) false ?_;refine Cj (i:=7) false ?_;refine Cj (i:=8) false ?_;refine Cj (i:=9) true ?_;refine Cj (i:=10) false ?_;refine Cj (i:=11) false ?_;refine Cj (i:=12) false ?_;refine Cj (i:=13) false ?_;refine Cj (i:=14) false ?_;refine Cj (i:=15) false ?_;refine Cj (i:=16) false ?_;have j:∀q∈[((⟨b,o+i*2,X⟩:Addr),Value.int Y qx),(⟨b,o+i*2+1,X⟩,O Y qz)],w.heap.size+1≠q.1.block:=by
    simp;omega
   refine IF (i:=17) fun K x=>?_;go_simp;refine kO x ⟨Ea.set (p:=⟨w.heap.size+1,0,X⟩) hA j _,fun h=>nomatch h⟩ (fun ab=>?_);clear x K;replace hA:=ab.1;refine Cj (i:=18) false ?_;refine IF (i:=19) fun K x=>?_;go_simp;refine kO x ⟨Ea.set (p:=⟨w.heap.size+1,1,X⟩) hA j _,fun h=>nomatch h⟩ (fun ad=>?_);clear x K;refine yp kM ?_ _;go_wp2;go_roundw
   case rel =>
    refine⟨i+1,by go_num,by rw[Hn.o];omega,?_,?_,?_⟩
    ·exact((hx.drew.set (p:=⟨w.heap.size+1,0,X⟩) dO _).set (p:=⟨w.heap.size+1,1,X⟩) dO _)
    ·exact rn (W:=wr) f.o oM _ _
    ·rw[aa.o];exact Xj (W:=wr.drew) R.o _ _
   case measure=>simp[intOf];omega
  ·obtain rfl:i=n:=oM;have t0:=Ba f.o (i:=0) (u:=O Y 0) rfl;have t1:=Ba f.o (i:=1) (u:=O Y 0) rfl;have ak:=Ya f.o 0;have Pb:=Ya f.o 1;have tz:=Jb f.o;obtain⟨mx,r⟩:=m;dsimp only at m0 m1;go_wp2;exact bR (v:=M #[O Y mx,O Y r]) (by simp[results,Tryz.results164,go_sem,t0,t1,tz]) rfl ⟨Oo (by rw[Hm.o]),eA⟩
def VR(w:V)(l:LP)(t3 t4:J)(W:V):Prop:=
 ∃i:Nat,t4=O Y i/\t3=O Y (Zc l i:Nat)/\i<=l.length/\Aa w W
def FG{l i}(h:i<l.length):Zc l i<l.length:=by
 cases i with
 | zero=>unfold Zc;omega
 | succ i=>have:=(KP l i oM).1;omega
def AE(w:V)(v:J)(l:LP)(h:ub w v l):Calls Tryz.prog 165 #[v] w fun e w'=>e=.returned (O Y (Zc l l.length:Nat))/\Aa w w':=by
 obtain⟨a,c,rfl⟩:=h.form;obtain⟨n,R⟩:=gX l.length;have t:=h.le;unfold maxLen at t;rw[R]at t ⊢;have k:=ka R;have H:=ka h;clear R h;go_in;go_wp2;go_loopw [3,4] (VR w l) (fun _ t4 _=>n-(intOf t4).toNat)
 case atStart=>exact⟨0,rfl,rfl,by omega,eR _⟩
 case round =>
  obtain⟨i,rfl,rfl,hi,hx⟩:=hrel;rw[k.o]at hi;obtain⟨f,s⟩:=gX (Zc l i);rw[s];have Hf:=ka s;by_cases u:i<n
  ·have P:f<n:=by rw[<-s,<-k.o];exact FG (by rw[k.o];exact u)
   obtain⟨b,o,rfl,hb,W,c1⟩:=(H.o.f hx).pt (i:=i) (by rw[k.o];exact u);obtain⟨b2,o2,e2,aa,d0,d1⟩:=(H.o.f hx).pt (i:=f) (by rw[k.o];exact P);cases e2;have d:Zc l (i+1)=if (Qa l i).2<(Qa l (Zc l i)).2\/((Qa l i).2=(Qa l (Zc l i)).2/\(Qa l i).1<(Qa l (Zc l i)).1)then i else Zc l i:=rfl;rw[s]at d;obtain⟨⟨x,z⟩,hq⟩:∃q,Qa l i=q:=⟨_,rfl⟩;obtain⟨⟨j,g⟩,hp⟩:∃q,Qa l f=q:=⟨_,rfl⟩;rw[hq]at W c1 d;rw[hp]at d0 d1 d;dsimp only at W c1 d0 d1;have g0:(0:Int)<=(i:Int):=oM;have g1:(i:Int)<(n:Int):=oM;have g2:(0:Int)<=(f:Int):=oM;have g3:(f:Int)<(n:Int):=oM;have m:=ka d;clear s hq hp d;by_cases y:z<g
   ·have e:z<g\/(z=g/\x<j):=.inl y;have E:=ka e;(have k1:decide (z<g)=true:=by simpa using y);clear e;go_wp2;refine Uc [(⟨b,o+i*2,X⟩,O Y x),(⟨b,o+i*2+1,X⟩,O Y z),(⟨b,o+f*2,X⟩,O Y j),(⟨b,o+f*2+1,X⟩,O Y g)] cA fun p=>?_;refine sN 0 ?_
    iterate 12 refine Bb ?_
    (iterate 24 refine Nf ?_);refine Bb ?_;refine oN ?_;refine Sb ?_;go_wp2;go_roundw
    case rel=>exact⟨i+1,by go_num,by rw[m.o,if_pos E.o],by rw[k.o];omega,eA⟩
    case measure=>simp[intOf];omega
   ·(have k1:decide (z<g)=false:=by simpa using y);by_cases r:z=g
    ·(have h3:(z==g)=true:=by simpa using r);by_cases K:x<j
     ·(have k2:decide (x<j)=true:=by simpa using K);have e:z<g\/(z=g/\x<j):=.inr ⟨r,K⟩;have E:=ka e;clear r e;go_wp2;refine Uc [(⟨b,o+i*2,X⟩,O Y x),(⟨b,o+i*2+1,X⟩,O Y z),(⟨b,o+f*2,X⟩,O Y j),(⟨b,o+f*2+1,X⟩,O Y g)] cA fun p=>?_;refine sN 0 ?_
      (iterate 37 refine Bb ?_);refine oN ?_;refine Sb ?_;go_wp2;go_roundw
      case rel=>exact⟨i+1,by go_num,by rw[m.o,if_pos E.o],by rw[k.o];omega,eA⟩
      case measure=>simp[intOf];omega
     ·(have k2:decide (x<j)=false:=by simpa using K);have e:¬(z<g\/(z=g/\x<j)):=oM;have E:=ka e;clear r e;go_wp2;refine Uc [(⟨b,o+i*2,X⟩,O Y x),(⟨b,o+i*2+1,X⟩,O Y z),(⟨b,o+f*2,X⟩,O Y j),(⟨b,o+f*2+1,X⟩,O Y g)] cA fun p=>?_;refine sN 0 ?_
      (iterate 37 refine Bb ?_);refine oN ?_;refine Sb ?_;go_wp2;go_roundw
      case rel=>exact⟨i+1,by go_num,by rw[m.o,if_neg E.o],by rw[k.o];omega,eA⟩
      case measure=>simp[intOf];omega
    ·(have h3:(z==g)=false:=by simpa using r);have e:¬(z<g\/(z=g/\x<j)):=oM;have E:=ka e;clear r e;go_wp2;refine Uc [(⟨b,o+i*2,X⟩,O Y x),(⟨b,o+i*2+1,X⟩,O Y z),(⟨b,o+f*2,X⟩,O Y j),(⟨b,o+f*2+1,X⟩,O Y g)] cA fun p=>?_;refine sN 0 ?_
     iterate 24 refine Bb ?_
     iterate 11 refine Nf ?_
     (iterate 2 refine Bb ?_);refine oN ?_;refine Sb ?_;go_wp2;go_roundw
     case rel=>exact⟨i+1,by go_num,by rw[m.o,if_neg E.o],by rw[k.o];omega,eA⟩
     case measure=>simp[intOf];omega
  ·obtain rfl:i=n:=oM;clear s;go_wp2;go_ret;exact⟨Oo (by rw[Hf.o];rfl),eA⟩
end
section
open Go.RowKit Go.Shelf Go.Sort Go.Lib
def UD s:(Eb s).length=(Pa s).length:=by unfold Pa;rw[lL]
section
variable {L U:LP} (rL:vd L) (rU:vd U) (nL:L≠[]) (nU:U≠[]) (h:(Ac L U).lo<(Ac L U).hi) {pin:Int} (hno:Lf (Ac L U) pin=false)
include rL rU nL nU h hno
omit hno in
end
end
section
open Go.RowKit Go.Shelf Go.Sort
attribute [local go_sem] Oper.semAt_some
def ZR(w:V)(l:LP)(t3:J)(W:V):Prop:=
 ∃i:Nat,t3=O Y i/\i<=l.length/\Aa w W/\∀j,j<i->pj l j=true
def jS(a:V)(l:LP)(i:Nat)(t4:J)(W:V):Prop:=
 ∃k:Nat,t4=O Y k/\k<=l.length/\Aa a W/\∀j,j<k->Ai l i j=true
def pJ{l i k}(hi:i<l.length)(c:k<l.length)(h:Ai l i k=false):Mf l=false:=by
 unfold Mf;have a:pj l i=false:=by
  unfold pj;rw[List.all_eq_false];exact⟨k,List.mem_range.2 c,by simp[h]⟩
 have b:(List.range l.length).all (pj l)=false:=by
  rw[List.all_eq_false];exact⟨i,List.mem_range.2 hi,by simp[a]⟩
 rw[b,Bool.and_false]
def ju{n f}(h:∀j,j<n->f j=true):(List.range n).all f=true:=by rw[List.all_eq_true];exact fun j a=>h j (List.mem_range.1 a)
def TN(w:V)(v:J)(l:LP)(h:ub w v l)(hB:∀q∈l,Bd 1000000 q.1/\Bd 1000000 q.2):Calls Tryz.prog 202 #[v] w fun e w'=>e=.returned (I (Mf l))/\Aa w w':=by
 obtain⟨a,c,rfl⟩:=h.form;obtain⟨n,hn⟩:=gX l.length;have ai:=h.le;unfold maxLen at ai;rw[hn]at ai ⊢;obtain⟨cb,ad⟩:=gX (Mf l);rw[ad];have P:=ka ad;have f:=ka hn;have H:=ka h;have HB:=ka hB;clear hn h hB ad;by_cases hs:n<3
 ·have e:cb=false:=by
   rw[<-P.o];unfold Mf Ra;rw[f.o];simp;omega
  subst e;have h1:(n:Int)<3:=oM;go_in;go_wp2;go_ret;exact⟨rfl,eA⟩
 by_cases aq:12<n
 ·have e:cb=false:=by
   rw[<-P.o];unfold Mf Ra;rw[f.o];simp;omega
  subst e;have h1:¬(n:Int)<3:=oM;have h2:(12:Int)<(n:Int):=oM;go_in;go_wp2;go_ret;exact⟨rfl,eA⟩
 have h1:¬(n:Int)<3:=oM;have h2:¬(12:Int)<(n:Int):=oM;go_in;go_wp2;go_loopw [3] (ZR w l) (fun t3 _=>n-(intOf t3).toNat)
 case atStart=>exact⟨0,rfl,by omega,eR _,fun j hj=>by omega⟩
 case round =>
  obtain⟨i,rfl,hi,hx,ac⟩:=hrel;rw[f.o]at hi;have ab:=ka ac;have Hx:=ka hx;clear ac;by_cases aa:i<n
  ·have g0:(0:Int)<=(i:Int):=oM;have g1:(i:Int)<(n:Int):=oM;go_wp2;obtain⟨wo,rfl⟩:∃wo:V,wo=wr:=⟨_,rfl⟩;go_loopw [4] (jS wo l i) (fun t4 _=>n-(intOf t4).toNat)
   case atStart=>exact⟨0,rfl,by omega,eR _,fun j hj=>by omega⟩
   case round =>
    obtain⟨k,rfl,hk,K,u⟩:=hrel;rw[f.o]at hk;have Hk:=ka u;have XW:=hx.trans K;clear u;by_cases ae:k<n
    ·obtain⟨b,o,rfl,hb,c0,c1⟩:=(H.o.f XW).pt (i:=i) (by rw[f.o];exact aa);obtain⟨b2,o2,e2,an,d0,d1⟩:=(H.o.f XW).pt (i:=k) (by rw[f.o];exact ae);cases e2;obtain⟨r,hr⟩:=gX ((i+1)%n);(have al:r<n:=by rw[<-hr];exact Nat.mod_lt _ oM);(have ap:Int.tmod ((i:Int)+1) (n:Int)=(r:Int):=by rw[Int.tmod_eq_emod_of_nonneg oM,<-hr,Int.natCast_emod];rfl);(have p:Ai l i k=((k==i) || ((k==r) || decide (0<ri (Qa l i) (Qa l r) (Qa l k)))):=by unfold Ai;rw[f.o,hr]);have bi:=HB.o _ (Gi (l:=l) (i:=i) (by rw[f.o];exact aa));have bk:=HB.o _ (Gi (l:=l) (i:=k) (by rw[f.o];exact ae));have br:=HB.o _ (Gi (l:=l) (i:=r) (by rw[f.o];exact al));have x:=fun W (hW:Aa wr W)=>yO W _ l i (H.o.f (XW.trans hW)) (by rw[f.o];exact aa) (by rw[f.o];omega);rw[f.o,hr]at x;obtain⟨⟨px,pz⟩,hp⟩:∃q,Qa l i=q:=⟨_,rfl⟩;obtain⟨⟨kx,kz⟩,hq⟩:∃q,Qa l k=q:=⟨_,rfl⟩;obtain⟨⟨rx,rz⟩,aj⟩:∃q,Qa l r=q:=⟨_,rfl⟩;rw[hp]at c0 c1 bi p;rw[hq]at d0 d1 bk p;rw[aj]at br p x;dsimp only at c0 c1 d0 d1 bi bk br x;have af:=fun W=>tO W (px,pz) (rx,rz) (kx,kz) bi.1 bi.2 br.1 br.2 bk.1 bk.2;obtain⟨Sd,ah⟩:=gX (ri (px,pz) (rx,rz) (kx,kz));rw[ah]at p af;have HN:=ka x;have HS:=ka af;have R:=ka p;have k0:(0:Int)<=(k:Int):=oM;have k1:(k:Int)<(n:Int):=oM;have ao:¬(n:Int)=0:=oM;have am:¬n=0:=oM;have ar:IntKind.i64.wrap ((i:Int)+1)=(i:Int)+1:=iW _ oM;clear hr hp hq aj ah af x p bi bk br;by_cases g:k=i
     ·(have e1:((k:Int) != (i:Int))=false:=by simp[g]);(have m:Ai l i k=true:=by rw[R.o];simp[g]);have E9:=ka m;clear g m;go_wp2;refine Uc [(⟨b,o+i*2,X⟩,O Y px),(⟨b,o+i*2+1,X⟩,O Y pz),(⟨b,o+k*2,X⟩,O Y kx),(⟨b,o+k*2+1,X⟩,O Y kz)] cA fun d=>?_;refine sN 0 ?_
      iterate 4 refine Bb ?_
      iterate 7 refine Nf ?_
      iterate 2 refine Bb ?_
      (iterate 13 refine Nf ?_);refine Bb ?_;refine oN ?_;refine Sb ?_;go_wp2;go_roundw
      case rel=>exact⟨k+1,by go_num,by rw[f.o];omega,K.drew,fun j hj=>by
        by_cases t:j=k
        ·subst t;exact E9.o
        ·exact Hk.o j oM⟩
      case measure=>simp[intOf];omega
     ·(have e1:((k:Int) != (i:Int))=true:=by simp;omega);by_cases s:k=r
      ·(have e2:((k:Int) != (r:Int))=false:=by simp[s]);(have m:Ai l i k=true:=by rw[R.o];simp[s]);have E9:=ka m;clear s m g;go_wp2;refine Uc [(⟨b,o+i*2,X⟩,O Y px),(⟨b,o+i*2+1,X⟩,O Y pz),(⟨b,o+k*2,X⟩,O Y kx),(⟨b,o+k*2+1,X⟩,O Y kz)] cA fun d=>?_;refine sN 0 ?_
       iterate 13 refine Bb ?_
       (iterate 13 refine Nf ?_);refine Bb ?_;refine oN ?_;refine Sb ?_;go_wp2;go_roundw
       case rel=>exact⟨k+1,by go_num,by rw[f.o];omega,K.drew,fun j hj=>by
         by_cases t:j=k
         ·subst t;exact E9.o
         ·exact Hk.o j oM⟩
       case measure=>simp[intOf];omega
      ·(have e2:((k:Int) != (r:Int))=true:=by simp;omega);by_cases ag:Sd<=0
       ·(have e3:decide (Sd<=0)=true:=by simpa using ag);(have m:Ai l i k=false:=by rw[R.o];simp[g,s];omega);(have e8:cb=false:=by rw[<-P.o];exact pJ (by rw[f.o];exact aa) (by rw[f.o];exact ae) m);subst e8;clear s m g;go_wp2;refine Uc [(⟨b,o+i*2,X⟩,O Y px),(⟨b,o+i*2+1,X⟩,O Y pz),(⟨b,o+k*2,X⟩,O Y kx),(⟨b,o+k*2+1,X⟩,O Y kz)] cA fun d=>?_;refine sN 0 ?_
        (iterate 19 refine Bb ?_);refine oN ?_;refine sN 20 ?_
        (iterate 4 refine Bb ?_);refine oN ?_;refine Fb (i:=19) (HN.o wr.drew ((eR wr).drew)) ?_;rintro e w5 ⟨rfl,y⟩;refine⟨_,rfl,(cE d y),fun d=>?_⟩;refine Fb (i:=24) (HS.o w5) ?_;rintro e w6 ⟨rfl,z⟩;refine⟨_,rfl,(cE d z),fun d=>?_⟩;refine sN 25 ?_
        (iterate 2 refine Bb ?_);refine oN ?_;refine Sb ?_;go_wp2;go_ret;exact⟨rfl,Hx.o.trans (K.trans ((eR wr).drew.trans (y.trans z)))⟩
       ·(have e3:decide (Sd<=0)=false:=by simpa using ag);(have m:Ai l i k=true:=by rw[R.o];simp;omega);have E9:=ka m;clear s m g;go_wp2;refine Uc [(⟨b,o+i*2,X⟩,O Y px),(⟨b,o+i*2+1,X⟩,O Y pz),(⟨b,o+k*2,X⟩,O Y kx),(⟨b,o+k*2+1,X⟩,O Y kz)] cA fun d=>?_;refine sN 0 ?_
        (iterate 19 refine Bb ?_);refine oN ?_;refine sN 20 ?_
        (iterate 4 refine Bb ?_);refine oN ?_;refine Fb (i:=19) (HN.o wr.drew ((eR wr).drew)) ?_;rintro e w5 ⟨rfl,y⟩;refine⟨_,rfl,(cE d y),fun d=>?_⟩;refine Fb (i:=24) (HS.o w5) ?_;rintro e w6 ⟨rfl,z⟩;refine⟨_,rfl,(cE d z),fun d=>?_⟩;refine sN 25 ?_
        (iterate 2 refine Bb ?_);refine oN ?_;refine Sb ?_;go_wp2;go_roundw
        case rel=>exact⟨k+1,by go_num,by rw[f.o];omega,K.trans ((eR wr).drew.trans (y.trans z)),fun j hj=>by
          by_cases t:j=k
          ·subst t;exact E9.o
          ·exact Hk.o j oM⟩
        case measure=>simp[intOf];omega
    ·obtain rfl:k=n:=oM;(have m:pj l i=true:=by unfold pj;rw[f.o];exact ju Hk.o);have E9:=ka m;clear m;go_wp2;go_roundw
     case rel=>exact⟨i+1,by go_num,by rw[f.o];omega,XW,fun j hj=>by
       by_cases ak:j=i
       ·subst ak;exact E9.o
       ·exact ab.o j oM⟩
     case measure=>simp[intOf];omega
  ·obtain rfl:i=n:=oM;have e:cb=true:=by
    rw[<-P.o];unfold Mf Ra;rw[f.o,ju ab.o];simp;omega
   subst e;go_wp2;go_ret;exact⟨rfl,eA⟩
def EG x z w:(Instr.field 27 (M #[O Y x,O Y z]) 0).run Tryz.prog w = .ok (O Y x) w:=kM
def DG x z w:(Instr.field 27 (M #[O Y x,O Y z]) 1).run Tryz.prog w = .ok (O Y z) w:=kM
def Ty(w:V)(l:LP)(t3:J)(W:V):Prop:=
 ∃i:Nat,t3=O Y i/\i<=l.length/\Aa w W/\∀j,j<i->Ra (Qa l j).1 0 2000=true/\Ra (Qa l j).2 0 2000=true
def LI{l i}(hi:i<l.length)(h:(Ra (Qa l i).1 0 2000&&Ra (Qa l i).2 0 2000)=false):uh l=false:=by
 unfold uh;have:(l.all fun p=>Ra p.1 0 2000&&Ra p.2 0 2000)=false:=by
  rw[List.all_eq_false];exact⟨Qa l i,Gi hi,by simp only[h];decide⟩
 rw[this,Bool.false_and]
def YL{n}(h:Ra n 0 2000=true):Bd 1000000 n:=by unfold Ra at h;simp at h;unfold Bd;omega
def YP(w:V)(v:J)(l:LP)(h:ub w v l):Calls Tryz.prog 158 #[v] w fun e w'=>e=.returned (I (uh l))/\Aa w w':=by
 obtain⟨a,c,rfl⟩:=h.form;obtain⟨n,hn⟩:=gX l.length;have ar:=h.le;unfold maxLen at ar;rw[hn]at ar ⊢;obtain⟨cb,aj⟩:=gX (uh l);rw[aj];have af:=ka aj;have Hn:=ka hn;have H:=ka h;clear hn h aj;go_in;go_wp2;go_loopw [3] (Ty w l) (fun t3 _=>n-(intOf t3).toNat)
 case atStart=>exact⟨0,rfl,by omega,eR _,fun j hj=>by omega⟩
 case round =>
  obtain⟨i,rfl,hi,hx,ad⟩:=hrel;rw[Hn.o]at hi;have y:=ka ad;have Hx:=ka hx;clear ad;by_cases au:i<n
  ·obtain⟨b,o,rfl,hb,c0,c1⟩:=(H.o.f hx).pt (i:=i) (by rw[Hn.o];exact au);have hno:=LI (l:=l) (i:=i) (by rw[Hn.o];exact au);have g0:(0:Int)<=(i:Int):=oM;have g1:(i:Int)<(n:Int):=oM;obtain⟨⟨x,z⟩,hp⟩:∃q,Qa l i=q:=⟨_,rfl⟩;rw[hp]at c0 c1 hno;dsimp only at c0 c1 hno;have Hp:=ka hp;have ak:=fun W=>Yt W x 0 2000;have al:=fun W=>Yt W z 0 2000;obtain⟨bx,ah⟩:=gX (Ra x 0 2000);obtain⟨bz,ai⟩:=gX (Ra z 0 2000);rw[ah]at ak hno;rw[ai]at al hno;have ag:=ka ak;have an:=ka al;have av:=ka ah;have aw:=ka ai;clear hp ak al ah ai;cases bx with
   |false=>
    (have e:cb=false:=by rw[<-af.o,hno rfl]);subst e;clear hno;go_wp2_with(go_at_call 159;refine cM (ag.o _) ?_;rintro e w1 ⟨rfl,d⟩;obtain⟨ap,aq⟩:=d.cells);go_ret;exact⟨rfl,eA⟩
   |true=>
    cases bz with
    |false=>
     (have e:cb=false:=by rw[<-af.o,hno rfl]);subst e;clear hno;go_wp2_with(first|(go_at_call 159;(with_reducible refine(ag.o _).mono ?_);rintro e w1 ⟨rfl,d⟩;obtain⟨ap,aq⟩:=d.cells)|(go_at_call 159;(with_reducible refine(an.o _).mono ?_);rintro e w2 ⟨rfl,g⟩));go_ret;exact⟨rfl,eA⟩
    |true=>
     clear hno;go_wp2_with(first|(go_at_call 159;(with_reducible refine(ag.o _).mono ?_);rintro e w1 ⟨rfl,d⟩;obtain⟨ap,aq⟩:=d.cells)|(go_at_call 159;(with_reducible refine(an.o _).mono ?_);rintro e w2 ⟨rfl,g⟩));go_roundw
     case rel=>exact⟨i+1,by go_num,by rw[Hn.o];omega,eA,fun j hj=>by
       by_cases ax:j=i
       ·subst ax;rw[Hp.o];exact⟨av.o,aw.o⟩
       ·exact y.o j oM⟩
     case measure=>simp[intOf];omega
  ·obtain rfl:i=n:=oM;have hB:∀q∈l,Bd 1000000 q.1/\Bd 1000000 q.2:=fun q hq=>by
    obtain⟨j,hj,rfl⟩:=List.getElem_of_mem hq;have:=y.o j (by rw[<-Hn.o];exact hj);rw[Ch hj]at this;exact⟨YL this.1,YL this.2⟩
   have hA:(l.all fun p=>Ra p.1 0 2000&&Ra p.2 0 2000)=true:=by
    rw[List.all_eq_true];intro q hq;obtain⟨j,hj,rfl⟩:=List.getElem_of_mem hq;have:=y.o j (by rw[<-Hn.o];exact hj);rw[Ch hj]at this;simp[this.1,this.2]
   have ab:=fun W (hW:Aa wr W)=>TN W _ l (H.o.f (hx.trans hW)) hB;have P:=fun W (hW:Aa wr W) (ay:l≠[])=>FC W _ l (H.o.f (hx.trans hW)) ay;have ac:=fun W (hW:Aa wr W)=>AE W _ l (H.o.f (hx.trans hW));have k:cb=(Mf l&&(decide ((Va l).1=0)&&(decide ((Va l).2=0)&&decide (Zc l l.length=0)))):=by
    rw[<-af.o];unfold uh;rw[hA,Bool.true_and]
   have R:Mf l=true->l≠[]:=fun h9 e=>by subst e;revert h9;decide
   rw[Hn.o]at ab P ac k;obtain⟨cv,ae⟩:=gX (Mf l);obtain⟨⟨mx,mz⟩,hm⟩:∃m,Va l=m:=⟨_,rfl⟩;obtain⟨f,hf⟩:=gX (Zc l i);rw[ae]at ab k R;rw[hm]at P k;rw[hf]at ac k;dsimp only at P k;have K:=ka ab;have s:=ka P;have aa:=ka ac;have r:=ka k;have ao:=ka R;have az:=EG;have aA:=DG;clear ae hm hf ab P ac k hB hA R;cases cv with
   |false=>
    (have e:cb=false:=by rw[r.o];rfl);subst e;go_wp2_with(go_at_call 202;refine cM (K.o _ (eR _)) ?_;rintro e w1 ⟨rfl,d⟩);go_ret;exact⟨rfl,eA⟩
   |true=>
    have t:Ta (l≠[]):=ka (ao.o rfl);clear ao;by_cases h1:mx=0
    ·by_cases h2:mz=0
     ·by_cases h3:f=0
      ·subst h1 h2 h3;(have e:cb=true:=by rw[r.o];rfl);subst e;go_wp2_with(first|(go_at_call 202;refine cM (K.o _ (eR _)) ?_;rintro e w1 ⟨rfl,d⟩)|(go_at_call 164;(with_reducible refine(s.o w2 (d.trans g) t.o).mono ?_);rintro e w3 ⟨rfl,u⟩)|(go_at_call 164;(with_reducible refine(s.o w1 d t.o).mono ?_);rintro e w2 ⟨rfl,g⟩)|(go_at_call 165;refine cM (aa.o w3 (d.trans (g.trans u))) ?_;rintro e w4 ⟨rfl,am⟩));go_ret;exact⟨rfl,eA⟩
      ·subst h1 h2;(have h4:((f:Int)==0)=false:=by simpa using h3);(have e:cb=false:=by rw[r.o];simp[h3]);subst e;clear h3;go_wp2_with(first|(go_at_call 202;refine cM (K.o _ (eR _)) ?_;rintro e w1 ⟨rfl,d⟩)|(go_at_call 164;(with_reducible refine(s.o w2 (d.trans g) t.o).mono ?_);rintro e w3 ⟨rfl,u⟩)|(go_at_call 164;(with_reducible refine(s.o w1 d t.o).mono ?_);rintro e w2 ⟨rfl,g⟩)|(go_at_call 165;refine cM (aa.o w3 (d.trans (g.trans u))) ?_;rintro e w4 ⟨rfl,am⟩));go_ret;exact⟨rfl,eA⟩
     ·subst h1;(have h4:(mz==0)=false:=by simpa using h2);(have e:cb=false:=by rw[r.o];simp[h2]);subst e;clear h2;go_wp2_with(first|(go_at_call 202;refine cM (K.o _ (eR _)) ?_;rintro e w1 ⟨rfl,d⟩)|(go_at_call 164;(with_reducible refine(s.o w2 (d.trans g) t.o).mono ?_);rintro e w3 ⟨rfl,u⟩)|(go_at_call 164;(with_reducible refine(s.o w1 d t.o).mono ?_);rintro e w2 ⟨rfl,g⟩)|(go_at_call 165;refine cM (aa.o w3 (d.trans (g.trans u))) ?_;rintro e w4 ⟨rfl,am⟩));go_ret;exact⟨rfl,eA⟩
    ·(have h4:(mx==0)=false:=by simpa using h1);(have e:cb=false:=by rw[r.o];simp[h1]);subst e;clear h1;go_wp2_with(first|(go_at_call 202;refine cM (K.o _ (eR _)) ?_;rintro e w1 ⟨rfl,d⟩)|(go_at_call 164;(with_reducible refine(s.o w2 (d.trans g) t.o).mono ?_);rintro e w3 ⟨rfl,u⟩)|(go_at_call 164;(with_reducible refine(s.o w1 d t.o).mono ?_);rintro e w2 ⟨rfl,g⟩)|(go_at_call 165;refine cM (aa.o w3 (d.trans (g.trans u))) ?_;rintro e w4 ⟨rfl,am⟩));go_ret;exact⟨rfl,eA⟩
def AR(w:V)(s:ByteArray)(t3:J)(W:V):Prop:=
 ∃i:Nat,t3=O Y i/\i<=s.size/\Aa w W/\∀j,j<i->Ve (Bi s j)=false
def LO w s(ad:s.size<=1000000):Calls Tryz.prog 157 #[.string s] w fun e w'=>e=.returned (I (nk s))/\Aa w w':=by
 obtain⟨n,hn⟩:=gX s.size;obtain⟨p,v⟩:=gX (nk s);rw[v];have r:=ka v;have R:=ka hn;go_in;go_wp2;go_loopw [3] (AR w s) (fun t3 _=>n-(intOf t3).toNat)
 case atStart=>exact⟨0,rfl,by omega,eR _,fun j z=>by omega⟩
 case round =>
  obtain⟨i,rfl,hi,hx,k⟩:=hrel;have f:=ka k;have Hx:=ka hx;clear k;by_cases ac:i<n
  ·have l:i<s.size:=oM;obtain⟨c,W⟩:∃c:Int,((s[i].toNat:Nat):Int)=c:=⟨_,rfl⟩;have t:Bi s i=c.toNat:=by
    unfold Bi;rw[<-W,Int.toNat_natCast]
    congr 1
    exact getElem!_pos s.data i l
   have aa:0<=c:=oM;have u:(Bi s i:Int)=c:=by rw[t];omega
   have o:=ka u;clear t u;have m:Ve c=true->p=false:=fun ho=>by
    rw[<-r.o];unfold nk;have:(List.range s.size).all (fun i=>!Ve (Bi s i))=false:=by
     rw[List.all_eq_false];exact⟨i,List.mem_range.2 l,by rw[o.o,ho];decide⟩
    rw[this,Bool.false_and]
   have g:=ka m;clear m;have a:c<48->p=false:=fun h=>g.o (by unfold Ve;simp;omega);have b:57<c/\c<97->p=false:=fun h=>g.o (by unfold Ve;simp;omega);have d:122<c->p=false:=fun h=>g.o (by unfold Ve;simp;omega);by_cases K:c<48
   ·have e:=a K;subst e;have x:c<97:=oM;clear a b d;go_wp2;go_ret;exact⟨rfl,eA⟩
   by_cases x:57<c
   ·by_cases P:c<97
    ·have e:=b ⟨x,P⟩;subst e;clear a b d;go_wp2;go_ret;exact⟨rfl,eA⟩
    ·by_cases k4:122<c
     ·have e:=d k4;subst e;clear a b d;go_wp2;go_ret;exact⟨rfl,eA⟩
     ·(have e:Ve c=false:=by unfold Ve;simp;omega);have E:=ka e;clear a b d e;go_wp2;go_roundw
      case rel=>exact⟨i+1,by go_num,by omega,eA,fun j z=>by
        by_cases q:j=i
        ·subst q;rw[o.o];exact E.o
        ·exact f.o j oM⟩
      case measure=>simp[intOf];omega
   ·have P:c<97:=oM;(have e:Ve c=false:=by unfold Ve;simp;omega);have E:=ka e;clear a b d e;go_wp2;go_roundw
    case rel=>exact⟨i+1,by go_num,by omega,eA,fun j z=>by
      by_cases q:j=i
      ·subst q;rw[o.o];exact E.o
      ·exact f.o j oM⟩
    case measure=>simp[intOf];omega
  ·have e:p=Ra n 1 16:=by
    rw[<-r.o];unfold nk;have:(List.range s.size).all (fun i=>!Ve (Bi s i))=true:=ju (fun j z=>by rw[f.o j oM];rfl);rw[this,Bool.true_and,R.o]
   have ab:i=n:=oM;have E:=ka e;clear e;unfold Ra at E;by_cases K:1<=n
   ·have x:(1:Int)<=(n:Int):=oM;(have y:p=decide ((n:Int)<=16):=by rw[E.o];simp;omega);subst y;go_wp2;go_ret;exact⟨Oo sM,eA⟩
   ·have x:¬(1:Int)<=(n:Int):=oM;(have y:p=false:=by rw[E.o];simp;omega);subst y;go_wp2;go_ret;exact⟨rfl,eA⟩
