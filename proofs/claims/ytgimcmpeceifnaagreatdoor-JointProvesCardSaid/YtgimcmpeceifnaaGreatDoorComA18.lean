import Derived.Test.YtgimcmpeceifnaaGreatDoorComA16
set_option maxRecDepth 1000000
set_option maxHeartbeats 16000000
set_option linter.all false
open Go.Value renaming int->O,slice->Z,bool->I,agg->M
open Go.IntKind renaming i64->Y
open Option renaming none->X,some->N
open Go renaming World->V,Value->J
namespace Go.Proofs.YtgimcmpeceifnaaGreatDoor.Cop
section
open Go.RowKit Go.Shelf
attribute [local go_sem] Oper.semAt_some
def oO w vg vs ps(a:Nat) p b pin l(hg:∃a n c,vg=Z a n c)(hs:od w vs ps)(ha:ps[a]?=N p)(t:b<0\/∃(k:Nat)(q:Pl),b=(k:Int)/\ps[k]?=N q/\Me p q=true/\(a:Int)≠b)(ah:ke (Ga p))(hT:ke l)(bv:gi l)(aU:∀W,Ba w W->Calls Tryz.prog 182 #[M #[vg,vs],O Y b] W fun e w'=>∃v,e=.returned v/\Ia w' v l/\Ba W w')(hp:pin=0)(a3:(Ld (Ga p) l).lo<(Ld (Ga p) l).hi) d(a5:Wc (Ld (Ga p) l) pin=N d):Calls Tryz.prog 138 #[M #[vg,vs],O Y a,O Y b,O Y pin] w (pg w (Pg p l b pin)):=by
 have cn:(a:Int)≠b:=by
  rcases t with h|⟨k,q,_,_,_,h⟩
  ·omega
  ·exact h
 obtain⟨ga,gn,gc,rfl⟩:=hg;obtain⟨sa,n,sc,rfl⟩:=Ma hs;have hl:=hs.len;have cm:=hs.le;obtain⟨r,o,s,vl,vu,rfl,cW,d1,d2,d3,hc⟩:=hs.at' ha;have bh:=za (fun(W:V)(hW:Ba w W)(vt:J)(h:Ia W vt l)=>tw W vl vt (Ga p) l (d2.f hW) h (List.length_pos_iff.2 ah.1) (List.length_pos_iff.2 hT.1));have ao:=za (fun(W:V)(hW:Ba w W)(vt:J)(h:Ia W vt l)=>Ry W vl vt (Ld (Ga p) l) pin (d2.f hW) h (Io ah hT) hp);have aS:=za (fun(W:V)(hW:Ba w W)(vx:J)(x:Rat)(hx:Fb W vx x)(hb:Rb 1000 x)(bl:Nat)(ce:W.heap[bl]?=N (.cells (tf p s vl vu) 202 (0,0)))=>Bz W vx x p bl s vl vu hx hb ce (d2.f hW) ah);have bk:=za (fun(W:V)(vt vx vr:J)(x rt:Rat)(h:Ia W vt l)(hx:Fb W vx x)(hb:Rb 1000 x)(hr:Fb W vr rt)(cf:Rb 1000 rt)=>Py W vt vx vr l x rt h hT bv hx hb hr cf);have bX:=za aU;obtain⟨R,hR⟩:=gX (pg w (Pg p l b pin));rw[hR];have HR:=za hR;unfold Pg at HR;obtain⟨sp,aK⟩:=gX (Ld (Ga p) l);rw[aK]at bh ao HR;have ai:Qg sp:=aK▸Io ah hT;have bu:∀o,Wc sp pin=N o->Rb 300 o.1/\Rb 300 o.2:=fun o ho=>by
  unfold Wc at ho;split at ho
  ·cases ho
  ·cases ho;have h1:Rb 300 (Sa sp).1:=(Pk ai _ (by unfold Sa;exact(Vp (Qb sp) (Cr sp)).1)).up dM;exact Rb.reach_n (o:=((Sa sp).1,(Sa sp).1)) ⟨h1,h1⟩ (Pk ai) (fun q hq=>Rb.pin_g (Pk ai q hq) ai (by rw[hp];unfold Bd;omega)) _ (nE _)
 have bY:=za bu;unfold pj at ao;obtain⟨aO,aQ,aP,rfl⟩:=Ma d1;obtain⟨a7,a9,a8,rfl⟩:=Ma d2;obtain⟨bT,bV,bU,rfl⟩:=Ma d3;have hi:=(lS.1 ha).1;have p1:(0:Int)<=(a:Int):=oM;have p2:(a:Int)<(n:Int):=oM;have p3:a<n:=oM;have bn:=hc 0 (.string p.name) rfl;have bZ:=hc 1 (Z aO aQ aP) rfl;have b2:=hc 2 (O Y p.depth) rfl;have b3:=hc 3 (O Y p.density) rfl;have b4:=hc 4 (O Y p.gx) rfl;have b5:=hc 5 (O Y p.gz) rfl;have b6:=hc 6 (O Y p.way) rfl;have b7:=hc 7 (O Y p.ax) rfl;have b8:=hc 8 (O Y p.az) rfl;have b9:=hc 9 (O .u8 p.skin) rfl;have bo:=hc 10 (Z a7 a9 a8) rfl;have bp:=hc 11 (Z bT bV bU) rfl;simp only[Nat.add_zero]at bn;have c0:((a:Int)==b)=false:=by simpa using cn
 rw[aK]at a3 a5;have ad:=za (show b<0\/∃(k:Nat)(q:Pl)(v2:J),b=(k:Int)/\k<n/\Me p q=true/\(∃a n c,v2=Z a n c)/\∀(m:Nat) u,(Dd q v2)[m]?=N u->w.cell? ⟨r,o+k*12+m,X⟩=N u from by
  rcases t with h|⟨k,q,h1,hq,h3,h4⟩
  ·exact .inl h
  ·obtain⟨b1,o1,s',dd,de,e9,cX,ca,cU,cV,g⟩:=hs.at' hq;cases e9;have cY:=(lS.1 hq).1;exact .inr ⟨k,q,s',h1,by omega,h3,Ma ca,fun m u hu=>g m u (Lx hu)⟩)
 have cS:r<w.heap.size+1:=oM;have cT:r<w.heap.size+1+1:=oM;clear t hs ha hc d1 d2 d3 hl cm hi aU hR bu aK ai hT bv ah hp;go_in;go_upto_region 2 with fail;go_cut [40] (RA w (Z ga gn gc) (Z (N ⟨r,o,X⟩) n sc) (tf p (Z aO aQ aP) (Z a7 a9 a8) (Z bT bV bU)))
 case first =>
  rcases ad.o with hb|⟨k,q,v2,cd,r4,bt,⟨ba,bc,bb,rfl⟩,g⟩
  ·have cc:¬0<=b:=oM;have cb:decide ((0:Int)<=b)=false:=by simp;omega
   refine jd [] trivial fun f=>?_;refine sN 0 ?_
   iterate 7 refine Db ?_
   iterate 10 refine Ze ?_
   iterate 2 refine Db ?_
   refine oN ?_;refine Pb ?_;go_wp2;go_meet;exact⟨rfl,((((eR w).alloc _).alloc _).alloc _).drew,((((eR _).alloc _).alloc _).drew).e (aN w _),(((eR _).alloc _).drew).e (mc _ _ _ sM),((eR _).drew).e (mc _ _ _ sM)⟩
  ·subst cd;have cc:(0:Int)<=(k:Int):=oM;have cb:decide ((0:Int)<=(k:Int))=true:=sM;have r2:(k:Int)<(n:Int):=oM;have cz:=g 0 (.string q.name) rfl;have c2:=g 1 (Z ba bc bb) rfl;have c3:=g 2 (O Y q.depth) rfl;have c4:=g 3 (O Y q.density) rfl;have c5:=g 4 (O Y q.gx) rfl;have c6:=g 5 (O Y q.gz) rfl;have c7:=g 6 (O Y q.way) rfl;have c8:=g 7 (O Y q.ax) rfl;have c9:=g 8 (O Y q.az) rfl;have da:=g 9 (O .u8 q.skin) rfl;simp only[Nat.add_zero]at cz;have a1:=za (fun(W:V)=>Ps W p q (Z aO aQ aP) (Z ba bc bb) ⟨_,_,_,rfl⟩ ⟨_,_,_,rfl⟩);rw[bt]at a1;unfold Dd at a1;clear g bt;refine jd [(⟨w.heap.size+1+1,0,X⟩,.string p.name),(⟨w.heap.size+1+1,1,X⟩,Z aO aQ aP),(⟨w.heap.size+1+1,2,X⟩,O Y p.depth),(⟨w.heap.size+1+1,3,X⟩,O Y p.density),(⟨w.heap.size+1+1,4,X⟩,O Y p.gx),(⟨w.heap.size+1+1,5,X⟩,O Y p.gz),(⟨w.heap.size+1+1,6,X⟩,O Y p.way),(⟨w.heap.size+1+1,7,X⟩,O Y p.ax),(⟨w.heap.size+1+1,8,X⟩,O Y p.az),(⟨w.heap.size+1+1,9,X⟩,O .u8 p.skin),(⟨w.heap.size,1,X⟩,Z (N ⟨r,o,X⟩) n sc),(⟨r,o+k*12,X⟩,.string q.name),(⟨r,o+k*12+1,X⟩,Z ba bc bb),(⟨r,o+k*12+2,X⟩,O Y q.depth),(⟨r,o+k*12+3,X⟩,O Y q.density),(⟨r,o+k*12+4,X⟩,O Y q.gx),(⟨r,o+k*12+5,X⟩,O Y q.gz),(⟨r,o+k*12+6,X⟩,O Y q.way),(⟨r,o+k*12+7,X⟩,O Y q.ax),(⟨r,o+k*12+8,X⟩,O Y q.az),(⟨r,o+k*12+9,X⟩,O .u8 q.skin)] cA fun f=>?_;refine sN 0 ?_
   iterate 15 refine Db ?_
   refine oN ?_;refine Ac (i:=15) (a1.o _) ?_;rintro e w3 ⟨rfl,al⟩;refine⟨_,rfl,(cE f al),fun f=>?_⟩;refine sN 16 ?_
   iterate 3 refine Db ?_
   refine oN ?_;refine Pb ?_;go_wp2;go_meet;exact⟨rfl,((((eR w).alloc _).alloc _).alloc _).drew.trans al,al.e (((((eR _).alloc _).alloc _).drew).e (aN w _)),al.e ((((eR _).alloc _).drew).e (mc _ _ _ sM)),al.e (((eR _).drew).e (mc _ _ _ sM))⟩
 case rest =>
  obtain⟨rfl,X3,K4,K8,aq⟩:=hcut;obtain⟨W3,rfl⟩:∃W,W=wc:=⟨_,rfl⟩;have z3:w.heap.size+1+1<W3.heap.size:=Ya aq;have dg:w.heap.size<W3.heap.size:=oM;have dh:w.heap.size+1<W3.heap.size:=oM;clear ad bn bZ b2 b3 b4 b5 b6 b7 b8 b9 bo bp;have s0:=Aa K4 0 (Z ga gn gc);have s1:=Aa K4 1 (Z (N ⟨r,o,X⟩) n sc);have c1:=Aa aq 10 (Z a7 a9 a8);obtain⟨k0,k1,k2,k3,k4,k5,k6,k7,k8,k9,cq,cr,ct,cu,cv,cx,cy⟩:=Kl K8;have kf:=Za K8;have bW:=za K8;have bi:=za aq;have ap:=za X3;clear K4 K8 aq X3;have hd:decide (sp.lo<sp.hi)=true:=by simp[a3]
  rw[if_pos a3]at HR;rw[a5]at ao HR;have aa:=za (bY.o d a5);have cZ:∀(fn:Fn)(first cap:Array J)(w:V),(Instr.makeFunc fn first cap).run Tryz.prog w = .ok (.func fn first cap) w:=fun _ _ _ _=>rfl;go_wp2_with(first|(go_at_call 182;refine cM (bX.o _ ap.o) ?_;rintro e w4 ⟨vt,rfl,aL,am⟩;obtain⟨ta,tn,tc,rfl⟩:=Ma aL;obtain⟨cg,cj⟩:=am.cells;(have z4:=am.size);(try simp only[wZ,Yb]at z4);(have di:w.heap.size<w4.heap.size:=oM);(have dl:w.heap.size+1<w4.heap.size:=oM);(have dp:w.heap.size+1+1<w4.heap.size:=oM);(have ds:w.heap.size<w4.heap.size+1:=oM);(have dw:w.heap.size+1<w4.heap.size+1:=oM);(have dz:w.heap.size+1+1<w4.heap.size+1:=oM))|(go_at_call 183;refine cM (bh.o _ (ap.o.trans am) _ aL) ?_;rintro e w5 ⟨rfl,ab⟩;unfold pj;(try rw[hd]);obtain⟨ch,ck⟩:=ab.cells;(have z5:=ab.size);(try simp only[wZ,Yb]at z5);(have dj:w.heap.size<w5.heap.size:=oM);(have dm:w.heap.size+1<w5.heap.size:=oM);(have dq:w.heap.size+1+1<w5.heap.size:=oM);(have dt:w.heap.size<w5.heap.size+1:=oM);(have dx:w.heap.size+1<w5.heap.size+1:=oM);(have dB:w.heap.size+1+1<w5.heap.size+1:=oM))|(go_at_call 184;refine cM (ao.o _ (((ap.o.trans am).trans ab).alloc _) _ ((aL.f ab).f ((eR _).alloc _))) ?_;rintro e w6 ⟨aM,r1,r2,aj,ak,rfl⟩;obtain⟨bK,bO,bM,bQ,bL,bP,bN,rfl⟩:=aj.form;obtain⟨bD,bH,bF,bJ,bE,bI,bG,rfl⟩:=ak.form;obtain⟨ci,cl⟩:=aM.cells;(have z6:=aM.size);(try simp only[wZ,Yb]at z6);(have dk:w.heap.size<w6.heap.size:=oM);(have dn:w.heap.size+1<w6.heap.size:=oM);(have dr:w.heap.size+1+1<w6.heap.size:=oM);(have du:w.heap.size<w6.heap.size+1:=oM);(have dy:w.heap.size+1<w6.heap.size+1:=oM);(have dC:w.heap.size+1+1<w6.heap.size+1:=oM)));have aj:Fb w6 (M #[Z bK bO bM,I bQ,Z bL bP bN]) d.1:=aj;have ak:Fb w6 (M #[Z bD bH bF,I bJ,Z bE bI bG]) d.2:=ak;obtain⟨W7,ae⟩:=gX (((w6.alloc (.cells #[Z bK bO bM,I bQ,Z bL bP bN] 181)).alloc (.cells #[Z bD bH bF,I bJ,Z bE bI bG] 181)));have a0:Ba w6 W7:=by rw[<-ae];exact((eR _).alloc _).alloc _
  have aZ:Ba W3 W7:=((am.trans ab).trans (((eR _).alloc _).trans aM)).trans a0;have be:RB W7 w6.heap.size d.1:=by rw[<-ae];exact(RB.new aj rfl).ext ((eR _).alloc _)
  have bf:RB W7 (w6.heap.size+1) d.2:=by rw[<-ae];exact RB.new (ak.ext ((eR _).alloc _)) sM
  have ac:=za (aZ.e bi.o);have bj:=za (aZ.e bW.o);have bm:=za ((((aL.f ab).f ((eR _).alloc _)).f aM).f a0);have cR:w.heap.size+1<w6.heap.size:=oM;have a2:=za (ap.o.trans aZ);rw[ae];obtain⟨j,af⟩:=gX w6.heap.size;rw[af]at be bf cR;simp only[af];clear ae k0 k1 k2 k3 k4 k5 k6 k7 k8 k9 cq cr ct cu cv cx cy kf cg cj ch ck ci cl af a0 aj ak;obtain⟨pa,pm,bz,bC,bx,bB,bA,x0,x1,x2,cK,cL,cN,xz,a4⟩:=be.rd;obtain⟨ea,em,ec,es,bq,bs,br,y0,y1,y2,cO,cP,cQ,yz,ag⟩:=bf.rd;have aT:∀q∈[((⟨j,0,X⟩:Addr),Value.slice pa pm bz),(⟨j,1,X⟩,I bC),(⟨j,2,X⟩,Z bx bB bA),(⟨j+1,0,X⟩,Z ea em ec),(⟨j+1,1,X⟩,I es),(⟨j+1,2,X⟩,Z bq bs br)],w.heap.size+1≠q.1.block:=by
   simp;omega
  go_wp2;refine jd [(⟨j,0,X⟩,Z pa pm bz),(⟨j,1,X⟩,I bC),(⟨j,2,X⟩,Z bx bB bA),(⟨j+1,0,X⟩,Z ea em ec),(⟨j+1,1,X⟩,I es),(⟨j+1,2,X⟩,Z bq bs br)] cA fun f=>?_;refine sN 0 ?_
  iterate 3 refine Db ?_
  refine oN ?_;refine sN 4 ?_
  iterate 2 refine Db ?_
  refine oN ?_;refine sN 7 ?_
  iterate 3 refine Db ?_
  refine oN ?_;refine sN 11 ?_
  iterate 3 refine Db ?_
  refine oN ?_;have D0:Ba W7 W7.drew:=(eR _).drew;refine Ac (i:=3) (aS.o _ (a2.o.trans D0) _ d.1 (a4.ext D0) (aa.o.1.mono oM) _ (D0.e ac.o)) ?_;rintro e w8 ⟨db,rfl,co,bw⟩;obtain⟨fa,fm,fc,fs,ar,ay,av,fb,fn,fk,ft,au,aA,aw,rfl,aV,aW⟩:=co;refine⟨_,rfl,(cE f bw),fun f=>?_⟩;have D8:Ba W7 w8:=D0.trans bw;refine Ac (i:=6) (aS.o _ (a2.o.trans D8) _ d.2 (ag.ext D8) (aa.o.2.mono oM) _ (D8.e ac.o)) ?_;rintro e w9 ⟨dc,rfl,cp,a6⟩;obtain⟨aB,gm,aE,gs,aC,aH,aF,gb,aI,gk,gt,aD,aJ,aG,rfl,aX,aY⟩:=cp;refine⟨_,rfl,(cE f a6),fun f=>?_⟩;have D9:Ba W7 w9:=D8.trans a6;refine Ac (i:=10) (bk.o _ _ _ _ d.1 d.2 (bm.o.f D9) (a4.ext D9) (aa.o.1.mono oM) (ag.ext D9) (aa.o.2.mono oM)) ?_;rintro e cJ ⟨rfl,y⟩;refine⟨_,rfl,(cE f y),fun f=>?_⟩;have an:Ba W7 cJ:=D9.trans y;refine Ac (i:=14) (bk.o _ _ _ _ d.2 d.2 (bm.o.f an) (ag.ext an) (aa.o.2.mono oM) (ag.ext an) (aa.o.2.mono oM)) ?_;rintro e aR ⟨rfl,z⟩;refine⟨_,rfl,(cE f z),fun f=>?_⟩;have bg:Ba W7 aR:=an.trans z;refine La (i:=15) ?_;have KZ:=bg.e bj.o;obtain⟨u0,u1,u2,u3,u4,u5,u6,u7,u8,u9,cB,cC,cD,cF,cG,cH,cI⟩:=Kl KZ;have uf:=Za KZ;have zk:=Ya KZ;have HZ:=za KZ;have Hf:=za (show Ul aR (M #[Z fa fm fc,I fs,Z ar ay av,Z fb fn fk,I ft,Z au aA aw]) d.1 (Rh (Ga p) d.1)from((Ul.ext ⟨_,_,_,_,_,_,_,_,_,_,_,_,_,_,rfl,aV,aW⟩ a6).ext y).ext z);have Hg:=za (show Ul aR (M #[Z aB gm aE,I gs,Z aC aH aF,Z gb aI gk,I gt,Z aD aJ aG]) d.2 (Rh (Ga p) d.2)from(Ul.ext ⟨_,_,_,_,_,_,_,_,_,_,_,_,_,_,rfl,aX,aY⟩ y).ext z);clear KZ aV aW aX aY x0 x1 x2 cK cL cN y0 y1 y2 cO cP cQ a4 ag;refine Te (i:=16) fun K hK=>?_;go_simp;refine kO hK (Da.set17 f aT _ _ _ _ _ _ _ _ _ _ _ _ _ _ _ _ _) (fun f=>?_);clear hK K;refine La (i:=17) ?_;refine Pb ?_;clear f aT;go_wp2;have n0:ud 2 aR (w.heap.size+1):=by intro cs fr e;rw[HZ.o]at e;cases e
  have EZ:=za (a2.o.trans bg);refine bR (v:=.tuple #[M #[O Y b,Z fa fm fc,I fs,Z ar ay av,Z fb fn fk,I ft,Z au aA aw,Z aB gm aE,I gs,Z aC aH aF,Z gb aI gk,I gt,Z aD aJ aG,O Y (Zd l d.1 d.2).1,O Y (Zd l d.1 d.2).2,O Y (Zd l d.2 d.2).1,O Y (Zd l d.2 d.2).2],I true]) (by simp[results,Tryz.results138,go_sem,zk,uf,u0,u1,u2,u3,u4,u5,u6,u7,u8,u9,cB,cC,cD,cF,cG,cH,cI]) rfl ?_;rw[<-HR.o];refine⟨Cy EZ.o (Nat.le_succ _) _ _ _ _ _ _ _ _ _ _ _ _ _ _ _ _ _,.inr ⟨_,[O Y b,Z fa fm fc,I fs,Z ar ay av,Z fb fn fk,I ft,Z au aA aw,Z aB gm aE,I gs,Z aC aH aF,Z gb aI gk,I gt,Z aD aJ aG,O Y (Zd l d.1 d.2).1,O Y (Zd l d.1 d.2).2,O Y (Zd l d.2 d.2).1,O Y (Zd l d.2 d.2).2],rfl,rfl,[Z fa fm fc,I fs,Z ar ay av,Z fb fn fk,I ft,Z au aA aw],[Z aB gm aE,I gs,Z aC aH aF,Z gb aI gk,I gt,Z aD aJ aG],rfl,Hf.o.keep (qF n0 _ _ _ _ _ _ _ _ _ _ _ _ _ _ _ _ _),Hg.o.keep (qF n0 _ _ _ _ _ _ _ _ _ _ _ _ _ _ _ _ _)⟩⟩
end
section
open Go.RowKit Go.Shelf
def Le(cs:List Int)(x n0:Int):Int:=cs.foldl (fun n c=>if x<c/\c<n then c else n) n0
def Fj(cs:List Int)(x hi:Int):Int:=if x<hi/\hi<Le cs x (hi+1)then hi else Le cs x (hi+1)
def NN cs ds x n0:Le (cs++ds) x n0=Le ds x (Le cs x n0):=by unfold Le;rw[List.foldl_append]
def Ns cs x:∀n0,Le cs x n0<=n0/\(∀c∈cs,x<c->Le cs x n0<=c)/\(Le cs x n0=n0\/(Le cs x n0∈cs/\x<Le cs x n0)):=by
 induction cs with
 | nil=>intro n0;exact⟨Int.le_refl _,fun c h=>(nomatch h),.inl rfl⟩
 | cons d cs k =>
  intro n0;have e:Le (d::cs) x n0=Le cs x (if x<d/\d<n0 then d else n0):=rfl;obtain⟨f,g,a⟩:=k (if x<d/\d<n0 then d else n0);rw[e];by_cases j:x<d/\d<n0
  ·rw[if_pos j]at f g a ⊢;refine⟨by omega,fun c b i=>?_,?_⟩
   ·rcases List.mem_cons.1 b with rfl|b
    ·exact f
    ·exact g c b i
   ·rcases a with a|a
    ·exact .inr ⟨by rw[a];exact List.mem_cons_self,by omega⟩
    ·exact .inr ⟨mC _ a.1,a.2⟩
  ·rw[if_neg j]at f g a ⊢;refine⟨f,fun c b i=>?_,?_⟩
   ·rcases List.mem_cons.1 b with rfl|b
    ·omega
    ·exact g c b i
   ·rcases a with a|a
    ·exact .inl a
    ·exact .inr ⟨mC _ a.1,a.2⟩
def zN(l:List Int)(i:Nat):Int:=l.getD i 0
def Gs{l i}(h:i<l.length):zN l i=l[i]:=by unfold zN;rw[gD,gE h];rfl
def lr{l i}(h:i<l.length):zN l i∈l:=by rw[Gs h];exact List.getElem_mem h
structure Eu (cs:List Int) (lo hi:Int) (L:List Int):Prop where
 pos:0<L.length
 h0:zN L 0=lo
 st:∀k,k+1<L.length->zN L (k+1)=Fj cs (zN L k) hi
 le:∀k,k<L.length->zN L k<=hi
 stop:hi<Fj cs (zN L (L.length-1)) hi
def AH{cs L lo hi}(K:lo<hi)(hr:L.Pairwise (·<·))(n:∀z,z∈L ↔ (z=lo\/z=hi\/(lo<z/\z<hi/\z∈cs))):Eu cs lo hi L:=by
 have a:∀z∈L,lo<=z/\z<=hi:=fun z b=>by
  rcases(n z).1 b with h|h|h<;>omega
 have W:=List.pairwise_iff_getElem.1 hr;have up:∀{i j:Nat},i<j->j<L.length->zN L i<zN L j:=fun {i j} p u=>by
  rw[Gs oM,Gs u];exact W i j oM u p
 have c:∀{z},z∈L->∃i,i<L.length/\zN L i=z:=fun {z} b=>by
  obtain⟨i,hi,e⟩:=List.getElem_of_mem b;exact⟨i,hi,by rw[Gs hi];exact e⟩
 have m:lo∈L:=(n lo).2 (.inl rfl);have r:hi∈L:=(n hi).2 (.inr (.inl rfl));have v:0<L.length:=List.length_pos_iff.2 (List.ne_nil_of_mem m);refine⟨v,?_,fun k l=>?_,fun k l=>(a _ (lr l)).2,?_⟩
 ·obtain⟨i,hi,e⟩:=c m;have p:=(a _ (lr v)).1;rcases Nat.eq_zero_or_pos i with rfl|q
  ·exact e
  ·have:=up q hi;omega
 ·have f:=up (show k<k+1 by omega) l;have ha:=a _ (lr (show k<L.length by omega));have hb:=a _ (lr l);have g:=(n _).1 (lr l);obtain⟨n1,s,d⟩:=Ns cs (zN L k) (hi+1);have t:∀{z},z∈L->zN L k<z->zN L (k+1)<=z:=fun {z} b R=>by
   obtain⟨j,y,e⟩:=c b;rcases Nat.lt_trichotomy j (k+1)with h|h|h
   ·rcases Nat.lt_trichotomy j k with o | o | o
    ·have:=up o oM;omega
    ·subst o;omega
    ·omega
   ·subst h;omega
   ·have:=up h y;omega
  unfold Fj;by_cases hc:Le cs (zN L k) (hi+1)<=hi
  ·rw[if_neg oM];rcases d with d|⟨d,w⟩
   ·omega
   ·have b:Le cs (zN L k) (hi+1)∈L:=(n _).2 (by
     by_cases q:Le cs (zN L k) (hi+1)=hi
     ·exact .inr (.inl q)
     ·exact .inr (.inr ⟨by omega,by omega,d⟩))
    have h5:=t b w;rcases g with h|h|h
    ·omega
    ·omega
    ·have:=s _ h.2.2 f;omega
  ·rw[if_pos oM];rcases g with h|h|h
   ·omega
   ·exact h
   ·have:=s _ h.2.2 f;omega
 ·have e:zN L (L.length-1)=hi:=by
   obtain⟨i,x,e⟩:=c r;have p:=(a _ (lr (show L.length-1<L.length by omega))).2;rcases Nat.lt_or_ge i (L.length-1)with h|h
   ·have:=up h oM;omega
   ·have:i=L.length-1:=oM;subst this;exact e
  rw[e];obtain⟨n1,s,d⟩:=Ns cs hi (hi+1);unfold Fj;rw[if_neg oM];rcases d with d|⟨_,w⟩<;>omega
def TL{s}(h:s.lo<s.hi):Eu ((s.over++s.under).map (·.1)) s.lo s.hi (Xd s):=
 AH h (zR s) (fun z=>by
  rw[Fi];constructor
  ·rintro (h|h|⟨a,b,q,c,rfl⟩)
   ·exact .inl h
   ·exact .inr (.inl h)
   ·exact .inr (.inr ⟨a,b,List.mem_map_of_mem c⟩)
  ·rintro (h|h|⟨a,b,d⟩)
   ·exact .inl h
   ·exact .inr (.inl h)
   ·obtain⟨q,c,e⟩:=List.mem_map.1 d;exact .inr (.inr ⟨a,b,q,c,e⟩))
end
section
open Go.RowKit Go.Shelf Go.Sort Go.Lib
def yJ x y:yd x y = -1 ↔ x<y:=by
 rw[<-Kx];unfold yd;rcases Int.lt_trichotomy (x.num*y.den-y.num*x.den) 0 with h|h|h
 ·rw[Int.sign_eq_neg_one_of_neg h];decide
 ·rw[h];decide
 ·rw[Int.sign_eq_one_of_pos h];decide
def xJ x y:yd x y=1 ↔ y<x:=by
 rw[<-zJ];unfold yd;rcases Int.lt_trichotomy (x.num*y.den-y.num*x.den) 0 with h|h|h
 ·rw[Int.sign_eq_neg_one_of_neg h];decide
 ·rw[h];decide
 ·rw[Int.sign_eq_one_of_pos h];decide
def Wk{q:Rat}:q.num<0 ↔ q<0:=by rw[Rat.lt_iff];simp
def Xk{q:Rat}:0<q.num ↔ 0<q:=by rw[Rat.lt_iff];simp
def Zl(o:Rat×Rat)(S:Rat->Prop):Prop:=S o.1/\S o.2/\∀x,S x->o.1<=x/\x<=o.2
def Zl.wid{o S}(h:Zl o S) y:Zl (Wj o y) fun x=>S x\/x=y:=by
 obtain⟨d,f,e⟩:=h;have b:(Wj o y).1=if y<o.1 then y else o.1:=by
  show Ke (-1) o.1 y=_;unfold Ke;simp only[yJ]
 have c:(Wj o y).2=if o.2<y then y else o.2:=by
  show Ke 1 o.2 y=_;unfold Ke;simp only[xJ]
 refine⟨?_,?_,fun x a=>?_⟩
 ·rw[b];split
  ·exact .inr rfl
  ·exact .inl d
 ·rw[c];split
  ·exact .inr rfl
  ·exact .inl f
 ·rw[b,c];rcases a with a|rfl
  ·have:=e x a;constructor<;>split<;>grind
  ·have:=e _ d;constructor<;>split<;>grind
def Zl.of{o S a}(h:Zl o S)(e:∀x,a x ↔ S x):Zl o a:=by obtain⟨b,c,d⟩:=h;exact⟨(e _).2 b,(e _).2 c,fun x f=>d x ((e x).1 f)⟩
def Du(f:Rat->Rat)(a:List Rat)(m:Rat):Nat->Rat->Prop
 | 0,x=>x=m
 | i+1,x=>Du f a m i x\/(f (a.getD i 0)<=0/\x=a.getD i 0)\/(i≠0/\f (a.getD i 0)*f (a.getD (i-1) 0)<0/\x=Kj f (a.getD (i-1) 0) (a.getD i 0))
def Qt(x y:Rat):x.num.sign*y.num.sign<0 ↔ x*y<0:=by
 have e:x.num.sign = -1/\x<0\/x.num.sign=0/\x=0\/x.num.sign=1/\0<x:=by
  rcases Int.lt_trichotomy x.num 0 with h|h|h
  ·exact .inl ⟨Int.sign_eq_neg_one_of_neg h,Wk.1 h⟩
  ·exact .inr (.inl ⟨by rw[h];rfl,Rat.num_eq_zero.1 h⟩)
  ·exact .inr (.inr ⟨Int.sign_eq_one_of_pos h,Xk.1 h⟩)
 have f:y.num.sign = -1/\y<0\/y.num.sign=0/\y=0\/y.num.sign=1/\0<y:=by
  rcases Int.lt_trichotomy y.num 0 with h|h|h
  ·exact .inl ⟨Int.sign_eq_neg_one_of_neg h,Wk.1 h⟩
  ·exact .inr (.inl ⟨by rw[h];rfl,Rat.num_eq_zero.1 h⟩)
  ·exact .inr (.inr ⟨Int.sign_eq_one_of_pos h,Xk.1 h⟩)
 rcases e with ⟨a,b⟩|⟨a,b⟩|⟨a,b⟩<;>rcases f with ⟨c,d⟩|⟨c,d⟩|⟨c,d⟩<;>rw[a,c]
 ·have:=Rat.mul_pos (show 0 < -x by grind) (show 0 < -y by grind);exact⟨fun h=>absurd h dM,fun h=>by grind⟩
 ·rw[d,Rat.mul_zero];decide
 ·have:=Rat.mul_pos (show 0 < -x by grind) d;exact⟨fun _=>by grind,fun _=>by decide⟩
 ·rw[b,Rat.zero_mul];decide
 ·rw[b,Rat.zero_mul];decide
 ·rw[b,Rat.zero_mul];decide
 ·have:=Rat.mul_pos b (show 0 < -y by grind);exact⟨fun _=>by grind,fun _=>by decide⟩
 ·rw[d,Rat.mul_zero];decide
 ·have:=Rat.mul_pos b d;exact⟨fun h=>absurd h dM,fun h=>by grind⟩
def Du.mono{f a m}:∀{n k x},Du f a m n x->n<=k->Du f a m k x
 | n,0,x,h,b=>by
  obtain rfl:n=0:=oM;exact h
 | n,k+1,x,h,b=>by
  by_cases e:n=k+1
  ·subst e;exact h
  ·exact .inl (Du.mono h oM)
end
section
open Go.RowKit Go.Shelf Go.Sort
attribute [local go_sem] Oper.semAt_some
def Br w n a b:Calls Tryz.prog 130 #[O Y n,O Y a,O Y b] w fun e d=>e=.returned (I (Ra n a b))/\Ba w d:=by
 unfold Ra;by_cases h:a<=n
 ·have c:decide (a<=n)=true:=by simpa using h
  go_in;go_wp2;go_ret;exact⟨by simp[c],eA⟩
 ·have c:decide (a<=n)=false:=by simpa using h
  go_in;go_wp2;go_ret;exact⟨by simp[c],eA⟩
def Ab.pt{w a n c l}(h:Ab w (Z a n c) l){i}(hi:i<l.length):∃b o,a=N ⟨b,o,X⟩/\b<w.heap.size/\w.cell? ⟨b,o+i*2,X⟩=N (O Y (Qa l i).1)/\w.cell? ⟨b,o+i*2+1,X⟩=N (O Y (Qa l i).2):=by rw[Sh hi];exact h.at' (gE hi)
def LQ w v l i(h:Ab w v l)(hi:i<l.length)(s:l.length<=1000000):Calls Tryz.prog 207 #[v,O Y i] w fun e u=>e=.returned (M #[O Y (Qa l ((i+1)%l.length)).1,O Y (Qa l ((i+1)%l.length)).2])/\Ba w u:=by
 obtain⟨a,c,rfl⟩:=h.form;obtain⟨n,f⟩:=gX l.length;have t:(i+1)%n<n:=Nat.mod_lt _ oM;obtain⟨k,d⟩:=gX ((i+1)%n);rw[d]at t;obtain⟨b,o,rfl,x,q,r⟩:=h.pt (i:=k) oM;rw[f,d];rw[f]at hi s;obtain⟨p,m⟩:=gX (Qa l k);rw[m]at q r ⊢;have y:Int.tmod ((i:Int)+1) (n:Int)=(k:Int):=by
  rw[Int.tmod_eq_emod_of_nonneg oM,<-d,Int.natCast_emod];rfl
 have g:¬(n:Int)=0:=oM;have j:((n:Int)==0)=false:=by simpa using g
 have z:(0:Int)<=(k:Int):=oM;have K:(k:Int)<(n:Int):=oM;clear m d h f;go_in;go_wp2;exact bR (v:=M #[O Y p.1,O Y p.2]) (by simp[results,Tryz.results207,go_sem]) rfl ⟨rfl,eA⟩
def PB{j k x y}(e:Bd j x)(f:Bd k y)(a:0<=j):Bd (j*k) (x*y):=by
 unfold Bd at *;have b:0<=k:=oM;have c:(x*y).natAbs<=(j*k).natAbs:=by
  rw[Int.natAbs_mul,Int.natAbs_mul];exact Nat.mul_le_mul oM oM
 have d:0<=j*k:=Int.mul_nonneg a b;omega
def GQ w p q r(m:Bd 1000000 p.1)(n:Bd 1000000 p.2)(o:Bd 1000000 q.1)(s:Bd 1000000 q.2)(t:Bd 1000000 r.1)(u:Bd 1000000 r.2):Calls Tryz.prog 206 #[M #[O Y p.1,O Y p.2],M #[O Y q.1,O Y q.2],M #[O Y r.1,O Y r.2]] w fun e K=>e=.returned (O Y (Ci p q r))/\Ba w K:=by obtain⟨a,b⟩:=p;obtain⟨c,d⟩:=q;obtain⟨f,g⟩:=r;unfold Ci;dsimp only at *;have v:=PB (j:=2000000) (k:=2000000) (x:=c-a) (y:=g-b) (by unfold Bd at *;omega) (by unfold Bd at *;omega) dM;have z:=PB (j:=2000000) (k:=2000000) (x:=d-b) (y:=f-a) (by unfold Bd at *;omega) (by unfold Bd at *;omega) dM;obtain⟨A,i⟩:=gX ((c-a)*(g-b));obtain⟨R,l⟩:=gX ((d-b)*(f-a));rw[i]at v ⊢;rw[l]at z ⊢;unfold Bd at *;go_in;go_wp2;go_ret;exact⟨rfl,eA⟩
def Vi(l:LP):Nat->Int×Int
 | 0=>Qa l 0
 | i+1=>(min (Vi l i).1 (Qa l i).1,min (Vi l i).2 (Qa l i).2)
def uD l:∀i,i<=l.length->Vi l i=(l.take i).foldl (fun o q=>(min o.1 q.1,min o.2 q.2)) (Qa l 0)
 | 0,_=>by simp[Vi]
 | i+1,h=>by
  rw[Vi,uD l i (by omega),ze l i (Qa l i) (by rw[Sh (by omega)];exact gE _),List.foldl_append];rfl
def Px{l:LP}(h:l≠[]):Vi l l.length=Ta l:=by rw[uD l l.length (nE _),List.take_length];exact MI h
def ZU(w:V)(l:LP)(t4:J)(W:V):Prop:=
 ∃i:Nat,t4=O Y i/\i<=l.length/\Ba w W/\W.heap[w.heap.size]?=N (.cells #[O Y 0,O Y 0] 74 (0,0))/\W.heap[w.heap.size+1]?=N (.cells #[O Y (Vi l i).1,O Y (Vi l i).2] 74 (0,0))
def DD w v l(h:Ab w v l)(k:l≠[]):Calls Tryz.prog 172 #[v] w fun e w'=>e=.returned (M #[O Y (Ta l).1,O Y (Ta l).2])/\Ba w w':=by
 obtain⟨a,c,rfl⟩:=h.form;rw[<-Px k];obtain⟨n,z⟩:=gX l.length;have ag:0<n:=by rw[<-z];exact List.length_pos_iff.2 k
 have y:=h.le;unfold maxLen at y;rw[z]at y ⊢;obtain⟨b,o,rfl,hb,s,t⟩:=h.pt (i:=0) oM;obtain⟨p,hp⟩:=gX (Qa l 0);rw[hp]at s t;simp only[Nat.zero_mul,Nat.add_zero,Nat.zero_add]at s t;have Hp:=za hp;have Hn:=za z;have H:=za h;clear hp z h k;go_in;go_wp2;go_loopw [4] (ZU w l) (fun t4 _=>n-(intOf t4).toNat)
 case atStart =>
  refine⟨0,rfl,by omega,eA,?_,?_⟩
  ·rw[Below.heap_alloc _ _ _ sM];exact aN _ _
  ·rw[show Vi l 0=p from Hp.o];exact mc _ _ _ sM
 case round =>
  clear s t;obtain⟨i,rfl,hi,hx,x,d⟩:=hrel;rw[Hn.o]at hi;obtain⟨m,hm⟩:=gX (Vi l i);rw[hm]at d;have Hm:=za hm;have m0:=Aa d 0 (O Y m.1);have m1:=Aa d 1 (O Y m.2);have ah:=Za d 0;have ai:=Za d 1;have mz:=Ya d;have f:=za x;have R:=za d;clear hm x d;by_cases ac:i<n
  ·obtain⟨b2,o2,e2,ae,s,t⟩:=(H.o.f hx).pt (i:=i) (by rw[Hn.o];exact ac);cases e2;have af:b<w.heap.size:=hb;obtain⟨q,hq⟩:=gX (Qa l i);rw[hq]at s t;have Hq:=za hq;have g0:(0:Int)<=(i:Int):=oM;have g1:(i:Int)<(n:Int):=oM;have g:Vi l (i+1)=(min m.1 q.1,min m.2 q.2):=by rw[Vi,Hm.o,Hq.o]
   have aa:=za g;obtain⟨mx,r⟩:=m;obtain⟨qx,qz⟩:=q;dsimp only at m0 m1 s t;have aj:¬b=w.heap.size+1:=oM;clear hq g;go_wp2;refine mT (Da [(⟨b,o+i*2,X⟩,O Y qx),(⟨b,o+i*2+1,X⟩,O Y qz)]) (Da [(⟨w.heap.size+1,0,X⟩,O Y mx),(⟨w.heap.size+1,1,X⟩,O Y r)]) 17 kM cA cA (fun hA hB=>?_);refine Qj (i:=0) false ?_;refine Qj (i:=1) true ?_;refine Qj (i:=2) false ?_;refine Qj (i:=3) false ?_;refine Qj (i:=4) false ?_;refine Qj (i:=5) false ?_;refine Qj (i:=6) false ?_;refine Qj (i:=7) false ?_;refine Qj (i:=8) false ?_;refine Qj (i:=9) true ?_;refine Qj (i:=10) false ?_;refine Qj (i:=11) false ?_;refine Qj (i:=12) false ?_;refine Qj (i:=13) false ?_;refine Qj (i:=14) false ?_;refine Qj (i:=15) false ?_;refine Qj (i:=16) false ?_;have j:∀q∈[((⟨b,o+i*2,X⟩:Addr),Value.int Y qx),(⟨b,o+i*2+1,X⟩,O Y qz)],w.heap.size+1≠q.1.block:=by
    simp;omega
   refine UG (i:=17) fun K u=>?_;go_simp;refine kO u ⟨Da.set (p:=⟨w.heap.size+1,0,X⟩) hA j _,fun h=>nomatch h⟩ (fun ab=>?_);clear u K;replace hA:=ab.1;refine Qj (i:=18) false ?_;refine UG (i:=19) fun K u=>?_;go_simp;refine kO u ⟨Da.set (p:=⟨w.heap.size+1,1,X⟩) hA j _,fun h=>nomatch h⟩ (fun ad=>?_);clear u K;refine Dq kM ?_ _;go_wp2;go_roundw
   case rel =>
    refine⟨i+1,by go_num,by rw[Hn.o];omega,?_,?_,?_⟩
    ·exact((hx.drew.set (p:=⟨w.heap.size+1,0,X⟩) dO _).set (p:=⟨w.heap.size+1,1,X⟩) dO _)
    ·exact pq (W:=wr) f.o oM _ _
    ·rw[aa.o];exact Dk (W:=wr.drew) R.o _ _
   case measure=>simp[intOf];omega
  ·obtain rfl:i=n:=oM;have t0:=Aa f.o 0 (O Y 0);have t1:=Aa f.o 1 (O Y 0);have ak:=Za f.o 0;have Rj:=Za f.o 1;have tz:=Ya f.o;obtain⟨mx,r⟩:=m;dsimp only at m0 m1;go_wp2;exact bR (v:=M #[O Y mx,O Y r]) (by simp[results,Tryz.results172,go_sem,t0,t1,tz]) rfl ⟨Uj (by rw[Hm.o]),eA⟩
def xV(w:V)(l:LP)(t3 t4:J)(W:V):Prop:=
 ∃i:Nat,t4=O Y i/\t3=O Y (Tc l i:Nat)/\i<=l.length/\Ba w W
def gI{l i}(h:i<l.length):Tc l i<l.length:=by
 cases i with
 | zero=>unfold Tc;omega
 | succ i=>have:=(Dx l i oM).1;omega
def mG w v l(h:Ab w v l):Calls Tryz.prog 173 #[v] w fun e w'=>e=.returned (O Y (Tc l l.length:Nat))/\Ba w w':=by
 obtain⟨a,c,rfl⟩:=h.form;obtain⟨n,W⟩:=gX l.length;have t:=h.le;unfold maxLen at t;rw[W]at t ⊢;have k:=za W;have H:=za h;clear W h;go_in;go_wp2;go_loopw [3,4] (xV w l) (fun _ t4 _=>n-(intOf t4).toNat)
 case atStart=>exact⟨0,rfl,rfl,by omega,eR _⟩
 case round =>
  obtain⟨i,rfl,rfl,hi,hx⟩:=hrel;rw[k.o]at hi;obtain⟨f,s⟩:=gX (Tc l i);rw[s];have Hf:=za s;by_cases u:i<n
  ·have R:f<n:=by rw[<-s,<-k.o];exact gI (by rw[k.o];exact u)
   obtain⟨b,o,rfl,hb,c0,c1⟩:=(H.o.f hx).pt (i:=i) (by rw[k.o];exact u);obtain⟨b2,o2,e2,aa,d0,d1⟩:=(H.o.f hx).pt (i:=f) (by rw[k.o];exact R);cases e2;have d:Tc l (i+1)=if (Qa l i).2<(Qa l (Tc l i)).2\/((Qa l i).2=(Qa l (Tc l i)).2/\(Qa l i).1<(Qa l (Tc l i)).1)then i else Tc l i:=rfl;rw[s]at d;obtain⟨⟨x,z⟩,hq⟩:∃q,Qa l i=q:=⟨_,rfl⟩;obtain⟨⟨j,g⟩,hp⟩:∃q,Qa l f=q:=⟨_,rfl⟩;rw[hq]at c0 c1 d;rw[hp]at d0 d1 d;dsimp only at c0 c1 d0 d1;have g0:(0:Int)<=(i:Int):=oM;have g1:(i:Int)<(n:Int):=oM;have g2:(0:Int)<=(f:Int):=oM;have g3:(f:Int)<(n:Int):=oM;have m:=za d;clear s hq hp d;by_cases y:z<g
   ·have e:z<g\/(z=g/\x<j):=.inl y;have E:=za e;(have k1:decide (z<g)=true:=by simpa using y);clear e;go_wp2;refine jd [(⟨b,o+i*2,X⟩,O Y x),(⟨b,o+i*2+1,X⟩,O Y z),(⟨b,o+f*2,X⟩,O Y j),(⟨b,o+f*2+1,X⟩,O Y g)] cA fun p=>?_;refine sN 0 ?_
    iterate 12 refine Db ?_
    (iterate 24 refine Ze ?_);refine Db ?_;refine oN ?_;refine Pb ?_;go_wp2;go_roundw
    case rel=>exact⟨i+1,by go_num,by rw[m.o,if_pos E.o],by rw[k.o];omega,eA⟩
    case measure=>simp[intOf];omega
   ·(have k1:decide (z<g)=false:=by simpa using y);by_cases r:z=g
    ·(have h3:(z==g)=true:=by simpa using r);by_cases K:x<j
     ·(have k2:decide (x<j)=true:=by simpa using K);have e:z<g\/(z=g/\x<j):=.inr ⟨r,K⟩;have E:=za e;clear r e;go_wp2;refine jd [(⟨b,o+i*2,X⟩,O Y x),(⟨b,o+i*2+1,X⟩,O Y z),(⟨b,o+f*2,X⟩,O Y j),(⟨b,o+f*2+1,X⟩,O Y g)] cA fun p=>?_;refine sN 0 ?_
      (iterate 37 refine Db ?_);refine oN ?_;refine Pb ?_;go_wp2;go_roundw
      case rel=>exact⟨i+1,by go_num,by rw[m.o,if_pos E.o],by rw[k.o];omega,eA⟩
      case measure=>simp[intOf];omega
     ·(have k2:decide (x<j)=false:=by simpa using K);have e:¬(z<g\/(z=g/\x<j)):=oM;have E:=za e;clear r e;go_wp2;refine jd [(⟨b,o+i*2,X⟩,O Y x),(⟨b,o+i*2+1,X⟩,O Y z),(⟨b,o+f*2,X⟩,O Y j),(⟨b,o+f*2+1,X⟩,O Y g)] cA fun p=>?_;refine sN 0 ?_
      (iterate 37 refine Db ?_);refine oN ?_;refine Pb ?_;go_wp2;go_roundw
      case rel=>exact⟨i+1,by go_num,by rw[m.o,if_neg E.o],by rw[k.o];omega,eA⟩
      case measure=>simp[intOf];omega
    ·(have h3:(z==g)=false:=by simpa using r);have e:¬(z<g\/(z=g/\x<j)):=oM;have E:=za e;clear r e;go_wp2;refine jd [(⟨b,o+i*2,X⟩,O Y x),(⟨b,o+i*2+1,X⟩,O Y z),(⟨b,o+f*2,X⟩,O Y j),(⟨b,o+f*2+1,X⟩,O Y g)] cA fun p=>?_;refine sN 0 ?_
     iterate 24 refine Db ?_
     iterate 11 refine Ze ?_
     (iterate 2 refine Db ?_);refine oN ?_;refine Pb ?_;go_wp2;go_roundw
     case rel=>exact⟨i+1,by go_num,by rw[m.o,if_neg E.o],by rw[k.o];omega,eA⟩
     case measure=>simp[intOf];omega
  ·obtain rfl:i=n:=oM;clear s;go_wp2;go_ret;exact⟨Uj (by rw[Hf.o];rfl),eA⟩
end
section
open Go.RowKit Go.Shelf Go.Sort Go.Lib
section
variable {L U:LP} (rL:ie L) (rU:ie U) (nL:L≠[]) (nU:U≠[]) (h:(Ld L U).lo<(Ld L U).hi) {pin:Int} (hno:Xc (Ld L U) pin=false)
include rL rU nL nU h hno
omit hno in
end
end
section
open Go.RowKit Go.Shelf Go.Sort
attribute [local go_sem] Oper.semAt_some
def CV(w:V)(l:LP)(t3:J)(W:V):Prop:=
 ∃i:Nat,t3=O Y i/\i<=l.length/\Ba w W/\∀j,j<i->Gj l j=true
def EV(a:V)(l:LP)(i:Nat)(t4:J)(W:V):Prop:=
 ∃k:Nat,t4=O Y k/\k<=l.length/\Ba a W/\∀j,j<k->Ki l i j=true
def xK{l i k}(hi:i<l.length)(c:k<l.length)(h:Ki l i k=false):Tf l=false:=by
 unfold Tf;have a:Gj l i=false:=by
  unfold Gj;rw[List.all_eq_false];exact⟨k,List.mem_range.2 c,by simp[h]⟩
 have b:(List.range l.length).all (Gj l)=false:=by
  rw[List.all_eq_false];exact⟨i,List.mem_range.2 hi,by simp[a]⟩
 rw[b,Bool.and_false]
def fw{n f}(h:∀j,j<n->f j=true):(List.range n).all f=true:=by rw[List.all_eq_true];exact fun j a=>h j (List.mem_range.1 a)
def sQ w v l(h:Ab w v l)(hB:∀q∈l,Bd 1000000 q.1/\Bd 1000000 q.2):Calls Tryz.prog 171 #[v] w fun e w'=>e=.returned (I (Tf l))/\Ba w w':=by
 obtain⟨a,c,rfl⟩:=h.form;obtain⟨n,hn⟩:=gX l.length;have aj:=h.le;unfold maxLen at aj;rw[hn]at aj ⊢;obtain⟨cb,ae⟩:=gX (Tf l);rw[ae];have R:=za ae;have f:=za hn;have H:=za h;have HB:=za hB;clear hn h hB ae;by_cases hs:n<3
 ·have e:cb=false:=by
   rw[<-R.o];unfold Tf Ra;rw[f.o];simp;omega
  subst e;have h1:(n:Int)<3:=oM;go_in;go_wp2;go_ret;exact⟨rfl,eA⟩
 by_cases ar:12<n
 ·have e:cb=false:=by
   rw[<-R.o];unfold Tf Ra;rw[f.o];simp;omega
  subst e;have h1:¬(n:Int)<3:=oM;have h2:(12:Int)<(n:Int):=oM;go_in;go_wp2;go_ret;exact⟨rfl,eA⟩
 have h1:¬(n:Int)<3:=oM;have h2:¬(12:Int)<(n:Int):=oM;go_in;go_wp2;go_loopw [3] (CV w l) (fun t3 _=>n-(intOf t3).toNat)
 case atStart=>exact⟨0,rfl,by omega,eR _,fun j hj=>by omega⟩
 case round =>
  obtain⟨i,rfl,hi,hx,ad⟩:=hrel;rw[f.o]at hi;have ac:=za ad;have Hx:=za hx;clear ad;by_cases ab:i<n
  ·have g0:(0:Int)<=(i:Int):=oM;have g1:(i:Int)<(n:Int):=oM;go_wp2;obtain⟨wo,rfl⟩:∃wo:V,wo=wr:=⟨_,rfl⟩;go_loopw [4] (EV wo l i) (fun t4 _=>n-(intOf t4).toNat)
   case atStart=>exact⟨0,rfl,by omega,eR _,fun j hj=>by omega⟩
   case round =>
    obtain⟨k,rfl,hk,K,u⟩:=hrel;rw[f.o]at hk;have Hk:=za u;have XW:=hx.trans K;clear u;by_cases af:k<n
    ·obtain⟨b,o,rfl,hb,c0,c1⟩:=(H.o.f XW).pt (i:=i) (by rw[f.o];exact ab);obtain⟨b2,o2,e2,ao,d0,d1⟩:=(H.o.f XW).pt (i:=k) (by rw[f.o];exact af);cases e2;obtain⟨r,hr⟩:=gX ((i+1)%n);(have am:r<n:=by rw[<-hr];exact Nat.mod_lt _ oM);(have aq:Int.tmod ((i:Int)+1) (n:Int)=(r:Int):=by rw[Int.tmod_eq_emod_of_nonneg oM,<-hr,Int.natCast_emod];rfl);(have p:Ki l i k=((k==i) || ((k==r) || decide (0<Ci (Qa l i) (Qa l r) (Qa l k)))):=by unfold Ki;rw[f.o,hr]);have bi:=HB.o _ (Si (l:=l) (i:=i) (by rw[f.o];exact ab));have bk:=HB.o _ (Si (l:=l) (i:=k) (by rw[f.o];exact af));have br:=HB.o _ (Si (l:=l) (i:=r) (by rw[f.o];exact am));have x:=fun W (hW:Ba wr W)=>LQ W _ l i (H.o.f (XW.trans hW)) (by rw[f.o];exact ab) (by rw[f.o];omega);rw[f.o,hr]at x;obtain⟨⟨px,pz⟩,hp⟩:∃q,Qa l i=q:=⟨_,rfl⟩;obtain⟨⟨kx,kz⟩,hq⟩:∃q,Qa l k=q:=⟨_,rfl⟩;obtain⟨⟨rx,rz⟩,ak⟩:∃q,Qa l r=q:=⟨_,rfl⟩;rw[hp]at c0 c1 bi p;rw[hq]at d0 d1 bk p;rw[ak]at br p x;dsimp only at c0 c1 d0 d1 bi bk br x;have ag:=fun W=>GQ W (px,pz) (rx,rz) (kx,kz) bi.1 bi.2 br.1 br.2 bk.1 bk.2;obtain⟨Sd,ai⟩:=gX (Ci (px,pz) (rx,rz) (kx,kz));rw[ai]at p ag;have HN:=za x;have HS:=za ag;have aa:=za p;have k0:(0:Int)<=(k:Int):=oM;have k1:(k:Int)<(n:Int):=oM;have ap:¬(n:Int)=0:=oM;have an:¬n=0:=oM;have au:IntKind.i64.wrap ((i:Int)+1)=(i:Int)+1:=iW _ oM;clear hr hp hq ak ai ag x p bi bk br;by_cases g:k=i
     ·(have e1:((k:Int) != (i:Int))=false:=by simp[g]);(have m:Ki l i k=true:=by rw[aa.o];simp[g]);have E9:=za m;clear g m;go_wp2;refine jd [(⟨b,o+i*2,X⟩,O Y px),(⟨b,o+i*2+1,X⟩,O Y pz),(⟨b,o+k*2,X⟩,O Y kx),(⟨b,o+k*2+1,X⟩,O Y kz)] cA fun d=>?_;refine sN 0 ?_
      iterate 4 refine Db ?_
      iterate 7 refine Ze ?_
      iterate 2 refine Db ?_
      (iterate 13 refine Ze ?_);refine Db ?_;refine oN ?_;refine Pb ?_;go_wp2;go_roundw
      case rel=>exact⟨k+1,by go_num,by rw[f.o];omega,K.drew,fun j hj=>by
        by_cases t:j=k
        ·subst t;exact E9.o
        ·exact Hk.o j oM⟩
      case measure=>simp[intOf];omega
     ·(have e1:((k:Int) != (i:Int))=true:=by simp;omega);by_cases s:k=r
      ·(have e2:((k:Int) != (r:Int))=false:=by simp[s]);(have m:Ki l i k=true:=by rw[aa.o];simp[s]);have E9:=za m;clear s m g;go_wp2;refine jd [(⟨b,o+i*2,X⟩,O Y px),(⟨b,o+i*2+1,X⟩,O Y pz),(⟨b,o+k*2,X⟩,O Y kx),(⟨b,o+k*2+1,X⟩,O Y kz)] cA fun d=>?_;refine sN 0 ?_
       iterate 13 refine Db ?_
       (iterate 13 refine Ze ?_);refine Db ?_;refine oN ?_;refine Pb ?_;go_wp2;go_roundw
       case rel=>exact⟨k+1,by go_num,by rw[f.o];omega,K.drew,fun j hj=>by
         by_cases t:j=k
         ·subst t;exact E9.o
         ·exact Hk.o j oM⟩
       case measure=>simp[intOf];omega
      ·(have e2:((k:Int) != (r:Int))=true:=by simp;omega);by_cases ah:Sd<=0
       ·(have e3:decide (Sd<=0)=true:=by simpa using ah);(have m:Ki l i k=false:=by rw[aa.o];simp[g,s];omega);(have e8:cb=false:=by rw[<-R.o];exact xK (by rw[f.o];exact ab) (by rw[f.o];exact af) m);subst e8;clear s m g;go_wp2;refine jd [(⟨b,o+i*2,X⟩,O Y px),(⟨b,o+i*2+1,X⟩,O Y pz),(⟨b,o+k*2,X⟩,O Y kx),(⟨b,o+k*2+1,X⟩,O Y kz)] cA fun d=>?_;refine sN 0 ?_
        (iterate 19 refine Db ?_);refine oN ?_;refine sN 20 ?_
        (iterate 4 refine Db ?_);refine oN ?_;refine Ac (i:=19) (HN.o wr.drew ((eR wr).drew)) ?_;rintro e w5 ⟨rfl,y⟩;refine⟨_,rfl,(cE d y),fun d=>?_⟩;refine Ac (i:=24) (HS.o w5) ?_;rintro e w6 ⟨rfl,z⟩;refine⟨_,rfl,(cE d z),fun d=>?_⟩;refine sN 25 ?_
        (iterate 2 refine Db ?_);refine oN ?_;refine Pb ?_;go_wp2;go_ret;exact⟨rfl,Hx.o.trans (K.trans ((eR wr).drew.trans (y.trans z)))⟩
       ·(have e3:decide (Sd<=0)=false:=by simpa using ah);(have m:Ki l i k=true:=by rw[aa.o];simp;omega);have E9:=za m;clear s m g;go_wp2;refine jd [(⟨b,o+i*2,X⟩,O Y px),(⟨b,o+i*2+1,X⟩,O Y pz),(⟨b,o+k*2,X⟩,O Y kx),(⟨b,o+k*2+1,X⟩,O Y kz)] cA fun d=>?_;refine sN 0 ?_
        (iterate 19 refine Db ?_);refine oN ?_;refine sN 20 ?_
        (iterate 4 refine Db ?_);refine oN ?_;refine Ac (i:=19) (HN.o wr.drew ((eR wr).drew)) ?_;rintro e w5 ⟨rfl,y⟩;refine⟨_,rfl,(cE d y),fun d=>?_⟩;refine Ac (i:=24) (HS.o w5) ?_;rintro e w6 ⟨rfl,z⟩;refine⟨_,rfl,(cE d z),fun d=>?_⟩;refine sN 25 ?_
        (iterate 2 refine Db ?_);refine oN ?_;refine Pb ?_;go_wp2;go_roundw
        case rel=>exact⟨k+1,by go_num,by rw[f.o];omega,K.trans ((eR wr).drew.trans (y.trans z)),fun j hj=>by
          by_cases t:j=k
          ·subst t;exact E9.o
          ·exact Hk.o j oM⟩
        case measure=>simp[intOf];omega
    ·obtain rfl:k=n:=oM;(have m:Gj l i=true:=by unfold Gj;rw[f.o];exact fw Hk.o);have E9:=za m;clear m;go_wp2;go_roundw
     case rel=>exact⟨i+1,by go_num,by rw[f.o];omega,XW,fun j hj=>by
       by_cases al:j=i
       ·subst al;exact E9.o
       ·exact ac.o j oM⟩
     case measure=>simp[intOf];omega
  ·obtain rfl:i=n:=oM;have e:cb=true:=by
    rw[<-R.o];unfold Tf Ra;rw[f.o,fw ac.o];simp;omega
   subst e;go_wp2;go_ret;exact⟨rfl,eA⟩
def fI x z w:(Instr.field 74 (M #[O Y x,O Y z]) 0).run Tryz.prog w = .ok (O Y x) w:=kM
def ZH x z w:(Instr.field 74 (M #[O Y x,O Y z]) 1).run Tryz.prog w = .ok (O Y z) w:=kM
def DA(w:V)(l:LP)(t3:J)(W:V):Prop:=
 ∃i:Nat,t3=O Y i/\i<=l.length/\Ba w W/\∀j,j<i->Ra (Qa l j).1 0 2000=true/\Ra (Qa l j).2 0 2000=true
def AL{l i}(hi:i<l.length)(h:(Ra (Qa l i).1 0 2000&&Ra (Qa l i).2 0 2000)=false):Kh l=false:=by
 unfold Kh;have:(l.all fun p=>Ra p.1 0 2000&&Ra p.2 0 2000)=false:=by
  rw[List.all_eq_false];exact⟨Qa l i,Si hi,by simp only[h];decide⟩
 rw[this,Bool.false_and]
def sC{n}(h:Ra n 0 2000=true):Bd 1000000 n:=by unfold Ra at h;simp at h;unfold Bd;omega
def ES w v l(h:Ab w v l):Calls Tryz.prog 129 #[v] w fun e w'=>e=.returned (I (Kh l))/\Ba w w':=by
 obtain⟨a,c,rfl⟩:=h.form;obtain⟨n,hn⟩:=gX l.length;have au:=h.le;unfold maxLen at au;rw[hn]at au ⊢;obtain⟨cb,ak⟩:=gX (Kh l);rw[ak];have ag:=za ak;have Hn:=za hn;have H:=za h;clear hn h ak;go_in;go_wp2;go_loopw [3] (DA w l) (fun t3 _=>n-(intOf t3).toNat)
 case atStart=>exact⟨0,rfl,by omega,eR _,fun j hj=>by omega⟩
 case round =>
  obtain⟨i,rfl,hi,hx,ae⟩:=hrel;rw[Hn.o]at hi;have y:=za ae;have Hx:=za hx;clear ae;by_cases av:i<n
  ·obtain⟨b,o,rfl,hb,c0,c1⟩:=(H.o.f hx).pt (i:=i) (by rw[Hn.o];exact av);have hno:=AL (l:=l) (i:=i) (by rw[Hn.o];exact av);have g0:(0:Int)<=(i:Int):=oM;have g1:(i:Int)<(n:Int):=oM;obtain⟨⟨x,z⟩,hp⟩:∃q,Qa l i=q:=⟨_,rfl⟩;rw[hp]at c0 c1 hno;dsimp only at c0 c1 hno;have Hp:=za hp;have al:=fun W=>Br W x 0 2000;have am:=fun W=>Br W z 0 2000;obtain⟨bx,ai⟩:=gX (Ra x 0 2000);obtain⟨bz,aj⟩:=gX (Ra z 0 2000);rw[ai]at al hno;rw[aj]at am hno;have ah:=za al;have ao:=za am;have aw:=za ai;have ax:=za aj;clear hp al am ai aj;cases bx with
   |false=>
    (have e:cb=false:=by rw[<-ag.o,hno rfl]);subst e;clear hno;go_wp2_with(go_at_call 130;refine cM (ah.o _) ?_;rintro e w1 ⟨rfl,d⟩;obtain⟨aq,ar⟩:=d.cells);go_ret;exact⟨rfl,eA⟩
   |true=>
    cases bz with
    |false=>
     (have e:cb=false:=by rw[<-ag.o,hno rfl]);subst e;clear hno;go_wp2_with(first|(go_at_call 130;(with_reducible refine(ah.o _).mono ?_);rintro e w1 ⟨rfl,d⟩;obtain⟨aq,ar⟩:=d.cells)|(go_at_call 130;(with_reducible refine(ao.o _).mono ?_);rintro e w2 ⟨rfl,g⟩));go_ret;exact⟨rfl,eA⟩
    |true=>
     clear hno;go_wp2_with(first|(go_at_call 130;(with_reducible refine(ah.o _).mono ?_);rintro e w1 ⟨rfl,d⟩;obtain⟨aq,ar⟩:=d.cells)|(go_at_call 130;(with_reducible refine(ao.o _).mono ?_);rintro e w2 ⟨rfl,g⟩));go_roundw
     case rel=>exact⟨i+1,by go_num,by rw[Hn.o];omega,eA,fun j hj=>by
       by_cases ay:j=i
       ·subst ay;rw[Hp.o];exact⟨aw.o,ax.o⟩
       ·exact y.o j oM⟩
     case measure=>simp[intOf];omega
  ·obtain rfl:i=n:=oM;have hB:∀q∈l,Bd 1000000 q.1/\Bd 1000000 q.2:=fun q hq=>by
    obtain⟨j,hj,rfl⟩:=List.getElem_of_mem hq;have:=y.o j (by rw[<-Hn.o];exact hj);rw[Sh hj]at this;exact⟨sC this.1,sC this.2⟩
   have hA:(l.all fun p=>Ra p.1 0 2000&&Ra p.2 0 2000)=true:=by
    rw[List.all_eq_true];intro q hq;obtain⟨j,hj,rfl⟩:=List.getElem_of_mem hq;have:=y.o j (by rw[<-Hn.o];exact hj);rw[Sh hj]at this;simp[this.1,this.2]
   have ac:=fun W (hW:Ba wr W)=>sQ W _ l (H.o.f (hx.trans hW)) hB;have R:=fun W (hW:Ba wr W) (az:l≠[])=>DD W _ l (H.o.f (hx.trans hW)) az;have ad:=fun W (hW:Ba wr W)=>mG W _ l (H.o.f (hx.trans hW));have k:cb=(Tf l&&(decide ((Ta l).1=0)&&(decide ((Ta l).2=0)&&decide (Tc l l.length=0)))):=by
    rw[<-ag.o];unfold Kh;rw[hA,Bool.true_and]
   have aa:Tf l=true->l≠[]:=fun h9 e=>by subst e;revert h9;decide
   rw[Hn.o]at ac R ad k;obtain⟨cv,af⟩:=gX (Tf l);obtain⟨⟨mx,mz⟩,hm⟩:∃m,Ta l=m:=⟨_,rfl⟩;obtain⟨f,hf⟩:=gX (Tc l i);rw[af]at ac k aa;rw[hm]at R k;rw[hf]at ad k;dsimp only at R k;have K:=za ac;have s:=za R;have ab:=za ad;have r:=za k;have ap:=za aa;have aA:=fI;have aB:=ZH;clear af hm hf ac R ad k hB hA aa;cases cv with
   |false=>
    (have e:cb=false:=by rw[r.o];rfl);subst e;go_wp2_with(go_at_call 171;refine cM (K.o _ (eR _)) ?_;rintro e w1 ⟨rfl,d⟩);go_ret;exact⟨rfl,eA⟩
   |true=>
    have t:Ua (l≠[]):=za (ap.o rfl);clear ap;by_cases h1:mx=0
    ·by_cases h2:mz=0
     ·by_cases h3:f=0
      ·subst h1 h2 h3;(have e:cb=true:=by rw[r.o];rfl);subst e;go_wp2_with(first|(go_at_call 171;refine cM (K.o _ (eR _)) ?_;rintro e w1 ⟨rfl,d⟩)|(go_at_call 172;(with_reducible refine(s.o w2 (d.trans g) t.o).mono ?_);rintro e w3 ⟨rfl,u⟩)|(go_at_call 172;(with_reducible refine(s.o w1 d t.o).mono ?_);rintro e w2 ⟨rfl,g⟩)|(go_at_call 173;refine cM (ab.o w3 (d.trans (g.trans u))) ?_;rintro e w4 ⟨rfl,an⟩));go_ret;exact⟨rfl,eA⟩
      ·subst h1 h2;(have h4:((f:Int)==0)=false:=by simpa using h3);(have e:cb=false:=by rw[r.o];simp[h3]);subst e;clear h3;go_wp2_with(first|(go_at_call 171;refine cM (K.o _ (eR _)) ?_;rintro e w1 ⟨rfl,d⟩)|(go_at_call 172;(with_reducible refine(s.o w2 (d.trans g) t.o).mono ?_);rintro e w3 ⟨rfl,u⟩)|(go_at_call 172;(with_reducible refine(s.o w1 d t.o).mono ?_);rintro e w2 ⟨rfl,g⟩)|(go_at_call 173;refine cM (ab.o w3 (d.trans (g.trans u))) ?_;rintro e w4 ⟨rfl,an⟩));go_ret;exact⟨rfl,eA⟩
     ·subst h1;(have h4:(mz==0)=false:=by simpa using h2);(have e:cb=false:=by rw[r.o];simp[h2]);subst e;clear h2;go_wp2_with(first|(go_at_call 171;refine cM (K.o _ (eR _)) ?_;rintro e w1 ⟨rfl,d⟩)|(go_at_call 172;(with_reducible refine(s.o w2 (d.trans g) t.o).mono ?_);rintro e w3 ⟨rfl,u⟩)|(go_at_call 172;(with_reducible refine(s.o w1 d t.o).mono ?_);rintro e w2 ⟨rfl,g⟩)|(go_at_call 173;refine cM (ab.o w3 (d.trans (g.trans u))) ?_;rintro e w4 ⟨rfl,an⟩));go_ret;exact⟨rfl,eA⟩
    ·(have h4:(mx==0)=false:=by simpa using h1);(have e:cb=false:=by rw[r.o];simp[h1]);subst e;clear h1;go_wp2_with(first|(go_at_call 171;refine cM (K.o _ (eR _)) ?_;rintro e w1 ⟨rfl,d⟩)|(go_at_call 172;(with_reducible refine(s.o w2 (d.trans g) t.o).mono ?_);rintro e w3 ⟨rfl,u⟩)|(go_at_call 172;(with_reducible refine(s.o w1 d t.o).mono ?_);rintro e w2 ⟨rfl,g⟩)|(go_at_call 173;refine cM (ab.o w3 (d.trans (g.trans u))) ?_;rintro e w4 ⟨rfl,an⟩));go_ret;exact⟨rfl,eA⟩
def TU(w:V)(s:ByteArray)(t3:J)(W:V):Prop:=
 ∃i:Nat,t3=O Y i/\i<=s.size/\Ba w W/\∀j,j<i->pf (Li s j)=false
def kR w s(ad:s.size<=1000000):Calls Tryz.prog 128 #[.string s] w fun e w'=>e=.returned (I (Gk s))/\Ba w w':=by
 obtain⟨n,hn⟩:=gX s.size;obtain⟨p,v⟩:=gX (Gk s);rw[v];have r:=za v;have W:=za hn;go_in;go_wp2;go_loopw [3] (TU w s) (fun t3 _=>n-(intOf t3).toNat)
 case atStart=>exact⟨0,rfl,by omega,eR _,fun j z=>by omega⟩
 case round =>
  obtain⟨i,rfl,hi,hx,k⟩:=hrel;have f:=za k;have Hx:=za hx;clear k;by_cases ac:i<n
  ·have l:i<s.size:=oM;obtain⟨c,hc⟩:∃c:Int,((s[i].toNat:Nat):Int)=c:=⟨_,rfl⟩;have t:Li s i=c.toNat:=by
    unfold Li;rw[<-hc,Int.toNat_natCast]
    congr 1
    exact getElem!_pos s.data i l
   have aa:0<=c:=oM;have u:(Li s i:Int)=c:=by rw[t];omega
   have o:=za u;clear t u;have m:pf c=true->p=false:=fun ho=>by
    rw[<-r.o];unfold Gk;have:(List.range s.size).all (fun i=>!pf (Li s i))=false:=by
     rw[List.all_eq_false];exact⟨i,List.mem_range.2 l,by rw[o.o,ho];decide⟩
    rw[this,Bool.false_and]
   have g:=za m;clear m;have a:c<48->p=false:=fun h=>g.o (by unfold pf;simp;omega);have b:57<c/\c<97->p=false:=fun h=>g.o (by unfold pf;simp;omega);have d:122<c->p=false:=fun h=>g.o (by unfold pf;simp;omega);by_cases K:c<48
   ·have e:=a K;subst e;have x:c<97:=oM;clear a b d;go_wp2;go_ret;exact⟨rfl,eA⟩
   by_cases x:57<c
   ·by_cases R:c<97
    ·have e:=b ⟨x,R⟩;subst e;clear a b d;go_wp2;go_ret;exact⟨rfl,eA⟩
    ·by_cases k4:122<c
     ·have e:=d k4;subst e;clear a b d;go_wp2;go_ret;exact⟨rfl,eA⟩
     ·(have e:pf c=false:=by unfold pf;simp;omega);have E:=za e;clear a b d e;go_wp2;go_roundw
      case rel=>exact⟨i+1,by go_num,by omega,eA,fun j z=>by
        by_cases q:j=i
        ·subst q;rw[o.o];exact E.o
        ·exact f.o j oM⟩
      case measure=>simp[intOf];omega
   ·have R:c<97:=oM;(have e:pf c=false:=by unfold pf;simp;omega);have E:=za e;clear a b d e;go_wp2;go_roundw
    case rel=>exact⟨i+1,by go_num,by omega,eA,fun j z=>by
      by_cases q:j=i
      ·subst q;rw[o.o];exact E.o
      ·exact f.o j oM⟩
    case measure=>simp[intOf];omega
  ·have e:p=Ra n 1 16:=by
    rw[<-r.o];unfold Gk;have:(List.range s.size).all (fun i=>!pf (Li s i))=true:=fw (fun j z=>by rw[f.o j oM];rfl);rw[this,Bool.true_and,W.o]
   have ab:i=n:=oM;have E:=za e;clear e;unfold Ra at E;by_cases K:1<=n
   ·have x:(1:Int)<=(n:Int):=oM;(have y:p=decide ((n:Int)<=16):=by rw[E.o];simp;omega);subst y;go_wp2;go_ret;exact⟨Uj sM,eA⟩
   ·have x:¬(1:Int)<=(n:Int):=oM;(have y:p=false:=by rw[E.o];simp;omega);subst y;go_wp2;go_ret;exact⟨rfl,eA⟩
