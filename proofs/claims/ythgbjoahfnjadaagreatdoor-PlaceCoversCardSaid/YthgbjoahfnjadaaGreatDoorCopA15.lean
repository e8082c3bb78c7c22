import Derived.Test.YthgbjoahfnjadaaGreatDoorCopA13
set_option maxRecDepth 1000000
set_option maxHeartbeats 16000000
set_option linter.all false
open Go.Value renaming slice->O,int->Y,bool->V
open Go.IntKind renaming i64->Z
open Option renaming none->X,some->I
namespace Go.Proofs.YthgbjoahfnjadaaGreatDoor.Cop
section
open Go.RowKit Go.Shelf
attribute [local go_sem] Oper.semAt_some
def fH(w:World)(vg vs:Value)(ps:List Pl)(a:Nat)(p:Pl)(b pin:Int)(l:LP)(hg:∃a n c,vg=O a n c)(hs:Ub w vs ps)(ha:ps[a]?=I p)(t:b<0\/∃(k:Nat)(q:Pl),b=(k:Int)/\ps[k]?=I q/\jd p q=true/\(a:Int)≠b)(ag:Fb (za p))(hT:Fb l)(bt:jh l)(aT:∀W,oa w W->Calls Tryz.prog 101 #[.agg #[vg,vs],Y Z b] W fun e w'=>∃v,e=.returned v/\Aa w' v l/\oa W w')(hp:pin=0)(a2:(Ic (za p) l).lo<(Ic (za p) l).hi)(d:Rat×Rat)(a4:Jc (Ic (za p) l) pin=I d):Calls Tryz.prog 100 #[.agg #[vg,vs],Y Z a,Y Z b,Y Z pin] w (Df w (gh p l b pin)):=by
 have cl:(a:Int)≠b:=by
  rcases t with h|⟨k,q,_,_,_,h⟩
  ·omega
  ·exact h
 obtain⟨ga,gn,gc,rfl⟩:=hg;obtain⟨sa,n,sc,rfl⟩:=Ia hs;have hl:=hs.len;have ck:=hs.le;obtain⟨r,o,s,vl,vu,rfl,cT,d1,d2,d3,hc⟩:=hs.at' ha;have bf:=ia (fun(W:World)(hW:oa w W)(vt:Value)(h:Aa W vt l)=>Cp W vl vt (za p) l (d2.i hW) h (List.length_pos_iff.2 ag.1) (List.length_pos_iff.2 hT.1));have an:=ia (fun(W:World)(hW:oa w W)(vt:Value)(h:Aa W vt l)=>Eu W vl vt (Ic (za p) l) pin (d2.i hW) h (gl ag hT) hp);have aR:=ia (fun(W:World)(hW:oa w W)(vx:Value)(x:Rat)(hx:La W vx x)(hb:Rb 1000 x)(bl:Nat)(cc:W.heap[bl]?=I (.cells (Jd p s vl vu) 118 (0,0)))=>Vu W vx x p bl s vl vu hx hb cc (d2.i hW) ag);have bi:=ia (fun(W:World)(vt vx vr:Value)(x rt:Rat)(h:Aa W vt l)(hx:La W vx x)(hb:Rb 1000 x)(hr:La W vr rt)(cd:Rb 1000 rt)=>Zt W vt vx vr l x rt h hT bt hx hb hr cd);have bV:=ia aT;obtain⟨R,hR⟩:=gX (Df w (gh p l b pin));rw[hR];have HR:=ia hR;unfold gh at HR;obtain⟨sp,aJ⟩:=gX (Ic (za p) l);rw[aJ]at bf an HR;have ah:Dg sp:=aJ▸gl ag hT;have bs:∀o,Jc sp pin=I o->Rb 300 o.1/\Rb 300 o.2:=fun o ho=>by
  unfold Jc at ho;split at ho
  ·cases ho
  ·cases ho;have h1:Rb 300 (Na sp).1:=(Vi ah _ (by unfold Na;exact(Bl (Db sp) (Ol sp)).1)).up dM;exact Rb.reach_n (o:=((Na sp).1,(Na sp).1)) ⟨h1,h1⟩ (Vi ah) (fun q hq=>Rb.pin_g (Vi ah q hq) ah (by rw[hp];unfold Bd;omega)) _ (nE _)
 have bW:=ia bs;unfold Lh at an;obtain⟨aM,aP,aO,rfl⟩:=Ia d1;obtain⟨a6,a8,a7,rfl⟩:=Ia d2;obtain⟨bP,bT,bQ,rfl⟩:=Ia d3;have hi:=(lS.1 ha).1;have p1:(0:Int)<=(a:Int):=oM;have p2:(a:Int)<(n:Int):=oM;have p3:a<n:=oM;have bk:=hc 0 (.string p.name) rfl;have bX:=hc 1 (O aM aP aO) rfl;have bY:=hc 2 (Y Z p.depth) rfl;have bZ:=hc 3 (Y Z p.density) rfl;have b2:=hc 4 (Y Z p.gx) rfl;have b3:=hc 5 (Y Z p.gz) rfl;have b4:=hc 6 (Y Z p.way) rfl;have b5:=hc 7 (Y Z p.ax) rfl;have b6:=hc 8 (Y Z p.az) rfl;have b7:=hc 9 (Y .u8 p.skin) rfl;have bm:=hc 10 (O a6 a8 a7) rfl;have bn:=hc 11 (O bP bT bQ) rfl;simp only[Nat.add_zero]at bk;have cX:((a:Int)==b)=false:=by simpa using cl
 rw[aJ]at a2 a4;have ac:=ia (show b<0\/∃(k:Nat)(q:Pl)(v2:Value),b=(k:Int)/\k<n/\jd p q=true/\(∃a n c,v2=O a n c)/\∀(m:Nat) u,(pe q v2)[m]?=I u->w.cell? ⟨r,o+k*12+m,X⟩=I u from by
  rcases t with h|⟨k,q,h1,hq,h3,h4⟩
  ·exact .inl h
  ·obtain⟨b1,o1,s',da,db,e9,cU,b8,cR,cS,g⟩:=hs.at' hq;cases e9;have cV:=(lS.1 hq).1;exact .inr ⟨k,q,s',h1,by omega,h3,Ia b8,fun m u hu=>g m u (yt hu)⟩)
 have cP:r<w.heap.size+1:=oM;have cQ:r<w.heap.size+1+1:=oM;clear t hs ha hc d1 d2 d3 hl ck hi aT hR bs aJ ah hT bt ag hp;go_in;go_upto_region 2 with fail;go_cut [40] (Dv w (O ga gn gc) (O (I ⟨r,o,X⟩) n sc) (Jd p (O aM aP aO) (O a6 a8 a7) (O bP bT bQ)))
 case first =>
  rcases ac.o with hb|⟨k,q,v2,cb,r4,br,⟨a9,bb,ba,rfl⟩,g⟩
  ·have ca:¬0<=b:=oM;have b9:decide ((0:Int)<=b)=false:=by simp;omega
   refine Ke [] trivial fun f=>?_;refine sN 0 ?_
   iterate 7 refine Fc ?_
   iterate 10 refine fi ?_
   iterate 2 refine Fc ?_
   refine oN ?_;refine Wd ?_;go_wp2;go_meet;exact⟨rfl,((((eR w).alloc _).alloc _).alloc _).drew,((((eR _).alloc _).alloc _).drew).e (aN w _),(((eR _).alloc _).drew).e (Kc _ _ _ sM),((eR _).drew).e (Kc _ _ _ sM)⟩
  ·subst cb;have ca:(0:Int)<=(k:Int):=oM;have b9:decide ((0:Int)<=(k:Int))=true:=sM;have r2:(k:Int)<(n:Int):=oM;have cw:=g 0 (.string q.name) rfl;have cZ:=g 1 (O a9 bb ba) rfl;have c0:=g 2 (Y Z q.depth) rfl;have c1:=g 3 (Y Z q.density) rfl;have c2:=g 4 (Y Z q.gx) rfl;have c3:=g 5 (Y Z q.gz) rfl;have c4:=g 6 (Y Z q.way) rfl;have c5:=g 7 (Y Z q.ax) rfl;have c6:=g 8 (Y Z q.az) rfl;have c7:=g 9 (Y .u8 q.skin) rfl;simp only[Nat.add_zero]at cw;have a0:=ia (fun(W:World)=>jo W p q (O aM aP aO) (O a9 bb ba) ⟨_,_,_,rfl⟩ ⟨_,_,_,rfl⟩);rw[br]at a0;unfold pe at a0;clear g br;refine Ke [(⟨w.heap.size+1+1,0,X⟩,.string p.name),(⟨w.heap.size+1+1,1,X⟩,O aM aP aO),(⟨w.heap.size+1+1,2,X⟩,Y Z p.depth),(⟨w.heap.size+1+1,3,X⟩,Y Z p.density),(⟨w.heap.size+1+1,4,X⟩,Y Z p.gx),(⟨w.heap.size+1+1,5,X⟩,Y Z p.gz),(⟨w.heap.size+1+1,6,X⟩,Y Z p.way),(⟨w.heap.size+1+1,7,X⟩,Y Z p.ax),(⟨w.heap.size+1+1,8,X⟩,Y Z p.az),(⟨w.heap.size+1+1,9,X⟩,Y .u8 p.skin),(⟨w.heap.size,1,X⟩,O (I ⟨r,o,X⟩) n sc),(⟨r,o+k*12,X⟩,.string q.name),(⟨r,o+k*12+1,X⟩,O a9 bb ba),(⟨r,o+k*12+2,X⟩,Y Z q.depth),(⟨r,o+k*12+3,X⟩,Y Z q.density),(⟨r,o+k*12+4,X⟩,Y Z q.gx),(⟨r,o+k*12+5,X⟩,Y Z q.gz),(⟨r,o+k*12+6,X⟩,Y Z q.way),(⟨r,o+k*12+7,X⟩,Y Z q.ax),(⟨r,o+k*12+8,X⟩,Y Z q.az),(⟨r,o+k*12+9,X⟩,Y .u8 q.skin)] cA fun f=>?_;refine sN 0 ?_
   iterate 15 refine Fc ?_
   refine oN ?_;refine Ec (i:=15) (a0.o _) ?_;rintro e w3 ⟨rfl,ak⟩;refine⟨_,rfl,(cE f ak),fun f=>?_⟩;refine sN 16 ?_
   iterate 3 refine Fc ?_
   refine oN ?_;refine Wd ?_;go_wp2;go_meet;exact⟨rfl,((((eR w).alloc _).alloc _).alloc _).drew.trans ak,ak.e (((((eR _).alloc _).alloc _).drew).e (aN w _)),ak.e ((((eR _).alloc _).drew).e (Kc _ _ _ sM)),ak.e (((eR _).drew).e (Kc _ _ _ sM))⟩
 case rest =>
  obtain⟨rfl,X3,K4,K8,ap⟩:=hcut;obtain⟨W3,rfl⟩:∃W,W=wc:=⟨_,rfl⟩;have z3:w.heap.size+1+1<W3.heap.size:=jc ap;have dc:w.heap.size<W3.heap.size:=oM;have dd:w.heap.size+1<W3.heap.size:=oM;clear ac bk bX bY bZ b2 b3 b4 b5 b6 b7 bm bn;have s0:=ja K4 0 (O ga gn gc);have s1:=ja K4 1 (O (I ⟨r,o,X⟩) n sc);have cY:=ja ap 10 (O a6 a8 a7);obtain⟨k0,k1,k2,k3,k4,k5,k6,k7,k8,k9,co,cp,cq,cr,ct,cu,cv⟩:=Tj K8;have kf:=Vb K8;have bU:=ia K8;have bg:=ia ap;have ao:=ia X3;clear K4 K8 ap X3;have hd:decide (sp.lo<sp.hi)=true:=by simp[a2]
  rw[if_pos a2]at HR;rw[a4]at an HR;have T:=ia (bW.o d a4);have cW:∀(fn:Fn)(first cap:Array Value)(w:World),(Instr.makeFunc fn first cap).run Tryz.prog w = .ok (.func fn first cap) w:=fun _ _ _ _=>rfl;go_wp2_with(first|(go_at_call 101;refine cM (bV.o _ ao.o) ?_;rintro e w4 ⟨vt,rfl,aK,al⟩;obtain⟨ta,tn,tc,rfl⟩:=Ia aK;obtain⟨ce,ch⟩:=al.cells;(have z4:=al.size);(try simp only[wZ,Tb]at z4);(have de:w.heap.size<w4.heap.size:=oM);(have di:w.heap.size+1<w4.heap.size:=oM);(have dl:w.heap.size+1+1<w4.heap.size:=oM);(have dp:w.heap.size<w4.heap.size+1:=oM);(have ds:w.heap.size+1<w4.heap.size+1:=oM);(have dw:w.heap.size+1+1<w4.heap.size+1:=oM))|(go_at_call 82;refine cM (bf.o _ (ao.o.trans al) _ aK) ?_;rintro e w5 ⟨rfl,aa⟩;unfold Lh;(try rw[hd]);obtain⟨cf,ci⟩:=aa.cells;(have z5:=aa.size);(try simp only[wZ,Tb]at z5);(have dg:w.heap.size<w5.heap.size:=oM);(have dj:w.heap.size+1<w5.heap.size:=oM);(have dm:w.heap.size+1+1<w5.heap.size:=oM);(have dq:w.heap.size<w5.heap.size+1:=oM);(have dt:w.heap.size+1<w5.heap.size+1:=oM);(have dx:w.heap.size+1+1<w5.heap.size+1:=oM))|(go_at_call 165;refine cM (an.o _ (((ao.o.trans al).trans aa).alloc _) _ ((aK.i aa).i ((eR _).alloc _))) ?_;rintro e P ⟨aL,r1,r2,ai,aj,rfl⟩;obtain⟨bI,bM,bK,bO,bJ,bN,bL,rfl⟩:=ai.form;obtain⟨bB,bF,bD,bH,bC,bG,bE,rfl⟩:=aj.form;obtain⟨cg,cj⟩:=aL.cells;(have z6:=aL.size);(try simp only[wZ,Tb]at z6);(have dh:w.heap.size<P.heap.size:=oM);(have dk:w.heap.size+1<P.heap.size:=oM);(have dn:w.heap.size+1+1<P.heap.size:=oM);(have dr:w.heap.size<P.heap.size+1:=oM);(have du:w.heap.size+1<P.heap.size+1:=oM);(have dy:w.heap.size+1+1<P.heap.size+1:=oM)));have ai:La P (.agg #[O bI bM bK,V bO,O bJ bN bL]) d.1:=ai;have aj:La P (.agg #[O bB bF bD,V bH,O bC bG bE]) d.2:=aj;obtain⟨W7,ad⟩:=gX (((P.alloc (.cells #[O bI bM bK,V bO,O bJ bN bL] 43)).alloc (.cells #[O bB bF bD,V bH,O bC bG bE] 43)));have aZ:oa P W7:=by rw[<-ad];exact((eR _).alloc _).alloc _
  have aY:oa W3 W7:=((al.trans aa).trans (((eR _).alloc _).trans aL)).trans aZ;have bc:RB W7 P.heap.size d.1:=by rw[<-ad];exact(RB.new ai rfl).ext ((eR _).alloc _)
  have bd:RB W7 (P.heap.size+1) d.2:=by rw[<-ad];exact RB.new (aj.ext ((eR _).alloc _)) sM
  have ab:=ia (aY.e bg.o);have bh:=ia (aY.e bU.o);have bj:=ia ((((aK.i aa).i ((eR _).alloc _)).i aL).i aZ);have cO:w.heap.size+1<P.heap.size:=oM;have a1:=ia (ao.o.trans aY);rw[ad];obtain⟨j,ae⟩:=gX P.heap.size;rw[ae]at bc bd cO;simp only[ae];clear ad k0 k1 k2 k3 k4 k5 k6 k7 k8 k9 co cp cq cr ct cu cv kf ce ch cf ci cg cj ae aZ ai aj;obtain⟨pa,pm,bw,bA,bv,bz,bx,x0,x1,x2,cH,cI,cJ,xz,a3⟩:=bc.rd;obtain⟨ea,em,ec,es,bo,bq,bp,y0,y1,y2,cK,cL,cN,yz,af⟩:=bd.rd;have aS:∀q∈[((⟨j,0,X⟩:Addr),Value.slice pa pm bw),(⟨j,1,X⟩,V bA),(⟨j,2,X⟩,O bv bz bx),(⟨j+1,0,X⟩,O ea em ec),(⟨j+1,1,X⟩,V es),(⟨j+1,2,X⟩,O bo bq bp)],w.heap.size+1≠q.1.block:=by
   simp;omega
  go_wp2;refine Ke [(⟨j,0,X⟩,O pa pm bw),(⟨j,1,X⟩,V bA),(⟨j,2,X⟩,O bv bz bx),(⟨j+1,0,X⟩,O ea em ec),(⟨j+1,1,X⟩,V es),(⟨j+1,2,X⟩,O bo bq bp)] cA fun f=>?_;refine sN 0 ?_
  iterate 3 refine Fc ?_
  refine oN ?_;refine sN 4 ?_
  iterate 2 refine Fc ?_
  refine oN ?_;refine sN 7 ?_
  iterate 3 refine Fc ?_
  refine oN ?_;refine sN 11 ?_
  iterate 3 refine Fc ?_
  refine oN ?_;have D0:oa W7 W7.drew:=(eR _).drew;refine Ec (i:=3) (aR.o _ (a1.o.trans D0) _ d.1 (a3.ext D0) (T.o.1.mono oM) _ (D0.e ab.o)) ?_;rintro e w8 ⟨c8,rfl,cm,bu⟩;obtain⟨fa,fm,fc,fs,aq,aw,au,fb,fn,fk,ft,ar,ay,av,rfl,aU,aV⟩:=cm;refine⟨_,rfl,(cE f bu),fun f=>?_⟩;have D8:oa W7 w8:=D0.trans bu;refine Ec (i:=6) (aR.o _ (a1.o.trans D8) _ d.2 (af.ext D8) (T.o.2.mono oM) _ (D8.e ab.o)) ?_;rintro e w9 ⟨c9,rfl,cn,a5⟩;obtain⟨aA,gm,aD,gs,aB,aG,aE,gb,aH,gk,gt,aC,aI,aF,rfl,aW,aX⟩:=cn;refine⟨_,rfl,(cE f a5),fun f=>?_⟩;have D9:oa W7 w9:=D8.trans a5;refine Ec (i:=10) (bi.o _ _ _ _ d.1 d.2 (bj.o.i D9) (a3.ext D9) (T.o.1.mono oM) (af.ext D9) (T.o.2.mono oM)) ?_;rintro e cG ⟨rfl,y⟩;refine⟨_,rfl,(cE f y),fun f=>?_⟩;have am:oa W7 cG:=D9.trans y;refine Ec (i:=14) (bi.o _ _ _ _ d.2 d.2 (bj.o.i am) (af.ext am) (T.o.2.mono oM) (af.ext am) (T.o.2.mono oM)) ?_;rintro e aQ ⟨rfl,z⟩;refine⟨_,rfl,(cE f z),fun f=>?_⟩;have be:oa W7 aQ:=am.trans z;refine Ac (i:=15) ?_;have KZ:=be.e bh.o;obtain⟨u0,u1,u2,u3,u4,u5,u6,u7,u8,u9,cx,cy,cz,cB,cC,cD,cF⟩:=Tj KZ;have uf:=Vb KZ;have zk:=jc KZ;have HZ:=ia KZ;have Hf:=ia (show Xj aQ (.agg #[O fa fm fc,V fs,O aq aw au,O fb fn fk,V ft,O ar ay av]) d.1 (Sb (za p) d.1)from((Xj.ext ⟨_,_,_,_,_,_,_,_,_,_,_,_,_,_,rfl,aU,aV⟩ a5).ext y).ext z);have Hg:=ia (show Xj aQ (.agg #[O aA gm aD,V gs,O aB aG aE,O gb aH gk,V gt,O aC aI aF]) d.2 (Sb (za p) d.2)from(Xj.ext ⟨_,_,_,_,_,_,_,_,_,_,_,_,_,_,rfl,aW,aX⟩ y).ext z);clear KZ aU aV aW aX x0 x1 x2 cH cI cJ y0 y1 y2 cK cL cN a3 af;refine Je (i:=16) fun K hK=>?_;go_simp;refine kO hK (Ca.set17 f aS _ _ _ _ _ _ _ _ _ _ _ _ _ _ _ _ _) (fun f=>?_);clear hK K;refine Ac (i:=17) ?_;refine Wd ?_;clear f aS;go_wp2;have n0:Wc 2 aQ (w.heap.size+1):=by intro cs fr e;rw[HZ.o]at e;cases e
  have EZ:=ia (a1.o.trans be);refine bR (v:=.tuple #[.agg #[Y Z b,O fa fm fc,V fs,O aq aw au,O fb fn fk,V ft,O ar ay av,O aA gm aD,V gs,O aB aG aE,O gb aH gk,V gt,O aC aI aF,Y Z (xd l d.1 d.2).1,Y Z (xd l d.1 d.2).2,Y Z (xd l d.2 d.2).1,Y Z (xd l d.2 d.2).2],V true]) (by simp[results,Tryz.results100,go_sem,zk,uf,u0,u1,u2,u3,u4,u5,u6,u7,u8,u9,cx,cy,cz,cB,cC,cD,cF]) rfl ?_;rw[<-HR.o];refine⟨nu EZ.o (Nat.le_succ _) _ _ _ _ _ _ _ _ _ _ _ _ _ _ _ _ _,.inr ⟨_,[Y Z b,O fa fm fc,V fs,O aq aw au,O fb fn fk,V ft,O ar ay av,O aA gm aD,V gs,O aB aG aE,O gb aH gk,V gt,O aC aI aF,Y Z (xd l d.1 d.2).1,Y Z (xd l d.1 d.2).2,Y Z (xd l d.2 d.2).1,Y Z (xd l d.2 d.2).2],rfl,rfl,[O fa fm fc,V fs,O aq aw au,O fb fn fk,V ft,O ar ay av],[O aA gm aD,V gs,O aB aG aE,O gb aH gk,V gt,O aC aI aF],rfl,Hf.o.keep (WA n0 _ _ _ _ _ _ _ _ _ _ _ _ _ _ _ _ _),Hg.o.keep (WA n0 _ _ _ _ _ _ _ _ _ _ _ _ _ _ _ _ _)⟩⟩
end
section
open Go.RowKit Go.Shelf Go.Sort Go.Lib
def Mq(x y:Rat):Pb x y = -1 ↔ x<y:=by
 rw[<-xl];unfold Pb;rcases Int.lt_trichotomy (x.num*y.den-y.num*x.den) 0 with h|h|h
 ·rw[Int.sign_eq_neg_one_of_neg h];decide
 ·rw[h];decide
 ·rw[Int.sign_eq_one_of_pos h];decide
def Lq(x y:Rat):Pb x y=1 ↔ y<x:=by
 rw[<-Nq];unfold Pb;rcases Int.lt_trichotomy (x.num*y.den-y.num*x.den) 0 with h|h|h
 ·rw[Int.sign_eq_neg_one_of_neg h];decide
 ·rw[h];decide
 ·rw[Int.sign_eq_one_of_pos h];decide
def Aj{q:Rat}:q.num<0 ↔ q<0:=by rw[Rat.lt_iff];simp
def Bj{q:Rat}:0<q.num ↔ 0<q:=by rw[Rat.lt_iff];simp
def Zj(o:Rat×Rat)(S:Rat->Prop):Prop:=S o.1/\S o.2/\∀x,S x->o.1<=x/\x<=o.2
def Zj.wid{o:Rat×Rat}{S:Rat->Prop}(h:Zj o S)(y:Rat):Zj (Ai o y) fun x=>S x\/x=y:=by
 obtain⟨d,f,e⟩:=h;have b:(Ai o y).1=if y<o.1 then y else o.1:=by
  show Qb (-1) o.1 y=_;unfold Qb;simp only[Mq]
 have c:(Ai o y).2=if o.2<y then y else o.2:=by
  show Qb 1 o.2 y=_;unfold Qb;simp only[Lq]
 refine⟨?_,?_,fun x a=>?_⟩
 ·rw[b];split
  ·exact .inr rfl
  ·exact .inl d
 ·rw[c];split
  ·exact .inr rfl
  ·exact .inl f
 ·rw[b,c];rcases a with a|rfl
  ·have:=e x a;constructor<;>split<;>grind
  ·have:=e _ d;constructor<;>split<;>grind
def Zj.of{o:Rat×Rat}{S a:Rat->Prop}(h:Zj o S)(e:∀x,a x ↔ S x):Zj o a:=by obtain⟨b,c,d⟩:=h;exact⟨(e _).2 b,(e _).2 c,fun x f=>d x ((e x).1 f)⟩
def tq(f:Rat->Rat)(a:List Rat)(m:Rat):Nat->Rat->Prop
 | 0,x=>x=m
 | i+1,x=>tq f a m i x\/(f (a.getD i 0)<=0/\x=a.getD i 0)\/(i≠0/\f (a.getD i 0)*f (a.getD (i-1) 0)<0/\x=Sf f (a.getD (i-1) 0) (a.getD i 0))
def Wy(x y:Rat):x.num.sign*y.num.sign<0 ↔ x*y<0:=by
 have e:x.num.sign = -1/\x<0\/x.num.sign=0/\x=0\/x.num.sign=1/\0<x:=by
  rcases Int.lt_trichotomy x.num 0 with h|h|h
  ·exact .inl ⟨Int.sign_eq_neg_one_of_neg h,Aj.1 h⟩
  ·exact .inr (.inl ⟨by rw[h];rfl,Rat.num_eq_zero.1 h⟩)
  ·exact .inr (.inr ⟨Int.sign_eq_one_of_pos h,Bj.1 h⟩)
 have f:y.num.sign = -1/\y<0\/y.num.sign=0/\y=0\/y.num.sign=1/\0<y:=by
  rcases Int.lt_trichotomy y.num 0 with h|h|h
  ·exact .inl ⟨Int.sign_eq_neg_one_of_neg h,Aj.1 h⟩
  ·exact .inr (.inl ⟨by rw[h];rfl,Rat.num_eq_zero.1 h⟩)
  ·exact .inr (.inr ⟨Int.sign_eq_one_of_pos h,Bj.1 h⟩)
 rcases e with ⟨a,b⟩|⟨a,b⟩|⟨a,b⟩<;>rcases f with ⟨c,d⟩|⟨c,d⟩|⟨c,d⟩<;>rw[a,c]
 ·have:=Rat.mul_pos (show 0 < -x by grind) (show 0 < -y by grind);exact⟨fun h=>absurd h dM,fun h=>by grind⟩
 ·rw[d,Rat.mul_zero];decide
 ·have:=Rat.mul_pos (show 0 < -x by grind) d;exact⟨fun _=>by grind,fun _=>by decide⟩
 ·rw[b,Rat.zero_mul];decide
 ·rw[b,Rat.zero_mul];decide
 ·rw[b,Rat.zero_mul];decide
 ·have:=Rat.mul_pos b (show 0 < -y by grind);exact⟨fun _=>by grind,fun _=>by decide⟩
 ·rw[d,Rat.mul_zero];decide
 ·have:=Rat.mul_pos b d;exact⟨fun h=>absurd h dM,fun h=>by grind⟩
def tq.mono{f:Rat->Rat}{a:List Rat}{m:Rat}:∀{n k:Nat}{x:Rat},tq f a m n x->n<=k->tq f a m k x
 | n,0,x,h,b=>by
  obtain rfl:n=0:=oM;exact h
 | n,k+1,x,h,b=>by
  by_cases e:n=k+1
  ·subst e;exact h
  ·exact .inl (tq.mono h oM)
end
section
open Go.RowKit Go.Shelf
end
section
open Go.RowKit Go.Shelf Go.Sort
attribute [local go_sem] Oper.semAt_some
end
section
open Go.RowKit Go.Shelf Go.Sort Go.Lib
section
variable {L U:LP} (rL:Bb L) (rU:Bb U) (nL:L≠[]) (nU:U≠[]) (h:(Ic L U).lo<(Ic L U).hi) {pin:Int} (hno:Ud (Ic L U) pin=false)
include rL rU nL nU h hno
omit hno in
end
end
section
open Go.RowKit Go.Shelf Go.Sort
attribute [local go_sem] Oper.semAt_some
