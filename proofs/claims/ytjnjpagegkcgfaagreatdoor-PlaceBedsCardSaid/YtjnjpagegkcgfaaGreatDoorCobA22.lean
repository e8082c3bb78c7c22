import Derived.Test.YtjnjpagegkcgfaaGreatDoorCobA19
set_option maxRecDepth 1000000
set_option maxHeartbeats 16000000
set_option linter.all false
open Go.Value renaming int->O,slice->Z
open Go.IntKind renaming i64->Y
open Option renaming none->X
namespace Go.Proofs.YtjnjpagegkcgfaaGreatDoor.Cop
section
open Go.RowKit Go.Shelf
attribute [local go_sem] Oper.semAt_some
def CL(w:World)(vg vs:Value)(ps:List Pl)(a:Nat)(p:Pl)(b pin:Int)(k:LP)(hg:∃a n c,vg=Z a n c)(hs:Sb w vs ps)(ha:ps[a]?=some p)(j:b<0\/∃(f:Nat)(q:Pl),b=(f:Int)/\ps[f]?=some q/\sd p q=true/\(a:Int)≠b)(z:mc (Ea p))(hT:mc k)(aB:ph k)(af:∀W,Ba w W->Calls Tryz.prog 76 #[.agg #[vg,vs],O Y b] W fun e w'=>∃v,e=.returned v/\Ja w' v k/\Ba W w')(hp:Bd 104000 pin)(ai:(Nb (Ea p) k).lo<(Nb (Ea p) k).hi)(aA:Ac (Nb (Ea p) k) pin=X):Calls Tryz.prog 72 #[.agg #[vg,vs],O Y a,O Y b,O Y pin] w (Vf w (Of p k b pin)):=by
 have aY:(a:Int)≠b:=by
  rcases j with h|⟨f,q,_,_,_,h⟩
  ·omega
  ·exact h
 obtain⟨ga,gn,gc,rfl⟩:=hg;obtain⟨sa,n,sc,rfl⟩:=La hs;have hl:=hs.len;have aX:=hs.le;obtain⟨g,o,s,vl,vu,rfl,bs,d1,d2,d3,l⟩:=hs.at' ha;have aq:=Aa (fun(W:World)(hW:Ba w W)(vt:Value)(h:Ja W vt k)=>xr W vl vt (Ea p) k (d2.f hW) h (List.length_pos_iff.2 z.1) (List.length_pos_iff.2 hT.1));have Q:=Aa (fun(W:World)(hW:Ba w W)(vt:Value)(h:Ja W vt k)=>qw W vl vt (Nb (Ea p) k) pin (d2.f hW) h (lk z hT) hp);have bj:=Aa (fun(W:World)(hW:Ba w W)(vx:Value)(x:Rat)(hx:Ab W vx x)(hb:Rb 1000 x)(bl:Nat)(aV:W.heap[bl]?=some (.cells (Je p s vl vu) 128 (0,0)))=>Sw W vx x p bl s vl vu hx hb aV (d2.f hW) z);have bo:=Aa (fun(W:World)(vt vx vr:Value)(x rt:Rat)(h:Ja W vt k)(hx:Ab W vx x)(hb:Rb 1000 x)(hr:Ab W vr rt)(aW:Rb 1000 rt)=>Jt W vt vx vr k x rt h hT aB hx hb hr aW);have aG:=Aa af;obtain⟨R,hR⟩:=gX (Vf w (Of p k b pin));rw[hR];have HR:=Aa hR;unfold Of at HR;obtain⟨sp,aa⟩:=gX (Nb (Ea p) k);rw[aa]at aq Q HR;have K:Gg sp:=aa▸lk z hT;have ay:∀o,Ac sp pin=some o->Rb 300 o.1/\Rb 300 o.2:=fun o ho=>by
  unfold Ac at ho;split at ho
  ·cases ho
  ·cases ho;have h1:Rb 300 (Ma sp).1:=(Bh K _ (by unfold Ma;exact(Nk (Tb sp) (pl sp)).1)).up dM;exact Rb.reach_n (o:=((Ma sp).1,(Ma sp).1)) ⟨h1,h1⟩ (Bh K) (fun q hq=>Rb.pin_g (Bh K q hq) K hp) _ (nE _)
 have bp:=Aa ay;unfold Hi at Q;obtain⟨ac,ae,ad,rfl⟩:=La d1;obtain⟨ak,am,al,rfl⟩:=La d2;obtain⟨aC,aE,aD,rfl⟩:=La d3;have hi:=(lS.1 ha).1;have p1:(0:Int)<=(a:Int):=oM;have p2:(a:Int)<(n:Int):=oM;have p3:a<n:=oM;have ar:=l 0 (.string p.name) rfl;have aH:=l 1 (Z ac ae ad) rfl;have aI:=l 2 (O Y p.depth) rfl;have aJ:=l 3 (O Y p.density) rfl;have aK:=l 4 (O Y p.gx) rfl;have aL:=l 5 (O Y p.gz) rfl;have aM:=l 6 (O Y p.way) rfl;have aO:=l 7 (O Y p.ax) rfl;have aP:=l 8 (O Y p.az) rfl;have aQ:=l 9 (O .u8 p.skin) rfl;have au:=l 10 (Z ak am al) rfl;have av:=l 11 (Z aC aE aD) rfl;simp only[Nat.add_zero]at ar;have bC:((a:Int)==b)=false:=by simpa using aY
 rw[aa]at ai aA;have y:=Aa (show b<0\/∃(f:Nat)(q:Pl)(v2:Value),b=(f:Int)/\f<n/\sd p q=true/\(∃a n c,v2=Z a n c)/\∀(m:Nat) u,(Dd q v2)[m]?=some u->w.cell? ⟨g,o+f*12+m,X⟩=some u from by
  rcases j with h|⟨f,q,h1,hq,h3,h4⟩
  ·exact .inl h
  ·obtain⟨b1,o1,s',b5,b6,e9,bt,aR,bq,br,d⟩:=hs.at' hq;cases e9;have bB:=(lS.1 hq).1;exact .inr ⟨f,q,s',h1,by omega,h3,La aR,fun m u hu=>d m u (qv hu)⟩)
 have bm:g<w.heap.size+1:=oM;have bn:g<w.heap.size+1+1:=oM;clear j hs ha l d1 d2 d3 hl aX hi af hR ay aa K hT aB z hp;go_in;go_upto_region 2 with fail;go_cut [40] (ry w (Z ga gn gc) (Z (some ⟨g,o,X⟩) n sc) (Je p (Z ac ae ad) (Z ak am al) (Z aC aE aD)))
 case first =>
  rcases y.o with hb|⟨f,q,v2,aU,r4,aw,⟨an,ap,ao,rfl⟩,d⟩
  ·have aT:¬0<=b:=oM;have aS:decide ((0:Int)<=b)=false:=by simp;omega
   refine Kc [] trivial fun ah=>?_;refine sN 0 ?_
   iterate 7 refine xb ?_
   iterate 10 refine Ee ?_
   iterate 2 refine xb ?_
   refine oN ?_;refine Wb ?_;go_wp2;go_meet;exact⟨rfl,((((eR w).alloc _).alloc _).alloc _).drew,((((eR _).alloc _).alloc _).drew).e (aN w _),(((eR _).alloc _).drew).e (Ec _ _ _ sM),((eR _).drew).e (Ec _ _ _ sM)⟩
  ·subst aU;have aT:(0:Int)<=(f:Int):=oM;have aS:decide ((0:Int)<=(f:Int))=true:=sM;have r2:(f:Int)<(n:Int):=oM;have a8:=d 0 (.string q.name) rfl;have bK:=d 1 (Z an ap ao) rfl;have bL:=d 2 (O Y q.depth) rfl;have bM:=d 3 (O Y q.density) rfl;have bN:=d 4 (O Y q.gx) rfl;have bO:=d 5 (O Y q.gz) rfl;have bP:=d 6 (O Y q.way) rfl;have bQ:=d 7 (O Y q.ax) rfl;have bT:=d 8 (O Y q.az) rfl;have bU:=d 9 (O .u8 q.skin) rfl;simp only[Nat.add_zero]at a8;have ag:=Aa (fun(W:World)=>Tp W p q (Z ac ae ad) (Z an ap ao) ⟨_,_,_,rfl⟩ ⟨_,_,_,rfl⟩);rw[aw]at ag;unfold Dd at ag;clear d aw;refine Kc [(⟨w.heap.size+1+1,0,X⟩,.string p.name),(⟨w.heap.size+1+1,1,X⟩,Z ac ae ad),(⟨w.heap.size+1+1,2,X⟩,O Y p.depth),(⟨w.heap.size+1+1,3,X⟩,O Y p.density),(⟨w.heap.size+1+1,4,X⟩,O Y p.gx),(⟨w.heap.size+1+1,5,X⟩,O Y p.gz),(⟨w.heap.size+1+1,6,X⟩,O Y p.way),(⟨w.heap.size+1+1,7,X⟩,O Y p.ax),(⟨w.heap.size+1+1,8,X⟩,O Y p.az),(⟨w.heap.size+1+1,9,X⟩,O .u8 p.skin),(⟨w.heap.size,1,X⟩,Z (some ⟨g,o,X⟩) n sc),(⟨g,o+f*12,X⟩,.string q.name),(⟨g,o+f*12+1,X⟩,Z an ap ao),(⟨g,o+f*12+2,X⟩,O Y q.depth),(⟨g,o+f*12+3,X⟩,O Y q.density),(⟨g,o+f*12+4,X⟩,O Y q.gx),(⟨g,o+f*12+5,X⟩,O Y q.gz),(⟨g,o+f*12+6,X⟩,O Y q.way),(⟨g,o+f*12+7,X⟩,O Y q.ax),(⟨g,o+f*12+8,X⟩,O Y q.az),(⟨g,o+f*12+9,X⟩,O .u8 q.skin)] cA fun ah=>?_;refine sN 0 ?_
   iterate 15 refine xb ?_
   refine oN ?_;refine Ub (i:=15) (ag.o _) ?_;rintro e w3 ⟨rfl,P⟩;refine⟨_,rfl,(cE ah P),fun ah=>?_⟩;refine sN 16 ?_
   iterate 3 refine xb ?_
   refine oN ?_;refine Wb ?_;go_wp2;go_meet;exact⟨rfl,((((eR w).alloc _).alloc _).alloc _).drew.trans P,P.e (((((eR _).alloc _).alloc _).drew).e (aN w _)),P.e ((((eR _).alloc _).drew).e (Ec _ _ _ sM)),P.e (((eR _).drew).e (Ec _ _ _ sM))⟩
 case rest =>
  obtain⟨rfl,X3,K4,K8,T⟩:=hcut;obtain⟨W3,rfl⟩:∃W,W=wc:=⟨_,rfl⟩;have z3:w.heap.size+1+1<W3.heap.size:=Gb T;have b7:w.heap.size<W3.heap.size:=oM;have b8:w.heap.size+1<W3.heap.size:=oM;clear y ar aH aI aJ aK aL aM aO aP aQ au av;have s0:=Ca K4 (i:=0) (u:=Z ga gn gc) rfl;have s1:=Ca K4 (i:=1) (u:=Z (some ⟨g,o,X⟩) n sc) rfl;have bD:=Ca T (i:=10) (u:=Z ak am al) rfl;obtain⟨k0,k1,k2,k3,k4,k5,k6,k7,k8,k9,a1,a2,a3,a4,a5,a6,a7⟩:=BS K8;have kf:=Ua K8;have aF:=Aa K8;have bk:=Aa T;have S:=Aa X3;clear K4 K8 T X3;have hd:decide (sp.lo<sp.hi)=true:=by simp[ai]
  rw[if_pos ai]at HR;rw[aA]at Q HR;go_wp2_with(first|(go_at_call 76;refine cM (aG.o _ S.o) ?_;rintro e w4 ⟨vt,rfl,aj,r⟩;obtain⟨ta,tn,tc,rfl⟩:=La aj;obtain⟨bu,bx⟩:=r.cells;(have z4:=r.size);(try simp only[wZ,Cc]at z4);(have b9:w.heap.size<w4.heap.size:=oM);(have cc:w.heap.size+1<w4.heap.size:=oM);(have ce:w.heap.size+1+1<w4.heap.size:=oM);(have ch:w.heap.size<w4.heap.size+1:=oM);(have ck:w.heap.size+1<w4.heap.size+1:=oM);(have cm:w.heap.size+1+1<w4.heap.size+1:=oM))|(go_at_call 58;refine cM (aq.o _ (S.o.trans r) _ aj) ?_;rintro e w5 ⟨rfl,t⟩;unfold Hi;(try rw[hd]);obtain⟨bv,bz⟩:=t.cells;(have z5:=t.size);(try simp only[wZ,Cc]at z5);(have ca:w.heap.size<w5.heap.size:=oM);(have cd:w.heap.size+1<w5.heap.size:=oM);(have cf:w.heap.size+1+1<w5.heap.size:=oM);(have ci:w.heap.size<w5.heap.size+1:=oM);(have cl:w.heap.size+1<w5.heap.size+1:=oM);(have cn:w.heap.size+1+1<w5.heap.size+1:=oM))|(go_at_call 143;refine cM (Q.o _ (((S.o.trans r).trans t).alloc _) _ ((aj.f t).f ((eR _).alloc _))) ?_;rintro e w6 ⟨ab,r1,r2,aZ,a0,rfl⟩;obtain⟨bW,b2,bY,b4,bX,b3,bZ,rfl⟩:=aZ.form;obtain⟨bE,bI,bG,bV,bF,bJ,bH,rfl⟩:=a0.form;obtain⟨bw,bA⟩:=ab.cells;(have z6:=ab.size);(try simp only[wZ,Cc]at z6);(have cb:w.heap.size<w6.heap.size:=oM);(have bh:w.heap.size+1<w6.heap.size:=oM);(have cg:w.heap.size+1+1<w6.heap.size:=oM);(have cj:w.heap.size<w6.heap.size+1:=oM);(have bi:w.heap.size+1<w6.heap.size+1:=oM);(have co:w.heap.size+1+1<w6.heap.size+1:=oM)));have KZ:=ab.e (((eR _).alloc _).e (t.e (r.e aF.o)));obtain⟨u0,u1,u2,u3,u4,u5,u6,u7,u8,u9,a9,ba,bb,bc,be,bf,bg⟩:=BS KZ;have uf:=Ua KZ;have zk:=Gb KZ;have EZ:Ba w w6:=(((S.o.trans r).trans t).alloc _).trans ab;clear k0 k1 k2 k3 k4 k5 k6 k7 k8 k9 a1 a2 a3 a4 a5 a6 a7 kf KZ;refine bR (v:=.tuple #[.agg Yj,.bool false]) (by unfold Yj;simp[results,Tryz.results72,go_sem,zk,uf,bi,bh,u0,u1,u2,u3,u4,u5,u6,u7,u8,u9,a9,ba,bb,bc,be,bf,bg]) rfl ?_;rw[<-HR.o];exact⟨((vw EZ (Nat.le_succ _) _ _ _ _ _ _ _ _ _ _ _ _ _ _ _ _ _).alloc _).alloc _,.inl ⟨rfl,rfl⟩⟩
