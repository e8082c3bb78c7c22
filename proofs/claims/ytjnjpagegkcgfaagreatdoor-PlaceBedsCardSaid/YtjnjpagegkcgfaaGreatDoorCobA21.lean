import Derived.Test.YtjnjpagegkcgfaaGreatDoorCobA19
set_option maxRecDepth 1000000
set_option maxHeartbeats 16000000
set_option linter.all false
open Go.Value renaming int->O,slice->Z
open Go.IntKind renaming i64->Y
open Option renaming none->X
namespace Go.Proofs.YtjnjpagegkcgfaaGreatDoor.Cop
section
open Go.RowKit Go.Shelf
attribute [local go_sem] Oper.semAt_some
def BL(w:World)(vg vs:Value)(ps:List Pl)(a:Nat)(p:Pl)(b pin:Int)(k:LP)(hg:∃a n c,vg=Z a n c)(hs:Sb w vs ps)(ha:ps[a]?=some p)(j:b<0\/∃(f:Nat)(q:Pl),b=(f:Int)/\ps[f]?=some q/\sd p q=true/\(a:Int)≠b)(t:mc (Ea p))(hT:mc k)(aw:ph k)(ac:∀W,Ba w W->Calls Tryz.prog 76 #[.agg #[vg,vs],O Y b] W fun e w'=>∃v,e=.returned v/\Ja w' v k/\Ba W w')(hp:Bd 104000 pin)(ar:¬(Nb (Ea p) k).lo<(Nb (Ea p) k).hi):Calls Tryz.prog 72 #[.agg #[vg,vs],O Y a,O Y b,O Y pin] w (Vf w (Of p k b pin)):=by
 have aW:(a:Int)≠b:=by
  rcases j with h|⟨f,q,_,_,_,h⟩
  ·omega
  ·exact h
 obtain⟨ga,gn,gc,rfl⟩:=hg;obtain⟨sa,n,sc,rfl⟩:=La hs;have hl:=hs.len;have aV:=hs.le;obtain⟨g,o,s,vl,vu,rfl,bn,d1,d2,d3,l⟩:=hs.at' ha;have am:=Aa (fun(W:World)(hW:Ba w W)(vt:Value)(h:Ja W vt k)=>xr W vl vt (Ea p) k (d2.f hW) h (List.length_pos_iff.2 t.1) (List.length_pos_iff.2 hT.1));have an:=Aa (fun(W:World)(hW:Ba w W)(vt:Value)(h:Ja W vt k)=>qw W vl vt (Nb (Ea p) k) pin (d2.f hW) h (lk t hT) hp);have be:=Aa (fun(W:World)(hW:Ba w W)(vx:Value)(x:Rat)(hx:Ab W vx x)(hb:Rb 1000 x)(bl:Nat)(aT:W.heap[bl]?=some (.cells (Je p s vl vu) 128 (0,0)))=>Sw W vx x p bl s vl vu hx hb aT (d2.f hW) t);have bi:=Aa (fun(W:World)(vt vx vr:Value)(x rt:Rat)(h:Ja W vt k)(hx:Ab W vx x)(hb:Rb 1000 x)(hr:Ab W vr rt)(aU:Rb 1000 rt)=>Jt W vt vx vr k x rt h hT aw hx hb hr aU);have aE:=Aa ac;obtain⟨R,hR⟩:=gX (Vf w (Of p k b pin));rw[hR];have HR:=Aa hR;unfold Of at HR;obtain⟨sp,Q⟩:=gX (Nb (Ea p) k);rw[Q]at am an HR;have y:Gg sp:=Q▸lk t hT;have av:∀o,Ac sp pin=some o->Rb 300 o.1/\Rb 300 o.2:=fun o ho=>by
  unfold Ac at ho;split at ho
  ·cases ho
  ·cases ho;have h1:Rb 300 (Ma sp).1:=(Bh y _ (by unfold Ma;exact(Nk (Tb sp) (pl sp)).1)).up dM;exact Rb.reach_n (o:=((Ma sp).1,(Ma sp).1)) ⟨h1,h1⟩ (Bh y) (fun q hq=>Rb.pin_g (Bh y q hq) y hp) _ (nE _)
 have bj:=Aa av;unfold Hi at an;obtain⟨T,ab,aa,rfl⟩:=La d1;obtain⟨ag,ai,ah,rfl⟩:=La d2;obtain⟨aA,aC,aB,rfl⟩:=La d3;have hi:=(lS.1 ha).1;have p1:(0:Int)<=(a:Int):=oM;have p2:(a:Int)<(n:Int):=oM;have p3:a<n:=oM;have ao:=l 0 (.string p.name) rfl;have aF:=l 1 (Z T ab aa) rfl;have aG:=l 2 (O Y p.depth) rfl;have aH:=l 3 (O Y p.density) rfl;have aI:=l 4 (O Y p.gx) rfl;have aJ:=l 5 (O Y p.gz) rfl;have aK:=l 6 (O Y p.way) rfl;have aL:=l 7 (O Y p.ax) rfl;have aM:=l 8 (O Y p.az) rfl;have aO:=l 9 (O .u8 p.skin) rfl;have ap:=l 10 (Z ag ai ah) rfl;have aq:=l 11 (Z aA aC aB) rfl;simp only[Nat.add_zero]at ao;have bu:((a:Int)==b)=false:=by simpa using aW
 rw[Q]at ar;have r:=Aa (show b<0\/∃(f:Nat)(q:Pl)(v2:Value),b=(f:Int)/\f<n/\sd p q=true/\(∃a n c,v2=Z a n c)/\∀(m:Nat) u,(Dd q v2)[m]?=some u->w.cell? ⟨g,o+f*12+m,X⟩=some u from by
  rcases j with h|⟨f,q,h1,hq,h3,h4⟩
  ·exact .inl h
  ·obtain⟨b1,o1,s',bG,bH,e9,bo,aP,bk,bm,d⟩:=hs.at' hq;cases e9;have bt:=(lS.1 hq).1;exact .inr ⟨f,q,s',h1,by omega,h3,La aP,fun m u hu=>d m u (qv hu)⟩)
 have bg:g<w.heap.size+1:=oM;have bh:g<w.heap.size+1+1:=oM;clear j hs ha l d1 d2 d3 hl aV hi ac hR av Q y hT aw t hp;go_in;go_upto_region 2 with fail;go_cut [40] (ry w (Z ga gn gc) (Z (some ⟨g,o,X⟩) n sc) (Je p (Z T ab aa) (Z ag ai ah) (Z aA aC aB)))
 case first =>
  rcases r.o with hb|⟨f,q,v2,aS,r4,au,⟨aj,al,ak,rfl⟩,d⟩
  ·have aR:¬0<=b:=oM;have aQ:decide ((0:Int)<=b)=false:=by simp;omega
   refine Kc [] trivial fun af=>?_;refine sN 0 ?_
   iterate 7 refine xb ?_
   iterate 10 refine Ee ?_
   iterate 2 refine xb ?_
   refine oN ?_;refine Wb ?_;go_wp2;go_meet;exact⟨rfl,((((eR w).alloc _).alloc _).alloc _).drew,((((eR _).alloc _).alloc _).drew).e (aN w _),(((eR _).alloc _).drew).e (Ec _ _ _ sM),((eR _).drew).e (Ec _ _ _ sM)⟩
  ·subst aS;have aR:(0:Int)<=(f:Int):=oM;have aQ:decide ((0:Int)<=(f:Int))=true:=sM;have r2:(f:Int)<(n:Int):=oM;have a4:=d 0 (.string q.name) rfl;have bw:=d 1 (Z aj al ak) rfl;have bx:=d 2 (O Y q.depth) rfl;have bz:=d 3 (O Y q.density) rfl;have bA:=d 4 (O Y q.gx) rfl;have bB:=d 5 (O Y q.gz) rfl;have bC:=d 6 (O Y q.way) rfl;have bD:=d 7 (O Y q.ax) rfl;have bE:=d 8 (O Y q.az) rfl;have bF:=d 9 (O .u8 q.skin) rfl;simp only[Nat.add_zero]at a4;have ad:=Aa (fun(W:World)=>Tp W p q (Z T ab aa) (Z aj al ak) ⟨_,_,_,rfl⟩ ⟨_,_,_,rfl⟩);rw[au]at ad;unfold Dd at ad;clear d au;refine Kc [(⟨w.heap.size+1+1,0,X⟩,.string p.name),(⟨w.heap.size+1+1,1,X⟩,Z T ab aa),(⟨w.heap.size+1+1,2,X⟩,O Y p.depth),(⟨w.heap.size+1+1,3,X⟩,O Y p.density),(⟨w.heap.size+1+1,4,X⟩,O Y p.gx),(⟨w.heap.size+1+1,5,X⟩,O Y p.gz),(⟨w.heap.size+1+1,6,X⟩,O Y p.way),(⟨w.heap.size+1+1,7,X⟩,O Y p.ax),(⟨w.heap.size+1+1,8,X⟩,O Y p.az),(⟨w.heap.size+1+1,9,X⟩,O .u8 p.skin),(⟨w.heap.size,1,X⟩,Z (some ⟨g,o,X⟩) n sc),(⟨g,o+f*12,X⟩,.string q.name),(⟨g,o+f*12+1,X⟩,Z aj al ak),(⟨g,o+f*12+2,X⟩,O Y q.depth),(⟨g,o+f*12+3,X⟩,O Y q.density),(⟨g,o+f*12+4,X⟩,O Y q.gx),(⟨g,o+f*12+5,X⟩,O Y q.gz),(⟨g,o+f*12+6,X⟩,O Y q.way),(⟨g,o+f*12+7,X⟩,O Y q.ax),(⟨g,o+f*12+8,X⟩,O Y q.az),(⟨g,o+f*12+9,X⟩,O .u8 q.skin)] cA fun af=>?_;refine sN 0 ?_
   iterate 15 refine xb ?_
   refine oN ?_;refine Ub (i:=15) (ad.o _) ?_;rintro e w3 ⟨rfl,z⟩;refine⟨_,rfl,(cE af z),fun af=>?_⟩;refine sN 16 ?_
   iterate 3 refine xb ?_
   refine oN ?_;refine Wb ?_;go_wp2;go_meet;exact⟨rfl,((((eR w).alloc _).alloc _).alloc _).drew.trans z,z.e (((((eR _).alloc _).alloc _).drew).e (aN w _)),z.e ((((eR _).alloc _).drew).e (Ec _ _ _ sM)),z.e (((eR _).drew).e (Ec _ _ _ sM))⟩
 case rest =>
  obtain⟨rfl,X3,K4,K8,P⟩:=hcut;obtain⟨W3,rfl⟩:∃W,W=wc:=⟨_,rfl⟩;have z3:w.heap.size+1+1<W3.heap.size:=Gb P;have bI:w.heap.size<W3.heap.size:=oM;have bJ:w.heap.size+1<W3.heap.size:=oM;clear r ao aF aG aH aI aJ aK aL aM aO ap aq;have s0:=Ca K4 (i:=0) (u:=Z ga gn gc) rfl;have s1:=Ca K4 (i:=1) (u:=Z (some ⟨g,o,X⟩) n sc) rfl;have bv:=Ca P (i:=10) (u:=Z ag ai ah) rfl;obtain⟨k0,k1,k2,k3,k4,k5,k6,k7,k8,k9,aX,aY,aZ,a0,a1,a2,a3⟩:=BS K8;have kf:=Ua K8;have aD:=Aa K8;have bf:=Aa P;have ae:=Aa X3;clear K4 K8 P X3;have hd:decide (sp.lo<sp.hi)=false:=by simp[ar]
  rw[if_neg oM]at HR;go_wp2_with(first|(go_at_call 76;refine cM (aE.o _ ae.o) ?_;rintro e w4 ⟨vt,rfl,ay,K⟩;obtain⟨ta,tn,tc,rfl⟩:=La ay;obtain⟨bp,br⟩:=K.cells;(have z4:=K.size);(try simp only[wZ,Cc]at z4);(have bK:w.heap.size<w4.heap.size:=oM);(have bM:w.heap.size+1<w4.heap.size:=oM);(have bN:w.heap.size+1+1<w4.heap.size:=oM);(have bP:w.heap.size<w4.heap.size+1:=oM);(have bT:w.heap.size+1<w4.heap.size+1:=oM);(have bV:w.heap.size+1+1<w4.heap.size+1:=oM))|(go_at_call 58;refine cM (am.o _ (ae.o.trans K) _ ay) ?_;rintro e w5 ⟨rfl,S⟩;unfold Hi;(try rw[hd]);obtain⟨bq,bs⟩:=S.cells;(have z5:=S.size);(try simp only[wZ,Cc]at z5);(have bL:w.heap.size<w5.heap.size:=oM);(have bc:w.heap.size+1<w5.heap.size:=oM);(have bO:w.heap.size+1+1<w5.heap.size:=oM);(have bQ:w.heap.size<w5.heap.size+1:=oM);(have bU:w.heap.size+1<w5.heap.size+1:=oM);(have bW:w.heap.size+1+1<w5.heap.size+1:=oM)));have KZ:=S.e (K.e aD.o);obtain⟨u0,u1,u2,u3,u4,u5,u6,u7,u8,u9,a5,a6,a7,a8,a9,ba,bb⟩:=BS KZ;have uf:=Ua KZ;have zk:=Gb KZ;have EZ:Ba w w5:=(ae.o.trans K).trans S;clear k0 k1 k2 k3 k4 k5 k6 k7 k8 k9 aX aY aZ a0 a1 a2 a3 kf KZ;refine bR (v:=.tuple #[.agg Yj,.bool false]) (by unfold Yj;simp[results,Tryz.results72,go_sem,zk,uf,bc,u0,u1,u2,u3,u4,u5,u6,u7,u8,u9,a5,a6,a7,a8,a9,ba,bb]) rfl ?_;rw[<-HR.o];exact⟨(vw EZ (Nat.le_succ _) _ _ _ _ _ _ _ _ _ _ _ _ _ _ _ _ _).alloc _,.inl ⟨rfl,rfl⟩⟩
