/- Part 17. -/
import Derived.Test.YtjnjpagegkcgfaaGreatDoorCosA15
set_option maxRecDepth 1000000
set_option maxHeartbeats 16000000
set_option linter.unusedSimpArgs false
set_option linter.unusedVariables false
open Go.Value renaming slice->O,int->Y
open Go.IntKind renaming i64->Z
open Go.Obj renaming cells->X
open Go renaming Value->V,World->I
namespace Go.Proofs.YtjnjpagegkcgfaaGreatDoor.Cop
section
open Go.RowKit Go.Shelf
theorem zg8(W:I)(x z b c:Int)(T:TypeId):∀(j:Nat) u,[pc (x,z),pc (b,c)].flatten[j]?=some u->(W.alloc (X #[Y Z x,Y Z z,Y Z b,Y Z c] T)).cell? ((⟨W.heap.size,0,none⟩:Addr).add j)=some u:=by
 intro j u a
 match j,a with
 | 0,a=>simp[pc]at a;subst a;simp[Addr.add]
 | 1,a=>simp[pc]at a;subst a;simp[Addr.add]
 | 2,a=>simp[pc]at a;subst a;simp[Addr.add]
 | 3,a=>simp[pc]at a;subst a;simp[Addr.add]
 | j+4,a=>simp[pc]at a
theorem zjZ(x z a b:Int):∀u∈[pc (x,z),pc (a,b)].flatten,u.oneCell'=true:=zfE (ps:=[(x,z),(a,b)])
def OuS(w:I)(base:Nat)(p:Pl)(v:V)(cs:LP)(b:V)(g:Nat)(a:V)(W:I):Prop:=
 ∃(i:Nat)(c d:V),i<=cs.length/\a=Y Z i/\g=cs.length-i/\OuW w base p v (lowRaw cs i) (upRaw cs i) c d W/\OwnC 43 2 W (w.heap.size+1+1+1) b (cs.map pc)
theorem ziJ{W w':I}{base s:Nat}{a v:V}{cs:List (List V)}{L:List (List V)}(h:OwnC 43 2 W (s+1) a cs)(c:∀j,a.ownBlock=some j->j<base)(f:OwnC 43 2 W base v L)(d:W.grownBy w' v.ownBlock)(k:Nat)(u:V) :
  OwnC 43 2 (w'.setCell ⟨s,k,none⟩ u) (s+1) a cs:=by
 refine OwnC.setOther (h.grown d ?_) (fun e=>?_) _
 ·cases e:a.ownBlock with
  | none=>exact .inl rfl
  | some j=>exact .inr (fun b=>by have:=(f.lt _ b.symm).1;have:=c _ e;omega)
 ·have:=(h.lt _ e).1
  dsimp only at this;omega
theorem zfC(w:I)(p:Pl)(v:V)(h:IsPts w v p.shape)(aH:placedOk p=true)(hg:Gw w)(hL:lowRaw (cornersP p) (cornersP p).length≠[])(hU:upRaw (cornersP p) (cornersP p).length≠[]) :
  Calls Tryz.prog 50 #[.agg (plc p v)] w (RetO w p v):=by
 obtain⟨a,c,rfl⟩:=h.form;obtain⟨aF,aT,au⟩:=zaK aH;have ap:=fun W (hW:Ext w W)=>zdv W p _ (h.ext' hW) aH (hg.ext hW)
 obtain⟨cs,aG⟩:=gX (cornersP p);obtain⟨pn,a8⟩:=gX p.shape.length;rw[a8]at ap h ⊢;obtain⟨R,hR⟩:=gX (RetO w p (O a pn c));rw[hR];have HR:=hd9 hR;rw[aG]at ap aF aT au hL hU;obtain⟨n,hn⟩:=gX cs.length;rw[hn]at aT au hL hU;have bk:=hd9 ap;have aM:=hd9 aF;have K:=hd9 hn;have aO:=hd9 aG;have HL:=hd9 hL;have HU:=hd9 hU;clear ap aF hn aG hR aH a8 h hL hU;obtain⟨P,hP⟩:=gX p;obtain⟨nm,ps,d,de,gx,gz,wy,ax,az,sk⟩:=p;unfold plc at *;dsimp only at *;have HP:=hd9 hP;clear hP;go_enter Tryz.func50,Tryz.ntmps50
 go_wp2_with(((go_at_call 84;(with_reducible refine(bk.out _ ?_).mono ?_);exact eA;rintro e w1 ⟨v1,rfl,ai,ak⟩;obtain⟨a1,n1,c1,rfl⟩:=ai.form3;obtain rfl:n=n1:=(by have h9:=ai.len;rw[lL,K.out]at h9;exact h9.symm);obtain⟨⟨bt,bw⟩,bc,be,aB⟩:=cK3 w ak)))
 obtain⟨base,aa⟩:=gX w1.heap.size;have bb:Ext w w1:=eA;have bs:w.heap.size+1+1<base:=by rw[<-aa];exact aB
 have av:∀j,(Value.slice a1 n c1).ownBlock=some j->j<base:=fun j hj=>by rw[<-aa];exact(ai.lt j hj).2
 have K0:=ak.heapS (k:=w.heap.size) (by rw[zaf,if_neg (by simp;omega),zaf,if_neg sM];exact qhA _ _ _ rfl);have K1:=ak.heapS (k:=w.heap.size+1) (by rw[zaf,if_neg sM];exact qhA _ _ _ sM);have K2:=ak.heapS (k:=w.heap.size+1+1) (qhA _ _ _ sM)
 have aR:OuW w base ⟨nm,ps,d,de,gx,gz,wy,ax,az,sk⟩ (O a pn c) [] [] (O none 0 0) (O none 0 0) w1:=
  ⟨bb,bs,by omega,K0,K1,K2,OwnC.nil _ _ _ _,OwnC.nil _ _ _ _,fun j hj=>by cases hj⟩
 have aA:OwnC 43 2 w1 (w.heap.size+1+1+1) (O a1 n c1) (cs.map pc):=ai.mono sM;have aK:=hd9 aR;have aP:=hd9 aA;have aq:=hd9 av;clear K0 K1 K2 aR aA av ai ak bt bw bc be aB aa bb
 go_loopg [18] n (OuS w base ⟨nm,ps,d,de,gx,gz,wy,ax,az,sk⟩ (O a pn c) cs (O a1 n c1))
 case atStart=>exact⟨0,_,_,by omega,rfl,by rw[K.out];rfl,aK.out,aP.out⟩
 case round =>
  clear aK aP;obtain⟨i,vl,vu,hi,rfl,rfl,hO,aw⟩:=hrel;rw[K.out]at hi;have br:=hO;obtain⟨h1,_,h3,h4,h5,h6,h7,h8,h9⟩:=br;obtain⟨la,ln,lc,rfl⟩:=h7.form3;obtain⟨ua,un,uc,rfl⟩:=h8.form3;have bG:=qcB h6 (i:=10) (u:=O la ln lc) rfl;have bH:=qcB h6 (i:=11) (u:=O ua un uc) rfl;have z6:=zaa h6;have bQ:w.heap.size+1+1<wr.heap.size+1:=oM
  have bT:w.heap.size+1+1<wr.heap.size+1+1:=oM
  have HO:=hd9 hO;have y:=hd9 aw;have aJ:=zj6 cs i;clear h1 h3 h4 h5 h6 h7 h8 h9 hO aw
  by_cases bO:i<n
  ·obtain⟨⟨x,z⟩,hq⟩:∃q,cs[i]?=some q:=⟨cs[i]'(by rw[K.out];omega),by simp⟩
   obtain⟨k,hk⟩:=gX ((i+1) % n);have bN:k<n:=by rw[<-hk];exact Nat.mod_lt _ oM
   obtain⟨⟨D,z'⟩,aI⟩:∃q,cs[k]?=some q:=⟨cs[k]'(by rw[K.out];omega),by simp⟩;have hm:((i:Int)+1) % (n:Int)=(k:Int):=by rw[<-hk];simp
   obtain⟨b,o,rfl,hb,d0,d1⟩:=(y.out.pts).at' hq;obtain⟨b',o',e',bM,d2,d3⟩:=(y.out.pts).at' aI
   cases e'
   have hE:edgeLow cs i=(if x<D then [(x,z),(D,z')]else [])/\edgeUp cs i=(if D<x then [(x,z),(D,z')]else []):=by
    unfold edgeLow edgeUp;rw[K.out,hk,gD,gD,hq,aI];exact⟨rfl,rfl⟩
   have HE:=hd9 hE;have p1:(0:Int)<=(i:Int):=oM
   have p2:(i:Int)<(n:Int):=oM
   have p3:(0:Int)<=(k:Int):=oM
   have p4:(k:Int)<(n:Int):=oM
   have p5:(0:Int)<(n:Int):=oM
   have ay:((lowRaw cs i).map pc).length+2<=100000000000/\((upRaw cs i).map pc).length+2<=100000000000:=by rw[lL,lL];omega
   have ar:=hd9 ay;clear hq aI hE hk ay aJ
   by_cases t1:x<D
   ·have g:=HE.out.1
    have l:=HE.out.2;rw[if_pos t1]at g;rw[if_neg oM]at l;have ac:=hd9 g;have ae:=hd9 l;clear g l;have X5:Ext wr (((wr.alloc (X #[Y Z x,Y Z z] 43)).alloc (X #[Y Z D,Y Z z'] 43)).alloc (X #[Y Z x,Y Z z,Y Z D,Y Z z'] 43)):=(((eR wr).alloc _).alloc _).alloc _;have r:=HO.out.ext X5;have aj:=r.2.2.2.2.2.2;have ag:=r.2.2.1;have aC:=hd9 r.2.2.2.2.2.1;have aD:=hd9 r;have Q:=hd9 aj.1;clear r aj
    go_wp2_with(at_builtin;refine appC (T:=43) (t:=121) (z:=.agg #[Y Z 0,Y Z 0]) (k:=2) (bytes:=16) (base:=base) (v:=O la ln lc) (cs:=(lowRaw cs i).map pc) (m:=2) (c:=2) (ad:=⟨wr.heap.size+1+1,0,none⟩) zbE rfl dM dM Tryz.underlying121 rfl _ _ rfl rfl Q.out rfl [pc (x,z),pc (D,z')] rfl (by simp[pc]) (by simpa using zg8 ((wr.alloc (X #[Y Z x,Y Z z] 43)).alloc (X #[Y Z D,Y Z z'] 43)) x z D z' 43) (zjZ _ _ _ _) ar.out.1 ag ?_;intro v' w5 s f ah;obtain⟨a5,n5,c5,rfl⟩:=s.form3;have E5:=zah f aC.out (fun e=>by have:=(Q.out.lt _ e.symm).1;omega);have c9:=qcB E5 (i:=10) (u:=O la ln lc) rfl;have f9:=qfB E5 10)
    go_roundg (n-(i+1))
    case measure=>have:=K.out;omega
    case rel =>
     refine⟨i+1,O a5 n5 c5,O ua un uc,by have:=K.out;omega,by go_num,by rw[K.out],?_,ziJ (y.out.ext X5) aq.out Q.out f _ _⟩;rw[zbG,zcc,ac.out,ae.out,List.append_nil];exact OuW.setLow aD.out f (by rw[List.map_append];exact s) ah
   ·by_cases t2:D<x
    ·have k1:D<=x:=oM
     have g:=HE.out.1;have l:=HE.out.2;rw[if_neg t1]at g;rw[if_pos t2]at l;have ac:=hd9 g;have ae:=hd9 l;clear t1 g l;have X5:Ext wr (((wr.alloc (X #[Y Z x,Y Z z] 43)).alloc (X #[Y Z D,Y Z z'] 43)).alloc (X #[Y Z x,Y Z z,Y Z D,Y Z z'] 43)):=(((eR wr).alloc _).alloc _).alloc _;have r:=HO.out.ext X5;have aj:=r.2.2.2.2.2.2;have ag:=r.2.2.1;have aC:=hd9 r.2.2.2.2.2.1;have aD:=hd9 r;have Q:=hd9 aj.2.1;clear r aj
     go_wp2_with(at_builtin;refine appC (T:=43) (t:=121) (z:=.agg #[Y Z 0,Y Z 0]) (k:=2) (bytes:=16) (base:=base) (v:=O ua un uc) (cs:=(upRaw cs i).map pc) (m:=2) (c:=2) (ad:=⟨wr.heap.size+1+1,0,none⟩) zbE rfl dM dM Tryz.underlying121 rfl _ _ rfl rfl Q.out rfl [pc (x,z),pc (D,z')] rfl (by simp[pc]) (by simpa using zg8 ((wr.alloc (X #[Y Z x,Y Z z] 43)).alloc (X #[Y Z D,Y Z z'] 43)) x z D z' 43) (zjZ _ _ _ _) ar.out.2 ag ?_;intro v' w5 s f ah;obtain⟨a5,n5,c5,rfl⟩:=s.form3;have E5:=zah f aC.out (fun e=>by have:=(Q.out.lt _ e.symm).1;omega);have c9:=qcB E5 (i:=11) (u:=O ua un uc) rfl;have f9:=qfB E5 11)
     go_roundg (n-(i+1))
     case measure=>have:=K.out;omega
     case rel =>
      refine⟨i+1,O la ln lc,O a5 n5 c5,by have:=K.out;omega,by go_num,by rw[K.out],?_,ziJ (y.out.ext X5) aq.out Q.out f _ _⟩;rw[zbG,zcc,ac.out,ae.out,List.append_nil];exact OuW.setUp aD.out f (by rw[List.map_append];exact s) ah
    ·have k1:D<=x:=oM
     have k2:x<=D:=oM
     have g:=HE.out.1;have l:=HE.out.2;rw[if_neg t1]at g;rw[if_neg t2]at l;have ac:=hd9 g;have ae:=hd9 l;clear t1 t2 g l;go_wp2
     go_roundg (n-(i+1))
     case measure=>have:=K.out;omega
     case rel =>
      refine⟨i+1,O la ln lc,O ua un uc,by have:=K.out;omega,by go_num,by rw[K.out],?_,y.out.ext eA⟩;rw[zbG,zcc,ac.out,ae.out,List.append_nil,List.append_nil];exact HO.out.ext eA
  ·obtain rfl:i=n:=oM
   have hO:=HO.out;have ab:=zfJ aM.out (i:=i) (by rw[K.out];exact nE _);obtain⟨LR,an⟩:=gX (lowRaw cs i);obtain⟨UR,ao⟩:=gX (upRaw cs i);rw[an,ao]at aJ hO ab;have aQ:LR≠[]:=by rw[<-an];exact HL.out
   have aS:UR≠[]:=by rw[<-ao];exact HU.out
   have bh:=hd9 an;have bj:=hd9 ao;clear an ao HO;obtain⟨lg,rfl,_,_⟩:=OwnC.blk hO.2.2.2.2.2.2.1 (by rw[lL];exact List.length_pos_iff.2 aQ);obtain⟨ug,rfl,_,_⟩:=OwnC.blk hO.2.2.2.2.2.2.2.1 (by rw[lL];exact List.length_pos_iff.2 aS);have a9:=zdb wr base lg ln lc LR hO.2.2.2.2.2.2.1 (fun q hq=>⟨(ab.1 q hq).1.mono dM,(ab.1 q hq).2.mono dM⟩) oM;have ba:=fun(W:I)(ho:OwnC 43 2 W base (O (some ⟨ug,0,none⟩) un uc) (UR.map pc))=>zdb W base ug un uc UR ho (fun q hq=>⟨(ab.2 q hq).1.mono dM,(ab.2 q hq).2.mono dM⟩) oM
   have aY:(sortX LR).length<=1000000:=by rw[(zaS LR).length_eq];omega
   have aZ:(sortX UR).length<=1000000:=by rw[(zaS UR).length_eq];omega
   have aW:=fun(W:I)(ho:OwnC 43 2 W base (O (some ⟨lg,0,none⟩) ln lc) ((sortX LR).map pc))=>zdt W base (O (some ⟨lg,0,none⟩) ln lc) (sortX LR) ho aY
   have aX:=fun(W:I)(ho:OwnC 43 2 W base (O (some ⟨ug,0,none⟩) un uc) ((sortX UR).map pc))=>zdt W base (O (some ⟨ug,0,none⟩) un uc) (sortX UR) ho aZ
   have HO:=hd9 hO;have bn:=hd9 a9;have bo:=hd9 ba;have bl:=hd9 aW;have bm:=hd9 aX;clear hO a9 ba aW aX ab aJ aY aZ aQ aS y aM
   go_wp2_with fail
   (with_reducible refine bn.out.mono ?_);rintro e w2 ⟨rfl,a2,aU⟩
   have al:=hd9 (OuW.low HO.out aU a2);have bI:=qcB al.out.2.2.2.2.2.1 (i:=11) (u:=O (some ⟨ug,0,none⟩) un uc) rfl;have bP:=zaa al.out.2.2.2.2.2.1;clear a2 aU
   go_wp2_with fail
   have bC:=al.out.2.2.2.2.2.2.2.1
   (with_reducible refine(bo.out w2 bC).mono ?_);rintro e w3 ⟨rfl,a3,aV⟩
   have bi:=hd9 (OuW.up al.out aV a3);clear a3 aV
   go_wp2_with fail
   have af:=bi.out.toX;have bJ:=qcB af.2.2.2.2.1 (i:=10) (u:=O (some ⟨lg,0,none⟩) ln lc) rfl;have bK:=qcB af.2.2.2.2.1 (i:=11) (u:=O (some ⟨ug,0,none⟩) un uc) rfl;have y3:=zaa af.2.2.2.2.1;have aL:=hd9 af;have bg:=hd9 (aL.out.ext (eR w3).drew).2.2.2.2.2.1;clear af
   first|(go_region_with (first|((go_at_call 128;(with_reducible refine(bl.out _ bg.out).mono ?_);rintro e w4 ⟨v4,rfl,a6,bx,bu⟩;obtain⟨a4,n4,c4,rfl⟩:=a6.form3;have am:=hd9 (OuX.low (aL.out.ext (eR w3).drew) bx a6 bu);have bL:=qcB am.out.2.2.2.2.1 (i:=11) (u:=O (some ⟨ug,0,none⟩) un uc) rfl;have y4:=zaa am.out.2.2.2.2.1;have bD:=am.out.2.2.2.2.2.2.1))|((go_at_call 128;(with_reducible refine(bm.out _ bD).mono ?_);rintro e w5 ⟨v5,rfl,a7,bz,bv⟩;obtain⟨a5,n5,c5,rfl⟩:=a7.form3;have aE:=hd9 (OuX.up am.out bz a7 bv);obtain⟨b0,b1,b2,b3,b4,b5,b6,b7,b8,b9,bE,bF,bf,y5⟩:=zn9 aE.out.2.2.2.2.1;obtain⟨d0,d1,d2,d3,d4,d5,d6,d7,d8,d9,bp,bq,df,y6⟩:=zn8 aE.out.2.2.2.1;dsimp only at b0 b2 b3 b4 b5 b6 b7 b8 b9))))|fail
   all_goals go_wp2
   all_goals
    have bA:¬w.heap.size+1+1=w.heap.size+1:=oM
    have bB:¬w.heap.size+1=w.heap.size+1+1:=oM
    refine bR (v:=.agg (lac ⟨nm,ps,d,de,gx,gz,wy,ax,az,sk⟩ (O a pn c) (O a4 n4 c4) (O a5 n5 c5))) (by simp[results,Tryz.results50,go_sem,lac,d0,d1,d2,d3,d4,d5,d6,d7,d8,d9,bp,bq,bA,bB]) rfl ?_;rw[<-HR.out];obtain⟨f1,f2,f3,f5,f6,f7,f8,f9⟩:=aE.out;have a0:∀{u:V}{L:List (List V)},OwnC 43 2 w5 base u L->u.ownBlock≠some (w.heap.size+1+1)/\u.ownBlock≠some (w.heap.size+1):=fun ho=>⟨fun e=>by have:=(ho.lt _ e).1;omega,fun e=>by have:=(ho.lt _ e).1;omega⟩
    obtain⟨m1,m2⟩:=a0 f7;obtain⟨m3,m4⟩:=a0 f8;refine⟨O a4 n4 c4,O a5 n5 c5,rfl,?_,?_,?_⟩
    ·unfold lowP2 lineOf
     rw[aO.out,K.out,bh.out];refine OwnC.pts (base:=base) ?_
     repeat(refine OwnC.setOther ?_ (by first|exact m1|exact m2) _)
     exact f7
    ·unfold upP2 lineOf
     rw[aO.out,K.out,bj.out];refine OwnC.pts (base:=base) ?_
     repeat(refine OwnC.setOther ?_ (by first|exact m3|exact m4) _)
     exact f8
    ·repeat(refine Ext.set ?_ dO _)
     exact f1
theorem zeH{ps:LP}(i:Int):atc ps (i+ps.length)=atc ps i:=by
 unfold atc;rw[Int.add_emod_right]
theorem znF(u v c:Int×Int):trn u v c=trn c u v:=by
 unfold trn
 grind
theorem ziO{ps:LP}(h:convexB ps=true){i:Nat}(d:i<ps.length):0<trn (atc ps ((i:Int)-1)) (atc ps i) (atc ps ((i:Int)+1))/\∀k:Nat,2<=k->k<ps.length-1->0<trn (atc ps i) (atc ps ((i:Int)+1)) (atc ps ((i:Int)+k)):=by
 unfold convexB at h;simp only[Bool.and_eq_true,List.all_eq_true,List.mem_range]at h;have a:=h.2 i d;unfold cvxR at a;simp only[Bool.and_eq_true,List.all_eq_true,List.mem_range,Bool.or_eq_true,decide_eq_true_eq]at a;refine⟨by simpa[cvx1] using a.1,fun k e b=>?_⟩
 rcases a.2 k b with c|c
 ·omega
 ·simpa[cvx2] using c
theorem zfM{ps:LP}(h:convexB ps=true){i j:Nat}(d:i<ps.length)(b:j<ps.length)(e:i≠j) :
  ps[j]=atc ps ((i:Int)+1)\/ps[j]=atc ps ((i:Int)-1)\/0<trn (atc ps i) (atc ps ((i:Int)+1)) ps[j]:=by
 have a:ps[j]=atc ps (j:Int):=by
  have:=zdp b;rw[gE b]at this;exact Option.some.inj this
 obtain⟨k,g,l,f⟩:∃k:Nat,1<=k/\k<=ps.length-1/\atc ps ((i:Int)+k)=atc ps (j:Int):=by
  by_cases m:i<j
  ·exact⟨j-i,by omega,by omega,by congr 1;omega⟩
  ·refine⟨j+ps.length-i,by omega,by omega,?_⟩
   rw[show (i:Int)+((j+ps.length-i:Nat):Int)=(j:Int)+ps.length by omega];exact zeH _
 rw[a,<-f]
 by_cases c:k=1
 ·subst c;exact .inl rfl
 ·by_cases n:k=ps.length-1
  ·right;left
   rw[show (i:Int)+(k:Int)=((i:Int)-1)+ps.length by omega];exact zeH _
  ·right;right
   exact(ziO h d).2 k oM oM
theorem zhQ{ps:LP}(h:convexB ps=true):Cvx ps:=by
 have l:3<=ps.length:=by
  unfold convexB wthn at h;simp only[Bool.and_eq_true,decide_eq_true_eq]at h;omega
 have a:∀i:Nat,(hi:i<ps.length)->ps[i]=atc ps (i:Int):=fun i hi=>by
  have:=zdp hi;rw[gE hi]at this;exact Option.some.inj this
 refine⟨?_,l,fun u v n c m o hv=>?_⟩
 ·rw[List.nodup_iff_pairwise_ne,List.pairwise_iff_getElem]
  intro i j hi k f e;have b:=(ziO h hi).1
  rcases zfM h hi k oM with d|d|d
  ·rw[<-d,<-e,a i hi]at b
   unfold trn at b;simp at b
  ·rw[<-d,<-e,a i hi]at b
   unfold trn at b;simp at b
  ·rw[<-e,a i hi]at d
   have:trn (atc ps (i:Int)) (atc ps ((i:Int)+1)) (atc ps (i:Int))=0:=by unfold trn;grind
   omega
 ·obtain⟨i,hi,rfl,rfl⟩:∃i:Nat,i<ps.length/\u=atc ps (i:Int)/\v=atc ps ((i:Int)+1):=by
   rcases n with ⟨A,B,e⟩|⟨M,e⟩
   ·have g:A.length<ps.length:=by rw[e];simp
    have q:A.length+1<ps.length:=by rw[e];simp
    refine⟨A.length,g,?_,?_⟩
    ·rw[<-a _ g];simp[e]
    ·have:=a _ q
     rw[show ((A.length+1:Nat):Int)=(A.length:Int)+1 by omega]at this;rw[<-this];simp[e]
   ·have p:0<ps.length:=oM
    have g:M.length+1<ps.length:=by rw[e];simp
    have r:ps.length=M.length+2:=by rw[e];simp
    refine⟨M.length+1,g,?_,?_⟩
    ·rw[<-a _ g];simp[e]
    ·rw[show ((M.length+1:Nat):Int)+1=0+ps.length by omega,zeH]
     have:=a 0 p;rw[show ((0:Nat):Int)=0 from rfl]at this;rw[<-this];simp[e]
  obtain⟨j,k,rfl⟩:=List.mem_iff_getElem.1 m;have f:i≠j:=by rintro rfl;exact o (a i hi)
  rcases zfM h hi k f with d|d|d
  ·exact absurd d hv
  ·rw[d,znF]
   exact(ziO h hi).1
  ·exact d
theorem zgB{ps:LP}(h:Cvx ps):Cvx (settledP ps):=by
 unfold settledP;refine Cvx.map ?_ _ ?_ ?_
 ·have:=Cvx.rot (P:=ps.take (idxN ps)) (Q:=ps.drop (idxN ps)) (by rw[List.take_append_drop];exact h)
  exact this
 ·intro u v c
  unfold trn;dsimp only
  grind
 ·intro x y e
  simp only[Prod.mk.injEq]at e;exact Prod.ext oM oM
theorem zhF(way:Int)(u v c:Int×Int):trn (wayP way u) (wayP way v) (wayP way c)=if 3<way then trn v u c else trn u v c:=by
 unfold wayP trn;dsimp only
 split<;>(split<;>first|grind|(split<;>first|grind|(split<;>grind)))
theorem zhE(way:Int)(x y:Int×Int)(h:wayP way x=wayP way y):x=y:=by
 unfold wayP at h;dsimp only at h;obtain⟨a,b⟩:=x;obtain⟨c,d⟩:=y
 split at h<;>(split at h<;>first|(simp only[Prod.mk.injEq]at h ⊢;omega)|(split at h<;>first|(simp only[Prod.mk.injEq]at h ⊢;omega)|(split at h<;>(simp only[Prod.mk.injEq]at h ⊢;omega))))
theorem ziy{way:Int}{ps:LP}(h:Cvx ps):Cvx (turnedP way ps):=by
 unfold turnedP;refine zgB ?_
 by_cases a:3<way
 ·rw[if_pos a]
  exact h.flip _ (fun u v c=>by rw[zhF,if_pos a]) (zhE way)
 ·rw[if_neg a]
  exact h.map _ (fun u v c=>by rw[zhF,if_neg a]) (zhE way)
theorem zaQ{p:Pl}(h:placedOk p=true):Cvx (cornersP p):=by
 have a:convexB p.shape=true:=by
  cases hcc:convexB p.shape with
  | true=>rfl
  | false =>
   unfold placedOk stoneB at h;rw[zbH hcc]at h;simp at h
 unfold cornersP;refine(ziy (zhQ a)).map _ ?_ ?_
 ·intro u v c
  unfold trn;dsimp only
  grind
 ·intro x y e
  simp only[Prod.mk.injEq]at e;exact Prod.ext oM oM
end
section
open Go.RowKit Go.Shelf Go.Lib
def bytN(s:ByteArray)(i:Nat):Nat:=(s.get! i).toNat
theorem zhS(n a b c d:Nat)(h:¬a<128):128<=(decodeN n a b c d).1:=by
 unfold decodeN;rw[if_neg h]
 repeat' split
 all_goals(simp only;omega)
theorem zmr{r:Nat}(h:128<=r):oddB (r:Int)=true:=by
 unfold oddB;rw[decide_eq_false (show ¬(r:Int)<=122 by omega),decide_eq_false (show ¬(r:Int)<=57 by omega)];simp
theorem zjm(s:ByteArray):∀f pos,s.size<=pos+f->(idxFuncFrom (fun r:Nat=>oddB r) true s f pos = -1 ↔ ∀i,pos<=i->i<s.size->oddB (bytN s i)=false)
 | 0,pos,h=>⟨fun _ i d b=>absurd b (by omega),fun _=>rfl⟩
 | f+1,pos,h=>by
  unfold idxFuncFrom
  by_cases c:pos<s.size
  ·rw[if_pos c,decode_at]
   have k:=zjm s f (pos+1) oM
   by_cases g:bytN s pos<128
   ·have e:decodeN (s.size-pos) (s.get! pos).toNat (s.get! (pos+1)).toNat (s.get! (pos+2)).toNat (s.get! (pos+3)).toNat=(bytN s pos,1):=by
     unfold decodeN;exact if_pos g
    rw[e];dsimp only
    cases ho:oddB (bytN s pos:Int)with
    | true =>
     rw[if_pos rfl]
     constructor
     ·intro a;omega
     ·intro a
      have:=a pos (nE _) c;rw[ho]at this
      cases this
    | false =>
     rw[if_neg sM,k]
     constructor
     ·intro a i d b
      by_cases e:i=pos
      ·subst e;exact ho
      ·exact a i oM b
     ·intro a i d b
      exact a i oM b
   ·have j:=zhS (s.size-pos) (s.get! pos).toNat (s.get! (pos+1)).toNat (s.get! (pos+2)).toNat (s.get! (pos+3)).toNat g
    rw[if_pos (zmr j)]
    constructor
    ·intro a;omega
    ·intro a
     have:=a pos (nE _) c;rw[zmr oM]at this
     cases this
  ·rw[if_neg c]
   exact⟨fun _ i d b=>absurd b oM,fun _=>rfl⟩
def namR(s:ByteArray):Bool:=(List.range s.size).all (fun i=>!oddB (bytN s i))&&wthn s.size 1 16
theorem zoi(s:ByteArray):namR s=namedB s:=by
 unfold namR namedB;rw[Bool.and_comm]
 congr 1
 have h:=zjm s s.size 0 oM;have c:=idxFunc_range (fun r:Nat=>oddB r) true s;unfold idxFunc at c ⊢;rw[Bool.eq_iff_iff,List.all_eq_true,Bool.not_eq_true',decide_eq_false_iff_not]
 constructor
 ·intro b
  have:=h.2 (fun i _ a=>by simpa using b i (List.mem_range.2 a));omega
 ·intro b i a
  have:=(h.1 oM) i (Nat.zero_le _) (List.mem_range.1 a);simp[this]
end
section
open Go.RowKit Go.Shelf
def FlatX(cs:LP):Prop:=∃c,∀q∈cs,q.1=c
def FlatZ(cs:LP):Prop:=∃c,∀q∈cs,q.2=c
theorem zff{ps:LP}(h:convexB ps=true):¬FlatX ps/\¬FlatZ ps:=by
 have f:=zci h;unfold convexB at h;rw[Bool.and_eq_true,List.all_eq_true]at h;have d:=h.2 0 (List.mem_range.2 oM);unfold cvxR cvx1 at d;rw[Bool.and_eq_true,decide_eq_true_eq]at d;have b:=d.1
 have mem:∀i:Int,atc ps i∈ps:=fun i=>by
  obtain⟨j,_,_,e⟩:=zf3 (ps:=ps) (i:=i) oM;exact lM e
 refine⟨fun⟨c,a⟩=>?_,fun⟨c,a⟩=>?_⟩
 ·unfold trn at b
  rw[a _ (mem _),a _ (mem _),a _ (mem _)]at b;simp at b
 ·unfold trn at b
  rw[a _ (mem _),a _ (mem _),a _ (mem _)]at b;simp at b
theorem zlX{way:Int}{ps:LP}(h:FlatX (ps.map (wayP way))):FlatX ps\/FlatZ ps:=by
 obtain⟨c,g⟩:=h;have a:∀q∈ps,(wayP way q).1=c:=fun q a=>g _ (List.mem_map.2 ⟨q,a,rfl⟩)
 unfold wayP at a;dsimp only at a
 by_cases f:3<way
 ·simp only[if_pos f]at a
  by_cases b:way % 4=0
  ·simp only[if_pos b]at a;exact .inl ⟨-c,fun q h=>by have:=a q h;omega⟩
  ·simp only[if_neg b]at a
   by_cases d:way % 4=1
   ·simp only[if_pos d]at a;exact .inr ⟨-c,fun q h=>by have:=a q h;omega⟩
   ·simp only[if_neg d]at a
    by_cases e:way % 4=2
    ·simp only[if_pos e]at a;exact .inl ⟨c,fun q h=>by have:=a q h;omega⟩
    ·simp only[if_neg e]at a;exact .inr ⟨c,fun q h=>by have:=a q h;omega⟩
 ·simp only[if_neg f]at a
  by_cases b:way % 4=0
  ·simp only[if_pos b]at a;exact .inl ⟨c,fun q h=>by have:=a q h;omega⟩
  ·simp only[if_neg b]at a
   by_cases d:way % 4=1
   ·simp only[if_pos d]at a;exact .inr ⟨-c,fun q h=>by have:=a q h;omega⟩
   ·simp only[if_neg d]at a
    by_cases e:way % 4=2
    ·simp only[if_pos e]at a;exact .inl ⟨-c,fun q h=>by have:=a q h;omega⟩
    ·simp only[if_neg e]at a;exact .inr ⟨c,fun q h=>by have:=a q h;omega⟩
theorem zfO{ps:LP}(h:FlatX (settledP ps)):FlatX ps:=by
 obtain⟨c,b⟩:=h;refine⟨c+(leastP ps).1,fun q a=>?_⟩
 have d:q∈ps.drop (idxN ps)++ps.take (idxN ps):=by
  rw[<-List.take_append_drop (idxN ps) ps]at a
  rcases List.mem_append.1 a with h|h
  ·exact List.mem_append_right _ h
  ·exact List.mem_append_left _ h
 have:=b _ (List.mem_map.2 ⟨q,d,rfl⟩);dsimp only at this;omega
theorem zcX{p:Pl}(h:placedOk p=true):¬FlatX (cornersP p):=by
 intro ⟨c,b⟩;have f:=(zbw h).1
 have d:convexB p.shape=true:=by
  unfold stoneB at f;simp only[Bool.and_eq_true]at f
  cases hcc:convexB p.shape
  ·have:=f.1.1.1.2;rw[zbH hcc]at this;cases this
  ·rfl
 obtain⟨j,k⟩:=zff d
 have g:FlatX (turnedP p.way p.shape):=⟨c-p.ax,fun q e=>by
  have:=b _ (List.mem_map.2 ⟨q,e,rfl⟩);dsimp only at this;omega⟩
 unfold turnedP at g;have a:=zfO g
 have i:FlatX (p.shape.map (wayP p.way)):=by
  split at a
  ·obtain⟨c,b⟩:=a
   exact⟨c,fun q e=>b q (List.mem_reverse.2 e)⟩
  ·exact a
 rcases zlX i with h|h
 ·exact j h
 ·exact k h
theorem zl8{xs:List Int}{n:Nat}(l:xs.length=n)(h:∀i,i<n->xs.getD ((i+1) % n) 0<=xs.getD i 0):∀x∈xs,x=xs.getD 0 0:=by
 have a:∀i,i<n->xs.getD i 0<=xs.getD 0 0:=by
  intro i
  induction i with
  | zero=>intro _;exact Int.le_refl _
  | succ i f =>
   intro b;have g:=f oM;have c:=h i oM;rw[Nat.mod_eq_of_lt b]at c;omega
 have up:∀k i,i+k=n-1->i<n->xs.getD (n-1) 0<=xs.getD i 0:=by
  intro k
  induction k with
  | zero=>intro i b l;rw[show i=n-1 by omega];exact Int.le_refl _
  | succ k f =>
   intro i b d;have g:=f (i+1) oM oM;have c:=h i d;rw[Nat.mod_eq_of_lt oM]at c;omega
 intro x m;obtain⟨i,b,rfl⟩:=List.mem_iff_getElem.1 m;have e:xs.getD i 0=xs[i]:=by rw[gD,gE b];rfl
 have g:=a i oM;have c:=up (n-1-i) i oM oM;have j:=h (n-1) oM;rw[show n-1+1=n by omega,Nat.mod_self]at j;omega
theorem zgX(cs:LP)(i:Nat):(cs.map (·.1)).getD i 0=(cs.getD i (0,0)).1:=by
 rw[gD,gD,lP]
 cases cs[i]?<;>rfl
theorem zmn{p:Pl}(h:placedOk p=true):lowRaw (cornersP p) (cornersP p).length≠[]:=by
 intro e
 apply zcX h
 have d:∀i,i<(cornersP p).length->¬((cornersP p).getD i (0,0)).1<((cornersP p).getD ((i+1) % (cornersP p).length) (0,0)).1:=by
  intro i a b;unfold lowRaw at e;rw[List.flatMap_eq_nil_iff]at e;have:=e i (List.mem_range.2 a);unfold edgeLow at this;rw[if_pos b]at this
  cases this
 refine⟨_,fun q c=>zl8 (xs:=(cornersP p).map (·.1)) (n:=(cornersP p).length) sM (fun i a=>?_) q.1 (List.mem_map.2 ⟨q,c,rfl⟩)⟩;rw[zgX,zgX];have:=d i a;omega
theorem zoD{p:Pl}(h:placedOk p=true):upRaw (cornersP p) (cornersP p).length≠[]:=by
 intro e
 apply zcX h
 have f:∀i,i<(cornersP p).length->¬((cornersP p).getD ((i+1) % (cornersP p).length) (0,0)).1<((cornersP p).getD i (0,0)).1:=by
  intro i a b;unfold upRaw at e;rw[List.flatMap_eq_nil_iff]at e;have:=e i (List.mem_range.2 a);unfold edgeUp at this;rw[if_pos b]at this
  cases this
 refine⟨-(((cornersP p).map (fun q=>-q.1)).getD 0 0),fun q d=>?_⟩
 have c:∀i,((cornersP p).map (fun q=>-q.1)).getD i 0 = -((cornersP p).getD i (0,0)).1:=fun i=>by
  rw[gD,gD,lP]
  cases (cornersP p)[i]?<;>rfl
 have:=zl8 (xs:=(cornersP p).map (fun q=>-q.1)) (n:=(cornersP p).length) sM (fun i a=>by rw[c,c];have:=f i a;omega) (-q.1) (List.mem_map.2 ⟨q,d,rfl⟩);omega
theorem zaR(w:I)(p:Pl)(v:V)(h:IsPts w v p.shape)(a:placedOk p=true)(b:Gw w):Calls Tryz.prog 50 #[.agg (plc p v)] w (RetO w p v):=
 zfC w p v h a b (zmn a) (zoD a)
theorem zaX{α:Type}[DecidableEq α]:∀{c:List α}{x:α},x∈compactP c->x∈c
 | [],_,h=>h
 | [a],_,h=>h
 | a::b::r,x,h=>by
  rw[compactP]at h
  split at h
  ·exact mC _ (zaX h)
  ·rcases List.mem_cons.1 h with rfl|h
   ·simp
   ·exact mC _ (zaX h)
theorem zdr{α:Type}[DecidableEq α]:∀{c:List α},c≠[]->compactP c≠[]
 | [],h=>absurd rfl h
 | [a],_=>by simp[compactP]
 | a::b::r,_=>by
  rw[compactP]
  split
  ·exact zdr (by simp)
  ·simp
theorem zcW{α:Type}[DecidableEq α]:∀(c:List α),(compactP c).length<=c.length
 | []=>by simp[compactP]
 | [a]=>by simp[compactP]
 | a::b::r=>by
  rw[compactP];have:=zcW (b::r)
  split
  ·simp at this ⊢;omega
  ·simp at this ⊢;omega
theorem zfx{k:Int}{a:LP}(h:a≠[])(c:PBd k a)(f:a.length<=24):lineOf a≠[]/\PBd k (lineOf a)/\(lineOf a).length<=24:=by
 unfold lineOf;have b:=zaS a;refine⟨zdr (fun e=>h ?_),fun q d=>c q (b.mem_iff.1 (zaX d)),?_⟩
 ·rw[e]at b;exact b.symm.eq_nil
 ·have:=zcW (sortX a)
  rw[b.length_eq]at this;omega
def LnOk(l:LP):Prop:=l≠[]/\PBd 104000 l/\l.length<=64
theorem zao{p:Pl}(h:placedOk p=true):LnOk (lowP2 p)/\LnOk (upP2 p):=by
 obtain⟨d,e,h12⟩:=zaK h;have c:=zfJ d (nE _);have f:=zj6 (cornersP p) (cornersP p).length;have a:=zfx (zmn h) c.1 oM;have b:=zfx (zoD h) c.2 oM;exact⟨⟨a.1,a.2.1,nT a.2.2 oM⟩,⟨b.1,b.2.1,nT b.2.2 oM⟩⟩
def RetCo(w:I)(p:Pl)(e:Ending)(w':I):Prop:=(placedOk p=false/\e = .returned (.tuple #[O none 0 0,Y Z 2])/\Ext w w')\/(placedOk p=true/\∃v,e = .returned (.tuple #[v,Y Z 0])/\IsPts w' v (cornersP p)/\Ext w w')
theorem zf2(w:I)(p:Pl)(v:V)(h:IsPts w v p.shape)(T:0<=p.skin)(Q:Gw w):Calls Tryz.prog 25 #[.agg (plc p v)] w (RetCo w p):=by
 obtain⟨a,c,rfl⟩:=h.form;obtain⟨n,y⟩:=gX p.shape.length;have f:=fun W (m:Ext w W)=>zau W p _ (h.ext' m) T
 have g:=fun W (m:Ext w W) (b:placedOk p=true)=>zdv W p _ (h.ext' m) b (Q.ext m)
 rw[y]at f g ⊢;obtain⟨R,s⟩:=gX (RetCo w p);rw[s];have x:=hd9 s;clear s h y
 cases b:placedOk p
 ·rw[b]at f
  have j:=hd9 f;have k:=hd9 b;clear f g b;obtain⟨nm,ps,d,K,L,P,wy,z,D,sk⟩:=p;unfold plc at *;dsimp only at *;go_enter Tryz.func25,Tryz.ntmps25
  go_wp2_with(((go_at_call 28;(with_reducible refine(j.out _ ?_).mono ?_);exact eA;rintro e w1 ⟨rfl,l⟩;obtain⟨⟨t,u⟩,q⟩:=cK1 w l)))
  rw[<-x.out];exact .inl ⟨k.out,rfl,eA⟩
 ·rw[b]at f
  have i:=fun W m=>g W m b
  have j:=hd9 f;have r:=hd9 i;have k:=hd9 b;clear f g i b;obtain⟨nm,ps,d,K,L,P,wy,z,D,sk⟩:=p;unfold plc at *;dsimp only at *;go_enter Tryz.func25,Tryz.ntmps25
  go_wp2_with(first|((go_at_call 28;(with_reducible refine(j.out _ ?_).mono ?_);exact eA;rintro e w1 ⟨rfl,l⟩;obtain⟨⟨t,u⟩,q⟩:=cK1 w l))|((go_at_call 84;(with_reducible refine(r.out _ ?_).mono ?_);exact eA;rintro e w2 ⟨v2,rfl,o,aa⟩;obtain⟨a2,n2,c2,rfl⟩:=o.form3)))
  rw[<-x.out];exact .inr ⟨k.out,_,rfl,o.pts,eA⟩
end
end Go.Proofs.YtjnjpagegkcgfaaGreatDoor.Cop
