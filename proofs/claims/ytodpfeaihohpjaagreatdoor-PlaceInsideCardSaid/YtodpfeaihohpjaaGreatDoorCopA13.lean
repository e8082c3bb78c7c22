/- Part 14: contracts of what the law calls. -/
import Derived.Test.YtodpfeaihohpjaaGreatDoorCopA12
import Derived.Test.YtodpfeaihohpjaaGreatDoorCopA06
import Derived.RangeFuncNested
import Derived.RangeFuncBound
import Derived.RangeFuncCalls
import Derived.RangeFuncLeaves
import Derived.Shelf.Abstract
import Derived.Shelf.RegionOpen
import Derived.TacticsInMore
import Derived.LoopNIn
import Derived.LoopIn
import Derived.Sort.LoopGhostIn
set_option maxRecDepth 1000000
set_option maxHeartbeats 16000000
set_option linter.unusedSimpArgs false
set_option linter.unusedVariables false
open Go.Value renaming slice→O,int→Y
open Go.IntKind renaming i64→Z
open Go renaming World→X,Value→V
open Go.Obj renaming cells→I
open Option renaming some→J,none→M
namespace Go.Proofs.YtodpfeaihohpjaaGreatDoor.Cop
section
open Go.RowKit Go.Shelf
theorem zhy (W:X) (x z b c:Int) (T:TypeId):∀(j:Nat) u,[pc (x,z),pc (b,c)].flatten[j]?=J u→(W.alloc (I #[Y Z x,Y Z z,Y Z b,Y Z c] T)).cell? ((⟨W.heap.size,0,M⟩:Addr).add j)=J u:=by
 intro j u a
 match j,a with
 | 0,a=>simp [pc]at a;subst a;simp [Addr.add]
 | 1,a=>simp [pc]at a;subst a;simp [Addr.add]
 | 2,a=>simp [pc]at a;subst a;simp [Addr.add]
 | 3,a=>simp [pc]at a;subst a;simp [Addr.add]
 | j+4,a=>simp [pc]at a
theorem zkj (x z a b:Int):∀u∈[pc (x,z),pc (a,b)].flatten,u.oneCell'=true:=zf8 (ps:=[(x,z),(a,b)])
def OuS (w:X) (base:Nat) (p:Pl) (v:V) (cs:List (Int×Int)) (b:V) (g:Nat) (a:V) (W:X):Prop:=
 ∃(i:Nat) (c d:V),i≤cs.length∧a=Y Z i∧g=cs.length-i∧OuW w base p v (lowRaw cs i) (upRaw cs i) c d W∧OwnC 33 2 W (w.heap.size+1+1+1) b (cs.map pc)
theorem zi2 {W w':X} {base s:Nat} {a v:V} {cs:List (List V)} {L:List (List V)} (h:OwnC 33 2 W (s+1) a cs) (c:∀j,a.ownBlock=J j→j<base) (f:OwnC 33 2 W base v L) (d:W.grownBy w' v.ownBlock) (k:Nat) (u:V) :
  OwnC 33 2 (w'.setCell ⟨s,k,M⟩ u) (s+1) a cs:=by
 refine OwnC.setOther (h.grown d ?_) (fun e=>?_) _
 ·cases e:a.ownBlock with
  | none=>exact .inl rfl
  | some j=>exact .inr (fun b=>by have:=(f.lt _ b.symm).1;have:=c _ e;omega)
 ·have:=(h.lt _ e).1
  dsimp only at this;omega
theorem zf3 (w:X) (p:Pl) (v:V) (h:IsPts w v p.shape) (aH:placedOk p=true) (hg:Gw w) (hL:lowRaw (cornersP p) (cornersP p).length≠[]) (hU:upRaw (cornersP p) (cornersP p).length≠[]) :
  Calls Tryz.prog 46 #[.agg (plc p v)] w (RetO w p v):=by
 obtain⟨a,c,rfl⟩:=h.form;obtain⟨aF,aT,au⟩:=zaH aH;have ap:=fun W (hW:Ext w W)=>zdO W p _ (h.ext' hW) aH (hg.ext hW)
 obtain⟨cs,aG⟩:=gX (cornersP p);obtain⟨pn,a8⟩:=gX p.shape.length;rw [a8]at ap h ⊢;obtain⟨R,hR⟩:=gX (RetO w p (O a pn c));rw [hR];have HR:=hd9 hR;rw [aG]at ap aF aT au hL hU;obtain⟨n,hn⟩:=gX cs.length;rw [hn]at aT au hL hU;have bj:=hd9 ap;have aM:=hd9 aF;have K:=hd9 hn;have aO:=hd9 aG;have HL:=hd9 hL;have HU:=hd9 hU;clear ap aF hn aG hR aH a8 h hL hU;obtain⟨P,hP⟩:=gX p;obtain⟨nm,ps,d,de,gx,gz,wy,ax,az,sk⟩:=p;unfold plc at *;dsimp only at *;have HP:=hd9 hP;clear hP;go_enter Tryz.func46,Tryz.ntmps46
 go_wp2_with(((go_at_call 80;(with_reducible refine(bj.out _ ?_).mono ?_);exact eA;rintro e w1 ⟨v1,rfl,ai,ak⟩;obtain⟨a1,n1,c1,rfl⟩:=ai.form3;obtain rfl:n=n1:=(by have h9:=ai.len;rw [lL,K.out]at h9;exact h9.symm);obtain⟨⟨bs,bv⟩,bc,bd,aB⟩:=cK3 w ak)))
 obtain⟨base,aa⟩:=gX w1.heap.size;have bb:Ext w w1:=eA;have br:w.heap.size+1+1<base:=by rw [←aa];exact aB
 have av:∀j,(Value.slice a1 n c1).ownBlock=J j→j<base:=fun j hj=>by rw [←aa];exact(ai.lt j hj).2
 have K0:=ak.heapS (k:=w.heap.size) (by rw [zai,if_neg (by simp;omega),zai,if_neg sM];exact qhA _ _ _ rfl);have K1:=ak.heapS (k:=w.heap.size+1) (by rw [zai,if_neg sM];exact qhA _ _ _ sM);have K2:=ak.heapS (k:=w.heap.size+1+1) (qhA _ _ _ sM)
 have aR:OuW w base ⟨nm,ps,d,de,gx,gz,wy,ax,az,sk⟩ (O a pn c) [] [] (O M 0 0) (O M 0 0) w1:=
  ⟨bb,br,by omega,K0,K1,K2,OwnC.nil _ _ _ _,OwnC.nil _ _ _ _,fun j hj=>by cases hj⟩
 have aA:OwnC 33 2 w1 (w.heap.size+1+1+1) (O a1 n c1) (cs.map pc):=ai.mono sM;have aK:=hd9 aR;have aP:=hd9 aA;have aq:=hd9 av;clear K0 K1 K2 aR aA av ai ak bs bv bc bd aB aa bb
 go_loopg [18] n (OuS w base ⟨nm,ps,d,de,gx,gz,wy,ax,az,sk⟩ (O a pn c) cs (O a1 n c1))
 case atStart=>exact⟨0,_,_,by omega,rfl,by rw [K.out];rfl,aK.out,aP.out⟩
 case round =>
  clear aK aP;obtain⟨i,vl,vu,hi,rfl,rfl,hO,aw⟩:=hrel;rw [K.out]at hi;have bq:=hO;obtain⟨h1,_,h3,h4,h5,h6,h7,h8,h9⟩:=bq;obtain⟨la,ln,lc,rfl⟩:=h7.form3;obtain⟨ua,un,uc,rfl⟩:=h8.form3;have bF:=qcB h6 (i:=10) (u:=O la ln lc) rfl;have bG:=qcB h6 (i:=11) (u:=O ua un uc) rfl;have z6:=zaa h6;have bP:w.heap.size+1+1<wr.heap.size+1:=oM
  have bQ:w.heap.size+1+1<wr.heap.size+1+1:=oM
  have HO:=hd9 hO;have y:=hd9 aw;have aJ:=zgP cs i;clear h1 h3 h4 h5 h6 h7 h8 h9 hO aw
  by_cases bN:i<n
  ·obtain⟨⟨x,z⟩,hq⟩:∃q,cs[i]?=J q:=⟨cs[i]'(by rw [K.out];omega),by simp⟩
   obtain⟨k,hk⟩:=gX ((i+1) % n);have bM:k<n:=by rw [←hk];exact Nat.mod_lt _ oM
   obtain⟨⟨D,z'⟩,aI⟩:∃q,cs[k]?=J q:=⟨cs[k]'(by rw [K.out];omega),by simp⟩;have hm:((i:Int)+1) % (n:Int)=(k:Int):=by rw [←hk];simp
   obtain⟨b,o,rfl,hb,d0,d1⟩:=(y.out.pts).at' hq;obtain⟨b',o',e',bL,d2,d3⟩:=(y.out.pts).at' aI
   cases e'
   have hE:edgeLow cs i=(if x<D then [(x,z),(D,z')]else [])∧edgeUp cs i=(if D<x then [(x,z),(D,z')]else []):=by
    unfold edgeLow edgeUp;rw [K.out,hk,gD,gD,hq,aI];exact⟨rfl,rfl⟩
   have HE:=hd9 hE;have p1:(0:Int)≤(i:Int):=oM
   have p2:(i:Int)<(n:Int):=oM
   have p3:(0:Int)≤(k:Int):=oM
   have p4:(k:Int)<(n:Int):=oM
   have p5:(0:Int)<(n:Int):=oM
   have ay:((lowRaw cs i).map pc).length+2≤100000000000∧((upRaw cs i).map pc).length+2≤100000000000:=by rw [lL,lL];omega
   have ar:=hd9 ay;clear hq aI hE hk ay aJ
   by_cases t1:x<D
   ·have g:=HE.out.1
    have l:=HE.out.2;rw [if_pos t1]at g;rw [if_neg oM]at l;have ac:=hd9 g;have ae:=hd9 l;clear g l;have X5:Ext wr (((wr.alloc (I #[Y Z x,Y Z z] 33)).alloc (I #[Y Z D,Y Z z'] 33)).alloc (I #[Y Z x,Y Z z,Y Z D,Y Z z'] 33)):=(((eR wr).alloc _).alloc _).alloc _;have r:=HO.out.ext X5;have aj:=r.2.2.2.2.2.2;have ag:=r.2.2.1;have aC:=hd9 r.2.2.2.2.2.1;have aD:=hd9 r;have Q:=hd9 aj.1;clear r aj
    go_wp2_with(at_builtin;refine appC (T:=33) (t:=99) (z:=.agg #[Y Z 0,Y Z 0]) (k:=2) (bytes:=16) (base:=base) (v:=O la ln lc) (cs:=(lowRaw cs i).map pc) (m:=2) (c:=2) (ad:=⟨wr.heap.size+1+1,0,M⟩) zbM rfl dM dM Tryz.underlying99 rfl _ _ rfl rfl Q.out rfl [pc (x,z),pc (D,z')] rfl (by simp [pc]) (by simpa using zhy ((wr.alloc (I #[Y Z x,Y Z z] 33)).alloc (I #[Y Z D,Y Z z'] 33)) x z D z' 33) (zkj _ _ _ _) ar.out.1 ag ?_;intro v' w5 s f ah;obtain⟨a5,n5,c5,rfl⟩:=s.form3;have E5:=zaj f aC.out (fun e=>by have:=(Q.out.lt _ e.symm).1;omega);have c9:=qcB E5 (i:=10) (u:=O la ln lc) rfl;have f9:=qfB E5 10)
    go_roundg (n-(i+1))
    case measure=>have:=K.out;omega
    case rel =>
     refine⟨i+1,O a5 n5 c5,O ua un uc,by have:=K.out;omega,by go_num,by rw [K.out],?_,zi2 (y.out.ext X5) aq.out Q.out f _ _⟩;rw [zbQ,zcq,ac.out,ae.out,List.append_nil];exact OuW.setLow aD.out f (by rw [List.map_append];exact s) ah
   ·by_cases t2:D<x
    ·have k1:D≤x:=oM
     have g:=HE.out.1;have l:=HE.out.2;rw [if_neg t1]at g;rw [if_pos t2]at l;have ac:=hd9 g;have ae:=hd9 l;clear t1 g l;have X5:Ext wr (((wr.alloc (I #[Y Z x,Y Z z] 33)).alloc (I #[Y Z D,Y Z z'] 33)).alloc (I #[Y Z x,Y Z z,Y Z D,Y Z z'] 33)):=(((eR wr).alloc _).alloc _).alloc _;have r:=HO.out.ext X5;have aj:=r.2.2.2.2.2.2;have ag:=r.2.2.1;have aC:=hd9 r.2.2.2.2.2.1;have aD:=hd9 r;have Q:=hd9 aj.2.1;clear r aj
     go_wp2_with(at_builtin;refine appC (T:=33) (t:=99) (z:=.agg #[Y Z 0,Y Z 0]) (k:=2) (bytes:=16) (base:=base) (v:=O ua un uc) (cs:=(upRaw cs i).map pc) (m:=2) (c:=2) (ad:=⟨wr.heap.size+1+1,0,M⟩) zbM rfl dM dM Tryz.underlying99 rfl _ _ rfl rfl Q.out rfl [pc (x,z),pc (D,z')] rfl (by simp [pc]) (by simpa using zhy ((wr.alloc (I #[Y Z x,Y Z z] 33)).alloc (I #[Y Z D,Y Z z'] 33)) x z D z' 33) (zkj _ _ _ _) ar.out.2 ag ?_;intro v' w5 s f ah;obtain⟨a5,n5,c5,rfl⟩:=s.form3;have E5:=zaj f aC.out (fun e=>by have:=(Q.out.lt _ e.symm).1;omega);have c9:=qcB E5 (i:=11) (u:=O ua un uc) rfl;have f9:=qfB E5 11)
     go_roundg (n-(i+1))
     case measure=>have:=K.out;omega
     case rel =>
      refine⟨i+1,O la ln lc,O a5 n5 c5,by have:=K.out;omega,by go_num,by rw [K.out],?_,zi2 (y.out.ext X5) aq.out Q.out f _ _⟩;rw [zbQ,zcq,ac.out,ae.out,List.append_nil];exact OuW.setUp aD.out f (by rw [List.map_append];exact s) ah
    ·have k1:D≤x:=oM
     have k2:x≤D:=oM
     have g:=HE.out.1;have l:=HE.out.2;rw [if_neg t1]at g;rw [if_neg t2]at l;have ac:=hd9 g;have ae:=hd9 l;clear t1 t2 g l;go_wp2
     go_roundg (n-(i+1))
     case measure=>have:=K.out;omega
     case rel =>
      refine⟨i+1,O la ln lc,O ua un uc,by have:=K.out;omega,by go_num,by rw [K.out],?_,y.out.ext eA⟩;rw [zbQ,zcq,ac.out,ae.out,List.append_nil,List.append_nil];exact HO.out.ext eA
  ·obtain rfl:i=n:=oM
   have hO:=HO.out;have ab:=ze9 aM.out (i:=i) (by rw [K.out];exact nE _);obtain⟨LR,an⟩:=gX (lowRaw cs i);obtain⟨UR,ao⟩:=gX (upRaw cs i);rw [an,ao]at aJ hO ab;have aQ:LR≠[]:=by rw [←an];exact HL.out
   have aS:UR≠[]:=by rw [←ao];exact HU.out
   have bg:=hd9 an;have bi:=hd9 ao;clear an ao HO;obtain⟨lg,rfl,_,_⟩:=OwnC.blk hO.2.2.2.2.2.2.1 (by rw [lL];exact List.length_pos_iff.2 aQ);obtain⟨ug,rfl,_,_⟩:=OwnC.blk hO.2.2.2.2.2.2.2.1 (by rw [lL];exact List.length_pos_iff.2 aS);have a9:=zds wr base lg ln lc LR hO.2.2.2.2.2.2.1 (fun q hq=>⟨(ab.1 q hq).1.mono dM,(ab.1 q hq).2.mono dM⟩) oM;have ba:=fun(W:X) (ho:OwnC 33 2 W base (O (J ⟨ug,0,M⟩) un uc) (UR.map pc))=>zds W base ug un uc UR ho (fun q hq=>⟨(ab.2 q hq).1.mono dM,(ab.2 q hq).2.mono dM⟩) oM
   have aY:(sortX LR).length≤1000000:=by rw [(zba LR).length_eq];omega
   have aZ:(sortX UR).length≤1000000:=by rw [(zba UR).length_eq];omega
   have aW:=fun(W:X) (ho:OwnC 33 2 W base (O (J ⟨lg,0,M⟩) ln lc) ((sortX LR).map pc))=>zdL W base (O (J ⟨lg,0,M⟩) ln lc) (sortX LR) ho aY
   have aX:=fun(W:X) (ho:OwnC 33 2 W base (O (J ⟨ug,0,M⟩) un uc) ((sortX UR).map pc))=>zdL W base (O (J ⟨ug,0,M⟩) un uc) (sortX UR) ho aZ
   have HO:=hd9 hO;have bm:=hd9 a9;have bn:=hd9 ba;have bk:=hd9 aW;have bl:=hd9 aX;clear hO a9 ba aW aX ab aJ aY aZ aQ aS y aM
   go_wp2_with fail
   (with_reducible refine bm.out.mono ?_);rintro e w2 ⟨rfl,a2,aU⟩
   have al:=hd9 (OuW.low HO.out aU a2);have bH:=qcB al.out.2.2.2.2.2.1 (i:=11) (u:=O (J ⟨ug,0,M⟩) un uc) rfl;have bO:=zaa al.out.2.2.2.2.2.1;clear a2 aU
   go_wp2_with fail
   have bB:=al.out.2.2.2.2.2.2.2.1
   (with_reducible refine(bn.out w2 bB).mono ?_);rintro e w3 ⟨rfl,a3,aV⟩
   have bh:=hd9 (OuW.up al.out aV a3);clear a3 aV
   go_wp2_with fail
   have af:=bh.out.toX;have bI:=qcB af.2.2.2.2.1 (i:=10) (u:=O (J ⟨lg,0,M⟩) ln lc) rfl;have bJ:=qcB af.2.2.2.2.1 (i:=11) (u:=O (J ⟨ug,0,M⟩) un uc) rfl;have y3:=zaa af.2.2.2.2.1;have aL:=hd9 af;have be:=hd9 (aL.out.ext (eR w3).drew).2.2.2.2.2.1;clear af
   first|(go_region_with (first|((go_at_call 101;(with_reducible refine(bk.out _ be.out).mono ?_);rintro e w4 ⟨v4,rfl,a6,bw,bt⟩;obtain⟨a4,n4,c4,rfl⟩:=a6.form3;have am:=hd9 (OuX.low (aL.out.ext (eR w3).drew) bw a6 bt);have bK:=qcB am.out.2.2.2.2.1 (i:=11) (u:=O (J ⟨ug,0,M⟩) un uc) rfl;have y4:=zaa am.out.2.2.2.2.1;have bC:=am.out.2.2.2.2.2.2.1))|((go_at_call 101;(with_reducible refine(bl.out _ bC).mono ?_);rintro e w5 ⟨v5,rfl,a7,bx,bu⟩;obtain⟨a5,n5,c5,rfl⟩:=a7.form3;have aE:=hd9 (OuX.up am.out bx a7 bu);obtain⟨b0,b1,b2,b3,b4,b5,b6,b7,b8,b9,bD,bE,bf,y5⟩:=znP aE.out.2.2.2.2.1;obtain⟨d0,d1,d2,d3,d4,d5,d6,d7,d8,d9,bo,bp,df,y6⟩:=znO aE.out.2.2.2.1;dsimp only at b0 b2 b3 b4 b5 b6 b7 b8 b9))))|fail
   all_goals go_wp2
   all_goals
    have bz:¬w.heap.size+1+1=w.heap.size+1:=oM
    have bA:¬w.heap.size+1=w.heap.size+1+1:=oM
    refine bR (v:=.agg (lac ⟨nm,ps,d,de,gx,gz,wy,ax,az,sk⟩ (O a pn c) (O a4 n4 c4) (O a5 n5 c5))) (by simp [results,Tryz.results46,go_sem,lac,d0,d1,d2,d3,d4,d5,d6,d7,d8,d9,bo,bp,bz,bA]) rfl ?_;rw [←HR.out];obtain⟨f1,f2,f3,f5,f6,f7,f8,f9⟩:=aE.out;have a0:∀{u:V} {L:List (List V)},OwnC 33 2 w5 base u L→u.ownBlock≠J (w.heap.size+1+1)∧u.ownBlock≠J (w.heap.size+1):=fun ho=>⟨fun e=>by have:=(ho.lt _ e).1;omega,fun e=>by have:=(ho.lt _ e).1;omega⟩
    obtain⟨m1,m2⟩:=a0 f7;obtain⟨m3,m4⟩:=a0 f8;refine⟨O a4 n4 c4,O a5 n5 c5,rfl,?_,?_,?_⟩
    ·unfold lowP2 lineOf
     rw [aO.out,K.out,bg.out];refine OwnC.pts (base:=base) ?_
     repeat(refine OwnC.setOther ?_ (by first|exact m1|exact m2) _)
     exact f7
    ·unfold upP2 lineOf
     rw [aO.out,K.out,bi.out];refine OwnC.pts (base:=base) ?_
     repeat(refine OwnC.setOther ?_ (by first|exact m3|exact m4) _)
     exact f8
    ·repeat(refine Ext.set ?_ dO _)
     exact f1
def FlatX (cs:List (Int×Int)):Prop:=∃c,∀q∈cs,q.1=c
def FlatZ (cs:List (Int×Int)):Prop:=∃c,∀q∈cs,q.2=c
theorem zfM {ps:List (Int×Int)} (h:convexB ps=true):¬FlatX ps∧¬FlatZ ps:=by
 have f:=zcy h;unfold convexB at h;rw [Bool.and_eq_true,List.all_eq_true]at h;have d:=h.2 0 (List.mem_range.2 oM);unfold cvxR cvx1 at d;rw [Bool.and_eq_true,decide_eq_true_eq]at d;have b:=d.1
 have mem:∀i:Int,atc ps i∈ps:=fun i=>by
  obtain⟨j,_,_,e⟩:=zgs (ps:=ps) (i:=i) oM;exact lM e
 refine⟨fun⟨c,a⟩=>?_,fun⟨c,a⟩=>?_⟩
 ·unfold trn at b
  rw [a _ (mem _),a _ (mem _),a _ (mem _)]at b;simp at b
 ·unfold trn at b
  rw [a _ (mem _),a _ (mem _),a _ (mem _)]at b;simp at b
theorem zlV {way:Int} {ps:List (Int×Int)} (h:FlatX (ps.map (wayP way))):FlatX ps∨FlatZ ps:=by
 obtain⟨c,g⟩:=h;have a:∀q∈ps,(wayP way q).1=c:=fun q a=>g _ (List.mem_map.2 ⟨q,a,rfl⟩)
 unfold wayP at a;dsimp only at a
 by_cases f:3<way
 ·simp only [if_pos f]at a
  by_cases b:way % 4=0
  ·simp only [if_pos b]at a;exact .inl ⟨-c,fun q h=>by have:=a q h;omega⟩
  ·simp only [if_neg b]at a
   by_cases d:way % 4=1
   ·simp only [if_pos d]at a;exact .inr ⟨-c,fun q h=>by have:=a q h;omega⟩
   ·simp only [if_neg d]at a
    by_cases e:way % 4=2
    ·simp only [if_pos e]at a;exact .inl ⟨c,fun q h=>by have:=a q h;omega⟩
    ·simp only [if_neg e]at a;exact .inr ⟨c,fun q h=>by have:=a q h;omega⟩
 ·simp only [if_neg f]at a
  by_cases b:way % 4=0
  ·simp only [if_pos b]at a;exact .inl ⟨c,fun q h=>by have:=a q h;omega⟩
  ·simp only [if_neg b]at a
   by_cases d:way % 4=1
   ·simp only [if_pos d]at a;exact .inr ⟨-c,fun q h=>by have:=a q h;omega⟩
   ·simp only [if_neg d]at a
    by_cases e:way % 4=2
    ·simp only [if_pos e]at a;exact .inl ⟨-c,fun q h=>by have:=a q h;omega⟩
    ·simp only [if_neg e]at a;exact .inr ⟨c,fun q h=>by have:=a q h;omega⟩
theorem zgi {ps:List (Int×Int)} (h:FlatX (settledP ps)):FlatX ps:=by
 obtain⟨c,b⟩:=h;refine⟨c+(leastP ps).1,fun q a=>?_⟩
 have d:q∈ps.drop (idxN ps)++ps.take (idxN ps):=by
  rw [←List.take_append_drop (idxN ps) ps]at a
  rcases List.mem_append.1 a with h|h
  ·exact List.mem_append_right _ h
  ·exact List.mem_append_left _ h
 have:=b _ (List.mem_map.2 ⟨q,d,rfl⟩);dsimp only at this;omega
theorem zdl {p:Pl} (h:placedOk p=true):¬FlatX (cornersP p):=by
 intro ⟨c,b⟩;have f:=(zbA h).1
 have d:convexB p.shape=true:=by
  unfold stoneB at f;simp only [Bool.and_eq_true]at f
  cases hcc:convexB p.shape
  ·have:=f.1.1.1.2;rw [zbS hcc]at this;cases this
  ·rfl
 obtain⟨j,k⟩:=zfM d
 have g:FlatX (turnedP p.way p.shape):=⟨c-p.ax,fun q e=>by
  have:=b _ (List.mem_map.2 ⟨q,e,rfl⟩);dsimp only at this;omega⟩
 unfold turnedP at g;have a:=zgi g
 have i:FlatX (p.shape.map (wayP p.way)):=by
  split at a
  ·obtain⟨c,b⟩:=a
   exact⟨c,fun q e=>b q (List.mem_reverse.2 e)⟩
  ·exact a
 rcases zlV i with h|h
 ·exact j h
 ·exact k h
theorem zl1 {xs:List Int} {n:Nat} (l:xs.length=n) (h:∀i,i<n→xs.getD ((i+1) % n) 0≤xs.getD i 0):∀x∈xs,x=xs.getD 0 0:=by
 have a:∀i,i<n→xs.getD i 0≤xs.getD 0 0:=by
  intro i
  induction i with
  | zero=>intro _;exact Int.le_refl _
  | succ i f =>
   intro b;have g:=f oM;have c:=h i oM;rw [Nat.mod_eq_of_lt b]at c;omega
 have up:∀k i,i+k=n-1→i<n→xs.getD (n-1) 0≤xs.getD i 0:=by
  intro k
  induction k with
  | zero=>intro i b l;rw [show i=n-1 by omega];exact Int.le_refl _
  | succ k f =>
   intro i b d;have g:=f (i+1) oM oM;have c:=h i d;rw [Nat.mod_eq_of_lt oM]at c;omega
 intro x m;obtain⟨i,b,rfl⟩:=List.mem_iff_getElem.1 m;have e:xs.getD i 0=xs[i]:=by rw [gD,gE b];rfl
 have g:=a i oM;have c:=up (n-1-i) i oM oM;have j:=h (n-1) oM;rw [show n-1+1=n by omega,Nat.mod_self]at j;omega
theorem zhl (cs:List (Int×Int)) (i:Nat):(cs.map (·.1)).getD i 0=(cs.getD i (0,0)).1:=by
 rw [gD,gD,lP]
 cases cs[i]?<;>rfl
theorem zjO {p:Pl} (h:placedOk p=true):lowRaw (cornersP p) (cornersP p).length≠[]:=by
 intro e
 apply zdl h
 have d:∀i,i<(cornersP p).length→¬((cornersP p).getD i (0,0)).1<((cornersP p).getD ((i+1) % (cornersP p).length) (0,0)).1:=by
  intro i a b;unfold lowRaw at e;rw [List.flatMap_eq_nil_iff]at e;have:=e i (List.mem_range.2 a);unfold edgeLow at this;rw [if_pos b]at this
  cases this
 refine⟨_,fun q c=>zl1 (xs:=(cornersP p).map (·.1)) (n:=(cornersP p).length) sM (fun i a=>?_) q.1 (List.mem_map.2 ⟨q,c,rfl⟩)⟩;rw [zhl,zhl];have:=d i a;omega
theorem znt {p:Pl} (h:placedOk p=true):upRaw (cornersP p) (cornersP p).length≠[]:=by
 intro e
 apply zdl h
 have f:∀i,i<(cornersP p).length→¬((cornersP p).getD ((i+1) % (cornersP p).length) (0,0)).1<((cornersP p).getD i (0,0)).1:=by
  intro i a b;unfold upRaw at e;rw [List.flatMap_eq_nil_iff]at e;have:=e i (List.mem_range.2 a);unfold edgeUp at this;rw [if_pos b]at this
  cases this
 refine⟨-(((cornersP p).map (fun q=>-q.1)).getD 0 0),fun q d=>?_⟩
 have c:∀i,((cornersP p).map (fun q=>-q.1)).getD i 0 = -((cornersP p).getD i (0,0)).1:=fun i=>by
  rw [gD,gD,lP]
  cases (cornersP p)[i]?<;>rfl
 have:=zl1 (xs:=(cornersP p).map (fun q=>-q.1)) (n:=(cornersP p).length) sM (fun i a=>by rw [c,c];have:=f i a;omega) (-q.1) (List.mem_map.2 ⟨q,d,rfl⟩);omega
theorem za9 (w:X) (p:Pl) (v:V) (h:IsPts w v p.shape) (a:placedOk p=true) (b:Gw w):Calls Tryz.prog 46 #[.agg (plc p v)] w (RetO w p v):=
 zf3 w p v h a b (zjO a) (znt a)
theorem zbf {α:Type} [DecidableEq α]:∀{c:List α} {x:α},x∈compactP c→x∈c
 | [],_,h=>h
 | [a],_,h=>h
 | a::b::r,x,h=>by
  rw [compactP]at h
  split at h
  ·exact mC _ (zbf h)
  ·rcases List.mem_cons.1 h with rfl|h
   ·simp
   ·exact mC _ (zbf h)
theorem zdJ {α:Type} [DecidableEq α]:∀{c:List α},c≠[]→compactP c≠[]
 | [],h=>absurd rfl h
 | [a],_=>by simp [compactP]
 | a::b::r,_=>by
  rw [compactP]
  split
  ·exact zdJ sM
  ·simp
theorem zdk {α:Type} [DecidableEq α]:∀(c:List α),(compactP c).length≤c.length
 | []=>by simp [compactP]
 | [a]=>by simp [compactP]
 | a::b::r=>by
  rw [compactP];have:=zdk (b::r)
  split
  ·simp at this ⊢;omega
  ·simp at this ⊢;omega
theorem zcO {k:Int} {a:List (Int×Int)} (h:a≠[]) (c:PBd k a) (f:a.length≤24):lineOf a≠[]∧PBd k (lineOf a)∧(lineOf a).length≤24:=by
 unfold lineOf;have b:=zba a;refine⟨zdJ (fun e=>h ?_),fun q d=>c q (b.mem_iff.1 (zbf d)),?_⟩
 ·rw [e]at b;exact b.symm.eq_nil
 ·have:=zdk (sortX a)
  rw [b.length_eq]at this;omega
def LnOk (l:List (Int×Int)):Prop:=l≠[]∧PBd 104000 l∧l.length≤64
theorem zae {p:Pl} (h:placedOk p=true):LnOk (lowP2 p)∧LnOk (upP2 p):=by
 obtain⟨d,e,h12⟩:=zaH h;have c:=ze9 d (nE _);have f:=zgP (cornersP p) (cornersP p).length;have a:=zcO (zjO h) c.1 oM;have b:=zcO (znt h) c.2 oM;exact⟨⟨a.1,a.2.1,nT a.2.2 oM⟩,⟨b.1,b.2.1,nT b.2.2 oM⟩⟩
def RetCo (w:X) (p:Pl) (e:Ending) (w':X):Prop:=(placedOk p=false∧e = .returned (.tuple #[O M 0 0,Y Z 2])∧Ext w w')∨(placedOk p=true∧∃v,e = .returned (.tuple #[v,Y Z 0])∧IsPts w' v (cornersP p)∧Ext w w')
theorem zdE (w:X) (p:Pl) (v:V) (h:IsPts w v p.shape) (hk:0≤p.skin) (T:Gw w):Calls Tryz.prog 24 #[.agg (plc p v)] w (RetCo w p):=by
 obtain⟨a,c,rfl⟩:=h.form;obtain⟨n,y⟩:=gX p.shape.length;have f:=fun W (m:Ext w W)=>zaD W p _ (h.ext' m) hk
 have g:=fun W (m:Ext w W) (b:placedOk p=true)=>zdO W p _ (h.ext' m) b (T.ext m)
 rw [y]at f g ⊢;obtain⟨R,s⟩:=gX (RetCo w p);rw [s];have x:=hd9 s;clear s h y
 cases b:placedOk p
 ·rw [b]at f
  have j:=hd9 f;have k:=hd9 b;clear f g b;obtain⟨nm,ps,d,K,P,Q,wy,z,D,sk⟩:=p;unfold plc at *;dsimp only at *;go_enter Tryz.func24,Tryz.ntmps24
  go_wp2_with(((go_at_call 45;(with_reducible refine(j.out _ ?_).mono ?_);exact eA;rintro e w1 ⟨rfl,l⟩;obtain⟨⟨t,u⟩,q⟩:=cK1 w l)))
  rw [←x.out];exact .inl ⟨k.out,rfl,eA⟩
 ·rw [b]at f
  have i:=fun W m=>g W m b
  have j:=hd9 f;have r:=hd9 i;have k:=hd9 b;clear f g i b;obtain⟨nm,ps,d,K,P,Q,wy,z,D,sk⟩:=p;unfold plc at *;dsimp only at *;go_enter Tryz.func24,Tryz.ntmps24
  go_wp2_with(first|((go_at_call 45;(with_reducible refine(j.out _ ?_).mono ?_);exact eA;rintro e w1 ⟨rfl,l⟩;obtain⟨⟨t,u⟩,q⟩:=cK1 w l))|((go_at_call 80;(with_reducible refine(r.out _ ?_).mono ?_);exact eA;rintro e w2 ⟨v2,rfl,o,aa⟩;obtain⟨a2,n2,c2,rfl⟩:=o.form3)))
  rw [←x.out];exact .inr ⟨k.out,_,rfl,o.pts,eA⟩
def wpN (_:Nat) (p:Prop):Prop:=p
theorem sN (k:Nat) {p:Prop} (h:wpN k p):p:=h
theorem oN {k:Nat} {p:Prop} (h:p):wpN k p:=h
def NQ (Q:Exit→Act→X→Prop):Exit→Act→X→Prop
 | .normal,a,w=>Q .normal a w
 | _,_,_=>False
theorem zg2 {Q:Exit→Act→X→Prop}:¬LetsOut (NQ Q):=fun⟨_,_,h⟩=>h
def noDefer (ops:Array Oper):Bool:=ops.all fun o=>match o.op with | .defer _=>false|_=>true
theorem zeY {ops:Array Oper} (h:noDefer ops=true) {i:Nat} {o:Oper} (d:ops[i]?=J o):∀c,o.op ≠ .defer c:=by
 intro c a;unfold noDefer at h;rw [Array.all_eq_true]at h;obtain⟨b,rfl⟩:=Array.getElem?_eq_some_iff.1 d;have:=h i b;rw [a]at this
 cases this
theorem zko {l n:Nat} {P:Program} {row:String} {args:Array V} {w:X} {R:V→X→Prop} (h:Rows P row args w R):RowsIn (Fence.wide.inRound l) n P row args w R:=by
 intro c a _;obtain⟨v,b,r,s⟩:=h c a;exact⟨v,b,r,stepsIn_wide.2 s⟩
theorem zim {l n:Nat} {P:Program} {o:Oper} {a:Act} {w:X} {K:Act→X→Prop} {Q:Exit→Act→X→Prop} (i:∀c,o.op ≠ .defer c) (h:o.wp P a w K (NQ Q)):o.wpIn (Fence.wide.inRound l) n P a w K Q:=by
 refine⟨fun _ _=>trivial,?_⟩;rw [Oper.semAt_plain _ _ _ i];unfold Oper.wp at h
 generalize (execOp a.eval o).run P w=r at *
 have b:(Fence.wide.inRound l).depth.isSome=true→1≤n:=fun h=>by cases h
 cases r with
 | ok x j =>
  cases x with
  | value u=>exact h
  | skip=>exact h
  | defer d=>exact h
  | enter f args =>
   refine⟨b,CallsIn.inRound l (callsIn_wide.2 (cM h fun e k g=>?_))⟩
   cases e with
   | returned u=>exact g
   | panicked c=>exact g.elim
   | outgrown=>exact(zg2 g).elim
  | row row args=>exact⟨b,zko h⟩
  | _=>exact h.elim
 | halt x j =>
  cases x<;>first|exact h.elim|skip
theorem zcE {l n:Nat} {P:Program} {md:Region.Mode} {ops:Array Oper} {Q:Exit→Act→X→Prop} (d:noDefer ops=true):∀(fuel:Nat) (b:Array Bool) (a:Act) (w:X),
  wpAny P md ops (NQ Q) fuel b a w→wpAnyIn (Fence.wide.inRound l) n P md ops Q fuel b a w
 | 0,_,_,_,h=>h
 | fuel+1,b,a,w,h=>by
  refine⟨h.1,fun i g=>?_⟩;have c:=h.2 i g;unfold wpOp at c;unfold wpOpIn
  cases ho:ops[i]? with
  | none=>rw [ho]at c;exact zcE d fuel _ a w c
  | some o =>
   rw [ho]at c;dsimp only at c ⊢
   split
   ·rename_i hw
    rw [if_pos hw]at c
    rcases c with c|⟨_,c⟩
    ·exact Oper.wpIn_mono (fun e j f=>zcE d fuel _ e j f) (zim (zeY d ho) c)
    ·exact(zg2 c).elim
   ·rename_i hw
    rw [if_neg hw]at c;exact⟨fun _ _=>trivial,zcE d fuel _ _ w c⟩
theorem zap {l n:Nat} {P:Program} {ops:Array Oper} {Q:Exit→Act→X→Prop} {S:X→Prop} {e:Nat} {a:Act} {w:X} (d:P.follows .mixedOrders=true) (c:noDefer ops=true) (b:S w.drew)
  (h:S w.drew→wpAnyH P .any ops (NQ Q) S ops.size (Array.replicate ops.size false) a w.drew):(Code.region e ops true).wpIn (Fence.wide.inRound l) n P Q a w:=
 wpIn_region_any d (zcE c _ _ _ _ (wpAny_of_held _ _ _ _ (h b)))
end
end Go.Proofs.YtodpfeaihohpjaaGreatDoor.Cop
