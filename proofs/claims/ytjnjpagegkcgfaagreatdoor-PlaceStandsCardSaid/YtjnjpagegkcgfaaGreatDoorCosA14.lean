/- Part 15. -/
import Derived.Test.YtjnjpagegkcgfaaGreatDoorCosA13
import Derived.Test.YtjnjpagegkcgfaaGreatDoorCosA11
set_option maxRecDepth 1000000
set_option maxHeartbeats 16000000
set_option linter.unusedSimpArgs false
set_option linter.unusedVariables false
open Go.Value renaming int->O,slice->Z
open Go.IntKind renaming i64->Y
open Go renaming World->X,Value->V
namespace Go.Proofs.YtjnjpagegkcgfaaGreatDoor.Cop
section
open Go.RowKit Go.Shelf
def turnedP(way:Int)(ps:LP):LP:=settledP (if 3<way then (ps.map (wayP way)).reverse else ps.map (wayP way))
theorem zbU{nb:Bool}{ps:LP}{d g b c:Int}(h:stoneB nb ps d g b c=true):3<=ps.length/\ps.length<=12/\PBd 2000 ps/\Bd 100 b/\Bd 100 c:=by
 unfold stoneB at h;simp only[Bool.and_eq_true]at h;obtain⟨⟨⟨⟨_,a⟩,_⟩,_⟩,e⟩:=h
 have i:convexB ps=true:=by
  cases hcc:convexB ps
  ·rw[zbH hcc]at a;cases a
  ·rfl
 have j:ps.any farB=false:=by
  cases hff:ps.any farB
  ·rfl
  ·rw[zdS hff]at a;cases a
 have f:=zci i;unfold grainB wthn at e;simp at e;exact⟨f.1,f.2,zma j,by unfold Bd;omega,by unfold Bd;omega⟩
theorem znM{k way x z:Int}(a:Bd k x)(b:Bd k z):Bd k (wayP way (x,z)).1/\Bd k (wayP way (x,z)).2:=by
 have c:Bd k (-x):=by unfold Bd at *;omega
 have d:Bd k (-z):=by unfold Bd at *;omega
 have e:Bd k (- -x):=by unfold Bd at *;omega
 unfold wayP;dsimp only
 split<;>split<;>(try split)<;>(try split)<;>exact⟨by assumption,by assumption⟩
theorem PBd.way{k way:Int}{ps:LP}(h:PBd k ps):PBd k (ps.map (wayP way)):=fun p b=>by
 obtain⟨q,a,rfl⟩:=List.mem_map.1 b;exact znM (h q a).1 (h q a).2
theorem PBd.rev{k:Int}{ps:LP}(h:PBd k ps):PBd k ps.reverse:=fun p a=>h p (List.mem_reverse.1 a)
def StB(W:X)(b:Nat)(f:ByteArray)(v:V)(d a c e:Int):Prop:=W.heap[b]?=some (.cells #[.string f,v,O Y d,O Y a,O Y c,O Y e] 45 (0,0))
def TuS(w:X)(k base:Nat)(f:ByteArray)(v:V)(d b c e way:Int)(ps:LP)(g:Nat)(a:V)(W:X):Prop:=
 ∃(i:Nat)(j:V),i<=ps.length/\a=O Y i/\g=ps.length-i/\Ext w W/\base<=W.heap.size/\StB W k f j d b c e/\OwnC 43 2 W base j (((ps.take i).map (wayP way)).map pc) /\
  StB W w.heap.size f v d b c e/\W.heap[w.heap.size+1]?=some (.cells #[O Y way] 3 (0,0))/\W.heap[w.heap.size+1+1]?=some (.cells #[.string ⟨#[]⟩,Z none 0 0,O Y 0,O Y 0,O Y 0,O Y 0] 45 (0,0))/\Gw W
theorem StB.set{W:X}{b:Nat}{f:ByteArray}{v:V}{d a c e:Int}(h:StB W b f v d a c e)(u:V):StB (W.setCell ⟨b,1,none⟩ u) b f u d a c e:=by
 unfold StB at *;simp[World.setCell,Array.getElem?_modify,h]
theorem TuS.step{w wr c:X}{a:Nat}{r:ByteArray}{v v3 v4:V}{d g j l way:Int}{ps:LP}{n i:Nat}(z:ps.length=n)(y:i<n)(P:Ext w wr)(K:w.heap.size+1+1<a)
  (t:StB wr a r v3 d g j l)(m:StB wr w.heap.size r v d g j l)(p:wr.heap[w.heap.size+1]?=some (.cells #[O Y way] 3 (0,0)))
  (q:wr.heap[w.heap.size+1+1]?=some (.cells #[.string ⟨#[]⟩,Z none 0 0,O Y 0,O Y 0,O Y 0,O Y 0] 45 (0,0)))(x:Gw w)
  (f:Below (a+1) wr c)(b:OwnC 43 2 c (a+1) v4 (((ps.take (i+1)).map (wayP way)).map pc)) :
  TuS w a (a+1) r v d g j l way ps (n-(i+1)) (O Y ((i:Int)+1)) (c.setCell ⟨a,1,none⟩ v4):=by
 have R:a<wr.heap.size:=zaa t;have u:Ext w c:=P.thenB f oM;have L:=f.size
 have E:∀{k:Nat}{o:Obj},k<a->wr.heap[k]?=some o->(c.setCell ⟨a,1,none⟩ v4).heap[k]?=some o:=fun Q D=>by
  rw[bS _ _ _ _ dO,f.block _ oM];exact D
 have s:Ext w (c.setCell ⟨a,1,none⟩ v4):=u.set dO _;refine⟨i+1,v4,by omega,by go_num,by rw[z],s,by simp only[qcZ];omega,StB.set (v:=v3) ((f.block a oM).trans t) _,b.setOther (fun e=>?_) _,E oM m,E oM p,E oM q,x.ext s⟩;have:=(b.lt _ e).1;dsimp only at this;omega
theorem OwnC.pts{w:X}{base:Nat}{v:V}{b:LP}(h:OwnC 43 2 w base v (b.map pc)):IsPts w v b:=
 OwnC.sl h sM (fun i c x a d=>by
  rw[lP,d]at a
  cases a;rfl)
def RetT(w:X)(b:ByteArray)(d a:Int)(g:Int×Int)(c:LP)(e:Ending)(w':X):Prop:=
 ∃v',e = .returned (.tuple #[.agg #[.string b,v',O Y d,O Y a,O Y g.1,O Y g.2],O Y 0])/\OwnC 43 2 w' w.heap.size v' (c.map pc)/\Ext w w'
theorem zix(w:X)(L:ByteArray)(v:V)(ps:LP)(d K s t way:Int)(h:IsPts w v ps)(hB:stoneB (namedB L) ps d K s t=true)(aV:0<=way)(aW:way<=7)(hg:Gw w) :
  Calls Tryz.prog 153 #[.agg #[.string L,v,O Y d,O Y K,O Y s,O Y t],O Y way] w (RetT w L d K (wayP way (s,t)) (turnedP way ps)):=by
 obtain⟨a,c,rfl⟩:=h.form;obtain⟨h3,h12,a7,a9,ba⟩:=zbU hB;have ai:=fun W (hW:Ext w W)=>zfe W L _ ps d K s t (h.ext' hW)
 rw[hB]at ai;simp only[if_true]at ai;have bi:wthn way 0 7=true:=by simp[wthn];omega
 obtain⟨n,hn⟩:=gX ps.length;rw[hn]at h ai ⊢;have bl:=hd9 ai;have aD:=hd9 a7;have a1:=hd9 a9;have a2:=hd9 ba;have Hn:=hd9 hn;have br:=hd9 bi;have Hg:=hd9 hg;obtain⟨R,hR⟩:=gX (RetT w L d K (wayP way (s,t)) (turnedP way ps));rw[hR];have HR:=hd9 hR;have bF:∀(fn:Fn)(first cap:Array V)(w:X),(Instr.makeFunc fn first cap).run Tryz.prog w = .ok (.func fn first cap) w:=fun _ _ _ _=>rfl
 clear ai a7 a9 ba bi hg hB hR;rw[hn]at h3 h12;clear hn;go_enter Tryz.func153,Tryz.ntmps153
 go_wp2_with(first|((go_at_call 91;(with_reducible refine(bl.out _ ?_).mono ?_);exact eA;rintro e w1 ⟨rfl,aX⟩;obtain⟨⟨bs,bv⟩,aA,aB,aC⟩:=cK3 w aX))|((go_at_call 160;(with_reducible refine(zag _ way 0 7).mono ?_);rw[br.out];rintro e w2 ⟨rfl,ae⟩;obtain⟨bt,bw⟩:=ae.cells;have bj:=ae.lt aA;have bk:=ae.lt aB;have ar:=ae.lt aC)))
 have ax:Ext w w2:=eA;have ay:Ext (((w.alloc (.cells #[.string L,Z a n c,O Y d,O Y K,O Y s,O Y t] 45)).alloc (.cells #[O Y way] 3)).alloc (.cells #[.string ⟨#[]⟩,Z none 0 0,O Y 0,O Y 0,O Y 0,O Y 0] 45)) w2:=aX.trans ae;obtain⟨g,ap⟩:=gX w2.heap.size;have a3:=hd9 ap;rw[ap];rw[ap]at ar;have bG:w.heap.size<=g:=by rw[<-ap];exact ax.size
 clear ap
 go_loopg [27] n (TuS w g (g+1) L (Z a n c) d K s t way ps)
 case atStart =>
  have hy:=(eR w2).alloc (.cells #[.string L,Z none 0 0,O Y d,O Y K,O Y s,O Y t] 45);refine⟨0,Z none 0 0,by omega,rfl,by rw[Hn.out];rfl,ax.alloc _,by simp[a3.out],qhA _ _ _ a3.out.symm,by simpa using OwnC.nil _ _ _ _,hy.heapS (ay.heapS ?_),hy.heapS (ay.heapS ?_),hy.heapS (ay.heapS (qhA _ _ _ sM)),(Hg.out.ext ax).ext hy⟩
  ·rw[zaf,if_neg (by simp;omega),zaf,if_neg sM];exact qhA _ _ _ rfl
  ·rw[zaf,if_neg sM];exact qhA _ _ _ sM
 case round =>
  have bA:w.heap.size+1+1<g:=ar;clear bs bv bt bw aX ae ax ay aA aB aC bj bk ar;obtain⟨i,vv,hi,rfl,rfl,hx,bh,h8,an,aS,aw,aT,av⟩:=hrel;rw[Hn.out]at hi;obtain⟨va,vn,vc,rfl⟩:=an.form3;have c8:=qcB h8 (i:=1) (u:=Z va vn vc) rfl;have f8:=qfB h8;have cw:=qcB aw (i:=0) (u:=O Y way) rfl;have z8:g<wr.heap.size:=zaa h8;have H8:=hd9 h8;have ac:=hd9 an;have aH:=hd9 aS;have aI:=hd9 aw;have aJ:=hd9 aT;have bD:=hd9 av;have bE:wr.heap.size+1<=wr.heap.size+1:=nE _
  by_cases bc:i<n
  ·obtain⟨⟨x,z⟩,hq⟩:∃q,ps[i]?=some q:=⟨ps[i]'(by rw[Hn.out];omega),by simp[Hn.out,bc]⟩
   obtain⟨b,o,rfl,hb,d0,d1⟩:=(h.ext' hx).at' hq;have au:=aD.out (x,z) (lM hq);have bC:=hd9 au;obtain⟨⟨x2,z2⟩,aZ⟩:∃q,wayP way (x,z)=q:=⟨_,rfl⟩;have aU:=fun(W:X)(hW:Ext wr W)=>zee W x z way (w.heap.size+1) (hW.cellS cw) aV aW (av.ext hW) (au.1.mono dM) (au.2.mono dM)
   rw[aZ]at aU;have bq:=hd9 aU
   have bg:((ps.take (i+1)).map (wayP way)).map pc=((ps.take i).map (wayP way)).map pc++[pc (x2,z2)]:=by
    rw[zab _ _ _ hq,List.map_append,List.map_append,<-aZ];rfl
   have bp:=hd9 bg;have bb:(((ps.take i).map (wayP way)).map pc).length+1<=100000000000:=by simp;omega
   have bm:=hd9 bb;have p1:(0:Int)<=(i:Int):=oM
   have p2:(i:Int)<(n:Int):=oM
   clear hq au aU bg bb av aS aw aT h8 aZ;go_wp2
   go_region_law (first|(go_simp;go_at_call 197;go_wp2_with(go_at_call 197;(with_reducible refine(bq.out _ ?_).mono ?_);exact eA;rintro e j ⟨rfl,aY⟩;obtain⟨bu,bx⟩:=aY.cells;(try simp only[qcD,qfD,qdZ]at bu bx);(have y3:=aY.lt (n:=g) (by simp only[wZ,qdZ];omega));(have y4:=aY.lt (n:=wr.heap.size) (by simp only[wZ,qdZ];omega))))|(refine zed (v:=Z va vn vc) (base:=g+1) zbE rfl dM dM Tryz.underlying38 (by rfl) _ _ (by rfl) (by rfl) (cs:=((ps.take i).map (wayP way)).map pc) (ac.out.ext ?_) (by rfl) [pc (x2,z2)] rfl (by simp[pc]) (zgs _ _ _ _) (zdT _ _) bm.out ?_ ?_;exact eA;(simp only[wZ,qdZ];omega);intro v4 w4 ao aP bB;obtain⟨a4,n4,c4,rfl⟩:=ao.form3;(have B4:Below (g+1) wr w4:=by(refine Below.trans (Below.mono (B':=g+1) (show Ext wr _ from ?_) bh) (zad aP ?_ (fun k hk=>(ac.out.lt k hk).1));exact eA;(simp only[wZ,qdZ];omega)));(have r:=(B4.block g oM).trans H8.out);(have c9:=qcB r (i:=1) (u:=Z va vn vc) rfl);(have f9:=qfB r 1)))
   all_goals go_wp2
   all_goals
    go_roundg (n-(i+1))
    case measure=>have:=Hn.out;omega
    case rel=>exact TuS.step Hn.out bc hx bA H8.out aH.out aI.out aJ.out Hg.out B4 (by rw[bp.out];exact ao)
  ·obtain rfl:i=n:=oM
   have e:(ps.take i).map (wayP way)=ps.map (wayP way):=by rw[lT (by rw[Hn.out];exact nE _)]
   have aa:=ac.out;rw[e]at aa;have az:(ps.map (wayP way)).length=i:=by simp[Hn.out]
   have a6:PBd 1000000 (ps.map (wayP way)):=fun p hp=>⟨(aD.out.way p hp).1.mono dM,(aD.out.way p hp).2.mono dM⟩
   have P:=hd9 aa;have ag:=hd9 az;have a0:=hd9 a6;clear e an aa az a6 av aS aw aT h8 ac
   by_cases ad:3<way
   ·have k3:decide (3<way)=true:=by simpa using ad
    have be:=znv wr (g+1) (Z va vn vc) (ps.map (wayP way)) P.out (by rw[ag.out];omega);have bo:=hd9 be;obtain⟨ls,l⟩:=gX ((ps.map (wayP way)).reverse);have HL:Hid (turnedP way ps=settledP ls):=hd9 (by unfold turnedP;rw[if_pos ad,l]);have aj:ls.length=i:=by rw[<-l,List.length_reverse];exact ag.out
    have ak:PBd 1000000 ls:=by rw[<-l];exact a0.out.rev
    have bn:=hd9 l;have af:=hd9 aj;have aF:=hd9 ak;clear be l aj ak ad
    go_wp2_with(((go_at_call 198;(with_reducible refine bo.out.mono ?_);rintro e j ⟨rfl,T,a8⟩)))
    have B3:Below (g+1) wr j:=zad a8 bh (fun k hk=>(P.out.lt k hk).1);rw[bn.out]at T;have aG:=hd9 T;clear T a8;have r:StB j g L (Z va vn vc) d K s t:=(B3.block g oM).trans H8.out;have E0:StB j w.heap.size L _ d K s t:=(B3.block w.heap.size oM).trans aH.out;have E1:=(B3.block (w.heap.size+1) oM).trans aI.out;have D:=(B3.block (w.heap.size+1+1) oM).trans aJ.out;have X3:Ext w j:=hx.thenB B3 oM;have b0:=qcB r (i:=0) (u:=.string L) rfl;have b1:=qcB r (i:=1) (u:=Z va vn vc) rfl;have b2:=qcB r (i:=2) (u:=O Y d) rfl;have b3:=qcB r (i:=3) (u:=O Y K) rfl;have b4:=qcB r (i:=4) (u:=O Y s) rfl;have b5:=qcB r (i:=5) (u:=O Y t) rfl;have bf:=qfB r;have a4:=qcB E0 (i:=4) (u:=O Y s) rfl;have a5:=qcB E0 (i:=5) (u:=O Y t) rfl;have e0:=qcB D (i:=0) (u:=.string ⟨#[]⟩) rfl;have e1:=qcB D (i:=1) (u:=Z none 0 0) rfl;have e2:=qcB D (i:=2) (u:=O Y 0) rfl;have e3:=qcB D (i:=3) (u:=O Y 0) rfl;have e4:=qcB D (i:=4) (u:=O Y 0) rfl;have e5:=qcB D (i:=5) (u:=O Y 0) rfl;have ef:=qfB D;have y0:g<j.heap.size:=zaa r;have y1:w.heap.size+1+1<j.heap.size:=oM
    have y2:w.heap.size<j.heap.size:=oM
    have aq:=fun(W:X)(hW:Ext j W)=>zc9 W (Z va vn vc) ls (aG.out.pts.ext' hW) (by rw[af.out];omega) (by rw[af.out];omega) aF.out
    obtain⟨⟨g1,g2⟩,Q⟩:∃q,wayP way (s,t)=q:=⟨_,rfl⟩;have ab:=fun(W:X)(hW:Ext j W)=>zee W s t way (w.heap.size+1) (hW.cellS (qcB E1 (i:=0) rfl)) aV aW ((Hg.out.ext X3).ext hW) (a1.out.mono dM) (a2.out.mono dM)
    rw[Q]at ab;have aK:=hd9 aq;have aL:=hd9 ab;have aE:=hd9 Q;clear aq ab Q E0 E1 D r
    first|(go_region_with (first|((go_at_call 199;(with_reducible refine(aK.out _ ?_).mono ?_);exact eA;rintro e w4 ⟨v4,rfl,y,m⟩;obtain⟨q4,n4,c4,rfl⟩:=y.form3;obtain⟨ah,aO⟩:=m.cells;(try simp only[qcD,qfD,qdZ]at ah aO);have u0:=m.lt (n:=g) y0;have u1:=m.lt (n:=w.heap.size+1+1) y1;have u2:=m.lt (n:=w.heap.size) y2;have X4:Ext j w4:=(eR j).drew.trans m))|((go_at_call 197;(with_reducible refine(aL.out _ ?_).mono ?_);exact eA;rintro e w5 ⟨rfl,f⟩;obtain⟨aM,bz⟩:=f.cells;have t0:=f.lt u0;have t1:=f.lt u1;have t2:=f.lt u2))))|fail
    all_goals go_wp2
    all_goals
     have am:(Value.slice q4 n4 c4).ownBlock≠some g:=fun e=>by
      have:=(y.lt _ e).1;simp only[qdZ]at this;omega
     have al:(Value.slice q4 n4 c4).ownBlock≠some (w.heap.size+1+1):=fun e=>by
      have:=(y.lt _ e).1;simp only[qdZ]at this;omega
     have X5:Ext w w5:=(X3.trans X4).trans f;have aQ:¬g=w.heap.size+1+1:=oM
     have aR:¬w.heap.size+1+1=g:=oM
     refine bR (v:=.tuple #[.agg #[.string L,Z q4 n4 c4,O Y d,O Y K,O Y g1,O Y g2],O Y 0]) (by simp[results,Tryz.results153,go_sem,aM,ah,u1,y1,e0,e1,e2,e3,e4,e5,aQ,aR]) rfl ?_;rw[<-HR.out,aE.out,HL.out];refine⟨_,rfl,OwnC.mono (b':=w.heap.size) ?_ X3.size,eA⟩
     repeat(refine OwnC.setOther ?_ (by first|exact am|exact al) _)
     exact OwnC.ext y f
   ·have k3:decide (3<way)=false:=by simpa using ad
    obtain⟨ls,l⟩:=gX (ps.map (wayP way));have HL:Hid (turnedP way ps=settledP ls):=hd9 (by unfold turnedP;rw[if_neg ad,l]);have aj:ls.length=i:=by rw[<-l];exact ag.out
    have ak:PBd 1000000 ls:=by rw[<-l];exact a0.out
    have T:=P.out;rw[l]at T;have aG:=hd9 T;have af:=hd9 aj;have aF:=hd9 ak;clear l aj ak ad T;obtain⟨j,rfl⟩:∃j,j=wr:=⟨_,rfl⟩;have B3:Below (g+1) j j:=Below.refl _ _;go_wp2;have r:StB j g L (Z va vn vc) d K s t:=(B3.block g oM).trans H8.out;have E0:StB j w.heap.size L _ d K s t:=(B3.block w.heap.size oM).trans aH.out;have E1:=(B3.block (w.heap.size+1) oM).trans aI.out;have D:=(B3.block (w.heap.size+1+1) oM).trans aJ.out;have X3:Ext w j:=hx.thenB B3 oM;have b0:=qcB r (i:=0) (u:=.string L) rfl;have b1:=qcB r (i:=1) (u:=Z va vn vc) rfl;have b2:=qcB r (i:=2) (u:=O Y d) rfl;have b3:=qcB r (i:=3) (u:=O Y K) rfl;have b4:=qcB r (i:=4) (u:=O Y s) rfl;have b5:=qcB r (i:=5) (u:=O Y t) rfl;have bf:=qfB r;have a4:=qcB E0 (i:=4) (u:=O Y s) rfl;have a5:=qcB E0 (i:=5) (u:=O Y t) rfl;have e0:=qcB D (i:=0) (u:=.string ⟨#[]⟩) rfl;have e1:=qcB D (i:=1) (u:=Z none 0 0) rfl;have e2:=qcB D (i:=2) (u:=O Y 0) rfl;have e3:=qcB D (i:=3) (u:=O Y 0) rfl;have e4:=qcB D (i:=4) (u:=O Y 0) rfl;have e5:=qcB D (i:=5) (u:=O Y 0) rfl;have ef:=qfB D;have y0:g<j.heap.size:=zaa r;have y1:w.heap.size+1+1<j.heap.size:=oM
    have y2:w.heap.size<j.heap.size:=oM
    have aq:=fun(W:X)(hW:Ext j W)=>zc9 W (Z va vn vc) ls (aG.out.pts.ext' hW) (by rw[af.out];omega) (by rw[af.out];omega) aF.out
    obtain⟨⟨g1,g2⟩,Q⟩:∃q,wayP way (s,t)=q:=⟨_,rfl⟩;have ab:=fun(W:X)(hW:Ext j W)=>zee W s t way (w.heap.size+1) (hW.cellS (qcB E1 (i:=0) rfl)) aV aW ((Hg.out.ext X3).ext hW) (a1.out.mono dM) (a2.out.mono dM)
    rw[Q]at ab;have aK:=hd9 aq;have aL:=hd9 ab;have aE:=hd9 Q;clear aq ab Q E0 E1 D r
    first|(go_region_with (first|((go_at_call 199;(with_reducible refine(aK.out _ ?_).mono ?_);exact eA;rintro e w4 ⟨v4,rfl,y,m⟩;obtain⟨q4,n4,c4,rfl⟩:=y.form3;obtain⟨ah,aO⟩:=m.cells;(try simp only[qcD,qfD,qdZ]at ah aO);have u0:=m.lt (n:=g) y0;have u1:=m.lt (n:=w.heap.size+1+1) y1;have u2:=m.lt (n:=w.heap.size) y2;have X4:Ext j w4:=(eR j).drew.trans m))|((go_at_call 197;(with_reducible refine(aL.out _ ?_).mono ?_);exact eA;rintro e w5 ⟨rfl,f⟩;obtain⟨aM,bz⟩:=f.cells;have t0:=f.lt u0;have t1:=f.lt u1;have t2:=f.lt u2))))|fail
    all_goals go_wp2
    all_goals
     have am:(Value.slice q4 n4 c4).ownBlock≠some g:=fun e=>by
      have:=(y.lt _ e).1;simp only[qdZ]at this;omega
     have al:(Value.slice q4 n4 c4).ownBlock≠some (w.heap.size+1+1):=fun e=>by
      have:=(y.lt _ e).1;simp only[qdZ]at this;omega
     have X5:Ext w w5:=(X3.trans X4).trans f;have aQ:¬g=w.heap.size+1+1:=oM
     have aR:¬w.heap.size+1+1=g:=oM
     refine bR (v:=.tuple #[.agg #[.string L,Z q4 n4 c4,O Y d,O Y K,O Y g1,O Y g2],O Y 0]) (by simp[results,Tryz.results153,go_sem,aM,ah,u1,y1,e0,e1,e2,e3,e4,e5,aQ,aR]) rfl ?_;rw[<-HR.out,aE.out,HL.out];refine⟨_,rfl,OwnC.mono (b':=w.heap.size) ?_ X3.size,eA⟩
     repeat(refine OwnC.setOther ?_ (by first|exact am|exact al) _)
     exact OwnC.ext y f
end
end Go.Proofs.YtjnjpagegkcgfaaGreatDoor.Cop
