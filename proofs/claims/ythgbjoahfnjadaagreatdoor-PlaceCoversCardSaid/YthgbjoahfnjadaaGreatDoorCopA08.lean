import Derived.Test.YthgbjoahfnjadaaGreatDoorCopA07
import Derived.Laws.StructEq
set_option maxRecDepth 1000000
set_option maxHeartbeats 16000000
set_option linter.all false
open Go.Value renaming int->O,slice->I,agg->H
open Go.IntKind renaming i64->V
open Option renaming some->J,none->N
open Go renaming Value->C,World->F
open Go.Obj renaming cells->G
namespace Go.Proofs.YthgbjoahfnjadaaGreatDoor.Cop
section
open Go.RowKit Go.Shelf
def Lb(way:Int)(ps:LP):LP:=Nb (if 3<way then (ps.map (jb way)).reverse else ps.map (jb way))
def Xm{nb:Bool}{ps:LP}{d g b c:Int}(h:ud nb ps d g b c=true):3<=ps.length/\ps.length<=12/\Se 2000 ps/\Bd 100 b/\Bd 100 c:=by
 unfold ud at h;simp only[Bool.and_eq_true]at h;obtain⟨⟨⟨⟨_,a⟩,_⟩,_⟩,e⟩:=h;have i:Ta ps=true:=by
  cases hcc:Ta ps
  ·rw[Es hcc]at a;cases a
  ·rfl
 have j:ps.any Fe=false:=by
  cases hff:ps.any Fe
  ·rfl
  ·rw[GB hff]at a;cases a
 have f:=Nu i;unfold Ze xb at e;simp at e;exact⟨f.1,f.2,Sv j,by unfold Bd;omega,by unfold Bd;omega⟩
def nD{k way x z:Int}(a:Bd k x)(b:Bd k z):Bd k (jb way (x,z)).1/\Bd k (jb way (x,z)).2:=by
 have c:Bd k (-x):=by unfold Bd at *;omega
 have d:Bd k (-z):=by unfold Bd at *;omega
 have e:Bd k (- -x):=by unfold Bd at *;omega
 unfold jb;dsimp only;split<;>split<;>(try split)<;>(try split)<;>exact⟨by assumption,by assumption⟩
def Se.way{k way:Int}{ps:LP}(h:Se k ps):Se k (ps.map (jb way)):=fun p b=>by
 obtain⟨q,a,rfl⟩:=List.mem_map.1 b;exact nD (h q a).1 (h q a).2
def Se.rev{k:Int}{ps:LP}(h:Se k ps):Se k ps.reverse:=fun p a=>h p (List.mem_reverse.1 a)
def Uj(W:F)(b:Nat)(f:ByteArray)(v:C)(d a c e:Int):Prop:=W.heap[b]?=J (G #[.string f,v,O V d,O V a,O V c,O V e] 70 (0,0))
def Ns(w:F)(k base:Nat)(f:ByteArray)(v:C)(d b c e way:Int)(ps:LP)(g:Nat)(a:C)(W:F):Prop:=
 ∃(i:Nat)(j:C),i<=ps.length/\a=O V i/\g=ps.length-i/\oa w W/\base<=W.heap.size/\Uj W k f j d b c e/\Ga 55 2 W base j (((ps.take i).map (jb way)).map pc)/\
  Uj W w.heap.size f v d b c e/\W.heap[w.heap.size+1]?=J (G #[O V way] 3 (0,0))/\W.heap[w.heap.size+1+1]?=J (G #[.string ⟨#[]⟩,I N 0 0,O V 0,O V 0,O V 0,O V 0] 70 (0,0))/\Gw W
def Uj.set{W:F}{b:Nat}{f:ByteArray}{v:C}{d a c e:Int}(h:Uj W b f v d a c e)(u:C):Uj (W.setCell ⟨b,1,N⟩ u) b f u d a c e:=by unfold Uj at *;simp[World.setCell,Array.getElem?_modify,h]
def Ns.step{w wr c:F}{a:Nat}{s:ByteArray}{v v3 v4:C}{d g j l way:Int}{ps:LP}{n i:Nat}(K:ps.length=n)(z:i<n)(hx:oa w wr)(R:w.heap.size+1+1<a)(u:Uj wr a s v3 d g j l)(m:Uj wr w.heap.size s v d g j l)(q:wr.heap[w.heap.size+1]?=J (G #[O V way] 3 (0,0)))(r:wr.heap[w.heap.size+1+1]?=J (G #[.string ⟨#[]⟩,I N 0 0,O V 0,O V 0,O V 0,O V 0] 70 (0,0)))(y:Gw w)(f:Below (a+1) wr c)(b:Ga 55 2 c (a+1) v4 (((ps.take (i+1)).map (jb way)).map pc)):Ns w a (a+1) s v d g j l way ps (n-(i+1)) (O V ((i:Int)+1)) (c.setCell ⟨a,1,N⟩ v4):=by
 have z8:a<wr.heap.size:=jc u;have x:oa w c:=hx.E f oM;have T:=f.size;have E:∀{k:Nat}{o:Obj},k<a->wr.heap[k]?=J o->(c.setCell ⟨a,1,N⟩ v4).heap[k]?=J o:=fun hk P=>by
  rw[bS _ _ _ _ dO,f.block _ oM];exact P
 have t:oa w (c.setCell ⟨a,1,N⟩ v4):=x.set dO _;refine⟨i+1,v4,by omega,by go_num,by rw[K],t,by simp only[sf];omega,Uj.set (v:=v3) ((f.block a oM).trans u) _,b.setOther (fun e=>?_) _,E oM m,E oM q,E oM r,y.ext t⟩;have:=(b.lt _ e).1;dsimp only at this;omega
def Ga.pts{w:F}{base:Nat}{v:C}{b:LP}(h:Ga 55 2 w base v (b.map pc)):Aa w v b:=
 Ga.sl h sM (fun i c x a d=>by
  rw[lP,d]at a;cases a;rfl)
def oq(w:F)(b:ByteArray)(d a:Int)(g:Int×Int)(c:LP)(e:Ending)(w':F):Prop:=
 ∃v',e=.returned (.tuple #[H #[.string b,v',O V d,O V a,O V g.1,O V g.2],O V 0])/\Ga 55 2 w' w.heap.size v' (c.map pc)/\oa w w'
def kK(w:F)(P:ByteArray)(v:C)(ps:LP)(d K s t way:Int)(h:Aa w v ps)(hB:ud (Xe P) ps d K s t=true)(aX:0<=way)(aY:way<=7)(hg:Gw w):Calls Tryz.prog 212 #[H #[.string P,v,O V d,O V K,O V s,O V t],O V way] w (oq w P d K (jb way (s,t)) (Lb way ps)):=by
 obtain⟨a,c,rfl⟩:=h.form;obtain⟨h3,Sh,a9,bb,bc⟩:=Xm hB;have ak:=fun W (hW:oa w W)=>lu W P _ ps d K s t (h.i hW);rw[hB]at ak;simp only[if_true]at ak;have bj:xb way 0 7=true:=by simp[xb];omega
 obtain⟨n,hn⟩:=gX ps.length;rw[hn]at h ak ⊢;have bm:=ia ak;have aF:=ia a9;have a3:=ia bb;have a6:=ia bc;have Hn:=ia hn;have bs:=ia bj;have Hg:=ia hg;obtain⟨R,hR⟩:=gX (oq w P d K (jb way (s,t)) (Lb way ps));rw[hR];have HR:=ia hR;have bG:∀(fn:Fn)(first cap:Array C)(w:F),(Instr.makeFunc fn first cap).run Tryz.prog w = .ok (.func fn first cap) w:=fun _ _ _ _=>rfl;clear ak a9 bb bc bj hg hB hR;rw[hn]at h3 Sh;clear hn;go_in;go_wp2_with(first|((go_at_call 154;refine cM (bm.o _ eA) ?_;rintro e w1 ⟨rfl,aZ⟩;obtain⟨⟨bt,bw⟩,aC,aD,aE⟩:=oc w aZ))|((go_at_call 194;(with_reducible refine(jk _ way 0 7).mono ?_);rw[bs.o];rintro e w2 ⟨rfl,ag⟩;obtain⟨bu,bx⟩:=ag.cells;have bk:=ag.lt aC;have bl:=ag.lt aD;have av:=ag.lt aE)));have az:oa w w2:=eA;have aA:oa (((w.alloc (G #[.string P,I a n c,O V d,O V K,O V s,O V t] 70)).alloc (G #[O V way] 3)).alloc (G #[.string ⟨#[]⟩,I N 0 0,O V 0,O V 0,O V 0,O V 0] 70)) w2:=aZ.trans ag;obtain⟨g,ar⟩:=gX w2.heap.size;have a7:=ia ar;rw[ar];rw[ar]at av;have bH:w.heap.size<=g:=by rw[<-ar];exact az.size
 clear ar;go_loopg [27] n (Ns w g (g+1) P (I a n c) d K s t way ps)
 case atStart =>
  have hy:=(eR w2).alloc (G #[.string P,I N 0 0,O V d,O V K,O V s,O V t] 70);refine⟨0,I N 0 0,by omega,rfl,by rw[Hn.o];rfl,az.alloc _,by simp[a7.o],Kc _ _ _ a7.o.symm,by simpa using Ga.nil _ _ _ _,hy.e (aA.e ?_),hy.e (aA.e ?_),hy.e (aA.e (Kc _ _ _ sM)),(Hg.o.ext az).ext hy⟩
  ·rw[Ef,if_neg (by simp;omega),Ef,if_neg sM];exact Kc _ _ _ rfl
  ·rw[Ef,if_neg sM];exact Kc _ _ _ sM
 case round =>
  have bB:w.heap.size+1+1<g:=av;clear bt bw bu bx aZ ag az aA aC aD aE bk bl av;obtain⟨i,vv,hi,rfl,rfl,hx,bi,h8,ap,aU,ay,aV,ax⟩:=hrel;rw[Hn.o]at hi;obtain⟨va,vn,vc,rfl⟩:=ap.j;have c8:=ja h8 1 (I va vn vc);have f8:=Vb h8;have cw:=ja ay 0 (O V way);have z8:g<wr.heap.size:=jc h8;have H8:=ia h8;have ae:=ia ap;have aJ:=ia aU;have aK:=ia ay;have aL:=ia aV;have bE:=ia ax;have bF:wr.heap.size+1<=wr.heap.size+1:=nE _;by_cases be:i<n
  ·obtain⟨⟨x,z⟩,hq⟩:∃q,ps[i]?=J q:=⟨ps[i]'(by rw[Hn.o];omega),by simp[Hn.o,be]⟩;obtain⟨b,o,rfl,hb,d0,d1⟩:=(h.i hx).at' hq;have aw:=aF.o (x,z) (lM hq);have bD:=ia aw;obtain⟨⟨x2,z2⟩,a1⟩:∃q,jb way (x,z)=q:=⟨_,rfl⟩;have aW:=fun(W:F)(hW:oa wr W)=>Ut W x z way (w.heap.size+1) (hW.d cw) aX aY (ax.ext hW) (aw.1.mono dM) (aw.2.mono dM);rw[a1]at aW;have br:=ia aW;have bh:((ps.take (i+1)).map (jb way)).map pc=((ps.take i).map (jb way)).map pc++[pc (x2,z2)]:=by
    rw[Xf _ _ _ hq,List.map_append,List.map_append,<-a1];rfl
   have bq:=ia bh;have bd:(((ps.take i).map (jb way)).map pc).length+1<=100000000000:=by simp;omega
   have bn:=ia bd;have p1:(0:Int)<=(i:Int):=oM;have p2:(i:Int)<(n:Int):=oM;clear hq aw aW bh bd ax aU ay aV h8 a1;go_wp2
   go_region_law (first|(go_simp;go_at_call 260;go_wp2_with(go_at_call 260;(with_reducible refine(br.o _ ?_).mono ?_);exact eA;rintro e j ⟨rfl,a0⟩;obtain⟨bv,bz⟩:=a0.cells;(try simp only[Zf,Yf,Tb]at bv bz);(have y3:=a0.lt (n:=g) (by simp only[wZ,Tb];omega));(have y4:=a0.lt (n:=wr.heap.size) (by simp only[wZ,Tb];omega))))|(refine Yt (v:=I va vn vc) (base:=g+1) ul rfl dM dM Tryz.underlying32 (by rfl) _ _ (by rfl) (by rfl) (cs:=((ps.take i).map (jb way)).map pc) (ae.o.ext ?_) (by rfl) [pc (x2,z2)] rfl (by simp[pc]) (Dw _ _ _ _) (kw _ _) bn.o ?_ ?_;exact eA;(simp only[wZ,Tb];omega);intro v4 w4 aq aR bC;obtain⟨a4,n4,c4,rfl⟩:=aq.j;(have B4:Below (g+1) wr w4:=by(refine Below.trans (Below.mono (B':=g+1) (show oa wr _ from ?_) bi) (Ch aR ?_ (fun k hk=>(ae.o.lt k hk).1));exact eA;(simp only[wZ,Tb];omega)));(have r:=(B4.block g oM).trans H8.o);(have c9:=ja r 1 (I va vn vc));(have f9:=Vb r 1)))
   all_goals go_wp2
   all_goals
    go_roundg (n-(i+1))
    case measure=>have:=Hn.o;omega
    case rel=>exact Ns.step Hn.o be hx bB H8.o aJ.o aK.o aL.o Hg.o B4 (by rw[bq.o];exact aq)
  ·obtain rfl:i=n:=oM;have e:(ps.take i).map (jb way)=ps.map (jb way):=by rw[lT (by rw[Hn.o];exact nE _)]
   have ac:=ae.o;rw[e]at ac;have aB:(ps.map (jb way)).length=i:=by simp[Hn.o]
   have a8:Se 1000000 (ps.map (jb way)):=fun p hp=>⟨(aF.o.way p hp).1.mono dM,(aF.o.way p hp).2.mono dM⟩;have T:=ia ac;have ai:=ia aB;have a2:=ia a8;clear e ap ac aB a8 ax aU ay aV h8 ae;by_cases af:3<way
   ·(have k3:decide (3<way)=true:=by simpa using af);have bg:=pE wr (g+1) (I va vn vc) (ps.map (jb way)) T.o (by rw[ai.o];omega);have bp:=ia bg;obtain⟨ls,l⟩:=gX ((ps.map (jb way)).reverse);have HL:zc (Lb way ps=Nb ls):=ia (by unfold Lb;rw[if_pos af,l]);(have al:ls.length=i:=by rw[<-l,List.length_reverse];exact ai.o);(have am:Se 1000000 ls:=by rw[<-l];exact a2.o.rev);have bo:=ia l;have ah:=ia al;have aH:=ia am;clear bg l al am af;go_wp2_with(((go_at_call 261;(with_reducible refine bp.o.mono ?_);rintro e j ⟨rfl,ab,ba⟩)));have B3:Below (g+1) wr j:=Ch ba bi (fun k hk=>(T.o.lt k hk).1);rw[bo.o]at ab;have aI:=ia ab;clear ab ba;have r:Uj j g P (I va vn vc) d K s t:=(B3.block g oM).trans H8.o;have E0:Uj j w.heap.size P _ d K s t:=(B3.block w.heap.size oM).trans aJ.o;have E1:=(B3.block (w.heap.size+1) oM).trans aK.o;have y:=(B3.block (w.heap.size+1+1) oM).trans aL.o;have X3:oa w j:=hx.E B3 oM;have b0:=ja r 0 (.string P);have b1:=ja r 1 (I va vn vc);have b2:=ja r 2 (O V d);have b3:=ja r 3 (O V K);have b4:=ja r 4 (O V s);have b5:=ja r 5 (O V t);have bf:=Vb r;have a4:=ja E0 4 (O V s);have a5:=ja E0 5 (O V t);have e0:=ja y 0 (.string ⟨#[]⟩);have e1:=ja y 1 (I N 0 0);have e2:=ja y 2 (O V 0);have e3:=ja y 3 (O V 0);have e4:=ja y 4 (O V 0);have e5:=ja y 5 (O V 0);have ef:=Vb y;have y0:g<j.heap.size:=jc r;have y1:w.heap.size+1+1<j.heap.size:=oM;have y2:w.heap.size<j.heap.size:=oM;have au:=fun(W:F)(hW:oa j W)=>FB W (I va vn vc) ls (aI.o.pts.i hW) (by rw[ah.o];omega) (by rw[ah.o];omega) aH.o;obtain⟨⟨g1,g2⟩,aa⟩:∃q,jb way (s,t)=q:=⟨_,rfl⟩;have ad:=fun(W:F)(hW:oa j W)=>Ut W s t way (w.heap.size+1) (hW.d (Gb E1 (i:=0) rfl)) aX aY ((Hg.o.ext X3).ext hW) (a3.o.mono dM) (a6.o.mono dM);rw[aa]at ad;have aM:=ia au;have aO:=ia ad;have aG:=ia aa;clear au ad aa E0 E1 y r
    first|(go_region_with (first|((go_at_call 262;refine cM (aM.o _ eA) ?_;rintro e w4 ⟨v4,rfl,u,m⟩;obtain⟨q4,n4,c4,rfl⟩:=u.j;obtain⟨aj,aQ⟩:=m.cells;(try simp only[Zf,Yf,Tb]at aj aQ);have u0:=m.lt (n:=g) y0;have u1:=m.lt (n:=w.heap.size+1+1) y1;have u2:=m.lt (n:=w.heap.size) y2;have X4:oa j w4:=(eR j).drew.trans m))|((go_at_call 260;refine cM (aO.o _ eA) ?_;rintro e w5 ⟨rfl,f⟩;obtain⟨aP,bA⟩:=f.cells;have t0:=f.lt u0;have t1:=f.lt u1;have t2:=f.lt u2))))|fail
    all_goals go_wp2
    all_goals
     have ao:(Value.slice q4 n4 c4).ownBlock≠J g:=fun e=>by
      have:=(u.lt _ e).1;simp only[Tb]at this;omega
     have an:(Value.slice q4 n4 c4).ownBlock≠J (w.heap.size+1+1):=fun e=>by
      have:=(u.lt _ e).1;simp only[Tb]at this;omega
     have X5:oa w w5:=(X3.trans X4).trans f;have aS:¬g=w.heap.size+1+1:=oM;have aT:¬w.heap.size+1+1=g:=oM;refine bR (v:=.tuple #[H #[.string P,I q4 n4 c4,O V d,O V K,O V g1,O V g2],O V 0]) (by simp[results,Tryz.results212,go_sem,aP,aj,u1,y1,e0,e1,e2,e3,e4,e5,aS,aT]) rfl ?_;rw[<-HR.o,aG.o,HL.o];refine⟨_,rfl,Ga.mono (b':=w.heap.size) ?_ X3.size,eA⟩
     repeat(refine Ga.setOther ?_ (by first|exact ao|exact an) _)
     exact Ga.ext u f
   ·(have k3:decide (3<way)=false:=by simpa using af);obtain⟨ls,l⟩:=gX (ps.map (jb way));have HL:zc (Lb way ps=Nb ls):=ia (by unfold Lb;rw[if_neg af,l]);(have al:ls.length=i:=by rw[<-l];exact ai.o);(have am:Se 1000000 ls:=by rw[<-l];exact a2.o);have ab:=T.o;rw[l]at ab;have aI:=ia ab;have ah:=ia al;have aH:=ia am;clear l al am af ab;obtain⟨j,rfl⟩:∃j,j=wr:=⟨_,rfl⟩;have B3:Below (g+1) j j:=Below.refl _ _;go_wp2;have r:Uj j g P (I va vn vc) d K s t:=(B3.block g oM).trans H8.o;have E0:Uj j w.heap.size P _ d K s t:=(B3.block w.heap.size oM).trans aJ.o;have E1:=(B3.block (w.heap.size+1) oM).trans aK.o;have y:=(B3.block (w.heap.size+1+1) oM).trans aL.o;have X3:oa w j:=hx.E B3 oM;have b0:=ja r 0 (.string P);have b1:=ja r 1 (I va vn vc);have b2:=ja r 2 (O V d);have b3:=ja r 3 (O V K);have b4:=ja r 4 (O V s);have b5:=ja r 5 (O V t);have bf:=Vb r;have a4:=ja E0 4 (O V s);have a5:=ja E0 5 (O V t);have e0:=ja y 0 (.string ⟨#[]⟩);have e1:=ja y 1 (I N 0 0);have e2:=ja y 2 (O V 0);have e3:=ja y 3 (O V 0);have e4:=ja y 4 (O V 0);have e5:=ja y 5 (O V 0);have ef:=Vb y;have y0:g<j.heap.size:=jc r;have y1:w.heap.size+1+1<j.heap.size:=oM;have y2:w.heap.size<j.heap.size:=oM;have au:=fun(W:F)(hW:oa j W)=>FB W (I va vn vc) ls (aI.o.pts.i hW) (by rw[ah.o];omega) (by rw[ah.o];omega) aH.o;obtain⟨⟨g1,g2⟩,aa⟩:∃q,jb way (s,t)=q:=⟨_,rfl⟩;have ad:=fun(W:F)(hW:oa j W)=>Ut W s t way (w.heap.size+1) (hW.d (Gb E1 (i:=0) rfl)) aX aY ((Hg.o.ext X3).ext hW) (a3.o.mono dM) (a6.o.mono dM);rw[aa]at ad;have aM:=ia au;have aO:=ia ad;have aG:=ia aa;clear au ad aa E0 E1 y r
    first|(go_region_with (first|((go_at_call 262;refine cM (aM.o _ eA) ?_;rintro e w4 ⟨v4,rfl,u,m⟩;obtain⟨q4,n4,c4,rfl⟩:=u.j;obtain⟨aj,aQ⟩:=m.cells;(try simp only[Zf,Yf,Tb]at aj aQ);have u0:=m.lt (n:=g) y0;have u1:=m.lt (n:=w.heap.size+1+1) y1;have u2:=m.lt (n:=w.heap.size) y2;have X4:oa j w4:=(eR j).drew.trans m))|((go_at_call 260;refine cM (aO.o _ eA) ?_;rintro e w5 ⟨rfl,f⟩;obtain⟨aP,bA⟩:=f.cells;have t0:=f.lt u0;have t1:=f.lt u1;have t2:=f.lt u2))))|fail
    all_goals go_wp2
    all_goals
     have ao:(Value.slice q4 n4 c4).ownBlock≠J g:=fun e=>by
      have:=(u.lt _ e).1;simp only[Tb]at this;omega
     have an:(Value.slice q4 n4 c4).ownBlock≠J (w.heap.size+1+1):=fun e=>by
      have:=(u.lt _ e).1;simp only[Tb]at this;omega
     have X5:oa w w5:=(X3.trans X4).trans f;have aS:¬g=w.heap.size+1+1:=oM;have aT:¬w.heap.size+1+1=g:=oM;refine bR (v:=.tuple #[H #[.string P,I q4 n4 c4,O V d,O V K,O V g1,O V g2],O V 0]) (by simp[results,Tryz.results212,go_sem,aP,aj,u1,y1,e0,e1,e2,e3,e4,e5,aS,aT]) rfl ?_;rw[<-HR.o,aG.o,HL.o];refine⟨_,rfl,Ga.mono (b':=w.heap.size) ?_ X3.size,eA⟩
     repeat(refine Ga.setOther ?_ (by first|exact ao|exact an) _)
     exact Ga.ext u f
def QJ{P:Program}{T t:TypeId}{k:Nat}{z:C}{w:F}{base g n cap m o c2:Nat}{cs:List (List C)}(hz:∀w,(zeroValue T).run P w = .ok z w)(ag:z.cells.size=k)(af:∀u∈z.cells.toList,u.oneCell'=true)(ht:P.underlying t=J (.slice T))(a:Ga T k w base (I (J ⟨g,0,N⟩) n cap) cs)(hm:m<n)(ho:o=m*k):∃w',(∀ty,(Builtin.clear_ #[t] ty #[I (J ⟨g,o,N⟩) (n-m) c2]).run P w = .ok (.tuple #[]) w')/\Ga T k w' base (I (J ⟨g,0,N⟩) m cap) (cs.take m)/\w.grownBy w' (J g):=by
 have hn:=a.len;subst hn ho;rcases a.2.2 with ⟨h2,_⟩|⟨g',ah,cur,hv,hg,hh,ad,K,R,ae⟩
 ·cases h2
 ·cases hv;have l:(Builtin.zeroCells z.cells (cs.length-m)).toList.length=(cs.length-m)*k:=by simp[Builtin.zeroCells,ag]
  have q:∀u∈(Builtin.zeroCells z.cells (cs.length-m)).toList,u.oneCell'=true:=by
   intro u i;simp[Builtin.zeroCells]at i;obtain⟨j,s,i⟩:=i;have d:0<z.cells.size:=by
    rcases Nat.eq_zero_or_pos z.cells.size with x|x
    ·rw[x]at s;simp at s
    ·exact x
   have ab:j%z.cells.size<z.cells.size:=Nat.mod_lt _ d;rw[getElem!_pos z.cells _ ab]at i;exact af u (by rw[<-i];simp)
  have aa:cs.length*k<=cur.size:=by rw[R];exact Nat.mul_le_mul_right _ ad
  have ac:m*k+(cs.length-m)*k=cs.length*k:=by rw[<-Nat.add_mul];congr 1;omega
  have f:=run_storeCells_at P g (m*k) T (Builtin.zeroCells z.cells (cs.length-m)).toList 0 cur w hh (by rw[l,Nat.add_zero,ac];exact aa) q;refine⟨w.setRow g (cur.toList.take (m*k+0)++(Builtin.zeroCells z.cells (cs.length-m)).toList++cur.toList.drop (m*k+0+(Builtin.zeroCells z.cells (cs.length-m)).toList.length)).toArray,?_,⟨fun c y=>a.1 c (List.mem_of_mem_take y),?_,?_⟩,⟨rfl,rfl,rfl,by simp,fun j _ s=>setRow_other w g j _ (fun e=>s (by simp[e]))⟩⟩
  ·intro ty;obtain⟨r,hr⟩:∃r,cs.length-m=r+1:=⟨cs.length-m-1,by omega⟩;rw[hr]at f ⊢;simp[Builtin.clear_,run_underlying ht,hz,f]
  ·rw[yk (fun c y=>a.1 c (List.mem_of_mem_take y))]
  ·have hl:(cs.take m).length=m:=by rw[List.length_take];omega
   rw[hl];refine .inr ⟨g,cap,_,rfl,hg,setRow_heap w g cur _ T _ hh,by omega,K,?_,?_⟩
   ·rw[List.size_toArray,lA,lA,l,List.length_take,List.length_drop,Array.length_toList];omega
   ·(have b:m*k<=cur.size:=by have:=Nat.mul_le_mul_right k (show m<=cs.length by omega);omega);rw[<-xp m a.1 oM,<-ae,List.take_take,Nat.min_eq_left (Nat.mul_le_mul_right _ oM)];rw[List.append_assoc,List.take_append,List.length_take,Nat.add_zero,Array.length_toList,Nat.min_eq_left b,Nat.sub_self,List.take_zero,List.append_nil,List.take_take,Nat.min_self]
def Ja{α:Type}[DecidableEq α]:List α->List α
 | []=>[]
 | [a]=>[a]
 | a::b::r=>if a=b then Ja (b::r)else a::Ja (b::r)
def Bp{α:Type}[DecidableEq α]:∀(d:List α)(a b:α),Ja (d++[a]++[b])=if a=b then Ja (d++[a])else Ja (d++[a])++[b]
 | [],a,b=>by
  by_cases h:a=b<;>simp[Ja,h]
 | [x],a,b=>by
  have:=Bp [] a b;simp only[List.nil_append,List.cons_append]at this ⊢;by_cases c:x=a
  ·simp only[Ja,if_pos c];simp only[Ja]at this;exact this
  ·by_cases h:a=b
   ·simp[Ja,c,h]
   ·simp[Ja,c,h]
 | x::y::d,a,b=>by
  have:=Bp (y::d) a b;simp only[List.cons_append]at this ⊢;by_cases c:x=y
  ·simp only[Ja,if_pos c];exact this
  ·simp only[Ja,if_neg c,this];split<;>rfl
def Vr{α:Type}[DecidableEq α]:∀(c:List α),(∀(j:Nat)(a b:α),c[j]?=J a->c[j+1]?=J b->a≠b)->Ja c=c
 | [],_=>rfl
 | [a],_=>rfl
 | a::b::r,h=>by
  rw[Ja,if_neg (h 0 a b rfl rfl),Vr (b::r) (fun j x y d e=>h (j+1) x y (by simpa using d) (by simpa using e))]
def qq(base:Nat)(w:F)(v:C)(a:LP)(e:Ending)(w':F):Prop:=∃v',e=.returned v'/\Ga 55 2 w' base v' (a.map pc)/\w.grownBy w' v.ownBlock/\(v'.ownBlock=v.ownBlock)
def NM(w:F)(base:Nat)(v:C)(ps:LP)(g:Nat)(t3:C)(W:F):Prop:=
 ∃m:Nat,m+1<=ps.length/\t3=O V ((m+1:Nat):Int)/\g=ps.length-(m+1)/\(∀(j:Nat)(a b:Int×Int),j+1<m+1->ps[j]?=J a->ps[j+1]?=J b->a≠b)/\Ga 55 2 W base v (ps.map pc)/\w.grownBy W v.ownBlock
def Si(ps:LP)(k a c:Nat)(b:LP):Prop:=
 b.length=ps.length/\1<=c/\c<=k+a/\k+a+1<=ps.length/\b.take c=Ja (ps.take (k+a+1))/\∀j,k+a<=j->b[j]?=ps[j]?
def OM(w:F)(base:Nat)(v:C)(ps:LP)(k:Nat)(g:Nat)(t3 t5:C)(W:F):Prop:=
 ∃(a c:Nat)(b:LP),t5=O V ((a+1:Nat):Int)/\t3=O V (c:Int)/\g=ps.length-(a+1)/\Si ps k a c b/\Ga 55 2 W base v (b.map pc)/\w.grownBy W v.ownBlock
def Lt{α:Type}{xs:List α}{m:Nat}{a b:α}(c:xs[m]?=J a)(d:xs[m+1]?=J b):xs.take (m+2)=xs.take m++[a]++[b]:=by rw[Xf _ _ _ d,Xf _ _ _ c]
def Si.start{ps:LP}{m:Nat}{a:Int×Int}(h:∀(j:Nat)(a b:Int×Int),j+1<m+1->ps[j]?=J a->ps[j+1]?=J b->a≠b)(e:ps[m]?=J a)(f:ps[m+1]?=J a):Si ps (m+1) 0 (m+1) ps:=by
 have g:=(lS.1 f).1;refine⟨rfl,by omega,by omega,by omega,?_,fun _ _=>rfl⟩;rw[show m+1+0+1=m+2 by omega,Lt e f,Bp,if_pos rfl,<-Xf _ _ _ e,Vr];intro j x y d c;rw[List.getElem?_take]at d c;split at c
 ·rename_i h2;rw[if_pos oM]at d;exact h j x y h2 d c
 ·cases c
def Si.same{ps e:LP}{k a c:Nat}{p:Int×Int}(h:Si ps k a c e)(b:ps[k+a]?=J p)(d:ps[k+a+1]?=J p):Si ps k (a+1) c e:=by obtain⟨f,g,l,m,i,h6⟩:=h;have o:=(lS.1 d).1;refine⟨f,g,by omega,by omega,?_,fun j n=>h6 j oM⟩;rw[i,show k+(a+1)+1=k+a+2 by omega,Lt b d,Bp,if_pos rfl,<-Xf _ _ _ b]
def Si.other{ps d:LP}{k a c:Nat}{p q:Int×Int}(h:Si ps k a c d)(e:ps[k+a]?=J p)(f:ps[k+a+1]?=J q)(b:p≠q):Si ps k (a+1) (c+1) (d.set c q):=by obtain⟨g,l,m,n,i,h6⟩:=h;have r:=(lS.1 f).1;refine⟨by rw[List.length_set];exact g,by omega,by omega,by omega,?_,fun j o=>by rw[List.getElem?_set_ne oM];exact h6 j oM⟩;rw[show k+(a+1)+1=k+a+2 by omega,Lt e f,Bp,if_neg b,<-Xf _ _ _ e,<-i,Xf _ _ _ (show (d.set c q)[c]?=J q by rw[List.getElem?_set_self oM]),List.take_set_of_le (nE _)]
def Si.get{ps b:LP}{k a c:Nat}(h:Si ps k a c b){j:Nat}(d:k+a<=j){q:Int×Int}(e:ps[j]?=J q):(b.map pc)[j]?=J (pc q):=by rw[lP,h.2.2.2.2.2 j d,e];rfl
def yB(w:F)(base:Nat)(v:C)(ps:LP)(h:Ga 55 2 w base v (ps.map pc))(aK:ps.length<=1000000):Calls Tryz.prog 171 #[v] w (qq base w v (Ja ps)):=by
 obtain⟨a,n,c,rfl⟩:=h.j;have hl:=h.len;rw[lL]at hl;obtain⟨R,hR⟩:=gX (qq base w (I a n c) (Ja ps));rw[hR];have HR:=ia hR;have r:zc (ps.length=n):=ia hl.symm;clear hR;by_cases h2:n<2
 ·have e:Ja ps=ps:=by
   apply Vr;intro j x y hx hy;have:=(lS.1 hy).1;omega
  have E:=ia e;have aD:(n:Int)<2:=oM;clear hl e h2;go_in;go_wp2;rw[<-HR.o,E.o];exact⟨_,rfl,h,World.grownBy.refl _ _,rfl⟩
 ·obtain⟨g,rfl,aU,aV⟩:=h.blk (by rw[lL];omega);have aD:¬(n:Int)<2:=oM;have aL:n<=c:=by
   rcases h.2.2 with ⟨h9,_⟩|⟨g',cap,cur,hv,_,_,ax,_⟩
   ·cases h9
   ·cases hv;rw[lL]at ax;omega
  have aF:c<=9223372036854775807:=by
   rcases h.2.2 with ⟨h9,_⟩|⟨g',cap,cur,hv,_,_,ax,aI,_⟩
   ·cases h9
   ·cases hv;unfold maxLen at aI;omega
  rw[<-hl]at aK;clear hl;go_in;go_wp2;go_loopg [3] (n-1) (NM w base (I (J ⟨g,0,N⟩) n c) ps)
  case atStart=>exact⟨0,by rw[r.o];omega,rfl,by rw[r.o],fun j a b hj=>by omega,h,World.grownBy.refl _ _⟩
  case round =>
   clear h;obtain⟨m,hm,rfl,rfl,ae,f,aa⟩:=hrel;rw[r.o]at hm;have ab:=ia ae;have ac:=ia f;have ag:=ia aa;by_cases aW:m+1<n
   ·obtain⟨⟨x,z⟩,hq⟩:∃q,ps[m+1]?=J q:=⟨ps[m+1]'(by rw[r.o];omega),by simp⟩;obtain⟨⟨x',z'⟩,ah⟩:∃q,ps[m]?=J q:=⟨ps[m]'(by rw[r.o];omega),by simp⟩;have d0:=f.cell (i:=m+1) (j:=0) (d:=pc (x,z)) (by rw[lP,hq];rfl) rfl;have d1:=f.cell (i:=m+1) (j:=1) (d:=pc (x,z)) (by rw[lP,hq];rfl) rfl;have d2:=f.cell (i:=m) (j:=0) (d:=pc (x',z')) (by rw[lP,ah];rfl) rfl;have d3:=f.cell (i:=m) (j:=1) (d:=pc (x',z')) (by rw[lP,ah];rfl) rfl;simp only[Nat.add_zero]at d0 d2;dsimp only at d0 d1 d2 d3;have u1:((m+1:Nat):Int)-1=(m:Int):=oM;have p1:(0:Int)<=(m:Int):=oM;have p2:(m:Int)<(n:Int):=oM;have p3:((m+1:Nat):Int)<(n:Int):=oM;have Hq:=ia hq;have am:=ia ah;clear ae f aa hq ah;by_cases T:x=x'
    ·(have f1:(x==x')=true:=by simpa using T);by_cases e2:z=z'
     ·(have f2:(z==z')=true:=by simpa using e2);(have az:Si ps (m+1) 0 (m+1) ps:=by subst T e2;exact Si.start ab.o am.o Hq.o);have aA:=ia az;have p4:((m+1:Nat):Int)<=(n:Int):=oM;have p5:(n:Int)<=(c:Int):=oM;have p6:((m+1:Nat):Int)<(c:Int):=oM;clear T e2 az;go_wp2;go_quiet (fail);clear d0 d1 d2 d3;go_wp2;obtain⟨L,hL⟩:=gX (n-(m+1));obtain⟨kk,ap⟩:=gX ((m+1)*2);rw[hL,ap];have av:zc (n-(m+1)=L/\(m+1)*2=kk):=ia ⟨hL,ap⟩;have aR:L+m+1=n:=oM;clear hL ap;have ai:=ko ag.o nq;go_loopg [3,5] (n-1) (OM w base (I (J ⟨g,0,N⟩) n c) ps (m+1))
      case atStart=>exact⟨0,m+1,ps,rfl,rfl,by rw[r.o],aA.o,ac.o,ai⟩
      case round =>
       clear ai;obtain⟨k,s,ys,rfl,rfl,rfl,hL,f,aa⟩:=hrel;have aE:=hL.2.2.2.1;rw[r.o]at aE;have aS:=hL.2.2.1;by_cases aQ:k+1<L
       ·obtain⟨⟨qx,qz⟩,ar⟩:∃q,ps[m+1+k+1]?=J q:=⟨ps[m+1+k+1]'(by rw[r.o];omega),by simp⟩;obtain⟨⟨px,pz⟩,aq⟩:∃q,ps[m+1+k]?=J q:=⟨ps[m+1+k]'(by rw[r.o];omega),by simp⟩;have gq:=hL.get oM ar;have gp:=hL.get oM aq;have d0:=f.cell (j:=0) gq rfl;have d1:=f.cell (j:=1) gq rfl;have d2:=f.cell (j:=0) gp rfl;have d3:=f.cell (j:=1) gp rfl;(have a0:(m+1+k+1)*2+0=kk+(k+1)*2:=by have:=av.o.2;omega);have a1:(m+1+k+1)*2+1=kk+(k+1)*2+1:=oM;(have a2:(m+1+k)*2+0=kk+k*2:=by have:=av.o.2;omega);have a3:(m+1+k)*2+1=kk+k*2+1:=oM;rw[a0]at d0;rw[a1]at d1;rw[a2]at d2;rw[a3]at d3;dsimp only at d0 d1 d2 d3;have aT:=f.frozen;have K:=ia f;have ad:=ia aa;have aj:=ia hL;have an:=ia ar;have al:=ia aq;have u1:((k+1:Nat):Int)-1=(k:Int):=oM;have aY:(0:Int)<=(k:Int):=oM;have aZ:(k:Int)<(L:Int):=oM;have a4:((k+1:Nat):Int)<(L:Int):=oM;have aG:s<n:=oM;have aO:(s:Int)<(n:Int):=oM;have aM:(0:Int)<=(s:Int):=oM;obtain⟨⟨rx,rz⟩,hr⟩:∃q,ys[s]?=J q:=⟨ys[s]'(by rw[hL.1,r.o];exact aG),by simp⟩;(have gr:(ys.map pc)[s]?=J (pc (rx,rz)):=by rw[lP,hr];rfl);have d4:=f.cell (j:=0) gr rfl;have d5:=f.cell (j:=1) gr rfl;simp only[Nat.add_zero]at d4;dsimp only at d4 d5;have au:=ia gr;clear f aa hL ar aq gq gp a0 a1 a2 a3 gr hr;by_cases T:qx=px
        ·(have g1:(qx != px)=false:=by simpa using T);(have aB:(qx==px)=true:=by simpa using T);by_cases e2:qz=pz
         ·(have g2:(qz != pz)=false:=by simpa using e2);(have aC:(qz==pz)=true:=by simpa using e2);(have l:Si ps (m+1) (k+1) s ys:=by subst T e2;exact aj.o.same al.o an.o);have u:=ia l;clear T e2 l;go_wp2;go_quiet (fail);go_wp2;go_roundg (n-(k+1+1))
          case measure=>have:=r.o;omega
          case rel=>exact⟨k+1,s,ys,by go_num,rfl,by rw[r.o],u.o,K.o,ko ad.o _⟩
         ·(have g2:(qz != pz)=true:=by simpa using e2);(have aC:(qz==pz)=false:=by simpa using e2);have l:Si ps (m+1) (k+1) (s+1) (ys.set s (qx,qz)):=aj.o.other al.o an.o (by simp;omega);have u:=ia l;clear T e2 l;go_wp2;go_quiet (fail);go_wp2;go_roundg (n-(k+1+1))
          case measure=>have:=r.o;omega
          case rel =>
           refine⟨k+1,s+1,ys.set s (qx,qz),by go_num,by go_num,by rw[r.o],u.o,?_,ol (ol (ko ad.o _) _ _) _ _⟩;rw[<-As];exact Ga.pair (K.o.ext ((eR _).drewN _)) au.o _ _
        ·(have g1:(qx != px)=true:=by simpa using T);(have aB:(qx==px)=false:=by simpa using T);have l:Si ps (m+1) (k+1) (s+1) (ys.set s (qx,qz)):=aj.o.other al.o an.o (by simp;omega);have u:=ia l;clear T l;go_wp2;go_quiet (fail);go_wp2;go_roundg (n-(k+1+1))
         case measure=>have:=r.o;omega
         case rel =>
          refine⟨k+1,s+1,ys.set s (qx,qz),by go_num,by go_num,by rw[r.o],u.o,?_,ol (ol (ko ad.o _) _ _) _ _⟩;rw[<-As];exact Ga.pair (K.o.ext ((eR _).drewN _)) au.o _ _
       ·have aX:m+1+k+1=n:=oM;(have aH:(ys.take s)=Ja ps:=by rw[hL.2.2.2.2.1,lT (by rw[r.o];omega)]);have aw:s<n:=oM;obtain⟨wc,aP,ay,aJ⟩:=QJ (P:=Tryz.prog) (t:=107) (z:=H #[O V 0,O V 0]) (w:=wr) (o:=s*2) (c2:=c-s) (fun w=>Tryz.zeroValue55 w) rfl (by simp[Value.cells];rfl) Tryz.underlying107 f aw rfl;have c1:(0:Int)<=(s:Int):=oM;have c2:(s:Int)<=(n:Int):=oM;have c3:(n:Int)<=(c:Int):=oM;have c4:(s:Int)<(c:Int):=oM;have c5:s<c:=oM;go_wp2;rw[<-HR.o];refine⟨_,rfl,?_,aa.trans aJ,rfl⟩;rw[<-List.map_take,aH]at ay;exact ay
     ·(have f2:(z==z')=false:=by simpa using e2);(have af:((x',z'):Int×Int)≠(x,z):=by simp;omega);have ak:=ia af;clear T e2 af;go_wp2;go_quiet (fail);go_wp2;go_roundg (n-(m+1+1))
      case measure=>have:=r.o;omega
      case rel =>
       refine⟨m+1,by have:=r.o;omega,by go_num,by rw[r.o],fun j a b hj ha hb=>?_,ac.o,ko ag.o _⟩;by_cases ao:j=m
       ·subst ao;rw[am.o]at ha;rw[Hq.o]at hb;cases ha;cases hb;exact ak.o
       ·exact ab.o j a b oM ha hb
    ·(have f1:(x==x')=false:=by simpa using T);(have af:((x',z'):Int×Int)≠(x,z):=by simp;omega);have ak:=ia af;clear T af;go_wp2;go_quiet (fail);go_wp2;go_roundg (n-(m+1+1))
     case measure=>have:=r.o;omega
     case rel =>
      refine⟨m+1,by have:=r.o;omega,by go_num,by rw[r.o],fun j a b hj ha hb=>?_,ac.o,ko ag.o _⟩;by_cases ao:j=m
      ·subst ao;rw[am.o]at ha;rw[Hq.o]at hb;cases ha;cases hb;exact ak.o
      ·exact ab.o j a b oM ha hb
   ·have e:Ja ps=ps:=Vr ps (fun j a b ha hb=>ab.o j a b (by have:=(lS.1 hb).1;rw[r.o]at this;omega) ha hb);have E:=ia e;have p3:¬((m+1:Nat):Int)<(n:Int):=oM;clear e ae f aa;go_wp2;rw[<-HR.o,E.o];exact⟨_,rfl,ac.o,ag.o,rfl⟩
def Ba(p:Pl):LP:=(Lb p.way p.shape).map fun q=>(q.1+p.ax,q.2+p.az)
def EB{ps:LP}(h:ps≠[]):(Nb ps).length=ps.length:=by have:=(nx h).2;unfold Nb;simp;omega
def Hu{way:Int}{ps:LP}(h:ps≠[]):(Lb way ps).length=ps.length:=by
 unfold Lb;split
 ·rw[EB (by simpa using h)];simp
 ·rw[EB (by simpa using h)];simp
def MA{k:Int}{ps:LP}(h:Se k ps)(c:ps≠[]):Se (k+k) (Nb ps):=fun p d=>by
 obtain⟨q,e,rfl⟩:=List.mem_map.1 d;have a:=h.rot (Pf ps) q e;have b:=iA h c;exact⟨a.1.sub b.1,a.2.sub b.2⟩
def uB{k way:Int}{ps:LP}(h:Se k ps)(a:ps≠[]):Se (k+k) (Lb way ps):=by
 unfold Lb;split
 ·exact MA h.way.rev (by simpa using a)
 ·exact MA h.way (by simpa using a)
def Vm{p:Pl}(h:Ea p=true):ud (Xe p.name) p.shape p.depth p.density p.gx p.gz=true/\0<=p.way/\p.way<=7/\Bd 100000 p.ax/\Bd 100000 p.az/\1<=p.skin/\p.skin<=3:=by unfold Ea Cb xb at h;simp at h;unfold Bd;refine⟨h.1,?_⟩;omega
def ip{p:Pl}(h:Ea p=true):Se 104000 (Ba p)/\3<=(Ba p).length/\(Ba p).length<=12:=by
 obtain⟨g,_,_,i,j,_⟩:=Vm h;obtain⟨b,Sh,c,_⟩:=Xm g;have a:p.shape≠[]:=by intro e;rw[e]at b;simp at b
 refine⟨fun q d=>?_,?_,?_⟩
 ·obtain⟨r,f,rfl⟩:=List.mem_map.1 d;have:=uB (way:=p.way) c a r f;unfold Bd at *;dsimp only;omega
 ·unfold Ba;rw[lL,Hu a];exact b
 ·unfold Ba;rw[lL,Hu a];exact Sh
def IK(w:F)(p:Pl)(v:C)(h:Aa w v p.shape)(ap:Ea p=true)(hg:Gw w):Calls Tryz.prog 168 #[H (pe p v)] w (Vj 55 2 w ((Ba p).map pc)):=by
 obtain⟨a,c,rfl⟩:=h.form;obtain⟨hB,au,av,am,an,_,_⟩:=Vm ap;obtain⟨h3,Sh,ae,_⟩:=Xm hB;obtain⟨nm,ps,d,de,gx,gz,wy,r,s,sk⟩:=p;dsimp only at h hB au av am an h3 Sh ae;have R:ps≠[]:=by intro e;rw[e]at h3;simp at h3
 have u:=fun W (hW:oa w W)=>kK W nm _ ps d de gx gz wy (h.i hW) hB au av (hg.ext hW);obtain⟨K,ah⟩:=gX (Lb wy ps);have ac:=Hu (way:=wy) R;have ag:=uB (way:=wy) ae R;have hR:(Ba ⟨nm,ps,d,de,gx,gz,wy,r,s,sk⟩)=K.map fun q=>(q.1+r,q.2+s):=by unfold Ba;rw[<-ah]
 rw[hR];rw[ah]at u ac ag;obtain⟨g2,ao⟩:=gX (jb wy (gx,gz));rw[ao]at u;obtain⟨n,hn⟩:=gX ps.length;rw[hn]at h u ac h3 Sh ⊢;obtain⟨RL,ad⟩:=gX ((K.map (fun q=>(q.1+r,q.2+s))).map pc);rw[ad];have aA:=ia ad;clear ad;have aB:=ia u;have aC:=ia ag;have l:=ia ac;obtain⟨aJ,aK⟩:=am;obtain⟨aL,aM⟩:=an;clear u ag ac ah ao hn hB ae R hR ap;unfold pe;dsimp only;go_in;go_wp2_with(first|((go_at_call 212;refine cM (aB.o _ eA) ?_;rintro e w1 ⟨v1,rfl,aa,aj⟩;obtain⟨a1,n1,c1,rfl⟩:=aa.j;obtain rfl:n=n1:=(by have h9:=aa.len;rw[lL,l.o]at h9;exact h9.symm);obtain⟨⟨aE,aF⟩,ay⟩:=Jf w aj))|((at_make;refine yL (T:=55) (t:=32) (z:=H #[O V 0,O V 0]) (k:=2) (bytes:=16) (zs:=[O V 0,O V 0]) ul rfl rfl dM Tryz.underlying32 rfl _ _ rfl _ rfl rfl rfl oM ?_;intro cs m;simp only[wZ]at m))|((refine KL (T:=55) (t:=32) (k:=2) (g:=w1.heap.size+1) (n:=n) (cap:=n) (sl:=I a1 n c1) (os:=List.replicate n [O V 0,O V 0]) kM Tryz.underlying32 rfl _ _ rfl rfl rfl m (K.map pc) Bo (aa.rd.ext ?_) ?_ ?_ Ao ?_;exact eA;(simp[l.o]);(simp[l.o];omega);intro w3 o x)));obtain⟨P,af⟩:=gX (w1.heap.size+1);rw[af]at o x ⊢;have aw:oa w w1:=eA;have aG:=aw.size;have P0:=aj.e (Kc _ _ _ rfl);have P1:=((eR w1).alloc (G #[.string nm,I a1 n c1,O V d,O V de,O V g2.1,O V g2.2] 70)).e P0;have P2:=((eR _).alloc (G cs 55)).e P1;have zw:w.heap.size<w1.heap.size:=jc P0;have P3:=Bh x P2 (fun e=>by cases e;omega);have X3:oa w w3:=((aw.alloc _).alloc _).E (Ch x (by simp;omega) (fun k hk=>by cases hk;exact nE _)) (by omega:w.heap.size<=P);have aq:=x.size;simp only[wZ]at aq;have y:=o.mono (b':=P) (by simp[af]);have ar:P<=w3.heap.size:=oM;have aT:w.heap.size<P:=oM;have al:=ia P3;clear aE aF ay aa aj m o x P0 P1 P2 P3 af aq aG zw;go_loopg [25] n (fun g aI W=>BC w P (fun q=>(q.1+r,q.2+s)) K (I (J ⟨P,0,N⟩) n n) g aI W/\W.heap[w.heap.size]?=J (G #[.string nm,I a n c,O V d,O V de,O V gx,O V gz,O V wy,O V r,O V s,O .u8 sk] 72 (0,0)))
 case atStart=>exact⟨⟨0,by omega,rfl,by rw[l.o];rfl,X3,ar,by simpa using y⟩,al.o⟩
 case round =>
  clear X3 ar y al;obtain⟨⟨i,hi,rfl,rfl,hx,aH,b⟩,hP⟩:=hrel;rw[l.o]at hi;by_cases aS:i<n
  ·obtain⟨⟨qx,qz⟩,hq⟩:∃q,K[i]?=J q:=⟨K[i]'(by rw[l.o];omega),by simp⟩;have ab:=Nv (f:=fun q=>(q.1+r,q.2+s)) hq;have d0:=b.cell (j:=0) ab rfl;have d1:=b.cell (j:=1) ab rfl;simp only[Nat.add_zero]at d0;dsimp only at d0 d1;have f0:=b.frozen;obtain⟨⟨b1,b2⟩,b3,b4⟩:=aC.o (qx,qz) (lM hq);have aO:(-4000:Int)<=qx:=by simpa using b1
   have aP:qx<=4000:=by simpa using b2
   have aQ:(-4000:Int)<=qz:=by simpa using b3
   have aR:qz<=4000:=by simpa using b4
   have p7:=ja hP 7 (O V r);have p8:=ja hP 8 (O V s);have ai:=fun(W:F)(h:Ga 55 2 W P (I (J ⟨P,0,N⟩) n n) (((K.take i).map (fun q=>(q.1+r,q.2+s))++K.drop i).map pc))=>h.pair ab (O V (qx+r)) (O V (qz+s));rw[pw (f:=fun q=>(q.1+r,q.2+s)) hq rfl _ rfl]at ai;have aD:=ia ai;have ak:=ia b;have HP:=ia hP;have zg:=(b.lt P rfl).2;have R:¬P=w.heap.size:=oM;have p1:(0:Int)<=(i:Int):=oM;have p2:(i:Int)<(n:Int):=oM;clear ai ab hq b hP b1 b2 b3 b4;go_wp2
   go_region_with fail
   all_goals go_wp2
   all_goals go_region_with fail
   all_goals go_wp2
   all_goals
    go_roundg (n-(i+1))
    case measure=>have:=l.o;omega
    case rel =>
     refine⟨⟨i+1,by have:=l.o;omega,by go_num,by rw[l.o],eA,by simp only[sf,Tb];exact aH,?_⟩,?_⟩
     ·exact aD.o _ ak.o
     ·show ((wr.setCell _ _).setCell _ _).heap[_]?=_;rw[bS _ _ _ _ dO,bS _ _ _ _ dO];exact HP.o
  ·obtain rfl:i=n:=oM;have e:((K.take i).map (fun q=>(q.1+r,q.2+s))++K.drop i)=K.map (fun q=>(q.1+r,q.2+s)):=by
    rw[lT (by rw[l.o];exact nE _),List.drop_of_length_le (by rw[l.o];exact nE _),List.append_nil]
   rw[e,aA.o]at b;go_wp2;go_ret;exact⟨_,rfl,b.mono oM,hx⟩
def ld(cs:LP)(u v:Int×Int):Prop:=(∃A B,cs=A++u::v::B)\/(∃M,cs=v::M++[u])
structure Qe (cs:LP):Prop where
 nd:cs.Nodup
 three:3<=cs.length
 left:∀u v,ld cs u v->∀c∈cs,c≠u->c≠v->0<Ce u v c
def ld.mem{cs:LP}{u v:Int×Int}(h:ld cs u v):u∈cs/\v∈cs:=by rcases h with ⟨A,B,rfl⟩|⟨M,rfl⟩<;>simp
def ld.rot{P Q:LP}{u v:Int×Int}(h:ld (Q++P) u v)(k:2<=(P++Q).length):ld (P++Q) u v:=by
 rcases h with ⟨A,B,h⟩|⟨M,h⟩
 ·rcases List.append_eq_append_iff.1 h with ⟨X,b,a⟩|⟨X,b,a⟩
  ·
   subst b;exact .inl ⟨X,B++Q,by rw[a];simp⟩
  ·
   cases X with
   |nil=>
    simp at b a;subst b;exact .inl ⟨[],B++Q,by rw[<-a];simp⟩
   | cons x X =>
    simp at a;obtain⟨rfl,a⟩:=a;cases X with
    |nil=>
     simp at a;subst b a;exact .inr ⟨B++A,by simp⟩
    | cons y X =>
     simp at a;obtain⟨rfl,rfl⟩:=a;subst b;exact .inl ⟨P++A,X,by simp⟩
 ·
  cases P with
  | nil=>simp at h;exact .inr ⟨M,by simpa using h⟩
  | cons p P =>
   cases Q with
   | nil=>simp at h;exact .inr ⟨M,by simpa using h⟩
   | cons q Q =>
    (have i:q=v:=by simp at h;exact h.1);have d:=congrArg List.getLast? h;rw[List.getLast?_append,List.getLast?_append]at d;have g:(p::P).getLast?=J u:=by
     cases hh:(p::P).getLast? with
     | none=>simp at hh
     | some z=>rw[hh]at d;simpa using d
    obtain⟨c,f⟩:∃c,p::P=c++[u]:=⟨(p::P).dropLast,by
     have e:=List.getLast?_eq_some_iff.1 g;obtain⟨l,j⟩:=e;rw[j];simp⟩
    rw[f];subst i;exact .inl ⟨c,Q,by simp⟩
def ld.rev{cs:LP}{u v:Int×Int}(h:ld cs.reverse u v):ld cs v u:=by
 rcases h with ⟨A,B,h⟩|⟨M,h⟩
 ·refine .inl ⟨B.reverse,A.reverse,?_⟩;rw[<-List.reverse_reverse cs,h];simp
 ·refine .inr ⟨M.reverse,?_⟩;rw[<-List.reverse_reverse cs,h];simp
def ld.map{cs:LP}{f:Int×Int->Int×Int}{u v:Int×Int}(h:ld (cs.map f) u v):∃u' v',u=f u'/\v=f v'/\ld cs u' v':=by
 rcases h with ⟨A,B,h⟩|⟨M,h⟩
 ·obtain⟨i,X,e,n,c⟩:=List.map_eq_append_iff.1 h;obtain⟨u',m,a,g,d⟩:=List.map_eq_cons_iff.1 c;obtain⟨v',B',b,hv,o⟩:=List.map_eq_cons_iff.1 d;exact⟨u',v',g.symm,hv.symm,.inl ⟨i,B',by rw[e,a,b]⟩⟩
 ·rw[List.cons_append]at h;obtain⟨v',X,e,hv,c⟩:=List.map_eq_cons_iff.1 h;obtain⟨j,Y,a,q,k⟩:=List.map_eq_append_iff.1 c;obtain⟨u',Z,b,g,l⟩:=List.map_eq_cons_iff.1 k;have:Z=[]:=List.map_eq_nil_iff.1 l;subst this;exact⟨u',v',g.symm,hv.symm,.inr ⟨j,by rw[e,a,b];simp⟩⟩
def Qe.rot{P Q:LP}(h:Qe (P++Q)):Qe (Q++P):=by
 have e:∀x,x∈Q++P->x∈P++Q:=fun x a=>by
  rcases List.mem_append.1 a with a|a
  ·exact List.mem_append.2 (.inr a)
  ·exact List.mem_append.2 (.inl a)
 have g:=h.three;refine⟨(List.perm_append_comm.nodup_iff).1 h.nd,by rw[lA]at *;omega,fun u v d c b f hv=>h.left u v (d.rot oM) c (e c b) f hv⟩
def Qe.map{cs:LP}(h:Qe cs)(f:Int×Int->Int×Int)(m:∀u v c,Ce (f u) (f v) (f c)=Ce u v c)(hi:∀x y,f x=f y->x=y):Qe (cs.map f):=by
 refine⟨?_,by rw[lL];exact h.three,fun u v l c k n hv=>?_⟩
 ·exact List.Pairwise.map f (fun a b d e=>d (hi a b e)) h.nd
 ·obtain⟨o,q,rfl,rfl,i⟩:=l.map;obtain⟨j,g,rfl⟩:=List.mem_map.1 k;rw[m];exact h.left o q i j g (fun e=>n (by rw[e])) (fun e=>hv (by rw[e]))
def Qe.flip{cs:LP}(h:Qe cs)(f:Int×Int->Int×Int)(m:∀u v c,Ce (f u) (f v) (f c)=Ce v u c)(hi:∀x y,f x=f y->x=y):Qe (cs.map f).reverse:=by
 refine⟨?_,by rw[List.length_reverse,lL];exact h.three,fun u v l c k n hv=>?_⟩
 ·exact(List.reverse_perm _).nodup_iff.2 (List.Pairwise.map f (fun a b d e=>d (hi a b e)) h.nd)
 ·obtain⟨q,o,rfl,rfl,i⟩:=(ld.rev l).map;obtain⟨j,g,rfl⟩:=List.mem_map.1 (List.mem_reverse.1 k);rw[m];exact h.left q o i j g (fun e=>hv (by rw[e])) (fun e=>n (by rw[e]))
def Kd(cs:LP)(i:Nat):LP:=if (cs.getD i (0,0)).1<(cs.getD ((i+1)%cs.length) (0,0)).1 then [cs.getD i (0,0),cs.getD ((i+1)%cs.length) (0,0)]else []
def xe(cs:LP)(i:Nat):LP:=if (cs.getD ((i+1)%cs.length) (0,0)).1<(cs.getD i (0,0)).1 then [cs.getD i (0,0),cs.getD ((i+1)%cs.length) (0,0)]else []
def Dc(cs:LP)(i:Nat):LP:=(List.range i).flatMap (Kd cs)
def Ad(cs:LP)(i:Nat):LP:=(List.range i).flatMap (xe cs)
def Tr(cs:LP)(i:Nat):Dc cs (i+1)=Dc cs i++Kd cs i:=by simp[Dc,List.range_succ]
def Zr(cs:LP)(i:Nat):Ad cs (i+1)=Ad cs i++xe cs i:=by simp[Ad,List.range_succ]
def Xx{cs:LP}{i:Nat}(h:i<cs.length):∀q∈Kd cs i++xe cs i,q∈cs:=by
 have b:cs.getD i (0,0)∈cs:=by rw[gD,gE h];exact List.getElem_mem h
 have c:cs.getD ((i+1)%cs.length) (0,0)∈cs:=by
  have:(i+1)%cs.length<cs.length:=Nat.mod_lt _ oM;rw[gD,gE this];exact List.getElem_mem this
 intro q a;unfold Kd xe at a;rcases List.mem_append.1 a with a|a
 ·split at a
  ·simp at a;rcases a with rfl|rfl
   ·simpa using b
   ·simpa using c
  ·simp at a
 ·split at a
  ·simp at a;rcases a with rfl|rfl
   ·simpa using b
   ·simpa using c
  ·simp at a
def yo{k:Int}{cs:LP}(h:Se k cs){i:Nat}(hi:i<=cs.length):Se k (Dc cs i)/\Se k (Ad cs i):=by
 refine⟨fun q a=>?_,fun q a=>?_⟩
 ·obtain⟨j,b,a⟩:=List.mem_flatMap.1 a;exact h q (Xx (by have:=List.mem_range.1 b;omega) q (List.mem_append_left _ a))
 ·obtain⟨j,b,a⟩:=List.mem_flatMap.1 a;exact h q (Xx (by have:=List.mem_range.1 b;omega) q (List.mem_append_right _ a))
def Qw(cs:LP)(i:Nat):(Dc cs i).length<=2*i/\(Ad cs i).length<=2*i:=by
 induction i with
 | zero=>exact⟨by simp[Dc],by simp[Ad]⟩
 | succ i c =>
  rw[Tr,Zr,lA,lA];have a:(Kd cs i).length<=2:=by unfold Kd;split<;>simp
  have b:(xe cs i).length<=2:=by unfold xe;split<;>simp
  omega
def Gc(a:LP):LP:=Ja (re a)
def za(p:Pl):LP:=Gc (Dc (Ba p) (Ba p).length)
def Ra(p:Pl):LP:=Gc (Ad (Ba p) (Ba p).length)
def Jd(p:Pl)(v vl vu:C):Array C:=#[.string p.name,v,O V p.depth,O V p.density,O V p.gx,O V p.gz,O V p.way,O V p.ax,O V p.az,O .u8 p.skin,vl,vu]
def Mp:Array C:=#[.string ⟨#[]⟩,I N 0 0,O V 0,O V 0,O V 0,O V 0,O V 0,O V 0,O V 0,O .u8 0,I N 0 0,I N 0 0]
def Rk(w:F)(p:Pl)(v:C)(e:Ending)(w':F):Prop:=∃vl vu,e=.returned (H (Jd p v vl vu))/\Aa w' vl (za p)/\Aa w' vu (Ra p)/\oa w w'
def Ih(w:F)(base:Nat)(p:Pl)(v:C)(L U:LP)(vl vu:C)(W:F):Prop:=
 oa w W/\w.heap.size+1+1<base/\base<=W.heap.size/\W.heap[w.heap.size]?=J (G (pe p v) 72 (0,0))/\W.heap[w.heap.size+1]?=J (G Mp 118 (0,0))/\
 W.heap[w.heap.size+1+1]?=J (G (Jd p v vl vu) 118 (0,0))/\Ga 55 2 W base vl (L.map pc)/\Ga 55 2 W base vu (U.map pc)/\∀j,vl.ownBlock=J j->vu.ownBlock≠J j
section
variable {w W w':F} {base:Nat} {p:Pl} {v vl vu vl' vu':C} {L U L' U':LP}
def Ih.ext(h:Ih w base p v L U vl vu W)(k:oa W w'):Ih w base p v L U vl vu w':=by obtain⟨a,b,c,d,e,h6,f,g,i⟩:=h;exact⟨a.trans k,b,nT c k.size,k.e d,k.e e,k.e h6,f.ext k,g.ext k,i⟩
def Ih.low(h:Ih w base p v L U vl vu W)(b:W.grownBy w' vl.ownBlock)(r:Ga 55 2 w' base vl (L'.map pc)):Ih w base p v L' U vl vu w':=by
 obtain⟨l,m,c,n,o,h6,d,q,f⟩:=h;have a:∀k,k<base->J k≠vl.ownBlock:=fun k g e=>by have:=(d.lt k e.symm).1;omega
 refine⟨l.E (Ch b c (fun k g=>(d.lt k g).1)) oM,m,nT c b.size,Bh b n (a _ oM),Bh b o (a _ oM),Bh b h6 (a _ oM),r,q.grown b ?_,f⟩;cases e:vu.ownBlock with
 | none=>exact .inl rfl
 | some j=>exact .inr (fun i=>f j i.symm e)
def Ih.up(h:Ih w base p v L U vl vu W)(b:W.grownBy w' vu.ownBlock)(r:Ga 55 2 w' base vu (U'.map pc)):Ih w base p v L U' vl vu w':=by
 obtain⟨l,m,c,n,o,h6,q,d,f⟩:=h;have a:∀k,k<base->J k≠vu.ownBlock:=fun k g e=>by have:=(d.lt k e.symm).1;omega
 refine⟨l.E (Ch b c (fun k g=>(d.lt k g).1)) oM,m,nT c b.size,Bh b n (a _ oM),Bh b o (a _ oM),Bh b h6 (a _ oM),q.grown b ?_,r,f⟩;cases e:vl.ownBlock with
 | none=>exact .inl rfl
 | some j=>exact .inr (fun i=>f j e i.symm)
def WI{W:F}{b:Nat}(h:W.heap[b]?=J (G (Jd p v vl vu) 118 (0,0)))(u:C):(W.setCell ⟨b,10,N⟩ u).heap[b]?=J (G (Jd p v u vu) 118 (0,0)):=by simp[World.setCell,Array.getElem?_modify,h,Jd]
def VI{W:F}{b:Nat}(h:W.heap[b]?=J (G (Jd p v vl vu) 118 (0,0)))(u:C):(W.setCell ⟨b,11,N⟩ u).heap[b]?=J (G (Jd p v vl u) 118 (0,0)):=by simp[World.setCell,Array.getElem?_modify,h,Jd]
def Ih.setLow(h:Ih w base p v L U vl vu W)(b:W.grownBy w' vl.ownBlock)(f:Ga 55 2 w' base vl' (L'.map pc))(K:vl'.ownBlock=vl.ownBlock\/vl'.ownBlock=J W.heap.size):Ih w base p v L' U vl' vu (w'.setCell ⟨w.heap.size+1+1,10,N⟩ vl'):=by
 obtain⟨s,t,i,x,y,h6,l,m,n⟩:=h;have a:∀k,k<base->J k≠vl.ownBlock:=fun k o e=>by have:=(l.lt k e.symm).1;omega
 have z:=Ch b i (fun k o=>(l.lt k o).1);have d:∀{u:C}{q:List (List C)}{W:F},Ga 55 2 W base u q->u.ownBlock≠J (w.heap.size+1+1):=fun f e=>by have:=(f.lt _ e).1;omega
 have c:Ga 55 2 w' base vu (U.map pc):=m.grown b (by
  cases e:vu.ownBlock with
  | none=>exact .inl rfl
  | some j=>exact .inr (fun r=>n j r.symm e))
 refine⟨(s.E z oM).set dO _,t,by rw[sf];exact nT i b.size,?_,?_,WI (Bh b h6 (a _ oM)) _,f.setOther (d f) _,c.setOther (d c) _,?_⟩
 ·rw[bS _ _ _ _ dO];exact Bh b x (a _ oM)
 ·rw[bS _ _ _ _ dO];exact Bh b y (a _ oM)
 ·intro j g e;rcases K with h|h
  ·exact n j (h▸g) e
  ·rw[h]at g;cases g;have:=(m.lt _ e).2;omega
def Ih.setUp(h:Ih w base p v L U vl vu W)(b:W.grownBy w' vu.ownBlock)(f:Ga 55 2 w' base vu' (U'.map pc))(K:vu'.ownBlock=vu.ownBlock\/vu'.ownBlock=J W.heap.size):Ih w base p v L U' vl vu' (w'.setCell ⟨w.heap.size+1+1,11,N⟩ vu'):=by
 obtain⟨s,t,g,x,y,h6,i,l,m⟩:=h;have a:∀k,k<base->J k≠vu.ownBlock:=fun k o e=>by have:=(l.lt k e.symm).1;omega
 have z:=Ch b g (fun k o=>(l.lt k o).1);have d:∀{u:C}{q:List (List C)}{W:F},Ga 55 2 W base u q->u.ownBlock≠J (w.heap.size+1+1):=fun f e=>by have:=(f.lt _ e).1;omega
 have c:Ga 55 2 w' base vl (L.map pc):=i.grown b (by
  cases e:vl.ownBlock with
  | none=>exact .inl rfl
  | some j=>exact .inr (fun r=>m j e r.symm))
 refine⟨(s.E z oM).set dO _,t,by rw[sf];exact nT g b.size,?_,?_,VI (Bh b h6 (a _ oM)) _,c.setOther (d c) _,f.setOther (d f) _,?_⟩
 ·rw[bS _ _ _ _ dO];exact Bh b x (a _ oM)
 ·rw[bS _ _ _ _ dO];exact Bh b y (a _ oM)
 ·intro j n e;rcases K with h|h
  ·exact m j n (h▸e)
  ·rw[h]at e;cases e;have:=(i.lt _ n).2;omega
def SC{W:F}{b:Nat}(h:W.heap[b]?=J (G (Jd p v vl vu) 118 (0,0))):W.cell? ⟨b,0,N⟩=J (.string p.name)/\W.cell? ⟨b,1,N⟩=J v/\W.cell? ⟨b,2,N⟩=J (O V p.depth)/\W.cell? ⟨b,3,N⟩=J (O V p.density)/\W.cell? ⟨b,4,N⟩=J (O V p.gx)/\W.cell? ⟨b,5,N⟩=J (O V p.gz)/\W.cell? ⟨b,6,N⟩=J (O V p.way)/\W.cell? ⟨b,7,N⟩=J (O V p.ax)/\W.cell? ⟨b,8,N⟩=J (O V p.az)/\W.cell? ⟨b,9,N⟩=J (O .u8 p.skin)/\W.cell? ⟨b,10,N⟩=J vl/\W.cell? ⟨b,11,N⟩=J vu/\(∀i,W.frozen? ⟨b,i,N⟩=false)/\b<W.heap.size:=
 ⟨Gb h (i:=0) rfl,Gb h (i:=1) rfl,Gb h (i:=2) rfl,Gb h (i:=3) rfl,Gb h (i:=4) rfl,Gb h (i:=5) rfl,Gb h (i:=6) rfl,Gb h (i:=7) rfl,Gb h (i:=8) rfl,Gb h (i:=9) rfl,Gb h (i:=10) rfl,Gb h (i:=11) rfl,Vb h,jc h⟩
def TC{W:F}{b:Nat}(h:W.heap[b]?=J (G Mp 118 (0,0))):W.cell? ⟨b,0,N⟩=J (.string ⟨#[]⟩)/\W.cell? ⟨b,1,N⟩=J (I N 0 0)/\W.cell? ⟨b,2,N⟩=J (O V 0)/\W.cell? ⟨b,3,N⟩=J (O V 0)/\W.cell? ⟨b,4,N⟩=J (O V 0)/\W.cell? ⟨b,5,N⟩=J (O V 0)/\W.cell? ⟨b,6,N⟩=J (O V 0)/\W.cell? ⟨b,7,N⟩=J (O V 0)/\W.cell? ⟨b,8,N⟩=J (O V 0)/\W.cell? ⟨b,9,N⟩=J (O .u8 0)/\W.cell? ⟨b,10,N⟩=J (I N 0 0)/\W.cell? ⟨b,11,N⟩=J (I N 0 0)/\(∀i,W.frozen? ⟨b,i,N⟩=false)/\b<W.heap.size:=
 ⟨Gb h (i:=0) rfl,Gb h (i:=1) rfl,Gb h (i:=2) rfl,Gb h (i:=3) rfl,Gb h (i:=4) rfl,Gb h (i:=5) rfl,Gb h (i:=6) rfl,Gb h (i:=7) rfl,Gb h (i:=8) rfl,Gb h (i:=9) rfl,Gb h (i:=10) rfl,Gb h (i:=11) rfl,Vb h,jc h⟩
def uk(w:F)(base:Nat)(p:Pl)(v:C)(L U:LP)(vl vu a b:C)(W:F):Prop:=
 oa w W/\w.heap.size+1+1<base/\base<=W.heap.size/\W.heap[w.heap.size+1]?=J (G Mp 118 (0,0))/\
 W.heap[w.heap.size+1+1]?=J (G (Jd p v a b) 118 (0,0))/\Ga 55 2 W base vl (L.map pc)/\Ga 55 2 W base vu (U.map pc)/\∀j,vl.ownBlock=J j->vu.ownBlock≠J j
def Ih.toX(h:Ih w base p v L U vl vu W):uk w base p v L U vl vu vl vu W:=by obtain⟨a,b,c,i,d,h6,e,f,g⟩:=h;exact⟨a,b,c,d,h6,e,f,g⟩
def uk.ext{a b:C}(h:uk w base p v L U vl vu a b W)(k:oa W w'):uk w base p v L U vl vu a b w':=by obtain⟨c,d,e,f,h6,g,i,j⟩:=h;exact⟨c.trans k,d,nT e k.size,k.e f,k.e h6,g.ext k,i.ext k,j⟩
def uk.low{c d:C}(h:uk w base p v L U vl vu c d W)(a:W.grownBy w' vl.ownBlock)(u:Ga 55 2 w' base vl' (L'.map pc))(s:vl'.ownBlock=vl.ownBlock):uk w base p v L' U vl' vu c d w':=by
 obtain⟨n,o,f,q,h6,g,r,i⟩:=h;have b:∀k,k<base->J k≠vl.ownBlock:=fun k l e=>by have:=(g.lt k e.symm).1;omega
 refine⟨n.E (Ch a f (fun k l=>(g.lt k l).1)) oM,o,nT f a.size,Bh a q (b _ oM),Bh a h6 (b _ oM),u,r.grown a ?_,fun j t=>i j (s▸t)⟩;cases e:vu.ownBlock with
 | none=>exact .inl rfl
 | some j=>exact .inr (fun m=>i j m.symm e)
def uk.up{c d:C}(h:uk w base p v L U vl vu c d W)(a:W.grownBy w' vu.ownBlock)(u:Ga 55 2 w' base vu' (U'.map pc))(s:vu'.ownBlock=vu.ownBlock):uk w base p v L U' vl vu' c d w':=by
 obtain⟨n,o,f,q,h6,r,g,i⟩:=h;have b:∀k,k<base->J k≠vu.ownBlock:=fun k l e=>by have:=(g.lt k e.symm).1;omega
 refine⟨n.E (Ch a f (fun k l=>(g.lt k l).1)) oM,o,nT f a.size,Bh a q (b _ oM),Bh a h6 (b _ oM),r.grown a ?_,u,fun j t=>s▸i j t⟩;cases e:vl.ownBlock with
 | none=>exact .inl rfl
 | some j=>exact .inr (fun m=>i j e m.symm)
end
def ju{ps:LP}(i:Int):ye ps (i+ps.length)=ye ps i:=by unfold ye;rw[Int.add_emod_right]
def VE(u v c:Int×Int):Ce u v c=Ce c u v:=by unfold Ce;grind
def jt{ps:LP}(h:Ta ps=true){i:Nat}(hi:i<ps.length):0<Ce (ye ps ((i:Int)-1)) (ye ps i) (ye ps ((i:Int)+1))/\∀k:Nat,2<=k->k<ps.length-1->0<Ce (ye ps i) (ye ps ((i:Int)+1)) (ye ps ((i:Int)+k)):=by
 unfold Ta at h;simp only[Bool.and_eq_true,List.all_eq_true,List.mem_range]at h;have a:=h.2 i hi;unfold fh at a;simp only[Bool.and_eq_true,List.all_eq_true,List.mem_range,Bool.or_eq_true,decide_eq_true_eq]at a;refine⟨by simpa[gj] using a.1,fun k d b=>?_⟩;rcases a.2 k b with c|c
 ·omega
 ·simpa[fj] using c
def Cz{ps:LP}(h:Ta ps=true){i j:Nat}(hi:i<ps.length)(b:j<ps.length)(d:i≠j):ps[j]=ye ps ((i:Int)+1)\/ps[j]=ye ps ((i:Int)-1)\/0<Ce (ye ps i) (ye ps ((i:Int)+1)) ps[j]:=by
 have a:ps[j]=ye ps (j:Int):=by
  have:=Ko b;rw[gE b]at this;exact Option.some.inj this
 obtain⟨k,f,g,e⟩:∃k:Nat,1<=k/\k<=ps.length-1/\ye ps ((i:Int)+k)=ye ps (j:Int):=by
  by_cases l:i<j
  ·exact⟨j-i,by omega,by omega,by congr 1;omega⟩
  ·refine⟨j+ps.length-i,by omega,by omega,?_⟩;rw[show (i:Int)+((j+ps.length-i:Nat):Int)=(j:Int)+ps.length by omega];exact ju _
 rw[a,<-e];by_cases c:k=1
 ·subst c;exact .inl rfl
 ·by_cases m:k=ps.length-1
  ·right;left
   rw[show (i:Int)+(k:Int)=((i:Int)-1)+ps.length by omega];exact ju _
  ·right;right
   exact(jt h hi).2 k oM oM
def pJ{ps:LP}(h:Ta ps=true):Qe ps:=by
 have l:3<=ps.length:=by
  unfold Ta xb at h;simp only[Bool.and_eq_true,decide_eq_true_eq]at h;omega
 have a:∀i:Nat,(hi:i<ps.length)->ps[i]=ye ps (i:Int):=fun i hi=>by
  have:=Ko hi;rw[gE hi]at this;exact Option.some.inj this
 refine⟨?_,l,fun u v n c m o hv=>?_⟩
 ·rw[List.nodup_iff_pairwise_ne,List.pairwise_iff_getElem];intro i j hi k f e;have b:=(jt h hi).1;rcases Cz h hi k oM with d|d|d
  ·rw[<-d,<-e,a i hi]at b;unfold Ce at b;simp at b
  ·rw[<-d,<-e,a i hi]at b;unfold Ce at b;simp at b
  ·rw[<-e,a i hi]at d;have:Ce (ye ps (i:Int)) (ye ps ((i:Int)+1)) (ye ps (i:Int))=0:=by unfold Ce;grind
   omega
 ·obtain⟨i,hi,rfl,rfl⟩:∃i:Nat,i<ps.length/\u=ye ps (i:Int)/\v=ye ps ((i:Int)+1):=by
   rcases n with ⟨A,B,e⟩|⟨M,e⟩
   ·(have g:A.length<ps.length:=by rw[e];simp);(have r:A.length+1<ps.length:=by rw[e];simp);refine⟨A.length,g,?_,?_⟩
    ·rw[<-a _ g];simp[e]
    ·have:=a _ r;rw[show ((A.length+1:Nat):Int)=(A.length:Int)+1 by omega]at this;rw[<-this];simp[e]
   ·have q:0<ps.length:=oM;(have g:M.length+1<ps.length:=by rw[e];simp);(have s:ps.length=M.length+2:=by rw[e];simp);refine⟨M.length+1,g,?_,?_⟩
    ·rw[<-a _ g];simp[e]
    ·rw[show ((M.length+1:Nat):Int)+1=0+ps.length by omega,ju];have:=a 0 q;rw[show ((0:Nat):Int)=0 from rfl]at this;rw[<-this];simp[e]
  obtain⟨j,k,rfl⟩:=List.mem_iff_getElem.1 m;have f:i≠j:=by rintro rfl;exact o (a i hi)
  rcases Cz h hi k f with d|d|d
  ·exact absurd d hv
  ·rw[d,VE];exact(jt h hi).1
  ·exact d
def tK{ps:LP}(h:Qe ps):Qe (Nb ps):=by
 unfold Nb;refine Qe.map ?_ _ ?_ ?_
 ·have:=Qe.rot (P:=ps.take (Pf ps)) (Q:=ps.drop (Pf ps)) (by rw[List.take_append_drop];exact h);exact this
 ·intro u v c;unfold Ce;dsimp only;grind
 ·intro x y e;simp only[Prod.mk.injEq]at e;exact Prod.ext oM oM
def Fx(way:Int)(u v c:Int×Int):Ce (jb way u) (jb way v) (jb way c)=if 3<way then Ce v u c else Ce u v c:=by unfold jb Ce;dsimp only;split<;>(split<;>first|grind|(split<;>first|grind|(split<;>grind)))
def Gx(way:Int)(x y:Int×Int)(h:jb way x=jb way y):x=y:=by unfold jb at h;dsimp only at h;obtain⟨a,b⟩:=x;obtain⟨c,d⟩:=y;split at h<;>(split at h<;>first|(simp only[Prod.mk.injEq]at h ⊢;omega)|(split at h<;>first|(simp only[Prod.mk.injEq]at h ⊢;omega)|(split at h<;>(simp only[Prod.mk.injEq]at h ⊢;omega))))
def jK{way:Int}{ps:LP}(h:Qe ps):Qe (Lb way ps):=by
 unfold Lb;refine tK ?_;by_cases a:3<way
 ·rw[if_pos a];exact h.flip _ (fun u v c=>by rw[Fx,if_pos a]) (Gx way)
 ·rw[if_neg a];exact h.map _ (fun u v c=>by rw[Fx,if_neg a]) (Gx way)
def Zo{p:Pl}(h:Ea p=true):Qe (Ba p):=by
 have a:Ta p.shape=true:=by
  cases hcc:Ta p.shape with
  | true=>rfl
  |false=>
   unfold Ea ud at h;rw[Es hcc]at h;simp at h
 unfold Ba;refine(jK (pJ a)).map _ ?_ ?_
 ·intro u v c;unfold Ce;dsimp only;grind
 ·intro x y e;simp only[Prod.mk.injEq]at e;exact Prod.ext oM oM
def Jy(W:F)(x z b c:Int)(T:TypeId):∀(j:Nat) u,[pc (x,z),pc (b,c)].flatten[j]?=J u->(W.alloc (G #[O V x,O V z,O V b,O V c] T)).cell? ((⟨W.heap.size,0,N⟩:Addr).add j)=J u:=by
 intro j u a
 match j,a with
 | 0,a=>simp[pc]at a;subst a;simp[Addr.add]
 | 1,a=>simp[pc]at a;subst a;simp[Addr.add]
 | 2,a=>simp[pc]at a;subst a;simp[Addr.add]
 | 3,a=>simp[pc]at a;subst a;simp[Addr.add]
 | j+4,a=>simp[pc]at a
def Tw(x z a b:Int):∀u∈[pc (x,z),pc (a,b)].flatten,u.oneCell'=true:=Ao (ps:=[(x,z),(a,b)])
def qM(w:F)(base:Nat)(p:Pl)(v:C)(cs:LP)(b:C)(g:Nat)(a:C)(W:F):Prop:=
 ∃(i:Nat)(vl vu:C),i<=cs.length/\a=O V i/\g=cs.length-i/\Ih w base p v (Dc cs i) (Ad cs i) vl vu W/\Ga 55 2 W (w.heap.size+1+1+1) b (cs.map pc)
def Yw{W w':F}{base s:Nat}{a v:C}{cs:List (List C)}{L:List (List C)}(h:Ga 55 2 W (s+1) a cs)(c:∀j,a.ownBlock=J j->j<base)(f:Ga 55 2 W base v L)(d:W.grownBy w' v.ownBlock)(k:Nat)(u:C):Ga 55 2 (w'.setCell ⟨s,k,N⟩ u) (s+1) a cs:=by
 refine Ga.setOther (h.grown d ?_) (fun e=>?_) _
 ·cases e:a.ownBlock with
  | none=>exact .inl rfl
  | some j=>exact .inr (fun b=>by have:=(f.lt _ b.symm).1;have:=c _ e;omega)
 ·have:=(h.lt _ e).1;dsimp only at this;omega
def CK(w:F)(p:Pl)(v:C)(h:Aa w v p.shape)(aI:Ea p=true)(hg:Gw w)(hL:Dc (Ba p) (Ba p).length≠[])(hU:Ad (Ba p) (Ba p).length≠[]):Calls Tryz.prog 104 #[H (pe p v)] w (Rk w p v):=by
 obtain⟨a,c,rfl⟩:=h.form;obtain⟨aG,aU,av⟩:=ip aI;have aq:=fun W (hW:oa w W)=>IK W p _ (h.i hW) aI (hg.ext hW);obtain⟨cs,aH⟩:=gX (Ba p);obtain⟨pn,a9⟩:=gX p.shape.length;rw[a9]at aq h ⊢;obtain⟨R,hR⟩:=gX (Rk w p (I a pn c));rw[hR];have HR:=ia hR;rw[aH]at aq aG aU av hL hU;obtain⟨n,hn⟩:=gX cs.length;rw[hn]at aU av hL hU;have bk:=ia aq;have aO:=ia aG;have Hn:=ia hn;have aP:=ia aH;have HL:=ia hL;have HU:=ia hU;clear aq aG hn aH hR aI a9 h hL hU;obtain⟨P,hP⟩:=gX p;obtain⟨nm,ps,d,de,gx,gz,wy,ax,az,sk⟩:=p;unfold pe at *;dsimp only at *;have HP:=ia hP;clear hP;go_in;go_wp2_with(((go_at_call 168;refine cM (bk.o _ eA) ?_;rintro e w1 ⟨v1,rfl,aj,al⟩;obtain⟨a1,n1,c1,rfl⟩:=aj.j;obtain rfl:n=n1:=(by have h9:=aj.len;rw[lL,Hn.o]at h9;exact h9.symm);obtain⟨⟨bt,bw⟩,bd,be,aC⟩:=oc w al)));obtain⟨base,ab⟩:=gX w1.heap.size;have bc:oa w w1:=eA;have bs:w.heap.size+1+1<base:=by rw[<-ab];exact aC
 have aw:∀j,(Value.slice a1 n c1).ownBlock=J j->j<base:=fun j hj=>by rw[<-ab];exact(aj.lt j hj).2
 have K0:=al.e (k:=w.heap.size) (by rw[Ef,if_neg (by simp;omega),Ef,if_neg sM];exact Kc _ _ _ rfl);have K1:=al.e (k:=w.heap.size+1) (by rw[Ef,if_neg sM];exact Kc _ _ _ sM);have K2:=al.e (k:=w.heap.size+1+1) (Kc _ _ _ sM);have aS:Ih w base ⟨nm,ps,d,de,gx,gz,wy,ax,az,sk⟩ (I a pn c) [] [] (I N 0 0) (I N 0 0) w1:=
  ⟨bc,bs,by omega,K0,K1,K2,Ga.nil _ _ _ _,Ga.nil _ _ _ _,fun j hj=>by cases hj⟩
 have aB:Ga 55 2 w1 (w.heap.size+1+1+1) (I a1 n c1) (cs.map pc):=aj.mono sM;have aL:=ia aS;have aQ:=ia aB;have ar:=ia aw;clear K0 K1 K2 aS aB aw aj al bt bw bd be aC ab bc;go_loopg [18] n (qM w base ⟨nm,ps,d,de,gx,gz,wy,ax,az,sk⟩ (I a pn c) cs (I a1 n c1))
 case atStart=>exact⟨0,_,_,by omega,rfl,by rw[Hn.o];rfl,aL.o,aQ.o⟩
 case round =>
  clear aL aQ;obtain⟨i,vl,vu,hi,rfl,rfl,hO,ay⟩:=hrel;rw[Hn.o]at hi;have br:=hO;obtain⟨h1,_,h3,h4,h5,h6,h7,h8,h9⟩:=br;obtain⟨la,ln,lc,rfl⟩:=h7.j;obtain⟨ua,un,uc,rfl⟩:=h8.j;have bG:=ja h6 10 (I la ln lc);have bH:=ja h6 11 (I ua un uc);have z6:=jc h6;have bQ:w.heap.size+1+1<wr.heap.size+1:=oM;have bT:w.heap.size+1+1<wr.heap.size+1+1:=oM;have HO:=ia hO;have y:=ia ay;have aK:=Qw cs i;clear h1 h3 h4 h5 h6 h7 h8 h9 hO ay;by_cases bO:i<n
  ·obtain⟨⟨x,z⟩,hq⟩:∃q,cs[i]?=J q:=⟨cs[i]'(by rw[Hn.o];omega),by simp⟩;obtain⟨k,hk⟩:=gX ((i+1)%n);have bN:k<n:=by rw[<-hk];exact Nat.mod_lt _ oM
   obtain⟨⟨K,z'⟩,aJ⟩:∃q,cs[k]?=J q:=⟨cs[k]'(by rw[Hn.o];omega),by simp⟩;have hm:((i:Int)+1)%(n:Int)=(k:Int):=by rw[<-hk];simp
   obtain⟨b,o,rfl,hb,d0,d1⟩:=(y.o.pts).at' hq;obtain⟨b',o',e',bM,d2,d3⟩:=(y.o.pts).at' aJ;cases e';have hE:Kd cs i=(if x<K then [(x,z),(K,z')]else [])/\xe cs i=(if K<x then [(x,z),(K,z')]else []):=by
    unfold Kd xe;rw[Hn.o,hk,gD,gD,hq,aJ];exact⟨rfl,rfl⟩
   have HE:=ia hE;have p1:(0:Int)<=(i:Int):=oM;have p2:(i:Int)<(n:Int):=oM;have p3:(0:Int)<=(k:Int):=oM;have p4:(k:Int)<(n:Int):=oM;have p5:(0:Int)<(n:Int):=oM;have aA:((Dc cs i).map pc).length+2<=100000000000/\((Ad cs i).map pc).length+2<=100000000000:=by rw[lL,lL];omega
   have au:=ia aA;clear hq aJ hE hk aA aK;by_cases t1:x<K
   ·have g:=HE.o.1;have l:=HE.o.2;rw[if_pos t1]at g;rw[if_neg oM]at l;have ae:=ia g;have af:=ia l;clear g l;have X5:oa wr (((wr.alloc (G #[O V x,O V z] 55)).alloc (G #[O V K,O V z'] 55)).alloc (G #[O V x,O V z,O V K,O V z'] 55)):=(((eR wr).alloc _).alloc _).alloc _;have r:=HO.o.ext X5;have ak:=r.2.2.2.2.2.2;have ah:=r.2.2.1;have aD:=ia r.2.2.2.2.2.1;have aE:=ia r;have aa:=ia ak.1;clear r ak;go_wp2_with(at_builtin;refine kj (T:=55) (t:=107) (z:=H #[O V 0,O V 0]) (k:=2) (bytes:=16) (base:=base) (v:=I la ln lc) (cs:=(Dc cs i).map pc) (m:=2) (c:=2) (ad:=⟨wr.heap.size+1+1,0,N⟩) ul rfl dM dM Tryz.underlying107 rfl _ _ rfl rfl aa.o rfl [pc (x,z),pc (K,z')] rfl (by simp[pc]) (by simpa using Jy ((wr.alloc (G #[O V x,O V z] 55)).alloc (G #[O V K,O V z'] 55)) x z K z' 55) (Tw _ _ _ _) au.o.1 ah ?_;intro v' w5 s f ai;obtain⟨a5,n5,c5,rfl⟩:=s.j;have E5:=Bh f aD.o (fun e=>by have:=(aa.o.lt _ e.symm).1;omega);have c9:=ja E5 10 (I la ln lc);have f9:=Vb E5 10);go_roundg (n-(i+1))
    case measure=>have:=Hn.o;omega
    case rel =>
     refine⟨i+1,I a5 n5 c5,I ua un uc,by have:=Hn.o;omega,by go_num,by rw[Hn.o],?_,Yw (y.o.ext X5) ar.o aa.o f _ _⟩;rw[Tr,Zr,ae.o,af.o,List.append_nil];exact Ih.setLow aE.o f (by rw[List.map_append];exact s) ai
   ·by_cases t2:K<x
    ·have k1:K<=x:=oM;have g:=HE.o.1;have l:=HE.o.2;rw[if_neg t1]at g;rw[if_pos t2]at l;have ae:=ia g;have af:=ia l;clear t1 g l;have X5:oa wr (((wr.alloc (G #[O V x,O V z] 55)).alloc (G #[O V K,O V z'] 55)).alloc (G #[O V x,O V z,O V K,O V z'] 55)):=(((eR wr).alloc _).alloc _).alloc _;have r:=HO.o.ext X5;have ak:=r.2.2.2.2.2.2;have ah:=r.2.2.1;have aD:=ia r.2.2.2.2.2.1;have aE:=ia r;have aa:=ia ak.2.1;clear r ak;go_wp2_with(at_builtin;refine kj (T:=55) (t:=107) (z:=H #[O V 0,O V 0]) (k:=2) (bytes:=16) (base:=base) (v:=I ua un uc) (cs:=(Ad cs i).map pc) (m:=2) (c:=2) (ad:=⟨wr.heap.size+1+1,0,N⟩) ul rfl dM dM Tryz.underlying107 rfl _ _ rfl rfl aa.o rfl [pc (x,z),pc (K,z')] rfl (by simp[pc]) (by simpa using Jy ((wr.alloc (G #[O V x,O V z] 55)).alloc (G #[O V K,O V z'] 55)) x z K z' 55) (Tw _ _ _ _) au.o.2 ah ?_;intro v' w5 s f ai;obtain⟨a5,n5,c5,rfl⟩:=s.j;have E5:=Bh f aD.o (fun e=>by have:=(aa.o.lt _ e.symm).1;omega);have c9:=ja E5 11 (I ua un uc);have f9:=Vb E5 11);go_roundg (n-(i+1))
     case measure=>have:=Hn.o;omega
     case rel =>
      refine⟨i+1,I la ln lc,I a5 n5 c5,by have:=Hn.o;omega,by go_num,by rw[Hn.o],?_,Yw (y.o.ext X5) ar.o aa.o f _ _⟩;rw[Tr,Zr,ae.o,af.o,List.append_nil];exact Ih.setUp aE.o f (by rw[List.map_append];exact s) ai
    ·have k1:K<=x:=oM;have k2:x<=K:=oM;have g:=HE.o.1;have l:=HE.o.2;rw[if_neg t1]at g;rw[if_neg t2]at l;have ae:=ia g;have af:=ia l;clear t1 t2 g l;go_wp2;go_roundg (n-(i+1))
     case measure=>have:=Hn.o;omega
     case rel =>
      refine⟨i+1,I la ln lc,I ua un uc,by have:=Hn.o;omega,by go_num,by rw[Hn.o],?_,y.o.ext eA⟩;rw[Tr,Zr,ae.o,af.o,List.append_nil,List.append_nil];exact HO.o.ext eA
  ·obtain rfl:i=n:=oM;have hO:=HO.o;have ac:=yo aO.o (i:=i) (by rw[Hn.o];exact nE _);obtain⟨LR,ao⟩:=gX (Dc cs i);obtain⟨UR,ap⟩:=gX (Ad cs i);rw[ao,ap]at aK hO ac;have aR:LR≠[]:=by rw[<-ao];exact HL.o
   have aT:UR≠[]:=by rw[<-ap];exact HU.o
   have bh:=ia ao;have bj:=ia ap;clear ao ap HO;obtain⟨lg,rfl,_,_⟩:=Ga.blk hO.2.2.2.2.2.2.1 (by rw[lL];exact List.length_pos_iff.2 aR);obtain⟨ug,rfl,_,_⟩:=Ga.blk hO.2.2.2.2.2.2.2.1 (by rw[lL];exact List.length_pos_iff.2 aT);have ba:=CB wr base lg ln lc LR hO.2.2.2.2.2.2.1 (fun q hq=>⟨(ac.1 q hq).1.mono dM,(ac.1 q hq).2.mono dM⟩) oM;have bb:=fun(W:F)(ho:Ga 55 2 W base (I (J ⟨ug,0,N⟩) un uc) (UR.map pc))=>CB W base ug un uc UR ho (fun q hq=>⟨(ac.2 q hq).1.mono dM,(ac.2 q hq).2.mono dM⟩) oM;have aZ:(re LR).length<=1000000:=by rw[(Wm LR).length_eq];omega
   have a0:(re UR).length<=1000000:=by rw[(Wm UR).length_eq];omega
   have aX:=fun(W:F)(ho:Ga 55 2 W base (I (J ⟨lg,0,N⟩) ln lc) ((re LR).map pc))=>yB W base (I (J ⟨lg,0,N⟩) ln lc) (re LR) ho aZ;have aY:=fun(W:F)(ho:Ga 55 2 W base (I (J ⟨ug,0,N⟩) un uc) ((re UR).map pc))=>yB W base (I (J ⟨ug,0,N⟩) un uc) (re UR) ho a0;have HO:=ia hO;have bn:=ia ba;have bo:=ia bb;have bl:=ia aX;have bm:=ia aY;clear hO ba bb aX aY ac aK aZ a0 aR aT y aO;go_wp2_with fail;(with_reducible refine bn.o.mono ?_);rintro e w2 ⟨rfl,a3,aV⟩;have am:=ia (Ih.low HO.o aV a3);have bI:=ja am.o.2.2.2.2.2.1 11 (I (J ⟨ug,0,N⟩) un uc);have bP:=jc am.o.2.2.2.2.2.1;clear a3 aV;go_wp2_with fail;have bC:=am.o.2.2.2.2.2.2.2.1;(with_reducible refine(bo.o w2 bC).mono ?_);rintro e w3 ⟨rfl,a6,aW⟩;have bi:=ia (Ih.up am.o aW a6);clear a6 aW;go_wp2_with fail;have ag:=bi.o.toX;have bJ:=ja ag.2.2.2.2.1 10 (I (J ⟨lg,0,N⟩) ln lc);have bK:=ja ag.2.2.2.2.1 11 (I (J ⟨ug,0,N⟩) un uc);have y3:=jc ag.2.2.2.2.1;have aM:=ia ag;have bg:=ia (aM.o.ext (eR w3).drew).2.2.2.2.2.1;clear ag
   first|(go_region_with (first|((go_at_call 171;(with_reducible refine(bl.o _ bg.o).mono ?_);rintro e w4 ⟨v4,rfl,a7,bx,bu⟩;obtain⟨a4,n4,c4,rfl⟩:=a7.j;have an:=ia (uk.low (aM.o.ext (eR w3).drew) bx a7 bu);have bL:=ja an.o.2.2.2.2.1 11 (I (J ⟨ug,0,N⟩) un uc);have y4:=jc an.o.2.2.2.2.1;have bD:=an.o.2.2.2.2.2.2.1))|((go_at_call 171;(with_reducible refine(bm.o _ bD).mono ?_);rintro e w5 ⟨v5,rfl,a8,bz,bv⟩;obtain⟨a5,n5,c5,rfl⟩:=a8.j;have aF:=ia (uk.up an.o bz a8 bv);obtain⟨b0,b1,b2,b3,b4,b5,b6,b7,b8,b9,bE,bF,bf,y5⟩:=SC aF.o.2.2.2.2.1;obtain⟨d0,d1,d2,d3,d4,d5,d6,d7,d8,d9,bp,bq,df,y6⟩:=TC aF.o.2.2.2.1;dsimp only at b0 b2 b3 b4 b5 b6 b7 b8 b9))))|fail
   all_goals go_wp2
   all_goals
    have bA:¬w.heap.size+1+1=w.heap.size+1:=oM;have bB:¬w.heap.size+1=w.heap.size+1+1:=oM;refine bR (v:=H (Jd ⟨nm,ps,d,de,gx,gz,wy,ax,az,sk⟩ (I a pn c) (I a4 n4 c4) (I a5 n5 c5))) (by simp[results,Tryz.results104,go_sem,Jd,d0,d1,d2,d3,d4,d5,d6,d7,d8,d9,bp,bq,bA,bB]) rfl ?_;rw[<-HR.o];obtain⟨f1,f2,f3,f5,f6,f7,f8,f9⟩:=aF.o;have a2:∀{u:C}{L:List (List C)},Ga 55 2 w5 base u L->u.ownBlock≠J (w.heap.size+1+1)/\u.ownBlock≠J (w.heap.size+1):=fun ho=>⟨fun e=>by have:=(ho.lt _ e).1;omega,fun e=>by have:=(ho.lt _ e).1;omega⟩;obtain⟨m1,m2⟩:=a2 f7;obtain⟨m3,m4⟩:=a2 f8;refine⟨I a4 n4 c4,I a5 n5 c5,rfl,?_,?_,?_⟩
    ·unfold za Gc;rw[aP.o,Hn.o,bh.o];refine Ga.pts (base:=base) ?_
     repeat(refine Ga.setOther ?_ (by first|exact m1|exact m2) _)
     exact f7
    ·unfold Ra Gc;rw[aP.o,Hn.o,bj.o];refine Ga.pts (base:=base) ?_
     repeat(refine Ga.setOther ?_ (by first|exact m3|exact m4) _)
     exact f8
    ·repeat(refine oa.set ?_ dO _)
     exact f1
end
section
open Go.RowKit Go.Shelf Go.Lib
