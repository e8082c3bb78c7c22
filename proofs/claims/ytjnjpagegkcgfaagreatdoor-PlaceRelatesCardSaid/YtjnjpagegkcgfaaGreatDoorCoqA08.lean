import Derived.Test.YtjnjpagegkcgfaaGreatDoorCoqA07
import Derived.Laws.StructEq
set_option maxRecDepth 1000000
set_option maxHeartbeats 16000000
set_option linter.all false
open Go.Value renaming int->O,slice->I,agg->H
open Go.IntKind renaming i64->V
open Option renaming some->J,none->N
open Go renaming Value->C,World->F
open Go.Obj renaming cells->G
namespace Go.Proofs.YtjnjpagegkcgfaaGreatDoor.Cop
section
open Go.RowKit Go.Shelf
def Cc(way:Int)(ps:LP):LP:=Nc (if 3<way then (ps.map (Wc way)).reverse else ps.map (Wc way))
def tr{nb ps d g b c}(h:Dd nb ps d g b c=true):3<=ps.length/\ps.length<=12/\tg 2000 ps/\Bd 100 b/\Bd 100 c:=by
 unfold Dd at h;simp only[Bool.and_eq_true]at h;obtain⟨⟨⟨⟨_,a⟩,_⟩,_⟩,e⟩:=h;have i:Za ps=true:=by
  cases hcc:Za ps
  ·rw[Vu hcc]at a;cases a
  ·rfl
 have j:ps.any We=false:=by
  cases hff:ps.any We
  ·rfl
  ·rw[Vw hff]at a;cases a
 have f:=AF i;unfold Ld Ra at e;simp at e;exact⟨f.1,f.2,uA j,by unfold Bd;omega,by unfold Bd;omega⟩
def TI{k way x z}(a:Bd k x)(b:Bd k z):Bd k (Wc way (x,z)).1/\Bd k (Wc way (x,z)).2:=by
 have c:Bd k (-x):=by unfold Bd at *;omega
 have d:Bd k (-z):=by unfold Bd at *;omega
 have e:Bd k (- -x):=by unfold Bd at *;omega
 unfold Wc;dsimp only;split<;>split<;>(try split)<;>(try split)<;>exact⟨by assumption,by assumption⟩
def tg.way{k way ps}(h:tg k ps):tg k (ps.map (Wc way)):=fun p b=>by
 obtain⟨q,a,rfl⟩:=List.mem_map.1 b;exact TI (h q a).1 (h q a).2
def tg.rev{k ps}(h:tg k ps):tg k ps.reverse:=fun p a=>h p (List.mem_reverse.1 a)
def nl(W:F)(b:Nat)(f:ByteArray)(v:C)(d a c e:Int):Prop:=W.heap[b]?=J (G #[.string f,v,O V d,O V a,O V c,O V e] 45 (0,0))
def ov(w:F)(k base:Nat)(f:ByteArray)(v:C)(d b c e way:Int)(ps:LP)(g:Nat)(a:C)(W:F):Prop:=
 ∃(i:Nat)(j:C),i<=ps.length/\a=O V i/\g=ps.length-i/\Aa w W/\base<=W.heap.size/\nl W k f j d b c e/\Ka 43 2 W base j (((ps.take i).map (Wc way)).map pc)/\
  nl W w.heap.size f v d b c e/\W.heap[w.heap.size+1]?=J (G #[O V way] 3 (0,0))/\W.heap[w.heap.size+1+1]?=J (G #[.string ⟨#[]⟩,I N 0 0,O V 0,O V 0,O V 0,O V 0] 45 (0,0))/\Gw W
def nl.set{W b f v d a c e}(h:nl W b f v d a c e) u:nl (W.setCell ⟨b,1,N⟩ u) b f u d a c e:=by unfold nl at *;simp[World.setCell,Array.getElem?_modify,h]
def ov.step{w wr c a s v v3 v4 d g j l way ps n i}(K:ps.length=n)(z:i<n)(hx:Aa w wr)(R:w.heap.size+1+1<a)(u:nl wr a s v3 d g j l)(m:nl wr w.heap.size s v d g j l)(q:wr.heap[w.heap.size+1]?=J (G #[O V way] 3 (0,0)))(r:wr.heap[w.heap.size+1+1]?=J (G #[.string ⟨#[]⟩,I N 0 0,O V 0,O V 0,O V 0,O V 0] 45 (0,0)))(y:Gw w)(f:Below (a+1) wr c)(b:Ka 43 2 c (a+1) v4 (((ps.take (i+1)).map (Wc way)).map pc)):ov w a (a+1) s v d g j l way ps (n-(i+1)) (O V ((i:Int)+1)) (c.setCell ⟨a,1,N⟩ v4):=by
 have z8:a<wr.heap.size:=Jb u;have x:Aa w c:=hx.y f oM;have aa:=f.size;have E:∀{k:Nat}{o:Obj},k<a->wr.heap[k]?=J o->(c.setCell ⟨a,1,N⟩ v4).heap[k]?=J o:=fun hk P=>by
  rw[bS _ _ _ _ dO,f.block _ oM];exact P
 have t:Aa w (c.setCell ⟨a,1,N⟩ v4):=x.set dO _;refine⟨i+1,v4,by omega,by go_num,by rw[K],t,by simp only[yg];omega,nl.set (v:=v3) ((f.block a oM).trans u) _,b.setOther (fun e=>?_) _,E oM m,E oM q,E oM r,y.ext t⟩;have:=(b.lt _ e).1;dsimp only at this;omega
def Ka.pts{w base v b}(h:Ka 43 2 w base v (b.map pc)):Fa w v b:=
 Ka.sl h sM (fun i c x a d=>by
  rw[lP,d]at a;cases a;rfl)
def Qs(w:F)(b:ByteArray)(d a:Int)(g:Int×Int)(c:LP)(e:Ending)(w':F):Prop:=
 ∃v',e=.returned (.tuple #[H #[.string b,v',O V d,O V a,O V g.1,O V g.2],O V 0])/\Ka 43 2 w' w.heap.size v' (c.map pc)/\Aa w w'
def CN w nm v ps d P s t way(h:Fa w v ps)(hB:Dd (Ge nm) ps d P s t=true)(aY:0<=way)(aZ:way<=7)(hg:Gw w):Calls Tryz.prog 153 #[H #[.string nm,v,O V d,O V P,O V s,O V t],O V way] w (Qs w nm d P (Wc way (s,t)) (Cc way ps)):=by
 obtain⟨a,c,rfl⟩:=h.form;obtain⟨h3,Yh,ba,bc,be⟩:=tr hB;have al:=fun W (hW:Aa w W)=>mE W nm _ ps d P s t (h.f hW);rw[hB]at al;simp only[if_true]at al;have bl:Ra way 0 7=true:=by simp[Ra];omega
 obtain⟨n,hn⟩:=gX ps.length;rw[hn]at h al ⊢;have bo:=ka al;have aG:=ka ba;have a6:=ka bc;have a7:=ka be;have Hn:=ka hn;have bu:=ka bl;have Hg:=ka hg;obtain⟨R,hR⟩:=gX (Qs w nm d P (Wc way (s,t)) (Cc way ps));rw[hR];have HR:=ka hR;have bI:∀(fn:Fn)(first cap:Array C)(w:F),(Instr.makeFunc fn first cap).run Tryz.prog w = .ok (.func fn first cap) w:=fun _ _ _ _=>rfl;clear al ba bc be bl hg hB hR;rw[hn]at h3 Yh;clear hn;go_in;go_wp2_with(first|((go_at_call 91;refine cM (bo.o _ eA) ?_;rintro e w1 ⟨rfl,a0⟩;obtain⟨⟨bv,bz⟩,aD,aE,aF⟩:=Ub w a0))|((go_at_call 160;(with_reducible refine(Vh _ way 0 7).mono ?_);rw[bu.o];rintro e w2 ⟨rfl,ah⟩;obtain⟨bw,bA⟩:=ah.cells;have bm:=ah.lt aD;have bn:=ah.lt aE;have aw:=ah.lt aF)));have aA:Aa w w2:=eA;have aB:Aa (((w.alloc (G #[.string nm,I a n c,O V d,O V P,O V s,O V t] 45)).alloc (G #[O V way] 3)).alloc (G #[.string ⟨#[]⟩,I N 0 0,O V 0,O V 0,O V 0,O V 0] 45)) w2:=a0.trans ah;obtain⟨g,au⟩:=gX w2.heap.size;have a8:=ka au;rw[au];rw[au]at aw;have bJ:w.heap.size<=g:=by rw[<-au];exact aA.size
 clear au;go_loopg [27] n (ov w g (g+1) nm (I a n c) d P s t way ps)
 case atStart =>
  have hy:=(eR w2).alloc (G #[.string nm,I N 0 0,O V d,O V P,O V s,O V t] 45);refine⟨0,I N 0 0,by omega,rfl,by rw[Hn.o];rfl,aA.alloc _,by simp[a8.o],Bc _ _ _ a8.o.symm,by simpa using Ka.nil _ _ _ _,hy.e (aB.e ?_),hy.e (aB.e ?_),hy.e (aB.e (Bc _ _ _ sM)),(Hg.o.ext aA).ext hy⟩
  ·rw[Dg,if_neg (by simp;omega),Dg,if_neg sM];exact Bc _ _ _ rfl
  ·rw[Dg,if_neg sM];exact Bc _ _ _ sM
 case round =>
  have bD:w.heap.size+1+1<g:=aw;clear bv bz bw bA a0 ah aA aB aD aE aF bm bn aw;obtain⟨i,vv,hi,rfl,rfl,hx,bk,h8,aq,aV,az,aW,ay⟩:=hrel;rw[Hn.o]at hi;obtain⟨va,vn,vc,rfl⟩:=aq.i;have c8:=Ba h8 (i:=1) (u:=I va vn vc) rfl;have f8:=Ya h8;have cw:=Ba az (i:=0) (u:=O V way) rfl;have z8:g<wr.heap.size:=Jb h8;have H8:=ka h8;have af:=ka aq;have aK:=ka aV;have aL:=ka az;have aM:=ka aW;have bG:=ka ay;have bH:wr.heap.size+1<=wr.heap.size+1:=nE _;by_cases bh:i<n
  ·obtain⟨⟨x,z⟩,hq⟩:∃q,ps[i]?=J q:=⟨ps[i]'(by rw[Hn.o];omega),by simp[Hn.o,bh]⟩;obtain⟨b,o,rfl,hb,d0,d1⟩:=(h.f hx).at' hq;have ax:=aG.o (x,z) (lM hq);have bF:=ka ax;obtain⟨⟨x2,z2⟩,a2⟩:∃q,Wc way (x,z)=q:=⟨_,rfl⟩;have aX:=fun(W:F)(hW:Aa wr W)=>Ax W x z way (w.heap.size+1) (hW.d cw) aY aZ (ay.ext hW) (ax.1.mono dM) (ax.2.mono dM);rw[a2]at aX;have bt:=ka aX;have bj:((ps.take (i+1)).map (Wc way)).map pc=((ps.take i).map (Wc way)).map pc++[pc (x2,z2)]:=by
    rw[Uf _ _ _ hq,List.map_append,List.map_append,<-a2];rfl
   have bs:=ka bj;have bg:(((ps.take i).map (Wc way)).map pc).length+1<=100000000000:=by simp;omega
   have bp:=ka bg;have p1:(0:Int)<=(i:Int):=oM;have p2:(i:Int)<(n:Int):=oM;clear hq ax aX bj bg ay aV az aW h8 a2;go_wp2
   go_region_law (first|(go_simp;go_at_call 197;go_wp2_with(go_at_call 197;(with_reducible refine(bt.o _ ?_).mono ?_);exact eA;rintro e j ⟨rfl,a1⟩;obtain⟨bx,bB⟩:=a1.cells;(try simp only[Jg,Ig,jc]at bx bB);(have y3:=a1.lt (n:=g) (by simp only[wZ,jc];omega));(have y4:=a1.lt (n:=wr.heap.size) (by simp only[wZ,jc];omega))))|(refine fd (v:=I va vn vc) (base:=g+1) Ro rfl dM dM Tryz.underlying38 (by rfl) _ _ (by rfl) (by rfl) (cs:=((ps.take i).map (Wc way)).map pc) (af.o.ext ?_) (by rfl) [pc (x2,z2)] rfl (by simp[pc]) (AP _ _ _ _) (sE _ _) bp.o ?_ ?_;exact eA;(simp only[wZ,jc];omega);intro v4 w4 ar aS bE;obtain⟨a4,n4,c4,rfl⟩:=ar.i;(have B4:Below (g+1) wr w4:=by(refine Below.trans (Below.mono (B':=g+1) (show Aa wr _ from ?_) bk) (Bh aS ?_ (fun k hk=>(af.o.lt k hk).1));exact eA;(simp only[wZ,jc];omega)));(have r:=(B4.block g oM).trans H8.o);(have c9:=Ba r (i:=1) (u:=I va vn vc) rfl);(have f9:=Ya r 1)))
   all_goals go_wp2
   all_goals
    go_roundg (n-(i+1))
    case measure=>have:=Hn.o;omega
    case rel=>exact ov.step Hn.o bh hx bD H8.o aK.o aL.o aM.o Hg.o B4 (by rw[bs.o];exact ar)
  ·obtain rfl:i=n:=oM;have e:(ps.take i).map (Wc way)=ps.map (Wc way):=by rw[lT (by rw[Hn.o];exact nE _)]
   have ad:=af.o;rw[e]at ad;have aC:(ps.map (Wc way)).length=i:=by simp[Hn.o]
   have a9:tg 1000000 (ps.map (Wc way)):=fun p hp=>⟨(aG.o.way p hp).1.mono dM,(aG.o.way p hp).2.mono dM⟩;have aa:=ka ad;have aj:=ka aC;have a3:=ka a9;clear e aq ad aC a9 ay aV az aW h8 af;by_cases ag:3<way
   ·(have k3:decide (3<way)=true:=by simpa using ag);have bi:=DI wr (g+1) (I va vn vc) (ps.map (Wc way)) aa.o (by rw[aj.o];omega);have br:=ka bi;obtain⟨ls,l⟩:=gX ((ps.map (Wc way)).reverse);have HL:Ta (Cc way ps=Nc ls):=ka (by unfold Cc;rw[if_pos ag,l]);(have am:ls.length=i:=by rw[<-l,List.length_reverse];exact aj.o);(have an:tg 1000000 ls:=by rw[<-l];exact a3.o.rev);have bq:=ka l;have ai:=ka am;have aI:=ka an;clear bi l am an ag;go_wp2_with(((go_at_call 198;(with_reducible refine br.o.mono ?_);rintro e j ⟨rfl,ac,bb⟩)));have B3:Below (g+1) wr j:=Bh bb bk (fun k hk=>(aa.o.lt k hk).1);rw[bq.o]at ac;have aJ:=ka ac;clear ac bb;have r:nl j g nm (I va vn vc) d P s t:=(B3.block g oM).trans H8.o;have E0:nl j w.heap.size nm _ d P s t:=(B3.block w.heap.size oM).trans aK.o;have E1:=(B3.block (w.heap.size+1) oM).trans aL.o;have K:=(B3.block (w.heap.size+1+1) oM).trans aM.o;have X3:Aa w j:=hx.y B3 oM;have b0:=Ba r (i:=0) (u:=.string nm) rfl;have b1:=Ba r (i:=1) (u:=I va vn vc) rfl;have b2:=Ba r (i:=2) (u:=O V d) rfl;have b3:=Ba r (i:=3) (u:=O V P) rfl;have b4:=Ba r (i:=4) (u:=O V s) rfl;have b5:=Ba r (i:=5) (u:=O V t) rfl;have bf:=Ya r;have a4:=Ba E0 (i:=4) (u:=O V s) rfl;have a5:=Ba E0 (i:=5) (u:=O V t) rfl;have e0:=Ba K (i:=0) (u:=.string ⟨#[]⟩) rfl;have e1:=Ba K (i:=1) (u:=I N 0 0) rfl;have e2:=Ba K (i:=2) (u:=O V 0) rfl;have e3:=Ba K (i:=3) (u:=O V 0) rfl;have e4:=Ba K (i:=4) (u:=O V 0) rfl;have e5:=Ba K (i:=5) (u:=O V 0) rfl;have ef:=Ya K;have y0:g<j.heap.size:=Jb r;have y1:w.heap.size+1+1<j.heap.size:=oM;have y2:w.heap.size<j.heap.size:=oM;have av:=fun(W:F)(hW:Aa j W)=>jF W (I va vn vc) ls (aJ.o.pts.f hW) (by rw[ai.o];omega) (by rw[ai.o];omega) aI.o;obtain⟨⟨g1,g2⟩,ab⟩:∃q,Wc way (s,t)=q:=⟨_,rfl⟩;have ae:=fun(W:F)(hW:Aa j W)=>Ax W s t way (w.heap.size+1) (hW.d (Ba E1 (i:=0) rfl)) aY aZ ((Hg.o.ext X3).ext hW) (a6.o.mono dM) (a7.o.mono dM);rw[ab]at ae;have aO:=ka av;have aP:=ka ae;have aH:=ka ab;clear av ae ab E0 E1 K r
    first|(go_region_with (first|((go_at_call 199;refine cM (aO.o _ eA) ?_;rintro e w4 ⟨v4,rfl,y,m⟩;obtain⟨q4,n4,c4,rfl⟩:=y.i;obtain⟨ak,aR⟩:=m.cells;(try simp only[Jg,Ig,jc]at ak aR);have u0:=m.lt (n:=g) y0;have u1:=m.lt (n:=w.heap.size+1+1) y1;have u2:=m.lt (n:=w.heap.size) y2;have X4:Aa j w4:=(eR j).drew.trans m))|((go_at_call 197;refine cM (aP.o _ eA) ?_;rintro e w5 ⟨rfl,f⟩;obtain⟨aQ,bC⟩:=f.cells;have t0:=f.lt u0;have t1:=f.lt u1;have t2:=f.lt u2))))|fail
    all_goals go_wp2
    all_goals
     have ap:(Value.slice q4 n4 c4).ownBlock≠J g:=fun e=>by
      have:=(y.lt _ e).1;simp only[jc]at this;omega
     have ao:(Value.slice q4 n4 c4).ownBlock≠J (w.heap.size+1+1):=fun e=>by
      have:=(y.lt _ e).1;simp only[jc]at this;omega
     have X5:Aa w w5:=(X3.trans X4).trans f;have aT:¬g=w.heap.size+1+1:=oM;have aU:¬w.heap.size+1+1=g:=oM;refine bR (v:=.tuple #[H #[.string nm,I q4 n4 c4,O V d,O V P,O V g1,O V g2],O V 0]) (by simp[results,Tryz.results153,go_sem,aQ,ak,u1,y1,e0,e1,e2,e3,e4,e5,aT,aU]) rfl ?_;rw[<-HR.o,aH.o,HL.o];refine⟨_,rfl,Ka.mono (b':=w.heap.size) ?_ X3.size,eA⟩
     repeat(refine Ka.setOther ?_ (by first|exact ap|exact ao) _)
     exact Ka.ext y f
   ·(have k3:decide (3<way)=false:=by simpa using ag);obtain⟨ls,l⟩:=gX (ps.map (Wc way));have HL:Ta (Cc way ps=Nc ls):=ka (by unfold Cc;rw[if_neg ag,l]);(have am:ls.length=i:=by rw[<-l];exact aj.o);(have an:tg 1000000 ls:=by rw[<-l];exact a3.o);have ac:=aa.o;rw[l]at ac;have aJ:=ka ac;have ai:=ka am;have aI:=ka an;clear l am an ag ac;obtain⟨j,rfl⟩:∃j,j=wr:=⟨_,rfl⟩;have B3:Below (g+1) j j:=Below.refl _ _;go_wp2;have r:nl j g nm (I va vn vc) d P s t:=(B3.block g oM).trans H8.o;have E0:nl j w.heap.size nm _ d P s t:=(B3.block w.heap.size oM).trans aK.o;have E1:=(B3.block (w.heap.size+1) oM).trans aL.o;have K:=(B3.block (w.heap.size+1+1) oM).trans aM.o;have X3:Aa w j:=hx.y B3 oM;have b0:=Ba r (i:=0) (u:=.string nm) rfl;have b1:=Ba r (i:=1) (u:=I va vn vc) rfl;have b2:=Ba r (i:=2) (u:=O V d) rfl;have b3:=Ba r (i:=3) (u:=O V P) rfl;have b4:=Ba r (i:=4) (u:=O V s) rfl;have b5:=Ba r (i:=5) (u:=O V t) rfl;have bf:=Ya r;have a4:=Ba E0 (i:=4) (u:=O V s) rfl;have a5:=Ba E0 (i:=5) (u:=O V t) rfl;have e0:=Ba K (i:=0) (u:=.string ⟨#[]⟩) rfl;have e1:=Ba K (i:=1) (u:=I N 0 0) rfl;have e2:=Ba K (i:=2) (u:=O V 0) rfl;have e3:=Ba K (i:=3) (u:=O V 0) rfl;have e4:=Ba K (i:=4) (u:=O V 0) rfl;have e5:=Ba K (i:=5) (u:=O V 0) rfl;have ef:=Ya K;have y0:g<j.heap.size:=Jb r;have y1:w.heap.size+1+1<j.heap.size:=oM;have y2:w.heap.size<j.heap.size:=oM;have av:=fun(W:F)(hW:Aa j W)=>jF W (I va vn vc) ls (aJ.o.pts.f hW) (by rw[ai.o];omega) (by rw[ai.o];omega) aI.o;obtain⟨⟨g1,g2⟩,ab⟩:∃q,Wc way (s,t)=q:=⟨_,rfl⟩;have ae:=fun(W:F)(hW:Aa j W)=>Ax W s t way (w.heap.size+1) (hW.d (Ba E1 (i:=0) rfl)) aY aZ ((Hg.o.ext X3).ext hW) (a6.o.mono dM) (a7.o.mono dM);rw[ab]at ae;have aO:=ka av;have aP:=ka ae;have aH:=ka ab;clear av ae ab E0 E1 K r
    first|(go_region_with (first|((go_at_call 199;refine cM (aO.o _ eA) ?_;rintro e w4 ⟨v4,rfl,y,m⟩;obtain⟨q4,n4,c4,rfl⟩:=y.i;obtain⟨ak,aR⟩:=m.cells;(try simp only[Jg,Ig,jc]at ak aR);have u0:=m.lt (n:=g) y0;have u1:=m.lt (n:=w.heap.size+1+1) y1;have u2:=m.lt (n:=w.heap.size) y2;have X4:Aa j w4:=(eR j).drew.trans m))|((go_at_call 197;refine cM (aP.o _ eA) ?_;rintro e w5 ⟨rfl,f⟩;obtain⟨aQ,bC⟩:=f.cells;have t0:=f.lt u0;have t1:=f.lt u1;have t2:=f.lt u2))))|fail
    all_goals go_wp2
    all_goals
     have ap:(Value.slice q4 n4 c4).ownBlock≠J g:=fun e=>by
      have:=(y.lt _ e).1;simp only[jc]at this;omega
     have ao:(Value.slice q4 n4 c4).ownBlock≠J (w.heap.size+1+1):=fun e=>by
      have:=(y.lt _ e).1;simp only[jc]at this;omega
     have X5:Aa w w5:=(X3.trans X4).trans f;have aT:¬g=w.heap.size+1+1:=oM;have aU:¬w.heap.size+1+1=g:=oM;refine bR (v:=.tuple #[H #[.string nm,I q4 n4 c4,O V d,O V P,O V g1,O V g2],O V 0]) (by simp[results,Tryz.results153,go_sem,aQ,ak,u1,y1,e0,e1,e2,e3,e4,e5,aT,aU]) rfl ?_;rw[<-HR.o,aH.o,HL.o];refine⟨_,rfl,Ka.mono (b':=w.heap.size) ?_ X3.size,eA⟩
     repeat(refine Ka.setOther ?_ (by first|exact ap|exact ao) _)
     exact Ka.ext y f
def Ss(base:Nat)(w:F)(v:C)(a:LP)(e:Ending)(w':F):Prop:=∃v',e=.returned v'/\Ka 43 2 w' base v' (a.map pc)/\w.grownBy w' v.ownBlock/\(v'.ownBlock=v.ownBlock)
def rS(w:F)(base:Nat)(v:C)(ps:LP)(g:Nat)(t3:C)(W:F):Prop:=
 ∃m:Nat,m+1<=ps.length/\t3=O V ((m+1:Nat):Int)/\g=ps.length-(m+1)/\(∀(j:Nat)(a b:Int×Int),j+1<m+1->ps[j]?=J a->ps[j+1]?=J b->a≠b)/\Ka 43 2 W base v (ps.map pc)/\w.grownBy W v.ownBlock
def Tj(ps:LP)(k a c:Nat)(b:LP):Prop:=
 b.length=ps.length/\1<=c/\c<=k+a/\k+a+1<=ps.length/\b.take c=Ma (ps.take (k+a+1))/\∀j,k+a<=j->b[j]?=ps[j]?
def tS(w:F)(base:Nat)(v:C)(ps:LP)(k:Nat)(g:Nat)(t3 t5:C)(W:F):Prop:=
 ∃(a c:Nat)(b:LP),t5=O V ((a+1:Nat):Int)/\t3=O V (c:Int)/\g=ps.length-(a+1)/\Tj ps k a c b/\Ka 43 2 W base v (b.map pc)/\w.grownBy W v.ownBlock
def Mw{α:Type}{xs:List α}{m a b}(c:xs[m]?=J a)(d:xs[m+1]?=J b):xs.take (m+2)=xs.take m++[a]++[b]:=by rw[Uf _ _ _ d,Uf _ _ _ c]
def Tj.start{ps m a}(h:∀(j:Nat)(a b:Int×Int),j+1<m+1->ps[j]?=J a->ps[j+1]?=J b->a≠b)(e:ps[m]?=J a)(f:ps[m+1]?=J a):Tj ps (m+1) 0 (m+1) ps:=by
 have g:=(lS.1 f).1;refine⟨rfl,by omega,by omega,by omega,?_,fun _ _=>rfl⟩;rw[show m+1+0+1=m+2 by omega,Mw e f,Sr,if_pos rfl,<-Uf _ _ _ e,tq];intro j x y d c;rw[List.getElem?_take]at d c;split at c
 ·rename_i h2;rw[if_pos oM]at d;exact h j x y h2 d c
 ·cases c
def Tj.same{ps e k a c p}(h:Tj ps k a c e)(b:ps[k+a]?=J p)(d:ps[k+a+1]?=J p):Tj ps k (a+1) c e:=by obtain⟨f,g,l,m,i,h6⟩:=h;have o:=(lS.1 d).1;refine⟨f,g,by omega,by omega,?_,fun j n=>h6 j oM⟩;rw[i,show k+(a+1)+1=k+a+2 by omega,Mw b d,Sr,if_pos rfl,<-Uf _ _ _ b]
def Tj.other{ps d k a c p q}(h:Tj ps k a c d)(e:ps[k+a]?=J p)(f:ps[k+a+1]?=J q)(b:p≠q):Tj ps k (a+1) (c+1) (d.set c q):=by obtain⟨g,l,m,n,i,h6⟩:=h;have r:=(lS.1 f).1;refine⟨by rw[List.length_set];exact g,by omega,by omega,by omega,?_,fun j o=>by rw[List.getElem?_set_ne oM];exact h6 j oM⟩;rw[show k+(a+1)+1=k+a+2 by omega,Mw e f,Sr,if_neg b,<-Uf _ _ _ e,<-i,Uf _ _ _ (show (d.set c q)[c]?=J q by rw[List.getElem?_set_self oM]),List.take_set_of_le (nE _)]
def Tj.get{ps b k a c}(h:Tj ps k a c b){j}(d:k+a<=j){q}(e:ps[j]?=J q):(b.map pc)[j]?=J (pc q):=by rw[lP,h.2.2.2.2.2 j d,e];rfl
def nr w base v(ps:LP)(h:Ka 43 2 w base v (ps.map pc))(aK:ps.length<=1000000):Calls Tryz.prog 128 #[v] w (Ss base w v (Ma ps)):=by
 obtain⟨a,n,c,rfl⟩:=h.i;have hl:=h.len;rw[lL]at hl;obtain⟨R,hR⟩:=gX (Ss base w (I a n c) (Ma ps));rw[hR];have HR:=ka hR;have r:Ta (ps.length=n):=ka hl.symm;clear hR;by_cases h2:n<2
 ·have e:Ma ps=ps:=by
   apply tq;intro j x y hx hy;have:=(lS.1 hy).1;omega
  have E:=ka e;have aD:(n:Int)<2:=oM;clear hl e h2;go_in;go_wp2;rw[<-HR.o,E.o];exact⟨_,rfl,h,World.grownBy.refl _ _,rfl⟩
 ·obtain⟨g,rfl,aU,aV⟩:=h.blk (by rw[lL];omega);have aD:¬(n:Int)<2:=oM;have aL:n<=c:=by
   rcases h.2.2 with ⟨h9,_⟩|⟨g',cap,cur,hv,_,_,ax,_⟩
   ·cases h9
   ·cases hv;rw[lL]at ax;omega
  have aF:c<=9223372036854775807:=by
   rcases h.2.2 with ⟨h9,_⟩|⟨g',cap,cur,hv,_,_,ax,aI,_⟩
   ·cases h9
   ·cases hv;unfold maxLen at aI;omega
  rw[<-hl]at aK;clear hl;go_in;go_wp2;go_loopg [3] (n-1) (rS w base (I (J ⟨g,0,N⟩) n c) ps)
  case atStart=>exact⟨0,by rw[r.o];omega,rfl,by rw[r.o],fun j a b hj=>by omega,h,World.grownBy.refl _ _⟩
  case round =>
   clear h;obtain⟨m,hm,rfl,rfl,ae,f,aa⟩:=hrel;rw[r.o]at hm;have ab:=ka ae;have ac:=ka f;have ag:=ka aa;by_cases aW:m+1<n
   ·obtain⟨⟨x,z⟩,hq⟩:∃q,ps[m+1]?=J q:=⟨ps[m+1]'(by rw[r.o];omega),by simp⟩;obtain⟨⟨x',z'⟩,ah⟩:∃q,ps[m]?=J q:=⟨ps[m]'(by rw[r.o];omega),by simp⟩;have d0:=f.cell (i:=m+1) (j:=0) (d:=pc (x,z)) (by rw[lP,hq];rfl) rfl;have d1:=f.cell (i:=m+1) (j:=1) (d:=pc (x,z)) (by rw[lP,hq];rfl) rfl;have d2:=f.cell (i:=m) (j:=0) (d:=pc (x',z')) (by rw[lP,ah];rfl) rfl;have d3:=f.cell (i:=m) (j:=1) (d:=pc (x',z')) (by rw[lP,ah];rfl) rfl;simp only[Nat.add_zero]at d0 d2;dsimp only at d0 d1 d2 d3;have u1:((m+1:Nat):Int)-1=(m:Int):=oM;have p1:(0:Int)<=(m:Int):=oM;have p2:(m:Int)<(n:Int):=oM;have p3:((m+1:Nat):Int)<(n:Int):=oM;have Hq:=ka hq;have am:=ka ah;clear ae f aa hq ah;by_cases e1:x=x'
    ·(have f1:(x==x')=true:=by simpa using e1);by_cases e2:z=z'
     ·(have f2:(z==z')=true:=by simpa using e2);(have az:Tj ps (m+1) 0 (m+1) ps:=by subst e1 e2;exact Tj.start ab.o am.o Hq.o);have aA:=ka az;have p4:((m+1:Nat):Int)<=(n:Int):=oM;have p5:(n:Int)<=(c:Int):=oM;have p6:((m+1:Nat):Int)<(c:Int):=oM;clear e1 e2 az;go_wp2;go_quiet (fail);clear d0 d1 d2 d3;go_wp2;obtain⟨L,hL⟩:=gX (n-(m+1));obtain⟨kk,ap⟩:=gX ((m+1)*2);rw[hL,ap];have av:Ta (n-(m+1)=L/\(m+1)*2=kk):=ka ⟨hL,ap⟩;have aR:L+m+1=n:=oM;clear hL ap;have ai:=Fu ag.o nq;go_loopg [3,5] (n-1) (tS w base (I (J ⟨g,0,N⟩) n c) ps (m+1))
      case atStart=>exact⟨0,m+1,ps,rfl,rfl,by rw[r.o],aA.o,ac.o,ai⟩
      case round =>
       clear ai;obtain⟨k,s,ys,rfl,rfl,rfl,hL,f,aa⟩:=hrel;have aE:=hL.2.2.2.1;rw[r.o]at aE;have aS:=hL.2.2.1;by_cases aQ:k+1<L
       ·obtain⟨⟨qx,qz⟩,ar⟩:∃q,ps[m+1+k+1]?=J q:=⟨ps[m+1+k+1]'(by rw[r.o];omega),by simp⟩;obtain⟨⟨px,pz⟩,aq⟩:∃q,ps[m+1+k]?=J q:=⟨ps[m+1+k]'(by rw[r.o];omega),by simp⟩;have gq:=hL.get oM ar;have gp:=hL.get oM aq;have d0:=f.cell (j:=0) gq rfl;have d1:=f.cell (j:=1) gq rfl;have d2:=f.cell (j:=0) gp rfl;have d3:=f.cell (j:=1) gp rfl;(have a0:(m+1+k+1)*2+0=kk+(k+1)*2:=by have:=av.o.2;omega);have a1:(m+1+k+1)*2+1=kk+(k+1)*2+1:=oM;(have a2:(m+1+k)*2+0=kk+k*2:=by have:=av.o.2;omega);have a3:(m+1+k)*2+1=kk+k*2+1:=oM;rw[a0]at d0;rw[a1]at d1;rw[a2]at d2;rw[a3]at d3;dsimp only at d0 d1 d2 d3;have aT:=f.frozen;have K:=ka f;have ad:=ka aa;have aj:=ka hL;have an:=ka ar;have al:=ka aq;have u1:((k+1:Nat):Int)-1=(k:Int):=oM;have aY:(0:Int)<=(k:Int):=oM;have aZ:(k:Int)<(L:Int):=oM;have a4:((k+1:Nat):Int)<(L:Int):=oM;have aG:s<n:=oM;have aO:(s:Int)<(n:Int):=oM;have aM:(0:Int)<=(s:Int):=oM;obtain⟨⟨rx,rz⟩,hr⟩:∃q,ys[s]?=J q:=⟨ys[s]'(by rw[hL.1,r.o];exact aG),by simp⟩;(have gr:(ys.map pc)[s]?=J (pc (rx,rz)):=by rw[lP,hr];rfl);have d4:=f.cell (j:=0) gr rfl;have d5:=f.cell (j:=1) gr rfl;simp only[Nat.add_zero]at d4;dsimp only at d4 d5;have au:=ka gr;clear f aa hL ar aq gq gp a0 a1 a2 a3 gr hr;by_cases e1:qx=px
        ·(have g1:(qx != px)=false:=by simpa using e1);(have aB:(qx==px)=true:=by simpa using e1);by_cases e2:qz=pz
         ·(have g2:(qz != pz)=false:=by simpa using e2);(have aC:(qz==pz)=true:=by simpa using e2);(have l:Tj ps (m+1) (k+1) s ys:=by subst e1 e2;exact aj.o.same al.o an.o);have u:=ka l;clear e1 e2 l;go_wp2;go_quiet (fail);go_wp2;go_roundg (n-(k+1+1))
          case measure=>have:=r.o;omega
          case rel=>exact⟨k+1,s,ys,by go_num,rfl,by rw[r.o],u.o,K.o,Fu ad.o _⟩
         ·(have g2:(qz != pz)=true:=by simpa using e2);(have aC:(qz==pz)=false:=by simpa using e2);have l:Tj ps (m+1) (k+1) (s+1) (ys.set s (qx,qz)):=aj.o.other al.o an.o (by simp;omega);have u:=ka l;clear e1 e2 l;go_wp2;go_quiet (fail);go_wp2;go_roundg (n-(k+1+1))
          case measure=>have:=r.o;omega
          case rel =>
           refine⟨k+1,s+1,ys.set s (qx,qz),by go_num,by go_num,by rw[r.o],u.o,?_,Tp (Tp (Fu ad.o _) _ _) _ _⟩;rw[<-Eu];exact Ka.pair (K.o.ext ((eR _).drewN _)) au.o _ _
        ·(have g1:(qx != px)=true:=by simpa using e1);(have aB:(qx==px)=false:=by simpa using e1);have l:Tj ps (m+1) (k+1) (s+1) (ys.set s (qx,qz)):=aj.o.other al.o an.o (by simp;omega);have u:=ka l;clear e1 l;go_wp2;go_quiet (fail);go_wp2;go_roundg (n-(k+1+1))
         case measure=>have:=r.o;omega
         case rel =>
          refine⟨k+1,s+1,ys.set s (qx,qz),by go_num,by go_num,by rw[r.o],u.o,?_,Tp (Tp (Fu ad.o _) _ _) _ _⟩;rw[<-Eu];exact Ka.pair (K.o.ext ((eR _).drewN _)) au.o _ _
       ·have aX:m+1+k+1=n:=oM;(have aH:(ys.take s)=Ma ps:=by rw[hL.2.2.2.2.1,lT (by rw[r.o];omega)]);have aw:s<n:=oM;obtain⟨wc,aP,ay,aJ⟩:=kP (P:=Tryz.prog) (t:=121) (z:=H #[O V 0,O V 0]) (w:=wr) (o:=s*2) (c2:=c-s) (fun w=>Tryz.zeroValue43 w) rfl (by simp[Value.cells];rfl) Tryz.underlying121 f aw rfl;have c1:(0:Int)<=(s:Int):=oM;have c2:(s:Int)<=(n:Int):=oM;have c3:(n:Int)<=(c:Int):=oM;have c4:(s:Int)<(c:Int):=oM;have c5:s<c:=oM;go_wp2;rw[<-HR.o];refine⟨_,rfl,?_,aa.trans aJ,rfl⟩;rw[<-List.map_take,aH]at ay;exact ay
     ·(have f2:(z==z')=false:=by simpa using e2);(have af:((x',z'):Int×Int)≠(x,z):=by simp;omega);have ak:=ka af;clear e1 e2 af;go_wp2;go_quiet (fail);go_wp2;go_roundg (n-(m+1+1))
      case measure=>have:=r.o;omega
      case rel =>
       refine⟨m+1,by have:=r.o;omega,by go_num,by rw[r.o],fun j a b hj ha hb=>?_,ac.o,Fu ag.o _⟩;by_cases ao:j=m
       ·subst ao;rw[am.o]at ha;rw[Hq.o]at hb;cases ha;cases hb;exact ak.o
       ·exact ab.o j a b oM ha hb
    ·(have f1:(x==x')=false:=by simpa using e1);(have af:((x',z'):Int×Int)≠(x,z):=by simp;omega);have ak:=ka af;clear e1 af;go_wp2;go_quiet (fail);go_wp2;go_roundg (n-(m+1+1))
     case measure=>have:=r.o;omega
     case rel =>
      refine⟨m+1,by have:=r.o;omega,by go_num,by rw[r.o],fun j a b hj ha hb=>?_,ac.o,Fu ag.o _⟩;by_cases ao:j=m
      ·subst ao;rw[am.o]at ha;rw[Hq.o]at hb;cases ha;cases hb;exact ak.o
      ·exact ab.o j a b oM ha hb
   ·have e:Ma ps=ps:=tq ps (fun j a b ha hb=>ab.o j a b (by have:=(lS.1 hb).1;rw[r.o]at this;omega) ha hb);have E:=ka e;have p3:¬((m+1:Nat):Int)<(n:Int):=oM;clear e ae f aa;go_wp2;rw[<-HR.o,E.o];exact⟨_,rfl,ac.o,ag.o,rfl⟩
def Ga(p:Pl):LP:=(Cc p.way p.shape).map fun q=>(q.1+p.ax,q.2+p.az)
def Ln{ps:LP}(h:ps≠[]):(Nc ps).length=ps.length:=by have:=(Mt h).2;unfold Nc;simp;omega
def oy{way}{ps:LP}(h:ps≠[]):(Cc way ps).length=ps.length:=by
 unfold Cc;split
 ·rw[Ln (by simpa using h)];simp
 ·rw[Ln (by simpa using h)];simp
def Dx{k ps}(h:tg k ps)(c:ps≠[]):tg (k+k) (Nc ps):=fun p d=>by
 obtain⟨q,e,rfl⟩:=List.mem_map.1 d;have a:=h.rot (Cg ps) q e;have b:=vD h c;exact⟨a.1.sub b.1,a.2.sub b.2⟩
def TD{k way ps}(h:tg k ps)(a:ps≠[]):tg (k+k) (Cc way ps):=by
 unfold Cc;split
 ·exact Dx h.way.rev (by simpa using a)
 ·exact Dx h.way (by simpa using a)
def Nm{p}(h:Ca p=true):Dd (Ge p.name) p.shape p.depth p.density p.gx p.gz=true/\0<=p.way/\p.way<=7/\Bd 100000 p.ax/\Bd 100000 p.az/\1<=p.skin/\p.skin<=3:=by unfold Ca Kd Ra at h;simp at h;unfold Bd;refine⟨h.1,?_⟩;omega
def Xn{p}(h:Ca p=true):tg 104000 (Ga p)/\3<=(Ga p).length/\(Ga p).length<=12:=by
 obtain⟨g,_,_,i,j,_⟩:=Nm h;obtain⟨b,Yh,c,_⟩:=tr g;have a:p.shape≠[]:=by intro e;rw[e]at b;simp at b
 refine⟨fun q d=>?_,?_,?_⟩
 ·obtain⟨r,f,rfl⟩:=List.mem_map.1 d;have:=TD (way:=p.way) c a r f;unfold Bd at *;dsimp only;omega
 ·unfold Ga;rw[lL,oy a];exact b
 ·unfold Ga;rw[lL,oy a];exact Yh
def QP w p v(h:Fa w v p.shape)(aq:Ca p=true)(hg:Gw w):Calls Tryz.prog 84 #[H (nc p v)] w (ol 43 2 w ((Ga p).map pc)):=by
 obtain⟨a,c,rfl⟩:=h.form;obtain⟨hB,av,aw,an,ao,_,_⟩:=Nm aq;obtain⟨h3,Yh,af,_⟩:=tr hB;obtain⟨nm,ps,d,de,gx,gz,wy,r,s,sk⟩:=p;dsimp only at h hB av aw an ao h3 Yh af;have aa:ps≠[]:=by intro e;rw[e]at h3;simp at h3
 have x:=fun W (hW:Aa w W)=>CN W nm _ ps d de gx gz wy (h.f hW) hB av aw (hg.ext hW);obtain⟨P,ai⟩:=gX (Cc wy ps);have ad:=oy (way:=wy) aa;have ah:=TD (way:=wy) af aa;have hR:(Ga ⟨nm,ps,d,de,gx,gz,wy,r,s,sk⟩)=P.map fun q=>(q.1+r,q.2+s):=by unfold Ga;rw[<-ai]
 rw[hR];rw[ai]at x ad ah;obtain⟨g2,ap⟩:=gX (Wc wy (gx,gz));rw[ap]at x;obtain⟨n,hn⟩:=gX ps.length;rw[hn]at h x ad h3 Yh ⊢;obtain⟨RL,ae⟩:=gX ((P.map (fun q=>(q.1+r,q.2+s))).map pc);rw[ae];have aB:=ka ae;clear ae;have aC:=ka x;have aD:=ka ah;have l:=ka ad;obtain⟨aK,aL⟩:=an;obtain⟨aM,aO⟩:=ao;clear x ah ad ai ap hn hB af aa hR aq;unfold nc;dsimp only;go_in;go_wp2_with(first|((go_at_call 153;refine cM (aC.o _ eA) ?_;rintro e w1 ⟨v1,rfl,ab,ak⟩;obtain⟨a1,n1,c1,rfl⟩:=ab.i;obtain rfl:n=n1:=(by have h9:=ab.len;rw[lL,l.o]at h9;exact h9.symm);obtain⟨⟨aF,aG⟩,aA⟩:=oe w ak))|((at_make;refine uQ (T:=43) (t:=38) (z:=H #[O V 0,O V 0]) (k:=2) (bytes:=16) (zs:=[O V 0,O V 0]) Ro rfl rfl dM Tryz.underlying38 rfl _ _ rfl _ rfl rfl rfl oM ?_;intro cs m;simp only[wZ]at m))|((refine FQ (T:=43) (t:=38) (k:=2) (g:=w1.heap.size+1) (n:=n) (cap:=n) (sl:=I a1 n c1) (os:=List.replicate n [O V 0,O V 0]) kM Tryz.underlying38 rfl _ _ rfl rfl rfl m (P.map pc) Nq (ab.rd.ext ?_) ?_ ?_ pD ?_;exact eA;(simp[l.o]);(simp[l.o];omega);intro w3 o y)));obtain⟨R,ag⟩:=gX (w1.heap.size+1);rw[ag]at o y ⊢;have ay:Aa w w1:=eA;have aH:=ay.size;have P0:=ak.e (Bc _ _ _ rfl);have P1:=((eR w1).alloc (G #[.string nm,I a1 n c1,O V d,O V de,O V g2.1,O V g2.2] 45)).e P0;have P2:=((eR _).alloc (G cs 43)).e P1;have zw:w.heap.size<w1.heap.size:=Jb P0;have P3:=Ti y P2 (fun e=>by cases e;omega);have X3:Aa w w3:=((ay.alloc _).alloc _).y (Bh y (by simp;omega) (fun k hk=>by cases hk;exact nE _)) (by omega:w.heap.size<=R);have ar:=y.size;simp only[wZ]at ar;have K:=o.mono (b':=R) (by simp[ag]);have au:R<=w3.heap.size:=oM;have aU:w.heap.size<R:=oM;have am:=ka P3;clear aF aG aA ab ak m o y P0 P1 P2 P3 ag ar aH zw;go_loopg [25] n (fun g aJ W=>RF w R (fun q=>(q.1+r,q.2+s)) P (I (J ⟨R,0,N⟩) n n) g aJ W/\W.heap[w.heap.size]?=J (G #[.string nm,I a n c,O V d,O V de,O V gx,O V gz,O V wy,O V r,O V s,O .u8 sk] 47 (0,0)))
 case atStart=>exact⟨⟨0,by omega,rfl,by rw[l.o];rfl,X3,au,by simpa using K⟩,am.o⟩
 case round =>
  clear X3 au K am;obtain⟨⟨i,hi,rfl,rfl,hx,aI,b⟩,hP⟩:=hrel;rw[l.o]at hi;by_cases aT:i<n
  ·obtain⟨⟨qx,qz⟩,hq⟩:∃q,P[i]?=J q:=⟨P[i]'(by rw[l.o];omega),by simp⟩;have ac:=Wz (f:=fun q=>(q.1+r,q.2+s)) hq;have d0:=b.cell (j:=0) ac rfl;have d1:=b.cell (j:=1) ac rfl;simp only[Nat.add_zero]at d0;dsimp only at d0 d1;have f0:=b.frozen;obtain⟨⟨b1,b2⟩,b3,b4⟩:=aD.o (qx,qz) (lM hq);have aP:(-4000:Int)<=qx:=by simpa using b1
   have aQ:qx<=4000:=by simpa using b2
   have aR:(-4000:Int)<=qz:=by simpa using b3
   have aS:qz<=4000:=by simpa using b4
   have p7:=Ba hP (i:=7) (u:=O V r) rfl;have p8:=Ba hP (i:=8) (u:=O V s) rfl;have aj:=fun(W:F)(h:Ka 43 2 W R (I (J ⟨R,0,N⟩) n n) (((P.take i).map (fun q=>(q.1+r,q.2+s))++P.drop i).map pc))=>h.pair ac (O V (qx+r)) (O V (qz+s));rw[Vz (f:=fun q=>(q.1+r,q.2+s)) hq rfl _ rfl]at aj;have aE:=ka aj;have al:=ka b;have HP:=ka hP;have zg:=(b.lt R rfl).2;have aa:¬R=w.heap.size:=oM;have p1:(0:Int)<=(i:Int):=oM;have p2:(i:Int)<(n:Int):=oM;clear aj ac hq b hP b1 b2 b3 b4;go_wp2
   go_region_with fail
   all_goals go_wp2
   all_goals go_region_with fail
   all_goals go_wp2
   all_goals
    go_roundg (n-(i+1))
    case measure=>have:=l.o;omega
    case rel =>
     refine⟨⟨i+1,by have:=l.o;omega,by go_num,by rw[l.o],eA,by simp only[yg,jc];exact aI,?_⟩,?_⟩
     ·exact aE.o _ al.o
     ·show ((wr.setCell _ _).setCell _ _).heap[_]?=_;rw[bS _ _ _ _ dO,bS _ _ _ _ dO];exact HP.o
  ·obtain rfl:i=n:=oM;have e:((P.take i).map (fun q=>(q.1+r,q.2+s))++P.drop i)=P.map (fun q=>(q.1+r,q.2+s)):=by
    rw[lT (by rw[l.o];exact nE _),List.drop_of_length_le (by rw[l.o];exact nE _),List.append_nil]
   rw[e,aB.o]at b;go_wp2;go_ret;exact⟨_,rfl,b.mono oM,hx⟩
def ze(cs:LP)(i:Nat):LP:=if (cs.getD i (0,0)).1<(cs.getD ((i+1)%cs.length) (0,0)).1 then [cs.getD i (0,0),cs.getD ((i+1)%cs.length) (0,0)]else []
def Df(cs:LP)(i:Nat):LP:=if (cs.getD ((i+1)%cs.length) (0,0)).1<(cs.getD i (0,0)).1 then [cs.getD i (0,0),cs.getD ((i+1)%cs.length) (0,0)]else []
def Pc(cs:LP)(i:Nat):LP:=(List.range i).flatMap (ze cs)
def je(cs:LP)(i:Nat):LP:=(List.range i).flatMap (Df cs)
def Xu cs i:Pc cs (i+1)=Pc cs i++ze cs i:=by simp[Pc,List.range_succ]
def iq cs i:je cs (i+1)=je cs i++Df cs i:=by simp[je,List.range_succ]
def SC{cs i}(h:i<cs.length):∀q∈ze cs i++Df cs i,q∈cs:=by
 have b:cs.getD i (0,0)∈cs:=by rw[gD,gE h];exact List.getElem_mem h
 have c:cs.getD ((i+1)%cs.length) (0,0)∈cs:=by
  have:(i+1)%cs.length<cs.length:=Nat.mod_lt _ oM;rw[gD,gE this];exact List.getElem_mem this
 intro q a;unfold ze Df at a;rcases List.mem_append.1 a with a|a
 ·split at a
  ·simp at a;rcases a with rfl|rfl
   ·simpa using b
   ·simpa using c
  ·simp at a
 ·split at a
  ·simp at a;rcases a with rfl|rfl
   ·simpa using b
   ·simpa using c
  ·simp at a
def WD{k cs}(h:tg k cs){i}(c:i<=cs.length):tg k (Pc cs i)/\tg k (je cs i):=by
 refine⟨fun q a=>?_,fun q a=>?_⟩
 ·obtain⟨j,b,a⟩:=List.mem_flatMap.1 a;exact h q (SC (by have:=List.mem_range.1 b;omega) q (List.mem_append_left _ a))
 ·obtain⟨j,b,a⟩:=List.mem_flatMap.1 a;exact h q (SC (by have:=List.mem_range.1 b;omega) q (List.mem_append_right _ a))
def Vv cs i:(Pc cs i).length<=2*i/\(je cs i).length<=2*i:=by
 induction i with
 | zero=>exact⟨by simp[Pc],by simp[je]⟩
 | succ i c =>
  rw[Xu,iq,lA,lA];have a:(ze cs i).length<=2:=by unfold ze;split<;>simp
  have b:(Df cs i).length<=2:=by unfold Df;split<;>simp
  omega
def kd(a:LP):LP:=Ma (jf a)
def Da(p:Pl):LP:=kd (Pc (Ga p) (Ga p).length)
def La(p:Pl):LP:=kd (je (Ga p) (Ga p).length)
def De(p:Pl)(v vl vu:C):Array C:=#[.string p.name,v,O V p.depth,O V p.density,O V p.gx,O V p.gz,O V p.way,O V p.ax,O V p.az,O .u8 p.skin,vl,vu]
def ms:Array C:=#[.string ⟨#[]⟩,I N 0 0,O V 0,O V 0,O V 0,O V 0,O V 0,O V 0,O V 0,O .u8 0,I N 0 0,I N 0 0]
def Em(w:F)(p:Pl)(v:C)(e:Ending)(w':F):Prop:=∃vl vu,e=.returned (H (De p v vl vu))/\Fa w' vl (Da p)/\Fa w' vu (La p)/\Aa w w'
def Ei(w:F)(base:Nat)(p:Pl)(v:C)(L U:LP)(vl vu:C)(W:F):Prop:=
 Aa w W/\w.heap.size+1+1<base/\base<=W.heap.size/\W.heap[w.heap.size]?=J (G (nc p v) 47 (0,0))/\W.heap[w.heap.size+1]?=J (G ms 128 (0,0))/\
 W.heap[w.heap.size+1+1]?=J (G (De p v vl vu) 128 (0,0))/\Ka 43 2 W base vl (L.map pc)/\Ka 43 2 W base vu (U.map pc)/\∀j,vl.ownBlock=J j->vu.ownBlock≠J j
section
variable {w W w':F} {base:Nat} {p:Pl} {v vl vu vl' vu':C} {L U L' U':LP}
def Ei.ext(h:Ei w base p v L U vl vu W)(k:Aa W w'):Ei w base p v L U vl vu w':=by obtain⟨a,b,c,d,e,h6,f,g,i⟩:=h;exact⟨a.trans k,b,nT c k.size,k.e d,k.e e,k.e h6,f.ext k,g.ext k,i⟩
def Ei.low(h:Ei w base p v L U vl vu W)(b:W.grownBy w' vl.ownBlock)(r:Ka 43 2 w' base vl (L'.map pc)):Ei w base p v L' U vl vu w':=by
 obtain⟨l,m,c,n,o,h6,d,q,f⟩:=h;have a:∀k,k<base->J k≠vl.ownBlock:=fun k g e=>by have:=(d.lt k e.symm).1;omega
 refine⟨l.y (Bh b c (fun k g=>(d.lt k g).1)) oM,m,nT c b.size,Ti b n (a _ oM),Ti b o (a _ oM),Ti b h6 (a _ oM),r,q.grown b ?_,f⟩;cases e:vu.ownBlock with
 | none=>exact .inl rfl
 | some j=>exact .inr (fun i=>f j i.symm e)
def Ei.up(h:Ei w base p v L U vl vu W)(b:W.grownBy w' vu.ownBlock)(r:Ka 43 2 w' base vu (U'.map pc)):Ei w base p v L U' vl vu w':=by
 obtain⟨l,m,c,n,o,h6,q,d,f⟩:=h;have a:∀k,k<base->J k≠vu.ownBlock:=fun k g e=>by have:=(d.lt k e.symm).1;omega
 refine⟨l.y (Bh b c (fun k g=>(d.lt k g).1)) oM,m,nT c b.size,Ti b n (a _ oM),Ti b o (a _ oM),Ti b h6 (a _ oM),q.grown b ?_,r,f⟩;cases e:vl.ownBlock with
 | none=>exact .inl rfl
 | some j=>exact .inr (fun i=>f j e i.symm)
def CM{W:F}{b}(h:W.heap[b]?=J (G (De p v vl vu) 128 (0,0))) u:(W.setCell ⟨b,10,N⟩ u).heap[b]?=J (G (De p v u vu) 128 (0,0)):=by simp[World.setCell,Array.getElem?_modify,h,De]
def BM{W:F}{b}(h:W.heap[b]?=J (G (De p v vl vu) 128 (0,0))) u:(W.setCell ⟨b,11,N⟩ u).heap[b]?=J (G (De p v vl u) 128 (0,0)):=by simp[World.setCell,Array.getElem?_modify,h,De]
def Ei.setLow(h:Ei w base p v L U vl vu W)(b:W.grownBy w' vl.ownBlock)(f:Ka 43 2 w' base vl' (L'.map pc))(K:vl'.ownBlock=vl.ownBlock\/vl'.ownBlock=J W.heap.size):Ei w base p v L' U vl' vu (w'.setCell ⟨w.heap.size+1+1,10,N⟩ vl'):=by
 obtain⟨s,t,i,x,y,h6,l,m,n⟩:=h;have a:∀k,k<base->J k≠vl.ownBlock:=fun k o e=>by have:=(l.lt k e.symm).1;omega
 have z:=Bh b i (fun k o=>(l.lt k o).1);have d:∀{u:C}{q:List (List C)}{W:F},Ka 43 2 W base u q->u.ownBlock≠J (w.heap.size+1+1):=fun f e=>by have:=(f.lt _ e).1;omega
 have c:Ka 43 2 w' base vu (U.map pc):=m.grown b (by
  cases e:vu.ownBlock with
  | none=>exact .inl rfl
  | some j=>exact .inr (fun r=>n j r.symm e))
 refine⟨(s.y z oM).set dO _,t,by rw[yg];exact nT i b.size,?_,?_,CM (Ti b h6 (a _ oM)) _,f.setOther (d f) _,c.setOther (d c) _,?_⟩
 ·rw[bS _ _ _ _ dO];exact Ti b x (a _ oM)
 ·rw[bS _ _ _ _ dO];exact Ti b y (a _ oM)
 ·intro j g e;rcases K with h|h
  ·exact n j (h▸g) e
  ·rw[h]at g;cases g;have:=(m.lt _ e).2;omega
def Ei.setUp(h:Ei w base p v L U vl vu W)(b:W.grownBy w' vu.ownBlock)(f:Ka 43 2 w' base vu' (U'.map pc))(K:vu'.ownBlock=vu.ownBlock\/vu'.ownBlock=J W.heap.size):Ei w base p v L U' vl vu' (w'.setCell ⟨w.heap.size+1+1,11,N⟩ vu'):=by
 obtain⟨s,t,g,x,y,h6,i,l,m⟩:=h;have a:∀k,k<base->J k≠vu.ownBlock:=fun k o e=>by have:=(l.lt k e.symm).1;omega
 have z:=Bh b g (fun k o=>(l.lt k o).1);have d:∀{u:C}{q:List (List C)}{W:F},Ka 43 2 W base u q->u.ownBlock≠J (w.heap.size+1+1):=fun f e=>by have:=(f.lt _ e).1;omega
 have c:Ka 43 2 w' base vl (L.map pc):=i.grown b (by
  cases e:vl.ownBlock with
  | none=>exact .inl rfl
  | some j=>exact .inr (fun r=>m j e r.symm))
 refine⟨(s.y z oM).set dO _,t,by rw[yg];exact nT g b.size,?_,?_,BM (Ti b h6 (a _ oM)) _,c.setOther (d c) _,f.setOther (d f) _,?_⟩
 ·rw[bS _ _ _ _ dO];exact Ti b x (a _ oM)
 ·rw[bS _ _ _ _ dO];exact Ti b y (a _ oM)
 ·intro j n e;rcases K with h|h
  ·exact m j n (h▸e)
  ·rw[h]at e;cases e;have:=(i.lt _ n).2;omega
def qG{W:F}{b}(h:W.heap[b]?=J (G (De p v vl vu) 128 (0,0))):W.cell? ⟨b,0,N⟩=J (.string p.name)/\W.cell? ⟨b,1,N⟩=J v/\W.cell? ⟨b,2,N⟩=J (O V p.depth)/\W.cell? ⟨b,3,N⟩=J (O V p.density)/\W.cell? ⟨b,4,N⟩=J (O V p.gx)/\W.cell? ⟨b,5,N⟩=J (O V p.gz)/\W.cell? ⟨b,6,N⟩=J (O V p.way)/\W.cell? ⟨b,7,N⟩=J (O V p.ax)/\W.cell? ⟨b,8,N⟩=J (O V p.az)/\W.cell? ⟨b,9,N⟩=J (O .u8 p.skin)/\W.cell? ⟨b,10,N⟩=J vl/\W.cell? ⟨b,11,N⟩=J vu/\(∀i,W.frozen? ⟨b,i,N⟩=false)/\b<W.heap.size:=
 ⟨Ba h (i:=0) rfl,Ba h (i:=1) rfl,Ba h (i:=2) rfl,Ba h (i:=3) rfl,Ba h (i:=4) rfl,Ba h (i:=5) rfl,Ba h (i:=6) rfl,Ba h (i:=7) rfl,Ba h (i:=8) rfl,Ba h (i:=9) rfl,Ba h (i:=10) rfl,Ba h (i:=11) rfl,Ya h,Jb h⟩
def rG{W:F}{b}(h:W.heap[b]?=J (G ms 128 (0,0))):W.cell? ⟨b,0,N⟩=J (.string ⟨#[]⟩)/\W.cell? ⟨b,1,N⟩=J (I N 0 0)/\W.cell? ⟨b,2,N⟩=J (O V 0)/\W.cell? ⟨b,3,N⟩=J (O V 0)/\W.cell? ⟨b,4,N⟩=J (O V 0)/\W.cell? ⟨b,5,N⟩=J (O V 0)/\W.cell? ⟨b,6,N⟩=J (O V 0)/\W.cell? ⟨b,7,N⟩=J (O V 0)/\W.cell? ⟨b,8,N⟩=J (O V 0)/\W.cell? ⟨b,9,N⟩=J (O .u8 0)/\W.cell? ⟨b,10,N⟩=J (I N 0 0)/\W.cell? ⟨b,11,N⟩=J (I N 0 0)/\(∀i,W.frozen? ⟨b,i,N⟩=false)/\b<W.heap.size:=
 ⟨Ba h (i:=0) rfl,Ba h (i:=1) rfl,Ba h (i:=2) rfl,Ba h (i:=3) rfl,Ba h (i:=4) rfl,Ba h (i:=5) rfl,Ba h (i:=6) rfl,Ba h (i:=7) rfl,Ba h (i:=8) rfl,Ba h (i:=9) rfl,Ba h (i:=10) rfl,Ba h (i:=11) rfl,Ya h,Jb h⟩
def Il(w:F)(base:Nat)(p:Pl)(v:C)(L U:LP)(vl vu a b:C)(W:F):Prop:=
 Aa w W/\w.heap.size+1+1<base/\base<=W.heap.size/\W.heap[w.heap.size+1]?=J (G ms 128 (0,0))/\
 W.heap[w.heap.size+1+1]?=J (G (De p v a b) 128 (0,0))/\Ka 43 2 W base vl (L.map pc)/\Ka 43 2 W base vu (U.map pc)/\∀j,vl.ownBlock=J j->vu.ownBlock≠J j
def Ei.toX(h:Ei w base p v L U vl vu W):Il w base p v L U vl vu vl vu W:=by obtain⟨a,b,c,i,d,h6,e,f,g⟩:=h;exact⟨a,b,c,d,h6,e,f,g⟩
def Il.ext{a b}(h:Il w base p v L U vl vu a b W)(k:Aa W w'):Il w base p v L U vl vu a b w':=by obtain⟨c,d,e,f,h6,g,i,j⟩:=h;exact⟨c.trans k,d,nT e k.size,k.e f,k.e h6,g.ext k,i.ext k,j⟩
def Il.low{c d}(h:Il w base p v L U vl vu c d W)(a:W.grownBy w' vl.ownBlock)(u:Ka 43 2 w' base vl' (L'.map pc))(s:vl'.ownBlock=vl.ownBlock):Il w base p v L' U vl' vu c d w':=by
 obtain⟨n,o,f,q,h6,g,r,i⟩:=h;have b:∀k,k<base->J k≠vl.ownBlock:=fun k l e=>by have:=(g.lt k e.symm).1;omega
 refine⟨n.y (Bh a f (fun k l=>(g.lt k l).1)) oM,o,nT f a.size,Ti a q (b _ oM),Ti a h6 (b _ oM),u,r.grown a ?_,fun j t=>i j (s▸t)⟩;cases e:vu.ownBlock with
 | none=>exact .inl rfl
 | some j=>exact .inr (fun m=>i j m.symm e)
def Il.up{c d}(h:Il w base p v L U vl vu c d W)(a:W.grownBy w' vu.ownBlock)(u:Ka 43 2 w' base vu' (U'.map pc))(s:vu'.ownBlock=vu.ownBlock):Il w base p v L U' vl vu' c d w':=by
 obtain⟨n,o,f,q,h6,r,g,i⟩:=h;have b:∀k,k<base->J k≠vu.ownBlock:=fun k l e=>by have:=(g.lt k e.symm).1;omega
 refine⟨n.y (Bh a f (fun k l=>(g.lt k l).1)) oM,o,nT f a.size,Ti a q (b _ oM),Ti a h6 (b _ oM),r.grown a ?_,u,fun j t=>s▸i j t⟩;cases e:vl.ownBlock with
 | none=>exact .inl rfl
 | some j=>exact .inr (fun m=>i j e m.symm)
end
def ri(p q r:Int×Int):Int:=(q.1-p.1)*(r.2-p.2)-(q.2-p.2)*(r.1-p.1)
def OK p q r:ri p q r=Ie p q r:=by unfold ri Ie;grind
def Qa(l:LP)(i:Nat):Int×Int:=l.getD i (0,0)
def Ai(l:LP)(i k:Nat):Bool:=(k==i) || ((k==(i+1)%l.length) || decide (0<ri (Qa l i) (Qa l ((i+1)%l.length)) (Qa l k)))
def pj(l:LP)(i:Nat):Bool:=(List.range l.length).all (Ai l i)
def Mf(l:LP):Bool:=Ra l.length 3 12&&(List.range l.length).all (pj l)
def Li{a n}(h:a<2*n):a%n=if a<n then a else a-n:=by
 split
 ·exact Nat.mod_eq_of_lt (by assumption)
 ·rw[Nat.mod_eq_sub_mod oM];exact Nat.mod_eq_of_lt oM
def iu l(i:Nat):Ff l (i:Int)=Qa l (i%l.length):=by
 unfold Ff Qa;have e:((i:Int)+(l.length:Int))%(l.length:Int)=((i%l.length:Nat):Int):=by
  rw[Int.add_emod_right];rfl
 rw[e];rfl
def zJ l(i:Nat)(h:0<l.length):Ff l ((i:Int)-1)=Qa l ((i+l.length-1)%l.length):=by
 unfold Ff Qa;have e:((i:Int)-1+(l.length:Int))%(l.length:Int)=(((i+l.length-1)%l.length:Nat):Int):=by
  rw[show (i:Int)-1+(l.length:Int)=((i+l.length-1:Nat):Int) by omega];rfl
 rw[e];rfl
def QB u v c:Ie u v c=Ie c u v:=by unfold Ie;grind
def qJ l:Mf l=Za l:=by
 unfold Mf Za;cases hw:Ra l.length 3 12 with
 | false=>rfl
 |true=>
  rw[Bool.true_and,Bool.true_and,Bool.eq_iff_iff,List.all_eq_true,List.all_eq_true];obtain⟨n,g⟩:=gX l.length;have R:3<=n:=by
   unfold Ra at hw;simp at hw;omega
  have key:∀i k,Ai l i k=true ↔ (k=i\/k=(i+1)%n\/0<Ie (Qa l i) (Qa l ((i+1)%n)) (Qa l k)):=fun i k=>by
   unfold Ai;rw[g,OK];simp
  have x:∀i,rj l i=true ↔ 0<Ie (Qa l ((i+n-1)%n)) (Qa l (i%n)) (Qa l ((i+1)%n)):=fun i=>by
   unfold rj;rw[zJ l i oM,iu,show (i:Int)+1=((i+1:Nat):Int) by omega,iu,g,decide_eq_true_eq]
  have y:∀i k,qj l i k=true ↔ 0<Ie (Qa l (i%n)) (Qa l ((i+1)%n)) (Qa l ((i+k)%n)):=fun i k=>by
   unfold qj;rw[iu,show (i:Int)+1=((i+1:Nat):Int) by omega,iu,show (i:Int)+(k:Int)=((i+k:Nat):Int) by omega,iu,g,decide_eq_true_eq]
  constructor
  ·intro h i m;have f:i<n:=by rw[<-g];exact List.mem_range.1 m
   have j:=h i m;unfold pj at j;rw[List.all_eq_true]at j;have t:∀k,k<n->k≠i->k≠(i+1)%n->0<Ie (Qa l i) (Qa l ((i+1)%n)) (Qa l k):=fun k o a b=>by
    have:=(key i k).1 (j k (List.mem_range.2 (by rw[g];exact o)));rcases this with c|c|c
    ·exact absurd c a
    ·exact absurd c b
    ·exact c
   unfold nh;rw[Bool.and_eq_true];constructor
   ·rw[x,Nat.mod_eq_of_lt f,<-QB];refine t _ (Nat.mod_lt _ oM) ?_ ?_<;>rw[Li oM]
    ·split<;>omega
    ·rw[Li (show i+1<2*n by omega)];split<;>split<;>omega
   ·rw[List.all_eq_true];intro k o;rw[List.mem_range]at o;by_cases q:k<2
    ·simp[q]
    ·have:decide (k<2)=false:=decide_eq_false q;rw[this,Bool.false_or,y,Nat.mod_eq_of_lt f];refine t _ (Nat.mod_lt _ oM) ?_ ?_<;>rw[Li (show i+k<2*n by omega)]
     ·split<;>omega
     ·rw[Li (show i+1<2*n by omega)];split<;>split<;>omega
  ·intro h i m;have f:i<n:=by rw[<-g];exact List.mem_range.1 m
   have j:=h i m;unfold nh at j;rw[Bool.and_eq_true,x,List.all_eq_true]at j;obtain⟨s,z⟩:=j;unfold pj;rw[List.all_eq_true];intro k o;have P:k<n:=by rw[<-g];exact List.mem_range.1 o
   rw[key];by_cases a:k=i
   ·exact .inl a
   ·by_cases b:k=(i+1)%n
    ·exact .inr (.inl b)
    ·refine .inr (.inr ?_);rw[Li (show i+1<2*n by omega)]at b;by_cases c:k=(i+n-1)%n
     ·rw[Nat.mod_eq_of_lt f,<-QB,<-c]at s;exact s
     ·rw[Li (show i+n-1<2*n by omega)]at c;obtain⟨d,u⟩:∃d,d=if i<=k then k-i else k+n-i:=⟨_,rfl⟩;have r:2<=d/\d<n-1:=by
       split at u<;>split at b<;>split at c<;>omega
      have e:(i+d)%n=k:=by
       rw[Li oM];split at u<;>split<;>omega
      have:=z d (List.mem_range.2 (by rw[g];exact r.2));have K:decide (d<2)=false:=decide_eq_false oM;rw[K,Bool.false_or,y,Nat.mod_eq_of_lt f,e]at this;exact this
def sH{l:LP}(h:l≠[]):l.foldl (fun o q=>(min o.1 q.1,min o.2 q.2)) (Qa l 0)=Va l:=by
 cases l with
 | nil=>exact absurd rfl h
 | cons p a =>
  show List.foldl _ (min p.1 p.1,min p.2 p.2) a=Va (p::a);rw[Int.min_self,Int.min_self];rfl
def Zc(l:LP):Nat->Nat
 | 0=>0
 | i+1=>if (Qa l i).2<(Qa l (Zc l i)).2\/((Qa l i).2=(Qa l (Zc l i)).2/\(Qa l i).1<(Qa l (Zc l i)).1)then i else Zc l i
def pk(a b:Int×Int):Prop:=a.2<b.2\/(a.2=b.2/\a.1<b.1)
def vC q m:Xk q m<0 ↔ pk q m:=by
 unfold Xk pk Ij Gc;by_cases a:q.2<m.2
 ·simp[a]
 ·by_cases b:m.2<q.2
  ·simp[a,b]
   try omega
  ·have e:q.2=m.2:=oM;simp only[e,Int.lt_irrefl,if_false];by_cases c:q.1<m.1
   ·simp[c,Ij]
   ·by_cases d:m.1<q.1
    ·simp[c,d,Ij]
     try omega
    ·simp[c,d,Ij]
def KP l:∀n,n+1<=l.length->Zc l (n+1)<n+1/\Qa l (Zc l (n+1))=Af (l.take (n+1))/\(∀j,j<n+1->¬pk (Qa l j) (Qa l (Zc l (n+1))))/\∀j,j<Zc l (n+1)->Qa l j≠Qa l (Zc l (n+1)):=by
 intro n;induction n with
 |zero=>
  intro h;have e:Zc l 1=0:=by unfold Zc;split<;>rfl
  rw[e];obtain⟨p,t,rfl⟩:∃p t,l=p::t:=by
   cases l with
   | nil=>simp at h
   | cons p t=>exact⟨p,t,rfl⟩
  refine⟨by omega,rfl,fun j b=>?_,fun j b=>absurd b oM⟩;obtain rfl:j=0:=oM;unfold pk;omega
 | succ n u =>
  intro h;obtain⟨q,k,g,m⟩:=u oM;have s:l[n+1]?=J (Qa l (n+1)):=by
   unfold Qa;rw[gD,gE oM];rfl
  have i:l.take (n+1)≠[]:=by
   intro e;have:=congrArg List.length e;rw[List.length_take,List.length_nil]at this;omega
  have r:Af (l.take (n+2))=Xh (Af (l.take (n+1))) (Qa l (n+1)):=by
   rw[List.take_add_one,s];exact FP _ _ i
  obtain⟨f,o⟩:=gX (Zc l (n+1));rw[o]at q k g m;rw[r,<-k];unfold Xh;have d:Zc l (n+1+1)=if (Qa l (n+1)).2<(Qa l (Zc l (n+1))).2\/((Qa l (n+1)).2=(Qa l (Zc l (n+1))).2/\(Qa l (n+1)).1<(Qa l (Zc l (n+1))).1)then n+1 else Zc l (n+1):=rfl;rw[o]at d;by_cases c:pk (Qa l (n+1)) (Qa l f)
  ·rw[if_pos ((vC _ _).2 c)];rw[if_pos (show (Qa l (n+1)).2<(Qa l f).2\/((Qa l (n+1)).2=(Qa l f).2/\(Qa l (n+1)).1<(Qa l f).1)from c)]at d;rw[d];refine⟨by omega,rfl,fun j b=>?_,fun j b e=>?_⟩
   ·by_cases a:j=n+1
    ·subst a;unfold pk;omega
    ·have:=g j oM;unfold pk at *;omega
   ·have:=g j oM;rw[e]at this;exact this c
  ·rw[if_neg (fun h=>c ((vC _ _).1 h))];rw[if_neg (show ¬((Qa l (n+1)).2<(Qa l f).2\/((Qa l (n+1)).2=(Qa l f).2/\(Qa l (n+1)).1<(Qa l f).1))from c)]at d;rw[d];refine⟨by omega,rfl,fun j b=>?_,m⟩;by_cases a:j=n+1
   ·subst a;exact c
   ·exact g j oM
def qA{l:LP}(h:l≠[]):Zc l l.length=Cg l:=by
 have m:=List.length_pos_iff.2 h;obtain⟨n,k⟩:∃n,l.length=n+1:=⟨l.length-1,by omega⟩;obtain⟨d,b,o,c⟩:=KP l n oM;rw[k];rw[show l.take (n+1)=l from lT oM]at b;obtain⟨f,i⟩:=gX (Zc l (n+1));rw[i]at d b c ⊢;have e:∀j,j<l.length->l[j]?=J (Qa l j):=fun j a=>by
  unfold Qa;rw[gD,gE a];rfl
 have g:∀j (a:j<l.length),l[j]=Qa l j:=fun j a=>by
  have:=e j a;rw[gE a]at this;exact Option.some.inj this
 have:l.findIdx? (fun p=>Af l==p)=J f:=by
  rw[List.findIdx?_eq_some_iff_getElem];refine⟨by omega,by rw[g f oM,b];simp,fun j a=>?_⟩;rw[g j oM,<-b];simpa using fun e=>c j a e.symm
 unfold Cg Le;rw[this];rfl
def CI l{m}(h:m<l.length):(List.range l.length).map (fun i=>Qa l ((m+i)%l.length))=l.drop m++l.take m:=by
 apply List.ext_getElem
 ·rw[lL,List.length_range,lA,List.length_drop,List.length_take];omega
 ·intro i a b;rw[List.getElem_map,List.getElem_range];rw[lL,List.length_range]at a;unfold Qa;rw[Li oM,gD];by_cases c:m+i<l.length
  ·rw[if_pos c,gE c,List.getElem_append_left (by rw[List.length_drop];omega),List.getElem_drop];rfl
  ·rw[if_neg c,gE oM,List.getElem_append_right (by rw[List.length_drop];omega),List.getElem_take];have e:m+i-l.length=i-(l.drop m).length:=by rw[List.length_drop];omega
   simp only[e];rfl
def Wg(l:LP):LP:=(List.range l.length).map fun i=>((Qa l ((Zc l l.length+i)%l.length)).1-(Va l).1,(Qa l ((Zc l l.length+i)%l.length)).2-(Va l).2)
def AI l:Wg l=Nc l:=by
 by_cases h:l=[]
 ·subst h;rfl
 ·unfold Wg Nc;rw[qA h,<-CI l (Mt h).2,List.map_map];rfl
def pf:Nat->Int×Int->Int×Int
 | 0,p=>p
 | n+1,p=>(-(pf n p).2,(pf n p).1)
def Bf(way:Int)(p:Int×Int):Int×Int:=pf (way%4).toNat (if 4<=way then (-p.1,p.2)else p)
def Xz way p:Bf way p=Wc way p:=by
 unfold Bf Wc;obtain⟨q,a⟩:=gX ((if 4<=way then (-p.1,p.2)else p));have e:(if 3<way then (-p.1,p.2)else p)=q:=by
  rw[<-a];by_cases h:4<=way
  ·rw[if_pos h,if_pos oM]
  ·rw[if_neg h,if_neg oM]
 rw[a,e];have h:way%4=0\/way%4=1\/way%4=2\/way%4=3:=oM;rcases h with h|h|h|h<;>rw[h]
 ·rfl
 ·rfl
 ·show (-(pf 1 q).2,(pf 1 q).1)=_;rfl
 ·show (-(pf 2 q).2,(pf 2 q).1)=_;simp[pf]
def Gg(way:Int)(l:LP):LP:=Wg ((List.range l.length).map fun i=>Bf way (Qa l (if 4<=way then l.length-1-i else i)))
def SH l:(List.range l.length).map (Qa l)=l:=by
 apply List.ext_getElem
 ·simp
 ·intro i b a;rw[List.getElem_map,List.getElem_range];unfold Qa;rw[gD,gE a];rfl
def RH l:(List.range l.length).map (fun i=>Qa l (l.length-1-i))=l.reverse:=by
 apply List.ext_getElem
 ·simp
 ·intro i b a;rw[List.length_reverse]at a;rw[List.getElem_map,List.getElem_range,List.getElem_reverse];unfold Qa;rw[gD,gE oM];rfl
def rI way l:Gg way l=Cc way l:=by
 unfold Gg Cc;rw[AI];by_cases h:4<=way
 ·rw[if_pos (show 3<way by omega),<-List.map_reverse,<-RH,List.map_map]
  congr 1
  apply List.map_congr_left;intro i _;rw[if_pos h,Xz];rfl
 ·rw[if_neg (show ¬3<way by omega)]
  conv=>rhs;rw[<-SH l,List.map_map]
  congr 1
  apply List.map_congr_left;intro i _;rw[if_neg h,Xz];rfl
def om(p:Pl):LP:=(Gg p.way p.shape).map fun q=>(q.1+p.ax,q.2+p.az)
def oJ p:om p=Ga p:=by unfold om Ga;rw[rI]
def uh(l:LP):Bool:=(l.all fun p=>Ra p.1 0 2000&&Ra p.2 0 2000)&&(Mf l&&(decide ((Va l).1=0)&&(decide ((Va l).2=0)&&decide (Zc l l.length=0))))
def Iv l:uh l=ue l:=by
 unfold uh ue;rw[qJ];have g:(l.all fun p=>Ra p.1 0 2000&&Ra p.2 0 2000)=!(l.any We):=by
  rw[List.not_any_eq_all_not]
  congr 1
  funext p
  unfold We;cases Ra p.1 0 2000<;>cases Ra p.2 0 2000<;>rfl
 rw[g];cases l.any We with
 | true=>rfl
 |false=>
  cases hc:Za l with
  | false=>rfl
  |true=>
   have a:l≠[]:=by
    intro e;subst e;simp[Za,Ra]at hc
   have i:(Va l==(0,0))=(decide ((Va l).1=0)&&decide ((Va l).2=0)):=by
    rw[Bool.eq_iff_iff];simp[Prod.ext_iff]
   have k:(Af l==l.getD 0 (0,0))=decide (Zc l l.length=0):=by
    rw[qA a,Bool.eq_iff_iff,beq_iff_eq,decide_eq_true_eq];obtain⟨b,q⟩:=Mt a;have m:=List.length_pos_iff.2 a;(have f:l.getD 0 (0,0)=l[0]:=by rw[gD,gE m];rfl);unfold Le at b;cases hf:l.findIdx? (fun p=>Af l==p)with
    |none=>
     rw[hf]at b;simp at b
     try omega
    | some j =>
     rw[hf]at b;(have n:Cg l=j:=by simp at b;omega);rw[n];rw[List.findIdx?_eq_some_iff_getElem]at hf;obtain⟨o,c,d⟩:=hf;constructor
     ·intro h;cases j with
      | zero=>rfl
      | succ j =>
       have:=d 0 oM;rw[<-f,h]at this;simp at this
     ·rintro rfl;rw[f];simpa using c
   rw[i,k];cases decide ((Va l).1=0)<;>cases decide ((Va l).2=0)<;>rfl
def Md(cs:LP)(u v:Int×Int):Prop:=(∃A B,cs=A++u::v::B)\/(∃M,cs=v::M++[u])
structure Tf (cs:LP):Prop where
 nd:cs.Nodup
 three:3<=cs.length
 left:∀u v,Md cs u v->∀c∈cs,c≠u->c≠v->0<Ie u v c
def Md.mem{cs u v}(h:Md cs u v):u∈cs/\v∈cs:=by rcases h with ⟨A,B,rfl⟩|⟨M,rfl⟩<;>simp
def Md.rot{P Q u v}(h:Md (Q++P) u v)(k:2<=(P++Q).length):Md (P++Q) u v:=by
 rcases h with ⟨A,B,h⟩|⟨M,h⟩
 ·rcases List.append_eq_append_iff.1 h with ⟨X,b,a⟩|⟨X,b,a⟩
  ·
   subst b;exact .inl ⟨X,B++Q,by rw[a];simp⟩
  ·
   cases X with
   |nil=>
    simp at b a;subst b;exact .inl ⟨[],B++Q,by rw[<-a];simp⟩
   | cons x X =>
    simp at a;obtain⟨rfl,a⟩:=a;cases X with
    |nil=>
     simp at a;subst b a;exact .inr ⟨B++A,by simp⟩
    | cons y X =>
     simp at a;obtain⟨rfl,rfl⟩:=a;subst b;exact .inl ⟨P++A,X,by simp⟩
 ·
  cases P with
  | nil=>simp at h;exact .inr ⟨M,by simpa using h⟩
  | cons p P =>
   cases Q with
   | nil=>simp at h;exact .inr ⟨M,by simpa using h⟩
   | cons q Q =>
    (have i:q=v:=by simp at h;exact h.1);have d:=congrArg List.getLast? h;rw[List.getLast?_append,List.getLast?_append]at d;have g:(p::P).getLast?=J u:=by
     cases hh:(p::P).getLast? with
     | none=>simp at hh
     | some z=>rw[hh]at d;simpa using d
    obtain⟨c,f⟩:∃c,p::P=c++[u]:=⟨(p::P).dropLast,by
     have e:=List.getLast?_eq_some_iff.1 g;obtain⟨l,j⟩:=e;rw[j];simp⟩
    rw[f];subst i;exact .inl ⟨c,Q,by simp⟩
def Md.rev{cs u v}(h:Md cs.reverse u v):Md cs v u:=by
 rcases h with ⟨A,B,h⟩|⟨M,h⟩
 ·refine .inl ⟨B.reverse,A.reverse,?_⟩;rw[<-List.reverse_reverse cs,h];simp
 ·refine .inr ⟨M.reverse,?_⟩;rw[<-List.reverse_reverse cs,h];simp
def Md.map{cs f u v}(h:Md (cs.map f) u v):∃u' v',u=f u'/\v=f v'/\Md cs u' v':=by
 rcases h with ⟨A,B,h⟩|⟨M,h⟩
 ·obtain⟨i,X,e,n,c⟩:=List.map_eq_append_iff.1 h;obtain⟨u',m,a,g,d⟩:=List.map_eq_cons_iff.1 c;obtain⟨v',B',b,hv,o⟩:=List.map_eq_cons_iff.1 d;exact⟨u',v',g.symm,hv.symm,.inl ⟨i,B',by rw[e,a,b]⟩⟩
 ·rw[List.cons_append]at h;obtain⟨v',X,e,hv,c⟩:=List.map_eq_cons_iff.1 h;obtain⟨j,Y,a,q,k⟩:=List.map_eq_append_iff.1 c;obtain⟨u',Z,b,g,l⟩:=List.map_eq_cons_iff.1 k;have:Z=[]:=List.map_eq_nil_iff.1 l;subst this;exact⟨u',v',g.symm,hv.symm,.inr ⟨j,by rw[e,a,b];simp⟩⟩
def Tf.rot{P Q}(h:Tf (P++Q)):Tf (Q++P):=by
 have e:∀x,x∈Q++P->x∈P++Q:=fun x a=>by
  rcases List.mem_append.1 a with a|a
  ·exact List.mem_append.2 (.inr a)
  ·exact List.mem_append.2 (.inl a)
 have g:=h.three;refine⟨(List.perm_append_comm.nodup_iff).1 h.nd,by rw[lA]at *;omega,fun u v d c b f hv=>h.left u v (d.rot oM) c (e c b) f hv⟩
def Tf.map{cs}(h:Tf cs) f(m:∀u v c,Ie (f u) (f v) (f c)=Ie u v c)(n:∀x y,f x=f y->x=y):Tf (cs.map f):=by
 refine⟨?_,by rw[lL];exact h.three,fun u v l c k o hv=>?_⟩
 ·exact List.Pairwise.map f (fun a b d e=>d (n a b e)) h.nd
 ·obtain⟨q,r,rfl,rfl,i⟩:=l.map;obtain⟨j,g,rfl⟩:=List.mem_map.1 k;rw[m];exact h.left q r i j g (fun e=>o (by rw[e])) (fun e=>hv (by rw[e]))
def Tf.flip{cs}(h:Tf cs) f(m:∀u v c,Ie (f u) (f v) (f c)=Ie v u c)(n:∀x y,f x=f y->x=y):Tf (cs.map f).reverse:=by
 refine⟨?_,by rw[List.length_reverse,lL];exact h.three,fun u v l c k o hv=>?_⟩
 ·exact(List.reverse_perm _).nodup_iff.2 (List.Pairwise.map f (fun a b d e=>d (n a b e)) h.nd)
 ·obtain⟨r,q,rfl,rfl,i⟩:=(Md.rev l).map;obtain⟨j,g,rfl⟩:=List.mem_map.1 (List.mem_reverse.1 k);rw[m];exact h.left r q i j g (fun e=>hv (by rw[e])) (fun e=>o (by rw[e]))
def kD(W:F) x z x' b T:∀ j  u,[pc (x,z),pc (x',b)].flatten[j]?=J u->(W.alloc (G #[O V x,O V z,O V x',O V b] T)).cell? ((⟨W.heap.size,0,N⟩:Addr).add j)=J u:=by
 intro j u a
 match j,a with
 | 0,a=>simp[pc]at a;subst a;simp[Addr.add]
 | 1,a=>simp[pc]at a;subst a;simp[Addr.add]
 | 2,a=>simp[pc]at a;subst a;simp[Addr.add]
 | 3,a=>simp[pc]at a;subst a;simp[Addr.add]
 | j+4,a=>simp[pc]at a
def rB x z x' a:∀u∈[pc (x,z),pc (x',a)].flatten,u.oneCell'=true:=pD (ps:=[(x,z),(x',a)])
def vR(w:F)(base:Nat)(p:Pl)(v:C)(cs:LP)(b:C)(g:Nat)(a:C)(W:F):Prop:=
 ∃(i:Nat)(vl vu:C),i<=cs.length/\a=O V i/\g=cs.length-i/\Ei w base p v (Pc cs i) (je cs i) vl vu W/\Ka 43 2 W (w.heap.size+1+1+1) b (cs.map pc)
def oO{W w' base s a v cs L}(h:Ka 43 2 W (s+1) a cs)(c:∀j,a.ownBlock=J j->j<base)(f:Ka 43 2 W base v L)(d:W.grownBy w' v.ownBlock) k u:Ka 43 2 (w'.setCell ⟨s,k,N⟩ u) (s+1) a cs:=by
 refine Ka.setOther (h.grown d ?_) (fun e=>?_) _
 ·cases e:a.ownBlock with
  | none=>exact .inl rfl
  | some j=>exact .inr (fun b=>by have:=(f.lt _ b.symm).1;have:=c _ e;omega)
 ·have:=(h.lt _ e).1;dsimp only at this;omega
def qD w p v(h:Fa w v p.shape)(aI:Ca p=true)(hg:Gw w)(hL:Pc (Ga p) (Ga p).length≠[])(hU:je (Ga p) (Ga p).length≠[]):Calls Tryz.prog 50 #[H (nc p v)] w (Em w p v):=by
 obtain⟨a,c,rfl⟩:=h.form;obtain⟨aG,aU,av⟩:=Xn aI;have aq:=fun W (hW:Aa w W)=>QP W p _ (h.f hW) aI (hg.ext hW);obtain⟨cs,aH⟩:=gX (Ga p);obtain⟨pn,a9⟩:=gX p.shape.length;rw[a9]at aq h ⊢;obtain⟨R,hR⟩:=gX (Em w p (I a pn c));rw[hR];have HR:=ka hR;rw[aH]at aq aG aU av hL hU;obtain⟨n,hn⟩:=gX cs.length;rw[hn]at aU av hL hU;have bl:=ka aq;have aO:=ka aG;have Hn:=ka hn;have aP:=ka aH;have HL:=ka hL;have HU:=ka hU;clear aq aG hn aH hR aI a9 h hL hU;obtain⟨P,hP⟩:=gX p;obtain⟨nm,ps,d,de,gx,gz,wy,ax,az,sk⟩:=p;unfold nc at *;dsimp only at *;have HP:=ka hP;clear hP;go_in;go_wp2_with(((go_at_call 84;refine cM (bl.o _ eA) ?_;rintro e w1 ⟨v1,rfl,aj,al⟩;obtain⟨a1,n1,c1,rfl⟩:=aj.i;obtain rfl:n=n1:=(by have h9:=aj.len;rw[lL,Hn.o]at h9;exact h9.symm);obtain⟨⟨bu,bx⟩,be,bg,aC⟩:=Ub w al)));obtain⟨base,ab⟩:=gX w1.heap.size;have bc:Aa w w1:=eA;have bt:w.heap.size+1+1<base:=by rw[<-ab];exact aC
 have aw:∀j,(Value.slice a1 n c1).ownBlock=J j->j<base:=fun j hj=>by rw[<-ab];exact(aj.lt j hj).2
 have K0:=al.e (k:=w.heap.size) (by rw[Dg,if_neg (by simp;omega),Dg,if_neg sM];exact Bc _ _ _ rfl);have K1:=al.e (k:=w.heap.size+1) (by rw[Dg,if_neg sM];exact Bc _ _ _ sM);have K2:=al.e (k:=w.heap.size+1+1) (Bc _ _ _ sM);have aS:Ei w base ⟨nm,ps,d,de,gx,gz,wy,ax,az,sk⟩ (I a pn c) [] [] (I N 0 0) (I N 0 0) w1:=
  ⟨bc,bt,by omega,K0,K1,K2,Ka.nil _ _ _ _,Ka.nil _ _ _ _,fun j hj=>by cases hj⟩
 have aB:Ka 43 2 w1 (w.heap.size+1+1+1) (I a1 n c1) (cs.map pc):=aj.mono sM;have aL:=ka aS;have aQ:=ka aB;have ar:=ka aw;clear K0 K1 K2 aS aB aw aj al bu bx be bg aC ab bc;go_loopg [18] n (vR w base ⟨nm,ps,d,de,gx,gz,wy,ax,az,sk⟩ (I a pn c) cs (I a1 n c1))
 case atStart=>exact⟨0,_,_,by omega,rfl,by rw[Hn.o];rfl,aL.o,aQ.o⟩
 case round =>
  clear aL aQ;obtain⟨i,vl,vu,hi,rfl,rfl,hO,ay⟩:=hrel;rw[Hn.o]at hi;have bs:=hO;obtain⟨h1,_,h3,h4,h5,h6,h7,h8,h9⟩:=bs;obtain⟨la,ln,lc,rfl⟩:=h7.i;obtain⟨ua,un,uc,rfl⟩:=h8.i;have bH:=Ba h6 (i:=10) (u:=I la ln lc) rfl;have bI:=Ba h6 (i:=11) (u:=I ua un uc) rfl;have z6:=Jb h6;have bT:w.heap.size+1+1<wr.heap.size+1:=oM;have bU:w.heap.size+1+1<wr.heap.size+1+1:=oM;have HO:=ka hO;have y:=ka ay;have aK:=Vv cs i;clear h1 h3 h4 h5 h6 h7 h8 h9 hO ay;by_cases bP:i<n
  ·obtain⟨⟨x,z⟩,hq⟩:∃q,cs[i]?=J q:=⟨cs[i]'(by rw[Hn.o];omega),by simp⟩;obtain⟨k,hk⟩:=gX ((i+1)%n);have bO:k<n:=by rw[<-hk];exact Nat.mod_lt _ oM
   obtain⟨⟨K,z'⟩,aJ⟩:∃q,cs[k]?=J q:=⟨cs[k]'(by rw[Hn.o];omega),by simp⟩;have hm:((i:Int)+1)%(n:Int)=(k:Int):=by rw[<-hk];simp
   obtain⟨b,o,rfl,hb,d0,d1⟩:=(y.o.pts).at' hq;obtain⟨b',o',e',bN,d2,d3⟩:=(y.o.pts).at' aJ;cases e';have hE:ze cs i=(if x<K then [(x,z),(K,z')]else [])/\Df cs i=(if K<x then [(x,z),(K,z')]else []):=by
    unfold ze Df;rw[Hn.o,hk,gD,gD,hq,aJ];exact⟨rfl,rfl⟩
   have HE:=ka hE;have p1:(0:Int)<=(i:Int):=oM;have p2:(i:Int)<(n:Int):=oM;have p3:(0:Int)<=(k:Int):=oM;have p4:(k:Int)<(n:Int):=oM;have p5:(0:Int)<(n:Int):=oM;have aA:((Pc cs i).map pc).length+2<=100000000000/\((je cs i).map pc).length+2<=100000000000:=by rw[lL,lL];omega
   have au:=ka aA;clear hq aJ hE hk aA aK;by_cases t1:x<K
   ·have g:=HE.o.1;have l:=HE.o.2;rw[if_pos t1]at g;rw[if_neg oM]at l;have ae:=ka g;have af:=ka l;clear g l;have X5:Aa wr (((wr.alloc (G #[O V x,O V z] 43)).alloc (G #[O V K,O V z'] 43)).alloc (G #[O V x,O V z,O V K,O V z'] 43)):=(((eR wr).alloc _).alloc _).alloc _;have r:=HO.o.ext X5;have ak:=r.2.2.2.2.2.2;have ah:=r.2.2.1;have aD:=ka r.2.2.2.2.2.1;have aE:=ka r;have aa:=ka ak.1;clear r ak;go_wp2_with(at_builtin;refine Ah (T:=43) (t:=121) (z:=H #[O V 0,O V 0]) (k:=2) (bytes:=16) (base:=base) (v:=I la ln lc) (cs:=(Pc cs i).map pc) (m:=2) (c:=2) (ad:=⟨wr.heap.size+1+1,0,N⟩) Ro rfl dM dM Tryz.underlying121 rfl _ _ rfl rfl aa.o rfl [pc (x,z),pc (K,z')] rfl (by simp[pc]) (by simpa using kD ((wr.alloc (G #[O V x,O V z] 43)).alloc (G #[O V K,O V z'] 43)) x z K z' 43) (rB _ _ _ _) au.o.1 ah ?_;intro v' w5 s f ai;obtain⟨a5,n5,c5,rfl⟩:=s.i;have E5:=Ti f aD.o (fun e=>by have:=(aa.o.lt _ e.symm).1;omega);have c9:=Ba E5 (i:=10) (u:=I la ln lc) rfl;have f9:=Ya E5 10);go_roundg (n-(i+1))
    case measure=>have:=Hn.o;omega
    case rel =>
     refine⟨i+1,I a5 n5 c5,I ua un uc,by have:=Hn.o;omega,by go_num,by rw[Hn.o],?_,oO (y.o.ext X5) ar.o aa.o f _ _⟩;rw[Xu,iq,ae.o,af.o,List.append_nil];exact Ei.setLow aE.o f (by rw[List.map_append];exact s) ai
   ·by_cases t2:K<x
    ·have k1:K<=x:=oM;have g:=HE.o.1;have l:=HE.o.2;rw[if_neg t1]at g;rw[if_pos t2]at l;have ae:=ka g;have af:=ka l;clear t1 g l;have X5:Aa wr (((wr.alloc (G #[O V x,O V z] 43)).alloc (G #[O V K,O V z'] 43)).alloc (G #[O V x,O V z,O V K,O V z'] 43)):=(((eR wr).alloc _).alloc _).alloc _;have r:=HO.o.ext X5;have ak:=r.2.2.2.2.2.2;have ah:=r.2.2.1;have aD:=ka r.2.2.2.2.2.1;have aE:=ka r;have aa:=ka ak.2.1;clear r ak;go_wp2_with(at_builtin;refine Ah (T:=43) (t:=121) (z:=H #[O V 0,O V 0]) (k:=2) (bytes:=16) (base:=base) (v:=I ua un uc) (cs:=(je cs i).map pc) (m:=2) (c:=2) (ad:=⟨wr.heap.size+1+1,0,N⟩) Ro rfl dM dM Tryz.underlying121 rfl _ _ rfl rfl aa.o rfl [pc (x,z),pc (K,z')] rfl (by simp[pc]) (by simpa using kD ((wr.alloc (G #[O V x,O V z] 43)).alloc (G #[O V K,O V z'] 43)) x z K z' 43) (rB _ _ _ _) au.o.2 ah ?_;intro v' w5 s f ai;obtain⟨a5,n5,c5,rfl⟩:=s.i;have E5:=Ti f aD.o (fun e=>by have:=(aa.o.lt _ e.symm).1;omega);have c9:=Ba E5 (i:=11) (u:=I ua un uc) rfl;have f9:=Ya E5 11);go_roundg (n-(i+1))
     case measure=>have:=Hn.o;omega
     case rel =>
      refine⟨i+1,I la ln lc,I a5 n5 c5,by have:=Hn.o;omega,by go_num,by rw[Hn.o],?_,oO (y.o.ext X5) ar.o aa.o f _ _⟩;rw[Xu,iq,ae.o,af.o,List.append_nil];exact Ei.setUp aE.o f (by rw[List.map_append];exact s) ai
    ·have k1:K<=x:=oM;have k2:x<=K:=oM;have g:=HE.o.1;have l:=HE.o.2;rw[if_neg t1]at g;rw[if_neg t2]at l;have ae:=ka g;have af:=ka l;clear t1 t2 g l;go_wp2;go_roundg (n-(i+1))
     case measure=>have:=Hn.o;omega
     case rel =>
      refine⟨i+1,I la ln lc,I ua un uc,by have:=Hn.o;omega,by go_num,by rw[Hn.o],?_,y.o.ext eA⟩;rw[Xu,iq,ae.o,af.o,List.append_nil,List.append_nil];exact HO.o.ext eA
  ·obtain rfl:i=n:=oM;have hO:=HO.o;have ac:=WD aO.o (i:=i) (by rw[Hn.o];exact nE _);obtain⟨LR,ao⟩:=gX (Pc cs i);obtain⟨UR,ap⟩:=gX (je cs i);rw[ao,ap]at aK hO ac;have aR:LR≠[]:=by rw[<-ao];exact HL.o
   have aT:UR≠[]:=by rw[<-ap];exact HU.o
   have bi:=ka ao;have bk:=ka ap;clear ao ap HO;obtain⟨lg,rfl,_,_⟩:=Ka.blk hO.2.2.2.2.2.2.1 (by rw[lL];exact List.length_pos_iff.2 aR);obtain⟨ug,rfl,_,_⟩:=Ka.blk hO.2.2.2.2.2.2.2.1 (by rw[lL];exact List.length_pos_iff.2 aT);have ba:=Kn wr base lg ln lc LR hO.2.2.2.2.2.2.1 (fun q hq=>⟨(ac.1 q hq).1.mono dM,(ac.1 q hq).2.mono dM⟩) oM;have bb:=fun(W:F)(ho:Ka 43 2 W base (I (J ⟨ug,0,N⟩) un uc) (UR.map pc))=>Kn W base ug un uc UR ho (fun q hq=>⟨(ac.2 q hq).1.mono dM,(ac.2 q hq).2.mono dM⟩) oM;have aZ:(jf LR).length<=1000000:=by rw[(Vk LR).length_eq];omega
   have a0:(jf UR).length<=1000000:=by rw[(Vk UR).length_eq];omega
   have aX:=fun(W:F)(ho:Ka 43 2 W base (I (J ⟨lg,0,N⟩) ln lc) ((jf LR).map pc))=>nr W base (I (J ⟨lg,0,N⟩) ln lc) (jf LR) ho aZ;have aY:=fun(W:F)(ho:Ka 43 2 W base (I (J ⟨ug,0,N⟩) un uc) ((jf UR).map pc))=>nr W base (I (J ⟨ug,0,N⟩) un uc) (jf UR) ho a0;have HO:=ka hO;have bo:=ka ba;have bp:=ka bb;have bm:=ka aX;have bn:=ka aY;clear hO ba bb aX aY ac aK aZ a0 aR aT y aO;go_wp2_with fail;(with_reducible refine bo.o.mono ?_);rintro e w2 ⟨rfl,a3,aV⟩;have am:=ka (Ei.low HO.o aV a3);have bJ:=Ba am.o.2.2.2.2.2.1 (i:=11) (u:=I (J ⟨ug,0,N⟩) un uc) rfl;have bQ:=Jb am.o.2.2.2.2.2.1;clear a3 aV;go_wp2_with fail;have bD:=am.o.2.2.2.2.2.2.2.1;(with_reducible refine(bp.o w2 bD).mono ?_);rintro e w3 ⟨rfl,a6,aW⟩;have bj:=ka (Ei.up am.o aW a6);clear a6 aW;go_wp2_with fail;have ag:=bj.o.toX;have bK:=Ba ag.2.2.2.2.1 (i:=10) (u:=I (J ⟨lg,0,N⟩) ln lc) rfl;have bL:=Ba ag.2.2.2.2.1 (i:=11) (u:=I (J ⟨ug,0,N⟩) un uc) rfl;have y3:=Jb ag.2.2.2.2.1;have aM:=ka ag;have bh:=ka (aM.o.ext (eR w3).drew).2.2.2.2.2.1;clear ag
   first|(go_region_with (first|((go_at_call 128;(with_reducible refine(bm.o _ bh.o).mono ?_);rintro e w4 ⟨v4,rfl,a7,bz,bv⟩;obtain⟨a4,n4,c4,rfl⟩:=a7.i;have an:=ka (Il.low (aM.o.ext (eR w3).drew) bz a7 bv);have bM:=Ba an.o.2.2.2.2.1 (i:=11) (u:=I (J ⟨ug,0,N⟩) un uc) rfl;have y4:=Jb an.o.2.2.2.2.1;have bE:=an.o.2.2.2.2.2.2.1))|((go_at_call 128;(with_reducible refine(bn.o _ bE).mono ?_);rintro e w5 ⟨v5,rfl,a8,bA,bw⟩;obtain⟨a5,n5,c5,rfl⟩:=a8.i;have aF:=ka (Il.up an.o bA a8 bw);obtain⟨b0,b1,b2,b3,b4,b5,b6,b7,b8,b9,bF,bG,bf,y5⟩:=qG aF.o.2.2.2.2.1;obtain⟨d0,d1,d2,d3,d4,d5,d6,d7,d8,d9,bq,br,df,y6⟩:=rG aF.o.2.2.2.1;dsimp only at b0 b2 b3 b4 b5 b6 b7 b8 b9))))|fail
   all_goals go_wp2
   all_goals
    have bB:¬w.heap.size+1+1=w.heap.size+1:=oM;have bC:¬w.heap.size+1=w.heap.size+1+1:=oM;refine bR (v:=H (De ⟨nm,ps,d,de,gx,gz,wy,ax,az,sk⟩ (I a pn c) (I a4 n4 c4) (I a5 n5 c5))) (by simp[results,Tryz.results50,go_sem,De,d0,d1,d2,d3,d4,d5,d6,d7,d8,d9,bq,br,bB,bC]) rfl ?_;rw[<-HR.o];obtain⟨f1,f2,f3,f5,f6,f7,f8,f9⟩:=aF.o;have a2:∀{u:C}{L:List (List C)},Ka 43 2 w5 base u L->u.ownBlock≠J (w.heap.size+1+1)/\u.ownBlock≠J (w.heap.size+1):=fun ho=>⟨fun e=>by have:=(ho.lt _ e).1;omega,fun e=>by have:=(ho.lt _ e).1;omega⟩;obtain⟨m1,m2⟩:=a2 f7;obtain⟨m3,m4⟩:=a2 f8;refine⟨I a4 n4 c4,I a5 n5 c5,rfl,?_,?_,?_⟩
    ·unfold Da kd;rw[aP.o,Hn.o,bi.o];refine Ka.pts (base:=base) ?_
     repeat(refine Ka.setOther ?_ (by first|exact m1|exact m2) _)
     exact f7
    ·unfold La kd;rw[aP.o,Hn.o,bk.o];refine Ka.pts (base:=base) ?_
     repeat(refine Ka.setOther ?_ (by first|exact m3|exact m4) _)
     exact f8
    ·repeat(refine Aa.set ?_ dO _)
     exact f1
def RD{ps} i:Ff ps (i+ps.length)=Ff ps i:=by unfold Ff;rw[Int.add_emod_right]
def sI u v c:Ie u v c=Ie c u v:=by unfold Ie;grind
def jO{ps}(h:Za ps=true){i}(d:i<ps.length):0<Ie (Ff ps ((i:Int)-1)) (Ff ps i) (Ff ps ((i:Int)+1))/\∀k,2<=k->k<ps.length-1->0<Ie (Ff ps i) (Ff ps ((i:Int)+1)) (Ff ps ((i:Int)+k)):=by
 unfold Za at h;simp only[Bool.and_eq_true,List.all_eq_true,List.mem_range]at h;have a:=h.2 i d;unfold nh at a;simp only[Bool.and_eq_true,List.all_eq_true,List.mem_range,Bool.or_eq_true,decide_eq_true_eq]at a;refine⟨by simpa[rj] using a.1,fun k e b=>?_⟩;rcases a.2 k b with c|c
 ·omega
 ·simpa[qj] using c
def lD{ps}(h:Za ps=true){i j}(d:i<ps.length)(b:j<ps.length)(e:i≠j):ps[j]=Ff ps ((i:Int)+1)\/ps[j]=Ff ps ((i:Int)-1)\/0<Ie (Ff ps i) (Ff ps ((i:Int)+1)) ps[j]:=by
 have a:ps[j]=Ff ps (j:Int):=by
  have:=Zt b;rw[gE b]at this;exact Option.some.inj this
 obtain⟨k,g,l,f⟩:∃k:Nat,1<=k/\k<=ps.length-1/\Ff ps ((i:Int)+k)=Ff ps (j:Int):=by
  by_cases m:i<j
  ·exact⟨j-i,by omega,by omega,by congr 1;omega⟩
  ·refine⟨j+ps.length-i,by omega,by omega,?_⟩;rw[show (i:Int)+((j+ps.length-i:Nat):Int)=(j:Int)+ps.length by omega];exact RD _
 rw[a,<-f];by_cases c:k=1
 ·subst c;exact .inl rfl
 ·by_cases n:k=ps.length-1
  ·right;left
   rw[show (i:Int)+(k:Int)=((i:Int)-1)+ps.length by omega];exact RD _
  ·right;right
   exact(jO h d).2 k oM oM
def QO{ps}(h:Za ps=true):Tf ps:=by
 have l:3<=ps.length:=by
  unfold Za Ra at h;simp only[Bool.and_eq_true,decide_eq_true_eq]at h;omega
 have a:∀i:Nat,(hi:i<ps.length)->ps[i]=Ff ps (i:Int):=fun i hi=>by
  have:=Zt hi;rw[gE hi]at this;exact Option.some.inj this
 refine⟨?_,l,fun u v n c m o hv=>?_⟩
 ·rw[List.nodup_iff_pairwise_ne,List.pairwise_iff_getElem];intro i j hi k f e;have b:=(jO h hi).1;rcases lD h hi k oM with d|d|d
  ·rw[<-d,<-e,a i hi]at b;unfold Ie at b;simp at b
  ·rw[<-d,<-e,a i hi]at b;unfold Ie at b;simp at b
  ·rw[<-e,a i hi]at d;have:Ie (Ff ps (i:Int)) (Ff ps ((i:Int)+1)) (Ff ps (i:Int))=0:=by unfold Ie;grind
   omega
 ·obtain⟨i,hi,rfl,rfl⟩:∃i:Nat,i<ps.length/\u=Ff ps (i:Int)/\v=Ff ps ((i:Int)+1):=by
   rcases n with ⟨A,B,e⟩|⟨M,e⟩
   ·(have g:A.length<ps.length:=by rw[e];simp);(have r:A.length+1<ps.length:=by rw[e];simp);refine⟨A.length,g,?_,?_⟩
    ·rw[<-a _ g];simp[e]
    ·have:=a _ r;rw[show ((A.length+1:Nat):Int)=(A.length:Int)+1 by omega]at this;rw[<-this];simp[e]
   ·have q:0<ps.length:=oM;(have g:M.length+1<ps.length:=by rw[e];simp);(have s:ps.length=M.length+2:=by rw[e];simp);refine⟨M.length+1,g,?_,?_⟩
    ·rw[<-a _ g];simp[e]
    ·rw[show ((M.length+1:Nat):Int)+1=0+ps.length by omega,RD];have:=a 0 q;rw[show ((0:Nat):Int)=0 from rfl]at this;rw[<-this];simp[e]
  obtain⟨j,k,rfl⟩:=List.mem_iff_getElem.1 m;have f:i≠j:=by rintro rfl;exact o (a i hi)
  rcases lD h hi k f with d|d|d
  ·exact absurd d hv
  ·rw[d,sI];exact(jO h hi).1
  ·exact d
def uP{ps}(h:Tf ps):Tf (Nc ps):=by
 unfold Nc;refine Tf.map ?_ _ ?_ ?_
 ·have:=Tf.rot (P:=ps.take (Cg ps)) (Q:=ps.drop (Cg ps)) (by rw[List.take_append_drop];exact h);exact this
 ·intro u v c;unfold Ie;dsimp only;grind
 ·intro x y e;simp only[Prod.mk.injEq]at e;exact Prod.ext oM oM
def FB way u v c:Ie (Wc way u) (Wc way v) (Wc way c)=if 3<way then Ie v u c else Ie u v c:=by unfold Wc Ie;dsimp only;split<;>(split<;>first|grind|(split<;>first|grind|(split<;>grind)))
def GB way x y(h:Wc way x=Wc way y):x=y:=by unfold Wc at h;dsimp only at h;obtain⟨a,b⟩:=x;obtain⟨c,d⟩:=y;split at h<;>(split at h<;>first|(simp only[Prod.mk.injEq]at h ⊢;omega)|(split at h<;>first|(simp only[Prod.mk.injEq]at h ⊢;omega)|(split at h<;>(simp only[Prod.mk.injEq]at h ⊢;omega))))
def BN{way ps}(h:Tf ps):Tf (Cc way ps):=by
 unfold Cc;refine uP ?_;by_cases a:3<way
 ·rw[if_pos a];exact h.flip _ (fun u v c=>by rw[FB,if_pos a]) (GB way)
 ·rw[if_neg a];exact h.map _ (fun u v c=>by rw[FB,if_neg a]) (GB way)
def pq{p}(h:Ca p=true):Tf (Ga p):=by
 have a:Za p.shape=true:=by
  cases hcc:Za p.shape with
  | true=>rfl
  |false=>
   unfold Ca Dd at h;rw[Vu hcc]at h;simp at h
 unfold Ga;refine(BN (QO a)).map _ ?_ ?_
 ·intro u v c;unfold Ie;dsimp only;grind
 ·intro x y e;simp only[Prod.mk.injEq]at e;exact Prod.ext oM oM
end
section
open Go.RowKit Go.Shelf Go.Lib
def Bi(s:ByteArray)(i:Nat):Nat:=(s.get! i).toNat
def OO n a b c d(h:¬a<128):128<=(decodeN n a b c d).1:=by
 unfold decodeN;rw[if_neg h]
 repeat' split
 all_goals(simp only;omega)
def Sz{r:Nat}(h:128<=r):Ve (r:Int)=true:=by unfold Ve;rw[decide_eq_false (show ¬(r:Int)<=122 by omega),decide_eq_false (show ¬(r:Int)<=57 by omega)];simp
def Ev s:∀f pos,s.size<=pos+f->(idxFuncFrom (fun r:Nat=>Ve r) true s f pos = -1 ↔ ∀i,pos<=i->i<s.size->Ve (Bi s i)=false)
 | 0,pos,h=>⟨fun _ i d b=>absurd b (by omega),fun _=>rfl⟩
 | f+1,pos,h=>by
  unfold idxFuncFrom;by_cases c:pos<s.size
  ·rw[if_pos c,decode_at];have k:=Ev s f (pos+1) oM;by_cases g:Bi s pos<128
   ·have e:decodeN (s.size-pos) (s.get! pos).toNat (s.get! (pos+1)).toNat (s.get! (pos+2)).toNat (s.get! (pos+3)).toNat=(Bi s pos,1):=by
     unfold decodeN;exact if_pos g
    rw[e];dsimp only;cases ho:Ve (Bi s pos:Int)with
    |true=>
     rw[if_pos rfl];constructor
     ·intro a;omega
     ·intro a;have:=a pos (nE _) c;rw[ho]at this;cases this
    |false=>
     rw[if_neg sM,k];constructor
     ·intro a i d b;by_cases e:i=pos
      ·subst e;exact ho
      ·exact a i oM b
     ·intro a i d b;exact a i oM b
   ·have j:=OO (s.size-pos) (s.get! pos).toNat (s.get! (pos+1)).toNat (s.get! (pos+2)).toNat (s.get! (pos+3)).toNat g;rw[if_pos (Sz j)];constructor
    ·intro a;omega
    ·intro a;have:=a pos (nE _) c;rw[Sz oM]at this;cases this
  ·rw[if_neg c];exact⟨fun _ i d b=>absurd b oM,fun _=>rfl⟩
def nk(s:ByteArray):Bool:=(List.range s.size).all (fun i=>!Ve (Bi s i))&&Ra s.size 1 16
def mH s:nk s=Ge s:=by
 unfold nk Ge;rw[Bool.and_comm]
 congr 1
 have h:=Ev s s.size 0 oM;have c:=idxFunc_range (fun r:Nat=>Ve r) true s;unfold idxFunc at c ⊢;rw[Bool.eq_iff_iff,List.all_eq_true,Bool.not_eq_true',decide_eq_false_iff_not];constructor
 ·intro b;have:=h.2 (fun i _ a=>by simpa using b i (List.mem_range.2 a));omega
 ·intro b i a;have:=(h.1 oM) i (Nat.zero_le _) (List.mem_range.1 a);simp[this]
end
section
open Go.RowKit Go.Shelf
def Th(cs:LP):Prop:=∃c,∀q∈cs,q.1=c
def Fo(cs:LP):Prop:=∃c,∀q∈cs,q.2=c
def iQ{ps}(h:Za ps=true):¬Th ps/\¬Fo ps:=by
 have f:=AF h;unfold Za at h;rw[Bool.and_eq_true,List.all_eq_true]at h;have d:=h.2 0 (List.mem_range.2 oM);unfold nh rj at d;rw[Bool.and_eq_true,decide_eq_true_eq]at d;have b:=d.1;have mem:∀i:Int,Ff ps i∈ps:=fun i=>by
  obtain⟨j,_,_,e⟩:=TP (ps:=ps) (i:=i) oM;exact lM e
 refine⟨fun⟨c,a⟩=>?_,fun⟨c,a⟩=>?_⟩
 ·unfold Ie at b;rw[a _ (mem _),a _ (mem _),a _ (mem _)]at b;simp at b
 ·unfold Ie at b;rw[a _ (mem _),a _ (mem _),a _ (mem _)]at b;simp at b
def AK{way ps}(h:Th (ps.map (Wc way))):Th ps\/Fo ps:=by
 obtain⟨c,g⟩:=h;have a:∀q∈ps,(Wc way q).1=c:=fun q a=>g _ (List.mem_map.2 ⟨q,a,rfl⟩);unfold Wc at a;dsimp only at a;by_cases f:3<way
 ·simp only[if_pos f]at a;by_cases b:way%4=0
  ·simp only[if_pos b]at a;exact .inl ⟨-c,fun q h=>by have:=a q h;omega⟩
  ·simp only[if_neg b]at a;by_cases d:way%4=1
   ·simp only[if_pos d]at a;exact .inr ⟨-c,fun q h=>by have:=a q h;omega⟩
   ·simp only[if_neg d]at a;by_cases e:way%4=2
    ·simp only[if_pos e]at a;exact .inl ⟨c,fun q h=>by have:=a q h;omega⟩
    ·simp only[if_neg e]at a;exact .inr ⟨c,fun q h=>by have:=a q h;omega⟩
 ·simp only[if_neg f]at a;by_cases b:way%4=0
  ·simp only[if_pos b]at a;exact .inl ⟨c,fun q h=>by have:=a q h;omega⟩
  ·simp only[if_neg b]at a;by_cases d:way%4=1
   ·simp only[if_pos d]at a;exact .inr ⟨-c,fun q h=>by have:=a q h;omega⟩
   ·simp only[if_neg d]at a;by_cases e:way%4=2
    ·simp only[if_pos e]at a;exact .inl ⟨-c,fun q h=>by have:=a q h;omega⟩
    ·simp only[if_neg e]at a;exact .inr ⟨c,fun q h=>by have:=a q h;omega⟩
def QD{ps}(h:Th (Nc ps)):Th ps:=by
 obtain⟨c,b⟩:=h;refine⟨c+(Va ps).1,fun q a=>?_⟩;have d:q∈ps.drop (Cg ps)++ps.take (Cg ps):=by
  rw[<-List.take_append_drop (Cg ps) ps]at a;rcases List.mem_append.1 a with h|h
  ·exact List.mem_append_right _ h
  ·exact List.mem_append_left _ h
 have:=b _ (List.mem_map.2 ⟨q,d,rfl⟩);dsimp only at this;omega
def Vp{p}(h:Ca p=true):¬Th (Ga p):=by
 intro ⟨c,b⟩;have f:=(Nm h).1;have d:Za p.shape=true:=by
  unfold Dd at f;simp only[Bool.and_eq_true]at f;cases hcc:Za p.shape
  ·have:=f.1.1.1.2;rw[Vu hcc]at this;cases this
  ·rfl
 obtain⟨j,k⟩:=iQ d;have g:Th (Cc p.way p.shape):=⟨c-p.ax,fun q e=>by
  have:=b _ (List.mem_map.2 ⟨q,e,rfl⟩);dsimp only at this;omega⟩
 unfold Cc at g;have a:=QD g;have i:Th (p.shape.map (Wc p.way)):=by
  split at a
  ·obtain⟨c,b⟩:=a;exact⟨c,fun q e=>b q (List.mem_reverse.2 e)⟩
  ·exact a
 rcases AK i with h|h
 ·exact j h
 ·exact k h
def xA{xs:List Int}{n}(l:xs.length=n)(h:∀i,i<n->xs.getD ((i+1)%n) 0<=xs.getD i 0):∀x∈xs,x=xs.getD 0 0:=by
 have a:∀i,i<n->xs.getD i 0<=xs.getD 0 0:=by
  intro i;induction i with
  | zero=>intro _;exact Int.le_refl _
  | succ i f =>
   intro b;have g:=f oM;have c:=h i oM;rw[Nat.mod_eq_of_lt b]at c;omega
 have up:∀k i,i+k=n-1->i<n->xs.getD (n-1) 0<=xs.getD i 0:=by
  intro k;induction k with
  | zero=>intro i b l;rw[show i=n-1 by omega];exact Int.le_refl _
  | succ k f =>
   intro i b d;have g:=f (i+1) oM oM;have c:=h i d;rw[Nat.mod_eq_of_lt oM]at c;omega
 intro x m;obtain⟨i,b,rfl⟩:=List.mem_iff_getElem.1 m;have e:xs.getD i 0=xs[i]:=by rw[gD,gE b];rfl
 have g:=a i oM;have c:=up (n-1-i) i oM oM;have j:=h (n-1) oM;rw[show n-1+1=n by omega,Nat.mod_self]at j;omega
def JC(cs:LP) i:(cs.map (·.1)).getD i 0=(cs.getD i (0,0)).1:=by rw[gD,gD,lP];cases cs[i]?<;>rfl
def iB{p}(h:Ca p=true):Pc (Ga p) (Ga p).length≠[]:=by
 intro e;apply Vp h;have d:∀i,i<(Ga p).length->¬((Ga p).getD i (0,0)).1<((Ga p).getD ((i+1)%(Ga p).length) (0,0)).1:=by
  intro i a b;unfold Pc at e;rw[List.flatMap_eq_nil_iff]at e;have:=e i (List.mem_range.2 a);unfold ze at this;rw[if_pos b]at this;cases this
 refine⟨_,fun q c=>xA (xs:=(Ga p).map (·.1)) (n:=(Ga p).length) sM (fun i a=>?_) q.1 (List.mem_map.2 ⟨q,c,rfl⟩)⟩;rw[JC,JC];have:=d i a;omega
def Av{p}(h:Ca p=true):je (Ga p) (Ga p).length≠[]:=by
 intro e;apply Vp h;have f:∀i,i<(Ga p).length->¬((Ga p).getD ((i+1)%(Ga p).length) (0,0)).1<((Ga p).getD i (0,0)).1:=by
  intro i a b;unfold je at e;rw[List.flatMap_eq_nil_iff]at e;have:=e i (List.mem_range.2 a);unfold Df at this;rw[if_pos b]at this;cases this
 refine⟨-(((Ga p).map (fun q=>-q.1)).getD 0 0),fun q d=>?_⟩;have c:∀i,((Ga p).map (fun q=>-q.1)).getD i 0 = -((Ga p).getD i (0,0)).1:=fun i=>by
  rw[gD,gD,lP];cases (Ga p)[i]?<;>rfl
 have:=xA (xs:=(Ga p).map (fun q=>-q.1)) (n:=(Ga p).length) sM (fun i a=>by rw[c,c];have:=f i a;omega) (-q.1) (List.mem_map.2 ⟨q,d,rfl⟩);omega
def Wu w p v(h:Fa w v p.shape)(a:Ca p=true)(b:Gw w):Calls Tryz.prog 50 #[H (nc p v)] w (Em w p v):=
 qD w p v h a b (iB a) (Av a)
def Aq{α}[DecidableEq α]:∀{c}{x:α},x∈Ma c->x∈c
 | [],_,h=>h
 | [a],_,h=>h
 | a::b::r,x,h=>by
  rw[Ma]at h;split at h
  ·exact mC _ (Aq h)
  ·rcases List.mem_cons.1 h with rfl|h
   ·simp
   ·exact mC _ (Aq h)
def Vx{α}[DecidableEq α]:∀{c:List α},c≠[]->Ma c≠[]
 | [],h=>absurd rfl h
 | [a],_=>by simp[Ma]
 | a::b::r,_=>by
  rw[Ma];split
  ·exact Vx (by simp)
  ·simp
def Ix{α}[DecidableEq α]:∀(c:List α),(Ma c).length<=c.length
 | []=>by simp[Ma]
 | [a]=>by simp[Ma]
 | a::b::r=>by
  rw[Ma];have:=Ix (b::r);split
  ·simp at this ⊢;omega
  ·simp at this ⊢;omega
def Ju{k}{a:LP}(h:a≠[])(c:tg k a)(f:a.length<=24):kd a≠[]/\tg k (kd a)/\(kd a).length<=24:=by
 unfold kd;have b:=Vk a;refine⟨Vx (fun e=>h ?_),fun q d=>c q (b.mem_iff.1 (Aq d)),?_⟩
 ·rw[e]at b;exact b.symm.eq_nil
 ·have:=Ix (jf a);rw[b.length_eq]at this;omega
def Wb(l:LP):Prop:=l≠[]/\tg 104000 l/\l.length<=64
def Ye{p}(h:Ca p=true):Wb (Da p)/\Wb (La p):=by
 obtain⟨d,e,Yh⟩:=Xn h;have c:=WD d (nE _);have f:=Vv (Ga p) (Ga p).length;have a:=Ju (iB h) c.1 oM;have b:=Ju (Av h) c.2 oM;exact⟨⟨a.1,a.2.1,nT a.2.2 oM⟩,⟨b.1,b.2.1,nT b.2.2 oM⟩⟩
