import Derived.Test.YtgimcmpeceifnaaGreatDoorComA07
import Derived.Laws.StructEq
set_option maxRecDepth 1000000
set_option maxHeartbeats 16000000
set_option linter.all false
open Go.Value renaming int->O,slice->I,agg->H
open Go.IntKind renaming i64->V
open Option renaming some->J,none->N
open Go renaming World->C,Value->F
open Go.Obj renaming cells->G
namespace Go.Proofs.YtgimcmpeceifnaaGreatDoor.Cop
section
open Go.RowKit Go.Shelf
def kc(way:Int)(ps:LP):LP:=Qc (if 3<way then (ps.map (Sc way)).reverse else ps.map (Sc way))
def Dz{nb ps d g b c}(h:pd nb ps d g b c=true):3<=ps.length/\ps.length<=12/\qg 2000 ps/\Bd 100 b/\Bd 100 c:=by
 unfold pd at h;simp only[Bool.and_eq_true]at h;obtain⟨⟨⟨⟨_,a⟩,_⟩,_⟩,e⟩:=h;have i:Va ps=true:=by
  cases hcc:Va ps
  ·rw[ow hcc]at a;cases a
  ·rfl
 have j:ps.any Bf=false:=by
  cases hff:ps.any Bf
  ·rfl
  ·rw[IF hff]at a;cases a
 have f:=Pz i;unfold Kd Ra at e;simp at e;exact⟨f.1,f.2,DB j,by unfold Bd;omega,by unfold Bd;omega⟩
def WI{k way x z}(a:Bd k x)(b:Bd k z):Bd k (Sc way (x,z)).1/\Bd k (Sc way (x,z)).2:=by
 have c:Bd k (-x):=by unfold Bd at *;omega
 have d:Bd k (-z):=by unfold Bd at *;omega
 have e:Bd k (- -x):=by unfold Bd at *;omega
 unfold Sc;dsimp only;split<;>split<;>(try split)<;>(try split)<;>exact⟨by assumption,by assumption⟩
def qg.way{k way ps}(h:qg k ps):qg k (ps.map (Sc way)):=fun p b=>by
 obtain⟨q,a,rfl⟩:=List.mem_map.1 b;exact WI (h q a).1 (h q a).2
def qg.rev{k ps}(h:qg k ps):qg k ps.reverse:=fun p a=>h p (List.mem_reverse.1 a)
def Nl(W:C)(b:Nat)(f:ByteArray)(v:F)(d a c e:Int):Prop:=W.heap[b]?=J (G #[.string f,v,O V d,O V a,O V c,O V e] 93 (0,0))
def Cw(w:C)(k base:Nat)(f:ByteArray)(v:F)(d b c e way:Int)(ps:LP)(g:Nat)(a:F)(W:C):Prop:=
 ∃(i:Nat)(j:F),i<=ps.length/\a=O V i/\g=ps.length-i/\Ba w W/\base<=W.heap.size/\Nl W k f j d b c e/\Ea 91 2 W base j (((ps.take i).map (Sc way)).map pc)/\
  Nl W w.heap.size f v d b c e/\W.heap[w.heap.size+1]?=J (G #[O V way] 3 (0,0))/\W.heap[w.heap.size+1+1]?=J (G #[.string ⟨#[]⟩,I N 0 0,O V 0,O V 0,O V 0,O V 0] 93 (0,0))/\Gw W
def Nl.set{W b f v d a c e}(h:Nl W b f v d a c e) u:Nl (W.setCell ⟨b,1,N⟩ u) b f u d a c e:=by unfold Nl at *;simp[World.setCell,Array.getElem?_modify,h]
def Cw.step{w wr c a s v v3 v4 d g j l way ps n i}(K:ps.length=n)(z:i<n)(hx:Ba w wr)(aa:w.heap.size+1+1<a)(u:Nl wr a s v3 d g j l)(m:Nl wr w.heap.size s v d g j l)(q:wr.heap[w.heap.size+1]?=J (G #[O V way] 3 (0,0)))(r:wr.heap[w.heap.size+1+1]?=J (G #[.string ⟨#[]⟩,I N 0 0,O V 0,O V 0,O V 0,O V 0] 93 (0,0)))(y:Gw w)(f:Below (a+1) wr c)(b:Ea 91 2 c (a+1) v4 (((ps.take (i+1)).map (Sc way)).map pc)):Cw w a (a+1) s v d g j l way ps (n-(i+1)) (O V ((i:Int)+1)) (c.setCell ⟨a,1,N⟩ v4):=by
 have z8:a<wr.heap.size:=Ya u;have x:Ba w c:=hx.D f oM;have ab:=f.size;have E:∀{k:Nat}{o:Obj},k<a->wr.heap[k]?=J o->(c.setCell ⟨a,1,N⟩ v4).heap[k]?=J o:=fun hk R=>by
  rw[bS _ _ _ _ dO,f.block _ oM];exact R
 have t:Ba w (c.setCell ⟨a,1,N⟩ v4):=x.set dO _;refine⟨i+1,v4,by omega,by go_num,by rw[K],t,by simp only[fg];omega,Nl.set (v:=v3) ((f.block a oM).trans u) _,b.setOther (fun e=>?_) _,E oM m,E oM q,E oM r,y.ext t⟩;have:=(b.lt _ e).1;dsimp only at this;omega
def Ea.pts{w base v b}(h:Ea 91 2 w base v (b.map pc)):Ia w v b:=
 Ea.sl h sM (fun i c x a d=>by
  rw[lP,d]at a;cases a;rfl)
def zu(w:C)(b:ByteArray)(d a:Int)(g:Int×Int)(c:LP)(e:Ending)(w':C):Prop:=
 ∃v',e=.returned (.tuple #[H #[.string b,v',O V d,O V a,O V g.1,O V g.2],O V 0])/\Ea 91 2 w' w.heap.size v' (c.map pc)/\Ba w w'
def XR w nm v ps d K s t way(h:Ia w v ps)(hB:pd (Ee nm) ps d K s t=true)(aY:0<=way)(aZ:way<=7)(hg:Gw w):Calls Tryz.prog 165 #[H #[.string nm,v,O V d,O V K,O V s,O V t],O V way] w (zu w nm d K (Sc way (s,t)) (kc way ps)):=by
 obtain⟨a,c,rfl⟩:=h.form;obtain⟨h3,Wi,ba,bc,be⟩:=Dz hB;have al:=fun W (hW:Ba w W)=>KE W nm _ ps d K s t (h.f hW);rw[hB]at al;simp only[if_true]at al;have bl:Ra way 0 7=true:=by simp[Ra];omega
 obtain⟨n,hn⟩:=gX ps.length;rw[hn]at h al ⊢;have bo:=za al;have aG:=za ba;have a6:=za bc;have a7:=za be;have Hn:=za hn;have bu:=za bl;have Hg:=za hg;obtain⟨R,hR⟩:=gX (zu w nm d K (Sc way (s,t)) (kc way ps));rw[hR];have HR:=za hR;have bI:∀(fn:Fn)(first cap:Array F)(w:C),(Instr.makeFunc fn first cap).run Tryz.prog w = .ok (.func fn first cap) w:=fun _ _ _ _=>rfl;clear al ba bc be bl hg hB hR;rw[hn]at h3 Wi;clear hn;go_in;go_wp2_with(first|((go_at_call 153;refine cM (bo.o _ eA) ?_;rintro e w1 ⟨rfl,a0⟩;obtain⟨⟨bv,bz⟩,aD,aE,aF⟩:=Sb w a0))|((go_at_call 195;(with_reducible refine(mi _ way 0 7).mono ?_);rw[bu.o];rintro e w2 ⟨rfl,ah⟩;obtain⟨bw,bA⟩:=ah.cells;have bm:=ah.lt aD;have bn:=ah.lt aE;have aw:=ah.lt aF)));have aA:Ba w w2:=eA;have aB:Ba (((w.alloc (G #[.string nm,I a n c,O V d,O V K,O V s,O V t] 93)).alloc (G #[O V way] 3)).alloc (G #[.string ⟨#[]⟩,I N 0 0,O V 0,O V 0,O V 0,O V 0] 93)) w2:=a0.trans ah;obtain⟨g,au⟩:=gX w2.heap.size;have a8:=za au;rw[au];rw[au]at aw;have bJ:w.heap.size<=g:=by rw[<-au];exact aA.size
 clear au;go_loopg [27] n (Cw w g (g+1) nm (I a n c) d K s t way ps)
 case atStart =>
  have hy:=(eR w2).alloc (G #[.string nm,I N 0 0,O V d,O V K,O V s,O V t] 93);refine⟨0,I N 0 0,by omega,rfl,by rw[Hn.o];rfl,aA.alloc _,by simp[a8.o],mc _ _ _ a8.o.symm,by simpa using Ea.nil _ _ _ _,hy.e (aB.e ?_),hy.e (aB.e ?_),hy.e (aB.e (mc _ _ _ sM)),(Hg.o.ext aA).ext hy⟩
  ·rw[tg,if_neg (by simp;omega),tg,if_neg sM];exact mc _ _ _ rfl
  ·rw[tg,if_neg sM];exact mc _ _ _ sM
 case round =>
  have bD:w.heap.size+1+1<g:=aw;clear bv bz bw bA a0 ah aA aB aD aE aF bm bn aw;obtain⟨i,vv,hi,rfl,rfl,hx,bk,h8,aq,aV,az,aW,ay⟩:=hrel;rw[Hn.o]at hi;obtain⟨va,vn,vc,rfl⟩:=aq.i;have c8:=Aa h8 1 (I va vn vc);have f8:=Za h8;have cw:=Aa az 0 (O V way);have z8:g<wr.heap.size:=Ya h8;have H8:=za h8;have af:=za aq;have aK:=za aV;have aL:=za az;have aM:=za aW;have bG:=za ay;have bH:wr.heap.size+1<=wr.heap.size+1:=nE _;by_cases bh:i<n
  ·obtain⟨⟨x,z⟩,hq⟩:∃q,ps[i]?=J q:=⟨ps[i]'(by rw[Hn.o];omega),by simp[Hn.o,bh]⟩;obtain⟨b,o,rfl,hb,d0,d1⟩:=(h.f hx).at' hq;have ax:=aG.o (x,z) (lM hq);have bF:=za ax;obtain⟨⟨x2,z2⟩,a2⟩:∃q,Sc way (x,z)=q:=⟨_,rfl⟩;have aX:=fun(W:C)(hW:Ba wr W)=>Oy W x z way (w.heap.size+1) (hW.d cw) aY aZ (ay.ext hW) (ax.1.mono dM) (ax.2.mono dM);rw[a2]at aX;have bt:=za aX;have bj:((ps.take (i+1)).map (Sc way)).map pc=((ps.take i).map (Sc way)).map pc++[pc (x2,z2)]:=by
    rw[ze _ _ _ hq,List.map_append,List.map_append,<-a2];rfl
   have bs:=za bj;have bg:(((ps.take i).map (Sc way)).map pc).length+1<=100000000000:=by simp;omega
   have bp:=za bg;have p1:(0:Int)<=(i:Int):=oM;have p2:(i:Int)<(n:Int):=oM;clear hq ax aX bj bg ay aV az aW h8 a2;go_wp2
   go_region_law (first|(go_simp;go_at_call 202;go_wp2_with(go_at_call 202;(with_reducible refine(bt.o _ ?_).mono ?_);exact eA;rintro e j ⟨rfl,a1⟩;obtain⟨bx,bB⟩:=a1.cells;(try simp only[Ig,Gg,Yb]at bx bB);(have y3:=a1.lt (n:=g) (by simp only[wZ,Yb];omega));(have y4:=a1.lt (n:=wr.heap.size) (by simp only[wZ,Yb];omega))))|(refine kp (v:=I va vn vc) (base:=g+1) mo rfl dM dM Tryz.underlying36 (by rfl) _ _ (by rfl) (by rfl) (cs:=((ps.take i).map (Sc way)).map pc) (af.o.ext ?_) (by rfl) [pc (x2,z2)] rfl (by simp[pc]) (Nx _ _ _ _) (Pp _ _) bp.o ?_ ?_;exact eA;(simp only[wZ,Yb];omega);intro v4 w4 ar aS bE;obtain⟨a4,n4,c4,rfl⟩:=ar.i;(have B4:Below (g+1) wr w4:=by(refine Below.trans (Below.mono (B':=g+1) (show Ba wr _ from ?_) bk) (Yg aS ?_ (fun k hk=>(af.o.lt k hk).1));exact eA;(simp only[wZ,Yb];omega)));(have r:=(B4.block g oM).trans H8.o);(have c9:=Aa r 1 (I va vn vc));(have f9:=Za r 1)))
   all_goals go_wp2
   all_goals
    go_roundg (n-(i+1))
    case measure=>have:=Hn.o;omega
    case rel=>exact Cw.step Hn.o bh hx bD H8.o aK.o aL.o aM.o Hg.o B4 (by rw[bs.o];exact ar)
  ·obtain rfl:i=n:=oM;have e:(ps.take i).map (Sc way)=ps.map (Sc way):=by rw[lT (by rw[Hn.o];exact nE _)]
   have ad:=af.o;rw[e]at ad;have aC:(ps.map (Sc way)).length=i:=by simp[Hn.o]
   have a9:qg 1000000 (ps.map (Sc way)):=fun p hp=>⟨(aG.o.way p hp).1.mono dM,(aG.o.way p hp).2.mono dM⟩;have aa:=za ad;have aj:=za aC;have a3:=za a9;clear e aq ad aC a9 ay aV az aW h8 af;by_cases ag:3<way
   ·(have k3:decide (3<way)=true:=by simpa using ag);have bi:=vJ wr (g+1) (I va vn vc) (ps.map (Sc way)) aa.o (by rw[aj.o];omega);have br:=za bi;obtain⟨ls,l⟩:=gX ((ps.map (Sc way)).reverse);have HL:Ua (kc way ps=Qc ls):=za (by unfold kc;rw[if_pos ag,l]);(have am:ls.length=i:=by rw[<-l,List.length_reverse];exact aj.o);(have an:qg 1000000 ls:=by rw[<-l];exact a3.o.rev);have bq:=za l;have ai:=za am;have aI:=za an;clear bi l am an ag;go_wp2_with(((go_at_call 203;(with_reducible refine br.o.mono ?_);rintro e j ⟨rfl,ac,bb⟩)));have B3:Below (g+1) wr j:=Yg bb bk (fun k hk=>(aa.o.lt k hk).1);rw[bq.o]at ac;have aJ:=za ac;clear ac bb;have r:Nl j g nm (I va vn vc) d K s t:=(B3.block g oM).trans H8.o;have E0:Nl j w.heap.size nm _ d K s t:=(B3.block w.heap.size oM).trans aK.o;have E1:=(B3.block (w.heap.size+1) oM).trans aL.o;have y:=(B3.block (w.heap.size+1+1) oM).trans aM.o;have X3:Ba w j:=hx.D B3 oM;have b0:=Aa r 0 (.string nm);have b1:=Aa r 1 (I va vn vc);have b2:=Aa r 2 (O V d);have b3:=Aa r 3 (O V K);have b4:=Aa r 4 (O V s);have b5:=Aa r 5 (O V t);have bf:=Za r;have a4:=Aa E0 4 (O V s);have a5:=Aa E0 5 (O V t);have e0:=Aa y 0 (.string ⟨#[]⟩);have e1:=Aa y 1 (I N 0 0);have e2:=Aa y 2 (O V 0);have e3:=Aa y 3 (O V 0);have e4:=Aa y 4 (O V 0);have e5:=Aa y 5 (O V 0);have ef:=Za y;have y0:g<j.heap.size:=Ya r;have y1:w.heap.size+1+1<j.heap.size:=oM;have y2:w.heap.size<j.heap.size:=oM;have av:=fun(W:C)(hW:Ba j W)=>AG W (I va vn vc) ls (aJ.o.pts.f hW) (by rw[ai.o];omega) (by rw[ai.o];omega) aI.o;obtain⟨⟨g1,g2⟩,ab⟩:∃q,Sc way (s,t)=q:=⟨_,rfl⟩;have ae:=fun(W:C)(hW:Ba j W)=>Oy W s t way (w.heap.size+1) (hW.d (Lb E1 (i:=0) rfl)) aY aZ ((Hg.o.ext X3).ext hW) (a6.o.mono dM) (a7.o.mono dM);rw[ab]at ae;have aO:=za av;have aP:=za ae;have aH:=za ab;clear av ae ab E0 E1 y r
    first|(go_region_with (first|((go_at_call 204;refine cM (aO.o _ eA) ?_;rintro e w4 ⟨v4,rfl,u,m⟩;obtain⟨q4,n4,c4,rfl⟩:=u.i;obtain⟨ak,aR⟩:=m.cells;(try simp only[Ig,Gg,Yb]at ak aR);have u0:=m.lt (n:=g) y0;have u1:=m.lt (n:=w.heap.size+1+1) y1;have u2:=m.lt (n:=w.heap.size) y2;have X4:Ba j w4:=(eR j).drew.trans m))|((go_at_call 202;refine cM (aP.o _ eA) ?_;rintro e w5 ⟨rfl,f⟩;obtain⟨aQ,bC⟩:=f.cells;have t0:=f.lt u0;have t1:=f.lt u1;have t2:=f.lt u2))))|fail
    all_goals go_wp2
    all_goals
     have ap:(Value.slice q4 n4 c4).ownBlock≠J g:=fun e=>by
      have:=(u.lt _ e).1;simp only[Yb]at this;omega
     have ao:(Value.slice q4 n4 c4).ownBlock≠J (w.heap.size+1+1):=fun e=>by
      have:=(u.lt _ e).1;simp only[Yb]at this;omega
     have X5:Ba w w5:=(X3.trans X4).trans f;have aT:¬g=w.heap.size+1+1:=oM;have aU:¬w.heap.size+1+1=g:=oM;refine bR (v:=.tuple #[H #[.string nm,I q4 n4 c4,O V d,O V K,O V g1,O V g2],O V 0]) (by simp[results,Tryz.results165,go_sem,aQ,ak,u1,y1,e0,e1,e2,e3,e4,e5,aT,aU]) rfl ?_;rw[<-HR.o,aH.o,HL.o];refine⟨_,rfl,Ea.mono (b':=w.heap.size) ?_ X3.size,eA⟩
     repeat(refine Ea.setOther ?_ (by first|exact ap|exact ao) _)
     exact Ea.ext u f
   ·(have k3:decide (3<way)=false:=by simpa using ag);obtain⟨ls,l⟩:=gX (ps.map (Sc way));have HL:Ua (kc way ps=Qc ls):=za (by unfold kc;rw[if_neg ag,l]);(have am:ls.length=i:=by rw[<-l];exact aj.o);(have an:qg 1000000 ls:=by rw[<-l];exact a3.o);have ac:=aa.o;rw[l]at ac;have aJ:=za ac;have ai:=za am;have aI:=za an;clear l am an ag ac;obtain⟨j,rfl⟩:∃j,j=wr:=⟨_,rfl⟩;have B3:Below (g+1) j j:=Below.refl _ _;go_wp2;have r:Nl j g nm (I va vn vc) d K s t:=(B3.block g oM).trans H8.o;have E0:Nl j w.heap.size nm _ d K s t:=(B3.block w.heap.size oM).trans aK.o;have E1:=(B3.block (w.heap.size+1) oM).trans aL.o;have y:=(B3.block (w.heap.size+1+1) oM).trans aM.o;have X3:Ba w j:=hx.D B3 oM;have b0:=Aa r 0 (.string nm);have b1:=Aa r 1 (I va vn vc);have b2:=Aa r 2 (O V d);have b3:=Aa r 3 (O V K);have b4:=Aa r 4 (O V s);have b5:=Aa r 5 (O V t);have bf:=Za r;have a4:=Aa E0 4 (O V s);have a5:=Aa E0 5 (O V t);have e0:=Aa y 0 (.string ⟨#[]⟩);have e1:=Aa y 1 (I N 0 0);have e2:=Aa y 2 (O V 0);have e3:=Aa y 3 (O V 0);have e4:=Aa y 4 (O V 0);have e5:=Aa y 5 (O V 0);have ef:=Za y;have y0:g<j.heap.size:=Ya r;have y1:w.heap.size+1+1<j.heap.size:=oM;have y2:w.heap.size<j.heap.size:=oM;have av:=fun(W:C)(hW:Ba j W)=>AG W (I va vn vc) ls (aJ.o.pts.f hW) (by rw[ai.o];omega) (by rw[ai.o];omega) aI.o;obtain⟨⟨g1,g2⟩,ab⟩:∃q,Sc way (s,t)=q:=⟨_,rfl⟩;have ae:=fun(W:C)(hW:Ba j W)=>Oy W s t way (w.heap.size+1) (hW.d (Lb E1 (i:=0) rfl)) aY aZ ((Hg.o.ext X3).ext hW) (a6.o.mono dM) (a7.o.mono dM);rw[ab]at ae;have aO:=za av;have aP:=za ae;have aH:=za ab;clear av ae ab E0 E1 y r
    first|(go_region_with (first|((go_at_call 204;refine cM (aO.o _ eA) ?_;rintro e w4 ⟨v4,rfl,u,m⟩;obtain⟨q4,n4,c4,rfl⟩:=u.i;obtain⟨ak,aR⟩:=m.cells;(try simp only[Ig,Gg,Yb]at ak aR);have u0:=m.lt (n:=g) y0;have u1:=m.lt (n:=w.heap.size+1+1) y1;have u2:=m.lt (n:=w.heap.size) y2;have X4:Ba j w4:=(eR j).drew.trans m))|((go_at_call 202;refine cM (aP.o _ eA) ?_;rintro e w5 ⟨rfl,f⟩;obtain⟨aQ,bC⟩:=f.cells;have t0:=f.lt u0;have t1:=f.lt u1;have t2:=f.lt u2))))|fail
    all_goals go_wp2
    all_goals
     have ap:(Value.slice q4 n4 c4).ownBlock≠J g:=fun e=>by
      have:=(u.lt _ e).1;simp only[Yb]at this;omega
     have ao:(Value.slice q4 n4 c4).ownBlock≠J (w.heap.size+1+1):=fun e=>by
      have:=(u.lt _ e).1;simp only[Yb]at this;omega
     have X5:Ba w w5:=(X3.trans X4).trans f;have aT:¬g=w.heap.size+1+1:=oM;have aU:¬w.heap.size+1+1=g:=oM;refine bR (v:=.tuple #[H #[.string nm,I q4 n4 c4,O V d,O V K,O V g1,O V g2],O V 0]) (by simp[results,Tryz.results165,go_sem,aQ,ak,u1,y1,e0,e1,e2,e3,e4,e5,aT,aU]) rfl ?_;rw[<-HR.o,aH.o,HL.o];refine⟨_,rfl,Ea.mono (b':=w.heap.size) ?_ X3.size,eA⟩
     repeat(refine Ea.setOther ?_ (by first|exact ap|exact ao) _)
     exact Ea.ext u f
def Bu(base:Nat)(w:C)(v:F)(a:LP)(e:Ending)(w':C):Prop:=∃v',e=.returned v'/\Ea 91 2 w' base v' (a.map pc)/\w.grownBy w' v.ownBlock/\(v'.ownBlock=v.ownBlock)
def OV(w:C)(base:Nat)(v:F)(ps:LP)(g:Nat)(t3:F)(W:C):Prop:=
 ∃m:Nat,m+1<=ps.length/\t3=O V ((m+1:Nat):Int)/\g=ps.length-(m+1)/\(∀(j:Nat)(a b:Int×Int),j+1<m+1->ps[j]?=J a->ps[j+1]?=J b->a≠b)/\Ea 91 2 W base v (ps.map pc)/\w.grownBy W v.ownBlock
def xk(ps:LP)(k a c:Nat)(b:LP):Prop:=
 b.length=ps.length/\1<=c/\c<=k+a/\k+a+1<=ps.length/\b.take c=Na (ps.take (k+a+1))/\∀j,k+a<=j->b[j]?=ps[j]?
def RV(w:C)(base:Nat)(v:F)(ps:LP)(k:Nat)(g:Nat)(t3 t5:F)(W:C):Prop:=
 ∃(a c:Nat)(b:LP),t5=O V ((a+1:Nat):Int)/\t3=O V (c:Int)/\g=ps.length-(a+1)/\xk ps k a c b/\Ea 91 2 W base v (b.map pc)/\w.grownBy W v.ownBlock
def yy{α:Type}{xs:List α}{m a b}(c:xs[m]?=J a)(d:xs[m+1]?=J b):xs.take (m+2)=xs.take m++[a]++[b]:=by rw[ze _ _ _ d,ze _ _ _ c]
def xk.start{ps m a}(h:∀(j:Nat)(a b:Int×Int),j+1<m+1->ps[j]?=J a->ps[j+1]?=J b->a≠b)(e:ps[m]?=J a)(f:ps[m+1]?=J a):xk ps (m+1) 0 (m+1) ps:=by
 have g:=(lS.1 f).1;refine⟨rfl,by omega,by omega,by omega,?_,fun _ _=>rfl⟩;rw[show m+1+0+1=m+2 by omega,yy e f,Mt,if_pos rfl,<-ze _ _ _ e,sw];intro j x y d c;rw[List.getElem?_take]at d c;split at c
 ·rename_i h2;rw[if_pos oM]at d;exact h j x y h2 d c
 ·cases c
def xk.same{ps e k a c p}(h:xk ps k a c e)(b:ps[k+a]?=J p)(d:ps[k+a+1]?=J p):xk ps k (a+1) c e:=by obtain⟨f,g,l,m,i,h6⟩:=h;have o:=(lS.1 d).1;refine⟨f,g,by omega,by omega,?_,fun j n=>h6 j oM⟩;rw[i,show k+(a+1)+1=k+a+2 by omega,yy b d,Mt,if_pos rfl,<-ze _ _ _ b]
def xk.other{ps d k a c p q}(h:xk ps k a c d)(e:ps[k+a]?=J p)(f:ps[k+a+1]?=J q)(b:p≠q):xk ps k (a+1) (c+1) (d.set c q):=by obtain⟨g,l,m,n,i,h6⟩:=h;have r:=(lS.1 f).1;refine⟨by rw[List.length_set];exact g,by omega,by omega,by omega,?_,fun j o=>by rw[List.getElem?_set_ne oM];exact h6 j oM⟩;rw[show k+(a+1)+1=k+a+2 by omega,yy e f,Mt,if_neg b,<-ze _ _ _ e,<-i,ze _ _ _ (show (d.set c q)[c]?=J q by rw[List.getElem?_set_self oM]),List.take_set_of_le (nE _)]
def xk.get{ps b k a c}(h:xk ps k a c b){j}(d:k+a<=j){q}(e:ps[j]?=J q):(b.map pc)[j]?=J (pc q):=by rw[lP,h.2.2.2.2.2 j d,e];rfl
def uG w base v(ps:LP)(h:Ea 91 2 w base v (ps.map pc))(aK:ps.length<=1000000):Calls Tryz.prog 156 #[v] w (Bu base w v (Na ps)):=by
 obtain⟨a,n,c,rfl⟩:=h.i;have hl:=h.len;rw[lL]at hl;obtain⟨R,hR⟩:=gX (Bu base w (I a n c) (Na ps));rw[hR];have HR:=za hR;have r:Ua (ps.length=n):=za hl.symm;clear hR;by_cases h2:n<2
 ·have e:Na ps=ps:=by
   apply sw;intro j x y hx hy;have:=(lS.1 hy).1;omega
  have E:=za e;have aD:(n:Int)<2:=oM;clear hl e h2;go_in;go_wp2;rw[<-HR.o,E.o];exact⟨_,rfl,h,World.grownBy.refl _ _,rfl⟩
 ·obtain⟨g,rfl,aU,aV⟩:=h.blk (by rw[lL];omega);have aD:¬(n:Int)<2:=oM;have aL:n<=c:=by
   rcases h.2.2 with ⟨h9,_⟩|⟨g',cap,cur,hv,_,_,ax,_⟩
   ·cases h9
   ·cases hv;rw[lL]at ax;omega
  have aF:c<=9223372036854775807:=by
   rcases h.2.2 with ⟨h9,_⟩|⟨g',cap,cur,hv,_,_,ax,aI,_⟩
   ·cases h9
   ·cases hv;unfold maxLen at aI;omega
  rw[<-hl]at aK;clear hl;go_in;go_wp2;go_loopg [3] (n-1) (OV w base (I (J ⟨g,0,N⟩) n c) ps)
  case atStart=>exact⟨0,by rw[r.o];omega,rfl,by rw[r.o],fun j a b hj=>by omega,h,World.grownBy.refl _ _⟩
  case round =>
   clear h;obtain⟨m,hm,rfl,rfl,ae,f,aa⟩:=hrel;rw[r.o]at hm;have ab:=za ae;have ac:=za f;have ag:=za aa;by_cases aW:m+1<n
   ·obtain⟨⟨x,z⟩,hq⟩:∃q,ps[m+1]?=J q:=⟨ps[m+1]'(by rw[r.o];omega),by simp⟩;obtain⟨⟨x',z'⟩,ah⟩:∃q,ps[m]?=J q:=⟨ps[m]'(by rw[r.o];omega),by simp⟩;have d0:=f.cell (i:=m+1) (j:=0) (d:=pc (x,z)) (by rw[lP,hq];rfl) rfl;have d1:=f.cell (i:=m+1) (j:=1) (d:=pc (x,z)) (by rw[lP,hq];rfl) rfl;have d2:=f.cell (i:=m) (j:=0) (d:=pc (x',z')) (by rw[lP,ah];rfl) rfl;have d3:=f.cell (i:=m) (j:=1) (d:=pc (x',z')) (by rw[lP,ah];rfl) rfl;simp only[Nat.add_zero]at d0 d2;dsimp only at d0 d1 d2 d3;have u1:((m+1:Nat):Int)-1=(m:Int):=oM;have p1:(0:Int)<=(m:Int):=oM;have p2:(m:Int)<(n:Int):=oM;have p3:((m+1:Nat):Int)<(n:Int):=oM;have Hq:=za hq;have am:=za ah;clear ae f aa hq ah;by_cases e1:x=x'
    ·(have f1:(x==x')=true:=by simpa using e1);by_cases e2:z=z'
     ·(have f2:(z==z')=true:=by simpa using e2);(have az:xk ps (m+1) 0 (m+1) ps:=by subst e1 e2;exact xk.start ab.o am.o Hq.o);have aA:=za az;have p4:((m+1:Nat):Int)<=(n:Int):=oM;have p5:(n:Int)<=(c:Int):=oM;have p6:((m+1:Nat):Int)<(c:Int):=oM;clear e1 e2 az;go_wp2;go_quiet (fail);clear d0 d1 d2 d3;go_wp2;obtain⟨L,hL⟩:=gX (n-(m+1));obtain⟨kk,ap⟩:=gX ((m+1)*2);rw[hL,ap];have av:Ua (n-(m+1)=L/\(m+1)*2=kk):=za ⟨hL,ap⟩;have aR:L+m+1=n:=oM;clear hL ap;have ai:=Fr ag.o nq;go_loopg [3,5] (n-1) (RV w base (I (J ⟨g,0,N⟩) n c) ps (m+1))
      case atStart=>exact⟨0,m+1,ps,rfl,rfl,by rw[r.o],aA.o,ac.o,ai⟩
      case round =>
       clear ai;obtain⟨k,s,ys,rfl,rfl,rfl,hL,f,aa⟩:=hrel;have aE:=hL.2.2.2.1;rw[r.o]at aE;have aS:=hL.2.2.1;by_cases aQ:k+1<L
       ·obtain⟨⟨qx,qz⟩,ar⟩:∃q,ps[m+1+k+1]?=J q:=⟨ps[m+1+k+1]'(by rw[r.o];omega),by simp⟩;obtain⟨⟨px,pz⟩,aq⟩:∃q,ps[m+1+k]?=J q:=⟨ps[m+1+k]'(by rw[r.o];omega),by simp⟩;have gq:=hL.get oM ar;have gp:=hL.get oM aq;have d0:=f.cell (j:=0) gq rfl;have d1:=f.cell (j:=1) gq rfl;have d2:=f.cell (j:=0) gp rfl;have d3:=f.cell (j:=1) gp rfl;(have a0:(m+1+k+1)*2+0=kk+(k+1)*2:=by have:=av.o.2;omega);have a1:(m+1+k+1)*2+1=kk+(k+1)*2+1:=oM;(have a2:(m+1+k)*2+0=kk+k*2:=by have:=av.o.2;omega);have a3:(m+1+k)*2+1=kk+k*2+1:=oM;rw[a0]at d0;rw[a1]at d1;rw[a2]at d2;rw[a3]at d3;dsimp only at d0 d1 d2 d3;have aT:=f.frozen;have K:=za f;have ad:=za aa;have aj:=za hL;have an:=za ar;have al:=za aq;have u1:((k+1:Nat):Int)-1=(k:Int):=oM;have aY:(0:Int)<=(k:Int):=oM;have aZ:(k:Int)<(L:Int):=oM;have a4:((k+1:Nat):Int)<(L:Int):=oM;have aG:s<n:=oM;have aO:(s:Int)<(n:Int):=oM;have aM:(0:Int)<=(s:Int):=oM;obtain⟨⟨rx,rz⟩,hr⟩:∃q,ys[s]?=J q:=⟨ys[s]'(by rw[hL.1,r.o];exact aG),by simp⟩;(have gr:(ys.map pc)[s]?=J (pc (rx,rz)):=by rw[lP,hr];rfl);have d4:=f.cell (j:=0) gr rfl;have d5:=f.cell (j:=1) gr rfl;simp only[Nat.add_zero]at d4;dsimp only at d4 d5;have au:=za gr;clear f aa hL ar aq gq gp a0 a1 a2 a3 gr hr;by_cases e1:qx=px
        ·(have g1:(qx != px)=false:=by simpa using e1);(have aB:(qx==px)=true:=by simpa using e1);by_cases e2:qz=pz
         ·(have g2:(qz != pz)=false:=by simpa using e2);(have aC:(qz==pz)=true:=by simpa using e2);(have l:xk ps (m+1) (k+1) s ys:=by subst e1 e2;exact aj.o.same al.o an.o);have u:=za l;clear e1 e2 l;go_wp2;go_quiet (fail);go_wp2;go_roundg (n-(k+1+1))
          case measure=>have:=r.o;omega
          case rel=>exact⟨k+1,s,ys,by go_num,rfl,by rw[r.o],u.o,K.o,Fr ad.o _⟩
         ·(have g2:(qz != pz)=true:=by simpa using e2);(have aC:(qz==pz)=false:=by simpa using e2);have l:xk ps (m+1) (k+1) (s+1) (ys.set s (qx,qz)):=aj.o.other al.o an.o (by simp;omega);have u:=za l;clear e1 e2 l;go_wp2;go_quiet (fail);go_wp2;go_roundg (n-(k+1+1))
          case measure=>have:=r.o;omega
          case rel =>
           refine⟨k+1,s+1,ys.set s (qx,qz),by go_num,by go_num,by rw[r.o],u.o,?_,Bk (Bk (Fr ad.o _) _ _) _ _⟩;rw[<-Ov];exact Ea.pair (K.o.ext ((eR _).drewN _)) au.o _ _
        ·(have g1:(qx != px)=true:=by simpa using e1);(have aB:(qx==px)=false:=by simpa using e1);have l:xk ps (m+1) (k+1) (s+1) (ys.set s (qx,qz)):=aj.o.other al.o an.o (by simp;omega);have u:=za l;clear e1 l;go_wp2;go_quiet (fail);go_wp2;go_roundg (n-(k+1+1))
         case measure=>have:=r.o;omega
         case rel =>
          refine⟨k+1,s+1,ys.set s (qx,qz),by go_num,by go_num,by rw[r.o],u.o,?_,Bk (Bk (Fr ad.o _) _ _) _ _⟩;rw[<-Ov];exact Ea.pair (K.o.ext ((eR _).drewN _)) au.o _ _
       ·have aX:m+1+k+1=n:=oM;(have aH:(ys.take s)=Na ps:=by rw[hL.2.2.2.2.1,lT (by rw[r.o];omega)]);have aw:s<n:=oM;obtain⟨wc,aP,ay,aJ⟩:=oF (P:=Tryz.prog) (t:=146) (z:=H #[O V 0,O V 0]) (w:=wr) (o:=s*2) (c2:=c-s) (fun w=>Tryz.zeroValue91 w) rfl (by simp[Value.cells];rfl) Tryz.underlying146 f aw rfl;have c1:(0:Int)<=(s:Int):=oM;have c2:(s:Int)<=(n:Int):=oM;have c3:(n:Int)<=(c:Int):=oM;have c4:(s:Int)<(c:Int):=oM;have c5:s<c:=oM;go_wp2;rw[<-HR.o];refine⟨_,rfl,?_,aa.trans aJ,rfl⟩;rw[<-List.map_take,aH]at ay;exact ay
     ·(have f2:(z==z')=false:=by simpa using e2);(have af:((x',z'):Int×Int)≠(x,z):=by simp;omega);have ak:=za af;clear e1 e2 af;go_wp2;go_quiet (fail);go_wp2;go_roundg (n-(m+1+1))
      case measure=>have:=r.o;omega
      case rel =>
       refine⟨m+1,by have:=r.o;omega,by go_num,by rw[r.o],fun j a b hj ha hb=>?_,ac.o,Fr ag.o _⟩;by_cases ao:j=m
       ·subst ao;rw[am.o]at ha;rw[Hq.o]at hb;cases ha;cases hb;exact ak.o
       ·exact ab.o j a b oM ha hb
    ·(have f1:(x==x')=false:=by simpa using e1);(have af:((x',z'):Int×Int)≠(x,z):=by simp;omega);have ak:=za af;clear e1 af;go_wp2;go_quiet (fail);go_wp2;go_roundg (n-(m+1+1))
     case measure=>have:=r.o;omega
     case rel =>
      refine⟨m+1,by have:=r.o;omega,by go_num,by rw[r.o],fun j a b hj ha hb=>?_,ac.o,Fr ag.o _⟩;by_cases ao:j=m
      ·subst ao;rw[am.o]at ha;rw[Hq.o]at hb;cases ha;cases hb;exact ak.o
      ·exact ab.o j a b oM ha hb
   ·have e:Na ps=ps:=sw ps (fun j a b ha hb=>ab.o j a b (by have:=(lS.1 hb).1;rw[r.o]at this;omega) ha hb);have E:=za e;have p3:¬((m+1:Nat):Int)<(n:Int):=oM;clear e ae f aa;go_wp2;rw[<-HR.o,E.o];exact⟨_,rfl,ac.o,ag.o,rfl⟩
def Ca(p:Pl):LP:=(kc p.way p.shape).map fun q=>(q.1+p.ax,q.2+p.az)
def zG{ps:LP}(h:ps≠[]):(Qc ps).length=ps.length:=by have:=(nv h).2;unfold Qc;simp;omega
def Kz{way}{ps:LP}(h:ps≠[]):(kc way ps).length=ps.length:=by
 unfold kc;split
 ·rw[zG (by simpa using h)];simp
 ·rw[zG (by simpa using h)];simp
def iG{k ps}(h:qg k ps)(c:ps≠[]):qg (k+k) (Qc ps):=fun p d=>by
 obtain⟨q,e,rfl⟩:=List.mem_map.1 d;have a:=h.rot (Bg ps) q e;have b:=CE h c;exact⟨a.1.sub b.1,a.2.sub b.2⟩
def iF{k way ps}(h:qg k ps)(a:ps≠[]):qg (k+k) (kc way ps):=by
 unfold kc;split
 ·exact iG h.way.rev (by simpa using a)
 ·exact iG h.way (by simpa using a)
def Tz{p}(h:Fa p=true):pd (Ee p.name) p.shape p.depth p.density p.gx p.gz=true/\0<=p.way/\p.way<=7/\Bd 100000 p.ax/\Bd 100000 p.az/\1<=p.skin/\p.skin<=3:=by unfold Fa Uc Ra at h;simp at h;unfold Bd;refine⟨h.1,?_⟩;omega
def oo{p}(h:Fa p=true):qg 104000 (Ca p)/\3<=(Ca p).length/\(Ca p).length<=12:=by
 obtain⟨g,_,_,i,j,_⟩:=Tz h;obtain⟨b,Wi,c,_⟩:=Dz g;have a:p.shape≠[]:=by intro e;rw[e]at b;simp at b
 refine⟨fun q d=>?_,?_,?_⟩
 ·obtain⟨r,f,rfl⟩:=List.mem_map.1 d;have:=iF (way:=p.way) c a r f;unfold Bd at *;dsimp only;omega
 ·unfold Ca;rw[lL,Kz a];exact b
 ·unfold Ca;rw[lL,Kz a];exact Wi
def IG w p v(h:Ia w v p.shape)(aq:Fa p=true)(hg:Gw w):Calls Tryz.prog 117 #[H (Dd p v)] w (Ol 91 2 w ((Ca p).map pc)):=by
 obtain⟨a,c,rfl⟩:=h.form;obtain⟨hB,av,aw,an,ao,_,_⟩:=Tz aq;obtain⟨h3,Wi,af,_⟩:=Dz hB;obtain⟨nm,ps,d,de,gx,gz,wy,r,s,sk⟩:=p;dsimp only at h hB av aw an ao h3 Wi af;have aa:ps≠[]:=by intro e;rw[e]at h3;simp at h3
 have u:=fun W (hW:Ba w W)=>XR W nm _ ps d de gx gz wy (h.f hW) hB av aw (hg.ext hW);obtain⟨K,ai⟩:=gX (kc wy ps);have ad:=Kz (way:=wy) aa;have ah:=iF (way:=wy) af aa;have hR:(Ca ⟨nm,ps,d,de,gx,gz,wy,r,s,sk⟩)=K.map fun q=>(q.1+r,q.2+s):=by unfold Ca;rw[<-ai]
 rw[hR];rw[ai]at u ad ah;obtain⟨g2,ap⟩:=gX (Sc wy (gx,gz));rw[ap]at u;obtain⟨n,hn⟩:=gX ps.length;rw[hn]at h u ad h3 Wi ⊢;obtain⟨RL,ae⟩:=gX ((K.map (fun q=>(q.1+r,q.2+s))).map pc);rw[ae];have aB:=za ae;clear ae;have aC:=za u;have aD:=za ah;have l:=za ad;obtain⟨aK,aL⟩:=an;obtain⟨aM,aO⟩:=ao;clear u ah ad ai ap hn hB af aa hR aq;unfold Dd;dsimp only;go_in;go_wp2_with(first|((go_at_call 165;refine cM (aC.o _ eA) ?_;rintro e w1 ⟨v1,rfl,ab,ak⟩;obtain⟨a1,n1,c1,rfl⟩:=ab.i;obtain rfl:n=n1:=(by have h9:=ab.len;rw[lL,l.o]at h9;exact h9.symm);obtain⟨⟨aF,aG⟩,aA⟩:=Jd w ak))|((at_make;refine SG (T:=91) (t:=36) (z:=H #[O V 0,O V 0]) (k:=2) (bytes:=16) (zs:=[O V 0,O V 0]) mo rfl rfl dM Tryz.underlying36 rfl _ _ rfl _ rfl rfl rfl oM ?_;intro cs m;simp only[wZ]at m))|((refine YT (T:=91) (t:=36) (k:=2) (g:=w1.heap.size+1) (n:=n) (cap:=n) (sl:=I a1 n c1) (os:=List.replicate n [O V 0,O V 0]) kM Tryz.underlying36 rfl _ _ rfl rfl rfl m (K.map pc) Fs (ab.rd.ext ?_) ?_ ?_ Es ?_;exact eA;(simp[l.o]);(simp[l.o];omega);intro w3 o x)));obtain⟨R,ag⟩:=gX (w1.heap.size+1);rw[ag]at o x ⊢;have ay:Ba w w1:=eA;have aH:=ay.size;have P0:=ak.e (mc _ _ _ rfl);have P1:=((eR w1).alloc (G #[.string nm,I a1 n c1,O V d,O V de,O V g2.1,O V g2.2] 93)).e P0;have P2:=((eR _).alloc (G cs 91)).e P1;have zw:w.heap.size<w1.heap.size:=Ya P0;have P3:=Gh x P2 (fun e=>by cases e;omega);have X3:Ba w w3:=((ay.alloc _).alloc _).D (Yg x (by simp;omega) (fun k hk=>by cases hk;exact nE _)) (by omega:w.heap.size<=R);have ar:=x.size;simp only[wZ]at ar;have y:=o.mono (b':=R) (by simp[ag]);have au:R<=w3.heap.size:=oM;have aU:w.heap.size<R:=oM;have am:=za P3;clear aF aG aA ab ak m o x P0 P1 P2 P3 ag ar aH zw;go_loopg [25] n (fun g aJ W=>jH w R (fun q=>(q.1+r,q.2+s)) K (I (J ⟨R,0,N⟩) n n) g aJ W/\W.heap[w.heap.size]?=J (G #[.string nm,I a n c,O V d,O V de,O V gx,O V gz,O V wy,O V r,O V s,O .u8 sk] 95 (0,0)))
 case atStart=>exact⟨⟨0,by omega,rfl,by rw[l.o];rfl,X3,au,by simpa using y⟩,am.o⟩
 case round =>
  clear X3 au y am;obtain⟨⟨i,hi,rfl,rfl,hx,aI,b⟩,hP⟩:=hrel;rw[l.o]at hi;by_cases aT:i<n
  ·obtain⟨⟨qx,qz⟩,hq⟩:∃q,K[i]?=J q:=⟨K[i]'(by rw[l.o];omega),by simp⟩;have ac:=fC (f:=fun q=>(q.1+r,q.2+s)) hq;have d0:=b.cell (j:=0) ac rfl;have d1:=b.cell (j:=1) ac rfl;simp only[Nat.add_zero]at d0;dsimp only at d0 d1;have f0:=b.frozen;obtain⟨⟨b1,b2⟩,b3,b4⟩:=aD.o (qx,qz) (lM hq);have aP:(-4000:Int)<=qx:=by simpa using b1
   have aQ:qx<=4000:=by simpa using b2
   have aR:(-4000:Int)<=qz:=by simpa using b3
   have aS:qz<=4000:=by simpa using b4
   have p7:=Aa hP 7 (O V r);have p8:=Aa hP 8 (O V s);have aj:=fun(W:C)(h:Ea 91 2 W R (I (J ⟨R,0,N⟩) n n) (((K.take i).map (fun q=>(q.1+r,q.2+s))++K.drop i).map pc))=>h.pair ac (O V (qx+r)) (O V (qz+s));rw[YB (f:=fun q=>(q.1+r,q.2+s)) hq rfl _ rfl]at aj;have aE:=za aj;have al:=za b;have HP:=za hP;have zg:=(b.lt R rfl).2;have aa:¬R=w.heap.size:=oM;have p1:(0:Int)<=(i:Int):=oM;have p2:(i:Int)<(n:Int):=oM;clear aj ac hq b hP b1 b2 b3 b4;go_wp2
   go_region_with fail
   all_goals go_wp2
   all_goals go_region_with fail
   all_goals go_wp2
   all_goals
    go_roundg (n-(i+1))
    case measure=>have:=l.o;omega
    case rel =>
     refine⟨⟨i+1,by have:=l.o;omega,by go_num,by rw[l.o],eA,by simp only[fg,Yb];exact aI,?_⟩,?_⟩
     ·exact aE.o _ al.o
     ·show ((wr.setCell _ _).setCell _ _).heap[_]?=_;rw[bS _ _ _ _ dO,bS _ _ _ _ dO];exact HP.o
  ·obtain rfl:i=n:=oM;have e:((K.take i).map (fun q=>(q.1+r,q.2+s))++K.drop i)=K.map (fun q=>(q.1+r,q.2+s)):=by
    rw[lT (by rw[l.o];exact nE _),List.drop_of_length_le (by rw[l.o];exact nE _),List.append_nil]
   rw[e,aB.o]at b;go_wp2;go_ret;exact⟨_,rfl,b.mono oM,hx⟩
def ye(cs:LP)(i:Nat):LP:=if (cs.getD i (0,0)).1<(cs.getD ((i+1)%cs.length) (0,0)).1 then [cs.getD i (0,0),cs.getD ((i+1)%cs.length) (0,0)]else []
def Jf(cs:LP)(i:Nat):LP:=if (cs.getD ((i+1)%cs.length) (0,0)).1<(cs.getD i (0,0)).1 then [cs.getD i (0,0),cs.getD ((i+1)%cs.length) (0,0)]else []
def Kc(cs:LP)(i:Nat):LP:=(List.range i).flatMap (ye cs)
def Pd(cs:LP)(i:Nat):LP:=(List.range i).flatMap (Jf cs)
def pw cs i:Kc cs (i+1)=Kc cs i++ye cs i:=by simp[Kc,List.range_succ]
def Mv cs i:Pd cs (i+1)=Pd cs i++Jf cs i:=by simp[Pd,List.range_succ]
def qE{cs i}(h:i<cs.length):∀q∈ye cs i++Jf cs i,q∈cs:=by
 have b:cs.getD i (0,0)∈cs:=by rw[gD,gE h];exact List.getElem_mem h
 have c:cs.getD ((i+1)%cs.length) (0,0)∈cs:=by
  have:(i+1)%cs.length<cs.length:=Nat.mod_lt _ oM;rw[gD,gE this];exact List.getElem_mem this
 intro q a;unfold ye Jf at a;rcases List.mem_append.1 a with a|a
 ·split at a
  ·simp at a;rcases a with rfl|rfl
   ·simpa using b
   ·simpa using c
  ·simp at a
 ·split at a
  ·simp at a;rcases a with rfl|rfl
   ·simpa using b
   ·simpa using c
  ·simp at a
def Cs{k cs}(h:qg k cs){i}(hi:i<=cs.length):qg k (Kc cs i)/\qg k (Pd cs i):=by
 refine⟨fun q a=>?_,fun q a=>?_⟩
 ·obtain⟨j,b,a⟩:=List.mem_flatMap.1 a;exact h q (qE (by have:=List.mem_range.1 b;omega) q (List.mem_append_left _ a))
 ·obtain⟨j,b,a⟩:=List.mem_flatMap.1 a;exact h q (qE (by have:=List.mem_range.1 b;omega) q (List.mem_append_right _ a))
def qC cs i:(Kc cs i).length<=2*i/\(Pd cs i).length<=2*i:=by
 induction i with
 | zero=>exact⟨by simp[Kc],by simp[Pd]⟩
 | succ i c =>
  rw[pw,Mv,lA,lA];have a:(ye cs i).length<=2:=by unfold ye;split<;>simp
  have b:(Jf cs i).length<=2:=by unfold Jf;split<;>simp
  omega
def Lc(a:LP):LP:=Na (Df a)
def Ga(p:Pl):LP:=Lc (Kc (Ca p) (Ca p).length)
def Mb(p:Pl):LP:=Lc (Pd (Ca p) (Ca p).length)
def tf(p:Pl)(v vl vu:F):Array F:=#[.string p.name,v,O V p.depth,O V p.density,O V p.gx,O V p.gz,O V p.way,O V p.ax,O V p.az,O .u8 p.skin,vl,vu]
def Tt:Array F:=#[.string ⟨#[]⟩,I N 0 0,O V 0,O V 0,O V 0,O V 0,O V 0,O V 0,O V 0,O .u8 0,I N 0 0,I N 0 0]
def Pq(w:C)(p:Pl)(v:F)(e:Ending)(w':C):Prop:=∃vl vu,e=.returned (H (tf p v vl vu))/\Ia w' vl (Ga p)/\Ia w' vu (Mb p)/\Ba w w'
def Qi(w:C)(base:Nat)(p:Pl)(v:F)(L U:LP)(vl vu:F)(W:C):Prop:=
 Ba w W/\w.heap.size+1+1<base/\base<=W.heap.size/\W.heap[w.heap.size]?=J (G (Dd p v) 95 (0,0))/\W.heap[w.heap.size+1]?=J (G Tt 202 (0,0))/\
 W.heap[w.heap.size+1+1]?=J (G (tf p v vl vu) 202 (0,0))/\Ea 91 2 W base vl (L.map pc)/\Ea 91 2 W base vu (U.map pc)/\∀j,vl.ownBlock=J j->vu.ownBlock≠J j
section
variable {w W w':C} {base:Nat} {p:Pl} {v vl vu vl' vu':F} {L U L' U':LP}
def Qi.ext(h:Qi w base p v L U vl vu W)(k:Ba W w'):Qi w base p v L U vl vu w':=by obtain⟨a,b,c,d,e,h6,f,g,i⟩:=h;exact⟨a.trans k,b,nT c k.size,k.e d,k.e e,k.e h6,f.ext k,g.ext k,i⟩
def Qi.low(h:Qi w base p v L U vl vu W)(b:W.grownBy w' vl.ownBlock)(r:Ea 91 2 w' base vl (L'.map pc)):Qi w base p v L' U vl vu w':=by
 obtain⟨l,m,c,n,o,h6,d,q,f⟩:=h;have a:∀k,k<base->J k≠vl.ownBlock:=fun k g e=>by have:=(d.lt k e.symm).1;omega
 refine⟨l.D (Yg b c (fun k g=>(d.lt k g).1)) oM,m,nT c b.size,Gh b n (a _ oM),Gh b o (a _ oM),Gh b h6 (a _ oM),r,q.grown b ?_,f⟩;cases e:vu.ownBlock with
 | none=>exact .inl rfl
 | some j=>exact .inr (fun i=>f j i.symm e)
def Qi.up(h:Qi w base p v L U vl vu W)(b:W.grownBy w' vu.ownBlock)(r:Ea 91 2 w' base vu (U'.map pc)):Qi w base p v L U' vl vu w':=by
 obtain⟨l,m,c,n,o,h6,q,d,f⟩:=h;have a:∀k,k<base->J k≠vu.ownBlock:=fun k g e=>by have:=(d.lt k e.symm).1;omega
 refine⟨l.D (Yg b c (fun k g=>(d.lt k g).1)) oM,m,nT c b.size,Gh b n (a _ oM),Gh b o (a _ oM),Gh b h6 (a _ oM),q.grown b ?_,r,f⟩;cases e:vl.ownBlock with
 | none=>exact .inl rfl
 | some j=>exact .inr (fun i=>f j e i.symm)
def XO{W:C}{b}(h:W.heap[b]?=J (G (tf p v vl vu) 202 (0,0))) u:(W.setCell ⟨b,10,N⟩ u).heap[b]?=J (G (tf p v u vu) 202 (0,0)):=by simp[World.setCell,Array.getElem?_modify,h,tf]
def WO{W:C}{b}(h:W.heap[b]?=J (G (tf p v vl vu) 202 (0,0))) u:(W.setCell ⟨b,11,N⟩ u).heap[b]?=J (G (tf p v vl u) 202 (0,0)):=by simp[World.setCell,Array.getElem?_modify,h,tf]
def Qi.setLow(h:Qi w base p v L U vl vu W)(b:W.grownBy w' vl.ownBlock)(f:Ea 91 2 w' base vl' (L'.map pc))(K:vl'.ownBlock=vl.ownBlock\/vl'.ownBlock=J W.heap.size):Qi w base p v L' U vl' vu (w'.setCell ⟨w.heap.size+1+1,10,N⟩ vl'):=by
 obtain⟨s,t,i,x,y,h6,l,m,n⟩:=h;have a:∀k,k<base->J k≠vl.ownBlock:=fun k o e=>by have:=(l.lt k e.symm).1;omega
 have z:=Yg b i (fun k o=>(l.lt k o).1);have d:∀{u:F}{q:List (List F)}{W:C},Ea 91 2 W base u q->u.ownBlock≠J (w.heap.size+1+1):=fun f e=>by have:=(f.lt _ e).1;omega
 have c:Ea 91 2 w' base vu (U.map pc):=m.grown b (by
  cases e:vu.ownBlock with
  | none=>exact .inl rfl
  | some j=>exact .inr (fun r=>n j r.symm e))
 refine⟨(s.D z oM).set dO _,t,by rw[fg];exact nT i b.size,?_,?_,XO (Gh b h6 (a _ oM)) _,f.setOther (d f) _,c.setOther (d c) _,?_⟩
 ·rw[bS _ _ _ _ dO];exact Gh b x (a _ oM)
 ·rw[bS _ _ _ _ dO];exact Gh b y (a _ oM)
 ·intro j g e;rcases K with h|h
  ·exact n j (h▸g) e
  ·rw[h]at g;cases g;have:=(m.lt _ e).2;omega
def Qi.setUp(h:Qi w base p v L U vl vu W)(b:W.grownBy w' vu.ownBlock)(f:Ea 91 2 w' base vu' (U'.map pc))(K:vu'.ownBlock=vu.ownBlock\/vu'.ownBlock=J W.heap.size):Qi w base p v L U' vl vu' (w'.setCell ⟨w.heap.size+1+1,11,N⟩ vu'):=by
 obtain⟨s,t,g,x,y,h6,i,l,m⟩:=h;have a:∀k,k<base->J k≠vu.ownBlock:=fun k o e=>by have:=(l.lt k e.symm).1;omega
 have z:=Yg b g (fun k o=>(l.lt k o).1);have d:∀{u:F}{q:List (List F)}{W:C},Ea 91 2 W base u q->u.ownBlock≠J (w.heap.size+1+1):=fun f e=>by have:=(f.lt _ e).1;omega
 have c:Ea 91 2 w' base vl (L.map pc):=i.grown b (by
  cases e:vl.ownBlock with
  | none=>exact .inl rfl
  | some j=>exact .inr (fun r=>m j e r.symm))
 refine⟨(s.D z oM).set dO _,t,by rw[fg];exact nT g b.size,?_,?_,WO (Gh b h6 (a _ oM)) _,c.setOther (d c) _,f.setOther (d f) _,?_⟩
 ·rw[bS _ _ _ _ dO];exact Gh b x (a _ oM)
 ·rw[bS _ _ _ _ dO];exact Gh b y (a _ oM)
 ·intro j n e;rcases K with h|h
  ·exact m j n (h▸e)
  ·rw[h]at e;cases e;have:=(i.lt _ n).2;omega
def RI{W:C}{b}(h:W.heap[b]?=J (G (tf p v vl vu) 202 (0,0))):W.cell? ⟨b,0,N⟩=J (.string p.name)/\W.cell? ⟨b,1,N⟩=J v/\W.cell? ⟨b,2,N⟩=J (O V p.depth)/\W.cell? ⟨b,3,N⟩=J (O V p.density)/\W.cell? ⟨b,4,N⟩=J (O V p.gx)/\W.cell? ⟨b,5,N⟩=J (O V p.gz)/\W.cell? ⟨b,6,N⟩=J (O V p.way)/\W.cell? ⟨b,7,N⟩=J (O V p.ax)/\W.cell? ⟨b,8,N⟩=J (O V p.az)/\W.cell? ⟨b,9,N⟩=J (O .u8 p.skin)/\W.cell? ⟨b,10,N⟩=J vl/\W.cell? ⟨b,11,N⟩=J vu/\(∀i,W.frozen? ⟨b,i,N⟩=false)/\b<W.heap.size:=
 ⟨Lb h (i:=0) rfl,Lb h (i:=1) rfl,Lb h (i:=2) rfl,Lb h (i:=3) rfl,Lb h (i:=4) rfl,Lb h (i:=5) rfl,Lb h (i:=6) rfl,Lb h (i:=7) rfl,Lb h (i:=8) rfl,Lb h (i:=9) rfl,Lb h (i:=10) rfl,Lb h (i:=11) rfl,Za h,Ya h⟩
def SI{W:C}{b}(h:W.heap[b]?=J (G Tt 202 (0,0))):W.cell? ⟨b,0,N⟩=J (.string ⟨#[]⟩)/\W.cell? ⟨b,1,N⟩=J (I N 0 0)/\W.cell? ⟨b,2,N⟩=J (O V 0)/\W.cell? ⟨b,3,N⟩=J (O V 0)/\W.cell? ⟨b,4,N⟩=J (O V 0)/\W.cell? ⟨b,5,N⟩=J (O V 0)/\W.cell? ⟨b,6,N⟩=J (O V 0)/\W.cell? ⟨b,7,N⟩=J (O V 0)/\W.cell? ⟨b,8,N⟩=J (O V 0)/\W.cell? ⟨b,9,N⟩=J (O .u8 0)/\W.cell? ⟨b,10,N⟩=J (I N 0 0)/\W.cell? ⟨b,11,N⟩=J (I N 0 0)/\(∀i,W.frozen? ⟨b,i,N⟩=false)/\b<W.heap.size:=
 ⟨Lb h (i:=0) rfl,Lb h (i:=1) rfl,Lb h (i:=2) rfl,Lb h (i:=3) rfl,Lb h (i:=4) rfl,Lb h (i:=5) rfl,Lb h (i:=6) rfl,Lb h (i:=7) rfl,Lb h (i:=8) rfl,Lb h (i:=9) rfl,Lb h (i:=10) rfl,Lb h (i:=11) rfl,Za h,Ya h⟩
def Cm(w:C)(base:Nat)(p:Pl)(v:F)(L U:LP)(vl vu a b:F)(W:C):Prop:=
 Ba w W/\w.heap.size+1+1<base/\base<=W.heap.size/\W.heap[w.heap.size+1]?=J (G Tt 202 (0,0))/\
 W.heap[w.heap.size+1+1]?=J (G (tf p v a b) 202 (0,0))/\Ea 91 2 W base vl (L.map pc)/\Ea 91 2 W base vu (U.map pc)/\∀j,vl.ownBlock=J j->vu.ownBlock≠J j
def Qi.toX(h:Qi w base p v L U vl vu W):Cm w base p v L U vl vu vl vu W:=by obtain⟨a,b,c,i,d,h6,e,f,g⟩:=h;exact⟨a,b,c,d,h6,e,f,g⟩
def Cm.ext{a b}(h:Cm w base p v L U vl vu a b W)(k:Ba W w'):Cm w base p v L U vl vu a b w':=by obtain⟨c,d,e,f,h6,g,i,j⟩:=h;exact⟨c.trans k,d,nT e k.size,k.e f,k.e h6,g.ext k,i.ext k,j⟩
def Cm.low{c d}(h:Cm w base p v L U vl vu c d W)(a:W.grownBy w' vl.ownBlock)(u:Ea 91 2 w' base vl' (L'.map pc))(s:vl'.ownBlock=vl.ownBlock):Cm w base p v L' U vl' vu c d w':=by
 obtain⟨n,o,f,q,h6,g,r,i⟩:=h;have b:∀k,k<base->J k≠vl.ownBlock:=fun k l e=>by have:=(g.lt k e.symm).1;omega
 refine⟨n.D (Yg a f (fun k l=>(g.lt k l).1)) oM,o,nT f a.size,Gh a q (b _ oM),Gh a h6 (b _ oM),u,r.grown a ?_,fun j t=>i j (s▸t)⟩;cases e:vu.ownBlock with
 | none=>exact .inl rfl
 | some j=>exact .inr (fun m=>i j m.symm e)
def Cm.up{c d}(h:Cm w base p v L U vl vu c d W)(a:W.grownBy w' vu.ownBlock)(u:Ea 91 2 w' base vu' (U'.map pc))(s:vu'.ownBlock=vu.ownBlock):Cm w base p v L U' vl vu' c d w':=by
 obtain⟨n,o,f,q,h6,r,g,i⟩:=h;have b:∀k,k<base->J k≠vu.ownBlock:=fun k l e=>by have:=(g.lt k e.symm).1;omega
 refine⟨n.D (Yg a f (fun k l=>(g.lt k l).1)) oM,o,nT f a.size,Gh a q (b _ oM),Gh a h6 (b _ oM),r.grown a ?_,u,fun j t=>s▸i j t⟩;cases e:vl.ownBlock with
 | none=>exact .inl rfl
 | some j=>exact .inr (fun m=>i j e m.symm)
end
def Md(cs:LP)(u v:Int×Int):Prop:=(∃A B,cs=A++u::v::B)\/(∃M,cs=v::M++[u])
structure Yf (cs:LP):Prop where
 nd:cs.Nodup
 three:3<=cs.length
 left:∀u v,Md cs u v->∀c∈cs,c≠u->c≠v->0<Ie u v c
def Md.mem{cs u v}(h:Md cs u v):u∈cs/\v∈cs:=by rcases h with ⟨A,B,rfl⟩|⟨M,rfl⟩<;>simp
def Md.rot{P Q u v}(h:Md (Q++P) u v)(k:2<=(P++Q).length):Md (P++Q) u v:=by
 rcases h with ⟨A,B,h⟩|⟨M,h⟩
 ·rcases List.append_eq_append_iff.1 h with ⟨X,b,a⟩|⟨X,b,a⟩
  ·
   subst b;exact .inl ⟨X,B++Q,by rw[a];simp⟩
  ·
   cases X with
   |nil=>
    simp at b a;subst b;exact .inl ⟨[],B++Q,by rw[<-a];simp⟩
   | cons x X =>
    simp at a;obtain⟨rfl,a⟩:=a;cases X with
    |nil=>
     simp at a;subst b a;exact .inr ⟨B++A,by simp⟩
    | cons y X =>
     simp at a;obtain⟨rfl,rfl⟩:=a;subst b;exact .inl ⟨P++A,X,by simp⟩
 ·
  cases P with
  | nil=>simp at h;exact .inr ⟨M,by simpa using h⟩
  | cons p P =>
   cases Q with
   | nil=>simp at h;exact .inr ⟨M,by simpa using h⟩
   | cons q Q =>
    (have i:q=v:=by simp at h;exact h.1);have d:=congrArg List.getLast? h;rw[List.getLast?_append,List.getLast?_append]at d;have g:(p::P).getLast?=J u:=by
     cases hh:(p::P).getLast? with
     | none=>simp at hh
     | some z=>rw[hh]at d;simpa using d
    obtain⟨c,f⟩:∃c,p::P=c++[u]:=⟨(p::P).dropLast,by
     have e:=List.getLast?_eq_some_iff.1 g;obtain⟨l,j⟩:=e;rw[j];simp⟩
    rw[f];subst i;exact .inl ⟨c,Q,by simp⟩
def Md.rev{cs u v}(h:Md cs.reverse u v):Md cs v u:=by
 rcases h with ⟨A,B,h⟩|⟨M,h⟩
 ·refine .inl ⟨B.reverse,A.reverse,?_⟩;rw[<-List.reverse_reverse cs,h];simp
 ·refine .inr ⟨M.reverse,?_⟩;rw[<-List.reverse_reverse cs,h];simp
def Md.map{cs f u v}(h:Md (cs.map f) u v):∃u' v',u=f u'/\v=f v'/\Md cs u' v':=by
 rcases h with ⟨A,B,h⟩|⟨M,h⟩
 ·obtain⟨i,X,e,n,c⟩:=List.map_eq_append_iff.1 h;obtain⟨u',m,a,g,d⟩:=List.map_eq_cons_iff.1 c;obtain⟨v',B',b,hv,o⟩:=List.map_eq_cons_iff.1 d;exact⟨u',v',g.symm,hv.symm,.inl ⟨i,B',by rw[e,a,b]⟩⟩
 ·rw[List.cons_append]at h;obtain⟨v',X,e,hv,c⟩:=List.map_eq_cons_iff.1 h;obtain⟨j,Y,a,q,k⟩:=List.map_eq_append_iff.1 c;obtain⟨u',Z,b,g,l⟩:=List.map_eq_cons_iff.1 k;have:Z=[]:=List.map_eq_nil_iff.1 l;subst this;exact⟨u',v',g.symm,hv.symm,.inr ⟨j,by rw[e,a,b];simp⟩⟩
def Yf.rot{P Q}(h:Yf (P++Q)):Yf (Q++P):=by
 have e:∀x,x∈Q++P->x∈P++Q:=fun x a=>by
  rcases List.mem_append.1 a with a|a
  ·exact List.mem_append.2 (.inr a)
  ·exact List.mem_append.2 (.inl a)
 have g:=h.three;refine⟨(List.perm_append_comm.nodup_iff).1 h.nd,by rw[lA]at *;omega,fun u v d c b f hv=>h.left u v (d.rot oM) c (e c b) f hv⟩
def Yf.map{cs}(h:Yf cs) f(m:∀u v c,Ie (f u) (f v) (f c)=Ie u v c)(hi:∀x y,f x=f y->x=y):Yf (cs.map f):=by
 refine⟨?_,by rw[lL];exact h.three,fun u v l c k n hv=>?_⟩
 ·exact List.Pairwise.map f (fun a b d e=>d (hi a b e)) h.nd
 ·obtain⟨o,q,rfl,rfl,i⟩:=l.map;obtain⟨j,g,rfl⟩:=List.mem_map.1 k;rw[m];exact h.left o q i j g (fun e=>n (by rw[e])) (fun e=>hv (by rw[e]))
def Yf.flip{cs}(h:Yf cs) f(m:∀u v c,Ie (f u) (f v) (f c)=Ie v u c)(hi:∀x y,f x=f y->x=y):Yf (cs.map f).reverse:=by
 refine⟨?_,by rw[List.length_reverse,lL];exact h.three,fun u v l c k n hv=>?_⟩
 ·exact(List.reverse_perm _).nodup_iff.2 (List.Pairwise.map f (fun a b d e=>d (hi a b e)) h.nd)
 ·obtain⟨q,o,rfl,rfl,i⟩:=(Md.rev l).map;obtain⟨j,g,rfl⟩:=List.mem_map.1 (List.mem_reverse.1 k);rw[m];exact h.left q o i j g (fun e=>hv (by rw[e])) (fun e=>n (by rw[e]))
def Ci(p q r:Int×Int):Int:=(q.1-p.1)*(r.2-p.2)-(q.2-p.2)*(r.1-p.1)
def WL p q r:Ci p q r=Ie p q r:=by unfold Ci Ie;grind
def Qa(l:LP)(i:Nat):Int×Int:=l.getD i (0,0)
def Ki(l:LP)(i k:Nat):Bool:=(k==i) || ((k==(i+1)%l.length) || decide (0<Ci (Qa l i) (Qa l ((i+1)%l.length)) (Qa l k)))
def Gj(l:LP)(i:Nat):Bool:=(List.range l.length).all (Ki l i)
def Tf(l:LP):Bool:=Ra l.length 3 12&&(List.range l.length).all (Gj l)
def fj{a n}(h:a<2*n):a%n=if a<n then a else a-n:=by
 split
 ·exact Nat.mod_eq_of_lt (by assumption)
 ·rw[Nat.mod_eq_sub_mod oM];exact Nat.mod_eq_of_lt oM
def Rs l(i:Nat):Lf l (i:Int)=Qa l (i%l.length):=by
 unfold Lf Qa;have e:((i:Int)+(l.length:Int))%(l.length:Int)=((i%l.length:Nat):Int):=by
  rw[Int.add_emod_right];rfl
 rw[e];rfl
def IK l(i:Nat)(h:0<l.length):Lf l ((i:Int)-1)=Qa l ((i+l.length-1)%l.length):=by
 unfold Lf Qa;have e:((i:Int)-1+(l.length:Int))%(l.length:Int)=(((i+l.length-1)%l.length:Nat):Int):=by
  rw[show (i:Int)-1+(l.length:Int)=((i+l.length-1:Nat):Int) by omega];rfl
 rw[e];rfl
def WD u v c:Ie u v c=Ie c u v:=by unfold Ie;grind
def yK l:Tf l=Va l:=by
 unfold Tf Va;cases hw:Ra l.length 3 12 with
 | false=>rfl
 |true=>
  rw[Bool.true_and,Bool.true_and,Bool.eq_iff_iff,List.all_eq_true,List.all_eq_true];obtain⟨n,g⟩:=gX l.length;have h3:3<=n:=by
   unfold Ra at hw;simp at hw;omega
  have key:∀i k,Ki l i k=true ↔ (k=i\/k=(i+1)%n\/0<Ie (Qa l i) (Qa l ((i+1)%n)) (Qa l k)):=fun i k=>by
   unfold Ki;rw[g,WL];simp
  have x:∀i,Jj l i=true ↔ 0<Ie (Qa l ((i+n-1)%n)) (Qa l (i%n)) (Qa l ((i+1)%n)):=fun i=>by
   unfold Jj;rw[IK l i oM,Rs,show (i:Int)+1=((i+1:Nat):Int) by omega,Rs,g,decide_eq_true_eq]
  have y:∀i k,Ij l i k=true ↔ 0<Ie (Qa l (i%n)) (Qa l ((i+1)%n)) (Qa l ((i+k)%n)):=fun i k=>by
   unfold Ij;rw[Rs,show (i:Int)+1=((i+1:Nat):Int) by omega,Rs,show (i:Int)+(k:Int)=((i+k:Nat):Int) by omega,Rs,g,decide_eq_true_eq]
  constructor
  ·intro h i m;have f:i<n:=by rw[<-g];exact List.mem_range.1 m
   have j:=h i m;unfold Gj at j;rw[List.all_eq_true]at j;have t:∀k,k<n->k≠i->k≠(i+1)%n->0<Ie (Qa l i) (Qa l ((i+1)%n)) (Qa l k):=fun k o a b=>by
    have:=(key i k).1 (j k (List.mem_range.2 (by rw[g];exact o)));rcases this with c|c|c
    ·exact absurd c a
    ·exact absurd c b
    ·exact c
   unfold Bh;rw[Bool.and_eq_true];constructor
   ·rw[x,Nat.mod_eq_of_lt f,<-WD];refine t _ (Nat.mod_lt _ oM) ?_ ?_<;>rw[fj oM]
    ·split<;>omega
    ·rw[fj (show i+1<2*n by omega)];split<;>split<;>omega
   ·rw[List.all_eq_true];intro k o;rw[List.mem_range]at o;by_cases q:k<2
    ·simp[q]
    ·have:decide (k<2)=false:=decide_eq_false q;rw[this,Bool.false_or,y,Nat.mod_eq_of_lt f];refine t _ (Nat.mod_lt _ oM) ?_ ?_<;>rw[fj (show i+k<2*n by omega)]
     ·split<;>omega
     ·rw[fj (show i+1<2*n by omega)];split<;>split<;>omega
  ·intro h i m;have f:i<n:=by rw[<-g];exact List.mem_range.1 m
   have j:=h i m;unfold Bh at j;rw[Bool.and_eq_true,x,List.all_eq_true]at j;obtain⟨s,z⟩:=j;unfold Gj;rw[List.all_eq_true];intro k o;have R:k<n:=by rw[<-g];exact List.mem_range.1 o
   rw[key];by_cases a:k=i
   ·exact .inl a
   ·by_cases b:k=(i+1)%n
    ·exact .inr (.inl b)
    ·refine .inr (.inr ?_);rw[fj (show i+1<2*n by omega)]at b;by_cases c:k=(i+n-1)%n
     ·rw[Nat.mod_eq_of_lt f,<-WD,<-c]at s;exact s
     ·rw[fj (show i+n-1<2*n by omega)]at c;obtain⟨d,u⟩:∃d,d=if i<=k then k-i else k+n-i:=⟨_,rfl⟩;have r:2<=d/\d<n-1:=by
       split at u<;>split at b<;>split at c<;>omega
      have e:(i+d)%n=k:=by
       rw[fj oM];split at u<;>split<;>omega
      have:=z d (List.mem_range.2 (by rw[g];exact r.2));have K:decide (d<2)=false:=decide_eq_false oM;rw[K,Bool.false_or,y,Nat.mod_eq_of_lt f,e]at this;exact this
def MI{l:LP}(h:l≠[]):l.foldl (fun o q=>(min o.1 q.1,min o.2 q.2)) (Qa l 0)=Ta l:=by
 cases l with
 | nil=>exact absurd rfl h
 | cons p a =>
  show List.foldl _ (min p.1 p.1,min p.2 p.2) a=Ta (p::a);rw[Int.min_self,Int.min_self];rfl
def Tc(l:LP):Nat->Nat
 | 0=>0
 | i+1=>if (Qa l i).2<(Qa l (Tc l i)).2\/((Qa l i).2=(Qa l (Tc l i)).2/\(Qa l i).1<(Qa l (Tc l i)).1)then i else Tc l i
def Ik(a b:Int×Int):Prop:=a.2<b.2\/(a.2=b.2/\a.1<b.1)
def vD q m:Fl q m<0 ↔ Ik q m:=by
 unfold Fl Ik Lh Gc;by_cases a:q.2<m.2
 ·simp[a]
 ·by_cases b:m.2<q.2
  ·simp[a,b]
   try omega
  ·have e:q.2=m.2:=oM;simp only[e,Int.lt_irrefl,if_false];by_cases c:q.1<m.1
   ·simp[c,Lh]
   ·by_cases d:m.1<q.1
    ·simp[c,d,Lh]
     try omega
    ·simp[c,d,Lh]
def Dx l:∀n,n+1<=l.length->Tc l (n+1)<n+1/\Qa l (Tc l (n+1))=Gf (l.take (n+1))/\(∀j,j<n+1->¬Ik (Qa l j) (Qa l (Tc l (n+1))))/\∀j,j<Tc l (n+1)->Qa l j≠Qa l (Tc l (n+1)):=by
 intro n;induction n with
 |zero=>
  intro h;have e:Tc l 1=0:=by unfold Tc;split<;>rfl
  rw[e];obtain⟨p,t,rfl⟩:∃p t,l=p::t:=by
   cases l with
   | nil=>simp at h
   | cons p t=>exact⟨p,t,rfl⟩
  refine⟨by omega,rfl,fun j b=>?_,fun j b=>absurd b oM⟩;obtain rfl:j=0:=oM;unfold Ik;omega
 | succ n u =>
  intro h;obtain⟨q,k,g,m⟩:=u oM;have s:l[n+1]?=J (Qa l (n+1)):=by
   unfold Qa;rw[gD,gE oM];rfl
  have i:l.take (n+1)≠[]:=by
   intro e;have:=congrArg List.length e;rw[List.length_take,List.length_nil]at this;omega
  have r:Gf (l.take (n+2))=ri (Gf (l.take (n+1))) (Qa l (n+1)):=by
   rw[List.take_add_one,s];exact yE _ _ i
  obtain⟨f,o⟩:=gX (Tc l (n+1));rw[o]at q k g m;rw[r,<-k];unfold ri;have d:Tc l (n+1+1)=if (Qa l (n+1)).2<(Qa l (Tc l (n+1))).2\/((Qa l (n+1)).2=(Qa l (Tc l (n+1))).2/\(Qa l (n+1)).1<(Qa l (Tc l (n+1))).1)then n+1 else Tc l (n+1):=rfl;rw[o]at d;by_cases c:Ik (Qa l (n+1)) (Qa l f)
  ·rw[if_pos ((vD _ _).2 c)];rw[if_pos (show (Qa l (n+1)).2<(Qa l f).2\/((Qa l (n+1)).2=(Qa l f).2/\(Qa l (n+1)).1<(Qa l f).1)from c)]at d;rw[d];refine⟨by omega,rfl,fun j b=>?_,fun j b e=>?_⟩
   ·by_cases a:j=n+1
    ·subst a;unfold Ik;omega
    ·have:=g j oM;unfold Ik at *;omega
   ·have:=g j oM;rw[e]at this;exact this c
  ·rw[if_neg (fun h=>c ((vD _ _).1 h))];rw[if_neg (show ¬((Qa l (n+1)).2<(Qa l f).2\/((Qa l (n+1)).2=(Qa l f).2/\(Qa l (n+1)).1<(Qa l f).1))from c)]at d;rw[d];refine⟨by omega,rfl,fun j b=>?_,m⟩;by_cases a:j=n+1
   ·subst a;exact c
   ·exact g j oM
def CB{l:LP}(h:l≠[]):Tc l l.length=Bg l:=by
 have m:=List.length_pos_iff.2 h;obtain⟨n,k⟩:∃n,l.length=n+1:=⟨l.length-1,by omega⟩;obtain⟨d,b,o,c⟩:=Dx l n oM;rw[k];rw[show l.take (n+1)=l from lT oM]at b;obtain⟨f,i⟩:=gX (Tc l (n+1));rw[i]at d b c ⊢;have e:∀j,j<l.length->l[j]?=J (Qa l j):=fun j a=>by
  unfold Qa;rw[gD,gE a];rfl
 have g:∀j (a:j<l.length),l[j]=Qa l j:=fun j a=>by
  have:=e j a;rw[gE a]at this;exact Option.some.inj this
 have:l.findIdx? (fun p=>Gf l==p)=J f:=by
  rw[List.findIdx?_eq_some_iff_getElem];refine⟨by omega,by rw[g f oM,b];simp,fun j a=>?_⟩;rw[g j oM,<-b];simpa using fun e=>c j a e.symm
 unfold Bg Pc;rw[this];rfl
def tJ l{m}(h:m<l.length):(List.range l.length).map (fun i=>Qa l ((m+i)%l.length))=l.drop m++l.take m:=by
 apply List.ext_getElem
 ·rw[lL,List.length_range,lA,List.length_drop,List.length_take];omega
 ·intro i a b;rw[List.getElem_map,List.getElem_range];rw[lL,List.length_range]at a;unfold Qa;rw[fj oM,gD];by_cases c:m+i<l.length
  ·rw[if_pos c,gE c,List.getElem_append_left (by rw[List.length_drop];omega),List.getElem_drop];rfl
  ·rw[if_neg c,gE oM,List.getElem_append_right (by rw[List.length_drop];omega),List.getElem_take];have e:m+i-l.length=i-(l.drop m).length:=by rw[List.length_drop];omega
   simp only[e];rfl
def nh(l:LP):LP:=(List.range l.length).map fun i=>((Qa l ((Tc l l.length+i)%l.length)).1-(Ta l).1,(Qa l ((Tc l l.length+i)%l.length)).2-(Ta l).2)
def sJ l:nh l=Qc l:=by
 by_cases h:l=[]
 ·subst h;rfl
 ·unfold nh Qc;rw[CB h,<-tJ l (nv h).2,List.map_map];rfl
def Ef:Nat->Int×Int->Int×Int
 | 0,p=>p
 | n+1,p=>(-(Ef n p).2,(Ef n p).1)
def If(way:Int)(p:Int×Int):Int×Int:=Ef (way%4).toNat (if 4<=way then (-p.1,p.2)else p)
def nB way p:If way p=Sc way p:=by
 unfold If Sc;obtain⟨q,a⟩:=gX ((if 4<=way then (-p.1,p.2)else p));have e:(if 3<way then (-p.1,p.2)else p)=q:=by
  rw[<-a];by_cases h:4<=way
  ·rw[if_pos h,if_pos oM]
  ·rw[if_neg h,if_neg oM]
 rw[a,e];have h:way%4=0\/way%4=1\/way%4=2\/way%4=3:=oM;rcases h with h|h|h|h<;>rw[h]
 ·rfl
 ·rfl
 ·show (-(Ef 1 q).2,(Ef 1 q).1)=_;rfl
 ·show (-(Ef 2 q).2,(Ef 2 q).1)=_;simp[Ef]
def Eg(way:Int)(l:LP):LP:=nh ((List.range l.length).map fun i=>If way (Qa l (if 4<=way then l.length-1-i else i)))
def PK l:(List.range l.length).map (Qa l)=l:=by
 apply List.ext_getElem
 ·simp
 ·intro i b a;rw[List.getElem_map,List.getElem_range];unfold Qa;rw[gD,gE a];rfl
def OK l:(List.range l.length).map (fun i=>Qa l (l.length-1-i))=l.reverse:=by
 apply List.ext_getElem
 ·simp
 ·intro i b a;rw[List.length_reverse]at a;rw[List.getElem_map,List.getElem_range,List.getElem_reverse];unfold Qa;rw[gD,gE oM];rfl
def kJ way l:Eg way l=kc way l:=by
 unfold Eg kc;rw[sJ];by_cases h:4<=way
 ·rw[if_pos (show 3<way by omega),<-List.map_reverse,<-OK,List.map_map]
  congr 1
  apply List.map_congr_left;intro i _;rw[if_pos h,nB];rfl
 ·rw[if_neg (show ¬3<way by omega)]
  conv=>rhs;rw[<-PK l,List.map_map]
  congr 1
  apply List.map_congr_left;intro i _;rw[if_neg h,nB];rfl
def Xm(p:Pl):LP:=(Eg p.way p.shape).map fun q=>(q.1+p.ax,q.2+p.az)
def vK p:Xm p=Ca p:=by unfold Xm Ca;rw[kJ]
def Kh(l:LP):Bool:=(l.all fun p=>Ra p.1 0 2000&&Ra p.2 0 2000)&&(Tf l&&(decide ((Ta l).1=0)&&(decide ((Ta l).2=0)&&decide (Tc l l.length=0))))
def MC l:Kh l=se l:=by
 unfold Kh se;rw[yK];have g:(l.all fun p=>Ra p.1 0 2000&&Ra p.2 0 2000)=!(l.any Bf):=by
  rw[List.not_any_eq_all_not]
  congr 1
  funext p
  unfold Bf;cases Ra p.1 0 2000<;>cases Ra p.2 0 2000<;>rfl
 rw[g];cases l.any Bf with
 | true=>rfl
 |false=>
  cases hc:Va l with
  | false=>rfl
  |true=>
   have a:l≠[]:=by
    intro e;subst e;simp[Va,Ra]at hc
   have i:(Ta l==(0,0))=(decide ((Ta l).1=0)&&decide ((Ta l).2=0)):=by
    rw[Bool.eq_iff_iff];simp[Prod.ext_iff]
   have k:(Gf l==l.getD 0 (0,0))=decide (Tc l l.length=0):=by
    rw[CB a,Bool.eq_iff_iff,beq_iff_eq,decide_eq_true_eq];obtain⟨b,q⟩:=nv a;have m:=List.length_pos_iff.2 a;(have f:l.getD 0 (0,0)=l[0]:=by rw[gD,gE m];rfl);unfold Pc at b;cases hf:l.findIdx? (fun p=>Gf l==p)with
    |none=>
     rw[hf]at b;simp at b
     try omega
    | some j =>
     rw[hf]at b;(have n:Bg l=j:=by simp at b;omega);rw[n];rw[List.findIdx?_eq_some_iff_getElem]at hf;obtain⟨o,c,d⟩:=hf;constructor
     ·intro h;cases j with
      | zero=>rfl
      | succ j =>
       have:=d 0 oM;rw[<-f,h]at this;simp at this
     ·rintro rfl;rw[f];simpa using c
   rw[i,k];cases decide ((Ta l).1=0)<;>cases decide ((Ta l).2=0)<;>rfl
def sD(W:C) x z b c T:∀ j  u,[pc (x,z),pc (b,c)].flatten[j]?=J u->(W.alloc (G #[O V x,O V z,O V b,O V c] T)).cell? ((⟨W.heap.size,0,N⟩:Addr).add j)=J u:=by
 intro j u a
 match j,a with
 | 0,a=>simp[pc]at a;subst a;simp[Addr.add]
 | 1,a=>simp[pc]at a;subst a;simp[Addr.add]
 | 2,a=>simp[pc]at a;subst a;simp[Addr.add]
 | 3,a=>simp[pc]at a;subst a;simp[Addr.add]
 | j+4,a=>simp[pc]at a
def KC x z a b:∀u∈[pc (x,z),pc (a,b)].flatten,u.oneCell'=true:=Es (ps:=[(x,z),(a,b)])
def QU(w:C)(base:Nat)(p:Pl)(v:F)(cs:LP)(b:F)(g:Nat)(a:F)(W:C):Prop:=
 ∃(i:Nat)(vl vu:F),i<=cs.length/\a=O V i/\g=cs.length-i/\Qi w base p v (Kc cs i) (Pd cs i) vl vu W/\Ea 91 2 W (w.heap.size+1+1+1) b (cs.map pc)
def NC{W w' base s a v cs L}(h:Ea 91 2 W (s+1) a cs)(c:∀j,a.ownBlock=J j->j<base)(f:Ea 91 2 W base v L)(d:W.grownBy w' v.ownBlock) k u:Ea 91 2 (w'.setCell ⟨s,k,N⟩ u) (s+1) a cs:=by
 refine Ea.setOther (h.grown d ?_) (fun e=>?_) _
 ·cases e:a.ownBlock with
  | none=>exact .inl rfl
  | some j=>exact .inr (fun b=>by have:=(f.lt _ b.symm).1;have:=c _ e;omega)
 ·have:=(h.lt _ e).1;dsimp only at this;omega
def tT w p v(h:Ia w v p.shape)(aI:Fa p=true)(hg:Gw w)(hL:Kc (Ca p) (Ca p).length≠[])(hU:Pd (Ca p) (Ca p).length≠[]):Calls Tryz.prog 113 #[H (Dd p v)] w (Pq w p v):=by
 obtain⟨a,c,rfl⟩:=h.form;obtain⟨aG,aU,av⟩:=oo aI;have aq:=fun W (hW:Ba w W)=>IG W p _ (h.f hW) aI (hg.ext hW);obtain⟨cs,aH⟩:=gX (Ca p);obtain⟨pn,a9⟩:=gX p.shape.length;rw[a9]at aq h ⊢;obtain⟨R,hR⟩:=gX (Pq w p (I a pn c));rw[hR];have HR:=za hR;rw[aH]at aq aG aU av hL hU;obtain⟨n,hn⟩:=gX cs.length;rw[hn]at aU av hL hU;have bl:=za aq;have aO:=za aG;have Hn:=za hn;have aP:=za aH;have HL:=za hL;have HU:=za hU;clear aq aG hn aH hR aI a9 h hL hU;obtain⟨P,hP⟩:=gX p;obtain⟨nm,ps,d,de,gx,gz,wy,ax,az,sk⟩:=p;unfold Dd at *;dsimp only at *;have HP:=za hP;clear hP;go_in;go_wp2_with(((go_at_call 117;refine cM (bl.o _ eA) ?_;rintro e w1 ⟨v1,rfl,aj,al⟩;obtain⟨a1,n1,c1,rfl⟩:=aj.i;obtain rfl:n=n1:=(by have h9:=aj.len;rw[lL,Hn.o]at h9;exact h9.symm);obtain⟨⟨bu,bx⟩,be,bg,aC⟩:=Sb w al)));obtain⟨base,ab⟩:=gX w1.heap.size;have bc:Ba w w1:=eA;have bt:w.heap.size+1+1<base:=by rw[<-ab];exact aC
 have aw:∀j,(Value.slice a1 n c1).ownBlock=J j->j<base:=fun j hj=>by rw[<-ab];exact(aj.lt j hj).2
 have K0:=al.e (k:=w.heap.size) (by rw[tg,if_neg (by simp;omega),tg,if_neg sM];exact mc _ _ _ rfl);have K1:=al.e (k:=w.heap.size+1) (by rw[tg,if_neg sM];exact mc _ _ _ sM);have K2:=al.e (k:=w.heap.size+1+1) (mc _ _ _ sM);have aS:Qi w base ⟨nm,ps,d,de,gx,gz,wy,ax,az,sk⟩ (I a pn c) [] [] (I N 0 0) (I N 0 0) w1:=
  ⟨bc,bt,by omega,K0,K1,K2,Ea.nil _ _ _ _,Ea.nil _ _ _ _,fun j hj=>by cases hj⟩
 have aB:Ea 91 2 w1 (w.heap.size+1+1+1) (I a1 n c1) (cs.map pc):=aj.mono sM;have aL:=za aS;have aQ:=za aB;have ar:=za aw;clear K0 K1 K2 aS aB aw aj al bu bx be bg aC ab bc;go_loopg [18] n (QU w base ⟨nm,ps,d,de,gx,gz,wy,ax,az,sk⟩ (I a pn c) cs (I a1 n c1))
 case atStart=>exact⟨0,_,_,by omega,rfl,by rw[Hn.o];rfl,aL.o,aQ.o⟩
 case round =>
  clear aL aQ;obtain⟨i,vl,vu,hi,rfl,rfl,hO,ay⟩:=hrel;rw[Hn.o]at hi;have bs:=hO;obtain⟨h1,_,h3,h4,h5,h6,h7,h8,h9⟩:=bs;obtain⟨la,ln,lc,rfl⟩:=h7.i;obtain⟨ua,un,uc,rfl⟩:=h8.i;have bH:=Aa h6 10 (I la ln lc);have bI:=Aa h6 11 (I ua un uc);have z6:=Ya h6;have bT:w.heap.size+1+1<wr.heap.size+1:=oM;have bU:w.heap.size+1+1<wr.heap.size+1+1:=oM;have HO:=za hO;have y:=za ay;have aK:=qC cs i;clear h1 h3 h4 h5 h6 h7 h8 h9 hO ay;by_cases bP:i<n
  ·obtain⟨⟨x,z⟩,hq⟩:∃q,cs[i]?=J q:=⟨cs[i]'(by rw[Hn.o];omega),by simp⟩;obtain⟨k,hk⟩:=gX ((i+1)%n);have bO:k<n:=by rw[<-hk];exact Nat.mod_lt _ oM
   obtain⟨⟨K,z'⟩,aJ⟩:∃q,cs[k]?=J q:=⟨cs[k]'(by rw[Hn.o];omega),by simp⟩;have hm:((i:Int)+1)%(n:Int)=(k:Int):=by rw[<-hk];simp
   obtain⟨b,o,rfl,hb,d0,d1⟩:=(y.o.pts).at' hq;obtain⟨b',o',e',bN,d2,d3⟩:=(y.o.pts).at' aJ;cases e';have hE:ye cs i=(if x<K then [(x,z),(K,z')]else [])/\Jf cs i=(if K<x then [(x,z),(K,z')]else []):=by
    unfold ye Jf;rw[Hn.o,hk,gD,gD,hq,aJ];exact⟨rfl,rfl⟩
   have HE:=za hE;have p1:(0:Int)<=(i:Int):=oM;have p2:(i:Int)<(n:Int):=oM;have p3:(0:Int)<=(k:Int):=oM;have p4:(k:Int)<(n:Int):=oM;have p5:(0:Int)<(n:Int):=oM;have aA:((Kc cs i).map pc).length+2<=100000000000/\((Pd cs i).map pc).length+2<=100000000000:=by rw[lL,lL];omega
   have au:=za aA;clear hq aJ hE hk aA aK;by_cases t1:x<K
   ·have g:=HE.o.1;have l:=HE.o.2;rw[if_pos t1]at g;rw[if_neg oM]at l;have ae:=za g;have af:=za l;clear g l;have X5:Ba wr (((wr.alloc (G #[O V x,O V z] 91)).alloc (G #[O V K,O V z'] 91)).alloc (G #[O V x,O V z,O V K,O V z'] 91)):=(((eR wr).alloc _).alloc _).alloc _;have r:=HO.o.ext X5;have ak:=r.2.2.2.2.2.2;have ah:=r.2.2.1;have aD:=za r.2.2.2.2.2.1;have aE:=za r;have aa:=za ak.1;clear r ak;go_wp2_with(at_builtin;refine Mi (T:=91) (t:=146) (z:=H #[O V 0,O V 0]) (k:=2) (bytes:=16) (base:=base) (v:=I la ln lc) (cs:=(Kc cs i).map pc) (m:=2) (c:=2) (ad:=⟨wr.heap.size+1+1,0,N⟩) mo rfl dM dM Tryz.underlying146 rfl _ _ rfl rfl aa.o rfl [pc (x,z),pc (K,z')] rfl (by simp[pc]) (by simpa using sD ((wr.alloc (G #[O V x,O V z] 91)).alloc (G #[O V K,O V z'] 91)) x z K z' 91) (KC _ _ _ _) au.o.1 ah ?_;intro v' w5 s f ai;obtain⟨a5,n5,c5,rfl⟩:=s.i;have E5:=Gh f aD.o (fun e=>by have:=(aa.o.lt _ e.symm).1;omega);have c9:=Aa E5 10 (I la ln lc);have f9:=Za E5 10);go_roundg (n-(i+1))
    case measure=>have:=Hn.o;omega
    case rel =>
     refine⟨i+1,I a5 n5 c5,I ua un uc,by have:=Hn.o;omega,by go_num,by rw[Hn.o],?_,NC (y.o.ext X5) ar.o aa.o f _ _⟩;rw[pw,Mv,ae.o,af.o,List.append_nil];exact Qi.setLow aE.o f (by rw[List.map_append];exact s) ai
   ·by_cases t2:K<x
    ·have k1:K<=x:=oM;have g:=HE.o.1;have l:=HE.o.2;rw[if_neg t1]at g;rw[if_pos t2]at l;have ae:=za g;have af:=za l;clear t1 g l;have X5:Ba wr (((wr.alloc (G #[O V x,O V z] 91)).alloc (G #[O V K,O V z'] 91)).alloc (G #[O V x,O V z,O V K,O V z'] 91)):=(((eR wr).alloc _).alloc _).alloc _;have r:=HO.o.ext X5;have ak:=r.2.2.2.2.2.2;have ah:=r.2.2.1;have aD:=za r.2.2.2.2.2.1;have aE:=za r;have aa:=za ak.2.1;clear r ak;go_wp2_with(at_builtin;refine Mi (T:=91) (t:=146) (z:=H #[O V 0,O V 0]) (k:=2) (bytes:=16) (base:=base) (v:=I ua un uc) (cs:=(Pd cs i).map pc) (m:=2) (c:=2) (ad:=⟨wr.heap.size+1+1,0,N⟩) mo rfl dM dM Tryz.underlying146 rfl _ _ rfl rfl aa.o rfl [pc (x,z),pc (K,z')] rfl (by simp[pc]) (by simpa using sD ((wr.alloc (G #[O V x,O V z] 91)).alloc (G #[O V K,O V z'] 91)) x z K z' 91) (KC _ _ _ _) au.o.2 ah ?_;intro v' w5 s f ai;obtain⟨a5,n5,c5,rfl⟩:=s.i;have E5:=Gh f aD.o (fun e=>by have:=(aa.o.lt _ e.symm).1;omega);have c9:=Aa E5 11 (I ua un uc);have f9:=Za E5 11);go_roundg (n-(i+1))
     case measure=>have:=Hn.o;omega
     case rel =>
      refine⟨i+1,I la ln lc,I a5 n5 c5,by have:=Hn.o;omega,by go_num,by rw[Hn.o],?_,NC (y.o.ext X5) ar.o aa.o f _ _⟩;rw[pw,Mv,ae.o,af.o,List.append_nil];exact Qi.setUp aE.o f (by rw[List.map_append];exact s) ai
    ·have k1:K<=x:=oM;have k2:x<=K:=oM;have g:=HE.o.1;have l:=HE.o.2;rw[if_neg t1]at g;rw[if_neg t2]at l;have ae:=za g;have af:=za l;clear t1 t2 g l;go_wp2;go_roundg (n-(i+1))
     case measure=>have:=Hn.o;omega
     case rel =>
      refine⟨i+1,I la ln lc,I ua un uc,by have:=Hn.o;omega,by go_num,by rw[Hn.o],?_,y.o.ext eA⟩;rw[pw,Mv,ae.o,af.o,List.append_nil,List.append_nil];exact HO.o.ext eA
  ·obtain rfl:i=n:=oM;have hO:=HO.o;have ac:=Cs aO.o (i:=i) (by rw[Hn.o];exact nE _);obtain⟨LR,ao⟩:=gX (Kc cs i);obtain⟨UR,ap⟩:=gX (Pd cs i);rw[ao,ap]at aK hO ac;have aR:LR≠[]:=by rw[<-ao];exact HL.o
   have aT:UR≠[]:=by rw[<-ap];exact HU.o
   have bi:=za ao;have bk:=za ap;clear ao ap HO;obtain⟨lg,rfl,_,_⟩:=Ea.blk hO.2.2.2.2.2.2.1 (by rw[lL];exact List.length_pos_iff.2 aR);obtain⟨ug,rfl,_,_⟩:=Ea.blk hO.2.2.2.2.2.2.2.1 (by rw[lL];exact List.length_pos_iff.2 aT);have ba:=yG wr base lg ln lc LR hO.2.2.2.2.2.2.1 (fun q hq=>⟨(ac.1 q hq).1.mono dM,(ac.1 q hq).2.mono dM⟩) oM;have bb:=fun(W:C)(ho:Ea 91 2 W base (I (J ⟨ug,0,N⟩) un uc) (UR.map pc))=>yG W base ug un uc UR ho (fun q hq=>⟨(ac.2 q hq).1.mono dM,(ac.2 q hq).2.mono dM⟩) oM;have aZ:(Df LR).length<=1000000:=by rw[(oq LR).length_eq];omega
   have a0:(Df UR).length<=1000000:=by rw[(oq UR).length_eq];omega
   have aX:=fun(W:C)(ho:Ea 91 2 W base (I (J ⟨lg,0,N⟩) ln lc) ((Df LR).map pc))=>uG W base (I (J ⟨lg,0,N⟩) ln lc) (Df LR) ho aZ;have aY:=fun(W:C)(ho:Ea 91 2 W base (I (J ⟨ug,0,N⟩) un uc) ((Df UR).map pc))=>uG W base (I (J ⟨ug,0,N⟩) un uc) (Df UR) ho a0;have HO:=za hO;have bo:=za ba;have bp:=za bb;have bm:=za aX;have bn:=za aY;clear hO ba bb aX aY ac aK aZ a0 aR aT y aO;go_wp2_with fail;(with_reducible refine bo.o.mono ?_);rintro e w2 ⟨rfl,a3,aV⟩;have am:=za (Qi.low HO.o aV a3);have bJ:=Aa am.o.2.2.2.2.2.1 11 (I (J ⟨ug,0,N⟩) un uc);have bQ:=Ya am.o.2.2.2.2.2.1;clear a3 aV;go_wp2_with fail;have bD:=am.o.2.2.2.2.2.2.2.1;(with_reducible refine(bp.o w2 bD).mono ?_);rintro e w3 ⟨rfl,a6,aW⟩;have bj:=za (Qi.up am.o aW a6);clear a6 aW;go_wp2_with fail;have ag:=bj.o.toX;have bK:=Aa ag.2.2.2.2.1 10 (I (J ⟨lg,0,N⟩) ln lc);have bL:=Aa ag.2.2.2.2.1 11 (I (J ⟨ug,0,N⟩) un uc);have y3:=Ya ag.2.2.2.2.1;have aM:=za ag;have bh:=za (aM.o.ext (eR w3).drew).2.2.2.2.2.1;clear ag
   first|(go_region_with (first|((go_at_call 156;(with_reducible refine(bm.o _ bh.o).mono ?_);rintro e w4 ⟨v4,rfl,a7,bz,bv⟩;obtain⟨a4,n4,c4,rfl⟩:=a7.i;have an:=za (Cm.low (aM.o.ext (eR w3).drew) bz a7 bv);have bM:=Aa an.o.2.2.2.2.1 11 (I (J ⟨ug,0,N⟩) un uc);have y4:=Ya an.o.2.2.2.2.1;have bE:=an.o.2.2.2.2.2.2.1))|((go_at_call 156;(with_reducible refine(bn.o _ bE).mono ?_);rintro e w5 ⟨v5,rfl,a8,bA,bw⟩;obtain⟨a5,n5,c5,rfl⟩:=a8.i;have aF:=za (Cm.up an.o bA a8 bw);obtain⟨b0,b1,b2,b3,b4,b5,b6,b7,b8,b9,bF,bG,bf,y5⟩:=RI aF.o.2.2.2.2.1;obtain⟨d0,d1,d2,d3,d4,d5,d6,d7,d8,d9,bq,br,df,y6⟩:=SI aF.o.2.2.2.1;dsimp only at b0 b2 b3 b4 b5 b6 b7 b8 b9))))|fail
   all_goals go_wp2
   all_goals
    have bB:¬w.heap.size+1+1=w.heap.size+1:=oM;have bC:¬w.heap.size+1=w.heap.size+1+1:=oM;refine bR (v:=H (tf ⟨nm,ps,d,de,gx,gz,wy,ax,az,sk⟩ (I a pn c) (I a4 n4 c4) (I a5 n5 c5))) (by simp[results,Tryz.results113,go_sem,tf,d0,d1,d2,d3,d4,d5,d6,d7,d8,d9,bq,br,bB,bC]) rfl ?_;rw[<-HR.o];obtain⟨f1,f2,f3,f5,f6,f7,f8,f9⟩:=aF.o;have a2:∀{u:F}{L:List (List F)},Ea 91 2 w5 base u L->u.ownBlock≠J (w.heap.size+1+1)/\u.ownBlock≠J (w.heap.size+1):=fun ho=>⟨fun e=>by have:=(ho.lt _ e).1;omega,fun e=>by have:=(ho.lt _ e).1;omega⟩;obtain⟨m1,m2⟩:=a2 f7;obtain⟨m3,m4⟩:=a2 f8;refine⟨I a4 n4 c4,I a5 n5 c5,rfl,?_,?_,?_⟩
    ·unfold Ga Lc;rw[aP.o,Hn.o,bi.o];refine Ea.pts (base:=base) ?_
     repeat(refine Ea.setOther ?_ (by first|exact m1|exact m2) _)
     exact f7
    ·unfold Mb Lc;rw[aP.o,Hn.o,bk.o];refine Ea.pts (base:=base) ?_
     repeat(refine Ea.setOther ?_ (by first|exact m3|exact m4) _)
     exact f8
    ·repeat(refine Ba.set ?_ dO _)
     exact f1
def Sx{ps} i:Lf ps (i+ps.length)=Lf ps i:=by unfold Lf;rw[Int.add_emod_right]
def lJ u v c:Ie u v c=Ie c u v:=by unfold Ie;grind
def Xw{ps}(h:Va ps=true){i}(hi:i<ps.length):0<Ie (Lf ps ((i:Int)-1)) (Lf ps i) (Lf ps ((i:Int)+1))/\∀k,2<=k->k<ps.length-1->0<Ie (Lf ps i) (Lf ps ((i:Int)+1)) (Lf ps ((i:Int)+k)):=by
 unfold Va at h;simp only[Bool.and_eq_true,List.all_eq_true,List.mem_range]at h;have a:=h.2 i hi;unfold Bh at a;simp only[Bool.and_eq_true,List.all_eq_true,List.mem_range,Bool.or_eq_true,decide_eq_true_eq]at a;refine⟨by simpa[Jj] using a.1,fun k d b=>?_⟩;rcases a.2 k b with c|c
 ·omega
 ·simpa[Ij] using c
def TE{ps}(h:Va ps=true){i j}(hi:i<ps.length)(b:j<ps.length)(d:i≠j):ps[j]=Lf ps ((i:Int)+1)\/ps[j]=Lf ps ((i:Int)-1)\/0<Ie (Lf ps i) (Lf ps ((i:Int)+1)) ps[j]:=by
 have a:ps[j]=Lf ps (j:Int):=by
  have:=Qs b;rw[gE b]at this;exact Option.some.inj this
 obtain⟨k,f,g,e⟩:∃k:Nat,1<=k/\k<=ps.length-1/\Lf ps ((i:Int)+k)=Lf ps (j:Int):=by
  by_cases l:i<j
  ·exact⟨j-i,by omega,by omega,by congr 1;omega⟩
  ·refine⟨j+ps.length-i,by omega,by omega,?_⟩;rw[show (i:Int)+((j+ps.length-i:Nat):Int)=(j:Int)+ps.length by omega];exact Sx _
 rw[a,<-e];by_cases c:k=1
 ·subst c;exact .inl rfl
 ·by_cases m:k=ps.length-1
  ·right;left
   rw[show (i:Int)+(k:Int)=((i:Int)-1)+ps.length by omega];exact Sx _
  ·right;right
   exact(Xw h hi).2 k oM oM
def qS{ps}(h:Va ps=true):Yf ps:=by
 have l:3<=ps.length:=by
  unfold Va Ra at h;simp only[Bool.and_eq_true,decide_eq_true_eq]at h;omega
 have a:∀i:Nat,(hi:i<ps.length)->ps[i]=Lf ps (i:Int):=fun i hi=>by
  have:=Qs hi;rw[gE hi]at this;exact Option.some.inj this
 refine⟨?_,l,fun u v n c m o hv=>?_⟩
 ·rw[List.nodup_iff_pairwise_ne,List.pairwise_iff_getElem];intro i j hi k f e;have b:=(Xw h hi).1;rcases TE h hi k oM with d|d|d
  ·rw[<-d,<-e,a i hi]at b;unfold Ie at b;simp at b
  ·rw[<-d,<-e,a i hi]at b;unfold Ie at b;simp at b
  ·rw[<-e,a i hi]at d;have:Ie (Lf ps (i:Int)) (Lf ps ((i:Int)+1)) (Lf ps (i:Int))=0:=by unfold Ie;grind
   omega
 ·obtain⟨i,hi,rfl,rfl⟩:∃i:Nat,i<ps.length/\u=Lf ps (i:Int)/\v=Lf ps ((i:Int)+1):=by
   rcases n with ⟨A,B,e⟩|⟨M,e⟩
   ·(have g:A.length<ps.length:=by rw[e];simp);(have r:A.length+1<ps.length:=by rw[e];simp);refine⟨A.length,g,?_,?_⟩
    ·rw[<-a _ g];simp[e]
    ·have:=a _ r;rw[show ((A.length+1:Nat):Int)=(A.length:Int)+1 by omega]at this;rw[<-this];simp[e]
   ·have q:0<ps.length:=oM;(have g:M.length+1<ps.length:=by rw[e];simp);(have s:ps.length=M.length+2:=by rw[e];simp);refine⟨M.length+1,g,?_,?_⟩
    ·rw[<-a _ g];simp[e]
    ·rw[show ((M.length+1:Nat):Int)+1=0+ps.length by omega,Sx];have:=a 0 q;rw[show ((0:Nat):Int)=0 from rfl]at this;rw[<-this];simp[e]
  obtain⟨j,k,rfl⟩:=List.mem_iff_getElem.1 m;have f:i≠j:=by rintro rfl;exact o (a i hi)
  rcases TE h hi k f with d|d|d
  ·exact absurd d hv
  ·rw[d,lJ];exact(Xw h hi).1
  ·exact d
def SS{ps}(h:Yf ps):Yf (Qc ps):=by
 unfold Qc;refine Yf.map ?_ _ ?_ ?_
 ·have:=Yf.rot (P:=ps.take (Bg ps)) (Q:=ps.drop (Bg ps)) (by rw[List.take_append_drop];exact h);exact this
 ·intro u v c;unfold Ie;dsimp only;grind
 ·intro x y e;simp only[Prod.mk.injEq]at e;exact Prod.ext oM oM
def ND way u v c:Ie (Sc way u) (Sc way v) (Sc way c)=if 3<way then Ie v u c else Ie u v c:=by unfold Sc Ie;dsimp only;split<;>(split<;>first|grind|(split<;>first|grind|(split<;>grind)))
def OD way x y(h:Sc way x=Sc way y):x=y:=by unfold Sc at h;dsimp only at h;obtain⟨a,b⟩:=x;obtain⟨c,d⟩:=y;split at h<;>(split at h<;>first|(simp only[Prod.mk.injEq]at h ⊢;omega)|(split at h<;>first|(simp only[Prod.mk.injEq]at h ⊢;omega)|(split at h<;>(simp only[Prod.mk.injEq]at h ⊢;omega))))
def WR{way ps}(h:Yf ps):Yf (kc way ps):=by
 unfold kc;refine SS ?_;by_cases a:3<way
 ·rw[if_pos a];exact h.flip _ (fun u v c=>by rw[ND,if_pos a]) (OD way)
 ·rw[if_neg a];exact h.map _ (fun u v c=>by rw[ND,if_neg a]) (OD way)
def Gt{p}(h:Fa p=true):Yf (Ca p):=by
 have a:Va p.shape=true:=by
  cases hcc:Va p.shape with
  | true=>rfl
  |false=>
   unfold Fa pd at h;rw[ow hcc]at h;simp at h
 unfold Ca;refine(WR (qS a)).map _ ?_ ?_
 ·intro u v c;unfold Ie;dsimp only;grind
 ·intro x y e;simp only[Prod.mk.injEq]at e;exact Prod.ext oM oM
end
section
open Go.RowKit Go.Shelf Go.Lib
def Li(s:ByteArray)(i:Nat):Nat:=(s.get! i).toNat
def nS n a b c d(h:¬a<128):128<=(decodeN n a b c d).1:=by
 unfold decodeN;rw[if_neg h]
 repeat' split
 all_goals(simp only;omega)
def XB{r:Nat}(h:128<=r):pf (r:Int)=true:=by unfold pf;rw[decide_eq_false (show ¬(r:Int)<=122 by omega),decide_eq_false (show ¬(r:Int)<=57 by omega)];simp
def zC s:∀f pos,s.size<=pos+f->(idxFuncFrom (fun r:Nat=>pf r) true s f pos = -1 ↔ ∀i,pos<=i->i<s.size->pf (Li s i)=false)
 | 0,pos,h=>⟨fun _ i d b=>absurd b (by omega),fun _=>rfl⟩
 | f+1,pos,h=>by
  unfold idxFuncFrom;by_cases c:pos<s.size
  ·rw[if_pos c,decode_at];have k:=zC s f (pos+1) oM;by_cases g:Li s pos<128
   ·have e:decodeN (s.size-pos) (s.get! pos).toNat (s.get! (pos+1)).toNat (s.get! (pos+2)).toNat (s.get! (pos+3)).toNat=(Li s pos,1):=by
     unfold decodeN;exact if_pos g
    rw[e];dsimp only;cases ho:pf (Li s pos:Int)with
    |true=>
     rw[if_pos rfl];constructor
     ·intro a;omega
     ·intro a;have:=a pos (nE _) c;rw[ho]at this;cases this
    |false=>
     rw[if_neg sM,k];constructor
     ·intro a i d b;by_cases e:i=pos
      ·subst e;exact ho
      ·exact a i oM b
     ·intro a i d b;exact a i oM b
   ·have j:=nS (s.size-pos) (s.get! pos).toNat (s.get! (pos+1)).toNat (s.get! (pos+2)).toNat (s.get! (pos+3)).toNat g;rw[if_pos (XB j)];constructor
    ·intro a;omega
    ·intro a;have:=a pos (nE _) c;rw[XB oM]at this;cases this
  ·rw[if_neg c];exact⟨fun _ i d b=>absurd b oM,fun _=>rfl⟩
def Gk(s:ByteArray):Bool:=(List.range s.size).all (fun i=>!pf (Li s i))&&Ra s.size 1 16
def JI s:Gk s=Ee s:=by
 unfold Gk Ee;rw[Bool.and_comm]
 congr 1
 have h:=zC s s.size 0 oM;have c:=idxFunc_range (fun r:Nat=>pf r) true s;unfold idxFunc at c ⊢;rw[Bool.eq_iff_iff,List.all_eq_true,Bool.not_eq_true',decide_eq_false_iff_not];constructor
 ·intro b;have:=h.2 (fun i _ a=>by simpa using b i (List.mem_range.2 a));omega
 ·intro b i a;have:=(h.1 oM) i (Nat.zero_le _) (List.mem_range.1 a);simp[this]
end
section
open Go.RowKit Go.Shelf
def li(cs:LP):Prop:=∃c,∀q∈cs,q.1=c
def Mp(cs:LP):Prop:=∃c,∀q∈cs,q.2=c
def jT{ps}(h:Va ps=true):¬li ps/\¬Mp ps:=by
 have f:=Pz h;unfold Va at h;rw[Bool.and_eq_true,List.all_eq_true]at h;have d:=h.2 0 (List.mem_range.2 oM);unfold Bh Jj at d;rw[Bool.and_eq_true,decide_eq_true_eq]at d;have b:=d.1;have mem:∀i:Int,Lf ps i∈ps:=fun i=>by
  obtain⟨j,_,_,e⟩:=Rx (ps:=ps) (i:=i) oM;exact lM e
 refine⟨fun⟨c,a⟩=>?_,fun⟨c,a⟩=>?_⟩
 ·unfold Ie at b;rw[a _ (mem _),a _ (mem _),a _ (mem _)]at b;simp at b
 ·unfold Ie at b;rw[a _ (mem _),a _ (mem _),a _ (mem _)]at b;simp at b
def LL{way ps}(h:li (ps.map (Sc way))):li ps\/Mp ps:=by
 obtain⟨c,g⟩:=h;have a:∀q∈ps,(Sc way q).1=c:=fun q a=>g _ (List.mem_map.2 ⟨q,a,rfl⟩);unfold Sc at a;dsimp only at a;by_cases f:3<way
 ·simp only[if_pos f]at a;by_cases b:way%4=0
  ·simp only[if_pos b]at a;exact .inl ⟨-c,fun q h=>by have:=a q h;omega⟩
  ·simp only[if_neg b]at a;by_cases d:way%4=1
   ·simp only[if_pos d]at a;exact .inr ⟨-c,fun q h=>by have:=a q h;omega⟩
   ·simp only[if_neg d]at a;by_cases e:way%4=2
    ·simp only[if_pos e]at a;exact .inl ⟨c,fun q h=>by have:=a q h;omega⟩
    ·simp only[if_neg e]at a;exact .inr ⟨c,fun q h=>by have:=a q h;omega⟩
 ·simp only[if_neg f]at a;by_cases b:way%4=0
  ·simp only[if_pos b]at a;exact .inl ⟨c,fun q h=>by have:=a q h;omega⟩
  ·simp only[if_neg b]at a;by_cases d:way%4=1
   ·simp only[if_pos d]at a;exact .inr ⟨-c,fun q h=>by have:=a q h;omega⟩
   ·simp only[if_neg d]at a;by_cases e:way%4=2
    ·simp only[if_pos e]at a;exact .inl ⟨-c,fun q h=>by have:=a q h;omega⟩
    ·simp only[if_neg e]at a;exact .inr ⟨c,fun q h=>by have:=a q h;omega⟩
def qT{ps}(h:li (Qc ps)):li ps:=by
 obtain⟨c,b⟩:=h;refine⟨c+(Ta ps).1,fun q a=>?_⟩;have d:q∈ps.drop (Bg ps)++ps.take (Bg ps):=by
  rw[<-List.take_append_drop (Bg ps) ps]at a;rcases List.mem_append.1 a with h|h
  ·exact List.mem_append_right _ h
  ·exact List.mem_append_left _ h
 have:=b _ (List.mem_map.2 ⟨q,d,rfl⟩);dsimp only at this;omega
def DG{p}(h:Fa p=true):¬li (Ca p):=by
 intro ⟨c,b⟩;have f:=(Tz h).1;have d:Va p.shape=true:=by
  unfold pd at f;simp only[Bool.and_eq_true]at f;cases hcc:Va p.shape
  ·have:=f.1.1.1.2;rw[ow hcc]at this;cases this
  ·rfl
 obtain⟨j,k⟩:=jT d;have g:li (kc p.way p.shape):=⟨c-p.ax,fun q e=>by
  have:=b _ (List.mem_map.2 ⟨q,e,rfl⟩);dsimp only at this;omega⟩
 unfold kc at g;have a:=qT g;have i:li (p.shape.map (Sc p.way)):=by
  split at a
  ·obtain⟨c,b⟩:=a;exact⟨c,fun q e=>b q (List.mem_reverse.2 e)⟩
  ·exact a
 rcases LL i with h|h
 ·exact j h
 ·exact k h
def FB{xs:List Int}{n}(l:xs.length=n)(h:∀i,i<n->xs.getD ((i+1)%n) 0<=xs.getD i 0):∀x∈xs,x=xs.getD 0 0:=by
 have a:∀i,i<n->xs.getD i 0<=xs.getD 0 0:=by
  intro i;induction i with
  | zero=>intro _;exact Int.le_refl _
  | succ i f =>
   intro b;have g:=f oM;have c:=h i oM;rw[Nat.mod_eq_of_lt b]at c;omega
 have up:∀k i,i+k=n-1->i<n->xs.getD (n-1) 0<=xs.getD i 0:=by
  intro k;induction k with
  | zero=>intro i b l;rw[show i=n-1 by omega];exact Int.le_refl _
  | succ k f =>
   intro i b d;have g:=f (i+1) oM oM;have c:=h i d;rw[Nat.mod_eq_of_lt oM]at c;omega
 intro x m;obtain⟨i,b,rfl⟩:=List.mem_iff_getElem.1 m;have e:xs.getD i 0=xs[i]:=by rw[gD,gE b];rfl
 have g:=a i oM;have c:=up (n-1-i) i oM oM;have j:=h (n-1) oM;rw[show n-1+1=n by omega,Nat.mod_self]at j;omega
def GD(cs:LP) i:(cs.map (·.1)).getD i 0=(cs.getD i (0,0)).1:=by rw[gD,gD,lP];cases cs[i]?<;>rfl
def gC{p}(h:Fa p=true):Kc (Ca p) (Ca p).length≠[]:=by
 intro e;apply DG h;have d:∀i,i<(Ca p).length->¬((Ca p).getD i (0,0)).1<((Ca p).getD ((i+1)%(Ca p).length) (0,0)).1:=by
  intro i a b;unfold Kc at e;rw[List.flatMap_eq_nil_iff]at e;have:=e i (List.mem_range.2 a);unfold ye at this;rw[if_pos b]at this;cases this
 refine⟨_,fun q c=>FB (xs:=(Ca p).map (·.1)) (n:=(Ca p).length) sM (fun i a=>?_) q.1 (List.mem_map.2 ⟨q,c,rfl⟩)⟩;rw[GD,GD];have:=d i a;omega
def WA{p}(h:Fa p=true):Pd (Ca p) (Ca p).length≠[]:=by
 intro e;apply DG h;have f:∀i,i<(Ca p).length->¬((Ca p).getD ((i+1)%(Ca p).length) (0,0)).1<((Ca p).getD i (0,0)).1:=by
  intro i a b;unfold Pd at e;rw[List.flatMap_eq_nil_iff]at e;have:=e i (List.mem_range.2 a);unfold Jf at this;rw[if_pos b]at this;cases this
 refine⟨-(((Ca p).map (fun q=>-q.1)).getD 0 0),fun q d=>?_⟩;have c:∀i,((Ca p).map (fun q=>-q.1)).getD i 0 = -((Ca p).getD i (0,0)).1:=fun i=>by
  rw[gD,gD,lP];cases (Ca p)[i]?<;>rfl
 have:=FB (xs:=(Ca p).map (fun q=>-q.1)) (n:=(Ca p).length) sM (fun i a=>by rw[c,c];have:=f i a;omega) (-q.1) (List.mem_map.2 ⟨q,d,rfl⟩);omega
def ZS w p v(h:Ia w v p.shape)(a:Fa p=true)(b:Gw w):Calls Tryz.prog 113 #[H (Dd p v)] w (Pq w p v):=
 tT w p v h a b (gC a) (WA a)
def Lt{α}[DecidableEq α]:∀{c}{x:α},x∈Na c->x∈c
 | [],_,h=>h
 | [a],_,h=>h
 | a::b::r,x,h=>by
  rw[Na]at h;split at h
  ·exact mC _ (Lt h)
  ·rcases List.mem_cons.1 h with rfl|h
   ·simp
   ·exact mC _ (Lt h)
def xG{α}[DecidableEq α]:∀{c:List α},c≠[]->Na c≠[]
 | [],h=>absurd rfl h
 | [a],_=>by simp[Na]
 | a::b::r,_=>by
  rw[Na];split
  ·exact xG (by simp)
  ·simp
def EG{α}[DecidableEq α]:∀(c:List α),(Na c).length<=c.length
 | []=>by simp[Na]
 | [a]=>by simp[Na]
 | a::b::r=>by
  rw[Na];have:=EG (b::r);split
  ·simp at this ⊢;omega
  ·simp at this ⊢;omega
def zE{k}{a:LP}(h:a≠[])(c:qg k a)(f:a.length<=24):Lc a≠[]/\qg k (Lc a)/\(Lc a).length<=24:=by
 unfold Lc;have b:=oq a;refine⟨xG (fun e=>h ?_),fun q d=>c q (b.mem_iff.1 (Lt d)),?_⟩
 ·rw[e]at b;exact b.symm.eq_nil
 ·have:=EG (Df a);rw[b.length_eq]at this;omega
def ke(l:LP):Prop:=l≠[]/\qg 104000 l/\l.length<=64
def Dl{p}(h:Fa p=true):ke (Ga p)/\ke (Mb p):=by obtain⟨d,e,Wi⟩:=oo h;have c:=Cs d (nE _);have f:=qC (Ca p) (Ca p).length;have a:=zE (gC h) c.1 oM;have b:=zE (WA h) c.2 oM;exact⟨⟨a.1,a.2.1,nT a.2.2 oM⟩,⟨b.1,b.2.1,nT b.2.2 oM⟩⟩
def Kp(w:C)(p:Pl)(e:Ending)(w':C):Prop:=(Fa p=false/\e=.returned (.tuple #[I N 0 0,O V 2])/\Ba w w')\/(Fa p=true/\∃v,e=.returned (.tuple #[v,O V 0])/\Ia w' v (Ca p)/\Ba w w')
def zT w p v(h:Ia w v p.shape)(hk:0<=p.skin)(hg:Gw w):Calls Tryz.prog 84 #[H (Dd p v)] w (Kp w p):=by
 obtain⟨a,c,rfl⟩:=h.form;obtain⟨n,y⟩:=gX p.shape.length;have f:=fun W (m:Ba w W)=>RF W p _ (h.f m) hk;have g:=fun W (m:Ba w W) (b:Fa p=true)=>IG W p _ (h.f m) b (hg.ext m);rw[y]at f g ⊢;obtain⟨R,s⟩:=gX (Kp w p);rw[s];have x:=za s;clear s h y;cases b:Fa p
 ·rw[b]at f;have j:=za f;have k:=za b;clear f g b;obtain⟨nm,ps,d,de,gx,gz,wy,z,K,sk⟩:=p;unfold Dd at *;dsimp only at *;go_in;go_wp2_with(((go_at_call 112;refine cM (j.o _ eA) ?_;rintro e w1 ⟨rfl,l⟩;obtain⟨⟨t,u⟩,q⟩:=Jd w l)));rw[<-x.o];exact .inl ⟨k.o,rfl,eA⟩
 ·rw[b]at f;have i:=fun W m=>g W m b;have j:=za f;have r:=za i;have k:=za b;clear f g i b;obtain⟨nm,ps,d,de,gx,gz,wy,z,K,sk⟩:=p;unfold Dd at *;dsimp only at *;go_in;go_wp2_with(first|((go_at_call 112;refine cM (j.o _ eA) ?_;rintro e w1 ⟨rfl,l⟩;obtain⟨⟨t,u⟩,q⟩:=Jd w l))|((go_at_call 117;refine cM (r.o _ eA) ?_;rintro e w2 ⟨v2,rfl,o,aa⟩;obtain⟨a2,n2,c2,rfl⟩:=o.i)));rw[<-x.o];exact .inr ⟨k.o,_,rfl,o.pts,eA⟩
