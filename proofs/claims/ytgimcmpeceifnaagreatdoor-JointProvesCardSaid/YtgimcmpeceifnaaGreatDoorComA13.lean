import Derived.Test.YtgimcmpeceifnaaGreatDoorComA09
import Derived.Test.YtgimcmpeceifnaaGreatDoorComA12
set_option maxRecDepth 1000000
set_option maxHeartbeats 16000000
set_option linter.all false
open Go.Value renaming int->O,slice->Y,pointer->M
open Go.IntKind renaming i64->Z
open Option renaming none->X,some->V
open Go.Obj renaming cells->I
open Go renaming Value->N,World->C,Addr->F
namespace Go.Proofs.YtgimcmpeceifnaaGreatDoor.Cop
section
open Go.RowKit Go.Shelf Go.Sort
attribute [local go_sem] Oper.semAt_some
def NO Q(w w6 W0:C) sb ba sk x f s step y b ga gn gc pa pn ax bk o wn wc ks ps b2 b3 bl bm bn pre af ag dA ab ac ae ah L R n kA ai d l g aU aW aV(bf:Ge w6 (Y (V ⟨bk,o,X⟩) wn wc) ks)(ck:wn<=120)(bx:∀j∈ks,∃w',Ia w' j.2 j.1.p.shape)(bw:∀j∈ks,j.1∈Se ps)(bE:∀p∈ps,Fa p=true)(bC:⟨⟨af,ag,dA,ab,ac,ae,ah,L,R,n⟩,kA,(ai,d),l,g⟩∈Se ps)(bt:w6.heap[sb]?=V (I (nj ⟨sk,x,f,s,step,y,b⟩ (Y ga gn gc) (Y pa pn ax) (Y (V ⟨bk,o,X⟩) wn wc) b2 b3) 89 (0,0)))(bj:w6.heap[sb+1]?=V (I #[M (V ⟨sb,0,X⟩)] 84 (0,0)))(a7:w6.heap[w.heap.size+1]?=V (I #[O .u8 sk,O Z x,O Z f,O Z s,O Z step,O Z y,O Z b] 32 (0,0)))(cu:w.heap.size+1<sb)(cs:w6.heap.size<=ba)(a6:pre.length<=14400) a0(bu:JA (w.heap.size+1) sb ba bl bm bn (V ⟨bk,o,X⟩) wn wc a0)(h0:Fw w6 sb ⟨sk,x,f,s,step,y,b⟩ (Y ga gn gc) (Y pa pn ax) (Y (V ⟨bk,o,X⟩) wn wc) ks pre (⟨⟨af,ag,dA,ab,ac,ae,ah,L,R,n⟩,kA,(ai,d),l,g⟩,Y aU aW aV) ba wn (a0.tmps.getD 78 undef) W0)(hQ:∀a W vj,JA (w.heap.size+1) sb ba bl bm bn (V ⟨bk,o,X⟩) wn wc a->w6.grownBy W (V sb)->W.heap[sb]?=V (I (nj ⟨sk,x,f,s,step,y,b⟩ (Y ga gn gc) (Y pa pn ax) (Y (V ⟨bk,o,X⟩) wn wc) vj (Y X 0 0)) 89 (0,0)) ->Ea 82 6 W w6.heap.size vj ((pre++xg ⟨sk,x,f,s,step,y,b⟩ (ks.map Prod.fst) ⟨⟨af,ag,dA,ab,ac,ae,ah,L,R,n⟩,kA,(ai,d),l,g⟩).map Vg)->Q (.exit 4) a W):(Code.loop (Tb Tryz.f38 2)).wpIn Fence.wide 5 Tryz.prog Q a0 W0:=by
 have b4:=Ya bj;have b5:w.heap.size+1<w6.heap.size:=oM;have am:=za bf.len.symm;have bK:=za bf;have bM:=za (fun j hj=>bx j hj);have bL:=za (fun j hj=>bw j hj);have bo:=za bE;have bN:=za bC;have bJ:=za bt;have bO:=za bj;have bq:=za a7;have bp:=za a6;have HQ:=za hQ;clear bf bx bw bE bC bt bj a7 a6 hQ;unfold Tb;simp only[Tryz.f38,Jb,List.cons_append,List.nil_append,List.append_nil,List.getD_cons_succ,List.getD_cons_zero];refine wpIn_loop_ghost_k (fun gk a W=>Fw w6 sb ⟨sk,x,f,s,step,y,b⟩ (Y ga gn gc) (Y pa pn ax) (Y (V ⟨bk,o,X⟩) wn wc) ks pre (⟨⟨af,ag,dA,ab,ac,ae,ah,L,R,n⟩,kA,(ai,d),l,g⟩,Y aU aW aV) ba gk (a.tmps.getD 78 undef) W/\JA (w.heap.size+1) sb ba bl bm bn (V ⟨bk,o,X⟩) wn wc a) wn ⟨h0,bu⟩ ?round
 case round =>
  clear h0 bu;intro gk aa wr hinv;obtain⟨tt,dd⟩:=aa;obtain⟨⟨j,cr,hj,a4,rfl,ao,ar,an,al⟩,f1,f3,f8,aX,aY,aZ,a1,a2,a3,fd⟩:=hinv;dsimp only at f1 f3 f8 aX aY aZ a1 a2 a3 fd a4;subst fd;obtain⟨u,hu,ht⟩:=Qf tt 196 f1;simp only[hu]at f3 f8 aX aY aZ a1 a2 a3 a4;clear hu;subst ht;simp only[List.range,List.range.loop,List.map_cons,List.map_nil,f3,f8,aX,aY,aZ,a1,a2,a3,a4];clear f1 f3 f8 aX aY aZ a1 a2 a3 a4;intro J K hJ hK;obtain⟨qa,qn,qc,rfl⟩:=al.i;rw[am.o]at hj;have aR:=ao.size;have bi:=(ao.block (sb+1) b4 sM).trans bO.o;have aQ:=(ao.block (w.heap.size+1) b5 (by simp;omega)).trans bq.o;have b1:=Aa bi 0 (M (V ⟨sb,0,X⟩));have cv:sb+1<wr.heap.size:=oM;have cx:sb<wr.heap.size:=oM;have cy:w.heap.size+1<wr.heap.size:=oM;have cz:=Ya an;have cB:sb+1<wr.heap.size+1:=oM;have cC:sb<wr.heap.size+1:=oM;have cD:w.heap.size+1<wr.heap.size+1:=oM;have cF:ba<wr.heap.size+1:=oM;by_cases bz:j<wn
  ·obtain⟨⟨⟨⟨aF,aS,dB,aA,aB,aC,aG,ay,az,aq⟩,kB,⟨r,aH⟩,ak,aj⟩,vB⟩,aK⟩:∃q,ks[j]?=V q:=⟨ks[j]'(by rw[am.o];omega),by simp[am.o,bz]⟩;obtain⟨bG,bI,bH,bF⟩:=(bM.o _ (lM aK)).elim fun _ h=>Ma h;dsimp only at bF;subst bF;have bg:=bK.o.keep (Jm ao bJ.o dM);obtain⟨cm,o',e0,cn,hc⟩:=bg.at' aK;cases e0;unfold Ah at hc;dsimp only at hc;have bs:=hc 0 (.string aF) rfl;have ca:=hc 1 (Y bG bI bH) rfl;have cb:=hc 2 (O Z dB) rfl;have cc:=hc 3 (O Z aA) rfl;have cd:=hc 4 (O Z aB) rfl;have ce:=hc 5 (O Z aC) rfl;have cf:=hc 6 (O Z aG) rfl;have cg:=hc 7 (O Z ay) rfl;have ch:=hc 8 (O Z az) rfl;have ci:=hc 9 (O .u8 aq) rfl;have bV:=hc 10 (O Z kB) rfl;have bW:=hc 11 (O Z r) rfl;have bX:=hc 12 (O Z aH) rfl;have bY:=hc 13 (O Z ak) rfl;have bZ:=hc 14 (O Z aj) rfl;simp only[Nat.add_zero]at bs;have bD:=bL.o _ (lM aK);have bA:=Qp bo.o bN.o;have bB:=Qp bo.o bD;dsimp only[Bd]at bA bB;have d1:-9223372036854775808<=r-d:=oM;have d2:r-d<=9223372036854775807:=oM;have HF:=za (fun(W':C)(aT:N)(ht:aT=O Z ((j+1:Nat):Int))(hE:Ba wr W')(hf:Gd ⟨sk,x,f,s,step,y,b⟩ (ks.map Prod.fst) ⟨⟨af,ag,dA,ab,ac,ae,ah,L,R,n⟩,kA,(ai,d),l,g⟩ ⟨⟨aF,aS,dB,aA,aB,aC,aG,ay,az,aq⟩,kB,(r,aH),ak,aj⟩=false) =>
    (show Fw w6 sb ⟨sk,x,f,s,step,y,b⟩ (Y ga gn gc) (Y pa pn ax) (Y (V ⟨bk,o,X⟩) wn wc) ks pre (⟨⟨af,ag,dA,ab,ac,ae,ah,L,R,n⟩,kA,(ai,d),l,g⟩,Y aU aW aV) ba (wn-(j+1)) aT W'
    from⟨j+1,Y qa qn qc,by have:=am.o;omega,ht,by rw[am.o],Ck ao (Below.mono hE aR),hE.e ar,hE.e an,by
     have e:((ks.take (j+1)).map Prod.fst).filter (Gd ⟨sk,x,f,s,step,y,b⟩ (ks.map Prod.fst) ⟨⟨af,ag,dA,ab,ac,ae,ah,L,R,n⟩,kA,(ai,d),l,g⟩)=((ks.take j).map Prod.fst).filter (Gd ⟨sk,x,f,s,step,y,b⟩ (ks.map Prod.fst) ⟨⟨af,ag,dA,ab,ac,ae,ah,L,R,n⟩,kA,(ai,d),l,g⟩):=by
      rw[ze _ _ _ aK,List.map_append,List.filter_append];simp[hf]
     dsimp only;rw[e];exact al.ext hE⟩))
   have HT:=za (fun(W':C)(aT v':N)(ht:aT=O Z ((j+1:Nat):Int))(hf:Gd ⟨sk,x,f,s,step,y,b⟩ (ks.map Prod.fst) ⟨⟨af,ag,dA,ab,ac,ae,ah,L,R,n⟩,kA,(ai,d),l,g⟩ ⟨⟨aF,aS,dB,aA,aB,aC,aG,ay,az,aq⟩,kB,(r,aH),ak,aj⟩=true)
    (q1:w6.grownBy W' (V sb)) (q2:W'.heap[sb]?=V (I (nj ⟨sk,x,f,s,step,y,b⟩ (Y ga gn gc) (Y pa pn ax) (Y (V ⟨bk,o,X⟩) wn wc) v' (Y X 0 0)) 89 (0,0))) (q3:W'.heap[ba]?=V (I (Ah (⟨⟨af,ag,dA,ab,ac,ae,ah,L,R,n⟩,kA,(ai,d),l,g⟩,Y aU aW aV)) 113 (0,0)))
    (h:Ea 82 6 W' w6.heap.size v' (((pre++(((ks.take j).map Prod.fst).filter (Gd ⟨sk,x,f,s,step,y,b⟩ (ks.map Prod.fst) ⟨⟨af,ag,dA,ab,ac,ae,ah,L,R,n⟩,kA,(ai,d),l,g⟩)).map (qe ⟨⟨af,ag,dA,ab,ac,ae,ah,L,R,n⟩,kA,(ai,d),l,g⟩)).map Vg)++[(#[O Z kA,O Z kB,O Z d,O Z r,O Z (max l ak),O Z (min g aj)]:Array N).toList])) =>
    (show Fw w6 sb ⟨sk,x,f,s,step,y,b⟩ (Y ga gn gc) (Y pa pn ax) (Y (V ⟨bk,o,X⟩) wn wc) ks pre (⟨⟨af,ag,dA,ab,ac,ae,ah,L,R,n⟩,kA,(ai,d),l,g⟩,Y aU aW aV) ba (wn-(j+1)) aT W'
    from⟨j+1,v',by have:=am.o;omega,ht,by rw[am.o],q1,q2,q3,by
     have e:((ks.take (j+1)).map Prod.fst).filter (Gd ⟨sk,x,f,s,step,y,b⟩ (ks.map Prod.fst) ⟨⟨af,ag,dA,ab,ac,ae,ah,L,R,n⟩,kA,(ai,d),l,g⟩)=((ks.take j).map Prod.fst).filter (Gd ⟨sk,x,f,s,step,y,b⟩ (ks.map Prod.fst) ⟨⟨af,ag,dA,ab,ac,ae,ah,L,R,n⟩,kA,(ai,d),l,g⟩)++[⟨⟨aF,aS,dB,aA,aB,aC,aG,ay,az,aq⟩,kB,(r,aH),ak,aj⟩]:=by
      rw[ze _ _ _ aK,List.map_append,List.filter_append];simp[hf]
     dsimp only;rw[e];simp only[List.map_append,<-List.append_assoc,List.map_cons,List.map_nil]at h ⊢;exact h⟩))
   have bh:Gd ⟨sk,x,f,s,step,y,b⟩ (ks.map Prod.fst) ⟨⟨af,ag,dA,ab,ac,ae,ah,L,R,n⟩,kA,(ai,d),l,g⟩ ⟨⟨aF,aS,dB,aA,aB,aC,aG,ay,az,aq⟩,kB,(r,aH),ak,aj⟩=((kA != kB)&&(decide (d<=r)&&(decide (r-d<=f)&&(decide (max l ak<min g aj)&&!Vd (ks.map Prod.fst) ⟨kA,kB,d,r,max l ak,min g aj⟩)))):=rfl;have au:=za (fun(W:C)(hE:Ba wr W)=>oR W sb ⟨sk,x,f,s,step,y,b⟩ (Y ga gn gc) (Y pa pn ax) (Y (V ⟨bk,o,X⟩) wn wc) (Y qa qn qc) (Y X 0 0) ks ⟨kA,kB,d,r,max l ak,min g aj⟩ (hE.e ar) (bg.f hE));obtain⟨fb,bv⟩:=gX (Vd (ks.map Prod.fst) ⟨kA,kB,d,r,max l ak,min g aj⟩);rw[bv]at au bh;unfold yh at au;dsimp only at au;have b6:=Aa an 10 (O Z kA);have b7:=Aa an 12 (O Z d);have b8:=Aa an 13 (O Z l);have b9:=Aa an 14 (O Z g);have cp:=Aa aQ 2 (O Z f);have aJ:=za bh;have aM:=za ao;have aI:=za ar;have a5:=za an;have ap:=za al;clear hc aK bg ao ar an al bh bv bD bA bB bi aQ;by_cases c1:kA=kB
   ·(have br:(kA != kB)=false:=by simp[c1]);have C1:=za c1;clear c1
    gi_wp2_with(first|(refine⟨trivial,?_⟩;gi_at_call 75;(refine(callsIn_wide.2 (au.o _ ?_)).mono ?_);exact eA;rintro e w7 ⟨rfl,aL⟩)|(refine⟨trivial,?_⟩))
    refine Handed.intro (wn-(j+1)) (by have:=am.o;omega) (hJ _ _ _ ⟨?rel,rfl,rfl,rfl,rfl,rfl,rfl,rfl,rfl,rfl,rfl⟩)
    case rel=>exact HF.o _ _ (by show (_:N)=_;go_num) eA (by rw[aJ.o,br,Bool.false_and])
   have br:(kA != kB)=true:=by simpa using c1
   by_cases c2:d<=r;rotate_left 1
   ·have bQ:¬d<=r:=c2
    gi_wp2_with(first|(refine⟨trivial,?_⟩;gi_at_call 75;(refine(callsIn_wide.2 (au.o _ ?_)).mono ?_);exact eA;rintro e w7 ⟨rfl,aL⟩)|(refine⟨trivial,?_⟩))
    refine Handed.intro (wn-(j+1)) (by have:=am.o;omega) (hJ _ _ _ ⟨?rel,rfl,rfl,rfl,rfl,rfl,rfl,rfl,rfl,rfl,rfl⟩)
    case rel=>exact HF.o _ _ (by show (_:N)=_;go_num) eA (by rw[aJ.o];simp only[decide_eq_false (Int.not_le.2 bQ),Bool.false_and,Bool.and_false])
   by_cases c3:r-d<=f;rotate_left 1
   ·have bT:¬r-d<=f:=c3
    gi_wp2_with(first|(refine⟨trivial,?_⟩;gi_at_call 75;(refine(callsIn_wide.2 (au.o _ ?_)).mono ?_);exact eA;rintro e w7 ⟨rfl,aL⟩)|(refine⟨trivial,?_⟩))
    refine Handed.intro (wn-(j+1)) (by have:=am.o;omega) (hJ _ _ _ ⟨?rel,rfl,rfl,rfl,rfl,rfl,rfl,rfl,rfl,rfl,rfl⟩)
    case rel=>exact HF.o _ _ (by show (_:N)=_;go_num) eA (by rw[aJ.o];simp only[decide_eq_false (Int.not_le.2 bT),Bool.false_and,Bool.and_false])
   by_cases c4:max l ak<min g aj;rotate_left 1
   ·have bU:¬max l ak<min g aj:=c4
    gi_wp2_with(first|(refine⟨trivial,?_⟩;gi_at_call 75;(refine(callsIn_wide.2 (au.o _ ?_)).mono ?_);exact eA;rintro e w7 ⟨rfl,aL⟩)|(refine⟨trivial,?_⟩))
    refine Handed.intro (wn-(j+1)) (by have:=am.o;omega) (hJ _ _ _ ⟨?rel,rfl,rfl,rfl,rfl,rfl,rfl,rfl,rfl,rfl,rfl⟩)
    case rel=>exact HF.o _ _ (by show (_:N)=_;go_num) eA (by rw[aJ.o];simp only[decide_eq_false (Int.not_lt.2 bU),Bool.false_and,Bool.and_false])
   cases fb with
   |true=>
    gi_wp2_with(first|(refine⟨trivial,?_⟩;gi_at_call 75;(refine(callsIn_wide.2 (au.o _ ?_)).mono ?_);exact eA;rintro e w7 ⟨rfl,aL⟩)|(refine⟨trivial,?_⟩))
    refine Handed.intro (wn-(j+1)) (by have:=am.o;omega) (hJ _ _ _ ⟨?rel,rfl,rfl,rfl,rfl,rfl,rfl,rfl,rfl,rfl,rfl⟩)
    case rel=>exact HF.o _ _ (by show (_:N)=_;go_num) eA (by rw[aJ.o];simp only[Bool.not_true,Bool.and_false])
   |false=>
    (have aP:Gd ⟨sk,x,f,s,step,y,b⟩ (ks.map Prod.fst) ⟨⟨af,ag,dA,ab,ac,ae,ah,L,R,n⟩,kA,(ai,d),l,g⟩ ⟨⟨aF,aS,dB,aA,aB,aC,aG,ay,az,aq⟩,kB,(r,aH),ak,aj⟩=true:=by rw[aJ.o,decide_eq_true c4];simp[c1,c2,c3]);have bb:=za aP;clear aP;have aO:=za (fun j (h:(Value.slice qa qn qc).ownBlock=V j)=>ap.o.lt j h);have bP:=za (show (((pre++(((ks.take j).map Prod.fst).filter (Gd ⟨sk,x,f,s,step,y,b⟩ (ks.map Prod.fst) ⟨⟨af,ag,dA,ab,ac,ae,ah,L,R,n⟩,kA,(ai,d),l,g⟩)).map (qe ⟨⟨af,ag,dA,ab,ac,ae,ah,L,R,n⟩,kA,(ai,d),l,g⟩)).map Vg)).length<=1000000 by
     have l2:=List.length_filter_le (Gd ⟨sk,x,f,s,step,y,b⟩ (ks.map Prod.fst) ⟨⟨af,ag,dA,ab,ac,ae,ah,L,R,n⟩,kA,(ai,d),l,g⟩) ((ks.take j).map Prod.fst);rw[lL,List.length_take]at l2;rw[lL,lA,lL];have:=bp.o;omega)
    gi_wp2_with(refine⟨trivial,?_⟩;gi_at_call 75;(refine(callsIn_wide.2 (au.o _ ?_)).mono ?_);exact eA;rintro e w7 ⟨rfl,aL⟩)
    have bc:Ba wr w7:=eA;have aD:=aL.e (Up wr (I #[.string aF,Y bG bI bH,O Z dB,O Z aA,O Z aB,O Z aC,O Z aG,O Z ay,O Z az,O .u8 aq,O Z kB,O Z r,O Z aH,O Z ak,O Z aj] 113) (I #[O Z kA,O Z kB,O Z d,O Z r,O Z (max l ak),O Z (min g aj)] 82));have j0:=Aa aD 0 (O Z kA);have j1:=Aa aD 1 (O Z kB);have j2:=Aa aD 2 (O Z d);have j3:=Aa aD 3 (O Z r);have j4:=Aa aD 4 (O Z (max l ak));have j5:=Aa aD 5 (O Z (min g aj));have ct:=Ya aD;have a8:=bc.e aI.o;have co:=bc.d b1;have cq:=Aa a8 10 (Y qa qn qc);have cl:=Ya a8;refine Qz (fun i=>decide (9<i)) (Da [(⟨sb+1,0,X⟩,M (V ⟨sb,0,X⟩)),(⟨sb,10,X⟩,Y qa qn qc),(⟨wr.heap.size+1,0,X⟩,O Z kA),(⟨wr.heap.size+1,1,X⟩,O Z kB),(⟨wr.heap.size+1,2,X⟩,O Z d),(⟨wr.heap.size+1,3,X⟩,O Z r),(⟨wr.heap.size+1,4,X⟩,O Z (max l ak)),(⟨wr.heap.size+1,5,X⟩,O Z (min g aj))]) kM ?_ (fun av=>?_)
    ·exact cA
    refine sN 0 ?_
    (iterate 6 refine uo ?_);refine oN ?_;refine Sj (i:=6) fun K hK=>?_;go_simp;refine kO hK (fun _=>cE av ((eR _).alloc _)) (fun av=>?_);clear hK K;have av:=av rfl;have hA:Ba wr ((w7.alloc (I #[O Z kA,O Z kB,O Z d,O Z r,O Z (max l ak),O Z (min g aj)] 82)).drew):=(bc.alloc _).drew;refine Sj (i:=7) fun K hK=>?_;refine Wy (T:=82) (t:=33) (z:=.agg #[O Z 0,O Z 0,O Z 0,O Z 0,O Z 0,O Z 0]) (k:=6) (bytes:=48) (v:=Y qa qn qc) (base:=w6.heap.size) UK rfl dM dM Tryz.underlying33 rfl _ _ rfl rfl (ap.o.ext hA) (ad:=⟨w7.heap.size,0,X⟩) (m:=1) (c:=1) rfl [(#[O Z kA,O Z kB,O Z d,O Z r,O Z (max l ak),O Z (min g aj)]:Array N).toList] rfl sM (by exact Mo w7 #[O Z kA,O Z kB,O Z d,O Z r,O Z (max l ak),O Z (min g aj)] 82) (by simp[Value.oneCell']) (by have:=bP.o;omega) (by have:=hA.size;omega) ?_;intro v' w9 aE aw cj;obtain⟨a9,n9,c9,rfl⟩:=aE.i;refine kO hK (fun _=>Da.grown av aw (fun q hq e=>?_)) (fun av=>?_)
    ·have h9:=aO.o _ e.symm;simp at hq;rcases hq with rfl|rfl|rfl|rfl|rfl|rfl|rfl|rfl<;>(dsimp only at h9;omega)
    clear hK K;have av:=av rfl;refine sN 8 ?_
    (iterate 2 refine uo ?_);refine oN ?_;have be:=Gh aw (hA.e aI.o) (fun e=>by have:=(aO.o _ e.symm).1;omega);have b0:=Gh aw (hA.e a5.o) (fun e=>(ap.o.ne_blk a5.o dM) e.symm);have n1:=Aa be 10 (Y qa qn qc);have nf:=Za be;refine Sj (i:=10) fun K hK=>?_;go_simp;refine kO hK (fun h=>nomatch h) (fun av=>?_);clear hK K;refine Yh kM ?_ _;unfold NQ
    gi_wp2
    refine Handed.intro (wn-(j+1)) (by have:=am.o;omega) (hJ _ _ _ ⟨?rel,rfl,rfl,rfl,rfl,rfl,rfl,rfl,rfl,rfl,rfl⟩)
    case rel =>
     refine HT.o _ _ (Y a9 n9 c9) (by show (_:N)=_;go_num) bb.o (Bk (Ck aM.o ((Below.mono hA aR).trans (Yg (base:=w6.heap.size) aw (nT aR hA.size) (fun k hk=>(aO.o k hk).1)))) 10 _) (Sk be 10 _) ?_ (aE.setOther (fun e=>by have:=(aE.lt _ e).1;dsimp only at this;omega) _);rw[bS _ _ _ _ dO];exact b0
  ·obtain rfl:wn=j:=oM;have e:ks.take wn=ks:=lT (by rw[am.o];exact nE _);rw[e]at al;have aM:=za ao;have aI:=za ar;have ap:=za al;clear e ao ar al an bi aQ
   gi_wp2
   exact HQ.o _ _ _ ⟨rfl,rfl,rfl,rfl,rfl,rfl,rfl,rfl,rfl,rfl⟩ aM.o aI.o ap.o
def MO Q w7 sb sk w d p step R b ga gn gc pa pn ay wa wn wc qa qn qc L(aF:Ye w7 (Y qa qn qc) L)(bu:qn<=14400)(aP:∀j∈L,Fh j)(aQ:w7.heap[sb]?=V (I (nj ⟨sk,w,d,p,step,R,b⟩ (Y ga gn gc) (Y pa pn ay) (Y wa wn wc) (Y qa qn qc) (Y X 0 0)) 89 (0,0)))(aH:w7.heap[sb+1]?=V (I #[M (V ⟨sb,0,X⟩)] 84 (0,0))) a0(be:a0.tmps.size=196/\a0.tmps.getD 8 undef=M (V ⟨sb+1,0,X⟩)/\a0.tmps.getD 162 undef=Y qa qn qc/\a0.tmps.getD 163 undef=O Z qn)(bh:a0.tmps.getD 164 undef=O Z (0:Nat))(bg:a0.defers=rj [])(hQ:∀a W vr Ds,(a.tmps.size=196/\a.tmps.getD 8 undef=M (V ⟨sb+1,0,X⟩))->a.defers=rj Ds->w7.grownBy W (V sb)->W.heap[sb]?=V (I (nj ⟨sk,w,d,p,step,R,b⟩ (Y ga gn gc) (Y pa pn ay) (Y wa wn wc) (Y qa qn qc) vr) 89 (0,0)) ->Ea 3 1 W w7.heap.size vr ((Wa ⟨sk,w,d,p,step,R,b⟩ L L.length).map ic)->Vb W Ds->(∀D∈Ds,w7.heap.size<=D)->Q (.exit 6) a W):(Code.loop (Tb Tryz.f38 3)).wpIn Fence.wide 5 Tryz.prog Q a0 w7:=by
 have bs:=Ya aH;have af:=za aF.len.symm;have a1:=za aF;have aZ:=za aP;have az:=za aQ;have a4:=za aH;have HQ:=za hQ;clear aF aP aQ aH hQ;unfold Tb;simp only[Tryz.f38,Jb,List.cons_append,List.nil_append,List.append_nil,List.getD_cons_succ,List.getD_cons_zero];refine wpIn_loop_ghost_k (QA w7 sb ⟨sk,w,d,p,step,R,b⟩ (Y ga gn gc) (Y pa pn ay) (Y wa wn wc) (Y qa qn qc) qa qn qc L) qn ?h0 ?round
 case h0=>exact⟨⟨0,_,[],by omega,bh,by rw[af.o];rfl,Mn _ _,az.o,by simpa[Wa] using Ea.nil _ _ _ _,bg,Vb.nil _,fun D hD=>by cases hD⟩,be⟩
 case round =>
  intro gk aa wr hinv;obtain⟨tt,dd⟩:=aa;obtain⟨⟨i,vr,Ds,hi,ak,rfl,ab,am,ac,aR,ax,av⟩,f1,f2,f3,f4⟩:=hinv;dsimp only at f1 f2 f3 f4 ak aR;subst aR;obtain⟨u,hu,ht⟩:=Qf tt 196 f1;simp only[hu]at f2 f3 f4 ak;clear hu;subst ht;simp only[List.range,List.range.loop,List.map_cons,List.map_nil,f2,f3,f4,ak];clear f1 f2 f3 f4 ak;intro J K hJ hK;rw[af.o]at hi;have aD:=ab.size;have aV:=(ab.block (sb+1) bs sM).trans a4.o;have aY:=Aa aV 0 (M (V ⟨sb,0,X⟩));have bC:sb+1<wr.heap.size:=oM;have bD:sb<wr.heap.size:=oM;have bE:sb+1<wr.heap.size+1:=oM;have bF:sb<wr.heap.size+1:=oM;have bG:sb+1<wr.heap.size+1+1:=oM;have bH:sb<wr.heap.size+1+1:=oM;obtain⟨ra,rn,rc,rfl⟩:=ac.i;by_cases aA:i<qn
  ·obtain⟨⟨ja,jb,jl,jr,jf,jt⟩,aI⟩:∃q,L[i]?=V q:=⟨L[i]'(by rw[af.o];omega),by simp[af.o,aA]⟩;have aG:=a1.o.keep (Jm ab az.o dM);obtain⟨bk,o,e0,hb,hc⟩:=aG.at' aI;subst e0;unfold yh at hc;dsimp only at hc;have aO:=hc 0 (O Z ja) rfl;have a6:=hc 1 (O Z jb) rfl;have a7:=hc 2 (O Z jl) rfl;have a8:=hc 3 (O Z jr) rfl;have ba:=hc 4 (O Z jf) rfl;have bb:=hc 5 (O Z jt) rfl;simp only[Nat.add_zero]at aO;have a5:=za aI;have a2:=za aG;have an:=za ab;have ae:=za am;have f:=za ac;have ar:=za ax;have aE:=za av;clear hc aI aG ab am ac ax av
   gi_wp2_with(refine⟨trivial,?_⟩;gi_at_call 47;refine(callsIn_wide.2 (TF _ sb i)).mono ?_;rintro e w' ⟨rfl,rfl⟩)
   obtain⟨W9,ah⟩:=gX (((((wr.alloc (I #[O Z ja,O Z jb,O Z jl,O Z jr,O Z jf,O Z jt] 82)).alloc (I #[O Z jf] 3)).alloc (I #[M (V ⟨sb,0,X⟩)] 84)).alloc (I #[O Z i] 3)));have aW:Ba wr W9:=by rw[<-ah];exact((((eR wr).alloc _).alloc _).alloc _).alloc _
   have bA:W9.heap.size=wr.heap.size+1+1+1+1:=by rw[<-ah];simp
   have bn:W9.heap[wr.heap.size+1]?=V (I #[O Z jf] 3 (0,0)):=by rw[<-ah];exact(((eR _).alloc _).alloc _).e (Up wr _ _)
   have bf:W9.heap[wr.heap.size+1+1]?=V (I #[M (V ⟨sb,0,X⟩)] 84 (0,0)):=by rw[<-ah];exact((eR _).alloc _).e (mc _ _ _ sM)
   have bj:W9.heap[wr.heap.size+1+1+1]?=V (I #[O Z i] 3 (0,0)):=by rw[<-ah];exact mc _ _ _ sM
   rw[ah];clear ah aO a6 a7 a8 ba bb;refine wpIn_rangeFunc_ownH rfl dM (gf:=81) (lb:=#[M (V ⟨wr.heap.size+1+1+1,0,X⟩),M (V ⟨wr.heap.size+1+1,0,X⟩)]) rfl trivial (enters_of Tryz.func81 kM rfl)
    (LE _ dM (wr.heap.size+1+1) wr W9 sb ⟨sk,w,d,p,step,R,b⟩ (Y ga gn gc) (Y pa pn ay) (Y wa wn wc) (Y (V ⟨bk,o,X⟩) qn qc) (Y ra rn rc) L i (by rw[af.o];exact aA) aZ.o ae.o a2.o bf bj aW) qh.trans (qh.put oM oM) (Below.refl _ _) (fun _=>rfl)
    (uH wr (Wa ⟨sk,w,d,p,step,R,b⟩ L i) jf i) (fun _ _ _=>False) (Qk (fun s W h=>by have:=h.2.1;omega) (fun s W W' h k=>⟨k.ext h.1 oM,nT h.2.1 k.size,k.heap h.2.2⟩)) (fun c=>Qk (fun s W h=>h.elim) (fun _ _ _ h _=>h.elim)) ⟨aW,by omega,bn⟩
    (fun x a' _=>Lu sb wr.heap.size x.1 a') (fun x a'=>ownFrom_pure _ (fun _=>Lu sb wr.heap.size x.1 a')) ?assign ?body ?done ?stop
   case assign =>
    rintro l pre x W K hI hK
    gi_wp2
    refine hK _ _ (KeepsFrom.refl _ _) (qh.refl _ _ _) hI ⟨rfl,rfl,rfl,rfl,rfl⟩
   case stop =>
    rintro D c pre W hD bv hf hK;exact hf.elim
   case body =>
    rintro l pre x a' W hl ⟨rr,hr⟩ hI hA bz;obtain⟨tt,dd⟩:=a';obtain⟨g1,g2,g3,g4,g5⟩:=hA;dsimp only at g1 g2 g3 g4 g5;subst g5;obtain⟨v,hu,ht⟩:=Qf tt 196 g1;simp only[hu]at g2 g3 g4;clear hu;subst ht;simp only[List.range,List.range.loop,List.map_cons,List.map_nil,g2,g3,g4];clear g1 g2 g3 g4;obtain⟨x,aK⟩:=x;obtain⟨h1,h2,h3⟩:=hI;obtain⟨cur,ao⟩:=gX ((pre.map (·.1)).foldl (fun o y=>min o ((Wa ⟨sk,w,d,p,step,R,b⟩ L i).getD y 0)) jf);have ap:=ao;rw[ao]at h3;have aU:=f.o.is.f h1;obtain⟨q,hq⟩:∃q,(Wa ⟨sk,w,d,p,step,R,b⟩ L i)[x]?=V q:=⟨(Wa ⟨sk,w,d,p,step,R,b⟩ L i)[x]'(by rw[Tn];exact aK),by simp⟩;obtain⟨b',o',e',bw,dq⟩:=aU.at' hq;obtain⟨b2,o2,e2,bx,_⟩:=f.o.is.at' hq;subst e';cases e2;have bp:=h1.d aY;have aq:=h1.e ae.o;have br:=Aa aq 11 (Y (V ⟨b',o',X⟩) rn rc);have bq:=Aa h3 0 (O Z cur);have bB:=Za h3;have bo:rn=i:=by
     have h8:=f.o.len;rw[lL,Tn]at h8;exact h8
    (have aT:(Wa ⟨sk,w,d,p,step,R,b⟩ L i).getD x 0=q:=by rw[gD,hq];rfl);have aC:((pre++[(⟨x,aK⟩:{x:Nat // x<i})]).map (fun y=>y.1)).foldl (fun o y=>min o ((Wa ⟨sk,w,d,p,step,R,b⟩ L i).getD y 0)) jf=min cur q:=by
     rw[List.map_append,List.foldl_append,ap];simp only[List.map_cons,List.map_nil,List.foldl_cons,List.foldl_nil,aT]
    have aM:=za aC;have zw:=h1.size;have p1:(0:Int)<=(x:Int):=oM;have p2:(x:Int)<(rn:Int):=oM;have p3:x<rn:=oM;have H3:=za h3;have H1:=za h1;have a3:=za (show ∀e∈[((⟨sb+1,0,X⟩:F),Value.pointer (V ⟨sb,0,X⟩)),(⟨sb,11,X⟩,Y (V ⟨b',o',X⟩) rn rc),(⟨b',o'+x,X⟩,O Z q)],(⟨wr.heap.size+1,0,X⟩:F).block≠e.1.block from fun e he h=>by
     simp at he;rcases he with rfl|rfl|rfl<;>(dsimp only at h;omega))
    clear ao ap aU hq aT aC bo h3
    gi_wp2
    refine Mr (S:=Da [(⟨sb+1,0,X⟩,M (V ⟨sb,0,X⟩)),(⟨sb,11,X⟩,Y (V ⟨b',o',X⟩) rn rc),(⟨b',o'+x,X⟩,O Z q)]) kM kM ?_ (fun n=>?_)
    ·exact cA
    refine sN 1 ?_
    (iterate 7 refine Db ?_);refine oN ?_;refine Te (i:=0) fun K hK=>?_;go_simp;refine kO hK n (fun n=>?_);clear hK K;refine Te (i:=8) fun K hK=>?_;go_simp;refine kO hK n (fun n=>?_);clear hK K;refine Te (i:=9) fun K hK=>?_;go_simp;refine kO hK (Da.set n a3.o _) (fun n=>?_);clear hK K;refine Pb ?_;unfold NQ;have X9:Ba wr W.drew:=H1.o.drew;have aS:uH wr (Wa ⟨sk,w,d,p,step,R,b⟩ L i) jf i (pre++[⟨x,aK⟩]) (W.drew.setCell ⟨wr.heap.size+1,0,X⟩ (O Z (min cur q))):=by
     refine⟨X9.set dO _,by simp only[fg];exact h2,?_⟩;rw[aM.o];exact Sk (W:=W.drew) H3.o 0 (O Z (min cur q))
    have bm:qh wr (wr.heap.size+1+1) W (W.drew.setCell ⟨wr.heap.size+1,0,X⟩ (O Z (min cur q))):=
     (((qh.refl wr (wr.heap.size+1+1) W).ext ((eR W).drew) H1.o.size oM).set dO dO dO _)
    have bl:KeepsFrom W9.heap.size W (W.drew.setCell ⟨wr.heap.size+1,0,X⟩ (O Z (min cur q))):=(Yo ((eR W).drew)).trans ((KeepsOthers.setCell _ _ _).from _)
    gi_wp2
    exact⟨bl,bm,aS⟩
   case done =>
    rintro D ys W hD aX ⟨h1,h2,h3⟩ bc;rw[aX]at h3;obtain⟨rt,aJ⟩:=gX ((Wf ⟨sk,w,d,p,step,R,b⟩ L i).foldl (fun o j=>min o ((Wa ⟨sk,w,d,p,step,R,b⟩ L i).getD j 0)) jf);rw[aJ]at h3;have bp:=h1.d aY;have aq:=h1.e ae.o;have br:=Aa aq 11 (Y ra rn rc);have bq:=Aa h3 0 (O Z rt);have aj:=za (fun j (h:(Value.slice ra rn rc).ownBlock=V j)=>f.o.lt j h);(have al:Wa ⟨sk,w,d,p,step,R,b⟩ L (i+1)=Wa ⟨sk,w,d,p,step,R,b⟩ L i++[rt]:=by rw[Wa,a5.o];dsimp only;unfold Jh;rw[aJ]);have au:=za al;have zw:=h1.size;have bI:sb+1<W.heap.size:=oM;have bJ:sb<W.heap.size:=oM;have bK:wr.heap.size+1<W.heap.size:=oM;clear al aJ aX
    gi_wp2
    refine Qz (fun i=>decide (9<i)) (Da [(⟨sb+1,0,X⟩,M (V ⟨sb,0,X⟩)),(⟨sb,11,X⟩,Y ra rn rc),(⟨wr.heap.size+1,0,X⟩,O Z rt)]) kM ?_ (fun n=>?_)
    ·exact cA
    refine sN 0 ?_
    (iterate 6 refine uo ?_);refine oN ?_;refine Sj (i:=6) fun K hK=>?_;go_simp;refine kO hK (fun _=>cE n ((eR _).alloc _)) (fun n=>?_);clear hK K;have n:=n rfl;have hA:Ba wr ((W.alloc (I #[O Z rt] 3)).drew):=(h1.alloc _).drew;refine Sj (i:=7) fun K hK=>?_;refine Wy (T:=3) (t:=47) (z:=O Z 0) (k:=1) (bytes:=8) (v:=Y ra rn rc) (base:=w7.heap.size) gw rfl dM dM Tryz.underlying47 rfl _ _ rfl rfl (f.o.ext hA) (ad:=⟨W.heap.size,0,X⟩) (m:=1) (c:=1) rfl [(#[O Z rt]:Array N).toList] rfl sM (by exact Mo W #[O Z rt] 3) (by simp[Value.oneCell']) (by rw[lL,Tn];omega) (by have:=hA.size;omega) ?_;intro v' w9 ai ag bt;obtain⟨a9,n9,c9,rfl⟩:=ai.i;refine kO hK (fun _=>Da.grown n ag (fun q hq e=>?_)) (fun n=>?_)
    ·have h9:=aj.o _ e.symm;simp at hq;(have h8:∀r,(Value.slice ra rn rc).ownBlock=V r->r≠wr.heap.size+1:=fun r hr=>by have:=(aj.o r hr).2;omega);rcases hq with rfl|rfl|rfl
     ·dsimp only at h9;omega
     ·dsimp only at h9;omega
     ·exact h8 _ e.symm rfl
    clear hK K;have n:=n rfl;refine sN 8 ?_
    (iterate 2 refine uo ?_);refine oN ?_;have aw:=Gh ag (hA.e ae.o) (fun e=>by have:=(aj.o _ e.symm).1;omega);have n1:=Aa aw 11 (Y ra rn rc);have nf:=Za aw;have aB:Vb w9 (D::Ds):=(((ar.o.ext h1).cons bc (fun bi=>by have:=Ya (ar.o.2 D bi);omega)).ext (((eR W).alloc _).drew)).grown ag (fun r hr=>by
     rcases(f.o.ext hA).2.2 with ⟨q1,_⟩|⟨g,cap,cur,hv,_,hh,_⟩
     ·rw[q1]at hr;cases hr
     ·rw[hv]at hr;cases hr;exact⟨_,_,_,hh⟩)
    have aL:=za aB;clear aB;refine Sj (i:=10) fun K hK=>?_;go_simp;refine kO hK (fun h=>nomatch h) (fun n=>?_);clear hK K;refine Yh kM ?_ _;unfold NQ
    gi_wp2
    refine Handed.intro (qn-(i+1)) (by have:=af.o;omega) (hJ _ _ _ ⟨⟨i+1,Y a9 n9 c9,D::Ds,by have:=af.o;omega,?_,by rw[af.o],Bk (Ck an.o ((Below.mono hA aD).trans (Yg (base:=w7.heap.size) ag (nT aD hA.size) (fun k hk=>(aj.o k hk).1)))) 11 _,Sk aw 11 _,?_,rfl,aL.o.set aw _,?_⟩,rfl,rfl,rfl,rfl⟩)
    ·show (_:N)=_;go_num
    ·rw[au.o,List.map_append];exact ai.setOther (fun e=>by have:=(ai.lt _ e).1;dsimp only at this;omega) _
    ·intro E hE;rcases List.mem_cons.1 hE with rfl|hE
     ·omega
     ·exact aE.o E hE
  ·obtain rfl:qn=i:=oM;have an:=za ab;have ae:=za am;have f:=za ac;have ar:=za ax;have aE:=za av;clear ab am ac ax av aV
   gi_wp2
   exact HQ.o _ _ _ Ds ⟨rfl,rfl⟩ rfl an.o ae.o (by rw[af.o];exact f.o) ar.o aE.o
def OO Q(w w6:C) L sk k c g step l b ga gn gc pa pn au wa v wc ks ps(aP:Ge w6 (Y wa v wc) ks)(bi:v<=120)(bg:∀j∈ks,∃w',Ia w' j.2 j.1.p.shape)(bf:∀j∈ks,j.1∈Se ps)(bj:∀p∈ps,Fa p=true)(a8:w6.heap[L]?=V (I (nj ⟨sk,k,c,g,step,l,b⟩ (Y ga gn gc) (Y pa pn au) (Y wa v wc) (Y X 0 0) (Y X 0 0)) 89 (0,0)))(aR:w6.heap[L+1]?=V (I #[M (V ⟨L,0,X⟩)] 84 (0,0)))(aD:w6.heap[w.heap.size+1]?=V (I #[O .u8 sk,O Z k,O Z c,O Z g,O Z step,O Z l,O Z b] 32 (0,0)))(bz:w.heap.size+1<L) a0(a9:KA (w.heap.size+1) L wa v wc a0)(bc:a0.tmps.getD 69 undef=O Z (0:Nat))(hQ:∀a W vj,KA (w.heap.size+1) L wa v wc a->w6.grownBy W (V L)->W.heap[L]?=V (I (nj ⟨sk,k,c,g,step,l,b⟩ (Y ga gn gc) (Y pa pn au) (Y wa v wc) vj (Y X 0 0)) 89 (0,0)) ->Ea 82 6 W w6.heap.size vj ((Fg ⟨sk,k,c,g,step,l,b⟩ (ks.map Prod.fst)).map Vg)->Q (.exit 2) a W):(Code.loop (Tb Tryz.f38 1)).wpIn Fence.wide 5 Tryz.prog Q a0 w6:=by
 have bA:=Ya aR;have bB:w.heap.size+1<w6.heap.size:=oM;have m:=za aP.len.symm;have aT:=za aP;have aV:=za (fun j hj=>bg j hj);have aU:=za (fun j hj=>bf j hj);have br:=za bj;have aF:=za a8;have aW:=za aR;have ay:=za aD;have HQ:=za hQ;clear aP bg bf bj a8 aR aD hQ;unfold Tb;simp only[Tryz.f38,Jb,List.cons_append,List.nil_append,List.append_nil,List.getD_cons_succ,List.getD_cons_zero];refine wpIn_loop_ghost_k (fun gk a W=>WV w6 L ⟨sk,k,c,g,step,l,b⟩ (Y ga gn gc) (Y pa pn au) (Y wa v wc) ks gk (a.tmps.getD 69 undef) W/\KA (w.heap.size+1) L wa v wc a) v ?h0 ?round
 case h0=>exact⟨⟨0,_,by omega,bc,by rw[m.o];rfl,Mn _ _,aF.o,by simpa using Ea.nil _ _ _ _⟩,a9⟩
 case round =>
  clear bc a9;intro gk aa wr hinv;obtain⟨tt,dd⟩:=aa;obtain⟨⟨i,vj,hi,t,rfl,d,n,f⟩,f1,f3,f8,r,s,fd⟩:=hinv;dsimp only at f1 f3 f8 r s fd t;subst fd;obtain⟨u,hu,ht⟩:=Qf tt 196 f1;simp only[hu]at f3 f8 r s t;clear hu;subst ht;simp only[List.range,List.range.loop,List.map_cons,List.map_nil,f3,f8,r,s,t];clear f1 f3 f8 r s t;intro J K hJ hK;rw[m.o]at hi;have bl:=d.size;have aQ:=(d.block (L+1) bA sM).trans aW.o;have aC:=(d.block (w.heap.size+1) bB (by simp;omega)).trans ay.o;have bv:=Aa aQ 0 (M (V ⟨L,0,X⟩));have bD:L+1<wr.heap.size:=oM;have bE:L<wr.heap.size:=oM;have bF:w.heap.size+1<wr.heap.size:=oM;by_cases bh:i<v
  ·obtain⟨⟨⟨⟨aj,bn,dA,ae,af,ag,ak,ac,ad,y⟩,kA,⟨am,al⟩,ao,an⟩,vA⟩,ai⟩:∃q,ks[i]?=V q:=⟨ks[i]'(by rw[m.o];omega),by simp[m.o,bh]⟩;obtain⟨av,ax,aw,bm⟩:=(aV.o _ (lM ai)).elim fun _ h=>Ma h;dsimp only at bm;subst bm;have be:=aT.o.keep (Jm d aF.o dM);obtain⟨bk,o,e0,hb,x⟩:=be.at' ai;subst e0;unfold Ah at x;dsimp only at x;have az:=x 0 (.string aj) rfl;have aY:=x 1 (Y av ax aw) rfl;have aZ:=x 2 (O Z dA) rfl;have a1:=x 3 (O Z ae) rfl;have a2:=x 4 (O Z af) rfl;have a3:=x 5 (O Z ag) rfl;have a4:=x 6 (O Z ak) rfl;have a5:=x 7 (O Z ac) rfl;have a6:=x 8 (O Z ad) rfl;have a7:=x 9 (O .u8 y) rfl;have aH:=x 10 (O Z kA) rfl;have aI:=x 11 (O Z am) rfl;have aJ:=x 12 (O Z al) rfl;have aK:=x 13 (O Z ao) rfl;have aL:=x 14 (O Z an) rfl;simp only[Nat.add_zero]at az;have bo:=Aa n 9 (Y (V ⟨bk,o,X⟩) v wc);have bp:=Za n;have bs:=za ai;have R:=za d;have z:=za f;have ab:=za n;have bq:=za (aU.o _ (lM ai));clear x ai be d f n
   gi_wp2
   have aO:=(eR wr).alloc (I #[.string aj,Y av ax aw,O Z dA,O Z ae,O Z af,O Z ag,O Z ak,O Z ac,O Z ad,O .u8 y,O Z kA,O Z am,O Z al,O Z ao,O Z an] 113);obtain⟨ba,bb⟩:=gX wr.heap.size;have aA:=aN wr (I #[.string aj,Y av ax aw,O Z dA,O Z ae,O Z af,O Z ag,O Z ak,O Z ac,O Z ad,O .u8 y,O Z kA,O Z am,O Z al,O Z ao,O Z an] 113);rw[bb]at aA;rw[bb];have bx:w6.heap.size<=ba:=oM;clear az aY aZ a1 a2 a3 a4 a5 a6 a7 aH aI aJ aK aL bv bo bp aQ aC;have HJ:=za hJ;have bu:(((ks.take i).map Prod.fst).flatMap (xg ⟨sk,k,c,g,step,l,b⟩ (ks.map Prod.fst))).length<=14400:=by
    have l1:=uy (fun a=>fE ⟨sk,k,c,g,step,l,b⟩ (ks.map Prod.fst) a) ((ks.take i).map Prod.fst);rw[lL,List.length_take,lL,m.o]at l1;have l3:min i v*v<=120*120:=Nat.mul_le_mul oM oM;omega
   have e2:((ks.take (i+1)).map Prod.fst).flatMap (xg ⟨sk,k,c,g,step,l,b⟩ (ks.map Prod.fst))=((ks.take i).map Prod.fst).flatMap (xg ⟨sk,k,c,g,step,l,b⟩ (ks.map Prod.fst))++xg ⟨sk,k,c,g,step,l,b⟩ (ks.map Prod.fst) ⟨⟨aj,bn,dA,ae,af,ag,ak,ac,ad,y⟩,kA,(am,al),ao,an⟩:=by
    rw[ze _ _ _ bs.o,List.map_append,List.flatMap_append];simp
   have E2:=za e2;clear e2;refine NO _ w w6 _ L ba sk k c g step l b ga gn gc pa pn au bk o v wc ks ps _ _ (Y (V ⟨bk,o,X⟩) v wc) (O Z v) (O Z (i:Nat)) _ aj bn dA ae af ag ak ac ad y kA am al ao an av ax aw aT.o bi aV.o aU.o br.o bq.o aF.o aW.o ay.o bz bx bu _ ⟨rfl,rfl,rfl,rfl,rfl,rfl,rfl,rfl,rfl,rfl⟩
    ⟨0,vj,by omega,rfl,by rw[m.o];rfl,Ck R.o (Below.mono aO bl),aO.e ab.o,aA,by simpa using z.o.ext aO⟩ (fun a W bw bt aB aE ah=>?_)
   obtain⟨tt,dd⟩:=a;obtain⟨f1,f3,f8,ap,r,s,t,aq,ar,fd⟩:=bt;dsimp only at f1 f3 f8 ap r s t aq ar fd;subst fd;obtain⟨bC,aM⟩:=gX (tt.getD 78 undef);obtain⟨u2,hu,ht⟩:=Qf tt 196 f1;simp only[hu]at f3 f8 ap r s t aq ar aM;clear hu;subst ht;simp only[List.range,List.range.loop,List.map_cons,List.map_nil,f3,f8,ap,r,s,t,aq,ar,aM];have aS:=za aB;have aX:=za aE;have aG:=za ah;clear f1 f3 f8 ap r s t aq ar aM aB aE ah
   gi_wp2
   refine Handed.intro (v-(i+1)) (by have:=m.o;omega) (HJ.o _ _ _ ⟨⟨i+1,bw,by have:=m.o;omega,?_,by rw[m.o],aS.o,aX.o,by rw[E2.o];exact aG.o⟩,rfl,rfl,rfl,rfl,rfl,rfl⟩);show (_:N)=_;go_num
  ·obtain rfl:v=i:=oM;have e:ks.take v=ks:=lT (by rw[m.o];exact nE _);rw[e]at f;have R:=za d;have ab:=za n;have z:=za f;clear e d n f aQ aC
   gi_wp2
   exact HQ.o _ _ _ ⟨rfl,rfl,rfl,rfl,rfl,rfl⟩ R.o ab.o z.o
def CH w vg vp g ps r(hg:Ia w vg g)(hp:ld w vp ps)(aX:Gw w)(h0:Eb g ps=0)(a7:Cc r=0):Calls Tryz.prog 38 #[.agg #[vg,vp],.agg (Uf r)] w (Oi w vg vp g ps r):=by
 obtain⟨a6,a3,aa⟩:=No h0;have HC:=za (fun W (hW:Ba w W)=>Vy W vg vp g ps (hg.f hW) (hp.f hW) (aX.ext hW));have HS:=za (fun W (hW:Ba w W)=>AR W vg vp ps (Ma hg) (hp.f hW) (aX.ext hW) a6 a3);have HU:=za (fun W=>UE W r);obtain⟨ga,gn,gc,rfl⟩:=Ma hg;obtain⟨pa,pn,y,rfl⟩:=Ma hp;obtain⟨R,hR⟩:=gX (Oi w (Y ga gn gc) (Y pa pn y) g ps r);rw[hR];have HR:=za hR;have he:gh g ps r=0:=by unfold gh;rw[if_pos h0,a7]
 rw[h0]at HC;rw[a7]at HU;have HE:=za he;have bp:=za a6;have bo:=za a3;obtain⟨z,i,d,f,step,l,c⟩:=r;unfold Uf at HU ⊢;dsimp only at HU;clear hg hp aX hR he a6 a3 aa h0 a7;refine(callsIn_wide (n:=5)).1 ?_;refine callsIn_of_wp_marks Tryz.func38 rfl trivial ?_ rfl;simp only[Tryz.ntmps38,List.size_toArray,List.length_cons,List.length_nil,Nat.reduceAdd,Nat.reduceSub,Array.replicate_succ,Array.replicate_zero,List.push_toArray,List.append_toArray,List.nil_append,List.cons_append]
 gi_wp2_with(first|(refine⟨trivial,?_⟩;gi_at_call 48;(refine(callsIn_wide.2 (HC.o _ ?_)).mono ?_);exact eA;rintro e w3 ⟨rfl,aC⟩;obtain⟨bY,b0⟩:=aC.cells;(have z3:=aC.size);(simp only[wZ]at z3);(have y0:w.heap.size<w3.heap.size:=oM);(have y1:w.heap.size+1<w3.heap.size:=oM))|(refine⟨trivial,?_⟩;gi_at_call 10;refine(callsIn_wide.2 (HU.o _)).mono ?_;rintro e w4 ⟨rfl,aD⟩;obtain⟨bZ,b1⟩:=aD.cells;(have z4:=aD.size);(have y2:w.heap.size<w4.heap.size:=oM);(have y3:w.heap.size+1<w4.heap.size:=oM)))
 refine⟨trivial,(callsIn_wide.2 (HS.o _ ?_)).mono ?_⟩
 ·exact eA
 rintro e w5 ⟨v5,js,rfl,t,a1,a2,aq⟩;obtain⟨a5,n5,k5,rfl⟩:=t.i;have K0:=aq.e (((eR w4).alloc (I #[O .u8 z,O Z i,O Z d,O Z f,O Z step,O Z l,O Z c,Y ga gn gc,Y pa pn y,Y X 0 0,Y X 0 0,Y X 0 0] 89)).alloc (I #[M (V ⟨w4.heap.size,0,X⟩)] 84) |>.e (aD.e (aC.e (Up w (I #[Y ga gn gc,Y pa pn y] 39) (I #[O .u8 z,O Z i,O Z d,O Z f,O Z step,O Z l,O Z c] 32)))));have K1:=aq.e (Iy w4 (I #[O .u8 z,O Z i,O Z d,O Z f,O Z step,O Z l,O Z c,Y ga gn gc,Y pa pn y,Y X 0 0,Y X 0 0,Y X 0 0] 89) (I #[M (V ⟨w4.heap.size,0,X⟩)] 84));have K2:=aq.e (Up w4 (I #[O .u8 z,O Z i,O Z d,O Z f,O Z step,O Z l,O Z c,Y ga gn gc,Y pa pn y,Y X 0 0,Y X 0 0,Y X 0 0] 89) (I #[M (V ⟨w4.heap.size,0,X⟩)] 84));obtain⟨sb,aB⟩:=gX w4.heap.size;have X4:Ba w w4:=eA;have X5:Ba w4 w5:=eA;have bN:w.heap.size+1<sb:=oM;have bO:=Ya K2;rw[aB]at K1 K2 bO;have bF:=t.js.len;have aY:=t.js;have bE:=aY.le;have Hn:=za bF.symm;have cc:n5<=9223372036854775807:=by unfold maxLen at bE;omega
 have ak:n5<=120:=by
  have h9:=congrArg List.length a1;have h8:=bo.o;rw[lL,ko]at h9;omega
 have bQ:=za aY;have bk:=za a1;have cb:=za a2;have aI:∀j∈js,Ia w5 j.2 j.1.p.shape:=fun j o=>(a2 j o).f aq;have aE:=za aI;have ba:=za K0;have bb:=za K1;have bc:=za K2;have bg:=za X4;have bh:=za X5;have aU:=za aB;have aR:=za ak;clear t aY a1 a2 aI aq aC aD bY b0 bZ b1 K0 K1 K2 X4 X5 bF bE HC HS HU;rw[aB];clear aB
 gi_wp2
 refine PO _ w w5 sb z i d f step l c ga gn gc pa pn y a5 n5 k5 js bQ.o ak (fun j o=>⟨_,aE.o j o⟩) ba.o bb.o bc.o bN _ ⟨rfl,rfl,rfl,rfl,rfl,rfl⟩ rfl (fun a w6 vs aj aa a9 ad=>?_);obtain⟨tt,dd⟩:=a;obtain⟨f1,f3,f8,av,aw,fd⟩:=aj;dsimp only at f1 f3 f8 av aw fd;subst fd;obtain⟨ce,aV⟩:=gX (tt.getD 37 undef);obtain⟨u,hu,ht⟩:=Qf tt 196 f1;simp only[hu]at f3 f8 av aw aV;clear hu;subst ht;simp only[List.range,List.range.loop,List.map_cons,List.map_nil,f3,f8,av,aw,aV];clear f1 f3 f8 av aw aV;have cd:=aa.size;have aA:=(aa.block (sb+1) bO sM).trans bc.o;have bL:=(aa.block (w.heap.size+1) oM (by simp;omega)).trans ba.o;have cg:=Aa aA 0 (M (V ⟨sb,0,X⟩));obtain⟨ks,ae⟩:=gX ((js.filter fun j=>Xf ⟨z,i,d,f,step,l,c⟩ j.1));rw[ae]at ad;have ao:ks.map Prod.fst=Kb ⟨z,i,d,f,step,l,c⟩ ps:=by
  unfold Kb;rw[<-ae,<-bk.o,List.filter_map];rfl
 have bC:∀j∈ks,Ia w5 j.2 j.1.p.shape:=fun j o=>aE.o j (by rw[<-ae]at o;exact(List.mem_filter.1 o).1);have bB:∀j∈ks,j.1∈Se ps:=fun j o=>by
  rw[<-bk.o];rw[<-ae]at o;exact List.mem_map_of_mem (List.mem_filter.1 o).1
 have b2:ks.length<=120:=by
  have:=List.length_filter_le (fun j:JS×N=>Xf ⟨z,i,d,f,step,l,c⟩ j.1) js;rw[ae]at this;have:=aR.o;have:=Hn.o;omega
 obtain⟨wa,wn,wc,rfl⟩:=ad.i;have aZ:=ad.js;have bG:=aZ.len;have bH:wn<=120:=oM;have bU:=za bG.symm;have bj:=za aZ;have af:=za ao;have bn:=za bC;have aQ:=za bB;have cl:=Aa a9 9 (Y wa wn wc);have aP:=za aa;have aO:=za a9;have bq:=za aA;have bs:=za bL;have b5:=Ya aA;clear ad ao bC bB ae aZ bG b2 bL aA aa a9
 gi_wp2
 refine OO _ w w6 sb z i d f step l c ga gn gc pa pn y wa wn wc ks ps bj.o bH (fun j o=>⟨_,bn.o j o⟩) aQ.o bp.o aO.o bq.o bs.o bN _ ⟨rfl,rfl,rfl,rfl,rfl,rfl⟩ rfl (fun a wr vj aj ac ap m=>?_);obtain⟨tt,dd⟩:=a;obtain⟨f1,f3,f8,ax,ay,fd⟩:=aj;dsimp only at f1 f3 f8 ax ay fd;subst fd;obtain⟨cf,aW⟩:=gX (tt.getD 69 undef);obtain⟨u2,hu,ht⟩:=Qf tt 196 f1;simp only[hu]at f3 f8 ax ay aW;clear hu;subst ht;simp only[List.range,List.range.loop,List.map_cons,List.map_nil,f3,f8,ax,ay,aW];clear f1 f3 f8 ax ay aW;obtain⟨au,x⟩:=gX (Fg ⟨z,i,d,f,step,l,c⟩ (ks.map Prod.fst));rw[x]at m;have an:Fg ⟨z,i,d,f,step,l,c⟩ (Kb ⟨z,i,d,f,step,l,c⟩ ps)=au:=by rw[<-af.o];exact x
 have a8:∀j∈au,Fh j:=fun j o=>by
  rw[<-x]at o;obtain⟨a,ha,o⟩:=List.mem_flatMap.1 o;obtain⟨b,hb,rfl⟩:=List.mem_map.1 o;obtain⟨qa,b3,rfl⟩:=List.mem_map.1 ha;obtain⟨qb,b4,rfl⟩:=List.mem_map.1 (List.mem_filter.1 hb).1;exact tC bp.o bo.o (aQ.o _ b3) (aQ.o _ b4)
 have bK:au.length<=14400:=by
  have l1:=uy (fun a=>fE ⟨z,i,d,f,step,l,c⟩ (ks.map Prod.fst) a) (ks.map Prod.fst);rw[show (ks.map Prod.fst).flatMap (fun a=>xg ⟨z,i,d,f,step,l,c⟩ (ks.map Prod.fst) a)=au from x,lL,bU.o]at l1;have l3:wn*wn<=120*120:=Nat.mul_le_mul oM oM;omega
 obtain⟨qa,qn,qc,rfl⟩:=m.i;have b6:=ac.size;have aK:=(ac.block (sb+1) b5 sM).trans bq.o;have ch:=Aa aK 0 (M (V ⟨sb,0,X⟩));have ca:=Aa ap 10 (Y qa qn qc);have aT:=za an;have bV:=za a8;have bW:=za bK;have bi:=za ac;have bt:=za ap;have K:=za m;have be:=za (UN wr w6.heap.size (Y qa qn qc) au m a8 oM);clear x an a8 bK ac ap m
 gi_wp2_with(refine⟨trivial,?_⟩;gi_at_call 76;refine(callsIn_wide.2 be.o).mono ?_;rintro e w7 ⟨rfl,L,v,aJ,ab,az⟩;(have s:=Gh az bt.o (fun e=>by have:=(K.o.lt _ e.symm).1;omega));(have am:=Gh az aK (fun e=>by have:=(K.o.lt _ e.symm).1;omega));(have ck:=Aa s 10 (Y qa qn qc));(have ci:=Aa am 0 (M (V ⟨sb,0,X⟩))))
 have a4:=ab.len;rw[lL]at a4;have a0:=ab.jts;have bx:∀j∈L,Fh j:=fun j o=>bV.o j (v.mem_iff.1 o);have bz:L.length<=14400:=by rw[v.length_eq];exact bW.o
 have bI:qn<=14400:=by rw[a4];exact bz
 have ar:w6.grownBy w7 (V sb):=Ck bi.o (Yg (base:=w6.heap.size) az oM (fun k hk=>(K.o.lt k hk).1));refine MO _ w7 sb z i d f step l c ga gn gc pa pn y wa wn wc qa qn qc L a0 bI bx s am _ ⟨rfl,rfl,rfl,rfl⟩ rfl rfl (fun a wz vr Ds aj bA q aM al bD bw=>?_);obtain⟨tt,dd⟩:=a;obtain⟨f1,f8⟩:=aj;dsimp only at f1 f8 bA;subst bA;obtain⟨b7,ag⟩:=gX (tt.getD 162 undef);obtain⟨b8,ah⟩:=gX (tt.getD 163 undef);obtain⟨b9,ai⟩:=gX (tt.getD 164 undef);obtain⟨u3,hu,ht⟩:=Qf tt 196 f1;simp only[hu]at f8 ag ah ai;clear hu;subst ht;simp only[List.range,List.range.loop,List.map_cons,List.map_nil,f8,ag,ah,ai];clear f1 f8 ag ah ai;have bJ:=(q.block (sb+1) (Ya am) sM).trans am;have cj:=Aa bJ 0 (M (V ⟨sb,0,X⟩));have aF:il ⟨z,i,d,f,step,l,c⟩ ps ks L (Wa ⟨z,i,d,f,step,l,c⟩ L L.length):=⟨af.o,by rw[aT.o];exact v,aJ.imp (fun h=>Int.not_lt.2 h),rfl⟩;have X9:Ba w wz:=bg.o.trans (Rp (Rp (Rp bh.o aP.o (by rw[aU.o];exact nE _)) ar (by rw[aU.o];exact nE _)) q (by rw[aU.o];exact nE _));have aL:∀j∈ks,Ia wz j.2 j.1.p.shape:=fun j o=>(((bn.o j o).keepT (Jm aP.o bb.o dM)).keepT (Jm ar aO.o dM)).keepT (Jm q s dM);have aG:Ge wz (Y wa wn wc) ks:=((bj.o.keep (Jm ar aO.o dM)).keep (Jm q s dM));have aH:Ye wz (Y qa qn qc) L:=a0.keep (Jm q s dM);have bM:∀D∈Ds,w.heap.size<=D:=fun D hD=>by have:=bw D hD;have:=bg.o.size;have:=bh.o.size;have:=aP.o.size;have:=ar.size;omega
 have bf:=za aF;have bP:=za X9;have br:=za aL;have bl:=za aG;have bm:=za aH;have bu:=za aM;have aS:=za al;have bT:=za bD;have bv:=za bM;clear aF X9 aL aG aH aM al bD bM bw q bJ v aJ ab az s am a0 bx bz ar a4 be
 gi_wp2
 refine tq Ds _ bT.o (fun W' bX=>?_);have hS:=bX w.heap.size bv.o;refine⟨.tuple #[M (V ⟨sb,0,X⟩),O Z 0],by simp[results,Tryz.results38,go_sem],?_⟩;rw[<-HR.o];exact .inr ⟨HE.o,sb,_,_,_,ks,L,_,rfl,⟨hS.heap bu.o,bl.o.keep (hS.keep _),fun j o=>(br.o j o).keepT (hS.keep _),bm.o.keep (hS.keep _),aS.o.is.keep (hS.keep _)⟩,bf.o,hS.ext bP.o (nE _)⟩
def Zu w b c g ps r(e:Ia w b g)(f:ld w c ps)(a:Gw w):Calls Tryz.prog 38 #[.agg #[b,c],.agg (Uf r)] w (Oi w b c g ps r):=by
 by_cases d:Eb g ps=0
 ·by_cases i:Cc r=0
  ·exact CH w b c g ps r e f a d i
  ·exact mI w b c g ps r e f a d i
 ·exact nI w b c g ps r e f a d
end
section
open Go.RowKit Go.Shelf Go.Sort
def Ep(w:C)(g:LP)(ps:List Pl)(r:Ru)(e:Ending)(w':C):Prop:=
 (gh g ps r≠0/\e=.returned (.tuple #[Y X 0 0,O Z (gh g ps r)])/\Ba w w') \/
 (gh g ps r=0/\∃v L ks rs,e=.returned (.tuple #[v,O Z 0])/\Ye w' v L/\il r ps ks L rs/\Ba w w')
def Dp(w:C)(g:LP)(ps:List Pl)(r:Ru)(e:Ending)(w':C):Prop:=
 (gh g ps r≠0/\e=.returned (.tuple #[Y X 0 0,O Z (gh g ps r)])/\Ba w w') \/
 (gh g ps r=0/\∃v L ks rs,e=.returned (.tuple #[v,O Z 0])/\Ud w' v rs/\il r ps ks L rs/\Ba w w')
def XQ w x y g ps r(m:Ia w x g)(o:ld w y ps)(d:Gw w):Calls Tryz.prog 11 #[.agg #[x,y],.agg (Uf r)] w (Ep w g ps r):=by
 have f:=za (fun W (l:Ba w W)=>Zu W x y g ps r (m.f l) (o.f l) (d.ext l));obtain⟨ga,gn,gc,rfl⟩:=Ma m;obtain⟨pa,pn,ab,rfl⟩:=Ma o;obtain⟨R,j⟩:=gX (Ep w g ps r);rw[j];have z:=za j;obtain⟨k,n⟩:=gX (gh g ps r);have c:=za n;obtain⟨sk,ac,K,aa,step,ad,t⟩:=r;unfold Uf at f ⊢;dsimp only at f;clear m o d j;by_cases b:k=0
 ·subst b;clear n;go_in;go_wp2_with(go_at_call 38;refine cM (f.o _ eA) ?_;rintro e w3 (⟨a,_⟩|⟨_,sb,vs,vj,vr,ks,L,rs,rfl,u,v,q⟩);(focus(exact absurd c.o a));obtain⟨ja,jn,s,p⟩:=Ma u.joints;subst p;(have sc:=Aa u.blk 10 (Y ja jn s)));rw[<-z.o];exact .inr ⟨c.o,_,L,ks,rs,rfl,u.joints,v,eA⟩
 ·have u0:(k != 0)=true:=by simpa using b
  have i:=za b;clear b n;go_in;go_wp2_with(go_at_call 38;refine cM (f.o _ eA) ?_;rintro e w3 (⟨a,rfl,q⟩|⟨b,_⟩);rotate_left 1;(focus(exact absurd (c.o.symm.trans b) i.o));rw[c.o]);rw[<-z.o];exact .inl ⟨a,by rw[c.o];rfl,eA⟩
def WE w x y g ps r(m:Ia w x g)(o:ld w y ps)(d:Gw w):Calls Tryz.prog 24 #[.agg #[x,y],.agg (Uf r)] w (Dp w g ps r):=by
 have f:=za (fun W (l:Ba w W)=>Zu W x y g ps r (m.f l) (o.f l) (d.ext l));obtain⟨ga,gn,gc,rfl⟩:=Ma m;obtain⟨pa,pn,ab,rfl⟩:=Ma o;obtain⟨R,j⟩:=gX (Dp w g ps r);rw[j];have z:=za j;obtain⟨k,n⟩:=gX (gh g ps r);have c:=za n;obtain⟨sk,ac,K,aa,step,ad,t⟩:=r;unfold Uf at f ⊢;dsimp only at f;clear m o d j;by_cases b:k=0
 ·subst b;clear n;go_in;go_wp2_with(go_at_call 38;refine cM (f.o _ eA) ?_;rintro e w3 (⟨a,_⟩|⟨_,sb,vs,vj,vr,ks,L,rs,rfl,u,v,q⟩);(focus(exact absurd c.o a));obtain⟨ja,jn,s,p⟩:=Ma u.roots;subst p;(have sc:=Aa u.blk 11 (Y ja jn s)));rw[<-z.o];exact .inr ⟨c.o,_,L,ks,rs,rfl,u.roots,v,eA⟩
 ·have u0:(k != 0)=true:=by simpa using b
  have i:=za b;clear b n;go_in;go_wp2_with(go_at_call 38;refine cM (f.o _ eA) ?_;rintro e w3 (⟨a,rfl,q⟩|⟨b,_⟩);rotate_left 1;(focus(exact absurd (c.o.symm.trans b) i.o));rw[c.o]);rw[<-z.o];exact .inl ⟨a,by rw[c.o];rfl,eA⟩
