import Derived.Test.YtgimcmpeceifnaaGreatDoorColA09
import Derived.Test.YtgimcmpeceifnaaGreatDoorColA14
set_option maxRecDepth 1000000
set_option maxHeartbeats 16000000
set_option linter.all false
open Go.Value renaming slice->O,int->Y,bool->N,pointer->F,agg->U,tuple->Ob
open Go.IntKind renaming i64->Z
open Option renaming none->I,some->G
open Go renaming World->C,Value->T,Addr->Oa
open Go.Obj renaming cells->H
namespace Go.Proofs.YtgimcmpeceifnaaGreatDoor.Cop
section
open Go.RowKit Go.Shelf Go.Sort
attribute [local go_sem] Oper.semAt_some
def TN(Q:Exit->Act->C->Prop)(w w6:C)(L:Nat)(sk k c g step l b:Int)(ga:Option Oa)(gn gc:Nat)(pa:Option Oa)(pn au:Nat)(wa:Option Oa)(v wc:Nat)(ks:List (JS×T))(ps:List Pl)(aP:Fe w6 (O wa v wc) ks)(bi:v<=120)(bg:∀j∈ks,∃w',Ja w' j.2 j.1.p.shape)(bf:∀j∈ks,j.1∈Me ps)(bj:∀p∈ps,Ia p=true)(a8:w6.heap[L]?=G (H (pj ⟨sk,k,c,g,step,l,b⟩ (O ga gn gc) (O pa pn au) (O wa v wc) (O I 0 0) (O I 0 0)) 89 (0,0)))(aR:w6.heap[L+1]?=G (H #[F (G ⟨L,0,I⟩)] 84 (0,0)))(aD:w6.heap[w.heap.size+1]?=G (H #[Y .u8 sk,Y Z k,Y Z c,Y Z g,Y Z step,Y Z l,Y Z b] 32 (0,0)))(bz:w.heap.size+1<L)(a0:Act)(a9:xA (w.heap.size+1) L wa v wc a0)(bc:a0.tmps.getD 69 undef=Y Z (0:Nat))(hQ:∀a W vj,xA (w.heap.size+1) L wa v wc a->w6.grownBy W (G L)->W.heap[L]?=G (H (pj ⟨sk,k,c,g,step,l,b⟩ (O ga gn gc) (O pa pn au) (O wa v wc) vj (O I 0 0)) 89 (0,0)) ->Fa 82 6 W w6.heap.size vj ((oh ⟨sk,k,c,g,step,l,b⟩ (ks.map Prod.fst)).map Sg)->Q (.exit 2) a W):(Code.loop (Qc Tryz.f38 1)).wpIn Fence.wide 5 Tryz.prog Q a0 w6:=by
 have bA:=Ya aR;have bB:w.heap.size+1<w6.heap.size:=oM;have m:=Aa aP.len.symm;have aT:=Aa aP;have aV:=Aa (fun j hj=>bg j hj);have aU:=Aa (fun j hj=>bf j hj);have br:=Aa bj;have aF:=Aa a8;have aW:=Aa aR;have ay:=Aa aD;have HQ:=Aa hQ;clear aP bg bf bj a8 aR aD hQ;unfold Qc;simp only[Tryz.f38,Qb,List.cons_append,List.nil_append,List.append_nil,List.getD_cons_succ,List.getD_cons_zero];refine wpIn_loop_ghost_k (fun gk a W=>OV w6 L ⟨sk,k,c,g,step,l,b⟩ (O ga gn gc) (O pa pn au) (O wa v wc) ks gk (a.tmps.getD 69 undef) W/\xA (w.heap.size+1) L wa v wc a) v ?h0 ?round
 case h0=>exact⟨⟨0,_,by omega,bc,by rw[m.o];rfl,io _ _,aF.o,by simpa using Fa.nil _ _ _ _⟩,a9⟩
 case round =>
  clear bc a9;intro gk aa wr hinv;obtain⟨tt,dd⟩:=aa;obtain⟨⟨i,vj,hi,t,rfl,d,n,f⟩,f1,f3,f8,r,s,fd⟩:=hinv;dsimp only at f1 f3 f8 r s fd t;subst fd;obtain⟨u,hu,ht⟩:=Jg tt 196 f1;simp only[hu]at f3 f8 r s t;clear hu;subst ht;simp only[List.range,List.range.loop,List.map_cons,List.map_nil,f3,f8,r,s,t];clear f1 f3 f8 r s t;intro J K hJ hK;rw[m.o]at hi;have bl:=d.size;have aQ:=(d.block (L+1) bA sM).trans aW.o;have aC:=(d.block (w.heap.size+1) bB (by simp;omega)).trans ay.o;have bv:=Da aQ (i:=0) (u:=F (G ⟨L,0,I⟩)) rfl;have bD:L+1<wr.heap.size:=oM;have bE:L<wr.heap.size:=oM;have bF:w.heap.size+1<wr.heap.size:=oM;by_cases bh:i<v
  ·obtain⟨⟨⟨⟨aj,bn,dA,ae,af,ag,ak,ac,ad,y⟩,kA,⟨am,al⟩,ao,an⟩,vA⟩,ai⟩:∃q,ks[i]?=G q:=⟨ks[i]'(by rw[m.o];omega),by simp[m.o,bh]⟩;obtain⟨av,ax,aw,bm⟩:=(aV.o _ (lM ai)).elim fun _ h=>Ma h;dsimp only at bm;subst bm;have be:=aT.o.keep (Cm d aF.o dM);obtain⟨bk,o,e0,hb,x⟩:=be.at' ai;subst e0;unfold qh at x;dsimp only at x;have az:=x 0 (.string aj) rfl;have aY:=x 1 (O av ax aw) rfl;have aZ:=x 2 (Y Z dA) rfl;have a1:=x 3 (Y Z ae) rfl;have a2:=x 4 (Y Z af) rfl;have a3:=x 5 (Y Z ag) rfl;have a4:=x 6 (Y Z ak) rfl;have a5:=x 7 (Y Z ac) rfl;have a6:=x 8 (Y Z ad) rfl;have a7:=x 9 (Y .u8 y) rfl;have aH:=x 10 (Y Z kA) rfl;have aI:=x 11 (Y Z am) rfl;have aJ:=x 12 (Y Z al) rfl;have aK:=x 13 (Y Z ao) rfl;have aL:=x 14 (Y Z an) rfl;simp only[Nat.add_zero]at az;have bo:=Da n (i:=9) (u:=O (G ⟨bk,o,I⟩) v wc) rfl;have bp:=Za n;have bs:=Aa ai;have R:=Aa d;have z:=Aa f;have ab:=Aa n;have bq:=Aa (aU.o _ (lM ai));clear x ai be d f n
   gi_wp2
   have aO:=(eR wr).alloc (H #[.string aj,O av ax aw,Y Z dA,Y Z ae,Y Z af,Y Z ag,Y Z ak,Y Z ac,Y Z ad,Y .u8 y,Y Z kA,Y Z am,Y Z al,Y Z ao,Y Z an] 113);obtain⟨ba,bb⟩:=gX wr.heap.size;have aA:=aN wr (H #[.string aj,O av ax aw,Y Z dA,Y Z ae,Y Z af,Y Z ag,Y Z ak,Y Z ac,Y Z ad,Y .u8 y,Y Z kA,Y Z am,Y Z al,Y Z ao,Y Z an] 113);rw[bb]at aA;rw[bb];have bx:w6.heap.size<=ba:=oM;clear az aY aZ a1 a2 a3 a4 a5 a6 a7 aH aI aJ aK aL bv bo bp aQ aC;have HJ:=Aa hJ;have bu:(((ks.take i).map Prod.fst).flatMap (Qg ⟨sk,k,c,g,step,l,b⟩ (ks.map Prod.fst))).length<=14400:=by
    have l1:=Nx (fun a=>jD ⟨sk,k,c,g,step,l,b⟩ (ks.map Prod.fst) a) ((ks.take i).map Prod.fst);rw[lL,List.length_take,lL,m.o]at l1;have l3:min i v*v<=120*120:=Nat.mul_le_mul oM oM;omega
   have e2:((ks.take (i+1)).map Prod.fst).flatMap (Qg ⟨sk,k,c,g,step,l,b⟩ (ks.map Prod.fst))=((ks.take i).map Prod.fst).flatMap (Qg ⟨sk,k,c,g,step,l,b⟩ (ks.map Prod.fst))++Qg ⟨sk,k,c,g,step,l,b⟩ (ks.map Prod.fst) ⟨⟨aj,bn,dA,ae,af,ag,ak,ac,ad,y⟩,kA,(am,al),ao,an⟩:=by
    rw[Ce _ _ _ bs.o,List.map_append,List.flatMap_append];simp
   have E2:=Aa e2;clear e2;refine SN _ w w6 _ L ba sk k c g step l b ga gn gc pa pn au bk o v wc ks ps _ _ (O (G ⟨bk,o,I⟩) v wc) (Y Z v) (Y Z (i:Nat)) _ aj bn dA ae af ag ak ac ad y kA am al ao an av ax aw aT.o bi aV.o aU.o br.o bq.o aF.o aW.o ay.o bz bx bu _ ⟨rfl,rfl,rfl,rfl,rfl,rfl,rfl,rfl,rfl,rfl⟩
    ⟨0,vj,by omega,rfl,by rw[m.o];rfl,Lk R.o (Below.mono aO bl),aO.e ab.o,aA,by simpa using z.o.ext aO⟩ (fun a W bw bt aB aE ah=>?_)
   obtain⟨tt,dd⟩:=a;obtain⟨f1,f3,f8,ap,r,s,t,aq,ar,fd⟩:=bt;dsimp only at f1 f3 f8 ap r s t aq ar fd;subst fd;obtain⟨bC,aM⟩:=gX (tt.getD 78 undef);obtain⟨u2,hu,ht⟩:=Jg tt 196 f1;simp only[hu]at f3 f8 ap r s t aq ar aM;clear hu;subst ht;simp only[List.range,List.range.loop,List.map_cons,List.map_nil,f3,f8,ap,r,s,t,aq,ar,aM];have aS:=Aa aB;have aX:=Aa aE;have aG:=Aa ah;clear f1 f3 f8 ap r s t aq ar aM aB aE ah
   gi_wp2
   refine Handed.intro (v-(i+1)) (by have:=m.o;omega) (HJ.o _ _ _ ⟨⟨i+1,bw,by have:=m.o;omega,?_,by rw[m.o],aS.o,aX.o,by rw[E2.o];exact aG.o⟩,rfl,rfl,rfl,rfl,rfl,rfl⟩);show (_:T)=_;go_num
  ·obtain rfl:v=i:=oM;have e:ks.take v=ks:=lT (by rw[m.o];exact nE _);rw[e]at f;have R:=Aa d;have ab:=Aa n;have z:=Aa f;clear e d n f aQ aC
   gi_wp2
   exact HQ.o _ _ _ ⟨rfl,rfl,rfl,rfl,rfl,rfl⟩ R.o ab.o z.o
def NH(w:C)(vg vp:T)(g:LP)(ps:List Pl)(r:Ru)(hg:Ja w vg g)(hp:Jd w vp ps)(aY:Gw w)(h0:Fb g ps=0)(a8:Lb r=0):Calls Tryz.prog 38 #[U #[vg,vp],U (xg r)] w (Oi w vg vp g ps r):=by
 obtain⟨a7,a4,ab⟩:=Bs h0;have HC:=Aa (fun W (hW:Ba w W)=>My W vg vp g ps (hg.f hW) (hp.f hW) (aY.ext hW));have HS:=Aa (fun W (hW:Ba w W)=>sQ W vg vp ps (Ma hg) (hp.f hW) (aY.ext hW) a7 a4);have HU:=Aa (fun W=>Ly W r);obtain⟨ga,gn,gc,rfl⟩:=Ma hg;obtain⟨pa,pn,z,rfl⟩:=Ma hp;obtain⟨R,hR⟩:=gX (Oi w (O ga gn gc) (O pa pn z) g ps r);rw[hR];have HR:=Aa hR;have he:Ch g ps r=0:=by unfold Ch;rw[if_pos h0,a8]
 rw[h0]at HC;rw[a8]at HU;have HE:=Aa he;have bq:=Aa a7;have bp:=Aa a4;obtain⟨K,l,d,f,step,m,c⟩:=r;unfold xg at HU ⊢;dsimp only at HU;clear hg hp aY hR he a7 a4 ab h0 a8;refine(callsIn_wide (n:=5)).1 ?_;refine callsIn_of_wp_marks Tryz.func38 rfl trivial ?_ rfl;simp only[Tryz.ntmps38,List.size_toArray,List.length_cons,List.length_nil,Nat.reduceAdd,Nat.reduceSub,Array.replicate_succ,Array.replicate_zero,List.push_toArray,List.append_toArray,List.nil_append,List.cons_append]
 gi_wp2_with(first|(refine⟨trivial,?_⟩;gi_at_call 48;(refine(callsIn_wide.2 (HC.o _ ?_)).mono ?_);exact eA;rintro e w3 ⟨rfl,aD⟩;obtain⟨bZ,b1⟩:=aD.cells;(have z3:=aD.size);(simp only[wZ]at z3);(have y0:w.heap.size<w3.heap.size:=oM);(have y1:w.heap.size+1<w3.heap.size:=oM))|(refine⟨trivial,?_⟩;gi_at_call 10;refine(callsIn_wide.2 (HU.o _)).mono ?_;rintro e w4 ⟨rfl,aE⟩;obtain⟨b0,b2⟩:=aE.cells;(have z4:=aE.size);(have y2:w.heap.size<w4.heap.size:=oM);(have y3:w.heap.size+1<w4.heap.size:=oM)))
 refine⟨trivial,(callsIn_wide.2 (HS.o _ ?_)).mono ?_⟩
 ·exact eA
 rintro e w5 ⟨v5,js,rfl,v,a2,a3,ar⟩;obtain⟨a5,n5,k5,rfl⟩:=v.i;have K0:=ar.e (((eR w4).alloc (H #[Y .u8 K,Y Z l,Y Z d,Y Z f,Y Z step,Y Z m,Y Z c,O ga gn gc,O pa pn z,O I 0 0,O I 0 0,O I 0 0] 89)).alloc (H #[F (G ⟨w4.heap.size,0,I⟩)] 84) |>.e (aE.e (aD.e (Ms w (H #[O ga gn gc,O pa pn z] 39) (H #[Y .u8 K,Y Z l,Y Z d,Y Z f,Y Z step,Y Z m,Y Z c] 32)))));have K1:=ar.e (zE w4 (H #[Y .u8 K,Y Z l,Y Z d,Y Z f,Y Z step,Y Z m,Y Z c,O ga gn gc,O pa pn z,O I 0 0,O I 0 0,O I 0 0] 89) (H #[F (G ⟨w4.heap.size,0,I⟩)] 84));have K2:=ar.e (Ms w4 (H #[Y .u8 K,Y Z l,Y Z d,Y Z f,Y Z step,Y Z m,Y Z c,O ga gn gc,O pa pn z,O I 0 0,O I 0 0,O I 0 0] 89) (H #[F (G ⟨w4.heap.size,0,I⟩)] 84));obtain⟨sb,aC⟩:=gX w4.heap.size;have X4:Ba w w4:=eA;have X5:Ba w4 w5:=eA;have bO:w.heap.size+1<sb:=oM;have bP:=Ya K2;rw[aC]at K1 K2 bP;have bG:=v.js.len;have aZ:=v.js;have bF:=aZ.le;have Hn:=Aa bG.symm;have cd:n5<=9223372036854775807:=by unfold maxLen at bF;omega
 have al:n5<=120:=by
  have h9:=congrArg List.length a2;have h8:=bp.o;rw[lL,Yn]at h9;omega
 have bT:=Aa aZ;have bl:=Aa a2;have cc:=Aa a3;have aJ:∀j∈js,Ja w5 j.2 j.1.p.shape:=fun j q=>(a3 j q).f ar;have aF:=Aa aJ;have bb:=Aa K0;have bc:=Aa K1;have be:=Aa K2;have bh:=Aa X4;have bi:=Aa X5;have aV:=Aa aC;have aS:=Aa al;clear v aZ a2 a3 aJ ar aD aE bZ b1 b0 b2 K0 K1 K2 X4 X5 bG bF HC HS HU;rw[aC];clear aC
 gi_wp2
 refine UN _ w w5 sb K l d f step m c ga gn gc pa pn z a5 n5 k5 js bT.o al (fun j q=>⟨_,aF.o j q⟩) bb.o bc.o be.o bO _ ⟨rfl,rfl,rfl,rfl,rfl,rfl⟩ rfl (fun a w6 vs ak ab ba ae=>?_);obtain⟨tt,dd⟩:=a;obtain⟨f1,f3,f8,aw,ax,fd⟩:=ak;dsimp only at f1 f3 f8 aw ax fd;subst fd;obtain⟨cf,aW⟩:=gX (tt.getD 37 undef);obtain⟨u,hu,ht⟩:=Jg tt 196 f1;simp only[hu]at f3 f8 aw ax aW;clear hu;subst ht;simp only[List.range,List.range.loop,List.map_cons,List.map_nil,f3,f8,aw,ax,aW];clear f1 f3 f8 aw ax aW;have ce:=ab.size;have aB:=(ab.block (sb+1) bP sM).trans be.o;have bM:=(ab.block (w.heap.size+1) oM (by simp;omega)).trans bb.o;have ch:=Da aB (i:=0) (u:=F (G ⟨sb,0,I⟩)) rfl;obtain⟨ks,af⟩:=gX ((js.filter fun j=>Nf ⟨K,l,d,f,step,m,c⟩ j.1));rw[af]at ae;have ap:ks.map Prod.fst=Pb ⟨K,l,d,f,step,m,c⟩ ps:=by
  unfold Pb;rw[<-af,<-bl.o,List.filter_map];rfl
 have bD:∀j∈ks,Ja w5 j.2 j.1.p.shape:=fun j q=>aF.o j (by rw[<-af]at q;exact(List.mem_filter.1 q).1);have bC:∀j∈ks,j.1∈Me ps:=fun j q=>by
  rw[<-bl.o];rw[<-af]at q;exact List.mem_map_of_mem (List.mem_filter.1 q).1
 have b3:ks.length<=120:=by
  have:=List.length_filter_le (fun j:JS×T=>Nf ⟨K,l,d,f,step,m,c⟩ j.1) js;rw[af]at this;have:=aS.o;have:=Hn.o;omega
 obtain⟨wa,wn,wc,rfl⟩:=ae.i;have a0:=ae.js;have bH:=a0.len;have bI:wn<=120:=oM;have bV:=Aa bH.symm;have bk:=Aa a0;have ag:=Aa ap;have bo:=Aa bD;have aR:=Aa bC;have cm:=Da ba (i:=9) (u:=O wa wn wc) rfl;have aQ:=Aa ab;have aP:=Aa ba;have br:=Aa aB;have bt:=Aa bM;have b6:=Ya aB;clear ae ap bD bC af a0 bH b3 bM aB ab ba
 gi_wp2
 refine TN _ w w6 sb K l d f step m c ga gn gc pa pn z wa wn wc ks ps bk.o bI (fun j q=>⟨_,bo.o j q⟩) aR.o bq.o aP.o br.o bt.o bO _ ⟨rfl,rfl,rfl,rfl,rfl,rfl⟩ rfl (fun a wr vj ak ad aq o=>?_);obtain⟨tt,dd⟩:=a;obtain⟨f1,f3,f8,ay,az,fd⟩:=ak;dsimp only at f1 f3 f8 ay az fd;subst fd;obtain⟨cg,aX⟩:=gX (tt.getD 69 undef);obtain⟨u2,hu,ht⟩:=Jg tt 196 f1;simp only[hu]at f3 f8 ay az aX;clear hu;subst ht;simp only[List.range,List.range.loop,List.map_cons,List.map_nil,f3,f8,ay,az,aX];clear f1 f3 f8 ay az aX;obtain⟨av,y⟩:=gX (oh ⟨K,l,d,f,step,m,c⟩ (ks.map Prod.fst));rw[y]at o;have ao:oh ⟨K,l,d,f,step,m,c⟩ (Pb ⟨K,l,d,f,step,m,c⟩ ps)=av:=by rw[<-ag.o];exact y
 have a9:∀j∈av,Ri j:=fun j q=>by
  rw[<-y]at q;obtain⟨a,ha,q⟩:=List.mem_flatMap.1 q;obtain⟨b,hb,rfl⟩:=List.mem_map.1 q;obtain⟨qa,b4,rfl⟩:=List.mem_map.1 ha;obtain⟨qb,b5,rfl⟩:=List.mem_map.1 (List.mem_filter.1 hb).1;exact DJ bq.o bp.o (aR.o _ b4) (aR.o _ b5)
 have bL:av.length<=14400:=by
  have l1:=Nx (fun a=>jD ⟨K,l,d,f,step,m,c⟩ (ks.map Prod.fst) a) (ks.map Prod.fst);rw[show (ks.map Prod.fst).flatMap (fun a=>Qg ⟨K,l,d,f,step,m,c⟩ (ks.map Prod.fst) a)=av from y,lL,bV.o]at l1;have l3:wn*wn<=120*120:=Nat.mul_le_mul oM oM;omega
 obtain⟨qa,qn,qc,rfl⟩:=o.i;have b7:=ad.size;have aL:=(ad.block (sb+1) b6 sM).trans br.o;have ci:=Da aL (i:=0) (u:=F (G ⟨sb,0,I⟩)) rfl;have cb:=Da aq (i:=10) (u:=O qa qn qc) rfl;have aU:=Aa ao;have bW:=Aa a9;have bX:=Aa bL;have bj:=Aa ad;have bu:=Aa aq;have aa:=Aa o;have bf:=Aa (ZO wr w6.heap.size (O qa qn qc) av o a9 oM);clear y ao a9 bL ad aq o
 gi_wp2_with(refine⟨trivial,?_⟩;gi_at_call 76;refine(callsIn_wide.2 bf.o).mono ?_;rintro e w7 ⟨rfl,L,x,aK,ac,aA⟩;(have t:=Ah aA bu.o (fun e=>by have:=(aa.o.lt _ e.symm).1;omega));(have an:=Ah aA aL (fun e=>by have:=(aa.o.lt _ e.symm).1;omega));(have cl:=Da t (i:=10) (u:=O qa qn qc) rfl);(have cj:=Da an (i:=0) (u:=F (G ⟨sb,0,I⟩)) rfl))
 have a6:=ac.len;rw[lL]at a6;have a1:=ac.jts;have bz:∀j∈L,Ri j:=fun j q=>bW.o j (x.mem_iff.1 q);have bA:L.length<=14400:=by rw[x.length_eq];exact bX.o
 have bJ:qn<=14400:=by rw[a6];exact bA
 have au:w6.grownBy w7 (G sb):=Lk bj.o (Yg (base:=w6.heap.size) aA oM (fun k hk=>(aa.o.lt k hk).1));refine RN _ w7 sb K l d f step m c ga gn gc pa pn z wa wn wc qa qn qc L a1 bJ bz t an _ ⟨rfl,rfl,rfl,rfl⟩ rfl rfl (fun a wz vr Ds ak bB s aO am bE bx=>?_);obtain⟨tt,dd⟩:=a;obtain⟨f1,f8⟩:=ak;dsimp only at f1 f8 bB;subst bB;obtain⟨b8,ah⟩:=gX (tt.getD 162 undef);obtain⟨b9,ai⟩:=gX (tt.getD 163 undef);obtain⟨ca,aj⟩:=gX (tt.getD 164 undef);obtain⟨u3,hu,ht⟩:=Jg tt 196 f1;simp only[hu]at f8 ah ai aj;clear hu;subst ht;simp only[List.range,List.range.loop,List.map_cons,List.map_nil,f8,ah,ai,aj];clear f1 f8 ah ai aj;have bK:=(s.block (sb+1) (Ya an) sM).trans an;have ck:=Da bK (i:=0) (u:=F (G ⟨sb,0,I⟩)) rfl;have aG:On ⟨K,l,d,f,step,m,c⟩ ps ks L (Pc ⟨K,l,d,f,step,m,c⟩ L L.length):=⟨ag.o,by rw[aU.o];exact x,aK.imp (fun h=>Int.not_lt.2 h),rfl⟩;have X9:Ba w wz:=bh.o.trans (Gp (Gp (Gp bi.o aQ.o (by rw[aV.o];exact nE _)) au (by rw[aV.o];exact nE _)) s (by rw[aV.o];exact nE _));have aM:∀j∈ks,Ja wz j.2 j.1.p.shape:=fun j q=>(((bo.o j q).keepT (Cm aQ.o bc.o dM)).keepT (Cm au aP.o dM)).keepT (Cm s t dM);have aH:Fe wz (O wa wn wc) ks:=((bk.o.keep (Cm au aP.o dM)).keep (Cm s t dM));have aI:Re wz (O qa qn qc) L:=a1.keep (Cm s t dM);have bN:∀D∈Ds,w.heap.size<=D:=fun D hD=>by have:=bx D hD;have:=bh.o.size;have:=bi.o.size;have:=aQ.o.size;have:=au.size;omega
 have bg:=Aa aG;have bQ:=Aa X9;have bs:=Aa aM;have bm:=Aa aH;have bn:=Aa aI;have bv:=Aa aO;have aT:=Aa am;have bU:=Aa bE;have bw:=Aa bN;clear aG X9 aM aH aI aO am bE bN bx s bK x aK ac aA t an a1 bz bA au a6 bf
 gi_wp2
 refine Tv Ds _ bU.o (fun W' bY=>?_);have hS:=bY w.heap.size bw.o;refine⟨Ob #[F (G ⟨sb,0,I⟩),Y Z 0],by simp[results,Tryz.results38,go_sem],?_⟩;rw[<-HR.o];exact .inr ⟨HE.o,sb,_,_,_,ks,L,_,rfl,⟨hS.heap bv.o,bm.o.keep (hS.keep _),fun j q=>(bs.o j q).keepT (hS.keep _),bn.o.keep (hS.keep _),aT.o.is.keep (hS.keep _)⟩,bg.o,hS.ext bQ.o (nE _)⟩
def Uw(w:C)(b c:T)(g:LP)(ps:List Pl)(r:Ru)(e:Ja w b g)(f:Jd w c ps)(a:Gw w):Calls Tryz.prog 38 #[U #[b,c],U (xg r)] w (Oi w b c g ps r):=by
 by_cases d:Fb g ps=0
 ·by_cases i:Lb r=0
  ·exact NH w b c g ps r e f a d i
  ·exact WI w b c g ps r e f a d i
 ·exact XI w b c g ps r e f a d
end
section
open Go.RowKit Go.Shelf Go.Sort
def xp(w:C)(g:LP)(ps:List Pl)(r:Ru)(e:Ending)(w':C):Prop:=
 (Ch g ps r≠0/\e=.returned (Ob #[O I 0 0,Y Z (Ch g ps r)])/\Ba w w') \/
 (Ch g ps r=0/\∃v L ks rs,e=.returned (Ob #[v,Y Z 0])/\Re w' v L/\On r ps ks L rs/\Ba w w')
def tp(w:C)(g:LP)(ps:List Pl)(r:Ru)(e:Ending)(w':C):Prop:=
 (Ch g ps r≠0/\e=.returned (Ob #[O I 0 0,Y Z (Ch g ps r)])/\Ba w w') \/
 (Ch g ps r=0/\∃v L ks rs,e=.returned (Ob #[v,Y Z 0])/\Ae w' v rs/\On r ps ks L rs/\Ba w w')
def SF(w:C)(z K:T)(g:LP)(ps:List Pl)(r:Ru)(n:Ja w z g)(p:Jd w K ps)(d:Gw w):Calls Tryz.prog 11 #[U #[z,K],U (xg r)] w (xp w g ps r):=by
 have f:=Aa (fun W (m:Ba w W)=>Uw W z K g ps r (n.f m) (p.f m) (d.ext m));obtain⟨ga,gn,gc,rfl⟩:=Ma n;obtain⟨pa,pn,ac,rfl⟩:=Ma p;obtain⟨R,l⟩:=gX (xp w g ps r);rw[l];have HR:=Aa l;obtain⟨k,o⟩:=gX (Ch g ps r);have c:=Aa o;obtain⟨sk,ad,aa,ab,step,ae,v⟩:=r;unfold xg at f ⊢;dsimp only at f;clear n p d l;by_cases b:k=0
 ·subst b;clear o;go_in;go_wp2_with(go_at_call 38;refine cM (f.o _ eA) ?_;rintro e w3 (⟨a,_⟩|⟨_,sb,vs,vj,vr,ks,L,rs,rfl,x,y,s⟩);(focus(exact absurd c.o a));obtain⟨ja,jn,t,q⟩:=Ma x.joints;subst q;(have sc:=Da x.blk (i:=10) (u:=O ja jn t) rfl));rw[<-HR.o];exact .inr ⟨c.o,_,L,ks,rs,rfl,x.joints,y,eA⟩
 ·have u0:(k != 0)=true:=by simpa using b
  have j:=Aa b;clear b o;go_in;go_wp2_with(go_at_call 38;refine cM (f.o _ eA) ?_;rintro e w3 (⟨a,rfl,s⟩|⟨b,_⟩);rotate_left 1;(focus(exact absurd (c.o.symm.trans b) j.o));rw[c.o]);rw[<-HR.o];exact .inl ⟨a,by rw[c.o];rfl,eA⟩
def SO(w:C)(z K:T)(g:LP)(ps:List Pl)(r:Ru)(n:Ja w z g)(p:Jd w K ps)(d:Gw w):Calls Tryz.prog 24 #[U #[z,K],U (xg r)] w (tp w g ps r):=by
 have f:=Aa (fun W (m:Ba w W)=>Uw W z K g ps r (n.f m) (p.f m) (d.ext m));obtain⟨ga,gn,gc,rfl⟩:=Ma n;obtain⟨pa,pn,ac,rfl⟩:=Ma p;obtain⟨R,l⟩:=gX (tp w g ps r);rw[l];have HR:=Aa l;obtain⟨k,o⟩:=gX (Ch g ps r);have c:=Aa o;obtain⟨sk,ad,aa,ab,step,ae,v⟩:=r;unfold xg at f ⊢;dsimp only at f;clear n p d l;by_cases b:k=0
 ·subst b;clear o;go_in;go_wp2_with(go_at_call 38;refine cM (f.o _ eA) ?_;rintro e w3 (⟨a,_⟩|⟨_,sb,vs,vj,vr,ks,L,rs,rfl,x,y,s⟩);(focus(exact absurd c.o a));obtain⟨ja,jn,t,q⟩:=Ma x.roots;subst q;(have sc:=Da x.blk (i:=11) (u:=O ja jn t) rfl));rw[<-HR.o];exact .inr ⟨c.o,_,L,ks,rs,rfl,x.roots,y,eA⟩
 ·have u0:(k != 0)=true:=by simpa using b
  have j:=Aa b;clear b o;go_in;go_wp2_with(go_at_call 38;refine cM (f.o _ eA) ?_;rintro e w3 (⟨a,rfl,s⟩|⟨b,_⟩);rotate_left 1;(focus(exact absurd (c.o.symm.trans b) j.o));rw[c.o]);rw[<-HR.o];exact .inl ⟨a,by rw[c.o];rfl,eA⟩
end
section
open Go.RowKit Go.Shelf
attribute [local go_sem] Oper.semAt_some
def lj(e:ll):Int×Int:=
 ((e.2.1-e.1.1).tdiv (Nat.gcd (e.2.1-e.1.1).natAbs (e.2.2-e.1.2).natAbs:Nat),(e.2.2-e.1.2).tdiv (Nat.gcd (e.2.1-e.1.1).natAbs (e.2.2-e.1.2).natAbs:Nat))
def Wd(l:Int)(x a:Rat)(e:ll):Bool:=
 decide (jd x ((e.1.1:Int):Rat)<0) || (decide (jd x ((e.1.1:Int):Rat)=0)&&(decide (l<e.1.1)&&decide (0<=jd x a)))
def Xd(ps:LP)(x a:Rat):Int×Int:=((rW ps).takeWhile fun e=>!Wd (yb ps) x a e).foldl (fun _ e=>lj e) (0,0)
def Au(e:ll):Prop:=(Bd 104000 e.1.1/\Bd 104000 e.1.2/\Bd 104000 e.2.1/\Bd 104000 e.2.2)/\e.1.1<=e.2.1/\e.1≠e.2
abbrev BF:={ e:ll // Au e }
def Xh(ps:LP):Prop:=∀e∈rW ps,e.1.1<=e.2.1/\e.1≠e.2
def kU(s:Nat)(e:BF)(a:Act)(W:C):Prop:=
 ∃B,s+1+1+1+1+1+1<=B/\W.heap[B]?=G (H #[Y Z e.1.1.1,Y Z e.1.1.2] 91 (0,0))/\W.heap[B+1]?=G (H #[Y Z e.1.2.1,Y Z e.1.2.2] 91 (0,0))/\
  a.tmps.size=73/\a.tmps.getD 3 undef=F (G ⟨s,0,I⟩)/\a.tmps.getD 4 undef=F (G ⟨s+1,0,I⟩)/\a.tmps.getD 5 undef=F (G ⟨s+1+1,0,I⟩)/\a.tmps.getD 7 undef=F (G ⟨s+1+1+1+1,0,I⟩)/\
  a.tmps.getD 8 undef=F (G ⟨B,0,I⟩)/\a.tmps.getD 9 undef=F (G ⟨B+1,0,I⟩)/\a.defers=[]
def Zl(w:C)(v:T)(x a:Rat)(o:Int×Int)(W:C):Prop:=
 Ba w W/\w.heap.size+1+1+1+1+1+1<=W.heap.size/\W.heap[w.heap.size]?=G (H #[v] 146 (0,0))/\RB W (w.heap.size+1) x/\RB W (w.heap.size+1+1) a/\
  W.heap[w.heap.size+1+1+1]?=G (H #[Y Z 0,Y Z 0] 91 (0,0))/\W.heap[w.heap.size+1+1+1+1]?=G (H #[Y Z o.1,Y Z o.2] 91 (0,0))
def MG(w:C)(v:T)(l:Int)(x a:Rat)(pre:List BF)(W:C):Prop:=
 Zl w v x a (pre.foldl (fun _ e=>lj e.1) (0,0)) W/\∀e∈pre,Wd l x a e.1=false
def jU(w:C)(v:T)(l:Int)(x a:Rat)(c:Code)(pre:List BF)(W:C):Prop:=
 c = .exit 0/\∃(p:List BF)(e:BF),pre=p++[e]/\Zl w v x a (p.foldl (fun _ e=>lj e.1) (0,0)) W/\(∀e∈p,Wd l x a e.1=false)/\Wd l x a e.1=true
def Zl.ext{w:C}{v:T}{x a:Rat}{o:Int×Int}{W W':C}(h:Zl w v x a o W)(k:Ba W W'):Zl w v x a o W':=
 ⟨h.1.trans k,nT h.2.1 k.size,k.e h.2.2.1,h.2.2.2.1.ext k,h.2.2.2.2.1.ext k,k.e h.2.2.2.2.2.1,k.e h.2.2.2.2.2.2⟩
def Zl.sim{w:C}{v:T}{x a:Rat}{o:Int×Int}{W W':C}{B:Nat}(h:Zl w v x a o W)(k:jk B W W')(b:w.heap.size<=B):Zl w v x a o W':=
 ⟨k.ext h.1 b,nT h.2.1 k.size,k.heap h.2.2.1,h.2.2.2.1.sim k,h.2.2.2.2.1.sim k,k.heap h.2.2.2.2.2.1,k.heap h.2.2.2.2.2.2⟩
def Zl.put{w:C}{v:T}{x d:Rat}{o:Int×Int}{W:C}(h:Zl w v x d o W)(a:Int×Int):Zl w v x d a ((W.setCell ⟨w.heap.size+1+1+1+1,0,I⟩ (Y Z a.1)).setCell ⟨w.heap.size+1+1+1+1,1,I⟩ (Y Z a.2)):=by
 obtain⟨f,g,i,j,k,h6,c⟩:=h;have b:sd 2 W (w.heap.size+1+1+1+1):=by intro l m e;rw[c]at e;cases e
 refine⟨(f.set dO _).set dO _,by simp only[Wf];exact g,?_,(j.other dO b _).other dO (b.set _ _) _,(k.other dO b _).other dO (b.set _ _) _,?_,?_⟩
 ·rw[bS _ _ _ _ dO,bS _ _ _ _ dO];exact i
 ·rw[bS _ _ _ _ dO,bS _ _ _ _ dO];exact h6
 ·have:=Kk (Kk c 0 (Y Z a.1)) 1 (Y Z a.2);exact this
def yM{ps:LP}{x d:Rat}{f:List BF}(c:f.map (fun e=>e.1)=rW ps){p:List BF}{e:BF}(l:p++[e] <+: f)(k:∀e∈p,Wd (yb ps) x d e.1=false)(j:Wd (yb ps) x d e.1=true):Xd ps x d=p.foldl (fun _ e=>lj e.1) (0,0):=by
 obtain⟨t,rfl⟩:=l;unfold Xd;rw[<-c,List.append_assoc,List.map_append,List.takeWhile_append_of_pos (by
  intro a g;obtain⟨b,i,rfl⟩:=List.mem_map.1 g;simp[k b i])]
 rw[show ([e]++t).map (fun e:BF=>e.1)=e.1::t.map (fun e=>e.1)from rfl,List.takeWhile_cons_of_neg (by simp[j]),List.append_nil,List.foldl_map]
def iP{ps:LP}{x f:Rat}{c:List BF}(d:c.map (fun e=>e.1)=rW ps)(j:∀e∈c,Wd (yb ps) x f e.1=false):Xd ps x f=c.foldl (fun _ e=>lj e.1) (0,0):=by
 unfold Xd;have h:=List.takeWhile_append_of_pos (p:=fun e=>!Wd (yb ps) x f e) (l₁:=c.map fun e=>e.1) (l₂:=[]) (by
  intro a g;obtain⟨b,i,rfl⟩:=List.mem_map.1 g;simp[j b i])
 rw[List.append_nil,List.takeWhile_nil,List.append_nil]at h;rw[<-d,h,List.foldl_map]
def lu(w:C)(p:Int×Int)(e:Ending)(w':C):Prop:=e=.returned (U #[Y Z p.1,Y Z p.2])/\Ba w w'
def Jy(w:C)(v vx vr:T)(ps:LP)(x rt:Rat)(h:Ja w v ps)(aM:je ps)(bw:Xh ps)(hx:Cb w vx x)(hb:Rb 1000 x)(hr:Cb w vr rt)(bl:Rb 1000 rt):Calls Tryz.prog 187 #[v,vx,vr] w (lu w (Xd ps x rt)):=by
 have HL:=Aa (fun W (hW:Ba w W)=>Mp W v ps (h.f hW) (List.length_pos_iff.2 aM.1));obtain⟨a,c,rfl⟩:=h.form;obtain⟨xa,xm,xc,xs,bY,b0,bZ,rfl⟩:=hx.form;obtain⟨ya,ym,yc,ys,b1,b4,b2,rfl⟩:=hr.form;have Hb:=Aa hb;have bL:=Aa bl;have b6:=Aa aM;obtain⟨n,hn⟩:=gX ps.length;rw[hn]at h HL ⊢;have Hn:=Aa hn;obtain⟨es,bm⟩:∃es:List BF,es.map (fun e=>e.1)=rW ps:=⟨(rW ps).attachWith Au (fun e R=>⟨Pw aM.2.1 R,bw e R⟩),At _⟩;have bh:=Aa bm;clear hb bl aM hn bw;refine(callsIn_wide (n:=5)).1 ?_;refine callsIn_of_wp_marks Tryz.func187 rfl trivial ?_ rfl;simp only[Tryz.ntmps187,List.size_toArray,List.length_cons,List.length_nil,Nat.reduceAdd,Nat.reduceSub,Array.replicate_succ,Array.replicate_zero,List.push_toArray,List.append_toArray,List.nil_append,List.cons_append]
 gi_wp2_with(refine⟨trivial,?_⟩;gi_at_call 224;refine(callsIn_wide.2 (nF _ _ _ _)).mono ?_;rintro e w' ⟨rfl,rfl⟩)
 obtain⟨W0,aa⟩:=gX (((((((w.alloc (H #[O a n c] 146)).alloc (H #[O xa xm xc,N xs,O bY b0 bZ] 181)).alloc (H #[O ya ym yc,N ys,O b1 b4 b2] 181)).alloc (H #[Y Z 0,Y Z 0] 91)).alloc (H #[Y Z 0,Y Z 0] 91)).alloc (H #[O a n c] 146)));have bA:Ba w W0:=by rw[<-aa];exact((((((eR w).alloc _).alloc _).alloc _).alloc _).alloc _).alloc _
 have cd:W0.heap.size=w.heap.size+1+1+1+1+1+1:=by rw[<-aa];simp
 have bU:W0.cell? ⟨w.heap.size+1+1+1+1+1,0,I⟩=G (O a n c):=by rw[<-aa,World.cell?_alloc_at _ _ _ _ sM];rfl
 have bQ:MG w (O a n c) (yb ps) x rt [] W0:=by
  refine⟨⟨bA,by omega,?_,?_,?_,?_,?_⟩,fun e R=>by cases R⟩
  ·rw[<-aa];exact(((((eR _).alloc _).alloc _).alloc _).alloc _).alloc _ |>.e (aN w _)
  ·rw[<-aa];exact(RB.new (hx.ext ((eR w).alloc _)) sM).ext (((((eR _).alloc _).alloc _).alloc _).alloc _)
  ·rw[<-aa];exact(RB.new (hr.ext (((eR w).alloc _).alloc _)) sM).ext ((((eR _).alloc _).alloc _).alloc _)
  ·rw[<-aa];exact((eR _).alloc _).alloc _ |>.e (kc _ _ _ sM)
  ·rw[<-aa];exact(eR _).alloc _ |>.e (kc _ _ _ sM)
 rw[aa];clear aa;refine wpIn_rangeFunc_ownH rfl dM (gf:=263) (lb:=#[F (G ⟨w.heap.size+1+1+1+1+1,0,I⟩)]) rfl trivial (enters_of Tryz.func263 kM rfl)
  (kG (fun e:BF=>e.1) _ dM (w.heap.size+1+1+1+1+1) w _ _ ps es bm bU oM h bA) ze.trans (ze.put oM oM) (Below.refl _ _) (fun _=>rfl)
  (MG w (O a n c) (yb ps) x rt) (jU w (O a n c) (yb ps) x rt) (Ql (fun s W h=>by have:=h.1.2.1;omega) (fun s W W' h k=>⟨h.1.sim k oM,h.2⟩)) (fun c=>Ql (fun s W h=>by obtain⟨_,_,_,_,h,_⟩:=h;have:=h.2.1;omega) (fun s W W' h k=>by obtain⟨h0,p,e,h1,h2,h3,h4⟩:=h;exact⟨h0,p,e,h1,h2.sim k oM,h3,h4⟩)) bQ
  (fun e a' W=>kU w.heap.size e a' W) (fun e a'=>Ql (fun s W h=>by obtain⟨B,h1,h2,h3,_⟩:=h;have:=Ya h2;omega) (fun s W W' h k=>by obtain⟨B,h1,h2,h3,h4⟩:=h;exact⟨B,h1,k.heap h2,k.heap h3,h4⟩)) ?assign ?body ?done ?stop
 case assign =>
  rintro l pre e W K hI hK;unfold Sm
  gi_wp2
  have hE:Ba W ((W.alloc (H #[Y Z e.1.1.1,Y Z e.1.1.2] 91)).alloc (H #[Y Z e.1.2.1,Y Z e.1.2.2] 91)):=((eR W).alloc _).alloc _;refine hK _ _ (((KeepsOthers.alloc _ _).trans (KeepsOthers.alloc _ _)).from _) ((ze.refl _ _ W).ext hE hI.1.1.size (by have:=hI.1.2.1;omega)) ⟨hI.1.ext hE,hI.2⟩ ⟨W.heap.size,hI.1.2.1,zE W _ _,Ms W _ _,rfl,rfl,rfl,rfl,rfl,rfl,rfl,rfl⟩
 case body =>
  rintro l pre e a' W hl ⟨r,cc⟩ hI hA b8;obtain⟨tt,dd⟩:=a';obtain⟨B,hB,q1,q2,g0,g3,g4,g5,g7,g8,g9,gd⟩:=hA;dsimp only at g0 g3 g4 g5 g7 g8 g9 gd;subst gd;obtain⟨u,hu,ht⟩:=Jg tt 73 g0;simp only[hu]at g3 g4 g5 g7 g8 g9;clear hu;subst ht;simp only[List.range,List.range.loop,List.map_cons,List.map_nil,g3,g4,g5,g7,g8,g9];clear g0 g3 g4 g5 g7 g8 g9;obtain⟨⟨⟨t,az⟩,bx,bz⟩,⟨aP,bq,bs⟩⟩:=e;dsimp only at q1 q2 aP bq bs ⊢;obtain⟨⟨h1,h2,h3,h4,h5,h6,h7⟩,ac⟩:=hI;have bk:Zl w (O a n c) x rt (pre.foldl (fun _ e=>lj e.1) (0,0)) W:=⟨h1,h2,h3,h4,h5,h6,h7⟩;have ai:=Aa bk;have aj:=Aa ac;obtain⟨ar,av,au,aw,ad,af,ae,r0,r1,r2,_,_,_,zr,bD⟩:=h4.rd;obtain⟨ta,tm,tc,ts,bb,be,bc,t0,t1,t2,_,_,_,zt,bC⟩:=h5.rd;have l0:=Da h3 (i:=0) (u:=O a n c) rfl;have e0:=Da q1 (i:=0) (u:=Y Z t) rfl;have z1:=Ya q1;have z2:=Ya q2;have ap:=Aa q1;have aq:=Aa q2;obtain⟨aJ,bN,bO,bP⟩:=aP;have bi:=Bi (k:=104000) (n:=t) aJ;have ay:=Aa bi;have aW:=Aa (fun W=>Ul W t (by unfold Bd at aJ;omega) (by unfold Bd at aJ;omega));have aG:=Aa bD;have bM:=Aa bC;have bg:=Aa (fun W' (hW:Ba W W')=>HL.o W' (h1.trans hW));obtain⟨T1,a2⟩:=gX (jd x ((t:Int):Rat));have aV:=Aa a2;obtain⟨T2,a4⟩:=gX (jd x rt);have bK:=Aa a4;obtain⟨lf,aL⟩:=gX (yb ps);rw[aL]at bg;have b5:=Aa aL;have bv:Wd (yb ps) x rt ((t,az),bx,bz)=(decide (T1<0) || (decide (T1=0)&&(decide (lf<t)&&decide (0<=T2)))):=by unfold Wd;dsimp only;rw[a2,a4,aL]
  have aC:=Aa bv;have bV:0<=bx-t/\bx-t<=208000:=by unfold Bd at aJ bO;omega
  have bW:-208000<=bz-az/\bz-az<=208000:=by unfold Bd at bN bP;omega
  obtain⟨j,aR⟩:=gX (bx-t);obtain⟨f,aS⟩:=gX (bz-az);rw[aR]at bV;rw[aS]at bW;obtain⟨d,aK⟩:∃g:Nat,Nat.gcd j.natAbs f.natAbs=g:=⟨_,rfl⟩;have b7:0<d:=by
   rw[<-aK];rcases Nat.eq_zero_or_pos (Nat.gcd j.natAbs f.natAbs)with h|h
   ·exfalso;obtain⟨q1,q2⟩:=Nat.gcd_eq_zero_iff.1 h;apply bs;have:=Int.natAbs_eq_zero.1 q1;have:=Int.natAbs_eq_zero.1 q2;exact Prod.ext dO dO
   ·exact h
  have aA:=Aa (fun W'=>show Calls Tryz.prog 225 #[Y Z j,Y Z (max f (-f))] W' (fun e w'=>e=.returned (Y Z (d:Nat))/\Ba W' w') by
   have h:=rS W' j.natAbs f.natAbs oM oM;rw[aK,show ((j.natAbs:Nat):Int)=j by omega,show ((f.natAbs:Nat):Int)=max f (-f) by omega]at h;exact h)
  have aQ:lj ((t,az),bx,bz)=(j.tdiv d,f.tdiv d):=by unfold lj;dsimp only;rw[aR,aS,aK]
  have aB:=Aa aQ;have ca:(j.tdiv (d:Int)).natAbs<=208000:=by rw[Int.natAbs_tdiv];exact nT (Nat.div_le_self _ _) oM
  have cb:(f.tdiv (d:Int)).natAbs<=208000:=by rw[Int.natAbs_tdiv];exact nT (Nat.div_le_self _ _) oM
  clear aQ aK;have bj:Ea [(⟨w.heap.size+1,0,I⟩,O ar av au),(⟨w.heap.size+1,1,I⟩,N aw),(⟨w.heap.size+1,2,I⟩,O ad af ae),(⟨w.heap.size+1+1,0,I⟩,O ta tm tc),(⟨w.heap.size+1+1,1,I⟩,N ts),(⟨w.heap.size+1+1,2,I⟩,O bb be bc),(⟨w.heap.size,0,I⟩,O a n c),(⟨B,0,I⟩,Y Z t)] W.drew:=
   ⟨r0,r1,r2,t0,t1,t2,l0,e0,trivial⟩
  have bJ:=Aa bj;clear bk ac h3 h4 h5 h6 h7 r0 r1 r2 t0 t1 t2 l0 e0 bD bC a2 a4 aL bv bj bi q1 q2
  gi_wp2
  refine Tp (S:=Ea [(⟨w.heap.size+1,0,I⟩,O ar av au),(⟨w.heap.size+1,1,I⟩,N aw),(⟨w.heap.size+1,2,I⟩,O ad af ae),(⟨w.heap.size+1+1,0,I⟩,O ta tm tc),(⟨w.heap.size+1+1,1,I⟩,N ts),(⟨w.heap.size+1+1,2,I⟩,O bb be bc),(⟨w.heap.size,0,I⟩,O a n c),(⟨B,0,I⟩,Y Z t)]) kM kM bJ.o (fun b=>?_);refine sN 0 ?_
  iterate 3 refine ub ?_
  refine oN ?_;refine mc (i:=3) (aW.o _) ?_;rintro e w3 ⟨v3,rfl,bu,a6⟩;obtain⟨a3,m3,c3,s3,b3,n3,k3,rfl⟩:=bu.form;refine⟨_,rfl,(cE b a6),fun b=>?_⟩;have ag:=Aa (Am w3 (U #[O ar av au,N aw,O ad af ae]) (U #[O a3 m3 c3,N s3,O b3 n3 k3]) x ((t:Int):Rat) (aG.o.ext ((eR W).drew.trans a6)) bu (Hb.o.mono dM) (ay.o.mono dM));rw[aV.o]at ag;refine mc (i:=4) ag.o ?_;rintro e w4 ⟨rfl,bB⟩;refine⟨_,rfl,(cE b bB),fun b=>?_⟩;have X4:Ba W w4:=((eR W).drew.trans a6).trans bB;clear ag;by_cases hn:T1<0
  ·have z:Wd (yb ps) x rt ((t,az),bx,bz)=true:=by rw[aC.o,decide_eq_true hn];rfl
   refine sN 5 ?_
   iterate 2 refine ub ?_
   iterate 19 refine Te ?_
   refine ub ?_;refine oN ?_;refine Tb ?_;unfold NQ
   gi_wp2
   exact⟨Ro X4,rfl,pre,_,rfl,ai.o.ext X4,aj.o,z⟩
  by_cases hp:0<T1
  ·have b9:(T1==0)=false:=by simp;omega
   have z:Wd (yb ps) x rt ((t,az),bx,bz)=false:=by rw[aC.o,decide_eq_false hn,show decide (T1=0)=false by simp;omega];rfl
   refine sN 5 ?_
   iterate 5 refine ub ?_
   refine oN ?_;refine mc (i:=10) (aW.o _) ?_;rintro e bf ⟨bX,rfl,al,L⟩;obtain⟨aY,a8,a0,ba,aZ,a9,a7,rfl⟩:=al.form;refine⟨_,rfl,(cE b L),fun b=>?_⟩;have ag:=Aa (Am bf (U #[O ar av au,N aw,O ad af ae]) (U #[O aY a8 a0,N ba,O aZ a9 a7]) x ((t:Int):Rat) (aG.o.ext (X4.trans L)) al (Hb.o.mono dM) (ay.o.mono dM));rw[aV.o]at ag;refine mc (i:=11) ag.o ?_;rintro e ab ⟨rfl,am⟩;refine⟨_,rfl,(cE b am),fun b=>?_⟩;have aH:Ba W ab:=(X4.trans L).trans am;refine sN 12 ?_
   iterate 2 refine ub ?_
   iterate 5 refine Te ?_
   iterate 2 refine ub ?_
   iterate 4 refine Te ?_
   iterate 2 refine ub ?_
   refine oN ?_;refine Tb ?_;unfold NQ;have hX:Ba W ab:=aH;have bF:=Da (hX.e ap.o) (i:=0) (u:=Y Z t) rfl;have bG:=Da (hX.e ap.o) (i:=1) (u:=Y Z az) rfl;have bH:=Da (hX.e aq.o) (i:=0) (u:=Y Z bx) rfl;have bI:=Da (hX.e aq.o) (i:=1) (u:=Y Z bz) rfl
   gi_wp2
   refine⟨trivial,CallsIn.mono (CallsIn.inRound l (callsIn_wide.2 (aA.o _))) ?_⟩;rintro e w5 ⟨rfl,an⟩;dsimp only;have ak:=an.e (aN ab (H #[Y Z j,Y Z f] 91));have d0:=Da ak (i:=0) (u:=Y Z j) rfl;have d1:=Da ak (i:=1) (u:=Y Z f) rfl;have X5:Ba W w5:=(hX.alloc _).trans an;have bn:¬((d:Nat):Int)=0:=oM;have bp:¬d=0:=oM;have bo:(((d:Nat):Int)==0)=false:=by simp;omega
   have u1:IntKind.i64.wrap (j.tdiv d)=j.tdiv d:=iW _ ⟨by omega,by omega⟩;have u2:IntKind.i64.wrap (f.tdiv d)=f.tdiv d:=iW _ ⟨by omega,by omega⟩;have y:=(ai.o.ext X5).2.2.2.2.2.2;have o0:=Da y (i:=0) rfl;have o1:=Da y (i:=1) rfl;have of:=Za y;have bE:w.heap.size+1+1+1+1<ab.heap.size:=by have:=hX.size;omega
   have m:=Aa (show ∀q∈[((⟨ab.heap.size,0,I⟩:Oa),Value.int Z j),(⟨ab.heap.size,1,I⟩,Y Z f)],w.heap.size+1+1+1+1≠q.1.block from fun q hq h=>by
    simp at hq;rcases hq with rfl|rfl<;>(dsimp only at h;omega))
   gi_wp2
   refine Tp (S:=Ea [(⟨ab.heap.size,0,I⟩,Y Z j),(⟨ab.heap.size,1,I⟩,Y Z f)]) kM kM ⟨d0,d1,trivial⟩ (fun b=>?_);refine sN 0 ?_
   iterate 9 refine ub ?_
   refine oN ?_;refine ye (i:=9) fun K hK=>?_;go_simp;refine kO hK (Ea.set (p:=⟨w.heap.size+1+1+1+1,1,I⟩) (Ea.set (p:=⟨w.heap.size+1+1+1+1,0,I⟩) b m.o _) m.o _) (fun b=>?_);clear hK K;refine Tb ?_;unfold NQ;have aD:=(ai.o.ext X5.drew).put (j.tdiv d,f.tdiv d);have aE:KeepsFrom W0.heap.size W ((w5.drew.setCell ⟨w.heap.size+1+1+1+1,0,I⟩ (Y Z (j.tdiv d))).setCell ⟨w.heap.size+1+1+1+1,1,I⟩ (Y Z (f.tdiv d))):=((Ro X5.drew).trans ((KeepsOthers.setCell _ _ _).from _)).trans ((KeepsOthers.setCell _ _ _).from _);have aF:ze w (w.heap.size+1+1+1+1+1) W ((w5.drew.setCell ⟨w.heap.size+1+1+1+1,0,I⟩ (Y Z (j.tdiv d))).setCell ⟨w.heap.size+1+1+1+1,1,I⟩ (Y Z (f.tdiv d))):=
    (((ze.refl w _ W).ext X5.drew h1.size oM).set dO dO _).set dO dO _
   gi_wp2
   refine⟨aE,aF,?_,fun e R=>?_⟩
   ·rw[List.foldl_append,List.foldl_cons,List.foldl_nil];dsimp only;rw[aB.o];exact aD
   ·rcases List.mem_append.1 R with R|R
    ·exact aj.o e R
    ·rw[List.mem_singleton.1 R];exact z
  ·have bT:T1=0:=oM;subst bT;clear hn hp;refine sN 5 ?_
   iterate 5 refine ub ?_
   refine oN ?_;refine mc (i:=10) (aW.o _) ?_;rintro e bf ⟨bX,rfl,al,L⟩;obtain⟨aY,a8,a0,ba,aZ,a9,a7,rfl⟩:=al.form;refine⟨_,rfl,(cE b L),fun b=>?_⟩;have ag:=Aa (Am bf (U #[O ar av au,N aw,O ad af ae]) (U #[O aY a8 a0,N ba,O aZ a9 a7]) x ((t:Int):Rat) (aG.o.ext (X4.trans L)) al (Hb.o.mono dM) (ay.o.mono dM));rw[aV.o]at ag;refine mc (i:=11) ag.o ?_;rintro e ab ⟨rfl,am⟩;refine⟨_,rfl,(cE b am),fun b=>?_⟩;have aH:Ba W ab:=(X4.trans L).trans am;refine sN 12 ?_
   iterate 5 refine ub ?_
   refine oN ?_;refine mc (i:=17) (bg.o _ aH) ?_;rintro e ah ⟨rfl,aT⟩;refine⟨_,rfl,(cE b aT),fun b=>?_⟩;have aI:Ba W ah:=aH.trans aT;by_cases br:lf<t;rotate_left 1
   ·(have z:Wd (yb ps) x rt ((t,az),bx,bz)=false:=by rw[aC.o,decide_eq_false br];simp);refine sN 18 ?_
    iterate 3 refine ub ?_
    iterate 4 refine Te ?_
    (iterate 2 refine ub ?_);refine oN ?_;refine Tb ?_;unfold NQ;have hX:Ba W ah:=aI;have bF:=Da (hX.e ap.o) (i:=0) (u:=Y Z t) rfl;have bG:=Da (hX.e ap.o) (i:=1) (u:=Y Z az) rfl;have bH:=Da (hX.e aq.o) (i:=0) (u:=Y Z bx) rfl;have bI:=Da (hX.e aq.o) (i:=1) (u:=Y Z bz) rfl
    gi_wp2
    refine⟨trivial,CallsIn.mono (CallsIn.inRound l (callsIn_wide.2 (aA.o _))) ?_⟩;rintro e w5 ⟨rfl,an⟩;dsimp only;have ak:=an.e (aN ah (H #[Y Z j,Y Z f] 91));have d0:=Da ak (i:=0) (u:=Y Z j) rfl;have d1:=Da ak (i:=1) (u:=Y Z f) rfl;have X5:Ba W w5:=(hX.alloc _).trans an;have bn:¬((d:Nat):Int)=0:=oM;have bp:¬d=0:=oM;(have bo:(((d:Nat):Int)==0)=false:=by simp;omega);have u1:IntKind.i64.wrap (j.tdiv d)=j.tdiv d:=iW _ ⟨by omega,by omega⟩;have u2:IntKind.i64.wrap (f.tdiv d)=f.tdiv d:=iW _ ⟨by omega,by omega⟩;have y:=(ai.o.ext X5).2.2.2.2.2.2;have o0:=Da y (i:=0) rfl;have o1:=Da y (i:=1) rfl;have of:=Za y;(have bE:w.heap.size+1+1+1+1<ah.heap.size:=by have:=hX.size;omega);have m:=Aa (show ∀q∈[((⟨ah.heap.size,0,I⟩:Oa),Value.int Z j),(⟨ah.heap.size,1,I⟩,Y Z f)],w.heap.size+1+1+1+1≠q.1.block from fun q hq h=>by
     simp at hq;rcases hq with rfl|rfl<;>(dsimp only at h;omega))
    gi_wp2
    refine Tp (S:=Ea [(⟨ah.heap.size,0,I⟩,Y Z j),(⟨ah.heap.size,1,I⟩,Y Z f)]) kM kM ⟨d0,d1,trivial⟩ (fun b=>?_);refine sN 0 ?_
    (iterate 9 refine ub ?_);refine oN ?_;refine ye (i:=9) fun K hK=>?_;go_simp;refine kO hK (Ea.set (p:=⟨w.heap.size+1+1+1+1,1,I⟩) (Ea.set (p:=⟨w.heap.size+1+1+1+1,0,I⟩) b m.o _) m.o _) (fun b=>?_);clear hK K;refine Tb ?_;unfold NQ;have aD:=(ai.o.ext X5.drew).put (j.tdiv d,f.tdiv d);have aE:KeepsFrom W0.heap.size W ((w5.drew.setCell ⟨w.heap.size+1+1+1+1,0,I⟩ (Y Z (j.tdiv d))).setCell ⟨w.heap.size+1+1+1+1,1,I⟩ (Y Z (f.tdiv d))):=((Ro X5.drew).trans ((KeepsOthers.setCell _ _ _).from _)).trans ((KeepsOthers.setCell _ _ _).from _);have aF:ze w (w.heap.size+1+1+1+1+1) W ((w5.drew.setCell ⟨w.heap.size+1+1+1+1,0,I⟩ (Y Z (j.tdiv d))).setCell ⟨w.heap.size+1+1+1+1,1,I⟩ (Y Z (f.tdiv d))):=
     (((ze.refl w _ W).ext X5.drew h1.size oM).set dO dO _).set dO dO _
    gi_wp2
    refine⟨aE,aF,?_,fun e R=>?_⟩
    ·rw[List.foldl_append,List.foldl_cons,List.foldl_nil];dsimp only;rw[aB.o];exact aD
    ·rcases List.mem_append.1 R with R|R
     ·exact aj.o e R
     ·rw[List.mem_singleton.1 R];exact z
   refine sN 18 ?_
   iterate 5 refine ub ?_
   refine oN ?_;have aO:=Aa (Am ah (U #[O ar av au,N aw,O ad af ae]) (U #[O ta tm tc,N ts,O bb be bc]) x rt (aG.o.ext aI) (bM.o.ext aI) (Hb.o.mono dM) (bL.o.mono dM));rw[bK.o]at aO;refine mc (i:=23) aO.o ?_;rintro e ao ⟨rfl,aU⟩;refine⟨_,rfl,(cE b aU),fun b=>?_⟩;have aX:Ba W ao:=aI.trans aU;by_cases ht:0<=T2
   ·(have z:Wd (yb ps) x rt ((t,az),bx,bz)=true:=by rw[aC.o,decide_eq_true br,decide_eq_true ht];simp);refine sN 24 ?_
    (iterate 3 refine ub ?_);refine oN ?_;refine Tb ?_;unfold NQ
    gi_wp2
    exact⟨Ro aX,rfl,pre,_,rfl,ai.o.ext aX,aj.o,z⟩
   ·(have z:Wd (yb ps) x rt ((t,az),bx,bz)=false:=by rw[aC.o,decide_eq_false ht];simp);refine sN 24 ?_
    (iterate 3 refine ub ?_);refine oN ?_;refine Tb ?_;unfold NQ;have hX:Ba W ao:=aX;have bF:=Da (hX.e ap.o) (i:=0) (u:=Y Z t) rfl;have bG:=Da (hX.e ap.o) (i:=1) (u:=Y Z az) rfl;have bH:=Da (hX.e aq.o) (i:=0) (u:=Y Z bx) rfl;have bI:=Da (hX.e aq.o) (i:=1) (u:=Y Z bz) rfl
    gi_wp2
    refine⟨trivial,CallsIn.mono (CallsIn.inRound l (callsIn_wide.2 (aA.o _))) ?_⟩;rintro e w5 ⟨rfl,an⟩;dsimp only;have ak:=an.e (aN ao (H #[Y Z j,Y Z f] 91));have d0:=Da ak (i:=0) (u:=Y Z j) rfl;have d1:=Da ak (i:=1) (u:=Y Z f) rfl;have X5:Ba W w5:=(hX.alloc _).trans an;have bn:¬((d:Nat):Int)=0:=oM;have bp:¬d=0:=oM;(have bo:(((d:Nat):Int)==0)=false:=by simp;omega);have u1:IntKind.i64.wrap (j.tdiv d)=j.tdiv d:=iW _ ⟨by omega,by omega⟩;have u2:IntKind.i64.wrap (f.tdiv d)=f.tdiv d:=iW _ ⟨by omega,by omega⟩;have y:=(ai.o.ext X5).2.2.2.2.2.2;have o0:=Da y (i:=0) rfl;have o1:=Da y (i:=1) rfl;have of:=Za y;(have bE:w.heap.size+1+1+1+1<ao.heap.size:=by have:=hX.size;omega);have m:=Aa (show ∀q∈[((⟨ao.heap.size,0,I⟩:Oa),Value.int Z j),(⟨ao.heap.size,1,I⟩,Y Z f)],w.heap.size+1+1+1+1≠q.1.block from fun q hq h=>by
     simp at hq;rcases hq with rfl|rfl<;>(dsimp only at h;omega))
    gi_wp2
    refine Tp (S:=Ea [(⟨ao.heap.size,0,I⟩,Y Z j),(⟨ao.heap.size,1,I⟩,Y Z f)]) kM kM ⟨d0,d1,trivial⟩ (fun b=>?_);refine sN 0 ?_
    (iterate 9 refine ub ?_);refine oN ?_;refine ye (i:=9) fun K hK=>?_;go_simp;refine kO hK (Ea.set (p:=⟨w.heap.size+1+1+1+1,1,I⟩) (Ea.set (p:=⟨w.heap.size+1+1+1+1,0,I⟩) b m.o _) m.o _) (fun b=>?_);clear hK K;refine Tb ?_;unfold NQ;have aD:=(ai.o.ext X5.drew).put (j.tdiv d,f.tdiv d);have aE:KeepsFrom W0.heap.size W ((w5.drew.setCell ⟨w.heap.size+1+1+1+1,0,I⟩ (Y Z (j.tdiv d))).setCell ⟨w.heap.size+1+1+1+1,1,I⟩ (Y Z (f.tdiv d))):=((Ro X5.drew).trans ((KeepsOthers.setCell _ _ _).from _)).trans ((KeepsOthers.setCell _ _ _).from _);have aF:ze w (w.heap.size+1+1+1+1+1) W ((w5.drew.setCell ⟨w.heap.size+1+1+1+1,0,I⟩ (Y Z (j.tdiv d))).setCell ⟨w.heap.size+1+1+1+1,1,I⟩ (Y Z (f.tdiv d))):=
     (((ze.refl w _ W).ext X5.drew h1.size oM).set dO dO _).set dO dO _
    gi_wp2
    refine⟨aE,aF,?_,fun e R=>?_⟩
    ·rw[List.foldl_append,List.foldl_cons,List.foldl_nil];dsimp only;rw[aB.o];exact aD
    ·rcases List.mem_append.1 R with R|R
     ·exact aj.o e R
     ·rw[List.mem_singleton.1 R];exact z
 case done =>
  rintro D ys W hD rfl ⟨⟨h1,h2,h3,h4,h5,h6,h7⟩,ac⟩ hK;have hR:=iP bh.o ac;obtain⟨⟨ox,oz⟩,ho⟩:∃o,ys.foldl (fun _ e=>lj e.1) ((0,0):Int×Int)=o:=⟨_,rfl⟩;rw[ho]at h7 hR;have HR:=Aa hR;have e0:=Da h7 (i:=0) (u:=Y Z ox) rfl;have e1:=Da h7 (i:=1) (u:=Y Z oz) rfl;have f0:=Da h6 (i:=0) (u:=Y Z 0) rfl;have f1:=Da h6 (i:=1) (u:=Y Z 0) rfl;have ff:=Za h6;clear hR ho
  gi_wp2
  have a1:=Kk (Kk h6 0 (Y Z ox)) 1 (Y Z oz);have X:=(h1.set (p:=⟨w.heap.size+1+1+1,0,I⟩) dO (Y Z ox)).set (p:=⟨w.heap.size+1+1+1,1,I⟩) dO (Y Z oz);refine Tv [D] _ ⟨by simp,fun E hE=>?_⟩ (fun W' a5=>?_)
  ·rw[List.mem_singleton.1 hE,bS _ _ _ _ dO,bS _ _ _ _ dO];exact hK
  ·have hS:=a5 w.heap.size (fun E hE=>by rw[List.mem_singleton.1 hE];omega);have h8:=hS.heap a1;have c0:=Da h8 (i:=0) (u:=Y Z ox) rfl;have c1:=Da h8 (i:=1) (u:=Y Z oz) rfl;refine⟨U #[Y Z ox,Y Z oz],by simp[results,Tryz.results187,go_sem,c0,c1],?_⟩;rw[HR.o];exact⟨rfl,hS.ext X (nE _)⟩
 case stop =>
  rintro D c pre W hD bt ⟨rfl,p,e,rfl,⟨h1,h2,h3,h4,h5,h6,h7⟩,ac,z⟩ hK;have hR:=yM bh.o bt ac z;obtain⟨⟨ox,oz⟩,ho⟩:∃o,p.foldl (fun _ e=>lj e.1) ((0,0):Int×Int)=o:=⟨_,rfl⟩;rw[ho]at h7 hR;have HR:=Aa hR;have e0:=Da h7 (i:=0) (u:=Y Z ox) rfl;have e1:=Da h7 (i:=1) (u:=Y Z oz) rfl;have f0:=Da h6 (i:=0) (u:=Y Z 0) rfl;have f1:=Da h6 (i:=1) (u:=Y Z 0) rfl;have ff:=Za h6;clear hR ho
  gi_wp2
  have a1:=Kk (Kk h6 0 (Y Z ox)) 1 (Y Z oz);have X:=(h1.set (p:=⟨w.heap.size+1+1+1,0,I⟩) dO (Y Z ox)).set (p:=⟨w.heap.size+1+1+1,1,I⟩) dO (Y Z oz);refine Tv [D] _ ⟨by simp,fun E hE=>?_⟩ (fun W' a5=>?_)
  ·rw[List.mem_singleton.1 hE,bS _ _ _ _ dO,bS _ _ _ _ dO];exact hK
  ·have hS:=a5 w.heap.size (fun E hE=>by rw[List.mem_singleton.1 hE];omega);have h8:=hS.heap a1;have c0:=Da h8 (i:=0) (u:=Y Z ox) rfl;have c1:=Da h8 (i:=1) (u:=Y Z oz) rfl;refine⟨U #[Y Z ox,Y Z oz],by simp[results,Tryz.results187,go_sem,c0,c1],?_⟩;rw[HR.o];exact⟨rfl,hS.ext X (nE _)⟩
end
section
open Go.RowKit Go.Shelf
def qR(w:C)(d f:T)(b:Int)(o:b<0)(g:∃a n c,d=O a n c)(i:∃a n c,f=O a n c):Calls Tryz.prog 182 #[U #[d,f],Y Z b] w fun e j=>e=.returned d/\Ba w j:=by obtain⟨k,m,l,rfl⟩:=g;obtain⟨p,r,q,rfl⟩:=i;go_in;go_wp2;go_ret;exact⟨rfl,eA⟩
def yN(w:C)(l m:T)(ps:List Pl)(i:Nat)(p:Pl)(x:∃a n c,l=O a n c)(d:ld w m ps)(j:ps[i]?=G p):Calls Tryz.prog 182 #[U #[l,m],Y Z i] w fun e q=>∃v,e=.returned v/\Ja q v (Kb p)/\Ba w q:=by obtain⟨ga,gn,gc,rfl⟩:=x;obtain⟨sa,n,sc,rfl⟩:=Ma d;have z:=d.len;have g:=d.le;obtain⟨b,o,s,vl,vu,rfl,hb,t,u,f,k⟩:=d.at' j;obtain⟨K,R,L,rfl⟩:=Ma f;have W:=k 11 (O K R L) rfl;have y:=(lS.1 j).1;have p1:(0:Int)<=(i:Int):=oM;have p2:(i:Int)<(n:Int):=oM;have p3:i<n:=oM;have p4:¬(i:Int)<0:=oM;have r:=Aa f;clear d j k t u f z g y;go_in;go_wp2;go_ret;exact⟨_,rfl,r.o.f eA,eA⟩
def Se(n:Nat)(i a:Int):Bool:=decide (i<0) || (decide ((n:Int)<=i) || (decide (a<0) || decide (50<a)))
def mN(w:C)(j:T)(l:Option Oa)(n m:Nat)(i b:Int)(k:∃a n c,j=O a n c):Calls Tryz.prog 137 #[U #[j,O l n m],Y Z i,Y Z b] w fun e o=>e=.returned (N (Se n i b))/\Ba w o:=by
 obtain⟨p,r,q,rfl⟩:=k;by_cases d:i<0
 ·have e:Se n i b=true:=by unfold Se;simp[d]
  rw[e];go_in;go_wp2;go_ret;exact⟨rfl,eA⟩
 by_cases f:(n:Int)<=i
 ·have e:Se n i b=true:=by unfold Se;simp[f]
  rw[e];go_in;go_wp2;go_ret;exact⟨rfl,eA⟩
 by_cases g:b<0
 ·have e:Se n i b=true:=by unfold Se;simp[g]
  rw[e];go_in;go_wp2;go_ret;exact⟨rfl,eA⟩
 ·have e:Se n i b=decide (50<b):=by unfold Se;rw[decide_eq_false d,decide_eq_false f,decide_eq_false g];rfl
  rw[e];go_in;go_wp2;go_ret;exact⟨rfl,eA⟩
def vN(w:C)(o a:Obj):((w.alloc o).alloc a).heap[w.heap.size+1]?=G a:=kc _ _ _ sM
def Ll(w:C)(v:T)(x z:Rat):Prop:=∃a m c s a2 m2 c2 b n k t b2 n2 k2,v=U #[O a m c,N s,O a2 m2 c2,O b n k,N t,O b2 n2 k2]/\Cb w (U #[O a m c,N s,O a2 m2 c2]) x/\Cb w (U #[O b n k,N t,O b2 n2 k2]) z
def Ll.ext{w w':C}{v:T}{x z:Rat}(h:Ll w v x z)(k:Ba w w'):Ll w' v x z:=by obtain⟨a,m,c,s,d,p,f,b,n,l,t,e,q,o,g,i,j⟩:=h;exact⟨a,m,c,s,d,p,f,b,n,l,t,e,q,o,g,i.ext k,j.ext k⟩
def Ty(w:C)(vx:T)(x:Rat)(p:Pl)(m:Nat)(s vl vu:T)(y:Cb w vx x)(hb:Rb 1000 x)(j:w.heap[m]?=G (H (Ye p s vl vu) 202 (0,0)))(hl:Ja w vl (Ga p))(ac:je (Ga p)):Calls Tryz.prog 185 #[vx,F (G ⟨m,0,I⟩)] w fun e w'=>∃v,e=.returned v/\Ll w' v x (Lh (Ga p) x)/\Ba w w':=by
 have HA:=Aa (fun W (hW:Ba w W)=>xx W vl vx (Ga p) x (hl.f hW) ac (y.ext hW) hb);obtain⟨L,xm,R,xs,d,g,f,rfl⟩:=y.form;obtain⟨la,ln,lc,rfl⟩:=Ma hl;have ae:=Da j (i:=10) (u:=O la ln lc) rfl;have zb:=Ya j;have af:m<w.heap.size+1:=oM;have ag:m<w.heap.size+1+1:=oM;obtain⟨q,t⟩:=gX (Lh (Ga p) x);rw[t]at HA ⊢;have Hx:=Aa y;clear hl j y t;go_in;go_wp2;refine od [(⟨w.heap.size,0,I⟩,O L xm R),(⟨w.heap.size,1,I⟩,N xs),(⟨w.heap.size,2,I⟩,O d g f),(⟨m,10,I⟩,O la ln lc)] cA fun c=>?_;refine sN 0 ?_
 iterate 4 refine ub ?_
 refine oN ?_;refine mc (i:=4) (HA.o _ eA) ?_;rintro e z ⟨v3,rfl,k,l⟩;obtain⟨a3,m3,c3,s3,b3,n3,k3,rfl⟩:=k.form;refine⟨_,rfl,(cE c l),fun c=>?_⟩;refine Qa (i:=5) ?_;have b:=l.e (vN w (H #[O L xm R,N xs,O d g f] 181) (H #[O I 0 0,N false,O I 0 0,O I 0 0,N false,O I 0 0] 183));have k0:=Da b (i:=0) (u:=O I 0 0) rfl;have k1:=Da b (i:=1) (u:=N false) rfl;have k2:=Da b (i:=2) (u:=O I 0 0) rfl;have ad:=Da b (i:=3) (u:=O I 0 0) rfl;have k4:=Da b (i:=4) (u:=N false) rfl;have k5:=Da b (i:=5) (u:=O I 0 0) rfl;have kf:=Za b;have o:Ba w z:=((((eR w).alloc _).alloc _).drew).trans l;have a:=Aa (show ∀q∈[((⟨w.heap.size,0,I⟩:Oa),Value.slice L xm R),(⟨w.heap.size,1,I⟩,N xs),(⟨w.heap.size,2,I⟩,O d g f),(⟨m,10,I⟩,O la ln lc)],w.heap.size+1≠q.1.block from fun q t h=>by
  simp at t;rcases t with rfl|rfl|rfl|rfl<;>(dsimp only at h;omega))
 have aa:=Aa b;have n:=Aa o;have ab:=Aa k;clear b o k;refine ye (i:=6) fun K hK=>?_;go_simp;refine kO hK (Ea.set (p:=⟨w.heap.size+1,5,I⟩) (Ea.set (p:=⟨w.heap.size+1,4,I⟩) (Ea.set (p:=⟨w.heap.size+1,3,I⟩) (Ea.set (p:=⟨w.heap.size+1,2,I⟩) (Ea.set (p:=⟨w.heap.size+1,1,I⟩) (Ea.set (p:=⟨w.heap.size+1,0,I⟩) c a.o _) a.o _) a.o _) a.o _) a.o _) a.o _) (fun c=>?_);clear hK K;refine Tb ?_;go_wp2;have n0:sd 2 z (w.heap.size+1):=by intro cs fr e;rw[aa.o]at e;cases e
 have r:∀(u0 u1 u2 u3 u4 u5:T),Ka 2 z ((((((z.setCell ⟨w.heap.size+1,0,I⟩ u0).setCell ⟨w.heap.size+1,1,I⟩ u1).setCell ⟨w.heap.size+1,2,I⟩ u2).setCell ⟨w.heap.size+1,3,I⟩ u3).setCell ⟨w.heap.size+1,4,I⟩ u4).setCell ⟨w.heap.size+1,5,I⟩ u5):=fun u0 u1 u2 u3 u4 u5=>by
  repeat(first|with_reducible exact Ka.refl _ _|(with_reducible refine Ka.y ?_ ?_ _)|with_reducible exact n0|with_reducible refine sd.set ?_ _ _)
 refine bR (v:=U #[O L xm R,N xs,O d g f,O a3 m3 c3,N s3,O b3 n3 k3]) (by simp[results,Tryz.results185,go_sem,k0,k1,k2,ad,k4,k5,kf]) rfl ⟨_,rfl,⟨_,_,_,_,_,_,_,_,_,_,_,_,_,_,rfl,(Hx.o.ext n.o).keep (r _ _ _ _ _ _),ab.o.keep (r _ _ _ _ _ _)⟩,?_⟩
 repeat(first|with_reducible exact n.o|(with_reducible refine Ba.set ?_ dO _))
end
section
open Go.RowKit Go.Shelf
attribute [local go_sem] Oper.semAt_some
def Bj(o:Rat×Rat)(x:Rat):Rat×Rat:=(ke (-1) [o.1,x],ke 1 [o.2,x])
def Dc(f:Rat->Rat)(o:Rat×Rat)(x:Rat):Rat×Rat:=if (f x).num.sign<=0 then Bj o x else o
def Gg(f:Rat->Rat)(y x:Rat):Rat:=y+f y/(f y-f x)*(x-y)
def Bf(f:Rat->Rat)(o:Rat×Rat)(y x:Rat):Rat×Rat:=if (f x).num.sign*(f y).num.sign<0 then Bj o (Gg f y x)else o
def Bc(f:Rat->Rat)(a:List Rat)(o:Rat×Rat):Nat->Rat×Rat
 | 0=>o
 | i+1=>if i=0 then Dc f (Bc f a o i) (a.getD i 0)else Bf f (Dc f (Bc f a o i) (a.getD i 0)) (a.getD (i-1) 0) (a.getD i 0)
def Gb(s:Sp)(a:Int)(x:Rat):Rat:=Ub s x-(a:Rat)
def Cd(s:Sp)(a:Int):Bool:=decide ((Ta s).2.num.sign<0) || decide (0<jd (Ta s).2 (a:Rat))
def Wc(s:Sp)(a:Int):Option (Rat×Rat):=
 if Cd s a=true then I else G (Bc (Gb s a) (Mc s) ((Ta s).1,(Ta s).1) (Mc s).length)
def Rb.up{j k:Nat}{q:Rat}(h:Rb j q)(a:j<=k):Rb k q:=by exact⟨h.1.mono a,h.2.mono a⟩
def CE{P:Rat->Prop}(way:Int){p q:Rat}(a:P p)(b:P q):P (ke way [p,q]):=by show P (Je way p q);rcases pE way p q with e|e<;>rw[e]<;>assumption
def Rb.wid{k:Nat}{o:Rat×Rat}{x:Rat}(h:Rb k o.1/\Rb k o.2)(a:Rb k x):Rb k (Bj o x).1/\Rb k (Bj o x).2:=⟨CE _ h.1 a,CE _ h.2 a⟩
def Rb.pin_g{s:Sp}{a:Int}{x:Rat}(c:Rb 1 x)(h:Kg s)(b:Bd 104000 a):Rb 47 (Gb s a x):=
 (Rb.gap c h).sub (Rb.int (by unfold Bd at b;unfold Lm;have d:(B:Int) ^ 23 ≥ 104001:=dM;omega) dM)
def Rb.cross{f:Rat->Rat}{y x:Rat}(b:Rb 1 y)(e:Rb 1 x)(a:Rb 47 (f y))(d:Rb 47 (f x)):Rb 291 (Gg f y x):=by have c:Rb (47+(2*47+1)+(2*1+1)) (f y/(f y-f x)*(x-y)):=(a.div (a.sub d) dM).mul (e.sub b);exact(b.up (by decide:1<=145)).add c
def Rb.reach_n{f:Rat->Rat}{a:List Rat}{o:Rat×Rat}(k:Rb 300 o.1/\Rb 300 o.2)(e:∀q∈a,Rb 1 q)(j:∀q∈a,Rb 47 (f q)):∀n,n<=a.length->Rb 300 (Bc f a o n).1/\Rb 300 (Bc f a o n).2:=by
 intro n;induction n with
 | zero=>intro _;exact k
 | succ i l =>
  intro m;have g:=l oM;have d:a.getD i 0∈a:=by rw[gD,gE oM];exact List.getElem_mem _
  have c:Rb 300 (Dc f (Bc f a o i) (a.getD i 0)).1/\Rb 300 (Dc f (Bc f a o i) (a.getD i 0)).2:=by
   unfold Dc;split
   ·exact Rb.wid g ((e _ d).up dM)
   ·exact g
  unfold Bc;split
  ·exact c
  ·have b:a.getD (i-1) 0∈a:=by rw[gD,gE oM];exact List.getElem_mem _
   unfold Bf;split
   ·exact Rb.wid c ((Rb.cross (e _ b) (e _ d) (j _ b) (j _ d)).up dM)
   ·exact c
def Jf.setOther{w:C}{base:Nat}{v:T}{b:List Rat}(h:Jf w base v b){p:Oa}(m:p.block<base)(k:sd 2 w p.block)(u:T):Jf (w.setCell p u) base v b:=by obtain⟨d,a,f,g⟩:=h;refine⟨d,a.setOther (fun e=>?_) u,f,fun i c q j l=>Cb.keep (g i c q j l) (Ka.y (Ka.refl _ _) k u)⟩;have:=(a.lt _ e).1;omega
def Nj(w:C)(s:Sp)(b c d:T)(a:List Rat)(o:Rat×Rat)(W:C):Prop:=
 Ba w W/\w.heap.size+1+1+1<=W.heap.size/\W.heap[w.heap.size]?=G (H #[b,c,Y Z s.lo,Y Z s.hi] 265 (0,0))/\
  RB W (w.heap.size+1) o.1/\RB W (w.heap.size+1+1) o.2/\Jf W (w.heap.size+1+1+1) d a
def Nj.ext{w:C}{s:Sp}{b c d:T}{a:List Rat}{o:Rat×Rat}{W W':C}(h:Nj w s b c d a o W)(k:Ba W W'):Nj w s b c d a o W':=
 ⟨h.1.trans k,nT h.2.1 k.size,k.e h.2.2.1,h.2.2.2.1.ext k,h.2.2.2.2.1.ext k,h.2.2.2.2.2.ext k⟩
def Ol(W:C){b:Nat}(y:b=W.heap.size){a g e j:Option Oa}{m c o c2 n k r l:Nat}{s t:Bool}{p q:Rat}(v:Cb W (U #[O a m c,N s,O g o c2]) p)(w:Cb W (U #[O e n k,N t,O j r l]) q):Yh (W.alloc (H #[O a m c,N s,O g o c2,O e n k,N t,O j r l] 181)) (O (G ⟨b,0,I⟩) 2 2) [p,q]:=by
 subst y;have u:Ba W (W.alloc (H #[O a m c,N s,O g o c2,O e n k,N t,O j r l] 181)):=(eR W).alloc _;refine⟨[[O a m c,N s,O g o c2],[O e n k,N t,O j r l]],rfl,by simp,⟨rfl,_,_,rfl,nE _,by unfold maxLen;decide,.inr ⟨_,0,_,_,rfl,aN W _,fun i x h=>by simpa using h⟩⟩,fun i z x d f=>?_⟩
 match i,d,f with
 | 0,d,f=>cases d;cases f;exact v.ext u
 | 1,d,f=>cases d;cases f;exact w.ext u
 | i+2,d,f=>simp at d
def Nj.put2{w:C}{s:Sp}{v1 v2 vq:T}{qs:List Rat}{o:Rat×Rat}{W:C}(h:Nj w s v1 v2 vq qs o W){a j e v:Option Oa}{m c L c2 n k R z:Nat}{s1 t:Bool}{p q:Rat}(x:Cb W (U #[O a m c,N s1,O j L c2]) p)(y:Cb W (U #[O e n k,N t,O v R z]) q){W1 g:C}(d:((W.setCell ⟨w.heap.size+1,0,I⟩ (O a m c)).setCell ⟨w.heap.size+1,1,I⟩ (N s1)).setCell ⟨w.heap.size+1,2,I⟩ (O j L c2)=W1)(f:((W1.setCell ⟨w.heap.size+1+1,0,I⟩ (O e n k)).setCell ⟨w.heap.size+1+1,1,I⟩ (N t)).setCell ⟨w.heap.size+1+1,2,I⟩ (O v R z)=g):Nj w s v1 v2 vq qs (p,q) g/\g.heap.size=W.heap.size/\(∀b r,w.heap.size+1+1<b->RB W b r->RB g b r):=by
 obtain⟨h1,h2,h3,h4,h5,h6⟩:=h;obtain⟨q1,q2,q3,q4,q5,q6⟩:=RB.copy2 h4 h5 oM x y d f;have i:=h4.not;have N2:=h5.not;refine⟨⟨q6 w h1 oM oM,by omega,?_,q1,q2,?_⟩,q5,fun b r hb=>q3 b r oM oM⟩
 ·rw[<-f,<-d]
  repeat rw[bS _ _ _ _ dO]
  exact h3
 ·have l:w.heap.size+1<w.heap.size+1+1+1:=oM;have u:w.heap.size+1+1<w.heap.size+1+1+1:=oM;have g1:=((h6.setOther (p:=⟨w.heap.size+1,0,I⟩) l i (O a m c)).setOther (p:=⟨w.heap.size+1,1,I⟩) l (i.set _ _) (N s1)).setOther (p:=⟨w.heap.size+1,2,I⟩) l ((i.set _ _).set _ _) (O j L c2);rw[d]at g1;have K:sd 2 W1 (w.heap.size+1+1):=by rw[<-d];exact((N2.set _ _).set _ _).set _ _
  have g2:=((g1.setOther (p:=⟨w.heap.size+1+1,0,I⟩) u K (O e n k)).setOther (p:=⟨w.heap.size+1+1,1,I⟩) u (K.set _ _) (N t)).setOther (p:=⟨w.heap.size+1+1,2,I⟩) u ((K.set _ _).set _ _) (O v R z);rw[f]at g2;exact g2
end
section
open Go.RowKit Go.Shelf Go.Sort
def WO{β:Type}[Inhabited β]{lt:β->β->Bool}(hO:SWO lt)(d:Array β)(l:Nat):(pdq lt d 0 d.size l true true).toList.Pairwise fun x y=>lt y x=false:=by obtain⟨⟨g,_,_⟩,f⟩:=pdq_sorts lt hO d 0 d.size l true true (Nat.zero_le _) (nE _) (Or.inl rfl);rw[List.pairwise_iff_getElem];intro i j c e a;simp at c e;have b:=f i j (Nat.zero_le _) a oM;rw[getElem!_pos _ i c,getElem!_pos _ j e]at b;simpa using b
def Az{ps:LP}(h:∀x∈ps,BP x):(tf ps).Pairwise fun x y=>x.1<=y.1:=by unfold tf Ci;rw[dif_pos h];rw[List.pairwise_map];have b:=@WO {x // BP x} ⟨FA⟩ _ po (ps.attachWith BP h).toArray (Lib.bitLen ps.length);rw[show (ps.attachWith BP h).toArray.size=ps.length by simp]at b;refine b.imp fun {x y} a=>?_;rw[tw]at a;simpa using a
def BG{α:Type}[DecidableEq α]:∀(a:α)(r:List α),∃t,Na (a::r)=a::t
 | a,[]=>⟨[],rfl⟩
 | a,b::r=>by
  by_cases h:a=b
  ·obtain⟨t,e⟩:=BG b r;exact⟨t,by rw[Na,if_pos h,e,h]⟩
  ·exact⟨Na (b::r),by rw[Na,if_neg h]⟩
def Xh.cons{a b:Int×Int}{r:LP}(d:a.1<=b.1)(f:a≠b)(h:Xh (b::r)):Xh (a::b::r):=by
 intro e c;unfold rW at c;rcases List.mem_cons.1 c with rfl|c
 ·exact⟨d,f⟩
 ·exact h e c
def oG:∀(l:LP),l.Pairwise (fun x y=>x.1<=y.1)->Xh (Na l)
 | [],_=>by intro e f;simp[Na,rW]at f
 | [a],_=>by intro e f;simp[Na,rW]at f
 | a::b::r,h=>by
  have d:=oG (b::r) (List.pairwise_cons.1 h).2;by_cases c:a=b
  ·rw[Na,if_pos c];exact d
  ·rw[Na,if_neg c];obtain⟨t,e⟩:=BG b r;rw[e]at d ⊢;exact Xh.cons ((List.pairwise_cons.1 h).1 b List.mem_cons_self) c d
def IO{k:Int}{a:LP}(c:Zf k a)(b:k<=1000000):Xh (Ic a):=
 oG _ (Az fun x d=>by
  have:=c x d;unfold BP;exact⟨this.1.mono b,this.2.mono b⟩)
def PK{p:Pl}(h:Ia p=true):Xh (Kb p):=by obtain⟨a,c,Vi⟩:=ko h;have b:=Lr a (nE _);exact IO b.2 dM
def QP{g:LP}(h:Bb g=true):Xh g:=by
 unfold Bb at h;simp only[Bool.and_eq_true,List.all_eq_true,List.mem_range]at h;intro e d;unfold rW at d;obtain⟨i,f,rfl⟩:=List.getElem_of_mem d;have c:i+1<g.length:=by rw[List.length_zip,List.length_tail]at f;omega
 have a:=h.2 (i+1) c;unfold Kf at a;simp only[Bool.and_eq_true,Bool.or_eq_true,decide_eq_true_eq,beq_iff_eq,Nat.add_one_ne_zero,false_or,Nat.add_sub_cancel]at a;have b:=a.2.2;rw[gD,gD,gE oM,gE c]at b;simp only[Option.getD_some]at b;have j:(g.zip g.tail)[i]'f=(g[i]' oM,g[i+1]'c):=sM;rw[j];exact⟨by dsimp only;omega,fun e=>by dsimp only at e;rw[e]at b;omega⟩
end
section
open Go.RowKit Go.Shelf
attribute [local go_sem] Oper.semAt_some
def Uk(w:C)(o:Option (Rat×Rat))(e:Ending)(w':C):Prop:=Ba w w'/\∃r1 r2,Cb w' r1 (o.getD (0,0)).1/\Cb w' r2 (o.getD (0,0)).2/\e=.returned (Ob #[r1,r2,N o.isSome])
def Nw{k:Nat}{a:Int}(h:Bd 104000 a)(b:1<=k):Rb k (a:Rat):=(Bi h).up b
def GM(w:C)(v1 v2:T)(s:Sp)(b:Int)(h1:Ja w v1 s.over)(h2:Ja w v2 s.under)(ac:Kg s)(hp:Bd 104000 b)(o:Cd s b=true):Calls Tryz.prog 184 #[qj s v1 v2,Y Z b] w (Uk w (Wc s b)):=by
 have HS:=Aa (fun(W:C)(hW:Ba w W)=>Ny W v1 v2 s (h1.f hW) (h2.f hW) ac);obtain⟨a1,m1,rfl⟩:=h1.form;obtain⟨a2,m2,rfl⟩:=h2.form;obtain⟨n1,f1⟩:=gX s.over.length;obtain⟨n2,f2⟩:=gX s.under.length;obtain⟨lo,aq⟩:=gX s.lo;obtain⟨hi,ap⟩:=gX s.hi;have ao:=Aa (show Rb 23 (Ta s).2 by obtain⟨j1,j2⟩:=Jp (Ub s) (ur s);unfold Ta;rw[j2];exact Rb.gap (Ik ac _ j1) ac);have Hp:=Aa hp;have aB:-9223372036854775808<=b:=by unfold Bd at hp;omega
 have aC:b<=9223372036854775807:=by unfold Bd at hp;omega
 have HC:=Aa (fun(W:C)(va vb:T)(ha:Cb W va (Ta s).2)(hb:Cb W vb (b:Rat))=>Am W va vb _ _ ha hb (Nh ao.o oM) (Nh (Nw (k:=1) Hp.o oM) oM));have hR:Wc s b=I:=by unfold Wc;rw[if_pos o]
 rw[hR];unfold Cd at o;obtain⟨q1,au⟩:=gX ((Ta s).1);obtain⟨q2,ah⟩:=gX ((Ta s).2);unfold qj at HS ⊢;rw[ah]at o HC ao;rw[au,ah]at HS;simp only[f1,f2,aq,ap]at HS ⊢;clear h1 h2 ac f1 f2 aq ap hR au ah hp;go_in;go_wp2_with(((go_at_call 200;refine cM (HS.o _ eA) ?_;rintro e w1 ⟨r1,r2,rfl,av,aa,ab⟩;obtain⟨a4,m4,c4,s4,b4,n4,k4,rfl⟩:=av.form;obtain⟨a5,m5,c5,s5,b5,n5,k5,rfl⟩:=aa.form;obtain⟨⟨az,aA⟩,aD,aE,aF⟩:=Sb w ab)));obtain⟨j,d⟩:=gX (((w1.alloc (H #[O a4 m4 c4,N s4,O b4 n4 k4] 181)).alloc (H #[O a5 m5 c5,N s5,O b5 n5 k5] 181)));have g:Ba w1 j:=by rw[<-d];exact((eR _).alloc _).alloc _
 have ar:Ba w j:=(((((eR w).alloc _).alloc _).alloc _).trans ab).trans g;have g1:RB j w1.heap.size q1:=by rw[<-d];exact(RB.new av rfl).ext ((eR _).alloc _)
 have g2:RB j (w1.heap.size+1) q2:=by rw[<-d];exact RB.new (aa.ext ((eR _).alloc _)) sM
 have g3:RB j (w.heap.size+1) 0:=(((RB.new (Cb.zero _) sM).ext ((eR _).alloc _)).ext ab).ext g;have g4:RB j (w.heap.size+1+1) 0:=((RB.new (Cb.zero _) sM).ext ab).ext g;have zW:w1.heap.size+1<j.heap.size:=by rw[<-d];simp
 have aG:=Da (show j.heap[w1.heap.size+1]?=G (H #[O a5 m5 c5,N s5,O b5 n5 k5] 181 (0,0)) by rw[<-d];exact kc _ _ _ sM) (i:=0) (u:=O a5 m5 c5) rfl;have aH:=Da (show j.heap[w1.heap.size+1]?=G (H #[O a5 m5 c5,N s5,O b5 n5 k5] 181 (0,0)) by rw[<-d];exact kc _ _ _ sM) (i:=1) (u:=N s5) rfl;have aI:=Da (show j.heap[w1.heap.size+1]?=G (H #[O a5 m5 c5,N s5,O b5 n5 k5] 181 (0,0)) by rw[<-d];exact kc _ _ _ sM) (i:=2) (u:=O b5 n5 k5) rfl;have HX:=Aa g;have an:=Aa ar;rw[d];obtain⟨s1,ax⟩:=gX w1.heap.size;simp only[ax]at *;clear d az aA ab g ar HS ax;obtain⟨k,hk⟩:=gX q2.num.sign;have am:=Aa (fun(W:C)(v:T)(h:Cb W v q2)=>hk▸Is W v q2 h);rw[hk]at o;clear hk;by_cases ad:k<0
 ·have hd:decide (k<0)=true:=by simp[ad]
  refine od [(⟨s1+1,0,I⟩,O a5 m5 c5),(⟨s1+1,1,I⟩,N s5),(⟨s1+1,2,I⟩,O b5 n5 k5)] cA fun a=>?_;refine Qa (i:=0) ?_;refine mc (i:=1) (am.o _ _ (aa.ext (Ba.trans HX.o eA))) ?_;rintro e w3 ⟨rfl,x⟩;refine⟨_,rfl,(cE a x),fun a=>?_⟩;refine sN 2 ?_
  iterate 2 refine ub ?_
  iterate 5 refine Te ?_
  refine ub ?_;refine oN ?_;refine Tb ?_;go_wp2;have X3:Ba j w3:=((eR j).drew).trans x;have y:=g3.ext X3;have z:=g4.ext X3;obtain⟨pa,pm,q,ps,p,t,r,p0,p1,p2,aj,ak,al,pz,L⟩:=y.rd;obtain⟨ea,em,ec,es,l,n,m,e0,e1,e2,ae,af,ag,ez,R⟩:=z.rd;refine Ai (fun i=>decide (2<i)) (Ea [(⟨w.heap.size+1,0,I⟩,O pa pm q),(⟨w.heap.size+1,1,I⟩,N ps),(⟨w.heap.size+1,2,I⟩,O p t r),(⟨w.heap.size+1+1,0,I⟩,O ea em ec),(⟨w.heap.size+1+1,1,I⟩,N es),(⟨w.heap.size+1+1,2,I⟩,O l n m)]) kM ?_ (fun a=>?_)
  ·exact cA
  refine sN 0 ?_
  iterate 2 refine qi ?_
  refine oN ?_;refine kd (i:=2) fun K f=>?_;go_simp;refine kO f (fun _=>?_) (fun a=>?_)
  ·exact cA
  clear f K;have a:=a rfl;refine kd (i:=3) fun K f=>?_;go_simp;refine kO f (fun h=>nomatch h) (fun a=>?_);clear f K;refine kd (i:=4) fun K f=>?_;go_simp;refine kO f (fun h=>nomatch h) (fun a=>?_);clear f K;refine Jb kM ?_ _;go_wp2;refine bR (v:=Ob #[U #[O pa pm q,N ps,O p t r],U #[O ea em ec,N es,O l n m],N false]) (by simp[results,Tryz.results184,go_sem,p0,p1,p2,aj,ak,al,e0,e1,e2,ae,af,ag]) rfl ?_;obtain⟨P1,P2,P3,P4,P5,P6⟩:=RB.copy2 y z oM L R rfl rfl;refine⟨(P6 w (an.o.trans X3) oM oM).drew,U #[O pa pm q,N ps,O p t r],U #[O ea em ec,N es,O l n m],?_,?_,rfl⟩
  ·exact(L.keep P4).ext (eR _).drew
  ·exact(R.keep P4).ext (eR _).drew
 ·have hd:decide (k<0)=false:=by simp[ad]
  rw[hd,Bool.false_or]at o;obtain⟨c,hc⟩:=gX (jd q2 (b:Rat));rw[hc]at o HC;clear hc;have aJ:0<c:=by simpa using o
  refine od [(⟨s1+1,0,I⟩,O a5 m5 c5),(⟨s1+1,1,I⟩,N s5),(⟨s1+1,2,I⟩,O b5 n5 k5)] cA fun a=>?_;have E0:Ba w1 j.drew:=HX.o.trans (eR j).drew;refine Qa (i:=0) ?_;refine mc (i:=1) (am.o _ _ (aa.ext E0)) ?_;rintro e w3 ⟨rfl,x⟩;refine⟨_,rfl,(cE a x),fun a=>?_⟩;refine sN 2 ?_
  iterate 4 refine ub ?_
  refine oN ?_;refine mc (i:=6) (Ul _ b aB aC) ?_;rintro e w4 ⟨r4,rfl,aw,ai⟩;obtain⟨a6,m6,c6,s6,b6,n6,k6,rfl⟩:=aw.form;refine⟨_,rfl,(cE a ai),fun a=>?_⟩;refine mc (i:=7) (HC.o _ _ _ (aa.ext (E0.trans (x.trans ai))) aw) ?_;rintro e w5 ⟨rfl,ay⟩;refine⟨_,rfl,(cE a ay),fun a=>?_⟩;refine sN 8 ?_
  iterate 2 refine ub ?_
  refine oN ?_;refine Tb ?_;have X3:Ba j w5:=((eR j).drew).trans (x.trans (ai.trans ay));have y:=g3.ext X3;have z:=g4.ext X3;go_wp2;obtain⟨pa,pm,q,ps,p,t,r,p0,p1,p2,aj,ak,al,pz,L⟩:=y.rd;obtain⟨ea,em,ec,es,l,n,m,e0,e1,e2,ae,af,ag,ez,R⟩:=z.rd;refine Ai (fun i=>decide (2<i)) (Ea [(⟨w.heap.size+1,0,I⟩,O pa pm q),(⟨w.heap.size+1,1,I⟩,N ps),(⟨w.heap.size+1,2,I⟩,O p t r),(⟨w.heap.size+1+1,0,I⟩,O ea em ec),(⟨w.heap.size+1+1,1,I⟩,N es),(⟨w.heap.size+1+1,2,I⟩,O l n m)]) kM ?_ (fun a=>?_)
  ·exact cA
  refine sN 0 ?_
  iterate 2 refine qi ?_
  refine oN ?_;refine kd (i:=2) fun K f=>?_;go_simp;refine kO f (fun _=>?_) (fun a=>?_)
  ·exact cA
  clear f K;have a:=a rfl;refine kd (i:=3) fun K f=>?_;go_simp;refine kO f (fun h=>nomatch h) (fun a=>?_);clear f K;refine kd (i:=4) fun K f=>?_;go_simp;refine kO f (fun h=>nomatch h) (fun a=>?_);clear f K;refine Jb kM ?_ _;go_wp2;refine bR (v:=Ob #[U #[O pa pm q,N ps,O p t r],U #[O ea em ec,N es,O l n m],N false]) (by simp[results,Tryz.results184,go_sem,p0,p1,p2,aj,ak,al,e0,e1,e2,ae,af,ag]) rfl ?_;obtain⟨P1,P2,P3,P4,P5,P6⟩:=RB.copy2 y z oM L R rfl rfl;refine⟨(P6 w (an.o.trans X3) oM oM).drew,U #[O pa pm q,N ps,O p t r],U #[O ea em ec,N es,O l n m],?_,?_,rfl⟩
  ·exact(L.keep P4).ext (eR _).drew
  ·exact(R.keep P4).ext (eR _).drew
end
section
open Go.RowKit Go.Shelf
def MO(w:C)(v:T)(zs:List Int)(b1:Nat)(f:Int->Bool)(h:Ae w v zs)(l:∀W,Ba w W->∀z∈zs,Calls Tryz.prog 103 #[Y Z z,F (G ⟨b1,0,I⟩)] W fun e w'=>e=.returned (N (f z))/\Ba W w'):Calls Tryz.prog 74 #[v,.func (.func 103) #[] #[F (G ⟨b1,0,I⟩)]] w fun e w'=>e=.returned (Y Z (Lc f zs))/\Ba w w':=by
 obtain⟨a,c,rfl⟩:=h.form;obtain⟨n,R⟩:=gX zs.length;rw[R]at h ⊢;have m:=h.le;unfold maxLen at m;have ab:n<=9223372036854775807:=oM;have g:=Aa R;have u:=Aa l;clear R m l;go_in;go_wp2;go_loopg [8] n (UG w f zs)
 case atStart=>exact⟨0,by omega,rfl,by rw[g.o];rfl,eR _,fun j y r=>by omega⟩
 case round =>
  obtain⟨i,hi,rfl,rfl,hx,k⟩:=hrel;rw[g.o]at hi;have d:=Aa k;clear k;by_cases L:i<n
  ·obtain⟨z,s⟩:∃q,zs[i]?=G q:=⟨zs[i]'(by rw[g.o];omega),by simp[g.o,L]⟩;obtain⟨b,o,rfl,hb,d0⟩:=(h.f hx).at' s;have Hq:=Aa s;have t:=Aa (fun W (hW:Ba wr W)=>u.o W (hx.trans hW) z (lM s));obtain⟨fz,x⟩:=gX (f z);rw[x]at t;have Hf:=Aa x;clear s x;cases fz with
   |true=>
    have e:Lc f zs=(i:Int):=Wo Hq.o Hf.o d.o;have E:=Aa e;clear e;go_wp2_with(((go_at_call 103;refine cM (t.o _ eA) ?_;rintro e w1 ⟨rfl,aa⟩)));go_ret;exact⟨by rw[E.o];rfl,eA⟩
   |false=>
    go_wp2_with(((go_at_call 103;refine cM (t.o _ eA) ?_;rintro e w1 ⟨rfl,aa⟩)));go_roundg (n-(i+1))
    case measure=>have:=g.o;omega
    case rel =>
     refine⟨i+1,by have:=g.o;omega,by go_num,by rw[g.o],eA,fun j y r p=>?_⟩;by_cases K:j=i
     ·subst K;rw[Hq.o]at p;cases p;exact Hf.o
     ·exact d.o j y oM p
  ·obtain rfl:i=n:=oM;have e:Lc f zs = -1:=So (fun j y r p=>d.o j y (by rw[g.o]at r;exact r) p);have E:=Aa e;clear e;go_wp2;go_ret;exact⟨by rw[E.o];rfl,hx⟩
def oF(w:C)(v:T)(zs:List Int)(d:Nat)(f:Int->Bool)(h:Ae w v zs)(b:∀W,Ba w W->∀z∈zs,Calls Tryz.prog 103 #[Y Z z,F (G ⟨d,0,I⟩)] W fun e j=>e=.returned (N (f z))/\Ba W j):Calls Tryz.prog 37 #[v,.func (.func 103) #[] #[F (G ⟨d,0,I⟩)]] w fun e j=>e=.returned (N (zs.any f))/\Ba w j:=by rw[<-Np];obtain⟨x,l⟩:=gX (Lc f zs);have i:=fun W (k:Ba w W)=>MO W v zs d f (h.f k) (fun W' g z p=>b W' (k.trans g) z p);obtain⟨a,n,c,rfl⟩:=Ma h;simp only[l]at i ⊢;have m:=Aa i;clear i l h b;go_in;go_wp2_with(((go_at_call 74;refine cM (m.o _ eA) ?_;rintro e q ⟨rfl,o⟩)));go_ret;exact⟨rfl,eA⟩
end
section
open Go.RowKit Go.Shelf Go.Sort
def UI{x y:Int}(h:0<x)(k:x*y<=0):y<=0:=by
 by_cases a:y<=0
 ·exact a
 ·have:=Int.mul_pos h (show 0<y by omega);omega
def VI{x y:Int}(h:0<x)(k:x*y<0):y<0:=by
 by_cases a:y<0
 ·exact a
 ·have:=Int.mul_nonneg (Int.le_of_lt h) (show 0<=y by omega);omega
def xN{c g d j f i:Int}(m:0<c)(n:d<=0)(o:0<f)(k:0<c*i-g*f)(l:0<d*i-j*f):c*j-g*d<0:=by
 have e:f*(c*j-g*d)=d*(c*i-g*f)-c*(d*i-j*f):=by grind
 have a:=Int.mul_pos m l;have b:d*(c*i-g*f)<=0:=Int.mul_nonpos_of_nonpos_of_nonneg n (Int.le_of_lt k);exact VI o oM
def rE{f g c i d j:Int}(o:0<f)(m:c<0)(n:0<d)(k:0<=f*i-g*c)(l:0<=f*j-g*d):c*j-i*d<=0:=by
 have e:f*(c*j-i*d)=c*(f*j-g*d)-d*(f*i-g*c):=by grind
 have a:0<=d*(f*i-g*c):=Int.mul_nonneg (Int.le_of_lt n) k;have b:c*(f*j-g*d)<=0:=Int.mul_nonpos_of_nonpos_of_nonneg (Int.le_of_lt m) l;exact UI o oM
def Fk(cs:LP)(u v:Int×Int):Prop:=Md cs u v/\u.1<v.1
def ie(cs:LP)(q:Int×Int):Prop:=∃u v,Fk cs u v/\(q=u\/q=v)
def Rf.left0{cs:LP}(h:Rf cs){u v c:Int×Int}(d:Md cs u v)(b:c∈cs):0<=Ge u v c:=by
 by_cases a:c=u
 ·subst a;unfold Ge;grind
 ·by_cases hv:c=v
  ·subst hv;unfold Ge;grind
  ·exact Int.le_of_lt (h.left u v d c b a hv)
def ie.mem{cs:LP}{q:Int×Int}(h:ie cs q):q∈cs:=by
 obtain⟨u,v,⟨a,_⟩,rfl|rfl⟩:=h
 ·exact a.mem.1
 ·exact a.mem.2
def ie.uniq{cs:LP}(h:Rf cs){u w:Int×Int}(f:ie cs u)(c:ie cs w)(d:u.1=w.1):u=w:=by
 have key:∀{u w:Int×Int},ie cs u->ie cs w->u.1=w.1->¬u.2<w.2:=by
  intro u w f c d m;obtain⟨a,b,⟨j,i⟩,c⟩:=c;have g:=h.left0 j f.mem;unfold Ge at g;rcases c with rfl|rfl
  ·have e:(b.1-w.1)*(u.2-b.2)-(b.2-w.2)*(u.1-b.1)=(b.1-w.1)*(u.2-w.2):=by rw[d];grind
   rw[e]at g;have:=Int.mul_neg_of_pos_of_neg (show 0<b.1-w.1 by omega) (show u.2-w.2<0 by omega);omega
  ·have e:(w.1-a.1)*(u.2-w.2)-(w.2-a.2)*(u.1-w.1)=(w.1-a.1)*(u.2-w.2):=by rw[d];grind
   rw[e]at g;have:=Int.mul_neg_of_pos_of_neg (show 0<w.1-a.1 by omega) (show u.2-w.2<0 by omega);omega
 have k:=key f c d;have l:=key c f d.symm;exact Prod.ext d oM
def Md.next{cs:LP}{a:Int×Int}(h:a∈cs)(b:2<=cs.length):∃s,Md cs a s:=by
 obtain⟨A,B,rfl⟩:=List.append_of_mem h;cases B with
 | cons s B=>exact⟨s,.inl ⟨A,B,rfl⟩⟩
 |nil=>
  cases A with
  | nil=>simp at b
  | cons v M=>exact⟨v,.inr ⟨M,by simp⟩⟩
def ie.goes{cs:LP}(h:Rf cs){a b:Int×Int}(f:ie cs a)(n:b∈cs)(q:a.1<b.1):∃b',Fk cs a b':=by
 obtain⟨u,v,⟨d,l⟩,f⟩:=f;rcases f with rfl|rfl
 ·exact⟨v,d,l⟩
 ·obtain⟨s,j⟩:=Md.next d.mem.2 (by have:=h.three;omega);by_cases k:a.1<s.1
  ·exact⟨s,j,k⟩
  ·exfalso;have g:b≠s:=by rintro rfl;omega
   have c:b≠a:=by rintro rfl;omega
   have i:b≠u:=by rintro rfl;omega
   have m:=h.left u a d b n i c;have e:=h.left a s j b n c g;have p:=h.left0 d j.mem.2;unfold Ge at m e p;have o:(s.1-a.1)*(b.2-s.2)-(s.2-a.2)*(b.1-s.1)=(s.1-a.1)*(b.2-a.2)-(s.2-a.2)*(b.1-a.1):=by grind
   rw[o]at e;have:=xN (show 0<a.1-u.1 by omega) (show s.1-a.1<=0 by omega) (show 0<b.1-a.1 by omega) m e;omega
def ie.edge{cs:LP}(h:Rf cs){a b:Int×Int}(y:ie cs a)(l:ie cs b)(m:a.1<b.1)(r:∀q,ie cs q->¬(a.1<q.1/\q.1<b.1)):Fk cs a b:=by
 obtain⟨e,i,u⟩:=y.goes h l.mem m;have f:ie cs e:=⟨a,e,⟨i,u⟩,.inr rfl⟩;by_cases o:e.1=b.1
 ·rw[<-f.uniq h l o];exact⟨i,u⟩
 ·have K:b.1<e.1:=by
   have:=r e f;omega
  exfalso;have n:b≠a:=by rintro rfl;omega
  have g:b≠e:=by rintro rfl;omega
  have s:=h.left a e i b l.mem n g;obtain⟨c,d,⟨t,z⟩,p⟩:=l;have j:=h.left0 t i.mem.1;have k:=h.left0 t i.mem.2;unfold Ge at s j k;have v:(e.1-a.1)*(b.2-e.2)-(e.2-a.2)*(b.1-e.1)=(a.1-b.1)*(e.2-b.2)-(a.2-b.2)*(e.1-b.1):=by grind
  rw[v]at s;rcases p with rfl|rfl
  ·have w:(d.1-b.1)*(a.2-d.2)-(d.2-b.2)*(a.1-d.1)=(d.1-b.1)*(a.2-b.2)-(d.2-b.2)*(a.1-b.1):=by grind
   have x:(d.1-b.1)*(e.2-d.2)-(d.2-b.2)*(e.1-d.1)=(d.1-b.1)*(e.2-b.2)-(d.2-b.2)*(e.1-b.1):=by grind
   rw[w]at j;rw[x]at k;have:=rE (show 0<d.1-b.1 by omega) (show a.1-b.1<0 by omega) (show 0<e.1-b.1 by omega) j k;omega
  ·have:=rE (show 0<b.1-c.1 by omega) (show a.1-b.1<0 by omega) (show 0<e.1-b.1 by omega) j k;omega
end
section
open Go.RowKit Go.Shelf Go.Sort Go.Lib
def Ln{l m:LP}(s:l.Perm m)(q:∀x∈l,BP x)(c:m.Pairwise fun x y=>x.1<y.1):tf l=m:=by
 have n:=Az q;have f:=(Up l).trans s;refine List.Perm.eq_of_pairwise (le:=fun x y=>x.1<=y.1) ?_ n (c.imp fun h=>by omega) f;intro a b o e p r;have d:a∈m:=f.mem_iff.1 o;obtain⟨i,g,rfl⟩:=List.getElem_of_mem d;obtain⟨j,k,rfl⟩:=List.getElem_of_mem e;rw[List.pairwise_iff_getElem]at c;rcases Nat.lt_trichotomy i j with h|h|h
 ·have:=c i j g k h;omega
 ·subst h;rfl
 ·have:=c j i k g h;omega
def Bk(z:Int):List Int->List Int
 | []=>[z]
 | y::ys=>if z<=y then z::y::ys else y::Bk z ys
def Mk:List Int->List Int
 | []=>[]
 | z::zs=>Bk z (Mk zs)
def Cy(z:Int):∀ys,(Bk z ys).Perm (z::ys)
 | []=>List.Perm.refl _
 | y::ys=>by
  unfold Bk;split
  ·exact List.Perm.refl _
  ·exact((Cy z ys).cons y).trans (List.Perm.swap _ _ _)
def TF(z:Int):∀ys,ys.Pairwise (fun x y:Int=>x<=y)->(Bk z ys).Pairwise (fun x y:Int=>x<=y)
 | [],_=>by unfold Bk;exact List.pairwise_singleton _ _
 | y::ys,h=>by
  obtain⟨c,d⟩:=List.pairwise_cons.1 h;unfold Bk;split
  ·rename_i hz;refine List.pairwise_cons.2 ⟨fun a b=>?_,h⟩;rcases List.mem_cons.1 b with rfl|b
   ·exact hz
   ·exact Int.le_trans hz (c a b)
  ·rename_i hz;refine List.pairwise_cons.2 ⟨fun a b=>?_,TF z ys d⟩;rcases List.mem_cons.1 ((Cy z ys).mem_iff.1 b)with rfl|b
   ·omega
   ·exact c a b
def QE:∀zs,(Mk zs).Perm zs
 | []=>List.Perm.refl _
 | z::zs=>(Cy z _).trans ((QE zs).cons z)
def PF:∀zs,(Mk zs).Pairwise (fun x y:Int=>x<=y)
 | []=>List.Pairwise.nil
 | z::zs=>TF z _ (PF zs)
def Ay:Xf=Mk:=by
 funext zs
 unfold Xf;refine List.Perm.eq_of_pairwise (le:=fun x y:Int=>x<=y) (fun a b _ _ d e=>Int.le_antisymm d e) ?_ (PF zs) ((List.mergeSort_perm zs _).trans (QE zs).symm);have:=List.pairwise_mergeSort (le:=fun x y:Int=>decide (x<=y)) (fun a b c d e=>by simp at *;omega) (fun a b=>by simp;omega) zs;exact this.imp fun h=>by simpa using h
end
section
open Go.RowKit Go.Shelf Go.Sort
def Dg(p:Int×Int):Int×Int:=(-p.1,-p.2)
def Jk(p:Int×Int):Dg (Dg p)=p:=by unfold Dg;simp
def Rf.ng{cs:LP}(h:Rf cs):Rf (cs.map Dg):=
 h.map _ (fun u v c=>by unfold Ge Dg;dsimp only;grind) (fun x y e=>by rw[<-Jk x,e,Jk])
def Md.maps{cs:LP}(f:Int×Int->Int×Int){u v:Int×Int}(h:Md cs u v):Md (cs.map f) (f u) (f v):=by
 rcases h with ⟨A,B,rfl⟩|⟨M,rfl⟩
 ·exact .inl ⟨A.map f,B.map f,by simp⟩
 ·exact .inr ⟨M.map f,by simp⟩
def Md.ng{cs:LP}{u v:Int×Int}(h:Md (cs.map Dg) u v):Md cs (Dg u) (Dg v):=by
 have:=h.maps Dg
 rwa [List.map_map,show Dg ∘ Dg=id from funext Jk,List.map_id]at this
def Nn(cs:LP)(u v:Int×Int):Prop:=Md cs u v/\v.1<u.1
def vh(cs:LP)(q:Int×Int):Prop:=∃u v,Nn cs u v/\(q=u\/q=v)
def Nn.ng{cs:LP}{u v:Int×Int}:Nn cs u v ↔ Fk (cs.map Dg) (Dg u) (Dg v):=by
 constructor
 ·rintro ⟨h,k⟩;exact⟨h.maps Dg,by unfold Dg;dsimp only;omega⟩
 ·rintro ⟨h,k⟩;have:=h.ng;rw[Jk,Jk]at this;exact⟨this,by unfold Dg at k;dsimp only at k;omega⟩
def vh.ng{cs:LP}{q:Int×Int}:vh cs q ↔ ie (cs.map Dg) (Dg q):=by
 constructor
 ·rintro ⟨u,v,h,a⟩;exact⟨Dg u,Dg v,Nn.ng.1 h,by rcases a with rfl|rfl<;>simp⟩
 ·rintro ⟨u,v,h,a⟩;refine⟨Dg u,Dg v,Nn.ng.2 (by rw[Jk,Jk];exact h),?_⟩;rcases a with rfl|rfl
  ·exact .inl (Jk q).symm
  ·exact .inr (Jk q).symm
def vh.uniq{cs:LP}(h:Rf cs){u w:Int×Int}(a:vh cs u)(b:vh cs w)(c:u.1=w.1):u=w:=by have:=ie.uniq h.ng (vh.ng.1 a) (vh.ng.1 b) (by unfold Dg;dsimp only;omega);rw[<-Jk u,this,Jk]
def vh.edge{cs:LP}(h:Rf cs){a b:Int×Int}(e:vh cs a)(g:vh cs b)(f:a.1<b.1)(c:∀q,vh cs q->¬(a.1<q.1/\q.1<b.1)):Nn cs b a:=by refine Nn.ng.2 (ie.edge h.ng (vh.ng.1 g) (vh.ng.1 e) (by unfold Dg;dsimp only;omega) (fun q i d=>?_));refine c (Dg q) (vh.ng.2 (by rw[Jk];exact i)) ?_;unfold Dg at d ⊢;dsimp only at d ⊢;omega
def No{cs:LP}(c:2<=cs.length){u v:Int×Int}:Md cs u v ↔ ∃i,i<cs.length/\cs.getD i (0,0)=u/\cs.getD ((i+1)%cs.length) (0,0)=v:=by
 constructor
 ·rintro (⟨A,B,e⟩|⟨M,e⟩)
  ·have l:A.length+1<cs.length:=by rw[e];simp
   refine⟨A.length,by omega,?_,?_⟩
   ·rw[gD,e];simp
   ·rw[Nat.mod_eq_of_lt l,gD,e];simp
  ·have m:cs.length=M.length+2:=by rw[e];simp
   refine⟨M.length+1,by omega,?_,?_⟩
   ·rw[gD,e];simp
   ·rw[show M.length+1+1=cs.length by omega,Nat.mod_self,gD,e];simp
 ·rintro ⟨i,b,rfl,rfl⟩;have g:∀j,(hj:j<cs.length)->cs.getD j (0,0)=cs[j]:=fun j hj=>by rw[gD,gE hj];rfl
  by_cases a:i+1<cs.length
  ·rw[Nat.mod_eq_of_lt a,g i b,g (i+1) a];refine .inl ⟨cs.take i,cs.drop (i+1+1),?_⟩;rw[<-List.drop_eq_getElem_cons a,<-List.drop_eq_getElem_cons b,List.take_append_drop]
  ·have e:i+1=cs.length:=oM;rw[e,Nat.mod_self,g i b,g 0 oM]
   right
   cases cs with
   | nil=>simp at c
   | cons v r =>
    (have d:r≠[]:=by rintro rfl;simp at c);refine⟨r.dropLast,?_⟩;have k:(v::r)[i]=r.getLast d:=by
     rw[List.getLast_eq_getElem];simp only[List.length_cons]at e;obtain⟨f,rfl⟩:∃f,i=f+1:=⟨i-1,by have:=List.length_pos_iff.2 d;omega⟩;simp only[List.getElem_cons_succ]
     congr 1
     omega
    rw[k];simp[List.dropLast_concat_getLast]
def Qy{cs:LP}(c:2<=cs.length){q:Int×Int}:q∈Gc cs cs.length ↔ ie cs q:=by
 unfold Gc ie Fk;rw[List.mem_flatMap];constructor
 ·rintro ⟨i,b,a⟩;rw[List.mem_range]at b;unfold ue at a;split at a
  ·rename_i hx;refine⟨_,_,⟨(No c).2 ⟨i,b,rfl,rfl⟩,hx⟩,?_⟩;simpa using a
  ·cases a
 ·rintro ⟨u,v,⟨d,hx⟩,a⟩;obtain⟨i,b,rfl,rfl⟩:=(No c).1 d;refine⟨i,List.mem_range.2 b,?_⟩;unfold ue;rw[if_pos hx];simpa using a
def zy{cs:LP}(c:2<=cs.length){q:Int×Int}:q∈Pd cs cs.length ↔ vh cs q:=by
 unfold Pd vh Nn;rw[List.mem_flatMap];constructor
 ·rintro ⟨i,b,a⟩;rw[List.mem_range]at b;unfold Ef at a;split at a
  ·rename_i hx;refine⟨_,_,⟨(No c).2 ⟨i,b,rfl,rfl⟩,hx⟩,?_⟩;simpa using a
  ·cases a
 ·rintro ⟨u,v,⟨d,hx⟩,a⟩;obtain⟨i,b,rfl,rfl⟩:=(No c).1 d;refine⟨i,List.mem_range.2 b,?_⟩;unfold Ef;rw[if_pos hx];simpa using a
def Uv{α:Type}[DecidableEq α]:∀{c:List α}{x:α},x∈c->x∈Na c
 | [a],x,h=>by simpa[Na] using h
 | a::b::r,x,h=>by
  rw[Na];split
  ·rename_i e;subst e;rcases List.mem_cons.1 h with rfl|h
   ·exact Uv (by simp)
   ·exact Uv h
  ·rcases List.mem_cons.1 h with rfl|h
   ·simp
   ·exact mC _ (Uv h)
def ZE{a:LP}{q:Int×Int}:q∈Ic a ↔ q∈a:=
 ⟨fun h=>(Up a).mem_iff.1 (ut h),fun h=>Uv ((Up a).mem_iff.2 h)⟩
def Zd(l:LP):Prop:=l.Pairwise fun x y=>x.1<y.1
def AG:∀(l:LP),l.Pairwise (fun x y=>x.1<=y.1)->(∀x∈l,∀y∈l,x.1=y.1->x=y)->Zd (Na l)
 | [],_,_=>List.Pairwise.nil
 | [a],_,_=>by unfold Zd;simp[Na]
 | a::b::r,h,hu=>by
  obtain⟨f,g⟩:=List.pairwise_cons.1 h;have i:=AG (b::r) g (fun x m y d=>hu x (mC _ m) y (mC _ d));rw[Na];split
  ·exact i
  ·rename_i hne;refine List.pairwise_cons.2 ⟨fun y d=>?_,i⟩;have c:=ut d;have k:=f y c;have n:=f b sM;have j:b.1<=y.1:=by
    rcases List.mem_cons.1 c with rfl|c
    ·exact Int.le_refl _
    ·exact(List.pairwise_cons.1 g).1 y c
   have:a.1≠b.1:=fun e=>hne (hu a sM b sM e);omega
def uF{k:Int}{a:LP}(e:Zf k a)(c:k<=1000000)(f:∀x∈a,∀y∈a,x.1=y.1->x=y):Zd (Ic a):=by
 have d:=Up a;exact AG _ (Az fun x b=>by
  have:=e x b;unfold BP;exact⟨this.1.mono c,this.2.mono c⟩) (fun x b y g=>f x (d.mem_iff.1 b) y (d.mem_iff.1 g))
def Zd.between{l:LP}(h:Zd l){e:ll}(d:e∈rW l):e.1∈l/\e.2∈l/\e.1.1<e.2.1/\∀q∈l,¬(e.1.1<q.1/\q.1<e.2.1):=by
 unfold rW at d;obtain⟨i,f,rfl⟩:=List.getElem_of_mem d;have b:i+1<l.length:=by rw[List.length_zip,List.length_tail]at f;omega
 have k:(l.zip l.tail)[i]'f=(l[i]' oM,l[i+1]'b):=sM;rw[k];have c:=List.pairwise_iff_getElem.1 h;refine⟨List.getElem_mem _,List.getElem_mem _,c i (i+1) oM b oM,fun q n=>?_⟩;obtain⟨j,g,rfl⟩:=List.getElem_of_mem n;dsimp only;rintro ⟨o,p⟩;rcases Nat.lt_trichotomy j i with a|rfl|a
 ·have:=c j i g oM a;omega
 ·omega
 ·rcases Nat.lt_or_eq_of_le (show i+1<=j from a)with m|rfl
  ·have:=c (i+1) j b g m;omega
  ·omega
def Lp{p:Pl}(h:Ia p=true):Zd (Ga p)/\(∀q,q∈Ga p ↔ ie (Ca p) q)/\∀e∈rW (Ga p),Fk (Ca p) e.1 e.2:=by
 have c:=Xs h;have b:2<=(Ca p).length:=by have:=c.three;omega
 obtain⟨i,r,Vi⟩:=ko h;have l:=Lr i (nE _);have a:∀q,q∈Ga p ↔ ie (Ca p) q:=fun q=>by unfold Ga;rw[ZE,Qy b]
 have g:Zd (Ga p):=uF l.1 dM (fun x f y m e=>ie.uniq c ((Qy b).1 f) ((Qy b).1 m) e);refine⟨g,a,fun e j=>?_⟩;obtain⟨n,o,f,d⟩:=g.between j;exact ie.edge c ((a _).1 n) ((a _).1 o) f (fun q k=>d q ((a q).2 k))
def Uq{p:Pl}(h:Ia p=true):Zd (Kb p)/\(∀q,q∈Kb p ↔ vh (Ca p) q)/\∀e∈rW (Kb p),Nn (Ca p) e.2 e.1:=by
 have c:=Xs h;have b:2<=(Ca p).length:=by have:=c.three;omega
 obtain⟨i,r,Vi⟩:=ko h;have l:=Lr i (nE _);have a:∀q,q∈Kb p ↔ vh (Ca p) q:=fun q=>by unfold Kb;rw[ZE,zy b]
 have g:Zd (Kb p):=uF l.2 dM (fun x f y m e=>vh.uniq c ((zy b).1 f) ((zy b).1 m) e);refine⟨g,a,fun e j=>?_⟩;obtain⟨n,o,f,d⟩:=g.between j;exact vh.edge c ((a _).1 n) ((a _).1 o) f (fun q k=>d q ((a q).2 k))
def xh(k:Int):Rat:=((2*k+1:Int):Rat)/2
def Xo{cs:LP}(h:Rf cs)(u v:Int×Int):∃c∈cs,c≠u/\c≠v:=by
 apply Classical.byContradiction;intro d;have f:∀c∈cs,c∈[u,v]:=fun c b=>by
  apply Classical.byContradiction;intro a;exact d ⟨c,b,fun e=>a (by simp[e]),fun e=>a (by simp[e])⟩
 have:=List.Nodup.length_le_of_subset h.nd f;have:=h.three;simp at *;omega
def Md.ne{cs:LP}(h:Rf cs){u v:Int×Int}(f:Md cs u v):u≠v:=by
 rintro rfl;obtain⟨c,d,a,b⟩:=Xo h u u;have:=h.left u u f c d a b;unfold Ge at this;have e:(u.1-u.1)*(c.2-u.2)-(u.2-u.2)*(c.1-u.1)=0:=by grind
 omega
def Rf.minLow{cs:LP}(h:Rf cs):∃u,ie cs u/\∀c∈cs,u.1<=c.1:=by
 obtain⟨v,hv,a⟩:=sE (fun q:Int×Int=>q.1) (S:=cs) (by rintro rfl;have:=h.three;simp at this);have r:2<=cs.length:=by have:=h.three;omega
 obtain⟨s,j⟩:=Md.next hv r;by_cases n:v.1<s.1
 ·exact⟨v,⟨v,s,⟨j,n⟩,.inl rfl⟩,a⟩
 have d:=j.mem.2;have o:s.1=v.1:=by have:=a s d;omega
 obtain⟨t,k⟩:=Md.next d r;by_cases l:s.1<t.1
 ·exact⟨s,⟨s,t,⟨k,l⟩,.inl rfl⟩,fun c i=>by rw[o];exact a c i⟩
 exfalso;have f:=k.mem.2;have y:t.1=v.1:=by have:=a t f;omega
 by_cases g:t=v
 ·subst g;obtain⟨c,i,p,w⟩:=Xo h t s;have b:=h.left t s j c i p w;have x:=h.left s t k c i w p;unfold Ge at b x;have e:(s.1-t.1)*(c.2-s.2)-(s.2-t.2)*(c.1-s.1)+((t.1-s.1)*(c.2-t.2)-(t.2-s.2)*(c.1-t.1))=0:=by grind
  omega
 ·have m:t≠s:=fun e=>(k.ne h) e.symm;have b:=h.left v s j t f g m;unfold Ge at b;rw[o,y,Int.sub_self]at b;simp at b
def so(p:Int×Int):Int×Int:=(p.1,-p.2)
def Tu(p:Int×Int):so (so p)=p:=by unfold so;simp
def Rf.mz{cs:LP}(h:Rf cs):Rf (cs.map so).reverse:=
 h.flip _ (fun u v c=>by unfold Ge so;dsimp only;grind) (fun x y e=>by rw[<-Tu x,e,Tu])
def ie.mz{cs:LP}{q:Int×Int}(h:ie (cs.map so).reverse q):vh cs (so q):=by
 obtain⟨u,v,⟨e,d⟩,f⟩:=h;obtain⟨i,g,b,c,a⟩:=(Md.rev e).map;refine⟨i,g,⟨a,?_⟩,?_⟩
 ·rw[b,c]at d;exact d
 ·rcases f with rfl|rfl
  ·right;rw[c,Tu]
  ·left;rw[b,Tu]
def Rf.minUp{cs:LP}(h:Rf cs):∃u,vh cs u/\∀c∈cs,u.1<=c.1:=by obtain⟨u,d,b⟩:=h.mz.minLow;refine⟨so u,d.mz,fun c a=>?_⟩;exact b (so c) (List.mem_reverse.2 (List.mem_map_of_mem a))
def Rf.maxLow{cs:LP}(h:Rf cs):∃u,ie cs u/\∀c∈cs,c.1<=u.1:=by
 obtain⟨u,d,b⟩:=h.ng.minUp;refine⟨Dg u,?_,fun c a=>?_⟩
 ·have:=vh.ng.1 d
  rwa [List.map_map,show Dg ∘ Dg=id from funext Jk,List.map_id]at this
 ·have:=b (Dg c) (List.mem_map_of_mem a);unfold Dg at *;dsimp only at *;omega
def Rf.maxUp{cs:LP}(h:Rf cs):∃u,vh cs u/\∀c∈cs,c.1<=u.1:=by obtain⟨u,d,b⟩:=h.ng.minLow;refine⟨Dg u,vh.ng.2 (by rw[Jk];exact d),fun c a=>?_⟩;have:=b (Dg c) (List.mem_map_of_mem a);unfold Dg at *;dsimp only at *;omega
def Zd.ends{l:LP}(h:Zd l)(c:l≠[]):(∃q∈l,q.1=yb l)/\(∃q∈l,q.1=Vb l)/\∀q∈l,yb l<=q.1/\q.1<=Vb l:=by
 have a:=List.length_pos_iff.2 c;have j:=List.pairwise_iff_getElem.1 h;have d:yb l=(l[0]'a).1:=by unfold yb;rw[gD,gE a];rfl
 have e:Vb l=(l[l.length-1]' oM).1:=by unfold Vb;rw[gD,gE oM];rfl
 refine⟨⟨_,List.getElem_mem a,d.symm⟩,⟨_,List.getElem_mem oM,e.symm⟩,fun q k=>?_⟩;obtain⟨i,g,rfl⟩:=List.getElem_of_mem k;rw[d,e];constructor
 ·rcases Nat.eq_zero_or_pos i with rfl|b
  ·exact Int.le_refl _
  ·have:=j 0 i a g b;omega
 ·rcases Nat.lt_or_ge i (l.length-1)with f|f
  ·have:=j i (l.length-1) g oM f;omega
  ·have:i=l.length-1:=oM;subst this;exact Int.le_refl _
def vh.mem{cs:LP}{q:Int×Int}(h:vh cs q):q∈cs:=by
 obtain⟨u,v,⟨a,_⟩,rfl|rfl⟩:=h
 ·exact a.mem.1
 ·exact a.mem.2
def Cv{p:Pl}(h:Ia p=true):yb (Kb p)=yb (Ga p)/\Vb (Kb p)=Vb (Ga p)/\yb (Ga p)<Vb (Ga p)/\Ga p≠[]/\Kb p≠[]:=by
 have s:=Xs h;obtain⟨r1,k,d1⟩:=Lp h;obtain⟨r2,l,d2⟩:=Uq h;obtain⟨a,z,f⟩:=s.minLow;obtain⟨b,R,g⟩:=s.minUp;obtain⟨c,K,i⟩:=s.maxLow;obtain⟨d,hd,j⟩:=s.maxUp;have n1:Ga p≠[]:=fun e=>by have:=(k a).2 z;rw[e]at this;cases this
 have n2:Kb p≠[]:=fun e=>by have:=(l b).2 R;rw[e]at this;cases this
 obtain⟨⟨t,m,e1⟩,⟨w,n,e2⟩,r⟩:=r1.ends n1;obtain⟨⟨x,o,e3⟩,⟨y,q,e4⟩,L⟩:=r2.ends n2;have g1:=r a ((k a).2 z);have g2:=L b ((l b).2 R);have g3:=r c ((k c).2 K);have g4:=L d ((l d).2 hd);have k1:=f x ((l x).1 o).mem;have k2:=g t ((k t).1 m).mem;have k3:=i y ((l y).1 q).mem;have k4:=j w ((k w).1 n).mem;have k5:=f t ((k t).1 m).mem;have k6:=g x ((l x).1 o).mem;have k7:=i w ((k w).1 n).mem;have k8:=j y ((l y).1 q).mem;refine⟨by omega,by omega,?_,n1,n2⟩;obtain⟨u,v,⟨W,hx⟩,_⟩:=z;have hu:=r u ((k u).2 ⟨u,v,⟨W,hx⟩,.inl rfl⟩);have hv:=r v ((k v).2 ⟨u,v,⟨W,hx⟩,.inr rfl⟩);omega
end
section
open Go.RowKit Go.Shelf
def uh(by':Int)(a b:Int×Int):Prop:=a.1<b.1\/(a.1=b.1/\by'*(a.2-b.2)<0)
instance (by':Int) (a b:Int×Int):Decidable (uh by' a b):=by unfold uh;infer_instance
def Ie(l:LP)(by':Int):Nat->Nat
 | 0=>0
 | i+1=>if uh by' (Pa l i) (Pa l (Ie l by' i))then i else Ie l by' i
def QB(l:LP){by':Int}(d:by'=1\/by' = -1):∀n,Ie l by' (n+1)<n+1/\∀j,j<n+1->¬uh by' (Pa l j) (Pa l (Ie l by' (n+1))):=by
 intro n;induction n with
 |zero=>
  have e:Ie l by' 1=0:=by unfold Ie;split<;>rfl
  rw[e];refine⟨by omega,fun j g=>?_⟩;obtain rfl:j=0:=oM;unfold uh;rcases d with rfl|rfl<;>omega
 | succ n o =>
  obtain⟨i,b⟩:=o;have m:Ie l by' (n+1+1)=if uh by' (Pa l (n+1)) (Pa l (Ie l by' (n+1)))then n+1 else Ie l by' (n+1):=rfl;rw[m];obtain⟨f,k⟩:=gX (Ie l by' (n+1));rw[k]at i b ⊢;by_cases c:uh by' (Pa l (n+1)) (Pa l f)
  ·rw[if_pos c];refine⟨by omega,fun j g=>?_⟩;by_cases a:j=n+1
   ·subst a;unfold uh;rcases d with rfl|rfl<;>omega
   ·have:=b j oM;unfold uh at *
    rcases d with rfl|rfl<;>omega
  ·rw[if_neg c];refine⟨by omega,fun j g=>?_⟩;by_cases a:j=n+1
   ·subst a;exact c
   ·exact b j oM
def Rh(n s:Nat)(by':Int)(k:Nat):Nat:=(((s:Int)+by'*(k:Int))%(n:Int)).toNat
def Oq{n s k:Nat}{by':Int}(h:0<n):Rh n s by' k<n:=by unfold Rh;have a:=Int.emod_nonneg ((s:Int)+by'*(k:Int)) (show (n:Int)≠0 by omega);have b:=Int.emod_lt_of_pos ((s:Int)+by'*(k:Int)) (show 0<(n:Int) by omega);omega
def yx{n s:Nat}{by':Int}(h:s<n):Rh n s by' 0=s:=by unfold Rh;simp only[Int.natCast_zero,Int.mul_zero,Int.add_zero];rw[Int.emod_eq_of_lt oM oM];omega
def Vu{n s k:Nat}{by':Int}(h:0<n):(Rh n s by' k:Int)=((s:Int)+by'*(k:Int))%(n:Int):=by unfold Rh;have a:=Int.emod_nonneg ((s:Int)+by'*(k:Int)) (show (n:Int)≠0 by omega);omega
def Ax{n s k:Nat}{by':Int}(h:0<n):(((Rh n s by' k:Nat):Int)+by'+(n:Int))%(n:Int)=((Rh n s by' (k+1):Nat):Int):=by
 rw[Vu h,Vu h,Int.add_emod_right,Int.emod_add_emod]
 congr 1
 rw[Int.natCast_add];grind
def MC{n s k:Nat}(h:0<n):(Rh n s 1 k+1)%n=Rh n s 1 (k+1):=by
 have:=Ax (n:=n) (s:=s) (k:=k) (by':=1) h;rw[Int.add_emod_right]at this;have e:(((Rh n s 1 k+1)%n:Nat):Int)=((Rh n s 1 k:Nat)+1:Int)%n:=by rw[Int.natCast_emod,Int.natCast_add];rfl
 omega
def LC{n s k:Nat}(h:0<n):(Rh n s (-1) (k+1)+1)%n=Rh n s (-1) k:=by
 have a:=Vu (n:=n) (s:=s) (k:=k+1) (by':=-1) h;have b:=Vu (n:=n) (s:=s) (k:=k) (by':=-1) h;have e:(((Rh n s (-1) (k+1)+1)%n:Nat):Int)=((Rh n s (-1) (k+1):Nat)+1:Int)%n:=by rw[Int.natCast_emod,Int.natCast_add];rfl
 have:(((Rh n s (-1) (k+1)+1)%n:Nat):Int)=((Rh n s (-1) k:Nat):Int):=by
  rw[e,a,b,Int.emod_add_emod]
  congr 1
  rw[Int.natCast_add];grind
 omega
structure Kr (cs:LP) (by':Int) (L:LP):Prop where
 ne:L≠[]
 pos:0<cs.length
 at':∀k,k<L.length->Pa L k=Pa cs (Rh cs.length (Ie cs by' cs.length) by' k)
 up:∀k,k+1<L.length->(Pa L k).1<(Pa L (k+1)).1
 stop:(Pa cs (Rh cs.length (Ie cs by' cs.length) by' L.length)).1<=(Pa L (L.length-1)).1
def Oh{l:LP}{i:Nat}(h:i<l.length):Pa l i=l[i]:=by unfold Pa;rw[gD,gE h];rfl
def Ti{l:LP}{i:Nat}(h:i<l.length):Pa l i∈l:=by rw[Oh h];exact List.getElem_mem h
def oC{l:LP}(h:l.Nodup){i j:Nat}(hi:i<l.length)(b:j<l.length)(e:Pa l i=Pa l j):i=j:=by
 rw[Oh hi,Oh b]at e;have c:=List.pairwise_iff_getElem.1 h;rcases Nat.lt_trichotomy i j with a|a|a
 ·exact absurd e (c i j hi b a)
 ·exact a
 ·exact absurd e.symm (c j i b hi a)
def qB{l:LP}{k:Nat}(h:k+1<l.length):(Pa l k,Pa l (k+1))∈rW l:=by
 refine lM (i:=k) (Ex ?_ ?_)
 ·rw[Oh oM];exact gE _
 ·rw[Oh h];exact gE _
def Vq{l:LP}(h:Zd l){i j:Nat}(a:i<j)(b:j<l.length):(Pa l i).1<(Pa l j).1:=by rw[Oh oM,Oh b];exact List.pairwise_iff_getElem.1 h i j oM b a
def sB{cs L:LP}{by':Int}(v:by'=1\/by' = -1)(g:cs.Nodup)(h3:3<=cs.length)(hr:Zd L)(l:L≠[])(p:∀q∈L,q∈cs)(y:∀c∈cs,c≠Pa L 0->uh by' (Pa L 0) c)(t:∀k,k+1<L.length->∃i,i<cs.length/\(by'=1->Pa cs i=Pa L k/\Pa cs ((i+1)%cs.length)=Pa L (k+1))/\(by' = -1->Pa cs i=Pa L (k+1)/\Pa cs ((i+1)%cs.length)=Pa L k))(f:∀i j,i<cs.length->j<cs.length->Pa cs i=Pa L (L.length-1)->(by'=1->j=(i+1)%cs.length)->(by' = -1->i=(j+1)%cs.length)->(Pa cs j).1<=(Pa L (L.length-1)).1):Kr cs by' L:=by
 have W:=List.length_pos_iff.2 l;obtain⟨n,hn⟩:∃n,cs.length=n+1:=⟨cs.length-1,by omega⟩;obtain⟨u,w⟩:=QB cs v n;rw[<-hn]at u w;have d:∀k,k<L.length->Pa L k=Pa cs (Rh cs.length (Ie cs by' cs.length) by' k):=by
  intro k;induction k with
  |zero=>
   intro _;rw[yx u];by_cases e:Pa cs (Ie cs by' cs.length)=Pa L 0
   ·exact e.symm
   ·exfalso;obtain⟨j,R,x⟩:=List.getElem_of_mem (p _ (Ti W));have:=w j oM;rw[Oh R,x]at this;exact this (y _ (Ti u) e)
  | succ k o =>
   intro r;have o:=o oM;obtain⟨i,K,i1,i2⟩:=t k r;rcases v with rfl|rfl
   ·obtain⟨a,b⟩:=i1 rfl;rw[o]at a;have:=oC g K (Oq oM) a;rw[<-b,this,MC oM]
   ·obtain⟨a,b⟩:=i2 rfl;rw[o]at b;have m:=oC g (Nat.mod_lt _ oM) (Oq oM) b;have:i=Rh cs.length (Ie cs (-1) cs.length) (-1) (k+1):=by
     have z:=LC (n:=cs.length) (s:=Ie cs (-1) cs.length) (k:=k) oM;have h7:=Oq (n:=cs.length) (s:=Ie cs (-1) cs.length) (k:=k+1) (by':=-1) oM;rw[<-z]at m;rw[Zi oM,Zi oM]at m;split at m<;>split at m<;>omega
    rw[<-a,this]
 refine⟨l,by omega,d,fun k r=>Vq hr oM r,?_⟩;have e:=d (L.length-1) oM;refine f _ _ (Oq oM) (Oq oM) e.symm (fun h=>?_) (fun h=>?_)
 ·subst h;rw[MC oM,show L.length-1+1=L.length by omega]
 ·subst h;have:=LC (n:=cs.length) (s:=Ie cs (-1) cs.length) (k:=L.length-1) oM;rw[show L.length-1+1=L.length by omega]at this;exact this.symm
def NK{u v c:Int×Int}(e:c.1=u.1)(d:u.1<v.1)(h:0<Ge u v c):u.2<c.2:=by
 unfold Ge at h;rw[e]at h;have a:(v.1-u.1)*(c.2-v.2)-(v.2-u.2)*(u.1-v.1)=(v.1-u.1)*(c.2-u.2):=by grind
 rw[a]at h;by_cases b:u.2<c.2
 ·exact b
 ·have:=Int.mul_nonpos_of_nonneg_of_nonpos (show 0<=v.1-u.1 by omega) (show c.2-u.2<=0 by omega);omega
def SK{u v c:Int×Int}(e:c.1=v.1)(d:v.1<u.1)(h:0<Ge u v c):c.2<v.2:=by
 unfold Ge at h;rw[e]at h;have a:(v.1-u.1)*(c.2-v.2)-(v.2-u.2)*(v.1-v.1)=(u.1-v.1)*(v.2-c.2):=by grind
 rw[a]at h;by_cases b:c.2<v.2
 ·exact b
 ·have:=Int.mul_nonpos_of_nonneg_of_nonpos (show 0<=u.1-v.1 by omega) (show v.2-c.2<=0 by omega);omega
def GL{cs L:LP}(x:Rf cs)(r:Zd L)(m:∀q,q∈L ↔ ie cs q)(d:∀e∈rW L,Fk cs e.1 e.2)(ne:L≠[]):Kr cs 1 L:=by
 have W:=List.length_pos_iff.2 ne;have h3:=x.three;obtain⟨a,ha,l⟩:=x.minLow;have g:∀c∈cs,(Pa L 0).1<=c.1:=fun c f=>by
  have w:=(m a).2 ha;obtain⟨i,s,e⟩:=List.getElem_of_mem w;have h2:=l c f;rcases Nat.eq_zero_or_pos i with rfl|o
  ·rw[Oh W,e];exact h2
  ·have:=Vq r o s;rw[Oh s,e]at this;omega
 refine sB (.inl rfl) x.nd h3 r ne (fun q b=>((m q).1 b).mem) ?_ ?_ ?_
 ·intro c f K;have w:=g c f;unfold uh;by_cases e:(Pa L 0).1<c.1
  ·exact .inl e
  ·right
   refine⟨by omega,?_⟩;obtain⟨u,v,⟨p,n⟩,b⟩:=(m _).1 (Ti W);rcases b with b|b
   ·(have y:c≠v:=fun o=>by rw[o,b]at e;exact e n);have:=x.left u v p c f (by rw[<-b];exact K) y;rw[<-b]at this n;have:=NK oM n this;omega
   ·exfalso;have:=g u p.mem.1;rw[b]at this;omega
 ·intro k hk;obtain⟨p,n⟩:=d _ (qB hk);obtain⟨i,s,e1,e2⟩:=(No oM).1 p;exact⟨i,s,fun _=>⟨e1,e2⟩,fun e=>absurd e dM⟩
 ·intro i j s hj e w _;have z:=w rfl;by_cases n:(Pa cs j).1<=(Pa L (L.length-1)).1
  ·exact n
  ·exfalso;have p:Md cs (Pa cs i) (Pa cs j):=(No oM).2 ⟨i,s,rfl,by rw[z];rfl⟩;have b:Pa cs j∈L:=(m _).2 ⟨_,_,⟨p,by rw[e];omega⟩,.inr rfl⟩;obtain⟨t,ht,R⟩:=List.getElem_of_mem b;rcases Nat.lt_or_ge t (L.length-1)with o|o
   ·have:=Vq r o oM;rw[Oh ht,R]at this;omega
   ·have:t=L.length-1:=oM;rw[<-this,Oh ht,R]at n;omega
def OK{cs L:LP}(x:Rf cs)(r:Zd L)(m:∀q,q∈L ↔ vh cs q)(d:∀e∈rW L,Nn cs e.2 e.1)(ne:L≠[]):Kr cs (-1) L:=by
 have W:=List.length_pos_iff.2 ne;have h3:=x.three;obtain⟨a,ha,l⟩:=x.minUp;have g:∀c∈cs,(Pa L 0).1<=c.1:=fun c f=>by
  have w:=(m a).2 ha;obtain⟨i,s,e⟩:=List.getElem_of_mem w;have h2:=l c f;rcases Nat.eq_zero_or_pos i with rfl|o
  ·rw[Oh W,e];exact h2
  ·have:=Vq r o s;rw[Oh s,e]at this;omega
 refine sB (.inr rfl) x.nd h3 r ne (fun q b=>((m q).1 b).mem) ?_ ?_ ?_
 ·intro c f K;have w:=g c f;unfold uh;by_cases e:(Pa L 0).1<c.1
  ·exact .inl e
  ·right
   refine⟨by omega,?_⟩;obtain⟨u,v,⟨p,n⟩,b⟩:=(m _).1 (Ti W);rcases b with b|b
   ·exfalso;have:=g v p.mem.2;rw[b]at this;omega
   ·(have y:c≠u:=fun o=>by rw[o,b]at e;exact e n);have:=x.left u v p c f y (by rw[<-b];exact K);rw[<-b]at this n;have:=SK oM n this;omega
 ·intro k hk;obtain⟨p,n⟩:=d _ (qB hk);obtain⟨i,s,e1,e2⟩:=(No oM).1 p;exact⟨i,s,fun e=>absurd e dM,fun _=>⟨e1,e2⟩⟩
 ·intro i j s hj e _ w;have z:=w rfl;by_cases n:(Pa cs j).1<=(Pa L (L.length-1)).1
  ·exact n
  ·exfalso;have p:Md cs (Pa cs j) (Pa cs i):=(No oM).2 ⟨j,hj,rfl,by rw[<-z];rfl⟩;have b:Pa cs j∈L:=(m _).2 ⟨_,_,⟨p,by rw[e];omega⟩,.inl rfl⟩;obtain⟨t,ht,R⟩:=List.getElem_of_mem b;rcases Nat.lt_or_ge t (L.length-1)with o|o
   ·have:=Vq r o oM;rw[Oh ht,R]at this;omega
   ·have:t=L.length-1:=oM;rw[<-this,Oh ht,R]at n;omega
def AJ{p:Pl}(h:Ia p=true):Kr (Ca p) 1 (Ga p):=
 GL (Xs h) (Lp h).1 (Lp h).2.1 (Lp h).2.2 (Cv h).2.2.2.1
def jH{p:Pl}(h:Ia p=true):Kr (Ca p) (-1) (Kb p):=
 OK (Xs h) (Uq h).1 (Uq h).2.1 (Uq h).2.2 (Cv h).2.2.2.2
end
section
open Go.RowKit Go.Shelf Go.Sort Go.Lib
def MS{zs:List Int}{z:Int}(h:z∈zs):z∈compact zs:=by
 obtain⟨i,a,rfl⟩:=List.getElem_of_mem h;have b:∀j,(hj:j<zs.length)->zs.toArray[j]! = zs[j]:=fun j hj=>by rw[getElem!_pos _ _ (by simpa using hj)];simp
 have key:∀i,(a:i<zs.length)->∃j,j<zs.length/\keeps zs.toArray j=true/\zs.toArray[j]! = zs[i]:=by
  intro i;induction i with
  | zero=>intro a;exact⟨0,a,by simp[keeps],b 0 a⟩
  | succ i f =>
   intro a;cases hk:keeps zs.toArray (i+1)with
   | true=>exact⟨i+1,a,hk,b _ a⟩
   |false=>
    obtain⟨j,c,d,e⟩:=f oM;refine⟨j,c,d,?_⟩;rw[e,<-b _ a,<-b i oM];simp[keeps]at hk;grind
 obtain⟨j,c,d,e⟩:=key i a;unfold compact compactUpTo;refine List.mem_map.2 ⟨j,List.mem_filter.2 ⟨List.mem_range.2 c,d⟩,e⟩
def vM{s:Sp}{z:Int}(h:z=s.lo\/z=s.hi\/(s.lo<z/\z<s.hi/\∃q∈s.over++s.under,q.1=z)):(z:Rat)∈Mc s:=by
 unfold Mc Vd;refine List.mem_map_of_mem (MS (Sh.2 ?_));rcases h with rfl|rfl|⟨a,b,q,c,rfl⟩
 ·simp
 ·simp
 ·refine mC _ (mC _ ?_);unfold mg;refine List.mem_filter.2 ⟨List.mem_map_of_mem c,?_⟩;unfold Cr;simp[a,b]
end
section
open Go.RowKit Go.Shelf
attribute [local go_sem] Oper.semAt_some
def qU(w:C)(s:Sp)(d e f:T)(b:Int)(a:List Rat)(o:Rat×Rat)(g:Nat)(c:T)(W:C):Prop:=
 ∃i:Nat,i<=a.length/\c=Y Z i/\g=a.length-i/\Nj w s d e f a (Bc (Gb s b) a o i) W
def RS{w W W1 b:C}{o:Obj}{p u v:Rat}{a g:Option Oa}{m c i c2:Nat}{s:Bool}(t:Ba w W)(L:w.heap.size+1+1+1<=W.heap.size)(K:W.heap[w.heap.size]?=G o)(q:RB W (w.heap.size+1) u)(r:RB W (w.heap.size+1+1) v)(j:Cb W (U #[O a m c,N s,O g i c2]) p)(d:((W.setCell ⟨w.heap.size+1,0,I⟩ (O a m c)).setCell ⟨w.heap.size+1,1,I⟩ (N s)).setCell ⟨w.heap.size+1,2,I⟩ (O g i c2)=W1)(e:((W1.setCell ⟨w.heap.size+1+1,0,I⟩ (O a m c)).setCell ⟨w.heap.size+1+1,1,I⟩ (N s)).setCell ⟨w.heap.size+1+1,2,I⟩ (O g i c2)=b):Ba w b.drew/\w.heap.size+1+1+1<=b.drew.heap.size/\b.drew.heap[w.heap.size]?=G o/\RB b.drew (w.heap.size+1) p/\RB b.drew (w.heap.size+1+1) p:=by
 obtain⟨k,l,x,y,z,n⟩:=RB.copy2 q r oM j j d e;have f:Ba b b.drew:=(eR _).drew;refine⟨(n w t oM oM).drew,nT oM f.size,f.e ?_,k.ext f,l.ext f⟩;rw[<-e,<-d]
 repeat rw[bS _ _ _ _ dO]
 exact K
def Nj.box{w:C}{s:Sp}{R v2 g:T}{j:List Rat}{o:Rat×Rat}{W:C}(h:Nj w s R v2 g j o W){a x:Option Oa}{m c K c2 b:Nat}{v:Bool}{p p0:Rat}(hb:w.heap.size+1+1+1<=b)(hv:g.ownBlock≠G b)(y:RB W b p0)(hz:Cb W (U #[O a m c,N v,O x K c2]) p){W1:C}(d:((W.setCell ⟨b,0,I⟩ (O a m c)).setCell ⟨b,1,I⟩ (N v)).setCell ⟨b,2,I⟩ (O x K c2)=W1):Nj w s R v2 g j o W1/\RB W1 b p/\(∀b' r,b'≠b->RB W b' r->RB W1 b' r)/\W1.heap.size=W.heap.size:=by
 obtain⟨h1,h2,h3,h4,h5,h6⟩:=h;have n:=y.not;have t:=n.set ⟨b,0,I⟩ (O a m c);have L:=t.set ⟨b,1,I⟩ (N v);have k:∀b' r,b'≠b->RB W b' r->RB W1 b' r:=fun b' r f hr=>by
  rw[<-d];exact((hr.other (Ne.symm f) n _).other (Ne.symm f) t _).other (Ne.symm f) L _
 have e:∀(V:C)(u:T)(q:Oa),q.block=b->Jf V (w.heap.size+1+1+1) g j->sd 2 V b->Jf (V.setCell q u) (w.heap.size+1+1+1) g j:=fun V u q z ho hn=>by
  obtain⟨cs,k1,k2,k3⟩:=ho;exact⟨cs,k1.setOther (by rw[z];exact hv) _,k2,fun i c q' hc l=>Cb.keep (k3 i c q' hc l) (Ka.y (Ka.refl _ _) (by rw[z];exact hn) u)⟩
 refine⟨⟨?_,?_,?_,k _ _ oM h4,k _ _ oM h5,?_⟩,?_,k,?_⟩
 ·rw[<-d];exact((h1.set dO _).set dO _).set dO _
 ·rw[<-d];simpa using h2
 ·rw[<-d]
  repeat rw[bS _ _ _ _ dO]
  exact h3
 ·rw[<-d];exact e _ _ _ rfl (e _ _ _ rfl (e _ _ _ rfl h6 n) t) L
 ·rw[<-d];exact y.put hz
 ·rw[<-d];simp
def SE(q:Rat):-1<=q.num.sign/\q.num.sign<=1:=by
 rcases Int.lt_trichotomy q.num 0 with h|h|h
 ·rw[Int.sign_eq_neg_one_of_neg h];decide
 ·rw[h];decide
 ·rw[Int.sign_eq_one_of_pos h];decide
def jA(w:C)(s:Sp)(e f j:T)(d:List Rat)(o:Rat×Rat)(i:Nat)(x g:Rat)(a b c:T)(W:C):Prop:=
 ∃b11 b12,a=Y Z (i:Int)/\b=F (G ⟨b11,0,I⟩)/\c=F (G ⟨b12,0,I⟩)/\w.heap.size+1+1+1<=b11/\b11<b12/\b12<W.heap.size/\Nj w s e f j d o W/\RB W b11 x/\RB W b12 g
def iA(w:C)(s:Sp)(f j k:T)(e:List Rat)(o:Rat×Rat)(i:Nat)(x g h:Rat)(a b c d:T)(W:C):Prop:=
 ∃b13,jA w s f j k e o i x g a b c W/\d=F (G ⟨b13,0,I⟩)/\b13<W.heap.size/\RB W b13 h
def Rx{w:C}{s:Sp}{v1 v2 vq:T}{qs:List Rat}{o:Rat×Rat}{W:C}(h:Nj w s v1 v2 vq qs o W){a z e K:Option Oa}{m c R c2 n k n2 L:Nat}{s1 t:Bool}{p q x g:Rat}{b d i:Nat}(u:Cb W (U #[O a m c,N s1,O z R c2]) p)(v:Cb W (U #[O e n k,N t,O K n2 L]) q)(z1:w.heap.size+1+1+1<=b)(z2:b<d)(z3:d<W.heap.size)(h1:RB W b x)(h2:RB W d g){W1 f:C}(l:((W.setCell ⟨w.heap.size+1,0,I⟩ (O a m c)).setCell ⟨w.heap.size+1,1,I⟩ (N s1)).setCell ⟨w.heap.size+1,2,I⟩ (O z R c2)=W1)(r:((W1.setCell ⟨w.heap.size+1+1,0,I⟩ (O e n k)).setCell ⟨w.heap.size+1+1,1,I⟩ (N t)).setCell ⟨w.heap.size+1+1,2,I⟩ (O K n2 L)=f):jA w s v1 v2 vq qs (p,q) i x g (Y Z (i:Int)) (F (G ⟨b,0,I⟩)) (F (G ⟨d,0,I⟩)) f:=by obtain⟨P1,P2,y⟩:=Nj.put2 h u v l r;have j:Ba f f:=eR _;exact⟨b,d,rfl,rfl,rfl,z1,z2,Nat.lt_of_lt_of_le oM j.size,P1.ext j,(y _ _ oM h1).ext j,(y _ _ oM h2).ext j⟩
def iC{w:C}{s:Sp}{t u j:T}{p:List Rat}{o:Rat×Rat}{W:C}(h:Nj w s t u j p o W){a l:Option Oa}{m c n c2:Nat}{q:Bool}{x g r p0:Rat}{d e b i:Nat}(R:Cb W (U #[O a m c,N q,O l n c2]) r)(z1:w.heap.size+1+1+1<=d)(z2:d<e)(z3:e<b)(z4:b<W.heap.size)(z:RB W d x)(K:RB W e g)(L:RB W b p0)(hv:j.ownBlock≠G b){W1:C}(f:((W.setCell ⟨b,0,I⟩ (O a m c)).setCell ⟨b,1,I⟩ (N q)).setCell ⟨b,2,I⟩ (O l n c2)=W1):iA w s t u j p o i x g r (Y Z (i:Int)) (F (G ⟨d,0,I⟩)) (F (G ⟨e,0,I⟩)) (F (G ⟨b,0,I⟩)) W1:=by obtain⟨v,y,k,P4⟩:=Nj.box h oM hv L R f;exact⟨b,⟨d,e,rfl,rfl,rfl,z1,z2,by omega,v,k _ _ oM z,k _ _ oM K⟩,rfl,by omega,y⟩
end
section
open Go.RowKit Go.Shelf Go.Sort Go.Lib
def jV(a:Nat->C->Prop)(c:Nat)(b:T)(W:C):Prop:=b=Y Z 0/\a 0 W
def ML(w:C)(v:T)(js:List (JS×T))(b1 b2:Nat)(i:Nat->C->Prop)(g:∀k W,i k W->Fe W v js)(h0:i 0 w)(af:0<js.length)(hf:∀k W j,i k W->js[k]?=G j->Calls Tryz.prog 102 #[U (qh j),F (G ⟨b1,0,I⟩),F (G ⟨b2,0,I⟩)] W fun e w'=>e=.returned (N true)/\i (k+1) w'):Calls Tryz.prog 88 #[v,.func (.func 102) #[] #[F (G ⟨b1,0,I⟩),F (G ⟨b2,0,I⟩)]] w fun e w'=>e=.returned (Y Z 0)/\i 1 w':=by
 have h:=g 0 w h0;obtain⟨a,c,rfl⟩:=h.form;obtain⟨n,hn⟩:=gX js.length;rw[hn]at h af g ⊢;have u:=h.le;unfold maxLen at u;have ah:n<=9223372036854775807:=oM;have Hn:=Aa hn;have Hf:=Aa hf;have l:=Aa g;have p1:(0:Int)<(n:Int):=oM;clear hn u hf g h;go_in;go_wp2;go_loopg [8] 1 (jV i)
 case atStart=>exact⟨rfl,h0⟩
 case round =>
  obtain⟨rfl,hS⟩:=hrel;obtain⟨⟨⟨⟨nm,sh,d,de,gx,gz,wy,ax,az,sk⟩,k,⟨xl,xh⟩,zl,zh⟩,v⟩,hq⟩:∃q,js[0]?=G q:=⟨js[0]'(by rw[Hn.o];omega),by simp⟩;obtain⟨b,o,rfl,hb,f⟩:=(l.o _ _ hS).at' hq;have x:=Aa (Hf.o 0 wr _ hS hq);unfold qh at f x;dsimp only at f x;have y:=f 0 (.string nm) rfl;have z:=f 1 v rfl;have K:=f 2 (Y Z d) rfl;have L:=f 3 (Y Z de) rfl;have R:=f 4 (Y Z gx) rfl;have aa:=f 5 (Y Z gz) rfl;have ab:=f 6 (Y Z wy) rfl;have ac:=f 7 (Y Z ax) rfl;have ad:=f 8 (Y Z az) rfl;have ae:=f 9 (Y .u8 sk) rfl;have m:=f 10 (Y Z k) rfl;have p:=f 11 (Y Z xl) rfl;have r:=f 12 (Y Z xh) rfl;have s:=f 13 (Y Z zl) rfl;have t:=f 14 (Y Z zh) rfl;simp only[Nat.add_zero,Nat.zero_mul]at y z K L R aa ab ac ad ae m p r s t;clear hq f hS h0;go_wp2_with(((go_at_call 102;(with_reducible refine(x.o).mono ?_);rintro e w1 ⟨rfl,ag⟩)));go_ret;exact⟨rfl,ag⟩
def qV(a:Nat->C->Prop)(js:List (JS×T))(b:Nat)(t5 c:T)(W:C):Prop:=
 ∃m:Nat,t5=Y Z 0/\c=Y Z (m:Int)/\b=js.length-m/\1<=m/\m<=js.length/\a m W
def tP(w:C)(v:T)(base:Nat)(js:List (JS×T))(b1 b2:Nat)(p:Nat->C->Prop)(l:∀k W,p k W->Fa 113 15 W base v (js.map jc))(x:∀k W W',p k W->Ba W W'->p k W')(h0:p 0 w)(ab:0<js.length)(aj:js.length<=1000000)(hv:∀j∈js,∃a n c,j.2=O a n c)(hf:∀k W j,p k W->js[k]?=G j->Calls Tryz.prog 102 #[U (qh j),F (G ⟨b1,0,I⟩),F (G ⟨b2,0,I⟩)] W fun e w'=>e=.returned (N true)/\p (k+1) w'):Calls Tryz.prog 51 #[v,.func (.func 102) #[] #[F (G ⟨b1,0,I⟩),F (G ⟨b2,0,I⟩)]] w fun e w'=>∃a c W1,e=.returned (O a 0 c)/\p js.length W1/\W1.grownBy w' v.ownBlock:=by
 have h:=l 0 w h0;have HI:=Aa (ML w v js b1 b2 p (fun k W hW=>(l k W hW).js) h0 ab hf);obtain⟨a,n,c,rfl⟩:=h.i;have hl:=h.len;rw[lL]at hl;subst hl;obtain⟨n,hn⟩:=gX js.length;rw[hn]at h HI aj l ab ⊢;have r:=Aa hn;have Hf:=Aa hf;have K:=Aa l;have y:=Aa x;obtain⟨g,rfl,aD,aE⟩:=h.blk (by rw[lL,r.o];omega);have L:n<=c/\c<=9223372036854775807:=by
  rcases h.2.2 with ⟨h9,_⟩|⟨g',cap,cur,hv,_,_,ak,ag,_⟩
  ·cases h9
  ·cases hv;rw[lL,r.o]at ak;unfold maxLen at ag;omega
 obtain⟨ae,af⟩:=L;obtain⟨R,hR⟩:∃R:Ending->C->Prop,(fun e w'=>∃a c' W1,e=.returned (O a 0 c')/\p n W1/\W1.grownBy w' (Value.slice (G ⟨g,0,I⟩) n c).ownBlock)=R:=⟨_,rfl⟩;rw[hR];have HR:=Aa hR;clear hn hf l x h hR h0;go_in;go_wp2_with(go_at_call 88;(with_reducible refine(HI.o).mono ?_);rintro e w1 ⟨rfl,s⟩);go_loopg [5,6] (n-1) (qV p js)
 case atStart=>exact⟨1,rfl,by go_num,by rw[r.o],nE _,by rw[r.o];omega,s⟩
 case round =>
  clear s;obtain⟨m,rfl,rfl,rfl,aG,ai,hS⟩:=hrel;rw[r.o]at ai;have b:=K.o _ _ hS;by_cases aF:m<n
  ·obtain⟨⟨⟨⟨nm,sh,d,de,gx,gz,wy,ax,az,sk⟩,k,⟨xl,xh⟩,zl,zh⟩,v⟩,f⟩:∃q,js[m]?=G q:=⟨js[m]'(by rw[r.o];omega),by simp⟩;obtain⟨va,vn,vc,ac⟩:=hv _ (lM f);dsimp only at ac;subst ac;have ad:=b.cell (i:=m) (j:=0) (u:=.string nm) (by rw[lP,f];rfl) rfl;have aq:=b.cell (i:=m) (j:=1) (u:=O va vn vc) (by rw[lP,f];rfl) rfl;have ar:=b.cell (i:=m) (j:=2) (u:=Y Z d) (by rw[lP,f];rfl) rfl;have au:=b.cell (i:=m) (j:=3) (u:=Y Z de) (by rw[lP,f];rfl) rfl;have av:=b.cell (i:=m) (j:=4) (u:=Y Z gx) (by rw[lP,f];rfl) rfl;have aw:=b.cell (i:=m) (j:=5) (u:=Y Z gz) (by rw[lP,f];rfl) rfl;have ay:=b.cell (i:=m) (j:=6) (u:=Y Z wy) (by rw[lP,f];rfl) rfl;have aA:=b.cell (i:=m) (j:=7) (u:=Y Z ax) (by rw[lP,f];rfl) rfl;have aB:=b.cell (i:=m) (j:=8) (u:=Y Z az) (by rw[lP,f];rfl) rfl;have aC:=b.cell (i:=m) (j:=9) (u:=Y .u8 sk) (by rw[lP,f];rfl) rfl;have al:=b.cell (i:=m) (j:=10) (u:=Y Z k) (by rw[lP,f];rfl) rfl;have am:=b.cell (i:=m) (j:=11) (u:=Y Z xl) (by rw[lP,f];rfl) rfl;have an:=b.cell (i:=m) (j:=12) (u:=Y Z xh) (by rw[lP,f];rfl) rfl;have ao:=b.cell (i:=m) (j:=13) (u:=Y Z zl) (by rw[lP,f];rfl) rfl;have ap:=b.cell (i:=m) (j:=14) (u:=Y Z zh) (by rw[lP,f];rfl) rfl;simp only[Nat.add_zero]at ad;have HC:=Aa (fun W (hW:Ba wr W)=>Hf.o m W _ (y.o _ _ _ hS hW) f);unfold qh at HC;dsimp only at HC;have zg:=(b.lt g rfl).2;clear f b hS;go_wp2_with(((go_at_call 102;refine cM (HC.o _ eA) ?_;rintro e w1 ⟨rfl,s⟩)));go_roundg (n-(m+1))
   case measure=>have:=r.o;omega
   case rel=>exact⟨m+1,rfl,by go_num,by rw[r.o],by omega,by rw[r.o];omega,s⟩
  ·obtain rfl:m=n:=oM;obtain⟨wc,aa,aH,ah⟩:=UE (P:=Tryz.prog) (t:=87) (z:=U iq) (w:=wr) (o:=0*15) (c2:=c-0) (fun w=>Tryz.zeroValue113 w) rfl (by simp[Value.cells,iq];decide) Tryz.underlying87 b oM rfl;have c3:(m:Int)<=(c:Int):=oM;have c5:0<c:=oM;have c6:(0:Int)<(c:Int):=oM;simp only[Nat.zero_mul,Nat.sub_zero]at aa;go_wp2;rw[<-HR.o];exact⟨_,_,wr,rfl,hS,ah⟩
