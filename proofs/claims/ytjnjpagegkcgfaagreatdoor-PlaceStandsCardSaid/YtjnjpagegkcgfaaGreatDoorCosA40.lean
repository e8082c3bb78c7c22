/- Part 41. -/
import Derived.Test.YtjnjpagegkcgfaaGreatDoorCosA39
import Derived.Test.YtjnjpagegkcgfaaGreatDoorCosA18
import Derived.Test.YtjnjpagegkcgfaaGreatDoorCosA19
import Derived.Test.YtjnjpagegkcgfaaGreatDoorCosA28
import Derived.Test.YtjnjpagegkcgfaaGreatDoorCosA21
import Derived.Test.YtjnjpagegkcgfaaGreatDoorCosA24
import Derived.Test.YtjnjpagegkcgfaaGreatDoorCosA36
import Derived.Laws.StructEq
set_option maxRecDepth 1000000
set_option maxHeartbeats 16000000
set_option linter.unusedSimpArgs false
set_option linter.unusedVariables false
open Go.Value renaming slice->O,int->Z,bool->V,agg->J,tuple->G
open Go.IntKind renaming i64->Y
open Option renaming none->X,some->M
open Go renaming World->I,Value->C,Addr->F
namespace Go.Proofs.YtjnjpagegkcgfaaGreatDoor.Cop
section
open Go.RowKit Go.Shelf Go.Sort
attribute [local go_sem] Oper.semAt_some
def AtqS(w:I)(L:LP)(x:Rat)(a c:Obj)(t5:C)(W:I):Prop:=
 ∃m:Nat,t5=Z Y ((m:Int)+1)/\m+1<=L.length/\(∀j,j<m->¬rcmp x (((ptN L (j+1)).1:Int):Rat)<=0)/\Ext w W/\W.heap[w.heap.size]?=M a/\W.heap[w.heap.size+1]?=M c
def AtC(wr:I)(a b:Int×Int)(c d:C)(W:I):Prop:=
 ∃b6 b7:Nat,c = .pointer (M ⟨b6,0,X⟩)/\d = .pointer (M ⟨b7,0,X⟩)/\W.heap[b6]?=M (Obj.cells #[Value.int Y (a.1),Value.int Y (a.2)] 27 (0,0))/\W.heap[b7]?=M (Obj.cells #[Value.int Y (b.1),Value.int Y (b.2)] 27 (0,0))/\Ext wr W
theorem zi2(w:I)(v vx:C)(L:LP)(x:Rat)(h:IsPr w v L)(ok:LnOk L)(hr:Rise L)(hx:IsQ w vx x)(hb:Rb 2000 x) :
  Calls Tryz.prog 37 #[v,vx] w (RetQr w (atR L x)):=by
 obtain⟨a,c,rfl⟩:=h.form;obtain⟨n,hn⟩:=gX L.length;obtain⟨xs,xa,xm,xc,xt,xe,xi,xj,rfl⟩:=hx.form;have bO:0<n:=by rw[<-hn];exact List.length_pos_iff.2 ok.1
 have bG:n<=64:=by rw[<-hn];exact ok.2.2
 have aO:∀i,i<n->Bd 104000 (ptN L i).1/\Bd 104000 (ptN L i).2:=fun i hi=>ok.2.1 _ (zaw (by rw[hn];exact hi))
 obtain⟨q,hq⟩:=gX (atR L x);rw[hq,hn];have Hq:=hd9 hq;have Hn:=hd9 hn;have H:=hd9 h;have Hr:=hd9 hr;have ay:=hd9 aO;have av:Hid (Rb limQ x):=hd9 (hb.mono dM);have Hb:=hd9 hb;have a3:=hd9 ok.1;clear hq hn h hr aO ok hb;go_enter Tryz.func37,Tryz.ntmps37;go_wp2
 go_loopw [5] (AtqS w L x (Obj.cells #[Value.int Y xs,Value.slice xa xm xc,Value.int Y xt,Value.slice xe xi xj] 68) (Obj.cells #[Value.int Y 0,Value.slice X 0 0,Value.int Y 0,Value.slice X 0 0] 68)) (fun t5 _=>n-(intOf t5).toNat)
 case atStart=>exact⟨0,rfl,by rw[Hn.out];omega,fun j hj=>by omega,eA,nbh0 ..,qhA _ _ _ sM⟩
 case round =>
  obtain⟨m,rfl,hm,aM,an,Q,g⟩:=hrel;rw[Hn.out]at hm;have ax:=hd9 aM;have c0:=qcB Q (i:=0) (u:=Z Y xs) rfl;have c1:=qcB Q (i:=1) (u:=O xa xm xc) rfl;have c2:=qcB Q (i:=2) (u:=Z Y xt) rfl;have c3:=qcB Q (i:=3) (u:=O xe xi xj) rfl;have r0:=qcB g (i:=0) (u:=Z Y 0) rfl;have r1:=qcB g (i:=1) (u:=O X 0 0) rfl;have r2:=qcB g (i:=2) (u:=Z Y 0) rfl;have r3:=qcB g (i:=3) (u:=O X 0 0) rfl;have bw:=qfB g 0;have bx:=qfB g 1;have bz:=qfB g 2;have bA:=qfB g 3;have rz:=zaa g;have a1:=hd9 Q;have aw:=hd9 g;have ai:=hd9 an;clear aM Q g
  by_cases ak:m+1<n
  ·obtain⟨b,o,rfl,bm,d0,d1⟩:=(H.out.ext' an).pt (i:=m+1) (by rw[Hn.out];exact ak)
   obtain⟨b2,o2,e2,bF,f0,f1⟩:=(H.out.ext' an).pt (i:=m) (by rw[Hn.out];omega)
   cases e2
   have bb:=ay.out (m+1) ak;have ba:=ay.out m oM;have aB:(ptN L m).1<(ptN L (m+1)).1:=zcS Hr.out oM (by rw[Hn.out];exact ak);have l:=znU (L:=L) (x:=x) (m:=m) (by rw[Hn.out];exact ak) ax.out;rw[Hq.out]at l;obtain⟨⟨s,pz⟩,hp⟩:∃p,ptN L m=p:=⟨_,rfl⟩;obtain⟨⟨P,qz⟩,aA⟩:∃p,ptN L (m+1)=p:=⟨_,rfl⟩;rw[hp]at f0 f1 ba aB l;rw[aA]at d0 d1 bb aB l;dsimp only at d0 d1 f0 f1 ba bb aB l;obtain⟨T,hT⟩:=gX (rcmp x ((P:Int):Rat));rw[hT]at l;have HT:=hd9 hT;have aI:=hd9 l;have a4:=hd9 aA;have aD:Hid (Rb limQ ((P:Int):Rat)):=hd9 ((zaC bb.1).mono dM);unfold Bd at ba bb;obtain⟨⟨bI,bJ⟩,⟨bK,bL⟩⟩:=ba;obtain⟨⟨bM,bN⟩,⟨bg,bh⟩⟩:=bb;have aE:=hd9 (fun W=>zdf W P oM oM);have g0:(0:Int)<=(m:Int)+1:=oM
   have g1:(m:Int)+1<(n:Int):=oM
   have g2:((m:Int)+1).toNat=m+1:=oM
   have kw:IntKind.i64.wrap ((m:Int)+1)=(m:Int)+1:=iW _ oM;clear hp aA hT l
   by_cases aj:T<=0
   ·have k9:decide (T<=0)=true:=by simpa using aj
    go_wp2;refine wp_region_held_drew (S:=CellL [(⟨w.heap.size,0,X⟩,Z Y xs),(⟨w.heap.size,1,X⟩,O xa xm xc),(⟨w.heap.size,2,X⟩,Z Y xt),(⟨w.heap.size,3,X⟩,O xe xi xj),(⟨b,o+(m+1)*2,X⟩,Z Y P)]) kM cA (fun d=>?_);refine sN 0 ?_
    iterate 6
     refine tkn ?_
    refine oN ?_;refine cl1 (i:=6) fun K f=>?_
    go_simp
    (with_reducible refine cM (aE.out wr.drew) ?_)
    rintro e w5 ⟨r5,rfl,aa,y⟩;obtain⟨s5,a5,m5,c5,t5,e5,i5,j5,rfl⟩:=aa.form
    go_wp2_with fail
    refine kO f (cE d y) (fun d=>?_);clear f K;refine cl1 (i:=7) fun K f=>?_
    go_simp
    (with_reducible refine cM (zi4 w5 _ _ x ((P:Int):Rat) ((hx.ext ai.out).ext ((eR wr).drew.trans y)) aa av.out aD.out) ?_)
    rw[HT.out];rintro e z ⟨rfl,ac⟩
    go_wp2_with fail
    refine kO f (cE d ac) (fun d=>?_);clear f K;refine tk1 (i:=8) ?_;refine wpAnyH_done kM ?_ _;have D:Ext wr z:=(eR wr).drew.trans (y.trans ac);have h9:=aI.out aj;have H9:=hd9 h9
    replace d0:=D.cellS d0
    replace d1:=D.cellS d1
    replace f0:=D.cellS f0
    replace f1:=D.cellS f1
    replace c0:=D.cellS c0
    replace c1:=D.cellS c1
    replace c2:=D.cellS c2
    replace c3:=D.cellS c3
    have z6:w.heap.size+1<z.heap.size:=D.lt rz;have g3:(m:Int)+1-1=(m:Int):=oM
    have g4:(0:Int)<=(m:Int):=oM
    have g5:(m:Int)<(n:Int):=oM
    have bt:IntKind.i64.wrap (m:Int)=(m:Int):=iW _ oM;clear h9 d r0 r1 r2 r3 bw bx bz bA aa y ac
    go_upto_region 5 with fail
    have bV:b<z.heap.size:=World.block_lt_of_cell? z _ d0
    go_cut [6,7] (AtC z (s,pz) (P,qz))
    case first =>
     go_wp2;refine wp_region_held_drew (S:=CellL [(⟨b,o+(m+1)*2,X⟩,Z Y P),(⟨b,o+(m+1)*2+1,X⟩,Z Y qz),(⟨b,o+m*2,X⟩,Z Y s),(⟨b,o+m*2+1,X⟩,Z Y pz)]) kM cA (fun d=>?_);refine sN 0 ?_
     iterate 9
      refine tkn ?_
     refine oN ?_;refine call2 (i:=9) (j:=10) (fun K f=>?_) (fun K f=>?_)
     ·go_simp
      refine kO f (cE d ((eR _).alloc _)) (fun d=>?_);clear f K;refine cl1 (i:=10) fun K f=>?_
      go_simp;refine kO f (cE d ((eR _).alloc _)) (fun d=>?_);clear f K;have q1:¬b=z.heap.size:=oM
      have q2:¬b=z.heap.size+1:=oM
      refine cl1 (i:=11) fun K f=>?_
      go_simp;refine kO f cA (fun d=>?_);clear f K;refine cl1 (i:=12) fun K f=>?_
      go_simp;refine kO f cA (fun d=>?_);clear f K;refine wpAnyH_done kM ?_ _;go_wp2;go_meet;exact⟨z.heap.size,z.heap.size+1,rfl,rfl,nbh0 ..,qhA _ _ _ sM,(((eR z).alloc _).alloc _).drew⟩
     ·go_simp
      refine kO f (cE d ((eR _).alloc _)) (fun d=>?_);clear f K;refine cl1 (i:=9) fun K f=>?_
      go_simp;refine kO f (cE d ((eR _).alloc _)) (fun d=>?_);clear f K;have q1:¬b=z.heap.size:=oM
      have q2:¬b=z.heap.size+1:=oM
      refine cl1 (i:=11) fun K f=>?_
      go_simp;refine kO f cA (fun d=>?_);clear f K;refine cl1 (i:=12) fun K f=>?_
      go_simp;refine kO f cA (fun d=>?_);clear f K;refine wpAnyH_done kM ?_ _;go_wp2;go_meet;exact⟨z.heap.size+1,z.heap.size,rfl,rfl,qhA _ _ _ sM,nbh0 ..,(((eR z).alloc _).alloc _).drew⟩
    case rest =>
     obtain⟨b6,b7,rfl,rfl,a6,a7,XC⟩:=hcut;have u0:=qcB a6 (i:=0) (u:=Z Y s) rfl;have u1:=qcB a6 (i:=1) (u:=Z Y pz) rfl;have v0:=qcB a7 (i:=0) (u:=Z Y P) rfl;have v1:=qcB a7 (i:=1) (u:=Z Y qz) rfl;have uz:=zaa a6
     replace c0:=XC.cellS c0
     replace c1:=XC.cellS c1
     replace c2:=XC.cellS c2
     replace c3:=XC.cellS c3
     have z9:w.heap.size+1<wc.heap.size:=XC.lt z6;have bU:w.heap.size<wc.heap.size:=oM
     have X0:Ext w wc:=ai.out.trans (D.trans XC);have g:=(D.trans XC).heapS aw.out;have aH:=hd9 g;have bc:Hid (IsQ wc (J #[Z Y xs,O xa xm xc,Z Y xt,O xe xi xj]) x):=hd9 (hx.ext X0);have aF:=hd9 (fun W=>zet W (qz-pz) (P-s) oM oM oM oM oM);obtain⟨sl,al⟩:=gX (Rat.divInt (qz-pz) (P-s));rw[al]at aF
     have af:Rb 1 sl:=by
      rw[<-al];have hd:P-s≠0:=oM
      exact⟨zg9 hd (by unfold Lm B;simp;omega),zfh hd (by unfold Lm B;simp;omega)⟩
     have ap:((pz:Int):Rat)+sl*(x-((s:Int):Rat))=q:=by rw[<-al,zmH x (s,pz) (P,qz)];exact H9.out.symm
     have HE:=hd9 ap;have aU:Hid (Rb limQ ((s:Int):Rat)):=hd9 ((zaC (k:=104000) (by unfold Bd;omega)).mono dM);have aV:Hid (Rb limQ ((pz:Int):Rat)):=hd9 ((zaC (k:=104000) (by unfold Bd;omega)).mono dM);have ag:Rb 4001 (x-((s:Int):Rat)):=Rb.sub (k:=2000) Hb.out ((zaC (k:=104000) (by unfold Bd;omega)).mono dM);have aW:Hid (Rb limQ (x-((s:Int):Rat))):=hd9 (ag.mono dM);have aX:Hid (Rb limQ sl):=hd9 (af.mono dM);have aY:Hid (Rb limQ (sl*(x-((s:Int):Rat)))):=hd9 ((Rb.mul af ag).mono dM);have aZ:=hd9 (fun W=>zdf W s oM oM);have a0:=hd9 (fun W=>zdf W pz oM oM);clear al af ap ag g a6 a7 d0 d1 f0 f1
     go_upto_region 7 with (go_at_call 74;(with_reducible refine(aF.out wc).mono ?_);rintro e w8 ⟨r8,rfl,ab,ad⟩;obtain⟨s8,a8,m8,c8,t8,e8,i8,j8,rfl⟩:=ab.form;obtain⟨az,aL⟩:=ad.cells)
     obtain⟨W8,ae⟩:=gX (w8.alloc (Obj.cells #[Value.int Y s8,Value.slice a8 m8 c8,Value.int Y t8,Value.slice e8 i8 j8] 68));have X8:Ext wc W8:=by rw[<-ae];exact ad.alloc _
     have h8:W8.heap[w8.heap.size]?=M (Obj.cells #[Value.int Y s8,Value.slice a8 m8 c8,Value.int Y t8,Value.slice e8 i8 j8] 68 (0,0)):=by rw[<-ae];exact aN _ _
     have bo:IsQ W8 (J #[Z Y s8,O a8 m8 c8,Z Y t8,O e8 i8 j8]) sl:=by rw[<-ae];exact ab.ext ((eR _).alloc _)
     rw[ae];obtain⟨b8,aK⟩:=gX w8.heap.size;rw[aK]at h8 ⊢;have y0:=qcB h8 (i:=0) (u:=Z Y s8) rfl;have y1:=qcB h8 (i:=1) (u:=O a8 m8 c8) rfl;have y2:=qcB h8 (i:=2) (u:=Z Y t8) rfl;have y3:=qcB h8 (i:=3) (u:=O e8 i8 j8) rfl
     replace u0:=X8.cellS u0
     replace u1:=X8.cellS u1
     replace c0:=X8.cellS c0
     replace c1:=X8.cellS c1
     replace c2:=X8.cellS c2
     replace c3:=X8.cellS c3
     have g:=X8.heapS aH.out;have aG:=hd9 g;have aT:=bc.out.ext X8;have zr:=zaa g;have bH:Ext w W8:=X0.trans X8;clear ae aK az aL ad ab h8 g v0 v1 kw bt g0 g1 g2 g3 g4 g5;refine zae (fun i=>decide (10<i)) (CellL [(⟨b6,0,X⟩,Z Y s),(⟨b6,1,X⟩,Z Y pz),(⟨b8,0,X⟩,Z Y s8),(⟨b8,1,X⟩,O a8 m8 c8),(⟨b8,2,X⟩,Z Y t8),(⟨b8,3,X⟩,O e8 i8 j8),(⟨w.heap.size,0,X⟩,Z Y xs),(⟨w.heap.size,1,X⟩,O xa xm xc),(⟨w.heap.size,2,X⟩,Z Y xt),(⟨w.heap.size,3,X⟩,O xe xi xj)]) kM ?_ (fun d=>?_)
     ·exact cA
     refine sN 0 ?_
     iterate 2
      refine tun ?_
     refine oN ?_;refine sN 3 ?_
     iterate 4
      refine tun ?_
     refine oN ?_;refine cu1 (i:=2) fun K f=>?_
     go_simp
     (with_reducible refine cM (a0.out _) ?_)
     rintro e w2 ⟨r2,rfl,aP,aS⟩;obtain⟨s2,a2,m2,c2,t2,e2,i2,j2,rfl⟩:=aP.form
     go_wp2_with fail
     refine kO f (fun _=>cE d aS) (fun d=>?_);clear f K
     replace d:=d rfl
     refine cu1 (i:=7) fun K f=>?_
     go_simp
     (with_reducible refine cM (aZ.out _) ?_)
     rintro e w7 ⟨r7,rfl,aQ,aC⟩;obtain⟨s7,a7,m7,c7,t7,e7,i7,j7,rfl⟩:=aQ.form
     go_wp2_with fail
     refine kO f (fun _=>cE d aC) (fun d=>?_);clear f K
     replace d:=d rfl
     have E7:Ext W8 w7:=(eR W8).drew.trans (aS.trans aC);refine cu1 (i:=8) fun K f=>?_
     go_simp
     (with_reducible refine cM (zn5 _ (J #[Z Y xs,O xa xm xc,Z Y xt,O xe xi xj]) (J #[Z Y s7,O a7 m7 c7,Z Y t7,O e7 i7 j7]) x ((s:Int):Rat) (aT.ext E7) aQ av.out aU.out) ?_)
     rintro e w9 ⟨r9,rfl,aR,am⟩;obtain⟨s9,a9,m9,c9,t9,e9,i9,j9,rfl⟩:=aR.form
     go_wp2_with fail
     refine kO f (fun _=>cE d am) (fun d=>?_);clear f K
     replace d:=d rfl
     refine cu1 (i:=9) fun K f=>?_
     go_simp
     (with_reducible refine cM (zn3 _ (J #[Z Y s8,O a8 m8 c8,Z Y t8,O e8 i8 j8]) (J #[Z Y s9,O a9 m9 c9,Z Y t9,O e9 i9 j9]) sl (x-((s:Int):Rat)) (bo.ext (E7.trans am)) aR aX.out aW.out) ?_)
     rintro e bT ⟨bP,rfl,aq,ah⟩;obtain⟨bB,be,bu,bi,bD,bk,bp,br,rfl⟩:=aq.form
     go_wp2_with fail
     refine kO f (fun _=>cE d ah) (fun d=>?_);clear f K
     replace d:=d rfl
     refine cu1 (i:=10) fun K f=>?_
     go_simp
     (with_reducible refine cM (zme _ (J #[Z Y s2,O a2 m2 c2,Z Y t2,O e2 i2 j2]) (J #[Z Y bB,O be bu bi,Z Y bD,O bk bp br]) ((pz:Int):Rat) (sl*(x-((s:Int):Rat))) (aP.ext (aC.trans (am.trans ah))) aq aV.out aY.out) ?_)
     rintro e ao ⟨bQ,rfl,ar,au⟩;obtain⟨bC,bf,bv,bj,bE,bl,bq,bs,rfl⟩:=ar.form
     go_wp2_with fail
     refine kO f (fun _=>cE d au) (fun d=>?_);clear f K
     replace d:=d rfl
     have XF:Ext W8 ao:=E7.trans (am.trans (ah.trans au));have zf:w.heap.size+1<ao.heap.size:=XF.lt zr;have R:=XF.heapS aG.out;have o0:=qcB R (i:=0) (u:=Z Y 0) rfl;have o1:=qcB R (i:=1) (u:=O X 0 0) rfl;have o2:=qcB R (i:=2) (u:=Z Y 0) rfl;have o3:=qcB R (i:=3) (u:=O X 0 0) rfl;have of:=qfB R;refine cu1 (i:=11) fun K f=>?_
     go_simp;refine kO f (fun h=>nomatch h) (fun d=>?_);clear f K;refine doneHU kM ?_ _;go_wp2;refine bR (v:=J #[Z Y bC,O bf bv bj,Z Y bE,O bl bq bs]) (by simp[results,Tryz.results37,go_sem,zf,o0,o1,o2,o3]) rfl ⟨_,rfl,?_,eA⟩;have r:NoT 3 ao (w.heap.size+1):=by intro cs fr e;rw[R]at e;cases e
     rw[<-HE.out];exact ar.keep (((((KeepT.refl _ ao).setN r _).setN (r.set _ _) _).setN ((r.set _ _).set _ _) _).setN (((r.set _ _).set _ _).set _ _) _)
   ·have k9:decide (T<=0)=false:=by simpa using aj
    have aJ:Hid (∀j,j<m+1->¬rcmp x (((ptN L (j+1)).1:Int):Rat)<=0):=hd9 fun j hj=>by
     by_cases bn:j=m
     ·subst bn;rw[a4.out,HT.out];exact aj
     ·exact ax.out j oM
    go_wp2;refine wp_region_held_drew (S:=CellL [(⟨w.heap.size,0,X⟩,Z Y xs),(⟨w.heap.size,1,X⟩,O xa xm xc),(⟨w.heap.size,2,X⟩,Z Y xt),(⟨w.heap.size,3,X⟩,O xe xi xj),(⟨b,o+(m+1)*2,X⟩,Z Y P)]) kM cA (fun d=>?_);refine sN 0 ?_
    iterate 6
     refine tkn ?_
    refine oN ?_;refine cl1 (i:=6) fun K f=>?_
    go_simp
    (with_reducible refine cM (aE.out wr.drew) ?_)
    rintro e w5 ⟨r5,rfl,aa,y⟩;obtain⟨s5,a5,m5,c5,t5,e5,i5,j5,rfl⟩:=aa.form
    go_wp2_with fail
    refine kO f (cE d y) (fun d=>?_);clear f K;refine cl1 (i:=7) fun K f=>?_
    go_simp
    (with_reducible refine cM (zi4 w5 _ _ x ((P:Int):Rat) ((hx.ext ai.out).ext ((eR wr).drew.trans y)) aa av.out aD.out) ?_)
    rw[HT.out];rintro e z ⟨rfl,ac⟩
    go_wp2_with fail
    refine kO f (cE d ac) (fun d=>?_);clear f K;refine tk1 (i:=8) ?_;refine wpAnyH_done kM ?_ _;have D:Ext wr z:=(eR wr).drew.trans (y.trans ac);clear kw;go_wp2
    go_roundw
    case rel=>exact⟨m+1,by go_num,by rw[Hn.out];omega,fun j hj=>(by have:=aJ.out j hj;omega),ai.out.trans D,D.heapS a1.out,D.heapS aw.out⟩
    case measure=>simp[intOf];omega
  ·obtain rfl:m+1=n:=oM
   obtain⟨b,o,rfl,bm,d0,d1⟩:=(H.out.ext' an).pt (i:=m) (by rw[Hn.out];omega);have bb:=ay.out m oM;have t:=znT (L:=L) (x:=x) a3.out (fun j hj=>ax.out j (by rw[Hn.out]at hj;omega));rw[Hq.out,Hn.out,show m+1-1=m by omega]at t;obtain⟨⟨s,pz⟩,hp⟩:∃p,ptN L m=p:=⟨_,rfl⟩;rw[hp]at d0 d1 bb t;dsimp only at d0 d1 bb t;unfold Bd at bb;obtain⟨-,⟨bg,bh⟩⟩:=bb;have HE:=hd9 t;have HO:=hd9 (fun W=>zdf W pz oM oM);have g0:¬(m:Int)+1<(m:Int)+1:=oM
   have g3:(m:Int)+1-1=(m:Int):=oM
   have g4:(0:Int)<=(m:Int):=oM
   have g5:(m:Int)<(m:Int)+1:=oM
   clear hp t
   go_wp2_with(go_at_call 82;(with_reducible refine(HO.out wr).mono ?_);rintro e w8 ⟨r8,rfl,ab,ad⟩;obtain⟨s8,a8,m8,c8,t8,e8,i8,j8,rfl⟩:=ab.form;obtain⟨az,aL⟩:=ad.cells)
   refine bR (v:=J #[Z Y s8,O a8 m8 c8,Z Y t8,O e8 i8 j8]) (by simp[results,Tryz.results37,go_sem,az,rz,r0,r1,r2,r3]) rfl ⟨_,rfl,?_,eA⟩;have r:NoT 3 w8 (w.heap.size+1):=by intro cs fr e;rw[ad.heapS aw.out]at e;cases e
   rw[HE.out];exact ab.keep (((((KeepT.refl _ w8).setN r _).setN (r.set _ _) _).setN ((r.set _ _).set _ _) _).setN (((r.set _ _).set _ _).set _ _) _)
def PSr(w:I)(c:List C)(l:LP):Prop:=∃v,c=[v]/\IsPr w v l
abbrev IsLs(w:I)(v:C)(lss:List LP):Prop:=Sl 88 1 PSr w v lss
theorem IsLs.ext'{w w':I}{v:C}{a:List LP}(h:IsLs w v a)(k:Ext w w'):IsLs w' v a:=Sl.ext h (fun _ _ ⟨v,c,d⟩=>⟨v,c,d.ext' k⟩) k
theorem IsLs.at'{w:I}{a:Option F}{n c:Nat}{e:List LP}(h:IsLs w (O a n c) e){i:Nat}{l:LP}(j:e[i]?=M l) :
  ∃b o v,a=M ⟨b,o,X⟩/\b<w.heap.size/\w.cell? ⟨b,o+i,X⟩=M v/\IsPr w v l:=by
 obtain⟨b,o,d,rfl,f,k,⟨v,rfl,hv⟩,g⟩:=Sl.at h j;exact⟨b,o,v,rfl,f,by simpa using g 0 v rfl,hv⟩

def QX(W:I)(b:Nat)(q:Rat):Prop:=∃s a m c t e i j,W.heap[b]?=M (.cells #[Z Y s,O a m c,Z Y t,O e i j] 68 (0,0))/\IsQ W (J #[Z Y s,O a m c,Z Y t,O e i j]) q
section
variable {W W':I} {b b':Nat} {q q':Rat}
theorem QX.ext(h:QX W b q)(k:Ext W W'):QX W' b q:=by
 obtain⟨s,a,m,c,t,e,i,j,d,f⟩:=h;exact⟨s,a,m,c,t,e,i,j,k.heapS d,f.ext k⟩
theorem QX.not(h:QX W b q):NoT 3 W b:=by
 obtain⟨s,a,m,c,t,e,i,j,d,k⟩:=h;intro f g e;rw[d]at e;cases e
theorem QX.rd(h:QX W b q):∃s a m c t e i j,W.cell? ⟨b,0,X⟩=M (Z Y s)/\W.cell? ⟨b,1,X⟩=M (O a m c)/\W.cell? ⟨b,2,X⟩=M (Z Y t)/\W.cell? ⟨b,3,X⟩=M (O e i j)/\(∀k,W.frozen? ⟨b,k,X⟩=false)/\b<W.heap.size/\IsQ W (J #[Z Y s,O a m c,Z Y t,O e i j]) q:=by
 obtain⟨s,a,m,c,t,e,i,j,d,f⟩:=h;exact⟨s,a,m,c,t,e,i,j,qcB d (i:=0) rfl,qcB d (i:=1) rfl,qcB d (i:=2) rfl,qcB d (i:=3) rfl,qfB d,zaa d,f⟩
theorem QX.put{s t:Int}{a e:Option F}{m c i j:Nat}(h:QX W b q)(n:IsQ W (J #[Z Y s,O a m c,Z Y t,O e i j]) q'):QX ((((W.setCell ⟨b,0,X⟩ (Z Y s)).setCell ⟨b,1,X⟩ (O a m c)).setCell ⟨b,2,X⟩ (Z Y t)).setCell ⟨b,3,X⟩ (O e i j)) b q':=by
 have l:=h.not;obtain⟨u,d,r,f,v,g,o,p,k,w⟩:=h;exact⟨s,a,m,c,t,e,i,j,zcE (cs:=[Z Y u,O d r f,Z Y v,O g o p]) [Z Y s,O a m c,Z Y t,O e i j] k rfl,n.keep (zaW [Z Y s,O a m c,Z Y t,O e i j] 0 l)⟩
theorem QX.other4(h:QX W b q)(n:QX W b' q')(d:b≠b')(f g k l:C):QX ((((W.setCell ⟨b',0,X⟩ f).setCell ⟨b',1,X⟩ g).setCell ⟨b',2,X⟩ k).setCell ⟨b',3,X⟩ l) b q:=by
 obtain⟨s,a,m,c,t,e,i,j,o,p⟩:=h;refine⟨s,a,m,c,t,e,i,j,?_,p.keep (zaW [f,g,k,l] 0 n.not)⟩;have:=zaZ d [f,g,k,l] 0 W;exact this.trans o
theorem QX.new{s t:Int}{a e:Option F}{m c i j:Nat}(f:IsQ W (J #[Z Y s,O a m c,Z Y t,O e i j]) q)(d:b=W.heap.size):QX (W.alloc (.cells #[Z Y s,O a m c,Z Y t,O e i j] 68)) b q:=
 ⟨s,a,m,c,t,e,i,j,qhA _ _ _ d,f.ext ((eR _).alloc _)⟩
theorem QX.put2{p w:Rat}{j k t u:Int}{a d l m:Option F}{i c f g s c2 o r:Nat}(h:QX W b q)(x:QX W b' q')(e:b≠b')
  (y:IsQ W (J #[Z Y j,O a i c,Z Y k,O d f g]) p)(n:IsQ W (J #[Z Y t,O l s c2,Z Y u,O m o r]) w) :
  QX ((((((((W.setCell ⟨b,0,X⟩ (Z Y j)).setCell ⟨b,1,X⟩ (O a i c)).setCell ⟨b,2,X⟩ (Z Y k)).setCell ⟨b,3,X⟩ (O d f g)).setCell ⟨b',0,X⟩ (Z Y t)).setCell ⟨b',1,X⟩ (O l s c2)).setCell ⟨b',2,X⟩ (Z Y u)).setCell ⟨b',3,X⟩ (O m o r)) b p /\
  QX ((((((((W.setCell ⟨b,0,X⟩ (Z Y j)).setCell ⟨b,1,X⟩ (O a i c)).setCell ⟨b,2,X⟩ (Z Y k)).setCell ⟨b,3,X⟩ (O d f g)).setCell ⟨b',0,X⟩ (Z Y t)).setCell ⟨b',1,X⟩ (O l s c2)).setCell ⟨b',2,X⟩ (Z Y u)).setCell ⟨b',3,X⟩ (O m o r)) b' w:=by
 have z:=h.put y;have v:=x.other4 h (Ne.symm e) (Z Y j) (O a i c) (Z Y k) (O d f g);exact⟨z.other4 v e _ _ _ _,v.put (n.keep (zaW [Z Y j,O a i c,Z Y k,O d f g] 0 h.not))⟩
theorem QX.drew(h:QX W b q):QX W.drew b q:=h.ext (eR _).drew
end
end
section
open Go.RowKit Go.Shelf Go.Sort
attribute [local go_sem] Oper.semAt_some
def numQ(N D:Int):Rat:=Rat.divInt N (if D=0 then 1 else D)
theorem lm64{n:Int}(a : -9223372036854775808<=n)(c:n<=9223372036854775807):Lm 3 n:=by unfold Lm B;omega
theorem znh{N D:Int}(a : -9223372036854775808<=N)(c:N<=9223372036854775807)(d : -9223372036854775808<=D)(e:D<=9223372036854775807):Rb 6 (numQ N D):=by
 unfold numQ;rw[Rat.divInt_eq_div];exact Rb.div (Rb.int (lm64 a c) dM) (Rb.int (k:=3) (lm64 (by split<;>omega) (by split<;>omega)) dM) dM
def RetBo(w:I)(q:Rat)(e:Ending)(w':I):Prop:=∃r s,e = .returned (G #[r,s])/\IsR w' r q/\IsQ w' s q/\Ext w w'
theorem zlY(w:I)(n d:Int)(k : -9223372036854775808<=n)(l:n<=9223372036854775807)(m : -9223372036854775808<=d)(o:d<=9223372036854775807)(z:d≠0) :
  Calls Tryz.prog 73 #[Z Y n,Z Y d] w fun e L=>∃r,e = .returned (G #[r,Z Y 0])/\IsR L r (Rat.divInt n d)/\Ext w L:=by
 have R:=hd9 (fun(W:I)=>zcI W n k l);have Q:=hd9 (fun(W:I)=>zcI W d m o);have y:=hd9 (fun(W:I)(D K:C)(h4:IsZ W D n)(h5:IsZ W K d)=>zjK W D K n d h4 h5 ((lm64 k l).mono dM) ((lm64 m o).mono dM));rw[if_neg z]at y;clear k l m o z;go_enter Tryz.func73,Tryz.ntmps73
 go_wp2_with(first|(go_at_call 137;(with_reducible refine(R.out _).mono ?_);rintro e w1 ⟨r1,rfl,a,u⟩;obtain⟨a1,m1,c1,s1,rfl⟩:=a.form;obtain⟨⟨p,aa⟩,i⟩:=cK1 w u)|(go_at_call 137;(with_reducible refine(Q.out _).mono ?_);rintro e w2 ⟨r2,rfl,c,g⟩;obtain⟨a2,m2,c2,s2,rfl⟩:=c.form;obtain⟨⟨s,ab⟩,j⟩:=cK1 w g)|(go_at_call 145;(with_reducible refine(y.out _ _ _ (a.ext g) c).mono ?_);rintro e w3 ⟨r3,rfl,f,x⟩;obtain⟨T,m3,c3,s3,b3,n3,k3,rfl⟩:=f.form;obtain⟨⟨t,ac⟩,P⟩:=cK1 w x))
 refine bR (v:=G #[J #[O T m3 c3,V s3,O b3 n3 k3],Z Y 0]) (by simp[results,Tryz.results73,go_sem,p,s,t,i,j]) rfl ⟨_,rfl,f.keep kA,eA⟩
theorem zkU{W:I}{b b':Nat}{p q q':Rat}{s t:Int}{a e:Option F}{m c i j:Nat}{f g:Option F}{l k n c2:Nat}{o:Bool}(h:RB W b q)(z:QX W b' q')(D:b≠b')
  (K:IsR W (J #[O f l k,V o,O g n c2]) p)(L:IsQ W (J #[Z Y s,O a m c,Z Y t,O e i j]) p) :
  ∀W',(((((((W.setCell ⟨b,0,X⟩ (O f l k)).setCell ⟨b,1,X⟩ (V o)).setCell ⟨b,2,X⟩ (O g n c2)).setCell ⟨b',0,X⟩ (Z Y s)).setCell ⟨b',1,X⟩ (O a m c)).setCell ⟨b',2,X⟩ (Z Y t)).setCell ⟨b',3,X⟩ (O e i j))=W' ->
   IsR W' (J #[O f l k,V o,O g n c2]) p/\IsQ W' (J #[Z Y s,O a m c,Z Y t,O e i j]) p/\∀w,Ext w W->w.heap.size<=b->w.heap.size<=b'->Ext w W':=by
 rintro W' rfl
 have nb:∀T,T≠63->NoT T W b:=fun T u=>by
  obtain⟨_,_,_,_,_,_,_,d,_⟩:=h;intro x y e;rw[d]at e;cases e;exact u rfl
 have v:∀T,T≠68->NoT T W b':=fun T u=>by
  obtain⟨_,_,_,_,_,_,_,_,d,_⟩:=z;intro x y e;rw[d]at e;cases e;exact u rfl
 have key:∀T,T≠63->T≠68->KeepT T W (stL (stL W b 0 [O f l k,V o,O g n c2]) b' 0 [Z Y s,O a m c,Z Y t,O e i j]):=fun T d r =>
  (zaW _ 0 (nb T d)).trans (zaW _ 0 (((v T r).set _ _).set _ _ |>.set _ _))
 exact⟨K.keep (key _ dM dM),L.keep (key _ dM dM),fun w P d r=>zco r [Z Y s,O a m c,Z Y t,O e i j] 0 (zco d [O f l k,V o,O g n c2] 0 P)⟩
def BoC(w:I)(N d:Int)(W:I):Prop:=
 W.heap[w.heap.size]?=M (.cells #[Z Y N,Z Y d] 53 (0,0))/\RB W (w.heap.size+1) 0/\QX W (w.heap.size+1+1) 0/\Ext w W
theorem zkT(w:I)(N D:Int)(h0 : -9223372036854775808<=N)(h1:N<=9223372036854775807)(h2 : -9223372036854775808<=D)(h3:D<=9223372036854775807) :
  Calls Tryz.prog 17 #[J #[Z Y N,Z Y D]] w (RetBo w (numQ N D)):=by
 obtain⟨d,hd⟩:=gX ((if D=0 then 1 else D));have Q:d≠0:=by rw[<-hd];split<;>omega
 have R : -9223372036854775808<=d:=by rw[<-hd];split<;>omega
 have aa:d<=9223372036854775807:=by rw[<-hd];split<;>omega
 have HR:=hd9 (fun W=>zlY W N d h0 h1 R aa Q);have HQ:=hd9 (fun W=>zet W N d h0 h1 R aa Q);unfold numQ;rw[hd];obtain⟨q,hq⟩:=gX (Rat.divInt N d);rw[hq]at HR HQ ⊢;have Hd:=hd9 hd;clear hd Q R aa h0 h1 h2 h3 hq;go_enter Tryz.func17,Tryz.ntmps17
 go_upto_if 8 with fail
 obtain⟨W0,g⟩:=gX (((w.alloc (.cells #[Z Y N,Z Y D] 53)).alloc (.cells #[O X 0 0,V false,O X 0 0] 63)).alloc (.cells #[Z Y 0,O X 0 0,Z Y 0,O X 0 0] 68));have X0:Ext w W0:=by rw[<-g];exact(((eR w).alloc _).alloc _).alloc _
 have k:W0.heap[w.heap.size]?=M (.cells #[Z Y N,Z Y D] 53 (0,0)):=by rw[<-g];exact(((eR _).alloc _).alloc _).heapS (aN w _)
 have r0:RB W0 (w.heap.size+1) 0:=by rw[<-g];exact(RB.new (IsR.zero _) sM).ext ((eR _).alloc _)
 have q0:QX W0 (w.heap.size+1+1) 0:=by rw[<-g];exact QX.new (IsQ.zero _) sM
 have c1:=qcB k (i:=1) (u:=Z Y D) rfl;have f1:=qfB k 1;have z1:=zaa k;rw[g];clear g
 go_cut [] (fun W=>BoC w N d W)
 case first =>
  by_cases hD:D=0
  ·subst hD
   obtain rfl:1=d:=Hd.out;clear Hd;go_wp2;go_meet;have nn:∀T,T≠53->NoT T W0 w.heap.size:=fun T hT cs fr e=>by rw[k]at e;cases e;exact hT rfl
   refine⟨zbc k 1 _,r0.other (p:=⟨w.heap.size,1,X⟩) dO (nn _ dM) _,?_,X0.set (p:=⟨w.heap.size,1,X⟩) (nE _) _⟩;obtain⟨s,a,m,c,t,e,i,j,g1,g2⟩:=q0;exact⟨s,a,m,c,t,e,i,j,(bS _ _ _ _ dO).trans g1,g2.keep ((KeepT.refl _ W0).setN (p:=⟨w.heap.size,1,X⟩) (nn _ dM) _)⟩
  ·obtain rfl:D=d:=by have:=Hd.out;rwa [if_neg hD]at this
   clear Hd;go_wp2;go_meet;exact⟨k,r0,q0,X0⟩
 case rest =>
  clear k r0 q0 c1 f1 z1 X0 Hd;obtain⟨k,r0,q0,X0⟩:=hcut;have c0:=qcB k (i:=0) (u:=Z Y N) rfl;have c1:=qcB k (i:=1) (u:=Z Y d) rfl;have ag:=hd9 X0;have z1:=zaa k
  go_upto_region 4 with (go_at_call 73;(with_reducible refine(HR.out _).mono ?_);rintro e w3 ⟨r3,rfl,ac,ae⟩;obtain⟨o,m3,y,s3,r,n3,z,rfl⟩:=ac.form)
  obtain⟨W4,l⟩:=gX (w3.alloc (.cells #[O o m3 y,V s3,O r n3 z] 63));have X4:Ext wc W4:=by rw[<-l];exact ae.alloc _
  have r4:=r0.ext X4;have q4:=q0.ext X4;have e0:=X4.cellS c0;have e1:=X4.cellS c1;have ah:IsR W4 (J #[O o m3 y,V s3,O r n3 z]) q:=by rw[<-l];exact ac.ext ((eR _).alloc _)
  have kk:W4.heap[w3.heap.size]?=M (.cells #[O o m3 y,V s3,O r n3 z] 63 (0,0)):=by rw[<-l];exact aN w3 _
  have e2:=qcB kk (i:=0) (u:=O o m3 y) rfl;have ak:=qcB kk (i:=1) (u:=V s3) rfl;have e4:=qcB kk (i:=2) (u:=O r n3 z) rfl;obtain⟨x,L⟩:=gX w3.heap.size;have zb:wc.heap.size<=x:=by rw[<-L];exact ae.size
  have z2:w.heap.size+1+1<wc.heap.size:=by obtain⟨_,_,_,_,_,_,_,_,g1,_⟩:=q0;exact zaa g1
  rw[l];rw[L]at e2 ak e4 ⊢;have ai:=hd9 (ag.out.trans X4);clear l L kk ac ae k r0 q0 c0 c1 X0 ag X4
  have ab:∀b,b=w.heap.size+1\/b=w.heap.size+1+1->∀q∈[((⟨w.heap.size,0,X⟩:F),Value.int Y N),(⟨w.heap.size,1,X⟩,Z Y d),(⟨x,0,X⟩,O o m3 y),(⟨x,1,X⟩,V s3),(⟨x,2,X⟩,O r n3 z)],b≠q.1.block:=by
   intro b hb q hq;simp at hq
   rcases hq with rfl|rfl|rfl|rfl|rfl<;>(dsimp only;omega)
  refine wp_region_held_drew (S:=CellL [(⟨w.heap.size,0,X⟩,Z Y N),(⟨w.heap.size,1,X⟩,Z Y d),(⟨x,0,X⟩,O o m3 y),(⟨x,1,X⟩,V s3),(⟨x,2,X⟩,O r n3 z)]) kM cA (fun f=>?_);refine sN 0 ?_
  iterate 5
   refine tkn ?_
  refine oN ?_;refine cl1 (i:=5) fun K n=>?_
  go_simp
  (with_reducible refine cM (HQ.out _) ?_)
  rintro e w5 ⟨r5,rfl,ad,af⟩;obtain⟨s5,a5,m5,c5,t5,i5,j5,l5,rfl⟩:=ad.form
  go_wp2_with fail
  refine kO n (cE f af) (fun f=>?_);clear n K;have X5:Ext W4 w5:=(eR W4).drew.trans af;have R5:=r4.ext X5;have Q5:=q4.ext X5;have P:=hd9 (zkU R5 Q5 oM (ah.ext X5) ad);have aj:=hd9 (ai.out.trans X5);obtain⟨_,_,_,_,_,_,_,x0,x1,x2,al,am,an,xz,_⟩:=R5.rd;obtain⟨_,_,_,_,_,_,_,_,y0,y1,y2,y3,yf,yz,_⟩:=Q5.rd;have ao:=yf 0;have ap:=yf 1;have aq:=yf 2;have ar:=yf 3;clear af X5 r4 q4 ah ad R5 Q5 yf;refine cl1 (i:=6) fun K n=>?_
  go_simp;refine kO n (CellL.set3 f (ab _ (.inl rfl)) _ _ _) (fun f=>?_);clear n K;refine cl1 (i:=7) fun K n=>?_
  go_simp;refine kO n (CellL.set (CellL.set3 f (ab _ (.inr rfl)) _ _ _) (ab _ (.inr rfl)) _) (fun f=>?_);clear n K;refine wpAnyH_done kM ?_ _;go_wp2;refine bR (v:=G #[J #[O o m3 y,V s3,O r n3 z],J #[Z Y s5,O a5 m5 c5,Z Y t5,O i5 j5 l5]]) (by simp[results,Tryz.results17,go_sem,x0,x1,x2,al,am,an,y0,y1,y2,y3,ao,ap,aq,ar]) rfl ?_;obtain⟨P1,P2,P3⟩:=P.out _ rfl;exact⟨_,_,rfl,P1,P2,P3 w aj.out oM oM⟩
end
section
open Go.RowKit Go.Shelf Go.Sort Go.Lib
theorem zni{w:I}{base:Nat}{a:Option F}{n c:Nat}{d:List Be}(h:OwnBe w base (O a n c) d):n=d.length:=by
 obtain⟨g,e,f,_⟩:=h;rw[e.len,f]
theorem zmq{w:I}{base:Nat}{a:Option F}{n c:Nat}{o:List Be}(h:OwnBe w base (O a n c) o){k:Nat}{b:Be}(p:o[k]?=M b) :
  ∃g a1 m1 c1 s1 b1 n1 d1 a2 m2 c2 s2 b2 n2 d2 a3 m3 c3 s3 b3 n3 d3 a4 m4 c4 s4 b4 n4 d4,a=M ⟨g,0,X⟩/\base<=g/\g<w.heap.size /\
   CellL [(⟨g,k*17,X⟩,Z Y b.num),(⟨g,k*17+1,X⟩,O a1 m1 c1),(⟨g,k*17+2,X⟩,V s1),(⟨g,k*17+3,X⟩,O b1 n1 d1),(⟨g,k*17+4,X⟩,O a2 m2 c2),(⟨g,k*17+5,X⟩,V s2),(⟨g,k*17+6,X⟩,O b2 n2 d2),
    (⟨g,k*17+7,X⟩,O a3 m3 c3),(⟨g,k*17+8,X⟩,V s3),(⟨g,k*17+9,X⟩,O b3 n3 d3),(⟨g,k*17+10,X⟩,O a4 m4 c4),(⟨g,k*17+11,X⟩,V s4),(⟨g,k*17+12,X⟩,O b4 n4 d4),
    (⟨g,k*17+13,X⟩,Z Y b.d1.1),(⟨g,k*17+14,X⟩,Z Y b.d1.2),(⟨g,k*17+15,X⟩,Z Y b.d2.1),(⟨g,k*17+16,X⟩,Z Y b.d2.2)] w /\
   IsR w (J #[O a1 m1 c1,V s1,O b1 n1 d1]) b.fx/\IsR w (J #[O a2 m2 c2,V s2,O b2 n2 d2]) b.fz/\IsR w (J #[O a3 m3 c3,V s3,O b3 n3 d3]) b.tx/\IsR w (J #[O a4 m4 c4,V s4,O b4 n4 d4]) b.tz:=by
 obtain⟨r,d,K,v⟩:=h;have L:=(lS.1 p).1;obtain⟨c,i⟩:∃c,r[k]?=M c:=⟨_,gE oM⟩;obtain⟨f,t,e,⟨a1,m1,c1,s1,b1,n1,d1,a2,m2,c2,s2,b2,n2,d2,s,x,y⟩,⟨a3,m3,c3,s3,b3,n3,d3,a4,m4,c4,s4,b4,n4,d4,u,z,D⟩⟩:=v k c b i p
 obtain rfl:f=[O a1 m1 c1,V s1,O b1 n1 d1,O a2 m2 c2,V s2,O b2 n2 d2]:=by
  have:=congrArg Array.toList (Value.agg.inj s)
  simpa using this
 obtain rfl:t=[O a3 m3 c3,V s3,O b3 n3 d3,O a4 m4 c4,V s4,O b4 n4 d4]:=by
  have:=congrArg Array.toList (Value.agg.inj u)
  simpa using this
 subst e;obtain⟨g,rfl,l,m⟩:=d.blk oM;refine⟨g,a1,m1,c1,s1,b1,n1,d1,a2,m2,c2,s2,b2,n2,d2,a3,m3,c3,s3,b3,n3,d3,a4,m4,c4,s4,b4,n4,d4,rfl,l,m,⟨?_,?_,?_,?_,?_,?_,?_,?_,?_,?_,?_,?_,?_,?_,?_,?_,?_,trivial⟩,x,y,z,D⟩
 ·exact d.cell (j:=0) i rfl
 ·exact d.cell (j:=1) i rfl
 ·exact d.cell (j:=2) i rfl
 ·exact d.cell (j:=3) i rfl
 ·exact d.cell (j:=4) i rfl
 ·exact d.cell (j:=5) i rfl
 ·exact d.cell (j:=6) i rfl
 ·exact d.cell (j:=7) i rfl
 ·exact d.cell (j:=8) i rfl
 ·exact d.cell (j:=9) i rfl
 ·exact d.cell (j:=10) i rfl
 ·exact d.cell (j:=11) i rfl
 ·exact d.cell (j:=12) i rfl
 ·exact d.cell (j:=13) i rfl
 ·exact d.cell (j:=14) i rfl
 ·exact d.cell (j:=15) i rfl
 ·exact d.cell (j:=16) i rfl
theorem zmX(w:I)(c d:C)(e:IsPts w c exG)(f:IsPls w d ex3)(a:Gw w) :
  Calls Tryz.prog 16 #[J #[c,d],Z Y 2,Z Y 0] w (RetBs w [⟨0,100,80,200,80,(1,0),(1,0)⟩,⟨1,200,80,300,80,(1,0),(1,0)⟩]):=by
 have h:=zmM w c d exG ex3 2 exC 0 e f a zeR rfl oM oM (zbW zeR).2.2 (zbW zeR).1 dM;rw[show ex3.length+1=4 from rfl,zmL]at h;exact h
theorem zmY(w:I)(c d v:C)(g:IsPts w c exG)(i:IsPls w d ex3)(hv:IsPts w v brickS)(a:Gw w) :
  Calls Tryz.prog 10 #[J #[c,d],J (plc exD v)] w fun e f=>e = .returned (G #[Z Y 140,Z Y 0])/\Ext w f:=by
 refine(zk3 w c d v exG ex3 exD g i hv dM a).mono ?_;rintro e f ⟨rfl,j⟩
 have h:dropE exG ex3 exD=0:=by
  unfold dropE ex3;rw[show laidP exG [exA,exB,exC]=0 from zeR,if_neg dM,if_neg (by rw[zol];decide)];simp only[holdsB,clearB,clashB,List.any_cons,List.any_nil,relP,freeB,leastR,stopsR,stopsZ,zcz,zdM,zdN,zeU,zjC,zhw,zhx,zhy,zmx]
  decide +kernel
 rw[h,if_pos rfl,zmU];exact⟨rfl,j⟩
theorem znX(w:I)(c d:C)(g:IsPts w c brickS)(i:IsPts w d brickS)(a:Gw w) :
  Calls Tryz.prog 39 #[J (plc exA c),J (plc exB d)] w fun e f=>e = .returned (G #[Z .u8 1,Z Y 0])/\Ext w f:=by
 refine(zhH w c d exA exB g i dM dM a).mono ?_;rintro e f ⟨rfl,j⟩;unfold relK relE;rw[if_pos ⟨zms,zmt⟩,if_pos ⟨zms,zmt⟩,zos];exact⟨rfl,j⟩
theorem zhh{n:Int}(h:Bd 1000 n):Rb limT (n:Rat):=(zaC h dM).mono dM
theorem zmZ(w:I)(a:Option F)(m c:Nat)(s:Bool)(f:Option F)(j c2:Nat)(b:Option F)(n d:Nat)(t:Bool)(g:Option F)(k i:Nat)(l:IsR w (J #[O a m c,V s,O f j c2]) 100)(o:IsR w (J #[O b n d,V t,O g k i]) 80) :
  Calls Tryz.prog 48 #[J #[O a m c,V s,O f j c2,O b n d,V t,O g k i]] w fun e p=>e = .returned (.string ⟨#[40,49,48,48,44,32,56,48,41]⟩)/\Ext w p:=by
 have:=zfZ w _ _ 100 80 l o (zhh (n:=100) (by unfold Bd;omega)) (zhh (n:=80) (by unfold Bd;omega)) _ ⟨a,m,c,s,f,j,c2,b,n,d,t,g,k,i,rfl,rfl,rfl⟩;rw[znD]at this;exact this
theorem zlP:textV 200 80=[40,50,48,48,44,32,56,48,41]:=by decide +kernel
theorem zgP(w:I)(a:Option F)(m c:Nat)(s:Bool)(f:Option F)(j c2:Nat)(b:Option F)(n d:Nat)(t:Bool)(g:Option F)(k i:Nat)(l:IsR w (J #[O a m c,V s,O f j c2]) 200)(o:IsR w (J #[O b n d,V t,O g k i]) 80) :
  Calls Tryz.prog 48 #[J #[O a m c,V s,O f j c2,O b n d,V t,O g k i]] w fun e p=>e = .returned (.string ⟨#[40,50,48,48,44,32,56,48,41]⟩)/\Ext w p:=by
 have:=zfZ w _ _ 200 80 l o (zhh (n:=200) (by unfold Bd;omega)) (zhh (n:=80) (by unfold Bd;omega)) _ ⟨a,m,c,s,f,j,c2,b,n,d,t,g,k,i,rfl,rfl,rfl⟩;rw[zlP]at this;exact this
theorem zhI(w:I)(a:Gw w):Calls Tryz.prog 9 #[] w fun e w'=>e = .returned (V true)/\Ext w w':=by
 have ak:=hd9 a;have HR:=hd9 (fun(W:I)(o:Ext w W)(v1 v2:C)(h1:IsPts W v1 brickS)(h2:IsPts W v2 brickS)=>znX W v1 v2 h1 h2 (a.ext o));have HB:=hd9 (fun(W:I)(o:Ext w W)(T vp:C)(hg:IsPts W T exG)(hp:IsPls W vp ex3)=>zmX W T vp hg hp (a.ext o));have HD:=hd9 (fun(W:I)(o:Ext w W)(T vp v:C)(hg:IsPts W T exG)(hp:IsPls W vp ex3)(hv:IsPts W v brickS)=>zmY W T vp v hg hp hv (a.ext o));unfold exA exB at HR;unfold exD at HD;have E0:=eR w;clear a;go_enter Tryz.func9,Tryz.ntmps9
 go_upto_region 2 with (first|(go_at_call 46;(with_reducible refine(za9 _ ⟨#[97]⟩ 0 0).mono ?_);rintro e w1 ⟨v1,rfl,z,L⟩;have E1:Ext w w1:=E0.trans L)|(go_at_call 46;(with_reducible refine(za9 _ ⟨#[98]⟩ 200 0).mono ?_);rintro e w2 ⟨v2,rfl,D,l⟩;have E2:Ext w w2:=E1.trans l)|(go_at_call 39;(with_reducible refine(HR.out _ E2 _ _ (z.ext' l) D).mono ?_);rintro e w3 ⟨rfl,P⟩;have E3:Ext w w3:=E2.trans P))
 clear L l P z D
 go_upto_region 3 with (first|(go_at_call 47;(with_reducible refine(zfU _).mono ?_);rintro e w4 ⟨aC,aE,rfl,t,x,Q⟩;have E4:Ext w w4:=E3.trans Q)|(go_at_call 16;(with_reducible refine(HB.out _ E4 _ _ t x).mono ?_);rintro e w5 ⟨vb,rfl,j,R⟩;obtain⟨ba,bn,bc,rfl⟩:=j.form3;have E5:Ext w w5:=E4.trans R))
 clear Q R t x
 go_upto_region 4 with (first|(go_at_call 47;(with_reducible refine(zfU _).mono ?_);rintro e w6 ⟨aD,aF,rfl,u,y,m⟩;have E6:Ext w w6:=E5.trans m)|(go_at_call 46;(with_reducible refine(za9 _ ⟨#[100]⟩ 50 300).mono ?_);rintro e w7 ⟨v7,rfl,K,i⟩;have E7:Ext w w7:=E6.trans i)|(go_at_call 10;(with_reducible refine(HD.out _ E7 _ _ _ (u.ext' i) (y.ext' i) K).mono ?_);rintro e w8 ⟨rfl,n⟩;have E8:Ext w w8:=E7.trans n))
 have j:=j.ext ((m.trans i).trans n);clear m i n u y K E0 E1 E2 E3 E4 E5 E6 E7 HR HB HD;obtain rfl:=zni j;obtain⟨g,a1,m1,c1,s1,b1,n1,d1,a2,m2,c2,s2,b2,n2,d2,a3,m3,c3,s3,b3,n3,d3,a4,m4,c4,s4,b4,n4,d4,rfl,aa,al,hc,r1,r2,r3,r4⟩:=zmq j (k:=0) rfl;obtain⟨g',a5,m5,c5,s5,b5,n5,d5,a6,m6,c6,s6,b6,n6,d6,a7,m7,c7,s7,b7,n7,d7,a8,m8,c8,s8,b8,n8,d8,e,r,s,p,r5,r6,r7,r8⟩:=zmq j (k:=1) rfl;obtain rfl:g=g':=by cases e;rfl
 simp only[CellL,Nat.reduceMul,Nat.reduceAdd,and_true]at hc p;obtain⟨q0,q1,q2,q3,q4,q5,q6,q7,q8,q9,av,aw,ax,ay,az,aA,aB⟩:=hc;obtain⟨p0,p1,p2,p3,p4,p5,p6,p7,p8,p9,am,an,ao,ap,aq,ar,au⟩:=p;clear e r s aa;have E:=hd9 E8;clear E8 j
 go_wp2_with(first|(go_at_call 48;(with_reducible refine(zmZ _ _ _ _ _ _ _ _ _ _ _ _ _ _ _ (r1.ext ?_) (r2.ext ?_)).mono ?_);exact eA;exact eA;rintro e ab ⟨rfl,c⟩;obtain⟨ae,ah⟩:=c.cells;(have aG:g<ab.heap.size:=by have:=c.size;omega))|(go_at_call 48;(with_reducible refine(zgP _ _ _ _ _ _ _ _ _ _ _ _ _ _ _ (r3.ext ?_) (r4.ext ?_)).mono ?_);exact eA;exact eA;rintro e ac ⟨rfl,d⟩;obtain⟨af,ai⟩:=d.cells;(have aH:g<ac.heap.size:=by have:=d.size;omega))|(go_at_call 48;(with_reducible refine(zgP _ _ _ _ _ _ _ _ _ _ _ _ _ _ _ (r5.ext ?_) (r6.ext ?_)).mono ?_);exact eA;exact eA;rintro e ad ⟨rfl,f⟩;obtain⟨ag,aj⟩:=f.cells;(have aI:g<ad.heap.size:=by have:=f.size;omega)))
 go_ret;exact⟨rfl,((E.out.trans c).trans d).trans f⟩
end
end Go.Proofs.YtjnjpagegkcgfaaGreatDoor.Cop
