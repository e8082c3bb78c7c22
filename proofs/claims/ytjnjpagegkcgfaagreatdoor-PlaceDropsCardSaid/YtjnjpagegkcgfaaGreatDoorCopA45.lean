/- Part 46: contracts of what the law calls. -/
import Derived.Test.YtjnjpagegkcgfaaGreatDoorCopA42
import Derived.Test.YtjnjpagegkcgfaaGreatDoorCopA39
import Derived.Test.YtjnjpagegkcgfaaGreatDoorCopA20
import Derived.Test.YtjnjpagegkcgfaaGreatDoorCopA22
import Derived.Test.YtjnjpagegkcgfaaGreatDoorCopA33
set_option maxRecDepth 1000000
set_option maxHeartbeats 16000000
set_option linter.unusedSimpArgs false
set_option linter.unusedVariables false
open Go.IntKind renaming i64→O
open Go.Value renaming int→Y,slice→Z,agg→M,tuple→N
open Option renaming none→X,some→I
open Go renaming World→V,Value→J
namespace Go.Proofs.YtjnjpagegkcgfaaGreatDoor.Cop
section
open Go.RowKit Go.Shelf Go.Sort Go.Lib

end
section
open Go.RowKit Go.Shelf Go.Sort
attribute [local go_sem] Oper.semAt_some
theorem zby (w:V) (v:J) (p:Pl) (h:IsPr w v p.shape) (f:placedOk p=true) :
  Calls Tryz.prog 36 #[M (plc p v)] w (RetRow w (lowP2 p)):=by
 have u:=fun W (K:Ext w W)=>zfD W v p (h.ext' K) f
 obtain⟨t,D,h12⟩:=zaM f;have o:=zaj f;have g:=znw f;have m:=hd9 u;have y:Hid (∀q∈cornersP p,Bd 3000000 q.1∧Bd 3000000 q.2):=hd9 (fun q L=>by have:=t q L;unfold Bd at *;omega);have n:=hd9 g;have k:=hd9 h12;have z:Hid ((lowP2 p).length≤1000):=hd9 (by have:=o.1.2.2;have:=o.2.2.2;omega);obtain⟨a,c,rfl⟩:=h.form;obtain⟨nm,l,d,de,gx,gz,wy,S,T,sk⟩:=p;dsimp only at *;unfold plc;unfold plc at m;dsimp only at m ⊢;clear u t D h12 o g h;go_enter Tryz.func36,Tryz.ntmps36
 go_wp2_with(first|(go_at_call 31;(with_reducible refine(m.out _ ?_).mono ?_);exact eA;rintro e x ⟨v1,rfl,i,P⟩;obtain⟨Q,n1,c1,rfl⟩:=i.form3)|(go_at_call 99;(with_reducible refine(zeB x _ _ _ (1) dM i.pr n.out y.out (by have:=k.out;omega) z.out).mono ?_);rintro e w2 ⟨v2,rfl,j,r⟩;obtain⟨R,n2,c2,rfl⟩:=j.form3))
 go_ret;have s:Ext w x:=eA;exact⟨_,rfl,j.mono s.size,s.trans r⟩
theorem ze1 (w:V) (v:J) (p:Pl) (h:IsPr w v p.shape) (f:placedOk p=true) :
  Calls Tryz.prog 38 #[M (plc p v)] w (RetRow w (upP2 p)):=by
 have u:=fun W (K:Ext w W)=>zfD W v p (h.ext' K) f
 obtain⟨t,D,h12⟩:=zaM f;have o:=zaj f;have g:=zo8 f;have m:=hd9 u;have y:Hid (∀q∈cornersP p,Bd 3000000 q.1∧Bd 3000000 q.2):=hd9 (fun q L=>by have:=t q L;unfold Bd at *;omega);have n:=hd9 g;have k:=hd9 h12;have z:Hid ((upP2 p).length≤1000):=hd9 (by have:=o.1.2.2;have:=o.2.2.2;omega);obtain⟨a,c,rfl⟩:=h.form;obtain⟨nm,l,d,de,gx,gz,wy,S,T,sk⟩:=p;dsimp only at *;unfold plc;unfold plc at m;dsimp only at m ⊢;clear u t D h12 o g h;go_enter Tryz.func38,Tryz.ntmps38
 go_wp2_with(first|(go_at_call 31;(with_reducible refine(m.out _ ?_).mono ?_);exact eA;rintro e x ⟨v1,rfl,i,P⟩;obtain⟨Q,n1,c1,rfl⟩:=i.form3)|(go_at_call 99;(with_reducible refine(zeB x _ _ _ (-1) dM i.pr n.out y.out (by have:=k.out;omega) z.out).mono ?_);rintro e w2 ⟨v2,rfl,j,r⟩;obtain⟨R,n2,c2,rfl⟩:=j.form3))
 go_ret;have s:Ext w x:=eA;exact⟨_,rfl,j.mono s.size,s.trans r⟩
theorem zcJ (w:V) (n:Int) (j : -9223372036854775808≤n) (k:n≤9223372036854775807):Calls Tryz.prog 82 #[Y O n] w (RetQr w (n:Rat)):=by
 go_enter Tryz.func82,Tryz.ntmps82
 go_wp2_with(go_at_call 34;(with_reducible refine(zno _ n j k).mono ?_);rintro e u ⟨t,rfl,a,f⟩;obtain⟨r,g,p,h,s,i,m,o,rfl⟩:=a.form;obtain⟨⟨d,l⟩,c⟩:=cK1 w f)
 exact bR (v:=M #[Y O r,Z g p h,Y O s,Z i m o]) (by simp [results,Tryz.results82,go_sem,d,c]) rfl ⟨_,rfl,a.keep kA,eA⟩
theorem zmV (x:Rat) (a b:Int×Int):((a.2:Int):Rat)+Rat.divInt (b.2-a.2) (b.1-a.1)*(x-((a.1:Int):Rat))=atE x (a,b):=by
 unfold atE;dsimp only;rw [Rat.divInt_eq_div,Rat.div_def,Rat.div_def,Rat.mul_comm (x-_),Rat.mul_assoc,Rat.mul_assoc,Rat.mul_comm (x-_)]
theorem zjg {L:List (Int×Int)} {m:Nat} (h:m+1<L.length):(eds L)[m]?=I (ptN L m,ptN L (m+1)):=
 zgs (by rw [zan oM];exact gE _) (by rw [zan h];exact gE _)
theorem zoh {L:List (Int×Int)} {x:Rat} {m:Nat} (l:m+1<L.length) (d:∀j,j<m→¬rcmp x (((ptN L (j+1)).1:Int):Rat)≤0) (n:rcmp x (((ptN L (m+1)).1:Int):Rat)≤0) :
  atR L x=atE x (ptN L m,ptN L (m+1)):=by
 have e:=zjg l;obtain⟨i,g⟩:=lS.1 e
 have f:(eds L).find? (xLe x)=I (ptN L m,ptN L (m+1)):=by
  rw [List.find?_eq_some_iff_getElem];refine⟨by unfold xLe;simpa using n,m,i,g,fun j h=>?_⟩;have a:=zjg (L:=L) (m:=j) oM;obtain⟨k,c⟩:=lS.1 a;rw [c];unfold xLe;have:=d j h
  simpa using this
 unfold atR;rw [f]
theorem zog {L:List (Int×Int)} {x:Rat} (k:L≠[]) (d:∀j,j+1<L.length→¬rcmp x (((ptN L (j+1)).1:Int):Rat)≤0):atR L x=(((ptN L (L.length-1)).2:Int):Rat):=by
 have g:(eds L).find? (xLe x)=X:=by
  rw [List.find?_eq_none];intro e f;obtain⟨j,h,rfl⟩:=List.getElem_of_mem f;rw [zji]at h;have a:=zjg (L:=L) (m:=j) oM;obtain⟨i,c⟩:=lS.1 a;rw [c];unfold xLe;have:=d j oM
  simpa using this
 unfold atR;rw [g];rfl
def AtqS (w:V) (L:List (Int×Int)) (x:Rat) (a c:Obj) (t5:J) (W:V):Prop:=
 ∃m:Nat,t5=Y O ((m:Int)+1)∧m+1≤L.length∧(∀j,j<m→¬rcmp x (((ptN L (j+1)).1:Int):Rat)≤0)∧Ext w W∧W.heap[w.heap.size]?=I a∧W.heap[w.heap.size+1]?=I c
def AtC (wr:V) (a b:Int×Int) (c d:J) (W:V):Prop:=
 ∃b6 b7:Nat,c = .pointer (I ⟨b6,0,X⟩)∧d = .pointer (I ⟨b7,0,X⟩)∧W.heap[b6]?=I (Obj.cells #[Value.int O (a.1),Value.int O (a.2)] 27 (0,0))∧W.heap[b7]?=I (Obj.cells #[Value.int O (b.1),Value.int O (b.2)] 27 (0,0))∧Ext wr W
theorem zjo (w:V) (v vx:J) (L:List (Int×Int)) (x:Rat) (h:IsPr w v L) (ok:LnOk L) (hr:Rise L) (hx:IsQ w vx x) (hb:Rb 2000 x) :
  Calls Tryz.prog 37 #[v,vx] w (RetQr w (atR L x)):=by
 obtain⟨a,c,rfl⟩:=h.form;obtain⟨n,hn⟩:=gX L.length;obtain⟨xs,xa,xm,xc,xt,xe,xi,xj,rfl⟩:=hx.form;have bO:0<n:=by rw [←hn];exact List.length_pos_iff.2 ok.1
 have bG:n≤64:=by rw [←hn];exact ok.2.2
 have aO:∀i,i<n→Bd 104000 (ptN L i).1∧Bd 104000 (ptN L i).2:=fun i hi=>ok.2.1 _ (zau (by rw [hn];exact hi))
 obtain⟨q,hq⟩:=gX (atR L x);rw [hq,hn];have Hq:=hd9 hq;have Hn:=hd9 hn;have H:=hd9 h;have Hr:=hd9 hr;have ay:=hd9 aO;have av:Hid (Rb limQ x):=hd9 (hb.mono dM);have Hb:=hd9 hb;have a3:=hd9 ok.1;clear hq hn h hr aO ok hb;go_enter Tryz.func37,Tryz.ntmps37;go_wp2
 go_loopw [5] (AtqS w L x (Obj.cells #[Value.int O xs,Value.slice xa xm xc,Value.int O xt,Value.slice xe xi xj] 68) (Obj.cells #[Value.int O 0,Value.slice X 0 0,Value.int O 0,Value.slice X 0 0] 68)) (fun t5 _=>n-(intOf t5).toNat)
 case atStart=>exact⟨0,rfl,by rw [Hn.out];omega,fun j hj=>by omega,eA,nbh0 ..,qhA _ _ _ sM⟩
 case round =>
  obtain⟨m,rfl,hm,aM,an,Q,g⟩:=hrel;rw [Hn.out]at hm;have ax:=hd9 aM;have c0:=qcB Q (i:=0) (u:=Y O xs) rfl;have c1:=qcB Q (i:=1) (u:=Z xa xm xc) rfl;have c2:=qcB Q (i:=2) (u:=Y O xt) rfl;have c3:=qcB Q (i:=3) (u:=Z xe xi xj) rfl;have r0:=qcB g (i:=0) (u:=Y O 0) rfl;have r1:=qcB g (i:=1) (u:=Z X 0 0) rfl;have r2:=qcB g (i:=2) (u:=Y O 0) rfl;have r3:=qcB g (i:=3) (u:=Z X 0 0) rfl;have bw:=qfB g 0;have bx:=qfB g 1;have bz:=qfB g 2;have bA:=qfB g 3;have rz:=zaa g;have a1:=hd9 Q;have aw:=hd9 g;have ai:=hd9 an;clear aM Q g
  by_cases ak:m+1<n
  ·obtain⟨b,o,rfl,bm,d0,d1⟩:=(H.out.ext' an).pt (i:=m+1) (by rw [Hn.out];exact ak)
   obtain⟨b2,o2,e2,bF,f0,f1⟩:=(H.out.ext' an).pt (i:=m) (by rw [Hn.out];omega)
   cases e2
   have bb:=ay.out (m+1) ak;have ba:=ay.out m oM;have aB:(ptN L m).1<(ptN L (m+1)).1:=zdf Hr.out oM (by rw [Hn.out];exact ak);have l:=zoh (L:=L) (x:=x) (m:=m) (by rw [Hn.out];exact ak) ax.out;rw [Hq.out]at l;obtain⟨⟨s,pz⟩,hp⟩:∃p,ptN L m=p:=⟨_,rfl⟩;obtain⟨⟨P,qz⟩,aA⟩:∃p,ptN L (m+1)=p:=⟨_,rfl⟩;rw [hp]at f0 f1 ba aB l;rw [aA]at d0 d1 bb aB l;dsimp only at d0 d1 f0 f1 ba bb aB l;obtain⟨T,hT⟩:=gX (rcmp x ((P:Int):Rat));rw [hT]at l;have HT:=hd9 hT;have aI:=hd9 l;have a4:=hd9 aA;have aD:Hid (Rb limQ ((P:Int):Rat)):=hd9 ((zaD bb.1).mono dM);unfold Bd at ba bb;obtain⟨⟨bI,bJ⟩,⟨bK,bL⟩⟩:=ba;obtain⟨⟨bM,bN⟩,⟨bg,bh⟩⟩:=bb;have aE:=hd9 (fun W=>zcJ W P oM oM);have g0:(0:Int)≤(m:Int)+1:=oM
   have g1:(m:Int)+1<(n:Int):=oM
   have g2:((m:Int)+1).toNat=m+1:=oM
   have kw:IntKind.i64.wrap ((m:Int)+1)=(m:Int)+1:=iW _ oM;clear hp aA hT l
   by_cases aj:T≤0
   ·have k9:decide (T≤0)=true:=by simpa using aj
    go_wp2;refine wp_region_held_drew (S:=CellL [(⟨w.heap.size,0,X⟩,Y O xs),(⟨w.heap.size,1,X⟩,Z xa xm xc),(⟨w.heap.size,2,X⟩,Y O xt),(⟨w.heap.size,3,X⟩,Z xe xi xj),(⟨b,o+(m+1)*2,X⟩,Y O P)]) kM cA (fun d=>?_);refine sN 0 ?_
    iterate 6
     refine tkn ?_
    refine oN ?_;refine cl1 (i:=6) fun K f=>?_
    go_simp
    (with_reducible refine cM (aE.out wr.drew) ?_)
    rintro e w5 ⟨r5,rfl,aa,y⟩;obtain⟨s5,a5,m5,c5,t5,e5,i5,j5,rfl⟩:=aa.form
    go_wp2_with fail
    refine kO f (cE d y) (fun d=>?_);clear f K;refine cl1 (i:=7) fun K f=>?_
    go_simp
    (with_reducible refine cM (zhc w5 _ _ x ((P:Int):Rat) ((hx.ext ai.out).ext ((eR wr).drew.trans y)) aa av.out aD.out) ?_)
    rw [HT.out];rintro e z ⟨rfl,ac⟩
    go_wp2_with fail
    refine kO f (cE d ac) (fun d=>?_);clear f K;refine tk1 (i:=8) ?_;refine wpAnyH_done kM ?_ _;have D:Ext wr z:=(eR wr).drew.trans (y.trans ac);have h9:=aI.out aj;have H9:=hd9 h9
    replace d0:=D.cellS d0
    replace d1:=D.cellS d1
    replace f0:=D.cellS f0
    replace f1:=D.cellS f1
    replace c0:=D.cellS c0
    replace c1:=D.cellS c1
    replace c2:=D.cellS c2
    replace c3:=D.cellS c3
    have z6:w.heap.size+1<z.heap.size:=D.lt rz;have g3:(m:Int)+1-1=(m:Int):=oM
    have g4:(0:Int)≤(m:Int):=oM
    have g5:(m:Int)<(n:Int):=oM
    have bt:IntKind.i64.wrap (m:Int)=(m:Int):=iW _ oM;clear h9 d r0 r1 r2 r3 bw bx bz bA aa y ac
    go_upto_region 5 with fail
    have bV:b<z.heap.size:=World.block_lt_of_cell? z _ d0
    go_cut [6,7] (AtC z (s,pz) (P,qz))
    case first =>
     go_wp2;refine wp_region_held_drew (S:=CellL [(⟨b,o+(m+1)*2,X⟩,Y O P),(⟨b,o+(m+1)*2+1,X⟩,Y O qz),(⟨b,o+m*2,X⟩,Y O s),(⟨b,o+m*2+1,X⟩,Y O pz)]) kM cA (fun d=>?_);refine sN 0 ?_
     iterate 9
      refine tkn ?_
     refine oN ?_;refine call2 (i:=9) (j:=10) (fun K f=>?_) (fun K f=>?_)
     ·go_simp
      refine kO f (cE d ((eR _).alloc _)) (fun d=>?_);clear f K;refine cl1 (i:=10) fun K f=>?_
      go_simp;refine kO f (cE d ((eR _).alloc _)) (fun d=>?_);clear f K;have q1:¬b=z.heap.size:=oM
      have q2:¬b=z.heap.size+1:=oM
      refine cl1 (i:=11) fun K f=>?_
      go_simp;refine kO f cA (fun d=>?_);clear f K;refine cl1 (i:=12) fun K f=>?_
      go_simp;refine kO f cA (fun d=>?_);clear f K;refine wpAnyH_done kM ?_ _;go_wp2;go_meet;exact⟨z.heap.size,z.heap.size+1,rfl,rfl,nbh0 ..,qhA _ _ _ sM,(((eR z).alloc _).alloc _).drew⟩
     ·go_simp
      refine kO f (cE d ((eR _).alloc _)) (fun d=>?_);clear f K;refine cl1 (i:=9) fun K f=>?_
      go_simp;refine kO f (cE d ((eR _).alloc _)) (fun d=>?_);clear f K;have q1:¬b=z.heap.size:=oM
      have q2:¬b=z.heap.size+1:=oM
      refine cl1 (i:=11) fun K f=>?_
      go_simp;refine kO f cA (fun d=>?_);clear f K;refine cl1 (i:=12) fun K f=>?_
      go_simp;refine kO f cA (fun d=>?_);clear f K;refine wpAnyH_done kM ?_ _;go_wp2;go_meet;exact⟨z.heap.size+1,z.heap.size,rfl,rfl,qhA _ _ _ sM,nbh0 ..,(((eR z).alloc _).alloc _).drew⟩
    case rest =>
     obtain⟨b6,b7,rfl,rfl,a6,a7,XC⟩:=hcut;have u0:=qcB a6 (i:=0) (u:=Y O s) rfl;have u1:=qcB a6 (i:=1) (u:=Y O pz) rfl;have v0:=qcB a7 (i:=0) (u:=Y O P) rfl;have v1:=qcB a7 (i:=1) (u:=Y O qz) rfl;have uz:=zaa a6
     replace c0:=XC.cellS c0
     replace c1:=XC.cellS c1
     replace c2:=XC.cellS c2
     replace c3:=XC.cellS c3
     have z9:w.heap.size+1<wc.heap.size:=XC.lt z6;have bU:w.heap.size<wc.heap.size:=oM
     have X0:Ext w wc:=ai.out.trans (D.trans XC);have g:=(D.trans XC).heapS aw.out;have aH:=hd9 g;have bc:Hid (IsQ wc (M #[Y O xs,Z xa xm xc,Y O xt,Z xe xi xj]) x):=hd9 (hx.ext X0);have aF:=hd9 (fun W=>zic W (qz-pz) (P-s) oM oM oM oM oM);obtain⟨sl,al⟩:=gX (Rat.divInt (qz-pz) (P-s));rw [al]at aF
     have af:Rb 1 sl:=by
      rw [←al];have hd:P-s≠0:=oM
      exact⟨zhr hd (by unfold Lm B;simp;omega),zfx hd (by unfold Lm B;simp;omega)⟩
     have ap:((pz:Int):Rat)+sl*(x-((s:Int):Rat))=q:=by rw [←al,zmV x (s,pz) (P,qz)];exact H9.out.symm
     have HE:=hd9 ap;have aU:Hid (Rb limQ ((s:Int):Rat)):=hd9 ((zaD (k:=104000) (by unfold Bd;omega)).mono dM);have aV:Hid (Rb limQ ((pz:Int):Rat)):=hd9 ((zaD (k:=104000) (by unfold Bd;omega)).mono dM);have ag:Rb 4001 (x-((s:Int):Rat)):=Rb.sub (k:=2000) Hb.out ((zaD (k:=104000) (by unfold Bd;omega)).mono dM);have aW:Hid (Rb limQ (x-((s:Int):Rat))):=hd9 (ag.mono dM);have aX:Hid (Rb limQ sl):=hd9 (af.mono dM);have aY:Hid (Rb limQ (sl*(x-((s:Int):Rat)))):=hd9 ((Rb.mul af ag).mono dM);have aZ:=hd9 (fun W=>zcJ W s oM oM);have a0:=hd9 (fun W=>zcJ W pz oM oM);clear al af ap ag g a6 a7 d0 d1 f0 f1
     go_upto_region 7 with (go_at_call 74;(with_reducible refine(aF.out wc).mono ?_);rintro e w8 ⟨r8,rfl,ab,ad⟩;obtain⟨s8,a8,m8,c8,t8,e8,i8,j8,rfl⟩:=ab.form;obtain⟨az,aL⟩:=ad.cells)
     obtain⟨W8,ae⟩:=gX (w8.alloc (Obj.cells #[Value.int O s8,Value.slice a8 m8 c8,Value.int O t8,Value.slice e8 i8 j8] 68));have X8:Ext wc W8:=by rw [←ae];exact ad.alloc _
     have h8:W8.heap[w8.heap.size]?=I (Obj.cells #[Value.int O s8,Value.slice a8 m8 c8,Value.int O t8,Value.slice e8 i8 j8] 68 (0,0)):=by rw [←ae];exact aN _ _
     have bo:IsQ W8 (M #[Y O s8,Z a8 m8 c8,Y O t8,Z e8 i8 j8]) sl:=by rw [←ae];exact ab.ext ((eR _).alloc _)
     rw [ae];obtain⟨b8,aK⟩:=gX w8.heap.size;rw [aK]at h8 ⊢;have y0:=qcB h8 (i:=0) (u:=Y O s8) rfl;have y1:=qcB h8 (i:=1) (u:=Z a8 m8 c8) rfl;have y2:=qcB h8 (i:=2) (u:=Y O t8) rfl;have y3:=qcB h8 (i:=3) (u:=Z e8 i8 j8) rfl
     replace u0:=X8.cellS u0
     replace u1:=X8.cellS u1
     replace c0:=X8.cellS c0
     replace c1:=X8.cellS c1
     replace c2:=X8.cellS c2
     replace c3:=X8.cellS c3
     have g:=X8.heapS aH.out;have aG:=hd9 g;have aT:=bc.out.ext X8;have zr:=zaa g;have bH:Ext w W8:=X0.trans X8;clear ae aK az aL ad ab h8 g v0 v1 kw bt g0 g1 g2 g3 g4 g5;refine zae (fun i=>decide (10<i)) (CellL [(⟨b6,0,X⟩,Y O s),(⟨b6,1,X⟩,Y O pz),(⟨b8,0,X⟩,Y O s8),(⟨b8,1,X⟩,Z a8 m8 c8),(⟨b8,2,X⟩,Y O t8),(⟨b8,3,X⟩,Z e8 i8 j8),(⟨w.heap.size,0,X⟩,Y O xs),(⟨w.heap.size,1,X⟩,Z xa xm xc),(⟨w.heap.size,2,X⟩,Y O xt),(⟨w.heap.size,3,X⟩,Z xe xi xj)]) kM ?_ (fun d=>?_)
     ·exact cA
     refine sN 0 ?_
     iterate 2
      refine tun ?_
     refine oN ?_;refine sN 3 ?_
     iterate 4
      refine tun ?_
     refine oN ?_;refine cu1 (i:=2) fun K f=>?_
     go_simp
     (with_reducible refine cM (a0.out _) ?_)
     rintro e w2 ⟨r2,rfl,aP,aS⟩;obtain⟨s2,a2,m2,c2,t2,e2,i2,j2,rfl⟩:=aP.form
     go_wp2_with fail
     refine kO f (fun _=>cE d aS) (fun d=>?_);clear f K
     replace d:=d rfl
     refine cu1 (i:=7) fun K f=>?_
     go_simp
     (with_reducible refine cM (aZ.out _) ?_)
     rintro e w7 ⟨r7,rfl,aQ,aC⟩;obtain⟨s7,a7,m7,c7,t7,e7,i7,j7,rfl⟩:=aQ.form
     go_wp2_with fail
     refine kO f (fun _=>cE d aC) (fun d=>?_);clear f K
     replace d:=d rfl
     have E7:Ext W8 w7:=(eR W8).drew.trans (aS.trans aC);refine cu1 (i:=8) fun K f=>?_
     go_simp
     (with_reducible refine cM (zmw _ (M #[Y O xs,Z xa xm xc,Y O xt,Z xe xi xj]) (M #[Y O s7,Z a7 m7 c7,Y O t7,Z e7 i7 j7]) x ((s:Int):Rat) (aT.ext E7) aQ av.out aU.out) ?_)
     rintro e w9 ⟨r9,rfl,aR,am⟩;obtain⟨s9,a9,m9,c9,t9,e9,i9,j9,rfl⟩:=aR.form
     go_wp2_with fail
     refine kO f (fun _=>cE d am) (fun d=>?_);clear f K
     replace d:=d rfl
     refine cu1 (i:=9) fun K f=>?_
     go_simp
     (with_reducible refine cM (zot _ (M #[Y O s8,Z a8 m8 c8,Y O t8,Z e8 i8 j8]) (M #[Y O s9,Z a9 m9 c9,Y O t9,Z e9 i9 j9]) sl (x-((s:Int):Rat)) (bo.ext (E7.trans am)) aR aX.out aW.out) ?_)
     rintro e bT ⟨bP,rfl,aq,ah⟩;obtain⟨bB,be,bu,bi,bD,bk,bp,br,rfl⟩:=aq.form
     go_wp2_with fail
     refine kO f (fun _=>cE d ah) (fun d=>?_);clear f K
     replace d:=d rfl
     refine cu1 (i:=10) fun K f=>?_
     go_simp
     (with_reducible refine cM (zmt _ (M #[Y O s2,Z a2 m2 c2,Y O t2,Z e2 i2 j2]) (M #[Y O bB,Z be bu bi,Y O bD,Z bk bp br]) ((pz:Int):Rat) (sl*(x-((s:Int):Rat))) (aP.ext (aC.trans (am.trans ah))) aq aV.out aY.out) ?_)
     rintro e ao ⟨bQ,rfl,ar,au⟩;obtain⟨bC,bf,bv,bj,bE,bl,bq,bs,rfl⟩:=ar.form
     go_wp2_with fail
     refine kO f (fun _=>cE d au) (fun d=>?_);clear f K
     replace d:=d rfl
     have XF:Ext W8 ao:=E7.trans (am.trans (ah.trans au));have zf:w.heap.size+1<ao.heap.size:=XF.lt zr;have R:=XF.heapS aG.out;have o0:=qcB R (i:=0) (u:=Y O 0) rfl;have o1:=qcB R (i:=1) (u:=Z X 0 0) rfl;have o2:=qcB R (i:=2) (u:=Y O 0) rfl;have o3:=qcB R (i:=3) (u:=Z X 0 0) rfl;have of:=qfB R;refine cu1 (i:=11) fun K f=>?_
     go_simp;refine kO f (fun h=>nomatch h) (fun d=>?_);clear f K;refine doneHU kM ?_ _;go_wp2;refine bR (v:=M #[Y O bC,Z bf bv bj,Y O bE,Z bl bq bs]) (by simp [results,Tryz.results37,go_sem,zf,o0,o1,o2,o3]) rfl ⟨_,rfl,?_,eA⟩;have r:NoT 3 ao (w.heap.size+1):=by intro cs fr e;rw [R]at e;cases e
     rw [←HE.out];exact ar.keep (((((KeepT.refl _ ao).setN r _).setN (r.set _ _) _).setN ((r.set _ _).set _ _) _).setN (((r.set _ _).set _ _).set _ _) _)
   ·have k9:decide (T≤0)=false:=by simpa using aj
    have aJ:Hid (∀j,j<m+1→¬rcmp x (((ptN L (j+1)).1:Int):Rat)≤0):=hd9 fun j hj=>by
     by_cases bn:j=m
     ·subst bn;rw [a4.out,HT.out];exact aj
     ·exact ax.out j oM
    go_wp2;refine wp_region_held_drew (S:=CellL [(⟨w.heap.size,0,X⟩,Y O xs),(⟨w.heap.size,1,X⟩,Z xa xm xc),(⟨w.heap.size,2,X⟩,Y O xt),(⟨w.heap.size,3,X⟩,Z xe xi xj),(⟨b,o+(m+1)*2,X⟩,Y O P)]) kM cA (fun d=>?_);refine sN 0 ?_
    iterate 6
     refine tkn ?_
    refine oN ?_;refine cl1 (i:=6) fun K f=>?_
    go_simp
    (with_reducible refine cM (aE.out wr.drew) ?_)
    rintro e w5 ⟨r5,rfl,aa,y⟩;obtain⟨s5,a5,m5,c5,t5,e5,i5,j5,rfl⟩:=aa.form
    go_wp2_with fail
    refine kO f (cE d y) (fun d=>?_);clear f K;refine cl1 (i:=7) fun K f=>?_
    go_simp
    (with_reducible refine cM (zhc w5 _ _ x ((P:Int):Rat) ((hx.ext ai.out).ext ((eR wr).drew.trans y)) aa av.out aD.out) ?_)
    rw [HT.out];rintro e z ⟨rfl,ac⟩
    go_wp2_with fail
    refine kO f (cE d ac) (fun d=>?_);clear f K;refine tk1 (i:=8) ?_;refine wpAnyH_done kM ?_ _;have D:Ext wr z:=(eR wr).drew.trans (y.trans ac);clear kw;go_wp2
    go_roundw
    case rel=>exact⟨m+1,by go_num,by rw [Hn.out];omega,fun j hj=>(by have:=aJ.out j hj;omega),ai.out.trans D,D.heapS a1.out,D.heapS aw.out⟩
    case measure=>simp [intOf];omega
  ·obtain rfl:m+1=n:=oM
   obtain⟨b,o,rfl,bm,d0,d1⟩:=(H.out.ext' an).pt (i:=m) (by rw [Hn.out];omega);have bb:=ay.out m oM;have t:=zog (L:=L) (x:=x) a3.out (fun j hj=>ax.out j (by rw [Hn.out]at hj;omega));rw [Hq.out,Hn.out,show m+1-1=m by omega]at t;obtain⟨⟨s,pz⟩,hp⟩:∃p,ptN L m=p:=⟨_,rfl⟩;rw [hp]at d0 d1 bb t;dsimp only at d0 d1 bb t;unfold Bd at bb;obtain⟨-,⟨bg,bh⟩⟩:=bb;have HE:=hd9 t;have HO:=hd9 (fun W=>zcJ W pz oM oM);have g0:¬(m:Int)+1<(m:Int)+1:=oM
   have g3:(m:Int)+1-1=(m:Int):=oM
   have g4:(0:Int)≤(m:Int):=oM
   have g5:(m:Int)<(m:Int)+1:=oM
   clear hp t
   go_wp2_with(go_at_call 82;(with_reducible refine(HO.out wr).mono ?_);rintro e w8 ⟨r8,rfl,ab,ad⟩;obtain⟨s8,a8,m8,c8,t8,e8,i8,j8,rfl⟩:=ab.form;obtain⟨az,aL⟩:=ad.cells)
   refine bR (v:=M #[Y O s8,Z a8 m8 c8,Y O t8,Z e8 i8 j8]) (by simp [results,Tryz.results37,go_sem,az,rz,r0,r1,r2,r3]) rfl ⟨_,rfl,?_,eA⟩;have r:NoT 3 w8 (w.heap.size+1):=by intro cs fr e;rw [ad.heapS aw.out]at e;cases e
   rw [HE.out];exact ab.keep (((((KeepT.refl _ w8).setN r _).setN (r.set _ _) _).setN ((r.set _ _).set _ _) _).setN (((r.set _ _).set _ _).set _ _) _)
theorem zgu (w:V) (u x:J) (ps g:List (Int×Int)) (p:IsPr w u ps) (r:IsPr w x g) (L:ps≠[]) (P:g≠[]) :
  Calls Tryz.prog 119 #[u,x] w fun e R=>e = .returned (N #[Y O (btw ps g).lo,Y O (btw ps g).hi,.bool (decide ((btw ps g).lo<(btw ps g).hi))])∧Ext w R:=by
 have l:=hd9 (fun W (s:Ext w W)=>zbQ W u ps (p.ext' s) L);have m:=hd9 (fun W (s:Ext w W)=>zbQ W x g (r.ext' s) P);obtain⟨S,c1,rfl⟩:=p.form;obtain⟨T,c2,rfl⟩:=r.form;obtain⟨h,f,t⟩:∃h f,(btw ps g).lo=h∧(btw ps g).hi=f:=⟨_,_,rfl,rfl⟩;rw [t.1,t.2];obtain⟨i,d⟩:=t;unfold btw at i d;dsimp only at i d;obtain⟨D,a⟩:=gX (lineL ps);obtain⟨K,c⟩:=gX (lineL g);obtain⟨n,j⟩:=gX (lineR ps);obtain⟨o,k⟩:=gX (lineR g);rw [show (ptN ps 0).1=D from a,show (ptN ps (ps.length-1)).1=n from j]at l;rw [show (ptN g 0).1=K from c,show (ptN g (g.length-1)).1=o from k]at m;rw [a,c]at i;rw [j,k]at d;clear a c j k p r L P
 by_cases k1:D<K
 ·obtain rfl:h=K:=oM
  clear i
  by_cases Q:o<n
  ·obtain rfl:f=o:=oM
   clear d;go_enter Tryz.func119,Tryz.ntmps119
   go_wp2_with(first|(go_at_call 118;(with_reducible refine(l.out _ (eR _)).mono ?_);rintro e y ⟨rfl,a⟩)|(go_at_call 118;(with_reducible refine(m.out _ a).mono ?_);rintro e z ⟨rfl,c⟩))
   exact bR (v:=N #[Y O h,Y O f,.bool (decide (h<f))]) (by simp [results,Tryz.results119,go_sem]) rfl ⟨rfl,a.trans c⟩
  ·obtain rfl:f=n:=oM
   clear d;go_enter Tryz.func119,Tryz.ntmps119
   go_wp2_with(first|(go_at_call 118;(with_reducible refine(l.out _ (eR _)).mono ?_);rintro e y ⟨rfl,a⟩)|(go_at_call 118;(with_reducible refine(m.out _ a).mono ?_);rintro e z ⟨rfl,c⟩))
   exact bR (v:=N #[Y O h,Y O f,.bool (decide (h<f))]) (by simp [results,Tryz.results119,go_sem]) rfl ⟨rfl,a.trans c⟩
 ·obtain rfl:h=D:=oM
  clear i
  by_cases Q:o<n
  ·obtain rfl:f=o:=oM
   clear d;go_enter Tryz.func119,Tryz.ntmps119
   go_wp2_with(first|(go_at_call 118;(with_reducible refine(l.out _ (eR _)).mono ?_);rintro e y ⟨rfl,a⟩)|(go_at_call 118;(with_reducible refine(m.out _ a).mono ?_);rintro e z ⟨rfl,c⟩))
   exact bR (v:=N #[Y O h,Y O f,.bool (decide (h<f))]) (by simp [results,Tryz.results119,go_sem]) rfl ⟨rfl,a.trans c⟩
  ·obtain rfl:f=n:=oM
   clear d;go_enter Tryz.func119,Tryz.ntmps119
   go_wp2_with(first|(go_at_call 118;(with_reducible refine(l.out _ (eR _)).mono ?_);rintro e y ⟨rfl,a⟩)|(go_at_call 118;(with_reducible refine(m.out _ a).mono ?_);rintro e z ⟨rfl,c⟩))
   exact bR (v:=N #[Y O h,Y O f,.bool (decide (h<f))]) (by simp [results,Tryz.results119,go_sem]) rfl ⟨rfl,a.trans c⟩
def PSr (w:V) (c:List J) (l:List (Int×Int)):Prop:=∃v,c=[v]∧IsPr w v l
abbrev IsLs (w:V) (v:J) (lss:List (List (Int×Int))):Prop:=Sl 88 1 PSr w v lss
theorem IsLs.ext' {w w':V} {v:J} {a:List (List (Int×Int))} (h:IsLs w v a) (k:Ext w w'):IsLs w' v a:=Sl.ext h (fun _ _ ⟨v,c,d⟩=>⟨v,c,d.ext' k⟩) k
theorem IsLs.at' {w:V} {a:Option Addr} {n c:Nat} {e:List (List (Int×Int))} (h:IsLs w (Z a n c) e) {i:Nat} {l:List (Int×Int)} (j:e[i]?=I l) :
  ∃b o v,a=I ⟨b,o,X⟩∧b<w.heap.size∧w.cell? ⟨b,o+i,X⟩=I v∧IsPr w v l:=by
 obtain⟨b,o,d,rfl,f,k,⟨v,rfl,hv⟩,g⟩:=Sl.at h j;exact⟨b,o,v,rfl,f,by simpa using g 0 v rfl,hv⟩
def xsL (a:List (List (Int×Int))):List Int:=a.flatten.map (·.1)
theorem zj9 (cs:List Int) (c x n0:Int):nxtS (cs++[c]) x n0=if x<c∧c<nxtS cs x n0 then c else nxtS cs x n0:=by
 rw [zlK];rfl
theorem zmd (a:List (List (Int×Int))) (l:List (Int×Int)):xsL (a++[l])=xsL a++l.map (·.1):=by unfold xsL;simp
def PxO (w:V) (cs:List Int) (e a:Int) (L:List Int) (c d:J) (W:V):Prop:=
 ∃(k:Nat) (x:Int),d=Y O x∧k≤L.length∧Own 3 W w.heap.size c (L.take k)∧Ext w W∧(k<L.length→zN L k=x)∧(k=L.length→a<x)
def PxM (d:V) (a:List (List (Int×Int))) (x n0:Int) (t9 c:J) (W:V):Prop:=
 ∃(i:Nat) (n:Int),c=Y O i∧t9=Y O n∧i≤a.length∧nxtS (xsL (a.take i)) x n0=n∧W=d
def PxI (c:V) (pre:List Int) (l:List (Int×Int)) (x n0:Int) (t9 a:J) (W:V):Prop:=
 ∃(k:Nat) (n:Int),a=Y O k∧t9=Y O n∧k≤l.length∧nxtS (pre++(l.take k).map (·.1)) x n0=n∧W=c
theorem zoK {cs:List Int} {x n0:Int} (a:∀c∈cs,Bd 104000 c) (d:Bd 104001 n0):Bd 104001 (nxtS cs x n0):=by
 rcases(zcS cs x n0).2.2 with h|⟨h,-⟩
 ·rw [h];exact d
 ·have:=a _ h;unfold Bd at *;omega
def RetIn (w:V) (L:List Int) (e:Ending) (w':V):Prop:=∃v,e = .returned v∧Own 3 w' w.heap.size v L∧Ext w w'
theorem zoa {a:List (List (Int×Int))} {l:List (Int×Int)} (h:l∈a) {k:Nat} (c:k<l.length):(ptN l k).1∈xsL a:=by
 unfold xsL;exact List.mem_map.2 ⟨_,List.mem_flatten.2 ⟨l,h,zau c⟩,rfl⟩
theorem zgx (w:V) (v:J) (d:List (List (Int×Int))) (lo f:Int) (L:List Int) (h:IsLs w v d) (hp:PlL (xsL d) lo f L) (aA:Bd 104000 lo) (ax:Bd 104000 f) (hB:∀c∈xsL d,Bd 104000 c)
  (aL:d.length≤1000) (ae:∀l∈d,l.length≤1000) (hL:L.length≤1000000) :
  Calls Tryz.prog 120 #[Y O lo,Y O f,v] w (RetIn w L):=by
 obtain⟨a,c,rfl⟩:=h.form;obtain⟨n,hn⟩:=gX d.length;obtain⟨cs,ak⟩:=gX (xsL d);rw [hn]at aL ⊢;rw [ak]at hp hB;have Hn:=hd9 hn;have ao:=hd9 ak;have H:=hd9 h;have Hp:=hd9 hp;have HB:=hd9 hB;have aF:=hd9 ae;have aQ:=hp.pos;have an:=hd9 hL;have ad:=aA;unfold Bd at ax ad;obtain⟨aS,aT⟩:=ax;obtain⟨aY,aZ⟩:=ad;clear hn ak h hp hB ae hL aA;go_enter Tryz.func120,Tryz.ntmps120;go_wp2
 go_loopw [7,8] (PxO w cs lo f L) (fun t7 _ _=>L.length-(match t7 with | Z _ n _=>n|_=>0))
 case atStart=>exact⟨0,lo,rfl,by omega,Own.nil _ _ _,eR _,fun _=>Hp.out.h0,fun e=>by omega⟩
 case round =>
  obtain⟨k,x,rfl,hk,s,hx,ay,z⟩:=hrel;obtain⟨va,vc,rfl⟩:=s.form;rw [List.length_take,Nat.min_eq_left hk]at s ⊢;have ab:=hd9 s;have aH:=hd9 ay;have Hx:=hd9 hx;have aV:=hx.size;clear s ay
  by_cases R:k<L.length
  ·have S:=aH.out R
   have aX:x≤f:=by rw [←S];exact Hp.out.le k R
   have aW : -200000≤x:=by
    have:∀j,j<L.length→lo≤zN L j:=by
     intro j
     induction j with
     | zero=>intro _;rw [Hp.out.h0];omega
     | succ j ih =>
      intro hj;have h1:=ih oM;rw [Hp.out.st j hj];unfold nxtR;obtain⟨-,-,e⟩:=zcS cs (zN L j) (f+1);have h3:=Hp.out.le j oM
      split<;>rcases e with e|⟨-,e⟩<;>omega
    have:=this k R;omega
   have ag:L[k]?=I x:=by rw [←S,zgi R];exact gE _
   have aq:=hd9 S;have ar:=hd9 ag;have aP:=hd9 an.out;clear z S ag;have aU:k≤1000000:=by have:=an.out;omega
   go_wp2_with(at_builtin;refine app1 (y:=x) zaV Tryz.underlying64 rfl _ _ rfl rfl ab.out rfl (by rw [List.length_take];omega) oM ?_;intro v' w1 g t al)
   have X1:Ext w w1:=Hx.out.thenB t (nE _);have e1:L.take k++[x]=L.take (k+1):=(zab L k x ar.out).symm;rw [e1]at g;obtain⟨a0,a1,aE⟩:=g.form;rw [List.length_take,Nat.min_eq_left oM]at aE;subst aE;have r:=hd9 g;obtain⟨wa,rfl⟩:∃W,W=w1:=⟨_,rfl⟩;clear g t al e1 hx
   go_loopw [9,10] (PxM wa d x (f+1)) (fun _ aM _=>n-(intOf aM).toNat)
   case atStart=>exact⟨0,f+1,rfl,rfl,by omega,by simp [xsL,nxtS],rfl⟩
   case round =>
    obtain⟨i,T,rfl,rfl,aI,aD,rfl⟩:=hrel;rw [Hn.out]at aI;have ai:=hd9 aD;clear aD
    by_cases aB:i<n
    ·obtain⟨l,hl⟩:∃l,d[i]?=I l:=⟨_,gE (by rw [Hn.out];exact aB)⟩
     have az:=lM hl;obtain⟨b,o,vl,rfl,hb,c0,hv⟩:=(H.out.ext' X1).at' hl;obtain⟨la,lc,rfl⟩:=hv.form;have aK:=aF.out l az;obtain⟨ln,Q⟩:=gX l.length;rw [Q]at c0 aK;have p:=hd9 Q;have Hv:=hd9 hv;have D:xsL (d.take (i+1))=xsL (d.take i)++l.map (·.1):=by rw [zab d i l hl,zmd]
     obtain⟨pre,K⟩:=gX (xsL (d.take i));rw [K]at D ai;have ap:=hd9 D;have Hl:=hd9 hl;have av:∀k2,k2<ln→Bd 104000 (ptN l k2).1:=fun k2 h2=>HB.out _ (by rw [←ao.out];exact zoa az (by rw [Q];exact h2))
     have aG:=hd9 av;have g0:(0:Int)≤(i:Int):=oM
     have g1:(i:Int)<(n:Int):=oM
     clear Q hv D K hl av;go_wp2
     go_loopw [9,11] (PxI wr pre l x (f+1)) (fun _ aO _=>ln-(intOf aO).toNat)
     case atStart=>exact⟨0,T,rfl,rfl,by omega,by simpa using ai.out,rfl⟩
     case round =>
      obtain⟨k2,m,rfl,rfl,aJ,af,rfl⟩:=hrel;rw [p.out]at aJ;have aa:=hd9 af;clear af
      by_cases u:k2<ln
      ·obtain⟨b2,o2,rfl,aR,e0,-⟩:=Hv.out.pt (i:=k2) (by rw [p.out];exact u)
       have aw:=aG.out k2 u
       have am:(l.take (k2+1)).map (·.1)=(l.take k2).map (·.1)++[(ptN l k2).1]:=by
        rw [zab l k2 (ptN l k2) (by rw [zan (by rw [p.out];exact u)];exact gE _),List.map_append];rfl
       obtain⟨cc,ac⟩:=gX ((ptN l k2).1);rw [ac]at e0 aw am
       have P:nxtS (pre++(l.take (k2+1)).map (·.1)) x (f+1)=if x<cc∧cc<m then cc else m:=by
        rw [am,←List.append_assoc,zj9,aa.out]
       have aj:=hd9 P;have k0:(0:Int)≤(k2:Int):=oM
       have k1:(k2:Int)<(ln:Int):=oM
       unfold Bd at aw;clear ac am P
       by_cases q1:x<cc
       ·by_cases q2:cc<m
        ·go_wp2
         go_roundw
         case rel=>exact⟨k2+1,cc,by go_num,rfl,by rw [p.out];omega,by rw [aj.out,if_pos ⟨q1,q2⟩],rfl⟩
         case measure=>simp [intOf];omega
        ·have q3:¬(x<cc∧cc<m):=fun h=>q2 h.2
         have Q3:=hd9 q3;clear q3;go_wp2
         go_roundw
         case rel=>exact⟨k2+1,m,by go_num,rfl,by rw [p.out];omega,by rw [aj.out,if_neg oM],rfl⟩
         case measure=>simp [intOf];omega
       ·go_wp2
        go_roundw
        case rel=>exact⟨k2+1,m,by go_num,rfl,by rw [p.out];omega,by rw [aj.out,if_neg oM],rfl⟩
        case measure=>simp [intOf];omega
      ·obtain rfl:k2=ln:=oM
       have e9:nxtS (xsL (d.take (i+1))) x (f+1)=m:=by
        rw [ap.out];have:=aa.out;rw [lT (by rw [p.out];omega)]at this;exact this
       have E9:=hd9 e9;clear e9;go_wp2
       go_roundw
       case rel=>exact⟨i+1,m,by go_num,rfl,by rw [Hn.out];omega,E9.out,rfl⟩
       case measure=>simp [intOf];omega
    ·obtain rfl:i=n:=oM
     have e9:nxtS cs x (f+1)=T:=by
      have:=ai.out;rw [lT (by rw [Hn.out];omega),ao.out]at this;exact this
     have aC:=zoK (cs:=cs) (x:=x) (n0:=f+1) HB.out (by unfold Bd;omega);rw [e9]at aC;unfold Bd at aC
     have hR:∀y,nxtR cs x f=y→(k+1<L.length→zN L (k+1)=y)∧(k+1=L.length→f<y):=by
      intro y hy;refine⟨fun h=>by rw [Hp.out.st k h,aq.out,hy],fun h=>?_⟩;have:=Hp.out.stop;rw [show L.length-1=k by omega,aq.out,hy]at this;exact this
     have au:nxtR cs x f=if x<f∧f<T then f else T:=by unfold nxtR;rw [e9]
     have HR:=hd9 hR;have ah:=hd9 au;clear e9 hR au
     by_cases q1:x<f
     ·by_cases q2:f<T
      ·skip
       go_wp2
       go_roundw
       case rel =>
        obtain⟨z1,z2⟩:=HR.out f (by rw [ah.out,if_pos oM]);exact⟨k+1,f,rfl,by omega,r.out,X1,z1,z2⟩
       case measure=>simp;omega
      ·skip
       go_wp2
       go_roundw
       case rel =>
        obtain⟨z1,z2⟩:=HR.out T (by rw [ah.out,if_neg oM]);exact⟨k+1,T,rfl,by omega,r.out,X1,z1,z2⟩
       case measure=>simp;omega
     ·skip
      go_wp2
      go_roundw
      case rel =>
       obtain⟨z1,z2⟩:=HR.out T (by rw [ah.out,if_neg oM]);exact⟨k+1,T,rfl,by omega,r.out,X1,z1,z2⟩
      case measure=>simp;omega
  ·obtain rfl:k=L.length:=oM
   have h1:=z rfl;have e1:L.take L.length=L:=List.take_length;have hf:Own 3 wr w.heap.size (Z va L.length vc) L:=by have:=ab.out;rw [e1]at this;exact this
   have Hf:=hd9 hf;clear hf z;have h2:¬x≤f:=oM
   go_wp2;go_ret;exact⟨_,rfl,Hf.out,Hx.out⟩
def QX (W:V) (b:Nat) (q:Rat):Prop:=∃s a m c t e i j,W.heap[b]?=I (.cells #[Y O s,Z a m c,Y O t,Z e i j] 68 (0,0))∧IsQ W (M #[Y O s,Z a m c,Y O t,Z e i j]) q
section
variable {W W':V} {b b':Nat} {q q':Rat}
theorem QX.ext (h:QX W b q) (k:Ext W W'):QX W' b q:=by
 obtain⟨s,a,m,c,t,e,i,j,d,f⟩:=h;exact⟨s,a,m,c,t,e,i,j,k.heapS d,f.ext k⟩
theorem QX.not (h:QX W b q):NoT 3 W b:=by
 obtain⟨s,a,m,c,t,e,i,j,d,k⟩:=h;intro f g e;rw [d]at e;cases e
theorem QX.rd (h:QX W b q):∃s a m c t e i j,W.cell? ⟨b,0,X⟩=I (Y O s)∧W.cell? ⟨b,1,X⟩=I (Z a m c)∧W.cell? ⟨b,2,X⟩=I (Y O t)∧W.cell? ⟨b,3,X⟩=I (Z e i j)∧(∀k,W.frozen? ⟨b,k,X⟩=false)∧b<W.heap.size∧IsQ W (M #[Y O s,Z a m c,Y O t,Z e i j]) q:=by
 obtain⟨s,a,m,c,t,e,i,j,d,f⟩:=h;exact⟨s,a,m,c,t,e,i,j,qcB d (i:=0) rfl,qcB d (i:=1) rfl,qcB d (i:=2) rfl,qcB d (i:=3) rfl,qfB d,zaa d,f⟩
theorem QX.put {s t:Int} {a e:Option Addr} {m c i j:Nat} (h:QX W b q) (n:IsQ W (M #[Y O s,Z a m c,Y O t,Z e i j]) q'):QX ((((W.setCell ⟨b,0,X⟩ (Y O s)).setCell ⟨b,1,X⟩ (Z a m c)).setCell ⟨b,2,X⟩ (Y O t)).setCell ⟨b,3,X⟩ (Z e i j)) b q':=by
 have l:=h.not;obtain⟨u,d,r,f,v,g,o,p,k,w⟩:=h;exact⟨s,a,m,c,t,e,i,j,zcV (cs:=[Y O u,Z d r f,Y O v,Z g o p]) [Y O s,Z a m c,Y O t,Z e i j] k rfl,n.keep (zaS [Y O s,Z a m c,Y O t,Z e i j] 0 l)⟩
theorem QX.other4 (h:QX W b q) (n:QX W b' q') (d:b≠b') (f g k l:J):QX ((((W.setCell ⟨b',0,X⟩ f).setCell ⟨b',1,X⟩ g).setCell ⟨b',2,X⟩ k).setCell ⟨b',3,X⟩ l) b q:=by
 obtain⟨s,a,m,c,t,e,i,j,o,p⟩:=h;refine⟨s,a,m,c,t,e,i,j,?_,p.keep (zaS [f,g,k,l] 0 n.not)⟩;have:=zaT d [f,g,k,l] 0 W;exact this.trans o
theorem QX.new {s t:Int} {a e:Option Addr} {m c i j:Nat} (f:IsQ W (M #[Y O s,Z a m c,Y O t,Z e i j]) q) (d:b=W.heap.size):QX (W.alloc (.cells #[Y O s,Z a m c,Y O t,Z e i j] 68)) b q:=
 ⟨s,a,m,c,t,e,i,j,qhA _ _ _ d,f.ext ((eR _).alloc _)⟩
theorem QX.put2 {p w:Rat} {j k t u:Int} {a d l m:Option Addr} {i c f g s c2 o r:Nat} (h:QX W b q) (x:QX W b' q') (e:b≠b')
  (y:IsQ W (M #[Y O j,Z a i c,Y O k,Z d f g]) p) (n:IsQ W (M #[Y O t,Z l s c2,Y O u,Z m o r]) w) :
  QX ((((((((W.setCell ⟨b,0,X⟩ (Y O j)).setCell ⟨b,1,X⟩ (Z a i c)).setCell ⟨b,2,X⟩ (Y O k)).setCell ⟨b,3,X⟩ (Z d f g)).setCell ⟨b',0,X⟩ (Y O t)).setCell ⟨b',1,X⟩ (Z l s c2)).setCell ⟨b',2,X⟩ (Y O u)).setCell ⟨b',3,X⟩ (Z m o r)) b p ∧
  QX ((((((((W.setCell ⟨b,0,X⟩ (Y O j)).setCell ⟨b,1,X⟩ (Z a i c)).setCell ⟨b,2,X⟩ (Y O k)).setCell ⟨b,3,X⟩ (Z d f g)).setCell ⟨b',0,X⟩ (Y O t)).setCell ⟨b',1,X⟩ (Z l s c2)).setCell ⟨b',2,X⟩ (Y O u)).setCell ⟨b',3,X⟩ (Z m o r)) b' w:=by
 have z:=h.put y;have v:=x.other4 h (Ne.symm e) (Y O j) (Z a i c) (Y O k) (Z d f g);exact⟨z.other4 v e _ _ _ _,v.put (n.keep (zaS [Y O j,Z a i c,Y O k,Z d f g] 0 h.not))⟩
theorem QX.drew (h:QX W b q):QX W.drew b q:=h.ext (eR _).drew
theorem zb9 {o:Obj} (h:W.heap[b]?=I o) (a:b≠b') (c d e f:J):((((W.setCell ⟨b',0,X⟩ c).setCell ⟨b',1,X⟩ d).setCell ⟨b',2,X⟩ e).setCell ⟨b',3,X⟩ f).heap[b]?=I o:=
 (zaT a [c,d,e,f] 0 W).trans h
theorem zaQ {w:V} (h:Ext w W) (a:w.heap.size≤b) (c d e f:J):Ext w ((((W.setCell ⟨b,0,X⟩ c).setCell ⟨b,1,X⟩ d).setCell ⟨b,2,X⟩ e).setCell ⟨b,3,X⟩ f):=
 (((h.set (p:=⟨b,0,X⟩) a _).set (p:=⟨b,1,X⟩) a _).set (p:=⟨b,2,X⟩) a _).set (p:=⟨b,3,X⟩) a _
end
def bstN (s:Sp) (L:List Int) (i:Nat):Rat×Rat:=bestR (gapR s) ((L.take i).map fun z:Int=>(z:Rat))
theorem zm1 {s:Sp} {L:List Int} {x:Int} (h:L[0]?=I x):bstN s L 1=((x:Rat),gapR s (x:Rat)):=by
 unfold bstN;rw [zab L 0 x h];rfl
theorem zk9 {s:Sp} {L:List Int} {i:Nat} {x:Int} (h:L[i]?=I x) (a:0<i):bstN s L (i+1)=bestStep (gapR s) (bstN s L i) (x:Rat):=by
 unfold bstN;rw [zab L i x h,List.map_append];refine zeu _ _ _ ?_;intro e;have:=congrArg List.length e;have c:=(lS.1 h).1;rw [lL,List.length_take,Nat.min_eq_left oM]at this;exact absurd this (by simp;omega)
theorem ziN (W:V) {b:Nat} (l:b=W.heap.size) {e f:J} {ps h:List (Int×Int)} (j:IsPr W e ps) (k:IsPr W f h):IsLs (W.alloc (.cells #[e,f] 88)) (Z (I ⟨b,0,X⟩) 2 2) [ps,h]:=by
 subst l;refine⟨[[e],[f]],rfl,by simp,⟨by simp,I ⟨W.heap.size,0,X⟩,2,rfl,nE _,by unfold maxLen;omega,.inr ⟨W.heap.size,0,#[e,f],(0,0),rfl,aN _ _,?_⟩⟩,?_⟩
 ·intro i x a
  simpa using a
 ·intro i c x d a
  have g:Ext W (W.alloc (.cells #[e,f] 88)):=(eR W).alloc _
  match i,d,a with
  | 0,d,a=>simp at d a;subst d a;exact⟨_,rfl,j.ext' g⟩
  | 1,d,a=>simp at d a;subst d a;exact⟨_,rfl,k.ext' g⟩
  | i+2,d,a=>simp at d
theorem zor {s:Sp} (ok:SpOk s) {x:Int} (a:Bd 104000 x):Rb 23 (gapR s (x:Rat)):=by
 unfold gapR;exact Rb.sub (k:=11) (Rb.atR (zaD a) ok.1) (Rb.atR (zaD a) ok.2.1)
theorem zoQ {cs L:List Int} {c a:Int} (h:PlL cs c a L):∀k,k<L.length→c+(k:Int)≤zN L k
 | 0,_=>by rw [h.h0];omega
 | k+1,d=>by
  have g:=zoQ h k oM;have f:=h.le k oM;rw [h.st k d];obtain⟨-,-,e⟩:=zcS cs (zN L k) (a+1);unfold nxtR
  split
  ·omega
  ·rcases e with e|⟨-,e⟩<;>omega
theorem zoP {cs L:List Int} {c a:Int} (h:PlL cs c a L) (d:Bd 104000 c) (e:Bd 104000 a):L.length≤1000000:=by
 have f:=h.pos;have g:=zoQ h (L.length-1) oM;have i:=h.le (L.length-1) oM;unfold Bd at d e;omega
theorem zkL {s:Sp} (ok:SpOk s):∀z∈stopsZ s,Bd 104000 z:=by
 intro z d;have a:=ok.2.2.1;have c:=ok.2.2.2
 rcases mem_stopsZ.1 d with rfl|rfl|⟨e,f,-⟩
 ·exact a
 ·exact c
 ·unfold Bd at *;omega
end
section
open Go.RowKit Go.Shelf Go.Sort
attribute [local go_sem] Oper.semAt_some
def GapqS (w g:V) (s:Sp) (L:List Int) (c d:Nat) (e:J) (W:V):Prop:=
 ∃(i:Nat) (f a:Rat),e=Y O i∧i≤L.length∧(0<i→bstN s L i=(f,a))∧Rb 100 a∧QX W c a∧QX W d f∧Ext g W
theorem gstep {s:Sp} {L:List Int} {i:Nat} {x:Int} {c a:Rat} (h:L[i]?=I x) (d:0<i) (e:bstN s L i=(c,a)):bstN s L (i+1)=if rcmp (gapR s (x:Rat)) a<0 then ((x:Rat),gapR s (x:Rat))else (c,a):=by
 rw [zk9 h d,e];rfl
theorem zhe (w:V) (va vb:J) (A B:List (Int×Int)) (h1:IsPr w va A) (h2:IsPr w vb B) (aq:LnOk A) (ar:LnOk B) (r1:Rise A) (r2:Rise B) (af:(btw A B).lo<(btw A B).hi) :
  Calls Tryz.prog 43 #[va,vb] w fun e w'=>∃v1 v2,e = .returned (N #[v1,v2])∧IsQ w' v1 (leastR (btw A B)).2∧IsQ w' v2 (leastR (btw A B)).1∧Ext w w':=by
 have ao:=zbw aq ar;have ad:=zl2 af;have hC:=fun W (hW:Ext w W)=>zgu W va vb A B (h1.ext' hW) (h2.ext' hW) aq.1 ar.1
 obtain⟨s,hs⟩:=gX (btw A B);have a8:s.over=A:=by rw [←hs];rfl
 have bf:s.under=B:=by rw [←hs];rfl
 rw [hs]at ao ad hC af ⊢;obtain⟨lo,a7⟩:=gX s.lo;obtain⟨hi,aY⟩:=gX s.hi;rw [a7,aY]at hC ad af;have bI:decide (lo<hi)=true:=by simpa using af
 simp only [bI]at hC;obtain⟨L,hL⟩:=gX (stopsZ s)
 have aK:bstN s L L.length=leastR s:=by
  unfold bstN leastR stopsR;rw [hL,List.take_length]
 rw [hL]at ad;have bP:xsL [A,B]=(s.over++s.under).map (·.1):=by rw [a8,bf];simp [xsL]
 rw [←bP]at ad;have aB:=ao.2.2.1;have aA:=ao.2.2.2;rw [a7]at aB;rw [aY]at aA;have bQ:∀z∈L,Bd 104000 z:=by rw [←hL];exact zkL ao
 have bz:=zoP ad aB aA
 have hP:=fun W v (hv:IsLs W v [A,B])=>zgx W v [A,B] lo hi L hv ad aB aA (by
  intro c hc;unfold xsL at hc;obtain⟨q,hq,rfl⟩:=List.mem_map.1 hc;simp at hq
  rcases hq with hq|hq
  ·exact(aq.2.1 q hq).1
  ·exact(ar.2.1 q hq).1) sM (by
  intro l hl;simp at hl
  rcases hl with rfl|rfl
  ·have:=aq.2.2;omega
  ·have:=ar.2.2;omega) bz
 have bw:=ad.pos;rw [←aK];have HC:=hd9 hC;have HP:=hd9 hP;have aR:=hd9 ao;have b0:=hd9 bQ;have bq:=hd9 a8;have bt:=hd9 bf;have H1:=hd9 h1;have H2:=hd9 h2;have bl:=hd9 (fun W vx x (hW:Ext w W) (hx:IsQ W vx x) (hb:Rb 2000 x)=>zjo W va vx A x (h1.ext' hW) aq r1 hx hb);have bm:=hd9 (fun W vx x (hW:Ext w W) (hx:IsQ W vx x) (hb:Rb 2000 x)=>zjo W vb vx B x (h2.ext' hW) ar r2 hx hb);obtain⟨a1,c1,bE⟩:=h1.form;obtain⟨a2,c2,bF⟩:=h2.form;obtain⟨n1,bJ⟩:=gX A.length;obtain⟨n2,bK⟩:=gX B.length;rw [bJ]at bE;rw [bK]at bF;subst bE bF;obtain⟨n,hn⟩:=gX L.length;rw [hn]at bw bz ⊢;have Hn:=hd9 hn;clear hC hP ao bQ a8 bf h1 h2 a7 aY hL aK bP ad aB aA aq ar r1 r2 bJ bK hn af bI hs;go_enter Tryz.func43,Tryz.ntmps43
 go_upto_region 3 with (first|(go_at_call 119;(with_reducible refine(HC.out _ ?_).mono ?_);exact eA;rintro e w1 ⟨rfl,bM⟩;(have X1:Ext w w1:=eA))|(go_at_call 120;(with_reducible refine(HP.out _ _ (ziN w1 rfl (H1.out.ext' X1) (H2.out.ext' X1))).mono ?_);rintro e w2 ⟨v2,rfl,r,bh⟩;obtain⟨ra,rc,rfl⟩:=r.form))
 have X2:Ext w w2:=X1.trans (((eR w1).alloc _).trans bh);have ax:w2.heap[w.heap.size]?=I (Obj.cells #[Value.int O 0,Value.slice X 0 0,Value.int O 0,Value.slice X 0 0] 68 (0,0)):=((bM.trans ((eR w1).alloc _)).trans bh).heapS (nbh0 ..);have ag:w2.heap[w.heap.size+1]?=I (Obj.cells #[Value.int O 0,Value.slice X 0 0,Value.int O 0,Value.slice X 0 0] 68 (0,0)):=((bM.trans ((eR w1).alloc _)).trans bh).heapS (qhA _ _ _ sM);rw [Hn.out]at r;have br:=hd9 r.ints;have aP:=hd9 ax;have aQ:=hd9 ag;have zw:w.heap.size+1<w2.heap.size:=zaa ag;have en:L.length=n:=Hn.out;rw [en];clear r ax ag en;go_wp2
 go_loopw [12] (GapqS w w2 s L w2.heap.size (w2.heap.size+1)) (fun ci _=>n-(intOf ci).toNat)
 case atStart=>exact⟨0,0,0,rfl,by omega,fun h=>by omega,(zaD (k:=0) (n:=0) (by unfold Bd;omega)).mono dM,QX.ext (W:=w2.alloc (Obj.cells #[Value.int O 0,Value.slice X 0 0,Value.int O 0,Value.slice X 0 0] 68)) (QX.new (IsQ.zero _) rfl) ((eR _).alloc _),QX.new (W:=w2.alloc (Obj.cells #[Value.int O 0,Value.slice X 0 0,Value.int O 0,Value.slice X 0 0] 68)) (IsQ.zero _) sM,((eR w2).alloc _).alloc _⟩
 case round =>
  obtain⟨f,bG⟩:=gX w2.heap.size;rw [bG]at hrel ⊢;obtain⟨i,bx,bg,rfl,b9,aL,bC,bk,bT,hx⟩:=hrel;rw [Hn.out]at b9;have aF:=hd9 aL;have bp:=hd9 bC;have XW:Ext w wr:=X2.trans hx;have bU:=bk.rd;have bv:=hd9 bk;have aS:=hd9 bT;clear aL bC bU bk bT
  by_cases af:i<n
  ·obtain⟨x,aD⟩:∃x,L[i]?=I x:=⟨_,gE (by rw [Hn.out];exact af)⟩
   obtain⟨b,o,cc,co,bD⟩:=(br.out.ext hx).open (by rw [Hn.out];omega);subst cc;have c0:=bD i x aD;have ap:=b0.out x (lM aD);have aX:=zor aR.out ap;have aV:gapR s (x:Rat)=atR A (x:Rat)-atR B (x:Rat):=by unfold gapR;rw [bq.out,bt.out]
   obtain⟨G,hG⟩:=gX (gapR s (x:Rat));rw [hG]at aX aV;have aM:=hd9 aX;have bZ:=hd9 aV;have HG:=hd9 hG;have bu:=hd9 aD;have bW:Hid (Rb 11 (atR A (x:Rat))):=hd9 (by have:=Rb.atR (zaD ap) aR.out.1;rw [bq.out]at this;exact this);have bX:Hid (Rb 11 (atR B (x:Rat))):=hd9 (by have:=Rb.atR (zaD ap) aR.out.2.1;rw [bt.out]at this;exact this);have bo:Hid (Rb 2000 (x:Rat)):=hd9 ((zaD ap).mono dM);have bV:=hd9 (fun W=>zcJ W x (by unfold Bd at ap;omega) (by unfold Bd at ap;omega));have g0:(0:Int)≤(i:Int):=oM
   have g1:(i:Int)<(n:Int):=oM
   clear bD aX aV hG aD
   go_upto_region 8 with (go_at_call 82;(with_reducible refine(bV.out wr).mono ?_);rintro e w3 ⟨r3,rfl,aC,bi⟩;obtain⟨s3,a3,m3,c3,t3,e3,i3,j3,rfl⟩:=aC.form)
   obtain⟨W3,an⟩:=gX (w3.alloc (Obj.cells #[Value.int O s3,Value.slice a3 m3 c3,Value.int O t3,Value.slice e3 i3 j3] 68));obtain⟨g,ac⟩:=gX w3.heap.size;have X3:Ext wr W3:=by rw [←an];exact bi.alloc _
   have cg:QX W3 g (x:Rat):=by rw [←an];exact QX.new aC ac.symm
   have am:W3.heap[g]?=I (Obj.cells #[Value.int O s3,Value.slice a3 m3 c3,Value.int O t3,Value.slice e3 i3 j3] 68 (0,0)):=by rw [←an];exact qhA _ _ _ ac.symm
   have bL:IsQ W3 (M #[Y O s3,Z a3 m3 c3,Y O t3,Z e3 i3 j3]) (x:Rat):=by rw [←an];exact aC.ext ((eR _).alloc _)
   have cs:wr.heap.size≤g:=by rw [←ac];exact bi.size
   have cn:g<W3.heap.size:=zaa am;rw [an,ac];have C3:CellL [(⟨g,0,X⟩,Y O s3),(⟨g,1,X⟩,Z a3 m3 c3),(⟨g,2,X⟩,Y O t3),(⟨g,3,X⟩,Z e3 i3 j3)] W3.drew:=⟨qcB am (i:=0) rfl,qcB am (i:=1) rfl,qcB am (i:=2) rfl,qcB am (i:=3) rfl,trivial⟩;clear an ac aC bi am c0 g0 g1;refine zaN [(7,14,Obj.cells #[Value.int O 0,Value.slice X 0 0,Value.int O 0,Value.slice X 0 0] 68 (0,0))] _ 8 8 (fun i=>decide (7<i)) (fun _=>false) kM kM kM sM kM (by intro x hx;simp only [List.mem_cons,List.not_mem_nil,or_false]at hx;rcases hx with rfl<;>exact⟨_,rfl,rfl,fun a W=>by go_simp⟩) (fun _ _ d _ _ h=>by cases d<;>exact h) C3 (fun j=>?_);refine tf1 (i:=0) ?_;refine tf1 (i:=1) ?_;refine tf1 (i:=3) ?_;refine tf1 (i:=4) ?_;refine cf1 (i:=2) fun W4 bB ak av K p=>?_
   go_simp
   (with_reducible refine cM (bl.out W4 _ (x:Rat) (XW.trans (X3.trans ((eR W3).drew.trans ak))) (bL.ext ((eR W3).drew.trans ak)) bo.out) ?_)
   rintro e w4 ⟨r4,rfl,a9,bN⟩;obtain⟨s4,a4,m4,c4,t4,e4,i4,j4,rfl⟩:=a9.form
   go_wp2_with fail
   refine kO p (.of ak bN) (fun _ _=>?_);clear p K av;refine cf1 (i:=5) fun W5 aH al av K p=>?_
   go_simp
   (with_reducible refine cM (bm.out W5 _ (x:Rat) (XW.trans (X3.trans ((eR W3).drew.trans al))) (bL.ext ((eR W3).drew.trans al)) bo.out) ?_)
   rintro e w5 ⟨r5,rfl,ba,bj⟩;obtain⟨s5,a5,m5,c5,t5,e5,i5,j5,rfl⟩:=ba.form
   go_wp2_with fail
   refine kO p (.of al bj) (fun _ _=>?_);clear p K av;refine cf1 (i:=6) fun W6 aw aJ av K p=>?_
   go_simp
   (with_reducible refine cM (zmw W6 _ _ (atR A (x:Rat)) (atR B (x:Rat)) (a9.ext (aH.trans (bj.trans aw))) (ba.ext aw) (bW.out.mono dM) (bX.out.mono dM)) ?_)
   rintro e w6 ⟨r6,rfl,bb,bO⟩;obtain⟨s6,a6,m6,c6,t6,e6,i6,j6,rfl⟩:=bb.form
   go_wp2_with fail
   refine kO p (.of aJ bO) (fun _ _=>?_);clear p K av;refine df kM (fun W7 aI aU=>?_);intro m aj aE _ _;have Y7:Ext W3 W7:=(eR W3).drew.trans aU;have bc:=bb.ext aI;rw [←bZ.out]at bc;have aG:QX W7 m 0:=⟨_,_,_,_,_,_,_,_,aj,IsQ.zero _⟩;have k0:=qcB aj (i:=0) (u:=Y O 0) rfl;have k1:=qcB aj (i:=1) (u:=Z X 0 0) rfl;have k2:=qcB aj (i:=2) (u:=Y O 0) rfl;have k3:=qcB aj (i:=3) (u:=Z X 0 0) rfl;have kf:=qfB aj;clear bN a9 bj ba bO bb bB aH aw aI ak al aJ;refine cl1 (i:=8) fun K p=>?_
   go_simp;refine kO p (cE j (by(repeat refine Ext.set ?_ (by exact aE) _);exact aU)) (fun b6=>?_);clear p K;refine wpAnyH_done kM ?_ _;clear k0 k1 k2 k3 kf b6;obtain⟨W8,aT⟩:=gX (((((W7.setCell ⟨m,0,X⟩ (Y O s6)).setCell ⟨m,1,X⟩ (Z a6 m6 c6)).setCell ⟨m,2,X⟩ (Y O t6)).setCell ⟨m,3,X⟩ (Z e6 i6 j6)));have au:=aG.put bc;have ck:W3.heap.size≤m:=by simp only [qdZ]at aE;exact aE
   have X8:Ext W3 W8:=by rw [←aT];exact zaQ Y7 ck _ _ _ _
   rw [aT]at au ⊢;clear aT bc aG Y7 aU aE aj C3 j;have XF:Ext wr W8:=X3.trans X8;have Q:=bv.out.ext XF;have S:=aS.out.ext XF;have az:=cg.ext X8;have aO:=hd9 XF;have b7:f+1<g:=by have:=aS.out.rd;obtain⟨_,_,_,_,_,_,_,_,_,_,_,_,_,h9,_⟩:=this;omega
   have b8:f+1<m:=oM
   have cl:¬g=f:=oM
   have cm:¬m=f:=oM
   by_cases aZ:i=0
   ·subst aZ
    have R:=hx;obtain⟨s1,t,m1,y,t1,e1,i1,j1,y0,y1,y2,y3,yf,yz,hy⟩:=au.rd;obtain⟨s2,D,m2,P,t2,e2,i2,j2,v0,v1,v2,v3,vf,vz,hv⟩:=az.rd;have ah:=Q.rd;have ai:=S.rd;obtain⟨s5,b1,m5,b3,t5,e5,i5,j5,x0,x1,x2,x3,xf,xz,ay⟩:=Q.rd;obtain⟨ch,b2,cf,b4,cj,b5,cd,ce,u0,u1,u2,u3,uf,uz,hu⟩:=S.rd;clear ah ai
    go_upto_region 10 with fail
    refine zae (fun i=>decide (2<i)) (CellL [(⟨m,0,X⟩,Y O s1),(⟨m,1,X⟩,Z t m1 y),(⟨m,2,X⟩,Y O t1),(⟨m,3,X⟩,Z e1 i1 j1),(⟨g,0,X⟩,Y O s2),(⟨g,1,X⟩,Z D m2 P),(⟨g,2,X⟩,Y O t2),(⟨g,3,X⟩,Z e2 i2 j2)]) kM ?_ (fun j=>?_)
    ·exact cA
    refine sN 0 ?_
    iterate 2
     refine tun ?_
    refine oN ?_;refine cu1 (i:=2) fun K p=>?_
    go_simp;refine kO p (fun _=>?_) (fun j=>?_)
    ·exact cA
    clear p K
    replace j:=j rfl
    refine cu1 (i:=3) fun K p=>?_
    go_simp;refine kO p (fun h=>nomatch h) (fun j=>?_);clear p K;refine doneHU kM ?_ _;obtain⟨ah,ai⟩:=QX.put2 Q S (show f≠f+1 by omega) hy hv;have kX:=zaQ (zaQ (Ext.trans ‹Ext w2 _› aO.out) (show w2.heap.size≤f by omega) (Y O s1) (Z t m1 y) (Y O t1) (Z e1 i1 j1)) (show w2.heap.size≤f+1 by omega) (Y O s2) (Z D m2 P) (Y O t2) (Z e2 i2 j2);go_wp2
    go_roundw
    case rel=>exact⟨0+1,(x:Rat),G,by go_num,by rw [Hn.out];omega,fun _=>by rw [zm1 bu.out,HG.out],aM.out.mono dM,ah.drew,ai.drew,kX.drew⟩
    case measure=>simp [intOf];omega
   ·have bH:0<i:=oM
    have cp:((i:Int)==0)=false:=by simpa using aZ
    obtain⟨sa,aa,ma,ca,ta,ea,ia,ja,y0,y1,y2,y3,-,yz,hy⟩:=au.rd;obtain⟨sb,ab,mb,cb,tb,eb,ib,jb,x0,x1,x2,x3,-,xz,ay⟩:=Q.rd;have aW:=zhc W8 _ _ G bg hy ay (aM.out.mono dM) (bp.out.mono dM);obtain⟨T,hT⟩:=gX (rcmp G bg);rw [hT]at aW;have HT:=hd9 hT;have bn:=hd9 aW;have be:=gstep bu.out bH (aF.out bH);rw [HG.out,hT]at be;have bs:=hd9 be;clear aW hT be aZ
    by_cases bA:T<0
    ·have e9:bstN s L (i+1)=((x:Rat),G):=by rw [bs.out,if_pos bA]
     have E9:=hd9 e9;clear e9 hy ay
     go_upto_if 53 with (go_at_call 22;(with_reducible refine bn.out.mono ?_);rintro e w9 ⟨rfl,R⟩)
     replace au:=au.ext R
     replace Q:=Q.ext R
     replace S:=S.ext R
     replace az:=az.ext R
     obtain⟨s1,t,m1,y,t1,e1,i1,j1,y0,y1,y2,y3,yf,yz,hy⟩:=au.rd;obtain⟨s2,D,m2,P,t2,e2,i2,j2,v0,v1,v2,v3,vf,vz,hv⟩:=az.rd;have ah:=Q.rd;have ai:=S.rd;obtain⟨s5,b1,m5,b3,t5,e5,i5,j5,x0,x1,x2,x3,xf,xz,ay⟩:=Q.rd;obtain⟨ch,b2,cf,b4,cj,b5,cd,ce,u0,u1,u2,u3,uf,uz,hu⟩:=S.rd;clear ah ai
     go_upto_region 10 with fail
     refine zae (fun i=>decide (2<i)) (CellL [(⟨m,0,X⟩,Y O s1),(⟨m,1,X⟩,Z t m1 y),(⟨m,2,X⟩,Y O t1),(⟨m,3,X⟩,Z e1 i1 j1),(⟨g,0,X⟩,Y O s2),(⟨g,1,X⟩,Z D m2 P),(⟨g,2,X⟩,Y O t2),(⟨g,3,X⟩,Z e2 i2 j2)]) kM ?_ (fun j=>?_)
     ·exact cA
     refine sN 0 ?_
     iterate 2
      refine tun ?_
     refine oN ?_;refine cu1 (i:=2) fun K p=>?_
     go_simp;refine kO p (fun _=>?_) (fun j=>?_)
     ·exact cA
     clear p K
     replace j:=j rfl
     refine cu1 (i:=3) fun K p=>?_
     go_simp;refine kO p (fun h=>nomatch h) (fun j=>?_);clear p K;refine doneHU kM ?_ _;obtain⟨ah,ai⟩:=QX.put2 Q S (show f≠f+1 by omega) hy hv;have kX:=zaQ (zaQ (Ext.trans ‹Ext w2 _› (aO.out.trans R)) (show w2.heap.size≤f by omega) (Y O s1) (Z t m1 y) (Y O t1) (Z e1 i1 j1)) (show w2.heap.size≤f+1 by omega) (Y O s2) (Z D m2 P) (Y O t2) (Z e2 i2 j2);go_wp2
     go_roundw
     case rel=>exact⟨i+1,(x:Rat),G,by go_num,by rw [Hn.out];omega,fun _=>E9.out,aM.out.mono dM,ah.drew,ai.drew,kX.drew⟩
     case measure=>simp [intOf];omega
    ·have e9:bstN s L (i+1)=(bx,bg):=by rw [bs.out,if_neg bA]
     have E9:=hd9 e9;clear e9 hy ay
     go_wp2_with(go_at_call 22;(with_reducible refine bn.out.mono ?_);rintro e w9 ⟨rfl,R⟩)
     go_roundw
     case rel=>exact⟨i+1,bx,bg,by go_num,by rw [Hn.out];omega,fun _=>E9.out,bp.out,Q.ext R,S.ext R,hx.trans (aO.out.trans R)⟩
     case measure=>simp [intOf];omega
  ·obtain rfl:i=n:=oM
   have hb:=aF.out bw;obtain⟨s1,t,m1,y,t1,e1,i1,j1,y0,y1,y2,y3,yf,yz,hy⟩:=bv.out.rd;obtain⟨s2,D,m2,P,t2,e2,i2,j2,v0,v1,v2,v3,vf,vz,hv⟩:=aS.out.rd;have ae:=hx.heapS aP.out;have r:=hx.heapS aQ.out;have q1:QX wr w.heap.size 0:=⟨_,_,_,_,_,_,_,_,ae,IsQ.zero _⟩;have q2:QX wr (w.heap.size+1) 0:=⟨_,_,_,_,_,_,_,_,r,IsQ.zero _⟩;have o0:=qcB ae (i:=0) (u:=Y O 0) rfl;have o1:=qcB ae (i:=1) (u:=Z X 0 0) rfl;have o2:=qcB ae (i:=2) (u:=Y O 0) rfl;have o3:=qcB ae (i:=3) (u:=Z X 0 0) rfl;have of:=qfB ae;have k0:=qcB r (i:=0) (u:=Y O 0) rfl;have k1:=qcB r (i:=1) (u:=Z X 0 0) rfl;have k2:=qcB r (i:=2) (u:=Y O 0) rfl;have k3:=qcB r (i:=3) (u:=Z X 0 0) rfl;have kf:=qfB r;have oz:=zaa ae;have kz:=zaa r;have cq:¬f=w.heap.size:=oM
   have cr:¬f+1=w.heap.size:=oM
   have Hb:=hd9 hb;have a0:=(zaS [Y O s1,Z t m1 y,Y O t1,Z e1 i1 j1] 0 q1.not).trans (zaS [Y O s2,Z D m2 P,Y O t2,Z e2 i2 j2] 0 (q2.other4 q1 (show w.heap.size+1≠w.heap.size by omega) (Y O s1) (Z t m1 y) (Y O t1) (Z e1 i1 j1)).not);have P1:=hd9 (hy.keep a0);have P2:=hd9 (hv.keep a0);have XF:=zaQ (zaQ XW (show w.heap.size≤w.heap.size by omega) (Y O s1) (Z t m1 y) (Y O t1) (Z e1 i1 j1)) (show w.heap.size≤w.heap.size+1 by omega) (Y O s2) (Z D m2 P) (Y O t2) (Z e2 i2 j2);have bY:=hd9 XF;clear hb ae r q1 q2 hy hv a0 XF XW hx;go_wp2;refine zae (fun i=>decide (2<i)) (CellL [(⟨f,0,X⟩,Y O s1),(⟨f,1,X⟩,Z t m1 y),(⟨f,2,X⟩,Y O t1),(⟨f,3,X⟩,Z e1 i1 j1),(⟨f+1,0,X⟩,Y O s2),(⟨f+1,1,X⟩,Z D m2 P),(⟨f+1,2,X⟩,Y O t2),(⟨f+1,3,X⟩,Z e2 i2 j2)]) kM ?_ (fun j=>?_)
   ·exact cA
   refine sN 0 ?_
   iterate 2
    refine tun ?_
   refine oN ?_;refine cu1 (i:=2) fun K p=>?_
   go_simp;refine kO p (fun _=>?_) (fun j=>?_)
   ·exact cA
   clear p K
   replace j:=j rfl
   refine cu1 (i:=3) fun K p=>?_
   go_simp;refine kO p (fun h=>nomatch h) (fun j=>?_);clear p K;refine doneHU kM ?_ _;go_wp2;refine bR (v:=N #[M #[Y O s1,Z t m1 y,Y O t1,Z e1 i1 j1],M #[Y O s2,Z D m2 P,Y O t2,Z e2 i2 j2]]) (by simp [results,Tryz.results43,go_sem,oz,kz,o0,o1,o2,o3,k0,k1,k2,k3]) rfl ⟨_,_,rfl,?_,?_,bY.out.drew⟩
   ·rw [Hb.out];exact P1.out.ext (eR _).drew
   ·rw [Hb.out];exact P2.out.ext (eR _).drew
theorem zcK (w:V) (p r:J) (A B:List (Int×Int)) (k:IsPr w p A) (l:IsPr w r B) (f:LnOk A) (h:LnOk B) (v:Rise A) (y:Rise B) (a:(btw A B).lo<(btw A B).hi) :
  Calls Tryz.prog 66 #[p,r] w fun e w'=>e = .returned (.bool (freeB A B))∧Ext w w':=by
 have c:freeB A B=decide (0≤(leastR (btw A B)).2.num.sign):=by unfold freeB;rw [if_pos a]
 have s:=hd9 (fun W (t:Ext w W)=>zhe W p r A B (k.ext' t) (l.ext' t) f h v y a);rw [c];obtain⟨g,n⟩:=gX ((leastR (btw A B)).2);obtain⟨x,u⟩:=gX ((leastR (btw A B)).1);rw [n,u]at s;rw [n];obtain⟨T,m⟩:=gX g.num.sign;rw [m];have z:=hd9 m;obtain⟨a1,n1,c1,rfl⟩:=k.form3;obtain⟨a2,n2,c2,rfl⟩:=l.form3;clear n u m k l f h v y a c;go_enter Tryz.func66,Tryz.ntmps66
 go_wp2_with(first|(go_at_call 43;(with_reducible refine(s.out w (eR _)).mono ?_);rintro e w1 ⟨v1,v2,rfl,d,o,P⟩;obtain⟨s1,i,m1,j,t1,L,R,S,rfl⟩:=d.form;obtain⟨s2,D,m2,K,t2,e2,i2,j2,rfl⟩:=o.form)|(go_at_call 140;(with_reducible refine(zjz _ (M #[Y O s1,Z i m1 j,Y O t1,Z L R S]) g ?_).mono ?_);(exact d.ext (((eR w1).alloc _).alloc _));rw [z.out];rintro e w3 ⟨rfl,Q⟩))
 go_ret;exact⟨rfl,eA⟩
theorem zdO (w:V) (p q:Pl) (s t:J) (v:∃a n c,s=Z a n c) (x:∃a n c,t=Z a n c) :
  Calls Tryz.prog 67 #[M (plc p s),M (plc q t)] w fun e D=>e = .returned (.bool (meetB p q))∧Ext w D:=by
 obtain⟨a,n,c,rfl⟩:=v;obtain⟨L,n',R,rfl⟩:=x;obtain⟨nm,sh,d,T,gx,gz,wy,P,Q,g⟩:=p;obtain⟨y,z,S,o,r,u,K,l,m,f⟩:=q;unfold meetB plc;dsimp only
 by_cases h:g=f
 ·have j:(g==f)=true:=by simpa using h
  rw [j];clear h;go_enter Tryz.func67,Tryz.ntmps67;go_wp2;go_ret;exact⟨rfl,eA⟩
 have j:(g==f)=false:=by simpa using h
 rw [j];clear h
 by_cases i:g=3
 ·have k:(g==3)=true:=by simpa using i
  rw [k];clear i;go_enter Tryz.func67,Tryz.ntmps67;go_wp2;go_ret;exact⟨rfl,eA⟩
 have k:(g==3)=false:=by simpa using i
 rw [k];clear i;go_enter Tryz.func67,Tryz.ntmps67;go_wp2;go_ret;exact⟨rfl,eA⟩
theorem zjY {p:Pl} (h:placedOk p=true):lineL (lowP2 p)<lineR (lowP2 p):=(zaW h).2.2.1
theorem ziV {p q:Pl} (e:placedOk p=true) (d:placedOk q=true) (f:¬lineR (lowP2 p)≤lineL (lowP2 q)) (g:¬lineR (lowP2 q)≤lineL (lowP2 p)):(btw (lowP2 p) (upP2 q)).lo<(btw (lowP2 p) (upP2 q)).hi:=by
 have a:=zaW d;have b:=zjY e;have c:=zjY d;unfold btw;dsimp only;omega
theorem zeZ (w:V) (p q:Pl) (s t:J) (hs:IsPr w s p.shape) (ht:IsPr w t q.shape) (hp:placedOk p=true) (hq:placedOk q=true) :
  Calls Tryz.prog 42 #[M (plc p s),M (plc q t)] w fun e w'=>e = .returned (Y .u8 (relP p q))∧Ext w w':=by
 have aO:=zaj hp;have aP:=zaj hq;have y:=hd9 (fun W (hW:Ext w W)=>zby W s p (hs.ext' hW) hp);have z:=hd9 (fun W (hW:Ext w W)=>zby W t q (ht.ext' hW) hq);have aE:=hd9 (fun W (hW:Ext w W)=>ze1 W s p (hs.ext' hW) hp);have am:=hd9 (fun W (hW:Ext w W)=>ze1 W t q (ht.ext' hW) hq);have ak:=hd9 (fun W v (hv:IsPr W v (lowP2 p))=>zbQ W v _ hv aO.1.1);have al:=hd9 (fun W v (hv:IsPr W v (lowP2 q))=>zbQ W v _ hv aP.1.1);have aD:=hd9 (fun W v1 v2 (h1:IsPr W v1 (lowP2 p)) (h2:IsPr W v2 (upP2 q)) aV=>zcK W v1 v2 _ _ h1 h2 aO.1 aP.2 (zaL hp).1 (zb0 hq).1 aV);have aS:=hd9 (fun W v1 v2 (h1:IsPr W v1 (lowP2 q)) (h2:IsPr W v2 (upP2 p)) aV=>zcK W v1 v2 _ _ h1 h2 aP.1 aO.2 (zaL hq).1 (zb0 hp).1 aV);have aX:=hd9 (ziV hp hq);have aY:=hd9 (ziV hq hp);obtain⟨k,hk⟩:=gX (relP p q);rw [hk];unfold relP at hk;obtain⟨l1,e1⟩:=gX (lineL (lowP2 p));obtain⟨r1,e2⟩:=gX (lineR (lowP2 p));obtain⟨l2,e3⟩:=gX (lineL (lowP2 q));obtain⟨r2,e4⟩:=gX (lineR (lowP2 q));rw [show (ptN (lowP2 p) 0).1=l1 from e1,show (ptN (lowP2 p) ((lowP2 p).length-1)).1=r1 from e2]at ak;rw [show (ptN (lowP2 q) 0).1=l2 from e3,show (ptN (lowP2 q) ((lowP2 q).length-1)).1=r2 from e4]at al;rw [e1,e2,e3,e4]at hk aX;rw [e1,e2,e3,e4]at aY;obtain⟨f1,e5⟩:=gX (freeB (lowP2 p) (upP2 q));obtain⟨f2,e6⟩:=gX (freeB (lowP2 q) (upP2 p));rw [e5,e6]at hk;rw [e5]at aD;rw [e6]at aS;have Hk:=hd9 hk;obtain⟨a,n,c,rfl⟩:=hs.form3;obtain⟨a',n',c',rfl⟩:=ht.form3;clear hk e1 e2 e3 e4 e5 e6 aO aP hs ht hp hq;obtain⟨nm,sh,d,de,gx,gz,wy,ax,az,sk⟩:=p;obtain⟨aw,a0,d',ap,aq,ar,aA,an,ao,ay⟩:=q;unfold plc at y z aE am ⊢;dsimp only at y z aE am ⊢
 by_cases h1:r1≤l2
 ·have e:=Hk.out
  rw [if_pos h1]at e;subst e;go_enter Tryz.func42,Tryz.ntmps42
  go_wp2_with(first|(go_at_call 36;(with_reducible refine(y.out _ ?_).mono ?_);exact eA;rintro e w1 ⟨v1,rfl,h,D⟩;obtain⟨a1,n1,c1,rfl⟩:=h.form3;obtain⟨⟨aF,aJ⟩,ac,ad⟩:=cK2 w D;(have X1:Ext w w1:=eA))|(go_at_call 118;(with_reducible refine(ak.out w1 _ h.pr).mono ?_);rintro e w2 ⟨rfl,l⟩;obtain⟨⟨aG,aK⟩,ae,af⟩:=cK2 w l;(have X2:Ext w w2:=X1.trans l))|(go_at_call 36;(with_reducible refine(z.out w2 X2).mono ?_);rintro e w3 ⟨v3,rfl,j,m⟩;obtain⟨a3,n3,c3,rfl⟩:=j.form3;obtain⟨⟨aH,aL⟩,ag,ah⟩:=cK2 w m;(have X3:Ext w w3:=X2.trans m))|(go_at_call 118;(with_reducible refine(al.out w3 _ j.pr).mono ?_);rintro e w4 ⟨rfl,o⟩;obtain⟨⟨aI,aM⟩,ai,aj⟩:=cK2 w o;(have T:Ext w w4:=X3.trans o)))
  go_ret;exact⟨rfl,T⟩
 by_cases h2:r2≤l1
 ·have e:=Hk.out
  rw [if_neg h1,if_pos h2]at e;subst e;go_enter Tryz.func42,Tryz.ntmps42
  go_wp2_with(first|(go_at_call 36;(with_reducible refine(y.out _ ?_).mono ?_);exact eA;rintro e w1 ⟨v1,rfl,h,D⟩;obtain⟨a1,n1,c1,rfl⟩:=h.form3;obtain⟨⟨aF,aJ⟩,ac,ad⟩:=cK2 w D;(have X1:Ext w w1:=eA))|(go_at_call 118;(with_reducible refine(ak.out w1 _ h.pr).mono ?_);rintro e w2 ⟨rfl,l⟩;obtain⟨⟨aG,aK⟩,ae,af⟩:=cK2 w l;(have X2:Ext w w2:=X1.trans l))|(go_at_call 36;(with_reducible refine(z.out w2 X2).mono ?_);rintro e w3 ⟨v3,rfl,j,m⟩;obtain⟨a3,n3,c3,rfl⟩:=j.form3;obtain⟨⟨aH,aL⟩,ag,ah⟩:=cK2 w m;(have X3:Ext w w3:=X2.trans m))|(go_at_call 118;(with_reducible refine(al.out w3 _ j.pr).mono ?_);rintro e w4 ⟨rfl,o⟩;obtain⟨⟨aI,aM⟩,ai,aj⟩:=cK2 w o;(have T:Ext w w4:=X3.trans o)))
  go_ret;exact⟨rfl,T⟩
 have b1:=aX.out h1 h2;have b2:=aY.out h2 h1;have B1:=hd9 b1;have B2:=hd9 b2;have aU:=Hk.out;rw [if_neg h1,if_neg h2]at aU;have aZ:=hd9 aU;clear b1 b2 aU
 cases f1 with
 | true =>
  have e:=aZ.out;rw [if_pos rfl]at e;subst e;go_enter Tryz.func42,Tryz.ntmps42
  go_upto_region 7 with (first|(go_at_call 36;(with_reducible refine(y.out _ ?_).mono ?_);exact eA;rintro e w1 ⟨v1,rfl,h,D⟩;obtain⟨a1,n1,c1,rfl⟩:=h.form3;obtain⟨⟨aF,aJ⟩,ac,ad⟩:=cK2 w D;(have X1:Ext w w1:=eA))|(go_at_call 118;(with_reducible refine(ak.out w1 _ h.pr).mono ?_);rintro e w2 ⟨rfl,l⟩;obtain⟨⟨aG,aK⟩,ae,af⟩:=cK2 w l;(have X2:Ext w w2:=X1.trans l))|(go_at_call 36;(with_reducible refine(z.out w2 X2).mono ?_);rintro e w3 ⟨v3,rfl,j,m⟩;obtain⟨a3,n3,c3,rfl⟩:=j.form3;obtain⟨⟨aH,aL⟩,ag,ah⟩:=cK2 w m;(have X3:Ext w w3:=X2.trans m))|(go_at_call 118;(with_reducible refine(al.out w3 _ j.pr).mono ?_);rintro e w4 ⟨rfl,o⟩;obtain⟨⟨aI,aM⟩,ai,aj⟩:=cK2 w o;(have T:Ext w w4:=X3.trans o)))
  refine wp_region_held_drew (S:=CellL [(⟨w.heap.size,0,X⟩,.string nm),(⟨w.heap.size,1,X⟩,Z a n c),(⟨w.heap.size,2,X⟩,Y O d),(⟨w.heap.size,3,X⟩,Y O de),(⟨w.heap.size,4,X⟩,Y O gx),(⟨w.heap.size,5,X⟩,Y O gz),(⟨w.heap.size,6,X⟩,Y O wy),(⟨w.heap.size,7,X⟩,Y O ax),(⟨w.heap.size,8,X⟩,Y O az),(⟨w.heap.size,9,X⟩,Y .u8 sk),(⟨w.heap.size+1,0,X⟩,.string aw),(⟨w.heap.size+1,1,X⟩,Z a' n' c'),(⟨w.heap.size+1,2,X⟩,Y O d'),(⟨w.heap.size+1,3,X⟩,Y O ap),(⟨w.heap.size+1,4,X⟩,Y O aq),(⟨w.heap.size+1,5,X⟩,Y O ar),(⟨w.heap.size+1,6,X⟩,Y O aA),(⟨w.heap.size+1,7,X⟩,Y O an),(⟨w.heap.size+1,8,X⟩,Y O ao),(⟨w.heap.size+1,9,X⟩,Y .u8 ay)]) kM cA (fun f=>?_);refine tk1 (i:=0) ?_;refine tk1 (i:=2) ?_;refine cl1 (i:=1) fun K g=>?_
  go_simp
  (with_reducible refine cM (y.out _ (T.drew)) ?_)
  rintro e w5 ⟨v5,rfl,L,r⟩;obtain⟨a5,n5,c5,rfl⟩:=L.form3
  go_wp2_with fail
  refine kO g (cE f r) (fun f=>?_);clear g K;refine cl1 (i:=3) fun K g=>?_
  go_simp
  (with_reducible refine cM (am.out w5 (T.drew.trans r)) ?_)
  rintro e w6 ⟨v6,rfl,P,u⟩;obtain⟨a6,n6,c6,rfl⟩:=P.form3
  go_wp2_with fail
  refine kO g (cE f u) (fun f=>?_);clear g K;refine cl1 (i:=4) fun K g=>?_
  go_simp
  (with_reducible refine cM (aD.out w6 _ _ (L.pr.ext' u) P.pr B1.out) ?_)
  rintro e w7 ⟨rfl,x⟩;have X7:Ext w w7:=(T.drew.trans r).trans (u.trans x)
  go_wp2_with fail
  refine kO g (cE f x) (fun f=>?_);clear g K;refine tk1 (i:=5) ?_;refine wpAnyH_done kM ?_ _;have R:=r.trans (u.trans x);obtain⟨⟨aQ,aR⟩,aB,aC⟩:=cK2 w R;go_wp2;go_ret;exact⟨rfl,X7⟩
 | false =>
  have e1:=aZ.out;rw [if_neg dM]at e1
  cases f2 with
  | true =>
   rw [if_pos rfl]at e1;subst e1;go_enter Tryz.func42,Tryz.ntmps42
   go_upto_region 7 with (first|(go_at_call 36;(with_reducible refine(y.out _ ?_).mono ?_);exact eA;rintro e w1 ⟨v1,rfl,h,D⟩;obtain⟨a1,n1,c1,rfl⟩:=h.form3;obtain⟨⟨aF,aJ⟩,ac,ad⟩:=cK2 w D;(have X1:Ext w w1:=eA))|(go_at_call 118;(with_reducible refine(ak.out w1 _ h.pr).mono ?_);rintro e w2 ⟨rfl,l⟩;obtain⟨⟨aG,aK⟩,ae,af⟩:=cK2 w l;(have X2:Ext w w2:=X1.trans l))|(go_at_call 36;(with_reducible refine(z.out w2 X2).mono ?_);rintro e w3 ⟨v3,rfl,j,m⟩;obtain⟨a3,n3,c3,rfl⟩:=j.form3;obtain⟨⟨aH,aL⟩,ag,ah⟩:=cK2 w m;(have X3:Ext w w3:=X2.trans m))|(go_at_call 118;(with_reducible refine(al.out w3 _ j.pr).mono ?_);rintro e w4 ⟨rfl,o⟩;obtain⟨⟨aI,aM⟩,ai,aj⟩:=cK2 w o;(have T:Ext w w4:=X3.trans o)))
   refine wp_region_held_drew (S:=CellL [(⟨w.heap.size,0,X⟩,.string nm),(⟨w.heap.size,1,X⟩,Z a n c),(⟨w.heap.size,2,X⟩,Y O d),(⟨w.heap.size,3,X⟩,Y O de),(⟨w.heap.size,4,X⟩,Y O gx),(⟨w.heap.size,5,X⟩,Y O gz),(⟨w.heap.size,6,X⟩,Y O wy),(⟨w.heap.size,7,X⟩,Y O ax),(⟨w.heap.size,8,X⟩,Y O az),(⟨w.heap.size,9,X⟩,Y .u8 sk),(⟨w.heap.size+1,0,X⟩,.string aw),(⟨w.heap.size+1,1,X⟩,Z a' n' c'),(⟨w.heap.size+1,2,X⟩,Y O d'),(⟨w.heap.size+1,3,X⟩,Y O ap),(⟨w.heap.size+1,4,X⟩,Y O aq),(⟨w.heap.size+1,5,X⟩,Y O ar),(⟨w.heap.size+1,6,X⟩,Y O aA),(⟨w.heap.size+1,7,X⟩,Y O an),(⟨w.heap.size+1,8,X⟩,Y O ao),(⟨w.heap.size+1,9,X⟩,Y .u8 ay)]) kM cA (fun f=>?_);refine tk1 (i:=0) ?_;refine tk1 (i:=2) ?_;refine cl1 (i:=1) fun K g=>?_
   go_simp
   (with_reducible refine cM (y.out _ (T.drew)) ?_)
   rintro e w5 ⟨v5,rfl,L,r⟩;obtain⟨a5,n5,c5,rfl⟩:=L.form3
   go_wp2_with fail
   refine kO g (cE f r) (fun f=>?_);clear g K;refine cl1 (i:=3) fun K g=>?_
   go_simp
   (with_reducible refine cM (am.out w5 (T.drew.trans r)) ?_)
   rintro e w6 ⟨v6,rfl,P,u⟩;obtain⟨a6,n6,c6,rfl⟩:=P.form3
   go_wp2_with fail
   refine kO g (cE f u) (fun f=>?_);clear g K;refine cl1 (i:=4) fun K g=>?_
   go_simp
   (with_reducible refine cM (aD.out w6 _ _ (L.pr.ext' u) P.pr B1.out) ?_)
   rintro e w7 ⟨rfl,x⟩;have X7:Ext w w7:=(T.drew.trans r).trans (u.trans x)
   go_wp2_with fail
   refine kO g (cE f x) (fun f=>?_);clear g K;refine tk1 (i:=5) ?_;refine wpAnyH_done kM ?_ _;have R:=r.trans (u.trans x);obtain⟨⟨aQ,aR⟩,aB,aC⟩:=cK2 w R
   go_upto_region 9 with fail
   refine wp_region_held_drew (S:=CellL [(⟨w.heap.size,0,X⟩,.string nm),(⟨w.heap.size,1,X⟩,Z a n c),(⟨w.heap.size,2,X⟩,Y O d),(⟨w.heap.size,3,X⟩,Y O de),(⟨w.heap.size,4,X⟩,Y O gx),(⟨w.heap.size,5,X⟩,Y O gz),(⟨w.heap.size,6,X⟩,Y O wy),(⟨w.heap.size,7,X⟩,Y O ax),(⟨w.heap.size,8,X⟩,Y O az),(⟨w.heap.size,9,X⟩,Y .u8 sk),(⟨w.heap.size+1,0,X⟩,.string aw),(⟨w.heap.size+1,1,X⟩,Z a' n' c'),(⟨w.heap.size+1,2,X⟩,Y O d'),(⟨w.heap.size+1,3,X⟩,Y O ap),(⟨w.heap.size+1,4,X⟩,Y O aq),(⟨w.heap.size+1,5,X⟩,Y O ar),(⟨w.heap.size+1,6,X⟩,Y O aA),(⟨w.heap.size+1,7,X⟩,Y O an),(⟨w.heap.size+1,8,X⟩,Y O ao),(⟨w.heap.size+1,9,X⟩,Y .u8 ay)]) kM cA (fun f=>?_);refine tk1 (i:=0) ?_;refine tk1 (i:=2) ?_;refine cl1 (i:=1) fun K g=>?_
   go_simp
   (with_reducible refine cM (z.out _ (X7.drew)) ?_)
   rintro e w8 ⟨v8,rfl,au,aa⟩;obtain⟨a8,n8,c8,rfl⟩:=au.form3
   go_wp2_with fail
   refine kO g (cE f aa) (fun f=>?_);clear g K;refine cl1 (i:=3) fun K g=>?_
   go_simp
   (with_reducible refine cM (aE.out w8 (X7.drew.trans aa)) ?_)
   rintro e w9 ⟨v9,rfl,av,ab⟩;obtain⟨a9,n9,c9,rfl⟩:=av.form3
   go_wp2_with fail
   refine kO g (cE f ab) (fun f=>?_);clear g K;refine cl1 (i:=4) fun K g=>?_
   go_simp
   (with_reducible refine cM (aS.out w9 _ _ (au.pr.ext' ab) av.pr B2.out) ?_)
   rintro e aW ⟨rfl,Q⟩;have aT:Ext w aW:=(X7.drew.trans aa).trans (ab.trans Q)
   go_wp2_with fail
   refine kO g (cE f Q) (fun f=>?_);clear g K;refine tk1 (i:=5) ?_;refine wpAnyH_done kM ?_ _;go_wp2;go_ret;exact⟨rfl,aT⟩
  | false =>
   rw [if_neg dM]at e1;subst e1;go_enter Tryz.func42,Tryz.ntmps42
   go_upto_region 7 with (first|(go_at_call 36;(with_reducible refine(y.out _ ?_).mono ?_);exact eA;rintro e w1 ⟨v1,rfl,h,D⟩;obtain⟨a1,n1,c1,rfl⟩:=h.form3;obtain⟨⟨aF,aJ⟩,ac,ad⟩:=cK2 w D;(have X1:Ext w w1:=eA))|(go_at_call 118;(with_reducible refine(ak.out w1 _ h.pr).mono ?_);rintro e w2 ⟨rfl,l⟩;obtain⟨⟨aG,aK⟩,ae,af⟩:=cK2 w l;(have X2:Ext w w2:=X1.trans l))|(go_at_call 36;(with_reducible refine(z.out w2 X2).mono ?_);rintro e w3 ⟨v3,rfl,j,m⟩;obtain⟨a3,n3,c3,rfl⟩:=j.form3;obtain⟨⟨aH,aL⟩,ag,ah⟩:=cK2 w m;(have X3:Ext w w3:=X2.trans m))|(go_at_call 118;(with_reducible refine(al.out w3 _ j.pr).mono ?_);rintro e w4 ⟨rfl,o⟩;obtain⟨⟨aI,aM⟩,ai,aj⟩:=cK2 w o;(have T:Ext w w4:=X3.trans o)))
   refine wp_region_held_drew (S:=CellL [(⟨w.heap.size,0,X⟩,.string nm),(⟨w.heap.size,1,X⟩,Z a n c),(⟨w.heap.size,2,X⟩,Y O d),(⟨w.heap.size,3,X⟩,Y O de),(⟨w.heap.size,4,X⟩,Y O gx),(⟨w.heap.size,5,X⟩,Y O gz),(⟨w.heap.size,6,X⟩,Y O wy),(⟨w.heap.size,7,X⟩,Y O ax),(⟨w.heap.size,8,X⟩,Y O az),(⟨w.heap.size,9,X⟩,Y .u8 sk),(⟨w.heap.size+1,0,X⟩,.string aw),(⟨w.heap.size+1,1,X⟩,Z a' n' c'),(⟨w.heap.size+1,2,X⟩,Y O d'),(⟨w.heap.size+1,3,X⟩,Y O ap),(⟨w.heap.size+1,4,X⟩,Y O aq),(⟨w.heap.size+1,5,X⟩,Y O ar),(⟨w.heap.size+1,6,X⟩,Y O aA),(⟨w.heap.size+1,7,X⟩,Y O an),(⟨w.heap.size+1,8,X⟩,Y O ao),(⟨w.heap.size+1,9,X⟩,Y .u8 ay)]) kM cA (fun f=>?_);refine tk1 (i:=0) ?_;refine tk1 (i:=2) ?_;refine cl1 (i:=1) fun K g=>?_
   go_simp
   (with_reducible refine cM (y.out _ (T.drew)) ?_)
   rintro e w5 ⟨v5,rfl,L,r⟩;obtain⟨a5,n5,c5,rfl⟩:=L.form3
   go_wp2_with fail
   refine kO g (cE f r) (fun f=>?_);clear g K;refine cl1 (i:=3) fun K g=>?_
   go_simp
   (with_reducible refine cM (am.out w5 (T.drew.trans r)) ?_)
   rintro e w6 ⟨v6,rfl,P,u⟩;obtain⟨a6,n6,c6,rfl⟩:=P.form3
   go_wp2_with fail
   refine kO g (cE f u) (fun f=>?_);clear g K;refine cl1 (i:=4) fun K g=>?_
   go_simp
   (with_reducible refine cM (aD.out w6 _ _ (L.pr.ext' u) P.pr B1.out) ?_)
   rintro e w7 ⟨rfl,x⟩;have X7:Ext w w7:=(T.drew.trans r).trans (u.trans x)
   go_wp2_with fail
   refine kO g (cE f x) (fun f=>?_);clear g K;refine tk1 (i:=5) ?_;refine wpAnyH_done kM ?_ _;have R:=r.trans (u.trans x);obtain⟨⟨aQ,aR⟩,aB,aC⟩:=cK2 w R
   go_upto_region 9 with fail
   refine wp_region_held_drew (S:=CellL [(⟨w.heap.size,0,X⟩,.string nm),(⟨w.heap.size,1,X⟩,Z a n c),(⟨w.heap.size,2,X⟩,Y O d),(⟨w.heap.size,3,X⟩,Y O de),(⟨w.heap.size,4,X⟩,Y O gx),(⟨w.heap.size,5,X⟩,Y O gz),(⟨w.heap.size,6,X⟩,Y O wy),(⟨w.heap.size,7,X⟩,Y O ax),(⟨w.heap.size,8,X⟩,Y O az),(⟨w.heap.size,9,X⟩,Y .u8 sk),(⟨w.heap.size+1,0,X⟩,.string aw),(⟨w.heap.size+1,1,X⟩,Z a' n' c'),(⟨w.heap.size+1,2,X⟩,Y O d'),(⟨w.heap.size+1,3,X⟩,Y O ap),(⟨w.heap.size+1,4,X⟩,Y O aq),(⟨w.heap.size+1,5,X⟩,Y O ar),(⟨w.heap.size+1,6,X⟩,Y O aA),(⟨w.heap.size+1,7,X⟩,Y O an),(⟨w.heap.size+1,8,X⟩,Y O ao),(⟨w.heap.size+1,9,X⟩,Y .u8 ay)]) kM cA (fun f=>?_);refine tk1 (i:=0) ?_;refine tk1 (i:=2) ?_;refine cl1 (i:=1) fun K g=>?_
   go_simp
   (with_reducible refine cM (z.out _ (X7.drew)) ?_)
   rintro e w8 ⟨v8,rfl,au,aa⟩;obtain⟨a8,n8,c8,rfl⟩:=au.form3
   go_wp2_with fail
   refine kO g (cE f aa) (fun f=>?_);clear g K;refine cl1 (i:=3) fun K g=>?_
   go_simp
   (with_reducible refine cM (aE.out w8 (X7.drew.trans aa)) ?_)
   rintro e w9 ⟨v9,rfl,av,ab⟩;obtain⟨a9,n9,c9,rfl⟩:=av.form3
   go_wp2_with fail
   refine kO g (cE f ab) (fun f=>?_);clear g K;refine cl1 (i:=4) fun K g=>?_
   go_simp
   (with_reducible refine cM (aS.out w9 _ _ (au.pr.ext' ab) av.pr B2.out) ?_)
   rintro e aW ⟨rfl,Q⟩;have aT:Ext w aW:=(X7.drew.trans aa).trans (ab.trans Q)
   go_wp2_with fail
   refine kO g (cE f Q) (fun f=>?_);clear g K;refine tk1 (i:=5) ?_;refine wpAnyH_done kM ?_ _;go_wp2;go_ret;exact⟨rfl,aT⟩
end
end Go.Proofs.YtjnjpagegkcgfaaGreatDoor.Cop
