/- Part 30: contracts of what the law calls. -/
import Derived.Test.YtodpfeaihohpjaaGreatDoorCopA28
import Derived.Laws.EntriesVeiled
set_option maxRecDepth 1000000
set_option maxHeartbeats 16000000
set_option linter.unusedSimpArgs false
set_option linter.unusedVariables false
open Go.Value renaming slice→O,int→Z,pointer→I,bool→J
open Option renaming none→Y,some→M
open Go.IntKind renaming i64→X
open Go renaming World→N,Value→C
open Go.Obj renaming cells→E
namespace Go.Proofs.YtodpfeaihohpjaaGreatDoor.Cop
section
open Go.RowKit Go.Shelf Go.Sort Go.Lib
attribute [local go_sem] Oper.semAt_some
def RetI5 (w:N) (p q:Pl) (e:Ending) (w':N):Prop:=∃v x z l,e = .returned (.tuple #[v,Z X 0])∧IsV w' v x z∧(∀y,y∈l ↔ y∈insN p q ((stopsR (insS p q)).length-1))∧x=(bestR (fun x=>botI p q x-topI p q x) l).1∧z=(topI p q x+botI p q x) / 2∧Rb 300 x∧Ext w w'
def SpR (a:N) (ps b:List (Int×Int)) (t9:C) (W:N):Prop:=∃b9 v1 v2 lo hi,t9=I (M ⟨b9,0,Y⟩)∧W.heap[b9]?=M (E #[v1,v2,Z X lo,Z X hi] 120 (0,0))∧IsPts W v1 ps∧IsPts W v2 b∧Ext a W∧a.heap.size≤b9
theorem zdh {W W':N} {v:C} {a:List (List (Int×Int))} (h:Sl 99 1 (PSl 99) W v a) (k:Ext W W'):Sl 99 1 (PSl 99) W' v a:=
 Sl.ext h (fun _ _ h=>by obtain⟨v,e,h⟩:=h;exact⟨v,e,h.ext' k⟩) k
theorem zls (w:N) (v1 v2:C) (p q:Pl) (h1:IsPts w v1 p.shape) (h2:IsPts w v2 q.shape) (k1:0≤p.skin) (k2:0≤q.skin) (cS:Gw w) (o:placedOk p=true∧placedOk q=true) (h5:relP p q=5) :
  Calls Tryz.prog 23 #[.agg (plc p v1),.agg (plc q v2)] w (RetI5 w p q):=by
 have HP:=hd9 (fun(W:N) (hW:Ext w W)=>zeb W v1 v2 p q (h1.ext' hW) (h2.ext' hW) k1 k2 (cS.ext hW) o.1 o.2);have HR:=hd9 (fun(W:N) (v1 v2:C) (h1:IsLa W v1 p) (h2:IsLa W v2 q)=>zbG W v1 v2 p q h1 h2 o.1 o.2);rw [h5]at HR;obtain⟨dI,dN,dK,rfl⟩:=form3 h1;obtain⟨dJ,dP,dL,rfl⟩:=form3 h2;obtain⟨R,hR⟩:=gX (RetI5 w p q);rw [hR];have HQ:=hd9 hR;have HB:=hd9 o;clear h1 h2 k1 k2 cS o hR h5;unfold plc at HP ⊢;go_enter Tryz.func23,Tryz.ntmps23
 go_upto_region 6 with (first|(go_at_call 41;(with_reducible refine(HP.out _ ?_).mono ?_);exact eA;rintro e w5 ⟨r1,r2,rfl,aA,aE,ae⟩;have aS:=hd9 aA;have aT:=hd9 aE;obtain⟨a1,n1,c1,a2,n2,c2,a3,n3,c3,rfl⟩:=aA.forms;obtain⟨b1,m1,d1,b2,m2,d2,b3,m3,d3,rfl⟩:=aE.forms;obtain⟨dj,dk⟩:=ae.cells;(have z5:=ae.size);(simp only [wZ]at z5);(have du:w.heap.size<w5.heap.size:=oM);(have dw:w.heap.size+1<w5.heap.size:=oM);(have da:w.heap.size+1+1<w5.heap.size:=oM))|(go_at_call 42;(with_reducible refine(HR.out _ _ _ (aA.ext ?_) (aE.ext ?_)).mono ?_);exact eA;exact eA;rintro e w6 ⟨rfl,bl⟩))
 have K5:w5.heap[w.heap.size+1+1]?=M (E #[O Y 0 0,J false,O Y 0 0,O Y 0 0,J false,O Y 0 0] 67 (0,0)):=by
  have:=ae.heapS (aN _ _)
  simpa using this
 have X5:Ext w w5:=eA;obtain⟨W1,a9⟩:=gX ((w5.alloc (E #[.string p.name,O a1 n1 c1,Z X p.depth,Z X p.density,Z X p.gx,Z X p.gz,Z X p.way,Z X p.ax,Z X p.az,Z .u8 p.skin,O a2 n2 c2,O a3 n3 c3] 101)).alloc (E #[.string q.name,O b1 m1 d1,Z X q.depth,Z X q.density,Z X q.gx,Z X q.gz,Z X q.way,Z X q.ax,Z X q.az,Z .u8 q.skin,O b2 m2 d2,O b3 m3 d3] 101));have cG:Ext w5 W1:=by rw [←a9];exact((eR _).alloc _).alloc _
 have K6:W1.heap[w5.heap.size]?=M (E #[.string p.name,O a1 n1 c1,Z X p.depth,Z X p.density,Z X p.gx,Z X p.gz,Z X p.way,Z X p.ax,Z X p.az,Z .u8 p.skin,O a2 n2 c2,O a3 n3 c3] 101 (0,0)):=by
  rw [←a9];exact((eR _).alloc _).heapS (aN w5 _)
 have K7:W1.heap[w5.heap.size+1]?=M (E #[.string q.name,O b1 m1 d1,Z X q.depth,Z X q.density,Z X q.gx,Z X q.gz,Z X q.way,Z X q.ax,Z X q.az,Z .u8 q.skin,O b2 m2 d2,O b3 m3 d3] 101 (0,0)):=by
  rw [←a9];exact qhA _ _ _ sM
 rw [a9]at bl;have aY:=cG.trans bl;have K4:=aY.heapS K5;have K6:=bl.heapS K6;have K7:=bl.heapS K7;obtain⟨s1,xl,xu,e1,-,aC,cf⟩:=aS.out.ext aY;obtain⟨s2,yl,yu,e2,-,aD,cg⟩:=aT.out.ext aY;unfold lac at e1 e2;simp only [Value.agg.injEq,Array.mk.injEq,List.cons.injEq,and_true,true_and]at e1 e2;obtain⟨-,rfl,rfl⟩:=e1;obtain⟨-,rfl,rfl⟩:=e2;have hw:InsW w6 w5.heap.size (w5.heap.size+1) p q:=⟨⟨_,_,qcB K6 (i:=10) rfl,qcB K6 (i:=11) rfl,aC,cf⟩,⟨_,_,qcB K7 (i:=10) rfl,qcB K7 (i:=11) rfl,aD,cg⟩⟩;have X6:=X5.trans aY;have z4:w.heap.size+1+1<w5.heap.size:=da;have aR:w.heap.size≤w.heap.size+1+1:=oM
 obtain⟨b4,di⟩:=gX (w.heap.size+1+1);obtain⟨b6,cN⟩:=gX w5.heap.size;simp only [di,cN]at *;clear a9 dj dk ae bl cG X5 aY K5 z5 du dw da HP HR aS aT aA aE cN
 have C6:CellL [(⟨b6,10,Y⟩,O a2 n2 c2),(⟨b6,11,Y⟩,O a3 n3 c3),(⟨b6+1,10,Y⟩,O b2 m2 d2),(⟨b6+1,11,Y⟩,O b3 m3 d3)] w6.drew:=
  ⟨qcB K6 (i:=10) rfl,qcB K6 (i:=11) rfl,qcB K7 (i:=10) rfl,qcB K7 (i:=11) rfl,trivial⟩
 have ht:∀{p:Pl},placedOk p=true→tot [lowP2 p,upP2 p]≤1000000000:=fun {p} h=>by
  have h1:=(zae h).1.2.2;have h2:=(zae h).2.2.2;simp only [tot,List.flatten_cons,List.flatten_nil,List.append_nil,lA];omega
 have ce:∀{p:Pl},placedOk p=true→0<(lowP2 p++upP2 p).length:=fun {p} h=>by
  have:=List.length_pos_iff.2 (zae h).1.1;rw [lA];omega
 have HC:=hd9 (And.intro (fun(W:N) (v:C) (h:Sl 99 1 (PSl 99) W v [lowP2 p,upP2 p])=>zdN W v _ h (ht HB.out.1)) (fun(W:N) (v:C) (h:Sl 99 1 (PSl 99) W v [lowP2 q,upP2 q])=>zdN W v _ h (ht HB.out.2)));have HL:=hd9 (And.intro (And.intro aC cf) (And.intro aD cg));have HK:=hd9 (And.intro K4 (And.intro K6 (And.intro K7 hw)));have cv:=hd9 X6;have D6:Ext w6 w6.drew:=(eR w6).drew;clear K4 K6 K7 hw aC cf aD cg X6 ht;have aK:=hd9 (fun(W:N) (v1 v2:C) (h1:IsPts W v1 (lowP2 p++upP2 p)) (h2:IsPts W v2 (lowP2 q++upP2 q))=>za3 W v1 v2 _ _ h1 h2 (ce HB.out.1) (ce HB.out.2));unfold RetBt spc at aK;obtain⟨lo,cU⟩:=gX ((btw (lowP2 p++upP2 p) (lowP2 q++upP2 q)).lo);obtain⟨hi,cT⟩:=gX ((btw (lowP2 p++upP2 p) (lowP2 q++upP2 q)).hi);rw [cU,cT]at aK;clear cU cT
 go_cut [9] (SpR w6 (lowP2 p++upP2 p) (lowP2 q++upP2 q))
 refine zbb [(16,9,E #[O Y 0 0,O Y 0 0,Z X 0,Z X 0] 120 (0,0))] _ 18 2 (fun i=>decide (16<i)) (fun i=>i==14 || i==15) kM kM kM sM kM (by intro x hx;simp only [List.mem_cons,List.not_mem_nil,or_false]at hx;rcases hx with rfl<;>exact⟨_,rfl,rfl,fun a W=>by go_simp⟩) (fun _ _ d _ _ h=>by cases d<;>exact h) C6 (fun D=>?_);refine tf1 (i:=0) ?_;refine tf1 (i:=1) ?_;refine tf1 (i:=2) ?_;refine tf1 (i:=3) ?_;refine tf1 (i:=6) ?_;refine tf1 (i:=7) ?_;refine tf1 (i:=8) ?_;refine tf1 (i:=9) ?_;refine cf2 (i:=4) (j:=10) (fun W4 bK aj s K m=>?_) (fun aW ao Q s K m=>?_)
 ·skip
  go_simp;refine kO m (.of aj ((eR _).alloc _)) (fun _ _=>?_);clear m K s;have S4:=zbH W4 rfl (HL.out.1.1.ext' (D6.trans aj)) (HL.out.1.2.ext' (D6.trans aj));refine cf2 (i:=5) (j:=10) (fun W5 ah av s K m=>?_) (fun aW ao Q s K m=>?_)
  ·skip
   go_simp
   (with_reducible refine cM (HC.out.1 _ _ (zdh S4 ah)) ?_)
   rintro e c0 ⟨x5,rfl,al,ae⟩;obtain⟨e1,f1,g1,rfl⟩:=al.form3
   go_wp2_with fail
   refine kO m (.of av ae) (fun _ _=>?_);clear m K s;refine cf1 (i:=10) fun aW ao Q s K m=>?_
   go_simp;refine kO m (.of Q ((eR _).alloc _)) (fun _ _=>?_);clear m K s;have aV:=zbH aW rfl (HL.out.2.1.ext' (D6.trans Q)) (HL.out.2.2.ext' (D6.trans Q));refine cf1 (i:=11) fun cz aa ab s K m=>?_
   go_simp
   (with_reducible refine cM (HC.out.2 _ _ (zdh aV aa)) ?_)
   rintro e am ⟨c9,rfl,ac,T⟩;obtain⟨e2,f2,g2,rfl⟩:=ac.form3
   go_wp2_with fail
   refine kO m (.of ab T) (fun _ _=>?_);clear m K s;have I1:IsPts am (O e1 f1 g1) (lowP2 p++upP2 p):=by have:=al.pts.ext' (((ao.trans ((eR _).alloc _)).trans aa).trans T);simpa using this
   have I2:IsPts am (O e2 f2 g2) (lowP2 q++upP2 q):=by have:=ac.pts;simpa using this
   have cC:Ext w6 am:=((eR w6).drew.trans ab).trans T;clear T al ac;refine cf1 (i:=12) fun cB n ai s K m=>?_
   go_simp
   (with_reducible refine cM (aK.out _ _ _ (I1.ext' n) (I2.ext' n)) ?_)
   rintro e bz ⟨rfl,P⟩
   go_wp2_with fail
   refine kO m (.of ai P) (fun _ _=>?_);clear m K s;refine tf1 (i:=13) ?_;refine tf1 (i:=14) ?_;refine tf1 (i:=15) ?_;refine df kM (fun V ag au=>?_);intro r q9 y9 _ _;have kf:=qfB q9;have g0:=qcB q9 (i:=0) (u:=O Y 0 0) rfl;have g1:=qcB q9 (i:=1) (u:=O Y 0 0) rfl;have g2:=qcB q9 (i:=2) (u:=Z X 0) rfl;have g3:=qcB q9 (i:=3) (u:=Z X 0) rfl;have I1:=I1.ext' ((n.trans P).trans ag);have I2:=I2.ext' ((n.trans P).trans ag);clear P ag n;refine cl1 (i:=17) fun K m=>?_
   go_simp;refine kO m (cE D (by(repeat refine Ext.set ?_ (by exact y9) _);exact au)) (fun a0=>?_);clear m K;refine tk1 (i:=18) ?_;refine wpAnyH_done kM ?_ _;clear g0 g1 g2 g3 kf a0;go_wp2;go_meet;have X9:Ext w6 V:=(eR w6).drew.trans au;have z9:w6.heap.size≤r:=by simpa only [qdZ] using y9
   have K9:=zac (zac (zac (zac q9 0 (O e1 f1 g1)) 1 (O e2 f2 g2)) 2 (Z X lo)) 3 (Z X hi);have kT:KeepT 33 V ((((V.setCell ⟨r,0,Y⟩ (O e1 f1 g1)).setCell ⟨r,1,Y⟩ (O e2 f2 g2)).setCell ⟨r,2,Y⟩ (Z X lo)).setCell ⟨r,3,Y⟩ (Z X hi)):=((((KeepT.refl _ _).set (p:=⟨r,0,Y⟩) q9 dM _).set (p:=⟨r,1,Y⟩) (zac q9 0 _) dM _).set (p:=⟨r,2,Y⟩) (zac (zac q9 0 _) 1 _) dM _).set (p:=⟨r,3,Y⟩) (zac (zac (zac q9 0 _) 1 _) 2 _) dM _;exact⟨r,O e1 f1 g1,O e2 f2 g2,lo,hi,rfl,K9,I1.keep' kT,I2.keep' kT,(((X9.set (p:=⟨r,0,Y⟩) z9 _).set (p:=⟨r,1,Y⟩) z9 _).set (p:=⟨r,2,Y⟩) z9 _).set (p:=⟨r,3,Y⟩) z9 _,z9⟩
  ·skip
   go_simp;refine kO m (.of Q ((eR _).alloc _)) (fun _ _=>?_);clear m K s;have aV:=zbH aW rfl (HL.out.2.1.ext' (D6.trans Q)) (HL.out.2.2.ext' (D6.trans Q));refine cf1 (i:=5) fun W5 ah av s K m=>?_
   go_simp
   (with_reducible refine cM (HC.out.1 _ _ (zdh S4 ((ao.trans ((eR _).alloc _)).trans ah))) ?_)
   rintro e c0 ⟨x5,rfl,al,ae⟩;obtain⟨e1,f1,g1,rfl⟩:=al.form3
   go_wp2_with fail
   refine kO m (.of av ae) (fun _ _=>?_);clear m K s;refine cf1 (i:=11) fun cz aa ab s K m=>?_
   go_simp
   (with_reducible refine cM (HC.out.2 _ _ (zdh aV ((ah.trans ae).trans aa))) ?_)
   rintro e am ⟨c9,rfl,ac,T⟩;obtain⟨e2,f2,g2,rfl⟩:=ac.form3
   go_wp2_with fail
   refine kO m (.of ab T) (fun _ _=>?_);clear m K s;have I1:IsPts am (O e1 f1 g1) (lowP2 p++upP2 p):=by have:=al.pts.ext' (aa.trans T);simpa using this
   have I2:IsPts am (O e2 f2 g2) (lowP2 q++upP2 q):=by have:=ac.pts;simpa using this
   have cC:Ext w6 am:=((eR w6).drew.trans ab).trans T;clear T al ac;refine cf1 (i:=12) fun cB n ai s K m=>?_
   go_simp
   (with_reducible refine cM (aK.out _ _ _ (I1.ext' n) (I2.ext' n)) ?_)
   rintro e bz ⟨rfl,P⟩
   go_wp2_with fail
   refine kO m (.of ai P) (fun _ _=>?_);clear m K s;refine tf1 (i:=13) ?_;refine tf1 (i:=14) ?_;refine tf1 (i:=15) ?_;refine df kM (fun V ag au=>?_);intro r q9 y9 _ _;have kf:=qfB q9;have g0:=qcB q9 (i:=0) (u:=O Y 0 0) rfl;have g1:=qcB q9 (i:=1) (u:=O Y 0 0) rfl;have g2:=qcB q9 (i:=2) (u:=Z X 0) rfl;have g3:=qcB q9 (i:=3) (u:=Z X 0) rfl;have I1:=I1.ext' ((n.trans P).trans ag);have I2:=I2.ext' ((n.trans P).trans ag);clear P ag n;refine cl1 (i:=17) fun K m=>?_
   go_simp;refine kO m (cE D (by(repeat refine Ext.set ?_ (by exact y9) _);exact au)) (fun a0=>?_);clear m K;refine tk1 (i:=18) ?_;refine wpAnyH_done kM ?_ _;clear g0 g1 g2 g3 kf a0;go_wp2;go_meet;have X9:Ext w6 V:=(eR w6).drew.trans au;have z9:w6.heap.size≤r:=by simpa only [qdZ] using y9
   have K9:=zac (zac (zac (zac q9 0 (O e1 f1 g1)) 1 (O e2 f2 g2)) 2 (Z X lo)) 3 (Z X hi);have kT:KeepT 33 V ((((V.setCell ⟨r,0,Y⟩ (O e1 f1 g1)).setCell ⟨r,1,Y⟩ (O e2 f2 g2)).setCell ⟨r,2,Y⟩ (Z X lo)).setCell ⟨r,3,Y⟩ (Z X hi)):=((((KeepT.refl _ _).set (p:=⟨r,0,Y⟩) q9 dM _).set (p:=⟨r,1,Y⟩) (zac q9 0 _) dM _).set (p:=⟨r,2,Y⟩) (zac (zac q9 0 _) 1 _) dM _).set (p:=⟨r,3,Y⟩) (zac (zac (zac q9 0 _) 1 _) 2 _) dM _;exact⟨r,O e1 f1 g1,O e2 f2 g2,lo,hi,rfl,K9,I1.keep' kT,I2.keep' kT,(((X9.set (p:=⟨r,0,Y⟩) z9 _).set (p:=⟨r,1,Y⟩) z9 _).set (p:=⟨r,2,Y⟩) z9 _).set (p:=⟨r,3,Y⟩) z9 _,z9⟩
 ·skip
  go_simp;refine kO m (.of Q ((eR _).alloc _)) (fun _ _=>?_);clear m K s;have aV:=zbH aW rfl (HL.out.2.1.ext' (D6.trans Q)) (HL.out.2.2.ext' (D6.trans Q));refine cf1 (i:=4) fun W4 bK aj s K m=>?_
  go_simp;refine kO m (.of aj ((eR _).alloc _)) (fun _ _=>?_);clear m K s;have S4:=zbH W4 rfl (HL.out.1.1.ext' (D6.trans aj)) (HL.out.1.2.ext' (D6.trans aj));refine cf1 (i:=5) fun W5 ah av s K m=>?_
  go_simp
  (with_reducible refine cM (HC.out.1 _ _ (zdh S4 ah)) ?_)
  rintro e c0 ⟨x5,rfl,al,ae⟩;obtain⟨e1,f1,g1,rfl⟩:=al.form3
  go_wp2_with fail
  refine kO m (.of av ae) (fun _ _=>?_);clear m K s;refine cf1 (i:=11) fun cz aa ab s K m=>?_
  go_simp
  (with_reducible refine cM (HC.out.2 _ _ (zdh aV ((((bK.trans ((eR _).alloc _)).trans ah).trans ae).trans aa))) ?_)
  rintro e am ⟨c9,rfl,ac,T⟩;obtain⟨e2,f2,g2,rfl⟩:=ac.form3
  go_wp2_with fail
  refine kO m (.of ab T) (fun _ _=>?_);clear m K s;have I1:IsPts am (O e1 f1 g1) (lowP2 p++upP2 p):=by have:=al.pts.ext' (aa.trans T);simpa using this
  have I2:IsPts am (O e2 f2 g2) (lowP2 q++upP2 q):=by have:=ac.pts;simpa using this
  have cC:Ext w6 am:=((eR w6).drew.trans ab).trans T;clear T al ac;refine cf1 (i:=12) fun cB n ai s K m=>?_
  go_simp
  (with_reducible refine cM (aK.out _ _ _ (I1.ext' n) (I2.ext' n)) ?_)
  rintro e bz ⟨rfl,P⟩
  go_wp2_with fail
  refine kO m (.of ai P) (fun _ _=>?_);clear m K s;refine tf1 (i:=13) ?_;refine tf1 (i:=14) ?_;refine tf1 (i:=15) ?_;refine df kM (fun V ag au=>?_);intro r q9 y9 _ _;have kf:=qfB q9;have g0:=qcB q9 (i:=0) (u:=O Y 0 0) rfl;have g1:=qcB q9 (i:=1) (u:=O Y 0 0) rfl;have g2:=qcB q9 (i:=2) (u:=Z X 0) rfl;have g3:=qcB q9 (i:=3) (u:=Z X 0) rfl;have I1:=I1.ext' ((n.trans P).trans ag);have I2:=I2.ext' ((n.trans P).trans ag);clear P ag n;refine cl1 (i:=17) fun K m=>?_
  go_simp;refine kO m (cE D (by(repeat refine Ext.set ?_ (by exact y9) _);exact au)) (fun a0=>?_);clear m K;refine tk1 (i:=18) ?_;refine wpAnyH_done kM ?_ _;clear g0 g1 g2 g3 kf a0;go_wp2;go_meet;have X9:Ext w6 V:=(eR w6).drew.trans au;have z9:w6.heap.size≤r:=by simpa only [qdZ] using y9
  have K9:=zac (zac (zac (zac q9 0 (O e1 f1 g1)) 1 (O e2 f2 g2)) 2 (Z X lo)) 3 (Z X hi);have kT:KeepT 33 V ((((V.setCell ⟨r,0,Y⟩ (O e1 f1 g1)).setCell ⟨r,1,Y⟩ (O e2 f2 g2)).setCell ⟨r,2,Y⟩ (Z X lo)).setCell ⟨r,3,Y⟩ (Z X hi)):=((((KeepT.refl _ _).set (p:=⟨r,0,Y⟩) q9 dM _).set (p:=⟨r,1,Y⟩) (zac q9 0 _) dM _).set (p:=⟨r,2,Y⟩) (zac (zac q9 0 _) 1 _) dM _).set (p:=⟨r,3,Y⟩) (zac (zac (zac q9 0 _) 1 _) 2 _) dM _;exact⟨r,O e1 f1 g1,O e2 f2 g2,lo,hi,rfl,K9,I1.keep' kT,I2.keep' kT,(((X9.set (p:=⟨r,0,Y⟩) z9 _).set (p:=⟨r,1,Y⟩) z9 _).set (p:=⟨r,2,Y⟩) z9 _).set (p:=⟨r,3,Y⟩) z9 _,z9⟩
 case rest =>
  obtain⟨r,v1,v2,ds,dn,rfl,K9,I1,I2,an,ck⟩:=hcut;have bD:=hd9 an;have bZ:=HK;obtain⟨W7,rfl⟩:∃W,W=wc:=⟨_,rfl⟩;obtain⟨e1,f1,g1,rfl⟩:=form3 I1;obtain⟨e2,f2,g2,rfl⟩:=form3 I2;obtain⟨K4,K6,K7,hw⟩:=HK.out;have K4:=an.heapS K4;have K6:=an.heapS K6;have K7:=an.heapS K7;have cZ:=hw.ext an;have aC:=HL.out.1.1.ext' an;have aD:=HL.out.2.1.ext' an;have z9:=zaa K9
  have ci:r≠b6∧r≠b6+1:=by
   refine⟨fun e=>?_,fun e=>?_⟩
   ·rw [e,K6]at K9;cases K9
   ·rw [e,K7]at K9;cases K9
  have q1:=List.length_pos_iff.2 (zae HB.out.1).1.1;have q2:=List.length_pos_iff.2 (zae HB.out.2).1.1;have cr:=hd9 (fun(W:N) (hW:Ext W7 W)=>zbc W _ _ (aC.ext' hW) q1);have ct:=hd9 (fun(W:N) (hW:Ext W7 W)=>zbc W _ _ (aD.ext' hW) q2);have aS:=hd9 (fun(W:N) (hW:Ext W7 W)=>za1 W _ _ (aC.ext' hW) q1);have aT:=hd9 (fun(W:N) (hW:Ext W7 W)=>za1 W _ _ (aD.ext' hW) q2);have C7:CellL [(⟨b6,10,Y⟩,O a2 n2 c2),(⟨b6+1,10,Y⟩,O b2 m2 d2)] W7.drew:=⟨qcB K6 (i:=10) rfl,qcB K7 (i:=10) rfl,trivial⟩;have HI:=hd9 (And.intro I1 I2);have cq:=hd9 K9;have bX:=hd9 K4;have dy:=hd9 cZ;have dx:=hd9 (cv.out.trans an);clear K4 K6 K7 hw cZ aC aD I1 I2 q1 q2 HC aK an HK HL K9
  go_upto_region 7 with fail
  refine wp_region_held_drew (S:=CellL [(⟨b6,10,Y⟩,O a2 n2 c2),(⟨b6+1,10,Y⟩,O b2 m2 d2)]) kM (by exact C7) (fun D=>?_);refine tk1 (i:=0) ?_;refine tk1 (i:=1) ?_;refine tk1 (i:=3) ?_;refine tk1 (i:=4) ?_;refine tk1 (i:=7) ?_;refine tk1 (i:=8) ?_;refine tk1 (i:=10) ?_;refine tk1 (i:=11) ?_;have D7:Ext W7 W7.drew:=(eR W7).drew;refine cl1 (i:=2) fun K m=>?_
  go_simp
  (with_reducible refine cM (cr.out _ D7) ?_)
  rintro e w1 ⟨rfl,aQ⟩
  skip
  go_wp2_with fail
  refine kO m (cE D aQ) (fun D=>?_);clear m K;refine cl1 (i:=5) fun K m=>?_
  go_simp
  (with_reducible refine cM (ct.out _ (D7.trans aQ)) ?_)
  rintro e w2 ⟨rfl,bk⟩
  skip
  go_wp2_with fail
  refine kO m (cE D bk) (fun D=>?_);clear m K;refine tk1 (i:=6) ?_;refine tk1 (i:=14) ?_;refine cl1 (i:=9) fun K m=>?_
  go_simp
  (with_reducible refine cM (aS.out _ ((D7.trans aQ).trans bk)) ?_)
  rintro e w3 ⟨rfl,bw⟩
  skip
  go_wp2_with fail
  refine kO m (cE D bw) (fun D=>?_);clear m K;refine cl1 (i:=12) fun K m=>?_
  go_simp
  (with_reducible refine cM (aT.out _ (((D7.trans aQ).trans bk).trans bw)) ?_)
  rintro e w4 ⟨rfl,ch⟩
  skip
  go_wp2_with fail
  refine kO m (cE D ch) (fun D=>?_);clear m K;refine tk1 (i:=13) ?_;have aZ:=(((D7.trans aQ).trans bk).trans bw).trans ch;have K9:=aZ.heapS cq.out;have kf:=qfB K9;have de:=qcB K9 (i:=2) (u:=Z X ds) rfl;have dg:=qcB K9 (i:=3) (u:=Z X dn) rfl
  have ak:∀q∈[((⟨b6,10,Y⟩:Addr),Value.slice a2 n2 c2),(⟨b6+1,10,Y⟩,O b2 m2 d2)],r≠q.1.block:=by
   intro q hq;simp at hq
   rcases hq with rfl|rfl
   ·exact ci.1
   ·exact ci.2
  clear aQ bk bw ch;refine cl1 (i:=15) fun K m=>?_
  go_simp;refine kO m (CellL.set (by assumption) ak _) (fun D=>?_);clear m K;refine tk1 (i:=16) ?_;refine cl1 (i:=17) fun K m=>?_
  go_simp;refine kO m (CellL.set (by assumption) ak _) (fun D=>?_);clear m K;refine wpAnyH_done kM ?_ _;clear de dg kf ak cr ct aS aT C7 C6;have kT:KeepT 33 w4 ((w4.setCell ⟨r,2,Y⟩ (Z X (max (lineL (lowP2 p)) (lineL (lowP2 q))))).setCell ⟨r,3,Y⟩ (Z X (min (lineR (lowP2 p)) (lineR (lowP2 q))))):=((KeepT.refl _ _).set (p:=⟨r,2,Y⟩) K9 dM _).set (p:=⟨r,3,Y⟩) (zac K9 2 _) dM _;obtain⟨W8,aO⟩:=gX ((w4.setCell ⟨r,2,Y⟩ (Z X (max (lineL (lowP2 p)) (lineL (lowP2 q))))).setCell ⟨r,3,Y⟩ (Z X (min (lineR (lowP2 p)) (lineR (lowP2 q)))));have aU:W8.heap[r]?=M (E #[O e1 f1 g1,O e2 f2 g2,Z X (max (lineL (lowP2 p)) (lineL (lowP2 q))),Z X (min (lineR (lowP2 p)) (lineR (lowP2 q)))] 120 (0,0)):=by rw [←aO];exact zac (zac K9 2 _) 3 _
  have cH:Ext w6 W8:=by rw [←aO];exact((bD.out.trans aZ).set (p:=⟨r,2,Y⟩) ck _).set (p:=⟨r,3,Y⟩) ck _
  have I1:IsPts W8 (O e1 f1 g1) (lowP2 p++upP2 p):=by rw [←aO];exact(HI.out.1.ext' aZ).keep' kT
  have I2:IsPts W8 (O e2 f2 g2) (lowP2 q++upP2 q):=by rw [←aO];exact(HI.out.2.ext' aZ).keep' kT
  rw [aO]
  have HS:Hid (∀W:N,Ext W8 W→Calls Tryz.prog 71 #[.agg #[O e1 f1 g1,O e2 f2 g2,Z X (max (lineL (lowP2 p)) (lineL (lowP2 q))),Z X (min (lineR (lowP2 p)) (lineR (lowP2 q)))]] W (RetRs W (stopsR (insS p q)))):=
   hd9 (fun(W:N) (hW:Ext W8 W)=>zex W _ _ (insS p q) (show IsPts W (O e1 f1 g1) (insS p q).over from I1.ext' hW) (show IsPts W (O e2 f2 g2) (insS p q).under from I2.ext' hW) (zb0 HB.out.1 HB.out.2))
  have cw:=hd9 cH;clear kT aO aZ K9 HI cq bD cH ck I1 I2;have k0:=qcB aU (i:=0) rfl;have k1:=qcB aU (i:=1) rfl;have k2:=qcB aU (i:=2) rfl;have k3:=qcB aU (i:=3) rfl;clear aU ci D7 D6 ce
  go_upto_region 9 with (go_at_call 71;(with_reducible refine(HS.out _ (eR _)).mono ?_);rintro e aF ⟨dQ,rfl,ay,bQ⟩)
  have cV:=List.length_pos_iff.2 (zaw (insS p q));have dq:=zco (zb0 HB.out.1 HB.out.2);obtain⟨cs,bv,cO,cP⟩:=ay;obtain⟨ga,gn,gc,rfl⟩:=bv.form3;obtain⟨gs,rfl,dm,-⟩:=bv.blk oM;have ay:OwnR aF W8.heap.size (O (M ⟨gs,0,Y⟩) gn gc) (stopsR (insS p q)):=⟨cs,bv,cO,cP⟩;have bE:=hd9 ay;have co:=hd9 (zh2 aF _ _ _ ay cV oM);have aG:=hd9 (cw.out.trans bQ);clear k0 k1 k2 k3 bv cO cP ay bQ dm cV dq HS
  go_upto_region 10 with (go_at_call 72;(with_reducible refine co.out.mono ?_);rintro e bz ⟨dR,rfl,ba,P⟩;obtain⟨ta,tn,tc,rfl⟩:=form3 ba.rs)
  have bF:=hd9 ba;have bB:=hd9 P;have cK:=bZ.out;clear ba P co;go_wp2;refine zjz _ aF bz (I (M ⟨b4,0,Y⟩)) b6 (b6+1) gs gn gc p q _ (bE.out.rs) HB.out.1 HB.out.2 (cK.2.2.2.ext aG.out) bB.out bF.out _ ⟨rfl,rfl,rfl,rfl,rfl,rfl,rfl⟩ rfl (fun _ _ d _ _ h=>by cases d<;>exact h) (fun _ _ d _ _ h=>by cases d<;>exact h) (fun a' W v dD dl bs aP bx=>?_);obtain⟨ta,tn,tc,rfl⟩:=form3 aP.rs;obtain⟨tt,dd⟩:=a';obtain⟨f0,f4,f6,f7,br,bt,cQ⟩:=dl;dsimp only at bs f0 f4 f6 f7 br bt cQ;subst cQ;obtain⟨u,hu,ht⟩:=arrU tt 138 f0;simp only [hu]at bs f4 f6 f7 br bt;clear hu f0;subst ht;simp only [List.range,List.range.loop,List.map_cons,List.map_nil,bs,f4,f6,f7,br,bt];clear bs f4 f6 f7 br bt;have cW:0<(stopsR (insS p q)).length:=List.length_pos_iff.2 (zaw _);obtain⟨l,hl⟩:=gX (insN p q ((stopsR (insS p q)).length-1));obtain⟨bu,cL⟩:=zgF HB.out.1 HB.out.2 ((stopsR (insS p q)).length-1) oM;have dh:=zco (zb0 HB.out.1 HB.out.2)
  have cd:l≠[]:=by
   rw [←hl];intro e;obtain⟨z,hz⟩:=List.exists_mem_of_length_pos cW;obtain⟨y,hy,rfl⟩:=List.mem_map.1 (show z∈(stopsZ (insS p q)).map (fun x=>((x:Int):Rat))from hz);have:=zcM (p:=p) (q:=q) (List.mem_map_of_mem (f:=fun x:Int=>(x:Rat)) hy) ((stopsR (insS p q)).length-1);rw [e]at this
   cases this
  have Hl:=hd9 hl;rw [hl]at aP bu cL
  obtain⟨tb,rfl⟩:∃tb,ta=M ⟨tb,0,Y⟩:=by
   obtain⟨cs,k1,k2,k3⟩:=aP;obtain⟨g,rfl,_⟩:=k1.blk (by have:=List.length_pos_iff.2 cd;omega);exact⟨g,rfl⟩
  have HS:=hd9 (zkA W aF.heap.size tb tn tc l aP (fun c hc=>zaf (bu c hc) dM) oM);have Hb:=hd9 (And.intro cd bu);have db:=hd9 (aG.out.trans bx);have bY:=hd9 (bZ.out)
  have cY:aF.heap.size≤tb∧tb<W.heap.size:=by
   obtain⟨cs,k1,k2,k3⟩:=aP;exact k1.lt tb rfl
  clear cW bu cL dh cd hl aP;unfold RetSR at HS
  go_upto_region 21 with (go_at_call 74;(with_reducible refine HS.out.mono ?_);rintro e bm ⟨rfl,ls,bb,bM,cR,dp⟩)
  have cD:Ext aF bm:=bx.thenB (zah (base:=aF.heap.size) cR bx.size (fun k hk=>by cases hk;exact cY.1)) (nE _);have X6:=aG.out.trans cD;have cc:=X6.heapS bY.out.1;have bO:=bY.out.2.2.2.ext X6;have bC:=hd9 X6;have bG:=hd9 bM;have aB:=hd9 bb;clear cD X6 bM cR dp bx bb aG db bB bF bE cw cY bZ cK bY
  go_upto_region 23 with fail
  obtain⟨ad,aw⟩:=gX bm.heap.size;obtain⟨bq,ar⟩:=gX ((bm.alloc (E #[.func (.func 75) #[] #[I (M ⟨b6,0,Y⟩),I (M ⟨b6+1,0,Y⟩)]] 74)).alloc (E #[.func (.func 76) #[] #[I (M ⟨b6,0,Y⟩),I (M ⟨b6+1,0,Y⟩)]] 74));rw [ar,aw];have aX:Ext bm bq:=by rw [←ar];exact((eR _).alloc _).alloc _
  have b0:bq.heap[ad]?=M (E #[fTop b6 (b6+1)] 74 (0,0)):=by rw [←ar,←aw];exact((eR _).alloc _).heapS (aN bm _)
  have bo:bq.heap[ad+1]?=M (E #[fBot b6 (b6+1)] 74 (0,0)):=by rw [←ar];exact qhA _ _ _ (by simp [aw])
  have cI:=qcB b0 (i:=0) rfl;have cJ:=qcB bo (i:=0) rfl;have bP:=bO.ext aX;have K4:=aX.heapS cc;have n4:b4<ad:=by rw [←aw];exact zaa cc
  have X6:=bC.out.trans aX;have Hx:=hd9 X6;have hm:∀y,y∈ls→y∈l:=fun y hy=>aB.out.mem_iff.1 hy
  have bL:ls≠[]:=by
   intro e;have:=aB.out;rw [e]at this;exact Hb.out.1 this.symm.eq_nil
  have bg:∀y∈ls,Rb 300 y:=fun y hy=>Hb.out.2 y (hm y hy)
  have HF:=hd9 (And.intro cI (And.intro cJ bP))
  have bn:=hd9 (zk4 bq (O (M ⟨tb,0,Y⟩) tn tc) (fun x=>botI p q x-topI p q x) ls (ad+1) ad ((bG.out.ext aX).rs)
   (fun W hW vx x hx dr=>zmY W vx p q x b6 (b6+1) (ad+1) ad (HF.out.2.2.ext hW) HB.out.1 HB.out.2 (hW.cellS HF.out.2.1) (hW.cellS HF.out.1) hx (bg x dr))
   (fun y hy=>zaf (Rb.sub (zdH HB.out.1 HB.out.2 (bg y hy)) (zez HB.out.1 HB.out.2 (bg y hy))) dM))
  obtain⟨x,hx⟩:=gX ((bestR (fun x=>botI p q x-topI p q x) ls).1);obtain⟨g,hg⟩:=gX ((bestR (fun x=>botI p q x-topI p q x) ls).2);have cX:Rb 300 x:=by rw [←hx];exact bg _ (zav _ bL).1
  rw [hx,hg]at bn;have aL:=hd9 (And.intro hx cX);have Hm:=hd9 (fun y=>(aB.out.mem_iff (a:=y)).trans (by rw [←Hl.out]));clear ar aw aX cc bO bP hm bL bg hx hg cX X6 bC bG;unfold RetR2 at bn
  go_upto_region 24 with (go_at_call 77;(with_reducible refine bn.out.mono ?_);rintro e bA ⟨v1,v2,rfl,aA,aE,bi⟩;obtain⟨a3,m3,c3,s3,d3,n3,k3,rfl⟩:=aA.form;obtain⟨a4,m4,c4,s4,d4,dt,k4,rfl⟩:=aE.form)
  obtain⟨af,aI⟩:=gX bA.heap.size;obtain⟨aq,aH⟩:=gX ((bA.alloc (E #[O a3 m3 c3,J s3,O d3 n3 k3] 65)).alloc (E #[O a4 m4 c4,J s4,O d4 dt k4] 65));rw [aH,aI];have cb:Ext bA aq:=by rw [←aH];exact((eR _).alloc _).alloc _
  have bp:aq.heap[af]?=M (E #[O a3 m3 c3,J s3,O d3 n3 k3] 65 (0,0)):=by rw [←aH,←aI];exact((eR _).alloc _).heapS (aN bA _)
  have dC:ad+1<af:=by rw [←aI];exact Nat.lt_of_lt_of_le (zaa bo) bi.size
  have aM:=bi.trans cb;have bh:=HF.out.2.2.ext aM;have bH:=aM.heapS b0;have bI:=aM.heapS bo;have cy:=aM.heapS K4;have aJ:=aA.ext cb;have cu:=hd9 (Hx.out.trans aM)
  have cl:CellL [(⟨af,0,Y⟩,O a3 m3 c3),(⟨af,1,Y⟩,J s3),(⟨af,2,Y⟩,O d3 n3 k3),(⟨ad,0,Y⟩,.func (.func 75) #[] #[I (M ⟨b6,0,Y⟩),I (M ⟨b6+1,0,Y⟩)]),(⟨ad+1,0,Y⟩,.func (.func 76) #[] #[I (M ⟨b6,0,Y⟩),I (M ⟨b6+1,0,Y⟩)])] aq.drew:=
   ⟨qcB bp (i:=0) rfl,qcB bp (i:=1) rfl,qcB bp (i:=2) rfl,qcB bH (i:=0) rfl,qcB bI (i:=0) rfl,trivial⟩
  have HT:=hd9 (fun(W:N) (hW:Ext aq W)=>zho W _ p q x b6 (b6+1) (bh.ext hW) HB.out.1 HB.out.2 (aJ.ext hW) aL.out.2);have bW:=hd9 (fun(W:N) (hW:Ext aq W)=>zhn W _ p q x b6 (b6+1) (bh.ext hW) HB.out.1 HB.out.2 (aJ.ext hW) aL.out.2);have rt:=zez HB.out.1 HB.out.2 aL.out.2;have rb:=zdH HB.out.1 HB.out.2 aL.out.2;obtain⟨t,ht⟩:=gX (topI p q x);obtain⟨b,hb⟩:=gX (botI p q x);rw [ht]at HT rt;rw [hb]at bW rb;have cn:=hd9 (fun(W:N) (va vb:C) (h1:IsR W va t) (h2:IsR W vb b)=>zaZ W va vb t b h1 h2 (zaf rt dM) (zaf rb dM));have cp:=hd9 (fun(W:N) (va:C) (h1:IsR W va (t+b))=>zkf W va _ h1 ((Rb.add rt rb).up dM));have cx:=hd9 (And.intro ht hb);have Hr:=hd9 aJ;have bX:=hd9 cy;clear aH aI cb aM bp bH bI b0 bo K4 cy bh aA aE aJ ht hb rt rb bi bn cI cJ Hx;refine wp_region_held_drew (S:=CellL [(⟨af,0,Y⟩,O a3 m3 c3),(⟨af,1,Y⟩,J s3),(⟨af,2,Y⟩,O d3 n3 k3),(⟨ad,0,Y⟩,.func (.func 75) #[] #[I (M ⟨b6,0,Y⟩),I (M ⟨b6+1,0,Y⟩)]),(⟨ad+1,0,Y⟩,.func (.func 76) #[] #[I (M ⟨b6,0,Y⟩),I (M ⟨b6+1,0,Y⟩)])]) kM (by exact cl) (fun D=>?_);refine sN 0 ?_
  iterate 3
   refine tkn ?_
  refine oN ?_;refine sN 4 ?_
  iterate 2
   refine tkn ?_
  refine oN ?_;have cm:Ext aq aq.drew:=(eR aq).drew;refine cl1 (i:=3) fun K m=>?_
  go_simp
  (with_reducible refine cM (HT.out _ cm) ?_)
  rintro e dS ⟨dE,rfl,bc,bT⟩;obtain⟨a5,m5,c5,s5,b5,n5,k5,rfl⟩:=bc.form
  go_wp2_with fail
  refine kO m (cE D bT) (fun D=>?_);clear m K;have cF:=cm.trans bT;refine cl1 (i:=6) fun K m=>?_
  go_simp
  (with_reducible refine cM (bW.out _ cF) ?_)
  rintro e dU ⟨dF,rfl,bd,bj⟩;obtain⟨a6,m6,c6,s6,dB,n6,k6,rfl⟩:=bd.form
  go_wp2_with fail
  refine kO m (cE D bj) (fun D=>?_);clear m K;have dc:=cF.trans bj;refine cl1 (i:=7) fun K m=>?_
  go_simp
  (with_reducible refine cM (cn.out _ _ _ (bc.ext bj) bd) ?_)
  rintro e dV ⟨dG,rfl,be,bU⟩;obtain⟨a7,m7,c7,s7,b7,n7,k7,rfl⟩:=be.form
  go_wp2_with fail
  refine kO m (cE D bU) (fun D=>?_);clear m K;refine cl1 (i:=8) fun K m=>?_
  go_simp
  (with_reducible refine cM (cp.out _ _ be) ?_)
  rintro e cj ⟨dH,rfl,bf,bV⟩;obtain⟨a8,m8,c8,s8,b8,n8,k8,rfl⟩:=bf.form
  go_wp2_with fail
  refine kO m (cE D bV) (fun D=>?_);clear m K;refine tk1 (i:=9) ?_;have ca:=(dc.trans bU).trans bV;have K4:=ca.heapS bX.out;have bN:=Hr.out.ext ca;have g0:=qcB K4 (i:=0) (u:=O Y 0 0) rfl;have g1:=qcB K4 (i:=1) (u:=J false) rfl;have g2:=qcB K4 (i:=2) (u:=O Y 0 0) rfl;have g3:=qcB K4 (i:=3) (u:=O Y 0 0) rfl;have g4:=qcB K4 (i:=4) (u:=J false) rfl;have g5:=qcB K4 (i:=5) (u:=O Y 0 0) rfl;have kf:=qfB K4
  have ak:∀q∈[((⟨af,0,Y⟩:Addr),(O a3 m3 c3:C)),(⟨af,1,Y⟩,J s3),(⟨af,2,Y⟩,O d3 n3 k3),(⟨ad,0,Y⟩,.func (.func 75) #[] #[I (M ⟨b6,0,Y⟩),I (M ⟨b6+1,0,Y⟩)]),(⟨ad+1,0,Y⟩,.func (.func 76) #[] #[I (M ⟨b6,0,Y⟩),I (M ⟨b6+1,0,Y⟩)])],b4≠q.1.block:=by
   intro q hq;simp at hq
   rcases hq with rfl|rfl|rfl|rfl|rfl<;>(dsimp only;omega)
  refine cl1 (i:=10) fun K m=>?_
  go_simp;refine kO m (CellL.set (CellL.set (CellL.set (CellL.set (CellL.set (CellL.set D ak _) ak _) ak _) ak _) ak _) ak _) (fun D=>?_);clear m K;refine tk1 (i:=11) ?_;refine wpAnyH_done kM ?_ _;clear g0 g1 g2 g3 g4 g5 kf ak cl HT bW cn cp;go_wp2
  have kT:KeepT 2 cj ((((((cj.setCell ⟨b4,0,Y⟩ (O a3 m3 c3)).setCell ⟨b4,1,Y⟩ (J s3)).setCell ⟨b4,2,Y⟩ (O d3 n3 k3)).setCell ⟨b4,3,Y⟩ (O a8 m8 c8)).setCell ⟨b4,4,Y⟩ (J s8)).setCell ⟨b4,5,Y⟩ (O b8 n8 k8)):=
   ((((((KeepT.refl _ _).set (p:=⟨b4,0,Y⟩) K4 dM _).set (p:=⟨b4,1,Y⟩) (zac K4 0 _) dM _).set (p:=⟨b4,2,Y⟩) (zac (zac K4 0 _) 1 _) dM _).set (p:=⟨b4,3,Y⟩) (zac (zac (zac K4 0 _) 1 _) 2 _) dM _).set (p:=⟨b4,4,Y⟩) (zac (zac (zac (zac K4 0 _) 1 _) 2 _) 3 _) dM _).set (p:=⟨b4,5,Y⟩) (zac (zac (zac (zac (zac K4 0 _) 1 _) 2 _) 3 _) 4 _) dM _
  have ap:=zac (zac (zac (zac (zac (zac K4 0 (O a3 m3 c3)) 1 (J s3)) 2 (O d3 n3 k3)) 3 (O a8 m8 c8)) 4 (J s8)) 5 (O b8 n8 k8);have X9:=cv.out.trans (cu.out.trans ca);have XF:=(((((X9.set (p:=⟨b4,0,Y⟩) aR (O a3 m3 c3)).set (p:=⟨b4,1,Y⟩) aR (J s3)).set (p:=⟨b4,2,Y⟩) aR (O d3 n3 k3)).set (p:=⟨b4,3,Y⟩) aR (O a8 m8 c8)).set (p:=⟨b4,4,Y⟩) aR (J s8)).set (p:=⟨b4,5,Y⟩) aR (O b8 n8 k8);obtain⟨dz,bJ⟩:=gX ((((((cj.setCell ⟨b4,0,Y⟩ (O a3 m3 c3)).setCell ⟨b4,1,Y⟩ (J s3)).setCell ⟨b4,2,Y⟩ (O d3 n3 k3)).setCell ⟨b4,3,Y⟩ (O a8 m8 c8)).setCell ⟨b4,4,Y⟩ (J s8)).setCell ⟨b4,5,Y⟩ (O b8 n8 k8));rw [bJ]at kT ap XF ⊢;have w0:=qcB ap (i:=0) (u:=O a3 m3 c3) rfl;have w1:=qcB ap (i:=1) (u:=J s3) rfl;have w2:=qcB ap (i:=2) (u:=O d3 n3 k3) rfl;have w3:=qcB ap (i:=3) (u:=O a8 m8 c8) rfl;have w4:=qcB ap (i:=4) (u:=J s8) rfl;have w5:=qcB ap (i:=5) (u:=O b8 n8 k8) rfl;have q1:=bN.keep kT;have q2:=bf.keep kT;clear D bJ kT X9 bN be bd bc bf K4 ap bX;refine bR (v:=.tuple #[.agg #[O a3 m3 c3,J s3,O d3 n3 k3,O a8 m8 c8,J s8,O b8 n8 k8],Z X 0]) (by simp [results,Tryz.results23,go_sem,w0,w1,w2,w3,w4,w5]) rfl ?_;rw [←HQ.out];exact⟨_,x,_,ls,rfl,⟨_,_,_,_,_,_,_,_,_,_,_,_,_,_,rfl,q1,q2⟩,Hm.out,aL.out.1.symm,by rw [cx.out.1,cx.out.2],aL.out.2,XF⟩
end
end Go.Proofs.YtodpfeaihohpjaaGreatDoor.Cop
