/- Part 24: contracts of what the law calls. -/
import Derived.Test.YtjnjpagegkcgfaaGreatDoorCopA21
import Derived.Test.YtjnjpagegkcgfaaGreatDoorCopA22
import Derived.Test.YtjnjpagegkcgfaaGreatDoorCopA07
set_option maxRecDepth 1000000
set_option maxHeartbeats 16000000
set_option linter.unusedSimpArgs false
set_option linter.unusedVariables false
open Go.Value renaming slice→O,int→Z,agg→J,bool→C
open Option renaming none→Y,some→M
open Go.IntKind renaming i64→X
open Go renaming World→V,Value→I
open Go.Obj renaming cells→N
namespace Go.Proofs.YtjnjpagegkcgfaaGreatDoor.Cop
section
open Go.RowKit Go.Shelf
attribute [local go_sem] Oper.semAt_some
theorem zdM {x y:Int} (d:0≤x) (e:0<y):Int.gcd y (x % y)=Int.gcd x y:=by
 obtain⟨a,rfl⟩:=Int.eq_ofNat_of_zero_le d;obtain⟨b,rfl⟩:=Int.eq_ofNat_of_zero_le (Int.le_of_lt e);rw [←Int.natCast_emod,Int.gcd_natCast_natCast,Int.gcd_natCast_natCast,Nat.gcd_comm b,←Nat.gcd_rec,Nat.gcd_comm]
theorem zfC {x:Int} (b:0≤x):(Int.gcd x 0:Int)=x:=by rw [Int.gcd_zero_right];omega
theorem zlt (x y:Int):Int.gcd (x.natAbs:Int) (y.natAbs:Int)=Int.gcd x y:=by simp [Int.gcd]
def GcS (w:V) (G:Nat) (g:Nat) (W:V):Prop:=
 ∃x y:Int,0≤x∧0≤y∧Int.gcd x y=G∧g=y.toNat∧Lm limE x∧Lm limE y∧Ext w W∧NB W w.heap.size x∧NB W (w.heap.size+1) y ∧
  W.heap[w.heap.size+1+1]?=M (N #[Z X 0,O Y 0 0] 66 (0,0))
theorem GcS.ext {w W W':V} {G g:Nat} (h:GcS w G g W) (k:Ext W W'):GcS w G g W':=by
 obtain⟨x,y,d,e,f,i,j,h6,l,n,o,b⟩:=h;exact⟨x,y,d,e,f,i,j,h6,l.trans k,n.ext k,o.ext k,k.heapS b⟩
def VgS (d:V) (G:Nat) (t5 b:I) (W:V):Prop:=
 ∃u v:Int,t5=Z X u∧b=Z X v∧0≤u∧0≤v∧u≤10000000000000000∧v≤10000000000000000∧Int.gcd u v=G∧Ext d W
theorem zlw (w:V) (va vb:I) (na nb:Int) (ha:IsN w va na) (hb:IsN w vb nb) (av:Lm limE na) (aw:Lm limE nb) :
  Calls Tryz.prog 194 #[va,vb] w (RetN w (Int.gcd na nb:Int)):=by
 obtain⟨s,a,m,c,rfl,hs⟩:=ha.form2;obtain⟨s',a',m',c',rfl,aJ⟩:=hb.form2;obtain⟨G,hG⟩:=gX (Int.gcd na nb);rw [hG];have HG:=hd9 hG;have aE:=hd9 av;have aF:=hd9 aw;clear hs aJ hG av aw;go_enter Tryz.func194,Tryz.ntmps194;go_wp2;obtain⟨W0,d⟩:=gX (((w.alloc (N #[Z X s,O a m c] 66)).alloc (N #[Z X s',O a' m' c'] 66)).alloc (N #[Z X 0,O Y 0 0] 66));have X0:Ext w W0:=by rw [←d];exact(((eR w).alloc _).alloc _).alloc _
 have aB:NB W0 w.heap.size na:=by rw [←d];exact(NB.new (W0:=w) ha rfl).ext (((eR _).alloc _).alloc _)
 have aC:NB W0 (w.heap.size+1) nb:=by rw [←d];exact(NB.new (W0:=w.alloc (N #[Z X s,O a m c] 66)) (hb.ext ((eR _).alloc _)) sM).ext ((eR _).alloc _)
 have aj:W0.heap[w.heap.size+1+1]?=M (N #[Z X 0,O Y 0 0] 66 (0,0)):=by rw [←d];exact qhA _ _ _ sM
 have p0:W0.cell? ⟨w.heap.size,0,Y⟩=M (Z X s):=by rw [←d];clear d;go_simp
 have p1:W0.cell? ⟨w.heap.size,1,Y⟩=M (O a m c):=by rw [←d];clear d;go_simp
 have q0:W0.cell? ⟨w.heap.size+1,0,Y⟩=M (Z X s'):=by rw [←d];clear d;go_simp
 have q1:W0.cell? ⟨w.heap.size+1,1,Y⟩=M (O a' m' c'):=by rw [←d];clear d;go_simp
 have f0:W0.frozen? ⟨w.heap.size,0,Y⟩=false:=by rw [←d];clear d;go_simp
 have f1:W0.frozen? ⟨w.heap.size,1,Y⟩=false:=by rw [←d];clear d;go_simp
 have f2:W0.frozen? ⟨w.heap.size+1,0,Y⟩=false:=by rw [←d];clear d;go_simp
 have f3:W0.frozen? ⟨w.heap.size+1,1,Y⟩=false:=by rw [←d];clear d;go_simp
 have z0:=zaa aj;have z1:w.heap.size<W0.heap.size:=oM
 have z2:w.heap.size+1<W0.heap.size:=oM
 rw [d];clear d;refine zae (fun i=>decide (3<i)) (CellL [(⟨w.heap.size,0,Y⟩,Z X s),(⟨w.heap.size,1,Y⟩,O a m c),(⟨w.heap.size+1,0,Y⟩,Z X s'),(⟨w.heap.size+1,1,Y⟩,O a' m' c')]) kM ?_ (fun f=>?_)
 ·exact cA
 refine tu1 (i:=0) ?_;refine tu1 (i:=2) ?_;refine cu1 (i:=1) fun K k=>?_
 go_simp
 (with_reducible refine cM (zha _ (J #[Z X s,O a m c]) na (ha.ext X0.drew)) ?_)
 rintro e w1 ⟨r1,rfl,o,R⟩;obtain⟨s1,a1,m1,c1,rfl,-⟩:=o.form2
 go_wp2_with fail
 refine kO k (fun _=>cE f R) (fun f=>?_);clear k K
 replace f:=f rfl
 refine cu1 (i:=3) fun K k=>?_
 go_simp
 (with_reducible refine cM (zha _ (J #[Z X s',O a' m' c']) nb (hb.ext (X0.drew.trans R))) ?_)
 rintro e w2 ⟨r2,rfl,n,ac⟩;obtain⟨s2,a2,m2,c2,rfl,-⟩:=n.form2
 go_wp2_with fail
 refine kO k (fun _=>cE f ac) (fun f=>?_);clear k K
 replace f:=f rfl
 have X2:Ext W0 w2:=(eR W0).drew.trans (R.trans ac);have y1:w.heap.size<w2.heap.size:=X2.lt z1;have y2:w.heap.size+1<w2.heap.size:=X2.lt z2;obtain⟨aG,aH⟩:=X2.cells;refine cu1 (i:=4) fun K k=>?_
 go_simp;refine kO k (fun h=>nomatch h) (fun f=>?_);clear k K;refine cu1 (i:=5) fun K k=>?_
 go_simp;refine kO k (fun h=>nomatch h) (fun f=>?_);clear k K;refine doneHU kM ?_ _;have L:=aB.ext X2;have ae:=aC.ext X2;have aD:=X2.heapS aj;have ap:=X0.trans X2;go_wp2
 go_loopg [7] ((nb.natAbs:Int).toNat) (fun g _ W=>GcS w G g W)
 case atStart =>
  refine⟨(na.natAbs:Int),(nb.natAbs:Int),by omega,by omega,by rw [zlt,HG.out],rfl,aE.out.abs,aF.out.abs,?_,?_,?_,?_⟩
  ·exact(((ap.set (p:=⟨w.heap.size,0,Y⟩) sM _).set (p:=⟨w.heap.size,1,Y⟩) sM _).set (p:=⟨w.heap.size+1,0,Y⟩) sM _).set (p:=⟨w.heap.size+1,1,Y⟩) sM _
  ·exact((L.put (o.ext ac)).other (p:=⟨w.heap.size+1,0,Y⟩) sM ((ae.not.set _ _).set _ _) _).other (p:=⟨w.heap.size+1,1,Y⟩) sM (((ae.not.set _ _).set _ _).set _ _) _
  ·exact((ae.other (p:=⟨w.heap.size,0,Y⟩) sM L.not _).other (p:=⟨w.heap.size,1,Y⟩) sM (L.not.set _ _) _).put (n.keep (((KeepT.refl _ w2).setN L.not _).setN (L.not.set _ _) _))
  ·rw [bS _ _ _ _ sM,bS _ _ _ _ sM,bS _ _ _ _ dO,bS _ _ _ _ dO]
   exact aD
 case round =>
  clear L ae aD ap aG aH X2 y1 y2 o n R ac aB aC aj p0 p1 q0 q1 f0 f1 f2 f3 z0 z1 z2 X0 f HG;obtain⟨x,y,ab,aL,hG,rfl,aq,ar,hx,ah,ai,l⟩:=hrel;have HG:=hd9 hG;have al:=hd9 aq;have z:=hd9 ar;have am:=hd9 ah;have an:=hd9 ai;obtain⟨sx,ax,mx,cx,aK,x0,x1,a3,a4,x2,T⟩:=ah.rd;obtain⟨sy,ay,my,cy,aa,y0,y1,a6,a7,y2,D⟩:=ai.rd;have r0:=qcB l (i:=0) (u:=Z X 0) rfl;have r1:=qcB l (i:=1) (u:=O Y 0 0) rfl;have aY:=qfB l 0;have aZ:=qfB l 1;have rz:=zaa l;have t:=hd9 l;clear hG aq ar ah ai l aK
  by_cases aM:y=0
  ·subst aM
   obtain rfl:sy=0:=by rw [aa];rfl
   clear aa;go_wp2;refine bR (v:=J #[Z X sx,O ax mx cx]) (by simp [results,Tryz.results194,go_sem,rz,r0,r1]) rfl ⟨_,rfl,?_,eA⟩;rw [←HG.out,zfC ab];exact T.keep (zbU t.out _ _)
  ·have r:0<y:=oM
   obtain rfl:sy=1:=by rw [aa];exact Int.sign_eq_one_of_pos r
   clear aa
   by_cases aU:mx≤4
   ·by_cases aV:my≤4
    ·obtain⟨xs,xl,xi,xc,xv⟩:=T.open
     obtain⟨ys,yl,yi,yc,yv⟩:=D.open
     have bx:x<10000000000000000:=by
      have h1:=(zak zbm xc.1).2;have h2:=zaC (b:=C4) dM (show xs.length≤4 by omega);have h3:C4 ^ 4=10000000000000000:=dM
      omega
     have bY:y<10000000000000000:=by
      have h1:=(zak zbm yc.1).2;have h2:=zaC (b:=C4) dM (show ys.length≤4 by omega);have h3:C4 ^ 4=10000000000000000:=dM
      omega
     clear xl xi xc xv yl yi yc yv;go_wp2
     go_region_held3 (fun W=>W.cell? ⟨w.heap.size,0,Y⟩=M (Z X sx)∧W.cell? ⟨w.heap.size,1,Y⟩=M (O ax mx cx)∧W.cell? ⟨w.heap.size+1,0,Y⟩=M (Z X 1)∧W.cell? ⟨w.heap.size+1,1,Y⟩=M (O ay my cy)) ((repeat' (with_reducible refine And.intro ?_ ?_))<;>(first|(go_simp;done)|(refine R.cellS ?_;go_simp;done))) (first|(go_at_call 141;(with_reducible refine(zda _ (J #[Z X sx,O ax mx cx]) x ?_ oM oM).mono ?_);(refine T.ext ?_;exact(eR wr).drew);rintro e w8 ⟨rfl,S⟩;obtain⟨aQ,aS⟩:=cK0 S;(have z8:w.heap.size<w8.heap.size:=S.lt x2);(have aP:w.heap.size+1<w8.heap.size:=S.lt y2))|(go_at_call 141;(with_reducible refine(zda _ (J #[Z X 1,O ay my cy]) y ?_ oM oM).mono ?_);(refine D.ext ?_;exact(eR wr).drew.trans S);rintro e w9 ⟨rfl,ad⟩;obtain⟨aR,aT⟩:=cK0 ad;(have z9:w.heap.size<w9.heap.size:=ad.lt z8);(have a8:w.heap.size+1<w9.heap.size:=ad.lt aP)))
     all_goals go_wp2
     have X9:Ext wr w9:=(eR wr).drew.trans (S.trans ad);have P:=X9.heapS t.out;obtain⟨wo,rfl⟩:∃wo:V,wo=wr:=⟨_,rfl⟩
     go_loopw [5,6] (VgS w9 G) (fun _ t6 _=>(intOf t6).toNat)
     case atStart=>exact⟨x,y,rfl,rfl,ab,aL,by omega,by omega,HG.out,eR _⟩
     case round =>
      obtain⟨u,v,rfl,rfl,u0,v0,u1,v1,hG,Xi⟩:=hrel;have ak:=hd9 hG;clear hG
      by_cases hv:v=0
      ·subst hv
       have e:u=(G:Int):=by rw [←ak.out,zfC u0]
       have t0:=qcB (Xi.heapS P) (i:=0) (u:=Z X 0) rfl;have t1:=qcB (Xi.heapS P) (i:=1) (u:=O Y 0 0) rfl;have a0:=qfB (Xi.heapS P) 0;have tf1:=qfB (Xi.heapS P) 1;have tz:=zaa (Xi.heapS P);have XF:Ext w wr:=hx.trans (X9.trans Xi);have E:=hd9 e;clear e
       go_wp2_with(go_at_call 96;(with_reducible refine(za0 _ u oM oM).mono ?_);rintro e Q ⟨r5,rfl,az,j⟩;obtain⟨s5,a5,m5,c5,rfl,-⟩:=az.form2;obtain⟨ag,au⟩:=j.cells)
       refine bR (v:=J #[Z X s5,O a5 m5 c5]) (by simp [results,Tryz.results194,go_sem,ag,tz,t0,t1]) rfl ⟨_,rfl,?_,eA⟩;rw [←E.out];exact az.keep (zbU (j.heapS (Xi.heapS P)) _ _)
      ·have aW:(v != 0)=true:=by simpa using hv
       have aA:0<v:=oM
       obtain⟨rm,aI⟩:=gX (Int.tmod u v);have af:rm=u % v:=by rw [←aI,Int.tmod_eq_emod_of_nonneg u0]
       have k1:=Int.emod_lt_of_pos u aA;have k2:=Int.emod_nonneg u (show v≠0 by omega);have r9:0≤rm:=oM
       have r8:rm<v:=oM
       have ao:=hd9 af;have aX:(v==0)=false:=by simpa using hv
       clear af k1 k2;go_wp2
       go_quiet (fail)
       go_wp2
       go_roundw
       case rel=>exact⟨v,rm,rfl,rfl,by omega,r9,v1,by omega,by rw [ao.out,zdM u0 aA,ak.out],eA⟩
       case measure=>simp [intOf];omega
    ·have h4:¬(my:Int)≤4:=oM
     have h5:(mx:Int)≤4:=oM
     go_wp2_with(go_at_call 142;(with_reducible refine(zcL _ (J #[Z X sx,O ax mx cx]) (J #[Z X 1,O ay my cy]) x y T D al.out z.out oM).mono ?_);rintro e Q ⟨r1,r2,rfl,o,n,j⟩;obtain⟨s1,a1,m1,c1,rfl,-⟩:=o.form2;obtain⟨s2,a2,m2,c2,rfl,-⟩:=n.form2;obtain⟨ag,au⟩:=j.cells;(have z5:w.heap.size<Q.heap.size:=j.lt x2);(have aO:w.heap.size+1<Q.heap.size:=j.lt y2))
     refine zae (fun i=>decide (2<i)) (CellL [(⟨w.heap.size+1,0,Y⟩,Z X 1),(⟨w.heap.size+1,1,Y⟩,O ay my cy),(⟨Q.heap.size+1,0,Y⟩,Z X s2),(⟨Q.heap.size+1,1,Y⟩,O a2 m2 c2)]) kM ?_ (fun f=>?_)
     ·exact cA
     refine sN 0 ?_
     iterate 2
      refine tun ?_
     refine oN ?_;refine cu1 (i:=2) fun K k=>?_
     go_simp;refine kO k (fun _=>?_) (fun f=>?_)
     ·exact cA
     clear k K
     replace f:=f rfl
     refine cu1 (i:=3) fun K k=>?_
     go_simp;refine kO k (fun h=>nomatch h) (fun f=>?_);clear k K;refine doneHU kM ?_ _;go_wp2
     go_roundg ((x % y).toNat)
     case measure=>have:=Int.emod_lt_of_pos x r;have:=Int.emod_nonneg x (show y≠0 by omega);omega
     case rel =>
      have k1:=Int.emod_lt_of_pos x r;have k2:=Int.emod_nonneg x (show y≠0 by omega);have nx:=am.out.ext j;have ny:=an.out.ext j;refine GcS.ext ?_ (((eR _).alloc _).alloc _).drew;refine⟨y,x % y,by omega,k2,by rw [zdM ab r,HG.out],rfl,z.out,?_,?_,?_,?_,?_⟩
      ·have:=z.out
       unfold Lm at *;omega
      ·exact((((hx.trans j).set (p:=⟨w.heap.size,0,Y⟩) sM _).set (p:=⟨w.heap.size,1,Y⟩) sM _).set (p:=⟨w.heap.size+1,0,Y⟩) sM _).set (p:=⟨w.heap.size+1,1,Y⟩) sM _
      ·exact((nx.put (D.ext j)).other (p:=⟨w.heap.size+1,0,Y⟩) sM ((ny.not.set _ _).set _ _) _).other (p:=⟨w.heap.size+1,1,Y⟩) sM (((ny.not.set _ _).set _ _).set _ _) _
      ·refine((ny.other (p:=⟨w.heap.size,0,Y⟩) sM nx.not _).other (p:=⟨w.heap.size,1,Y⟩) sM (nx.not.set _ _) _).put (n.keep (((KeepT.refl _ Q).setN nx.not _).setN (nx.not.set _ _) _))
      ·rw [bS _ _ _ _ sM,bS _ _ _ _ sM,bS _ _ _ _ dO,bS _ _ _ _ dO]
       exact j.heapS t.out
   ·have h5:¬(mx:Int)≤4:=oM
    go_wp2_with(go_at_call 142;(with_reducible refine(zcL _ (J #[Z X sx,O ax mx cx]) (J #[Z X 1,O ay my cy]) x y T D al.out z.out oM).mono ?_);rintro e Q ⟨r1,r2,rfl,o,n,j⟩;obtain⟨s1,a1,m1,c1,rfl,-⟩:=o.form2;obtain⟨s2,a2,m2,c2,rfl,-⟩:=n.form2;obtain⟨ag,au⟩:=j.cells;(have z5:w.heap.size<Q.heap.size:=j.lt x2);(have aO:w.heap.size+1<Q.heap.size:=j.lt y2))
    refine zae (fun i=>decide (2<i)) (CellL [(⟨w.heap.size+1,0,Y⟩,Z X 1),(⟨w.heap.size+1,1,Y⟩,O ay my cy),(⟨Q.heap.size+1,0,Y⟩,Z X s2),(⟨Q.heap.size+1,1,Y⟩,O a2 m2 c2)]) kM ?_ (fun f=>?_)
    ·exact cA
    refine sN 0 ?_
    iterate 2
     refine tun ?_
    refine oN ?_;refine cu1 (i:=2) fun K k=>?_
    go_simp;refine kO k (fun _=>?_) (fun f=>?_)
    ·exact cA
    clear k K
    replace f:=f rfl
    refine cu1 (i:=3) fun K k=>?_
    go_simp;refine kO k (fun h=>nomatch h) (fun f=>?_);clear k K;refine doneHU kM ?_ _;go_wp2
    go_roundg ((x % y).toNat)
    case measure=>have:=Int.emod_lt_of_pos x r;have:=Int.emod_nonneg x (show y≠0 by omega);omega
    case rel =>
     have k1:=Int.emod_lt_of_pos x r;have k2:=Int.emod_nonneg x (show y≠0 by omega);have nx:=am.out.ext j;have ny:=an.out.ext j;refine GcS.ext ?_ (((eR _).alloc _).alloc _).drew;refine⟨y,x % y,by omega,k2,by rw [zdM ab r,HG.out],rfl,z.out,?_,?_,?_,?_,?_⟩
     ·have:=z.out
      unfold Lm at *;omega
     ·exact((((hx.trans j).set (p:=⟨w.heap.size,0,Y⟩) sM _).set (p:=⟨w.heap.size,1,Y⟩) sM _).set (p:=⟨w.heap.size+1,0,Y⟩) sM _).set (p:=⟨w.heap.size+1,1,Y⟩) sM _
     ·exact((nx.put (D.ext j)).other (p:=⟨w.heap.size+1,0,Y⟩) sM ((ny.not.set _ _).set _ _) _).other (p:=⟨w.heap.size+1,1,Y⟩) sM (((ny.not.set _ _).set _ _).set _ _) _
     ·refine((ny.other (p:=⟨w.heap.size,0,Y⟩) sM nx.not _).other (p:=⟨w.heap.size,1,Y⟩) sM (nx.not.set _ _) _).put (n.keep (((KeepT.refl _ Q).setN nx.not _).setN (nx.not.set _ _) _))
     ·rw [bS _ _ _ _ sM,bS _ _ _ _ sM,bS _ _ _ _ dO,bS _ _ _ _ dO]
      exact j.heapS t.out
theorem zf0 (w:V) (v:I) (q:Rat) (h:IsR w v q) (j:Rb limT q) :
  Calls Tryz.prog 97 #[v] w fun e w'=>e = .returned (.string ⟨(textR q).toArray⟩)∧Ext w w':=by
 obtain⟨a,m,c,s,a2,m2,c2,rfl⟩:=h.form;have k:=hd9 (fun(W:V) (r:Ext w W)=>zaA W (J #[O a2 m2 c2]) _ (h.rest.ext r));have D:=hd9 (fun(W:V) (r:Ext w W)=>zgj W (J #[O a m c,C s]) q.num (h.top.ext r) j.1);have Q:=hd9 (fun(W:V) (r:Ext w W)=>zaG W _ q (h.ext r) (j.mono dM));have z:=hd9 (fun(W:V) (v:I) (hv:IsZ W v (q.den:Int))=>zgj W v (q.den:Int) hv j.2);have l1:=zcX j.1;have l2:=zcX j.2;unfold textR;obtain⟨R,o⟩:=gX (textZ q.num);obtain⟨T2,p⟩:=gX (textZ (q.den:Int));rw [o]at D l1 ⊢;rw [p]at z l2 ⊢;unfold limT at l1 l2;obtain⟨d,hd⟩:=gX q.den;rw [hd]at k Q z ⊢;clear o p hd h j
 by_cases n:d=1
 ·have l:(((d:Nat):Int)-1==0)=true:=by simp [n]
  rw [l]at k;rw [if_pos n];clear l n;go_enter Tryz.func97,Tryz.ntmps97
  go_wp2_with(first|(go_at_call 166;(with_reducible refine(k.out _ ?_).mono ?_);exact eA;rintro e w1 ⟨rfl,g⟩;obtain⟨L,P⟩:=g.cells)|(go_at_call 167;(with_reducible refine(D.out _ ?_).mono ?_);exact eA;rintro e w2 ⟨rfl,u⟩))
  go_ret;exact⟨rfl,eA⟩
 ·have l:(((d:Nat):Int)-1==0)=false:=by simp;omega
  rw [l]at k;rw [if_neg n];clear l n;go_enter Tryz.func97,Tryz.ntmps97;have g1:¬9223372036854775807<R.length+1:=oM
  have g2:¬9223372036854775807<R.length+1+T2.length:=oM
  go_upto_region 3 with (first|(go_at_call 166;(with_reducible refine(k.out _ ?_).mono ?_);exact eA;rintro e w1 ⟨rfl,g⟩;obtain⟨L,P⟩:=g.cells))
  refine wp_region_held_drew (S:=CellL [(⟨w.heap.size,0,Y⟩,O a m c),(⟨w.heap.size,1,Y⟩,C s),(⟨w.heap.size,2,Y⟩,O a2 m2 c2)]) kM cA (fun b=>?_);refine sN 0 ?_
  iterate 2
   refine tkn ?_
  refine oN ?_;refine tk1 (i:=4) ?_;refine cl1 (i:=2) fun K f=>?_
  go_simp
  (with_reducible refine cM (D.out _ eA) ?_)
  rintro e w2 ⟨rfl,u⟩
  skip
  go_wp2_with fail
  refine kO f (cE b u) (fun b=>?_);clear f K;have T:Ext w w2:=eA;refine tk1 (i:=3) ?_;refine cl1 (i:=5) fun K f=>?_
  go_simp
  (with_reducible refine cM (Q.out _ T) ?_)
  rintro e w5 ⟨r5,rfl,t,x⟩;obtain⟨a5,m5,c5,s5,rfl⟩:=t.form
  go_wp2_with fail
  refine kO f (cE b x) (fun b=>?_);clear f K;have X5:Ext w w5:=T.trans x;refine cl1 (i:=6) fun K f=>?_
  go_simp
  (with_reducible refine cM (z.out _ _ t) ?_)
  rintro e w6 ⟨rfl,y⟩
  skip
  go_wp2_with fail
  refine kO f (cE b y) (fun b=>?_);clear f K;refine sN 7 ?_
  iterate 2
   refine tkn ?_
  refine oN ?_;refine wpAnyH_done kM ?_ _;go_wp2;go_ret;exact⟨by rw [show (⟨#[47]⟩:ByteArray)=⟨[47].toArray⟩from rfl,zcx,zcx];simp,X5.trans y⟩
theorem zge (w:V) (P Q:I) (x z:Rat) (u:IsR w P x) (y:IsR w Q z) (d:Rb limT x) (f:Rb limT z) :
  ∀v,(∃a m c s a2 m2 c2 a' m' c' s' a2' m2' c2',P=J #[O a m c,C s,O a2 m2 c2]∧Q=J #[O a' m' c',C s',O a2' m2' c2']∧v=J #[O a m c,C s,O a2 m2 c2,O a' m' c',C s',O a2' m2' c2']) →
  Calls Tryz.prog 48 #[v] w fun e w'=>e = .returned (.string ⟨(textV x z).toArray⟩)∧Ext w w':=by
 rintro v ⟨a,m,c,s,a2,m2,c2,a',m',c',s',a2',m2',c2',rfl,rfl,rfl⟩;have HX:=hd9 (fun(W:V) (n:Ext w W)=>zf0 W _ x (u.ext n) d);have p:=hd9 (fun(W:V) (n:Ext w W)=>zf0 W _ z (y.ext n) f);have D:=zga d;have L:=zga f;unfold textV;obtain⟨l,h⟩:=gX (textR x);obtain⟨r,j⟩:=gX (textR z);rw [h]at HX D ⊢;rw [j]at p L ⊢;unfold limT at D L;clear h j u y d f;have T:¬9223372036854775807<1+l.length:=oM
 have g2:¬9223372036854775807<1+l.length+2:=oM
 have g3:¬9223372036854775807<1+l.length+2+r.length:=oM
 have g4:¬9223372036854775807<1+l.length+2+r.length+1:=oM
 go_enter Tryz.func48,Tryz.ntmps48;go_wp2;refine wp_region_held_drew (S:=CellL [(⟨w.heap.size,0,Y⟩,O a m c),(⟨w.heap.size,1,Y⟩,C s),(⟨w.heap.size,2,Y⟩,O a2 m2 c2),(⟨w.heap.size,3,Y⟩,O a' m' c'),(⟨w.heap.size,4,Y⟩,C s'),(⟨w.heap.size,5,Y⟩,O a2' m2' c2')]) kM cA (fun b=>?_);refine sN 0 ?_
 iterate 2
  refine tkn ?_
 refine oN ?_;refine sN 5 ?_
 iterate 2
  refine tkn ?_
 refine oN ?_;refine cl1 (i:=2) fun K g=>?_
 go_simp
 (with_reducible refine cM (HX.out _ eA) ?_)
 rintro e R ⟨rfl,o⟩
 skip
 go_wp2_with fail
 refine kO g (cE b o) (fun b=>?_);clear g K;have t:Ext w R:=eA;refine sN 3 ?_
 iterate 2
  refine tkn ?_
 refine oN ?_;refine cl1 (i:=7) fun K g=>?_
 go_simp
 (with_reducible refine cM (p.out _ t) ?_)
 rintro e w7 ⟨rfl,k⟩
 skip
 go_wp2_with fail
 refine kO g (cE b k) (fun b=>?_);clear g K;refine sN 8 ?_
 iterate 3
  refine tkn ?_
 refine oN ?_;refine wpAnyH_done kM ?_ _;go_wp2;go_ret;exact⟨by rw [show (⟨#[40]⟩:ByteArray)=⟨[40].toArray⟩from rfl,show (⟨#[44,32]⟩:ByteArray)=⟨[44,32].toArray⟩from rfl,show (⟨#[41]⟩:ByteArray)=⟨[41].toArray⟩from rfl,zcx,zcx,zcx,zcx];simp,t.trans k⟩
def IsQ (w:V) (v:I) (q:Rat):Prop:=
 ∃s a m c s2 a2 m2 c2,v=J #[Z X s,O a m c,Z X s2,O a2 m2 c2]∧IsN w (J #[Z X s,O a m c]) q.num∧(IsN w (J #[Z X s2,O a2 m2 c2]) (q.den:Int)∨(s2=0∧q.den=1))
section
variable {w w':V} {v:I} {q:Rat} {s s2:Int} {a a2:Option Addr} {m c m2 c2:Nat}
theorem IsQ.ext (h:IsQ w v q) (k:Ext w w'):IsQ w' v q:=by
 obtain⟨s,a,m,c,s2,a2,m2,c2,rfl,b,d⟩:=h;exact⟨s,a,m,c,s2,a2,m2,c2,rfl,b.ext k,d.imp (·.ext k) id⟩
theorem IsQ.keep (h:IsQ w v q) (k:KeepT 3 w w'):IsQ w' v q:=by
 obtain⟨s,a,m,c,s2,a2,m2,c2,rfl,b,d⟩:=h;exact⟨s,a,m,c,s2,a2,m2,c2,rfl,b.keep k,d.imp (·.keep k) id⟩
theorem IsQ.form (h:IsQ w v q):∃s a m c s2 a2 m2 c2,v=J #[Z X s,O a m c,Z X s2,O a2 m2 c2]:=by
 obtain⟨s,a,m,c,s2,a2,m2,c2,rfl,b,d⟩:=h;exact⟨_,_,_,_,_,_,_,_,rfl⟩
theorem IsQ.top (h:IsQ w (J #[Z X s,O a m c,Z X s2,O a2 m2 c2]) q):IsN w (J #[Z X s,O a m c]) q.num:=by
 obtain⟨s,a,m,c,s2,a2,m2,c2,e,b,d⟩:=h;cases e;exact b
theorem IsQ.bot (h:IsQ w (J #[Z X s,O a m c,Z X s2,O a2 m2 c2]) q):IsN w (J #[Z X s2,O a2 m2 c2]) (q.den:Int)∨(s2=0∧q.den=1):=by
 obtain⟨s,a,m,c,s2,a2,m2,c2,e,d,b⟩:=h;cases e;exact b
theorem IsQ.mk (b:IsN w (J #[Z X s,O a m c]) q.num) (d:IsN w (J #[Z X s2,O a2 m2 c2]) (q.den:Int)):IsQ w (J #[Z X s,O a m c,Z X s2,O a2 m2 c2]) q:=
 ⟨_,_,_,_,_,_,_,_,rfl,b,.inl d⟩
theorem IsQ.zero (w:V):IsQ w (J #[Z X 0,O Y 0 0,Z X 0,O Y 0 0]) 0:=⟨_,_,_,_,_,_,_,_,rfl,IsN.nil w,.inr ⟨rfl,rfl⟩⟩
end
def RetQr (w:V) (q:Rat) (e:Ending) (w':V):Prop:=∃r,e = .returned r∧IsQ w' r q∧Ext w w'
def limQ:Nat:=100000
theorem znV (q:Rat):(q.den:Int).sign=1:=Int.sign_eq_one_of_pos (den_pos q)
theorem zaZ (w:V) (v:I) (q:Rat) (h:IsQ w v q):Calls Tryz.prog 81 #[v] w (RetN w (q.den:Int)):=by
 obtain⟨s,a,m,c,s2,a2,m2,c2,rfl⟩:=h.form
 rcases h.bot with b|⟨rfl,b⟩
 ·obtain rfl:s2=1:=by rw [b.sgn,znV]
  go_enter Tryz.func81,Tryz.ntmps81;go_wp2;exact bR (v:=J #[Z X 1,O a2 m2 c2]) (by simp [results,Tryz.results81,go_sem]) rfl ⟨_,rfl,b.ext eA,eA⟩
 ·rw [b]
  clear b;go_enter Tryz.func81,Tryz.ntmps81
  go_wp2_with(go_at_call 96;(with_reducible refine(za0 _ 1 dM dM).mono ?_);rintro e t ⟨r,rfl,d,i⟩;obtain⟨p,k,o,l,rfl,-⟩:=d.form2;obtain⟨⟨g,n⟩,j,f⟩:=cK2 w i)
  exact bR (v:=J #[Z X p,O k o l]) (by simp [results,Tryz.results81,go_sem,g,f]) rfl ⟨_,rfl,d.keep kA,eA⟩
theorem zjz (w:V) (v:I) (q:Rat) (h:IsQ w v q):Calls Tryz.prog 140 #[v] w fun e w'=>e = .returned (Z X q.num.sign)∧Ext w w':=by
 obtain⟨s,a,m,c,s2,a2,m2,c2,rfl⟩:=h.form;have b:=h.top.sgn;have d:=hd9 b;clear b;go_enter Tryz.func140,Tryz.ntmps140;go_wp2;go_ret;exact⟨za9 (zbj d.out),eA⟩
theorem zno (w:V) (n:Int) (p : -9223372036854775808≤n) (r:n≤9223372036854775807):Calls Tryz.prog 34 #[Z X n] w (RetQr w (n:Rat)):=by
 go_enter Tryz.func34,Tryz.ntmps34
 go_wp2_with(first|(go_at_call 96;(with_reducible refine(za0 _ n p r).mono ?_);rintro e K ⟨z,rfl,b,k⟩;obtain⟨y,l,x,o,rfl,-⟩:=b.form2;obtain⟨⟨i,t⟩,g⟩:=cK1 w k)|(go_at_call 96;(with_reducible refine(za0 _ 1 dM dM).mono ?_);rintro e L ⟨D,rfl,d,f⟩;obtain⟨s2,a2,m2,c2,rfl,-⟩:=d.form2;obtain⟨⟨j,u⟩,h⟩:=cK1 w f))
 exact bR (v:=J #[Z X y,O l x o,Z X s2,O a2 m2 c2]) (by simp [results,Tryz.results34,go_sem,i,j,g,h]) rfl ⟨_,rfl,IsQ.keep (IsQ.mk (q:=(n:Rat)) (b.ext f) d) kA,eA⟩
def OzC (w:V) (q:Rat) (W:V):Prop:=
 ∃n d:Int,0<d∧Rat.divInt n d=q∧Lm limE n∧Lm limE d∧NB W w.heap.size n∧NB W (w.heap.size+1) d∧Ext w W ∧
  W.heap[w.heap.size+1+1]?=M (N #[Z X 0,O Y 0 0,Z X 0,O Y 0 0] 68 (0,0))
def OzD (w:V) (q:Rat) (W:V):Prop:=
 NB W w.heap.size q.num∧NB W (w.heap.size+1) (q.den:Int)∧Ext w W ∧
  W.heap[w.heap.size+1+1]?=M (N #[Z X 0,O Y 0 0,Z X 0,O Y 0 0] 68 (0,0))
theorem zbV {W:V} {b b':Nat} {n g:Int} (h:NB W b n) (f:NB W b' g) (d:b≠b') (u v:I):NB ((W.setCell ⟨b',0,Y⟩ u).setCell ⟨b',1,Y⟩ v) b n:=
 (h.other (p:=⟨b',0,Y⟩) (fun e=>d e.symm) f.not _).other (p:=⟨b',1,Y⟩) (fun e=>d e.symm) (f.not.set _ _) _
theorem zaU {W:V} {b b':Nat} {o:Obj} (h:W.heap[b]?=M o) (d:b≠b') (u v:I):((W.setCell ⟨b',0,Y⟩ u).setCell ⟨b',1,Y⟩ v).heap[b]?=M o:=by
 rw [bS _ _ _ _ d,bS _ _ _ _ d];exact h
theorem zcF {w W:V} {b:Nat} (h:Ext w W) (d:w.heap.size≤b) (u v:I):Ext w ((W.setCell ⟨b,0,Y⟩ u).setCell ⟨b,1,Y⟩ v):=(h.set (p:=⟨b,0,Y⟩) d _).set (p:=⟨b,1,Y⟩) d _
theorem zeY (w:V) (va vb:I) (na nb:Int) (ha:IsN w va na) (hb:IsN w vb nb) (aS:Lm limE na) (aT:Lm limE nb) (hd:nb≠0) :
  Calls Tryz.prog 146 #[va,vb] w (RetQr w (Rat.divInt na nb)):=by
 obtain⟨s,a,m,c,rfl,hs⟩:=ha.form2;obtain⟨s',a',m',c',rfl,aX⟩:=hb.form2;obtain⟨q,hq⟩:=gX (Rat.divInt na nb);rw [hq];have Hq:=hd9 hq;have ak:=hd9 aS;have al:=hd9 aT;have ap:=hd9 aX;clear hs aX hq aS aT;go_enter Tryz.func146,Tryz.ntmps146
 go_upto_if 8 with fail
 obtain⟨W0,b⟩:=gX (((w.alloc (N #[Z X s,O a m c] 66)).alloc (N #[Z X s',O a' m' c'] 66)).alloc (N #[Z X 0,O Y 0 0,Z X 0,O Y 0 0] 68));have X0:Ext w W0:=by rw [←b];exact(((eR w).alloc _).alloc _).alloc _
 have aw:NB W0 w.heap.size na:=by rw [←b];exact(NB.new (W0:=w) ha rfl).ext (((eR _).alloc _).alloc _)
 have az:NB W0 (w.heap.size+1) nb:=by rw [←b];exact(NB.new (W0:=w.alloc (N #[Z X s,O a m c] 66)) (hb.ext ((eR _).alloc _)) sM).ext ((eR _).alloc _)
 have af:W0.heap[w.heap.size+1+1]?=M (N #[Z X 0,O Y 0 0,Z X 0,O Y 0 0] 68 (0,0)):=by rw [←b];exact qhA _ _ _ sM
 have p0:W0.cell? ⟨w.heap.size,0,Y⟩=M (Z X s):=by rw [←b];clear b;go_simp
 have p1:W0.cell? ⟨w.heap.size,1,Y⟩=M (O a m c):=by rw [←b];clear b;go_simp
 have q0:W0.cell? ⟨w.heap.size+1,0,Y⟩=M (Z X s'):=by rw [←b];clear b;go_simp
 have q1:W0.cell? ⟨w.heap.size+1,1,Y⟩=M (O a' m' c'):=by rw [←b];clear b;go_simp
 have f0:W0.frozen? ⟨w.heap.size,0,Y⟩=false:=by rw [←b];clear b;go_simp
 have f1:W0.frozen? ⟨w.heap.size,1,Y⟩=false:=by rw [←b];clear b;go_simp
 have f2:W0.frozen? ⟨w.heap.size+1,0,Y⟩=false:=by rw [←b];clear b;go_simp
 have f3:W0.frozen? ⟨w.heap.size+1,1,Y⟩=false:=by rw [←b];clear b;go_simp
 have z0:=zaa af;have z1:w.heap.size<W0.heap.size:=oM
 have z2:w.heap.size+1<W0.heap.size:=oM
 rw [b];clear b
 go_cut [5] (fun _ W=>OzC w q W)
 case first =>
  by_cases bv:nb<0
  ·have bf:s'<0:=by
    have:=ap.out
    rcases zai nb with ⟨e,h⟩|⟨e,h⟩|⟨e,h⟩<;>omega
   go_wp2;refine zae (fun i=>decide (3<i)) (CellL [(⟨w.heap.size,0,Y⟩,Z X s),(⟨w.heap.size,1,Y⟩,O a m c),(⟨w.heap.size+1,0,Y⟩,Z X s'),(⟨w.heap.size+1,1,Y⟩,O a' m' c')]) kM ?_ (fun o=>?_)
   ·exact cA
   refine tu1 (i:=0) ?_;refine tu1 (i:=2) ?_;refine cu1 (i:=1) fun K L=>?_
   go_simp
   (with_reducible refine cM (zcI _ (J #[Z X s,O a m c]) na (ha.ext X0.drew)) ?_)
   rintro e w1 ⟨r1,rfl,D,ac⟩;obtain⟨s1,a1,m1,c1,rfl,-⟩:=D.form2
   go_wp2_with fail
   refine kO L (fun _=>cE o ac) (fun o=>?_);clear L K
   replace o:=o rfl
   refine cu1 (i:=3) fun K L=>?_
   go_simp
   (with_reducible refine cM (zcI _ (J #[Z X s',O a' m' c']) nb (hb.ext (X0.drew.trans ac))) ?_)
   rintro e w2 ⟨r2,rfl,aW,ar⟩;obtain⟨s2,a2,m2,c2,rfl,-⟩:=aW.form2
   go_wp2_with fail
   refine kO L (fun _=>cE o ar) (fun o=>?_);clear L K
   replace o:=o rfl
   have X2:Ext W0 w2:=(eR W0).drew.trans (ac.trans ar);have y1:w.heap.size<w2.heap.size:=X2.lt z1;have y2:w.heap.size+1<w2.heap.size:=X2.lt z2;obtain⟨bo,br⟩:=X2.cells;refine cu1 (i:=4) fun K L=>?_
   go_simp;refine kO L (fun h=>nomatch h) (fun o=>?_);clear L K;refine cu1 (i:=5) fun K L=>?_
   go_simp;refine kO L (fun h=>nomatch h) (fun o=>?_);clear L K;refine doneHU kM ?_ _;go_wp2;go_meet;have aa:=aw.ext X2;have aY:=az.ext X2;refine⟨-na,-nb,by omega,by rw [Rat.neg_divInt_neg];exact Hq.out,ak.out.neg,al.out.neg,?_,?_,?_,?_⟩
   ·exact zbV (aa.put (D.ext ar)) (zbV aY aa oM _ _) oM _ _
   ·exact(zbV aY aa oM _ _).put (aW.keep (((KeepT.refl _ w2).setN aa.not _).setN (aa.not.set _ _) _))
   ·exact zcF (zcF (X0.trans X2) oM _ _) oM _ _
   ·exact zaU (zaU (X2.heapS af) oM _ _) oM _ _
  ·have bf:¬s'<0:=by
    have:=ap.out
    rcases zai nb with ⟨e,h⟩|⟨e,h⟩|⟨e,h⟩<;>omega
   go_wp2;go_meet;exact⟨na,nb,by omega,Hq.out,ak.out,al.out,aw,az,X0,af⟩
 case rest =>
  clear aw az af p0 p1 q0 q1 f0 f1 f2 f3 z0 z1 z2 X0 Hq ak al ap ha hb hd;obtain⟨n,d,hd,hq,aV,aU,hn,z,hx,f⟩:=hcut;obtain⟨r1,r2,r3,r4,r5⟩:=zhB (n:=n) (d:=d) oM;unfold rg at r1 r2 r3 r4 r5;rw [if_neg oM]at r1 r2 r3 r4 r5;rw [hq]at r4 r5;obtain⟨g,hg⟩:=gX ((Int.gcd n d:Int));rw [hg]at r1 r2 r3 r4 r5;have bu:0<g:=oM
  have aq:Lm limE g:=by
   have:g≤d:=Int.le_of_dvd hd r3;unfold Lm at *;omega
  have Hg:=hd9 hg;have R4:=hd9 r4;have R5:=hd9 r5;have aI:=hd9 aV;have aF:=hd9 aU;have aG:=hd9 aq;have aH:Hid (Lm limG g):=hd9 (aq.mono dM);have aE:Hid (Lm limG 1):=hd9 (zeI dM);have Hn:=hd9 hn;have aJ:=hd9 z;have ah:=hd9 f;obtain⟨sx,ax,mx,cx,bg,x0,x1,aA,aB,x2,au⟩:=hn.rd;obtain⟨sy,ay,my,cy,bh,y0,y1,aC,aD,y2,av⟩:=z.rd;clear hg r1 r2 r3 r4 r5 aV aU aq hn z f bg bh
  go_upto_region 4 with (go_at_call 194;(with_reducible refine(zlw _ (J #[Z X sx,O ax mx cx]) (J #[Z X sy,O ay my cy]) n d au av aI.out aF.out).mono ?_);rw [Hg.out];rintro e w3 ⟨r3,rfl,t,ad⟩;obtain⟨s3,a3,m3,c3,rfl,-⟩:=t.form2;obtain⟨a5,bb⟩:=ad.cells)
  obtain⟨r,p⟩:=gX (w3.alloc (N #[Z X s3,O a3 m3 c3] 66));have x:Ext wc r:=by rw [←p];exact ad.alloc _
  have n3:NB r w.heap.size n:=Hn.out.ext x;have d3:NB r (w.heap.size+1) d:=aJ.out.ext x;have g3:NB r w3.heap.size g:=by rw [←p];exact NB.new t rfl
  have e0:=x.cellS x0;have e1:=x.cellS x1;have e2:=x.cellS y0;have e3:=x.cellS y1;have aK:r.frozen? ⟨w.heap.size,0,Y⟩=false:=(x.cells.2 _ _ x2).trans aA;have aL:r.frozen? ⟨w.heap.size,1,Y⟩=false:=(x.cells.2 _ _ x2).trans aB;have aM:r.frozen? ⟨w.heap.size+1,0,Y⟩=false:=(x.cells.2 _ _ y2).trans aC;have aO:r.frozen? ⟨w.heap.size+1,1,Y⟩=false:=(x.cells.2 _ _ y2).trans aD;have e4:r.cell? ⟨w3.heap.size,0,Y⟩=M (Z X s3):=by rw [←p];clear p;go_simp
  have e5:r.cell? ⟨w3.heap.size,1,Y⟩=M (O a3 m3 c3):=by rw [←p];clear p;go_simp
  have Q:IsN r (J #[Z X s3,O a3 m3 c3]) g:=by rw [←p];exact t.ext ((eR _).alloc _)
  have zg:w3.heap.size<r.heap.size:=by rw [←p];simp
  have zl:wc.heap.size≤w3.heap.size:=ad.size;have zr:=zaa ah.out;have zw:w.heap.size<r.heap.size:=oM
  have ag:w.heap.size+1<r.heap.size:=oM
  obtain⟨gg,aR⟩:=gX w3.heap.size;rw [p];rw [aR]at g3 e4 e5 zg zl ⊢;obtain⟨T,hT⟩:=gX ((g-1).sign)
  have aQ:0<T ↔ 1<g:=by
   rw [←hT]
   rcases zai (g-1)with ⟨e,h⟩|⟨e,h⟩|⟨e,h⟩<;>omega
  have HT:=hd9 hT;clear p aR a5 bb t ad x0 x1 aA aB x2 y0 y1 aC aD y2 hT
  go_cut [19] (fun bi W=>bi=C (decide (1<g))∧Ext r W)
  case first =>
   go_region_held3 (fun W=>W.cell? ⟨gg,0,Y⟩=M (Z X s3)∧W.cell? ⟨gg,1,Y⟩=M (O a3 m3 c3)) ((repeat' (with_reducible refine And.intro ?_ ?_))<;>(first|(go_simp;done)|(refine ac.cellS ?_;go_simp;done))) (first|(go_at_call 96;(with_reducible refine(za0 _ 1 dM dM).mono ?_);rintro e w4 ⟨r4,rfl,R,ae⟩;obtain⟨s4,a4,m4,c4,rfl,-⟩:=R.form2;obtain⟨bp,bs⟩:=cK0 ae;(have z4:gg<w4.heap.size:=ae.lt zg))|(go_at_call 79;(with_reducible refine(zds _ (J #[Z X s3,O a3 m3 c3]) (J #[Z X s4,O a4 m4 c4]) g 1 ?_ R aH.out aE.out).mono ?_);(refine Q.ext ?_;exact(eR r).drew.trans ae);rw [HT.out];rintro e y ⟨rfl,j⟩;obtain⟨a7,bc⟩:=cK0 j;(have z5:gg<y.heap.size:=j.lt z4)))
   all_goals go_wp2
   go_meet;exact⟨by simp [aQ],(eR r).drew.trans (ae.trans j)⟩
  case rest =>
   obtain⟨rfl,l⟩:=hcut;have n4:=n3.ext l;have d4:=d3.ext l;have g4:=g3.ext l;have b0:=l.cellS e0;have b1:=l.cellS e1;have b2:=l.cellS e2;have b3:=l.cellS e3;have b4:=l.cellS e4;have b5:=l.cellS e5;have u0:w.heap.size<wc.heap.size:=l.lt zw;have u1:w.heap.size+1<wc.heap.size:=l.lt ag;have u2:gg<wc.heap.size:=l.lt zg;have ai:=au.ext (x.trans l);have aj:=av.ext (x.trans l);have P:=Q.ext l;have XW:Ext w wc:=hx.trans (x.trans l);have R:=(x.trans l).heapS ah.out;have ao:=hd9 R
   have a0:Hid (∀(y:V) (k:Ext wc y) (u v:I),IsN ((y.setCell ⟨w.heap.size,0,Y⟩ u).setCell ⟨w.heap.size,1,Y⟩ v) (J #[Z X sy,O ay my cy]) d):=hd9 fun y k u v =>
    (aj.ext k).keep (((KeepT.refl _ y).setN (n4.ext k).not _).setN ((n4.ext k).not.set _ _) _)
   have aZ:Hid (∀(y:V) (k:Ext wc y) (u v:I),IsN ((y.setCell ⟨w.heap.size,0,Y⟩ u).setCell ⟨w.heap.size,1,Y⟩ v) (J #[Z X s3,O a3 m3 c3]) g):=hd9 fun y k u v =>
    (P.ext k).keep (((KeepT.refl _ y).setN (n4.ext k).not _).setN ((n4.ext k).not.set _ _) _)
   have an:=hd9 n4;have am:=hd9 d4;have bj:wc.frozen? ⟨w.heap.size,0,Y⟩=false:=(l.cells.2 _ _ zw).trans aK;have bk:wc.frozen? ⟨w.heap.size,1,Y⟩=false:=(l.cells.2 _ _ zw).trans aL;have bl:wc.frozen? ⟨w.heap.size+1,0,Y⟩=false:=(l.cells.2 _ _ ag).trans aM;have bm:wc.frozen? ⟨w.heap.size+1,1,Y⟩=false:=(l.cells.2 _ _ ag).trans aO;have ug:w.heap.size+1+1<gg:=oM
   have bx:¬gg=w.heap.size:=oM
   have bz:¬w.heap.size=gg:=oM
   clear n3 d3 g3 n4 d4 R e0 e1 e2 e3 e4 e5 aK aL aM aO x l au av Q Hn aJ zw ag zg zl zr g4 aQ
   go_upto_if 19 with fail
   go_cut [20] (fun _ W=>OzD w q W)
   case first =>
    by_cases aP:1<g
    ·have kg:decide (1<g)=true:=by simpa using aP
     go_wp2_with(first|(go_at_call 142;(with_reducible refine(zcL _ (J #[Z X sx,O ax mx cx]) (J #[Z X s3,O a3 m3 c3]) n g ai P aI.out aG.out oM).mono ?_);rintro e y ⟨r1,r2,rfl,D,-,j⟩;rw [R4.out]at D;obtain⟨s1,a1,m1,c1,rfl,-⟩:=D.form2;obtain⟨a7,bc⟩:=j.cells;(have z5:w.heap.size<y.heap.size:=j.lt u0);(have bE:w.heap.size+1<y.heap.size:=j.lt u1);(have bn:gg<y.heap.size:=j.lt u2))|(go_at_call 142;(with_reducible refine(zcL _ (J #[Z X sy,O ay my cy]) (J #[Z X s3,O a3 m3 c3]) d g (a0.out _ j _ _) (aZ.out _ j _ _) aF.out aG.out oM).mono ?_);rintro e w6 ⟨r3,r4,rfl,t,-,S⟩;rw [R5.out]at t;obtain⟨s6,a6,m6,c6,rfl,-⟩:=t.form2;obtain⟨bq,bt⟩:=S.cells))
     go_meet;have k1:=an.out.ext j;have k2:=zbV (am.out.ext j) k1 (show w.heap.size+1≠w.heap.size by omega) (Z X s1) (O a1 m1 c1);have k3:=(k1.put D).ext S;have k4:=k2.ext S;refine⟨zbV k3 k4 oM _ _,k4.put t,zcF ((zcF (XW.trans j) oM _ _).trans S) oM _ _,zaU (S.heapS (zaU (j.heapS ao.out) oM _ _)) oM _ _⟩
    ·have kg:decide (1<g)=false:=by simpa using aP
     obtain rfl:g=1:=oM
     go_wp2;go_meet;have e1:=R4.out;have e2:=R5.out;rw [Int.ediv_one]at e1 e2;exact⟨e1▸an.out,e2▸am.out,XW,ao.out⟩
   case rest =>
    clear u0 u1 u2 bj bk bl bm b0 b1 b2 b3 b4 b5 XW ao an am ai aj P;obtain⟨hn,z,bw,f⟩:=hcut;obtain⟨s8,a8,m8,c8,-,x0,x1,aA,aB,x2,be⟩:=hn.rd;obtain⟨s9,a9,m9,c9,-,y0,y1,aC,aD,y2,ba⟩:=z.rd;have r0:=qcB f (i:=0) (u:=Z X 0) rfl;have r1:=qcB f (i:=1) (u:=O Y 0 0) rfl;have r2:=qcB f (i:=2) (u:=Z X 0) rfl;have r3:=qcB f (i:=3) (u:=O Y 0 0) rfl;have bA:=qfB f 0;have bB:=qfB f 1;have bC:=qfB f 2;have bD:=qfB f 3;have rz:=zaa f;have ab:NoT 3 wc (w.heap.size+1+1):=by intro cs fr e;rw [f]at e;cases e
    clear hn z f;go_wp2;refine bR (v:=J #[Z X s8,O a8 m8 c8,Z X s9,O a9 m9 c9]) (by simp [results,Tryz.results146,go_sem,rz,r0,r1,r2,r3]) rfl ⟨_,rfl,IsQ.keep (IsQ.mk be ba) ?_,eA⟩;exact((((KeepT.refl _ wc).setN ab _).setN (ab.set _ _) _).setN ((ab.set _ _).set _ _) _).setN (((ab.set _ _).set _ _).set _ _) _
end
section
open Go.RowKit Go.Shelf Go.Sort Go.Lib
theorem zaB {g:List (Int×Int)} (h:groundB g=true):LnOk g:=by
 unfold groundB at h;rw [Bool.and_eq_true,List.all_eq_true]at h;obtain⟨d,l⟩:=h;unfold wthn at d;simp at d;refine⟨fun e=>by subst e;simp at d,fun p n=>?_,by omega⟩;obtain⟨i,k,rfl⟩:=List.mem_iff_getElem.1 n;have b:=l i (List.mem_range.2 k);unfold grdR at b;rw [gD,gE k,Option.getD_some]at b;simp only [Bool.and_eq_true,Bool.not_eq_true']at b;have f:=b.1;have j:=b.2.1;unfold pfarB at f j;simp at f j
 constructor<;>(unfold Bd;omega)
def holdsB (g:List (Int×Int)) (p:Pl):Bool:=decide (lineL g≤lineL (lowP2 p))&&decide (lineR (lowP2 p)≤lineR g)
def clearB (g:List (Int×Int)) (ps:List Pl) (p:Pl):Bool:=freeB (lowP2 p) g&&!ps.any (clashB p)
theorem form3 {T:TypeId} {k:Nat} {α:Type} {P:V→List I→α→Prop} {w:V} {v:I} {xs:List α} (h:Sl T k P w v xs):∃a n c,v=O a n c:=by obtain⟨a,c,h⟩:=h.form;exact⟨a,_,c,h⟩
theorem zbu (w:V) (l i:I) (ps:List Pl) (b:ByteArray) (t:∃a n c,l=O a n c) (h:IsLas w i ps) :
  Calls Tryz.prog 52 #[J #[l,i],.string b] w fun e w'=>e = .returned (C (ps.any (nameB b)))∧Ext w w':=by
 obtain⟨L,Q,P,rfl⟩:=t;have g:=fun W (r:Ext w W) (d:Nat) (z:W.cell? ⟨d,0,Y⟩=M (.string b))=>zi4 W i ps d (nameB b) (h.ext' r) (fun W' f K p _ y=>zlJ W' K p b d y (f.cellS z))
 obtain⟨a,n,c,rfl⟩:=form3 h;obtain⟨x,k⟩:=gX (ps.any (nameB b));simp only [k]at g ⊢;have o:=hd9 g;clear g k h;have u:∀(j:Fn) (first cap:Array I) (w:V),(Instr.makeFunc j first cap).run Tryz.prog w = .ok (.func j first cap) w:=fun _ _ _ _=>rfl
 go_enter Tryz.func52,Tryz.ntmps52
 go_wp2_with(((go_at_call 129;(with_reducible refine(o.out _ ?_ _ ?_).mono ?_);exact eA;(focus(go_simp;done));rintro e R ⟨rfl,D⟩)))
 go_ret;exact⟨rfl,eA⟩
theorem zdB (w:V) (K L vp:I) (g:List (Int×Int)) (ps:List Pl) (p:Pl) (r:IsPts w K g) (h:IsLas w L ps) (hp:IsLa w vp p) (S:LnOk g) (T:∀q∈ps,placedOk q=true) (x:placedOk p=true) :
  Calls Tryz.prog 53 #[J #[K,L],vp] w fun e w'=>e = .returned (C (clearB g ps p))∧Ext w w':=by
 obtain⟨s1,y,u1,rfl,z,k,D⟩:=hp;have j:=hd9 (fun W (f:Ext w W) (o:Nat) (hq:W.heap[o]?=M (N (lac p s1 y u1) 128 (0,0)))=>zi2 W L ps o (clashB p) (h.ext' f) (fun W' b vq q u t=>zlb W' vq q p o s1 y u1 t ⟨b.heapS hq,z.ext' (f.trans b),k.ext' (f.trans b),D.ext' (f.trans b)⟩ (T q u) x));have l:=hd9 (fun W (f:Ext w W)=>zeX W y K (lowP2 p) g (k.ext' f) (r.ext' f) (zaj x).1 S);obtain⟨ga,gn,gc,rfl⟩:=form3 r;obtain⟨a,n,c,rfl⟩:=form3 h;obtain⟨ae,ag,af,rfl⟩:=form3 z;obtain⟨a1,n1,c1,rfl⟩:=form3 k;obtain⟨ah,aj,ai,rfl⟩:=form3 D;obtain⟨fr,P⟩:=gX (freeB (lowP2 p) g);obtain⟨cl,Q⟩:=gX (ps.any (clashB p));unfold clearB;rw [P]at l ⊢;rw [Q]at j ⊢;obtain⟨nm,sh,d,de,gx,gz,wy,ax,az,sk⟩:=p;clear P Q r h z k D S T x;unfold lac at j ⊢;dsimp only at j ⊢;have ac:∀(R:Fn) (first cap:Array I) (w:V),(Instr.makeFunc R first cap).run Tryz.prog w = .ok (.func R first cap) w:=fun _ _ _ _=>rfl
 cases fr with
 | false =>
  go_enter Tryz.func53,Tryz.ntmps53
  go_wp2_with(go_at_call 131;(with_reducible refine(l.out _ ?_).mono ?_);exact eA;rintro e w1 ⟨rfl,i⟩)
  go_ret;exact⟨rfl,eA⟩
 | true =>
  go_enter Tryz.func53,Tryz.ntmps53
  go_wp2_with(first|(go_at_call 131;(with_reducible refine(l.out _ ?_).mono ?_);exact eA;rintro e w1 ⟨rfl,i⟩;obtain⟨aa,ab⟩:=i.cells)|(go_at_call 129;(with_reducible refine(j.out _ ?_ _ ?_).mono ?_);exact eA;(exact i.heapS (qhA _ _ _ sM));rintro e w2 ⟨rfl,ad⟩))
  go_ret;exact⟨rfl,eA⟩
theorem zdP (w:V) (x vs vp:I) (g:List (Int×Int)) (p:Pl) (t:IsPts w x g) (h:∃a n c,vs=O a n c) (hp:IsLa w vp p) (L:LnOk g) (k2:placedOk p=true) :
  Calls Tryz.prog 51 #[J #[x,vs],vp] w fun e w'=>e = .returned (C (holdsB g p))∧Ext w w':=by
 obtain⟨s1,l1,u1,rfl,p1,u,p3⟩:=hp;have P:=(zaj k2).1;have R:=hd9 (fun(W:V) (j:Ext w W)=>zbG W x g (t.ext' j) (List.length_pos_iff.2 L.1));have T:=hd9 (fun(W:V) (j:Ext w W)=>zbG W l1 (lowP2 p) (u.ext' j) (List.length_pos_iff.2 P.1));have HC:=hd9 (fun(W:V) (j:Ext w W)=>zbA W l1 (lowP2 p) (u.ext' j) (List.length_pos_iff.2 P.1));have HD:=hd9 (fun(W:V) (j:Ext w W)=>zbA W x g (t.ext' j) (List.length_pos_iff.2 L.1));obtain⟨ga,gn,gc,rfl⟩:=form3 t;obtain⟨a,n,c,rfl⟩:=h;obtain⟨aa,ac,ab,rfl⟩:=form3 p1;obtain⟨a1,n1,c1,rfl⟩:=form3 u;obtain⟨ad,af,ae,rfl⟩:=form3 p3;unfold holdsB;obtain⟨z,f1⟩:=gX (lineL g);obtain⟨gr,f2⟩:=gX (lineR g);obtain⟨Q,f3⟩:=gX (lineL (lowP2 p));obtain⟨pr,f4⟩:=gX (lineR (lowP2 p));simp only [f1,f2,f3,f4]at R T HC HD ⊢;obtain⟨nm,sh,d,de,gx,gz,wy,ax,az,sk⟩:=p;clear f1 f2 f3 f4 t p1 u p3 L k2 P;unfold lac;dsimp only;go_enter Tryz.func51,Tryz.ntmps51;go_wp2;refine wp_region_held_drew (S:=CellL [(⟨w.heap.size,0,Y⟩,O ga gn gc),(⟨w.heap.size+1,10,Y⟩,O a1 n1 c1)]) kM cA (fun b=>?_);refine sN 0 ?_
 iterate 2
  refine tkn ?_
 refine oN ?_;refine sN 3 ?_
 iterate 2
  refine tkn ?_
 refine oN ?_;refine cl1 (i:=2) fun K f=>?_
 go_simp
 (with_reducible refine cM (R.out _ eA) ?_)
 rintro e w3 ⟨rfl,D⟩
 skip
 go_wp2_with fail
 refine kO f (cE b D) (fun b=>?_);clear f K;have X3:Ext w w3:=eA;refine cl1 (i:=5) fun K f=>?_
 go_simp
 (with_reducible refine cM (T.out _ X3) ?_)
 rintro e w4 ⟨rfl,k⟩
 skip
 go_wp2_with fail
 refine kO f (cE b k) (fun b=>?_);clear f K;have y:=X3.trans k;refine sN 6 ?_
 iterate 2
  refine tkn ?_
 refine oN ?_
 by_cases g1:z≤Q
 ·have r:decide (z≤Q)=true:=by simpa using g1
  rw [r];refine sN 8 ?_
  iterate 2
   refine tkn ?_
  refine oN ?_;refine sN 11 ?_
  iterate 2
   refine tkn ?_
  refine oN ?_;refine cl1 (i:=10) fun K f=>?_
  go_simp
  (with_reducible refine cM (HC.out _ y) ?_)
  rintro e w5 ⟨rfl,l⟩
  skip
  go_wp2_with fail
  refine kO f (cE b l) (fun b=>?_);clear f K;have X5:=y.trans l;refine cl1 (i:=13) fun K f=>?_
  go_simp
  (with_reducible refine cM (HD.out _ X5) ?_)
  rintro e w6 ⟨rfl,o⟩
  skip
  go_wp2_with fail
  refine kO f (cE b o) (fun b=>?_);clear f K;have X6:=X5.trans o;refine sN 14 ?_
  iterate 3
   refine tkn ?_
  refine oN ?_;refine wpAnyH_done kM ?_ _;go_wp2;go_ret;exact⟨by rw [r];rfl,X6⟩
 ·have r:decide (z≤Q)=false:=by simpa using g1
  rw [r];refine sN 8 ?_
  iterate 2
   refine tkgn ?_
  refine oN ?_;refine sN 11 ?_
  iterate 2
   refine tkgn ?_
  refine oN ?_;refine tkg1 (i:=10) ?_;refine sN 13 ?_
  iterate 2
   refine tkgn ?_
  iterate 2
   refine tkn ?_
  refine oN ?_;refine wpAnyH_done kM ?_ _;go_wp2;go_ret;exact⟨by simp,y⟩
def addE (g:List (Int×Int)) (done:List Pl) (p:Pl):Int:=if placedOk p then (if holdsB g p then (if done.any (nameB p.name)then 7 else 0)else 2)else 2
def laid1 (g:List (Int×Int)):List Pl→List Pl→Int
 | _,[]=>0
 | done,p::r=>if addE g done p=0 then laid1 g (done++[p]) r else addE g done p
def laid2 (g:List (Int×Int)):List Pl→List Pl→Int
 | _,[]=>0
 | done,p::r=>if clearB g done p then laid2 g (done++[p]) r else 12
def laidP (g:List (Int×Int)) (ps:List Pl):Int:=if groundB g then (if 120<ps.length then 5 else if laid1 g [] ps=0 then laid2 g [] ps else laid1 g [] ps)else 2
theorem zcE {α:Type} {ps:List α} {i:Nat} {p:α} (h:ps[i]?=M p):ps.drop i=p::ps.drop (i+1):=by
 obtain⟨b,rfl⟩:=lS.1 h;exact List.drop_eq_getElem_cons b
theorem zeF {g:List (Int×Int)} {ps:List Pl} {i:Nat} {p:Pl} (h:ps[i]?=M p) (b:addE g (ps.take i) p=0):laid1 g (ps.take i) (ps.drop i)=laid1 g (ps.take (i+1)) (ps.drop (i+1)):=by
 rw [zcE h,zab _ _ _ h,laid1,if_pos b]
theorem zcc {g:List (Int×Int)} {ps:List Pl} {i:Nat} {p:Pl} (h:ps[i]?=M p) (b:addE g (ps.take i) p≠0):laid1 g (ps.take i) (ps.drop i)=addE g (ps.take i) p:=by
 rw [zcE h,laid1,if_neg b]
theorem zeG {g:List (Int×Int)} {ps:List Pl} {i:Nat} {p:Pl} (h:ps[i]?=M p) (b:clearB g (ps.take i) p=true):laid2 g (ps.take i) (ps.drop i)=laid2 g (ps.take (i+1)) (ps.drop (i+1)):=by
 rw [zcE h,zab _ _ _ h,laid2,if_pos b]
theorem zeH {g:List (Int×Int)} {ps:List Pl} {i:Nat} {p:Pl} (h:ps[i]?=M p) (b:clearB g (ps.take i) p=false):laid2 g (ps.take i) (ps.drop i)=12:=by
 rw [zcE h,laid2,b];rfl
def OwnLa (w:V) (base:Nat) (v:I) (ps:List Pl):Prop:=∃cs,OwnC 128 12 w base v cs∧cs.length=ps.length∧∀(i:Nat) c p,cs[i]?=M c→ps[i]?=M p→PLa w c p
theorem OwnLa.las {w:V} {base:Nat} {v:I} {ps:List Pl} (h:OwnLa w base v ps):IsLas w v ps:=by
 obtain⟨f,b,d,e⟩:=h;exact b.sl d e
theorem OwnLa.ext {w w':V} {base:Nat} {v:I} {ps:List Pl} (h:OwnLa w base v ps) (k:Ext w w'):OwnLa w' base v ps:=by
 obtain⟨b,d,e,f⟩:=h;exact⟨b,d.ext k,e,fun i c p g j=>(f i c p g j).ext k⟩
theorem OwnLa.nil (w:V) (base:Nat):OwnLa w base (O Y 0 0) []:=⟨[],OwnC.nil _ _ _ _,rfl,fun i c p b=>by simp at b⟩
theorem OwnLa.form3 {w:V} {base:Nat} {v:I} {ps:List Pl} (h:OwnLa w base v ps):∃a n c,v=O a n c:=by obtain⟨d,b,_⟩:=h;exact b.form3
theorem OwnLa.setOther {w:V} {base:Nat} {v:I} {ps:List Pl} {q:Addr} (h:OwnLa w base v ps) (k:v.ownBlock≠M q.block) (j:NoT 43 w q.block) (u:I):OwnLa (w.setCell q u) base v ps:=by
 obtain⟨b,d,e,f⟩:=h;exact⟨b,d.setOther k u,e,fun i c p g l=>(f i c p g l).keep ((KeepT.refl _ w).setN j u)⟩
theorem OwnLa.lt {w:V} {base:Nat} {v:I} {ps:List Pl} (h:OwnLa w base v ps):∀j,v.ownBlock=M j→base≤j∧j<w.heap.size:=by obtain⟨d,b,_⟩:=h;exact b.lt
theorem OwnLa.app {wr f:V} {base:Nat} {k:I} {ps:List Pl} {cs:List (List I)} {d:List I} {p:Pl} (h:OwnC 128 12 f base k (cs++[d])) (g:cs.length=ps.length)
  (j:∀(i:Nat) c p,cs[i]?=M c→ps[i]?=M p→PLa wr c p) (o:KeepT 43 wr f) (l:PLa f d p):OwnLa f base k (ps++[p]):=by
 refine⟨cs++[d],h,by simp [g],fun i c x b e=>?_⟩
 by_cases n:i<cs.length
 ·rw [List.getElem?_append_left n]at b
  rw [List.getElem?_append_left oM]at e;exact(j i c x b e).keep o
 ·rw [List.getElem?_append_right oM]at b e
  have r:=(lS.1 b).1;simp at r;have:i-cs.length=0:=oM
  rw [this]at b;rw [show i-ps.length=0 by omega]at e;simp at b e;subst b e;exact l
theorem znt:(Tryz.prog.info? 128).map (fun i=>(i.zero,i.size,i.bytes))=M (M (J la0),12,152):=kM
theorem zdu (W:V) (cs:Array I) (T:TypeId):∀(j:Nat) u,[cs.toList].flatten[j]?=M u→(W.alloc (N cs T)).cell? ((⟨W.heap.size,0,Y⟩:Addr).add j)=M u:=by
 intro j u b;rw [List.flatten_cons,List.flatten_nil,List.append_nil,Array.getElem?_toList]at b;have e:=qcB (aN W (N cs T)) b;unfold Addr.add
 split
 ·subst j;exact e
 ·rw [show (⟨W.heap.size,0,Y⟩:Addr).off+j=j by simp];exact e
def PPl (w:V) (c:List I) (p:Pl):Prop:=∃v,c=(plc p v).toList∧IsPts w v p.shape∧0≤p.skin
theorem PPl.ext {w w':V} {c:List I} {p:Pl} (h:PPl w c p) (k:Ext w w'):PPl w' c p:=by
 obtain⟨v,b,d,e⟩:=h;exact⟨v,b,d.ext' k,e⟩
abbrev IsPls (w:V) (v:I) (ps:List Pl):Prop:=Sl 47 10 PPl w v ps
theorem IsPls.ext' {w w':V} {v:I} {ps:List Pl} (h:IsPls w v ps) (k:Ext w w'):IsPls w' v ps:=Sl.ext h (fun _ _ h=>PPl.ext h k) k
theorem IsPls.at' {w:V} {a:Option Addr} {n c:Nat} {ps:List Pl} (h:IsPls w (O a n c) ps) {i:Nat} {p:Pl} (r:ps[i]?=M p) :
  ∃b o v,a=M ⟨b,o,Y⟩∧b<w.heap.size∧IsPts w v p.shape∧0≤p.skin∧∀(j:Nat) u,(plc p v)[j]?=M u→w.cell? ⟨b,o+i*10+j,Y⟩=M u:=by
 obtain⟨b,o,d,rfl,g,t,⟨v,rfl,e,f⟩,k⟩:=Sl.at h r;exact⟨b,o,v,rfl,g,e,f,fun j u l=>k j u (by rw [Array.getElem?_toList];exact l)⟩
end
end Go.Proofs.YtjnjpagegkcgfaaGreatDoor.Cop
