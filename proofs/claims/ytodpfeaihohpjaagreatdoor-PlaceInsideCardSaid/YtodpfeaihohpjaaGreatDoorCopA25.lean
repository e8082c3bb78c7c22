/- Part 26: contracts of what the law calls. -/
import Derived.Test.YtodpfeaihohpjaaGreatDoorCopA21
import Derived.Test.YtodpfeaihohpjaaGreatDoorCopA24
set_option maxRecDepth 1000000
set_option maxHeartbeats 16000000
set_option linter.unusedSimpArgs false
set_option linter.unusedVariables false
open Go.Value renaming slice→O,bool→Z,agg→J
open Option renaming none→Y
open Go renaming World→X,Value→I
namespace Go.Proofs.YtodpfeaihohpjaaGreatDoor.Cop
section
open Go.RowKit Go.Shelf Go.Lib
attribute [local go_sem] Oper.semAt_some
theorem zkf (w:X) (va:I) (q:Rat) (m:IsR w va q) (T:Rb 100000 q):Calls Tryz.prog 79 #[va] w (RetR w (q / 2)):=by
 obtain⟨xa,xm,xc,xs,h,l,j,rfl⟩:=m.form;have HO:=hd9 (fun(W:X)=>zfw W 2 oM oM);have z:=hd9 (fun(W:X) (hW:Ext w W) (vb:I) (h2:IsR W vb ((2:Int):Rat))=>zbF W _ vb q ((2:Int):Rat) (m.ext hW) h2 (zaf T dM) (zaf (zau (k:=1000) (by unfold Bd;omega)) dM));have P:q / ((2:Int):Rat)=q / 2:=sM
 rw [P]at z;clear m T P;go_enter Tryz.func79,Tryz.ntmps79;go_wp2;refine wp_region_held_drew (S:=CellL [(⟨w.heap.size,0,Y⟩,O xa xm xc),(⟨w.heap.size,1,Y⟩,Z xs),(⟨w.heap.size,2,Y⟩,O h l j)]) kM cA (fun a=>?_);refine tk1 (i:=0) ?_;refine cl1 (i:=1) fun K b=>?_
 go_simp
 (with_reducible refine cM (HO.out _) ?_)
 rintro e w3 ⟨r3,rfl,d,g⟩;obtain⟨a3,m3,c3,s3,b3,n3,k3,rfl⟩:=d.form
 go_wp2_with fail
 refine kO b (cE a g) (fun a=>?_);clear b K;have D:Ext w w3:=eA;refine cl1 (i:=2) fun K b=>?_
 go_simp
 (with_reducible refine cM (z.out _ D _ d) ?_)
 rintro e w5 ⟨r5,rfl,f,c⟩;obtain⟨a5,m5,c5,s5,b5,n5,k5,rfl⟩:=f.form
 go_wp2_with fail
 refine kO b (cE a c) (fun a=>?_);clear b K;have Q:RB w5 (w.heap.size+1) 0:=((RB.new (IsR.zero _) sM).ext ((eR _).drew.trans g)).ext c;obtain⟨_,_,_,_,_,_,_,o0,o1,o2,aa,ab,ac,zo,_⟩:=Q.rd
 have n:∀q∈[((⟨w.heap.size,0,Y⟩:Addr),Value.slice xa xm xc),(⟨w.heap.size,1,Y⟩,Z xs),(⟨w.heap.size,2,Y⟩,O h l j)],w.heap.size+1≠q.1.block:=by
  intro q hq;simp at hq
  rcases hq with rfl|rfl|rfl<;>(dsimp only;omega)
 refine cl1 (i:=3) fun K b=>?_
 go_simp;refine kO b (CellL.set3 (by assumption) n _ _ _) (fun a=>?_);clear b K;refine wpAnyH_done kM ?_ _;go_wp2;have hP:=Q.put f;obtain⟨pa,pm,r,t,o,s,p,u,x,y,_,_,_,_,hz⟩:=hP.rd;exact bR (v:=J #[O pa pm r,Z t,O o s p]) (by simp [results,Tryz.results79,go_sem,u,x,y]) rfl ⟨_,rfl,hz,(((D.trans c).set dO _).set dO _).set dO _⟩
def RetCr (w:X) (l:List Rat) (e:Ending) (w':X):Prop:=∃r,e = .returned (.tuple #[r,Z (!l.isEmpty)])∧IsR w' r (l.headD 0)∧Ext w w'
theorem zfL (w:X) (v1 v2 vf vt:I) (a b:List (Int×Int)) (y x:Rat) (h1:IsPts w v1 a) (h2:IsPts w v2 b) (k1:LnOk a) (k2:LnOk b) (hy:IsR w vf y) (hx:IsR w vt x) (aj:Rb 300 y) (ai:Rb 300 x) :
  Calls Tryz.prog 73 #[v1,v2,vf,vt] w (RetCr w (crossL (dif a b) y x)):=by
 have fy:∀{l:List (Int×Int)} {z:Rat},LnOk l→Rb 300 z→Rb 1207 (atR l z):=fun hl hz=>(Rb.atG (k:=300) dM hz hl).up dM
 have dy:Rb 2415 (dif a b y):=(Rb.sub (k:=1207) (fy k1 aj) (fy k2 aj)).up dM;have dx:Rb 2415 (dif a b x):=(Rb.sub (k:=1207) (fy k1 ai) (fy k2 ai)).up dM;have H1:=hd9 (fun(W:X) (hW:Ext w W)=>za7 W _ _ a y (h1.ext' hW) k1 (hy.ext hW) (aj.up dM));have H2:=hd9 (fun(W:X) (hW:Ext w W)=>za7 W _ _ b y (h2.ext' hW) k2 (hy.ext hW) (aj.up dM));have H3:=hd9 (fun(W:X) (hW:Ext w W)=>za7 W _ _ a x (h1.ext' hW) k1 (hx.ext hW) (ai.up dM));have H4:=hd9 (fun(W:X) (hW:Ext w W)=>za7 W _ _ b x (h2.ext' hW) k2 (hx.ext hW) (ai.up dM));have aB:=hd9 (fun(W:X) (va vb:I) (q1:IsR W va (atR a y)) (q2:IsR W vb (atR b y))=>(show Calls Tryz.prog 20 #[va,vb] W (RetR W (dif a b y))from zat W va vb _ _ q1 q2 (zaf (fy k1 aj) dM) (zaf (fy k2 aj) dM)));have aC:=hd9 (fun(W:X) (va vb:I) (q1:IsR W va (atR a x)) (q2:IsR W vb (atR b x))=>(show Calls Tryz.prog 20 #[va,vb] W (RetR W (dif a b x))from zat W va vb _ _ q1 q2 (zaf (fy k1 ai) dM) (zaf (fy k2 ai) dM)));have dd:Rb 4831 (dif a b y-dif a b x):=(Rb.sub (k:=2415) dy dx).up dM;have dq:Rb 7246 (dif a b y / (dif a b y-dif a b x)):=(Rb.div (j:=2415) (k:=4831) dy dd oM).up dM;have dt:Rb 601 (x-y):=(Rb.sub (k:=300) ai aj).up dM;have dm:Rb 7847 (dif a b y / (dif a b y-dif a b x)*(x-y)):=(Rb.mul (j:=7246) (k:=601) dq dt).up dM;have HY:=hd9 (fun(W:X) (hW:Ext w W)=>hy.ext hW);have HX:=hd9 (fun(W:X) (hW:Ext w W)=>hx.ext hW);have HD:=hd9 (And.intro (And.intro dy dx) (And.intro dd (And.intro dq (And.intro dt dm))));have aT:=hd9 (And.intro aj ai);obtain⟨a1,n1,m1,rfl⟩:=form3 h1;obtain⟨a2,n2,m2,rfl⟩:=form3 h2;obtain⟨ya,ym,yc,ys,aq,au,ar,rfl⟩:=hy.form;obtain⟨xa,xm,xc,xs,an,ap,ao,rfl⟩:=hx.form;obtain⟨R,hR⟩:=gX (RetCr w (crossL (dif a b) y x));rw [hR];have HR:=hd9 hR;unfold crossL crossR at HR;obtain⟨d,hd⟩:=gX (dif a b y);obtain⟨e,he⟩:=gX (dif a b x);rw [hd,he]at HR HD;rw [hd]at aB;rw [he]at aC;obtain⟨z1,bu⟩:=gX (atR a y);obtain⟨z2,bv⟩:=gX (atR b y);obtain⟨z3,bw⟩:=gX (atR a x);obtain⟨z4,bx⟩:=gX (atR b x);rw [bu]at H1 aB;rw [bv]at H2 aB;rw [bw]at H3 aC;rw [bx]at H4 aC;clear fy dy dx dd dq dt dm hR hd he bu bv bw bx h1 h2 k1 k2 aj ai hy hx;go_enter Tryz.func73,Tryz.ntmps73;go_wp2;have C0:CellL [(⟨w.heap.size,0,Y⟩,O ya ym yc),(⟨w.heap.size,1,Y⟩,Z ys),(⟨w.heap.size,2,Y⟩,O aq au ar),(⟨w.heap.size+1,0,Y⟩,O xa xm xc),(⟨w.heap.size+1,1,Y⟩,Z xs),(⟨w.heap.size+1,2,Y⟩,O an ap ao)] (((w.alloc (.cells #[O ya ym yc,Z ys,O aq au ar] 65)).alloc (.cells #[O xa xm xc,Z xs,O an ap ao] 65)).alloc (.cells #[O Y 0 0,Z false,O Y 0 0] 65)):=by refine⟨?_,?_,?_,?_,?_,?_,trivial⟩<;>go_simp
 obtain⟨W1,aE⟩:=gX ((((w.alloc (.cells #[O ya ym yc,Z ys,O aq au ar] 65)).alloc (.cells #[O xa xm xc,Z xs,O an ap ao] 65)).alloc (.cells #[O Y 0 0,Z false,O Y 0 0] 65)));rw [aE]at C0;have C1:CellL [(⟨w.heap.size,0,Y⟩,O ya ym yc),(⟨w.heap.size,1,Y⟩,Z ys),(⟨w.heap.size,2,Y⟩,O aq au ar),(⟨w.heap.size+1,0,Y⟩,O xa xm xc),(⟨w.heap.size+1,1,Y⟩,Z xs),(⟨w.heap.size+1,2,Y⟩,O an ap ao)] W1.drew:=cE C0 (eR _).drew;have X1:Ext w W1:=by rw [←aE];exact(((eR w).alloc _).alloc _).alloc _
 have K1:W1.heap[w.heap.size+1+1]?=some (.cells #[O Y 0 0,Z false,O Y 0 0] 65 (0,0)):=by
  rw [←aE];exact qhA _ _ _ sM
 have b0:=zaa K1;rw [aE];clear aE;refine zbb [(14,10,.cells #[O Y 0 0,Z false,O Y 0 0] 65 (0,0)),(15,11,.cells #[O Y 0 0,Z false,O Y 0 0] 65 (0,0))] _ 16 4 (fun i=>decide (15<i)) (fun _=>false) kM kM kM sM kM (by intro x hx;simp only [List.mem_cons,List.not_mem_nil,or_false]at hx;rcases hx with rfl|rfl<;>exact⟨_,rfl,rfl,fun a W=>by go_simp⟩) (fun _ _ d _ _ h=>by cases d<;>exact h) C1 (fun g=>?_);refine tf1 (i:=0) ?_;refine tf1 (i:=1) ?_;refine tf1 (i:=3) ?_;refine tf1 (i:=4) ?_;refine tf1 (i:=7) ?_;refine tf1 (i:=8) ?_;refine tf1 (i:=10) ?_;refine tf1 (i:=11) ?_;refine cf1 (i:=2) fun W2 aF bj af K f=>?_
 go_simp
 (with_reducible refine cM (H1.out _ (X1.drew.trans aF)) ?_)
 rintro e w2 ⟨r2,rfl,aZ,al⟩;obtain⟨b3,b7,b5,b9,b4,b8,b6,rfl⟩:=aZ.form
 go_wp2_with fail
 refine kO f (.of bj al) (fun _ _=>?_);clear f K af;have X2:Ext w w2:=(X1.drew.trans aF).trans al;refine cf1 (i:=5) fun W5 av bk af K f=>?_
 go_simp
 (with_reducible refine cM (H2.out _ (X2.trans av)) ?_)
 rintro e w5 ⟨r5,rfl,ay,am⟩;obtain⟨ca,ce,cc,cg,cb,cf,cd,rfl⟩:=ay.form
 go_wp2_with fail
 refine kO f (.of bk am) (fun _ _=>?_);clear f K af;have X5:Ext w w5:=(X2.trans av).trans am;refine cf1 (i:=6) fun W6 aw bl af K f=>?_
 go_simp
 (with_reducible refine cM (aB.out _ _ _ ((aZ.ext (av.trans am)).ext aw) (ay.ext aw)) ?_)
 rintro e w6 ⟨r6,rfl,az,aA⟩;obtain⟨o,t,r,P,p,D,s,rfl⟩:=az.form
 go_wp2_with fail
 refine kO f (.of bl aA) (fun _ _=>?_);clear f K af;have X6:Ext w w6:=(X5.trans aw).trans aA;refine cf1 (i:=9) fun W9 ax bm af K f=>?_
 go_simp
 (with_reducible refine cM (H3.out _ (X6.trans ax)) ?_)
 rintro e w9 ⟨r9,rfl,a0,aO⟩;obtain⟨ch,cl,cj,cn,ci,cm,ck,rfl⟩:=a0.form
 go_wp2_with fail
 refine kO f (.of bm aO) (fun _ _=>?_);clear f K af;have X9:Ext w w9:=(X6.trans ax).trans aO;refine cf1 (i:=12) fun cw ag aX af K f=>?_
 go_simp
 (with_reducible refine cM (H4.out _ (X9.trans ag)) ?_)
 rintro e bZ ⟨cy,rfl,aG,ak⟩;obtain⟨co,ct,cq,cv,cp,cu,cr,rfl⟩:=aG.form
 go_wp2_with fail
 refine kO f (.of aX ak) (fun _ _=>?_);clear f K af;have bM:Ext w bZ:=(X9.trans ag).trans ak;refine cf1 (i:=13) fun cx ah aY af K f=>?_
 go_simp
 (with_reducible refine cM (aC.out _ _ _ ((a0.ext (ag.trans ak)).ext ah) (aG.ext ah)) ?_)
 rintro e cB ⟨cz,rfl,aH,aI⟩;obtain⟨Q,ac,aa,ae,T,ad,ab,rfl⟩:=aH.form
 go_wp2_with fail
 refine kO f (.of aY aI) (fun _ _=>?_);clear f K af;refine df kM (fun V aW aL=>?_);intro m q5 y5 _ _ n q6 y6 aP _;have aP:n≠m:=by simpa using aP
 have hd:=(((az.ext (ax.trans aO)).ext (ag.trans ak)).ext (ah.trans aI)).ext aW;have he:=aH.ext aW;have YV:Ext W1 V:=(eR W1).drew.trans aL;have kf:=qfB q5;have kg:=qfB q6;have g0:=qcB q5 (i:=0) (u:=O Y 0 0) rfl;have g1:=qcB q5 (i:=1) (u:=Z false) rfl;have g2:=qcB q5 (i:=2) (u:=O Y 0 0) rfl;have g3:=qcB q6 (i:=0) (u:=O Y 0 0) rfl;have g4:=qcB q6 (i:=1) (u:=Z false) rfl;have g5:=qcB q6 (i:=2) (u:=O Y 0 0) rfl;clear aF av aw ax ag ah aW al am aA aO ak aI aZ ay az a0 aG aH X2 X5 X6 X9 bM H1 H2 H3 H4 aB aC;refine cl1 (i:=16) fun K f=>?_
 go_simp;refine kO f (cE g (by(repeat refine Ext.set ?_ (by first|exact y5|exact y6) _);exact aL)) (fun bi=>?_);clear f K;refine cl1 (i:=17) fun K f=>?_
 go_simp;refine kO f (cE g (by(repeat refine Ext.set ?_ (by first|exact y5|exact y6) _);exact aL)) (fun bi=>?_);clear f K;refine wpAnyH_done kM ?_ _;clear g0 g1 g2 g3 g4 g5 kf kg bi;obtain⟨W7,aV⟩:=gX (stL (stL V m 0 [O o t r,Z P,O p D s]) n 0 [O Q ac aa,Z ae,O T ad ab]);have e7:(((((V.setCell ⟨m,0,Y⟩ (O o t r)).setCell ⟨m,1,Y⟩ (Z P)).setCell ⟨m,2,Y⟩ (O p D s)).setCell ⟨n,0,Y⟩ (O Q ac aa)).setCell ⟨n,1,Y⟩ (Z ae)).setCell ⟨n,2,Y⟩ (O T ad ab)=W7:=aV;rw [e7];have TB:=zeB (cs:=[O Y 0 0,Z false,O Y 0 0]) (ds:=[O Y 0 0,Z false,O Y 0 0]) [O o t r,Z P,O p D s] [O Q ac aa,Z ae,O T ad ab] q5 q6 aP rfl rfl;rw [aV]at TB;obtain⟨aJ,aK,tb,tk,te⟩:=TB;simp only [qdZ]at y5 y6;have KR:=(tb (w.heap.size+1+1) oM oM).trans (YV.heapS K1);have CX:CellL [(⟨w.heap.size,0,Y⟩,O ya ym yc),(⟨w.heap.size,1,Y⟩,Z ys),(⟨w.heap.size,2,Y⟩,O aq au ar),(⟨w.heap.size+1,0,Y⟩,O xa xm xc),(⟨w.heap.size+1,1,Y⟩,Z xs),(⟨w.heap.size+1,2,Y⟩,O an ap ao)] V:=cE C0 YV;have X7:=te w (X1.trans YV) (nT X1.size y5) (nT X1.size y6);have ki:=tk 2 dM dM;have bn:=hd.keep ki;have bo:=he.keep ki;have bh:=te W1 YV y5 y6;have C7:=cE C0 bh;have C2:CellL [(⟨m,0,Y⟩,O o t r),(⟨m,1,Y⟩,Z P),(⟨m,2,Y⟩,O p D s),(⟨n,0,Y⟩,O Q ac aa),(⟨n,1,Y⟩,Z ae),(⟨n,2,Y⟩,O T ad ab)] W7:=⟨qcB aJ (i:=0) rfl,qcB aJ (i:=1) rfl,qcB aJ (i:=2) rfl,qcB aK (i:=0) rfl,qcB aK (i:=1) rfl,qcB aK (i:=2) rfl,trivial⟩;have bf:RB W7 (w.heap.size+1+1) 0:=⟨_,_,_,_,_,_,_,KR,IsR.zero _⟩;have cC:w.heap.size+1+1<m∧w.heap.size+1+1<n:=oM
 obtain⟨sd,a3⟩:=gX d.num.sign;obtain⟨se,a4⟩:=gX e.num.sign;have aR:=hd9 (fun(W:X) (v:I) (h:IsR W v d)=>a3▸zbp W v d h);have aS:=hd9 (fun(W:X) (v:I) (h:IsR W v e)=>a4▸zbp W v e h);have b1:=zcl d;have b2:=zcl e;rw [a3]at b1 HR;rw [a4]at b2 HR
 have qw:IntKind.i64.wrap (sd*se)=sd*se:=by
  have h1:sd = -1∨sd=0∨sd=1:=oM
  have h2:se = -1∨se=0∨se=1:=oM
  rcases h1 with rfl|rfl|rfl<;>rcases h2 with rfl|rfl|rfl<;>decide
 have aU:=hd9 bn;have bg:=hd9 bo;have aQ:=hd9 bf;have aD:=hd9 X7;have bK:=hd9 C7;have bJ:=hd9 C2;clear a3 a4 b1 b2 aV e7 tb tk te ki hd he q5 q6 y5 y6 aP aL YV g C1 CX aJ aK KR bf bh X1 b0 K1 C0 C7 bn bo X7
 go_upto_region 2 with fail
 refine wp_region_held_drew (S:=CellL [(⟨m,0,Y⟩,O o t r),(⟨m,1,Y⟩,Z P),(⟨m,2,Y⟩,O p D s),(⟨n,0,Y⟩,O Q ac aa),(⟨n,1,Y⟩,Z ae),(⟨n,2,Y⟩,O T ad ab)]) kM C2 (fun g=>?_);refine tk1 (i:=0) ?_;refine tk1 (i:=2) ?_;refine cl1 (i:=1) fun K f=>?_
 go_simp
 (with_reducible refine cM (aR.out _ _ (aU.out.ext (eR W7).drew)) ?_)
 rintro e w1 ⟨rfl,aM⟩
 skip
 go_wp2_with fail
 refine kO f (cE g aM) (fun g=>?_);clear f K;have Xa:Ext W7 w1:=(eR W7).drew.trans aM;refine cl1 (i:=3) fun K f=>?_
 go_simp
 (with_reducible refine cM (aS.out _ _ (bg.out.ext Xa)) ?_)
 rintro e w2 ⟨rfl,al⟩
 skip
 go_wp2_with fail
 refine kO f (cE g al) (fun g=>?_);clear f K;have Xb:Ext W7 w2:=Xa.trans al
 by_cases c:sd*se<0
 ·rw [if_pos c]at HR
  have c1:decide (0≤sd*se)=false:=by simp;omega
  refine sN 4 ?_
  iterate 2
   refine tkn ?_
  refine oN ?_;refine wpAnyH_done kM ?_ _
  have C4:CellL [(⟨w.heap.size,0,Y⟩,O ya ym yc),(⟨w.heap.size,1,Y⟩,Z ys),(⟨w.heap.size,2,Y⟩,O aq au ar),(⟨w.heap.size+1,0,Y⟩,O xa xm xc),(⟨w.heap.size+1,1,Y⟩,Z xs),(⟨w.heap.size+1,2,Y⟩,O an ap ao),(⟨m,0,Y⟩,O o t r),(⟨m,1,Y⟩,Z P),(⟨m,2,Y⟩,O p D s),(⟨n,0,Y⟩,O Q ac aa),(⟨n,1,Y⟩,Z ae),(⟨n,2,Y⟩,O T ad ab)] w2:=by
   obtain⟨bN,bO,bP,bQ,bT,bU,-⟩:=cE bK.out Xb;exact⟨bN,bO,bP,bQ,bT,bU,cE bJ.out Xb⟩
  have bL:=hd9 Xb;have HO:=hd9 (aQ.out.ext Xb);obtain⟨⟨bb,bz⟩,bA,bB,bC,bD⟩:=HD.out;have bE:=hd9 (fun(W:X) (hW:Ext w2 W)=>zat W _ _ d e (aU.out.ext (Xb.trans hW)) (bg.out.ext (Xb.trans hW)) (zaf bb dM) (zaf bz dM));have bF:=hd9 (fun(W:X) (hW:Ext w2 W) (vb:I) (h:IsR W vb (d-e))=>zbF W _ vb d (d-e) (aU.out.ext (Xb.trans hW)) h (zaf bb dM) (zaf bA dM));have bG:=hd9 (fun(W:X) (hW:Ext w2 W)=>zat W _ _ x y (HX.out W (aD.out.trans (Xb.trans hW))) (HY.out W (aD.out.trans (Xb.trans hW))) (zaf aT.out.2 dM) (zaf aT.out.1 dM));have bH:=hd9 (fun(W:X) (va vb:I) (h:IsR W va (d / (d-e))) (h2:IsR W vb (x-y))=>zbx W va vb _ _ h h2 (zaf bB dM) (zaf bC dM));have bI:=hd9 (fun(W:X) (hW:Ext w2 W) (vb:I) (h:IsR W vb (d / (d-e)*(x-y)))=>zaZ W _ vb y _ (HY.out W (aD.out.trans (Xb.trans hW))) h (zaf aT.out.1 dM) (zaf bD dM));clear g aM al Xa Xb aR aS qw c c1 bb bz bA bB bC bD
  go_upto_region 4 with fail
  refine wp_region_held_drew (S:=CellL [(⟨w.heap.size,0,Y⟩,O ya ym yc),(⟨w.heap.size,1,Y⟩,Z ys),(⟨w.heap.size,2,Y⟩,O aq au ar),(⟨w.heap.size+1,0,Y⟩,O xa xm xc),(⟨w.heap.size+1,1,Y⟩,Z xs),(⟨w.heap.size+1,2,Y⟩,O an ap ao),(⟨m,0,Y⟩,O o t r),(⟨m,1,Y⟩,Z P),(⟨m,2,Y⟩,O p D s),(⟨n,0,Y⟩,O Q ac aa),(⟨n,1,Y⟩,Z ae),(⟨n,2,Y⟩,O T ad ab)]) kM C4 (fun g=>?_);refine tk1 (i:=0) ?_;refine tk1 (i:=1) ?_;refine tk1 (i:=2) ?_;refine tk1 (i:=3) ?_;refine tk1 (i:=6) ?_;refine tk1 (i:=7) ?_;refine cl1 (i:=4) fun K f=>?_
  go_simp
  (with_reducible refine cM (bE.out _ (eR w2).drew) ?_)
  rintro e w3 ⟨r3,rfl,bp,bs⟩;obtain⟨u1,u2,u3,u4,u5,u6,u7,rfl⟩:=bp.form
  go_wp2_with fail
  refine kO f (cE g bs) (fun g=>?_);clear f K;have X3:Ext w2 w3:=(eR w2).drew.trans bs;refine cl1 (i:=5) fun K f=>?_
  go_simp
  (with_reducible refine cM (bF.out _ X3 _ bp) ?_)
  rintro e w4 ⟨r4,rfl,bq,a5⟩;obtain⟨t1,t2,t3,t4,t5,t6,t7,rfl⟩:=bq.form
  go_wp2_with fail
  refine kO f (cE g a5) (fun g=>?_);clear f K;refine cl1 (i:=8) fun K f=>?_
  go_simp
  (with_reducible refine cM (bG.out _ (X3.trans a5)) ?_)
  rintro e w5 ⟨r5,rfl,ay,am⟩;obtain⟨s1,s2,s3,s4,s5,s6,s7,rfl⟩:=ay.form
  go_wp2_with fail
  refine kO f (cE g am) (fun g=>?_);clear f K;refine cl1 (i:=9) fun K f=>?_
  go_simp
  (with_reducible refine cM (bH.out _ _ _ (bq.ext am) ay) ?_)
  rintro e w6 ⟨r6,rfl,az,aA⟩;obtain⟨q1,q2,q3,q4,q5,q6,q7,rfl⟩:=az.form
  go_wp2_with fail
  refine kO f (cE g aA) (fun g=>?_);clear f K;have X6:Ext w2 w6:=((X3.trans a5).trans am).trans aA;refine cl1 (i:=10) fun K f=>?_
  go_simp
  (with_reducible refine cM (bI.out _ X6 _ az) ?_)
  rintro e w7 ⟨r7,rfl,br,bt⟩;obtain⟨p1,p2,p3,p4,p5,p6,p7,rfl⟩:=br.form
  go_wp2_with fail
  refine kO f (cE g bt) (fun g=>?_);clear f K;have X7:Ext w2 w7:=X6.trans bt;have hO:=HO.out.ext X7;obtain⟨_,_,_,_,_,_,_,o0,o1,o2,bW,bX,bY,zo,_⟩:=hO.rd
  have bV:∀q∈[((⟨w.heap.size,0,Y⟩:Addr),(O ya ym yc:I)),(⟨w.heap.size,1,Y⟩,Z ys),(⟨w.heap.size,2,Y⟩,O aq au ar),(⟨w.heap.size+1,0,Y⟩,O xa xm xc),(⟨w.heap.size+1,1,Y⟩,Z xs),(⟨w.heap.size+1,2,Y⟩,O an ap ao),(⟨m,0,Y⟩,O o t r),(⟨m,1,Y⟩,Z P),(⟨m,2,Y⟩,O p D s),(⟨n,0,Y⟩,O Q ac aa),(⟨n,1,Y⟩,Z ae),(⟨n,2,Y⟩,O T ad ab)],w.heap.size+1+1≠q.1.block:=by
   intro q hq;simp at hq
   rcases hq with rfl|rfl|rfl|rfl|rfl|rfl|rfl|rfl|rfl|rfl|rfl|rfl<;>(dsimp only;omega)
  refine cl1 (i:=11) fun K f=>?_
  go_simp;refine kO f (CellL.set3 (by assumption) bV _ _ _) (fun g=>?_);clear f K;refine tk1 (i:=12) ?_;refine wpAnyH_done kM ?_ _;have Xw:=hd9 (aD.out.trans (bL.out.trans X7));go_wp2;have hP:=hO.put br;obtain⟨pa,pm,a8,ba,a6,a9,a7,bc,bd,be,_,_,_,_,hz⟩:=hP.rd;refine bR (v:=.tuple #[J #[O pa pm a8,Z ba,O a6 a9 a7],Z true]) (by simp [results,Tryz.results73,go_sem,bc,bd,be]) rfl ?_;rw [←HR.out];exact⟨_,rfl,hz,((Xw.out.set dO _).set dO _).set dO _⟩
 ·rw [if_neg c]at HR
  have c1:decide (0≤sd*se)=true:=by simp;omega
  have c2:0≤sd*se:=oM
  refine sN 4 ?_
  iterate 2
   refine tkn ?_
  refine oN ?_;refine wpAnyH_done kM ?_ _;have hO:=aQ.out.ext Xb;have Xw:=hd9 (aD.out.trans Xb);obtain⟨_,_,_,_,_,_,_,o0,o1,o2,bW,bX,bY,zo,_⟩:=hO.rd;clear g aM al Xa Xb aR aS qw c;go_wp2;have hP:=hO.put (IsR.zero w2);obtain⟨pa,pm,a8,ba,a6,a9,a7,bc,bd,be,_,_,_,_,hz⟩:=hP.rd;refine bR (v:=.tuple #[J #[O pa pm a8,Z ba,O a6 a9 a7],Z false]) (by simp [results,Tryz.results73,go_sem,bc,bd,be]) rfl ?_;rw [←HR.out];exact⟨_,rfl,hz,((Xw.out.set dO _).set dO _).set dO _⟩
theorem zk4 (w:X) (v:I) (f:Rat→Rat) (Q:List Rat) (c1 c2:Nat) (hs:IsRs w v Q) (hg:∀W,Ext w W→∀vx x,IsR W vx x→x∈Q→Calls Tryz.prog 78 #[vx,.pointer (some ⟨c1,0,Y⟩),.pointer (some ⟨c2,0,Y⟩)] W (RetR W (f x))) (hf:∀q∈Q,Rb limR (f q)) :
  Calls Tryz.prog 77 #[v,.func (.func 78) #[] #[.pointer (some ⟨c1,0,Y⟩),.pointer (some ⟨c2,0,Y⟩)]] w (RetR2 w (bestR f Q).1 (bestR f Q).2):=by
 obtain⟨a,c,rfl⟩:=hs.form;obtain⟨n,hn⟩:=gX Q.length;rw [hn]at hs ⊢;have aK:=hs.le;unfold maxLen at aK;have Hn:=hd9 hn;have Hf:=hd9 hf;have aS:n≤9223372036854775807:=oM
 have HG:=hd9 hg;obtain⟨R,hR⟩:=gX (RetR2 w (bestR f Q).1 (bestR f Q).2);rw [hR];have HR:=hd9 hR;clear hn aK hg hf hR;go_enter Tryz.func77,Tryz.ntmps77;go_wp2
 go_loopg [13] n (BeS w f Q)
 case atStart =>
  have z:∀W,IsR W (J #[O Y 0 0,Z false,O Y 0 0]) 0:=fun W=>IsR.zero _
  exact⟨0,by omega,rfl,by rw [Hn.out];rfl,eA,(RB.new (z w) rfl).ext ((((eR _).alloc _).alloc _).alloc _),(RB.new (z _) sM).ext (((eR _).alloc _).alloc _),(RB.new (z _) sM).ext ((eR _).alloc _),RB.new (z _) sM⟩
 case round =>
  obtain⟨i,hi,rfl,rfl,hx,hA,hB,hC,hD⟩:=hrel;rw [Hn.out]at hi;have Hx:=hd9 hx;have HA:=hd9 hA;have HB:=hd9 hB;have HC:=hd9 hC;have HD:=hd9 hD
  by_cases aP:i<n
  ·obtain⟨x,al⟩:∃x,Q[i]?=some x:=⟨Q[i]'(by rw [Hn.out];omega),by simp [Hn.out,aP]⟩
   obtain⟨b,o,a3,m3,c3,s3,a4,m4,c4,rfl,aR,ae,e0,e1,e2⟩:=(hs.ext' hx).at' al;have ax:=hd9 al;have aH:=lM al;have ai:=hd9 aH;clear al hA hB hC hx aH;obtain⟨d1,dm,dc,ds,d2,aF,aB,ay,az,aA,aC,aD,aE,zD,am⟩:=hD.rd
   by_cases h0:i=0
   ·have aM:((i:Int)==0)=true:=by simp;omega
    have H0:=hd9 h0;clear h0 hD
    go_wp2_with(((go_at_call 78;(with_reducible refine(HG.out _ ?_ (J #[O a3 m3 c3,Z s3,O a4 m4 c4]) x ?_ ai.out).mono ?_);(refine Ext.trans Hx.out ?_;exact eA);(refine ae.ext ?_;exact eA);rintro e w1 ⟨r1,rfl,T,g⟩;obtain⟨b1,n1,k1,t1,b2,n2,k2,rfl⟩:=T.form;obtain⟨aj,ak⟩:=g.cells;(have z1:wr.heap.size<w1.heap.size:=(by have:=g.size;simp only [wZ]at this;omega)))))
    obtain⟨W8,ag⟩:=gX ((w1.alloc (.cells #[O b1 n1 k1,Z t1,O b2 n2 k2] 65)));have d:Ext wr W8:=by rw [←ag];exact(((eR _).alloc _).trans g).alloc _
    have g1:RB W8 wr.heap.size x:=by rw [←ag];exact((RB.new ae rfl).ext g).ext ((eR _).alloc _)
    have g2:RB W8 w1.heap.size (f x):=by rw [←ag];exact RB.new T rfl
    have g3:=HC.out.ext d;have g4:=HD.out.ext d;have zW:=d.size;obtain⟨s1,ah⟩:=gX w1.heap.size;rw [ag];simp only [ah]at *;clear ag aj ak T g am ay az aA aC aD aE ah e0 e1 e2 ae;obtain⟨pa,pm,m,ps,l,r,p,p0,p1,p2,_,_,_,pz,hp⟩:=(g1).rd;obtain⟨qa,qm,qc,y,s,u,t,q0,q1,q2,_,_,_,qz,af⟩:=(g2).rd;obtain⟨_,_,_,_,_,_,_,x0,x1,x2,an,ao,ap,xz,_⟩:=(g3).rd;obtain⟨_,_,_,_,_,_,_,y0,y1,y2,aq,ar,au,yz,_⟩:=(g4).rd;refine wp_region_held_drew (S:=CellL [(⟨wr.heap.size,0,Y⟩,O pa pm m),(⟨wr.heap.size,1,Y⟩,Z ps),(⟨wr.heap.size,2,Y⟩,O l r p),(⟨s1,0,Y⟩,O qa qm qc),(⟨s1,1,Y⟩,Z y),(⟨s1,2,Y⟩,O s u t)]) kM cA (fun j=>?_);refine sN 0 ?_
    iterate 2
     refine tkn ?_
    refine oN ?_
    have aa:∀q∈[((⟨wr.heap.size,0,Y⟩:Addr),Value.slice pa pm m),(⟨wr.heap.size,1,Y⟩,Z ps),(⟨wr.heap.size,2,Y⟩,O l r p),(⟨s1,0,Y⟩,O qa qm qc),(⟨s1,1,Y⟩,Z y),(⟨s1,2,Y⟩,O s u t)],w.heap.size+1+1≠q.1.block:=by
     intro q hq;simp at hq
     rcases hq with rfl|rfl|rfl|rfl|rfl|rfl<;>(dsimp only;omega)
    have ab:∀q∈[((⟨wr.heap.size,0,Y⟩:Addr),Value.slice pa pm m),(⟨wr.heap.size,1,Y⟩,Z ps),(⟨wr.heap.size,2,Y⟩,O l r p),(⟨s1,0,Y⟩,O qa qm qc),(⟨s1,1,Y⟩,Z y),(⟨s1,2,Y⟩,O s u t)],w.heap.size+1+1+1≠q.1.block:=by
     intro q hq;simp at hq
     rcases hq with rfl|rfl|rfl|rfl|rfl|rfl<;>(dsimp only;omega)
    refine cl1 (i:=2) fun K hK=>?_
    go_simp;refine kO hK (CellL.set3d j aa _ _ _) (fun j=>?_);clear hK K;refine cl1 (i:=3) fun K hK=>?_
    go_simp;refine kO hK (CellL.set3d j ab _ _ _) (fun j=>?_);clear hK K;refine wpAnyH_done kM ?_ _
    have e:bestR f (Q.take (i+1))=(x,f x):=by
     have:=H0.out;subst this;rw [zab _ _ _ ax.out];simp [bestR]
    have E:=hd9 e;have ad:=hd9 d;have P:=hd9 (RB.copy2 g3 g4 oM hp af rfl rfl);clear e d g1 g2 g3 g4;go_wp2
    go_roundg (n-(i+1))
    case measure=>have:=Hn.out;omega
    case rel =>
     obtain⟨P1,P2,P3,P4,P5,P6⟩:=P.out;have D:=fun W=>(eR W).drew
     exact⟨i+1,by rw [Hn.out];omega,by go_num,by rw [Hn.out],(P6 w (Hx.out.trans ad.out) oM oM).drew,
      (P3 _ _ oM oM (HA.out.ext ad.out)).ext (D _),(P3 _ _ oM oM (HB.out.ext ad.out)).ext (D _),by rw [E.out];exact P1.ext (D _),by rw [E.out];exact P2.ext (D _)⟩
   ·have aM:((i:Int)==0)=false:=by simp;omega
    have H0:=hd9 h0;clear h0 hD
    have aG:Rb limR (bestR f (Q.take i)).2:=by
     have aQ:Q.take i≠[]:=fun h=>by
      have h2:(Q.take i).length=0:=by rw [h];rfl
      rw [List.length_take,Hn.out]at h2;have:=H0.out;omega
     obtain⟨j1,j2⟩:=zav f aQ;rw [j2];exact Hf.out _ (List.mem_of_mem_take j1)
    have aL:=hd9 aG;clear aG
    have e:bestR f (Q.take (i+1))=bestStep f (bestR f (Q.take i)) x:=by
     rw [zab _ _ _ ax.out,zeK];intro h;have h2:(Q.take i).length=0:=by rw [h];rfl
     rw [List.length_take,Hn.out]at h2;have:=H0.out;omega
    have E:=hd9 e;clear e;obtain⟨k,hk⟩:=gX (rcmp (f x) (bestR f (Q.take i)).2);have Hk:=hd9 hk;have av:=hd9 (Hf.out x ai.out);have aw:=hd9 aL.out;clear hk;have aT:w.heap.size+1+1+1<wr.heap.size+1:=oM
    by_cases aO:k<0
    ·go_wp2_with(first|(go_at_call 78;(with_reducible refine(HG.out _ ?_ (J #[O a3 m3 c3,Z s3,O a4 m4 c4]) x ?_ ai.out).mono ?_);(refine Ext.trans Hx.out ?_;exact eA);(refine ae.ext ?_;exact eA);rintro e w1 ⟨r1,rfl,T,g⟩;obtain⟨b1,n1,k1,t1,b2,n2,k2,rfl⟩:=T.form;obtain⟨aj,ak⟩:=g.cells;(have z1:wr.heap.size<w1.heap.size:=(by have:=g.size;simp only [wZ]at this;omega));(have z2:w.heap.size+1+1+1<w1.heap.size:=oM))|(go_at_call 19;(with_reducible refine(zan _ (J #[O b1 n1 k1,Z t1,O b2 n2 k2]) (J #[O d1 dm dc,Z ds,O d2 aF aB]) _ _ (T.ext ?_) (am.ext ?_) av.out aw.out).mono ?_);exact eA;exact eA;rintro e w3 ⟨rfl,ac⟩;(try rw [Hk.out]);obtain⟨aI,aJ⟩:=ac.cells))
     have d:Ext wr w3:=((((eR _).alloc _).trans g).alloc _).trans ac;have g1:RB w3 wr.heap.size x:=(((RB.new ae rfl).ext g).ext ((eR _).alloc _)).ext ac;have g2:RB w3 w1.heap.size (f x):=(RB.new T rfl).ext ac;have g3:=HC.out.ext d;have g4:=HD.out.ext d;have zW:=d.size;obtain⟨s1,ah⟩:=gX w1.heap.size;simp only [ah]at *;clear aj ak T g ac aI aJ am ay az aA aC aD aE ah e0 e1 e2 ae;obtain⟨pa,pm,m,ps,l,r,p,p0,p1,p2,_,_,_,pz,hp⟩:=(g1).rd;obtain⟨qa,qm,qc,y,s,u,t,q0,q1,q2,_,_,_,qz,af⟩:=(g2).rd;obtain⟨_,_,_,_,_,_,_,x0,x1,x2,an,ao,ap,xz,_⟩:=(g3).rd;obtain⟨_,_,_,_,_,_,_,y0,y1,y2,aq,ar,au,yz,_⟩:=(g4).rd;refine wp_region_held_drew (S:=CellL [(⟨wr.heap.size,0,Y⟩,O pa pm m),(⟨wr.heap.size,1,Y⟩,Z ps),(⟨wr.heap.size,2,Y⟩,O l r p),(⟨s1,0,Y⟩,O qa qm qc),(⟨s1,1,Y⟩,Z y),(⟨s1,2,Y⟩,O s u t)]) kM cA (fun j=>?_);refine sN 0 ?_
     iterate 2
      refine tkn ?_
     refine oN ?_
     have aa:∀q∈[((⟨wr.heap.size,0,Y⟩:Addr),Value.slice pa pm m),(⟨wr.heap.size,1,Y⟩,Z ps),(⟨wr.heap.size,2,Y⟩,O l r p),(⟨s1,0,Y⟩,O qa qm qc),(⟨s1,1,Y⟩,Z y),(⟨s1,2,Y⟩,O s u t)],w.heap.size+1+1≠q.1.block:=by
      intro q hq;simp at hq
      rcases hq with rfl|rfl|rfl|rfl|rfl|rfl<;>(dsimp only;omega)
     have ab:∀q∈[((⟨wr.heap.size,0,Y⟩:Addr),Value.slice pa pm m),(⟨wr.heap.size,1,Y⟩,Z ps),(⟨wr.heap.size,2,Y⟩,O l r p),(⟨s1,0,Y⟩,O qa qm qc),(⟨s1,1,Y⟩,Z y),(⟨s1,2,Y⟩,O s u t)],w.heap.size+1+1+1≠q.1.block:=by
      intro q hq;simp at hq
      rcases hq with rfl|rfl|rfl|rfl|rfl|rfl<;>(dsimp only;omega)
     refine cl1 (i:=2) fun K hK=>?_
     go_simp;refine kO hK (CellL.set3d j aa _ _ _) (fun j=>?_);clear hK K;refine cl1 (i:=3) fun K hK=>?_
     go_simp;refine kO hK (CellL.set3d j ab _ _ _) (fun j=>?_);clear hK K;refine wpAnyH_done kM ?_ _;have e:bestStep f (bestR f (Q.take i)) x=(x,f x):=by unfold bestStep;rw [Hk.out,if_pos aO]
     have E':=hd9 (E.out.trans e);have ad:=hd9 d;have P:=hd9 (RB.copy2 g3 g4 oM hp af rfl rfl);clear e d g1 g2 g3 g4;go_wp2
     go_roundg (n-(i+1))
     case measure=>have:=Hn.out;omega
     case rel =>
      obtain⟨P1,P2,P3,P4,P5,P6⟩:=P.out;have D:=fun W=>(eR W).drew
      exact⟨i+1,by rw [Hn.out];omega,by go_num,by rw [Hn.out],(P6 w (Hx.out.trans ad.out) oM oM).drew,
       (P3 _ _ oM oM (HA.out.ext ad.out)).ext (D _),(P3 _ _ oM oM (HB.out.ext ad.out)).ext (D _),by rw [E'.out];exact P1.ext (D _),by rw [E'.out];exact P2.ext (D _)⟩
    ·go_wp2_with(first|(go_at_call 78;(with_reducible refine(HG.out _ ?_ (J #[O a3 m3 c3,Z s3,O a4 m4 c4]) x ?_ ai.out).mono ?_);(refine Ext.trans Hx.out ?_;exact eA);(refine ae.ext ?_;exact eA);rintro e w1 ⟨r1,rfl,T,g⟩;obtain⟨b1,n1,k1,t1,b2,n2,k2,rfl⟩:=T.form;obtain⟨aj,ak⟩:=g.cells;(have z1:wr.heap.size<w1.heap.size:=(by have:=g.size;simp only [wZ]at this;omega));(have z2:w.heap.size+1+1+1<w1.heap.size:=oM))|(go_at_call 19;(with_reducible refine(zan _ (J #[O b1 n1 k1,Z t1,O b2 n2 k2]) (J #[O d1 dm dc,Z ds,O d2 aF aB]) _ _ (T.ext ?_) (am.ext ?_) av.out aw.out).mono ?_);exact eA;exact eA;rintro e w3 ⟨rfl,ac⟩;(try rw [Hk.out]);obtain⟨aI,aJ⟩:=ac.cells))
     have d:Ext wr w3:=((((eR _).alloc _).trans g).alloc _).trans ac;have e:bestStep f (bestR f (Q.take i)) x=bestR f (Q.take i):=by unfold bestStep;rw [Hk.out,if_neg oM]
     have E':=hd9 (E.out.trans e)
     go_roundg (n-(i+1))
     case measure=>have:=Hn.out;omega
     case rel=>exact⟨i+1,by rw [Hn.out];omega,by go_num,by rw [Hn.out],Hx.out.trans d,HA.out.ext d,HB.out.ext d,by rw [E'.out];exact HC.out.ext d,by rw [E'.out];exact HD.out.ext d⟩
  ·obtain rfl:i=n:=oM
   have e:Q.take i=Q:=lT (by rw [Hn.out];exact nE _);rw [e]at hC hD HC HD;clear e;have zW:=hx.size;have zD:w.heap.size+1+1+1<wr.heap.size:=by obtain⟨_,_,_,_,_,_,_,_,_,_,_,_,_,z,_⟩:=hD.rd;exact z
   go_wp2;obtain⟨pa,pm,m,ps,l,r,p,p0,p1,p2,_,_,_,pz,hp⟩:=(hC).rd;obtain⟨qa,qm,qc,y,s,u,t,q0,q1,q2,_,_,_,qz,af⟩:=(hD).rd;obtain⟨_,_,_,_,_,_,_,x0,x1,x2,an,ao,ap,xz,_⟩:=(hA).rd;obtain⟨_,_,_,_,_,_,_,y0,y1,y2,aq,ar,au,yz,_⟩:=(hB).rd;refine wp_region_held_drew (S:=CellL [(⟨w.heap.size+1+1,0,Y⟩,O pa pm m),(⟨w.heap.size+1+1,1,Y⟩,Z ps),(⟨w.heap.size+1+1,2,Y⟩,O l r p),(⟨w.heap.size+1+1+1,0,Y⟩,O qa qm qc),(⟨w.heap.size+1+1+1,1,Y⟩,Z y),(⟨w.heap.size+1+1+1,2,Y⟩,O s u t)]) kM cA (fun j=>?_);refine sN 0 ?_
   iterate 2
    refine tkn ?_
   refine oN ?_
   have aa:∀q∈[((⟨w.heap.size+1+1,0,Y⟩:Addr),Value.slice pa pm m),(⟨w.heap.size+1+1,1,Y⟩,Z ps),(⟨w.heap.size+1+1,2,Y⟩,O l r p),(⟨w.heap.size+1+1+1,0,Y⟩,O qa qm qc),(⟨w.heap.size+1+1+1,1,Y⟩,Z y),(⟨w.heap.size+1+1+1,2,Y⟩,O s u t)],w.heap.size≠q.1.block:=by
    intro q hq;simp at hq
    rcases hq with rfl|rfl|rfl|rfl|rfl|rfl<;>(dsimp only;omega)
   have ab:∀q∈[((⟨w.heap.size+1+1,0,Y⟩:Addr),Value.slice pa pm m),(⟨w.heap.size+1+1,1,Y⟩,Z ps),(⟨w.heap.size+1+1,2,Y⟩,O l r p),(⟨w.heap.size+1+1+1,0,Y⟩,O qa qm qc),(⟨w.heap.size+1+1+1,1,Y⟩,Z y),(⟨w.heap.size+1+1+1,2,Y⟩,O s u t)],w.heap.size+1≠q.1.block:=by
    intro q hq;simp at hq
    rcases hq with rfl|rfl|rfl|rfl|rfl|rfl<;>(dsimp only;omega)
   refine cl1 (i:=2) fun K hK=>?_
   go_simp;refine kO hK (CellL.set3d j aa _ _ _) (fun j=>?_);clear hK K;refine cl1 (i:=3) fun K hK=>?_
   go_simp;refine kO hK (CellL.set3d j ab _ _ _) (fun j=>?_);clear hK K;refine wpAnyH_done kM ?_ _;have P:=hd9 (RB.copy2 hA hB oM hp af rfl rfl);go_wp2;refine bR (v:=.tuple #[J #[O pa pm m,Z ps,O l r p],J #[O qa qm qc,Z y,O s u t]]) (by simp [results,Tryz.results77,go_sem,x0,x1,x2,an,ao,ap,y0,y1,y2,aq,ar,au]) rfl ?_;rw [←HR.out];obtain⟨P1,P2,P3,P4,P5,P6⟩:=P.out;exact⟨_,_,rfl,(hp.keep P4).ext (eR _).drew,(af.keep P4).ext (eR _).drew,(P6 w Hx.out oM oM).drew⟩
end
end Go.Proofs.YtodpfeaihohpjaaGreatDoor.Cop
