/- Part 26: contracts of what the law calls. -/
import Derived.Test.YtjnjpagegkcgfaaGreatDoorCopA24
import Derived.Test.YtjnjpagegkcgfaaGreatDoorCopA20
set_option maxRecDepth 1000000
set_option maxHeartbeats 16000000
set_option linter.unusedSimpArgs false
set_option linter.unusedVariables false
open Go.Value renaming int→O,slice→Z
open Go.IntKind renaming i64→Y,u8→J
open Option renaming none→X,some→N
open Go.Obj renaming cells→V
open Go renaming World→I,Value→M
namespace Go.Proofs.YtjnjpagegkcgfaaGreatDoor.Cop
section
open Go.RowKit Go.Shelf
attribute [local go_sem] Oper.semAt_some
theorem zmg (w:I) (v:M) (n:Int) (h:IsZ w v n) (h0:0≤n) (h1:n<281474976710656) :
  Calls Tryz.prog 61 #[v] w fun e p=>e = .returned (.tuple #[O Y n,.bool true])∧Ext w p:=by
 obtain⟨a,m,c,s,rfl⟩:=h.form;have hs:s=false:=by rw [h.sgn];simp;omega
 subst hs;have T:Lm lim n:=Lm.mono (j:=2) ⟨by unfold B;omega,by unfold B;omega⟩ dM;have t:Lm lim (-9223372036854775808):=Lm.mono (j:=3) ⟨by unfold B;omega,by unfold B;omega⟩ dM;have u:Lm lim 9223372036854775807:=Lm.mono (j:=3) ⟨by unfold B;omega,by unfold B;omega⟩ dM;have L:=hd9 (fun(W:I)=>zfp W (-9223372036854775808) dM dM);have P:=hd9 (fun(W:I)=>zfp W 9223372036854775807 dM dM);have z:=hd9 (fun(W:I) (r:Ext w W) (v:M) (hv:IsZ W v (-9223372036854775808))=>(zhU W (.agg #[Z a m c,.bool false]) v n (-9223372036854775808) (h.ext r) hv T t).mono fun e p (q:e = .returned (O Y (n - -9223372036854775808).sign)∧Ext W p)=>(show e = .returned (O Y 1)∧Ext W p from by rw [Int.sign_eq_one_of_pos oM]at q;exact q));have D:=hd9 (fun(W:I) (r:Ext w W) (v:M) (hv:IsZ W v 9223372036854775807)=>(zhU W (.agg #[Z a m c,.bool false]) v n 9223372036854775807 (h.ext r) hv T u).mono fun e p (q:e = .returned (O Y (n-9223372036854775807).sign)∧Ext W p)=>(show e = .returned (O Y (-1))∧Ext W p from by rw [Int.sign_eq_neg_one_of_neg oM]at q;exact q));have HW:=hd9 (fun(W:I) (r:Ext w W)=>zc3 W (.agg #[Z a m c]) n (by have:=h.dig;rw [show ((n.natAbs:Nat):Int)=n by omega]at this;exact this.ext r) ⟨by unfold B;omega,by unfold B;omega⟩);clear h T t u;go_enter Tryz.func61,Tryz.ntmps61;go_wp2;refine wp_region_held_drew (S:=CellL [(⟨w.heap.size,0,X⟩,Z a m c),(⟨w.heap.size,1,X⟩,.bool false)]) kM cA (fun b=>?_);refine tk1 (i:=0) ?_;refine cl1 (i:=1) fun K d=>?_
 go_simp
 (with_reducible refine cM (L.out _) ?_)
 rintro e w1 ⟨r1,rfl,f,x⟩;obtain⟨a1,m1,c1,s1,rfl⟩:=f.form
 go_wp2_with fail
 refine kO d (cE b x) (fun b=>?_);clear d K;have Q:Ext w w1:=eA;refine cl1 (i:=2) fun K d=>?_
 go_simp
 (with_reducible refine cM (z.out _ Q _ f) ?_)
 rintro e w2 ⟨rfl,k⟩
 skip
 go_wp2_with fail
 refine kO d (cE b k) (fun b=>?_);clear d K;have X2:Ext w w2:=Q.trans k;refine sN 3 ?_
 iterate 3
  refine tkn ?_
 refine oN ?_;refine cl1 (i:=6) fun K d=>?_
 go_simp
 (with_reducible refine cM (P.out _) ?_)
 rintro e w6 ⟨r6,rfl,g,l⟩;obtain⟨a6,m6,c6,s6,rfl⟩:=g.form
 go_wp2_with fail
 refine kO d (cE b l) (fun b=>?_);clear d K;have R:Ext w w6:=X2.trans l;refine cl1 (i:=7) fun K d=>?_
 go_simp
 (with_reducible refine cM (D.out _ R _ g) ?_)
 rintro e w7 ⟨rfl,o⟩
 skip
 go_wp2_with fail
 refine kO d (cE b o) (fun b=>?_);clear d K;have X7:Ext w w7:=R.trans o;refine sN 8 ?_
 iterate 2
  refine tkn ?_
 refine oN ?_;refine wpAnyH_done kM ?_ _;obtain⟨d0,d1,_⟩:=b;have e1:IntKind.i64.wrap n=n:=iW _ oM;clear x k l o Q X2 R f g
 go_wp2_with((go_at_call 138;(with_reducible refine(HW.out _ X7).mono ?_);rintro e w8 ⟨rfl,y⟩;obtain⟨aa,ab⟩:=y.cells;(have z8:w.heap.size<w7.heap.size:=World.block_lt_of_cell? _ _ d0)))
 refine bR (v:=.tuple #[O Y n,.bool true]) (by simp [results,Tryz.results61,go_sem]) rfl ?_;exact⟨rfl,X7.trans y⟩
end
section
open Go.RowKit Go.Shelf Go.Sort Go.Lib
theorem zfa {g:List (Int×Int)}:∀{c done:List Pl},laid1 g done c=0→∀p∈c,placedOk p=true
 | [],_,_,p,b=>by cases b
 | q::r,done,h,p,b=>by
  unfold laid1 at h
  by_cases a:addE g done q=0
  ·rw [if_pos a]at h
   rcases List.mem_cons.1 b with rfl|b
   ·cases hk:placedOk p with
    | true=>rfl
    | false=>unfold addE at a;rw [hk]at a;simp at a
   ·exact zfa h p b
  ·rw [if_neg a]at h;exact absurd h a
theorem zbo {g:List (Int×Int)} {ps:List Pl} (h:laidP g ps=0):(∀p∈ps,placedOk p=true)∧ps.length≤120∧groundB g=true:=by
 unfold laidP at h
 cases hg:groundB g with
 | false=>rw [hg]at h;simp at h
 | true =>
  rw [hg,if_pos rfl]at h
  by_cases b:120<ps.length
  ·rw [if_pos b]at h;exact absurd h dM
  ·rw [if_neg b]at h
   by_cases a:laid1 g [] ps=0
   ·exact⟨zfa a,by omega,rfl⟩
   ·rw [if_neg a]at h;exact absurd h a
def OwnPl (w:I) (base:Nat) (v:M) (ps:List Pl):Prop:=∃cs,OwnC 47 10 w base v cs∧cs.length=ps.length∧∀(i:Nat) c p,cs[i]?=N c→ps[i]?=N p→PPl w c p
theorem OwnPl.pls {w:I} {base:Nat} {v:M} {ps:List Pl} (h:OwnPl w base v ps):IsPls w v ps:=by
 obtain⟨d,a,b,c⟩:=h;exact a.sl b c
end
section
open Go.RowKit Go.Shelf Go.Sort Go.Lib
attribute [local go_sem] Oper.semAt_some
theorem zki (w:I) (v1 v2:M) (p q:Pl) (h1:IsPts w v1 p.shape) (h2:IsPts w v2 q.shape) (k1:0≤p.skin) (k2:0≤q.skin) (av:Gw w) (o1:placedOk p=true) (o2:placedOk q=true) :
  Calls Tryz.prog 103 #[.agg (plc p v1),.agg (plc q v2)] w fun e w'=>∃r1 r2,e = .returned (.tuple #[r1,r2,.bool true])∧IsLa w' r1 p∧IsLa w' r2 q∧Ext w w':=by
 have ap:=hd9 (fun(W:I) (hW:Ext w W)=>zaO W p _ (h1.ext' hW) k1);have aq:=hd9 (fun(W:I) (hW:Ext w W)=>zaO W q _ (h2.ext' hW) k2);rw [if_pos o1]at ap;rw [if_pos o2]at aq;have ar:=hd9 (fun(W:I) (hW:Ext w W)=>zbl W p _ (h1.ext' hW) o1 (av.ext hW));have au:=hd9 (fun(W:I) (hW:Ext w W)=>zbl W q _ (h2.ext' hW) o2 (av.ext hW));have H1:=hd9 h1;have H2:=hd9 h2;obtain⟨f,j,g,rfl⟩:=form3 h1;obtain⟨k,m,l,rfl⟩:=form3 h2;clear h1 h2 k1 k2 av o1 o2;unfold plc at ap aq ar au ⊢;unfold RetO lac at ar au;go_enter Tryz.func103,Tryz.ntmps103
 go_upto_region 3 with (first|(go_at_call 28;(with_reducible refine(ap.out _ ?_).mono ?_);exact eA;rintro e w5 ⟨rfl,aw⟩;obtain⟨aL,aO⟩:=aw.cells;(have z5:=aw.size);(try simp only [wZ]at z5);(have aT:w.heap.size<w5.heap.size:=oM);(have aU:w.heap.size+1<w5.heap.size:=oM))|(go_at_call 28;(with_reducible refine(aq.out _ ?_).mono ?_);exact eA;rintro e y ⟨rfl,ay⟩;obtain⟨aM,aP⟩:=ay.cells;(have z6:=ay.size);(try simp only [wZ]at z6);(have aV:w.heap.size<y.heap.size:=oM);(have aW:w.heap.size+1<y.heap.size:=oM)))
 have X0:Ext w y:=eA;clear X0;have A1:y.heap[w.heap.size]?=N (V #[.string p.name,Z f j g,O Y p.depth,O Y p.density,O Y p.gx,O Y p.gz,O Y p.way,O Y p.ax,O Y p.az,O J p.skin] 47 (0,0)):=Ext.heapS (a:=w.alloc (V #[.string p.name,Z f j g,O Y p.depth,O Y p.density,O Y p.gx,O Y p.gz,O Y p.way,O Y p.ax,O Y p.az,O J p.skin] 47)) eA (aN _ _);have A2:y.heap[w.heap.size+1]?=N (V #[.string q.name,Z k m l,O Y q.depth,O Y q.density,O Y q.gx,O Y q.gz,O Y q.way,O Y q.ax,O Y q.az,O J q.skin] 47 (0,0)):=Ext.heapS (a:=(w.alloc (V #[.string p.name,Z f j g,O Y p.depth,O Y p.density,O Y p.gx,O Y p.gz,O Y p.way,O Y p.ax,O Y p.az,O J p.skin] 47)).alloc (V #[.string q.name,Z k m l,O Y q.depth,O Y q.density,O Y q.gx,O Y q.gz,O Y q.way,O Y q.ax,O Y q.az,O J q.skin] 47)) eA (qhA _ _ _ sM);have A3:y.heap[w.heap.size+1+1]?=N (V #[.string ⟨#[]⟩,Z X 0 0,O Y 0,O Y 0,O Y 0,O Y 0,O Y 0,O Y 0,O Y 0,O J 0,Z X 0 0,Z X 0 0] 128 (0,0)):=Ext.heapS (a:=((w.alloc (V #[.string p.name,Z f j g,O Y p.depth,O Y p.density,O Y p.gx,O Y p.gz,O Y p.way,O Y p.ax,O Y p.az,O J p.skin] 47)).alloc (V #[.string q.name,Z k m l,O Y q.depth,O Y q.density,O Y q.gx,O Y q.gz,O Y q.way,O Y q.ax,O Y q.az,O J q.skin] 47)).alloc (V #[.string ⟨#[]⟩,Z X 0 0,O Y 0,O Y 0,O Y 0,O Y 0,O Y 0,O Y 0,O Y 0,O J 0,Z X 0 0,Z X 0 0] 128)) eA (qhA _ _ _ sM);have A4:y.heap[w.heap.size+1+1+1]?=N (V #[.string ⟨#[]⟩,Z X 0 0,O Y 0,O Y 0,O Y 0,O Y 0,O Y 0,O Y 0,O Y 0,O J 0,Z X 0 0,Z X 0 0] 128 (0,0)):=Ext.heapS (a:=(((w.alloc (V #[.string p.name,Z f j g,O Y p.depth,O Y p.density,O Y p.gx,O Y p.gz,O Y p.way,O Y p.ax,O Y p.az,O J p.skin] 47)).alloc (V #[.string q.name,Z k m l,O Y q.depth,O Y q.density,O Y q.gx,O Y q.gz,O Y q.way,O Y q.ax,O Y q.az,O J q.skin] 47)).alloc (V #[.string ⟨#[]⟩,Z X 0 0,O Y 0,O Y 0,O Y 0,O Y 0,O Y 0,O Y 0,O Y 0,O J 0,Z X 0 0,Z X 0 0] 128)).alloc (V #[.string ⟨#[]⟩,Z X 0 0,O Y 0,O Y 0,O Y 0,O Y 0,O Y 0,O Y 0,O Y 0,O J 0,Z X 0 0,Z X 0 0] 128)) eA (qhA _ _ _ sM);have X6:Ext w y:=eA;clear aL aO z5 aT aU aM aP z6 aV aW aw ay
 have hC:CellL [((⟨w.heap.size,0,X⟩:Addr),(.string p.name:M)),(⟨w.heap.size,1,X⟩,Z f j g),(⟨w.heap.size,2,X⟩,O Y p.depth),(⟨w.heap.size,3,X⟩,O Y p.density),(⟨w.heap.size,4,X⟩,O Y p.gx),(⟨w.heap.size,5,X⟩,O Y p.gz),(⟨w.heap.size,6,X⟩,O Y p.way),(⟨w.heap.size,7,X⟩,O Y p.ax),(⟨w.heap.size,8,X⟩,O Y p.az),(⟨w.heap.size,9,X⟩,O J p.skin),(⟨w.heap.size+1,0,X⟩,.string q.name),(⟨w.heap.size+1,1,X⟩,Z k m l),(⟨w.heap.size+1,2,X⟩,O Y q.depth),(⟨w.heap.size+1,3,X⟩,O Y q.density),(⟨w.heap.size+1,4,X⟩,O Y q.gx),(⟨w.heap.size+1,5,X⟩,O Y q.gz),(⟨w.heap.size+1,6,X⟩,O Y q.way),(⟨w.heap.size+1,7,X⟩,O Y q.ax),(⟨w.heap.size+1,8,X⟩,O Y q.az),(⟨w.heap.size+1,9,X⟩,O J q.skin)] y:=by
  refine⟨qcB A1 (i:=0) rfl,qcB A1 (i:=1) rfl,qcB A1 (i:=2) rfl,qcB A1 (i:=3) rfl,qcB A1 (i:=4) rfl,qcB A1 (i:=5) rfl,qcB A1 (i:=6) rfl,qcB A1 (i:=7) rfl,qcB A1 (i:=8) rfl,qcB A1 (i:=9) rfl,qcB A2 (i:=0) rfl,qcB A2 (i:=1) rfl,qcB A2 (i:=2) rfl,qcB A2 (i:=3) rfl,qcB A2 (i:=4) rfl,qcB A2 (i:=5) rfl,qcB A2 (i:=6) rfl,qcB A2 (i:=7) rfl,qcB A2 (i:=8) rfl,qcB A2 (i:=9) rfl,trivial⟩
 refine wp_region_held_drew (S:=CellL [((⟨w.heap.size,0,X⟩:Addr),(.string p.name:M)),(⟨w.heap.size,1,X⟩,Z f j g),(⟨w.heap.size,2,X⟩,O Y p.depth),(⟨w.heap.size,3,X⟩,O Y p.density),(⟨w.heap.size,4,X⟩,O Y p.gx),(⟨w.heap.size,5,X⟩,O Y p.gz),(⟨w.heap.size,6,X⟩,O Y p.way),(⟨w.heap.size,7,X⟩,O Y p.ax),(⟨w.heap.size,8,X⟩,O Y p.az),(⟨w.heap.size,9,X⟩,O J p.skin),(⟨w.heap.size+1,0,X⟩,.string q.name),(⟨w.heap.size+1,1,X⟩,Z k m l),(⟨w.heap.size+1,2,X⟩,O Y q.depth),(⟨w.heap.size+1,3,X⟩,O Y q.density),(⟨w.heap.size+1,4,X⟩,O Y q.gx),(⟨w.heap.size+1,5,X⟩,O Y q.gz),(⟨w.heap.size+1,6,X⟩,O Y q.way),(⟨w.heap.size+1,7,X⟩,O Y q.ax),(⟨w.heap.size+1,8,X⟩,O Y q.az),(⟨w.heap.size+1,9,X⟩,O J q.skin)]) kM hC (fun n=>?_);refine tk1 (i:=0) ?_;refine tk1 (i:=2) ?_;refine cl1 (i:=1) fun K t=>?_
 go_simp
 (with_reducible refine cM (ar.out _ X6.drew) ?_)
 rintro e w7 ⟨vl,vu,rfl,aH,aI,aJ⟩;obtain⟨⟨L,aa,R,rfl⟩,ac,ah,af,rfl⟩:=And.intro (form3 aH) (form3 aI)
 go_wp2_with fail
 refine kO t (cE n aJ) (fun n=>?_);clear t K;have X7:Ext y w7:=(eR y).drew.trans aJ;refine cl1 (i:=3) fun K t=>?_
 go_simp
 (with_reducible refine cM (au.out _ (X6.trans X7)) ?_)
 rintro e w8 ⟨aX,aY,rfl,an,ao,al⟩;obtain⟨⟨Q,ab,T,rfl⟩,ae,ai,ag,rfl⟩:=And.intro (form3 an) (form3 ao)
 go_wp2_with fail
 refine kO t (cE n al) (fun n=>?_);clear t K;have X8:Ext y w8:=X7.trans al;have r:=X8.heapS A3;have c:=X8.heapS A4;have x0:=qcB r (i:=0) (u:=.string ⟨#[]⟩) rfl;have x1:=qcB r (i:=1) (u:=Z X 0 0) rfl;have x2:=qcB r (i:=2) (u:=O Y 0) rfl;have x3:=qcB r (i:=3) (u:=O Y 0) rfl;have x4:=qcB r (i:=4) (u:=O Y 0) rfl;have x5:=qcB r (i:=5) (u:=O Y 0) rfl;have x6:=qcB r (i:=6) (u:=O Y 0) rfl;have x7:=qcB r (i:=7) (u:=O Y 0) rfl;have x8:=qcB r (i:=8) (u:=O Y 0) rfl;have x9:=qcB r (i:=9) (u:=O J 0) rfl;have aA:=qcB r (i:=10) (u:=Z X 0 0) rfl;have aB:=qcB r (i:=11) (u:=Z X 0 0) rfl;have y0:=qcB c (i:=0) (u:=.string ⟨#[]⟩) rfl;have y1:=qcB c (i:=1) (u:=Z X 0 0) rfl;have y2:=qcB c (i:=2) (u:=O Y 0) rfl;have y3:=qcB c (i:=3) (u:=O Y 0) rfl;have y4:=qcB c (i:=4) (u:=O Y 0) rfl;have y5:=qcB c (i:=5) (u:=O Y 0) rfl;have y6:=qcB c (i:=6) (u:=O Y 0) rfl;have y7:=qcB c (i:=7) (u:=O Y 0) rfl;have y8:=qcB c (i:=8) (u:=O Y 0) rfl;have y9:=qcB c (i:=9) (u:=O J 0) rfl;have aj:=qcB c (i:=10) (u:=Z X 0 0) rfl;have ak:=qcB c (i:=11) (u:=Z X 0 0) rfl;have xf:=qfB r;have yf:=qfB c
 have aG:∀b,w.heap.size+1<b→∀ad∈[((⟨w.heap.size,0,X⟩:Addr),(.string p.name:M)),(⟨w.heap.size,1,X⟩,Z f j g),(⟨w.heap.size,2,X⟩,O Y p.depth),(⟨w.heap.size,3,X⟩,O Y p.density),(⟨w.heap.size,4,X⟩,O Y p.gx),(⟨w.heap.size,5,X⟩,O Y p.gz),(⟨w.heap.size,6,X⟩,O Y p.way),(⟨w.heap.size,7,X⟩,O Y p.ax),(⟨w.heap.size,8,X⟩,O Y p.az),(⟨w.heap.size,9,X⟩,O J p.skin),(⟨w.heap.size+1,0,X⟩,.string q.name),(⟨w.heap.size+1,1,X⟩,Z k m l),(⟨w.heap.size+1,2,X⟩,O Y q.depth),(⟨w.heap.size+1,3,X⟩,O Y q.density),(⟨w.heap.size+1,4,X⟩,O Y q.gx),(⟨w.heap.size+1,5,X⟩,O Y q.gz),(⟨w.heap.size+1,6,X⟩,O Y q.way),(⟨w.heap.size+1,7,X⟩,O Y q.ax),(⟨w.heap.size+1,8,X⟩,O Y q.az),(⟨w.heap.size+1,9,X⟩,O J q.skin)],b≠ad.1.block:=by
  intro b hb ad hq;simp only [List.mem_cons,List.not_mem_nil,or_false]at hq
  rcases hq with rfl|rfl|rfl|rfl|rfl|rfl|rfl|rfl|rfl|rfl|rfl|rfl|rfl|rfl|rfl|rfl|rfl|rfl|rfl|rfl<;>(dsimp only;omega)
 have aQ:=aG (w.heap.size+1+1) oM;have aR:=aG (w.heap.size+1+1+1) oM;refine cl1 (i:=4) fun K t=>?_
 go_simp;refine kO t (by(iterate 12 refine CellL.set ?_ aQ _);exact n) (fun n=>?_);clear t K;clear x0 x1 x2 x3 x4 x5 x6 x7 x8 x9 aA aB y0 y1 y2 y3 y4 y5 y6 y7 y8 y9 aj ak xf yf;obtain⟨D,x⟩:=gX (stL w8 (w.heap.size+1+1) 0 [.string p.name,Z f j g,O Y p.depth,O Y p.density,O Y p.gx,O Y p.gz,O Y p.way,O Y p.ax,O Y p.az,O J p.skin,Z L aa R,Z ac ah af]);have e9:((((((((((((w8.setCell ⟨w.heap.size+1+1,0,X⟩ (.string p.name)).setCell ⟨w.heap.size+1+1,1,X⟩ (Z f j g)).setCell ⟨w.heap.size+1+1,2,X⟩ (O Y p.depth)).setCell ⟨w.heap.size+1+1,3,X⟩ (O Y p.density)).setCell ⟨w.heap.size+1+1,4,X⟩ (O Y p.gx)).setCell ⟨w.heap.size+1+1,5,X⟩ (O Y p.gz)).setCell ⟨w.heap.size+1+1,6,X⟩ (O Y p.way)).setCell ⟨w.heap.size+1+1,7,X⟩ (O Y p.ax)).setCell ⟨w.heap.size+1+1,8,X⟩ (O Y p.az)).setCell ⟨w.heap.size+1+1,9,X⟩ (O J p.skin)).setCell ⟨w.heap.size+1+1,10,X⟩ (Z L aa R)).setCell ⟨w.heap.size+1+1,11,X⟩ (Z ac ah af))=D:=x;rw [e9]at n ⊢;have aS:NoT 43 w8 (w.heap.size+1+1):=fun cs fr h=>by rw [r]at h;cases h
 have s:D.heap[w.heap.size+1+1]?=N (V #[.string p.name,Z f j g,O Y p.depth,O Y p.density,O Y p.gx,O Y p.gz,O Y p.way,O Y p.ax,O Y p.az,O J p.skin,Z L aa R,Z ac ah af] 128 (0,0)):=by
  rw [←x];exact zcV _ r rfl
 have D9:D.heap[w.heap.size+1+1+1]?=w8.heap[w.heap.size+1+1+1]?:=by
  rw [←x];exact zaT oM _ _ _
 have aF:KeepT 43 w8 D:=by
  rw [←x];exact zaS _ _ aS
 have E9:∀v:I,Ext v w8→v.heap.size≤w.heap.size+1+1→Ext v D:=fun v XE hz=>by
  rw [←x];exact zem hz _ _ XE
 clear e9 x;have c:=D9.trans c;have y0:=qcB c (i:=0) (u:=.string ⟨#[]⟩) rfl;have y1:=qcB c (i:=1) (u:=Z X 0 0) rfl;have y2:=qcB c (i:=2) (u:=O Y 0) rfl;have y3:=qcB c (i:=3) (u:=O Y 0) rfl;have y4:=qcB c (i:=4) (u:=O Y 0) rfl;have y5:=qcB c (i:=5) (u:=O Y 0) rfl;have y6:=qcB c (i:=6) (u:=O Y 0) rfl;have y7:=qcB c (i:=7) (u:=O Y 0) rfl;have y8:=qcB c (i:=8) (u:=O Y 0) rfl;have y9:=qcB c (i:=9) (u:=O J 0) rfl;have aj:=qcB c (i:=10) (u:=Z X 0 0) rfl;have ak:=qcB c (i:=11) (u:=Z X 0 0) rfl;have yf:=qfB c;refine cl1 (i:=5) fun K t=>?_
 go_simp;refine kO t (by(iterate 12 refine CellL.set ?_ aR _);exact n) (fun n=>?_);clear t K;clear y0 y1 y2 y3 y4 y5 y6 y7 y8 y9 aj ak yf;obtain⟨z,o⟩:=gX (stL D (w.heap.size+1+1+1) 0 [.string q.name,Z k m l,O Y q.depth,O Y q.density,O Y q.gx,O Y q.gz,O Y q.way,O Y q.ax,O Y q.az,O J q.skin,Z Q ab T,Z ae ai ag]);have aE:((((((((((((D.setCell ⟨w.heap.size+1+1+1,0,X⟩ (.string q.name)).setCell ⟨w.heap.size+1+1+1,1,X⟩ (Z k m l)).setCell ⟨w.heap.size+1+1+1,2,X⟩ (O Y q.depth)).setCell ⟨w.heap.size+1+1+1,3,X⟩ (O Y q.density)).setCell ⟨w.heap.size+1+1+1,4,X⟩ (O Y q.gx)).setCell ⟨w.heap.size+1+1+1,5,X⟩ (O Y q.gz)).setCell ⟨w.heap.size+1+1+1,6,X⟩ (O Y q.way)).setCell ⟨w.heap.size+1+1+1,7,X⟩ (O Y q.ax)).setCell ⟨w.heap.size+1+1+1,8,X⟩ (O Y q.az)).setCell ⟨w.heap.size+1+1+1,9,X⟩ (O J q.skin)).setCell ⟨w.heap.size+1+1+1,10,X⟩ (Z Q ab T)).setCell ⟨w.heap.size+1+1+1,11,X⟩ (Z ae ai ag))=z:=o;rw [aE]at n ⊢;have aK:NoT 43 D (w.heap.size+1+1+1):=fun cs fr h=>by rw [c]at h;cases h
 have d:z.heap[w.heap.size+1+1+1]?=N (V #[.string q.name,Z k m l,O Y q.depth,O Y q.density,O Y q.gx,O Y q.gz,O Y q.way,O Y q.ax,O Y q.az,O J q.skin,Z Q ab T,Z ae ai ag] 128 (0,0)):=by
  rw [←o];exact zcV _ c rfl
 have aC:z.heap[w.heap.size+1+1]?=D.heap[w.heap.size+1+1]?:=by
  rw [←o];exact zaT oM _ _ _
 have am:KeepT 43 D z:=by
  rw [←o];exact zaS _ _ aK
 have aD:∀v:I,Ext v D→v.heap.size≤w.heap.size+1+1+1→Ext v z:=fun v XE hz=>by
  rw [←o];exact zem hz _ _ XE
 clear aE o;have s:=aC.trans s;refine tk1 (i:=6) ?_;refine wpAnyH_done kM ?_ _;have x0:=qcB s (i:=0) (u:=.string p.name) rfl;have x1:=qcB s (i:=1) (u:=Z f j g) rfl;have x2:=qcB s (i:=2) (u:=O Y p.depth) rfl;have x3:=qcB s (i:=3) (u:=O Y p.density) rfl;have x4:=qcB s (i:=4) (u:=O Y p.gx) rfl;have x5:=qcB s (i:=5) (u:=O Y p.gz) rfl;have x6:=qcB s (i:=6) (u:=O Y p.way) rfl;have x7:=qcB s (i:=7) (u:=O Y p.ax) rfl;have x8:=qcB s (i:=8) (u:=O Y p.az) rfl;have x9:=qcB s (i:=9) (u:=O J p.skin) rfl;have aA:=qcB s (i:=10) (u:=Z L aa R) rfl;have aB:=qcB s (i:=11) (u:=Z ac ah af) rfl;have y0:=qcB d (i:=0) (u:=.string q.name) rfl;have y1:=qcB d (i:=1) (u:=Z k m l) rfl;have y2:=qcB d (i:=2) (u:=O Y q.depth) rfl;have y3:=qcB d (i:=3) (u:=O Y q.density) rfl;have y4:=qcB d (i:=4) (u:=O Y q.gx) rfl;have y5:=qcB d (i:=5) (u:=O Y q.gz) rfl;have y6:=qcB d (i:=6) (u:=O Y q.way) rfl;have y7:=qcB d (i:=7) (u:=O Y q.ax) rfl;have y8:=qcB d (i:=8) (u:=O Y q.az) rfl;have y9:=qcB d (i:=9) (u:=O J q.skin) rfl;have aj:=qcB d (i:=10) (u:=Z Q ab T) rfl;have ak:=qcB d (i:=11) (u:=Z ae ai ag) rfl;have xf:=qfB s;have yf:=qfB d;have XE:=aD w (E9 w (X6.trans X8) oM) oM;have t:=aF.trans am;have P:=hd9 (And.intro XE t);clear E9 aD aF am XE t D9 aC;go_wp2;refine bR (v:=.tuple #[.agg #[.string p.name,Z f j g,O Y p.depth,O Y p.density,O Y p.gx,O Y p.gz,O Y p.way,O Y p.ax,O Y p.az,O J p.skin,Z L aa R,Z ac ah af],.agg #[.string q.name,Z k m l,O Y q.depth,O Y q.density,O Y q.gx,O Y q.gz,O Y q.way,O Y q.ax,O Y q.az,O J q.skin,Z Q ab T,Z ae ai ag],.bool true]) (by simp [results,Tryz.results103,go_sem,x0,x1,x2,x3,x4,x5,x6,x7,x8,x9,aA,aB,xf,y0,y1,y2,y3,y4,y5,y6,y7,y8,y9,aj,ak,yf]) rfl ?_;have XW:=X6.trans X8;exact⟨_,_,rfl,⟨_,_,_,rfl,(H1.out.ext' XW).keep' P.out.2,(aH.ext' al).keep' P.out.2,(aI.ext' al).keep' P.out.2⟩,⟨_,_,_,rfl,(H2.out.ext' XW).keep' P.out.2,an.keep' P.out.2,ao.keep' P.out.2⟩,P.out.1⟩
end
section
open Go.RowKit Go.Shelf Go.Sort Go.Lib
def PI (_:I) (c:List M) (z:Int):Prop:=c=[O Y z]
abbrev IsIs (w:I) (v:M) (zs:List Int):Prop:=Sl 3 1 PI w v zs
theorem IsIs.ext' {w w':I} {v:M} {zs:List Int} (h:IsIs w v zs) (k:Ext w w'):IsIs w' v zs:=Sl.ext h (fun _ _ h=>h) k
theorem IsIs.at' {w:I} {a:Option Addr} {n c:Nat} {zs:List Int} (h:IsIs w (Z a n c) zs) {i:Nat} {z:Int} (g:zs[i]?=N z) :
  ∃b o,a=N ⟨b,o,X⟩∧b<w.heap.size∧w.cell? ⟨b,o+i,X⟩=N (O Y z):=by
 obtain⟨b,o,d,rfl,e,j,rfl,f⟩:=Sl.at h g;have:=f 0 _ rfl;rw [Nat.mul_one,Nat.add_zero]at this;exact⟨b,o,rfl,e,this⟩
end
section
open Go.RowKit Go.Shelf Go.Sort
theorem zkp (W:I) {k:Nat} (d:k=W.heap.size) (ps:List (Int×Int)) (e:ps.length≤1000) :
  IsPts (W.alloc (V (ps.map pc).flatten.toArray 43)) (Z (N ⟨k,0,X⟩) ps.length ps.length) ps:=by
 subst d
 exact⟨ps.map pc,by simp,zfR,⟨by rw [zat zfR];simp,N ⟨W.heap.size,0,X⟩,ps.length,rfl,nE _,by unfold maxLen;omega,.inr ⟨W.heap.size,0,_,(0,0),rfl,aN _ _,fun i x a=>by simpa using a⟩⟩,
  fun i c x b a=>by rw [lP,a]at b;cases b;rfl⟩
theorem zkh (W:I) {k base:Nat} (l:k=W.heap.size) (j:base≤W.heap.size) (b:List (Pl×M)) (m:∀q∈b,IsPts W q.2 q.1.shape∧0≤q.1.skin) (n:b.length≤1000) :
  OwnPl (W.alloc (V (b.map fun q=>(plc q.1 q.2).toList).flatten.toArray 47)) base (Z (N ⟨k,0,X⟩) b.length b.length) (b.map Prod.fst):=by
 subst l
 have d:∀c∈(b.map fun q=>(plc q.1 q.2).toList),c.length=10:=fun c g=>by
  obtain⟨q,_,rfl⟩:=List.mem_map.1 g;rfl
 have a:=zat d;rw [lL]at a;refine⟨b.map fun q=>(plc q.1 q.2).toList,⟨d,by rw [a,lL],.inr ⟨W.heap.size,b.length,_,by rw [lL],j,aN _ _,by rw [lL];exact nE _,by unfold maxLen;omega,by rw [List.size_toArray,a],by rw [lL,←a];exact List.take_length⟩⟩,by simp,?_⟩;intro i c x g h;rw [lP,Option.map_eq_some_iff]at g h;obtain⟨q,e,rfl⟩:=g;obtain⟨o,f,rfl⟩:=h;rw [e]at f
 cases f
 have:=m q (lM e);exact⟨q.2,rfl,this.1.ext' ((eR W).alloc _),this.2⟩
def brickS:List (Int×Int):=[(0,0),(200,0),(200,80),(0,80)]
theorem zhY (w:I):Calls Tryz.prog 123 #[] w fun e a=>∃v,e = .returned (.agg #[.string ⟨#[98,114,105,99,107]⟩,v,O Y 100,O Y 2400,O Y 1,O Y 0])∧IsPts a v brickS∧Ext w a:=by
 go_enter Tryz.func123,Tryz.ntmps123;go_wp2;refine bR (v:=.agg #[.string ⟨#[98,114,105,99,107]⟩,Z (N ⟨w.heap.size+1,0,X⟩) 4 4,O Y 100,O Y 2400,O Y 1,O Y 0]) (by simp [results,Tryz.results123,go_sem]) rfl ⟨_,rfl,?_,eA⟩;exact zkp _ sM brickS dM
def brickP (a:ByteArray) (x z:Int):Pl:=⟨a,brickS,100,2400,1,0,0,x,z,1⟩
def exG:List (Int×Int):=[(-1000,0),(1000,0)]
theorem zao {W:I} {b:Nat} {cs:Array M} {T:TypeId} {a:Nat×Nat} (h:W.heap[b]?=N (V cs T a)) (i:Nat) (u:M):(W.setCell ⟨b,i,X⟩ u).heap[b]?=N (V (cs.setIfInBounds i u) T a):=by
 simp [World.setCell,Array.getElem?_modify,h]
end
end Go.Proofs.YtjnjpagegkcgfaaGreatDoor.Cop
