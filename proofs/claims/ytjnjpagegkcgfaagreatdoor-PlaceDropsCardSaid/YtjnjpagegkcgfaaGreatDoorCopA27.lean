/- Part 28: contracts of what the law calls. -/
import Derived.Test.YtjnjpagegkcgfaaGreatDoorCopA26
import Derived.Test.YtjnjpagegkcgfaaGreatDoorRows
import Derived.Test.YtjnjpagegkcgfaaGreatDoorCards
import Derived.Test.YtjnjpagegkcgfaaGreatDoorTie
import Derived.LaidMore
import Derived.Lay
import Derived.Stop.Joined
import Derived.OpenShut
import Derived.SevenTiedAt
import Derived.Test.YtjnjpagegkcgfaaGreatDoorCopA25
import Derived.Test.YtjnjpagegkcgfaaGreatDoorCopA13
import Derived.Test.YtjnjpagegkcgfaaGreatDoorCopA19
set_option maxRecDepth 1000000
set_option maxHeartbeats 16000000
set_option linter.unusedSimpArgs false
set_option linter.unusedVariables false
open Go.Value renaming int→O,slice→I,agg→C
open Go.IntKind renaming i64→Y,u8→E
open Option renaming none→Z,some→M
open Go.Obj renaming cells→J
open Go renaming Value→N,World→F
namespace Go.Proofs.YtjnjpagegkcgfaaGreatDoor.Cop
section
open Go Go.ChangeShapes Go.WideShapes Go.ChangeAt Go.RowKit
theorem zlP:ownKnob Tryz.prog.godebug=none:=kM
theorem g_ways:Tryz.prog.globalNamed "copestone/stone.ways" = some 0:=kM
theorem t_ways:(Tryz.prog.globals[0]?).map (·.type)=some 264:=kM
theorem zma:Tryz.prog.underlying 264=some (.array 4 263):=kM
theorem zdx:Tryz.prog.underlying 263=some (.func #[43] #[43] false):=kM
theorem zfc:laidOutB Tryz.prog=true:=kM
abbrev vars3:List (String×DataW Unit):=[("unicode/utf8.acceptRanges",Rows.laid_unicode_utf8_acceptRanges),("copestone/stone.ways",Rows.laid_copestone_stone_ways),("unicode/utf8.first",Rows.laid_unicode_utf8_first)]
abbrev vars2:List (String×DataW Unit):=[("unicode/utf8.acceptRanges",Rows.laid_unicode_utf8_acceptRanges),("unicode/utf8.first",Rows.laid_unicode_utf8_first)]
theorem zif {W:World} (h:laidMetH Tryz.prog vars3 W):Gw W:=by
 obtain⟨g,t,a,fuel,p,c,q,hv,o⟩:=h.funcs (mC _ (List.mem_cons_self ..));obtain rfl:=Option.some.inj (g_ways.symm.trans c);obtain rfl:=Option.some.inj (t_ways.symm.trans q);have d:DataW.trod (funcToken Tryz.prog) Tryz.prog W 0 (fun _=>true) true fuel 264 a.toList=some (.agg [.held [99,111,112,101,115,116,111,110,101,47,115,116,111,110,101,46,119,97,121,115,36,49],.held [99,111,112,101,115,116,111,110,101,47,115,116,111,110,101,46,119,97,121,115,36,50],.held [99,111,112,101,115,116,111,110,101,47,115,116,111,110,101,46,119,97,121,115,36,51],.held [99,111,112,101,115,116,111,110,101,47,115,116,111,110,101,46,119,97,121,115,36,52]],p):=o;obtain⟨D,m,_,k,j,f,b⟩:=DataW.trod_array zma d;have l:Tryz.prog.cellsOf 263=1:=kM
 have n:Tryz.prog.cellsOf 264=4:=kM
 rw [n]at j;rw [l]at b;obtain⟨a⟩:=a;have e:a.length=4:=j
 match a,e,D,f with
 | [R,S,T,v3],_,[⟨y0,K⟩,⟨y1,L⟩,⟨y2,P⟩,⟨y3,Q⟩],_ =>
  simp only [Prod.mk.injEq,List.map_cons,List.map_nil,DataW.agg.injEq,List.cons.injEq,and_true]at k;obtain⟨⟨rfl,rfl,rfl,rfl⟩,_⟩:=k;have w:=b 0 oM;have x:=b 1 oM;have y:=b 2 oM;have z:=b 3 oM;have r:=World.var?_cell c hv 0;have s:=World.var?_cell c hv 1;have u:=World.var?_cell c hv 2;have v:=World.var?_cell c hv 3;obtain rfl:=func_of_trod (f0:=327) zdx kM w;obtain rfl:=func_of_trod (f0:=328) zdx kM x;obtain rfl:=func_of_trod (f0:=329) zdx kM y;obtain rfl:=func_of_trod (f0:=330) zdx kM z;have i:W.cell? ⟨0,0,none⟩=some (.func (.func 327) #[] #[]):=by simpa using r
  exact⟨World.block_lt_of_cell? W _ (by rw [i]),i,by simpa using s,by simpa using u,by simpa using v⟩
noncomputable def wit (os:Os):World:=(World.doorLaid Tryz.prog 14 os).layVars Tryz.prog vars2
theorem zn9 (os:Os) (args:Array Value):laidMetH Tryz.prog vars3 ((wit os).forCall (fun _ _=>0) ⟨#[],args,[]⟩).memory:=by
 refine laidMetH_of_parts3 (fuel:=8) ?_ kM kM
 exact laidMet_layVars (w0:=World.doorLaid Tryz.prog 14 os) ["unicode/utf8.acceptRanges", "unicode/utf8.first"] [] (by rfl) kM kM LaidIn.none
theorem zio {H:Type} {enc:TypeId×Value→H} {w:World} {spare:Nat→Bool} {held:Bool} {r:Reach} {a:Nat} {v:Value} {d:DataW H} {p:List MemPlace} (hv:Value.okWide Tryz.prog w r a 31 v) (h:DataW.Trod enc Tryz.prog w 0 spare held 31 v d p) :
  ∃v' q,v = .agg (plc q v')∧IsPr w v' q.shape∧0≤q.skin:=by
 obtain⟨b,rfl,j⟩:=okWide_struct zmJ hv;obtain⟨fuel,i⟩:=h;obtain⟨q,v',e,f,g⟩:=zcn i;have c:b=plc q v':=Array.toList_inj.1 e;exact⟨v',q,by rw [c],f,g⟩
end
section
open Go.RowKit Go.Shelf Go.Sort Go.Lib
attribute [local go_sem] Oper.semAt_some
abbrev zla:Array N:=#[.string ⟨#[]⟩,I Z 0 0,O Y 0,O Y 0,O Y 0,O Y 0,O Y 0,O Y 0,O Y 0,O E 0,I Z 0 0,I Z 0 0]
theorem zlR (w:F) (v1 v2:N) (p q:Pl) (h1:IsPts w v1 p.shape) (h2:IsPts w v2 q.shape) (k1:0≤p.skin) (k2:0≤q.skin) (o:¬(placedOk p=true∧placedOk q=true)) :
  Calls Tryz.prog 103 #[C (plc p v1),C (plc q v2)] w fun e w'=>e = .returned (.tuple #[C zla,C zla,.bool false])∧Ext w w':=by
 have s:=hd9 (fun(W:F) (hW:Ext w W)=>zaO W p _ (h1.ext' hW) k1);have t:=hd9 (fun(W:F) (hW:Ext w W)=>zaO W q _ (h2.ext' hW) k2);obtain⟨u,D,y,rfl⟩:=form3 h1;obtain⟨x,L,z,rfl⟩:=form3 h2;clear h1 h2 k1 k2;obtain⟨e1,T⟩:∃e:Int,(if placedOk p=true then (0:Int)else 2)=e:=⟨_,rfl⟩;obtain⟨e2,aa⟩:∃e:Int,(if placedOk q=true then (0:Int)else 2)=e:=⟨_,rfl⟩;rw [T]at s;rw [aa]at t
 have ah:(e1=2)∨(e1=0∧e2=2):=by
  subst T aa
  by_cases h1:placedOk p=true<;>by_cases h2:placedOk q=true<;>simp [h1,h2]at o ⊢
 clear T aa o;unfold plc at s t ⊢
 rcases ah with rfl|⟨rfl,rfl⟩
 ·go_enter Tryz.func103,Tryz.ntmps103
  go_upto_region 2 with (first|(go_at_call 28;(with_reducible refine(s.out _ ?_).mono ?_);exact eA;rintro e f ⟨rfl,j⟩;obtain⟨Q,ab⟩:=j.cells;(have z5:=j.size);(try simp only [wZ]at z5);(have ad:w.heap.size<f.heap.size:=oM);(have ae:w.heap.size+1<f.heap.size:=oM))|(go_at_call 28;(with_reducible refine(t.out _ ?_).mono ?_);exact eA;rintro e g ⟨rfl,k⟩;obtain⟨R,ac⟩:=k.cells;(have z6:=k.size);(try simp only [wZ]at z6);(have af:w.heap.size<g.heap.size:=oM);(have ag:w.heap.size+1<g.heap.size:=oM)))
  have b:f.heap[w.heap.size+1+1]?=M (J zla 128 (0,0)):=Ext.heapS (a:=(((w.alloc (J #[.string p.name,I u D y,O Y p.depth,O Y p.density,O Y p.gx,O Y p.gz,O Y p.way,O Y p.ax,O Y p.az,O E p.skin] 47)).alloc (J #[.string q.name,I x L z,O Y q.depth,O Y q.density,O Y q.gx,O Y q.gz,O Y q.way,O Y q.ax,O Y q.az,O E q.skin] 47)).alloc (J zla 128))) eA (qhA _ _ _ sM);have c:f.heap[w.heap.size+1+1+1]?=M (J zla 128 (0,0)):=Ext.heapS (a:=((((w.alloc (J #[.string p.name,I u D y,O Y p.depth,O Y p.density,O Y p.gx,O Y p.gz,O Y p.way,O Y p.ax,O Y p.az,O E p.skin] 47)).alloc (J #[.string q.name,I x L z,O Y q.depth,O Y q.density,O Y q.gx,O Y q.gz,O Y q.way,O Y q.ax,O Y q.az,O E q.skin] 47)).alloc (J zla 128)).alloc (J zla 128))) eA (qhA _ _ _ sM);have X:Ext w f:=eA
  have C0:CellL [((⟨w.heap.size+1+1,0,Z⟩:Addr),(.string ⟨#[]⟩:N)),(⟨w.heap.size+1+1,1,Z⟩,I Z 0 0),(⟨w.heap.size+1+1,2,Z⟩,O Y 0),(⟨w.heap.size+1+1,3,Z⟩,O Y 0),(⟨w.heap.size+1+1,4,Z⟩,O Y 0),(⟨w.heap.size+1+1,5,Z⟩,O Y 0),(⟨w.heap.size+1+1,6,Z⟩,O Y 0),(⟨w.heap.size+1+1,7,Z⟩,O Y 0),(⟨w.heap.size+1+1,8,Z⟩,O Y 0),(⟨w.heap.size+1+1,9,Z⟩,O E 0),(⟨w.heap.size+1+1,10,Z⟩,I Z 0 0),(⟨w.heap.size+1+1,11,Z⟩,I Z 0 0),(⟨w.heap.size+1+1+1,0,Z⟩,.string ⟨#[]⟩),(⟨w.heap.size+1+1+1,1,Z⟩,I Z 0 0),(⟨w.heap.size+1+1+1,2,Z⟩,O Y 0),(⟨w.heap.size+1+1+1,3,Z⟩,O Y 0),(⟨w.heap.size+1+1+1,4,Z⟩,O Y 0),(⟨w.heap.size+1+1+1,5,Z⟩,O Y 0),(⟨w.heap.size+1+1+1,6,Z⟩,O Y 0),(⟨w.heap.size+1+1+1,7,Z⟩,O Y 0),(⟨w.heap.size+1+1+1,8,Z⟩,O Y 0),(⟨w.heap.size+1+1+1,9,Z⟩,O E 0),(⟨w.heap.size+1+1+1,10,Z⟩,I Z 0 0),(⟨w.heap.size+1+1+1,11,Z⟩,I Z 0 0)] f:=by
   refine⟨qcB b (i:=0) rfl,qcB b (i:=1) rfl,qcB b (i:=2) rfl,qcB b (i:=3) rfl,qcB b (i:=4) rfl,qcB b (i:=5) rfl,qcB b (i:=6) rfl,qcB b (i:=7) rfl,qcB b (i:=8) rfl,qcB b (i:=9) rfl,qcB b (i:=10) rfl,qcB b (i:=11) rfl,qcB c (i:=0) rfl,qcB c (i:=1) rfl,qcB c (i:=2) rfl,qcB c (i:=3) rfl,qcB c (i:=4) rfl,qcB c (i:=5) rfl,qcB c (i:=6) rfl,qcB c (i:=7) rfl,qcB c (i:=8) rfl,qcB c (i:=9) rfl,qcB c (i:=10) rfl,qcB c (i:=11) rfl,trivial⟩
  have B3:f.drew.heap[w.heap.size+1+1]?=M (J zla 128 (0,0)):=b;have B4:f.drew.heap[w.heap.size+1+1+1]?=M (J zla 128 (0,0)):=c;have xf:=qfB B3;have yf:=qfB B4;clear b c B3 B4
  (try clear Q ab z5 ad ae)
  (try clear R ac z6 af ag)
  refine wp_region_held_drew (S:=CellL [((⟨w.heap.size+1+1,0,Z⟩:Addr),(.string ⟨#[]⟩:N)),(⟨w.heap.size+1+1,1,Z⟩,I Z 0 0),(⟨w.heap.size+1+1,2,Z⟩,O Y 0),(⟨w.heap.size+1+1,3,Z⟩,O Y 0),(⟨w.heap.size+1+1,4,Z⟩,O Y 0),(⟨w.heap.size+1+1,5,Z⟩,O Y 0),(⟨w.heap.size+1+1,6,Z⟩,O Y 0),(⟨w.heap.size+1+1,7,Z⟩,O Y 0),(⟨w.heap.size+1+1,8,Z⟩,O Y 0),(⟨w.heap.size+1+1,9,Z⟩,O E 0),(⟨w.heap.size+1+1,10,Z⟩,I Z 0 0),(⟨w.heap.size+1+1,11,Z⟩,I Z 0 0),(⟨w.heap.size+1+1+1,0,Z⟩,.string ⟨#[]⟩),(⟨w.heap.size+1+1+1,1,Z⟩,I Z 0 0),(⟨w.heap.size+1+1+1,2,Z⟩,O Y 0),(⟨w.heap.size+1+1+1,3,Z⟩,O Y 0),(⟨w.heap.size+1+1+1,4,Z⟩,O Y 0),(⟨w.heap.size+1+1+1,5,Z⟩,O Y 0),(⟨w.heap.size+1+1+1,6,Z⟩,O Y 0),(⟨w.heap.size+1+1+1,7,Z⟩,O Y 0),(⟨w.heap.size+1+1+1,8,Z⟩,O Y 0),(⟨w.heap.size+1+1+1,9,Z⟩,O E 0),(⟨w.heap.size+1+1+1,10,Z⟩,I Z 0 0),(⟨w.heap.size+1+1+1,11,Z⟩,I Z 0 0)]) kM C0 (fun d=>?_);obtain⟨V,P⟩:=gX ((f).drew);have XV:Ext w V:=P▸X.drew;rw [P]at d xf yf ⊢;clear P X;refine sN 0 ?_
  iterate 2
   refine tkn ?_
  refine oN ?_;obtain⟨x0,x1,x2,x3,x4,x5,x6,x7,x8,x9,l,m,y0,y1,y2,y3,y4,y5,y6,y7,y8,y9,n,r,_⟩:=And.intro d trivial |>.1
  refine cl1 (i:=2) fun K h=>?_
  go_simp;simp only [zac x0,zac x1,zac x2,zac x3,zac x4,zac x5,zac x6,zac x7,zac x8,zac x9,zac l,zac m];refine kO h d (fun d=>?_);clear h K;refine cl1 (i:=3) fun K h=>?_
  go_simp;simp only [zac y0,zac y1,zac y2,zac y3,zac y4,zac y5,zac y6,zac y7,zac y8,zac y9,zac n,zac r];refine kO h d (fun d=>?_);clear h K;refine tk1 (i:=4) ?_;refine wpAnyH_done kM ?_ _;go_wp2;refine bR (v:=.tuple #[C zla,C zla,.bool false]) (by simp [results,Tryz.results103,go_sem,zla,x0,x1,x2,x3,x4,x5,x6,x7,x8,x9,l,m,y0,y1,y2,y3,y4,y5,y6,y7,y8,y9,n,r,xf,yf]) rfl ⟨rfl,XV⟩
 ·go_enter Tryz.func103,Tryz.ntmps103
  go_upto_region 2 with (first|(go_at_call 28;(with_reducible refine(s.out _ ?_).mono ?_);exact eA;rintro e f ⟨rfl,j⟩;obtain⟨Q,ab⟩:=j.cells;(have z5:=j.size);(try simp only [wZ]at z5);(have ad:w.heap.size<f.heap.size:=oM);(have ae:w.heap.size+1<f.heap.size:=oM))|(go_at_call 28;(with_reducible refine(t.out _ ?_).mono ?_);exact eA;rintro e g ⟨rfl,k⟩;obtain⟨R,ac⟩:=k.cells;(have z6:=k.size);(try simp only [wZ]at z6);(have af:w.heap.size<g.heap.size:=oM);(have ag:w.heap.size+1<g.heap.size:=oM)))
  have b:g.heap[w.heap.size+1+1]?=M (J zla 128 (0,0)):=Ext.heapS (a:=(((w.alloc (J #[.string p.name,I u D y,O Y p.depth,O Y p.density,O Y p.gx,O Y p.gz,O Y p.way,O Y p.ax,O Y p.az,O E p.skin] 47)).alloc (J #[.string q.name,I x L z,O Y q.depth,O Y q.density,O Y q.gx,O Y q.gz,O Y q.way,O Y q.ax,O Y q.az,O E q.skin] 47)).alloc (J zla 128))) eA (qhA _ _ _ sM);have c:g.heap[w.heap.size+1+1+1]?=M (J zla 128 (0,0)):=Ext.heapS (a:=((((w.alloc (J #[.string p.name,I u D y,O Y p.depth,O Y p.density,O Y p.gx,O Y p.gz,O Y p.way,O Y p.ax,O Y p.az,O E p.skin] 47)).alloc (J #[.string q.name,I x L z,O Y q.depth,O Y q.density,O Y q.gx,O Y q.gz,O Y q.way,O Y q.ax,O Y q.az,O E q.skin] 47)).alloc (J zla 128)).alloc (J zla 128))) eA (qhA _ _ _ sM);have X:Ext w g:=eA
  have C0:CellL [((⟨w.heap.size+1+1,0,Z⟩:Addr),(.string ⟨#[]⟩:N)),(⟨w.heap.size+1+1,1,Z⟩,I Z 0 0),(⟨w.heap.size+1+1,2,Z⟩,O Y 0),(⟨w.heap.size+1+1,3,Z⟩,O Y 0),(⟨w.heap.size+1+1,4,Z⟩,O Y 0),(⟨w.heap.size+1+1,5,Z⟩,O Y 0),(⟨w.heap.size+1+1,6,Z⟩,O Y 0),(⟨w.heap.size+1+1,7,Z⟩,O Y 0),(⟨w.heap.size+1+1,8,Z⟩,O Y 0),(⟨w.heap.size+1+1,9,Z⟩,O E 0),(⟨w.heap.size+1+1,10,Z⟩,I Z 0 0),(⟨w.heap.size+1+1,11,Z⟩,I Z 0 0),(⟨w.heap.size+1+1+1,0,Z⟩,.string ⟨#[]⟩),(⟨w.heap.size+1+1+1,1,Z⟩,I Z 0 0),(⟨w.heap.size+1+1+1,2,Z⟩,O Y 0),(⟨w.heap.size+1+1+1,3,Z⟩,O Y 0),(⟨w.heap.size+1+1+1,4,Z⟩,O Y 0),(⟨w.heap.size+1+1+1,5,Z⟩,O Y 0),(⟨w.heap.size+1+1+1,6,Z⟩,O Y 0),(⟨w.heap.size+1+1+1,7,Z⟩,O Y 0),(⟨w.heap.size+1+1+1,8,Z⟩,O Y 0),(⟨w.heap.size+1+1+1,9,Z⟩,O E 0),(⟨w.heap.size+1+1+1,10,Z⟩,I Z 0 0),(⟨w.heap.size+1+1+1,11,Z⟩,I Z 0 0)] g:=by
   refine⟨qcB b (i:=0) rfl,qcB b (i:=1) rfl,qcB b (i:=2) rfl,qcB b (i:=3) rfl,qcB b (i:=4) rfl,qcB b (i:=5) rfl,qcB b (i:=6) rfl,qcB b (i:=7) rfl,qcB b (i:=8) rfl,qcB b (i:=9) rfl,qcB b (i:=10) rfl,qcB b (i:=11) rfl,qcB c (i:=0) rfl,qcB c (i:=1) rfl,qcB c (i:=2) rfl,qcB c (i:=3) rfl,qcB c (i:=4) rfl,qcB c (i:=5) rfl,qcB c (i:=6) rfl,qcB c (i:=7) rfl,qcB c (i:=8) rfl,qcB c (i:=9) rfl,qcB c (i:=10) rfl,qcB c (i:=11) rfl,trivial⟩
  have B3:g.drew.heap[w.heap.size+1+1]?=M (J zla 128 (0,0)):=b;have B4:g.drew.heap[w.heap.size+1+1+1]?=M (J zla 128 (0,0)):=c;have xf:=qfB B3;have yf:=qfB B4;clear b c B3 B4
  (try clear Q ab z5 ad ae)
  (try clear R ac z6 af ag)
  refine wp_region_held_drew (S:=CellL [((⟨w.heap.size+1+1,0,Z⟩:Addr),(.string ⟨#[]⟩:N)),(⟨w.heap.size+1+1,1,Z⟩,I Z 0 0),(⟨w.heap.size+1+1,2,Z⟩,O Y 0),(⟨w.heap.size+1+1,3,Z⟩,O Y 0),(⟨w.heap.size+1+1,4,Z⟩,O Y 0),(⟨w.heap.size+1+1,5,Z⟩,O Y 0),(⟨w.heap.size+1+1,6,Z⟩,O Y 0),(⟨w.heap.size+1+1,7,Z⟩,O Y 0),(⟨w.heap.size+1+1,8,Z⟩,O Y 0),(⟨w.heap.size+1+1,9,Z⟩,O E 0),(⟨w.heap.size+1+1,10,Z⟩,I Z 0 0),(⟨w.heap.size+1+1,11,Z⟩,I Z 0 0),(⟨w.heap.size+1+1+1,0,Z⟩,.string ⟨#[]⟩),(⟨w.heap.size+1+1+1,1,Z⟩,I Z 0 0),(⟨w.heap.size+1+1+1,2,Z⟩,O Y 0),(⟨w.heap.size+1+1+1,3,Z⟩,O Y 0),(⟨w.heap.size+1+1+1,4,Z⟩,O Y 0),(⟨w.heap.size+1+1+1,5,Z⟩,O Y 0),(⟨w.heap.size+1+1+1,6,Z⟩,O Y 0),(⟨w.heap.size+1+1+1,7,Z⟩,O Y 0),(⟨w.heap.size+1+1+1,8,Z⟩,O Y 0),(⟨w.heap.size+1+1+1,9,Z⟩,O E 0),(⟨w.heap.size+1+1+1,10,Z⟩,I Z 0 0),(⟨w.heap.size+1+1+1,11,Z⟩,I Z 0 0)]) kM C0 (fun d=>?_);obtain⟨V,P⟩:=gX ((g).drew);have XV:Ext w V:=P▸X.drew;rw [P]at d xf yf ⊢;clear P X;refine sN 0 ?_
  iterate 2
   refine tkn ?_
  refine oN ?_;obtain⟨x0,x1,x2,x3,x4,x5,x6,x7,x8,x9,l,m,y0,y1,y2,y3,y4,y5,y6,y7,y8,y9,n,r,_⟩:=And.intro d trivial |>.1
  refine cl1 (i:=2) fun K h=>?_
  go_simp;simp only [zac x0,zac x1,zac x2,zac x3,zac x4,zac x5,zac x6,zac x7,zac x8,zac x9,zac l,zac m];refine kO h d (fun d=>?_);clear h K;refine cl1 (i:=3) fun K h=>?_
  go_simp;simp only [zac y0,zac y1,zac y2,zac y3,zac y4,zac y5,zac y6,zac y7,zac y8,zac y9,zac n,zac r];refine kO h d (fun d=>?_);clear h K;refine tk1 (i:=4) ?_;refine wpAnyH_done kM ?_ _;go_wp2;refine bR (v:=.tuple #[C zla,C zla,.bool false]) (by simp [results,Tryz.results103,go_sem,zla,x0,x1,x2,x3,x4,x5,x6,x7,x8,x9,l,m,y0,y1,y2,y3,y4,y5,y6,y7,y8,y9,n,r,xf,yf]) rfl ⟨rfl,XV⟩
end
section
open Go.RowKit Go.Shelf Go.Sort
theorem zd2 (w:F) (r:ByteArray) (v:N) (P:List (Int×Int)) (d k l m y s t x:Int) (h:IsPr w v P) (R:P.length≤1000) :
  Calls Tryz.prog 12 #[C #[.string r,v,O Y d,O Y k,O Y l,O Y m,O Y y,O Y s,O Y t,O E x]] w
   fun e w'=>∃v',e = .returned (C #[.string r,v',O Y d,O Y k,O Y l,O Y m,O Y y,O Y s,O Y t,O E x])∧IsPts w' v' P∧Ext w w'∧∀j,v'.ownBlock=M j→w.heap.size≤j:=by
 have HP:=hd9 (fun W (hW:Ext w W)=>zkK W r v P d k l m (h.ext' hW) R);obtain⟨a,n,c,rfl⟩:=h.form3;clear h;go_enter Tryz.func12,Tryz.ntmps12;go_wp2;refine wp_region_held_drew (S:=CellL [(⟨w.heap.size,0,Z⟩,.string r),(⟨w.heap.size,1,Z⟩,I a n c),(⟨w.heap.size,2,Z⟩,O Y d),(⟨w.heap.size,3,Z⟩,O Y k),(⟨w.heap.size,4,Z⟩,O Y l),(⟨w.heap.size,5,Z⟩,O Y m),(⟨w.heap.size,6,Z⟩,O Y y),(⟨w.heap.size,7,Z⟩,O Y s),(⟨w.heap.size,8,Z⟩,O Y t),(⟨w.heap.size,9,Z⟩,O E x)]) kM cA (fun g=>?_);refine sN 0 ?_
 iterate 2
  refine tkn ?_
 refine oN ?_;refine sN 3 ?_
 iterate 11
  refine tkn ?_
 refine oN ?_;refine cl1 (i:=2) fun K D=>?_
 go_simp
 (with_reducible refine cM (HP.out _ eA) ?_)
 rintro e w3 ⟨v3,rfl,L,o,T⟩;obtain⟨a3,n3,c3,rfl⟩:=form3 L
 go_wp2_with fail
 refine kO D (cE g o) (fun g=>?_);clear D K;refine tk1 (i:=14) ?_;have f:=o.heapS (zep w (J #[.string r,I a n c,O Y d,O Y k,O Y l,O Y m,O Y y,O Y s,O Y t,O E x] 31) (J #[.string ⟨#[]⟩,I Z 0 0,O Y 0,O Y 0,O Y 0,O Y 0,O Y 0,O Y 0,O Y 0,O E 0] 47));have k0:=qcB f (i:=0) (u:=.string ⟨#[]⟩) rfl;have k1:=qcB f (i:=1) (u:=I Z 0 0) rfl;have k2:=qcB f (i:=2) (u:=O Y 0) rfl;have k3:=qcB f (i:=3) (u:=O Y 0) rfl;have k4:=qcB f (i:=4) (u:=O Y 0) rfl;have k5:=qcB f (i:=5) (u:=O Y 0) rfl;have k6:=qcB f (i:=6) (u:=O Y 0) rfl;have k7:=qcB f (i:=7) (u:=O Y 0) rfl;have k8:=qcB f (i:=8) (u:=O Y 0) rfl;have k9:=qcB f (i:=9) (u:=O E 0) rfl;have kf:=qfB f
 have b:=hd9 (show ∀q∈[((⟨w.heap.size,0,Z⟩:Addr),Value.string r),(⟨w.heap.size,1,Z⟩,I a n c),(⟨w.heap.size,2,Z⟩,O Y d),(⟨w.heap.size,3,Z⟩,O Y k),(⟨w.heap.size,4,Z⟩,O Y l),(⟨w.heap.size,5,Z⟩,O Y m),(⟨w.heap.size,6,Z⟩,O Y y),(⟨w.heap.size,7,Z⟩,O Y s),(⟨w.heap.size,8,Z⟩,O Y t),(⟨w.heap.size,9,Z⟩,O E x)],w.heap.size+1≠q.1.block from fun q hq h=>by
  simp at hq
  rcases hq with rfl|rfl|rfl|rfl|rfl|rfl|rfl|rfl|rfl|rfl<;>(dsimp only at h;omega))
 have Q:Ext w w3:=((((eR w).alloc _).alloc _).drew).trans o;have z:=hd9 f;clear f;refine cl1 (i:=15) fun K D=>?_
 go_simp;refine kO D (CellL.set (p:=⟨w.heap.size+1,9,Z⟩) (CellL.set (p:=⟨w.heap.size+1,8,Z⟩) (CellL.set (p:=⟨w.heap.size+1,7,Z⟩) (CellL.set (p:=⟨w.heap.size+1,6,Z⟩) (CellL.set (p:=⟨w.heap.size+1,5,Z⟩) (CellL.set (p:=⟨w.heap.size+1,4,Z⟩) (CellL.set (p:=⟨w.heap.size+1,3,Z⟩) (CellL.set (p:=⟨w.heap.size+1,2,Z⟩) (CellL.set (p:=⟨w.heap.size+1,1,Z⟩) (CellL.set (p:=⟨w.heap.size+1,0,Z⟩) g b.out _) b.out _) b.out _) b.out _) b.out _) b.out _) b.out _) b.out _) b.out _) b.out _) (fun g=>?_);clear D K;refine wpAnyH_done kM ?_ _;go_wp2;have ab:=zaa z.out;have aa:IsPts w3 (I a3 n3 c3) P:=L;have n0:NoT 43 w3 (w.heap.size+1):=by intro cs fr e;rw [z.out]at e;cases e
 refine bR (v:=C #[.string r,I a3 n3 c3,O Y d,O Y k,O Y l,O Y m,O Y y,O Y s,O Y t,O E x]) (by simp [results,Tryz.results12,go_sem,k0,k1,k2,k3,k4,k5,k6,k7,k8,k9,kf]) rfl ⟨_,rfl,?_,?_,fun j hj=>by have:=T j hj;simp only [wZ,qdZ]at this;omega⟩
 ·refine aa.keep' ?_
  repeat(first|with_reducible exact KeepT.refl _ _|(with_reducible refine KeepT.setN ?_ ?_ _)|with_reducible exact n0|with_reducible refine NoT.set ?_ _ _)
 ·repeat(first|with_reducible exact Q|(with_reducible refine Ext.set ?_ dO _))
theorem PPl.keep {w w':F} {c:List N} {p:Pl} (h:PPl w c p) (k:KeepT 43 w w'):PPl w' c p:=by
 obtain⟨v,a,b,d⟩:=h;exact⟨v,a,b.keep' k,d⟩
theorem OwnC.ne_blkD {T T':TypeId} {k:Nat} {w:F} {base:Nat} {v:N} {cs:List (List N)} (h:OwnC T k w base v cs) {b:Nat} {c:Array N} {d:Nat×Nat} (a:w.heap[b]?=M (J c T' d)) (i:T'≠T):v.ownBlock≠M b:=by
 intro e
 rcases h.2.2 with ⟨f,_⟩|⟨g,cap,cur,hv,_,j,_⟩
 ·rw [f]at e;cases e
 ·rw [hv]at e;cases e;rw [j]at a;cases a;exact i rfl
theorem znu:(Tryz.prog.info? 47).map (fun i=>(i.zero,i.size,i.bytes))=M (M (C #[.string ⟨#[]⟩,I Z 0 0,O Y 0,O Y 0,O Y 0,O Y 0,O Y 0,O Y 0,O Y 0,O E 0]),10,104):=kM
def Apart (L:Nat) (c:List N):Prop:=∀j,(c.getD 1 (.bool false)).ownBlock=M j→L≤j
def OwnPlA (w:F) (base L:Nat) (v:N) (ps:List Pl):Prop:=∃cs,OwnC 47 10 w base v cs∧cs.length=ps.length∧(∀(i:Nat) c p,cs[i]?=M c→ps[i]?=M p→PPl w c p)∧∀c∈cs,Apart L c
theorem OwnPlA.own {w:F} {base L:Nat} {v:N} {ps:List Pl} (h:OwnPlA w base L v ps):OwnPl w base v ps:=by
 obtain⟨a,b,c,d,_⟩:=h;exact⟨a,b,c,d⟩
def WlS (w e:F) (a:Nat) (f h v3:N) (ps:List Pl) (g:Nat) (t4:N) (W:F):Prop:=
 ∃(i:Nat) (d:N) (b:List (List N)),i≤ps.length∧t4=O Y (i:Nat)∧g=ps.length-i∧e.grownBy W (M a)∧W.heap[a]?=M (J #[v3,d] 41 (0,0)) ∧
  OwnC 47 10 W (a+1) d b∧b.length=i∧(∀(j:Nat) c p,b[j]?=M c→ps[j]?=M p→PPl W c p)∧∀c∈b,Apart a c
theorem zkT (w:F) (vg vp:N) (g:List (Int×Int)) (ps:List Pl) (hg:IsPr w vg g) (hp:IsWr w vp ps) (a0:g.length≤1000) (aD:ps.length≤1000) (aE:∀p∈ps,p.shape.length≤1000) :
  Calls Tryz.prog 11 #[C #[vg,vp]] w fun e w'=>∃vg' vp' L,e = .returned (C #[vg',vp'])∧OwnC 43 2 w' w.heap.size vg' (g.map pc)∧(∀j,vg'.ownBlock=M j→j<L)∧OwnPlA w' w.heap.size L vp' ps∧Ext w w':=by
 have aP:=hd9 (fun W (hW:Ext w W)=>zeL W vg g (hg.ext' hW) a0);obtain⟨ga,gn,gc,rfl⟩:=hg.form3;obtain⟨pa,pn,ae,rfl⟩:=hp.form3;have Hn:=hd9 hp.len.symm;have Hp:=hd9 hp;have aV:=hd9 aE;have bs:pn≤1000:=by rw [hp.len];exact aD
 obtain⟨R,hR⟩:∃R:Ending→F→Prop,(fun e w'=>∃vg' vp' L,e = .returned (C #[vg',vp'])∧OwnC 43 2 w' w.heap.size vg' (g.map pc)∧(∀j,vg'.ownBlock=M j→j<L)∧OwnPlA w' w.heap.size L vp' ps∧Ext w w')=R:=⟨_,rfl⟩;rw [hR];have HR:=hd9 hR;clear hg hp hR aE aD;go_enter Tryz.func11,Tryz.ntmps11
 go_wp2_with(go_at_call 62;(with_reducible refine(aP.out _ ?_).mono ?_);exact eA;rintro e w3 ⟨v3,rfl,s,ak⟩;obtain⟨S,n3,c3,rfl⟩:=s.form3)
 have K0:=ak.heapS (zl8 w (J #[I ga gn gc,I pa pn ae] 25) (J #[I Z 0 0,I Z 0 0] 41));have K1:=ak.heapS (zep w (J #[I ga gn gc,I pa pn ae] 25) (J #[I Z 0 0,I Z 0 0] 41));obtain⟨b3,ag⟩:=gX w3.heap.size;obtain⟨w4,ac⟩:=gX (w3.alloc (J #[I S n3 c3,I Z 0 0] 41));have aa:Ext w3 w4:=by rw [←ac];exact(eR w3).alloc _
 have a8:w4.heap.size=b3+1:=by rw [←ac];simp [ag]
 have au:w4.heap[b3]?=M (J #[I S n3 c3,I Z 0 0] 41 (0,0)):=by rw [←ac];exact qhA _ _ _ ag.symm
 have aw:Ext w w4:=(((((eR w).alloc _).alloc _).trans ak).trans aa);have aG:=s.ext aa
 have aH:∀j,(Value.slice S n3 c3).ownBlock=M j→w.heap.size+1<j∧j<b3:=fun j hj=>by
  obtain⟨q1,q2⟩:=s.lt j hj;simp only [wZ,qdZ]at q1;exact⟨by omega,by omega⟩
 have ba:=zaa K1;rw [ag]at ba ⊢;rw [ac];have aL:=hd9 (aa.heapS K0);have aM:=hd9 (aa.heapS K1);have aq:=hd9 au;have aQ:=hd9 aw;have aW:=hd9 aG;have aX:=hd9 aH;clear K0 K1 ac aa au aw aG aH s ak ag;go_wp2
 go_loopg [4] pn (WlS w w4 b3 (I ga gn gc) (I pa pn ae) (I S n3 c3) ps)
 case atStart=>exact⟨0,_,[],by omega,rfl,by rw [Hn.out];rfl,znk _ _,aq.out,by rw [←a8];exact OwnC.nil _ _ _ _,rfl,fun j c p a=>by simp at a,fun c a=>by cases a⟩
 case round =>
  obtain⟨i,vs,cs,hi,rfl,rfl,y,ab,r,aA,aj,ai⟩:=hrel;rw [Hn.out]at hi;obtain⟨va,vn,vc,rfl⟩:=r.form3;have aF:=y.size;have ah:=(y.block w.heap.size oM (by simp;omega)).trans aL.out;have bc:=qcB ah (i:=0) (u:=I ga gn gc) rfl;have be:=qcB ah (i:=1) (u:=I pa pn ae) rfl;have bg:=qcB ab (i:=1) (u:=I va vn vc) rfl;have bf:=qcB ab (i:=0) (u:=I S n3 c3) rfl;have ap:Ext w wr:=zos aQ.out y oM
  by_cases a4:i<pn
  ·obtain⟨p,hq⟩:∃q,ps[i]?=M q:=⟨ps[i]'(by rw [Hn.out];omega),by simp [Hn.out,a4]⟩
   obtain⟨b,o,v,rfl,hb,hv,a6,a⟩:=(Hp.out.ext' ap).at' hq;obtain⟨b0,o0,v0,e0,bq,_,_,_⟩:=Hp.out.at' hq
   cases e0
   have aO:=hd9 (fun W (hW:Ext wr W)=>zd2 W p.name v p.shape p.depth p.density p.gx p.gz p.way p.ax p.az p.skin (hv.ext' hW) (aV.out p (lM hq)));obtain⟨sa,sn,sc,rfl⟩:=hv.form3;have aZ:=a 0 (.string p.name) rfl;have bh:=a 1 (I sa sn sc) rfl;have bi:=a 2 (O Y p.depth) rfl;have bj:=a 3 (O Y p.density) rfl;have bk:=a 4 (O Y p.gx) rfl;have bl:=a 5 (O Y p.gz) rfl;have bm:=a 6 (O Y p.way) rfl;have bn:=a 7 (O Y p.ax) rfl;have bo:=a 8 (O Y p.az) rfl;have bp:=a 9 (O E p.skin) rfl;simp only [Nat.add_zero]at aZ;have Hq:=hd9 hq;have aT:=hd9 y;have aS:=hd9 ab;have P:=hd9 r;have an:=hd9 aj;have am:=hd9 ai;have p1:(0:Int)≤(i:Int):=oM
   have p2:(i:Int)<(pn:Int):=oM
   clear hq hv a y ab r aj ai ah;go_wp2;refine zae (fun i=>decide (10<i)) (CellL [(⟨b3,1,Z⟩,I va vn vc),(⟨w.heap.size,1,Z⟩,I (M ⟨b,o,Z⟩) pn ae),(⟨b,o+i*10,Z⟩,.string p.name),(⟨b,o+i*10+1,Z⟩,I sa sn sc),(⟨b,o+i*10+2,Z⟩,O Y p.depth),(⟨b,o+i*10+3,Z⟩,O Y p.density),(⟨b,o+i*10+4,Z⟩,O Y p.gx),(⟨b,o+i*10+5,Z⟩,O Y p.gz),(⟨b,o+i*10+6,Z⟩,O Y p.way),(⟨b,o+i*10+7,Z⟩,O Y p.ax),(⟨b,o+i*10+8,Z⟩,O Y p.az),(⟨b,o+i*10+9,Z⟩,O E p.skin)]) kM ?_ (fun d=>?_)
   ·exact cA
   refine sN 0 ?_
   iterate 7
    refine tun ?_
   refine oN ?_;refine cu1 (i:=7) fun K hK=>?_
   go_simp
   (with_reducible refine cM (aO.out _ (eR wr).drew) ?_)
   rintro e w7 ⟨v7,rfl,aI,aK,a5⟩;obtain⟨a7,n7,c7,rfl⟩:=form3 aI
   go_wp2_with fail
   refine kO hK (fun _=>cE d aK) (fun d=>?_);clear hK K;have d:=d rfl;have X7:Ext wr w7:=((eR wr).drew).trans aK;refine cu1 (i:=8) fun K hK=>?_
   go_simp;refine kO hK (fun _=>cE d ((eR _).alloc _)) (fun d=>?_);clear hK K;have d:=d rfl;have hA:Ext wr (w7.alloc (J #[.string p.name,I a7 n7 c7,O Y p.depth,O Y p.density,O Y p.gx,O Y p.gz,O Y p.way,O Y p.ax,O Y p.az,O E p.skin] 47)):=X7.alloc _;refine cu1 (i:=9) fun K hK=>?_
   refine zcW (T:=47) (t:=39) (z:=C #[.string ⟨#[]⟩,I Z 0 0,O Y 0,O Y 0,O Y 0,O Y 0,O Y 0,O Y 0,O Y 0,O E 0]) (k:=10) (bytes:=104) (v:=I va vn vc) (base:=b3+1) znu rfl dM dM Tryz.underlying39 rfl _ _ rfl rfl (cs:=cs) (P.out.ext hA) (ad:=⟨w7.heap.size,0,Z⟩) (m:=1) (c:=1) rfl [(#[.string p.name,I a7 n7 c7,O Y p.depth,O Y p.density,O Y p.gx,O Y p.gz,O Y p.way,O Y p.ax,O Y p.az,O E p.skin]:Array N).toList] rfl sM (by exact zdu w7 #[.string p.name,I a7 n7 c7,O Y p.depth,O Y p.density,O Y p.gx,O Y p.gz,O Y p.way,O Y p.ax,O Y p.az,O E p.skin] 47) (by simp [Value.oneCell']) oM (by have:=hA.size;omega) ?_;intro v' w9 l n bb;obtain⟨a9,n9,c9,rfl⟩:=l.form3;have Q:=hd9 (fun j (h:(Value.slice va vn vc).ownBlock=M j)=>P.out.lt j h);refine kO hK (fun _=>CellL.grown d n (fun q hq e=>?_)) (fun d=>?_)
   ·have h9:=(Q.out _ e.symm).1
    simp at hq
    rcases hq with rfl|rfl|rfl|rfl|rfl|rfl|rfl|rfl|rfl|rfl|rfl|rfl<;>(dsimp only at h9;omega)
   clear hK K;have d:=d rfl;refine tu1 (i:=10) ?_;have af:=zaf n (hA.heapS aS.out) (fun e=>by have:=(Q.out _ e.symm).1;omega);have n1:=qcB af (i:=1) (u:=I va vn vc) rfl;have nf:=qfB af
   have aB:KeepT 43 wr w9:=fun x c f hx=>zaf n (hA.heapS hx) (fun e=>by
    have h8:=(P.out.ext hA).ne_blkD (hA.heapS hx) dM;exact h8 e.symm)
   have al:=hd9 af;have aU:=hd9 aB;clear af aB;refine cu1 (i:=11) fun K hK=>?_
   go_simp;refine kO hK (fun h=>nomatch h) (fun d=>?_);clear hK K;refine doneHU kM ?_ _;go_wp2
   go_roundg (pn-(i+1))
   case measure=>have:=Hn.out;omega
   case rel =>
    have aC:KeepT 43 wr (w9.setCell ⟨b3,1,Z⟩ (I a9 n9 c9)):=aU.out.set (p:=⟨b3,1,Z⟩) al.out dM _;refine⟨i+1,I a9 n9 c9,cs++[#[.string p.name,I a7 n7 c7,O Y p.depth,O Y p.density,O Y p.gx,O Y p.gz,O Y p.way,O Y p.ax,O Y p.az,O E p.skin].toList],by rw [Hn.out];omega,by go_num,by rw [Hn.out],zcG (zlr aT.out ((Below.mono hA aF).trans (zad (base:=w4.heap.size) n (nT aF hA.size) (fun k hk=>by have:=(Q.out k hk).1;omega)))) 1 _,zao al.out 1 _,l.setOther (fun e=>by have:=(l.lt _ e).1;dsimp only at this;omega) _,by simp [aA],?_,?_⟩;rotate_left
    ·intro c a
     rcases List.mem_append.1 a with a|a
     ·exact am.out c a
     ·rw [List.mem_singleton.1 a]
      intro j hj;have h1:=a5 j hj;simp only [qdZ]at h1;omega
    intro j c x a hx
    by_cases hj:j<cs.length
    ·rw [List.getElem?_append_left hj]at a
     exact(an.out j c x a hx).keep aC
    ·rw [List.getElem?_append_right oM]at a
     have hl:=(lS.1 a).1;simp at hl;have a1:j-cs.length=0:=oM
     rw [a1]at a;have a2:j=i:=oM
     subst a2;rw [Hq.out]at hx
     cases hx
     simp at a;subst a;refine⟨I a7 n7 c7,rfl,?_,a6⟩;have h1:IsPts (w7.alloc (J #[.string p.name,I a7 n7 c7,O Y p.depth,O Y p.density,O Y p.gx,O Y p.gz,O Y p.way,O Y p.ax,O Y p.az,O E p.skin] 47)) (I a7 n7 c7) p.shape:=aI.ext' ((eR _).alloc _)
     have h2:KeepT 43 (w7.alloc (J #[.string p.name,I a7 n7 c7,O Y p.depth,O Y p.density,O Y p.gx,O Y p.gz,O Y p.way,O Y p.ax,O Y p.az,O E p.skin] 47)) w9:=fun x c f hx=>zaf n hx (fun e=>by
      have h8:=(P.out.ext hA).ne_blkD hx dM;exact h8 e.symm)
     exact(h1.keep' h2).keep' ((KeepT.refl _ w9).set (p:=⟨b3,1,Z⟩) al.out dM _)
  ·obtain rfl:pn=i:=oM
   have D:=(y.block (w.heap.size+1) oM (by simp;omega)).trans aM.out;have r0:=qcB D (i:=0) (u:=I Z 0 0) rfl;have r1:=qcB D (i:=1) (u:=I Z 0 0) rfl;have rf:=qfB D;have aJ:OwnC 43 2 wr (w.heap.size+1+1) (I S n3 c3) (g.map pc):=(aW.out.keep (zls y aq.out dM)).mono (by simp only [wZ,qdZ];omega);have zr:=zaa D;have av:KeepT 43 wr ((wr.setCell ⟨w.heap.size+1,0,Z⟩ (I S n3 c3)).setCell ⟨w.heap.size+1,1,Z⟩ (I va vn vc)):=((KeepT.refl _ wr).set (p:=⟨w.heap.size+1,0,Z⟩) D dM _).set (p:=⟨w.heap.size+1,1,Z⟩) (zao D 0 _) dM _;have ay:Ext w ((wr.setCell ⟨w.heap.size+1,0,Z⟩ (I S n3 c3)).setCell ⟨w.heap.size+1,1,Z⟩ (I va vn vc)):=(ap.set dO _).set dO _;have l:=(((r.setOther (p:=⟨w.heap.size+1,0,Z⟩) (fun e=>by have:=(r.lt _ e).1;dsimp only at this;omega) (I S n3 c3)).setOther (p:=⟨w.heap.size+1,1,Z⟩) (fun e=>by have:=(r.lt _ e).1;dsimp only at this;omega) (I va vn vc))).mono (b':=w.heap.size) oM;have br:=zao (zao D 0 (I S n3 c3)) 1 (I va vn vc);have ao:=hd9 l;have ar:=hd9 av;have aR:=hd9 ay;have aY:=hd9 aJ;have an:=hd9 aj;have am:=hd9 ai;clear l av ay aJ aj ai r y ah ab ap;go_wp2;refine bR (v:=C #[I S n3 c3,I va vn vc]) (by simp [results,Tryz.results11,go_sem,r0,r1,rf]) rfl ?_;rw [←HR.out];exact⟨_,_,b3,rfl,(aY.out.keep ar.out).mono oM,fun j hj=>(aX.out j hj).2,⟨cs,ao.out,by rw [aA,Hn.out],fun j c p a hx=>(an.out j c p a hx).keep ar.out,am.out⟩,aR.out⟩
end
end Go.Proofs.YtjnjpagegkcgfaaGreatDoor.Cop
