/- Part 25. -/
import Derived.Test.YtjnjpagegkcgfaaGreatDoorCosA23
import Derived.Test.YtjnjpagegkcgfaaGreatDoorRows
import Derived.Test.YtjnjpagegkcgfaaGreatDoorCards
import Derived.Test.YtjnjpagegkcgfaaGreatDoorTie
import Derived.LaidMore
import Derived.Lay
import Derived.Stop.Joined
import Derived.OpenShut
import Derived.SevenTiedAt
import Derived.Test.YtjnjpagegkcgfaaGreatDoorCosA22
import Derived.Test.YtjnjpagegkcgfaaGreatDoorCosA11
import Derived.Test.YtjnjpagegkcgfaaGreatDoorCosA17
set_option maxRecDepth 1000000
set_option maxHeartbeats 16000000
set_option linter.unusedSimpArgs false
set_option linter.unusedVariables false
open Go.Value renaming int->O,slice->I,agg->N,tuple->E
open Go.IntKind renaming i64->Y,u8->M
open Option renaming none->Z
open Go.Obj renaming cells->J
namespace Go.Proofs.YtjnjpagegkcgfaaGreatDoor.Cop
section
open Go Go.ChangeShapes Go.WideShapes Go.ChangeAt Go.RowKit
theorem zlw:ownKnob Tryz.prog.godebug=none:=kM
theorem g_ways:Tryz.prog.globalNamed "copestone/stone.ways" = some 0:=kM
theorem t_ways:(Tryz.prog.globals[0]?).map (·.type)=some 264:=kM
theorem zlU:Tryz.prog.underlying 264=some (.array 4 263):=kM
theorem zdl:Tryz.prog.underlying 263=some (.func #[43] #[43] false):=kM
theorem zeS:laidOutB Tryz.prog=true:=kM
abbrev vars3:List (String×DataW Unit):=[("unicode/utf8.acceptRanges",Rows.laid_unicode_utf8_acceptRanges),("copestone/stone.ways",Rows.laid_copestone_stone_ways),("unicode/utf8.first",Rows.laid_unicode_utf8_first)]
abbrev vars2:List (String×DataW Unit):=[("unicode/utf8.acceptRanges",Rows.laid_unicode_utf8_acceptRanges),("unicode/utf8.first",Rows.laid_unicode_utf8_first)]
theorem zhY{W:World}(h:laidMetH Tryz.prog vars3 W):Gw W:=by
 obtain⟨g,t,a,fuel,p,c,q,hv,o⟩:=h.funcs (mC _ (List.mem_cons_self ..));obtain rfl:=Option.some.inj (g_ways.symm.trans c);obtain rfl:=Option.some.inj (t_ways.symm.trans q);have d:DataW.trod (funcToken Tryz.prog) Tryz.prog W 0 (fun _=>true) true fuel 264 a.toList=some (.agg [.held [99,111,112,101,115,116,111,110,101,47,115,116,111,110,101,46,119,97,121,115,36,49],.held [99,111,112,101,115,116,111,110,101,47,115,116,111,110,101,46,119,97,121,115,36,50],.held [99,111,112,101,115,116,111,110,101,47,115,116,111,110,101,46,119,97,121,115,36,51],.held [99,111,112,101,115,116,111,110,101,47,115,116,111,110,101,46,119,97,121,115,36,52]],p):=o;obtain⟨D,m,_,k,j,f,b⟩:=DataW.trod_array zlU d;have l:Tryz.prog.cellsOf 263=1:=kM
 have n:Tryz.prog.cellsOf 264=4:=kM
 rw[n]at j;rw[l]at b;obtain⟨a⟩:=a;have e:a.length=4:=j
 match a,e,D,f with
 | [R,T,v2,v3],_,[⟨y0,K⟩,⟨y1,L⟩,⟨y2,P⟩,⟨y3,Q⟩],_ =>
  simp only[Prod.mk.injEq,List.map_cons,List.map_nil,DataW.agg.injEq,List.cons.injEq,and_true]at k;obtain⟨⟨rfl,rfl,rfl,rfl⟩,_⟩:=k;have w:=b 0 oM;have x:=b 1 oM;have y:=b 2 oM;have z:=b 3 oM;have r:=World.var?_cell c hv 0;have s:=World.var?_cell c hv 1;have u:=World.var?_cell c hv 2;have v:=World.var?_cell c hv 3;obtain rfl:=func_of_trod (f0:=327) zdl kM w;obtain rfl:=func_of_trod (f0:=328) zdl kM x;obtain rfl:=func_of_trod (f0:=329) zdl kM y;obtain rfl:=func_of_trod (f0:=330) zdl kM z;have i:W.cell? ⟨0,0,none⟩=some (.func (.func 327) #[] #[]):=by simpa using r
  exact⟨World.block_lt_of_cell? W _ (by rw[i]),i,by simpa using s,by simpa using u,by simpa using v⟩
noncomputable def wit(os:Os):World:=(World.doorLaid Tryz.prog 14 os).layVars Tryz.prog vars2
theorem znN(os:Os)(args:Array Value):laidMetH Tryz.prog vars3 ((wit os).forCall (fun _ _=>0) ⟨#[],args,[]⟩).memory:=by
 refine laidMetH_of_parts3 (fuel:=8) ?_ kM kM
 exact laidMet_layVars (w0:=World.doorLaid Tryz.prog 14 os) ["unicode/utf8.acceptRanges", "unicode/utf8.first"] [] (by rfl) kM kM LaidIn.none
theorem zoE{k:IntKind}{n:Int}(h:(Lit.int k n).wf=true):k.min<=n/\n<=k.max:=by
 unfold Lit.wf at h;simp only[Bool.and_eq_true,decide_eq_true_eq]at h;exact h
theorem zh9{H:Type}{enc:TypeId×Value->H}{w:World}{spare:Nat->Bool}{held:Bool}{r:Reach}{a:Nat}{v:Value}{d:DataW H}{p:List MemPlace}(hv:Value.okWide Tryz.prog w r a 31 v)(h:DataW.Trod enc Tryz.prog w 0 spare held 31 v d p) :
  ∃v' q,v = .agg (plc q v')/\IsPr w v' q.shape/\0<=q.skin:=by
 obtain⟨b,rfl,j⟩:=okWide_struct zmw hv;obtain⟨fuel,i⟩:=h;obtain⟨q,v',e,f,g⟩:=zej i;have c:b=plc q v':=Array.toList_inj.1 e;exact⟨v',q,by rw[c],f,g⟩
end
section
open Go.RowKit Go.Shelf Go.Sort Go.Lib
attribute [local go_sem] Oper.semAt_some
abbrev zla:Array Value:=#[.string ⟨#[]⟩,I Z 0 0,O Y 0,O Y 0,O Y 0,O Y 0,O Y 0,O Y 0,O Y 0,O M 0,I Z 0 0,I Z 0 0]
theorem zly(w:World)(v1 v2:Value)(p q:Pl)(h1:IsPts w v1 p.shape)(h2:IsPts w v2 q.shape)(k1:0<=p.skin)(k2:0<=q.skin)(o:¬(placedOk p=true/\placedOk q=true)) :
  Calls Tryz.prog 103 #[N (plc p v1),N (plc q v2)] w fun e w'=>e = .returned (E #[N zla,N zla,.bool false])/\Ext w w':=by
 have t:=hd9 (fun(W:World)(hW:Ext w W)=>zau W p _ (h1.ext' hW) k1);have u:=hd9 (fun(W:World)(hW:Ext w W)=>zau W q _ (h2.ext' hW) k2);obtain⟨x,L,z,rfl⟩:=form3 h1;obtain⟨y,P,D,rfl⟩:=form3 h2;clear h1 h2 k1 k2;obtain⟨e1,aa⟩:∃e:Int,(if placedOk p=true then (0:Int)else 2)=e:=⟨_,rfl⟩;obtain⟨e2,ab⟩:∃e:Int,(if placedOk q=true then (0:Int)else 2)=e:=⟨_,rfl⟩;rw[aa]at t;rw[ab]at u
 have ai:(e1=2)\/(e1=0/\e2=2):=by
  subst aa ab
  by_cases h1:placedOk p=true<;>by_cases h2:placedOk q=true<;>simp[h1,h2]at o ⊢
 clear aa ab o;unfold plc at t u ⊢
 rcases ai with rfl|⟨rfl,rfl⟩
 ·go_enter Tryz.func103,Tryz.ntmps103
  go_upto_region 2 with (first|(go_at_call 28;(with_reducible refine(t.out _ ?_).mono ?_);exact eA;rintro e f ⟨rfl,k⟩;obtain⟨R,ac⟩:=k.cells;(have z5:=k.size);(try simp only[wZ]at z5);(have ae:w.heap.size<f.heap.size:=oM);(have af:w.heap.size+1<f.heap.size:=oM))|(go_at_call 28;(with_reducible refine(u.out _ ?_).mono ?_);exact eA;rintro e g ⟨rfl,l⟩;obtain⟨T,ad⟩:=l.cells;(have z6:=l.size);(try simp only[wZ]at z6);(have ag:w.heap.size<g.heap.size:=oM);(have ah:w.heap.size+1<g.heap.size:=oM)))
  have b:f.heap[w.heap.size+1+1]?=some (J zla 128 (0,0)):=Ext.heapS (a:=(((w.alloc (J #[.string p.name,I x L z,O Y p.depth,O Y p.density,O Y p.gx,O Y p.gz,O Y p.way,O Y p.ax,O Y p.az,O M p.skin] 47)).alloc (J #[.string q.name,I y P D,O Y q.depth,O Y q.density,O Y q.gx,O Y q.gz,O Y q.way,O Y q.ax,O Y q.az,O M q.skin] 47)).alloc (J zla 128))) eA (qhA _ _ _ sM);have c:f.heap[w.heap.size+1+1+1]?=some (J zla 128 (0,0)):=Ext.heapS (a:=((((w.alloc (J #[.string p.name,I x L z,O Y p.depth,O Y p.density,O Y p.gx,O Y p.gz,O Y p.way,O Y p.ax,O Y p.az,O M p.skin] 47)).alloc (J #[.string q.name,I y P D,O Y q.depth,O Y q.density,O Y q.gx,O Y q.gz,O Y q.way,O Y q.ax,O Y q.az,O M q.skin] 47)).alloc (J zla 128)).alloc (J zla 128))) eA (qhA _ _ _ sM);have X:Ext w f:=eA
  have C0:CellL [((⟨w.heap.size+1+1,0,Z⟩:Addr),(.string ⟨#[]⟩:Value)),(⟨w.heap.size+1+1,1,Z⟩,I Z 0 0),(⟨w.heap.size+1+1,2,Z⟩,O Y 0),(⟨w.heap.size+1+1,3,Z⟩,O Y 0),(⟨w.heap.size+1+1,4,Z⟩,O Y 0),(⟨w.heap.size+1+1,5,Z⟩,O Y 0),(⟨w.heap.size+1+1,6,Z⟩,O Y 0),(⟨w.heap.size+1+1,7,Z⟩,O Y 0),(⟨w.heap.size+1+1,8,Z⟩,O Y 0),(⟨w.heap.size+1+1,9,Z⟩,O M 0),(⟨w.heap.size+1+1,10,Z⟩,I Z 0 0),(⟨w.heap.size+1+1,11,Z⟩,I Z 0 0),(⟨w.heap.size+1+1+1,0,Z⟩,.string ⟨#[]⟩),(⟨w.heap.size+1+1+1,1,Z⟩,I Z 0 0),(⟨w.heap.size+1+1+1,2,Z⟩,O Y 0),(⟨w.heap.size+1+1+1,3,Z⟩,O Y 0),(⟨w.heap.size+1+1+1,4,Z⟩,O Y 0),(⟨w.heap.size+1+1+1,5,Z⟩,O Y 0),(⟨w.heap.size+1+1+1,6,Z⟩,O Y 0),(⟨w.heap.size+1+1+1,7,Z⟩,O Y 0),(⟨w.heap.size+1+1+1,8,Z⟩,O Y 0),(⟨w.heap.size+1+1+1,9,Z⟩,O M 0),(⟨w.heap.size+1+1+1,10,Z⟩,I Z 0 0),(⟨w.heap.size+1+1+1,11,Z⟩,I Z 0 0)] f:=by
   refine⟨qcB b (i:=0) rfl,qcB b (i:=1) rfl,qcB b (i:=2) rfl,qcB b (i:=3) rfl,qcB b (i:=4) rfl,qcB b (i:=5) rfl,qcB b (i:=6) rfl,qcB b (i:=7) rfl,qcB b (i:=8) rfl,qcB b (i:=9) rfl,qcB b (i:=10) rfl,qcB b (i:=11) rfl,qcB c (i:=0) rfl,qcB c (i:=1) rfl,qcB c (i:=2) rfl,qcB c (i:=3) rfl,qcB c (i:=4) rfl,qcB c (i:=5) rfl,qcB c (i:=6) rfl,qcB c (i:=7) rfl,qcB c (i:=8) rfl,qcB c (i:=9) rfl,qcB c (i:=10) rfl,qcB c (i:=11) rfl,trivial⟩
  have B3:f.drew.heap[w.heap.size+1+1]?=some (J zla 128 (0,0)):=b;have B4:f.drew.heap[w.heap.size+1+1+1]?=some (J zla 128 (0,0)):=c;have xf:=qfB B3;have yf:=qfB B4;clear b c B3 B4
  (try clear R ac z5 ae af)
  (try clear T ad z6 ag ah)
  refine wp_region_held_drew (S:=CellL [((⟨w.heap.size+1+1,0,Z⟩:Addr),(.string ⟨#[]⟩:Value)),(⟨w.heap.size+1+1,1,Z⟩,I Z 0 0),(⟨w.heap.size+1+1,2,Z⟩,O Y 0),(⟨w.heap.size+1+1,3,Z⟩,O Y 0),(⟨w.heap.size+1+1,4,Z⟩,O Y 0),(⟨w.heap.size+1+1,5,Z⟩,O Y 0),(⟨w.heap.size+1+1,6,Z⟩,O Y 0),(⟨w.heap.size+1+1,7,Z⟩,O Y 0),(⟨w.heap.size+1+1,8,Z⟩,O Y 0),(⟨w.heap.size+1+1,9,Z⟩,O M 0),(⟨w.heap.size+1+1,10,Z⟩,I Z 0 0),(⟨w.heap.size+1+1,11,Z⟩,I Z 0 0),(⟨w.heap.size+1+1+1,0,Z⟩,.string ⟨#[]⟩),(⟨w.heap.size+1+1+1,1,Z⟩,I Z 0 0),(⟨w.heap.size+1+1+1,2,Z⟩,O Y 0),(⟨w.heap.size+1+1+1,3,Z⟩,O Y 0),(⟨w.heap.size+1+1+1,4,Z⟩,O Y 0),(⟨w.heap.size+1+1+1,5,Z⟩,O Y 0),(⟨w.heap.size+1+1+1,6,Z⟩,O Y 0),(⟨w.heap.size+1+1+1,7,Z⟩,O Y 0),(⟨w.heap.size+1+1+1,8,Z⟩,O Y 0),(⟨w.heap.size+1+1+1,9,Z⟩,O M 0),(⟨w.heap.size+1+1+1,10,Z⟩,I Z 0 0),(⟨w.heap.size+1+1+1,11,Z⟩,I Z 0 0)]) kM C0 (fun d=>?_);obtain⟨V,Q⟩:=gX ((f).drew);have XV:Ext w V:=Q▸X.drew;rw[Q]at d xf yf ⊢;clear Q X;refine sN 0 ?_
  iterate 2
   refine tkn ?_
  refine oN ?_;obtain⟨x0,x1,x2,x3,x4,x5,x6,x7,x8,x9,m,n,y0,y1,y2,y3,y4,y5,y6,y7,y8,y9,r,s,_⟩:=And.intro d trivial |>.1
  refine cl1 (i:=2) fun K j=>?_
  go_simp;simp only[zac x0,zac x1,zac x2,zac x3,zac x4,zac x5,zac x6,zac x7,zac x8,zac x9,zac m,zac n];refine kO j d (fun d=>?_);clear j K;refine cl1 (i:=3) fun K j=>?_
  go_simp;simp only[zac y0,zac y1,zac y2,zac y3,zac y4,zac y5,zac y6,zac y7,zac y8,zac y9,zac r,zac s];refine kO j d (fun d=>?_);clear j K;refine tk1 (i:=4) ?_;refine wpAnyH_done kM ?_ _;go_wp2;refine bR (v:=E #[N zla,N zla,.bool false]) (by simp[results,Tryz.results103,go_sem,zla,x0,x1,x2,x3,x4,x5,x6,x7,x8,x9,m,n,y0,y1,y2,y3,y4,y5,y6,y7,y8,y9,r,s,xf,yf]) rfl ⟨rfl,XV⟩
 ·go_enter Tryz.func103,Tryz.ntmps103
  go_upto_region 2 with (first|(go_at_call 28;(with_reducible refine(t.out _ ?_).mono ?_);exact eA;rintro e f ⟨rfl,k⟩;obtain⟨R,ac⟩:=k.cells;(have z5:=k.size);(try simp only[wZ]at z5);(have ae:w.heap.size<f.heap.size:=oM);(have af:w.heap.size+1<f.heap.size:=oM))|(go_at_call 28;(with_reducible refine(u.out _ ?_).mono ?_);exact eA;rintro e g ⟨rfl,l⟩;obtain⟨T,ad⟩:=l.cells;(have z6:=l.size);(try simp only[wZ]at z6);(have ag:w.heap.size<g.heap.size:=oM);(have ah:w.heap.size+1<g.heap.size:=oM)))
  have b:g.heap[w.heap.size+1+1]?=some (J zla 128 (0,0)):=Ext.heapS (a:=(((w.alloc (J #[.string p.name,I x L z,O Y p.depth,O Y p.density,O Y p.gx,O Y p.gz,O Y p.way,O Y p.ax,O Y p.az,O M p.skin] 47)).alloc (J #[.string q.name,I y P D,O Y q.depth,O Y q.density,O Y q.gx,O Y q.gz,O Y q.way,O Y q.ax,O Y q.az,O M q.skin] 47)).alloc (J zla 128))) eA (qhA _ _ _ sM);have c:g.heap[w.heap.size+1+1+1]?=some (J zla 128 (0,0)):=Ext.heapS (a:=((((w.alloc (J #[.string p.name,I x L z,O Y p.depth,O Y p.density,O Y p.gx,O Y p.gz,O Y p.way,O Y p.ax,O Y p.az,O M p.skin] 47)).alloc (J #[.string q.name,I y P D,O Y q.depth,O Y q.density,O Y q.gx,O Y q.gz,O Y q.way,O Y q.ax,O Y q.az,O M q.skin] 47)).alloc (J zla 128)).alloc (J zla 128))) eA (qhA _ _ _ sM);have X:Ext w g:=eA
  have C0:CellL [((⟨w.heap.size+1+1,0,Z⟩:Addr),(.string ⟨#[]⟩:Value)),(⟨w.heap.size+1+1,1,Z⟩,I Z 0 0),(⟨w.heap.size+1+1,2,Z⟩,O Y 0),(⟨w.heap.size+1+1,3,Z⟩,O Y 0),(⟨w.heap.size+1+1,4,Z⟩,O Y 0),(⟨w.heap.size+1+1,5,Z⟩,O Y 0),(⟨w.heap.size+1+1,6,Z⟩,O Y 0),(⟨w.heap.size+1+1,7,Z⟩,O Y 0),(⟨w.heap.size+1+1,8,Z⟩,O Y 0),(⟨w.heap.size+1+1,9,Z⟩,O M 0),(⟨w.heap.size+1+1,10,Z⟩,I Z 0 0),(⟨w.heap.size+1+1,11,Z⟩,I Z 0 0),(⟨w.heap.size+1+1+1,0,Z⟩,.string ⟨#[]⟩),(⟨w.heap.size+1+1+1,1,Z⟩,I Z 0 0),(⟨w.heap.size+1+1+1,2,Z⟩,O Y 0),(⟨w.heap.size+1+1+1,3,Z⟩,O Y 0),(⟨w.heap.size+1+1+1,4,Z⟩,O Y 0),(⟨w.heap.size+1+1+1,5,Z⟩,O Y 0),(⟨w.heap.size+1+1+1,6,Z⟩,O Y 0),(⟨w.heap.size+1+1+1,7,Z⟩,O Y 0),(⟨w.heap.size+1+1+1,8,Z⟩,O Y 0),(⟨w.heap.size+1+1+1,9,Z⟩,O M 0),(⟨w.heap.size+1+1+1,10,Z⟩,I Z 0 0),(⟨w.heap.size+1+1+1,11,Z⟩,I Z 0 0)] g:=by
   refine⟨qcB b (i:=0) rfl,qcB b (i:=1) rfl,qcB b (i:=2) rfl,qcB b (i:=3) rfl,qcB b (i:=4) rfl,qcB b (i:=5) rfl,qcB b (i:=6) rfl,qcB b (i:=7) rfl,qcB b (i:=8) rfl,qcB b (i:=9) rfl,qcB b (i:=10) rfl,qcB b (i:=11) rfl,qcB c (i:=0) rfl,qcB c (i:=1) rfl,qcB c (i:=2) rfl,qcB c (i:=3) rfl,qcB c (i:=4) rfl,qcB c (i:=5) rfl,qcB c (i:=6) rfl,qcB c (i:=7) rfl,qcB c (i:=8) rfl,qcB c (i:=9) rfl,qcB c (i:=10) rfl,qcB c (i:=11) rfl,trivial⟩
  have B3:g.drew.heap[w.heap.size+1+1]?=some (J zla 128 (0,0)):=b;have B4:g.drew.heap[w.heap.size+1+1+1]?=some (J zla 128 (0,0)):=c;have xf:=qfB B3;have yf:=qfB B4;clear b c B3 B4
  (try clear R ac z5 ae af)
  (try clear T ad z6 ag ah)
  refine wp_region_held_drew (S:=CellL [((⟨w.heap.size+1+1,0,Z⟩:Addr),(.string ⟨#[]⟩:Value)),(⟨w.heap.size+1+1,1,Z⟩,I Z 0 0),(⟨w.heap.size+1+1,2,Z⟩,O Y 0),(⟨w.heap.size+1+1,3,Z⟩,O Y 0),(⟨w.heap.size+1+1,4,Z⟩,O Y 0),(⟨w.heap.size+1+1,5,Z⟩,O Y 0),(⟨w.heap.size+1+1,6,Z⟩,O Y 0),(⟨w.heap.size+1+1,7,Z⟩,O Y 0),(⟨w.heap.size+1+1,8,Z⟩,O Y 0),(⟨w.heap.size+1+1,9,Z⟩,O M 0),(⟨w.heap.size+1+1,10,Z⟩,I Z 0 0),(⟨w.heap.size+1+1,11,Z⟩,I Z 0 0),(⟨w.heap.size+1+1+1,0,Z⟩,.string ⟨#[]⟩),(⟨w.heap.size+1+1+1,1,Z⟩,I Z 0 0),(⟨w.heap.size+1+1+1,2,Z⟩,O Y 0),(⟨w.heap.size+1+1+1,3,Z⟩,O Y 0),(⟨w.heap.size+1+1+1,4,Z⟩,O Y 0),(⟨w.heap.size+1+1+1,5,Z⟩,O Y 0),(⟨w.heap.size+1+1+1,6,Z⟩,O Y 0),(⟨w.heap.size+1+1+1,7,Z⟩,O Y 0),(⟨w.heap.size+1+1+1,8,Z⟩,O Y 0),(⟨w.heap.size+1+1+1,9,Z⟩,O M 0),(⟨w.heap.size+1+1+1,10,Z⟩,I Z 0 0),(⟨w.heap.size+1+1+1,11,Z⟩,I Z 0 0)]) kM C0 (fun d=>?_);obtain⟨V,Q⟩:=gX ((g).drew);have XV:Ext w V:=Q▸X.drew;rw[Q]at d xf yf ⊢;clear Q X;refine sN 0 ?_
  iterate 2
   refine tkn ?_
  refine oN ?_;obtain⟨x0,x1,x2,x3,x4,x5,x6,x7,x8,x9,m,n,y0,y1,y2,y3,y4,y5,y6,y7,y8,y9,r,s,_⟩:=And.intro d trivial |>.1
  refine cl1 (i:=2) fun K j=>?_
  go_simp;simp only[zac x0,zac x1,zac x2,zac x3,zac x4,zac x5,zac x6,zac x7,zac x8,zac x9,zac m,zac n];refine kO j d (fun d=>?_);clear j K;refine cl1 (i:=3) fun K j=>?_
  go_simp;simp only[zac y0,zac y1,zac y2,zac y3,zac y4,zac y5,zac y6,zac y7,zac y8,zac y9,zac r,zac s];refine kO j d (fun d=>?_);clear j K;refine tk1 (i:=4) ?_;refine wpAnyH_done kM ?_ _;go_wp2;refine bR (v:=E #[N zla,N zla,.bool false]) (by simp[results,Tryz.results103,go_sem,zla,x0,x1,x2,x3,x4,x5,x6,x7,x8,x9,m,n,y0,y1,y2,y3,y4,y5,y6,y7,y8,y9,r,s,xf,yf]) rfl ⟨rfl,XV⟩
end
section
open Go.RowKit Go.Shelf Go.Sort
theorem zgv(w:World)(r:ByteArray)(v:Value)(P:LP)(d k l m y s t x:Int)(h:IsPr w v P)(R:P.length<=1000) :
  Calls Tryz.prog 12 #[N #[.string r,v,O Y d,O Y k,O Y l,O Y m,O Y y,O Y s,O Y t,O M x]] w
   fun e w'=>∃v',e = .returned (N #[.string r,v',O Y d,O Y k,O Y l,O Y m,O Y y,O Y s,O Y t,O M x])/\IsPts w' v' P/\Ext w w'/\∀j,v'.ownBlock=some j->w.heap.size<=j:=by
 have HP:=hd9 (fun W (hW:Ext w W)=>zkq W r v P d k l m (h.ext' hW) R);obtain⟨a,n,c,rfl⟩:=h.form3;clear h;go_enter Tryz.func12,Tryz.ntmps12;go_wp2;refine wp_region_held_drew (S:=CellL [(⟨w.heap.size,0,Z⟩,.string r),(⟨w.heap.size,1,Z⟩,I a n c),(⟨w.heap.size,2,Z⟩,O Y d),(⟨w.heap.size,3,Z⟩,O Y k),(⟨w.heap.size,4,Z⟩,O Y l),(⟨w.heap.size,5,Z⟩,O Y m),(⟨w.heap.size,6,Z⟩,O Y y),(⟨w.heap.size,7,Z⟩,O Y s),(⟨w.heap.size,8,Z⟩,O Y t),(⟨w.heap.size,9,Z⟩,O M x)]) kM cA (fun g=>?_);refine sN 0 ?_
 iterate 2
  refine tkn ?_
 refine oN ?_;refine sN 3 ?_
 iterate 11
  refine tkn ?_
 refine oN ?_;refine cl1 (i:=2) fun K D=>?_
 go_simp
 (with_reducible refine cM (HP.out _ eA) ?_)
 rintro e w3 ⟨v3,rfl,L,o,T⟩;obtain⟨a3,n3,c3,rfl⟩:=form3 L
 go_wp2_with fail
 refine kO D (cE g o) (fun g=>?_);clear D K;refine tk1 (i:=14) ?_;have f:=o.heapS (zfX w (J #[.string r,I a n c,O Y d,O Y k,O Y l,O Y m,O Y y,O Y s,O Y t,O M x] 31) (J #[.string ⟨#[]⟩,I Z 0 0,O Y 0,O Y 0,O Y 0,O Y 0,O Y 0,O Y 0,O Y 0,O M 0] 47));have k0:=qcB f (i:=0) (u:=.string ⟨#[]⟩) rfl;have k1:=qcB f (i:=1) (u:=I Z 0 0) rfl;have k2:=qcB f (i:=2) (u:=O Y 0) rfl;have k3:=qcB f (i:=3) (u:=O Y 0) rfl;have k4:=qcB f (i:=4) (u:=O Y 0) rfl;have k5:=qcB f (i:=5) (u:=O Y 0) rfl;have k6:=qcB f (i:=6) (u:=O Y 0) rfl;have k7:=qcB f (i:=7) (u:=O Y 0) rfl;have k8:=qcB f (i:=8) (u:=O Y 0) rfl;have k9:=qcB f (i:=9) (u:=O M 0) rfl;have kf:=qfB f
 have b:=hd9 (show ∀q∈[((⟨w.heap.size,0,Z⟩:Addr),Value.string r),(⟨w.heap.size,1,Z⟩,I a n c),(⟨w.heap.size,2,Z⟩,O Y d),(⟨w.heap.size,3,Z⟩,O Y k),(⟨w.heap.size,4,Z⟩,O Y l),(⟨w.heap.size,5,Z⟩,O Y m),(⟨w.heap.size,6,Z⟩,O Y y),(⟨w.heap.size,7,Z⟩,O Y s),(⟨w.heap.size,8,Z⟩,O Y t),(⟨w.heap.size,9,Z⟩,O M x)],w.heap.size+1≠q.1.block from fun q hq h=>by
  simp at hq
  rcases hq with rfl|rfl|rfl|rfl|rfl|rfl|rfl|rfl|rfl|rfl<;>(dsimp only at h;omega))
 have Q:Ext w w3:=((((eR w).alloc _).alloc _).drew).trans o;have z:=hd9 f;clear f;refine cl1 (i:=15) fun K D=>?_
 go_simp;refine kO D (CellL.set (p:=⟨w.heap.size+1,9,Z⟩) (CellL.set (p:=⟨w.heap.size+1,8,Z⟩) (CellL.set (p:=⟨w.heap.size+1,7,Z⟩) (CellL.set (p:=⟨w.heap.size+1,6,Z⟩) (CellL.set (p:=⟨w.heap.size+1,5,Z⟩) (CellL.set (p:=⟨w.heap.size+1,4,Z⟩) (CellL.set (p:=⟨w.heap.size+1,3,Z⟩) (CellL.set (p:=⟨w.heap.size+1,2,Z⟩) (CellL.set (p:=⟨w.heap.size+1,1,Z⟩) (CellL.set (p:=⟨w.heap.size+1,0,Z⟩) g b.out _) b.out _) b.out _) b.out _) b.out _) b.out _) b.out _) b.out _) b.out _) b.out _) (fun g=>?_);clear D K;refine wpAnyH_done kM ?_ _;go_wp2;have ab:=zaa z.out;have aa:IsPts w3 (I a3 n3 c3) P:=L;have n0:NoT 43 w3 (w.heap.size+1):=by intro cs fr e;rw[z.out]at e;cases e
 refine bR (v:=N #[.string r,I a3 n3 c3,O Y d,O Y k,O Y l,O Y m,O Y y,O Y s,O Y t,O M x]) (by simp[results,Tryz.results12,go_sem,k0,k1,k2,k3,k4,k5,k6,k7,k8,k9,kf]) rfl ⟨_,rfl,?_,?_,fun j hj=>by have:=T j hj;simp only[wZ,qdZ]at this;omega⟩
 ·refine aa.keep' ?_
  repeat(first|with_reducible exact KeepT.refl _ _|(with_reducible refine KeepT.setN ?_ ?_ _)|with_reducible exact n0|with_reducible refine NoT.set ?_ _ _)
 ·repeat(first|with_reducible exact Q|(with_reducible refine Ext.set ?_ dO _))
theorem PPl.keep{w w':World}{c:List Value}{p:Pl}(h:PPl w c p)(k:KeepT 43 w w'):PPl w' c p:=by
 obtain⟨v,a,b,d⟩:=h;exact⟨v,a,b.keep' k,d⟩
end
section
open Go.RowKit Go.Shelf Go.Sort Go.Lib
attribute [local go_sem] Oper.semAt_some
def relE(p q:Pl):Int:=if placedOk p=true/\placedOk q=true then 0 else 2
def relK(p q:Pl):Int:=if placedOk p=true/\placedOk q=true then relP p q else 0
def RetRl(w:World)(p q:Pl)(e:Ending)(w':World):Prop:=e = .returned (E #[O M (relK p q),O Y (relE p q)])/\Ext w w'
theorem IsLa.forms{w:World}{v:Value}{p:Pl}(h:IsLa w v p):∃a1 n1 c1 a2 n2 c2 a3 n3 c3,v=N #[.string p.name,I a1 n1 c1,O Y p.depth,O Y p.density,O Y p.gx,O Y p.gz,O Y p.way,O Y p.ax,O Y p.az,O M p.skin,I a2 n2 c2,I a3 n3 c3]:=by
 obtain⟨s,l,u,rfl,a,b,c⟩:=h;obtain⟨a1,n1,c1,rfl⟩:=form3 a;obtain⟨a2,n2,c2,rfl⟩:=form3 b;obtain⟨a3,n3,c3,rfl⟩:=form3 c;exact⟨_,_,_,_,_,_,_,_,_,rfl⟩
theorem zhH(w:World)(f g:Value)(p q:Pl)(b:IsPts w f p.shape)(c:IsPts w g q.shape)(v:0<=p.skin)(x:0<=q.skin)(d:Gw w) :
  Calls Tryz.prog 39 #[N (plc p f),N (plc q g)] w (RetRl w p q):=by
 obtain⟨R,u⟩:=gX (RetRl w p q);rw[u];have l:=hd9 u
 by_cases o:placedOk p=true/\placedOk q=true
 ·have j:=hd9 (fun(W:World)(i:Ext w W)=>zjT W f g p q (b.ext' i) (c.ext' i) v x (d.ext i) o.1 o.2)
  have HR:=hd9 (fun(W:World)(f g:Value)(b:IsLa W f p)(c:IsLa W g q)=>zcR W f g p q b c o.1 o.2);have m:RetRl w p q=fun e s=>e = .returned (E #[O M (relP p q),O Y 0])/\Ext w s:=by funext e s;unfold RetRl relE relK;rw[if_pos o,if_pos o]
  rw[m]at l;obtain⟨k,hk⟩:=gX (relP p q);rw[hk]at HR l;obtain⟨K,T,P,rfl⟩:=form3 b;obtain⟨L,aa,Q,rfl⟩:=form3 c;clear b c v x d o hk m u;unfold plc at j ⊢;go_enter Tryz.func39,Tryz.ntmps39
  go_wp2_with(first|(go_at_call 103;(with_reducible refine(j.out _ ?_).mono ?_);exact eA;rintro e t ⟨r1,r2,rfl,n,r,a⟩;obtain⟨a1,n1,c1,a2,n2,c2,a3,n3,c3,rfl⟩:=n.forms;obtain⟨b1,m1,d1,b2,m2,d2,b3,m3,d3,rfl⟩:=r.forms;obtain⟨y,z⟩:=a.cells;(have z5:=a.size);(simp only[wZ]at z5);(have ab:w.heap.size<t.heap.size:=oM);(have ac:w.heap.size+1<t.heap.size:=oM))|(go_at_call 55;(with_reducible refine(HR.out _ _ _ (n.ext ?_) (r.ext ?_)).mono ?_);exact eA;exact eA;rintro e w6 ⟨rfl,D⟩;obtain⟨ad,ae⟩:=D.cells))
  rw[<-l.out];exact⟨rfl,eA⟩
 ·have j:=hd9 (fun(W:World)(i:Ext w W)=>zly W f g p q (b.ext' i) (c.ext' i) v x o)
  have m:RetRl w p q=fun e s=>e = .returned (E #[O M 0,O Y 2])/\Ext w s:=by funext e s;unfold RetRl relE relK;rw[if_neg o,if_neg o]
  rw[m]at l;obtain⟨K,T,P,rfl⟩:=form3 b;obtain⟨L,aa,Q,rfl⟩:=form3 c;clear b c v x d o m u;unfold plc at j ⊢;go_enter Tryz.func39,Tryz.ntmps39
  go_wp2_with(first|(go_at_call 103;(with_reducible refine(j.out _ ?_).mono ?_);exact eA;rintro e t ⟨rfl,a⟩;obtain⟨y,z⟩:=a.cells;(have z5:=a.size);(simp only[wZ]at z5);(have ab:w.heap.size<t.heap.size:=oM);(have ac:w.heap.size+1<t.heap.size:=oM))|fail)
  rw[<-l.out];exact⟨rfl,eA⟩
end
section
open Go Go.ChangeShapes Go.WideShapes Go.ChangeAt Go.RowKit
theorem zkC:Tryz.prog.underlying 53=some (.struct (flds Tryz.prog 53)):=kM
theorem zkB:Tryz.prog.underlying 2=some (.int .i64):=kM
theorem zgt{H:Type}{enc:TypeId×Value->H}{w:World}{spare:Nat->Bool}{held:Bool}{r:Reach}{t:Nat}{v:Value}{d:DataW H}{p:List MemPlace}(hv:Value.okWide Tryz.prog w r t 53 v)(h:DataW.Trod enc Tryz.prog w 0 spare held 53 v d p) :
  ∃n m:Int,v = .agg #[.int .i64 n,.int .i64 m]/\(-9223372036854775808<=n/\n<=9223372036854775807)/\(-9223372036854775808<=m/\m<=9223372036854775807):=by
 obtain⟨g,rfl,f⟩:=okWide_struct zkC hv;have L:Tryz.prog.cellsOf 53=2:=kM
 rw[L]at f
 obtain⟨u,x,rfl⟩:∃a b,g=#[a,b]:=by
  match g,f with
  | ⟨[a,b]⟩,_=>exact⟨a,b,rfl⟩
 obtain⟨fuel,P⟩:=h;obtain⟨W,m,_,_,T,o,l⟩:=DataW.trod_struct zkC P;obtain⟨y0,D⟩:=fld o l (i:=0) (ti:=2) (oi:=0) (ki:=1) kM;obtain⟨q,y,Q⟩:=DataW.trod_int zkB D;have c:=zoE Q.2;rw[show IntKind.i64.min = -9223372036854775808 by decide,show IntKind.i64.max=9223372036854775807 by decide]at c;obtain⟨y1,K⟩:=fld o l (i:=1) (ti:=2) (oi:=1) (ki:=1) kM;obtain⟨s,z,R⟩:=DataW.trod_int zkB K;have e:=zoE R.2;rw[show IntKind.i64.min = -9223372036854775808 by decide,show IntKind.i64.max=9223372036854775807 by decide]at e;have j:[u]=[.int .i64 q]:=y;have k:[x]=[.int .i64 s]:=z;simp only[List.cons.injEq,and_true]at j k;subst j k;exact⟨q,s,rfl,c,e⟩
end
end Go.Proofs.YtjnjpagegkcgfaaGreatDoor.Cop
