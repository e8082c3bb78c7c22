/- Part 21: contracts of what the law calls. -/
import Derived.Test.YtjnjpagegkcgfaaGreatDoorCopA19
import Derived.Test.YtjnjpagegkcgfaaGreatDoorCopA08
import Derived.Test.YtjnjpagegkcgfaaGreatDoorCopA04
import Derived.Test.YtjnjpagegkcgfaaGreatDoorCopA07
import Derived.Test.YtjnjpagegkcgfaaGreatDoorCopA01
import Derived.Laws.IdiomStrings
set_option maxRecDepth 1000000
set_option maxHeartbeats 16000000
set_option linter.unusedSimpArgs false
set_option linter.unusedVariables false
open Go renaming World→O,Value→X,Act→U
open Go.Value renaming slice→Y,int→I,pointer→Oa
open Option renaming some→Z,none→F
open Go.IntKind renaming i64→J
open Go.Obj renaming cells→M
namespace Go.Proofs.YtjnjpagegkcgfaaGreatDoor.Cop
section
open Go.RowKit Go.Shelf Go.Sort Go.Lib
theorem OwnC.keepT {T T':TypeId} {k:Nat} {w w':O} {base:Nat} {v:X} {cs:List (List X)} (h:OwnC T k w base v cs) (g:T≠T') (d:w.grownBy w' v.ownBlock):KeepT T' w w':=fun b q r a=>by
 rw [d.block b (zaa a) (fun e=>?_)];exact a
 rcases h.2.2 with ⟨f,_⟩|⟨s,c,cur,hv,d,l,o,i,j,p⟩
 ·rw [f]at e;cases e
 ·rw [hv]at e
  cases e
  rw [l]at a
  cases a
  exact g rfl
def OwnR (w:O) (base:Nat) (v:X) (a:List Rat):Prop:=∃cs,OwnC 63 3 w base v cs∧cs.length=a.length∧∀(i:Nat) c q,cs[i]?=Z c→a[i]?=Z q→PR w c q
theorem OwnR.rs {w:O} {base:Nat} {v:X} {a:List Rat} (h:OwnR w base v a):IsRs w v a:=by
 obtain⟨f,c,d,e⟩:=h;exact c.sl d e
theorem OwnR.ext {w w':O} {base:Nat} {v:X} {a:List Rat} (h:OwnR w base v a) (k:Ext w w'):OwnR w' base v a:=by
 obtain⟨d,e,f,g⟩:=h;exact⟨d,e.ext k,f,fun i c q j l=>IsR.ext (g i c q j l) k⟩
theorem OwnR.mono {w:O} {base b':Nat} {v:X} {a:List Rat} (h:OwnR w base v a) (k:b'≤base):OwnR w b' v a:=by
 obtain⟨c,d,e,f⟩:=h;exact⟨c,d.mono k,e,f⟩
theorem OwnR.nil (w:O) (base:Nat):OwnR w base (Y F 0 0) []:=⟨[],OwnC.nil _ _ _ _,rfl,fun i c q a=>by simp at a⟩
def RetRs (w:O) (a:List Rat) (e:Ending) (w':O):Prop:=∃v,e = .returned v∧OwnR w' w.heap.size v a∧Ext w w'
theorem zox:(Tryz.prog.info? 63).map (fun i=>(i.zero,i.size,i.bytes))=Z (Z (.agg #[Y F 0 0,.bool false,Y F 0 0]),3,56):=kM
theorem Rb.atE {x:Rat} {e:Edg} (q:Rb 1 x) (h:Bd 104000 e.1.1∧Bd 104000 e.1.2∧Bd 104000 e.2.1∧Bd 104000 e.2.2):Rb 11 (Cop.atE x e):=by
 obtain⟨o,p,r,s⟩:=h;have i:Bd 208000 (e.2.2-e.1.2):=by unfold Bd at *;omega
 have l:Bd 208000 (e.2.1-e.1.1):=by unfold Bd at *;omega
 unfold Cop.atE;have a:=Rb.sub (k:=1) q (zaD o);have c:=Rb.mul (j:=3) (k:=1) a (zaD i);have d:=Rb.div (j:=4) (k:=1) c (zaD l) oM;have f:=(zaD p).mono (k:=5) oM;have g:=Rb.add (k:=5) f d;exact g
theorem Rb.atR {x:Rat} {ps:List (Int×Int)} (d:Rb 1 x) (h:LnOk ps):Rb 11 (Cop.atR ps x):=by
 unfold Cop.atR
 cases hf:(eds ps).find? (xLe x)with
 | some e=>exact d.atE (zjh h.2.1 (List.mem_of_find?_eq_some hf))
 | none =>
  have f:0<ps.length:=by
   rcases Nat.eq_zero_or_pos ps.length with a|a
   ·exact absurd (List.eq_nil_of_length_eq_zero a) h.1
   ·exact a
  have c:ps.getD (ps.length-1) (0,0)∈ps:=by
   rw [gD,gE oM,Option.getD_some];exact List.getElem_mem _
  exact(zaD (h.2.1 _ c).2).mono oM
theorem zhk {ps:List (Int×Int)} (h:LnOk ps):Bd 104000 (lineL ps)∧Bd 104000 (lineR ps):=by
 have e:0<ps.length:=by
  rcases Nat.eq_zero_or_pos ps.length with a|a
  ·exact absurd (List.eq_nil_of_length_eq_zero a) h.1
  ·exact a
 have c:∀i,i<ps.length→ps.getD i (0,0)∈ps:=fun i d=>by
  rw [gD,gE d,Option.getD_some];exact List.getElem_mem _
 exact⟨(h.2.1 _ (c 0 e)).1,(h.2.1 _ (c _ oM)).1⟩
def btw (ps a:List (Int×Int)):Sp:=⟨ps,a,max (lineL ps) (lineL a),min (lineR ps) (lineR a)⟩
def spc (s:Sp) (a c:X):X:=.agg #[a,c,I J s.lo,I J s.hi]
def RetBt (w:O) (a c:X) (s:Sp) (e:Ending) (w':O):Prop:=e = .returned (.tuple #[spc s a c,.bool (decide (s.lo<s.hi))])∧Ext w w'
theorem zbf (w:O) (v1 v2:X) (ps j:List (Int×Int)) (h1:IsPts w v1 ps) (h2:IsPts w v2 j) (k1:0<ps.length) (k2:0<j.length) :
  Calls Tryz.prog 58 #[v1,v2] w (RetBt w v1 v2 (btw ps j)):=by
 have H1:=hd9 (fun(W:O) (c:Ext w W)=>zbG W v1 ps (h1.ext' c) k1);have H2:=hd9 (fun(W:O) (c:Ext w W)=>zbG W v2 j (h2.ext' c) k2);have H3:=hd9 (fun(W:O) (c:Ext w W)=>zbA W v1 ps (h1.ext' c) k1);have H4:=hd9 (fun(W:O) (c:Ext w W)=>zbA W v2 j (h2.ext' c) k2);obtain⟨o,t,rfl⟩:=h1.form;obtain⟨p,x,rfl⟩:=h2.form;obtain⟨R,hR⟩:=gX (RetBt w (Y o ps.length t) (Y p j.length x) (btw ps j));rw [hR];have T:=hd9 hR;clear hR;unfold btw at T;obtain⟨l1,e1⟩:=gX (lineL ps);obtain⟨l2,e2⟩:=gX (lineL j);obtain⟨r1,e3⟩:=gX (lineR ps);obtain⟨r2,e4⟩:=gX (lineR j);obtain⟨D,f1⟩:=gX ps.length;obtain⟨L,f2⟩:=gX j.length;rw [e1,e2,e3,e4]at T;rw [e1]at H1;rw [e2]at H2;rw [e3]at H3;rw [e4]at H4;simp only [f1,f2]at H1 H2 H3 H4 T h1 h2 ⊢;clear e1 e2 e3 e4 f1 f2 h1 h2 k1 k2;go_enter Tryz.func58,Tryz.ntmps58
 go_wp2_with(first|(go_at_call 86;(with_reducible refine(H1.out _ ?_).mono ?_);exact eA;rintro e w3 ⟨rfl,d⟩;obtain⟨ae,ai⟩:=d.cells)|(go_at_call 86;(with_reducible refine(H2.out _ ?_).mono ?_);exact eA;rintro e w4 ⟨rfl,f⟩;obtain⟨af,aj⟩:=f.cells)|(go_at_call 87;(with_reducible refine(H3.out _ ?_).mono ?_);exact eA;rintro e w5 ⟨rfl,g⟩;obtain⟨ag,ak⟩:=g.cells)|(go_at_call 87;(with_reducible refine(H4.out _ ?_).mono ?_);exact eA;rintro e y ⟨rfl,h⟩;obtain⟨ah,al⟩:=h.cells))
 obtain⟨s,ab⟩:=gX (max l1 l2);obtain⟨r,aa⟩:=gX (min r1 r2);rw [ab,aa]at T ⊢;have ac:Ext w y:=(((((eR w).alloc _).trans d).trans f).trans g).trans h;have ao:w.heap.size<y.heap.size:=by have:=d.size;have:=f.size;have:=g.size;have:=h.size;simp only [wZ]at *;omega
 have hO:y.heap[w.heap.size]?=Z (M #[Y F 0 0,Y F 0 0,I J 0,I J 0] 138 (0,0)):=h.heapS (g.heapS (f.heapS (d.heapS (aN _ _))));clear ae ai af aj ag ak ah al H1 H2 H3 H4 ab aa d f g h;obtain⟨W,c⟩:=gX ((y.alloc (M #[Y o D t,Y p L x,I J s,I J r] 138)));have z:W.heap[y.heap.size]?=Z (M #[Y o D t,Y p L x,I J s,I J r] 138 (0,0)):=by rw [←c];exact aN _ _
 have a:W.heap[w.heap.size]?=Z (M #[Y F 0 0,Y F 0 0,I J 0,I J 0] 138 (0,0)):=by rw [←c];exact((eR y).alloc _).heapS hO
 have an:Ext w W:=by rw [←c];exact ac.alloc _
 rw [c];clear c hO ac;have b0:=qcB z (i:=0) (u:=Y o D t) rfl;have b1:=qcB z (i:=1) (u:=Y p L x) rfl;have b2:=qcB z (i:=2) (u:=I J s) rfl;have b3:=qcB z (i:=3) (u:=I J r) rfl;have f0:=qfB a 0;have f1:=qfB a 1;have f2:=qfB a 2;have f3:=qfB a 3;have o0:=qcB a (i:=0) (u:=Y F 0 0) rfl;have o1:=qcB a (i:=1) (u:=Y F 0 0) rfl;have o2:=qcB a (i:=2) (u:=I J 0) rfl;have o3:=qcB a (i:=3) (u:=I J 0) rfl;have HB:=hd9 z;clear z a;obtain⟨l,am⟩:=gX y.heap.size;simp only [am]at *;refine wp_region_held_drew (S:=CellL [(⟨l,0,F⟩,Y o D t),(⟨l,1,F⟩,Y p L x),(⟨l,2,F⟩,I J s),(⟨l,3,F⟩,I J r)]) kM cA (fun ad=>?_);refine sN 0 ?_
 iterate 6
  refine tkn ?_
 refine oN ?_
 have k:∀q∈[((⟨l,0,F⟩:Addr),Value.slice o D t),(⟨l,1,F⟩,Y p L x),(⟨l,2,F⟩,I J s),(⟨l,3,F⟩,I J r)],w.heap.size≠q.1.block:=by
  intro q hq;simp at hq
  rcases hq with rfl|rfl|rfl|rfl<;>(dsimp only;omega)
 refine cl1 (i:=6) fun K hK=>?_
 go_simp;refine kO hK ((((CellL.set (by assumption) k _).set k _).set k _).set k _) (fun ad=>?_);clear hK K;refine tk1 (i:=7) ?_;refine wpAnyH_done kM ?_ _;go_wp2;refine bR (v:=.tuple #[.agg #[Y o D t,Y p L x,I J s,I J r],.bool (decide (s<r))]) (by simp [results,Tryz.results58,go_sem,o0,o1,o2,o3,f0,f1,f2,f3]) rfl ?_;rw [←T.out];exact⟨rfl,((((an.set dO _).set dO _).set dO _).set dO _).drew⟩
theorem CellL.grown:∀{L:List (Addr×X)} {W W':O} {row:Option Nat},CellL L W→W.grownBy W' row→(∀q∈L,Z q.1.block≠row)→CellL L W'
 | [],_,_,_,_,_,_=>trivial
 | (a,v)::r,W,W',row,⟨h1,h2⟩,hg,hn=>by
  refine⟨?_,h2.grown hg (fun q d=>hn q (mC _ d))⟩;have c:=World.block_lt_of_cell? _ _ h1;rw [←h1];unfold World.cell?;rw [hg.block _ c (hn (a,v) sM)]
theorem zmU (t:Array X) (n:Nat) (h:t.size=n):t=((List.range n).map fun k=>t.getD k undef).toArray:=by
 apply Array.ext
 ·simp [h]
 ·intro i a c
  simp [Array.getD,a]
theorem zbs {W:O} {b:Nat} {cs:Array X} {T:TypeId} {a:Nat×Nat} (h:W.heap[b]?=Z (M cs T a)) (i:Nat) (u:X):(W.setCell ⟨b,i,F⟩ u).heap[b]?=Z (M (cs.setIfInBounds i u) T a):=by
 simp [World.setCell,Array.getElem?_modify,h]
theorem zjC (w:O) (o a:Obj):((w.alloc o).alloc a).heap[w.heap.size]?=Z o:=by
 rw [zag,if_neg sM];exact aN w o
theorem zjD (w:O) (o a:Obj):((w.alloc o).alloc a).heap[w.heap.size+1]?=Z a:=qhA _ _ _ sM
theorem arrU (t:Array X) (n:Nat) (h:t.size=n):∃u:Nat→X,(∀k,t.getD k undef=u k)∧t=((List.range n).map u).toArray:=⟨fun k=>t.getD k undef,fun _=>rfl,zmU t n h⟩
theorem zl8 (w:O) (o a:Obj):((w.alloc o).alloc a).heap[w.heap.size]?=Z o:=by
 rw [zag,if_neg sM];exact aN w o
theorem zep (w:O) (o a:Obj):((w.alloc o).alloc a).heap[w.heap.size+1]?=Z a:=qhA _ _ _ sM
end
section
open Go.RowKit Go.Shelf
section
variable {P:Program} {ops:Array Oper} {Q:Exit→U→O→Prop} {md:Region.Mode} {A B C:O→Prop} {pv pc:Nat}
def TwS (A B C:O→Prop) (pv pc:Nat) (a:Array Bool) (w:O):Prop:=A w∧(a.getD pv false=false→B w)∧(a.getD pc false=false→C w)
def HX (P:Program) (md:Region.Mode) (ops:Array Oper) (Q:Exit→U→O→Prop) (A B C:O→Prop) (pv pc:Nat):Nat→Array Bool→U→O→Prop
 | 0,c,a,w=>Region.ready md ops c=[]∧Q .normal a w
 | fuel+1,c,a,w =>
  (Region.ready md ops c=[]→Q .normal a w) ∧
  ∀i∈Region.ready md ops c,wpOp P ops Q i (fun e d=>TwS A B C pv pc (c.setIfInBounds i true) d∧HX P md ops Q A B C pv pc fuel (c.setIfInBounds i true) e d) a w
theorem TwS.step {a:Array Bool} {w:O} (c:A w) (d:a.getD pv false=false→B w) (e:a.getD pc false=false→C w):TwS A B C pv pc a w:=⟨c,d,e⟩
end
end
section
open Go.RowKit Go.Shelf
section
variable {P:Program} {ops:Array Oper} {Q:Exit→U→O→Prop} {md:Region.Mode} {S:O→Prop} {fl:List (Nat×Tmp×Obj)} {w0:O} {late:Nat→Bool}
def inF (fl:List (Nat×Tmp×Obj)) (i:Nat):Bool:=fl.any (·.1==i)
def rdy (md:Region.Mode) (ops:Array Oper) (fl:List (Nat×Tmp×Obj)) (L:Array Bool):List Nat:=(Region.ready md ops L).filter fun i=>!inF fl i
def fdst (ops:Array Oper) (f:Nat):Option Tmp:=(ops[f]?).bind (·.dst)
def Outs (b:Nat):List (Nat×Nat)→Prop
 | []=>True
 | x::l=>(b<x.1∨x.2≤b)∧Outs b l
def FEnd (P:Program) (md:Region.Mode) (ops:Array Oper) (Q:Exit→U→O→Prop) (S:O→Prop) (w0:O) (k:Nat) (c:List (Nat×Nat)):List (Nat×Tmp×Obj)→List Nat→Array Bool→U→O→Prop
 | [],_,L,a,W=>wpAnyH P md ops Q S k L a W
 | (f,d,o)::fl,bs,L,a,W=>∀b,W.heap[b]?=Z o→w0.heap.size≤b→b ∉ bs→Outs b c→FEnd P md ops Q S w0 k c fl (b::bs) (L.setIfInBounds f true) (a.put (Z d) (Oa (Z ⟨b,0,F⟩))) W
def ExtI (a:List (Nat×Nat)) (w0 W w':O):Prop:=Ext w0 w'∧W.heap.size≤w'.heap.size∧∀k,k<W.heap.size→Outs k a→w'.heap[k]?=W.heap[k]?
theorem ExtI.of {d:List (Nat×Nat)} {w0 W w':O} (a:Ext w0 W) (h:Ext W w'):ExtI d w0 W w':=⟨a.trans h,h.size,fun k c _=>h.block c⟩
def GF (P:Program) (md:Region.Mode) (ops:Array Oper) (Q:Exit→U→O→Prop) (S:O→Prop) (d:Nat→Bool) (fl:List (Nat×Tmp×Obj)) (w0:O):Nat→List (Nat×Nat)→Array Bool→U→O→Prop
 | 0,f,L,a,w=>rdy md ops fl L=[]∧∀W,Ext w W→Ext w0 W→FEnd P md ops Q S w0 0 f fl [] L a W
 | k+1,f,L,a,w=>((rdy md ops fl L=[]→∀W,Ext w W→Ext w0 W→FEnd P md ops Q S w0 (k+1) f fl [] L a W)∧(∀i∈rdy md ops fl L,d i=false) ∧
   ∀i∈rdy md ops fl L,∀W,Ext w W→Ext w0 W→wpOp P ops Q i (fun h g=>ExtI f w0 W g∧GF P md ops Q S d fl w0 k ((W.heap.size,g.heap.size)::f) (L.setIfInBounds i true) h g) a W) ∨
  (∃i oi v,ops[i]?=Z oi∧i∈rdy md ops fl L∧(∀j oj,ops[j]?=Z oj→j≠i→L.getD j true=false→(∀e∈oj.after,Region.binds md e=true→e.on≠i)→oi.apart ops oj=true) ∧
   (∀c a w,Q (.panic c) (a.put oi.dst v) w→Q (.panic c) a w)∧YieldsIf P ops S oi v a∧GF P md ops Q S d fl w0 k f (L.setIfInBounds i true) (a.put oi.dst v) w)
theorem GF.later {c:Nat→Bool}:∀{k:Nat} {e:List (Nat×Nat)} {L:Array Bool} {a:U} {w W:O},Ext w W→GF P md ops Q S c fl w0 k e L a w→GF P md ops Q S c fl w0 k e L a W
 | 0,_,_,_,_,_,h,H=>⟨H.1,fun V d=>H.2 V (h.trans d)⟩
 | _+1,_,_,_,_,_,h,.inl H=>.inl ⟨fun q V d=>H.1 q V (h.trans d),H.2.1,fun i p V d=>H.2.2 i p V (h.trans d)⟩
 | _+1,_,_,_,_,_,h,.inr ⟨i,r,v,f,g,j,l,o,h6⟩=>.inr ⟨i,r,v,f,g,j,l,o,GF.later h h6⟩
theorem mem_rdy {i:Nat} {L:Array Bool}:i∈rdy md ops fl L ↔ i∈Region.ready md ops L∧inF fl i=false:=by
 unfold rdy;rw [List.mem_filter];simp
def gatedE (md:Region.Mode) (ops:Array Oper) (late a:Nat→Bool) (n:Nat):Bool:=
 (List.range ops.size).all fun j=>!late j || ((List.range ops.size).all fun i=>late i || a i || (reach md ops n j).contains i)
theorem zfY {late d:Nat→Bool} {a:Array Bool} {m i j:Nat} (p:gatedE md ops late d m=true) (t:Cl md ops a) (v:i∈Region.ready md ops a) (x:late i=false) (u:d i=false) (w:j∈Region.ready md ops a):late j=false:=by
 cases hlj:late j with
 | false=>rfl
 | true =>
  exfalso
  obtain⟨r,z,f,e⟩:=mem_ready.1 w;obtain⟨c,y,q,_⟩:=mem_ready.1 v;unfold gatedE at p;rw [List.all_eq_true]at p;have h:=p j (List.mem_range.2 (Array.getElem?_eq_some_iff.1 f).1);rw [hlj]at h;simp only [Bool.not_true,Bool.false_or,List.all_eq_true]at h;have k:=h i (List.mem_range.2 (Array.getElem?_eq_some_iff.1 q).1);rw [x,u]at k;simp only [Bool.false_or,List.contains_eq_mem,decide_eq_true_eq]at k;have l:=zbp t m j (fun o s=>by rw [f]at s;cases s;exact e) i k
  rcases Nat.lt_or_ge i a.size with g | g
  ·simp [g]at l c;rw [l]at c;cases c
  ·simp [Array.getElem?_eq_none g]at l
def floatsB (md:Region.Mode) (ops:Array Oper) (c:List (Nat×Tmp)) (late a:Nat→Bool) (n:Nat):Bool:=
 gatedE md ops late a n&&c.all (fun f=>!late f.1&&!a f.1&&(preds md ops f.1).isEmpty&&decide (f.1<ops.size)&&fdst ops f.1==Z f.2)&&decide (c.map (·.1)).Nodup&&decide (c.map (·.2)).Nodup &&
 (List.range ops.size).all fun i=>late i || c.any (·.1==i) || c.all fun f=>!(preds md ops i).contains f.1&&(match ops[f.1]?,ops[i]? with|some x,Z y=>x.apart ops y|_,_=>true)
def Lays (P:Program) (ops:Array Oper) (f:Nat) (o:Obj):Prop:=∃x,ops[f]?=Z x∧x.guard=F∧∀(a:U) (W:O),(execOp a.eval x).run P W = .ok (.value (Oa (Z ⟨W.heap.size,0,F⟩))) (W.alloc o)
theorem zkU {j:Nat} {oi k:Oper} {v:X} (L:ops[j]?=Z k) (s:oi.apart ops k=true) (p:∀cs b,k.op ≠ .select cs b)
  (z:∀c a w,Q (.panic c) a w→Q (.panic c) (a.put oi.dst v) w) {K:U→O→Prop} {a:U} {w:O}
  (h:wpOp P ops Q j K a w):wpOp P ops Q j (fun D t=>∃a0,D=a0.put oi.dst v∧K a0 t) (a.put oi.dst v) w:=by
 obtain⟨q,l,R⟩:=Oper.apart_spec s;unfold wpOp at *;simp only [L]at *;rw [wanted_put k a oi.dst v q]
 split
 ·rename_i hw
  simp only [hw,if_true]at h
  rcases h with h|⟨g,i⟩
  case inr=>exact .inr ⟨by unfold Oper.asks at *;rw [execOp_put k p a oi.dst v q];exact g,i⟩
  refine .inl ?_;unfold Oper.wp at *;rw [execOp_put k p a oi.dst v q]
  generalize (execOp a.eval k).run P w=r at *
  cases r with
  | ok n t =>
   cases n<;>simp only [Oper.upon]at h ⊢
   case value u=>exact⟨_,Act.put_comm a v u l,h⟩
   case skip=>exact⟨_,Act.put_comm a v undef l,h⟩
   case defer d=>exact⟨_,by rw [Act.put_defers];exact Act.put_comm _ v undef l,h⟩
   case enter f args =>
    refine cM h fun e y o=>?_
    cases e with
    | returned u=>exact⟨_,Act.put_comm a v u l,o⟩
    | panicked c=>exact z _ _ _ o
    | outgrown=>exact o
   case row row args=>exact Rows.mono h fun u y o=>⟨_,Act.put_comm a v u l,o⟩
  | halt x t =>
   cases x<;>simp only [Oper.upon]at h ⊢
   case panic u=>exact z _ _ _ h
 ·rename_i hw
  simp only [hw]at h;exact⟨_,Act.put_comm a v undef l,h⟩
abbrev Come:=List (Nat×Tmp×Obj×Nat)
def came (x:Nat×Tmp×Obj×Nat):Nat×Tmp×Obj:=(x.1,x.2.1,x.2.2.1)
def setC (L:Array Bool) (a:Come):Array Bool:=a.foldl (fun L x=>L.setIfInBounds x.1 true) L
def putC (a:U) (c:Come):U:=c.foldl (fun a x=>a.put (Z x.2.1) (Oa (Z ⟨x.2.2.2,0,F⟩))) a
theorem zdw {i:Nat} {d:Bool}:∀(a:Come) (L:Array Bool),(∀x∈a,x.1≠i)→(setC L a).getD i d=L.getD i d
 | [],_,_=>rfl
 | x::a,L,h=>(zdw a _ fun y c=>h y (mC _ c)).trans (getD_set_ne d (h x (List.mem_cons_self ..)))
theorem zkB {i:Nat} {d:Bool}:∀(c:Come) (L:Array Bool),(∃x∈c,x.1=i)→i<L.size→(setC L c).getD i d=true
 | [],_,h,_=>by obtain⟨x,a,_⟩:=h;cases a
 | y::c,L,h,hi=>by
  by_cases f:∃x∈c,x.1=i
  ·exact zkB c _ f (by simpa using hi)
  ·have g:y.1=i:=by
    obtain⟨x,a,e⟩:=h
    rcases List.mem_cons.1 a with rfl|a
    ·exact e
    ·exact absurd ⟨x,a,e⟩ f
   subst g;refine(zdw c _ fun x a e=>f ⟨x,a,e⟩).trans ?_;simp [hi]
theorem zfk {i:Nat}:∀(a:Come) (L:Array Bool),(∀x∈a,x.1≠i)→(setC L a).setIfInBounds i true=setC (L.setIfInBounds i true) a
 | [],_,_=>rfl
 | x::a,L,h=>by
  refine(zfk a _ fun y c=>h y (mC _ c)).trans ?_
  show setC ((L.setIfInBounds x.1 true).setIfInBounds i true) a=setC ((L.setIfInBounds i true).setIfInBounds x.1 true) a
  rw [Array.setIfInBounds_comm _ _ (h x (List.mem_cons_self ..))]
theorem zkk {α β:Type} {g:α→β} {x y:List β} (h:x.Perm y):∀l:List α,l.map g=x→∃m,l.Perm m∧m.map g=y:=by
 induction h with
 | nil=>exact fun l d=>⟨l,.refl _,d⟩
 | cons b _ q =>
  intro l d;obtain⟨a,l,rfl,rfl,e⟩:=List.map_eq_cons_iff.1 d;obtain⟨m,f,i⟩:=q l e;exact⟨a::m,f.cons a,by simp [i]⟩
 | swap b c t =>
  intro l d;obtain⟨a,l,rfl,rfl,e⟩:=List.map_eq_cons_iff.1 d;obtain⟨o,l,rfl,rfl,f⟩:=List.map_eq_cons_iff.1 e;exact⟨o::a::l,.swap ..,by simp [f]⟩
 | trans _ _ j k =>
  intro l d;obtain⟨m,p,e⟩:=j l d;obtain⟨r,f,i⟩:=k m e;exact⟨r,p.trans f,i⟩
theorem FEnd.use {k:Nat} {W:O} {f:List (Nat×Nat)}:∀(c:Come) (d:List Nat) (L:Array Bool) (a:U),FEnd P md ops Q S w0 k f (c.map came) d L a W →
  (∀x∈c,W.heap[x.2.2.2]?=Z x.2.2.1∧w0.heap.size≤x.2.2.2∧Outs x.2.2.2 f)→(d.reverse++c.map (·.2.2.2)).Nodup→wpAnyH P md ops Q S k (setC L c) (putC a c) W
 | [],_,_,_,h,_,_=>h
 | x::c,d,L,a,h,h1,h2=>by
  have e:=h1 x (List.mem_cons_self ..)
  have g:x.2.2.2 ∉ d:=fun i=>by
   rw [List.map_cons,List.nodup_append]at h2;exact h2.2.2 _ (List.mem_reverse.2 i) _ (List.mem_cons_self ..) rfl
  exact FEnd.use c (x.2.2.2::d) _ _ (h x.2.2.2 e.1 e.2.1 g e.2.2) (fun y j=>h1 y (mC _ j)) (by simpa using h2)
theorem zgg {j:Nat} {l:Oper} (s:ops[j]?=Z l) (f:∀cs b,l.op ≠ .select cs b) (r:∀c a d v w,Q (.panic c) a w→Q (.panic c) (a.put d v) w) {W:O} :
  ∀(e:Come) (a:U) (K:U→O→Prop),(∀x∈e,∃p:Oper,p.dst=Z x.2.1∧p.apart ops l=true)→wpOp P ops Q j K a W→wpOp P ops Q j (fun g o=>∃a0,g=putC a0 e∧K a0 o) (putC a e) W
 | [],_,_,_,h=>wpOp_mono (fun g o i=>⟨g,rfl,i⟩) h
 | x::e,a,K,h1,h=>by
  obtain⟨p,z,k⟩:=h1 x (List.mem_cons_self ..);have q:=zkU (oi:=p) (v:=Oa (Z ⟨x.2.2.2,0,F⟩)) s k f (fun c a w h=>r c a _ _ w h) h;rw [z]at q;refine wpOp_mono (fun g o i=>?_) (zgg s f r e _ _ (fun y D=>h1 y (mC _ D)) q);obtain⟨a0,rfl,t,rfl,u⟩:=i;exact⟨t,rfl,u⟩
end
section
variable {P:Program} {ops:Array Oper} {Q:Exit→U→O→Prop} {md:Region.Mode} {S:O→Prop} {fl:List (Nat×Tmp×Obj)} {w0:O} {late:Nat→Bool} {m:Nat}
def ftm (x:Nat×Tmp×Obj):Nat×Tmp:=(x.1,x.2.1)
theorem zdL {a:Nat→Bool} (h:floatsB md ops (fl.map ftm) late a m=true):gatedE md ops late a m=true∧(∀x∈fl,late x.1=false∧a x.1=false∧preds md ops x.1=[]∧x.1<ops.size∧fdst ops x.1=Z x.2.1)∧(fl.map (·.1)).Nodup∧(fl.map (·.2.1)).Nodup ∧
  ∀i<ops.size,late i=false→inF fl i=false→∀x∈fl,x.1 ∉ preds md ops i∧∀p q,ops[x.1]?=Z p→ops[i]?=Z q→p.apart ops q=true:=by
 unfold floatsB at h;simp only [Bool.and_eq_true,decide_eq_true_eq]at h;obtain⟨⟨⟨⟨r,s⟩,l⟩,o⟩,t⟩:=h;rw [List.map_map]at l o;refine⟨r,fun x k=>?_,l,o,fun i u v j x k=>?_⟩
 ·have:=List.all_eq_true.1 s _ (List.mem_map_of_mem (f:=ftm) k)
  simp only [Bool.and_eq_true,Bool.not_eq_true',List.isEmpty_iff,decide_eq_true_eq,beq_iff_eq]at this;exact⟨this.1.1.1.1,this.1.1.1.2,this.1.1.2,this.1.2,this.2⟩
 ·have h6:=List.all_eq_true.1 t i (List.mem_range.2 u)
  rw [v,Bool.false_or,Bool.or_eq_true]at h6
  rcases h6 with g|g
  ·exfalso
   obtain⟨y,K,d⟩:=List.any_eq_true.1 g;obtain⟨z,L,rfl⟩:=List.mem_map.1 K;unfold inF at j;rw [List.any_eq_false]at j;exact j z L d
  ·have d:=List.all_eq_true.1 g _ (List.mem_map_of_mem (f:=ftm) k)
   rw [Bool.and_eq_true]at d;refine⟨fun e=>?_,fun p q w D=>?_⟩
   ·have c:=d.1
    rw [Bool.not_eq_true',List.contains_eq_mem,decide_eq_false_iff_not]at c;exact c e
   ·have c:=d.2
    dsimp only [ftm]at c;rw [w,D]at c;exact c
theorem zhx {i:Nat} {o:Oper} (d:ops[i]?=Z o) {e:_} (c:e∈o.after) (a:Region.binds md e=true):e.on∈preds md ops i:=by
 unfold preds;rw [d];exact List.mem_map.2 ⟨e,List.mem_filter.2 ⟨by simpa using c,a⟩,rfl⟩
theorem zhj {i:Nat} (h:inF fl i=true):∃d o,(i,d,o)∈fl:=by
 unfold inF at h;obtain⟨x,c,a⟩:=List.any_eq_true.1 h;rw [beq_iff_eq]at a;subst a;exact⟨x.2.1,x.2.2,c⟩
theorem zfH {i:Nat} (h:inF fl i=false):∀x∈fl,x.1≠i:=by
 unfold inF at h;rw [List.any_eq_false]at h;exact fun x a e=>h x a (by simpa using e)
theorem zkb {b:Nat}:∀{a:List (Nat×Nat)},(∀x∈a,b<x.1∨x.2≤b)→Outs b a
 | [],_=>trivial
 | x::_,h=>⟨h x (List.mem_cons_self ..),zkb fun y c=>h y (mC _ c)⟩
theorem zmx {α β:Type} {g:α→β}:∀{l:List α},(l.map g).Nodup→∀x∈l,∀y∈l,g x=g y→x=y
 | [],_,_,d,_,_,_=>nomatch d
 | z::l,h,x,d,y,hy,e=>by
  rw [List.map_cons,List.nodup_cons]at h;obtain⟨f,h⟩:=h
  rcases List.mem_cons.1 d with c|c
  ·rcases List.mem_cons.1 hy with a|a
   ·rw [c,a]
   ·exact absurd (List.mem_map.2 ⟨y,a,by rw [←e,c]⟩) f
  ·rcases List.mem_cons.1 hy with a|a
   ·exact absurd (List.mem_map.2 ⟨x,c,by rw [e,a]⟩) f
   ·exact zmx h x c y a e
theorem zkC {c a:Come} (h:c.Perm a) (L:Array Bool):setC L c=setC L a:=
 h.foldl_eq' (fun x _ y _ z=>by
  by_cases e:x.1=y.1
  ·rw [e]
  ·exact Array.setIfInBounds_comm _ _ e) L
theorem zkq {f c:Come} (j:(f.map (·.2.1)).Nodup) (h:f.Perm c) (a:U):putC a f=putC a c:=
 h.foldl_eq' (fun x k y l z=>by
  by_cases e:x.2.1=y.2.1
  ·rw [zmx j x k y l e]
  ·exact Act.put_comm z _ _ (fun d i g=>e ((Option.some.inj i).trans (Option.some.inj g).symm))) a
theorem zf2 {j:Nat}:∀(c:Come) (L:Array Bool),(setC L c).getD j true=false→L.getD j true=false
 | [],_,h=>h
 | x::c,L,h=>by
  have a:=zf2 c _ h
  by_cases e:x.1=j
  ·subst e
   rcases Nat.lt_or_ge x.1 L.size with d | d
   ·simp [d]at a
   ·simp [Array.getElem?_eq_none d]at a
  ·rw [getD_set_ne true e]at a
   exact a
theorem zhy {d:Option Tmp} {v:X}:∀(c:Come) (a:U),(∀x∈c,d≠Z x.2.1)→(putC a c).put d v=putC (a.put d v) c
 | [],_,_=>rfl
 | x::c,a,h=>by
  refine(zhy c _ fun y g=>h y (mC _ g)).trans ?_
  show putC ((a.put (Z x.2.1) _).put d v) c=putC ((a.put d v).put (Z x.2.1) _) c
  rw [Act.put_comm a _ v (fun q f e=>h x (List.mem_cons_self ..) (e.trans f.symm))]
theorem zet {oi:Oper} {v:X} (f:∀cs b,oi.op ≠ .select cs b):∀(c:Come) (a:U),(∀x∈c,x.2.1 ∉ oi.looksAt ops)→YieldsIf P ops S oi v a→YieldsIf P ops S oi v (putC a c)
 | [],_,_,h=>h
 | x::c,a,h1,h=>zet f c _ (fun y g=>h1 y (mC _ g)) (h.of_same (execOp_put oi f a _ _ (fun d e=>by cases e;exact h1 x (List.mem_cons_self ..))) (wanted_put oi a _ _ (fun d e=>by cases e;exact h1 x (List.mem_cons_self ..))))
theorem zkD {j:Nat}:∀(a:Come) (L:Array Bool),L.getD j false=true→(setC L a).getD j false=true
 | [],_,h=>h
 | _::a,_,h=>zkD a _ (getD_set_true h)
theorem zoc {af:Nat→Bool} (aT:floatsB md ops (fl.map ftm) late af m=true) (aB:fl≠[]) (ak:Region.noSelect ops=true) (hl:∀x∈fl,Lays P ops x.1 x.2.2) (hQ:∀c a d v w,Q (.panic c) a w→Q (.panic c) (a.put d v) w) (az:∀w',Ext w0 w'→S w') :
  ∀(n k:Nat) (iv:List (Nat×Nat)) (L:Array Bool) (a:U) (w W:O) (g:Come) (rest:List (Nat×Tmp×Obj)),GF P md ops Q S af fl w0 k iv L a w→(∀x∈iv,x.2≤w.heap.size)→Ext w0 w→Ext w W→(g.map came++rest).Perm fl→n=k+rest.length→Cl md ops L→L.size=ops.size →
   (∀x∈fl,L.getD x.1 true=false)→(∀x∈g,W.heap[x.2.2.2]?=Z x.2.2.1∧w0.heap.size≤x.2.2.2∧Outs x.2.2.2 iv)→(g.map (·.2.2.2)).Nodup→Cl md ops (setC L g)→wpAnyH P md ops Q S n (setC L g) (putC a g) W:=by
 obtain⟨f1,f2,f3,f4,f5⟩:=zdL aT
 have ax:∀(k:Nat) (iv:List (Nat×Nat)) (L:Array Bool) (a:U) (W:O) (g:Come),FEnd P md ops Q S w0 k iv fl [] L a W→(g.map came).Perm fl→(∀x∈g,W.heap[x.2.2.2]?=Z x.2.2.1∧w0.heap.size≤x.2.2.2∧Outs x.2.2.2 iv)→(g.map (·.2.2.2)).Nodup→wpAnyH P md ops Q S k (setC L g) (putC a g) W:=by
  intro k iv L a W g H hp hb ac;obtain⟨aK,p1,p2⟩:=zkk hp g rfl
  have aR:(g.map (·.2.1)).Nodup:=by
   have:=(hp.map (·.2.1)).nodup_iff.2 f4
   rwa [List.map_map]at this
  rw [zkC p1,zkq aR p1];refine FEnd.use aK [] L a (by rw [p2];exact H) (fun x l=>hb x (p1.mem_iff.2 l)) ?_
  simpa using (p1.map (·.2.2.2)).nodup_iff.1 ac
 intro n
 induction n with
 | zero =>
  intro k iv L a w W g rest H aj h0 hw hp hn hc am ad hb ac ag;obtain rfl:k=0:=oM
  obtain rfl:rest=[]:=List.eq_nil_of_length_eq_zero oM;rw [List.append_nil]at hp;exact ax 0 iv L a W g (H.2 W hw (h0.trans hw)) hp hb ac
 | succ n ih =>
  intro k iv L a w W g rest H aj h0 hw hp hn hc am ad hb ac ag;have z:∀x∈g,came x∈fl:=fun x l=>hp.mem_iff.1 (List.mem_append_left _ (List.mem_map_of_mem l))
  have av:∀x∈rest,x∈fl:=fun x l=>hp.mem_iff.1 (List.mem_append_right _ l)
  have ah:∀i d,inF fl i=false→(setC L g).getD i d=L.getD i d:=fun i d hi=>zdw g L fun x l=>zfH hi (came x) (z x l)
  have ae:((g.map came++rest).map (·.1)).Nodup:=(hp.map (·.1)).nodup_iff.2 f3
  have ao:∀x∈g,∀y∈rest,x.1≠y.1:=fun x l y hy e=>by
   rw [List.map_append,List.nodup_append]at ae;exact ae.2.2 _ (List.mem_map_of_mem (f:=(·.1)) (List.mem_map_of_mem (f:=came) l)) _ (List.mem_map_of_mem (f:=(·.1)) hy) e
  have ay:∀i∈rdy md ops fl L,late i=false:=fun i hi=>by
   obtain⟨u,R⟩:=mem_rdy.1 hi;obtain⟨D,K,q,T⟩:=mem_ready.1 u
   cases hli:late i with
   | false=>rfl
   | true =>
    exfalso
    obtain⟨x,l⟩:=List.exists_mem_of_ne_nil fl aB;obtain⟨g1,ge,g2,g3,g4⟩:=f2 x l;have hg:=f1;unfold gatedE at hg;rw [List.all_eq_true]at hg;have h3:=hg i (List.mem_range.2 (Array.getElem?_eq_some_iff.1 q).1);rw [hli]at h3;simp only [Bool.not_true,Bool.false_or,List.all_eq_true]at h3;have h4:=h3 x.1 (List.mem_range.2 g3);rw [g1,ge]at h4;simp only [Bool.false_or,List.contains_eq_mem,decide_eq_true_eq]at h4;have h5:=zbp hc m i (fun o ho=>by rw [q]at ho;cases ho;exact T) x.1 h4;have h6:=ad x l;have h7:x.1<L.size:=oM
    simp [h7]at h5 h6;rw [h5]at h6
    cases h6
  have aE:∀i∈rdy md ops fl L,i∈Region.ready md ops (setC L g):=fun i hi=>by
   obtain⟨u,R⟩:=mem_rdy.1 hi;obtain⟨D,K,q,T⟩:=mem_ready.1 u;exact mem_ready.2 ⟨by rw [ah i true R];exact D,K,q,fun e he hb=>zkD g L (T e he hb)⟩
  have aQ:∀x∈rest,x.1∈Region.ready md ops (setC L g):=fun x l=>by
   obtain⟨g1,ge,g2,g3,g4⟩:=f2 x (av x l);refine mem_ready.2 ⟨?_,ops[x.1],by simp [g3],fun e he hb=>?_⟩
   ·rw [zdw g L fun y hy=>ao y hy x l]
    exact ad x (av x l)
   ·have:=zhx (md:=md) (ops:=ops) (i:=x.1) (o:=ops[x.1]) (by simp [g3]) he hb
    rw [g2]at this
    cases this
  have aw:∀x∈g,∃p:Oper,ops[x.1]?=Z p∧p.dst=Z x.2.1:=fun x l=>by
   have u:=f2 _ (z x l);have h4:x.1<ops.size:=u.2.2.2.1;have h3:ops[x.1]?=Z (ops[x.1]'h4):=Array.getElem?_eq_getElem h4;refine⟨ops[x.1]'h4,h3,?_⟩;have R:(ops[x.1]?).bind (·.dst)=Z x.2.1:=u.2.2.2.2;rw [h3]at R;exact R
  by_cases hE:rest=[]∧rdy md ops fl L=[]
  ·obtain⟨rfl,R⟩:=hE
   rw [List.append_nil]at hp
   cases k with
   | zero=>exact absurd hn sM
   | succ k =>
    obtain rfl:n=k:=by simp at hn;omega
    rcases H with H|⟨i,K,v,u,h3,_⟩
    ·exact ax _ iv L a W g (H.1 R W hw (h0.trans hw)) hp hb ac
    ·rw [R]at h3;cases h3
  ·have aJ:(k=0∨∃k',k=k'+1∧((rdy md ops fl L=[]→∀W,Ext w W→Ext w0 W→FEnd P md ops Q S w0 (k'+1) iv fl [] L a W)∧(∀i∈rdy md ops fl L,af i=false) ∧
   ∀i∈rdy md ops fl L,∀W,Ext w W→Ext w0 W→wpOp P ops Q i (fun a' w'=>ExtI iv w0 W w'∧GF P md ops Q S af fl w0 k' ((W.heap.size,w'.heap.size)::iv) (L.setIfInBounds i true) a' w') a W))∨(∃k',k=k'+1∧∃i K v,ops[i]?=Z K∧i∈rdy md ops fl L∧(∀j oj,ops[j]?=Z oj→j≠i→L.getD j true=false→(∀e∈oj.after,Region.binds md e=true→e.on≠i)→K.apart ops oj=true) ∧
   (∀c a w,Q (.panic c) (a.put K.dst v) w→Q (.panic c) a w)∧YieldsIf P ops S K v a∧GF P md ops Q S af fl w0 k' iv (L.setIfInBounds i true) (a.put K.dst v) w):=by
    cases k with
    | zero=>exact .inl (.inl rfl)
    | succ k =>
     rcases H with H|H
     ·exact .inl (.inr ⟨k,rfl,H⟩)
     ·exact .inr ⟨k,rfl,H⟩
   rcases aJ with H2|⟨k,rfl,i,K,v,q,ai,aA,aH,hy,HG⟩
   case inr =>
    obtain⟨_,hF⟩:=mem_rdy.1 ai;have aq:=ay i ai;have aG:=(Array.getElem?_eq_some_iff.1 q).1
    have aF:∀x∈g,K.dst≠Z x.2.1∧x.2.1 ∉ K.looksAt ops:=fun x l=>by
     obtain⟨p,aC,au⟩:=aw x l;obtain⟨q1,q2,q3⟩:=Oper.apart_spec ((f5 i aG aq hF _ (z x l)).2 p K aC q);exact⟨q2 _ au,q1 _ au⟩
    have aa:=ag.step (aE i ai);have e1:(setC L g).setIfInBounds i true=setC (L.setIfInBounds i true) g:=zfk g L fun x l=>zfH hF (came x) (z x l)
    refine wpAnyH_first q (Region.noSelect_spec ak) aH n (setC L g) (putC a g) W (fun j oj hj aB ad aS=>aA j oj hj aB (zf2 g L ad) aS) (aE i ai) (zet (fun cs b=>Region.noSelect_spec ak i K cs b q) g a (fun x l=>(aF x l).2) hy) (az W (h0.trans hw)) ?_;rw [e1]at aa ⊢;rw [zhy g a fun x l=>(aF x l).1];refine ih k iv _ _ w W g rest HG aj h0 hw hp oM (hc.step (mem_rdy.1 ai).1) (by simpa using am) (fun x r=>?_) hb ac aa;rw [getD_set_ne true (fun e=>zfH hF x r e.symm)];exact ad x r
   have aD:∃e,e∈Region.ready md ops (setC L g)∧late e=false∧af e=false:=by
    by_cases u:rest=[]
    ·have R:rdy md ops fl L≠[]:=fun h=>hE ⟨u,h⟩
     obtain⟨e,he⟩:=List.exists_mem_of_ne_nil _ R
     rcases H2 with rfl|⟨k',rfl,H2⟩
     ·exact absurd H.1 R
     ·exact⟨e,aE e he,ay e he,H2.2.1 e he⟩
    ·obtain⟨x,l⟩:=List.exists_mem_of_ne_nil _ u
     exact⟨x.1,aQ x l,(f2 x (av x l)).1,(f2 x (av x l)).2.1⟩
   obtain⟨e,he,aP,aO⟩:=aD;refine⟨fun hr=>(by rw [hr]at he;cases he),fun i hi=>?_⟩;obtain⟨D,K,q,T⟩:=mem_ready.1 hi;have aq:late i=false:=zfY f1 ag he aP aO hi
   cases hF:inF fl i with
   | true =>
    obtain⟨d,o,ab⟩:=zhj hF
    have ar:(i,d,o)∈rest:=by
     rcases List.mem_append.1 (hp.mem_iff.2 ab)with u|u
     ·exfalso
      obtain⟨x,l,R⟩:=List.mem_map.1 u;have h3:x.1=i:=by have:=congrArg (·.1) R;exact this
      have h4:=zkB (d:=true) g L ⟨x,l,h3⟩ (by rw [am];exact(Array.getElem?_eq_some_iff.1 q).1);rw [h4]at D
      cases D
     ·exact u
    obtain⟨s,t,aU⟩:=List.append_of_mem ar;subst aU;obtain⟨x,aI,r,aV⟩:=hl _ ab;rw [q]at aI
    cases aI
    have hd:K.dst=Z d:=by
     have:=(f2 _ ab).2.2.2.2;unfold fdst at this;rw [q]at this;exact this
    unfold wpOp;rw [q];dsimp only;have an:Region.wanted K (yielded ops (putC a g).tmps)=true:=by unfold Region.wanted;rw [r]
    rw [if_pos an];refine .inl ?_;unfold Oper.wp;rw [aV]
    show S (W.alloc o)∧wpAnyH P md ops Q S n ((setC L g).setIfInBounds i true) ((putC a g).put K.dst _) (W.alloc o)
    refine⟨az _ ((h0.trans hw).alloc o),?_⟩;rw [hd];have e1:(setC L g).setIfInBounds i true=setC L (g++[(i,d,o,W.heap.size)]):=by unfold setC;rw [List.foldl_append];rfl
    have e2:(putC a g).put (Z d) (Oa (Z ⟨W.heap.size,0,F⟩))=putC a (g++[(i,d,o,W.heap.size)]):=by unfold putC;rw [List.foldl_append];rfl
    have aa:=ag.step hi;rw [e1]at aa ⊢;rw [e2];refine ih k iv L a w (W.alloc o) (g++[(i,d,o,W.heap.size)]) (s++t) H aj h0 (hw.alloc o) ?_ (by simp at hn ⊢;omega) hc am ad ?_ ?_ aa
    ·refine List.Perm.trans ?_ hp
     rw [List.map_append,List.append_assoc];exact List.Perm.append_left _ (show ((i,d,o)::(s++t)).Perm (s++(i,d,o)::t)from List.perm_middle.symm)
    ·intro x l
     rcases List.mem_append.1 l with l|l
     ·obtain⟨u,R⟩:=hb x l
      exact⟨((eR W).alloc o).heapS u,R⟩
     ·cases List.mem_singleton.1 l
      exact⟨aN W o,(h0.trans hw).size,zkb fun x l=>.inr (nT (aj x l) hw.size)⟩
    ·rw [List.map_append,List.nodup_append]
     refine⟨ac,by simp,fun b aL c aM e=>?_⟩;obtain⟨x,l,rfl⟩:=List.mem_map.1 aL;have u:=zaa (hb x l).1;simp at aM;omega
   | false =>
    have ap:i∈rdy md ops fl L:=mem_rdy.2 ⟨mem_ready.2 ⟨by rw [←ah i true hF];exact D,K,q,fun e he hb=>by
     have u:=T e he hb
     have R:inF fl e.on=false:=by
      cases h3:inF fl e.on with
      | false=>rfl
      | true =>
       obtain⟨d,o,ab⟩:=zhj h3;exact absurd (zhx q he hb) (f5 i (Array.getElem?_eq_some_iff.1 q).1 aq hF _ ab).1
     rw [←ah e.on false R];exact u⟩,hF⟩
    rcases H2 with rfl|⟨k,rfl,H2⟩
    ·rw [H.1]at ap;cases ap
    ·refine wpOp_mono (fun a' w' h'=>?_) (zgg q (fun cs b=>Region.noSelect_spec ak i K cs b q) hQ g a _ (fun x l=>?_) (H2.2.2 i ap W hw (h0.trans hw)))
     ·obtain⟨a0,rfl,l,hG⟩:=h'
      have e1:(setC L g).setIfInBounds i true=setC (L.setIfInBounds i true) g:=zfk g L fun x l=>zfH hF (came x) (z x l)
      have aa:=ag.step hi;refine⟨az _ l.1,?_⟩;rw [e1]at aa ⊢;refine ih k _ _ a0 w' w' g rest hG (fun x r=>?_) l.1 (eR _) hp oM (hc.step (mem_rdy.1 ap).1) (by simpa using am) (fun x r=>?_) (fun x r=>?_) ac aa
      ·rcases List.mem_cons.1 r with rfl|r
       ·exact nE _
       ·exact nT (aj x r) (nT hw.size l.2.1)
      ·rw [getD_set_ne true (fun e=>zfH hF x r e.symm)]
       exact ad x r
      ·obtain⟨u,R,h3⟩:=hb x r
       exact⟨by rw [l.2.2 _ (zaa u) h3];exact u,R,.inl (zaa u),h3⟩
     ·obtain⟨p,aC,au⟩:=aw x l
      exact⟨p,au,(f5 i (Array.getElem?_eq_some_iff.1 q).1 aq hF _ (z x l)).2 _ _ aC q⟩
end
section
variable {P:Program} {ops:Array Oper} {Q:Exit→U→O→Prop} {md:Region.Mode} {S:O→Prop} {fl:List (Nat×Tmp×Obj)} {w0:O}
def GFs (P:Program) (md:Region.Mode) (ops:Array Oper) (Q:Exit→U→O→Prop) (c:Nat→Bool) (fl:List (Nat×Tmp×Obj)) (w0:O) (S:O→Prop) (k:Nat) (d:List (Nat×Nat)) (L:Array Bool) (a:U) (w:O):Prop:=GF P md ops Q S c fl w0 k d L a w
theorem tf1 {e:Nat→Bool} {j:List (Nat×Nat)} {L:List (Addr×X)} {v:X} {i:Nat} {oi:Oper} {k:Nat} {d:Array Bool} {a:U} {w:O} {G:Prop} (h:G) (g:ops[i]?=Z oi:=by(simp only [gA,gS,gZ];rfl)) (t:Region.noSelect ops=true:=by kernel_rfl) (l:Region.free md ops d i=true:=by kernel_rfl) (o:(rdy md ops fl d).contains i=true:=by kernel_rfl) (p:∀c a w,Q (.panic c) (a.put oi.dst v) w→Q (.panic c) a w:=by exact fun _ _ _ h=>h) (r:Region.wanted oi (yielded ops a.tmps)=true:=by rfl) (s:∀w,CellL L w→(execOp a.eval oi).run P w = .ok (.value v) w:=by(intro w f;simp only [CellL,and_true]at f;go_simp;try(with_reducible rfl))) (h6:CellL L w0:=by(with_reducible assumption)) (q:GFs P md ops Q e fl w0 (CellL L) k j (d.setIfInBounds i true) (a.put oi.dst v) w=G:=by((try simp only [Act.put,sA,sZ,sS]);rfl)):GFs P md ops Q e fl w0 (CellL L) (k+1) j d a w:=by
 subst q;exact .inr ⟨i,oi,v,g,by simpa using o,Region.free_spec g l,p,Or.inl ⟨r,s⟩,h⟩
theorem cf1 {d:Nat→Bool} {g:List (Nat×Nat)} {L:List (Addr×X)} {i:Nat} {o:Oper} {k:Nat} {c:Array Bool} {a:U} {w:O} (h:∀W,Ext w W→Ext w0 W→CellL L W→∀K':U→O→Prop,Shut (∀a w',ExtI g w0 W w'→(ExtI g w0 W w'→CellL L w'→GFs P md ops Q d fl w0 (CellL L) k ((W.heap.size,w'.heap.size)::g) (c.setIfInBounds i true) a w')→K' a w')→if Region.wanted o (yielded ops a.tmps)=true then Oper.wp P o a W K' Q else K' (a.put o.dst undef) W) (h6:CellL L w0:=by(with_reducible assumption)) (v:ops[i]?=Z o:=by(simp only [gA,gS,gZ];rfl)) (p:rdy md ops fl c=[i]:=by kernel_rfl) (u:d i=false:=by rfl):GFs P md ops Q d fl w0 (CellL L) (k+1) g c a w:=by
 refine .inl ⟨fun r=>absurd (p▸r) sM,fun j f=>?_,fun j f W t e=>?_⟩
 ·rw [p]at f
  cases List.mem_singleton.1 f
  exact u
 rw [p]at f
 cases List.mem_singleton.1 f
 exact wpOp_step v (fun K' s=>h W t e (cE h6 e) K' (fun a w' q l=>s a w' ⟨q,l q (cE h6 q.1)⟩))
theorem df {e:Nat→Bool} {g:List (Nat×Nat)} {L:List (Addr×X)} {k:Nat} {c:Array Bool} {a:U} {w:O} (f:rdy md ops fl c=[]) (h:∀W,Ext w W→Ext w0 W→FEnd P md ops Q (CellL L) w0 k g fl [] c a W):GFs P md ops Q e fl w0 (CellL L) k g c a w:=by
 cases k with
 | zero=>exact⟨f,h⟩
 | succ k=>exact .inl ⟨fun _=>h,fun i d=>(by rw [f]at d;cases d),fun i d=>by rw [f]at d;cases d⟩
theorem zaN {u:Nat} {a:U} {w:O} (fl:List (Nat×Tmp×Obj)) (L:List (Addr×X)) (k m:Nat) (late e:Nat→Bool) (s:P.follows .mixedOrders=true) (f:floatsB .any ops (fl.map ftm) late e m=true) (q:ops.size=k+fl.length) (i:fl≠[]) (g:Region.noSelect ops=true) (r:∀x∈fl,Lays P ops x.1 x.2.2)
  (p:∀c a d v w,Q (.panic c) a w→Q (.panic c) (a.put d v) w) (j:CellL L w.drew) (h:CellL L w.drew→GFs P .any ops Q e fl w.drew (CellL L) k [] (Array.replicate ops.size false) a w.drew):(Code.region u ops true).wp P Q a w:=by
 obtain⟨_,l,_,_,_⟩:=zdL f;have o:=zoc (w0:=w.drew) (S:=CellL L) f i g r p (fun _ h=>cE j h) ops.size k [] (Array.replicate ops.size false) a w.drew w.drew [] fl (h j) sM (eR _) (eR _) sM q (Cl.start _) sM (fun x t=>by simp [(l x t).2.2.2.1]) sM sM (Cl.start _);exact wp_region_any s (wpAny_of_held _ _ _ _ o)
end
end
section
open Go.RowKit Go.Shelf
attribute [local go_sem] Oper.semAt_some
def MuO (W0:O) (m c:Nat) (xs e:List Int) (d:X) (wr:O):Prop:=
 ∃(i:Nat) (a:List Int),d=I J i∧i≤m∧a.length=m+c∧Own 3 wr W0.heap.size (Y (Z ⟨W0.heap.size,0,F⟩) (m+c) (m+c)) a∧dv C4 a=dv C4 (xs.take i)*dv C4 e∧MulB a i 0∧Ext W0 wr
def MuI (W0:O) (m a i:Nat) (x V:Int) (e:List Int) (d:X) (wr:O):Prop:=
 ∃(k:Nat) (c:List Int),d=I J k∧k≤a∧c.length=m+a∧Own 3 wr W0.heap.size (Y (Z ⟨W0.heap.size,0,F⟩) (m+a) (m+a)) c∧dv C4 c=V+C4 ^ i*(x*dv C4 (e.take k))∧MulB c i k∧Ext W0 wr
theorem zbD (w:O) (va vb:X) (na nb:Int) (ha:IsN w va na) (hb:IsN w vb nb) (aM:Lm limG na) (aO:Lm limG nb) :
  Calls Tryz.prog 80 #[va,vb] w (RetN w (na*nb)):=by
 obtain⟨s,a,m,c,rfl,hs⟩:=ha.form2;obtain⟨s',a',t,c',rfl,aj⟩:=hb.form2;obtain⟨xs,hl,hi,hc,hv⟩:=ha.open;obtain⟨ys,ai,aL,ao,ak⟩:=hb.open;have hm:=zbz aM hc hv;have aq:=zbz aO ao ak;rw [hl]at hm;rw [ai]at aq;unfold limG at hm aq;obtain⟨σ,hσ⟩:=gX (s*s');have aC:=sg3 na nb;rw [←hs,←aj,hσ]at aC;have σ0 : -1≤σ:=oM
 have σ1:σ≤1:=oM
 have aD:σ=(na*nb).sign:=by rw [←hσ,hs,aj,zlX]
 have ah:=hd9 aD;have Hl:=hd9 hl;have R:=hd9 ai;have Hv:=hd9 hv;have am:=hd9 ak;clear hs aj hl ai hv ak aD aC;obtain⟨W0,f⟩:=gX (((w.alloc (M #[I J s,Y a m c] 66)).alloc (M #[I J s',Y a' t c'] 66)).alloc (M #[I J 0,Y F 0 0] 66));have z0:w.heap.size+1+1+1=W0.heap.size:=by rw [←f];simp
 have z1:w.heap.size<W0.heap.size:=oM
 have z2:w.heap.size+1<W0.heap.size:=oM
 have z3:w.heap.size+1+1<W0.heap.size:=oM
 have p0:W0.cell? ⟨w.heap.size,0,F⟩=Z (I J s):=by rw [←f];clear f;go_simp
 have p1:W0.cell? ⟨w.heap.size,1,F⟩=Z (Y a m c):=by rw [←f];clear f;go_simp
 have q0:W0.cell? ⟨w.heap.size+1,0,F⟩=Z (I J s'):=by rw [←f];clear f;go_simp
 have q1:W0.cell? ⟨w.heap.size+1,1,F⟩=Z (Y a' t c'):=by rw [←f];clear f;go_simp
 have j:Hid (W0.heap[w.heap.size+1+1]?=Z (M #[I J 0,Y F 0 0] 66 (0,0))):=by rw [←f];exact hd9 (qhA _ _ _ sM)
 have ae:Hid (Ext w W0):=by rw [←f];exact hd9 eA
 go_enter Tryz.func80,Tryz.ntmps80
 go_wp2_with(at_make;refine mk0 (n:=m+t) zaV Tryz.underlying64 rfl _ _ rfl _ rfl rfl sM oM ?_;(try rw [f]);intro w1 q L aP;(try simp only [z0]at q))
 try simp only [z0]
 have r:Own 3 w1 W0.heap.size (Y (Z ⟨W0.heap.size,0,F⟩) (m+t) (m+t)) (List.replicate (m+t) 0):=q;clear f q z0
 go_loopw [6] (MuO W0 m t xs ys) (fun t6 _=>m-(intOf t6).toNat)
 case atStart =>
  exact⟨0,_,rfl,by omega,by simp,r,by rw [zaw];simp,MulB.start _,L⟩
 case round =>
  clear r L aP;obtain⟨i,os,rfl,a0,av,g,D,l,d⟩:=hrel;have al:=hd9 av;have af:=hd9 D;have e0:=d.cellS p0;have e1:=d.cellS p1;have e2:=d.cellS q0;have e3:=d.cellS q1;clear av D
  by_cases a2:i<m
  ·obtain⟨b,o,rfl,aU,L⟩:=(hi.ext ae.out).open (by rw [Hl.out];omega)
   obtain⟨x,T⟩:∃x,xs[i]?=Z x:=⟨_,gE (by rw [Hl.out];omega)⟩;have aH:=L i x T;have az:=hc.1 x (lM T);have aF:=hd9 T;have aE:=hd9 az;have g0:(0:Int)≤(i:Int):=oM
   have g1:(i:Int)<(m:Int):=oM
   clear L T az;go_wp2;obtain⟨wo,rfl⟩:∃wo:O,wo=wr:=⟨_,rfl⟩
   go_loopw [7] (MuI W0 m t i x (dv C4 os) ys) (fun t7 _=>t-(intOf t7).toNat)
   case atStart=>exact⟨0,os,rfl,by omega,al.out,g,by simp,l,d⟩
   case round =>
    clear g l d e0 e1 e2 e3;obtain⟨k,us,rfl,a1,ax,g,D,l,d⟩:=hrel;have ag:=hd9 ax;have ac:=hd9 D;have e0:=d.cellS p0;have e1:=d.cellS p1;have e2:=d.cellS q0;have e3:=d.cellS q1;have aV:=d.cellS aH;clear ax D
    by_cases ap:k<t
    ·obtain⟨b',o',rfl,aQ,ad⟩:=(aL.ext ae.out).open (by rw [R.out];omega)
     obtain⟨y,aa⟩:∃y,ys[k]?=Z y:=⟨ys[k]'(by rw [R.out];omega),by simp [R.out,ap]⟩;obtain⟨z,ab⟩:∃z,us[i+k]?=Z z:=⟨_,gE (by rw [ag.out];omega)⟩;have aW:=d.cellS (ad k y aa);have aX:=g.cell ab;have aZ:=g.frozen (i+k);have aA:=ao.1 y (lM aa);obtain⟨aR,aS,aB⟩:=l _ z ab;have aT:=aB (nE _);obtain⟨ar,au⟩:=mul4 aE.out aA;obtain⟨u,hu⟩:=gX (x*y);rw [hu]at ar au;have aG:=hd9 aa;have an:=hd9 ab;have k0:(0:Int)≤(k:Int):=oM
     have k1:(k:Int)<(t:Int):=oM
     have k2:(0:Int)≤(i:Int)+(k:Int):=oM
     have k3:(i:Int)+(k:Int)<(m:Int)+(t:Int):=oM
     have k4:IntKind.i64.wrap ((i:Int)+(k:Int))=(i:Int)+(k:Int):=iW _ oM;have k5:((i:Int)+(k:Int)).toNat=i+k:=oM
     clear ad aa ab aA;go_wp2;refine zae (fun i=>decide (22<i)) (CellL [(⟨W0.heap.size,i+k,F⟩,I J z),(⟨w.heap.size,1,F⟩,Y (Z ⟨b,o,F⟩) m c),(⟨b,o+i,F⟩,I J x),(⟨w.heap.size+1,1,F⟩,Y (Z ⟨b',o',F⟩) t c'),(⟨b',o'+k,F⟩,I J y)]) kM ?_ (fun aI=>?_)
     ·exact cA
     refine sN 0 ?_
     iterate 23
      refine tun ?_
     refine oN ?_;refine cu1 (i:=23) fun K hK=>?_
     go_simp;refine kO hK (fun h=>nomatch h) (fun aI=>?_);clear hK K;refine doneHU kM ?_ _;go_wp2
     go_roundw
     case rel =>
      exact⟨k+1,us.set (i+k) (z+u),by go_num,by omega,by simp [ag.out],(g.stored _ _).drew,by rw [←hu];exact zjs an.out aG.out ac.out,l.step an.out ar au,(d.set (p:=⟨W0.heap.size,i+k,F⟩) (nE _) _).drew⟩
     case measure=>simp [intOf];omega
    ·obtain rfl:k=t:=oM
     go_wp2
     go_roundw
     case rel=>exact⟨i+1,us,by go_num,by omega,ag.out,g,zly R.out aF.out ac.out af.out,l.next,d⟩
     case measure=>simp [intOf];omega
  ·obtain rfl:i=m:=oM
   have hD:dv C4 os=(na.natAbs:Int)*(nb.natAbs:Int):=by
    rw [af.out,lT (by rw [Hl.out];omega),Hv.out,am.out]
   have aJ:0≤dv C4 os:=by rw [hD];exact Int.mul_nonneg oM oM
   have hN:na*nb=σ*dv C4 os:=by
    rw [hD,ah.out,←Int.natCast_mul,←Int.natAbs_mul];exact(Int.sign_mul_natAbs _).symm
   have HN:=hd9 hN;have r0:=qcB (d.heapS j.out) (i:=0) (u:=I J 0) rfl;have r1:=qcB (d.heapS j.out) (i:=1) (u:=Y F 0 0) rfl;have a4:=qfB (d.heapS j.out) 0;have a5:=qfB (d.heapS j.out) 1;have zr:=zaa (d.heapS j.out);have XW:Ext w wr:=ae.out.trans d;clear hD hN
   go_wp2_with(go_at_call 152;(with_reducible refine(zbR _ σ _ os (na*nb) g.ints (by rw [al.out];omega) (l.big oM) aJ HN.out (fun h9=>?_)).mono ?_);(rw [ah.out];refine zhF (fun h8=>h9 ?_);have h7:=HN.out;rw [h8]at h7;rcases Int.mul_eq_zero.1 h7.symm with h6|h6;(rw [ah.out,h8]at h6;exact absurd h8 (fun _=>h9 (by have h5:=af.out;rw [lT (by rw [Hl.out];omega),Hv.out,am.out,←Int.natCast_mul,←Int.natAbs_mul,h8]at h5;simpa using h5)));exact h6);rintro e w3 ⟨r3,rfl,aw,ay⟩;obtain⟨s3,a3,m3,c3,rfl,-⟩:=aw.form2;obtain⟨aK,aY⟩:=ay.cells)
   exact bR (v:=.agg #[I J s3,Y a3 m3 c3]) (by simp [results,Tryz.results80,go_sem,aK,zr,r0,r1]) rfl ⟨_,rfl,aw.keep (zbU (ay.heapS (d.heapS j.out)) _ _),eA⟩
theorem znZ {os xs:List Int} {i:Nat} {k x:Int} (c:os[i]?=Z 0) (a:xs[i]?=Z x) (h:dv C4 os=k*dv C4 (xs.take i)):dv C4 (os.set i (x*k))=k*dv C4 (xs.take (i+1)):=by
 rw [zdk _ c,zar C4 xs i x a,h];grind
def TmS (W0:O) (m:Nat) (k:Int) (xs:List Int) (c:X) (wr:O):Prop:=
 ∃(i:Nat) (a:List Int),c=I J i∧i≤m∧a.length=m∧Own 3 wr W0.heap.size (Y (Z ⟨W0.heap.size,0,F⟩) m m) a∧dv C4 a=k*dv C4 (xs.take i)∧Zer a i∧(∀x∈a,0≤x∧x≤100000000)∧Ext W0 wr
theorem zc9 (w:O) (va:X) (D k:Int) (ha:IsN w va D) (an:Lm limG D) (h0:0≤k) (h1:k≤10000) :
  Calls Tryz.prog 192 #[va,I J k] w (RetN w (D*k)):=by
 obtain⟨s,a,m,c,rfl,hs⟩:=ha.form2;obtain⟨xs,hl,hi,hc,hv⟩:=ha.open;have hm:=zbz an hc hv;rw [hl]at hm;unfold limG at hm;have Hs:=hd9 hs;have Hl:=hd9 hl;have Hv:=hd9 hv;clear hs hl hv;obtain⟨W0,g⟩:=gX ((w.alloc (M #[I J s,Y a m c] 66)).alloc (M #[I J 0,Y F 0 0] 66));have z0:w.heap.size+1+1=W0.heap.size:=by rw [←g];simp
 have z1:w.heap.size<W0.heap.size:=oM
 have z2:w.heap.size+1<W0.heap.size:=oM
 have p0:W0.cell? ⟨w.heap.size,0,F⟩=Z (I J s):=by rw [←g];clear g;go_simp
 have p1:W0.cell? ⟨w.heap.size,1,F⟩=Z (Y a m c):=by rw [←g];clear g;go_simp
 have f:Hid (W0.heap[w.heap.size+1]?=Z (M #[I J 0,Y F 0 0] 66 (0,0))):=by rw [←g];exact hd9 (qhA _ _ _ sM)
 have L:Hid (Ext w W0):=by rw [←g];exact hd9 eA
 go_enter Tryz.func192,Tryz.ntmps192
 go_wp2_with(at_make;refine mk0 (n:=m) zaV Tryz.underlying64 rfl _ _ rfl _ rfl rfl rfl oM ?_;(try rw [g]);intro w1 h p ao;(try simp only [z0]at h))
 try simp only [z0]
 have l:Own 3 w1 W0.heap.size (Y (Z ⟨W0.heap.size,0,F⟩) m m) (List.replicate m 0):=h;clear g h z0
 go_loopw [6] (TmS W0 m k xs) (fun t6 _=>m-(intOf t6).toNat)
 case atStart =>
  exact⟨0,_,rfl,by omega,by simp,l,by rw [zaw];simp,Zer.replicate _ _,fun x y=>by rw [(List.mem_replicate.1 y).2];omega,p⟩
 case round =>
  clear l p ao;obtain⟨i,K,rfl,aw,ac,j,ab,ah,aa,d⟩:=hrel;have t:=hd9 ac;have T:=hd9 ab;have R:=hd9 aa;have e0:=d.cellS p0;have e1:=d.cellS p1;clear ac ab aa
  by_cases ax:i<m
  ·obtain⟨b,o,rfl,ap,p⟩:=(hi.ext (L.out.trans d)).open (by rw [Hl.out];omega)
   obtain⟨x,r⟩:∃x,xs[i]?=Z x:=⟨_,gE (by rw [Hl.out];omega)⟩;obtain⟨z,q⟩:∃z,K[i]?=Z z:=⟨_,gE (by rw [t.out];omega)⟩;have aq:=p i x r;have av:=j.frozen i;have ar:=j.cell q;have ag:=ah _ z q (nE _);rw [ag]at q;have af:=hc.1 x (lM r);unfold C4 at af;obtain⟨u,hu⟩:=gX (x*k);have u0:0≤u:=by rw [←hu];exact Int.mul_nonneg af.1 h0
   have u1:u≤100000000:=by
    have:x*k≤10000*10000:=Int.mul_le_mul oM h1 h0 oM;omega
   have aj:=hd9 r;have ak:=hd9 q;have g0:(0:Int)≤(i:Int):=oM
   have g1:(i:Int)<(m:Int):=oM
   clear p r q ag;go_wp2
   go_roundw
   case rel =>
    refine⟨i+1,K.set i u,by go_num,by omega,by simp [t.out],j.stored _ _,?_,ah.set_next _,fun x y=>?_,d.set (nE _) _⟩
    ·rw [←hu]
     exact znZ ak.out aj.out T.out
    ·rcases List.mem_or_eq_of_mem_set y with y|rfl
     ·exact R.out x y
     ·exact⟨u0,u1⟩
   case measure=>simp [intOf];omega
  ·obtain rfl:i=m:=oM
   have hD:dv C4 K=k*(D.natAbs:Int):=by
    rw [T.out,lT (by rw [Hl.out];omega),Hv.out]
   have al:0≤dv C4 K:=by rw [hD];exact Int.mul_nonneg h0 oM
   have hN:D*k=s*dv C4 K:=by
    have h2:=zhI D;rw [hD,Hs.out,Int.mul_left_comm,h2,Int.mul_comm]
   have HN:=hd9 hN;have HD:=hd9 hD;have r0:=qcB (d.heapS f.out) (i:=0) (u:=I J 0) rfl;have r1:=qcB (d.heapS f.out) (i:=1) (u:=Y F 0 0) rfl;have ay:=qfB (d.heapS f.out) 0;have az:=qfB (d.heapS f.out) 1;have zr:=zaa (d.heapS f.out);have XW:Ext w wr:=L.out.trans d
   have ai:Hid (dv C4 K≠0→s=1∨s = -1):=hd9 (fun h9=>by
    rw [Hs.out];refine zhF (fun h8=>h9 ?_);rw [HD.out,h8];simp)
   clear hD hN
   go_wp2_with(go_at_call 152;(with_reducible refine(zbR _ s _ K (D*k) j.ints (by rw [t.out];omega) (fun x y=>by have:=R.out x y;omega) al HN.out ai.out).mono ?_);rintro e w3 ⟨r3,rfl,ad,ae⟩;obtain⟨s3,a3,m3,c3,rfl,-⟩:=ad.form2;obtain⟨am,au⟩:=ae.cells)
   exact bR (v:=.agg #[I J s3,Y a3 m3 c3]) (by simp [results,Tryz.results192,go_sem,am,zr,r0,r1]) rfl ⟨_,rfl,ad.keep (zbU (ae.heapS (d.heapS f.out)) _ _),eA⟩
def VaS (w:O) (s:Int) (a:Option Addr) (m c:Nat) (xs:List Int) (t3 t4:X) (W:O):Prop:=
 ∃j:Int,t4=I J j ∧ -1≤j∧j<m∧t3=I J (s*dv C4 (xs.drop (j+1).toNat))∧Ext w W∧W.heap[w.heap.size]?=Z (M #[I J s,Y a m c] 66 (0,0))
theorem znd {xs:List Int} {k:Nat} {x:Int} (h:xs[k]?=Z x):dv C4 (xs.drop k)=x+10000*dv C4 (xs.drop (k+1)):=by
 have a:=(lS.1 h).1;rw [List.drop_eq_getElem_cons a,zbh,(lS.1 h).2];rfl
theorem zez {xs:List Int} (a:Dig C4 xs):∀k:Nat,0≤dv C4 (xs.drop k)∧dv C4 (xs.drop k)≤dv C4 xs:=by
 intro k;have g:=zaF C4 (xs.take k) (xs.drop k);rw [List.take_append_drop]at g;have e:Dig C4 (xs.take k):=fun d h=>a d (List.mem_of_mem_take h)
 have f:Dig C4 (xs.drop k):=fun d h=>a d (List.mem_of_mem_drop h)
 have i:=(zak zbm e).1;have c:=(zak zbm f).1;have j:=zaq zbm (xs.take k).length;have:1*dv C4 (xs.drop k)≤C4 ^ (xs.take k).length*dv C4 (xs.drop k):=Int.mul_le_mul_of_nonneg_right oM c;omega
theorem zda (w:O) (va:X) (p:Int) (ha:IsN w va p) (h0 : -9223372036854775808≤p) (h1:p≤9223372036854775807) :
  Calls Tryz.prog 141 #[va] w fun e w'=>e = .returned (I J p)∧Ext w w':=by
 obtain⟨s,a,m,c,rfl,hs⟩:=ha.form2;obtain⟨q,hl,hi,hc,hv⟩:=ha.open;have hm:=hi.le;rw [hl]at hm;unfold maxLen at hm;have l:=zhI p;rw [←hs,←hv]at l;have v:s = -1∨s=0∨s=1:=by rcases zai p with ⟨e,_⟩|⟨e,_⟩|⟨e,_⟩<;>omega
 have L:=hd9 hl;have R:=hd9 l
 have hD:dv C4 q≤9223372036854775808∧(s=1→dv C4 q≤9223372036854775807):=by
  rcases v with h|h|h<;>subst h<;>omega
 have HD:=hd9 hD;clear hs hl hv l ha hD;go_enter Tryz.func141,Tryz.ntmps141;go_wp2
 go_loopw [3,4] (VaS w s a m c q) (fun _ t4 _=>(intOf t4+1).toNat)
 case atStart =>
  refine⟨(m:Int)-1,rfl,by omega,by omega,?_,eA,aN _ _⟩;rw [List.drop_of_length_le (by rw [L.out];omega)];simp
 case round =>
  obtain⟨j,rfl,j0,j1,rfl,hx,d⟩:=hrel;have ab:=qcB d (i:=0) (u:=I J s) rfl;have ac:=qcB d (i:=1) (u:=Y a m c) rfl;have K:=hd9 d;clear d
  by_cases hj:0≤j
  ·obtain⟨k,rfl⟩:=Int.eq_ofNat_of_zero_le hj
   have hk:k<m:=oM
   obtain⟨b,o,rfl,ad,y⟩:=(hi.ext hx).open (by rw [L.out];omega);obtain⟨x,f⟩:∃x,q[k]?=Z x:=⟨_,gE (by rw [L.out];omega)⟩;have ae:=y k x f;have aa:=hc.1 x (lM f);unfold C4 at aa;have z:=znd f;have T:=zez hc.1 k;have d3:=zez hc.1 (k+1);rw [show ((k:Int)+1).toNat=k+1 by omega];obtain⟨E,hE⟩:=gX (dv C4 (q.drop (k+1)));rw [hE]at z d3 ⊢;rw [z]at T;obtain⟨r,g⟩:=HD.out;obtain⟨D,t⟩:=gX (dv C4 q);rw [t]at T d3 r g;obtain⟨A,hA⟩:=gX (s*E);obtain⟨u,hu⟩:=gX (s*x)
   have f1 : -9223372036854775808≤A*10000∧A*10000≤9223372036854775807 ∧ -10000≤u∧u≤10000 ∧ -9223372036854775808≤A*10000+u∧A*10000+u≤9223372036854775807∧A*10000+u=s*(x+10000*E):=by
    rcases v with h|h|h<;>subst h<;>(try have:=g rfl)<;>omega
   obtain⟨f1,f2,f3,f4,f5,f6,f7⟩:=f1;have F7:=hd9 f7;have D1:=hd9 z;clear z T d3 hE r g t f7 y f;rw [hA];go_wp2
   go_quiet (fail)
   go_wp2
   go_roundw
   case rel =>
    refine⟨(k:Int)-1,rfl,by omega,by omega,?_,eA,K.out⟩;rw [show ((k:Int)-1+1).toNat=k by omega,D1.out,F7.out]
   case measure=>simp [intOf]
  ·obtain rfl:j = -1:=oM
   have e:s*dv C4 (q.drop ((-1:Int)+1).toNat)=p:=by
    simp only [show ((-1:Int)+1).toNat=0 from rfl,List.drop_zero];exact R.out
   rw [e];clear e;go_wp2;go_ret;exact⟨rfl,eA⟩
end
section
open Go.RowKit Go.Shelf Go.Sort Go.Lib
def inP (s:Sp) (x:Int):Bool:=decide (s.lo<x)&&decide (x<s.hi)
def midP (s:Sp) (ps:List (Int×Int)):List Int:=(ps.map (·.1)).filter (inP s)
def stopsZ (s:Sp):List Int:=compact (isort (s.lo::s.hi::midP s (s.over++s.under)))
def stopsR (s:Sp):List Rat:=(stopsZ s).map fun z:Int=>(z:Rat)
def SpOk (s:Sp):Prop:=LnOk s.over∧LnOk s.under∧Bd 104000 s.lo∧Bd 104000 s.hi
theorem zbw {ps a:List (Int×Int)} (h:LnOk ps) (k:LnOk a):SpOk (btw ps a):=by
 have c:=zhk h;have d:=zhk k;refine⟨h,k,?_,?_⟩<;>(unfold btw;unfold Bd at *;dsimp only;omega)
theorem zf8 {s:Sp} (h:SpOk s):∀z∈stopsZ s,Bd 104000 z:=by
 intro z g;have:=zdm g;rw [isort_mem]at this;obtain⟨c,d,e,f⟩:=h
 rcases List.mem_cons.1 this with rfl|this
 ·exact e
 rcases List.mem_cons.1 this with rfl|this
 ·exact f
 obtain⟨p,a,rfl⟩:=List.mem_map.1 (List.mem_filter.1 this).1
 rcases List.mem_append.1 a with a|a
 ·exact(c.2.1 p a).1
 ·exact(d.2.1 p a).1
theorem zlH (s:Sp) (ps:List (Int×Int)):(midP s ps).length≤ps.length:=by
 unfold midP;exact nT (List.length_filter_le _ _) sM
theorem zj4 {s:Sp} {ps:List (Int×Int)} {i:Nat} {p:Int×Int} (h:ps[i]?=Z p):midP s (ps.take (i+1))=midP s (ps.take i)++(if inP s p.1 then [p.1]else []):=by
 unfold midP;rw [zab _ _ _ h,List.map_append,List.filter_append]
 congr 1
 simp [List.filter_cons]
def StS (W0:O) (base:Nat) (s:Sp) (a:X) (g:Nat) (t3 t21:X) (W:O):Prop:=
 ∃i:Nat,i≤(s.over++s.under).length∧t21=I J i∧g=(s.over++s.under).length-i∧Ext W0 W∧base≤W.heap.size∧IsPts W a (s.over++s.under)∧OwnC 3 1 W base t3 ((s.lo::s.hi::midP s ((s.over++s.under).take i)).map ic)
def StT (W0:O) (base:Nat) (zs:List Int) (v46:X) (g:Nat) (c a:X) (W:O):Prop:=
 ∃i:Nat,i≤zs.length∧a=I J i∧g=zs.length-i∧Ext W0 W∧base≤W.heap.size∧OwnC 3 1 W base v46 (zs.map ic)∧OwnR W base c ((zs.take i).map fun z:Int=>(z:Rat))
theorem znB (W:O) (x:Int) (T:TypeId):∀(j:Nat) u,[ic x].flatten[j]?=Z u→(W.alloc (M #[I J x] T)).cell? ((⟨W.heap.size,0,F⟩:Addr).add j)=Z u:=by
 intro j u a
 match j,a with
 | 0,a=>simp [ic]at a;subst a;simp [Addr.add]
 | j+1,a=>simp [ic]at a
theorem znq (x:Int):∀u∈[ic x].flatten,u.oneCell'=true:=zow (zs:=[x])
theorem znJ (W:O) (base:Nat) (x y:Int) (h:base≤W.heap.size):OwnC 3 1 (W.alloc (M #[I J x,I J y] 3)) base (Y (Z ⟨W.heap.size,0,F⟩) 2 2) ([x,y].map ic):=
 ⟨zjG,by simp [ic],.inr ⟨W.heap.size,2,_,rfl,h,aN _ _,by simp,by unfold maxLen;omega,by simp,by simp [ic]⟩⟩
theorem zkS (W:O) {b:Nat} (l:b=W.heap.size) {e f:X} {ps h:List (Int×Int)} (j:IsPts W e ps) (k:IsPts W f h):Sl 121 1 (PSl 121) (W.alloc (M #[e,f] 121)) (Y (Z ⟨b,0,F⟩) 2 2) [ps,h]:=by
 subst l;refine⟨[[e],[f]],rfl,by simp,⟨by simp,Z ⟨W.heap.size,0,F⟩,2,rfl,nE _,by unfold maxLen;omega,.inr ⟨W.heap.size,0,#[e,f],(0,0),rfl,aN _ _,?_⟩⟩,?_⟩
 ·intro i x a
  simpa using a
 ·intro i c x d a
  have g:Ext W (W.alloc (M #[e,f] 121)):=(eR W).alloc _
  match i,d,a with
  | 0,d,a=>simp at d a;subst d a;exact⟨_,rfl,j.ext' g⟩
  | 1,d,a=>simp at d a;subst d a;exact⟨_,rfl,k.ext' g⟩
  | i+2,d,a=>simp at d
theorem zoJ (W:O) (x y z:X) (T:TypeId):∀(j:Nat) u,[[x,y,z]].flatten[j]?=Z u→(W.alloc (M #[x,y,z] T)).cell? ((⟨W.heap.size,0,F⟩:Addr).add j)=Z u:=by
 intro j u a
 match j,a with
 | 0,a=>simp at a;subst a;simp [Addr.add]
 | 1,a=>simp at a;subst a;simp [Addr.add]
 | 2,a=>simp at a;subst a;simp [Addr.add]
 | j+3,a=>simp at a
theorem OwnR.app {g wr:O} {base:Nat} {l:X} {f:List Rat} {cs:List (List X)} {d:List X} {q:Rat} (h:OwnC 63 3 g base l (cs++[d])) (j:cs.length=f.length)
  (k:∀(i:Nat) c q,cs[i]?=Z c→f[i]?=Z q→PR wr c q) (r:KeepT 2 wr g) (o:IsR g (.agg d.toArray) q):OwnR g base l (f++[q]):=by
 refine⟨cs++[d],h,by simp [j],fun i c x a e=>?_⟩
 by_cases p:i<cs.length
 ·rw [List.getElem?_append_left p]at a
  rw [List.getElem?_append_left oM]at e;exact IsR.keep (k i c x a e) r
 ·rw [List.getElem?_append_right oM]at a e
  have s:=(lS.1 a).1;simp at s;have:i-cs.length=0:=oM
  rw [this]at a;rw [show i-f.length=0 by omega]at e;simp at a e;subst a e;exact o
theorem zf9 (w:O) (v1 v2:X) (s:Sp) (h1:IsPts w v1 s.over) (h2:IsPts w v2 s.under) (aq:SpOk s) :
  Calls Tryz.prog 105 #[spc s v1 v2] w (RetRs w (stopsR s)):=by
 obtain⟨a1,m1,rfl⟩:=h1.form;obtain⟨a2,m2,rfl⟩:=h2.form;obtain⟨R,hR⟩:=gX (RetRs w (stopsR s));rw [hR];have HR:=hd9 hR;have bk:=hd9 aq;clear hR;unfold spc;obtain⟨n1,f1⟩:=gX s.over.length;obtain⟨n2,f2⟩:=gX s.under.length;obtain⟨lo,aA⟩:=gX s.lo;obtain⟨hi,az⟩:=gX s.hi;rw [f1]at h1 ⊢;rw [f2]at h2 ⊢;rw [aA,az];have aL:=hd9 aA;have aK:=hd9 az;have hn:(s.over++s.under).length=n1+n2:=by simp [f1,f2]
 have K:=hd9 hn;have q1:n1≤64:=by rw [←f1];exact aq.1.2.2
 have q2:n2≤64:=by rw [←f2];exact aq.2.1.2.2
 have H1:=hd9 (fun(W:O) (hW:Ext w W)=>h1.ext' hW);have H2:=hd9 (fun(W:O) (hW:Ext w W)=>h2.ext' hW);clear aq f1 f2 aA az hn h1 h2;go_enter Tryz.func105,Tryz.ntmps105;obtain⟨W0,an⟩:=gX ((w.alloc (M #[Y a1 n1 m1,Y a2 n2 m2,I J lo,I J hi] 138)));have hB:W0.heap[w.heap.size]?=Z (M #[Y a1 n1 m1,Y a2 n2 m2,I J lo,I J hi] 138 (0,0)):=by rw [←an];exact aN _ _
 have bp:Ext w W0:=by rw [←an];exact(eR _).alloc _
 have aC:W0.heap.size=w.heap.size+1:=by rw [←an];simp
 have b0:=qcB hB (i:=0) (u:=Y a1 n1 m1) rfl;have b1:=qcB hB (i:=1) (u:=Y a2 n2 m2) rfl;have b2:=qcB hB (i:=2) (u:=I J lo) rfl;have b3:=qcB hB (i:=3) (u:=I J hi) rfl;have HP:=hd9 bp;have ab:=hd9 aC
 go_wp2_with(go_at_call 104;(with_reducible refine(ziZ _ _ [s.over,s.under] (zkS _ ?_ (H1.out _ ?_) (H2.out _ ?_)) ?_).mono ?_);(simp only [wZ];have:=ab.out;omega);(exact HP.out.alloc _);(exact HP.out.alloc _);(have:=K.out;simp only [tot,List.flatten_cons,List.flatten_nil,List.append_nil];omega);rintro e w3 ⟨v3,rfl,q,au⟩;obtain⟨a3,n3,c3,rfl⟩:=q.form3;obtain⟨bq,br⟩:=au.cells)
 rw [show [s.over,s.under].flatten=s.over++s.under by simp]at q;have bb:=q.pts;have aY:=q.len;rw [lL,K.out]at aY;subst aY;have aD:Ext W0 w3:=(((eR W0).alloc _).alloc _).trans au;have bh:=aD.size;have aa:=(((znJ W0 W0.heap.size lo hi (nE _)).ext ((eR _).alloc (M #[Y a1 n1 m1,Y a2 n2 m2] 121))).ext au);rw [aC]at aa;clear bq br au an b0 b1 b2 b3
 go_loopg [3,21] (n1+n2) (StS W0 (w.heap.size+1) s (Y a3 (n1+n2) c3))
 case atStart =>
  refine⟨0,by omega,rfl,by rw [K.out];rfl,aD,by rw [←aC];exact bh,bb,?_⟩;rw [aL.out,aK.out,List.take_zero,show midP s []=[]from rfl];exact aa
 case round =>
  clear aa bb q aD bh;obtain⟨i,bs,rfl,rfl,hx,ap,ar,a⟩:=hrel;rw [K.out]at bs;obtain⟨bm,bi,aR,rfl⟩:=a.form3;have aZ:=zlH s ((s.over++s.under).take i);have a0:((s.over++s.under).take i).length≤i:=by simp;omega
  have ac:((s.lo::s.hi::midP s ((s.over++s.under).take i)).map ic).length≤200:=by simp;omega
  have b0:=hx.cellS (qcB hB (i:=0) (u:=Y a1 n1 m1) rfl);have b1:=hx.cellS (qcB hB (i:=1) (u:=Y a2 n2 m2) rfl);have b2:=hx.cellS (qcB hB (i:=2) (u:=I J lo) rfl);have b3:=hx.cellS (qcB hB (i:=3) (u:=I J hi) rfl);have f:=hd9 a;have Hx:=hd9 hx;have al:=hd9 ar;have aj:=hd9 ac;have Hb:=hd9 hB;have bC:=hx.size;have bB:w.heap.size<wr.heap.size:=by have:=ab.out;omega
  by_cases ae:i<n1+n2
  ·obtain⟨⟨x,z⟩,aI⟩:∃p,(s.over++s.under)[i]?=Z p:=⟨(s.over++s.under)[i]'(by rw [K.out];exact ae),by simp [K.out,ae]⟩
   obtain⟨b,o,rfl,hb,c0,c1⟩:=ar.at' aI;have ba:=zj4 (s:=s) aI;have ak:=hd9 ba;have aX:inP s x=(decide (lo<x)&&decide (x<hi)):=by unfold inP;rw [aL.out,aK.out]
   have ai:=hd9 aX;clear ba aI ar a hx aZ a0 aX hB
   by_cases hc:lo<x∧x<hi
   ·obtain⟨g1,g2⟩:=hc
    obtain⟨n3,bz⟩:=gX bi;have hE:midP s ((s.over++s.under).take (i+1))=midP s ((s.over++s.under).take i)++[x]:=by rw [ak.out];dsimp only;rw [ai.out];simp [g1,g2]
    have HE:=hd9 hE;clear hE ak ai
    go_wp2_with(at_builtin;refine appC (T:=3) (t:=64) (z:=I J 0) (k:=1) (bytes:=8) (base:=w.heap.size+1) (v:=Y bm bi aR) (m:=1) (c:=1) (ad:=⟨wr.heap.size+1,0,F⟩) zns rfl dM dM Tryz.underlying64 rfl _ _ rfl rfl (f.out.ext eA) rfl [ic x] rfl (by simp [ic]) (by simpa using znB (wr.alloc (M #[I J x,I J z] 43)) x 3) (znq x) (by have:=aj.out;omega) (by simp only [wZ];omega) ?_;intro v' w5 r l a6;obtain⟨a5,n5,c5,rfl⟩:=r.form3)
    go_roundg (n1+n2-(i+1))
    case measure=>have:=K.out;rw [lA]at this;omega
    case rel =>
     have y:Ext wr ((wr.alloc (M #[I J x,I J z] 43)).alloc (M #[I J x] 3)):=((eR wr).alloc _).alloc _;have L:=f.out.ext y;have af:=zad (base:=w.heap.size+1) l (by simp only [wZ];omega) (fun k hk=>(L.lt k hk).1);refine⟨i+1,by rw [K.out];omega,by go_num,by rw [K.out],(Hx.out.trans y).thenB af (by rw [ab.out];exact nE _),nT ap (nT y.size af.size),(al.out.ext' y).keep' (L.keepT dM l),?_⟩;rw [HE.out]
     simpa using r
   ·have hE:midP s ((s.over++s.under).take (i+1))=midP s ((s.over++s.under).take i):=by
     rw [ak.out];dsimp only;rw [ai.out,if_neg (by simp;omega),List.append_nil]
    have HE:=hd9 hE;clear hE ak ai
    by_cases g1:lo<x
    ·have g2:¬x<hi:=fun h=>hc ⟨g1,h⟩
     go_wp2
     go_roundg (n1+n2-(i+1))
     case measure=>have:=K.out;rw [lA]at this;omega
     case rel =>
      have y:Ext wr (wr.alloc (M #[I J x,I J z] 43)):=((eR wr).alloc _);refine⟨i+1,by rw [K.out];omega,by go_num,by rw [K.out],Hx.out.trans y,nT ap y.size,al.out.ext' y,?_⟩;rw [HE.out];exact f.out.ext y
    ·go_wp2
     go_roundg (n1+n2-(i+1))
     case measure=>have:=K.out;rw [lA]at this;omega
     case rel =>
      have y:Ext wr (wr.alloc (M #[I J x,I J z] 43)):=((eR wr).alloc _);refine⟨i+1,by rw [K.out];omega,by go_num,by rw [K.out],Hx.out.trans y,nT ap y.size,al.out.ext' y,?_⟩;rw [HE.out];exact f.out.ext y
  ·obtain rfl:i=n1+n2:=oM
   have hE:(s.over++s.under).take (n1+n2)=s.over++s.under:=lT (by rw [K.out];exact nE _);rw [hE]at a f ac aj;obtain⟨g,rfl,aU,bx⟩:=a.blk sM;have aJ:(s.lo::s.hi::midP s (s.over++s.under)).length≤200:=by rw [lL]at ac;exact ac
   have am:=hd9 aJ;obtain⟨L1,aB⟩:=gX ((s.lo::s.hi::midP s (s.over++s.under)));rw [aB]at a f ac aj aJ am;have aM:=hd9 aB;clear hE aB a aZ a0 ac ar hx hB
   go_wp2_with(first|(go_at_call 172;(with_reducible refine(zjL _ _ _ _ _ _ f.out ?_).mono ?_);(have:=am.out;omega);rintro e w5 ⟨rfl,r,aV⟩)|(go_at_call 173;(with_reducible refine(zfG _ _ _ _ _ _ r ?_).mono ?_);(have:=am.out;rw [zbS];omega);rintro e w6 ⟨rfl,D,aW⟩))
   have ao:=zad (base:=w.heap.size+1) aV oM (fun k hk=>by cases hk;exact aU);have aE:=zad (base:=w.heap.size+1) aW (nT ap ao.size) (fun k hk=>by cases hk;exact aU);have aS:Ext W0 w6:=(Hx.out.thenB ao (by rw [ab.out];exact nE _)).thenB aE (by rw [ab.out];exact nE _);have be:w.heap.size+1≤w6.heap.size:=by have:=ao.size;have:=aE.size;omega
   obtain⟨zs,av⟩:=gX (compact (isort L1));have bu:zs.length≤200:=by rw [←av];have:=zdl (isort L1);rw [zbS]at this;omega
   have ah:stopsZ s=zs:=by unfold stopsZ;rw [aM.out,av]
   have aO:=hd9 (zf8 bk.out);rw [ah]at aO;have aQ:=hd9 ah;rw [av]at D ⊢;obtain⟨m,hm⟩:=gX zs.length;rw [hm]at D bu ⊢;have Hm:=hd9 hm;clear hm av ah r aV aW ao aE f aM aJ am aj al b0 b1 b2 b3 Hb ae
   go_loopg [6,48] m (StT W0 (w.heap.size+1) zs (Y (Z ⟨g,0,F⟩) m aR))
   case atStart=>exact⟨0,by omega,rfl,by rw [Hm.out];rfl,aS,be,D,by simpa using OwnR.nil _ _⟩
   case round =>
    clear D aS be;obtain⟨i,bt,rfl,rfl,hx,bw,a,hR⟩:=hrel;rw [Hm.out]at bt;obtain⟨cs,aH,aG,aT⟩:=hR;obtain⟨bn,bv,bo,rfl⟩:=aH.form3;have ay:=hd9 aH;have ax:=hd9 aT;have aw:=hd9 aG;have f:=hd9 a;have aP:=hd9 hx;have zg:=(a.lt g rfl).2
    by_cases ae:i<m
    ·obtain⟨z,hz⟩:∃z,zs[i]?=Z z:=⟨zs[i]'(by rw [Hm.out];exact ae),by simp [Hm.out,ae]⟩
     have c0:=a.cell (i:=i) (j:=0) (d:=ic z) (u:=I J z) (by rw [lP,hz];rfl) rfl;simp only [Nat.mul_one,Nat.add_zero]at c0;have aF:=aO.out z (lM hz);have a4:cs.length≤200:=by rw [aG];simp;omega
     have bj:=hd9 a4;have HC:=hd9 (fun W=>za8 W z (by unfold Bd at aF;omega) (by unfold Bd at aF;omega));have bf:(zs.take (i+1)).map (fun z:Int=>(z:Rat))=(zs.take i).map (fun z:Int=>(z:Rat))++[(z:Rat)]:=by rw [zab _ _ _ hz,List.map_append];rfl
     have bl:=hd9 bf;clear bf hz aH aT aG a hx aF a4
     go_wp2_with(first|(go_at_call 85;(with_reducible refine(HC.out _).mono ?_);rintro e w7 ⟨r7,rfl,bc,bg⟩;obtain⟨a7,m7,c7,s7,a8,m8,c8,rfl⟩:=bc.form)|(at_builtin;refine appC (T:=63) (t:=177) (z:=.agg #[Y F 0 0,.bool false,Y F 0 0]) (k:=3) (bytes:=56) (base:=w.heap.size+1) (v:=Y bn bv bo) (m:=1) (c:=1) (ad:=⟨w7.heap.size,0,F⟩) zox rfl dM dM Tryz.underlying177 rfl _ _ rfl rfl (ay.out.ext eA) rfl [[Y a7 m7 c7,.bool s7,Y a8 m8 c8]] rfl sM (zoJ _ _ _ _ _) (by simp [Value.oneCell']) (by have:=bj.out;omega) (by have:=bg.size;simp only [wZ,qdZ]at *;omega) ?_;intro v' w8 ag l a6;obtain⟨a9,n9,c9,rfl⟩:=ag.form3))
     go_roundg (m-(i+1))
     case measure=>have:=Hm.out;omega
     case rel =>
      have y:Ext wr (w7.alloc (M #[Y a7 m7 c7,.bool s7,Y a8 m8 c8] 63)):=(((eR wr).trans bg).alloc _);have L:=ay.out.ext y;have bA:=y.size;have af:=zad (base:=w.heap.size+1) l oM (fun k hk=>(L.lt k hk).1);refine⟨i+1,by rw [Hm.out];omega,by go_num,by rw [Hm.out],(aP.out.trans y).thenB af (by rw [ab.out];exact nE _),by have:=af.size;omega,(f.out.ext y).keep (L.keepT dM l),?_⟩;rw [bl.out];exact OwnR.app ag aw.out ax.out (y.keep.trans (L.keepT dM l)) (bc.keep (((eR w7).alloc _).keep.trans (L.keepT dM l)))
    ·obtain rfl:i=m:=oM
     have hE:zs.take i=zs:=lT (by rw [Hm.out];exact nE _);rw [hE]at ax aw;clear hE;go_wp2;rw [←HR.out];refine⟨_,rfl,?_,HP.out.trans aP.out⟩;unfold stopsR;rw [aQ.out];exact OwnR.mono ⟨cs,ay.out,aw.out,ax.out⟩ oM
end
section
open Go.RowKit Go.Shelf
theorem zac {W:O} {p:Addr} {v:X} (h:W.cell? p=Z v):W.setCell p v=W:=by
 obtain⟨heap,f,d,l,a⟩:=W;unfold World.cell? at h;unfold World.setCell;simp only [World.mk.injEq,and_true]
 apply Array.ext_getElem?
 intro i;rw [Array.getElem?_modify]
 by_cases e:p.block=i
 ·subst e
  rw [if_pos rfl];dsimp only at h
  cases hb:heap[p.block]? with
  | none=>rfl
  | some o =>
   rw [hb]at h
   cases o with
   | cells c T k =>
    dsimp only at h
    split at h
    ·cases h
    ·rename_i hs
     have g:c.setIfInBounds p.off v=c:=by
      apply Array.ext_getElem?
      intro j;rw [Array.getElem?_setIfInBounds]
      split
      ·rename_i hj
       subst hj;rw [h];simp [(Array.getElem?_eq_some_iff.1 h).1]
      ·rfl
     simp [hs,g]
   | _=>cases h
 ·rw [if_neg e]
def stL (W:O) (b:Nat):Nat→List X→O
 | _,[]=>W
 | i,v::vs=>stL (W.setCell ⟨b,i,F⟩ v) b (i+1) vs
def putA (cs:Array X):Nat→List X→Array X
 | _,[]=>cs
 | i,v::vs=>putA (cs.setIfInBounds i v) (i+1) vs
theorem zkG {b:Nat} {T:TypeId} {d:Nat×Nat}:∀(a:List X) (i:Nat) {W:O} {c:Array X},W.heap[b]?=Z (M c T d)→(stL W b i a).heap[b]?=Z (M (putA c i a) T d)
 | [],_,_,_,h=>h
 | _::a,i,_,_,h=>zkG a (i+1) (zbs h i _)
theorem zfW:∀(e d a:List X),d.length=e.length→putA (a++d).toArray a.length e=(a++e).toArray
 | [],d,a,h=>by rw [List.eq_nil_of_length_eq_zero h];rfl
 | v::e,[],_,h=>by cases h
 | v::e,c::d,a,h=>by
  have f:=zfW e d (a++[v]) (by simpa using h);unfold putA;rw [show (a++c::d).toArray.setIfInBounds a.length v=(a++[v]++d).toArray by simp];rw [lA,List.length_singleton]at f;rw [f];simp
theorem zcV {W:O} {b:Nat} {cs:List X} {T:TypeId} {c:Nat×Nat} (a:List X) (h:W.heap[b]?=Z (M cs.toArray T c)) (d:cs.length=a.length):(stL W b 0 a).heap[b]?=Z (M a.toArray T c):=by
 rw [zkG a 0 h];have:=zfW a cs [] d;rw [List.nil_append,List.nil_append]at this;rw [List.length_nil]at this;rw [this]
theorem zaT {b k:Nat} (c:k≠b):∀(a:List X) (i:Nat) (W:O),(stL W b i a).heap[k]?=W.heap[k]?
 | [],_,_=>rfl
 | _::a,i,W=>(zaT c a (i+1) _).trans (bS _ _ _ _ c)
theorem zaS {T:TypeId} {b:Nat}:∀(a:List X) (i:Nat) {W:O},NoT T W b→KeepT T W (stL W b i a)
 | [],_,_,_=>KeepT.refl _ _
 | _::a,i,_,h=>(KeepT.setN (p:=⟨b,i,F⟩) (KeepT.refl _ _) h _).trans (zaS a (i+1) (h.set _ _))
theorem zem {w:O} {b:Nat} (c:w.heap.size≤b):∀(a:List X) (i:Nat) {W:O},Ext w W→Ext w (stL W b i a)
 | [],_,_,h=>h
 | _::a,i,_,h=>zem c a (i+1) (Ext.set (p:=⟨b,i,F⟩) h c _)
theorem zcZ {W:O} {b c:Nat} {l k:TypeId} {p o:Nat×Nat} {cs ds:List X} (a d:List X) (r:W.heap[b]?=Z (M cs.toArray l p)) (z:W.heap[c]?=Z (M ds.toArray k o)) (i:c≠b) (w:cs.length=a.length) (y:ds.length=d.length) :
  (stL (stL W b 0 a) c 0 d).heap[b]?=Z (M a.toArray l p)∧(stL (stL W b 0 a) c 0 d).heap[c]?=Z (M d.toArray k o)∧(∀j,j≠b→j≠c→(stL (stL W b 0 a) c 0 d).heap[j]?=W.heap[j]?) ∧
   (∀T,T≠l→T≠k→KeepT T W (stL (stL W b 0 a) c 0 d))∧∀v:O,Ext v W→v.heap.size≤b→v.heap.size≤c→Ext v (stL (stL W b 0 a) c 0 d):=by
 have t:=zcV a r w;have q:(stL W b 0 a).heap[c]?=Z (M ds.toArray k o):=(zaT i a 0 W).trans z;refine⟨(zaT (fun e=>i e.symm) d 0 _).trans t,zcV d q y,fun j f g=>(zaT g d 0 _).trans (zaT f a 0 W),fun T f g=>(zaS a 0 ?_).trans (zaS d 0 ?_),fun v f g u=>zem u d 0 (zem g a 0 f)⟩
 ·intro x s h
  rw [r]at h
  cases h
  exact f rfl
 ·intro x s h
  rw [q]at h
  cases h
  exact g rfl
end
section
open Go.RowKit Go.Shelf
attribute [local go_sem] Oper.semAt_some
def fix7 (n:Nat):List UInt8:=[n / 1000000,n / 100000,n / 10000,n / 1000,n / 100,n / 10,n].map fun d=>UInt8.ofNat (48+d % 10)
def chunksF:Nat→Nat→List (List UInt8)
 | 0,_=>[]
 | k+1,n=>if n=0 then []else chunksF k (n / 10000000)++[fix7 (n % 10000000)]
def textN (n:Nat):List UInt8:=if Lib.trimLeftB (chunksF (n+1) n).flatten 48=[]then [48]else Lib.trimLeftB (chunksF (n+1) n).flatten 48
theorem zjj (n:Nat):(fix7 n).map (fun b=>Value.int .u8 (b.toNat:Int))=[n / 1000000,n / 100000,n / 10000,n / 1000,n / 100,n / 10,n].map fun d=>Value.int .u8 ((48+d % 10:Nat):Int):=by
 unfold fix7;rw [List.map_map];refine List.map_congr_left fun d _=>?_
 have:(UInt8.ofNat (48+d % 10)).toNat=48+d % 10:=UInt8.toNat_ofNat_of_lt' (by simp [UInt8.size];omega);simp only [Function.comp_apply,this]
def fixC (n:Nat):Nat→List Int
 | 0=>[0,0,0,0,0,0,0]
 | i+1=>(fixC n i).set (6-i) ((48+n / 10 ^ i % 10:Nat):Int)
def fixA (n i:Nat):Array X:=((fixC n i).map (Value.int .u8)).toArray
theorem zg6 (n:Nat):∀i,(fixC n i).length=7
 | 0=>rfl
 | i+1=>by rw [fixC,List.length_set,zg6 n i]
theorem zll (n:Nat):fixA n 7=((fix7 n).map fun b=>Value.int .u8 (b.toNat:Int)).toArray:=by
 rw [zjj];simp [fixA,fixC]
theorem zlm (n:Nat) {i:Nat} (a:i<7):(fixA n i).setIfInBounds (6-i) (I .u8 ((48+n / 10 ^ i % 10:Nat):Int))=fixA n (i+1):=by
 unfold fixA;rw [List.setIfInBounds_toArray,fixC,List.map_set]
theorem zgn {k n:Nat} (h:n<k) (a:n≠0):∃k',k=k'+1∧n / 10000000<k'∧chunksF k n=chunksF k' (n / 10000000)++[fix7 (n % 10000000)]:=by
 obtain⟨k',rfl⟩:∃k',k=k'+1:=⟨k-1,by omega⟩;exact⟨k',rfl,by omega,by rw [chunksF,if_neg a]⟩
theorem zcp (k:Nat):chunksF k 0=[]:=by cases k<;>simp [chunksF]
def sc (s:List UInt8):List X:=[.string ⟨s.toArray⟩]
def limT:Nat:=100000
def TxS (w:O) (n0:Nat) (g:Nat) (t3:X) (W:O):Prop:=
 ∃(n k:Nat) (d:List (List UInt8)) (a:Option Addr) (m c:Nat),g=n∧n<k∧chunksF (n0+1) n0=chunksF k n++d∧d.length≤2*limT∧n*2 ^ (23*d.length)≤n0∧(∀s∈d,s.length=7)∧Ext w W ∧
  W.heap[w.heap.size]?=Z (M #[Y a m c] 59 (0,0))∧IsD W (.agg #[Y a m c]) n∧OwnC 9 1 W w.heap.size t3 (d.map sc)∧w.heap.size<W.heap.size
def TiS (W0:O) (n:Nat) (b:Nat) (g:Nat) (a t25:X) (W:O):Prop:=
 ∃i:Nat,i≤7∧g=7-i∧t25=I J i∧a=I .u64 ((n / 10 ^ i:Nat):Int)∧Ext W0 W∧W.heap[b]?=Z (M (fixA n i) 5 (0,0))
theorem TxS.step {n0 n k:Nat} {ps:List (List UInt8)} (o:Lm limT n0) (d:n≠0) (l:n<k) (j:chunksF (n0+1) n0=chunksF k n++ps) (f:n*2 ^ (23*ps.length)≤n0) :
  ∃k',n / 10000000<k'∧chunksF (n0+1) n0=chunksF k' (n / 10000000)++(fix7 (n % 10000000)::ps)∧(fix7 (n % 10000000)::ps).length≤2*limT∧n / 10000000*2 ^ (23*(fix7 (n % 10000000)::ps).length)≤n0:=by
 obtain⟨k',rfl,g,h⟩:=zgn l d;refine⟨k',g,by rw [j,h,List.append_assoc];rfl,?_,?_⟩
 ·have a:(n0:Int)<B ^ limT:=o.2
  have e:(B:Int) ^ limT=((2 ^ (24*limT):Nat):Int):=by
   rw [Nat.pow_mul];unfold B;rw [Int.natCast_pow];rfl
  rw [e]at a;have c:n0<2 ^ (24*limT):=by exact_mod_cast a
  have i:2 ^ (23*ps.length)≤n0:=nT (Nat.le_mul_of_pos_left _ (Nat.pos_of_ne_zero d)) f;have p:23*ps.length<24*limT:=(Nat.pow_lt_pow_iff_right (by decide:1<2)).1 (Nat.lt_of_le_of_lt i c);rw [List.length_cons];unfold limT at *;omega
 ·rw [List.length_cons,Nat.mul_add,Nat.pow_add]
  have:n / 10000000*8388608≤n:=oM
  have e:n / 10000000*(2 ^ (23*ps.length)*2 ^ (23*1))=(n / 10000000*8388608)*2 ^ (23*ps.length):=by
   rw [show (2:Nat) ^ (23*1)=8388608 from rfl,Nat.mul_comm (2 ^ (23*ps.length)),Nat.mul_assoc]
  exact nT (Nat.le_of_eq e) (nT (Nat.mul_le_mul_right _ this) f)
theorem znF (W:O) {x:Int} (a:0<x) (c:x<B):IsD (W.alloc (M #[I J x] 2)) (.agg #[Y (Z ⟨W.heap.size,0,F⟩) 1 1]) x:=by
 refine⟨_,[x],rfl,⟨rfl,_,1,rfl,nE _,by unfold maxLen;omega,.inr ⟨W.heap.size,0,_,(0,0),rfl,aN _ _,?_⟩⟩,⟨?_,?_⟩,by simp⟩
 ·intro i v hv
  match i,hv with
  | 0,hv=>simpa [lits] using hv
  | i+1,hv=>simp [lits]at hv
 ·intro d e
  rw [List.mem_singleton.1 e];exact⟨Int.le_of_lt a,c⟩
 ·simp
  omega
theorem zkJ {P:Program} {T t:TypeId} {k bytes:Nat} {z:X} {w:O} {base:Nat} {v sl:X} {cs:List (List X)} {ops:Array Oper} {o:Oper} {a:U} {K:U→O→Prop} {Q:Exit→U→O→Prop} {E:Prop}
  (e:(P.info? T).map (fun i=>(i.zero,i.size,i.bytes))=Z (Z z,k,bytes)) (r:z.cells.size=k) (hk:0<k) (p:bytes≤1000) (ht:P.underlying t=Z (.slice T)) (q:o.guard=F) (s x:Operand)
  (ho:o.op = .call { callee:=.builtin .append,args:=#[s,x],argTypes:=#[t,t] }) (hs:a.eval s=v) (g:OwnC T k w base v cs) (hx:a.eval x=sl)
  (ds:List (List X)) (hd:∀c∈ds,c.length=k) (l:Rd w T k sl ds.length ds.flatten) (y:∀u∈ds.flatten,u.oneCell'=true) (f:cs.length+ds.length≤100000000000) (d:base≤w.heap.size)
  (h:∀v' w',OwnC T k w' base v' (cs++ds)→w.grownBy w' v.ownBlock→(v'.ownBlock=v.ownBlock∨v'.ownBlock=Z w.heap.size)→K (a.put o.dst v') w') :
  if Region.wanted o (yielded ops a.tmps)=true then Oper.wp P o a w K Q else E:=by
 have hw:Region.wanted o (yielded ops a.tmps)=true:=by simp [Region.wanted,q]
 rw [if_pos hw];obtain⟨v',w',j,D,L,R⟩:=zhE (P:=P) o.type e r hk p ht g hd l y f d;unfold Oper.wp;simp [execOp,ho,resolve,invoke,builtin,hs,hx,j,Result.andThen];exact h v' w' D L R
theorem mk7 (W:O):(Instr.makeSlice 308 (I J 7) (I J 7)).run Tryz.prog W = .ok (Y (Z ⟨W.heap.size,0,F⟩) 7 7) (W.alloc (M #[I .u8 0,I .u8 0,I .u8 0,I .u8 0,I .u8 0,I .u8 0,I .u8 0] 5)):=by
 kernel_rfl
theorem conv7 {W:O} {b q:Nat} {a:Nat×Nat} (h:W.heap[b]?=Z (M (fixA q 7) 5 a)):(convert 308 9 (Y (Z ⟨b,0,F⟩) 7 7)).run Tryz.prog W = .ok (.string ⟨(fix7 q).toArray⟩) W:=by
 refine run_convert_bytes_back W 308 9 5 ⟨b,0,F⟩ 7 (fix7 q) Tryz.underlying308 Tryz.underlying5 Tryz.underlying9 fun j c=>?_
 have e:((⟨b,0,F⟩:Addr).add j)=⟨b,j,F⟩:=by unfold Addr.add;split<;>simp_all
 rw [e];rw [zll]at h;refine qcB h ?_;rw [List.getElem?_toArray,lP,gE c];rfl
theorem zoO {w:O} {base:Nat} (s:List UInt8) (a:base≤w.heap.size):OwnC 9 1 (w.alloc (M #[.string ⟨s.toArray⟩] 9)) base (Y (Z ⟨w.heap.size,0,F⟩) 1 1) [sc s]:=
 ⟨fun c d=>by rw [List.mem_singleton.1 d];rfl,⟨by simp [sc],.inr ⟨w.heap.size,1,#[.string ⟨s.toArray⟩],rfl,a,aN w _,by simp,by simp [maxLen],by simp,by simp [sc]⟩⟩⟩
theorem zoZ {ps:List (List UInt8)}:∀u∈(ps.map sc).flatten,u.oneCell'=true:=by
 intro u a;obtain⟨d,c,a⟩:=List.mem_flatten.1 a;obtain⟨p,_,rfl⟩:=List.mem_map.1 c;rw [List.mem_singleton.1 a];rfl
theorem zoY {ps:List (List UInt8)}:∀c∈ps.map sc,c.length=1:=by
 intro c a;obtain⟨p,_,rfl⟩:=List.mem_map.1 a;rfl
theorem zlB:(Tryz.prog.info? 9).map (fun i=>(i.zero,i.size,i.bytes))=Z (Z (.string ⟨#[]⟩),1,16):=kM
theorem ze9:∀xs:List (List UInt8),Lib.join xs []=xs.flatten
 | []=>rfl
 | [x]=>by simp [Lib.join]
 | x::y::r=>by
  have:=ze9 (y::r);simp only [Lib.join,List.flatten_cons]at this ⊢
  simpa using this
theorem flat7:∀{a:List (List UInt8)},(∀s∈a,s.length=7)→a.flatten.length=7*a.length
 | [],_=>rfl
 | s::a,h=>by
  rw [List.flatten_cons,lA,flat7 (fun x c=>h x (mC _ c)),h s (by simp),List.length_cons];omega
theorem zkA:∀ps:List (List UInt8),(ps.map sc).flatten=ps.map fun s=>Value.string ⟨s.toArray⟩
 | []=>rfl
 | s::ps=>by
  rw [List.map_cons,List.flatten_cons,zkA ps,List.map_cons];rfl
theorem zlD (w:O) (v:X) (base:Nat) (ps:List (List UInt8)) (h:OwnC 9 1 w base v (ps.map sc)) (q:ps.length≤2*limT) (y:∀s∈ps,s.length=7) :
  Calls Tryz.prog 250 #[v,.string ⟨#[]⟩] w fun e t=>e = .returned (.string ⟨ps.flatten.toArray⟩)∧Ext w t:=by
 obtain⟨a,n,c,rfl⟩:=h.form3;have r:=h.len;rw [lL]at r;subst r
 by_cases l:ps=[]
 ·subst l
  refine(Tryz.strings_Join_none a c ⟨#[]⟩ w).mono ?_;rintro e t ⟨rfl,rfl⟩;exact⟨rfl,eR _⟩
 ·have i:=h.rd
  rw [lL]at i;obtain⟨u,o,rfl,z,_,D⟩:=i.open (List.length_pos_iff.2 l);have d:=i.le;have g:(ps.map fun s:List UInt8=>(⟨s.toArray⟩:ByteArray)).length=ps.length:=lL ..
  have k:((ps.map fun s:List UInt8=>(⟨s.toArray⟩:ByteArray)).map (·.data.toList))=ps:=by
   rw [List.map_map]
   conv=>rhs;rw [←List.map_id ps]
   exact List.map_congr_left fun s _=>by simp
  have K:=flat7 y
  have p:=Tryz.strings_Join u o c (ps.map fun s:List UInt8=>(⟨s.toArray⟩:ByteArray)) ⟨#[]⟩ w (fun j x f=>by
   rw [lP]at f
   cases hp:ps[j]? with
   | none=>rw [hp]at f;cases f
   | some s =>
    rw [hp]at f
    cases f
    refine D j _ ?_;rw [zkA,lP,hp];rfl) z (by rw [g];unfold limT at q;omega) (by rw [g];exact d.1) (by rw [k,ze9,K];unfold limT at q;omega)
  rw [g,k,ze9]at p;exact p
theorem zkI {P:Program} {T t:TypeId} {w:O} {base:Nat} {v sl:X} {xs l:List Int} {ops:Array Oper} {o:Oper} {a:U} {K:U→O→Prop} {Q:Exit→U→O→Prop} {E:Prop}
  (d:(P.info? T).map (fun i=>(i.zero,i.size,i.bytes))=Z (Z (I J 0),1,8)) (y:P.underlying t=Z (.slice T)) (k:o.guard=F) (s x:Operand)
  (r:o.op = .call { callee:=.builtin .append,args:=#[s,x],argTypes:=#[t,t] }) (u:a.eval s=v) (f:Own T w base v xs)
  (D:a.eval x=sl) (j:Ints T w sl l) (e:xs.length+l.length≤1000000000000) (c:base≤w.heap.size)
  (h:∀v' w',Own T w' base v' (xs++l)→Below base w w'→K (a.put o.dst v') w') :
  if Region.wanted o (yielded ops a.tmps)=true then Oper.wp P o a w K Q else E:=by
 have z:Region.wanted o (yielded ops a.tmps)=true:=by simp [Region.wanted,k]
 rw [if_pos z];obtain⟨v',w',g,p,q,L⟩:=zfj (P:=P) o.type d y f j e c;unfold Oper.wp;simp [execOp,r,resolve,invoke,builtin,u,D,g,Result.andThen];exact h v' w' p q
theorem znI (w:O) (T:TypeId) (x:Int):Own T (w.alloc (M #[I J x] T)) w.heap.size (Y (Z ⟨w.heap.size,0,F⟩) 1 1) [x]:=
 ⟨by simp,.inr ⟨w.heap.size,1,_,by simp,nE _,aN w _,by simp,by unfold maxLen;omega,by simp,by simp [lits]⟩⟩
theorem OwnN.open {w:O} {base:Nat} {s n:Int} {a:Option Addr} {m c:Nat} (h:OwnN w base (.agg #[I J s,Y a m c]) n):∃ds,ds.length=m∧Own 3 w base (Y a m c) ds∧Can C4 ds∧dv C4 ds=(n.natAbs:Int):=by
 obtain⟨sl,ds,e,d,f,g⟩:=h
 cases e
 exact⟨ds,d.len.symm,d,f,g⟩
def OB (W:O) (base b:Nat) (n:Int):Prop:=∃s a m c,W.heap[b]?=Z (M #[I J s,Y a m c] 66 (0,0))∧OwnN W base (.agg #[I J s,Y a m c]) n
section
variable {W W':O} {b base:Nat} {n n':Int}
theorem OB.nb (h:OB W base b n):NB W b n:=by obtain⟨s,a,m,c,d,e⟩:=h;exact⟨s,a,m,c,d,e.isN⟩
theorem OB.ext (h:OB W base b n) (k:Ext W W'):OB W' base b n:=by obtain⟨s,a,m,c,d,e⟩:=h;exact⟨s,a,m,c,k.heapS d,e.ext k⟩
theorem OB.put {s:Int} {a:Option Addr} {m c:Nat} (h:NB W b n) (f:OwnN W base (.agg #[I J s,Y a m c]) n'):OB ((W.setCell ⟨b,0,F⟩ (I J s)).setCell ⟨b,1,F⟩ (Y a m c)) base b n':=by
 have d:=h.not;obtain⟨l,g,k,i,e,j⟩:=h;exact⟨s,a,m,c,zal e _ _,f.keep (((KeepT.refl _ W).setN d _).setN (d.set _ _) _)⟩
theorem OB.setRow {g i:Nat} (h:OB W base b n) (r:g≠b) (t:g<base) (u:X):OB (W.setCell ⟨g,i,F⟩ u) base b n:=by
 obtain⟨s,a,m,c,o,q⟩:=h;refine⟨s,a,m,c,(bS _ _ _ _ (fun e=>r e.symm)).trans o,?_⟩;obtain⟨sl,f,j,d,k,l⟩:=q
 cases j
 exact⟨_,f,rfl,d.setOther (p:=⟨g,i,F⟩) (fun e=>by have:=(World.ownsRow.lt d g e).1;omega) _,k,l⟩
theorem OB.drew (h:OB W base b n):OB W.drew base b n:=h
end
structure QuS (W0:O) (m:Nat) (xs:List Int) (D:Int) (g7 g8:Nat) (z8:Array X) (j:Int) (qs:List Int) (R:Int) (W:O):Prop where
 j0 : -1≤j
 j1:j<m
 ql:qs.length=m
 row:Own 3 W W0.heap.size (Y (Z ⟨W0.heap.size,0,F⟩) m m) qs
 qd:Dig C4 qs
 rest:OB W (W0.heap.size+1) g7 R
 size:W.heap[g8]?=Z (M z8 66 (0,0))
 val:dv C4 (xs.drop (j+1).toNat)=dv C4 (qs.drop (j+1).toNat)*D+R
 r0:0≤R
 r1:R<D
 ext:Ext W0 W
def QuO (W0:O) (m:Nat) (xs:List Int) (D:Int) (a c:Nat) (d:Array X) (t9:X) (W:O):Prop:=
 ∃j qs R,t9=I J j∧QuS W0 m xs D a c d j qs R W
def QuI (d:O) (D R:Int) (a c:X) (W:O):Prop:=
 ∃lo hi:Int,a=I J lo∧c=I J hi∧0≤lo∧lo<hi∧hi≤10000∧D*lo≤R∧R<D*hi∧Ext d W
def QuT (W0:O) (c d:Nat) (e:Array X) (N R:Int) (a:X) (W:O):Prop:=
 ∃g13,a=Oa (Z ⟨g13,0,F⟩)∧c<g13∧d<g13∧NB W g13 N∧NB W c R∧W.heap[d]?=Z (M e 66 (0,0))∧Ext W0 W
theorem zoC {k:Nat} {D x:Int} (h:Lm k D) (c:0≤D) (d:0≤x) (a:x≤D*10000):Lm (k+1) x:=by
 have e:B ^ (k+1)=B ^ k*16777216:=by rw [Int.pow_succ];rfl
 have p:=zaq zbr k;unfold Lm at *;rw [e];omega
theorem zoU {Q D R n:Int} (h:n=Q*D+R) (c:0<D) (d:0≤R) (a:0≤Q):Q≤n:=by
 have:Q*1≤Q*D:=Int.mul_le_mul_of_nonneg_left oM a;omega
end
end Go.Proofs.YtjnjpagegkcgfaaGreatDoor.Cop
