/- Part 27: contracts of what the law calls. -/
import Derived.Test.YtodpfeaihohpjaaGreatDoorCopA25
set_option maxRecDepth 1000000
set_option maxHeartbeats 16000000
set_option linter.unusedSimpArgs false
set_option linter.unusedVariables false
open Option renaming none→O,some→X
open Go.Value renaming slice→Y,pointer→Z,bool→J
open Go renaming World→V,Value→I
namespace Go.Proofs.YtodpfeaihohpjaaGreatDoor.Cop
section
open Go.RowKit Go.Shelf Go.Lib
attribute [local go_sem] Oper.semAt_some
theorem Rb.fold2 {k:Nat} {way:Int} {x y:Rat} (a:Rb k x) (b:Rb k y):Rb k (foldR way [x,y]):=by
 show Rb k (pickR way x y)
 unfold pickR
 split
 ·exact b
 ·exact a
theorem zm1 (w:V) (vx v1 v2:I) (p q:Pl) (x:Rat) (P Q:Nat) (c6:w.cell? ⟨P,11,O⟩=X v1) (c7:w.cell? ⟨Q,11,O⟩=X v2) (h1:IsPts w v1 (upP2 p)) (h2:IsPts w v2 (upP2 q)) (k1:LnOk (upP2 p)) (k2:LnOk (upP2 q)) (T:IsR w vx x) (m:Rb 300 x) :
  Calls Tryz.prog 75 #[vx,Z (X ⟨P,0,O⟩),Z (X ⟨Q,0,O⟩)] w (RetR w (topI p q x)):=by
 have f1:Rb 1207 (atR (upP2 p) x):=(Rb.atG (k:=300) dM m k1).up dM;have f2:Rb 1207 (atR (upP2 q) x):=(Rb.atG (k:=300) dM m k2).up dM;have H1:=hd9 (fun(W:V) (l:Ext w W)=>za7 W _ _ (upP2 p) x (h1.ext' l) k1 (T.ext l) (m.up dM));have H2:=hd9 (fun(W:V) (l:Ext w W)=>za7 W _ _ (upP2 q) x (h2.ext' l) k2 (T.ext l) (m.up dM))
 have HM:=hd9 (fun(W:V) (v:I) (h:IsRs W v [atR (upP2 p) x,atR (upP2 q) x])=>(show Calls Tryz.prog _ #[v] W (RetR W (topI p q x))from zbw W v _ h (fun z hz=>by
  simp only [List.mem_cons,List.not_mem_nil,or_false]at hz
  rcases hz with rfl|rfl
  ·exact zaf f1 dM
  ·exact zaf f2 dM)))
 obtain⟨a1,n1,m1,rfl⟩:=form3 h1;obtain⟨a2,n2,m2,rfl⟩:=form3 h2;obtain⟨xa,xm,xc,xs,u,D,y,rfl⟩:=T.form;obtain⟨z1,d⟩:=gX (atR (upP2 p) x);obtain⟨z2,f⟩:=gX (atR (upP2 q) x);obtain⟨z3,g⟩:=gX (topI p q x);rw [d]at H1;rw [f]at H2;rw [d,f,g]at HM;rw [g];have l6:=World.block_lt_of_cell? w _ c6;have l7:=World.block_lt_of_cell? w _ c7;clear f1 f2 d f g h1 h2 k1 k2 m T;dsimp only at l6 l7;go_enter Tryz.func75,Tryz.ntmps75;go_wp2;refine wp_region_held_drew (S:=CellL [(⟨P,11,O⟩,Y a1 n1 m1),(⟨Q,11,O⟩,Y a2 n2 m2),(⟨w.heap.size,0,O⟩,Y xa xm xc),(⟨w.heap.size,1,O⟩,J xs),(⟨w.heap.size,2,O⟩,Y u D y)]) kM cA (fun a=>?_);refine sN 0 ?_
 iterate 3
  refine tkn ?_
 refine oN ?_;refine sN 4 ?_
 iterate 3
  refine tkn ?_
 refine oN ?_;refine cl1 (i:=3) fun K b=>?_
 go_simp
 (with_reducible refine cM (H1.out _ eA) ?_)
 rintro e w3 ⟨r3,rfl,n,s⟩;obtain⟨a3,m3,c3,s3,b3,n3,k3,rfl⟩:=n.form
 go_wp2_with fail
 refine kO b (cE a s) (fun a=>?_);clear b K;have X3:Ext w w3:=eA;refine cl1 (i:=7) fun K b=>?_
 go_simp
 (with_reducible refine cM (H2.out _ X3) ?_)
 rintro e w4 ⟨r4,rfl,o,c⟩;obtain⟨a4,m4,c4,s4,b4,n4,k4,rfl⟩:=o.form
 go_wp2_with fail
 refine kO b (cE a c) (fun a=>?_);clear b K;refine cl1 (i:=8) fun K b=>?_
 go_simp;refine kO b (cE a ((eR _).alloc _)) (fun a=>?_);clear b K;refine cl1 (i:=9) fun K b=>?_
 go_simp
 (with_reducible refine cM (HM.out _ _ (zaU w4 rfl (n.ext c) o)) ?_)
 rintro e w5 ⟨r5,rfl,r,t⟩;obtain⟨a5,m5,c5,s5,b5,n5,k5,rfl⟩:=r.form
 go_wp2_with fail
 refine kO b (cE a t) (fun a=>?_);clear b K;have j:Ext w3 w5:=(c.trans ((eR w4).alloc _)).trans t;have hO:RB w5 (w.heap.size+1) 0:=((RB.new (IsR.zero _) sM).ext ((eR _).drew.trans s)).ext j;obtain⟨_,_,_,_,_,_,_,o0,o1,o2,aj,ak,al,zo,_⟩:=hO.rd
 have aa:∀q∈[((⟨P,11,O⟩:Addr),(Y a1 n1 m1:I)),(⟨Q,11,O⟩,Y a2 n2 m2),(⟨w.heap.size,0,O⟩,Y xa xm xc),(⟨w.heap.size,1,O⟩,J xs),(⟨w.heap.size,2,O⟩,Y u D y)],w.heap.size+1≠q.1.block:=by
  intro q hq;simp at hq
  rcases hq with rfl|rfl|rfl|rfl|rfl<;>(dsimp only;omega)
 refine cl1 (i:=10) fun K b=>?_
 go_simp;refine kO b (CellL.set3 (by assumption) aa _ _ _) (fun a=>?_);clear b K;refine wpAnyH_done kM ?_ _;go_wp2;have hP:=hO.put r;obtain⟨pa,pm,ad,af,ab,ae,ac,ag,ah,ai,_,_,_,_,hz⟩:=hP.rd;exact bR (v:=.agg #[Y pa pm ad,J af,Y ab ae ac]) (by simp [results,Tryz.results75,go_sem,ag,ah,ai]) rfl ⟨_,rfl,hz,(((X3.trans j).set dO _).set dO _).set dO _⟩
theorem zmX (w:V) (vx v1 v2:I) (p q:Pl) (x:Rat) (P Q:Nat) (c6:w.cell? ⟨P,10,O⟩=X v1) (c7:w.cell? ⟨Q,10,O⟩=X v2) (h1:IsPts w v1 (lowP2 p)) (h2:IsPts w v2 (lowP2 q)) (k1:LnOk (lowP2 p)) (k2:LnOk (lowP2 q)) (T:IsR w vx x) (m:Rb 300 x) :
  Calls Tryz.prog 76 #[vx,Z (X ⟨P,0,O⟩),Z (X ⟨Q,0,O⟩)] w (RetR w (botI p q x)):=by
 have f1:Rb 1207 (atR (lowP2 p) x):=(Rb.atG (k:=300) dM m k1).up dM;have f2:Rb 1207 (atR (lowP2 q) x):=(Rb.atG (k:=300) dM m k2).up dM;have H1:=hd9 (fun(W:V) (l:Ext w W)=>za7 W _ _ (lowP2 p) x (h1.ext' l) k1 (T.ext l) (m.up dM));have H2:=hd9 (fun(W:V) (l:Ext w W)=>za7 W _ _ (lowP2 q) x (h2.ext' l) k2 (T.ext l) (m.up dM))
 have HM:=hd9 (fun(W:V) (v:I) (h:IsRs W v [atR (lowP2 p) x,atR (lowP2 q) x])=>(show Calls Tryz.prog _ #[v] W (RetR W (botI p q x))from zbv W v _ h (fun z hz=>by
  simp only [List.mem_cons,List.not_mem_nil,or_false]at hz
  rcases hz with rfl|rfl
  ·exact zaf f1 dM
  ·exact zaf f2 dM)))
 obtain⟨a1,n1,m1,rfl⟩:=form3 h1;obtain⟨a2,n2,m2,rfl⟩:=form3 h2;obtain⟨xa,xm,xc,xs,u,D,y,rfl⟩:=T.form;obtain⟨z1,d⟩:=gX (atR (lowP2 p) x);obtain⟨z2,f⟩:=gX (atR (lowP2 q) x);obtain⟨z3,g⟩:=gX (botI p q x);rw [d]at H1;rw [f]at H2;rw [d,f,g]at HM;rw [g];have l6:=World.block_lt_of_cell? w _ c6;have l7:=World.block_lt_of_cell? w _ c7;clear f1 f2 d f g h1 h2 k1 k2 m T;dsimp only at l6 l7;go_enter Tryz.func76,Tryz.ntmps76;go_wp2;refine wp_region_held_drew (S:=CellL [(⟨P,10,O⟩,Y a1 n1 m1),(⟨Q,10,O⟩,Y a2 n2 m2),(⟨w.heap.size,0,O⟩,Y xa xm xc),(⟨w.heap.size,1,O⟩,J xs),(⟨w.heap.size,2,O⟩,Y u D y)]) kM cA (fun a=>?_);refine sN 0 ?_
 iterate 3
  refine tkn ?_
 refine oN ?_;refine sN 4 ?_
 iterate 3
  refine tkn ?_
 refine oN ?_;refine cl1 (i:=3) fun K b=>?_
 go_simp
 (with_reducible refine cM (H1.out _ eA) ?_)
 rintro e w3 ⟨r3,rfl,n,s⟩;obtain⟨a3,m3,c3,s3,b3,n3,k3,rfl⟩:=n.form
 go_wp2_with fail
 refine kO b (cE a s) (fun a=>?_);clear b K;have X3:Ext w w3:=eA;refine cl1 (i:=7) fun K b=>?_
 go_simp
 (with_reducible refine cM (H2.out _ X3) ?_)
 rintro e w4 ⟨r4,rfl,o,c⟩;obtain⟨a4,m4,c4,s4,b4,n4,k4,rfl⟩:=o.form
 go_wp2_with fail
 refine kO b (cE a c) (fun a=>?_);clear b K;refine cl1 (i:=8) fun K b=>?_
 go_simp;refine kO b (cE a ((eR _).alloc _)) (fun a=>?_);clear b K;refine cl1 (i:=9) fun K b=>?_
 go_simp
 (with_reducible refine cM (HM.out _ _ (zaU w4 rfl (n.ext c) o)) ?_)
 rintro e w5 ⟨r5,rfl,r,t⟩;obtain⟨a5,m5,c5,s5,b5,n5,k5,rfl⟩:=r.form
 go_wp2_with fail
 refine kO b (cE a t) (fun a=>?_);clear b K;have j:Ext w3 w5:=(c.trans ((eR w4).alloc _)).trans t;have hO:RB w5 (w.heap.size+1) 0:=((RB.new (IsR.zero _) sM).ext ((eR _).drew.trans s)).ext j;obtain⟨_,_,_,_,_,_,_,o0,o1,o2,aj,ak,al,zo,_⟩:=hO.rd
 have aa:∀q∈[((⟨P,10,O⟩:Addr),(Y a1 n1 m1:I)),(⟨Q,10,O⟩,Y a2 n2 m2),(⟨w.heap.size,0,O⟩,Y xa xm xc),(⟨w.heap.size,1,O⟩,J xs),(⟨w.heap.size,2,O⟩,Y u D y)],w.heap.size+1≠q.1.block:=by
  intro q hq;simp at hq
  rcases hq with rfl|rfl|rfl|rfl|rfl<;>(dsimp only;omega)
 refine cl1 (i:=10) fun K b=>?_
 go_simp;refine kO b (CellL.set3 (by assumption) aa _ _ _) (fun a=>?_);clear b K;refine wpAnyH_done kM ?_ _;go_wp2;have hP:=hO.put r;obtain⟨pa,pm,ad,af,ab,ae,ac,ag,ah,ai,_,_,_,_,hz⟩:=hP.rd;exact bR (v:=.agg #[Y pa pm ad,J af,Y ab ae ac]) (by simp [results,Tryz.results76,go_sem,ag,ah,ai]) rfl ⟨_,rfl,hz,(((X3.trans j).set dO _).set dO _).set dO _⟩
def fTop (a b:Nat):I:=.func (.func 75) #[] #[Z (X ⟨a,0,O⟩),Z (X ⟨b,0,O⟩)]
def fBot (a b:Nat):I:=.func (.func 76) #[] #[Z (X ⟨a,0,O⟩),Z (X ⟨b,0,O⟩)]
structure InsW (w:V) (b6 b7:Nat) (p q:Pl):Prop where
 h6:∃v u,w.cell? ⟨b6,10,O⟩=X v∧w.cell? ⟨b6,11,O⟩=X u∧IsPts w v (lowP2 p)∧IsPts w u (upP2 p)
 h7:∃v u,w.cell? ⟨b7,10,O⟩=X v∧w.cell? ⟨b7,11,O⟩=X u∧IsPts w v (lowP2 q)∧IsPts w u (upP2 q)
theorem InsW.ext {w w':V} {a b:Nat} {p q:Pl} (h:InsW w a b p q) (k:Ext w w'):InsW w' a b p q:=by
 obtain⟨⟨v,u,c,d,e,f⟩,⟨m,l,g,h6,i,j⟩⟩:=h;exact⟨⟨v,u,k.cellS c,k.cellS d,e.ext' k,f.ext' k⟩,⟨m,l,k.cellS g,k.cellS h6,i.ext' k,j.ext' k⟩⟩
theorem zho (w:V) (c:I) (p q:Pl) (x:Rat) (a b:Nat) (h:InsW w a b p q) (j:placedOk p=true) (k:placedOk q=true) (i:IsR w c x) (g:Rb 300 x) :
  Calls Tryz.prog 75 #[c,Z (X ⟨a,0,O⟩),Z (X ⟨b,0,O⟩)] w (RetR w (topI p q x)):=by
 obtain⟨⟨v,u,m,d,n,e⟩,⟨s,l,o,h6,r,f⟩⟩:=h;exact zm1 w c u l p q x a b d h6 e f (zae j).2 (zae k).2 i g
theorem zhn (w:V) (c:I) (p q:Pl) (x:Rat) (a b:Nat) (h:InsW w a b p q) (k:placedOk p=true) (l:placedOk q=true) (j:IsR w c x) (i:Rb 300 x) :
  Calls Tryz.prog 76 #[c,Z (X ⟨a,0,O⟩),Z (X ⟨b,0,O⟩)] w (RetR w (botI p q x)):=by
 obtain⟨⟨v,u,d,n,e,o⟩,⟨m,s,f,h6,g,r⟩⟩:=h;exact zmX w c v m p q x a b d f e g (zae k).1 (zae l).1 j i
theorem zez {p q:Pl} {x:Rat} (b:placedOk p=true) (c:placedOk q=true) (a:Rb 300 x):Rb 1207 (topI p q x):=
 Rb.fold2 ((Rb.atG (k:=300) dM a (zae b).2).up dM) ((Rb.atG (k:=300) dM a (zae c).2).up dM)
theorem zdH {p q:Pl} {x:Rat} (b:placedOk p=true) (c:placedOk q=true) (a:Rb 300 x):Rb 1207 (botI p q x):=
 Rb.fold2 ((Rb.atG (k:=300) dM a (zae b).1).up dM) ((Rb.atG (k:=300) dM a (zae c).1).up dM)
theorem zmY (w:V) (vx:I) (p q:Pl) (x:Rat) (c d Q c2:Nat) (h:InsW w c d p q) (k:placedOk p=true) (l:placedOk q=true) (f1:w.cell? ⟨Q,0,O⟩=X (fBot c d)) (f2:w.cell? ⟨c2,0,O⟩=X (fTop c d)) (T:IsR w vx x) (o:Rb 300 x) :
  Calls Tryz.prog 78 #[vx,Z (X ⟨Q,0,O⟩),Z (X ⟨c2,0,O⟩)] w (RetR w (botI p q x-topI p q x)):=by
 have H1:=hd9 (fun(W:V) (n:Ext w W)=>zhn W _ p q x c d (h.ext n) k l (T.ext n) o);have H2:=hd9 (fun(W:V) (n:Ext w W)=>zho W _ p q x c d (h.ext n) k l (T.ext n) o);have HS:=hd9 (fun(W:V) (va vb:I) (q1:IsR W va (botI p q x)) (q2:IsR W vb (topI p q x))=>zat W va vb _ _ q1 q2 (zaf (zdH k l o) dM) (zaf (zez k l o) dM));obtain⟨xa,xm,xc,xs,z,P,D,rfl⟩:=T.form;obtain⟨z1,g⟩:=gX (botI p q x);obtain⟨z2,j⟩:=gX (topI p q x);rw [g]at H1 HS;rw [j]at H2 HS;rw [g,j];have l6:=World.block_lt_of_cell? w _ f1;have l7:=World.block_lt_of_cell? w _ f2;unfold fBot at f1;unfold fTop at f2;clear g j h k l o T;dsimp only at l6 l7;go_enter Tryz.func78,Tryz.ntmps78;go_wp2;refine wp_region_held_drew (S:=CellL [(⟨Q,0,O⟩,.func (.func 76) #[] #[Z (X ⟨c,0,O⟩),Z (X ⟨d,0,O⟩)]),(⟨c2,0,O⟩,.func (.func 75) #[] #[Z (X ⟨c,0,O⟩),Z (X ⟨d,0,O⟩)]),(⟨w.heap.size,0,O⟩,Y xa xm xc),(⟨w.heap.size,1,O⟩,J xs),(⟨w.heap.size,2,O⟩,Y z P D)]) kM cA (fun a=>?_);refine sN 0 ?_
 iterate 2
  refine tkn ?_
 refine oN ?_;refine sN 3 ?_
 iterate 2
  refine tkn ?_
 refine oN ?_;refine cl1 (i:=2) fun K b=>?_
 go_simp
 (with_reducible refine cM (H1.out _ eA) ?_)
 rintro e w3 ⟨r3,rfl,r,u⟩;obtain⟨a3,m3,c3,s3,b3,n3,k3,rfl⟩:=r.form
 go_wp2_with fail
 refine kO b (cE a u) (fun a=>?_);clear b K;have X3:Ext w w3:=eA;refine cl1 (i:=5) fun K b=>?_
 go_simp
 (with_reducible refine cM (H2.out _ X3) ?_)
 rintro e w4 ⟨r4,rfl,s,f⟩;obtain⟨a4,m4,c4,s4,b4,n4,k4,rfl⟩:=s.form
 go_wp2_with fail
 refine kO b (cE a f) (fun a=>?_);clear b K;refine cl1 (i:=6) fun K b=>?_
 go_simp
 (with_reducible refine cM (HS.out _ _ _ (r.ext f) s) ?_)
 rintro e w5 ⟨r5,rfl,t,y⟩;obtain⟨a5,m5,c5,s5,b5,n5,k5,rfl⟩:=t.form
 go_wp2_with fail
 refine kO b (cE a y) (fun a=>?_);clear b K;have m:Ext w3 w5:=f.trans y;have hO:RB w5 (w.heap.size+1) 0:=((RB.new (IsR.zero _) sM).ext ((eR _).drew.trans u)).ext m;obtain⟨_,_,_,_,_,_,_,o0,k,l,aj,ak,al,zo,_⟩:=hO.rd
 have aa:∀q∈[((⟨Q,0,O⟩:Addr),(.func (.func 76) #[] #[Z (X ⟨c,0,O⟩),Z (X ⟨d,0,O⟩)]:I)),(⟨c2,0,O⟩,.func (.func 75) #[] #[Z (X ⟨c,0,O⟩),Z (X ⟨d,0,O⟩)]),(⟨w.heap.size,0,O⟩,Y xa xm xc),(⟨w.heap.size,1,O⟩,J xs),(⟨w.heap.size,2,O⟩,Y z P D)],w.heap.size+1≠q.1.block:=by
  intro q hq;simp at hq
  rcases hq with rfl|rfl|rfl|rfl|rfl<;>(dsimp only;omega)
 refine cl1 (i:=7) fun K b=>?_
 go_simp;refine kO b (CellL.set3 (by assumption) aa _ _ _) (fun a=>?_);clear b K;refine wpAnyH_done kM ?_ _;go_wp2;have hP:=hO.put t;obtain⟨pa,pm,ad,af,ab,ae,ac,ag,ah,ai,_,_,_,_,hz⟩:=hP.rd;exact bR (v:=.agg #[Y pa pm ad,J af,Y ab ae ac]) (by simp [results,Tryz.results78,go_sem,ag,ah,ai]) rfl ⟨_,rfl,hz,(((X3.trans m).set dO _).set dO _).set dO _⟩
end
section
open Go.RowKit Go.Shelf Go.Sort Go.Lib
theorem zlo {w w':V} (h:Ext w w') (k:Dr w w'):∃q os,w'=grow (w.drewN q) os:=by
 obtain⟨d,f,g,m,j⟩:=(h:Below w.heap.size w w');obtain⟨b,s,l,os,r⟩:=w';obtain⟨a,p,c,n,o⟩:=w;dsimp only at d f g m j;unfold Dr at k;dsimp only at k;subst d f g;refine⟨l-c,b.extract a.size b.size,?_⟩
 have e:b=a++b.extract a.size b.size:=by
  apply Array.ext_getElem?
  intro i;rw [Array.getElem?_append]
  split
  ·exact j i (by assumption)
  ·rw [Array.getElem?_extract]
   split
   ·congr 1;omega
   ·rw [Array.getElem?_eq_none oM]
 unfold grow World.drewN;dsimp only;rw [←e]
 congr 1
 omega
theorem zml {W:V} {c:List I} {q:Rat} (h:PR W c q):∀u∈c,u.oneCell'=true:=by
 obtain⟨a,m,d,s,f,j,g,e⟩:=IsR.form h;intro u b
 have i:c=[Y a m d,J s,Y f j g]:=by
  have:=congrArg (fun v=>match v with | .agg a=>a.toList|_=>[]) e
  simpa using this
 subst i;simp at b
 rcases b with rfl|rfl|rfl<;>rfl
theorem znj {W:V} {cs:List (List I)} {d:List Rat} (g:cs.length=d.length) (h:∀(i:Nat) c q,cs[i]?=X c→d[i]?=X q→PR W c q):∀u∈cs.flatten,u.oneCell'=true:=by
 intro u a;obtain⟨c,e,a⟩:=List.mem_flatten.1 a;obtain⟨i,b⟩:=List.mem_iff_getElem?.1 e;have f:=(lS.1 b).1;exact zml (h i c _ b (gE oM)) u a
theorem znc (W:V) (T:TypeId) (k:Nat) (base:Nat) (h:base≤W.heap.size):OwnC T k (W.alloc (.cells #[] T)) base (Y (X ⟨W.heap.size,0,O⟩) 0 0) []:=
 ⟨fun c a=>by simp at a,by simp,.inr ⟨W.heap.size,0,_,rfl,h,aN _ _,by simp,by unfold maxLen;omega,by simp,by simp⟩⟩
theorem zh2 (w:V) (base:Nat) (v:I) (m:List Rat) (h:OwnR w base v m) (x:0<m.length) (u:m.length≤1000000) :
  Calls Tryz.prog 72 #[v] w (RetRs w m):=by
 obtain⟨cs,e,o,p⟩:=h;have f:=e.rd;obtain⟨a,c,rfl⟩:=e.form;obtain⟨g,rfl,hg,aa⟩:=e.blk oM;have ho:=znj o p;have r:=e.1;have Q:=hd9 (fun(W:V) (hW:Ext w W) i c q hc hq=>IsR.ext (p i c q hc hq) hW);obtain⟨n,l⟩:=gX cs.length;have ab:n≤1000000:=oM
 have Hn:=hd9 l;have K:=hd9 o;rw [l]at f ⊢;have s:([]:List (List I)).length+cs.length≤100000000000:=by rw [l];simp;omega
 clear e p u x l o hg;go_enter Tryz.func72,Tryz.ntmps72;have j:Rd (w.alloc (.cells #[] 65)) 65 3 (Y (X ⟨g,0,O⟩) n c) cs.length cs.flatten:=by rw [Hn.out];exact Rd.ext f ((eR w).alloc _)
 have ac:=fun W=>Lib.run_eql_slice_nil (P:=Tryz.prog) W 139 65 (X ⟨g,0,O⟩) n c 0 0 Tryz.underlying139
 go_wp2_with(at_builtin;refine appS (T:=65) (t:=139) (z:=.agg #[Y O 0 0,J false,Y O 0 0]) (k:=3) (bytes:=56) (base:=w.heap.size) (v:=Y (X ⟨w.heap.size,0,O⟩) 0 0) (cs:=[]) zjv rfl dM dM Tryz.underlying139 rfl _ _ rfl rfl (znc w _ 3 w.heap.size (nE _)) rfl cs r j ho s sM ?_;intro v' w1 b d D;obtain⟨a3,n3,c3,rfl⟩:=b.form3)
 go_ret;have y:Ext w w1:=((eR w).alloc _).thenB (zah d sM (fun k hk=>by cases hk;exact nE _)) (nE _);exact⟨_,rfl,⟨cs,b,K.out,Q.out _ y⟩,y⟩
def Rx (w:V) (x:List I×Rat):Prop:=PR w x.1 x.2∧Rb limR x.2
instance (w:V):Inhabited {x // Rx w x}:=⟨⟨([Y O 0 0,J false,Y O 0 0],0),IsR.zero w,by have:=(zau (n:=0) (k:=1000) (by unfold Bd;omega)).mono (k:=limR) dM;simpa using this⟩⟩
theorem ltR (w:V) (x y:{x // Rx w x}):ltOf (fun x y:{x // Rx w x}=>rcmp x.1.2 y.1.2) x y=decide (x.1.2<y.1.2):=by
 unfold ltOf;rw [decide_eq_decide];exact za0 _ _
theorem swoR (w:V):SWO (ltOf fun x y:{x // Rx w x}=>rcmp x.1.2 y.1.2) where
 irrefl x:=by rw [ltR];simp
 trans x y z h1 h2:=by rw [ltR]at *;simp only [decide_eq_true_eq]at *;grind
 ntrans x y z h1 h2:=by rw [ltR]at *;simp only [decide_eq_false_iff_not]at *;exact Rat.not_lt.2 (Rat.le_trans (Rat.not_lt.1 h2) (Rat.not_lt.1 h1))
theorem cmpR (w:V) (x y:{x // Rx w x}) (W:V) (a:KeepT 2 w W):Calls Tryz.prog 19 #[.agg x.1.1.toArray,.agg y.1.1.toArray] W fun e f=>e = .returned (.int .i64 (rcmp x.1.2 y.1.2))∧∃q os',f=grow (W.drewN q) os':=
 (zmj W _ _ _ _ (IsR.keep x.2.1 a) (IsR.keep y.2.1 a) x.2.2 y.2.2).mono fun _ _ ⟨b,c,d⟩=>⟨b,zlo c d⟩
theorem zki {W:V} {c:List I} {q:Rat} (h:PR W c q):c.length=3:=by
 obtain⟨a,m,d,s,b,g,f,e⟩:=IsR.form h;have:=congrArg (fun v=>match v with | .agg a=>a.size|_=>0) e
 simpa using this
def RetSR (w:V) (base g n c:Nat) (a:List Rat) (e:Ending) (w':V):Prop:=
 e = .returned (.tuple #[])∧∃qs':List Rat,qs'.Perm a∧OwnR w' base (Y (X ⟨g,0,O⟩) n c) qs'∧w.grownBy w' (X g)∧KeepT 2 w w'
theorem zkA (w:V) (base g n c:Nat) (a:List Rat) (h:OwnR w base (Y (X ⟨g,0,O⟩) n c) a) (hb:∀q∈a,Rb limR q) (aa:a.length≤1000000) :
  Calls Tryz.prog 74 #[Y (X ⟨g,0,O⟩) n c,.func (.func 19) #[] #[]] w (RetSR w base g n c a):=by
 obtain⟨o,p,h2,h3⟩:=h;have hn:=p.len
 have s:∀x∈o.zip a,Rx w x:=fun x s=>by
  obtain⟨i,r⟩:=List.mem_iff_getElem?.1 s;rw [List.getElem?_zip_eq_some]at r;exact⟨h3 i _ _ r.1 r.2,hb _ (lM r.2)⟩
 obtain⟨d,T⟩:=gX (((o.zip a).attachWith (Rx w) s).toArray);have b:d.size=n:=by rw [←T,hn,List.size_toArray,List.length_attachWith,List.length_zip];omega
 have f:d.toList.map (·.1)=o.zip a:=by rw [←T];exact zaN s
 have t:d.toList.map (fun x=>x.1.1)=o:=by
  rw [show (fun x:{x // Rx w x}=>x.1.1)=Prod.fst ∘ (·.1)from rfl,←List.map_map,f,List.map_fst_zip oM]
 have u:d.toList.map (fun x=>x.1.2)=a:=by
  rw [show (fun x:{x // Rx w x}=>x.1.2)=Prod.snd ∘ (·.1)from rfl,←List.map_map,f,List.map_snd_zip oM]
 have hg:=(p.lt g rfl).2;have eg:∀args w,(callFunc 19 args).run Tryz.prog w = .ok (.enter 19 args) w:=enters_of Tryz.func19 kM rfl;have K:OwnC 65 3 w base (Y (X ⟨g,0,O⟩) n c) (d.toList.map fun x=>x.1.1):=by rw [t];exact p
 have hH:=zeT (enc:=fun x:{x // Rx w x}=>x.1.1) (fun x=>zki x.2.1) K;have hk:∀{W:V},w.grownBy W (X g)→KeepT 2 w W:=fun v=>p.keepT dM v
 have hp:=AnyQ.slices_SortFunc (P:=Tryz.prog) (ρ:=Tryz.sortRat_ren) Tryz.sortRat 3 Tryz.isAgg65 Tryz.sizeOf65 (fun x:{x // Rx w x}=>x.1.1) (fun x=>zki x.2.1) (fun x=>zml x.2.1) (fun x y=>rcmp x.1.2 y.1.2) (swoR w) 19 #[] g 0 c d w eg (fun _ _ dk _ x y=>cmpR w x y _ (hk (zdB dk))) hH hg oM;rw [b]at hp;refine hp.mono ?_;rintro e w' ⟨rfl,d',m,os,⟨q1,_,D⟩,hs,rfl⟩;rw [←b]at D
 have q4:d'.toList.Perm d.toList:=by
  have e1:d'.extract 0 d.size=d':=by rw [←q1];exact Array.extract_size
  rw [e1,Array.extract_size]at D;exact D
 have j:=hk (zdB (enc:=fun x:{x // Rx w x}=>x.1.1) (k:=3) (w:=w) (g:=g) (m:=m) (os:=os) d');refine⟨rfl,d'.toList.map (fun x=>x.1.2),?_,⟨d'.toList.map fun x=>x.1.1,zes (m:=m) (os:=os) (enc:=fun x:{x // Rx w x}=>x.1.1) (fun x=>zki x.2.1) (d':=d') K q1,by simp,?_⟩,zdB _,j⟩
 ·rw [←u];exact q4.map _
 ·intro i c q Q hq
  rw [lP,Option.map_eq_some_iff]at Q hq;obtain⟨x,z,rfl⟩:=Q;obtain⟨y,l,rfl⟩:=hq;rw [z]at l
  cases l
  exact IsR.keep x.2.1 j
theorem zb0 {p q:Pl} (d:placedOk p=true) (f:placedOk q=true):SpOk (insS p q):=by
 have a:∀{p:Pl},placedOk p=true→LnOk (lowP2 p++upP2 p):=fun {p} h=>by
  obtain⟨b,j⟩:=zae h;obtain⟨k,o,h12⟩:=zaH h;have c:=ze9 k (nE _);have a:=zgP (cornersP p) (cornersP p).length;have g:=(zcO (zjO h) c.1 oM).2.2;have i:=(zcO (znt h) c.2 oM).2.2;refine⟨fun e=>b.1 (List.append_eq_nil_iff.1 e).1,fun x l=>(List.mem_append.1 l).elim (b.2.1 x) (j.2.1 x),?_⟩;rw [lA];exact nT (Nat.add_le_add g i) oM
 have m:=zbO (zae d).1;have n:=zbO (zae f).1;refine⟨a d,a f,?_,?_⟩<;>(unfold insS;unfold Bd at *;dsimp only;omega)
theorem zfK {a b:List (Int×Int)} {y x c:Rat} (i:LnOk a) (j:LnOk b) (f:Rb 1 y) (e:Rb 1 x) (h:c∈crossL (dif a b) y x):Rb 300 c:=by
 have d:∀{z:Rat},Rb 1 z→Rb 23 (dif a b z):=fun g=>Rb.sub (k:=11) (g.atR i) (g.atR j)
 unfold crossL at h
 split at h
 ·simp at h
  subst h;exact(Rb.cross f e ((d f).up dM) ((d e).up dM)).up dM
 ·simp at h
theorem zev {s:Sp} (h:SpOk s):∀x∈stopsR s,Rb 1 x:=fun x a=>by
 obtain⟨z,b,rfl⟩:=List.mem_map.1 a;exact zau (zew h z b)
theorem zco {s:Sp} (h:SpOk s):(stopsR s).length≤130:=by
 unfold stopsR stopsZ;have a:=zbZ (isort (s.lo::s.hi::midP s (s.over++s.under)));have b:=zhu s (s.over++s.under);have c:=h.1.2.2;have d:=h.2.1.2.2;rw [zbE]at a;simp only [List.length_cons,lA,lL]at *;omega
theorem zmW {p q:Pl} (g:placedOk p=true) (h:placedOk q=true) {y x:Rat} (e:Rb 1 y) (d:Rb 1 x):(∀c∈insC p q y x,Rb 300 c)∧(insC p q y x).length≤2:=by
 constructor
 ·intro c a
  rcases List.mem_append.1 a with a|a
  ·exact zfK (zae g).2 (zae h).2 e d a
  ·exact zfK (zae g).1 (zae h).1 e d a
 ·have b:∀f:Rat→Rat,(crossL f y x).length≤1:=fun f=>by unfold crossL;split<;>simp
  unfold insC;rw [lA];exact Nat.add_le_add (b _) (b _)
theorem zgF {p q:Pl} (a:placedOk p=true) (b:placedOk q=true):∀n,n+1≤(stopsR (insS p q)).length→(∀c∈insN p q n,Rb 300 c)∧(insN p q n).length≤130+2*n
 | 0,_=>⟨fun c d=>(zev (zb0 a b) c d).up (by decide),zco (zb0 a b)⟩
 | n+1,h=>by
  obtain⟨f,k⟩:=zgF a b n oM
  have e:∀i,i<(stopsR (insS p q)).length→Rb 1 ((stopsR (insS p q)).getD i 0):=fun i j=>by
   refine zev (zb0 a b) _ ?_;rw [gD,gE j,Option.getD_some];exact List.getElem_mem _
  obtain⟨g,l⟩:=zmW a b (e n oM) (e (n+1) oM);refine⟨fun c d=>(List.mem_append.1 d).elim (f c) (g c),?_⟩
  show (insN p q n++insC p q _ _).length≤_
  rw [lA];omega
end
end Go.Proofs.YtodpfeaihohpjaaGreatDoor.Cop
