/- Part 14: contracts of what the law calls. -/
import Derived.Test.YtodpfeaihohpjaaGreatDoorCopA10
import Derived.Test.YtodpfeaihohpjaaGreatDoorCopA12
import Derived.Test.YtodpfeaihohpjaaGreatDoorCopA07
import Derived.Test.YtodpfeaihohpjaaGreatDoorCopA09
import Derived.Test.YtodpfeaihohpjaaGreatDoorCopA05
import Derived.RangeFuncNested
import Derived.RangeFuncBound
import Derived.RangeFuncCalls
import Derived.RangeFuncLeaves
import Derived.Shelf.Abstract
import Derived.Shelf.RegionOpen
import Derived.TacticsInMore
import Derived.LoopNIn
import Derived.LoopIn
import Derived.Sort.LoopGhostIn
set_option maxRecDepth 1000000
set_option maxHeartbeats 16000000
set_option linter.unusedSimpArgs false
set_option linter.unusedVariables false
open Go.Value renaming int→O,slice→Z
open Go.IntKind renaming i64→Y
open Option renaming some→X,none→I
open Go renaming World→V,Value→J
open Go.Obj renaming cells→M
namespace Go.Proofs.YtodpfeaihohpjaaGreatDoor.Cop
section
open Go.RowKit Go.Shelf
def cornersP (p:Pl):List (Int×Int):=(turnedP p.way p.shape).map fun q=>(q.1+p.ax,q.2+p.az)
theorem zdf {ps:List (Int×Int)} (h:ps≠[]):(settledP ps).length=ps.length:=by
 have:=(zi8 h).2;unfold settledP;simp;omega
theorem zcp {way:Int} {ps:List (Int×Int)} (h:ps≠[]):(turnedP way ps).length=ps.length:=by
 unfold turnedP
 split
 ·rw [zdf (by simpa using h)];simp
 ·rw [zdf (by simpa using h)];simp
theorem zd9 {k:Int} {ps:List (Int×Int)} (h:PBd k ps) (h0:ps≠[]):PBd (k+k) (settledP ps):=fun p hp=>by
 obtain⟨q,hq,rfl⟩:=List.mem_map.1 hp;have h1:=h.rot (idxN ps) q hq;have h2:=zfF h h0;exact⟨h1.1.sub h2.1,h1.2.sub h2.2⟩
theorem zeP {k way:Int} {ps:List (Int×Int)} (h:PBd k ps) (h0:ps≠[]):PBd (k+k) (turnedP way ps):=by
 unfold turnedP
 split
 ·exact zd9 h.way.rev (by simpa using h0)
 ·exact zd9 h.way (by simpa using h0)
theorem zbw {p:Pl} (h:placedOk p=true):stoneB (namedB p.name) p.shape p.depth p.density p.gx p.gz=true∧0≤p.way∧p.way≤7∧Bd 100000 p.ax∧Bd 100000 p.az∧1≤p.skin∧p.skin≤3:=by
 unfold placedOk pfarB wthn at h;simp at h;unfold Bd;refine⟨h.1,?_⟩;omega
theorem zbj {p:Pl} (h:placedOk p=true):PBd 104000 (cornersP p)∧3≤(cornersP p).length∧(cornersP p).length≤12:=by
 obtain⟨hs,_,_,hx,hz,_⟩:=zbw h;obtain⟨h3,h12,hb,_⟩:=zbX hs;have hne:p.shape≠[]:=by intro e;rw [e]at h3;simp at h3
 refine⟨fun q hq=>?_,?_,?_⟩
 ·obtain⟨r,hr,rfl⟩:=List.mem_map.1 hq
  have:=zeP (way:=p.way) hb hne r hr;unfold Bd at *;dsimp only;omega
 ·unfold cornersP;rw [lL,zcp hne];exact h3
 ·unfold cornersP;rw [lL,zcp hne];exact h12
def PlB (W:V) (b:Nat) (p:Pl) (v:J):Prop:=W.heap[b]?=X (M (plc p v) 37 (0,0))
theorem zdz (w:V) (p:Pl) (v:J) (h:IsPts w v p.shape) (hok:placedOk p=true) (hg:Gw w) :
  Calls Tryz.prog 80 #[.agg (plc p v)] w (RetC 33 2 w ((cornersP p).map pc)):=by
 obtain⟨a,c,rfl⟩:=h.form;obtain⟨hB,hw0,hw7,hax,haz,_,_⟩:=zbw hok;obtain⟨h3,h12,hbd,_⟩:=zbX hB;obtain⟨nm,ps,d,de,gx,gz,wy,ax,az,sk⟩:=p;dsimp only at h hB hw0 hw7 hax haz h3 h12 hbd;have hne:ps≠[]:=by intro e;rw [e]at h3;simp at h3
 have hct:=fun W (hW:Ext w W)=>ziq W nm _ ps d de gx gz wy (h.ext' hW) hB hw0 hw7 (hg.ext hW)
 obtain⟨qs,hqs⟩:=gX (turnedP wy ps);have hql:=zcp (way:=wy) hne;have hqb:=zeP (way:=wy) hbd hne;have hR:(cornersP ⟨nm,ps,d,de,gx,gz,wy,ax,az,sk⟩)=qs.map fun q=>(q.1+ax,q.2+az):=by unfold cornersP;rw [←hqs]
 rw [hR];rw [hqs]at hct hql hqb;obtain⟨g2,hg2⟩:=gX (wayP wy (gx,gz));rw [hg2]at hct;obtain⟨n,hn⟩:=gX ps.length;rw [hn]at h hct hql h3 h12 ⊢;obtain⟨RL,hRL⟩:=gX ((qs.map (fun q=>(q.1+ax,q.2+az))).map pc);rw [hRL];have HRL:=hd9 hRL;clear hRL;have Hct:=hd9 hct;have Hqb:=hd9 hqb;have Hql:=hd9 hql;obtain⟨hax1,hax2⟩:=hax;obtain⟨haz1,haz2⟩:=haz;clear hct hqb hql hqs hg2 hn hB hbd hne hR hok;unfold plc;dsimp only;go_enter Tryz.func80,Tryz.ntmps80
 go_wp2_with(first|((go_at_call 123;(with_reducible refine(Hct.out _ ?_).mono ?_);exact eA;rintro e w1 ⟨v1,rfl,ho1,hx1⟩;obtain⟨a1,n1,c1,rfl⟩:=ho1.form3;obtain rfl:n=n1:=(by have h9:=ho1.len;rw [lL,Hql.out]at h9;exact h9.symm);obtain⟨⟨hc1,hf1⟩,z1_0⟩:=cK1 w hx1))|((at_make;refine mkC (T:=33) (t:=32) (z:=.agg #[O Y 0,O Y 0]) (k:=2) (bytes:=16) (zs:=[O Y 0,O Y 0]) zbD rfl rfl (by decide) Tryz.underlying32 rfl _ _ rfl _ rfl rfl rfl (by omega) ?_;intro cs hown1;simp only [wZ]at hown1))|((refine cpC (T:=33) (t:=32) (k:=2) (g:=w1.heap.size+1) (n:=n) (cap:=n) (sl:=Z a1 n c1) (os:=List.replicate n [O Y 0,O Y 0]) (by kernel_rfl) Tryz.underlying32 rfl _ _ rfl rfl rfl hown1 (qs.map pc) zfL (ho1.rd.ext ?_) ?_ ?_ zfM ?_;exact eA;(simp [Hql.out]);(simp [Hql.out];omega);intro w3 hown3 hg3)))
 obtain⟨g4,hg4⟩:=gX (w1.heap.size+1);rw [hg4]at hown3 hg3 ⊢;have hxA:Ext w w1:=eA;have hsA:=hxA.size;have P0:=hx1.heapS (qhA _ _ _ rfl);have P1:=((eR w1).alloc (M #[.string nm,Z a1 n c1,O Y d,O Y de,O Y g2.1,O Y g2.2] 35)).heapS P0;have P2:=((eR _).alloc (M cs 33)).heapS P1;have zw:w.heap.size<w1.heap.size:=zaa P0;have P3:=zaf hg3 P2 (fun e=>by cases e;omega);have X3:Ext w w3:=((hxA.alloc _).alloc _).thenB (zad hg3 (by simp;omega) (fun k hk=>by cases hk;exact nE _)) (by omega:w.heap.size≤g4);have hs3:=hg3.size;simp only [wZ]at hs3;have hown4:=hown3.mono (b':=g4) (by simp [hg4]);have hs4:g4≤w3.heap.size:=by omega
 have hwg:w.heap.size<g4:=by omega
 have P3h:=hd9 P3;clear hc1 hf1 z1_0 ho1 hx1 hown1 hown3 hg3 P0 P1 P2 P3 hg4 hs3 hsA zw
 go_loopg [25] n (fun g t25 W=>MpS w g4 (fun q=>(q.1+ax,q.2+az)) qs (Z (X ⟨g4,0,I⟩) n n) g t25 W∧W.heap[w.heap.size]?=X (M #[.string nm,Z a n c,O Y d,O Y de,O Y gx,O Y gz,O Y wy,O Y ax,O Y az,O .u8 sk] 37 (0,0)))
 case atStart=>exact⟨⟨0,by omega,rfl,by rw [Hql.out];rfl,X3,hs4,by simpa using hown4⟩,P3h.out⟩
 case round =>
  clear X3 hs4 hown4 P3h;obtain⟨⟨i,hi,rfl,rfl,hx,hsz,hown⟩,hP⟩:=hrel;rw [Hql.out]at hi
  by_cases hlt:i<n
  ·obtain⟨⟨qx,qz⟩,hq⟩:∃q,qs[i]?=X q:=⟨qs[i]'(by rw [Hql.out];omega),by simp⟩
   have hpm:=zlE (f:=fun q=>(q.1+ax,q.2+az)) hq;have d0:=hown.cell (j:=0) hpm rfl;have d1:=hown.cell (j:=1) hpm rfl;simp only [Nat.add_zero]at d0;dsimp only at d0 d1;have f0:=hown.frozen;obtain⟨⟨b1,b2⟩,b3,b4⟩:=Hqb.out (qx,qz) (lM hq);have b1':(-4000:Int)≤qx:=by simpa using b1
   have b2':qx≤4000:=by simpa using b2
   have b3':(-4000:Int)≤qz:=by simpa using b3
   have b4':qz≤4000:=by simpa using b4
   have p7:=qcB hP (i:=7) (u:=O Y ax) rfl;have p8:=qcB hP (i:=8) (u:=O Y az) rfl;have hst:=fun(W:V) (h:OwnC 33 2 W g4 (Z (X ⟨g4,0,I⟩) n n) (((qs.take i).map (fun q=>(q.1+ax,q.2+az))++qs.drop i).map pc))=>h.pair hpm (O Y (qx+ax)) (O Y (qz+az))
   rw [zlF (f:=fun q=>(q.1+ax,q.2+az)) hq rfl _ rfl]at hst;have Hst:=hd9 hst;have Hown:=hd9 hown;have HP:=hd9 hP;have zg:=(hown.lt g4 rfl).2;have hne:¬g4=w.heap.size:=by omega
   have p1:(0:Int)≤(i:Int):=by omega
   have p2:(i:Int)<(n:Int):=by omega
   clear hst hpm hq hown hP b1 b2 b3 b4;go_wp2
   go_region_with fail
   all_goals go_wp2
   all_goals go_region_with fail
   all_goals go_wp2
   all_goals
    go_roundg (n-(i+1))
    case measure=>have:=Hql.out;omega
    case rel =>
     refine⟨⟨i+1,by have:=Hql.out;omega,by go_num,by rw [Hql.out],eA,by simp only [qcZ,qdZ];exact hsz,?_⟩,?_⟩
     ·exact Hst.out _ Hown.out
     ·show ((wr.setCell _ _).setCell _ _).heap[_]?=_
      rw [bS _ _ _ _ (by dsimp only;omega),bS _ _ _ _ (by dsimp only;omega)];exact HP.out
  ·obtain rfl:i=n:=by omega
   have e:((qs.take i).map (fun q=>(q.1+ax,q.2+az))++qs.drop i)=qs.map (fun q=>(q.1+ax,q.2+az)):=by
    rw [lT (by rw [Hql.out];exact nE _),List.drop_of_length_le (by rw [Hql.out];exact nE _),List.append_nil]
   rw [e,HRL.out]at hown;go_wp2;go_ret;exact⟨_,rfl,hown.mono (by omega),hx⟩
def edgeLow (cs:List (Int×Int)) (i:Nat):List (Int×Int):=if (cs.getD i (0,0)).1<(cs.getD ((i+1) % cs.length) (0,0)).1 then [cs.getD i (0,0),cs.getD ((i+1) % cs.length) (0,0)]else []
def edgeUp (cs:List (Int×Int)) (i:Nat):List (Int×Int):=if (cs.getD ((i+1) % cs.length) (0,0)).1<(cs.getD i (0,0)).1 then [cs.getD i (0,0),cs.getD ((i+1) % cs.length) (0,0)]else []
def lowRaw (cs:List (Int×Int)) (i:Nat):List (Int×Int):=(List.range i).flatMap (edgeLow cs)
def upRaw (cs:List (Int×Int)) (i:Nat):List (Int×Int):=(List.range i).flatMap (edgeUp cs)
theorem zbH (cs:List (Int×Int)) (i:Nat):lowRaw cs (i+1)=lowRaw cs i++edgeLow cs i:=by simp [lowRaw,List.range_succ]
theorem zcf (cs:List (Int×Int)) (i:Nat):upRaw cs (i+1)=upRaw cs i++edgeUp cs i:=by simp [upRaw,List.range_succ]
theorem zgT {cs:List (Int×Int)} {i:Nat} (h:i<cs.length):∀q∈edgeLow cs i++edgeUp cs i,q∈cs:=by
 have h1:cs.getD i (0,0)∈cs:=by rw [gD,gE h];exact List.getElem_mem h
 have h2:cs.getD ((i+1) % cs.length) (0,0)∈cs:=by
  have:(i+1) % cs.length<cs.length:=Nat.mod_lt _ (by omega);rw [gD,gE this];exact List.getElem_mem this
 intro q hq;unfold edgeLow edgeUp at hq
 rcases List.mem_append.1 hq with hq|hq
 ·split at hq
  ·simp at hq;rcases hq with rfl|rfl
   ·simpa using h1
   ·simpa using h2
  ·simp at hq
 ·split at hq
  ·simp at hq;rcases hq with rfl|rfl
   ·simpa using h1
   ·simpa using h2
  ·simp at hq
theorem zfR {k:Int} {cs:List (Int×Int)} (h:PBd k cs) {i:Nat} (hi:i≤cs.length):PBd k (lowRaw cs i)∧PBd k (upRaw cs i):=by
 refine⟨fun q hq=>?_,fun q hq=>?_⟩
 ·obtain⟨j,hj,hq⟩:=List.mem_flatMap.1 hq
  exact h q (zgT (by have:=List.mem_range.1 hj;omega) q (List.mem_append_left _ hq))
 ·obtain⟨j,hj,hq⟩:=List.mem_flatMap.1 hq
  exact h q (zgT (by have:=List.mem_range.1 hj;omega) q (List.mem_append_right _ hq))
theorem zjS (cs:List (Int×Int)) (i:Nat):(lowRaw cs i).length≤2*i∧(upRaw cs i).length≤2*i:=by
 induction i with
 | zero=>exact⟨by simp [lowRaw],by simp [upRaw]⟩
 | succ i ih =>
  rw [zbH,zcf,lA,lA];have h1:(edgeLow cs i).length≤2:=by unfold edgeLow;split<;>simp
  have h2:(edgeUp cs i).length≤2:=by unfold edgeUp;split<;>simp
  omega
def lineOf (raw:List (Int×Int)):List (Int×Int):=compactP (sortX raw)
def lowP2 (p:Pl):List (Int×Int):=lineOf (lowRaw (cornersP p) (cornersP p).length)
def upP2 (p:Pl):List (Int×Int):=lineOf (upRaw (cornersP p) (cornersP p).length)
def lac (p:Pl) (v vl vu:J):Array J:=#[.string p.name,v,O Y p.depth,O Y p.density,O Y p.gx,O Y p.gz,O Y p.way,O Y p.ax,O Y p.az,O .u8 p.skin,vl,vu]
def la0:Array J:=#[.string ⟨#[]⟩,Z I 0 0,O Y 0,O Y 0,O Y 0,O Y 0,O Y 0,O Y 0,O Y 0,O .u8 0,Z I 0 0,Z I 0 0]
def RetO (w:V) (p:Pl) (v:J) (e:Ending) (w':V):Prop:=∃vl vu,e = .returned (.agg (lac p v vl vu))∧IsPts w' vl (lowP2 p)∧IsPts w' vu (upP2 p)∧Ext w w'
def OuW (w:V) (base:Nat) (p:Pl) (v:J) (L U:List (Int×Int)) (vl vu:J) (W:V):Prop:=
 Ext w W∧w.heap.size+1+1<base∧base≤W.heap.size∧W.heap[w.heap.size]?=X (M (plc p v) 37 (0,0))∧W.heap[w.heap.size+1]?=X (M la0 101 (0,0)) ∧
 W.heap[w.heap.size+1+1]?=X (M (lac p v vl vu) 101 (0,0))∧OwnC 33 2 W base vl (L.map pc)∧OwnC 33 2 W base vu (U.map pc)∧∀j,vl.ownBlock=X j→vu.ownBlock≠X j
section
variable {w W w':V} {base:Nat} {p:Pl} {v vl vu vl' vu':J} {L U L' U':List (Int×Int)}
theorem OuW.ext (h:OuW w base p v L U vl vu W) (k:Ext W w'):OuW w base p v L U vl vu w':=by
 obtain⟨h1,h2,h3,h4,h5,h6,h7,h8,h9⟩:=h;exact⟨h1.trans k,h2,nT h3 k.size,k.heapS h4,k.heapS h5,k.heapS h6,h7.ext k,h8.ext k,h9⟩
theorem OuW.low (h:OuW w base p v L U vl vu W) (hg:W.grownBy w' vl.ownBlock) (ho:OwnC 33 2 w' base vl (L'.map pc)):OuW w base p v L' U vl vu w':=by
 obtain⟨h1,h2,h3,h4,h5,h6,h7,h8,h9⟩:=h;have hne:∀k,k<base→X k≠vl.ownBlock:=fun k hk e=>by have:=(h7.lt k e.symm).1;omega
 refine⟨h1.thenB (zad hg h3 (fun k hk=>(h7.lt k hk).1)) (by omega),h2,nT h3 hg.size,zaf hg h4 (hne _ (by omega)),zaf hg h5 (hne _ (by omega)),zaf hg h6 (hne _ (by omega)),ho,h8.grown hg ?_,h9⟩
 cases e:vu.ownBlock with
 | none=>exact .inl rfl
 | some j=>exact .inr (fun e2=>h9 j e2.symm e)
theorem OuW.up (h:OuW w base p v L U vl vu W) (hg:W.grownBy w' vu.ownBlock) (ho:OwnC 33 2 w' base vu (U'.map pc)):OuW w base p v L U' vl vu w':=by
 obtain⟨h1,h2,h3,h4,h5,h6,h7,h8,h9⟩:=h;have hne:∀k,k<base→X k≠vu.ownBlock:=fun k hk e=>by have:=(h8.lt k e.symm).1;omega
 refine⟨h1.thenB (zad hg h3 (fun k hk=>(h8.lt k hk).1)) (by omega),h2,nT h3 hg.size,zaf hg h4 (hne _ (by omega)),zaf hg h5 (hne _ (by omega)),zaf hg h6 (hne _ (by omega)),h7.grown hg ?_,ho,h9⟩
 cases e:vl.ownBlock with
 | none=>exact .inl rfl
 | some j=>exact .inr (fun e2=>h9 j e e2.symm)
theorem zji {W:V} {b:Nat} (h:W.heap[b]?=X (M (lac p v vl vu) 101 (0,0))) (u:J):(W.setCell ⟨b,10,I⟩ u).heap[b]?=X (M (lac p v u vu) 101 (0,0)):=by
 simp [World.setCell,Array.getElem?_modify,h,lac]
theorem zjj {W:V} {b:Nat} (h:W.heap[b]?=X (M (lac p v vl vu) 101 (0,0))) (u:J):(W.setCell ⟨b,11,I⟩ u).heap[b]?=X (M (lac p v vl u) 101 (0,0)):=by
 simp [World.setCell,Array.getElem?_modify,h,lac]
theorem OuW.setLow (h:OuW w base p v L U vl vu W) (hg:W.grownBy w' vl.ownBlock) (ho:OwnC 33 2 w' base vl' (L'.map pc)) (hl:vl'.ownBlock=vl.ownBlock∨vl'.ownBlock=X W.heap.size) :
  OuW w base p v L' U vl' vu (w'.setCell ⟨w.heap.size+1+1,10,I⟩ vl'):=by
 obtain⟨h1,h2,h3,h4,h5,h6,h7,h8,h9⟩:=h;have hne:∀k,k<base→X k≠vl.ownBlock:=fun k hk e=>by have:=(h7.lt k e.symm).1;omega
 have hB:=zad hg h3 (fun k hk=>(h7.lt k hk).1);have hnb:∀{u:J} {cs:List (List J)} {W:V},OwnC 33 2 W base u cs→u.ownBlock≠X (w.heap.size+1+1):=fun ho e=>by have:=(ho.lt _ e).1;omega
 have h8':OwnC 33 2 w' base vu (U.map pc):=h8.grown hg (by
  cases e:vu.ownBlock with
  | none=>exact .inl rfl
  | some j=>exact .inr (fun e2=>h9 j e2.symm e))
 refine⟨(h1.thenB hB (by omega)).set (by dsimp only;omega) _,h2,by rw [qcZ];exact nT h3 hg.size,?_,?_,zji (zaf hg h6 (hne _ (by omega))) _,ho.setOther (hnb ho) _,h8'.setOther (hnb h8') _,?_⟩
 ·rw [bS _ _ _ _ (by dsimp only;omega)];exact zaf hg h4 (hne _ (by omega))
 ·rw [bS _ _ _ _ (by dsimp only;omega)];exact zaf hg h5 (hne _ (by omega))
 ·intro j hj e
  rcases hl with h|h
  ·exact h9 j (h▸hj) e
  ·rw [h]at hj
   cases hj
   have:=(h8.lt _ e).2;omega
theorem OuW.setUp (h:OuW w base p v L U vl vu W) (hg:W.grownBy w' vu.ownBlock) (ho:OwnC 33 2 w' base vu' (U'.map pc)) (hl:vu'.ownBlock=vu.ownBlock∨vu'.ownBlock=X W.heap.size) :
  OuW w base p v L U' vl vu' (w'.setCell ⟨w.heap.size+1+1,11,I⟩ vu'):=by
 obtain⟨h1,h2,h3,h4,h5,h6,h7,h8,h9⟩:=h;have hne:∀k,k<base→X k≠vu.ownBlock:=fun k hk e=>by have:=(h8.lt k e.symm).1;omega
 have hB:=zad hg h3 (fun k hk=>(h8.lt k hk).1);have hnb:∀{u:J} {cs:List (List J)} {W:V},OwnC 33 2 W base u cs→u.ownBlock≠X (w.heap.size+1+1):=fun ho e=>by have:=(ho.lt _ e).1;omega
 have h7':OwnC 33 2 w' base vl (L.map pc):=h7.grown hg (by
  cases e:vl.ownBlock with
  | none=>exact .inl rfl
  | some j=>exact .inr (fun e2=>h9 j e e2.symm))
 refine⟨(h1.thenB hB (by omega)).set (by dsimp only;omega) _,h2,by rw [qcZ];exact nT h3 hg.size,?_,?_,zjj (zaf hg h6 (hne _ (by omega))) _,h7'.setOther (hnb h7') _,ho.setOther (hnb ho) _,?_⟩
 ·rw [bS _ _ _ _ (by dsimp only;omega)];exact zaf hg h4 (hne _ (by omega))
 ·rw [bS _ _ _ _ (by dsimp only;omega)];exact zaf hg h5 (hne _ (by omega))
 ·intro j hj e
  rcases hl with h|h
  ·exact h9 j hj (h▸e)
  ·rw [h]at e
   cases e
   have:=(h7.lt _ hj).2;omega
theorem zmX {W:V} {b:Nat} (h:W.heap[b]?=X (M (lac p v vl vu) 101 (0,0))) :
  W.cell? ⟨b,0,I⟩=X (.string p.name)∧W.cell? ⟨b,1,I⟩=X v∧W.cell? ⟨b,2,I⟩=X (O Y p.depth)∧W.cell? ⟨b,3,I⟩=X (O Y p.density)∧W.cell? ⟨b,4,I⟩=X (O Y p.gx)∧W.cell? ⟨b,5,I⟩=X (O Y p.gz) ∧
  W.cell? ⟨b,6,I⟩=X (O Y p.way)∧W.cell? ⟨b,7,I⟩=X (O Y p.ax)∧W.cell? ⟨b,8,I⟩=X (O Y p.az)∧W.cell? ⟨b,9,I⟩=X (O .u8 p.skin)∧W.cell? ⟨b,10,I⟩=X vl∧W.cell? ⟨b,11,I⟩=X vu∧(∀i,W.frozen? ⟨b,i,I⟩=false)∧b<W.heap.size:=
 ⟨qcB h (i:=0) rfl,qcB h (i:=1) rfl,qcB h (i:=2) rfl,qcB h (i:=3) rfl,qcB h (i:=4) rfl,qcB h (i:=5) rfl,qcB h (i:=6) rfl,qcB h (i:=7) rfl,qcB h (i:=8) rfl,qcB h (i:=9) rfl,qcB h (i:=10) rfl,qcB h (i:=11) rfl,qfB h,zaa h⟩
theorem zmW {W:V} {b:Nat} (h:W.heap[b]?=X (M la0 101 (0,0))) :
  W.cell? ⟨b,0,I⟩=X (.string ⟨#[]⟩)∧W.cell? ⟨b,1,I⟩=X (Z I 0 0)∧W.cell? ⟨b,2,I⟩=X (O Y 0)∧W.cell? ⟨b,3,I⟩=X (O Y 0)∧W.cell? ⟨b,4,I⟩=X (O Y 0)∧W.cell? ⟨b,5,I⟩=X (O Y 0) ∧
  W.cell? ⟨b,6,I⟩=X (O Y 0)∧W.cell? ⟨b,7,I⟩=X (O Y 0)∧W.cell? ⟨b,8,I⟩=X (O Y 0)∧W.cell? ⟨b,9,I⟩=X (O .u8 0)∧W.cell? ⟨b,10,I⟩=X (Z I 0 0)∧W.cell? ⟨b,11,I⟩=X (Z I 0 0)∧(∀i,W.frozen? ⟨b,i,I⟩=false)∧b<W.heap.size:=
 ⟨qcB h (i:=0) rfl,qcB h (i:=1) rfl,qcB h (i:=2) rfl,qcB h (i:=3) rfl,qcB h (i:=4) rfl,qcB h (i:=5) rfl,qcB h (i:=6) rfl,qcB h (i:=7) rfl,qcB h (i:=8) rfl,qcB h (i:=9) rfl,qcB h (i:=10) rfl,qcB h (i:=11) rfl,qfB h,zaa h⟩
def OuX (w:V) (base:Nat) (p:Pl) (v:J) (L U:List (Int×Int)) (vl vu cl cu:J) (W:V):Prop:=
 Ext w W∧w.heap.size+1+1<base∧base≤W.heap.size∧W.heap[w.heap.size+1]?=X (M la0 101 (0,0)) ∧
 W.heap[w.heap.size+1+1]?=X (M (lac p v cl cu) 101 (0,0))∧OwnC 33 2 W base vl (L.map pc)∧OwnC 33 2 W base vu (U.map pc)∧∀j,vl.ownBlock=X j→vu.ownBlock≠X j
theorem OuW.toX (h:OuW w base p v L U vl vu W):OuX w base p v L U vl vu vl vu W:=by
 obtain⟨h1,h2,h3,h4,h5,h6,h7,h8,h9⟩:=h;exact⟨h1,h2,h3,h5,h6,h7,h8,h9⟩
theorem OuX.ext {cl cu:J} (h:OuX w base p v L U vl vu cl cu W) (k:Ext W w'):OuX w base p v L U vl vu cl cu w':=by
 obtain⟨h1,h2,h3,h5,h6,h7,h8,h9⟩:=h;exact⟨h1.trans k,h2,nT h3 k.size,k.heapS h5,k.heapS h6,h7.ext k,h8.ext k,h9⟩
theorem OuX.low {cl cu:J} (h:OuX w base p v L U vl vu cl cu W) (hg:W.grownBy w' vl.ownBlock) (ho:OwnC 33 2 w' base vl' (L'.map pc)) (he:vl'.ownBlock=vl.ownBlock):OuX w base p v L' U vl' vu cl cu w':=by
 obtain⟨h1,h2,h3,h5,h6,h7,h8,h9⟩:=h;have hne:∀k,k<base→X k≠vl.ownBlock:=fun k hk e=>by have:=(h7.lt k e.symm).1;omega
 refine⟨h1.thenB (zad hg h3 (fun k hk=>(h7.lt k hk).1)) (by omega),h2,nT h3 hg.size,zaf hg h5 (hne _ (by omega)),zaf hg h6 (hne _ (by omega)),ho,h8.grown hg ?_,fun j hj=>h9 j (he▸hj)⟩
 cases e:vu.ownBlock with
 | none=>exact .inl rfl
 | some j=>exact .inr (fun e2=>h9 j e2.symm e)
theorem OuX.up {cl cu:J} (h:OuX w base p v L U vl vu cl cu W) (hg:W.grownBy w' vu.ownBlock) (ho:OwnC 33 2 w' base vu' (U'.map pc)) (he:vu'.ownBlock=vu.ownBlock):OuX w base p v L U' vl vu' cl cu w':=by
 obtain⟨h1,h2,h3,h5,h6,h7,h8,h9⟩:=h;have hne:∀k,k<base→X k≠vu.ownBlock:=fun k hk e=>by have:=(h8.lt k e.symm).1;omega
 refine⟨h1.thenB (zad hg h3 (fun k hk=>(h8.lt k hk).1)) (by omega),h2,nT h3 hg.size,zaf hg h5 (hne _ (by omega)),zaf hg h6 (hne _ (by omega)),h7.grown hg ?_,ho,fun j hj=>he▸h9 j hj⟩
 cases e:vl.ownBlock with
 | none=>exact .inl rfl
 | some j=>exact .inr (fun e2=>h9 j e e2.symm)
end
end
section
open Go.RowKit Go.Shelf
theorem zha (W:V) (x z x' z':Int) (T:TypeId):∀(j:Nat) u,[pc (x,z),pc (x',z')].flatten[j]?=X u→(W.alloc (M #[O Y x,O Y z,O Y x',O Y z'] T)).cell? ((⟨W.heap.size,0,I⟩:Addr).add j)=X u:=by
 intro j u hj
 match j,hj with
 | 0,hj=>simp [pc]at hj;subst hj;simp [Addr.add]
 | 1,hj=>simp [pc]at hj;subst hj;simp [Addr.add]
 | 2,hj=>simp [pc]at hj;subst hj;simp [Addr.add]
 | 3,hj=>simp [pc]at hj;subst hj;simp [Addr.add]
 | j+4,hj=>simp [pc]at hj
theorem zjP (x z x' z':Int):∀u∈[pc (x,z),pc (x',z')].flatten,u.oneCell'=true:=zfM (ps:=[(x,z),(x',z')])
def OuS (w:V) (base:Nat) (p:Pl) (v:J) (cs:List (Int×Int)) (vcs:J) (g:Nat) (t18:J) (W:V):Prop:=
 ∃(i:Nat) (vl vu:J),i≤cs.length∧t18=O Y i∧g=cs.length-i∧OuW w base p v (lowRaw cs i) (upRaw cs i) vl vu W∧OwnC 33 2 W (w.heap.size+1+1+1) vcs (cs.map pc)
theorem ziF {W w':V} {base s:Nat} {vcs v:J} {cs:List (List J)} {L:List (List J)} (h:OwnC 33 2 W (s+1) vcs cs) (hb:∀j,vcs.ownBlock=X j→j<base) (ho:OwnC 33 2 W base v L) (hg:W.grownBy w' v.ownBlock) (k:Nat) (u:J) :
  OwnC 33 2 (w'.setCell ⟨s,k,I⟩ u) (s+1) vcs cs:=by
 refine OwnC.setOther (h.grown hg ?_) (fun e=>?_) _
 ·cases e:vcs.ownBlock with
  | none=>exact .inl rfl
  | some j=>exact .inr (fun e2=>by have:=(ho.lt _ e2.symm).1;have:=hb _ e;omega)
 ·have:=(h.lt _ e).1
  dsimp only at this;omega
theorem zfK (w:V) (p:Pl) (v:J) (h:IsPts w v p.shape) (hok:placedOk p=true) (hg:Gw w) (hL:lowRaw (cornersP p) (cornersP p).length≠[]) (hU:upRaw (cornersP p) (cornersP p).length≠[]) :
  Calls Tryz.prog 46 #[.agg (plc p v)] w (RetO w p v):=by
 obtain⟨a,c,rfl⟩:=h.form;obtain⟨hcb,hc3,hc12⟩:=zbj hok;have hcn:=fun W (hW:Ext w W)=>zdz W p _ (h.ext' hW) hok (hg.ext hW)
 obtain⟨cs,hcs⟩:=gX (cornersP p);obtain⟨pn,hpn⟩:=gX p.shape.length;rw [hpn]at hcn h ⊢;obtain⟨R,hR⟩:=gX (RetO w p (Z a pn c));rw [hR];have HR:=hd9 hR;rw [hcs]at hcn hcb hc3 hc12 hL hU;obtain⟨n,hn⟩:=gX cs.length;rw [hn]at hc3 hc12 hL hU;have Hcn:=hd9 hcn;have Hcb:=hd9 hcb;have Hn:=hd9 hn;have Hcs:=hd9 hcs;have HL:=hd9 hL;have HU:=hd9 hU;clear hcn hcb hn hcs hR hok hpn h hL hU;obtain⟨P,hP⟩:=gX p;obtain⟨nm,ps,d,de,gx,gz,wy,ax,az,sk⟩:=p;unfold plc at *;dsimp only at *;have HP:=hd9 hP;clear hP;go_enter Tryz.func46,Tryz.ntmps46
 go_wp2_with(((go_at_call 80;(with_reducible refine(Hcn.out _ ?_).mono ?_);exact eA;rintro e w1 ⟨v1,rfl,ho1,hx1⟩;obtain⟨a1,n1,c1,rfl⟩:=ho1.form3;obtain rfl:n=n1:=(by have h9:=ho1.len;rw [lL,Hn.out]at h9;exact h9.symm);obtain⟨⟨hc1,hf1⟩,z1_0,z1_1,z1_2⟩:=cK3 w hx1)))
 obtain⟨base,hbase⟩:=gX w1.heap.size;have hxA:Ext w w1:=eA;have hb2:w.heap.size+1+1<base:=by rw [←hbase];exact z1_2
 have hcbk:∀j,(Value.slice a1 n c1).ownBlock=X j→j<base:=fun j hj=>by rw [←hbase];exact(ho1.lt j hj).2
 have K0:=hx1.heapS (k:=w.heap.size) (by rw [zae,if_neg (by simp;omega),zae,if_neg (by simp)];exact qhA _ _ _ rfl);have K1:=hx1.heapS (k:=w.heap.size+1) (by rw [zae,if_neg (by simp)];exact qhA _ _ _ (by simp));have K2:=hx1.heapS (k:=w.heap.size+1+1) (qhA _ _ _ (by simp))
 have hO0:OuW w base ⟨nm,ps,d,de,gx,gz,wy,ax,az,sk⟩ (Z a pn c) [] [] (Z I 0 0) (Z I 0 0) w1:=
  ⟨hxA,hb2,by omega,K0,K1,K2,OwnC.nil _ _ _ _,OwnC.nil _ _ _ _,fun j hj=>by cases hj⟩
 have ho1':OwnC 33 2 w1 (w.heap.size+1+1+1) (Z a1 n c1) (cs.map pc):=ho1.mono (by simp);have HO0:=hd9 hO0;have Ho1:=hd9 ho1';have Hcbk:=hd9 hcbk;clear K0 K1 K2 hO0 ho1' hcbk ho1 hx1 hc1 hf1 z1_0 z1_1 z1_2 hbase hxA
 go_loopg [18] n (OuS w base ⟨nm,ps,d,de,gx,gz,wy,ax,az,sk⟩ (Z a pn c) cs (Z a1 n c1))
 case atStart=>exact⟨0,_,_,by omega,rfl,by rw [Hn.out];rfl,HO0.out,Ho1.out⟩
 case round =>
  clear HO0 Ho1;obtain⟨i,vl,vu,hi,rfl,rfl,hO,hcsr⟩:=hrel;rw [Hn.out]at hi;have hO':=hO;obtain⟨h1,_,h3,h4,h5,h6,h7,h8,h9⟩:=hO';obtain⟨la,ln,lc,rfl⟩:=h7.form3;obtain⟨ua,un,uc,rfl⟩:=h8.form3;have c10:=qcB h6 (i:=10) (u:=Z la ln lc) rfl;have c11:=qcB h6 (i:=11) (u:=Z ua un uc) rfl;have z6:=zaa h6;have z6a:w.heap.size+1+1<wr.heap.size+1:=by omega
  have z6b:w.heap.size+1+1<wr.heap.size+1+1:=by omega
  have HO:=hd9 hO;have Hcsr:=hd9 hcsr;have hrl:=zjS cs i;clear h1 h3 h4 h5 h6 h7 h8 h9 hO hcsr
  by_cases hlt:i<n
  ·obtain⟨⟨x,z⟩,hq⟩:∃q,cs[i]?=X q:=⟨cs[i]'(by rw [Hn.out];omega),by simp⟩
   obtain⟨k,hk⟩:=gX ((i+1) % n);have hkn:k<n:=by rw [←hk];exact Nat.mod_lt _ (by omega)
   obtain⟨⟨x',z'⟩,hq'⟩:∃q,cs[k]?=X q:=⟨cs[k]'(by rw [Hn.out];omega),by simp⟩;have hm:((i:Int)+1) % (n:Int)=(k:Int):=by rw [←hk];simp
   obtain⟨b,o,rfl,hb,d0,d1⟩:=(Hcsr.out.pts).at' hq;obtain⟨b',o',e',hb',d2,d3⟩:=(Hcsr.out.pts).at' hq'
   cases e'
   have hE:edgeLow cs i=(if x<x' then [(x,z),(x',z')]else [])∧edgeUp cs i=(if x'<x then [(x,z),(x',z')]else []):=by
    unfold edgeLow edgeUp;rw [Hn.out,hk,gD,gD,hq,hq'];exact⟨rfl,rfl⟩
   have HE:=hd9 hE;have p1:(0:Int)≤(i:Int):=by omega
   have p2:(i:Int)<(n:Int):=by omega
   have p3:(0:Int)≤(k:Int):=by omega
   have p4:(k:Int)<(n:Int):=by omega
   have p5:(0:Int)<(n:Int):=by omega
   have hle2:((lowRaw cs i).map pc).length+2≤100000000000∧((upRaw cs i).map pc).length+2≤100000000000:=by rw [lL,lL];omega
   have Hle2:=hd9 hle2;clear hq hq' hE hk hle2 hrl
   by_cases t1:x<x'
   ·have hE1:=HE.out.1
    have hE2:=HE.out.2;rw [if_pos t1]at hE1;rw [if_neg (by omega)]at hE2;have HE1:=hd9 hE1;have HE2:=hd9 hE2;clear hE1 hE2;have X5:Ext wr (((wr.alloc (M #[O Y x,O Y z] 33)).alloc (M #[O Y x',O Y z'] 33)).alloc (M #[O Y x,O Y z,O Y x',O Y z'] 33)):=(((eR wr).alloc _).alloc _).alloc _;have hO5:=HO.out.ext X5;have hw5:=hO5.2.2.2.2.2.2;have hbs5:=hO5.2.2.1;have H65:=hd9 hO5.2.2.2.2.2.1;have HO5:=hd9 hO5;have Hw5:=hd9 hw5.1;clear hO5 hw5
    go_wp2_with(at_builtin;refine appC (T:=33) (t:=99) (z:=.agg #[O Y 0,O Y 0]) (k:=2) (bytes:=16) (base:=base) (v:=Z la ln lc) (cs:=(lowRaw cs i).map pc) (m:=2) (c:=2) (ad:=⟨wr.heap.size+1+1,0,I⟩) zbD rfl (by decide) (by decide) Tryz.underlying99 rfl _ _ rfl rfl Hw5.out rfl [pc (x,z),pc (x',z')] rfl (by simp [pc]) (by simpa using zha ((wr.alloc (M #[O Y x,O Y z] 33)).alloc (M #[O Y x',O Y z'] 33)) x z x' z' 33) (zjP _ _ _ _) Hle2.out.1 hbs5 ?_;intro v' w5 hown5 hgrow hlie;obtain⟨a5,n5,c5,rfl⟩:=hown5.form3;have E5:=zaf hgrow H65.out (fun e=>by have:=(Hw5.out.lt _ e.symm).1;omega);have c9:=qcB E5 (i:=10) (u:=Z la ln lc) rfl;have f9:=qfB E5 10)
    go_roundg (n-(i+1))
    case measure=>have:=Hn.out;omega
    case rel =>
     refine⟨i+1,Z a5 n5 c5,Z ua un uc,by have:=Hn.out;omega,by go_num,by rw [Hn.out],?_,ziF (Hcsr.out.ext X5) Hcbk.out Hw5.out hgrow _ _⟩;rw [zbH,zcf,HE1.out,HE2.out,List.append_nil];exact OuW.setLow HO5.out hgrow (by rw [List.map_append];exact hown5) hlie
   ·by_cases t2:x'<x
    ·have k1:x'≤x:=by omega
     have hE1:=HE.out.1;have hE2:=HE.out.2;rw [if_neg t1]at hE1;rw [if_pos t2]at hE2;have HE1:=hd9 hE1;have HE2:=hd9 hE2;clear t1 hE1 hE2;have X5:Ext wr (((wr.alloc (M #[O Y x,O Y z] 33)).alloc (M #[O Y x',O Y z'] 33)).alloc (M #[O Y x,O Y z,O Y x',O Y z'] 33)):=(((eR wr).alloc _).alloc _).alloc _;have hO5:=HO.out.ext X5;have hw5:=hO5.2.2.2.2.2.2;have hbs5:=hO5.2.2.1;have H65:=hd9 hO5.2.2.2.2.2.1;have HO5:=hd9 hO5;have Hw5:=hd9 hw5.2.1;clear hO5 hw5
     go_wp2_with(at_builtin;refine appC (T:=33) (t:=99) (z:=.agg #[O Y 0,O Y 0]) (k:=2) (bytes:=16) (base:=base) (v:=Z ua un uc) (cs:=(upRaw cs i).map pc) (m:=2) (c:=2) (ad:=⟨wr.heap.size+1+1,0,I⟩) zbD rfl (by decide) (by decide) Tryz.underlying99 rfl _ _ rfl rfl Hw5.out rfl [pc (x,z),pc (x',z')] rfl (by simp [pc]) (by simpa using zha ((wr.alloc (M #[O Y x,O Y z] 33)).alloc (M #[O Y x',O Y z'] 33)) x z x' z' 33) (zjP _ _ _ _) Hle2.out.2 hbs5 ?_;intro v' w5 hown5 hgrow hlie;obtain⟨a5,n5,c5,rfl⟩:=hown5.form3;have E5:=zaf hgrow H65.out (fun e=>by have:=(Hw5.out.lt _ e.symm).1;omega);have c9:=qcB E5 (i:=11) (u:=Z ua un uc) rfl;have f9:=qfB E5 11)
     go_roundg (n-(i+1))
     case measure=>have:=Hn.out;omega
     case rel =>
      refine⟨i+1,Z la ln lc,Z a5 n5 c5,by have:=Hn.out;omega,by go_num,by rw [Hn.out],?_,ziF (Hcsr.out.ext X5) Hcbk.out Hw5.out hgrow _ _⟩;rw [zbH,zcf,HE1.out,HE2.out,List.append_nil];exact OuW.setUp HO5.out hgrow (by rw [List.map_append];exact hown5) hlie
    ·have k1:x'≤x:=by omega
     have k2:x≤x':=by omega
     have hE1:=HE.out.1;have hE2:=HE.out.2;rw [if_neg t1]at hE1;rw [if_neg t2]at hE2;have HE1:=hd9 hE1;have HE2:=hd9 hE2;clear t1 t2 hE1 hE2;go_wp2
     go_roundg (n-(i+1))
     case measure=>have:=Hn.out;omega
     case rel =>
      refine⟨i+1,Z la ln lc,Z ua un uc,by have:=Hn.out;omega,by go_num,by rw [Hn.out],?_,Hcsr.out.ext eA⟩;rw [zbH,zcf,HE1.out,HE2.out,List.append_nil,List.append_nil];exact HO.out.ext eA
  ·obtain rfl:i=n:=by omega
   have hO:=HO.out;have hrb:=zfR Hcb.out (i:=i) (by rw [Hn.out];exact nE _);obtain⟨LR,hLR⟩:=gX (lowRaw cs i);obtain⟨UR,hUR⟩:=gX (upRaw cs i);rw [hLR,hUR]at hrl hO hrb;have hLn:LR≠[]:=by rw [←hLR];exact HL.out
   have hUn:UR≠[]:=by rw [←hUR];exact HU.out
   have HLR:=hd9 hLR;have HUR:=hd9 hUR;clear hLR hUR HO;obtain⟨lg,rfl,_,_⟩:=OwnC.blk hO.2.2.2.2.2.2.1 (by rw [lL];exact List.length_pos_iff.2 hLn);obtain⟨ug,rfl,_,_⟩:=OwnC.blk hO.2.2.2.2.2.2.2.1 (by rw [lL];exact List.length_pos_iff.2 hUn);have hs1:=zdh wr base lg ln lc LR hO.2.2.2.2.2.2.1 (fun q hq=>⟨(hrb.1 q hq).1.mono (by decide),(hrb.1 q hq).2.mono (by decide)⟩) (by omega);have hs2:=fun(W:V) (ho:OwnC 33 2 W base (Z (X ⟨ug,0,I⟩) un uc) (UR.map pc))=>zdh W base ug un uc UR ho (fun q hq=>⟨(hrb.2 q hq).1.mono (by decide),(hrb.2 q hq).2.mono (by decide)⟩) (by omega)
   have hlL:(sortX LR).length≤1000000:=by rw [(zaX LR).length_eq];omega
   have hlU:(sortX UR).length≤1000000:=by rw [(zaX UR).length_eq];omega
   have hk1:=fun(W:V) (ho:OwnC 33 2 W base (Z (X ⟨lg,0,I⟩) ln lc) ((sortX LR).map pc))=>zdx W base (Z (X ⟨lg,0,I⟩) ln lc) (sortX LR) ho hlL
   have hk2:=fun(W:V) (ho:OwnC 33 2 W base (Z (X ⟨ug,0,I⟩) un uc) ((sortX UR).map pc))=>zdx W base (Z (X ⟨ug,0,I⟩) un uc) (sortX UR) ho hlU
   have HO:=hd9 hO;have Hs1:=hd9 hs1;have Hs2:=hd9 hs2;have Hk1:=hd9 hk1;have Hk2:=hd9 hk2;clear hO hs1 hs2 hk1 hk2 hrb hrl hlL hlU hLn hUn Hcsr Hcb
   go_wp2_with fail
   (with_reducible refine Hs1.out.mono ?_);rintro e w2 ⟨rfl,ho2,hg2⟩
   have HO2:=hd9 (OuW.low HO.out hg2 ho2);have c21:=qcB HO2.out.2.2.2.2.2.1 (i:=11) (u:=Z (X ⟨ug,0,I⟩) un uc) rfl;have z22:=zaa HO2.out.2.2.2.2.2.1;clear ho2 hg2
   go_wp2_with fail
   have hu2:=HO2.out.2.2.2.2.2.2.2.1
   (with_reducible refine(Hs2.out w2 hu2).mono ?_);rintro e w3 ⟨rfl,ho3,hg3⟩
   have HO3:=hd9 (OuW.up HO2.out hg3 ho3);clear ho3 hg3
   go_wp2_with fail
   have hX3:=HO3.out.toX;have c30:=qcB hX3.2.2.2.2.1 (i:=10) (u:=Z (X ⟨lg,0,I⟩) ln lc) rfl;have c31:=qcB hX3.2.2.2.2.1 (i:=11) (u:=Z (X ⟨ug,0,I⟩) un uc) rfl;have y3:=zaa hX3.2.2.2.2.1;have HX3:=hd9 hX3;have HK1:=hd9 (HX3.out.ext (eR w3).drew).2.2.2.2.2.1;clear hX3
   first|(go_region_with (first|((go_at_call 101;(with_reducible refine(Hk1.out _ HK1.out).mono ?_);rintro e w4 ⟨v4,rfl,ho4,hg4,he4⟩;obtain⟨a4,n4,c4,rfl⟩:=ho4.form3;have HX4:=hd9 (OuX.low (HX3.out.ext (eR w3).drew) hg4 ho4 he4);have c41:=qcB HX4.out.2.2.2.2.1 (i:=11) (u:=Z (X ⟨ug,0,I⟩) un uc) rfl;have y4:=zaa HX4.out.2.2.2.2.1;have hu4:=HX4.out.2.2.2.2.2.2.1))|((go_at_call 101;(with_reducible refine(Hk2.out _ hu4).mono ?_);rintro e w5 ⟨v5,rfl,ho5,hg5,he5⟩;obtain⟨a5,n5,c5,rfl⟩:=ho5.form3;have HX5:=hd9 (OuX.up HX4.out hg5 ho5 he5);obtain⟨b0,b1,b2,b3,b4,b5,b6,b7,b8,b9,b10,b11,bf,y5⟩:=zmX HX5.out.2.2.2.2.1;obtain⟨d0,d1,d2,d3,d4,d5,d6,d7,d8,d9,d10,d11,df,y6⟩:=zmW HX5.out.2.2.2.1;dsimp only at b0 b2 b3 b4 b5 b6 b7 b8 b9))))|fail
   all_goals go_wp2
   all_goals
    have hn1:¬w.heap.size+1+1=w.heap.size+1:=by omega
    have hn2:¬w.heap.size+1=w.heap.size+1+1:=by omega
    refine bR (v:=.agg (lac ⟨nm,ps,d,de,gx,gz,wy,ax,az,sk⟩ (Z a pn c) (Z a4 n4 c4) (Z a5 n5 c5))) (by simp [results,Tryz.results46,go_sem,lac,d0,d1,d2,d3,d4,d5,d6,d7,d8,d9,d10,d11,hn1,hn2]) rfl ?_;rw [←HR.out];obtain⟨f1,f2,f3,f5,f6,f7,f8,f9⟩:=HX5.out;have hne:∀{u:J} {L:List (List J)},OwnC 33 2 w5 base u L→u.ownBlock≠X (w.heap.size+1+1)∧u.ownBlock≠X (w.heap.size+1):=fun ho=>⟨fun e=>by have:=(ho.lt _ e).1;omega,fun e=>by have:=(ho.lt _ e).1;omega⟩
    obtain⟨m1,m2⟩:=hne f7;obtain⟨m3,m4⟩:=hne f8;refine⟨Z a4 n4 c4,Z a5 n5 c5,rfl,?_,?_,?_⟩
    ·unfold lowP2 lineOf
     rw [Hcs.out,Hn.out,HLR.out];refine OwnC.pts (base:=base) ?_
     repeat(refine OwnC.setOther ?_ (by first|exact m1|exact m2) _)
     exact f7
    ·unfold upP2 lineOf
     rw [Hcs.out,Hn.out,HUR.out];refine OwnC.pts (base:=base) ?_
     repeat(refine OwnC.setOther ?_ (by first|exact m3|exact m4) _)
     exact f8
    ·repeat(refine Ext.set ?_ (by dsimp only;omega) _)
     exact f1
def FlatX (cs:List (Int×Int)):Prop:=∃c,∀q∈cs,q.1=c
def FlatZ (cs:List (Int×Int)):Prop:=∃c,∀q∈cs,q.2=c
theorem zft {ps:List (Int×Int)} (h:convexB ps=true):¬FlatX ps∧¬FlatZ ps:=by
 have hl:=zck h;unfold convexB at h;rw [Bool.and_eq_true,List.all_eq_true]at h;have h0:=h.2 0 (List.mem_range.2 (by omega));unfold cvxR cvx1 at h0;rw [Bool.and_eq_true,decide_eq_true_eq]at h0;have h1:=h0.1
 have mem:∀i:Int,atc ps i∈ps:=fun i=>by
  obtain⟨j,_,_,hj⟩:=zge (ps:=ps) (i:=i) (by omega);exact lM hj
 refine⟨fun⟨c,hc⟩=>?_,fun⟨c,hc⟩=>?_⟩
 ·unfold trn at h1
  rw [hc _ (mem _),hc _ (mem _),hc _ (mem _)]at h1;simp at h1
 ·unfold trn at h1
  rw [hc _ (mem _),hc _ (mem _),hc _ (mem _)]at h1;simp at h1
theorem zlq {way:Int} {ps:List (Int×Int)} (h:FlatX (ps.map (wayP way))):FlatX ps∨FlatZ ps:=by
 obtain⟨c,hc⟩:=h;have hq:∀q∈ps,(wayP way q).1=c:=fun q hq=>hc _ (List.mem_map.2 ⟨q,hq,rfl⟩)
 unfold wayP at hq;dsimp only at hq
 by_cases h3:3<way
 ·simp only [if_pos h3]at hq
  by_cases m0:way % 4=0
  ·simp only [if_pos m0]at hq;exact .inl ⟨-c,fun q h=>by have:=hq q h;omega⟩
  ·simp only [if_neg m0]at hq
   by_cases m1:way % 4=1
   ·simp only [if_pos m1]at hq;exact .inr ⟨-c,fun q h=>by have:=hq q h;omega⟩
   ·simp only [if_neg m1]at hq
    by_cases m2:way % 4=2
    ·simp only [if_pos m2]at hq;exact .inl ⟨c,fun q h=>by have:=hq q h;omega⟩
    ·simp only [if_neg m2]at hq;exact .inr ⟨c,fun q h=>by have:=hq q h;omega⟩
 ·simp only [if_neg h3]at hq
  by_cases m0:way % 4=0
  ·simp only [if_pos m0]at hq;exact .inl ⟨c,fun q h=>by have:=hq q h;omega⟩
  ·simp only [if_neg m0]at hq
   by_cases m1:way % 4=1
   ·simp only [if_pos m1]at hq;exact .inr ⟨-c,fun q h=>by have:=hq q h;omega⟩
   ·simp only [if_neg m1]at hq
    by_cases m2:way % 4=2
    ·simp only [if_pos m2]at hq;exact .inl ⟨-c,fun q h=>by have:=hq q h;omega⟩
    ·simp only [if_neg m2]at hq;exact .inr ⟨c,fun q h=>by have:=hq q h;omega⟩
theorem zfX {ps:List (Int×Int)} (h:FlatX (settledP ps)):FlatX ps:=by
 obtain⟨c,hc⟩:=h;refine⟨c+(leastP ps).1,fun q hq=>?_⟩
 have hm:q∈ps.drop (idxN ps)++ps.take (idxN ps):=by
  rw [←List.take_append_drop (idxN ps) ps]at hq
  rcases List.mem_append.1 hq with h|h
  ·exact List.mem_append_right _ h
  ·exact List.mem_append_left _ h
 have:=hc _ (List.mem_map.2 ⟨q,hm,rfl⟩);dsimp only at this;omega
theorem zc8 {p:Pl} (h:placedOk p=true):¬FlatX (cornersP p):=by
 intro ⟨c,hc⟩;have hs:=(zbw h).1
 have hcv:convexB p.shape=true:=by
  unfold stoneB at hs;simp only [Bool.and_eq_true]at hs
  cases hcc:convexB p.shape
  ·have:=hs.1.1.1.2;rw [zbJ hcc]at this;cases this
  ·rfl
 obtain⟨n1,n2⟩:=zft hcv
 have h1:FlatX (turnedP p.way p.shape):=⟨c-p.ax,fun q hq=>by
  have:=hc _ (List.mem_map.2 ⟨q,hq,rfl⟩);dsimp only at this;omega⟩
 unfold turnedP at h1;have h2:=zfX h1
 have h3:FlatX (p.shape.map (wayP p.way)):=by
  split at h2
  ·obtain⟨c,hc⟩:=h2
   exact⟨c,fun q hq=>hc q (List.mem_reverse.2 hq)⟩
  ·exact h2
 rcases zlq h3 with h|h
 ·exact n1 h
 ·exact n2 h
theorem zlw {xs:List Int} {n:Nat} (hn:xs.length=n) (h:∀i,i<n→xs.getD ((i+1) % n) 0≤xs.getD i 0):∀x∈xs,x=xs.getD 0 0:=by
 have down:∀i,i<n→xs.getD i 0≤xs.getD 0 0:=by
  intro i
  induction i with
  | zero=>intro _;exact Int.le_refl _
  | succ i ih =>
   intro hi;have h1:=ih (by omega);have h2:=h i (by omega);rw [Nat.mod_eq_of_lt hi]at h2;omega
 have up:∀k i,i+k=n-1→i<n→xs.getD (n-1) 0≤xs.getD i 0:=by
  intro k
  induction k with
  | zero=>intro i hi hn;rw [show i=n-1 by omega];exact Int.le_refl _
  | succ k ih =>
   intro i hi hin;have h1:=ih (i+1) (by omega) (by omega);have h2:=h i hin;rw [Nat.mod_eq_of_lt (by omega)]at h2;omega
 intro x hx;obtain⟨i,hi,rfl⟩:=List.mem_iff_getElem.1 hx;have e:xs.getD i 0=xs[i]:=by rw [gD,gE hi];rfl
 have h1:=down i (by omega);have h2:=up (n-1-i) i (by omega) (by omega);have h3:=h (n-1) (by omega);rw [show n-1+1=n by omega,Nat.mod_self]at h3;omega
theorem zg3 (cs:List (Int×Int)) (i:Nat):(cs.map (·.1)).getD i 0=(cs.getD i (0,0)).1:=by
 rw [gD,gD,lP]
 cases cs[i]?<;>rfl
theorem zlD {p:Pl} (h:placedOk p=true):lowRaw (cornersP p) (cornersP p).length≠[]:=by
 intro e
 apply zc8 h
 have hz:∀i,i<(cornersP p).length→¬((cornersP p).getD i (0,0)).1<((cornersP p).getD ((i+1) % (cornersP p).length) (0,0)).1:=by
  intro i hi hlt;unfold lowRaw at e;rw [List.flatMap_eq_nil_iff]at e;have:=e i (List.mem_range.2 hi);unfold edgeLow at this;rw [if_pos hlt]at this
  cases this
 refine⟨_,fun q hq=>zlw (xs:=(cornersP p).map (·.1)) (n:=(cornersP p).length) (by simp) (fun i hi=>?_) q.1 (List.mem_map.2 ⟨q,hq,rfl⟩)⟩;rw [zg3,zg3];have:=hz i hi;omega
theorem zni {p:Pl} (h:placedOk p=true):upRaw (cornersP p) (cornersP p).length≠[]:=by
 intro e
 apply zc8 h
 have hz:∀i,i<(cornersP p).length→¬((cornersP p).getD ((i+1) % (cornersP p).length) (0,0)).1<((cornersP p).getD i (0,0)).1:=by
  intro i hi hlt;unfold upRaw at e;rw [List.flatMap_eq_nil_iff]at e;have:=e i (List.mem_range.2 hi);unfold edgeUp at this;rw [if_pos hlt]at this
  cases this
 refine⟨-(((cornersP p).map (fun q=>-q.1)).getD 0 0),fun q hq=>?_⟩
 have hg:∀i,((cornersP p).map (fun q=>-q.1)).getD i 0 = -((cornersP p).getD i (0,0)).1:=fun i=>by
  rw [gD,gD,lP]
  cases (cornersP p)[i]?<;>rfl
 have:=zlw (xs:=(cornersP p).map (fun q=>-q.1)) (n:=(cornersP p).length) (by simp) (fun i hi=>by rw [hg,hg];have:=hz i hi;omega) (-q.1) (List.mem_map.2 ⟨q,hq,rfl⟩);omega
theorem zaV (w:V) (p:Pl) (v:J) (h:IsPts w v p.shape) (hok:placedOk p=true) (hg:Gw w):Calls Tryz.prog 46 #[.agg (plc p v)] w (RetO w p v):=
 zfK w p v h hok hg (zlD hok) (zni hok)
theorem za3 {α:Type} [DecidableEq α]:∀{xs:List α} {x:α},x∈compactP xs→x∈xs
 | [],_,h=>h
 | [a],_,h=>h
 | a::b::r,x,h=>by
  rw [compactP]at h
  split at h
  ·exact mC _ (za3 h)
  ·rcases List.mem_cons.1 h with rfl|h
   ·simp
   ·exact mC _ (za3 h)
theorem zdv {α:Type} [DecidableEq α]:∀{xs:List α},xs≠[]→compactP xs≠[]
 | [],h=>absurd rfl h
 | [a],_=>by simp [compactP]
 | a::b::r,_=>by
  rw [compactP]
  split
  ·exact zdv (by simp)
  ·simp
theorem zc7 {α:Type} [DecidableEq α]:∀(xs:List α),(compactP xs).length≤xs.length
 | []=>by simp [compactP]
 | [a]=>by simp [compactP]
 | a::b::r=>by
  rw [compactP];have:=zc7 (b::r)
  split
  ·simp at this ⊢;omega
  ·simp at this ⊢;omega
theorem zfH {k:Int} {raw:List (Int×Int)} (h:raw≠[]) (hb:PBd k raw) (hl:raw.length≤24):lineOf raw≠[]∧PBd k (lineOf raw)∧(lineOf raw).length≤24:=by
 unfold lineOf;have hp:=zaX raw;refine⟨zdv (fun e=>h ?_),fun q hq=>hb q (hp.mem_iff.1 (za3 hq)),?_⟩
 ·rw [e]at hp;exact hp.symm.eq_nil
 ·have:=zc7 (sortX raw)
  rw [hp.length_eq]at this;omega
def LnOk (l:List (Int×Int)):Prop:=l≠[]∧PBd 104000 l∧l.length≤64
theorem zam {p:Pl} (h:placedOk p=true):LnOk (lowP2 p)∧LnOk (upP2 p):=by
 obtain⟨hb,h3,h12⟩:=zbj h;have hr:=zfR hb (nE _);have hl:=zjS (cornersP p) (cornersP p).length;have h1:=zfH (zlD h) hr.1 (by omega);have h2:=zfH (zni h) hr.2 (by omega);exact⟨⟨h1.1,h1.2.1,nT h1.2.2 (by omega)⟩,⟨h2.1,h2.2.1,nT h2.2.2 (by omega)⟩⟩
def RetCo (w:V) (p:Pl) (e:Ending) (w':V):Prop:=(placedOk p=false∧e = .returned (.tuple #[Z I 0 0,O Y 2])∧Ext w w')∨(placedOk p=true∧∃v,e = .returned (.tuple #[v,O Y 0])∧IsPts w' v (cornersP p)∧Ext w w')
theorem zlT (w:V) (p:Pl) (v:J) (h:IsPts w v p.shape) (hk:0≤p.skin) (hg:Gw w):Calls Tryz.prog 24 #[.agg (plc p v)] w (RetCo w p):=by
 obtain⟨a,c,rfl⟩:=h.form;obtain⟨n,hn⟩:=gX p.shape.length;have hck:=fun W (hW:Ext w W)=>zaz W p _ (h.ext' hW) hk
 have hcn:=fun W (hW:Ext w W) (hok:placedOk p=true)=>zdz W p _ (h.ext' hW) hok (hg.ext hW)
 rw [hn]at hck hcn ⊢;obtain⟨R,hR⟩:=gX (RetCo w p);rw [hR];have HR:=hd9 hR;clear hR h hn
 cases hok:placedOk p
 ·rw [hok]at hck
  have Hck:=hd9 hck;have Hok:=hd9 hok;clear hck hcn hok;obtain⟨nm,ps,d,de,gx,gz,wy,ax,az,sk⟩:=p;unfold plc at *;dsimp only at *;go_enter Tryz.func24,Tryz.ntmps24
  go_wp2_with(((go_at_call 45;(with_reducible refine(Hck.out _ ?_).mono ?_);exact eA;rintro e w1 ⟨rfl,hx1⟩;obtain⟨⟨hc1,hf1⟩,z1_0⟩:=cK1 w hx1)))
  rw [←HR.out];exact .inl ⟨Hok.out,rfl,eA⟩
 ·rw [hok]at hck
  have hcn':=fun W hW=>hcn W hW hok
  have Hck:=hd9 hck;have Hcn:=hd9 hcn';have Hok:=hd9 hok;clear hck hcn hcn' hok;obtain⟨nm,ps,d,de,gx,gz,wy,ax,az,sk⟩:=p;unfold plc at *;dsimp only at *;go_enter Tryz.func24,Tryz.ntmps24
  go_wp2_with(first|((go_at_call 45;(with_reducible refine(Hck.out _ ?_).mono ?_);exact eA;rintro e w1 ⟨rfl,hx1⟩;obtain⟨⟨hc1,hf1⟩,z1_0⟩:=cK1 w hx1))|((go_at_call 80;(with_reducible refine(Hcn.out _ ?_).mono ?_);exact eA;rintro e w2 ⟨v2,rfl,ho2,hx2⟩;obtain⟨a2,n2,c2,rfl⟩:=ho2.form3)))
  rw [←HR.out];exact .inr ⟨Hok.out,_,rfl,ho2.pts,eA⟩
def wpN (_:Nat) (p:Prop):Prop:=p
theorem sN (k:Nat) {p:Prop} (h:wpN k p):p:=h
theorem oN {k:Nat} {p:Prop} (h:p):wpN k p:=h
def NQ (Q:Exit→Act→V→Prop):Exit→Act→V→Prop
 | .normal,a,w=>Q .normal a w
 | _,_,_=>False
theorem zgG {Q:Exit→Act→V→Prop}:¬LetsOut (NQ Q):=fun⟨_,_,h⟩=>h
def noDefer (ops:Array Oper):Bool:=ops.all fun o=>match o.op with | .defer _=>false|_=>true
theorem zeE {ops:Array Oper} (h:noDefer ops=true) {i:Nat} {o:Oper} (ho:ops[i]?=X o):∀c,o.op ≠ .defer c:=by
 intro c hc;unfold noDefer at h;rw [Array.all_eq_true]at h;obtain⟨hi,rfl⟩:=Array.getElem?_eq_some_iff.1 ho;have:=h i hi;rw [hc]at this
 cases this
theorem zjW {l n:Nat} {P:Program} {row:String} {args:Array J} {w:V} {R:J→V→Prop} (h:Rows P row args w R):RowsIn (Fence.wide.inRound l) n P row args w R:=by
 intro c cs _;obtain⟨v,w',r,s⟩:=h c cs;exact⟨v,w',r,stepsIn_wide.2 s⟩
theorem zhY {l n:Nat} {P:Program} {o:Oper} {a:Act} {w:V} {K:Act→V→Prop} {Q:Exit→Act→V→Prop} (hd:∀c,o.op ≠ .defer c) (h:o.wp P a w K (NQ Q)):o.wpIn (Fence.wide.inRound l) n P a w K Q:=by
 refine⟨fun _ _=>trivial,?_⟩;rw [Oper.semAt_plain _ _ _ hd];unfold Oper.wp at h
 generalize (execOp a.eval o).run P w=r at *
 have hdep:(Fence.wide.inRound l).depth.isSome=true→1≤n:=fun h=>by cases h
 cases r with
 | ok x w' =>
  cases x with
  | value u=>exact h
  | skip=>exact h
  | defer d=>exact h
  | enter f args =>
   refine⟨hdep,CallsIn.inRound l (callsIn_wide.2 (cM h fun e w'' he=>?_))⟩
   cases e with
   | returned u=>exact he
   | panicked c=>exact he.elim
   | outgrown=>exact(zgG he).elim
  | row row args=>exact⟨hdep,zjW h⟩
  | _=>exact h.elim
 | halt x w' =>
  cases x<;>first|exact h.elim|skip
theorem zcq {l n:Nat} {P:Program} {md:Region.Mode} {ops:Array Oper} {Q:Exit→Act→V→Prop} (hd:noDefer ops=true):∀(fuel:Nat) (listed:Array Bool) (a:Act) (w:V),
  wpAny P md ops (NQ Q) fuel listed a w→wpAnyIn (Fence.wide.inRound l) n P md ops Q fuel listed a w
 | 0,_,_,_,h=>h
 | fuel+1,listed,a,w,h=>by
  refine⟨h.1,fun i hi=>?_⟩;have h1:=h.2 i hi;unfold wpOp at h1;unfold wpOpIn
  cases ho:ops[i]? with
  | none=>rw [ho]at h1;exact zcq hd fuel _ a w h1
  | some o =>
   rw [ho]at h1;dsimp only at h1 ⊢
   split
   ·rename_i hw
    rw [if_pos hw]at h1
    rcases h1 with h1|⟨_,h1⟩
    ·exact Oper.wpIn_mono (fun a' w' h2=>zcq hd fuel _ a' w' h2) (zhY (zeE hd ho) h1)
    ·exact(zgG h1).elim
   ·rename_i hw
    rw [if_neg hw]at h1;exact⟨fun _ _=>trivial,zcq hd fuel _ _ w h1⟩
theorem zap {l n:Nat} {P:Program} {ops:Array Oper} {Q:Exit→Act→V→Prop} {S:V→Prop} {id:Nat} {a:Act} {w:V} (hm:P.follows .mixedOrders=true) (hd:noDefer ops=true) (hS:S w.drew)
  (h:S w.drew→wpAnyH P .any ops (NQ Q) S ops.size (Array.replicate ops.size false) a w.drew):(Code.region id ops true).wpIn (Fence.wide.inRound l) n P Q a w:=
 wpIn_region_any hm (zcq hd _ _ _ _ (wpAny_of_held _ _ _ _ (h hS)))
end
end Go.Proofs.YtodpfeaihohpjaaGreatDoor.Cop
