/- Part 16 of 44: contracts of what the law calls. -/
import Derived.Test.YteipgejmhfpkaaaGreatDoorCopA12
import Derived.Test.YteipgejmhfpkaaaGreatDoorCopA14
import Derived.Test.YteipgejmhfpkaaaGreatDoorCopA09
import Derived.Test.YteipgejmhfpkaaaGreatDoorCopA11
set_option maxRecDepth 1000000
set_option maxHeartbeats 16000000
set_option linter.unusedSimpArgs false
set_option linter.unusedVariables false
namespace Go.Proofs.YteipgejmhfpkaaaGreatDoor.Cop
open Go.RowKit Go.Shelf
def cornersP (p:Pl):List (Int×Int):=(turnedP p.way p.shape).map fun q=>(q.1+p.ax,q.2+p.az)
theorem settledP_len {ps:List (Int×Int)} (h:ps≠[]):(settledP ps).length=ps.length:=by
 have:=(idxN_lt h).2;unfold settledP;simp;omega
theorem turnedP_len {way:Int} {ps:List (Int×Int)} (h:ps≠[]):(turnedP way ps).length=ps.length:=by
 unfold turnedP
 split
 ·rw [settledP_len (by simpa using h)];simp
 ·rw [settledP_len (by simpa using h)];simp
theorem settledP_bd {k:Int} {ps:List (Int×Int)} (h:PBd k ps) (h0:ps≠[]):PBd (k+k) (settledP ps):=fun p hp=>by
 obtain⟨q,hq,rfl⟩:=List.mem_map.1 hp;have h1:=h.rot (idxN ps) q hq;have h2:=leastP_bd h h0;exact⟨h1.1.sub h2.1,h1.2.sub h2.2⟩
theorem turnedP_bd {k way:Int} {ps:List (Int×Int)} (h:PBd k ps) (h0:ps≠[]):PBd (k+k) (turnedP way ps):=by
 unfold turnedP
 split
 ·exact settledP_bd h.way.rev (by simpa using h0)
 ·exact settledP_bd h.way (by simpa using h0)
theorem placedOk_parts {p:Pl} (h:placedOk p=true):stoneB (namedB p.name) p.shape p.depth p.density p.gx p.gz=true∧0≤p.way∧p.way≤7∧Bd 100000 p.ax∧Bd 100000 p.az∧1≤p.skin∧p.skin≤3:=by
 unfold placedOk pfarB wthn at h;simp at h;unfold Bd;refine⟨h.1,?_⟩;omega
theorem cornersP_bd {p:Pl} (h:placedOk p=true):PBd 104000 (cornersP p)∧3≤(cornersP p).length∧(cornersP p).length≤12:=by
 obtain⟨hs,_,_,hx,hz,_⟩:=placedOk_parts h;obtain⟨h3,h12,hb,_⟩:=stoneB_parts hs;have hne:p.shape≠[]:=by intro e;rw [e]at h3;simp at h3
 refine⟨fun q hq=>?_,?_,?_⟩
 ·obtain⟨r,hr,rfl⟩:=List.mem_map.1 hq
  have:=turnedP_bd (way:=p.way) hb hne r hr;unfold Bd at *;dsimp only;omega
 ·unfold cornersP;rw [lL,turnedP_len hne];exact h3
 ·unfold cornersP;rw [lL,turnedP_len hne];exact h12
theorem corners_any (w:World) (p:Pl) (v:Value) (h:IsPts w v p.shape) (hok:placedOk p=true) (hg:Gw w) :
  Calls Tryz.prog 91 #[.agg (plc p v)] w (RetC 42 2 w ((cornersP p).map pc)):=by
 obtain⟨a,c,rfl⟩:=h.form;obtain⟨hB,hw0,hw7,hax,haz,_,_⟩:=placedOk_parts hok;obtain⟨h3,h12,hbd,_⟩:=stoneB_parts hB;obtain⟨nm,ps,d,de,gx,gz,wy,ax,az,sk⟩:=p;dsimp only at h hB hw0 hw7 hax haz h3 h12 hbd;have hne:ps≠[]:=by intro e;rw [e]at h3;simp at h3
 have hct:=fun W (hW:Ext w W)=>turned_any W nm _ ps d de gx gz wy (h.ext' hW) hB hw0 hw7 (hg.ext hW)
 obtain⟨qs,hqs⟩:∃q,turnedP wy ps=q:=⟨_,rfl⟩;have hql:=turnedP_len (way:=wy) hne;have hqb:=turnedP_bd (way:=wy) hbd hne;have hR:(cornersP ⟨nm,ps,d,de,gx,gz,wy,ax,az,sk⟩)=qs.map fun q=>(q.1+ax,q.2+az):=by unfold cornersP;rw [←hqs]
 rw [hR];rw [hqs]at hct hql hqb;obtain⟨g2,hg2⟩:∃g,wayP wy (gx,gz)=g:=⟨_,rfl⟩;rw [hg2]at hct;obtain⟨n,hn⟩:∃n,ps.length=n:=⟨_,rfl⟩;rw [hn]at h hct hql h3 h12 ⊢;obtain⟨RL,hRL⟩:∃RL,(qs.map (fun q=>(q.1+ax,q.2+az))).map pc=RL:=⟨_,rfl⟩;rw [hRL];have HRL:=hd9 hRL;clear hRL;have Hct:=hd9 hct;have Hqb:=hd9 hqb;have Hql:=hd9 hql;obtain⟨hax1,hax2⟩:=hax;obtain⟨haz1,haz2⟩:=haz;clear hct hqb hql hqs hg2 hn hB hbd hne hR hok;unfold plc;dsimp only;go_enter Tryz.func91,Tryz.ntmps91
 go_wp2_with(first|((go_at_call 137;(with_reducible refine(Hct.out _ ?_).mono ?_);exact eA;rintro e w1 ⟨v1,rfl,ho1,hx1⟩;obtain⟨a1,n1,c1,rfl⟩:=ho1.form3;obtain rfl:n=n1:=(by have h9:=ho1.len;rw [lL,Hql.out]at h9;exact h9.symm);obtain⟨hc1,hf1⟩:=hx1.cells;(try simp only [qcD,qfD,qdZ]at hc1 hf1);have z1_0:=hx1.lt (n:=w.heap.size) (by go_simp)))|((at_make;refine mkC (T:=42) (t:=30) (z:=.agg #[.int .i64 0,.int .i64 0]) (k:=2) (bytes:=16) (zs:=[.int .i64 0,.int .i64 0]) info_pt rfl rfl (by decide) Tryz.underlying30 rfl _ _ rfl _ rfl rfl rfl (by omega) ?_;intro cs hown1;simp only [wZ]at hown1))|((refine cpC (T:=42) (t:=30) (k:=2) (g:=w1.heap.size+1) (n:=n) (cap:=n) (sl:=.slice a1 n c1) (os:=List.replicate n [.int .i64 0,.int .i64 0]) (by kernel_rfl) Tryz.underlying30 rfl _ _ rfl rfl rfl hown1 (qs.map pc) pc_len (ho1.rd.ext ?_) ?_ ?_ pc_one ?_;exact eA;(simp [Hql.out]);(simp [Hql.out];omega);intro w3 hown3 hg3)))
 obtain⟨g4,hg4⟩:∃g4,w1.heap.size+1=g4:=⟨_,rfl⟩;rw [hg4]at hown3 hg3 ⊢;have hxA:Ext w w1:=eA;have hsA:=hxA.size;have P0:=hx1.heapS (qhA _ _ _ rfl);have P1:=((Ext.refl w1).alloc (.cells #[.string nm,.slice a1 n c1,.int .i64 d,.int .i64 de,.int .i64 g2.1,.int .i64 g2.2] 44)).heapS P0;have P2:=((Ext.refl _).alloc (.cells cs 42)).heapS P1;have zw:w.heap.size<w1.heap.size:=heap_lt P0;have P3:=grown_heapS hg3 P2 (fun e=>by cases e;omega);have X3:Ext w w3:=((hxA.alloc _).alloc _).thenB (grown_below hg3 (by simp;omega) (fun k hk=>by cases hk;exact Nat.le_refl _)) (by omega:w.heap.size≤g4);have hs3:=hg3.size;simp only [wZ]at hs3;have hown4:=hown3.mono (b':=g4) (by simp [hg4]);have hs4:g4≤w3.heap.size:=by omega
 have hwg:w.heap.size<g4:=by omega
 have P3h:=hd9 P3;clear hc1 hf1 z1_0 ho1 hx1 hown1 hown3 hg3 P0 P1 P2 P3 hg4 hs3 hsA zw
 go_loopg [25] n (fun g t25 W=>MpS w g4 (fun q=>(q.1+ax,q.2+az)) qs (.slice (some ⟨g4,0,none⟩) n n) g t25 W∧W.heap[w.heap.size]?=some (.cells #[.string nm,.slice a n c,.int .i64 d,.int .i64 de,.int .i64 gx,.int .i64 gz,.int .i64 wy,.int .i64 ax,.int .i64 az,.int .u8 sk] 46 (0,0)))
 case atStart=>exact⟨⟨0,by omega,rfl,by rw [Hql.out];rfl,X3,hs4,by simpa using hown4⟩,P3h.out⟩
 case round =>
  clear X3 hs4 hown4 P3h;obtain⟨⟨i,hi,rfl,rfl,hx,hsz,hown⟩,hP⟩:=hrel;rw [Hql.out]at hi
  by_cases hlt:i<n
  ·obtain⟨⟨qx,qz⟩,hq⟩:∃q,qs[i]?=some q:=⟨qs[i]'(by rw [Hql.out];omega),by simp⟩
   have hpm:=mp_get (f:=fun q=>(q.1+ax,q.2+az)) hq;have d0:=hown.cell (j:=0) hpm rfl;have d1:=hown.cell (j:=1) hpm rfl;simp only [Nat.add_zero]at d0;dsimp only at d0 d1;have f0:=hown.frozen;obtain⟨⟨b1,b2⟩,b3,b4⟩:=Hqb.out (qx,qz) (lM hq);have b1':(-4000:Int)≤qx:=by simpa using b1
   have b2':qx≤4000:=by simpa using b2
   have b3':(-4000:Int)≤qz:=by simpa using b3
   have b4':qz≤4000:=by simpa using b4
   have p7:=qcB hP (i:=7) (u:=.int .i64 ax) rfl;have p8:=qcB hP (i:=8) (u:=.int .i64 az) rfl;have hst:=fun(W:World) (h:OwnC 42 2 W g4 (.slice (some ⟨g4,0,none⟩) n n) (((qs.take i).map (fun q=>(q.1+ax,q.2+az))++qs.drop i).map pc))=>h.pair hpm (.int .i64 (qx+ax)) (.int .i64 (qz+az))
   rw [mp_set (f:=fun q=>(q.1+ax,q.2+az)) hq rfl _ rfl]at hst;have Hst:=hd9 hst;have Hown:=hd9 hown;have HP:=hd9 hP;have zg:=(hown.lt g4 rfl).2;have hne:¬g4=w.heap.size:=by omega
   have p1:(0:Int)≤(i:Int):=by omega
   have p2:(i:Int)<(n:Int):=by omega
   clear hst hpm hq hown hP b1 b2 b3 b4;go_wp2
   go_region_with fail
   all_goals go_wp2
   all_goals go_region_with fail
   all_goals go_wp2
   all_goals
    go_roundg (n-(i+1))
    case measure=>have:=Hql.out;omega
    case rel =>
     refine⟨⟨i+1,by have:=Hql.out;omega,by go_num,by rw [Hql.out],eA,by simp only [qcZ,qdZ];exact hsz,?_⟩,?_⟩
     ·exact Hst.out _ Hown.out
     ·show ((wr.setCell _ _).setCell _ _).heap[_]?=_
      rw [Below.heap_setCell _ _ _ _ (by dsimp only;omega),Below.heap_setCell _ _ _ _ (by dsimp only;omega)];exact HP.out
  ·obtain rfl:i=n:=by omega
   have e:((qs.take i).map (fun q=>(q.1+ax,q.2+az))++qs.drop i)=qs.map (fun q=>(q.1+ax,q.2+az)):=by
    rw [lT (by rw [Hql.out];exact Nat.le_refl _),List.drop_of_length_le (by rw [Hql.out];exact Nat.le_refl _),List.append_nil]
   rw [e,HRL.out]at hown;go_wp2;go_ret;exact⟨_,rfl,hown.mono (by omega),hx⟩
def edgeLow (cs:List (Int×Int)) (i:Nat):List (Int×Int):=if (cs.getD i (0,0)).1<(cs.getD ((i+1) % cs.length) (0,0)).1 then [cs.getD i (0,0),cs.getD ((i+1) % cs.length) (0,0)]else []
def edgeUp (cs:List (Int×Int)) (i:Nat):List (Int×Int):=if (cs.getD ((i+1) % cs.length) (0,0)).1<(cs.getD i (0,0)).1 then [cs.getD i (0,0),cs.getD ((i+1) % cs.length) (0,0)]else []
def lowRaw (cs:List (Int×Int)) (i:Nat):List (Int×Int):=(List.range i).flatMap (edgeLow cs)
def upRaw (cs:List (Int×Int)) (i:Nat):List (Int×Int):=(List.range i).flatMap (edgeUp cs)
theorem lowRaw_succ (cs:List (Int×Int)) (i:Nat):lowRaw cs (i+1)=lowRaw cs i++edgeLow cs i:=by simp [lowRaw,List.range_succ]
theorem upRaw_succ (cs:List (Int×Int)) (i:Nat):upRaw cs (i+1)=upRaw cs i++edgeUp cs i:=by simp [upRaw,List.range_succ]
theorem edge_mem {cs:List (Int×Int)} {i:Nat} (h:i<cs.length):∀q∈edgeLow cs i++edgeUp cs i,q∈cs:=by
 have h1:cs.getD i (0,0)∈cs:=by rw [List.getD_eq_getElem?_getD,List.getElem?_eq_getElem h];exact List.getElem_mem h
 have h2:cs.getD ((i+1) % cs.length) (0,0)∈cs:=by
  have:(i+1) % cs.length<cs.length:=Nat.mod_lt _ (by omega);rw [List.getD_eq_getElem?_getD,List.getElem?_eq_getElem this];exact List.getElem_mem this
 intro q hq;unfold edgeLow edgeUp at hq
 rcases List.mem_append.1 hq with hq|hq
 ·split at hq
  ·simp at hq;rcases hq with rfl|rfl
   ·simpa using h1
   ·simpa using h2
  ·simp at hq
 ·split at hq
  ·simp at hq;rcases hq with rfl|rfl
   ·simpa using h1
   ·simpa using h2
  ·simp at hq
theorem raw_bd {k:Int} {cs:List (Int×Int)} (h:PBd k cs) {i:Nat} (hi:i≤cs.length):PBd k (lowRaw cs i)∧PBd k (upRaw cs i):=by
 refine⟨fun q hq=>?_,fun q hq=>?_⟩
 ·obtain⟨j,hj,hq⟩:=List.mem_flatMap.1 hq
  exact h q (edge_mem (by have:=List.mem_range.1 hj;omega) q (List.mem_append_left _ hq))
 ·obtain⟨j,hj,hq⟩:=List.mem_flatMap.1 hq
  exact h q (edge_mem (by have:=List.mem_range.1 hj;omega) q (List.mem_append_right _ hq))
theorem raw_len (cs:List (Int×Int)) (i:Nat):(lowRaw cs i).length≤2*i∧(upRaw cs i).length≤2*i:=by
 induction i with
 | zero=>exact⟨by simp [lowRaw],by simp [upRaw]⟩
 | succ i ih =>
  rw [lowRaw_succ,upRaw_succ,List.length_append,List.length_append];have h1:(edgeLow cs i).length≤2:=by unfold edgeLow;split<;>simp
  have h2:(edgeUp cs i).length≤2:=by unfold edgeUp;split<;>simp
  omega
def lineOf (raw:List (Int×Int)):List (Int×Int):=compactP (sortX raw)
def lowP2 (p:Pl):List (Int×Int):=lineOf (lowRaw (cornersP p) (cornersP p).length)
def upP2 (p:Pl):List (Int×Int):=lineOf (upRaw (cornersP p) (cornersP p).length)
def lac (p:Pl) (v vl vu:Value):Array Value:=#[.string p.name,v,.int .i64 p.depth,.int .i64 p.density,.int .i64 p.gx,.int .i64 p.gz,.int .i64 p.way,.int .i64 p.ax,.int .i64 p.az,.int .u8 p.skin,vl,vu]
def la0:Array Value:=#[.string ⟨#[]⟩,.slice none 0 0,.int .i64 0,.int .i64 0,.int .i64 0,.int .i64 0,.int .i64 0,.int .i64 0,.int .i64 0,.int .u8 0,.slice none 0 0,.slice none 0 0]
def RetO (w:World) (p:Pl) (v:Value) (e:Ending) (w':World):Prop:=∃vl vu,e = .returned (.agg (lac p v vl vu))∧IsPts w' vl (lowP2 p)∧IsPts w' vu (upP2 p)∧Ext w w'
def OuW (w:World) (base:Nat) (p:Pl) (v:Value) (L U:List (Int×Int)) (vl vu:Value) (W:World):Prop:=
 Ext w W∧w.heap.size+1+1<base∧base≤W.heap.size∧W.heap[w.heap.size]?=some (.cells (plc p v) 46 (0,0))∧W.heap[w.heap.size+1]?=some (.cells la0 145 (0,0)) ∧
 W.heap[w.heap.size+1+1]?=some (.cells (lac p v vl vu) 145 (0,0))∧OwnC 42 2 W base vl (L.map pc)∧OwnC 42 2 W base vu (U.map pc)∧∀j,vl.ownBlock=some j→vu.ownBlock≠some j
section
variable {w W w':World} {base:Nat} {p:Pl} {v vl vu vl' vu':Value} {L U L' U':List (Int×Int)}
theorem OuW.ext (h:OuW w base p v L U vl vu W) (k:Ext W w'):OuW w base p v L U vl vu w':=by
 obtain⟨h1,h2,h3,h4,h5,h6,h7,h8,h9⟩:=h;exact⟨h1.trans k,h2,Nat.le_trans h3 k.size,k.heapS h4,k.heapS h5,k.heapS h6,h7.ext k,h8.ext k,h9⟩
theorem OuW.low (h:OuW w base p v L U vl vu W) (hg:W.grownBy w' vl.ownBlock) (ho:OwnC 42 2 w' base vl (L'.map pc)):OuW w base p v L' U vl vu w':=by
 obtain⟨h1,h2,h3,h4,h5,h6,h7,h8,h9⟩:=h;have hne:∀k,k<base→some k≠vl.ownBlock:=fun k hk e=>by have:=(h7.lt k e.symm).1;omega
 refine⟨h1.thenB (grown_below hg h3 (fun k hk=>(h7.lt k hk).1)) (by omega),h2,Nat.le_trans h3 hg.size,grown_heapS hg h4 (hne _ (by omega)),grown_heapS hg h5 (hne _ (by omega)),grown_heapS hg h6 (hne _ (by omega)),ho,h8.grown hg ?_,h9⟩
 cases e:vu.ownBlock with
 | none=>exact .inl rfl
 | some j=>exact .inr (fun e2=>h9 j e2.symm e)
theorem OuW.up (h:OuW w base p v L U vl vu W) (hg:W.grownBy w' vu.ownBlock) (ho:OwnC 42 2 w' base vu (U'.map pc)):OuW w base p v L U' vl vu w':=by
 obtain⟨h1,h2,h3,h4,h5,h6,h7,h8,h9⟩:=h;have hne:∀k,k<base→some k≠vu.ownBlock:=fun k hk e=>by have:=(h8.lt k e.symm).1;omega
 refine⟨h1.thenB (grown_below hg h3 (fun k hk=>(h8.lt k hk).1)) (by omega),h2,Nat.le_trans h3 hg.size,grown_heapS hg h4 (hne _ (by omega)),grown_heapS hg h5 (hne _ (by omega)),grown_heapS hg h6 (hne _ (by omega)),h7.grown hg ?_,ho,h9⟩
 cases e:vl.ownBlock with
 | none=>exact .inl rfl
 | some j=>exact .inr (fun e2=>h9 j e e2.symm)
theorem lac_set10 {W:World} {b:Nat} (h:W.heap[b]?=some (.cells (lac p v vl vu) 145 (0,0))) (u:Value):(W.setCell ⟨b,10,none⟩ u).heap[b]?=some (.cells (lac p v u vu) 145 (0,0)):=by
 simp [World.setCell,Array.getElem?_modify,h,lac]
theorem lac_set11 {W:World} {b:Nat} (h:W.heap[b]?=some (.cells (lac p v vl vu) 145 (0,0))) (u:Value):(W.setCell ⟨b,11,none⟩ u).heap[b]?=some (.cells (lac p v vl u) 145 (0,0)):=by
 simp [World.setCell,Array.getElem?_modify,h,lac]
theorem OuW.setLow (h:OuW w base p v L U vl vu W) (hg:W.grownBy w' vl.ownBlock) (ho:OwnC 42 2 w' base vl' (L'.map pc)) (hl:vl'.ownBlock=vl.ownBlock∨vl'.ownBlock=some W.heap.size) :
  OuW w base p v L' U vl' vu (w'.setCell ⟨w.heap.size+1+1,10,none⟩ vl'):=by
 obtain⟨h1,h2,h3,h4,h5,h6,h7,h8,h9⟩:=h;have hne:∀k,k<base→some k≠vl.ownBlock:=fun k hk e=>by have:=(h7.lt k e.symm).1;omega
 have hB:=grown_below hg h3 (fun k hk=>(h7.lt k hk).1);have hnb:∀{u:Value} {cs:List (List Value)} {W:World},OwnC 42 2 W base u cs→u.ownBlock≠some (w.heap.size+1+1):=fun ho e=>by have:=(ho.lt _ e).1;omega
 have h8':OwnC 42 2 w' base vu (U.map pc):=h8.grown hg (by
  cases e:vu.ownBlock with
  | none=>exact .inl rfl
  | some j=>exact .inr (fun e2=>h9 j e2.symm e))
 refine⟨(h1.thenB hB (by omega)).set (by dsimp only;omega) _,h2,by rw [qcZ];exact Nat.le_trans h3 hg.size,?_,?_,lac_set10 (grown_heapS hg h6 (hne _ (by omega))) _,ho.setOther (hnb ho) _,h8'.setOther (hnb h8') _,?_⟩
 ·rw [Below.heap_setCell _ _ _ _ (by dsimp only;omega)];exact grown_heapS hg h4 (hne _ (by omega))
 ·rw [Below.heap_setCell _ _ _ _ (by dsimp only;omega)];exact grown_heapS hg h5 (hne _ (by omega))
 ·intro j hj e
  rcases hl with h|h
  ·exact h9 j (h▸hj) e
  ·rw [h]at hj
   cases hj
   have:=(h8.lt _ e).2;omega
theorem OuW.setUp (h:OuW w base p v L U vl vu W) (hg:W.grownBy w' vu.ownBlock) (ho:OwnC 42 2 w' base vu' (U'.map pc)) (hl:vu'.ownBlock=vu.ownBlock∨vu'.ownBlock=some W.heap.size) :
  OuW w base p v L U' vl vu' (w'.setCell ⟨w.heap.size+1+1,11,none⟩ vu'):=by
 obtain⟨h1,h2,h3,h4,h5,h6,h7,h8,h9⟩:=h;have hne:∀k,k<base→some k≠vu.ownBlock:=fun k hk e=>by have:=(h8.lt k e.symm).1;omega
 have hB:=grown_below hg h3 (fun k hk=>(h8.lt k hk).1);have hnb:∀{u:Value} {cs:List (List Value)} {W:World},OwnC 42 2 W base u cs→u.ownBlock≠some (w.heap.size+1+1):=fun ho e=>by have:=(ho.lt _ e).1;omega
 have h7':OwnC 42 2 w' base vl (L.map pc):=h7.grown hg (by
  cases e:vl.ownBlock with
  | none=>exact .inl rfl
  | some j=>exact .inr (fun e2=>h9 j e e2.symm))
 refine⟨(h1.thenB hB (by omega)).set (by dsimp only;omega) _,h2,by rw [qcZ];exact Nat.le_trans h3 hg.size,?_,?_,lac_set11 (grown_heapS hg h6 (hne _ (by omega))) _,h7'.setOther (hnb h7') _,ho.setOther (hnb ho) _,?_⟩
 ·rw [Below.heap_setCell _ _ _ _ (by dsimp only;omega)];exact grown_heapS hg h4 (hne _ (by omega))
 ·rw [Below.heap_setCell _ _ _ _ (by dsimp only;omega)];exact grown_heapS hg h5 (hne _ (by omega))
 ·intro j hj e
  rcases hl with h|h
  ·exact h9 j hj (h▸e)
  ·rw [h]at e
   cases e
   have:=(h7.lt _ hj).2;omega
theorem lac_rd {W:World} {b:Nat} (h:W.heap[b]?=some (.cells (lac p v vl vu) 145 (0,0))) :
  W.cell? ⟨b,0,none⟩=some (.string p.name)∧W.cell? ⟨b,1,none⟩=some v∧W.cell? ⟨b,2,none⟩=some (.int .i64 p.depth)∧W.cell? ⟨b,3,none⟩=some (.int .i64 p.density)∧W.cell? ⟨b,4,none⟩=some (.int .i64 p.gx)∧W.cell? ⟨b,5,none⟩=some (.int .i64 p.gz) ∧
  W.cell? ⟨b,6,none⟩=some (.int .i64 p.way)∧W.cell? ⟨b,7,none⟩=some (.int .i64 p.ax)∧W.cell? ⟨b,8,none⟩=some (.int .i64 p.az)∧W.cell? ⟨b,9,none⟩=some (.int .u8 p.skin)∧W.cell? ⟨b,10,none⟩=some vl∧W.cell? ⟨b,11,none⟩=some vu∧(∀i,W.frozen? ⟨b,i,none⟩=false)∧b<W.heap.size:=
 ⟨qcB h (i:=0) rfl,qcB h (i:=1) rfl,qcB h (i:=2) rfl,qcB h (i:=3) rfl,qcB h (i:=4) rfl,qcB h (i:=5) rfl,qcB h (i:=6) rfl,qcB h (i:=7) rfl,qcB h (i:=8) rfl,qcB h (i:=9) rfl,qcB h (i:=10) rfl,qcB h (i:=11) rfl,qfB h,heap_lt h⟩
theorem la0_rd {W:World} {b:Nat} (h:W.heap[b]?=some (.cells la0 145 (0,0))) :
  W.cell? ⟨b,0,none⟩=some (.string ⟨#[]⟩)∧W.cell? ⟨b,1,none⟩=some (.slice none 0 0)∧W.cell? ⟨b,2,none⟩=some (.int .i64 0)∧W.cell? ⟨b,3,none⟩=some (.int .i64 0)∧W.cell? ⟨b,4,none⟩=some (.int .i64 0)∧W.cell? ⟨b,5,none⟩=some (.int .i64 0) ∧
  W.cell? ⟨b,6,none⟩=some (.int .i64 0)∧W.cell? ⟨b,7,none⟩=some (.int .i64 0)∧W.cell? ⟨b,8,none⟩=some (.int .i64 0)∧W.cell? ⟨b,9,none⟩=some (.int .u8 0)∧W.cell? ⟨b,10,none⟩=some (.slice none 0 0)∧W.cell? ⟨b,11,none⟩=some (.slice none 0 0)∧(∀i,W.frozen? ⟨b,i,none⟩=false)∧b<W.heap.size:=
 ⟨qcB h (i:=0) rfl,qcB h (i:=1) rfl,qcB h (i:=2) rfl,qcB h (i:=3) rfl,qcB h (i:=4) rfl,qcB h (i:=5) rfl,qcB h (i:=6) rfl,qcB h (i:=7) rfl,qcB h (i:=8) rfl,qcB h (i:=9) rfl,qcB h (i:=10) rfl,qcB h (i:=11) rfl,qfB h,heap_lt h⟩
def OuX (w:World) (base:Nat) (p:Pl) (v:Value) (L U:List (Int×Int)) (vl vu cl cu:Value) (W:World):Prop:=
 Ext w W∧w.heap.size+1+1<base∧base≤W.heap.size∧W.heap[w.heap.size+1]?=some (.cells la0 145 (0,0)) ∧
 W.heap[w.heap.size+1+1]?=some (.cells (lac p v cl cu) 145 (0,0))∧OwnC 42 2 W base vl (L.map pc)∧OwnC 42 2 W base vu (U.map pc)∧∀j,vl.ownBlock=some j→vu.ownBlock≠some j
theorem OuW.toX (h:OuW w base p v L U vl vu W):OuX w base p v L U vl vu vl vu W:=by
 obtain⟨h1,h2,h3,h4,h5,h6,h7,h8,h9⟩:=h;exact⟨h1,h2,h3,h5,h6,h7,h8,h9⟩
theorem OuX.ext {cl cu:Value} (h:OuX w base p v L U vl vu cl cu W) (k:Ext W w'):OuX w base p v L U vl vu cl cu w':=by
 obtain⟨h1,h2,h3,h5,h6,h7,h8,h9⟩:=h;exact⟨h1.trans k,h2,Nat.le_trans h3 k.size,k.heapS h5,k.heapS h6,h7.ext k,h8.ext k,h9⟩
theorem OuX.low {cl cu:Value} (h:OuX w base p v L U vl vu cl cu W) (hg:W.grownBy w' vl.ownBlock) (ho:OwnC 42 2 w' base vl' (L'.map pc)) (he:vl'.ownBlock=vl.ownBlock):OuX w base p v L' U vl' vu cl cu w':=by
 obtain⟨h1,h2,h3,h5,h6,h7,h8,h9⟩:=h;have hne:∀k,k<base→some k≠vl.ownBlock:=fun k hk e=>by have:=(h7.lt k e.symm).1;omega
 refine⟨h1.thenB (grown_below hg h3 (fun k hk=>(h7.lt k hk).1)) (by omega),h2,Nat.le_trans h3 hg.size,grown_heapS hg h5 (hne _ (by omega)),grown_heapS hg h6 (hne _ (by omega)),ho,h8.grown hg ?_,fun j hj=>h9 j (he▸hj)⟩
 cases e:vu.ownBlock with
 | none=>exact .inl rfl
 | some j=>exact .inr (fun e2=>h9 j e2.symm e)
theorem OuX.up {cl cu:Value} (h:OuX w base p v L U vl vu cl cu W) (hg:W.grownBy w' vu.ownBlock) (ho:OwnC 42 2 w' base vu' (U'.map pc)) (he:vu'.ownBlock=vu.ownBlock):OuX w base p v L U' vl vu' cl cu w':=by
 obtain⟨h1,h2,h3,h5,h6,h7,h8,h9⟩:=h;have hne:∀k,k<base→some k≠vu.ownBlock:=fun k hk e=>by have:=(h8.lt k e.symm).1;omega
 refine⟨h1.thenB (grown_below hg h3 (fun k hk=>(h8.lt k hk).1)) (by omega),h2,Nat.le_trans h3 hg.size,grown_heapS hg h5 (hne _ (by omega)),grown_heapS hg h6 (hne _ (by omega)),h7.grown hg ?_,ho,fun j hj=>he▸h9 j hj⟩
 cases e:vl.ownBlock with
 | none=>exact .inl rfl
 | some j=>exact .inr (fun e2=>h9 j e e2.symm)
end
end Go.Proofs.YteipgejmhfpkaaaGreatDoor.Cop
