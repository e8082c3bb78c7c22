/- Part 9 of 44: contracts of what the law calls. -/
import Derived.Test.YteipgejmhfpkaaaGreatDoorCopA07
import Derived.Laws.StructEq
set_option maxRecDepth 1000000
set_option maxHeartbeats 16000000
set_option linter.unusedSimpArgs false
set_option linter.unusedVariables false
namespace Go.Proofs.YteipgejmhfpkaaaGreatDoor.Cop
open Go.RowKit Go.Shelf
def lowP (m q:Int×Int):Int×Int:=if lowC q m<0 then q else m
def minP:List (Int×Int)→Int×Int
 | []=>(0,0)
 | p::ps=>ps.foldl lowP p
theorem minP_snoc (ps:List (Int×Int)) (q:Int×Int) (h:ps≠[]):minP (ps++[q])=lowP (minP ps) q:=by
 cases ps with
 | nil=>exact absurd rfl h
 | cons p ps=>simp [minP]
def MnS (w:World) (ps:List (Int×Int)) (g:Nat) (t6:Value) (W:World):Prop:=
 ∃i:Nat,1≤i∧i≤ps.length∧t6 = .int .i64 i∧g=ps.length-i∧Ext w W∧W.heap[w.heap.size]?=some (.cells #[.int .i64 0,.int .i64 0] 42 (0,0)) ∧
  ∃x z,minP (ps.take i)=(x,z)∧W.heap[w.heap.size+1]?=some (.cells #[.int .i64 x,.int .i64 z] 42 (0,0))
theorem min_any (w:World) (v:Value) (ps:List (Int×Int)) (h:IsPts w v ps) (h0:0<ps.length) :
  Calls Tryz.prog 169 #[v,.func (.func 170) #[] #[]] w fun e w'=>e = .returned (.agg #[.int .i64 (minP ps).1,.int .i64 (minP ps).2])∧Ext w w':=by
 obtain⟨a,c,rfl⟩:=h.form;obtain⟨n,hn⟩:∃n,ps.length=n:=⟨_,rfl⟩;rw [hn]at h ⊢;have hle:=h.le;unfold maxLen at hle;have hn0:0<n:=by omega
 have hn1:(1:Int)≤(n:Int):=by omega
 have hnc:n≤9223372036854775807:=by omega
 obtain⟨⟨x0,z0⟩,hp⟩:∃p,ps[0]?=some p:=⟨ps[0],by simp⟩;obtain⟨b,o,rfl,hb,c0,c1⟩:=h.at' hp;simp only [Nat.zero_mul,Nat.add_zero]at c0 c1;have hb1:b<w.heap.size+1:=by omega
 have hm1:minP (ps.take 1)=(x0,z0):=by rw [take_add_one' _ _ _ hp];rfl
 have Hm1:=hd9 hm1;have Hn:=hd9 hn;clear hn hle hp h0 hm1;go_enter Tryz.func169,Tryz.ntmps169;go_wp2
 go_loopg [6] (n-1) (MnS w ps)
 case atStart =>
  exact⟨1,Nat.le_refl _,by rw [Hn.out];omega,rfl,by rw [Hn.out],eA,by rw [heap_get,if_neg (by simp)];exact qhA _ _ _ rfl,x0,z0,Hm1.out,qhA _ _ _ (by simp)⟩
 case round =>
  obtain⟨i,hi1,hi,rfl,rfl,hx,hR,x,z,hv,hO⟩:=hrel;rw [Hn.out]at hi;have r0:=qcB hR (i:=0) (u:=.int .i64 0) rfl;have r1:=qcB hR (i:=1) (u:=.int .i64 0) rfl;have rf0:=qfB hR 0;have rf1:=qfB hR 1;have o0:=qcB hO (i:=0) (u:=.int .i64 x) rfl;have o1:=qcB hO (i:=1) (u:=.int .i64 z) rfl;have of0:=qfB hO 0;have of1:=qfB hO 1;have zr:=heap_lt hR;have zo:=heap_lt hO;have HR:=hd9 hR;have HO:=hd9 hO;have HV:=hd9 hv;clear hR hO hv c0 c1
  by_cases hlt:i<n
  ·obtain⟨⟨qx,qz⟩,hq⟩:∃q,ps[i]?=some q:=⟨ps[i]'(by rw [Hn.out];omega),by simp [Hn.out,hlt]⟩
   obtain⟨b',o',e',hb',d0,d1⟩:=(h.ext' hx).at' hq
   cases e'
   have hne:ps.take i≠[]:=by
    intro e;have h2:(ps.take i).length=0:=by rw [e];rfl
    rw [List.length_take,Hn.out]at h2;omega
   have hst:minP (ps.take (i+1))=lowP (x,z) (qx,qz):=by rw [take_add_one' _ _ _ hq,minP_snoc _ _ hne,HV.out]
   obtain⟨C,hC⟩:∃C,lowC (qx,qz) (x,z)=C:=⟨_,rfl⟩;unfold lowP at hst;rw [hC]at hst;have Hst:=hd9 hst;have hlow:=fun W=>lower_any W qx qz x z
   rw [hC]at hlow;have Hlow:=hd9 hlow;clear hq hst hne hC hlow;have p1:(0:Int)≤(i:Int):=by omega
   have p2:(i:Int)<(n:Int):=by omega
   by_cases hc:C<0
   ·have hcb:decide (C<0)=true:=by simpa using hc
    have Hc:=hd9 hc;clear hc;go_wp2
    go_region_held3 (fun W=>W.cell? ⟨b,o+i*2,none⟩=some (.int .i64 qx)∧W.cell? ⟨b,o+i*2+1,none⟩=some (.int .i64 qz)∧W.cell? ⟨w.heap.size+1,0,none⟩=some (.int .i64 x)∧W.cell? ⟨w.heap.size+1,1,none⟩=some (.int .i64 z)) ((repeat' (with_reducible refine And.intro ?_ ?_))<;>(first|(go_simp;done)|(refine hx1.cellS ?_;go_simp;done))) (((go_at_call 170;(with_reducible refine(Hlow.out _).mono ?_);rintro e w1 ⟨rfl,hx1⟩;obtain⟨hc1,hf1⟩:=hx1.cells;(try simp only [qcD,qfD,qdZ]at hc1 hf1);have z1_0:=hx1.lt (n:=w.heap.size) (by go_simp);have z1_1:=hx1.lt (n:=w.heap.size+1) (by go_simp))))
    all_goals go_wp2
    all_goals
     go_roundg (n-(i+1))
     case measure=>have:=Hn.out;omega
     case rel =>
      have hx9:Ext wr w1:=(Ext.refl wr).drew.trans hx1;have HR1:=hx9.heapS HR.out;have HO1:=hx9.heapS HO.out;have hst:=Hst.out
      first
       | (rw [if_pos Hc.out]at hst;exact⟨i+1,by omega,by rw [Hn.out];omega,by go_num,by rw [Hn.out],eA,by rw [Below.heap_setCell _ _ _ _ (by dsimp only;omega),Below.heap_setCell _ _ _ _ (by dsimp only;omega)];exact HR1,qx,qz,hst,two_setCell HO1 _ _⟩)
       | (rw [if_neg (by have:=Hc.out;omega)]at hst;exact⟨i+1,by omega,by rw [Hn.out];omega,by go_num,by rw [Hn.out],eA,HR1,x,z,hst,HO1⟩)
   ·have hcb:decide (C<0)=false:=by simpa using hc
    have Hc:=hd9 hc;clear hc;go_wp2
    go_region_held3 (fun W=>W.cell? ⟨b,o+i*2,none⟩=some (.int .i64 qx)∧W.cell? ⟨b,o+i*2+1,none⟩=some (.int .i64 qz)∧W.cell? ⟨w.heap.size+1,0,none⟩=some (.int .i64 x)∧W.cell? ⟨w.heap.size+1,1,none⟩=some (.int .i64 z)) ((repeat' (with_reducible refine And.intro ?_ ?_))<;>(first|(go_simp;done)|(refine hx1.cellS ?_;go_simp;done))) (((go_at_call 170;(with_reducible refine(Hlow.out _).mono ?_);rintro e w1 ⟨rfl,hx1⟩;obtain⟨hc1,hf1⟩:=hx1.cells;(try simp only [qcD,qfD,qdZ]at hc1 hf1);have z1_0:=hx1.lt (n:=w.heap.size) (by go_simp);have z1_1:=hx1.lt (n:=w.heap.size+1) (by go_simp))))
    all_goals go_wp2
    all_goals
     go_roundg (n-(i+1))
     case measure=>have:=Hn.out;omega
     case rel =>
      have hx9:Ext wr w1:=(Ext.refl wr).drew.trans hx1;have HR1:=hx9.heapS HR.out;have HO1:=hx9.heapS HO.out;have hst:=Hst.out
      first
       | (rw [if_pos Hc.out]at hst;exact⟨i+1,by omega,by rw [Hn.out];omega,by go_num,by rw [Hn.out],eA,by rw [Below.heap_setCell _ _ _ _ (by dsimp only;omega),Below.heap_setCell _ _ _ _ (by dsimp only;omega)];exact HR1,qx,qz,hst,two_setCell HO1 _ _⟩)
       | (rw [if_neg (by have:=Hc.out;omega)]at hst;exact⟨i+1,by omega,by rw [Hn.out];omega,by go_num,by rw [Hn.out],eA,HR1,x,z,hst,HO1⟩)
  ·obtain rfl:i=n:=by omega
   have hvv:=HV.out;rw [lT (by rw [Hn.out];omega)]at hvv;have HVV:=hd9 hvv;clear hvv;go_wp2;refine bodyPost_ret (v:=.agg #[.int .i64 x,.int .i64 z]) (by simp [results,Tryz.results169,go_sem,r0,r1]) rfl ⟨?_,eA⟩;rw [HVV.out]
def placedB (ps:List (Int×Int)):Bool:=!(ps.any farB)&&convexB ps&&(leastP ps==(0,0))&&(minP ps==ps.getD 0 (0,0))
theorem placedB_far {ps:List (Int×Int)} (h:ps.any farB=true):placedB ps=false:=by simp [placedB,h]
theorem placedB_cvx {ps:List (Int×Int)} (h:convexB ps=false):placedB ps=false:=by simp [placedB,h]
theorem far_bd {ps:List (Int×Int)} (h:ps.any farB=false):PBd 2000 ps:=by
 intro p hp;have h1:=(List.any_eq_false.1 h) p hp;simp [farB,wthn]at h1;unfold Bd;omega
theorem PBd.mono {j k:Int} {ps:List (Int×Int)} (h:PBd j ps) (hk:j≤k):PBd k ps:=fun p hp=>⟨(h p hp).1.mono hk,(h p hp).2.mono hk⟩
theorem convexB_len {ps:List (Int×Int)} (h:convexB ps=true):3≤ps.length∧ps.length≤12:=by
 unfold convexB at h;rw [Bool.and_eq_true]at h;have:=h.1;simp [wthn]at this;omega
theorem placed_any (w:World) (v:Value) (ps:List (Int×Int)) (h:IsPts w v ps) :
  Calls Tryz.prog 136 #[v] w fun e w'=>e = .returned (.bool (placedB ps))∧Ext w w':=by
 obtain⟨a,c,rfl⟩:=h.form;obtain⟨n,hn⟩:∃n,ps.length=n:=⟨_,rfl⟩;rw [hn]at h ⊢;have hfar:=fun W (hW:Ext w W)=>ctfar_any W (.slice a n c) ps (h.ext' hW)
 by_cases hf:ps.any farB=true
 ·rw [placedB_far hf]
  rw [hf]at hfar;have Hfar:=hd9 hfar;clear hfar hf;go_enter Tryz.func136,Tryz.ntmps136
  go_wp2_with(((go_at_call 166;(with_reducible refine(Hfar.out _ ?_).mono ?_);exact eA;rintro e w1 ⟨rfl,hx1⟩)))
  go_ret;exact⟨rfl,eA⟩
 have hf':ps.any farB=false:=by simpa using hf
 have hbd:=far_bd hf';rw [hf']at hfar;have Hfar:=hd9 hfar;have hcv:=fun W (hW:Ext w W)=>convex_any W (.slice a n c) ps (h.ext' hW) (hbd.mono (by decide))
 by_cases hc:convexB ps=true
 ·have hlen:=convexB_len hc
  have h0:0<ps.length:=by omega
  rw [hc]at hcv;have Hcv:=hd9 hcv;have hle:=fun W (hW:Ext w W)=>least_any W (.slice a n c) ps (h.ext' hW) h0
  have hmi:=fun W (hW:Ext w W)=>min_any W (.slice a n c) ps (h.ext' hW) h0
  obtain⟨⟨lx,lz⟩,hl⟩:∃p,leastP ps=p:=⟨_,rfl⟩;obtain⟨⟨mx,mz⟩,hm⟩:∃p,minP ps=p:=⟨_,rfl⟩;obtain⟨⟨px,pz⟩,hp⟩:∃p,ps[0]?=some p:=⟨ps[0],by simp⟩;rw [hl]at hle;rw [hm]at hmi
  have hpl:placedB ps=((decide (lx=0)&&decide (lz=0))&&(decide (mx=px)&&decide (mz=pz))):=by
   unfold placedB;rw [hf',hc,hl,hm,List.getD_eq_getElem?_getD,hp];rw [Bool.eq_iff_iff];simp [and_assoc]
  rw [hpl];have Hle:=hd9 hle;have Hmi:=hd9 hmi;obtain⟨b,o,rfl,hb,c0,c1⟩:=h.at' hp;simp only [Nat.zero_mul,Nat.add_zero]at c0 c1;have hn1:(0:Int)<(n:Int):=by rw [hn]at h0;omega
  clear hle hmi hcv hfar hf hf' hc hl hm hp hpl hn hlen hbd h0
  by_cases hll:lx=0∧lz=0
  ·obtain⟨rfl,rfl⟩:=hll
   have hn2:0<n:=by omega
   have cc1:mx=px∧mz=pz→Calls Tryz.prog 136 #[.slice (some ⟨b,o,none⟩) n c] w fun e w'=>e = .returned (.bool ((decide ((0:Int)=0)&&decide ((0:Int)=0))&&(decide (mx=px)&&decide (mz=pz))))∧Ext w w':=by
    intro he;have f1:(mx==px)=true:=(by simpa using he.1);have f2:(mz==pz)=true:=(by simpa using he.2);have g1:(decide (mx=px)&&decide (mz=pz))=true:=(by simp [he.1,he.2]);rw [g1];clear g1 he;go_enter Tryz.func136,Tryz.ntmps136
    go_wp2_with(first|((go_at_call 166;(with_reducible refine(Hfar.out _ ?_).mono ?_);exact eA;rintro e w1 ⟨rfl,hx1⟩;obtain⟨hc1,hf1⟩:=hx1.cells;(have zb1:=hx1.lt hb)))|((go_at_call 167;(with_reducible refine(Hcv.out _ ?_).mono ?_);exact eA;rintro e w2 ⟨rfl,hx2⟩;obtain⟨hc2,hf2⟩:=hx2.cells;(have zb2:=hx2.lt zb1))))
    have zb3:b<w2.heap.size:=zb2
    go_region_held3 (fun W=>W.cell? ⟨b,o,none⟩=some (.int .i64 px)∧W.cell? ⟨b,o+1,none⟩=some (.int .i64 pz)) ((repeat' (with_reducible refine And.intro ?_ ?_))<;>(first|(go_simp;done)|(refine hx1.cellS ?_;go_simp;done))) (first|((go_at_call 168;(with_reducible refine(Hle.out _ ?_).mono ?_);exact eA;rintro e w3 ⟨rfl,hx3⟩;obtain⟨hc3,hf3⟩:=hx3.cells;(try simp only [qcD,qfD,qdZ]at hc3 hf3);(have zb4:=hx3.lt zb3)))|((go_at_call 169;(with_reducible refine(Hmi.out _ ?_).mono ?_);exact eA;rintro e w4 ⟨rfl,hx4⟩;obtain⟨hc4,hf4⟩:=hx4.cells;(try simp only [qcD,qfD,qdZ]at hc4 hf4))))
    all_goals go_wp2
    go_ret;exact⟨rfl,eA⟩
   have cc2:mx=px∧mz≠pz→Calls Tryz.prog 136 #[.slice (some ⟨b,o,none⟩) n c] w fun e w'=>e = .returned (.bool ((decide ((0:Int)=0)&&decide ((0:Int)=0))&&(decide (mx=px)&&decide (mz=pz))))∧Ext w w':=by
    intro he;have f1:(mx==px)=true:=(by simpa using he.1);have f2:(mz==pz)=false:=(by simpa using he.2);have g1:(decide (mx=px)&&decide (mz=pz))=false:=(by simp [he.2]);rw [g1];clear g1 he;go_enter Tryz.func136,Tryz.ntmps136
    go_wp2_with(first|((go_at_call 166;(with_reducible refine(Hfar.out _ ?_).mono ?_);exact eA;rintro e w1 ⟨rfl,hx1⟩;obtain⟨hc1,hf1⟩:=hx1.cells;(have zb1:=hx1.lt hb)))|((go_at_call 167;(with_reducible refine(Hcv.out _ ?_).mono ?_);exact eA;rintro e w2 ⟨rfl,hx2⟩;obtain⟨hc2,hf2⟩:=hx2.cells;(have zb2:=hx2.lt zb1))))
    have zb3:b<w2.heap.size:=zb2
    go_region_held3 (fun W=>W.cell? ⟨b,o,none⟩=some (.int .i64 px)∧W.cell? ⟨b,o+1,none⟩=some (.int .i64 pz)) ((repeat' (with_reducible refine And.intro ?_ ?_))<;>(first|(go_simp;done)|(refine hx1.cellS ?_;go_simp;done))) (first|((go_at_call 168;(with_reducible refine(Hle.out _ ?_).mono ?_);exact eA;rintro e w3 ⟨rfl,hx3⟩;obtain⟨hc3,hf3⟩:=hx3.cells;(try simp only [qcD,qfD,qdZ]at hc3 hf3);(have zb4:=hx3.lt zb3)))|((go_at_call 169;(with_reducible refine(Hmi.out _ ?_).mono ?_);exact eA;rintro e w4 ⟨rfl,hx4⟩;obtain⟨hc4,hf4⟩:=hx4.cells;(try simp only [qcD,qfD,qdZ]at hc4 hf4))))
    all_goals go_wp2
    go_ret;exact⟨rfl,eA⟩
   have cc3:mx≠px→Calls Tryz.prog 136 #[.slice (some ⟨b,o,none⟩) n c] w fun e w'=>e = .returned (.bool ((decide ((0:Int)=0)&&decide ((0:Int)=0))&&(decide (mx=px)&&decide (mz=pz))))∧Ext w w':=by
    intro he;have f1:(mx==px)=false:=(by simpa using he);have g1:(decide (mx=px)&&decide (mz=pz))=false:=(by simp [he]);rw [g1];clear g1 he;go_enter Tryz.func136,Tryz.ntmps136
    go_wp2_with(first|((go_at_call 166;(with_reducible refine(Hfar.out _ ?_).mono ?_);exact eA;rintro e w1 ⟨rfl,hx1⟩;obtain⟨hc1,hf1⟩:=hx1.cells;(have zb1:=hx1.lt hb)))|((go_at_call 167;(with_reducible refine(Hcv.out _ ?_).mono ?_);exact eA;rintro e w2 ⟨rfl,hx2⟩;obtain⟨hc2,hf2⟩:=hx2.cells;(have zb2:=hx2.lt zb1))))
    have zb3:b<w2.heap.size:=zb2
    go_region_held3 (fun W=>W.cell? ⟨b,o,none⟩=some (.int .i64 px)∧W.cell? ⟨b,o+1,none⟩=some (.int .i64 pz)) ((repeat' (with_reducible refine And.intro ?_ ?_))<;>(first|(go_simp;done)|(refine hx1.cellS ?_;go_simp;done))) (first|((go_at_call 168;(with_reducible refine(Hle.out _ ?_).mono ?_);exact eA;rintro e w3 ⟨rfl,hx3⟩;obtain⟨hc3,hf3⟩:=hx3.cells;(try simp only [qcD,qfD,qdZ]at hc3 hf3);(have zb4:=hx3.lt zb3)))|((go_at_call 169;(with_reducible refine(Hmi.out _ ?_).mono ?_);exact eA;rintro e w4 ⟨rfl,hx4⟩;obtain⟨hc4,hf4⟩:=hx4.cells;(try simp only [qcD,qfD,qdZ]at hc4 hf4))))
    all_goals go_wp2
    go_ret;exact⟨rfl,eA⟩
   by_cases e1:mx=px
   ·by_cases e2:mz=pz
    ·exact cc1 ⟨e1,e2⟩
    ·exact cc2 ⟨e1,e2⟩
   ·exact cc3 e1
  ·have hz:(decide (lx=0)&&decide (lz=0))=false:=by
    rw [Bool.and_eq_false_iff]
    by_cases h1:lx=0
    ·right;simp;exact fun h2=>hll ⟨h1,h2⟩
    ·left;simpa using h1
   rw [hz];clear hz;rw [Bool.false_and]
   have cc1:lx=0∧lz≠0→Calls Tryz.prog 136 #[.slice (some ⟨b,o,none⟩) n c] w fun e w'=>e = .returned (.bool false)∧Ext w w':=by
    intro he;have f1:(lx==0)=true:=(by simpa using he.1);have f2:(lz==0)=false:=(by simpa using he.2);clear he;go_enter Tryz.func136,Tryz.ntmps136
    go_wp2_with(first|((go_at_call 166;(with_reducible refine(Hfar.out _ ?_).mono ?_);exact eA;rintro e w1 ⟨rfl,hx1⟩;obtain⟨hc1,hf1⟩:=hx1.cells;(have zb1:=hx1.lt hb)))|((go_at_call 167;(with_reducible refine(Hcv.out _ ?_).mono ?_);exact eA;rintro e w2 ⟨rfl,hx2⟩;obtain⟨hc2,hf2⟩:=hx2.cells;(have zb2:=hx2.lt zb1))))
    first|(go_region_with (((go_at_call 168;(with_reducible refine(Hle.out _ ?_).mono ?_);exact eA;rintro e w3 ⟨rfl,hx3⟩))))|fail
    all_goals go_wp2
    all_goals go_ret
    all_goals exact⟨rfl,eA⟩
   have cc2:lx≠0→Calls Tryz.prog 136 #[.slice (some ⟨b,o,none⟩) n c] w fun e w'=>e = .returned (.bool false)∧Ext w w':=by
    intro he;have f1:(lx==0)=false:=(by simpa using he);clear he;go_enter Tryz.func136,Tryz.ntmps136
    go_wp2_with(first|((go_at_call 166;(with_reducible refine(Hfar.out _ ?_).mono ?_);exact eA;rintro e w1 ⟨rfl,hx1⟩;obtain⟨hc1,hf1⟩:=hx1.cells;(have zb1:=hx1.lt hb)))|((go_at_call 167;(with_reducible refine(Hcv.out _ ?_).mono ?_);exact eA;rintro e w2 ⟨rfl,hx2⟩;obtain⟨hc2,hf2⟩:=hx2.cells;(have zb2:=hx2.lt zb1))))
    first|(go_region_with (((go_at_call 168;(with_reducible refine(Hle.out _ ?_).mono ?_);exact eA;rintro e w3 ⟨rfl,hx3⟩))))|fail
    all_goals go_wp2
    all_goals go_ret
    all_goals exact⟨rfl,eA⟩
   by_cases e1:lx=0
   ·exact cc1 ⟨e1,fun h2=>hll ⟨e1,h2⟩⟩
   ·exact cc2 e1
 ·have hc':convexB ps=false:=by simpa using hc
  rw [placedB_cvx hc'];rw [hc']at hcv;have Hcv:=hd9 hcv;clear hcv hc hc' hfar hf hf' hbd;go_enter Tryz.func136,Tryz.ntmps136
  go_wp2_with(first|((go_at_call 166;(with_reducible refine(Hfar.out _ ?_).mono ?_);exact eA;rintro e w1 ⟨rfl,hx1⟩))|((go_at_call 167;(with_reducible refine(Hcv.out _ ?_).mono ?_);exact eA;rintro e w2 ⟨rfl,hx2⟩)))
  go_ret;exact⟨rfl,eA⟩
end Go.Proofs.YteipgejmhfpkaaaGreatDoor.Cop
