/- Part 8 of 41: contracts of what the law calls. -/
import Derived.Test.YtobbionccnkmgaaGreatDoorCopA06
set_option maxRecDepth 1000000
set_option maxHeartbeats 16000000
set_option linter.unusedSimpArgs false
set_option linter.unusedVariables false
namespace Go.Proofs.YtobbionccnkmgaaGreatDoor.Cop
open Go.RowKit Go.Shelf
def PP (_:World) (c:List Value) (p:Int×Int):Prop:=c=[.int .i64 p.1,.int .i64 p.2]
abbrev IsPts (w:World) (v:Value) (ps:List (Int×Int)):Prop:=Sl 38 2 PP w v ps
theorem IsPts.ext' {w w':World} {v:Value} {ps:List (Int×Int)} (h:IsPts w v ps) (k:Ext w w'):IsPts w' v ps:=Sl.ext h (fun _ _ h=>h) k
theorem IsPts.keep' {w w':World} {v:Value} {ps:List (Int×Int)} (h:IsPts w v ps) (k:KeepT 38 w w'):IsPts w' v ps:=Sl.keep h (fun _ _ h=>h) k
theorem IsPts.at' {w:World} {a:Option Addr} {n c:Nat} {ps:List (Int×Int)} (h:IsPts w (.slice a n c) ps) {i:Nat} {p:Int×Int} (hp:ps[i]?=some p) :
  ∃b o,a=some ⟨b,o,none⟩∧b<w.heap.size∧w.cell? ⟨b,o+i*2,none⟩=some (.int .i64 p.1)∧w.cell? ⟨b,o+i*2+1,none⟩=some (.int .i64 p.2):=by
 obtain⟨b,o,d,rfl,hb,hl,hP,hc⟩:=Sl.at h hp;have hP':d=[.int .i64 p.1,.int .i64 p.2]:=hP;subst hP';exact⟨b,o,rfl,hb,hc 0 _ rfl,hc 1 _ rfl⟩
def atc (ps:List (Int×Int)) (i:Int):Int×Int:=ps.getD ((i+ps.length) % ps.length).toNat (0,0)
theorem atc_get {ps:List (Int×Int)} {i:Int} (h:0<ps.length):∃k:Nat,k<ps.length∧(i+(ps.length:Int)) % (ps.length:Int)=(k:Int)∧ps[k]?=some (atc ps i):=by
 have h0:=Int.emod_nonneg (i+ps.length) (show (ps.length:Int)≠0 by omega);have h1:=Int.emod_lt_of_pos (i+ps.length) (show 0<(ps.length:Int) by omega);refine⟨((i+ps.length) % ps.length).toNat,by omega,by omega,?_⟩;unfold atc;rw [List.getD_eq_getElem?_getD];have:((i+(ps.length:Int)) % (ps.length:Int)).toNat<ps.length:=by omega
 simp only [List.getElem?_eq_getElem this,Option.getD_some]
theorem at_any (w:World) (v:Value) (ps:List (Int×Int)) (i:Int) (h:IsPts w v ps) (h0:0<ps.length) (hn:ps.length≤1000000) (hi : -(ps.length:Int)≤i) (hi2:i≤1000000) :
  Calls Tryz.prog 175 #[v,.int .i64 i] w fun e w'=>e = .returned (.agg #[.int .i64 (atc ps i).1,.int .i64 (atc ps i).2])∧Ext w w':=by
 obtain⟨a,c,rfl⟩:=h.form;obtain⟨k,hk,hm,hp⟩:=atc_get (i:=i) h0;obtain⟨b,o,rfl,hb,c0,c1⟩:=h.at' hp;obtain⟨x,hx⟩:∃x,(atc ps i).1=x:=⟨_,rfl⟩;obtain⟨z,hz⟩:∃z,(atc ps i).2=z:=⟨_,rfl⟩;rw [hx]at c0 ⊢;rw [hz]at c1 ⊢;clear hx hz hp h
 generalize ps.length=n at *
 have u1:(0:Int)≤i+(n:Int):=by omega
 have u2:(0:Int)<(n:Int):=by omega
 have u3:(k:Int)<(n:Int):=by omega
 have hb1:b<w.heap.size+1:=by omega
 go_enter Tryz.func175,Tryz.ntmps175;go_wp2;exact bodyPost_ret (v:=.agg #[.int .i64 x,.int .i64 z]) (by simp [results,Tryz.results175,go_sem]) rfl ⟨rfl,(by with_reducible repeat(first|assumption|exact eR _|refine eX ?_|refine eT ?_|refine eS ?_))⟩
def leastP:List (Int×Int)→Int×Int
 | []=>(0,0)
 | p::ps=>ps.foldl (fun o q=>(min o.1 q.1,min o.2 q.2)) p
theorem leastP_snoc (ps:List (Int×Int)) (q:Int×Int) (h:ps≠[]):leastP (ps++[q])=(min (leastP ps).1 q.1,min (leastP ps).2 q.2):=by
 cases ps with
 | nil=>exact absurd rfl h
 | cons p ps=>simp [leastP]
def LeS (w:World) (ps:List (Int×Int)) (g:Nat) (t11:Value) (W:World):Prop:=
 ∃i:Nat,i≤ps.length∧t11 = .int .i64 i∧g=ps.length-i∧Ext w W∧W.heap[w.heap.size]?=some (.cells #[.int .i64 0,.int .i64 0] 38 (0,0)) ∧
  ∃x z,(if i=0 then ps[0]?=some (x,z)else leastP (ps.take i)=(x,z))∧W.heap[w.heap.size+1]?=some (.cells #[.int .i64 x,.int .i64 z] 38 (0,0))
theorem leastP_step {ps:List (Int×Int)} {i:Nat} {x z:Int} {q:Int×Int} (h:if i=0 then ps[0]?=some (x,z)else leastP (ps.take i)=(x,z)) (hq:ps[i]?=some q) :
  leastP (ps.take (i+1))=(min x q.1,min z q.2):=by
 rw [take_add_one' _ _ _ hq]
 by_cases h0:i=0
 ·subst h0
  rw [if_pos rfl]at h;rw [h]at hq
  cases hq
  simp [leastP]
 ·rw [if_neg h0]at h
  rw [leastP_snoc _ _ (by
   intro e;have:=(lS.1 hq).1;have h2:(ps.take i).length=0:=by rw [e];rfl
   rw [List.length_take]at h2;omega),h]
theorem LeS.step {w wr:World} {ps:List (Int×Int)} {i n:Nat} {x z qx qz a b:Int} (hn:ps.length=n) (hlt:i<n) (hx:Ext w wr) (hR:wr.heap[w.heap.size]?=some (.cells #[.int .i64 0,.int .i64 0] 38 (0,0)))
  (hO:wr.heap[w.heap.size+1]?=some (.cells #[.int .i64 x,.int .i64 z] 38 (0,0))) (hv:if i=0 then ps[0]?=some (x,z)else leastP (ps.take i)=(x,z)) (hq:ps[i]?=some (qx,qz)) (ha:a=min x qx) (hb:b=min z qz) :
  LeS w ps (n-(i+1)) (.int .i64 ((i:Int)+1)) (((wr.setCell ⟨w.heap.size+1,0,none⟩ (.int .i64 a)).setCell ⟨w.heap.size+1,1,none⟩ (.int .i64 b)).alloc (.cells #[.int .i64 qx,.int .i64 qz] 38)):=by
 have zo:=heap_lt hO;refine⟨i+1,by omega,by go_num,by rw [hn],(by with_reducible repeat(first|assumption|exact eR _|refine eX ?_|refine eT ?_|refine eS ?_)),?_,a,b,?_,?_⟩
 ·rw [heap_get,if_neg (by simp only [qcZ];omega),Below.heap_setCell _ _ _ _ (by dsimp only;omega),Below.heap_setCell _ _ _ _ (by dsimp only;omega)]
  exact hR
 ·rw [if_neg (by omega),leastP_step hv hq,ha,hb]
 ·rw [heap_get,if_neg (by simp only [qcZ];omega)]
  exact two_setCell hO _ _
theorem least_any (w:World) (v:Value) (ps:List (Int×Int)) (h:IsPts w v ps) (h0:0<ps.length) :
  Calls Tryz.prog 142 #[v] w fun e w'=>e = .returned (.agg #[.int .i64 (leastP ps).1,.int .i64 (leastP ps).2])∧Ext w w':=by
 obtain⟨a,c,rfl⟩:=h.form;obtain⟨n,hn⟩:∃n,ps.length=n:=⟨_,rfl⟩;rw [hn]at h ⊢;have hle:=h.le;unfold maxLen at hle;have hn0:0<n:=by omega
 have hnc:n≤9223372036854775807:=by omega
 obtain⟨p,hp⟩:∃p,ps[0]?=some p:=⟨ps[0],by simp⟩;obtain⟨x0,z0⟩:=p;obtain⟨b,o,rfl,hb,c0,c1⟩:=h.at' hp;simp only [Nat.zero_mul,Nat.add_zero]at c0 c1;have hb1:b<w.heap.size+1:=by omega
 have Hn:=hd9 hn;have Hp:=hd9 hp;clear hn hle hp h0;go_enter Tryz.func142,Tryz.ntmps142;go_wp2
 go_loopg [11] n (LeS w ps)
 case atStart =>
  refine⟨0,by omega,rfl,by rw [Hn.out];rfl,(by with_reducible repeat(first|assumption|exact eR _|refine eX ?_|refine eT ?_|refine eS ?_)),by rw [heap_get,if_neg (by simp)];exact qhA _ _ _ rfl,x0,z0,by simpa using Hp.out,qhA _ _ _ (by simp)⟩
 case round =>
  obtain⟨i,hi,rfl,rfl,hx,hR,x,z,hv,hO⟩:=hrel;rw [Hn.out]at hi;have r0:=qcB hR (i:=0) (u:=.int .i64 0) rfl;have r1:=qcB hR (i:=1) (u:=.int .i64 0) rfl;have rf0:=qfB hR 0;have rf1:=qfB hR 1;have o0:=qcB hO (i:=0) (u:=.int .i64 x) rfl;have o1:=qcB hO (i:=1) (u:=.int .i64 z) rfl;have of0:=qfB hO 0;have of1:=qfB hO 1;have zr:=heap_lt hR;have zo:=heap_lt hO;have HR:=hd9 hR;have HO:=hd9 hO;have HV:=hd9 hv;clear hR hO hv c0 c1
  by_cases hlt:i<n
  ·obtain⟨q,hq⟩:∃q,ps[i]?=some q:=⟨ps[i]'(by rw [Hn.out];omega),by simp [Hn.out,hlt]⟩
   obtain⟨b',o',e',hb',d0,d1⟩:=(h.ext' hx).at' hq
   cases e'
   obtain⟨qx,qz⟩:=q;have Hq:=hd9 hq;clear hq;go_wp2
   all_goals
    go_roundg (n-(i+1))
    case measure=>have:=Hn.out;omega
    case rel =>
     exact LeS.step Hn.out hlt hx HR.out HO.out HV.out Hq.out (by omega) (by omega)
  ·obtain rfl:i=n:=by omega
   have hvv:=HV.out;rw [if_neg (by omega),lT (by rw [Hn.out];omega)]at hvv;have HVV:=hd9 hvv;clear hvv;go_wp2;refine bodyPost_ret (v:=.agg #[.int .i64 x,.int .i64 z]) (by simp [results,Tryz.results142,go_sem,r0,r1]) rfl ⟨?_,(by with_reducible repeat(first|assumption|exact eR _|refine eX ?_|refine eT ?_|refine eS ?_))⟩;rw [HVV.out]
theorem at_any2 (w:World) (v:Value) (ps:List (Int×Int)) (i x z:Int) (h:IsPts w v ps) (h0:0<ps.length) (hn:ps.length≤1000000) (hi : -(ps.length:Int)≤i) (hi2:i≤1000000) (hp:atc ps i=(x,z)) :
  Calls Tryz.prog 175 #[v,.int .i64 i] w fun e w'=>e = .returned (.agg #[.int .i64 x,.int .i64 z])∧Ext w w':=by
 have:=at_any w v ps i h h0 hn hi hi2
 rwa [hp]at this
theorem turn_any2 (w:World) (px pz qx qz rx rz T:Int) (h1:Bd 100000000 px) (h2:Bd 100000000 pz) (h3:Bd 100000000 qx) (h4:Bd 100000000 qz) (h5:Bd 100000000 rx) (h6:Bd 100000000 rz) (hT:trn (px,pz) (qx,qz) (rx,rz)=T) :
  Calls Tryz.prog 174 #[.agg #[.int .i64 px,.int .i64 pz],.agg #[.int .i64 qx,.int .i64 qz],.agg #[.int .i64 rx,.int .i64 rz]] w fun e w'=>e = .returned (.int .i64 T)∧Ext w w':=by
 have:=turn_any w px pz qx qz rx rz h1 h2 h3 h4 h5 h6
 rwa [hT]at this
def PBd (k:Int) (ps:List (Int×Int)):Prop:=∀p∈ps,Bd k p.1∧Bd k p.2
theorem PBd.at {k:Int} {ps:List (Int×Int)} (h:PBd k ps) (h0:0<ps.length) {i:Int} {x z:Int} (he:atc ps i=(x,z)):Bd k x∧Bd k z:=by
 obtain⟨j,_,_,hj⟩:=atc_get (i:=i) h0;rw [he]at hj;exact h _ (lM hj)
theorem atc_nat {ps:List (Int×Int)} {i:Nat} (h:i<ps.length):ps[i]?=some (atc ps i):=by
 unfold atc
 have e:(((i:Int)+ps.length) % ps.length).toNat=i:=by
  rw [Int.add_emod_right,Int.emod_eq_of_lt (by omega) (by omega)];omega
 rw [e,List.getD_eq_getElem?_getD,List.getElem?_eq_getElem h];rfl
def cvx1 (ps:List (Int×Int)) (i:Nat):Bool:=decide (0<trn (atc ps ((i:Int)-1)) (atc ps i) (atc ps ((i:Int)+1)))
def cvx2 (ps:List (Int×Int)) (i k:Nat):Bool:=decide (0<trn (atc ps i) (atc ps ((i:Int)+1)) (atc ps ((i:Int)+k)))
def cvxR (ps:List (Int×Int)) (i:Nat):Bool:=cvx1 ps i&&(List.range (ps.length-1)).all fun k=>decide (k<2) || cvx2 ps i k
def convexB (ps:List (Int×Int)):Bool:=wthn ps.length 3 12&&(List.range ps.length).all (cvxR ps)
theorem convexB_no {ps:List (Int×Int)} {i:Nat} (h:i<ps.length) (hr:cvxR ps i=false):convexB ps=false:=by
 unfold convexB;rw [Bool.and_eq_false_iff]
 right
 rw [List.all_eq_false];exact⟨i,List.mem_range.2 h,by simp [hr]⟩
theorem convexB_yes {ps:List (Int×Int)} (h1:wthn ps.length 3 12=true) (h:∀i,i<ps.length→cvxR ps i=true):convexB ps=true:=by
 unfold convexB;rw [h1,Bool.true_and,List.all_eq_true];exact fun i hi=>h i (List.mem_range.1 hi)
theorem cvxR_no1 {ps:List (Int×Int)} {i:Nat} (h:cvx1 ps i=false):cvxR ps i=false:=by unfold cvxR;rw [h];rfl
theorem cvxR_no2 {ps:List (Int×Int)} {i k:Nat} (hk:k<ps.length-1) (h2:2≤k) (h:cvx2 ps i k=false):cvxR ps i=false:=by
 unfold cvxR;rw [Bool.and_eq_false_iff]
 right
 rw [List.all_eq_false];exact⟨k,List.mem_range.2 hk,by simp [h];omega⟩
theorem cvxR_yes {ps:List (Int×Int)} {i:Nat} (h:cvx1 ps i=true) (h2:∀k,2≤k→k<ps.length-1→cvx2 ps i k=true):cvxR ps i=true:=by
 unfold cvxR;rw [h,Bool.true_and,List.all_eq_true];intro k hk;rw [List.mem_range]at hk
 by_cases h3:k<2
 ·simp [h3]
 ·simp [h2 k (by omega) hk]
def CvS (w:World) (ps:List (Int×Int)) (g:Nat) (t11:Value) (W:World):Prop:=
 ∃i:Nat,i≤ps.length∧t11 = .int .i64 i∧g=ps.length-i∧Ext w W∧∀j,j<i→cvxR ps j=true
def CvK (w:World) (ps:List (Int×Int)) (i:Nat) (g:Nat) (t4:Value) (W:World):Prop:=
 ∃k:Nat,2≤k∧k≤ps.length-1∧t4 = .int .i64 k∧g=ps.length-k∧Ext w W∧∀j,2≤j→j<k→cvx2 ps i j=true
theorem convex_any (w:World) (v:Value) (ps:List (Int×Int)) (h:IsPts w v ps) (hb:PBd 100000000 ps) :
  Calls Tryz.prog 141 #[v] w fun e w'=>e = .returned (.bool (convexB ps))∧Ext w w':=by
 obtain⟨a,c,rfl⟩:=h.form;obtain⟨n,hn⟩:∃n,ps.length=n:=⟨_,rfl⟩;have hn':=hn;rw [hn]at h ⊢;have Hn:=hd9 hn;have Hb:=hd9 hb;clear hb
 by_cases hw:wthn n 3 12=true
 ·have hn3:3≤n∧n≤12:=by simp [wthn]at hw;omega
  obtain⟨hn3,hn12⟩:=hn3;have HW:=hd9 hw;clear hn hn';have h0:0<ps.length:=by rw [Hn.out];omega
  have hl6:ps.length≤1000000:=by rw [Hn.out];omega
  have H0:=hd9 h0;have H6:=hd9 hl6;obtain⟨b,o,rfl,hbl,_,_⟩:=h.at' (atc_nat h0);clear h0 hl6;go_enter Tryz.func141,Tryz.ntmps141
  go_wp2_with(((go_at_call 111;(with_reducible refine(within_any _ n 3 12).mono ?_);rintro e w1 ⟨rfl,hx1⟩)))
  go_loopg [11] n (CvS w ps)
  case atStart=>exact⟨0,by omega,rfl,by rw [Hn.out];rfl,(by with_reducible repeat(first|assumption|exact eR _|refine eX ?_|refine eT ?_|refine eS ?_)),fun j hj=>by omega⟩
  case round =>
   obtain⟨i,hi,rfl,rfl,hx,hall⟩:=hrel;rw [Hn.out]at hi;have Hall:=hd9 hall;clear hall hx1
   by_cases hlt:i<n
   ·obtain⟨⟨ax,az⟩,hA⟩:∃p,atc ps ((i:Int)-1)=p:=⟨_,rfl⟩
    obtain⟨⟨qx,qz⟩,hQ⟩:∃p,atc ps (i:Int)=p:=⟨_,rfl⟩;obtain⟨⟨bx,bz⟩,hB⟩:∃p,atc ps ((i:Int)+1)=p:=⟨_,rfl⟩;obtain⟨T,hT⟩:∃T,trn (ax,az) (qx,qz) (bx,bz)=T:=⟨_,rfl⟩;have hP:=(h.ext' hx).at' (atc_nat (ps:=ps) (i:=i) (by rw [Hn.out];exact hlt));rw [hQ]at hP;obtain⟨b',o',e',hb',d0,d1⟩:=hP
    cases e'
    have HA:=hd9 hA;have HQ:=hd9 hQ;have HB:=hd9 hB;have HT:=hd9 hT;have HbA:=hd9 (Hb.out.at H0.out hA);have HbQ:=hd9 (Hb.out.at H0.out hQ);have HbB:=hd9 (Hb.out.at H0.out hB);have g1 : -(ps.length:Int)≤(i:Int)-1:=by rw [Hn.out];omega
    have g2 : -(ps.length:Int)≤(i:Int)+1:=by rw [Hn.out];omega
    have hv1:cvx1 ps i=decide (0<T):=by unfold cvx1;rw [hA,hQ,hB,hT]
    have Hv1:=hd9 hv1;have hs:=h.ext' hx;clear hA hQ hB hT hv1;have w1':IntKind.i64.wrap ((i:Int)-1)=(i:Int)-1:=IntWalk.i64_in _ (by omega);have w2':IntKind.i64.wrap ((i:Int)+1)=(i:Int)+1:=IntWalk.i64_in _ (by omega);have p1:(0:Int)≤(i:Int):=by omega
    have p2:(i:Int)<(n:Int):=by omega
    by_cases hTp:0<T
    ·have hTb:decide (T≤0)=false:=by simp;omega
     go_wp2
     go_region_held3 (fun W=>W.cell? ⟨b,o+i*2,none⟩=some (.int .i64 qx)∧W.cell? ⟨b,o+i*2+1,none⟩=some (.int .i64 qz)) ((repeat' (with_reducible refine And.intro ?_ ?_))<;>(first|(go_simp;done)|(refine hx1.cellS ?_;go_simp;done))) (first|((go_at_call 175;(with_reducible refine(at_any2 _ (.slice (some ⟨b,o,none⟩) n c) ps ((i:Int)-1) ax az ?_ H0.out H6.out g1 (by omega) HA.out).mono ?_);(refine hs.ext' ?_;(focus((with_reducible repeat(first|assumption|exact eR _|refine eX ?_|refine eT ?_|refine eS ?_));done)));rintro e w1 ⟨rfl,hx1⟩;obtain⟨hc1,hf1⟩:=hx1.cells;(try simp only [qcD,qfD,qdZ]at hc1 hf1);(have zq1:=hx1.lt (n:=b) (by first|exact hb' | (simp only [qdZ];exact hb')|(have:=zq1;omega)))))|((go_at_call 175;(with_reducible refine(at_any2 _ (.slice (some ⟨b,o,none⟩) n c) ps ((i:Int)+1) bx bz ?_ H0.out H6.out g2 (by omega) HB.out).mono ?_);(refine hs.ext' ?_;(focus((with_reducible repeat(first|assumption|exact eR _|refine eX ?_|refine eT ?_|refine eS ?_));done)));rintro e w2 ⟨rfl,hx2⟩;obtain⟨hc2,hf2⟩:=hx2.cells;(try simp only [qcD,qfD,qdZ]at hc2 hf2);(have zq2:=hx2.lt (n:=b) (by first|exact hb' | (simp only [qdZ];exact hb')|(have:=zq1;omega)))))|((go_at_call 174;(with_reducible refine(turn_any2 _ _ _ _ _ _ _ T HbA.out.1 HbA.out.2 HbQ.out.1 HbQ.out.2 HbB.out.1 HbB.out.2 HT.out).mono ?_);rintro e w3 ⟨rfl,hx3⟩;obtain⟨hc3,hf3⟩:=hx3.cells;(try simp only [qcD,qfD,qdZ]at hc3 hf3))))
     all_goals go_wp2
     go_loopg [4] (n-2) (CvK w ps i)
     case atStart=>exact⟨2,Nat.le_refl _,by rw [Hn.out];omega,rfl,by rw [Hn.out],(by with_reducible repeat(first|assumption|exact eR _|refine eX ?_|refine eT ?_|refine eS ?_)),fun j h2 hj=>by omega⟩
     case round =>
      rename_i wr0 _
      clear hs d0 d1 hc1 hf1 zq1 hc2 hf2 zq2 hc3 hf3;obtain⟨k,hk2,hkn,rfl,rfl,hxk,hallk⟩:=hrel;rw [Hn.out]at hkn;have Hallk:=hd9 hallk;clear hallk
      by_cases hlk:k<n-1
      ·obtain⟨⟨cx,cz⟩,hC⟩:∃p,atc ps ((i:Int)+(k:Int))=p:=⟨_,rfl⟩
       obtain⟨U,hU⟩:∃U,trn (qx,qz) (bx,bz) (cx,cz)=U:=⟨_,rfl⟩;have hP:=(h.ext' hxk).at' (atc_nat (ps:=ps) (i:=i) (by rw [Hn.out];exact hlt));rw [HQ.out]at hP;obtain⟨b'',o'',e'',hb'',d0,d1⟩:=hP
       cases e''
       have HC:=hd9 hC;have HU:=hd9 hU;have HbC:=hd9 (Hb.out.at H0.out hC);have hv2:cvx2 ps i k=decide (0<U):=by unfold cvx2;rw [HQ.out,HB.out,hC,hU]
       have Hv2:=hd9 hv2;have g3 : -(ps.length:Int)≤(i:Int)+(k:Int):=by rw [Hn.out];omega
       have hs:=h.ext' hxk;clear hC hU hv2;have w3':IntKind.i64.wrap ((i:Int)+(k:Int))=(i:Int)+(k:Int):=IntWalk.i64_in _ (by omega);have p3:(k:Int)<(n:Int)-1:=by omega
       have hb':=hb''
       by_cases hUp:0<U
       ·have hUb:decide (U≤0)=false:=by simp;omega
        go_wp2
        go_region_held3 (fun W=>W.cell? ⟨b,o+i*2,none⟩=some (.int .i64 qx)∧W.cell? ⟨b,o+i*2+1,none⟩=some (.int .i64 qz)) ((repeat' (with_reducible refine And.intro ?_ ?_))<;>(first|(go_simp;done)|(refine hx1.cellS ?_;go_simp;done))) (first|((go_at_call 175;(with_reducible refine(at_any2 _ (.slice (some ⟨b,o,none⟩) n c) ps ((i:Int)+1) bx bz ?_ H0.out H6.out g2 (by omega) HB.out).mono ?_);(refine hs.ext' ?_;(focus((with_reducible repeat(first|assumption|exact eR _|refine eX ?_|refine eT ?_|refine eS ?_));done)));rintro e w1 ⟨rfl,hx1⟩;obtain⟨hc1,hf1⟩:=hx1.cells;(try simp only [qcD,qfD,qdZ]at hc1 hf1);(have zq1:=hx1.lt (n:=b) (by first|exact hb' | (simp only [qdZ];exact hb')|(have:=zq1;omega)))))|((go_at_call 175;(with_reducible refine(at_any2 _ (.slice (some ⟨b,o,none⟩) n c) ps ((i:Int)+(k:Int)) cx cz ?_ H0.out H6.out g3 (by omega) HC.out).mono ?_);(refine hs.ext' ?_;(focus((with_reducible repeat(first|assumption|exact eR _|refine eX ?_|refine eT ?_|refine eS ?_));done)));rintro e w2 ⟨rfl,hx2⟩;obtain⟨hc2,hf2⟩:=hx2.cells;(try simp only [qcD,qfD,qdZ]at hc2 hf2);(have zq2:=hx2.lt (n:=b) (by first|exact hb' | (simp only [qdZ];exact hb')|(have:=zq1;omega)))))|((go_at_call 174;(with_reducible refine(turn_any2 _ _ _ _ _ _ _ U HbQ.out.1 HbQ.out.2 HbB.out.1 HbB.out.2 HbC.out.1 HbC.out.2 HU.out).mono ?_);rintro e w3 ⟨rfl,hx3⟩;obtain⟨hc3,hf3⟩:=hx3.cells;(try simp only [qcD,qfD,qdZ]at hc3 hf3))))
        all_goals go_wp2
        go_roundg (n-(k+1))
        case measure=>have:=Hn.out;omega
        case rel =>
         refine⟨k+1,by omega,by rw [Hn.out];omega,by go_num,by rw [Hn.out],(by with_reducible repeat(first|assumption|exact eR _|refine eX ?_|refine eT ?_|refine eS ?_)),fun j h2 hj=>?_⟩
         by_cases hjk:j=k
         ·rw [hjk,Hv2.out];simpa using hUp
         ·exact Hallk.out j h2 (by omega)
       ·have hUb:decide (U≤0)=true:=by simp;omega
        have e:convexB ps=false:=convexB_no (by rw [Hn.out];exact hlt) (cvxR_no2 (k:=k) (by rw [Hn.out];exact hlk) hk2 (by rw [Hv2.out];simpa using hUp));have E:=hd9 e;clear e;go_wp2
        go_region_held3 (fun W=>W.cell? ⟨b,o+i*2,none⟩=some (.int .i64 qx)∧W.cell? ⟨b,o+i*2+1,none⟩=some (.int .i64 qz)) ((repeat' (with_reducible refine And.intro ?_ ?_))<;>(first|(go_simp;done)|(refine hx1.cellS ?_;go_simp;done))) (first|((go_at_call 175;(with_reducible refine(at_any2 _ (.slice (some ⟨b,o,none⟩) n c) ps ((i:Int)+1) bx bz ?_ H0.out H6.out g2 (by omega) HB.out).mono ?_);(refine hs.ext' ?_;(focus((with_reducible repeat(first|assumption|exact eR _|refine eX ?_|refine eT ?_|refine eS ?_));done)));rintro e w1 ⟨rfl,hx1⟩;obtain⟨hc1,hf1⟩:=hx1.cells;(try simp only [qcD,qfD,qdZ]at hc1 hf1);(have zq1:=hx1.lt (n:=b) (by first|exact hb' | (simp only [qdZ];exact hb')|(have:=zq1;omega)))))|((go_at_call 175;(with_reducible refine(at_any2 _ (.slice (some ⟨b,o,none⟩) n c) ps ((i:Int)+(k:Int)) cx cz ?_ H0.out H6.out g3 (by omega) HC.out).mono ?_);(refine hs.ext' ?_;(focus((with_reducible repeat(first|assumption|exact eR _|refine eX ?_|refine eT ?_|refine eS ?_));done)));rintro e w2 ⟨rfl,hx2⟩;obtain⟨hc2,hf2⟩:=hx2.cells;(try simp only [qcD,qfD,qdZ]at hc2 hf2);(have zq2:=hx2.lt (n:=b) (by first|exact hb' | (simp only [qdZ];exact hb')|(have:=zq1;omega)))))|((go_at_call 174;(with_reducible refine(turn_any2 _ _ _ _ _ _ _ U HbQ.out.1 HbQ.out.2 HbB.out.1 HbB.out.2 HbC.out.1 HbC.out.2 HU.out).mono ?_);rintro e w3 ⟨rfl,hx3⟩;obtain⟨hc3,hf3⟩:=hx3.cells;(try simp only [qcD,qfD,qdZ]at hc3 hf3))))
        all_goals go_wp2
        all_goals go_ret
        exact⟨by rw [E.out];rfl,(by with_reducible repeat(first|assumption|exact eR _|refine eX ?_|refine eT ?_|refine eS ?_))⟩
      ·obtain rfl:k=n-1:=by omega
       have hrow:cvxR ps i=true:=cvxR_yes (by rw [Hv1.out];simpa using hTp) (fun j h2 hj=>Hallk.out j h2 (by rw [Hn.out]at hj;exact hj));have Hrow:=hd9 hrow;clear hrow;have p4:¬(((n-1:Nat):Int)<(n:Int)-1):=by omega
       go_wp2
       go_roundg (n-(i+1))
       case measure=>have:=Hn.out;omega
       case rel =>
        refine⟨i+1,by rw [Hn.out];omega,by go_num,by rw [Hn.out],(by with_reducible repeat(first|assumption|exact eR _|refine eX ?_|refine eT ?_|refine eS ?_)),fun j hj=>?_⟩
        by_cases hji:j=i
        ·rw [hji];exact Hrow.out
        ·exact Hall.out j (by omega)
    ·have hTb:decide (T≤0)=true:=by simp;omega
     have e:convexB ps=false:=convexB_no (by rw [Hn.out];exact hlt) (cvxR_no1 (by rw [Hv1.out];simpa using hTp));have E:=hd9 e;clear e;go_wp2
     go_region_held3 (fun W=>W.cell? ⟨b,o+i*2,none⟩=some (.int .i64 qx)∧W.cell? ⟨b,o+i*2+1,none⟩=some (.int .i64 qz)) ((repeat' (with_reducible refine And.intro ?_ ?_))<;>(first|(go_simp;done)|(refine hx1.cellS ?_;go_simp;done))) (first|((go_at_call 175;(with_reducible refine(at_any2 _ (.slice (some ⟨b,o,none⟩) n c) ps ((i:Int)-1) ax az ?_ H0.out H6.out g1 (by omega) HA.out).mono ?_);(refine hs.ext' ?_;(focus((with_reducible repeat(first|assumption|exact eR _|refine eX ?_|refine eT ?_|refine eS ?_));done)));rintro e w1 ⟨rfl,hx1⟩;obtain⟨hc1,hf1⟩:=hx1.cells;(try simp only [qcD,qfD,qdZ]at hc1 hf1);(have zq1:=hx1.lt (n:=b) (by first|exact hb' | (simp only [qdZ];exact hb')|(have:=zq1;omega)))))|((go_at_call 175;(with_reducible refine(at_any2 _ (.slice (some ⟨b,o,none⟩) n c) ps ((i:Int)+1) bx bz ?_ H0.out H6.out g2 (by omega) HB.out).mono ?_);(refine hs.ext' ?_;(focus((with_reducible repeat(first|assumption|exact eR _|refine eX ?_|refine eT ?_|refine eS ?_));done)));rintro e w2 ⟨rfl,hx2⟩;obtain⟨hc2,hf2⟩:=hx2.cells;(try simp only [qcD,qfD,qdZ]at hc2 hf2);(have zq2:=hx2.lt (n:=b) (by first|exact hb' | (simp only [qdZ];exact hb')|(have:=zq1;omega)))))|((go_at_call 174;(with_reducible refine(turn_any2 _ _ _ _ _ _ _ T HbA.out.1 HbA.out.2 HbQ.out.1 HbQ.out.2 HbB.out.1 HbB.out.2 HT.out).mono ?_);rintro e w3 ⟨rfl,hx3⟩;obtain⟨hc3,hf3⟩:=hx3.cells;(try simp only [qcD,qfD,qdZ]at hc3 hf3))))
     all_goals go_wp2
     all_goals go_ret
     exact⟨by rw [E.out];rfl,(by with_reducible repeat(first|assumption|exact eR _|refine eX ?_|refine eT ?_|refine eS ?_))⟩
   ·obtain rfl:i=n:=by omega
    have e:convexB ps=true:=convexB_yes (by rw [Hn.out];exact HW.out) (fun j hj=>Hall.out j (by rw [Hn.out]at hj;exact hj));have E:=hd9 e;clear e;go_wp2;go_ret;exact⟨by rw [E.out];rfl,(by with_reducible repeat(first|assumption|exact eR _|refine eX ?_|refine eT ?_|refine eS ?_))⟩
 ·have hw':wthn n 3 12=false:=by simpa using hw
  have e:convexB ps=false:=by unfold convexB;rw [hn,hw'];rfl
  rw [e];clear e hn hn';go_enter Tryz.func141,Tryz.ntmps141
  go_wp2_with(((go_at_call 111;(with_reducible refine(within_any _ n 3 12).mono ?_);rintro e w1 ⟨rfl,hx1⟩)))
  go_ret;exact⟨rfl,(by with_reducible repeat(first|assumption|exact eR _|refine eX ?_|refine eT ?_|refine eS ?_))⟩
def farB (p:Int×Int):Bool:=!wthn p.1 0 2000 || !wthn p.2 0 2000
theorem far1_any (w:World) (x z:Int):Calls Tryz.prog 139 #[.agg #[.int .i64 x,.int .i64 z]] w fun e w'=>e = .returned (.bool (farB (x,z)))∧Ext w w':=by
 by_cases h:wthn x 0 2000=true
 ·have e:farB (x,z)=!wthn z 0 2000:=by simp [farB,h]
  rw [e];clear e;go_enter Tryz.func139,Tryz.ntmps139
  go_wp2_with(first|((go_at_call 111;(with_reducible refine(within_any _ x 0 2000).mono ?_);rw [h];rintro e w1 ⟨rfl,hx1⟩;obtain⟨hc1,hf1⟩:=hx1.cells;(try simp only [qcD,qfD,qdZ]at hc1 hf1);have z1_0:=hx1.lt (n:=w.heap.size) (by go_simp)))|((go_at_call 111;(with_reducible refine(within_any _ z 0 2000).mono ?_);rintro e w2 ⟨rfl,hx2⟩)))
  go_ret;exact⟨rfl,(by with_reducible repeat(first|assumption|exact eR _|refine eX ?_|refine eT ?_|refine eS ?_))⟩
 ·have h':wthn x 0 2000=false:=by simpa using h
  have e:farB (x,z)=true:=by simp [farB,h']
  rw [e];clear e;go_enter Tryz.func139,Tryz.ntmps139
  go_wp2_with(((go_at_call 111;(with_reducible refine(within_any _ x 0 2000).mono ?_);rw [h'];rintro e w1 ⟨rfl,hx1⟩;obtain⟨hc1,hf1⟩:=hx1.cells;(try simp only [qcD,qfD,qdZ]at hc1 hf1);have z1_0:=hx1.lt (n:=w.heap.size) (by go_simp))))
  go_ret;exact⟨rfl,(by with_reducible repeat(first|assumption|exact eR _|refine eX ?_|refine eT ?_|refine eS ?_))⟩
def idxB {α:Type} (f:α→Bool) (xs:List α):Int:=match xs.findIdx? f with|some i=>(i:Int)|none=>-1
theorem idxB_some {α:Type} {f:α→Bool} {xs:List α} {i:Nat} {x:α} (hx:xs[i]?=some x) (hf:f x=true) (hn:∀j y,j<i→xs[j]?=some y→f y=false):idxB f xs=(i:Int):=by
 obtain⟨hi,rfl⟩:=lS.1 hx
 have:xs.findIdx? f=some i:=by
  rw [List.findIdx?_eq_some_iff_getElem];exact⟨hi,hf,fun j hj=>by simpa using hn j _ hj (List.getElem?_eq_getElem (by omega))⟩
 unfold idxB;rw [this]
theorem idxB_none {α:Type} {f:α→Bool} {xs:List α} (hn:∀j y,j<xs.length→xs[j]?=some y→f y=false):idxB f xs = -1:=by
 have:xs.findIdx? f=none:=by
  rw [List.findIdx?_eq_none_iff];intro x hx;obtain⟨j,hj⟩:=List.mem_iff_getElem?.1 hx;exact hn j x (lS.1 hj).1 hj
 unfold idxB;rw [this]
theorem idxB_any {α:Type} (f:α→Bool) (xs:List α):decide (0≤idxB f xs)=xs.any f:=by
 unfold idxB
 cases h:xs.findIdx? f with
 | none =>
  rw [List.findIdx?_eq_none_iff]at h;have:xs.any f=false:=by rw [List.any_eq_false];intro x hx;simp [h x hx]
  rw [this];rfl
 | some i =>
  rw [List.findIdx?_eq_some_iff_getElem]at h;obtain⟨hi,hf,_⟩:=h;have:xs.any f=true:=List.any_eq_true.2 ⟨_,List.getElem_mem hi,hf⟩;rw [this];simp
def IxS (w:World) (f:Int×Int→Bool) (ps:List (Int×Int)) (g:Nat) (t8:Value) (W:World):Prop:=
 ∃i:Nat,i≤ps.length∧t8 = .int .i64 i∧g=ps.length-i∧Ext w W∧∀j y,j<i→ps[j]?=some y→f y=false
theorem ixfar_any (w:World) (v:Value) (ps:List (Int×Int)) (h:IsPts w v ps) :
  Calls Tryz.prog 173 #[v,.func (.func 139) #[] #[]] w fun e w'=>e = .returned (.int .i64 (idxB farB ps))∧Ext w w':=by
 obtain⟨a,c,rfl⟩:=h.form;obtain⟨n,hn⟩:∃n,ps.length=n:=⟨_,rfl⟩;rw [hn]at h ⊢;have hle:=h.le;unfold maxLen at hle;have hnc:n≤9223372036854775807:=by omega
 have Hn:=hd9 hn;clear hn hle;go_enter Tryz.func173,Tryz.ntmps173;go_wp2
 go_loopg [8] n (IxS w farB ps)
 case atStart=>exact⟨0,by omega,rfl,by rw [Hn.out];rfl,Ext.refl _,fun j y hj=>by omega⟩
 case round =>
  obtain⟨i,hi,rfl,rfl,hx,hall⟩:=hrel;rw [Hn.out]at hi;have Hall:=hd9 hall;clear hall
  by_cases hlt:i<n
  ·obtain⟨q,hq⟩:∃q,ps[i]?=some q:=⟨ps[i]'(by rw [Hn.out];omega),by simp [Hn.out,hlt]⟩
   obtain⟨qx,qz⟩:=q;obtain⟨b,o,rfl,hb,d0,d1⟩:=(h.ext' hx).at' hq;have Hq:=hd9 hq;clear hq
   by_cases hf:farB (qx,qz)=true
   ·have e:idxB farB ps=(i:Int):=idxB_some Hq.out hf Hall.out
    have E:=hd9 e;clear e
    go_wp2_with(((go_at_call 139;(with_reducible refine(far1_any _ qx qz).mono ?_);rw [hf];rintro e w1 ⟨rfl,hx1⟩)))
    go_ret;exact⟨by rw [E.out];rfl,(by with_reducible repeat(first|assumption|exact eR _|refine eX ?_|refine eT ?_|refine eS ?_))⟩
   ·have hf':farB (qx,qz)=false:=by simpa using hf
    go_wp2_with(((go_at_call 139;(with_reducible refine(far1_any _ qx qz).mono ?_);rw [hf'];rintro e w1 ⟨rfl,hx1⟩)))
    go_roundg (n-(i+1))
    case measure=>have:=Hn.out;omega
    case rel =>
     refine⟨i+1,by have:=Hn.out;omega,by go_num,by rw [Hn.out],(by with_reducible repeat(first|assumption|exact eR _|refine eX ?_|refine eT ?_|refine eS ?_)),fun j y hj hy=>?_⟩
     by_cases hji:j=i
     ·subst hji;rw [Hq.out]at hy;cases hy;exact hf'
     ·exact Hall.out j y (by omega) hy
  ·obtain rfl:i=n:=by omega
   have e:idxB farB ps = -1:=idxB_none (fun j y hj hy=>Hall.out j y (by rw [Hn.out]at hj;exact hj) hy);have E:=hd9 e;clear e;go_wp2;go_ret;exact⟨by rw [E.out];rfl,hx⟩
theorem ctfar_any (w:World) (v:Value) (ps:List (Int×Int)) (h:IsPts w v ps) :
  Calls Tryz.prog 140 #[v,.func (.func 139) #[] #[]] w fun e w'=>e = .returned (.bool (ps.any farB))∧Ext w w':=by
 rw [←idxB_any];obtain⟨x,hx⟩:∃x,idxB farB ps=x:=⟨_,rfl⟩;have hc:=fun W (hW:Ext w W)=>ixfar_any W v ps (h.ext' hW)
 rw [hx]at *;have Hc:=hd9 hc;clear hc hx;go_enter Tryz.func140,Tryz.ntmps140
 go_wp2_with(((go_at_call 173;(with_reducible refine(Hc.out _ ?_).mono ?_);(focus((with_reducible repeat(first|assumption|exact eR _|refine eX ?_|refine eT ?_|refine eS ?_));done));rintro e w1 ⟨rfl,hx1⟩)))
 go_ret;exact⟨rfl,(by with_reducible repeat(first|assumption|exact eR _|refine eX ?_|refine eT ?_|refine eS ?_))⟩
def orL:List Int→Int
 | []=>0
 | x::xs=>if x=0 then orL xs else x
theorem orL_at:∀{xs:List Int} {i:Nat} {x:Int},xs[i]?=some x→x≠0→(∀j y,j<i→xs[j]?=some y→y=0)→orL xs=x
 | [],_,_,h,_,_=>by simp at h
 | y::ys,0,x,h,h0,_=>by simp at h;subst h;simp [orL,h0]
 | y::ys,i+1,x,h,h0,hn=>by
  have hy:y=0:=hn 0 y (by omega) rfl;rw [orL,if_pos hy];exact orL_at (by simpa using h) h0 (fun j z hj hz=>hn (j+1) z (by omega) (by simpa using hz))
theorem orL_zero:∀{xs:List Int},(∀(j:Nat) (y:Int),xs[j]?=some y→y=0)→orL xs=0
 | [],_=>rfl
 | y::ys,h=>by rw [orL,if_pos (h 0 y rfl)];exact orL_zero (fun j z hz=>h (j+1) z (by simpa using hz))
def OrS (w:World) (xs:List Int) (g:Nat) (t8:Value) (W:World):Prop:=
 ∃i:Nat,i≤xs.length∧t8 = .int .i64 i∧g=xs.length-i∧Ext w W∧∀j y,j<i→xs[j]?=some y→y=0
theorem or_any (w:World) (v:Value) (xs:List Int) (h:Ints 3 w v xs) :
  Calls Tryz.prog 72 #[v] w fun e w'=>e = .returned (.int .i64 (orL xs))∧Ext w w':=by
 obtain⟨a,c,rfl⟩:=h.form;obtain⟨n,hn⟩:∃n,xs.length=n:=⟨_,rfl⟩;rw [hn]at h ⊢;have hle:=h.le;unfold maxLen at hle;have hnc:n≤9223372036854775807:=by omega
 have Hn:=hd9 hn;clear hn hle;go_enter Tryz.func72,Tryz.ntmps72;go_wp2
 go_loopg [8] n (OrS w xs)
 case atStart=>exact⟨0,by omega,rfl,by rw [Hn.out];rfl,Ext.refl _,fun j y hj=>by omega⟩
 case round =>
  obtain⟨i,hi,rfl,rfl,hx,hall⟩:=hrel;rw [Hn.out]at hi;have Hall:=hd9 hall;clear hall
  by_cases hlt:i<n
  ·obtain⟨x,hq⟩:∃x,xs[i]?=some x:=⟨xs[i]'(by rw [Hn.out];omega),by simp [Hn.out,hlt]⟩
   obtain⟨b,o,rfl,hb,hc⟩:=(h.ext hx).open (by rw [Hn.out];omega);have hcx:=hc i x hq;have Hq:=hd9 hq;clear hq hc
   by_cases h0:x=0
   ·subst h0
    go_wp2
    go_roundg (n-(i+1))
    case measure=>have:=Hn.out;omega
    case rel =>
     refine⟨i+1,by have:=Hn.out;omega,by go_num,by rw [Hn.out],hx,fun j y hj hy=>?_⟩
     by_cases hji:j=i
     ·subst hji;rw [Hq.out]at hy;cases hy;rfl
     ·exact Hall.out j y (by omega) hy
   ·have e:orL xs=x:=orL_at Hq.out h0 Hall.out
    have E:=hd9 e;have hb1:(x != 0)=true:=by simpa using h0
    have hb2:(x==0)=false:=by simpa using h0
    clear e h0;go_wp2;go_ret;exact⟨by rw [E.out];rfl,hx⟩
  ·obtain rfl:i=n:=by omega
   have e:orL xs=0:=orL_zero (fun j y hy=>Hall.out j y (by have:=(lS.1 hy).1;rw [Hn.out]at this;exact this) hy);have E:=hd9 e;clear e;go_wp2;go_ret;exact⟨by rw [E.out];rfl,hx⟩
theorem order_any (w:World) (v:Value) (xs:List Int) (h:Ints 3 w v xs) :
  Calls Tryz.prog 176 #[v] w fun e w'=>e = .returned (.int .i64 (orL xs))∧Ext w w':=by
 obtain⟨x,hx⟩:∃x,orL xs=x:=⟨_,rfl⟩;have hc:=fun W (hW:Ext w W)=>or_any W v xs (h.ext hW)
 rw [hx]at *;have Hc:=hd9 hc;clear hc hx;go_enter Tryz.func176,Tryz.ntmps176
 go_wp2_with(((go_at_call 72;(with_reducible refine(Hc.out _ ?_).mono ?_);(focus((with_reducible repeat(first|assumption|exact eR _|refine eX ?_|refine eT ?_|refine eS ?_));done));rintro e w1 ⟨rfl,hx1⟩)))
 go_ret;exact⟨rfl,(by with_reducible repeat(first|assumption|exact eR _|refine eX ?_|refine eT ?_|refine eS ?_))⟩
def lowC (p q:Int×Int):Int:=orL [cmp3 p.2 q.2,cmp3 p.1 q.1]
theorem ints2 (W:World) (x y:Int):Ints 3 (W.alloc (.cells #[.int .i64 x,.int .i64 y] 3)) (.slice (some ⟨W.heap.size,0,none⟩) 2 2) [x,y]:=by
 refine⟨rfl,_,_,rfl,Nat.le_refl _,by unfold maxLen;omega,.inr ⟨W.heap.size,0,_,_,rfl,heap_alloc_new W _,?_⟩⟩;intro i v hv
 match i,hv with
 | 0,hv=>simpa [lits] using hv
 | 1,hv=>simpa [lits] using hv
 | i+2,hv=>simp [lits]at hv
theorem lower_any (w:World) (px pz qx qz:Int) :
  Calls Tryz.prog 144 #[.agg #[.int .i64 px,.int .i64 pz],.agg #[.int .i64 qx,.int .i64 qz]] w fun e w'=>e = .returned (.int .i64 (lowC (px,pz) (qx,qz)))∧Ext w w':=by
 obtain⟨r,hr⟩:∃r,lowC (px,pz) (qx,qz)=r:=⟨_,rfl⟩;rw [hr];have HR:Hid (orL [cmp3 pz qz,cmp3 px qx]=r):=hd9 hr;clear hr;go_enter Tryz.func144,Tryz.ntmps144;go_wp2
 go_region_held3 (fun W=>W.cell? ⟨w.heap.size,0,none⟩=some (.int .i64 px)∧W.cell? ⟨w.heap.size,1,none⟩=some (.int .i64 pz)∧W.cell? ⟨w.heap.size+1,0,none⟩=some (.int .i64 qx)∧W.cell? ⟨w.heap.size+1,1,none⟩=some (.int .i64 qz)) ((repeat' (with_reducible refine And.intro ?_ ?_))<;>(first|(go_simp;done)|(refine hx1.cellS ?_;go_simp;done))) (first|((go_at_call 177;(with_reducible refine(compare_any _ pz qz).mono ?_);rintro e w1 ⟨rfl,hx1⟩;obtain⟨hc1,hf1⟩:=hx1.cells;(try simp only [qcD,qfD,qdZ]at hc1 hf1);have z1_0:=hx1.lt (n:=w.heap.size) (by go_simp);have z1_1:=hx1.lt (n:=w.heap.size+1) (by go_simp)))|((go_at_call 177;(with_reducible refine(compare_any _ px qx).mono ?_);rintro e w2 ⟨rfl,hx2⟩;obtain⟨hc2,hf2⟩:=hx2.cells;(try simp only [qcD,qfD,qdZ]at hc2 hf2);have z2_0:=hx2.lt (n:=w.heap.size) (by go_simp);have z2_1:=hx2.lt (n:=w.heap.size+1) (by go_simp);have e2_0_0:w.heap.size<w2.heap.size+1:=(by omega);have e2_1_0:w.heap.size+1<w2.heap.size+1:=(by omega)))|((go_at_call 176;(with_reducible refine(order_any _ (.slice (some ⟨w2.heap.size,0,none⟩) 2 2) [cmp3 pz qz,cmp3 px qx] ?_).mono ?_);(refine ints2 _ _ _);rw [HR.out];rintro e w3 ⟨rfl,hx3⟩;obtain⟨hc3,hf3⟩:=hx3.cells;(try simp only [qcD,qfD,qdZ]at hc3 hf3);have z3_0:=hx3.lt (n:=w.heap.size) (by go_simp);have z3_1:=hx3.lt (n:=w.heap.size+1) (by go_simp))))
 all_goals go_wp2
 go_ret;exact⟨rfl,(by with_reducible repeat(first|assumption|exact eR _|refine eX ?_|refine eT ?_|refine eS ?_))⟩
end Go.Proofs.YtobbionccnkmgaaGreatDoor.Cop
