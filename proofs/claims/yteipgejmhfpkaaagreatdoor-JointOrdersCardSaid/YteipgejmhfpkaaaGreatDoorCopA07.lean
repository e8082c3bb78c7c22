/- Part 8 of 44: contracts of what the law calls. -/
import Derived.Test.YteipgejmhfpkaaaGreatDoorCopA06
set_option maxRecDepth 1000000
set_option maxHeartbeats 16000000
set_option linter.unusedSimpArgs false
set_option linter.unusedVariables false
namespace Go.Proofs.YteipgejmhfpkaaaGreatDoor.Cop
open Go.RowKit Go.Shelf
theorem at_any2 (w:World) (v:Value) (ps:List (Int×Int)) (i x z:Int) (h:IsPts w v ps) (h0:0<ps.length) (hn:ps.length≤1000000) (hi : -(ps.length:Int)≤i) (hi2:i≤1000000) (hp:atc ps i=(x,z)) :
  Calls Tryz.prog 204 #[v,.int .i64 i] w fun e w'=>e = .returned (.agg #[.int .i64 x,.int .i64 z])∧Ext w w':=by
 have:=at_any w v ps i h h0 hn hi hi2
 rwa [hp]at this
theorem turn_any2 (w:World) (px pz qx qz rx rz T:Int) (h1:Bd 100000000 px) (h2:Bd 100000000 pz) (h3:Bd 100000000 qx) (h4:Bd 100000000 qz) (h5:Bd 100000000 rx) (h6:Bd 100000000 rz) (hT:trn (px,pz) (qx,qz) (rx,rz)=T) :
  Calls Tryz.prog 203 #[.agg #[.int .i64 px,.int .i64 pz],.agg #[.int .i64 qx,.int .i64 qz],.agg #[.int .i64 rx,.int .i64 rz]] w fun e w'=>e = .returned (.int .i64 T)∧Ext w w':=by
 have:=turn_any w px pz qx qz rx rz h1 h2 h3 h4 h5 h6
 rwa [hT]at this
def PBd (k:Int) (ps:List (Int×Int)):Prop:=∀p∈ps,Bd k p.1∧Bd k p.2
theorem PBd.at {k:Int} {ps:List (Int×Int)} (h:PBd k ps) (h0:0<ps.length) {i:Int} {x z:Int} (he:atc ps i=(x,z)):Bd k x∧Bd k z:=by
 obtain⟨j,_,_,hj⟩:=atc_get (i:=i) h0;rw [he]at hj;exact h _ (lM hj)
theorem atc_nat {ps:List (Int×Int)} {i:Nat} (h:i<ps.length):ps[i]?=some (atc ps i):=by
 unfold atc
 have e:(((i:Int)+ps.length) % ps.length).toNat=i:=by
  rw [Int.add_emod_right,Int.emod_eq_of_lt (by omega) (by omega)];omega
 rw [e,List.getD_eq_getElem?_getD,List.getElem?_eq_getElem h];rfl
def cvx1 (ps:List (Int×Int)) (i:Nat):Bool:=decide (0<trn (atc ps ((i:Int)-1)) (atc ps i) (atc ps ((i:Int)+1)))
def cvx2 (ps:List (Int×Int)) (i k:Nat):Bool:=decide (0<trn (atc ps i) (atc ps ((i:Int)+1)) (atc ps ((i:Int)+k)))
def cvxR (ps:List (Int×Int)) (i:Nat):Bool:=cvx1 ps i&&(List.range (ps.length-1)).all fun k=>decide (k<2) || cvx2 ps i k
def convexB (ps:List (Int×Int)):Bool:=wthn ps.length 3 12&&(List.range ps.length).all (cvxR ps)
theorem convexB_no {ps:List (Int×Int)} {i:Nat} (h:i<ps.length) (hr:cvxR ps i=false):convexB ps=false:=by
 unfold convexB;rw [Bool.and_eq_false_iff]
 right
 rw [List.all_eq_false];exact⟨i,List.mem_range.2 h,by simp [hr]⟩
theorem convexB_yes {ps:List (Int×Int)} (h1:wthn ps.length 3 12=true) (h:∀i,i<ps.length→cvxR ps i=true):convexB ps=true:=by
 unfold convexB;rw [h1,Bool.true_and,List.all_eq_true];exact fun i hi=>h i (List.mem_range.1 hi)
theorem cvxR_no1 {ps:List (Int×Int)} {i:Nat} (h:cvx1 ps i=false):cvxR ps i=false:=by unfold cvxR;rw [h];rfl
theorem cvxR_no2 {ps:List (Int×Int)} {i k:Nat} (hk:k<ps.length-1) (h2:2≤k) (h:cvx2 ps i k=false):cvxR ps i=false:=by
 unfold cvxR;rw [Bool.and_eq_false_iff]
 right
 rw [List.all_eq_false];exact⟨k,List.mem_range.2 hk,by simp [h];omega⟩
theorem cvxR_yes {ps:List (Int×Int)} {i:Nat} (h:cvx1 ps i=true) (h2:∀k,2≤k→k<ps.length-1→cvx2 ps i k=true):cvxR ps i=true:=by
 unfold cvxR;rw [h,Bool.true_and,List.all_eq_true];intro k hk;rw [List.mem_range]at hk
 by_cases h3:k<2
 ·simp [h3]
 ·simp [h2 k (by omega) hk]
def CvS (w:World) (ps:List (Int×Int)) (g:Nat) (t11:Value) (W:World):Prop:=
 ∃i:Nat,i≤ps.length∧t11 = .int .i64 i∧g=ps.length-i∧Ext w W∧∀j,j<i→cvxR ps j=true
def CvK (w:World) (ps:List (Int×Int)) (i:Nat) (g:Nat) (t4:Value) (W:World):Prop:=
 ∃k:Nat,2≤k∧k≤ps.length-1∧t4 = .int .i64 k∧g=ps.length-k∧Ext w W∧∀j,2≤j→j<k→cvx2 ps i j=true
theorem convex_any (w:World) (v:Value) (ps:List (Int×Int)) (h:IsPts w v ps) (hb:PBd 100000000 ps) :
  Calls Tryz.prog 167 #[v] w fun e w'=>e = .returned (.bool (convexB ps))∧Ext w w':=by
 obtain⟨a,c,rfl⟩:=h.form;obtain⟨n,hn⟩:∃n,ps.length=n:=⟨_,rfl⟩;have hn':=hn;rw [hn]at h ⊢;have Hn:=hd9 hn;have Hb:=hd9 hb;clear hb
 by_cases hw:wthn n 3 12=true
 ·have hn3:3≤n∧n≤12:=by simp [wthn]at hw;omega
  obtain⟨hn3,hn12⟩:=hn3;have HW:=hd9 hw;clear hn hn';have h0:0<ps.length:=by rw [Hn.out];omega
  have hl6:ps.length≤1000000:=by rw [Hn.out];omega
  have H0:=hd9 h0;have H6:=hd9 hl6;obtain⟨b,o,rfl,hbl,_,_⟩:=h.at' (atc_nat h0);clear h0 hl6;go_enter Tryz.func167,Tryz.ntmps167
  go_wp2_with(((go_at_call 134;(with_reducible refine(within_any _ n 3 12).mono ?_);rintro e w1 ⟨rfl,hx1⟩)))
  go_loopg [11] n (CvS w ps)
  case atStart=>exact⟨0,by omega,rfl,by rw [Hn.out];rfl,eA,fun j hj=>by omega⟩
  case round =>
   obtain⟨i,hi,rfl,rfl,hx,hall⟩:=hrel;rw [Hn.out]at hi;have Hall:=hd9 hall;clear hall hx1
   by_cases hlt:i<n
   ·obtain⟨⟨ax,az⟩,hA⟩:∃p,atc ps ((i:Int)-1)=p:=⟨_,rfl⟩
    obtain⟨⟨qx,qz⟩,hQ⟩:∃p,atc ps (i:Int)=p:=⟨_,rfl⟩;obtain⟨⟨bx,bz⟩,hB⟩:∃p,atc ps ((i:Int)+1)=p:=⟨_,rfl⟩;obtain⟨T,hT⟩:∃T,trn (ax,az) (qx,qz) (bx,bz)=T:=⟨_,rfl⟩;have hP:=(h.ext' hx).at' (atc_nat (ps:=ps) (i:=i) (by rw [Hn.out];exact hlt));rw [hQ]at hP;obtain⟨b',o',e',hb',d0,d1⟩:=hP
    cases e'
    have HA:=hd9 hA;have HQ:=hd9 hQ;have HB:=hd9 hB;have HT:=hd9 hT;have HbA:=hd9 (Hb.out.at H0.out hA);have HbQ:=hd9 (Hb.out.at H0.out hQ);have HbB:=hd9 (Hb.out.at H0.out hB);have g1 : -(ps.length:Int)≤(i:Int)-1:=by rw [Hn.out];omega
    have g2 : -(ps.length:Int)≤(i:Int)+1:=by rw [Hn.out];omega
    have hv1:cvx1 ps i=decide (0<T):=by unfold cvx1;rw [hA,hQ,hB,hT]
    have Hv1:=hd9 hv1;have hs:=h.ext' hx;clear hA hQ hB hT hv1;have w1':IntKind.i64.wrap ((i:Int)-1)=(i:Int)-1:=IntWalk.i64_in _ (by omega);have w2':IntKind.i64.wrap ((i:Int)+1)=(i:Int)+1:=IntWalk.i64_in _ (by omega);have p1:(0:Int)≤(i:Int):=by omega
    have p2:(i:Int)<(n:Int):=by omega
    by_cases hTp:0<T
    ·have hTb:decide (T≤0)=false:=by simp;omega
     go_wp2
     go_region_held3 (fun W=>W.cell? ⟨b,o+i*2,none⟩=some (.int .i64 qx)∧W.cell? ⟨b,o+i*2+1,none⟩=some (.int .i64 qz)) ((repeat' (with_reducible refine And.intro ?_ ?_))<;>(first|(go_simp;done)|(refine hx1.cellS ?_;go_simp;done))) (first|((go_at_call 204;(with_reducible refine(at_any2 _ (.slice (some ⟨b,o,none⟩) n c) ps ((i:Int)-1) ax az ?_ H0.out H6.out g1 (by omega) HA.out).mono ?_);(refine hs.ext' ?_;exact eA);rintro e w1 ⟨rfl,hx1⟩;obtain⟨hc1,hf1⟩:=hx1.cells;(try simp only [qcD,qfD,qdZ]at hc1 hf1);(have zq1:=hx1.lt (n:=b) (by first|exact hb' | (simp only [qdZ];exact hb')|(have:=zq1;omega)))))|((go_at_call 204;(with_reducible refine(at_any2 _ (.slice (some ⟨b,o,none⟩) n c) ps ((i:Int)+1) bx bz ?_ H0.out H6.out g2 (by omega) HB.out).mono ?_);(refine hs.ext' ?_;exact eA);rintro e w2 ⟨rfl,hx2⟩;obtain⟨hc2,hf2⟩:=hx2.cells;(try simp only [qcD,qfD,qdZ]at hc2 hf2);(have zq2:=hx2.lt (n:=b) (by first|exact hb' | (simp only [qdZ];exact hb')|(have:=zq1;omega)))))|((go_at_call 203;(with_reducible refine(turn_any2 _ _ _ _ _ _ _ T HbA.out.1 HbA.out.2 HbQ.out.1 HbQ.out.2 HbB.out.1 HbB.out.2 HT.out).mono ?_);rintro e w3 ⟨rfl,hx3⟩;obtain⟨hc3,hf3⟩:=hx3.cells;(try simp only [qcD,qfD,qdZ]at hc3 hf3))))
     all_goals go_wp2
     go_loopg [4] (n-2) (CvK w ps i)
     case atStart=>exact⟨2,Nat.le_refl _,by rw [Hn.out];omega,rfl,by rw [Hn.out],eA,fun j h2 hj=>by omega⟩
     case round =>
      rename_i wr0 _
      clear hs d0 d1 hc1 hf1 zq1 hc2 hf2 zq2 hc3 hf3;obtain⟨k,hk2,hkn,rfl,rfl,hxk,hallk⟩:=hrel;rw [Hn.out]at hkn;have Hallk:=hd9 hallk;clear hallk
      by_cases hlk:k<n-1
      ·obtain⟨⟨cx,cz⟩,hC⟩:∃p,atc ps ((i:Int)+(k:Int))=p:=⟨_,rfl⟩
       obtain⟨U,hU⟩:∃U,trn (qx,qz) (bx,bz) (cx,cz)=U:=⟨_,rfl⟩;have hP:=(h.ext' hxk).at' (atc_nat (ps:=ps) (i:=i) (by rw [Hn.out];exact hlt));rw [HQ.out]at hP;obtain⟨b'',o'',e'',hb'',d0,d1⟩:=hP
       cases e''
       have HC:=hd9 hC;have HU:=hd9 hU;have HbC:=hd9 (Hb.out.at H0.out hC);have hv2:cvx2 ps i k=decide (0<U):=by unfold cvx2;rw [HQ.out,HB.out,hC,hU]
       have Hv2:=hd9 hv2;have g3 : -(ps.length:Int)≤(i:Int)+(k:Int):=by rw [Hn.out];omega
       have hs:=h.ext' hxk;clear hC hU hv2;have w3':IntKind.i64.wrap ((i:Int)+(k:Int))=(i:Int)+(k:Int):=IntWalk.i64_in _ (by omega);have p3:(k:Int)<(n:Int)-1:=by omega
       have hb':=hb''
       by_cases hUp:0<U
       ·have hUb:decide (U≤0)=false:=by simp;omega
        go_wp2
        go_region_held3 (fun W=>W.cell? ⟨b,o+i*2,none⟩=some (.int .i64 qx)∧W.cell? ⟨b,o+i*2+1,none⟩=some (.int .i64 qz)) ((repeat' (with_reducible refine And.intro ?_ ?_))<;>(first|(go_simp;done)|(refine hx1.cellS ?_;go_simp;done))) (first|((go_at_call 204;(with_reducible refine(at_any2 _ (.slice (some ⟨b,o,none⟩) n c) ps ((i:Int)+1) bx bz ?_ H0.out H6.out g2 (by omega) HB.out).mono ?_);(refine hs.ext' ?_;exact eA);rintro e w1 ⟨rfl,hx1⟩;obtain⟨hc1,hf1⟩:=hx1.cells;(try simp only [qcD,qfD,qdZ]at hc1 hf1);(have zq1:=hx1.lt (n:=b) (by first|exact hb' | (simp only [qdZ];exact hb')|(have:=zq1;omega)))))|((go_at_call 204;(with_reducible refine(at_any2 _ (.slice (some ⟨b,o,none⟩) n c) ps ((i:Int)+(k:Int)) cx cz ?_ H0.out H6.out g3 (by omega) HC.out).mono ?_);(refine hs.ext' ?_;exact eA);rintro e w2 ⟨rfl,hx2⟩;obtain⟨hc2,hf2⟩:=hx2.cells;(try simp only [qcD,qfD,qdZ]at hc2 hf2);(have zq2:=hx2.lt (n:=b) (by first|exact hb' | (simp only [qdZ];exact hb')|(have:=zq1;omega)))))|((go_at_call 203;(with_reducible refine(turn_any2 _ _ _ _ _ _ _ U HbQ.out.1 HbQ.out.2 HbB.out.1 HbB.out.2 HbC.out.1 HbC.out.2 HU.out).mono ?_);rintro e w3 ⟨rfl,hx3⟩;obtain⟨hc3,hf3⟩:=hx3.cells;(try simp only [qcD,qfD,qdZ]at hc3 hf3))))
        all_goals go_wp2
        go_roundg (n-(k+1))
        case measure=>have:=Hn.out;omega
        case rel =>
         refine⟨k+1,by omega,by rw [Hn.out];omega,by go_num,by rw [Hn.out],eA,fun j h2 hj=>?_⟩
         by_cases hjk:j=k
         ·rw [hjk,Hv2.out];simpa using hUp
         ·exact Hallk.out j h2 (by omega)
       ·have hUb:decide (U≤0)=true:=by simp;omega
        have e:convexB ps=false:=convexB_no (by rw [Hn.out];exact hlt) (cvxR_no2 (k:=k) (by rw [Hn.out];exact hlk) hk2 (by rw [Hv2.out];simpa using hUp));have E:=hd9 e;clear e;go_wp2
        go_region_held3 (fun W=>W.cell? ⟨b,o+i*2,none⟩=some (.int .i64 qx)∧W.cell? ⟨b,o+i*2+1,none⟩=some (.int .i64 qz)) ((repeat' (with_reducible refine And.intro ?_ ?_))<;>(first|(go_simp;done)|(refine hx1.cellS ?_;go_simp;done))) (first|((go_at_call 204;(with_reducible refine(at_any2 _ (.slice (some ⟨b,o,none⟩) n c) ps ((i:Int)+1) bx bz ?_ H0.out H6.out g2 (by omega) HB.out).mono ?_);(refine hs.ext' ?_;exact eA);rintro e w1 ⟨rfl,hx1⟩;obtain⟨hc1,hf1⟩:=hx1.cells;(try simp only [qcD,qfD,qdZ]at hc1 hf1);(have zq1:=hx1.lt (n:=b) (by first|exact hb' | (simp only [qdZ];exact hb')|(have:=zq1;omega)))))|((go_at_call 204;(with_reducible refine(at_any2 _ (.slice (some ⟨b,o,none⟩) n c) ps ((i:Int)+(k:Int)) cx cz ?_ H0.out H6.out g3 (by omega) HC.out).mono ?_);(refine hs.ext' ?_;exact eA);rintro e w2 ⟨rfl,hx2⟩;obtain⟨hc2,hf2⟩:=hx2.cells;(try simp only [qcD,qfD,qdZ]at hc2 hf2);(have zq2:=hx2.lt (n:=b) (by first|exact hb' | (simp only [qdZ];exact hb')|(have:=zq1;omega)))))|((go_at_call 203;(with_reducible refine(turn_any2 _ _ _ _ _ _ _ U HbQ.out.1 HbQ.out.2 HbB.out.1 HbB.out.2 HbC.out.1 HbC.out.2 HU.out).mono ?_);rintro e w3 ⟨rfl,hx3⟩;obtain⟨hc3,hf3⟩:=hx3.cells;(try simp only [qcD,qfD,qdZ]at hc3 hf3))))
        all_goals go_wp2
        all_goals go_ret
        exact⟨by rw [E.out];rfl,eA⟩
      ·obtain rfl:k=n-1:=by omega
       have hrow:cvxR ps i=true:=cvxR_yes (by rw [Hv1.out];simpa using hTp) (fun j h2 hj=>Hallk.out j h2 (by rw [Hn.out]at hj;exact hj));have Hrow:=hd9 hrow;clear hrow;have p4:¬(((n-1:Nat):Int)<(n:Int)-1):=by omega
       go_wp2
       go_roundg (n-(i+1))
       case measure=>have:=Hn.out;omega
       case rel =>
        refine⟨i+1,by rw [Hn.out];omega,by go_num,by rw [Hn.out],eA,fun j hj=>?_⟩
        by_cases hji:j=i
        ·rw [hji];exact Hrow.out
        ·exact Hall.out j (by omega)
    ·have hTb:decide (T≤0)=true:=by simp;omega
     have e:convexB ps=false:=convexB_no (by rw [Hn.out];exact hlt) (cvxR_no1 (by rw [Hv1.out];simpa using hTp));have E:=hd9 e;clear e;go_wp2
     go_region_held3 (fun W=>W.cell? ⟨b,o+i*2,none⟩=some (.int .i64 qx)∧W.cell? ⟨b,o+i*2+1,none⟩=some (.int .i64 qz)) ((repeat' (with_reducible refine And.intro ?_ ?_))<;>(first|(go_simp;done)|(refine hx1.cellS ?_;go_simp;done))) (first|((go_at_call 204;(with_reducible refine(at_any2 _ (.slice (some ⟨b,o,none⟩) n c) ps ((i:Int)-1) ax az ?_ H0.out H6.out g1 (by omega) HA.out).mono ?_);(refine hs.ext' ?_;exact eA);rintro e w1 ⟨rfl,hx1⟩;obtain⟨hc1,hf1⟩:=hx1.cells;(try simp only [qcD,qfD,qdZ]at hc1 hf1);(have zq1:=hx1.lt (n:=b) (by first|exact hb' | (simp only [qdZ];exact hb')|(have:=zq1;omega)))))|((go_at_call 204;(with_reducible refine(at_any2 _ (.slice (some ⟨b,o,none⟩) n c) ps ((i:Int)+1) bx bz ?_ H0.out H6.out g2 (by omega) HB.out).mono ?_);(refine hs.ext' ?_;exact eA);rintro e w2 ⟨rfl,hx2⟩;obtain⟨hc2,hf2⟩:=hx2.cells;(try simp only [qcD,qfD,qdZ]at hc2 hf2);(have zq2:=hx2.lt (n:=b) (by first|exact hb' | (simp only [qdZ];exact hb')|(have:=zq1;omega)))))|((go_at_call 203;(with_reducible refine(turn_any2 _ _ _ _ _ _ _ T HbA.out.1 HbA.out.2 HbQ.out.1 HbQ.out.2 HbB.out.1 HbB.out.2 HT.out).mono ?_);rintro e w3 ⟨rfl,hx3⟩;obtain⟨hc3,hf3⟩:=hx3.cells;(try simp only [qcD,qfD,qdZ]at hc3 hf3))))
     all_goals go_wp2
     all_goals go_ret
     exact⟨by rw [E.out];rfl,eA⟩
   ·obtain rfl:i=n:=by omega
    have e:convexB ps=true:=convexB_yes (by rw [Hn.out];exact HW.out) (fun j hj=>Hall.out j (by rw [Hn.out]at hj;exact hj));have E:=hd9 e;clear e;go_wp2;go_ret;exact⟨by rw [E.out];rfl,eA⟩
 ·have hw':wthn n 3 12=false:=by simpa using hw
  have e:convexB ps=false:=by unfold convexB;rw [hn,hw'];rfl
  rw [e];clear e hn hn';go_enter Tryz.func167,Tryz.ntmps167
  go_wp2_with(((go_at_call 134;(with_reducible refine(within_any _ n 3 12).mono ?_);rintro e w1 ⟨rfl,hx1⟩)))
  go_ret;exact⟨rfl,eA⟩
def farB (p:Int×Int):Bool:=!wthn p.1 0 2000 || !wthn p.2 0 2000
theorem far1_any (w:World) (x z:Int):Calls Tryz.prog 165 #[.agg #[.int .i64 x,.int .i64 z]] w fun e w'=>e = .returned (.bool (farB (x,z)))∧Ext w w':=by
 by_cases h:wthn x 0 2000=true
 ·have e:farB (x,z)=!wthn z 0 2000:=by simp [farB,h]
  rw [e];clear e;go_enter Tryz.func165,Tryz.ntmps165
  go_wp2_with(first|((go_at_call 134;(with_reducible refine(within_any _ x 0 2000).mono ?_);rw [h];rintro e w1 ⟨rfl,hx1⟩;obtain⟨hc1,hf1⟩:=hx1.cells;(try simp only [qcD,qfD,qdZ]at hc1 hf1);have z1_0:=hx1.lt (n:=w.heap.size) (by go_simp)))|((go_at_call 134;(with_reducible refine(within_any _ z 0 2000).mono ?_);rintro e w2 ⟨rfl,hx2⟩)))
  go_ret;exact⟨rfl,eA⟩
 ·have h':wthn x 0 2000=false:=by simpa using h
  have e:farB (x,z)=true:=by simp [farB,h']
  rw [e];clear e;go_enter Tryz.func165,Tryz.ntmps165
  go_wp2_with(((go_at_call 134;(with_reducible refine(within_any _ x 0 2000).mono ?_);rw [h'];rintro e w1 ⟨rfl,hx1⟩;obtain⟨hc1,hf1⟩:=hx1.cells;(try simp only [qcD,qfD,qdZ]at hc1 hf1);have z1_0:=hx1.lt (n:=w.heap.size) (by go_simp))))
  go_ret;exact⟨rfl,eA⟩
def idxB {α:Type} (f:α→Bool) (xs:List α):Int:=match xs.findIdx? f with|some i=>(i:Int)|none=>-1
theorem idxB_some {α:Type} {f:α→Bool} {xs:List α} {i:Nat} {x:α} (hx:xs[i]?=some x) (hf:f x=true) (hn:∀j y,j<i→xs[j]?=some y→f y=false):idxB f xs=(i:Int):=by
 obtain⟨hi,rfl⟩:=lS.1 hx
 have:xs.findIdx? f=some i:=by
  rw [List.findIdx?_eq_some_iff_getElem];exact⟨hi,hf,fun j hj=>by simpa using hn j _ hj (List.getElem?_eq_getElem (by omega))⟩
 unfold idxB;rw [this]
theorem idxB_none {α:Type} {f:α→Bool} {xs:List α} (hn:∀j y,j<xs.length→xs[j]?=some y→f y=false):idxB f xs = -1:=by
 have:xs.findIdx? f=none:=by
  rw [List.findIdx?_eq_none_iff];intro x hx;obtain⟨j,hj⟩:=List.mem_iff_getElem?.1 hx;exact hn j x (lS.1 hj).1 hj
 unfold idxB;rw [this]
theorem idxB_any {α:Type} (f:α→Bool) (xs:List α):decide (0≤idxB f xs)=xs.any f:=by
 unfold idxB
 cases h:xs.findIdx? f with
 | none =>
  rw [List.findIdx?_eq_none_iff]at h;have:xs.any f=false:=by rw [List.any_eq_false];intro x hx;simp [h x hx]
  rw [this];rfl
 | some i =>
  rw [List.findIdx?_eq_some_iff_getElem]at h;obtain⟨hi,hf,_⟩:=h;have:xs.any f=true:=List.any_eq_true.2 ⟨_,List.getElem_mem hi,hf⟩;rw [this];simp
def IxS (w:World) (f:Int×Int→Bool) (ps:List (Int×Int)) (g:Nat) (t8:Value) (W:World):Prop:=
 ∃i:Nat,i≤ps.length∧t8 = .int .i64 i∧g=ps.length-i∧Ext w W∧∀j y,j<i→ps[j]?=some y→f y=false
theorem ixfar_any (w:World) (v:Value) (ps:List (Int×Int)) (h:IsPts w v ps) :
  Calls Tryz.prog 202 #[v,.func (.func 165) #[] #[]] w fun e w'=>e = .returned (.int .i64 (idxB farB ps))∧Ext w w':=by
 obtain⟨a,c,rfl⟩:=h.form;obtain⟨n,hn⟩:∃n,ps.length=n:=⟨_,rfl⟩;rw [hn]at h ⊢;have hle:=h.le;unfold maxLen at hle;have hnc:n≤9223372036854775807:=by omega
 have Hn:=hd9 hn;clear hn hle;go_enter Tryz.func202,Tryz.ntmps202;go_wp2
 go_loopg [8] n (IxS w farB ps)
 case atStart=>exact⟨0,by omega,rfl,by rw [Hn.out];rfl,Ext.refl _,fun j y hj=>by omega⟩
 case round =>
  obtain⟨i,hi,rfl,rfl,hx,hall⟩:=hrel;rw [Hn.out]at hi;have Hall:=hd9 hall;clear hall
  by_cases hlt:i<n
  ·obtain⟨q,hq⟩:∃q,ps[i]?=some q:=⟨ps[i]'(by rw [Hn.out];omega),by simp [Hn.out,hlt]⟩
   obtain⟨qx,qz⟩:=q;obtain⟨b,o,rfl,hb,d0,d1⟩:=(h.ext' hx).at' hq;have Hq:=hd9 hq;clear hq
   by_cases hf:farB (qx,qz)=true
   ·have e:idxB farB ps=(i:Int):=idxB_some Hq.out hf Hall.out
    have E:=hd9 e;clear e
    go_wp2_with(((go_at_call 165;(with_reducible refine(far1_any _ qx qz).mono ?_);rw [hf];rintro e w1 ⟨rfl,hx1⟩)))
    go_ret;exact⟨by rw [E.out];rfl,eA⟩
   ·have hf':farB (qx,qz)=false:=by simpa using hf
    go_wp2_with(((go_at_call 165;(with_reducible refine(far1_any _ qx qz).mono ?_);rw [hf'];rintro e w1 ⟨rfl,hx1⟩)))
    go_roundg (n-(i+1))
    case measure=>have:=Hn.out;omega
    case rel =>
     refine⟨i+1,by have:=Hn.out;omega,by go_num,by rw [Hn.out],eA,fun j y hj hy=>?_⟩
     by_cases hji:j=i
     ·subst hji;rw [Hq.out]at hy;cases hy;exact hf'
     ·exact Hall.out j y (by omega) hy
  ·obtain rfl:i=n:=by omega
   have e:idxB farB ps = -1:=idxB_none (fun j y hj hy=>Hall.out j y (by rw [Hn.out]at hj;exact hj) hy);have E:=hd9 e;clear e;go_wp2;go_ret;exact⟨by rw [E.out];rfl,hx⟩
theorem ctfar_any (w:World) (v:Value) (ps:List (Int×Int)) (h:IsPts w v ps) :
  Calls Tryz.prog 166 #[v,.func (.func 165) #[] #[]] w fun e w'=>e = .returned (.bool (ps.any farB))∧Ext w w':=by
 rw [←idxB_any];obtain⟨x,hx⟩:∃x,idxB farB ps=x:=⟨_,rfl⟩;have hc:=fun W (hW:Ext w W)=>ixfar_any W v ps (h.ext' hW)
 rw [hx]at *;have Hc:=hd9 hc;clear hc hx;go_enter Tryz.func166,Tryz.ntmps166
 go_wp2_with(((go_at_call 202;(with_reducible refine(Hc.out _ ?_).mono ?_);exact eA;rintro e w1 ⟨rfl,hx1⟩)))
 go_ret;exact⟨rfl,eA⟩
def orL:List Int→Int
 | []=>0
 | x::xs=>if x=0 then orL xs else x
theorem orL_at:∀{xs:List Int} {i:Nat} {x:Int},xs[i]?=some x→x≠0→(∀j y,j<i→xs[j]?=some y→y=0)→orL xs=x
 | [],_,_,h,_,_=>by simp at h
 | y::ys,0,x,h,h0,_=>by simp at h;subst h;simp [orL,h0]
 | y::ys,i+1,x,h,h0,hn=>by
  have hy:y=0:=hn 0 y (by omega) rfl;rw [orL,if_pos hy];exact orL_at (by simpa using h) h0 (fun j z hj hz=>hn (j+1) z (by omega) (by simpa using hz))
theorem orL_zero:∀{xs:List Int},(∀(j:Nat) (y:Int),xs[j]?=some y→y=0)→orL xs=0
 | [],_=>rfl
 | y::ys,h=>by rw [orL,if_pos (h 0 y rfl)];exact orL_zero (fun j z hz=>h (j+1) z (by simpa using hz))
def OrS (w:World) (xs:List Int) (g:Nat) (t8:Value) (W:World):Prop:=
 ∃i:Nat,i≤xs.length∧t8 = .int .i64 i∧g=xs.length-i∧Ext w W∧∀j y,j<i→xs[j]?=some y→y=0
theorem or_any (w:World) (v:Value) (xs:List Int) (h:Ints 3 w v xs) :
  Calls Tryz.prog 88 #[v] w fun e w'=>e = .returned (.int .i64 (orL xs))∧Ext w w':=by
 obtain⟨a,c,rfl⟩:=h.form;obtain⟨n,hn⟩:∃n,xs.length=n:=⟨_,rfl⟩;rw [hn]at h ⊢;have hle:=h.le;unfold maxLen at hle;have hnc:n≤9223372036854775807:=by omega
 have Hn:=hd9 hn;clear hn hle;go_enter Tryz.func88,Tryz.ntmps88;go_wp2
 go_loopg [8] n (OrS w xs)
 case atStart=>exact⟨0,by omega,rfl,by rw [Hn.out];rfl,Ext.refl _,fun j y hj=>by omega⟩
 case round =>
  obtain⟨i,hi,rfl,rfl,hx,hall⟩:=hrel;rw [Hn.out]at hi;have Hall:=hd9 hall;clear hall
  by_cases hlt:i<n
  ·obtain⟨x,hq⟩:∃x,xs[i]?=some x:=⟨xs[i]'(by rw [Hn.out];omega),by simp [Hn.out,hlt]⟩
   obtain⟨b,o,rfl,hb,hc⟩:=(h.ext hx).open (by rw [Hn.out];omega);have hcx:=hc i x hq;have Hq:=hd9 hq;clear hq hc
   by_cases h0:x=0
   ·subst h0
    go_wp2
    go_roundg (n-(i+1))
    case measure=>have:=Hn.out;omega
    case rel =>
     refine⟨i+1,by have:=Hn.out;omega,by go_num,by rw [Hn.out],hx,fun j y hj hy=>?_⟩
     by_cases hji:j=i
     ·subst hji;rw [Hq.out]at hy;cases hy;rfl
     ·exact Hall.out j y (by omega) hy
   ·have e:orL xs=x:=orL_at Hq.out h0 Hall.out
    have E:=hd9 e;have hb1:(x != 0)=true:=by simpa using h0
    have hb2:(x==0)=false:=by simpa using h0
    clear e h0;go_wp2;go_ret;exact⟨by rw [E.out];rfl,hx⟩
  ·obtain rfl:i=n:=by omega
   have e:orL xs=0:=orL_zero (fun j y hy=>Hall.out j y (by have:=(lS.1 hy).1;rw [Hn.out]at this;exact this) hy);have E:=hd9 e;clear e;go_wp2;go_ret;exact⟨by rw [E.out];rfl,hx⟩
theorem order_any (w:World) (v:Value) (xs:List Int) (h:Ints 3 w v xs) :
  Calls Tryz.prog 205 #[v] w fun e w'=>e = .returned (.int .i64 (orL xs))∧Ext w w':=by
 obtain⟨x,hx⟩:∃x,orL xs=x:=⟨_,rfl⟩;have hc:=fun W (hW:Ext w W)=>or_any W v xs (h.ext hW)
 rw [hx]at *;have Hc:=hd9 hc;clear hc hx;go_enter Tryz.func205,Tryz.ntmps205
 go_wp2_with(((go_at_call 88;(with_reducible refine(Hc.out _ ?_).mono ?_);exact eA;rintro e w1 ⟨rfl,hx1⟩)))
 go_ret;exact⟨rfl,eA⟩
def lowC (p q:Int×Int):Int:=orL [cmp3 p.2 q.2,cmp3 p.1 q.1]
theorem ints2 (W:World) (x y:Int):Ints 3 (W.alloc (.cells #[.int .i64 x,.int .i64 y] 3)) (.slice (some ⟨W.heap.size,0,none⟩) 2 2) [x,y]:=by
 refine⟨rfl,_,_,rfl,Nat.le_refl _,by unfold maxLen;omega,.inr ⟨W.heap.size,0,_,_,rfl,heap_alloc_new W _,?_⟩⟩;intro i v hv
 match i,hv with
 | 0,hv=>simpa [lits] using hv
 | 1,hv=>simpa [lits] using hv
 | i+2,hv=>simp [lits]at hv
theorem lower_any (w:World) (px pz qx qz:Int) :
  Calls Tryz.prog 170 #[.agg #[.int .i64 px,.int .i64 pz],.agg #[.int .i64 qx,.int .i64 qz]] w fun e w'=>e = .returned (.int .i64 (lowC (px,pz) (qx,qz)))∧Ext w w':=by
 obtain⟨r,hr⟩:∃r,lowC (px,pz) (qx,qz)=r:=⟨_,rfl⟩;rw [hr];have HR:Hid (orL [cmp3 pz qz,cmp3 px qx]=r):=hd9 hr;clear hr;go_enter Tryz.func170,Tryz.ntmps170;go_wp2
 go_region_held3 (fun W=>W.cell? ⟨w.heap.size,0,none⟩=some (.int .i64 px)∧W.cell? ⟨w.heap.size,1,none⟩=some (.int .i64 pz)∧W.cell? ⟨w.heap.size+1,0,none⟩=some (.int .i64 qx)∧W.cell? ⟨w.heap.size+1,1,none⟩=some (.int .i64 qz)) ((repeat' (with_reducible refine And.intro ?_ ?_))<;>(first|(go_simp;done)|(refine hx1.cellS ?_;go_simp;done))) (first|((go_at_call 206;(with_reducible refine(compare_any _ pz qz).mono ?_);rintro e w1 ⟨rfl,hx1⟩;obtain⟨hc1,hf1⟩:=hx1.cells;(try simp only [qcD,qfD,qdZ]at hc1 hf1);have z1_0:=hx1.lt (n:=w.heap.size) (by go_simp);have z1_1:=hx1.lt (n:=w.heap.size+1) (by go_simp)))|((go_at_call 206;(with_reducible refine(compare_any _ px qx).mono ?_);rintro e w2 ⟨rfl,hx2⟩;obtain⟨hc2,hf2⟩:=hx2.cells;(try simp only [qcD,qfD,qdZ]at hc2 hf2);have z2_0:=hx2.lt (n:=w.heap.size) (by go_simp);have z2_1:=hx2.lt (n:=w.heap.size+1) (by go_simp);have e2_0_0:w.heap.size<w2.heap.size+1:=(by omega);have e2_1_0:w.heap.size+1<w2.heap.size+1:=(by omega)))|((go_at_call 205;(with_reducible refine(order_any _ (.slice (some ⟨w2.heap.size,0,none⟩) 2 2) [cmp3 pz qz,cmp3 px qx] ?_).mono ?_);(refine ints2 _ _ _);rw [HR.out];rintro e w3 ⟨rfl,hx3⟩;obtain⟨hc3,hf3⟩:=hx3.cells;(try simp only [qcD,qfD,qdZ]at hc3 hf3);have z3_0:=hx3.lt (n:=w.heap.size) (by go_simp);have z3_1:=hx3.lt (n:=w.heap.size+1) (by go_simp))))
 all_goals go_wp2
 go_ret;exact⟨rfl,eA⟩
end Go.Proofs.YteipgejmhfpkaaaGreatDoor.Cop
