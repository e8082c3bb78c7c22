/- Part 7: contracts of what the law calls. -/
import Derived.Test.YtodpfeaihohpjaaGreatDoorCopA05
import Derived.Laws.StructEq
set_option maxRecDepth 1000000
set_option maxHeartbeats 16000000
set_option linter.unusedSimpArgs false
set_option linter.unusedVariables false
open Go.Value renaming int→O,slice→I,agg→J,bool→M
open Go.IntKind renaming i64→Y
open Option renaming some→Z,none→V
open Go renaming World→X,Value→N
namespace Go.Proofs.YtodpfeaihohpjaaGreatDoor.Cop
section
open Go.RowKit Go.Shelf
def farB (p:Int×Int):Bool:=!wthn p.1 0 2000 || !wthn p.2 0 2000
theorem zgW (w:X) (x z:Int):Calls Tryz.prog 166 #[J #[O Y x,O Y z]] w fun e w'=>e = .returned (M (farB (x,z)))∧Ext w w':=by
 by_cases h:wthn x 0 2000=true
 ·have e:farB (x,z)=!wthn z 0 2000:=by simp [farB,h]
  rw [e];clear e;go_enter Tryz.func166,Tryz.ntmps166
  go_wp2_with(first|((go_at_call 134;(with_reducible refine(zah _ x 0 2000).mono ?_);rw [h];rintro e w1 ⟨rfl,hx1⟩;obtain⟨⟨hc1,hf1⟩,z1_0⟩:=cK1 w hx1))|((go_at_call 134;(with_reducible refine(zah _ z 0 2000).mono ?_);rintro e w2 ⟨rfl,hx2⟩)))
  go_ret;exact⟨rfl,eA⟩
 ·have h':wthn x 0 2000=false:=by simpa using h
  have e:farB (x,z)=true:=by simp [farB,h']
  rw [e];clear e;go_enter Tryz.func166,Tryz.ntmps166
  go_wp2_with(((go_at_call 134;(with_reducible refine(zah _ x 0 2000).mono ?_);rw [h'];rintro e w1 ⟨rfl,hx1⟩;obtain⟨⟨hc1,hf1⟩,z1_0⟩:=cK1 w hx1)))
  go_ret;exact⟨rfl,eA⟩
def idxB {α:Type} (f:α→Bool) (xs:List α):Int:=match xs.findIdx? f with|some i=>(i:Int)|none=>-1
theorem zcx {α:Type} {f:α→Bool} {xs:List α} {i:Nat} {x:α} (hx:xs[i]?=Z x) (hf:f x=true) (hn:∀j y,j<i→xs[j]?=Z y→f y=false):idxB f xs=(i:Int):=by
 obtain⟨hi,rfl⟩:=lS.1 hx
 have:xs.findIdx? f=Z i:=by
  rw [List.findIdx?_eq_some_iff_getElem];exact⟨hi,hf,fun j hj=>by simpa using hn j _ hj (gE (by omega))⟩
 unfold idxB;rw [this]
theorem zcw {α:Type} {f:α→Bool} {xs:List α} (hn:∀j y,j<xs.length→xs[j]?=Z y→f y=false):idxB f xs = -1:=by
 have:xs.findIdx? f=V:=by
  rw [List.findIdx?_eq_none_iff];intro x hx;obtain⟨j,hj⟩:=List.mem_iff_getElem?.1 hx;exact hn j x (lS.1 hj).1 hj
 unfold idxB;rw [this]
theorem ze0 {α:Type} (f:α→Bool) (xs:List α):decide (0≤idxB f xs)=xs.any f:=by
 unfold idxB
 cases h:xs.findIdx? f with
 | none =>
  rw [List.findIdx?_eq_none_iff]at h;have:xs.any f=false:=by rw [List.any_eq_false];intro x hx;simp [h x hx]
  rw [this];rfl
 | some i =>
  rw [List.findIdx?_eq_some_iff_getElem]at h;obtain⟨hi,hf,_⟩:=h;have:xs.any f=true:=List.any_eq_true.2 ⟨_,List.getElem_mem hi,hf⟩;rw [this];simp
def IxS (w:X) (f:Int×Int→Bool) (ps:List (Int×Int)) (g:Nat) (t8:N) (W:X):Prop:=
 ∃i:Nat,i≤ps.length∧t8=O Y i∧g=ps.length-i∧Ext w W∧∀j y,j<i→ps[j]?=Z y→f y=false
theorem zjf (w:X) (v:N) (ps:List (Int×Int)) (h:IsPts w v ps) :
  Calls Tryz.prog 211 #[v,.func (.func 166) #[] #[]] w fun e w'=>e = .returned (O Y (idxB farB ps))∧Ext w w':=by
 obtain⟨a,c,rfl⟩:=h.form;obtain⟨n,hn⟩:=gX ps.length;rw [hn]at h ⊢;have hle:=h.le;unfold maxLen at hle;have hnc:n≤9223372036854775807:=by omega
 have Hn:=hd9 hn;clear hn hle;go_enter Tryz.func211,Tryz.ntmps211;go_wp2
 go_loopg [8] n (IxS w farB ps)
 case atStart=>exact⟨0,by omega,rfl,by rw [Hn.out];rfl,eR _,fun j y hj=>by omega⟩
 case round =>
  obtain⟨i,hi,rfl,rfl,hx,hall⟩:=hrel;rw [Hn.out]at hi;have Hall:=hd9 hall;clear hall
  by_cases hlt:i<n
  ·obtain⟨q,hq⟩:∃q,ps[i]?=Z q:=⟨ps[i]'(by rw [Hn.out];omega),by simp [Hn.out,hlt]⟩
   obtain⟨qx,qz⟩:=q;obtain⟨b,o,rfl,hb,d0,d1⟩:=(h.ext' hx).at' hq;have Hq:=hd9 hq;clear hq
   by_cases hf:farB (qx,qz)=true
   ·have e:idxB farB ps=(i:Int):=zcx Hq.out hf Hall.out
    have E:=hd9 e;clear e
    go_wp2_with(((go_at_call 166;(with_reducible refine(zgW _ qx qz).mono ?_);rw [hf];rintro e w1 ⟨rfl,hx1⟩)))
    go_ret;exact⟨by rw [E.out];rfl,eA⟩
   ·have hf':farB (qx,qz)=false:=by simpa using hf
    go_wp2_with(((go_at_call 166;(with_reducible refine(zgW _ qx qz).mono ?_);rw [hf'];rintro e w1 ⟨rfl,hx1⟩)))
    go_roundg (n-(i+1))
    case measure=>have:=Hn.out;omega
    case rel =>
     refine⟨i+1,by have:=Hn.out;omega,by go_num,by rw [Hn.out],eA,fun j y hj hy=>?_⟩
     by_cases hji:j=i
     ·subst hji;rw [Hq.out]at hy;cases hy;exact hf'
     ·exact Hall.out j y (by omega) hy
  ·obtain rfl:i=n:=by omega
   have e:idxB farB ps = -1:=zcw (fun j y hj hy=>Hall.out j y (by rw [Hn.out]at hj;exact hj) hy);have E:=hd9 e;clear e;go_wp2;go_ret;exact⟨by rw [E.out];rfl,hx⟩
theorem ziH (w:X) (v:N) (ps:List (Int×Int)) (h:IsPts w v ps) :
  Calls Tryz.prog 167 #[v,.func (.func 166) #[] #[]] w fun e w'=>e = .returned (M (ps.any farB))∧Ext w w':=by
 rw [←ze0];obtain⟨x,hx⟩:=gX (idxB farB ps);have hc:=fun W (hW:Ext w W)=>zjf W v ps (h.ext' hW)
 rw [hx]at *;have Hc:=hd9 hc;clear hc hx;go_enter Tryz.func167,Tryz.ntmps167
 go_wp2_with(((go_at_call 211;(with_reducible refine(Hc.out _ ?_).mono ?_);exact eA;rintro e w1 ⟨rfl,hx1⟩)))
 go_ret;exact⟨rfl,eA⟩
def orL:List Int→Int
 | []=>0
 | x::xs=>if x=0 then orL xs else x
theorem zlK:∀{xs:List Int} {i:Nat} {x:Int},xs[i]?=Z x→x≠0→(∀j y,j<i→xs[j]?=Z y→y=0)→orL xs=x
 | [],_,_,h,_,_=>by simp at h
 | y::ys,0,x,h,h0,_=>by simp at h;subst h;simp [orL,h0]
 | y::ys,i+1,x,h,h0,hn=>by
  have hy:y=0:=hn 0 y (by omega) rfl;rw [orL,if_pos hy];exact zlK (by simpa using h) h0 (fun j z hj hz=>hn (j+1) z (by omega) (by simpa using hz))
theorem zhe:∀{xs:List Int},(∀(j:Nat) (y:Int),xs[j]?=Z y→y=0)→orL xs=0
 | [],_=>rfl
 | y::ys,h=>by rw [orL,if_pos (h 0 y rfl)];exact zhe (fun j z hz=>h (j+1) z (by simpa using hz))
def OrS (w:X) (xs:List Int) (g:Nat) (t8:N) (W:X):Prop:=
 ∃i:Nat,i≤xs.length∧t8=O Y i∧g=xs.length-i∧Ext w W∧∀j y,j<i→xs[j]?=Z y→y=0
theorem zm5 (w:X) (v:N) (xs:List Int) (h:Ints 3 w v xs) :
  Calls Tryz.prog 231 #[v] w fun e w'=>e = .returned (O Y (orL xs))∧Ext w w':=by
 obtain⟨a,c,rfl⟩:=h.form;obtain⟨n,hn⟩:=gX xs.length;rw [hn]at h ⊢;have hle:=h.le;unfold maxLen at hle;have hnc:n≤9223372036854775807:=by omega
 have Hn:=hd9 hn;clear hn hle;go_enter Tryz.func231,Tryz.ntmps231;go_wp2
 go_loopg [8] n (OrS w xs)
 case atStart=>exact⟨0,by omega,rfl,by rw [Hn.out];rfl,eR _,fun j y hj=>by omega⟩
 case round =>
  obtain⟨i,hi,rfl,rfl,hx,hall⟩:=hrel;rw [Hn.out]at hi;have Hall:=hd9 hall;clear hall
  by_cases hlt:i<n
  ·obtain⟨x,hq⟩:∃x,xs[i]?=Z x:=⟨xs[i]'(by rw [Hn.out];omega),by simp [Hn.out,hlt]⟩
   obtain⟨b,o,rfl,hb,hc⟩:=(h.ext hx).open (by rw [Hn.out];omega);have hcx:=hc i x hq;have Hq:=hd9 hq;clear hq hc
   by_cases h0:x=0
   ·subst h0
    go_wp2
    go_roundg (n-(i+1))
    case measure=>have:=Hn.out;omega
    case rel =>
     refine⟨i+1,by have:=Hn.out;omega,by go_num,by rw [Hn.out],hx,fun j y hj hy=>?_⟩
     by_cases hji:j=i
     ·subst hji;rw [Hq.out]at hy;cases hy;rfl
     ·exact Hall.out j y (by omega) hy
   ·have e:orL xs=x:=zlK Hq.out h0 Hall.out
    have E:=hd9 e;have hb1:(x != 0)=true:=by simpa using h0
    have hb2:(x==0)=false:=by simpa using h0
    clear e h0;go_wp2;go_ret;exact⟨by rw [E.out];rfl,hx⟩
  ·obtain rfl:i=n:=by omega
   have e:orL xs=0:=zhe (fun j y hy=>Hall.out j y (by have:=(lS.1 hy).1;rw [Hn.out]at this;exact this) hy);have E:=hd9 e;clear e;go_wp2;go_ret;exact⟨by rw [E.out];rfl,hx⟩
theorem zjA (w:X) (v:N) (xs:List Int) (h:Ints 3 w v xs) :
  Calls Tryz.prog 213 #[v] w fun e w'=>e = .returned (O Y (orL xs))∧Ext w w':=by
 obtain⟨x,hx⟩:=gX (orL xs);have hc:=fun W (hW:Ext w W)=>zm5 W v xs (h.ext hW)
 rw [hx]at *;have Hc:=hd9 hc;clear hc hx;go_enter Tryz.func213,Tryz.ntmps213
 go_wp2_with(((go_at_call 231;(with_reducible refine(Hc.out _ ?_).mono ?_);exact eA;rintro e w1 ⟨rfl,hx1⟩)))
 go_ret;exact⟨rfl,eA⟩
def lowC (p q:Int×Int):Int:=orL [cmp3 p.2 q.2,cmp3 p.1 q.1]
theorem ints2 (W:X) (x y:Int):Ints 3 (W.alloc (.cells #[O Y x,O Y y] 3)) (I (Z ⟨W.heap.size,0,V⟩) 2 2) [x,y]:=by
 refine⟨rfl,_,_,rfl,nE _,by unfold maxLen;omega,.inr ⟨W.heap.size,0,_,_,rfl,aN W _,?_⟩⟩;intro i v hv
 match i,hv with
 | 0,hv=>simpa [lits] using hv
 | 1,hv=>simpa [lits] using hv
 | i+2,hv=>simp [lits]at hv
theorem zjp (w:X) (px pz qx qz:Int) :
  Calls Tryz.prog 171 #[J #[O Y px,O Y pz],J #[O Y qx,O Y qz]] w fun e w'=>e = .returned (O Y (lowC (px,pz) (qx,qz)))∧Ext w w':=by
 obtain⟨r,hr⟩:=gX (lowC (px,pz) (qx,qz));rw [hr];have HR:Hid (orL [cmp3 pz qz,cmp3 px qx]=r):=hd9 hr;clear hr;go_enter Tryz.func171,Tryz.ntmps171;go_wp2
 go_region_held3 (fun W=>W.cell? ⟨w.heap.size,0,V⟩=Z (O Y px)∧W.cell? ⟨w.heap.size,1,V⟩=Z (O Y pz)∧W.cell? ⟨w.heap.size+1,0,V⟩=Z (O Y qx)∧W.cell? ⟨w.heap.size+1,1,V⟩=Z (O Y qz)) ((repeat' (with_reducible refine And.intro ?_ ?_))<;>(first|(go_simp;done)|(refine hx1.cellS ?_;go_simp;done))) (first|((go_at_call 214;(with_reducible refine(zdy _ pz qz).mono ?_);rintro e w1 ⟨rfl,hx1⟩;obtain⟨⟨hc1,hf1⟩,z1_0,z1_1⟩:=cK2 w hx1))|((go_at_call 214;(with_reducible refine(zdy _ px qx).mono ?_);rintro e w2 ⟨rfl,hx2⟩;obtain⟨⟨hc2,hf2⟩,z2_0,z2_1⟩:=cK2 w hx2;have e2_0_0:w.heap.size<w2.heap.size+1:=(by omega);have e2_1_0:w.heap.size+1<w2.heap.size+1:=(by omega)))|((go_at_call 213;(with_reducible refine(zjA _ (I (Z ⟨w2.heap.size,0,V⟩) 2 2) [cmp3 pz qz,cmp3 px qx] ?_).mono ?_);(refine ints2 _ _ _);rw [HR.out];rintro e w3 ⟨rfl,hx3⟩;obtain⟨⟨hc3,hf3⟩,z3_0,z3_1⟩:=cK2 w hx3)))
 all_goals go_wp2
 go_ret;exact⟨rfl,eA⟩
def lowP (m q:Int×Int):Int×Int:=if lowC q m<0 then q else m
def minP:List (Int×Int)→Int×Int
 | []=>(0,0)
 | p::ps=>ps.foldl lowP p
theorem zjt (ps:List (Int×Int)) (q:Int×Int) (h:ps≠[]):minP (ps++[q])=lowP (minP ps) q:=by
 cases ps with
 | nil=>exact absurd rfl h
 | cons p ps=>simp [minP]
def MnS (w:X) (ps:List (Int×Int)) (g:Nat) (t6:N) (W:X):Prop:=
 ∃i:Nat,1≤i∧i≤ps.length∧t6=O Y i∧g=ps.length-i∧Ext w W∧W.heap[w.heap.size]?=Z (.cells #[O Y 0,O Y 0] 33 (0,0)) ∧
  ∃x z,minP (ps.take i)=(x,z)∧W.heap[w.heap.size+1]?=Z (.cells #[O Y x,O Y z] 33 (0,0))
theorem zju (w:X) (v:N) (ps:List (Int×Int)) (h:IsPts w v ps) (h0:0<ps.length) :
  Calls Tryz.prog 170 #[v,.func (.func 171) #[] #[]] w fun e w'=>e = .returned (J #[O Y (minP ps).1,O Y (minP ps).2])∧Ext w w':=by
 obtain⟨a,c,rfl⟩:=h.form;obtain⟨n,hn⟩:=gX ps.length;rw [hn]at h ⊢;have hle:=h.le;unfold maxLen at hle;have hn0:0<n:=by omega
 have hn1:(1:Int)≤(n:Int):=by omega
 have hnc:n≤9223372036854775807:=by omega
 obtain⟨⟨x0,z0⟩,hp⟩:∃p,ps[0]?=Z p:=⟨ps[0],by simp⟩;obtain⟨b,o,rfl,hb,c0,c1⟩:=h.at' hp;simp only [Nat.zero_mul,Nat.add_zero]at c0 c1;have hb1:b<w.heap.size+1:=by omega
 have hm1:minP (ps.take 1)=(x0,z0):=by rw [zab _ _ _ hp];rfl
 have Hm1:=hd9 hm1;have Hn:=hd9 hn;clear hn hle hp h0 hm1;go_enter Tryz.func170,Tryz.ntmps170;go_wp2
 go_loopg [6] (n-1) (MnS w ps)
 case atStart =>
  exact⟨1,nE _,by rw [Hn.out];omega,rfl,by rw [Hn.out],eA,by rw [zae,if_neg (by simp)];exact qhA _ _ _ rfl,x0,z0,Hm1.out,qhA _ _ _ (by simp)⟩
 case round =>
  obtain⟨i,hi1,hi,rfl,rfl,hx,hR,x,z,hv,hO⟩:=hrel;rw [Hn.out]at hi;have r0:=qcB hR (i:=0) (u:=O Y 0) rfl;have r1:=qcB hR (i:=1) (u:=O Y 0) rfl;have rf0:=qfB hR 0;have rf1:=qfB hR 1;have o0:=qcB hO (i:=0) (u:=O Y x) rfl;have o1:=qcB hO (i:=1) (u:=O Y z) rfl;have of0:=qfB hO 0;have of1:=qfB hO 1;have zr:=zaa hR;have zo:=zaa hO;have HR:=hd9 hR;have HO:=hd9 hO;have HV:=hd9 hv;clear hR hO hv c0 c1
  by_cases hlt:i<n
  ·obtain⟨⟨qx,qz⟩,hq⟩:∃q,ps[i]?=Z q:=⟨ps[i]'(by rw [Hn.out];omega),by simp [Hn.out,hlt]⟩
   obtain⟨b',o',e',hb',d0,d1⟩:=(h.ext' hx).at' hq
   cases e'
   have hne:ps.take i≠[]:=by
    intro e;have h2:(ps.take i).length=0:=by rw [e];rfl
    rw [List.length_take,Hn.out]at h2;omega
   have hst:minP (ps.take (i+1))=lowP (x,z) (qx,qz):=by rw [zab _ _ _ hq,zjt _ _ hne,HV.out]
   obtain⟨C,hC⟩:=gX (lowC (qx,qz) (x,z));unfold lowP at hst;rw [hC]at hst;have Hst:=hd9 hst;have hlow:=fun W=>zjp W qx qz x z
   rw [hC]at hlow;have Hlow:=hd9 hlow;clear hq hst hne hC hlow;have p1:(0:Int)≤(i:Int):=by omega
   have p2:(i:Int)<(n:Int):=by omega
   by_cases hc:C<0
   ·have hcb:decide (C<0)=true:=by simpa using hc
    have Hc:=hd9 hc;clear hc;go_wp2
    go_region_held3 (fun W=>W.cell? ⟨b,o+i*2,V⟩=Z (O Y qx)∧W.cell? ⟨b,o+i*2+1,V⟩=Z (O Y qz)∧W.cell? ⟨w.heap.size+1,0,V⟩=Z (O Y x)∧W.cell? ⟨w.heap.size+1,1,V⟩=Z (O Y z)) ((repeat' (with_reducible refine And.intro ?_ ?_))<;>(first|(go_simp;done)|(refine hx1.cellS ?_;go_simp;done))) (((go_at_call 171;(with_reducible refine(Hlow.out _).mono ?_);rintro e w1 ⟨rfl,hx1⟩;obtain⟨⟨hc1,hf1⟩,z1_0,z1_1⟩:=cK2 w hx1)))
    all_goals go_wp2
    all_goals
     go_roundg (n-(i+1))
     case measure=>have:=Hn.out;omega
     case rel =>
      have hx9:Ext wr w1:=(eR wr).drew.trans hx1;have HR1:=hx9.heapS HR.out;have HO1:=hx9.heapS HO.out;have hst:=Hst.out
      first
       | (rw [if_pos Hc.out]at hst;exact⟨i+1,by omega,by rw [Hn.out];omega,by go_num,by rw [Hn.out],eA,by rw [bS _ _ _ _ (by dsimp only;omega),bS _ _ _ _ (by dsimp only;omega)];exact HR1,qx,qz,hst,zaO HO1 _ _⟩)
       | (rw [if_neg (by have:=Hc.out;omega)]at hst;exact⟨i+1,by omega,by rw [Hn.out];omega,by go_num,by rw [Hn.out],eA,HR1,x,z,hst,HO1⟩)
   ·have hcb:decide (C<0)=false:=by simpa using hc
    have Hc:=hd9 hc;clear hc;go_wp2
    go_region_held3 (fun W=>W.cell? ⟨b,o+i*2,V⟩=Z (O Y qx)∧W.cell? ⟨b,o+i*2+1,V⟩=Z (O Y qz)∧W.cell? ⟨w.heap.size+1,0,V⟩=Z (O Y x)∧W.cell? ⟨w.heap.size+1,1,V⟩=Z (O Y z)) ((repeat' (with_reducible refine And.intro ?_ ?_))<;>(first|(go_simp;done)|(refine hx1.cellS ?_;go_simp;done))) (((go_at_call 171;(with_reducible refine(Hlow.out _).mono ?_);rintro e w1 ⟨rfl,hx1⟩;obtain⟨⟨hc1,hf1⟩,z1_0,z1_1⟩:=cK2 w hx1)))
    all_goals go_wp2
    all_goals
     go_roundg (n-(i+1))
     case measure=>have:=Hn.out;omega
     case rel =>
      have hx9:Ext wr w1:=(eR wr).drew.trans hx1;have HR1:=hx9.heapS HR.out;have HO1:=hx9.heapS HO.out;have hst:=Hst.out
      first
       | (rw [if_pos Hc.out]at hst;exact⟨i+1,by omega,by rw [Hn.out];omega,by go_num,by rw [Hn.out],eA,by rw [bS _ _ _ _ (by dsimp only;omega),bS _ _ _ _ (by dsimp only;omega)];exact HR1,qx,qz,hst,zaO HO1 _ _⟩)
       | (rw [if_neg (by have:=Hc.out;omega)]at hst;exact⟨i+1,by omega,by rw [Hn.out];omega,by go_num,by rw [Hn.out],eA,HR1,x,z,hst,HO1⟩)
  ·obtain rfl:i=n:=by omega
   have hvv:=HV.out;rw [lT (by rw [Hn.out];omega)]at hvv;have HVV:=hd9 hvv;clear hvv;go_wp2;refine bR (v:=J #[O Y x,O Y z]) (by simp [results,Tryz.results170,go_sem,r0,r1]) rfl ⟨?_,eA⟩;rw [HVV.out]
def placedB (ps:List (Int×Int)):Bool:=!(ps.any farB)&&convexB ps&&(leastP ps==(0,0))&&(minP ps==ps.getD 0 (0,0))
theorem zdU {ps:List (Int×Int)} (h:ps.any farB=true):placedB ps=false:=by simp [placedB,h]
theorem zbJ {ps:List (Int×Int)} (h:convexB ps=false):placedB ps=false:=by simp [placedB,h]
theorem zlx {ps:List (Int×Int)} (h:ps.any farB=false):PBd 2000 ps:=by
 intro p hp;have h1:=(List.any_eq_false.1 h) p hp;simp [farB,wthn]at h1;unfold Bd;omega
theorem PBd.mono {j k:Int} {ps:List (Int×Int)} (h:PBd j ps) (hk:j≤k):PBd k ps:=fun p hp=>⟨(h p hp).1.mono hk,(h p hp).2.mono hk⟩
theorem zck {ps:List (Int×Int)} (h:convexB ps=true):3≤ps.length∧ps.length≤12:=by
 unfold convexB at h;rw [Bool.and_eq_true]at h;have:=h.1;simp [wthn]at this;omega
theorem zh2 (w:X) (v:N) (ps:List (Int×Int)) (h:IsPts w v ps) :
  Calls Tryz.prog 136 #[v] w fun e w'=>e = .returned (M (placedB ps))∧Ext w w':=by
 obtain⟨a,c,rfl⟩:=h.form;obtain⟨n,hn⟩:=gX ps.length;rw [hn]at h ⊢;have hfar:=fun W (hW:Ext w W)=>ziH W (I a n c) ps (h.ext' hW)
 by_cases hf:ps.any farB=true
 ·rw [zdU hf]
  rw [hf]at hfar;have Hfar:=hd9 hfar;clear hfar hf;go_enter Tryz.func136,Tryz.ntmps136
  go_wp2_with(((go_at_call 167;(with_reducible refine(Hfar.out _ ?_).mono ?_);exact eA;rintro e w1 ⟨rfl,hx1⟩)))
  go_ret;exact⟨rfl,eA⟩
 have hf':ps.any farB=false:=by simpa using hf
 have hbd:=zlx hf';rw [hf']at hfar;have Hfar:=hd9 hfar;have hcv:=fun W (hW:Ext w W)=>zhJ W (I a n c) ps (h.ext' hW) (hbd.mono (by decide))
 by_cases hc:convexB ps=true
 ·have hlen:=zck hc
  have h0:0<ps.length:=by omega
  rw [hc]at hcv;have Hcv:=hd9 hcv;have hle:=fun W (hW:Ext w W)=>zfG W (I a n c) ps (h.ext' hW) h0
  have hmi:=fun W (hW:Ext w W)=>zju W (I a n c) ps (h.ext' hW) h0
  obtain⟨⟨lx,lz⟩,hl⟩:∃p,leastP ps=p:=⟨_,rfl⟩;obtain⟨⟨mx,mz⟩,hm⟩:∃p,minP ps=p:=⟨_,rfl⟩;obtain⟨⟨px,pz⟩,hp⟩:∃p,ps[0]?=Z p:=⟨ps[0],by simp⟩;rw [hl]at hle;rw [hm]at hmi
  have hpl:placedB ps=((decide (lx=0)&&decide (lz=0))&&(decide (mx=px)&&decide (mz=pz))):=by
   unfold placedB;rw [hf',hc,hl,hm,gD,hp];rw [Bool.eq_iff_iff];simp [and_assoc]
  rw [hpl];have Hle:=hd9 hle;have Hmi:=hd9 hmi;obtain⟨b,o,rfl,hb,c0,c1⟩:=h.at' hp;simp only [Nat.zero_mul,Nat.add_zero]at c0 c1;have hn1:(0:Int)<(n:Int):=by rw [hn]at h0;omega
  clear hle hmi hcv hfar hf hf' hc hl hm hp hpl hn hlen hbd h0
  by_cases hll:lx=0∧lz=0
  ·obtain⟨rfl,rfl⟩:=hll
   have hn2:0<n:=by omega
   have cc1:mx=px∧mz=pz→Calls Tryz.prog 136 #[I (Z ⟨b,o,V⟩) n c] w fun e w'=>e = .returned (M ((decide ((0:Int)=0)&&decide ((0:Int)=0))&&(decide (mx=px)&&decide (mz=pz))))∧Ext w w':=by
    intro he;have f1:(mx==px)=true:=(by simpa using he.1);have f2:(mz==pz)=true:=(by simpa using he.2);have g1:(decide (mx=px)&&decide (mz=pz))=true:=(by simp [he.1,he.2]);rw [g1];clear g1 he;go_enter Tryz.func136,Tryz.ntmps136
    go_wp2_with(first|((go_at_call 167;(with_reducible refine(Hfar.out _ ?_).mono ?_);exact eA;rintro e w1 ⟨rfl,hx1⟩;obtain⟨hc1,hf1⟩:=hx1.cells;(have zb1:=hx1.lt hb)))|((go_at_call 168;(with_reducible refine(Hcv.out _ ?_).mono ?_);exact eA;rintro e w2 ⟨rfl,hx2⟩;obtain⟨hc2,hf2⟩:=hx2.cells;(have zb2:=hx2.lt zb1))))
    have zb3:b<w2.heap.size:=zb2
    go_region_held3 (fun W=>W.cell? ⟨b,o,V⟩=Z (O Y px)∧W.cell? ⟨b,o+1,V⟩=Z (O Y pz)) ((repeat' (with_reducible refine And.intro ?_ ?_))<;>(first|(go_simp;done)|(refine hx1.cellS ?_;go_simp;done))) (first|((go_at_call 169;(with_reducible refine(Hle.out _ ?_).mono ?_);exact eA;rintro e w3 ⟨rfl,hx3⟩;obtain⟨hc3,hf3⟩:=hx3.cells;(try simp only [qcD,qfD,qdZ]at hc3 hf3);(have zb4:=hx3.lt zb3)))|((go_at_call 170;(with_reducible refine(Hmi.out _ ?_).mono ?_);exact eA;rintro e w4 ⟨rfl,hx4⟩;obtain⟨hc4,hf4⟩:=hx4.cells;(try simp only [qcD,qfD,qdZ]at hc4 hf4))))
    all_goals go_wp2
    go_ret;exact⟨rfl,eA⟩
   have cc2:mx=px∧mz≠pz→Calls Tryz.prog 136 #[I (Z ⟨b,o,V⟩) n c] w fun e w'=>e = .returned (M ((decide ((0:Int)=0)&&decide ((0:Int)=0))&&(decide (mx=px)&&decide (mz=pz))))∧Ext w w':=by
    intro he;have f1:(mx==px)=true:=(by simpa using he.1);have f2:(mz==pz)=false:=(by simpa using he.2);have g1:(decide (mx=px)&&decide (mz=pz))=false:=(by simp [he.2]);rw [g1];clear g1 he;go_enter Tryz.func136,Tryz.ntmps136
    go_wp2_with(first|((go_at_call 167;(with_reducible refine(Hfar.out _ ?_).mono ?_);exact eA;rintro e w1 ⟨rfl,hx1⟩;obtain⟨hc1,hf1⟩:=hx1.cells;(have zb1:=hx1.lt hb)))|((go_at_call 168;(with_reducible refine(Hcv.out _ ?_).mono ?_);exact eA;rintro e w2 ⟨rfl,hx2⟩;obtain⟨hc2,hf2⟩:=hx2.cells;(have zb2:=hx2.lt zb1))))
    have zb3:b<w2.heap.size:=zb2
    go_region_held3 (fun W=>W.cell? ⟨b,o,V⟩=Z (O Y px)∧W.cell? ⟨b,o+1,V⟩=Z (O Y pz)) ((repeat' (with_reducible refine And.intro ?_ ?_))<;>(first|(go_simp;done)|(refine hx1.cellS ?_;go_simp;done))) (first|((go_at_call 169;(with_reducible refine(Hle.out _ ?_).mono ?_);exact eA;rintro e w3 ⟨rfl,hx3⟩;obtain⟨hc3,hf3⟩:=hx3.cells;(try simp only [qcD,qfD,qdZ]at hc3 hf3);(have zb4:=hx3.lt zb3)))|((go_at_call 170;(with_reducible refine(Hmi.out _ ?_).mono ?_);exact eA;rintro e w4 ⟨rfl,hx4⟩;obtain⟨hc4,hf4⟩:=hx4.cells;(try simp only [qcD,qfD,qdZ]at hc4 hf4))))
    all_goals go_wp2
    go_ret;exact⟨rfl,eA⟩
   have cc3:mx≠px→Calls Tryz.prog 136 #[I (Z ⟨b,o,V⟩) n c] w fun e w'=>e = .returned (M ((decide ((0:Int)=0)&&decide ((0:Int)=0))&&(decide (mx=px)&&decide (mz=pz))))∧Ext w w':=by
    intro he;have f1:(mx==px)=false:=(by simpa using he);have g1:(decide (mx=px)&&decide (mz=pz))=false:=(by simp [he]);rw [g1];clear g1 he;go_enter Tryz.func136,Tryz.ntmps136
    go_wp2_with(first|((go_at_call 167;(with_reducible refine(Hfar.out _ ?_).mono ?_);exact eA;rintro e w1 ⟨rfl,hx1⟩;obtain⟨hc1,hf1⟩:=hx1.cells;(have zb1:=hx1.lt hb)))|((go_at_call 168;(with_reducible refine(Hcv.out _ ?_).mono ?_);exact eA;rintro e w2 ⟨rfl,hx2⟩;obtain⟨hc2,hf2⟩:=hx2.cells;(have zb2:=hx2.lt zb1))))
    have zb3:b<w2.heap.size:=zb2
    go_region_held3 (fun W=>W.cell? ⟨b,o,V⟩=Z (O Y px)∧W.cell? ⟨b,o+1,V⟩=Z (O Y pz)) ((repeat' (with_reducible refine And.intro ?_ ?_))<;>(first|(go_simp;done)|(refine hx1.cellS ?_;go_simp;done))) (first|((go_at_call 169;(with_reducible refine(Hle.out _ ?_).mono ?_);exact eA;rintro e w3 ⟨rfl,hx3⟩;obtain⟨hc3,hf3⟩:=hx3.cells;(try simp only [qcD,qfD,qdZ]at hc3 hf3);(have zb4:=hx3.lt zb3)))|((go_at_call 170;(with_reducible refine(Hmi.out _ ?_).mono ?_);exact eA;rintro e w4 ⟨rfl,hx4⟩;obtain⟨hc4,hf4⟩:=hx4.cells;(try simp only [qcD,qfD,qdZ]at hc4 hf4))))
    all_goals go_wp2
    go_ret;exact⟨rfl,eA⟩
   by_cases e1:mx=px
   ·by_cases e2:mz=pz
    ·exact cc1 ⟨e1,e2⟩
    ·exact cc2 ⟨e1,e2⟩
   ·exact cc3 e1
  ·have hz:(decide (lx=0)&&decide (lz=0))=false:=by
    rw [Bool.and_eq_false_iff]
    by_cases h1:lx=0
    ·right;simp;exact fun h2=>hll ⟨h1,h2⟩
    ·left;simpa using h1
   rw [hz];clear hz;rw [Bool.false_and]
   have cc1:lx=0∧lz≠0→Calls Tryz.prog 136 #[I (Z ⟨b,o,V⟩) n c] w fun e w'=>e = .returned (M false)∧Ext w w':=by
    intro he;have f1:(lx==0)=true:=(by simpa using he.1);have f2:(lz==0)=false:=(by simpa using he.2);clear he;go_enter Tryz.func136,Tryz.ntmps136
    go_wp2_with(first|((go_at_call 167;(with_reducible refine(Hfar.out _ ?_).mono ?_);exact eA;rintro e w1 ⟨rfl,hx1⟩;obtain⟨hc1,hf1⟩:=hx1.cells;(have zb1:=hx1.lt hb)))|((go_at_call 168;(with_reducible refine(Hcv.out _ ?_).mono ?_);exact eA;rintro e w2 ⟨rfl,hx2⟩;obtain⟨hc2,hf2⟩:=hx2.cells;(have zb2:=hx2.lt zb1))))
    first|(go_region_with (((go_at_call 169;(with_reducible refine(Hle.out _ ?_).mono ?_);exact eA;rintro e w3 ⟨rfl,hx3⟩))))|fail
    all_goals go_wp2
    all_goals go_ret
    all_goals exact⟨rfl,eA⟩
   have cc2:lx≠0→Calls Tryz.prog 136 #[I (Z ⟨b,o,V⟩) n c] w fun e w'=>e = .returned (M false)∧Ext w w':=by
    intro he;have f1:(lx==0)=false:=(by simpa using he);clear he;go_enter Tryz.func136,Tryz.ntmps136
    go_wp2_with(first|((go_at_call 167;(with_reducible refine(Hfar.out _ ?_).mono ?_);exact eA;rintro e w1 ⟨rfl,hx1⟩;obtain⟨hc1,hf1⟩:=hx1.cells;(have zb1:=hx1.lt hb)))|((go_at_call 168;(with_reducible refine(Hcv.out _ ?_).mono ?_);exact eA;rintro e w2 ⟨rfl,hx2⟩;obtain⟨hc2,hf2⟩:=hx2.cells;(have zb2:=hx2.lt zb1))))
    first|(go_region_with (((go_at_call 169;(with_reducible refine(Hle.out _ ?_).mono ?_);exact eA;rintro e w3 ⟨rfl,hx3⟩))))|fail
    all_goals go_wp2
    all_goals go_ret
    all_goals exact⟨rfl,eA⟩
   by_cases e1:lx=0
   ·exact cc1 ⟨e1,fun h2=>hll ⟨e1,h2⟩⟩
   ·exact cc2 e1
 ·have hc':convexB ps=false:=by simpa using hc
  rw [zbJ hc'];rw [hc']at hcv;have Hcv:=hd9 hcv;clear hcv hc hc' hfar hf hf' hbd;go_enter Tryz.func136,Tryz.ntmps136
  go_wp2_with(first|((go_at_call 167;(with_reducible refine(Hfar.out _ ?_).mono ?_);exact eA;rintro e w1 ⟨rfl,hx1⟩))|((go_at_call 168;(with_reducible refine(Hcv.out _ ?_).mono ?_);exact eA;rintro e w2 ⟨rfl,hx2⟩)))
  go_ret;exact⟨rfl,eA⟩
theorem zht (w:X) (x z:Int) (hx:Bd 1000000 x) (hz:Bd 1000000 z) :
  Calls Tryz.prog 264 #[J #[O Y x,O Y z]] w fun e w'=>e = .returned (J #[O Y x,O Y z])∧Ext w w':=by
 obtain⟨h1,h2⟩:=hx;obtain⟨h3,h4⟩:=hz;have w1:IntKind.i64.wrap (-x) = -x:=iW _ ⟨by omega,by omega⟩;have w2:IntKind.i64.wrap (-z) = -z:=iW _ ⟨by omega,by omega⟩;go_enter Tryz.func264,Tryz.ntmps264;go_wp2;exact bR (v:=J #[O Y x,O Y z]) (by simp [results,Tryz.results264,go_sem]) rfl ⟨rfl,eA⟩
theorem zhu (w:X) (x z:Int) (hx:Bd 1000000 x) (hz:Bd 1000000 z) :
  Calls Tryz.prog 265 #[J #[O Y x,O Y z]] w fun e w'=>e = .returned (J #[O Y (-z),O Y x])∧Ext w w':=by
 obtain⟨h1,h2⟩:=hx;obtain⟨h3,h4⟩:=hz;have w1:IntKind.i64.wrap (-x) = -x:=iW _ ⟨by omega,by omega⟩;have w2:IntKind.i64.wrap (-z) = -z:=iW _ ⟨by omega,by omega⟩;go_enter Tryz.func265,Tryz.ntmps265;go_wp2;exact bR (v:=J #[O Y (-z),O Y x]) (by simp [results,Tryz.results265,go_sem]) rfl ⟨rfl,eA⟩
theorem zhv (w:X) (x z:Int) (hx:Bd 1000000 x) (hz:Bd 1000000 z) :
  Calls Tryz.prog 266 #[J #[O Y x,O Y z]] w fun e w'=>e = .returned (J #[O Y (-x),O Y (-z)])∧Ext w w':=by
 obtain⟨h1,h2⟩:=hx;obtain⟨h3,h4⟩:=hz;have w1:IntKind.i64.wrap (-x) = -x:=iW _ ⟨by omega,by omega⟩;have w2:IntKind.i64.wrap (-z) = -z:=iW _ ⟨by omega,by omega⟩;go_enter Tryz.func266,Tryz.ntmps266;go_wp2;exact bR (v:=J #[O Y (-x),O Y (-z)]) (by simp [results,Tryz.results266,go_sem]) rfl ⟨rfl,eA⟩
theorem zhw (w:X) (x z:Int) (hx:Bd 1000000 x) (hz:Bd 1000000 z) :
  Calls Tryz.prog 267 #[J #[O Y x,O Y z]] w fun e w'=>e = .returned (J #[O Y z,O Y (-x)])∧Ext w w':=by
 obtain⟨h1,h2⟩:=hx;obtain⟨h3,h4⟩:=hz;have w1:IntKind.i64.wrap (-x) = -x:=iW _ ⟨by omega,by omega⟩;have w2:IntKind.i64.wrap (-z) = -z:=iW _ ⟨by omega,by omega⟩;go_enter Tryz.func267,Tryz.ntmps267;go_wp2;exact bR (v:=J #[O Y z,O Y (-x)]) (by simp [results,Tryz.results267,go_sem]) rfl ⟨rfl,eA⟩
def pfarB (n:Int):Bool:=decide (n < -100000) || decide (100000<n)
theorem zbb (w:X) (n:Int):Calls Tryz.prog 85 #[O Y n] w fun e w'=>e = .returned (M (pfarB n))∧Ext w w':=by
 unfold pfarB
 by_cases h:n < -100000
 ·have h1:decide (n < -100000)=true:=by simpa using h
  go_enter Tryz.func85,Tryz.ntmps85;go_wp2;go_ret;exact⟨by simp [h1],eA⟩
 ·have h1:decide (n < -100000)=false:=by simpa using h
  go_enter Tryz.func85,Tryz.ntmps85;go_wp2;go_ret;exact⟨by simp [h1],eA⟩
theorem zfN (w:X) (n:Int):Calls Tryz.prog 85 #[O Y n] w fun e w'=>e = .returned (M (pfarB n))∧w'=w:=by
 unfold pfarB
 by_cases h:n < -100000
 ·have h1:decide (n < -100000)=true:=by simpa using h
  go_enter Tryz.func85,Tryz.ntmps85;go_wp2;go_ret;exact⟨by simp [h1],rfl⟩
 ·have h1:decide (n < -100000)=false:=by simpa using h
  go_enter Tryz.func85,Tryz.ntmps85;go_wp2;go_ret;exact⟨by simp [h1],rfl⟩
end
end Go.Proofs.YtodpfeaihohpjaaGreatDoor.Cop
