/- Part 24: contracts of what the law calls. -/
import Derived.Test.YteipgejmhfpkaaaGreatDoorCopA05
import Derived.Deep.LoopGhost
import Derived.Deep.CutBlock
import Derived.Deep.DeepCutAuto
import Derived.Test.YteipgejmhfpkaaaGreatDoorCopA22
set_option maxRecDepth 1000000
set_option maxHeartbeats 16000000
set_option linter.unusedSimpArgs false
set_option linter.unusedVariables false
open Go.Value renaming slice→O,bool→Y,agg→M,pointer→N,int→E
open Option renaming none→Z,some→I
open Go renaming World→X,Value→J
namespace Go.Proofs.YteipgejmhfpkaaaGreatDoor.Cop
section
open Go.RowKit Go.Shelf
def pickR (way:Int) (p q:Rat):Rat:=if rcmp q p=way then q else p
def foldR (way:Int):List Rat→Rat
 | []=>0
 | x::xs=>xs.foldl (pickR way) x
theorem zhT (way:Int) (xs:List Rat) (x:Rat) (h:xs≠[]):foldR way (xs++[x])=pickR way (foldR way xs) x:=by
 cases xs with
 | nil=>exact absurd rfl h
 | cons y ys=>simp [foldR]
theorem zfM (way:Int) (p q:Rat):pickR way p q=p∨pickR way p q=q:=by unfold pickR;split<;>simp
theorem zjw (way:Int) (P:Rat→Prop) (xs:List Rat) (h:∀x∈xs,P x) (h0:P 0):P (foldR way xs):=by
 cases xs with
 | nil=>exact h0
 | cons x xs =>
  have:∀(ys:List Rat) (a:Rat),P a→(∀y∈ys,P y)→P (ys.foldl (pickR way) a):=by
   intro ys
   induction ys with
   | nil=>intro a ha _;exact ha
   | cons y ys ih =>
    intro a ha hy;refine ih _ ?_ (fun z hz=>hy z (mC _ hz))
    rcases zfM way a y with e|e<;>rw [e]
    ·exact ha
    ·exact hy y (by simp)
  exact this xs x (h x (by simp)) (fun y hy=>h y (mC _ hy))
theorem Rb.zero {k:Nat} (hk:1≤k):Rb k 0:=⟨by have:=zaG zbQ k;unfold Lm;simp;omega,zhc hk⟩
theorem zgb (w:X) (va vb:J) (p q:Rat) (way:Int) (bw:Nat) (ha:IsR w va p) (hb:IsR w vb q) (hba:Rb limR p) (hbb:Rb limR q) (hw:w.cell? ⟨bw,0,Z⟩=I (E .i64 way)) :
  Calls Tryz.prog 194 #[va,vb,N (I ⟨bw,0,Z⟩)] w (RetR w (pickR way p q)):=by
 obtain⟨a,m,c,s,a2,m2,c2,rfl⟩:=ha.form;obtain⟨a',m',c',s',a2',m2',c2',rfl⟩:=hb.form;have HBa:=hd9 hba;have HBb:=hd9 hbb;clear hba hbb;have zw:bw<w.heap.size:=World.block_lt_of_cell? w _ hw;have zwa:bw<w.heap.size+1:=by omega
 have zwb:bw<w.heap.size+1+1:=by omega
 by_cases hc:rcmp q p=way
 ·have hcb:(rcmp q p==way)=true:=by simpa using hc
  have hR:IsR w (M #[O a' m' c',Y s',O a2' m2' c2']) (pickR way p q):=by unfold pickR;first|(rw [if_pos hc];exact hb)|(rw [if_neg hc];exact ha)
  clear hc;go_enter Tryz.func194,Tryz.ntmps194;go_wp2
  go_region_held3 (fun W=>W.cell? ⟨w.heap.size,0,Z⟩=I (O a m c)∧W.cell? ⟨w.heap.size,1,Z⟩=I (Y s)∧W.cell? ⟨w.heap.size,2,Z⟩=I (O a2 m2 c2)∧W.cell? ⟨w.heap.size+1,0,Z⟩=I (O a' m' c')∧W.cell? ⟨w.heap.size+1,1,Z⟩=I (Y s')∧W.cell? ⟨w.heap.size+1,2,Z⟩=I (O a2' m2' c2')∧W.cell? ⟨bw,0,Z⟩=I (E .i64 way)) ((repeat' (with_reducible refine And.intro ?_ ?_))<;>(first|(go_simp;done)|(refine hx1.cellS ?_;go_simp;done))) (((go_at_call 104;(with_reducible refine(zaP _ (M #[O a' m' c',Y s',O a2' m2' c2']) (M #[O a m c,Y s,O a2 m2 c2]) q p ?_ ?_ HBb.out HBa.out).mono ?_);(refine hb.ext ?_;exact eA);(refine ha.ext ?_;exact eA);rintro e w1 ⟨rfl,hx1⟩;obtain⟨⟨hc1,hf1⟩,z1_0,z1_1,z1_2⟩:=cK3 w hx1;(have zw1:=hx1.lt (n:=bw) (by simp only [wZ,qdZ];omega)))))
  all_goals go_wp2
  exact bR (v:=M #[O a' m' c',Y s',O a2' m2' c2']) (by simp [results,Tryz.results194,go_sem,hc1]) rfl ⟨_,rfl,IsR.keep (w:=w1) (hR.ext eA) kA,eA⟩
 ·have hcb:(rcmp q p==way)=false:=by simpa using hc
  have hR:IsR w (M #[O a m c,Y s,O a2 m2 c2]) (pickR way p q):=by unfold pickR;first|(rw [if_pos hc];exact hb)|(rw [if_neg hc];exact ha)
  clear hc;go_enter Tryz.func194,Tryz.ntmps194;go_wp2
  go_region_held3 (fun W=>W.cell? ⟨w.heap.size,0,Z⟩=I (O a m c)∧W.cell? ⟨w.heap.size,1,Z⟩=I (Y s)∧W.cell? ⟨w.heap.size,2,Z⟩=I (O a2 m2 c2)∧W.cell? ⟨w.heap.size+1,0,Z⟩=I (O a' m' c')∧W.cell? ⟨w.heap.size+1,1,Z⟩=I (Y s')∧W.cell? ⟨w.heap.size+1,2,Z⟩=I (O a2' m2' c2')∧W.cell? ⟨bw,0,Z⟩=I (E .i64 way)) ((repeat' (with_reducible refine And.intro ?_ ?_))<;>(first|(go_simp;done)|(refine hx1.cellS ?_;go_simp;done))) (((go_at_call 104;(with_reducible refine(zaP _ (M #[O a' m' c',Y s',O a2' m2' c2']) (M #[O a m c,Y s,O a2 m2 c2]) q p ?_ ?_ HBb.out HBa.out).mono ?_);(refine hb.ext ?_;exact eA);(refine ha.ext ?_;exact eA);rintro e w1 ⟨rfl,hx1⟩;obtain⟨⟨hc1,hf1⟩,z1_0,z1_1,z1_2⟩:=cK3 w hx1;(have zw1:=hx1.lt (n:=bw) (by simp only [wZ,qdZ];omega)))))
  all_goals go_wp2
  exact bR (v:=M #[O a m c,Y s,O a2 m2 c2]) (by simp [results,Tryz.results194,go_sem,hc1]) rfl ⟨_,rfl,IsR.keep (w:=w1) (hR.ext eA) kA,eA⟩
def FoS (w:X) (way:Int) (qs:List Rat) (g:Nat) (t10:J) (W:X):Prop:=
 ∃i:Nat,i≤qs.length∧t10=E .i64 i∧g=qs.length-i∧Ext w W∧RB W w.heap.size 0∧RB W (w.heap.size+1) (foldR way (qs.take i))
theorem zlJ (w:X) (v:J) (qs:List Rat) (way:Int) (bw:Nat) (hs:IsRs w v qs) (hb:∀q∈qs,Rb limR q) (hw:w.cell? ⟨bw,0,Z⟩=I (E .i64 way)) :
  Calls Tryz.prog 193 #[v,.func (.func 194) #[] #[N (I ⟨bw,0,Z⟩)]] w (RetR w (foldR way qs)):=by
 obtain⟨a,c,rfl⟩:=hs.form;obtain⟨n,hn⟩:=gX qs.length;rw [hn]at hs ⊢;have hle:=hs.le;unfold maxLen at hle;have Hn:=hd9 hn;have Hb:=hd9 hb;have zw:bw<w.heap.size:=World.block_lt_of_cell? w _ hw;have hnc:n≤9223372036854775807:=by omega
 clear hn hb hle;go_enter Tryz.func193,Tryz.ntmps193;go_wp2
 go_loopg [10] n (FoS w way qs)
 case atStart =>
  refine⟨0,by omega,rfl,by rw [Hn.out];rfl,eA,RB.ext (W:=w.alloc (.cells #[O Z 0 0,Y false,O Z 0 0] 56)) (RB.new (IsR.zero _) rfl) eA,RB.new (IsR.zero _) (by simp)⟩
 case round =>
  obtain⟨i,hi,rfl,rfl,hx,hR,hO⟩:=hrel;rw [Hn.out]at hi;have Hx:=hd9 hx;obtain⟨a0,m0,c0,s0,a20,m20,c20,r0,r1,r2,rf0,rf1,rf2,zr,hzr⟩:=hR.rd;obtain⟨a1,m1,c1,s1,a21,m21,c21,o0,o1,o2,of0,of1,of2,zo,hzo⟩:=hO.rd
  by_cases hlt:i<n
  ·obtain⟨x,hxi⟩:∃x,qs[i]?=I x:=⟨qs[i]'(by rw [Hn.out];omega),by simp [Hn.out,hlt]⟩
   obtain⟨b,o,a3,m3,c3,s3,a4,m4,c4,rfl,hbl,hzx,e0,e1,e2⟩:=(hs.ext' hx).at' hxi;have Hxi:=hd9 hxi;clear hxi
   by_cases h0:i=0
   ·have h0b:((i:Int)==0)=true:=by simp;omega
    have H0:=hd9 h0;clear h0;go_wp2
    go_roundg (n-(i+1))
    case measure=>have:=Hn.out;omega
    case rel =>
     have hN:=hO.not
     have e:foldR way (qs.take (i+1))=x:=by
      have:=H0.out;subst this;rw [zaa _ _ _ Hxi.out];simp [foldR]
     exact⟨i+1,by have:=Hn.out;omega,by go_num,by rw [Hn.out],eA,
      (((hR.other (by dsimp only;omega) hN _).other (by dsimp only;omega) (hN.set _ _) _).other (by dsimp only;omega) ((hN.set _ _).set _ _) _).ext ((eR _).alloc _),
      by rw [e];exact(hO.put hzx).ext ((eR _).alloc _)⟩
   ·have h0b:((i:Int)==0)=false:=by simp;omega
    have H0:=hd9 h0;have HBo:Hid (Rb limR (foldR way (qs.take i))):=hd9 (zjw way _ _ (fun q hq=>Hb.out q (List.mem_of_mem_take hq)) (Rb.zero (by decide)));have HBx:Hid (Rb limR x):=hd9 (Hb.out x (lM Hxi.out));clear h0
    go_wp2_with(((go_at_call 194;(with_reducible refine(zgb _ (M #[O a1 m1 c1,Y s1,O a21 m21 c21]) (M #[O a3 m3 c3,Y s3,O a4 m4 c4]) (foldR way (qs.take i)) x way bw ?_ ?_ HBo.out HBx.out ?_).mono ?_);(refine hzo.ext ?_;exact eA);(refine hzx.ext ?_;exact eA);(refine Ext.cellS (a:=w) ?_ hw;exact eA);rintro e w1 ⟨r1,rfl,hr1,hx1⟩;obtain⟨b1,n1,k1,t1,b2,n2,k2,rfl⟩:=hr1.form;obtain⟨⟨hc1,hf1⟩,z1_0,z1_1⟩:=cK2 w hx1)))
    go_roundg (n-(i+1))
    case measure=>have:=Hn.out;omega
    case rel =>
     have hx9:Ext wr w1:=((eR wr).alloc _).trans hx1;have hO1:=hO.ext hx9;have hR1:=hR.ext hx9;have hN:=hO1.not
     have e:foldR way (qs.take (i+1))=pickR way (foldR way (qs.take i)) x:=by
      rw [zaa _ _ _ Hxi.out,zhT];intro h;have h2:(qs.take i).length=0:=by rw [h];rfl
      rw [List.length_take,Hn.out]at h2;have:=H0.out;omega
     exact⟨i+1,by have:=Hn.out;omega,by go_num,by rw [Hn.out],eA,
      (((hR1.other (by dsimp only;omega) hN _).other (by dsimp only;omega) (hN.set _ _) _).other (by dsimp only;omega) ((hN.set _ _).set _ _) _),
      by rw [e];exact hO1.put hr1⟩
  ·obtain rfl:i=n:=by omega
   have e:foldR way (qs.take i)=foldR way qs:=by rw [lT (by rw [Hn.out];omega)]
   rw [e]at hzo;clear e;have hN:=hR.not;go_wp2;exact bR (v:=M #[O a1 m1 c1,Y s1,O a21 m21 c21]) (by simp [results,Tryz.results193,go_sem,r0,r1,r2]) rfl ⟨_,rfl,hzo.keep kA,eA⟩
theorem zet (w:X) (v:J) (qs:List Rat) (way:Int) (hs:IsRs w v qs) (hb:∀q∈qs,Rb limR q) :
  Calls Tryz.prog 150 #[v,E .i64 way] w (RetR w (foldR way qs)):=by
 obtain⟨a,c,rfl⟩:=hs.form;have hmf:∀(fn:Fn) (first cap:Array J) (w:X),(Instr.makeFunc fn first cap).run Tryz.prog w = .ok (.func fn first cap) w:=fun _ _ _ _=>rfl
 have Hb:=hd9 hb;obtain⟨n,hn⟩:=gX qs.length;rw [hn]at hs ⊢;clear hb hn;go_enter Tryz.func150,Tryz.ntmps150
 go_wp2_with(((go_at_call 193;(with_reducible refine(zlJ _ (O a n c) qs way w.heap.size ?_ Hb.out ?_).mono ?_);(refine hs.ext' ?_;exact eA);(focus(go_simp;done));rintro e w1 ⟨r1,rfl,hr1,hx1⟩;obtain⟨b1,n1,k1,t1,b2,n2,k2,rfl⟩:=hr1.form;obtain⟨⟨hc1,hf1⟩,z1_0,z1_1⟩:=cK2 w hx1)))
 exact bR (v:=M #[O b1 n1 k1,Y t1,O b2 n2 k2]) (by simp [results,Tryz.results150,go_sem,hc1]) rfl ⟨_,rfl,hr1.keep kA,eA⟩
theorem zcg (w:X) (v:J) (qs:List Rat) (hs:IsRs w v qs) (hb:∀q∈qs,Rb limR q) :
  Calls Tryz.prog 109 #[v] w (RetR w (foldR (-1) qs)):=by
 obtain⟨a,c,rfl⟩:=hs.form;have Hb:=hd9 hb;obtain⟨n,hn⟩:=gX qs.length;rw [hn]at hs ⊢;clear hb hn;go_enter Tryz.func109,Tryz.ntmps109
 go_wp2_with(((go_at_call 150;(with_reducible refine(zet _ (O a n c) qs (-1) ?_ Hb.out).mono ?_);(refine hs.ext' ?_;exact eA);rintro e w1 ⟨r1,rfl,hr1,hx1⟩;obtain⟨b1,n1,k1,t1,b2,n2,k2,rfl⟩:=hr1.form;obtain⟨⟨hc1,hf1⟩,z1_0⟩:=cK1 w hx1)))
 exact bR (v:=M #[O b1 n1 k1,Y t1,O b2 n2 k2]) (by simp [results,Tryz.results109,go_sem,hc1]) rfl ⟨_,rfl,hr1.keep kA,eA⟩
theorem zcf (w:X) (v:J) (qs:List Rat) (hs:IsRs w v qs) (hb:∀q∈qs,Rb limR q) :
  Calls Tryz.prog 110 #[v] w (RetR w (foldR (1) qs)):=by
 obtain⟨a,c,rfl⟩:=hs.form;have Hb:=hd9 hb;obtain⟨n,hn⟩:=gX qs.length;rw [hn]at hs ⊢;clear hb hn;go_enter Tryz.func110,Tryz.ntmps110
 go_wp2_with(((go_at_call 150;(with_reducible refine(zet _ (O a n c) qs (1) ?_ Hb.out).mono ?_);(refine hs.ext' ?_;exact eA);rintro e w1 ⟨r1,rfl,hr1,hx1⟩;obtain⟨b1,n1,k1,t1,b2,n2,k2,rfl⟩:=hr1.form;obtain⟨⟨hc1,hf1⟩,z1_0⟩:=cK1 w hx1)))
 exact bR (v:=M #[O b1 n1 k1,Y t1,O b2 n2 k2]) (by simp [results,Tryz.results110,go_sem,hc1]) rfl ⟨_,rfl,hr1.keep kA,eA⟩
end
section
open Go.RowKit Go.Shelf
attribute [local go_sem] Oper.semAt_some
def widR (o:Rat×Rat) (x:Rat):Rat×Rat:=(foldR (-1) [o.1,x],foldR 1 [o.2,x])
def reachStep (f:Rat→Rat) (o:Rat×Rat) (x:Rat):Rat×Rat:=if (f x).num.sign≤0 then widR o x else o
def crossR (f:Rat→Rat) (y x:Rat):Rat:=y+f y / (f y-f x)*(x-y)
def reachCross (f:Rat→Rat) (o:Rat×Rat) (y x:Rat):Rat×Rat:=if (f x).num.sign*(f y).num.sign<0 then widR o (crossR f y x)else o
def reachN (f:Rat→Rat) (qs:List Rat) (o:Rat×Rat):Nat→Rat×Rat
 | 0=>o
 | i+1=>if i=0 then reachStep f (reachN f qs o i) (qs.getD i 0)else reachCross f (reachStep f (reachN f qs o i) (qs.getD i 0)) (qs.getD (i-1) 0) (qs.getD i 0)
def pinG (s:Sp) (pin:Int) (x:Rat):Rat:=gapR s x-(pin:Rat)
def reachNo (s:Sp) (pin:Int):Bool:=decide ((leastR s).2.num.sign<0) || decide (0<rcmp (leastR s).2 (pin:Rat))
def reachP (s:Sp) (pin:Int):Option (Rat×Rat):=
 if reachNo s pin=true then Z else I (reachN (pinG s pin) (stopsR s) ((leastR s).1,(leastR s).1) (stopsR s).length)
theorem Rb.up {j k:Nat} {q:Rat} (h:Rb j q) (hk:j≤k):Rb k q:=by exact⟨h.1.mono hk,h.2.mono hk⟩
theorem zfs {P:Rat→Prop} (way:Int) {p q:Rat} (hp:P p) (hq:P q):P (foldR way [p,q]):=by
 show P (pickR way p q)
 rcases zfM way p q with e|e<;>rw [e]<;>assumption
theorem Rb.wid {k:Nat} {o:Rat×Rat} {x:Rat} (h:Rb k o.1∧Rb k o.2) (hx:Rb k x):Rb k (widR o x).1∧Rb k (widR o x).2:=⟨zfs _ h.1 hx,zfs _ h.2 hx⟩
theorem Rb.pin_g {s:Sp} {pin:Int} {x:Rat} (hx:Rb 1 x) (h:SpOk s) (hp:Bd 104000 pin):Rb 47 (pinG s pin x):=
 (Rb.gap hx h).sub (Rb.int (by unfold Bd at hp;unfold Lm;have h9:(B:Int) ^ 23 ≥ 104001:=(by decide);omega) (by decide))
theorem Rb.cross {f:Rat→Rat} {y x:Rat} (hy:Rb 1 y) (hx:Rb 1 x) (hf:Rb 47 (f y)) (hg:Rb 47 (f x)):Rb 291 (crossR f y x):=by
 have h1:Rb (47+(2*47+1)+(2*1+1)) (f y / (f y-f x)*(x-y)):=(hf.div (hf.sub hg) (by decide)).mul (hx.sub hy);exact(hy.up (by decide:1≤145)).add h1
theorem Rb.reach_n {f:Rat→Rat} {qs:List Rat} {o:Rat×Rat} (ho:Rb 300 o.1∧Rb 300 o.2) (hq:∀q∈qs,Rb 1 q) (hf:∀q∈qs,Rb 47 (f q)):∀n,n≤qs.length→Rb 300 (reachN f qs o n).1∧Rb 300 (reachN f qs o n).2:=by
 intro n
 induction n with
 | zero=>intro _;exact ho
 | succ i ih =>
  intro hi;have h0:=ih (by omega);have hm:qs.getD i 0∈qs:=by rw [gD,gE (by omega)];exact List.getElem_mem _
  have h1:Rb 300 (reachStep f (reachN f qs o i) (qs.getD i 0)).1∧Rb 300 (reachStep f (reachN f qs o i) (qs.getD i 0)).2:=by
   unfold reachStep
   split
   ·exact Rb.wid h0 ((hq _ hm).up (by decide))
   ·exact h0
  unfold reachN
  split
  ·exact h1
  ·have hm':qs.getD (i-1) 0∈qs:=by rw [gD,gE (by omega)];exact List.getElem_mem _
   unfold reachCross
   split
   ·exact Rb.wid h1 ((Rb.cross (hq _ hm') (hq _ hm) (hf _ hm') (hf _ hm)).up (by decide))
   ·exact h1
theorem OwnR.setOther {w:X} {base:Nat} {v:J} {qs:List Rat} (h:OwnR w base v qs) {p:Addr} (hp:p.block<base) (hn:NoT 2 w p.block) (u:J):OwnR (w.setCell p u) base v qs:=by
 obtain⟨cs,h1,h2,h3⟩:=h;refine⟨cs,h1.setOther (fun e=>?_) u,h2,fun i c q hc hq=>IsR.keep (h3 i c q hc hq) (KeepT.setN (KeepT.refl _ _) hn u)⟩;have:=(h1.lt _ e).1;omega
def RcW (w:X) (s:Sp) (v1 v2 vq:J) (qs:List Rat) (o:Rat×Rat) (W:X):Prop:=
 Ext w W∧w.heap.size+1+1+1≤W.heap.size∧W.heap[w.heap.size]?=I (.cells #[v1,v2,E .i64 s.lo,E .i64 s.hi] 152 (0,0)) ∧
  RB W (w.heap.size+1) o.1∧RB W (w.heap.size+1+1) o.2∧OwnR W (w.heap.size+1+1+1) vq qs
theorem RcW.ext {w:X} {s:Sp} {v1 v2 vq:J} {qs:List Rat} {o:Rat×Rat} {W W':X} (h:RcW w s v1 v2 vq qs o W) (k:Ext W W'):RcW w s v1 v2 vq qs o W':=
 ⟨h.1.trans k,nT h.2.1 k.size,k.heapS h.2.2.1,h.2.2.2.1.ext k,h.2.2.2.2.1.ext k,h.2.2.2.2.2.ext k⟩
theorem zbP (W:X) {b:Nat} (hb:b=W.heap.size) {a a2 e e2:Option Addr} {m c m2 c2 n k n2 k2:Nat} {s t:Bool} {p q:Rat} (h1:IsR W (M #[O a m c,Y s,O a2 m2 c2]) p) (h2:IsR W (M #[O e n k,Y t,O e2 n2 k2]) q) :
  IsRs (W.alloc (.cells #[O a m c,Y s,O a2 m2 c2,O e n k,Y t,O e2 n2 k2] 56)) (O (I ⟨b,0,Z⟩) 2 2) [p,q]:=by
 subst hb;have hE:Ext W (W.alloc (.cells #[O a m c,Y s,O a2 m2 c2,O e n k,Y t,O e2 n2 k2] 56)):=(eR W).alloc _;refine⟨[[O a m c,Y s,O a2 m2 c2],[O e n k,Y t,O e2 n2 k2]],rfl,by simp,⟨rfl,_,_,rfl,nE _,by unfold maxLen;decide,.inr ⟨_,0,_,_,rfl,aN W _,fun i x h=>by simpa using h⟩⟩,fun i c' x hc hx=>?_⟩
 match i,hc,hx with
 | 0,hc,hx=>cases hc;cases hx;exact h1.ext hE
 | 1,hc,hx=>cases hc;cases hx;exact h2.ext hE
 | i+2,hc,hx=>simp at hc
theorem RcW.put2 {w:X} {s:Sp} {v1 v2 vq:J} {qs:List Rat} {o:Rat×Rat} {W:X} (h:RcW w s v1 v2 vq qs o W) {a a2 e e2:Option Addr} {m c m2 c2 n k n2 k2:Nat} {s1 t:Bool} {p q:Rat}
  (hz1:IsR W (M #[O a m c,Y s1,O a2 m2 c2]) p) (hz2:IsR W (M #[O e n k,Y t,O e2 n2 k2]) q) {W1 W2:X}
  (hW1:((W.setCell ⟨w.heap.size+1,0,Z⟩ (O a m c)).setCell ⟨w.heap.size+1,1,Z⟩ (Y s1)).setCell ⟨w.heap.size+1,2,Z⟩ (O a2 m2 c2)=W1)
  (hW2:((W1.setCell ⟨w.heap.size+1+1,0,Z⟩ (O e n k)).setCell ⟨w.heap.size+1+1,1,Z⟩ (Y t)).setCell ⟨w.heap.size+1+1,2,Z⟩ (O e2 n2 k2)=W2) :
  RcW w s v1 v2 vq qs (p,q) W2∧W2.heap.size=W.heap.size∧(∀b r,w.heap.size+1+1<b→RB W b r→RB W2 b r):=by
 obtain⟨h1,h2,h3,h4,h5,h6⟩:=h;obtain⟨q1,q2,q3,q4,q5,q6⟩:=RB.copy2 h4 h5 (by omega) hz1 hz2 hW1 hW2;have N1:=h4.not;have N2:=h5.not;refine⟨⟨q6 w h1 (by omega) (by omega),by omega,?_,q1,q2,?_⟩,q5,fun b r hb=>q3 b r (by omega) (by omega)⟩
 ·rw [←hW2,←hW1]
  repeat rw [bS _ _ _ _ (by dsimp only;omega)]
  exact h3
 ·have b1:w.heap.size+1<w.heap.size+1+1+1:=by omega
  have b2:w.heap.size+1+1<w.heap.size+1+1+1:=by omega
  have g1:=((h6.setOther (p:=⟨w.heap.size+1,0,Z⟩) b1 N1 (O a m c)).setOther (p:=⟨w.heap.size+1,1,Z⟩) b1 (N1.set _ _) (Y s1)).setOther (p:=⟨w.heap.size+1,2,Z⟩) b1 ((N1.set _ _).set _ _) (O a2 m2 c2);rw [hW1]at g1;have m0:NoT 2 W1 (w.heap.size+1+1):=by rw [←hW1];exact((N2.set _ _).set _ _).set _ _
  have g2:=((g1.setOther (p:=⟨w.heap.size+1+1,0,Z⟩) b2 m0 (O e n k)).setOther (p:=⟨w.heap.size+1+1,1,Z⟩) b2 (m0.set _ _) (Y t)).setOther (p:=⟨w.heap.size+1+1,2,Z⟩) b2 ((m0.set _ _).set _ _) (O e2 n2 k2);rw [hW2]at g2;exact g2
def RetRc (w:X) (o:Option (Rat×Rat)) (e:Ending) (w':X):Prop:=Ext w w'∧∃r1 r2,IsR w' r1 (o.getD (0,0)).1∧IsR w' r2 (o.getD (0,0)).2∧e = .returned (.tuple #[r1,r2,Y o.isSome])
theorem zkv {k:Nat} {pin:Int} (h:Bd 104000 pin) (hk:1≤k):Rb k (pin:Rat):=(zbx h).up hk
theorem zl8 (w:X) (v1 v2:J) (s:Sp) (pin:Int) (h1:IsPts w v1 s.over) (h2:IsPts w v2 s.under) (hok:SpOk s) (hp:Bd 104000 pin) (hno:reachNo s pin=true) :
  Calls Tryz.prog 70 #[spc s v1 v2,E .i64 pin] w (RetRc w (reachP s pin)):=by
 have HS:=hd9 (fun(W:X) (hW:Ext w W)=>zdc W v1 v2 s (h1.ext' hW) (h2.ext' hW) hok);obtain⟨a1,m1,rfl⟩:=h1.form;obtain⟨a2,m2,rfl⟩:=h2.form;obtain⟨n1,f1⟩:=gX s.over.length;obtain⟨n2,f2⟩:=gX s.under.length;obtain⟨lo,elo⟩:=gX s.lo;obtain⟨hi,ehi⟩:=gX s.hi;have Hb2:=hd9 (show Rb 23 (leastR s).2 by obtain⟨j1,j2⟩:=zbg (gapR s) (zbM s);unfold leastR;rw [j2];exact Rb.gap (zam hok _ j1) hok);have Hp:=hd9 hp;have hp1 : -9223372036854775808≤pin:=by unfold Bd at hp;omega
 have hp2:pin≤9223372036854775807:=by unfold Bd at hp;omega
 have HC:=hd9 (fun(W:X) (va vb:J) (ha:IsR W va (leastR s).2) (hb:IsR W vb (pin:Rat))=>zaP W va vb _ _ ha hb (zan Hb2.out (by omega)) (zan (zkv (k:=1) Hp.out (by omega)) (by omega)));have hR:reachP s pin=Z:=by unfold reachP;rw [if_pos hno]
 rw [hR];unfold reachNo at hno;obtain⟨q1,hq1⟩:=gX ((leastR s).1);obtain⟨q2,hq2⟩:=gX ((leastR s).2);unfold spc at HS ⊢;rw [hq2]at hno HC Hb2;rw [hq1,hq2]at HS;simp only [f1,f2,elo,ehi]at HS ⊢;clear h1 h2 hok f1 f2 elo ehi hR hq1 hq2 hp;go_enter Tryz.func70,Tryz.ntmps70
 go_wp2_with(((go_at_call 102;(with_reducible refine(HS.out _ ?_).mono ?_);exact eA;rintro e w1 ⟨r1,r2,rfl,hr1,hr2,hx1⟩;obtain⟨a4,m4,c4,s4,b4,n4,k4,rfl⟩:=hr1.form;obtain⟨a5,m5,c5,s5,b5,n5,k5,rfl⟩:=hr2.form;obtain⟨⟨hc1,hf1⟩,z1_0,z1_1,z1_2⟩:=cK3 w hx1)))
 obtain⟨W8,hW8⟩:=gX (((w1.alloc (.cells #[O a4 m4 c4,Y s4,O b4 n4 k4] 56)).alloc (.cells #[O a5 m5 c5,Y s5,O b5 n5 k5] 56)));have hX18:Ext w1 W8:=by rw [←hW8];exact((eR _).alloc _).alloc _
 have hX8:Ext w W8:=(((((eR w).alloc _).alloc _).alloc _).trans hx1).trans hX18;have g1:RB W8 w1.heap.size q1:=by rw [←hW8];exact(RB.new hr1 rfl).ext ((eR _).alloc _)
 have g2:RB W8 (w1.heap.size+1) q2:=by rw [←hW8];exact RB.new (hr2.ext ((eR _).alloc _)) (by simp)
 have g3:RB W8 (w.heap.size+1) 0:=(((RB.new (IsR.zero _) (by simp)).ext ((eR _).alloc _)).ext hx1).ext hX18;have g4:RB W8 (w.heap.size+1+1) 0:=((RB.new (IsR.zero _) (by simp)).ext hx1).ext hX18;have zW:w1.heap.size+1<W8.heap.size:=by rw [←hW8];simp
 have g20:=qcB (show W8.heap[w1.heap.size+1]?=I (.cells #[O a5 m5 c5,Y s5,O b5 n5 k5] 56 (0,0)) by rw [←hW8];exact qhA _ _ _ (by simp)) (i:=0) (u:=O a5 m5 c5) rfl;have g21:=qcB (show W8.heap[w1.heap.size+1]?=I (.cells #[O a5 m5 c5,Y s5,O b5 n5 k5] 56 (0,0)) by rw [←hW8];exact qhA _ _ _ (by simp)) (i:=1) (u:=Y s5) rfl;have g22:=qcB (show W8.heap[w1.heap.size+1]?=I (.cells #[O a5 m5 c5,Y s5,O b5 n5 k5] 56 (0,0)) by rw [←hW8];exact qhA _ _ _ (by simp)) (i:=2) (u:=O b5 n5 k5) rfl;have HX:=hd9 hX18;have HX8:=hd9 hX8;rw [hW8];obtain⟨s1,hs1⟩:=gX w1.heap.size;simp only [hs1]at *;clear hW8 hc1 hf1 hx1 hX18 hX8 HS hs1;obtain⟨k,hk⟩:=gX q2.num.sign;have HSg:=hd9 (fun(W:X) (v:J) (h:IsR W v q2)=>hk▸zb0 W v q2 h);rw [hk]at hno;clear hk
 by_cases hneg:k<0
 ·have hd:decide (k<0)=true:=by simp [hneg]
  refine wp_region_held_drew (S:=CellL [(⟨s1+1,0,Z⟩,O a5 m5 c5),(⟨s1+1,1,Z⟩,Y s5),(⟨s1+1,2,Z⟩,O b5 n5 k5)]) (by kernel_rfl) cA (fun h9H=>?_);refine tk1 (i:=0) ?_;refine cl1 (i:=1) fun K hK=>?_
  go_simp
  (with_reducible refine cM (HSg.out _ _ (hr2.ext (Ext.trans HX.out eA))) ?_)
  rintro e w3 ⟨rfl,hx3⟩
  skip
  go_wp2_with fail
  refine kO hK (cE h9H hx3) (fun h9H=>?_);clear hK K;refine sN 2 ?_
  iterate 2
   refine tkn ?_
  iterate 5
   refine tkgn ?_
  refine tkn ?_;refine oN ?_;refine wpAnyH_done (by kernel_rfl) ?_ _;go_wp2;have X3:Ext W8 w3:=((eR W8).drew).trans hx3;have g3':=g3.ext X3;have g4':=g4.ext X3;obtain⟨pa,pm,pc1,ps,pa2,pm2,pc2,p0,p1,p2,pf0,pf1,pf2,pz,hp3⟩:=g3'.rd;obtain⟨ea,em,ec,es,ea2,em2,ec2,e0,e1,e2,ef0,ef1,ef2,ez,hp4⟩:=g4'.rd;refine zap (fun i=>decide (2<i)) (CellL [(⟨w.heap.size+1,0,Z⟩,O pa pm pc1),(⟨w.heap.size+1,1,Z⟩,Y ps),(⟨w.heap.size+1,2,Z⟩,O pa2 pm2 pc2),(⟨w.heap.size+1+1,0,Z⟩,O ea em ec),(⟨w.heap.size+1+1,1,Z⟩,Y es),(⟨w.heap.size+1+1,2,Z⟩,O ea2 em2 ec2)]) (by kernel_rfl) ?_ (fun h9H=>?_)
  ·exact cA
  refine sN 0 ?_
  iterate 2
   refine tun ?_
  refine oN ?_;refine cu1 (i:=2) fun K hK=>?_
  go_simp;refine kO hK (fun _=>?_) (fun h9H=>?_)
  ·exact cA
  clear hK K;have h9H:=h9H rfl;refine cu1 (i:=3) fun K hK=>?_
  go_simp;refine kO hK (fun h=>nomatch h) (fun h9H=>?_);clear hK K;refine cu1 (i:=4) fun K hK=>?_
  go_simp;refine kO hK (fun h=>nomatch h) (fun h9H=>?_);clear hK K;refine doneHU (by kernel_rfl) ?_ _;go_wp2;refine bR (v:=.tuple #[M #[O pa pm pc1,Y ps,O pa2 pm2 pc2],M #[O ea em ec,Y es,O ea2 em2 ec2],Y false]) (by simp [results,Tryz.results70,go_sem,p0,p1,p2,pf0,pf1,pf2,e0,e1,e2,ef0,ef1,ef2]) rfl ?_;obtain⟨P1,P2,P3,P4,P5,P6⟩:=RB.copy2 g3' g4' (by omega) hp3 hp4 rfl rfl;refine⟨(P6 w (HX8.out.trans X3) (by omega) (by omega)).drew,M #[O pa pm pc1,Y ps,O pa2 pm2 pc2],M #[O ea em ec,Y es,O ea2 em2 ec2],?_,?_,rfl⟩
  ·exact(hp3.keep P4).ext (eR _).drew
  ·exact(hp4.keep P4).ext (eR _).drew
 ·have hd:decide (k<0)=false:=by simp [hneg]
  rw [hd,Bool.false_or]at hno;obtain⟨c,hc⟩:=gX (rcmp q2 (pin:Rat));rw [hc]at hno HC;clear hc;have hc0:0<c:=by simpa using hno
  refine wp_region_held_drew (S:=CellL [(⟨s1+1,0,Z⟩,O a5 m5 c5),(⟨s1+1,1,Z⟩,Y s5),(⟨s1+1,2,Z⟩,O b5 n5 k5)]) (by kernel_rfl) cA (fun h9H=>?_);have E0:Ext w1 W8.drew:=HX.out.trans (eR W8).drew;refine tk1 (i:=0) ?_;refine cl1 (i:=1) fun K hK=>?_
  go_simp
  (with_reducible refine cM (HSg.out _ _ (hr2.ext E0)) ?_)
  rintro e w3 ⟨rfl,hx3⟩
  skip
  go_wp2_with fail
  refine kO hK (cE h9H hx3) (fun h9H=>?_);clear hK K;refine sN 2 ?_
  iterate 4
   refine tkn ?_
  refine oN ?_;refine cl1 (i:=6) fun K hK=>?_
  go_simp
  (with_reducible refine cM (zaO _ pin hp1 hp2) ?_)
  rintro e w4 ⟨r4,rfl,hr4,hx4⟩;obtain⟨a6,m6,c6,s6,b6,n6,k6,rfl⟩:=hr4.form
  go_wp2_with fail
  refine kO hK (cE h9H hx4) (fun h9H=>?_);clear hK K;refine cl1 (i:=7) fun K hK=>?_
  go_simp
  (with_reducible refine cM (HC.out _ _ _ (hr2.ext (E0.trans (hx3.trans hx4))) hr4) ?_)
  rintro e w5 ⟨rfl,hx5⟩
  skip
  go_wp2_with fail
  refine kO hK (cE h9H hx5) (fun h9H=>?_);clear hK K;refine sN 8 ?_
  iterate 2
   refine tkn ?_
  refine oN ?_;refine wpAnyH_done (by kernel_rfl) ?_ _;have X3:Ext W8 w5:=((eR W8).drew).trans (hx3.trans (hx4.trans hx5));have g3':=g3.ext X3;have g4':=g4.ext X3;go_wp2;obtain⟨pa,pm,pc1,ps,pa2,pm2,pc2,p0,p1,p2,pf0,pf1,pf2,pz,hp3⟩:=g3'.rd;obtain⟨ea,em,ec,es,ea2,em2,ec2,e0,e1,e2,ef0,ef1,ef2,ez,hp4⟩:=g4'.rd;refine zap (fun i=>decide (2<i)) (CellL [(⟨w.heap.size+1,0,Z⟩,O pa pm pc1),(⟨w.heap.size+1,1,Z⟩,Y ps),(⟨w.heap.size+1,2,Z⟩,O pa2 pm2 pc2),(⟨w.heap.size+1+1,0,Z⟩,O ea em ec),(⟨w.heap.size+1+1,1,Z⟩,Y es),(⟨w.heap.size+1+1,2,Z⟩,O ea2 em2 ec2)]) (by kernel_rfl) ?_ (fun h9H=>?_)
  ·exact cA
  refine sN 0 ?_
  iterate 2
   refine tun ?_
  refine oN ?_;refine cu1 (i:=2) fun K hK=>?_
  go_simp;refine kO hK (fun _=>?_) (fun h9H=>?_)
  ·exact cA
  clear hK K;have h9H:=h9H rfl;refine cu1 (i:=3) fun K hK=>?_
  go_simp;refine kO hK (fun h=>nomatch h) (fun h9H=>?_);clear hK K;refine cu1 (i:=4) fun K hK=>?_
  go_simp;refine kO hK (fun h=>nomatch h) (fun h9H=>?_);clear hK K;refine doneHU (by kernel_rfl) ?_ _;go_wp2;refine bR (v:=.tuple #[M #[O pa pm pc1,Y ps,O pa2 pm2 pc2],M #[O ea em ec,Y es,O ea2 em2 ec2],Y false]) (by simp [results,Tryz.results70,go_sem,p0,p1,p2,pf0,pf1,pf2,e0,e1,e2,ef0,ef1,ef2]) rfl ?_;obtain⟨P1,P2,P3,P4,P5,P6⟩:=RB.copy2 g3' g4' (by omega) hp3 hp4 rfl rfl;refine⟨(P6 w (HX8.out.trans X3) (by omega) (by omega)).drew,M #[O pa pm pc1,Y ps,O pa2 pm2 pc2],M #[O ea em ec,Y es,O ea2 em2 ec2],?_,?_,rfl⟩
  ·exact(hp3.keep P4).ext (eR _).drew
  ·exact(hp4.keep P4).ext (eR _).drew
end
section
open Go.RowKit Go.Shelf Go.Sort
theorem zku {β:Type} [Inhabited β] {lt:β→β→Bool} (hO:SWO lt) (d:Array β) (l:Nat):(pdq lt d 0 d.size l true true).toList.Pairwise fun x y=>lt y x=false:=by
 obtain⟨⟨h1,_,_⟩,h2⟩:=pdq_sorts lt hO d 0 d.size l true true (Nat.zero_le _) (nE _) (Or.inl rfl);rw [List.pairwise_iff_getElem];intro i j hi hj hij;simp at hi hj;have h9:=h2 i j (Nat.zero_le _) hij (by omega);rw [getElem!_pos _ i hi,getElem!_pos _ j hj]at h9
 simpa using h9
theorem zct {ps:List (Int×Int)} (h:∀x∈ps,BP x):(sortX ps).Pairwise fun x y=>x.1≤y.1:=by
 unfold sortX sortBy;rw [dif_pos h];rw [List.pairwise_map];have h3:=@zku {x // BP x} ⟨BP0⟩ _ swoX (ps.attachWith BP h).toArray (Lib.bitLen ps.length);rw [show (ps.attachWith BP h).toArray.size=ps.length by simp]at h3;refine h3.imp fun {x y} hxy=>?_
 rw [ltX]at hxy
 simpa using hxy
theorem zcz {α:Type} [DecidableEq α]:∀(a:α) (r:List α),∃t,compactP (a::r)=a::t
 | a,[]=>⟨[],rfl⟩
 | a,b::r=>by
  by_cases h:a=b
  ·obtain⟨t,e⟩:=zcz b r
   exact⟨t,by rw [compactP,if_pos h,e,h]⟩
  ·exact⟨compactP (b::r),by rw [compactP,if_neg h]⟩
theorem LnUp.cons {a b:Int×Int} {r:List (Int×Int)} (h1:a.1≤b.1) (h2:a≠b) (h:LnUp (b::r)):LnUp (a::b::r):=by
 intro e he;unfold eds at he
 rcases List.mem_cons.1 he with rfl|he
 ·exact⟨h1,h2⟩
 ·exact h e he
theorem zdA:∀(l:List (Int×Int)),l.Pairwise (fun x y=>x.1≤y.1)→LnUp (compactP l)
 | [],_=>by intro e he;simp [compactP,eds]at he
 | [a],_=>by intro e he;simp [compactP,eds]at he
 | a::b::r,h=>by
  have h':=zdA (b::r) (List.pairwise_cons.1 h).2
  by_cases hab:a=b
  ·rw [compactP,if_pos hab];exact h'
  ·rw [compactP,if_neg hab]
   obtain⟨t,e⟩:=zcz b r;rw [e]at h' ⊢;exact LnUp.cons ((List.pairwise_cons.1 h).1 b List.mem_cons_self) hab h'
theorem zj6 {k:Int} {raw:List (Int×Int)} (hb:PBd k raw) (hk:k≤1000000):LnUp (lineOf raw):=
 zdA _ (zct fun x hx=>by
  have:=hb x hx;unfold BP;exact⟨this.1.mono hk,this.2.mono hk⟩)
theorem znW {p:Pl} (h:placedOk p=true):LnUp (upP2 p):=by
 obtain⟨hb,h3,h12⟩:=zaR h;have hr:=zfO hb (nE _);exact zj6 hr.2 (by decide)
theorem zjz {g:List (Int×Int)} (h:groundB g=true):LnUp g:=by
 unfold groundB at h;simp only [Bool.and_eq_true,List.all_eq_true,List.mem_range]at h;intro e he;unfold eds at he;obtain⟨i,hi,rfl⟩:=List.getElem_of_mem he;have hl:i+1<g.length:=by rw [List.length_zip,List.length_tail]at hi;omega
 have h2:=h.2 (i+1) hl;unfold grdR at h2;simp only [Bool.and_eq_true,Bool.or_eq_true,decide_eq_true_eq,beq_iff_eq,Nat.add_one_ne_zero,false_or,Nat.add_sub_cancel]at h2;have h3:=h2.2.2;rw [gD,gD,gE (by omega),gE hl]at h3;simp only [Option.getD_some]at h3;have e1:(g.zip g.tail)[i]'hi=(g[i]'(by omega),g[i+1]'hl):=by simp
 rw [e1];exact⟨by dsimp only;omega,fun e=>by dsimp only at e;rw [e]at h3;omega⟩
theorem zgS (f:Rat→Rat) {xs:List Rat}:∀x∈xs,(bestR f xs).2≤f x:=by
 have key:∀(ys:List Rat) (a:Rat×Rat),(ys.foldl (bestStep f) a).2≤a.2∧∀x∈ys,(ys.foldl (bestStep f) a).2≤f x:=by
  intro ys
  induction ys with
  | nil=>intro a;exact⟨Rat.le_refl,fun x hx=>by simp at hx⟩
  | cons y ys ih =>
   intro a;obtain⟨h1,h2⟩:=ih (bestStep f a y)
   have h3:(bestStep f a y).2≤a.2∧(bestStep f a y).2≤f y:=by
    unfold bestStep
    split
    ·rename_i h
     rw [zkA]at h;exact⟨Rat.le_of_lt h,Rat.le_refl⟩
    ·rename_i h
     rw [zkA]at h;exact⟨Rat.le_refl,Rat.not_lt.1 h⟩
   refine⟨Rat.le_trans h1 h3.1,fun x hx=>?_⟩
   rcases List.mem_cons.1 hx with rfl|hx
   ·exact Rat.le_trans h1 h3.2
   ·exact h2 x hx
 cases xs with
 | nil=>intro x hx;simp at hx
 | cons y ys =>
  intro x hx;obtain⟨h1,h2⟩:=key ys (y,f y)
  rcases List.mem_cons.1 hx with rfl|hx
  ·exact h1
  ·exact h2 x hx
end
section
open Go.RowKit Go.Shelf
attribute [local go_sem] Oper.semAt_some
def RcI (w:X) (s:Sp) (v1 v2 vq:J) (pin:Int) (qs:List Rat) (o:Rat×Rat) (g:Nat) (t38:J) (W:X):Prop:=
 ∃i:Nat,i≤qs.length∧t38=E .i64 i∧g=qs.length-i∧RcW w s v1 v2 vq qs (reachN (pinG s pin) qs o i) W
theorem zf9 {w W W1 W2:X} {o:Obj} {p p1 p2:Rat} {a a2:Option Addr} {m c m2 c2:Nat} {s:Bool} (hX:Ext w W) (hs:w.heap.size+1+1+1≤W.heap.size) (K:W.heap[w.heap.size]?=I o) (h1:RB W (w.heap.size+1) p1) (h2:RB W (w.heap.size+1+1) p2)
  (hz:IsR W (M #[O a m c,Y s,O a2 m2 c2]) p)
  (hW1:((W.setCell ⟨w.heap.size+1,0,Z⟩ (O a m c)).setCell ⟨w.heap.size+1,1,Z⟩ (Y s)).setCell ⟨w.heap.size+1,2,Z⟩ (O a2 m2 c2)=W1)
  (hW2:((W1.setCell ⟨w.heap.size+1+1,0,Z⟩ (O a m c)).setCell ⟨w.heap.size+1+1,1,Z⟩ (Y s)).setCell ⟨w.heap.size+1+1,2,Z⟩ (O a2 m2 c2)=W2) :
  Ext w W2.drew∧w.heap.size+1+1+1≤W2.drew.heap.size∧W2.drew.heap[w.heap.size]?=I o∧RB W2.drew (w.heap.size+1) p∧RB W2.drew (w.heap.size+1+1) p:=by
 obtain⟨P1,P2,P3,P4,P5,P6⟩:=RB.copy2 h1 h2 (by omega) hz hz hW1 hW2;have hd:Ext W2 W2.drew:=(eR _).drew;refine⟨(P6 w hX (by omega) (by omega)).drew,nT (by omega) hd.size,hd.heapS ?_,P1.ext hd,P2.ext hd⟩;rw [←hW2,←hW1]
 repeat rw [bS _ _ _ _ (by dsimp only;omega)]
 exact K
section
variable {P:Program} {ops:Array Oper} {Q:Exit→Act→X→Prop} {md:Region.Mode} {S:X→Prop}
theorem call2 {i j:Nat} {oi oj:Oper} {fuel:Nat} {listed:Array Bool} {a:Act} {w:X}
  (h1:∀K':Act→X→Prop,Shut (∀a w,S w→(S w→wpAnyH P md ops Q S fuel (listed.setIfInBounds i true) a w)→K' a w)→if Region.wanted oi (yielded ops a.tmps)=true then Oper.wp P oi a w K' Q else K' (a.put oi.dst undef) w)
  (h2:∀K':Act→X→Prop,Shut (∀a w,S w→(S w→wpAnyH P md ops Q S fuel (listed.setIfInBounds j true) a w)→K' a w)→if Region.wanted oj (yielded ops a.tmps)=true then Oper.wp P oj a w K' Q else K' (a.put oj.dst undef) w)
  (hi:ops[i]?=I oi:=by(simp only [gA,gS,gZ];rfl)) (hj:ops[j]?=I oj:=by(simp only [gA,gS,gZ];rfl)) (hr:Region.ready md ops listed=[i,j]:=by kernel_rfl) :
  wpAnyH P md ops Q S (fuel+1) listed a w:=
 wpAnyH_ready hr (by simp) (AllReadyH.cons hi h1 (AllReadyH.cons hj h2 AllReadyH.nil))
end
theorem RcW.box {w:X} {s:Sp} {v1 v2 vq:J} {qs:List Rat} {o:Rat×Rat} {W:X} (h:RcW w s v1 v2 vq qs o W) {a a2:Option Addr} {m c m2 c2 b:Nat} {s1:Bool} {p p0:Rat}
  (hb:w.heap.size+1+1+1≤b) (hv:vq.ownBlock≠I b) (hB:RB W b p0) (hz:IsR W (M #[O a m c,Y s1,O a2 m2 c2]) p) {W1:X}
  (hW1:((W.setCell ⟨b,0,Z⟩ (O a m c)).setCell ⟨b,1,Z⟩ (Y s1)).setCell ⟨b,2,Z⟩ (O a2 m2 c2)=W1) :
  RcW w s v1 v2 vq qs o W1∧RB W1 b p∧(∀b' r,b'≠b→RB W b' r→RB W1 b' r)∧W1.heap.size=W.heap.size:=by
 obtain⟨h1,h2,h3,h4,h5,h6⟩:=h;have n0:=hB.not;have n1:=n0.set ⟨b,0,Z⟩ (O a m c);have n2:=n1.set ⟨b,1,Z⟩ (Y s1)
 have hk:∀b' r,b'≠b→RB W b' r→RB W1 b' r:=fun b' r hne hr=>by
  rw [←hW1];exact((hr.other (Ne.symm hne) n0 _).other (Ne.symm hne) n1 _).other (Ne.symm hne) n2 _
 have hset:∀(V:X) (u:J) (q:Addr),q.block=b→OwnR V (w.heap.size+1+1+1) vq qs→NoT 2 V b→OwnR (V.setCell q u) (w.heap.size+1+1+1) vq qs:=fun V u q hq ho hn=>by
  obtain⟨cs,k1,k2,k3⟩:=ho;exact⟨cs,k1.setOther (by rw [hq];exact hv) _,k2,fun i c q' hc hq'=>IsR.keep (k3 i c q' hc hq') (KeepT.setN (KeepT.refl _ _) (by rw [hq];exact hn) u)⟩
 refine⟨⟨?_,?_,?_,hk _ _ (by omega) h4,hk _ _ (by omega) h5,?_⟩,?_,hk,?_⟩
 ·rw [←hW1];exact((h1.set (by dsimp only;omega) _).set (by dsimp only;omega) _).set (by dsimp only;omega) _
 ·rw [←hW1];simpa using h2
 ·rw [←hW1]
  repeat rw [bS _ _ _ _ (by dsimp only;omega)]
  exact h3
 ·rw [←hW1]
  exact hset _ _ _ rfl (hset _ _ _ rfl (hset _ _ _ rfl h6 n0) n1) n2
 ·rw [←hW1];exact hB.put hz
 ·rw [←hW1];simp
theorem zeK (q:Rat) : -1≤q.num.sign∧q.num.sign≤1:=by
 rcases Int.lt_trichotomy q.num 0 with h|h|h
 ·rw [Int.sign_eq_neg_one_of_neg h];decide
 ·rw [h];decide
 ·rw [Int.sign_eq_one_of_pos h];decide
def Rc1 (w:X) (s:Sp) (v1 v2 vq:J) (qs:List Rat) (o:Rat×Rat) (i:Nat) (x g:Rat) (t10 t11 t12:J) (W:X):Prop:=
 ∃b11 b12,t10=E .i64 (i:Int)∧t11=N (I ⟨b11,0,Z⟩)∧t12=N (I ⟨b12,0,Z⟩)∧w.heap.size+1+1+1≤b11∧b11<b12∧b12<W.heap.size∧RcW w s v1 v2 vq qs o W∧RB W b11 x∧RB W b12 g
def Rc2 (w:X) (s:Sp) (v1 v2 vq:J) (qs:List Rat) (o:Rat×Rat) (i:Nat) (x g h:Rat) (t10 t11 t12 t13:J) (W:X):Prop:=
 ∃b13,Rc1 w s v1 v2 vq qs o i x g t10 t11 t12 W∧t13=N (I ⟨b13,0,Z⟩)∧b13<W.heap.size∧RB W b13 h
theorem zfj {w:X} {s:Sp} {v1 v2 vq:J} {qs:List Rat} {o:Rat×Rat} {W:X} (h:RcW w s v1 v2 vq qs o W) {a a2 e e2:Option Addr} {m c m2 c2 n k n2 k2:Nat} {s1 t:Bool} {p q x g:Rat} {b11 b12 i:Nat}
  (hz1:IsR W (M #[O a m c,Y s1,O a2 m2 c2]) p) (hz2:IsR W (M #[O e n k,Y t,O e2 n2 k2]) q) (z1:w.heap.size+1+1+1≤b11) (z2:b11<b12) (z3:b12<W.heap.size) (h1:RB W b11 x) (h2:RB W b12 g) {W1 W2:X}
  (hW1:((W.setCell ⟨w.heap.size+1,0,Z⟩ (O a m c)).setCell ⟨w.heap.size+1,1,Z⟩ (Y s1)).setCell ⟨w.heap.size+1,2,Z⟩ (O a2 m2 c2)=W1)
  (hW2:((W1.setCell ⟨w.heap.size+1+1,0,Z⟩ (O e n k)).setCell ⟨w.heap.size+1+1,1,Z⟩ (Y t)).setCell ⟨w.heap.size+1+1,2,Z⟩ (O e2 n2 k2)=W2) :
  Rc1 w s v1 v2 vq qs (p,q) i x g (E .i64 (i:Int)) (N (I ⟨b11,0,Z⟩)) (N (I ⟨b12,0,Z⟩)) W2:=by
 obtain⟨P1,P2,P3⟩:=RcW.put2 h hz1 hz2 hW1 hW2;have hd:Ext W2 W2:=eR _;exact⟨b11,b12,rfl,rfl,rfl,z1,z2,Nat.lt_of_lt_of_le (by omega) hd.size,P1.ext hd,(P3 _ _ (by omega) h1).ext hd,(P3 _ _ (by omega) h2).ext hd⟩
theorem zbZ {w:X} {s:Sp} {v1 v2 vq:J} {qs:List Rat} {o:Rat×Rat} {W:X} (h:RcW w s v1 v2 vq qs o W) {a a2:Option Addr} {m c m2 c2:Nat} {s1:Bool} {x g r p0:Rat} {b11 b12 b13 i:Nat}
  (hz:IsR W (M #[O a m c,Y s1,O a2 m2 c2]) r) (z1:w.heap.size+1+1+1≤b11) (z2:b11<b12) (z3:b12<b13) (z4:b13<W.heap.size) (h1:RB W b11 x) (h2:RB W b12 g) (h3:RB W b13 p0) (hv:vq.ownBlock≠I b13) {W1:X}
  (hW1:((W.setCell ⟨b13,0,Z⟩ (O a m c)).setCell ⟨b13,1,Z⟩ (Y s1)).setCell ⟨b13,2,Z⟩ (O a2 m2 c2)=W1) :
  Rc2 w s v1 v2 vq qs o i x g r (E .i64 (i:Int)) (N (I ⟨b11,0,Z⟩)) (N (I ⟨b12,0,Z⟩)) (N (I ⟨b13,0,Z⟩)) W1:=by
 obtain⟨P1,P2,P3,P4⟩:=RcW.box h (by omega) hv h3 hz hW1;exact⟨b13,⟨b11,b12,rfl,rfl,rfl,z1,z2,by omega,P1,P3 _ _ (by omega) h1,P3 _ _ (by omega) h2⟩,rfl,by omega,P2⟩
end
end Go.Proofs.YteipgejmhfpkaaaGreatDoor.Cop
