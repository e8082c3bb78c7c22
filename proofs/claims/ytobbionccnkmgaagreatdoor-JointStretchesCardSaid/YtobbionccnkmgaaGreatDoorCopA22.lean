/- Part 23 of 41: contracts of what the law calls. -/
import Derived.Test.YtobbionccnkmgaaGreatDoorCopA21
set_option maxRecDepth 1000000
set_option maxHeartbeats 16000000
set_option linter.unusedSimpArgs false
set_option linter.unusedVariables false
namespace Go.Proofs.YtobbionccnkmgaaGreatDoor.Cop
open Go.RowKit Go.Shelf Go.Sort Go.Lib
theorem ixfil_any (w:World) (v:Value) (js:List (JS×Value)) (b1:Nat) (f:JS→Bool) (h:IsJs w v js)
  (hf:∀W,Ext w W→∀j∈js,Calls Tryz.prog 70 #[.agg (jca j),.pointer (some ⟨b1,0,none⟩)] W fun e w'=>e = .returned (.bool (f j.1))∧Ext W w') :
  Calls Tryz.prog 36 #[v,.func (.func 70) #[] #[.pointer (some ⟨b1,0,none⟩)]] w fun e w'=>e = .returned (.int .i64 (idxB (fun j=>f j.1) js))∧Ext w w':=by
 obtain⟨a,c,rfl⟩:=h.form;obtain⟨n,hn⟩:∃n,js.length=n:=⟨_,rfl⟩;rw [hn]at h ⊢;have hle:=h.le;unfold maxLen at hle;have hnc:n≤9223372036854775807:=by omega
 have Hn:=hd9 hn;have Hf:=hd9 hf;clear hn hle hf;go_enter Tryz.func36,Tryz.ntmps36;go_wp2
 go_loopg [8] n (IjS w f js)
 case atStart=>exact⟨0,by omega,rfl,by rw [Hn.out];rfl,Ext.refl _,fun j y hj=>by omega⟩
 case round =>
  obtain⟨i,hi,rfl,rfl,hx,hall⟩:=hrel;rw [Hn.out]at hi;have Hall:=hd9 hall;clear hall
  by_cases hlt:i<n
  ·obtain⟨⟨⟨⟨nm,sh,d,de,gx,gz,wy,ax,az,sk⟩,k,⟨xl,xh⟩,zl,zh⟩,v⟩,hq⟩:∃q,js[i]?=some q:=⟨js[i]'(by rw [Hn.out];omega),by simp [Hn.out,hlt]⟩
   obtain⟨b,o,rfl,hb,hc⟩:=(h.ext' hx).at' hq;have HC:=hd9 (fun W (hW:Ext wr W)=>Hf.out W (hx.trans hW) _ (lM hq));obtain⟨fp,f7⟩:∃x,f ⟨⟨nm,sh,d,de,gx,gz,wy,ax,az,sk⟩,k,⟨xl,xh⟩,zl,zh⟩=x:=⟨_,rfl⟩;rw [f7]at HC;have F7:=hd9 f7;unfold jca at hc HC;dsimp only at hc HC;have cc0:=hc 0 (.string nm) rfl;have cc1:=hc 1 v rfl;have cc2:=hc 2 (.int .i64 d) rfl;have cc3:=hc 3 (.int .i64 de) rfl;have cc4:=hc 4 (.int .i64 gx) rfl;have cc5:=hc 5 (.int .i64 gz) rfl;have cc6:=hc 6 (.int .i64 wy) rfl;have cc7:=hc 7 (.int .i64 ax) rfl;have cc8:=hc 8 (.int .i64 az) rfl;have cc9:=hc 9 (.int .u8 sk) rfl;have cc10:=hc 10 (.int .i64 k) rfl;have cc11:=hc 11 (.int .i64 xl) rfl;have cc12:=hc 12 (.int .i64 xh) rfl;have cc13:=hc 13 (.int .i64 zl) rfl;have cc14:=hc 14 (.int .i64 zh) rfl;simp only [Nat.add_zero]at cc0;have Hq:=hd9 hq;clear hq hc f7
   cases fp with
   | true =>
    have e:idxB (fun j:JS×Value=>f j.1) js=(i:Int):=idxB_some Hq.out F7.out Hall.out;have E:=hd9 e;clear e
    go_wp2_with(((go_at_call 70;(with_reducible refine(HC.out _ ?_).mono ?_);(focus((with_reducible repeat(first|assumption|exact eR _|refine eX ?_|refine eT ?_|refine eS ?_));done));rintro e w1 ⟨rfl,hx1⟩)))
    go_ret;exact⟨by rw [E.out];rfl,(by with_reducible repeat(first|assumption|exact eR _|refine eX ?_|refine eT ?_|refine eS ?_))⟩
   | false =>
    go_wp2_with(((go_at_call 70;(with_reducible refine(HC.out _ ?_).mono ?_);(focus((with_reducible repeat(first|assumption|exact eR _|refine eX ?_|refine eT ?_|refine eS ?_));done));rintro e w1 ⟨rfl,hx1⟩)))
    go_roundg (n-(i+1))
    case measure=>have:=Hn.out;omega
    case rel =>
     refine⟨i+1,by have:=Hn.out;omega,by go_num,by rw [Hn.out],(by with_reducible repeat(first|assumption|exact eR _|refine eX ?_|refine eT ?_|refine eS ?_)),fun j y hj hy=>?_⟩
     by_cases hji:j=i
     ·subst hji;rw [Hq.out]at hy;cases hy;exact F7.out
     ·exact Hall.out j y (by omega) hy
  ·obtain rfl:i=n:=by omega
   have e:idxB (fun j:JS×Value=>f j.1) js = -1:=idxB_none (fun j y hj hy=>Hall.out j y (by rw [Hn.out]at hj;exact hj) hy);have E:=hd9 e;clear e;go_wp2;go_ret;exact⟨by rw [E.out];rfl,hx⟩
theorem ctfil_any (w:World) (v:Value) (js:List (JS×Value)) (b1:Nat) (f:JS→Bool) (h:IsJs w v js)
  (hf:∀W,Ext w W→∀j∈js,Calls Tryz.prog 70 #[.agg (jca j),.pointer (some ⟨b1,0,none⟩)] W fun e w'=>e = .returned (.bool (f j.1))∧Ext W w') :
  Calls Tryz.prog 48 #[v,.func (.func 70) #[] #[.pointer (some ⟨b1,0,none⟩)]] w fun e w'=>e = .returned (.bool (js.any fun j=>f j.1))∧Ext w w':=by
 rw [←idxB_any];obtain⟨x,hx⟩:∃x,idxB (fun j:JS×Value=>f j.1) js=x:=⟨_,rfl⟩;have hc:=fun W (hW:Ext w W)=>ixfil_any W v js b1 f (h.ext' hW) (fun W' hW'=>hf W' (hW.trans hW'))
 obtain⟨a,n,c,rfl⟩:=form3 h;simp only [hx]at hc ⊢;have Hc:=hd9 hc;clear hc hx h hf;go_enter Tryz.func48,Tryz.ntmps48
 go_wp2_with(((go_at_call 36;(with_reducible refine(Hc.out _ ?_).mono ?_);(focus((with_reducible repeat(first|assumption|exact eR _|refine eX ?_|refine eT ?_|refine eS ?_));done));rintro e w1 ⟨rfl,hx1⟩)))
 go_ret;exact⟨rfl,(by with_reducible repeat(first|assumption|exact eR _|refine eX ?_|refine eT ?_|refine eS ?_))⟩
theorem ixcou_any (w:World) (v:Value) (js:List (JS×Value)) (b1:Nat) (f:JS→Bool) (h:IsJs w v js)
  (hf:∀W,Ext w W→∀j∈js,Calls Tryz.prog 49 #[.agg (jca j),.pointer (some ⟨b1,0,none⟩)] W fun e w'=>e = .returned (.bool (f j.1))∧Ext W w') :
  Calls Tryz.prog 36 #[v,.func (.func 49) #[] #[.pointer (some ⟨b1,0,none⟩)]] w fun e w'=>e = .returned (.int .i64 (idxB (fun j=>f j.1) js))∧Ext w w':=by
 obtain⟨a,c,rfl⟩:=h.form;obtain⟨n,hn⟩:∃n,js.length=n:=⟨_,rfl⟩;rw [hn]at h ⊢;have hle:=h.le;unfold maxLen at hle;have hnc:n≤9223372036854775807:=by omega
 have Hn:=hd9 hn;have Hf:=hd9 hf;clear hn hle hf;go_enter Tryz.func36,Tryz.ntmps36;go_wp2
 go_loopg [8] n (IjS w f js)
 case atStart=>exact⟨0,by omega,rfl,by rw [Hn.out];rfl,Ext.refl _,fun j y hj=>by omega⟩
 case round =>
  obtain⟨i,hi,rfl,rfl,hx,hall⟩:=hrel;rw [Hn.out]at hi;have Hall:=hd9 hall;clear hall
  by_cases hlt:i<n
  ·obtain⟨⟨⟨⟨nm,sh,d,de,gx,gz,wy,ax,az,sk⟩,k,⟨xl,xh⟩,zl,zh⟩,v⟩,hq⟩:∃q,js[i]?=some q:=⟨js[i]'(by rw [Hn.out];omega),by simp [Hn.out,hlt]⟩
   obtain⟨b,o,rfl,hb,hc⟩:=(h.ext' hx).at' hq;have HC:=hd9 (fun W (hW:Ext wr W)=>Hf.out W (hx.trans hW) _ (lM hq));obtain⟨fp,f7⟩:∃x,f ⟨⟨nm,sh,d,de,gx,gz,wy,ax,az,sk⟩,k,⟨xl,xh⟩,zl,zh⟩=x:=⟨_,rfl⟩;rw [f7]at HC;have F7:=hd9 f7;unfold jca at hc HC;dsimp only at hc HC;have cc0:=hc 0 (.string nm) rfl;have cc1:=hc 1 v rfl;have cc2:=hc 2 (.int .i64 d) rfl;have cc3:=hc 3 (.int .i64 de) rfl;have cc4:=hc 4 (.int .i64 gx) rfl;have cc5:=hc 5 (.int .i64 gz) rfl;have cc6:=hc 6 (.int .i64 wy) rfl;have cc7:=hc 7 (.int .i64 ax) rfl;have cc8:=hc 8 (.int .i64 az) rfl;have cc9:=hc 9 (.int .u8 sk) rfl;have cc10:=hc 10 (.int .i64 k) rfl;have cc11:=hc 11 (.int .i64 xl) rfl;have cc12:=hc 12 (.int .i64 xh) rfl;have cc13:=hc 13 (.int .i64 zl) rfl;have cc14:=hc 14 (.int .i64 zh) rfl;simp only [Nat.add_zero]at cc0;have Hq:=hd9 hq;clear hq hc f7
   cases fp with
   | true =>
    have e:idxB (fun j:JS×Value=>f j.1) js=(i:Int):=idxB_some Hq.out F7.out Hall.out;have E:=hd9 e;clear e
    go_wp2_with(((go_at_call 49;(with_reducible refine(HC.out _ ?_).mono ?_);(focus((with_reducible repeat(first|assumption|exact eR _|refine eX ?_|refine eT ?_|refine eS ?_));done));rintro e w1 ⟨rfl,hx1⟩)))
    go_ret;exact⟨by rw [E.out];rfl,(by with_reducible repeat(first|assumption|exact eR _|refine eX ?_|refine eT ?_|refine eS ?_))⟩
   | false =>
    go_wp2_with(((go_at_call 49;(with_reducible refine(HC.out _ ?_).mono ?_);(focus((with_reducible repeat(first|assumption|exact eR _|refine eX ?_|refine eT ?_|refine eS ?_));done));rintro e w1 ⟨rfl,hx1⟩)))
    go_roundg (n-(i+1))
    case measure=>have:=Hn.out;omega
    case rel =>
     refine⟨i+1,by have:=Hn.out;omega,by go_num,by rw [Hn.out],(by with_reducible repeat(first|assumption|exact eR _|refine eX ?_|refine eT ?_|refine eS ?_)),fun j y hj hy=>?_⟩
     by_cases hji:j=i
     ·subst hji;rw [Hq.out]at hy;cases hy;exact F7.out
     ·exact Hall.out j y (by omega) hy
  ·obtain rfl:i=n:=by omega
   have e:idxB (fun j:JS×Value=>f j.1) js = -1:=idxB_none (fun j y hj hy=>Hall.out j y (by rw [Hn.out]at hj;exact hj) hy);have E:=hd9 e;clear e;go_wp2;go_ret;exact⟨by rw [E.out];rfl,hx⟩
theorem ctcou_any (w:World) (v:Value) (js:List (JS×Value)) (b1:Nat) (f:JS→Bool) (h:IsJs w v js)
  (hf:∀W,Ext w W→∀j∈js,Calls Tryz.prog 49 #[.agg (jca j),.pointer (some ⟨b1,0,none⟩)] W fun e w'=>e = .returned (.bool (f j.1))∧Ext W w') :
  Calls Tryz.prog 48 #[v,.func (.func 49) #[] #[.pointer (some ⟨b1,0,none⟩)]] w fun e w'=>e = .returned (.bool (js.any fun j=>f j.1))∧Ext w w':=by
 rw [←idxB_any];obtain⟨x,hx⟩:∃x,idxB (fun j:JS×Value=>f j.1) js=x:=⟨_,rfl⟩;have hc:=fun W (hW:Ext w W)=>ixcou_any W v js b1 f (h.ext' hW) (fun W' hW'=>hf W' (hW.trans hW'))
 obtain⟨a,n,c,rfl⟩:=form3 h;simp only [hx]at hc ⊢;have Hc:=hd9 hc;clear hc hx h hf;go_enter Tryz.func48,Tryz.ntmps48
 go_wp2_with(((go_at_call 36;(with_reducible refine(Hc.out _ ?_).mono ?_);(focus((with_reducible repeat(first|assumption|exact eR _|refine eX ?_|refine eT ?_|refine eS ?_));done));rintro e w1 ⟨rfl,hx1⟩)))
 go_ret;exact⟨rfl,(by with_reducible repeat(first|assumption|exact eR _|refine eX ?_|refine eT ?_|refine eS ?_))⟩
def fillB (j:Jt) (x:JS):Bool:=(x.k != j.a)&&((x.k != j.b)&&(decide (max x.z.1 j.fr<min x.z.2 j.til)&&decide (max x.x.1 j.left<min x.x.2 j.right)))
theorem fil1_any (w:World) (x:JS×Value) (j:Jt) (b:Nat) (hb:w.heap[b]?=some (.cells (jta j) 61 (0,0))) :
  Calls Tryz.prog 70 #[.agg (jca x),.pointer (some ⟨b,0,none⟩)] w fun e w'=>e = .returned (.bool (fillB j x.1))∧Ext w w':=by
 obtain⟨⟨⟨nm,sh,d,de,gx,gz,wy,ax,az,sk⟩,k,⟨xl,xh⟩,zl,zh⟩,v⟩:=x;obtain⟨ja,jb,jl,jr,jf,jt⟩:=j;have z1:=heap_lt hb;have z3:b<w.heap.size+1:=by omega
 have c0:=qcB hb (i:=0) (u:=.int .i64 ja) rfl;have c1:=qcB hb (i:=1) (u:=.int .i64 jb) rfl;have c2:=qcB hb (i:=2) (u:=.int .i64 jl) rfl;have c3:=qcB hb (i:=3) (u:=.int .i64 jr) rfl;have c4:=qcB hb (i:=4) (u:=.int .i64 jf) rfl;have c5:=qcB hb (i:=5) (u:=.int .i64 jt) rfl;unfold fillB jca;dsimp only
 by_cases h1:k=ja
 ·have e1:(k != ja)=false:=by simp [h1]
  rw [e1];clear h1;go_enter Tryz.func70,Tryz.ntmps70;go_wp2;go_ret;exact⟨rfl,(by with_reducible repeat(first|assumption|exact eR _|refine eX ?_|refine eT ?_|refine eS ?_))⟩
 have e1:(k != ja)=true:=by simpa using h1
 by_cases h2:k=jb
 ·have e2:(k != jb)=false:=by simp [h2]
  rw [e1,e2];clear h1 h2;go_enter Tryz.func70,Tryz.ntmps70;go_wp2;go_ret;exact⟨rfl,(by with_reducible repeat(first|assumption|exact eR _|refine eX ?_|refine eT ?_|refine eS ?_))⟩
 have e2:(k != jb)=true:=by simpa using h2
 rw [e1,e2];obtain⟨p,hp⟩:∃p,decide (max zl jf<min zh jt)=p:=⟨_,rfl⟩;obtain⟨q,hq⟩:∃q,decide (max xl jl<min xh jr)=q:=⟨_,rfl⟩;rw [hp,hq];have HP:=hd9 hp;have HQ:=hd9 hq;clear h1 h2 hp hq
 cases p
 ·go_enter Tryz.func70,Tryz.ntmps70
  go_wp2_with(go_at_call 23;(with_reducible refine(overlaps_any _ zl zh jf jt).mono ?_);rw [HP.out];rintro e w3 ⟨rfl,hx3⟩;obtain⟨hc3,hf3⟩:=hx3.cells)
  go_ret;exact⟨rfl,(by with_reducible repeat(first|assumption|exact eR _|refine eX ?_|refine eT ?_|refine eS ?_))⟩
 ·go_enter Tryz.func70,Tryz.ntmps70
  go_wp2_with(first|(go_at_call 23;(with_reducible refine(overlaps_any _ zl zh jf jt).mono ?_);rw [HP.out];rintro e w3 ⟨rfl,hx3⟩;obtain⟨hc3,hf3⟩:=hx3.cells;(have z4:=hx3.size);(simp only [wZ]at z4);(have y0:w.heap.size<w3.heap.size:=(by omega));(have y1:b<w3.heap.size:=(by omega)))|(go_at_call 23;(with_reducible refine(overlaps_any _ xl xh jl jr).mono ?_);rw [HQ.out];rintro e w5 ⟨rfl,hx5⟩))
  go_ret;exact⟨by simp,(by with_reducible repeat(first|assumption|exact eR _|refine eX ?_|refine eT ?_|refine eS ?_))⟩
def svc (r:Ru) (vg vp vs vj vr:Value):Array Value:=#[.int .u8 r.skin,.int .i64 r.pin,.int .i64 r.wide,.int .i64 r.lap,.int .i64 r.step,.int .i64 r.run,.int .i64 r.level,vg,vp,vs,vj,vr]
def filledB (sk:List JS) (j:Jt):Bool:=sk.any (fillB j)
theorem filled_any (w:World) (b:Nat) (r:Ru) (vg vp vs vj vr:Value) (js:List (JS×Value)) (j:Jt) (hb:w.heap[b]?=some (.cells (svc r vg vp vs vj vr) 83 (0,0))) (h:IsJs w vs js) :
  Calls Tryz.prog 40 #[.pointer (some ⟨b,0,none⟩),.agg (jta j)] w fun e w'=>e = .returned (.bool (filledB (js.map Prod.fst) j))∧Ext w w':=by
 have e:filledB (js.map Prod.fst) j=js.any fun x=>fillB j x.1:=by unfold filledB;rw [List.any_map];rfl
 rw [e];have HC:=hd9 (fun W (hW:Ext w W) (bj:Nat) (hj:W.heap[bj]?=some (.cells (jta j) 61 (0,0)))=>ctfil_any W vs js bj (fillB j) (h.ext' hW) (fun W' hW' x _=>fil1_any W' x j bj (hW'.heapS hj)));obtain⟨x,hx⟩:∃x,(js.any fun x=>fillB j x.1)=x:=⟨_,rfl⟩;rw [hx]at HC ⊢;obtain⟨a,n,c,rfl⟩:=form3 h;obtain⟨ja,jb,jl,jr,jf,jt⟩:=j;obtain⟨sk,pin,wide,lap,step,run,level⟩:=r;have z1:=heap_lt hb;have z3:b<w.heap.size+1:=by omega
 have c0:=qcB hb (i:=9) (u:=.slice a n c) rfl;unfold jta at HC ⊢;dsimp only at HC ⊢;clear h hb hx e;have hmf:∀(fn:Fn) (first cap:Array Value) (w:World),(Instr.makeFunc fn first cap).run Tryz.prog w = .ok (.func fn first cap) w:=fun _ _ _ _=>rfl
 go_enter Tryz.func40,Tryz.ntmps40
 go_wp2_with(go_at_call 48;(with_reducible refine(HC.out _ ?_ _ ?_).mono ?_);(focus((with_reducible repeat(first|assumption|exact eR _|refine eX ?_|refine eT ?_|refine eS ?_));done));(focus(exact heap_alloc_new _ _));rintro e w1 ⟨rfl,hx1⟩)
 go_ret;exact⟨rfl,(by with_reducible repeat(first|assumption|exact eR _|refine eX ?_|refine eT ?_|refine eS ?_))⟩
end Go.Proofs.YtobbionccnkmgaaGreatDoor.Cop
