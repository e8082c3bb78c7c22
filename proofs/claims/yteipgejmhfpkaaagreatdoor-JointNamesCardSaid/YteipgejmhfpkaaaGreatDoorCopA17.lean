/- Part 18: contracts of what the law calls. -/
import Derived.Test.YteipgejmhfpkaaaGreatDoorCopA16
set_option maxRecDepth 1000000
set_option maxHeartbeats 16000000
set_option linter.unusedSimpArgs false
set_option linter.unusedVariables false
open Go.Value renaming int→O,pointer→X,bool→V,agg→J
open Go.IntKind renaming i64→Y
open Go renaming Value→Z,World→I
namespace Go.Proofs.YteipgejmhfpkaaaGreatDoor.Cop
section
open Go.RowKit Go.Shelf Go.Sort Go.Lib
structure Jt where
 a:Int
 b:Int
 left:Int
 right:Int
 fr:Int
 til:Int
def jta (j:Jt):Array Z:=#[O Y j.a,O Y j.b,O Y j.left,O Y j.right,O Y j.fr,O Y j.til]
def jtc (j:Jt):List Z:=(jta j).toList
def BJt (j:Jt):Prop:=Bd 1000000 j.a∧Bd 1000000 j.b∧Bd 1000000 j.left∧Bd 1000000 j.right∧Bd 1000000 j.fr∧Bd 1000000 j.til
def nearB (step a b:Int):Bool:=decide (max (a-b) (b-a)≤step)
def followsB (r:Ru) (j k:Jt):Bool:=decide (j.fr<k.fr)&&(nearB r.step k.fr j.til&&decide (max 0 (max (k.left-j.right) (j.left-k.right))<r.lap))
theorem zhe (w:I) (sk pin wide lap step run level:Int) (a b:Int) (ha:Bd 1000000 a) (hb:Bd 1000000 b) :
  Calls Tryz.prog 74 #[J #[O .u8 sk,O Y pin,O Y wide,O Y lap,O Y step,O Y run,O Y level],O Y a,O Y b] w fun e w'=>e = .returned (V (nearB step a b))∧Ext w w':=by
 unfold nearB;unfold Bd at ha hb;have d1 : -9223372036854775808≤a-b:=by omega
 have d2:a-b≤9223372036854775807:=by omega
 have d3 : -9223372036854775808≤b-a:=by omega
 have d4:b-a≤9223372036854775807:=by omega
 clear ha hb;go_enter Tryz.func74,Tryz.ntmps74;go_wp2;go_ret;exact⟨rfl,eA⟩
theorem zgh (w:I) (sk pin wide lap step run level:Int) (a b l r f t a' b' l' r' f' t':Int) (hj:BJt ⟨a,b,l,r,f,t⟩) (hk:BJt ⟨a',b',l',r',f',t'⟩) :
  Calls Tryz.prog 76 #[J #[O .u8 sk,O Y pin,O Y wide,O Y lap,O Y step,O Y run,O Y level],J #[O Y a,O Y b,O Y l,O Y r,O Y f,O Y t],J #[O Y a',O Y b',O Y l',O Y r',O Y f',O Y t']] w
   fun e w'=>e = .returned (V (followsB ⟨sk,pin,wide,lap,step,run,level⟩ ⟨a,b,l,r,f,t⟩ ⟨a',b',l',r',f',t'⟩))∧Ext w w':=by
 obtain⟨hx1,hx2,hx3,hx4,hx5,hx6⟩:=hj;obtain⟨hy1,hy2,hy3,hy4,hy5,hy6⟩:=hk;dsimp only at hx1 hx2 hx3 hx4 hx5 hx6 hy1 hy2 hy3 hy4 hy5 hy6;have HN:=hd9 (fun W=>zhe W sk pin wide lap step run level f' t hy5 hx6);unfold followsB;dsimp only;unfold Bd at *;have d1 : -9223372036854775808≤l'-r:=by omega
 have d2:l'-r≤9223372036854775807:=by omega
 have d3 : -9223372036854775808≤l-r':=by omega
 have d4:l-r'≤9223372036854775807:=by omega
 clear hx1 hx2 hx3 hx4 hx5 hx6 hy1 hy2 hy3 hy4 hy5 hy6
 by_cases h1:f<f'
 ·obtain⟨p,hp⟩:=gX (nearB step f' t)
  rw [hp]at HN ⊢;clear hp
  cases p
  ·go_enter Tryz.func76,Tryz.ntmps76
   go_wp2_with(go_at_call 74;(with_reducible refine(HN.out _).mono ?_);rintro e w3 ⟨rfl,hx3⟩)
   go_ret;exact⟨by simp,eA⟩
  ·go_enter Tryz.func76,Tryz.ntmps76
   go_wp2_with(go_at_call 74;(with_reducible refine(HN.out _).mono ?_);rintro e w3 ⟨rfl,hx3⟩;obtain⟨hc3,hf3⟩:=hx3.cells;(have z3:=hx3.size);(simp only [wZ]at z3);(have y0:w.heap.size<w3.heap.size:=(by omega));(have y1:w.heap.size+1<w3.heap.size:=(by omega));(have y2:w.heap.size+1+1<w3.heap.size:=(by omega)))
   all_goals go_ret
   all_goals refine⟨?_,eA⟩
   all_goals(refine zcS (congrArg Value.bool ?_);show decide _=decide _;rw [decide_eq_decide];(repeat' split at *)<;>omega)
 ·go_enter Tryz.func76,Tryz.ntmps76
  go_wp2;go_ret;exact⟨by rw [show decide (f<f')=false by simp;omega];rfl,eA⟩
theorem zjR (w:I) (v:Z) (js:List (JS×Z)) (b1:Nat) (f:JS→Bool) (h:IsJs w v js)
  (hf:∀W,Ext w W→∀j∈js,Calls Tryz.prog 86 #[J (jca j),X (some ⟨b1,0,none⟩)] W fun e w'=>e = .returned (V (f j.1))∧Ext W w') :
  Calls Tryz.prog 82 #[v,.func (.func 86) #[] #[X (some ⟨b1,0,none⟩)]] w fun e w'=>e = .returned (O Y (idxB (fun j=>f j.1) js))∧Ext w w':=by
 obtain⟨a,c,rfl⟩:=h.form;obtain⟨n,hn⟩:=gX js.length;rw [hn]at h ⊢;have hle:=h.le;unfold maxLen at hle;have hnc:n≤9223372036854775807:=by omega
 have Hn:=hd9 hn;have Hf:=hd9 hf;clear hn hle hf;go_enter Tryz.func82,Tryz.ntmps82;go_wp2
 go_loopg [8] n (IjS w f js)
 case atStart=>exact⟨0,by omega,rfl,by rw [Hn.out];rfl,eR _,fun j y hj=>by omega⟩
 case round =>
  obtain⟨i,hi,rfl,rfl,hx,hall⟩:=hrel;rw [Hn.out]at hi;have Hall:=hd9 hall;clear hall
  by_cases hlt:i<n
  ·obtain⟨⟨⟨⟨nm,sh,d,de,gx,gz,wy,ax,az,sk⟩,k,⟨xl,xh⟩,zl,zh⟩,v⟩,hq⟩:∃q,js[i]?=some q:=⟨js[i]'(by rw [Hn.out];omega),by simp [Hn.out,hlt]⟩
   obtain⟨b,o,rfl,hb,hc⟩:=(h.ext' hx).at' hq;have HC:=hd9 (fun W (hW:Ext wr W)=>Hf.out W (hx.trans hW) _ (lM hq));obtain⟨fp,f7⟩:=gX (f ⟨⟨nm,sh,d,de,gx,gz,wy,ax,az,sk⟩,k,⟨xl,xh⟩,zl,zh⟩);rw [f7]at HC;have F7:=hd9 f7;unfold jca at hc HC;dsimp only at hc HC;have cc0:=hc 0 (.string nm) rfl;have cc1:=hc 1 v rfl;have cc2:=hc 2 (O Y d) rfl;have cc3:=hc 3 (O Y de) rfl;have cc4:=hc 4 (O Y gx) rfl;have cc5:=hc 5 (O Y gz) rfl;have cc6:=hc 6 (O Y wy) rfl;have cc7:=hc 7 (O Y ax) rfl;have cc8:=hc 8 (O Y az) rfl;have cc9:=hc 9 (O .u8 sk) rfl;have cc10:=hc 10 (O Y k) rfl;have cc11:=hc 11 (O Y xl) rfl;have cc12:=hc 12 (O Y xh) rfl;have cc13:=hc 13 (O Y zl) rfl;have cc14:=hc 14 (O Y zh) rfl;simp only [Nat.add_zero]at cc0;have Hq:=hd9 hq;clear hq hc f7
   cases fp with
   | true =>
    have e:idxB (fun j:JS×Z=>f j.1) js=(i:Int):=zaC Hq.out F7.out Hall.out;have E:=hd9 e;clear e
    go_wp2_with(((go_at_call 86;(with_reducible refine(HC.out _ ?_).mono ?_);exact eA;rintro e w1 ⟨rfl,hx1⟩)))
    go_ret;exact⟨by rw [E.out];rfl,eA⟩
   | false =>
    go_wp2_with(((go_at_call 86;(with_reducible refine(HC.out _ ?_).mono ?_);exact eA;rintro e w1 ⟨rfl,hx1⟩)))
    go_roundg (n-(i+1))
    case measure=>have:=Hn.out;omega
    case rel =>
     refine⟨i+1,by have:=Hn.out;omega,by go_num,by rw [Hn.out],eA,fun j y hj hy=>?_⟩
     by_cases hji:j=i
     ·subst hji;rw [Hq.out]at hy;cases hy;exact F7.out
     ·exact Hall.out j y (by omega) hy
  ·obtain rfl:i=n:=by omega
   have e:idxB (fun j:JS×Z=>f j.1) js = -1:=zaB (fun j y hj hy=>Hall.out j y (by rw [Hn.out]at hj;exact hj) hy);have E:=hd9 e;clear e;go_wp2;go_ret;exact⟨by rw [E.out];rfl,hx⟩
theorem zjh (w:I) (v:Z) (js:List (JS×Z)) (b1:Nat) (f:JS→Bool) (h:IsJs w v js)
  (hf:∀W,Ext w W→∀j∈js,Calls Tryz.prog 86 #[J (jca j),X (some ⟨b1,0,none⟩)] W fun e w'=>e = .returned (V (f j.1))∧Ext W w') :
  Calls Tryz.prog 57 #[v,.func (.func 86) #[] #[X (some ⟨b1,0,none⟩)]] w fun e w'=>e = .returned (V (js.any fun j=>f j.1))∧Ext w w':=by
 rw [←zbo];obtain⟨x,hx⟩:=gX (idxB (fun j:JS×Z=>f j.1) js);have hc:=fun W (hW:Ext w W)=>zjR W v js b1 f (h.ext' hW) (fun W' hW'=>hf W' (hW.trans hW'))
 obtain⟨a,n,c,rfl⟩:=form3 h;simp only [hx]at hc ⊢;have Hc:=hd9 hc;clear hc hx h hf;go_enter Tryz.func57,Tryz.ntmps57
 go_wp2_with(((go_at_call 82;(with_reducible refine(Hc.out _ ?_).mono ?_);exact eA;rintro e w1 ⟨rfl,hx1⟩)))
 go_ret;exact⟨rfl,eA⟩
theorem zjP (w:I) (v:Z) (js:List (JS×Z)) (b1:Nat) (f:JS→Bool) (h:IsJs w v js)
  (hf:∀W,Ext w W→∀j∈js,Calls Tryz.prog 58 #[J (jca j),X (some ⟨b1,0,none⟩)] W fun e w'=>e = .returned (V (f j.1))∧Ext W w') :
  Calls Tryz.prog 82 #[v,.func (.func 58) #[] #[X (some ⟨b1,0,none⟩)]] w fun e w'=>e = .returned (O Y (idxB (fun j=>f j.1) js))∧Ext w w':=by
 obtain⟨a,c,rfl⟩:=h.form;obtain⟨n,hn⟩:=gX js.length;rw [hn]at h ⊢;have hle:=h.le;unfold maxLen at hle;have hnc:n≤9223372036854775807:=by omega
 have Hn:=hd9 hn;have Hf:=hd9 hf;clear hn hle hf;go_enter Tryz.func82,Tryz.ntmps82;go_wp2
 go_loopg [8] n (IjS w f js)
 case atStart=>exact⟨0,by omega,rfl,by rw [Hn.out];rfl,eR _,fun j y hj=>by omega⟩
 case round =>
  obtain⟨i,hi,rfl,rfl,hx,hall⟩:=hrel;rw [Hn.out]at hi;have Hall:=hd9 hall;clear hall
  by_cases hlt:i<n
  ·obtain⟨⟨⟨⟨nm,sh,d,de,gx,gz,wy,ax,az,sk⟩,k,⟨xl,xh⟩,zl,zh⟩,v⟩,hq⟩:∃q,js[i]?=some q:=⟨js[i]'(by rw [Hn.out];omega),by simp [Hn.out,hlt]⟩
   obtain⟨b,o,rfl,hb,hc⟩:=(h.ext' hx).at' hq;have HC:=hd9 (fun W (hW:Ext wr W)=>Hf.out W (hx.trans hW) _ (lM hq));obtain⟨fp,f7⟩:=gX (f ⟨⟨nm,sh,d,de,gx,gz,wy,ax,az,sk⟩,k,⟨xl,xh⟩,zl,zh⟩);rw [f7]at HC;have F7:=hd9 f7;unfold jca at hc HC;dsimp only at hc HC;have cc0:=hc 0 (.string nm) rfl;have cc1:=hc 1 v rfl;have cc2:=hc 2 (O Y d) rfl;have cc3:=hc 3 (O Y de) rfl;have cc4:=hc 4 (O Y gx) rfl;have cc5:=hc 5 (O Y gz) rfl;have cc6:=hc 6 (O Y wy) rfl;have cc7:=hc 7 (O Y ax) rfl;have cc8:=hc 8 (O Y az) rfl;have cc9:=hc 9 (O .u8 sk) rfl;have cc10:=hc 10 (O Y k) rfl;have cc11:=hc 11 (O Y xl) rfl;have cc12:=hc 12 (O Y xh) rfl;have cc13:=hc 13 (O Y zl) rfl;have cc14:=hc 14 (O Y zh) rfl;simp only [Nat.add_zero]at cc0;have Hq:=hd9 hq;clear hq hc f7
   cases fp with
   | true =>
    have e:idxB (fun j:JS×Z=>f j.1) js=(i:Int):=zaC Hq.out F7.out Hall.out;have E:=hd9 e;clear e
    go_wp2_with(((go_at_call 58;(with_reducible refine(HC.out _ ?_).mono ?_);exact eA;rintro e w1 ⟨rfl,hx1⟩)))
    go_ret;exact⟨by rw [E.out];rfl,eA⟩
   | false =>
    go_wp2_with(((go_at_call 58;(with_reducible refine(HC.out _ ?_).mono ?_);exact eA;rintro e w1 ⟨rfl,hx1⟩)))
    go_roundg (n-(i+1))
    case measure=>have:=Hn.out;omega
    case rel =>
     refine⟨i+1,by have:=Hn.out;omega,by go_num,by rw [Hn.out],eA,fun j y hj hy=>?_⟩
     by_cases hji:j=i
     ·subst hji;rw [Hq.out]at hy;cases hy;exact F7.out
     ·exact Hall.out j y (by omega) hy
  ·obtain rfl:i=n:=by omega
   have e:idxB (fun j:JS×Z=>f j.1) js = -1:=zaB (fun j y hj hy=>Hall.out j y (by rw [Hn.out]at hj;exact hj) hy);have E:=hd9 e;clear e;go_wp2;go_ret;exact⟨by rw [E.out];rfl,hx⟩
theorem zjf (w:I) (v:Z) (js:List (JS×Z)) (b1:Nat) (f:JS→Bool) (h:IsJs w v js)
  (hf:∀W,Ext w W→∀j∈js,Calls Tryz.prog 58 #[J (jca j),X (some ⟨b1,0,none⟩)] W fun e w'=>e = .returned (V (f j.1))∧Ext W w') :
  Calls Tryz.prog 57 #[v,.func (.func 58) #[] #[X (some ⟨b1,0,none⟩)]] w fun e w'=>e = .returned (V (js.any fun j=>f j.1))∧Ext w w':=by
 rw [←zbo];obtain⟨x,hx⟩:=gX (idxB (fun j:JS×Z=>f j.1) js);have hc:=fun W (hW:Ext w W)=>zjP W v js b1 f (h.ext' hW) (fun W' hW'=>hf W' (hW.trans hW'))
 obtain⟨a,n,c,rfl⟩:=form3 h;simp only [hx]at hc ⊢;have Hc:=hd9 hc;clear hc hx h hf;go_enter Tryz.func57,Tryz.ntmps57
 go_wp2_with(((go_at_call 82;(with_reducible refine(Hc.out _ ?_).mono ?_);exact eA;rintro e w1 ⟨rfl,hx1⟩)))
 go_ret;exact⟨rfl,eA⟩
def fillB (j:Jt) (x:JS):Bool:=(x.k != j.a)&&((x.k != j.b)&&(decide (max x.z.1 j.fr<min x.z.2 j.til)&&decide (max x.x.1 j.left<min x.x.2 j.right)))
theorem zlF (w:I) (x:JS×Z) (j:Jt) (b:Nat) (hb:w.heap[b]?=some (.cells (jta j) 75 (0,0))) :
  Calls Tryz.prog 86 #[J (jca x),X (some ⟨b,0,none⟩)] w fun e w'=>e = .returned (V (fillB j x.1))∧Ext w w':=by
 obtain⟨⟨⟨nm,sh,d,de,gx,gz,wy,ax,az,sk⟩,k,⟨xl,xh⟩,zl,zh⟩,v⟩:=x;obtain⟨ja,jb,jl,jr,jf,jt⟩:=j;have z1:=zab hb;have z3:b<w.heap.size+1:=by omega
 have c0:=qcB hb (i:=0) (u:=O Y ja) rfl;have c1:=qcB hb (i:=1) (u:=O Y jb) rfl;have c2:=qcB hb (i:=2) (u:=O Y jl) rfl;have c3:=qcB hb (i:=3) (u:=O Y jr) rfl;have c4:=qcB hb (i:=4) (u:=O Y jf) rfl;have c5:=qcB hb (i:=5) (u:=O Y jt) rfl;unfold fillB jca;dsimp only
 by_cases h1:k=ja
 ·have e1:(k != ja)=false:=by simp [h1]
  rw [e1];clear h1;go_enter Tryz.func86,Tryz.ntmps86;go_wp2;go_ret;exact⟨rfl,eA⟩
 have e1:(k != ja)=true:=by simpa using h1
 by_cases h2:k=jb
 ·have e2:(k != jb)=false:=by simp [h2]
  rw [e1,e2];clear h1 h2;go_enter Tryz.func86,Tryz.ntmps86;go_wp2;go_ret;exact⟨rfl,eA⟩
 have e2:(k != jb)=true:=by simpa using h2
 rw [e1,e2];obtain⟨p,hp⟩:=gX (decide (max zl jf<min zh jt));obtain⟨q,hq⟩:=gX (decide (max xl jl<min xh jr));rw [hp,hq];have HP:=hd9 hp;have HQ:=hd9 hq;clear h1 h2 hp hq
 cases p
 ·go_enter Tryz.func86,Tryz.ntmps86
  go_wp2_with(go_at_call 46;(with_reducible refine(zbq _ zl zh jf jt).mono ?_);rw [HP.out];rintro e w3 ⟨rfl,hx3⟩;obtain⟨hc3,hf3⟩:=hx3.cells)
  go_ret;exact⟨rfl,eA⟩
 ·go_enter Tryz.func86,Tryz.ntmps86
  go_wp2_with(first|(go_at_call 46;(with_reducible refine(zbq _ zl zh jf jt).mono ?_);rw [HP.out];rintro e w3 ⟨rfl,hx3⟩;obtain⟨hc3,hf3⟩:=hx3.cells;(have z4:=hx3.size);(simp only [wZ]at z4);(have y0:w.heap.size<w3.heap.size:=(by omega));(have y1:b<w3.heap.size:=(by omega)))|(go_at_call 46;(with_reducible refine(zbq _ xl xh jl jr).mono ?_);rw [HQ.out];rintro e w5 ⟨rfl,hx5⟩))
  go_ret;exact⟨by simp,eA⟩
def svc (r:Ru) (vg vp vs vj vr:Z):Array Z:=#[O .u8 r.skin,O Y r.pin,O Y r.wide,O Y r.lap,O Y r.step,O Y r.run,O Y r.level,vg,vp,vs,vj,vr]
def filledB (sk:List JS) (j:Jt):Bool:=sk.any (fillB j)
theorem zhS (w:I) (b:Nat) (r:Ru) (vg vp vs vj vr:Z) (js:List (JS×Z)) (j:Jt) (hb:w.heap[b]?=some (.cells (svc r vg vp vs vj vr) 113 (0,0))) (h:IsJs w vs js) :
  Calls Tryz.prog 52 #[X (some ⟨b,0,none⟩),J (jta j)] w fun e w'=>e = .returned (V (filledB (js.map Prod.fst) j))∧Ext w w':=by
 have e:filledB (js.map Prod.fst) j=js.any fun x=>fillB j x.1:=by unfold filledB;rw [List.any_map];rfl
 rw [e];have HC:=hd9 (fun W (hW:Ext w W) (bj:Nat) (hj:W.heap[bj]?=some (.cells (jta j) 75 (0,0)))=>zjh W vs js bj (fillB j) (h.ext' hW) (fun W' hW' x _=>zlF W' x j bj (hW'.heapS hj)));obtain⟨x,hx⟩:=gX ((js.any fun x=>fillB j x.1));rw [hx]at HC ⊢;obtain⟨a,n,c,rfl⟩:=form3 h;obtain⟨ja,jb,jl,jr,jf,jt⟩:=j;obtain⟨sk,pin,wide,lap,step,run,level⟩:=r;have z1:=zab hb;have z3:b<w.heap.size+1:=by omega
 have c0:=qcB hb (i:=9) (u:=.slice a n c) rfl;unfold jta at HC ⊢;dsimp only at HC ⊢;clear h hb hx e;have hmf:∀(fn:Fn) (first cap:Array Z) (w:I),(Instr.makeFunc fn first cap).run Tryz.prog w = .ok (.func fn first cap) w:=fun _ _ _ _=>rfl
 go_enter Tryz.func52,Tryz.ntmps52
 go_wp2_with(go_at_call 57;(with_reducible refine(HC.out _ ?_ _ ?_).mono ?_);exact eA;(focus(exact aN _ _));rintro e w1 ⟨rfl,hx1⟩)
 go_ret;exact⟨rfl,eA⟩
end
end Go.Proofs.YteipgejmhfpkaaaGreatDoor.Cop
