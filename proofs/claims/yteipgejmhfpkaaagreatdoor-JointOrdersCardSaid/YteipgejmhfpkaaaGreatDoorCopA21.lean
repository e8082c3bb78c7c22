/- Part 22 of 44: contracts of what the law calls. -/
import Derived.Test.YteipgejmhfpkaaaGreatDoorCopA20
set_option maxRecDepth 1000000
set_option maxHeartbeats 16000000
set_option linter.unusedSimpArgs false
set_option linter.unusedVariables false
namespace Go.Proofs.YteipgejmhfpkaaaGreatDoor.Cop
open Go.RowKit Go.Shelf Go.Sort Go.Lib
structure Ru where
 skin:Int
 pin:Int
 wide:Int
 lap:Int
 step:Int
 run:Int
 level:Int
def ruc (r:Ru):Array Value:=#[.int .u8 r.skin,.int .i64 r.pin,.int .i64 r.wide,.int .i64 r.lap,.int .i64 r.step,.int .i64 r.run,.int .i64 r.level]
def oddR (n:Int):Bool:=decide (n<0) || decide (10000<n)
def rulesE (r:Ru):Int:=if (r.skin != 1&&r.skin != 2)=true then 2 else if r.pin<0 then 2 else if 50<r.pin then 2 else if [r.wide,r.lap,r.step,r.run,r.level].any oddR=true then 2 else 0
theorem oddr_any (w:World) (z:Int):Calls Tryz.prog 85 #[.int .i64 z] w fun e w'=>e = .returned (.bool (oddR z))∧Ext w w':=by
 unfold oddR
 by_cases h:z<0
 ·go_enter Tryz.func85,Tryz.ntmps85
  go_wp2;go_ret;exact⟨by simp [h],eA⟩
 ·go_enter Tryz.func85,Tryz.ntmps85
  go_wp2;go_ret;exact⟨by simp;omega,eA⟩
theorem ixodd_any (w:World) (v:Value) (zs:List Int) (h:IsIs w v zs) :
  Calls Tryz.prog 77 #[v,.func (.func 85) #[] #[]] w fun e w'=>e = .returned (.int .i64 (idxB oddR zs))∧Ext w w':=by
 obtain⟨a,c,rfl⟩:=h.form;obtain⟨n,hn⟩:∃n,zs.length=n:=⟨_,rfl⟩;rw [hn]at h ⊢;have hle:=h.le;unfold maxLen at hle;have hnc:n≤9223372036854775807:=by omega
 have Hn:=hd9 hn;clear hn hle;go_enter Tryz.func77,Tryz.ntmps77;go_wp2
 go_loopg [8] n (IiS w oddR zs)
 case atStart=>exact⟨0,by omega,rfl,by rw [Hn.out];rfl,Ext.refl _,fun j y hj=>by omega⟩
 case round =>
  obtain⟨i,hi,rfl,rfl,hx,hall⟩:=hrel;rw [Hn.out]at hi;have Hall:=hd9 hall;clear hall
  by_cases hlt:i<n
  ·obtain⟨z,hq⟩:∃q,zs[i]?=some q:=⟨zs[i]'(by rw [Hn.out];omega),by simp [Hn.out,hlt]⟩
   obtain⟨b,o,rfl,hb,d0⟩:=(h.ext' hx).at' hq;have Hq:=hd9 hq;obtain⟨fz,hf⟩:∃x,oddR z=x:=⟨_,rfl⟩;have Hf:=hd9 hf;clear hq hf
   cases fz with
   | true =>
    have e:idxB oddR zs=(i:Int):=idxB_some Hq.out Hf.out Hall.out;have E:=hd9 e;clear e
    go_wp2_with(((go_at_call 85;(with_reducible refine(oddr_any _ z).mono ?_);rw [Hf.out];rintro e w1 ⟨rfl,hx1⟩)))
    go_ret;exact⟨by rw [E.out];rfl,eA⟩
   | false =>
    go_wp2_with(((go_at_call 85;(with_reducible refine(oddr_any _ z).mono ?_);rw [Hf.out];rintro e w1 ⟨rfl,hx1⟩)))
    go_roundg (n-(i+1))
    case measure=>have:=Hn.out;omega
    case rel =>
     refine⟨i+1,by have:=Hn.out;omega,by go_num,by rw [Hn.out],eA,fun j y hj hy=>?_⟩
     by_cases hji:j=i
     ·subst hji;rw [Hq.out]at hy;cases hy;exact Hf.out
     ·exact Hall.out j y (by omega) hy
  ·obtain rfl:i=n:=by omega
   have e:idxB oddR zs = -1:=idxB_none (fun j y hj hy=>Hall.out j y (by rw [Hn.out]at hj;exact hj) hy);have E:=hd9 e;clear e;go_wp2;go_ret;exact⟨by rw [E.out];rfl,hx⟩
theorem ctoddr_any (w:World) (v:Value) (zs:List Int) (h:IsIs w v zs) :
  Calls Tryz.prog 42 #[v,.func (.func 85) #[] #[]] w fun e w'=>e = .returned (.bool (zs.any oddR))∧Ext w w':=by
 rw [←idxB_any];obtain⟨x,hx⟩:∃x,idxB oddR zs=x:=⟨_,rfl⟩;have hc:=fun W (hW:Ext w W)=>ixodd_any W v zs (h.ext' hW)
 obtain⟨a,n,c,rfl⟩:=form3 h;simp only [hx]at hc ⊢;have Hc:=hd9 hc;clear hc hx h;go_enter Tryz.func42,Tryz.ntmps42
 go_wp2_with(((go_at_call 77;(with_reducible refine(Hc.out _ ?_).mono ?_);exact eA;rintro e w1 ⟨rfl,hx1⟩)))
 go_ret;exact⟨rfl,eA⟩
theorem is_five (W:World) {k:Nat} (hk:k=W.heap.size) (x y z u v:Int):IsIs (W.alloc (.cells #[.int .i64 x,.int .i64 y,.int .i64 z,.int .i64 u,.int .i64 v] 3)) (.slice (some ⟨k,0,none⟩) 5 5) [x,y,z,u,v]:=by
 subst hk;refine⟨[[.int .i64 x],[.int .i64 y],[.int .i64 z],[.int .i64 u],[.int .i64 v]],rfl,by simp,⟨by simp,some ⟨W.heap.size,0,none⟩,5,rfl,Nat.le_refl _,by unfold maxLen;omega,.inr ⟨W.heap.size,0,_,(0,0),rfl,heap_alloc_new _ _,?_⟩⟩,?_⟩
 ·intro i v hv
  simpa using hv
 ·intro i c v hc hv
  match i,hc,hv with
  | 0,hc,hv=>simp at hc hv;subst hc hv;rfl
  | 1,hc,hv=>simp at hc hv;subst hc hv;rfl
  | 2,hc,hv=>simp at hc hv;subst hc hv;rfl
  | 3,hc,hv=>simp at hc hv;subst hc hv;rfl
  | 4,hc,hv=>simp at hc hv;subst hc hv;rfl
  | i+5,hc,hv=>simp at hc
theorem rules_odd (w:World) (r:Ru) (h:(r.skin != 1&&r.skin != 2)=true) :
  Calls Tryz.prog 51 #[.agg (ruc r)] w fun e w'=>e = .returned (.int .i64 (rulesE r))∧Ext w w':=by
 have e:rulesE r=2:=by unfold rulesE;rw [if_pos h]
 rw [e];clear e;obtain⟨sk,pin,wide,lap,step,run,level⟩:=r;unfold ruc;dsimp only at h ⊢;rw [Bool.and_eq_true]at h;obtain⟨h1,h2⟩:=h;have g1:(sk==1)=false:=by simpa using h1
 have g2:(sk==2)=false:=by simpa using h2
 go_enter Tryz.func51,Tryz.ntmps51;go_wp2;go_ret;exact⟨rfl,eA⟩
theorem rules_front (w:World) (pin wide lap step run level:Int) :
  Calls Tryz.prog 51 #[.agg #[.int .u8 1,.int .i64 pin,.int .i64 wide,.int .i64 lap,.int .i64 step,.int .i64 run,.int .i64 level]] w fun e w'=>e = .returned (.int .i64 (rulesE ⟨1,pin,wide,lap,step,run,level⟩))∧Ext w w':=by
 obtain⟨x,hx⟩:∃x,rulesE ⟨1,pin,wide,lap,step,run,level⟩=x:=⟨_,rfl⟩;rw [hx];have e0:rulesE ⟨1,pin,wide,lap,step,run,level⟩=if pin<0 then 2 else if 50<pin then 2 else if [wide,lap,step,run,level].any oddR=true then 2 else 0:=rfl
 by_cases c1:pin<0
 ·rw [e0,if_pos c1]at hx
  subst hx;clear e0;go_enter Tryz.func51,Tryz.ntmps51;go_wp2;go_ret;exact⟨rfl,eA⟩
 by_cases c2:50<pin
 ·rw [e0,if_neg c1,if_pos c2]at hx
  subst hx;clear e0;go_enter Tryz.func51,Tryz.ntmps51;go_wp2;go_ret;exact⟨rfl,eA⟩
 rw [e0,if_neg c1,if_neg c2]at hx;clear e0;obtain⟨b,hb⟩:∃b,[wide,lap,step,run,level].any oddR=b:=⟨_,rfl⟩;rw [hb]at hx;have HB:=hd9 hb;clear hb
 cases b with
 | true =>
  rw [if_pos rfl]at hx;subst hx;go_enter Tryz.func51,Tryz.ntmps51
  go_wp2_with(go_at_call 42;(with_reducible refine(ctoddr_any _ (.slice (some ⟨w.heap.size+1,0,none⟩) 5 5) [wide,lap,step,run,level] (is_five _ (by simp) wide lap step run level)).mono ?_);rw [HB.out];rintro e w4 ⟨rfl,hx4⟩)
  go_ret;exact⟨rfl,eA⟩
 | false =>
  rw [if_neg (by decide)]at hx;subst hx;go_enter Tryz.func51,Tryz.ntmps51
  go_wp2_with(go_at_call 42;(with_reducible refine(ctoddr_any _ (.slice (some ⟨w.heap.size+1,0,none⟩) 5 5) [wide,lap,step,run,level] (is_five _ (by simp) wide lap step run level)).mono ?_);rw [HB.out];rintro e w4 ⟨rfl,hx4⟩)
  go_ret;exact⟨rfl,eA⟩
theorem rules_back (w:World) (pin wide lap step run level:Int) :
  Calls Tryz.prog 51 #[.agg #[.int .u8 2,.int .i64 pin,.int .i64 wide,.int .i64 lap,.int .i64 step,.int .i64 run,.int .i64 level]] w fun e w'=>e = .returned (.int .i64 (rulesE ⟨2,pin,wide,lap,step,run,level⟩))∧Ext w w':=by
 obtain⟨x,hx⟩:∃x,rulesE ⟨2,pin,wide,lap,step,run,level⟩=x:=⟨_,rfl⟩;rw [hx];have e0:rulesE ⟨2,pin,wide,lap,step,run,level⟩=if pin<0 then 2 else if 50<pin then 2 else if [wide,lap,step,run,level].any oddR=true then 2 else 0:=rfl
 by_cases c1:pin<0
 ·rw [e0,if_pos c1]at hx
  subst hx;clear e0;go_enter Tryz.func51,Tryz.ntmps51;go_wp2;go_ret;exact⟨rfl,eA⟩
 by_cases c2:50<pin
 ·rw [e0,if_neg c1,if_pos c2]at hx
  subst hx;clear e0;go_enter Tryz.func51,Tryz.ntmps51;go_wp2;go_ret;exact⟨rfl,eA⟩
 rw [e0,if_neg c1,if_neg c2]at hx;clear e0;obtain⟨b,hb⟩:∃b,[wide,lap,step,run,level].any oddR=b:=⟨_,rfl⟩;rw [hb]at hx;have HB:=hd9 hb;clear hb
 cases b with
 | true =>
  rw [if_pos rfl]at hx;subst hx;go_enter Tryz.func51,Tryz.ntmps51
  go_wp2_with(go_at_call 42;(with_reducible refine(ctoddr_any _ (.slice (some ⟨w.heap.size+1,0,none⟩) 5 5) [wide,lap,step,run,level] (is_five _ (by simp) wide lap step run level)).mono ?_);rw [HB.out];rintro e w4 ⟨rfl,hx4⟩)
  go_ret;exact⟨rfl,eA⟩
 | false =>
  rw [if_neg (by decide)]at hx;subst hx;go_enter Tryz.func51,Tryz.ntmps51
  go_wp2_with(go_at_call 42;(with_reducible refine(ctoddr_any _ (.slice (some ⟨w.heap.size+1,0,none⟩) 5 5) [wide,lap,step,run,level] (is_five _ (by simp) wide lap step run level)).mono ?_);rw [HB.out];rintro e w4 ⟨rfl,hx4⟩)
  go_ret;exact⟨rfl,eA⟩
theorem rules_any (w:World) (r:Ru):Calls Tryz.prog 51 #[.agg (ruc r)] w fun e w'=>e = .returned (.int .i64 (rulesE r))∧Ext w w':=by
 by_cases h:(r.skin != 1&&r.skin != 2)=true
 ·exact rules_odd w r h
 ·obtain⟨sk,pin,wide,lap,step,run,level⟩:=r
  rw [Bool.and_eq_true]at h
  by_cases h1:sk=1
  ·subst h1;exact rules_front w pin wide lap step run level
  ·by_cases h2:sk=2
   ·subst h2;exact rules_back w pin wide lap step run level
   ·exact absurd (by dsimp only;simp [h1,h2]) h
structure Jt where
 a:Int
 b:Int
 left:Int
 right:Int
 fr:Int
 til:Int
def jta (j:Jt):Array Value:=#[.int .i64 j.a,.int .i64 j.b,.int .i64 j.left,.int .i64 j.right,.int .i64 j.fr,.int .i64 j.til]
def jtc (j:Jt):List Value:=(jta j).toList
def BJt (j:Jt):Prop:=Bd 1000000 j.a∧Bd 1000000 j.b∧Bd 1000000 j.left∧Bd 1000000 j.right∧Bd 1000000 j.fr∧Bd 1000000 j.til
def nearB (step a b:Int):Bool:=decide (max (a-b) (b-a)≤step)
def followsB (r:Ru) (j k:Jt):Bool:=decide (j.fr<k.fr)&&(nearB r.step k.fr j.til&&decide (max 0 (max (k.left-j.right) (j.left-k.right))<r.lap))
theorem near_any (w:World) (sk pin wide lap step run level:Int) (a b:Int) (ha:Bd 1000000 a) (hb:Bd 1000000 b) :
  Calls Tryz.prog 74 #[.agg #[.int .u8 sk,.int .i64 pin,.int .i64 wide,.int .i64 lap,.int .i64 step,.int .i64 run,.int .i64 level],.int .i64 a,.int .i64 b] w fun e w'=>e = .returned (.bool (nearB step a b))∧Ext w w':=by
 unfold nearB;unfold Bd at ha hb;have d1 : -9223372036854775808≤a-b:=by omega
 have d2:a-b≤9223372036854775807:=by omega
 have d3 : -9223372036854775808≤b-a:=by omega
 have d4:b-a≤9223372036854775807:=by omega
 clear ha hb;go_enter Tryz.func74,Tryz.ntmps74;go_wp2;go_ret;exact⟨rfl,eA⟩
theorem follows_any (w:World) (sk pin wide lap step run level:Int) (a b l r f t a' b' l' r' f' t':Int) (hj:BJt ⟨a,b,l,r,f,t⟩) (hk:BJt ⟨a',b',l',r',f',t'⟩) :
  Calls Tryz.prog 76 #[.agg #[.int .u8 sk,.int .i64 pin,.int .i64 wide,.int .i64 lap,.int .i64 step,.int .i64 run,.int .i64 level],.agg #[.int .i64 a,.int .i64 b,.int .i64 l,.int .i64 r,.int .i64 f,.int .i64 t],.agg #[.int .i64 a',.int .i64 b',.int .i64 l',.int .i64 r',.int .i64 f',.int .i64 t']] w
   fun e w'=>e = .returned (.bool (followsB ⟨sk,pin,wide,lap,step,run,level⟩ ⟨a,b,l,r,f,t⟩ ⟨a',b',l',r',f',t'⟩))∧Ext w w':=by
 obtain⟨hx1,hx2,hx3,hx4,hx5,hx6⟩:=hj;obtain⟨hy1,hy2,hy3,hy4,hy5,hy6⟩:=hk;dsimp only at hx1 hx2 hx3 hx4 hx5 hx6 hy1 hy2 hy3 hy4 hy5 hy6;have HN:=hd9 (fun W=>near_any W sk pin wide lap step run level f' t hy5 hx6);unfold followsB;dsimp only;unfold Bd at *;have d1 : -9223372036854775808≤l'-r:=by omega
 have d2:l'-r≤9223372036854775807:=by omega
 have d3 : -9223372036854775808≤l-r':=by omega
 have d4:l-r'≤9223372036854775807:=by omega
 clear hx1 hx2 hx3 hx4 hx5 hx6 hy1 hy2 hy3 hy4 hy5 hy6
 by_cases h1:f<f'
 ·obtain⟨p,hp⟩:∃p,nearB step f' t=p:=⟨_,rfl⟩
  rw [hp]at HN ⊢;clear hp
  cases p
  ·go_enter Tryz.func76,Tryz.ntmps76
   go_wp2_with(go_at_call 74;(with_reducible refine(HN.out _).mono ?_);rintro e w3 ⟨rfl,hx3⟩)
   go_ret;exact⟨by simp,eA⟩
  ·go_enter Tryz.func76,Tryz.ntmps76
   go_wp2_with(go_at_call 74;(with_reducible refine(HN.out _).mono ?_);rintro e w3 ⟨rfl,hx3⟩;obtain⟨hc3,hf3⟩:=hx3.cells;(have z3:=hx3.size);(simp only [wZ]at z3);(have y0:w.heap.size<w3.heap.size:=(by omega));(have y1:w.heap.size+1<w3.heap.size:=(by omega));(have y2:w.heap.size+1+1<w3.heap.size:=(by omega)))
   all_goals go_ret
   all_goals refine⟨?_,eA⟩
   all_goals(refine ret_eq (congrArg Value.bool ?_);show decide _=decide _;rw [decide_eq_decide];(repeat' split at *)<;>omega)
 ·go_enter Tryz.func76,Tryz.ntmps76
  go_wp2;go_ret;exact⟨by rw [show decide (f<f')=false by simp;omega];rfl,eA⟩
theorem ixfil_any (w:World) (v:Value) (js:List (JS×Value)) (b1:Nat) (f:JS→Bool) (h:IsJs w v js)
  (hf:∀W,Ext w W→∀j∈js,Calls Tryz.prog 86 #[.agg (jca j),.pointer (some ⟨b1,0,none⟩)] W fun e w'=>e = .returned (.bool (f j.1))∧Ext W w') :
  Calls Tryz.prog 82 #[v,.func (.func 86) #[] #[.pointer (some ⟨b1,0,none⟩)]] w fun e w'=>e = .returned (.int .i64 (idxB (fun j=>f j.1) js))∧Ext w w':=by
 obtain⟨a,c,rfl⟩:=h.form;obtain⟨n,hn⟩:∃n,js.length=n:=⟨_,rfl⟩;rw [hn]at h ⊢;have hle:=h.le;unfold maxLen at hle;have hnc:n≤9223372036854775807:=by omega
 have Hn:=hd9 hn;have Hf:=hd9 hf;clear hn hle hf;go_enter Tryz.func82,Tryz.ntmps82;go_wp2
 go_loopg [8] n (IjS w f js)
 case atStart=>exact⟨0,by omega,rfl,by rw [Hn.out];rfl,Ext.refl _,fun j y hj=>by omega⟩
 case round =>
  obtain⟨i,hi,rfl,rfl,hx,hall⟩:=hrel;rw [Hn.out]at hi;have Hall:=hd9 hall;clear hall
  by_cases hlt:i<n
  ·obtain⟨⟨⟨⟨nm,sh,d,de,gx,gz,wy,ax,az,sk⟩,k,⟨xl,xh⟩,zl,zh⟩,v⟩,hq⟩:∃q,js[i]?=some q:=⟨js[i]'(by rw [Hn.out];omega),by simp [Hn.out,hlt]⟩
   obtain⟨b,o,rfl,hb,hc⟩:=(h.ext' hx).at' hq;have HC:=hd9 (fun W (hW:Ext wr W)=>Hf.out W (hx.trans hW) _ (lM hq));obtain⟨fp,f7⟩:∃x,f ⟨⟨nm,sh,d,de,gx,gz,wy,ax,az,sk⟩,k,⟨xl,xh⟩,zl,zh⟩=x:=⟨_,rfl⟩;rw [f7]at HC;have F7:=hd9 f7;unfold jca at hc HC;dsimp only at hc HC;have cc0:=hc 0 (.string nm) rfl;have cc1:=hc 1 v rfl;have cc2:=hc 2 (.int .i64 d) rfl;have cc3:=hc 3 (.int .i64 de) rfl;have cc4:=hc 4 (.int .i64 gx) rfl;have cc5:=hc 5 (.int .i64 gz) rfl;have cc6:=hc 6 (.int .i64 wy) rfl;have cc7:=hc 7 (.int .i64 ax) rfl;have cc8:=hc 8 (.int .i64 az) rfl;have cc9:=hc 9 (.int .u8 sk) rfl;have cc10:=hc 10 (.int .i64 k) rfl;have cc11:=hc 11 (.int .i64 xl) rfl;have cc12:=hc 12 (.int .i64 xh) rfl;have cc13:=hc 13 (.int .i64 zl) rfl;have cc14:=hc 14 (.int .i64 zh) rfl;simp only [Nat.add_zero]at cc0;have Hq:=hd9 hq;clear hq hc f7
   cases fp with
   | true =>
    have e:idxB (fun j:JS×Value=>f j.1) js=(i:Int):=idxB_some Hq.out F7.out Hall.out;have E:=hd9 e;clear e
    go_wp2_with(((go_at_call 86;(with_reducible refine(HC.out _ ?_).mono ?_);exact eA;rintro e w1 ⟨rfl,hx1⟩)))
    go_ret;exact⟨by rw [E.out];rfl,eA⟩
   | false =>
    go_wp2_with(((go_at_call 86;(with_reducible refine(HC.out _ ?_).mono ?_);exact eA;rintro e w1 ⟨rfl,hx1⟩)))
    go_roundg (n-(i+1))
    case measure=>have:=Hn.out;omega
    case rel =>
     refine⟨i+1,by have:=Hn.out;omega,by go_num,by rw [Hn.out],eA,fun j y hj hy=>?_⟩
     by_cases hji:j=i
     ·subst hji;rw [Hq.out]at hy;cases hy;exact F7.out
     ·exact Hall.out j y (by omega) hy
  ·obtain rfl:i=n:=by omega
   have e:idxB (fun j:JS×Value=>f j.1) js = -1:=idxB_none (fun j y hj hy=>Hall.out j y (by rw [Hn.out]at hj;exact hj) hy);have E:=hd9 e;clear e;go_wp2;go_ret;exact⟨by rw [E.out];rfl,hx⟩
theorem ctfil_any (w:World) (v:Value) (js:List (JS×Value)) (b1:Nat) (f:JS→Bool) (h:IsJs w v js)
  (hf:∀W,Ext w W→∀j∈js,Calls Tryz.prog 86 #[.agg (jca j),.pointer (some ⟨b1,0,none⟩)] W fun e w'=>e = .returned (.bool (f j.1))∧Ext W w') :
  Calls Tryz.prog 57 #[v,.func (.func 86) #[] #[.pointer (some ⟨b1,0,none⟩)]] w fun e w'=>e = .returned (.bool (js.any fun j=>f j.1))∧Ext w w':=by
 rw [←idxB_any];obtain⟨x,hx⟩:∃x,idxB (fun j:JS×Value=>f j.1) js=x:=⟨_,rfl⟩;have hc:=fun W (hW:Ext w W)=>ixfil_any W v js b1 f (h.ext' hW) (fun W' hW'=>hf W' (hW.trans hW'))
 obtain⟨a,n,c,rfl⟩:=form3 h;simp only [hx]at hc ⊢;have Hc:=hd9 hc;clear hc hx h hf;go_enter Tryz.func57,Tryz.ntmps57
 go_wp2_with(((go_at_call 82;(with_reducible refine(Hc.out _ ?_).mono ?_);exact eA;rintro e w1 ⟨rfl,hx1⟩)))
 go_ret;exact⟨rfl,eA⟩
theorem ixcou_any (w:World) (v:Value) (js:List (JS×Value)) (b1:Nat) (f:JS→Bool) (h:IsJs w v js)
  (hf:∀W,Ext w W→∀j∈js,Calls Tryz.prog 58 #[.agg (jca j),.pointer (some ⟨b1,0,none⟩)] W fun e w'=>e = .returned (.bool (f j.1))∧Ext W w') :
  Calls Tryz.prog 82 #[v,.func (.func 58) #[] #[.pointer (some ⟨b1,0,none⟩)]] w fun e w'=>e = .returned (.int .i64 (idxB (fun j=>f j.1) js))∧Ext w w':=by
 obtain⟨a,c,rfl⟩:=h.form;obtain⟨n,hn⟩:∃n,js.length=n:=⟨_,rfl⟩;rw [hn]at h ⊢;have hle:=h.le;unfold maxLen at hle;have hnc:n≤9223372036854775807:=by omega
 have Hn:=hd9 hn;have Hf:=hd9 hf;clear hn hle hf;go_enter Tryz.func82,Tryz.ntmps82;go_wp2
 go_loopg [8] n (IjS w f js)
 case atStart=>exact⟨0,by omega,rfl,by rw [Hn.out];rfl,Ext.refl _,fun j y hj=>by omega⟩
 case round =>
  obtain⟨i,hi,rfl,rfl,hx,hall⟩:=hrel;rw [Hn.out]at hi;have Hall:=hd9 hall;clear hall
  by_cases hlt:i<n
  ·obtain⟨⟨⟨⟨nm,sh,d,de,gx,gz,wy,ax,az,sk⟩,k,⟨xl,xh⟩,zl,zh⟩,v⟩,hq⟩:∃q,js[i]?=some q:=⟨js[i]'(by rw [Hn.out];omega),by simp [Hn.out,hlt]⟩
   obtain⟨b,o,rfl,hb,hc⟩:=(h.ext' hx).at' hq;have HC:=hd9 (fun W (hW:Ext wr W)=>Hf.out W (hx.trans hW) _ (lM hq));obtain⟨fp,f7⟩:∃x,f ⟨⟨nm,sh,d,de,gx,gz,wy,ax,az,sk⟩,k,⟨xl,xh⟩,zl,zh⟩=x:=⟨_,rfl⟩;rw [f7]at HC;have F7:=hd9 f7;unfold jca at hc HC;dsimp only at hc HC;have cc0:=hc 0 (.string nm) rfl;have cc1:=hc 1 v rfl;have cc2:=hc 2 (.int .i64 d) rfl;have cc3:=hc 3 (.int .i64 de) rfl;have cc4:=hc 4 (.int .i64 gx) rfl;have cc5:=hc 5 (.int .i64 gz) rfl;have cc6:=hc 6 (.int .i64 wy) rfl;have cc7:=hc 7 (.int .i64 ax) rfl;have cc8:=hc 8 (.int .i64 az) rfl;have cc9:=hc 9 (.int .u8 sk) rfl;have cc10:=hc 10 (.int .i64 k) rfl;have cc11:=hc 11 (.int .i64 xl) rfl;have cc12:=hc 12 (.int .i64 xh) rfl;have cc13:=hc 13 (.int .i64 zl) rfl;have cc14:=hc 14 (.int .i64 zh) rfl;simp only [Nat.add_zero]at cc0;have Hq:=hd9 hq;clear hq hc f7
   cases fp with
   | true =>
    have e:idxB (fun j:JS×Value=>f j.1) js=(i:Int):=idxB_some Hq.out F7.out Hall.out;have E:=hd9 e;clear e
    go_wp2_with(((go_at_call 58;(with_reducible refine(HC.out _ ?_).mono ?_);exact eA;rintro e w1 ⟨rfl,hx1⟩)))
    go_ret;exact⟨by rw [E.out];rfl,eA⟩
   | false =>
    go_wp2_with(((go_at_call 58;(with_reducible refine(HC.out _ ?_).mono ?_);exact eA;rintro e w1 ⟨rfl,hx1⟩)))
    go_roundg (n-(i+1))
    case measure=>have:=Hn.out;omega
    case rel =>
     refine⟨i+1,by have:=Hn.out;omega,by go_num,by rw [Hn.out],eA,fun j y hj hy=>?_⟩
     by_cases hji:j=i
     ·subst hji;rw [Hq.out]at hy;cases hy;exact F7.out
     ·exact Hall.out j y (by omega) hy
  ·obtain rfl:i=n:=by omega
   have e:idxB (fun j:JS×Value=>f j.1) js = -1:=idxB_none (fun j y hj hy=>Hall.out j y (by rw [Hn.out]at hj;exact hj) hy);have E:=hd9 e;clear e;go_wp2;go_ret;exact⟨by rw [E.out];rfl,hx⟩
theorem ctcou_any (w:World) (v:Value) (js:List (JS×Value)) (b1:Nat) (f:JS→Bool) (h:IsJs w v js)
  (hf:∀W,Ext w W→∀j∈js,Calls Tryz.prog 58 #[.agg (jca j),.pointer (some ⟨b1,0,none⟩)] W fun e w'=>e = .returned (.bool (f j.1))∧Ext W w') :
  Calls Tryz.prog 57 #[v,.func (.func 58) #[] #[.pointer (some ⟨b1,0,none⟩)]] w fun e w'=>e = .returned (.bool (js.any fun j=>f j.1))∧Ext w w':=by
 rw [←idxB_any];obtain⟨x,hx⟩:∃x,idxB (fun j:JS×Value=>f j.1) js=x:=⟨_,rfl⟩;have hc:=fun W (hW:Ext w W)=>ixcou_any W v js b1 f (h.ext' hW) (fun W' hW'=>hf W' (hW.trans hW'))
 obtain⟨a,n,c,rfl⟩:=form3 h;simp only [hx]at hc ⊢;have Hc:=hd9 hc;clear hc hx h hf;go_enter Tryz.func57,Tryz.ntmps57
 go_wp2_with(((go_at_call 82;(with_reducible refine(Hc.out _ ?_).mono ?_);exact eA;rintro e w1 ⟨rfl,hx1⟩)))
 go_ret;exact⟨rfl,eA⟩
def fillB (j:Jt) (x:JS):Bool:=(x.k != j.a)&&((x.k != j.b)&&(decide (max x.z.1 j.fr<min x.z.2 j.til)&&decide (max x.x.1 j.left<min x.x.2 j.right)))
theorem fil1_any (w:World) (x:JS×Value) (j:Jt) (b:Nat) (hb:w.heap[b]?=some (.cells (jta j) 75 (0,0))) :
  Calls Tryz.prog 86 #[.agg (jca x),.pointer (some ⟨b,0,none⟩)] w fun e w'=>e = .returned (.bool (fillB j x.1))∧Ext w w':=by
 obtain⟨⟨⟨nm,sh,d,de,gx,gz,wy,ax,az,sk⟩,k,⟨xl,xh⟩,zl,zh⟩,v⟩:=x;obtain⟨ja,jb,jl,jr,jf,jt⟩:=j;have z1:=heap_lt hb;have z3:b<w.heap.size+1:=by omega
 have c0:=qcB hb (i:=0) (u:=.int .i64 ja) rfl;have c1:=qcB hb (i:=1) (u:=.int .i64 jb) rfl;have c2:=qcB hb (i:=2) (u:=.int .i64 jl) rfl;have c3:=qcB hb (i:=3) (u:=.int .i64 jr) rfl;have c4:=qcB hb (i:=4) (u:=.int .i64 jf) rfl;have c5:=qcB hb (i:=5) (u:=.int .i64 jt) rfl;unfold fillB jca;dsimp only
 by_cases h1:k=ja
 ·have e1:(k != ja)=false:=by simp [h1]
  rw [e1];clear h1;go_enter Tryz.func86,Tryz.ntmps86;go_wp2;go_ret;exact⟨rfl,eA⟩
 have e1:(k != ja)=true:=by simpa using h1
 by_cases h2:k=jb
 ·have e2:(k != jb)=false:=by simp [h2]
  rw [e1,e2];clear h1 h2;go_enter Tryz.func86,Tryz.ntmps86;go_wp2;go_ret;exact⟨rfl,eA⟩
 have e2:(k != jb)=true:=by simpa using h2
 rw [e1,e2];obtain⟨p,hp⟩:∃p,decide (max zl jf<min zh jt)=p:=⟨_,rfl⟩;obtain⟨q,hq⟩:∃q,decide (max xl jl<min xh jr)=q:=⟨_,rfl⟩;rw [hp,hq];have HP:=hd9 hp;have HQ:=hd9 hq;clear h1 h2 hp hq
 cases p
 ·go_enter Tryz.func86,Tryz.ntmps86
  go_wp2_with(go_at_call 46;(with_reducible refine(overlaps_any _ zl zh jf jt).mono ?_);rw [HP.out];rintro e w3 ⟨rfl,hx3⟩;obtain⟨hc3,hf3⟩:=hx3.cells)
  go_ret;exact⟨rfl,eA⟩
 ·go_enter Tryz.func86,Tryz.ntmps86
  go_wp2_with(first|(go_at_call 46;(with_reducible refine(overlaps_any _ zl zh jf jt).mono ?_);rw [HP.out];rintro e w3 ⟨rfl,hx3⟩;obtain⟨hc3,hf3⟩:=hx3.cells;(have z4:=hx3.size);(simp only [wZ]at z4);(have y0:w.heap.size<w3.heap.size:=(by omega));(have y1:b<w3.heap.size:=(by omega)))|(go_at_call 46;(with_reducible refine(overlaps_any _ xl xh jl jr).mono ?_);rw [HQ.out];rintro e w5 ⟨rfl,hx5⟩))
  go_ret;exact⟨by simp,eA⟩
def svc (r:Ru) (vg vp vs vj vr:Value):Array Value:=#[.int .u8 r.skin,.int .i64 r.pin,.int .i64 r.wide,.int .i64 r.lap,.int .i64 r.step,.int .i64 r.run,.int .i64 r.level,vg,vp,vs,vj,vr]
def filledB (sk:List JS) (j:Jt):Bool:=sk.any (fillB j)
theorem filled_any (w:World) (b:Nat) (r:Ru) (vg vp vs vj vr:Value) (js:List (JS×Value)) (j:Jt) (hb:w.heap[b]?=some (.cells (svc r vg vp vs vj vr) 113 (0,0))) (h:IsJs w vs js) :
  Calls Tryz.prog 52 #[.pointer (some ⟨b,0,none⟩),.agg (jta j)] w fun e w'=>e = .returned (.bool (filledB (js.map Prod.fst) j))∧Ext w w':=by
 have e:filledB (js.map Prod.fst) j=js.any fun x=>fillB j x.1:=by unfold filledB;rw [List.any_map];rfl
 rw [e];have HC:=hd9 (fun W (hW:Ext w W) (bj:Nat) (hj:W.heap[bj]?=some (.cells (jta j) 75 (0,0)))=>ctfil_any W vs js bj (fillB j) (h.ext' hW) (fun W' hW' x _=>fil1_any W' x j bj (hW'.heapS hj)));obtain⟨x,hx⟩:∃x,(js.any fun x=>fillB j x.1)=x:=⟨_,rfl⟩;rw [hx]at HC ⊢;obtain⟨a,n,c,rfl⟩:=form3 h;obtain⟨ja,jb,jl,jr,jf,jt⟩:=j;obtain⟨sk,pin,wide,lap,step,run,level⟩:=r;have z1:=heap_lt hb;have z3:b<w.heap.size+1:=by omega
 have c0:=qcB hb (i:=9) (u:=.slice a n c) rfl;unfold jta at HC ⊢;dsimp only at HC ⊢;clear h hb hx e;have hmf:∀(fn:Fn) (first cap:Array Value) (w:World),(Instr.makeFunc fn first cap).run Tryz.prog w = .ok (.func fn first cap) w:=fun _ _ _ _=>rfl
 go_enter Tryz.func52,Tryz.ntmps52
 go_wp2_with(go_at_call 57;(with_reducible refine(HC.out _ ?_ _ ?_).mono ?_);exact eA;(focus(exact heap_alloc_new _ _));rintro e w1 ⟨rfl,hx1⟩)
 go_ret;exact⟨rfl,eA⟩
end Go.Proofs.YteipgejmhfpkaaaGreatDoor.Cop
