/- Part 2: contracts of what the law calls. -/
import Derived.Test.YtodpfeaihohpjaaGreatDoorCopA00
import Derived.Deep.RegionWith
import Derived.Laws.FloatArith
set_option maxRecDepth 1000000
set_option maxHeartbeats 16000000
set_option linter.unusedSimpArgs false
set_option linter.unusedVariables false
open Go renaming World→O
namespace Go.Proofs.YtodpfeaihohpjaaGreatDoor.Cop
section
open Go.RowKit Go.Shelf
def fval (op:BinOp) (p q:Nat) (w:O):Nat:=
 match floatBits op .f64 p q with
 | some r=>r
 | none=>(Question.nanBits .f64 p q).cut (w.tape w.drawn (Question.nanBits .f64 p q))
def fcnt (op:BinOp) (p q:Nat):Nat:=
 match floatBits op .f64 p q with
 | some _=>0
 | none=>1
theorem zjZ (P:Program) (op:BinOp) (hop:op = .add∨op = .mul∨op = .quo) (t:TypeId) (p q:Nat) (w:O) :
  (binOp op t (.float .f64 p) (.float .f64 q)).run P w = .ok (.float .f64 (fval op p q w)) (w.drewN (fcnt op p q)):=by
 cases h:floatBits op .f64 p q with
 | some r=>rw [run_float_arith w op t .f64 p q r h];simp [fval,fcnt,h,World.drewN]
 | none =>
  rcases hop with rfl|rfl|rfl
  all_goals
   have h':=h;simp only [floatBits]at h;simp [binOp,Op.floatArith,h,fval,fcnt,h',choose,Sem.run,Question.forced,World.drewN]
theorem zh8 (P:Program) (t:TypeId) (p q:Nat) (w:O):(binOp .add t (.float .f64 p) (.float .f64 q)).run P w = .ok (.float .f64 (fval .add p q w)) (w.drewN (fcnt .add p q)):=zjZ P _ (by simp) t p q w
theorem zh9 (P:Program) (t:TypeId) (p q:Nat) (w:O):(binOp .mul t (.float .f64 p) (.float .f64 q)).run P w = .ok (.float .f64 (fval .mul p q w)) (w.drewN (fcnt .mul p q)):=zjZ P _ (by simp) t p q w
theorem zia (P:Program) (t:TypeId) (p q:Nat) (w:O):(binOp .quo t (.float .f64 p) (.float .f64 q)).run P w = .ok (.float .f64 (fval .quo p q w)) (w.drewN (fcnt .quo p q)):=zjZ P _ (by simp) t p q w
def cval (b:Nat) (w:O):Int:=
 match floatToIntVal .f64 b .i64 with
 | some n=>n
 | none=>IntKind.i64.wrap ((Question.floatToInt .f64 b .i64).cut (w.tape w.drawn (Question.floatToInt .f64 b .i64)))
def ccnt (b:Nat):Nat:=
 match floatToIntVal .f64 b .i64 with
 | some _=>0
 | none=>1
theorem zhL (b:Nat) (w:O) : -9223372036854775808≤cval b w∧cval b w≤9223372036854775807:=by
 unfold cval
 split
 ·rename_i n h
  have:=floatToIntVal_wf h;simp [Lit.wf,IntKind.min,IntKind.max,IntKind.signed,IntKind.bits]at this;omega
 ·rw [IntKind.wrap_i64];omega
theorem zm9 (P:Program) (src dst:TypeId) (hs:(P.underlying src).isSome=true) (hd:P.underlying dst=some (.int .i64)) (b:Nat) (w:O) :
  (convert src dst (.float .f64 b)).run P w = .ok (.int .i64 (cval b w)) (w.drewN (ccnt b)):=by
 cases h:floatToIntVal .f64 b .i64 with
 | some n=>rw [run_convert_float_int w src dst .f64 .i64 b n hs hd h];simp [cval,ccnt,h,World.drewN]
 | none =>
  obtain⟨u,hs'⟩:=Option.isSome_iff_exists.1 hs;have h':=h;unfold floatToIntVal at h
  split at h
  ·rename_i m he
   split at h
   ·cases h
   ·rename_i hb
    cases u<;>simp [convert,run_underlying hs',run_underlying hd,Conv.floatToInt,he,hb,cval,ccnt,h',choose,Sem.run,Question.forced,World.drewN]<;>(intro h1 h2;exact absurd (And.intro h1 h2) hb)
  ·rename_i he
   cases u<;>simp [convert,run_underlying hs',run_underlying hd,Conv.floatToInt,he,cval,ccnt,h',choose,Sem.run,Question.forced,World.drewN]
def SomeF (e:Ending):Prop:=∃b,e = .returned (.float .f64 b)
def SomeI (e:Ending):Prop:=∃k:Int,e = .returned (.int .i64 k) ∧ -9223372036854775808≤k∧k≤9223372036854775807
theorem zfE (w:O) (bx:Nat) (i:Int) (a:Option Addr) (n c:Nat) (xs:List Int) (hbx:w.cell? ⟨bx,0,none⟩=some (.slice a n c)) (hi:Ints 2 w (.slice a n c) xs) :
  Calls Tryz.prog 233 #[.int .i64 i,.pointer (some ⟨bx,0,none⟩)] w fun e w'=>SomeF e∧w=w':=by
 have hn:=hi.len
 by_cases h0:0≤i
 ·by_cases h1:i<n
  ·obtain⟨j,rfl⟩:=Int.eq_ofNat_of_zero_le h0
   obtain⟨b,o,rfl,hb,hx⟩:=hi.open (by omega);have hc:=hx j xs[j] (gE (by omega))
   generalize xs[j]=x at hc
   clear hx hb hn;go_enter Tryz.func233,Tryz.ntmps233;go_wp2;go_ret;exact⟨⟨_,rfl⟩,rfl⟩
  ·clear hn
   go_enter Tryz.func233,Tryz.ntmps233;go_wp2;go_ret;exact⟨⟨_,rfl⟩,rfl⟩
 ·clear hn
  go_enter Tryz.func233,Tryz.ntmps233;go_wp2;go_ret;exact⟨⟨_,rfl⟩,rfl⟩
attribute [local go_sem] zh8 zh9 zia
theorem zdM (w:O) (va:Value) (na:Int) (ha:IsD w va na) (p:Int) (hp : -1000000000000≤p∧p≤1000000000000) :
  Calls Tryz.prog 218 #[va,.int .i64 p] w fun e w'=>SomeF e∧Ext w w':=by
 obtain⟨a,m,c,rfl⟩:=ha.form;obtain⟨xs,hl,hi,hc,hv⟩:=ha.open;clear hl hv hc ha;have hmf:∀(fn:Fn) (first cap:Array Value) (w:O),(Instr.makeFunc fn first cap).run Tryz.prog w = .ok (.func fn first cap) w:=fun _ _ _ _=>rfl
 have hi1:Ints 2 (w.alloc (.cells #[.slice a m c] 61)) (.slice a m c) xs:=hi.ext ((eR w).alloc _);have hbx:(w.alloc (.cells #[.slice a m c] 61)).cell? ⟨w.heap.size,0,none⟩=some (.slice a m c):=by rw [World.cell?_alloc_at _ _ _ _ rfl];rfl
 go_enter Tryz.func218,Tryz.ntmps218
 go_wp2_with(go_at_call 233;refine(zfE _ w.heap.size _ a m c xs (by first|exact hbx|exact hbx) (by exact hi1)).mono ?_;rintro e w' ⟨⟨b,rfl⟩,rfl⟩)
 go_ret;exact⟨⟨_,rfl⟩,by repeat(first|exact(eR w).alloc _|refine Ext.drewN ?_ _)⟩
theorem conv388 (w:O) (b:Nat):(convert 280 2 (.float .f64 b)).run Tryz.prog w = .ok (.int .i64 (cval b w)) (w.drewN (ccnt b)):=zm9 Tryz.prog _ _ (by kernel_rfl) Tryz.underlying2 b w
attribute [local go_sem] conv388
theorem zj8 (w:O) (va vb:Value) (na nb:Int) (ha:IsD w va na) (hb:IsD w vb nb) (hlb:Lm lim nb) :
  Calls Tryz.prog 180 #[va,vb] w fun e w'=>SomeI e∧Ext w w':=by
 obtain⟨a,m,c,rfl⟩:=ha.form;obtain⟨a',m',c',rfl⟩:=hb.form;obtain⟨xs,hl,hi,hc,hv⟩:=hb.open;have hm':=hlb.len hc hv;rw [hl]at hm';unfold lim at hm';clear hl hi hc hv;have hw1:IntKind.i64.wrap ((m':Int)+1)=(m':Int)+1:=iW _ (by omega);go_enter Tryz.func180,Tryz.ntmps180;go_wp2
 go_region_with (first|(go_at_call 218;(with_reducible refine(zdM _ (.agg #[.slice a m c]) na ?_ _ ?_).mono ?_);(refine ha.ext ?_;exact eA);omega;rintro e w1 ⟨⟨b1,rfl⟩,hx1⟩;obtain⟨hc1,hf1⟩:=hx1.cells)|(go_at_call 218;(with_reducible refine(zdM _ (.agg #[.slice a' m' c']) nb ?_ _ ?_).mono ?_);(refine hb.ext ?_;exact eA);omega;rintro e w1 ⟨⟨b1,rfl⟩,hx1⟩;obtain⟨hc1,hf1⟩:=hx1.cells))
 all_goals go_wp2
 all_goals go_ret
 all_goals exact⟨⟨_,rfl,zhL _ _⟩,eA⟩
end
end Go.Proofs.YtodpfeaihohpjaaGreatDoor.Cop
