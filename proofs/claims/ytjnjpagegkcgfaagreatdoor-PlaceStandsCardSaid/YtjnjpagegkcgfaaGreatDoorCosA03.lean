/- Part 4. -/
import Derived.Test.YtjnjpagegkcgfaaGreatDoorCosA02
import Derived.Deep.RegionWith
import Derived.Laws.FloatArith
set_option maxRecDepth 1000000
set_option maxHeartbeats 16000000
set_option linter.unusedSimpArgs false
set_option linter.unusedVariables false
open Go renaming World->O
namespace Go.Proofs.YtjnjpagegkcgfaaGreatDoor.Cop
section
open Go.RowKit Go.Shelf
def fval(a:BinOp)(p q:Nat)(w:O):Nat:=
 match floatBits a .f64 p q with
 | some r=>r
 | none=>(Question.nanBits .f64 p q).cut (w.tape w.drawn (Question.nanBits .f64 p q))
def fcnt(a:BinOp)(p q:Nat):Nat:=
 match floatBits a .f64 p q with
 | some _=>0
 | none=>1
theorem zkc(P:Program)(a:BinOp)(b:a = .add\/a = .mul\/a = .quo)(t:TypeId)(p q:Nat)(w:O) :
  (binOp a t (.float .f64 p) (.float .f64 q)).run P w = .ok (.float .f64 (fval a p q w)) (w.drewN (fcnt a p q)):=by
 cases h:floatBits a .f64 p q with
 | some r=>rw[run_float_arith w a t .f64 p q r h];simp[fval,fcnt,h,World.drewN]
 | none =>
  rcases b with rfl|rfl|rfl
  all_goals
   have c:=h;simp only[floatBits]at h;simp[binOp,Op.floatArith,h,fval,fcnt,c,choose,Sem.run,Question.forced,World.drewN]
theorem zif(P:Program)(t:TypeId)(p q:Nat)(w:O):(binOp .add t (.float .f64 p) (.float .f64 q)).run P w = .ok (.float .f64 (fval .add p q w)) (w.drewN (fcnt .add p q)):=zkc P _ sM t p q w
theorem zig(P:Program)(t:TypeId)(p q:Nat)(w:O):(binOp .mul t (.float .f64 p) (.float .f64 q)).run P w = .ok (.float .f64 (fval .mul p q w)) (w.drewN (fcnt .mul p q)):=zkc P _ sM t p q w
theorem zih(P:Program)(t:TypeId)(p q:Nat)(w:O):(binOp .quo t (.float .f64 p) (.float .f64 q)).run P w = .ok (.float .f64 (fval .quo p q w)) (w.drewN (fcnt .quo p q)):=zkc P _ sM t p q w
def cval(b:Nat)(w:O):Int:=
 match floatToIntVal .f64 b .i64 with
 | some n=>n
 | none=>IntKind.i64.wrap ((Question.floatToInt .f64 b .i64).cut (w.tape w.drawn (Question.floatToInt .f64 b .i64)))
def ccnt(b:Nat):Nat:=
 match floatToIntVal .f64 b .i64 with
 | some _=>0
 | none=>1
theorem zhR(b:Nat)(w:O) : -9223372036854775808<=cval b w/\cval b w<=9223372036854775807:=by
 unfold cval
 split
 ·rename_i n h
  have:=floatToIntVal_wf h;simp[Lit.wf,IntKind.min,IntKind.max,IntKind.signed,IntKind.bits]at this;omega
 ·rw[IntKind.wrap_i64];omega
theorem zot(P:Program)(c a:TypeId)(g:(P.underlying c).isSome=true)(e:P.underlying a=some (.int .i64))(b:Nat)(w:O) :
  (convert c a (.float .f64 b)).run P w = .ok (.int .i64 (cval b w)) (w.drewN (ccnt b)):=by
 cases h:floatToIntVal .f64 b .i64 with
 | some n=>rw[run_convert_float_int w c a .f64 .i64 b n g e h];simp[cval,ccnt,h,World.drewN]
 | none =>
  obtain⟨u,d⟩:=Option.isSome_iff_exists.1 g;have f:=h;unfold floatToIntVal at h
  split at h
  ·rename_i m he
   split at h
   ·cases h
   ·rename_i hb
    cases u<;>simp[convert,run_underlying d,run_underlying e,Conv.floatToInt,he,hb,cval,ccnt,f,choose,Sem.run,Question.forced,World.drewN]<;>(intro i j;exact absurd (And.intro i j) hb)
  ·rename_i he
   cases u<;>simp[convert,run_underlying d,run_underlying e,Conv.floatToInt,he,cval,ccnt,f,choose,Sem.run,Question.forced,World.drewN]
def SomeF(e:Ending):Prop:=∃b,e = .returned (.float .f64 b)
def SomeI(e:Ending):Prop:=∃k:Int,e = .returned (.int .i64 k) /\ -9223372036854775808<=k/\k<=9223372036854775807
theorem zfu(w:O)(f:Nat)(i:Int)(a:Option Addr)(n c:Nat)(xs:List Int)(p:w.cell? ⟨f,0,none⟩=some (.slice a n c))(g:Ints 2 w (.slice a n c) xs) :
  Calls Tryz.prog 291 #[.int .i64 i,.pointer (some ⟨f,0,none⟩)] w fun e r=>SomeF e/\w=r:=by
 have d:=g.len
 by_cases l:0<=i
 ·by_cases s:i<n
  ·obtain⟨j,rfl⟩:=Int.eq_ofNat_of_zero_le l
   obtain⟨b,o,rfl,m,k⟩:=g.open oM;have q:=k j xs[j] (gE oM)
   generalize xs[j]=x at q
   clear k m d;go_enter Tryz.func291,Tryz.ntmps291;go_wp2;go_ret;exact⟨⟨_,rfl⟩,rfl⟩
  ·clear d
   go_enter Tryz.func291,Tryz.ntmps291;go_wp2;go_ret;exact⟨⟨_,rfl⟩,rfl⟩
 ·clear d
  go_enter Tryz.func291,Tryz.ntmps291;go_wp2;go_ret;exact⟨⟨_,rfl⟩,rfl⟩
attribute [local go_sem] zif zig zih
theorem zdJ(w:O)(j:Value)(s:Int)(f:IsD w j s)(p:Int)(t : -1000000000000<=p/\p<=1000000000000) :
  Calls Tryz.prog 269 #[j,.int .i64 p] w fun e k=>SomeF e/\Ext w k:=by
 obtain⟨a,m,c,rfl⟩:=f.form;obtain⟨l,q,o,n,hv⟩:=f.open;clear q hv n f;have r:∀(i:Fn)(first cap:Array Value)(w:O),(Instr.makeFunc i first cap).run Tryz.prog w = .ok (.func i first cap) w:=fun _ _ _ _=>rfl
 have g:Ints 2 (w.alloc (.cells #[.slice a m c] 59)) (.slice a m c) l:=o.ext ((eR w).alloc _);have d:(w.alloc (.cells #[.slice a m c] 59)).cell? ⟨w.heap.size,0,none⟩=some (.slice a m c):=by rw[World.cell?_alloc_at _ _ _ _ rfl];rfl
 go_enter Tryz.func269,Tryz.ntmps269
 go_wp2_with(go_at_call 291;refine(zfu _ w.heap.size _ a m c l (by first|exact d|exact d) (by exact g)).mono ?_;rintro e k ⟨⟨b,rfl⟩,rfl⟩)
 go_ret;exact⟨⟨_,rfl⟩,by repeat(first|exact(eR w).alloc _|refine Ext.drewN ?_ _)⟩
theorem conv388(w:O)(b:Nat):(convert 323 2 (.float .f64 b)).run Tryz.prog w = .ok (.int .i64 (cval b w)) (w.drewN (ccnt b)):=zot Tryz.prog _ _ kM Tryz.underlying2 b w
attribute [local go_sem] conv388
theorem zki(w:O)(q r:Value)(p nb:Int)(l:IsD w q p)(f:IsD w r nb)(j:Lm lim nb) :
  Calls Tryz.prog 236 #[q,r] w fun e y=>SomeI e/\Ext w y:=by
 obtain⟨a,m,c,rfl⟩:=l.form;obtain⟨s,k,u,rfl⟩:=f.form;obtain⟨D,o,v,n,hv⟩:=f.open;have d:=j.len n hv;rw[o]at d;unfold lim at d;clear o v n hv;have x:IntKind.i64.wrap ((k:Int)+1)=(k:Int)+1:=iW _ oM;go_enter Tryz.func236,Tryz.ntmps236;go_wp2
 go_region_with (first|(go_at_call 269;(with_reducible refine(zdJ _ (.agg #[.slice a m c]) p ?_ _ ?_).mono ?_);(refine l.ext ?_;exact eA);omega;rintro e z ⟨⟨t,rfl⟩,b⟩;obtain⟨g,i⟩:=b.cells)|(go_at_call 269;(with_reducible refine(zdJ _ (.agg #[.slice s k u]) nb ?_ _ ?_).mono ?_);(refine f.ext ?_;exact eA);omega;rintro e z ⟨⟨t,rfl⟩,b⟩;obtain⟨g,i⟩:=b.cells))
 all_goals go_wp2
 all_goals go_ret
 all_goals exact⟨⟨_,rfl,zhR _ _⟩,eA⟩
end
end Go.Proofs.YtjnjpagegkcgfaaGreatDoor.Cop
