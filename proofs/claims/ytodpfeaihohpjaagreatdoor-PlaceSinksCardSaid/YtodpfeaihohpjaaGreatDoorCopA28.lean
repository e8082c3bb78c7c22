/- Part 29: contracts of what the law calls. -/
import Derived.Test.YtodpfeaihohpjaaGreatDoorCopA27
import Derived.Test.YtodpfeaihohpjaaGreatDoorRows
import Derived.Test.YtodpfeaihohpjaaGreatDoorCards
import Derived.Test.YtodpfeaihohpjaaGreatDoorTie
import Derived.LaidMore
import Derived.Lay
import Derived.Stop.Joined
import Derived.OpenShut
import Derived.SevenTiedAt
set_option maxRecDepth 1000000
set_option maxHeartbeats 16000000
set_option linter.unusedSimpArgs false
set_option linter.unusedVariables false
namespace Go.Proofs.YtodpfeaihohpjaaGreatDoor.Cop
section
open Go Go.ChangeShapes Go.WideShapes Go.ChangeAt Go.RowKit
theorem zk5:ownKnob Tryz.prog.godebug=none:=by kernel_rfl
theorem g_ways:Tryz.prog.globalNamed "copestone/stone.ways" = some 0:=by kernel_rfl
theorem t_ways:(Tryz.prog.globals[0]?).map (·.type)=some 224:=by kernel_rfl
theorem zln:Tryz.prog.underlying 224=some (.array 4 223):=by kernel_rfl
theorem zdp:Tryz.prog.underlying 223=some (.func #[33] #[33] false):=by kernel_rfl
theorem zkU:laidOutB Tryz.prog=true:=by kernel_rfl
abbrev vars3:List (String×DataW Unit):=[("unicode/utf8.acceptRanges",Rows.laid_unicode_utf8_acceptRanges),("copestone/stone.ways",Rows.laid_copestone_stone_ways),("unicode/utf8.first",Rows.laid_unicode_utf8_first)]
abbrev vars2:List (String×DataW Unit):=[("unicode/utf8.acceptRanges",Rows.laid_unicode_utf8_acceptRanges),("unicode/utf8.first",Rows.laid_unicode_utf8_first)]
theorem zhR {W:World} (h:laidMetH Tryz.prog vars3 W):Gw W:=by
 obtain⟨g,t,cs,fuel,p,hg,ht,hv,hd⟩:=h.funcs (mC _ (List.mem_cons_self ..));obtain rfl:=Option.some.inj (g_ways.symm.trans hg);obtain rfl:=Option.some.inj (t_ways.symm.trans ht);have hd':DataW.trod (funcToken Tryz.prog) Tryz.prog W 0 (fun _=>true) true fuel 224 cs.toList=some (.agg [.held [99,111,112,101,115,116,111,110,101,47,115,116,111,110,101,46,119,97,121,115,36,49],.held [99,111,112,101,115,116,111,110,101,47,115,116,111,110,101,46,119,97,121,115,36,50],.held [99,111,112,101,115,116,111,110,101,47,115,116,111,110,101,46,119,97,121,115,36,51],.held [99,111,112,101,115,116,111,110,101,47,115,116,111,110,101,46,119,97,121,115,36,52]],p):=hd;obtain⟨xs,m,_,hx,hl,hxl,hf⟩:=DataW.trod_array zln hd';have c1:Tryz.prog.cellsOf 223=1:=by kernel_rfl
 have c4:Tryz.prog.cellsOf 224=4:=by kernel_rfl
 rw [c4]at hl;rw [c1]at hf;obtain⟨cs⟩:=cs;have hl':cs.length=4:=hl
 match cs,hl',xs,hxl with
 | [v0,v1,v2,v3],_,[⟨y0,q0⟩,⟨y1,q1⟩,⟨y2,q2⟩,⟨y3,q3⟩],_ =>
  simp only [Prod.mk.injEq,List.map_cons,List.map_nil,DataW.agg.injEq,List.cons.injEq,and_true]at hx;obtain⟨⟨rfl,rfl,rfl,rfl⟩,_⟩:=hx;have r0:=hf 0 (by omega);have r1:=hf 1 (by omega);have r2:=hf 2 (by omega);have r3:=hf 3 (by omega);have k0:=World.var?_cell hg hv 0;have k1:=World.var?_cell hg hv 1;have k2:=World.var?_cell hg hv 2;have k3:=World.var?_cell hg hv 3;obtain rfl:=func_of_trod (f0:=264) zdp (by kernel_rfl) r0;obtain rfl:=func_of_trod (f0:=265) zdp (by kernel_rfl) r1;obtain rfl:=func_of_trod (f0:=266) zdp (by kernel_rfl) r2;obtain rfl:=func_of_trod (f0:=267) zdp (by kernel_rfl) r3;have e0:W.cell? ⟨0,0,none⟩=some (.func (.func 264) #[] #[]):=by simpa using k0
  exact⟨World.block_lt_of_cell? W _ (by rw [e0]),e0,by simpa using k1,by simpa using k2,by simpa using k3⟩
noncomputable def wit (os:Os):World:=(World.doorLaid Tryz.prog 14 os).layVars Tryz.prog vars2
theorem zmI (os:Os) (args:Array Value):laidMetH Tryz.prog vars3 ((wit os).forCall (fun _ _=>0) ⟨#[],args,[]⟩).memory:=by
 refine laidMetH_of_parts3 (fuel:=8) ?_ (by kernel_rfl) (by kernel_rfl)
 exact laidMet_layVars (w0:=World.doorLaid Tryz.prog 14 os) ["unicode/utf8.acceptRanges", "unicode/utf8.first"] [] (by rfl) (by kernel_rfl) (by kernel_rfl) LaidIn.none
theorem zmH {k:IntKind} {n:Int} (h:(Lit.int k n).wf=true):k.min≤n∧n≤k.max:=by
 unfold Lit.wf at h;simp only [Bool.and_eq_true,decide_eq_true_eq]at h;exact h
theorem zmK {H:Type} {enc:TypeId×Value→H} {w:World} {spare:Nat→Bool} {held:Bool} {r:Reach} {b0:Nat} {v:Value} {d:DataW H} {p:List MemPlace} (hv:Value.okWide Tryz.prog w r b0 28 v) (h:DataW.Trod enc Tryz.prog w 0 spare held 28 v d p) :
  ∃v' q,v = .agg (plc q v')∧IsPr w v' q.shape∧0≤q.skin:=by
 obtain⟨cs,rfl,hsz⟩:=okWide_struct zlO hv;obtain⟨fuel,hf⟩:=h;obtain⟨q,v',e,h1,h2⟩:=zch hf;have e2:cs=plc q v':=Array.toList_inj.1 e;exact⟨v',q,by rw [e2],h1,h2⟩
end
end Go.Proofs.YtodpfeaihohpjaaGreatDoor.Cop
