/- Part 42: contracts of what the law calls. -/
import Derived.Test.YteipgejmhfpkaaaGreatDoorCopA40
import Derived.Test.YteipgejmhfpkaaaGreatDoorRows
import Derived.Test.YteipgejmhfpkaaaGreatDoorCards
import Derived.Test.YteipgejmhfpkaaaGreatDoorTie
import Derived.LaidMore
import Derived.Stop.Joined
import Derived.OpenShut
import Derived.SevenTiedAt
import Derived.Test.YteipgejmhfpkaaaGreatDoorCopA16
set_option maxRecDepth 1000000
set_option maxHeartbeats 16000000
set_option linter.unusedSimpArgs false
set_option linter.unusedVariables false
namespace Go.Proofs.YteipgejmhfpkaaaGreatDoor.Cop
section
open Go Go.ChangeShapes Go.WideShapes Go.ChangeAt Go.RowKit
theorem zlF:ownKnob Tryz.prog.godebug=none:=by kernel_rfl
theorem g_ways:Tryz.prog.globalNamed "copestone/stone.ways" = some 0:=by kernel_rfl
theorem t_ways:(Tryz.prog.globals[0]?).map (·.type)=some 243:=by kernel_rfl
theorem zlZ:Tryz.prog.underlying 243=some (.array 4 242):=by kernel_rfl
theorem zdt:Tryz.prog.underlying 242=some (.func #[42] #[42] false):=by kernel_rfl
theorem zg9:laidOutB Tryz.prog=true:=by kernel_rfl
theorem zhW {W:World} (h:laidMetH Tryz.prog [("copestone/stone.ways",Rows.laid_copestone_stone_ways)] W):Gw W:=by
 obtain⟨g,t,cs,fuel,p,hg,ht,hv,hd⟩:=h.funcs (List.mem_singleton.2 rfl);obtain rfl:=Option.some.inj (g_ways.symm.trans hg);obtain rfl:=Option.some.inj (t_ways.symm.trans ht);have hd':DataW.trod (funcToken Tryz.prog) Tryz.prog W 0 (fun _=>true) true fuel 243 cs.toList=some (.agg [.held [99,111,112,101,115,116,111,110,101,47,115,116,111,110,101,46,119,97,121,115,36,49],.held [99,111,112,101,115,116,111,110,101,47,115,116,111,110,101,46,119,97,121,115,36,50],.held [99,111,112,101,115,116,111,110,101,47,115,116,111,110,101,46,119,97,121,115,36,51],.held [99,111,112,101,115,116,111,110,101,47,115,116,111,110,101,46,119,97,121,115,36,52]],p):=hd;obtain⟨xs,m,_,hx,hl,hxl,hf⟩:=DataW.trod_array zlZ hd';have c1:Tryz.prog.cellsOf 242=1:=by kernel_rfl
 have c4:Tryz.prog.cellsOf 243=4:=by kernel_rfl
 rw [c4]at hl;rw [c1]at hf;obtain⟨cs⟩:=cs;have hl':cs.length=4:=hl
 match cs,hl',xs,hxl with
 | [v0,v1,v2,v3],_,[⟨y0,q0⟩,⟨y1,q1⟩,⟨y2,q2⟩,⟨y3,q3⟩],_ =>
  simp only [Prod.mk.injEq,List.map_cons,List.map_nil,DataW.agg.injEq,List.cons.injEq,and_true]at hx;obtain⟨⟨rfl,rfl,rfl,rfl⟩,_⟩:=hx;have r0:=hf 0 (by omega);have r1:=hf 1 (by omega);have r2:=hf 2 (by omega);have r3:=hf 3 (by omega);have k0:=World.var?_cell hg hv 0;have k1:=World.var?_cell hg hv 1;have k2:=World.var?_cell hg hv 2;have k3:=World.var?_cell hg hv 3;obtain rfl:=func_of_trod (f0:=264) zdt (by kernel_rfl) r0;obtain rfl:=func_of_trod (f0:=265) zdt (by kernel_rfl) r1;obtain rfl:=func_of_trod (f0:=266) zdt (by kernel_rfl) r2;obtain rfl:=func_of_trod (f0:=267) zdt (by kernel_rfl) r3;have e0:W.cell? ⟨0,0,none⟩=some (.func (.func 264) #[] #[]):=by simpa using k0
  exact⟨World.block_lt_of_cell? W _ (by rw [e0]),e0,by simpa using k1,by simpa using k2,by simpa using k3⟩
theorem zlf (os:Os) (args:Array Value):laidMetH Tryz.prog [("copestone/stone.ways",Rows.laid_copestone_stone_ways)] ((World.doorLaid Tryz.prog 14 os).forCall (fun _ _=>0) ⟨#[],args,[]⟩).memory:=
 laidMetH_of_parts3 (fuel:=8) (laidMet_of_run' 8 (by kernel_rfl) (by kernel_rfl)) (by kernel_rfl) (by kernel_rfl)
end
section
open Go.ChangeShapes Go.WideShapes Go.Deep
section
variable {H:Type} {enc:TypeId×Value→H} {w:World} {spare:Nat→Bool} {held:Bool}
theorem zmm:Tryz.prog.underlying 27=some (.struct (flds Tryz.prog 27)):=by kernel_rfl
theorem zfe {r:Reach} {b0:Nat} {v:Value} {d:DataW H} {p:List MemPlace} (hv:Value.okWide Tryz.prog w r b0 27 v) (h:DataW.Trod enc Tryz.prog w 0 spare held 27 v d p) :
  ∃ru:Ru,v = .agg (ruc ru):=by
 obtain⟨cs,rfl,hsz⟩:=okWide_struct zmm hv;have hc:Tryz.prog.cellsOf 27=7:=by kernel_rfl
 rw [hc]at hsz
 obtain⟨c0,c1,c2,c3,c4,c5,c6,rfl⟩:∃a b c d e f g,cs=#[a,b,c,d,e,f,g]:=by
  match cs,hsz with
  | ⟨[a,b,c,d,e,f,g]⟩,_=>exact⟨a,b,c,d,e,f,g,rfl⟩
 obtain⟨fuel,hf⟩:=h;obtain⟨xs,m,_,_,hl,hx,hg⟩:=DataW.trod_struct zmm hf;obtain⟨y0,h0⟩:=fld hx hg (i:=0) (ti:=5) (oi:=0) (ki:=1) (by kernel_rfl);obtain⟨y1,h1⟩:=fld hx hg (i:=1) (ti:=3) (oi:=1) (ki:=1) (by kernel_rfl);obtain⟨y2,h2⟩:=fld hx hg (i:=2) (ti:=3) (oi:=2) (ki:=1) (by kernel_rfl);obtain⟨y3,h3⟩:=fld hx hg (i:=3) (ti:=3) (oi:=3) (ki:=1) (by kernel_rfl);obtain⟨y4,h4⟩:=fld hx hg (i:=4) (ti:=3) (oi:=4) (ki:=1) (by kernel_rfl);obtain⟨y5,h5⟩:=fld hx hg (i:=5) (ti:=3) (oi:=5) (ki:=1) (by kernel_rfl);obtain⟨y6,h6⟩:=fld hx hg (i:=6) (ti:=3) (oi:=6) (ki:=1) (by kernel_rfl);obtain⟨z0,e0,_⟩:=DataW.trod_int zmn h0;obtain⟨z1,e1,_⟩:=DataW.trod_int zbn h1;obtain⟨z2,e2,_⟩:=DataW.trod_int zbn h2;obtain⟨z3,e3,_⟩:=DataW.trod_int zbn h3;obtain⟨z4,e4,_⟩:=DataW.trod_int zbn h4;obtain⟨z5,e5,_⟩:=DataW.trod_int zbn h5;obtain⟨z6,e6,_⟩:=DataW.trod_int zbn h6;have f0:[c0]=[.int .u8 z0]:=e0;have f1:[c1]=[.int .i64 z1]:=e1;have f2:[c2]=[.int .i64 z2]:=e2;have f3:[c3]=[.int .i64 z3]:=e3;have f4:[c4]=[.int .i64 z4]:=e4;have f5:[c5]=[.int .i64 z5]:=e5;have f6:[c6]=[.int .i64 z6]:=e6;simp only [List.cons.injEq,and_true]at f0 f1 f2 f3 f4 f5 f6;exact⟨⟨z0,z1,z2,z3,z4,z5,z6⟩,by unfold ruc;rw [f0,f1,f2,f3,f4,f5,f6]⟩
end
end
end Go.Proofs.YteipgejmhfpkaaaGreatDoor.Cop
