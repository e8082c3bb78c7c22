/- Part 11 of 44: contracts of what the law calls. -/
import Derived.Test.YteipgejmhfpkaaaGreatDoorCopA09
import Derived.Test.YteipgejmhfpkaaaGreatDoorCopA06
import Derived.Deep.RegionLaw
set_option maxRecDepth 1000000
set_option maxHeartbeats 16000000
set_option linter.unusedSimpArgs false
set_option linter.unusedVariables false
namespace Go.Proofs.YteipgejmhfpkaaaGreatDoor.Cop
open Go.RowKit Go.Shelf
def Gw (w:World):Prop:=0<w.heap.size∧w.cell? ⟨0,0,none⟩=some (.func (.func 264) #[] #[])∧w.cell? ⟨0,1,none⟩=some (.func (.func 265) #[] #[])∧w.cell? ⟨0,2,none⟩=some (.func (.func 266) #[] #[])∧w.cell? ⟨0,3,none⟩=some (.func (.func 267) #[] #[])
theorem Gw.ext {w w':World} (h:Gw w) (k:Ext w w'):Gw w':=by
 obtain⟨h0,h1,h2,h3,h4⟩:=h;exact⟨k.lt h0,k.cellS h1,k.cellS h2,k.cellS h3,k.cellS h4⟩
def wayP (way:Int) (p:Int×Int):Int×Int:=
 let q:=if 3<way then (-p.1,p.2)else p
 if way % 4=0 then q else if way % 4=1 then (-q.2,q.1)else if way % 4=2 then (-q.1,-q.2)else (q.2,-q.1)
theorem turnc0_any (w:World) (x z:Int) (bw:Nat) (hw:w.cell? ⟨bw,0,none⟩=some (.int .i64 0)) (hg:Gw w) (hx:Bd 1000000 x) (hz:Bd 1000000 z) :
  Calls Tryz.prog 171 #[.agg #[.int .i64 x,.int .i64 z],.pointer (some ⟨bw,0,none⟩)] w fun e w'=>e = .returned (.agg #[.int .i64 x,.int .i64 z])∧Ext w w':=by
 obtain⟨g0,g1,g2,g3,g4⟩:=hg;have HX:=hd9 hx;have HZ:=hd9 hz;have zw:bw<w.heap.size:=World.block_lt_of_cell? w _ hw;have zw1:bw<w.heap.size+1:=by omega
 have zg1:0<w.heap.size+1:=by omega
 have gg:w.cell? ⟨0,0,none⟩=some (.func (.func 264) #[] #[]):=by assumption
 clear hx hz g1 g2 g3 g4;go_enter Tryz.func171,Tryz.ntmps171;go_wp2
 first|(go_region_with (((go_at_call 264;(with_reducible refine(way1_any _ x z HX.out HZ.out).mono ?_);rintro e w1 ⟨rfl,hx1⟩;obtain⟨hc1,hf1⟩:=hx1.cells;(try simp only [qcD,qfD,qdZ]at hc1 hf1);have z1:=hx1.lt (n:=w.heap.size+1) (by go_simp)))))|fail
 all_goals go_wp2
 all_goals exact bodyPost_ret (v:=.agg #[.int .i64 x,.int .i64 z]) (by simp [results,Tryz.results171,go_sem,hc1,z1]) rfl ⟨rfl,eA⟩
theorem turnc1_any (w:World) (x z:Int) (bw:Nat) (hw:w.cell? ⟨bw,0,none⟩=some (.int .i64 1)) (hg:Gw w) (hx:Bd 1000000 x) (hz:Bd 1000000 z) :
  Calls Tryz.prog 171 #[.agg #[.int .i64 x,.int .i64 z],.pointer (some ⟨bw,0,none⟩)] w fun e w'=>e = .returned (.agg #[.int .i64 (-z),.int .i64 x])∧Ext w w':=by
 obtain⟨g0,g1,g2,g3,g4⟩:=hg;have HX:=hd9 hx;have HZ:=hd9 hz;have zw:bw<w.heap.size:=World.block_lt_of_cell? w _ hw;have zw1:bw<w.heap.size+1:=by omega
 have zg1:0<w.heap.size+1:=by omega
 have gg:w.cell? ⟨0,1,none⟩=some (.func (.func 265) #[] #[]):=by assumption
 clear hx hz g1 g2 g3 g4;go_enter Tryz.func171,Tryz.ntmps171;go_wp2
 first|(go_region_with (((go_at_call 265;(with_reducible refine(way2_any _ x z HX.out HZ.out).mono ?_);rintro e w1 ⟨rfl,hx1⟩;obtain⟨hc1,hf1⟩:=hx1.cells;(try simp only [qcD,qfD,qdZ]at hc1 hf1);have z1:=hx1.lt (n:=w.heap.size+1) (by go_simp)))))|fail
 all_goals go_wp2
 all_goals exact bodyPost_ret (v:=.agg #[.int .i64 (-z),.int .i64 x]) (by simp [results,Tryz.results171,go_sem,hc1,z1]) rfl ⟨rfl,eA⟩
theorem turnc2_any (w:World) (x z:Int) (bw:Nat) (hw:w.cell? ⟨bw,0,none⟩=some (.int .i64 2)) (hg:Gw w) (hx:Bd 1000000 x) (hz:Bd 1000000 z) :
  Calls Tryz.prog 171 #[.agg #[.int .i64 x,.int .i64 z],.pointer (some ⟨bw,0,none⟩)] w fun e w'=>e = .returned (.agg #[.int .i64 (-x),.int .i64 (-z)])∧Ext w w':=by
 obtain⟨g0,g1,g2,g3,g4⟩:=hg;have HX:=hd9 hx;have HZ:=hd9 hz;have zw:bw<w.heap.size:=World.block_lt_of_cell? w _ hw;have zw1:bw<w.heap.size+1:=by omega
 have zg1:0<w.heap.size+1:=by omega
 have gg:w.cell? ⟨0,2,none⟩=some (.func (.func 266) #[] #[]):=by assumption
 clear hx hz g1 g2 g3 g4;go_enter Tryz.func171,Tryz.ntmps171;go_wp2
 first|(go_region_with (((go_at_call 266;(with_reducible refine(way3_any _ x z HX.out HZ.out).mono ?_);rintro e w1 ⟨rfl,hx1⟩;obtain⟨hc1,hf1⟩:=hx1.cells;(try simp only [qcD,qfD,qdZ]at hc1 hf1);have z1:=hx1.lt (n:=w.heap.size+1) (by go_simp)))))|fail
 all_goals go_wp2
 all_goals exact bodyPost_ret (v:=.agg #[.int .i64 (-x),.int .i64 (-z)]) (by simp [results,Tryz.results171,go_sem,hc1,z1]) rfl ⟨rfl,eA⟩
theorem turnc3_any (w:World) (x z:Int) (bw:Nat) (hw:w.cell? ⟨bw,0,none⟩=some (.int .i64 3)) (hg:Gw w) (hx:Bd 1000000 x) (hz:Bd 1000000 z) :
  Calls Tryz.prog 171 #[.agg #[.int .i64 x,.int .i64 z],.pointer (some ⟨bw,0,none⟩)] w fun e w'=>e = .returned (.agg #[.int .i64 z,.int .i64 (-x)])∧Ext w w':=by
 obtain⟨g0,g1,g2,g3,g4⟩:=hg;have HX:=hd9 hx;have HZ:=hd9 hz;have zw:bw<w.heap.size:=World.block_lt_of_cell? w _ hw;have zw1:bw<w.heap.size+1:=by omega
 have zg1:0<w.heap.size+1:=by omega
 have gg:w.cell? ⟨0,3,none⟩=some (.func (.func 267) #[] #[]):=by assumption
 clear hx hz g1 g2 g3 g4;go_enter Tryz.func171,Tryz.ntmps171;go_wp2
 first|(go_region_with (((go_at_call 267;(with_reducible refine(way4_any _ x z HX.out HZ.out).mono ?_);rintro e w1 ⟨rfl,hx1⟩;obtain⟨hc1,hf1⟩:=hx1.cells;(try simp only [qcD,qfD,qdZ]at hc1 hf1);have z1:=hx1.lt (n:=w.heap.size+1) (by go_simp)))))|fail
 all_goals go_wp2
 all_goals exact bodyPost_ret (v:=.agg #[.int .i64 z,.int .i64 (-x)]) (by simp [results,Tryz.results171,go_sem,hc1,z1]) rfl ⟨rfl,eA⟩
theorem turnc4_any (w:World) (x z:Int) (bw:Nat) (hw:w.cell? ⟨bw,0,none⟩=some (.int .i64 4)) (hg:Gw w) (hx:Bd 1000000 x) (hz:Bd 1000000 z) :
  Calls Tryz.prog 171 #[.agg #[.int .i64 x,.int .i64 z],.pointer (some ⟨bw,0,none⟩)] w fun e w'=>e = .returned (.agg #[.int .i64 (-x),.int .i64 z])∧Ext w w':=by
 obtain⟨g0,g1,g2,g3,g4⟩:=hg;have hx':Bd 1000000 (-x):=by unfold Bd at *;omega
 have HX:=hd9 hx';have HZ:=hd9 hz;have zw:bw<w.heap.size:=World.block_lt_of_cell? w _ hw;have zw1:bw<w.heap.size+1:=by omega
 have zg1:0<w.heap.size+1:=by omega
 have gg:w.cell? ⟨0,0,none⟩=some (.func (.func 264) #[] #[]):=by assumption
 have wx:IntKind.i64.wrap (-x) = -x:=by unfold Bd at hx;exact IntWalk.i64_in _ ⟨by omega,by omega⟩
 clear hx hz g1 g2 g3 g4 hx';go_enter Tryz.func171,Tryz.ntmps171;go_wp2
 first|(go_region_with (((go_at_call 264;(with_reducible refine(way1_any _ (-x) z HX.out HZ.out).mono ?_);rintro e w1 ⟨rfl,hx1⟩;obtain⟨hc1,hf1⟩:=hx1.cells;(try simp only [qcD,qfD,qdZ]at hc1 hf1);have z1:=hx1.lt (n:=w.heap.size+1) (by go_simp)))))|fail
 all_goals go_wp2
 all_goals exact bodyPost_ret (v:=.agg #[.int .i64 (-x),.int .i64 z]) (by simp [results,Tryz.results171,go_sem,hc1,z1]) rfl ⟨rfl,eA⟩
theorem turnc5_any (w:World) (x z:Int) (bw:Nat) (hw:w.cell? ⟨bw,0,none⟩=some (.int .i64 5)) (hg:Gw w) (hx:Bd 1000000 x) (hz:Bd 1000000 z) :
  Calls Tryz.prog 171 #[.agg #[.int .i64 x,.int .i64 z],.pointer (some ⟨bw,0,none⟩)] w fun e w'=>e = .returned (.agg #[.int .i64 (-z),.int .i64 (-x)])∧Ext w w':=by
 obtain⟨g0,g1,g2,g3,g4⟩:=hg;have hx':Bd 1000000 (-x):=by unfold Bd at *;omega
 have HX:=hd9 hx';have HZ:=hd9 hz;have zw:bw<w.heap.size:=World.block_lt_of_cell? w _ hw;have zw1:bw<w.heap.size+1:=by omega
 have zg1:0<w.heap.size+1:=by omega
 have gg:w.cell? ⟨0,1,none⟩=some (.func (.func 265) #[] #[]):=by assumption
 have wx:IntKind.i64.wrap (-x) = -x:=by unfold Bd at hx;exact IntWalk.i64_in _ ⟨by omega,by omega⟩
 clear hx hz g1 g2 g3 g4 hx';go_enter Tryz.func171,Tryz.ntmps171;go_wp2
 first|(go_region_with (((go_at_call 265;(with_reducible refine(way2_any _ (-x) z HX.out HZ.out).mono ?_);rintro e w1 ⟨rfl,hx1⟩;obtain⟨hc1,hf1⟩:=hx1.cells;(try simp only [qcD,qfD,qdZ]at hc1 hf1);have z1:=hx1.lt (n:=w.heap.size+1) (by go_simp)))))|fail
 all_goals go_wp2
 all_goals exact bodyPost_ret (v:=.agg #[.int .i64 (-z),.int .i64 (-x)]) (by simp [results,Tryz.results171,go_sem,hc1,z1]) rfl ⟨rfl,eA⟩
theorem turnc6_any (w:World) (x z:Int) (bw:Nat) (hw:w.cell? ⟨bw,0,none⟩=some (.int .i64 6)) (hg:Gw w) (hx:Bd 1000000 x) (hz:Bd 1000000 z) :
  Calls Tryz.prog 171 #[.agg #[.int .i64 x,.int .i64 z],.pointer (some ⟨bw,0,none⟩)] w fun e w'=>e = .returned (.agg #[.int .i64 (- -x),.int .i64 (-z)])∧Ext w w':=by
 obtain⟨g0,g1,g2,g3,g4⟩:=hg;have hx':Bd 1000000 (-x):=by unfold Bd at *;omega
 have HX:=hd9 hx';have HZ:=hd9 hz;have zw:bw<w.heap.size:=World.block_lt_of_cell? w _ hw;have zw1:bw<w.heap.size+1:=by omega
 have zg1:0<w.heap.size+1:=by omega
 have gg:w.cell? ⟨0,2,none⟩=some (.func (.func 266) #[] #[]):=by assumption
 have wx:IntKind.i64.wrap (-x) = -x:=by unfold Bd at hx;exact IntWalk.i64_in _ ⟨by omega,by omega⟩
 clear hx hz g1 g2 g3 g4 hx';go_enter Tryz.func171,Tryz.ntmps171;go_wp2
 first|(go_region_with (((go_at_call 266;(with_reducible refine(way3_any _ (-x) z HX.out HZ.out).mono ?_);rintro e w1 ⟨rfl,hx1⟩;obtain⟨hc1,hf1⟩:=hx1.cells;(try simp only [qcD,qfD,qdZ]at hc1 hf1);have z1:=hx1.lt (n:=w.heap.size+1) (by go_simp)))))|fail
 all_goals go_wp2
 all_goals exact bodyPost_ret (v:=.agg #[.int .i64 (- -x),.int .i64 (-z)]) (by simp [results,Tryz.results171,go_sem,hc1,z1]) rfl ⟨rfl,eA⟩
theorem turnc7_any (w:World) (x z:Int) (bw:Nat) (hw:w.cell? ⟨bw,0,none⟩=some (.int .i64 7)) (hg:Gw w) (hx:Bd 1000000 x) (hz:Bd 1000000 z) :
  Calls Tryz.prog 171 #[.agg #[.int .i64 x,.int .i64 z],.pointer (some ⟨bw,0,none⟩)] w fun e w'=>e = .returned (.agg #[.int .i64 z,.int .i64 (- -x)])∧Ext w w':=by
 obtain⟨g0,g1,g2,g3,g4⟩:=hg;have hx':Bd 1000000 (-x):=by unfold Bd at *;omega
 have HX:=hd9 hx';have HZ:=hd9 hz;have zw:bw<w.heap.size:=World.block_lt_of_cell? w _ hw;have zw1:bw<w.heap.size+1:=by omega
 have zg1:0<w.heap.size+1:=by omega
 have gg:w.cell? ⟨0,3,none⟩=some (.func (.func 267) #[] #[]):=by assumption
 have wx:IntKind.i64.wrap (-x) = -x:=by unfold Bd at hx;exact IntWalk.i64_in _ ⟨by omega,by omega⟩
 clear hx hz g1 g2 g3 g4 hx';go_enter Tryz.func171,Tryz.ntmps171;go_wp2
 first|(go_region_with (((go_at_call 267;(with_reducible refine(way4_any _ (-x) z HX.out HZ.out).mono ?_);rintro e w1 ⟨rfl,hx1⟩;obtain⟨hc1,hf1⟩:=hx1.cells;(try simp only [qcD,qfD,qdZ]at hc1 hf1);have z1:=hx1.lt (n:=w.heap.size+1) (by go_simp)))))|fail
 all_goals go_wp2
 all_goals exact bodyPost_ret (v:=.agg #[.int .i64 z,.int .i64 (- -x)]) (by simp [results,Tryz.results171,go_sem,hc1,z1]) rfl ⟨rfl,eA⟩
theorem turnc_any (w:World) (x z way:Int) (bw:Nat) (hw:w.cell? ⟨bw,0,none⟩=some (.int .i64 way)) (h0:0≤way) (h7:way≤7) (hg:Gw w) (hx:Bd 1000000 x) (hz:Bd 1000000 z) :
  Calls Tryz.prog 171 #[.agg #[.int .i64 x,.int .i64 z],.pointer (some ⟨bw,0,none⟩)] w fun e w'=>e = .returned (.agg #[.int .i64 (wayP way (x,z)).1,.int .i64 (wayP way (x,z)).2])∧Ext w w':=by
 have:way=0∨way=1∨way=2∨way=3∨way=4∨way=5∨way=6∨way=7:=by omega
 rcases this with rfl|rfl|rfl|rfl|rfl|rfl|rfl|rfl
 ·exact turnc0_any w x z bw hw hg hx hz
 ·exact turnc1_any w x z bw hw hg hx hz
 ·exact turnc2_any w x z bw hw hg hx hz
 ·exact turnc3_any w x z bw hw hg hx hz
 ·exact turnc4_any w x z bw hw hg hx hz
 ·exact turnc5_any w x z bw hw hg hx hz
 ·exact turnc6_any w x z bw hw hg hx hz
 ·exact turnc7_any w x z bw hw hg hx hz
end Go.Proofs.YteipgejmhfpkaaaGreatDoor.Cop
