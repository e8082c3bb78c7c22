/- Part 9: contracts of what the law calls. -/
import Derived.Test.YtodpfeaihohpjaaGreatDoorCopA06
import Derived.Test.YtodpfeaihohpjaaGreatDoorCopA05
import Derived.Deep.RegionLaw
set_option maxRecDepth 1000000
set_option maxHeartbeats 16000000
set_option linter.unusedSimpArgs false
set_option linter.unusedVariables false
open Go.Value renaming int→O,agg→V,pointer→I
open Go.IntKind renaming i64→Y
open Option renaming none→Z,some→X
namespace Go.Proofs.YtodpfeaihohpjaaGreatDoor.Cop
section
open Go.RowKit Go.Shelf
def Gw (w:World):Prop:=0<w.heap.size∧w.cell? ⟨0,0,Z⟩=X (.func (.func 264) #[] #[])∧w.cell? ⟨0,1,Z⟩=X (.func (.func 265) #[] #[])∧w.cell? ⟨0,2,Z⟩=X (.func (.func 266) #[] #[])∧w.cell? ⟨0,3,Z⟩=X (.func (.func 267) #[] #[])
theorem Gw.ext {w w':World} (h:Gw w) (k:Ext w w'):Gw w':=by
 obtain⟨h0,h1,h2,h3,h4⟩:=h;exact⟨k.lt h0,k.cellS h1,k.cellS h2,k.cellS h3,k.cellS h4⟩
def wayP (way:Int) (p:Int×Int):Int×Int:=
 let q:=if 3<way then (-p.1,p.2)else p
 if way % 4=0 then q else if way % 4=1 then (-q.2,q.1)else if way % 4=2 then (-q.1,-q.2)else (q.2,-q.1)
theorem zih (w:World) (x z:Int) (bw:Nat) (hw:w.cell? ⟨bw,0,Z⟩=X (O Y 0)) (hg:Gw w) (hx:Bd 1000000 x) (hz:Bd 1000000 z) :
  Calls Tryz.prog 156 #[V #[O Y x,O Y z],I (X ⟨bw,0,Z⟩)] w fun e w'=>e = .returned (V #[O Y x,O Y z])∧Ext w w':=by
 obtain⟨g0,g1,g2,g3,g4⟩:=hg;have HX:=hd9 hx;have HZ:=hd9 hz;have zw:bw<w.heap.size:=World.block_lt_of_cell? w _ hw;have zw1:bw<w.heap.size+1:=by omega
 have zg1:0<w.heap.size+1:=by omega
 have gg:w.cell? ⟨0,0,Z⟩=X (.func (.func 264) #[] #[]):=by assumption
 clear hx hz g1 g2 g3 g4;go_enter Tryz.func156,Tryz.ntmps156;go_wp2
 first|(go_region_with (((go_at_call 264;(with_reducible refine(zht _ x z HX.out HZ.out).mono ?_);rintro e w1 ⟨rfl,hx1⟩;obtain⟨hc1,hf1⟩:=hx1.cells;(try simp only [qcD,qfD,qdZ]at hc1 hf1);have z1:=hx1.lt (n:=w.heap.size+1) (by go_simp)))))|fail
 all_goals go_wp2
 all_goals exact bR (v:=V #[O Y x,O Y z]) (by simp [results,Tryz.results156,go_sem,hc1,z1]) rfl ⟨rfl,eA⟩
theorem zii (w:World) (x z:Int) (bw:Nat) (hw:w.cell? ⟨bw,0,Z⟩=X (O Y 1)) (hg:Gw w) (hx:Bd 1000000 x) (hz:Bd 1000000 z) :
  Calls Tryz.prog 156 #[V #[O Y x,O Y z],I (X ⟨bw,0,Z⟩)] w fun e w'=>e = .returned (V #[O Y (-z),O Y x])∧Ext w w':=by
 obtain⟨g0,g1,g2,g3,g4⟩:=hg;have HX:=hd9 hx;have HZ:=hd9 hz;have zw:bw<w.heap.size:=World.block_lt_of_cell? w _ hw;have zw1:bw<w.heap.size+1:=by omega
 have zg1:0<w.heap.size+1:=by omega
 have gg:w.cell? ⟨0,1,Z⟩=X (.func (.func 265) #[] #[]):=by assumption
 clear hx hz g1 g2 g3 g4;go_enter Tryz.func156,Tryz.ntmps156;go_wp2
 first|(go_region_with (((go_at_call 265;(with_reducible refine(zhu _ x z HX.out HZ.out).mono ?_);rintro e w1 ⟨rfl,hx1⟩;obtain⟨hc1,hf1⟩:=hx1.cells;(try simp only [qcD,qfD,qdZ]at hc1 hf1);have z1:=hx1.lt (n:=w.heap.size+1) (by go_simp)))))|fail
 all_goals go_wp2
 all_goals exact bR (v:=V #[O Y (-z),O Y x]) (by simp [results,Tryz.results156,go_sem,hc1,z1]) rfl ⟨rfl,eA⟩
theorem zij (w:World) (x z:Int) (bw:Nat) (hw:w.cell? ⟨bw,0,Z⟩=X (O Y 2)) (hg:Gw w) (hx:Bd 1000000 x) (hz:Bd 1000000 z) :
  Calls Tryz.prog 156 #[V #[O Y x,O Y z],I (X ⟨bw,0,Z⟩)] w fun e w'=>e = .returned (V #[O Y (-x),O Y (-z)])∧Ext w w':=by
 obtain⟨g0,g1,g2,g3,g4⟩:=hg;have HX:=hd9 hx;have HZ:=hd9 hz;have zw:bw<w.heap.size:=World.block_lt_of_cell? w _ hw;have zw1:bw<w.heap.size+1:=by omega
 have zg1:0<w.heap.size+1:=by omega
 have gg:w.cell? ⟨0,2,Z⟩=X (.func (.func 266) #[] #[]):=by assumption
 clear hx hz g1 g2 g3 g4;go_enter Tryz.func156,Tryz.ntmps156;go_wp2
 first|(go_region_with (((go_at_call 266;(with_reducible refine(zhv _ x z HX.out HZ.out).mono ?_);rintro e w1 ⟨rfl,hx1⟩;obtain⟨hc1,hf1⟩:=hx1.cells;(try simp only [qcD,qfD,qdZ]at hc1 hf1);have z1:=hx1.lt (n:=w.heap.size+1) (by go_simp)))))|fail
 all_goals go_wp2
 all_goals exact bR (v:=V #[O Y (-x),O Y (-z)]) (by simp [results,Tryz.results156,go_sem,hc1,z1]) rfl ⟨rfl,eA⟩
theorem zik (w:World) (x z:Int) (bw:Nat) (hw:w.cell? ⟨bw,0,Z⟩=X (O Y 3)) (hg:Gw w) (hx:Bd 1000000 x) (hz:Bd 1000000 z) :
  Calls Tryz.prog 156 #[V #[O Y x,O Y z],I (X ⟨bw,0,Z⟩)] w fun e w'=>e = .returned (V #[O Y z,O Y (-x)])∧Ext w w':=by
 obtain⟨g0,g1,g2,g3,g4⟩:=hg;have HX:=hd9 hx;have HZ:=hd9 hz;have zw:bw<w.heap.size:=World.block_lt_of_cell? w _ hw;have zw1:bw<w.heap.size+1:=by omega
 have zg1:0<w.heap.size+1:=by omega
 have gg:w.cell? ⟨0,3,Z⟩=X (.func (.func 267) #[] #[]):=by assumption
 clear hx hz g1 g2 g3 g4;go_enter Tryz.func156,Tryz.ntmps156;go_wp2
 first|(go_region_with (((go_at_call 267;(with_reducible refine(zhw _ x z HX.out HZ.out).mono ?_);rintro e w1 ⟨rfl,hx1⟩;obtain⟨hc1,hf1⟩:=hx1.cells;(try simp only [qcD,qfD,qdZ]at hc1 hf1);have z1:=hx1.lt (n:=w.heap.size+1) (by go_simp)))))|fail
 all_goals go_wp2
 all_goals exact bR (v:=V #[O Y z,O Y (-x)]) (by simp [results,Tryz.results156,go_sem,hc1,z1]) rfl ⟨rfl,eA⟩
theorem zil (w:World) (x z:Int) (bw:Nat) (hw:w.cell? ⟨bw,0,Z⟩=X (O Y 4)) (hg:Gw w) (hx:Bd 1000000 x) (hz:Bd 1000000 z) :
  Calls Tryz.prog 156 #[V #[O Y x,O Y z],I (X ⟨bw,0,Z⟩)] w fun e w'=>e = .returned (V #[O Y (-x),O Y z])∧Ext w w':=by
 obtain⟨g0,g1,g2,g3,g4⟩:=hg;have hx':Bd 1000000 (-x):=by unfold Bd at *;omega
 have HX:=hd9 hx';have HZ:=hd9 hz;have zw:bw<w.heap.size:=World.block_lt_of_cell? w _ hw;have zw1:bw<w.heap.size+1:=by omega
 have zg1:0<w.heap.size+1:=by omega
 have gg:w.cell? ⟨0,0,Z⟩=X (.func (.func 264) #[] #[]):=by assumption
 have wx:IntKind.i64.wrap (-x) = -x:=by unfold Bd at hx;exact iW _ ⟨by omega,by omega⟩
 clear hx hz g1 g2 g3 g4 hx';go_enter Tryz.func156,Tryz.ntmps156;go_wp2
 first|(go_region_with (((go_at_call 264;(with_reducible refine(zht _ (-x) z HX.out HZ.out).mono ?_);rintro e w1 ⟨rfl,hx1⟩;obtain⟨hc1,hf1⟩:=hx1.cells;(try simp only [qcD,qfD,qdZ]at hc1 hf1);have z1:=hx1.lt (n:=w.heap.size+1) (by go_simp)))))|fail
 all_goals go_wp2
 all_goals exact bR (v:=V #[O Y (-x),O Y z]) (by simp [results,Tryz.results156,go_sem,hc1,z1]) rfl ⟨rfl,eA⟩
theorem zim (w:World) (x z:Int) (bw:Nat) (hw:w.cell? ⟨bw,0,Z⟩=X (O Y 5)) (hg:Gw w) (hx:Bd 1000000 x) (hz:Bd 1000000 z) :
  Calls Tryz.prog 156 #[V #[O Y x,O Y z],I (X ⟨bw,0,Z⟩)] w fun e w'=>e = .returned (V #[O Y (-z),O Y (-x)])∧Ext w w':=by
 obtain⟨g0,g1,g2,g3,g4⟩:=hg;have hx':Bd 1000000 (-x):=by unfold Bd at *;omega
 have HX:=hd9 hx';have HZ:=hd9 hz;have zw:bw<w.heap.size:=World.block_lt_of_cell? w _ hw;have zw1:bw<w.heap.size+1:=by omega
 have zg1:0<w.heap.size+1:=by omega
 have gg:w.cell? ⟨0,1,Z⟩=X (.func (.func 265) #[] #[]):=by assumption
 have wx:IntKind.i64.wrap (-x) = -x:=by unfold Bd at hx;exact iW _ ⟨by omega,by omega⟩
 clear hx hz g1 g2 g3 g4 hx';go_enter Tryz.func156,Tryz.ntmps156;go_wp2
 first|(go_region_with (((go_at_call 265;(with_reducible refine(zhu _ (-x) z HX.out HZ.out).mono ?_);rintro e w1 ⟨rfl,hx1⟩;obtain⟨hc1,hf1⟩:=hx1.cells;(try simp only [qcD,qfD,qdZ]at hc1 hf1);have z1:=hx1.lt (n:=w.heap.size+1) (by go_simp)))))|fail
 all_goals go_wp2
 all_goals exact bR (v:=V #[O Y (-z),O Y (-x)]) (by simp [results,Tryz.results156,go_sem,hc1,z1]) rfl ⟨rfl,eA⟩
theorem zin (w:World) (x z:Int) (bw:Nat) (hw:w.cell? ⟨bw,0,Z⟩=X (O Y 6)) (hg:Gw w) (hx:Bd 1000000 x) (hz:Bd 1000000 z) :
  Calls Tryz.prog 156 #[V #[O Y x,O Y z],I (X ⟨bw,0,Z⟩)] w fun e w'=>e = .returned (V #[O Y (- -x),O Y (-z)])∧Ext w w':=by
 obtain⟨g0,g1,g2,g3,g4⟩:=hg;have hx':Bd 1000000 (-x):=by unfold Bd at *;omega
 have HX:=hd9 hx';have HZ:=hd9 hz;have zw:bw<w.heap.size:=World.block_lt_of_cell? w _ hw;have zw1:bw<w.heap.size+1:=by omega
 have zg1:0<w.heap.size+1:=by omega
 have gg:w.cell? ⟨0,2,Z⟩=X (.func (.func 266) #[] #[]):=by assumption
 have wx:IntKind.i64.wrap (-x) = -x:=by unfold Bd at hx;exact iW _ ⟨by omega,by omega⟩
 clear hx hz g1 g2 g3 g4 hx';go_enter Tryz.func156,Tryz.ntmps156;go_wp2
 first|(go_region_with (((go_at_call 266;(with_reducible refine(zhv _ (-x) z HX.out HZ.out).mono ?_);rintro e w1 ⟨rfl,hx1⟩;obtain⟨hc1,hf1⟩:=hx1.cells;(try simp only [qcD,qfD,qdZ]at hc1 hf1);have z1:=hx1.lt (n:=w.heap.size+1) (by go_simp)))))|fail
 all_goals go_wp2
 all_goals exact bR (v:=V #[O Y (- -x),O Y (-z)]) (by simp [results,Tryz.results156,go_sem,hc1,z1]) rfl ⟨rfl,eA⟩
theorem zio (w:World) (x z:Int) (bw:Nat) (hw:w.cell? ⟨bw,0,Z⟩=X (O Y 7)) (hg:Gw w) (hx:Bd 1000000 x) (hz:Bd 1000000 z) :
  Calls Tryz.prog 156 #[V #[O Y x,O Y z],I (X ⟨bw,0,Z⟩)] w fun e w'=>e = .returned (V #[O Y z,O Y (- -x)])∧Ext w w':=by
 obtain⟨g0,g1,g2,g3,g4⟩:=hg;have hx':Bd 1000000 (-x):=by unfold Bd at *;omega
 have HX:=hd9 hx';have HZ:=hd9 hz;have zw:bw<w.heap.size:=World.block_lt_of_cell? w _ hw;have zw1:bw<w.heap.size+1:=by omega
 have zg1:0<w.heap.size+1:=by omega
 have gg:w.cell? ⟨0,3,Z⟩=X (.func (.func 267) #[] #[]):=by assumption
 have wx:IntKind.i64.wrap (-x) = -x:=by unfold Bd at hx;exact iW _ ⟨by omega,by omega⟩
 clear hx hz g1 g2 g3 g4 hx';go_enter Tryz.func156,Tryz.ntmps156;go_wp2
 first|(go_region_with (((go_at_call 267;(with_reducible refine(zhw _ (-x) z HX.out HZ.out).mono ?_);rintro e w1 ⟨rfl,hx1⟩;obtain⟨hc1,hf1⟩:=hx1.cells;(try simp only [qcD,qfD,qdZ]at hc1 hf1);have z1:=hx1.lt (n:=w.heap.size+1) (by go_simp)))))|fail
 all_goals go_wp2
 all_goals exact bR (v:=V #[O Y z,O Y (- -x)]) (by simp [results,Tryz.results156,go_sem,hc1,z1]) rfl ⟨rfl,eA⟩
theorem zeh (w:World) (x z way:Int) (bw:Nat) (hw:w.cell? ⟨bw,0,Z⟩=X (O Y way)) (h0:0≤way) (h7:way≤7) (hg:Gw w) (hx:Bd 1000000 x) (hz:Bd 1000000 z) :
  Calls Tryz.prog 156 #[V #[O Y x,O Y z],I (X ⟨bw,0,Z⟩)] w fun e w'=>e = .returned (V #[O Y (wayP way (x,z)).1,O Y (wayP way (x,z)).2])∧Ext w w':=by
 have:way=0∨way=1∨way=2∨way=3∨way=4∨way=5∨way=6∨way=7:=by omega
 rcases this with rfl|rfl|rfl|rfl|rfl|rfl|rfl|rfl
 ·exact zih w x z bw hw hg hx hz
 ·exact zii w x z bw hw hg hx hz
 ·exact zij w x z bw hw hg hx hz
 ·exact zik w x z bw hw hg hx hz
 ·exact zil w x z bw hw hg hx hz
 ·exact zim w x z bw hw hg hx hz
 ·exact zin w x z bw hw hg hx hz
 ·exact zio w x z bw hw hg hx hz
end
end Go.Proofs.YtodpfeaihohpjaaGreatDoor.Cop
