/- Part 11. -/
import Derived.Test.YtjnjpagegkcgfaaGreatDoorCosA09
import Derived.Test.YtjnjpagegkcgfaaGreatDoorCosA07
import Derived.Deep.RegionLaw
set_option maxRecDepth 1000000
set_option maxHeartbeats 16000000
set_option linter.unusedSimpArgs false
set_option linter.unusedVariables false
open Go.Value renaming int->O,agg->V,pointer->I
open Go.IntKind renaming i64->Y
open Option renaming none->Z,some->X
namespace Go.Proofs.YtjnjpagegkcgfaaGreatDoor.Cop
section
open Go.RowKit Go.Shelf
def Gw(w:World):Prop:=0<w.heap.size/\w.cell? ⟨0,0,Z⟩=X (.func (.func 327) #[] #[])/\w.cell? ⟨0,1,Z⟩=X (.func (.func 328) #[] #[])/\w.cell? ⟨0,2,Z⟩=X (.func (.func 329) #[] #[])/\w.cell? ⟨0,3,Z⟩=X (.func (.func 330) #[] #[])
theorem Gw.ext{w w':World}(h:Gw w)(k:Ext w w'):Gw w':=by
 obtain⟨a,b,c,d,e⟩:=h;exact⟨k.lt a,k.cellS b,k.cellS c,k.cellS d,k.cellS e⟩
def wayP(way:Int)(p:Int×Int):Int×Int:=
 let q:=if 3<way then (-p.1,p.2)else p
 if way % 4=0 then q else if way % 4=1 then (-q.2,q.1)else if way % 4=2 then (-q.1,-q.2)else (q.2,-q.1)
theorem zio(w:World)(x z:Int)(c:Nat)(p:w.cell? ⟨c,0,Z⟩=X (O Y 0))(o:Gw w)(f:Bd 1000000 x)(g:Bd 1000000 z) :
  Calls Tryz.prog 197 #[V #[O Y x,O Y z],I (X ⟨c,0,Z⟩)] w fun e q=>e = .returned (V #[O Y x,O Y z])/\Ext w q:=by
 obtain⟨u,j,k,l,m⟩:=o;have HX:=hd9 f;have i:=hd9 g;have K:c<w.heap.size:=World.block_lt_of_cell? w _ p;have t:c<w.heap.size+1:=oM
 have s:0<w.heap.size+1:=oM
 have y:w.cell? ⟨0,0,Z⟩=X (.func (.func 327) #[] #[]):=by assumption
 clear f g j k l m;go_enter Tryz.func197,Tryz.ntmps197;go_wp2
 first|(go_region_with (((go_at_call 327;(with_reducible refine(zhA _ x z HX.out i.out).mono ?_);rintro e D ⟨rfl,b⟩;obtain⟨a,d⟩:=b.cells;(try simp only[qcD,qfD,qdZ]at a d);have r:=b.lt (n:=w.heap.size+1) (by go_simp)))))|fail
 all_goals go_wp2
 all_goals exact bR (v:=V #[O Y x,O Y z]) (by simp[results,Tryz.results197,go_sem,a,r]) rfl ⟨rfl,eA⟩
theorem ziq(w:World)(x z:Int)(c:Nat)(p:w.cell? ⟨c,0,Z⟩=X (O Y 1))(o:Gw w)(f:Bd 1000000 x)(g:Bd 1000000 z) :
  Calls Tryz.prog 197 #[V #[O Y x,O Y z],I (X ⟨c,0,Z⟩)] w fun e q=>e = .returned (V #[O Y (-z),O Y x])/\Ext w q:=by
 obtain⟨u,j,k,l,m⟩:=o;have HX:=hd9 f;have i:=hd9 g;have K:c<w.heap.size:=World.block_lt_of_cell? w _ p;have t:c<w.heap.size+1:=oM
 have s:0<w.heap.size+1:=oM
 have y:w.cell? ⟨0,1,Z⟩=X (.func (.func 328) #[] #[]):=by assumption
 clear f g j k l m;go_enter Tryz.func197,Tryz.ntmps197;go_wp2
 first|(go_region_with (((go_at_call 328;(with_reducible refine(zhB _ x z HX.out i.out).mono ?_);rintro e D ⟨rfl,b⟩;obtain⟨a,d⟩:=b.cells;(try simp only[qcD,qfD,qdZ]at a d);have r:=b.lt (n:=w.heap.size+1) (by go_simp)))))|fail
 all_goals go_wp2
 all_goals exact bR (v:=V #[O Y (-z),O Y x]) (by simp[results,Tryz.results197,go_sem,a,r]) rfl ⟨rfl,eA⟩
theorem zir(w:World)(x z:Int)(c:Nat)(p:w.cell? ⟨c,0,Z⟩=X (O Y 2))(o:Gw w)(f:Bd 1000000 x)(g:Bd 1000000 z) :
  Calls Tryz.prog 197 #[V #[O Y x,O Y z],I (X ⟨c,0,Z⟩)] w fun e q=>e = .returned (V #[O Y (-x),O Y (-z)])/\Ext w q:=by
 obtain⟨u,j,k,l,m⟩:=o;have HX:=hd9 f;have i:=hd9 g;have K:c<w.heap.size:=World.block_lt_of_cell? w _ p;have t:c<w.heap.size+1:=oM
 have s:0<w.heap.size+1:=oM
 have y:w.cell? ⟨0,2,Z⟩=X (.func (.func 329) #[] #[]):=by assumption
 clear f g j k l m;go_enter Tryz.func197,Tryz.ntmps197;go_wp2
 first|(go_region_with (((go_at_call 329;(with_reducible refine(zhC _ x z HX.out i.out).mono ?_);rintro e D ⟨rfl,b⟩;obtain⟨a,d⟩:=b.cells;(try simp only[qcD,qfD,qdZ]at a d);have r:=b.lt (n:=w.heap.size+1) (by go_simp)))))|fail
 all_goals go_wp2
 all_goals exact bR (v:=V #[O Y (-x),O Y (-z)]) (by simp[results,Tryz.results197,go_sem,a,r]) rfl ⟨rfl,eA⟩
theorem zis(w:World)(x z:Int)(c:Nat)(p:w.cell? ⟨c,0,Z⟩=X (O Y 3))(o:Gw w)(f:Bd 1000000 x)(g:Bd 1000000 z) :
  Calls Tryz.prog 197 #[V #[O Y x,O Y z],I (X ⟨c,0,Z⟩)] w fun e q=>e = .returned (V #[O Y z,O Y (-x)])/\Ext w q:=by
 obtain⟨u,j,k,l,m⟩:=o;have HX:=hd9 f;have i:=hd9 g;have K:c<w.heap.size:=World.block_lt_of_cell? w _ p;have t:c<w.heap.size+1:=oM
 have s:0<w.heap.size+1:=oM
 have y:w.cell? ⟨0,3,Z⟩=X (.func (.func 330) #[] #[]):=by assumption
 clear f g j k l m;go_enter Tryz.func197,Tryz.ntmps197;go_wp2
 first|(go_region_with (((go_at_call 330;(with_reducible refine(zhD _ x z HX.out i.out).mono ?_);rintro e D ⟨rfl,b⟩;obtain⟨a,d⟩:=b.cells;(try simp only[qcD,qfD,qdZ]at a d);have r:=b.lt (n:=w.heap.size+1) (by go_simp)))))|fail
 all_goals go_wp2
 all_goals exact bR (v:=V #[O Y z,O Y (-x)]) (by simp[results,Tryz.results197,go_sem,a,r]) rfl ⟨rfl,eA⟩
theorem zit(w:World)(x z:Int)(d:Nat)(q:w.cell? ⟨d,0,Z⟩=X (O Y 4))(p:Gw w)(g:Bd 1000000 x)(i:Bd 1000000 z) :
  Calls Tryz.prog 197 #[V #[O Y x,O Y z],I (X ⟨d,0,Z⟩)] w fun e r=>e = .returned (V #[O Y (-x),O Y z])/\Ext w r:=by
 obtain⟨y,k,l,m,o⟩:=p;have b:Bd 1000000 (-x):=by unfold Bd at *;omega
 have HX:=hd9 b;have j:=hd9 i;have P:d<w.heap.size:=World.block_lt_of_cell? w _ q;have u:d<w.heap.size+1:=oM
 have t:0<w.heap.size+1:=oM
 have D:w.cell? ⟨0,0,Z⟩=X (.func (.func 327) #[] #[]):=by assumption
 have L:IntKind.i64.wrap (-x) = -x:=by unfold Bd at g;exact iW _ ⟨by omega,by omega⟩
 clear g i k l m o b;go_enter Tryz.func197,Tryz.ntmps197;go_wp2
 first|(go_region_with (((go_at_call 327;(with_reducible refine(zhA _ (-x) z HX.out j.out).mono ?_);rintro e K ⟨rfl,c⟩;obtain⟨a,f⟩:=c.cells;(try simp only[qcD,qfD,qdZ]at a f);have s:=c.lt (n:=w.heap.size+1) (by go_simp)))))|fail
 all_goals go_wp2
 all_goals exact bR (v:=V #[O Y (-x),O Y z]) (by simp[results,Tryz.results197,go_sem,a,s]) rfl ⟨rfl,eA⟩
theorem ziu(w:World)(x z:Int)(d:Nat)(q:w.cell? ⟨d,0,Z⟩=X (O Y 5))(p:Gw w)(g:Bd 1000000 x)(i:Bd 1000000 z) :
  Calls Tryz.prog 197 #[V #[O Y x,O Y z],I (X ⟨d,0,Z⟩)] w fun e r=>e = .returned (V #[O Y (-z),O Y (-x)])/\Ext w r:=by
 obtain⟨y,k,l,m,o⟩:=p;have b:Bd 1000000 (-x):=by unfold Bd at *;omega
 have HX:=hd9 b;have j:=hd9 i;have P:d<w.heap.size:=World.block_lt_of_cell? w _ q;have u:d<w.heap.size+1:=oM
 have t:0<w.heap.size+1:=oM
 have D:w.cell? ⟨0,1,Z⟩=X (.func (.func 328) #[] #[]):=by assumption
 have L:IntKind.i64.wrap (-x) = -x:=by unfold Bd at g;exact iW _ ⟨by omega,by omega⟩
 clear g i k l m o b;go_enter Tryz.func197,Tryz.ntmps197;go_wp2
 first|(go_region_with (((go_at_call 328;(with_reducible refine(zhB _ (-x) z HX.out j.out).mono ?_);rintro e K ⟨rfl,c⟩;obtain⟨a,f⟩:=c.cells;(try simp only[qcD,qfD,qdZ]at a f);have s:=c.lt (n:=w.heap.size+1) (by go_simp)))))|fail
 all_goals go_wp2
 all_goals exact bR (v:=V #[O Y (-z),O Y (-x)]) (by simp[results,Tryz.results197,go_sem,a,s]) rfl ⟨rfl,eA⟩
theorem ziv(w:World)(x z:Int)(d:Nat)(q:w.cell? ⟨d,0,Z⟩=X (O Y 6))(p:Gw w)(g:Bd 1000000 x)(i:Bd 1000000 z) :
  Calls Tryz.prog 197 #[V #[O Y x,O Y z],I (X ⟨d,0,Z⟩)] w fun e r=>e = .returned (V #[O Y (- -x),O Y (-z)])/\Ext w r:=by
 obtain⟨y,k,l,m,o⟩:=p;have b:Bd 1000000 (-x):=by unfold Bd at *;omega
 have HX:=hd9 b;have j:=hd9 i;have P:d<w.heap.size:=World.block_lt_of_cell? w _ q;have u:d<w.heap.size+1:=oM
 have t:0<w.heap.size+1:=oM
 have D:w.cell? ⟨0,2,Z⟩=X (.func (.func 329) #[] #[]):=by assumption
 have L:IntKind.i64.wrap (-x) = -x:=by unfold Bd at g;exact iW _ ⟨by omega,by omega⟩
 clear g i k l m o b;go_enter Tryz.func197,Tryz.ntmps197;go_wp2
 first|(go_region_with (((go_at_call 329;(with_reducible refine(zhC _ (-x) z HX.out j.out).mono ?_);rintro e K ⟨rfl,c⟩;obtain⟨a,f⟩:=c.cells;(try simp only[qcD,qfD,qdZ]at a f);have s:=c.lt (n:=w.heap.size+1) (by go_simp)))))|fail
 all_goals go_wp2
 all_goals exact bR (v:=V #[O Y (- -x),O Y (-z)]) (by simp[results,Tryz.results197,go_sem,a,s]) rfl ⟨rfl,eA⟩
theorem ziw(w:World)(x z:Int)(d:Nat)(q:w.cell? ⟨d,0,Z⟩=X (O Y 7))(p:Gw w)(g:Bd 1000000 x)(i:Bd 1000000 z) :
  Calls Tryz.prog 197 #[V #[O Y x,O Y z],I (X ⟨d,0,Z⟩)] w fun e r=>e = .returned (V #[O Y z,O Y (- -x)])/\Ext w r:=by
 obtain⟨y,k,l,m,o⟩:=p;have b:Bd 1000000 (-x):=by unfold Bd at *;omega
 have HX:=hd9 b;have j:=hd9 i;have P:d<w.heap.size:=World.block_lt_of_cell? w _ q;have u:d<w.heap.size+1:=oM
 have t:0<w.heap.size+1:=oM
 have D:w.cell? ⟨0,3,Z⟩=X (.func (.func 330) #[] #[]):=by assumption
 have L:IntKind.i64.wrap (-x) = -x:=by unfold Bd at g;exact iW _ ⟨by omega,by omega⟩
 clear g i k l m o b;go_enter Tryz.func197,Tryz.ntmps197;go_wp2
 first|(go_region_with (((go_at_call 330;(with_reducible refine(zhD _ (-x) z HX.out j.out).mono ?_);rintro e K ⟨rfl,c⟩;obtain⟨a,f⟩:=c.cells;(try simp only[qcD,qfD,qdZ]at a f);have s:=c.lt (n:=w.heap.size+1) (by go_simp)))))|fail
 all_goals go_wp2
 all_goals exact bR (v:=V #[O Y z,O Y (- -x)]) (by simp[results,Tryz.results197,go_sem,a,s]) rfl ⟨rfl,eA⟩
theorem zee(w:World)(x z way:Int)(a:Nat)(c:w.cell? ⟨a,0,Z⟩=X (O Y way))(i:0<=way)(j:way<=7)(b:Gw w)(d:Bd 1000000 x)(f:Bd 1000000 z) :
  Calls Tryz.prog 197 #[V #[O Y x,O Y z],I (X ⟨a,0,Z⟩)] w fun e g=>e = .returned (V #[O Y (wayP way (x,z)).1,O Y (wayP way (x,z)).2])/\Ext w g:=by
 have:way=0\/way=1\/way=2\/way=3\/way=4\/way=5\/way=6\/way=7:=oM
 rcases this with rfl|rfl|rfl|rfl|rfl|rfl|rfl|rfl
 ·exact zio w x z a c b d f
 ·exact ziq w x z a c b d f
 ·exact zir w x z a c b d f
 ·exact zis w x z a c b d f
 ·exact zit w x z a c b d f
 ·exact ziu w x z a c b d f
 ·exact ziv w x z a c b d f
 ·exact ziw w x z a c b d f
end
end Go.Proofs.YtjnjpagegkcgfaaGreatDoor.Cop
