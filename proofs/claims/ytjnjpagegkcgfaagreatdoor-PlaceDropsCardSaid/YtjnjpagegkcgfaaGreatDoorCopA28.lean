/- Part 29: contracts of what the law calls. -/
import Derived.Test.YtjnjpagegkcgfaaGreatDoorCopA27
set_option maxRecDepth 1000000
set_option maxHeartbeats 16000000
set_option linter.unusedSimpArgs false
set_option linter.unusedVariables false
namespace Go.Proofs.YtjnjpagegkcgfaaGreatDoor.Cop
section
open Go.RowKit Go.Shelf Go.Sort Go.Lib
attribute [local go_sem] Oper.semAt_some
def relE (p q:Pl):Int:=if placedOk p=true∧placedOk q=true then 0 else 2
def relK (p q:Pl):Int:=if placedOk p=true∧placedOk q=true then relP p q else 0
def RetRl (w:World) (p q:Pl) (e:Ending) (w':World):Prop:=e = .returned (.tuple #[.int .u8 (relK p q),.int .i64 (relE p q)])∧Ext w w'
theorem IsLa.forms {w:World} {v:Value} {p:Pl} (h:IsLa w v p):∃a1 n1 c1 a2 n2 c2 a3 n3 c3,v = .agg #[.string p.name,.slice a1 n1 c1,.int .i64 p.depth,.int .i64 p.density,.int .i64 p.gx,.int .i64 p.gz,.int .i64 p.way,.int .i64 p.ax,.int .i64 p.az,.int .u8 p.skin,.slice a2 n2 c2,.slice a3 n3 c3]:=by
 obtain⟨s,l,u,rfl,a,b,c⟩:=h;obtain⟨a1,n1,c1,rfl⟩:=form3 a;obtain⟨a2,n2,c2,rfl⟩:=form3 b;obtain⟨a3,n3,c3,rfl⟩:=form3 c;exact⟨_,_,_,_,_,_,_,_,_,rfl⟩
theorem zhV (w:World) (f g:Value) (p q:Pl) (b:IsPts w f p.shape) (c:IsPts w g q.shape) (u:0≤p.skin) (v:0≤q.skin) (d:Gw w) :
  Calls Tryz.prog 39 #[.agg (plc p f),.agg (plc q g)] w (RetRl w p q):=by
 obtain⟨R,t⟩:=gX (RetRl w p q);rw [t];have j:=hd9 t
 by_cases o:placedOk p=true∧placedOk q=true
 ·have i:=hd9 (fun(W:World) (h:Ext w W)=>zki W f g p q (b.ext' h) (c.ext' h) u v (d.ext h) o.1 o.2)
  have HR:=hd9 (fun(W:World) (f g:Value) (b:IsLa W f p) (c:IsLa W g q)=>zde W f g p q b c o.1 o.2);have l:RetRl w p q=fun e r=>e = .returned (.tuple #[.int .u8 (relP p q),.int .i64 0])∧Ext w r:=by funext e r;unfold RetRl relE relK;rw [if_pos o,if_pos o]
  rw [l]at j;obtain⟨k,hk⟩:=gX (relP p q);rw [hk]at HR j;obtain⟨D,Q,L,rfl⟩:=form3 b;obtain⟨K,S,P,rfl⟩:=form3 c;clear b c u v d o hk l t;unfold plc at i ⊢;go_enter Tryz.func39,Tryz.ntmps39
  go_wp2_with(first|(go_at_call 103;(with_reducible refine(i.out _ ?_).mono ?_);exact eA;rintro e s ⟨r1,r2,rfl,m,n,a⟩;obtain⟨a1,n1,c1,a2,n2,c2,a3,n3,c3,rfl⟩:=m.forms;obtain⟨b1,m1,d1,b2,m2,d2,b3,m3,d3,rfl⟩:=n.forms;obtain⟨x,y⟩:=a.cells;(have T:=a.size);(simp only [wZ]at T);(have aa:w.heap.size<s.heap.size:=oM);(have ab:w.heap.size+1<s.heap.size:=oM))|(go_at_call 55;(with_reducible refine(HR.out _ _ _ (m.ext ?_) (n.ext ?_)).mono ?_);exact eA;exact eA;rintro e w6 ⟨rfl,z⟩;obtain⟨ac,ad⟩:=z.cells))
  rw [←j.out];exact⟨rfl,eA⟩
 ·have i:=hd9 (fun(W:World) (h:Ext w W)=>zlR W f g p q (b.ext' h) (c.ext' h) u v o)
  have l:RetRl w p q=fun e r=>e = .returned (.tuple #[.int .u8 0,.int .i64 2])∧Ext w r:=by funext e r;unfold RetRl relE relK;rw [if_neg o,if_neg o]
  rw [l]at j;obtain⟨D,Q,L,rfl⟩:=form3 b;obtain⟨K,S,P,rfl⟩:=form3 c;clear b c u v d o l t;unfold plc at i ⊢;go_enter Tryz.func39,Tryz.ntmps39
  go_wp2_with(first|(go_at_call 103;(with_reducible refine(i.out _ ?_).mono ?_);exact eA;rintro e s ⟨rfl,a⟩;obtain⟨x,y⟩:=a.cells;(have T:=a.size);(simp only [wZ]at T);(have aa:w.heap.size<s.heap.size:=oM);(have ab:w.heap.size+1<s.heap.size:=oM))|fail)
  rw [←j.out];exact⟨rfl,eA⟩
end
end Go.Proofs.YtjnjpagegkcgfaaGreatDoor.Cop
