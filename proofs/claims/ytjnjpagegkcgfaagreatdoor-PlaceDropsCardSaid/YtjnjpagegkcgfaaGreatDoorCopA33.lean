/- Part 34: contracts of what the law calls. -/
import Derived.Test.YtjnjpagegkcgfaaGreatDoorCopA30
import Derived.Test.YtjnjpagegkcgfaaGreatDoorCopA32
set_option maxRecDepth 1000000
set_option maxHeartbeats 16000000
set_option linter.unusedSimpArgs false
set_option linter.unusedVariables false
namespace Go.Proofs.YtjnjpagegkcgfaaGreatDoor.Cop
section
open Go.RowKit Go.Shelf Go.Sort Go.Lib
theorem zfu (zs:List Int) (h:zs.Pairwise (·≤·)):(compact zs).Pairwise (·<·):=by
 have d:∀j,(hj:j<zs.length)→zs.toArray[j]! = zs[j]:=fun j hj=>by rw [getElem!_pos _ _ (by simpa using hj)];simp
 unfold compact compactUpTo;rw [List.pairwise_map];have g:((List.range zs.length).filter (keeps zs.toArray)).Pairwise (·<·):=List.Pairwise.filter _ List.pairwise_lt_range;refine List.Pairwise.imp_of_mem (fun {i j} l hj k=>?_) g;have c:=List.mem_filter.1 hj;have a:=List.mem_range.1 c.1;have b:=c.2;unfold keeps at b;rw [decide_eq_true_eq]at b;rw [d j a,d (j-1) oM]at b;rw [d i oM,d j a];have f:=List.pairwise_iff_getElem.1 h
 have m:zs[i]≤zs[j-1]:=by
  by_cases e:i=j-1
  ·subst e;exact Int.le_refl _
  ·exact f i (j-1) oM oM oM
 have n:=f (j-1) j oM a oM
 rcases b with b|b
 ·omega
 ·omega
theorem zlC (zs:List Int):(isort zs).Pairwise (·≤·):=by
 unfold isort;have:=List.pairwise_mergeSort (le:=fun x y:Int=>decide (x≤y)) (fun a b c d e=>by simp at *;omega) (fun a b=>by simp;omega) zs;exact this.imp fun h=>by simpa using h
theorem ziz (s:Sp):(stopsZ s).Pairwise (·<·):=zfu _ (zlC _)
theorem mem_stopsZ {s:Sp} {z:Int}:z∈stopsZ s ↔ (z=s.lo∨z=s.hi∨(s.lo<z∧z<s.hi∧∃q∈s.over++s.under,q.1=z)):=by
 constructor
 ·intro h
  have a:=isort_mem.1 (zdm h)
  rcases List.mem_cons.1 a with a|a
  ·exact .inl a
  rcases List.mem_cons.1 a with a|a
  ·exact .inr (.inl a)
  ·unfold midP at a
   obtain⟨c,b⟩:=List.mem_filter.1 a;obtain⟨q,d,rfl⟩:=List.mem_map.1 c;unfold inP at b;simp at b;exact .inr (.inr ⟨b.1,b.2,q,d,rfl⟩)
 ·intro h
  obtain⟨y,f,e⟩:=List.mem_map.1 (zl0 h);have:y=z:=by exact_mod_cast e
  rwa [←this]
theorem zl1 {s:Sp} (h:s.lo<s.hi) {z:Int} (c:z∈stopsZ s):s.lo≤z∧z≤s.hi:=by
 rcases mem_stopsZ.1 c with e|e|⟨a,b,_⟩<;>omega
section
variable {L U:List (Int×Int)} (rL:Rise L) (rU:Rise U) (nL:L≠[]) (nU:U≠[])
include rL rU nL nU
end
end
section
open Go.RowKit Go.Shelf
attribute [local go_sem] Oper.semAt_some
theorem zgK {q:Pl} {s b c:Value} {m:Nat} {u:Value} (h:(plc q s)[m]?=some u):(lac q s b c)[m]?=some u:=by
 have a:=(Array.getElem?_eq_some_iff.1 h).1;unfold plc at h a;unfold lac
 match m,a with
 | 0,_|1,_|2,_|3,_|4,_|5,_|6,_|7,_|8,_|9,_=>simpa using h
 | m+10,a=>exact absurd a (by simp only [List.size_toArray,List.length_cons,List.length_nil];omega)
def BdH (w:World) (c d:Value) (a:Array Value) (b:Value) (W:World):Prop:=
 b = .bool false∧Ext w W∧W.heap[w.heap.size]?=some (.cells #[c,d] 124 (0,0))∧W.heap[w.heap.size+1]?=some (.cells be0 79 (0,0))∧W.heap[w.heap.size+1+1]?=some (.cells a 128 (0,0))
end
end Go.Proofs.YtjnjpagegkcgfaaGreatDoor.Cop
