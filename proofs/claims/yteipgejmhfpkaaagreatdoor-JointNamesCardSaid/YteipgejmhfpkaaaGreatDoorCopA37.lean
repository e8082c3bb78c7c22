/- Part 38: contracts of what the law calls. -/
import Derived.Test.YteipgejmhfpkaaaGreatDoorCopA36
set_option maxRecDepth 1000000
set_option maxHeartbeats 16000000
set_option linter.unusedSimpArgs false
set_option linter.unusedVariables false
namespace Go.Proofs.YteipgejmhfpkaaaGreatDoor.Cop
section
open Go.RowKit Go.Shelf Go.Sort Go.Lib
attribute [local go_sem] Oper.semAt_some
theorem zpo (r:Ru) (L:List Jt):∀(m k i:Nat),i<k→k≤m→(rootsP r L m).getD i 0=(rootsP r L k).getD i 0
 | 0,k,i,h1,h2=>absurd h1 (by omega)
 | m+1,k,i,h1,h2=>by
  by_cases h:k=m+1
  ·rw [h]
  ·rw [←zpo r L m k i h1 (by omega)]
   show (rootsP r L m++_).getD i 0=_
   rw [gD,List.getElem?_append_left (by rw [zaT];omega),←gD]
end
section
open Go.RowKit Go.Shelf Go.Sort Go.Lib
def PrvP (r:Ru) (L:List Jt) (ro:List Int):Prop:=
 ∀k j,L[k]?=some j→ro.getD k 0≤j.fr∧j.til-r.run≤ro.getD k 0∧∀i∈befL r L k,ro.getD k 0≤ro.getD i 0
end
end Go.Proofs.YteipgejmhfpkaaaGreatDoor.Cop
