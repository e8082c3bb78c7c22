/- Part 29 of 44: contracts of what the law calls. -/
import Derived.Test.YteipgejmhfpkaaaGreatDoorCopA27
set_option maxRecDepth 1000000
set_option maxHeartbeats 16000000
set_option linter.unusedSimpArgs false
set_option linter.unusedVariables false
namespace Go.Proofs.YteipgejmhfpkaaaGreatDoor.Cop
open Go.RowKit Go.Shelf
attribute [local go_sem] Oper.semAt_some
def RcI (w:World) (s:Sp) (v1 v2 vq:Value) (pin:Int) (qs:List Rat) (o:Rat×Rat) (g:Nat) (t38:Value) (W:World):Prop:=
 ∃i:Nat,i≤qs.length∧t38 = .int .i64 i∧g=qs.length-i∧RcW w s v1 v2 vq qs (reachN (pinG s pin) qs o i) W
theorem boxes_first {w W W1 W2:World} {o:Obj} {p p1 p2:Rat} {a a2:Option Addr} {m c m2 c2:Nat} {s:Bool} (hX:Ext w W) (hs:w.heap.size+1+1+1≤W.heap.size) (K:W.heap[w.heap.size]?=some o) (h1:RB W (w.heap.size+1) p1) (h2:RB W (w.heap.size+1+1) p2)
  (hz:IsR W (.agg #[.slice a m c,.bool s,.slice a2 m2 c2]) p)
  (hW1:((W.setCell ⟨w.heap.size+1,0,none⟩ (.slice a m c)).setCell ⟨w.heap.size+1,1,none⟩ (.bool s)).setCell ⟨w.heap.size+1,2,none⟩ (.slice a2 m2 c2)=W1)
  (hW2:((W1.setCell ⟨w.heap.size+1+1,0,none⟩ (.slice a m c)).setCell ⟨w.heap.size+1+1,1,none⟩ (.bool s)).setCell ⟨w.heap.size+1+1,2,none⟩ (.slice a2 m2 c2)=W2) :
  Ext w W2.drew∧w.heap.size+1+1+1≤W2.drew.heap.size∧W2.drew.heap[w.heap.size]?=some o∧RB W2.drew (w.heap.size+1) p∧RB W2.drew (w.heap.size+1+1) p:=by
 obtain⟨P1,P2,P3,P4,P5,P6⟩:=RB.copy2 h1 h2 (by omega) hz hz hW1 hW2;have hd:Ext W2 W2.drew:=(Ext.refl _).drew;refine⟨(P6 w hX (by omega) (by omega)).drew,Nat.le_trans (by omega) hd.size,hd.heapS ?_,P1.ext hd,P2.ext hd⟩;rw [←hW2,←hW1]
 repeat rw [Below.heap_setCell _ _ _ _ (by dsimp only;omega)]
 exact K
section
variable {P:Program} {ops:Array Oper} {Q:Exit→Act→World→Prop} {md:Region.Mode} {S:World→Prop}
theorem call2 {i j:Nat} {oi oj:Oper} {fuel:Nat} {listed:Array Bool} {a:Act} {w:World}
  (h1:∀K':Act→World→Prop,Shut (∀a w,S w→(S w→wpAnyH P md ops Q S fuel (listed.setIfInBounds i true) a w)→K' a w)→if Region.wanted oi (yielded ops a.tmps)=true then Oper.wp P oi a w K' Q else K' (a.put oi.dst undef) w)
  (h2:∀K':Act→World→Prop,Shut (∀a w,S w→(S w→wpAnyH P md ops Q S fuel (listed.setIfInBounds j true) a w)→K' a w)→if Region.wanted oj (yielded ops a.tmps)=true then Oper.wp P oj a w K' Q else K' (a.put oj.dst undef) w)
  (hi:ops[i]?=some oi:=by(simp only [gA,gS,gZ];rfl)) (hj:ops[j]?=some oj:=by(simp only [gA,gS,gZ];rfl)) (hr:Region.ready md ops listed=[i,j]:=by kernel_rfl) :
  wpAnyH P md ops Q S (fuel+1) listed a w:=
 wpAnyH_ready hr (by simp) (AllReadyH.cons hi h1 (AllReadyH.cons hj h2 AllReadyH.nil))
end
theorem RcW.box {w:World} {s:Sp} {v1 v2 vq:Value} {qs:List Rat} {o:Rat×Rat} {W:World} (h:RcW w s v1 v2 vq qs o W) {a a2:Option Addr} {m c m2 c2 b:Nat} {s1:Bool} {p p0:Rat}
  (hb:w.heap.size+1+1+1≤b) (hv:vq.ownBlock≠some b) (hB:RB W b p0) (hz:IsR W (.agg #[.slice a m c,.bool s1,.slice a2 m2 c2]) p) {W1:World}
  (hW1:((W.setCell ⟨b,0,none⟩ (.slice a m c)).setCell ⟨b,1,none⟩ (.bool s1)).setCell ⟨b,2,none⟩ (.slice a2 m2 c2)=W1) :
  RcW w s v1 v2 vq qs o W1∧RB W1 b p∧(∀b' r,b'≠b→RB W b' r→RB W1 b' r)∧W1.heap.size=W.heap.size:=by
 obtain⟨h1,h2,h3,h4,h5,h6⟩:=h;have n0:=hB.not;have n1:=n0.set ⟨b,0,none⟩ (.slice a m c);have n2:=n1.set ⟨b,1,none⟩ (.bool s1)
 have hk:∀b' r,b'≠b→RB W b' r→RB W1 b' r:=fun b' r hne hr=>by
  rw [←hW1];exact((hr.other (Ne.symm hne) n0 _).other (Ne.symm hne) n1 _).other (Ne.symm hne) n2 _
 have hset:∀(V:World) (u:Value) (q:Addr),q.block=b→OwnR V (w.heap.size+1+1+1) vq qs→NoT 2 V b→OwnR (V.setCell q u) (w.heap.size+1+1+1) vq qs:=fun V u q hq ho hn=>by
  obtain⟨cs,k1,k2,k3⟩:=ho;exact⟨cs,k1.setOther (by rw [hq];exact hv) _,k2,fun i c q' hc hq'=>IsR.keep (k3 i c q' hc hq') (KeepT.setN (KeepT.refl _ _) (by rw [hq];exact hn) u)⟩
 refine⟨⟨?_,?_,?_,hk _ _ (by omega) h4,hk _ _ (by omega) h5,?_⟩,?_,hk,?_⟩
 ·rw [←hW1];exact((h1.set (by dsimp only;omega) _).set (by dsimp only;omega) _).set (by dsimp only;omega) _
 ·rw [←hW1];simpa using h2
 ·rw [←hW1]
  repeat rw [Below.heap_setCell _ _ _ _ (by dsimp only;omega)]
  exact h3
 ·rw [←hW1]
  exact hset _ _ _ rfl (hset _ _ _ rfl (hset _ _ _ rfl h6 n0) n1) n2
 ·rw [←hW1];exact hB.put hz
 ·rw [←hW1];simp
theorem sign_small (q:Rat) : -1≤q.num.sign∧q.num.sign≤1:=by
 rcases Int.lt_trichotomy q.num 0 with h|h|h
 ·rw [Int.sign_eq_neg_one_of_neg h];decide
 ·rw [h];decide
 ·rw [Int.sign_eq_one_of_pos h];decide
def Rc1 (w:World) (s:Sp) (v1 v2 vq:Value) (qs:List Rat) (o:Rat×Rat) (i:Nat) (x g:Rat) (t10 t11 t12:Value) (W:World):Prop:=
 ∃b11 b12,t10 = .int .i64 (i:Int)∧t11 = .pointer (some ⟨b11,0,none⟩)∧t12 = .pointer (some ⟨b12,0,none⟩)∧w.heap.size+1+1+1≤b11∧b11<b12∧b12<W.heap.size∧RcW w s v1 v2 vq qs o W∧RB W b11 x∧RB W b12 g
def Rc2 (w:World) (s:Sp) (v1 v2 vq:Value) (qs:List Rat) (o:Rat×Rat) (i:Nat) (x g h:Rat) (t10 t11 t12 t13:Value) (W:World):Prop:=
 ∃b13,Rc1 w s v1 v2 vq qs o i x g t10 t11 t12 W∧t13 = .pointer (some ⟨b13,0,none⟩)∧b13<W.heap.size∧RB W b13 h
theorem wide_put {w:World} {s:Sp} {v1 v2 vq:Value} {qs:List Rat} {o:Rat×Rat} {W:World} (h:RcW w s v1 v2 vq qs o W) {a a2 e e2:Option Addr} {m c m2 c2 n k n2 k2:Nat} {s1 t:Bool} {p q x g:Rat} {b11 b12 i:Nat}
  (hz1:IsR W (.agg #[.slice a m c,.bool s1,.slice a2 m2 c2]) p) (hz2:IsR W (.agg #[.slice e n k,.bool t,.slice e2 n2 k2]) q) (z1:w.heap.size+1+1+1≤b11) (z2:b11<b12) (z3:b12<W.heap.size) (h1:RB W b11 x) (h2:RB W b12 g) {W1 W2:World}
  (hW1:((W.setCell ⟨w.heap.size+1,0,none⟩ (.slice a m c)).setCell ⟨w.heap.size+1,1,none⟩ (.bool s1)).setCell ⟨w.heap.size+1,2,none⟩ (.slice a2 m2 c2)=W1)
  (hW2:((W1.setCell ⟨w.heap.size+1+1,0,none⟩ (.slice e n k)).setCell ⟨w.heap.size+1+1,1,none⟩ (.bool t)).setCell ⟨w.heap.size+1+1,2,none⟩ (.slice e2 n2 k2)=W2) :
  Rc1 w s v1 v2 vq qs (p,q) i x g (.int .i64 (i:Int)) (.pointer (some ⟨b11,0,none⟩)) (.pointer (some ⟨b12,0,none⟩)) W2:=by
 obtain⟨P1,P2,P3⟩:=RcW.put2 h hz1 hz2 hW1 hW2;have hd:Ext W2 W2:=Ext.refl _;exact⟨b11,b12,rfl,rfl,rfl,z1,z2,Nat.lt_of_lt_of_le (by omega) hd.size,P1.ext hd,(P3 _ _ (by omega) h1).ext hd,(P3 _ _ (by omega) h2).ext hd⟩
theorem rc2_put {w:World} {s:Sp} {v1 v2 vq:Value} {qs:List Rat} {o:Rat×Rat} {W:World} (h:RcW w s v1 v2 vq qs o W) {a a2:Option Addr} {m c m2 c2:Nat} {s1:Bool} {x g r p0:Rat} {b11 b12 b13 i:Nat}
  (hz:IsR W (.agg #[.slice a m c,.bool s1,.slice a2 m2 c2]) r) (z1:w.heap.size+1+1+1≤b11) (z2:b11<b12) (z3:b12<b13) (z4:b13<W.heap.size) (h1:RB W b11 x) (h2:RB W b12 g) (h3:RB W b13 p0) (hv:vq.ownBlock≠some b13) {W1:World}
  (hW1:((W.setCell ⟨b13,0,none⟩ (.slice a m c)).setCell ⟨b13,1,none⟩ (.bool s1)).setCell ⟨b13,2,none⟩ (.slice a2 m2 c2)=W1) :
  Rc2 w s v1 v2 vq qs o i x g r (.int .i64 (i:Int)) (.pointer (some ⟨b11,0,none⟩)) (.pointer (some ⟨b12,0,none⟩)) (.pointer (some ⟨b13,0,none⟩)) W1:=by
 obtain⟨P1,P2,P3,P4⟩:=RcW.box h (by omega) hv h3 hz hW1;exact⟨b13,⟨b11,b12,rfl,rfl,rfl,z1,z2,by omega,P1,P3 _ _ (by omega) h1,P3 _ _ (by omega) h2⟩,rfl,by omega,P2⟩
end Go.Proofs.YteipgejmhfpkaaaGreatDoor.Cop
