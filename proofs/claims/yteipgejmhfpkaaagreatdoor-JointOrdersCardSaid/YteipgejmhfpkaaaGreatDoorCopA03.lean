/- Part 4 of 44: contracts of what the law calls. -/
import Derived.Test.YteipgejmhfpkaaaGreatDoorCopA02
set_option maxRecDepth 1000000
set_option maxHeartbeats 16000000
set_option linter.unusedSimpArgs false
set_option linter.unusedVariables false
namespace Go.Proofs.YteipgejmhfpkaaaGreatDoor.Cop
open Go.RowKit Go.Shelf
theorem qcD (w:World) (p:Addr):w.drew.cell? p=w.cell? p:=rfl
theorem qfD (w:World) (p:Addr):w.drew.frozen? p=w.frozen? p:=rfl
theorem qdZ (w:World):w.drew.heap.size=w.heap.size:=rfl
theorem Ext.lt {a b:World} (h:Ext a b) {n:Nat} (hn:n<a.heap.size):n<b.heap.size:=Nat.lt_of_lt_of_le hn h.size
def NoT (T:TypeId) (w:World) (b:Nat):Prop:=∀cs fr,w.heap[b]?≠some (.cells cs T fr)
theorem NoT.new {T T':TypeId} {w:World} {b:Nat} {cs:Array Value} {fr:Nat×Nat} (hb:b=w.heap.size) (hT:T'≠T):NoT T (w.alloc (.cells cs T' fr)) b:=by
 intro cs' fr' e;rw [qhA _ _ _ hb]at e
 cases e;exact hT rfl
theorem NoT.old {T:TypeId} {w:World} {b:Nat} {o:Obj} (h:NoT T w b) (hb:b≠w.heap.size):NoT T (w.alloc o) b:=by
 intro cs fr e;rw [heap_get,if_neg hb]at e;exact h cs fr e
theorem NoT.ext {T:TypeId} {w w':World} {b:Nat} (h:NoT T w b) (k:Ext w w') (hb:b<w.heap.size):NoT T w' b:=by
 intro cs fr e;rw [k.block hb]at e;exact h cs fr e
theorem NoT.drew {T:TypeId} {w:World} {b:Nat} (h:NoT T w b):NoT T w.drew b:=h
theorem NoT.set {T:TypeId} {w:World} {b:Nat} (h:NoT T w b) (p:Addr) (u:Value):NoT T (w.setCell p u) b:=by
 intro cs fr e
 by_cases hb:b=p.block
 ·subst hb
  simp only [World.setCell,Array.getElem?_modify,if_pos]at e
  cases hw:w.heap[p.block]? with
  | none=>rw [hw]at e;cases e
  | some o =>
   rw [hw]at e
   cases o with
   | cells cs' T' fr' =>
    simp only [Option.map_some,Option.some.injEq,Obj.cells.injEq]at e;obtain⟨_,rfl,_⟩:=e;exact h _ _ hw
   | _=>simp at e
 ·rw [Below.heap_setCell _ _ _ _ hb]at e
  exact h cs fr e
theorem KeepT.setN {T:TypeId} {a b:World} (h:KeepT T a b) {p:Addr} (hp:NoT T b p.block) (u:Value):KeepT T a (b.setCell p u):=fun x cs fr hx=>by
 have h1:=h x cs fr hx;rw [Below.heap_setCell _ _ _ _ (by rintro rfl;exact hp _ _ h1)];exact h1
theorem NoT.ext2 {T:TypeId} {w w':World} {b:Nat} (hb:b<w.heap.size) (k:Ext w w') (h:NoT T w b):NoT T w' b:=h.ext k hb
theorem NoT.old2 {T:TypeId} {w:World} {b:Nat} {o:Obj} (hb:b≠w.heap.size) (h:NoT T w b):NoT T (w.alloc o) b:=h.old hb
theorem KeepT.setN2 {T:TypeId} {a b:World} {p:Addr} (hp:NoT T b p.block) (h:KeepT T a b) (u:Value):KeepT T a (b.setCell p u):=h.setN hp u
theorem nA {T:TypeId} {w:World} {b:Nat} (h:NoT T w b:=by(repeat(first|with_reducible assumption|with_reducible refine NoT.set ?_ _ _|with_reducible refine NoT.drew ?_|with_reducible refine NoT.drewN ?_ _|(refine NoT.new ?_ ?_;(focus(first|omega|((try dsimp only);(try simp only [wZ,qdZ,qcZ]);(try omega);done)));(focus decide))|(refine NoT.old2 ?_ ?_;(focus(first|omega|((try dsimp only);(try simp only [wZ,qdZ,qcZ]);(try omega);done))))|(refine NoT.ext2 ?_ (by with_reducible assumption) ?_;(focus(first|omega|((try dsimp only);(try simp only [wZ,qdZ,qcZ]);(try omega);done))))))):NoT T w b:=h
theorem kA {T:TypeId} {w w1:World} (h:KeepT T w w1:=by repeat(first|with_reducible exact KeepT.refl _ _|(refine Ext.keep ?_;(focus((with_reducible repeat(first|assumption|exact eR _|refine eX ?_|refine eT ?_|refine eS ?_));done)))|with_reducible refine KeepT.alloc ?_ _|(with_reducible refine KeepT.setN2 ?_ ?_ _;(focus(((repeat(first|with_reducible assumption|with_reducible refine NoT.set ?_ _ _|with_reducible refine NoT.drew ?_|with_reducible refine NoT.drewN ?_ _|(refine NoT.new ?_ ?_;(focus(first|omega|((try dsimp only);(try simp only [wZ,qdZ,qcZ]);(try omega);done)));(focus decide))|(refine NoT.old2 ?_ ?_;(focus(first|omega|((try dsimp only);(try simp only [wZ,qdZ,qcZ]);(try omega);done))))|(refine NoT.ext2 ?_ (by with_reducible assumption) ?_;(focus(first|omega|((try dsimp only);(try simp only [wZ,qdZ,qcZ]);(try omega);done)))))));done))))):KeepT T w w1:=h
def IsZ (w:World) (v:Value) (n:Int):Prop:=∃a m c s,v = .agg #[.slice a m c,.bool s]∧s=decide (n<0)∧IsD w (.agg #[.slice a m c]) (n.natAbs:Int)
theorem IsZ.ext {w w':World} {v:Value} {n:Int} (h:IsZ w v n) (k:Ext w w'):IsZ w' v n:=by
 obtain⟨a,m,c,s,rfl,h1,h2⟩:=h;exact⟨a,m,c,s,rfl,h1,h2.ext k⟩
theorem IsZ.keep {w w':World} {v:Value} {n:Int} (h:IsZ w v n) (k:KeepT 2 w w'):IsZ w' v n:=by
 obtain⟨a,m,c,s,rfl,h1,h2⟩:=h;exact⟨a,m,c,s,rfl,h1,h2.keep k⟩
theorem IsZ.form {w:World} {v:Value} {n:Int} (h:IsZ w v n):∃a m c s,v = .agg #[.slice a m c,.bool s]:=by
 obtain⟨a,m,c,s,rfl,h1,h2⟩:=h;exact⟨a,m,c,s,rfl⟩
theorem IsZ.sgn {w:World} {a:Option Addr} {m c:Nat} {s:Bool} {n:Int} (h:IsZ w (.agg #[.slice a m c,.bool s]) n):s=decide (n<0):=by
 obtain⟨a,m,c,s,e,h1,h2⟩:=h;cases e;exact h1
theorem IsZ.dig {w:World} {a:Option Addr} {m c:Nat} {s:Bool} {n:Int} (h:IsZ w (.agg #[.slice a m c,.bool s]) n):IsD w (.agg #[.slice a m c]) (n.natAbs:Int):=by
 obtain⟨a,m,c,s,e,h1,h2⟩:=h;cases e;exact h2
theorem Lm.abs {k:Nat} {n:Int} (h:Lm k n):Lm k (n.natAbs:Int):=by unfold Lm at *;omega
theorem Lm.neg {k:Nat} {n:Int} (h:Lm k n):Lm k (-n):=by unfold Lm at *;omega
def sg (s:Bool) (n:Int):Int:=if s then -n else n
theorem IsZ.mk {w:World} {a:Option Addr} {m c:Nat} {n:Int} (mn:Bool) (h:IsD w (.agg #[.slice a m c]) n):IsZ w (.agg #[.slice a m c,.bool (mn&&!(n==0))]) (sg mn n):=by
 have h0:=h.nonneg;refine⟨a,m,c,_,rfl,?_,?_⟩
 ·rw [Bool.eq_iff_iff];cases mn<;>simp [sg]<;>omega
 ·have:((sg mn n).natAbs:Int)=n:=by cases mn<;>simp [sg]<;>omega
  rw [this];exact h
theorem IsZ.nil (w:World):IsZ w (.agg #[.slice none 0 0,.bool false]) 0:=⟨_,_,_,_,rfl,rfl,_,[],rfl,Ints.nil _ _,Can.nil _,rfl⟩
def RetZ (w:World) (n:Int) (e:Ending) (w':World):Prop:=∃r,e = .returned r∧IsZ w' r n∧Ext w w'
theorem made_any (w:World) (mn:Bool) (v:Value) (n:Int) (h:IsD w v n) :
  Calls Tryz.prog 183 #[.bool mn,v] w (RetZ w (sg mn n)):=by
 obtain⟨a,m,c,rfl⟩:=h.form
 cases mn
 ·go_enter Tryz.func183,Tryz.ntmps183
  go_wp2
  go_region_with (fail)
  all_goals go_wp2
  all_goals exact bodyPost_ret (v:=.agg #[.slice a m c,.bool (false&&!(n==0))]) (by simp [results,Tryz.results183,go_sem]) rfl ⟨_,rfl,IsZ.mk false (h.ext eA),eA⟩
 ·go_enter Tryz.func183,Tryz.ntmps183
  go_wp2
  go_region_held3 (fun W=>W.cell? ⟨w.heap.size,0,none⟩=some (.slice a m c)) ((repeat' (with_reducible refine And.intro ?_ ?_))<;>(first|(go_simp;done)|(refine hx1.cellS ?_;go_simp;done))) ((go_at_call 182;(with_reducible refine(none_any _ (.agg #[.slice a m c]) n ?_).mono ?_);(refine h.ext ?_;exact eA);rintro e w1 ⟨rfl,hx1⟩;obtain⟨hc1,hf1⟩:=hx1.cells))
  all_goals go_wp2
  exact bodyPost_ret (v:=.agg #[.slice a m c,.bool (true&&!(n==0))]) (by simp [results,Tryz.results183,go_sem,hc1]) rfl ⟨_,rfl,IsZ.mk true (h.ext eA),eA⟩
theorem sg_neg {n:Int} {s:Bool} (h:s=decide (n<0)):sg (!s) (n.natAbs:Int) = -n:=by
 subst h;by_cases h:n<0<;>simp [sg,h]<;>omega
theorem zneg_any (w:World) (v:Value) (n:Int) (h:IsZ w v n):Calls Tryz.prog 192 #[v] w (RetZ w (-n)):=by
 obtain⟨a,m,c,s,rfl⟩:=h.form;go_enter Tryz.func192,Tryz.ntmps192
 go_wp2_with((go_at_call 183;(with_reducible refine(made_any _ (!s) (.agg #[.slice a m c]) n.natAbs ?_).mono ?_);(refine h.dig.ext ?_;exact eA);rintro e w1 ⟨r1,rfl,hr1,hx1⟩;obtain⟨a1,m1,c1,s1,rfl⟩:=hr1.form;obtain⟨hc1,hf1⟩:=hx1.cells))
 refine bodyPost_ret (v:=.agg #[.slice a1 m1 c1,.bool s1]) (by simp [results,Tryz.results192,go_sem,hc1]) rfl ⟨_,rfl,?_,eA⟩;rw [←sg_neg h.sgn];exact hr1.keep kA
theorem zsign_any (w:World) (v:Value) (n:Int) (h:IsZ w v n):Calls Tryz.prog 141 #[v] w fun e w'=>e = .returned (.int .i64 n.sign)∧Ext w w':=by
 obtain⟨a,m,c,s,rfl⟩:=h.form;have hs:=h.sgn;have hd:=h.dig
 have casefalsetrue:n=0→Calls Tryz.prog 141 #[.agg #[.slice a m c,.bool s]] w fun e w'=>e = .returned (.int .i64 n.sign)∧Ext w w':=by
  intro hn;have hz:((n.natAbs:Int)==0)=true:=by simp;omega
  obtain rfl:s=false:=by rw [hs];simp;omega
  have e:n.sign=0:=by first|(subst hn;rfl)|exact Int.sign_eq_neg_one_of_neg hn|exact Int.sign_eq_one_of_pos hn
  rw [e];clear e hn hs;go_enter Tryz.func141,Tryz.ntmps141
  go_wp2_with((go_at_call 182;(with_reducible refine(none_any _ (.agg #[.slice a m c]) n.natAbs ?_).mono ?_);(refine hd.ext ?_;exact eA);rintro e w1 ⟨rfl,hx1⟩;obtain⟨hc1,hf1⟩:=hx1.cells))
  go_ret;exact⟨rfl,eA⟩
 have casetruefalse:n<0→Calls Tryz.prog 141 #[.agg #[.slice a m c,.bool s]] w fun e w'=>e = .returned (.int .i64 n.sign)∧Ext w w':=by
  intro hn;have hz:((n.natAbs:Int)==0)=false:=by simp;omega
  obtain rfl:s=true:=by rw [hs];simp;omega
  have e:n.sign = -1:=by first|(subst hn;rfl)|exact Int.sign_eq_neg_one_of_neg hn|exact Int.sign_eq_one_of_pos hn
  rw [e];clear e hn hs;go_enter Tryz.func141,Tryz.ntmps141
  go_wp2_with((go_at_call 182;(with_reducible refine(none_any _ (.agg #[.slice a m c]) n.natAbs ?_).mono ?_);(refine hd.ext ?_;exact eA);rintro e w1 ⟨rfl,hx1⟩;obtain⟨hc1,hf1⟩:=hx1.cells))
  go_ret;exact⟨rfl,eA⟩
 have casefalsefalse:0<n→Calls Tryz.prog 141 #[.agg #[.slice a m c,.bool s]] w fun e w'=>e = .returned (.int .i64 n.sign)∧Ext w w':=by
  intro hn;have hz:((n.natAbs:Int)==0)=false:=by simp;omega
  obtain rfl:s=false:=by rw [hs];simp;omega
  have e:n.sign=1:=by first|(subst hn;rfl)|exact Int.sign_eq_neg_one_of_neg hn|exact Int.sign_eq_one_of_pos hn
  rw [e];clear e hn hs;go_enter Tryz.func141,Tryz.ntmps141
  go_wp2_with((go_at_call 182;(with_reducible refine(none_any _ (.agg #[.slice a m c]) n.natAbs ?_).mono ?_);(refine hd.ext ?_;exact eA);rintro e w1 ⟨rfl,hx1⟩;obtain⟨hc1,hf1⟩:=hx1.cells))
  go_ret;exact⟨rfl,eA⟩
 rcases Int.lt_trichotomy n 0 with hn|hn|hn
 ·exact casetruefalse hn
 ·exact casefalsetrue hn
 ·exact casefalsefalse hn
theorem zint_w (n:Int) (h0 : -9223372036854775808≤n) (hn:n<0):IntKind.u64.wrap (-(IntKind.u64.wrap n)) = -n:=by
 simp [IntKind.wrap,IntKind.signed,IntKind.bits];omega
theorem zint_w2 (n:Int) (h0:n≤9223372036854775807) (hn:0≤n):IntKind.u64.wrap n=n:=by
 simp [IntKind.wrap,IntKind.signed,IntKind.bits];omega
theorem zint_any (w:World) (n:Int) (h0 : -9223372036854775808≤n) (h1:n≤9223372036854775807):Calls Tryz.prog 189 #[.int .i64 n] w (RetZ w n):=by
 by_cases hn:n<0
 ·have hw:=zint_w n h0 hn
  go_enter Tryz.func189,Tryz.ntmps189
  go_wp2_with(first|(go_at_call 186;(with_reducible refine(word_any _ (-n) (by omega) (by omega)).mono ?_);rintro e w1 ⟨r1,rfl,hr1,hx1⟩;obtain⟨a1,m1,c1,rfl⟩:=hr1.isD.form;obtain⟨hc1,hf1⟩:=hx1.cells;(try simp only [qcD,qfD,qdZ]at hc1 hf1);have z1_0:=hx1.lt (n:=w.heap.size) (by go_simp))|(go_at_call 183;(with_reducible refine(made_any _ true (.agg #[.slice a1 m1 c1]) (-n) hr1.isD).mono ?_);rintro e w2 ⟨r2,rfl,hr2,hx2⟩;obtain⟨a2,m2,c2,s2,rfl⟩:=hr2.form;obtain⟨hc2,hf2⟩:=hx2.cells;(try simp only [qcD,qfD,qdZ]at hc2 hf2);have z2_0:=hx2.lt (n:=w.heap.size) (by go_simp)))
  refine bodyPost_ret (v:=.agg #[.slice a2 m2 c2,.bool s2]) (by simp [results,Tryz.results189,go_sem,hc1,hc2,z1_0,z2_0]) rfl ⟨_,rfl,?_,eA⟩;have e:n=sg true (-n):=by simp [sg]
  rw [e];exact hr2.keep kA
 ·have hw:=zint_w2 n h1 (by omega)
  go_enter Tryz.func189,Tryz.ntmps189
  go_wp2_with(first|(go_at_call 186;(with_reducible refine(word_any _ n (by omega) (by omega)).mono ?_);rintro e w1 ⟨r1,rfl,hr1,hx1⟩;obtain⟨a1,m1,c1,rfl⟩:=hr1.isD.form;obtain⟨hc1,hf1⟩:=hx1.cells;(try simp only [qcD,qfD,qdZ]at hc1 hf1);have z1_0:=hx1.lt (n:=w.heap.size) (by go_simp))|(go_at_call 183;(with_reducible refine(made_any _ false (.agg #[.slice a1 m1 c1]) n hr1.isD).mono ?_);rintro e w2 ⟨r2,rfl,hr2,hx2⟩;obtain⟨a2,m2,c2,s2,rfl⟩:=hr2.form;obtain⟨hc2,hf2⟩:=hx2.cells;(try simp only [qcD,qfD,qdZ]at hc2 hf2);have z2_0:=hx2.lt (n:=w.heap.size) (by go_simp)))
  exact bodyPost_ret (v:=.agg #[.slice a2 m2 c2,.bool s2]) (by simp [results,Tryz.results189,go_sem,hc1,hc2,z1_0,z2_0]) rfl ⟨_,rfl,hr2.keep kA,eA⟩
theorem add_same {x y:Int} {s:Bool} (hx:s=decide (x<0)) (hy:s=decide (y<0)):sg s ((x.natAbs:Int)+1*(y.natAbs:Int))=x+y:=by
 cases s<;>simp [sg]at *<;>omega
theorem add_less {x y:Int} {s:Bool} (hx:(!s)=decide (x<0)) (hy:s=decide (y<0)) (h:(x.natAbs:Int)<y.natAbs):sg s ((y.natAbs:Int) + -1*(x.natAbs:Int))=x+y:=by
 cases s<;>simp [sg]at *<;>omega
theorem add_more {x y:Int} {s:Bool} (hx:s=decide (x<0)) (hy:(!s)=decide (y<0)) (h:¬(x.natAbs:Int)<y.natAbs):sg s ((x.natAbs:Int) + -1*(y.natAbs:Int))=x+y:=by
 cases s<;>simp [sg]at *<;>omega
theorem zadd_any (w:World) (va vb:Value) (x y:Int) (ha:IsZ w va x) (hb:IsZ w vb y) (hla:Lm lim x) (hlb:Lm lim y) :
  Calls Tryz.prog 152 #[va,vb] w (RetZ w (x+y)):=by
 obtain⟨a,m,c,s,rfl⟩:=ha.form;obtain⟨a',m',c',s',rfl⟩:=hb.form;have Hsa:=hd9 ha.sgn;have Hsb:=hd9 hb.sgn;have hda:=ha.dig;have hdb:=hb.dig;have HLa:=hd9 hla.abs;have HLb:=hd9 hlb.abs;clear hla hlb ha hb
 have sametrue:s=true→s'=true→Calls Tryz.prog 152 #[.agg #[.slice a m c,.bool s],.agg #[.slice a' m' c',.bool s']] w (RetZ w (x+y)):=by
  intro h1 h2;subst h1 h2;go_enter Tryz.func152,Tryz.ntmps152;go_wp2
  go_region_held3 (fun W=>W.cell? ⟨w.heap.size,0,none⟩=some (.slice a m c)∧W.cell? ⟨w.heap.size,1,none⟩=some (.bool true)∧W.cell? ⟨w.heap.size+1,0,none⟩=some (.slice a' m' c')) ((repeat' (with_reducible refine And.intro ?_ ?_))<;>(first|(go_simp;done)|(refine hx1.cellS ?_;go_simp;done))) (first|((go_at_call 185;(with_reducible refine(plus_any _ (.agg #[.slice a m c]) (.agg #[.slice a' m' c']) x.natAbs y.natAbs 1 ?_ ?_ HLa.out HLb.out (by omega) (by omega)).mono ?_);(refine hda.ext ?_;exact eA);(refine hdb.ext ?_;exact eA);rintro e w1 ⟨r1,rfl,hr1,hx1⟩;obtain⟨a1,m1,c1,rfl⟩:=hr1.isD.form;obtain⟨hc1,hf1⟩:=hx1.cells;(try simp only [qcD,qfD,qdZ]at hc1 hf1);have z1_0:=hx1.lt (n:=w.heap.size) (by go_simp);have z1_1:=hx1.lt (n:=w.heap.size+1) (by go_simp);have z1_2:=hx1.lt (n:=w.heap.size+1+1) (by go_simp)))|((go_at_call 183;(with_reducible refine(made_any _ true (.agg #[.slice a1 m1 c1]) ((x.natAbs:Int)+1*(y.natAbs:Int)) ?_).mono ?_);(refine hr1.isD.ext ?_;exact eA);rintro e w2 ⟨r2,rfl,hr2,hx2⟩;obtain⟨a2,m2,c2,s2,rfl⟩:=hr2.form;obtain⟨hc2,hf2⟩:=hx2.cells;(try simp only [qcD,qfD,qdZ]at hc2 hf2);have z2_0:=hx2.lt (n:=w.heap.size) (by go_simp);have z2_1:=hx2.lt (n:=w.heap.size+1) (by go_simp);have z2_2:=hx2.lt (n:=w.heap.size+1+1) (by go_simp))))
  all_goals go_wp2
  refine bodyPost_ret (v:=.agg #[.slice a2 m2 c2,.bool s2]) (by simp [results,Tryz.results152,go_sem,hc1,hc2,z1_2,z2_2]) rfl ⟨_,rfl,?_,eA⟩;rw [←add_same Hsa.out Hsb.out];exact hr2.keep kA
 have samefalse:s=false→s'=false→Calls Tryz.prog 152 #[.agg #[.slice a m c,.bool s],.agg #[.slice a' m' c',.bool s']] w (RetZ w (x+y)):=by
  intro h1 h2;subst h1 h2;go_enter Tryz.func152,Tryz.ntmps152;go_wp2
  go_region_held3 (fun W=>W.cell? ⟨w.heap.size,0,none⟩=some (.slice a m c)∧W.cell? ⟨w.heap.size,1,none⟩=some (.bool false)∧W.cell? ⟨w.heap.size+1,0,none⟩=some (.slice a' m' c')) ((repeat' (with_reducible refine And.intro ?_ ?_))<;>(first|(go_simp;done)|(refine hx1.cellS ?_;go_simp;done))) (first|((go_at_call 185;(with_reducible refine(plus_any _ (.agg #[.slice a m c]) (.agg #[.slice a' m' c']) x.natAbs y.natAbs 1 ?_ ?_ HLa.out HLb.out (by omega) (by omega)).mono ?_);(refine hda.ext ?_;exact eA);(refine hdb.ext ?_;exact eA);rintro e w1 ⟨r1,rfl,hr1,hx1⟩;obtain⟨a1,m1,c1,rfl⟩:=hr1.isD.form;obtain⟨hc1,hf1⟩:=hx1.cells;(try simp only [qcD,qfD,qdZ]at hc1 hf1);have z1_0:=hx1.lt (n:=w.heap.size) (by go_simp);have z1_1:=hx1.lt (n:=w.heap.size+1) (by go_simp);have z1_2:=hx1.lt (n:=w.heap.size+1+1) (by go_simp)))|((go_at_call 183;(with_reducible refine(made_any _ false (.agg #[.slice a1 m1 c1]) ((x.natAbs:Int)+1*(y.natAbs:Int)) ?_).mono ?_);(refine hr1.isD.ext ?_;exact eA);rintro e w2 ⟨r2,rfl,hr2,hx2⟩;obtain⟨a2,m2,c2,s2,rfl⟩:=hr2.form;obtain⟨hc2,hf2⟩:=hx2.cells;(try simp only [qcD,qfD,qdZ]at hc2 hf2);have z2_0:=hx2.lt (n:=w.heap.size) (by go_simp);have z2_1:=hx2.lt (n:=w.heap.size+1) (by go_simp);have z2_2:=hx2.lt (n:=w.heap.size+1+1) (by go_simp))))
  all_goals go_wp2
  refine bodyPost_ret (v:=.agg #[.slice a2 m2 c2,.bool s2]) (by simp [results,Tryz.results152,go_sem,hc1,hc2,z1_2,z2_2]) rfl ⟨_,rfl,?_,eA⟩;rw [←add_same Hsa.out Hsb.out];exact hr2.keep kA
 have difftrue:s=true→s'=false→Calls Tryz.prog 152 #[.agg #[.slice a m c,.bool s],.agg #[.slice a' m' c',.bool s']] w (RetZ w (x+y)):=by
  intro h1 h2;subst h1 h2
  by_cases hlt:(x.natAbs:Int)<y.natAbs
  ·have hcmp:=cmp3_neg hlt
   go_enter Tryz.func152,Tryz.ntmps152
   go_wp2_with((go_at_call 197;(with_reducible refine(size_any _ (.agg #[.slice a m c]) (.agg #[.slice a' m' c']) x.natAbs y.natAbs ?_ ?_).mono ?_);(refine hda.ext ?_;exact eA);(refine hdb.ext ?_;exact eA);rintro e w0 ⟨rfl,hx0⟩;obtain⟨hc0,hf0⟩:=hx0.cells;(try simp only [qcD,qfD,qdZ]at hc0 hf0);have z0_0:=hx0.lt (n:=w.heap.size) (by go_simp);have z0_1:=hx0.lt (n:=w.heap.size+1) (by go_simp);have z0_2:=hx0.lt (n:=w.heap.size+1+1) (by go_simp)))
   go_region_held3 (fun W=>W.cell? ⟨w.heap.size,0,none⟩=some (.slice a m c)∧W.cell? ⟨w.heap.size+1,1,none⟩=some (.bool false)∧W.cell? ⟨w.heap.size+1,0,none⟩=some (.slice a' m' c')) ((repeat' (with_reducible refine And.intro ?_ ?_))<;>(first|(go_simp;done)|(refine hx1.cellS ?_;go_simp;done))) (first|((go_at_call 185;(with_reducible refine(plus_any _ (.agg #[.slice a' m' c']) (.agg #[.slice a m c]) y.natAbs x.natAbs (-1) ?_ ?_ HLb.out HLa.out (by omega) (by omega)).mono ?_);(refine hdb.ext ?_;exact eA);(refine hda.ext ?_;exact eA);rintro e w1 ⟨r1,rfl,hr1,hx1⟩;obtain⟨a1,m1,c1,rfl⟩:=hr1.isD.form;obtain⟨hc1,hf1⟩:=hx1.cells;(try simp only [qcD,qfD,qdZ]at hc1 hf1);have z1_0:=hx1.lt (n:=w.heap.size) (by go_simp);have z1_1:=hx1.lt (n:=w.heap.size+1) (by go_simp);have z1_2:=hx1.lt (n:=w.heap.size+1+1) (by go_simp)))|((go_at_call 183;(with_reducible refine(made_any _ false (.agg #[.slice a1 m1 c1]) ((y.natAbs:Int) + -1*(x.natAbs:Int)) ?_).mono ?_);(refine hr1.isD.ext ?_;exact eA);rintro e w2 ⟨r2,rfl,hr2,hx2⟩;obtain⟨a2,m2,c2,s2,rfl⟩:=hr2.form;obtain⟨hc2,hf2⟩:=hx2.cells;(try simp only [qcD,qfD,qdZ]at hc2 hf2);have z2_0:=hx2.lt (n:=w.heap.size) (by go_simp);have z2_1:=hx2.lt (n:=w.heap.size+1) (by go_simp);have z2_2:=hx2.lt (n:=w.heap.size+1+1) (by go_simp))))
   all_goals go_wp2
   refine bodyPost_ret (v:=.agg #[.slice a2 m2 c2,.bool s2]) (by simp [results,Tryz.results152,go_sem,hc0,hc1,hc2,z0_2,z1_2,z2_2]) rfl ⟨_,rfl,?_,eA⟩;rw [←add_less (s:=false) Hsa.out Hsb.out (by omega)];exact hr2.keep kA
  ·have hcmp:=cmp3_nneg hlt
   go_enter Tryz.func152,Tryz.ntmps152
   go_wp2_with((go_at_call 197;(with_reducible refine(size_any _ (.agg #[.slice a m c]) (.agg #[.slice a' m' c']) x.natAbs y.natAbs ?_ ?_).mono ?_);(refine hda.ext ?_;exact eA);(refine hdb.ext ?_;exact eA);rintro e w0 ⟨rfl,hx0⟩;obtain⟨hc0,hf0⟩:=hx0.cells;(try simp only [qcD,qfD,qdZ]at hc0 hf0);have z0_0:=hx0.lt (n:=w.heap.size) (by go_simp);have z0_1:=hx0.lt (n:=w.heap.size+1) (by go_simp);have z0_2:=hx0.lt (n:=w.heap.size+1+1) (by go_simp)))
   go_region_held3 (fun W=>W.cell? ⟨w.heap.size,0,none⟩=some (.slice a m c)∧W.cell? ⟨w.heap.size,1,none⟩=some (.bool true)∧W.cell? ⟨w.heap.size+1,0,none⟩=some (.slice a' m' c')) ((repeat' (with_reducible refine And.intro ?_ ?_))<;>(first|(go_simp;done)|(refine hx1.cellS ?_;go_simp;done))) (first|((go_at_call 185;(with_reducible refine(plus_any _ (.agg #[.slice a m c]) (.agg #[.slice a' m' c']) x.natAbs y.natAbs (-1) ?_ ?_ HLa.out HLb.out (by omega) (by omega)).mono ?_);(refine hda.ext ?_;exact eA);(refine hdb.ext ?_;exact eA);rintro e w1 ⟨r1,rfl,hr1,hx1⟩;obtain⟨a1,m1,c1,rfl⟩:=hr1.isD.form;obtain⟨hc1,hf1⟩:=hx1.cells;(try simp only [qcD,qfD,qdZ]at hc1 hf1);have z1_0:=hx1.lt (n:=w.heap.size) (by go_simp);have z1_1:=hx1.lt (n:=w.heap.size+1) (by go_simp);have z1_2:=hx1.lt (n:=w.heap.size+1+1) (by go_simp)))|((go_at_call 183;(with_reducible refine(made_any _ true (.agg #[.slice a1 m1 c1]) ((x.natAbs:Int) + -1*(y.natAbs:Int)) ?_).mono ?_);(refine hr1.isD.ext ?_;exact eA);rintro e w2 ⟨r2,rfl,hr2,hx2⟩;obtain⟨a2,m2,c2,s2,rfl⟩:=hr2.form;obtain⟨hc2,hf2⟩:=hx2.cells;(try simp only [qcD,qfD,qdZ]at hc2 hf2);have z2_0:=hx2.lt (n:=w.heap.size) (by go_simp);have z2_1:=hx2.lt (n:=w.heap.size+1) (by go_simp);have z2_2:=hx2.lt (n:=w.heap.size+1+1) (by go_simp))))
   all_goals go_wp2
   refine bodyPost_ret (v:=.agg #[.slice a2 m2 c2,.bool s2]) (by simp [results,Tryz.results152,go_sem,hc0,hc1,hc2,z0_2,z1_2,z2_2]) rfl ⟨_,rfl,?_,eA⟩;rw [←add_more (s:=true) Hsa.out Hsb.out (by omega)];exact hr2.keep kA
 have difffalse:s=false→s'=true→Calls Tryz.prog 152 #[.agg #[.slice a m c,.bool s],.agg #[.slice a' m' c',.bool s']] w (RetZ w (x+y)):=by
  intro h1 h2;subst h1 h2
  by_cases hlt:(x.natAbs:Int)<y.natAbs
  ·have hcmp:=cmp3_neg hlt
   go_enter Tryz.func152,Tryz.ntmps152
   go_wp2_with((go_at_call 197;(with_reducible refine(size_any _ (.agg #[.slice a m c]) (.agg #[.slice a' m' c']) x.natAbs y.natAbs ?_ ?_).mono ?_);(refine hda.ext ?_;exact eA);(refine hdb.ext ?_;exact eA);rintro e w0 ⟨rfl,hx0⟩;obtain⟨hc0,hf0⟩:=hx0.cells;(try simp only [qcD,qfD,qdZ]at hc0 hf0);have z0_0:=hx0.lt (n:=w.heap.size) (by go_simp);have z0_1:=hx0.lt (n:=w.heap.size+1) (by go_simp);have z0_2:=hx0.lt (n:=w.heap.size+1+1) (by go_simp)))
   go_region_held3 (fun W=>W.cell? ⟨w.heap.size,0,none⟩=some (.slice a m c)∧W.cell? ⟨w.heap.size+1,1,none⟩=some (.bool true)∧W.cell? ⟨w.heap.size+1,0,none⟩=some (.slice a' m' c')) ((repeat' (with_reducible refine And.intro ?_ ?_))<;>(first|(go_simp;done)|(refine hx1.cellS ?_;go_simp;done))) (first|((go_at_call 185;(with_reducible refine(plus_any _ (.agg #[.slice a' m' c']) (.agg #[.slice a m c]) y.natAbs x.natAbs (-1) ?_ ?_ HLb.out HLa.out (by omega) (by omega)).mono ?_);(refine hdb.ext ?_;exact eA);(refine hda.ext ?_;exact eA);rintro e w1 ⟨r1,rfl,hr1,hx1⟩;obtain⟨a1,m1,c1,rfl⟩:=hr1.isD.form;obtain⟨hc1,hf1⟩:=hx1.cells;(try simp only [qcD,qfD,qdZ]at hc1 hf1);have z1_0:=hx1.lt (n:=w.heap.size) (by go_simp);have z1_1:=hx1.lt (n:=w.heap.size+1) (by go_simp);have z1_2:=hx1.lt (n:=w.heap.size+1+1) (by go_simp)))|((go_at_call 183;(with_reducible refine(made_any _ true (.agg #[.slice a1 m1 c1]) ((y.natAbs:Int) + -1*(x.natAbs:Int)) ?_).mono ?_);(refine hr1.isD.ext ?_;exact eA);rintro e w2 ⟨r2,rfl,hr2,hx2⟩;obtain⟨a2,m2,c2,s2,rfl⟩:=hr2.form;obtain⟨hc2,hf2⟩:=hx2.cells;(try simp only [qcD,qfD,qdZ]at hc2 hf2);have z2_0:=hx2.lt (n:=w.heap.size) (by go_simp);have z2_1:=hx2.lt (n:=w.heap.size+1) (by go_simp);have z2_2:=hx2.lt (n:=w.heap.size+1+1) (by go_simp))))
   all_goals go_wp2
   refine bodyPost_ret (v:=.agg #[.slice a2 m2 c2,.bool s2]) (by simp [results,Tryz.results152,go_sem,hc0,hc1,hc2,z0_2,z1_2,z2_2]) rfl ⟨_,rfl,?_,eA⟩;rw [←add_less (s:=true) Hsa.out Hsb.out (by omega)];exact hr2.keep kA
  ·have hcmp:=cmp3_nneg hlt
   go_enter Tryz.func152,Tryz.ntmps152
   go_wp2_with((go_at_call 197;(with_reducible refine(size_any _ (.agg #[.slice a m c]) (.agg #[.slice a' m' c']) x.natAbs y.natAbs ?_ ?_).mono ?_);(refine hda.ext ?_;exact eA);(refine hdb.ext ?_;exact eA);rintro e w0 ⟨rfl,hx0⟩;obtain⟨hc0,hf0⟩:=hx0.cells;(try simp only [qcD,qfD,qdZ]at hc0 hf0);have z0_0:=hx0.lt (n:=w.heap.size) (by go_simp);have z0_1:=hx0.lt (n:=w.heap.size+1) (by go_simp);have z0_2:=hx0.lt (n:=w.heap.size+1+1) (by go_simp)))
   go_region_held3 (fun W=>W.cell? ⟨w.heap.size,0,none⟩=some (.slice a m c)∧W.cell? ⟨w.heap.size,1,none⟩=some (.bool false)∧W.cell? ⟨w.heap.size+1,0,none⟩=some (.slice a' m' c')) ((repeat' (with_reducible refine And.intro ?_ ?_))<;>(first|(go_simp;done)|(refine hx1.cellS ?_;go_simp;done))) (first|((go_at_call 185;(with_reducible refine(plus_any _ (.agg #[.slice a m c]) (.agg #[.slice a' m' c']) x.natAbs y.natAbs (-1) ?_ ?_ HLa.out HLb.out (by omega) (by omega)).mono ?_);(refine hda.ext ?_;exact eA);(refine hdb.ext ?_;exact eA);rintro e w1 ⟨r1,rfl,hr1,hx1⟩;obtain⟨a1,m1,c1,rfl⟩:=hr1.isD.form;obtain⟨hc1,hf1⟩:=hx1.cells;(try simp only [qcD,qfD,qdZ]at hc1 hf1);have z1_0:=hx1.lt (n:=w.heap.size) (by go_simp);have z1_1:=hx1.lt (n:=w.heap.size+1) (by go_simp);have z1_2:=hx1.lt (n:=w.heap.size+1+1) (by go_simp)))|((go_at_call 183;(with_reducible refine(made_any _ false (.agg #[.slice a1 m1 c1]) ((x.natAbs:Int) + -1*(y.natAbs:Int)) ?_).mono ?_);(refine hr1.isD.ext ?_;exact eA);rintro e w2 ⟨r2,rfl,hr2,hx2⟩;obtain⟨a2,m2,c2,s2,rfl⟩:=hr2.form;obtain⟨hc2,hf2⟩:=hx2.cells;(try simp only [qcD,qfD,qdZ]at hc2 hf2);have z2_0:=hx2.lt (n:=w.heap.size) (by go_simp);have z2_1:=hx2.lt (n:=w.heap.size+1) (by go_simp);have z2_2:=hx2.lt (n:=w.heap.size+1+1) (by go_simp))))
   all_goals go_wp2
   refine bodyPost_ret (v:=.agg #[.slice a2 m2 c2,.bool s2]) (by simp [results,Tryz.results152,go_sem,hc0,hc1,hc2,z0_2,z1_2,z2_2]) rfl ⟨_,rfl,?_,eA⟩;rw [←add_more (s:=false) Hsa.out Hsb.out (by omega)];exact hr2.keep kA
 cases s<;>cases s'
 ·exact samefalse rfl rfl
 ·exact difffalse rfl rfl
 ·exact difftrue rfl rfl
 ·exact sametrue rfl rfl
theorem zsub_any (w:World) (va vb:Value) (x y:Int) (ha:IsZ w va x) (hb:IsZ w vb y) (hla:Lm lim x) (hlb:Lm lim y) :
  Calls Tryz.prog 187 #[va,vb] w (RetZ w (x-y)):=by
 obtain⟨a,m,c,s,rfl⟩:=ha.form;obtain⟨a',m',c',s',rfl⟩:=hb.form;have HLa:=hd9 hla;have HLb:=hd9 hlb.neg;clear hla hlb;go_enter Tryz.func187,Tryz.ntmps187;go_wp2
 go_region_held3 (fun W=>W.cell? ⟨w.heap.size,0,none⟩=some (.slice a m c)∧W.cell? ⟨w.heap.size,1,none⟩=some (.bool s)∧W.cell? ⟨w.heap.size+1,0,none⟩=some (.slice a' m' c')∧W.cell? ⟨w.heap.size+1,1,none⟩=some (.bool s')) ((repeat' (with_reducible refine And.intro ?_ ?_))<;>(first|(go_simp;done)|(refine hx1.cellS ?_;go_simp;done))) (first|((go_at_call 192;(with_reducible refine(zneg_any _ (.agg #[.slice a' m' c',.bool s']) y ?_).mono ?_);(refine hb.ext ?_;exact eA);rintro e w1 ⟨r1,rfl,hr1,hx1⟩;obtain⟨a1,m1,c1,s1,rfl⟩:=hr1.form;obtain⟨hc1,hf1⟩:=hx1.cells;(try simp only [qcD,qfD,qdZ]at hc1 hf1);have z1_0:=hx1.lt (n:=w.heap.size) (by go_simp);have z1_1:=hx1.lt (n:=w.heap.size+1) (by go_simp);have z1_2:=hx1.lt (n:=w.heap.size+1+1) (by go_simp)))|((go_at_call 152;(with_reducible refine(zadd_any _ (.agg #[.slice a m c,.bool s]) (.agg #[.slice a1 m1 c1,.bool s1]) x (-y) ?_ ?_ HLa.out HLb.out).mono ?_);(refine ha.ext ?_;exact eA);(refine hr1.ext ?_;exact eA);rintro e w2 ⟨r2,rfl,hr2,hx2⟩;obtain⟨a2,m2,c2,s2,rfl⟩:=hr2.form;obtain⟨hc2,hf2⟩:=hx2.cells;(try simp only [qcD,qfD,qdZ]at hc2 hf2);have z2_0:=hx2.lt (n:=w.heap.size) (by go_simp);have z2_1:=hx2.lt (n:=w.heap.size+1) (by go_simp);have z2_2:=hx2.lt (n:=w.heap.size+1+1) (by go_simp))))
 all_goals go_wp2
 exact bodyPost_ret (v:=.agg #[.slice a2 m2 c2,.bool s2]) (by simp [results,Tryz.results187,go_sem,hc1,hc2,z1_2,z2_2]) rfl ⟨_,rfl,hr2.keep kA,eA⟩
theorem mul_sgn {x y:Int} {s t:Bool} (hx:s=decide (x<0)) (hy:t=decide (y<0)):sg (!(s==t)) ((x.natAbs:Int)*(y.natAbs:Int))=x*y:=by
 rw [←Int.natCast_mul,←Int.natAbs_mul];subst hx hy
 rcases Int.lt_trichotomy x 0 with h|rfl|h<;>rcases Int.lt_trichotomy y 0 with k|rfl|k
 ·have:=Int.mul_pos_of_neg_of_neg h k;simp [sg,h,k];omega
 ·simp [sg]
 ·have:=Int.mul_neg_of_neg_of_pos h k;simp [sg,h,show ¬y<0 by omega];omega
 ·simp [sg]
 ·simp [sg]
 ·simp [sg]
 ·have:=Int.mul_neg_of_pos_of_neg h k;simp [sg,k,show ¬x<0 by omega];omega
 ·simp [sg]
 ·have:=Int.mul_pos h k;simp [sg,show ¬x<0 by omega,show ¬y<0 by omega];omega
theorem zmul_any (w:World) (va vb:Value) (x y:Int) (ha:IsZ w va x) (hb:IsZ w vb y) (hla:Lm lim x) (hlb:Lm lim y) :
  Calls Tryz.prog 142 #[va,vb] w (RetZ w (x*y)):=by
 obtain⟨a,m,c,s,rfl⟩:=ha.form;obtain⟨a',m',c',s',rfl⟩:=hb.form;have Hsa:=hd9 ha.sgn;have Hsb:=hd9 hb.sgn;have hda:=ha.dig;have hdb:=hb.dig;have HLa:=hd9 hla.abs;have HLb:=hd9 hlb.abs;clear hla hlb ha hb;go_enter Tryz.func142,Tryz.ntmps142;go_wp2
 go_region_held3 (fun W=>W.cell? ⟨w.heap.size,0,none⟩=some (.slice a m c)∧W.cell? ⟨w.heap.size,1,none⟩=some (.bool s)∧W.cell? ⟨w.heap.size+1,0,none⟩=some (.slice a' m' c')∧W.cell? ⟨w.heap.size+1,1,none⟩=some (.bool s')) ((repeat' (with_reducible refine And.intro ?_ ?_))<;>(first|(go_simp;done)|(refine hx1.cellS ?_;go_simp;done))) (first|((go_at_call 184;(with_reducible refine(times_any _ (.agg #[.slice a m c]) (.agg #[.slice a' m' c']) x.natAbs y.natAbs ?_ ?_ HLa.out HLb.out).mono ?_);(refine hda.ext ?_;exact eA);(refine hdb.ext ?_;exact eA);rintro e w1 ⟨r1,rfl,hr1,hx1⟩;obtain⟨a1,m1,c1,rfl⟩:=hr1.isD.form;obtain⟨hc1,hf1⟩:=hx1.cells;(try simp only [qcD,qfD,qdZ]at hc1 hf1);have z1_0:=hx1.lt (n:=w.heap.size) (by go_simp);have z1_1:=hx1.lt (n:=w.heap.size+1) (by go_simp);have z1_2:=hx1.lt (n:=w.heap.size+1+1) (by go_simp)))|((go_at_call 183;(with_reducible refine(made_any _ (!(s==s')) (.agg #[.slice a1 m1 c1]) ((x.natAbs:Int)*(y.natAbs:Int)) ?_).mono ?_);(refine hr1.isD.ext ?_;exact eA);rintro e w2 ⟨r2,rfl,hr2,hx2⟩;obtain⟨a2,m2,c2,s2,rfl⟩:=hr2.form;obtain⟨hc2,hf2⟩:=hx2.cells;(try simp only [qcD,qfD,qdZ]at hc2 hf2);have z2_0:=hx2.lt (n:=w.heap.size) (by go_simp);have z2_1:=hx2.lt (n:=w.heap.size+1) (by go_simp);have z2_2:=hx2.lt (n:=w.heap.size+1+1) (by go_simp))))
 all_goals go_wp2
 refine bodyPost_ret (v:=.agg #[.slice a2 m2 c2,.bool s2]) (by simp [results,Tryz.results142,go_sem,hc1,hc2,z1_2,z2_2]) rfl ⟨_,rfl,?_,eA⟩;rw [←mul_sgn Hsa.out Hsb.out];exact hr2.keep kA
theorem zcmp_any (w:World) (va vb:Value) (x y:Int) (ha:IsZ w va x) (hb:IsZ w vb y) (hla:Lm lim x) (hlb:Lm lim y) :
  Calls Tryz.prog 144 #[va,vb] w fun e w'=>e = .returned (.int .i64 (x-y).sign)∧Ext w w':=by
 obtain⟨a,m,c,s,rfl⟩:=ha.form;obtain⟨a',m',c',s',rfl⟩:=hb.form;have HLa:=hd9 hla;have HLb:=hd9 hlb;clear hla hlb;go_enter Tryz.func144,Tryz.ntmps144
 go_wp2_with(first|((go_at_call 187;(with_reducible refine(zsub_any _ (.agg #[.slice a m c,.bool s]) (.agg #[.slice a' m' c',.bool s']) x y ?_ ?_ HLa.out HLb.out).mono ?_);(refine ha.ext ?_;exact eA);(refine hb.ext ?_;exact eA);rintro e w1 ⟨r1,rfl,hr1,hx1⟩;obtain⟨a1,m1,c1,s1,rfl⟩:=hr1.form;obtain⟨hc1,hf1⟩:=hx1.cells;(try simp only [qcD,qfD,qdZ]at hc1 hf1);have z1_0:=hx1.lt (n:=w.heap.size) (by go_simp);have z1_1:=hx1.lt (n:=w.heap.size+1) (by go_simp)))|((go_at_call 141;(with_reducible refine(zsign_any _ (.agg #[.slice a1 m1 c1,.bool s1]) (x-y) ?_).mono ?_);(refine hr1.ext ?_;exact eA);rintro e w2 ⟨rfl,hx2⟩)))
 go_ret;exact⟨rfl,eA⟩
end Go.Proofs.YteipgejmhfpkaaaGreatDoor.Cop
