/- Part 4: contracts of what the law calls. -/
import Derived.Test.YtodpfeaihohpjaaGreatDoorCopA02
import Derived.Deep.LoopGhost
import Derived.Deep.CutBlock
import Derived.Deep.DeepCutAuto
set_option maxRecDepth 1000000
set_option maxHeartbeats 16000000
set_option linter.unusedSimpArgs false
set_option linter.unusedVariables false
open Go.Value renaming slice→O,agg→Y,bool→V,int→N
open Go renaming World→Z,Value→I
open Option renaming none→X,some→J
namespace Go.Proofs.YtodpfeaihohpjaaGreatDoor.Cop
section
open Go.RowKit Go.Shelf
theorem qcD (w:Z) (p:Addr):w.drew.cell? p=w.cell? p:=rfl
theorem qfD (w:Z) (p:Addr):w.drew.frozen? p=w.frozen? p:=rfl
theorem qdZ (w:Z):w.drew.heap.size=w.heap.size:=rfl
theorem Ext.lt {a b:Z} (h:Ext a b) {n:Nat} (hn:n<a.heap.size):n<b.heap.size:=Nat.lt_of_lt_of_le hn h.size
theorem cK0 {a b1:Z} {A:Prop} (h:Ext a b1) (e:((∀b o,b<a.heap.size→b1.cell? ⟨b,o,X⟩=a.cell? ⟨b,o,X⟩)∧(∀b o,b<a.heap.size→b1.frozen? ⟨b,o,X⟩=a.frozen? ⟨b,o,X⟩))→A:=by(intro h;(try simp only [qcD,qfD,qdZ]at h);exact h)):A:=e h.cells
theorem cK1 (w:Z) {a b1:Z} {A:Prop} (h:Ext a b1) (hs:w.heap.size<a.heap.size:=by go_simp) (e:((∀b o,b<a.heap.size→b1.cell? ⟨b,o,X⟩=a.cell? ⟨b,o,X⟩)∧(∀b o,b<a.heap.size→b1.frozen? ⟨b,o,X⟩=a.frozen? ⟨b,o,X⟩))→A:=by(intro h;(try simp only [qcD,qfD,qdZ]at h);exact h)):A∧w.heap.size<b1.heap.size:=⟨e h.cells,h.lt hs⟩
theorem cK2 (w:Z) {a b1:Z} {A:Prop} (h:Ext a b1) (hs:w.heap.size+1<a.heap.size:=by go_simp) (e:((∀b o,b<a.heap.size→b1.cell? ⟨b,o,X⟩=a.cell? ⟨b,o,X⟩)∧(∀b o,b<a.heap.size→b1.frozen? ⟨b,o,X⟩=a.frozen? ⟨b,o,X⟩))→A:=by(intro h;(try simp only [qcD,qfD,qdZ]at h);exact h)):A∧w.heap.size<b1.heap.size∧w.heap.size+1<b1.heap.size:=⟨e h.cells,h.lt (by omega),h.lt hs⟩
theorem cK3 (w:Z) {a b1:Z} {A:Prop} (h:Ext a b1) (hs:w.heap.size+1+1<a.heap.size:=by go_simp) (e:((∀b o,b<a.heap.size→b1.cell? ⟨b,o,X⟩=a.cell? ⟨b,o,X⟩)∧(∀b o,b<a.heap.size→b1.frozen? ⟨b,o,X⟩=a.frozen? ⟨b,o,X⟩))→A:=by(intro h;(try simp only [qcD,qfD,qdZ]at h);exact h)):A∧w.heap.size<b1.heap.size∧w.heap.size+1<b1.heap.size∧w.heap.size+1+1<b1.heap.size:=⟨e h.cells,h.lt (by omega),h.lt (by omega),h.lt hs⟩
theorem cK4 (w:Z) {a b1:Z} {A:Prop} (h:Ext a b1) (hs:w.heap.size+1+1+1<a.heap.size:=by go_simp) (e:((∀b o,b<a.heap.size→b1.cell? ⟨b,o,X⟩=a.cell? ⟨b,o,X⟩)∧(∀b o,b<a.heap.size→b1.frozen? ⟨b,o,X⟩=a.frozen? ⟨b,o,X⟩))→A:=by(intro h;(try simp only [qcD,qfD,qdZ]at h);exact h)):A∧w.heap.size<b1.heap.size∧w.heap.size+1<b1.heap.size∧w.heap.size+1+1<b1.heap.size∧w.heap.size+1+1+1<b1.heap.size:=⟨e h.cells,h.lt (by omega),h.lt (by omega),h.lt (by omega),h.lt hs⟩
def NoT (T:TypeId) (w:Z) (b:Nat):Prop:=∀cs fr,w.heap[b]?≠J (.cells cs T fr)
theorem NoT.new {T T':TypeId} {w:Z} {b:Nat} {cs:Array I} {fr:Nat×Nat} (hb:b=w.heap.size) (hT:T'≠T):NoT T (w.alloc (.cells cs T' fr)) b:=by
 intro cs' fr' e;rw [qhA _ _ _ hb]at e
 cases e;exact hT rfl
theorem NoT.old {T:TypeId} {w:Z} {b:Nat} {o:Obj} (h:NoT T w b) (hb:b≠w.heap.size):NoT T (w.alloc o) b:=by
 intro cs fr e;rw [zae,if_neg hb]at e;exact h cs fr e
theorem NoT.ext {T:TypeId} {w w':Z} {b:Nat} (h:NoT T w b) (k:Ext w w') (hb:b<w.heap.size):NoT T w' b:=by
 intro cs fr e;rw [k.block hb]at e;exact h cs fr e
theorem NoT.drew {T:TypeId} {w:Z} {b:Nat} (h:NoT T w b):NoT T w.drew b:=h
theorem NoT.drewN {T:TypeId} {w:Z} {b:Nat} (h:NoT T w b) (n:Nat):NoT T (w.drewN n) b:=by
 intro cs fr e;exact h cs fr (by simpa [World.drewN] using e)
theorem NoT.set {T:TypeId} {w:Z} {b:Nat} (h:NoT T w b) (p:Addr) (u:I):NoT T (w.setCell p u) b:=by
 intro cs fr e
 by_cases hb:b=p.block
 ·subst hb
  simp only [World.setCell,Array.getElem?_modify,if_pos]at e
  cases hw:w.heap[p.block]? with
  | none=>rw [hw]at e;cases e
  | some o =>
   rw [hw]at e
   cases o with
   | cells cs' T' fr' =>
    simp only [Option.map_some,Option.some.injEq,Obj.cells.injEq]at e;obtain⟨_,rfl,_⟩:=e;exact h _ _ hw
   | _=>simp at e
 ·rw [bS _ _ _ _ hb]at e
  exact h cs fr e
theorem KeepT.setN {T:TypeId} {a b:Z} (h:KeepT T a b) {p:Addr} (hp:NoT T b p.block) (u:I):KeepT T a (b.setCell p u):=fun x cs fr hx=>by
 have h1:=h x cs fr hx;rw [bS _ _ _ _ (by rintro rfl;exact hp _ _ h1)];exact h1
theorem NoT.ext2 {T:TypeId} {w w':Z} {b:Nat} (hb:b<w.heap.size) (k:Ext w w') (h:NoT T w b):NoT T w' b:=h.ext k hb
theorem NoT.old2 {T:TypeId} {w:Z} {b:Nat} {o:Obj} (hb:b≠w.heap.size) (h:NoT T w b):NoT T (w.alloc o) b:=h.old hb
theorem KeepT.setN2 {T:TypeId} {a b:Z} {p:Addr} (hp:NoT T b p.block) (h:KeepT T a b) (u:I):KeepT T a (b.setCell p u):=h.setN hp u
theorem nA {T:TypeId} {w:Z} {b:Nat} (h:NoT T w b:=by(repeat(first|with_reducible assumption|with_reducible refine NoT.set ?_ _ _|with_reducible refine NoT.drew ?_|with_reducible refine NoT.drewN ?_ _|(refine NoT.new ?_ ?_;(focus(first|omega|((try dsimp only);(try simp only [wZ,qdZ,qcZ]);(try omega);done)));(focus decide))|(refine NoT.old2 ?_ ?_;(focus(first|omega|((try dsimp only);(try simp only [wZ,qdZ,qcZ]);(try omega);done))))|(refine NoT.ext2 ?_ (by with_reducible assumption) ?_;(focus(first|omega|((try dsimp only);(try simp only [wZ,qdZ,qcZ]);(try omega);done))))))):NoT T w b:=h
theorem kA {T:TypeId} {w w1:Z} (h:KeepT T w w1:=by repeat(first|with_reducible exact KeepT.refl _ _|(refine Ext.keep ?_;(focus((with_reducible repeat(first|assumption|exact eR _|refine eX ?_|refine eT ?_|refine eS ?_));done)))|with_reducible refine KeepT.alloc ?_ _|(with_reducible refine KeepT.setN2 ?_ ?_ _;(focus(((repeat(first|with_reducible assumption|with_reducible refine NoT.set ?_ _ _|with_reducible refine NoT.drew ?_|with_reducible refine NoT.drewN ?_ _|(refine NoT.new ?_ ?_;(focus(first|omega|((try dsimp only);(try simp only [wZ,qdZ,qcZ]);(try omega);done)));(focus decide))|(refine NoT.old2 ?_ ?_;(focus(first|omega|((try dsimp only);(try simp only [wZ,qdZ,qcZ]);(try omega);done))))|(refine NoT.ext2 ?_ (by with_reducible assumption) ?_;(focus(first|omega|((try dsimp only);(try simp only [wZ,qdZ,qcZ]);(try omega);done)))))));done))))):KeepT T w w1:=h
def IsZ (w:Z) (v:I) (n:Int):Prop:=∃a m c s,v=Y #[O a m c,V s]∧s=decide (n<0)∧IsD w (Y #[O a m c]) (n.natAbs:Int)
theorem IsZ.ext {w w':Z} {v:I} {n:Int} (h:IsZ w v n) (k:Ext w w'):IsZ w' v n:=by
 obtain⟨a,m,c,s,rfl,h1,h2⟩:=h;exact⟨a,m,c,s,rfl,h1,h2.ext k⟩
theorem IsZ.keep {w w':Z} {v:I} {n:Int} (h:IsZ w v n) (k:KeepT 2 w w'):IsZ w' v n:=by
 obtain⟨a,m,c,s,rfl,h1,h2⟩:=h;exact⟨a,m,c,s,rfl,h1,h2.keep k⟩
theorem IsZ.form {w:Z} {v:I} {n:Int} (h:IsZ w v n):∃a m c s,v=Y #[O a m c,V s]:=by
 obtain⟨a,m,c,s,rfl,h1,h2⟩:=h;exact⟨a,m,c,s,rfl⟩
theorem IsZ.sgn {w:Z} {a:Option Addr} {m c:Nat} {s:Bool} {n:Int} (h:IsZ w (Y #[O a m c,V s]) n):s=decide (n<0):=by
 obtain⟨a,m,c,s,e,h1,h2⟩:=h;cases e;exact h1
theorem IsZ.dig {w:Z} {a:Option Addr} {m c:Nat} {s:Bool} {n:Int} (h:IsZ w (Y #[O a m c,V s]) n):IsD w (Y #[O a m c]) (n.natAbs:Int):=by
 obtain⟨a,m,c,s,e,h1,h2⟩:=h;cases e;exact h2
theorem Lm.abs {k:Nat} {n:Int} (h:Lm k n):Lm k (n.natAbs:Int):=by unfold Lm at *;omega
theorem Lm.neg {k:Nat} {n:Int} (h:Lm k n):Lm k (-n):=by unfold Lm at *;omega
def sg (s:Bool) (n:Int):Int:=if s then -n else n
theorem IsZ.mk {w:Z} {a:Option Addr} {m c:Nat} {n:Int} (mn:Bool) (h:IsD w (Y #[O a m c]) n):IsZ w (Y #[O a m c,V (mn&&!(n==0))]) (sg mn n):=by
 have h0:=h.nonneg;refine⟨a,m,c,_,rfl,?_,?_⟩
 ·rw [Bool.eq_iff_iff];cases mn<;>simp [sg]<;>omega
 ·have:((sg mn n).natAbs:Int)=n:=by cases mn<;>simp [sg]<;>omega
  rw [this];exact h
theorem IsZ.nil (w:Z):IsZ w (Y #[O X 0 0,V false]) 0:=⟨_,_,_,_,rfl,rfl,_,[],rfl,Ints.nil _ _,Can.nil _,rfl⟩
def RetZ (w:Z) (n:Int) (e:Ending) (w':Z):Prop:=∃r,e = .returned r∧IsZ w' r n∧Ext w w'
theorem zaA (w:Z) (mn:Bool) (v:I) (n:Int) (h:IsD w v n) :
  Calls Tryz.prog 112 #[V mn,v] w (RetZ w (sg mn n)):=by
 obtain⟨a,m,c,rfl⟩:=h.form
 cases mn
 ·go_enter Tryz.func112,Tryz.ntmps112
  go_wp2
  go_region_with (fail)
  all_goals go_wp2
  all_goals exact bR (v:=Y #[O a m c,V (false&&!(n==0))]) (by simp [results,Tryz.results112,go_sem]) rfl ⟨_,rfl,IsZ.mk false (h.ext eA),eA⟩
 ·go_enter Tryz.func112,Tryz.ntmps112
  go_wp2
  go_region_held3 (fun W=>W.cell? ⟨w.heap.size,0,X⟩=J (O a m c)) ((repeat' (with_reducible refine And.intro ?_ ?_))<;>(first|(go_simp;done)|(refine hx1.cellS ?_;go_simp;done))) ((go_at_call 92;(with_reducible refine(zan _ (Y #[O a m c]) n ?_).mono ?_);(refine h.ext ?_;exact eA);rintro e w1 ⟨rfl,hx1⟩;obtain⟨hc1,hf1⟩:=hx1.cells))
  all_goals go_wp2
  exact bR (v:=Y #[O a m c,V (true&&!(n==0))]) (by simp [results,Tryz.results112,go_sem,hc1]) rfl ⟨_,rfl,IsZ.mk true (h.ext eA),eA⟩
theorem znd {n:Int} {s:Bool} (h:s=decide (n<0)):sg (!s) (n.natAbs:Int) = -n:=by
 subst h;by_cases h:n<0<;>simp [sg,h]<;>omega
theorem znK {n:Int}:sg false (n.natAbs:Int)=n.natAbs:=rfl
theorem zcK (w:Z) (v:I) (n:Int) (h:IsZ w v n):Calls Tryz.prog 117 #[v] w (RetZ w (-n)):=by
 obtain⟨a,m,c,s,rfl⟩:=h.form;go_enter Tryz.func117,Tryz.ntmps117
 go_wp2_with((go_at_call 112;(with_reducible refine(zaA _ (!s) (Y #[O a m c]) n.natAbs ?_).mono ?_);(refine h.dig.ext ?_;exact eA);rintro e w1 ⟨r1,rfl,hr1,hx1⟩;obtain⟨a1,m1,c1,s1,rfl⟩:=hr1.form;obtain⟨hc1,hf1⟩:=hx1.cells))
 refine bR (v:=Y #[O a1 m1 c1,V s1]) (by simp [results,Tryz.results117,go_sem,hc1]) rfl ⟨_,rfl,?_,eA⟩;rw [←znd h.sgn];exact hr1.keep kA
theorem znu (w:Z) (v:I) (n:Int) (h:IsZ w v n):Calls Tryz.prog 140 #[v] w (RetZ w (n.natAbs:Int)):=by
 obtain⟨a,m,c,s,rfl⟩:=h.form;go_enter Tryz.func140,Tryz.ntmps140
 go_wp2_with((go_at_call 112;(with_reducible refine(zaA _ false (Y #[O a m c]) n.natAbs ?_).mono ?_);(refine h.dig.ext ?_;exact eA);rintro e w1 ⟨r1,rfl,hr1,hx1⟩;obtain⟨a1,m1,c1,s1,rfl⟩:=hr1.form;obtain⟨hc1,hf1⟩:=hx1.cells))
 exact bR (v:=Y #[O a1 m1 c1,V s1]) (by simp [results,Tryz.results140,go_sem,hc1]) rfl ⟨_,rfl,hr1.keep kA,eA⟩
theorem zgc (w:Z) (v:I) (n:Int) (h:IsZ w v n):Calls Tryz.prog 67 #[v] w fun e w'=>e = .returned (N .i64 n.sign)∧Ext w w':=by
 obtain⟨a,m,c,s,rfl⟩:=h.form;have hs:=h.sgn;have hd:=h.dig
 have casefalsetrue:n=0→Calls Tryz.prog 67 #[Y #[O a m c,V s]] w fun e w'=>e = .returned (N .i64 n.sign)∧Ext w w':=by
  intro hn;have hz:((n.natAbs:Int)==0)=true:=by simp;omega
  obtain rfl:s=false:=by rw [hs];simp;omega
  have e:n.sign=0:=by first|(subst hn;rfl)|exact Int.sign_eq_neg_one_of_neg hn|exact Int.sign_eq_one_of_pos hn
  rw [e];clear e hn hs;go_enter Tryz.func67,Tryz.ntmps67
  go_wp2_with((go_at_call 92;(with_reducible refine(zan _ (Y #[O a m c]) n.natAbs ?_).mono ?_);(refine hd.ext ?_;exact eA);rintro e w1 ⟨rfl,hx1⟩;obtain⟨hc1,hf1⟩:=hx1.cells))
  go_ret;exact⟨rfl,eA⟩
 have casetruefalse:n<0→Calls Tryz.prog 67 #[Y #[O a m c,V s]] w fun e w'=>e = .returned (N .i64 n.sign)∧Ext w w':=by
  intro hn;have hz:((n.natAbs:Int)==0)=false:=by simp;omega
  obtain rfl:s=true:=by rw [hs];simp;omega
  have e:n.sign = -1:=by first|(subst hn;rfl)|exact Int.sign_eq_neg_one_of_neg hn|exact Int.sign_eq_one_of_pos hn
  rw [e];clear e hn hs;go_enter Tryz.func67,Tryz.ntmps67
  go_wp2_with((go_at_call 92;(with_reducible refine(zan _ (Y #[O a m c]) n.natAbs ?_).mono ?_);(refine hd.ext ?_;exact eA);rintro e w1 ⟨rfl,hx1⟩;obtain⟨hc1,hf1⟩:=hx1.cells))
  go_ret;exact⟨rfl,eA⟩
 have casefalsefalse:0<n→Calls Tryz.prog 67 #[Y #[O a m c,V s]] w fun e w'=>e = .returned (N .i64 n.sign)∧Ext w w':=by
  intro hn;have hz:((n.natAbs:Int)==0)=false:=by simp;omega
  obtain rfl:s=false:=by rw [hs];simp;omega
  have e:n.sign=1:=by first|(subst hn;rfl)|exact Int.sign_eq_neg_one_of_neg hn|exact Int.sign_eq_one_of_pos hn
  rw [e];clear e hn hs;go_enter Tryz.func67,Tryz.ntmps67
  go_wp2_with((go_at_call 92;(with_reducible refine(zan _ (Y #[O a m c]) n.natAbs ?_).mono ?_);(refine hd.ext ?_;exact eA);rintro e w1 ⟨rfl,hx1⟩;obtain⟨hc1,hf1⟩:=hx1.cells))
  go_ret;exact⟨rfl,eA⟩
 rcases Int.lt_trichotomy n 0 with hn|hn|hn
 ·exact casetruefalse hn
 ·exact casefalsetrue hn
 ·exact casefalsefalse hn
theorem znm (n:Int) (h0 : -9223372036854775808≤n) (hn:n<0):IntKind.u64.wrap (-(IntKind.u64.wrap n)) = -n:=by
 simp [IntKind.wrap,IntKind.signed,IntKind.bits];omega
theorem zmJ (n:Int) (h0:n≤9223372036854775807) (hn:0≤n):IntKind.u64.wrap n=n:=by
 simp [IntKind.wrap,IntKind.signed,IntKind.bits];omega
theorem zfm (w:Z) (n:Int) (h0 : -9223372036854775808≤n) (h1:n≤9223372036854775807):Calls Tryz.prog 69 #[N .i64 n] w (RetZ w n):=by
 by_cases hn:n<0
 ·have hw:=znm n h0 hn
  go_enter Tryz.func69,Tryz.ntmps69
  go_wp2_with(first|(go_at_call 115;(with_reducible refine(zbM _ (-n) (by omega) (by omega)).mono ?_);rintro e w1 ⟨r1,rfl,hr1,hx1⟩;obtain⟨a1,m1,c1,rfl⟩:=hr1.isD.form;obtain⟨⟨hc1,hf1⟩,z1_0⟩:=cK1 w hx1)|(go_at_call 112;(with_reducible refine(zaA _ true (Y #[O a1 m1 c1]) (-n) hr1.isD).mono ?_);rintro e w2 ⟨r2,rfl,hr2,hx2⟩;obtain⟨a2,m2,c2,s2,rfl⟩:=hr2.form;obtain⟨⟨hc2,hf2⟩,z2_0⟩:=cK1 w hx2))
  refine bR (v:=Y #[O a2 m2 c2,V s2]) (by simp [results,Tryz.results69,go_sem,hc1,hc2,z1_0,z2_0]) rfl ⟨_,rfl,?_,eA⟩;have e:n=sg true (-n):=by simp [sg]
  rw [e];exact hr2.keep kA
 ·have hw:=zmJ n h1 (by omega)
  go_enter Tryz.func69,Tryz.ntmps69
  go_wp2_with(first|(go_at_call 115;(with_reducible refine(zbM _ n (by omega) (by omega)).mono ?_);rintro e w1 ⟨r1,rfl,hr1,hx1⟩;obtain⟨a1,m1,c1,rfl⟩:=hr1.isD.form;obtain⟨⟨hc1,hf1⟩,z1_0⟩:=cK1 w hx1)|(go_at_call 112;(with_reducible refine(zaA _ false (Y #[O a1 m1 c1]) n hr1.isD).mono ?_);rintro e w2 ⟨r2,rfl,hr2,hx2⟩;obtain⟨a2,m2,c2,s2,rfl⟩:=hr2.form;obtain⟨⟨hc2,hf2⟩,z2_0⟩:=cK1 w hx2))
  exact bR (v:=Y #[O a2 m2 c2,V s2]) (by simp [results,Tryz.results69,go_sem,hc1,hc2,z1_0,z2_0]) rfl ⟨_,rfl,hr2.keep kA,eA⟩
theorem zgJ {x y:Int} {s:Bool} (hx:s=decide (x<0)) (hy:s=decide (y<0)):sg s ((x.natAbs:Int)+1*(y.natAbs:Int))=x+y:=by
 cases s<;>simp [sg]at *<;>omega
theorem zgH {x y:Int} {s:Bool} (hx:(!s)=decide (x<0)) (hy:s=decide (y<0)) (h:(x.natAbs:Int)<y.natAbs):sg s ((y.natAbs:Int) + -1*(x.natAbs:Int))=x+y:=by
 cases s<;>simp [sg]at *<;>omega
theorem zgI {x y:Int} {s:Bool} (hx:s=decide (x<0)) (hy:(!s)=decide (y<0)) (h:¬(x.natAbs:Int)<y.natAbs):sg s ((x.natAbs:Int) + -1*(y.natAbs:Int))=x+y:=by
 cases s<;>simp [sg]at *<;>omega
theorem zhA (w:Z) (va vb:I) (x y:Int) (ha:IsZ w va x) (hb:IsZ w vb y) (hla:Lm lim x) (hlb:Lm lim y) :
  Calls Tryz.prog 83 #[va,vb] w (RetZ w (x+y)):=by
 obtain⟨a,m,c,s,rfl⟩:=ha.form;obtain⟨a',m',c',s',rfl⟩:=hb.form;have Hsa:=hd9 ha.sgn;have Hsb:=hd9 hb.sgn;have hda:=ha.dig;have hdb:=hb.dig;have HLa:=hd9 hla.abs;have HLb:=hd9 hlb.abs;clear hla hlb ha hb
 have sametrue:s=true→s'=true→Calls Tryz.prog 83 #[Y #[O a m c,V s],Y #[O a' m' c',V s']] w (RetZ w (x+y)):=by
  intro h1 h2;subst h1 h2;go_enter Tryz.func83,Tryz.ntmps83;go_wp2
  go_region_held3 (fun W=>W.cell? ⟨w.heap.size,0,X⟩=J (O a m c)∧W.cell? ⟨w.heap.size,1,X⟩=J (V true)∧W.cell? ⟨w.heap.size+1,0,X⟩=J (O a' m' c')) ((repeat' (with_reducible refine And.intro ?_ ?_))<;>(first|(go_simp;done)|(refine hx1.cellS ?_;go_simp;done))) (first|((go_at_call 114;(with_reducible refine(zaN _ (Y #[O a m c]) (Y #[O a' m' c']) x.natAbs y.natAbs 1 ?_ ?_ HLa.out HLb.out (by omega) (by omega)).mono ?_);(refine hda.ext ?_;exact eA);(refine hdb.ext ?_;exact eA);rintro e w1 ⟨r1,rfl,hr1,hx1⟩;obtain⟨a1,m1,c1,rfl⟩:=hr1.isD.form;obtain⟨⟨hc1,hf1⟩,z1_0,z1_1,z1_2⟩:=cK3 w hx1))|((go_at_call 112;(with_reducible refine(zaA _ true (Y #[O a1 m1 c1]) ((x.natAbs:Int)+1*(y.natAbs:Int)) ?_).mono ?_);(refine hr1.isD.ext ?_;exact eA);rintro e w2 ⟨r2,rfl,hr2,hx2⟩;obtain⟨a2,m2,c2,s2,rfl⟩:=hr2.form;obtain⟨⟨hc2,hf2⟩,z2_0,z2_1,z2_2⟩:=cK3 w hx2)))
  all_goals go_wp2
  refine bR (v:=Y #[O a2 m2 c2,V s2]) (by simp [results,Tryz.results83,go_sem,hc1,hc2,z1_2,z2_2]) rfl ⟨_,rfl,?_,eA⟩;rw [←zgJ Hsa.out Hsb.out];exact hr2.keep kA
 have samefalse:s=false→s'=false→Calls Tryz.prog 83 #[Y #[O a m c,V s],Y #[O a' m' c',V s']] w (RetZ w (x+y)):=by
  intro h1 h2;subst h1 h2;go_enter Tryz.func83,Tryz.ntmps83;go_wp2
  go_region_held3 (fun W=>W.cell? ⟨w.heap.size,0,X⟩=J (O a m c)∧W.cell? ⟨w.heap.size,1,X⟩=J (V false)∧W.cell? ⟨w.heap.size+1,0,X⟩=J (O a' m' c')) ((repeat' (with_reducible refine And.intro ?_ ?_))<;>(first|(go_simp;done)|(refine hx1.cellS ?_;go_simp;done))) (first|((go_at_call 114;(with_reducible refine(zaN _ (Y #[O a m c]) (Y #[O a' m' c']) x.natAbs y.natAbs 1 ?_ ?_ HLa.out HLb.out (by omega) (by omega)).mono ?_);(refine hda.ext ?_;exact eA);(refine hdb.ext ?_;exact eA);rintro e w1 ⟨r1,rfl,hr1,hx1⟩;obtain⟨a1,m1,c1,rfl⟩:=hr1.isD.form;obtain⟨⟨hc1,hf1⟩,z1_0,z1_1,z1_2⟩:=cK3 w hx1))|((go_at_call 112;(with_reducible refine(zaA _ false (Y #[O a1 m1 c1]) ((x.natAbs:Int)+1*(y.natAbs:Int)) ?_).mono ?_);(refine hr1.isD.ext ?_;exact eA);rintro e w2 ⟨r2,rfl,hr2,hx2⟩;obtain⟨a2,m2,c2,s2,rfl⟩:=hr2.form;obtain⟨⟨hc2,hf2⟩,z2_0,z2_1,z2_2⟩:=cK3 w hx2)))
  all_goals go_wp2
  refine bR (v:=Y #[O a2 m2 c2,V s2]) (by simp [results,Tryz.results83,go_sem,hc1,hc2,z1_2,z2_2]) rfl ⟨_,rfl,?_,eA⟩;rw [←zgJ Hsa.out Hsb.out];exact hr2.keep kA
 have difftrue:s=true→s'=false→Calls Tryz.prog 83 #[Y #[O a m c,V s],Y #[O a' m' c',V s']] w (RetZ w (x+y)):=by
  intro h1 h2;subst h1 h2
  by_cases hlt:(x.natAbs:Int)<y.natAbs
  ·have hcmp:=zdk hlt
   go_enter Tryz.func83,Tryz.ntmps83
   go_wp2_with((go_at_call 125;(with_reducible refine(za0 _ (Y #[O a m c]) (Y #[O a' m' c']) x.natAbs y.natAbs ?_ ?_).mono ?_);(refine hda.ext ?_;exact eA);(refine hdb.ext ?_;exact eA);rintro e w0 ⟨rfl,hx0⟩;obtain⟨⟨hc0,hf0⟩,z0_0,z0_1,z0_2⟩:=cK3 w hx0))
   go_region_held3 (fun W=>W.cell? ⟨w.heap.size,0,X⟩=J (O a m c)∧W.cell? ⟨w.heap.size+1,1,X⟩=J (V false)∧W.cell? ⟨w.heap.size+1,0,X⟩=J (O a' m' c')) ((repeat' (with_reducible refine And.intro ?_ ?_))<;>(first|(go_simp;done)|(refine hx1.cellS ?_;go_simp;done))) (first|((go_at_call 114;(with_reducible refine(zaN _ (Y #[O a' m' c']) (Y #[O a m c]) y.natAbs x.natAbs (-1) ?_ ?_ HLb.out HLa.out (by omega) (by omega)).mono ?_);(refine hdb.ext ?_;exact eA);(refine hda.ext ?_;exact eA);rintro e w1 ⟨r1,rfl,hr1,hx1⟩;obtain⟨a1,m1,c1,rfl⟩:=hr1.isD.form;obtain⟨⟨hc1,hf1⟩,z1_0,z1_1,z1_2⟩:=cK3 w hx1))|((go_at_call 112;(with_reducible refine(zaA _ false (Y #[O a1 m1 c1]) ((y.natAbs:Int) + -1*(x.natAbs:Int)) ?_).mono ?_);(refine hr1.isD.ext ?_;exact eA);rintro e w2 ⟨r2,rfl,hr2,hx2⟩;obtain⟨a2,m2,c2,s2,rfl⟩:=hr2.form;obtain⟨⟨hc2,hf2⟩,z2_0,z2_1,z2_2⟩:=cK3 w hx2)))
   all_goals go_wp2
   refine bR (v:=Y #[O a2 m2 c2,V s2]) (by simp [results,Tryz.results83,go_sem,hc0,hc1,hc2,z0_2,z1_2,z2_2]) rfl ⟨_,rfl,?_,eA⟩;rw [←zgH (s:=false) Hsa.out Hsb.out (by omega)];exact hr2.keep kA
  ·have hcmp:=zcr hlt
   go_enter Tryz.func83,Tryz.ntmps83
   go_wp2_with((go_at_call 125;(with_reducible refine(za0 _ (Y #[O a m c]) (Y #[O a' m' c']) x.natAbs y.natAbs ?_ ?_).mono ?_);(refine hda.ext ?_;exact eA);(refine hdb.ext ?_;exact eA);rintro e w0 ⟨rfl,hx0⟩;obtain⟨⟨hc0,hf0⟩,z0_0,z0_1,z0_2⟩:=cK3 w hx0))
   go_region_held3 (fun W=>W.cell? ⟨w.heap.size,0,X⟩=J (O a m c)∧W.cell? ⟨w.heap.size,1,X⟩=J (V true)∧W.cell? ⟨w.heap.size+1,0,X⟩=J (O a' m' c')) ((repeat' (with_reducible refine And.intro ?_ ?_))<;>(first|(go_simp;done)|(refine hx1.cellS ?_;go_simp;done))) (first|((go_at_call 114;(with_reducible refine(zaN _ (Y #[O a m c]) (Y #[O a' m' c']) x.natAbs y.natAbs (-1) ?_ ?_ HLa.out HLb.out (by omega) (by omega)).mono ?_);(refine hda.ext ?_;exact eA);(refine hdb.ext ?_;exact eA);rintro e w1 ⟨r1,rfl,hr1,hx1⟩;obtain⟨a1,m1,c1,rfl⟩:=hr1.isD.form;obtain⟨⟨hc1,hf1⟩,z1_0,z1_1,z1_2⟩:=cK3 w hx1))|((go_at_call 112;(with_reducible refine(zaA _ true (Y #[O a1 m1 c1]) ((x.natAbs:Int) + -1*(y.natAbs:Int)) ?_).mono ?_);(refine hr1.isD.ext ?_;exact eA);rintro e w2 ⟨r2,rfl,hr2,hx2⟩;obtain⟨a2,m2,c2,s2,rfl⟩:=hr2.form;obtain⟨⟨hc2,hf2⟩,z2_0,z2_1,z2_2⟩:=cK3 w hx2)))
   all_goals go_wp2
   refine bR (v:=Y #[O a2 m2 c2,V s2]) (by simp [results,Tryz.results83,go_sem,hc0,hc1,hc2,z0_2,z1_2,z2_2]) rfl ⟨_,rfl,?_,eA⟩;rw [←zgI (s:=true) Hsa.out Hsb.out (by omega)];exact hr2.keep kA
 have difffalse:s=false→s'=true→Calls Tryz.prog 83 #[Y #[O a m c,V s],Y #[O a' m' c',V s']] w (RetZ w (x+y)):=by
  intro h1 h2;subst h1 h2
  by_cases hlt:(x.natAbs:Int)<y.natAbs
  ·have hcmp:=zdk hlt
   go_enter Tryz.func83,Tryz.ntmps83
   go_wp2_with((go_at_call 125;(with_reducible refine(za0 _ (Y #[O a m c]) (Y #[O a' m' c']) x.natAbs y.natAbs ?_ ?_).mono ?_);(refine hda.ext ?_;exact eA);(refine hdb.ext ?_;exact eA);rintro e w0 ⟨rfl,hx0⟩;obtain⟨⟨hc0,hf0⟩,z0_0,z0_1,z0_2⟩:=cK3 w hx0))
   go_region_held3 (fun W=>W.cell? ⟨w.heap.size,0,X⟩=J (O a m c)∧W.cell? ⟨w.heap.size+1,1,X⟩=J (V true)∧W.cell? ⟨w.heap.size+1,0,X⟩=J (O a' m' c')) ((repeat' (with_reducible refine And.intro ?_ ?_))<;>(first|(go_simp;done)|(refine hx1.cellS ?_;go_simp;done))) (first|((go_at_call 114;(with_reducible refine(zaN _ (Y #[O a' m' c']) (Y #[O a m c]) y.natAbs x.natAbs (-1) ?_ ?_ HLb.out HLa.out (by omega) (by omega)).mono ?_);(refine hdb.ext ?_;exact eA);(refine hda.ext ?_;exact eA);rintro e w1 ⟨r1,rfl,hr1,hx1⟩;obtain⟨a1,m1,c1,rfl⟩:=hr1.isD.form;obtain⟨⟨hc1,hf1⟩,z1_0,z1_1,z1_2⟩:=cK3 w hx1))|((go_at_call 112;(with_reducible refine(zaA _ true (Y #[O a1 m1 c1]) ((y.natAbs:Int) + -1*(x.natAbs:Int)) ?_).mono ?_);(refine hr1.isD.ext ?_;exact eA);rintro e w2 ⟨r2,rfl,hr2,hx2⟩;obtain⟨a2,m2,c2,s2,rfl⟩:=hr2.form;obtain⟨⟨hc2,hf2⟩,z2_0,z2_1,z2_2⟩:=cK3 w hx2)))
   all_goals go_wp2
   refine bR (v:=Y #[O a2 m2 c2,V s2]) (by simp [results,Tryz.results83,go_sem,hc0,hc1,hc2,z0_2,z1_2,z2_2]) rfl ⟨_,rfl,?_,eA⟩;rw [←zgH (s:=true) Hsa.out Hsb.out (by omega)];exact hr2.keep kA
  ·have hcmp:=zcr hlt
   go_enter Tryz.func83,Tryz.ntmps83
   go_wp2_with((go_at_call 125;(with_reducible refine(za0 _ (Y #[O a m c]) (Y #[O a' m' c']) x.natAbs y.natAbs ?_ ?_).mono ?_);(refine hda.ext ?_;exact eA);(refine hdb.ext ?_;exact eA);rintro e w0 ⟨rfl,hx0⟩;obtain⟨⟨hc0,hf0⟩,z0_0,z0_1,z0_2⟩:=cK3 w hx0))
   go_region_held3 (fun W=>W.cell? ⟨w.heap.size,0,X⟩=J (O a m c)∧W.cell? ⟨w.heap.size,1,X⟩=J (V false)∧W.cell? ⟨w.heap.size+1,0,X⟩=J (O a' m' c')) ((repeat' (with_reducible refine And.intro ?_ ?_))<;>(first|(go_simp;done)|(refine hx1.cellS ?_;go_simp;done))) (first|((go_at_call 114;(with_reducible refine(zaN _ (Y #[O a m c]) (Y #[O a' m' c']) x.natAbs y.natAbs (-1) ?_ ?_ HLa.out HLb.out (by omega) (by omega)).mono ?_);(refine hda.ext ?_;exact eA);(refine hdb.ext ?_;exact eA);rintro e w1 ⟨r1,rfl,hr1,hx1⟩;obtain⟨a1,m1,c1,rfl⟩:=hr1.isD.form;obtain⟨⟨hc1,hf1⟩,z1_0,z1_1,z1_2⟩:=cK3 w hx1))|((go_at_call 112;(with_reducible refine(zaA _ false (Y #[O a1 m1 c1]) ((x.natAbs:Int) + -1*(y.natAbs:Int)) ?_).mono ?_);(refine hr1.isD.ext ?_;exact eA);rintro e w2 ⟨r2,rfl,hr2,hx2⟩;obtain⟨a2,m2,c2,s2,rfl⟩:=hr2.form;obtain⟨⟨hc2,hf2⟩,z2_0,z2_1,z2_2⟩:=cK3 w hx2)))
   all_goals go_wp2
   refine bR (v:=Y #[O a2 m2 c2,V s2]) (by simp [results,Tryz.results83,go_sem,hc0,hc1,hc2,z0_2,z1_2,z2_2]) rfl ⟨_,rfl,?_,eA⟩;rw [←zgI (s:=false) Hsa.out Hsb.out (by omega)];exact hr2.keep kA
 cases s<;>cases s'
 ·exact samefalse rfl rfl
 ·exact difffalse rfl rfl
 ·exact difftrue rfl rfl
 ·exact sametrue rfl rfl
theorem zlt (w:Z) (va vb:I) (x y:Int) (ha:IsZ w va x) (hb:IsZ w vb y) (hla:Lm lim x) (hlb:Lm lim y) :
  Calls Tryz.prog 116 #[va,vb] w (RetZ w (x-y)):=by
 obtain⟨a,m,c,s,rfl⟩:=ha.form;obtain⟨a',m',c',s',rfl⟩:=hb.form;have HLa:=hd9 hla;have HLb:=hd9 hlb.neg;clear hla hlb;go_enter Tryz.func116,Tryz.ntmps116;go_wp2
 go_region_held3 (fun W=>W.cell? ⟨w.heap.size,0,X⟩=J (O a m c)∧W.cell? ⟨w.heap.size,1,X⟩=J (V s)∧W.cell? ⟨w.heap.size+1,0,X⟩=J (O a' m' c')∧W.cell? ⟨w.heap.size+1,1,X⟩=J (V s')) ((repeat' (with_reducible refine And.intro ?_ ?_))<;>(first|(go_simp;done)|(refine hx1.cellS ?_;go_simp;done))) (first|((go_at_call 117;(with_reducible refine(zcK _ (Y #[O a' m' c',V s']) y ?_).mono ?_);(refine hb.ext ?_;exact eA);rintro e w1 ⟨r1,rfl,hr1,hx1⟩;obtain⟨a1,m1,c1,s1,rfl⟩:=hr1.form;obtain⟨⟨hc1,hf1⟩,z1_0,z1_1,z1_2⟩:=cK3 w hx1))|((go_at_call 83;(with_reducible refine(zhA _ (Y #[O a m c,V s]) (Y #[O a1 m1 c1,V s1]) x (-y) ?_ ?_ HLa.out HLb.out).mono ?_);(refine ha.ext ?_;exact eA);(refine hr1.ext ?_;exact eA);rintro e w2 ⟨r2,rfl,hr2,hx2⟩;obtain⟨a2,m2,c2,s2,rfl⟩:=hr2.form;obtain⟨⟨hc2,hf2⟩,z2_0,z2_1,z2_2⟩:=cK3 w hx2)))
 all_goals go_wp2
 exact bR (v:=Y #[O a2 m2 c2,V s2]) (by simp [results,Tryz.results116,go_sem,hc1,hc2,z1_2,z2_2]) rfl ⟨_,rfl,hr2.keep kA,eA⟩
theorem zmh {x y:Int} {s t:Bool} (hx:s=decide (x<0)) (hy:t=decide (y<0)):sg (!(s==t)) ((x.natAbs:Int)*(y.natAbs:Int))=x*y:=by
 rw [←Int.natCast_mul,←Int.natAbs_mul];subst hx hy
 rcases Int.lt_trichotomy x 0 with h|rfl|h<;>rcases Int.lt_trichotomy y 0 with k|rfl|k
 ·have:=Int.mul_pos_of_neg_of_neg h k;simp [sg,h,k];omega
 ·simp [sg]
 ·have:=Int.mul_neg_of_neg_of_pos h k;simp [sg,h,show ¬y<0 by omega];omega
 ·simp [sg]
 ·simp [sg]
 ·simp [sg]
 ·have:=Int.mul_neg_of_pos_of_neg h k;simp [sg,k,show ¬x<0 by omega];omega
 ·simp [sg]
 ·have:=Int.mul_pos h k;simp [sg,show ¬x<0 by omega,show ¬y<0 by omega];omega
theorem zbe (w:Z) (va vb:I) (x y:Int) (ha:IsZ w va x) (hb:IsZ w vb y) (hla:Lm lim x) (hlb:Lm lim y) :
  Calls Tryz.prog 63 #[va,vb] w (RetZ w (x*y)):=by
 obtain⟨a,m,c,s,rfl⟩:=ha.form;obtain⟨a',m',c',s',rfl⟩:=hb.form;have Hsa:=hd9 ha.sgn;have Hsb:=hd9 hb.sgn;have hda:=ha.dig;have hdb:=hb.dig;have HLa:=hd9 hla.abs;have HLb:=hd9 hlb.abs;clear hla hlb ha hb;go_enter Tryz.func63,Tryz.ntmps63;go_wp2
 go_region_held3 (fun W=>W.cell? ⟨w.heap.size,0,X⟩=J (O a m c)∧W.cell? ⟨w.heap.size,1,X⟩=J (V s)∧W.cell? ⟨w.heap.size+1,0,X⟩=J (O a' m' c')∧W.cell? ⟨w.heap.size+1,1,X⟩=J (V s')) ((repeat' (with_reducible refine And.intro ?_ ?_))<;>(first|(go_simp;done)|(refine hx1.cellS ?_;go_simp;done))) (first|((go_at_call 113;(with_reducible refine(zeg _ (Y #[O a m c]) (Y #[O a' m' c']) x.natAbs y.natAbs ?_ ?_ HLa.out HLb.out).mono ?_);(refine hda.ext ?_;exact eA);(refine hdb.ext ?_;exact eA);rintro e w1 ⟨r1,rfl,hr1,hx1⟩;obtain⟨a1,m1,c1,rfl⟩:=hr1.isD.form;obtain⟨⟨hc1,hf1⟩,z1_0,z1_1,z1_2⟩:=cK3 w hx1))|((go_at_call 112;(with_reducible refine(zaA _ (!(s==s')) (Y #[O a1 m1 c1]) ((x.natAbs:Int)*(y.natAbs:Int)) ?_).mono ?_);(refine hr1.isD.ext ?_;exact eA);rintro e w2 ⟨r2,rfl,hr2,hx2⟩;obtain⟨a2,m2,c2,s2,rfl⟩:=hr2.form;obtain⟨⟨hc2,hf2⟩,z2_0,z2_1,z2_2⟩:=cK3 w hx2)))
 all_goals go_wp2
 refine bR (v:=Y #[O a2 m2 c2,V s2]) (by simp [results,Tryz.results63,go_sem,hc1,hc2,z1_2,z2_2]) rfl ⟨_,rfl,?_,eA⟩;rw [←zmh Hsa.out Hsb.out];exact hr2.keep kA
theorem Lm.sub {k:Nat} {x y:Int} (h:Lm k x) (h':Lm k y):Lm (k+1) (x-y):=by
 have e:B ^ (k+1)=B ^ k*16777216:=by rw [Int.pow_succ];rfl
 unfold Lm at *;rw [e];omega
theorem zfl (w:Z) (va vb:I) (x y:Int) (ha:IsZ w va x) (hb:IsZ w vb y) (hla:Lm lim x) (hlb:Lm lim y) :
  Calls Tryz.prog 65 #[va,vb] w fun e w'=>e = .returned (N .i64 (x-y).sign)∧Ext w w':=by
 obtain⟨a,m,c,s,rfl⟩:=ha.form;obtain⟨a',m',c',s',rfl⟩:=hb.form;have HLa:=hd9 hla;have HLb:=hd9 hlb;clear hla hlb;go_enter Tryz.func65,Tryz.ntmps65
 go_wp2_with(first|((go_at_call 116;(with_reducible refine(zlt _ (Y #[O a m c,V s]) (Y #[O a' m' c',V s']) x y ?_ ?_ HLa.out HLb.out).mono ?_);(refine ha.ext ?_;exact eA);(refine hb.ext ?_;exact eA);rintro e w1 ⟨r1,rfl,hr1,hx1⟩;obtain⟨a1,m1,c1,s1,rfl⟩:=hr1.form;obtain⟨⟨hc1,hf1⟩,z1_0,z1_1⟩:=cK2 w hx1))|((go_at_call 67;(with_reducible refine(zgc _ (Y #[O a1 m1 c1,V s1]) (x-y) ?_).mono ?_);(refine hr1.ext ?_;exact eA);rintro e w2 ⟨rfl,hx2⟩)))
 go_ret;exact⟨rfl,eA⟩
end
section
open Go.RowKit Go.Shelf
attribute [local go_sem] Oper.semAt_some
def CmS (w:Z) (x y:Int) (W:Z):Prop:=
 Ext w W∧w.heap.size+1+1+1≤W.heap.size∧(∃sl,W.heap[w.heap.size]?=J (.cells #[sl] 61 (0,0))∧IsD W (Y #[sl]) x) ∧
 (∃sl,W.heap[w.heap.size+1]?=J (.cells #[sl] 61 (0,0))∧IsD W (Y #[sl]) y)∧W.heap[w.heap.size+1+1]?=J (.cells #[O X 0 0] 61 (0,0))
theorem CmS.ext {w:Z} {x y:Int} {W W':Z} (h:CmS w x y W) (k:Ext W W'):CmS w x y W':=by
 obtain⟨h1,h2,⟨s1,h3,h4⟩,⟨s2,h5,h6⟩,h7⟩:=h;have:=k.size;exact⟨h1.trans k,by omega,⟨s1,k.heapS h3,h4.ext k⟩,⟨s2,k.heapS h5,h6.ext k⟩,k.heapS h7⟩
theorem CmS.setX {w:Z} {x y x':Int} {W:Z} {sl:I} (h:CmS w x y W) (hd:IsD W (Y #[sl]) x'):CmS w x' y (W.setCell ⟨w.heap.size,0,X⟩ sl):=by
 obtain⟨h1,h2,⟨s1,h3,h4⟩,⟨s2,h5,h6⟩,h7⟩:=h;have hk:∀k,k≠w.heap.size→(W.setCell ⟨w.heap.size,0,X⟩ sl).heap[k]?=W.heap[k]?:=fun k hk=>bS _ _ _ _ hk
 have hT:KeepT 2 W (W.setCell ⟨w.heap.size,0,X⟩ sl):=(KeepT.refl _ W).set h3 (by decide) _;exact⟨h1.set (nE _) _,by rw [qcZ];exact h2,⟨sl,one_setCell h3,hd.keep hT⟩,⟨s2,(hk _ (by omega)).trans h5,h6.keep hT⟩,(hk _ (by omega)).trans h7⟩
theorem CmS.setY {w:Z} {x y y':Int} {W:Z} {sl:I} (h:CmS w x y W) (hd:IsD W (Y #[sl]) y'):CmS w x y' (W.setCell ⟨w.heap.size+1,0,X⟩ sl):=by
 obtain⟨h1,h2,⟨s1,h3,h4⟩,⟨s2,h5,h6⟩,h7⟩:=h;have hk:∀k,k≠w.heap.size+1→(W.setCell ⟨w.heap.size+1,0,X⟩ sl).heap[k]?=W.heap[k]?:=fun k hk=>bS _ _ _ _ hk
 have hT:KeepT 2 W (W.setCell ⟨w.heap.size+1,0,X⟩ sl):=(KeepT.refl _ W).set h5 (by decide) _;exact⟨h1.set (by dsimp only;omega) _,by rw [qcZ];exact h2,⟨s1,(hk _ (by omega)).trans h3,h4.keep hT⟩,⟨sl,one_setCell h5,hd.keep hT⟩,(hk _ (by omega)).trans h7⟩
theorem CmS.keepX {w:Z} {x y:Int} {W:Z} (h:CmS w x y W) (u:I):KeepT 2 W (W.setCell ⟨w.heap.size,0,X⟩ u):=by
 obtain⟨h1,h2,⟨s1,h3,h4⟩,_⟩:=h;exact(KeepT.refl _ W).set h3 (by decide) _
theorem CmS.keepY {w:Z} {x y:Int} {W:Z} (h:CmS w x y W) (u:I):KeepT 2 W (W.setCell ⟨w.heap.size+1,0,X⟩ u):=by
 obtain⟨h1,h2,⟨s1,h3,h4⟩,⟨s2,h5,h6⟩,h7⟩:=h;exact(KeepT.refl _ W).set h5 (by decide) _
theorem CmS.setXY {w:Z} {x y x' y':Int} {W:Z} {s1 s2:I} (h:CmS w x y W) (hd1:IsD W (Y #[s1]) x') (hd2:IsD W (Y #[s2]) y') :
  CmS w x' y' ((W.setCell ⟨w.heap.size,0,X⟩ s1).setCell ⟨w.heap.size+1,0,X⟩ s2):=(h.setX hd1).setY (hd2.keep (h.keepX _))
theorem zdm {k:Nat} {x n:Int} (h:2 ^ k*x=n) (he:x % 2=0):2 ^ (k+1)*(x / 2)=n:=by
 rw [Int.pow_succ,Int.mul_assoc,show 2*(x / 2)=x by omega];exact h
theorem CmS.rdX {w:Z} {x y:Int} {W:Z} (h:CmS w x y W):∃a m c,W.cell? ⟨w.heap.size,0,X⟩=J (O a m c)∧W.frozen? ⟨w.heap.size,0,X⟩=false∧IsD W (Y #[O a m c]) x:=by
 obtain⟨h1,h2,⟨s1,h3,h4⟩,⟨s2,h5,h6⟩,h7⟩:=h;obtain⟨a,m,c,e⟩:=h4.form
 cases e
 exact⟨a,m,c,cell_of_one h3,free_of_one h3,h4⟩
theorem CmS.rdY {w:Z} {x y:Int} {W:Z} (h:CmS w x y W):∃a m c,W.cell? ⟨w.heap.size+1,0,X⟩=J (O a m c)∧W.frozen? ⟨w.heap.size+1,0,X⟩=false∧IsD W (Y #[O a m c]) y:=by
 obtain⟨h1,h2,⟨s1,h3,h4⟩,⟨s2,h5,h6⟩,h7⟩:=h;obtain⟨a,m,c,e⟩:=h6.form
 cases e
 exact⟨a,m,c,cell_of_one h5,free_of_one h5,h6⟩
theorem CmS.rdR {w:Z} {x y:Int} {W:Z} (h:CmS w x y W):W.cell? ⟨w.heap.size+1+1,0,X⟩=J (O X 0 0)∧W.frozen? ⟨w.heap.size+1+1,0,X⟩=false:=⟨cell_of_one h.2.2.2.2,free_of_one h.2.2.2.2⟩
theorem CmS.out {w:Z} {x y g:Int} {W:Z} {sl:I} (h:CmS w x y W) (hd:IsD W (Y #[sl]) g) :
  IsD (W.setCell ⟨w.heap.size+1+1,0,X⟩ sl) (Y #[sl]) g∧Ext w (W.setCell ⟨w.heap.size+1+1,0,X⟩ sl)∧(W.setCell ⟨w.heap.size+1+1,0,X⟩ sl).cell? ⟨w.heap.size+1+1,0,X⟩=J sl:=by
 have h7:=h.2.2.2.2;exact⟨hd.keep ((KeepT.refl _ W).set h7 (by decide) _),h.1.set (by dsimp only;omega) _,cell_of_one (one_setCell h7)⟩
theorem zg2 {x y:Int} (h:x % 2=0) (hy:y % 2=1):Int.gcd (x / 2) y=Int.gcd x y:=by
 have hc:Nat.Coprime 2 y.natAbs:=by
  unfold Nat.Coprime;rw [Nat.gcd_rec,show y.natAbs % 2=1 by omega];rfl
 have e:x.natAbs=2*(x / 2).natAbs:=by omega
 unfold Int.gcd;rw [e];exact(Nat.Coprime.gcd_mul_left_cancel _ hc).symm
theorem zkP {x y:Int} (h0:0≤x) (h:x≤y):Int.gcd x (y + -1*x)=Int.gcd x y:=by
 unfold Int.gcd;rw [show (y + -1*x).natAbs=y.natAbs-x.natAbs by omega];exact Nat.gcd_sub_self_right (by omega)
theorem zmc {x y a b:Int} {k:Nat} (hx:2 ^ k*x=a) (hy:2 ^ k*y=b):(Int.gcd a b:Int)=2 ^ k*(Int.gcd x y:Int):=by
 rw [←hx,←hy,Int.gcd_mul_left];simp [Int.natAbs_pow]
theorem zmp {k n:Nat} (h:(2:Int) ^ k<B ^ n):k<24*n:=by
 apply Classical.byContradiction
 intro hn;have e:B=(2:Int) ^ 24:=by decide
 rw [e,←Int.pow_mul]at h;have:=zbh (b:=(2:Int)) (by decide) (show 24*n≤k by omega);omega
theorem zjn {k:Nat} {x n:Int} (h:Lm lim n) (hx:0<x) (he:2 ^ k*x=n):k<2400000000∧(k:Int)<n:=by
 have h1:(2:Int) ^ k*1≤2 ^ k*x:=Int.mul_le_mul_of_nonneg_left (by omega) (Int.pow_nonneg (by decide));have h2:(2:Int) ^ k<B ^ lim:=by unfold Lm at h;omega
 have h3:=zmp h2;have h4:(k:Int)<2 ^ k:=by exact_mod_cast Nat.lt_two_pow_self (n:=k)
 unfold lim at h3;omega
theorem ze3 {k:Nat} {x n:Int} (hx:0<x) (h:2 ^ k*x=n):x≤n:=by
 have h1:(1:Int)≤2 ^ k:=by have:=zaB (b:=(2:Int)) (by decide) k;omega
 have h2:1*x≤2 ^ k*x:=Int.mul_le_mul_of_nonneg_right h1 (by omega);omega
theorem ziY {x y:Int} (h:y % 2=0) (hx:x % 2=1):Int.gcd x (y / 2)=Int.gcd x y:=by
 rw [Int.gcd_comm,zg2 h hx,Int.gcd_comm]
theorem IsD.lm {w:Z} {a:Option Addr} {m c:Nat} {n:Int} (h:IsD w (Y #[O a m c]) n) {k:Nat} (hk:m≤k):Lm k n:=by
 obtain⟨ds,h1,h2,h3,h4⟩:=h.open;rw [←h4];exact Lm.dig h3.1 (by omega)
theorem zgm (w:Z) (x y:Int) (hx:0≤x∧x<18446744073709551616) (hy:0≤y∧y<18446744073709551616) :
  Calls Tryz.prog 201 #[N .u64 x,N .u64 y] w fun e w'=>e = .returned (N .u64 (Int.gcd x y:Nat))∧Ext w w':=by
 obtain⟨a,rfl⟩:=Int.eq_ofNat_of_zero_le hx.1;obtain⟨b,rfl⟩:=Int.eq_ofNat_of_zero_le hy.1;exact zgl w a b (by omega) (by omega)
theorem lm2 {x:Int} (h:Lm 2 x):x<281474976710656:=by
 have:B ^ 2=281474976710656:=by decide
 unfold Lm at h;omega
theorem zmb {x y:Int} (h:0<x):(Int.gcd x y:Int)≤x:=Int.le_of_dvd h (Int.gcd_dvd_left ..)
def CmA (w:Z) (na nb:Int) (g:Nat) (t5:I) (wr:Z):Prop:=
 ∃(k:Nat) (x y:Int),t5=N .i64 k∧g=na.toNat-k∧0<x∧0<y∧2 ^ k*x=na∧2 ^ k*y=nb∧CmS w x y wr
def CmB (w:Z) (na nb:Int) (t5:I) (wr:Z):Prop:=
 ∃(k:Nat) (x y:Int),t5=N .i64 k∧0<x∧0<y∧(x % 2=1∨y % 2=1)∧2 ^ k*x=na∧2 ^ k*y=nb∧CmS w x y wr
def CmC (w:Z) (G M:Int) (k:Nat) (g:Nat) (_:I) (wr:Z):Prop:=
 ∃(x y:Int),0<x∧0<y∧(x % 2=1∨y % 2=1)∧x≤M∧y≤M∧2 ^ k*(Int.gcd x y:Int)=G∧g=x.toNat∧CmS w x y wr
def CmD (w:Z) (G M:Int) (k:Nat) (g:Nat) (_:I) (wr:Z):Prop:=
 ∃(x y:Int),0<x∧0≤y∧x % 2=1∧x≤M∧y≤M∧2 ^ k*(Int.gcd x y:Int)=G∧g=(x+y).toNat∧CmS w x y wr
def CmE (w:Z) (G M:Int) (k:Nat) (x y:Int) (g:Nat) (_:I) (wr:Z):Prop:=
 ∃(y':Int),0<y'∧y'≤y∧2 ^ k*(Int.gcd x y':Int)=G∧g=y'.toNat∧CmS w x y' wr
def CmF (w:Z) (G M:Int) (k:Nat) (x y:Int) (_:I) (wr:Z):Prop:=
 ∃(x' y':Int),0<x'∧x'≤y'∧x' % 2=1∧y'≤M∧y'<x+y∧2 ^ k*(Int.gcd x' y':Int)=G∧CmS w x' y' wr
theorem ziC {a b:Int} (h:b<a):decide (0<cmp3 a b)=true:=by simp only [cmp3];grind
theorem ziB {a b:Int} (h:a≤b):decide (0<cmp3 a b)=false:=by simp only [cmp3];grind
theorem zhH (w:Z) (va vb:I) (na nb:Int) (ha:IsD w va na) (hb:IsD w vb nb) (hla:Lm lim na) (hlb:Lm lim nb) :
  Calls Tryz.prog 159 #[va,vb] w fun e w'=>∃r,e = .returned r∧IsD w' r (Int.gcd na nb:Nat)∧Ext w w':=by
 obtain⟨a,m,c,rfl⟩:=ha.form;obtain⟨a',m',c',rfl⟩:=hb.form;have h0:=ha.nonneg;have h0':=hb.nonneg;have Hla:=hd9 hla;have Hlb:=hd9 hlb;clear hla hlb
 have hs0:CmS w na nb (((w.alloc (.cells #[O a m c] 61)).alloc (.cells #[O a' m' c'] 61)).alloc (.cells #[O X 0 0] 61)):=by
  refine⟨eA,by simp,⟨_,?_,ha.ext eA⟩,⟨_,?_,hb.ext eA⟩,?_⟩
  ·rw [zae,zae,zae];simp only [wZ];rw [if_neg (by omega),if_neg (by omega),if_pos trivial]
  ·rw [zae,zae];simp only [wZ];rw [if_neg (by omega),if_pos trivial]
  ·rw [zae];simp only [wZ];rw [if_pos trivial]
 have Hs0:=hd9 hs0;have hDa:=ha.ext hs0.1;have hDb:=hb.ext hs0.1;clear hs0
 by_cases hz:na=0
 ·have hzb:(na==0)=true:=by simpa using hz
  go_enter Tryz.func159,Tryz.ntmps159
  go_wp2_with(go_at_call 92;(with_reducible refine(zan _ _ _ hDa).mono ?_);rintro e w1 ⟨rfl,hx1⟩;have Hs1:=Hs0.out.ext hx1;obtain⟨aY,mY,cY,hcY,hfY,hDY⟩:=Hs1.rdY;obtain⟨hcR,hfR⟩:=Hs1.rdR)
  obtain⟨o1,o2,o3⟩:=Hs1.out hDY;refine bR (v:=Y #[O aY mY cY]) (by simp [results,Tryz.results159,go_sem,o3]) rfl ⟨_,rfl,?_,o2⟩;rw [hz];simpa [Int.natAbs_of_nonneg h0'] using o1
 have hza:(na==0)=false:=by simpa using hz
 by_cases hz2:nb=0
 ·have hzb:(nb==0)=true:=by simpa using hz2
  go_enter Tryz.func159,Tryz.ntmps159
  go_wp2_with(first|(go_at_call 92;(with_reducible refine(zan _ _ _ hDa).mono ?_);rintro e w1 ⟨rfl,hx1⟩;have Hs1:=Hs0.out.ext hx1;obtain⟨aY,mY,cY,hcY,hfY,hDY⟩:=Hs1.rdY)|(go_at_call 92;(with_reducible refine(zan _ _ _ hDY).mono ?_);rintro e w2 ⟨rfl,hx2⟩;have Hs2:=Hs1.ext hx2;obtain⟨aX,mX,cX,hcX,hfX,hDX⟩:=Hs2.rdX;obtain⟨hcR,hfR⟩:=Hs2.rdR))
  obtain⟨o1,o2,o3⟩:=Hs2.out hDX;refine bR (v:=Y #[O aX mX cX]) (by simp [results,Tryz.results159,go_sem,o3]) rfl ⟨_,rfl,?_,o2⟩;rw [hz2];simpa [Int.natAbs_of_nonneg h0] using o1
 have hzb:(nb==0)=false:=by simpa using hz2
 obtain⟨G,hG⟩:∃G:Int,(Int.gcd na nb:Int)=G:=⟨_,rfl⟩
 obtain⟨M,hM1,hM2,hM⟩:∃M:Int,na≤M∧nb≤M∧Hid (Lm lim M):=by
  rcases Int.le_total na nb with h|h
  ·exact⟨nb,h,Int.le_refl _,Hlb⟩
  ·exact⟨na,Int.le_refl _,h,Hla⟩
 rw [hG];have HG:=hd9 hG;clear hG;go_enter Tryz.func159,Tryz.ntmps159
 go_upto_block 1 with (first|(go_at_call 92;(with_reducible refine(zan _ _ _ hDa).mono ?_);rintro e w1 ⟨rfl,hx1⟩;have Hs1:=Hs0.out.ext hx1;obtain⟨aY,mY,cY,hcY,hfY,hDY⟩:=Hs1.rdY)|(go_at_call 92;(with_reducible refine(zan _ _ _ hDY).mono ?_);rintro e w2 ⟨rfl,hx2⟩;have Hs2:=Hs1.ext hx2))
 go_cut [5] (CmB w na nb)
 case first =>
  go_wp2
  go_loopg [5] na.toNat (CmA w na nb)
  case atStart=>exact⟨0,na,nb,rfl,rfl,by omega,by omega,by simp,by simp,Hs2⟩
  case round =>
   clear Hs2 Hs1 hx1 hx2 hcY hfY hDY;obtain⟨k,x,y,rfl,rfl,hx0,hy0,hxe,hye,hs⟩:=hrel;obtain⟨aX,mX,cX,hcX,hfX,hDX⟩:=hs.rdX;obtain⟨aY,mY,cY,hcY,hfY,hDY⟩:=hs.rdY;obtain⟨hcR,hfR⟩:=hs.rdR;have zr_0:w.heap.size<wr.heap.size:=(by have:=hs.2.1;omega);have zr_1:w.heap.size+1<wr.heap.size:=(by have:=hs.2.1;omega);have zr_2:w.heap.size+1+1<wr.heap.size:=(by have:=hs.2.1;omega);have Hs:=hd9 hs;clear hs;have Hxe:=hd9 hxe;have Hye:=hd9 hye;have hkb:=zjn Hla.out hx0 hxe;have hkw:IntKind.i64.wrap ((k:Int)+1)=(k:Int)+1:=iW _ (by omega);have HLx:Hid (Lm lim x):=hd9 (Hla.out.le (by omega) (ze3 hx0 hxe));have HLy:Hid (Lm lim y):=hd9 (Hlb.out.le (by omega) (ze3 hy0 hye));clear hxe hye
   by_cases hev:x % 2=0
   ·have hevb:(x % 2==0)=true:=by simpa using hev
    by_cases hev2:y % 2=0
    ·have hevb2:(y % 2==0)=true:=by simpa using hev2
     go_wp2_with(first|(go_at_call 199;(with_reducible refine(zba _ (Y #[O aX mX cX]) x ?_ hx0).mono ?_);(refine hDX.ext ?_;exact eA);rintro e w1 ⟨rfl,hx1⟩;obtain⟨⟨hc1,hf1⟩,z1_0,z1_1,z1_2⟩:=cK3 w hx1)|(go_at_call 199;(with_reducible refine(zba _ (Y #[O aY mY cY]) y ?_ hy0).mono ?_);(refine hDY.ext ?_;exact eA);rintro e w2 ⟨rfl,hx2⟩;obtain⟨⟨hc2,hf2⟩,z2_0,z2_1,z2_2⟩:=cK3 w hx2))
     go_region_with (first|((go_at_call 200;(with_reducible refine(zdl _ (Y #[O aX mX cX]) x ?_ HLx.out).mono ?_);(refine hDX.ext ?_;exact eA);rintro e w3 ⟨r3,rfl,hr3,hx3⟩;obtain⟨aR3,mR3,cR3,rfl⟩:=hr3.isD.form;obtain⟨⟨hc3,hf3⟩,z3_0,z3_1,z3_2⟩:=cK3 w hx3))|((go_at_call 200;(with_reducible refine(zdl _ (Y #[O aY mY cY]) y ?_ HLy.out).mono ?_);(refine hDY.ext ?_;exact eA);rintro e w4 ⟨r4,rfl,hr4,hx4⟩;obtain⟨aR4,mR4,cR4,rfl⟩:=hr4.isD.form;obtain⟨⟨hc4,hf4⟩,z4_0,z4_1,z4_2⟩:=cK3 w hx4)))
     all_goals
      go_wp2
      go_roundg (na.toNat-(k+1))
      case measure=>omega
      case rel=>first|exact⟨k+1,x / 2,y / 2,zby (by omega),rfl,by omega,by omega,zdm Hxe.out hev,zdm Hye.out hev2,(Hs.out.ext eA).setXY (hr3.isD.ext eA) hr4.isD⟩|((repeat apply Exists.intro);exact⟨⟨k+1,x / 2,y / 2,zby (by omega),rfl,by omega,by omega,zdm Hxe.out hev,zdm Hye.out hev2,(Hs.out.ext eA).setXY (hr3.isD.ext eA) hr4.isD⟩,rfl⟩)
    ·have hevb2:(y % 2==0)=false:=by simpa using hev2
     go_wp2_with(first|(go_at_call 199;(with_reducible refine(zba _ (Y #[O aX mX cX]) x ?_ hx0).mono ?_);(refine hDX.ext ?_;exact eA);rintro e w1 ⟨rfl,hx1⟩;obtain⟨⟨hc1,hf1⟩,z1_0,z1_1,z1_2⟩:=cK3 w hx1)|(go_at_call 199;(with_reducible refine(zba _ (Y #[O aY mY cY]) y ?_ hy0).mono ?_);(refine hDY.ext ?_;exact eA);rintro e w2 ⟨rfl,hx2⟩;obtain⟨⟨hc2,hf2⟩,z2_0,z2_1,z2_2⟩:=cK3 w hx2))
     go_meet;exact⟨k,x,y,rfl,hx0,hy0,.inr (by omega),Hxe.out,Hye.out,Hs.out.ext eA⟩
   ·have hevb:(x % 2==0)=false:=by simpa using hev
    go_wp2_with(first|(go_at_call 199;(with_reducible refine(zba _ (Y #[O aX mX cX]) x ?_ hx0).mono ?_);(refine hDX.ext ?_;exact eA);rintro e w1 ⟨rfl,hx1⟩;obtain⟨⟨hc1,hf1⟩,z1_0,z1_1,z1_2⟩:=cK3 w hx1))
    go_meet;exact⟨k,x,y,rfl,hx0,hy0,.inl (by omega),Hxe.out,Hye.out,Hs.out.ext eA⟩
 case rest =>
  obtain⟨k,x0,y0,rfl,hx0,hy0,hod,hxe,hye,hs⟩:=hcut;have hg0:2 ^ k*(Int.gcd x0 y0:Int)=G:=by rw [←HG.out];exact(zmc hxe hye).symm
  have hxM:=Int.le_trans (ze3 hx0 hxe) hM1;have hyM:=Int.le_trans (ze3 hy0 hye) hM2;have Hkb:=hd9 (zjn Hla.out hx0 hxe).1;clear hxe hye hM1 hM2 hDa hDb Hs0;go_wp2
  go_loopg [26] x0.toNat (CmC w G M k)
  case atStart=>exact⟨x0,y0,hx0,hy0,hod,hxM,hyM,hg0,rfl,hs⟩
  case round =>
   clear hs hg0 hxM hyM hod hx0 hy0;obtain⟨x,y,hx0,hy0,hod,hxM,hyM,hg,rfl,hs⟩:=hrel;obtain⟨aX,mX,cX,hcX,hfX,hDX⟩:=hs.rdX;obtain⟨aY,mY,cY,hcY,hfY,hDY⟩:=hs.rdY;obtain⟨hcR,hfR⟩:=hs.rdR;have zr_0:w.heap.size<wr.heap.size:=(by have:=hs.2.1;omega);have zr_1:w.heap.size+1<wr.heap.size:=(by have:=hs.2.1;omega);have zr_2:w.heap.size+1+1<wr.heap.size:=(by have:=hs.2.1;omega);have Hs:=hd9 hs;clear hs;have Hg:=hd9 hg;clear hg;have HLx:Hid (Lm lim x):=hd9 (hM.out.le (by omega) hxM)
   by_cases hev:x % 2=0
   ·have hevb:(x % 2==0)=true:=by simpa using hev
    go_wp2_with(first|(go_at_call 199;(with_reducible refine(zba _ (Y #[O aX mX cX]) x ?_ hx0).mono ?_);(refine hDX.ext ?_;exact eA);rintro e w1 ⟨rfl,hx1⟩;obtain⟨⟨hc1,hf1⟩,z1_0,z1_1,z1_2⟩:=cK3 w hx1)|((go_at_call 200;(with_reducible refine(zdl _ (Y #[O aX mX cX]) x ?_ HLx.out).mono ?_);(refine hDX.ext ?_;exact eA);rintro e w2 ⟨r2,rfl,hr2,hx2⟩;obtain⟨aR2,mR2,cR2,rfl⟩:=hr2.isD.form;obtain⟨⟨hc2,hf2⟩,z2_0,z2_1,z2_2⟩:=cK3 w hx2)))
    go_roundg (x / 2).toNat
    case measure=>omega
    case rel=>exact⟨x / 2,y,by omega,hy0,.inr (by omega),by omega,hyM,by rw [zg2 hev (by omega)];exact Hg.out,rfl,(Hs.out.ext eA).setX hr2.isD⟩
   ·have hevb:(x % 2==0)=false:=by simpa using hev
    have hxo:x % 2=1:=by omega
    go_wp2_with(first|(go_at_call 199;(with_reducible refine(zba _ (Y #[O aX mX cX]) x ?_ hx0).mono ?_);(refine hDX.ext ?_;exact eA);rintro e w1 ⟨rfl,hx1⟩;obtain⟨⟨hc1,hf1⟩,z1_0,z1_1,z1_2⟩:=cK3 w hx1))
    go_loopg [30] (x+y).toNat (CmD w G M k)
    case atStart=>exact⟨x,y,hx0,by omega,hxo,hxM,hyM,Hg.out,rfl,Hs.out.ext eA⟩
    case round =>
     clear hx1 hc1 hf1 z1_0 z1_1 z1_2 hcX hfX hDX hcY hfY hDY hcR hfR zr_0 zr_1 zr_2 Hs Hg HLx hxM hyM hod hx0 hy0 hev hevb hxo;obtain⟨x,y,hx0,hy0,hxo,hxM,hyM,hg,rfl,hs⟩:=hrel;obtain⟨aX,mX,cX,hcX,hfX,hDX⟩:=hs.rdX;obtain⟨aY,mY,cY,hcY,hfY,hDY⟩:=hs.rdY;obtain⟨hcR,hfR⟩:=hs.rdR;have zr_0:w.heap.size<wr.heap.size:=(by have:=hs.2.1;omega);have zr_1:w.heap.size+1<wr.heap.size:=(by have:=hs.2.1;omega);have zr_2:w.heap.size+1+1<wr.heap.size:=(by have:=hs.2.1;omega);have Hs:=hd9 hs;clear hs;have Hg:=hd9 hg;clear hg;have HLx:Hid (Lm lim x):=hd9 (hM.out.le (by omega) hxM)
     by_cases hy1:y=0
     ·have hyb:(y==0)=true:=by simpa using hy1
      have HK:k≤10000000000:=by have:=Hkb.out;omega
      go_wp2_with(first|(go_at_call 92;(with_reducible refine(zan _ (Y #[O aY mY cY]) y ?_).mono ?_);(refine hDY.ext ?_;exact eA);rintro e w1 ⟨rfl,hx1⟩;obtain⟨⟨hc1,hf1⟩,z1_0,z1_1,z1_2⟩:=cK3 w hx1)|((go_at_call 202;(with_reducible refine(zea _ (Y #[O aX mX cX]) x k ?_ HLx.out HK).mono ?_);(refine hDX.ext ?_;exact eA);rintro e w2 ⟨r2,rfl,hr2,hx2⟩;obtain⟨aR2,mR2,cR2,rfl⟩:=hr2.isD.form;obtain⟨⟨hc2,hf2⟩,z2_0,z2_1,z2_2⟩:=cK3 w hx2)))
      obtain⟨o1,o2,o3⟩:=(Hs.out.ext (w:=w) (W':=w2) eA).out hr2.isD;refine bR (v:=Y #[O aR2 mR2 cR2]) (by simp [results,Tryz.results159,go_sem,o3]) rfl ⟨_,rfl,?_,o2⟩;have e:2 ^ k*x=G:=by rw [←Hg.out,hy1];simp [Int.natAbs_of_nonneg (show 0≤x by omega)]
      rw [←e];exact o1
     ·have hyb:(y==0)=false:=by simpa using hy1
      go_wp2_with(first|(go_at_call 92;(with_reducible refine(zan _ (Y #[O aY mY cY]) y ?_).mono ?_);(refine hDY.ext ?_;exact eA);rintro e w1 ⟨rfl,hx1⟩;obtain⟨⟨hc1,hf1⟩,z1_0,z1_1,z1_2⟩:=cK3 w hx1))
      go_loopg [33] y.toNat (CmE w G M k x y)
      case atStart=>exact⟨y,by omega,Int.le_refl _,Hg.out,rfl,Hs.out.ext eA⟩
      case round =>
       clear hx1 hc1 hf1 z1_0 z1_1 z1_2 hcX hfX hDX hcY hfY hDY hcR hfR zr_0 zr_1 zr_2 Hs Hg;obtain⟨y',hy0',hyy,hg,rfl,hs⟩:=hrel;obtain⟨aX,mX,cX,hcX,hfX,hDX⟩:=hs.rdX;obtain⟨aY,mY,cY,hcY,hfY,hDY⟩:=hs.rdY;obtain⟨hcR,hfR⟩:=hs.rdR;have zr_0:w.heap.size<wr.heap.size:=(by have:=hs.2.1;omega);have zr_1:w.heap.size+1<wr.heap.size:=(by have:=hs.2.1;omega);have zr_2:w.heap.size+1+1<wr.heap.size:=(by have:=hs.2.1;omega);have Hs:=hd9 hs;clear hs;have Hg:=hd9 hg;clear hg;have HLy:Hid (Lm lim y'):=hd9 (hM.out.le (by omega) (by omega))
       by_cases hev:y' % 2=0
       ·have hevb:(y' % 2==0)=true:=by simpa using hev
        go_wp2_with(first|(go_at_call 199;(with_reducible refine(zba _ (Y #[O aY mY cY]) y' ?_ hy0').mono ?_);(refine hDY.ext ?_;exact eA);rintro e w1 ⟨rfl,hx1⟩;obtain⟨⟨hc1,hf1⟩,z1_0,z1_1,z1_2⟩:=cK3 w hx1)|((go_at_call 200;(with_reducible refine(zdl _ (Y #[O aY mY cY]) y' ?_ HLy.out).mono ?_);(refine hDY.ext ?_;exact eA);rintro e w2 ⟨r2,rfl,hr2,hx2⟩;obtain⟨aR2,mR2,cR2,rfl⟩:=hr2.isD.form;obtain⟨⟨hc2,hf2⟩,z2_0,z2_1,z2_2⟩:=cK3 w hx2)))
        go_roundg (y' / 2).toNat
        case measure=>omega
        case rel=>exact⟨y' / 2,by omega,by omega,by rw [ziY hev hxo];exact Hg.out,rfl,(Hs.out.ext eA).setY hr2.isD⟩
       ·have hevb:(y' % 2==0)=false:=by simpa using hev
        have hyo:y' % 2=1:=by omega
        go_upto_if 40 with (first|(go_at_call 199;(with_reducible refine(zba _ (Y #[O aY mY cY]) y' ?_ hy0').mono ?_);(refine hDY.ext ?_;exact eA);rintro e w1 ⟨rfl,hx1⟩;obtain⟨⟨hc1,hf1⟩,z1_0,z1_1,z1_2⟩:=cK3 w hx1)|((go_at_call 125;(with_reducible refine(za0 _ (Y #[O aX mX cX]) (Y #[O aY mY cY]) x y' ?_ ?_).mono ?_);(refine hDX.ext ?_;exact eA);(refine hDY.ext ?_;exact eA);rintro e w2 ⟨rfl,hx2⟩;obtain⟨⟨hc2,hf2⟩,z2_0,z2_1,z2_2⟩:=cK3 w hx2)))
        go_cut [41] (CmF w G M k x y)
        case first =>
         rcases Int.lt_or_le y' x with hcm|hcm
         ·have hcb:=ziC hcm
          have hcq:0<cmp3 x y':=of_decide_eq_true hcb;have Hcm:=hd9 hcm;clear hcm;go_wp2;go_meet;exact⟨y',x,hy0',by have:=Hcm.out;omega,hyo,hxM,by omega,by rw [Int.gcd_comm];exact Hg.out,(Hs.out.ext (W':=w2) eA).setXY (hDY.ext eA) (hDX.ext eA)⟩
         ·have hcb:=ziB hcm
          have hcq:cmp3 x y'≤0:=by have:=of_decide_eq_false hcb;omega
          have Hcm:=hd9 hcm;clear hcm;go_wp2;go_meet;exact⟨x,y',hx0,Hcm.out,hxo,by omega,by omega,Hg.out,Hs.out.ext (W':=w2) eA⟩
        case rest =>
         clear hx1 hc1 hf1 z1_0 z1_1 z1_2 hx2 hc2 hf2 z2_0 z2_1 z2_2 hcX hfX hDX hcY hfY hDY hcR hfR zr_0 zr_1 zr_2 Hs Hg;obtain⟨x',y',hx0',hxy',hxo',hyM',hlt',hg,hs⟩:=hcut;obtain⟨wr,rfl⟩:∃W,W=wc:=⟨_,rfl⟩;obtain⟨aX,mX,cX,hcX,hfX,hDX⟩:=hs.rdX;obtain⟨aY,mY,cY,hcY,hfY,hDY⟩:=hs.rdY;obtain⟨hcR,hfR⟩:=hs.rdR;have zr_0:w.heap.size<wr.heap.size:=(by have:=hs.2.1;omega);have zr_1:w.heap.size+1<wr.heap.size:=(by have:=hs.2.1;omega);have zr_2:w.heap.size+1+1<wr.heap.size:=(by have:=hs.2.1;omega);have Hs:=hd9 hs;clear hs;have HLx':Hid (Lm lim x'):=hd9 (hM.out.le (by omega) (by omega));have HLy':Hid (Lm lim y'):=hd9 (hM.out.le (by omega) (by omega));have hg':2 ^ k*(Int.gcd x' (y' + -1*x'):Int)=G:=by rw [zkP (by omega) hxy'];exact hg
         have Hg:=hd9 hg';clear hg hg'
         by_cases hm1:mX≤2
         ·have hm1b:decide ((mX:Int)≤2)=true:=by simp;omega
          have hm1p:(mX:Int)≤2:=by omega
          go_wp2_with(first|((go_at_call 114;(with_reducible refine(zaN _ (Y #[O aY mY cY]) (Y #[O aX mX cX]) y' x' (-1) ?_ ?_ HLy'.out HLx'.out (by omega) (by omega)).mono ?_);(refine hDY.ext ?_;exact eA);(refine hDX.ext ?_;exact eA);rintro e w1 ⟨r1,rfl,hr1,hx1⟩;obtain⟨a1,m1,c1,rfl⟩:=hr1.isD.form;obtain⟨⟨hc1,hf1⟩,z1_0,z1_1,z1_2⟩:=cK3 w hx1;rcases Nat.lt_or_ge 2 m1 with hm2|hm2)))
          ·go_roundg (x'+(y' + -1*x')).toNat
           case measure=>omega
           case rel=>exact⟨x',y' + -1*x',hx0',by omega,hxo',by omega,by omega,Hg.out,rfl,(Hs.out.ext eA).setY hr1.isD⟩
          ·have HK:k≤10000000000:=by have:=Hkb.out;omega
           obtain⟨z,hz⟩:=gX (y' + -1*x');rw [hz]at hr1 Hg;have hz0:0≤z:=by omega
           clear hz;have hS1:CmS w x' y' w1:=Hs.out.ext eA;have hS2:=hS1.setY (sl:=O a1 m1 c1) (hr1.isD);have hDX2:=(hDX.ext (w':=w1) eA).keep (hS1.keepY (O a1 m1 c1));have hDY2:=hr1.isD.keep (hS1.keepY (O a1 m1 c1));have Hl2:=hd9 (hDX.lm hm1);have Hl3:=hd9 (hr1.isD.lm hm2);have hb2:=lm2 (hDX.lm hm1);have hb3:=lm2 (hr1.isD.lm hm2);have hgl:=zmb (y:=z) hx0';have hg0:0≤(Int.gcd x' (z):Int):=Int.natCast_nonneg _;have HLg:Hid (Lm lim (Int.gcd x' (z):Int)):=hd9 (HLx'.out.le hg0 hgl);have HS2:=hd9 hS2;clear hS2 hS1
           go_region_held3 (fun W=>W.cell? ⟨w.heap.size,0,X⟩=J (O aX mX cX)∧W.cell? ⟨w.heap.size+1,0,X⟩=J (O a1 m1 c1)) ((repeat' (with_reducible refine And.intro ?_ ?_))<;>(first|(go_simp;done)|(refine hx1.cellS ?_;go_simp;done))) (first|((go_at_call 107;(with_reducible refine(zcI _ (Y #[O aX mX cX]) x' ?_ Hl2.out).mono ?_);(refine hDX2.ext ?_;exact eA);rintro e w3 ⟨rfl,hx3⟩;obtain⟨⟨hc3,hf3⟩,z3_0,z3_1,z3_2⟩:=cK3 w hx3))|((go_at_call 107;(with_reducible refine(zcI _ (Y #[O a1 m1 c1]) (z) ?_ Hl3.out).mono ?_);(refine hDY2.ext ?_;exact eA);rintro e w4 ⟨rfl,hx4⟩;obtain⟨⟨hc4,hf4⟩,z4_0,z4_1,z4_2⟩:=cK3 w hx4))|((go_at_call 201;(with_reducible refine(zgm _ x' (z) ⟨by omega,by omega⟩ ⟨by omega,by omega⟩).mono ?_);rintro e w5 ⟨rfl,hx5⟩;obtain⟨⟨hc5,hf5⟩,z5_0,z5_1,z5_2⟩:=cK3 w hx5))|((go_at_call 115;(with_reducible refine(zbM _ (Int.gcd x' (z):Nat) hg0 (by omega)).mono ?_);rintro e w6 ⟨r6,rfl,hr6,hx6⟩;obtain⟨a6,m6,c6,rfl⟩:=hr6.isD.form;obtain⟨⟨hc6,hf6⟩,z6_0,z6_1,z6_2⟩:=cK3 w hx6))|((go_at_call 202;(with_reducible refine(zea _ (Y #[O a6 m6 c6]) (Int.gcd x' (z):Nat) k ?_ HLg.out HK).mono ?_);(refine hr6.isD.ext ?_;exact eA);rintro e w7 ⟨r7,rfl,hr7,hx7⟩;obtain⟨a7,m7,c7,rfl⟩:=hr7.isD.form;obtain⟨⟨hc7,hf7⟩,z7_0,z7_1,z7_2⟩:=cK3 w hx7)))
           all_goals go_wp2
           obtain⟨o1,o2,o3⟩:=(HS2.out.ext (W':=w7) eA).out hr7.isD;refine bR (v:=Y #[O a7 m7 c7]) (by simp [results,Tryz.results159,go_sem,o3]) rfl ⟨_,rfl,?_,o2⟩;rw [Hg.out]at o1;exact o1
         ·have hm1b:decide ((mX:Int)≤2)=false:=by simp;omega
          have hm1p:2<(mX:Int):=by omega
          go_wp2_with(first|((go_at_call 114;(with_reducible refine(zaN _ (Y #[O aY mY cY]) (Y #[O aX mX cX]) y' x' (-1) ?_ ?_ HLy'.out HLx'.out (by omega) (by omega)).mono ?_);(refine hDY.ext ?_;exact eA);(refine hDX.ext ?_;exact eA);rintro e w1 ⟨r1,rfl,hr1,hx1⟩;obtain⟨a1,m1,c1,rfl⟩:=hr1.isD.form;obtain⟨⟨hc1,hf1⟩,z1_0,z1_1,z1_2⟩:=cK3 w hx1)))
          go_roundg (x'+(y' + -1*x')).toNat
          case measure=>omega
          case rel=>exact⟨x',y' + -1*x',hx0',by omega,hxo',by omega,by omega,Hg.out,rfl,(Hs.out.ext eA).setY hr1.isD⟩
end
end Go.Proofs.YtodpfeaihohpjaaGreatDoor.Cop
