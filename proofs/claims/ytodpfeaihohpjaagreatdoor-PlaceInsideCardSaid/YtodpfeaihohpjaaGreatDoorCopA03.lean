/- Part 4: contracts of what the law calls. -/
import Derived.Test.YtodpfeaihohpjaaGreatDoorCopA02
import Derived.Deep.LoopGhost
import Derived.Deep.CutBlock
import Derived.Deep.DeepCutAuto
set_option maxRecDepth 1000000
set_option maxHeartbeats 16000000
set_option linter.unusedSimpArgs false
set_option linter.unusedVariables false
open Go.Value renaming slice→O,agg→Z,bool→V,int→N
open Go renaming World→Y,Value→I
open Option renaming none→X,some→J
namespace Go.Proofs.YtodpfeaihohpjaaGreatDoor.Cop
section
open Go.RowKit Go.Shelf
theorem qcD (w:Y) (p:Addr):w.drew.cell? p=w.cell? p:=rfl
theorem qfD (w:Y) (p:Addr):w.drew.frozen? p=w.frozen? p:=rfl
theorem qdZ (w:Y):w.drew.heap.size=w.heap.size:=rfl
theorem Ext.lt {a b:Y} (h:Ext a b) {n:Nat} (c:n<a.heap.size):n<b.heap.size:=Nat.lt_of_lt_of_le c h.size
theorem cK0 {a c:Y} {A:Prop} (h:Ext a c) (e:((∀b o,b<a.heap.size→c.cell? ⟨b,o,X⟩=a.cell? ⟨b,o,X⟩)∧(∀b o,b<a.heap.size→c.frozen? ⟨b,o,X⟩=a.frozen? ⟨b,o,X⟩))→A:=by(intro h;(try simp only [qcD,qfD,qdZ]at h);exact h)):A:=e h.cells
theorem cK1 (w:Y) {a c:Y} {A:Prop} (h:Ext a c) (d:w.heap.size<a.heap.size:=by go_simp) (e:((∀b o,b<a.heap.size→c.cell? ⟨b,o,X⟩=a.cell? ⟨b,o,X⟩)∧(∀b o,b<a.heap.size→c.frozen? ⟨b,o,X⟩=a.frozen? ⟨b,o,X⟩))→A:=by(intro h;(try simp only [qcD,qfD,qdZ]at h);exact h)):A∧w.heap.size<c.heap.size:=⟨e h.cells,h.lt d⟩
theorem cK2 (w:Y) {a c:Y} {A:Prop} (h:Ext a c) (d:w.heap.size+1<a.heap.size:=by go_simp) (e:((∀b o,b<a.heap.size→c.cell? ⟨b,o,X⟩=a.cell? ⟨b,o,X⟩)∧(∀b o,b<a.heap.size→c.frozen? ⟨b,o,X⟩=a.frozen? ⟨b,o,X⟩))→A:=by(intro h;(try simp only [qcD,qfD,qdZ]at h);exact h)):A∧w.heap.size<c.heap.size∧w.heap.size+1<c.heap.size:=⟨e h.cells,h.lt oM,h.lt d⟩
theorem cK3 (w:Y) {a c:Y} {A:Prop} (h:Ext a c) (d:w.heap.size+1+1<a.heap.size:=by go_simp) (e:((∀b o,b<a.heap.size→c.cell? ⟨b,o,X⟩=a.cell? ⟨b,o,X⟩)∧(∀b o,b<a.heap.size→c.frozen? ⟨b,o,X⟩=a.frozen? ⟨b,o,X⟩))→A:=by(intro h;(try simp only [qcD,qfD,qdZ]at h);exact h)):A∧w.heap.size<c.heap.size∧w.heap.size+1<c.heap.size∧w.heap.size+1+1<c.heap.size:=⟨e h.cells,h.lt oM,h.lt oM,h.lt d⟩
theorem cK4 (w:Y) {a c:Y} {A:Prop} (h:Ext a c) (d:w.heap.size+1+1+1<a.heap.size:=by go_simp) (e:((∀b o,b<a.heap.size→c.cell? ⟨b,o,X⟩=a.cell? ⟨b,o,X⟩)∧(∀b o,b<a.heap.size→c.frozen? ⟨b,o,X⟩=a.frozen? ⟨b,o,X⟩))→A:=by(intro h;(try simp only [qcD,qfD,qdZ]at h);exact h)):A∧w.heap.size<c.heap.size∧w.heap.size+1<c.heap.size∧w.heap.size+1+1<c.heap.size∧w.heap.size+1+1+1<c.heap.size:=⟨e h.cells,h.lt oM,h.lt oM,h.lt oM,h.lt d⟩
def NoT (T:TypeId) (w:Y) (b:Nat):Prop:=∀cs fr,w.heap[b]?≠J (.cells cs T fr)
theorem NoT.new {T T':TypeId} {w:Y} {b:Nat} {cs:Array I} {c:Nat×Nat} (g:b=w.heap.size) (f:T'≠T):NoT T (w.alloc (.cells cs T' c)) b:=by
 intro a d e;rw [qhA _ _ _ g]at e
 cases e;exact f rfl
theorem NoT.old {T:TypeId} {w:Y} {b:Nat} {o:Obj} (h:NoT T w b) (d:b≠w.heap.size):NoT T (w.alloc o) b:=by
 intro a c e;rw [zai,if_neg d]at e;exact h a c e
theorem NoT.ext {T:TypeId} {w w':Y} {b:Nat} (h:NoT T w b) (k:Ext w w') (d:b<w.heap.size):NoT T w' b:=by
 intro a c e;rw [k.block d]at e;exact h a c e
theorem NoT.drew {T:TypeId} {w:Y} {b:Nat} (h:NoT T w b):NoT T w.drew b:=h
theorem NoT.drewN {T:TypeId} {w:Y} {b:Nat} (h:NoT T w b) (n:Nat):NoT T (w.drewN n) b:=by
 intro a c e;exact h a c (by simpa [World.drewN] using e)
theorem NoT.set {T:TypeId} {w:Y} {b:Nat} (h:NoT T w b) (p:Addr) (u:I):NoT T (w.setCell p u) b:=by
 intro c f e
 by_cases a:b=p.block
 ·subst a
  simp only [World.setCell,Array.getElem?_modify,if_pos]at e
  cases hw:w.heap[p.block]? with
  | none=>rw [hw]at e;cases e
  | some o =>
   rw [hw]at e
   cases o with
   | cells d T' g =>
    simp only [Option.map_some,Option.some.injEq,Obj.cells.injEq]at e;obtain⟨_,rfl,_⟩:=e;exact h _ _ hw
   | _=>simp at e
 ·rw [bS _ _ _ _ a]at e
  exact h c f e
theorem KeepT.setN {T:TypeId} {a b:Y} (h:KeepT T a b) {p:Addr} (f:NoT T b p.block) (u:I):KeepT T a (b.setCell p u):=fun x d e g=>by
 have c:=h x d e g;rw [bS _ _ _ _ (by rintro rfl;exact f _ _ c)];exact c
theorem NoT.ext2 {T:TypeId} {w w':Y} {b:Nat} (a:b<w.heap.size) (k:Ext w w') (h:NoT T w b):NoT T w' b:=h.ext k a
theorem NoT.old2 {T:TypeId} {w:Y} {b:Nat} {o:Obj} (a:b≠w.heap.size) (h:NoT T w b):NoT T (w.alloc o) b:=h.old a
theorem KeepT.setN2 {T:TypeId} {a b:Y} {p:Addr} (c:NoT T b p.block) (h:KeepT T a b) (u:I):KeepT T a (b.setCell p u):=h.setN c u
theorem nA {T:TypeId} {w:Y} {b:Nat} (h:NoT T w b:=by(repeat(first|with_reducible assumption|with_reducible refine NoT.set ?_ _ _|with_reducible refine NoT.drew ?_|with_reducible refine NoT.drewN ?_ _|(refine NoT.new ?_ ?_;(focus(first|omega|((try dsimp only);(try simp only [wZ,qdZ,qcZ]);(try omega);done)));(focus decide))|(refine NoT.old2 ?_ ?_;(focus(first|omega|((try dsimp only);(try simp only [wZ,qdZ,qcZ]);(try omega);done))))|(refine NoT.ext2 ?_ (by with_reducible assumption) ?_;(focus(first|omega|((try dsimp only);(try simp only [wZ,qdZ,qcZ]);(try omega);done))))))):NoT T w b:=h
theorem kA {T:TypeId} {w a:Y} (h:KeepT T w a:=by repeat(first|with_reducible exact KeepT.refl _ _|(refine Ext.keep ?_;(focus((with_reducible repeat(first|assumption|exact eR _|refine eX ?_|refine eT ?_|refine eS ?_));done)))|with_reducible refine KeepT.alloc ?_ _|(with_reducible refine KeepT.setN2 ?_ ?_ _;(focus(((repeat(first|with_reducible assumption|with_reducible refine NoT.set ?_ _ _|with_reducible refine NoT.drew ?_|with_reducible refine NoT.drewN ?_ _|(refine NoT.new ?_ ?_;(focus(first|omega|((try dsimp only);(try simp only [wZ,qdZ,qcZ]);(try omega);done)));(focus decide))|(refine NoT.old2 ?_ ?_;(focus(first|omega|((try dsimp only);(try simp only [wZ,qdZ,qcZ]);(try omega);done))))|(refine NoT.ext2 ?_ (by with_reducible assumption) ?_;(focus(first|omega|((try dsimp only);(try simp only [wZ,qdZ,qcZ]);(try omega);done)))))));done))))):KeepT T w a:=h
def IsZ (w:Y) (v:I) (n:Int):Prop:=∃a m c s,v=Z #[O a m c,V s]∧s=decide (n<0)∧IsD w (Z #[O a m c]) (n.natAbs:Int)
theorem IsZ.ext {w w':Y} {v:I} {n:Int} (h:IsZ w v n) (k:Ext w w'):IsZ w' v n:=by
 obtain⟨a,m,c,s,rfl,b,d⟩:=h;exact⟨a,m,c,s,rfl,b,d.ext k⟩
theorem IsZ.keep {w w':Y} {v:I} {n:Int} (h:IsZ w v n) (k:KeepT 2 w w'):IsZ w' v n:=by
 obtain⟨a,m,c,s,rfl,b,d⟩:=h;exact⟨a,m,c,s,rfl,b,d.keep k⟩
theorem IsZ.form {w:Y} {v:I} {n:Int} (h:IsZ w v n):∃a m c s,v=Z #[O a m c,V s]:=by
 obtain⟨a,m,c,s,rfl,b,d⟩:=h;exact⟨a,m,c,s,rfl⟩
theorem IsZ.sgn {w:Y} {a:Option Addr} {m c:Nat} {s:Bool} {n:Int} (h:IsZ w (Z #[O a m c,V s]) n):s=decide (n<0):=by
 obtain⟨a,m,c,s,e,b,d⟩:=h;cases e;exact b
theorem IsZ.dig {w:Y} {a:Option Addr} {m c:Nat} {s:Bool} {n:Int} (h:IsZ w (Z #[O a m c,V s]) n):IsD w (Z #[O a m c]) (n.natAbs:Int):=by
 obtain⟨a,m,c,s,e,d,b⟩:=h;cases e;exact b
theorem Lm.abs {k:Nat} {n:Int} (h:Lm k n):Lm k (n.natAbs:Int):=by unfold Lm at *;omega
theorem Lm.neg {k:Nat} {n:Int} (h:Lm k n):Lm k (-n):=by unfold Lm at *;omega
def sg (s:Bool) (n:Int):Int:=if s then -n else n
theorem IsZ.mk {w:Y} {a:Option Addr} {m c:Nat} {n:Int} (b:Bool) (h:IsD w (Z #[O a m c]) n):IsZ w (Z #[O a m c,V (b&&!(n==0))]) (sg b n):=by
 have d:=h.nonneg;refine⟨a,m,c,_,rfl,?_,?_⟩
 ·rw [Bool.eq_iff_iff];cases b<;>simp [sg]<;>omega
 ·have:((sg b n).natAbs:Int)=n:=by cases b<;>simp [sg]<;>omega
  rw [this];exact h
theorem IsZ.nil (w:Y):IsZ w (Z #[O X 0 0,V false]) 0:=⟨_,_,_,_,rfl,rfl,_,[],rfl,Ints.nil _ _,Can.nil _,rfl⟩
def RetZd (w:Y) (n:Int) (e:Ending) (w':Y):Prop:=∃r,e = .returned r∧IsZ w' r n∧Ext w w'∧Dr w w'
def RetZ (w:Y) (n:Int) (e:Ending) (w':Y):Prop:=∃r,e = .returned r∧IsZ w' r n∧Ext w w'
theorem zcP (w:Y) (d:Bool) (v:I) (n:Int) (h:IsD w v n) :
  Calls Tryz.prog 112 #[V d,v] w (RetZd w (sg d n)):=by
 obtain⟨a,m,c,rfl⟩:=h.form
 cases d
 ·go_enter Tryz.func112,Tryz.ntmps112
  go_wp2
  go_region_with (fail)
  all_goals go_wp2
  all_goals exact bR (v:=Z #[O a m c,V (false&&!(n==0))]) (by simp [results,Tryz.results112,go_sem]) rfl ⟨_,rfl,IsZ.mk false (h.ext eA),eA,dA⟩
 ·go_enter Tryz.func112,Tryz.ntmps112
  go_wp2
  go_region_held3 (fun W=>W.cell? ⟨w.heap.size,0,X⟩=J (O a m c)) ((repeat' (with_reducible refine And.intro ?_ ?_))<;>(first|(go_simp;done)|(refine hx1.cellS ?_;go_simp;done))) ((go_at_call 92;(with_reducible refine(zf1 _ (Z #[O a m c]) n ?_).mono ?_);(refine h.ext ?_;exact eA);rintro e i ⟨rfl,hx1,f⟩;obtain⟨b,g⟩:=hx1.cells))
  all_goals go_wp2
  exact bR (v:=Z #[O a m c,V (true&&!(n==0))]) (by simp [results,Tryz.results112,go_sem,b]) rfl ⟨_,rfl,IsZ.mk true (h.ext eA),eA,dA⟩
theorem z_dr {f:FuncId} {args:Array I} {w:Y} {n:Int} (h:Calls Tryz.prog f args w (RetZd w n)):Calls Tryz.prog f args w (RetZ w n):=zkb h
theorem zci (w:Y) (a:Bool) (v:I) (n:Int) (h:IsD w v n) :
  Calls Tryz.prog 112 #[V a,v] w (RetZ w (sg a n)):=z_dr (zcP w a v n h)
theorem zn7 {n:Int} {s:Bool} (h:s=decide (n<0)):sg (!s) (n.natAbs:Int) = -n:=by
 subst h;by_cases h:n<0<;>simp [sg,h]<;>omega
theorem zoF {n:Int}:sg false (n.natAbs:Int)=n.natAbs:=rfl
theorem zmv (w:Y) (v:I) (n:Int) (h:IsZ w v n):Calls Tryz.prog 117 #[v] w (RetZd w (-n)):=by
 obtain⟨a,m,c,s,rfl⟩:=h.form;go_enter Tryz.func117,Tryz.ntmps117
 go_wp2_with((go_at_call 112;(with_reducible refine(zcP _ (!s) (Z #[O a m c]) n.natAbs ?_).mono ?_);(refine h.dig.ext ?_;exact eA);rintro e q ⟨p,rfl,b,f,j⟩;obtain⟨g,l,i,o,rfl⟩:=b.form;obtain⟨d,k⟩:=f.cells))
 refine bR (v:=Z #[O g l i,V o]) (by simp [results,Tryz.results117,go_sem,d]) rfl ⟨_,rfl,?_,eA,dA⟩;rw [←zn7 h.sgn];exact b.keep kA
theorem zdD (w:Y) (v:I) (n:Int) (h:IsZ w v n):Calls Tryz.prog 117 #[v] w (RetZ w (-n)):=z_dr (zmv w v n h)
theorem zon (w:Y) (v:I) (n:Int) (h:IsZ w v n):Calls Tryz.prog 140 #[v] w (RetZ w (n.natAbs:Int)):=by
 obtain⟨a,m,c,s,rfl⟩:=h.form;go_enter Tryz.func140,Tryz.ntmps140
 go_wp2_with((go_at_call 112;(with_reducible refine(zci _ false (Z #[O a m c]) n.natAbs ?_).mono ?_);(refine h.dig.ext ?_;exact eA);rintro e p ⟨o,rfl,b,f⟩;obtain⟨g,k,i,l,rfl⟩:=b.form;obtain⟨d,j⟩:=f.cells))
 exact bR (v:=Z #[O g k i,V l]) (by simp [results,Tryz.results140,go_sem,d]) rfl ⟨_,rfl,b.keep kA,eA⟩
theorem zkR (w:Y) (v:I) (n:Int) (h:IsZ w v n):Calls Tryz.prog 67 #[v] w fun e j=>e = .returned (N .i64 n.sign)∧Ext w j∧Dr w j:=by
 obtain⟨a,m,c,s,rfl⟩:=h.form;have k:=h.sgn;have q:=h.dig
 have d:n=0→Calls Tryz.prog 67 #[Z #[O a m c,V s]] w fun e j=>e = .returned (N .i64 n.sign)∧Ext w j∧Dr w j:=by
  intro g;have r:((n.natAbs:Int)==0)=true:=by simp;omega
  obtain rfl:s=false:=by rw [k];simp;omega
  have e:n.sign=0:=by first|(subst g;rfl)|exact Int.sign_eq_neg_one_of_neg g|exact Int.sign_eq_one_of_pos g
  rw [e];clear e g k;go_enter Tryz.func67,Tryz.ntmps67
  go_wp2_with((go_at_call 92;(with_reducible refine(zf1 _ (Z #[O a m c]) n.natAbs ?_).mono ?_);(refine q.ext ?_;exact eA);rintro e t ⟨rfl,i,o⟩;obtain⟨l,p⟩:=i.cells))
  go_ret;exact⟨rfl,eA,dA⟩
 have f:n<0→Calls Tryz.prog 67 #[Z #[O a m c,V s]] w fun e j=>e = .returned (N .i64 n.sign)∧Ext w j∧Dr w j:=by
  intro g;have r:((n.natAbs:Int)==0)=false:=by simp;omega
  obtain rfl:s=true:=by rw [k];simp;omega
  have e:n.sign = -1:=by first|(subst g;rfl)|exact Int.sign_eq_neg_one_of_neg g|exact Int.sign_eq_one_of_pos g
  rw [e];clear e g k;go_enter Tryz.func67,Tryz.ntmps67
  go_wp2_with((go_at_call 92;(with_reducible refine(zf1 _ (Z #[O a m c]) n.natAbs ?_).mono ?_);(refine q.ext ?_;exact eA);rintro e t ⟨rfl,i,o⟩;obtain⟨l,p⟩:=i.cells))
  go_ret;exact⟨rfl,eA,dA⟩
 have b:0<n→Calls Tryz.prog 67 #[Z #[O a m c,V s]] w fun e j=>e = .returned (N .i64 n.sign)∧Ext w j∧Dr w j:=by
  intro g;have r:((n.natAbs:Int)==0)=false:=by simp;omega
  obtain rfl:s=false:=by rw [k];simp;omega
  have e:n.sign=1:=by first|(subst g;rfl)|exact Int.sign_eq_neg_one_of_neg g|exact Int.sign_eq_one_of_pos g
  rw [e];clear e g k;go_enter Tryz.func67,Tryz.ntmps67
  go_wp2_with((go_at_call 92;(with_reducible refine(zf1 _ (Z #[O a m c]) n.natAbs ?_).mono ?_);(refine q.ext ?_;exact eA);rintro e t ⟨rfl,i,o⟩;obtain⟨l,p⟩:=i.cells))
  go_ret;exact⟨rfl,eA,dA⟩
 rcases Int.lt_trichotomy n 0 with g|g|g
 ·exact f g
 ·exact d g
 ·exact b g
theorem zkQ (w:Y) (v:I) (n:Int) (h:IsZ w v n):Calls Tryz.prog 67 #[v] w fun e a=>e = .returned (N .i64 n.sign)∧Ext w a:=zfP (zkR w v n h)
theorem zoe (n:Int) (a : -9223372036854775808≤n) (b:n<0):IntKind.u64.wrap (-(IntKind.u64.wrap n)) = -n:=by
 simp [IntKind.wrap,IntKind.signed,IntKind.bits];omega
theorem znw (n:Int) (a:n≤9223372036854775807) (b:0≤n):IntKind.u64.wrap n=n:=by
 simp [IntKind.wrap,IntKind.signed,IntKind.bits];omega
theorem zcZ (w:Y) (n:Int) (t : -9223372036854775808≤n) (u:n≤9223372036854775807):Calls Tryz.prog 69 #[N .i64 n] w (RetZ w n):=by
 by_cases x:n<0
 ·have y:=zoe n t x
  go_enter Tryz.func69,Tryz.ntmps69
  go_wp2_with(first|(go_at_call 115;(with_reducible refine(zcr _ (-n) oM oM).mono ?_);rintro e K ⟨z,rfl,a,h⟩;obtain⟨j,q,l,rfl⟩:=a.isD.form;obtain⟨⟨f,o⟩,c⟩:=cK1 w h)|(go_at_call 112;(with_reducible refine(zci _ true (Z #[O j q l]) (-n) a.isD).mono ?_);rintro e P ⟨D,rfl,b,i⟩;obtain⟨k,r,m,s,rfl⟩:=b.form;obtain⟨⟨g,p⟩,d⟩:=cK1 w i))
  refine bR (v:=Z #[O k r m,V s]) (by simp [results,Tryz.results69,go_sem,f,g,c,d]) rfl ⟨_,rfl,?_,eA⟩;have e:n=sg true (-n):=by simp [sg]
  rw [e];exact b.keep kA
 ·have y:=znw n u oM
  go_enter Tryz.func69,Tryz.ntmps69
  go_wp2_with(first|(go_at_call 115;(with_reducible refine(zcr _ n oM oM).mono ?_);rintro e K ⟨z,rfl,a,h⟩;obtain⟨j,q,l,rfl⟩:=a.isD.form;obtain⟨⟨f,o⟩,c⟩:=cK1 w h)|(go_at_call 112;(with_reducible refine(zci _ false (Z #[O j q l]) n a.isD).mono ?_);rintro e P ⟨D,rfl,b,i⟩;obtain⟨k,r,m,s,rfl⟩:=b.form;obtain⟨⟨g,p⟩,d⟩:=cK1 w i))
  exact bR (v:=Z #[O k r m,V s]) (by simp [results,Tryz.results69,go_sem,f,g,c,d]) rfl ⟨_,rfl,b.keep kA,eA⟩
theorem zg5 {x y:Int} {s:Bool} (a:s=decide (x<0)) (b:s=decide (y<0)):sg s ((x.natAbs:Int)+1*(y.natAbs:Int))=x+y:=by
 cases s<;>simp [sg]at *<;>omega
theorem zg3 {x y:Int} {s:Bool} (a:(!s)=decide (x<0)) (b:s=decide (y<0)) (h:(x.natAbs:Int)<y.natAbs):sg s ((y.natAbs:Int) + -1*(x.natAbs:Int))=x+y:=by
 cases s<;>simp [sg]at *<;>omega
theorem zg4 {x y:Int} {s:Bool} (a:s=decide (x<0)) (b:(!s)=decide (y<0)) (h:¬(x.natAbs:Int)<y.natAbs):sg s ((x.natAbs:Int) + -1*(y.natAbs:Int))=x+y:=by
 cases s<;>simp [sg]at *<;>omega
theorem zmt (w:Y) (va vb:I) (x y:Int) (ha:IsZ w va x) (hb:IsZ w vb y) (ap:Lm lim x) (aq:Lm lim y) :
  Calls Tryz.prog 83 #[va,vb] w (RetZd w (x+y)):=by
 obtain⟨a,m,c,s,rfl⟩:=ha.form;obtain⟨o,q,p,s',rfl⟩:=hb.form;have ab:=hd9 ha.sgn;have ac:=hd9 hb.sgn;have l:=ha.dig;have n:=hb.dig;have T:=hd9 ap.abs;have aa:=hd9 aq.abs;clear ap aq ha hb
 have ae:s=true→s'=true→Calls Tryz.prog 83 #[Z #[O a m c,V s],Z #[O o q p,V s']] w (RetZd w (x+y)):=by
  intro h1 h2;subst h1 h2;go_enter Tryz.func83,Tryz.ntmps83;go_wp2
  go_region_held3 (fun W=>W.cell? ⟨w.heap.size,0,X⟩=J (O a m c)∧W.cell? ⟨w.heap.size,1,X⟩=J (V true)∧W.cell? ⟨w.heap.size+1,0,X⟩=J (O o q p)) ((repeat' (with_reducible refine And.intro ?_ ?_))<;>(first|(go_simp;done)|(refine hx1.cellS ?_;go_simp;done))) (first|((go_at_call 114;(with_reducible refine(zdo _ (Z #[O a m c]) (Z #[O o q p]) x.natAbs y.natAbs 1 ?_ ?_ T.out aa.out oM oM).mono ?_);(refine l.ext ?_;exact eA);(refine n.ext ?_;exact eA);rintro e w1 ⟨r1,rfl,b,hx1,ag⟩;obtain⟨a1,m1,c1,rfl⟩:=b.isD.form;obtain⟨⟨h,ai⟩,r,t,f⟩:=cK3 w hx1))|((go_at_call 112;(with_reducible refine(zcP _ true (Z #[O a1 m1 c1]) ((x.natAbs:Int)+1*(y.natAbs:Int)) ?_).mono ?_);(refine b.isD.ext ?_;exact eA);rintro e w2 ⟨r2,rfl,d,j,ah⟩;obtain⟨a2,m2,c2,s2,rfl⟩:=d.form;obtain⟨⟨i,aj⟩,u,z,g⟩:=cK3 w j)))
  all_goals go_wp2
  refine bR (v:=Z #[O a2 m2 c2,V s2]) (by simp [results,Tryz.results83,go_sem,h,i,f,g]) rfl ⟨_,rfl,?_,eA,dA⟩;rw [←zg5 ab.out ac.out];exact d.keep kA
 have Q:s=false→s'=false→Calls Tryz.prog 83 #[Z #[O a m c,V s],Z #[O o q p,V s']] w (RetZd w (x+y)):=by
  intro h1 h2;subst h1 h2;go_enter Tryz.func83,Tryz.ntmps83;go_wp2
  go_region_held3 (fun W=>W.cell? ⟨w.heap.size,0,X⟩=J (O a m c)∧W.cell? ⟨w.heap.size,1,X⟩=J (V false)∧W.cell? ⟨w.heap.size+1,0,X⟩=J (O o q p)) ((repeat' (with_reducible refine And.intro ?_ ?_))<;>(first|(go_simp;done)|(refine hx1.cellS ?_;go_simp;done))) (first|((go_at_call 114;(with_reducible refine(zdo _ (Z #[O a m c]) (Z #[O o q p]) x.natAbs y.natAbs 1 ?_ ?_ T.out aa.out oM oM).mono ?_);(refine l.ext ?_;exact eA);(refine n.ext ?_;exact eA);rintro e w1 ⟨r1,rfl,b,hx1,ag⟩;obtain⟨a1,m1,c1,rfl⟩:=b.isD.form;obtain⟨⟨h,ai⟩,r,t,f⟩:=cK3 w hx1))|((go_at_call 112;(with_reducible refine(zcP _ false (Z #[O a1 m1 c1]) ((x.natAbs:Int)+1*(y.natAbs:Int)) ?_).mono ?_);(refine b.isD.ext ?_;exact eA);rintro e w2 ⟨r2,rfl,d,j,ah⟩;obtain⟨a2,m2,c2,s2,rfl⟩:=d.form;obtain⟨⟨i,aj⟩,u,z,g⟩:=cK3 w j)))
  all_goals go_wp2
  refine bR (v:=Z #[O a2 m2 c2,V s2]) (by simp [results,Tryz.results83,go_sem,h,i,f,g]) rfl ⟨_,rfl,?_,eA,dA⟩;rw [←zg5 ab.out ac.out];exact d.keep kA
 have ad:s=true→s'=false→Calls Tryz.prog 83 #[Z #[O a m c,V s],Z #[O o q p,V s']] w (RetZd w (x+y)):=by
  intro h1 h2;subst h1 h2
  by_cases ak:(x.natAbs:Int)<y.natAbs
  ·have af:=zdu ak
   go_enter Tryz.func83,Tryz.ntmps83
   go_wp2_with((go_at_call 125;(with_reducible refine(zgj _ (Z #[O a m c]) (Z #[O o q p]) x.natAbs y.natAbs ?_ ?_).mono ?_);(refine l.ext ?_;exact eA);(refine n.ext ?_;exact eA);rintro e w0 ⟨rfl,P,an⟩;obtain⟨⟨K,ao⟩,al,am,k⟩:=cK3 w P))
   go_region_held3 (fun W=>W.cell? ⟨w.heap.size,0,X⟩=J (O a m c)∧W.cell? ⟨w.heap.size+1,1,X⟩=J (V false)∧W.cell? ⟨w.heap.size+1,0,X⟩=J (O o q p)) ((repeat' (with_reducible refine And.intro ?_ ?_))<;>(first|(go_simp;done)|(refine hx1.cellS ?_;go_simp;done))) (first|((go_at_call 114;(with_reducible refine(zdo _ (Z #[O o q p]) (Z #[O a m c]) y.natAbs x.natAbs (-1) ?_ ?_ aa.out T.out oM oM).mono ?_);(refine n.ext ?_;exact eA);(refine l.ext ?_;exact eA);rintro e w1 ⟨r1,rfl,b,hx1,ag⟩;obtain⟨a1,m1,c1,rfl⟩:=b.isD.form;obtain⟨⟨h,ai⟩,r,t,f⟩:=cK3 w hx1))|((go_at_call 112;(with_reducible refine(zcP _ false (Z #[O a1 m1 c1]) ((y.natAbs:Int) + -1*(x.natAbs:Int)) ?_).mono ?_);(refine b.isD.ext ?_;exact eA);rintro e w2 ⟨r2,rfl,d,j,ah⟩;obtain⟨a2,m2,c2,s2,rfl⟩:=d.form;obtain⟨⟨i,aj⟩,u,z,g⟩:=cK3 w j)))
   all_goals go_wp2
   refine bR (v:=Z #[O a2 m2 c2,V s2]) (by simp [results,Tryz.results83,go_sem,K,h,i,k,f,g]) rfl ⟨_,rfl,?_,eA,dA⟩;rw [←zg3 (s:=false) ab.out ac.out oM];exact d.keep kA
  ·have af:=zcF ak
   go_enter Tryz.func83,Tryz.ntmps83
   go_wp2_with((go_at_call 125;(with_reducible refine(zgj _ (Z #[O a m c]) (Z #[O o q p]) x.natAbs y.natAbs ?_ ?_).mono ?_);(refine l.ext ?_;exact eA);(refine n.ext ?_;exact eA);rintro e w0 ⟨rfl,P,an⟩;obtain⟨⟨K,ao⟩,al,am,k⟩:=cK3 w P))
   go_region_held3 (fun W=>W.cell? ⟨w.heap.size,0,X⟩=J (O a m c)∧W.cell? ⟨w.heap.size,1,X⟩=J (V true)∧W.cell? ⟨w.heap.size+1,0,X⟩=J (O o q p)) ((repeat' (with_reducible refine And.intro ?_ ?_))<;>(first|(go_simp;done)|(refine hx1.cellS ?_;go_simp;done))) (first|((go_at_call 114;(with_reducible refine(zdo _ (Z #[O a m c]) (Z #[O o q p]) x.natAbs y.natAbs (-1) ?_ ?_ T.out aa.out oM oM).mono ?_);(refine l.ext ?_;exact eA);(refine n.ext ?_;exact eA);rintro e w1 ⟨r1,rfl,b,hx1,ag⟩;obtain⟨a1,m1,c1,rfl⟩:=b.isD.form;obtain⟨⟨h,ai⟩,r,t,f⟩:=cK3 w hx1))|((go_at_call 112;(with_reducible refine(zcP _ true (Z #[O a1 m1 c1]) ((x.natAbs:Int) + -1*(y.natAbs:Int)) ?_).mono ?_);(refine b.isD.ext ?_;exact eA);rintro e w2 ⟨r2,rfl,d,j,ah⟩;obtain⟨a2,m2,c2,s2,rfl⟩:=d.form;obtain⟨⟨i,aj⟩,u,z,g⟩:=cK3 w j)))
   all_goals go_wp2
   refine bR (v:=Z #[O a2 m2 c2,V s2]) (by simp [results,Tryz.results83,go_sem,K,h,i,k,f,g]) rfl ⟨_,rfl,?_,eA,dA⟩;rw [←zg4 (s:=true) ab.out ac.out oM];exact d.keep kA
 have D:s=false→s'=true→Calls Tryz.prog 83 #[Z #[O a m c,V s],Z #[O o q p,V s']] w (RetZd w (x+y)):=by
  intro h1 h2;subst h1 h2
  by_cases ak:(x.natAbs:Int)<y.natAbs
  ·have af:=zdu ak
   go_enter Tryz.func83,Tryz.ntmps83
   go_wp2_with((go_at_call 125;(with_reducible refine(zgj _ (Z #[O a m c]) (Z #[O o q p]) x.natAbs y.natAbs ?_ ?_).mono ?_);(refine l.ext ?_;exact eA);(refine n.ext ?_;exact eA);rintro e w0 ⟨rfl,P,an⟩;obtain⟨⟨K,ao⟩,al,am,k⟩:=cK3 w P))
   go_region_held3 (fun W=>W.cell? ⟨w.heap.size,0,X⟩=J (O a m c)∧W.cell? ⟨w.heap.size+1,1,X⟩=J (V true)∧W.cell? ⟨w.heap.size+1,0,X⟩=J (O o q p)) ((repeat' (with_reducible refine And.intro ?_ ?_))<;>(first|(go_simp;done)|(refine hx1.cellS ?_;go_simp;done))) (first|((go_at_call 114;(with_reducible refine(zdo _ (Z #[O o q p]) (Z #[O a m c]) y.natAbs x.natAbs (-1) ?_ ?_ aa.out T.out oM oM).mono ?_);(refine n.ext ?_;exact eA);(refine l.ext ?_;exact eA);rintro e w1 ⟨r1,rfl,b,hx1,ag⟩;obtain⟨a1,m1,c1,rfl⟩:=b.isD.form;obtain⟨⟨h,ai⟩,r,t,f⟩:=cK3 w hx1))|((go_at_call 112;(with_reducible refine(zcP _ true (Z #[O a1 m1 c1]) ((y.natAbs:Int) + -1*(x.natAbs:Int)) ?_).mono ?_);(refine b.isD.ext ?_;exact eA);rintro e w2 ⟨r2,rfl,d,j,ah⟩;obtain⟨a2,m2,c2,s2,rfl⟩:=d.form;obtain⟨⟨i,aj⟩,u,z,g⟩:=cK3 w j)))
   all_goals go_wp2
   refine bR (v:=Z #[O a2 m2 c2,V s2]) (by simp [results,Tryz.results83,go_sem,K,h,i,k,f,g]) rfl ⟨_,rfl,?_,eA,dA⟩;rw [←zg3 (s:=true) ab.out ac.out oM];exact d.keep kA
  ·have af:=zcF ak
   go_enter Tryz.func83,Tryz.ntmps83
   go_wp2_with((go_at_call 125;(with_reducible refine(zgj _ (Z #[O a m c]) (Z #[O o q p]) x.natAbs y.natAbs ?_ ?_).mono ?_);(refine l.ext ?_;exact eA);(refine n.ext ?_;exact eA);rintro e w0 ⟨rfl,P,an⟩;obtain⟨⟨K,ao⟩,al,am,k⟩:=cK3 w P))
   go_region_held3 (fun W=>W.cell? ⟨w.heap.size,0,X⟩=J (O a m c)∧W.cell? ⟨w.heap.size,1,X⟩=J (V false)∧W.cell? ⟨w.heap.size+1,0,X⟩=J (O o q p)) ((repeat' (with_reducible refine And.intro ?_ ?_))<;>(first|(go_simp;done)|(refine hx1.cellS ?_;go_simp;done))) (first|((go_at_call 114;(with_reducible refine(zdo _ (Z #[O a m c]) (Z #[O o q p]) x.natAbs y.natAbs (-1) ?_ ?_ T.out aa.out oM oM).mono ?_);(refine l.ext ?_;exact eA);(refine n.ext ?_;exact eA);rintro e w1 ⟨r1,rfl,b,hx1,ag⟩;obtain⟨a1,m1,c1,rfl⟩:=b.isD.form;obtain⟨⟨h,ai⟩,r,t,f⟩:=cK3 w hx1))|((go_at_call 112;(with_reducible refine(zcP _ false (Z #[O a1 m1 c1]) ((x.natAbs:Int) + -1*(y.natAbs:Int)) ?_).mono ?_);(refine b.isD.ext ?_;exact eA);rintro e w2 ⟨r2,rfl,d,j,ah⟩;obtain⟨a2,m2,c2,s2,rfl⟩:=d.form;obtain⟨⟨i,aj⟩,u,z,g⟩:=cK3 w j)))
   all_goals go_wp2
   refine bR (v:=Z #[O a2 m2 c2,V s2]) (by simp [results,Tryz.results83,go_sem,K,h,i,k,f,g]) rfl ⟨_,rfl,?_,eA,dA⟩;rw [←zg4 (s:=false) ab.out ac.out oM];exact d.keep kA
 cases s<;>cases s'
 ·exact Q rfl rfl
 ·exact D rfl rfl
 ·exact ad rfl rfl
 ·exact ae rfl rfl
theorem zlW (w:Y) (c d:I) (x y:Int) (e:IsZ w c x) (f:IsZ w d y) (a:Lm lim x) (b:Lm lim y) :
  Calls Tryz.prog 83 #[c,d] w (RetZ w (x+y)):=z_dr (zmt w c d x y e f a b)
theorem zmw (w:Y) (D K:I) (x y:Int) (r:IsZ w D x) (t:IsZ w K y) (b:Lm lim x) (d:Lm lim y) :
  Calls Tryz.prog 116 #[D,K] w (RetZd w (x-y)):=by
 obtain⟨a,m,c,s,rfl⟩:=r.form;obtain⟨p,u,q,z,rfl⟩:=t.form;have j:=hd9 b;have k:=hd9 d.neg;clear b d;go_enter Tryz.func116,Tryz.ntmps116;go_wp2
 go_region_held3 (fun W=>W.cell? ⟨w.heap.size,0,X⟩=J (O a m c)∧W.cell? ⟨w.heap.size,1,X⟩=J (V s)∧W.cell? ⟨w.heap.size+1,0,X⟩=J (O p u q)∧W.cell? ⟨w.heap.size+1,1,X⟩=J (V z)) ((repeat' (with_reducible refine And.intro ?_ ?_))<;>(first|(go_simp;done)|(refine hx1.cellS ?_;go_simp;done))) (first|((go_at_call 117;(with_reducible refine(zmv _ (Z #[O p u q,V z]) y ?_).mono ?_);(refine t.ext ?_;exact eA);rintro e w1 ⟨r1,rfl,f,hx1,ab⟩;obtain⟨a1,m1,c1,s1,rfl⟩:=f.form;obtain⟨⟨l,ad⟩,P,Q,h⟩:=cK3 w hx1))|((go_at_call 83;(with_reducible refine(zmt _ (Z #[O a m c,V s]) (Z #[O a1 m1 c1,V s1]) x (-y) ?_ ?_ j.out k.out).mono ?_);(refine r.ext ?_;exact eA);(refine f.ext ?_;exact eA);rintro e w2 ⟨r2,rfl,g,o,ac⟩;obtain⟨a2,m2,c2,s2,rfl⟩:=g.form;obtain⟨⟨n,ae⟩,T,aa,i⟩:=cK3 w o)))
 all_goals go_wp2
 exact bR (v:=Z #[O a2 m2 c2,V s2]) (by simp [results,Tryz.results116,go_sem,l,n,h,i]) rfl ⟨_,rfl,g.keep kA,eA,dA⟩
theorem zoo (w:Y) (c d:I) (x y:Int) (e:IsZ w c x) (f:IsZ w d y) (a:Lm lim x) (b:Lm lim y) :
  Calls Tryz.prog 116 #[c,d] w (RetZ w (x-y)):=z_dr (zmw w c d x y e f a b)
theorem zm5 {x y:Int} {s t:Bool} (a:s=decide (x<0)) (b:t=decide (y<0)):sg (!(s==t)) ((x.natAbs:Int)*(y.natAbs:Int))=x*y:=by
 rw [←Int.natCast_mul,←Int.natAbs_mul];subst a b
 rcases Int.lt_trichotomy x 0 with h|rfl|h<;>rcases Int.lt_trichotomy y 0 with k|rfl|k
 ·have:=Int.mul_pos_of_neg_of_neg h k;simp [sg,h,k];omega
 ·simp [sg]
 ·have:=Int.mul_neg_of_neg_of_pos h k;simp [sg,h,show ¬y<0 by omega];omega
 ·simp [sg]
 ·simp [sg]
 ·simp [sg]
 ·have:=Int.mul_neg_of_pos_of_neg h k;simp [sg,k,show ¬x<0 by omega];omega
 ·simp [sg]
 ·have:=Int.mul_pos h k;simp [sg,show ¬x<0 by omega,show ¬y<0 by omega];omega
theorem zkP (w:Y) (T vb:I) (x y:Int) (j:IsZ w T x) (k:IsZ w vb y) (b:Lm lim x) (d:Lm lim y) :
  Calls Tryz.prog 63 #[T,vb] w (RetZd w (x*y)):=by
 obtain⟨a,m,c,s,rfl⟩:=j.form;obtain⟨D,P,K,Q,rfl⟩:=k.form;have o:=hd9 j.sgn;have p:=hd9 k.sgn;have t:=j.dig;have u:=k.dig;have l:=hd9 b.abs;have n:=hd9 d.abs;clear b d j k;go_enter Tryz.func63,Tryz.ntmps63;go_wp2
 go_region_held3 (fun W=>W.cell? ⟨w.heap.size,0,X⟩=J (O a m c)∧W.cell? ⟨w.heap.size,1,X⟩=J (V s)∧W.cell? ⟨w.heap.size+1,0,X⟩=J (O D P K)∧W.cell? ⟨w.heap.size+1,1,X⟩=J (V Q)) ((repeat' (with_reducible refine And.intro ?_ ?_))<;>(first|(go_simp;done)|(refine hx1.cellS ?_;go_simp;done))) (first|((go_at_call 113;(with_reducible refine(zkE _ (Z #[O a m c]) (Z #[O D P K]) x.natAbs y.natAbs ?_ ?_ l.out n.out).mono ?_);(refine t.ext ?_;exact eA);(refine u.ext ?_;exact eA);rintro e w1 ⟨r1,rfl,f,hx1,ae⟩;obtain⟨a1,m1,c1,rfl⟩:=f.isD.form;obtain⟨⟨q,ag⟩,aa,ab,h⟩:=cK3 w hx1))|((go_at_call 112;(with_reducible refine(zcP _ (!(s==Q)) (Z #[O a1 m1 c1]) ((x.natAbs:Int)*(y.natAbs:Int)) ?_).mono ?_);(refine f.isD.ext ?_;exact eA);rintro e w2 ⟨r2,rfl,g,z,af⟩;obtain⟨a2,m2,c2,s2,rfl⟩:=g.form;obtain⟨⟨r,ah⟩,ac,ad,i⟩:=cK3 w z)))
 all_goals go_wp2
 refine bR (v:=Z #[O a2 m2 c2,V s2]) (by simp [results,Tryz.results63,go_sem,q,r,h,i]) rfl ⟨_,rfl,?_,eA,dA⟩;rw [←zm5 o.out p.out];exact g.keep kA
theorem zbV (w:Y) (c d:I) (x y:Int) (e:IsZ w c x) (f:IsZ w d y) (a:Lm lim x) (b:Lm lim y) :
  Calls Tryz.prog 63 #[c,d] w (RetZ w (x*y)):=z_dr (zkP w c d x y e f a b)
theorem Lm.sub {k:Nat} {x y:Int} (h:Lm k x) (a:Lm k y):Lm (k+1) (x-y):=by
 have e:B ^ (k+1)=B ^ k*16777216:=by rw [Int.pow_succ];rfl
 unfold Lm at *;rw [e];omega
theorem zmu (w:Y) (l n:I) (x y:Int) (j:IsZ w l x) (k:IsZ w n y) (b:Lm lim x) (d:Lm lim y) :
  Calls Tryz.prog 65 #[l,n] w fun e o=>e = .returned (N .i64 (x-y).sign)∧Ext w o∧Dr w o:=by
 obtain⟨a,m,c,s,rfl⟩:=j.form;obtain⟨r,T,u,s',rfl⟩:=k.form;have g:=hd9 b;have h:=hd9 d;clear b d;go_enter Tryz.func65,Tryz.ntmps65
 go_wp2_with(first|((go_at_call 116;(with_reducible refine(zmw _ (Z #[O a m c,V s]) (Z #[O r T u,V s']) x y ?_ ?_ g.out h.out).mono ?_);(refine j.ext ?_;exact eA);(refine k.ext ?_;exact eA);rintro e w1 ⟨r1,rfl,f,i,D⟩;obtain⟨t,W,v,s1,rfl⟩:=f.form;obtain⟨⟨z,P⟩,p,q⟩:=cK2 w i))|((go_at_call 67;(with_reducible refine(zkR _ (Z #[O t W v,V s1]) (x-y) ?_).mono ?_);(refine f.ext ?_;exact eA);rintro e w2 ⟨rfl,Q,K⟩)))
 go_ret;exact⟨rfl,eA,dA⟩
theorem zhY (w:Y) (c d:I) (x y:Int) (f:IsZ w c x) (g:IsZ w d y) (a:Lm lim x) (b:Lm lim y) :
  Calls Tryz.prog 65 #[c,d] w fun e h=>e = .returned (N .i64 (x-y).sign)∧Ext w h:=zfP (zmu w c d x y f g a b)
end
section
open Go.RowKit Go.Shelf
attribute [local go_sem] Oper.semAt_some
def CmS (w:Y) (x y:Int) (W:Y):Prop:=
 Ext w W∧w.heap.size+1+1+1≤W.heap.size∧(∃sl,W.heap[w.heap.size]?=J (.cells #[sl] 61 (0,0))∧IsD W (Z #[sl]) x) ∧
 (∃sl,W.heap[w.heap.size+1]?=J (.cells #[sl] 61 (0,0))∧IsD W (Z #[sl]) y)∧W.heap[w.heap.size+1+1]?=J (.cells #[O X 0 0] 61 (0,0))
theorem CmS.ext {w:Y} {x y:Int} {W W':Y} (h:CmS w x y W) (k:Ext W W'):CmS w x y W':=by
 obtain⟨a,i,⟨f,b,c⟩,⟨g,d,h6⟩,e⟩:=h;have:=k.size;exact⟨a.trans k,by omega,⟨f,k.heapS b,c.ext k⟩,⟨g,k.heapS d,h6.ext k⟩,k.heapS e⟩
theorem CmS.setX {w:Y} {x y d:Int} {W:Y} {sl:I} (h:CmS w x y W) (j:IsD W (Z #[sl]) d):CmS w d y (W.setCell ⟨w.heap.size,0,X⟩ sl):=by
 obtain⟨e,f,⟨n,b,m⟩,⟨l,g,h6⟩,i⟩:=h;have a:∀k,k≠w.heap.size→(W.setCell ⟨w.heap.size,0,X⟩ sl).heap[k]?=W.heap[k]?:=fun k a=>bS _ _ _ _ a
 have c:KeepT 2 W (W.setCell ⟨w.heap.size,0,X⟩ sl):=(KeepT.refl _ W).set b dM _;exact⟨e.set (nE _) _,by rw [qcZ];exact f,⟨sl,one_setCell b,j.keep c⟩,⟨l,(a _ oM).trans g,h6.keep c⟩,(a _ oM).trans i⟩
theorem CmS.setY {w:Y} {x y d:Int} {W:Y} {sl:I} (h:CmS w x y W) (l:IsD W (Z #[sl]) d):CmS w x d (W.setCell ⟨w.heap.size+1,0,X⟩ sl):=by
 obtain⟨e,f,⟨m,g,i⟩,⟨n,b,h6⟩,j⟩:=h;have a:∀k,k≠w.heap.size+1→(W.setCell ⟨w.heap.size+1,0,X⟩ sl).heap[k]?=W.heap[k]?:=fun k a=>bS _ _ _ _ a
 have c:KeepT 2 W (W.setCell ⟨w.heap.size+1,0,X⟩ sl):=(KeepT.refl _ W).set b dM _;exact⟨e.set dO _,by rw [qcZ];exact f,⟨m,(a _ oM).trans g,i.keep c⟩,⟨sl,one_setCell b,l.keep c⟩,(a _ oM).trans j⟩
theorem CmS.keepX {w:Y} {x y:Int} {W:Y} (h:CmS w x y W) (u:I):KeepT 2 W (W.setCell ⟨w.heap.size,0,X⟩ u):=by
 obtain⟨b,c,⟨e,a,d⟩,_⟩:=h;exact(KeepT.refl _ W).set a dM _
theorem CmS.keepY {w:Y} {x y:Int} {W:Y} (h:CmS w x y W) (u:I):KeepT 2 W (W.setCell ⟨w.heap.size+1,0,X⟩ u):=by
 obtain⟨b,c,⟨g,d,e⟩,⟨i,a,h6⟩,f⟩:=h;exact(KeepT.refl _ W).set a dM _
theorem CmS.setXY {w:Y} {x y e f:Int} {W:Y} {c d:I} (h:CmS w x y W) (a:IsD W (Z #[c]) e) (b:IsD W (Z #[d]) f) :
  CmS w e f ((W.setCell ⟨w.heap.size,0,X⟩ c).setCell ⟨w.heap.size+1,0,X⟩ d):=(h.setX a).setY (b.keep (h.keepX _))
theorem zdx {k:Nat} {x n:Int} (h:2 ^ k*x=n) (a:x % 2=0):2 ^ (k+1)*(x / 2)=n:=by
 rw [Int.pow_succ,Int.mul_assoc,show 2*(x / 2)=x by omega];exact h
theorem CmS.rdX {w:Y} {x y:Int} {W:Y} (h:CmS w x y W):∃a m c,W.cell? ⟨w.heap.size,0,X⟩=J (O a m c)∧W.frozen? ⟨w.heap.size,0,X⟩=false∧IsD W (Z #[O a m c]) x:=by
 obtain⟨f,g,⟨k,b,d⟩,⟨l,i,h6⟩,j⟩:=h;obtain⟨a,m,c,e⟩:=d.form
 cases e
 exact⟨a,m,c,cell_of_one b,free_of_one b,d⟩
theorem CmS.rdY {w:Y} {x y:Int} {W:Y} (h:CmS w x y W):∃a m c,W.cell? ⟨w.heap.size+1,0,X⟩=J (O a m c)∧W.frozen? ⟨w.heap.size+1,0,X⟩=false∧IsD W (Z #[O a m c]) y:=by
 obtain⟨d,f,⟨k,g,i⟩,⟨l,b,h6⟩,j⟩:=h;obtain⟨a,m,c,e⟩:=h6.form
 cases e
 exact⟨a,m,c,cell_of_one b,free_of_one b,h6⟩
theorem CmS.rdR {w:Y} {x y:Int} {W:Y} (h:CmS w x y W):W.cell? ⟨w.heap.size+1+1,0,X⟩=J (O X 0 0)∧W.frozen? ⟨w.heap.size+1+1,0,X⟩=false:=⟨cell_of_one h.2.2.2.2,free_of_one h.2.2.2.2⟩
theorem CmS.out {w:Y} {x y g:Int} {W:Y} {sl:I} (h:CmS w x y W) (b:IsD W (Z #[sl]) g) :
  IsD (W.setCell ⟨w.heap.size+1+1,0,X⟩ sl) (Z #[sl]) g∧Ext w (W.setCell ⟨w.heap.size+1+1,0,X⟩ sl)∧(W.setCell ⟨w.heap.size+1+1,0,X⟩ sl).cell? ⟨w.heap.size+1+1,0,X⟩=J sl:=by
 have a:=h.2.2.2.2;exact⟨b.keep ((KeepT.refl _ W).set a dM _),h.1.set dO _,cell_of_one (one_setCell a)⟩
theorem zhk {x y:Int} (h:x % 2=0) (b:y % 2=1):Int.gcd (x / 2) y=Int.gcd x y:=by
 have a:Nat.Coprime 2 y.natAbs:=by
  unfold Nat.Coprime;rw [Nat.gcd_rec,show y.natAbs % 2=1 by omega];rfl
 have e:x.natAbs=2*(x / 2).natAbs:=oM
 unfold Int.gcd;rw [e];exact(Nat.Coprime.gcd_mul_left_cancel _ a).symm
theorem zln {x y:Int} (a:0≤x) (h:x≤y):Int.gcd x (y + -1*x)=Int.gcd x y:=by
 unfold Int.gcd;rw [show (y + -1*x).natAbs=y.natAbs-x.natAbs by omega];exact Nat.gcd_sub_self_right oM
theorem zmQ {x y a b:Int} {k:Nat} (c:2 ^ k*x=a) (d:2 ^ k*y=b):(Int.gcd a b:Int)=2 ^ k*(Int.gcd x y:Int):=by
 rw [←c,←d,Int.gcd_mul_left];simp [Int.natAbs_pow]
theorem znf {k n:Nat} (h:(2:Int) ^ k<B ^ n):k<24*n:=by
 apply Classical.byContradiction
 intro a;have e:B=(2:Int) ^ 24:=dM
 rw [e,←Int.pow_mul]at h;have:=zbm (b:=(2:Int)) dM (show 24*n≤k by omega);omega
theorem zjM {k:Nat} {x n:Int} (h:Lm lim n) (f:0<x) (e:2 ^ k*x=n):k<2400000000∧(k:Int)<n:=by
 have c:(2:Int) ^ k*1≤2 ^ k*x:=Int.mul_le_mul_of_nonneg_left oM (Int.pow_nonneg dM);have a:(2:Int) ^ k<B ^ lim:=by unfold Lm at h;omega
 have b:=znf a;have d:(k:Int)<2 ^ k:=by exact_mod_cast Nat.lt_two_pow_self (n:=k)
 unfold lim at b;omega
theorem zfp {k:Nat} {x n:Int} (d:0<x) (h:2 ^ k*x=n):x≤n:=by
 have a:(1:Int)≤2 ^ k:=by have:=zaE (b:=(2:Int)) dM k;omega
 have c:1*x≤2 ^ k*x:=Int.mul_le_mul_of_nonneg_right a oM;omega
theorem zjj {x y:Int} (h:y % 2=0) (a:x % 2=1):Int.gcd x (y / 2)=Int.gcd x y:=by
 rw [Int.gcd_comm,zhk h a,Int.gcd_comm]
theorem IsD.lm {w:Y} {a:Option Addr} {m c:Nat} {n:Int} (h:IsD w (Z #[O a m c]) n) {k:Nat} (i:m≤k):Lm k n:=by
 obtain⟨e,f,g,b,d⟩:=h.open;rw [←d];exact Lm.dig b.1 oM
theorem zgA (w:Y) (x y:Int) (c:0≤x∧x<18446744073709551616) (d:0≤y∧y<18446744073709551616) :
  Calls Tryz.prog 201 #[N .u64 x,N .u64 y] w fun e f=>e = .returned (N .u64 (Int.gcd x y:Nat))∧Ext w f:=by
 obtain⟨a,rfl⟩:=Int.eq_ofNat_of_zero_le c.1;obtain⟨b,rfl⟩:=Int.eq_ofNat_of_zero_le d.1;exact zgz w a b oM oM
theorem lm2 {x:Int} (h:Lm 2 x):x<281474976710656:=by
 have:B ^ 2=281474976710656:=dM
 unfold Lm at h;omega
theorem zmP {x y:Int} (h:0<x):(Int.gcd x y:Int)≤x:=Int.le_of_dvd h (Int.gcd_dvd_left ..)
def CmA (w:Y) (a b:Int) (g:Nat) (t5:I) (wr:Y):Prop:=
 ∃(k:Nat) (x y:Int),t5=N .i64 k∧g=a.toNat-k∧0<x∧0<y∧2 ^ k*x=a∧2 ^ k*y=b∧CmS w x y wr
def CmB (w:Y) (a b:Int) (t5:I) (wr:Y):Prop:=
 ∃(k:Nat) (x y:Int),t5=N .i64 k∧0<x∧0<y∧(x % 2=1∨y % 2=1)∧2 ^ k*x=a∧2 ^ k*y=b∧CmS w x y wr
def CmC (w:Y) (G M:Int) (k:Nat) (g:Nat) (_:I) (wr:Y):Prop:=
 ∃(x y:Int),0<x∧0<y∧(x % 2=1∨y % 2=1)∧x≤M∧y≤M∧2 ^ k*(Int.gcd x y:Int)=G∧g=x.toNat∧CmS w x y wr
def CmD (w:Y) (G M:Int) (k:Nat) (g:Nat) (_:I) (wr:Y):Prop:=
 ∃(x y:Int),0<x∧0≤y∧x % 2=1∧x≤M∧y≤M∧2 ^ k*(Int.gcd x y:Int)=G∧g=(x+y).toNat∧CmS w x y wr
def CmE (w:Y) (G M:Int) (k:Nat) (x y:Int) (g:Nat) (_:I) (wr:Y):Prop:=
 ∃(a:Int),0<a∧a≤y∧2 ^ k*(Int.gcd x a:Int)=G∧g=a.toNat∧CmS w x a wr
def CmF (w:Y) (G M:Int) (k:Nat) (x y:Int) (_:I) (wr:Y):Prop:=
 ∃(a b:Int),0<a∧a≤b∧a % 2=1∧b≤M∧b<x+y∧2 ^ k*(Int.gcd a b:Int)=G∧CmS w a b wr
theorem zi0 {a b:Int} (h:b<a):decide (0<cmp3 a b)=true:=by simp only [cmp3];grind
theorem ziZ {a b:Int} (h:a≤b):decide (0<cmp3 a b)=false:=by simp only [cmp3];grind
theorem zh3 (w:Y) (va vb:I) (na nb:Int) (ha:IsD w va na) (hb:IsD w vb nb) (bf:Lm lim na) (bg:Lm lim nb) :
  Calls Tryz.prog 159 #[va,vb] w fun e w'=>∃r,e = .returned r∧IsD w' r (Int.gcd na nb:Nat)∧Ext w w':=by
 obtain⟨a,m,c,rfl⟩:=ha.form;obtain⟨a',m',c',rfl⟩:=hb.form;have h0:=ha.nonneg;have bz:=hb.nonneg;have aD:=hd9 bf;have a8:=hd9 bg;clear bf bg
 have aK:CmS w na nb (((w.alloc (.cells #[O a m c] 61)).alloc (.cells #[O a' m' c'] 61)).alloc (.cells #[O X 0 0] 61)):=by
  refine⟨eA,by simp,⟨_,?_,ha.ext eA⟩,⟨_,?_,hb.ext eA⟩,?_⟩
  ·rw [zai,zai,zai];simp only [wZ];rw [if_neg oM,if_neg oM,if_pos trivial]
  ·rw [zai,zai];simp only [wZ];rw [if_neg oM,if_pos trivial]
  ·rw [zai];simp only [wZ];rw [if_pos trivial]
 have aE:=hd9 aK;have aH:=ha.ext aK.1;have bA:=hb.ext aK.1;clear aK
 by_cases hz:na=0
 ·have bn:(na==0)=true:=by simpa using hz
  go_enter Tryz.func159,Tryz.ntmps159
  go_wp2_with(go_at_call 92;(with_reducible refine(zaB _ _ _ aH).mono ?_);rintro e w1 ⟨rfl,b⟩;have ab:=aE.out.ext b;obtain⟨aY,mY,cY,K,P,d⟩:=ab.rdY;obtain⟨ah,ai⟩:=ab.rdR)
  obtain⟨o1,o2,o3⟩:=ab.out d;refine bR (v:=Z #[O aY mY cY]) (by simp [results,Tryz.results159,go_sem,o3]) rfl ⟨_,rfl,?_,o2⟩;rw [hz];simpa [Int.natAbs_of_nonneg bz] using o1
 have cf:(na==0)=false:=by simpa using hz
 by_cases a3:nb=0
 ·have bn:(nb==0)=true:=by simpa using a3
  go_enter Tryz.func159,Tryz.ntmps159
  go_wp2_with(first|(go_at_call 92;(with_reducible refine(zaB _ _ _ aH).mono ?_);rintro e w1 ⟨rfl,b⟩;have ab:=aE.out.ext b;obtain⟨aY,mY,cY,K,P,d⟩:=ab.rdY)|(go_at_call 92;(with_reducible refine(zaB _ _ _ d).mono ?_);rintro e w2 ⟨rfl,o⟩;have av:=ab.ext o;obtain⟨aX,D,cX,al,am,f⟩:=av.rdX;obtain⟨ah,ai⟩:=av.rdR))
  obtain⟨o1,o2,o3⟩:=av.out f;refine bR (v:=Z #[O aX D cX]) (by simp [results,Tryz.results159,go_sem,o3]) rfl ⟨_,rfl,?_,o2⟩;rw [a3];simpa [Int.natAbs_of_nonneg h0] using o1
 have bn:(nb==0)=false:=by simpa using a3
 obtain⟨G,hG⟩:∃G:Int,(Int.gcd na nb:Int)=G:=⟨_,rfl⟩
 obtain⟨M,bb,bc,hM⟩:∃M:Int,na≤M∧nb≤M∧Hid (Lm lim M):=by
  rcases Int.le_total na nb with h|h
  ·exact⟨nb,h,Int.le_refl _,a8⟩
  ·exact⟨na,Int.le_refl _,h,aD⟩
 rw [hG];have HG:=hd9 hG;clear hG;go_enter Tryz.func159,Tryz.ntmps159
 go_upto_block 1 with (first|(go_at_call 92;(with_reducible refine(zaB _ _ _ aH).mono ?_);rintro e w1 ⟨rfl,b⟩;have ab:=aE.out.ext b;obtain⟨aY,mY,cY,K,P,d⟩:=ab.rdY)|(go_at_call 92;(with_reducible refine(zaB _ _ _ d).mono ?_);rintro e w2 ⟨rfl,o⟩;have av:=ab.ext o))
 go_cut [5] (CmB w na nb)
 case first =>
  go_wp2
  go_loopg [5] na.toNat (CmA w na nb)
  case atStart=>exact⟨0,na,nb,rfl,rfl,by omega,by omega,by simp,by simp,av⟩
  case round =>
   clear av ab b o K P d;obtain⟨k,x,y,rfl,rfl,n,t,ak,aq,g⟩:=hrel;obtain⟨aX,D,cX,al,am,f⟩:=g.rdX;obtain⟨aY,mY,cY,K,P,d⟩:=g.rdY;obtain⟨ah,ai⟩:=g.rdR;have Q:w.heap.size<wr.heap.size:=(by have:=g.2.1;omega);have T:w.heap.size+1<wr.heap.size:=(by have:=g.2.1;omega);have aa:w.heap.size+1+1<wr.heap.size:=(by have:=g.2.1;omega);have Hs:=hd9 g;clear g;have aF:=hd9 ak;have aG:=hd9 aq;have cb:=zjM aD.out n ak;have cc:IntKind.i64.wrap ((k:Int)+1)=(k:Int)+1:=iW _ oM;have au:Hid (Lm lim x):=hd9 (aD.out.le oM (zfp n ak));have aO:Hid (Lm lim y):=hd9 (a8.out.le oM (zfp t aq));clear ak aq
   by_cases q:x % 2=0
   ·have ad:(x % 2==0)=true:=by simpa using q
    by_cases ar:y % 2=0
    ·have aT:(y % 2==0)=true:=by simpa using ar
     go_wp2_with(first|(go_at_call 199;(with_reducible refine(zbi _ (Z #[O aX D cX]) x ?_ n).mono ?_);(refine f.ext ?_;exact eA);rintro e w1 ⟨rfl,b⟩;obtain⟨⟨p,s⟩,i,j,l⟩:=cK3 w b)|(go_at_call 199;(with_reducible refine(zbi _ (Z #[O aY mY cY]) y ?_ t).mono ?_);(refine d.ext ?_;exact eA);rintro e w2 ⟨rfl,o⟩;obtain⟨⟨aw,ax⟩,ae,af,ag⟩:=cK3 w o))
     go_region_with (first|((go_at_call 200;(with_reducible refine(zdv _ (Z #[O aX D cX]) x ?_ au.out).mono ?_);(refine f.ext ?_;exact eA);rintro e w3 ⟨r3,rfl,aV,aZ⟩;obtain⟨bZ,cg,b1,rfl⟩:=aV.isD.form;obtain⟨⟨bB,bE⟩,bo,bp,bq⟩:=cK3 w aZ))|((go_at_call 200;(with_reducible refine(zdv _ (Z #[O aY mY cY]) y ?_ aO.out).mono ?_);(refine d.ext ?_;exact eA);rintro e w4 ⟨r4,rfl,aW,a0⟩;obtain⟨b0,ch,b2,rfl⟩:=aW.isD.form;obtain⟨⟨bC,bF⟩,br,bs,bt⟩:=cK3 w a0)))
     all_goals
      go_wp2
      go_roundg (na.toNat-(k+1))
      case measure=>omega
      case rel=>first|exact⟨k+1,x / 2,y / 2,zbD oM,rfl,by omega,by omega,zdx aF.out q,zdx aG.out ar,(Hs.out.ext eA).setXY (aV.isD.ext eA) aW.isD⟩|((repeat apply Exists.intro);exact⟨⟨k+1,x / 2,y / 2,zbD oM,rfl,by omega,by omega,zdx aF.out q,zdx aG.out ar,(Hs.out.ext eA).setXY (aV.isD.ext eA) aW.isD⟩,rfl⟩)
    ·have aT:(y % 2==0)=false:=by simpa using ar
     go_wp2_with(first|(go_at_call 199;(with_reducible refine(zbi _ (Z #[O aX D cX]) x ?_ n).mono ?_);(refine f.ext ?_;exact eA);rintro e w1 ⟨rfl,b⟩;obtain⟨⟨p,s⟩,i,j,l⟩:=cK3 w b)|(go_at_call 199;(with_reducible refine(zbi _ (Z #[O aY mY cY]) y ?_ t).mono ?_);(refine d.ext ?_;exact eA);rintro e w2 ⟨rfl,o⟩;obtain⟨⟨aw,ax⟩,ae,af,ag⟩:=cK3 w o))
     go_meet;exact⟨k,x,y,rfl,n,t,.inr oM,aF.out,aG.out,Hs.out.ext eA⟩
   ·have ad:(x % 2==0)=false:=by simpa using q
    go_wp2_with(first|(go_at_call 199;(with_reducible refine(zbi _ (Z #[O aX D cX]) x ?_ n).mono ?_);(refine f.ext ?_;exact eA);rintro e w1 ⟨rfl,b⟩;obtain⟨⟨p,s⟩,i,j,l⟩:=cK3 w b))
    go_meet;exact⟨k,x,y,rfl,n,t,.inl oM,aF.out,aG.out,Hs.out.ext eA⟩
 case rest =>
  obtain⟨k,x0,y0,rfl,n,t,aJ,ak,aq,g⟩:=hcut;have az:2 ^ k*(Int.gcd x0 y0:Int)=G:=by rw [←HG.out];exact(zmQ ak aq).symm
  have aj:=Int.le_trans (zfp n ak) bb;have ap:=Int.le_trans (zfp t aq) bc;have a5:=hd9 (zjM aD.out n ak).1;clear ak aq bb bc aH bA aE;go_wp2
  go_loopg [26] x0.toNat (CmC w G M k)
  case atStart=>exact⟨x0,y0,n,t,aJ,aj,ap,az,rfl,g⟩
  case round =>
   clear g az aj ap aJ n t;obtain⟨x,y,n,t,aJ,aj,ap,hg,rfl,g⟩:=hrel;obtain⟨aX,D,cX,al,am,f⟩:=g.rdX;obtain⟨aY,mY,cY,K,P,d⟩:=g.rdY;obtain⟨ah,ai⟩:=g.rdR;have Q:w.heap.size<wr.heap.size:=(by have:=g.2.1;omega);have T:w.heap.size+1<wr.heap.size:=(by have:=g.2.1;omega);have aa:w.heap.size+1+1<wr.heap.size:=(by have:=g.2.1;omega);have Hs:=hd9 g;clear g;have Hg:=hd9 hg;clear hg;have au:Hid (Lm lim x):=hd9 (hM.out.le oM aj)
   by_cases q:x % 2=0
   ·have ad:(x % 2==0)=true:=by simpa using q
    go_wp2_with(first|(go_at_call 199;(with_reducible refine(zbi _ (Z #[O aX D cX]) x ?_ n).mono ?_);(refine f.ext ?_;exact eA);rintro e w1 ⟨rfl,b⟩;obtain⟨⟨p,s⟩,i,j,l⟩:=cK3 w b)|((go_at_call 200;(with_reducible refine(zdv _ (Z #[O aX D cX]) x ?_ au.out).mono ?_);(refine f.ext ?_;exact eA);rintro e w2 ⟨r2,rfl,an,o⟩;obtain⟨aQ,a4,aR,rfl⟩:=an.isD.form;obtain⟨⟨aw,ax⟩,ae,af,ag⟩:=cK3 w o)))
    go_roundg (x / 2).toNat
    case measure=>omega
    case rel=>exact⟨x / 2,y,by omega,t,.inr oM,by omega,ap,by rw [zhk q oM];exact Hg.out,rfl,(Hs.out.ext eA).setX an.isD⟩
   ·have ad:(x % 2==0)=false:=by simpa using q
    have aB:x % 2=1:=oM
    go_wp2_with(first|(go_at_call 199;(with_reducible refine(zbi _ (Z #[O aX D cX]) x ?_ n).mono ?_);(refine f.ext ?_;exact eA);rintro e w1 ⟨rfl,b⟩;obtain⟨⟨p,s⟩,i,j,l⟩:=cK3 w b))
    go_loopg [30] (x+y).toNat (CmD w G M k)
    case atStart=>exact⟨x,y,n,by omega,aB,aj,ap,Hg.out,rfl,Hs.out.ext eA⟩
    case round =>
     clear b p s i j l al am f K P d ah ai Q T aa Hs Hg au aj ap aJ n t q ad aB;obtain⟨x,y,n,t,aB,aj,ap,hg,rfl,g⟩:=hrel;obtain⟨aX,D,cX,al,am,f⟩:=g.rdX;obtain⟨aY,mY,cY,K,P,d⟩:=g.rdY;obtain⟨ah,ai⟩:=g.rdR;have Q:w.heap.size<wr.heap.size:=(by have:=g.2.1;omega);have T:w.heap.size+1<wr.heap.size:=(by have:=g.2.1;omega);have aa:w.heap.size+1+1<wr.heap.size:=(by have:=g.2.1;omega);have Hs:=hd9 g;clear g;have Hg:=hd9 hg;clear hg;have au:Hid (Lm lim x):=hd9 (hM.out.le oM aj)
     by_cases a2:y=0
     ·have bK:(y==0)=true:=by simpa using a2
      have HK:k≤10000000000:=by have:=a5.out;omega
      go_wp2_with(first|(go_at_call 92;(with_reducible refine(zaB _ (Z #[O aY mY cY]) y ?_).mono ?_);(refine d.ext ?_;exact eA);rintro e w1 ⟨rfl,b⟩;obtain⟨⟨p,s⟩,i,j,l⟩:=cK3 w b)|((go_at_call 202;(with_reducible refine(zep _ (Z #[O aX D cX]) x k ?_ au.out HK).mono ?_);(refine f.ext ?_;exact eA);rintro e w2 ⟨r2,rfl,an,o⟩;obtain⟨aQ,a4,aR,rfl⟩:=an.isD.form;obtain⟨⟨aw,ax⟩,ae,af,ag⟩:=cK3 w o)))
      obtain⟨o1,o2,o3⟩:=(Hs.out.ext (w:=w) (W':=w2) eA).out an.isD;refine bR (v:=Z #[O aQ a4 aR]) (by simp [results,Tryz.results159,go_sem,o3]) rfl ⟨_,rfl,?_,o2⟩;have e:2 ^ k*x=G:=by rw [←Hg.out,a2];simp [Int.natAbs_of_nonneg (show 0≤x by omega)]
      rw [←e];exact o1
     ·have bK:(y==0)=false:=by simpa using a2
      go_wp2_with(first|(go_at_call 92;(with_reducible refine(zaB _ (Z #[O aY mY cY]) y ?_).mono ?_);(refine d.ext ?_;exact eA);rintro e w1 ⟨rfl,b⟩;obtain⟨⟨p,s⟩,i,j,l⟩:=cK3 w b))
      go_loopg [33] y.toNat (CmE w G M k x y)
      case atStart=>exact⟨y,by omega,Int.le_refl _,Hg.out,rfl,Hs.out.ext eA⟩
      case round =>
       clear b p s i j l al am f K P d ah ai Q T aa Hs Hg;obtain⟨u,aC,cd,hg,rfl,g⟩:=hrel;obtain⟨aX,D,cX,al,am,f⟩:=g.rdX;obtain⟨aY,mY,cY,K,P,d⟩:=g.rdY;obtain⟨ah,ai⟩:=g.rdR;have Q:w.heap.size<wr.heap.size:=(by have:=g.2.1;omega);have T:w.heap.size+1<wr.heap.size:=(by have:=g.2.1;omega);have aa:w.heap.size+1+1<wr.heap.size:=(by have:=g.2.1;omega);have Hs:=hd9 g;clear g;have Hg:=hd9 hg;clear hg;have aO:Hid (Lm lim u):=hd9 (hM.out.le oM oM)
       by_cases q:u % 2=0
       ·have ad:(u % 2==0)=true:=by simpa using q
        go_wp2_with(first|(go_at_call 199;(with_reducible refine(zbi _ (Z #[O aY mY cY]) u ?_ aC).mono ?_);(refine d.ext ?_;exact eA);rintro e w1 ⟨rfl,b⟩;obtain⟨⟨p,s⟩,i,j,l⟩:=cK3 w b)|((go_at_call 200;(with_reducible refine(zdv _ (Z #[O aY mY cY]) u ?_ aO.out).mono ?_);(refine d.ext ?_;exact eA);rintro e w2 ⟨r2,rfl,an,o⟩;obtain⟨aQ,a4,aR,rfl⟩:=an.isD.form;obtain⟨⟨aw,ax⟩,ae,af,ag⟩:=cK3 w o)))
        go_roundg (u / 2).toNat
        case measure=>omega
        case rel=>exact⟨u / 2,by omega,by omega,by rw [zjj q aB];exact Hg.out,rfl,(Hs.out.ext eA).setY an.isD⟩
       ·have ad:(u % 2==0)=false:=by simpa using q
        have bL:u % 2=1:=oM
        go_upto_if 40 with (first|(go_at_call 199;(with_reducible refine(zbi _ (Z #[O aY mY cY]) u ?_ aC).mono ?_);(refine d.ext ?_;exact eA);rintro e w1 ⟨rfl,b⟩;obtain⟨⟨p,s⟩,i,j,l⟩:=cK3 w b)|((go_at_call 125;(with_reducible refine(zcm _ (Z #[O aX D cX]) (Z #[O aY mY cY]) x u ?_ ?_).mono ?_);(refine f.ext ?_;exact eA);(refine d.ext ?_;exact eA);rintro e w2 ⟨rfl,o⟩;obtain⟨⟨aw,ax⟩,ae,af,ag⟩:=cK3 w o)))
        go_cut [41] (CmF w G M k x y)
        case first =>
         rcases Int.lt_or_le u x with ao|ao
         ·have aS:=zi0 ao
          have bD:0<cmp3 x u:=of_decide_eq_true aS;have aP:=hd9 ao;clear ao;go_wp2;go_meet;exact⟨u,x,aC,by have:=aP.out;omega,bL,aj,by omega,by rw [Int.gcd_comm];exact Hg.out,(Hs.out.ext (W':=w2) eA).setXY (d.ext eA) (f.ext eA)⟩
         ·have aS:=ziZ ao
          have bD:cmp3 x u≤0:=by have:=of_decide_eq_false aS;omega
          have aP:=hd9 ao;clear ao;go_wp2;go_meet;exact⟨x,u,n,aP.out,aB,by omega,by omega,Hg.out,Hs.out.ext (W':=w2) eA⟩
        case rest =>
         clear b p s i j l o aw ax ae af ag al am f K P d ah ai Q T aa Hs Hg;obtain⟨x',u,aA,bm,aM,bN,bM,hg,g⟩:=hcut;obtain⟨wr,rfl⟩:∃W,W=wc:=⟨_,rfl⟩;obtain⟨aX,D,cX,al,am,f⟩:=g.rdX;obtain⟨aY,mY,cY,K,P,d⟩:=g.rdY;obtain⟨ah,ai⟩:=g.rdR;have Q:w.heap.size<wr.heap.size:=(by have:=g.2.1;omega);have T:w.heap.size+1<wr.heap.size:=(by have:=g.2.1;omega);have aa:w.heap.size+1+1<wr.heap.size:=(by have:=g.2.1;omega);have Hs:=hd9 g;clear g;have ay:Hid (Lm lim x'):=hd9 (hM.out.le oM oM);have aL:Hid (Lm lim u):=hd9 (hM.out.le oM oM);have be:2 ^ k*(Int.gcd x' (u + -1*x'):Int)=G:=by rw [zln oM bm];exact hg
         have Hg:=hd9 be;clear hg be
         by_cases bh:D≤2
         ·have bi:decide ((D:Int)≤2)=true:=by simp;omega
          have bj:(D:Int)≤2:=oM
          go_wp2_with(first|((go_at_call 114;(with_reducible refine(zcR _ (Z #[O aY mY cY]) (Z #[O aX D cX]) u x' (-1) ?_ ?_ aL.out ay.out oM oM).mono ?_);(refine d.ext ?_;exact eA);(refine f.ext ?_;exact eA);rintro e w1 ⟨r1,rfl,ac,b⟩;obtain⟨a1,m1,c1,rfl⟩:=ac.isD.form;obtain⟨⟨p,s⟩,i,j,l⟩:=cK3 w b;rcases Nat.lt_or_ge 2 m1 with aU|aU)))
          ·go_roundg (x'+(u + -1*x')).toNat
           case measure=>omega
           case rel=>exact⟨x',u + -1*x',aA,by omega,aM,by omega,by omega,Hg.out,rfl,(Hs.out.ext eA).setY ac.isD⟩
          ·have HK:k≤10000000000:=by have:=a5.out;omega
           obtain⟨z,hz⟩:=gX (u + -1*x');rw [hz]at ac Hg;have ce:0≤z:=oM
           clear hz;have aI:CmS w x' u w1:=Hs.out.ext eA;have bd:=aI.setY (sl:=O a1 m1 c1) (ac.isD);have a9:=(f.ext (w':=w1) eA).keep (aI.keepY (O a1 m1 c1));have ba:=ac.isD.keep (aI.keepY (O a1 m1 c1));have bw:=hd9 (f.lm bh);have bx:=hd9 (ac.isD.lm aU);have b3:=lm2 (f.lm bh);have b4:=lm2 (ac.isD.lm aU);have bG:=zmP (y:=z) aA;have az:0≤(Int.gcd x' (z):Int):=Int.natCast_nonneg _;have bu:Hid (Lm lim (Int.gcd x' (z):Int)):=hd9 (ay.out.le az bG);have bv:=hd9 bd;clear bd aI
           go_region_held3 (fun W=>W.cell? ⟨w.heap.size,0,X⟩=J (O aX D cX)∧W.cell? ⟨w.heap.size+1,0,X⟩=J (O a1 m1 c1)) ((repeat' (with_reducible refine And.intro ?_ ?_))<;>(first|(go_simp;done)|(refine b.cellS ?_;go_simp;done))) (first|((go_at_call 107;(with_reducible refine(zcX _ (Z #[O aX D cX]) x' ?_ bw.out).mono ?_);(refine a9.ext ?_;exact eA);rintro e w3 ⟨rfl,aZ⟩;obtain⟨⟨bB,bE⟩,bo,bp,bq⟩:=cK3 w aZ))|((go_at_call 107;(with_reducible refine(zcX _ (Z #[O a1 m1 c1]) (z) ?_ bx.out).mono ?_);(refine ba.ext ?_;exact eA);rintro e w4 ⟨rfl,a0⟩;obtain⟨⟨bC,bF⟩,br,bs,bt⟩:=cK3 w a0))|((go_at_call 201;(with_reducible refine(zgA _ x' (z) ⟨by omega,by omega⟩ ⟨by omega,by omega⟩).mono ?_);rintro e w5 ⟨rfl,bH⟩;obtain⟨⟨b5,b8⟩,bO,bP,bQ⟩:=cK3 w bH))|((go_at_call 115;(with_reducible refine(zcr _ (Int.gcd x' (z):Nat) az oM).mono ?_);rintro e w6 ⟨r6,rfl,bk,bI⟩;obtain⟨a6,m6,c6,rfl⟩:=bk.isD.form;obtain⟨⟨b6,b9⟩,bT,bU,bV⟩:=cK3 w bI))|((go_at_call 202;(with_reducible refine(zep _ (Z #[O a6 m6 c6]) (Int.gcd x' (z):Nat) k ?_ bu.out HK).mono ?_);(refine bk.isD.ext ?_;exact eA);rintro e w7 ⟨r7,rfl,bl,bJ⟩;obtain⟨a7,m7,c7,rfl⟩:=bl.isD.form;obtain⟨⟨b7,ca⟩,bW,bX,bY⟩:=cK3 w bJ)))
           all_goals go_wp2
           obtain⟨o1,o2,o3⟩:=(bv.out.ext (W':=w7) eA).out bl.isD;refine bR (v:=Z #[O a7 m7 c7]) (by simp [results,Tryz.results159,go_sem,o3]) rfl ⟨_,rfl,?_,o2⟩;rw [Hg.out]at o1;exact o1
         ·have bi:decide ((D:Int)≤2)=false:=by simp;omega
          have bj:2<(D:Int):=oM
          go_wp2_with(first|((go_at_call 114;(with_reducible refine(zcR _ (Z #[O aY mY cY]) (Z #[O aX D cX]) u x' (-1) ?_ ?_ aL.out ay.out oM oM).mono ?_);(refine d.ext ?_;exact eA);(refine f.ext ?_;exact eA);rintro e w1 ⟨r1,rfl,ac,b⟩;obtain⟨a1,m1,c1,rfl⟩:=ac.isD.form;obtain⟨⟨p,s⟩,i,j,l⟩:=cK3 w b)))
          go_roundg (x'+(u + -1*x')).toNat
          case measure=>omega
          case rel=>exact⟨x',u + -1*x',aA,by omega,aM,by omega,by omega,Hg.out,rfl,(Hs.out.ext eA).setY ac.isD⟩
end
end Go.Proofs.YtodpfeaihohpjaaGreatDoor.Cop
