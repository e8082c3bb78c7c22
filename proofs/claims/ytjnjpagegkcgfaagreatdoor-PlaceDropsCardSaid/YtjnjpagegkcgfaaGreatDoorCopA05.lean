/- Part 6: contracts of what the law calls. -/
import Derived.Test.YtjnjpagegkcgfaaGreatDoorCopA04
set_option maxRecDepth 1000000
set_option maxHeartbeats 16000000
set_option linter.unusedSimpArgs false
set_option linter.unusedVariables false
open Go.Value renaming slice→O,agg→Y,bool→X
open Go renaming World→Z,Value→I
open Option renaming none→V,some→J
namespace Go.Proofs.YtjnjpagegkcgfaaGreatDoor.Cop
section
open Go.RowKit Go.Shelf
theorem qcD (w:Z) (p:Addr):w.drew.cell? p=w.cell? p:=rfl
theorem qfD (w:Z) (p:Addr):w.drew.frozen? p=w.frozen? p:=rfl
theorem qdZ (w:Z):w.drew.heap.size=w.heap.size:=rfl
theorem Ext.lt {a b:Z} (h:Ext a b) {n:Nat} (c:n<a.heap.size):n<b.heap.size:=Nat.lt_of_lt_of_le c h.size
theorem cK0 {a c:Z} {A:Prop} (h:Ext a c) (e:((∀b o,b<a.heap.size→c.cell? ⟨b,o,V⟩=a.cell? ⟨b,o,V⟩)∧(∀b o,b<a.heap.size→c.frozen? ⟨b,o,V⟩=a.frozen? ⟨b,o,V⟩))→A:=by(intro h;(try simp only [qcD,qfD,qdZ]at h);exact h)):A:=e h.cells
theorem cK1 (w:Z) {a c:Z} {A:Prop} (h:Ext a c) (d:w.heap.size<a.heap.size:=by go_simp) (e:((∀b o,b<a.heap.size→c.cell? ⟨b,o,V⟩=a.cell? ⟨b,o,V⟩)∧(∀b o,b<a.heap.size→c.frozen? ⟨b,o,V⟩=a.frozen? ⟨b,o,V⟩))→A:=by(intro h;(try simp only [qcD,qfD,qdZ]at h);exact h)):A∧w.heap.size<c.heap.size:=⟨e h.cells,h.lt d⟩
theorem cK2 (w:Z) {a c:Z} {A:Prop} (h:Ext a c) (d:w.heap.size+1<a.heap.size:=by go_simp) (e:((∀b o,b<a.heap.size→c.cell? ⟨b,o,V⟩=a.cell? ⟨b,o,V⟩)∧(∀b o,b<a.heap.size→c.frozen? ⟨b,o,V⟩=a.frozen? ⟨b,o,V⟩))→A:=by(intro h;(try simp only [qcD,qfD,qdZ]at h);exact h)):A∧w.heap.size<c.heap.size∧w.heap.size+1<c.heap.size:=⟨e h.cells,h.lt oM,h.lt d⟩
theorem cK3 (w:Z) {a c:Z} {A:Prop} (h:Ext a c) (d:w.heap.size+1+1<a.heap.size:=by go_simp) (e:((∀b o,b<a.heap.size→c.cell? ⟨b,o,V⟩=a.cell? ⟨b,o,V⟩)∧(∀b o,b<a.heap.size→c.frozen? ⟨b,o,V⟩=a.frozen? ⟨b,o,V⟩))→A:=by(intro h;(try simp only [qcD,qfD,qdZ]at h);exact h)):A∧w.heap.size<c.heap.size∧w.heap.size+1<c.heap.size∧w.heap.size+1+1<c.heap.size:=⟨e h.cells,h.lt oM,h.lt oM,h.lt d⟩
theorem cK4 (w:Z) {a c:Z} {A:Prop} (h:Ext a c) (d:w.heap.size+1+1+1<a.heap.size:=by go_simp) (e:((∀b o,b<a.heap.size→c.cell? ⟨b,o,V⟩=a.cell? ⟨b,o,V⟩)∧(∀b o,b<a.heap.size→c.frozen? ⟨b,o,V⟩=a.frozen? ⟨b,o,V⟩))→A:=by(intro h;(try simp only [qcD,qfD,qdZ]at h);exact h)):A∧w.heap.size<c.heap.size∧w.heap.size+1<c.heap.size∧w.heap.size+1+1<c.heap.size∧w.heap.size+1+1+1<c.heap.size:=⟨e h.cells,h.lt oM,h.lt oM,h.lt oM,h.lt d⟩
def NoT (T:TypeId) (w:Z) (b:Nat):Prop:=∀cs fr,w.heap[b]?≠J (.cells cs T fr)
theorem NoT.new {T T':TypeId} {w:Z} {b:Nat} {cs:Array I} {c:Nat×Nat} (g:b=w.heap.size) (f:T'≠T):NoT T (w.alloc (.cells cs T' c)) b:=by
 intro a d e;rw [qhA _ _ _ g]at e
 cases e;exact f rfl
theorem NoT.old {T:TypeId} {w:Z} {b:Nat} {o:Obj} (h:NoT T w b) (d:b≠w.heap.size):NoT T (w.alloc o) b:=by
 intro a c e;rw [zag,if_neg d]at e;exact h a c e
theorem NoT.ext {T:TypeId} {w w':Z} {b:Nat} (h:NoT T w b) (k:Ext w w') (d:b<w.heap.size):NoT T w' b:=by
 intro a c e;rw [k.block d]at e;exact h a c e
theorem NoT.drew {T:TypeId} {w:Z} {b:Nat} (h:NoT T w b):NoT T w.drew b:=h
theorem NoT.drewN {T:TypeId} {w:Z} {b:Nat} (h:NoT T w b) (n:Nat):NoT T (w.drewN n) b:=by
 intro a c e;exact h a c (by simpa [World.drewN] using e)
theorem NoT.set {T:TypeId} {w:Z} {b:Nat} (h:NoT T w b) (p:Addr) (u:I):NoT T (w.setCell p u) b:=by
 intro c f e
 by_cases a:b=p.block
 ·subst a
  simp only [World.setCell,Array.getElem?_modify,if_pos]at e
  cases hw:w.heap[p.block]? with
  | none=>rw [hw]at e;cases e
  | some o =>
   rw [hw]at e
   cases o with
   | cells d T' g =>
    simp only [Option.map_some,Option.some.injEq,Obj.cells.injEq]at e;obtain⟨_,rfl,_⟩:=e;exact h _ _ hw
   | _=>simp at e
 ·rw [bS _ _ _ _ a]at e
  exact h c f e
theorem KeepT.setN {T:TypeId} {a b:Z} (h:KeepT T a b) {p:Addr} (f:NoT T b p.block) (u:I):KeepT T a (b.setCell p u):=fun x d e g=>by
 have c:=h x d e g;rw [bS _ _ _ _ (by rintro rfl;exact f _ _ c)];exact c
theorem NoT.ext2 {T:TypeId} {w w':Z} {b:Nat} (a:b<w.heap.size) (k:Ext w w') (h:NoT T w b):NoT T w' b:=h.ext k a
theorem NoT.old2 {T:TypeId} {w:Z} {b:Nat} {o:Obj} (a:b≠w.heap.size) (h:NoT T w b):NoT T (w.alloc o) b:=h.old a
theorem KeepT.setN2 {T:TypeId} {a b:Z} {p:Addr} (c:NoT T b p.block) (h:KeepT T a b) (u:I):KeepT T a (b.setCell p u):=h.setN c u
theorem nA {T:TypeId} {w:Z} {b:Nat} (h:NoT T w b:=by(repeat(first|with_reducible assumption|with_reducible refine NoT.set ?_ _ _|with_reducible refine NoT.drew ?_|with_reducible refine NoT.drewN ?_ _|(refine NoT.new ?_ ?_;(focus(first|omega|((try dsimp only);(try simp only [wZ,qdZ,qcZ]);(try omega);done)));(focus decide))|(refine NoT.old2 ?_ ?_;(focus(first|omega|((try dsimp only);(try simp only [wZ,qdZ,qcZ]);(try omega);done))))|(refine NoT.ext2 ?_ (by with_reducible assumption) ?_;(focus(first|omega|((try dsimp only);(try simp only [wZ,qdZ,qcZ]);(try omega);done))))))):NoT T w b:=h
theorem kA {T:TypeId} {w a:Z} (h:KeepT T w a:=by repeat(first|with_reducible exact KeepT.refl _ _|(refine Ext.keep ?_;(focus((with_reducible repeat(first|assumption|exact eR _|refine eX ?_|refine eT ?_|refine eS ?_));done)))|with_reducible refine KeepT.alloc ?_ _|(with_reducible refine KeepT.setN2 ?_ ?_ _;(focus(((repeat(first|with_reducible assumption|with_reducible refine NoT.set ?_ _ _|with_reducible refine NoT.drew ?_|with_reducible refine NoT.drewN ?_ _|(refine NoT.new ?_ ?_;(focus(first|omega|((try dsimp only);(try simp only [wZ,qdZ,qcZ]);(try omega);done)));(focus decide))|(refine NoT.old2 ?_ ?_;(focus(first|omega|((try dsimp only);(try simp only [wZ,qdZ,qcZ]);(try omega);done))))|(refine NoT.ext2 ?_ (by with_reducible assumption) ?_;(focus(first|omega|((try dsimp only);(try simp only [wZ,qdZ,qcZ]);(try omega);done)))))));done))))):KeepT T w a:=h
def IsZ (w:Z) (v:I) (n:Int):Prop:=∃a m c s,v=Y #[O a m c,X s]∧s=decide (n<0)∧IsD w (Y #[O a m c]) (n.natAbs:Int)
theorem IsZ.ext {w w':Z} {v:I} {n:Int} (h:IsZ w v n) (k:Ext w w'):IsZ w' v n:=by
 obtain⟨a,m,c,s,rfl,b,d⟩:=h;exact⟨a,m,c,s,rfl,b,d.ext k⟩
theorem IsZ.keep {w w':Z} {v:I} {n:Int} (h:IsZ w v n) (k:KeepT 2 w w'):IsZ w' v n:=by
 obtain⟨a,m,c,s,rfl,b,d⟩:=h;exact⟨a,m,c,s,rfl,b,d.keep k⟩
theorem IsZ.form {w:Z} {v:I} {n:Int} (h:IsZ w v n):∃a m c s,v=Y #[O a m c,X s]:=by
 obtain⟨a,m,c,s,rfl,b,d⟩:=h;exact⟨a,m,c,s,rfl⟩
theorem IsZ.sgn {w:Z} {a:Option Addr} {m c:Nat} {s:Bool} {n:Int} (h:IsZ w (Y #[O a m c,X s]) n):s=decide (n<0):=by
 obtain⟨a,m,c,s,e,b,d⟩:=h;cases e;exact b
theorem IsZ.dig {w:Z} {a:Option Addr} {m c:Nat} {s:Bool} {n:Int} (h:IsZ w (Y #[O a m c,X s]) n):IsD w (Y #[O a m c]) (n.natAbs:Int):=by
 obtain⟨a,m,c,s,e,d,b⟩:=h;cases e;exact b
theorem Lm.abs {k:Nat} {n:Int} (h:Lm k n):Lm k (n.natAbs:Int):=by unfold Lm at *;omega
theorem Lm.neg {k:Nat} {n:Int} (h:Lm k n):Lm k (-n):=by unfold Lm at *;omega
def sg (s:Bool) (n:Int):Int:=if s then -n else n
theorem IsZ.mk {w:Z} {a:Option Addr} {m c:Nat} {n:Int} (b:Bool) (h:IsD w (Y #[O a m c]) n):IsZ w (Y #[O a m c,X (b&&!(n==0))]) (sg b n):=by
 have d:=h.nonneg;refine⟨a,m,c,_,rfl,?_,?_⟩
 ·rw [Bool.eq_iff_iff];cases b<;>simp [sg]<;>omega
 ·have:((sg b n).natAbs:Int)=n:=by cases b<;>simp [sg]<;>omega
  rw [this];exact h
theorem IsZ.nil (w:Z):IsZ w (Y #[O V 0 0,X false]) 0:=⟨_,_,_,_,rfl,rfl,_,[],rfl,Ints.nil _ _,Can.nil _,rfl⟩
def RetZd (w:Z) (n:Int) (e:Ending) (w':Z):Prop:=∃r,e = .returned r∧IsZ w' r n∧Ext w w'∧Dr w w'
def RetZ (w:Z) (n:Int) (e:Ending) (w':Z):Prop:=∃r,e = .returned r∧IsZ w' r n∧Ext w w'
theorem zcQ (w:Z) (d:Bool) (v:I) (n:Int) (h:IsD w v n) :
  Calls Tryz.prog 183 #[X d,v] w (RetZd w (sg d n)):=by
 obtain⟨a,m,c,rfl⟩:=h.form
 cases d
 ·go_enter Tryz.func183,Tryz.ntmps183
  go_wp2
  go_region_with (fail)
  all_goals go_wp2
  all_goals exact bR (v:=Y #[O a m c,X (false&&!(n==0))]) (by simp [results,Tryz.results183,go_sem]) rfl ⟨_,rfl,IsZ.mk false (h.ext eA),eA,dA⟩
 ·go_enter Tryz.func183,Tryz.ntmps183
  go_wp2
  go_region_held3 (fun W=>W.cell? ⟨w.heap.size,0,V⟩=J (O a m c)) ((repeat' (with_reducible refine And.intro ?_ ?_))<;>(first|(go_simp;done)|(refine hx1.cellS ?_;go_simp;done))) ((go_at_call 166;(with_reducible refine(zfO _ (Y #[O a m c]) n ?_).mono ?_);(refine h.ext ?_;exact eA);rintro e i ⟨rfl,hx1,f⟩;obtain⟨b,g⟩:=hx1.cells))
  all_goals go_wp2
  exact bR (v:=Y #[O a m c,X (true&&!(n==0))]) (by simp [results,Tryz.results183,go_sem,b]) rfl ⟨_,rfl,IsZ.mk true (h.ext eA),eA,dA⟩
theorem z_dr {f:FuncId} {args:Array I} {w:Z} {n:Int} (h:Calls Tryz.prog f args w (RetZd w n)):Calls Tryz.prog f args w (RetZ w n):=zkg h
theorem zcP (w:Z) (a:Bool) (v:I) (n:Int) (h:IsD w v n) :
  Calls Tryz.prog 183 #[X a,v] w (RetZ w (sg a n)):=z_dr (zcQ w a v n h)
theorem zo0 {n:Int} {s:Bool} (h:s=decide (n<0)):sg (!s) (n.natAbs:Int) = -n:=by
 subst h;by_cases h:n<0<;>simp [sg,h]<;>omega
theorem zmR (w:Z) (v:I) (n:Int) (h:IsZ w v n):Calls Tryz.prog 186 #[v] w (RetZd w (-n)):=by
 obtain⟨a,m,c,s,rfl⟩:=h.form;go_enter Tryz.func186,Tryz.ntmps186
 go_wp2_with((go_at_call 183;(with_reducible refine(zcQ _ (!s) (Y #[O a m c]) n.natAbs ?_).mono ?_);(refine h.dig.ext ?_;exact eA);rintro e q ⟨p,rfl,b,f,j⟩;obtain⟨g,l,i,o,rfl⟩:=b.form;obtain⟨d,k⟩:=f.cells))
 refine bR (v:=Y #[O g l i,X o]) (by simp [results,Tryz.results186,go_sem,d]) rfl ⟨_,rfl,?_,eA,dA⟩;rw [←zo0 h.sgn];exact b.keep kA
theorem zdy (w:Z) (v:I) (n:Int) (h:IsZ w v n):Calls Tryz.prog 186 #[v] w (RetZ w (-n)):=z_dr (zmR w v n h)
theorem zkZ (w:Z) (v:I) (n:Int) (h:IsZ w v n):Calls Tryz.prog 163 #[v] w fun e j=>e = .returned (.int .i64 n.sign)∧Ext w j∧Dr w j:=by
 obtain⟨a,m,c,s,rfl⟩:=h.form;have k:=h.sgn;have q:=h.dig
 have d:n=0→Calls Tryz.prog 163 #[Y #[O a m c,X s]] w fun e j=>e = .returned (.int .i64 n.sign)∧Ext w j∧Dr w j:=by
  intro g;have r:((n.natAbs:Int)==0)=true:=by simp;omega
  obtain rfl:s=false:=by rw [k];simp;omega
  have e:n.sign=0:=by first|(subst g;rfl)|exact Int.sign_eq_neg_one_of_neg g|exact Int.sign_eq_one_of_pos g
  rw [e];clear e g k;go_enter Tryz.func163,Tryz.ntmps163
  go_wp2_with((go_at_call 166;(with_reducible refine(zfO _ (Y #[O a m c]) n.natAbs ?_).mono ?_);(refine q.ext ?_;exact eA);rintro e t ⟨rfl,i,o⟩;obtain⟨l,p⟩:=i.cells))
  go_ret;exact⟨rfl,eA,dA⟩
 have f:n<0→Calls Tryz.prog 163 #[Y #[O a m c,X s]] w fun e j=>e = .returned (.int .i64 n.sign)∧Ext w j∧Dr w j:=by
  intro g;have r:((n.natAbs:Int)==0)=false:=by simp;omega
  obtain rfl:s=true:=by rw [k];simp;omega
  have e:n.sign = -1:=by first|(subst g;rfl)|exact Int.sign_eq_neg_one_of_neg g|exact Int.sign_eq_one_of_pos g
  rw [e];clear e g k;go_enter Tryz.func163,Tryz.ntmps163
  go_wp2_with((go_at_call 166;(with_reducible refine(zfO _ (Y #[O a m c]) n.natAbs ?_).mono ?_);(refine q.ext ?_;exact eA);rintro e t ⟨rfl,i,o⟩;obtain⟨l,p⟩:=i.cells))
  go_ret;exact⟨rfl,eA,dA⟩
 have b:0<n→Calls Tryz.prog 163 #[Y #[O a m c,X s]] w fun e j=>e = .returned (.int .i64 n.sign)∧Ext w j∧Dr w j:=by
  intro g;have r:((n.natAbs:Int)==0)=false:=by simp;omega
  obtain rfl:s=false:=by rw [k];simp;omega
  have e:n.sign=1:=by first|(subst g;rfl)|exact Int.sign_eq_neg_one_of_neg g|exact Int.sign_eq_one_of_pos g
  rw [e];clear e g k;go_enter Tryz.func163,Tryz.ntmps163
  go_wp2_with((go_at_call 166;(with_reducible refine(zfO _ (Y #[O a m c]) n.natAbs ?_).mono ?_);(refine q.ext ?_;exact eA);rintro e t ⟨rfl,i,o⟩;obtain⟨l,p⟩:=i.cells))
  go_ret;exact⟨rfl,eA,dA⟩
 rcases Int.lt_trichotomy n 0 with g|g|g
 ·exact f g
 ·exact d g
 ·exact b g
theorem zkY (w:Z) (v:I) (n:Int) (h:IsZ w v n):Calls Tryz.prog 163 #[v] w fun e a=>e = .returned (.int .i64 n.sign)∧Ext w a:=zfA (zkZ w v n h)
theorem zpb (n:Int) (a : -9223372036854775808≤n) (b:n<0):IntKind.u64.wrap (-(IntKind.u64.wrap n)) = -n:=by
 simp [IntKind.wrap,IntKind.signed,IntKind.bits];omega
theorem zob (n:Int) (a:n≤9223372036854775807) (b:0≤n):IntKind.u64.wrap n=n:=by
 simp [IntKind.wrap,IntKind.signed,IntKind.bits];omega
theorem zfp (w:Z) (n:Int) (t : -9223372036854775808≤n) (u:n≤9223372036854775807):Calls Tryz.prog 137 #[.int .i64 n] w (RetZ w n):=by
 by_cases x:n<0
 ·have y:=zpb n t x
  go_enter Tryz.func137,Tryz.ntmps137
  go_wp2_with(first|(go_at_call 188;(with_reducible refine(zcl _ (-n) oM oM).mono ?_);rintro e K ⟨z,rfl,a,h⟩;obtain⟨j,q,l,rfl⟩:=a.isD.form;obtain⟨⟨f,o⟩,c⟩:=cK1 w h)|(go_at_call 183;(with_reducible refine(zcP _ true (Y #[O j q l]) (-n) a.isD).mono ?_);rintro e L ⟨D,rfl,b,i⟩;obtain⟨k,r,m,s,rfl⟩:=b.form;obtain⟨⟨g,p⟩,d⟩:=cK1 w i))
  refine bR (v:=Y #[O k r m,X s]) (by simp [results,Tryz.results137,go_sem,f,g,c,d]) rfl ⟨_,rfl,?_,eA⟩;have e:n=sg true (-n):=by simp [sg]
  rw [e];exact b.keep kA
 ·have y:=zob n u oM
  go_enter Tryz.func137,Tryz.ntmps137
  go_wp2_with(first|(go_at_call 188;(with_reducible refine(zcl _ n oM oM).mono ?_);rintro e K ⟨z,rfl,a,h⟩;obtain⟨j,q,l,rfl⟩:=a.isD.form;obtain⟨⟨f,o⟩,c⟩:=cK1 w h)|(go_at_call 183;(with_reducible refine(zcP _ false (Y #[O j q l]) n a.isD).mono ?_);rintro e L ⟨D,rfl,b,i⟩;obtain⟨k,r,m,s,rfl⟩:=b.form;obtain⟨⟨g,p⟩,d⟩:=cK1 w i))
  exact bR (v:=Y #[O k r m,X s]) (by simp [results,Tryz.results137,go_sem,f,g,c,d]) rfl ⟨_,rfl,b.keep kA,eA⟩
theorem zgW {x y:Int} {s:Bool} (a:s=decide (x<0)) (b:s=decide (y<0)):sg s ((x.natAbs:Int)+1*(y.natAbs:Int))=x+y:=by
 cases s<;>simp [sg]at *<;>omega
theorem zgU {x y:Int} {s:Bool} (a:(!s)=decide (x<0)) (b:s=decide (y<0)) (h:(x.natAbs:Int)<y.natAbs):sg s ((y.natAbs:Int) + -1*(x.natAbs:Int))=x+y:=by
 cases s<;>simp [sg]at *<;>omega
theorem zgV {x y:Int} {s:Bool} (a:s=decide (x<0)) (b:(!s)=decide (y<0)) (h:¬(x.natAbs:Int)<y.natAbs):sg s ((x.natAbs:Int) + -1*(y.natAbs:Int))=x+y:=by
 cases s<;>simp [sg]at *<;>omega
theorem zmO (w:Z) (va vb:I) (x y:Int) (ha:IsZ w va x) (hb:IsZ w vb y) (am:Lm lim x) (an:Lm lim y) :
  Calls Tryz.prog 179 #[va,vb] w (RetZd w (x+y)):=by
 obtain⟨a,m,c,s,rfl⟩:=ha.form;obtain⟨o,q,p,s',rfl⟩:=hb.form;have S:=hd9 ha.sgn;have T:=hd9 hb.sgn;have l:=ha.dig;have n:=hb.dig;have Q:=hd9 am.abs;have R:=hd9 an.abs;clear am an ha hb
 have ab:s=true→s'=true→Calls Tryz.prog 179 #[Y #[O a m c,X s],Y #[O o q p,X s']] w (RetZd w (x+y)):=by
  intro h1 h2;subst h1 h2;go_enter Tryz.func179,Tryz.ntmps179;go_wp2
  go_region_held3 (fun W=>W.cell? ⟨w.heap.size,0,V⟩=J (O a m c)∧W.cell? ⟨w.heap.size,1,V⟩=J (X true)∧W.cell? ⟨w.heap.size+1,0,V⟩=J (O o q p)) ((repeat' (with_reducible refine And.intro ?_ ?_))<;>(first|(go_simp;done)|(refine hx1.cellS ?_;go_simp;done))) (first|((go_at_call 187;(with_reducible refine(zdn _ (Y #[O a m c]) (Y #[O o q p]) x.natAbs y.natAbs 1 ?_ ?_ Q.out R.out oM oM).mono ?_);(refine l.ext ?_;exact eA);(refine n.ext ?_;exact eA);rintro e w1 ⟨r1,rfl,b,hx1,ad⟩;obtain⟨a1,m1,c1,rfl⟩:=b.isD.form;obtain⟨⟨h,af⟩,r,t,f⟩:=cK3 w hx1))|((go_at_call 183;(with_reducible refine(zcQ _ true (Y #[O a1 m1 c1]) ((x.natAbs:Int)+1*(y.natAbs:Int)) ?_).mono ?_);(refine b.isD.ext ?_;exact eA);rintro e w2 ⟨r2,rfl,d,j,ae⟩;obtain⟨a2,m2,c2,s2,rfl⟩:=d.form;obtain⟨⟨i,ag⟩,u,z,g⟩:=cK3 w j)))
  all_goals go_wp2
  refine bR (v:=Y #[O a2 m2 c2,X s2]) (by simp [results,Tryz.results179,go_sem,h,i,f,g]) rfl ⟨_,rfl,?_,eA,dA⟩;rw [←zgW S.out T.out];exact d.keep kA
 have P:s=false→s'=false→Calls Tryz.prog 179 #[Y #[O a m c,X s],Y #[O o q p,X s']] w (RetZd w (x+y)):=by
  intro h1 h2;subst h1 h2;go_enter Tryz.func179,Tryz.ntmps179;go_wp2
  go_region_held3 (fun W=>W.cell? ⟨w.heap.size,0,V⟩=J (O a m c)∧W.cell? ⟨w.heap.size,1,V⟩=J (X false)∧W.cell? ⟨w.heap.size+1,0,V⟩=J (O o q p)) ((repeat' (with_reducible refine And.intro ?_ ?_))<;>(first|(go_simp;done)|(refine hx1.cellS ?_;go_simp;done))) (first|((go_at_call 187;(with_reducible refine(zdn _ (Y #[O a m c]) (Y #[O o q p]) x.natAbs y.natAbs 1 ?_ ?_ Q.out R.out oM oM).mono ?_);(refine l.ext ?_;exact eA);(refine n.ext ?_;exact eA);rintro e w1 ⟨r1,rfl,b,hx1,ad⟩;obtain⟨a1,m1,c1,rfl⟩:=b.isD.form;obtain⟨⟨h,af⟩,r,t,f⟩:=cK3 w hx1))|((go_at_call 183;(with_reducible refine(zcQ _ false (Y #[O a1 m1 c1]) ((x.natAbs:Int)+1*(y.natAbs:Int)) ?_).mono ?_);(refine b.isD.ext ?_;exact eA);rintro e w2 ⟨r2,rfl,d,j,ae⟩;obtain⟨a2,m2,c2,s2,rfl⟩:=d.form;obtain⟨⟨i,ag⟩,u,z,g⟩:=cK3 w j)))
  all_goals go_wp2
  refine bR (v:=Y #[O a2 m2 c2,X s2]) (by simp [results,Tryz.results179,go_sem,h,i,f,g]) rfl ⟨_,rfl,?_,eA,dA⟩;rw [←zgW S.out T.out];exact d.keep kA
 have aa:s=true→s'=false→Calls Tryz.prog 179 #[Y #[O a m c,X s],Y #[O o q p,X s']] w (RetZd w (x+y)):=by
  intro h1 h2;subst h1 h2
  by_cases ah:(x.natAbs:Int)<y.natAbs
  ·have ac:=zdr ah
   go_enter Tryz.func179,Tryz.ntmps179
   go_wp2_with((go_at_call 226;(with_reducible refine(zf7 _ (Y #[O a m c]) (Y #[O o q p]) x.natAbs y.natAbs ?_ ?_).mono ?_);(refine l.ext ?_;exact eA);(refine n.ext ?_;exact eA);rintro e w0 ⟨rfl,L,ak⟩;obtain⟨⟨K,al⟩,ai,aj,k⟩:=cK3 w L))
   go_region_held3 (fun W=>W.cell? ⟨w.heap.size,0,V⟩=J (O a m c)∧W.cell? ⟨w.heap.size+1,1,V⟩=J (X false)∧W.cell? ⟨w.heap.size+1,0,V⟩=J (O o q p)) ((repeat' (with_reducible refine And.intro ?_ ?_))<;>(first|(go_simp;done)|(refine hx1.cellS ?_;go_simp;done))) (first|((go_at_call 187;(with_reducible refine(zdn _ (Y #[O o q p]) (Y #[O a m c]) y.natAbs x.natAbs (-1) ?_ ?_ R.out Q.out oM oM).mono ?_);(refine n.ext ?_;exact eA);(refine l.ext ?_;exact eA);rintro e w1 ⟨r1,rfl,b,hx1,ad⟩;obtain⟨a1,m1,c1,rfl⟩:=b.isD.form;obtain⟨⟨h,af⟩,r,t,f⟩:=cK3 w hx1))|((go_at_call 183;(with_reducible refine(zcQ _ false (Y #[O a1 m1 c1]) ((y.natAbs:Int) + -1*(x.natAbs:Int)) ?_).mono ?_);(refine b.isD.ext ?_;exact eA);rintro e w2 ⟨r2,rfl,d,j,ae⟩;obtain⟨a2,m2,c2,s2,rfl⟩:=d.form;obtain⟨⟨i,ag⟩,u,z,g⟩:=cK3 w j)))
   all_goals go_wp2
   refine bR (v:=Y #[O a2 m2 c2,X s2]) (by simp [results,Tryz.results179,go_sem,K,h,i,k,f,g]) rfl ⟨_,rfl,?_,eA,dA⟩;rw [←zgU (s:=false) S.out T.out oM];exact d.keep kA
  ·have ac:=zcB ah
   go_enter Tryz.func179,Tryz.ntmps179
   go_wp2_with((go_at_call 226;(with_reducible refine(zf7 _ (Y #[O a m c]) (Y #[O o q p]) x.natAbs y.natAbs ?_ ?_).mono ?_);(refine l.ext ?_;exact eA);(refine n.ext ?_;exact eA);rintro e w0 ⟨rfl,L,ak⟩;obtain⟨⟨K,al⟩,ai,aj,k⟩:=cK3 w L))
   go_region_held3 (fun W=>W.cell? ⟨w.heap.size,0,V⟩=J (O a m c)∧W.cell? ⟨w.heap.size,1,V⟩=J (X true)∧W.cell? ⟨w.heap.size+1,0,V⟩=J (O o q p)) ((repeat' (with_reducible refine And.intro ?_ ?_))<;>(first|(go_simp;done)|(refine hx1.cellS ?_;go_simp;done))) (first|((go_at_call 187;(with_reducible refine(zdn _ (Y #[O a m c]) (Y #[O o q p]) x.natAbs y.natAbs (-1) ?_ ?_ Q.out R.out oM oM).mono ?_);(refine l.ext ?_;exact eA);(refine n.ext ?_;exact eA);rintro e w1 ⟨r1,rfl,b,hx1,ad⟩;obtain⟨a1,m1,c1,rfl⟩:=b.isD.form;obtain⟨⟨h,af⟩,r,t,f⟩:=cK3 w hx1))|((go_at_call 183;(with_reducible refine(zcQ _ true (Y #[O a1 m1 c1]) ((x.natAbs:Int) + -1*(y.natAbs:Int)) ?_).mono ?_);(refine b.isD.ext ?_;exact eA);rintro e w2 ⟨r2,rfl,d,j,ae⟩;obtain⟨a2,m2,c2,s2,rfl⟩:=d.form;obtain⟨⟨i,ag⟩,u,z,g⟩:=cK3 w j)))
   all_goals go_wp2
   refine bR (v:=Y #[O a2 m2 c2,X s2]) (by simp [results,Tryz.results179,go_sem,K,h,i,k,f,g]) rfl ⟨_,rfl,?_,eA,dA⟩;rw [←zgV (s:=true) S.out T.out oM];exact d.keep kA
 have D:s=false→s'=true→Calls Tryz.prog 179 #[Y #[O a m c,X s],Y #[O o q p,X s']] w (RetZd w (x+y)):=by
  intro h1 h2;subst h1 h2
  by_cases ah:(x.natAbs:Int)<y.natAbs
  ·have ac:=zdr ah
   go_enter Tryz.func179,Tryz.ntmps179
   go_wp2_with((go_at_call 226;(with_reducible refine(zf7 _ (Y #[O a m c]) (Y #[O o q p]) x.natAbs y.natAbs ?_ ?_).mono ?_);(refine l.ext ?_;exact eA);(refine n.ext ?_;exact eA);rintro e w0 ⟨rfl,L,ak⟩;obtain⟨⟨K,al⟩,ai,aj,k⟩:=cK3 w L))
   go_region_held3 (fun W=>W.cell? ⟨w.heap.size,0,V⟩=J (O a m c)∧W.cell? ⟨w.heap.size+1,1,V⟩=J (X true)∧W.cell? ⟨w.heap.size+1,0,V⟩=J (O o q p)) ((repeat' (with_reducible refine And.intro ?_ ?_))<;>(first|(go_simp;done)|(refine hx1.cellS ?_;go_simp;done))) (first|((go_at_call 187;(with_reducible refine(zdn _ (Y #[O o q p]) (Y #[O a m c]) y.natAbs x.natAbs (-1) ?_ ?_ R.out Q.out oM oM).mono ?_);(refine n.ext ?_;exact eA);(refine l.ext ?_;exact eA);rintro e w1 ⟨r1,rfl,b,hx1,ad⟩;obtain⟨a1,m1,c1,rfl⟩:=b.isD.form;obtain⟨⟨h,af⟩,r,t,f⟩:=cK3 w hx1))|((go_at_call 183;(with_reducible refine(zcQ _ true (Y #[O a1 m1 c1]) ((y.natAbs:Int) + -1*(x.natAbs:Int)) ?_).mono ?_);(refine b.isD.ext ?_;exact eA);rintro e w2 ⟨r2,rfl,d,j,ae⟩;obtain⟨a2,m2,c2,s2,rfl⟩:=d.form;obtain⟨⟨i,ag⟩,u,z,g⟩:=cK3 w j)))
   all_goals go_wp2
   refine bR (v:=Y #[O a2 m2 c2,X s2]) (by simp [results,Tryz.results179,go_sem,K,h,i,k,f,g]) rfl ⟨_,rfl,?_,eA,dA⟩;rw [←zgU (s:=true) S.out T.out oM];exact d.keep kA
  ·have ac:=zcB ah
   go_enter Tryz.func179,Tryz.ntmps179
   go_wp2_with((go_at_call 226;(with_reducible refine(zf7 _ (Y #[O a m c]) (Y #[O o q p]) x.natAbs y.natAbs ?_ ?_).mono ?_);(refine l.ext ?_;exact eA);(refine n.ext ?_;exact eA);rintro e w0 ⟨rfl,L,ak⟩;obtain⟨⟨K,al⟩,ai,aj,k⟩:=cK3 w L))
   go_region_held3 (fun W=>W.cell? ⟨w.heap.size,0,V⟩=J (O a m c)∧W.cell? ⟨w.heap.size,1,V⟩=J (X false)∧W.cell? ⟨w.heap.size+1,0,V⟩=J (O o q p)) ((repeat' (with_reducible refine And.intro ?_ ?_))<;>(first|(go_simp;done)|(refine hx1.cellS ?_;go_simp;done))) (first|((go_at_call 187;(with_reducible refine(zdn _ (Y #[O a m c]) (Y #[O o q p]) x.natAbs y.natAbs (-1) ?_ ?_ Q.out R.out oM oM).mono ?_);(refine l.ext ?_;exact eA);(refine n.ext ?_;exact eA);rintro e w1 ⟨r1,rfl,b,hx1,ad⟩;obtain⟨a1,m1,c1,rfl⟩:=b.isD.form;obtain⟨⟨h,af⟩,r,t,f⟩:=cK3 w hx1))|((go_at_call 183;(with_reducible refine(zcQ _ false (Y #[O a1 m1 c1]) ((x.natAbs:Int) + -1*(y.natAbs:Int)) ?_).mono ?_);(refine b.isD.ext ?_;exact eA);rintro e w2 ⟨r2,rfl,d,j,ae⟩;obtain⟨a2,m2,c2,s2,rfl⟩:=d.form;obtain⟨⟨i,ag⟩,u,z,g⟩:=cK3 w j)))
   all_goals go_wp2
   refine bR (v:=Y #[O a2 m2 c2,X s2]) (by simp [results,Tryz.results179,go_sem,K,h,i,k,f,g]) rfl ⟨_,rfl,?_,eA,dA⟩;rw [←zgV (s:=false) S.out T.out oM];exact d.keep kA
 cases s<;>cases s'
 ·exact P rfl rfl
 ·exact D rfl rfl
 ·exact aa rfl rfl
 ·exact ab rfl rfl
theorem zme (w:Z) (c d:I) (x y:Int) (e:IsZ w c x) (f:IsZ w d y) (a:Lm lim x) (b:Lm lim y) :
  Calls Tryz.prog 179 #[c,d] w (RetZ w (x+y)):=z_dr (zmO w c d x y e f a b)
theorem zpc (w:Z) (D K:I) (x y:Int) (r:IsZ w D x) (t:IsZ w K y) (b:Lm lim x) (d:Lm lim y) :
  Calls Tryz.prog 184 #[D,K] w (RetZd w (x-y)):=by
 obtain⟨a,m,c,s,rfl⟩:=r.form;obtain⟨p,u,q,z,rfl⟩:=t.form;have j:=hd9 b;have k:=hd9 d.neg;clear b d;go_enter Tryz.func184,Tryz.ntmps184;go_wp2
 go_region_held3 (fun W=>W.cell? ⟨w.heap.size,0,V⟩=J (O a m c)∧W.cell? ⟨w.heap.size,1,V⟩=J (X s)∧W.cell? ⟨w.heap.size+1,0,V⟩=J (O p u q)∧W.cell? ⟨w.heap.size+1,1,V⟩=J (X z)) ((repeat' (with_reducible refine And.intro ?_ ?_))<;>(first|(go_simp;done)|(refine hx1.cellS ?_;go_simp;done))) (first|((go_at_call 186;(with_reducible refine(zmR _ (Y #[O p u q,X z]) y ?_).mono ?_);(refine t.ext ?_;exact eA);rintro e w1 ⟨r1,rfl,f,hx1,aa⟩;obtain⟨S,m1,c1,s1,rfl⟩:=f.form;obtain⟨⟨l,ac⟩,L,P,h⟩:=cK3 w hx1))|((go_at_call 179;(with_reducible refine(zmO _ (Y #[O a m c,X s]) (Y #[O S m1 c1,X s1]) x (-y) ?_ ?_ j.out k.out).mono ?_);(refine r.ext ?_;exact eA);(refine f.ext ?_;exact eA);rintro e w2 ⟨r2,rfl,g,o,ab⟩;obtain⟨T,m2,c2,s2,rfl⟩:=g.form;obtain⟨⟨n,ad⟩,Q,R,i⟩:=cK3 w o)))
 all_goals go_wp2
 exact bR (v:=Y #[O T m2 c2,X s2]) (by simp [results,Tryz.results184,go_sem,l,n,h,i]) rfl ⟨_,rfl,g.keep kA,eA,dA⟩
theorem znA {x y:Int} {s t:Bool} (a:s=decide (x<0)) (b:t=decide (y<0)):sg (!(s==t)) ((x.natAbs:Int)*(y.natAbs:Int))=x*y:=by
 rw [←Int.natCast_mul,←Int.natAbs_mul];subst a b
 rcases Int.lt_trichotomy x 0 with h|rfl|h<;>rcases Int.lt_trichotomy y 0 with k|rfl|k
 ·have:=Int.mul_pos_of_neg_of_neg h k;simp [sg,h,k];omega
 ·simp [sg]
 ·have:=Int.mul_neg_of_neg_of_pos h k;simp [sg,h,show ¬y<0 by omega];omega
 ·simp [sg]
 ·simp [sg]
 ·simp [sg]
 ·have:=Int.mul_neg_of_pos_of_neg h k;simp [sg,k,show ¬x<0 by omega];omega
 ·simp [sg]
 ·have:=Int.mul_pos h k;simp [sg,show ¬x<0 by omega,show ¬y<0 by omega];omega
theorem zkX (w:Z) (Q R:I) (x y:Int) (j:IsZ w Q x) (k:IsZ w R y) (b:Lm lim x) (d:Lm lim y) :
  Calls Tryz.prog 147 #[Q,R] w (RetZd w (x*y)):=by
 obtain⟨a,m,c,s,rfl⟩:=j.form;obtain⟨D,L,K,P,rfl⟩:=k.form;have o:=hd9 j.sgn;have p:=hd9 k.sgn;have t:=j.dig;have u:=k.dig;have l:=hd9 b.abs;have n:=hd9 d.abs;clear b d j k;go_enter Tryz.func147,Tryz.ntmps147;go_wp2
 go_region_held3 (fun W=>W.cell? ⟨w.heap.size,0,V⟩=J (O a m c)∧W.cell? ⟨w.heap.size,1,V⟩=J (X s)∧W.cell? ⟨w.heap.size+1,0,V⟩=J (O D L K)∧W.cell? ⟨w.heap.size+1,1,V⟩=J (X P)) ((repeat' (with_reducible refine And.intro ?_ ?_))<;>(first|(go_simp;done)|(refine hx1.cellS ?_;go_simp;done))) (first|((go_at_call 195;(with_reducible refine(zkM _ (Y #[O a m c]) (Y #[O D L K]) x.natAbs y.natAbs ?_ ?_ l.out n.out).mono ?_);(refine t.ext ?_;exact eA);(refine u.ext ?_;exact eA);rintro e w1 ⟨r1,rfl,f,hx1,ac⟩;obtain⟨a1,m1,c1,rfl⟩:=f.isD.form;obtain⟨⟨q,ae⟩,S,T,h⟩:=cK3 w hx1))|((go_at_call 183;(with_reducible refine(zcQ _ (!(s==P)) (Y #[O a1 m1 c1]) ((x.natAbs:Int)*(y.natAbs:Int)) ?_).mono ?_);(refine f.isD.ext ?_;exact eA);rintro e w2 ⟨r2,rfl,g,z,ad⟩;obtain⟨a2,m2,c2,s2,rfl⟩:=g.form;obtain⟨⟨r,af⟩,aa,ab,i⟩:=cK3 w z)))
 all_goals go_wp2
 refine bR (v:=Y #[O a2 m2 c2,X s2]) (by simp [results,Tryz.results147,go_sem,q,r,h,i]) rfl ⟨_,rfl,?_,eA,dA⟩;rw [←znA o.out p.out];exact g.keep kA
theorem zbM (w:Z) (c d:I) (x y:Int) (e:IsZ w c x) (f:IsZ w d y) (a:Lm lim x) (b:Lm lim y) :
  Calls Tryz.prog 147 #[c,d] w (RetZ w (x*y)):=z_dr (zkX w c d x y e f a b)
theorem Lm.sub {k:Nat} {x y:Int} (h:Lm k x) (a:Lm k y):Lm (k+1) (x-y):=by
 have e:B ^ (k+1)=B ^ k*16777216:=by rw [Int.pow_succ];rfl
 unfold Lm at *;rw [e];omega
theorem zmP (w:Z) (l n:I) (x y:Int) (j:IsZ w l x) (k:IsZ w n y) (b:Lm lim x) (d:Lm lim y) :
  Calls Tryz.prog 136 #[l,n] w fun e o=>e = .returned (.int .i64 (x-y).sign)∧Ext w o∧Dr w o:=by
 obtain⟨a,m,c,s,rfl⟩:=j.form;obtain⟨r,Q,u,S,rfl⟩:=k.form;have g:=hd9 b;have h:=hd9 d;clear b d;go_enter Tryz.func136,Tryz.ntmps136
 go_wp2_with(first|((go_at_call 184;(with_reducible refine(zpc _ (Y #[O a m c,X s]) (Y #[O r Q u,X S]) x y ?_ ?_ g.out h.out).mono ?_);(refine j.ext ?_;exact eA);(refine k.ext ?_;exact eA);rintro e w1 ⟨W,rfl,f,i,D⟩;obtain⟨t,R,v,T,rfl⟩:=f.form;obtain⟨⟨z,L⟩,p,q⟩:=cK2 w i))|((go_at_call 163;(with_reducible refine(zkZ _ (Y #[O t R v,X T]) (x-y) ?_).mono ?_);(refine f.ext ?_;exact eA);rintro e w2 ⟨rfl,P,K⟩)))
 go_ret;exact⟨rfl,eA,dA⟩
theorem zhU (w:Z) (c d:I) (x y:Int) (f:IsZ w c x) (g:IsZ w d y) (a:Lm lim x) (b:Lm lim y) :
  Calls Tryz.prog 136 #[c,d] w fun e h=>e = .returned (.int .i64 (x-y).sign)∧Ext w h:=zfA (zmP w c d x y f g a b)
end
end Go.Proofs.YtjnjpagegkcgfaaGreatDoor.Cop
