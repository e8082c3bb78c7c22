/- Part 6. -/
import Derived.Test.YtjnjpagegkcgfaaGreatDoorCosA04
set_option maxRecDepth 1000000
set_option maxHeartbeats 16000000
set_option linter.unusedSimpArgs false
set_option linter.unusedVariables false
open Go.Value renaming slice->O,agg->Y,bool->X
open Go renaming World->Z,Value->I
open Option renaming none->V,some->J
namespace Go.Proofs.YtjnjpagegkcgfaaGreatDoor.Cop
section
open Go.RowKit Go.Shelf
theorem qcD(w:Z)(p:Addr):w.drew.cell? p=w.cell? p:=rfl
theorem qfD(w:Z)(p:Addr):w.drew.frozen? p=w.frozen? p:=rfl
theorem qdZ(w:Z):w.drew.heap.size=w.heap.size:=rfl
theorem Ext.lt{a b:Z}(h:Ext a b){n:Nat}(c:n<a.heap.size):n<b.heap.size:=Nat.lt_of_lt_of_le c h.size
theorem cK0{a c:Z}{A:Prop}(h:Ext a c)(e:((∀b o,b<a.heap.size->c.cell? ⟨b,o,V⟩=a.cell? ⟨b,o,V⟩)/\(∀b o,b<a.heap.size->c.frozen? ⟨b,o,V⟩=a.frozen? ⟨b,o,V⟩))->A:=by(intro h;(try simp only[qcD,qfD,qdZ]at h);exact h)):A:=e h.cells
theorem cK1(w:Z){a c:Z}{A:Prop}(h:Ext a c)(d:w.heap.size<a.heap.size:=by go_simp)(e:((∀b o,b<a.heap.size->c.cell? ⟨b,o,V⟩=a.cell? ⟨b,o,V⟩)/\(∀b o,b<a.heap.size->c.frozen? ⟨b,o,V⟩=a.frozen? ⟨b,o,V⟩))->A:=by(intro h;(try simp only[qcD,qfD,qdZ]at h);exact h)):A/\w.heap.size<c.heap.size:=⟨e h.cells,h.lt d⟩
theorem cK2(w:Z){a c:Z}{A:Prop}(h:Ext a c)(d:w.heap.size+1<a.heap.size:=by go_simp)(e:((∀b o,b<a.heap.size->c.cell? ⟨b,o,V⟩=a.cell? ⟨b,o,V⟩)/\(∀b o,b<a.heap.size->c.frozen? ⟨b,o,V⟩=a.frozen? ⟨b,o,V⟩))->A:=by(intro h;(try simp only[qcD,qfD,qdZ]at h);exact h)):A/\w.heap.size<c.heap.size/\w.heap.size+1<c.heap.size:=⟨e h.cells,h.lt oM,h.lt d⟩
theorem cK3(w:Z){a c:Z}{A:Prop}(h:Ext a c)(d:w.heap.size+1+1<a.heap.size:=by go_simp)(e:((∀b o,b<a.heap.size->c.cell? ⟨b,o,V⟩=a.cell? ⟨b,o,V⟩)/\(∀b o,b<a.heap.size->c.frozen? ⟨b,o,V⟩=a.frozen? ⟨b,o,V⟩))->A:=by(intro h;(try simp only[qcD,qfD,qdZ]at h);exact h)):A/\w.heap.size<c.heap.size/\w.heap.size+1<c.heap.size/\w.heap.size+1+1<c.heap.size:=⟨e h.cells,h.lt oM,h.lt oM,h.lt d⟩
theorem cK4(w:Z){a c:Z}{A:Prop}(h:Ext a c)(d:w.heap.size+1+1+1<a.heap.size:=by go_simp)(e:((∀b o,b<a.heap.size->c.cell? ⟨b,o,V⟩=a.cell? ⟨b,o,V⟩)/\(∀b o,b<a.heap.size->c.frozen? ⟨b,o,V⟩=a.frozen? ⟨b,o,V⟩))->A:=by(intro h;(try simp only[qcD,qfD,qdZ]at h);exact h)):A/\w.heap.size<c.heap.size/\w.heap.size+1<c.heap.size/\w.heap.size+1+1<c.heap.size/\w.heap.size+1+1+1<c.heap.size:=⟨e h.cells,h.lt oM,h.lt oM,h.lt oM,h.lt d⟩
def NoT(T:TypeId)(w:Z)(b:Nat):Prop:=∀cs fr,w.heap[b]?≠J (.cells cs T fr)
theorem NoT.new{T T':TypeId}{w:Z}{b:Nat}{cs:Array I}{c:Nat×Nat}(g:b=w.heap.size)(f:T'≠T):NoT T (w.alloc (.cells cs T' c)) b:=by
 intro a d e;rw[qhA _ _ _ g]at e
 cases e;exact f rfl
theorem NoT.old{T:TypeId}{w:Z}{b:Nat}{o:Obj}(h:NoT T w b)(d:b≠w.heap.size):NoT T (w.alloc o) b:=by
 intro a c e;rw[zaf,if_neg d]at e;exact h a c e
theorem NoT.ext{T:TypeId}{w w':Z}{b:Nat}(h:NoT T w b)(k:Ext w w')(d:b<w.heap.size):NoT T w' b:=by
 intro a c e;rw[k.block d]at e;exact h a c e
theorem NoT.drew{T:TypeId}{w:Z}{b:Nat}(h:NoT T w b):NoT T w.drew b:=h
theorem NoT.drewN{T:TypeId}{w:Z}{b:Nat}(h:NoT T w b)(n:Nat):NoT T (w.drewN n) b:=by
 intro a c e;exact h a c (by simpa[World.drewN] using e)
theorem NoT.set{T:TypeId}{w:Z}{b:Nat}(h:NoT T w b)(p:Addr)(u:I):NoT T (w.setCell p u) b:=by
 intro c f e
 by_cases a:b=p.block
 ·subst a
  simp only[World.setCell,Array.getElem?_modify,if_pos]at e
  cases hw:w.heap[p.block]? with
  | none=>rw[hw]at e;cases e
  | some o =>
   rw[hw]at e
   cases o with
   | cells d T' g =>
    simp only[Option.map_some,Option.some.injEq,Obj.cells.injEq]at e;obtain⟨_,rfl,_⟩:=e;exact h _ _ hw
   | _=>simp at e
 ·rw[bS _ _ _ _ a]at e
  exact h c f e
theorem KeepT.setN{T:TypeId}{a b:Z}(h:KeepT T a b){p:Addr}(f:NoT T b p.block)(u:I):KeepT T a (b.setCell p u):=fun x d e g=>by
 have c:=h x d e g;rw[bS _ _ _ _ (by rintro rfl;exact f _ _ c)];exact c
theorem NoT.ext2{T:TypeId}{w w':Z}{b:Nat}(a:b<w.heap.size)(k:Ext w w')(h:NoT T w b):NoT T w' b:=h.ext k a
theorem NoT.old2{T:TypeId}{w:Z}{b:Nat}{o:Obj}(a:b≠w.heap.size)(h:NoT T w b):NoT T (w.alloc o) b:=h.old a
theorem KeepT.setN2{T:TypeId}{a b:Z}{p:Addr}(c:NoT T b p.block)(h:KeepT T a b)(u:I):KeepT T a (b.setCell p u):=h.setN c u
theorem nA{T:TypeId}{w:Z}{b:Nat}(h:NoT T w b:=by(repeat(first|with_reducible assumption|with_reducible refine NoT.set ?_ _ _|with_reducible refine NoT.drew ?_|with_reducible refine NoT.drewN ?_ _|(refine NoT.new ?_ ?_;(focus(first|omega|((try dsimp only);(try simp only[wZ,qdZ,qcZ]);(try omega);done)));(focus decide))|(refine NoT.old2 ?_ ?_;(focus(first|omega|((try dsimp only);(try simp only[wZ,qdZ,qcZ]);(try omega);done))))|(refine NoT.ext2 ?_ (by with_reducible assumption) ?_;(focus(first|omega|((try dsimp only);(try simp only[wZ,qdZ,qcZ]);(try omega);done))))))):NoT T w b:=h
theorem kA{T:TypeId}{w a:Z}(h:KeepT T w a:=by repeat(first|with_reducible exact KeepT.refl _ _|(refine Ext.keep ?_;(focus((with_reducible repeat(first|assumption|exact eR _|refine eX ?_|refine eT ?_|refine eS ?_));done)))|with_reducible refine KeepT.alloc ?_ _|(with_reducible refine KeepT.setN2 ?_ ?_ _;(focus(((repeat(first|with_reducible assumption|with_reducible refine NoT.set ?_ _ _|with_reducible refine NoT.drew ?_|with_reducible refine NoT.drewN ?_ _|(refine NoT.new ?_ ?_;(focus(first|omega|((try dsimp only);(try simp only[wZ,qdZ,qcZ]);(try omega);done)));(focus decide))|(refine NoT.old2 ?_ ?_;(focus(first|omega|((try dsimp only);(try simp only[wZ,qdZ,qcZ]);(try omega);done))))|(refine NoT.ext2 ?_ (by with_reducible assumption) ?_;(focus(first|omega|((try dsimp only);(try simp only[wZ,qdZ,qcZ]);(try omega);done)))))));done))))):KeepT T w a:=h
def IsZ(w:Z)(v:I)(n:Int):Prop:=∃a m c s,v=Y #[O a m c,X s]/\s=decide (n<0)/\IsD w (Y #[O a m c]) (n.natAbs:Int)
theorem IsZ.ext{w w':Z}{v:I}{n:Int}(h:IsZ w v n)(k:Ext w w'):IsZ w' v n:=by
 obtain⟨a,m,c,s,rfl,b,d⟩:=h;exact⟨a,m,c,s,rfl,b,d.ext k⟩
theorem IsZ.keep{w w':Z}{v:I}{n:Int}(h:IsZ w v n)(k:KeepT 2 w w'):IsZ w' v n:=by
 obtain⟨a,m,c,s,rfl,b,d⟩:=h;exact⟨a,m,c,s,rfl,b,d.keep k⟩
theorem IsZ.form{w:Z}{v:I}{n:Int}(h:IsZ w v n):∃a m c s,v=Y #[O a m c,X s]:=by
 obtain⟨a,m,c,s,rfl,b,d⟩:=h;exact⟨a,m,c,s,rfl⟩
theorem IsZ.sgn{w:Z}{a:Option Addr}{m c:Nat}{s:Bool}{n:Int}(h:IsZ w (Y #[O a m c,X s]) n):s=decide (n<0):=by
 obtain⟨a,m,c,s,e,b,d⟩:=h;cases e;exact b
theorem IsZ.dig{w:Z}{a:Option Addr}{m c:Nat}{s:Bool}{n:Int}(h:IsZ w (Y #[O a m c,X s]) n):IsD w (Y #[O a m c]) (n.natAbs:Int):=by
 obtain⟨a,m,c,s,e,d,b⟩:=h;cases e;exact b
theorem Lm.abs{k:Nat}{n:Int}(h:Lm k n):Lm k (n.natAbs:Int):=by unfold Lm at *;omega
theorem Lm.neg{k:Nat}{n:Int}(h:Lm k n):Lm k (-n):=by unfold Lm at *;omega
def sg(s:Bool)(n:Int):Int:=if s then -n else n
theorem IsZ.mk{w:Z}{a:Option Addr}{m c:Nat}{n:Int}(b:Bool)(h:IsD w (Y #[O a m c]) n):IsZ w (Y #[O a m c,X (b&&!(n==0))]) (sg b n):=by
 have d:=h.nonneg;refine⟨a,m,c,_,rfl,?_,?_⟩
 ·rw[Bool.eq_iff_iff];cases b<;>simp[sg]<;>omega
 ·have:((sg b n).natAbs:Int)=n:=by cases b<;>simp[sg]<;>omega
  rw[this];exact h
theorem IsZ.nil(w:Z):IsZ w (Y #[O V 0 0,X false]) 0:=⟨_,_,_,_,rfl,rfl,_,[],rfl,Ints.nil _ _,Can.nil _,rfl⟩
def RetZd(w:Z)(n:Int)(e:Ending)(w':Z):Prop:=∃r,e = .returned r/\IsZ w' r n/\Ext w w'/\Dr w w'
def RetZ(w:Z)(n:Int)(e:Ending)(w':Z):Prop:=∃r,e = .returned r/\IsZ w' r n/\Ext w w'
theorem zcB(w:Z)(d:Bool)(v:I)(n:Int)(h:IsD w v n) :
  Calls Tryz.prog 183 #[X d,v] w (RetZd w (sg d n)):=by
 obtain⟨a,m,c,rfl⟩:=h.form
 cases d
 ·go_enter Tryz.func183,Tryz.ntmps183
  go_wp2
  go_region_with (fail)
  all_goals go_wp2
  all_goals exact bR (v:=Y #[O a m c,X (false&&!(n==0))]) (by simp[results,Tryz.results183,go_sem]) rfl ⟨_,rfl,IsZ.mk false (h.ext eA),eA,dA⟩
 ·go_enter Tryz.func183,Tryz.ntmps183
  go_wp2
  go_region_held3 (fun W=>W.cell? ⟨w.heap.size,0,V⟩=J (O a m c)) ((repeat' (with_reducible refine And.intro ?_ ?_))<;>(first|(go_simp;done)|(refine hx1.cellS ?_;go_simp;done))) ((go_at_call 166;(with_reducible refine(zfA _ (Y #[O a m c]) n ?_).mono ?_);(refine h.ext ?_;exact eA);rintro e i ⟨rfl,hx1,f⟩;obtain⟨b,g⟩:=hx1.cells))
  all_goals go_wp2
  exact bR (v:=Y #[O a m c,X (true&&!(n==0))]) (by simp[results,Tryz.results183,go_sem,b]) rfl ⟨_,rfl,IsZ.mk true (h.ext eA),eA,dA⟩
theorem z_dr{f:FuncId}{args:Array I}{w:Z}{n:Int}(h:Calls Tryz.prog f args w (RetZd w n)):Calls Tryz.prog f args w (RetZ w n):=zjR h
theorem zcA(w:Z)(a:Bool)(v:I)(n:Int)(h:IsD w v n) :
  Calls Tryz.prog 183 #[X a,v] w (RetZ w (sg a n)):=z_dr (zcB w a v n h)
theorem zow{n:Int}{s:Bool}(h:s=decide (n<0)):sg (!s) (n.natAbs:Int) = -n:=by
 subst h;by_cases h:n<0<;>simp[sg,h]<;>omega
theorem zmD(w:Z)(v:I)(n:Int)(h:IsZ w v n):Calls Tryz.prog 186 #[v] w (RetZd w (-n)):=by
 obtain⟨a,m,c,s,rfl⟩:=h.form;go_enter Tryz.func186,Tryz.ntmps186
 go_wp2_with((go_at_call 183;(with_reducible refine(zcB _ (!s) (Y #[O a m c]) n.natAbs ?_).mono ?_);(refine h.dig.ext ?_;exact eA);rintro e q ⟨p,rfl,b,f,j⟩;obtain⟨g,l,i,o,rfl⟩:=b.form;obtain⟨d,k⟩:=f.cells))
 refine bR (v:=Y #[O g l i,X o]) (by simp[results,Tryz.results186,go_sem,d]) rfl ⟨_,rfl,?_,eA,dA⟩;rw[<-zow h.sgn];exact b.keep kA
theorem zdm(w:Z)(v:I)(n:Int)(h:IsZ w v n):Calls Tryz.prog 186 #[v] w (RetZ w (-n)):=z_dr (zmD w v n h)
theorem zkJ(w:Z)(v:I)(n:Int)(h:IsZ w v n):Calls Tryz.prog 163 #[v] w fun e j=>e = .returned (.int .i64 n.sign)/\Ext w j/\Dr w j:=by
 obtain⟨a,m,c,s,rfl⟩:=h.form;have k:=h.sgn;have q:=h.dig
 have d:n=0->Calls Tryz.prog 163 #[Y #[O a m c,X s]] w fun e j=>e = .returned (.int .i64 n.sign)/\Ext w j/\Dr w j:=by
  intro g;have r:((n.natAbs:Int)==0)=true:=by simp;omega
  obtain rfl:s=false:=by rw[k];simp;omega
  have e:n.sign=0:=by first|(subst g;rfl)|exact Int.sign_eq_neg_one_of_neg g|exact Int.sign_eq_one_of_pos g
  rw[e];clear e g k;go_enter Tryz.func163,Tryz.ntmps163
  go_wp2_with((go_at_call 166;(with_reducible refine(zfA _ (Y #[O a m c]) n.natAbs ?_).mono ?_);(refine q.ext ?_;exact eA);rintro e t ⟨rfl,i,o⟩;obtain⟨l,p⟩:=i.cells))
  go_ret;exact⟨rfl,eA,dA⟩
 have f:n<0->Calls Tryz.prog 163 #[Y #[O a m c,X s]] w fun e j=>e = .returned (.int .i64 n.sign)/\Ext w j/\Dr w j:=by
  intro g;have r:((n.natAbs:Int)==0)=false:=by simp;omega
  obtain rfl:s=true:=by rw[k];simp;omega
  have e:n.sign = -1:=by first|(subst g;rfl)|exact Int.sign_eq_neg_one_of_neg g|exact Int.sign_eq_one_of_pos g
  rw[e];clear e g k;go_enter Tryz.func163,Tryz.ntmps163
  go_wp2_with((go_at_call 166;(with_reducible refine(zfA _ (Y #[O a m c]) n.natAbs ?_).mono ?_);(refine q.ext ?_;exact eA);rintro e t ⟨rfl,i,o⟩;obtain⟨l,p⟩:=i.cells))
  go_ret;exact⟨rfl,eA,dA⟩
 have b:0<n->Calls Tryz.prog 163 #[Y #[O a m c,X s]] w fun e j=>e = .returned (.int .i64 n.sign)/\Ext w j/\Dr w j:=by
  intro g;have r:((n.natAbs:Int)==0)=false:=by simp;omega
  obtain rfl:s=false:=by rw[k];simp;omega
  have e:n.sign=1:=by first|(subst g;rfl)|exact Int.sign_eq_neg_one_of_neg g|exact Int.sign_eq_one_of_pos g
  rw[e];clear e g k;go_enter Tryz.func163,Tryz.ntmps163
  go_wp2_with((go_at_call 166;(with_reducible refine(zfA _ (Y #[O a m c]) n.natAbs ?_).mono ?_);(refine q.ext ?_;exact eA);rintro e t ⟨rfl,i,o⟩;obtain⟨l,p⟩:=i.cells))
  go_ret;exact⟨rfl,eA,dA⟩
 rcases Int.lt_trichotomy n 0 with g|g|g
 ·exact f g
 ·exact d g
 ·exact b g
theorem zkI(w:Z)(v:I)(n:Int)(h:IsZ w v n):Calls Tryz.prog 163 #[v] w fun e a=>e = .returned (.int .i64 n.sign)/\Ext w a:=zfk (zkJ w v n h)
theorem zoG(n:Int)(a : -9223372036854775808<=n)(b:n<0):IntKind.u64.wrap (-(IntKind.u64.wrap n)) = -n:=by
 simp[IntKind.wrap,IntKind.signed,IntKind.bits];omega
theorem znO(n:Int)(a:n<=9223372036854775807)(b:0<=n):IntKind.u64.wrap n=n:=by
 simp[IntKind.wrap,IntKind.signed,IntKind.bits];omega
theorem zcI(w:Z)(n:Int)(u : -9223372036854775808<=n)(x:n<=9223372036854775807):Calls Tryz.prog 137 #[.int .i64 n] w (RetZ w n):=by
 by_cases y:n<0
 ·have z:=zoG n u y
  go_enter Tryz.func137,Tryz.ntmps137
  go_wp2_with(first|(go_at_call 188;(with_reducible refine(zcd _ (-n) oM oM).mono ?_);rintro e L ⟨D,rfl,a,i⟩;obtain⟨k,r,m,rfl⟩:=a.isD.form;obtain⟨⟨f,p⟩,c⟩:=cK1 w i)|(go_at_call 183;(with_reducible refine(zcA _ true (Y #[O k r m]) (-n) a.isD).mono ?_);rintro e P ⟨K,rfl,b,j⟩;obtain⟨l,s,o,t,rfl⟩:=b.form;obtain⟨⟨g,q⟩,d⟩:=cK1 w j))
  refine bR (v:=Y #[O l s o,X t]) (by simp[results,Tryz.results137,go_sem,f,g,c,d]) rfl ⟨_,rfl,?_,eA⟩;have e:n=sg true (-n):=by simp[sg]
  rw[e];exact b.keep kA
 ·have z:=znO n x oM
  go_enter Tryz.func137,Tryz.ntmps137
  go_wp2_with(first|(go_at_call 188;(with_reducible refine(zcd _ n oM oM).mono ?_);rintro e L ⟨D,rfl,a,i⟩;obtain⟨k,r,m,rfl⟩:=a.isD.form;obtain⟨⟨f,p⟩,c⟩:=cK1 w i)|(go_at_call 183;(with_reducible refine(zcA _ false (Y #[O k r m]) n a.isD).mono ?_);rintro e P ⟨K,rfl,b,j⟩;obtain⟨l,s,o,t,rfl⟩:=b.form;obtain⟨⟨g,q⟩,d⟩:=cK1 w j))
  exact bR (v:=Y #[O l s o,X t]) (by simp[results,Tryz.results137,go_sem,f,g,c,d]) rfl ⟨_,rfl,b.keep kA,eA⟩
theorem zgI{x y:Int}{s:Bool}(a:s=decide (x<0))(b:s=decide (y<0)):sg s ((x.natAbs:Int)+1*(y.natAbs:Int))=x+y:=by
 cases s<;>simp[sg]at *<;>omega
theorem zgG{x y:Int}{s:Bool}(a:(!s)=decide (x<0))(b:s=decide (y<0))(h:(x.natAbs:Int)<y.natAbs):sg s ((y.natAbs:Int) + -1*(x.natAbs:Int))=x+y:=by
 cases s<;>simp[sg]at *<;>omega
theorem zgH{x y:Int}{s:Bool}(a:s=decide (x<0))(b:(!s)=decide (y<0))(h:¬(x.natAbs:Int)<y.natAbs):sg s ((x.natAbs:Int) + -1*(y.natAbs:Int))=x+y:=by
 cases s<;>simp[sg]at *<;>omega
theorem zmA(w:Z)(va vb:I)(x y:Int)(ha:IsZ w va x)(hb:IsZ w vb y)(ao:Lm lim x)(ap:Lm lim y) :
  Calls Tryz.prog 179 #[va,vb] w (RetZd w (x+y)):=by
 obtain⟨a,m,c,s,rfl⟩:=ha.form;obtain⟨p,r,q,s',rfl⟩:=hb.form;have aa:=hd9 ha.sgn;have ab:=hd9 hb.sgn;have n:=ha.dig;have o:=hb.dig;have R:=hd9 ao.abs;have T:=hd9 ap.abs;clear ao ap ha hb
 have ad:s=true->s'=true->Calls Tryz.prog 179 #[Y #[O a m c,X s],Y #[O p r q,X s']] w (RetZd w (x+y)):=by
  intro h1 h2;subst h1 h2;go_enter Tryz.func179,Tryz.ntmps179;go_wp2
  go_region_held3 (fun W=>W.cell? ⟨w.heap.size,0,V⟩=J (O a m c)/\W.cell? ⟨w.heap.size,1,V⟩=J (X true)/\W.cell? ⟨w.heap.size+1,0,V⟩=J (O p r q)) ((repeat' (with_reducible refine And.intro ?_ ?_))<;>(first|(go_simp;done)|(refine hx1.cellS ?_;go_simp;done))) (first|((go_at_call 187;(with_reducible refine(zc8 _ (Y #[O a m c]) (Y #[O p r q]) x.natAbs y.natAbs 1 ?_ ?_ R.out T.out oM oM).mono ?_);(refine n.ext ?_;exact eA);(refine o.ext ?_;exact eA);rintro e w1 ⟨r1,rfl,b,hx1,af⟩;obtain⟨a1,m1,c1,rfl⟩:=b.isD.form;obtain⟨⟨i,ah⟩,t,u,f⟩:=cK3 w hx1))|((go_at_call 183;(with_reducible refine(zcB _ true (Y #[O a1 m1 c1]) ((x.natAbs:Int)+1*(y.natAbs:Int)) ?_).mono ?_);(refine b.isD.ext ?_;exact eA);rintro e w2 ⟨r2,rfl,d,k,ag⟩;obtain⟨a2,m2,c2,s2,rfl⟩:=d.form;obtain⟨⟨j,ai⟩,z,D,g⟩:=cK3 w k)))
  all_goals go_wp2
  refine bR (v:=Y #[O a2 m2 c2,X s2]) (by simp[results,Tryz.results179,go_sem,i,j,f,g]) rfl ⟨_,rfl,?_,eA,dA⟩;rw[<-zgI aa.out ab.out];exact d.keep kA
 have Q:s=false->s'=false->Calls Tryz.prog 179 #[Y #[O a m c,X s],Y #[O p r q,X s']] w (RetZd w (x+y)):=by
  intro h1 h2;subst h1 h2;go_enter Tryz.func179,Tryz.ntmps179;go_wp2
  go_region_held3 (fun W=>W.cell? ⟨w.heap.size,0,V⟩=J (O a m c)/\W.cell? ⟨w.heap.size,1,V⟩=J (X false)/\W.cell? ⟨w.heap.size+1,0,V⟩=J (O p r q)) ((repeat' (with_reducible refine And.intro ?_ ?_))<;>(first|(go_simp;done)|(refine hx1.cellS ?_;go_simp;done))) (first|((go_at_call 187;(with_reducible refine(zc8 _ (Y #[O a m c]) (Y #[O p r q]) x.natAbs y.natAbs 1 ?_ ?_ R.out T.out oM oM).mono ?_);(refine n.ext ?_;exact eA);(refine o.ext ?_;exact eA);rintro e w1 ⟨r1,rfl,b,hx1,af⟩;obtain⟨a1,m1,c1,rfl⟩:=b.isD.form;obtain⟨⟨i,ah⟩,t,u,f⟩:=cK3 w hx1))|((go_at_call 183;(with_reducible refine(zcB _ false (Y #[O a1 m1 c1]) ((x.natAbs:Int)+1*(y.natAbs:Int)) ?_).mono ?_);(refine b.isD.ext ?_;exact eA);rintro e w2 ⟨r2,rfl,d,k,ag⟩;obtain⟨a2,m2,c2,s2,rfl⟩:=d.form;obtain⟨⟨j,ai⟩,z,D,g⟩:=cK3 w k)))
  all_goals go_wp2
  refine bR (v:=Y #[O a2 m2 c2,X s2]) (by simp[results,Tryz.results179,go_sem,i,j,f,g]) rfl ⟨_,rfl,?_,eA,dA⟩;rw[<-zgI aa.out ab.out];exact d.keep kA
 have ac:s=true->s'=false->Calls Tryz.prog 179 #[Y #[O a m c,X s],Y #[O p r q,X s']] w (RetZd w (x+y)):=by
  intro h1 h2;subst h1 h2
  by_cases aj:(x.natAbs:Int)<y.natAbs
  ·have ae:=zdd aj
   go_enter Tryz.func179,Tryz.ntmps179
   go_wp2_with((go_at_call 226;(with_reducible refine(zfQ _ (Y #[O a m c]) (Y #[O p r q]) x.natAbs y.natAbs ?_ ?_).mono ?_);(refine n.ext ?_;exact eA);(refine o.ext ?_;exact eA);rintro e w0 ⟨rfl,P,am⟩;obtain⟨⟨L,an⟩,ak,al,l⟩:=cK3 w P))
   go_region_held3 (fun W=>W.cell? ⟨w.heap.size,0,V⟩=J (O a m c)/\W.cell? ⟨w.heap.size+1,1,V⟩=J (X false)/\W.cell? ⟨w.heap.size+1,0,V⟩=J (O p r q)) ((repeat' (with_reducible refine And.intro ?_ ?_))<;>(first|(go_simp;done)|(refine hx1.cellS ?_;go_simp;done))) (first|((go_at_call 187;(with_reducible refine(zc8 _ (Y #[O p r q]) (Y #[O a m c]) y.natAbs x.natAbs (-1) ?_ ?_ T.out R.out oM oM).mono ?_);(refine o.ext ?_;exact eA);(refine n.ext ?_;exact eA);rintro e w1 ⟨r1,rfl,b,hx1,af⟩;obtain⟨a1,m1,c1,rfl⟩:=b.isD.form;obtain⟨⟨i,ah⟩,t,u,f⟩:=cK3 w hx1))|((go_at_call 183;(with_reducible refine(zcB _ false (Y #[O a1 m1 c1]) ((y.natAbs:Int) + -1*(x.natAbs:Int)) ?_).mono ?_);(refine b.isD.ext ?_;exact eA);rintro e w2 ⟨r2,rfl,d,k,ag⟩;obtain⟨a2,m2,c2,s2,rfl⟩:=d.form;obtain⟨⟨j,ai⟩,z,D,g⟩:=cK3 w k)))
   all_goals go_wp2
   refine bR (v:=Y #[O a2 m2 c2,X s2]) (by simp[results,Tryz.results179,go_sem,L,i,j,l,f,g]) rfl ⟨_,rfl,?_,eA,dA⟩;rw[<-zgG (s:=false) aa.out ab.out oM];exact d.keep kA
  ·have ae:=zcs aj
   go_enter Tryz.func179,Tryz.ntmps179
   go_wp2_with((go_at_call 226;(with_reducible refine(zfQ _ (Y #[O a m c]) (Y #[O p r q]) x.natAbs y.natAbs ?_ ?_).mono ?_);(refine n.ext ?_;exact eA);(refine o.ext ?_;exact eA);rintro e w0 ⟨rfl,P,am⟩;obtain⟨⟨L,an⟩,ak,al,l⟩:=cK3 w P))
   go_region_held3 (fun W=>W.cell? ⟨w.heap.size,0,V⟩=J (O a m c)/\W.cell? ⟨w.heap.size,1,V⟩=J (X true)/\W.cell? ⟨w.heap.size+1,0,V⟩=J (O p r q)) ((repeat' (with_reducible refine And.intro ?_ ?_))<;>(first|(go_simp;done)|(refine hx1.cellS ?_;go_simp;done))) (first|((go_at_call 187;(with_reducible refine(zc8 _ (Y #[O a m c]) (Y #[O p r q]) x.natAbs y.natAbs (-1) ?_ ?_ R.out T.out oM oM).mono ?_);(refine n.ext ?_;exact eA);(refine o.ext ?_;exact eA);rintro e w1 ⟨r1,rfl,b,hx1,af⟩;obtain⟨a1,m1,c1,rfl⟩:=b.isD.form;obtain⟨⟨i,ah⟩,t,u,f⟩:=cK3 w hx1))|((go_at_call 183;(with_reducible refine(zcB _ true (Y #[O a1 m1 c1]) ((x.natAbs:Int) + -1*(y.natAbs:Int)) ?_).mono ?_);(refine b.isD.ext ?_;exact eA);rintro e w2 ⟨r2,rfl,d,k,ag⟩;obtain⟨a2,m2,c2,s2,rfl⟩:=d.form;obtain⟨⟨j,ai⟩,z,D,g⟩:=cK3 w k)))
   all_goals go_wp2
   refine bR (v:=Y #[O a2 m2 c2,X s2]) (by simp[results,Tryz.results179,go_sem,L,i,j,l,f,g]) rfl ⟨_,rfl,?_,eA,dA⟩;rw[<-zgH (s:=true) aa.out ab.out oM];exact d.keep kA
 have K:s=false->s'=true->Calls Tryz.prog 179 #[Y #[O a m c,X s],Y #[O p r q,X s']] w (RetZd w (x+y)):=by
  intro h1 h2;subst h1 h2
  by_cases aj:(x.natAbs:Int)<y.natAbs
  ·have ae:=zdd aj
   go_enter Tryz.func179,Tryz.ntmps179
   go_wp2_with((go_at_call 226;(with_reducible refine(zfQ _ (Y #[O a m c]) (Y #[O p r q]) x.natAbs y.natAbs ?_ ?_).mono ?_);(refine n.ext ?_;exact eA);(refine o.ext ?_;exact eA);rintro e w0 ⟨rfl,P,am⟩;obtain⟨⟨L,an⟩,ak,al,l⟩:=cK3 w P))
   go_region_held3 (fun W=>W.cell? ⟨w.heap.size,0,V⟩=J (O a m c)/\W.cell? ⟨w.heap.size+1,1,V⟩=J (X true)/\W.cell? ⟨w.heap.size+1,0,V⟩=J (O p r q)) ((repeat' (with_reducible refine And.intro ?_ ?_))<;>(first|(go_simp;done)|(refine hx1.cellS ?_;go_simp;done))) (first|((go_at_call 187;(with_reducible refine(zc8 _ (Y #[O p r q]) (Y #[O a m c]) y.natAbs x.natAbs (-1) ?_ ?_ T.out R.out oM oM).mono ?_);(refine o.ext ?_;exact eA);(refine n.ext ?_;exact eA);rintro e w1 ⟨r1,rfl,b,hx1,af⟩;obtain⟨a1,m1,c1,rfl⟩:=b.isD.form;obtain⟨⟨i,ah⟩,t,u,f⟩:=cK3 w hx1))|((go_at_call 183;(with_reducible refine(zcB _ true (Y #[O a1 m1 c1]) ((y.natAbs:Int) + -1*(x.natAbs:Int)) ?_).mono ?_);(refine b.isD.ext ?_;exact eA);rintro e w2 ⟨r2,rfl,d,k,ag⟩;obtain⟨a2,m2,c2,s2,rfl⟩:=d.form;obtain⟨⟨j,ai⟩,z,D,g⟩:=cK3 w k)))
   all_goals go_wp2
   refine bR (v:=Y #[O a2 m2 c2,X s2]) (by simp[results,Tryz.results179,go_sem,L,i,j,l,f,g]) rfl ⟨_,rfl,?_,eA,dA⟩;rw[<-zgG (s:=true) aa.out ab.out oM];exact d.keep kA
  ·have ae:=zcs aj
   go_enter Tryz.func179,Tryz.ntmps179
   go_wp2_with((go_at_call 226;(with_reducible refine(zfQ _ (Y #[O a m c]) (Y #[O p r q]) x.natAbs y.natAbs ?_ ?_).mono ?_);(refine n.ext ?_;exact eA);(refine o.ext ?_;exact eA);rintro e w0 ⟨rfl,P,am⟩;obtain⟨⟨L,an⟩,ak,al,l⟩:=cK3 w P))
   go_region_held3 (fun W=>W.cell? ⟨w.heap.size,0,V⟩=J (O a m c)/\W.cell? ⟨w.heap.size,1,V⟩=J (X false)/\W.cell? ⟨w.heap.size+1,0,V⟩=J (O p r q)) ((repeat' (with_reducible refine And.intro ?_ ?_))<;>(first|(go_simp;done)|(refine hx1.cellS ?_;go_simp;done))) (first|((go_at_call 187;(with_reducible refine(zc8 _ (Y #[O a m c]) (Y #[O p r q]) x.natAbs y.natAbs (-1) ?_ ?_ R.out T.out oM oM).mono ?_);(refine n.ext ?_;exact eA);(refine o.ext ?_;exact eA);rintro e w1 ⟨r1,rfl,b,hx1,af⟩;obtain⟨a1,m1,c1,rfl⟩:=b.isD.form;obtain⟨⟨i,ah⟩,t,u,f⟩:=cK3 w hx1))|((go_at_call 183;(with_reducible refine(zcB _ false (Y #[O a1 m1 c1]) ((x.natAbs:Int) + -1*(y.natAbs:Int)) ?_).mono ?_);(refine b.isD.ext ?_;exact eA);rintro e w2 ⟨r2,rfl,d,k,ag⟩;obtain⟨a2,m2,c2,s2,rfl⟩:=d.form;obtain⟨⟨j,ai⟩,z,D,g⟩:=cK3 w k)))
   all_goals go_wp2
   refine bR (v:=Y #[O a2 m2 c2,X s2]) (by simp[results,Tryz.results179,go_sem,L,i,j,l,f,g]) rfl ⟨_,rfl,?_,eA,dA⟩;rw[<-zgH (s:=false) aa.out ab.out oM];exact d.keep kA
 cases s<;>cases s'
 ·exact Q rfl rfl
 ·exact K rfl rfl
 ·exact ac rfl rfl
 ·exact ad rfl rfl
theorem zlZ(w:Z)(c d:I)(x y:Int)(e:IsZ w c x)(f:IsZ w d y)(a:Lm lim x)(b:Lm lim y) :
  Calls Tryz.prog 179 #[c,d] w (RetZ w (x+y)):=z_dr (zmA w c d x y e f a b)
theorem zoH(w:Z)(K L:I)(x y:Int)(t:IsZ w K x)(u:IsZ w L y)(b:Lm lim x)(d:Lm lim y) :
  Calls Tryz.prog 184 #[K,L] w (RetZd w (x-y)):=by
 obtain⟨a,m,c,s,rfl⟩:=t.form;obtain⟨q,z,r,D,rfl⟩:=u.form;have k:=hd9 b;have l:=hd9 d.neg;clear b d;go_enter Tryz.func184,Tryz.ntmps184;go_wp2
 go_region_held3 (fun W=>W.cell? ⟨w.heap.size,0,V⟩=J (O a m c)/\W.cell? ⟨w.heap.size,1,V⟩=J (X s)/\W.cell? ⟨w.heap.size+1,0,V⟩=J (O q z r)/\W.cell? ⟨w.heap.size+1,1,V⟩=J (X D)) ((repeat' (with_reducible refine And.intro ?_ ?_))<;>(first|(go_simp;done)|(refine hx1.cellS ?_;go_simp;done))) (first|((go_at_call 186;(with_reducible refine(zmD _ (Y #[O q z r,X D]) y ?_).mono ?_);(refine u.ext ?_;exact eA);rintro e w1 ⟨r1,rfl,f,hx1,aa⟩;obtain⟨a1,m1,c1,s1,rfl⟩:=f.form;obtain⟨⟨n,ac⟩,P,Q,i⟩:=cK3 w hx1))|((go_at_call 179;(with_reducible refine(zmA _ (Y #[O a m c,X s]) (Y #[O a1 m1 c1,X s1]) x (-y) ?_ ?_ k.out l.out).mono ?_);(refine t.ext ?_;exact eA);(refine f.ext ?_;exact eA);rintro e w2 ⟨r2,rfl,g,p,ab⟩;obtain⟨a2,m2,c2,s2,rfl⟩:=g.form;obtain⟨⟨o,ad⟩,R,T,j⟩:=cK3 w p)))
 all_goals go_wp2
 exact bR (v:=Y #[O a2 m2 c2,X s2]) (by simp[results,Tryz.results184,go_sem,n,o,i,j]) rfl ⟨_,rfl,g.keep kA,eA,dA⟩
theorem znf{x y:Int}{s t:Bool}(a:s=decide (x<0))(b:t=decide (y<0)):sg (!(s==t)) ((x.natAbs:Int)*(y.natAbs:Int))=x*y:=by
 rw[<-Int.natCast_mul,<-Int.natAbs_mul];subst a b
 rcases Int.lt_trichotomy x 0 with h|rfl|h<;>rcases Int.lt_trichotomy y 0 with k|rfl|k
 ·have:=Int.mul_pos_of_neg_of_neg h k;simp[sg,h,k];omega
 ·simp[sg]
 ·have:=Int.mul_neg_of_neg_of_pos h k;simp[sg,h,show ¬y<0 by omega];omega
 ·simp[sg]
 ·simp[sg]
 ·simp[sg]
 ·have:=Int.mul_neg_of_pos_of_neg h k;simp[sg,k,show ¬x<0 by omega];omega
 ·simp[sg]
 ·have:=Int.mul_pos h k;simp[sg,show ¬x<0 by omega,show ¬y<0 by omega];omega
theorem zkH(w:Z)(R T:I)(x y:Int)(k:IsZ w R x)(l:IsZ w T y)(b:Lm lim x)(d:Lm lim y) :
  Calls Tryz.prog 147 #[R,T] w (RetZd w (x*y)):=by
 obtain⟨a,m,c,s,rfl⟩:=k.form;obtain⟨K,P,L,Q,rfl⟩:=l.form;have p:=hd9 k.sgn;have q:=hd9 l.sgn;have u:=k.dig;have z:=l.dig;have n:=hd9 b.abs;have o:=hd9 d.abs;clear b d k l;go_enter Tryz.func147,Tryz.ntmps147;go_wp2
 go_region_held3 (fun W=>W.cell? ⟨w.heap.size,0,V⟩=J (O a m c)/\W.cell? ⟨w.heap.size,1,V⟩=J (X s)/\W.cell? ⟨w.heap.size+1,0,V⟩=J (O K P L)/\W.cell? ⟨w.heap.size+1,1,V⟩=J (X Q)) ((repeat' (with_reducible refine And.intro ?_ ?_))<;>(first|(go_simp;done)|(refine hx1.cellS ?_;go_simp;done))) (first|((go_at_call 195;(with_reducible refine(zks _ (Y #[O a m c]) (Y #[O K P L]) x.natAbs y.natAbs ?_ ?_ n.out o.out).mono ?_);(refine u.ext ?_;exact eA);(refine z.ext ?_;exact eA);rintro e w1 ⟨r1,rfl,f,hx1,ae⟩;obtain⟨a1,m1,c1,rfl⟩:=f.isD.form;obtain⟨⟨r,ag⟩,aa,ab,i⟩:=cK3 w hx1))|((go_at_call 183;(with_reducible refine(zcB _ (!(s==Q)) (Y #[O a1 m1 c1]) ((x.natAbs:Int)*(y.natAbs:Int)) ?_).mono ?_);(refine f.isD.ext ?_;exact eA);rintro e w2 ⟨r2,rfl,g,D,af⟩;obtain⟨a2,m2,c2,s2,rfl⟩:=g.form;obtain⟨⟨t,ah⟩,ac,ad,j⟩:=cK3 w D)))
 all_goals go_wp2
 refine bR (v:=Y #[O a2 m2 c2,X s2]) (by simp[results,Tryz.results147,go_sem,r,t,i,j]) rfl ⟨_,rfl,?_,eA,dA⟩;rw[<-znf p.out q.out];exact g.keep kA
theorem zbK(w:Z)(c d:I)(x y:Int)(e:IsZ w c x)(f:IsZ w d y)(a:Lm lim x)(b:Lm lim y) :
  Calls Tryz.prog 147 #[c,d] w (RetZ w (x*y)):=z_dr (zkH w c d x y e f a b)
theorem Lm.sub{k:Nat}{x y:Int}(h:Lm k x)(a:Lm k y):Lm (k+1) (x-y):=by
 have e:B ^ (k+1)=B ^ k*16777216:=by rw[Int.pow_succ];rfl
 unfold Lm at *;rw[e];omega
theorem zmB(w:Z)(n o:I)(x y:Int)(k:IsZ w n x)(l:IsZ w o y)(b:Lm lim x)(d:Lm lim y) :
  Calls Tryz.prog 136 #[n,o] w fun e p=>e = .returned (.int .i64 (x-y).sign)/\Ext w p/\Dr w p:=by
 obtain⟨a,m,c,s,rfl⟩:=k.form;obtain⟨t,R,v,W,rfl⟩:=l.form;have g:=hd9 b;have i:=hd9 d;clear b d;go_enter Tryz.func136,Tryz.ntmps136
 go_wp2_with(first|((go_at_call 184;(with_reducible refine(zoH _ (Y #[O a m c,X s]) (Y #[O t R v,X W]) x y ?_ ?_ g.out i.out).mono ?_);(refine k.ext ?_;exact eA);(refine l.ext ?_;exact eA);rintro e w1 ⟨r1,rfl,f,j,K⟩;obtain⟨u,T,z,s1,rfl⟩:=f.form;obtain⟨⟨D,P⟩,q,r⟩:=cK2 w j))|((go_at_call 163;(with_reducible refine(zkJ _ (Y #[O u T z,X s1]) (x-y) ?_).mono ?_);(refine f.ext ?_;exact eA);rintro e w2 ⟨rfl,Q,L⟩)))
 go_ret;exact⟨rfl,eA,dA⟩
theorem zhG(w:Z)(c d:I)(x y:Int)(f:IsZ w c x)(g:IsZ w d y)(a:Lm lim x)(b:Lm lim y) :
  Calls Tryz.prog 136 #[c,d] w fun e i=>e = .returned (.int .i64 (x-y).sign)/\Ext w i:=zfk (zmB w c d x y f g a b)
end
end Go.Proofs.YtjnjpagegkcgfaaGreatDoor.Cop
