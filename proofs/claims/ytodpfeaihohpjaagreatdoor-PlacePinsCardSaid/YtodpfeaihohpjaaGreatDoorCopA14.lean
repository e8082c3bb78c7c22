/- Part 15: contracts of what the law calls. -/
import Derived.Test.YtodpfeaihohpjaaGreatDoorCopA13
import Derived.Test.YtodpfeaihohpjaaGreatDoorCopA02
import Derived.Test.YtodpfeaihohpjaaGreatDoorCopA07
import Derived.Sort.OwnSortedInts
set_option maxRecDepth 1000000
set_option maxHeartbeats 16000000
set_option linter.unusedSimpArgs false
set_option linter.unusedVariables false
open Go.Value renaming slice→O,bool→V,int→N,agg→U,pointer→Ob
open Option renaming none→Y,some→I
open Go renaming World→Z,Value→C,Addr→Oa
open Go.IntKind renaming i64→M
open Go.Obj renaming cells→H
namespace Go.Proofs.YtodpfeaihohpjaaGreatDoor.Cop
section
open Go.RowKit Go.Shelf
attribute [local go_sem] Oper.semAt_some
abbrev Edg:=(Int×Int)×(Int×Int)
def eds (l:List (Int×Int)):List Edg:=l.zip l.tail
def ence (e:Edg):Array C:=#[U #[N M e.1.1,N M e.1.2],U #[N M e.2.1,N M e.2.2]]
theorem zl1 (l:List (Int×Int)):(eds l).length=l.length-1:=by simp [eds]
theorem zl0 {l:List (Int×Int)} {j:Nat} {p q:Int×Int} (hp:l[j]?=I p) (hq:l[j+1]?=I q):(eds l)[j]?=I (p,q):=by
 unfold eds;rw [List.getElem?_zip_eq_some];exact⟨hp,by rw [List.getElem?_tail];exact hq⟩
theorem zfv (w:Z) (sl:Option Oa) (n c:Nat) :
  Calls Tryz.prog 110 #[O sl n c] w fun e w'=>e = .returned (.func (.func 142) #[] #[Ob (I ⟨w.heap.size,0,Y⟩)])∧w.alloc (H #[O sl n c] 99)=w':=by
 have hmf:∀(fn:Fn) (first cap:Array C) (w:Z),(Instr.makeFunc fn first cap).run Tryz.prog w = .ok (.func fn first cap) w:=fun _ _ _ _=>rfl
 go_enter Tryz.func110,Tryz.ntmps110;go_wp2;go_ret;exact⟨rfl,rfl⟩
theorem zmm {F:Fence} {m:Nat} {P:Program} {l:Nat} {fn:FuncId} {tmps:Array C} {assign body:Code} {W:Z} {A B:Z→Prop}
  (h:RoundIn F m P l fn tmps assign body W fun e W'=>(e = .returned (V true)∧A W')∨(e = .returned (V false)∧B W')) :
  RoundIn F m P l fn tmps assign body W fun e W'=>∃b:Bool,e = .returned (V b)∧(b=true→A W')∧(b=false→B W'):=
 h.mono fun e W' h=>by
  rcases h with ⟨rfl,h⟩|⟨rfl,h⟩
  ·exact⟨true,rfl,fun _=>h,fun h=>nomatch h⟩
  ·exact⟨false,rfl,fun h=>(nomatch h),fun _=>h⟩
theorem ziS {β:Type} (f:β→Edg) (n:Nat) (hn:1≤n) (l bx:Nat) (w w0:Z) (sl:C) (ps:List (Int×Int)) (es:List β) (hes:es.map f=eds ps) (J Jx:List β→Z→Prop)
  (hY:∀pre x W,J pre W→pre.length<es.length→YieldAt Fence.wide (n-1) Tryz.prog l (ence (f x)) W fun e W' =>
   (e = .returned (V true)∧J (pre++[x]) W'∧KpW w bx W W')∨(e = .returned (V false)∧Jx (pre++[x]) W'))
  (hJd:∀pre W,J pre W→J pre W.drew) (hbx:w0.cell? ⟨bx,0,Y⟩=I sl) (hbl:bx<w0.heap.size) (hi:IsPts w sl ps) (hw:Ext w w0) (W:Z) (hW:KpW w bx w0 W) (h0:J [] W) :
  CallsIn Fence.wide n Tryz.prog 142 #[.func (.yield l) #[] #[],Ob (I ⟨bx,0,Y⟩)] W fun e W'=>(∃v,e = .returned v) ∧
   ((∃ys,ys=es∧J ys W')∨(∃pre,pre <+: es∧Jx pre W')):=by
 obtain⟨a,c,rfl⟩:=hi.form;have hle:=hi.le;obtain⟨m,hm⟩:=gX ps.length;rw [hm]at hi hbx hle;have hel:es.length=m-1:=by have:=congrArg List.length hes;rw [lL,zl1,hm]at this;exact this
 rw [hel]at hY;unfold maxLen at hle;have hmm:m≤9223372036854775807:=by omega
 have Hm:=hd9 hm;clear hm hle;have hbx1:W.cell? ⟨bx,0,Y⟩=I (O a m c):=(World.cell?_of_block hW.2).trans hbx;refine callsIn_of_wp Tryz.func142 rfl trivial ?_ rfl;simp only [Tryz.ntmps142,List.size_toArray,List.length_cons,List.length_nil,Nat.reduceAdd,Nat.reduceSub,Array.replicate_succ,Array.replicate_zero,List.push_toArray,List.append_toArray,List.nil_append,List.cons_append]
 gi_wp2
 gi_loopw [3] (fun t3 wr=>∃j:Nat,j≤m∧t3=N M ((j+1:Nat):Int)∧J (es.take j) wr∧KpW w bx w0 wr)
  (fun t3 _=>(m+1-intOf t3).toNat)
 case atStart=>exact⟨0,by omega,rfl,by simpa using h0,hW⟩
 case round =>
  obtain⟨j,hj,rfl,hJ,hx⟩:=hrel;have hbx2:wr.cell? ⟨bx,0,Y⟩=I (O a m c):=(World.cell?_of_block hx.2).trans hbx
  by_cases hlt:j+1<m
  ·obtain⟨⟨x,z⟩,hp⟩:∃q,ps[j]?=I q:=⟨ps[j]'(by rw [Hm.out];omega),by simp⟩
   obtain⟨⟨x',z'⟩,hq⟩:∃q,ps[j+1]?=I q:=⟨ps[j+1]'(by rw [Hm.out];omega),by simp⟩;have he:=zl0 hp hq;obtain⟨y,hyy⟩:∃y,es[j]?=I y:=⟨es[j]'(by rw [hel];omega),by simp⟩
   have hfy:f y=((x,z),(x',z')):=by
    rw [←hes,lP,hyy]at he;exact Option.some.inj he
   obtain⟨b,o,rfl,hb,d0,d1⟩:=(hi.ext' (hw.thenB hx.1 (nE _))).at' hp;obtain⟨b',o',e',hb',d2,d3⟩:=(hi.ext' (hw.thenB hx.1 (nE _))).at' hq
   cases e'
   obtain⟨fn,tmps,assign,body,hy,hR⟩:=hY _ y wr.drew (hJd _ _ hJ) (by rw [List.length_take,hel];omega);have hst:es.take j++[y]=es.take (j+1):=(zab _ _ _ hyy).symm;rw [hst]at hR;have hR':=zmm hR;have HR:=hd9 hR';have u1:((j+1:Nat):Int)-1=(j:Int):=by omega
   have u2:IntKind.i64.wrap ((j:Int)+1-1)=(j:Int):=by rw [show (j:Int)+1-1=j by omega];exact iW _ ⟨by omega,by omega⟩
   have u6:IntKind.i64.wrap (j:Int)=(j:Int):=iW _ ⟨by omega,by omega⟩;have u3:(0:Int)≤(j:Int)+1:=by omega
   have u4:(j:Int)+1<(m:Int):=by omega
   have u5:((j:Int)+1).toNat=j+1:=by omega
   have p1:(0:Int)≤(j:Int):=by omega
   have p2:(j:Int)<(m:Int):=by omega
   have p3:((j+1:Nat):Int)<(m:Int):=by omega
   rw [hfy]at hy;clear hR hR' hst hp hq he hyy hfy;unfold ence at hy;dsimp only at hy
   gi_wp2
   gi_region_with ((with_reducible refine RoundIn.mono HR.out ?_);rintro e W3 ⟨bb,rfl,hA,hB⟩)
   all_goals
    cases bb
    ·have hJx:=hB rfl
     clear hA hB
     gi_wp2
     refine bR (results_none rfl _ _ _) rfl ?_;exact⟨⟨_,rfl⟩,.inr ⟨_,⟨es.drop (j+1),List.take_append_drop _ _⟩,hJx⟩⟩
    ·obtain⟨hJ3,hk3⟩:=hA rfl
     clear hA hB
     gi_wp2
     go_roundw
     case rel=>exact⟨j+1,by omega,by go_num,hJ3,hx.trans ((KpW.refl w bx wr).ext ((eR wr).drew) (hw.thenB hx.1 (nE _)).size (Nat.lt_of_lt_of_le hbl hx.1.size) |>.trans hk3)⟩
     case measure=>simp [intOf];omega
  ·have e:es.take j=es:=lT (by rw [hel];omega)
   rw [e]at hJ;have p3:¬((j+1:Nat):Int)<(m:Int):=by omega
   clear e
   gi_wp2
   go_end0
   exact⟨⟨_,rfl⟩,.inl hJ⟩
theorem zdC {β:Type} (f:β→Edg) (n:Nat) (hn:1≤n) (bx:Nat) (w w0:Z) (sl:C) (ps:List (Int×Int)) (es:List β) (hes:es.map f=eds ps) (hbx:w0.cell? ⟨bx,0,Y⟩=I sl) (hbl:bx<w0.heap.size) (hi:IsPts w sl ps) (hw:Ext w w0) :
  SeqStopsK Fence.wide n Tryz.prog 142 #[Ob (I ⟨bx,0,Y⟩)] (fun x=>ence (f x)) (KpW w bx) (fun ys=>ys=es) (fun pre=>pre <+: es) es.length w0:=
 fun l J Jx W hW hJ _ hY h0=>ziS f n hn l bx w w0 sl ps es hes J Jx hY (fun pre W' h=>hJ _ _ _ Y h ⟨rfl,rfl,rfl,nE _,fun _ _ _=>rfl⟩ (fun r e=>by cases e)) hbx hbl hi hw W ((KpW.refl w bx w0).ext hW hw.size hbl) h0
section
variable {P:Program} {ops:Array Oper} {Q:Exit→Act→Z→Prop} {md:Region.Mode} {S:Z→Prop}
def TakeIt (P:Program) (md:Region.Mode) (ops:Array Oper) (Q:Exit→Act→Z→Prop) (S:Z→Prop) (fuel:Nat) (listed:Array Bool) (a:Act) (w:Z) (i:Nat) (oi:Oper):Prop:=
 ∃v,Region.noSelect ops=true∧Region.free md ops listed i=true∧(Region.ready md ops listed).contains i=true∧(∀c a w,Q (.panic c) (a.put oi.dst v) w→Q (.panic c) a w)∧YieldsIf P ops S oi v a∧S w ∧
  wpAnyH P md ops Q S fuel (listed.setIfInBounds i true) (a.put oi.dst v) w
theorem take1 {i:Nat} {oi:Oper} {fuel:Nat} {listed:Array Bool} {a:Act} {w:Z} (hi:ops[i]?=I oi) (h:TakeIt P md ops Q S fuel listed a w i oi):wpAnyH P md ops Q S (fuel+1) listed a w:=by
 obtain⟨v,h1,h2,h3,h4,h5,h6,h7⟩:=h;exact wpAnyH_take hi h1 h2 h3 h4 h5 h6 h7
def CallIt (P:Program) (md:Region.Mode) (ops:Array Oper) (Q:Exit→Act→Z→Prop) (S:Z→Prop) (fuel:Nat) (listed:Array Bool) (a:Act) (w:Z) (i:Nat) (o:Oper):Prop:=
 Region.ready md ops listed=[i]∧∀K':Act→Z→Prop,Shut (∀a w,S w→(S w→wpAnyH P md ops Q S fuel (listed.setIfInBounds i true) a w)→K' a w)→if Region.wanted o (yielded ops a.tmps)=true then Oper.wp P o a w K' Q else K' (a.put o.dst undef) w
theorem call1 {i:Nat} {o:Oper} {fuel:Nat} {listed:Array Bool} {a:Act} {w:Z} (hi:ops[i]?=I o) (h:CallIt P md ops Q S fuel listed a w i o):wpAnyH P md ops Q S (fuel+1) listed a w:=
 wpAnyH_ready h.1 (by simp) (AllReadyH.cons hi h.2 AllReadyH.nil)
theorem tk1 {v:C} {i:Nat} {oi:Oper} {fuel:Nat} {listed:Array Bool} {a:Act} {w:Z} {G:Prop} (h:G) (hi:ops[i]?=I oi:=by(simp only [gA,gS,gZ];rfl)) (h1:Region.noSelect ops=true:=by kernel_rfl) (h2:Region.free md ops listed i=true:=by kernel_rfl) (h3:(Region.ready md ops listed).contains i=true:=by kernel_rfl) (h4:∀c a w,Q (.panic c) (a.put oi.dst v) w→Q (.panic c) a w:=by exact fun _ _ _ h=>h) (hw:Region.wanted oi (yielded ops a.tmps)=true:=by rfl) (hy:∀w,S w→(execOp a.eval oi).run P w = .ok (.value v) w:=by(intro w hSw;simp only [CellL,and_true]at hSw;go_simp;try(with_reducible rfl))) (h6:S w:=by(with_reducible assumption)) (hG:wpAnyH P md ops Q S fuel (listed.setIfInBounds i true) (a.put oi.dst v) w=G:=by((try simp only [Act.put,sA,sZ,sS]);rfl)):wpAnyH P md ops Q S (fuel+1) listed a w:=by
 subst hG;exact take1 hi ⟨v,h1,h2,h3,h4,Or.inl ⟨hw,hy⟩,h6,h⟩
theorem tkg1 {i:Nat} {oi:Oper} {fuel:Nat} {listed:Array Bool} {a:Act} {w:Z} {G:Prop} (h:G) (hi:ops[i]?=I oi:=by(simp only [gA,gS,gZ];rfl)) (h1:Region.noSelect ops=true:=by kernel_rfl) (h2:Region.free md ops listed i=true:=by kernel_rfl) (h3:(Region.ready md ops listed).contains i=true:=by kernel_rfl) (h4:∀c a w,Q (.panic c) (a.put oi.dst undef) w→Q (.panic c) a w:=by exact fun _ _ _ h=>h) (hw:Region.wanted oi (yielded ops a.tmps)=false:=by rfl)  (h6:S w:=by(with_reducible assumption)) (hG:wpAnyH P md ops Q S fuel (listed.setIfInBounds i true) (a.put oi.dst undef) w=G:=by((try simp only [Act.put,sA,sZ,sS]);rfl)):wpAnyH P md ops Q S (fuel+1) listed a w:=by
 subst hG;exact take1 hi ⟨undef,h1,h2,h3,h4,Or.inr ⟨hw,rfl⟩,h6,h⟩
theorem tkn {v:C} {i:Nat} {oi:Oper} {fuel:Nat} {listed:Array Bool} {a:Act} {w:Z} {G:Prop} (h:G) (hi:ops[i]?=I oi:=by(simp only [gA,gS,gZ];rfl)) (h1:Region.noSelect ops=true:=by kernel_rfl) (h2:Region.free md ops listed i=true:=by kernel_rfl) (h3:(Region.ready md ops listed).contains i=true:=by kernel_rfl) (h4:∀c a w,Q (.panic c) (a.put oi.dst v) w→Q (.panic c) a w:=by exact fun _ _ _ h=>h) (hw:Region.wanted oi (yielded ops a.tmps)=true:=by rfl) (hy:∀w,S w→(execOp a.eval oi).run P w = .ok (.value v) w:=by(intro w hSw;simp only [CellL,and_true]at hSw;go_simp;try(with_reducible rfl))) (h6:S w:=by(with_reducible assumption)) (hG:wpN (i+1) (wpAnyH P md ops Q S fuel (listed.setIfInBounds i true) (a.put oi.dst v) w)=G:=by((try simp only [Act.put,sA,sZ,sS,Nat.reduceAdd]);rfl)):wpN i (wpAnyH P md ops Q S (fuel+1) listed a w):=by
 subst hG;exact take1 hi ⟨v,h1,h2,h3,h4,Or.inl ⟨hw,hy⟩,h6,h⟩
theorem tkgn {i:Nat} {oi:Oper} {fuel:Nat} {listed:Array Bool} {a:Act} {w:Z} {G:Prop} (h:G) (hi:ops[i]?=I oi:=by(simp only [gA,gS,gZ];rfl)) (h1:Region.noSelect ops=true:=by kernel_rfl) (h2:Region.free md ops listed i=true:=by kernel_rfl) (h3:(Region.ready md ops listed).contains i=true:=by kernel_rfl) (h4:∀c a w,Q (.panic c) (a.put oi.dst undef) w→Q (.panic c) a w:=by exact fun _ _ _ h=>h) (hw:Region.wanted oi (yielded ops a.tmps)=false:=by rfl)  (h6:S w:=by(with_reducible assumption)) (hG:wpN (i+1) (wpAnyH P md ops Q S fuel (listed.setIfInBounds i true) (a.put oi.dst undef) w)=G:=by((try simp only [Act.put,sA,sZ,sS,Nat.reduceAdd]);rfl)):wpN i (wpAnyH P md ops Q S (fuel+1) listed a w):=by
 subst hG;exact take1 hi ⟨undef,h1,h2,h3,h4,Or.inr ⟨hw,rfl⟩,h6,h⟩
theorem cl1 {i:Nat} {o:Oper} {fuel:Nat} {listed:Array Bool} {a:Act} {w:Z} (h:∀K':Act→Z→Prop,Shut (∀a w,S w→(S w→wpAnyH P md ops Q S fuel (listed.setIfInBounds i true) a w)→K' a w)→if Region.wanted o (yielded ops a.tmps)=true then Oper.wp P o a w K' Q else K' (a.put o.dst undef) w) (hi:ops[i]?=I o:=by(simp only [gA,gS,gZ];rfl)) (hr:Region.ready md ops listed=[i]:=by kernel_rfl):wpAnyH P md ops Q S (fuel+1) listed a w:=call1 hi ⟨hr,h⟩
theorem kO {K:Act→Z→Prop} {A:Z→Prop} {X:Act→Z→Prop} (hK:Shut (∀a w,A w→(A w→X a w)→K a w)) {a:Act} {w:Z} {G:Prop} (hA:A w) (h:A w→G) (hG:X a w=G:=by((try simp only [Act.put,sA,sZ,sS]);rfl)):K a w:=by
 subst hG;exact hK.out _ _ hA h
end
section
variable {P:Program} {ops:Array Oper} {Q:Exit→Act→Z→Prop} {md:Region.Mode} {S:Z→Prop}
theorem call2 {i j:Nat} {oi oj:Oper} {fuel:Nat} {listed:Array Bool} {a:Act} {w:Z}
  (h1:∀K':Act→Z→Prop,Shut (∀a w,S w→(S w→wpAnyH P md ops Q S fuel (listed.setIfInBounds i true) a w)→K' a w)→if Region.wanted oi (yielded ops a.tmps)=true then Oper.wp P oi a w K' Q else K' (a.put oi.dst undef) w)
  (h2:∀K':Act→Z→Prop,Shut (∀a w,S w→(S w→wpAnyH P md ops Q S fuel (listed.setIfInBounds j true) a w)→K' a w)→if Region.wanted oj (yielded ops a.tmps)=true then Oper.wp P oj a w K' Q else K' (a.put oj.dst undef) w)
  (hi:ops[i]?=I oi:=by(simp only [gA,gS,gZ];rfl)) (hj:ops[j]?=I oj:=by(simp only [gA,gS,gZ];rfl)) (hr:Region.ready md ops listed=[i,j]:=by kernel_rfl) :
  wpAnyH P md ops Q S (fuel+1) listed a w:=
 wpAnyH_ready hr (by simp) (AllReadyH.cons hi h1 (AllReadyH.cons hj h2 AllReadyH.nil))
theorem call3 {i j k:Nat} {oi oj ok:Oper} {fuel:Nat} {listed:Array Bool} {a:Act} {w:Z}
  (h1:∀K':Act→Z→Prop,Shut (∀a w,S w→(S w→wpAnyH P md ops Q S fuel (listed.setIfInBounds i true) a w)→K' a w)→if Region.wanted oi (yielded ops a.tmps)=true then Oper.wp P oi a w K' Q else K' (a.put oi.dst undef) w)
  (h2:∀K':Act→Z→Prop,Shut (∀a w,S w→(S w→wpAnyH P md ops Q S fuel (listed.setIfInBounds j true) a w)→K' a w)→if Region.wanted oj (yielded ops a.tmps)=true then Oper.wp P oj a w K' Q else K' (a.put oj.dst undef) w)
  (h3:∀K':Act→Z→Prop,Shut (∀a w,S w→(S w→wpAnyH P md ops Q S fuel (listed.setIfInBounds k true) a w)→K' a w)→if Region.wanted ok (yielded ops a.tmps)=true then Oper.wp P ok a w K' Q else K' (a.put ok.dst undef) w)
  (hi:ops[i]?=I oi:=by(simp only [gA,gS,gZ];rfl)) (hj:ops[j]?=I oj:=by(simp only [gA,gS,gZ];rfl)) (hk:ops[k]?=I ok:=by(simp only [gA,gS,gZ];rfl)) (hr:Region.ready md ops listed=[i,j,k]:=by kernel_rfl) :
  wpAnyH P md ops Q S (fuel+1) listed a w:=
 wpAnyH_ready hr (by simp) (AllReadyH.cons hi h1 (AllReadyH.cons hj h2 (AllReadyH.cons hk h3 AllReadyH.nil)))
end
def xLe (x:Rat) (e:Edg):Bool:=decide (rcmp x ((e.2.1:Int):Rat)≤0)
def atE (x:Rat) (e:Edg):Rat:=((e.1.2:Int):Rat)+((x-((e.1.1:Int):Rat))*((e.2.2-e.1.2:Int):Rat)) / ((e.2.1-e.1.1:Int):Rat)
def atR (ps:List (Int×Int)) (x:Rat):Rat:=match (eds ps).find? (xLe x)with|some e=>atE x e|none=>(((ps.getD (ps.length-1) (0,0)).2:Int):Rat)
theorem RB.sim {B:Nat} {W W':Z} {b:Nat} {q:Rat} (h:RB W b q) (k:Sim B W W'):RB W' b q:=by
 obtain⟨a,m,c,s,a2,m2,c2,h1,h2⟩:=h;exact⟨a,m,c,s,a2,m2,c2,k.heap h1,h2.keep (k.keep _)⟩
theorem zaL {k n:Int} (h:Bd k n) (hk:k≤1000000:=by decide):Rb 1 (n:Rat):=Rb.int (by unfold Lm B;unfold Bd at h;simp;omega) (nE _)
theorem zgU {k:Int} {ps:List (Int×Int)} (h:PBd k ps) {e:Edg} (he:e∈eds ps):Bd k e.1.1∧Bd k e.1.2∧Bd k e.2.1∧Bd k e.2.2:=by
 obtain⟨p,q⟩:=e;have h1:=List.of_mem_zip he;have h2:=h p h1.1;have h3:=h q (List.mem_of_mem_tail h1.2);exact⟨h2.1,h2.2,h3.1,h3.2⟩
abbrev BE:={ e:Edg // Bd 104000 e.1.1∧Bd 104000 e.1.2∧Bd 104000 e.2.1∧Bd 104000 e.2.2 }
def AtI (w:Z) (x:Rat) (pre:List BE) (W:Z):Prop:=
 Ext w W∧w.heap.size+1+1+1≤W.heap.size∧RB W w.heap.size x∧RB W (w.heap.size+1) 0∧∀e∈pre,xLe x e.1=false
def AtX (w:Z) (x:Rat) (c:Code) (pre:List BE) (W:Z):Prop:=
 c = .ret∧Ext w W∧w.heap.size+1+1+1≤W.heap.size∧∃(pre':List BE) (e:BE),pre=pre'++[e]∧(∀e∈pre',xLe x e.1=false)∧xLe x e.1=true∧RB W (w.heap.size+1) (atE x e.1)
def AtS (s B:Nat) (ya:Option Oa) (ym yc:Nat) (ys:Bool) (ya2:Option Oa) (ym2 yc2:Nat) (ax az bx bz:Int) (W:Z):Prop:=
 W.cell? ⟨s,0,Y⟩=I (O ya ym yc)∧W.cell? ⟨s,1,Y⟩=I (V ys)∧W.cell? ⟨s,2,Y⟩=I (O ya2 ym2 yc2)∧W.cell? ⟨B,0,Y⟩=I (N M ax)∧W.cell? ⟨B,1,Y⟩=I (N M az)∧W.cell? ⟨B+1,0,Y⟩=I (N M bx)∧W.cell? ⟨B+1,1,Y⟩=I (N M bz)
theorem AtS.ext {s B:Nat} {ya:Option Oa} {ym yc:Nat} {ys:Bool} {ya2:Option Oa} {ym2 yc2:Nat} {ax az bx bz:Int} {W W':Z} (h:AtS s B ya ym yc ys ya2 ym2 yc2 ax az bx bz W) (k:Ext W W'):AtS s B ya ym yc ys ya2 ym2 yc2 ax az bx bz W':=by
 obtain⟨h0,h1,h2,h3,h4,h5,h6⟩:=h;exact⟨k.cellS h0,k.cellS h1,k.cellS h2,k.cellS h3,k.cellS h4,k.cellS h5,k.cellS h6⟩
theorem zgA {W:Z} {D:Nat} (hK:W.heap[D]?=I (.deferred (I []))) (o:Obj):Sim D W (W.putObj D o):=
 Sim.of_grown (grownBy_putObj' W D o) (Nat.le_of_lt (zaa hK)) (fun r e=>by cases e;exact⟨nE _,_,hK,rfl⟩)
theorem AtS.set {s B:Nat} {ya:Option Oa} {ym yc:Nat} {ys:Bool} {ya2:Option Oa} {ym2 yc2:Nat} {ax az bx bz:Int} {W:Z} (h:AtS s B ya ym yc ys ya2 ym2 yc2 ax az bx bz W) {p:Oa} (h1:p.block≠s) (h2:p.block≠B) (h3:p.block≠B+1) (u:C):AtS s B ya ym yc ys ya2 ym2 yc2 ax az bx bz (W.setCell p u):=by
 obtain⟨g0,g1,g2,g3,g4,g5,g6⟩:=h;refine⟨?_,?_,?_,?_,?_,?_,?_⟩<;>(rw [World.cell?_setCell_far _ _ _ _ (by dsimp only;omega)];assumption)
theorem zaw {B:Nat} {W W':Z} (h:Ext W W'):KeepsFrom B W W':=⟨h.size,fun _ _ _ hk _=>h.heapS hk⟩
theorem zkJ {β:Type} {f:β→Bool} {es pre:List β} {e:β} (hp:pre++[e] <+: es) (hn:∀x∈pre,f x=false) (he:f e=true):es.find? f=I e:=by
 obtain⟨t,rfl⟩:=hp;rw [List.append_assoc,List.find?_append]
 have:pre.find? f=Y:=by
  rw [List.find?_eq_none];intro x hx;simp [hn x hx]
 rw [this];simp [he]
theorem zmO {ps:List (Int×Int)} {x:Rat} {es:List BE} (hes:es.map (fun e=>e.1)=eds ps) {pre:List BE} {e:BE} (hp:pre++[e] <+: es) (hn:∀e∈pre,xLe x e.1=false) (he:xLe x e.1=true):atR ps x=atE x e.1:=by
 unfold atR;rw [←hes,List.find?_map,zkJ (f:=xLe x ∘ fun e:BE=>e.1) hp hn he];rfl
theorem zkq {ps:List (Int×Int)} {x:Rat} {es:List BE} (hes:es.map (fun e=>e.1)=eds ps) (hn:∀e∈es,xLe x e.1=false) {q:Int×Int} (hq:ps[ps.length-1]?=I q):atR ps x=((q.2:Int):Rat):=by
 unfold atR
 have:(eds ps).find? (xLe x)=Y:=by
  rw [←hes,List.find?_eq_none];intro y hy;obtain⟨e,he,rfl⟩:=List.mem_map.1 hy;simp [hn e he]
 rw [this,gD,hq];rfl
theorem zdL (w:Z) (v vx:C) (ps:List (Int×Int)) (x:Rat) (h:IsPts w v ps) (hok:LnOk ps) (hx:IsR w vx x) (hb:Rb 1000 x) :
  Calls Tryz.prog 62 #[v,vx] w (RetR w (atR ps x)):=by
 obtain⟨a,c,rfl⟩:=h.form;obtain⟨xa,xm,xc,xs,xa2,xm2,xc2,rfl⟩:=hx.form;have Hb:=hd9 hb;have Hok:=hd9 hok;obtain⟨n,hn⟩:=gX ps.length;rw [hn]at h ⊢;have Hn:=hd9 hn;obtain⟨es,hes⟩:∃es:List BE,es.map (fun e=>e.1)=eds ps:=⟨(eds ps).attachWith _ (fun e he=>zgU hok.2.1 he),zaY _⟩;have Hes:=hd9 hes;clear hb hok hn;refine(callsIn_wide (n:=5)).1 ?_;refine callsIn_of_wp_marks Tryz.func62 rfl trivial ?_ rfl;simp only [Tryz.ntmps62,List.size_toArray,List.length_cons,List.length_nil,Nat.reduceAdd,Nat.reduceSub,Array.replicate_succ,Array.replicate_zero,List.push_toArray,List.append_toArray,List.nil_append,List.cons_append]
 gi_wp2_with(refine⟨trivial,?_⟩;gi_at_call 110;refine(callsIn_wide.2 (zfv _ _ _ _)).mono ?_;rintro e w' ⟨rfl,rfl⟩)
 obtain⟨W0,hW0⟩:=gX ((((w.alloc (H #[O xa xm xc,V xs,O xa2 xm2 xc2] 65)).alloc (H #[O Y 0 0,V false,O Y 0 0] 65)).alloc (H #[O a n c] 99)));have hx0:Ext w W0:=by rw [←hW0];exact(((eR w).alloc _).alloc _).alloc _
 have hs0:W0.heap.size=w.heap.size+1+1+1:=by rw [←hW0];simp
 have hbx:W0.cell? ⟨w.heap.size+1+1,0,Y⟩=I (O a n c):=by rw [←hW0,World.cell?_alloc_at _ _ _ _ (by simp)];rfl
 have hR0:RB W0 w.heap.size x:=by rw [←hW0];exact(RB.new hx rfl).ext (((eR _).alloc _).alloc _)
 have hR1:RB W0 (w.heap.size+1) 0:=by rw [←hW0];exact(RB.new (IsR.zero _) (by simp)).ext ((eR _).alloc _)
 rw [hW0];have HW0:=hd9 hW0;clear hW0
 refine wpIn_rangeFunc_ownH rfl (by decide) (gf:=142) (lb:=#[Ob (I ⟨w.heap.size+1+1,0,Y⟩)]) rfl trivial (enters_of Tryz.func142 (by kernel_rfl) rfl)
  (zdC (fun e:BE=>e.1) _ (by decide) (w.heap.size+1+1) w _ _ ps es hes hbx (by omega) h hx0) KpW.trans (KpW.put (by omega) (by omega)) (Below.refl _ _) (fun _=>rfl)
  (AtI w x) (AtX w x) (zaj (fun s W h=>by have:=h.2.1;omega) (fun s W W' h k=>?hsim)) (fun c=>zaj (fun s W h=>by have:=h.2.2.1;omega) (fun s W W' h k=>?hsimx)) ?h0
  (fun(e:BE) a' W=>∃B,w.heap.size+1+1+1≤B∧W.heap[B]?=I (H #[N M e.1.1.1,N M e.1.1.2] 33 (0,0))∧W.heap[B+1]?=I (H #[N M e.1.2.1,N M e.1.2.2] 33 (0,0)) ∧
   a'={ tmps:=#[O a n c,U #[O xa xm xc,V xs,O xa2 xm2 xc2],undef,Ob (I ⟨w.heap.size,0,Y⟩),Ob (I ⟨w.heap.size+1,0,Y⟩),Ob (I ⟨B,0,Y⟩),Ob (I ⟨B+1,0,Y⟩),O a n c,.func (.func 142) #[] #[Ob (I ⟨w.heap.size+1+1,0,Y⟩)],U #[N M e.1.1.1,N M e.1.1.2],U #[N M e.1.2.1,N M e.1.2.2],undef,undef,undef,undef,undef,undef,undef,undef,undef,undef,undef,undef,undef,undef,undef,undef,undef,undef,undef,undef,undef,undef,undef,undef,undef,undef,undef,undef,undef,undef,undef,undef,undef,undef,undef,undef,undef],defers:=[] })
  (fun e a'=>zaj (fun s W h=>?hAs) (fun s W W' h k=>?hAk)) ?assign ?body ?done ?stop
 case hsim =>
  obtain⟨h1,h2,h3,h4,h5⟩:=h;exact⟨k.ext h1 (by omega),nT h2 k.size,h3.sim k,h4.sim k,h5⟩
 case hsimx =>
  obtain⟨h0,h1,h2,p',e,h3,h4,h5,h6⟩:=h;exact⟨h0,k.ext h1 (by omega),nT h2 k.size,p',e,h3,h4,h5,h6.sim k⟩
 case h0=>exact⟨hx0,by omega,hR0,hR1,fun e he=>by cases he⟩
 case hAs =>
  obtain⟨B,h1,h2,h3,_⟩:=h;have:=zaa h2;omega
 case hAk =>
  obtain⟨B,h1,h2,h3,h4⟩:=h;exact⟨B,h1,k.heap h2,k.heap h3,h4⟩
 case assign =>
  rintro l pre e W K ⟨h1,h2,h3,h4,h5⟩ hK;unfold ence
  gi_wp2
  refine hK _ _ (((KeepsOthers.alloc _ _).trans (KeepsOthers.alloc _ _)).from _) (((KpW.refl _ _ W).ext (((eR W).alloc _).alloc _) h1.size (by omega))) ⟨(h1.alloc _).alloc _,by simp;omega,h3.ext (((eR W).alloc _).alloc _),h4.ext (((eR W).alloc _).alloc _),h5⟩ ⟨W.heap.size,h2,?_,?_,rfl⟩
  ·rw [zae,if_neg (by simp)];exact qhA _ _ _ rfl
  ·exact qhA _ _ _ (by simp)
 case body =>
  rintro l pre e a' W hl ⟨r,hr⟩ ⟨h1,h2,h3,h4,h5⟩ ⟨B,hB,q1,q2,rfl⟩ hlt;obtain⟨⟨⟨ax,az⟩,bx,bz⟩,hbnd⟩:=e;dsimp only at q1 q2 hbnd ⊢;obtain⟨ya,ym,yc,ys,ya2,ym2,yc2,r0,r1,r2,_,_,_,zr,hyx⟩:=h3.rd;have e0:=qcB q1 (i:=0) (u:=N M ax) rfl;have e1:=qcB q1 (i:=1) (u:=N M az) rfl;have e2:=qcB q2 (i:=0) (u:=N M bx) rfl;have e3:=qcB q2 (i:=1) (u:=N M bz) rfl;have z1:=zaa q1;have z2:=zaa q2
  gi_wp2
  have hS0:AtS w.heap.size B ya ym yc ys ya2 ym2 yc2 ax az bx bz W:=⟨r0,r1,r2,e0,e1,e2,e3⟩;have hyd:IsR W.drew (U #[O ya ym yc,V ys,O ya2 ym2 yc2]) x:=hyx.ext (eR W).drew;have HS0:=hd9 hS0;refine zap (S:=AtS w.heap.size B ya ym yc ys ya2 ym2 yc2 ax az bx bz) (by kernel_rfl) (by kernel_rfl) (hS0.ext (eR W).drew) (fun h9H=>?_);clear r0 r1 r2 e0 e1 e2 e3 hS0;refine take1 (i:=0) (oi:=?oix1) ?hix1 ?hx1
  case hix1=>(simp only [gA,gS,gZ];rfl)
  refine⟨?_,by kernel_rfl,by kernel_rfl,by kernel_rfl,fun _ _ _ h=>h,Or.inl ⟨by rfl,?_⟩,by assumption,?_⟩;rotate_left 1
  ·(intro w hSw;rcases hSw with ⟨s0,s1,s2,s3,s4,s5,s6⟩;go_simp;try(with_reducible rfl))
  (try simp only [Act.put,sA,sZ,sS])
  refine take1 (i:=1) (oi:=?oix2) ?hix2 ?hx2
  case hix2=>(simp only [gA,gS,gZ];rfl)
  refine⟨?_,by kernel_rfl,by kernel_rfl,by kernel_rfl,fun _ _ _ h=>h,Or.inl ⟨by rfl,?_⟩,by assumption,?_⟩;rotate_left 1
  ·(intro w hSw;rcases hSw with ⟨s0,s1,s2,s3,s4,s5,s6⟩;go_simp;try(with_reducible rfl))
  (try simp only [Act.put,sA,sZ,sS])
  refine take1 (i:=2) (oi:=?oix3) ?hix3 ?hx3
  case hix3=>(simp only [gA,gS,gZ];rfl)
  refine⟨?_,by kernel_rfl,by kernel_rfl,by kernel_rfl,fun _ _ _ h=>h,Or.inl ⟨by rfl,?_⟩,by assumption,?_⟩;rotate_left 1
  ·(intro w hSw;rcases hSw with ⟨s0,s1,s2,s3,s4,s5,s6⟩;go_simp;try(with_reducible rfl))
  (try simp only [Act.put,sA,sZ,sS])
  obtain⟨bB1,bB2,bB3,bB4⟩:=hbnd;obtain⟨T,hT⟩:=gX (rcmp x ((bx:Int):Rat));have HT:=hd9 hT;have Rbx:=zaL bB3;have hcb:=fun W=>zaI W bx (by unfold Bd at bB3;omega) (by unfold Bd at bB3;omega)
  have Hcb:=hd9 hcb;clear hcb hT;refine cl1 (i:=3) fun K hK=>?_
  go_simp
  (with_reducible refine cM (Hcb.out _) ?_)
  rintro e w3 ⟨v3,rfl,hr3,hx3⟩;obtain⟨a3,m3,c3,s3,b3,n3,k3,rfl⟩:=hr3.form
  go_wp2_with fail
  refine kO hK (AtS.ext (by assumption) hx3) (fun h9H=>?_);clear hK K;have hcm:=zao w3 (U #[O ya ym yc,V ys,O ya2 ym2 yc2]) (U #[O a3 m3 c3,V s3,O b3 n3 k3]) x ((bx:Int):Rat) (hyd.ext hx3) hr3 (Hb.out.mono (by decide)) (Rbx.mono (by decide));rw [HT.out]at hcm;have Hcm:=hd9 hcm;clear hcm;refine cl1 (i:=4) fun K hK=>?_
  go_simp
  (with_reducible refine cM Hcm.out ?_)
  rintro e w4 ⟨rfl,hx4⟩
  skip
  go_wp2_with fail
  refine kO hK (AtS.ext (by assumption) hx4) (fun h9H=>?_);clear hK K;refine take1 (i:=5) (oi:=?oix4) ?hix4 ?hx4
  case hix4=>(simp only [gA,gS,gZ];rfl)
  refine⟨?_,by kernel_rfl,by kernel_rfl,by kernel_rfl,fun _ _ _ h=>h,Or.inl ⟨by rfl,?_⟩,by assumption,?_⟩;rotate_left 1
  ·(intro w hSw;rcases hSw with ⟨s0,s1,s2,s3,s4,s5,s6⟩;go_simp;try(with_reducible rfl))
  (try simp only [Act.put,sA,sZ,sS])
  refine wpAnyH_done (by kernel_rfl) ?_ _;have X4:Ext W w4:=((eR W).drew.trans hx3).trans hx4;have hS4:=HS0.out.ext X4;have hO4:=h4.ext X4;have hB4:w.heap.size+1+1+1≤w4.heap.size:=nT h2 X4.size
  by_cases hT0:T≤0
  ·have hle:xLe x ((ax,az),bx,bz)=true:=by unfold xLe;rw [HT.out];simpa using hT0
   have HLe:=hd9 hle;have HX4:=hd9 X4;have HO4:=hd9 hO4;have hy4:IsR w4.drew (U #[O ya ym yc,V ys,O ya2 ym2 yc2]) x:=hyx.ext X4.drew;have Hy4:=hd9 hy4;clear hle X4 hO4 hy4 h9H hyd;unfold NQ
   gi_wp2
   refine zap (S:=AtS w.heap.size B ya ym yc ys ya2 ym2 yc2 ax az bx bz) (by kernel_rfl) (by kernel_rfl) (hS4.ext (eR w4).drew) (fun h9H=>?_);have d1:Bd 1000000 (bz-az)∧Bd 1000000 (bx-ax):=⟨(bB4.sub bB2).mono (by decide),(bB3.sub bB1).mono (by decide)⟩;have g1:IntKind.i64.wrap (bz-az)=bz-az:=iW _ ⟨by unfold Bd at d1;omega,by unfold Bd at d1;omega⟩;have g2:IntKind.i64.wrap (bx-ax)=bx-ax:=iW _ ⟨by unfold Bd at d1;omega,by unfold Bd at d1;omega⟩;have Q1:=zaL (k:=104000) (n:=ax) bB1;have Q2:=zaL (k:=104000) (n:=az) bB2;have Q3:Rb 1 ((bz-az:Int):Rat):=zaL d1.1;have Q4:Rb 1 ((bx-ax:Int):Rat):=zaL d1.2;have Q5:=Hb.out.sub (Q1.mono (k:=1000) (by decide));have Q6:=Q5.mul Q3;have Q7:=Q6.div Q4 (by decide);have HQ1:=hd9 Q1;have HQ2:=hd9 Q2;have HQ3:=hd9 Q3;have HQ4:=hd9 Q4;have HQ5:=hd9 Q5;have HQ6:=hd9 Q6;have HQ7:=hd9 Q7;have Ha:=hd9 (fun W=>zaI W az (by unfold Bd at bB2;omega) (by unfold Bd at bB2;omega));have Hc:=hd9 (fun W=>zaI W ax (by unfold Bd at bB1;omega) (by unfold Bd at bB1;omega));have Hd:=hd9 (fun W=>zaI W (bz-az) (by unfold Bd at d1;omega) (by unfold Bd at d1;omega));have He:=hd9 (fun W=>zaI W (bx-ax) (by unfold Bd at d1;omega) (by unfold Bd at d1;omega));clear Q1 Q2 Q3 Q4 Q5 Q6 Q7 Rbx;refine take1 (i:=0) (oi:=?oix5) ?hix5 ?hx5
   case hix5=>(simp only [gA,gS,gZ];rfl)
   refine⟨?_,by kernel_rfl,by kernel_rfl,by kernel_rfl,fun _ _ _ h=>h,Or.inl ⟨by rfl,?_⟩,by assumption,?_⟩;rotate_left 1
   ·(intro w hSw;rcases hSw with ⟨s0,s1,s2,s3,s4,s5,s6⟩;go_simp;try(with_reducible rfl))
   (try simp only [Act.put,sA,sZ,sS])
   refine take1 (i:=1) (oi:=?oix6) ?hix6 ?hx6
   case hix6=>(simp only [gA,gS,gZ];rfl)
   refine⟨?_,by kernel_rfl,by kernel_rfl,by kernel_rfl,fun _ _ _ h=>h,Or.inl ⟨by rfl,?_⟩,by assumption,?_⟩;rotate_left 1
   ·(intro w hSw;rcases hSw with ⟨s0,s1,s2,s3,s4,s5,s6⟩;go_simp;try(with_reducible rfl))
   (try simp only [Act.put,sA,sZ,sS])
   refine take1 (i:=3) (oi:=?oix7) ?hix7 ?hx7
   case hix7=>(simp only [gA,gS,gZ];rfl)
   refine⟨?_,by kernel_rfl,by kernel_rfl,by kernel_rfl,fun _ _ _ h=>h,Or.inl ⟨by rfl,?_⟩,by assumption,?_⟩;rotate_left 1
   ·(intro w hSw;rcases hSw with ⟨s0,s1,s2,s3,s4,s5,s6⟩;go_simp;try(with_reducible rfl))
   (try simp only [Act.put,sA,sZ,sS])
   refine take1 (i:=4) (oi:=?oix8) ?hix8 ?hx8
   case hix8=>(simp only [gA,gS,gZ];rfl)
   refine⟨?_,by kernel_rfl,by kernel_rfl,by kernel_rfl,fun _ _ _ h=>h,Or.inl ⟨by rfl,?_⟩,by assumption,?_⟩;rotate_left 1
   ·(intro w hSw;rcases hSw with ⟨s0,s1,s2,s3,s4,s5,s6⟩;go_simp;try(with_reducible rfl))
   (try simp only [Act.put,sA,sZ,sS])
   refine take1 (i:=5) (oi:=?oix9) ?hix9 ?hx9
   case hix9=>(simp only [gA,gS,gZ];rfl)
   refine⟨?_,by kernel_rfl,by kernel_rfl,by kernel_rfl,fun _ _ _ h=>h,Or.inl ⟨by rfl,?_⟩,by assumption,?_⟩;rotate_left 1
   ·(intro w hSw;rcases hSw with ⟨s0,s1,s2,s3,s4,s5,s6⟩;go_simp;try(with_reducible rfl))
   (try simp only [Act.put,sA,sZ,sS])
   refine take1 (i:=8) (oi:=?oix10) ?hix10 ?hx10
   case hix10=>(simp only [gA,gS,gZ];rfl)
   refine⟨?_,by kernel_rfl,by kernel_rfl,by kernel_rfl,fun _ _ _ h=>h,Or.inl ⟨by rfl,?_⟩,by assumption,?_⟩;rotate_left 1
   ·(intro w hSw;rcases hSw with ⟨s0,s1,s2,s3,s4,s5,s6⟩;go_simp;try(with_reducible rfl))
   (try simp only [Act.put,sA,sZ,sS])
   refine take1 (i:=9) (oi:=?oix11) ?hix11 ?hx11
   case hix11=>(simp only [gA,gS,gZ];rfl)
   refine⟨?_,by kernel_rfl,by kernel_rfl,by kernel_rfl,fun _ _ _ h=>h,Or.inl ⟨by rfl,?_⟩,by assumption,?_⟩;rotate_left 1
   ·(intro w hSw;rcases hSw with ⟨s0,s1,s2,s3,s4,s5,s6⟩;go_simp;try(with_reducible rfl))
   (try simp only [Act.put,sA,sZ,sS])
   refine take1 (i:=10) (oi:=?oix12) ?hix12 ?hx12
   case hix12=>(simp only [gA,gS,gZ];rfl)
   refine⟨?_,by kernel_rfl,by kernel_rfl,by kernel_rfl,fun _ _ _ h=>h,Or.inl ⟨by rfl,?_⟩,by assumption,?_⟩;rotate_left 1
   ·(intro w hSw;rcases hSw with ⟨s0,s1,s2,s3,s4,s5,s6⟩;go_simp;try(with_reducible rfl))
   (try simp only [Act.put,sA,sZ,sS])
   refine take1 (i:=11) (oi:=?oix13) ?hix13 ?hx13
   case hix13=>(simp only [gA,gS,gZ];rfl)
   refine⟨?_,by kernel_rfl,by kernel_rfl,by kernel_rfl,fun _ _ _ h=>h,Or.inl ⟨by rfl,?_⟩,by assumption,?_⟩;rotate_left 1
   ·(intro w hSw;rcases hSw with ⟨s0,s1,s2,s3,s4,s5,s6⟩;go_simp;try(with_reducible rfl))
   (try simp only [Act.put,sA,sZ,sS])
   refine take1 (i:=12) (oi:=?oix14) ?hix14 ?hx14
   case hix14=>(simp only [gA,gS,gZ];rfl)
   refine⟨?_,by kernel_rfl,by kernel_rfl,by kernel_rfl,fun _ _ _ h=>h,Or.inl ⟨by rfl,?_⟩,by assumption,?_⟩;rotate_left 1
   ·(intro w hSw;rcases hSw with ⟨s0,s1,s2,s3,s4,s5,s6⟩;go_simp;try(with_reducible rfl))
   (try simp only [Act.put,sA,sZ,sS])
   refine take1 (i:=15) (oi:=?oix15) ?hix15 ?hx15
   case hix15=>(simp only [gA,gS,gZ];rfl)
   refine⟨?_,by kernel_rfl,by kernel_rfl,by kernel_rfl,fun _ _ _ h=>h,Or.inl ⟨by rfl,?_⟩,by assumption,?_⟩;rotate_left 1
   ·(intro w hSw;rcases hSw with ⟨s0,s1,s2,s3,s4,s5,s6⟩;go_simp;try(with_reducible rfl))
   (try simp only [Act.put,sA,sZ,sS])
   refine take1 (i:=16) (oi:=?oix16) ?hix16 ?hx16
   case hix16=>(simp only [gA,gS,gZ];rfl)
   refine⟨?_,by kernel_rfl,by kernel_rfl,by kernel_rfl,fun _ _ _ h=>h,Or.inl ⟨by rfl,?_⟩,by assumption,?_⟩;rotate_left 1
   ·(intro w hSw;rcases hSw with ⟨s0,s1,s2,s3,s4,s5,s6⟩;go_simp;try(with_reducible rfl))
   (try simp only [Act.put,sA,sZ,sS])
   refine take1 (i:=17) (oi:=?oix17) ?hix17 ?hx17
   case hix17=>(simp only [gA,gS,gZ];rfl)
   refine⟨?_,by kernel_rfl,by kernel_rfl,by kernel_rfl,fun _ _ _ h=>h,Or.inl ⟨by rfl,?_⟩,by assumption,?_⟩;rotate_left 1
   ·(intro w hSw;rcases hSw with ⟨s0,s1,s2,s3,s4,s5,s6⟩;go_simp;try(with_reducible rfl))
   (try simp only [Act.put,sA,sZ,sS])
   refine take1 (i:=18) (oi:=?oix18) ?hix18 ?hx18
   case hix18=>(simp only [gA,gS,gZ];rfl)
   refine⟨?_,by kernel_rfl,by kernel_rfl,by kernel_rfl,fun _ _ _ h=>h,Or.inl ⟨by rfl,?_⟩,by assumption,?_⟩;rotate_left 1
   ·(intro w hSw;rcases hSw with ⟨s0,s1,s2,s3,s4,s5,s6⟩;go_simp;try(with_reducible rfl))
   (try simp only [Act.put,sA,sZ,sS])
   refine take1 (i:=19) (oi:=?oix19) ?hix19 ?hx19
   case hix19=>(simp only [gA,gS,gZ];rfl)
   refine⟨?_,by kernel_rfl,by kernel_rfl,by kernel_rfl,fun _ _ _ h=>h,Or.inl ⟨by rfl,?_⟩,by assumption,?_⟩;rotate_left 1
   ·(intro w hSw;rcases hSw with ⟨s0,s1,s2,s3,s4,s5,s6⟩;go_simp;try(with_reducible rfl))
   (try simp only [Act.put,sA,sZ,sS])
   refine cl1 (i:=2) fun K hK=>?_
   go_simp
   (with_reducible refine cM (Ha.out _) ?_)
   rintro e w12 ⟨u12,rfl,hq12,hy12⟩;obtain⟨a12,m12,c12,s12,b12,n12,k12,rfl⟩:=hq12.form
   go_wp2_with fail
   refine kO hK (AtS.ext (by assumption) hy12) (fun h9H=>?_);clear hK K;refine cl1 (i:=6) fun K hK=>?_
   go_simp
   (with_reducible refine cM (Hc.out _) ?_)
   rintro e w16 ⟨u16,rfl,hq16,hy16⟩;obtain⟨a16,m16,c16,s16,b16,n16,k16,rfl⟩:=hq16.form
   go_wp2_with fail
   refine kO hK (AtS.ext (by assumption) hy16) (fun h9H=>?_);clear hK K;have K7:=hd9 (zaC w16 (U #[O ya ym yc,V ys,O ya2 ym2 yc2]) (U #[O a16 m16 c16,V s16,O b16 n16 k16]) x ((ax:Int):Rat) (Hy4.out.ext (hy12.trans hy16)) hq16 (Hb.out.mono (by decide)) (HQ1.out.mono (by decide)));refine cl1 (i:=7) fun K hK=>?_
   go_simp
   (with_reducible refine cM K7.out ?_)
   rintro e w17 ⟨u17,rfl,hq17,hy17⟩;obtain⟨a17,m17,c17,s17,b17,n17,k17,rfl⟩:=hq17.form
   go_wp2_with fail
   refine kO hK (AtS.ext (by assumption) hy17) (fun h9H=>?_);clear hK K;refine cl1 (i:=13) fun K hK=>?_
   go_simp
   (with_reducible refine cM (Hd.out _) ?_)
   rintro e w23 ⟨u23,rfl,hq23,hy23⟩;obtain⟨a23,m23,c23,s23,b23,n23,k23,rfl⟩:=hq23.form
   go_wp2_with fail
   refine kO hK (AtS.ext (by assumption) hy23) (fun h9H=>?_);clear hK K;have K14:=hd9 (zcd w23 (U #[O a17 m17 c17,V s17,O b17 n17 k17]) (U #[O a23 m23 c23,V s23,O b23 n23 k23]) (x-((ax:Int):Rat)) ((bz-az:Int):Rat) (hq17.ext hy23) hq23 (HQ5.out.mono (by decide)) (HQ3.out.mono (by decide)));refine cl1 (i:=14) fun K hK=>?_
   go_simp
   (with_reducible refine cM K14.out ?_)
   rintro e w24 ⟨u24,rfl,hq24,hy24⟩;obtain⟨a24,m24,c24,s24,b24,n24,k24,rfl⟩:=hq24.form
   go_wp2_with fail
   refine kO hK (AtS.ext (by assumption) hy24) (fun h9H=>?_);clear hK K;refine cl1 (i:=20) fun K hK=>?_
   go_simp
   (with_reducible refine cM (He.out _) ?_)
   rintro e w30 ⟨u30,rfl,hq30,hy30⟩;obtain⟨a30,m30,c30,s30,b30,n30,k30,rfl⟩:=hq30.form
   go_wp2_with fail
   refine kO hK (AtS.ext (by assumption) hy30) (fun h9H=>?_);clear hK K;have K21:=hd9 (zcB w30 (U #[O a24 m24 c24,V s24,O b24 n24 k24]) (U #[O a30 m30 c30,V s30,O b30 n30 k30]) ((x-((ax:Int):Rat))*((bz-az:Int):Rat)) ((bx-ax:Int):Rat) (hq24.ext hy30) hq30 (HQ6.out.mono (by decide)) (HQ4.out.mono (by decide)));refine cl1 (i:=21) fun K hK=>?_
   go_simp
   (with_reducible refine cM K21.out ?_)
   rintro e w31 ⟨u31,rfl,hq31,hy31⟩;obtain⟨a31,m31,c31,s31,b31,n31,k31,rfl⟩:=hq31.form
   go_wp2_with fail
   refine kO hK (AtS.ext (by assumption) hy31) (fun h9H=>?_);clear hK K;have K22:=hd9 (zbs w31 (U #[O a12 m12 c12,V s12,O b12 n12 k12]) (U #[O a31 m31 c31,V s31,O b31 n31 k31]) ((az:Int):Rat) (((x-((ax:Int):Rat))*((bz-az:Int):Rat)) / ((bx-ax:Int):Rat)) (hq12.ext (((((hy16.trans hy17).trans hy23).trans hy24).trans hy30).trans hy31)) hq31 (HQ2.out.mono (by decide)) (HQ7.out.mono (by decide)));refine cl1 (i:=22) fun K hK=>?_
   go_simp
   (with_reducible refine cM K22.out ?_)
   rintro e w32 ⟨u32,rfl,hq32,hy32⟩;obtain⟨a32,m32,c32,s32,b32,n32,k32,rfl⟩:=hq32.form
   go_wp2_with fail
   refine kO hK (AtS.ext (by assumption) hy32) (fun h9H=>?_);clear hK K;have Y32:Ext w4.drew w32:=((((((hy12.trans hy16).trans hy17).trans hy23).trans hy24).trans hy30).trans hy31).trans hy32;have hO9:=HO4.out.ext ((eR w4).drew.trans Y32);obtain⟨_,_,_,_,_,_,_,o0,o1,o2,of0,of1,of2,zo,_⟩:=hO9.rd;have HO9:=hd9 hO9;clear hO9;have hns:¬w.heap.size+1=w.heap.size:=by omega
   have hnB:¬w.heap.size+1=B∧¬w.heap.size+1=B+1:=⟨by omega,by omega⟩;have hat:atE x ((ax,az),bx,bz)=((az:Int):Rat)+((x-((ax:Int):Rat))*((bz-az:Int):Rat)) / ((bx-ax:Int):Rat):=rfl;have Hat:=hd9 hat;clear hat;refine cl1 (i:=23) fun K hK=>?_
   go_simp;refine kO hK ((((show AtS w.heap.size B ya ym yc ys ya2 ym2 yc2 ax az bx bz w32 by assumption).set (by dsimp only;omega) (by dsimp only;omega) (by dsimp only;omega) _).set (by dsimp only;omega) (by dsimp only;omega) (by dsimp only;omega) _).set (by dsimp only;omega) (by dsimp only;omega) (by dsimp only;omega) _) (fun _=>?_);clear hK K;refine wpAnyH_done (by kernel_rfl) ?_ _;unfold NQ
   gi_wp2
   have X9:Ext W w32:=HX4.out.trans ((eR w4).drew.trans Y32);refine⟨(((zaw X9).trans ((KeepsOthers.setCell _ _ _).from _)).trans ((KeepsOthers.setCell _ _ _).from _)).trans ((KeepsOthers.setCell _ _ _).from _),rfl,(((h1.trans X9).set (by dsimp only;omega) _).set (by dsimp only;omega) _).set (by dsimp only;omega) _,by simp only [qcZ];exact nT h2 X9.size,pre,_,rfl,h5,HLe.out,?_⟩;dsimp only;rw [Hat.out];exact HO9.out.put hq32
  ·have hle:xLe x ((ax,az),bx,bz)=false:=by unfold xLe;rw [HT.out];simpa using hT0
   have hT1:0<T:=by omega
   have HLe:=hd9 hle;clear hle;unfold NQ
   gi_wp2
   refine⟨zaw X4,(KpW.refl w _ W).ext X4 h1.size (by omega),h1.trans X4,nT h2 X4.size,h3.ext X4,hO4,fun e he=>?_⟩
   rcases List.mem_append.1 he with he|he
   ·exact h5 e he
   ·rw [List.mem_singleton.1 he];exact HLe.out
 case done =>
  rintro D ys W hD rfl ⟨h1,h2,h3,h4,h5⟩ hK;obtain⟨m,rfl⟩:∃m,n=m+1:=⟨n-1,by have:=List.length_pos_iff.2 Hok.out.1;rw [Hn.out]at this;omega⟩;obtain⟨⟨qx,qz⟩,hq⟩:∃q,ps[m]?=I q:=⟨ps[m]'(by rw [Hn.out];omega),by simp⟩;obtain⟨b,o,rfl,hb,d0,d1⟩:=(h.ext' h1).at' hq;have hR:atR ps x=((qz:Int):Rat):=zkq Hes.out h5 (q:=(qx,qz)) (by rw [Hn.out];exact hq);have hqb:=Hok.out.2.1 (qx,qz) (lM hq);have hof:=fun W=>zaI W qz (by unfold Bd at hqb;dsimp only at hqb;omega) (by unfold Bd at hqb;dsimp only at hqb;omega)
  have hle:=h.le;have hmx:m+1≤9223372036854775807:=by rw [Hn.out]at hle;unfold maxLen at hle;omega
  have Hof:=hd9 hof;have HRR:=hd9 hR;have p1:(0:Int)≤(m:Int):=by omega
  have p2:(m:Int)<((m+1:Nat):Int):=by omega
  have u1:((m+1:Nat):Int)-1=(m:Int):=by omega
  have zD:D<W.heap.size:=zaa hK;clear hof hR hq hqb hle
  gi_wp2_with(refine⟨trivial,?_⟩;gi_at_call 59;(with_reducible refine(callsIn_wide.2 (Hof.out _)).mono ?_);rintro e w2 ⟨r2,rfl,hr2,hx2⟩;obtain⟨a2,m2,c2,s2,b2,n2,k2,rfl⟩:=hr2.form;have hO2:=h4.ext hx2;obtain⟨_,_,_,_,_,_,_,o0,o1,o2,of0,of1,of2,zo,_⟩:=hO2.rd;have hK2:=hx2.heapS hK)
  have hP:=hO2.put hr2;have hDn:¬D=w.heap.size+1:=by omega
  have hK3:(((w2.setCell ⟨w.heap.size+1,0,Y⟩ (O a2 m2 c2)).setCell ⟨w.heap.size+1,1,Y⟩ (V s2)).setCell ⟨w.heap.size+1,2,Y⟩ (O b2 n2 k2)).heap[D]?=I (.deferred (I [])):=by
   rw [bS _ _ _ _ (by dsimp only;omega),bS _ _ _ _ (by dsimp only;omega),bS _ _ _ _ (by dsimp only;omega)];exact hK2
  have hX9:Ext w (((w2.setCell ⟨w.heap.size+1,0,Y⟩ (O a2 m2 c2)).setCell ⟨w.heap.size+1,1,Y⟩ (V s2)).setCell ⟨w.heap.size+1,2,Y⟩ (O b2 n2 k2)):=
   (((h1.trans hx2).set (by dsimp only;omega) _).set (by dsimp only;omega) _).set (by dsimp only;omega) _
  have hS9:=zgA hK3 (.deferred Y);have hP9:=hP.sim hS9;obtain⟨pa,pm,pc9,ps9,pa2,pm2,pc2,w0',w1',w2',_,_,_,_,hz⟩:=hP9.rd;refine⟨by simp,.inl ⟨_,_,rfl,run_takeDeferred hK3,?_⟩⟩;refine⟨U #[O pa pm pc9,V ps9,O pa2 pm2 pc2],by simp [results,Tryz.results62,go_sem,w0',w1',w2'],?_⟩;rw [HRR.out];exact⟨_,rfl,hz,hS9.ext hX9 (by omega)⟩
 case stop =>
  rintro D c pre W hD hpre ⟨rfl,h1,h2,p',e,rfl,h4,h5,h6⟩ hK;have hR:=zmO Hes.out hpre h4 h5;have HRR:=hd9 hR;clear hR
  gi_wp2
  have hS9:=zgA hK (.deferred Y);have hP9:=h6.sim hS9;obtain⟨pa,pm,pc9,ps9,pa2,pm2,pc2,w0',w1',w2',_,_,_,_,hz⟩:=hP9.rd;refine⟨by simp,.inl ⟨_,_,rfl,run_takeDeferred hK,?_⟩⟩;refine⟨U #[O pa pm pc9,V ps9,O pa2 pm2 pc2],by simp [results,Tryz.results62,go_sem,w0',w1',w2'],?_⟩;rw [HRR.out];exact⟨_,rfl,hz,hS9.ext h1 (by omega)⟩
end
section
open Go.RowKit Go.Shelf
def CellL:List (Oa×C)→Z→Prop
 | [],_=>True
 | (a,v)::r,W=>W.cell? a=I v∧CellL r W
theorem CellL.ext:∀{L:List (Oa×C)} {W W':Z},CellL L W→Ext W W'→CellL L W'
 | [],_,_,_,_=>trivial
 | _::_,_,_,⟨h1,h2⟩,k=>⟨k.cellS h1,h2.ext k⟩
theorem cE {L:List (Oa×C)} {W W':Z} (h:CellL L W) (k:Ext W W'):CellL L W':=h.ext k
theorem cA {L:List (Oa×C)} {W:Z} (h:CellL L W:=by(repeat(first|exact trivial|refine⟨by go_simp,?_⟩))):CellL L W:=h
theorem CellL.set:∀{L:List (Oa×C)} {W:Z} {p:Oa},CellL L W→(∀q∈L,p.block≠q.1.block)→∀u,CellL L (W.setCell p u)
 | [],_,_,_,_,_=>trivial
 | (a,v)::r,W,p,⟨h1,h2⟩,hn,u=>⟨by rw [World.cell?_setCell_far _ _ _ _ (hn (a,v) (by simp))];exact h1,h2.set (fun q hq=>hn q (mC _ hq)) u⟩
theorem CellL.set3 {L:List (Oa×C)} {W:Z} {b:Nat} (h:CellL L W) (hn:∀q∈L,b≠q.1.block) (u v t:C):CellL L (((W.setCell ⟨b,0,Y⟩ u).setCell ⟨b,1,Y⟩ v).setCell ⟨b,2,Y⟩ t):=
 ((h.set hn u).set hn v).set hn t
theorem CellL.nil (W:Z):CellL [] W:=trivial
structure Sp where
 over:List (Int×Int)
 under:List (Int×Int)
 lo:Int
 hi:Int
def gapR (s:Sp) (x:Rat):Rat:=atR s.over x-atR s.under x
theorem zl9 (w:Z) (s:Sp) (v1 v2 vx:C) (x:Rat) (h1:IsPts w v1 s.over) (h2:IsPts w v2 s.under) (k1:LnOk s.over) (k2:LnOk s.under) (hx:IsR w vx x) (hb:Rb 1000 x) (hb1:Rb limR (atR s.over x)) (hb2:Rb limR (atR s.under x)) :
  Calls Tryz.prog 105 #[U #[v1,v2,N M s.lo,N M s.hi],vx] w (RetR w (gapR s x)):=by
 obtain⟨a1,m1,rfl⟩:=h1.form;obtain⟨a2,m2,rfl⟩:=h2.form;obtain⟨xa,xm,xc,xs,xa2,xm2,xc2,rfl⟩:=hx.form;obtain⟨n1,hn1⟩:=gX s.over.length;obtain⟨n2,hn2⟩:=gX s.under.length;rw [hn1]at h1 ⊢;rw [hn2]at h2 ⊢;obtain⟨lo,hlo⟩:=gX s.lo;obtain⟨hi,hhi⟩:=gX s.hi;rw [hlo,hhi];have H1:=hd9 (fun(W:Z) (hW:Ext w W)=>zdL W _ _ s.over x (h1.ext' hW) k1 (hx.ext hW) hb);have H2:=hd9 (fun(W:Z) (hW:Ext w W)=>zdL W _ _ s.under x (h2.ext' hW) k2 (hx.ext hW) hb);have Hb1:=hd9 hb1;have Hb2:=hd9 hb2;clear hb1 hb2 hb hn1 hn2 hlo hhi k1 k2 h1 h2;go_enter Tryz.func105,Tryz.ntmps105;go_wp2;refine wp_region_held_drew (S:=CellL [(⟨w.heap.size,0,Y⟩,O a1 n1 m1),(⟨w.heap.size,1,Y⟩,O a2 n2 m2),(⟨w.heap.size+1,0,Y⟩,O xa xm xc),(⟨w.heap.size+1,1,Y⟩,V xs),(⟨w.heap.size+1,2,Y⟩,O xa2 xm2 xc2)]) (by kernel_rfl) (by refine⟨?_,?_,?_,?_,?_,trivial⟩<;>go_simp) (fun h9H=>?_);refine sN 0 ?_
 iterate 3
  refine tkn ?_
 refine oN ?_;refine sN 4 ?_
 iterate 3
  refine tkn ?_
 refine oN ?_;refine cl1 (i:=3) fun K hK=>?_
 go_simp
 (with_reducible refine cM (H1.out _ eA) ?_)
 rintro e w3 ⟨r3,rfl,hr3,hx3⟩;obtain⟨a3,m3,c3,s3,b3,n3,k3,rfl⟩:=hr3.form
 go_wp2_with fail
 refine kO hK (cE h9H hx3) (fun h9H=>?_);clear hK K;have X3:Ext w w3:=eA;refine cl1 (i:=7) fun K hK=>?_
 go_simp
 (with_reducible refine cM (H2.out _ X3) ?_)
 rintro e w4 ⟨r4,rfl,hr4,hx4⟩;obtain⟨a4,m4,c4,s4,b4,n4,k4,rfl⟩:=hr4.form
 go_wp2_with fail
 refine kO hK (cE h9H hx4) (fun h9H=>?_);clear hK K;have K5:=hd9 (zaC w4 _ _ _ _ (hr3.ext hx4) hr4 Hb1.out Hb2.out);refine cl1 (i:=8) fun K hK=>?_
 go_simp
 (with_reducible refine cM K5.out ?_)
 rintro e w5 ⟨r5,rfl,hr5,hx5⟩;obtain⟨a5,m5,c5,s5,b5,n5,k5,rfl⟩:=hr5.form
 go_wp2_with fail
 refine kO hK (cE h9H hx5) (fun h9H=>?_);clear hK K;have hO:RB w5 (w.heap.size+1+1) 0:=(((RB.new (IsR.zero _) (by simp)).ext ((eR _).drew.trans hx3)).ext hx4).ext hx5;obtain⟨_,_,_,_,_,_,_,o0,o1,o2,of0,of1,of2,zo,_⟩:=hO.rd
 have hnb:∀q∈[((⟨w.heap.size,0,Y⟩:Oa),Value.slice a1 n1 m1),(⟨w.heap.size,1,Y⟩,O a2 n2 m2),(⟨w.heap.size+1,0,Y⟩,O xa xm xc),(⟨w.heap.size+1,1,Y⟩,V xs),(⟨w.heap.size+1,2,Y⟩,O xa2 xm2 xc2)],w.heap.size+1+1≠q.1.block:=by
  intro q hq;simp at hq
  rcases hq with rfl|rfl|rfl|rfl|rfl<;>(dsimp only;omega)
 refine cl1 (i:=9) fun K hK=>?_
 go_simp;refine kO hK (CellL.set3 (by assumption) hnb _ _ _) (fun h9H=>?_);clear hK K;refine wpAnyH_done (by kernel_rfl) ?_ _;go_wp2;have hP:=hO.put hr5;obtain⟨pa,pm,pc9,ps9,pa2,pm2,pc2,w0',w1',w2',_,_,_,_,hz⟩:=hP.rd;exact bR (v:=U #[O pa pm pc9,V ps9,O pa2 pm2 pc2]) (by simp [results,Tryz.results105,go_sem,w0',w1',w2']) rfl ⟨_,rfl,hz,((((X3.trans hx4).trans hx5).set (by dsimp only;omega) _).set (by dsimp only;omega) _).set (by dsimp only;omega) _⟩
end
section
open Go.RowKit Go.Shelf Go.Sort Go.Lib
def ic (z:Int):List C:=[N M z]
theorem zmf:(Tryz.prog.info? 3).map (fun i=>(i.zero,i.size,i.bytes))=I (I (N M 0),1,8):=by kernel_rfl
theorem zi7 {zs:List Int}:∀c∈zs.map ic,c.length=1:=by
 intro c hc;obtain⟨z,_,rfl⟩:=List.mem_map.1 hc;rfl
theorem zeZ (zs:List Int):(zs.map ic).flatten=zs.map (Value.int M):=by
 induction zs with
 | nil=>rfl
 | cons z zs ih=>simp [ic,ih]
theorem zmU {zs:List Int}:∀u∈(zs.map ic).flatten,u.oneCell'=true:=by
 intro u hu;rw [zeZ]at hu;obtain⟨z,_,rfl⟩:=List.mem_map.1 hu;rfl
theorem OwnC.ints {w:Z} {base g n c:Nat} {zs:List Int} (h:OwnC 3 1 w base (O (I ⟨g,0,Y⟩) n c) (zs.map ic)) :
  base≤g∧g<w.heap.size∧n=zs.length∧zs.length≤c∧c≤maxLen∧Holds (Value.int M) w g 0 zs.toArray∧∃cur,w.heap[g]?=I (H cur 3 (0,0))∧cur.size=c*1∧cur.toList.take zs.length=zs.map (Value.int M):=by
 rcases h.2.2 with ⟨h1,_⟩|⟨g',cap',cur,hv,hg,hh,hnc,hcm,hcs,htk⟩
 ·cases h1
 ·cases hv
  rw [zeZ,lL,Nat.mul_one]at htk;rw [lL]at hnc;exact⟨hg,zaa hh,lL ..,hnc,hcm,holds_of_blockI hh htk,cur,hh,hcs,htk⟩
def isort (zs:List Int):List Int:=zs.mergeSort fun x y=>decide (x≤y)
theorem zbS (zs:List Int):(isort zs).length=zs.length:=List.length_mergeSort _
theorem isort_mem {zs:List Int} {z:Int}:z∈isort zs ↔ z∈zs:=List.mem_mergeSort
theorem zjc (w:Z) (base g n c:Nat) (zs:List Int) (h:OwnC 3 1 w base (O (I ⟨g,0,Y⟩) n c) (zs.map ic)) (hs:zs.length≤1000000000) :
  Calls Tryz.prog 119 #[O (I ⟨g,0,Y⟩) n c] w fun e w'=>e = .returned (.tuple #[])∧OwnC 3 1 w' base (O (I ⟨g,0,Y⟩) n c) ((isort zs).map ic)∧w.grownBy w' (I g):=by
 obtain⟨h1,h2,rfl,h3,h4,h5,cur,h6,h7,h8⟩:=h.ints;refine(Tryz.slices_Sort_int g 0 c zs w h5 h2 (by omega)).mono ?_;rintro e w' ⟨rfl,n,os,rfl⟩;refine⟨rfl,⟨zi7,?_⟩,grownBy_sortedI _⟩;have:=ownsRow_sortedI (base:=base) (n:=n) (os:=os) (ss:=zs) (ts:=isort zs) (zbS zs) h1 h6 h3 h4 h7;rw [zeZ,lL,zbS];exact this
theorem zda (zs:List Int):(compact zs).length≤zs.length:=by
 unfold compact compactUpTo;rw [lL];exact nT (List.length_filter_le _ _) (by simp)
theorem zdb {zs:List Int} {z:Int} (h:z∈compact zs):z∈zs:=by
 unfold compact compactUpTo at h;obtain⟨i,hi,rfl⟩:=List.mem_map.1 h;have:=List.mem_range.1 (List.mem_filter.1 hi).1;rw [getElem!_pos _ _ (by simpa using this)];simp
theorem zhI {zs:List Int} (h:zs≠[]):compact zs≠[]:=by
 obtain⟨z,r,rfl⟩:=List.exists_cons_of_ne_nil h;intro h1;unfold compact compactUpTo at h1;have h2:=List.map_eq_nil_iff.1 h1;have h3:=(List.filter_eq_nil_iff.1 h2) 0 (by simp);simp [keeps]at h3
theorem zfA (w:Z) (base g n c:Nat) (zs:List Int) (h:OwnC 3 1 w base (O (I ⟨g,0,Y⟩) n c) (zs.map ic)) (hs:zs.length≤1000000000) :
  Calls Tryz.prog 120 #[O (I ⟨g,0,Y⟩) n c] w fun e w'=>e = .returned (O (I ⟨g,0,Y⟩) (compact zs).length c)∧OwnC 3 1 w' base (O (I ⟨g,0,Y⟩) (compact zs).length c) ((compact zs).map ic)∧w.grownBy w' (I g):=by
 obtain⟨h1,h2,rfl,h3,h4,h5,cur,h6,h7,h8⟩:=h.ints;refine(Tryz.slices_Compact_int g 0 c zs w h5 (by omega) h3).mono ?_;rintro e w' ⟨rfl,q,rfl⟩;have hl:=zda zs
 have hg:∀d,w.grownBy (putRow (Value.int M) (Sort.ahead w q) g 0 d) (I g):=fun d=>by
  have:=grownBy_sortedI (w:=w) (g:=g) (n:=q) (os:=#[]) d
  rwa [grow_empty]at this
 refine⟨rfl,⟨zi7,?_⟩,hg _⟩;rw [zeZ,lL];refine⟨by simp,.inr ⟨g,c,putCells (Value.int M) 0 (compact zs++List.replicate (zs.length-(compact zs).length) 0).toArray cur,rfl,h1,?_,by omega,h4,?_,?_⟩⟩
 ·have:=heap_sortedI (n:=q) (os:=#[]) (compact zs++List.replicate (zs.length-(compact zs).length) 0).toArray h6
  rwa [grow_empty]at this
 ·simp [putCells,h7]
 ·have:=take_putCellsI cur (compact zs++List.replicate (zs.length-(compact zs).length) 0) (by simp;omega)
  have h9:=congrArg (List.take (compact zs).length) this;rw [List.take_take,lA,Nat.min_eq_left (by omega),List.map_append,List.take_left' (by simp)]at h9;rw [Nat.mul_one];exact h9
theorem OwnC.keepT {T T':TypeId} {k:Nat} {w w':Z} {base:Nat} {v:C} {cs:List (List C)} (h:OwnC T k w base v cs) (hT:T≠T') (hg:w.grownBy w' v.ownBlock):KeepT T' w w':=fun b ds fr hb=>by
 rw [hg.block b (zaa hb) (fun e=>?_)];exact hb
 rcases h.2.2 with ⟨h1,_⟩|⟨g',cap',cur,hv,hg,hh,hnc,hcm,hcs,htk⟩
 ·rw [h1]at e;cases e
 ·rw [hv]at e
  cases e
  rw [hh]at hb
  cases hb
  exact hT rfl
def OwnR (w:Z) (base:Nat) (v:C) (qs:List Rat):Prop:=∃cs,OwnC 65 3 w base v cs∧cs.length=qs.length∧∀(i:Nat) c q,cs[i]?=I c→qs[i]?=I q→PR w c q
theorem OwnR.rs {w:Z} {base:Nat} {v:C} {qs:List Rat} (h:OwnR w base v qs):IsRs w v qs:=by
 obtain⟨cs,h1,h2,h3⟩:=h;exact h1.sl h2 h3
theorem OwnR.ext {w w':Z} {base:Nat} {v:C} {qs:List Rat} (h:OwnR w base v qs) (k:Ext w w'):OwnR w' base v qs:=by
 obtain⟨cs,h1,h2,h3⟩:=h;exact⟨cs,h1.ext k,h2,fun i c q hc hq=>IsR.ext (h3 i c q hc hq) k⟩
theorem OwnR.mono {w:Z} {base b':Nat} {v:C} {qs:List Rat} (h:OwnR w base v qs) (k:b'≤base):OwnR w b' v qs:=by
 obtain⟨cs,h1,h2,h3⟩:=h;exact⟨cs,h1.mono k,h2,h3⟩
theorem OwnR.nil (w:Z) (base:Nat):OwnR w base (O Y 0 0) []:=⟨[],OwnC.nil _ _ _ _,rfl,fun i c q hc=>by simp at hc⟩
def RetRs (w:Z) (qs:List Rat) (e:Ending) (w':Z):Prop:=∃v,e = .returned v∧OwnR w' w.heap.size v qs∧Ext w w'
theorem zmV:(Tryz.prog.info? 65).map (fun i=>(i.zero,i.size,i.bytes))=I (I (U #[O Y 0 0,V false,O Y 0 0]),3,56):=by kernel_rfl
theorem Rb.atE {x:Rat} {e:Edg} (hx:Rb 1 x) (h:Bd 104000 e.1.1∧Bd 104000 e.1.2∧Bd 104000 e.2.1∧Bd 104000 e.2.2):Rb 11 (Cop.atE x e):=by
 obtain⟨h1,h2,h3,h4⟩:=h;have e1:Bd 208000 (e.2.2-e.1.2):=by unfold Bd at *;omega
 have e2:Bd 208000 (e.2.1-e.1.1):=by unfold Bd at *;omega
 unfold Cop.atE;have a0:=Rb.sub (k:=1) hx (zaL h1);have a1:=Rb.mul (j:=3) (k:=1) a0 (zaL e1);have a2:=Rb.div (j:=4) (k:=1) a1 (zaL e2) (by omega);have a3:=(zaL h2).mono (k:=5) (by omega);have a4:=Rb.add (k:=5) a3 a2;exact a4
theorem Rb.atR {x:Rat} {ps:List (Int×Int)} (hx:Rb 1 x) (h:LnOk ps):Rb 11 (Cop.atR ps x):=by
 unfold Cop.atR
 cases hf:(eds ps).find? (xLe x)with
 | some e=>exact hx.atE (zgU h.2.1 (List.mem_of_find?_eq_some hf))
 | none =>
  have hl:0<ps.length:=by
   rcases Nat.eq_zero_or_pos ps.length with h0|h0
   ·exact absurd (List.eq_nil_of_length_eq_zero h0) h.1
   ·exact h0
  have hm:ps.getD (ps.length-1) (0,0)∈ps:=by
   rw [gD,gE (by omega),Option.getD_some];exact List.getElem_mem _
  exact(zaL (h.2.1 _ hm).2).mono (by omega)
theorem ze7 {ps:List (Int×Int)} (h:LnOk ps):Bd 104000 (lineL ps)∧Bd 104000 (lineR ps):=by
 have hl:0<ps.length:=by
  rcases Nat.eq_zero_or_pos ps.length with h0|h0
  ·exact absurd (List.eq_nil_of_length_eq_zero h0) h.1
  ·exact h0
 have hm:∀i,i<ps.length→ps.getD i (0,0)∈ps:=fun i hi=>by
  rw [gD,gE hi,Option.getD_some];exact List.getElem_mem _
 exact⟨(h.2.1 _ (hm 0 hl)).1,(h.2.1 _ (hm _ (by omega))).1⟩
def btw (ps qs:List (Int×Int)):Sp:=⟨ps,qs,max (lineL ps) (lineL qs),min (lineR ps) (lineR qs)⟩
def spc (s:Sp) (v1 v2:C):C:=U #[v1,v2,N M s.lo,N M s.hi]
def RetBt (w:Z) (v1 v2:C) (s:Sp) (e:Ending) (w':Z):Prop:=e = .returned (.tuple #[spc s v1 v2,V (decide (s.lo<s.hi))])∧Ext w w'
theorem zbi (w:Z) (v1 v2:C) (ps qs:List (Int×Int)) (h1:IsPts w v1 ps) (h2:IsPts w v2 qs) (k1:0<ps.length) (k2:0<qs.length) :
  Calls Tryz.prog 53 #[v1,v2] w (RetBt w v1 v2 (btw ps qs)):=by
 have H1:=hd9 (fun(W:Z) (hW:Ext w W)=>zbr W v1 ps (h1.ext' hW) k1);have H2:=hd9 (fun(W:Z) (hW:Ext w W)=>zbr W v2 qs (h2.ext' hW) k2);have H3:=hd9 (fun(W:Z) (hW:Ext w W)=>zbn W v1 ps (h1.ext' hW) k1);have H4:=hd9 (fun(W:Z) (hW:Ext w W)=>zbn W v2 qs (h2.ext' hW) k2);obtain⟨a1,m1,rfl⟩:=h1.form;obtain⟨a2,m2,rfl⟩:=h2.form;obtain⟨R,hR⟩:=gX (RetBt w (O a1 ps.length m1) (O a2 qs.length m2) (btw ps qs));rw [hR];have HR:=hd9 hR;clear hR;unfold btw at HR;obtain⟨l1,e1⟩:=gX (lineL ps);obtain⟨l2,e2⟩:=gX (lineL qs);obtain⟨r1,e3⟩:=gX (lineR ps);obtain⟨r2,e4⟩:=gX (lineR qs);obtain⟨n1,f1⟩:=gX ps.length;obtain⟨n2,f2⟩:=gX qs.length;rw [e1,e2,e3,e4]at HR;rw [e1]at H1;rw [e2]at H2;rw [e3]at H3;rw [e4]at H4;simp only [f1,f2]at H1 H2 H3 H4 HR h1 h2 ⊢;clear e1 e2 e3 e4 f1 f2 h1 h2 k1 k2;go_enter Tryz.func53,Tryz.ntmps53
 go_wp2_with(first|(go_at_call 60;(with_reducible refine(H1.out _ ?_).mono ?_);exact eA;rintro e w3 ⟨rfl,hx3⟩;obtain⟨hc3,hf3⟩:=hx3.cells)|(go_at_call 60;(with_reducible refine(H2.out _ ?_).mono ?_);exact eA;rintro e w4 ⟨rfl,hx4⟩;obtain⟨hc4,hf4⟩:=hx4.cells)|(go_at_call 61;(with_reducible refine(H3.out _ ?_).mono ?_);exact eA;rintro e w5 ⟨rfl,hx5⟩;obtain⟨hc5,hf5⟩:=hx5.cells)|(go_at_call 61;(with_reducible refine(H4.out _ ?_).mono ?_);exact eA;rintro e w6 ⟨rfl,hx6⟩;obtain⟨hc6,hf6⟩:=hx6.cells))
 obtain⟨lo,elo⟩:=gX (max l1 l2);obtain⟨hi,ehi⟩:=gX (min r1 r2);rw [elo,ehi]at HR ⊢;have hx9:Ext w w6:=(((((eR w).alloc _).trans hx3).trans hx4).trans hx5).trans hx6;have hz9:w.heap.size<w6.heap.size:=by have:=hx3.size;have:=hx4.size;have:=hx5.size;have:=hx6.size;simp only [wZ]at *;omega
 have hO:w6.heap[w.heap.size]?=I (H #[O Y 0 0,O Y 0 0,N M 0,N M 0] 120 (0,0)):=hx6.heapS (hx5.heapS (hx4.heapS (hx3.heapS (aN _ _))));clear hc3 hf3 hc4 hf4 hc5 hf5 hc6 hf6 H1 H2 H3 H4 elo ehi hx3 hx4 hx5 hx6;obtain⟨W,hW⟩:=gX ((w6.alloc (H #[O a1 n1 m1,O a2 n2 m2,N M lo,N M hi] 120)));have hB:W.heap[w6.heap.size]?=I (H #[O a1 n1 m1,O a2 n2 m2,N M lo,N M hi] 120 (0,0)):=by rw [←hW];exact aN _ _
 have hO':W.heap[w.heap.size]?=I (H #[O Y 0 0,O Y 0 0,N M 0,N M 0] 120 (0,0)):=by rw [←hW];exact((eR w6).alloc _).heapS hO
 have hxW:Ext w W:=by rw [←hW];exact hx9.alloc _
 rw [hW];clear hW hO hx9;have b0:=qcB hB (i:=0) (u:=O a1 n1 m1) rfl;have b1:=qcB hB (i:=1) (u:=O a2 n2 m2) rfl;have b2:=qcB hB (i:=2) (u:=N M lo) rfl;have b3:=qcB hB (i:=3) (u:=N M hi) rfl;have f0:=qfB hO' 0;have f1:=qfB hO' 1;have f2:=qfB hO' 2;have f3:=qfB hO' 3;have o0:=qcB hO' (i:=0) (u:=O Y 0 0) rfl;have o1:=qcB hO' (i:=1) (u:=O Y 0 0) rfl;have o2:=qcB hO' (i:=2) (u:=N M 0) rfl;have o3:=qcB hO' (i:=3) (u:=N M 0) rfl;have HB:=hd9 hB;clear hB hO';obtain⟨s6,hs6⟩:=gX w6.heap.size;simp only [hs6]at *;refine wp_region_held_drew (S:=CellL [(⟨s6,0,Y⟩,O a1 n1 m1),(⟨s6,1,Y⟩,O a2 n2 m2),(⟨s6,2,Y⟩,N M lo),(⟨s6,3,Y⟩,N M hi)]) (by kernel_rfl) cA (fun h9H=>?_);refine sN 0 ?_
 iterate 6
  refine tkn ?_
 refine oN ?_
 have hnb:∀q∈[((⟨s6,0,Y⟩:Oa),Value.slice a1 n1 m1),(⟨s6,1,Y⟩,O a2 n2 m2),(⟨s6,2,Y⟩,N M lo),(⟨s6,3,Y⟩,N M hi)],w.heap.size≠q.1.block:=by
  intro q hq;simp at hq
  rcases hq with rfl|rfl|rfl|rfl<;>(dsimp only;omega)
 refine cl1 (i:=6) fun K hK=>?_
 go_simp;refine kO hK ((((CellL.set (by assumption) hnb _).set hnb _).set hnb _).set hnb _) (fun h9H=>?_);clear hK K;refine tk1 (i:=7) ?_;refine wpAnyH_done (by kernel_rfl) ?_ _;go_wp2;refine bR (v:=.tuple #[U #[O a1 n1 m1,O a2 n2 m2,N M lo,N M hi],V (decide (lo<hi))]) (by simp [results,Tryz.results53,go_sem,o0,o1,o2,o3,f0,f1,f2,f3]) rfl ?_;rw [←HR.out];exact⟨rfl,((((hxW.set (by dsimp only;omega) _).set (by dsimp only;omega) _).set (by dsimp only;omega) _).set (by dsimp only;omega) _).drew⟩
theorem CellL.grown:∀{L:List (Oa×C)} {W W':Z} {row:Option Nat},CellL L W→W.grownBy W' row→(∀q∈L,I q.1.block≠row)→CellL L W'
 | [],_,_,_,_,_,_=>trivial
 | (a,v)::r,W,W',row,⟨h1,h2⟩,hg,hn=>by
  refine⟨?_,h2.grown hg (fun q hq=>hn q (mC _ hq))⟩;have hb:=World.block_lt_of_cell? _ _ h1;rw [←h1];unfold World.cell?;rw [hg.block _ hb (hn (a,v) (by simp))]
theorem zlV (t:Array C) (n:Nat) (h:t.size=n):t=((List.range n).map fun k=>t.getD k undef).toArray:=by
 apply Array.ext
 ·simp [h]
 ·intro i h1 h2
  simp [Array.getD,h1]
theorem zau {W:Z} {b:Nat} {cs:Array C} {T:TypeId} {fr:Nat×Nat} (h:W.heap[b]?=I (H cs T fr)) (i:Nat) (u:C):(W.setCell ⟨b,i,Y⟩ u).heap[b]?=I (H (cs.setIfInBounds i u) T fr):=by
 simp [World.setCell,Array.getElem?_modify,h]
theorem zi3 (w:Z) (o o':Obj):((w.alloc o).alloc o').heap[w.heap.size]?=I o:=by
 rw [zae,if_neg (by simp)];exact aN w o
theorem zi4 (w:Z) (o o':Obj):((w.alloc o).alloc o').heap[w.heap.size+1]?=I o':=qhA _ _ _ (by simp)
theorem arrU (t:Array C) (n:Nat) (h:t.size=n):∃u:Nat→C,(∀k,t.getD k undef=u k)∧t=((List.range n).map u).toArray:=⟨fun k=>t.getD k undef,fun _=>rfl,zlV t n h⟩
theorem zll (w:Z) (o o':Obj):((w.alloc o).alloc o').heap[w.heap.size]?=I o:=by
 rw [zae,if_neg (by simp)];exact aN w o
theorem zek (w:Z) (o o':Obj):((w.alloc o).alloc o').heap[w.heap.size+1]?=I o':=qhA _ _ _ (by simp)
def inP (s:Sp) (x:Int):Bool:=decide (s.lo<x)&&decide (x<s.hi)
def midP (s:Sp) (ps:List (Int×Int)):List Int:=(ps.map (·.1)).filter (inP s)
def stopsZ (s:Sp):List Int:=compact (isort (s.lo::s.hi::midP s (s.over++s.under)))
def stopsR (s:Sp):List Rat:=(stopsZ s).map fun z:Int=>(z:Rat)
def SpOk (s:Sp):Prop:=LnOk s.over∧LnOk s.under∧Bd 104000 s.lo∧Bd 104000 s.hi
theorem zbQ {ps qs:List (Int×Int)} (h:LnOk ps) (k:LnOk qs):SpOk (btw ps qs):=by
 have h1:=ze7 h;have h2:=ze7 k;refine⟨h,k,?_,?_⟩<;>(unfold btw;unfold Bd at *;dsimp only;omega)
theorem zfZ {s:Sp} (h:SpOk s):∀z∈stopsZ s,Bd 104000 z:=by
 intro z hz;have:=zdb hz;rw [isort_mem]at this;obtain⟨h1,h2,h3,h4⟩:=h
 rcases List.mem_cons.1 this with rfl|this
 ·exact h3
 rcases List.mem_cons.1 this with rfl|this
 ·exact h4
 obtain⟨p,hp,rfl⟩:=List.mem_map.1 (List.mem_filter.1 this).1
 rcases List.mem_append.1 hp with hp|hp
 ·exact(h1.2.1 p hp).1
 ·exact(h2.2.1 p hp).1
theorem zkY (s:Sp) (ps:List (Int×Int)):(midP s ps).length≤ps.length:=by
 unfold midP;exact nT (List.length_filter_le _ _) (by simp)
theorem zjr {s:Sp} {ps:List (Int×Int)} {i:Nat} {p:Int×Int} (h:ps[i]?=I p):midP s (ps.take (i+1))=midP s (ps.take i)++(if inP s p.1 then [p.1]else []):=by
 unfold midP;rw [zab _ _ _ h,List.map_append,List.filter_append]
 congr 1
 simp [List.filter_cons]
def StS (W0:Z) (base:Nat) (s:Sp) (v19:C) (g:Nat) (t3 t21:C) (W:Z):Prop:=
 ∃i:Nat,i≤(s.over++s.under).length∧t21=N M i∧g=(s.over++s.under).length-i∧Ext W0 W∧base≤W.heap.size∧IsPts W v19 (s.over++s.under)∧OwnC 3 1 W base t3 ((s.lo::s.hi::midP s ((s.over++s.under).take i)).map ic)
def StT (W0:Z) (base:Nat) (zs:List Int) (v46:C) (g:Nat) (t6 t48:C) (W:Z):Prop:=
 ∃i:Nat,i≤zs.length∧t48=N M i∧g=zs.length-i∧Ext W0 W∧base≤W.heap.size∧OwnC 3 1 W base v46 (zs.map ic)∧OwnR W base t6 ((zs.take i).map fun z:Int=>(z:Rat))
theorem zmi (W:Z) (x:Int) (T:TypeId):∀(j:Nat) u,[ic x].flatten[j]?=I u→(W.alloc (H #[N M x] T)).cell? ((⟨W.heap.size,0,Y⟩:Oa).add j)=I u:=by
 intro j u hj
 match j,hj with
 | 0,hj=>simp [ic]at hj;subst hj;simp [Addr.add]
 | j+1,hj=>simp [ic]at hj
theorem zmd (x:Int):∀u∈[ic x].flatten,u.oneCell'=true:=zmU (zs:=[x])
theorem zmo (W:Z) (base:Nat) (x y:Int) (h:base≤W.heap.size):OwnC 3 1 (W.alloc (H #[N M x,N M y] 3)) base (O (I ⟨W.heap.size,0,Y⟩) 2 2) ([x,y].map ic):=
 ⟨zi7,by simp [ic],.inr ⟨W.heap.size,2,_,rfl,h,aN _ _,by simp,by unfold maxLen;omega,by simp,by simp [ic]⟩⟩
theorem zkj (W:Z) {b:Nat} (hb:b=W.heap.size) {v1 v2:C} {ps qs:List (Int×Int)} (h1:IsPts W v1 ps) (h2:IsPts W v2 qs):Sl 99 1 (PSl 99) (W.alloc (H #[v1,v2] 99)) (O (I ⟨b,0,Y⟩) 2 2) [ps,qs]:=by
 subst hb;refine⟨[[v1],[v2]],rfl,by simp,⟨by simp,I ⟨W.heap.size,0,Y⟩,2,rfl,nE _,by unfold maxLen;omega,.inr ⟨W.heap.size,0,#[v1,v2],(0,0),rfl,aN _ _,?_⟩⟩,?_⟩
 ·intro i x hx
  simpa using hx
 ·intro i c x hc hx
  have hX:Ext W (W.alloc (H #[v1,v2] 99)):=(eR W).alloc _
  match i,hc,hx with
  | 0,hc,hx=>simp at hc hx;subst hc hx;exact⟨_,rfl,h1.ext' hX⟩
  | 1,hc,hx=>simp at hc hx;subst hc hx;exact⟨_,rfl,h2.ext' hX⟩
  | i+2,hc,hx=>simp at hc
theorem zm1 (W:Z) (x y z:C) (T:TypeId):∀(j:Nat) u,[[x,y,z]].flatten[j]?=I u→(W.alloc (H #[x,y,z] T)).cell? ((⟨W.heap.size,0,Y⟩:Oa).add j)=I u:=by
 intro j u hj
 match j,hj with
 | 0,hj=>simp at hj;subst hj;simp [Addr.add]
 | 1,hj=>simp at hj;subst hj;simp [Addr.add]
 | 2,hj=>simp at hj;subst hj;simp [Addr.add]
 | j+3,hj=>simp at hj
theorem OwnR.app {w8 wr:Z} {base:Nat} {v':C} {qs:List Rat} {cs:List (List C)} {d:List C} {q:Rat} (h:OwnC 65 3 w8 base v' (cs++[d])) (hcl:cs.length=qs.length)
  (hcp:∀(i:Nat) c q,cs[i]?=I c→qs[i]?=I q→PR wr c q) (hk:KeepT 2 wr w8) (hd:IsR w8 (U d.toArray) q):OwnR w8 base v' (qs++[q]):=by
 refine⟨cs++[d],h,by simp [hcl],fun i c x hc hx=>?_⟩
 by_cases hi:i<cs.length
 ·rw [List.getElem?_append_left hi]at hc
  rw [List.getElem?_append_left (by omega)]at hx;exact IsR.keep (hcp i c x hc hx) hk
 ·rw [List.getElem?_append_right (by omega)]at hc hx
  have hl:=(lS.1 hc).1;simp at hl;have:i-cs.length=0:=by omega
  rw [this]at hc;rw [show i-qs.length=0 by omega]at hx;simp at hc hx;subst hc hx;exact hd
theorem zf0 (w:Z) (v1 v2:C) (s:Sp) (h1:IsPts w v1 s.over) (h2:IsPts w v2 s.under) (hok:SpOk s) :
  Calls Tryz.prog 71 #[spc s v1 v2] w (RetRs w (stopsR s)):=by
 obtain⟨a1,m1,rfl⟩:=h1.form;obtain⟨a2,m2,rfl⟩:=h2.form;obtain⟨R,hR⟩:=gX (RetRs w (stopsR s));rw [hR];have HR:=hd9 hR;have Hok:=hd9 hok;clear hR;unfold spc;obtain⟨n1,f1⟩:=gX s.over.length;obtain⟨n2,f2⟩:=gX s.under.length;obtain⟨lo,elo⟩:=gX s.lo;obtain⟨hi,ehi⟩:=gX s.hi;rw [f1]at h1 ⊢;rw [f2]at h2 ⊢;rw [elo,ehi];have Elo:=hd9 elo;have Ehi:=hd9 ehi;have hn:(s.over++s.under).length=n1+n2:=by simp [f1,f2]
 have Hn:=hd9 hn;have q1:n1≤64:=by rw [←f1];exact hok.1.2.2
 have q2:n2≤64:=by rw [←f2];exact hok.2.1.2.2
 have H1:=hd9 (fun(W:Z) (hW:Ext w W)=>h1.ext' hW);have H2:=hd9 (fun(W:Z) (hW:Ext w W)=>h2.ext' hW);clear hok f1 f2 elo ehi hn h1 h2;go_enter Tryz.func71,Tryz.ntmps71;obtain⟨W0,hW0⟩:=gX ((w.alloc (H #[O a1 n1 m1,O a2 n2 m2,N M lo,N M hi] 120)));have hB:W0.heap[w.heap.size]?=I (H #[O a1 n1 m1,O a2 n2 m2,N M lo,N M hi] 120 (0,0)):=by rw [←hW0];exact aN _ _
 have hX0:Ext w W0:=by rw [←hW0];exact(eR _).alloc _
 have hS0:W0.heap.size=w.heap.size+1:=by rw [←hW0];simp
 have b0:=qcB hB (i:=0) (u:=O a1 n1 m1) rfl;have b1:=qcB hB (i:=1) (u:=O a2 n2 m2) rfl;have b2:=qcB hB (i:=2) (u:=N M lo) rfl;have b3:=qcB hB (i:=3) (u:=N M hi) rfl;have HP:=hd9 hX0;have HS0:=hd9 hS0
 go_wp2_with(go_at_call 70;(with_reducible refine(ziD _ _ [s.over,s.under] (zkj _ ?_ (H1.out _ ?_) (H2.out _ ?_)) ?_).mono ?_);(simp only [wZ];have:=HS0.out;omega);(exact HP.out.alloc _);(exact HP.out.alloc _);(have:=Hn.out;simp only [tot,List.flatten_cons,List.flatten_nil,List.append_nil];omega);rintro e w3 ⟨v3,rfl,hown3,hx3⟩;obtain⟨a3,n3,c3,rfl⟩:=hown3.form3;obtain⟨hc3,hf3⟩:=hx3.cells)
 rw [show [s.over,s.under].flatten=s.over++s.under by simp]at hown3;have hp3:=hown3.pts;have hl3:=hown3.len;rw [lL,Hn.out]at hl3;subst hl3;have hX3:Ext W0 w3:=(((eR W0).alloc _).alloc _).trans hx3;have hz3:=hX3.size;have hown2:=(((zmo W0 W0.heap.size lo hi (nE _)).ext ((eR _).alloc (H #[O a1 n1 m1,O a2 n2 m2] 99))).ext hx3);rw [hS0]at hown2;clear hc3 hf3 hx3 hW0 b0 b1 b2 b3
 go_loopg [3,21] (n1+n2) (StS W0 (w.heap.size+1) s (O a3 (n1+n2) c3))
 case atStart =>
  refine⟨0,by omega,rfl,by rw [Hn.out];rfl,hX3,by rw [←hS0];exact hz3,hp3,?_⟩;rw [Elo.out,Ehi.out,List.take_zero,show midP s []=[]from rfl];exact hown2
 case round =>
  clear hown2 hp3 hown3 hX3 hz3;obtain⟨i,hi2,rfl,rfl,hx,hbs,hpt,hown⟩:=hrel;rw [Hn.out]at hi2;obtain⟨at3,nt3,ct3,rfl⟩:=hown.form3;have hl4:=zkY s ((s.over++s.under).take i);have hl5:((s.over++s.under).take i).length≤i:=by simp;omega
  have hl6:((s.lo::s.hi::midP s ((s.over++s.under).take i)).map ic).length≤200:=by simp;omega
  have b0:=hx.cellS (qcB hB (i:=0) (u:=O a1 n1 m1) rfl);have b1:=hx.cellS (qcB hB (i:=1) (u:=O a2 n2 m2) rfl);have b2:=hx.cellS (qcB hB (i:=2) (u:=N M lo) rfl);have b3:=hx.cellS (qcB hB (i:=3) (u:=N M hi) rfl);have Hown:=hd9 hown;have Hx:=hd9 hx;have Hpt:=hd9 hpt;have Hl6:=hd9 hl6;have Hb:=hd9 hB;have hzz:=hx.size;have hzw:w.heap.size<wr.heap.size:=by have:=HS0.out;omega
  by_cases hlt:i<n1+n2
  ·obtain⟨⟨x,z⟩,hpq⟩:∃p,(s.over++s.under)[i]?=I p:=⟨(s.over++s.under)[i]'(by rw [Hn.out];exact hlt),by simp [Hn.out,hlt]⟩
   obtain⟨b,o,rfl,hb,c0,c1⟩:=hpt.at' hpq;have hms:=zjr (s:=s) hpq;have Hms:=hd9 hms;have hin:inP s x=(decide (lo<x)&&decide (x<hi)):=by unfold inP;rw [Elo.out,Ehi.out]
   have Hin:=hd9 hin;clear hms hpq hpt hown hx hl4 hl5 hin hB
   by_cases hc:lo<x∧x<hi
   ·obtain⟨g1,g2⟩:=hc
    obtain⟨n3,hn3⟩:=gX nt3;have hE:midP s ((s.over++s.under).take (i+1))=midP s ((s.over++s.under).take i)++[x]:=by rw [Hms.out];dsimp only;rw [Hin.out];simp [g1,g2]
    have HE:=hd9 hE;clear hE Hms Hin
    go_wp2_with(at_builtin;refine appC (T:=3) (t:=186) (z:=N M 0) (k:=1) (bytes:=8) (base:=w.heap.size+1) (v:=O at3 nt3 ct3) (m:=1) (c:=1) (ad:=⟨wr.heap.size+1,0,Y⟩) zmf rfl (by decide) (by decide) Tryz.underlying186 rfl _ _ rfl rfl (Hown.out.ext eA) rfl [ic x] rfl (by simp [ic]) (by simpa using zmi (wr.alloc (H #[N M x,N M z] 33)) x 3) (zmd x) (by have:=Hl6.out;omega) (by simp only [wZ];omega) ?_;intro v' w5 hown5 hgrow hlie;obtain⟨a5,n5,c5,rfl⟩:=hown5.form3)
    go_roundg (n1+n2-(i+1))
    case measure=>have:=Hn.out;rw [lA]at this;omega
    case rel =>
     have hA:Ext wr ((wr.alloc (H #[N M x,N M z] 33)).alloc (H #[N M x] 3)):=((eR wr).alloc _).alloc _;have hO2:=Hown.out.ext hA;have hbw:=zad (base:=w.heap.size+1) hgrow (by simp only [wZ];omega) (fun k hk=>(hO2.lt k hk).1);refine⟨i+1,by rw [Hn.out];omega,by go_num,by rw [Hn.out],(Hx.out.trans hA).thenB hbw (by rw [HS0.out];exact nE _),nT hbs (nT hA.size hbw.size),(Hpt.out.ext' hA).keep' (hO2.keepT (by decide) hgrow),?_⟩;rw [HE.out]
     simpa using hown5
   ·have hE:midP s ((s.over++s.under).take (i+1))=midP s ((s.over++s.under).take i):=by
     rw [Hms.out];dsimp only;rw [Hin.out,if_neg (by simp;omega),List.append_nil]
    have HE:=hd9 hE;clear hE Hms Hin
    by_cases g1:lo<x
    ·have g2:¬x<hi:=fun h=>hc ⟨g1,h⟩
     go_wp2
     go_roundg (n1+n2-(i+1))
     case measure=>have:=Hn.out;rw [lA]at this;omega
     case rel =>
      have hA:Ext wr (wr.alloc (H #[N M x,N M z] 33)):=((eR wr).alloc _);refine⟨i+1,by rw [Hn.out];omega,by go_num,by rw [Hn.out],Hx.out.trans hA,nT hbs hA.size,Hpt.out.ext' hA,?_⟩;rw [HE.out];exact Hown.out.ext hA
    ·go_wp2
     go_roundg (n1+n2-(i+1))
     case measure=>have:=Hn.out;rw [lA]at this;omega
     case rel =>
      have hA:Ext wr (wr.alloc (H #[N M x,N M z] 33)):=((eR wr).alloc _);refine⟨i+1,by rw [Hn.out];omega,by go_num,by rw [Hn.out],Hx.out.trans hA,nT hbs hA.size,Hpt.out.ext' hA,?_⟩;rw [HE.out];exact Hown.out.ext hA
  ·obtain rfl:i=n1+n2:=by omega
   have hE:(s.over++s.under).take (n1+n2)=s.over++s.under:=lT (by rw [Hn.out];exact nE _);rw [hE]at hown Hown hl6 Hl6;obtain⟨g,rfl,hg1,hg2⟩:=hown.blk (by simp);have hsz:(s.lo::s.hi::midP s (s.over++s.under)).length≤200:=by rw [lL]at hl6;exact hl6
   have Hsz:=hd9 hsz;obtain⟨L1,hL1⟩:=gX ((s.lo::s.hi::midP s (s.over++s.under)));rw [hL1]at hown Hown hl6 Hl6 hsz Hsz;have HL1:=hd9 hL1;clear hE hL1 hown hl4 hl5 hl6 hpt hx hB
   go_wp2_with(first|(go_at_call 119;(with_reducible refine(zjc _ _ _ _ _ _ Hown.out ?_).mono ?_);(have:=Hsz.out;omega);rintro e w5 ⟨rfl,hown5,hg5⟩)|(go_at_call 120;(with_reducible refine(zfA _ _ _ _ _ _ hown5 ?_).mono ?_);(have:=Hsz.out;rw [zbS];omega);rintro e w6 ⟨rfl,hown6,hg6⟩))
   have hb5:=zad (base:=w.heap.size+1) hg5 (by omega) (fun k hk=>by cases hk;exact hg1);have hb6:=zad (base:=w.heap.size+1) hg6 (nT hbs hb5.size) (fun k hk=>by cases hk;exact hg1);have hX6:Ext W0 w6:=(Hx.out.thenB hb5 (by rw [HS0.out];exact nE _)).thenB hb6 (by rw [HS0.out];exact nE _);have hs6:w.heap.size+1≤w6.heap.size:=by have:=hb5.size;have:=hb6.size;omega
   obtain⟨zs,hzs⟩:=gX (compact (isort L1));have hzl:zs.length≤200:=by rw [←hzs];have:=zda (isort L1);rw [zbS]at this;omega
   have hzz2:stopsZ s=zs:=by unfold stopsZ;rw [HL1.out,hzs]
   have Hbd:=hd9 (zfZ Hok.out);rw [hzz2]at Hbd;have Hzz2:=hd9 hzz2;rw [hzs]at hown6 ⊢;obtain⟨m,hm⟩:=gX zs.length;rw [hm]at hown6 hzl ⊢;have Hm:=hd9 hm;clear hm hzs hzz2 hown5 hg5 hg6 hb5 hb6 Hown HL1 hsz Hsz Hl6 Hpt b0 b1 b2 b3 Hb hlt
   go_loopg [6,48] m (StT W0 (w.heap.size+1) zs (O (I ⟨g,0,Y⟩) m ct3))
   case atStart=>exact⟨0,by omega,rfl,by rw [Hm.out];rfl,hX6,hs6,hown6,by simpa using OwnR.nil _ _⟩
   case round =>
    clear hown6 hX6 hs6;obtain⟨i,hi3,rfl,rfl,hx,hbs2,hown,hR⟩:=hrel;rw [Hm.out]at hi3;obtain⟨cs,hcs,hcl,hcp⟩:=hR;obtain⟨at6,nt6,ct6,rfl⟩:=hcs.form3;have Hcs:=hd9 hcs;have Hcp:=hd9 hcp;have Hcl:=hd9 hcl;have Hown:=hd9 hown;have Hx2:=hd9 hx;have zg:=(hown.lt g rfl).2
    by_cases hlt:i<m
    ·obtain⟨z,hz⟩:∃z,zs[i]?=I z:=⟨zs[i]'(by rw [Hm.out];exact hlt),by simp [Hm.out,hlt]⟩
     have c0:=hown.cell (i:=i) (j:=0) (d:=ic z) (u:=N M z) (by rw [lP,hz];rfl) rfl;simp only [Nat.mul_one,Nat.add_zero]at c0;have hbz:=Hbd.out z (lM hz);have hlc:cs.length≤200:=by rw [hcl];simp;omega
     have Hlc:=hd9 hlc;have HC:=hd9 (fun W=>zaI W z (by unfold Bd at hbz;omega) (by unfold Bd at hbz;omega));have hsn:(zs.take (i+1)).map (fun z:Int=>(z:Rat))=(zs.take i).map (fun z:Int=>(z:Rat))++[(z:Rat)]:=by rw [zab _ _ _ hz,List.map_append];rfl
     have Hsn:=hd9 hsn;clear hsn hz hcs hcp hcl hown hx hbz hlc
     go_wp2_with(first|(go_at_call 59;(with_reducible refine(HC.out _).mono ?_);rintro e w7 ⟨r7,rfl,hr7,hx7⟩;obtain⟨a7,m7,c7,s7,a8,m8,c8,rfl⟩:=hr7.form)|(at_builtin;refine appC (T:=65) (t:=139) (z:=U #[O Y 0 0,V false,O Y 0 0]) (k:=3) (bytes:=56) (base:=w.heap.size+1) (v:=O at6 nt6 ct6) (m:=1) (c:=1) (ad:=⟨w7.heap.size,0,Y⟩) zmV rfl (by decide) (by decide) Tryz.underlying139 rfl _ _ rfl rfl (Hcs.out.ext eA) rfl [[O a7 m7 c7,V s7,O a8 m8 c8]] rfl (by simp) (zm1 _ _ _ _ _) (by simp [Value.oneCell']) (by have:=Hlc.out;omega) (by have:=hx7.size;simp only [wZ,qdZ]at *;omega) ?_;intro v' w8 hown8 hgrow hlie;obtain⟨a9,n9,c9,rfl⟩:=hown8.form3))
     go_roundg (m-(i+1))
     case measure=>have:=Hm.out;omega
     case rel =>
      have hA:Ext wr (w7.alloc (H #[O a7 m7 c7,V s7,O a8 m8 c8] 65)):=(((eR wr).trans hx7).alloc _);have hO2:=Hcs.out.ext hA;have hzA:=hA.size;have hbw:=zad (base:=w.heap.size+1) hgrow (by omega) (fun k hk=>(hO2.lt k hk).1);refine⟨i+1,by rw [Hm.out];omega,by go_num,by rw [Hm.out],(Hx2.out.trans hA).thenB hbw (by rw [HS0.out];exact nE _),by have:=hbw.size;omega,(Hown.out.ext hA).keep (hO2.keepT (by decide) hgrow),?_⟩;rw [Hsn.out];exact OwnR.app hown8 Hcl.out Hcp.out (hA.keep.trans (hO2.keepT (by decide) hgrow)) (hr7.keep (((eR w7).alloc _).keep.trans (hO2.keepT (by decide) hgrow)))
    ·obtain rfl:i=m:=by omega
     have hE:zs.take i=zs:=lT (by rw [Hm.out];exact nE _);rw [hE]at Hcp Hcl;clear hE;go_wp2;rw [←HR.out];refine⟨_,rfl,?_,HP.out.trans Hx2.out⟩;unfold stopsR;rw [Hzz2.out];exact OwnR.mono ⟨cs,Hcs.out,Hcl.out,Hcp.out⟩ (by omega)
theorem Rb.gap {s:Sp} {x:Rat} (hx:Rb 1 x) (h:SpOk s):Rb 23 (gapR s x):=by
 unfold gapR;exact Rb.sub (k:=11) (hx.atR h.1) (hx.atR h.2.1)
theorem zai {k:Nat} {q:Rat} (h:Rb k q) (hk:k≤1000000):Rb limR q:=h.mono hk
theorem zlA (w:Z) (s:Sp) (v1 v2 vx:C) (x:Rat) (h1:IsPts w v1 s.over) (h2:IsPts w v2 s.under) (hok:SpOk s) (hx:IsR w vx x) (hb:Rb 1 x) :
  Calls Tryz.prog 105 #[spc s v1 v2,vx] w (RetR w (gapR s x)):=
 zl9 w s v1 v2 vx x h1 h2 hok.1 hok.2.1 hx (hb.mono (by omega)) (zai (hb.atR hok.1) (by omega)) (zai (hb.atR hok.2.1) (by omega))
theorem zak {s:Sp} (h:SpOk s):∀q∈stopsR s,Rb 1 q:=by
 intro q hq;obtain⟨z,hz,rfl⟩:=List.mem_map.1 hq;exact zaL (zfZ h z hz)
def bestStep (f:Rat→Rat) (o:Rat×Rat) (x:Rat):Rat×Rat:=if rcmp (f x) o.2<0 then (x,f x)else o
def bestR (f:Rat→Rat):List Rat→Rat×Rat
 | []=>(0,0)
 | x::xs=>xs.foldl (bestStep f) (x,f x)
theorem zhE (f:Rat→Rat) (xs:List Rat) (x:Rat) (h:xs≠[]):bestR f (xs++[x])=bestStep f (bestR f xs) x:=by
 cases xs with
 | nil=>exact absurd rfl h
 | cons y ys=>simp [bestR]
theorem zax (f:Rat→Rat) {xs:List Rat} (h:xs≠[]):(bestR f xs).1∈xs∧(bestR f xs).2=f (bestR f xs).1:=by
 cases xs with
 | nil=>exact absurd rfl h
 | cons x xs =>
  have:∀(ys:List Rat) (a:Rat×Rat),a.2=f a.1→(ys.foldl (bestStep f) a).2=f (ys.foldl (bestStep f) a).1∧((ys.foldl (bestStep f) a).1=a.1∨(ys.foldl (bestStep f) a).1∈ys):=by
   intro ys
   induction ys with
   | nil=>intro a h;exact⟨h,.inl rfl⟩
   | cons y ys ih =>
    intro a ha;rw [List.foldl_cons];have hs:(bestStep f a y).2=f (bestStep f a y).1:=by unfold bestStep;split<;>first|rfl|exact ha
    obtain⟨i1,i2⟩:=ih _ hs;refine⟨i1,?_⟩
    rcases i2 with e|e
    ·rw [e]
     unfold bestStep
     split
     ·exact .inr (by simp)
     ·exact .inl rfl
    ·exact .inr (mC _ e)
  obtain⟨i1,i2⟩:=this xs (x,f x) rfl;refine⟨?_,i1⟩
  rcases i2 with e|e
  ·show (xs.foldl (bestStep f) (x,f x)).1∈_;rw [e];simp
  ·exact mC _ e
def RetR2 (w:Z) (p q:Rat) (e:Ending) (w':Z):Prop:=∃r s,e = .returned (.tuple #[r,s])∧IsR w' r p∧IsR w' s q∧Ext w w'
theorem CellL.set3d {L:List (Oa×C)} {W:Z} {b:Nat} (h:CellL L W.drew) (hn:∀q∈L,b≠q.1.block) (u v t:C):CellL L (((W.setCell ⟨b,0,Y⟩ u).setCell ⟨b,1,Y⟩ v).setCell ⟨b,2,Y⟩ t).drew:=
 CellL.set3 h hn u v t
theorem RB.put3 {W W':Z} {d:Nat} {p p':Rat} {a a2:Option Oa} {m c m2 c2:Nat} {s:Bool} (h:RB W d p') (hz:IsR W (U #[O a m c,V s,O a2 m2 c2]) p)
  (hW:((W.setCell ⟨d,0,Y⟩ (O a m c)).setCell ⟨d,1,Y⟩ (V s)).setCell ⟨d,2,Y⟩ (O a2 m2 c2)=W'):RB W' d p∧(∀b r,b≠d→RB W b r→RB W' b r)∧KeepT 2 W W'∧W'.heap.size=W.heap.size∧(∀w:Z,Ext w W→w.heap.size≤d→Ext w W'):=by
 have n1:=h.not;have h2:=h.put hz;rw [hW]at h2;refine⟨h2,fun b r hb k=>?_,?_,?_,fun w k hd=>?_⟩
 ·have k1:=k.other (p:=⟨d,0,Y⟩) (Ne.symm hb) n1 (O a m c)
  have k2:=k1.other (p:=⟨d,1,Y⟩) (Ne.symm hb) (n1.set _ _) (V s);have k3:=k2.other (p:=⟨d,2,Y⟩) (Ne.symm hb) ((n1.set _ _).set _ _) (O a2 m2 c2);rw [hW]at k3;exact k3
 ·have k1:=(KeepT.refl 2 W).setN (p:=⟨d,0,Y⟩) n1 (O a m c)
  have k2:=k1.setN (p:=⟨d,1,Y⟩) (n1.set _ _) (V s);have k3:=k2.setN (p:=⟨d,2,Y⟩) ((n1.set _ _).set _ _) (O a2 m2 c2);rw [hW]at k3;exact k3
 ·rw [←hW];simp
 ·rw [←hW];exact((k.set hd _).set hd _).set hd _
theorem RB.copy2 {W W1 W2:Z} {d1 d2:Nat} {p q p' q':Rat} {a a2 e e2:Option Oa} {m c m2 c2 n k n2 k2:Nat} {s t:Bool} (h1:RB W d1 p') (h2:RB W d2 q') (hne:d1≠d2)
  (hz1:IsR W (U #[O a m c,V s,O a2 m2 c2]) p) (hz2:IsR W (U #[O e n k,V t,O e2 n2 k2]) q)
  (hW1:((W.setCell ⟨d1,0,Y⟩ (O a m c)).setCell ⟨d1,1,Y⟩ (V s)).setCell ⟨d1,2,Y⟩ (O a2 m2 c2)=W1)
  (hW2:((W1.setCell ⟨d2,0,Y⟩ (O e n k)).setCell ⟨d2,1,Y⟩ (V t)).setCell ⟨d2,2,Y⟩ (O e2 n2 k2)=W2) :
  RB W2 d1 p∧RB W2 d2 q∧(∀b r,b≠d1→b≠d2→RB W b r→RB W2 b r)∧KeepT 2 W W2∧W2.heap.size=W.heap.size∧(∀w:Z,Ext w W→w.heap.size≤d1→w.heap.size≤d2→Ext w W2):=by
 obtain⟨a1,a2,a3,a4,a5⟩:=h1.put3 hz1 hW1;obtain⟨b1,b2,b3,b4,b5⟩:=(a2 _ _ (Ne.symm hne) h2).put3 (hz2.keep a3) hW2;exact⟨b2 _ _ hne a1,b1,fun b r hb hb2 h=>b2 _ _ hb2 (a2 _ _ hb h),a3.trans b3,b4.trans a4,fun w k hd1 hd2=>b5 w (a5 w k hd1) hd2⟩
def BeS (w:Z) (f:Rat→Rat) (qs:List Rat) (g:Nat) (t13:C) (W:Z):Prop:=
 ∃i:Nat,i≤qs.length∧t13=N M i∧g=qs.length-i∧Ext w W∧RB W w.heap.size 0∧RB W (w.heap.size+1) 0∧RB W (w.heap.size+1+1) (bestR f (qs.take i)).1∧RB W (w.heap.size+1+1+1) (bestR f (qs.take i)).2
theorem zkx (w:Z) (v v1 v2:C) (s:Sp) (qs:List Rat) (hs:IsRs w v qs) (h1:IsPts w v1 s.over) (h2:IsPts w v2 s.under) (hok:SpOk s) (hq:∀q∈qs,Rb 1 q) :
  Calls Tryz.prog 77 #[v,.func (.func 105) #[spc s v1 v2] #[]] w (RetR2 w (bestR (gapR s) qs).1 (bestR (gapR s) qs).2):=by
 obtain⟨a,c,rfl⟩:=hs.form;obtain⟨n,hn⟩:=gX qs.length;rw [hn]at hs ⊢;have hle:=hs.le;unfold maxLen at hle;have Hn:=hd9 hn;have Hq:=hd9 hq;have Hok:=hd9 hok;have hnc:n≤9223372036854775807:=by omega
 have HG:=hd9 (fun(W:Z) (hW:Ext w W) (vx:C) (x:Rat) (hx:IsR W vx x) (hb:Rb 1 x)=>zlA W s v1 v2 vx x (h1.ext' hW) (h2.ext' hW) hok hx hb);obtain⟨sv,hsv⟩:=gX (spc s v1 v2);rw [hsv]at HG ⊢;obtain⟨R,hR⟩:=gX (RetR2 w (bestR (gapR s) qs).1 (bestR (gapR s) qs).2);rw [hR];have HR:=hd9 hR;clear hn hq hle hsv hok hR;go_enter Tryz.func77,Tryz.ntmps77;go_wp2
 go_loopg [13] n (BeS w (gapR s) qs)
 case atStart =>
  have z:∀W,IsR W (U #[O Y 0 0,V false,O Y 0 0]) 0:=fun W=>IsR.zero _
  exact⟨0,by omega,rfl,by rw [Hn.out];rfl,eA,(RB.new (z w) rfl).ext ((((eR _).alloc _).alloc _).alloc _),(RB.new (z _) (by simp)).ext (((eR _).alloc _).alloc _),(RB.new (z _) (by simp)).ext ((eR _).alloc _),RB.new (z _) (by simp)⟩
 case round =>
  obtain⟨i,hi,rfl,rfl,hx,hA,hB,hC,hD⟩:=hrel;rw [Hn.out]at hi;have Hx:=hd9 hx;have HA:=hd9 hA;have HB:=hd9 hB;have HC:=hd9 hC;have HD:=hd9 hD
  by_cases hlt:i<n
  ·obtain⟨x,hxi⟩:∃x,qs[i]?=I x:=⟨qs[i]'(by rw [Hn.out];omega),by simp [Hn.out,hlt]⟩
   obtain⟨b,o,a3,m3,c3,s3,a4,m4,c4,rfl,hbl,hzx,e0,e1,e2⟩:=(hs.ext' hx).at' hxi;have Hxi:=hd9 hxi;have hbx:=Hq.out x (lM hxi);have Hbx:=hd9 hbx;clear hxi hA hB hC hx hbx;obtain⟨d1,dm,dc,ds,d2,dm2,dc2,dD0,dD1,dD2,df0,df1,df2,zD,hzD⟩:=hD.rd
   by_cases h0:i=0
   ·have h0b:((i:Int)==0)=true:=by simp;omega
    have H0:=hd9 h0;clear h0 hD
    go_wp2_with(((go_at_call 105;(with_reducible refine(HG.out _ ?_ (U #[O a3 m3 c3,V s3,O a4 m4 c4]) x ?_ Hbx.out).mono ?_);(refine Ext.trans Hx.out ?_;exact eA);(refine hzx.ext ?_;exact eA);rintro e w1 ⟨r1,rfl,hr1,hx1⟩;obtain⟨b1,n1,k1,t1,b2,n2,k2,rfl⟩:=hr1.form;obtain⟨hc1,hf1⟩:=hx1.cells;(have z1:wr.heap.size<w1.heap.size:=(by have:=hx1.size;simp only [wZ]at this;omega)))))
    obtain⟨W8,hW8⟩:=gX ((w1.alloc (H #[O b1 n1 k1,V t1,O b2 n2 k2] 65)));have hX8:Ext wr W8:=by rw [←hW8];exact(((eR _).alloc _).trans hx1).alloc _
    have g1:RB W8 wr.heap.size x:=by rw [←hW8];exact((RB.new hzx rfl).ext hx1).ext ((eR _).alloc _)
    have g2:RB W8 w1.heap.size (gapR s x):=by rw [←hW8];exact RB.new hr1 rfl
    have g3:=HC.out.ext hX8;have g4:=HD.out.ext hX8;have zW:=hX8.size;obtain⟨s1,hs1⟩:=gX w1.heap.size;rw [hW8];simp only [hs1]at *;clear hW8 hc1 hf1 hr1 hx1 hzD dD0 dD1 dD2 df0 df1 df2 hs1 e0 e1 e2 hzx;obtain⟨pa,pm,pc1,ps,pa2,pm2,pc2,p0,p1,p2,_,_,_,pz,hp⟩:=(g1).rd;obtain⟨qa,qm,qc,qs1,qa2,qm2,qc2,q0,q1,q2,_,_,_,qz,hq1⟩:=(g2).rd;obtain⟨_,_,_,_,_,_,_,x0,x1,x2,xf0,xf1,xf2,xz,_⟩:=(g3).rd;obtain⟨_,_,_,_,_,_,_,y0,y1,y2,yf0,yf1,yf2,yz,_⟩:=(g4).rd;refine wp_region_held_drew (S:=CellL [(⟨wr.heap.size,0,Y⟩,O pa pm pc1),(⟨wr.heap.size,1,Y⟩,V ps),(⟨wr.heap.size,2,Y⟩,O pa2 pm2 pc2),(⟨s1,0,Y⟩,O qa qm qc),(⟨s1,1,Y⟩,V qs1),(⟨s1,2,Y⟩,O qa2 qm2 qc2)]) (by kernel_rfl) cA (fun h9H=>?_);refine sN 0 ?_
    iterate 2
     refine tkn ?_
    refine oN ?_
    have hnb1:∀q∈[((⟨wr.heap.size,0,Y⟩:Oa),Value.slice pa pm pc1),(⟨wr.heap.size,1,Y⟩,V ps),(⟨wr.heap.size,2,Y⟩,O pa2 pm2 pc2),(⟨s1,0,Y⟩,O qa qm qc),(⟨s1,1,Y⟩,V qs1),(⟨s1,2,Y⟩,O qa2 qm2 qc2)],w.heap.size+1+1≠q.1.block:=by
     intro q hq;simp at hq
     rcases hq with rfl|rfl|rfl|rfl|rfl|rfl<;>(dsimp only;omega)
    have hnb2:∀q∈[((⟨wr.heap.size,0,Y⟩:Oa),Value.slice pa pm pc1),(⟨wr.heap.size,1,Y⟩,V ps),(⟨wr.heap.size,2,Y⟩,O pa2 pm2 pc2),(⟨s1,0,Y⟩,O qa qm qc),(⟨s1,1,Y⟩,V qs1),(⟨s1,2,Y⟩,O qa2 qm2 qc2)],w.heap.size+1+1+1≠q.1.block:=by
     intro q hq;simp at hq
     rcases hq with rfl|rfl|rfl|rfl|rfl|rfl<;>(dsimp only;omega)
    refine cl1 (i:=2) fun K hK=>?_
    go_simp;refine kO hK (CellL.set3d h9H hnb1 _ _ _) (fun h9H=>?_);clear hK K;refine cl1 (i:=3) fun K hK=>?_
    go_simp;refine kO hK (CellL.set3d h9H hnb2 _ _ _) (fun h9H=>?_);clear hK K;refine wpAnyH_done (by kernel_rfl) ?_ _
    have e:bestR (gapR s) (qs.take (i+1))=(x,gapR s x):=by
     have:=H0.out;subst this;rw [zab _ _ _ Hxi.out];simp [bestR]
    have E:=hd9 e;have HX8:=hd9 hX8;have P:=hd9 (RB.copy2 g3 g4 (by omega) hp hq1 rfl rfl);clear e hX8 g1 g2 g3 g4;go_wp2
    go_roundg (n-(i+1))
    case measure=>have:=Hn.out;omega
    case rel =>
     obtain⟨P1,P2,P3,P4,P5,P6⟩:=P.out;have D:=fun W=>(eR W).drew
     exact⟨i+1,by rw [Hn.out];omega,by go_num,by rw [Hn.out],(P6 w (Hx.out.trans HX8.out) (by omega) (by omega)).drew,
      (P3 _ _ (by omega) (by omega) (HA.out.ext HX8.out)).ext (D _),(P3 _ _ (by omega) (by omega) (HB.out.ext HX8.out)).ext (D _),by rw [E.out];exact P1.ext (D _),by rw [E.out];exact P2.ext (D _)⟩
   ·have h0b:((i:Int)==0)=false:=by simp;omega
    have H0:=hd9 h0;clear h0 hD
    have hbd:Rb 23 (bestR (gapR s) (qs.take i)).2:=by
     have hne:qs.take i≠[]:=fun h=>by
      have h2:(qs.take i).length=0:=by rw [h];rfl
      rw [List.length_take,Hn.out]at h2;have:=H0.out;omega
     obtain⟨j1,j2⟩:=zax (gapR s) hne;rw [j2];exact Rb.gap (Hq.out _ (List.mem_of_mem_take j1)) Hok.out
    have Hbd:=hd9 hbd;clear hbd
    have e:bestR (gapR s) (qs.take (i+1))=bestStep (gapR s) (bestR (gapR s) (qs.take i)) x:=by
     rw [zab _ _ _ Hxi.out,zhE];intro h;have h2:(qs.take i).length=0:=by rw [h];rfl
     rw [List.length_take,Hn.out]at h2;have:=H0.out;omega
    have E:=hd9 e;clear e;obtain⟨k,hk⟩:=gX (rcmp (gapR s x) (bestR (gapR s) (qs.take i)).2);have Hk:=hd9 hk;have Hgb:=hd9 (zai (Rb.gap Hbx.out Hok.out) (by omega));have Hgo:=hd9 (zai Hbd.out (by omega));clear hk;have zD1:w.heap.size+1+1+1<wr.heap.size+1:=by omega
    by_cases hkn:k<0
    ·go_wp2_with(first|(go_at_call 105;(with_reducible refine(HG.out _ ?_ (U #[O a3 m3 c3,V s3,O a4 m4 c4]) x ?_ Hbx.out).mono ?_);(refine Ext.trans Hx.out ?_;exact eA);(refine hzx.ext ?_;exact eA);rintro e w1 ⟨r1,rfl,hr1,hx1⟩;obtain⟨b1,n1,k1,t1,b2,n2,k2,rfl⟩:=hr1.form;obtain⟨hc1,hf1⟩:=hx1.cells;(have z1:wr.heap.size<w1.heap.size:=(by have:=hx1.size;simp only [wZ]at this;omega));(have z2:w.heap.size+1+1+1<w1.heap.size:=by omega))|(go_at_call 19;(with_reducible refine(zao _ (U #[O b1 n1 k1,V t1,O b2 n2 k2]) (U #[O d1 dm dc,V ds,O d2 dm2 dc2]) _ _ (hr1.ext ?_) (hzD.ext ?_) Hgb.out Hgo.out).mono ?_);exact eA;exact eA;rintro e w3 ⟨rfl,hx3⟩;(try rw [Hk.out]);obtain⟨hc3,hf3⟩:=hx3.cells))
     have hX8:Ext wr w3:=((((eR _).alloc _).trans hx1).alloc _).trans hx3;have g1:RB w3 wr.heap.size x:=(((RB.new hzx rfl).ext hx1).ext ((eR _).alloc _)).ext hx3;have g2:RB w3 w1.heap.size (gapR s x):=(RB.new hr1 rfl).ext hx3;have g3:=HC.out.ext hX8;have g4:=HD.out.ext hX8;have zW:=hX8.size;obtain⟨s1,hs1⟩:=gX w1.heap.size;simp only [hs1]at *;clear hc1 hf1 hr1 hx1 hx3 hc3 hf3 hzD dD0 dD1 dD2 df0 df1 df2 hs1 e0 e1 e2 hzx;obtain⟨pa,pm,pc1,ps,pa2,pm2,pc2,p0,p1,p2,_,_,_,pz,hp⟩:=(g1).rd;obtain⟨qa,qm,qc,qs1,qa2,qm2,qc2,q0,q1,q2,_,_,_,qz,hq1⟩:=(g2).rd;obtain⟨_,_,_,_,_,_,_,x0,x1,x2,xf0,xf1,xf2,xz,_⟩:=(g3).rd;obtain⟨_,_,_,_,_,_,_,y0,y1,y2,yf0,yf1,yf2,yz,_⟩:=(g4).rd;refine wp_region_held_drew (S:=CellL [(⟨wr.heap.size,0,Y⟩,O pa pm pc1),(⟨wr.heap.size,1,Y⟩,V ps),(⟨wr.heap.size,2,Y⟩,O pa2 pm2 pc2),(⟨s1,0,Y⟩,O qa qm qc),(⟨s1,1,Y⟩,V qs1),(⟨s1,2,Y⟩,O qa2 qm2 qc2)]) (by kernel_rfl) cA (fun h9H=>?_);refine sN 0 ?_
     iterate 2
      refine tkn ?_
     refine oN ?_
     have hnb1:∀q∈[((⟨wr.heap.size,0,Y⟩:Oa),Value.slice pa pm pc1),(⟨wr.heap.size,1,Y⟩,V ps),(⟨wr.heap.size,2,Y⟩,O pa2 pm2 pc2),(⟨s1,0,Y⟩,O qa qm qc),(⟨s1,1,Y⟩,V qs1),(⟨s1,2,Y⟩,O qa2 qm2 qc2)],w.heap.size+1+1≠q.1.block:=by
      intro q hq;simp at hq
      rcases hq with rfl|rfl|rfl|rfl|rfl|rfl<;>(dsimp only;omega)
     have hnb2:∀q∈[((⟨wr.heap.size,0,Y⟩:Oa),Value.slice pa pm pc1),(⟨wr.heap.size,1,Y⟩,V ps),(⟨wr.heap.size,2,Y⟩,O pa2 pm2 pc2),(⟨s1,0,Y⟩,O qa qm qc),(⟨s1,1,Y⟩,V qs1),(⟨s1,2,Y⟩,O qa2 qm2 qc2)],w.heap.size+1+1+1≠q.1.block:=by
      intro q hq;simp at hq
      rcases hq with rfl|rfl|rfl|rfl|rfl|rfl<;>(dsimp only;omega)
     refine cl1 (i:=2) fun K hK=>?_
     go_simp;refine kO hK (CellL.set3d h9H hnb1 _ _ _) (fun h9H=>?_);clear hK K;refine cl1 (i:=3) fun K hK=>?_
     go_simp;refine kO hK (CellL.set3d h9H hnb2 _ _ _) (fun h9H=>?_);clear hK K;refine wpAnyH_done (by kernel_rfl) ?_ _;have e:bestStep (gapR s) (bestR (gapR s) (qs.take i)) x=(x,gapR s x):=by unfold bestStep;rw [Hk.out,if_pos hkn]
     have E':=hd9 (E.out.trans e);have HX8:=hd9 hX8;have P:=hd9 (RB.copy2 g3 g4 (by omega) hp hq1 rfl rfl);clear e hX8 g1 g2 g3 g4;go_wp2
     go_roundg (n-(i+1))
     case measure=>have:=Hn.out;omega
     case rel =>
      obtain⟨P1,P2,P3,P4,P5,P6⟩:=P.out;have D:=fun W=>(eR W).drew
      exact⟨i+1,by rw [Hn.out];omega,by go_num,by rw [Hn.out],(P6 w (Hx.out.trans HX8.out) (by omega) (by omega)).drew,
       (P3 _ _ (by omega) (by omega) (HA.out.ext HX8.out)).ext (D _),(P3 _ _ (by omega) (by omega) (HB.out.ext HX8.out)).ext (D _),by rw [E'.out];exact P1.ext (D _),by rw [E'.out];exact P2.ext (D _)⟩
    ·go_wp2_with(first|(go_at_call 105;(with_reducible refine(HG.out _ ?_ (U #[O a3 m3 c3,V s3,O a4 m4 c4]) x ?_ Hbx.out).mono ?_);(refine Ext.trans Hx.out ?_;exact eA);(refine hzx.ext ?_;exact eA);rintro e w1 ⟨r1,rfl,hr1,hx1⟩;obtain⟨b1,n1,k1,t1,b2,n2,k2,rfl⟩:=hr1.form;obtain⟨hc1,hf1⟩:=hx1.cells;(have z1:wr.heap.size<w1.heap.size:=(by have:=hx1.size;simp only [wZ]at this;omega));(have z2:w.heap.size+1+1+1<w1.heap.size:=by omega))|(go_at_call 19;(with_reducible refine(zao _ (U #[O b1 n1 k1,V t1,O b2 n2 k2]) (U #[O d1 dm dc,V ds,O d2 dm2 dc2]) _ _ (hr1.ext ?_) (hzD.ext ?_) Hgb.out Hgo.out).mono ?_);exact eA;exact eA;rintro e w3 ⟨rfl,hx3⟩;(try rw [Hk.out]);obtain⟨hc3,hf3⟩:=hx3.cells))
     have hX8:Ext wr w3:=((((eR _).alloc _).trans hx1).alloc _).trans hx3;have e:bestStep (gapR s) (bestR (gapR s) (qs.take i)) x=bestR (gapR s) (qs.take i):=by unfold bestStep;rw [Hk.out,if_neg (by omega)]
     have E':=hd9 (E.out.trans e)
     go_roundg (n-(i+1))
     case measure=>have:=Hn.out;omega
     case rel=>exact⟨i+1,by rw [Hn.out];omega,by go_num,by rw [Hn.out],Hx.out.trans hX8,HA.out.ext hX8,HB.out.ext hX8,by rw [E'.out];exact HC.out.ext hX8,by rw [E'.out];exact HD.out.ext hX8⟩
  ·obtain rfl:i=n:=by omega
   have e:qs.take i=qs:=lT (by rw [Hn.out];exact nE _);rw [e]at hC hD HC HD;clear e;have zW:=hx.size;have zD:w.heap.size+1+1+1<wr.heap.size:=by obtain⟨_,_,_,_,_,_,_,_,_,_,_,_,_,z,_⟩:=hD.rd;exact z
   go_wp2;obtain⟨pa,pm,pc1,ps,pa2,pm2,pc2,p0,p1,p2,_,_,_,pz,hp⟩:=(hC).rd;obtain⟨qa,qm,qc,qs1,qa2,qm2,qc2,q0,q1,q2,_,_,_,qz,hq1⟩:=(hD).rd;obtain⟨_,_,_,_,_,_,_,x0,x1,x2,xf0,xf1,xf2,xz,_⟩:=(hA).rd;obtain⟨_,_,_,_,_,_,_,y0,y1,y2,yf0,yf1,yf2,yz,_⟩:=(hB).rd;refine wp_region_held_drew (S:=CellL [(⟨w.heap.size+1+1,0,Y⟩,O pa pm pc1),(⟨w.heap.size+1+1,1,Y⟩,V ps),(⟨w.heap.size+1+1,2,Y⟩,O pa2 pm2 pc2),(⟨w.heap.size+1+1+1,0,Y⟩,O qa qm qc),(⟨w.heap.size+1+1+1,1,Y⟩,V qs1),(⟨w.heap.size+1+1+1,2,Y⟩,O qa2 qm2 qc2)]) (by kernel_rfl) cA (fun h9H=>?_);refine sN 0 ?_
   iterate 2
    refine tkn ?_
   refine oN ?_
   have hnb1:∀q∈[((⟨w.heap.size+1+1,0,Y⟩:Oa),Value.slice pa pm pc1),(⟨w.heap.size+1+1,1,Y⟩,V ps),(⟨w.heap.size+1+1,2,Y⟩,O pa2 pm2 pc2),(⟨w.heap.size+1+1+1,0,Y⟩,O qa qm qc),(⟨w.heap.size+1+1+1,1,Y⟩,V qs1),(⟨w.heap.size+1+1+1,2,Y⟩,O qa2 qm2 qc2)],w.heap.size≠q.1.block:=by
    intro q hq;simp at hq
    rcases hq with rfl|rfl|rfl|rfl|rfl|rfl<;>(dsimp only;omega)
   have hnb2:∀q∈[((⟨w.heap.size+1+1,0,Y⟩:Oa),Value.slice pa pm pc1),(⟨w.heap.size+1+1,1,Y⟩,V ps),(⟨w.heap.size+1+1,2,Y⟩,O pa2 pm2 pc2),(⟨w.heap.size+1+1+1,0,Y⟩,O qa qm qc),(⟨w.heap.size+1+1+1,1,Y⟩,V qs1),(⟨w.heap.size+1+1+1,2,Y⟩,O qa2 qm2 qc2)],w.heap.size+1≠q.1.block:=by
    intro q hq;simp at hq
    rcases hq with rfl|rfl|rfl|rfl|rfl|rfl<;>(dsimp only;omega)
   refine cl1 (i:=2) fun K hK=>?_
   go_simp;refine kO hK (CellL.set3d h9H hnb1 _ _ _) (fun h9H=>?_);clear hK K;refine cl1 (i:=3) fun K hK=>?_
   go_simp;refine kO hK (CellL.set3d h9H hnb2 _ _ _) (fun h9H=>?_);clear hK K;refine wpAnyH_done (by kernel_rfl) ?_ _;have P:=hd9 (RB.copy2 hA hB (by omega) hp hq1 rfl rfl);go_wp2;refine bR (v:=.tuple #[U #[O pa pm pc1,V ps,O pa2 pm2 pc2],U #[O qa qm qc,V qs1,O qa2 qm2 qc2]]) (by simp [results,Tryz.results77,go_sem,x0,x1,x2,xf0,xf1,xf2,y0,y1,y2,yf0,yf1,yf2]) rfl ?_;rw [←HR.out];obtain⟨P1,P2,P3,P4,P5,P6⟩:=P.out;exact⟨_,_,rfl,(hp.keep P4).ext (eR _).drew,(hq1.keep P4).ext (eR _).drew,(P6 w Hx.out (by omega) (by omega)).drew⟩
end
end Go.Proofs.YtodpfeaihohpjaaGreatDoor.Cop
