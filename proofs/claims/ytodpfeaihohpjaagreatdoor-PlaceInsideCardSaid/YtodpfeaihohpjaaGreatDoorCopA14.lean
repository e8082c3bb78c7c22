/- Part 15: contracts of what the law calls. -/
import Derived.Test.YtodpfeaihohpjaaGreatDoorCopA13
import Derived.Test.YtodpfeaihohpjaaGreatDoorCopA02
import Derived.Test.YtodpfeaihohpjaaGreatDoorCopA08
import Derived.Sort.OwnSortedInts
set_option maxRecDepth 1000000
set_option maxHeartbeats 16000000
set_option linter.unusedSimpArgs false
set_option linter.unusedVariables false
open Go.Value renaming slice→O,bool→V,int→N,agg→U,pointer→Ob
open Option renaming none→Y,some→I
open Go renaming World→Z,Value→C,Addr→Oa
open Go.IntKind renaming i64→M
open Go.Obj renaming cells→H
namespace Go.Proofs.YtodpfeaihohpjaaGreatDoor.Cop
section
open Go.RowKit Go.Shelf
attribute [local go_sem] Oper.semAt_some
abbrev Edg:=(Int×Int)×(Int×Int)
def eds (l:List (Int×Int)):List Edg:=l.zip l.tail
def ence (e:Edg):Array C:=#[U #[N M e.1.1,N M e.1.2],U #[N M e.2.1,N M e.2.2]]
theorem zmG (l:List (Int×Int)):(eds l).length=l.length-1:=by simp [eds]
theorem zmF {l:List (Int×Int)} {j:Nat} {p q:Int×Int} (a:l[j]?=I p) (b:l[j+1]?=I q):(eds l)[j]?=I (p,q):=by
 unfold eds;rw [List.getElem?_zip_eq_some];exact⟨a,by rw [List.getElem?_tail];exact b⟩
theorem zfO (w:Z) (sl:Option Oa) (n c:Nat) :
  Calls Tryz.prog 110 #[O sl n c] w fun e d=>e = .returned (.func (.func 142) #[] #[Ob (I ⟨w.heap.size,0,Y⟩)])∧w.alloc (H #[O sl n c] 99)=d:=by
 have b:∀(a:Fn) (first cap:Array C) (w:Z),(Instr.makeFunc a first cap).run Tryz.prog w = .ok (.func a first cap) w:=fun _ _ _ _=>rfl
 go_enter Tryz.func110,Tryz.ntmps110;go_wp2;go_ret;exact⟨rfl,rfl⟩
theorem zna {F:Fence} {m:Nat} {P:Program} {l:Nat} {a:FuncId} {tmps:Array C} {assign body:Code} {W:Z} {A B:Z→Prop}
  (h:RoundIn F m P l a tmps assign body W fun e W'=>(e = .returned (V true)∧A W')∨(e = .returned (V false)∧B W')) :
  RoundIn F m P l a tmps assign body W fun e W'=>∃b:Bool,e = .returned (V b)∧(b=true→A W')∧(b=false→B W'):=
 h.mono fun e W' h=>by
  rcases h with ⟨rfl,h⟩|⟨rfl,h⟩
  ·exact⟨true,rfl,fun _=>h,fun h=>nomatch h⟩
  ·exact⟨false,rfl,fun h=>(nomatch h),fun _=>h⟩
theorem zjd {β:Type} (f:β→Edg) (n:Nat) (hn:1≤n) (l g:Nat) (w w0:Z) (sl:C) (ps:List (Int×Int)) (d:List β) (t:d.map f=eds ps) (J Jx:List β→Z→Prop)
  (hY:∀pre x W,J pre W→pre.length<d.length→YieldAt Fence.wide (n-1) Tryz.prog l (ence (f x)) W fun e W' =>
   (e = .returned (V true)∧J (pre++[x]) W'∧KpW w g W W')∨(e = .returned (V false)∧Jx (pre++[x]) W'))
  (ab:∀pre W,J pre W→J pre W.drew) (i:w0.cell? ⟨g,0,Y⟩=I sl) (ad:g<w0.heap.size) (hi:IsPts w sl ps) (hw:Ext w w0) (W:Z) (hW:KpW w g w0 W) (h0:J [] W) :
  CallsIn Fence.wide n Tryz.prog 142 #[.func (.yield l) #[] #[],Ob (I ⟨g,0,Y⟩)] W fun e W'=>(∃v,e = .returned v) ∧
   ((∃ys,ys=d∧J ys W')∨(∃pre,pre <+: d∧Jx pre W')):=by
 obtain⟨a,c,rfl⟩:=hi.form;have k:=hi.le;obtain⟨m,K⟩:=gX ps.length;rw [K]at hi i k;have h:d.length=m-1:=by have:=congrArg List.length t;rw [lL,zmG,K]at this;exact this
 rw [h]at hY;unfold maxLen at k;have aj:m≤9223372036854775807:=oM
 have Hm:=hd9 K;clear K k;have af:W.cell? ⟨g,0,Y⟩=I (O a m c):=(World.cell?_of_block hW.2).trans i;refine callsIn_of_wp Tryz.func142 rfl trivial ?_ rfl;simp only [Tryz.ntmps142,List.size_toArray,List.length_cons,List.length_nil,Nat.reduceAdd,Nat.reduceSub,Array.replicate_succ,Array.replicate_zero,List.push_toArray,List.append_toArray,List.nil_append,List.cons_append]
 gi_wp2
 gi_loopw [3] (fun t3 wr=>∃j:Nat,j≤m∧t3=N M ((j+1:Nat):Int)∧J (d.take j) wr∧KpW w g w0 wr)
  (fun t3 _=>(m+1-intOf t3).toNat)
 case atStart=>exact⟨0,by omega,rfl,by simpa using h0,hW⟩
 case round =>
  obtain⟨j,hj,rfl,hJ,r⟩:=hrel;have ag:wr.cell? ⟨g,0,Y⟩=I (O a m c):=(World.cell?_of_block r.2).trans i
  by_cases ai:j+1<m
  ·obtain⟨⟨x,z⟩,hp⟩:∃q,ps[j]?=I q:=⟨ps[j]'(by rw [Hm.out];omega),by simp⟩
   obtain⟨⟨x',z'⟩,hq⟩:∃q,ps[j+1]?=I q:=⟨ps[j+1]'(by rw [Hm.out];omega),by simp⟩;have he:=zmF hp hq;obtain⟨y,p⟩:∃y,d[j]?=I y:=⟨d[j]'(by rw [h];omega),by simp⟩
   have u:f y=((x,z),(x',z')):=by
    rw [←t,lP,p]at he;exact Option.some.inj he
   obtain⟨b,o,rfl,hb,d0,d1⟩:=(hi.ext' (hw.thenB r.1 (nE _))).at' hp;obtain⟨b',o',e',ah,d2,d3⟩:=(hi.ext' (hw.thenB r.1 (nE _))).at' hq
   cases e'
   obtain⟨fn,tmps,assign,body,hy,hR⟩:=hY _ y wr.drew (ab _ _ hJ) (by rw [List.length_take,h];omega);have D:d.take j++[y]=d.take (j+1):=(zab _ _ _ p).symm;rw [D]at hR;have s:=zna hR;have HR:=hd9 s;have u1:((j+1:Nat):Int)-1=(j:Int):=oM
   have u2:IntKind.i64.wrap ((j:Int)+1-1)=(j:Int):=by rw [show (j:Int)+1-1=j by omega];exact iW _ ⟨by omega,by omega⟩
   have u6:IntKind.i64.wrap (j:Int)=(j:Int):=iW _ ⟨by omega,by omega⟩;have u3:(0:Int)≤(j:Int)+1:=oM
   have u4:(j:Int)+1<(m:Int):=oM
   have u5:((j:Int)+1).toNat=j+1:=oM
   have p1:(0:Int)≤(j:Int):=oM
   have p2:(j:Int)<(m:Int):=oM
   have p3:((j+1:Nat):Int)<(m:Int):=oM
   rw [u]at hy;clear hR s D hp hq he p u;unfold ence at hy;dsimp only at hy
   gi_wp2
   gi_region_with ((with_reducible refine RoundIn.mono HR.out ?_);rintro e W3 ⟨bb,rfl,T,hB⟩)
   all_goals
    cases bb
    ·have ac:=hB rfl
     clear T hB
     gi_wp2
     refine bR (results_none rfl _ _ _) rfl ?_;exact⟨⟨_,rfl⟩,.inr ⟨_,⟨d.drop (j+1),List.take_append_drop _ _⟩,ac⟩⟩
    ·obtain⟨aa,ae⟩:=T rfl
     clear T hB
     gi_wp2
     go_roundw
     case rel=>exact⟨j+1,by omega,by go_num,aa,r.trans ((KpW.refl w g wr).ext ((eR wr).drew) (hw.thenB r.1 (nE _)).size (Nat.lt_of_lt_of_le ad r.1.size) |>.trans ae)⟩
     case measure=>simp [intOf];omega
  ·have e:d.take j=d:=lT (by rw [h];omega)
   rw [e]at hJ;have p3:¬((j+1:Nat):Int)<(m:Int):=oM
   clear e
   gi_wp2
   go_end0
   exact⟨⟨_,rfl⟩,.inl hJ⟩
theorem zdS {β:Type} (f:β→Edg) (n:Nat) (p:1≤n) (a:Nat) (w w0:Z) (sl:C) (ps:List (Int×Int)) (b:List β) (g:b.map f=eds ps) (d:w0.cell? ⟨a,0,Y⟩=I sl) (c:a<w0.heap.size) (hi:IsPts w sl ps) (i:Ext w w0) :
  SeqStopsK Fence.wide n Tryz.prog 142 #[Ob (I ⟨a,0,Y⟩)] (fun x=>ence (f x)) (KpW w a) (fun q=>q=b) (fun pre=>pre <+: b) b.length w0:=
 fun l J j W m hJ _ o k=>zjd f n p l a w w0 sl ps b g J j o (fun pre W' h=>hJ _ _ _ Y h ⟨rfl,rfl,rfl,nE _,fun _ _ _=>rfl⟩ (fun r e=>by cases e)) d c hi i W ((KpW.refl w a w0).ext m i.size c) k
section
variable {P:Program} {ops:Array Oper} {Q:Exit→Act→Z→Prop} {md:Region.Mode} {S:Z→Prop}
def TakeIt (P:Program) (md:Region.Mode) (ops:Array Oper) (Q:Exit→Act→Z→Prop) (S:Z→Prop) (fuel:Nat) (b:Array Bool) (a:Act) (w:Z) (i:Nat) (oi:Oper):Prop:=
 ∃v,Region.noSelect ops=true∧Region.free md ops b i=true∧(Region.ready md ops b).contains i=true∧(∀c a w,Q (.panic c) (a.put oi.dst v) w→Q (.panic c) a w)∧YieldsIf P ops S oi v a∧S w ∧
  wpAnyH P md ops Q S fuel (b.setIfInBounds i true) (a.put oi.dst v) w
theorem take1 {i:Nat} {oi:Oper} {fuel:Nat} {b:Array Bool} {a:Act} {w:Z} (hi:ops[i]?=I oi) (h:TakeIt P md ops Q S fuel b a w i oi):wpAnyH P md ops Q S (fuel+1) b a w:=by
 obtain⟨v,c,d,e,f,g,h6,j⟩:=h;exact wpAnyH_take hi c d e f g h6 j
def CallIt (P:Program) (md:Region.Mode) (ops:Array Oper) (Q:Exit→Act→Z→Prop) (S:Z→Prop) (fuel:Nat) (b:Array Bool) (a:Act) (w:Z) (i:Nat) (o:Oper):Prop:=
 Region.ready md ops b=[i]∧∀K':Act→Z→Prop,Shut (∀a w,S w→(S w→wpAnyH P md ops Q S fuel (b.setIfInBounds i true) a w)→K' a w)→if Region.wanted o (yielded ops a.tmps)=true then Oper.wp P o a w K' Q else K' (a.put o.dst undef) w
theorem call1 {i:Nat} {o:Oper} {fuel:Nat} {b:Array Bool} {a:Act} {w:Z} (hi:ops[i]?=I o) (h:CallIt P md ops Q S fuel b a w i o):wpAnyH P md ops Q S (fuel+1) b a w:=
 wpAnyH_ready h.1 sM (AllReadyH.cons hi h.2 AllReadyH.nil)
theorem tk1 {v:C} {i:Nat} {oi:Oper} {fuel:Nat} {b:Array Bool} {a:Act} {w:Z} {G:Prop} (h:G) (hi:ops[i]?=I oi:=by(simp only [gA,gS,gZ];rfl)) (e:Region.noSelect ops=true:=by kernel_rfl) (f:Region.free md ops b i=true:=by kernel_rfl) (g:(Region.ready md ops b).contains i=true:=by kernel_rfl) (h4:∀c a w,Q (.panic c) (a.put oi.dst v) w→Q (.panic c) a w:=by exact fun _ _ _ h=>h) (k:Region.wanted oi (yielded ops a.tmps)=true:=by rfl) (l:∀w,S w→(execOp a.eval oi).run P w = .ok (.value v) w:=by(intro w d;simp only [CellL,and_true]at d;go_simp;try(with_reducible rfl))) (h6:S w:=by(with_reducible assumption)) (j:wpAnyH P md ops Q S fuel (b.setIfInBounds i true) (a.put oi.dst v) w=G:=by((try simp only [Act.put,sA,sZ,sS]);rfl)):wpAnyH P md ops Q S (fuel+1) b a w:=by
 subst j;exact take1 hi ⟨v,e,f,g,h4,Or.inl ⟨k,l⟩,h6,h⟩
theorem tkg1 {i:Nat} {oi:Oper} {fuel:Nat} {b:Array Bool} {a:Act} {w:Z} {G:Prop} (h:G) (hi:ops[i]?=I oi:=by(simp only [gA,gS,gZ];rfl)) (d:Region.noSelect ops=true:=by kernel_rfl) (e:Region.free md ops b i=true:=by kernel_rfl) (f:(Region.ready md ops b).contains i=true:=by kernel_rfl) (h4:∀c a w,Q (.panic c) (a.put oi.dst undef) w→Q (.panic c) a w:=by exact fun _ _ _ h=>h) (j:Region.wanted oi (yielded ops a.tmps)=false:=by rfl)  (h6:S w:=by(with_reducible assumption)) (g:wpAnyH P md ops Q S fuel (b.setIfInBounds i true) (a.put oi.dst undef) w=G:=by((try simp only [Act.put,sA,sZ,sS]);rfl)):wpAnyH P md ops Q S (fuel+1) b a w:=by
 subst g;exact take1 hi ⟨undef,d,e,f,h4,Or.inr ⟨j,rfl⟩,h6,h⟩
theorem tkn {v:C} {i:Nat} {oi:Oper} {fuel:Nat} {b:Array Bool} {a:Act} {w:Z} {G:Prop} (h:G) (hi:ops[i]?=I oi:=by(simp only [gA,gS,gZ];rfl)) (e:Region.noSelect ops=true:=by kernel_rfl) (f:Region.free md ops b i=true:=by kernel_rfl) (g:(Region.ready md ops b).contains i=true:=by kernel_rfl) (h4:∀c a w,Q (.panic c) (a.put oi.dst v) w→Q (.panic c) a w:=by exact fun _ _ _ h=>h) (k:Region.wanted oi (yielded ops a.tmps)=true:=by rfl) (l:∀w,S w→(execOp a.eval oi).run P w = .ok (.value v) w:=by(intro w d;simp only [CellL,and_true]at d;go_simp;try(with_reducible rfl))) (h6:S w:=by(with_reducible assumption)) (j:wpN (i+1) (wpAnyH P md ops Q S fuel (b.setIfInBounds i true) (a.put oi.dst v) w)=G:=by((try simp only [Act.put,sA,sZ,sS,Nat.reduceAdd]);rfl)):wpN i (wpAnyH P md ops Q S (fuel+1) b a w):=by
 subst j;exact take1 hi ⟨v,e,f,g,h4,Or.inl ⟨k,l⟩,h6,h⟩
theorem tkgn {i:Nat} {oi:Oper} {fuel:Nat} {b:Array Bool} {a:Act} {w:Z} {G:Prop} (h:G) (hi:ops[i]?=I oi:=by(simp only [gA,gS,gZ];rfl)) (d:Region.noSelect ops=true:=by kernel_rfl) (e:Region.free md ops b i=true:=by kernel_rfl) (f:(Region.ready md ops b).contains i=true:=by kernel_rfl) (h4:∀c a w,Q (.panic c) (a.put oi.dst undef) w→Q (.panic c) a w:=by exact fun _ _ _ h=>h) (j:Region.wanted oi (yielded ops a.tmps)=false:=by rfl)  (h6:S w:=by(with_reducible assumption)) (g:wpN (i+1) (wpAnyH P md ops Q S fuel (b.setIfInBounds i true) (a.put oi.dst undef) w)=G:=by((try simp only [Act.put,sA,sZ,sS,Nat.reduceAdd]);rfl)):wpN i (wpAnyH P md ops Q S (fuel+1) b a w):=by
 subst g;exact take1 hi ⟨undef,d,e,f,h4,Or.inr ⟨j,rfl⟩,h6,h⟩
theorem cl1 {i:Nat} {o:Oper} {fuel:Nat} {b:Array Bool} {a:Act} {w:Z} (h:∀K':Act→Z→Prop,Shut (∀a w,S w→(S w→wpAnyH P md ops Q S fuel (b.setIfInBounds i true) a w)→K' a w)→if Region.wanted o (yielded ops a.tmps)=true then Oper.wp P o a w K' Q else K' (a.put o.dst undef) w) (hi:ops[i]?=I o:=by(simp only [gA,gS,gZ];rfl)) (c:Region.ready md ops b=[i]:=by kernel_rfl):wpAnyH P md ops Q S (fuel+1) b a w:=call1 hi ⟨c,h⟩
theorem kO {K:Act→Z→Prop} {A:Z→Prop} {X:Act→Z→Prop} (d:Shut (∀a w,A w→(A w→X a w)→K a w)) {a:Act} {w:Z} {G:Prop} (b:A w) (h:A w→G) (c:X a w=G:=by((try simp only [Act.put,sA,sZ,sS]);rfl)):K a w:=by
 subst c;exact d.out _ _ b h
end
section
variable {P:Program} {ops:Array Oper} {Q:Exit→Act→Z→Prop} {md:Region.Mode} {S:Z→Prop}
theorem call2 {i j:Nat} {oi c:Oper} {fuel:Nat} {b:Array Bool} {a:Act} {w:Z}
  (d:∀K':Act→Z→Prop,Shut (∀a w,S w→(S w→wpAnyH P md ops Q S fuel (b.setIfInBounds i true) a w)→K' a w)→if Region.wanted oi (yielded ops a.tmps)=true then Oper.wp P oi a w K' Q else K' (a.put oi.dst undef) w)
  (e:∀K':Act→Z→Prop,Shut (∀a w,S w→(S w→wpAnyH P md ops Q S fuel (b.setIfInBounds j true) a w)→K' a w)→if Region.wanted c (yielded ops a.tmps)=true then Oper.wp P c a w K' Q else K' (a.put c.dst undef) w)
  (hi:ops[i]?=I oi:=by(simp only [gA,gS,gZ];rfl)) (f:ops[j]?=I c:=by(simp only [gA,gS,gZ];rfl)) (g:Region.ready md ops b=[i,j]:=by kernel_rfl) :
  wpAnyH P md ops Q S (fuel+1) b a w:=
 wpAnyH_ready g sM (AllReadyH.cons hi d (AllReadyH.cons f e AllReadyH.nil))
theorem call3 {i j k:Nat} {oi c ok:Oper} {fuel:Nat} {b:Array Bool} {a:Act} {w:Z}
  (d:∀K':Act→Z→Prop,Shut (∀a w,S w→(S w→wpAnyH P md ops Q S fuel (b.setIfInBounds i true) a w)→K' a w)→if Region.wanted oi (yielded ops a.tmps)=true then Oper.wp P oi a w K' Q else K' (a.put oi.dst undef) w)
  (e:∀K':Act→Z→Prop,Shut (∀a w,S w→(S w→wpAnyH P md ops Q S fuel (b.setIfInBounds j true) a w)→K' a w)→if Region.wanted c (yielded ops a.tmps)=true then Oper.wp P c a w K' Q else K' (a.put c.dst undef) w)
  (f:∀K':Act→Z→Prop,Shut (∀a w,S w→(S w→wpAnyH P md ops Q S fuel (b.setIfInBounds k true) a w)→K' a w)→if Region.wanted ok (yielded ops a.tmps)=true then Oper.wp P ok a w K' Q else K' (a.put ok.dst undef) w)
  (hi:ops[i]?=I oi:=by(simp only [gA,gS,gZ];rfl)) (g:ops[j]?=I c:=by(simp only [gA,gS,gZ];rfl)) (h:ops[k]?=I ok:=by(simp only [gA,gS,gZ];rfl)) (l:Region.ready md ops b=[i,j,k]:=by kernel_rfl) :
  wpAnyH P md ops Q S (fuel+1) b a w:=
 wpAnyH_ready l sM (AllReadyH.cons hi d (AllReadyH.cons g e (AllReadyH.cons h f AllReadyH.nil)))
end
def xLe (x:Rat) (e:Edg):Bool:=decide (rcmp x ((e.2.1:Int):Rat)≤0)
def atE (x:Rat) (e:Edg):Rat:=((e.1.2:Int):Rat)+((x-((e.1.1:Int):Rat))*((e.2.2-e.1.2:Int):Rat)) / ((e.2.1-e.1.1:Int):Rat)
def atR (ps:List (Int×Int)) (x:Rat):Rat:=match (eds ps).find? (xLe x)with|some e=>atE x e|none=>(((ps.getD (ps.length-1) (0,0)).2:Int):Rat)
theorem RB.sim {B:Nat} {W W':Z} {b:Nat} {q:Rat} (h:RB W b q) (k:Sim B W W'):RB W' b q:=by
 obtain⟨a,m,c,s,d,i,e,f,g⟩:=h;exact⟨a,m,c,s,d,i,e,k.heap f,g.keep (k.keep _)⟩
theorem zau {k n:Int} (h:Bd k n) (a:k≤1000000:=by decide):Rb 1 (n:Rat):=Rb.int (by unfold Lm B;unfold Bd at h;simp;omega) (nE _)
theorem zhe {k:Int} {ps:List (Int×Int)} (h:PBd k ps) {e:Edg} (d:e∈eds ps):Bd k e.1.1∧Bd k e.1.2∧Bd k e.2.1∧Bd k e.2.2:=by
 obtain⟨p,q⟩:=e;have a:=List.of_mem_zip d;have b:=h p a.1;have c:=h q (List.mem_of_mem_tail a.2);exact⟨b.1,b.2,c.1,c.2⟩
abbrev BE:={ e:Edg // Bd 104000 e.1.1∧Bd 104000 e.1.2∧Bd 104000 e.2.1∧Bd 104000 e.2.2 }
def AtI (w:Z) (x:Rat) (pre:List BE) (W:Z):Prop:=
 Ext w W∧w.heap.size+1+1+1≤W.heap.size∧RB W w.heap.size x∧RB W (w.heap.size+1) 0∧∀e∈pre,xLe x e.1=false
def AtX (w:Z) (x:Rat) (c:Code) (pre:List BE) (W:Z):Prop:=
 c = .ret∧Ext w W∧w.heap.size+1+1+1≤W.heap.size∧∃(a:List BE) (e:BE),pre=a++[e]∧(∀e∈a,xLe x e.1=false)∧xLe x e.1=true∧RB W (w.heap.size+1) (atE x e.1)
def AtS (s B:Nat) (g:Option Oa) (i h:Nat) (j:Bool) (a:Option Oa) (c b:Nat) (d az e f:Int) (W:Z):Prop:=
 W.cell? ⟨s,0,Y⟩=I (O g i h)∧W.cell? ⟨s,1,Y⟩=I (V j)∧W.cell? ⟨s,2,Y⟩=I (O a c b)∧W.cell? ⟨B,0,Y⟩=I (N M d)∧W.cell? ⟨B,1,Y⟩=I (N M az)∧W.cell? ⟨B+1,0,Y⟩=I (N M e)∧W.cell? ⟨B+1,1,Y⟩=I (N M f)
theorem AtS.ext {s B:Nat} {g:Option Oa} {j i:Nat} {l:Bool} {a:Option Oa} {c b:Nat} {d az e f:Int} {W W':Z} (h:AtS s B g j i l a c b d az e f W) (k:Ext W W'):AtS s B g j i l a c b d az e f W':=by
 obtain⟨m,n,o,p,q,r,h6⟩:=h;exact⟨k.cellS m,k.cellS n,k.cellS o,k.cellS p,k.cellS q,k.cellS r,k.cellS h6⟩
theorem zgX {W:Z} {D:Nat} (a:W.heap[D]?=I (.deferred (I []))) (o:Obj):Sim D W (W.putObj D o):=
 Sim.of_grown (grownBy_putObj' W D o) (Nat.le_of_lt (zaa a)) (fun r e=>by cases e;exact⟨nE _,_,a,rfl⟩)
theorem AtS.set {s B:Nat} {g:Option Oa} {j i:Nat} {k:Bool} {a:Option Oa} {c b:Nat} {d az e f:Int} {W:Z} (h:AtS s B g j i k a c b d az e f W) {p:Oa} (v:p.block≠s) (w:p.block≠B) (x:p.block≠B+1) (u:C):AtS s B g j i k a c b d az e f (W.setCell p u):=by
 obtain⟨l,m,n,o,q,r,t⟩:=h;refine⟨?_,?_,?_,?_,?_,?_,?_⟩<;>(rw [World.cell?_setCell_far _ _ _ _ dO];assumption)
theorem zaA {B:Nat} {W W':Z} (h:Ext W W'):KeepsFrom B W W':=⟨h.size,fun _ _ _ a _=>h.heapS a⟩
theorem zlg {β:Type} {f:β→Bool} {a pre:List β} {e:β} (d:pre++[e] <+: a) (c:∀x∈pre,f x=false) (b:f e=true):a.find? f=I e:=by
 obtain⟨t,rfl⟩:=d;rw [List.append_assoc,List.find?_append]
 have:pre.find? f=Y:=by
  rw [List.find?_eq_none];intro x g;simp [c x g]
 rw [this];simp [b]
theorem znD {ps:List (Int×Int)} {x:Rat} {b:List BE} (a:b.map (fun e=>e.1)=eds ps) {pre:List BE} {e:BE} (g:pre++[e] <+: b) (d:∀e∈pre,xLe x e.1=false) (c:xLe x e.1=true):atR ps x=atE x e.1:=by
 unfold atR;rw [←a,List.find?_map,zlg (f:=xLe x ∘ fun e:BE=>e.1) g d c];rfl
theorem zkW {ps:List (Int×Int)} {x:Rat} {b:List BE} (a:b.map (fun e=>e.1)=eds ps) (d:∀e∈b,xLe x e.1=false) {q:Int×Int} (f:ps[ps.length-1]?=I q):atR ps x=((q.2:Int):Rat):=by
 unfold atR
 have:(eds ps).find? (xLe x)=Y:=by
  rw [←a,List.find?_eq_none];intro y g;obtain⟨e,c,rfl⟩:=List.mem_map.1 g;simp [d e c]
 rw [this,gD,f];rfl
theorem za7 (w:Z) (v vx:C) (ps:List (Int×Int)) (x:Rat) (h:IsPts w v ps) (aM:LnOk ps) (hx:IsR w vx x) (hb:Rb 1000 x) :
  Calls Tryz.prog 62 #[v,vx] w (RetR w (atR ps x)):=by
 obtain⟨a,c,rfl⟩:=h.form;obtain⟨xa,xm,xc,xs,bh,bj,bi,rfl⟩:=hx.form;have Hb:=hd9 hb;have aY:=hd9 aM;obtain⟨n,hn⟩:=gX ps.length;rw [hn]at h ⊢;have Hn:=hd9 hn;obtain⟨es,a8⟩:∃es:List BE,es.map (fun e=>e.1)=eds ps:=⟨(eds ps).attachWith _ (fun e he=>zhe aM.2.1 he),zaN _⟩;have aX:=hd9 a8;clear hb aM hn;refine(callsIn_wide (n:=5)).1 ?_;refine callsIn_of_wp_marks Tryz.func62 rfl trivial ?_ rfl;simp only [Tryz.ntmps62,List.size_toArray,List.length_cons,List.length_nil,Nat.reduceAdd,Nat.reduceSub,Array.replicate_succ,Array.replicate_zero,List.push_toArray,List.append_toArray,List.nil_append,List.cons_append]
 gi_wp2_with(refine⟨trivial,?_⟩;gi_at_call 110;refine(callsIn_wide.2 (zfO _ _ _ _)).mono ?_;rintro e w' ⟨rfl,rfl⟩)
 obtain⟨W0,ab⟩:=gX ((((w.alloc (H #[O xa xm xc,V xs,O bh bj bi] 65)).alloc (H #[O Y 0 0,V false,O Y 0 0] 65)).alloc (H #[O a n c] 99)));have bd:Ext w W0:=by rw [←ab];exact(((eR w).alloc _).alloc _).alloc _
 have cZ:W0.heap.size=w.heap.size+1+1+1:=by rw [←ab];simp
 have cb:W0.cell? ⟨w.heap.size+1+1,0,Y⟩=I (O a n c):=by rw [←ab,World.cell?_alloc_at _ _ _ _ sM];rfl
 have b7:RB W0 w.heap.size x:=by rw [←ab];exact(RB.new hx rfl).ext (((eR _).alloc _).alloc _)
 have b8:RB W0 (w.heap.size+1) 0:=by rw [←ab];exact(RB.new (IsR.zero _) sM).ext ((eR _).alloc _)
 rw [ab];have cO:=hd9 ab;clear ab
 refine wpIn_rangeFunc_ownH rfl dM (gf:=142) (lb:=#[Ob (I ⟨w.heap.size+1+1,0,Y⟩)]) rfl trivial (enters_of Tryz.func142 kM rfl)
  (zdS (fun e:BE=>e.1) _ dM (w.heap.size+1+1) w _ _ ps es a8 cb oM h bd) KpW.trans (KpW.put oM oM) (Below.refl _ _) (fun _=>rfl)
  (AtI w x) (AtX w x) (zal (fun s W h=>by have:=h.2.1;omega) (fun s W W' h k=>?hsim)) (fun c=>zal (fun s W h=>by have:=h.2.2.1;omega) (fun s W W' h k=>?hsimx)) ?h0
  (fun(e:BE) a' W=>∃B,w.heap.size+1+1+1≤B∧W.heap[B]?=I (H #[N M e.1.1.1,N M e.1.1.2] 33 (0,0))∧W.heap[B+1]?=I (H #[N M e.1.2.1,N M e.1.2.2] 33 (0,0)) ∧
   a'={ tmps:=#[O a n c,U #[O xa xm xc,V xs,O bh bj bi],undef,Ob (I ⟨w.heap.size,0,Y⟩),Ob (I ⟨w.heap.size+1,0,Y⟩),Ob (I ⟨B,0,Y⟩),Ob (I ⟨B+1,0,Y⟩),O a n c,.func (.func 142) #[] #[Ob (I ⟨w.heap.size+1+1,0,Y⟩)],U #[N M e.1.1.1,N M e.1.1.2],U #[N M e.1.2.1,N M e.1.2.2],undef,undef,undef,undef,undef,undef,undef,undef,undef,undef,undef,undef,undef,undef,undef,undef,undef,undef,undef,undef,undef,undef,undef,undef,undef,undef,undef,undef,undef,undef,undef,undef,undef,undef,undef,undef,undef],defers:=[] })
  (fun e a'=>zal (fun s W h=>?hAs) (fun s W W' h k=>?hAk)) ?assign ?body ?done ?stop
 case hsim =>
  obtain⟨h1,h2,h3,h4,h5⟩:=h;exact⟨k.ext h1 oM,nT h2 k.size,h3.sim k,h4.sim k,h5⟩
 case hsimx =>
  obtain⟨h0,h1,h2,p',e,h3,h4,h5,h6⟩:=h;exact⟨h0,k.ext h1 oM,nT h2 k.size,p',e,h3,h4,h5,h6.sim k⟩
 case h0=>exact⟨bd,by omega,b7,b8,fun e he=>by cases he⟩
 case hAs =>
  obtain⟨B,h1,h2,h3,_⟩:=h;have:=zaa h2;omega
 case hAk =>
  obtain⟨B,h1,h2,h3,h4⟩:=h;exact⟨B,h1,k.heap h2,k.heap h3,h4⟩
 case assign =>
  rintro l pre e W K ⟨h1,h2,h3,h4,h5⟩ f;unfold ence
  gi_wp2
  refine f _ _ (((KeepsOthers.alloc _ _).trans (KeepsOthers.alloc _ _)).from _) (((KpW.refl _ _ W).ext (((eR W).alloc _).alloc _) h1.size oM)) ⟨(h1.alloc _).alloc _,by simp;omega,h3.ext (((eR W).alloc _).alloc _),h4.ext (((eR W).alloc _).alloc _),h5⟩ ⟨W.heap.size,h2,?_,?_,rfl⟩
  ·rw [zai,if_neg sM];exact qhA _ _ _ rfl
  ·exact qhA _ _ _ sM
 case body =>
  rintro l pre e a' W hl ⟨r,hr⟩ ⟨h1,h2,h3,h4,h5⟩ ⟨B,hB,q1,q2,rfl⟩ cV;obtain⟨⟨⟨j,p⟩,z,bz⟩,ar⟩:=e;dsimp only at q1 q2 ar ⊢;obtain⟨ya,ym,yc,ys,ac,ae,ad,r0,r1,r2,_,_,_,zr,bg⟩:=h3.rd;have e0:=qcB q1 (i:=0) (u:=N M j) rfl;have e1:=qcB q1 (i:=1) (u:=N M p) rfl;have e2:=qcB q2 (i:=0) (u:=N M z) rfl;have e3:=qcB q2 (i:=1) (u:=N M bz) rfl;have z1:=zaa q1;have z2:=zaa q2
  gi_wp2
  have aK:AtS w.heap.size B ya ym yc ys ac ae ad j p z bz W:=⟨r0,r1,r2,e0,e1,e2,e3⟩;have bf:IsR W.drew (U #[O ya ym yc,V ys,O ac ae ad]) x:=bg.ext (eR W).drew;have bt:=hd9 aK;refine zap (S:=AtS w.heap.size B ya ym yc ys ac ae ad j p z bz) kM kM (aK.ext (eR W).drew) (fun g=>?_);clear r0 r1 r2 e0 e1 e2 e3 aK;refine take1 (i:=0) (oi:=?oix1) ?hix1 ?hx1
  case hix1=>(simp only [gA,gS,gZ];rfl)
  refine⟨?_,by kernel_rfl,by kernel_rfl,by kernel_rfl,fun _ _ _ h=>h,Or.inl ⟨by rfl,?_⟩,by assumption,?_⟩;rotate_left 1
  ·(intro w d;rcases d with ⟨s0,s1,t,y,s4,s5,s6⟩;go_simp;try(with_reducible rfl))
  (try simp only [Act.put,sA,sZ,sS])
  refine take1 (i:=1) (oi:=?oix2) ?hix2 ?hx2
  case hix2=>(simp only [gA,gS,gZ];rfl)
  refine⟨?_,by kernel_rfl,by kernel_rfl,by kernel_rfl,fun _ _ _ h=>h,Or.inl ⟨by rfl,?_⟩,by assumption,?_⟩;rotate_left 1
  ·(intro w d;rcases d with ⟨s0,s1,t,y,s4,s5,s6⟩;go_simp;try(with_reducible rfl))
  (try simp only [Act.put,sA,sZ,sS])
  refine take1 (i:=2) (oi:=?oix3) ?hix3 ?hx3
  case hix3=>(simp only [gA,gS,gZ];rfl)
  refine⟨?_,by kernel_rfl,by kernel_rfl,by kernel_rfl,fun _ _ _ h=>h,Or.inl ⟨by rfl,?_⟩,by assumption,?_⟩;rotate_left 1
  ·(intro w d;rcases d with ⟨s0,s1,t,y,s4,s5,s6⟩;go_simp;try(with_reducible rfl))
  (try simp only [Act.put,sA,sZ,sS])
  obtain⟨ao,ap,aq,bW⟩:=ar;obtain⟨T,hT⟩:=gX (rcmp x ((z:Int):Rat));have HT:=hd9 hT;have aZ:=zau aq;have a7:=fun W=>zaM W z (by unfold Bd at aq;omega) (by unfold Bd at aq;omega)
  have bw:=hd9 a7;clear a7 hT;refine cl1 (i:=3) fun K f=>?_
  go_simp
  (with_reducible refine cM (bw.out _) ?_)
  rintro e w3 ⟨v3,rfl,bc,hx3⟩;obtain⟨a3,m3,c3,y,b3,n3,k3,rfl⟩:=bc.form
  go_wp2_with fail
  refine kO f (AtS.ext (by assumption) hx3) (fun g=>?_);clear f K;have aL:=zan w3 (U #[O ya ym yc,V ys,O ac ae ad]) (U #[O a3 m3 c3,V y,O b3 n3 k3]) x ((z:Int):Rat) (bf.ext hx3) bc (Hb.out.mono dM) (aZ.mono dM);rw [HT.out]at aL;have bA:=hd9 aL;clear aL;refine cl1 (i:=4) fun K f=>?_
  go_simp
  (with_reducible refine cM bA.out ?_)
  rintro e w4 ⟨rfl,hx4⟩
  skip
  go_wp2_with fail
  refine kO f (AtS.ext (by assumption) hx4) (fun g=>?_);clear f K;refine take1 (i:=5) (oi:=?oix4) ?hix4 ?hx4
  case hix4=>(simp only [gA,gS,gZ];rfl)
  refine⟨?_,by kernel_rfl,by kernel_rfl,by kernel_rfl,fun _ _ _ h=>h,Or.inl ⟨by rfl,?_⟩,by assumption,?_⟩;rotate_left 1
  ·(intro w d;rcases d with ⟨s0,s1,t,y,s4,s5,s6⟩;go_simp;try(with_reducible rfl))
  (try simp only [Act.put,sA,sZ,sS])
  refine wpAnyH_done kM ?_ _;have X4:Ext W w4:=((eR W).drew.trans hx3).trans hx4;have b9:=bt.out.ext X4;have aH:=h4.ext X4;have cS:w.heap.size+1+1+1≤w4.heap.size:=nT h2 X4.size
  by_cases a5:T≤0
  ·have aa:xLe x ((j,p),z,bz)=true:=by unfold xLe;rw [HT.out];simpa using a5
   have aF:=hd9 aa;have bu:=hd9 X4;have bk:=hd9 aH;have be:IsR w4.drew (U #[O ya ym yc,V ys,O ac ae ad]) x:=bg.ext X4.drew;have bC:=hd9 be;clear aa X4 aH be g bf;unfold NQ
   gi_wp2
   refine zap (S:=AtS w.heap.size B ya ym yc ys ac ae ad j p z bz) kM kM (b9.ext (eR w4).drew) (fun g=>?_);have d1:Bd 1000000 (bz-p)∧Bd 1000000 (z-j):=⟨(bW.sub ap).mono dM,(aq.sub ao).mono dM⟩;have g1:IntKind.i64.wrap (bz-p)=bz-p:=iW _ ⟨by unfold Bd at d1;omega,by unfold Bd at d1;omega⟩;have g2:IntKind.i64.wrap (z-j)=z-j:=iW _ ⟨by unfold Bd at d1;omega,by unfold Bd at d1;omega⟩;have Q1:=zau (k:=104000) (n:=j) ao;have Q2:=zau (k:=104000) (n:=p) ap;have Q3:Rb 1 ((bz-p:Int):Rat):=zau d1.1;have Q4:Rb 1 ((z-j:Int):Rat):=zau d1.2;have Q5:=Hb.out.sub (Q1.mono (k:=1000) dM);have Q6:=Q5.mul Q3;have Q7:=Q6.div Q4 dM;have bm:=hd9 Q1;have bn:=hd9 Q2;have bo:=hd9 Q3;have bp:=hd9 Q4;have bq:=hd9 Q5;have br:=hd9 Q6;have bs:=hd9 Q7;have Ha:=hd9 (fun W=>zaM W p (by unfold Bd at ap;omega) (by unfold Bd at ap;omega));have Hc:=hd9 (fun W=>zaM W j (by unfold Bd at ao;omega) (by unfold Bd at ao;omega));have Hd:=hd9 (fun W=>zaM W (bz-p) (by unfold Bd at d1;omega) (by unfold Bd at d1;omega));have He:=hd9 (fun W=>zaM W (z-j) (by unfold Bd at d1;omega) (by unfold Bd at d1;omega));clear Q1 Q2 Q3 Q4 Q5 Q6 Q7 aZ;refine take1 (i:=0) (oi:=?oix5) ?hix5 ?hx5
   case hix5=>(simp only [gA,gS,gZ];rfl)
   refine⟨?_,by kernel_rfl,by kernel_rfl,by kernel_rfl,fun _ _ _ h=>h,Or.inl ⟨by rfl,?_⟩,by assumption,?_⟩;rotate_left 1
   ·(intro w d;rcases d with ⟨s0,s1,t,y,s4,s5,s6⟩;go_simp;try(with_reducible rfl))
   (try simp only [Act.put,sA,sZ,sS])
   refine take1 (i:=1) (oi:=?oix6) ?hix6 ?hx6
   case hix6=>(simp only [gA,gS,gZ];rfl)
   refine⟨?_,by kernel_rfl,by kernel_rfl,by kernel_rfl,fun _ _ _ h=>h,Or.inl ⟨by rfl,?_⟩,by assumption,?_⟩;rotate_left 1
   ·(intro w d;rcases d with ⟨s0,s1,t,y,s4,s5,s6⟩;go_simp;try(with_reducible rfl))
   (try simp only [Act.put,sA,sZ,sS])
   refine take1 (i:=3) (oi:=?oix7) ?hix7 ?hx7
   case hix7=>(simp only [gA,gS,gZ];rfl)
   refine⟨?_,by kernel_rfl,by kernel_rfl,by kernel_rfl,fun _ _ _ h=>h,Or.inl ⟨by rfl,?_⟩,by assumption,?_⟩;rotate_left 1
   ·(intro w d;rcases d with ⟨s0,s1,t,y,s4,s5,s6⟩;go_simp;try(with_reducible rfl))
   (try simp only [Act.put,sA,sZ,sS])
   refine take1 (i:=4) (oi:=?oix8) ?hix8 ?hx8
   case hix8=>(simp only [gA,gS,gZ];rfl)
   refine⟨?_,by kernel_rfl,by kernel_rfl,by kernel_rfl,fun _ _ _ h=>h,Or.inl ⟨by rfl,?_⟩,by assumption,?_⟩;rotate_left 1
   ·(intro w d;rcases d with ⟨s0,s1,t,y,s4,s5,s6⟩;go_simp;try(with_reducible rfl))
   (try simp only [Act.put,sA,sZ,sS])
   refine take1 (i:=5) (oi:=?oix9) ?hix9 ?hx9
   case hix9=>(simp only [gA,gS,gZ];rfl)
   refine⟨?_,by kernel_rfl,by kernel_rfl,by kernel_rfl,fun _ _ _ h=>h,Or.inl ⟨by rfl,?_⟩,by assumption,?_⟩;rotate_left 1
   ·(intro w d;rcases d with ⟨s0,s1,t,y,s4,s5,s6⟩;go_simp;try(with_reducible rfl))
   (try simp only [Act.put,sA,sZ,sS])
   refine take1 (i:=8) (oi:=?oix10) ?hix10 ?hx10
   case hix10=>(simp only [gA,gS,gZ];rfl)
   refine⟨?_,by kernel_rfl,by kernel_rfl,by kernel_rfl,fun _ _ _ h=>h,Or.inl ⟨by rfl,?_⟩,by assumption,?_⟩;rotate_left 1
   ·(intro w d;rcases d with ⟨s0,s1,t,y,s4,s5,s6⟩;go_simp;try(with_reducible rfl))
   (try simp only [Act.put,sA,sZ,sS])
   refine take1 (i:=9) (oi:=?oix11) ?hix11 ?hx11
   case hix11=>(simp only [gA,gS,gZ];rfl)
   refine⟨?_,by kernel_rfl,by kernel_rfl,by kernel_rfl,fun _ _ _ h=>h,Or.inl ⟨by rfl,?_⟩,by assumption,?_⟩;rotate_left 1
   ·(intro w d;rcases d with ⟨s0,s1,t,y,s4,s5,s6⟩;go_simp;try(with_reducible rfl))
   (try simp only [Act.put,sA,sZ,sS])
   refine take1 (i:=10) (oi:=?oix12) ?hix12 ?hx12
   case hix12=>(simp only [gA,gS,gZ];rfl)
   refine⟨?_,by kernel_rfl,by kernel_rfl,by kernel_rfl,fun _ _ _ h=>h,Or.inl ⟨by rfl,?_⟩,by assumption,?_⟩;rotate_left 1
   ·(intro w d;rcases d with ⟨s0,s1,t,y,s4,s5,s6⟩;go_simp;try(with_reducible rfl))
   (try simp only [Act.put,sA,sZ,sS])
   refine take1 (i:=11) (oi:=?oix13) ?hix13 ?hx13
   case hix13=>(simp only [gA,gS,gZ];rfl)
   refine⟨?_,by kernel_rfl,by kernel_rfl,by kernel_rfl,fun _ _ _ h=>h,Or.inl ⟨by rfl,?_⟩,by assumption,?_⟩;rotate_left 1
   ·(intro w d;rcases d with ⟨s0,s1,t,y,s4,s5,s6⟩;go_simp;try(with_reducible rfl))
   (try simp only [Act.put,sA,sZ,sS])
   refine take1 (i:=12) (oi:=?oix14) ?hix14 ?hx14
   case hix14=>(simp only [gA,gS,gZ];rfl)
   refine⟨?_,by kernel_rfl,by kernel_rfl,by kernel_rfl,fun _ _ _ h=>h,Or.inl ⟨by rfl,?_⟩,by assumption,?_⟩;rotate_left 1
   ·(intro w d;rcases d with ⟨s0,s1,t,y,s4,s5,s6⟩;go_simp;try(with_reducible rfl))
   (try simp only [Act.put,sA,sZ,sS])
   refine take1 (i:=15) (oi:=?oix15) ?hix15 ?hx15
   case hix15=>(simp only [gA,gS,gZ];rfl)
   refine⟨?_,by kernel_rfl,by kernel_rfl,by kernel_rfl,fun _ _ _ h=>h,Or.inl ⟨by rfl,?_⟩,by assumption,?_⟩;rotate_left 1
   ·(intro w d;rcases d with ⟨s0,s1,t,y,s4,s5,s6⟩;go_simp;try(with_reducible rfl))
   (try simp only [Act.put,sA,sZ,sS])
   refine take1 (i:=16) (oi:=?oix16) ?hix16 ?hx16
   case hix16=>(simp only [gA,gS,gZ];rfl)
   refine⟨?_,by kernel_rfl,by kernel_rfl,by kernel_rfl,fun _ _ _ h=>h,Or.inl ⟨by rfl,?_⟩,by assumption,?_⟩;rotate_left 1
   ·(intro w d;rcases d with ⟨s0,s1,t,y,s4,s5,s6⟩;go_simp;try(with_reducible rfl))
   (try simp only [Act.put,sA,sZ,sS])
   refine take1 (i:=17) (oi:=?oix17) ?hix17 ?hx17
   case hix17=>(simp only [gA,gS,gZ];rfl)
   refine⟨?_,by kernel_rfl,by kernel_rfl,by kernel_rfl,fun _ _ _ h=>h,Or.inl ⟨by rfl,?_⟩,by assumption,?_⟩;rotate_left 1
   ·(intro w d;rcases d with ⟨s0,s1,t,y,s4,s5,s6⟩;go_simp;try(with_reducible rfl))
   (try simp only [Act.put,sA,sZ,sS])
   refine take1 (i:=18) (oi:=?oix18) ?hix18 ?hx18
   case hix18=>(simp only [gA,gS,gZ];rfl)
   refine⟨?_,by kernel_rfl,by kernel_rfl,by kernel_rfl,fun _ _ _ h=>h,Or.inl ⟨by rfl,?_⟩,by assumption,?_⟩;rotate_left 1
   ·(intro w d;rcases d with ⟨s0,s1,t,y,s4,s5,s6⟩;go_simp;try(with_reducible rfl))
   (try simp only [Act.put,sA,sZ,sS])
   refine take1 (i:=19) (oi:=?oix19) ?hix19 ?hx19
   case hix19=>(simp only [gA,gS,gZ];rfl)
   refine⟨?_,by kernel_rfl,by kernel_rfl,by kernel_rfl,fun _ _ _ h=>h,Or.inl ⟨by rfl,?_⟩,by assumption,?_⟩;rotate_left 1
   ·(intro w d;rcases d with ⟨s0,s1,t,y,s4,s5,s6⟩;go_simp;try(with_reducible rfl))
   (try simp only [Act.put,sA,sZ,sS])
   refine cl1 (i:=2) fun K f=>?_
   go_simp
   (with_reducible refine cM (Ha.out _) ?_)
   rintro e de ⟨c6,rfl,au,ak⟩;obtain⟨bG,cj,bX,cB,bN,cq,cc,rfl⟩:=au.form
   go_wp2_with fail
   refine kO f (AtS.ext (by assumption) ak) (fun g=>?_);clear f K;refine cl1 (i:=6) fun K f=>?_
   go_simp
   (with_reducible refine cM (Hc.out _) ?_)
   rintro e cJ ⟨c7,rfl,av,af⟩;obtain⟨bH,ck,bY,cC,bO,cr,cd,rfl⟩:=av.form
   go_wp2_with fail
   refine kO f (AtS.ext (by assumption) af) (fun g=>?_);clear f K;have K7:=hd9 (zat cJ (U #[O ya ym yc,V ys,O ac ae ad]) (U #[O bH ck bY,V cC,O bO cr cd]) x ((j:Int):Rat) (bC.out.ext (ak.trans af)) av (Hb.out.mono dM) (bm.out.mono dM));refine cl1 (i:=7) fun K f=>?_
   go_simp
   (with_reducible refine cM K7.out ?_)
   rintro e dg ⟨c8,rfl,aw,al⟩;obtain⟨bI,cl,bZ,cD,bP,cs,ce,rfl⟩:=aw.form
   go_wp2_with fail
   refine kO f (AtS.ext (by assumption) al) (fun g=>?_);clear f K;refine cl1 (i:=13) fun K f=>?_
   go_simp
   (with_reducible refine cM (Hd.out _) ?_)
   rintro e cK ⟨c9,rfl,ay,ag⟩;obtain⟨bJ,cm,b0,cF,bQ,ct,cf,rfl⟩:=ay.form
   go_wp2_with fail
   refine kO f (AtS.ext (by assumption) ag) (fun g=>?_);clear f K;have bD:=hd9 (zbx cK (U #[O bI cl bZ,V cD,O bP cs ce]) (U #[O bJ cm b0,V cF,O bQ ct cf]) (x-((j:Int):Rat)) ((bz-p:Int):Rat) (aw.ext ag) ay (bq.out.mono dM) (bo.out.mono dM));refine cl1 (i:=14) fun K f=>?_
   go_simp
   (with_reducible refine cM bD.out ?_)
   rintro e dh ⟨da,rfl,aA,am⟩;obtain⟨bK,cn,b1,cG,bT,cu,cg,rfl⟩:=aA.form
   go_wp2_with fail
   refine kO f (AtS.ext (by assumption) am) (fun g=>?_);clear f K;refine cl1 (i:=20) fun K f=>?_
   go_simp
   (with_reducible refine cM (He.out _) ?_)
   rintro e cL ⟨db,rfl,aB,ah⟩;obtain⟨bL,co,b4,cH,bU,cv,ch,rfl⟩:=aB.form
   go_wp2_with fail
   refine kO f (AtS.ext (by assumption) ah) (fun g=>?_);clear f K;have bE:=hd9 (zbF cL (U #[O bK cn b1,V cG,O bT cu cg]) (U #[O bL co b4,V cH,O bU cv ch]) ((x-((j:Int):Rat))*((bz-p:Int):Rat)) ((z-j:Int):Rat) (aA.ext ah) aB (br.out.mono dM) (bp.out.mono dM));refine cl1 (i:=21) fun K f=>?_
   go_simp
   (with_reducible refine cM bE.out ?_)
   rintro e cN ⟨dc,rfl,aC,an⟩;obtain⟨bM,cp,b5,cI,bV,cw,ci,rfl⟩:=aC.form
   go_wp2_with fail
   refine kO f (AtS.ext (by assumption) an) (fun g=>?_);clear f K;have bF:=hd9 (zaZ cN (U #[O bG cj bX,V cB,O bN cq cc]) (U #[O bM cp b5,V cI,O bV cw ci]) ((p:Int):Rat) (((x-((j:Int):Rat))*((bz-p:Int):Rat)) / ((z-j:Int):Rat)) (au.ext (((((af.trans al).trans ag).trans am).trans ah).trans an)) aC (bn.out.mono dM) (bs.out.mono dM));refine cl1 (i:=22) fun K f=>?_
   go_simp
   (with_reducible refine cM bF.out ?_)
   rintro e aW ⟨dd,rfl,aD,aE⟩;obtain⟨cP,c1,cR,c5,cQ,c4,c0,rfl⟩:=aD.form
   go_wp2_with fail
   refine kO f (AtS.ext (by assumption) aE) (fun g=>?_);clear f K;have a0:Ext w4.drew aW:=((((((ak.trans af).trans al).trans ag).trans am).trans ah).trans an).trans aE;have aI:=bk.out.ext ((eR w4).drew.trans a0);obtain⟨_,_,_,_,_,_,_,o0,o1,o2,cx,cy,cz,zo,_⟩:=aI.rd;have bl:=hd9 aI;clear aI;have cY:¬w.heap.size+1=w.heap.size:=oM
   have cX:¬w.heap.size+1=B∧¬w.heap.size+1=B+1:=⟨by omega,by omega⟩;have a6:atE x ((j,p),z,bz)=((p:Int):Rat)+((x-((j:Int):Rat))*((bz-p:Int):Rat)) / ((z-j:Int):Rat):=rfl;have bv:=hd9 a6;clear a6;refine cl1 (i:=23) fun K f=>?_
   go_simp;refine kO f ((((show AtS w.heap.size B ya ym yc ys ac ae ad j p z bz aW by assumption).set dO dO dO _).set dO dO dO _).set dO dO dO _) (fun _=>?_);clear f K;refine wpAnyH_done kM ?_ _;unfold NQ
   gi_wp2
   have X9:Ext W aW:=bu.out.trans ((eR w4).drew.trans a0);refine⟨(((zaA X9).trans ((KeepsOthers.setCell _ _ _).from _)).trans ((KeepsOthers.setCell _ _ _).from _)).trans ((KeepsOthers.setCell _ _ _).from _),rfl,(((h1.trans X9).set dO _).set dO _).set dO _,by simp only [qcZ];exact nT h2 X9.size,pre,_,rfl,h5,aF.out,?_⟩;dsimp only;rw [bv.out];exact bl.out.put aD
  ·have aa:xLe x ((j,p),z,bz)=false:=by unfold xLe;rw [HT.out];simpa using a5
   have cU:0<T:=oM
   have aF:=hd9 aa;clear aa;unfold NQ
   gi_wp2
   refine⟨zaA X4,(KpW.refl w _ W).ext X4 h1.size oM,h1.trans X4,nT h2 X4.size,h3.ext X4,aH,fun e he=>?_⟩
   rcases List.mem_append.1 he with he|he
   ·exact h5 e he
   ·rw [List.mem_singleton.1 he];exact aF.out
 case done =>
  rintro D ys W hD rfl ⟨h1,h2,h3,h4,h5⟩ f;obtain⟨m,rfl⟩:∃m,n=m+1:=⟨n-1,by have:=List.length_pos_iff.2 aY.out.1;rw [Hn.out]at this;omega⟩;obtain⟨⟨qx,qz⟩,hq⟩:∃q,ps[m]?=I q:=⟨ps[m]'(by rw [Hn.out];omega),by simp⟩;obtain⟨b,o,rfl,hb,d0,d1⟩:=(h.ext' h1).at' hq;have hR:atR ps x=((qz:Int):Rat):=zkW aX.out h5 (q:=(qx,qz)) (by rw [Hn.out];exact hq);have aj:=aY.out.2.1 (qx,qz) (lM hq);have a9:=fun W=>zaM W qz (by unfold Bd at aj;dsimp only at aj;omega) (by unfold Bd at aj;dsimp only at aj;omega)
  have aa:=h.le;have cW:m+1≤9223372036854775807:=by rw [Hn.out]at aa;unfold maxLen at aa;omega
  have bB:=hd9 a9;have aG:=hd9 hR;have p1:(0:Int)≤(m:Int):=oM
  have p2:(m:Int)<((m+1:Nat):Int):=oM
  have u1:((m+1:Nat):Int)-1=(m:Int):=oM
  have zD:D<W.heap.size:=zaa f;clear a9 hR hq aj aa
  gi_wp2_with(refine⟨trivial,?_⟩;gi_at_call 59;(with_reducible refine(callsIn_wide.2 (bB.out _)).mono ?_);rintro e w2 ⟨r2,rfl,bb,hx2⟩;obtain⟨a2,m2,c2,t,b2,n2,k2,rfl⟩:=bb.form;have a4:=h4.ext hx2;obtain⟨_,_,_,_,_,_,_,o0,o1,o2,cx,cy,cz,zo,_⟩:=a4.rd;have b6:=hx2.heapS f)
  have hP:=a4.put bb;have cT:¬D=w.heap.size+1:=oM
  have a1:(((w2.setCell ⟨w.heap.size+1,0,Y⟩ (O a2 m2 c2)).setCell ⟨w.heap.size+1,1,Y⟩ (V t)).setCell ⟨w.heap.size+1,2,Y⟩ (O b2 n2 k2)).heap[D]?=I (.deferred (I [])):=by
   rw [bS _ _ _ _ dO,bS _ _ _ _ dO,bS _ _ _ _ dO];exact b6
  have ca:Ext w (((w2.setCell ⟨w.heap.size+1,0,Y⟩ (O a2 m2 c2)).setCell ⟨w.heap.size+1,1,Y⟩ (V t)).setCell ⟨w.heap.size+1,2,Y⟩ (O b2 n2 k2)):=
   (((h1.trans hx2).set dO _).set dO _).set dO _
  have ai:=zgX a1 (.deferred Y);have aJ:=hP.sim ai;obtain⟨pa,pm,aQ,aS,aO,aR,aP,aT,aU,aV,_,_,_,_,hz⟩:=aJ.rd;refine⟨by simp,.inl ⟨_,_,rfl,run_takeDeferred a1,?_⟩⟩;refine⟨U #[O pa pm aQ,V aS,O aO aR aP],by simp [results,Tryz.results62,go_sem,aT,aU,aV],?_⟩;rw [aG.out];exact⟨_,rfl,hz,ai.ext ca oM⟩
 case stop =>
  rintro D c pre W hD ba ⟨rfl,h1,h2,p',e,rfl,h4,h5,h6⟩ f;have hR:=znD aX.out ba h4 h5;have aG:=hd9 hR;clear hR
  gi_wp2
  have ai:=zgX f (.deferred Y);have aJ:=h6.sim ai;obtain⟨pa,pm,aQ,aS,aO,aR,aP,aT,aU,aV,_,_,_,_,hz⟩:=aJ.rd;refine⟨by simp,.inl ⟨_,_,rfl,run_takeDeferred f,?_⟩⟩;refine⟨U #[O pa pm aQ,V aS,O aO aR aP],by simp [results,Tryz.results62,go_sem,aT,aU,aV],?_⟩;rw [aG.out];exact⟨_,rfl,hz,ai.ext h1 oM⟩
end
section
open Go.RowKit Go.Shelf
def CellL:List (Oa×C)→Z→Prop
 | [],_=>True
 | (a,v)::r,W=>W.cell? a=I v∧CellL r W
theorem CellL.ext:∀{L:List (Oa×C)} {W W':Z},CellL L W→Ext W W'→CellL L W'
 | [],_,_,_,_=>trivial
 | _::_,_,_,⟨h1,h2⟩,k=>⟨k.cellS h1,h2.ext k⟩
theorem cE {L:List (Oa×C)} {W W':Z} (h:CellL L W) (k:Ext W W'):CellL L W':=h.ext k
theorem cA {L:List (Oa×C)} {W:Z} (h:CellL L W:=by(repeat(first|exact trivial|refine⟨by go_simp,?_⟩))):CellL L W:=h
theorem CellL.set:∀{L:List (Oa×C)} {W:Z} {p:Oa},CellL L W→(∀q∈L,p.block≠q.1.block)→∀u,CellL L (W.setCell p u)
 | [],_,_,_,_,_=>trivial
 | (a,v)::r,W,p,⟨h1,h2⟩,hn,u=>⟨by rw [World.cell?_setCell_far _ _ _ _ (hn (a,v) (by simp))];exact h1,h2.set (fun q b=>hn q (mC _ b)) u⟩
theorem CellL.set3 {L:List (Oa×C)} {W:Z} {b:Nat} (h:CellL L W) (a:∀q∈L,b≠q.1.block) (u v t:C):CellL L (((W.setCell ⟨b,0,Y⟩ u).setCell ⟨b,1,Y⟩ v).setCell ⟨b,2,Y⟩ t):=
 ((h.set a u).set a v).set a t
theorem CellL.nil (W:Z):CellL [] W:=trivial
structure Sp where
 over:List (Int×Int)
 under:List (Int×Int)
 lo:Int
 hi:Int
def gapR (s:Sp) (x:Rat):Rat:=atR s.over x-atR s.under x
theorem zmM (w:Z) (s:Sp) (v1 v2 vx:C) (x:Rat) (z:IsPts w v1 s.over) (D:IsPts w v2 s.under) (k1:LnOk s.over) (k2:LnOk s.under) (hx:IsR w vx x) (hb:Rb 1000 x) (g:Rb limR (atR s.over x)) (h:Rb limR (atR s.under x)) :
  Calls Tryz.prog 105 #[U #[v1,v2,N M s.lo,N M s.hi],vx] w (RetR w (gapR s x)):=by
 obtain⟨a1,m1,rfl⟩:=z.form;obtain⟨a2,m2,rfl⟩:=D.form;obtain⟨xa,xm,xc,xs,t,y,u,rfl⟩:=hx.form;obtain⟨n1,l⟩:=gX s.over.length;obtain⟨n2,m⟩:=gX s.under.length;rw [l]at z ⊢;rw [m]at D ⊢;obtain⟨lo,k⟩:=gX s.lo;obtain⟨hi,j⟩:=gX s.hi;rw [k,j];have H1:=hd9 (fun(W:Z) (f:Ext w W)=>za7 W _ _ s.over x (z.ext' f) k1 (hx.ext f) hb);have H2:=hd9 (fun(W:Z) (f:Ext w W)=>za7 W _ _ s.under x (D.ext' f) k2 (hx.ext f) hb);have T:=hd9 g;have aa:=hd9 h;clear g h hb l m k j k1 k2 z D;go_enter Tryz.func105,Tryz.ntmps105;go_wp2;refine wp_region_held_drew (S:=CellL [(⟨w.heap.size,0,Y⟩,O a1 n1 m1),(⟨w.heap.size,1,Y⟩,O a2 n2 m2),(⟨w.heap.size+1,0,Y⟩,O xa xm xc),(⟨w.heap.size+1,1,Y⟩,V xs),(⟨w.heap.size+1,2,Y⟩,O t y u)]) kM (by refine⟨?_,?_,?_,?_,?_,trivial⟩<;>go_simp) (fun a=>?_);refine sN 0 ?_
 iterate 3
  refine tkn ?_
 refine oN ?_;refine sN 4 ?_
 iterate 3
  refine tkn ?_
 refine oN ?_;refine cl1 (i:=3) fun K b=>?_
 go_simp
 (with_reducible refine cM (H1.out _ eA) ?_)
 rintro e w3 ⟨r3,rfl,n,r⟩;obtain⟨a3,m3,c3,s3,b3,n3,k3,rfl⟩:=n.form
 go_wp2_with fail
 refine kO b (cE a r) (fun a=>?_);clear b K;have X3:Ext w w3:=eA;refine cl1 (i:=7) fun K b=>?_
 go_simp
 (with_reducible refine cM (H2.out _ X3) ?_)
 rintro e w4 ⟨r4,rfl,o,c⟩;obtain⟨a4,m4,c4,s4,b4,n4,k4,rfl⟩:=o.form
 go_wp2_with fail
 refine kO b (cE a c) (fun a=>?_);clear b K;have K5:=hd9 (zat w4 _ _ _ _ (n.ext c) o T.out aa.out);refine cl1 (i:=8) fun K b=>?_
 go_simp
 (with_reducible refine cM K5.out ?_)
 rintro e w5 ⟨r5,rfl,p,d⟩;obtain⟨a5,m5,c5,s5,b5,n5,k5,rfl⟩:=p.form
 go_wp2_with fail
 refine kO b (cE a d) (fun a=>?_);clear b K;have hO:RB w5 (w.heap.size+1+1) 0:=(((RB.new (IsR.zero _) sM).ext ((eR _).drew.trans r)).ext c).ext d;obtain⟨_,_,_,_,_,_,_,o0,o1,o2,ak,al,am,zo,_⟩:=hO.rd
 have ab:∀q∈[((⟨w.heap.size,0,Y⟩:Oa),Value.slice a1 n1 m1),(⟨w.heap.size,1,Y⟩,O a2 n2 m2),(⟨w.heap.size+1,0,Y⟩,O xa xm xc),(⟨w.heap.size+1,1,Y⟩,V xs),(⟨w.heap.size+1,2,Y⟩,O t y u)],w.heap.size+1+1≠q.1.block:=by
  intro q hq;simp at hq
  rcases hq with rfl|rfl|rfl|rfl|rfl<;>(dsimp only;omega)
 refine cl1 (i:=9) fun K b=>?_
 go_simp;refine kO b (CellL.set3 (by assumption) ab _ _ _) (fun a=>?_);clear b K;refine wpAnyH_done kM ?_ _;go_wp2;have hP:=hO.put p;obtain⟨pa,pm,ae,ag,ac,af,ad,ah,ai,aj,_,_,_,_,hz⟩:=hP.rd;exact bR (v:=U #[O pa pm ae,V ag,O ac af ad]) (by simp [results,Tryz.results105,go_sem,ah,ai,aj]) rfl ⟨_,rfl,hz,((((X3.trans c).trans d).set dO _).set dO _).set dO _⟩
end
section
open Go.RowKit Go.Shelf Go.Sort Go.Lib
def ic (z:Int):List C:=[N M z]
theorem zmT:(Tryz.prog.info? 3).map (fun i=>(i.zero,i.size,i.bytes))=I (I (N M 0),1,8):=kM
theorem zjs {zs:List Int}:∀c∈zs.map ic,c.length=1:=by
 intro c a;obtain⟨z,_,rfl⟩:=List.mem_map.1 a;rfl
theorem zfl (zs:List Int):(zs.map ic).flatten=zs.map (Value.int M):=by
 induction zs with
 | nil=>rfl
 | cons z zs a=>simp [ic,a]
theorem znM {zs:List Int}:∀u∈(zs.map ic).flatten,u.oneCell'=true:=by
 intro u a;rw [zfl]at a;obtain⟨z,_,rfl⟩:=List.mem_map.1 a;rfl
theorem OwnC.ints {w:Z} {base g n c:Nat} {zs:List Int} (h:OwnC 3 1 w base (O (I ⟨g,0,Y⟩) n c) (zs.map ic)) :
  base≤g∧g<w.heap.size∧n=zs.length∧zs.length≤c∧c≤maxLen∧Holds (Value.int M) w g 0 zs.toArray∧∃cur,w.heap[g]?=I (H cur 3 (0,0))∧cur.size=c*1∧cur.toList.take zs.length=zs.map (Value.int M):=by
 rcases h.2.2 with ⟨j,_⟩|⟨l,i,cur,hv,k,f,b,d,e,a⟩
 ·cases j
 ·cases hv
  rw [zfl,lL,Nat.mul_one]at a;rw [lL]at b;exact⟨k,zaa f,lL ..,b,d,holds_of_blockI f a,cur,f,e,a⟩
def isort (zs:List Int):List Int:=zs.mergeSort fun x y=>decide (x≤y)
theorem zbE (zs:List Int):(isort zs).length=zs.length:=List.length_mergeSort _
theorem isort_mem {zs:List Int} {z:Int}:z∈isort zs ↔ z∈zs:=List.mem_mergeSort
theorem zjB (w:Z) (base g n c:Nat) (zs:List Int) (h:OwnC 3 1 w base (O (I ⟨g,0,Y⟩) n c) (zs.map ic)) (m:zs.length≤1000000000) :
  Calls Tryz.prog 119 #[O (I ⟨g,0,Y⟩) n c] w fun e a=>e = .returned (.tuple #[])∧OwnC 3 1 a base (O (I ⟨g,0,Y⟩) n c) ((isort zs).map ic)∧w.grownBy a (I g):=by
 obtain⟨b,d,rfl,f,i,j,cur,h6,k,l⟩:=h.ints;refine(Tryz.slices_Sort_int g 0 c zs w j d oM).mono ?_;rintro e a ⟨rfl,n,os,rfl⟩;refine⟨rfl,⟨zjs,?_⟩,grownBy_sortedI _⟩;have:=ownsRow_sortedI (base:=base) (n:=n) (os:=os) (ss:=zs) (ts:=isort zs) (zbE zs) b h6 f i k;rw [zfl,lL,zbE];exact this
theorem zbZ (zs:List Int):(compact zs).length≤zs.length:=by
 unfold compact compactUpTo;rw [lL];exact nT (List.length_filter_le _ _) sM
theorem zdm {zs:List Int} {z:Int} (h:z∈compact zs):z∈zs:=by
 unfold compact compactUpTo at h;obtain⟨i,a,rfl⟩:=List.mem_map.1 h;have:=List.mem_range.1 (List.mem_filter.1 a).1;rw [getElem!_pos _ _ (by simpa using this)];simp
theorem zh4 {zs:List Int} (h:zs≠[]):compact zs≠[]:=by
 obtain⟨z,r,rfl⟩:=List.exists_cons_of_ne_nil h;intro a;unfold compact compactUpTo at a;have b:=List.map_eq_nil_iff.1 a;have c:=(List.filter_eq_nil_iff.1 b) 0 sM;simp [keeps]at c
theorem zfU (w:Z) (base g n c:Nat) (zs:List Int) (h:OwnC 3 1 w base (O (I ⟨g,0,Y⟩) n c) (zs.map ic)) (s:zs.length≤1000000000) :
  Calls Tryz.prog 120 #[O (I ⟨g,0,Y⟩) n c] w fun e a=>e = .returned (O (I ⟨g,0,Y⟩) (compact zs).length c)∧OwnC 3 1 a base (O (I ⟨g,0,Y⟩) (compact zs).length c) ((compact zs).map ic)∧w.grownBy a (I g):=by
 obtain⟨f,o,rfl,i,j,k,cur,h6,l,p⟩:=h.ints;refine(Tryz.slices_Compact_int g 0 c zs w k oM i).mono ?_;rintro e a ⟨rfl,q,rfl⟩;have r:=zbZ zs
 have m:∀d,w.grownBy (putRow (Value.int M) (Sort.ahead w q) g 0 d) (I g):=fun d=>by
  have:=grownBy_sortedI (w:=w) (g:=g) (n:=q) (os:=#[]) d
  rwa [grow_empty]at this
 refine⟨rfl,⟨zjs,?_⟩,m _⟩;rw [zfl,lL];refine⟨by simp,.inr ⟨g,c,putCells (Value.int M) 0 (compact zs++List.replicate (zs.length-(compact zs).length) 0).toArray cur,rfl,f,?_,by omega,j,?_,?_⟩⟩
 ·have:=heap_sortedI (n:=q) (os:=#[]) (compact zs++List.replicate (zs.length-(compact zs).length) 0).toArray h6
  rwa [grow_empty]at this
 ·simp [putCells,l]
 ·have:=take_putCellsI cur (compact zs++List.replicate (zs.length-(compact zs).length) 0) (by simp;omega)
  have b:=congrArg (List.take (compact zs).length) this;rw [List.take_take,lA,Nat.min_eq_left oM,List.map_append,List.take_left' sM]at b;rw [Nat.mul_one];exact b
theorem OwnC.keepT {T T':TypeId} {k:Nat} {w w':Z} {base:Nat} {v:C} {cs:List (List C)} (h:OwnC T k w base v cs) (g:T≠T') (d:w.grownBy w' v.ownBlock):KeepT T' w w':=fun b o p a=>by
 rw [d.block b (zaa a) (fun e=>?_)];exact a
 rcases h.2.2 with ⟨f,_⟩|⟨q,c,cur,hv,d,l,m,i,j,n⟩
 ·rw [f]at e;cases e
 ·rw [hv]at e
  cases e
  rw [l]at a
  cases a
  exact g rfl
def OwnR (w:Z) (base:Nat) (v:C) (a:List Rat):Prop:=∃cs,OwnC 65 3 w base v cs∧cs.length=a.length∧∀(i:Nat) c q,cs[i]?=I c→a[i]?=I q→PR w c q
theorem OwnR.rs {w:Z} {base:Nat} {v:C} {a:List Rat} (h:OwnR w base v a):IsRs w v a:=by
 obtain⟨e,b,c,d⟩:=h;exact b.sl c d
theorem OwnR.ext {w w':Z} {base:Nat} {v:C} {a:List Rat} (h:OwnR w base v a) (k:Ext w w'):OwnR w' base v a:=by
 obtain⟨b,d,e,f⟩:=h;exact⟨b,d.ext k,e,fun i c q g j=>IsR.ext (f i c q g j) k⟩
theorem OwnR.mono {w:Z} {base b':Nat} {v:C} {a:List Rat} (h:OwnR w base v a) (k:b'≤base):OwnR w b' v a:=by
 obtain⟨b,c,d,e⟩:=h;exact⟨b,c.mono k,d,e⟩
theorem OwnR.nil (w:Z) (base:Nat):OwnR w base (O Y 0 0) []:=⟨[],OwnC.nil _ _ _ _,rfl,fun i c q a=>by simp at a⟩
def RetRs (w:Z) (a:List Rat) (e:Ending) (w':Z):Prop:=∃v,e = .returned v∧OwnR w' w.heap.size v a∧Ext w w'
theorem zjv:(Tryz.prog.info? 65).map (fun i=>(i.zero,i.size,i.bytes))=I (I (U #[O Y 0 0,V false,O Y 0 0]),3,56):=kM
theorem Rb.atE {x:Rat} {e:Edg} (n:Rb 1 x) (h:Bd 104000 e.1.1∧Bd 104000 e.1.2∧Bd 104000 e.2.1∧Bd 104000 e.2.2):Rb 11 (Cop.atE x e):=by
 obtain⟨l,m,o,p⟩:=h;have g:Bd 208000 (e.2.2-e.1.2):=by unfold Bd at *;omega
 have i:Bd 208000 (e.2.1-e.1.1):=by unfold Bd at *;omega
 unfold Cop.atE;have a:=Rb.sub (k:=1) n (zau l);have b:=Rb.mul (j:=3) (k:=1) a (zau g);have c:=Rb.div (j:=4) (k:=1) b (zau i) oM;have d:=(zau m).mono (k:=5) oM;have f:=Rb.add (k:=5) d c;exact f
theorem Rb.atR {x:Rat} {ps:List (Int×Int)} (c:Rb 1 x) (h:LnOk ps):Rb 11 (Cop.atR ps x):=by
 unfold Cop.atR
 cases hf:(eds ps).find? (xLe x)with
 | some e=>exact c.atE (zhe h.2.1 (List.mem_of_find?_eq_some hf))
 | none =>
  have d:0<ps.length:=by
   rcases Nat.eq_zero_or_pos ps.length with a|a
   ·exact absurd (List.eq_nil_of_length_eq_zero a) h.1
   ·exact a
  have b:ps.getD (ps.length-1) (0,0)∈ps:=by
   rw [gD,gE oM,Option.getD_some];exact List.getElem_mem _
  exact(zau (h.2.1 _ b).2).mono oM
theorem zbO {ps:List (Int×Int)} (h:LnOk ps):Bd 104000 (lineL ps)∧Bd 104000 (lineR ps):=by
 have d:0<ps.length:=by
  rcases Nat.eq_zero_or_pos ps.length with a|a
  ·exact absurd (List.eq_nil_of_length_eq_zero a) h.1
  ·exact a
 have b:∀i,i<ps.length→ps.getD i (0,0)∈ps:=fun i c=>by
  rw [gD,gE c,Option.getD_some];exact List.getElem_mem _
 exact⟨(h.2.1 _ (b 0 d)).1,(h.2.1 _ (b _ oM)).1⟩
def btw (ps a:List (Int×Int)):Sp:=⟨ps,a,max (lineL ps) (lineL a),min (lineR ps) (lineR a)⟩
def spc (s:Sp) (a b:C):C:=U #[a,b,N M s.lo,N M s.hi]
def RetBt (w:Z) (a b:C) (s:Sp) (e:Ending) (w':Z):Prop:=e = .returned (.tuple #[spc s a b,V (decide (s.lo<s.hi))])∧Ext w w'
theorem za3 (w:Z) (v1 v2:C) (ps h:List (Int×Int)) (h1:IsPts w v1 ps) (h2:IsPts w v2 h) (k1:0<ps.length) (k2:0<h.length) :
  Calls Tryz.prog 53 #[v1,v2] w (RetBt w v1 v2 (btw ps h)):=by
 have H1:=hd9 (fun(W:Z) (b:Ext w W)=>zbc W v1 ps (h1.ext' b) k1);have H2:=hd9 (fun(W:Z) (b:Ext w W)=>zbc W v2 h (h2.ext' b) k2);have H3:=hd9 (fun(W:Z) (b:Ext w W)=>za1 W v1 ps (h1.ext' b) k1);have H4:=hd9 (fun(W:Z) (b:Ext w W)=>za1 W v2 h (h2.ext' b) k2);obtain⟨l,p,rfl⟩:=h1.form;obtain⟨m,r,rfl⟩:=h2.form;obtain⟨R,hR⟩:=gX (RetBt w (O l ps.length p) (O m h.length r) (btw ps h));rw [hR];have z:=hd9 hR;clear hR;unfold btw at z;obtain⟨l1,e1⟩:=gX (lineL ps);obtain⟨l2,e2⟩:=gX (lineL h);obtain⟨r1,e3⟩:=gX (lineR ps);obtain⟨r2,e4⟩:=gX (lineR h);obtain⟨x,f1⟩:=gX ps.length;obtain⟨y,f2⟩:=gX h.length;rw [e1,e2,e3,e4]at z;rw [e1]at H1;rw [e2]at H2;rw [e3]at H3;rw [e4]at H4;simp only [f1,f2]at H1 H2 H3 H4 z h1 h2 ⊢;clear e1 e2 e3 e4 f1 f2 h1 h2 k1 k2;go_enter Tryz.func53,Tryz.ntmps53
 go_wp2_with(first|(go_at_call 60;(with_reducible refine(H1.out _ ?_).mono ?_);exact eA;rintro e w3 ⟨rfl,c⟩;obtain⟨ac,ag⟩:=c.cells)|(go_at_call 60;(with_reducible refine(H2.out _ ?_).mono ?_);exact eA;rintro e w4 ⟨rfl,d⟩;obtain⟨ad,ah⟩:=d.cells)|(go_at_call 61;(with_reducible refine(H3.out _ ?_).mono ?_);exact eA;rintro e w5 ⟨rfl,f⟩;obtain⟨ae,ai⟩:=f.cells)|(go_at_call 61;(with_reducible refine(H4.out _ ?_).mono ?_);exact eA;rintro e s ⟨rfl,g⟩;obtain⟨af,aj⟩:=g.cells))
 obtain⟨o,T⟩:=gX (max l1 l2);obtain⟨n,D⟩:=gX (min r1 r2);rw [T,D]at z ⊢;have aa:Ext w s:=(((((eR w).alloc _).trans c).trans d).trans f).trans g;have am:w.heap.size<s.heap.size:=by have:=c.size;have:=d.size;have:=f.size;have:=g.size;simp only [wZ]at *;omega
 have hO:s.heap[w.heap.size]?=I (H #[O Y 0 0,O Y 0 0,N M 0,N M 0] 120 (0,0)):=g.heapS (f.heapS (d.heapS (c.heapS (aN _ _))));clear ac ag ad ah ae ai af aj H1 H2 H3 H4 T D c d f g;obtain⟨W,b⟩:=gX ((s.alloc (H #[O l x p,O m y r,N M o,N M n] 120)));have t:W.heap[s.heap.size]?=I (H #[O l x p,O m y r,N M o,N M n] 120 (0,0)):=by rw [←b];exact aN _ _
 have a:W.heap[w.heap.size]?=I (H #[O Y 0 0,O Y 0 0,N M 0,N M 0] 120 (0,0)):=by rw [←b];exact((eR s).alloc _).heapS hO
 have al:Ext w W:=by rw [←b];exact aa.alloc _
 rw [b];clear b hO aa;have b0:=qcB t (i:=0) (u:=O l x p) rfl;have b1:=qcB t (i:=1) (u:=O m y r) rfl;have b2:=qcB t (i:=2) (u:=N M o) rfl;have b3:=qcB t (i:=3) (u:=N M n) rfl;have f0:=qfB a 0;have f1:=qfB a 1;have f2:=qfB a 2;have f3:=qfB a 3;have o0:=qcB a (i:=0) (u:=O Y 0 0) rfl;have o1:=qcB a (i:=1) (u:=O Y 0 0) rfl;have o2:=qcB a (i:=2) (u:=N M 0) rfl;have o3:=qcB a (i:=3) (u:=N M 0) rfl;have HB:=hd9 t;clear t a;obtain⟨k,ak⟩:=gX s.heap.size;simp only [ak]at *;refine wp_region_held_drew (S:=CellL [(⟨k,0,Y⟩,O l x p),(⟨k,1,Y⟩,O m y r),(⟨k,2,Y⟩,N M o),(⟨k,3,Y⟩,N M n)]) kM cA (fun ab=>?_);refine sN 0 ?_
 iterate 6
  refine tkn ?_
 refine oN ?_
 have j:∀q∈[((⟨k,0,Y⟩:Oa),Value.slice l x p),(⟨k,1,Y⟩,O m y r),(⟨k,2,Y⟩,N M o),(⟨k,3,Y⟩,N M n)],w.heap.size≠q.1.block:=by
  intro q hq;simp at hq
  rcases hq with rfl|rfl|rfl|rfl<;>(dsimp only;omega)
 refine cl1 (i:=6) fun K hK=>?_
 go_simp;refine kO hK ((((CellL.set (by assumption) j _).set j _).set j _).set j _) (fun ab=>?_);clear hK K;refine tk1 (i:=7) ?_;refine wpAnyH_done kM ?_ _;go_wp2;refine bR (v:=.tuple #[U #[O l x p,O m y r,N M o,N M n],V (decide (o<n))]) (by simp [results,Tryz.results53,go_sem,o0,o1,o2,o3,f0,f1,f2,f3]) rfl ?_;rw [←z.out];exact⟨rfl,((((al.set dO _).set dO _).set dO _).set dO _).drew⟩
theorem CellL.grown:∀{L:List (Oa×C)} {W W':Z} {row:Option Nat},CellL L W→W.grownBy W' row→(∀q∈L,I q.1.block≠row)→CellL L W'
 | [],_,_,_,_,_,_=>trivial
 | (a,v)::r,W,W',row,⟨h1,h2⟩,hg,hn=>by
  refine⟨?_,h2.grown hg (fun q c=>hn q (mC _ c))⟩;have b:=World.block_lt_of_cell? _ _ h1;rw [←h1];unfold World.cell?;rw [hg.block _ b (hn (a,v) sM)]
theorem zmy (t:Array C) (n:Nat) (h:t.size=n):t=((List.range n).map fun k=>t.getD k undef).toArray:=by
 apply Array.ext
 ·simp [h]
 ·intro i a b
  simp [Array.getD,a]
theorem zac {W:Z} {b:Nat} {cs:Array C} {T:TypeId} {a:Nat×Nat} (h:W.heap[b]?=I (H cs T a)) (i:Nat) (u:C):(W.setCell ⟨b,i,Y⟩ u).heap[b]?=I (H (cs.setIfInBounds i u) T a):=by
 simp [World.setCell,Array.getElem?_modify,h]
theorem zjo (w:Z) (o a:Obj):((w.alloc o).alloc a).heap[w.heap.size]?=I o:=by
 rw [zai,if_neg sM];exact aN w o
theorem zjp (w:Z) (o a:Obj):((w.alloc o).alloc a).heap[w.heap.size+1]?=I a:=qhA _ _ _ sM
theorem arrU (t:Array C) (n:Nat) (h:t.size=n):∃u:Nat→C,(∀k,t.getD k undef=u k)∧t=((List.range n).map u).toArray:=⟨fun k=>t.getD k undef,fun _=>rfl,zmy t n h⟩
theorem zlQ (w:Z) (o a:Obj):((w.alloc o).alloc a).heap[w.heap.size]?=I o:=by
 rw [zai,if_neg sM];exact aN w o
theorem zeD (w:Z) (o a:Obj):((w.alloc o).alloc a).heap[w.heap.size+1]?=I a:=qhA _ _ _ sM
def inP (s:Sp) (x:Int):Bool:=decide (s.lo<x)&&decide (x<s.hi)
def midP (s:Sp) (ps:List (Int×Int)):List Int:=(ps.map (·.1)).filter (inP s)
def stopsZ (s:Sp):List Int:=compact (isort (s.lo::s.hi::midP s (s.over++s.under)))
def stopsR (s:Sp):List Rat:=(stopsZ s).map fun z:Int=>(z:Rat)
def SpOk (s:Sp):Prop:=LnOk s.over∧LnOk s.under∧Bd 104000 s.lo∧Bd 104000 s.hi
theorem zct {ps a:List (Int×Int)} (h:LnOk ps) (k:LnOk a):SpOk (btw ps a):=by
 have b:=zbO h;have c:=zbO k;refine⟨h,k,?_,?_⟩<;>(unfold btw;unfold Bd at *;dsimp only;omega)
theorem zew {s:Sp} (h:SpOk s):∀z∈stopsZ s,Bd 104000 z:=by
 intro z f;have:=zdm f;rw [isort_mem]at this;obtain⟨b,c,d,e⟩:=h
 rcases List.mem_cons.1 this with rfl|this
 ·exact d
 rcases List.mem_cons.1 this with rfl|this
 ·exact e
 obtain⟨p,a,rfl⟩:=List.mem_map.1 (List.mem_filter.1 this).1
 rcases List.mem_append.1 a with a|a
 ·exact(b.2.1 p a).1
 ·exact(c.2.1 p a).1
theorem zhu (s:Sp) (ps:List (Int×Int)):(midP s ps).length≤ps.length:=by
 unfold midP;exact nT (List.length_filter_le _ _) sM
theorem zjR {s:Sp} {ps:List (Int×Int)} {i:Nat} {p:Int×Int} (h:ps[i]?=I p):midP s (ps.take (i+1))=midP s (ps.take i)++(if inP s p.1 then [p.1]else []):=by
 unfold midP;rw [zab _ _ _ h,List.map_append,List.filter_append]
 congr 1
 simp [List.filter_cons]
def StS (b:Z) (base:Nat) (s:Sp) (a:C) (g:Nat) (t3 t21:C) (W:Z):Prop:=
 ∃i:Nat,i≤(s.over++s.under).length∧t21=N M i∧g=(s.over++s.under).length-i∧Ext b W∧base≤W.heap.size∧IsPts W a (s.over++s.under)∧OwnC 3 1 W base t3 ((s.lo::s.hi::midP s ((s.over++s.under).take i)).map ic)
def StT (b:Z) (base:Nat) (zs:List Int) (v46:C) (g:Nat) (c a:C) (W:Z):Prop:=
 ∃i:Nat,i≤zs.length∧a=N M i∧g=zs.length-i∧Ext b W∧base≤W.heap.size∧OwnC 3 1 W base v46 (zs.map ic)∧OwnR W base c ((zs.take i).map fun z:Int=>(z:Rat))
theorem zm6 (W:Z) (x:Int) (T:TypeId):∀(j:Nat) u,[ic x].flatten[j]?=I u→(W.alloc (H #[N M x] T)).cell? ((⟨W.heap.size,0,Y⟩:Oa).add j)=I u:=by
 intro j u a
 match j,a with
 | 0,a=>simp [ic]at a;subst a;simp [Addr.add]
 | j+1,a=>simp [ic]at a
theorem zmR (x:Int):∀u∈[ic x].flatten,u.oneCell'=true:=znM (zs:=[x])
theorem znd (W:Z) (base:Nat) (x y:Int) (h:base≤W.heap.size):OwnC 3 1 (W.alloc (H #[N M x,N M y] 3)) base (O (I ⟨W.heap.size,0,Y⟩) 2 2) ([x,y].map ic):=
 ⟨zjs,by simp [ic],.inr ⟨W.heap.size,2,_,rfl,h,aN _ _,by simp,by unfold maxLen;omega,by simp,by simp [ic]⟩⟩
theorem zbH (W:Z) {b:Nat} (l:b=W.heap.size) {e f:C} {ps h:List (Int×Int)} (j:IsPts W e ps) (k:IsPts W f h):Sl 99 1 (PSl 99) (W.alloc (H #[e,f] 99)) (O (I ⟨b,0,Y⟩) 2 2) [ps,h]:=by
 subst l;refine⟨[[e],[f]],rfl,by simp,⟨by simp,I ⟨W.heap.size,0,Y⟩,2,rfl,nE _,by unfold maxLen;omega,.inr ⟨W.heap.size,0,#[e,f],(0,0),rfl,aN _ _,?_⟩⟩,?_⟩
 ·intro i x a
  simpa using a
 ·intro i c x d a
  have g:Ext W (W.alloc (H #[e,f] 99)):=(eR W).alloc _
  match i,d,a with
  | 0,d,a=>simp at d a;subst d a;exact⟨_,rfl,j.ext' g⟩
  | 1,d,a=>simp at d a;subst d a;exact⟨_,rfl,k.ext' g⟩
  | i+2,d,a=>simp at d
theorem zmc (W:Z) (x y z:C) (T:TypeId):∀(j:Nat) u,[[x,y,z]].flatten[j]?=I u→(W.alloc (H #[x,y,z] T)).cell? ((⟨W.heap.size,0,Y⟩:Oa).add j)=I u:=by
 intro j u a
 match j,a with
 | 0,a=>simp at a;subst a;simp [Addr.add]
 | 1,a=>simp at a;subst a;simp [Addr.add]
 | 2,a=>simp at a;subst a;simp [Addr.add]
 | j+3,a=>simp at a
theorem OwnR.app {f wr:Z} {base:Nat} {k:C} {e:List Rat} {cs:List (List C)} {d:List C} {q:Rat} (h:OwnC 65 3 f base k (cs++[d])) (g:cs.length=e.length)
  (j:∀(i:Nat) c q,cs[i]?=I c→e[i]?=I q→PR wr c q) (n:KeepT 2 wr f) (l:IsR f (U d.toArray) q):OwnR f base k (e++[q]):=by
 refine⟨cs++[d],h,by simp [g],fun i c x a b=>?_⟩
 by_cases m:i<cs.length
 ·rw [List.getElem?_append_left m]at a
  rw [List.getElem?_append_left oM]at b;exact IsR.keep (j i c x a b) n
 ·rw [List.getElem?_append_right oM]at a b
  have o:=(lS.1 a).1;simp at o;have:i-cs.length=0:=oM
  rw [this]at a;rw [show i-e.length=0 by omega]at b;simp at a b;subst a b;exact l
theorem zex (w:Z) (v1 v2:C) (s:Sp) (h1:IsPts w v1 s.over) (h2:IsPts w v2 s.under) (aq:SpOk s) :
  Calls Tryz.prog 71 #[spc s v1 v2] w (RetRs w (stopsR s)):=by
 obtain⟨a1,m1,rfl⟩:=h1.form;obtain⟨a2,m2,rfl⟩:=h2.form;obtain⟨R,hR⟩:=gX (RetRs w (stopsR s));rw [hR];have HR:=hd9 hR;have bj:=hd9 aq;clear hR;unfold spc;obtain⟨n1,f1⟩:=gX s.over.length;obtain⟨n2,f2⟩:=gX s.under.length;obtain⟨lo,aA⟩:=gX s.lo;obtain⟨hi,az⟩:=gX s.hi;rw [f1]at h1 ⊢;rw [f2]at h2 ⊢;rw [aA,az];have aL:=hd9 aA;have aK:=hd9 az;have hn:(s.over++s.under).length=n1+n2:=by simp [f1,f2]
 have D:=hd9 hn;have q1:n1≤64:=by rw [←f1];exact aq.1.2.2
 have q2:n2≤64:=by rw [←f2];exact aq.2.1.2.2
 have H1:=hd9 (fun(W:Z) (hW:Ext w W)=>h1.ext' hW);have H2:=hd9 (fun(W:Z) (hW:Ext w W)=>h2.ext' hW);clear aq f1 f2 aA az hn h1 h2;go_enter Tryz.func71,Tryz.ntmps71;obtain⟨W0,an⟩:=gX ((w.alloc (H #[O a1 n1 m1,O a2 n2 m2,N M lo,N M hi] 120)));have hB:W0.heap[w.heap.size]?=I (H #[O a1 n1 m1,O a2 n2 m2,N M lo,N M hi] 120 (0,0)):=by rw [←an];exact aN _ _
 have bo:Ext w W0:=by rw [←an];exact(eR _).alloc _
 have aC:W0.heap.size=w.heap.size+1:=by rw [←an];simp
 have b0:=qcB hB (i:=0) (u:=O a1 n1 m1) rfl;have b1:=qcB hB (i:=1) (u:=O a2 n2 m2) rfl;have b2:=qcB hB (i:=2) (u:=N M lo) rfl;have b3:=qcB hB (i:=3) (u:=N M hi) rfl;have HP:=hd9 bo;have ab:=hd9 aC
 go_wp2_with(go_at_call 70;(with_reducible refine(zdN _ _ [s.over,s.under] (zbH _ ?_ (H1.out _ ?_) (H2.out _ ?_)) ?_).mono ?_);(simp only [wZ];have:=ab.out;omega);(exact HP.out.alloc _);(exact HP.out.alloc _);(have:=D.out;simp only [tot,List.flatten_cons,List.flatten_nil,List.append_nil];omega);rintro e w3 ⟨v3,rfl,n,au⟩;obtain⟨a3,n3,c3,rfl⟩:=n.form3;obtain⟨bp,bq⟩:=au.cells)
 rw [show [s.over,s.under].flatten=s.over++s.under by simp]at n;have bb:=n.pts;have aY:=n.len;rw [lL,D.out]at aY;subst aY;have aD:Ext W0 w3:=(((eR W0).alloc _).alloc _).trans au;have bg:=aD.size;have aa:=(((znd W0 W0.heap.size lo hi (nE _)).ext ((eR _).alloc (H #[O a1 n1 m1,O a2 n2 m2] 99))).ext au);rw [aC]at aa;clear bp bq au an b0 b1 b2 b3
 go_loopg [3,21] (n1+n2) (StS W0 (w.heap.size+1) s (O a3 (n1+n2) c3))
 case atStart =>
  refine⟨0,by omega,rfl,by rw [D.out];rfl,aD,by rw [←aC];exact bg,bb,?_⟩;rw [aL.out,aK.out,List.take_zero,show midP s []=[]from rfl];exact aa
 case round =>
  clear aa bb n aD bg;obtain⟨i,br,rfl,rfl,hx,ap,ar,a⟩:=hrel;rw [D.out]at br;obtain⟨bl,bh,aR,rfl⟩:=a.form3;have aZ:=zhu s ((s.over++s.under).take i);have a0:((s.over++s.under).take i).length≤i:=by simp;omega
  have ac:((s.lo::s.hi::midP s ((s.over++s.under).take i)).map ic).length≤200:=by simp;omega
  have b0:=hx.cellS (qcB hB (i:=0) (u:=O a1 n1 m1) rfl);have b1:=hx.cellS (qcB hB (i:=1) (u:=O a2 n2 m2) rfl);have b2:=hx.cellS (qcB hB (i:=2) (u:=N M lo) rfl);have b3:=hx.cellS (qcB hB (i:=3) (u:=N M hi) rfl);have f:=hd9 a;have Hx:=hd9 hx;have al:=hd9 ar;have aj:=hd9 ac;have Hb:=hd9 hB;have bB:=hx.size;have bA:w.heap.size<wr.heap.size:=by have:=ab.out;omega
  by_cases ae:i<n1+n2
  ·obtain⟨⟨x,z⟩,aI⟩:∃p,(s.over++s.under)[i]?=I p:=⟨(s.over++s.under)[i]'(by rw [D.out];exact ae),by simp [D.out,ae]⟩
   obtain⟨b,o,rfl,hb,c0,c1⟩:=ar.at' aI;have ba:=zjR (s:=s) aI;have ak:=hd9 ba;have aX:inP s x=(decide (lo<x)&&decide (x<hi)):=by unfold inP;rw [aL.out,aK.out]
   have ai:=hd9 aX;clear ba aI ar a hx aZ a0 aX hB
   by_cases hc:lo<x∧x<hi
   ·obtain⟨g1,g2⟩:=hc
    obtain⟨n3,bx⟩:=gX bh;have hE:midP s ((s.over++s.under).take (i+1))=midP s ((s.over++s.under).take i)++[x]:=by rw [ak.out];dsimp only;rw [ai.out];simp [g1,g2]
    have HE:=hd9 hE;clear hE ak ai
    go_wp2_with(at_builtin;refine appC (T:=3) (t:=186) (z:=N M 0) (k:=1) (bytes:=8) (base:=w.heap.size+1) (v:=O bl bh aR) (m:=1) (c:=1) (ad:=⟨wr.heap.size+1,0,Y⟩) zmT rfl dM dM Tryz.underlying186 rfl _ _ rfl rfl (f.out.ext eA) rfl [ic x] rfl (by simp [ic]) (by simpa using zm6 (wr.alloc (H #[N M x,N M z] 33)) x 3) (zmR x) (by have:=aj.out;omega) (by simp only [wZ];omega) ?_;intro v' w5 q l a6;obtain⟨a5,n5,c5,rfl⟩:=q.form3)
    go_roundg (n1+n2-(i+1))
    case measure=>have:=D.out;rw [lA]at this;omega
    case rel =>
     have r:Ext wr ((wr.alloc (H #[N M x,N M z] 33)).alloc (H #[N M x] 3)):=((eR wr).alloc _).alloc _;have K:=f.out.ext r;have af:=zah (base:=w.heap.size+1) l (by simp only [wZ];omega) (fun k hk=>(K.lt k hk).1);refine⟨i+1,by rw [D.out];omega,by go_num,by rw [D.out],(Hx.out.trans r).thenB af (by rw [ab.out];exact nE _),nT ap (nT r.size af.size),(al.out.ext' r).keep' (K.keepT dM l),?_⟩;rw [HE.out]
     simpa using q
   ·have hE:midP s ((s.over++s.under).take (i+1))=midP s ((s.over++s.under).take i):=by
     rw [ak.out];dsimp only;rw [ai.out,if_neg (by simp;omega),List.append_nil]
    have HE:=hd9 hE;clear hE ak ai
    by_cases g1:lo<x
    ·have g2:¬x<hi:=fun h=>hc ⟨g1,h⟩
     go_wp2
     go_roundg (n1+n2-(i+1))
     case measure=>have:=D.out;rw [lA]at this;omega
     case rel =>
      have r:Ext wr (wr.alloc (H #[N M x,N M z] 33)):=((eR wr).alloc _);refine⟨i+1,by rw [D.out];omega,by go_num,by rw [D.out],Hx.out.trans r,nT ap r.size,al.out.ext' r,?_⟩;rw [HE.out];exact f.out.ext r
    ·go_wp2
     go_roundg (n1+n2-(i+1))
     case measure=>have:=D.out;rw [lA]at this;omega
     case rel =>
      have r:Ext wr (wr.alloc (H #[N M x,N M z] 33)):=((eR wr).alloc _);refine⟨i+1,by rw [D.out];omega,by go_num,by rw [D.out],Hx.out.trans r,nT ap r.size,al.out.ext' r,?_⟩;rw [HE.out];exact f.out.ext r
  ·obtain rfl:i=n1+n2:=oM
   have hE:(s.over++s.under).take (n1+n2)=s.over++s.under:=lT (by rw [D.out];exact nE _);rw [hE]at a f ac aj;obtain⟨g,rfl,aU,bw⟩:=a.blk sM;have aJ:(s.lo::s.hi::midP s (s.over++s.under)).length≤200:=by rw [lL]at ac;exact ac
   have am:=hd9 aJ;obtain⟨L1,aB⟩:=gX ((s.lo::s.hi::midP s (s.over++s.under)));rw [aB]at a f ac aj aJ am;have aM:=hd9 aB;clear hE aB a aZ a0 ac ar hx hB
   go_wp2_with(first|(go_at_call 119;(with_reducible refine(zjB _ _ _ _ _ _ f.out ?_).mono ?_);(have:=am.out;omega);rintro e w5 ⟨rfl,q,aV⟩)|(go_at_call 120;(with_reducible refine(zfU _ _ _ _ _ _ q ?_).mono ?_);(have:=am.out;rw [zbE];omega);rintro e w6 ⟨rfl,y,aW⟩))
   have ao:=zah (base:=w.heap.size+1) aV oM (fun k hk=>by cases hk;exact aU);have aE:=zah (base:=w.heap.size+1) aW (nT ap ao.size) (fun k hk=>by cases hk;exact aU);have aS:Ext W0 w6:=(Hx.out.thenB ao (by rw [ab.out];exact nE _)).thenB aE (by rw [ab.out];exact nE _);have bd:w.heap.size+1≤w6.heap.size:=by have:=ao.size;have:=aE.size;omega
   obtain⟨zs,av⟩:=gX (compact (isort L1));have bt:zs.length≤200:=by rw [←av];have:=zbZ (isort L1);rw [zbE]at this;omega
   have ah:stopsZ s=zs:=by unfold stopsZ;rw [aM.out,av]
   have aO:=hd9 (zew bj.out);rw [ah]at aO;have aQ:=hd9 ah;rw [av]at y ⊢;obtain⟨m,hm⟩:=gX zs.length;rw [hm]at y bt ⊢;have Hm:=hd9 hm;clear hm av ah q aV aW ao aE f aM aJ am aj al b0 b1 b2 b3 Hb ae
   go_loopg [6,48] m (StT W0 (w.heap.size+1) zs (O (I ⟨g,0,Y⟩) m aR))
   case atStart=>exact⟨0,by omega,rfl,by rw [Hm.out];rfl,aS,bd,y,by simpa using OwnR.nil _ _⟩
   case round =>
    clear y aS bd;obtain⟨i,bs,rfl,rfl,hx,bv,a,hR⟩:=hrel;rw [Hm.out]at bs;obtain⟨cs,aH,aG,aT⟩:=hR;obtain⟨bm,bu,bn,rfl⟩:=aH.form3;have ay:=hd9 aH;have ax:=hd9 aT;have aw:=hd9 aG;have f:=hd9 a;have aP:=hd9 hx;have zg:=(a.lt g rfl).2
    by_cases ae:i<m
    ·obtain⟨z,hz⟩:∃z,zs[i]?=I z:=⟨zs[i]'(by rw [Hm.out];exact ae),by simp [Hm.out,ae]⟩
     have c0:=a.cell (i:=i) (j:=0) (d:=ic z) (u:=N M z) (by rw [lP,hz];rfl) rfl;simp only [Nat.mul_one,Nat.add_zero]at c0;have aF:=aO.out z (lM hz);have a4:cs.length≤200:=by rw [aG];simp;omega
     have bi:=hd9 a4;have HC:=hd9 (fun W=>zaM W z (by unfold Bd at aF;omega) (by unfold Bd at aF;omega));have be:(zs.take (i+1)).map (fun z:Int=>(z:Rat))=(zs.take i).map (fun z:Int=>(z:Rat))++[(z:Rat)]:=by rw [zab _ _ _ hz,List.map_append];rfl
     have bk:=hd9 be;clear be hz aH aT aG a hx aF a4
     go_wp2_with(first|(go_at_call 59;(with_reducible refine(HC.out _).mono ?_);rintro e w7 ⟨r7,rfl,bc,bf⟩;obtain⟨a7,m7,c7,s7,a8,m8,c8,rfl⟩:=bc.form)|(at_builtin;refine appC (T:=65) (t:=139) (z:=U #[O Y 0 0,V false,O Y 0 0]) (k:=3) (bytes:=56) (base:=w.heap.size+1) (v:=O bm bu bn) (m:=1) (c:=1) (ad:=⟨w7.heap.size,0,Y⟩) zjv rfl dM dM Tryz.underlying139 rfl _ _ rfl rfl (ay.out.ext eA) rfl [[O a7 m7 c7,V s7,O a8 m8 c8]] rfl sM (zmc _ _ _ _ _) (by simp [Value.oneCell']) (by have:=bi.out;omega) (by have:=bf.size;simp only [wZ,qdZ]at *;omega) ?_;intro v' w8 ag l a6;obtain⟨a9,n9,c9,rfl⟩:=ag.form3))
     go_roundg (m-(i+1))
     case measure=>have:=Hm.out;omega
     case rel =>
      have r:Ext wr (w7.alloc (H #[O a7 m7 c7,V s7,O a8 m8 c8] 65)):=(((eR wr).trans bf).alloc _);have K:=ay.out.ext r;have bz:=r.size;have af:=zah (base:=w.heap.size+1) l oM (fun k hk=>(K.lt k hk).1);refine⟨i+1,by rw [Hm.out];omega,by go_num,by rw [Hm.out],(aP.out.trans r).thenB af (by rw [ab.out];exact nE _),by have:=af.size;omega,(f.out.ext r).keep (K.keepT dM l),?_⟩;rw [bk.out];exact OwnR.app ag aw.out ax.out (r.keep.trans (K.keepT dM l)) (bc.keep (((eR w7).alloc _).keep.trans (K.keepT dM l)))
    ·obtain rfl:i=m:=oM
     have hE:zs.take i=zs:=lT (by rw [Hm.out];exact nE _);rw [hE]at ax aw;clear hE;go_wp2;rw [←HR.out];refine⟨_,rfl,?_,HP.out.trans aP.out⟩;unfold stopsR;rw [aQ.out];exact OwnR.mono ⟨cs,ay.out,aw.out,ax.out⟩ oM
theorem Rb.gap {s:Sp} {x:Rat} (a:Rb 1 x) (h:SpOk s):Rb 23 (gapR s x):=by
 unfold gapR;exact Rb.sub (k:=11) (a.atR h.1) (a.atR h.2.1)
theorem zaf {k:Nat} {q:Rat} (h:Rb k q) (a:k≤1000000):Rb limR q:=h.mono a
theorem zl6 (w:Z) (s:Sp) (c d e:C) (x:Rat) (f:IsPts w c s.over) (g:IsPts w d s.under) (a:SpOk s) (h:IsR w e x) (b:Rb 1 x) :
  Calls Tryz.prog 105 #[spc s c d,e] w (RetR w (gapR s x)):=
 zmM w s c d e x f g a.1 a.2.1 h (b.mono oM) (zaf (b.atR a.1) oM) (zaf (b.atR a.2.1) oM)
theorem zas {s:Sp} (h:SpOk s):∀q∈stopsR s,Rb 1 q:=by
 intro q a;obtain⟨z,b,rfl⟩:=List.mem_map.1 a;exact zau (zew h z b)
def bestStep (f:Rat→Rat) (o:Rat×Rat) (x:Rat):Rat×Rat:=if rcmp (f x) o.2<0 then (x,f x)else o
def bestR (f:Rat→Rat):List Rat→Rat×Rat
 | []=>(0,0)
 | x::xs=>xs.foldl (bestStep f) (x,f x)
theorem zeK (f:Rat→Rat) (xs:List Rat) (x:Rat) (h:xs≠[]):bestR f (xs++[x])=bestStep f (bestR f xs) x:=by
 cases xs with
 | nil=>exact absurd rfl h
 | cons y a=>simp [bestR]
theorem zav (f:Rat→Rat) {xs:List Rat} (h:xs≠[]):(bestR f xs).1∈xs∧(bestR f xs).2=f (bestR f xs).1:=by
 cases xs with
 | nil=>exact absurd rfl h
 | cons x xs =>
  have:∀(b:List Rat) (a:Rat×Rat),a.2=f a.1→(b.foldl (bestStep f) a).2=f (b.foldl (bestStep f) a).1∧((b.foldl (bestStep f) a).1=a.1∨(b.foldl (bestStep f) a).1∈b):=by
   intro b
   induction b with
   | nil=>intro a h;exact⟨h,.inl rfl⟩
   | cons y b j =>
    intro a g;rw [List.foldl_cons];have i:(bestStep f a y).2=f (bestStep f a y).1:=by unfold bestStep;split<;>first|rfl|exact g
    obtain⟨c,d⟩:=j _ i;refine⟨c,?_⟩
    rcases d with e|e
    ·rw [e]
     unfold bestStep
     split
     ·exact .inr sM
     ·exact .inl rfl
    ·exact .inr (mC _ e)
  obtain⟨c,d⟩:=this xs (x,f x) rfl;refine⟨?_,c⟩
  rcases d with e|e
  ·show (xs.foldl (bestStep f) (x,f x)).1∈_;rw [e];simp
  ·exact mC _ e
def RetR2 (w:Z) (p q:Rat) (e:Ending) (w':Z):Prop:=∃r s,e = .returned (.tuple #[r,s])∧IsR w' r p∧IsR w' s q∧Ext w w'
theorem CellL.set3d {L:List (Oa×C)} {W:Z} {b:Nat} (h:CellL L W.drew) (a:∀q∈L,b≠q.1.block) (u v t:C):CellL L (((W.setCell ⟨b,0,Y⟩ u).setCell ⟨b,1,Y⟩ v).setCell ⟨b,2,Y⟩ t).drew:=
 CellL.set3 h a u v t
theorem RB.put3 {W W':Z} {d:Nat} {p v:Rat} {a i:Option Oa} {m c j c2:Nat} {s:Bool} (h:RB W d v) (u:IsR W (U #[O a m c,V s,O i j c2]) p)
  (f:((W.setCell ⟨d,0,Y⟩ (O a m c)).setCell ⟨d,1,Y⟩ (V s)).setCell ⟨d,2,Y⟩ (O i j c2)=W'):RB W' d p∧(∀b r,b≠d→RB W b r→RB W' b r)∧KeepT 2 W W'∧W'.heap.size=W.heap.size∧(∀w:Z,Ext w W→w.heap.size≤d→Ext w W'):=by
 have e:=h.not;have t:=h.put u;rw [f]at t;refine⟨t,fun b r l k=>?_,?_,?_,fun w k n=>?_⟩
 ·have o:=k.other (p:=⟨d,0,Y⟩) (Ne.symm l) e (O a m c)
  have q:=o.other (p:=⟨d,1,Y⟩) (Ne.symm l) (e.set _ _) (V s);have g:=q.other (p:=⟨d,2,Y⟩) (Ne.symm l) ((e.set _ _).set _ _) (O i j c2);rw [f]at g;exact g
 ·have o:=(KeepT.refl 2 W).setN (p:=⟨d,0,Y⟩) e (O a m c)
  have q:=o.setN (p:=⟨d,1,Y⟩) (e.set _ _) (V s);have g:=q.setN (p:=⟨d,2,Y⟩) ((e.set _ _).set _ _) (O i j c2);rw [f]at g;exact g
 ·rw [←f];simp
 ·rw [←f];exact((k.set n _).set n _).set n _
theorem RB.copy2 {W D g:Z} {d f:Nat} {p q p' q':Rat} {a i e e2:Option Oa} {m c m2 c2 n k n2 k2:Nat} {s t:Bool} (h1:RB W d p') (h2:RB W f q') (j:d≠f)
  (y:IsR W (U #[O a m c,V s,O i m2 c2]) p) (z:IsR W (U #[O e n k,V t,O e2 n2 k2]) q)
  (l:((W.setCell ⟨d,0,Y⟩ (O a m c)).setCell ⟨d,1,Y⟩ (V s)).setCell ⟨d,2,Y⟩ (O i m2 c2)=D)
  (o:((D.setCell ⟨f,0,Y⟩ (O e n k)).setCell ⟨f,1,Y⟩ (V t)).setCell ⟨f,2,Y⟩ (O e2 n2 k2)=g) :
  RB g d p∧RB g f q∧(∀b r,b≠d→b≠f→RB W b r→RB g b r)∧KeepT 2 W g∧g.heap.size=W.heap.size∧(∀w:Z,Ext w W→w.heap.size≤d→w.heap.size≤f→Ext w g):=by
 obtain⟨a1,i,K,a4,a5⟩:=h1.put3 y l;obtain⟨b1,T,b3,b4,b5⟩:=(i _ _ (Ne.symm j) h2).put3 (z.keep K) o;exact⟨T _ _ j a1,b1,fun b r hb u h=>T _ _ u (i _ _ hb h),K.trans b3,b4.trans a4,fun w k v x=>b5 w (a5 w k v) x⟩
def BeS (w:Z) (f:Rat→Rat) (a:List Rat) (g:Nat) (b:C) (W:Z):Prop:=
 ∃i:Nat,i≤a.length∧b=N M i∧g=a.length-i∧Ext w W∧RB W w.heap.size 0∧RB W (w.heap.size+1) 0∧RB W (w.heap.size+1+1) (bestR f (a.take i)).1∧RB W (w.heap.size+1+1+1) (bestR f (a.take i)).2
theorem zk3 (w:Z) (v v1 v2:C) (s:Sp) (qs:List Rat) (hs:IsRs w v qs) (h1:IsPts w v1 s.over) (h2:IsPts w v2 s.under) (an:SpOk s) (hq:∀q∈qs,Rb 1 q) :
  Calls Tryz.prog 77 #[v,.func (.func 105) #[spc s v1 v2] #[]] w (RetR2 w (bestR (gapR s) qs).1 (bestR (gapR s) qs).2):=by
 obtain⟨a,c,rfl⟩:=hs.form;obtain⟨n,hn⟩:=gX qs.length;rw [hn]at hs ⊢;have aM:=hs.le;unfold maxLen at aM;have Hn:=hd9 hn;have Hq:=hd9 hq;have ay:=hd9 an;have aV:n≤9223372036854775807:=oM
 have HG:=hd9 (fun(W:Z) (hW:Ext w W) (vx:C) (x:Rat) (hx:IsR W vx x) (hb:Rb 1 x)=>zl6 W s v1 v2 vx x (h1.ext' hW) (h2.ext' hW) an hx hb);obtain⟨sv,aO⟩:=gX (spc s v1 v2);rw [aO]at HG ⊢;obtain⟨R,hR⟩:=gX (RetR2 w (bestR (gapR s) qs).1 (bestR (gapR s) qs).2);rw [hR];have HR:=hd9 hR;clear hn hq aM aO an hR;go_enter Tryz.func77,Tryz.ntmps77;go_wp2
 go_loopg [13] n (BeS w (gapR s) qs)
 case atStart =>
  have z:∀W,IsR W (U #[O Y 0 0,V false,O Y 0 0]) 0:=fun W=>IsR.zero _
  exact⟨0,by omega,rfl,by rw [Hn.out];rfl,eA,(RB.new (z w) rfl).ext ((((eR _).alloc _).alloc _).alloc _),(RB.new (z _) sM).ext (((eR _).alloc _).alloc _),(RB.new (z _) sM).ext ((eR _).alloc _),RB.new (z _) sM⟩
 case round =>
  obtain⟨i,hi,rfl,rfl,hx,hA,hB,hC,hD⟩:=hrel;rw [Hn.out]at hi;have Hx:=hd9 hx;have HA:=hd9 hA;have HB:=hd9 hB;have HC:=hd9 hC;have HD:=hd9 hD
  by_cases aS:i<n
  ·obtain⟨x,al⟩:∃x,qs[i]?=I x:=⟨qs[i]'(by rw [Hn.out];omega),by simp [Hn.out,aS]⟩
   obtain⟨b,o,a3,m3,c3,s3,a4,m4,c4,rfl,aU,ae,e0,e1,e2⟩:=(hs.ext' hx).at' al;have az:=hd9 al;have aJ:=Hq.out x (lM al);have ai:=hd9 aJ;clear al hA hB hC hx aJ;obtain⟨d1,dm,dc,ds,d2,aH,aD,aA,aB,aC,aE,aF,aG,zD,am⟩:=hD.rd
   by_cases h0:i=0
   ·have aQ:((i:Int)==0)=true:=by simp;omega
    have H0:=hd9 h0;clear h0 hD
    go_wp2_with(((go_at_call 105;(with_reducible refine(HG.out _ ?_ (U #[O a3 m3 c3,V s3,O a4 m4 c4]) x ?_ ai.out).mono ?_);(refine Ext.trans Hx.out ?_;exact eA);(refine ae.ext ?_;exact eA);rintro e w1 ⟨r1,rfl,T,f⟩;obtain⟨b1,n1,k1,t1,b2,n2,k2,rfl⟩:=T.form;obtain⟨aj,ak⟩:=f.cells;(have z1:wr.heap.size<w1.heap.size:=(by have:=f.size;simp only [wZ]at this;omega)))))
    obtain⟨W8,ag⟩:=gX ((w1.alloc (H #[O b1 n1 k1,V t1,O b2 n2 k2] 65)));have d:Ext wr W8:=by rw [←ag];exact(((eR _).alloc _).trans f).alloc _
    have g1:RB W8 wr.heap.size x:=by rw [←ag];exact((RB.new ae rfl).ext f).ext ((eR _).alloc _)
    have g2:RB W8 w1.heap.size (gapR s x):=by rw [←ag];exact RB.new T rfl
    have g3:=HC.out.ext d;have g4:=HD.out.ext d;have zW:=d.size;obtain⟨s1,ah⟩:=gX w1.heap.size;rw [ag];simp only [ah]at *;clear ag aj ak T f am aA aB aC aE aF aG ah e0 e1 e2 ae;obtain⟨pa,pm,l,ps,j,p,m,p0,p1,p2,_,_,_,pz,hp⟩:=(g1).rd;obtain⟨qa,qm,qc,y,r,u,t,q0,q1,q2,_,_,_,qz,af⟩:=(g2).rd;obtain⟨_,_,_,_,_,_,_,x0,x1,x2,ao,ap,aq,xz,_⟩:=(g3).rd;obtain⟨_,_,_,_,_,_,_,y0,y1,y2,ar,au,av,yz,_⟩:=(g4).rd;refine wp_region_held_drew (S:=CellL [(⟨wr.heap.size,0,Y⟩,O pa pm l),(⟨wr.heap.size,1,Y⟩,V ps),(⟨wr.heap.size,2,Y⟩,O j p m),(⟨s1,0,Y⟩,O qa qm qc),(⟨s1,1,Y⟩,V y),(⟨s1,2,Y⟩,O r u t)]) kM cA (fun g=>?_);refine sN 0 ?_
    iterate 2
     refine tkn ?_
    refine oN ?_
    have aa:∀q∈[((⟨wr.heap.size,0,Y⟩:Oa),Value.slice pa pm l),(⟨wr.heap.size,1,Y⟩,V ps),(⟨wr.heap.size,2,Y⟩,O j p m),(⟨s1,0,Y⟩,O qa qm qc),(⟨s1,1,Y⟩,V y),(⟨s1,2,Y⟩,O r u t)],w.heap.size+1+1≠q.1.block:=by
     intro q hq;simp at hq
     rcases hq with rfl|rfl|rfl|rfl|rfl|rfl<;>(dsimp only;omega)
    have ab:∀q∈[((⟨wr.heap.size,0,Y⟩:Oa),Value.slice pa pm l),(⟨wr.heap.size,1,Y⟩,V ps),(⟨wr.heap.size,2,Y⟩,O j p m),(⟨s1,0,Y⟩,O qa qm qc),(⟨s1,1,Y⟩,V y),(⟨s1,2,Y⟩,O r u t)],w.heap.size+1+1+1≠q.1.block:=by
     intro q hq;simp at hq
     rcases hq with rfl|rfl|rfl|rfl|rfl|rfl<;>(dsimp only;omega)
    refine cl1 (i:=2) fun K hK=>?_
    go_simp;refine kO hK (CellL.set3d g aa _ _ _) (fun g=>?_);clear hK K;refine cl1 (i:=3) fun K hK=>?_
    go_simp;refine kO hK (CellL.set3d g ab _ _ _) (fun g=>?_);clear hK K;refine wpAnyH_done kM ?_ _
    have e:bestR (gapR s) (qs.take (i+1))=(x,gapR s x):=by
     have:=H0.out;subst this;rw [zab _ _ _ az.out];simp [bestR]
    have E:=hd9 e;have ad:=hd9 d;have P:=hd9 (RB.copy2 g3 g4 oM hp af rfl rfl);clear e d g1 g2 g3 g4;go_wp2
    go_roundg (n-(i+1))
    case measure=>have:=Hn.out;omega
    case rel =>
     obtain⟨P1,P2,P3,P4,P5,P6⟩:=P.out;have D:=fun W=>(eR W).drew
     exact⟨i+1,by rw [Hn.out];omega,by go_num,by rw [Hn.out],(P6 w (Hx.out.trans ad.out) oM oM).drew,
      (P3 _ _ oM oM (HA.out.ext ad.out)).ext (D _),(P3 _ _ oM oM (HB.out.ext ad.out)).ext (D _),by rw [E.out];exact P1.ext (D _),by rw [E.out];exact P2.ext (D _)⟩
   ·have aQ:((i:Int)==0)=false:=by simp;omega
    have H0:=hd9 h0;clear h0 hD
    have aI:Rb 23 (bestR (gapR s) (qs.take i)).2:=by
     have aT:qs.take i≠[]:=fun h=>by
      have h2:(qs.take i).length=0:=by rw [h];rfl
      rw [List.length_take,Hn.out]at h2;have:=H0.out;omega
     obtain⟨j1,j2⟩:=zav (gapR s) aT;rw [j2];exact Rb.gap (Hq.out _ (List.mem_of_mem_take j1)) ay.out
    have aP:=hd9 aI;clear aI
    have e:bestR (gapR s) (qs.take (i+1))=bestStep (gapR s) (bestR (gapR s) (qs.take i)) x:=by
     rw [zab _ _ _ az.out,zeK];intro h;have h2:(qs.take i).length=0:=by rw [h];rfl
     rw [List.length_take,Hn.out]at h2;have:=H0.out;omega
    have E:=hd9 e;clear e;obtain⟨k,hk⟩:=gX (rcmp (gapR s x) (bestR (gapR s) (qs.take i)).2);have Hk:=hd9 hk;have aw:=hd9 (zaf (Rb.gap ai.out ay.out) oM);have ax:=hd9 (zaf aP.out oM);clear hk;have aW:w.heap.size+1+1+1<wr.heap.size+1:=oM
    by_cases aR:k<0
    ·go_wp2_with(first|(go_at_call 105;(with_reducible refine(HG.out _ ?_ (U #[O a3 m3 c3,V s3,O a4 m4 c4]) x ?_ ai.out).mono ?_);(refine Ext.trans Hx.out ?_;exact eA);(refine ae.ext ?_;exact eA);rintro e w1 ⟨r1,rfl,T,f⟩;obtain⟨b1,n1,k1,t1,b2,n2,k2,rfl⟩:=T.form;obtain⟨aj,ak⟩:=f.cells;(have z1:wr.heap.size<w1.heap.size:=(by have:=f.size;simp only [wZ]at this;omega));(have z2:w.heap.size+1+1+1<w1.heap.size:=oM))|(go_at_call 19;(with_reducible refine(zan _ (U #[O b1 n1 k1,V t1,O b2 n2 k2]) (U #[O d1 dm dc,V ds,O d2 aH aD]) _ _ (T.ext ?_) (am.ext ?_) aw.out ax.out).mono ?_);exact eA;exact eA;rintro e w3 ⟨rfl,ac⟩;(try rw [Hk.out]);obtain⟨aK,aL⟩:=ac.cells))
     have d:Ext wr w3:=((((eR _).alloc _).trans f).alloc _).trans ac;have g1:RB w3 wr.heap.size x:=(((RB.new ae rfl).ext f).ext ((eR _).alloc _)).ext ac;have g2:RB w3 w1.heap.size (gapR s x):=(RB.new T rfl).ext ac;have g3:=HC.out.ext d;have g4:=HD.out.ext d;have zW:=d.size;obtain⟨s1,ah⟩:=gX w1.heap.size;simp only [ah]at *;clear aj ak T f ac aK aL am aA aB aC aE aF aG ah e0 e1 e2 ae;obtain⟨pa,pm,l,ps,j,p,m,p0,p1,p2,_,_,_,pz,hp⟩:=(g1).rd;obtain⟨qa,qm,qc,y,r,u,t,q0,q1,q2,_,_,_,qz,af⟩:=(g2).rd;obtain⟨_,_,_,_,_,_,_,x0,x1,x2,ao,ap,aq,xz,_⟩:=(g3).rd;obtain⟨_,_,_,_,_,_,_,y0,y1,y2,ar,au,av,yz,_⟩:=(g4).rd;refine wp_region_held_drew (S:=CellL [(⟨wr.heap.size,0,Y⟩,O pa pm l),(⟨wr.heap.size,1,Y⟩,V ps),(⟨wr.heap.size,2,Y⟩,O j p m),(⟨s1,0,Y⟩,O qa qm qc),(⟨s1,1,Y⟩,V y),(⟨s1,2,Y⟩,O r u t)]) kM cA (fun g=>?_);refine sN 0 ?_
     iterate 2
      refine tkn ?_
     refine oN ?_
     have aa:∀q∈[((⟨wr.heap.size,0,Y⟩:Oa),Value.slice pa pm l),(⟨wr.heap.size,1,Y⟩,V ps),(⟨wr.heap.size,2,Y⟩,O j p m),(⟨s1,0,Y⟩,O qa qm qc),(⟨s1,1,Y⟩,V y),(⟨s1,2,Y⟩,O r u t)],w.heap.size+1+1≠q.1.block:=by
      intro q hq;simp at hq
      rcases hq with rfl|rfl|rfl|rfl|rfl|rfl<;>(dsimp only;omega)
     have ab:∀q∈[((⟨wr.heap.size,0,Y⟩:Oa),Value.slice pa pm l),(⟨wr.heap.size,1,Y⟩,V ps),(⟨wr.heap.size,2,Y⟩,O j p m),(⟨s1,0,Y⟩,O qa qm qc),(⟨s1,1,Y⟩,V y),(⟨s1,2,Y⟩,O r u t)],w.heap.size+1+1+1≠q.1.block:=by
      intro q hq;simp at hq
      rcases hq with rfl|rfl|rfl|rfl|rfl|rfl<;>(dsimp only;omega)
     refine cl1 (i:=2) fun K hK=>?_
     go_simp;refine kO hK (CellL.set3d g aa _ _ _) (fun g=>?_);clear hK K;refine cl1 (i:=3) fun K hK=>?_
     go_simp;refine kO hK (CellL.set3d g ab _ _ _) (fun g=>?_);clear hK K;refine wpAnyH_done kM ?_ _;have e:bestStep (gapR s) (bestR (gapR s) (qs.take i)) x=(x,gapR s x):=by unfold bestStep;rw [Hk.out,if_pos aR]
     have E':=hd9 (E.out.trans e);have ad:=hd9 d;have P:=hd9 (RB.copy2 g3 g4 oM hp af rfl rfl);clear e d g1 g2 g3 g4;go_wp2
     go_roundg (n-(i+1))
     case measure=>have:=Hn.out;omega
     case rel =>
      obtain⟨P1,P2,P3,P4,P5,P6⟩:=P.out;have D:=fun W=>(eR W).drew
      exact⟨i+1,by rw [Hn.out];omega,by go_num,by rw [Hn.out],(P6 w (Hx.out.trans ad.out) oM oM).drew,
       (P3 _ _ oM oM (HA.out.ext ad.out)).ext (D _),(P3 _ _ oM oM (HB.out.ext ad.out)).ext (D _),by rw [E'.out];exact P1.ext (D _),by rw [E'.out];exact P2.ext (D _)⟩
    ·go_wp2_with(first|(go_at_call 105;(with_reducible refine(HG.out _ ?_ (U #[O a3 m3 c3,V s3,O a4 m4 c4]) x ?_ ai.out).mono ?_);(refine Ext.trans Hx.out ?_;exact eA);(refine ae.ext ?_;exact eA);rintro e w1 ⟨r1,rfl,T,f⟩;obtain⟨b1,n1,k1,t1,b2,n2,k2,rfl⟩:=T.form;obtain⟨aj,ak⟩:=f.cells;(have z1:wr.heap.size<w1.heap.size:=(by have:=f.size;simp only [wZ]at this;omega));(have z2:w.heap.size+1+1+1<w1.heap.size:=oM))|(go_at_call 19;(with_reducible refine(zan _ (U #[O b1 n1 k1,V t1,O b2 n2 k2]) (U #[O d1 dm dc,V ds,O d2 aH aD]) _ _ (T.ext ?_) (am.ext ?_) aw.out ax.out).mono ?_);exact eA;exact eA;rintro e w3 ⟨rfl,ac⟩;(try rw [Hk.out]);obtain⟨aK,aL⟩:=ac.cells))
     have d:Ext wr w3:=((((eR _).alloc _).trans f).alloc _).trans ac;have e:bestStep (gapR s) (bestR (gapR s) (qs.take i)) x=bestR (gapR s) (qs.take i):=by unfold bestStep;rw [Hk.out,if_neg oM]
     have E':=hd9 (E.out.trans e)
     go_roundg (n-(i+1))
     case measure=>have:=Hn.out;omega
     case rel=>exact⟨i+1,by rw [Hn.out];omega,by go_num,by rw [Hn.out],Hx.out.trans d,HA.out.ext d,HB.out.ext d,by rw [E'.out];exact HC.out.ext d,by rw [E'.out];exact HD.out.ext d⟩
  ·obtain rfl:i=n:=oM
   have e:qs.take i=qs:=lT (by rw [Hn.out];exact nE _);rw [e]at hC hD HC HD;clear e;have zW:=hx.size;have zD:w.heap.size+1+1+1<wr.heap.size:=by obtain⟨_,_,_,_,_,_,_,_,_,_,_,_,_,z,_⟩:=hD.rd;exact z
   go_wp2;obtain⟨pa,pm,l,ps,j,p,m,p0,p1,p2,_,_,_,pz,hp⟩:=(hC).rd;obtain⟨qa,qm,qc,y,r,u,t,q0,q1,q2,_,_,_,qz,af⟩:=(hD).rd;obtain⟨_,_,_,_,_,_,_,x0,x1,x2,ao,ap,aq,xz,_⟩:=(hA).rd;obtain⟨_,_,_,_,_,_,_,y0,y1,y2,ar,au,av,yz,_⟩:=(hB).rd;refine wp_region_held_drew (S:=CellL [(⟨w.heap.size+1+1,0,Y⟩,O pa pm l),(⟨w.heap.size+1+1,1,Y⟩,V ps),(⟨w.heap.size+1+1,2,Y⟩,O j p m),(⟨w.heap.size+1+1+1,0,Y⟩,O qa qm qc),(⟨w.heap.size+1+1+1,1,Y⟩,V y),(⟨w.heap.size+1+1+1,2,Y⟩,O r u t)]) kM cA (fun g=>?_);refine sN 0 ?_
   iterate 2
    refine tkn ?_
   refine oN ?_
   have aa:∀q∈[((⟨w.heap.size+1+1,0,Y⟩:Oa),Value.slice pa pm l),(⟨w.heap.size+1+1,1,Y⟩,V ps),(⟨w.heap.size+1+1,2,Y⟩,O j p m),(⟨w.heap.size+1+1+1,0,Y⟩,O qa qm qc),(⟨w.heap.size+1+1+1,1,Y⟩,V y),(⟨w.heap.size+1+1+1,2,Y⟩,O r u t)],w.heap.size≠q.1.block:=by
    intro q hq;simp at hq
    rcases hq with rfl|rfl|rfl|rfl|rfl|rfl<;>(dsimp only;omega)
   have ab:∀q∈[((⟨w.heap.size+1+1,0,Y⟩:Oa),Value.slice pa pm l),(⟨w.heap.size+1+1,1,Y⟩,V ps),(⟨w.heap.size+1+1,2,Y⟩,O j p m),(⟨w.heap.size+1+1+1,0,Y⟩,O qa qm qc),(⟨w.heap.size+1+1+1,1,Y⟩,V y),(⟨w.heap.size+1+1+1,2,Y⟩,O r u t)],w.heap.size+1≠q.1.block:=by
    intro q hq;simp at hq
    rcases hq with rfl|rfl|rfl|rfl|rfl|rfl<;>(dsimp only;omega)
   refine cl1 (i:=2) fun K hK=>?_
   go_simp;refine kO hK (CellL.set3d g aa _ _ _) (fun g=>?_);clear hK K;refine cl1 (i:=3) fun K hK=>?_
   go_simp;refine kO hK (CellL.set3d g ab _ _ _) (fun g=>?_);clear hK K;refine wpAnyH_done kM ?_ _;have P:=hd9 (RB.copy2 hA hB oM hp af rfl rfl);go_wp2;refine bR (v:=.tuple #[U #[O pa pm l,V ps,O j p m],U #[O qa qm qc,V y,O r u t]]) (by simp [results,Tryz.results77,go_sem,x0,x1,x2,ao,ap,aq,y0,y1,y2,ar,au,av]) rfl ?_;rw [←HR.out];obtain⟨P1,P2,P3,P4,P5,P6⟩:=P.out;exact⟨_,_,rfl,(hp.keep P4).ext (eR _).drew,(af.keep P4).ext (eR _).drew,(P6 w Hx.out oM oM).drew⟩
end
end Go.Proofs.YtodpfeaihohpjaaGreatDoor.Cop
