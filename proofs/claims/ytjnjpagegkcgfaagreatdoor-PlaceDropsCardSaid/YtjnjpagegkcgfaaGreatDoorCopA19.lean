/- Part 20: contracts of what the law calls. -/
import Derived.Test.YtjnjpagegkcgfaaGreatDoorCopA18
import Derived.Test.YtjnjpagegkcgfaaGreatDoorCopA09
import Derived.Test.YtjnjpagegkcgfaaGreatDoorCopA04
import Derived.Test.YtjnjpagegkcgfaaGreatDoorCopA01
import Derived.Sort.OwnSortedInts
set_option maxRecDepth 1000000
set_option maxHeartbeats 16000000
set_option linter.unusedSimpArgs false
set_option linter.unusedVariables false
open Go renaming World→O,Value→C,Act→Oa,Addr→Oe
open Go.Value renaming slice→Y,int→M,bool→U,agg→Ob,pointer→Oc
open Option renaming some→Z,none→V
open Go.IntKind renaming i64→I
namespace Go.Proofs.YtjnjpagegkcgfaaGreatDoor.Cop
section
open Go.RowKit Go.Shelf
attribute [local go_sem] Oper.semAt_some
abbrev Edg:=(Int×Int)×(Int×Int)
def eds (l:List (Int×Int)):List Edg:=l.zip l.tail
def ence (e:Edg):Array C:=#[Ob #[M I e.1.1,M I e.1.2],Ob #[M I e.2.1,M I e.2.2]]
theorem zji (l:List (Int×Int)):(eds l).length=l.length-1:=by simp [eds]
theorem zgs {l:List (Int×Int)} {j:Nat} {p q:Int×Int} (a:l[j]?=Z p) (b:l[j+1]?=Z q):(eds l)[j]?=Z (p,q):=by
 unfold eds;rw [List.getElem?_zip_eq_some];exact⟨a,by rw [List.getElem?_tail];exact b⟩
theorem zfz (w:O) (sl:Option Oe) (n c:Nat) :
  Calls Tryz.prog 148 #[Y sl n c] w fun e d=>e = .returned (.func (.func 196) #[] #[Oc (Z ⟨w.heap.size,0,V⟩)])∧w.alloc (.cells #[Y sl n c] 121)=d:=by
 have b:∀(a:Fn) (first cap:Array C) (w:O),(Instr.makeFunc a first cap).run Tryz.prog w = .ok (.func a first cap) w:=fun _ _ _ _=>rfl
 go_enter Tryz.func148,Tryz.ntmps148;go_wp2;go_ret;exact⟨rfl,rfl⟩
theorem znG {F:Fence} {m:Nat} {P:Program} {l:Nat} {a:FuncId} {tmps:Array C} {assign body:Code} {W:O} {A B:O→Prop}
  (h:RoundIn F m P l a tmps assign body W fun e W'=>(e = .returned (U true)∧A W')∨(e = .returned (U false)∧B W')) :
  RoundIn F m P l a tmps assign body W fun e W'=>∃b:Bool,e = .returned (U b)∧(b=true→A W')∧(b=false→B W'):=
 h.mono fun e W' h=>by
  rcases h with ⟨rfl,h⟩|⟨rfl,h⟩
  ·exact⟨true,rfl,fun _=>h,fun h=>nomatch h⟩
  ·exact⟨false,rfl,fun h=>(nomatch h),fun _=>h⟩
theorem zjf {β:Type} (f:β→Edg) (n:Nat) (hn:1≤n) (l g:Nat) (w w0:O) (sl:C) (ps:List (Int×Int)) (d:List β) (t:d.map f=eds ps) (J Jx:List β→O→Prop)
  (hY:∀pre x W,J pre W→pre.length<d.length→YieldAt Fence.wide (n-1) Tryz.prog l (ence (f x)) W fun e W' =>
   (e = .returned (U true)∧J (pre++[x]) W'∧KpW w g W W')∨(e = .returned (U false)∧Jx (pre++[x]) W'))
  (ab:∀pre W,J pre W→J pre W.drew) (i:w0.cell? ⟨g,0,V⟩=Z sl) (ad:g<w0.heap.size) (D:IsPts w sl ps) (hw:Ext w w0) (W:O) (hW:KpW w g w0 W) (h0:J [] W) :
  CallsIn Fence.wide n Tryz.prog 196 #[.func (.yield l) #[] #[],Oc (Z ⟨g,0,V⟩)] W fun e W'=>(∃v,e = .returned v) ∧
   ((∃ys,ys=d∧J ys W')∨(∃pre,pre <+: d∧Jx pre W')):=by
 obtain⟨a,c,rfl⟩:=D.form;have k:=D.le;obtain⟨m,L⟩:=gX ps.length;rw [L]at D i k;have h:d.length=m-1:=by have:=congrArg List.length t;rw [lL,zji,L]at this;exact this
 rw [h]at hY;unfold maxLen at k;have aj:m≤9223372036854775807:=oM
 have Hm:=hd9 L;clear L k;have af:W.cell? ⟨g,0,V⟩=Z (Y a m c):=(World.cell?_of_block hW.2).trans i;refine callsIn_of_wp Tryz.func196 rfl trivial ?_ rfl;simp only [Tryz.ntmps196,List.size_toArray,List.length_cons,List.length_nil,Nat.reduceAdd,Nat.reduceSub,Array.replicate_succ,Array.replicate_zero,List.push_toArray,List.append_toArray,List.nil_append,List.cons_append]
 gi_wp2
 gi_loopw [3] (fun t3 wr=>∃j:Nat,j≤m∧t3=M I ((j+1:Nat):Int)∧J (d.take j) wr∧KpW w g w0 wr)
  (fun t3 _=>(m+1-intOf t3).toNat)
 case atStart=>exact⟨0,by omega,rfl,by simpa using h0,hW⟩
 case round =>
  obtain⟨j,hj,rfl,hJ,r⟩:=hrel;have ag:wr.cell? ⟨g,0,V⟩=Z (Y a m c):=(World.cell?_of_block r.2).trans i
  by_cases ai:j+1<m
  ·obtain⟨⟨x,z⟩,hp⟩:∃q,ps[j]?=Z q:=⟨ps[j]'(by rw [Hm.out];omega),by simp⟩
   obtain⟨⟨x',z'⟩,hq⟩:∃q,ps[j+1]?=Z q:=⟨ps[j+1]'(by rw [Hm.out];omega),by simp⟩;have he:=zgs hp hq;obtain⟨y,p⟩:∃y,d[j]?=Z y:=⟨d[j]'(by rw [h];omega),by simp⟩
   have u:f y=((x,z),(x',z')):=by
    rw [←t,lP,p]at he;exact Option.some.inj he
   obtain⟨b,o,rfl,hb,d0,d1⟩:=(D.ext' (hw.thenB r.1 (nE _))).at' hp;obtain⟨b',o',e',ah,d2,d3⟩:=(D.ext' (hw.thenB r.1 (nE _))).at' hq
   cases e'
   obtain⟨fn,tmps,assign,body,hy,hR⟩:=hY _ y wr.drew (ab _ _ hJ) (by rw [List.length_take,h];omega);have K:d.take j++[y]=d.take (j+1):=(zab _ _ _ p).symm;rw [K]at hR;have s:=znG hR;have HR:=hd9 s;have u1:((j+1:Nat):Int)-1=(j:Int):=oM
   have u2:IntKind.i64.wrap ((j:Int)+1-1)=(j:Int):=by rw [show (j:Int)+1-1=j by omega];exact iW _ ⟨by omega,by omega⟩
   have u6:IntKind.i64.wrap (j:Int)=(j:Int):=iW _ ⟨by omega,by omega⟩;have u3:(0:Int)≤(j:Int)+1:=oM
   have u4:(j:Int)+1<(m:Int):=oM
   have u5:((j:Int)+1).toNat=j+1:=oM
   have p1:(0:Int)≤(j:Int):=oM
   have p2:(j:Int)<(m:Int):=oM
   have p3:((j+1:Nat):Int)<(m:Int):=oM
   rw [u]at hy;clear hR s K hp hq he p u;unfold ence at hy;dsimp only at hy
   gi_wp2
   gi_region_with ((with_reducible refine RoundIn.mono HR.out ?_);rintro e W3 ⟨bb,rfl,R,T⟩)
   all_goals
    cases bb
    ·have ac:=T rfl
     clear R T
     gi_wp2
     refine bR (results_none rfl _ _ _) rfl ?_;exact⟨⟨_,rfl⟩,.inr ⟨_,⟨d.drop (j+1),List.take_append_drop _ _⟩,ac⟩⟩
    ·obtain⟨aa,ae⟩:=R rfl
     clear R T
     gi_wp2
     go_roundw
     case rel=>exact⟨j+1,by omega,by go_num,aa,r.trans ((KpW.refl w g wr).ext ((eR wr).drew) (hw.thenB r.1 (nE _)).size (Nat.lt_of_lt_of_le ad r.1.size) |>.trans ae)⟩
     case measure=>simp [intOf];omega
  ·have e:d.take j=d:=lT (by rw [h];omega)
   rw [e]at hJ;have p3:¬((j+1:Nat):Int)<(m:Int):=oM
   clear e
   gi_wp2
   go_end0
   exact⟨⟨_,rfl⟩,.inl hJ⟩
theorem zdI {β:Type} (f:β→Edg) (n:Nat) (q:1≤n) (a:Nat) (w w0:O) (sl:C) (ps:List (Int×Int)) (b:List β) (g:b.map f=eds ps) (d:w0.cell? ⟨a,0,V⟩=Z sl) (c:a<w0.heap.size) (p:IsPts w sl ps) (i:Ext w w0) :
  SeqStopsK Fence.wide n Tryz.prog 196 #[Oc (Z ⟨a,0,V⟩)] (fun x=>ence (f x)) (KpW w a) (fun s=>s=b) (fun pre=>pre <+: b) b.length w0:=
 fun l J j W m hJ _ o k=>zjf f n q l a w w0 sl ps b g J j o (fun pre W' h=>hJ _ _ _ V h ⟨rfl,rfl,rfl,nE _,fun _ _ _=>rfl⟩ (fun r e=>by cases e)) d c p i W ((KpW.refl w a w0).ext m i.size c) k
section
variable {P:Program} {ops:Array Oper} {Q:Exit→Oa→O→Prop} {md:Region.Mode} {S:O→Prop}
def TakeIt (P:Program) (md:Region.Mode) (ops:Array Oper) (Q:Exit→Oa→O→Prop) (S:O→Prop) (fuel:Nat) (b:Array Bool) (a:Oa) (w:O) (i:Nat) (oi:Oper):Prop:=
 ∃v,Region.noSelect ops=true∧Region.free md ops b i=true∧(Region.ready md ops b).contains i=true∧(∀c a w,Q (.panic c) (a.put oi.dst v) w→Q (.panic c) a w)∧YieldsIf P ops S oi v a∧S w ∧
  wpAnyH P md ops Q S fuel (b.setIfInBounds i true) (a.put oi.dst v) w
theorem take1 {i:Nat} {oi:Oper} {fuel:Nat} {b:Array Bool} {a:Oa} {w:O} (k:ops[i]?=Z oi) (h:TakeIt P md ops Q S fuel b a w i oi):wpAnyH P md ops Q S (fuel+1) b a w:=by
 obtain⟨v,c,d,e,f,g,h6,j⟩:=h;exact wpAnyH_take k c d e f g h6 j
def CallIt (P:Program) (md:Region.Mode) (ops:Array Oper) (Q:Exit→Oa→O→Prop) (S:O→Prop) (fuel:Nat) (b:Array Bool) (a:Oa) (w:O) (i:Nat) (o:Oper):Prop:=
 Region.ready md ops b=[i]∧∀K':Oa→O→Prop,Shut (∀a w,S w→(S w→wpAnyH P md ops Q S fuel (b.setIfInBounds i true) a w)→K' a w)→if Region.wanted o (yielded ops a.tmps)=true then Oper.wp P o a w K' Q else K' (a.put o.dst undef) w
theorem call1 {i:Nat} {o:Oper} {fuel:Nat} {b:Array Bool} {a:Oa} {w:O} (c:ops[i]?=Z o) (h:CallIt P md ops Q S fuel b a w i o):wpAnyH P md ops Q S (fuel+1) b a w:=
 wpAnyH_ready h.1 sM (AllReadyH.cons c h.2 AllReadyH.nil)
theorem tk1 {v:C} {i:Nat} {oi:Oper} {fuel:Nat} {b:Array Bool} {a:Oa} {w:O} {G:Prop} (h:G) (l:ops[i]?=Z oi:=by(simp only [gA,gS,gZ];rfl)) (e:Region.noSelect ops=true:=by kernel_rfl) (f:Region.free md ops b i=true:=by kernel_rfl) (g:(Region.ready md ops b).contains i=true:=by kernel_rfl) (j:∀c a w,Q (.panic c) (a.put oi.dst v) w→Q (.panic c) a w:=by exact fun _ _ _ h=>h) (m:Region.wanted oi (yielded ops a.tmps)=true:=by rfl) (n:∀w,S w→(execOp a.eval oi).run P w = .ok (.value v) w:=by(intro w d;simp only [CellL,and_true]at d;go_simp;try(with_reducible rfl))) (h6:S w:=by(with_reducible assumption)) (k:wpAnyH P md ops Q S fuel (b.setIfInBounds i true) (a.put oi.dst v) w=G:=by((try simp only [Act.put,sA,sZ,sS]);rfl)):wpAnyH P md ops Q S (fuel+1) b a w:=by
 subst k;exact take1 l ⟨v,e,f,g,j,Or.inl ⟨m,n⟩,h6,h⟩
theorem tkg1 {i:Nat} {oi:Oper} {fuel:Nat} {b:Array Bool} {a:Oa} {w:O} {G:Prop} (h:G) (k:ops[i]?=Z oi:=by(simp only [gA,gS,gZ];rfl)) (d:Region.noSelect ops=true:=by kernel_rfl) (e:Region.free md ops b i=true:=by kernel_rfl) (f:(Region.ready md ops b).contains i=true:=by kernel_rfl) (g:∀c a w,Q (.panic c) (a.put oi.dst undef) w→Q (.panic c) a w:=by exact fun _ _ _ h=>h) (l:Region.wanted oi (yielded ops a.tmps)=false:=by rfl)  (h6:S w:=by(with_reducible assumption)) (j:wpAnyH P md ops Q S fuel (b.setIfInBounds i true) (a.put oi.dst undef) w=G:=by((try simp only [Act.put,sA,sZ,sS]);rfl)):wpAnyH P md ops Q S (fuel+1) b a w:=by
 subst j;exact take1 k ⟨undef,d,e,f,g,Or.inr ⟨l,rfl⟩,h6,h⟩
theorem tkn {v:C} {i:Nat} {oi:Oper} {fuel:Nat} {b:Array Bool} {a:Oa} {w:O} {G:Prop} (h:G) (l:ops[i]?=Z oi:=by(simp only [gA,gS,gZ];rfl)) (e:Region.noSelect ops=true:=by kernel_rfl) (f:Region.free md ops b i=true:=by kernel_rfl) (g:(Region.ready md ops b).contains i=true:=by kernel_rfl) (j:∀c a w,Q (.panic c) (a.put oi.dst v) w→Q (.panic c) a w:=by exact fun _ _ _ h=>h) (m:Region.wanted oi (yielded ops a.tmps)=true:=by rfl) (n:∀w,S w→(execOp a.eval oi).run P w = .ok (.value v) w:=by(intro w d;simp only [CellL,and_true]at d;go_simp;try(with_reducible rfl))) (h6:S w:=by(with_reducible assumption)) (k:wpN (i+1) (wpAnyH P md ops Q S fuel (b.setIfInBounds i true) (a.put oi.dst v) w)=G:=by((try simp only [Act.put,sA,sZ,sS,Nat.reduceAdd]);rfl)):wpN i (wpAnyH P md ops Q S (fuel+1) b a w):=by
 subst k;exact take1 l ⟨v,e,f,g,j,Or.inl ⟨m,n⟩,h6,h⟩
theorem tkgn {i:Nat} {oi:Oper} {fuel:Nat} {b:Array Bool} {a:Oa} {w:O} {G:Prop} (h:G) (k:ops[i]?=Z oi:=by(simp only [gA,gS,gZ];rfl)) (d:Region.noSelect ops=true:=by kernel_rfl) (e:Region.free md ops b i=true:=by kernel_rfl) (f:(Region.ready md ops b).contains i=true:=by kernel_rfl) (g:∀c a w,Q (.panic c) (a.put oi.dst undef) w→Q (.panic c) a w:=by exact fun _ _ _ h=>h) (l:Region.wanted oi (yielded ops a.tmps)=false:=by rfl)  (h6:S w:=by(with_reducible assumption)) (j:wpN (i+1) (wpAnyH P md ops Q S fuel (b.setIfInBounds i true) (a.put oi.dst undef) w)=G:=by((try simp only [Act.put,sA,sZ,sS,Nat.reduceAdd]);rfl)):wpN i (wpAnyH P md ops Q S (fuel+1) b a w):=by
 subst j;exact take1 k ⟨undef,d,e,f,g,Or.inr ⟨l,rfl⟩,h6,h⟩
theorem cl1 {i:Nat} {o:Oper} {fuel:Nat} {b:Array Bool} {a:Oa} {w:O} (h:∀K':Oa→O→Prop,Shut (∀a w,S w→(S w→wpAnyH P md ops Q S fuel (b.setIfInBounds i true) a w)→K' a w)→if Region.wanted o (yielded ops a.tmps)=true then Oper.wp P o a w K' Q else K' (a.put o.dst undef) w) (c:ops[i]?=Z o:=by(simp only [gA,gS,gZ];rfl)) (d:Region.ready md ops b=[i]:=by kernel_rfl):wpAnyH P md ops Q S (fuel+1) b a w:=call1 c ⟨d,h⟩
theorem kO {K:Oa→O→Prop} {A:O→Prop} {X:Oa→O→Prop} (d:Shut (∀a w,A w→(A w→X a w)→K a w)) {a:Oa} {w:O} {G:Prop} (b:A w) (h:A w→G) (c:X a w=G:=by((try simp only [Act.put,sA,sZ,sS]);rfl)):K a w:=by
 subst c;exact d.out _ _ b h
end
section
variable {P:Program} {ops:Array Oper} {Q:Exit→Oa→O→Prop} {md:Region.Mode} {S:O→Prop}
theorem call2 {i j:Nat} {oi c:Oper} {fuel:Nat} {b:Array Bool} {a:Oa} {w:O}
  (d:∀K':Oa→O→Prop,Shut (∀a w,S w→(S w→wpAnyH P md ops Q S fuel (b.setIfInBounds i true) a w)→K' a w)→if Region.wanted oi (yielded ops a.tmps)=true then Oper.wp P oi a w K' Q else K' (a.put oi.dst undef) w)
  (e:∀K':Oa→O→Prop,Shut (∀a w,S w→(S w→wpAnyH P md ops Q S fuel (b.setIfInBounds j true) a w)→K' a w)→if Region.wanted c (yielded ops a.tmps)=true then Oper.wp P c a w K' Q else K' (a.put c.dst undef) w)
  (f:ops[i]?=Z oi:=by(simp only [gA,gS,gZ];rfl)) (g:ops[j]?=Z c:=by(simp only [gA,gS,gZ];rfl)) (h:Region.ready md ops b=[i,j]:=by kernel_rfl) :
  wpAnyH P md ops Q S (fuel+1) b a w:=
 wpAnyH_ready h sM (AllReadyH.cons f d (AllReadyH.cons g e AllReadyH.nil))
end
def xLe (x:Rat) (e:Edg):Bool:=decide (rcmp x ((e.2.1:Int):Rat)≤0)
def atE (x:Rat) (e:Edg):Rat:=((e.1.2:Int):Rat)+((x-((e.1.1:Int):Rat))*((e.2.2-e.1.2:Int):Rat)) / ((e.2.1-e.1.1:Int):Rat)
def atR (ps:List (Int×Int)) (x:Rat):Rat:=match (eds ps).find? (xLe x)with|some e=>atE x e|none=>(((ps.getD (ps.length-1) (0,0)).2:Int):Rat)
theorem RB.sim {B:Nat} {W W':O} {b:Nat} {q:Rat} (h:RB W b q) (k:Sim B W W'):RB W' b q:=by
 obtain⟨a,m,c,s,d,i,e,f,g⟩:=h;exact⟨a,m,c,s,d,i,e,k.heap f,g.keep (k.keep _)⟩
theorem zaD {k n:Int} (h:Bd k n) (a:k≤1000000:=by decide):Rb 1 (n:Rat):=Rb.int (by unfold Lm B;unfold Bd at h;simp;omega) (nE _)
theorem zjh {k:Int} {ps:List (Int×Int)} (h:PBd k ps) {e:Edg} (d:e∈eds ps):Bd k e.1.1∧Bd k e.1.2∧Bd k e.2.1∧Bd k e.2.2:=by
 obtain⟨p,q⟩:=e;have a:=List.of_mem_zip d;have b:=h p a.1;have c:=h q (List.mem_of_mem_tail a.2);exact⟨b.1,b.2,c.1,c.2⟩
abbrev BE:={ e:Edg // Bd 104000 e.1.1∧Bd 104000 e.1.2∧Bd 104000 e.2.1∧Bd 104000 e.2.2 }
def AtI (w:O) (x:Rat) (pre:List BE) (W:O):Prop:=
 Ext w W∧w.heap.size+1+1+1≤W.heap.size∧RB W w.heap.size x∧RB W (w.heap.size+1) 0∧∀e∈pre,xLe x e.1=false
def AtX (w:O) (x:Rat) (c:Code) (pre:List BE) (W:O):Prop:=
 c = .ret∧Ext w W∧w.heap.size+1+1+1≤W.heap.size∧∃(a:List BE) (e:BE),pre=a++[e]∧(∀e∈a,xLe x e.1=false)∧xLe x e.1=true∧RB W (w.heap.size+1) (atE x e.1)
def AtS (s B:Nat) (h:Option Oe) (j i:Nat) (k:Bool) (a:Option Oe) (c b:Nat) (d e f g:Int) (W:O):Prop:=
 W.cell? ⟨s,0,V⟩=Z (Y h j i)∧W.cell? ⟨s,1,V⟩=Z (U k)∧W.cell? ⟨s,2,V⟩=Z (Y a c b)∧W.cell? ⟨B,0,V⟩=Z (M I d)∧W.cell? ⟨B,1,V⟩=Z (M I e)∧W.cell? ⟨B+1,0,V⟩=Z (M I f)∧W.cell? ⟨B+1,1,V⟩=Z (M I g)
theorem AtS.ext {s B:Nat} {i:Option Oe} {l j:Nat} {m:Bool} {a:Option Oe} {c b:Nat} {d e f g:Int} {W W':O} (h:AtS s B i l j m a c b d e f g W) (k:Ext W W'):AtS s B i l j m a c b d e f g W':=by
 obtain⟨n,o,p,q,r,t,h6⟩:=h;exact⟨k.cellS n,k.cellS o,k.cellS p,k.cellS q,k.cellS r,k.cellS t,k.cellS h6⟩
theorem zgQ {W:O} {D:Nat} (a:W.heap[D]?=Z (.deferred (Z []))) (o:Obj):Sim D W (W.putObj D o):=
 Sim.of_grown (grownBy_putObj' W D o) (Nat.le_of_lt (zaa a)) (fun r e=>by cases e;exact⟨nE _,_,a,rfl⟩)
theorem AtS.set {s B:Nat} {i:Option Oe} {k j:Nat} {l:Bool} {a:Option Oe} {c b:Nat} {d e f g:Int} {W:O} (h:AtS s B i k j l a c b d e f g W) {p:Oe} (w:p.block≠s) (x:p.block≠B) (y:p.block≠B+1) (u:C):AtS s B i k j l a c b d e f g (W.setCell p u):=by
 obtain⟨m,n,o,q,r,t,v⟩:=h;refine⟨?_,?_,?_,?_,?_,?_,?_⟩<;>(rw [World.cell?_setCell_far _ _ _ _ dO];assumption)
theorem zaz {B:Nat} {W W':O} (h:Ext W W'):KeepsFrom B W W':=⟨h.size,fun _ _ _ a _=>h.heapS a⟩
theorem zlk {β:Type} {f:β→Bool} {a pre:List β} {e:β} (d:pre++[e] <+: a) (c:∀x∈pre,f x=false) (b:f e=true):a.find? f=Z e:=by
 obtain⟨t,rfl⟩:=d;rw [List.append_assoc,List.find?_append]
 have:pre.find? f=V:=by
  rw [List.find?_eq_none];intro x g;simp [c x g]
 rw [this];simp [b]
theorem zod {ps:List (Int×Int)} {x:Rat} {b:List BE} (a:b.map (fun e=>e.1)=eds ps) {pre:List BE} {e:BE} (g:pre++[e] <+: b) (d:∀e∈pre,xLe x e.1=false) (c:xLe x e.1=true):atR ps x=atE x e.1:=by
 unfold atR;rw [←a,List.find?_map,zlk (f:=xLe x ∘ fun e:BE=>e.1) g d c];rfl
theorem zk2 {ps:List (Int×Int)} {x:Rat} {b:List BE} (a:b.map (fun e=>e.1)=eds ps) (d:∀e∈b,xLe x e.1=false) {q:Int×Int} (f:ps[ps.length-1]?=Z q):atR ps x=((q.2:Int):Rat):=by
 unfold atR
 have:(eds ps).find? (xLe x)=V:=by
  rw [←a,List.find?_eq_none];intro y g;obtain⟨e,c,rfl⟩:=List.mem_map.1 g;simp [d e c]
 rw [this,gD,f];rfl
theorem zgD (w:O) (v vx:C) (ps:List (Int×Int)) (x:Rat) (h:IsPts w v ps) (aL:LnOk ps) (hx:IsR w vx x) (hb:Rb 1000 x) :
  Calls Tryz.prog 88 #[v,vx] w (RetR w (atR ps x)):=by
 obtain⟨a,c,rfl⟩:=h.form;obtain⟨xa,xm,xc,xs,bh,bj,bi,rfl⟩:=hx.form;have Hb:=hd9 hb;have aX:=hd9 aL;obtain⟨n,hn⟩:=gX ps.length;rw [hn]at h ⊢;have Hn:=hd9 hn;obtain⟨es,a7⟩:∃es:List BE,es.map (fun e=>e.1)=eds ps:=⟨(eds ps).attachWith _ (fun e he=>zjh aL.2.1 he),zaY _⟩;have aW:=hd9 a7;clear hb aL hn;refine(callsIn_wide (n:=5)).1 ?_;refine callsIn_of_wp_marks Tryz.func88 rfl trivial ?_ rfl;simp only [Tryz.ntmps88,List.size_toArray,List.length_cons,List.length_nil,Nat.reduceAdd,Nat.reduceSub,Array.replicate_succ,Array.replicate_zero,List.push_toArray,List.append_toArray,List.nil_append,List.cons_append]
 gi_wp2_with(refine⟨trivial,?_⟩;gi_at_call 148;refine(callsIn_wide.2 (zfz _ _ _ _)).mono ?_;rintro e w' ⟨rfl,rfl⟩)
 obtain⟨W0,aa⟩:=gX ((((w.alloc (.cells #[Y xa xm xc,U xs,Y bh bj bi] 63)).alloc (.cells #[Y V 0 0,U false,Y V 0 0] 63)).alloc (.cells #[Y a n c] 121)));have bc:Ext w W0:=by rw [←aa];exact(((eR w).alloc _).alloc _).alloc _
 have cZ:W0.heap.size=w.heap.size+1+1+1:=by rw [←aa];simp
 have cb:W0.cell? ⟨w.heap.size+1+1,0,V⟩=Z (Y a n c):=by rw [←aa,World.cell?_alloc_at _ _ _ _ sM];rfl
 have b7:RB W0 w.heap.size x:=by rw [←aa];exact(RB.new hx rfl).ext (((eR _).alloc _).alloc _)
 have b8:RB W0 (w.heap.size+1) 0:=by rw [←aa];exact(RB.new (IsR.zero _) sM).ext ((eR _).alloc _)
 rw [aa];have cO:=hd9 aa;clear aa
 refine wpIn_rangeFunc_ownH rfl dM (gf:=196) (lb:=#[Oc (Z ⟨w.heap.size+1+1,0,V⟩)]) rfl trivial (enters_of Tryz.func196 kM rfl)
  (zdI (fun e:BE=>e.1) _ dM (w.heap.size+1+1) w _ _ ps es a7 cb oM h bc) KpW.trans (KpW.put oM oM) (Below.refl _ _) (fun _=>rfl)
  (AtI w x) (AtX w x) (zam (fun s W h=>by have:=h.2.1;omega) (fun s W W' h k=>?hsim)) (fun c=>zam (fun s W h=>by have:=h.2.2.1;omega) (fun s W W' h k=>?hsimx)) ?h0
  (fun(e:BE) a' W=>∃B,w.heap.size+1+1+1≤B∧W.heap[B]?=Z (.cells #[M I e.1.1.1,M I e.1.1.2] 43 (0,0))∧W.heap[B+1]?=Z (.cells #[M I e.1.2.1,M I e.1.2.2] 43 (0,0)) ∧
   a'={ tmps:=#[Y a n c,Ob #[Y xa xm xc,U xs,Y bh bj bi],undef,Oc (Z ⟨w.heap.size,0,V⟩),Oc (Z ⟨w.heap.size+1,0,V⟩),Oc (Z ⟨B,0,V⟩),Oc (Z ⟨B+1,0,V⟩),Y a n c,.func (.func 196) #[] #[Oc (Z ⟨w.heap.size+1+1,0,V⟩)],Ob #[M I e.1.1.1,M I e.1.1.2],Ob #[M I e.1.2.1,M I e.1.2.2],undef,undef,undef,undef,undef,undef,undef,undef,undef,undef,undef,undef,undef,undef,undef,undef,undef,undef,undef,undef,undef,undef,undef,undef,undef,undef,undef,undef,undef,undef,undef,undef,undef,undef,undef,undef,undef],defers:=[] })
  (fun e a'=>zam (fun s W h=>?hAs) (fun s W W' h k=>?hAk)) ?assign ?body ?done ?stop
 case hsim =>
  obtain⟨R,h2,h3,h4,h5⟩:=h;exact⟨k.ext R oM,nT h2 k.size,h3.sim k,h4.sim k,h5⟩
 case hsimx =>
  obtain⟨h0,R,h2,p',e,h3,h4,h5,h6⟩:=h;exact⟨h0,k.ext R oM,nT h2 k.size,p',e,h3,h4,h5,h6.sim k⟩
 case h0=>exact⟨bc,by omega,b7,b8,fun e he=>by cases he⟩
 case hAs =>
  obtain⟨B,R,h2,h3,_⟩:=h;have:=zaa h2;omega
 case hAk =>
  obtain⟨B,R,h2,h3,h4⟩:=h;exact⟨B,R,k.heap h2,k.heap h3,h4⟩
 case assign =>
  rintro l pre e W K ⟨R,h2,h3,h4,h5⟩ f;unfold ence
  gi_wp2
  refine f _ _ (((KeepsOthers.alloc _ _).trans (KeepsOthers.alloc _ _)).from _) (((KpW.refl _ _ W).ext (((eR W).alloc _).alloc _) R.size oM)) ⟨(R.alloc _).alloc _,by simp;omega,h3.ext (((eR W).alloc _).alloc _),h4.ext (((eR W).alloc _).alloc _),h5⟩ ⟨W.heap.size,h2,?_,?_,rfl⟩
  ·rw [zag,if_neg sM];exact qhA _ _ _ rfl
  ·exact qhA _ _ _ sM
 case body =>
  rintro l pre e a' W hl ⟨r,hr⟩ ⟨R,h2,h3,h4,h5⟩ ⟨B,hB,q1,q2,rfl⟩ cV;obtain⟨⟨⟨j,p⟩,z,bz⟩,aq⟩:=e;dsimp only at q1 q2 aq ⊢;obtain⟨ya,ym,yc,ys,ab,ad,ac,r0,r1,r2,_,_,_,zr,bg⟩:=h3.rd;have e0:=qcB q1 (i:=0) (u:=M I j) rfl;have e1:=qcB q1 (i:=1) (u:=M I p) rfl;have e2:=qcB q2 (i:=0) (u:=M I z) rfl;have e3:=qcB q2 (i:=1) (u:=M I bz) rfl;have z1:=zaa q1;have z2:=zaa q2
  gi_wp2
  have aJ:AtS w.heap.size B ya ym yc ys ab ad ac j p z bz W:=⟨r0,r1,r2,e0,e1,e2,e3⟩;have bf:IsR W.drew (Ob #[Y ya ym yc,U ys,Y ab ad ac]) x:=bg.ext (eR W).drew;have bt:=hd9 aJ;refine zas (S:=AtS w.heap.size B ya ym yc ys ab ad ac j p z bz) kM kM (aJ.ext (eR W).drew) (fun g=>?_);clear r0 r1 r2 e0 e1 e2 e3 aJ;refine take1 (i:=0) (oi:=?oix1) ?hix1 ?hx1
  case hix1=>(simp only [gA,gS,gZ];rfl)
  refine⟨?_,by kernel_rfl,by kernel_rfl,by kernel_rfl,fun _ _ _ h=>h,Or.inl ⟨by rfl,?_⟩,by assumption,?_⟩;rotate_left 1
  ·(intro w d;rcases d with ⟨s0,s1,t,y,s4,s5,s6⟩;go_simp;try(with_reducible rfl))
  (try simp only [Act.put,sA,sZ,sS])
  refine take1 (i:=1) (oi:=?oix2) ?hix2 ?hx2
  case hix2=>(simp only [gA,gS,gZ];rfl)
  refine⟨?_,by kernel_rfl,by kernel_rfl,by kernel_rfl,fun _ _ _ h=>h,Or.inl ⟨by rfl,?_⟩,by assumption,?_⟩;rotate_left 1
  ·(intro w d;rcases d with ⟨s0,s1,t,y,s4,s5,s6⟩;go_simp;try(with_reducible rfl))
  (try simp only [Act.put,sA,sZ,sS])
  refine take1 (i:=2) (oi:=?oix3) ?hix3 ?hx3
  case hix3=>(simp only [gA,gS,gZ];rfl)
  refine⟨?_,by kernel_rfl,by kernel_rfl,by kernel_rfl,fun _ _ _ h=>h,Or.inl ⟨by rfl,?_⟩,by assumption,?_⟩;rotate_left 1
  ·(intro w d;rcases d with ⟨s0,s1,t,y,s4,s5,s6⟩;go_simp;try(with_reducible rfl))
  (try simp only [Act.put,sA,sZ,sS])
  obtain⟨an,ao,ap,bW⟩:=aq;obtain⟨T,hT⟩:=gX (rcmp x ((z:Int):Rat));have HT:=hd9 hT;have aY:=zaD ap;have a6:=fun W=>za8 W z (by unfold Bd at ap;omega) (by unfold Bd at ap;omega)
  have bw:=hd9 a6;clear a6 hT;refine cl1 (i:=3) fun K f=>?_
  go_simp
  (with_reducible refine cM (bw.out _) ?_)
  rintro e w3 ⟨v3,rfl,bb,hx3⟩;obtain⟨a3,m3,c3,y,b3,n3,k3,rfl⟩:=bb.form
  go_wp2_with fail
  refine kO f (AtS.ext (by assumption) hx3) (fun g=>?_);clear f K;have aK:=zaI w3 (Ob #[Y ya ym yc,U ys,Y ab ad ac]) (Ob #[Y a3 m3 c3,U y,Y b3 n3 k3]) x ((z:Int):Rat) (bf.ext hx3) bb (Hb.out.mono dM) (aY.mono dM);rw [HT.out]at aK;have bA:=hd9 aK;clear aK;refine cl1 (i:=4) fun K f=>?_
  go_simp
  (with_reducible refine cM bA.out ?_)
  rintro e w4 ⟨rfl,hx4⟩
  skip
  go_wp2_with fail
  refine kO f (AtS.ext (by assumption) hx4) (fun g=>?_);clear f K;refine take1 (i:=5) (oi:=?oix4) ?hix4 ?hx4
  case hix4=>(simp only [gA,gS,gZ];rfl)
  refine⟨?_,by kernel_rfl,by kernel_rfl,by kernel_rfl,fun _ _ _ h=>h,Or.inl ⟨by rfl,?_⟩,by assumption,?_⟩;rotate_left 1
  ·(intro w d;rcases d with ⟨s0,s1,t,y,s4,s5,s6⟩;go_simp;try(with_reducible rfl))
  (try simp only [Act.put,sA,sZ,sS])
  refine wpAnyH_done kM ?_ _;have X4:Ext W w4:=((eR W).drew.trans hx3).trans hx4;have b9:=bt.out.ext X4;have aG:=h4.ext X4;have cS:w.heap.size+1+1+1≤w4.heap.size:=nT h2 X4.size
  by_cases a4:T≤0
  ·have L:xLe x ((j,p),z,bz)=true:=by unfold xLe;rw [HT.out];simpa using a4
   have aE:=hd9 L;have bu:=hd9 X4;have bk:=hd9 aG;have be:IsR w4.drew (Ob #[Y ya ym yc,U ys,Y ab ad ac]) x:=bg.ext X4.drew;have bC:=hd9 be;clear L X4 aG be g bf;unfold NQ
   gi_wp2
   refine zas (S:=AtS w.heap.size B ya ym yc ys ab ad ac j p z bz) kM kM (b9.ext (eR w4).drew) (fun g=>?_);have d1:Bd 1000000 (bz-p)∧Bd 1000000 (z-j):=⟨(bW.sub ao).mono dM,(ap.sub an).mono dM⟩;have g1:IntKind.i64.wrap (bz-p)=bz-p:=iW _ ⟨by unfold Bd at d1;omega,by unfold Bd at d1;omega⟩;have g2:IntKind.i64.wrap (z-j)=z-j:=iW _ ⟨by unfold Bd at d1;omega,by unfold Bd at d1;omega⟩;have Q1:=zaD (k:=104000) (n:=j) an;have Q2:=zaD (k:=104000) (n:=p) ao;have Q3:Rb 1 ((bz-p:Int):Rat):=zaD d1.1;have Q4:Rb 1 ((z-j:Int):Rat):=zaD d1.2;have Q5:=Hb.out.sub (Q1.mono (k:=1000) dM);have Q6:=Q5.mul Q3;have Q7:=Q6.div Q4 dM;have bm:=hd9 Q1;have bn:=hd9 Q2;have bo:=hd9 Q3;have bp:=hd9 Q4;have bq:=hd9 Q5;have br:=hd9 Q6;have bs:=hd9 Q7;have Ha:=hd9 (fun W=>za8 W p (by unfold Bd at ao;omega) (by unfold Bd at ao;omega));have Hc:=hd9 (fun W=>za8 W j (by unfold Bd at an;omega) (by unfold Bd at an;omega));have Hd:=hd9 (fun W=>za8 W (bz-p) (by unfold Bd at d1;omega) (by unfold Bd at d1;omega));have He:=hd9 (fun W=>za8 W (z-j) (by unfold Bd at d1;omega) (by unfold Bd at d1;omega));clear Q1 Q2 Q3 Q4 Q5 Q6 Q7 aY;refine take1 (i:=0) (oi:=?oix5) ?hix5 ?hx5
   case hix5=>(simp only [gA,gS,gZ];rfl)
   refine⟨?_,by kernel_rfl,by kernel_rfl,by kernel_rfl,fun _ _ _ h=>h,Or.inl ⟨by rfl,?_⟩,by assumption,?_⟩;rotate_left 1
   ·(intro w d;rcases d with ⟨s0,s1,t,y,s4,s5,s6⟩;go_simp;try(with_reducible rfl))
   (try simp only [Act.put,sA,sZ,sS])
   refine take1 (i:=1) (oi:=?oix6) ?hix6 ?hx6
   case hix6=>(simp only [gA,gS,gZ];rfl)
   refine⟨?_,by kernel_rfl,by kernel_rfl,by kernel_rfl,fun _ _ _ h=>h,Or.inl ⟨by rfl,?_⟩,by assumption,?_⟩;rotate_left 1
   ·(intro w d;rcases d with ⟨s0,s1,t,y,s4,s5,s6⟩;go_simp;try(with_reducible rfl))
   (try simp only [Act.put,sA,sZ,sS])
   refine take1 (i:=3) (oi:=?oix7) ?hix7 ?hx7
   case hix7=>(simp only [gA,gS,gZ];rfl)
   refine⟨?_,by kernel_rfl,by kernel_rfl,by kernel_rfl,fun _ _ _ h=>h,Or.inl ⟨by rfl,?_⟩,by assumption,?_⟩;rotate_left 1
   ·(intro w d;rcases d with ⟨s0,s1,t,y,s4,s5,s6⟩;go_simp;try(with_reducible rfl))
   (try simp only [Act.put,sA,sZ,sS])
   refine take1 (i:=4) (oi:=?oix8) ?hix8 ?hx8
   case hix8=>(simp only [gA,gS,gZ];rfl)
   refine⟨?_,by kernel_rfl,by kernel_rfl,by kernel_rfl,fun _ _ _ h=>h,Or.inl ⟨by rfl,?_⟩,by assumption,?_⟩;rotate_left 1
   ·(intro w d;rcases d with ⟨s0,s1,t,y,s4,s5,s6⟩;go_simp;try(with_reducible rfl))
   (try simp only [Act.put,sA,sZ,sS])
   refine take1 (i:=5) (oi:=?oix9) ?hix9 ?hx9
   case hix9=>(simp only [gA,gS,gZ];rfl)
   refine⟨?_,by kernel_rfl,by kernel_rfl,by kernel_rfl,fun _ _ _ h=>h,Or.inl ⟨by rfl,?_⟩,by assumption,?_⟩;rotate_left 1
   ·(intro w d;rcases d with ⟨s0,s1,t,y,s4,s5,s6⟩;go_simp;try(with_reducible rfl))
   (try simp only [Act.put,sA,sZ,sS])
   refine take1 (i:=8) (oi:=?oix10) ?hix10 ?hx10
   case hix10=>(simp only [gA,gS,gZ];rfl)
   refine⟨?_,by kernel_rfl,by kernel_rfl,by kernel_rfl,fun _ _ _ h=>h,Or.inl ⟨by rfl,?_⟩,by assumption,?_⟩;rotate_left 1
   ·(intro w d;rcases d with ⟨s0,s1,t,y,s4,s5,s6⟩;go_simp;try(with_reducible rfl))
   (try simp only [Act.put,sA,sZ,sS])
   refine take1 (i:=9) (oi:=?oix11) ?hix11 ?hx11
   case hix11=>(simp only [gA,gS,gZ];rfl)
   refine⟨?_,by kernel_rfl,by kernel_rfl,by kernel_rfl,fun _ _ _ h=>h,Or.inl ⟨by rfl,?_⟩,by assumption,?_⟩;rotate_left 1
   ·(intro w d;rcases d with ⟨s0,s1,t,y,s4,s5,s6⟩;go_simp;try(with_reducible rfl))
   (try simp only [Act.put,sA,sZ,sS])
   refine take1 (i:=10) (oi:=?oix12) ?hix12 ?hx12
   case hix12=>(simp only [gA,gS,gZ];rfl)
   refine⟨?_,by kernel_rfl,by kernel_rfl,by kernel_rfl,fun _ _ _ h=>h,Or.inl ⟨by rfl,?_⟩,by assumption,?_⟩;rotate_left 1
   ·(intro w d;rcases d with ⟨s0,s1,t,y,s4,s5,s6⟩;go_simp;try(with_reducible rfl))
   (try simp only [Act.put,sA,sZ,sS])
   refine take1 (i:=11) (oi:=?oix13) ?hix13 ?hx13
   case hix13=>(simp only [gA,gS,gZ];rfl)
   refine⟨?_,by kernel_rfl,by kernel_rfl,by kernel_rfl,fun _ _ _ h=>h,Or.inl ⟨by rfl,?_⟩,by assumption,?_⟩;rotate_left 1
   ·(intro w d;rcases d with ⟨s0,s1,t,y,s4,s5,s6⟩;go_simp;try(with_reducible rfl))
   (try simp only [Act.put,sA,sZ,sS])
   refine take1 (i:=12) (oi:=?oix14) ?hix14 ?hx14
   case hix14=>(simp only [gA,gS,gZ];rfl)
   refine⟨?_,by kernel_rfl,by kernel_rfl,by kernel_rfl,fun _ _ _ h=>h,Or.inl ⟨by rfl,?_⟩,by assumption,?_⟩;rotate_left 1
   ·(intro w d;rcases d with ⟨s0,s1,t,y,s4,s5,s6⟩;go_simp;try(with_reducible rfl))
   (try simp only [Act.put,sA,sZ,sS])
   refine take1 (i:=15) (oi:=?oix15) ?hix15 ?hx15
   case hix15=>(simp only [gA,gS,gZ];rfl)
   refine⟨?_,by kernel_rfl,by kernel_rfl,by kernel_rfl,fun _ _ _ h=>h,Or.inl ⟨by rfl,?_⟩,by assumption,?_⟩;rotate_left 1
   ·(intro w d;rcases d with ⟨s0,s1,t,y,s4,s5,s6⟩;go_simp;try(with_reducible rfl))
   (try simp only [Act.put,sA,sZ,sS])
   refine take1 (i:=16) (oi:=?oix16) ?hix16 ?hx16
   case hix16=>(simp only [gA,gS,gZ];rfl)
   refine⟨?_,by kernel_rfl,by kernel_rfl,by kernel_rfl,fun _ _ _ h=>h,Or.inl ⟨by rfl,?_⟩,by assumption,?_⟩;rotate_left 1
   ·(intro w d;rcases d with ⟨s0,s1,t,y,s4,s5,s6⟩;go_simp;try(with_reducible rfl))
   (try simp only [Act.put,sA,sZ,sS])
   refine take1 (i:=17) (oi:=?oix17) ?hix17 ?hx17
   case hix17=>(simp only [gA,gS,gZ];rfl)
   refine⟨?_,by kernel_rfl,by kernel_rfl,by kernel_rfl,fun _ _ _ h=>h,Or.inl ⟨by rfl,?_⟩,by assumption,?_⟩;rotate_left 1
   ·(intro w d;rcases d with ⟨s0,s1,t,y,s4,s5,s6⟩;go_simp;try(with_reducible rfl))
   (try simp only [Act.put,sA,sZ,sS])
   refine take1 (i:=18) (oi:=?oix18) ?hix18 ?hx18
   case hix18=>(simp only [gA,gS,gZ];rfl)
   refine⟨?_,by kernel_rfl,by kernel_rfl,by kernel_rfl,fun _ _ _ h=>h,Or.inl ⟨by rfl,?_⟩,by assumption,?_⟩;rotate_left 1
   ·(intro w d;rcases d with ⟨s0,s1,t,y,s4,s5,s6⟩;go_simp;try(with_reducible rfl))
   (try simp only [Act.put,sA,sZ,sS])
   refine take1 (i:=19) (oi:=?oix19) ?hix19 ?hx19
   case hix19=>(simp only [gA,gS,gZ];rfl)
   refine⟨?_,by kernel_rfl,by kernel_rfl,by kernel_rfl,fun _ _ _ h=>h,Or.inl ⟨by rfl,?_⟩,by assumption,?_⟩;rotate_left 1
   ·(intro w d;rcases d with ⟨s0,s1,t,y,s4,s5,s6⟩;go_simp;try(with_reducible rfl))
   (try simp only [Act.put,sA,sZ,sS])
   refine cl1 (i:=2) fun K f=>?_
   go_simp
   (with_reducible refine cM (Ha.out _) ?_)
   rintro e de ⟨c6,rfl,ar,aj⟩;obtain⟨bG,cj,bX,cB,bN,cq,cc,rfl⟩:=ar.form
   go_wp2_with fail
   refine kO f (AtS.ext (by assumption) aj) (fun g=>?_);clear f K;refine cl1 (i:=6) fun K f=>?_
   go_simp
   (with_reducible refine cM (Hc.out _) ?_)
   rintro e cJ ⟨c7,rfl,au,ae⟩;obtain⟨bH,ck,bY,cC,bO,cr,cd,rfl⟩:=au.form
   go_wp2_with fail
   refine kO f (AtS.ext (by assumption) ae) (fun g=>?_);clear f K;have K7:=hd9 (zch cJ (Ob #[Y ya ym yc,U ys,Y ab ad ac]) (Ob #[Y bH ck bY,U cC,Y bO cr cd]) x ((j:Int):Rat) (bC.out.ext (aj.trans ae)) au (Hb.out.mono dM) (bm.out.mono dM));refine cl1 (i:=7) fun K f=>?_
   go_simp
   (with_reducible refine cM K7.out ?_)
   rintro e dg ⟨c8,rfl,av,ak⟩;obtain⟨bI,cl,bZ,cD,bP,cs,ce,rfl⟩:=av.form
   go_wp2_with fail
   refine kO f (AtS.ext (by assumption) ak) (fun g=>?_);clear f K;refine cl1 (i:=13) fun K f=>?_
   go_simp
   (with_reducible refine cM (Hd.out _) ?_)
   rintro e cK ⟨c9,rfl,aw,af⟩;obtain⟨bJ,cm,b0,cF,bQ,ct,cf,rfl⟩:=aw.form
   go_wp2_with fail
   refine kO f (AtS.ext (by assumption) af) (fun g=>?_);clear f K;have bD:=hd9 (zhC cK (Ob #[Y bI cl bZ,U cD,Y bP cs ce]) (Ob #[Y bJ cm b0,U cF,Y bQ ct cf]) (x-((j:Int):Rat)) ((bz-p:Int):Rat) (av.ext af) aw (bq.out.mono dM) (bo.out.mono dM));refine cl1 (i:=14) fun K f=>?_
   go_simp
   (with_reducible refine cM bD.out ?_)
   rintro e dh ⟨da,rfl,ay,al⟩;obtain⟨bK,cn,b1,cG,bT,cu,cg,rfl⟩:=ay.form
   go_wp2_with fail
   refine kO f (AtS.ext (by assumption) al) (fun g=>?_);clear f K;refine cl1 (i:=20) fun K f=>?_
   go_simp
   (with_reducible refine cM (He.out _) ?_)
   rintro e cL ⟨db,rfl,aA,ag⟩;obtain⟨bL,co,b4,cH,bU,cv,ch,rfl⟩:=aA.form
   go_wp2_with fail
   refine kO f (AtS.ext (by assumption) ag) (fun g=>?_);clear f K;have bE:=hd9 (zfV cL (Ob #[Y bK cn b1,U cG,Y bT cu cg]) (Ob #[Y bL co b4,U cH,Y bU cv ch]) ((x-((j:Int):Rat))*((bz-p:Int):Rat)) ((z-j:Int):Rat) (ay.ext ag) aA (br.out.mono dM) (bp.out.mono dM));refine cl1 (i:=21) fun K f=>?_
   go_simp
   (with_reducible refine cM bE.out ?_)
   rintro e cN ⟨dc,rfl,aB,am⟩;obtain⟨bM,cp,b5,cI,bV,cw,ci,rfl⟩:=aB.form
   go_wp2_with fail
   refine kO f (AtS.ext (by assumption) am) (fun g=>?_);clear f K;have bF:=hd9 (zfh cN (Ob #[Y bG cj bX,U cB,Y bN cq cc]) (Ob #[Y bM cp b5,U cI,Y bV cw ci]) ((p:Int):Rat) (((x-((j:Int):Rat))*((bz-p:Int):Rat)) / ((z-j:Int):Rat)) (ar.ext (((((ae.trans ak).trans af).trans al).trans ag).trans am)) aB (bn.out.mono dM) (bs.out.mono dM));refine cl1 (i:=22) fun K f=>?_
   go_simp
   (with_reducible refine cM bF.out ?_)
   rintro e aV ⟨dd,rfl,aC,aD⟩;obtain⟨cP,c1,cR,c5,cQ,c4,c0,rfl⟩:=aC.form
   go_wp2_with fail
   refine kO f (AtS.ext (by assumption) aD) (fun g=>?_);clear f K;have aZ:Ext w4.drew aV:=((((((aj.trans ae).trans ak).trans af).trans al).trans ag).trans am).trans aD;have aH:=bk.out.ext ((eR w4).drew.trans aZ);obtain⟨_,_,_,_,_,_,_,o0,o1,o2,cx,cy,cz,zo,_⟩:=aH.rd;have bl:=hd9 aH;clear aH;have cY:¬w.heap.size+1=w.heap.size:=oM
   have cX:¬w.heap.size+1=B∧¬w.heap.size+1=B+1:=⟨by omega,by omega⟩;have a5:atE x ((j,p),z,bz)=((p:Int):Rat)+((x-((j:Int):Rat))*((bz-p:Int):Rat)) / ((z-j:Int):Rat):=rfl;have bv:=hd9 a5;clear a5;refine cl1 (i:=23) fun K f=>?_
   go_simp;refine kO f ((((show AtS w.heap.size B ya ym yc ys ab ad ac j p z bz aV by assumption).set dO dO dO _).set dO dO dO _).set dO dO dO _) (fun _=>?_);clear f K;refine wpAnyH_done kM ?_ _;unfold NQ
   gi_wp2
   have X9:Ext W aV:=bu.out.trans ((eR w4).drew.trans aZ);refine⟨(((zaz X9).trans ((KeepsOthers.setCell _ _ _).from _)).trans ((KeepsOthers.setCell _ _ _).from _)).trans ((KeepsOthers.setCell _ _ _).from _),rfl,(((R.trans X9).set dO _).set dO _).set dO _,by simp only [qcZ];exact nT h2 X9.size,pre,_,rfl,h5,aE.out,?_⟩;dsimp only;rw [bv.out];exact bl.out.put aC
  ·have L:xLe x ((j,p),z,bz)=false:=by unfold xLe;rw [HT.out];simpa using a4
   have cU:0<T:=oM
   have aE:=hd9 L;clear L;unfold NQ
   gi_wp2
   refine⟨zaz X4,(KpW.refl w _ W).ext X4 R.size oM,R.trans X4,nT h2 X4.size,h3.ext X4,aG,fun e he=>?_⟩
   rcases List.mem_append.1 he with he|he
   ·exact h5 e he
   ·rw [List.mem_singleton.1 he];exact aE.out
 case done =>
  rintro D ys W hD rfl ⟨R,h2,h3,h4,h5⟩ f;obtain⟨m,rfl⟩:∃m,n=m+1:=⟨n-1,by have:=List.length_pos_iff.2 aX.out.1;rw [Hn.out]at this;omega⟩;obtain⟨⟨qx,qz⟩,hq⟩:∃q,ps[m]?=Z q:=⟨ps[m]'(by rw [Hn.out];omega),by simp⟩;obtain⟨b,o,rfl,hb,d0,d1⟩:=(h.ext' R).at' hq;have hR:atR ps x=((qz:Int):Rat):=zk2 aW.out h5 (q:=(qx,qz)) (by rw [Hn.out];exact hq);have ai:=aX.out.2.1 (qx,qz) (lM hq);have a8:=fun W=>za8 W qz (by unfold Bd at ai;dsimp only at ai;omega) (by unfold Bd at ai;dsimp only at ai;omega)
  have L:=h.le;have cW:m+1≤9223372036854775807:=by rw [Hn.out]at L;unfold maxLen at L;omega
  have bB:=hd9 a8;have aF:=hd9 hR;have p1:(0:Int)≤(m:Int):=oM
  have p2:(m:Int)<((m+1:Nat):Int):=oM
  have u1:((m+1:Nat):Int)-1=(m:Int):=oM
  have zD:D<W.heap.size:=zaa f;clear a8 hR hq ai L
  gi_wp2_with(refine⟨trivial,?_⟩;gi_at_call 85;(with_reducible refine(callsIn_wide.2 (bB.out _)).mono ?_);rintro e w2 ⟨r2,rfl,ba,hx2⟩;obtain⟨a2,m2,c2,t,b2,n2,k2,rfl⟩:=ba.form;have a1:=h4.ext hx2;obtain⟨_,_,_,_,_,_,_,o0,o1,o2,cx,cy,cz,zo,_⟩:=a1.rd;have b6:=hx2.heapS f)
  have hP:=a1.put ba;have cT:¬D=w.heap.size+1:=oM
  have a0:(((w2.setCell ⟨w.heap.size+1,0,V⟩ (Y a2 m2 c2)).setCell ⟨w.heap.size+1,1,V⟩ (U t)).setCell ⟨w.heap.size+1,2,V⟩ (Y b2 n2 k2)).heap[D]?=Z (.deferred (Z [])):=by
   rw [bS _ _ _ _ dO,bS _ _ _ _ dO,bS _ _ _ _ dO];exact b6
  have ca:Ext w (((w2.setCell ⟨w.heap.size+1,0,V⟩ (Y a2 m2 c2)).setCell ⟨w.heap.size+1,1,V⟩ (U t)).setCell ⟨w.heap.size+1,2,V⟩ (Y b2 n2 k2)):=
   (((R.trans hx2).set dO _).set dO _).set dO _
  have ah:=zgQ a0 (.deferred V);have aI:=hP.sim ah;obtain⟨pa,pm,aP,aR,aM,aQ,aO,aS,aT,aU,_,_,_,_,hz⟩:=aI.rd;refine⟨by simp,.inl ⟨_,_,rfl,run_takeDeferred a0,?_⟩⟩;refine⟨Ob #[Y pa pm aP,U aR,Y aM aQ aO],by simp [results,Tryz.results88,go_sem,aS,aT,aU],?_⟩;rw [aF.out];exact⟨_,rfl,hz,ah.ext ca oM⟩
 case stop =>
  rintro D c pre W hD a9 ⟨rfl,R,h2,p',e,rfl,h4,h5,h6⟩ f;have hR:=zod aW.out a9 h4 h5;have aF:=hd9 hR;clear hR
  gi_wp2
  have ah:=zgQ f (.deferred V);have aI:=h6.sim ah;obtain⟨pa,pm,aP,aR,aM,aQ,aO,aS,aT,aU,_,_,_,_,hz⟩:=aI.rd;refine⟨by simp,.inl ⟨_,_,rfl,run_takeDeferred f,?_⟩⟩;refine⟨Ob #[Y pa pm aP,U aR,Y aM aQ aO],by simp [results,Tryz.results88,go_sem,aS,aT,aU],?_⟩;rw [aF.out];exact⟨_,rfl,hz,ah.ext R oM⟩
end
section
open Go.RowKit Go.Shelf
def marks (a:List Nat):List Deferred:=a.map fun D=>{ target:=.collected D,args:=#[] }
def Marked (W:O) (a:List Nat):Prop:=a.Nodup∧∀D∈a,W.heap[D]?=Z (.deferred (Z []))
theorem Marked.ext {W W':O} {a:List Nat} (h:Marked W a) (k:Ext W W'):Marked W' a:=⟨h.1,fun D b=>k.heapS (h.2 D b)⟩
theorem Marked.nil (W:O):Marked W []:=⟨List.nodup_nil,fun D a=>by cases a⟩
theorem Marked.cons {W:O} {a:List Nat} {D:Nat} (h:Marked W a) (c:W.heap[D]?=Z (.deferred (Z []))) (d:D ∉ a):Marked W (D::a):=
 ⟨List.nodup_cons.2 ⟨d,h.1⟩,fun E b=>by rcases List.mem_cons.1 b with rfl|b;exact c;exact h.2 E b⟩
theorem Marked.set {W:O} {a:List Nat} (h:Marked W a) {p:Oe} {cs:Array C} {T:TypeId} {c:Nat×Nat} (d:W.heap[p.block]?=Z (.cells cs T c)) (u:C):Marked (W.setCell p u) a:=
 ⟨h.1,fun D b=>by rw [bS _ _ _ _ (by intro e;have:=h.2 D b;rw [e,d]at this;cases this)];exact h.2 D b⟩
theorem Marked.grown {W W':O} {c:List Nat} {row:Option Nat} (h:Marked W c) (f:W.grownBy W' row) (b:∀r,row=Z r→∃cs T fr,W.heap[r]?=Z (.cells cs T fr)):Marked W' c:=
 ⟨h.1,fun D d=>by
  have a:=h.2 D d;rw [f.block D (zaa a) (fun e=>by obtain⟨cs,T,fr,b⟩:=b D e.symm;rw [b]at a;cases a)];exact a⟩
theorem zbT {n:Nat} {P:Program} {f:Func} {tmps:Array C} {R:Ending→O→Prop}:∀(a:List Nat) (W:O),Marked W a →
  (∀W':O,(∀B,(∀D∈a,B≤D)→Sim B W W')→LeavesInM Fence.wide n P f tmps R [] .returning W')→LeavesInM Fence.wide n P f tmps R (marks a) .returning W
 | [],W,_,h=>h W (fun B _=>⟨Below.refl _ _,fun _ _ h _=>h⟩)
 | D::a,W,hm,h=>by
  have j:=hm.2 D sM;have m:=zgQ j (.deferred V);refine⟨by simp,.inl ⟨D,_,rfl,run_takeDeferred j,?_⟩⟩;refine zbT a _ ⟨(List.nodup_cons.1 hm.1).2,fun E b=>?_⟩ (fun W' c=>h W' (fun B i=>?_))
  ·have d:E≠D:=fun e=>(List.nodup_cons.1 hm.1).1 (e▸b)
   rw [World.putObj_heap_other d];exact hm.2 E (mC _ b)
  ·have g:=c B (fun E b=>i E (mC _ b))
   exact⟨(Below.mono m.1 (i D sM)).trans g.1,fun k o p l=>g.2 k o (m.2 k o p l) l⟩
def CellL:List (Oe×C)→O→Prop
 | [],_=>True
 | (a,v)::r,W=>W.cell? a=Z v∧CellL r W
theorem CellL.ext:∀{L:List (Oe×C)} {W W':O},CellL L W→Ext W W'→CellL L W'
 | [],_,_,_,_=>trivial
 | _::_,_,_,⟨h1,h2⟩,k=>⟨k.cellS h1,h2.ext k⟩
theorem cE {L:List (Oe×C)} {W W':O} (h:CellL L W) (k:Ext W W'):CellL L W':=h.ext k
theorem cA {L:List (Oe×C)} {W:O} (h:CellL L W:=by(repeat(first|exact trivial|refine⟨by go_simp,?_⟩))):CellL L W:=h
theorem CellL.set:∀{L:List (Oe×C)} {W:O} {p:Oe},CellL L W→(∀q∈L,p.block≠q.1.block)→∀u,CellL L (W.setCell p u)
 | [],_,_,_,_,_=>trivial
 | (a,v)::r,W,p,⟨h1,h2⟩,hn,u=>⟨by rw [World.cell?_setCell_far _ _ _ _ (hn (a,v) (by simp))];exact h1,h2.set (fun q b=>hn q (mC _ b)) u⟩
theorem CellL.set3 {L:List (Oe×C)} {W:O} {b:Nat} (h:CellL L W) (a:∀q∈L,b≠q.1.block) (u v t:C):CellL L (((W.setCell ⟨b,0,V⟩ u).setCell ⟨b,1,V⟩ v).setCell ⟨b,2,V⟩ t):=
 ((h.set a u).set a v).set a t
theorem CellL.nil (W:O):CellL [] W:=trivial
structure Sp where
 over:List (Int×Int)
 under:List (Int×Int)
 lo:Int
 hi:Int
def gapR (s:Sp) (x:Rat):Rat:=atR s.over x-atR s.under x
theorem zni (w:O) (s:Sp) (v1 v2 vx:C) (x:Rat) (z:IsPts w v1 s.over) (D:IsPts w v2 s.under) (k1:LnOk s.over) (k2:LnOk s.under) (hx:IsR w vx x) (T:Rb 1000 x) (g:Rb limR (atR s.over x)) (h:Rb limR (atR s.under x)) :
  Calls Tryz.prog 133 #[Ob #[v1,v2,M I s.lo,M I s.hi],vx] w (RetR w (gapR s x)):=by
 obtain⟨a1,m1,rfl⟩:=z.form;obtain⟨a2,m2,rfl⟩:=D.form;obtain⟨xa,xm,xc,xs,t,y,u,rfl⟩:=hx.form;obtain⟨n1,l⟩:=gX s.over.length;obtain⟨n2,m⟩:=gX s.under.length;rw [l]at z ⊢;rw [m]at D ⊢;obtain⟨lo,k⟩:=gX s.lo;obtain⟨hi,j⟩:=gX s.hi;rw [k,j];have H1:=hd9 (fun(W:O) (f:Ext w W)=>zgD W _ _ s.over x (z.ext' f) k1 (hx.ext f) T);have H2:=hd9 (fun(W:O) (f:Ext w W)=>zgD W _ _ s.under x (D.ext' f) k2 (hx.ext f) T);have L:=hd9 g;have R:=hd9 h;clear g h T l m k j k1 k2 z D;go_enter Tryz.func133,Tryz.ntmps133;go_wp2;refine wp_region_held_drew (S:=CellL [(⟨w.heap.size,0,V⟩,Y a1 n1 m1),(⟨w.heap.size,1,V⟩,Y a2 n2 m2),(⟨w.heap.size+1,0,V⟩,Y xa xm xc),(⟨w.heap.size+1,1,V⟩,U xs),(⟨w.heap.size+1,2,V⟩,Y t y u)]) kM (by refine⟨?_,?_,?_,?_,?_,trivial⟩<;>go_simp) (fun a=>?_);refine sN 0 ?_
 iterate 3
  refine tkn ?_
 refine oN ?_;refine sN 4 ?_
 iterate 3
  refine tkn ?_
 refine oN ?_;refine cl1 (i:=3) fun K b=>?_
 go_simp
 (with_reducible refine cM (H1.out _ eA) ?_)
 rintro e w3 ⟨r3,rfl,n,r⟩;obtain⟨a3,m3,c3,s3,b3,n3,k3,rfl⟩:=n.form
 go_wp2_with fail
 refine kO b (cE a r) (fun a=>?_);clear b K;have X3:Ext w w3:=eA;refine cl1 (i:=7) fun K b=>?_
 go_simp
 (with_reducible refine cM (H2.out _ X3) ?_)
 rintro e w4 ⟨r4,rfl,o,c⟩;obtain⟨a4,m4,c4,s4,b4,n4,k4,rfl⟩:=o.form
 go_wp2_with fail
 refine kO b (cE a c) (fun a=>?_);clear b K;have K5:=hd9 (zch w4 _ _ _ _ (n.ext c) o L.out R.out);refine cl1 (i:=8) fun K b=>?_
 go_simp
 (with_reducible refine cM K5.out ?_)
 rintro e w5 ⟨r5,rfl,p,d⟩;obtain⟨a5,m5,c5,s5,b5,n5,k5,rfl⟩:=p.form
 go_wp2_with fail
 refine kO b (cE a d) (fun a=>?_);clear b K;have hO:RB w5 (w.heap.size+1+1) 0:=(((RB.new (IsR.zero _) sM).ext ((eR _).drew.trans r)).ext c).ext d;obtain⟨_,_,_,_,_,_,_,o0,o1,o2,aj,ak,al,zo,_⟩:=hO.rd
 have aa:∀q∈[((⟨w.heap.size,0,V⟩:Oe),Value.slice a1 n1 m1),(⟨w.heap.size,1,V⟩,Y a2 n2 m2),(⟨w.heap.size+1,0,V⟩,Y xa xm xc),(⟨w.heap.size+1,1,V⟩,U xs),(⟨w.heap.size+1,2,V⟩,Y t y u)],w.heap.size+1+1≠q.1.block:=by
  intro q hq;simp at hq
  rcases hq with rfl|rfl|rfl|rfl|rfl<;>(dsimp only;omega)
 refine cl1 (i:=9) fun K b=>?_
 go_simp;refine kO b (CellL.set3 (by assumption) aa _ _ _) (fun a=>?_);clear b K;refine wpAnyH_done kM ?_ _;go_wp2;have hP:=hO.put p;obtain⟨pa,pm,ad,af,ab,ae,ac,ag,ah,ai,_,_,_,_,hz⟩:=hP.rd;exact bR (v:=Ob #[Y pa pm ad,U af,Y ab ae ac]) (by simp [results,Tryz.results133,go_sem,ag,ah,ai]) rfl ⟨_,rfl,hz,((((X3.trans c).trans d).set dO _).set dO _).set dO _⟩
section
variable {P:Program} {ops:Array Oper} {Q:Exit→Oa→O→Prop} {md:Region.Mode} {S:O→Prop} {late:Nat→Bool}
def HU (P:Program) (md:Region.Mode) (ops:Array Oper) (Q:Exit→Oa→O→Prop) (S:O→Prop) (late:Nat→Bool):Nat→Array Bool→Oa→O→Prop
 | 0,b,a,w=>Region.ready md ops b=[]∧Q .normal a w
 | fuel+1,b,a,w =>
  (Region.ready md ops b=[]→Q .normal a w) ∧
  ∀i∈Region.ready md ops b,wpOp P ops Q i (fun d c=>(late i=false→S c)∧HU P md ops Q S late fuel (b.setIfInBounds i true) d c) a w
theorem zer:∀(fuel:Nat) (b:Array Bool) (a:Oa) (w:O),HU P md ops Q S late fuel b a w→wpAny P md ops Q fuel b a w
 | 0,_,_,_,h=>h
 | fuel+1,_,_,_,h=>⟨h.1,fun i e=>wpOp_mono (fun c f d=>zer fuel _ c f d.2) (h.2 i e)⟩
theorem zk0 {m i:Nat} {oi:Oper} {v:C} (hg:gated md ops late m=true) (ac:late i=false) (hi:ops[i]?=Z oi) (q:∀(j:Nat) (o:Oper) u b,ops[j]?=Z o→o.op ≠ .select u b)
  (hQ:∀c a w,Q (.panic c) (a.put oi.dst v) w→Q (.panic c) a w) :
  ∀(fuel:Nat) (d:Array Bool) (a:Oa) (w:O),Cl md ops d →
   (∀j oj,ops[j]?=Z oj→j≠i→d.getD j true=false→(∀e∈oj.after,Region.binds md e=true→e.on≠i)→oi.apart ops oj=true) →
   i∈Region.ready md ops d→YieldsIf P ops S oi v a→S w →
   HU P md ops Q S late fuel (d.setIfInBounds i true) (a.put oi.dst v) w→HU P md ops Q S late (fuel+1) d a w:=by
 intro fuel
 induction fuel with
 | zero =>
  intro d a w W _ p R x H;refine⟨fun h=>(by rw [h]at p;cases p),fun j t=>?_⟩
  by_cases f:j=i
  ·subst f;exact R.wpOp hi x ⟨fun _=>x,H⟩
  ·have:=ready_mono t f
   rw [H.1]at this
   cases this
 | succ fuel ih =>
  intro d a w W g p R x H;refine⟨fun h=>(by rw [h]at p;cases p),fun j t=>?_⟩
  by_cases f:j=i
  ·subst f;exact R.wpOp hi x ⟨fun _=>x,H⟩
  ·have r:=H.2 j (ready_mono t f)
   have ad:=zgM hg W p ac t;obtain⟨n,oj,s,y⟩:=mem_ready.1 t
   have D:∀e∈oj.after,Region.binds md e=true→e.on≠i:=fun e he hb aa=>by
    have r:=y e he hb;have h0:=(mem_ready.1 p).1;rw [aa]at r
    rcases Nat.lt_or_ge i d.size with T | T
    ·simp [T]at h0 r;rw [h0]at r;cases r
    ·simp [Array.getElem?_eq_none T]at r
   have h2:=wpOp_putIf s (g j oj s f n D) (fun u b=>q i oi u b hi) (fun u b=>q j oj u b s) hQ R r
   have l:∀k ok,ops[k]?=Z ok→k≠i→(d.setIfInBounds j true).getD k true=false →
     (∀e∈ok.after,Region.binds md e=true→e.on≠i)→oi.apart ops ok=true:=fun k ok hk ab K ae=>by
    refine g k ok hk ab ?_ ae
    by_cases z:j=k
    ·subst z;exact n
    ·rw [getD_set_ne true z]at K;exact K
   refine wpOp_mono (fun a' w' L=>⟨L.2.1,ih (d.setIfInBounds j true) a' w' (W.step t) l (ready_mono p (Ne.symm f)) L.1 (L.2.1 ad) ?_⟩) h2;rw [Array.setIfInBounds_comm _ _ f];exact L.2.2
def HUc (P:Program) (md:Region.Mode) (ops:Array Oper) (Q:Exit→Oa→O→Prop) (S:O→Prop) (late:Nat→Bool) (fuel:Nat) (b:Array Bool) (a:Oa) (w:O):Prop:=Cl md ops b→HU P md ops Q S late fuel b a w
def TakeHU (P:Program) (md:Region.Mode) (ops:Array Oper) (Q:Exit→Oa→O→Prop) (S:O→Prop) (late:Nat→Bool) (fuel:Nat) (b:Array Bool) (a:Oa) (w:O) (i:Nat) (oi:Oper):Prop:=
 ∃v,late i=false∧Region.noSelect ops=true∧Region.free md ops b i=true∧(Region.ready md ops b).contains i=true∧(∀c a w,Q (.panic c) (a.put oi.dst v) w→Q (.panic c) a w)∧YieldsIf P ops S oi v a∧S w ∧
  HUc P md ops Q S late fuel (b.setIfInBounds i true) (a.put oi.dst v) w
theorem takeHU {m:Nat} (p:gated md ops late m=true) {i:Nat} {oi:Oper} {fuel:Nat} {b:Array Bool} {a:Oa} {w:O} (d:ops[i]?=Z oi) (h:TakeHU P md ops Q S late fuel b a w i oi):HUc P md ops Q S late (fuel+1) b a w:=by
 obtain⟨v,f,g,j,k,l,n,h6,o⟩:=h;intro c;have e:i∈Region.ready md ops b:=by simpa using k
 exact zk0 p f d (Region.noSelect_spec g) l fuel b a w c (Region.free_spec d j) e n h6 (o (c.step e))
def CallHU (P:Program) (md:Region.Mode) (ops:Array Oper) (Q:Exit→Oa→O→Prop) (S:O→Prop) (late:Nat→Bool) (fuel:Nat) (b:Array Bool) (a:Oa) (w:O) (i:Nat) (o:Oper):Prop:=
 Region.ready md ops b=[i]∧∀K':Oa→O→Prop,Shut (∀a w,(late i=false→S w)→((late i=false→S w)→HUc P md ops Q S late fuel (b.setIfInBounds i true) a w)→K' a w) →
  if Region.wanted o (yielded ops a.tmps)=true then Oper.wp P o a w K' Q else K' (a.put o.dst undef) w
theorem callHU {i:Nat} {o:Oper} {fuel:Nat} {b:Array Bool} {a:Oa} {w:O} (n:ops[i]?=Z o) (h:CallHU P md ops Q S late fuel b a w i o):HUc P md ops Q S late (fuel+1) b a w:=by
 obtain⟨f,h⟩:=h;intro m;refine⟨fun g=>absurd (f▸g) sM,fun j c=>?_⟩;have d:=c;rw [f]at c
 cases List.mem_singleton.1 c
 exact wpOp_step n (fun K' k=>h K' (fun a w e l=>k a w ⟨e,l e (m.step d)⟩))
theorem doneHU {b:Array Bool} {a:Oa} {w:O} (c:Region.ready md ops b=[]) (h:Q .normal a w):∀fuel,HUc P md ops Q S late fuel b a w
 | 0=>fun _=>⟨c,h⟩
 | _+1=>fun _=>⟨fun _=>h,by rw [c];simp⟩
theorem tu1 {v:C} {i:Nat} {oi:Oper} {fuel:Nat} {b:Array Bool} {a:Oa} {w:O} {G:Prop} (h:G) (m:gated md ops late 12=true:=by kernel_rfl) (n:ops[i]?=Z oi:=by(simp only [gA,gS,gZ];rfl)) (e:late i=false:=by rfl) (f:Region.noSelect ops=true:=by kernel_rfl) (g:Region.free md ops b i=true:=by kernel_rfl) (j:(Region.ready md ops b).contains i=true:=by kernel_rfl) (k:∀c a w,Q (.panic c) (a.put oi.dst v) w→Q (.panic c) a w:=by exact fun _ _ _ h=>h) (o:Region.wanted oi (yielded ops a.tmps)=true:=by rfl) (p:∀w,S w→(execOp a.eval oi).run P w = .ok (.value v) w:=by(intro w d;simp only [CellL,and_true]at d;go_simp;try(with_reducible rfl))) (h6:S w:=by(with_reducible assumption)) (l:HUc P md ops Q S late fuel (b.setIfInBounds i true) (a.put oi.dst v) w=G:=by((try simp only [Act.put,sA,sZ,sS]);rfl)):HUc P md ops Q S late (fuel+1) b a w:=by
 subst l;exact takeHU m n ⟨v,e,f,g,j,k,Or.inl ⟨o,p⟩,h6,h⟩
theorem tun {v:C} {i:Nat} {oi:Oper} {fuel:Nat} {b:Array Bool} {a:Oa} {w:O} {G:Prop} (h:G) (m:gated md ops late 12=true:=by kernel_rfl) (n:ops[i]?=Z oi:=by(simp only [gA,gS,gZ];rfl)) (e:late i=false:=by rfl) (f:Region.noSelect ops=true:=by kernel_rfl) (g:Region.free md ops b i=true:=by kernel_rfl) (j:(Region.ready md ops b).contains i=true:=by kernel_rfl) (k:∀c a w,Q (.panic c) (a.put oi.dst v) w→Q (.panic c) a w:=by exact fun _ _ _ h=>h) (o:Region.wanted oi (yielded ops a.tmps)=true:=by rfl) (p:∀w,S w→(execOp a.eval oi).run P w = .ok (.value v) w:=by(intro w d;simp only [CellL,and_true]at d;go_simp;try(with_reducible rfl))) (h6:S w:=by(with_reducible assumption)) (l:wpN (i+1) (HUc P md ops Q S late fuel (b.setIfInBounds i true) (a.put oi.dst v) w)=G:=by((try simp only [Act.put,sA,sZ,sS,Nat.reduceAdd]);rfl)):wpN i (HUc P md ops Q S late (fuel+1) b a w):=by
 subst l;exact takeHU m n ⟨v,e,f,g,j,k,Or.inl ⟨o,p⟩,h6,h⟩
theorem cu1 {i:Nat} {o:Oper} {fuel:Nat} {b:Array Bool} {a:Oa} {w:O} (h:∀K':Oa→O→Prop,Shut (∀a w,(late i=false→S w)→((late i=false→S w)→HUc P md ops Q S late fuel (b.setIfInBounds i true) a w)→K' a w)→if Region.wanted o (yielded ops a.tmps)=true then Oper.wp P o a w K' Q else K' (a.put o.dst undef) w) (c:ops[i]?=Z o:=by(simp only [gA,gS,gZ];rfl)) (d:Region.ready md ops b=[i]:=by kernel_rfl):HUc P md ops Q S late (fuel+1) b a w:=callHU c ⟨d,h⟩
theorem callHU2 {i j:Nat} {oi e:Oper} {fuel:Nat} {b:Array Bool} {a:Oa} {w:O}
  (p:∀K':Oa→O→Prop,Shut (∀a w,(late i=false→S w)→((late i=false→S w)→HUc P md ops Q S late fuel (b.setIfInBounds i true) a w)→K' a w)→if Region.wanted oi (yielded ops a.tmps)=true then Oper.wp P oi a w K' Q else K' (a.put oi.dst undef) w)
  (q:∀K':Oa→O→Prop,Shut (∀a w,(late j=false→S w)→((late j=false→S w)→HUc P md ops Q S late fuel (b.setIfInBounds j true) a w)→K' a w)→if Region.wanted e (yielded ops a.tmps)=true then Oper.wp P e a w K' Q else K' (a.put e.dst undef) w)
  (r:ops[i]?=Z oi:=by(simp only [gA,gS,gZ];rfl)) (s:ops[j]?=Z e:=by(simp only [gA,gS,gZ];rfl)) (n:Region.ready md ops b=[i,j]:=by kernel_rfl) :
  HUc P md ops Q S late (fuel+1) b a w:=by
 intro m;refine⟨fun o=>absurd (n▸o) sM,fun k h=>?_⟩;have d:=h;rw [n]at h
 rcases List.mem_cons.1 h with rfl|l
 ·exact wpOp_step r (fun K' f=>p K' (fun a w c g=>f a w ⟨c,g c (m.step d)⟩))
 ·cases List.mem_singleton.1 l
  exact wpOp_step s (fun K' f=>q K' (fun a w c g=>f a w ⟨c,g c (m.step d)⟩))
theorem zae {d:Nat} {a:Oa} {w:O} (late:Nat→Bool) (S:O→Prop) (c:P.follows .mixedOrders=true) (b:S w.drew)
  (h:S w.drew→HUc P .any ops Q S late ops.size (Array.replicate ops.size false) a w.drew):(Code.region d ops true).wp P Q a w:=
 wp_region_any c (zer _ _ _ _ (h b (Cl.start _)))
end
def loopsOf:Code→List Code
 | .seq a b=>loopsOf a++loopsOf b
 | .cond _ a b=>loopsOf a++loopsOf b
 | .block _ b=>loopsOf b
 | .loop b=>b::loopsOf b
 | .rangeFunc _ _ a b=>loopsOf a++loopsOf b
 | .scope b=>loopsOf b
 | _=>[]
def loopAt (f:Func) (k:Nat):Code:=match f.body with|some c=>(loopsOf c).getD k .skip|none=>.skip
end
section
open Go.RowKit Go.Shelf
attribute [local go_sem] Oper.semAt_some
abbrev limG:Nat:=400000
def AdC (w:O) (N:Int) (t4:C) (W:O):Prop:=
 ∃p q:Int,p+q=N∧(q.natAbs:Int)≤p.natAbs∧Lm limG p∧Lm limG q∧t4=Oc (Z ⟨w.heap.size+1+1,0,V⟩)∧Ext w W∧NB W w.heap.size p∧NB W (w.heap.size+1) q ∧
  W.heap[w.heap.size+1+1]?=Z (.cells #[M I 0,Y V 0 0] 66 (0,0))
def AdL (wc:O) (c:Option Oe) (d b e:Nat) (xs g:List Int) (σ:Int) (f:C) (wr:O):Prop:=
 ∃(j:Nat) (a:List Int),f=M I j∧j≤e∧a.length=b∧Own 3 wr wc.heap.size (Y c b d) a∧dv C4 a=dv C4 xs+σ*dv C4 (g.take j)∧AddB a j∧Ext wc wr
theorem zjU {xs a:List Int} (d:Can C4 xs) (e:Can C4 a) (h:dv C4 a≤dv C4 xs):a.length≤xs.length:=by
 rcases Nat.lt_or_ge xs.length a.length with c|c
 ·have:=zbx (b:=C4) dM d.1 e c;omega
 ·exact c
theorem sg3 (n m:Int):n.sign*m.sign = -1∨n.sign*m.sign=0∨n.sign*m.sign=1:=by
 rcases zai n with ⟨e,_⟩|⟨e,_⟩|⟨e,_⟩<;>rcases zai m with ⟨a,_⟩|⟨a,_⟩|⟨a,_⟩<;>rw [e,a]<;>decide
theorem zhF {n:Int} (h:n≠0):n.sign=1∨n.sign = -1:=by rcases zai n with ⟨e,_⟩|⟨e,a⟩|⟨e,_⟩<;>omega
theorem Own.drew {T:TypeId} {w:O} {base:Nat} {v:C} {xs:List Int} (h:Own T w base v xs):Own T w.drew base v xs:=h
theorem zpe {w b:O} {a:C} {xs:List Int} (h:Own 3 b w.heap.size a ([]++xs)):Own 3 b w.heap.size a xs:=h
theorem zms (w:O) (va vb:C) (r nb:Int) (ha:IsN w va r) (hb:IsN w vb nb) (ay:Lm limG r) (az:Lm limG nb) :
  Calls Tryz.prog 169 #[va,vb] w (RetNo w (r+nb)):=by
 obtain⟨s,a,m,c,rfl,hs⟩:=ha.form2;obtain⟨s',a',m',c',rfl,aS⟩:=hb.form2;obtain⟨D,hD⟩:=gX (((r.natAbs:Int)-(nb.natAbs:Int)).sign);have HD:=hd9 hD;have ad:=hd9 ay;have ae:=hd9 az;clear hs aS hD ay az;go_enter Tryz.func169,Tryz.ntmps169
 go_upto_if 10 with (go_at_call 191;(with_reducible refine(zcr _ (Ob #[M I s,Y a m c]) (Ob #[M I s',Y a' m' c']) r nb ?_ ?_).mono ?_);(refine ha.ext ?_;exact eA);(refine hb.ext ?_;exact eA);rw [HD.out];rintro e w1 ⟨rfl,t⟩;obtain⟨⟨aK,aO⟩,aF,aG,aH⟩:=cK3 w t)
 have n:NB w1 w.heap.size r:=(NB.new (W0:=w) ha rfl).ext eA;have R:NB w1 (w.heap.size+1) nb:=(NB.new (W0:=w.alloc (.cells #[M I s,Y a m c] 66)) (hb.ext eA) sM).ext eA;have al:w1.heap[w.heap.size+1+1]?=Z (.cells #[M I 0,Y V 0 0] 66 (0,0)):=t.heapS (qhA _ _ _ sM);have X1:Ext w w1:=eA
 go_cut [4] (AdC w (r+nb))
 case first =>
  by_cases a0:D<0
  ·have W:(r.natAbs:Int)≤nb.natAbs:=by
    have:=HD.out
    rcases zai ((r.natAbs:Int)-nb.natAbs)with ⟨e,_⟩|⟨e,_⟩|⟨e,_⟩<;>omega
   go_wp2;go_meet;refine⟨nb,r,by omega,W,ae.out,ad.out,rfl,eA,?_,?_,?_⟩
   ·exact((n.put (hb.ext X1)).other (p:=⟨w.heap.size+1,0,V⟩) sM ((R.not.set _ _).set _ _) _).other (p:=⟨w.heap.size+1,1,V⟩) sM (((R.not.set _ _).set _ _).set _ _) _
   ·exact((R.other (p:=⟨w.heap.size,0,V⟩) sM n.not _).other (p:=⟨w.heap.size,1,V⟩) sM (n.not.set _ _) _).put ((ha.ext X1).keep (((KeepT.refl _ w1).setN n.not _).setN (n.not.set _ _) _))
   ·rw [bS _ _ _ _ sM,bS _ _ _ _ sM,bS _ _ _ _ dO,bS _ _ _ _ dO]
    exact al
  ·have W:(nb.natAbs:Int)≤r.natAbs:=by
    have:=HD.out
    rcases zai ((r.natAbs:Int)-nb.natAbs)with ⟨e,_⟩|⟨e,_⟩|⟨e,_⟩<;>omega
   go_wp2;go_meet;exact⟨r,nb,rfl,W,ad.out,ae.out,rfl,X1,n,R,al⟩
 case rest =>
  clear n R al X1 t aK aO aF aG aH ha hb ad ae HD;obtain⟨p,q,aC,ai,aA,aQ,rfl,hx,hp,hq,L⟩:=hcut;obtain⟨sp,ap,mp,cp,aj,p0,p1,a4,a5,pz,aw⟩:=hp.rd;obtain⟨sq,aq,mq,cq,ak,q0,q1,a6,a7,qz,ax⟩:=hq.rd;obtain⟨xs,xl,xi,xc,xv⟩:=aw.open;obtain⟨ys,yl,yi,yc,yv⟩:=ax.open;have hm:=zbz aA xc xv;have aR:=zjU xc yc (by rw [xv,yv];exact ai);unfold limG at hm;rw [xl]at hm;rw [xl,yl]at aR;have hσ:=sg3 p q;rw [←aj,←ak]at hσ;obtain⟨σ,ac⟩:=gX (sp*sq);rw [ac]at hσ;have HP:=hd9 aC;have am:=hd9 ai;have ag:=hd9 aj;have ar:=hd9 ak;have Xl:=hd9 xl;have Yl:=hd9 yl;have Xv:=hd9 xv;have Yv:=hd9 yv;have k:=hd9 L;have af:=hd9 ac;have zc:=zaa L;clear aC ai aA aQ aj ak xl yl xv yv L ac hp hq aw ax
  go_wp2_with(at_builtin;refine appN zaV Tryz.underlying64 rfl _ _ rfl rfl (Own.nil _ _ wc.heap.size) rfl xi (by rw [Xl.out];simp;omega) (nE _) ?_;intro v' w2 d z av;replace d:=zpe d;obtain⟨ga,gc,rfl⟩:=d.form;obtain⟨aL,aP⟩:=Ext.cells z)
  rw [Xl.out]at d ⊢
  go_loopw [6] (AdL wc ga gc mp mq xs ys σ) (fun t6 _=>mq-(intOf t6).toNat)
  case atStart=>exact⟨0,xs,rfl,by omega,Xl.out,d,by simp,AddB.start xc.1,z⟩
  case round =>
   clear d z av aL aP;obtain⟨j,os,rfl,hj,aB,d,l,ah,f⟩:=hrel;have e0:=f.cellS p0;have e1:=f.cellS p1;have e2:=f.cellS q0;have e3:=f.cellS q1;have T:=hd9 aB;have an:=hd9 l;clear aB l
   by_cases W:j<mq
   ·obtain⟨b,o,rfl,aU,t⟩:=(yi.ext f).open (by rw [Yl.out];omega)
    obtain⟨g,rfl,hg,aZ⟩:=d.blk (by rw [T.out];omega);obtain⟨y,ab⟩:∃y,ys[j]?=Z y:=⟨_,gE (by rw [Yl.out];omega)⟩;obtain⟨x,aa⟩:∃x,os[j]?=Z x:=⟨_,gE (by rw [T.out];omega)⟩;have aW:=t j y ab;have aV:=d.cell aa;have aY:=d.frozen j;have aT:=yc.1 y (lM ab);have a2:=(ah j x aa).2.2 (nE _);unfold C4 at aT;obtain⟨u,hu⟩:=gX (σ*y);have a1 : -10000≤u∧u≤10000:=by rcases hσ with h|h|h<;>subst h<;>omega
    have aI:=hd9 ab;have au:=hd9 aa;have ac:=af.out;have g0:(0:Int)≤(j:Int):=oM
    have g1:(j:Int)<(mq:Int):=oM
    have g2:(j:Int)<(mp:Int):=oM
    clear t ab aa;go_wp2;refine zae (fun i=>decide (18<i)) (CellL [(⟨g,j,V⟩,M I x),(⟨w.heap.size,0,V⟩,M I sp),(⟨w.heap.size+1,0,V⟩,M I sq),(⟨w.heap.size+1,1,V⟩,Y (Z ⟨b,o,V⟩) mq cq),(⟨b,o+j,V⟩,M I y)]) kM ?_ (fun aJ=>?_)
    ·exact cA
    refine sN 0 ?_
    iterate 19
     refine tun ?_
    refine oN ?_;refine cu1 (i:=19) fun K hK=>?_
    go_simp;refine kO hK (fun h=>nomatch h) (fun aJ=>?_);clear hK K;refine doneHU kM ?_ _;go_wp2
    go_roundw
    case rel =>
     exact⟨j+1,os.set j (x+σ*y),by go_num,by omega,by simp [T.out],(d.stored j _).drew,zjl au.out aI.out an.out,ah.step au.out (by rw [hu];omega) (by rw [hu];omega),(f.set (p:=⟨g,j,V⟩) hg _).drew⟩
    case measure=>simp [intOf];omega
   ·obtain rfl:j=mq:=oM
    have l:dv C4 os=(p.natAbs:Int)+σ*(q.natAbs:Int):=by
     rw [an.out,Xv.out,lT (by rw [Yl.out];omega),Yv.out]
    obtain⟨v0,v1⟩:=zmS p q am.out;rw [←ag.out,←ar.out,af.out,←l]at v0;rw [←ag.out,←ar.out,af.out,←l]at v1;have V1:=hd9 v1;have ao:=hd9 l;have r0:=qcB (f.heapS k.out) (i:=0) (u:=M I 0) rfl;have r1:=qcB (f.heapS k.out) (i:=1) (u:=Y V 0 0) rfl;have a8:=qfB (f.heapS k.out) 0;have a9:=qfB (f.heapS k.out) 1;have zr:=zaa (f.heapS k.out);have XW:Ext w wr:=hx.trans f;clear l v1
    go_wp2_with(go_at_call 152;(with_reducible refine(zgv _ sp _ os (r+nb) d.ints (by rw [T.out];omega) ah.big v0 (by rw [V1.out,HP.out]) (fun h9=>?_)).mono ?_);(rw [ag.out];refine zhF (fun h8=>h9 ?_);have:=am.out;rw [ao.out];rw [h8]at this ⊢;simp at this ⊢;rw [this];simp);rintro e w3 ⟨r3,rfl,aD,aE⟩;obtain⟨s3,a3,m3,c3,rfl,-⟩:=aD.form2;obtain⟨aM,aX⟩:=aE.cells)
    refine bR (v:=Ob #[M I s3,Y a3 m3 c3]) (by simp [results,Tryz.results169,go_sem,aM,zr,r0,r1]) rfl ⟨_,rfl,(aD.keep (zbU (aE.heapS (f.heapS k.out)) _ _)).mono XW.size,eA⟩
theorem zlq (w:O) (d e:C) (a nb:Int) (f:IsN w d a) (g:IsN w e nb) (b:Lm limG a) (c:Lm limG nb) :
  Calls Tryz.prog 169 #[d,e] w (RetN w (a+nb)):=znQ (zms w d e a nb f g b c)
theorem zmv (w:O) (D K:C) (j nb:Int) (u:IsN w D j) (x:IsN w K nb) (b:Lm limG j) (d:Lm limG nb) :
  Calls Tryz.prog 151 #[D,K] w (RetNo w (j-nb)):=by
 obtain⟨s,a,m,c,rfl,hs⟩:=u.form2;obtain⟨z,r,y,t,rfl,p⟩:=x.form2;have k:=hd9 b;have l:=hd9 d.neg;rw [Int.sub_eq_add_neg];clear hs p b d;go_enter Tryz.func151,Tryz.ntmps151;go_wp2
 go_region_held3 (fun W=>W.cell? ⟨w.heap.size,0,V⟩=Z (M I s)∧W.cell? ⟨w.heap.size,1,V⟩=Z (Y a m c)∧W.cell? ⟨w.heap.size+1,0,V⟩=Z (M I z)∧W.cell? ⟨w.heap.size+1,1,V⟩=Z (Y r y t)) ((repeat' (with_reducible refine And.intro ?_ ?_))<;>(first|(go_simp;done)|(refine hx1.cellS ?_;go_simp;done))) (first|((go_at_call 193;(with_reducible refine(zcI _ (Ob #[M I z,Y r y t]) nb ?_).mono ?_);(refine x.ext ?_;exact eA);rintro e w1 ⟨r1,rfl,f,hx1⟩;obtain⟨s1,a1,m1,c1,rfl,-⟩:=f.form2;obtain⟨⟨n,ab⟩,L,R,h⟩:=cK3 w hx1))|((go_at_call 169;(with_reducible refine(zms _ (Ob #[M I s,Y a m c]) (Ob #[M I s1,Y a1 m1 c1]) j (-nb) ?_ ?_ k.out l.out).mono ?_);(refine u.ext ?_;exact eA);(refine f.ext ?_;exact eA);rintro e w2 ⟨r2,rfl,g,q⟩;obtain⟨s2,a2,m2,c2,rfl,-⟩:=g.form2;obtain⟨⟨o,ac⟩,T,aa,i⟩:=cK3 w q)))
 all_goals go_wp2
 exact bR (v:=Ob #[M I s2,Y a2 m2 c2]) (by simp [results,Tryz.results151,go_sem,n,o,h,i]) rfl ⟨_,rfl,(g.keep kA).mono (by have:=hx1.size;simp at this;omega),eA⟩
theorem ze0 (w:O) (d e:C) (a nb:Int) (f:IsN w d a) (g:IsN w e nb) (b:Lm limG a) (c:Lm limG nb) :
  Calls Tryz.prog 151 #[d,e] w (RetN w (a-nb)):=znQ (zmv w d e a nb f g b c)
theorem zoq (s:Int) (a:Option Oe) (m c:Nat) (w:O):(Instr.field 66 (Ob #[M I s,Y a m c]) 0).run Tryz.prog w = .ok (M I s) w:=kM
theorem zds (w:O) (o p:C) (g nb:Int) (l:IsN w o g) (n:IsN w p nb) (b:Lm limG g) (d:Lm limG nb) :
  Calls Tryz.prog 79 #[o,p] w fun e L=>e = .returned (M I (g-nb).sign)∧Ext w L:=by
 obtain⟨s,a,m,c,rfl,z⟩:=l.form2;obtain⟨K,t,D,u,rfl,j⟩:=n.form2;have h:=hd9 b;have i:=hd9 d;clear z j b d;have y:=zoq;go_enter Tryz.func79,Tryz.ntmps79
 go_wp2_with((go_at_call 151;(with_reducible refine(ze0 _ (Ob #[M I s,Y a m c]) (Ob #[M I K,Y t D u]) g nb ?_ ?_ h.out i.out).mono ?_);(refine l.ext ?_;exact eA);(refine n.ext ?_;exact eA);rintro e w1 ⟨r1,rfl,f,k⟩;obtain⟨s1,R,W,T,rfl,-⟩:=f.form2;obtain⟨⟨v,x⟩,q,r⟩:=cK2 w k))
 go_ret;exact⟨za9 (zbj (f.sgn)),eA⟩
end
section
open Go.RowKit Go.Shelf Go.Sort Go.Lib
def ic (z:Int):List C:=[M I z]
theorem zns:(Tryz.prog.info? 3).map (fun i=>(i.zero,i.size,i.bytes))=Z (Z (M I 0),1,8):=kM
theorem zjG {zs:List Int}:∀c∈zs.map ic,c.length=1:=by
 intro c a;obtain⟨z,_,rfl⟩:=List.mem_map.1 a;rfl
theorem ze2 (zs:List Int):(zs.map ic).flatten=zs.map (Value.int I):=by
 induction zs with
 | nil=>rfl
 | cons z zs a=>simp [ic,a]
theorem zow {zs:List Int}:∀u∈(zs.map ic).flatten,u.oneCell'=true:=by
 intro u a;rw [ze2]at a;obtain⟨z,_,rfl⟩:=List.mem_map.1 a;rfl
theorem OwnC.ints {w:O} {base g n c:Nat} {zs:List Int} (h:OwnC 3 1 w base (Y (Z ⟨g,0,V⟩) n c) (zs.map ic)) :
  base≤g∧g<w.heap.size∧n=zs.length∧zs.length≤c∧c≤maxLen∧Holds (Value.int I) w g 0 zs.toArray∧∃cur,w.heap[g]?=Z (.cells cur 3 (0,0))∧cur.size=c*1∧cur.toList.take zs.length=zs.map (Value.int I):=by
 rcases h.2.2 with ⟨j,_⟩|⟨l,i,cur,hv,k,f,b,d,e,a⟩
 ·cases j
 ·cases hv
  rw [ze2,lL,Nat.mul_one]at a;rw [lL]at b;exact⟨k,zaa f,lL ..,b,d,holds_of_blockI f a,cur,f,e,a⟩
def isort (zs:List Int):List Int:=zs.mergeSort fun x y=>decide (x≤y)
theorem zbS (zs:List Int):(isort zs).length=zs.length:=List.length_mergeSort _
theorem isort_mem {zs:List Int} {z:Int}:z∈isort zs ↔ z∈zs:=List.mem_mergeSort
theorem zjL (w:O) (base g n c:Nat) (zs:List Int) (h:OwnC 3 1 w base (Y (Z ⟨g,0,V⟩) n c) (zs.map ic)) (m:zs.length≤1000000000) :
  Calls Tryz.prog 172 #[Y (Z ⟨g,0,V⟩) n c] w fun e a=>e = .returned (.tuple #[])∧OwnC 3 1 a base (Y (Z ⟨g,0,V⟩) n c) ((isort zs).map ic)∧w.grownBy a (Z g):=by
 obtain⟨b,d,rfl,f,i,j,cur,h6,k,l⟩:=h.ints;refine(Tryz.slices_Sort_int g 0 c zs w j d oM).mono ?_;rintro e a ⟨rfl,n,os,rfl⟩;refine⟨rfl,⟨zjG,?_⟩,grownBy_sortedI _⟩;have:=ownsRow_sortedI (base:=base) (n:=n) (os:=os) (ss:=zs) (ts:=isort zs) (zbS zs) b h6 f i k;rw [ze2,lL,zbS];exact this
theorem zdl (zs:List Int):(compact zs).length≤zs.length:=by
 unfold compact compactUpTo;rw [lL];exact nT (List.length_filter_le _ _) sM
theorem zdm {zs:List Int} {z:Int} (h:z∈compact zs):z∈zs:=by
 unfold compact compactUpTo at h;obtain⟨i,a,rfl⟩:=List.mem_map.1 h;have:=List.mem_range.1 (List.mem_filter.1 a).1;rw [getElem!_pos _ _ (by simpa using this)];simp
theorem zh1 {zs:List Int} (h:zs≠[]):compact zs≠[]:=by
 obtain⟨z,r,rfl⟩:=List.exists_cons_of_ne_nil h;intro a;unfold compact compactUpTo at a;have b:=List.map_eq_nil_iff.1 a;have c:=(List.filter_eq_nil_iff.1 b) 0 sM;simp [keeps]at c
theorem zfG (w:O) (base g n c:Nat) (zs:List Int) (h:OwnC 3 1 w base (Y (Z ⟨g,0,V⟩) n c) (zs.map ic)) (s:zs.length≤1000000000) :
  Calls Tryz.prog 173 #[Y (Z ⟨g,0,V⟩) n c] w fun e a=>e = .returned (Y (Z ⟨g,0,V⟩) (compact zs).length c)∧OwnC 3 1 a base (Y (Z ⟨g,0,V⟩) (compact zs).length c) ((compact zs).map ic)∧w.grownBy a (Z g):=by
 obtain⟨f,o,rfl,i,j,k,cur,h6,l,p⟩:=h.ints;refine(Tryz.slices_Compact_int g 0 c zs w k oM i).mono ?_;rintro e a ⟨rfl,q,rfl⟩;have r:=zdl zs
 have m:∀d,w.grownBy (putRow (Value.int I) (Sort.ahead w q) g 0 d) (Z g):=fun d=>by
  have:=grownBy_sortedI (w:=w) (g:=g) (n:=q) (os:=#[]) d
  rwa [grow_empty]at this
 refine⟨rfl,⟨zjG,?_⟩,m _⟩;rw [ze2,lL];refine⟨by simp,.inr ⟨g,c,putCells (Value.int I) 0 (compact zs++List.replicate (zs.length-(compact zs).length) 0).toArray cur,rfl,f,?_,by omega,j,?_,?_⟩⟩
 ·have:=heap_sortedI (n:=q) (os:=#[]) (compact zs++List.replicate (zs.length-(compact zs).length) 0).toArray h6
  rwa [grow_empty]at this
 ·simp [putCells,l]
 ·have:=take_putCellsI cur (compact zs++List.replicate (zs.length-(compact zs).length) 0) (by simp;omega)
  have b:=congrArg (List.take (compact zs).length) this;rw [List.take_take,lA,Nat.min_eq_left oM,List.map_append,List.take_left' sM]at b;rw [Nat.mul_one];exact b
end
section
open Go.RowKit Go.Shelf
def waitsB (md:Region.Mode) (ops:Array Oper) (pv i:Nat):Bool:=match ops[pv]? with|some o=>o.after.toList.any (fun e=>Region.binds md e&&e.on==i)|none=>false
section
variable {P:Program} {ops:Array Oper} {Q:Exit→Oa→O→Prop} {md:Region.Mode} {A B:O→Prop} {pv:Nat}
def HV (P:Program) (md:Region.Mode) (ops:Array Oper) (Q:Exit→Oa→O→Prop) (A B:O→Prop) (pv:Nat):Nat→Array Bool→Oa→O→Prop
 | 0,b,a,w=>Region.ready md ops b=[]∧Q .normal a w
 | fuel+1,b,a,w =>
  (Region.ready md ops b=[]→Q .normal a w) ∧
  ∀i∈Region.ready md ops b,wpOp P ops Q i (fun d c=>(A c∧((b.setIfInBounds i true).getD pv false=false→B c))∧HV P md ops Q A B pv fuel (b.setIfInBounds i true) d c) a w
theorem zes:∀(fuel:Nat) (b:Array Bool) (a:Oa) (w:O),HV P md ops Q A B pv fuel b a w→wpAny P md ops Q fuel b a w
 | 0,_,_,_,h=>h
 | fuel+1,_,_,_,h=>⟨h.1,fun i e=>wpOp_mono (fun c f d=>zes fuel _ c f d.2) (h.2 i e)⟩
theorem zj8 {a:Array Bool} {i:Nat} (j:Cl md ops a) (b:waitsB md ops pv i=true) (g:a.getD i true=false):a.getD pv false=false:=by
 cases h:a.getD pv false with
 | false=>rfl
 | true =>
  unfold waitsB at b
  cases ho:ops[pv]? with
  | none=>rw [ho]at b;cases b
  | some o =>
   rw [ho]at b;obtain⟨e,k,f⟩:=List.any_eq_true.1 b;rw [Bool.and_eq_true,beq_iff_eq]at f;have c:=j pv o ho h e (by simpa using k) f.1;rw [f.2]at c
   rcases Nat.lt_or_ge i a.size with d | d
   ·simp [d]at g c;rw [g]at c;cases c
   ·simp [Array.getElem?_eq_none d]at g
theorem zk1 {i:Nat} {oi:Oper} {v:C} {f:Bool} (ac:i≠pv) (he:f=true→waitsB md ops pv i=true) (hi:ops[i]?=Z oi) (t:∀(j:Nat) (o:Oper) D b,ops[j]?=Z o→o.op ≠ .select D b)
  (hQ:∀c a w,Q (.panic c) (a.put oi.dst v) w→Q (.panic c) a w) :
  ∀(fuel:Nat) (d:Array Bool) (a:Oa) (w:O),Cl md ops d →
   (∀j oj,ops[j]?=Z oj→j≠i→d.getD j true=false→(∀e∈oj.after,Region.binds md e=true→e.on≠i)→oi.apart ops oj=true) →
   i∈Region.ready md ops d→YieldsIf P ops (fun w=>A w∧(f=true→B w)) oi v a→(A w∧(d.getD pv false=false→B w)) →
   HV P md ops Q A B pv fuel (d.setIfInBounds i true) (a.put oi.dst v) w→HV P md ops Q A B pv (fuel+1) d a w:=by
 have n:∀l:Array Bool,(l.setIfInBounds i true).getD pv false=l.getD pv false:=fun l=>getD_set_ne false ac
 intro fuel
 induction fuel with
 | zero =>
  intro d a w hc _ r hy p H;have y:A w∧(f=true→B w):=⟨p.1,fun h=>p.2 (zj8 hc (he h) (mem_ready.1 r).1)⟩;refine⟨fun h=>(by rw [h]at r;cases r),fun j R=>?_⟩
  by_cases g:j=i
  ·subst g;exact hy.wpOp hi y ⟨⟨p.1,fun h=>p.2 (by rw [n]at h;exact h)⟩,H⟩
  ·have:=ready_mono R g
   rw [H.1]at this
   cases this
 | succ fuel ih =>
  intro d a w hc m r hy p H;have y:A w∧(f=true→B w):=⟨p.1,fun h=>p.2 (zj8 hc (he h) (mem_ready.1 r).1)⟩;refine⟨fun h=>(by rw [h]at r;cases r),fun j R=>?_⟩
  by_cases g:j=i
  ·subst g;exact hy.wpOp hi y ⟨⟨p.1,fun h=>p.2 (by rw [n]at h;exact h)⟩,H⟩
  ·have u:=H.2 j (ready_mono R g)
   obtain⟨s,oj,z,L⟩:=mem_ready.1 R
   have W:∀e∈oj.after,Region.binds md e=true→e.on≠i:=fun e he hb ab=>by
    have u:=L e he hb;have h0:=(mem_ready.1 r).1;rw [ab]at u
    rcases Nat.lt_or_ge i d.size with h' | h'
    ·simp [h']at h0 u;rw [h0]at u;cases u
    ·simp [Array.getElem?_eq_none h']at u
   have h2:=wpOp_putIf z (m j oj z g s W) (fun D b=>t i oi D b hi) (fun D b=>t j oj D b z) hQ hy u
   have q:∀k ok,ops[k]?=Z ok→k≠i→(d.setIfInBounds j true).getD k true=false →
     (∀e∈ok.after,Region.binds md e=true→e.on≠i)→oi.apart ops ok=true:=fun k ok hk ad aa ae=>by
    refine m k ok hk ad ?_ ae
    by_cases T:j=k
    ·subst T;exact s
    ·rw [getD_set_ne true T]at aa;exact aa
   refine wpOp_mono (fun a' w' h3=>?_) h2;obtain⟨af,⟨K,x⟩,hH⟩:=h3;rw [Array.setIfInBounds_comm _ _ (Ne.symm g),n]at x;refine⟨⟨K,x⟩,ih (d.setIfInBounds j true) a' w' (hc.step R) q (ready_mono r (Ne.symm g)) af ⟨K,x⟩ ?_⟩;rw [Array.setIfInBounds_comm _ _ g];exact hH
def HVc (P:Program) (md:Region.Mode) (ops:Array Oper) (Q:Exit→Oa→O→Prop) (A B:O→Prop) (pv:Nat) (fuel:Nat) (b:Array Bool) (a:Oa) (w:O):Prop:=Cl md ops b→HV P md ops Q A B pv fuel b a w
theorem doneHV {b:Array Bool} {a:Oa} {w:O} (c:Region.ready md ops b=[]) (h:Q .normal a w):∀fuel,HVc P md ops Q A B pv fuel b a w
 | 0=>fun _=>⟨c,h⟩
 | _+1=>fun _=>⟨fun _=>h,by rw [c];simp⟩
theorem tv1 {v:C} {i:Nat} {oi:Oper} {fuel:Nat} {b:Array Bool} {a:Oa} {w:O} (d:Bool) {G:Prop} (h:G) (g:i≠pv:=by decide) (s:d=true→waitsB md ops pv i=true:=by(intro h;first|(cases h;done)|kernel_rfl)) (k:ops[i]?=Z oi:=by(simp only [gA,gS,gZ];rfl)) (m:Region.noSelect ops=true:=by kernel_rfl) (n:Region.free md ops b i=true:=by kernel_rfl) (o:(Region.ready md ops b).contains i=true:=by kernel_rfl) (p:∀c a w,Q (.panic c) (a.put oi.dst v) w→Q (.panic c) a w:=by exact fun _ _ _ h=>h) (t:Region.wanted oi (yielded ops a.tmps)=true:=by rfl) (u:∀w,A w→(d=true→B w)→(execOp a.eval oi).run P w = .ok (.value v) w:=by(intro w f e;(first|(have e:=e rfl;simp only [CellL,and_true]at f e)|(simp only [CellL,and_true]at f));go_simp;try(with_reducible rfl))) (h6:A w:=by(with_reducible assumption)) (q:b.getD pv false=false→B w:=by(first|exact fun _=>(by with_reducible assumption)|exact fun h=>nomatch h)) (r:HVc P md ops Q A B pv fuel (b.setIfInBounds i true) (a.put oi.dst v) w=G:=by((try simp only [Act.put,sA,sZ,sS]);rfl)):HVc P md ops Q A B pv (fuel+1) b a w:=by
 subst r;intro j;have l:i∈Region.ready md ops b:=by simpa using o
 exact zk1 g s k (Region.noSelect_spec m) p fuel b a w j (Region.free_spec k n) l (Or.inl ⟨t,fun w h=>u w h.1 h.2⟩) ⟨h6,q⟩ (h (j.step l))
theorem cv1 {i:Nat} {o:Oper} {fuel:Nat} {b:Array Bool} {a:Oa} {w:O} (h:∀K':Oa→O→Prop,Shut (∀a w,(A w∧((b.setIfInBounds i true).getD pv false=false→B w))→((A w∧((b.setIfInBounds i true).getD pv false=false→B w))→HVc P md ops Q A B pv fuel (b.setIfInBounds i true) a w)→K' a w)→if Region.wanted o (yielded ops a.tmps)=true then Oper.wp P o a w K' Q else K' (a.put o.dst undef) w) (n:ops[i]?=Z o:=by(simp only [gA,gS,gZ];rfl)) (f:Region.ready md ops b=[i]:=by kernel_rfl):HVc P md ops Q A B pv (fuel+1) b a w:=by
 intro m;refine⟨fun g=>absurd (f▸g) sM,fun j c=>?_⟩;have d:=c;rw [f]at c
 cases List.mem_singleton.1 c
 exact wpOp_step n (fun K' k=>h K' (fun a w e l=>k a w ⟨e,l e (m.step d)⟩))
theorem zgh {e:Nat} {a:Oa} {w:O} (A B:O→Prop) (pv:Nat) (d:P.follows .mixedOrders=true) (b:A w.drew) (c:B w.drew)
  (h:A w.drew→B w.drew→HVc P .any ops Q A B pv ops.size (Array.replicate ops.size false) a w.drew):(Code.region e ops true).wp P Q a w:=
 wp_region_any d (zes _ _ _ _ (h b c (Cl.start _)))
end
end
end Go.Proofs.YtjnjpagegkcgfaaGreatDoor.Cop
