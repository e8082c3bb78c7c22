/- Part 18. -/
import Derived.Test.YtjnjpagegkcgfaaGreatDoorCosA16
import Derived.Test.YtjnjpagegkcgfaaGreatDoorCosA08
import Derived.Test.YtjnjpagegkcgfaaGreatDoorCosA04
import Derived.Test.YtjnjpagegkcgfaaGreatDoorCosA01
import Derived.Sort.OwnSortedInts
set_option maxRecDepth 1000000
set_option maxHeartbeats 16000000
set_option linter.unusedSimpArgs false
set_option linter.unusedVariables false
open Go renaming World->O,Value->M,Act->Ob,Addr->Og
open Go.Value renaming slice->Y,int->Oa,bool->Oc,pointer->Od,agg->Oe
open Option renaming some->Z,none->I
open Go.IntKind renaming i64->U
open Go.Obj renaming cells->Of
namespace Go.Proofs.YtjnjpagegkcgfaaGreatDoor.Cop
section
open Go.RowKit Go.Shelf
attribute [local go_sem] Oper.semAt_some
abbrev Edg:=(Int×Int)×(Int×Int)
def eds(l:LP):List Edg:=l.zip l.tail
def ence(e:Edg):Array M:=#[Oe #[Oa U e.1.1,Oa U e.1.2],Oe #[Oa U e.2.1,Oa U e.2.2]]
theorem ziW(l:LP):(eds l).length=l.length-1:=by simp[eds]
theorem zgd{l:LP}{j:Nat}{p q:Int×Int}(a:l[j]?=Z p)(b:l[j+1]?=Z q):(eds l)[j]?=Z (p,q):=by
 unfold eds;rw[List.getElem?_zip_eq_some];exact⟨a,by rw[List.getElem?_tail];exact b⟩
theorem zfj(w:O)(sl:Option Og)(n c:Nat) :
  Calls Tryz.prog 148 #[Y sl n c] w fun e d=>e = .returned (.func (.func 196) #[] #[Od (Z ⟨w.heap.size,0,I⟩)])/\w.alloc (Of #[Y sl n c] 121)=d:=by
 have b:∀(a:Fn)(first cap:Array M)(w:O),(Instr.makeFunc a first cap).run Tryz.prog w = .ok (.func a first cap) w:=fun _ _ _ _=>rfl
 go_enter Tryz.func148,Tryz.ntmps148;go_wp2;go_ret;exact⟨rfl,rfl⟩
theorem znl{F:Fence}{m:Nat}{P:Program}{l:Nat}{a:FuncId}{tmps:Array M}{assign body:Code}{W:O}{A B:O->Prop}
  (h:RoundIn F m P l a tmps assign body W fun e W'=>(e = .returned (Oc true)/\A W')\/(e = .returned (Oc false)/\B W')) :
  RoundIn F m P l a tmps assign body W fun e W'=>∃b:Bool,e = .returned (Oc b)/\(b=true->A W')/\(b=false->B W'):=
 h.mono fun e W' h=>by
  rcases h with ⟨rfl,h⟩|⟨rfl,h⟩
  ·exact⟨true,rfl,fun _=>h,fun h=>nomatch h⟩
  ·exact⟨false,rfl,fun h=>(nomatch h),fun _=>h⟩
theorem ziU{β:Type}(f:β->Edg)(n:Nat)(hn:1<=n)(l g:Nat)(w w0:O)(sl:M)(ps:LP)(d:List β)(u:d.map f=eds ps)(J Jx:List β->O->Prop)
  (hY:∀pre x W,J pre W->pre.length<d.length->YieldAt Fence.wide (n-1) Tryz.prog l (ence (f x)) W fun e W' =>
   (e = .returned (Oc true)/\J (pre++[x]) W'/\KpW w g W W')\/(e = .returned (Oc false)/\Jx (pre++[x]) W'))
  (ab:∀pre W,J pre W->J pre W.drew)(k:w0.cell? ⟨g,0,I⟩=Z sl)(ad:g<w0.heap.size)(K:IsPts w sl ps)(hw:Ext w w0)(W:O)(hW:KpW w g w0 W)(h0:J [] W) :
  CallsIn Fence.wide n Tryz.prog 196 #[.func (.yield l) #[] #[],Od (Z ⟨g,0,I⟩)] W fun e W'=>(∃v,e = .returned v) /\
   ((∃ys,ys=d/\J ys W')\/(∃pre,pre <+: d/\Jx pre W')):=by
 obtain⟨a,c,rfl⟩:=K.form;have p:=K.le;obtain⟨m,R⟩:=gX ps.length;rw[R]at K k p;have i:d.length=m-1:=by have:=congrArg List.length u;rw[lL,ziW,R]at this;exact this
 rw[i]at hY;unfold maxLen at p;have aj:m<=9223372036854775807:=oM
 have Hm:=hd9 R;clear R p;have af:W.cell? ⟨g,0,I⟩=Z (Y a m c):=(World.cell?_of_block hW.2).trans k;refine callsIn_of_wp Tryz.func196 rfl trivial ?_ rfl;simp only[Tryz.ntmps196,List.size_toArray,List.length_cons,List.length_nil,Nat.reduceAdd,Nat.reduceSub,Array.replicate_succ,Array.replicate_zero,List.push_toArray,List.append_toArray,List.nil_append,List.cons_append]
 gi_wp2
 gi_loopw [3] (fun t3 wr=>∃j:Nat,j<=m/\t3=Oa U ((j+1:Nat):Int)/\J (d.take j) wr/\KpW w g w0 wr)
  (fun t3 _=>(m+1-intOf t3).toNat)
 case atStart=>exact⟨0,by omega,rfl,by simpa using h0,hW⟩
 case round =>
  obtain⟨j,hj,rfl,hJ,s⟩:=hrel;have ag:wr.cell? ⟨g,0,I⟩=Z (Y a m c):=(World.cell?_of_block s.2).trans k
  by_cases ai:j+1<m
  ·obtain⟨⟨x,z⟩,hp⟩:∃q,ps[j]?=Z q:=⟨ps[j]'(by rw[Hm.out];omega),by simp⟩
   obtain⟨⟨x',z'⟩,hq⟩:∃q,ps[j+1]?=Z q:=⟨ps[j+1]'(by rw[Hm.out];omega),by simp⟩;have he:=zgd hp hq;obtain⟨y,r⟩:∃y,d[j]?=Z y:=⟨d[j]'(by rw[i];omega),by simp⟩
   have D:f y=((x,z),(x',z')):=by
    rw[<-u,lP,r]at he;exact Option.some.inj he
   obtain⟨b,o,rfl,hb,d0,d1⟩:=(K.ext' (hw.thenB s.1 (nE _))).at' hp;obtain⟨b',o',e',ah,d2,d3⟩:=(K.ext' (hw.thenB s.1 (nE _))).at' hq
   cases e'
   obtain⟨fn,tmps,assign,body,hy,hR⟩:=hY _ y wr.drew (ab _ _ hJ) (by rw[List.length_take,i];omega);have L:d.take j++[y]=d.take (j+1):=(zab _ _ _ r).symm;rw[L]at hR;have t:=znl hR;have HR:=hd9 t;have u1:((j+1:Nat):Int)-1=(j:Int):=oM
   have u2:IntKind.i64.wrap ((j:Int)+1-1)=(j:Int):=by rw[show (j:Int)+1-1=j by omega];exact iW _ ⟨by omega,by omega⟩
   have u6:IntKind.i64.wrap (j:Int)=(j:Int):=iW _ ⟨by omega,by omega⟩;have u3:(0:Int)<=(j:Int)+1:=oM
   have u4:(j:Int)+1<(m:Int):=oM
   have u5:((j:Int)+1).toNat=j+1:=oM
   have p1:(0:Int)<=(j:Int):=oM
   have p2:(j:Int)<(m:Int):=oM
   have p3:((j+1:Nat):Int)<(m:Int):=oM
   rw[D]at hy;clear hR t L hp hq he r D;unfold ence at hy;dsimp only at hy
   gi_wp2
   gi_region_with ((with_reducible refine RoundIn.mono HR.out ?_);rintro e W3 ⟨bb,rfl,T,hB⟩)
   all_goals
    cases bb
    ·have ac:=hB rfl
     clear T hB
     gi_wp2
     refine bR (results_none rfl _ _ _) rfl ?_;exact⟨⟨_,rfl⟩,.inr ⟨_,⟨d.drop (j+1),List.take_append_drop _ _⟩,ac⟩⟩
    ·obtain⟨aa,ae⟩:=T rfl
     clear T hB
     gi_wp2
     go_roundw
     case rel=>exact⟨j+1,by omega,by go_num,aa,s.trans ((KpW.refl w g wr).ext ((eR wr).drew) (hw.thenB s.1 (nE _)).size (Nat.lt_of_lt_of_le ad s.1.size) |>.trans ae)⟩
     case measure=>simp[intOf];omega
  ·have e:d.take j=d:=lT (by rw[i];omega)
   rw[e]at hJ;have p3:¬((j+1:Nat):Int)<(m:Int):=oM
   clear e
   gi_wp2
   go_end0
   exact⟨⟨_,rfl⟩,.inl hJ⟩
theorem zdy{β:Type}(f:β->Edg)(n:Nat)(s:1<=n)(a:Nat)(w w0:O)(sl:M)(ps:LP)(b:List β)(g:b.map f=eds ps)(d:w0.cell? ⟨a,0,I⟩=Z sl)(c:a<w0.heap.size)(q:IsPts w sl ps)(i:Ext w w0) :
  SeqStopsK Fence.wide n Tryz.prog 196 #[Od (Z ⟨a,0,I⟩)] (fun x=>ence (f x)) (KpW w a) (fun t=>t=b) (fun pre=>pre <+: b) b.length w0:=
 fun l J j W o hJ _ p k=>ziU f n s l a w w0 sl ps b g J j p (fun pre W' h=>hJ _ _ _ I h ⟨rfl,rfl,rfl,nE _,fun _ _ _=>rfl⟩ (fun r e=>by cases e)) d c q i W ((KpW.refl w a w0).ext o i.size c) k
section
variable {P:Program} {ops:Array Oper} {Q:Exit->Ob->O->Prop} {md:Region.Mode} {S:O->Prop}
def TakeIt(P:Program)(md:Region.Mode)(ops:Array Oper)(Q:Exit->Ob->O->Prop)(S:O->Prop)(fuel:Nat)(b:Array Bool)(a:Ob)(w:O)(i:Nat)(oi:Oper):Prop:=
 ∃v,Region.noSelect ops=true/\Region.free md ops b i=true/\(Region.ready md ops b).contains i=true/\(∀c a w,Q (.panic c) (a.put oi.dst v) w->Q (.panic c) a w)/\YieldsIf P ops S oi v a/\S w /\
  wpAnyH P md ops Q S fuel (b.setIfInBounds i true) (a.put oi.dst v) w
theorem take1{i:Nat}{oi:Oper}{fuel:Nat}{b:Array Bool}{a:Ob}{w:O}(k:ops[i]?=Z oi)(h:TakeIt P md ops Q S fuel b a w i oi):wpAnyH P md ops Q S (fuel+1) b a w:=by
 obtain⟨v,c,d,e,f,g,h6,j⟩:=h;exact wpAnyH_take k c d e f g h6 j
def CallIt(P:Program)(md:Region.Mode)(ops:Array Oper)(Q:Exit->Ob->O->Prop)(S:O->Prop)(fuel:Nat)(b:Array Bool)(a:Ob)(w:O)(i:Nat)(o:Oper):Prop:=
 Region.ready md ops b=[i]/\∀K':Ob->O->Prop,Shut (∀a w,S w->(S w->wpAnyH P md ops Q S fuel (b.setIfInBounds i true) a w)->K' a w)->if Region.wanted o (yielded ops a.tmps)=true then Oper.wp P o a w K' Q else K' (a.put o.dst undef) w
theorem call1{i:Nat}{o:Oper}{fuel:Nat}{b:Array Bool}{a:Ob}{w:O}(c:ops[i]?=Z o)(h:CallIt P md ops Q S fuel b a w i o):wpAnyH P md ops Q S (fuel+1) b a w:=
 wpAnyH_ready h.1 sM (AllReadyH.cons c h.2 AllReadyH.nil)
theorem tk1{v:M}{i:Nat}{oi:Oper}{fuel:Nat}{b:Array Bool}{a:Ob}{w:O}{G:Prop}(h:G)(l:ops[i]?=Z oi:=by(simp only[gA,gS,gZ];rfl))(e:Region.noSelect ops=true:=by kernel_rfl)(f:Region.free md ops b i=true:=by kernel_rfl)(g:(Region.ready md ops b).contains i=true:=by kernel_rfl)(j:∀c a w,Q (.panic c) (a.put oi.dst v) w->Q (.panic c) a w:=by exact fun _ _ _ h=>h)(n:Region.wanted oi (yielded ops a.tmps)=true:=by rfl)(o:∀w,S w->(execOp a.eval oi).run P w = .ok (.value v) w:=by(intro w d;simp only[CellL,and_true]at d;go_simp;try(with_reducible rfl)))(h6:S w:=by(with_reducible assumption))(k:wpAnyH P md ops Q S fuel (b.setIfInBounds i true) (a.put oi.dst v) w=G:=by((try simp only[Act.put,sA,sZ,sS]);rfl)):wpAnyH P md ops Q S (fuel+1) b a w:=by
 subst k;exact take1 l ⟨v,e,f,g,j,Or.inl ⟨n,o⟩,h6,h⟩
theorem tkg1{i:Nat}{oi:Oper}{fuel:Nat}{b:Array Bool}{a:Ob}{w:O}{G:Prop}(h:G)(k:ops[i]?=Z oi:=by(simp only[gA,gS,gZ];rfl))(d:Region.noSelect ops=true:=by kernel_rfl)(e:Region.free md ops b i=true:=by kernel_rfl)(f:(Region.ready md ops b).contains i=true:=by kernel_rfl)(g:∀c a w,Q (.panic c) (a.put oi.dst undef) w->Q (.panic c) a w:=by exact fun _ _ _ h=>h)(l:Region.wanted oi (yielded ops a.tmps)=false:=by rfl)  (h6:S w:=by(with_reducible assumption))(j:wpAnyH P md ops Q S fuel (b.setIfInBounds i true) (a.put oi.dst undef) w=G:=by((try simp only[Act.put,sA,sZ,sS]);rfl)):wpAnyH P md ops Q S (fuel+1) b a w:=by
 subst j;exact take1 k ⟨undef,d,e,f,g,Or.inr ⟨l,rfl⟩,h6,h⟩
theorem tkn{v:M}{i:Nat}{oi:Oper}{fuel:Nat}{b:Array Bool}{a:Ob}{w:O}{G:Prop}(h:G)(l:ops[i]?=Z oi:=by(simp only[gA,gS,gZ];rfl))(e:Region.noSelect ops=true:=by kernel_rfl)(f:Region.free md ops b i=true:=by kernel_rfl)(g:(Region.ready md ops b).contains i=true:=by kernel_rfl)(j:∀c a w,Q (.panic c) (a.put oi.dst v) w->Q (.panic c) a w:=by exact fun _ _ _ h=>h)(n:Region.wanted oi (yielded ops a.tmps)=true:=by rfl)(o:∀w,S w->(execOp a.eval oi).run P w = .ok (.value v) w:=by(intro w d;simp only[CellL,and_true]at d;go_simp;try(with_reducible rfl)))(h6:S w:=by(with_reducible assumption))(k:wpN (i+1) (wpAnyH P md ops Q S fuel (b.setIfInBounds i true) (a.put oi.dst v) w)=G:=by((try simp only[Act.put,sA,sZ,sS,Nat.reduceAdd]);rfl)):wpN i (wpAnyH P md ops Q S (fuel+1) b a w):=by
 subst k;exact take1 l ⟨v,e,f,g,j,Or.inl ⟨n,o⟩,h6,h⟩
theorem tkgn{i:Nat}{oi:Oper}{fuel:Nat}{b:Array Bool}{a:Ob}{w:O}{G:Prop}(h:G)(k:ops[i]?=Z oi:=by(simp only[gA,gS,gZ];rfl))(d:Region.noSelect ops=true:=by kernel_rfl)(e:Region.free md ops b i=true:=by kernel_rfl)(f:(Region.ready md ops b).contains i=true:=by kernel_rfl)(g:∀c a w,Q (.panic c) (a.put oi.dst undef) w->Q (.panic c) a w:=by exact fun _ _ _ h=>h)(l:Region.wanted oi (yielded ops a.tmps)=false:=by rfl)  (h6:S w:=by(with_reducible assumption))(j:wpN (i+1) (wpAnyH P md ops Q S fuel (b.setIfInBounds i true) (a.put oi.dst undef) w)=G:=by((try simp only[Act.put,sA,sZ,sS,Nat.reduceAdd]);rfl)):wpN i (wpAnyH P md ops Q S (fuel+1) b a w):=by
 subst j;exact take1 k ⟨undef,d,e,f,g,Or.inr ⟨l,rfl⟩,h6,h⟩
theorem cl1{i:Nat}{o:Oper}{fuel:Nat}{b:Array Bool}{a:Ob}{w:O}(h:∀K':Ob->O->Prop,Shut (∀a w,S w->(S w->wpAnyH P md ops Q S fuel (b.setIfInBounds i true) a w)->K' a w)->if Region.wanted o (yielded ops a.tmps)=true then Oper.wp P o a w K' Q else K' (a.put o.dst undef) w)(c:ops[i]?=Z o:=by(simp only[gA,gS,gZ];rfl))(d:Region.ready md ops b=[i]:=by kernel_rfl):wpAnyH P md ops Q S (fuel+1) b a w:=call1 c ⟨d,h⟩
theorem kO{K:Ob->O->Prop}{A:O->Prop}{X:Ob->O->Prop}(d:Shut (∀a w,A w->(A w->X a w)->K a w)){a:Ob}{w:O}{G:Prop}(b:A w)(h:A w->G)(c:X a w=G:=by((try simp only[Act.put,sA,sZ,sS]);rfl)):K a w:=by
 subst c;exact d.out _ _ b h
end
section
variable {P:Program} {ops:Array Oper} {Q:Exit->Ob->O->Prop} {md:Region.Mode} {S:O->Prop}
theorem call2{i j:Nat}{oi c:Oper}{fuel:Nat}{b:Array Bool}{a:Ob}{w:O}
  (d:∀K':Ob->O->Prop,Shut (∀a w,S w->(S w->wpAnyH P md ops Q S fuel (b.setIfInBounds i true) a w)->K' a w)->if Region.wanted oi (yielded ops a.tmps)=true then Oper.wp P oi a w K' Q else K' (a.put oi.dst undef) w)
  (e:∀K':Ob->O->Prop,Shut (∀a w,S w->(S w->wpAnyH P md ops Q S fuel (b.setIfInBounds j true) a w)->K' a w)->if Region.wanted c (yielded ops a.tmps)=true then Oper.wp P c a w K' Q else K' (a.put c.dst undef) w)
  (f:ops[i]?=Z oi:=by(simp only[gA,gS,gZ];rfl))(g:ops[j]?=Z c:=by(simp only[gA,gS,gZ];rfl))(k:Region.ready md ops b=[i,j]:=by kernel_rfl) :
  wpAnyH P md ops Q S (fuel+1) b a w:=
 wpAnyH_ready k sM (AllReadyH.cons f d (AllReadyH.cons g e AllReadyH.nil))
end
def xLe(x:Rat)(e:Edg):Bool:=decide (rcmp x ((e.2.1:Int):Rat)<=0)
def atE(x:Rat)(e:Edg):Rat:=((e.1.2:Int):Rat)+((x-((e.1.1:Int):Rat))*((e.2.2-e.1.2:Int):Rat)) / ((e.2.1-e.1.1:Int):Rat)
def atR(ps:LP)(x:Rat):Rat:=match (eds ps).find? (xLe x)with|some e=>atE x e|none=>(((ps.getD (ps.length-1) (0,0)).2:Int):Rat)
theorem RB.sim{B:Nat}{W W':O}{b:Nat}{q:Rat}(h:RB W b q)(k:Sim B W W'):RB W' b q:=by
 obtain⟨a,m,c,s,d,i,e,f,g⟩:=h;exact⟨a,m,c,s,d,i,e,k.heap f,g.keep (k.keep _)⟩
theorem zaC{k n:Int}(h:Bd k n)(a:k<=1000000:=by decide):Rb 1 (n:Rat):=Rb.int (by unfold Lm B;unfold Bd at h;simp;omega) (nE _)
theorem zgO{k:Int}{ps:LP}(h:PBd k ps){e:Edg}(d:e∈eds ps):Bd k e.1.1/\Bd k e.1.2/\Bd k e.2.1/\Bd k e.2.2:=by
 obtain⟨p,q⟩:=e;have a:=List.of_mem_zip d;have b:=h p a.1;have c:=h q (List.mem_of_mem_tail a.2);exact⟨b.1,b.2,c.1,c.2⟩
abbrev BE:={ e:Edg // Bd 104000 e.1.1/\Bd 104000 e.1.2/\Bd 104000 e.2.1/\Bd 104000 e.2.2 }
def AtI(w:O)(x:Rat)(pre:List BE)(W:O):Prop:=
 Ext w W/\w.heap.size+1+1+1<=W.heap.size/\RB W w.heap.size x/\RB W (w.heap.size+1) 0/\∀e∈pre,xLe x e.1=false
def AtX(w:O)(x:Rat)(c:Code)(pre:List BE)(W:O):Prop:=
 c = .ret/\Ext w W/\w.heap.size+1+1+1<=W.heap.size/\∃(a:List BE)(e:BE),pre=a++[e]/\(∀e∈a,xLe x e.1=false)/\xLe x e.1=true/\RB W (w.heap.size+1) (atE x e.1)
def AtS(s B:Nat)(i:Option Og)(k j:Nat)(l:Bool)(a:Option Og)(c b:Nat)(d e f g:Int)(W:O):Prop:=
 W.cell? ⟨s,0,I⟩=Z (Y i k j)/\W.cell? ⟨s,1,I⟩=Z (Oc l)/\W.cell? ⟨s,2,I⟩=Z (Y a c b)/\W.cell? ⟨B,0,I⟩=Z (Oa U d)/\W.cell? ⟨B,1,I⟩=Z (Oa U e)/\W.cell? ⟨B+1,0,I⟩=Z (Oa U f)/\W.cell? ⟨B+1,1,I⟩=Z (Oa U g)
theorem AtS.ext{s B:Nat}{i:Option Og}{l j:Nat}{n:Bool}{a:Option Og}{c b:Nat}{d e f g:Int}{W W':O}(h:AtS s B i l j n a c b d e f g W)(k:Ext W W'):AtS s B i l j n a c b d e f g W':=by
 obtain⟨o,p,q,r,t,u,h6⟩:=h;exact⟨k.cellS o,k.cellS p,k.cellS q,k.cellS r,k.cellS t,k.cellS u,k.cellS h6⟩
theorem zgC{W:O}{D:Nat}(a:W.heap[D]?=Z (.deferred (Z [])))(o:Obj):Sim D W (W.putObj D o):=
 Sim.of_grown (grownBy_putObj' W D o) (Nat.le_of_lt (zaa a)) (fun r e=>by cases e;exact⟨nE _,_,a,rfl⟩)
theorem AtS.set{s B:Nat}{i:Option Og}{k j:Nat}{l:Bool}{a:Option Og}{c b:Nat}{d e f g:Int}{W:O}(h:AtS s B i k j l a c b d e f g W){p:Og}(x:p.block≠s)(y:p.block≠B)(z:p.block≠B+1)(u:M):AtS s B i k j l a c b d e f g (W.setCell p u):=by
 obtain⟨n,o,q,r,t,v,w⟩:=h;refine⟨?_,?_,?_,?_,?_,?_,?_⟩<;>(rw[World.cell?_setCell_far _ _ _ _ dO];assumption)
theorem zaA{B:Nat}{W W':O}(h:Ext W W'):KeepsFrom B W W':=⟨h.size,fun _ _ _ a _=>h.heapS a⟩
theorem zk4{β:Type}{f:β->Bool}{a pre:List β}{e:β}(d:pre++[e] <+: a)(c:∀x∈pre,f x=false)(b:f e=true):a.find? f=Z e:=by
 obtain⟨t,rfl⟩:=d;rw[List.append_assoc,List.find?_append]
 have:pre.find? f=I:=by
  rw[List.find?_eq_none];intro x g;simp[c x g]
 rw[this];simp[b]
theorem znQ{ps:LP}{x:Rat}{b:List BE}(a:b.map (fun e=>e.1)=eds ps){pre:List BE}{e:BE}(g:pre++[e] <+: b)(d:∀e∈pre,xLe x e.1=false)(c:xLe x e.1=true):atR ps x=atE x e.1:=by
 unfold atR;rw[<-a,List.find?_map,zk4 (f:=xLe x ∘ fun e:BE=>e.1) g d c];rfl
theorem zkM{ps:LP}{x:Rat}{b:List BE}(a:b.map (fun e=>e.1)=eds ps)(d:∀e∈b,xLe x e.1=false){q:Int×Int}(f:ps[ps.length-1]?=Z q):atR ps x=((q.2:Int):Rat):=by
 unfold atR
 have:(eds ps).find? (xLe x)=I:=by
  rw[<-a,List.find?_eq_none];intro y g;obtain⟨e,c,rfl⟩:=List.mem_map.1 g;simp[d e c]
 rw[this,gD,f];rfl
theorem zdI(w:O)(v vx:M)(ps:LP)(x:Rat)(h:IsPts w v ps)(aL:LnOk ps)(hx:IsR w vx x)(hb:Rb 1000 x) :
  Calls Tryz.prog 88 #[v,vx] w (RetR w (atR ps x)):=by
 obtain⟨a,c,rfl⟩:=h.form;obtain⟨xa,xm,xc,xs,bh,bj,bi,rfl⟩:=hx.form;have Hb:=hd9 hb;have aX:=hd9 aL;obtain⟨n,hn⟩:=gX ps.length;rw[hn]at h ⊢;have Hn:=hd9 hn;obtain⟨es,a7⟩:∃es:List BE,es.map (fun e=>e.1)=eds ps:=⟨(eds ps).attachWith _ (fun e he=>zgO aL.2.1 he),zaT _⟩;have aW:=hd9 a7;clear hb aL hn;refine(callsIn_wide (n:=5)).1 ?_;refine callsIn_of_wp_marks Tryz.func88 rfl trivial ?_ rfl;simp only[Tryz.ntmps88,List.size_toArray,List.length_cons,List.length_nil,Nat.reduceAdd,Nat.reduceSub,Array.replicate_succ,Array.replicate_zero,List.push_toArray,List.append_toArray,List.nil_append,List.cons_append]
 gi_wp2_with(refine⟨trivial,?_⟩;gi_at_call 148;refine(callsIn_wide.2 (zfj _ _ _ _)).mono ?_;rintro e w' ⟨rfl,rfl⟩)
 obtain⟨W0,aa⟩:=gX ((((w.alloc (Of #[Y xa xm xc,Oc xs,Y bh bj bi] 63)).alloc (Of #[Y I 0 0,Oc false,Y I 0 0] 63)).alloc (Of #[Y a n c] 121)));have bc:Ext w W0:=by rw[<-aa];exact(((eR w).alloc _).alloc _).alloc _
 have cZ:W0.heap.size=w.heap.size+1+1+1:=by rw[<-aa];simp
 have cb:W0.cell? ⟨w.heap.size+1+1,0,I⟩=Z (Y a n c):=by rw[<-aa,World.cell?_alloc_at _ _ _ _ sM];rfl
 have b7:RB W0 w.heap.size x:=by rw[<-aa];exact(RB.new hx rfl).ext (((eR _).alloc _).alloc _)
 have b8:RB W0 (w.heap.size+1) 0:=by rw[<-aa];exact(RB.new (IsR.zero _) sM).ext ((eR _).alloc _)
 rw[aa];have cO:=hd9 aa;clear aa
 refine wpIn_rangeFunc_ownH rfl dM (gf:=196) (lb:=#[Od (Z ⟨w.heap.size+1+1,0,I⟩)]) rfl trivial (enters_of Tryz.func196 kM rfl)
  (zdy (fun e:BE=>e.1) _ dM (w.heap.size+1+1) w _ _ ps es a7 cb oM h bc) KpW.trans (KpW.put oM oM) (Below.refl _ _) (fun _=>rfl)
  (AtI w x) (AtX w x) (zam (fun s W h=>by have:=h.2.1;omega) (fun s W W' h k=>?hsim)) (fun c=>zam (fun s W h=>by have:=h.2.2.1;omega) (fun s W W' h k=>?hsimx)) ?h0
  (fun(e:BE) a' W=>∃B,w.heap.size+1+1+1<=B/\W.heap[B]?=Z (Of #[Oa U e.1.1.1,Oa U e.1.1.2] 43 (0,0))/\W.heap[B+1]?=Z (Of #[Oa U e.1.2.1,Oa U e.1.2.2] 43 (0,0)) /\
   a'={ tmps:=#[Y a n c,Oe #[Y xa xm xc,Oc xs,Y bh bj bi],undef,Od (Z ⟨w.heap.size,0,I⟩),Od (Z ⟨w.heap.size+1,0,I⟩),Od (Z ⟨B,0,I⟩),Od (Z ⟨B+1,0,I⟩),Y a n c,.func (.func 196) #[] #[Od (Z ⟨w.heap.size+1+1,0,I⟩)],Oe #[Oa U e.1.1.1,Oa U e.1.1.2],Oe #[Oa U e.1.2.1,Oa U e.1.2.2],undef,undef,undef,undef,undef,undef,undef,undef,undef,undef,undef,undef,undef,undef,undef,undef,undef,undef,undef,undef,undef,undef,undef,undef,undef,undef,undef,undef,undef,undef,undef,undef,undef,undef,undef,undef,undef],defers:=[] })
  (fun e a'=>zam (fun s W h=>?hAs) (fun s W W' h k=>?hAk)) ?assign ?body ?done ?stop
 case hsim =>
  obtain⟨R,h2,h3,h4,h5⟩:=h;exact⟨k.ext R oM,nT h2 k.size,h3.sim k,h4.sim k,h5⟩
 case hsimx =>
  obtain⟨h0,R,h2,p',e,h3,h4,h5,h6⟩:=h;exact⟨h0,k.ext R oM,nT h2 k.size,p',e,h3,h4,h5,h6.sim k⟩
 case h0=>exact⟨bc,by omega,b7,b8,fun e he=>by cases he⟩
 case hAs =>
  obtain⟨B,R,h2,h3,_⟩:=h;have:=zaa h2;omega
 case hAk =>
  obtain⟨B,R,h2,h3,h4⟩:=h;exact⟨B,R,k.heap h2,k.heap h3,h4⟩
 case assign =>
  rintro l pre e W K ⟨R,h2,h3,h4,h5⟩ f;unfold ence
  gi_wp2
  refine f _ _ (((KeepsOthers.alloc _ _).trans (KeepsOthers.alloc _ _)).from _) (((KpW.refl _ _ W).ext (((eR W).alloc _).alloc _) R.size oM)) ⟨(R.alloc _).alloc _,by simp;omega,h3.ext (((eR W).alloc _).alloc _),h4.ext (((eR W).alloc _).alloc _),h5⟩ ⟨W.heap.size,h2,?_,?_,rfl⟩
  ·rw[zaf,if_neg sM];exact qhA _ _ _ rfl
  ·exact qhA _ _ _ sM
 case body =>
  rintro l pre e a' W hl ⟨r,hr⟩ ⟨R,h2,h3,h4,h5⟩ ⟨B,hB,q1,q2,rfl⟩ cV;obtain⟨⟨⟨j,p⟩,z,bz⟩,aq⟩:=e;dsimp only at q1 q2 aq ⊢;obtain⟨ya,ym,yc,ys,ab,ad,ac,r0,r1,r2,_,_,_,zr,bg⟩:=h3.rd;have e0:=qcB q1 (i:=0) (u:=Oa U j) rfl;have e1:=qcB q1 (i:=1) (u:=Oa U p) rfl;have e2:=qcB q2 (i:=0) (u:=Oa U z) rfl;have e3:=qcB q2 (i:=1) (u:=Oa U bz) rfl;have z1:=zaa q1;have z2:=zaa q2
  gi_wp2
  have aJ:AtS w.heap.size B ya ym yc ys ab ad ac j p z bz W:=⟨r0,r1,r2,e0,e1,e2,e3⟩;have bf:IsR W.drew (Oe #[Y ya ym yc,Oc ys,Y ab ad ac]) x:=bg.ext (eR W).drew;have bt:=hd9 aJ;refine zaq (S:=AtS w.heap.size B ya ym yc ys ab ad ac j p z bz) kM kM (aJ.ext (eR W).drew) (fun g=>?_);clear r0 r1 r2 e0 e1 e2 e3 aJ;refine take1 (i:=0) (oi:=?oix1) ?hix1 ?hx1
  case hix1=>(simp only[gA,gS,gZ];rfl)
  refine⟨?_,by kernel_rfl,by kernel_rfl,by kernel_rfl,fun _ _ _ h=>h,Or.inl ⟨by rfl,?_⟩,by assumption,?_⟩;rotate_left 1
  ·(intro w d;rcases d with ⟨s0,s1,t,y,s4,s5,s6⟩;go_simp;try(with_reducible rfl))
  (try simp only[Act.put,sA,sZ,sS])
  refine take1 (i:=1) (oi:=?oix2) ?hix2 ?hx2
  case hix2=>(simp only[gA,gS,gZ];rfl)
  refine⟨?_,by kernel_rfl,by kernel_rfl,by kernel_rfl,fun _ _ _ h=>h,Or.inl ⟨by rfl,?_⟩,by assumption,?_⟩;rotate_left 1
  ·(intro w d;rcases d with ⟨s0,s1,t,y,s4,s5,s6⟩;go_simp;try(with_reducible rfl))
  (try simp only[Act.put,sA,sZ,sS])
  refine take1 (i:=2) (oi:=?oix3) ?hix3 ?hx3
  case hix3=>(simp only[gA,gS,gZ];rfl)
  refine⟨?_,by kernel_rfl,by kernel_rfl,by kernel_rfl,fun _ _ _ h=>h,Or.inl ⟨by rfl,?_⟩,by assumption,?_⟩;rotate_left 1
  ·(intro w d;rcases d with ⟨s0,s1,t,y,s4,s5,s6⟩;go_simp;try(with_reducible rfl))
  (try simp only[Act.put,sA,sZ,sS])
  obtain⟨an,ao,ap,bW⟩:=aq;obtain⟨T,hT⟩:=gX (rcmp x ((z:Int):Rat));have HT:=hd9 hT;have aY:=zaC ap;have a6:=fun W=>zaP W z (by unfold Bd at ap;omega) (by unfold Bd at ap;omega)
  have bw:=hd9 a6;clear a6 hT;refine cl1 (i:=3) fun K f=>?_
  go_simp
  (with_reducible refine cM (bw.out _) ?_)
  rintro e w3 ⟨v3,rfl,bb,hx3⟩;obtain⟨a3,m3,c3,y,b3,n3,k3,rfl⟩:=bb.form
  go_wp2_with fail
  refine kO f (AtS.ext (by assumption) hx3) (fun g=>?_);clear f K;have aK:=zaE w3 (Oe #[Y ya ym yc,Oc ys,Y ab ad ac]) (Oe #[Y a3 m3 c3,Oc y,Y b3 n3 k3]) x ((z:Int):Rat) (bf.ext hx3) bb (Hb.out.mono dM) (aY.mono dM);rw[HT.out]at aK;have bA:=hd9 aK;clear aK;refine cl1 (i:=4) fun K f=>?_
  go_simp
  (with_reducible refine cM bA.out ?_)
  rintro e w4 ⟨rfl,hx4⟩
  skip
  go_wp2_with fail
  refine kO f (AtS.ext (by assumption) hx4) (fun g=>?_);clear f K;refine take1 (i:=5) (oi:=?oix4) ?hix4 ?hx4
  case hix4=>(simp only[gA,gS,gZ];rfl)
  refine⟨?_,by kernel_rfl,by kernel_rfl,by kernel_rfl,fun _ _ _ h=>h,Or.inl ⟨by rfl,?_⟩,by assumption,?_⟩;rotate_left 1
  ·(intro w d;rcases d with ⟨s0,s1,t,y,s4,s5,s6⟩;go_simp;try(with_reducible rfl))
  (try simp only[Act.put,sA,sZ,sS])
  refine wpAnyH_done kM ?_ _;have X4:Ext W w4:=((eR W).drew.trans hx3).trans hx4;have b9:=bt.out.ext X4;have aG:=h4.ext X4;have cS:w.heap.size+1+1+1<=w4.heap.size:=nT h2 X4.size
  by_cases a4:T<=0
  ·have L:xLe x ((j,p),z,bz)=true:=by unfold xLe;rw[HT.out];simpa using a4
   have aE:=hd9 L;have bu:=hd9 X4;have bk:=hd9 aG;have be:IsR w4.drew (Oe #[Y ya ym yc,Oc ys,Y ab ad ac]) x:=bg.ext X4.drew;have bC:=hd9 be;clear L X4 aG be g bf;unfold NQ
   gi_wp2
   refine zaq (S:=AtS w.heap.size B ya ym yc ys ab ad ac j p z bz) kM kM (b9.ext (eR w4).drew) (fun g=>?_);have d1:Bd 1000000 (bz-p)/\Bd 1000000 (z-j):=⟨(bW.sub ao).mono dM,(ap.sub an).mono dM⟩;have g1:IntKind.i64.wrap (bz-p)=bz-p:=iW _ ⟨by unfold Bd at d1;omega,by unfold Bd at d1;omega⟩;have g2:IntKind.i64.wrap (z-j)=z-j:=iW _ ⟨by unfold Bd at d1;omega,by unfold Bd at d1;omega⟩;have Q1:=zaC (k:=104000) (n:=j) an;have Q2:=zaC (k:=104000) (n:=p) ao;have Q3:Rb 1 ((bz-p:Int):Rat):=zaC d1.1;have Q4:Rb 1 ((z-j:Int):Rat):=zaC d1.2;have Q5:=Hb.out.sub (Q1.mono (k:=1000) dM);have Q6:=Q5.mul Q3;have Q7:=Q6.div Q4 dM;have bm:=hd9 Q1;have bn:=hd9 Q2;have bo:=hd9 Q3;have bp:=hd9 Q4;have bq:=hd9 Q5;have br:=hd9 Q6;have bs:=hd9 Q7;have Ha:=hd9 (fun W=>zaP W p (by unfold Bd at ao;omega) (by unfold Bd at ao;omega));have Hc:=hd9 (fun W=>zaP W j (by unfold Bd at an;omega) (by unfold Bd at an;omega));have Hd:=hd9 (fun W=>zaP W (bz-p) (by unfold Bd at d1;omega) (by unfold Bd at d1;omega));have He:=hd9 (fun W=>zaP W (z-j) (by unfold Bd at d1;omega) (by unfold Bd at d1;omega));clear Q1 Q2 Q3 Q4 Q5 Q6 Q7 aY;refine take1 (i:=0) (oi:=?oix5) ?hix5 ?hx5
   case hix5=>(simp only[gA,gS,gZ];rfl)
   refine⟨?_,by kernel_rfl,by kernel_rfl,by kernel_rfl,fun _ _ _ h=>h,Or.inl ⟨by rfl,?_⟩,by assumption,?_⟩;rotate_left 1
   ·(intro w d;rcases d with ⟨s0,s1,t,y,s4,s5,s6⟩;go_simp;try(with_reducible rfl))
   (try simp only[Act.put,sA,sZ,sS])
   refine take1 (i:=1) (oi:=?oix6) ?hix6 ?hx6
   case hix6=>(simp only[gA,gS,gZ];rfl)
   refine⟨?_,by kernel_rfl,by kernel_rfl,by kernel_rfl,fun _ _ _ h=>h,Or.inl ⟨by rfl,?_⟩,by assumption,?_⟩;rotate_left 1
   ·(intro w d;rcases d with ⟨s0,s1,t,y,s4,s5,s6⟩;go_simp;try(with_reducible rfl))
   (try simp only[Act.put,sA,sZ,sS])
   refine take1 (i:=3) (oi:=?oix7) ?hix7 ?hx7
   case hix7=>(simp only[gA,gS,gZ];rfl)
   refine⟨?_,by kernel_rfl,by kernel_rfl,by kernel_rfl,fun _ _ _ h=>h,Or.inl ⟨by rfl,?_⟩,by assumption,?_⟩;rotate_left 1
   ·(intro w d;rcases d with ⟨s0,s1,t,y,s4,s5,s6⟩;go_simp;try(with_reducible rfl))
   (try simp only[Act.put,sA,sZ,sS])
   refine take1 (i:=4) (oi:=?oix8) ?hix8 ?hx8
   case hix8=>(simp only[gA,gS,gZ];rfl)
   refine⟨?_,by kernel_rfl,by kernel_rfl,by kernel_rfl,fun _ _ _ h=>h,Or.inl ⟨by rfl,?_⟩,by assumption,?_⟩;rotate_left 1
   ·(intro w d;rcases d with ⟨s0,s1,t,y,s4,s5,s6⟩;go_simp;try(with_reducible rfl))
   (try simp only[Act.put,sA,sZ,sS])
   refine take1 (i:=5) (oi:=?oix9) ?hix9 ?hx9
   case hix9=>(simp only[gA,gS,gZ];rfl)
   refine⟨?_,by kernel_rfl,by kernel_rfl,by kernel_rfl,fun _ _ _ h=>h,Or.inl ⟨by rfl,?_⟩,by assumption,?_⟩;rotate_left 1
   ·(intro w d;rcases d with ⟨s0,s1,t,y,s4,s5,s6⟩;go_simp;try(with_reducible rfl))
   (try simp only[Act.put,sA,sZ,sS])
   refine take1 (i:=8) (oi:=?oix10) ?hix10 ?hx10
   case hix10=>(simp only[gA,gS,gZ];rfl)
   refine⟨?_,by kernel_rfl,by kernel_rfl,by kernel_rfl,fun _ _ _ h=>h,Or.inl ⟨by rfl,?_⟩,by assumption,?_⟩;rotate_left 1
   ·(intro w d;rcases d with ⟨s0,s1,t,y,s4,s5,s6⟩;go_simp;try(with_reducible rfl))
   (try simp only[Act.put,sA,sZ,sS])
   refine take1 (i:=9) (oi:=?oix11) ?hix11 ?hx11
   case hix11=>(simp only[gA,gS,gZ];rfl)
   refine⟨?_,by kernel_rfl,by kernel_rfl,by kernel_rfl,fun _ _ _ h=>h,Or.inl ⟨by rfl,?_⟩,by assumption,?_⟩;rotate_left 1
   ·(intro w d;rcases d with ⟨s0,s1,t,y,s4,s5,s6⟩;go_simp;try(with_reducible rfl))
   (try simp only[Act.put,sA,sZ,sS])
   refine take1 (i:=10) (oi:=?oix12) ?hix12 ?hx12
   case hix12=>(simp only[gA,gS,gZ];rfl)
   refine⟨?_,by kernel_rfl,by kernel_rfl,by kernel_rfl,fun _ _ _ h=>h,Or.inl ⟨by rfl,?_⟩,by assumption,?_⟩;rotate_left 1
   ·(intro w d;rcases d with ⟨s0,s1,t,y,s4,s5,s6⟩;go_simp;try(with_reducible rfl))
   (try simp only[Act.put,sA,sZ,sS])
   refine take1 (i:=11) (oi:=?oix13) ?hix13 ?hx13
   case hix13=>(simp only[gA,gS,gZ];rfl)
   refine⟨?_,by kernel_rfl,by kernel_rfl,by kernel_rfl,fun _ _ _ h=>h,Or.inl ⟨by rfl,?_⟩,by assumption,?_⟩;rotate_left 1
   ·(intro w d;rcases d with ⟨s0,s1,t,y,s4,s5,s6⟩;go_simp;try(with_reducible rfl))
   (try simp only[Act.put,sA,sZ,sS])
   refine take1 (i:=12) (oi:=?oix14) ?hix14 ?hx14
   case hix14=>(simp only[gA,gS,gZ];rfl)
   refine⟨?_,by kernel_rfl,by kernel_rfl,by kernel_rfl,fun _ _ _ h=>h,Or.inl ⟨by rfl,?_⟩,by assumption,?_⟩;rotate_left 1
   ·(intro w d;rcases d with ⟨s0,s1,t,y,s4,s5,s6⟩;go_simp;try(with_reducible rfl))
   (try simp only[Act.put,sA,sZ,sS])
   refine take1 (i:=15) (oi:=?oix15) ?hix15 ?hx15
   case hix15=>(simp only[gA,gS,gZ];rfl)
   refine⟨?_,by kernel_rfl,by kernel_rfl,by kernel_rfl,fun _ _ _ h=>h,Or.inl ⟨by rfl,?_⟩,by assumption,?_⟩;rotate_left 1
   ·(intro w d;rcases d with ⟨s0,s1,t,y,s4,s5,s6⟩;go_simp;try(with_reducible rfl))
   (try simp only[Act.put,sA,sZ,sS])
   refine take1 (i:=16) (oi:=?oix16) ?hix16 ?hx16
   case hix16=>(simp only[gA,gS,gZ];rfl)
   refine⟨?_,by kernel_rfl,by kernel_rfl,by kernel_rfl,fun _ _ _ h=>h,Or.inl ⟨by rfl,?_⟩,by assumption,?_⟩;rotate_left 1
   ·(intro w d;rcases d with ⟨s0,s1,t,y,s4,s5,s6⟩;go_simp;try(with_reducible rfl))
   (try simp only[Act.put,sA,sZ,sS])
   refine take1 (i:=17) (oi:=?oix17) ?hix17 ?hx17
   case hix17=>(simp only[gA,gS,gZ];rfl)
   refine⟨?_,by kernel_rfl,by kernel_rfl,by kernel_rfl,fun _ _ _ h=>h,Or.inl ⟨by rfl,?_⟩,by assumption,?_⟩;rotate_left 1
   ·(intro w d;rcases d with ⟨s0,s1,t,y,s4,s5,s6⟩;go_simp;try(with_reducible rfl))
   (try simp only[Act.put,sA,sZ,sS])
   refine take1 (i:=18) (oi:=?oix18) ?hix18 ?hx18
   case hix18=>(simp only[gA,gS,gZ];rfl)
   refine⟨?_,by kernel_rfl,by kernel_rfl,by kernel_rfl,fun _ _ _ h=>h,Or.inl ⟨by rfl,?_⟩,by assumption,?_⟩;rotate_left 1
   ·(intro w d;rcases d with ⟨s0,s1,t,y,s4,s5,s6⟩;go_simp;try(with_reducible rfl))
   (try simp only[Act.put,sA,sZ,sS])
   refine take1 (i:=19) (oi:=?oix19) ?hix19 ?hx19
   case hix19=>(simp only[gA,gS,gZ];rfl)
   refine⟨?_,by kernel_rfl,by kernel_rfl,by kernel_rfl,fun _ _ _ h=>h,Or.inl ⟨by rfl,?_⟩,by assumption,?_⟩;rotate_left 1
   ·(intro w d;rcases d with ⟨s0,s1,t,y,s4,s5,s6⟩;go_simp;try(with_reducible rfl))
   (try simp only[Act.put,sA,sZ,sS])
   refine cl1 (i:=2) fun K f=>?_
   go_simp
   (with_reducible refine cM (Ha.out _) ?_)
   rintro e de ⟨c6,rfl,ar,aj⟩;obtain⟨bG,cj,bX,cB,bN,cq,cc,rfl⟩:=ar.form
   go_wp2_with fail
   refine kO f (AtS.ext (by assumption) aj) (fun g=>?_);clear f K;refine cl1 (i:=6) fun K f=>?_
   go_simp
   (with_reducible refine cM (Hc.out _) ?_)
   rintro e cJ ⟨c7,rfl,au,ae⟩;obtain⟨bH,ck,bY,cC,bO,cr,cd,rfl⟩:=au.form
   go_wp2_with fail
   refine kO f (AtS.ext (by assumption) ae) (fun g=>?_);clear f K;have K7:=hd9 (zb9 cJ (Oe #[Y ya ym yc,Oc ys,Y ab ad ac]) (Oe #[Y bH ck bY,Oc cC,Y bO cr cd]) x ((j:Int):Rat) (bC.out.ext (aj.trans ae)) au (Hb.out.mono dM) (bm.out.mono dM));refine cl1 (i:=7) fun K f=>?_
   go_simp
   (with_reducible refine cM K7.out ?_)
   rintro e dg ⟨c8,rfl,av,ak⟩;obtain⟨bI,cl,bZ,cD,bP,cs,ce,rfl⟩:=av.form
   go_wp2_with fail
   refine kO f (AtS.ext (by assumption) ak) (fun g=>?_);clear f K;refine cl1 (i:=13) fun K f=>?_
   go_simp
   (with_reducible refine cM (Hd.out _) ?_)
   rintro e cK ⟨c9,rfl,aw,af⟩;obtain⟨bJ,cm,b0,cF,bQ,ct,cf,rfl⟩:=aw.form
   go_wp2_with fail
   refine kO f (AtS.ext (by assumption) af) (fun g=>?_);clear f K;have bD:=hd9 (zhk cK (Oe #[Y bI cl bZ,Oc cD,Y bP cs ce]) (Oe #[Y bJ cm b0,Oc cF,Y bQ ct cf]) (x-((j:Int):Rat)) ((bz-p:Int):Rat) (av.ext af) aw (bq.out.mono dM) (bo.out.mono dM));refine cl1 (i:=14) fun K f=>?_
   go_simp
   (with_reducible refine cM bD.out ?_)
   rintro e dh ⟨da,rfl,ay,al⟩;obtain⟨bK,cn,b1,cG,bT,cu,cg,rfl⟩:=ay.form
   go_wp2_with fail
   refine kO f (AtS.ext (by assumption) al) (fun g=>?_);clear f K;refine cl1 (i:=20) fun K f=>?_
   go_simp
   (with_reducible refine cM (He.out _) ?_)
   rintro e cL ⟨db,rfl,aA,ag⟩;obtain⟨bL,co,b4,cH,bU,cv,ch,rfl⟩:=aA.form
   go_wp2_with fail
   refine kO f (AtS.ext (by assumption) ag) (fun g=>?_);clear f K;have bE:=hd9 (zfH cL (Oe #[Y bK cn b1,Oc cG,Y bT cu cg]) (Oe #[Y bL co b4,Oc cH,Y bU cv ch]) ((x-((j:Int):Rat))*((bz-p:Int):Rat)) ((z-j:Int):Rat) (ay.ext ag) aA (br.out.mono dM) (bp.out.mono dM));refine cl1 (i:=21) fun K f=>?_
   go_simp
   (with_reducible refine cM bE.out ?_)
   rintro e cN ⟨dc,rfl,aB,am⟩;obtain⟨bM,cp,b5,cI,bV,cw,ci,rfl⟩:=aB.form
   go_wp2_with fail
   refine kO f (AtS.ext (by assumption) am) (fun g=>?_);clear f K;have bF:=hd9 (zeY cN (Oe #[Y bG cj bX,Oc cB,Y bN cq cc]) (Oe #[Y bM cp b5,Oc cI,Y bV cw ci]) ((p:Int):Rat) (((x-((j:Int):Rat))*((bz-p:Int):Rat)) / ((z-j:Int):Rat)) (ar.ext (((((ae.trans ak).trans af).trans al).trans ag).trans am)) aB (bn.out.mono dM) (bs.out.mono dM));refine cl1 (i:=22) fun K f=>?_
   go_simp
   (with_reducible refine cM bF.out ?_)
   rintro e aV ⟨dd,rfl,aC,aD⟩;obtain⟨cP,c1,cR,c5,cQ,c4,c0,rfl⟩:=aC.form
   go_wp2_with fail
   refine kO f (AtS.ext (by assumption) aD) (fun g=>?_);clear f K;have aZ:Ext w4.drew aV:=((((((aj.trans ae).trans ak).trans af).trans al).trans ag).trans am).trans aD;have aH:=bk.out.ext ((eR w4).drew.trans aZ);obtain⟨_,_,_,_,_,_,_,o0,o1,o2,cx,cy,cz,zo,_⟩:=aH.rd;have bl:=hd9 aH;clear aH;have cY:¬w.heap.size+1=w.heap.size:=oM
   have cX:¬w.heap.size+1=B/\¬w.heap.size+1=B+1:=⟨by omega,by omega⟩;have a5:atE x ((j,p),z,bz)=((p:Int):Rat)+((x-((j:Int):Rat))*((bz-p:Int):Rat)) / ((z-j:Int):Rat):=rfl;have bv:=hd9 a5;clear a5;refine cl1 (i:=23) fun K f=>?_
   go_simp;refine kO f ((((show AtS w.heap.size B ya ym yc ys ab ad ac j p z bz aV by assumption).set dO dO dO _).set dO dO dO _).set dO dO dO _) (fun _=>?_);clear f K;refine wpAnyH_done kM ?_ _;unfold NQ
   gi_wp2
   have X9:Ext W aV:=bu.out.trans ((eR w4).drew.trans aZ);refine⟨(((zaA X9).trans ((KeepsOthers.setCell _ _ _).from _)).trans ((KeepsOthers.setCell _ _ _).from _)).trans ((KeepsOthers.setCell _ _ _).from _),rfl,(((R.trans X9).set dO _).set dO _).set dO _,by simp only[qcZ];exact nT h2 X9.size,pre,_,rfl,h5,aE.out,?_⟩;dsimp only;rw[bv.out];exact bl.out.put aC
  ·have L:xLe x ((j,p),z,bz)=false:=by unfold xLe;rw[HT.out];simpa using a4
   have cU:0<T:=oM
   have aE:=hd9 L;clear L;unfold NQ
   gi_wp2
   refine⟨zaA X4,(KpW.refl w _ W).ext X4 R.size oM,R.trans X4,nT h2 X4.size,h3.ext X4,aG,fun e he=>?_⟩
   rcases List.mem_append.1 he with he|he
   ·exact h5 e he
   ·rw[List.mem_singleton.1 he];exact aE.out
 case done =>
  rintro D ys W hD rfl ⟨R,h2,h3,h4,h5⟩ f;obtain⟨m,rfl⟩:∃m,n=m+1:=⟨n-1,by have:=List.length_pos_iff.2 aX.out.1;rw[Hn.out]at this;omega⟩;obtain⟨⟨qx,qz⟩,hq⟩:∃q,ps[m]?=Z q:=⟨ps[m]'(by rw[Hn.out];omega),by simp⟩;obtain⟨b,o,rfl,hb,d0,d1⟩:=(h.ext' R).at' hq;have hR:atR ps x=((qz:Int):Rat):=zkM aW.out h5 (q:=(qx,qz)) (by rw[Hn.out];exact hq);have ai:=aX.out.2.1 (qx,qz) (lM hq);have a8:=fun W=>zaP W qz (by unfold Bd at ai;dsimp only at ai;omega) (by unfold Bd at ai;dsimp only at ai;omega)
  have L:=h.le;have cW:m+1<=9223372036854775807:=by rw[Hn.out]at L;unfold maxLen at L;omega
  have bB:=hd9 a8;have aF:=hd9 hR;have p1:(0:Int)<=(m:Int):=oM
  have p2:(m:Int)<((m+1:Nat):Int):=oM
  have u1:((m+1:Nat):Int)-1=(m:Int):=oM
  have zD:D<W.heap.size:=zaa f;clear a8 hR hq ai L
  gi_wp2_with(refine⟨trivial,?_⟩;gi_at_call 85;(with_reducible refine(callsIn_wide.2 (bB.out _)).mono ?_);rintro e w2 ⟨r2,rfl,ba,hx2⟩;obtain⟨a2,m2,c2,t,b2,n2,k2,rfl⟩:=ba.form;have a1:=h4.ext hx2;obtain⟨_,_,_,_,_,_,_,o0,o1,o2,cx,cy,cz,zo,_⟩:=a1.rd;have b6:=hx2.heapS f)
  have hP:=a1.put ba;have cT:¬D=w.heap.size+1:=oM
  have a0:(((w2.setCell ⟨w.heap.size+1,0,I⟩ (Y a2 m2 c2)).setCell ⟨w.heap.size+1,1,I⟩ (Oc t)).setCell ⟨w.heap.size+1,2,I⟩ (Y b2 n2 k2)).heap[D]?=Z (.deferred (Z [])):=by
   rw[bS _ _ _ _ dO,bS _ _ _ _ dO,bS _ _ _ _ dO];exact b6
  have ca:Ext w (((w2.setCell ⟨w.heap.size+1,0,I⟩ (Y a2 m2 c2)).setCell ⟨w.heap.size+1,1,I⟩ (Oc t)).setCell ⟨w.heap.size+1,2,I⟩ (Y b2 n2 k2)):=
   (((R.trans hx2).set dO _).set dO _).set dO _
  have ah:=zgC a0 (.deferred I);have aI:=hP.sim ah;obtain⟨pa,pm,aP,aR,aM,aQ,aO,aS,aT,aU,_,_,_,_,hz⟩:=aI.rd;refine⟨by simp,.inl ⟨_,_,rfl,run_takeDeferred a0,?_⟩⟩;refine⟨Oe #[Y pa pm aP,Oc aR,Y aM aQ aO],by simp[results,Tryz.results88,go_sem,aS,aT,aU],?_⟩;rw[aF.out];exact⟨_,rfl,hz,ah.ext ca oM⟩
 case stop =>
  rintro D c pre W hD a9 ⟨rfl,R,h2,p',e,rfl,h4,h5,h6⟩ f;have hR:=znQ aW.out a9 h4 h5;have aF:=hd9 hR;clear hR
  gi_wp2
  have ah:=zgC f (.deferred I);have aI:=h6.sim ah;obtain⟨pa,pm,aP,aR,aM,aQ,aO,aS,aT,aU,_,_,_,_,hz⟩:=aI.rd;refine⟨by simp,.inl ⟨_,_,rfl,run_takeDeferred f,?_⟩⟩;refine⟨Oe #[Y pa pm aP,Oc aR,Y aM aQ aO],by simp[results,Tryz.results88,go_sem,aS,aT,aU],?_⟩;rw[aF.out];exact⟨_,rfl,hz,ah.ext R oM⟩
end
section
open Go.RowKit Go.Shelf
def CellL:List (Og×M)->O->Prop
 | [],_=>True
 | (a,v)::r,W=>W.cell? a=Z v/\CellL r W
theorem CellL.ext:∀{L:List (Og×M)}{W W':O},CellL L W->Ext W W'->CellL L W'
 | [],_,_,_,_=>trivial
 | _::_,_,_,⟨h1,h2⟩,k=>⟨k.cellS h1,h2.ext k⟩
theorem cE{L:List (Og×M)}{W W':O}(h:CellL L W)(k:Ext W W'):CellL L W':=h.ext k
theorem cA{L:List (Og×M)}{W:O}(h:CellL L W:=by(repeat(first|exact trivial|refine⟨by go_simp,?_⟩))):CellL L W:=h
theorem CellL.set:∀{L:List (Og×M)}{W:O}{p:Og},CellL L W->(∀q∈L,p.block≠q.1.block)->∀u,CellL L (W.setCell p u)
 | [],_,_,_,_,_=>trivial
 | (a,v)::r,W,p,⟨h1,h2⟩,hn,u=>⟨by rw[World.cell?_setCell_far _ _ _ _ (hn (a,v) (by simp))];exact h1,h2.set (fun q b=>hn q (mC _ b)) u⟩
theorem CellL.set3{L:List (Og×M)}{W:O}{b:Nat}(h:CellL L W)(a:∀q∈L,b≠q.1.block)(u v t:M):CellL L (((W.setCell ⟨b,0,I⟩ u).setCell ⟨b,1,I⟩ v).setCell ⟨b,2,I⟩ t):=
 ((h.set a u).set a v).set a t
theorem CellL.nil(W:O):CellL [] W:=trivial
structure Sp where
 over:LP
 under:LP
 lo:Int
 hi:Int
def gapR(s:Sp)(x:Rat):Rat:=atR s.over x-atR s.under x
theorem zm0(w:O)(s:Sp)(v1 v2 vx:M)(x:Rat)(L:IsPts w v1 s.over)(R:IsPts w v2 s.under)(k1:LnOk s.over)(k2:LnOk s.under)(hx:IsR w vx x)(hb:Rb 1000 x)(g:Rb limR (atR s.over x))(j:Rb limR (atR s.under x)) :
  Calls Tryz.prog 133 #[Oe #[v1,v2,Oa U s.lo,Oa U s.hi],vx] w (RetR w (gapR s x)):=by
 obtain⟨a1,m1,rfl⟩:=L.form;obtain⟨a2,m2,rfl⟩:=R.form;obtain⟨xa,xm,xc,xs,y,D,z,rfl⟩:=hx.form;obtain⟨n1,n⟩:=gX s.over.length;obtain⟨n2,o⟩:=gX s.under.length;rw[n]at L ⊢;rw[o]at R ⊢;obtain⟨lo,l⟩:=gX s.lo;obtain⟨hi,k⟩:=gX s.hi;rw[l,k];have H1:=hd9 (fun(W:O)(f:Ext w W)=>zdI W _ _ s.over x (L.ext' f) k1 (hx.ext f) hb);have H2:=hd9 (fun(W:O)(f:Ext w W)=>zdI W _ _ s.under x (R.ext' f) k2 (hx.ext f) hb);have T:=hd9 g;have aa:=hd9 j;clear g j hb n o l k k1 k2 L R;go_enter Tryz.func133,Tryz.ntmps133;go_wp2;refine wp_region_held_drew (S:=CellL [(⟨w.heap.size,0,I⟩,Y a1 n1 m1),(⟨w.heap.size,1,I⟩,Y a2 n2 m2),(⟨w.heap.size+1,0,I⟩,Y xa xm xc),(⟨w.heap.size+1,1,I⟩,Oc xs),(⟨w.heap.size+1,2,I⟩,Y y D z)]) kM (by refine⟨?_,?_,?_,?_,?_,trivial⟩<;>go_simp) (fun a=>?_);refine sN 0 ?_
 iterate 3
  refine tkn ?_
 refine oN ?_;refine sN 4 ?_
 iterate 3
  refine tkn ?_
 refine oN ?_;refine cl1 (i:=3) fun K b=>?_
 go_simp
 (with_reducible refine cM (H1.out _ eA) ?_)
 rintro e w3 ⟨r3,rfl,p,u⟩;obtain⟨a3,m3,c3,s3,b3,n3,k3,rfl⟩:=p.form
 go_wp2_with fail
 refine kO b (cE a u) (fun a=>?_);clear b K;have X3:Ext w w3:=eA;refine cl1 (i:=7) fun K b=>?_
 go_simp
 (with_reducible refine cM (H2.out _ X3) ?_)
 rintro e w4 ⟨r4,rfl,r,c⟩;obtain⟨a4,m4,c4,s4,b4,n4,k4,rfl⟩:=r.form
 go_wp2_with fail
 refine kO b (cE a c) (fun a=>?_);clear b K;have K5:=hd9 (zb9 w4 _ _ _ _ (p.ext c) r T.out aa.out);refine cl1 (i:=8) fun K b=>?_
 go_simp
 (with_reducible refine cM K5.out ?_)
 rintro e w5 ⟨r5,rfl,t,d⟩;obtain⟨a5,m5,c5,s5,b5,n5,k5,rfl⟩:=t.form
 go_wp2_with fail
 refine kO b (cE a d) (fun a=>?_);clear b K;have hO:RB w5 (w.heap.size+1+1) 0:=(((RB.new (IsR.zero _) sM).ext ((eR _).drew.trans u)).ext c).ext d;obtain⟨_,_,_,_,_,_,_,o0,o1,o2,ak,al,am,zo,_⟩:=hO.rd
 have ab:∀q∈[((⟨w.heap.size,0,I⟩:Og),Value.slice a1 n1 m1),(⟨w.heap.size,1,I⟩,Y a2 n2 m2),(⟨w.heap.size+1,0,I⟩,Y xa xm xc),(⟨w.heap.size+1,1,I⟩,Oc xs),(⟨w.heap.size+1,2,I⟩,Y y D z)],w.heap.size+1+1≠q.1.block:=by
  intro q hq;simp at hq
  rcases hq with rfl|rfl|rfl|rfl|rfl<;>(dsimp only;omega)
 refine cl1 (i:=9) fun K b=>?_
 go_simp;refine kO b (CellL.set3 (by assumption) ab _ _ _) (fun a=>?_);clear b K;refine wpAnyH_done kM ?_ _;go_wp2;have hP:=hO.put t;obtain⟨pa,pm,ae,ag,ac,af,ad,ah,ai,aj,_,_,_,_,hz⟩:=hP.rd;exact bR (v:=Oe #[Y pa pm ae,Oc ag,Y ac af ad]) (by simp[results,Tryz.results133,go_sem,ah,ai,aj]) rfl ⟨_,rfl,hz,((((X3.trans c).trans d).set dO _).set dO _).set dO _⟩
def marks(a:List Nat):List Deferred:=a.map fun D=>{ target:=.collected D,args:=#[] }
def Marked(W:O)(a:List Nat):Prop:=a.Nodup/\∀D∈a,W.heap[D]?=Z (.deferred (Z []))
theorem Marked.ext{W W':O}{a:List Nat}(h:Marked W a)(k:Ext W W'):Marked W' a:=⟨h.1,fun D b=>k.heapS (h.2 D b)⟩
theorem Marked.nil(W:O):Marked W []:=⟨List.nodup_nil,fun D a=>by cases a⟩
theorem Marked.cons{W:O}{a:List Nat}{D:Nat}(h:Marked W a)(c:W.heap[D]?=Z (.deferred (Z [])))(d:D ∉ a):Marked W (D::a):=
 ⟨List.nodup_cons.2 ⟨d,h.1⟩,fun E b=>by rcases List.mem_cons.1 b with rfl|b;exact c;exact h.2 E b⟩
theorem Marked.set{W:O}{a:List Nat}(h:Marked W a){p:Og}{cs:Array M}{T:TypeId}{c:Nat×Nat}(d:W.heap[p.block]?=Z (Of cs T c))(u:M):Marked (W.setCell p u) a:=
 ⟨h.1,fun D b=>by rw[bS _ _ _ _ (by intro e;have:=h.2 D b;rw[e,d]at this;cases this)];exact h.2 D b⟩
theorem Marked.grown{W W':O}{c:List Nat}{row:Option Nat}(h:Marked W c)(f:W.grownBy W' row)(b:∀r,row=Z r->∃cs T fr,W.heap[r]?=Z (Of cs T fr)):Marked W' c:=
 ⟨h.1,fun D d=>by
  have a:=h.2 D d;rw[f.block D (zaa a) (fun e=>by obtain⟨cs,T,fr,b⟩:=b D e.symm;rw[b]at a;cases a)];exact a⟩
theorem zbQ{n:Nat}{P:Program}{f:Func}{tmps:Array M}{R:Ending->O->Prop}:∀(a:List Nat)(W:O),Marked W a ->
  (∀W':O,(∀B,(∀D∈a,B<=D)->Sim B W W')->LeavesInM Fence.wide n P f tmps R [] .returning W')->LeavesInM Fence.wide n P f tmps R (marks a) .returning W
 | [],W,_,h=>h W (fun B _=>⟨Below.refl _ _,fun _ _ h _=>h⟩)
 | D::a,W,hm,h=>by
  have j:=hm.2 D sM;have p:=zgC j (.deferred I);refine⟨by simp,.inl ⟨D,_,rfl,run_takeDeferred j,?_⟩⟩;refine zbQ a _ ⟨(List.nodup_cons.1 hm.1).2,fun E b=>?_⟩ (fun W' c=>h W' (fun B i=>?_))
  ·have d:E≠D:=fun e=>(List.nodup_cons.1 hm.1).1 (e▸b)
   rw[World.putObj_heap_other d];exact hm.2 E (mC _ b)
  ·have g:=c B (fun E b=>i E (mC _ b))
   exact⟨(Below.mono p.1 (i D sM)).trans g.1,fun k o q l=>g.2 k o (p.2 k o q l) l⟩
section
variable {P:Program} {ops:Array Oper} {Q:Exit->Ob->O->Prop} {md:Region.Mode} {S:O->Prop} {late:Nat->Bool}
def HU(P:Program)(md:Region.Mode)(ops:Array Oper)(Q:Exit->Ob->O->Prop)(S:O->Prop)(late:Nat->Bool):Nat->Array Bool->Ob->O->Prop
 | 0,b,a,w=>Region.ready md ops b=[]/\Q .normal a w
 | fuel+1,b,a,w =>
  (Region.ready md ops b=[]->Q .normal a w) /\
  ∀i∈Region.ready md ops b,wpOp P ops Q i (fun d c=>(late i=false->S c)/\HU P md ops Q S late fuel (b.setIfInBounds i true) d c) a w
theorem zeg:∀(fuel:Nat)(b:Array Bool)(a:Ob)(w:O),HU P md ops Q S late fuel b a w->wpAny P md ops Q fuel b a w
 | 0,_,_,_,h=>h
 | fuel+1,_,_,_,h=>⟨h.1,fun i e=>wpOp_mono (fun c f d=>zeg fuel _ c f d.2) (h.2 i e)⟩
theorem zkK{m i:Nat}{oi:Oper}{v:M}(hg:gated md ops late m=true)(ac:late i=false)(hi:ops[i]?=Z oi)(q:∀(j:Nat)(o:Oper) u b,ops[j]?=Z o->o.op ≠ .select u b)
  (hQ:∀c a w,Q (.panic c) (a.put oi.dst v) w->Q (.panic c) a w) :
  ∀(fuel:Nat)(d:Array Bool)(a:Ob)(w:O),Cl md ops d ->
   (∀j oj,ops[j]?=Z oj->j≠i->d.getD j true=false->(∀e∈oj.after,Region.binds md e=true->e.on≠i)->oi.apart ops oj=true) ->
   i∈Region.ready md ops d->YieldsIf P ops S oi v a->S w ->
   HU P md ops Q S late fuel (d.setIfInBounds i true) (a.put oi.dst v) w->HU P md ops Q S late (fuel+1) d a w:=by
 intro fuel
 induction fuel with
 | zero =>
  intro d a w W _ p R x H;refine⟨fun h=>(by rw[h]at p;cases p),fun j t=>?_⟩
  by_cases f:j=i
  ·subst f;exact R.wpOp hi x ⟨fun _=>x,H⟩
  ·have:=ready_mono t f
   rw[H.1]at this
   cases this
 | succ fuel ih =>
  intro d a w W g p R x H;refine⟨fun h=>(by rw[h]at p;cases p),fun j t=>?_⟩
  by_cases f:j=i
  ·subst f;exact R.wpOp hi x ⟨fun _=>x,H⟩
  ·have r:=H.2 j (ready_mono t f)
   have ad:=zgx hg W p ac t;obtain⟨n,oj,s,y⟩:=mem_ready.1 t
   have D:∀e∈oj.after,Region.binds md e=true->e.on≠i:=fun e he hb aa=>by
    have r:=y e he hb;have h0:=(mem_ready.1 p).1;rw[aa]at r
    rcases Nat.lt_or_ge i d.size with T | T
    ·simp[T]at h0 r;rw[h0]at r;cases r
    ·simp[Array.getElem?_eq_none T]at r
   have h2:=wpOp_putIf s (g j oj s f n D) (fun u b=>q i oi u b hi) (fun u b=>q j oj u b s) hQ R r
   have l:∀k ok,ops[k]?=Z ok->k≠i->(d.setIfInBounds j true).getD k true=false ->
     (∀e∈ok.after,Region.binds md e=true->e.on≠i)->oi.apart ops ok=true:=fun k ok hk ab K ae=>by
    refine g k ok hk ab ?_ ae
    by_cases z:j=k
    ·subst z;exact n
    ·rw[getD_set_ne true z]at K;exact K
   refine wpOp_mono (fun a' w' L=>⟨L.2.1,ih (d.setIfInBounds j true) a' w' (W.step t) l (ready_mono p (Ne.symm f)) L.1 (L.2.1 ad) ?_⟩) h2;rw[Array.setIfInBounds_comm _ _ f];exact L.2.2
def HUc(P:Program)(md:Region.Mode)(ops:Array Oper)(Q:Exit->Ob->O->Prop)(S:O->Prop)(late:Nat->Bool)(fuel:Nat)(b:Array Bool)(a:Ob)(w:O):Prop:=Cl md ops b->HU P md ops Q S late fuel b a w
def TakeHU(P:Program)(md:Region.Mode)(ops:Array Oper)(Q:Exit->Ob->O->Prop)(S:O->Prop)(late:Nat->Bool)(fuel:Nat)(b:Array Bool)(a:Ob)(w:O)(i:Nat)(oi:Oper):Prop:=
 ∃v,late i=false/\Region.noSelect ops=true/\Region.free md ops b i=true/\(Region.ready md ops b).contains i=true/\(∀c a w,Q (.panic c) (a.put oi.dst v) w->Q (.panic c) a w)/\YieldsIf P ops S oi v a/\S w /\
  HUc P md ops Q S late fuel (b.setIfInBounds i true) (a.put oi.dst v) w
theorem takeHU{m:Nat}(p:gated md ops late m=true){i:Nat}{oi:Oper}{fuel:Nat}{b:Array Bool}{a:Ob}{w:O}(d:ops[i]?=Z oi)(h:TakeHU P md ops Q S late fuel b a w i oi):HUc P md ops Q S late (fuel+1) b a w:=by
 obtain⟨v,f,g,j,k,l,n,h6,o⟩:=h;intro c;have e:i∈Region.ready md ops b:=by simpa using k
 exact zkK p f d (Region.noSelect_spec g) l fuel b a w c (Region.free_spec d j) e n h6 (o (c.step e))
def CallHU(P:Program)(md:Region.Mode)(ops:Array Oper)(Q:Exit->Ob->O->Prop)(S:O->Prop)(late:Nat->Bool)(fuel:Nat)(b:Array Bool)(a:Ob)(w:O)(i:Nat)(o:Oper):Prop:=
 Region.ready md ops b=[i]/\∀K':Ob->O->Prop,Shut (∀a w,(late i=false->S w)->((late i=false->S w)->HUc P md ops Q S late fuel (b.setIfInBounds i true) a w)->K' a w) ->
  if Region.wanted o (yielded ops a.tmps)=true then Oper.wp P o a w K' Q else K' (a.put o.dst undef) w
theorem callHU{i:Nat}{o:Oper}{fuel:Nat}{b:Array Bool}{a:Ob}{w:O}(p:ops[i]?=Z o)(h:CallHU P md ops Q S late fuel b a w i o):HUc P md ops Q S late (fuel+1) b a w:=by
 obtain⟨f,h⟩:=h;intro n;refine⟨fun g=>absurd (f▸g) sM,fun j c=>?_⟩;have d:=c;rw[f]at c
 cases List.mem_singleton.1 c
 exact wpOp_step p (fun K' k=>h K' (fun a w e l=>k a w ⟨e,l e (n.step d)⟩))
theorem doneHU{b:Array Bool}{a:Ob}{w:O}(c:Region.ready md ops b=[])(h:Q .normal a w):∀fuel,HUc P md ops Q S late fuel b a w
 | 0=>fun _=>⟨c,h⟩
 | _+1=>fun _=>⟨fun _=>h,by rw[c];simp⟩
theorem tu1{v:M}{i:Nat}{oi:Oper}{fuel:Nat}{b:Array Bool}{a:Ob}{w:O}{G:Prop}(h:G)(n:gated md ops late 12=true:=by kernel_rfl)(o:ops[i]?=Z oi:=by(simp only[gA,gS,gZ];rfl))(e:late i=false:=by rfl)(f:Region.noSelect ops=true:=by kernel_rfl)(g:Region.free md ops b i=true:=by kernel_rfl)(j:(Region.ready md ops b).contains i=true:=by kernel_rfl)(k:∀c a w,Q (.panic c) (a.put oi.dst v) w->Q (.panic c) a w:=by exact fun _ _ _ h=>h)(p:Region.wanted oi (yielded ops a.tmps)=true:=by rfl)(q:∀w,S w->(execOp a.eval oi).run P w = .ok (.value v) w:=by(intro w d;simp only[CellL,and_true]at d;go_simp;try(with_reducible rfl)))(h6:S w:=by(with_reducible assumption))(l:HUc P md ops Q S late fuel (b.setIfInBounds i true) (a.put oi.dst v) w=G:=by((try simp only[Act.put,sA,sZ,sS]);rfl)):HUc P md ops Q S late (fuel+1) b a w:=by
 subst l;exact takeHU n o ⟨v,e,f,g,j,k,Or.inl ⟨p,q⟩,h6,h⟩
theorem tun{v:M}{i:Nat}{oi:Oper}{fuel:Nat}{b:Array Bool}{a:Ob}{w:O}{G:Prop}(h:G)(n:gated md ops late 12=true:=by kernel_rfl)(o:ops[i]?=Z oi:=by(simp only[gA,gS,gZ];rfl))(e:late i=false:=by rfl)(f:Region.noSelect ops=true:=by kernel_rfl)(g:Region.free md ops b i=true:=by kernel_rfl)(j:(Region.ready md ops b).contains i=true:=by kernel_rfl)(k:∀c a w,Q (.panic c) (a.put oi.dst v) w->Q (.panic c) a w:=by exact fun _ _ _ h=>h)(p:Region.wanted oi (yielded ops a.tmps)=true:=by rfl)(q:∀w,S w->(execOp a.eval oi).run P w = .ok (.value v) w:=by(intro w d;simp only[CellL,and_true]at d;go_simp;try(with_reducible rfl)))(h6:S w:=by(with_reducible assumption))(l:wpN (i+1) (HUc P md ops Q S late fuel (b.setIfInBounds i true) (a.put oi.dst v) w)=G:=by((try simp only[Act.put,sA,sZ,sS,Nat.reduceAdd]);rfl)):wpN i (HUc P md ops Q S late (fuel+1) b a w):=by
 subst l;exact takeHU n o ⟨v,e,f,g,j,k,Or.inl ⟨p,q⟩,h6,h⟩
theorem cu1{i:Nat}{o:Oper}{fuel:Nat}{b:Array Bool}{a:Ob}{w:O}(h:∀K':Ob->O->Prop,Shut (∀a w,(late i=false->S w)->((late i=false->S w)->HUc P md ops Q S late fuel (b.setIfInBounds i true) a w)->K' a w)->if Region.wanted o (yielded ops a.tmps)=true then Oper.wp P o a w K' Q else K' (a.put o.dst undef) w)(c:ops[i]?=Z o:=by(simp only[gA,gS,gZ];rfl))(d:Region.ready md ops b=[i]:=by kernel_rfl):HUc P md ops Q S late (fuel+1) b a w:=callHU c ⟨d,h⟩
theorem callHU2{i j:Nat}{oi e:Oper}{fuel:Nat}{b:Array Bool}{a:Ob}{w:O}
  (r:∀K':Ob->O->Prop,Shut (∀a w,(late i=false->S w)->((late i=false->S w)->HUc P md ops Q S late fuel (b.setIfInBounds i true) a w)->K' a w)->if Region.wanted oi (yielded ops a.tmps)=true then Oper.wp P oi a w K' Q else K' (a.put oi.dst undef) w)
  (s:∀K':Ob->O->Prop,Shut (∀a w,(late j=false->S w)->((late j=false->S w)->HUc P md ops Q S late fuel (b.setIfInBounds j true) a w)->K' a w)->if Region.wanted e (yielded ops a.tmps)=true then Oper.wp P e a w K' Q else K' (a.put e.dst undef) w)
  (t:ops[i]?=Z oi:=by(simp only[gA,gS,gZ];rfl))(u:ops[j]?=Z e:=by(simp only[gA,gS,gZ];rfl))(p:Region.ready md ops b=[i,j]:=by kernel_rfl) :
  HUc P md ops Q S late (fuel+1) b a w:=by
 intro o;refine⟨fun q=>absurd (p▸q) sM,fun k l=>?_⟩;have d:=l;rw[p]at l
 rcases List.mem_cons.1 l with rfl|n
 ·exact wpOp_step t (fun K' f=>r K' (fun a w c g=>f a w ⟨c,g c (o.step d)⟩))
 ·cases List.mem_singleton.1 n
  exact wpOp_step u (fun K' f=>s K' (fun a w c g=>f a w ⟨c,g c (o.step d)⟩))
theorem zae{d:Nat}{a:Ob}{w:O}(late:Nat->Bool)(S:O->Prop)(c:P.follows .mixedOrders=true)(b:S w.drew)
  (h:S w.drew->HUc P .any ops Q S late ops.size (Array.replicate ops.size false) a w.drew):(Code.region d ops true).wp P Q a w:=
 wp_region_any c (zeg _ _ _ _ (h b (Cl.start _)))
end
def loopsOf:Code->List Code
 | .seq a b=>loopsOf a++loopsOf b
 | .cond _ a b=>loopsOf a++loopsOf b
 | .block _ b=>loopsOf b
 | .loop b=>b::loopsOf b
 | .rangeFunc _ _ a b=>loopsOf a++loopsOf b
 | .scope b=>loopsOf b
 | _=>[]
def loopAt(f:Func)(k:Nat):Code:=match f.body with|some c=>(loopsOf c).getD k .skip|none=>.skip
end
section
open Go.RowKit Go.Shelf Go.Sort Go.Lib
def ic(z:Int):List M:=[Oa U z]
theorem zm8:(Tryz.prog.info? 3).map (fun i=>(i.zero,i.size,i.bytes))=Z (Z (Oa U 0),1,8):=kM
theorem zjl{zs:List Int}:∀c∈zs.map ic,c.length=1:=by
 intro c a;obtain⟨z,_,rfl⟩:=List.mem_map.1 a;rfl
theorem zeM(zs:List Int):(zs.map ic).flatten=zs.map (Value.int U):=by
 induction zs with
 | nil=>rfl
 | cons z zs a=>simp[ic,a]
theorem zn6{zs:List Int}:∀u∈(zs.map ic).flatten,u.oneCell'=true:=by
 intro u a;rw[zeM]at a;obtain⟨z,_,rfl⟩:=List.mem_map.1 a;rfl
theorem OwnC.ints{w:O}{base g n c:Nat}{zs:List Int}(h:OwnC 3 1 w base (Y (Z ⟨g,0,I⟩) n c) (zs.map ic)) :
  base<=g/\g<w.heap.size/\n=zs.length/\zs.length<=c/\c<=maxLen/\Holds (Value.int U) w g 0 zs.toArray/\∃cur,w.heap[g]?=Z (Of cur 3 (0,0))/\cur.size=c*1/\cur.toList.take zs.length=zs.map (Value.int U):=by
 rcases h.2.2 with ⟨j,_⟩|⟨l,i,cur,hv,k,f,b,d,e,a⟩
 ·cases j
 ·cases hv
  rw[zeM,lL,Nat.mul_one]at a;rw[lL]at b;exact⟨k,zaa f,lL ..,b,d,holds_of_blockI f a,cur,f,e,a⟩
def isort(zs:List Int):List Int:=zs.mergeSort fun x y=>decide (x<=y)
theorem zbP(zs:List Int):(isort zs).length=zs.length:=List.length_mergeSort _
theorem isort_mem{zs:List Int}{z:Int}:z∈isort zs ↔ z∈zs:=List.mem_mergeSort
theorem zjq(w:O)(base g n c:Nat)(zs:List Int)(h:OwnC 3 1 w base (Y (Z ⟨g,0,I⟩) n c) (zs.map ic))(o:zs.length<=1000000000) :
  Calls Tryz.prog 172 #[Y (Z ⟨g,0,I⟩) n c] w fun e a=>e = .returned (.tuple #[])/\OwnC 3 1 a base (Y (Z ⟨g,0,I⟩) n c) ((isort zs).map ic)/\w.grownBy a (Z g):=by
 obtain⟨b,d,rfl,f,i,j,cur,h6,k,l⟩:=h.ints;refine(Tryz.slices_Sort_int g 0 c zs w j d oM).mono ?_;rintro e a ⟨rfl,n,os,rfl⟩;refine⟨rfl,⟨zjl,?_⟩,grownBy_sortedI _⟩;have:=ownsRow_sortedI (base:=base) (n:=n) (os:=os) (ss:=zs) (ts:=isort zs) (zbP zs) b h6 f i k;rw[zeM,lL,zbP];exact this
theorem zc3(zs:List Int):(compact zs).length<=zs.length:=by
 unfold compact compactUpTo;rw[lL];exact nT (List.length_filter_le _ _) sM
theorem zc7{zs:List Int}{z:Int}(h:z∈compact zs):z∈zs:=by
 unfold compact compactUpTo at h;obtain⟨i,a,rfl⟩:=List.mem_map.1 h;have:=List.mem_range.1 (List.mem_filter.1 a).1;rw[getElem!_pos _ _ (by simpa using this)];simp
theorem zhO{zs:List Int}(h:zs≠[]):compact zs≠[]:=by
 obtain⟨z,r,rfl⟩:=List.exists_cons_of_ne_nil h;intro a;unfold compact compactUpTo at a;have b:=List.map_eq_nil_iff.1 a;have c:=(List.filter_eq_nil_iff.1 b) 0 sM;simp[keeps]at c
theorem zfs(w:O)(base g n c:Nat)(zs:List Int)(h:OwnC 3 1 w base (Y (Z ⟨g,0,I⟩) n c) (zs.map ic))(t:zs.length<=1000000000) :
  Calls Tryz.prog 173 #[Y (Z ⟨g,0,I⟩) n c] w fun e a=>e = .returned (Y (Z ⟨g,0,I⟩) (compact zs).length c)/\OwnC 3 1 a base (Y (Z ⟨g,0,I⟩) (compact zs).length c) ((compact zs).map ic)/\w.grownBy a (Z g):=by
 obtain⟨f,p,rfl,i,j,k,cur,h6,l,r⟩:=h.ints;refine(Tryz.slices_Compact_int g 0 c zs w k oM i).mono ?_;rintro e a ⟨rfl,q,rfl⟩;have s:=zc3 zs
 have o:∀d,w.grownBy (putRow (Value.int U) (Sort.ahead w q) g 0 d) (Z g):=fun d=>by
  have:=grownBy_sortedI (w:=w) (g:=g) (n:=q) (os:=#[]) d
  rwa [grow_empty]at this
 refine⟨rfl,⟨zjl,?_⟩,o _⟩;rw[zeM,lL];refine⟨by simp,.inr ⟨g,c,putCells (Value.int U) 0 (compact zs++List.replicate (zs.length-(compact zs).length) 0).toArray cur,rfl,f,?_,by omega,j,?_,?_⟩⟩
 ·have:=heap_sortedI (n:=q) (os:=#[]) (compact zs++List.replicate (zs.length-(compact zs).length) 0).toArray h6
  rwa [grow_empty]at this
 ·simp[putCells,l]
 ·have:=take_putCellsI cur (compact zs++List.replicate (zs.length-(compact zs).length) 0) (by simp;omega)
  have b:=congrArg (List.take (compact zs).length) this;rw[List.take_take,lA,Nat.min_eq_left oM,List.map_append,List.take_left' sM]at b;rw[Nat.mul_one];exact b
end
section
open Go.RowKit Go.Shelf
attribute [local go_sem] Oper.semAt_some
abbrev limG:Nat:=400000
def AdC(w:O)(N:Int)(t4:M)(W:O):Prop:=
 ∃p q:Int,p+q=N/\(q.natAbs:Int)<=p.natAbs/\Lm limG p/\Lm limG q/\t4=Od (Z ⟨w.heap.size+1+1,0,I⟩)/\Ext w W/\NB W w.heap.size p/\NB W (w.heap.size+1) q /\
  W.heap[w.heap.size+1+1]?=Z (Of #[Oa U 0,Y I 0 0] 66 (0,0))
def AdL(wc:O)(c:Option Og)(d b e:Nat)(xs g:List Int)(σ:Int)(f:M)(wr:O):Prop:=
 ∃(j:Nat)(a:List Int),f=Oa U j/\j<=e/\a.length=b/\Own 3 wr wc.heap.size (Y c b d) a/\dv C4 a=dv C4 xs+σ*dv C4 (g.take j)/\AddB a j/\Ext wc wr
theorem zjz{xs a:List Int}(d:Can C4 xs)(e:Can C4 a)(h:dv C4 a<=dv C4 xs):a.length<=xs.length:=by
 rcases Nat.lt_or_ge xs.length a.length with c|c
 ·have:=zbx (b:=C4) dM d.1 e c;omega
 ·exact c
theorem sg3(n m:Int):n.sign*m.sign = -1\/n.sign*m.sign=0\/n.sign*m.sign=1:=by
 rcases zai n with ⟨e,_⟩|⟨e,_⟩|⟨e,_⟩<;>rcases zai m with ⟨a,_⟩|⟨a,_⟩|⟨a,_⟩<;>rw[e,a]<;>decide
theorem zho{n:Int}(h:n≠0):n.sign=1\/n.sign = -1:=by rcases zai n with ⟨e,_⟩|⟨e,a⟩|⟨e,_⟩<;>omega
theorem Own.drew{T:TypeId}{w:O}{base:Nat}{v:M}{xs:List Int}(h:Own T w base v xs):Own T w.drew base v xs:=h
theorem zoJ{w b:O}{a:M}{xs:List Int}(h:Own 3 b w.heap.size a ([]++xs)):Own 3 b w.heap.size a xs:=h
theorem zmd(w:O)(va vb:M)(r nb:Int)(ha:IsN w va r)(hb:IsN w vb nb)(ay:Lm limG r)(az:Lm limG nb) :
  Calls Tryz.prog 169 #[va,vb] w (RetNo w (r+nb)):=by
 obtain⟨s,a,m,c,rfl,hs⟩:=ha.form2;obtain⟨s',a',m',c',rfl,aS⟩:=hb.form2;obtain⟨D,hD⟩:=gX (((r.natAbs:Int)-(nb.natAbs:Int)).sign);have HD:=hd9 hD;have ad:=hd9 ay;have ae:=hd9 az;clear hs aS hD ay az;go_enter Tryz.func169,Tryz.ntmps169
 go_upto_if 10 with (go_at_call 191;(with_reducible refine(zcj _ (Oe #[Oa U s,Y a m c]) (Oe #[Oa U s',Y a' m' c']) r nb ?_ ?_).mono ?_);(refine ha.ext ?_;exact eA);(refine hb.ext ?_;exact eA);rw[HD.out];rintro e w1 ⟨rfl,t⟩;obtain⟨⟨aK,aO⟩,aF,aG,aH⟩:=cK3 w t)
 have n:NB w1 w.heap.size r:=(NB.new (W0:=w) ha rfl).ext eA;have R:NB w1 (w.heap.size+1) nb:=(NB.new (W0:=w.alloc (Of #[Oa U s,Y a m c] 66)) (hb.ext eA) sM).ext eA;have al:w1.heap[w.heap.size+1+1]?=Z (Of #[Oa U 0,Y I 0 0] 66 (0,0)):=t.heapS (qhA _ _ _ sM);have X1:Ext w w1:=eA
 go_cut [4] (AdC w (r+nb))
 case first =>
  by_cases a0:D<0
  ·have W:(r.natAbs:Int)<=nb.natAbs:=by
    have:=HD.out
    rcases zai ((r.natAbs:Int)-nb.natAbs)with ⟨e,_⟩|⟨e,_⟩|⟨e,_⟩<;>omega
   go_wp2;go_meet;refine⟨nb,r,by omega,W,ae.out,ad.out,rfl,eA,?_,?_,?_⟩
   ·exact((n.put (hb.ext X1)).other (p:=⟨w.heap.size+1,0,I⟩) sM ((R.not.set _ _).set _ _) _).other (p:=⟨w.heap.size+1,1,I⟩) sM (((R.not.set _ _).set _ _).set _ _) _
   ·exact((R.other (p:=⟨w.heap.size,0,I⟩) sM n.not _).other (p:=⟨w.heap.size,1,I⟩) sM (n.not.set _ _) _).put ((ha.ext X1).keep (((KeepT.refl _ w1).setN n.not _).setN (n.not.set _ _) _))
   ·rw[bS _ _ _ _ sM,bS _ _ _ _ sM,bS _ _ _ _ dO,bS _ _ _ _ dO]
    exact al
  ·have W:(nb.natAbs:Int)<=r.natAbs:=by
    have:=HD.out
    rcases zai ((r.natAbs:Int)-nb.natAbs)with ⟨e,_⟩|⟨e,_⟩|⟨e,_⟩<;>omega
   go_wp2;go_meet;exact⟨r,nb,rfl,W,ad.out,ae.out,rfl,X1,n,R,al⟩
 case rest =>
  clear n R al X1 t aK aO aF aG aH ha hb ad ae HD;obtain⟨p,q,aC,ai,aA,aQ,rfl,hx,hp,hq,L⟩:=hcut;obtain⟨sp,ap,mp,cp,aj,p0,p1,a4,a5,pz,aw⟩:=hp.rd;obtain⟨sq,aq,mq,cq,ak,q0,q1,a6,a7,qz,ax⟩:=hq.rd;obtain⟨xs,xl,xi,xc,xv⟩:=aw.open;obtain⟨ys,yl,yi,yc,yv⟩:=ax.open;have hm:=zbg aA xc xv;have aR:=zjz xc yc (by rw[xv,yv];exact ai);unfold limG at hm;rw[xl]at hm;rw[xl,yl]at aR;have hσ:=sg3 p q;rw[<-aj,<-ak]at hσ;obtain⟨σ,ac⟩:=gX (sp*sq);rw[ac]at hσ;have HP:=hd9 aC;have am:=hd9 ai;have ag:=hd9 aj;have ar:=hd9 ak;have Xl:=hd9 xl;have Yl:=hd9 yl;have Xv:=hd9 xv;have Yv:=hd9 yv;have k:=hd9 L;have af:=hd9 ac;have zc:=zaa L;clear aC ai aA aQ aj ak xl yl xv yv L ac hp hq aw ax
  go_wp2_with(at_builtin;refine appN za0 Tryz.underlying64 rfl _ _ rfl rfl (Own.nil _ _ wc.heap.size) rfl xi (by rw[Xl.out];simp;omega) (nE _) ?_;intro v' w2 d z av;replace d:=zoJ d;obtain⟨ga,gc,rfl⟩:=d.form;obtain⟨aL,aP⟩:=Ext.cells z)
  rw[Xl.out]at d ⊢
  go_loopw [6] (AdL wc ga gc mp mq xs ys σ) (fun t6 _=>mq-(intOf t6).toNat)
  case atStart=>exact⟨0,xs,rfl,by omega,Xl.out,d,by simp,AddB.start xc.1,z⟩
  case round =>
   clear d z av aL aP;obtain⟨j,os,rfl,hj,aB,d,l,ah,f⟩:=hrel;have e0:=f.cellS p0;have e1:=f.cellS p1;have e2:=f.cellS q0;have e3:=f.cellS q1;have T:=hd9 aB;have an:=hd9 l;clear aB l
   by_cases W:j<mq
   ·obtain⟨b,o,rfl,aU,t⟩:=(yi.ext f).open (by rw[Yl.out];omega)
    obtain⟨g,rfl,hg,aZ⟩:=d.blk (by rw[T.out];omega);obtain⟨y,ab⟩:∃y,ys[j]?=Z y:=⟨_,gE (by rw[Yl.out];omega)⟩;obtain⟨x,aa⟩:∃x,os[j]?=Z x:=⟨_,gE (by rw[T.out];omega)⟩;have aW:=t j y ab;have aV:=d.cell aa;have aY:=d.frozen j;have aT:=yc.1 y (lM ab);have a2:=(ah j x aa).2.2 (nE _);unfold C4 at aT;obtain⟨u,hu⟩:=gX (σ*y);have a1 : -10000<=u/\u<=10000:=by rcases hσ with h|h|h<;>subst h<;>omega
    have aI:=hd9 ab;have au:=hd9 aa;have ac:=af.out;have g0:(0:Int)<=(j:Int):=oM
    have g1:(j:Int)<(mq:Int):=oM
    have g2:(j:Int)<(mp:Int):=oM
    clear t ab aa;go_wp2;refine zae (fun i=>decide (18<i)) (CellL [(⟨g,j,I⟩,Oa U x),(⟨w.heap.size,0,I⟩,Oa U sp),(⟨w.heap.size+1,0,I⟩,Oa U sq),(⟨w.heap.size+1,1,I⟩,Y (Z ⟨b,o,I⟩) mq cq),(⟨b,o+j,I⟩,Oa U y)]) kM ?_ (fun aJ=>?_)
    ·exact cA
    refine sN 0 ?_
    iterate 19
     refine tun ?_
    refine oN ?_;refine cu1 (i:=19) fun K hK=>?_
    go_simp;refine kO hK (fun h=>nomatch h) (fun aJ=>?_);clear hK K;refine doneHU kM ?_ _;go_wp2
    go_roundw
    case rel =>
     exact⟨j+1,os.set j (x+σ*y),by go_num,by omega,by simp[T.out],(d.stored j _).drew,zi0 au.out aI.out an.out,ah.step au.out (by rw[hu];omega) (by rw[hu];omega),(f.set (p:=⟨g,j,I⟩) hg _).drew⟩
    case measure=>simp[intOf];omega
   ·obtain rfl:j=mq:=oM
    have l:dv C4 os=(p.natAbs:Int)+σ*(q.natAbs:Int):=by
     rw[an.out,Xv.out,lT (by rw[Yl.out];omega),Yv.out]
    obtain⟨v0,v1⟩:=zmE p q am.out;rw[<-ag.out,<-ar.out,af.out,<-l]at v0;rw[<-ag.out,<-ar.out,af.out,<-l]at v1;have V1:=hd9 v1;have ao:=hd9 l;have r0:=qcB (f.heapS k.out) (i:=0) (u:=Oa U 0) rfl;have r1:=qcB (f.heapS k.out) (i:=1) (u:=Y I 0 0) rfl;have a8:=qfB (f.heapS k.out) 0;have a9:=qfB (f.heapS k.out) 1;have zr:=zaa (f.heapS k.out);have XW:Ext w wr:=hx.trans f;clear l v1
    go_wp2_with(go_at_call 152;(with_reducible refine(zgf _ sp _ os (r+nb) d.ints (by rw[T.out];omega) ah.big v0 (by rw[V1.out,HP.out]) (fun h9=>?_)).mono ?_);(rw[ag.out];refine zho (fun h8=>h9 ?_);have:=am.out;rw[ao.out];rw[h8]at this ⊢;simp at this ⊢;rw[this];simp);rintro e w3 ⟨r3,rfl,aD,aE⟩;obtain⟨s3,a3,m3,c3,rfl,-⟩:=aD.form2;obtain⟨aM,aX⟩:=aE.cells)
    refine bR (v:=Oe #[Oa U s3,Y a3 m3 c3]) (by simp[results,Tryz.results169,go_sem,aM,zr,r0,r1]) rfl ⟨_,rfl,(aD.keep (zcl (aE.heapS (f.heapS k.out)) _ _)).mono XW.size,eA⟩
theorem zlb(w:O)(d e:M)(a nb:Int)(f:IsN w d a)(g:IsN w e nb)(b:Lm limG a)(c:Lm limG nb) :
  Calls Tryz.prog 169 #[d,e] w (RetN w (a+nb)):=znu (zmd w d e a nb f g b c)
theorem zmg(w:O)(K L:M)(k nb:Int)(x:IsN w K k)(y:IsN w L nb)(b:Lm limG k)(d:Lm limG nb) :
  Calls Tryz.prog 151 #[K,L] w (RetNo w (k-nb)):=by
 obtain⟨s,a,m,c,rfl,hs⟩:=x.form2;obtain⟨D,t,z,u,rfl,q⟩:=y.form2;have l:=hd9 b;have n:=hd9 d.neg;rw[Int.sub_eq_add_neg];clear hs q b d;go_enter Tryz.func151,Tryz.ntmps151;go_wp2
 go_region_held3 (fun W=>W.cell? ⟨w.heap.size,0,I⟩=Z (Oa U s)/\W.cell? ⟨w.heap.size,1,I⟩=Z (Y a m c)/\W.cell? ⟨w.heap.size+1,0,I⟩=Z (Oa U D)/\W.cell? ⟨w.heap.size+1,1,I⟩=Z (Y t z u)) ((repeat' (with_reducible refine And.intro ?_ ?_))<;>(first|(go_simp;done)|(refine hx1.cellS ?_;go_simp;done))) (first|((go_at_call 193;(with_reducible refine(zcw _ (Oe #[Oa U D,Y t z u]) nb ?_).mono ?_);(refine y.ext ?_;exact eA);rintro e w1 ⟨r1,rfl,f,hx1⟩;obtain⟨s1,a1,m1,c1,rfl,-⟩:=f.form2;obtain⟨⟨o,ac⟩,R,T,i⟩:=cK3 w hx1))|((go_at_call 169;(with_reducible refine(zmd _ (Oe #[Oa U s,Y a m c]) (Oe #[Oa U s1,Y a1 m1 c1]) k (-nb) ?_ ?_ l.out n.out).mono ?_);(refine x.ext ?_;exact eA);(refine f.ext ?_;exact eA);rintro e w2 ⟨r2,rfl,g,r⟩;obtain⟨s2,a2,m2,c2,rfl,-⟩:=g.form2;obtain⟨⟨p,ad⟩,aa,ab,j⟩:=cK3 w r)))
 all_goals go_wp2
 exact bR (v:=Oe #[Oa U s2,Y a2 m2 c2]) (by simp[results,Tryz.results151,go_sem,o,p,i,j]) rfl ⟨_,rfl,(g.keep kA).mono (by have:=hx1.size;simp at this;omega),eA⟩
theorem zeL(w:O)(d e:M)(a nb:Int)(f:IsN w d a)(g:IsN w e nb)(b:Lm limG a)(c:Lm limG nb) :
  Calls Tryz.prog 151 #[d,e] w (RetN w (a-nb)):=znu (zmg w d e a nb f g b c)
theorem zn2(s:Int)(a:Option Og)(m c:Nat)(w:O):(Instr.field 66 (Oe #[Oa U s,Y a m c]) 0).run Tryz.prog w = .ok (Oa U s) w:=kM
theorem zgW(w:O)(p q:M)(g nb:Int)(n:IsN w p g)(o:IsN w q nb)(b:Lm limG g)(d:Lm limG nb) :
  Calls Tryz.prog 79 #[p,q] w fun e R=>e = .returned (Oa U (g-nb).sign)/\Ext w R:=by
 obtain⟨s,a,m,c,rfl,D⟩:=n.form2;obtain⟨L,u,K,v,rfl,k⟩:=o.form2;have i:=hd9 b;have j:=hd9 d;clear D k b d;have z:=zn2;go_enter Tryz.func79,Tryz.ntmps79
 go_wp2_with((go_at_call 151;(with_reducible refine(zeL _ (Oe #[Oa U s,Y a m c]) (Oe #[Oa U L,Y u K v]) g nb ?_ ?_ i.out j.out).mono ?_);(refine n.ext ?_;exact eA);(refine o.ext ?_;exact eA);rintro e w1 ⟨r1,rfl,f,l⟩;obtain⟨s1,T,m1,W,rfl,-⟩:=f.form2;obtain⟨⟨x,y⟩,r,t⟩:=cK2 w l))
 go_ret;exact⟨zbh (zbn (f.sgn)),eA⟩
end
section
open Go.RowKit Go.Shelf
def waitsB(md:Region.Mode)(ops:Array Oper)(pv i:Nat):Bool:=match ops[pv]? with|some o=>o.after.toList.any (fun e=>Region.binds md e&&e.on==i)|none=>false
section
variable {P:Program} {ops:Array Oper} {Q:Exit->Ob->O->Prop} {md:Region.Mode} {A B:O->Prop} {pv:Nat}
def HV(P:Program)(md:Region.Mode)(ops:Array Oper)(Q:Exit->Ob->O->Prop)(A B:O->Prop)(pv:Nat):Nat->Array Bool->Ob->O->Prop
 | 0,b,a,w=>Region.ready md ops b=[]/\Q .normal a w
 | fuel+1,b,a,w =>
  (Region.ready md ops b=[]->Q .normal a w) /\
  ∀i∈Region.ready md ops b,wpOp P ops Q i (fun d c=>(A c/\((b.setIfInBounds i true).getD pv false=false->B c))/\HV P md ops Q A B pv fuel (b.setIfInBounds i true) d c) a w
theorem zeh:∀(fuel:Nat)(b:Array Bool)(a:Ob)(w:O),HV P md ops Q A B pv fuel b a w->wpAny P md ops Q fuel b a w
 | 0,_,_,_,h=>h
 | fuel+1,_,_,_,h=>⟨h.1,fun i e=>wpOp_mono (fun c f d=>zeh fuel _ c f d.2) (h.2 i e)⟩
theorem zjJ{a:Array Bool}{i:Nat}(j:Cl md ops a)(b:waitsB md ops pv i=true)(g:a.getD i true=false):a.getD pv false=false:=by
 cases h:a.getD pv false with
 | false=>rfl
 | true =>
  unfold waitsB at b
  cases ho:ops[pv]? with
  | none=>rw[ho]at b;cases b
  | some o =>
   rw[ho]at b;obtain⟨e,k,f⟩:=List.any_eq_true.1 b;rw[Bool.and_eq_true,beq_iff_eq]at f;have c:=j pv o ho h e (by simpa using k) f.1;rw[f.2]at c
   rcases Nat.lt_or_ge i a.size with d | d
   ·simp[d]at g c;rw[g]at c;cases c
   ·simp[Array.getElem?_eq_none d]at g
theorem zkL{i:Nat}{oi:Oper}{v:M}{f:Bool}(ad:i≠pv)(he:f=true->waitsB md ops pv i=true)(hi:ops[i]?=Z oi)(u:∀(j:Nat)(o:Oper) K b,ops[j]?=Z o->o.op ≠ .select K b)
  (hQ:∀c a w,Q (.panic c) (a.put oi.dst v) w->Q (.panic c) a w) :
  ∀(fuel:Nat)(d:Array Bool)(a:Ob)(w:O),Cl md ops d ->
   (∀j oj,ops[j]?=Z oj->j≠i->d.getD j true=false->(∀e∈oj.after,Region.binds md e=true->e.on≠i)->oi.apart ops oj=true) ->
   i∈Region.ready md ops d->YieldsIf P ops (fun w=>A w/\(f=true->B w)) oi v a->(A w/\(d.getD pv false=false->B w)) ->
   HV P md ops Q A B pv fuel (d.setIfInBounds i true) (a.put oi.dst v) w->HV P md ops Q A B pv (fuel+1) d a w:=by
 have p:∀l:Array Bool,(l.setIfInBounds i true).getD pv false=l.getD pv false:=fun l=>getD_set_ne false ad
 intro fuel
 induction fuel with
 | zero =>
  intro d a w hc _ s hy q H;have z:A w/\(f=true->B w):=⟨q.1,fun h=>q.2 (zjJ hc (he h) (mem_ready.1 s).1)⟩;refine⟨fun h=>(by rw[h]at s;cases s),fun j T=>?_⟩
  by_cases g:j=i
  ·subst g;exact hy.wpOp hi z ⟨⟨q.1,fun h=>q.2 (by rw[p]at h;exact h)⟩,H⟩
  ·have:=ready_mono T g
   rw[H.1]at this
   cases this
 | succ fuel ih =>
  intro d a w hc n s hy q H;have z:A w/\(f=true->B w):=⟨q.1,fun h=>q.2 (zjJ hc (he h) (mem_ready.1 s).1)⟩;refine⟨fun h=>(by rw[h]at s;cases s),fun j T=>?_⟩
  by_cases g:j=i
  ·subst g;exact hy.wpOp hi z ⟨⟨q.1,fun h=>q.2 (by rw[p]at h;exact h)⟩,H⟩
  ·have x:=H.2 j (ready_mono T g)
   obtain⟨t,oj,D,R⟩:=mem_ready.1 T
   have aa:∀e∈oj.after,Region.binds md e=true->e.on≠i:=fun e he hb ac=>by
    have x:=R e he hb;have h0:=(mem_ready.1 s).1;rw[ac]at x
    rcases Nat.lt_or_ge i d.size with h' | h'
    ·simp[h']at h0 x;rw[h0]at x;cases x
    ·simp[Array.getElem?_eq_none h']at x
   have h2:=wpOp_putIf D (n j oj D g t aa) (fun K b=>u i oi K b hi) (fun K b=>u j oj K b D) hQ hy x
   have r:∀k ok,ops[k]?=Z ok->k≠i->(d.setIfInBounds j true).getD k true=false ->
     (∀e∈ok.after,Region.binds md e=true->e.on≠i)->oi.apart ops ok=true:=fun k ok hk ae ab af=>by
    refine n k ok hk ae ?_ af
    by_cases W:j=k
    ·subst W;exact t
    ·rw[getD_set_ne true W]at ab;exact ab
   refine wpOp_mono (fun a' w' h3=>?_) h2;obtain⟨ag,⟨L,y⟩,hH⟩:=h3;rw[Array.setIfInBounds_comm _ _ (Ne.symm g),p]at y;refine⟨⟨L,y⟩,ih (d.setIfInBounds j true) a' w' (hc.step T) r (ready_mono s (Ne.symm g)) ag ⟨L,y⟩ ?_⟩;rw[Array.setIfInBounds_comm _ _ g];exact hH
def HVc(P:Program)(md:Region.Mode)(ops:Array Oper)(Q:Exit->Ob->O->Prop)(A B:O->Prop)(pv:Nat)(fuel:Nat)(b:Array Bool)(a:Ob)(w:O):Prop:=Cl md ops b->HV P md ops Q A B pv fuel b a w
theorem doneHV{b:Array Bool}{a:Ob}{w:O}(c:Region.ready md ops b=[])(h:Q .normal a w):∀fuel,HVc P md ops Q A B pv fuel b a w
 | 0=>fun _=>⟨c,h⟩
 | _+1=>fun _=>⟨fun _=>h,by rw[c];simp⟩
theorem tv1{v:M}{i:Nat}{oi:Oper}{fuel:Nat}{b:Array Bool}{a:Ob}{w:O}(d:Bool){G:Prop}(h:G)(g:i≠pv:=by decide)(t:d=true->waitsB md ops pv i=true:=by(intro h;first|(cases h;done)|kernel_rfl))(k:ops[i]?=Z oi:=by(simp only[gA,gS,gZ];rfl))(n:Region.noSelect ops=true:=by kernel_rfl)(o:Region.free md ops b i=true:=by kernel_rfl)(p:(Region.ready md ops b).contains i=true:=by kernel_rfl)(q:∀c a w,Q (.panic c) (a.put oi.dst v) w->Q (.panic c) a w:=by exact fun _ _ _ h=>h)(u:Region.wanted oi (yielded ops a.tmps)=true:=by rfl)(x:∀w,A w->(d=true->B w)->(execOp a.eval oi).run P w = .ok (.value v) w:=by(intro w f e;(first|(have e:=e rfl;simp only[CellL,and_true]at f e)|(simp only[CellL,and_true]at f));go_simp;try(with_reducible rfl)))(h6:A w:=by(with_reducible assumption))(r:b.getD pv false=false->B w:=by(first|exact fun _=>(by with_reducible assumption)|exact fun h=>nomatch h))(s:HVc P md ops Q A B pv fuel (b.setIfInBounds i true) (a.put oi.dst v) w=G:=by((try simp only[Act.put,sA,sZ,sS]);rfl)):HVc P md ops Q A B pv (fuel+1) b a w:=by
 subst s;intro j;have l:i∈Region.ready md ops b:=by simpa using p
 exact zkL g t k (Region.noSelect_spec n) q fuel b a w j (Region.free_spec k o) l (Or.inl ⟨u,fun w h=>x w h.1 h.2⟩) ⟨h6,r⟩ (h (j.step l))
theorem cv1{i:Nat}{o:Oper}{fuel:Nat}{b:Array Bool}{a:Ob}{w:O}(h:∀K':Ob->O->Prop,Shut (∀a w,(A w/\((b.setIfInBounds i true).getD pv false=false->B w))->((A w/\((b.setIfInBounds i true).getD pv false=false->B w))->HVc P md ops Q A B pv fuel (b.setIfInBounds i true) a w)->K' a w)->if Region.wanted o (yielded ops a.tmps)=true then Oper.wp P o a w K' Q else K' (a.put o.dst undef) w)(p:ops[i]?=Z o:=by(simp only[gA,gS,gZ];rfl))(f:Region.ready md ops b=[i]:=by kernel_rfl):HVc P md ops Q A B pv (fuel+1) b a w:=by
 intro n;refine⟨fun g=>absurd (f▸g) sM,fun j c=>?_⟩;have d:=c;rw[f]at c
 cases List.mem_singleton.1 c
 exact wpOp_step p (fun K' k=>h K' (fun a w e l=>k a w ⟨e,l e (n.step d)⟩))
theorem zdc{e:Nat}{a:Ob}{w:O}(A B:O->Prop)(pv:Nat)(d:P.follows .mixedOrders=true)(b:A w.drew)(c:B w.drew)
  (h:A w.drew->B w.drew->HVc P .any ops Q A B pv ops.size (Array.replicate ops.size false) a w.drew):(Code.region e ops true).wp P Q a w:=
 wp_region_any d (zeh _ _ _ _ (h b c (Cl.start _)))
end
end
section
open Go.RowKit Go.Shelf Go.Sort Go.Lib
theorem OwnC.keepT{T T':TypeId}{k:Nat}{w w':O}{base:Nat}{v:M}{cs:List (List M)}(h:OwnC T k w base v cs)(g:T≠T')(d:w.grownBy w' v.ownBlock):KeepT T' w w':=fun b p q a=>by
 rw[d.block b (zaa a) (fun e=>?_)];exact a
 rcases h.2.2 with ⟨f,_⟩|⟨r,c,cur,hv,d,l,n,i,j,o⟩
 ·rw[f]at e;cases e
 ·rw[hv]at e
  cases e
  rw[l]at a
  cases a
  exact g rfl
def OwnR(w:O)(base:Nat)(v:M)(a:List Rat):Prop:=∃cs,OwnC 63 3 w base v cs/\cs.length=a.length/\∀(i:Nat) c q,cs[i]?=Z c->a[i]?=Z q->PR w c q
theorem OwnR.rs{w:O}{base:Nat}{v:M}{a:List Rat}(h:OwnR w base v a):IsRs w v a:=by
 obtain⟨e,b,c,d⟩:=h;exact b.sl c d
theorem OwnR.ext{w w':O}{base:Nat}{v:M}{a:List Rat}(h:OwnR w base v a)(k:Ext w w'):OwnR w' base v a:=by
 obtain⟨b,d,e,f⟩:=h;exact⟨b,d.ext k,e,fun i c q g j=>IsR.ext (f i c q g j) k⟩
theorem OwnR.mono{w:O}{base b':Nat}{v:M}{a:List Rat}(h:OwnR w base v a)(k:b'<=base):OwnR w b' v a:=by
 obtain⟨b,c,d,e⟩:=h;exact⟨b,c.mono k,d,e⟩
theorem OwnR.nil(w:O)(base:Nat):OwnR w base (Y I 0 0) []:=⟨[],OwnC.nil _ _ _ _,rfl,fun i c q a=>by simp at a⟩
def RetRs(w:O)(a:List Rat)(e:Ending)(w':O):Prop:=∃v,e = .returned v/\OwnR w' w.heap.size v a/\Ext w w'
theorem zn7:(Tryz.prog.info? 63).map (fun i=>(i.zero,i.size,i.bytes))=Z (Z (Oe #[Y I 0 0,Oc false,Y I 0 0]),3,56):=kM
theorem Rb.atE{x:Rat}{e:Edg}(o:Rb 1 x)(h:Bd 104000 e.1.1/\Bd 104000 e.1.2/\Bd 104000 e.2.1/\Bd 104000 e.2.2):Rb 11 (Cop.atE x e):=by
 obtain⟨l,n,p,q⟩:=h;have g:Bd 208000 (e.2.2-e.1.2):=by unfold Bd at *;omega
 have i:Bd 208000 (e.2.1-e.1.1):=by unfold Bd at *;omega
 unfold Cop.atE;have a:=Rb.sub (k:=1) o (zaC l);have b:=Rb.mul (j:=3) (k:=1) a (zaC g);have c:=Rb.div (j:=4) (k:=1) b (zaC i) oM;have d:=(zaC n).mono (k:=5) oM;have f:=Rb.add (k:=5) d c;exact f
theorem Rb.atR{x:Rat}{ps:LP}(c:Rb 1 x)(h:LnOk ps):Rb 11 (Cop.atR ps x):=by
 unfold Cop.atR
 cases hf:(eds ps).find? (xLe x)with
 | some e=>exact c.atE (zgO h.2.1 (List.mem_of_find?_eq_some hf))
 | none =>
  have d:0<ps.length:=by
   rcases Nat.eq_zero_or_pos ps.length with a|a
   ·exact absurd (List.eq_nil_of_length_eq_zero a) h.1
   ·exact a
  have b:ps.getD (ps.length-1) (0,0)∈ps:=by
   rw[gD,gE oM,Option.getD_some];exact List.getElem_mem _
  exact(zaC (h.2.1 _ b).2).mono oM
theorem zdi{ps:LP}(h:LnOk ps):Bd 104000 (lineL ps)/\Bd 104000 (lineR ps):=by
 have d:0<ps.length:=by
  rcases Nat.eq_zero_or_pos ps.length with a|a
  ·exact absurd (List.eq_nil_of_length_eq_zero a) h.1
  ·exact a
 have b:∀i,i<ps.length->ps.getD i (0,0)∈ps:=fun i c=>by
  rw[gD,gE c,Option.getD_some];exact List.getElem_mem _
 exact⟨(h.2.1 _ (b 0 d)).1,(h.2.1 _ (b _ oM)).1⟩
def btw(ps a:LP):Sp:=⟨ps,a,max (lineL ps) (lineL a),min (lineR ps) (lineR a)⟩
def spc(s:Sp)(a b:M):M:=Oe #[a,b,Oa U s.lo,Oa U s.hi]
def RetBt(w:O)(a b:M)(s:Sp)(e:Ending)(w':O):Prop:=e = .returned (.tuple #[spc s a b,Oc (decide (s.lo<s.hi))])/\Ext w w'
theorem zbb(w:O)(v1 v2:M)(ps j:LP)(h1:IsPts w v1 ps)(h2:IsPts w v2 j)(k1:0<ps.length)(k2:0<j.length) :
  Calls Tryz.prog 58 #[v1,v2] w (RetBt w v1 v2 (btw ps j)):=by
 have H1:=hd9 (fun(W:O)(b:Ext w W)=>zbo W v1 ps (h1.ext' b) k1);have H2:=hd9 (fun(W:O)(b:Ext w W)=>zbo W v2 j (h2.ext' b) k2);have H3:=hd9 (fun(W:O)(b:Ext w W)=>zbi W v1 ps (h1.ext' b) k1);have H4:=hd9 (fun(W:O)(b:Ext w W)=>zbi W v2 j (h2.ext' b) k2);obtain⟨n,s,rfl⟩:=h1.form;obtain⟨o,t,rfl⟩:=h2.form;obtain⟨R,hR⟩:=gX (RetBt w (Y n ps.length s) (Y o j.length t) (btw ps j));rw[hR];have L:=hd9 hR;clear hR;unfold btw at L;obtain⟨l1,e1⟩:=gX (lineL ps);obtain⟨l2,e2⟩:=gX (lineL j);obtain⟨r1,e3⟩:=gX (lineR ps);obtain⟨r2,e4⟩:=gX (lineR j);obtain⟨z,f1⟩:=gX ps.length;obtain⟨D,f2⟩:=gX j.length;rw[e1,e2,e3,e4]at L;rw[e1]at H1;rw[e2]at H2;rw[e3]at H3;rw[e4]at H4;simp only[f1,f2]at H1 H2 H3 H4 L h1 h2 ⊢;clear e1 e2 e3 e4 f1 f2 h1 h2 k1 k2;go_enter Tryz.func58,Tryz.ntmps58
 go_wp2_with(first|(go_at_call 86;(with_reducible refine(H1.out _ ?_).mono ?_);exact eA;rintro e w3 ⟨rfl,c⟩;obtain⟨ad,ah⟩:=c.cells)|(go_at_call 86;(with_reducible refine(H2.out _ ?_).mono ?_);exact eA;rintro e w4 ⟨rfl,d⟩;obtain⟨ae,ai⟩:=d.cells)|(go_at_call 87;(with_reducible refine(H3.out _ ?_).mono ?_);exact eA;rintro e w5 ⟨rfl,f⟩;obtain⟨af,aj⟩:=f.cells)|(go_at_call 87;(with_reducible refine(H4.out _ ?_).mono ?_);exact eA;rintro e x ⟨rfl,g⟩;obtain⟨ag,ak⟩:=g.cells))
 obtain⟨r,aa⟩:=gX (max l1 l2);obtain⟨p,T⟩:=gX (min r1 r2);rw[aa,T]at L ⊢;have ab:Ext w x:=(((((eR w).alloc _).trans c).trans d).trans f).trans g;have an:w.heap.size<x.heap.size:=by have:=c.size;have:=d.size;have:=f.size;have:=g.size;simp only[wZ]at *;omega
 have hO:x.heap[w.heap.size]?=Z (Of #[Y I 0 0,Y I 0 0,Oa U 0,Oa U 0] 138 (0,0)):=g.heapS (f.heapS (d.heapS (c.heapS (aN _ _))));clear ad ah ae ai af aj ag ak H1 H2 H3 H4 aa T c d f g;obtain⟨W,b⟩:=gX ((x.alloc (Of #[Y n z s,Y o D t,Oa U r,Oa U p] 138)));have y:W.heap[x.heap.size]?=Z (Of #[Y n z s,Y o D t,Oa U r,Oa U p] 138 (0,0)):=by rw[<-b];exact aN _ _
 have a:W.heap[w.heap.size]?=Z (Of #[Y I 0 0,Y I 0 0,Oa U 0,Oa U 0] 138 (0,0)):=by rw[<-b];exact((eR x).alloc _).heapS hO
 have am:Ext w W:=by rw[<-b];exact ab.alloc _
 rw[b];clear b hO ab;have b0:=qcB y (i:=0) (u:=Y n z s) rfl;have b1:=qcB y (i:=1) (u:=Y o D t) rfl;have b2:=qcB y (i:=2) (u:=Oa U r) rfl;have b3:=qcB y (i:=3) (u:=Oa U p) rfl;have f0:=qfB a 0;have f1:=qfB a 1;have f2:=qfB a 2;have f3:=qfB a 3;have o0:=qcB a (i:=0) (u:=Y I 0 0) rfl;have o1:=qcB a (i:=1) (u:=Y I 0 0) rfl;have o2:=qcB a (i:=2) (u:=Oa U 0) rfl;have o3:=qcB a (i:=3) (u:=Oa U 0) rfl;have HB:=hd9 y;clear y a;obtain⟨l,al⟩:=gX x.heap.size;simp only[al]at *;refine wp_region_held_drew (S:=CellL [(⟨l,0,I⟩,Y n z s),(⟨l,1,I⟩,Y o D t),(⟨l,2,I⟩,Oa U r),(⟨l,3,I⟩,Oa U p)]) kM cA (fun ac=>?_);refine sN 0 ?_
 iterate 6
  refine tkn ?_
 refine oN ?_
 have k:∀q∈[((⟨l,0,I⟩:Og),Value.slice n z s),(⟨l,1,I⟩,Y o D t),(⟨l,2,I⟩,Oa U r),(⟨l,3,I⟩,Oa U p)],w.heap.size≠q.1.block:=by
  intro q hq;simp at hq
  rcases hq with rfl|rfl|rfl|rfl<;>(dsimp only;omega)
 refine cl1 (i:=6) fun K hK=>?_
 go_simp;refine kO hK ((((CellL.set (by assumption) k _).set k _).set k _).set k _) (fun ac=>?_);clear hK K;refine tk1 (i:=7) ?_;refine wpAnyH_done kM ?_ _;go_wp2;refine bR (v:=.tuple #[Oe #[Y n z s,Y o D t,Oa U r,Oa U p],Oc (decide (r<p))]) (by simp[results,Tryz.results58,go_sem,o0,o1,o2,o3,f0,f1,f2,f3]) rfl ?_;rw[<-L.out];exact⟨rfl,((((am.set dO _).set dO _).set dO _).set dO _).drew⟩
theorem CellL.grown:∀{L:List (Og×M)}{W W':O}{row:Option Nat},CellL L W->W.grownBy W' row->(∀q∈L,Z q.1.block≠row)->CellL L W'
 | [],_,_,_,_,_,_=>trivial
 | (a,v)::r,W,W',row,⟨h1,h2⟩,hg,hn=>by
  refine⟨?_,h2.grown hg (fun q c=>hn q (mC _ c))⟩;have b:=World.block_lt_of_cell? _ _ h1;rw[<-h1];unfold World.cell?;rw[hg.block _ b (hn (a,v) sM)]
theorem zmG(t:Array M)(n:Nat)(h:t.size=n):t=((List.range n).map fun k=>t.getD k undef).toArray:=by
 apply Array.ext
 ·simp[h]
 ·intro i a b
  simp[Array.getD,a]
theorem zbc{W:O}{b:Nat}{cs:Array M}{T:TypeId}{a:Nat×Nat}(h:W.heap[b]?=Z (Of cs T a))(i:Nat)(u:M):(W.setCell ⟨b,i,I⟩ u).heap[b]?=Z (Of (cs.setIfInBounds i u) T a):=by
 simp[World.setCell,Array.getElem?_modify,h]
theorem zjh(w:O)(o a:Obj):((w.alloc o).alloc a).heap[w.heap.size]?=Z o:=by
 rw[zaf,if_neg sM];exact aN w o
theorem zji(w:O)(o a:Obj):((w.alloc o).alloc a).heap[w.heap.size+1]?=Z a:=qhA _ _ _ sM
theorem arrU(t:Array M)(n:Nat)(h:t.size=n):∃u:Nat->M,(∀k,t.getD k undef=u k)/\t=((List.range n).map u).toArray:=⟨fun k=>t.getD k undef,fun _=>rfl,zmG t n h⟩
theorem zfX(w:O)(o a:Obj):((w.alloc o).alloc a).heap[w.heap.size+1]?=Z a:=qhA _ _ _ sM
end
section
open Go.RowKit Go.Shelf
section
variable {P:Program} {ops:Array Oper} {Q:Exit->Ob->O->Prop} {md:Region.Mode} {A B C:O->Prop} {pv pc:Nat}
def TwS(A B C:O->Prop)(pv pc:Nat)(a:Array Bool)(w:O):Prop:=A w/\(a.getD pv false=false->B w)/\(a.getD pc false=false->C w)
def HX(P:Program)(md:Region.Mode)(ops:Array Oper)(Q:Exit->Ob->O->Prop)(A B C:O->Prop)(pv pc:Nat):Nat->Array Bool->Ob->O->Prop
 | 0,b,a,w=>Region.ready md ops b=[]/\Q .normal a w
 | fuel+1,b,a,w =>
  (Region.ready md ops b=[]->Q .normal a w) /\
  ∀i∈Region.ready md ops b,wpOp P ops Q i (fun d c=>TwS A B C pv pc (b.setIfInBounds i true) c/\HX P md ops Q A B C pv pc fuel (b.setIfInBounds i true) d c) a w
theorem TwS.step{a:Array Bool}{w:O}(b:A w)(c:a.getD pv false=false->B w)(d:a.getD pc false=false->C w):TwS A B C pv pc a w:=⟨b,c,d⟩
end
end
section
open Go.RowKit Go.Shelf
section
variable {P:Program} {ops:Array Oper} {Q:Exit->Ob->O->Prop} {md:Region.Mode} {S:O->Prop} {fl:List (Nat×Tmp×Obj)} {w0:O} {late:Nat->Bool}
def inF(fl:List (Nat×Tmp×Obj))(i:Nat):Bool:=fl.any (·.1==i)
def rdy(md:Region.Mode)(ops:Array Oper)(fl:List (Nat×Tmp×Obj))(L:Array Bool):List Nat:=(Region.ready md ops L).filter fun i=>!inF fl i
def fdst(ops:Array Oper)(f:Nat):Option Tmp:=(ops[f]?).bind (·.dst)
def Outs(b:Nat):List (Nat×Nat)->Prop
 | []=>True
 | x::l=>(b<x.1\/x.2<=b)/\Outs b l
def FEnd(P:Program)(md:Region.Mode)(ops:Array Oper)(Q:Exit->Ob->O->Prop)(S:O->Prop)(w0:O)(k:Nat)(c:List (Nat×Nat)):List (Nat×Tmp×Obj)->List Nat->Array Bool->Ob->O->Prop
 | [],_,L,a,W=>wpAnyH P md ops Q S k L a W
 | (f,d,o)::fl,bs,L,a,W=>∀b,W.heap[b]?=Z o->w0.heap.size<=b->b ∉ bs->Outs b c->FEnd P md ops Q S w0 k c fl (b::bs) (L.setIfInBounds f true) (a.put (Z d) (Od (Z ⟨b,0,I⟩))) W
def ExtI(a:List (Nat×Nat))(w0 W w':O):Prop:=Ext w0 w'/\W.heap.size<=w'.heap.size/\∀k,k<W.heap.size->Outs k a->w'.heap[k]?=W.heap[k]?
theorem ExtI.of{c:List (Nat×Nat)}{w0 W w':O}(a:Ext w0 W)(h:Ext W w'):ExtI c w0 W w':=⟨a.trans h,h.size,fun k b _=>h.block b⟩
def GF(P:Program)(md:Region.Mode)(ops:Array Oper)(Q:Exit->Ob->O->Prop)(S:O->Prop)(b:Nat->Bool)(fl:List (Nat×Tmp×Obj))(w0:O):Nat->List (Nat×Nat)->Array Bool->Ob->O->Prop
 | 0,d,L,a,w=>rdy md ops fl L=[]/\∀W,Ext w W->Ext w0 W->FEnd P md ops Q S w0 0 d fl [] L a W
 | k+1,d,L,a,w=>((rdy md ops fl L=[]->∀W,Ext w W->Ext w0 W->FEnd P md ops Q S w0 (k+1) d fl [] L a W)/\(∀i∈rdy md ops fl L,b i=false) /\
   ∀i∈rdy md ops fl L,∀W,Ext w W->Ext w0 W->wpOp P ops Q i (fun g f=>ExtI d w0 W f/\GF P md ops Q S b fl w0 k ((W.heap.size,f.heap.size)::d) (L.setIfInBounds i true) g f) a W) \/
  (∃i oi v,ops[i]?=Z oi/\i∈rdy md ops fl L/\(∀j oj,ops[j]?=Z oj->j≠i->L.getD j true=false->(∀e∈oj.after,Region.binds md e=true->e.on≠i)->oi.apart ops oj=true) /\
   (∀c a w,Q (.panic c) (a.put oi.dst v) w->Q (.panic c) a w)/\YieldsIf P ops S oi v a/\GF P md ops Q S b fl w0 k d (L.setIfInBounds i true) (a.put oi.dst v) w)
theorem GF.later{b:Nat->Bool}:∀{k:Nat}{d:List (Nat×Nat)}{L:Array Bool}{a:Ob}{w W:O},Ext w W->GF P md ops Q S b fl w0 k d L a w->GF P md ops Q S b fl w0 k d L a W
 | 0,_,_,_,_,_,h,H=>⟨H.1,fun V c=>H.2 V (h.trans c)⟩
 | _+1,_,_,_,_,_,h,.inl H=>.inl ⟨fun o V c=>H.1 o V (h.trans c),H.2.1,fun i n V c=>H.2.2 i n V (h.trans c)⟩
 | _+1,_,_,_,_,_,h,.inr ⟨i,p,v,e,f,g,j,l,h6⟩=>.inr ⟨i,p,v,e,f,g,j,l,GF.later h h6⟩
theorem mem_rdy{i:Nat}{L:Array Bool}:i∈rdy md ops fl L ↔ i∈Region.ready md ops L/\inF fl i=false:=by
 unfold rdy;rw[List.mem_filter];simp
def gatedE(md:Region.Mode)(ops:Array Oper)(late a:Nat->Bool)(n:Nat):Bool:=
 (List.range ops.size).all fun j=>!late j || ((List.range ops.size).all fun i=>late i || a i || (reach md ops n j).contains i)
theorem zfK{late c:Nat->Bool}{a:Array Bool}{m i j:Nat}(n:gatedE md ops late c m=true)(s:Cl md ops a)(u:i∈Region.ready md ops a)(w:late i=false)(t:c i=false)(v:j∈Region.ready md ops a):late j=false:=by
 cases hlj:late j with
 | false=>rfl
 | true =>
  exfalso
  obtain⟨q,y,e,d⟩:=mem_ready.1 v;obtain⟨b,x,p,_⟩:=mem_ready.1 u;unfold gatedE at n;rw[List.all_eq_true]at n;have g:=n j (List.mem_range.2 (Array.getElem?_eq_some_iff.1 e).1);rw[hlj]at g;simp only[Bool.not_true,Bool.false_or,List.all_eq_true]at g;have k:=g i (List.mem_range.2 (Array.getElem?_eq_some_iff.1 p).1);rw[w,t]at k;simp only[Bool.false_or,List.contains_eq_mem,decide_eq_true_eq]at k;have l:=zbq s m j (fun o r=>by rw[e]at r;cases r;exact d) i k
  rcases Nat.lt_or_ge i a.size with f | f
  ·simp[f]at l b;rw[l]at b;cases b
  ·simp[Array.getElem?_eq_none f]at l
def floatsB(md:Region.Mode)(ops:Array Oper)(b:List (Nat×Tmp))(late a:Nat->Bool)(n:Nat):Bool:=
 gatedE md ops late a n&&b.all (fun f=>!late f.1&&!a f.1&&(preds md ops f.1).isEmpty&&decide (f.1<ops.size)&&fdst ops f.1==Z f.2)&&decide (b.map (·.1)).Nodup&&decide (b.map (·.2)).Nodup &&
 (List.range ops.size).all fun i=>late i || b.any (·.1==i) || b.all fun f=>!(preds md ops i).contains f.1&&(match ops[f.1]?,ops[i]? with|some x,Z y=>x.apart ops y|_,_=>true)
def Lays(P:Program)(ops:Array Oper)(f:Nat)(o:Obj):Prop:=∃x,ops[f]?=Z x/\x.guard=I/\∀(a:Ob)(W:O),(execOp a.eval x).run P W = .ok (.value (Od (Z ⟨W.heap.size,0,I⟩))) (W.alloc o)
theorem zkE{j:Nat}{oi k:Oper}{v:M}(L:ops[j]?=Z k)(s:oi.apart ops k=true)(p:∀cs b,k.op ≠ .select cs b)
  (z:∀c a w,Q (.panic c) a w->Q (.panic c) (a.put oi.dst v) w){K:Ob->O->Prop}{a:Ob}{w:O}
  (h:wpOp P ops Q j K a w):wpOp P ops Q j (fun D t=>∃a0,D=a0.put oi.dst v/\K a0 t) (a.put oi.dst v) w:=by
 obtain⟨q,l,R⟩:=Oper.apart_spec s;unfold wpOp at *;simp only[L]at *;rw[wanted_put k a oi.dst v q]
 split
 ·rename_i hw
  simp only[hw,if_true]at h
  rcases h with h|⟨g,i⟩
  case inr=>exact .inr ⟨by unfold Oper.asks at *;rw[execOp_put k p a oi.dst v q];exact g,i⟩
  refine .inl ?_;unfold Oper.wp at *;rw[execOp_put k p a oi.dst v q]
  generalize (execOp a.eval k).run P w=r at *
  cases r with
  | ok n t =>
   cases n<;>simp only[Oper.upon]at h ⊢
   case value u=>exact⟨_,Act.put_comm a v u l,h⟩
   case skip=>exact⟨_,Act.put_comm a v undef l,h⟩
   case defer d=>exact⟨_,by rw[Act.put_defers];exact Act.put_comm _ v undef l,h⟩
   case enter f args =>
    refine cM h fun e y o=>?_
    cases e with
    | returned u=>exact⟨_,Act.put_comm a v u l,o⟩
    | panicked c=>exact z _ _ _ o
    | outgrown=>exact o
   case row row args=>exact Rows.mono h fun u y o=>⟨_,Act.put_comm a v u l,o⟩
  | halt x t =>
   cases x<;>simp only[Oper.upon]at h ⊢
   case panic u=>exact z _ _ _ h
 ·rename_i hw
  simp only[hw]at h;exact⟨_,Act.put_comm a v undef l,h⟩
abbrev Come:=List (Nat×Tmp×Obj×Nat)
def came(x:Nat×Tmp×Obj×Nat):Nat×Tmp×Obj:=(x.1,x.2.1,x.2.2.1)
def setC(L:Array Bool)(a:Come):Array Bool:=a.foldl (fun L x=>L.setIfInBounds x.1 true) L
def putC(a:Ob)(b:Come):Ob:=b.foldl (fun a x=>a.put (Z x.2.1) (Od (Z ⟨x.2.2.2,0,I⟩))) a
theorem zdk{i:Nat}{d:Bool}:∀(a:Come)(L:Array Bool),(∀x∈a,x.1≠i)->(setC L a).getD i d=L.getD i d
 | [],_,_=>rfl
 | x::a,L,h=>(zdk a _ fun y b=>h y (mC _ b)).trans (getD_set_ne d (h x (List.mem_cons_self ..)))
theorem zke{i:Nat}{d:Bool}:∀(b:Come)(L:Array Bool),(∃x∈b,x.1=i)->i<L.size->(setC L b).getD i d=true
 | [],_,h,_=>by obtain⟨x,a,_⟩:=h;cases a
 | y::b,L,h,hi=>by
  by_cases e:∃x∈b,x.1=i
  ·exact zke b _ e (by simpa using hi)
  ·have f:y.1=i:=by
    obtain⟨x,a,c⟩:=h
    rcases List.mem_cons.1 a with rfl|a
    ·exact c
    ·exact absurd ⟨x,a,c⟩ e
   subst f;refine(zdk b _ fun x a c=>e ⟨x,a,c⟩).trans ?_;simp[hi]
theorem ze2{i:Nat}:∀(a:Come)(L:Array Bool),(∀x∈a,x.1≠i)->(setC L a).setIfInBounds i true=setC (L.setIfInBounds i true) a
 | [],_,_=>rfl
 | x::a,L,h=>by
  refine(ze2 a _ fun y b=>h y (mC _ b)).trans ?_
  show setC ((L.setIfInBounds x.1 true).setIfInBounds i true) a=setC ((L.setIfInBounds i true).setIfInBounds x.1 true) a
  rw[Array.setIfInBounds_comm _ _ (h x (List.mem_cons_self ..))]
theorem zjV{α β:Type}{g:α->β}{x y:List β}(h:x.Perm y):∀l:List α,l.map g=x->∃m,l.Perm m/\m.map g=y:=by
 induction h with
 | nil=>exact fun l d=>⟨l,.refl _,d⟩
 | cons b _ p =>
  intro l d;obtain⟨a,l,rfl,rfl,e⟩:=List.map_eq_cons_iff.1 d;obtain⟨m,f,i⟩:=p l e;exact⟨a::m,f.cons a,by simp[i]⟩
 | swap b c t =>
  intro l d;obtain⟨a,l,rfl,rfl,e⟩:=List.map_eq_cons_iff.1 d;obtain⟨n,l,rfl,rfl,f⟩:=List.map_eq_cons_iff.1 e;exact⟨n::a::l,.swap ..,by simp[f]⟩
 | trans _ _ j k =>
  intro l d;obtain⟨m,o,e⟩:=j l d;obtain⟨q,f,i⟩:=k m e;exact⟨q,o.trans f,i⟩
theorem FEnd.use{k:Nat}{W:O}{e:List (Nat×Nat)}:∀(b:Come)(c:List Nat)(L:Array Bool)(a:Ob),FEnd P md ops Q S w0 k e (b.map came) c L a W ->
  (∀x∈b,W.heap[x.2.2.2]?=Z x.2.2.1/\w0.heap.size<=x.2.2.2/\Outs x.2.2.2 e)->(c.reverse++b.map (·.2.2.2)).Nodup->wpAnyH P md ops Q S k (setC L b) (putC a b) W
 | [],_,_,_,h,_,_=>h
 | x::b,c,L,a,h,h1,h2=>by
  have d:=h1 x (List.mem_cons_self ..)
  have f:x.2.2.2 ∉ c:=fun g=>by
   rw[List.map_cons,List.nodup_append]at h2;exact h2.2.2 _ (List.mem_reverse.2 g) _ (List.mem_cons_self ..) rfl
  exact FEnd.use b (x.2.2.2::c) _ _ (h x.2.2.2 d.1 d.2.1 f d.2.2) (fun y i=>h1 y (mC _ i)) (by simpa using h2)
theorem zf0{j:Nat}{l:Oper}(r:ops[j]?=Z l)(f:∀cs b,l.op ≠ .select cs b)(q:∀c a d v w,Q (.panic c) a w->Q (.panic c) (a.put d v) w){W:O} :
  ∀(e:Come)(a:Ob)(K:Ob->O->Prop),(∀x∈e,∃p:Oper,p.dst=Z x.2.1/\p.apart ops l=true)->wpOp P ops Q j K a W->wpOp P ops Q j (fun g n=>∃a0,g=putC a0 e/\K a0 n) (putC a e) W
 | [],_,_,_,h=>wpOp_mono (fun g n i=>⟨g,rfl,i⟩) h
 | x::e,a,K,h1,h=>by
  obtain⟨p,u,k⟩:=h1 x (List.mem_cons_self ..);have o:=zkE (oi:=p) (v:=Od (Z ⟨x.2.2.2,0,I⟩)) r k f (fun c a w h=>q c a _ _ w h) h;rw[u]at o;refine wpOp_mono (fun g n i=>?_) (zf0 r f q e _ _ (fun y z=>h1 y (mC _ z)) o);obtain⟨a0,rfl,s,rfl,t⟩:=i;exact⟨s,rfl,t⟩
end
section
variable {P:Program} {ops:Array Oper} {Q:Exit->Ob->O->Prop} {md:Region.Mode} {S:O->Prop} {fl:List (Nat×Tmp×Obj)} {w0:O} {late:Nat->Bool} {m:Nat}
def ftm(x:Nat×Tmp×Obj):Nat×Tmp:=(x.1,x.2.1)
theorem zdA{a:Nat->Bool}(h:floatsB md ops (fl.map ftm) late a m=true):gatedE md ops late a m=true/\(∀x∈fl,late x.1=false/\a x.1=false/\preds md ops x.1=[]/\x.1<ops.size/\fdst ops x.1=Z x.2.1)/\(fl.map (·.1)).Nodup/\(fl.map (·.2.1)).Nodup /\
  ∀i<ops.size,late i=false->inF fl i=false->∀x∈fl,x.1 ∉ preds md ops i/\∀p q,ops[x.1]?=Z p->ops[i]?=Z q->p.apart ops q=true:=by
 unfold floatsB at h;simp only[Bool.and_eq_true,decide_eq_true_eq]at h;obtain⟨⟨⟨⟨n,o⟩,k⟩,l⟩,r⟩:=h;rw[List.map_map]at k l;refine⟨n,fun x j=>?_,k,l,fun i s t g x j=>?_⟩
 ·have:=List.all_eq_true.1 o _ (List.mem_map_of_mem (f:=ftm) j)
  simp only[Bool.and_eq_true,Bool.not_eq_true',List.isEmpty_iff,decide_eq_true_eq,beq_iff_eq]at this;exact⟨this.1.1.1.1,this.1.1.1.2,this.1.1.2,this.1.2,this.2⟩
 ·have h6:=List.all_eq_true.1 r i (List.mem_range.2 s)
  rw[t,Bool.false_or,Bool.or_eq_true]at h6
  rcases h6 with e|e
  ·exfalso
   obtain⟨y,w,c⟩:=List.any_eq_true.1 e;obtain⟨z,D,rfl⟩:=List.mem_map.1 w;unfold inF at g;rw[List.any_eq_false]at g;exact g z D c
  ·have c:=List.all_eq_true.1 e _ (List.mem_map_of_mem (f:=ftm) j)
   rw[Bool.and_eq_true]at c;refine⟨fun d=>?_,fun p q u v=>?_⟩
   ·have b:=c.1
    rw[Bool.not_eq_true',List.contains_eq_mem,decide_eq_false_iff_not]at b;exact b d
   ·have b:=c.2
    dsimp only[ftm]at b;rw[u,v]at b;exact b
theorem zhf{i:Nat}{o:Oper}(c:ops[i]?=Z o){e:_}(b:e∈o.after)(a:Region.binds md e=true):e.on∈preds md ops i:=by
 unfold preds;rw[c];exact List.mem_map.2 ⟨e,List.mem_filter.2 ⟨by simpa using b,a⟩,rfl⟩
theorem zg0{i:Nat}(h:inF fl i=true):∃d o,(i,d,o)∈fl:=by
 unfold inF at h;obtain⟨x,b,a⟩:=List.any_eq_true.1 h;rw[beq_iff_eq]at a;subst a;exact⟨x.2.1,x.2.2,b⟩
theorem zft{i:Nat}(h:inF fl i=false):∀x∈fl,x.1≠i:=by
 unfold inF at h;rw[List.any_eq_false]at h;exact fun x a e=>h x a (by simpa using e)
theorem zjM{b:Nat}:∀{a:List (Nat×Nat)},(∀x∈a,b<x.1\/x.2<=b)->Outs b a
 | [],_=>trivial
 | x::_,h=>⟨h x (List.mem_cons_self ..),zjM fun y c=>h y (mC _ c)⟩
theorem zmk{α β:Type}{g:α->β}:∀{l:List α},(l.map g).Nodup->∀x∈l,∀y∈l,g x=g y->x=y
 | [],_,_,c,_,_,_=>nomatch c
 | z::l,h,x,c,y,hy,e=>by
  rw[List.map_cons,List.nodup_cons]at h;obtain⟨d,h⟩:=h
  rcases List.mem_cons.1 c with b|b
  ·rcases List.mem_cons.1 hy with a|a
   ·rw[b,a]
   ·exact absurd (List.mem_map.2 ⟨y,a,by rw[<-e,b]⟩) d
  ·rcases List.mem_cons.1 hy with a|a
   ·exact absurd (List.mem_map.2 ⟨x,b,by rw[e,a]⟩) d
   ·exact zmk h x b y a e
theorem zkf{b a:Come}(h:b.Perm a)(L:Array Bool):setC L b=setC L a:=
 h.foldl_eq' (fun x _ y _ z=>by
  by_cases e:x.1=y.1
  ·rw[e]
  ·exact Array.setIfInBounds_comm _ _ e) L
theorem zj4{c b:Come}(i:(c.map (·.2.1)).Nodup)(h:c.Perm b)(a:Ob):putC a c=putC a b:=
 h.foldl_eq' (fun x j y k z=>by
  by_cases e:x.2.1=y.2.1
  ·rw[zmk i x j y k e]
  ·exact Act.put_comm z _ _ (fun d g f=>e ((Option.some.inj g).trans (Option.some.inj f).symm))) a
theorem zfN{j:Nat}:∀(b:Come)(L:Array Bool),(setC L b).getD j true=false->L.getD j true=false
 | [],_,h=>h
 | x::b,L,h=>by
  have a:=zfN b _ h
  by_cases e:x.1=j
  ·subst e
   rcases Nat.lt_or_ge x.1 L.size with c | c
   ·simp[c]at a
   ·simp[Array.getElem?_eq_none c]at a
  ·rw[getD_set_ne true e]at a
   exact a
theorem zhg{d:Option Tmp}{v:M}:∀(b:Come)(a:Ob),(∀x∈b,d≠Z x.2.1)->(putC a b).put d v=putC (a.put d v) b
 | [],_,_=>rfl
 | x::b,a,h=>by
  refine(zhg b _ fun y f=>h y (mC _ f)).trans ?_
  show putC ((a.put (Z x.2.1) _).put d v) b=putC ((a.put d v).put (Z x.2.1) _) b
  rw[Act.put_comm a _ v (fun q c e=>h x (List.mem_cons_self ..) (e.trans c.symm))]
theorem zei{oi:Oper}{v:M}(f:∀cs b,oi.op ≠ .select cs b):∀(c:Come)(a:Ob),(∀x∈c,x.2.1 ∉ oi.looksAt ops)->YieldsIf P ops S oi v a->YieldsIf P ops S oi v (putC a c)
 | [],_,_,h=>h
 | x::c,a,h1,h=>zei f c _ (fun y g=>h1 y (mC _ g)) (h.of_same (execOp_put oi f a _ _ (fun d e=>by cases e;exact h1 x (List.mem_cons_self ..))) (wanted_put oi a _ _ (fun d e=>by cases e;exact h1 x (List.mem_cons_self ..))))
theorem zkg{j:Nat}:∀(a:Come)(L:Array Bool),L.getD j false=true->(setC L a).getD j false=true
 | [],_,h=>h
 | _::a,_,h=>zkg a _ (getD_set_true h)
theorem znP{af:Nat->Bool}(aT:floatsB md ops (fl.map ftm) late af m=true)(aB:fl≠[])(ak:Region.noSelect ops=true)(hl:∀x∈fl,Lays P ops x.1 x.2.2)(hQ:∀c a d v w,Q (.panic c) a w->Q (.panic c) (a.put d v) w)(az:∀w',Ext w0 w'->S w') :
  ∀(n k:Nat)(iv:List (Nat×Nat))(L:Array Bool)(a:Ob)(w W:O)(g:Come)(rest:List (Nat×Tmp×Obj)),GF P md ops Q S af fl w0 k iv L a w->(∀x∈iv,x.2<=w.heap.size)->Ext w0 w->Ext w W->(g.map came++rest).Perm fl->n=k+rest.length->Cl md ops L->L.size=ops.size ->
   (∀x∈fl,L.getD x.1 true=false)->(∀x∈g,W.heap[x.2.2.2]?=Z x.2.2.1/\w0.heap.size<=x.2.2.2/\Outs x.2.2.2 iv)->(g.map (·.2.2.2)).Nodup->Cl md ops (setC L g)->wpAnyH P md ops Q S n (setC L g) (putC a g) W:=by
 obtain⟨f1,f2,f3,f4,f5⟩:=zdA aT
 have ax:∀(k:Nat)(iv:List (Nat×Nat))(L:Array Bool)(a:Ob)(W:O)(g:Come),FEnd P md ops Q S w0 k iv fl [] L a W->(g.map came).Perm fl->(∀x∈g,W.heap[x.2.2.2]?=Z x.2.2.1/\w0.heap.size<=x.2.2.2/\Outs x.2.2.2 iv)->(g.map (·.2.2.2)).Nodup->wpAnyH P md ops Q S k (setC L g) (putC a g) W:=by
  intro k iv L a W g H hp hb ac;obtain⟨aK,p1,p2⟩:=zjV hp g rfl
  have aR:(g.map (·.2.1)).Nodup:=by
   have:=(hp.map (·.2.1)).nodup_iff.2 f4
   rwa [List.map_map]at this
  rw[zkf p1,zj4 aR p1];refine FEnd.use aK [] L a (by rw[p2];exact H) (fun x l=>hb x (p1.mem_iff.2 l)) ?_
  simpa using (p1.map (·.2.2.2)).nodup_iff.1 ac
 intro n
 induction n with
 | zero =>
  intro k iv L a w W g rest H aj h0 hw hp hn hc am ad hb ac ag;obtain rfl:k=0:=oM
  obtain rfl:rest=[]:=List.eq_nil_of_length_eq_zero oM;rw[List.append_nil]at hp;exact ax 0 iv L a W g (H.2 W hw (h0.trans hw)) hp hb ac
 | succ n ih =>
  intro k iv L a w W g rest H aj h0 hw hp hn hc am ad hb ac ag;have z:∀x∈g,came x∈fl:=fun x l=>hp.mem_iff.1 (List.mem_append_left _ (List.mem_map_of_mem l))
  have av:∀x∈rest,x∈fl:=fun x l=>hp.mem_iff.1 (List.mem_append_right _ l)
  have ah:∀i d,inF fl i=false->(setC L g).getD i d=L.getD i d:=fun i d hi=>zdk g L fun x l=>zft hi (came x) (z x l)
  have ae:((g.map came++rest).map (·.1)).Nodup:=(hp.map (·.1)).nodup_iff.2 f3
  have ao:∀x∈g,∀y∈rest,x.1≠y.1:=fun x l y hy e=>by
   rw[List.map_append,List.nodup_append]at ae;exact ae.2.2 _ (List.mem_map_of_mem (f:=(·.1)) (List.mem_map_of_mem (f:=came) l)) _ (List.mem_map_of_mem (f:=(·.1)) hy) e
  have ay:∀i∈rdy md ops fl L,late i=false:=fun i hi=>by
   obtain⟨u,R⟩:=mem_rdy.1 hi;obtain⟨D,K,q,T⟩:=mem_ready.1 u
   cases hli:late i with
   | false=>rfl
   | true =>
    exfalso
    obtain⟨x,l⟩:=List.exists_mem_of_ne_nil fl aB;obtain⟨g1,ge,g2,g3,g4⟩:=f2 x l;have hg:=f1;unfold gatedE at hg;rw[List.all_eq_true]at hg;have h3:=hg i (List.mem_range.2 (Array.getElem?_eq_some_iff.1 q).1);rw[hli]at h3;simp only[Bool.not_true,Bool.false_or,List.all_eq_true]at h3;have h4:=h3 x.1 (List.mem_range.2 g3);rw[g1,ge]at h4;simp only[Bool.false_or,List.contains_eq_mem,decide_eq_true_eq]at h4;have h5:=zbq hc m i (fun o ho=>by rw[q]at ho;cases ho;exact T) x.1 h4;have h6:=ad x l;have h7:x.1<L.size:=oM
    simp[h7]at h5 h6;rw[h5]at h6
    cases h6
  have aE:∀i∈rdy md ops fl L,i∈Region.ready md ops (setC L g):=fun i hi=>by
   obtain⟨u,R⟩:=mem_rdy.1 hi;obtain⟨D,K,q,T⟩:=mem_ready.1 u;exact mem_ready.2 ⟨by rw[ah i true R];exact D,K,q,fun e he hb=>zkg g L (T e he hb)⟩
  have aQ:∀x∈rest,x.1∈Region.ready md ops (setC L g):=fun x l=>by
   obtain⟨g1,ge,g2,g3,g4⟩:=f2 x (av x l);refine mem_ready.2 ⟨?_,ops[x.1],by simp[g3],fun e he hb=>?_⟩
   ·rw[zdk g L fun y hy=>ao y hy x l]
    exact ad x (av x l)
   ·have:=zhf (md:=md) (ops:=ops) (i:=x.1) (o:=ops[x.1]) (by simp[g3]) he hb
    rw[g2]at this
    cases this
  have aw:∀x∈g,∃p:Oper,ops[x.1]?=Z p/\p.dst=Z x.2.1:=fun x l=>by
   have u:=f2 _ (z x l);have h4:x.1<ops.size:=u.2.2.2.1;have h3:ops[x.1]?=Z (ops[x.1]'h4):=Array.getElem?_eq_getElem h4;refine⟨ops[x.1]'h4,h3,?_⟩;have R:(ops[x.1]?).bind (·.dst)=Z x.2.1:=u.2.2.2.2;rw[h3]at R;exact R
  by_cases hE:rest=[]/\rdy md ops fl L=[]
  ·obtain⟨rfl,R⟩:=hE
   rw[List.append_nil]at hp
   cases k with
   | zero=>exact absurd hn sM
   | succ k =>
    obtain rfl:n=k:=by simp at hn;omega
    rcases H with H|⟨i,K,v,u,h3,_⟩
    ·exact ax _ iv L a W g (H.1 R W hw (h0.trans hw)) hp hb ac
    ·rw[R]at h3;cases h3
  ·have aJ:(k=0\/∃k',k=k'+1/\((rdy md ops fl L=[]->∀W,Ext w W->Ext w0 W->FEnd P md ops Q S w0 (k'+1) iv fl [] L a W)/\(∀i∈rdy md ops fl L,af i=false) /\
   ∀i∈rdy md ops fl L,∀W,Ext w W->Ext w0 W->wpOp P ops Q i (fun a' w'=>ExtI iv w0 W w'/\GF P md ops Q S af fl w0 k' ((W.heap.size,w'.heap.size)::iv) (L.setIfInBounds i true) a' w') a W))\/(∃k',k=k'+1/\∃i K v,ops[i]?=Z K/\i∈rdy md ops fl L/\(∀j oj,ops[j]?=Z oj->j≠i->L.getD j true=false->(∀e∈oj.after,Region.binds md e=true->e.on≠i)->K.apart ops oj=true) /\
   (∀c a w,Q (.panic c) (a.put K.dst v) w->Q (.panic c) a w)/\YieldsIf P ops S K v a/\GF P md ops Q S af fl w0 k' iv (L.setIfInBounds i true) (a.put K.dst v) w):=by
    cases k with
    | zero=>exact .inl (.inl rfl)
    | succ k =>
     rcases H with H|H
     ·exact .inl (.inr ⟨k,rfl,H⟩)
     ·exact .inr ⟨k,rfl,H⟩
   rcases aJ with H2|⟨k,rfl,i,K,v,q,ai,aA,aH,hy,HG⟩
   case inr =>
    obtain⟨_,hF⟩:=mem_rdy.1 ai;have aq:=ay i ai;have aG:=(Array.getElem?_eq_some_iff.1 q).1
    have aF:∀x∈g,K.dst≠Z x.2.1/\x.2.1 ∉ K.looksAt ops:=fun x l=>by
     obtain⟨p,aC,au⟩:=aw x l;obtain⟨q1,q2,q3⟩:=Oper.apart_spec ((f5 i aG aq hF _ (z x l)).2 p K aC q);exact⟨q2 _ au,q1 _ au⟩
    have aa:=ag.step (aE i ai);have e1:(setC L g).setIfInBounds i true=setC (L.setIfInBounds i true) g:=ze2 g L fun x l=>zft hF (came x) (z x l)
    refine wpAnyH_first q (Region.noSelect_spec ak) aH n (setC L g) (putC a g) W (fun j oj hj aB ad aS=>aA j oj hj aB (zfN g L ad) aS) (aE i ai) (zei (fun cs b=>Region.noSelect_spec ak i K cs b q) g a (fun x l=>(aF x l).2) hy) (az W (h0.trans hw)) ?_;rw[e1]at aa ⊢;rw[zhg g a fun x l=>(aF x l).1];refine ih k iv _ _ w W g rest HG aj h0 hw hp oM (hc.step (mem_rdy.1 ai).1) (by simpa using am) (fun x r=>?_) hb ac aa;rw[getD_set_ne true (fun e=>zft hF x r e.symm)];exact ad x r
   have aD:∃e,e∈Region.ready md ops (setC L g)/\late e=false/\af e=false:=by
    by_cases u:rest=[]
    ·have R:rdy md ops fl L≠[]:=fun h=>hE ⟨u,h⟩
     obtain⟨e,he⟩:=List.exists_mem_of_ne_nil _ R
     rcases H2 with rfl|⟨k',rfl,H2⟩
     ·exact absurd H.1 R
     ·exact⟨e,aE e he,ay e he,H2.2.1 e he⟩
    ·obtain⟨x,l⟩:=List.exists_mem_of_ne_nil _ u
     exact⟨x.1,aQ x l,(f2 x (av x l)).1,(f2 x (av x l)).2.1⟩
   obtain⟨e,he,aP,aO⟩:=aD;refine⟨fun hr=>(by rw[hr]at he;cases he),fun i hi=>?_⟩;obtain⟨D,K,q,T⟩:=mem_ready.1 hi;have aq:late i=false:=zfK f1 ag he aP aO hi
   cases hF:inF fl i with
   | true =>
    obtain⟨d,o,ab⟩:=zg0 hF
    have ar:(i,d,o)∈rest:=by
     rcases List.mem_append.1 (hp.mem_iff.2 ab)with u|u
     ·exfalso
      obtain⟨x,l,R⟩:=List.mem_map.1 u;have h3:x.1=i:=by have:=congrArg (·.1) R;exact this
      have h4:=zke (d:=true) g L ⟨x,l,h3⟩ (by rw[am];exact(Array.getElem?_eq_some_iff.1 q).1);rw[h4]at D
      cases D
     ·exact u
    obtain⟨s,t,aU⟩:=List.append_of_mem ar;subst aU;obtain⟨x,aI,r,aV⟩:=hl _ ab;rw[q]at aI
    cases aI
    have hd:K.dst=Z d:=by
     have:=(f2 _ ab).2.2.2.2;unfold fdst at this;rw[q]at this;exact this
    unfold wpOp;rw[q];dsimp only;have an:Region.wanted K (yielded ops (putC a g).tmps)=true:=by unfold Region.wanted;rw[r]
    rw[if_pos an];refine .inl ?_;unfold Oper.wp;rw[aV]
    show S (W.alloc o)/\wpAnyH P md ops Q S n ((setC L g).setIfInBounds i true) ((putC a g).put K.dst _) (W.alloc o)
    refine⟨az _ ((h0.trans hw).alloc o),?_⟩;rw[hd];have e1:(setC L g).setIfInBounds i true=setC L (g++[(i,d,o,W.heap.size)]):=by unfold setC;rw[List.foldl_append];rfl
    have e2:(putC a g).put (Z d) (Od (Z ⟨W.heap.size,0,I⟩))=putC a (g++[(i,d,o,W.heap.size)]):=by unfold putC;rw[List.foldl_append];rfl
    have aa:=ag.step hi;rw[e1]at aa ⊢;rw[e2];refine ih k iv L a w (W.alloc o) (g++[(i,d,o,W.heap.size)]) (s++t) H aj h0 (hw.alloc o) ?_ (by simp at hn ⊢;omega) hc am ad ?_ ?_ aa
    ·refine List.Perm.trans ?_ hp
     rw[List.map_append,List.append_assoc];exact List.Perm.append_left _ (show ((i,d,o)::(s++t)).Perm (s++(i,d,o)::t)from List.perm_middle.symm)
    ·intro x l
     rcases List.mem_append.1 l with l|l
     ·obtain⟨u,R⟩:=hb x l
      exact⟨((eR W).alloc o).heapS u,R⟩
     ·cases List.mem_singleton.1 l
      exact⟨aN W o,(h0.trans hw).size,zjM fun x l=>.inr (nT (aj x l) hw.size)⟩
    ·rw[List.map_append,List.nodup_append]
     refine⟨ac,by simp,fun b aL c aM e=>?_⟩;obtain⟨x,l,rfl⟩:=List.mem_map.1 aL;have u:=zaa (hb x l).1;simp at aM;omega
   | false =>
    have ap:i∈rdy md ops fl L:=mem_rdy.2 ⟨mem_ready.2 ⟨by rw[<-ah i true hF];exact D,K,q,fun e he hb=>by
     have u:=T e he hb
     have R:inF fl e.on=false:=by
      cases h3:inF fl e.on with
      | false=>rfl
      | true =>
       obtain⟨d,o,ab⟩:=zg0 h3;exact absurd (zhf q he hb) (f5 i (Array.getElem?_eq_some_iff.1 q).1 aq hF _ ab).1
     rw[<-ah e.on false R];exact u⟩,hF⟩
    rcases H2 with rfl|⟨k,rfl,H2⟩
    ·rw[H.1]at ap;cases ap
    ·refine wpOp_mono (fun a' w' h'=>?_) (zf0 q (fun cs b=>Region.noSelect_spec ak i K cs b q) hQ g a _ (fun x l=>?_) (H2.2.2 i ap W hw (h0.trans hw)))
     ·obtain⟨a0,rfl,l,hG⟩:=h'
      have e1:(setC L g).setIfInBounds i true=setC (L.setIfInBounds i true) g:=ze2 g L fun x l=>zft hF (came x) (z x l)
      have aa:=ag.step hi;refine⟨az _ l.1,?_⟩;rw[e1]at aa ⊢;refine ih k _ _ a0 w' w' g rest hG (fun x r=>?_) l.1 (eR _) hp oM (hc.step (mem_rdy.1 ap).1) (by simpa using am) (fun x r=>?_) (fun x r=>?_) ac aa
      ·rcases List.mem_cons.1 r with rfl|r
       ·exact nE _
       ·exact nT (aj x r) (nT hw.size l.2.1)
      ·rw[getD_set_ne true (fun e=>zft hF x r e.symm)]
       exact ad x r
      ·obtain⟨u,R,h3⟩:=hb x r
       exact⟨by rw[l.2.2 _ (zaa u) h3];exact u,R,.inl (zaa u),h3⟩
     ·obtain⟨p,aC,au⟩:=aw x l
      exact⟨p,au,(f5 i (Array.getElem?_eq_some_iff.1 q).1 aq hF _ (z x l)).2 _ _ aC q⟩
end
section
variable {P:Program} {ops:Array Oper} {Q:Exit->Ob->O->Prop} {md:Region.Mode} {S:O->Prop} {fl:List (Nat×Tmp×Obj)} {w0:O}
def GFs(P:Program)(md:Region.Mode)(ops:Array Oper)(Q:Exit->Ob->O->Prop)(b:Nat->Bool)(fl:List (Nat×Tmp×Obj))(w0:O)(S:O->Prop)(k:Nat)(c:List (Nat×Nat))(L:Array Bool)(a:Ob)(w:O):Prop:=GF P md ops Q S b fl w0 k c L a w
theorem tf1{d:Nat->Bool}{g:List (Nat×Nat)}{L:List (Og×M)}{v:M}{i:Nat}{oi:Oper}{k:Nat}{b:Array Bool}{a:Ob}{w:O}{G:Prop}(h:G)(f:ops[i]?=Z oi:=by(simp only[gA,gS,gZ];rfl))(r:Region.noSelect ops=true:=by kernel_rfl)(j:Region.free md ops b i=true:=by kernel_rfl)(l:(rdy md ops fl b).contains i=true:=by kernel_rfl)(n:∀c a w,Q (.panic c) (a.put oi.dst v) w->Q (.panic c) a w:=by exact fun _ _ _ h=>h)(p:Region.wanted oi (yielded ops a.tmps)=true:=by rfl)(q:∀w,CellL L w->(execOp a.eval oi).run P w = .ok (.value v) w:=by(intro w e;simp only[CellL,and_true]at e;go_simp;try(with_reducible rfl)))(h6:CellL L w0:=by(with_reducible assumption))(o:GFs P md ops Q d fl w0 (CellL L) k g (b.setIfInBounds i true) (a.put oi.dst v) w=G:=by((try simp only[Act.put,sA,sZ,sS]);rfl)):GFs P md ops Q d fl w0 (CellL L) (k+1) g b a w:=by
 subst o;exact .inr ⟨i,oi,v,f,by simpa using l,Region.free_spec f j,n,Or.inl ⟨p,q⟩,h⟩
theorem cf1{c:Nat->Bool}{f:List (Nat×Nat)}{L:List (Og×M)}{i:Nat}{o:Oper}{k:Nat}{b:Array Bool}{a:Ob}{w:O}(h:∀W,Ext w W->Ext w0 W->CellL L W->∀K':Ob->O->Prop,Shut (∀a w',ExtI f w0 W w'->(ExtI f w0 W w'->CellL L w'->GFs P md ops Q c fl w0 (CellL L) k ((W.heap.size,w'.heap.size)::f) (b.setIfInBounds i true) a w')->K' a w')->if Region.wanted o (yielded ops a.tmps)=true then Oper.wp P o a W K' Q else K' (a.put o.dst undef) W)(h6:CellL L w0:=by(with_reducible assumption))(t:ops[i]?=Z o:=by(simp only[gA,gS,gZ];rfl))(l:rdy md ops fl b=[i]:=by kernel_rfl)(s:c i=false:=by rfl):GFs P md ops Q c fl w0 (CellL L) (k+1) f b a w:=by
 refine .inl ⟨fun p=>absurd (l▸p) sM,fun j e=>?_,fun j e W r d=>?_⟩
 ·rw[l]at e
  cases List.mem_singleton.1 e
  exact s
 rw[l]at e
 cases List.mem_singleton.1 e
 exact wpOp_step t (fun K' q=>h W r d (cE h6 d) K' (fun a w' n g=>q a w' ⟨n,g n (cE h6 n.1)⟩))
theorem df{d:Nat->Bool}{f:List (Nat×Nat)}{L:List (Og×M)}{k:Nat}{b:Array Bool}{a:Ob}{w:O}(e:rdy md ops fl b=[])(h:∀W,Ext w W->Ext w0 W->FEnd P md ops Q (CellL L) w0 k f fl [] b a W):GFs P md ops Q d fl w0 (CellL L) k f b a w:=by
 cases k with
 | zero=>exact⟨e,h⟩
 | succ k=>exact .inl ⟨fun _=>h,fun i c=>(by rw[e]at c;cases c),fun i c=>by rw[e]at c;cases c⟩
theorem zcq{s:Nat}{a:Ob}{w:O}(fl:List (Nat×Tmp×Obj))(L:List (Og×M))(k m:Nat)(late b:Nat->Bool)(q:P.follows .mixedOrders=true)(e:floatsB .any ops (fl.map ftm) late b m=true)(o:ops.size=k+fl.length)(g:fl≠[])(f:Region.noSelect ops=true)(p:∀x∈fl,Lays P ops x.1 x.2.2)
  (n:∀c a d v w,Q (.panic c) a w->Q (.panic c) (a.put d v) w)(i:CellL L w.drew)(h:CellL L w.drew->GFs P .any ops Q b fl w.drew (CellL L) k [] (Array.replicate ops.size false) a w.drew):(Code.region s ops true).wp P Q a w:=by
 obtain⟨_,j,_,_,_⟩:=zdA e;have l:=znP (w0:=w.drew) (S:=CellL L) e g f p n (fun _ h=>cE i h) ops.size k [] (Array.replicate ops.size false) a w.drew w.drew [] fl (h i) sM (eR _) (eR _) sM o (Cl.start _) sM (fun x r=>by simp[(j x r).2.2.2.1]) sM sM (Cl.start _);exact wp_region_any q (wpAny_of_held _ _ _ _ l)
end
end
end Go.Proofs.YtjnjpagegkcgfaaGreatDoor.Cop
