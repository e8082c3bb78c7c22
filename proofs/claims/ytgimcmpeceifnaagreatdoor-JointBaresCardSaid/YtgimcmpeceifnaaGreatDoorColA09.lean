import Derived.Test.YtgimcmpeceifnaaGreatDoorColA08
import Derived.Sort.OwnSortedInts
set_option maxRecDepth 1000000
set_option maxHeartbeats 16000000
set_option linter.all false
open Go.Value renaming slice->O,int->Oa,bool->Od,agg->Oe,pointer->Og,tuple->Oi
open Go renaming World->Z,Value->Ob,Act->Of,Addr->Oh
open Option renaming none->I,some->M
open Go.IntKind renaming i64->U
open Go.Obj renaming cells->Oc
namespace Go.Proofs.YtgimcmpeceifnaaGreatDoor.Cop
section
open Go.RowKit Go.Shelf
attribute [local go_sem] Oper.semAt_some
abbrev ll:=(Int×Int)×(Int×Int)
def rW(l:LP):List ll:=l.zip l.tail
def Sm(e:ll):Array Ob:=#[Oe #[Oa U e.1.1,Oa U e.1.2],Oe #[Oa U e.2.1,Oa U e.2.2]]
def zC(l:LP):(rW l).length=l.length-1:=by simp[rW]
def Ex{l:LP}{j:Nat}{p q:Int×Int}(a:l[j]?=M p)(c:l[j+1]?=M q):(rW l)[j]?=M (p,q):=by unfold rW;rw[List.getElem?_zip_eq_some];exact⟨a,by rw[List.getElem?_tail];exact c⟩
def nF(w:Z)(sl:Option Oh)(n c:Nat):Calls Tryz.prog 224 #[O sl n c] w fun e f=>e=.returned (.func (.func 263) #[] #[Og (M ⟨w.heap.size,0,I⟩)])/\w.alloc (Oc #[O sl n c] 146)=f:=by have d:∀(a:Fn)(first cap:Array Ob)(w:Z),(Instr.makeFunc a first cap).run Tryz.prog w = .ok (.func a first cap) w:=fun _ _ _ _=>rfl;go_in;go_wp2;go_ret;exact⟨rfl,rfl⟩
def TB{F:Fence}{m:Nat}{P:Program}{l:Nat}{a:FuncId}{tmps:Array Ob}{assign body:Code}{W:Z}{A B:Z->Prop}(h:RoundIn F m P l a tmps assign body W fun e W'=>(e=.returned (Od true)/\A W')\/(e=.returned (Od false)/\B W')):RoundIn F m P l a tmps assign body W fun e W'=>∃b:Bool,e=.returned (Od b)/\(b=true->A W')/\(b=false->B W'):=
 h.mono fun e W' h=>by
  rcases h with ⟨rfl,h⟩|⟨rfl,h⟩
  ·exact⟨true,rfl,fun _=>h,fun h=>nomatch h⟩
  ·exact⟨false,rfl,fun h=>(nomatch h),fun _=>h⟩
def sP{β:Type}(f:β->ll)(n:Nat)(hn:1<=n)(l g:Nat)(w w0:Z)(sl:Ob)(ps:LP)(d:List β)(u:d.map f=rW ps)(J Jx:List β->Z->Prop)(hY:∀pre x W,J pre W->pre.length<d.length->YieldAt Fence.wide (n-1) Tryz.prog l (Sm (f x)) W fun e W' =>
   (e=.returned (Od true)/\J (pre++[x]) W'/\ze w g W W')\/(e=.returned (Od false)/\Jx (pre++[x]) W'))
  (ab:∀pre W,J pre W->J pre W.drew)(k:w0.cell? ⟨g,0,I⟩=M sl)(ad:g<w0.heap.size)(hi:Ja w sl ps)(hw:Ba w w0)(W:Z)(hW:ze w g w0 W)(h0:J [] W) :
  CallsIn Fence.wide n Tryz.prog 263 #[.func (.yield l) #[] #[],Og (M ⟨g,0,I⟩)] W fun e W'=>(∃v,e=.returned v)/\
   ((∃ys,ys=d/\J ys W')\/(∃pre,pre <+: d/\Jx pre W')):=by
 obtain⟨a,c,rfl⟩:=hi.form;have p:=hi.le;obtain⟨m,R⟩:=gX ps.length;rw[R]at hi k p;have i:d.length=m-1:=by have:=congrArg List.length u;rw[lL,zC,R]at this;exact this
 rw[i]at hY;unfold maxLen at p;have aj:m<=9223372036854775807:=oM;have Hm:=Aa R;clear R p;have af:W.cell? ⟨g,0,I⟩=M (O a m c):=(World.cell?_of_block hW.2).trans k;refine callsIn_of_wp Tryz.func263 rfl trivial ?_ rfl;simp only[Tryz.ntmps263,List.size_toArray,List.length_cons,List.length_nil,Nat.reduceAdd,Nat.reduceSub,Array.replicate_succ,Array.replicate_zero,List.push_toArray,List.append_toArray,List.nil_append,List.cons_append]
 gi_wp2
 gi_loopw [3] (fun t3 wr=>∃j:Nat,j<=m/\t3=Oa U ((j+1:Nat):Int)/\J (d.take j) wr/\ze w g w0 wr)
  (fun t3 _=>(m+1-intOf t3).toNat)
 case atStart=>exact⟨0,by omega,rfl,by simpa using h0,hW⟩
 case round =>
  obtain⟨j,hj,rfl,hJ,s⟩:=hrel;have ag:wr.cell? ⟨g,0,I⟩=M (O a m c):=(World.cell?_of_block s.2).trans k;by_cases ai:j+1<m
  ·obtain⟨⟨x,z⟩,hp⟩:∃q,ps[j]?=M q:=⟨ps[j]'(by rw[Hm.o];omega),by simp⟩;obtain⟨⟨x',z'⟩,hq⟩:∃q,ps[j+1]?=M q:=⟨ps[j+1]'(by rw[Hm.o];omega),by simp⟩;have he:=Ex hp hq;obtain⟨y,r⟩:∃y,d[j]?=M y:=⟨d[j]'(by rw[i];omega),by simp⟩;have K:f y=((x,z),(x',z')):=by
    rw[<-u,lP,r]at he;exact Option.some.inj he
   obtain⟨b,o,rfl,hb,d0,d1⟩:=(hi.f (hw.D s.1 (nE _))).at' hp;obtain⟨b',o',e',ah,d2,d3⟩:=(hi.f (hw.D s.1 (nE _))).at' hq;cases e';obtain⟨fn,tmps,assign,body,hy,hR⟩:=hY _ y wr.drew (ab _ _ hJ) (by rw[List.length_take,i];omega);have L:d.take j++[y]=d.take (j+1):=(Ce _ _ _ r).symm;rw[L]at hR;have t:=TB hR;have HR:=Aa t;have u1:((j+1:Nat):Int)-1=(j:Int):=oM;have u2:IntKind.i64.wrap ((j:Int)+1-1)=(j:Int):=by rw[show (j:Int)+1-1=j by omega];exact iW _ ⟨by omega,by omega⟩
   have u6:IntKind.i64.wrap (j:Int)=(j:Int):=iW _ ⟨by omega,by omega⟩;have u3:(0:Int)<=(j:Int)+1:=oM;have u4:(j:Int)+1<(m:Int):=oM;have u5:((j:Int)+1).toNat=j+1:=oM;have p1:(0:Int)<=(j:Int):=oM;have p2:(j:Int)<(m:Int):=oM;have p3:((j+1:Nat):Int)<(m:Int):=oM;rw[K]at hy;clear hR t L hp hq he r K;unfold Sm at hy;dsimp only at hy
   gi_wp2
   gi_region_with ((with_reducible refine RoundIn.mono HR.o ?_);rintro e W3 ⟨bb,rfl,hA,hB⟩)
   all_goals
    cases bb
    ·have ac:=hB rfl;clear hA hB
     gi_wp2
     refine bR (results_none rfl _ _ _) rfl ?_;exact⟨⟨_,rfl⟩,.inr ⟨_,⟨d.drop (j+1),List.take_append_drop _ _⟩,ac⟩⟩
    ·obtain⟨aa,ae⟩:=hA rfl;clear hA hB
     gi_wp2
     go_roundw
     case rel=>exact⟨j+1,by omega,by go_num,aa,s.trans ((ze.refl w g wr).ext ((eR wr).drew) (hw.D s.1 (nE _)).size (Nat.lt_of_lt_of_le ad s.1.size) |>.trans ae)⟩
     case measure=>simp[intOf];omega
  ·have e:d.take j=d:=lT (by rw[i];omega);rw[e]at hJ;have p3:¬((j+1:Nat):Int)<(m:Int):=oM;clear e
   gi_wp2
   go_end0
   exact⟨⟨_,rfl⟩,.inl hJ⟩
def kG{β:Type}(f:β->ll)(n:Nat)(s:1<=n)(a:Nat)(w w0:Z)(sl:Ob)(ps:LP)(c:List β)(i:c.map f=rW ps)(g:w0.cell? ⟨a,0,I⟩=M sl)(d:a<w0.heap.size)(hi:Ja w sl ps)(j:Ba w w0):SeqStopsK Fence.wide n Tryz.prog 263 #[Og (M ⟨a,0,I⟩)] (fun x=>Sm (f x)) (ze w a) (fun t=>t=c) (fun pre=>pre <+: c) c.length w0:=
 fun l J k W p hJ _ q o=>sP f n s l a w w0 sl ps c i J k q (fun pre W' h=>hJ _ _ _ I h ⟨rfl,rfl,rfl,nE _,fun _ _ _=>rfl⟩ (fun r e=>by cases e)) g d hi j W ((ze.refl w a w0).ext p j.size d) o
section
variable {P:Program} {ops:Array Oper} {Q:Exit->Of->Z->Prop} {md:Region.Mode} {S:Z->Prop}
def Aq(P:Program)(md:Region.Mode)(ops:Array Oper)(Q:Exit->Of->Z->Prop)(S:Z->Prop)(fuel:Nat)(d:Array Bool)(a:Of)(w:Z)(i:Nat)(oi:Oper):Prop:=
 ∃v,Region.noSelect ops=true/\Region.free md ops d i=true/\(Region.ready md ops d).contains i=true/\(∀c a w,Q (.panic c) (a.put oi.dst v) w->Q (.panic c) a w)/\YieldsIf P ops S oi v a/\S w/\
  wpAnyH P md ops Q S fuel (d.setIfInBounds i true) (a.put oi.dst v) w
def ud{i:Nat}{oi:Oper}{fuel:Nat}{c:Array Bool}{a:Of}{w:Z}(hi:ops[i]?=M oi)(h:Aq P md ops Q S fuel c a w i oi):wpAnyH P md ops Q S (fuel+1) c a w:=by obtain⟨v,d,e,f,g,j,h6,k⟩:=h;exact wpAnyH_take hi d e f g j h6 k
def Fq(P:Program)(md:Region.Mode)(ops:Array Oper)(Q:Exit->Of->Z->Prop)(S:Z->Prop)(fuel:Nat)(c:Array Bool)(a:Of)(w:Z)(i:Nat)(o:Oper):Prop:=
 Region.ready md ops c=[i]/\∀K':Of->Z->Prop,Shut (∀a w,S w->(S w->wpAnyH P md ops Q S fuel (c.setIfInBounds i true) a w)->K' a w)->if Region.wanted o (yielded ops a.tmps)=true then Oper.wp P o a w K' Q else K' (a.put o.dst undef) w
def St{i:Nat}{o:Oper}{fuel:Nat}{c:Array Bool}{a:Of}{w:Z}(hi:ops[i]?=M o)(h:Fq P md ops Q S fuel c a w i o):wpAnyH P md ops Q S (fuel+1) c a w:=
 wpAnyH_ready h.1 sM (AllReadyH.cons hi h.2 AllReadyH.nil)
def Qa{v:Ob}{i:Nat}{oi:Oper}{fuel:Nat}{d:Array Bool}{a:Of}{w:Z}{G:Prop}(h:G)(hi:ops[i]?=M oi:=by(simp only[gA,gS,gZ];rfl))(f:Region.noSelect ops=true:=by kernel_rfl)(g:Region.free md ops d i=true:=by kernel_rfl)(j:(Region.ready md ops d).contains i=true:=by kernel_rfl)(h4:∀c a w,Q (.panic c) (a.put oi.dst v) w->Q (.panic c) a w:=by exact fun _ _ _ h=>h)(l:Region.wanted oi (yielded ops a.tmps)=true:=by rfl)(o:∀w,S w->(execOp a.eval oi).run P w = .ok (.value v) w:=by(intro w e;simp only[Ea,and_true]at e;go_simp;try(with_reducible rfl)))(h6:S w:=by(with_reducible assumption))(k:wpAnyH P md ops Q S fuel (d.setIfInBounds i true) (a.put oi.dst v) w=G:=by((try simp only[Act.put,sA,sZ,sS]);rfl)):wpAnyH P md ops Q S (fuel+1) d a w:=by subst k;exact ud hi ⟨v,f,g,j,h4,Or.inl ⟨l,o⟩,h6,h⟩
def Sa{i:Nat}{oi:Oper}{fuel:Nat}{d:Array Bool}{a:Of}{w:Z}{G:Prop}(h:G)(hi:ops[i]?=M oi:=by(simp only[gA,gS,gZ];rfl))(e:Region.noSelect ops=true:=by kernel_rfl)(f:Region.free md ops d i=true:=by kernel_rfl)(g:(Region.ready md ops d).contains i=true:=by kernel_rfl)(h4:∀c a w,Q (.panic c) (a.put oi.dst undef) w->Q (.panic c) a w:=by exact fun _ _ _ h=>h)(k:Region.wanted oi (yielded ops a.tmps)=false:=by rfl)  (h6:S w:=by(with_reducible assumption))(j:wpAnyH P md ops Q S fuel (d.setIfInBounds i true) (a.put oi.dst undef) w=G:=by((try simp only[Act.put,sA,sZ,sS]);rfl)):wpAnyH P md ops Q S (fuel+1) d a w:=by subst j;exact ud hi ⟨undef,e,f,g,h4,Or.inr ⟨k,rfl⟩,h6,h⟩
def ub{v:Ob}{i:Nat}{oi:Oper}{fuel:Nat}{d:Array Bool}{a:Of}{w:Z}{G:Prop}(h:G)(hi:ops[i]?=M oi:=by(simp only[gA,gS,gZ];rfl))(f:Region.noSelect ops=true:=by kernel_rfl)(g:Region.free md ops d i=true:=by kernel_rfl)(j:(Region.ready md ops d).contains i=true:=by kernel_rfl)(h4:∀c a w,Q (.panic c) (a.put oi.dst v) w->Q (.panic c) a w:=by exact fun _ _ _ h=>h)(l:Region.wanted oi (yielded ops a.tmps)=true:=by rfl)(o:∀w,S w->(execOp a.eval oi).run P w = .ok (.value v) w:=by(intro w e;simp only[Ea,and_true]at e;go_simp;try(with_reducible rfl)))(h6:S w:=by(with_reducible assumption))(k:Vl (i+1) (wpAnyH P md ops Q S fuel (d.setIfInBounds i true) (a.put oi.dst v) w)=G:=by((try simp only[Act.put,sA,sZ,sS,Nat.reduceAdd]);rfl)):Vl i (wpAnyH P md ops Q S (fuel+1) d a w):=by subst k;exact ud hi ⟨v,f,g,j,h4,Or.inl ⟨l,o⟩,h6,h⟩
def Te{i:Nat}{oi:Oper}{fuel:Nat}{d:Array Bool}{a:Of}{w:Z}{G:Prop}(h:G)(hi:ops[i]?=M oi:=by(simp only[gA,gS,gZ];rfl))(e:Region.noSelect ops=true:=by kernel_rfl)(f:Region.free md ops d i=true:=by kernel_rfl)(g:(Region.ready md ops d).contains i=true:=by kernel_rfl)(h4:∀c a w,Q (.panic c) (a.put oi.dst undef) w->Q (.panic c) a w:=by exact fun _ _ _ h=>h)(k:Region.wanted oi (yielded ops a.tmps)=false:=by rfl)  (h6:S w:=by(with_reducible assumption))(j:Vl (i+1) (wpAnyH P md ops Q S fuel (d.setIfInBounds i true) (a.put oi.dst undef) w)=G:=by((try simp only[Act.put,sA,sZ,sS,Nat.reduceAdd]);rfl)):Vl i (wpAnyH P md ops Q S (fuel+1) d a w):=by subst j;exact ud hi ⟨undef,e,f,g,h4,Or.inr ⟨k,rfl⟩,h6,h⟩
def ye{i:Nat}{o:Oper}{fuel:Nat}{c:Array Bool}{a:Of}{w:Z}(h:∀K':Of->Z->Prop,Shut (∀a w,S w->(S w->wpAnyH P md ops Q S fuel (c.setIfInBounds i true) a w)->K' a w)->if Region.wanted o (yielded ops a.tmps)=true then Oper.wp P o a w K' Q else K' (a.put o.dst undef) w)(hi:ops[i]?=M o:=by(simp only[gA,gS,gZ];rfl))(d:Region.ready md ops c=[i]:=by kernel_rfl):wpAnyH P md ops Q S (fuel+1) c a w:=St hi ⟨d,h⟩
def kO{K:Of->Z->Prop}{A:Z->Prop}{X:Of->Z->Prop}(e:Shut (∀a w,A w->(A w->X a w)->K a w)){a:Of}{w:Z}{G:Prop}(c:A w)(h:A w->G)(d:X a w=G:=by((try simp only[Act.put,sA,sZ,sS]);rfl)):K a w:=by subst d;exact Shut.out e _ _ c h
def mc{f:FuncId}{args:Array Ob}{Y:Ending->Z->Prop}{G:Ob->Z->Prop}{i:Nat}{o:Oper}{fuel:Nat}{c:Array Bool}{a:Of}{w:Z}(l:Calls P f args w Y)(h:∀e w',Y e w'->∃v,e=.returned v/\S w'/\(S w'->G v w'))(hi:ops[i]?=M o:=by(simp only[gA,gS,gZ];rfl))(q:Region.ready md ops c=[i]:=by kernel_rfl)(r:Region.wanted o (yielded ops a.tmps)=true:=by rfl)(s:(execOp a.eval o).run P w = .ok (.enter f args) w:=by(go_simp;try(with_reducible rfl)))(g:∀v w',wpAnyH P md ops Q S fuel (c.setIfInBounds i true) (a.put o.dst v) w'=G v w':=by(intro v w';(try simp only[Act.put,sA,sZ,sS]);rfl)):wpAnyH P md ops Q S (fuel+1) c a w:=by refine ye (i:=i) (fun K j=>?_) hi q;rw[if_pos r];unfold Oper.wp;rw[s,Oper.upon_enter];refine l.mono fun e w' t=>?_;obtain⟨v,rfl,k,p⟩:=h e w' t;exact Shut.out j _ _ k (fun d=>by rw[g];exact p d)
def Tb{fuel:Nat}{c:Array Bool}{a:Of}{w:Z}(h:Q .normal a w)(d:Region.ready md ops c=[]:=by kernel_rfl):wpAnyH P md ops Q S fuel c a w:=wpAnyH_done d h _
variable {P:Program} {ops:Array Oper} {Q:Exit->Of->Z->Prop} {md:Region.Mode} {S:Z->Prop}
def nn{i j:Nat}{oi d:Oper}{fuel:Nat}{c:Array Bool}{a:Of}{w:Z}(e:∀K':Of->Z->Prop,Shut (∀a w,S w->(S w->wpAnyH P md ops Q S fuel (c.setIfInBounds i true) a w)->K' a w)->if Region.wanted oi (yielded ops a.tmps)=true then Oper.wp P oi a w K' Q else K' (a.put oi.dst undef) w)(f:∀K':Of->Z->Prop,Shut (∀a w,S w->(S w->wpAnyH P md ops Q S fuel (c.setIfInBounds j true) a w)->K' a w)->if Region.wanted d (yielded ops a.tmps)=true then Oper.wp P d a w K' Q else K' (a.put d.dst undef) w)(hi:ops[i]?=M oi:=by(simp only[gA,gS,gZ];rfl))(g:ops[j]?=M d:=by(simp only[gA,gS,gZ];rfl))(k:Region.ready md ops c=[i,j]:=by kernel_rfl) :
  wpAnyH P md ops Q S (fuel+1) c a w:=
 wpAnyH_ready k sM (AllReadyH.cons hi e (AllReadyH.cons g f AllReadyH.nil))
end
def Aj(x:Rat)(e:ll):Bool:=decide (jd x ((e.2.1:Int):Rat)<=0)
def uq(x:Rat)(e:ll):Rat:=((e.1.2:Int):Rat)+((x-((e.1.1:Int):Rat))*((e.2.2-e.1.2:Int):Rat))/((e.2.1-e.1.1:Int):Rat)
def Lh(ps:LP)(x:Rat):Rat:=match (rW ps).find? (Aj x)with|some e=>uq x e|none=>(((ps.getD (ps.length-1) (0,0)).2:Int):Rat)
def RB.sim{B:Nat}{W W':Z}{b:Nat}{q:Rat}(h:RB W b q)(k:jk B W W'):RB W' b q:=by obtain⟨a,m,c,s,d,i,e,f,g⟩:=h;exact⟨a,m,c,s,d,i,e,k.heap f,g.keep (k.keep _)⟩
def Bi{k n:Int}(h:Bd k n)(a:k<=1000000:=by decide):Rb 1 (n:Rat):=Rb.int (by unfold Lm B;unfold Bd at h;simp;omega) (nE _)
def Pw{k:Int}{ps:LP}(h:Zf k ps){e:ll}(f:e∈rW ps):Bd k e.1.1/\Bd k e.1.2/\Bd k e.2.1/\Bd k e.2.2:=by obtain⟨p,q⟩:=e;have a:=List.of_mem_zip f;have c:=h p a.1;have d:=h q (List.mem_of_mem_tail a.2);exact⟨c.1,c.2,d.1,d.2⟩
abbrev BE:={ e:ll // Bd 104000 e.1.1/\Bd 104000 e.1.2/\Bd 104000 e.2.1/\Bd 104000 e.2.2 }
def TV(w:Z)(x:Rat)(pre:List BE)(W:Z):Prop:=
 Ba w W/\w.heap.size+1+1+1<=W.heap.size/\RB W w.heap.size x/\RB W (w.heap.size+1) 0/\∀e∈pre,Aj x e.1=false
def SV(w:Z)(x:Rat)(c:Code)(pre:List BE)(W:Z):Prop:=
 c = .ret/\Ba w W/\w.heap.size+1+1+1<=W.heap.size/\∃(a:List BE)(e:BE),pre=a++[e]/\(∀e∈a,Aj x e.1=false)/\Aj x e.1=true/\RB W (w.heap.size+1) (uq x e.1)
def yj(s B:Nat)(j:Option Oh)(l k:Nat)(o:Bool)(a:Option Oh)(d c:Nat)(e f g i:Int)(W:Z):Prop:=
 W.cell? ⟨s,0,I⟩=M (O j l k)/\W.cell? ⟨s,1,I⟩=M (Od o)/\W.cell? ⟨s,2,I⟩=M (O a d c)/\W.cell? ⟨B,0,I⟩=M (Oa U e)/\W.cell? ⟨B,1,I⟩=M (Oa U f)/\W.cell? ⟨B+1,0,I⟩=M (Oa U g)/\W.cell? ⟨B+1,1,I⟩=M (Oa U i)
def yj.ext{s B:Nat}{j:Option Oh}{o l:Nat}{p:Bool}{a:Option Oh}{d c:Nat}{e f g i:Int}{W W':Z}(h:yj s B j o l p a d c e f g i W)(k:Ba W W'):yj s B j o l p a d c e f g i W':=by obtain⟨q,r,t,u,v,w,h6⟩:=h;exact⟨k.d q,k.d r,k.d t,k.d u,k.d v,k.d w,k.d h6⟩
def Xw{W:Z}{D:Nat}(a:W.heap[D]?=M (.deferred (M [])))(o:Obj):jk D W (W.putObj D o):=
 jk.of_grown (grownBy_putObj' W D o) (Nat.le_of_lt (Ya a)) (fun r e=>by cases e;exact⟨nE _,_,a,rfl⟩)
def yj.set{s B:Nat}{j:Option Oh}{l k:Nat}{o:Bool}{a:Option Oh}{d c:Nat}{e f g i:Int}{W:Z}(h:yj s B j l k o a d c e f g i W){p:Oh}(z:p.block≠s)(K:p.block≠B)(L:p.block≠B+1)(u:Ob):yj s B j l k o a d c e f g i (W.setCell p u):=by obtain⟨q,r,t,v,w,x,y⟩:=h;refine⟨?_,?_,?_,?_,?_,?_,?_⟩<;>(rw[World.cell?_setCell_far _ _ _ _ dO];assumption)
def Ro{B:Nat}{W W':Z}(h:Ba W W'):KeepsFrom B W W':=⟨h.size,fun _ _ _ a _=>h.e a⟩
def sO{β:Type}{f:β->Bool}{a pre:List β}{e:β}(g:pre++[e] <+: a)(d:∀x∈pre,f x=false)(c:f e=true):a.find? f=M e:=by
 obtain⟨t,rfl⟩:=g;rw[List.append_assoc,List.find?_append];have:pre.find? f=I:=by
  rw[List.find?_eq_none];intro x i;simp[d x i]
 rw[this];simp[c]
def GK{ps:LP}{x:Rat}{c:List BE}(a:c.map (fun e=>e.1)=rW ps){pre:List BE}{e:BE}(i:pre++[e] <+: c)(g:∀e∈pre,Aj x e.1=false)(d:Aj x e.1=true):Lh ps x=uq x e.1:=by unfold Lh;rw[<-a,List.find?_map,sO (f:=Aj x ∘ fun e:BE=>e.1) i g d];rfl
def YM{ps:LP}{x:Rat}{c:List BE}(a:c.map (fun e=>e.1)=rW ps)(f:∀e∈c,Aj x e.1=false){q:Int×Int}(g:ps[ps.length-1]?=M q):Lh ps x=((q.2:Int):Rat):=by
 unfold Lh;have:(rW ps).find? (Aj x)=I:=by
  rw[<-a,List.find?_eq_none];intro y i;obtain⟨e,d,rfl⟩:=List.mem_map.1 i;simp[f e d]
 rw[this,gD,g];rfl
def xx(w:Z)(v vx:Ob)(ps:LP)(x:Rat)(h:Ja w v ps)(aL:je ps)(hx:Cb w vx x)(hb:Rb 1000 x):Calls Tryz.prog 186 #[v,vx] w (Uf w (Lh ps x)):=by
 obtain⟨a,c,rfl⟩:=h.form;obtain⟨xa,xm,xc,xs,bh,bj,bi,rfl⟩:=hx.form;have Hb:=Aa hb;have aX:=Aa aL;obtain⟨n,hn⟩:=gX ps.length;rw[hn]at h ⊢;have Hn:=Aa hn;obtain⟨es,a7⟩:∃es:List BE,es.map (fun e=>e.1)=rW ps:=⟨(rW ps).attachWith _ (fun e he=>Pw aL.2.1 he),At _⟩;have aW:=Aa a7;clear hb aL hn;refine(callsIn_wide (n:=5)).1 ?_;refine callsIn_of_wp_marks Tryz.func186 rfl trivial ?_ rfl;simp only[Tryz.ntmps186,List.size_toArray,List.length_cons,List.length_nil,Nat.reduceAdd,Nat.reduceSub,Array.replicate_succ,Array.replicate_zero,List.push_toArray,List.append_toArray,List.nil_append,List.cons_append]
 gi_wp2_with(refine⟨trivial,?_⟩;gi_at_call 224;refine(callsIn_wide.2 (nF _ _ _ _)).mono ?_;rintro e w' ⟨rfl,rfl⟩)
 obtain⟨W0,aa⟩:=gX ((((w.alloc (Oc #[O xa xm xc,Od xs,O bh bj bi] 181)).alloc (Oc #[O I 0 0,Od false,O I 0 0] 181)).alloc (Oc #[O a n c] 146)));have bc:Ba w W0:=by rw[<-aa];exact(((eR w).alloc _).alloc _).alloc _
 have c0:W0.heap.size=w.heap.size+1+1+1:=by rw[<-aa];simp
 have cb:W0.cell? ⟨w.heap.size+1+1,0,I⟩=M (O a n c):=by rw[<-aa,World.cell?_alloc_at _ _ _ _ sM];rfl
 have b7:RB W0 w.heap.size x:=by rw[<-aa];exact(RB.new hx rfl).ext (((eR _).alloc _).alloc _)
 have b8:RB W0 (w.heap.size+1) 0:=by rw[<-aa];exact(RB.new (Cb.zero _) sM).ext ((eR _).alloc _)
 rw[aa];have cP:=Aa aa;clear aa;refine wpIn_rangeFunc_ownH rfl dM (gf:=263) (lb:=#[Og (M ⟨w.heap.size+1+1,0,I⟩)]) rfl trivial (enters_of Tryz.func263 kM rfl)
  (kG (fun e:BE=>e.1) _ dM (w.heap.size+1+1) w _ _ ps es a7 cb oM h bc) ze.trans (ze.put oM oM) (Below.refl _ _) (fun _=>rfl)
  (TV w x) (SV w x) (Ql (fun s W h=>by have:=h.2.1;omega) (fun s W W' h k=>?hsim)) (fun c=>Ql (fun s W h=>by have:=h.2.2.1;omega) (fun s W W' h k=>?hsimx)) ?h0
  (fun(e:BE) a' W=>∃B,w.heap.size+1+1+1<=B/\W.heap[B]?=M (Oc #[Oa U e.1.1.1,Oa U e.1.1.2] 91 (0,0))/\W.heap[B+1]?=M (Oc #[Oa U e.1.2.1,Oa U e.1.2.2] 91 (0,0))/\
   a'={ tmps:=#[O a n c,Oe #[O xa xm xc,Od xs,O bh bj bi],undef,Og (M ⟨w.heap.size,0,I⟩),Og (M ⟨w.heap.size+1,0,I⟩),Og (M ⟨B,0,I⟩),Og (M ⟨B+1,0,I⟩),O a n c,.func (.func 263) #[] #[Og (M ⟨w.heap.size+1+1,0,I⟩)],Oe #[Oa U e.1.1.1,Oa U e.1.1.2],Oe #[Oa U e.1.2.1,Oa U e.1.2.2],undef,undef,undef,undef,undef,undef,undef,undef,undef,undef,undef,undef,undef,undef,undef,undef,undef,undef,undef,undef,undef,undef,undef,undef,undef,undef,undef,undef,undef,undef,undef,undef,undef,undef,undef,undef,undef],defers:=[] })
  (fun e a'=>Ql (fun s W h=>?hAs) (fun s W W' h k=>?hAk)) ?assign ?body ?done ?stop
 case hsim =>
  obtain⟨L,h2,h3,h4,h5⟩:=h;exact⟨k.ext L oM,nT h2 k.size,h3.sim k,h4.sim k,h5⟩
 case hsimx =>
  obtain⟨h0,L,h2,p',e,h3,h4,h5,h6⟩:=h;exact⟨h0,k.ext L oM,nT h2 k.size,p',e,h3,h4,h5,h6.sim k⟩
 case h0=>exact⟨bc,by omega,b7,b8,fun e he=>by cases he⟩
 case hAs =>
  obtain⟨B,L,h2,h3,_⟩:=h;have:=Ya h2;omega
 case hAk =>
  obtain⟨B,L,h2,h3,h4⟩:=h;exact⟨B,L,k.heap h2,k.heap h3,h4⟩
 case assign =>
  rintro l pre e W K ⟨L,h2,h3,h4,h5⟩ hK;unfold Sm
  gi_wp2
  refine hK _ _ (((KeepsOthers.alloc _ _).trans (KeepsOthers.alloc _ _)).from _) (((ze.refl _ _ W).ext (((eR W).alloc _).alloc _) L.size oM)) ⟨(L.alloc _).alloc _,by simp;omega,h3.ext (((eR W).alloc _).alloc _),h4.ext (((eR W).alloc _).alloc _),h5⟩ ⟨W.heap.size,h2,?_,?_,rfl⟩
  ·rw[ig,if_neg sM];exact kc _ _ _ rfl
  ·exact kc _ _ _ sM
 case body =>
  rintro l pre e a' W hl ⟨r,hr⟩ ⟨L,h2,h3,h4,h5⟩ ⟨B,hB,q1,q2,rfl⟩ cW;obtain⟨⟨⟨g,j⟩,y,bz⟩,aq⟩:=e;dsimp only at q1 q2 aq ⊢;obtain⟨ya,ym,yc,ys,ab,ad,ac,r0,r1,r2,_,_,_,zr,bg⟩:=h3.rd;have e0:=Da q1 (i:=0) (u:=Oa U g) rfl;have e1:=Da q1 (i:=1) (u:=Oa U j) rfl;have e2:=Da q2 (i:=0) (u:=Oa U y) rfl;have e3:=Da q2 (i:=1) (u:=Oa U bz) rfl;have z1:=Ya q1;have z2:=Ya q2
  gi_wp2
  have aJ:yj w.heap.size B ya ym yc ys ab ad ac g j y bz W:=⟨r0,r1,r2,e0,e1,e2,e3⟩;have bf:Cb W.drew (Oe #[O ya ym yc,Od ys,O ab ad ac]) x:=bg.ext (eR W).drew;have bt:=Aa aJ;refine Tp (S:=yj w.heap.size B ya ym yc ys ab ad ac g j y bz) kM kM (aJ.ext (eR W).drew) (fun f=>?_);clear r0 r1 r2 e0 e1 e2 e3 aJ;refine ud (i:=0) (oi:=?oix1) ?hix1 ?hx1
  case hix1=>(simp only[gA,gS,gZ];rfl)
  refine⟨?_,by kernel_rfl,by kernel_rfl,by kernel_rfl,fun _ _ _ h=>h,Or.inl ⟨by rfl,?_⟩,by assumption,?_⟩;rotate_left 1
  ·(intro w d;rcases d with ⟨R,s1,p,t,s4,s5,s6⟩;go_simp;try(with_reducible rfl))
  (try simp only[Act.put,sA,sZ,sS]);refine ud (i:=1) (oi:=?oix2) ?hix2 ?hx2
  case hix2=>(simp only[gA,gS,gZ];rfl)
  refine⟨?_,by kernel_rfl,by kernel_rfl,by kernel_rfl,fun _ _ _ h=>h,Or.inl ⟨by rfl,?_⟩,by assumption,?_⟩;rotate_left 1
  ·(intro w d;rcases d with ⟨R,s1,p,t,s4,s5,s6⟩;go_simp;try(with_reducible rfl))
  (try simp only[Act.put,sA,sZ,sS]);refine ud (i:=2) (oi:=?oix3) ?hix3 ?hx3
  case hix3=>(simp only[gA,gS,gZ];rfl)
  refine⟨?_,by kernel_rfl,by kernel_rfl,by kernel_rfl,fun _ _ _ h=>h,Or.inl ⟨by rfl,?_⟩,by assumption,?_⟩;rotate_left 1
  ·(intro w d;rcases d with ⟨R,s1,p,t,s4,s5,s6⟩;go_simp;try(with_reducible rfl))
  (try simp only[Act.put,sA,sZ,sS]);obtain⟨an,ao,ap,bW⟩:=aq;obtain⟨T,hT⟩:=gX (jd x ((y:Int):Rat));have HT:=Aa hT;have aY:=Bi ap;have a6:=fun W=>Ul W y (by unfold Bd at ap;omega) (by unfold Bd at ap;omega);have bw:=Aa a6;clear a6 hT;refine mc (i:=3) (bw.o _) ?_;rintro e w3 ⟨v3,rfl,bb,hx3⟩;obtain⟨a3,m3,c3,t,b3,n3,k3,rfl⟩:=bb.form;refine⟨_,rfl,(yj.ext (by assumption) hx3),fun f=>?_⟩;have aK:=Am w3 (Oe #[O ya ym yc,Od ys,O ab ad ac]) (Oe #[O a3 m3 c3,Od t,O b3 n3 k3]) x ((y:Int):Rat) (bf.ext hx3) bb (Hb.o.mono dM) (aY.mono dM);rw[HT.o]at aK;have bA:=Aa aK;clear aK;refine mc (i:=4) bA.o ?_;rintro e w4 ⟨rfl,hx4⟩;refine⟨_,rfl,(yj.ext (by assumption) hx4),fun f=>?_⟩;refine ud (i:=5) (oi:=?oix4) ?hix4 ?hx4
  case hix4=>(simp only[gA,gS,gZ];rfl)
  refine⟨?_,by kernel_rfl,by kernel_rfl,by kernel_rfl,fun _ _ _ h=>h,Or.inl ⟨by rfl,?_⟩,by assumption,?_⟩;rotate_left 1
  ·(intro w d;rcases d with ⟨R,s1,p,t,s4,s5,s6⟩;go_simp;try(with_reducible rfl))
  (try simp only[Act.put,sA,sZ,sS]);refine wpAnyH_done kM ?_ _;have X4:Ba W w4:=((eR W).drew.trans hx3).trans hx4;have b9:=bt.o.ext X4;have aG:=h4.ext X4;have cT:w.heap.size+1+1+1<=w4.heap.size:=nT h2 X4.size;by_cases a4:T<=0
  ·have z:Aj x ((g,j),y,bz)=true:=by unfold Aj;rw[HT.o];simpa using a4
   have aE:=Aa z;have bu:=Aa X4;have bk:=Aa aG;have be:Cb w4.drew (Oe #[O ya ym yc,Od ys,O ab ad ac]) x:=bg.ext X4.drew;have bC:=Aa be;clear z X4 aG be f bf;unfold NQ
   gi_wp2
   refine Tp (S:=yj w.heap.size B ya ym yc ys ab ad ac g j y bz) kM kM (b9.ext (eR w4).drew) (fun f=>?_);have d1:Bd 1000000 (bz-j)/\Bd 1000000 (y-g):=⟨(bW.sub ao).mono dM,(ap.sub an).mono dM⟩;have g1:IntKind.i64.wrap (bz-j)=bz-j:=iW _ ⟨by unfold Bd at d1;omega,by unfold Bd at d1;omega⟩;have g2:IntKind.i64.wrap (y-g)=y-g:=iW _ ⟨by unfold Bd at d1;omega,by unfold Bd at d1;omega⟩;have Q1:=Bi (k:=104000) (n:=g) an;have Q2:=Bi (k:=104000) (n:=j) ao;have Q3:Rb 1 ((bz-j:Int):Rat):=Bi d1.1;have Q4:Rb 1 ((y-g:Int):Rat):=Bi d1.2;have Q5:=Hb.o.sub (Q1.mono (k:=1000) dM);have Q6:=Q5.mul Q3;have Q7:=Q6.div Q4 dM;have bm:=Aa Q1;have bn:=Aa Q2;have bo:=Aa Q3;have bp:=Aa Q4;have bq:=Aa Q5;have br:=Aa Q6;have bs:=Aa Q7;have Ha:=Aa (fun W=>Ul W j (by unfold Bd at ao;omega) (by unfold Bd at ao;omega));have Hc:=Aa (fun W=>Ul W g (by unfold Bd at an;omega) (by unfold Bd at an;omega));have Hd:=Aa (fun W=>Ul W (bz-j) (by unfold Bd at d1;omega) (by unfold Bd at d1;omega));have He:=Aa (fun W=>Ul W (y-g) (by unfold Bd at d1;omega) (by unfold Bd at d1;omega));clear Q1 Q2 Q3 Q4 Q5 Q6 Q7 aY;refine ud (i:=0) (oi:=?oix5) ?hix5 ?hx5
   case hix5=>(simp only[gA,gS,gZ];rfl)
   refine⟨?_,by kernel_rfl,by kernel_rfl,by kernel_rfl,fun _ _ _ h=>h,Or.inl ⟨by rfl,?_⟩,by assumption,?_⟩;rotate_left 1
   ·(intro w d;rcases d with ⟨R,s1,p,t,s4,s5,s6⟩;go_simp;try(with_reducible rfl))
   (try simp only[Act.put,sA,sZ,sS]);refine ud (i:=1) (oi:=?oix6) ?hix6 ?hx6
   case hix6=>(simp only[gA,gS,gZ];rfl)
   refine⟨?_,by kernel_rfl,by kernel_rfl,by kernel_rfl,fun _ _ _ h=>h,Or.inl ⟨by rfl,?_⟩,by assumption,?_⟩;rotate_left 1
   ·(intro w d;rcases d with ⟨R,s1,p,t,s4,s5,s6⟩;go_simp;try(with_reducible rfl))
   (try simp only[Act.put,sA,sZ,sS]);refine ud (i:=3) (oi:=?oix7) ?hix7 ?hx7
   case hix7=>(simp only[gA,gS,gZ];rfl)
   refine⟨?_,by kernel_rfl,by kernel_rfl,by kernel_rfl,fun _ _ _ h=>h,Or.inl ⟨by rfl,?_⟩,by assumption,?_⟩;rotate_left 1
   ·(intro w d;rcases d with ⟨R,s1,p,t,s4,s5,s6⟩;go_simp;try(with_reducible rfl))
   (try simp only[Act.put,sA,sZ,sS]);refine ud (i:=4) (oi:=?oix8) ?hix8 ?hx8
   case hix8=>(simp only[gA,gS,gZ];rfl)
   refine⟨?_,by kernel_rfl,by kernel_rfl,by kernel_rfl,fun _ _ _ h=>h,Or.inl ⟨by rfl,?_⟩,by assumption,?_⟩;rotate_left 1
   ·(intro w d;rcases d with ⟨R,s1,p,t,s4,s5,s6⟩;go_simp;try(with_reducible rfl))
   (try simp only[Act.put,sA,sZ,sS]);refine ud (i:=5) (oi:=?oix9) ?hix9 ?hx9
   case hix9=>(simp only[gA,gS,gZ];rfl)
   refine⟨?_,by kernel_rfl,by kernel_rfl,by kernel_rfl,fun _ _ _ h=>h,Or.inl ⟨by rfl,?_⟩,by assumption,?_⟩;rotate_left 1
   ·(intro w d;rcases d with ⟨R,s1,p,t,s4,s5,s6⟩;go_simp;try(with_reducible rfl))
   (try simp only[Act.put,sA,sZ,sS]);refine ud (i:=8) (oi:=?oix10) ?hix10 ?hx10
   case hix10=>(simp only[gA,gS,gZ];rfl)
   refine⟨?_,by kernel_rfl,by kernel_rfl,by kernel_rfl,fun _ _ _ h=>h,Or.inl ⟨by rfl,?_⟩,by assumption,?_⟩;rotate_left 1
   ·(intro w d;rcases d with ⟨R,s1,p,t,s4,s5,s6⟩;go_simp;try(with_reducible rfl))
   (try simp only[Act.put,sA,sZ,sS]);refine ud (i:=9) (oi:=?oix11) ?hix11 ?hx11
   case hix11=>(simp only[gA,gS,gZ];rfl)
   refine⟨?_,by kernel_rfl,by kernel_rfl,by kernel_rfl,fun _ _ _ h=>h,Or.inl ⟨by rfl,?_⟩,by assumption,?_⟩;rotate_left 1
   ·(intro w d;rcases d with ⟨R,s1,p,t,s4,s5,s6⟩;go_simp;try(with_reducible rfl))
   (try simp only[Act.put,sA,sZ,sS]);refine ud (i:=10) (oi:=?oix12) ?hix12 ?hx12
   case hix12=>(simp only[gA,gS,gZ];rfl)
   refine⟨?_,by kernel_rfl,by kernel_rfl,by kernel_rfl,fun _ _ _ h=>h,Or.inl ⟨by rfl,?_⟩,by assumption,?_⟩;rotate_left 1
   ·(intro w d;rcases d with ⟨R,s1,p,t,s4,s5,s6⟩;go_simp;try(with_reducible rfl))
   (try simp only[Act.put,sA,sZ,sS]);refine ud (i:=11) (oi:=?oix13) ?hix13 ?hx13
   case hix13=>(simp only[gA,gS,gZ];rfl)
   refine⟨?_,by kernel_rfl,by kernel_rfl,by kernel_rfl,fun _ _ _ h=>h,Or.inl ⟨by rfl,?_⟩,by assumption,?_⟩;rotate_left 1
   ·(intro w d;rcases d with ⟨R,s1,p,t,s4,s5,s6⟩;go_simp;try(with_reducible rfl))
   (try simp only[Act.put,sA,sZ,sS]);refine ud (i:=12) (oi:=?oix14) ?hix14 ?hx14
   case hix14=>(simp only[gA,gS,gZ];rfl)
   refine⟨?_,by kernel_rfl,by kernel_rfl,by kernel_rfl,fun _ _ _ h=>h,Or.inl ⟨by rfl,?_⟩,by assumption,?_⟩;rotate_left 1
   ·(intro w d;rcases d with ⟨R,s1,p,t,s4,s5,s6⟩;go_simp;try(with_reducible rfl))
   (try simp only[Act.put,sA,sZ,sS]);refine ud (i:=15) (oi:=?oix15) ?hix15 ?hx15
   case hix15=>(simp only[gA,gS,gZ];rfl)
   refine⟨?_,by kernel_rfl,by kernel_rfl,by kernel_rfl,fun _ _ _ h=>h,Or.inl ⟨by rfl,?_⟩,by assumption,?_⟩;rotate_left 1
   ·(intro w d;rcases d with ⟨R,s1,p,t,s4,s5,s6⟩;go_simp;try(with_reducible rfl))
   (try simp only[Act.put,sA,sZ,sS]);refine ud (i:=16) (oi:=?oix16) ?hix16 ?hx16
   case hix16=>(simp only[gA,gS,gZ];rfl)
   refine⟨?_,by kernel_rfl,by kernel_rfl,by kernel_rfl,fun _ _ _ h=>h,Or.inl ⟨by rfl,?_⟩,by assumption,?_⟩;rotate_left 1
   ·(intro w d;rcases d with ⟨R,s1,p,t,s4,s5,s6⟩;go_simp;try(with_reducible rfl))
   (try simp only[Act.put,sA,sZ,sS]);refine ud (i:=17) (oi:=?oix17) ?hix17 ?hx17
   case hix17=>(simp only[gA,gS,gZ];rfl)
   refine⟨?_,by kernel_rfl,by kernel_rfl,by kernel_rfl,fun _ _ _ h=>h,Or.inl ⟨by rfl,?_⟩,by assumption,?_⟩;rotate_left 1
   ·(intro w d;rcases d with ⟨R,s1,p,t,s4,s5,s6⟩;go_simp;try(with_reducible rfl))
   (try simp only[Act.put,sA,sZ,sS]);refine ud (i:=18) (oi:=?oix18) ?hix18 ?hx18
   case hix18=>(simp only[gA,gS,gZ];rfl)
   refine⟨?_,by kernel_rfl,by kernel_rfl,by kernel_rfl,fun _ _ _ h=>h,Or.inl ⟨by rfl,?_⟩,by assumption,?_⟩;rotate_left 1
   ·(intro w d;rcases d with ⟨R,s1,p,t,s4,s5,s6⟩;go_simp;try(with_reducible rfl))
   (try simp only[Act.put,sA,sZ,sS]);refine ud (i:=19) (oi:=?oix19) ?hix19 ?hx19
   case hix19=>(simp only[gA,gS,gZ];rfl)
   refine⟨?_,by kernel_rfl,by kernel_rfl,by kernel_rfl,fun _ _ _ h=>h,Or.inl ⟨by rfl,?_⟩,by assumption,?_⟩;rotate_left 1
   ·(intro w d;rcases d with ⟨R,s1,p,t,s4,s5,s6⟩;go_simp;try(with_reducible rfl))
   (try simp only[Act.put,sA,sZ,sS]);refine mc (i:=2) (Ha.o _) ?_;rintro e dg ⟨c7,rfl,ar,aj⟩;obtain⟨bG,cj,bX,cC,bN,cq,cc,rfl⟩:=ar.form;refine⟨_,rfl,(yj.ext (by assumption) aj),fun f=>?_⟩;refine mc (i:=6) (Hc.o _) ?_;rintro e cK ⟨c8,rfl,au,ae⟩;obtain⟨bH,ck,bY,cD,bO,cr,cd,rfl⟩:=au.form;refine⟨_,rfl,(yj.ext (by assumption) ae),fun f=>?_⟩;have K7:=Aa (ir cK (Oe #[O ya ym yc,Od ys,O ab ad ac]) (Oe #[O bH ck bY,Od cD,O bO cr cd]) x ((g:Int):Rat) (bC.o.ext (aj.trans ae)) au (Hb.o.mono dM) (bm.o.mono dM));refine mc (i:=7) K7.o ?_;rintro e dh ⟨c9,rfl,av,ak⟩;obtain⟨bI,cl,bZ,cF,bP,cs,ce,rfl⟩:=av.form;refine⟨_,rfl,(yj.ext (by assumption) ak),fun f=>?_⟩;refine mc (i:=13) (Hd.o _) ?_;rintro e cL ⟨da,rfl,aw,af⟩;obtain⟨bJ,cm,b0,cG,bQ,ct,cf,rfl⟩:=aw.form;refine⟨_,rfl,(yj.ext (by assumption) af),fun f=>?_⟩;have bD:=Aa (mD cL (Oe #[O bI cl bZ,Od cF,O bP cs ce]) (Oe #[O bJ cm b0,Od cG,O bQ ct cf]) (x-((g:Int):Rat)) ((bz-j:Int):Rat) (av.ext af) aw (bq.o.mono dM) (bo.o.mono dM));refine mc (i:=14) bD.o ?_;rintro e di ⟨db,rfl,ay,al⟩;obtain⟨bK,cn,b1,cH,bT,cu,cg,rfl⟩:=ay.form;refine⟨_,rfl,(yj.ext (by assumption) al),fun f=>?_⟩;refine mc (i:=20) (He.o _) ?_;rintro e cN ⟨dc,rfl,aA,ag⟩;obtain⟨bL,co,b4,cI,bU,cv,ch,rfl⟩:=aA.form;refine⟨_,rfl,(yj.ext (by assumption) ag),fun f=>?_⟩;have bE:=Aa (oE cN (Oe #[O bK cn b1,Od cH,O bT cu cg]) (Oe #[O bL co b4,Od cI,O bU cv ch]) ((x-((g:Int):Rat))*((bz-j:Int):Rat)) ((y-g:Int):Rat) (ay.ext ag) aA (br.o.mono dM) (bp.o.mono dM));refine mc (i:=21) bE.o ?_;rintro e cO ⟨dd,rfl,aB,am⟩;obtain⟨bM,cp,b5,cJ,bV,cx,ci,rfl⟩:=aB.form;refine⟨_,rfl,(yj.ext (by assumption) am),fun f=>?_⟩;have bF:=Aa (Yx cO (Oe #[O bG cj bX,Od cC,O bN cq cc]) (Oe #[O bM cp b5,Od cJ,O bV cx ci]) ((j:Int):Rat) (((x-((g:Int):Rat))*((bz-j:Int):Rat))/((y-g:Int):Rat)) (ar.ext (((((ae.trans ak).trans af).trans al).trans ag).trans am)) aB (bn.o.mono dM) (bs.o.mono dM));refine mc (i:=22) bF.o ?_;rintro e aV ⟨de,rfl,aC,aD⟩;obtain⟨cQ,c4,cS,c6,cR,c5,c1,rfl⟩:=aC.form;refine⟨_,rfl,(yj.ext (by assumption) aD),fun f=>?_⟩;have aZ:Ba w4.drew aV:=((((((aj.trans ae).trans ak).trans af).trans al).trans ag).trans am).trans aD;have aH:=bk.o.ext ((eR w4).drew.trans aZ);obtain⟨_,_,_,_,_,_,_,o0,o1,o2,cy,cz,cB,zo,_⟩:=aH.rd;have bl:=Aa aH;clear aH;have cZ:¬w.heap.size+1=w.heap.size:=oM;have cY:¬w.heap.size+1=B/\¬w.heap.size+1=B+1:=⟨by omega,by omega⟩;have a5:uq x ((g,j),y,bz)=((j:Int):Rat)+((x-((g:Int):Rat))*((bz-j:Int):Rat))/((y-g:Int):Rat):=rfl;have bv:=Aa a5;clear a5;refine ye (i:=23) fun K hK=>?_;go_simp;refine kO hK ((((show yj w.heap.size B ya ym yc ys ab ad ac g j y bz aV by assumption).set dO dO dO _).set dO dO dO _).set dO dO dO _) (fun _=>?_);clear hK K;refine wpAnyH_done kM ?_ _;unfold NQ
   gi_wp2
   have X9:Ba W aV:=bu.o.trans ((eR w4).drew.trans aZ);refine⟨(((Ro X9).trans ((KeepsOthers.setCell _ _ _).from _)).trans ((KeepsOthers.setCell _ _ _).from _)).trans ((KeepsOthers.setCell _ _ _).from _),rfl,(((L.trans X9).set dO _).set dO _).set dO _,by simp only[Wf];exact nT h2 X9.size,pre,_,rfl,h5,aE.o,?_⟩;dsimp only;rw[bv.o];exact bl.o.put aC
  ·have z:Aj x ((g,j),y,bz)=false:=by unfold Aj;rw[HT.o];simpa using a4
   have cV:0<T:=oM;have aE:=Aa z;clear z;unfold NQ
   gi_wp2
   refine⟨Ro X4,(ze.refl w _ W).ext X4 L.size oM,L.trans X4,nT h2 X4.size,h3.ext X4,aG,fun e he=>?_⟩;rcases List.mem_append.1 he with he|he
   ·exact h5 e he
   ·rw[List.mem_singleton.1 he];exact aE.o
 case done =>
  rintro D ys W hD rfl ⟨L,h2,h3,h4,h5⟩ hK;obtain⟨m,rfl⟩:∃m,n=m+1:=⟨n-1,by have:=List.length_pos_iff.2 aX.o.1;rw[Hn.o]at this;omega⟩;obtain⟨⟨qx,qz⟩,hq⟩:∃q,ps[m]?=M q:=⟨ps[m]'(by rw[Hn.o];omega),by simp⟩;obtain⟨b,o,rfl,hb,d0,d1⟩:=(h.f L).at' hq;have hR:Lh ps x=((qz:Int):Rat):=YM aW.o h5 (q:=(qx,qz)) (by rw[Hn.o];exact hq);have ai:=aX.o.2.1 (qx,qz) (lM hq);have a8:=fun W=>Ul W qz (by unfold Bd at ai;dsimp only at ai;omega) (by unfold Bd at ai;dsimp only at ai;omega);have z:=h.le;have cX:m+1<=9223372036854775807:=by rw[Hn.o]at z;unfold maxLen at z;omega
  have bB:=Aa a8;have aF:=Aa hR;have p1:(0:Int)<=(m:Int):=oM;have p2:(m:Int)<((m+1:Nat):Int):=oM;have u1:((m+1:Nat):Int)-1=(m:Int):=oM;have zD:D<W.heap.size:=Ya hK;clear a8 hR hq ai z
  gi_wp2_with(refine⟨trivial,?_⟩;gi_at_call 215;(with_reducible refine(callsIn_wide.2 (bB.o _)).mono ?_);rintro e w2 ⟨r2,rfl,ba,hx2⟩;obtain⟨a2,m2,c2,p,b2,n2,k2,rfl⟩:=ba.form;have a1:=h4.ext hx2;obtain⟨_,_,_,_,_,_,_,o0,o1,o2,cy,cz,cB,zo,_⟩:=a1.rd;have b6:=hx2.e hK)
  have hP:=a1.put ba;have cU:¬D=w.heap.size+1:=oM;have a0:(((w2.setCell ⟨w.heap.size+1,0,I⟩ (O a2 m2 c2)).setCell ⟨w.heap.size+1,1,I⟩ (Od p)).setCell ⟨w.heap.size+1,2,I⟩ (O b2 n2 k2)).heap[D]?=M (.deferred (M [])):=by
   rw[bS _ _ _ _ dO,bS _ _ _ _ dO,bS _ _ _ _ dO];exact b6
  have ca:Ba w (((w2.setCell ⟨w.heap.size+1,0,I⟩ (O a2 m2 c2)).setCell ⟨w.heap.size+1,1,I⟩ (Od p)).setCell ⟨w.heap.size+1,2,I⟩ (O b2 n2 k2)):=
   (((L.trans hx2).set dO _).set dO _).set dO _
  have ah:=Xw a0 (.deferred I);have aI:=hP.sim ah;obtain⟨pa,pm,aP,aR,aM,aQ,aO,aS,aT,aU,_,_,_,_,hz⟩:=aI.rd;refine⟨by simp,.inl ⟨_,_,rfl,run_takeDeferred a0,?_⟩⟩;refine⟨Oe #[O pa pm aP,Od aR,O aM aQ aO],by simp[results,Tryz.results186,go_sem,aS,aT,aU],?_⟩;rw[aF.o];exact⟨_,rfl,hz,ah.ext ca oM⟩
 case stop =>
  rintro D c pre W hD a9 ⟨rfl,L,h2,p',e,rfl,h4,h5,h6⟩ hK;have hR:=GK aW.o a9 h4 h5;have aF:=Aa hR;clear hR
  gi_wp2
  have ah:=Xw hK (.deferred I);have aI:=h6.sim ah;obtain⟨pa,pm,aP,aR,aM,aQ,aO,aS,aT,aU,_,_,_,_,hz⟩:=aI.rd;refine⟨by simp,.inl ⟨_,_,rfl,run_takeDeferred hK,?_⟩⟩;refine⟨Oe #[O pa pm aP,Od aR,O aM aQ aO],by simp[results,Tryz.results186,go_sem,aS,aT,aU],?_⟩;rw[aF.o];exact⟨_,rfl,hz,ah.ext L oM⟩
end
section
open Go.RowKit Go.Shelf
def Ea:List (Oh×Ob)->Z->Prop
 | [],_=>True
 | (a,v)::r,W=>W.cell? a=M v/\Ea r W
def Ea.ext:∀{L:List (Oh×Ob)}{W W':Z},Ea L W->Ba W W'->Ea L W'
 | [],_,_,_,_=>trivial
 | _::_,_,_,⟨h1,h2⟩,k=>⟨k.d h1,h2.ext k⟩
def cE{L:List (Oh×Ob)}{W W':Z}(h:Ea L W)(k:Ba W W'):Ea L W':=h.ext k
def cA{L:List (Oh×Ob)}{W:Z}(h:Ea L W:=by(repeat(first|exact trivial|refine⟨by go_simp,?_⟩))):Ea L W:=h
def Ea.set:∀{L:List (Oh×Ob)}{W:Z}{p:Oh},Ea L W->(∀q∈L,p.block≠q.1.block)->∀u,Ea L (W.setCell p u)
 | [],_,_,_,_,_=>trivial
 | (a,v)::r,W,p,⟨h1,h2⟩,hn,u=>⟨by rw[World.cell?_setCell_far _ _ _ _ (hn (a,v) (by simp))];exact h1,h2.set (fun q c=>hn q (mC _ c)) u⟩
def Ea.set3{L:List (Oh×Ob)}{W:Z}{b:Nat}(h:Ea L W)(a:∀q∈L,b≠q.1.block)(u v t:Ob):Ea L (((W.setCell ⟨b,0,I⟩ u).setCell ⟨b,1,I⟩ v).setCell ⟨b,2,I⟩ t):=
 ((h.set a u).set a v).set a t
def od{P:Program}{ops:Array Oper}{Q:Exit->Of->Z->Prop}{e:Nat}{a:Of}{w:Z}(L:List (Oh×Ob))(c:Ea L w.drew)(h:Ea L w.drew->wpAnyH P .any ops Q (Ea L) ops.size (Array.replicate ops.size false) a w.drew)(d:P.follows .mixedOrders=true:=by kernel_rfl):(Code.region e ops true).wp P Q a w:=wp_region_held_drew (S:=Ea L) d c h
def Ea.nil(W:Z):Ea [] W:=trivial
structure Sp where
 over:LP
 under:LP
 lo:Int
 hi:Int
def Ub(s:Sp)(x:Rat):Rat:=Lh s.over x-Lh s.under x
def yL(w:Z)(s:Sp)(v1 v2 vx:Ob)(x:Rat)(h1:Ja w v1 s.over)(h2:Ja w v2 s.under)(k1:je s.over)(k2:je s.under)(hx:Cb w vx x)(hb:Rb 1000 x)(g:Rb Wb (Lh s.over x))(j:Rb Wb (Lh s.under x)):Calls Tryz.prog 217 #[Oe #[v1,v2,Oa U s.lo,Oa U s.hi],vx] w (Uf w (Ub s x)):=by
 obtain⟨a1,m1,rfl⟩:=h1.form;obtain⟨a2,m2,rfl⟩:=h2.form;obtain⟨xa,xm,xc,xs,z,R,L,rfl⟩:=hx.form;obtain⟨n1,o⟩:=gX s.over.length;obtain⟨n2,p⟩:=gX s.under.length;rw[o]at h1 ⊢;rw[p]at h2 ⊢;obtain⟨lo,l⟩:=gX s.lo;obtain⟨hi,k⟩:=gX s.hi;rw[l,k];have H1:=Aa (fun(W:Z)(f:Ba w W)=>xx W _ _ s.over x (h1.f f) k1 (hx.ext f) hb);have H2:=Aa (fun(W:Z)(f:Ba w W)=>xx W _ _ s.under x (h2.f f) k2 (hx.ext f) hb);have aa:=Aa g;have ab:=Aa j;clear g j hb o p l k k1 k2 h1 h2;go_in;go_wp2;refine od [(⟨w.heap.size,0,I⟩,O a1 n1 m1),(⟨w.heap.size,1,I⟩,O a2 n2 m2),(⟨w.heap.size+1,0,I⟩,O xa xm xc),(⟨w.heap.size+1,1,I⟩,Od xs),(⟨w.heap.size+1,2,I⟩,O z R L)] (by refine⟨?_,?_,?_,?_,?_,trivial⟩<;>go_simp) fun a=>?_;refine sN 0 ?_
 iterate 3 refine ub ?_
 refine oN ?_;refine sN 4 ?_
 iterate 3 refine ub ?_
 refine oN ?_;refine mc (i:=3) (H1.o _ eA) ?_;rintro e w3 ⟨r3,rfl,r,y⟩;obtain⟨a3,m3,c3,s3,b3,n3,k3,rfl⟩:=r.form;refine⟨_,rfl,(cE a y),fun a=>?_⟩;have X3:Ba w w3:=eA;refine mc (i:=7) (H2.o _ X3) ?_;rintro e w4 ⟨r4,rfl,t,c⟩;obtain⟨a4,m4,c4,s4,b4,n4,k4,rfl⟩:=t.form;refine⟨_,rfl,(cE a c),fun a=>?_⟩;have K5:=Aa (ir w4 _ _ _ _ (r.ext c) t aa.o ab.o);refine mc (i:=8) K5.o ?_;rintro e w5 ⟨r5,rfl,u,d⟩;obtain⟨a5,m5,c5,s5,b5,n5,k5,rfl⟩:=u.form;refine⟨_,rfl,(cE a d),fun a=>?_⟩;have hO:RB w5 (w.heap.size+1+1) 0:=(((RB.new (Cb.zero _) sM).ext ((eR _).drew.trans y)).ext c).ext d;obtain⟨_,_,_,_,_,_,_,o0,o1,o2,al,am,an,zo,_⟩:=hO.rd;have ac:∀q∈[((⟨w.heap.size,0,I⟩:Oh),Value.slice a1 n1 m1),(⟨w.heap.size,1,I⟩,O a2 n2 m2),(⟨w.heap.size+1,0,I⟩,O xa xm xc),(⟨w.heap.size+1,1,I⟩,Od xs),(⟨w.heap.size+1,2,I⟩,O z R L)],w.heap.size+1+1≠q.1.block:=by
  intro q hq;simp at hq;rcases hq with rfl|rfl|rfl|rfl|rfl<;>(dsimp only;omega)
 refine ye (i:=9) fun K hK=>?_;go_simp;refine kO hK (Ea.set3 (by assumption) ac _ _ _) (fun a=>?_);clear hK K;refine Tb ?_;go_wp2;have hP:=hO.put u;obtain⟨pa,pm,af,ah,ad,ag,ae,ai,aj,ak,_,_,_,_,hz⟩:=hP.rd;exact bR (v:=Oe #[O pa pm af,Od ah,O ad ag ae]) (by simp[results,Tryz.results217,go_sem,ai,aj,ak]) rfl ⟨_,rfl,hz,((((X3.trans c).trans d).set dO _).set dO _).set dO _⟩
def BQ{n:Nat}{P:Program}{row:String}{args:Array Ob}{w:Z}{R:Ob->Z->Prop}(h:Rows P row args w R):RowsIn Fence.wide n P row args w R:=by intro c a _;obtain⟨v,d,r,s⟩:=h c a;exact⟨v,d,r,stepsIn_wide.2 s⟩
def BO{n:Nat}{P:Program}{o:Oper}{a:Of}{w:Z}{K:Of->Z->Prop}{Q:Exit->Of->Z->Prop}(j:∀c,o.op ≠ .defer c)(h:o.wp P a w K (NQ Q)):o.wpIn Fence.wide n P a w K Q:=by
 refine⟨fun _ _=>trivial,?_⟩;rw[Oper.semAt_plain _ _ _ j];unfold Oper.wp at h;generalize (execOp a.eval o).run P w=r at *
 have g:Fence.wide.depth.isSome=true->1<=n:=fun h=>by cases h
 cases r with
 | ok x k =>
  cases x with
  | value u=>exact h
  | skip=>exact h
  | defer d=>exact h
  | enter f args =>
   refine⟨g,callsIn_wide.2 (cM h fun e l i=>?_)⟩;cases e with
   | returned u=>exact i
   | panicked c=>exact i.elim
   | outgrown=>exact(Ww i).elim
  | row row args=>exact⟨g,BQ h⟩
  | _=>exact h.elim
 | halt x k =>
  cases x<;>first|exact h.elim|skip
def pw{n:Nat}{P:Program}{ops:Array Oper}{Q:Exit->Of->Z->Prop}{g:Nat}{a:Of}{w:Z}(late:Nat->Bool)(S:Z->Prop)(f:P.follows .mixedOrders=true)(d:S w.drew)(h:S w.drew->Ml n P .any ops (NQ Q) S late ops.size (Array.replicate ops.size false) a w.drew):(Code.region g ops true).wpIn Fence.wide n P Q a w:=
 wpIn_mono (CG late S f d h) (fun e a w c=>by cases e<;>first|exact c|exact c.elim)
def Sk(a:List Nat):List Deferred:=a.map fun D=>{ target:=.collected D,args:=#[] }
def Xc(W:Z)(a:List Nat):Prop:=a.Nodup/\∀D∈a,W.heap[D]?=M (.deferred (M []))
def Xc.ext{W W':Z}{a:List Nat}(h:Xc W a)(k:Ba W W'):Xc W' a:=⟨h.1,fun D c=>k.e (h.2 D c)⟩
def Xc.nil(W:Z):Xc W []:=⟨List.nodup_nil,fun D a=>by cases a⟩
def Xc.cons{W:Z}{a:List Nat}{D:Nat}(h:Xc W a)(d:W.heap[D]?=M (.deferred (M [])))(e:D ∉ a):Xc W (D::a):=
 ⟨List.nodup_cons.2 ⟨e,h.1⟩,fun E c=>by rcases List.mem_cons.1 c with rfl|c;exact d;exact h.2 E c⟩
def Xc.set{W:Z}{a:List Nat}(h:Xc W a){p:Oh}{cs:Array Ob}{T:TypeId}{d:Nat×Nat}(f:W.heap[p.block]?=M (Oc cs T d))(u:Ob):Xc (W.setCell p u) a:=
 ⟨h.1,fun D c=>by rw[bS _ _ _ _ (by intro e;have:=h.2 D c;rw[e,f]at this;cases this)];exact h.2 D c⟩
def Xc.grown{W W':Z}{d:List Nat}{row:Option Nat}(h:Xc W d)(g:W.grownBy W' row)(c:∀r,row=M r->∃cs T fr,W.heap[r]?=M (Oc cs T fr)):Xc W' d:=
 ⟨h.1,fun D f=>by
  have a:=h.2 D f;rw[g.block D (Ya a) (fun e=>by obtain⟨cs,T,fr,c⟩:=c D e.symm;rw[c]at a;cases a)];exact a⟩
def Tv{n:Nat}{P:Program}{g:Func}{tmps:Array Ob}{R:Ending->Z->Prop}:∀(a:List Nat)(W:Z),Xc W a ->(∀W':Z,(∀B,(∀D∈a,B<=D)->jk B W W')->LeavesInM Fence.wide n P g tmps R [] .returning W')->LeavesInM Fence.wide n P g tmps R (Sk a) .returning W
 | [],W,_,h=>h W (fun B _=>⟨Below.refl _ _,fun _ _ h _=>h⟩)
 | D::a,W,hm,h=>by
  have l:=hm.2 D sM;have q:=Xw l (.deferred I);refine⟨by simp,.inl ⟨D,_,rfl,run_takeDeferred l,?_⟩⟩;refine Tv a _ ⟨(List.nodup_cons.1 hm.1).2,fun E c=>?_⟩ (fun W' d=>h W' (fun B j=>?_))
  ·have f:E≠D:=fun e=>(List.nodup_cons.1 hm.1).1 (e▸c);rw[World.putObj_heap_other f];exact hm.2 E (mC _ c)
  ·have i:=d B (fun E c=>j E (mC _ c));exact⟨(Below.mono q.1 (j D sM)).trans i.1,fun k o r p=>i.2 k o (q.2 k o r p) p⟩
section
variable {P:Program} {ops:Array Oper} {Q:Exit->Of->Z->Prop} {md:Region.Mode} {S:Z->Prop} {late:Nat->Bool}
def HU(P:Program)(md:Region.Mode)(ops:Array Oper)(Q:Exit->Of->Z->Prop)(S:Z->Prop)(late:Nat->Bool):Nat->Array Bool->Of->Z->Prop
 | 0,c,a,w=>Region.ready md ops c=[]/\Q .normal a w
 | fuel+1,c,a,w =>
  (Region.ready md ops c=[]->Q .normal a w)/\
  ∀i∈Region.ready md ops c,wpOp P ops Q i (fun e d=>(late i=false->S d)/\HU P md ops Q S late fuel (c.setIfInBounds i true) e d) a w
def NF:∀(fuel:Nat)(c:Array Bool)(a:Of)(w:Z),HU P md ops Q S late fuel c a w->wpAny P md ops Q fuel c a w
 | 0,_,_,_,h=>h
 | fuel+1,_,_,_,h=>⟨h.1,fun i f=>wpOp_mono (fun d g e=>NF fuel _ d g e.2) (h.2 i f)⟩
def iN{m i:Nat}{oi:Oper}{v:Ob}(hg:lh md ops late m=true)(ac:late i=false)(hi:ops[i]?=M oi)(r:∀(j:Nat)(o:Oper) x b,ops[j]?=M o->o.op ≠ .select x b)(hQ:∀c a w,Q (.panic c) (a.put oi.dst v) w->Q (.panic c) a w):∀(fuel:Nat)(d:Array Bool)(a:Of)(w:Z),Cl md ops d ->(∀j oj,ops[j]?=M oj->j≠i->d.getD j true=false->(∀e∈oj.after,Region.binds md e=true->e.on≠i)->oi.apart ops oj=true) ->i∈Region.ready md ops d->YieldsIf P ops S oi v a->S w ->HU P md ops Q S late fuel (d.setIfInBounds i true) (a.put oi.dst v) w->HU P md ops Q S late (fuel+1) d a w:=by
 intro fuel;induction fuel with
 |zero=>
  intro d a w hc _ q hy y H;refine⟨fun h=>(by rw[h]at q;cases q),fun j u=>?_⟩;by_cases f:j=i
  ·subst f;exact hy.wpOp hi y ⟨fun _=>y,H⟩
  ·have:=ready_mono u f;rw[H.1]at this;cases this
 | succ fuel ih =>
  intro d a w hc g q hy y H;refine⟨fun h=>(by rw[h]at q;cases q),fun j u=>?_⟩;by_cases f:j=i
  ·subst f;exact hy.wpOp hi y ⟨fun _=>y,H⟩
  ·have s:=H.2 j (ready_mono u f);have ad:=rF hg hc q ac u;obtain⟨p,oj,t,z⟩:=mem_ready.1 u;have L:∀e∈oj.after,Region.binds md e=true->e.on≠i:=fun e he hb aa=>by
    have s:=z e he hb;have h0:=(mem_ready.1 q).1;rw[aa]at s;rcases Nat.lt_or_ge i d.size with h' | h'
    ·simp[h']at h0 s;rw[h0]at s;cases s
    ·simp[Array.getElem?_eq_none h']at s
   have h2:=wpOp_putIf t (g j oj t f p L) (fun x b=>r i oi x b hi) (fun x b=>r j oj x b t) hQ hy s;have l:∀k ok,ops[k]?=M ok->k≠i->(d.setIfInBounds j true).getD k true=false ->
     (∀e∈ok.after,Region.binds md e=true->e.on≠i)->oi.apart ops ok=true:=fun k ok hk ab R ae=>by
    refine g k ok hk ab ?_ ae;by_cases K:j=k
    ·subst K;exact p
    ·rw[getD_set_ne true K]at R;exact R
   refine wpOp_mono (fun a' w' h3=>⟨h3.2.1,ih (d.setIfInBounds j true) a' w' (hc.step u) l (ready_mono q (Ne.symm f)) h3.1 (h3.2.1 ad) ?_⟩) h2;rw[Array.setIfInBounds_comm _ _ f];exact h3.2.2
def pk(P:Program)(md:Region.Mode)(ops:Array Oper)(Q:Exit->Of->Z->Prop)(S:Z->Prop)(late:Nat->Bool)(fuel:Nat)(c:Array Bool)(a:Of)(w:Z):Prop:=Cl md ops c->HU P md ops Q S late fuel c a w
def Bq(P:Program)(md:Region.Mode)(ops:Array Oper)(Q:Exit->Of->Z->Prop)(S:Z->Prop)(late:Nat->Bool)(fuel:Nat)(d:Array Bool)(a:Of)(w:Z)(i:Nat)(oi:Oper):Prop:=
 ∃v,late i=false/\Region.noSelect ops=true/\Region.free md ops d i=true/\(Region.ready md ops d).contains i=true/\(∀c a w,Q (.panic c) (a.put oi.dst v) w->Q (.panic c) a w)/\YieldsIf P ops S oi v a/\S w/\
  pk P md ops Q S late fuel (d.setIfInBounds i true) (a.put oi.dst v) w
def Om{m:Nat}(q:lh md ops late m=true){i:Nat}{oi:Oper}{fuel:Nat}{c:Array Bool}{a:Of}{w:Z}(hi:ops[i]?=M oi)(h:Bq P md ops Q S late fuel c a w i oi):pk P md ops Q S late (fuel+1) c a w:=by
 obtain⟨v,f,g,j,k,l,o,h6,p⟩:=h;intro d;have e:i∈Region.ready md ops c:=by simpa using k
 exact iN q f hi (Region.noSelect_spec g) l fuel c a w d (Region.free_spec hi j) e o h6 (p (d.step e))
def Gq(P:Program)(md:Region.Mode)(ops:Array Oper)(Q:Exit->Of->Z->Prop)(S:Z->Prop)(late:Nat->Bool)(fuel:Nat)(c:Array Bool)(a:Of)(w:Z)(i:Nat)(o:Oper):Prop:=
 Region.ready md ops c=[i]/\∀K':Of->Z->Prop,Shut (∀a w,(late i=false->S w)->((late i=false->S w)->pk P md ops Q S late fuel (c.setIfInBounds i true) a w)->K' a w) ->
  if Region.wanted o (yielded ops a.tmps)=true then Oper.wp P o a w K' Q else K' (a.put o.dst undef) w
def qq{i:Nat}{o:Oper}{fuel:Nat}{c:Array Bool}{a:Of}{w:Z}(hi:ops[i]?=M o)(h:Gq P md ops Q S late fuel c a w i o):pk P md ops Q S late (fuel+1) c a w:=by obtain⟨g,h⟩:=h;intro q;refine⟨fun k=>absurd (g▸k) sM,fun j d=>?_⟩;have e:=d;rw[g]at d;cases List.mem_singleton.1 d;exact wpOp_step hi (fun K' l=>h K' (fun a w f p=>l a w ⟨f,p f (q.step e)⟩))
def Jb{c:Array Bool}{a:Of}{w:Z}(d:Region.ready md ops c=[])(h:Q .normal a w):∀fuel,pk P md ops Q S late fuel c a w
 | 0=>fun _=>⟨d,h⟩
 | _+1=>fun _=>⟨fun _=>h,by rw[d];simp⟩
def oo{v:Ob}{i:Nat}{oi:Oper}{fuel:Nat}{d:Array Bool}{a:Of}{w:Z}{G:Prop}(h:G)(o:lh md ops late 12=true:=by kernel_rfl)(hi:ops[i]?=M oi:=by(simp only[gA,gS,gZ];rfl))(f:late i=false:=by rfl)(g:Region.noSelect ops=true:=by kernel_rfl)(j:Region.free md ops d i=true:=by kernel_rfl)(k:(Region.ready md ops d).contains i=true:=by kernel_rfl)(h4:∀c a w,Q (.panic c) (a.put oi.dst v) w->Q (.panic c) a w:=by exact fun _ _ _ h=>h)(p:Region.wanted oi (yielded ops a.tmps)=true:=by rfl)(q:∀w,S w->(execOp a.eval oi).run P w = .ok (.value v) w:=by(intro w e;simp only[Ea,and_true]at e;go_simp;try(with_reducible rfl)))(h6:S w:=by(with_reducible assumption))(l:pk P md ops Q S late fuel (d.setIfInBounds i true) (a.put oi.dst v) w=G:=by((try simp only[Act.put,sA,sZ,sS]);rfl)):pk P md ops Q S late (fuel+1) d a w:=by subst l;exact Om o hi ⟨v,f,g,j,k,h4,Or.inl ⟨p,q⟩,h6,h⟩
def qi{v:Ob}{i:Nat}{oi:Oper}{fuel:Nat}{d:Array Bool}{a:Of}{w:Z}{G:Prop}(h:G)(o:lh md ops late 12=true:=by kernel_rfl)(hi:ops[i]?=M oi:=by(simp only[gA,gS,gZ];rfl))(f:late i=false:=by rfl)(g:Region.noSelect ops=true:=by kernel_rfl)(j:Region.free md ops d i=true:=by kernel_rfl)(k:(Region.ready md ops d).contains i=true:=by kernel_rfl)(h4:∀c a w,Q (.panic c) (a.put oi.dst v) w->Q (.panic c) a w:=by exact fun _ _ _ h=>h)(p:Region.wanted oi (yielded ops a.tmps)=true:=by rfl)(q:∀w,S w->(execOp a.eval oi).run P w = .ok (.value v) w:=by(intro w e;simp only[Ea,and_true]at e;go_simp;try(with_reducible rfl)))(h6:S w:=by(with_reducible assumption))(l:Vl (i+1) (pk P md ops Q S late fuel (d.setIfInBounds i true) (a.put oi.dst v) w)=G:=by((try simp only[Act.put,sA,sZ,sS,Nat.reduceAdd]);rfl)):Vl i (pk P md ops Q S late (fuel+1) d a w):=by subst l;exact Om o hi ⟨v,f,g,j,k,h4,Or.inl ⟨p,q⟩,h6,h⟩
def kd{i:Nat}{o:Oper}{fuel:Nat}{c:Array Bool}{a:Of}{w:Z}(h:∀K':Of->Z->Prop,Shut (∀a w,(late i=false->S w)->((late i=false->S w)->pk P md ops Q S late fuel (c.setIfInBounds i true) a w)->K' a w)->if Region.wanted o (yielded ops a.tmps)=true then Oper.wp P o a w K' Q else K' (a.put o.dst undef) w)(hi:ops[i]?=M o:=by(simp only[gA,gS,gZ];rfl))(d:Region.ready md ops c=[i]:=by kernel_rfl):pk P md ops Q S late (fuel+1) c a w:=qq hi ⟨d,h⟩
def Tm{f:FuncId}{args:Array Ob}{Y:Ending->Z->Prop}{G:Ob->Z->Prop}{i:Nat}{o:Oper}{fuel:Nat}{c:Array Bool}{a:Of}{w:Z}(l:Calls P f args w Y)(h:∀e w',Y e w'->∃v,e=.returned v/\S w'/\(S w'->G v w'))(hi:ops[i]?=M o:=by(simp only[gA,gS,gZ];rfl))(r:Region.ready md ops c=[i]:=by kernel_rfl)(q:late i=false:=by rfl)(s:Region.wanted o (yielded ops a.tmps)=true:=by rfl)(t:(execOp a.eval o).run P w = .ok (.enter f args) w:=by(go_simp;try(with_reducible rfl)))(g:∀v w',pk P md ops Q S late fuel (c.setIfInBounds i true) (a.put o.dst v) w'=G v w':=by(intro v w';(try simp only[Act.put,sA,sZ,sS]);rfl)):pk P md ops Q S late (fuel+1) c a w:=by refine kd (i:=i) (fun K j=>?_) hi r;rw[if_pos s];unfold Oper.wp;rw[t,Oper.upon_enter];refine l.mono fun e w' u=>?_;obtain⟨v,rfl,k,p⟩:=h e w' u;exact Shut.out j _ _ (fun _=>k) (fun d=>by rw[g];exact p (d q))
def ui{i j:Nat}{oi f:Oper}{fuel:Nat}{c:Array Bool}{a:Of}{w:Z}(t:∀K':Of->Z->Prop,Shut (∀a w,(late i=false->S w)->((late i=false->S w)->pk P md ops Q S late fuel (c.setIfInBounds i true) a w)->K' a w)->if Region.wanted oi (yielded ops a.tmps)=true then Oper.wp P oi a w K' Q else K' (a.put oi.dst undef) w)(u:∀K':Of->Z->Prop,Shut (∀a w,(late j=false->S w)->((late j=false->S w)->pk P md ops Q S late fuel (c.setIfInBounds j true) a w)->K' a w)->if Region.wanted f (yielded ops a.tmps)=true then Oper.wp P f a w K' Q else K' (a.put f.dst undef) w)(hi:ops[i]?=M oi:=by(simp only[gA,gS,gZ];rfl))(v:ops[j]?=M f:=by(simp only[gA,gS,gZ];rfl))(r:Region.ready md ops c=[i,j]:=by kernel_rfl) :
  pk P md ops Q S late (fuel+1) c a w:=by
 intro q;refine⟨fun s=>absurd (r▸s) sM,fun k o=>?_⟩;have e:=o;rw[r]at o;rcases List.mem_cons.1 o with rfl|p
 ·exact wpOp_step hi (fun K' g=>t K' (fun a w d l=>g a w ⟨d,l d (q.step e)⟩))
 ·cases List.mem_singleton.1 p;exact wpOp_step v (fun K' g=>u K' (fun a w d l=>g a w ⟨d,l d (q.step e)⟩))
def Ai{e:Nat}{a:Of}{w:Z}(late:Nat->Bool)(S:Z->Prop)(d:P.follows .mixedOrders=true)(c:S w.drew)(h:S w.drew->pk P .any ops Q S late ops.size (Array.replicate ops.size false) a w.drew):(Code.region e ops true).wp P Q a w:=
 wp_region_any d (NF _ _ _ _ (h c (Cl.start _)))
end
def Qb:Code->List Code
 | .seq a b=>Qb a++Qb b
 | .cond _ a b=>Qb a++Qb b
 | .block _ b=>Qb b
 | .loop b=>b::Qb b
 | .rangeFunc _ _ a b=>Qb a++Qb b
 | .scope b=>Qb b
 | _=>[]
def Qc(f:Func)(k:Nat):Code:=match f.body with|some c=>(Qb c).getD k .skip|none=>.skip
end
section
open Go.RowKit Go.Shelf Go.Sort Go.Lib
def ic(z:Int):List Ob:=[Oa U z]
def LJ:(Tryz.prog.info? 3).map (fun i=>(i.zero,i.size,i.bytes))=M (M (Oa U 0),1,8):=kM
def Lu{zs:List Int}:∀c∈zs.map ic,c.length=1:=by intro c a;obtain⟨z,_,rfl⟩:=List.mem_map.1 a;rfl
def Yu(zs:List Int):(zs.map ic).flatten=zs.map (Value.int U):=by
 induction zs with
 | nil=>rfl
 | cons z zs a=>simp[ic,a]
def sJ{zs:List Int}:∀u∈(zs.map ic).flatten,u.oneCell'=true:=by intro u a;rw[Yu]at a;obtain⟨z,_,rfl⟩:=List.mem_map.1 a;rfl
def Fa.ints{w:Z}{base g n c:Nat}{zs:List Int}(h:Fa 3 1 w base (O (M ⟨g,0,I⟩) n c) (zs.map ic)):base<=g/\g<w.heap.size/\n=zs.length/\zs.length<=c/\c<=maxLen/\Holds (Value.int U) w g 0 zs.toArray/\∃cur,w.heap[g]?=M (Oc cur 3 (0,0))/\cur.size=c*1/\cur.toList.take zs.length=zs.map (Value.int U):=by
 rcases h.2.2 with ⟨k,_⟩|⟨o,j,cur,hv,l,i,d,e,f,a⟩
 ·cases k
 ·cases hv;rw[Yu,lL,Nat.mul_one]at a;rw[lL]at d;exact⟨l,Ya i,lL ..,d,e,holds_of_blockI i a,cur,i,f,a⟩
def Xf(zs:List Int):List Int:=zs.mergeSort fun x y=>decide (x<=y)
def Ls(zs:List Int):(Xf zs).length=zs.length:=List.length_mergeSort _
def Sh{zs:List Int}{z:Int}:z∈Xf zs ↔ z∈zs:=List.mem_mergeSort
def mQ(w:Z)(base g n c:Nat)(zs:List Int)(h:Fa 3 1 w base (O (M ⟨g,0,I⟩) n c) (zs.map ic))(p:zs.length<=1000000000):Calls Tryz.prog 256 #[O (M ⟨g,0,I⟩) n c] w fun e a=>e=.returned (Oi #[])/\Fa 3 1 a base (O (M ⟨g,0,I⟩) n c) ((Xf zs).map ic)/\w.grownBy a (M g):=by obtain⟨d,f,rfl,i,j,k,cur,h6,l,o⟩:=h.ints;refine(Tryz.slices_Sort_int g 0 c zs w k f oM).mono ?_;rintro e a ⟨rfl,n,os,rfl⟩;refine⟨rfl,⟨Lu,?_⟩,grownBy_sortedI _⟩;have:=ownsRow_sortedI (base:=base) (n:=n) (os:=os) (ss:=zs) (ts:=Xf zs) (Ls zs) d h6 i j l;rw[Yu,lL,Ls];exact this
def uG(zs:List Int):(compact zs).length<=zs.length:=by unfold compact compactUpTo;rw[lL];exact nT (List.length_filter_le _ _) sM
def tG{zs:List Int}{z:Int}(h:z∈compact zs):z∈zs:=by unfold compact compactUpTo at h;obtain⟨i,a,rfl⟩:=List.mem_map.1 h;have:=List.mem_range.1 (List.mem_filter.1 a).1;rw[getElem!_pos _ _ (by simpa using this)];simp
def QR{zs:List Int}(h:zs≠[]):compact zs≠[]:=by obtain⟨z,r,rfl⟩:=List.exists_cons_of_ne_nil h;intro a;unfold compact compactUpTo at a;have c:=List.map_eq_nil_iff.1 a;have d:=(List.filter_eq_nil_iff.1 c) 0 sM;simp[keeps]at d
def LS(w:Z)(base g n c:Nat)(zs:List Int)(h:Fa 3 1 w base (O (M ⟨g,0,I⟩) n c) (zs.map ic))(u:zs.length<=1000000000):Calls Tryz.prog 257 #[O (M ⟨g,0,I⟩) n c] w fun e a=>e=.returned (O (M ⟨g,0,I⟩) (compact zs).length c)/\Fa 3 1 a base (O (M ⟨g,0,I⟩) (compact zs).length c) ((compact zs).map ic)/\w.grownBy a (M g):=by
 obtain⟨i,r,rfl,j,k,l,cur,h6,o,s⟩:=h.ints;refine(Tryz.slices_Compact_int g 0 c zs w l oM j).mono ?_;rintro e a ⟨rfl,q,rfl⟩;have t:=uG zs;have p:∀d,w.grownBy (putRow (Value.int U) (Sort.ahead w q) g 0 d) (M g):=fun d=>by
  have:=grownBy_sortedI (w:=w) (g:=g) (n:=q) (os:=#[]) d
  rwa [grow_empty]at this
 refine⟨rfl,⟨Lu,?_⟩,p _⟩;rw[Yu,lL];refine⟨by simp,.inr ⟨g,c,putCells (Value.int U) 0 (compact zs++List.replicate (zs.length-(compact zs).length) 0).toArray cur,rfl,i,?_,by omega,k,?_,?_⟩⟩
 ·have:=heap_sortedI (n:=q) (os:=#[]) (compact zs++List.replicate (zs.length-(compact zs).length) 0).toArray h6
  rwa [grow_empty]at this
 ·simp[putCells,o]
 ·have:=take_putCellsI cur (compact zs++List.replicate (zs.length-(compact zs).length) 0) (by simp;omega);have f:=congrArg (List.take (compact zs).length) this;rw[List.take_take,lA,Nat.min_eq_left oM,List.map_append,List.take_left' sM]at f;rw[Nat.mul_one];exact f
end
section
open Go.RowKit Go.Shelf
attribute [local go_sem] Oper.semAt_some
abbrev Cc:Nat:=400000
def ZV(w:Z)(N:Int)(t4:Ob)(W:Z):Prop:=
 ∃p q:Int,p+q=N/\(q.natAbs:Int)<=p.natAbs/\Lm Cc p/\Lm Cc q/\t4=Og (M ⟨w.heap.size+1+1,0,I⟩)/\Ba w W/\NB W w.heap.size p/\NB W (w.heap.size+1) q/\
  W.heap[w.heap.size+1+1]?=M (Oc #[Oa U 0,O I 0 0] 163 (0,0))
def YV(wc:Z)(d:Option Oh)(e c f:Nat)(xs i:List Int)(σ:Int)(g:Ob)(wr:Z):Prop:=
 ∃(j:Nat)(a:List Int),g=Oa U j/\j<=f/\a.length=c/\Db 3 wr wc.heap.size (O d c e) a/\dv C4 a=dv C4 xs+σ*dv C4 (i.take j)/\Rj a j/\Ba wc wr
def JO{xs a:List Int}(d:pg C4 xs)(e:pg C4 a)(h:dv C4 a<=dv C4 xs):a.length<=xs.length:=by
 rcases Nat.lt_or_ge xs.length a.length with c|c
 ·have:=mt (b:=C4) dM d.1 e c;omega
 ·exact c
def GG(n m:Int):n.sign*m.sign = -1\/n.sign*m.sign=0\/n.sign*m.sign=1:=by rcases vi n with ⟨e,_⟩|⟨e,_⟩|⟨e,_⟩<;>rcases vi m with ⟨a,_⟩|⟨a,_⟩|⟨a,_⟩<;>rw[e,a]<;>decide
def Ju{n:Int}(h:n≠0):n.sign=1\/n.sign = -1:=by rcases vi n with ⟨e,_⟩|⟨e,a⟩|⟨e,_⟩<;>omega
def Db.drew{T:TypeId}{w:Z}{base:Nat}{v:Ob}{xs:List Int}(h:Db T w base v xs):Db T w.drew base v xs:=h
def OH{w c:Z}{a:Ob}{xs:List Int}(h:Db 3 c w.heap.size a ([]++xs)):Db 3 c w.heap.size a xs:=h
def lB(w:Z)(va vb:Ob)(t nb:Int)(ha:Ad w va t)(hb:Ad w vb nb)(aB:Lm Cc t)(aC:Lm Cc nb):Calls Tryz.prog 210 #[va,vb] w (Wk w (t+nb)):=by
 obtain⟨s,a,m,c,rfl,hs⟩:=ha.j;obtain⟨s',a',m',c',rfl,aV⟩:=hb.j;obtain⟨D,hD⟩:=gX (((t.natAbs:Int)-(nb.natAbs:Int)).sign);have HD:=Aa hD;have ag:=Aa aB;have ah:=Aa aC;clear hs aV hD aB aC;go_in;go_upto_if 10 with (go_at_call 250;(with_reducible refine(Cz _ (Oe #[Oa U s,O a m c]) (Oe #[Oa U s',O a' m' c']) t nb ?_ ?_).mono ?_);(refine ha.ext ?_;exact eA);(refine hb.ext ?_;exact eA);rw[HD.o];rintro e w1 ⟨rfl,z⟩;obtain⟨⟨aO,aR⟩,aI,aJ,aK⟩:=Sb w z);have r:NB w1 w.heap.size t:=(NB.new (W0:=w) ha rfl).ext eA;have aa:NB w1 (w.heap.size+1) nb:=(NB.new (W0:=w.alloc (Oc #[Oa U s,O a m c] 163)) (hb.ext eA) sM).ext eA;have ao:w1.heap[w.heap.size+1+1]?=M (Oc #[Oa U 0,O I 0 0] 163 (0,0)):=z.e (kc _ _ _ sM);have X1:Ba w w1:=eA;go_cut [4] (ZV w (t+nb))
 case first =>
  by_cases a4:D<0
  ·have ac:(t.natAbs:Int)<=nb.natAbs:=by
    have:=HD.o;rcases vi ((t.natAbs:Int)-nb.natAbs)with ⟨e,_⟩|⟨e,_⟩|⟨e,_⟩<;>omega
   go_wp2;go_meet;refine⟨nb,t,by omega,ac,ah.o,ag.o,rfl,eA,?_,?_,?_⟩
   ·exact((r.put (hb.ext X1)).other (p:=⟨w.heap.size+1,0,I⟩) sM ((aa.not.set _ _).set _ _) _).other (p:=⟨w.heap.size+1,1,I⟩) sM (((aa.not.set _ _).set _ _).set _ _) _
   ·exact((aa.other (p:=⟨w.heap.size,0,I⟩) sM r.not _).other (p:=⟨w.heap.size,1,I⟩) sM (r.not.set _ _) _).put ((ha.ext X1).keep (((Ka.refl _ w1).y r.not _).y (r.not.set _ _) _))
   ·rw[bS _ _ _ _ sM,bS _ _ _ _ sM,bS _ _ _ _ dO,bS _ _ _ _ dO];exact ao
  ·have ac:(nb.natAbs:Int)<=t.natAbs:=by
    have:=HD.o;rcases vi ((t.natAbs:Int)-nb.natAbs)with ⟨e,_⟩|⟨e,_⟩|⟨e,_⟩<;>omega
   go_wp2;go_meet;exact⟨t,nb,rfl,ac,ag.o,ah.o,rfl,X1,r,aa,ao⟩
 case rest =>
  clear r aa ao X1 z aO aR aI aJ aK ha hb ag ah HD;obtain⟨p,q,aF,al,aD,aT,rfl,hx,hp,hq,R⟩:=hcut;obtain⟨sp,ap,mp,cp,am,p0,p1,a7,a8,pz,az⟩:=hp.rd;obtain⟨sq,aq,mq,cq,an,q0,q1,a9,ba,qz,aA⟩:=hq.rd;obtain⟨xs,xl,xi,xc,xv⟩:=az.open;obtain⟨ys,yl,yi,yc,yv⟩:=aA.open;have hm:=Ar aD xc xv;have aU:=JO xc yc (by rw[xv,yv];exact al);unfold Cc at hm;rw[xl]at hm;rw[xl,yl]at aU;have hσ:=GG p q;rw[<-am,<-an]at hσ;obtain⟨σ,af⟩:=gX (sp*sq);rw[af]at hσ;have HP:=Aa aF;have ar:=Aa al;have aj:=Aa am;have aw:=Aa an;have Xl:=Aa xl;have Yl:=Aa yl;have Xv:=Aa xv;have Yv:=Aa yv;have k:=Aa R;have ai:=Aa af;have zc:=Ya R;clear aF al aD aT am an xl yl xv yv R af hp hq az aA;go_wp2_with(at_builtin;refine Pz nl Tryz.underlying47 rfl _ _ rfl rfl (Db.nil _ _ wc.heap.size) rfl xi (by rw[Xl.o];simp;omega) (nE _) ?_;intro v' w2 d L ay;replace d:=OH d;obtain⟨ga,gc,rfl⟩:=d.form;obtain⟨aP,aS⟩:=Ba.cells L);rw[Xl.o]at d ⊢;go_loopw [6] (YV wc ga gc mp mq xs ys σ) (fun t6 _=>mq-(intOf t6).toNat)
  case atStart=>exact⟨0,xs,rfl,by omega,Xl.o,d,by simp,Rj.start xc.1,L⟩
  case round =>
   clear d L ay aP aS;obtain⟨j,os,rfl,hj,aE,d,l,ak,f⟩:=hrel;have e0:=f.d p0;have e1:=f.d p1;have e2:=f.d q0;have e3:=f.d q1;have ab:=Aa aE;have au:=Aa l;clear aE l;by_cases ac:j<mq
   ·obtain⟨b,o,rfl,aX,z⟩:=(yi.ext f).open (by rw[Yl.o];omega);obtain⟨g,rfl,hg,a2⟩:=d.blk (by rw[ab.o];omega);obtain⟨y,ae⟩:∃y,ys[j]?=M y:=⟨_,gE (by rw[Yl.o];omega)⟩;obtain⟨x,ad⟩:∃x,os[j]?=M x:=⟨_,gE (by rw[ab.o];omega)⟩;have aZ:=z j y ae;have aY:=d.cell ad;have a1:=d.frozen j;have aW:=yc.1 y (lM ae);have a6:=(ak j x ad).2.2 (nE _);unfold C4 at aW;obtain⟨u,hu⟩:=gX (σ*y);have a5:-10000<=u/\u<=10000:=by rcases hσ with h|h|h<;>subst h<;>omega
    have aL:=Aa ae;have ax:=Aa ad;have af:=ai.o;have g0:(0:Int)<=(j:Int):=oM;have g1:(j:Int)<(mq:Int):=oM;have g2:(j:Int)<(mp:Int):=oM;clear z ae ad;go_wp2;refine Ai (fun i=>decide (18<i)) (Ea [(⟨g,j,I⟩,Oa U x),(⟨w.heap.size,0,I⟩,Oa U sp),(⟨w.heap.size+1,0,I⟩,Oa U sq),(⟨w.heap.size+1,1,I⟩,O (M ⟨b,o,I⟩) mq cq),(⟨b,o+j,I⟩,Oa U y)]) kM ?_ (fun aM=>?_)
    ·exact cA
    refine sN 0 ?_
    (iterate 19 refine qi ?_);refine oN ?_;refine kd (i:=19) fun K hK=>?_;go_simp;refine kO hK (fun h=>nomatch h) (fun aM=>?_);clear hK K;refine Jb kM ?_ _;go_wp2;go_roundw
    case rel =>
     exact⟨j+1,os.set j (x+σ*y),by go_num,by omega,by simp[ab.o],(d.stored j _).drew,WP ax.o aL.o au.o,ak.step ax.o (by rw[hu];omega) (by rw[hu];omega),(f.set (p:=⟨g,j,I⟩) hg _).drew⟩
    case measure=>simp[intOf];omega
   ·obtain rfl:j=mq:=oM;have l:dv C4 os=(p.natAbs:Int)+σ*(q.natAbs:Int):=by
     rw[au.o,Xv.o,lT (by rw[Yl.o];omega),Yv.o]
    obtain⟨v0,v1⟩:=uL p q ar.o;rw[<-aj.o,<-aw.o,ai.o,<-l]at v0;rw[<-aj.o,<-aw.o,ai.o,<-l]at v1;have V1:=Aa v1;have av:=Aa l;have r0:=Da (f.e k.o) (i:=0) (u:=Oa U 0) rfl;have r1:=Da (f.e k.o) (i:=1) (u:=O I 0 0) rfl;have bb:=Za (f.e k.o) 0;have bc:=Za (f.e k.o) 1;have zr:=Ya (f.e k.o);have XW:Ba w wr:=hx.trans f;clear l v1;go_wp2_with(go_at_call 213;(with_reducible refine(Gx _ sp _ os (t+nb) d.ints (by rw[ab.o];omega) ak.big v0 (by rw[V1.o,HP.o]) (fun h9=>?_)).mono ?_);(rw[aj.o];refine Ju (fun h8=>h9 ?_);have:=ar.o;rw[av.o];rw[h8]at this ⊢;simp at this ⊢;rw[this];simp);rintro e w3 ⟨r3,rfl,aG,aH⟩;obtain⟨s3,a3,m3,c3,rfl,-⟩:=aG.j;obtain⟨aQ,a0⟩:=aH.cells);refine bR (v:=Oe #[Oa U s3,O a3 m3 c3]) (by simp[results,Tryz.results210,go_sem,aQ,zr,r0,r1]) rfl ⟨_,rfl,(aG.keep (Ip (aH.e (f.e k.o)) _ _)).mono XW.size,eA⟩
def pO(w:Z)(e f:Ob)(a nb:Int)(g:Ad w e a)(i:Ad w f nb)(c:Lm Cc a)(d:Lm Cc nb):Calls Tryz.prog 210 #[e,f] w (Vh w (a+nb)):=Cw (lB w e f a nb g i c d)
def YA(w:Z)(va vb:Ob)(l nb:Int)(z:Ad w va l)(K:Ad w vb nb)(d:Lm Cc l)(f:Lm Cc nb):Calls Tryz.prog 212 #[va,vb] w (Wk w (l-nb)):=by
 obtain⟨s,a,m,c,rfl,hs⟩:=z.j;obtain⟨R,x,L,y,rfl,t⟩:=K.j;have o:=Aa d;have p:=Aa f.neg;rw[Int.sub_eq_add_neg];clear hs t d f;go_in;go_wp2;go_region_held3 (fun W=>W.cell? ⟨w.heap.size,0,I⟩=M (Oa U s)/\W.cell? ⟨w.heap.size,1,I⟩=M (O a m c)/\W.cell? ⟨w.heap.size+1,0,I⟩=M (Oa U R)/\W.cell? ⟨w.heap.size+1,1,I⟩=M (O x L y)) ((repeat' (with_reducible refine And.intro ?_ ?_))<;>(first|(go_simp;done)|(refine hx1.d ?_;go_simp;done))) (first|((go_at_call 211;(with_reducible refine(Us _ (Oe #[Oa U R,O x L y]) nb ?_).mono ?_);(refine K.ext ?_;exact eA);rintro e w1 ⟨r1,rfl,g,hx1⟩;obtain⟨s1,a1,m1,c1,rfl,-⟩:=g.j;obtain⟨⟨q,ae⟩,aa,ab,j⟩:=Sb w hx1))|((go_at_call 210;(with_reducible refine(lB _ (Oe #[Oa U s,O a m c]) (Oe #[Oa U s1,O a1 m1 c1]) l (-nb) ?_ ?_ o.o p.o).mono ?_);(refine z.ext ?_;exact eA);(refine g.ext ?_;exact eA);rintro e w2 ⟨r2,rfl,i,u⟩;obtain⟨s2,a2,m2,c2,rfl,-⟩:=i.j;obtain⟨⟨r,af⟩,ac,ad,k⟩:=Sb w u)))
 all_goals go_wp2
 exact bR (v:=Oe #[Oa U s2,O a2 m2 c2]) (by simp[results,Tryz.results212,go_sem,q,r,j,k]) rfl ⟨_,rfl,(i.keep kA).mono (by have:=hx1.size;simp at this;omega),eA⟩
def ly(w:Z)(e f:Ob)(a nb:Int)(g:Ad w e a)(i:Ad w f nb)(c:Lm Cc a)(d:Lm Cc nb):Calls Tryz.prog 212 #[e,f] w (Vh w (a-nb)):=Cw (YA w e f a nb g i c d)
def MI(s:Int)(a:Option Oh)(m c:Nat)(w:Z):(Instr.field 163 (Oe #[Oa U s,O a m c]) 0).run Tryz.prog w = .ok (Oa U s) w:=kM
def ID(w:Z)(r t:Ob)(i nb:Int)(p:Ad w r i)(q:Ad w t nb)(d:Lm Cc i)(f:Lm Cc nb):Calls Tryz.prog 179 #[r,t] w fun e w'=>e=.returned (Oa U (i-nb).sign)/\Ba w w':=by obtain⟨s,a,m,c,rfl,R⟩:=p.j;obtain⟨s',x,m',y,rfl,l⟩:=q.j;have j:=Aa d;have k:=Aa f;clear R l d f;have L:=MI;go_in;go_wp2_with((go_at_call 212;(with_reducible refine(ly _ (Oe #[Oa U s,O a m c]) (Oe #[Oa U s',O x m' y]) i nb ?_ ?_ j.o k.o).mono ?_);(refine p.ext ?_;exact eA);(refine q.ext ?_;exact eA);rintro e w1 ⟨r1,rfl,g,o⟩;obtain⟨s1,a1,m1,c1,rfl,-⟩:=g.j;obtain⟨⟨z,K⟩,u,v⟩:=Mb w o));go_ret;exact⟨Uj (tk (g.sgn)),eA⟩
end
section
open Go.RowKit Go.Shelf
def Cj(md:Region.Mode)(ops:Array Oper)(pv i:Nat):Bool:=match ops[pv]? with|some o=>o.after.toList.any (fun e=>Region.binds md e&&e.on==i)|none=>false
section
variable {P:Program} {ops:Array Oper} {Q:Exit->Of->Z->Prop} {md:Region.Mode} {A B:Z->Prop} {pv:Nat}
def HV(P:Program)(md:Region.Mode)(ops:Array Oper)(Q:Exit->Of->Z->Prop)(A B:Z->Prop)(pv:Nat):Nat->Array Bool->Of->Z->Prop
 | 0,c,a,w=>Region.ready md ops c=[]/\Q .normal a w
 | fuel+1,c,a,w =>
  (Region.ready md ops c=[]->Q .normal a w)/\
  ∀i∈Region.ready md ops c,wpOp P ops Q i (fun e d=>(A d/\((c.setIfInBounds i true).getD pv false=false->B d))/\HV P md ops Q A B pv fuel (c.setIfInBounds i true) e d) a w
def MF:∀(fuel:Nat)(c:Array Bool)(a:Of)(w:Z),HV P md ops Q A B pv fuel c a w->wpAny P md ops Q fuel c a w
 | 0,_,_,_,h=>h
 | fuel+1,_,_,_,h=>⟨h.1,fun i f=>wpOp_mono (fun d g e=>MF fuel _ d g e.2) (h.2 i f)⟩
def UB{a:Array Bool}{i:Nat}(j:Cl md ops a)(c:Cj md ops pv i=true)(hi:a.getD i true=false):a.getD pv false=false:=by
 cases h:a.getD pv false with
 | false=>rfl
 |true=>
  unfold Cj at c;cases ho:ops[pv]? with
  | none=>rw[ho]at c;cases c
  | some o =>
   rw[ho]at c;obtain⟨e,k,g⟩:=List.any_eq_true.1 c;rw[Bool.and_eq_true,beq_iff_eq]at g;have d:=j pv o ho h e (by simpa using k) g.1;rw[g.2]at d;rcases Nat.lt_or_ge i a.size with f | f
   ·simp[f]at hi d;rw[hi]at d;cases d
   ·simp[Array.getElem?_eq_none f]at hi
def ZM{i:Nat}{oi:Oper}{v:Ob}{f:Bool}(ag:i≠pv)(he:f=true->Cj md ops pv i=true)(hi:ops[i]?=M oi)(x:∀(j:Nat)(o:Oper) R b,ops[j]?=M o->o.op ≠ .select R b)(hQ:∀c a w,Q (.panic c) (a.put oi.dst v) w->Q (.panic c) a w):∀(fuel:Nat)(d:Array Bool)(a:Of)(w:Z),Cl md ops d ->(∀j oj,ops[j]?=M oj->j≠i->d.getD j true=false->(∀e∈oj.after,Region.binds md e=true->e.on≠i)->oi.apart ops oj=true) ->i∈Region.ready md ops d->YieldsIf P ops (fun w=>A w/\(f=true->B w)) oi v a->(A w/\(d.getD pv false=false->B w)) ->HV P md ops Q A B pv fuel (d.setIfInBounds i true) (a.put oi.dst v) w->HV P md ops Q A B pv (fuel+1) d a w:=by
 have q:∀l:Array Bool,(l.setIfInBounds i true).getD pv false=l.getD pv false:=fun l=>getD_set_ne false ag;intro fuel;induction fuel with
 |zero=>
  intro d a w hc _ t hy r H;have K:A w/\(f=true->B w):=⟨r.1,fun h=>r.2 (UB hc (he h) (mem_ready.1 t).1)⟩;refine⟨fun h=>(by rw[h]at t;cases t),fun j hj=>?_⟩;by_cases g:j=i
  ·subst g;exact hy.wpOp hi K ⟨⟨r.1,fun h=>r.2 (by rw[q]at h;exact h)⟩,H⟩
  ·have:=ready_mono hj g;rw[H.1]at this;cases this
 | succ fuel ih =>
  intro d a w hc p t hy r H;have K:A w/\(f=true->B w):=⟨r.1,fun h=>r.2 (UB hc (he h) (mem_ready.1 t).1)⟩;refine⟨fun h=>(by rw[h]at t;cases t),fun j hj=>?_⟩;by_cases g:j=i
  ·subst g;exact hy.wpOp hi K ⟨⟨r.1,fun h=>r.2 (by rw[q]at h;exact h)⟩,H⟩
  ·have y:=H.2 j (ready_mono hj g);obtain⟨u,oj,L,ab⟩:=mem_ready.1 hj;have ad:∀e∈oj.after,Region.binds md e=true->e.on≠i:=fun e he hb af=>by
    have y:=ab e he hb;have h0:=(mem_ready.1 t).1;rw[af]at y;rcases Nat.lt_or_ge i d.size with h' | h'
    ·simp[h']at h0 y;rw[h0]at y;cases y
    ·simp[Array.getElem?_eq_none h']at y
   have h2:=wpOp_putIf L (p j oj L g u ad) (fun R b=>x i oi R b hi) (fun R b=>x j oj R b L) hQ hy y;have s:∀k ok,ops[k]?=M ok->k≠i->(d.setIfInBounds j true).getD k true=false ->
     (∀e∈ok.after,Region.binds md e=true->e.on≠i)->oi.apart ops ok=true:=fun k ok hk ah ae ai=>by
    refine p k ok hk ah ?_ ai;by_cases ac:j=k
    ·subst ac;exact u
    ·rw[getD_set_ne true ac]at ae;exact ae
   refine wpOp_mono (fun a' w' h3=>?_) h2;obtain⟨aj,⟨aa,z⟩,hH⟩:=h3;rw[Array.setIfInBounds_comm _ _ (Ne.symm g),q]at z;refine⟨⟨aa,z⟩,ih (d.setIfInBounds j true) a' w' (hc.step hj) s (ready_mono t (Ne.symm g)) aj ⟨aa,z⟩ ?_⟩;rw[Array.setIfInBounds_comm _ _ g];exact hH
def Gr(P:Program)(md:Region.Mode)(ops:Array Oper)(Q:Exit->Of->Z->Prop)(A B:Z->Prop)(pv:Nat)(fuel:Nat)(c:Array Bool)(a:Of)(w:Z):Prop:=Cl md ops c->HV P md ops Q A B pv fuel c a w
def oq{c:Array Bool}{a:Of}{w:Z}(d:Region.ready md ops c=[])(h:Q .normal a w):∀fuel,Gr P md ops Q A B pv fuel c a w
 | 0=>fun _=>⟨d,h⟩
 | _+1=>fun _=>⟨fun _=>h,by rw[d];simp⟩
def Sj{v:Ob}{i:Nat}{oi:Oper}{fuel:Nat}{d:Array Bool}{a:Of}{w:Z}(e:Bool){G:Prop}(h:G)(j:i≠pv:=by decide)(t:e=true->Cj md ops pv i=true:=by(intro h;first|(cases h;done)|kernel_rfl))(hi:ops[i]?=M oi:=by(simp only[gA,gS,gZ];rfl))(o:Region.noSelect ops=true:=by kernel_rfl)(p:Region.free md ops d i=true:=by kernel_rfl)(q:(Region.ready md ops d).contains i=true:=by kernel_rfl)(h4:∀c a w,Q (.panic c) (a.put oi.dst v) w->Q (.panic c) a w:=by exact fun _ _ _ h=>h)(u:Region.wanted oi (yielded ops a.tmps)=true:=by rfl)(x:∀w,A w->(e=true->B w)->(execOp a.eval oi).run P w = .ok (.value v) w:=by(intro w g f;(first|(have f:=f rfl;simp only[Ea,and_true]at g f)|(simp only[Ea,and_true]at g));go_simp;try(with_reducible rfl)))(h6:A w:=by(with_reducible assumption))(r:d.getD pv false=false->B w:=by(first|exact fun _=>(by with_reducible assumption)|exact fun h=>nomatch h))(s:Gr P md ops Q A B pv fuel (d.setIfInBounds i true) (a.put oi.dst v) w=G:=by((try simp only[Act.put,sA,sZ,sS]);rfl)):Gr P md ops Q A B pv (fuel+1) d a w:=by
 subst s;intro k;have l:i∈Region.ready md ops d:=by simpa using q
 exact ZM j t hi (Region.noSelect_spec o) h4 fuel d a w k (Region.free_spec hi p) l (Or.inl ⟨u,fun w h=>x w h.1 h.2⟩) ⟨h6,r⟩ (h (k.step l))
def KG{i:Nat}{o:Oper}{fuel:Nat}{c:Array Bool}{a:Of}{w:Z}(h:∀K':Of->Z->Prop,Shut (∀a w,(A w/\((c.setIfInBounds i true).getD pv false=false->B w))->((A w/\((c.setIfInBounds i true).getD pv false=false->B w))->Gr P md ops Q A B pv fuel (c.setIfInBounds i true) a w)->K' a w)->if Region.wanted o (yielded ops a.tmps)=true then Oper.wp P o a w K' Q else K' (a.put o.dst undef) w)(hi:ops[i]?=M o:=by(simp only[gA,gS,gZ];rfl))(g:Region.ready md ops c=[i]:=by kernel_rfl):Gr P md ops Q A B pv (fuel+1) c a w:=by intro q;refine⟨fun k=>absurd (g▸k) sM,fun j d=>?_⟩;have e:=d;rw[g]at d;cases List.mem_singleton.1 d;exact wpOp_step hi (fun K' l=>h K' (fun a w f p=>l a w ⟨f,p f (q.step e)⟩))
def VS{f:Nat}{a:Of}{w:Z}(A B:Z->Prop)(pv:Nat)(e:P.follows .mixedOrders=true)(c:A w.drew)(d:B w.drew)(h:A w.drew->B w.drew->Gr P .any ops Q A B pv ops.size (Array.replicate ops.size false) a w.drew):(Code.region f ops true).wp P Q a w:=
 wp_region_any e (MF _ _ _ _ (h c d (Cl.start _)))
end
end
section
open Go.RowKit Go.Shelf Go.Sort Go.Lib
def Fa.keepT{T T':TypeId}{k:Nat}{w w':Z}{base:Nat}{v:Ob}{cs:List (List Ob)}(h:Fa T k w base v cs)(g:T≠T')(d:w.grownBy w' v.ownBlock):Ka T' w w':=fun b q r a=>by
 rw[d.block b (Ya a) (fun e=>?_)];exact a;rcases h.2.2 with ⟨f,_⟩|⟨s,c,cur,hv,d,l,o,i,j,p⟩
 ·rw[f]at e;cases e
 ·rw[hv]at e;cases e;rw[l]at a;cases a;exact g rfl
def Jf(w:Z)(base:Nat)(v:Ob)(a:List Rat):Prop:=∃cs,Fa 181 3 w base v cs/\cs.length=a.length/\∀(i:Nat) c q,cs[i]?=M c->a[i]?=M q->PR w c q
def Jf.rs{w:Z}{base:Nat}{v:Ob}{a:List Rat}(h:Jf w base v a):Yh w v a:=by obtain⟨f,c,d,e⟩:=h;exact c.sl d e
def Jf.ext{w w':Z}{base:Nat}{v:Ob}{a:List Rat}(h:Jf w base v a)(k:Ba w w'):Jf w' base v a:=by obtain⟨d,e,f,g⟩:=h;exact⟨d,e.ext k,f,fun i c q j l=>Cb.ext (g i c q j l) k⟩
def Jf.mono{w:Z}{base b':Nat}{v:Ob}{a:List Rat}(h:Jf w base v a)(k:b'<=base):Jf w b' v a:=by obtain⟨c,d,e,f⟩:=h;exact⟨c,d.mono k,e,f⟩
def Jf.nil(w:Z)(base:Nat):Jf w base (O I 0 0) []:=⟨[],Fa.nil _ _ _ _,rfl,fun i c q a=>by simp at a⟩
def qp(w:Z)(a:List Rat)(e:Ending)(w':Z):Prop:=∃v,e=.returned v/\Jf w' w.heap.size v a/\Ba w w'
def rJ:(Tryz.prog.info? 181).map (fun i=>(i.zero,i.size,i.bytes))=M (M (Oe #[O I 0 0,Od false,O I 0 0]),3,56):=kM
def Rb.atE{x:Rat}{e:ll}(q:Rb 1 x)(h:Bd 104000 e.1.1/\Bd 104000 e.1.2/\Bd 104000 e.2.1/\Bd 104000 e.2.2):Rb 11 (Cop.uq x e):=by
 obtain⟨o,p,r,s⟩:=h;have i:Bd 208000 (e.2.2-e.1.2):=by unfold Bd at *;omega
 have l:Bd 208000 (e.2.1-e.1.1):=by unfold Bd at *;omega
 unfold Cop.uq;have a:=Rb.sub (k:=1) q (Bi o);have c:=Rb.mul (j:=3) (k:=1) a (Bi i);have d:=Rb.div (j:=4) (k:=1) c (Bi l) oM;have f:=(Bi p).mono (k:=5) oM;have g:=Rb.add (k:=5) f d;exact g
def Rb.atR{x:Rat}{ps:LP}(d:Rb 1 x)(h:je ps):Rb 11 (Cop.Lh ps x):=by
 unfold Cop.Lh;cases hf:(rW ps).find? (Aj x)with
 | some e=>exact d.atE (Pw h.2.1 (List.mem_of_find?_eq_some hf))
 |none=>
  have f:0<ps.length:=by
   rcases Nat.eq_zero_or_pos ps.length with a|a
   ·exact absurd (List.eq_nil_of_length_eq_zero a) h.1
   ·exact a
  have c:ps.getD (ps.length-1) (0,0)∈ps:=by
   rw[gD,gE oM,Option.getD_some];exact List.getElem_mem _
  exact(Bi (h.2.1 _ c).2).mono oM
def iE{ps:LP}(h:je ps):Bd 104000 (yb ps)/\Bd 104000 (Vb ps):=by
 have e:0<ps.length:=by
  rcases Nat.eq_zero_or_pos ps.length with a|a
  ·exact absurd (List.eq_nil_of_length_eq_zero a) h.1
  ·exact a
 have c:∀i,i<ps.length->ps.getD i (0,0)∈ps:=fun i d=>by
  rw[gD,gE d,Option.getD_some];exact List.getElem_mem _
 exact⟨(h.2.1 _ (c 0 e)).1,(h.2.1 _ (c _ oM)).1⟩
def Ld(ps a:LP):Sp:=⟨ps,a,max (yb ps) (yb a),min (Vb ps) (Vb a)⟩
def qj(s:Sp)(a c:Ob):Ob:=Oe #[a,c,Oa U s.lo,Oa U s.hi]
def An(w:Z)(a c:Ob)(s:Sp)(e:Ending)(w':Z):Prop:=e=.returned (Oi #[qj s a c,Od (decide (s.lo<s.hi))])/\Ba w w'
def mw(w:Z)(v1 v2:Ob)(ps k:LP)(h1:Ja w v1 ps)(h2:Ja w v2 k)(k1:0<ps.length)(k2:0<k.length):Calls Tryz.prog 183 #[v1,v2] w (An w v1 v2 (Ld ps k)):=by
 have H1:=Aa (fun(W:Z)(c:Ba w W)=>Mp W v1 ps (h1.f c) k1);have H2:=Aa (fun(W:Z)(c:Ba w W)=>Mp W v2 k (h2.f c) k2);have H3:=Aa (fun(W:Z)(c:Ba w W)=>yr W v1 ps (h1.f c) k1);have H4:=Aa (fun(W:Z)(c:Ba w W)=>yr W v2 k (h2.f c) k2);obtain⟨p,x,rfl⟩:=h1.form;obtain⟨r,y,rfl⟩:=h2.form;obtain⟨R,hR⟩:=gX (An w (O p ps.length x) (O r k.length y) (Ld ps k));rw[hR];have HR:=Aa hR;clear hR;unfold Ld at HR;obtain⟨l1,e1⟩:=gX (yb ps);obtain⟨l2,e2⟩:=gX (yb k);obtain⟨r1,e3⟩:=gX (Vb ps);obtain⟨r2,e4⟩:=gX (Vb k);obtain⟨n1,f1⟩:=gX ps.length;obtain⟨n2,f2⟩:=gX k.length;rw[e1,e2,e3,e4]at HR;rw[e1]at H1;rw[e2]at H2;rw[e3]at H3;rw[e4]at H4;simp only[f1,f2]at H1 H2 H3 H4 HR h1 h2 ⊢;clear e1 e2 e3 e4 f1 f2 h1 h2 k1 k2;go_in;go_wp2_with(first|(go_at_call 157;(with_reducible refine(H1.o _ ?_).mono ?_);exact eA;rintro e w3 ⟨rfl,d⟩;obtain⟨ae,ai⟩:=d.cells)|(go_at_call 157;(with_reducible refine(H2.o _ ?_).mono ?_);exact eA;rintro e w4 ⟨rfl,f⟩;obtain⟨af,aj⟩:=f.cells)|(go_at_call 158;(with_reducible refine(H3.o _ ?_).mono ?_);exact eA;rintro e w5 ⟨rfl,g⟩;obtain⟨ag,ak⟩:=g.cells)|(go_at_call 158;(with_reducible refine(H4.o _ ?_).mono ?_);exact eA;rintro e z ⟨rfl,j⟩;obtain⟨ah,al⟩:=j.cells));obtain⟨t,ab⟩:=gX (max l1 l2);obtain⟨s,aa⟩:=gX (min r1 r2);rw[ab,aa]at HR ⊢;have ac:Ba w z:=(((((eR w).alloc _).trans d).trans f).trans g).trans j;have ao:w.heap.size<z.heap.size:=by have:=d.size;have:=f.size;have:=g.size;have:=j.size;simp only[wZ]at *;omega
 have hO:z.heap[w.heap.size]?=M (Oc #[O I 0 0,O I 0 0,Oa U 0,Oa U 0] 265 (0,0)):=j.e (g.e (f.e (d.e (aN _ _))));clear ae ai af aj ag ak ah al H1 H2 H3 H4 ab aa d f g j;obtain⟨W,c⟩:=gX ((z.alloc (Oc #[O p n1 x,O r n2 y,Oa U t,Oa U s] 265)));have L:W.heap[z.heap.size]?=M (Oc #[O p n1 x,O r n2 y,Oa U t,Oa U s] 265 (0,0)):=by rw[<-c];exact aN _ _
 have a:W.heap[w.heap.size]?=M (Oc #[O I 0 0,O I 0 0,Oa U 0,Oa U 0] 265 (0,0)):=by rw[<-c];exact((eR z).alloc _).e hO
 have an:Ba w W:=by rw[<-c];exact ac.alloc _
 rw[c];clear c hO ac;have b0:=Da L (i:=0) (u:=O p n1 x) rfl;have b1:=Da L (i:=1) (u:=O r n2 y) rfl;have b2:=Da L (i:=2) (u:=Oa U t) rfl;have b3:=Da L (i:=3) (u:=Oa U s) rfl;have f0:=Za a 0;have f1:=Za a 1;have f2:=Za a 2;have f3:=Za a 3;have o0:=Da a (i:=0) (u:=O I 0 0) rfl;have o1:=Da a (i:=1) (u:=O I 0 0) rfl;have o2:=Da a (i:=2) (u:=Oa U 0) rfl;have o3:=Da a (i:=3) (u:=Oa U 0) rfl;have HB:=Aa L;clear L a;obtain⟨o,am⟩:=gX z.heap.size;simp only[am]at *;refine od [(⟨o,0,I⟩,O p n1 x),(⟨o,1,I⟩,O r n2 y),(⟨o,2,I⟩,Oa U t),(⟨o,3,I⟩,Oa U s)] cA fun ad=>?_;refine sN 0 ?_
 iterate 6 refine ub ?_
 refine oN ?_;have l:∀q∈[((⟨o,0,I⟩:Oh),Value.slice p n1 x),(⟨o,1,I⟩,O r n2 y),(⟨o,2,I⟩,Oa U t),(⟨o,3,I⟩,Oa U s)],w.heap.size≠q.1.block:=by
  intro q hq;simp at hq;rcases hq with rfl|rfl|rfl|rfl<;>(dsimp only;omega)
 refine ye (i:=6) fun K hK=>?_;go_simp;refine kO hK ((((Ea.set (by assumption) l _).set l _).set l _).set l _) (fun ad=>?_);clear hK K;refine Qa (i:=7) ?_;refine Tb ?_;go_wp2;refine bR (v:=Oi #[Oe #[O p n1 x,O r n2 y,Oa U t,Oa U s],Od (decide (t<s))]) (by simp[results,Tryz.results183,go_sem,o0,o1,o2,o3,f0,f1,f2,f3]) rfl ?_;rw[<-HR.o];exact⟨rfl,((((an.set dO _).set dO _).set dO _).set dO _).drew⟩
def Ea.grown:∀{L:List (Oh×Ob)}{W W':Z}{row:Option Nat},Ea L W->W.grownBy W' row->(∀q∈L,M q.1.block≠row)->Ea L W'
 | [],_,_,_,_,_,_=>trivial
 | (a,v)::r,W,W',row,⟨h1,h2⟩,hg,hn=>by
  refine⟨?_,h2.grown hg (fun q d=>hn q (mC _ d))⟩;have c:=World.block_lt_of_cell? _ _ h1;rw[<-h1];unfold World.cell?;rw[hg.block _ c (hn (a,v) sM)]
def sL(t:Array Ob)(n:Nat)(h:t.size=n):t=((List.range n).map fun k=>t.getD k undef).toArray:=by
 apply Array.ext
 ·simp[h]
 ·intro i a c;simp[Array.getD,a]
def Kk{W:Z}{b:Nat}{cs:Array Ob}{T:TypeId}{a:Nat×Nat}(h:W.heap[b]?=M (Oc cs T a))(i:Nat)(u:Ob):(W.setCell ⟨b,i,I⟩ u).heap[b]?=M (Oc (cs.setIfInBounds i u) T a):=by simp[World.setCell,Array.getElem?_modify,h]
def zE(w:Z)(o a:Obj):((w.alloc o).alloc a).heap[w.heap.size]?=M o:=by rw[ig,if_neg sM];exact aN w o
def Ms(w:Z)(o a:Obj):((w.alloc o).alloc a).heap[w.heap.size+1]?=M a:=kc _ _ _ sM
def Jg(t:Array Ob)(n:Nat)(h:t.size=n):∃u:Nat->Ob,(∀k,t.getD k undef=u k)/\t=((List.range n).map u).toArray:=⟨fun k=>t.getD k undef,fun _=>rfl,sL t n h⟩
def UC(w:Z)(o a:Obj):((w.alloc o).alloc a).heap[w.heap.size]?=M o:=by rw[ig,if_neg sM];exact aN w o
def Gy(w:Z)(o a:Obj):((w.alloc o).alloc a).heap[w.heap.size+1]?=M a:=kc _ _ _ sM
end
section
open Go.RowKit Go.Shelf
section
variable {P:Program} {ops:Array Oper} {Q:Exit->Of->Z->Prop} {md:Region.Mode} {A B C:Z->Prop} {pv pc:Nat}
def Sz(A B C:Z->Prop)(pv pc:Nat)(a:Array Bool)(w:Z):Prop:=A w/\(a.getD pv false=false->B w)/\(a.getD pc false=false->C w)
def HX(P:Program)(md:Region.Mode)(ops:Array Oper)(Q:Exit->Of->Z->Prop)(A B C:Z->Prop)(pv pc:Nat):Nat->Array Bool->Of->Z->Prop
 | 0,c,a,w=>Region.ready md ops c=[]/\Q .normal a w
 | fuel+1,c,a,w =>
  (Region.ready md ops c=[]->Q .normal a w)/\
  ∀i∈Region.ready md ops c,wpOp P ops Q i (fun e d=>Sz A B C pv pc (c.setIfInBounds i true) d/\HX P md ops Q A B C pv pc fuel (c.setIfInBounds i true) e d) a w
def Sz.step{a:Array Bool}{w:Z}(c:A w)(d:a.getD pv false=false->B w)(e:a.getD pc false=false->C w):Sz A B C pv pc a w:=⟨c,d,e⟩
end
section
variable {P:Program} {ops:Array Oper} {Q:Exit->Of->Z->Prop} {md:Region.Mode} {S:Z->Prop} {fl:List (Nat×Tmp×Obj)} {w0:Z} {late:Nat->Bool}
def Wl(fl:List (Nat×Tmp×Obj))(i:Nat):Bool:=fl.any (·.1==i)
def Ej(md:Region.Mode)(ops:Array Oper)(fl:List (Nat×Tmp×Obj))(L:Array Bool):List Nat:=(Region.ready md ops L).filter fun i=>!Wl fl i
def kq(ops:Array Oper)(f:Nat):Option Tmp:=(ops[f]?).bind (·.dst)
def Ek(b:Nat):List (Nat×Nat)->Prop
 | []=>True
 | x::l=>(b<x.1\/x.2<=b)/\Ek b l
def nj(P:Program)(md:Region.Mode)(ops:Array Oper)(Q:Exit->Of->Z->Prop)(S:Z->Prop)(w0:Z)(k:Nat)(c:List (Nat×Nat)):List (Nat×Tmp×Obj)->List Nat->Array Bool->Of->Z->Prop
 | [],_,L,a,W=>wpAnyH P md ops Q S k L a W
 | (f,d,o)::fl,bs,L,a,W=>∀b,W.heap[b]?=M o->w0.heap.size<=b->b ∉ bs->Ek b c->nj P md ops Q S w0 k c fl (b::bs) (L.setIfInBounds f true) (a.put (M d) (Og (M ⟨b,0,I⟩))) W
def Nl(a:List (Nat×Nat))(w0 W w':Z):Prop:=Ba w0 w'/\W.heap.size<=w'.heap.size/\∀k,k<W.heap.size->Ek k a->w'.heap[k]?=W.heap[k]?
def Nl.of{d:List (Nat×Nat)}{w0 W w':Z}(a:Ba w0 W)(h:Ba W w'):Nl d w0 W w':=⟨a.trans h,h.size,fun k c _=>h.block c⟩
def GF(P:Program)(md:Region.Mode)(ops:Array Oper)(Q:Exit->Of->Z->Prop)(S:Z->Prop)(d:Nat->Bool)(fl:List (Nat×Tmp×Obj))(w0:Z):Nat->List (Nat×Nat)->Array Bool->Of->Z->Prop
 | 0,f,L,a,w=>Ej md ops fl L=[]/\∀W,Ba w W->Ba w0 W->nj P md ops Q S w0 0 f fl [] L a W
 | k+1,f,L,a,w=>((Ej md ops fl L=[]->∀W,Ba w W->Ba w0 W->nj P md ops Q S w0 (k+1) f fl [] L a W)/\(∀i∈Ej md ops fl L,d i=false)/\
   ∀i∈Ej md ops fl L,∀W,Ba w W->Ba w0 W->wpOp P ops Q i (fun l g=>Nl f w0 W g/\GF P md ops Q S d fl w0 k ((W.heap.size,g.heap.size)::f) (L.setIfInBounds i true) l g) a W) \/
  (∃i oi v,ops[i]?=M oi/\i∈Ej md ops fl L/\(∀j oj,ops[j]?=M oj->j≠i->L.getD j true=false->(∀e∈oj.after,Region.binds md e=true->e.on≠i)->oi.apart ops oj=true)/\
   (∀c a w,Q (.panic c) (a.put oi.dst v) w->Q (.panic c) a w)/\YieldsIf P ops S oi v a/\GF P md ops Q S d fl w0 k f (L.setIfInBounds i true) (a.put oi.dst v) w)
def GF.later{c:Nat->Bool}:∀{k:Nat}{e:List (Nat×Nat)}{L:Array Bool}{a:Of}{w W:Z},Ba w W->GF P md ops Q S c fl w0 k e L a w->GF P md ops Q S c fl w0 k e L a W
 | 0,_,_,_,_,_,h,H=>⟨H.1,fun V d=>H.2 V (h.trans d)⟩
 | _+1,_,_,_,_,_,h,.inl H=>.inl ⟨fun q V d=>H.1 q V (h.trans d),H.2.1,fun i p V d=>H.2.2 i p V (h.trans d)⟩
 | _+1,_,_,_,_,_,h,.inr ⟨i,r,v,f,g,j,l,o,h6⟩=>.inr ⟨i,r,v,f,g,j,l,o,GF.later h h6⟩
def Ng{i:Nat}{L:Array Bool}:i∈Ej md ops fl L ↔ i∈Region.ready md ops L/\Wl fl i=false:=by unfold Ej;rw[List.mem_filter];simp
def Hi(md:Region.Mode)(ops:Array Oper)(late a:Nat->Bool)(n:Nat):Bool:=
 (List.range ops.size).all fun j=>!late j || ((List.range ops.size).all fun i=>late i || a i || (Nk md ops n j).contains i)
def GS{late d:Nat->Bool}{a:Array Bool}{m i j:Nat}(q:Hi md ops late d m=true)(u:Cl md ops a)(hi:i∈Region.ready md ops a)(x:late i=false)(v:d i=false)(w:j∈Region.ready md ops a):late j=false:=by
 cases hlj:late j with
 | false=>rfl
 |true=>
  exfalso;obtain⟨s,z,f,e⟩:=mem_ready.1 w;obtain⟨c,y,r,_⟩:=mem_ready.1 hi;unfold Hi at q;rw[List.all_eq_true]at q;have k:=q j (List.mem_range.2 (Array.getElem?_eq_some_iff.1 f).1);rw[hlj]at k;simp only[Bool.not_true,Bool.false_or,List.all_eq_true]at k;have l:=k i (List.mem_range.2 (Array.getElem?_eq_some_iff.1 r).1);rw[x,v]at l;simp only[Bool.false_or,List.contains_eq_mem,decide_eq_true_eq]at l;have p:=Qv u m j (fun o t=>by rw[f]at t;cases t;exact e) i l;rcases Nat.lt_or_ge i a.size with g | g
  ·simp[g]at p c;rw[p]at c;cases c
  ·simp[Array.getElem?_eq_none g]at p
def si(md:Region.Mode)(ops:Array Oper)(c:List (Nat×Tmp))(late a:Nat->Bool)(n:Nat):Bool:=
 Hi md ops late a n&&c.all (fun f=>!late f.1&&!a f.1&&(Cg md ops f.1).isEmpty&&decide (f.1<ops.size)&&kq ops f.1==M f.2)&&decide (c.map (·.1)).Nodup&&decide (c.map (·.2)).Nodup &&
 (List.range ops.size).all fun i=>late i || c.any (·.1==i) || c.all fun f=>!(Cg md ops i).contains f.1&&(match ops[f.1]?,ops[i]? with|some x,M y=>x.apart ops y|_,_=>true)
def tu(P:Program)(ops:Array Oper)(f:Nat)(o:Obj):Prop:=∃x,ops[f]?=M x/\x.guard=I/\∀(a:Of)(W:Z),(execOp a.eval x).run P W = .ok (.value (Og (M ⟨W.heap.size,0,I⟩))) (W.alloc o)
def nN{j:Nat}{oi k:Oper}{v:Ob}(R:ops[j]?=M k)(s:oi.apart ops k=true)(p:∀cs b,k.op ≠ .select cs b)(z:∀c a w,Q (.panic c) a w->Q (.panic c) (a.put oi.dst v) w){K:Of->Z->Prop}{a:Of}{w:Z}(h:wpOp P ops Q j K a w):wpOp P ops Q j (fun L t=>∃a0,L=a0.put oi.dst v/\K a0 t) (a.put oi.dst v) w:=by
 obtain⟨q,l,h3⟩:=Oper.apart_spec s;unfold wpOp at *;simp only[R]at *;rw[wanted_put k a oi.dst v q];split
 ·rename_i hw;simp only[hw,if_true]at h;rcases h with h|⟨g,i⟩
  case inr=>exact .inr ⟨by unfold Oper.asks at *;rw[execOp_put k p a oi.dst v q];exact g,i⟩
  refine .inl ?_;unfold Oper.wp at *;rw[execOp_put k p a oi.dst v q];generalize (execOp a.eval k).run P w=r at *
  cases r with
  | ok n t =>
   cases n<;>simp only[Oper.upon]at h ⊢
   case value u=>exact⟨_,Act.put_comm a v u l,h⟩
   case skip=>exact⟨_,Act.put_comm a v undef l,h⟩
   case defer d=>exact⟨_,by rw[Act.put_defers];exact Act.put_comm _ v undef l,h⟩
   case enter f args =>
    refine cM h fun e y o=>?_;cases e with
    | returned u=>exact⟨_,Act.put_comm a v u l,o⟩
    | panicked c=>exact z _ _ _ o
    | outgrown=>exact o
   case row row args=>exact Rows.mono h fun u y o=>⟨_,Act.put_comm a v u l,o⟩
  | halt x t =>
   cases x<;>simp only[Oper.upon]at h ⊢
   case panic u=>exact z _ _ _ h
 ·rename_i hw;simp only[hw]at h;exact⟨_,Act.put_comm a v undef l,h⟩
abbrev yh:=List (Nat×Tmp×Obj×Nat)
def Kj(x:Nat×Tmp×Obj×Nat):Nat×Tmp×Obj:=(x.1,x.2.1,x.2.2.1)
def De(L:Array Bool)(a:yh):Array Bool:=a.foldl (fun L x=>L.setIfInBounds x.1 true) L
def jg(a:Of)(c:yh):Of:=c.foldl (fun a x=>a.put (M x.2.1) (Og (M ⟨x.2.2.2,0,I⟩))) a
def ov{i:Nat}{d:Bool}:∀(a:yh)(L:Array Bool),(∀x∈a,x.1≠i)->(De L a).getD i d=L.getD i d
 | [],_,_=>rfl
 | x::a,L,h=>(ov a _ fun y c=>h y (mC _ c)).trans (getD_set_ne d (h x (List.mem_cons_self ..)))
def YB{i:Nat}{d:Bool}:∀(c:yh)(L:Array Bool),(∃x∈c,x.1=i)->i<L.size->(De L c).getD i d=true
 | [],_,h,_=>by obtain⟨x,a,_⟩:=h;cases a
 | y::c,L,h,hi=>by
  by_cases f:∃x∈c,x.1=i
  ·exact YB c _ f (by simpa using hi)
  ·have g:y.1=i:=by
    obtain⟨x,a,e⟩:=h;rcases List.mem_cons.1 a with rfl|a
    ·exact e
    ·exact absurd ⟨x,a,e⟩ f
   subst g;refine(ov c _ fun x a e=>f ⟨x,a,e⟩).trans ?_;simp[hi]
def Ux{i:Nat}:∀(a:yh)(L:Array Bool),(∀x∈a,x.1≠i)->(De L a).setIfInBounds i true=De (L.setIfInBounds i true) a
 | [],_,_=>rfl
 | x::a,L,h=>by
  refine(Ux a _ fun y c=>h y (mC _ c)).trans ?_;show De ((L.setIfInBounds x.1 true).setIfInBounds i true) a=De ((L.setIfInBounds i true).setIfInBounds x.1 true) a;rw[Array.setIfInBounds_comm _ _ (h x (List.mem_cons_self ..))]
def VO{α β:Type}{g:α->β}{x y:List β}(h:x.Perm y):∀l:List α,l.map g=x->∃m,l.Perm m/\m.map g=y:=by
 induction h with
 | nil=>exact fun l d=>⟨l,.refl _,d⟩
 | cons b _ q =>
  intro l d;obtain⟨a,l,rfl,rfl,e⟩:=List.map_eq_cons_iff.1 d;obtain⟨m,f,i⟩:=q l e;exact⟨a::m,f.cons a,by simp[i]⟩
 | swap b c t =>
  intro l d;obtain⟨a,l,rfl,rfl,e⟩:=List.map_eq_cons_iff.1 d;obtain⟨o,l,rfl,rfl,f⟩:=List.map_eq_cons_iff.1 e;exact⟨o::a::l,.swap ..,by simp[f]⟩
 | trans _ _ j k =>
  intro l d;obtain⟨m,p,e⟩:=j l d;obtain⟨r,f,i⟩:=k m e;exact⟨r,p.trans f,i⟩
def nj.use{k:Nat}{W:Z}{f:List (Nat×Nat)}:∀(c:yh)(d:List Nat)(L:Array Bool)(a:Of),nj P md ops Q S w0 k f (c.map Kj) d L a W ->(∀x∈c,W.heap[x.2.2.2]?=M x.2.2.1/\w0.heap.size<=x.2.2.2/\Ek x.2.2.2 f)->(d.reverse++c.map (·.2.2.2)).Nodup->wpAnyH P md ops Q S k (De L c) (jg a c) W
 | [],_,_,_,h,_,_=>h
 | x::c,d,L,a,h,h1,h2=>by
  have e:=h1 x (List.mem_cons_self ..);have g:x.2.2.2 ∉ d:=fun i=>by
   rw[List.map_cons,List.nodup_append]at h2;exact h2.2.2 _ (List.mem_reverse.2 i) _ (List.mem_cons_self ..) rfl
  exact nj.use c (x.2.2.2::d) _ _ (h x.2.2.2 e.1 e.2.1 g e.2.2) (fun y j=>h1 y (mC _ j)) (by simpa using h2)
def DE{j:Nat}{l:Oper}(s:ops[j]?=M l)(f:∀cs b,l.op ≠ .select cs b)(r:∀c a d v w,Q (.panic c) a w->Q (.panic c) (a.put d v) w){W:Z}:∀(e:yh)(a:Of)(K:Of->Z->Prop),(∀x∈e,∃p:Oper,p.dst=M x.2.1/\p.apart ops l=true)->wpOp P ops Q j K a W->wpOp P ops Q j (fun g o=>∃a0,g=jg a0 e/\K a0 o) (jg a e) W
 | [],_,_,_,h=>wpOp_mono (fun g o i=>⟨g,rfl,i⟩) h
 | x::e,a,K,h1,h=>by
  obtain⟨p,z,k⟩:=h1 x (List.mem_cons_self ..);have q:=nN (oi:=p) (v:=Og (M ⟨x.2.2.2,0,I⟩)) s k f (fun c a w h=>r c a _ _ w h) h;rw[z]at q;refine wpOp_mono (fun g o i=>?_) (DE s f r e _ _ (fun y L=>h1 y (mC _ L)) q);obtain⟨a0,rfl,t,rfl,u⟩:=i;exact⟨t,rfl,u⟩
variable {P:Program} {ops:Array Oper} {Q:Exit->Of->Z->Prop} {md:Region.Mode} {S:Z->Prop} {fl:List (Nat×Tmp×Obj)} {w0:Z} {late:Nat->Bool} {m:Nat}
def Er(x:Nat×Tmp×Obj):Nat×Tmp:=(x.1,x.2.1)
def xG{a:Nat->Bool}(h:si md ops (fl.map Er) late a m=true):Hi md ops late a m=true/\(∀x∈fl,late x.1=false/\a x.1=false/\Cg md ops x.1=[]/\x.1<ops.size/\kq ops x.1=M x.2.1)/\(fl.map (·.1)).Nodup/\(fl.map (·.2.1)).Nodup/\∀i<ops.size,late i=false->Wl fl i=false->∀x∈fl,x.1 ∉ Cg md ops i/\∀p q,ops[x.1]?=M p->ops[i]?=M q->p.apart ops q=true:=by
 unfold si at h;simp only[Bool.and_eq_true,decide_eq_true_eq]at h;obtain⟨⟨⟨⟨r,s⟩,l⟩,o⟩,t⟩:=h;rw[List.map_map]at l o;refine⟨r,fun x k=>?_,l,o,fun i u v j x k=>?_⟩
 ·have:=List.all_eq_true.1 s _ (List.mem_map_of_mem (f:=Er) k);simp only[Bool.and_eq_true,Bool.not_eq_true',List.isEmpty_iff,decide_eq_true_eq,beq_iff_eq]at this;exact⟨this.1.1.1.1,this.1.1.1.2,this.1.1.2,this.1.2,this.2⟩
 ·have h6:=List.all_eq_true.1 t i (List.mem_range.2 u);rw[v,Bool.false_or,Bool.or_eq_true]at h6;rcases h6 with g|g
  ·exfalso;obtain⟨y,L,d⟩:=List.any_eq_true.1 g;obtain⟨z,R,rfl⟩:=List.mem_map.1 L;unfold Wl at j;rw[List.any_eq_false]at j;exact j z R d
  ·have d:=List.all_eq_true.1 g _ (List.mem_map_of_mem (f:=Er) k);rw[Bool.and_eq_true]at d;refine⟨fun e=>?_,fun p q w K=>?_⟩
   ·have c:=d.1;rw[Bool.not_eq_true',List.contains_eq_mem,decide_eq_false_iff_not]at c;exact c e
   ·have c:=d.2;dsimp only[Er]at c;rw[w,K]at c;exact c
def qD{i:Nat}{o:Oper}(d:ops[i]?=M o){e:_}(c:e∈o.after)(a:Region.binds md e=true):e.on∈Cg md ops i:=by unfold Cg;rw[d];exact List.mem_map.2 ⟨e,List.mem_filter.2 ⟨by simpa using c,a⟩,rfl⟩
def lE{i:Nat}(h:Wl fl i=true):∃d o,(i,d,o)∈fl:=by unfold Wl at h;obtain⟨x,c,a⟩:=List.any_eq_true.1 h;rw[beq_iff_eq]at a;subst a;exact⟨x.2.1,x.2.2,c⟩
def Qr{i:Nat}(h:Wl fl i=false):∀x∈fl,x.1≠i:=by unfold Wl at h;rw[List.any_eq_false]at h;exact fun x a e=>h x a (by simpa using e)
def SB{b:Nat}:∀{a:List (Nat×Nat)},(∀x∈a,b<x.1\/x.2<=b)->Ek b a
 | [],_=>trivial
 | x::_,h=>⟨h x (List.mem_cons_self ..),SB fun y c=>h y (mC _ c)⟩
def WA{α β:Type}{g:α->β}:∀{l:List α},(l.map g).Nodup->∀x∈l,∀y∈l,g x=g y->x=y
 | [],_,_,d,_,_,_=>nomatch d
 | z::l,h,x,d,y,hy,e=>by
  rw[List.map_cons,List.nodup_cons]at h;obtain⟨f,h⟩:=h;rcases List.mem_cons.1 d with c|c
  ·rcases List.mem_cons.1 hy with a|a
   ·rw[c,a]
   ·exact absurd (List.mem_map.2 ⟨y,a,by rw[<-e,c]⟩) f
  ·rcases List.mem_cons.1 hy with a|a
   ·exact absurd (List.mem_map.2 ⟨x,c,by rw[e,a]⟩) f
   ·exact WA h x c y a e
def mP{c a:yh}(h:c.Perm a)(L:Array Bool):De L c=De L a:=
 h.foldl_eq' (fun x _ y _ z=>by
  by_cases e:x.1=y.1
  ·rw[e]
  ·exact Array.setIfInBounds_comm _ _ e) L
def UO{f c:yh}(j:(f.map (·.2.1)).Nodup)(h:f.Perm c)(a:Of):jg a f=jg a c:=
 h.foldl_eq' (fun x k y l z=>by
  by_cases e:x.2.1=y.2.1
  ·rw[WA j x k y l e]
  ·exact Act.put_comm z _ _ (fun d i g=>e ((Option.some.inj i).trans (Option.some.inj g).symm))) a
def KE{j:Nat}:∀(c:yh)(L:Array Bool),(De L c).getD j true=false->L.getD j true=false
 | [],_,h=>h
 | x::c,L,h=>by
  have a:=KE c _ h;by_cases e:x.1=j
  ·subst e;rcases Nat.lt_or_ge x.1 L.size with d | d
   ·simp[d]at a
   ·simp[Array.getElem?_eq_none d]at a
  ·rw[getD_set_ne true e]at a;exact a
def pD{d:Option Tmp}{v:Ob}:∀(c:yh)(a:Of),(∀x∈c,d≠M x.2.1)->(jg a c).put d v=jg (a.put d v) c
 | [],_,_=>rfl
 | x::c,a,h=>by
  refine(pD c _ fun y g=>h y (mC _ g)).trans ?_;show jg ((a.put (M x.2.1) _).put d v) c=jg ((a.put d v).put (M x.2.1) _) c;rw[Act.put_comm a _ v (fun q f e=>h x (List.mem_cons_self ..) (e.trans f.symm))]
def LF{oi:Oper}{v:Ob}(f:∀cs b,oi.op ≠ .select cs b):∀(c:yh)(a:Of),(∀x∈c,x.2.1 ∉ oi.looksAt ops)->YieldsIf P ops S oi v a->YieldsIf P ops S oi v (jg a c)
 | [],_,_,h=>h
 | x::c,a,h1,h=>LF f c _ (fun y g=>h1 y (mC _ g)) (h.of_same (execOp_put oi f a _ _ (fun d e=>by cases e;exact h1 x (List.mem_cons_self ..))) (wanted_put oi a _ _ (fun d e=>by cases e;exact h1 x (List.mem_cons_self ..))))
def uC{j:Nat}:∀(a:yh)(L:Array Bool),L.getD j false=true->(De L a).getD j false=true
 | [],_,h=>h
 | _::a,_,h=>uC a _ (getD_set_true h)
def JK{ag:Nat->Bool}(aU:si md ops (fl.map Er) late ag m=true)(aC:fl≠[])(am:Region.noSelect ops=true)(hl:∀x∈fl,tu P ops x.1 x.2.2)(hQ:∀c a d v w,Q (.panic c) a w->Q (.panic c) (a.put d v) w)(aA:∀w',Ba w0 w'->S w'):∀(n k:Nat)(iv:List (Nat×Nat))(L:Array Bool)(a:Of)(w W:Z)(g:yh)(rest:List (Nat×Tmp×Obj)),GF P md ops Q S ag fl w0 k iv L a w->(∀x∈iv,x.2<=w.heap.size)->Ba w0 w->Ba w W->(g.map Kj++rest).Perm fl->n=k+rest.length->Cl md ops L->L.size=ops.size ->(∀x∈fl,L.getD x.1 true=false)->(∀x∈g,W.heap[x.2.2.2]?=M x.2.2.1/\w0.heap.size<=x.2.2.2/\Ek x.2.2.2 iv)->(g.map (·.2.2.2)).Nodup->Cl md ops (De L g)->wpAnyH P md ops Q S n (De L g) (jg a g) W:=by
 obtain⟨f1,f2,f3,f4,f5⟩:=xG aU;have ay:∀(k:Nat)(iv:List (Nat×Nat))(L:Array Bool)(a:Of)(W:Z)(g:yh),nj P md ops Q S w0 k iv fl [] L a W->(g.map Kj).Perm fl->(∀x∈g,W.heap[x.2.2.2]?=M x.2.2.1/\w0.heap.size<=x.2.2.2/\Ek x.2.2.2 iv)->(g.map (·.2.2.2)).Nodup->wpAnyH P md ops Q S k (De L g) (jg a g) W:=by
  intro k iv L a W g H hp hb ad;obtain⟨aL,p1,p2⟩:=VO hp g rfl;have aS:(g.map (·.2.1)).Nodup:=by
   have:=(hp.map (·.2.1)).nodup_iff.2 f4
   rwa [List.map_map]at this
  rw[mP p1,UO aS p1];refine nj.use aL [] L a (by rw[p2];exact H) (fun x l=>hb x (p1.mem_iff.2 l)) ?_;simpa using (p1.map (·.2.2.2)).nodup_iff.1 ad
 intro n;induction n with
 |zero=>
  intro k iv L a w W g rest H ak h0 hw hp hn hc an ae hb ad ah;obtain rfl:k=0:=oM;obtain rfl:rest=[]:=List.eq_nil_of_length_eq_zero oM;rw[List.append_nil]at hp;exact ay 0 iv L a W g (H.2 W hw (h0.trans hw)) hp hb ad
 | succ n ih =>
  intro k iv L a w W g rest H ak h0 hw hp hn hc an ae hb ad ah;have z:∀x∈g,Kj x∈fl:=fun x l=>hp.mem_iff.1 (List.mem_append_left _ (List.mem_map_of_mem l));have aw:∀x∈rest,x∈fl:=fun x l=>hp.mem_iff.1 (List.mem_append_right _ l);have ai:∀i d,Wl fl i=false->(De L g).getD i d=L.getD i d:=fun i d hi=>ov g L fun x l=>Qr hi (Kj x) (z x l);have af:((g.map Kj++rest).map (·.1)).Nodup:=(hp.map (·.1)).nodup_iff.2 f3;have ap:∀x∈g,∀y∈rest,x.1≠y.1:=fun x l y hy e=>by
   rw[List.map_append,List.nodup_append]at af;exact af.2.2 _ (List.mem_map_of_mem (f:=(·.1)) (List.mem_map_of_mem (f:=Kj) l)) _ (List.mem_map_of_mem (f:=(·.1)) hy) e
  have az:∀i∈Ej md ops fl L,late i=false:=fun i hi=>by
   obtain⟨u,h2⟩:=Ng.1 hi;obtain⟨K,R,q,aa⟩:=mem_ready.1 u;cases hli:late i with
   | false=>rfl
   |true=>
    exfalso;obtain⟨x,l⟩:=List.exists_mem_of_ne_nil fl aC;obtain⟨g1,ge,g2,g3,g4⟩:=f2 x l;have hg:=f1;unfold Hi at hg;rw[List.all_eq_true]at hg;have h3:=hg i (List.mem_range.2 (Array.getElem?_eq_some_iff.1 q).1);rw[hli]at h3;simp only[Bool.not_true,Bool.false_or,List.all_eq_true]at h3;have h4:=h3 x.1 (List.mem_range.2 g3);rw[g1,ge]at h4;simp only[Bool.false_or,List.contains_eq_mem,decide_eq_true_eq]at h4;have h5:=Qv hc m i (fun o ho=>by rw[q]at ho;cases ho;exact aa) x.1 h4;have h6:=ae x l;have h7:x.1<L.size:=oM;simp[h7]at h5 h6;rw[h5]at h6;cases h6
  have aF:∀i∈Ej md ops fl L,i∈Region.ready md ops (De L g):=fun i hi=>by
   obtain⟨u,h2⟩:=Ng.1 hi;obtain⟨K,R,q,aa⟩:=mem_ready.1 u;exact mem_ready.2 ⟨by rw[ai i true h2];exact K,R,q,fun e he hb=>uC g L (aa e he hb)⟩
  have aR:∀x∈rest,x.1∈Region.ready md ops (De L g):=fun x l=>by
   obtain⟨g1,ge,g2,g3,g4⟩:=f2 x (aw x l);refine mem_ready.2 ⟨?_,ops[x.1],by simp[g3],fun e he hb=>?_⟩
   ·rw[ov g L fun y hy=>ap y hy x l];exact ae x (aw x l)
   ·have:=qD (md:=md) (ops:=ops) (i:=x.1) (o:=ops[x.1]) (by simp[g3]) he hb;rw[g2]at this;cases this
  have ax:∀x∈g,∃p:Oper,ops[x.1]?=M p/\p.dst=M x.2.1:=fun x l=>by
   have u:=f2 _ (z x l);have h4:x.1<ops.size:=u.2.2.2.1;have h3:ops[x.1]?=M (ops[x.1]'h4):=Array.getElem?_eq_getElem h4;refine⟨ops[x.1]'h4,h3,?_⟩;have h2:(ops[x.1]?).bind (·.dst)=M x.2.1:=u.2.2.2.2;rw[h3]at h2;exact h2
  by_cases hE:rest=[]/\Ej md ops fl L=[]
  ·obtain⟨rfl,h2⟩:=hE;rw[List.append_nil]at hp;cases k with
   | zero=>exact absurd hn sM
   | succ k =>
    (obtain rfl:n=k:=by simp at hn;omega);rcases H with H|⟨i,R,v,u,h3,_⟩
    ·exact ay _ iv L a W g (H.1 h2 W hw (h0.trans hw)) hp hb ad
    ·rw[h2]at h3;cases h3
  ·have aK:(k=0\/∃k',k=k'+1/\((Ej md ops fl L=[]->∀W,Ba w W->Ba w0 W->nj P md ops Q S w0 (k'+1) iv fl [] L a W)/\(∀i∈Ej md ops fl L,ag i=false)/\
   ∀i∈Ej md ops fl L,∀W,Ba w W->Ba w0 W->wpOp P ops Q i (fun a' w'=>Nl iv w0 W w'/\GF P md ops Q S ag fl w0 k' ((W.heap.size,w'.heap.size)::iv) (L.setIfInBounds i true) a' w') a W))\/(∃k',k=k'+1/\∃i R v,ops[i]?=M R/\i∈Ej md ops fl L/\(∀j oj,ops[j]?=M oj->j≠i->L.getD j true=false->(∀e∈oj.after,Region.binds md e=true->e.on≠i)->R.apart ops oj=true)/\
   (∀c a w,Q (.panic c) (a.put R.dst v) w->Q (.panic c) a w)/\YieldsIf P ops S R v a/\GF P md ops Q S ag fl w0 k' iv (L.setIfInBounds i true) (a.put R.dst v) w):=by
    cases k with
    | zero=>exact .inl (.inl rfl)
    | succ k =>
     rcases H with H|H
     ·exact .inl (.inr ⟨k,rfl,H⟩)
     ·exact .inr ⟨k,rfl,H⟩
   rcases aK with H2|⟨k,rfl,i,R,v,q,aj,aB,aI,hy,HG⟩
   case inr =>
    obtain⟨_,hF⟩:=Ng.1 aj;have ar:=az i aj;have aH:=(Array.getElem?_eq_some_iff.1 q).1;have aG:∀x∈g,R.dst≠M x.2.1/\x.2.1 ∉ R.looksAt ops:=fun x l=>by
     obtain⟨p,aD,av⟩:=ax x l;obtain⟨q1,q2,q3⟩:=Oper.apart_spec ((f5 i aH ar hF _ (z x l)).2 p R aD q);exact⟨q2 _ av,q1 _ av⟩
    have ab:=ah.step (aF i aj);have e1:(De L g).setIfInBounds i true=De (L.setIfInBounds i true) g:=Ux g L fun x l=>Qr hF (Kj x) (z x l);refine wpAnyH_first q (Region.noSelect_spec am) aI n (De L g) (jg a g) W (fun j oj hj aC ae aT=>aB j oj hj aC (KE g L ae) aT) (aF i aj) (LF (fun cs b=>Region.noSelect_spec am i R cs b q) g a (fun x l=>(aG x l).2) hy) (aA W (h0.trans hw)) ?_;rw[e1]at ab ⊢;rw[pD g a fun x l=>(aG x l).1];refine ih k iv _ _ w W g rest HG ak h0 hw hp oM (hc.step (Ng.1 aj).1) (by simpa using an) (fun x r=>?_) hb ad ab;rw[getD_set_ne true (fun e=>Qr hF x r e.symm)];exact ae x r
   have aE:∃e,e∈Region.ready md ops (De L g)/\late e=false/\ag e=false:=by
    by_cases u:rest=[]
    ·have h2:Ej md ops fl L≠[]:=fun h=>hE ⟨u,h⟩;obtain⟨e,he⟩:=List.exists_mem_of_ne_nil _ h2;rcases H2 with rfl|⟨k',rfl,H2⟩
     ·exact absurd H.1 h2
     ·exact⟨e,aF e he,az e he,H2.2.1 e he⟩
    ·obtain⟨x,l⟩:=List.exists_mem_of_ne_nil _ u;exact⟨x.1,aR x l,(f2 x (aw x l)).1,(f2 x (aw x l)).2.1⟩
   obtain⟨e,he,aQ,aP⟩:=aE;refine⟨fun hr=>(by rw[hr]at he;cases he),fun i hi=>?_⟩;obtain⟨K,R,q,aa⟩:=mem_ready.1 hi;have ar:late i=false:=GS f1 ah he aQ aP hi;cases hF:Wl fl i with
   |true=>
    obtain⟨d,o,ac⟩:=lE hF;have au:(i,d,o)∈rest:=by
     rcases List.mem_append.1 (hp.mem_iff.2 ac)with u|u
     ·exfalso;obtain⟨x,l,h2⟩:=List.mem_map.1 u;(have h3:x.1=i:=by have:=congrArg (·.1) h2;exact this);have h4:=YB (d:=true) g L ⟨x,l,h3⟩ (by rw[an];exact(Array.getElem?_eq_some_iff.1 q).1);rw[h4]at K;cases K
     ·exact u
    obtain⟨s,t,aV⟩:=List.append_of_mem au;subst aV;obtain⟨x,aJ,r,aW⟩:=hl _ ac;rw[q]at aJ;cases aJ;have hd:R.dst=M d:=by
     have:=(f2 _ ac).2.2.2.2;unfold kq at this;rw[q]at this;exact this
    unfold wpOp;rw[q];dsimp only;(have ao:Region.wanted R (yielded ops (jg a g).tmps)=true:=by unfold Region.wanted;rw[r]);rw[if_pos ao];refine .inl ?_;unfold Oper.wp;rw[aW];show S (W.alloc o)/\wpAnyH P md ops Q S n ((De L g).setIfInBounds i true) ((jg a g).put R.dst _) (W.alloc o);refine⟨aA _ ((h0.trans hw).alloc o),?_⟩;rw[hd];(have e1:(De L g).setIfInBounds i true=De L (g++[(i,d,o,W.heap.size)]):=by unfold De;rw[List.foldl_append];rfl);(have e2:(jg a g).put (M d) (Og (M ⟨W.heap.size,0,I⟩))=jg a (g++[(i,d,o,W.heap.size)]):=by unfold jg;rw[List.foldl_append];rfl);have ab:=ah.step hi;rw[e1]at ab ⊢;rw[e2];refine ih k iv L a w (W.alloc o) (g++[(i,d,o,W.heap.size)]) (s++t) H ak h0 (hw.alloc o) ?_ (by simp at hn ⊢;omega) hc an ae ?_ ?_ ab
    ·refine List.Perm.trans ?_ hp;rw[List.map_append,List.append_assoc];exact List.Perm.append_left _ (show ((i,d,o)::(s++t)).Perm (s++(i,d,o)::t)from List.perm_middle.symm)
    ·intro x l;rcases List.mem_append.1 l with l|l
     ·obtain⟨u,h2⟩:=hb x l;exact⟨((eR W).alloc o).e u,h2⟩
     ·cases List.mem_singleton.1 l;exact⟨aN W o,(h0.trans hw).size,SB fun x l=>.inr (nT (ak x l) hw.size)⟩
    ·rw[List.map_append,List.nodup_append];refine⟨ad,by simp,fun b aM c aO e=>?_⟩;obtain⟨x,l,rfl⟩:=List.mem_map.1 aM;have u:=Ya (hb x l).1;simp at aO;omega
   |false=>
    have aq:i∈Ej md ops fl L:=Ng.2 ⟨mem_ready.2 ⟨by rw[<-ai i true hF];exact K,R,q,fun e he hb=>by
     have u:=aa e he hb;have h2:Wl fl e.on=false:=by
      cases h3:Wl fl e.on with
      | false=>rfl
      |true=>
       obtain⟨d,o,ac⟩:=lE h3;exact absurd (qD q he hb) (f5 i (Array.getElem?_eq_some_iff.1 q).1 ar hF _ ac).1
     rw[<-ai e.on false h2];exact u⟩,hF⟩
    rcases H2 with rfl|⟨k,rfl,H2⟩
    ·rw[H.1]at aq;cases aq
    ·refine wpOp_mono (fun a' w' h'=>?_) (DE q (fun cs b=>Region.noSelect_spec am i R cs b q) hQ g a _ (fun x l=>?_) (H2.2.2 i aq W hw (h0.trans hw)))
     ·obtain⟨a0,rfl,l,hG⟩:=h';have e1:(De L g).setIfInBounds i true=De (L.setIfInBounds i true) g:=Ux g L fun x l=>Qr hF (Kj x) (z x l);have ab:=ah.step hi;refine⟨aA _ l.1,?_⟩;rw[e1]at ab ⊢;refine ih k _ _ a0 w' w' g rest hG (fun x r=>?_) l.1 (eR _) hp oM (hc.step (Ng.1 aq).1) (by simpa using an) (fun x r=>?_) (fun x r=>?_) ad ab
      ·rcases List.mem_cons.1 r with rfl|r
       ·exact nE _
       ·exact nT (ak x r) (nT hw.size l.2.1)
      ·rw[getD_set_ne true (fun e=>Qr hF x r e.symm)];exact ae x r
      ·obtain⟨u,h2,h3⟩:=hb x r;exact⟨by rw[l.2.2 _ (Ya u) h3];exact u,h2,.inl (Ya u),h3⟩
     ·obtain⟨p,aD,av⟩:=ax x l;exact⟨p,av,(f5 i (Array.getElem?_eq_some_iff.1 q).1 ar hF _ (z x l)).2 _ _ aD q⟩
variable {P:Program} {ops:Array Oper} {Q:Exit->Of->Z->Prop} {md:Region.Mode} {S:Z->Prop} {fl:List (Nat×Tmp×Obj)} {w0:Z}
def Jr(P:Program)(md:Region.Mode)(ops:Array Oper)(Q:Exit->Of->Z->Prop)(c:Nat->Bool)(fl:List (Nat×Tmp×Obj))(w0:Z)(S:Z->Prop)(k:Nat)(d:List (Nat×Nat))(L:Array Bool)(a:Of)(w:Z):Prop:=GF P md ops Q S c fl w0 k d L a w
def Bh{e:Nat->Bool}{g:List (Nat×Nat)}{L:List (Oh×Ob)}{v:Ob}{i:Nat}{oi:Oper}{k:Nat}{d:Array Bool}{a:Of}{w:Z}{G:Prop}(h:G)(hi:ops[i]?=M oi:=by(simp only[gA,gS,gZ];rfl))(r:Region.noSelect ops=true:=by kernel_rfl)(j:Region.free md ops d i=true:=by kernel_rfl)(l:(Ej md ops fl d).contains i=true:=by kernel_rfl)(h4:∀c a w,Q (.panic c) (a.put oi.dst v) w->Q (.panic c) a w:=by exact fun _ _ _ h=>h)(p:Region.wanted oi (yielded ops a.tmps)=true:=by rfl)(q:∀w,Ea L w->(execOp a.eval oi).run P w = .ok (.value v) w:=by(intro w f;simp only[Ea,and_true]at f;go_simp;try(with_reducible rfl)))(h6:Ea L w0:=by(with_reducible assumption))(o:Jr P md ops Q e fl w0 (Ea L) k g (d.setIfInBounds i true) (a.put oi.dst v) w=G:=by((try simp only[Act.put,sA,sZ,sS]);rfl)):Jr P md ops Q e fl w0 (Ea L) (k+1) g d a w:=by subst o;exact .inr ⟨i,oi,v,hi,by simpa using l,Region.free_spec hi j,h4,Or.inl ⟨p,q⟩,h⟩
def Ym{d:Nat->Bool}{g:List (Nat×Nat)}{L:List (Oh×Ob)}{i:Nat}{o:Oper}{k:Nat}{c:Array Bool}{a:Of}{w:Z}(h:∀W,Ba w W->Ba w0 W->Ea L W->∀K':Of->Z->Prop,Shut (∀a w',Nl g w0 W w'->(Nl g w0 W w'->Ea L w'->Jr P md ops Q d fl w0 (Ea L) k ((W.heap.size,w'.heap.size)::g) (c.setIfInBounds i true) a w')->K' a w')->if Region.wanted o (yielded ops a.tmps)=true then Oper.wp P o a W K' Q else K' (a.put o.dst undef) W)(h6:Ea L w0:=by(with_reducible assumption))(hi:ops[i]?=M o:=by(simp only[gA,gS,gZ];rfl))(p:Ej md ops fl c=[i]:=by kernel_rfl)(u:d i=false:=by rfl):Jr P md ops Q d fl w0 (Ea L) (k+1) g c a w:=by
 refine .inl ⟨fun r=>absurd (p▸r) sM,fun j f=>?_,fun j f W t e=>?_⟩
 ·rw[p]at f;cases List.mem_singleton.1 f;exact u
 rw[p]at f;cases List.mem_singleton.1 f;exact wpOp_step hi (fun K' s=>h W t e (cE h6 e) K' (fun a w' q l=>s a w' ⟨q,l q (cE h6 q.1)⟩))
def df{e:Nat->Bool}{g:List (Nat×Nat)}{L:List (Oh×Ob)}{k:Nat}{c:Array Bool}{a:Of}{w:Z}(f:Ej md ops fl c=[])(h:∀W,Ba w W->Ba w0 W->nj P md ops Q (Ea L) w0 k g fl [] c a W):Jr P md ops Q e fl w0 (Ea L) k g c a w:=by
 cases k with
 | zero=>exact⟨f,h⟩
 | succ k=>exact .inl ⟨fun _=>h,fun i d=>(by rw[f]at d;cases d),fun i d=>by rw[f]at d;cases d⟩
def jz{u:Nat}{a:Of}{w:Z}(fl:List (Nat×Tmp×Obj))(L:List (Oh×Ob))(k m:Nat)(late e:Nat->Bool)(s:P.follows .mixedOrders=true)(f:si .any ops (fl.map Er) late e m=true)(q:ops.size=k+fl.length)(i:fl≠[])(g:Region.noSelect ops=true)(r:∀x∈fl,tu P ops x.1 x.2.2)(p:∀c a d v w,Q (.panic c) a w->Q (.panic c) (a.put d v) w)(j:Ea L w.drew)(h:Ea L w.drew->Jr P .any ops Q e fl w.drew (Ea L) k [] (Array.replicate ops.size false) a w.drew):(Code.region u ops true).wp P Q a w:=by obtain⟨_,l,_,_,_⟩:=xG f;have o:=JK (w0:=w.drew) (S:=Ea L) f i g r p (fun _ h=>cE j h) ops.size k [] (Array.replicate ops.size false) a w.drew w.drew [] fl (h j) sM (eR _) (eR _) sM q (Cl.start _) sM (fun x t=>by simp[(l x t).2.2.2.1]) sM sM (Cl.start _);exact wp_region_any s (wpAny_of_held _ _ _ _ o)
end
end
section
open Go.RowKit Go.Shelf
attribute [local go_sem] Oper.semAt_some
def PU(W0:Z)(m c:Nat)(xs e:List Int)(d:Ob)(wr:Z):Prop:=
 ∃(i:Nat)(a:List Int),d=Oa U i/\i<=m/\a.length=m+c/\Db 3 wr W0.heap.size (O (M ⟨W0.heap.size,0,I⟩) (m+c) (m+c)) a/\dv C4 a=dv C4 (xs.take i)*dv C4 e/\Wh a i 0/\Ba W0 wr
def QU(W0:Z)(m a i:Nat)(x V:Int)(e:List Int)(d:Ob)(wr:Z):Prop:=
 ∃(k:Nat)(c:List Int),d=Oa U k/\k<=a/\c.length=m+a/\Db 3 wr W0.heap.size (O (M ⟨W0.heap.size,0,I⟩) (m+a) (m+a)) c/\dv C4 c=V+C4 ^ i*(x*dv C4 (e.take k))/\Wh c i k/\Ba W0 wr
def Pp(w:Z)(va vb:Ob)(na nb:Int)(ha:Ad w va na)(hb:Ad w vb nb)(aP:Lm Cc na)(aQ:Lm Cc nb):Calls Tryz.prog 180 #[va,vb] w (Vh w (na*nb)):=by
 obtain⟨s,a,m,c,rfl,hs⟩:=ha.j;obtain⟨s',a',t,c',rfl,al⟩:=hb.j;obtain⟨xs,hl,hi,hc,hv⟩:=ha.open;obtain⟨ys,ak,aO,aq,am⟩:=hb.open;have hm:=Ar aP hc hv;have au:=Ar aQ aq am;rw[hl]at hm;rw[ak]at au;unfold Cc at hm au;obtain⟨σ,hσ⟩:=gX (s*s');have aE:=GG na nb;rw[<-hs,<-al,hσ]at aE;have σ0:-1<=σ:=oM;have σ1:σ<=1:=oM;have aF:σ=(na*nb).sign:=by rw[<-hσ,hs,al,BM]
 have aj:=Aa aF;have Hl:=Aa hl;have aa:=Aa ak;have Hv:=Aa hv;have ao:=Aa am;clear hs al hl ak hv am aF aE;obtain⟨W0,f⟩:=gX (((w.alloc (Oc #[Oa U s,O a m c] 163)).alloc (Oc #[Oa U s',O a' t c'] 163)).alloc (Oc #[Oa U 0,O I 0 0] 163));have z0:w.heap.size+1+1+1=W0.heap.size:=by rw[<-f];simp
 have z1:w.heap.size<W0.heap.size:=oM;have z2:w.heap.size+1<W0.heap.size:=oM;have z3:w.heap.size+1+1<W0.heap.size:=oM;have p0:W0.cell? ⟨w.heap.size,0,I⟩=M (Oa U s):=by rw[<-f];clear f;go_simp
 have p1:W0.cell? ⟨w.heap.size,1,I⟩=M (O a m c):=by rw[<-f];clear f;go_simp
 have q0:W0.cell? ⟨w.heap.size+1,0,I⟩=M (Oa U s'):=by rw[<-f];clear f;go_simp
 have q1:W0.cell? ⟨w.heap.size+1,1,I⟩=M (O a' t c'):=by rw[<-f];clear f;go_simp
 have j:Va (W0.heap[w.heap.size+1+1]?=M (Oc #[Oa U 0,O I 0 0] 163 (0,0))):=by rw[<-f];exact Aa (kc _ _ _ sM)
 have ag:Va (Ba w W0):=by rw[<-f];exact Aa eA
 go_in;go_wp2_with(at_make;refine sw (n:=m+t) nl Tryz.underlying47 rfl _ _ rfl _ rfl rfl sM oM ?_;(try rw[f]);intro w1 q R aR;(try simp only[z0]at q))
 try simp only[z0]
 have r:Db 3 w1 W0.heap.size (O (M ⟨W0.heap.size,0,I⟩) (m+t) (m+t)) (List.replicate (m+t) 0):=q;clear f q z0;go_loopw [6] (PU W0 m t xs ys) (fun t6 _=>m-(intOf t6).toNat)
 case atStart =>
  exact⟨0,_,rfl,by omega,by simp,r,by rw[Qo];simp,Wh.start _,R⟩
 case round =>
  clear r R aR;obtain⟨i,os,rfl,a2,ax,g,L,l,d⟩:=hrel;have an:=Aa ax;have ah:=Aa L;have e0:=d.d p0;have e1:=d.d p1;have e2:=d.d q0;have e3:=d.d q1;clear ax L;by_cases a5:i<m
  ·obtain⟨b,o,rfl,aW,R⟩:=(hi.ext ag.o).open (by rw[Hl.o];omega);obtain⟨x,ab⟩:∃x,xs[i]?=M x:=⟨_,gE (by rw[Hl.o];omega)⟩;have aJ:=R i x ab;have aB:=hc.1 x (lM ab);have aH:=Aa ab;have aG:=Aa aB;have g0:(0:Int)<=(i:Int):=oM;have g1:(i:Int)<(m:Int):=oM;clear R ab aB;go_wp2;obtain⟨wo,rfl⟩:∃wo:Z,wo=wr:=⟨_,rfl⟩;go_loopw [7] (QU W0 m t i x (dv C4 os) ys) (fun t7 _=>t-(intOf t7).toNat)
   case atStart=>exact⟨0,os,rfl,by omega,an.o,g,by simp,l,d⟩
   case round =>
    clear g l d e0 e1 e2 e3;obtain⟨k,us,rfl,a4,az,g,L,l,d⟩:=hrel;have ai:=Aa az;have ae:=Aa L;have e0:=d.d p0;have e1:=d.d p1;have e2:=d.d q0;have e3:=d.d q1;have aX:=d.d aJ;clear az L;by_cases ar:k<t
    ·obtain⟨b',o',rfl,aS,af⟩:=(aO.ext ag.o).open (by rw[aa.o];omega);obtain⟨y,ac⟩:∃y,ys[k]?=M y:=⟨ys[k]'(by rw[aa.o];omega),by simp[aa.o,ar]⟩;obtain⟨z,ad⟩:∃z,us[i+k]?=M z:=⟨_,gE (by rw[ai.o];omega)⟩;have aY:=d.d (af k y ac);have aZ:=g.cell ad;have a1:=g.frozen (i+k);have aC:=aq.1 y (lM ac);obtain⟨aT,aU,aD⟩:=l _ z ad;have aV:=aD (nE _);obtain⟨av,aw⟩:=Nz aG.o aC;obtain⟨u,hu⟩:=gX (x*y);rw[hu]at av aw;have aI:=Aa ac;have ap:=Aa ad;have k0:(0:Int)<=(k:Int):=oM;have k1:(k:Int)<(t:Int):=oM;have k2:(0:Int)<=(i:Int)+(k:Int):=oM;have k3:(i:Int)+(k:Int)<(m:Int)+(t:Int):=oM;have k4:IntKind.i64.wrap ((i:Int)+(k:Int))=(i:Int)+(k:Int):=iW _ oM;have k5:((i:Int)+(k:Int)).toNat=i+k:=oM;clear af ac ad aC;go_wp2;refine Ai (fun i=>decide (22<i)) (Ea [(⟨W0.heap.size,i+k,I⟩,Oa U z),(⟨w.heap.size,1,I⟩,O (M ⟨b,o,I⟩) m c),(⟨b,o+i,I⟩,Oa U x),(⟨w.heap.size+1,1,I⟩,O (M ⟨b',o',I⟩) t c'),(⟨b',o'+k,I⟩,Oa U y)]) kM ?_ (fun aK=>?_)
     ·exact cA
     refine sN 0 ?_
     (iterate 23 refine qi ?_);refine oN ?_;refine kd (i:=23) fun K hK=>?_;go_simp;refine kO hK (fun h=>nomatch h) (fun aK=>?_);clear hK K;refine Jb kM ?_ _;go_wp2;go_roundw
     case rel =>
      exact⟨k+1,us.set (i+k) (z+u),by go_num,by omega,by simp[ai.o],(g.stored _ _).drew,by rw[<-hu];exact SP ap.o aI.o ae.o,l.step ap.o av aw,(d.set (p:=⟨W0.heap.size,i+k,I⟩) (nE _) _).drew⟩
     case measure=>simp[intOf];omega
    ·obtain rfl:k=t:=oM;go_wp2;go_roundw
     case rel=>exact⟨i+1,us,by go_num,by omega,ai.o,g,WL aa.o aH.o ae.o ah.o,l.next,d⟩
     case measure=>simp[intOf];omega
  ·obtain rfl:i=m:=oM;have hD:dv C4 os=(na.natAbs:Int)*(nb.natAbs:Int):=by
    rw[ah.o,lT (by rw[Hl.o];omega),Hv.o,ao.o]
   have aL:0<=dv C4 os:=by rw[hD];exact Int.mul_nonneg oM oM
   have hN:na*nb=σ*dv C4 os:=by
    rw[hD,aj.o,<-Int.natCast_mul,<-Int.natAbs_mul];exact(Int.sign_mul_natAbs _).symm
   have HN:=Aa hN;have r0:=Da (d.e j.o) (i:=0) (u:=Oa U 0) rfl;have r1:=Da (d.e j.o) (i:=1) (u:=O I 0 0) rfl;have a6:=Za (d.e j.o) 0;have a7:=Za (d.e j.o) 1;have zr:=Ya (d.e j.o);have XW:Ba w wr:=ag.o.trans d;clear hD hN;go_wp2_with(go_at_call 213;(with_reducible refine(ot _ σ _ os (na*nb) g.ints (by rw[an.o];omega) (l.big oM) aL HN.o (fun h9=>?_)).mono ?_);(rw[aj.o];refine Ju (fun h8=>h9 ?_);have h7:=HN.o;rw[h8]at h7;rcases Int.mul_eq_zero.1 h7.symm with h6|h6;(rw[aj.o,h8]at h6;exact absurd h8 (fun _=>h9 (by have h5:=ah.o;rw[lT (by rw[Hl.o];omega),Hv.o,ao.o,<-Int.natCast_mul,<-Int.natAbs_mul,h8]at h5;simpa using h5)));exact h6);rintro e w3 ⟨r3,rfl,ay,aA⟩;obtain⟨s3,a3,m3,c3,rfl,-⟩:=ay.j;obtain⟨aM,a0⟩:=aA.cells);exact bR (v:=Oe #[Oa U s3,O a3 m3 c3]) (by simp[results,Tryz.results180,go_sem,aM,zr,r0,r1]) rfl ⟨_,rfl,ay.keep (Ip (aA.e (d.e j.o)) _ _),eA⟩
def nK{os xs:List Int}{i:Nat}{k x:Int}(c:os[i]?=M 0)(a:xs[i]?=M x)(h:dv C4 os=k*dv C4 (xs.take i)):dv C4 (os.set i (x*k))=k*dv C4 (xs.take (i+1)):=by rw[Eo _ c,Kn C4 xs i x a,h];grind
def XT(W0:Z)(m:Nat)(k:Int)(xs:List Int)(c:Ob)(wr:Z):Prop:=
 ∃(i:Nat)(a:List Int),c=Oa U i/\i<=m/\a.length=m/\Db 3 wr W0.heap.size (O (M ⟨W0.heap.size,0,I⟩) m m) a/\dv C4 a=k*dv C4 (xs.take i)/\El a i/\(∀x∈a,0<=x/\x<=100000000)/\Ba W0 wr
def Sy(w:Z)(va:Ob)(L k:Int)(ha:Ad w va L)(aq:Lm Cc L)(h0:0<=k)(h1:k<=10000):Calls Tryz.prog 277 #[va,Oa U k] w (Vh w (L*k)):=by
 obtain⟨s,a,m,c,rfl,hs⟩:=ha.j;obtain⟨xs,hl,hi,hc,hv⟩:=ha.open;have hm:=Ar aq hc hv;rw[hl]at hm;unfold Cc at hm;have Hs:=Aa hs;have Hl:=Aa hl;have Hv:=Aa hv;clear hs hl hv;obtain⟨W0,g⟩:=gX ((w.alloc (Oc #[Oa U s,O a m c] 163)).alloc (Oc #[Oa U 0,O I 0 0] 163));have z0:w.heap.size+1+1=W0.heap.size:=by rw[<-g];simp
 have z1:w.heap.size<W0.heap.size:=oM;have z2:w.heap.size+1<W0.heap.size:=oM;have p0:W0.cell? ⟨w.heap.size,0,I⟩=M (Oa U s):=by rw[<-g];clear g;go_simp
 have p1:W0.cell? ⟨w.heap.size,1,I⟩=M (O a m c):=by rw[<-g];clear g;go_simp
 have f:Va (W0.heap[w.heap.size+1]?=M (Oc #[Oa U 0,O I 0 0] 163 (0,0))):=by rw[<-g];exact Aa (kc _ _ _ sM)
 have aa:Va (Ba w W0):=by rw[<-g];exact Aa eA
 go_in;go_wp2_with(at_make;refine sw (n:=m) nl Tryz.underlying47 rfl _ _ rfl _ rfl rfl rfl oM ?_;(try rw[g]);intro w1 j q ar;(try simp only[z0]at j))
 try simp only[z0]
 have p:Db 3 w1 W0.heap.size (O (M ⟨W0.heap.size,0,I⟩) m m) (List.replicate m 0):=j;clear g j z0;go_loopw [6] (XT W0 m k xs) (fun t6 _=>m-(intOf t6).toNat)
 case atStart =>
  exact⟨0,_,rfl,by omega,by simp,p,by rw[Qo];simp,El.replicate _ _,fun x K=>by rw[(List.mem_replicate.1 K).2];omega,q⟩
 case round =>
  clear p q ar;obtain⟨i,R,rfl,az,af,l,ae,ak,ad,d⟩:=hrel;have y:=Aa af;have ac:=Aa ae;have ab:=Aa ad;have e0:=d.d p0;have e1:=d.d p1;clear af ae ad;by_cases aA:i<m
  ·obtain⟨b,o,rfl,au,q⟩:=(hi.ext (aa.o.trans d)).open (by rw[Hl.o];omega);obtain⟨x,t⟩:∃x,xs[i]?=M x:=⟨_,gE (by rw[Hl.o];omega)⟩;obtain⟨z,r⟩:∃z,R[i]?=M z:=⟨_,gE (by rw[y.o];omega)⟩;have av:=q i x t;have ay:=l.frozen i;have aw:=l.cell r;have aj:=ak _ z r (nE _);rw[aj]at r;have ai:=hc.1 x (lM t);unfold C4 at ai;obtain⟨u,hu⟩:=gX (x*k);have u0:0<=u:=by rw[<-hu];exact Int.mul_nonneg ai.1 h0
   have u1:u<=100000000:=by
    have:x*k<=10000*10000:=Int.mul_le_mul oM h1 h0 oM;omega
   have am:=Aa t;have an:=Aa r;have g0:(0:Int)<=(i:Int):=oM;have g1:(i:Int)<(m:Int):=oM;clear q t r aj;go_wp2;go_roundw
   case rel =>
    refine⟨i+1,R.set i u,by go_num,by omega,by simp[y.o],l.stored _ _,?_,ak.set_next _,fun x K=>?_,d.set (nE _) _⟩
    ·rw[<-hu];exact nK an.o am.o ac.o
    ·rcases List.mem_or_eq_of_mem_set K with K|rfl
     ·exact ab.o x K
     ·exact⟨u0,u1⟩
   case measure=>simp[intOf];omega
  ·obtain rfl:i=m:=oM;have hD:dv C4 R=k*(L.natAbs:Int):=by
    rw[ac.o,lT (by rw[Hl.o];omega),Hv.o]
   have ao:0<=dv C4 R:=by rw[hD];exact Int.mul_nonneg h0 oM
   have hN:L*k=s*dv C4 R:=by
    have h2:=iD L;rw[hD,Hs.o,Int.mul_left_comm,h2,Int.mul_comm]
   have HN:=Aa hN;have HD:=Aa hD;have r0:=Da (d.e f.o) (i:=0) (u:=Oa U 0) rfl;have r1:=Da (d.e f.o) (i:=1) (u:=O I 0 0) rfl;have aB:=Za (d.e f.o) 0;have aC:=Za (d.e f.o) 1;have zr:=Ya (d.e f.o);have XW:Ba w wr:=aa.o.trans d;have al:Va (dv C4 R≠0->s=1\/s = -1):=Aa (fun h9=>by
    rw[Hs.o];refine Ju (fun h8=>h9 ?_);rw[HD.o,h8];simp)
   clear hD hN;go_wp2_with(go_at_call 213;(with_reducible refine(ot _ s _ R (L*k) l.ints (by rw[y.o];omega) (fun x K=>by have:=ab.o x K;omega) ao HN.o al.o).mono ?_);rintro e w3 ⟨r3,rfl,ag,ah⟩;obtain⟨s3,a3,m3,c3,rfl,-⟩:=ag.j;obtain⟨ap,ax⟩:=ah.cells);exact bR (v:=Oe #[Oa U s3,O a3 m3 c3]) (by simp[results,Tryz.results277,go_sem,ap,zr,r0,r1]) rfl ⟨_,rfl,ag.keep (Ip (ah.e (d.e f.o)) _ _),eA⟩
def WT(w:Z)(s:Int)(a:Option Oh)(m c:Nat)(xs:List Int)(t3 t4:Ob)(W:Z):Prop:=
 ∃j:Int,t4=Oa U j/\ -1<=j/\j<m/\t3=Oa U (s*dv C4 (xs.drop (j+1).toNat))/\Ba w W/\W.heap[w.heap.size]?=M (Oc #[Oa U s,O a m c] 163 (0,0))
def RK{xs:List Int}{k:Nat}{x:Int}(h:xs[k]?=M x):dv C4 (xs.drop k)=x+10000*dv C4 (xs.drop (k+1)):=by have a:=(lS.1 h).1;rw[List.drop_eq_getElem_cons a,om,(lS.1 h).2];rfl
def CF{xs:List Int}(a:Ud C4 xs):∀k:Nat,0<=dv C4 (xs.drop k)/\dv C4 (xs.drop k)<=dv C4 xs:=by intro k;have g:=Dm C4 (xs.take k) (xs.drop k);rw[List.take_append_drop]at g;have e:Ud C4 (xs.take k):=fun d h=>a d (List.mem_of_mem_take h);have f:Ud C4 (xs.drop k):=fun d h=>a d (List.mem_of_mem_drop h);have i:=(Wi Gk e).1;have c:=(Wi Gk f).1;have j:=Tj Gk (xs.take k).length;have:1*dv C4 (xs.drop k)<=C4 ^ (xs.take k).length*dv C4 (xs.drop k):=Int.mul_le_mul_of_nonneg_right oM c;omega
def WF(w:Z)(va:Ob)(p:Int)(ha:Ad w va p)(h0:-9223372036854775808<=p)(h1:p<=9223372036854775807):Calls Tryz.prog 276 #[va] w fun e w'=>e=.returned (Oa U p)/\Ba w w':=by
 obtain⟨s,a,m,c,rfl,hs⟩:=ha.j;obtain⟨q,hl,hi,hc,hv⟩:=ha.open;have hm:=hi.le;rw[hl]at hm;unfold maxLen at hm;have l:=iD p;rw[<-hs,<-hv]at l;have v:s = -1\/s=0\/s=1:=by rcases vi p with ⟨e,_⟩|⟨e,_⟩|⟨e,_⟩<;>omega
 have L:=Aa hl;have R:=Aa l;have hD:dv C4 q<=9223372036854775808/\(s=1->dv C4 q<=9223372036854775807):=by
  rcases v with h|h|h<;>subst h<;>omega
 have HD:=Aa hD;clear hs hl hv l ha hD;go_in;go_wp2;go_loopw [3,4] (WT w s a m c q) (fun _ t4 _=>(intOf t4+1).toNat)
 case atStart =>
  refine⟨(m:Int)-1,rfl,by omega,by omega,?_,eA,aN _ _⟩;rw[List.drop_of_length_le (by rw[L.o];omega)];simp
 case round =>
  obtain⟨j,rfl,j0,j1,rfl,hx,d⟩:=hrel;have ab:=Da d (i:=0) (u:=Oa U s) rfl;have ac:=Da d (i:=1) (u:=O a m c) rfl;have K:=Aa d;clear d;by_cases hj:0<=j
  ·obtain⟨k,rfl⟩:=Int.eq_ofNat_of_zero_le hj;have hk:k<m:=oM;obtain⟨b,o,rfl,ad,y⟩:=(hi.ext hx).open (by rw[L.o];omega);obtain⟨x,f⟩:∃x,q[k]?=M x:=⟨_,gE (by rw[L.o];omega)⟩;have ae:=y k x f;have aa:=hc.1 x (lM f);unfold C4 at aa;have z:=RK f;have d2:=CF hc.1 k;have d3:=CF hc.1 (k+1);rw[show ((k:Int)+1).toNat=k+1 by omega];obtain⟨E,hE⟩:=gX (dv C4 (q.drop (k+1)));rw[hE]at z d3 ⊢;rw[z]at d2;obtain⟨r,g⟩:=HD.o;obtain⟨D,t⟩:=gX (dv C4 q);rw[t]at d2 d3 r g;obtain⟨A,hA⟩:=gX (s*E);obtain⟨u,hu⟩:=gX (s*x);have f1:-9223372036854775808<=A*10000/\A*10000<=9223372036854775807/\ -10000<=u/\u<=10000/\ -9223372036854775808<=A*10000+u/\A*10000+u<=9223372036854775807/\A*10000+u=s*(x+10000*E):=by
    rcases v with h|h|h<;>subst h<;>(try have:=g rfl)<;>omega
   obtain⟨f1,f2,f3,f4,f5,f6,f7⟩:=f1;have F7:=Aa f7;have D1:=Aa z;clear z d2 d3 hE r g t f7 y f;rw[hA];go_wp2;go_quiet (fail);go_wp2;go_roundw
   case rel =>
    refine⟨(k:Int)-1,rfl,by omega,by omega,?_,eA,K.o⟩;rw[show ((k:Int)-1+1).toNat=k by omega,D1.o,F7.o]
   case measure=>simp[intOf]
  ·obtain rfl:j = -1:=oM;have e:s*dv C4 (q.drop ((-1:Int)+1).toNat)=p:=by
    simp only[show ((-1:Int)+1).toNat=0 from rfl,List.drop_zero];exact R.o
   rw[e];clear e;go_wp2;go_ret;exact⟨rfl,eA⟩
end
section
open Go.RowKit Go.Shelf Go.Sort Go.Lib
def Cr(s:Sp)(x:Int):Bool:=decide (s.lo<x)&&decide (x<s.hi)
def mg(s:Sp)(ps:LP):List Int:=(ps.map (·.1)).filter (Cr s)
def Vd(s:Sp):List Int:=compact (Xf (s.lo::s.hi::mg s (s.over++s.under)))
def Mc(s:Sp):List Rat:=(Vd s).map fun z:Int=>(z:Rat)
def Kg(s:Sp):Prop:=je s.over/\je s.under/\Bd 104000 s.lo/\Bd 104000 s.hi
def Co{ps a:LP}(h:je ps)(k:je a):Kg (Ld ps a):=by have c:=iE h;have d:=iE k;refine⟨h,k,?_,?_⟩<;>(unfold Ld;unfold Bd at *;dsimp only;omega)
def IE{s:Sp}(h:Kg s):∀z∈Vd s,Bd 104000 z:=by
 intro z g;have:=tG g;rw[Sh]at this;obtain⟨c,d,e,f⟩:=h;rcases List.mem_cons.1 this with rfl|this
 ·exact e
 rcases List.mem_cons.1 this with rfl|this
 ·exact f
 obtain⟨p,a,rfl⟩:=List.mem_map.1 (List.mem_filter.1 this).1;rcases List.mem_append.1 a with a|a
 ·exact(c.2.1 p a).1
 ·exact(d.2.1 p a).1
def FL(s:Sp)(ps:LP):(mg s ps).length<=ps.length:=by unfold mg;exact nT (List.length_filter_le _ _) sM
def EO{s:Sp}{ps:LP}{i:Nat}{p:Int×Int}(h:ps[i]?=M p):mg s (ps.take (i+1))=mg s (ps.take i)++(if Cr s p.1 then [p.1]else []):=by
 unfold mg;rw[Ce _ _ _ h,List.map_append,List.filter_append]
 congr 1
 simp[List.filter_cons]
def ZT(W0:Z)(base:Nat)(s:Sp)(a:Ob)(g:Nat)(t3 t21:Ob)(W:Z):Prop:=
 ∃i:Nat,i<=(s.over++s.under).length/\t21=Oa U i/\g=(s.over++s.under).length-i/\Ba W0 W/\base<=W.heap.size/\Ja W a (s.over++s.under)/\Fa 3 1 W base t3 ((s.lo::s.hi::mg s ((s.over++s.under).take i)).map ic)
def YT(W0:Z)(base:Nat)(zs:List Int)(v46:Ob)(g:Nat)(c a:Ob)(W:Z):Prop:=
 ∃i:Nat,i<=zs.length/\a=Oa U i/\g=zs.length-i/\Ba W0 W/\base<=W.heap.size/\Fa 3 1 W base v46 (zs.map ic)/\Jf W base c ((zs.take i).map fun z:Int=>(z:Rat))
def ix(W:Z)(x:Int)(T:TypeId):∀(j:Nat) u,[ic x].flatten[j]?=M u->(W.alloc (Oc #[Oa U x] T)).cell? ((⟨W.heap.size,0,I⟩:Oh).add j)=M u:=by
 intro j u a
 match j,a with
 | 0,a=>simp[ic]at a;subst a;simp[Addr.add]
 | j+1,a=>simp[ic]at a
def Bx(x:Int):∀u∈[ic x].flatten,u.oneCell'=true:=sJ (zs:=[x])
def qC(W:Z)(base:Nat)(x y:Int)(h:base<=W.heap.size):Fa 3 1 (W.alloc (Oc #[Oa U x,Oa U y] 3)) base (O (M ⟨W.heap.size,0,I⟩) 2 2) ([x,y].map ic):=
 ⟨Lu,by simp[ic],.inr ⟨W.heap.size,2,_,rfl,h,aN _ _,by simp,by unfold maxLen;omega,by simp,by simp[ic]⟩⟩
def uN(W:Z){b:Nat}(o:b=W.heap.size){e f:Ob}{ps j:LP}(k:Ja W e ps)(l:Ja W f j):Sl 146 1 (Fr 146) (W.alloc (Oc #[e,f] 146)) (O (M ⟨b,0,I⟩) 2 2) [ps,j]:=by
 subst o;refine⟨[[e],[f]],rfl,by simp,⟨by simp,M ⟨W.heap.size,0,I⟩,2,rfl,nE _,by unfold maxLen;omega,.inr ⟨W.heap.size,0,#[e,f],(0,0),rfl,aN _ _,?_⟩⟩,?_⟩
 ·intro i x a;simpa using a
 ·intro i c x d a;have g:Ba W (W.alloc (Oc #[e,f] 146)):=(eR W).alloc _
  match i,d,a with
  | 0,d,a=>simp at d a;subst d a;exact⟨_,rfl,k.f g⟩
  | 1,d,a=>simp at d a;subst d a;exact⟨_,rfl,l.f g⟩
  | i+2,d,a=>simp at d
def BH(W:Z)(x y z:Ob)(T:TypeId):∀(j:Nat) u,[[x,y,z]].flatten[j]?=M u->(W.alloc (Oc #[x,y,z] T)).cell? ((⟨W.heap.size,0,I⟩:Oh).add j)=M u:=by
 intro j u a
 match j,a with
 | 0,a=>simp at a;subst a;simp[Addr.add]
 | 1,a=>simp at a;subst a;simp[Addr.add]
 | 2,a=>simp at a;subst a;simp[Addr.add]
 | j+3,a=>simp at a
def Jf.app{g wr:Z}{base:Nat}{l:Ob}{f:List Rat}{cs:List (List Ob)}{d:List Ob}{q:Rat}(h:Fa 181 3 g base l (cs++[d]))(j:cs.length=f.length)(k:∀(i:Nat) c q,cs[i]?=M c->f[i]?=M q->PR wr c q)(r:Ka 2 wr g)(o:Cb g (Oe d.toArray) q):Jf g base l (f++[q]):=by
 refine⟨cs++[d],h,by simp[j],fun i c x a e=>?_⟩;by_cases p:i<cs.length
 ·rw[List.getElem?_append_left p]at a;rw[List.getElem?_append_left oM]at e;exact Cb.keep (k i c x a e) r
 ·rw[List.getElem?_append_right oM]at a e;have s:=(lS.1 a).1;simp at s;have:i-cs.length=0:=oM;rw[this]at a;rw[show i-f.length=0 by omega]at e;simp at a e;subst a e;exact o
def GE(w:Z)(v1 v2:Ob)(s:Sp)(h1:Ja w v1 s.over)(h2:Ja w v2 s.under)(ar:Kg s):Calls Tryz.prog 216 #[qj s v1 v2] w (qp w (Mc s)):=by
 obtain⟨a1,m1,rfl⟩:=h1.form;obtain⟨a2,m2,rfl⟩:=h2.form;obtain⟨R,hR⟩:=gX (qp w (Mc s));rw[hR];have HR:=Aa hR;have bl:=Aa ar;clear hR;unfold qj;obtain⟨n1,f1⟩:=gX s.over.length;obtain⟨n2,f2⟩:=gX s.under.length;obtain⟨lo,aB⟩:=gX s.lo;obtain⟨hi,aA⟩:=gX s.hi;rw[f1]at h1 ⊢;rw[f2]at h2 ⊢;rw[aB,aA];have aM:=Aa aB;have aL:=Aa aA;have hn:(s.over++s.under).length=n1+n2:=by simp[f1,f2]
 have L:=Aa hn;have q1:n1<=64:=by rw[<-f1];exact ar.1.2.2
 have q2:n2<=64:=by rw[<-f2];exact ar.2.1.2.2
 have H1:=Aa (fun(W:Z)(hW:Ba w W)=>h1.f hW);have H2:=Aa (fun(W:Z)(hW:Ba w W)=>h2.f hW);clear ar f1 f2 aB aA hn h1 h2;go_in;obtain⟨W0,ao⟩:=gX ((w.alloc (Oc #[O a1 n1 m1,O a2 n2 m2,Oa U lo,Oa U hi] 265)));have hB:W0.heap[w.heap.size]?=M (Oc #[O a1 n1 m1,O a2 n2 m2,Oa U lo,Oa U hi] 265 (0,0)):=by rw[<-ao];exact aN _ _
 have bq:Ba w W0:=by rw[<-ao];exact(eR _).alloc _
 have aD:W0.heap.size=w.heap.size+1:=by rw[<-ao];simp
 have b0:=Da hB (i:=0) (u:=O a1 n1 m1) rfl;have b1:=Da hB (i:=1) (u:=O a2 n2 m2) rfl;have b2:=Da hB (i:=2) (u:=Oa U lo) rfl;have b3:=Da hB (i:=3) (u:=Oa U hi) rfl;have HP:=Aa bq;have ac:=Aa aD;go_wp2_with(go_at_call 255;(with_reducible refine(sR _ _ [s.over,s.under] (uN _ ?_ (H1.o _ ?_) (H2.o _ ?_)) ?_).mono ?_);(simp only[wZ];have:=ac.o;omega);(exact HP.o.alloc _);(exact HP.o.alloc _);(have:=L.o;simp only[xk,List.flatten_cons,List.flatten_nil,List.append_nil];omega);rintro e w3 ⟨v3,rfl,q,av⟩;obtain⟨a3,n3,c3,rfl⟩:=q.i;obtain⟨br,bs⟩:=av.cells);rw[show [s.over,s.under].flatten=s.over++s.under by simp]at q;have bc:=q.pts;have aZ:=q.len;rw[lL,L.o]at aZ;subst aZ;have aE:Ba W0 w3:=(((eR W0).alloc _).alloc _).trans av;have bi:=aE.size;have ab:=(((qC W0 W0.heap.size lo hi (nE _)).ext ((eR _).alloc (Oc #[O a1 n1 m1,O a2 n2 m2] 146))).ext av);rw[aD]at ab;clear br bs av ao b0 b1 b2 b3;go_loopg [3,21] (n1+n2) (ZT W0 (w.heap.size+1) s (O a3 (n1+n2) c3))
 case atStart =>
  refine⟨0,by omega,rfl,by rw[L.o];rfl,aE,by rw[<-aD];exact bi,bc,?_⟩;rw[aM.o,aL.o,List.take_zero,show mg s []=[]from rfl];exact ab
 case round =>
  clear ab bc q aE bi;obtain⟨i,bt,rfl,rfl,hx,aq,au,a⟩:=hrel;rw[L.o]at bt;obtain⟨bn,bj,aS,rfl⟩:=a.i;have a0:=FL s ((s.over++s.under).take i);have a4:((s.over++s.under).take i).length<=i:=by simp;omega
  have ae:((s.lo::s.hi::mg s ((s.over++s.under).take i)).map ic).length<=200:=by simp;omega
  have b0:=hx.d (Da hB (i:=0) (u:=O a1 n1 m1) rfl);have b1:=hx.d (Da hB (i:=1) (u:=O a2 n2 m2) rfl);have b2:=hx.d (Da hB (i:=2) (u:=Oa U lo) rfl);have b3:=hx.d (Da hB (i:=3) (u:=Oa U hi) rfl);have f:=Aa a;have Hx:=Aa hx;have am:=Aa au;have ak:=Aa ae;have Hb:=Aa hB;have bD:=hx.size;have bC:w.heap.size<wr.heap.size:=by have:=ac.o;omega
  by_cases af:i<n1+n2
  ·obtain⟨⟨x,z⟩,aJ⟩:∃p,(s.over++s.under)[i]?=M p:=⟨(s.over++s.under)[i]'(by rw[L.o];exact af),by simp[L.o,af]⟩;obtain⟨b,o,rfl,hb,c0,c1⟩:=au.at' aJ;have bb:=EO (s:=s) aJ;have al:=Aa bb;have aY:Cr s x=(decide (lo<x)&&decide (x<hi)):=by unfold Cr;rw[aM.o,aL.o]
   have aj:=Aa aY;clear bb aJ au a hx a0 a4 aY hB;by_cases hc:lo<x/\x<hi
   ·obtain⟨g1,g2⟩:=hc;obtain⟨n3,bA⟩:=gX bj;(have hE:mg s ((s.over++s.under).take (i+1))=mg s ((s.over++s.under).take i)++[x]:=by rw[al.o];dsimp only;rw[aj.o];simp[g1,g2]);have HE:=Aa hE;clear hE al aj;go_wp2_with(at_builtin;refine Mi (T:=3) (t:=47) (z:=Oa U 0) (k:=1) (bytes:=8) (base:=w.heap.size+1) (v:=O bn bj aS) (m:=1) (c:=1) (ad:=⟨wr.heap.size+1,0,I⟩) LJ rfl dM dM Tryz.underlying47 rfl _ _ rfl rfl (f.o.ext eA) rfl [ic x] rfl (by simp[ic]) (by simpa using ix (wr.alloc (Oc #[Oa U x,Oa U z] 91)) x 3) (Bx x) (by have:=ak.o;omega) (by simp only[wZ];omega) ?_;intro v' w5 r l ba;obtain⟨a5,n5,c5,rfl⟩:=r.i);go_roundg (n1+n2-(i+1))
    case measure=>have:=L.o;rw[lA]at this;omega
    case rel =>
     have y:Ba wr ((wr.alloc (Oc #[Oa U x,Oa U z] 91)).alloc (Oc #[Oa U x] 3)):=((eR wr).alloc _).alloc _;have aa:=f.o.ext y;have ag:=Yg (base:=w.heap.size+1) l (by simp only[wZ];omega) (fun k hk=>(aa.lt k hk).1);refine⟨i+1,by rw[L.o];omega,by go_num,by rw[L.o],(Hx.o.trans y).D ag (by rw[ac.o];exact nE _),nT aq (nT y.size ag.size),(am.o.f y).E (aa.keepT dM l),?_⟩;rw[HE.o];simpa using r
   ·have hE:mg s ((s.over++s.under).take (i+1))=mg s ((s.over++s.under).take i):=by
     rw[al.o];dsimp only;rw[aj.o,if_neg (by simp;omega),List.append_nil]
    have HE:=Aa hE;clear hE al aj;by_cases g1:lo<x
    ·have g2:¬x<hi:=fun h=>hc ⟨g1,h⟩;go_wp2;go_roundg (n1+n2-(i+1))
     case measure=>have:=L.o;rw[lA]at this;omega
     case rel =>
      have y:Ba wr (wr.alloc (Oc #[Oa U x,Oa U z] 91)):=((eR wr).alloc _);refine⟨i+1,by rw[L.o];omega,by go_num,by rw[L.o],Hx.o.trans y,nT aq y.size,am.o.f y,?_⟩;rw[HE.o];exact f.o.ext y
    ·go_wp2;go_roundg (n1+n2-(i+1))
     case measure=>have:=L.o;rw[lA]at this;omega
     case rel =>
      have y:Ba wr (wr.alloc (Oc #[Oa U x,Oa U z] 91)):=((eR wr).alloc _);refine⟨i+1,by rw[L.o];omega,by go_num,by rw[L.o],Hx.o.trans y,nT aq y.size,am.o.f y,?_⟩;rw[HE.o];exact f.o.ext y
  ·obtain rfl:i=n1+n2:=oM;have hE:(s.over++s.under).take (n1+n2)=s.over++s.under:=lT (by rw[L.o];exact nE _);rw[hE]at a f ae ak;obtain⟨g,rfl,aV,bz⟩:=a.blk sM;have aK:(s.lo::s.hi::mg s (s.over++s.under)).length<=200:=by rw[lL]at ae;exact ae
   have an:=Aa aK;obtain⟨L1,aC⟩:=gX ((s.lo::s.hi::mg s (s.over++s.under)));rw[aC]at a f ae ak aK an;have aO:=Aa aC;clear hE aC a a0 a4 ae au hx hB;go_wp2_with(first|(go_at_call 256;(with_reducible refine(mQ _ _ _ _ _ _ f.o ?_).mono ?_);(have:=an.o;omega);rintro e w5 ⟨rfl,r,aW⟩)|(go_at_call 257;(with_reducible refine(LS _ _ _ _ _ _ r ?_).mono ?_);(have:=an.o;rw[Ls];omega);rintro e w6 ⟨rfl,K,aX⟩));have ap:=Yg (base:=w.heap.size+1) aW oM (fun k hk=>by cases hk;exact aV);have aF:=Yg (base:=w.heap.size+1) aX (nT aq ap.size) (fun k hk=>by cases hk;exact aV);have aT:Ba W0 w6:=(Hx.o.D ap (by rw[ac.o];exact nE _)).D aF (by rw[ac.o];exact nE _);have bf:w.heap.size+1<=w6.heap.size:=by have:=ap.size;have:=aF.size;omega
   obtain⟨zs,aw⟩:=gX (compact (Xf L1));have bv:zs.length<=200:=by rw[<-aw];have:=uG (Xf L1);rw[Ls]at this;omega
   have ai:Vd s=zs:=by unfold Vd;rw[aO.o,aw]
   have aP:=Aa (IE bl.o);rw[ai]at aP;have aR:=Aa ai;rw[aw]at K ⊢;obtain⟨m,hm⟩:=gX zs.length;rw[hm]at K bv ⊢;have Hm:=Aa hm;clear hm aw ai r aW aX ap aF f aO aK an ak am b0 b1 b2 b3 Hb af;go_loopg [6,48] m (YT W0 (w.heap.size+1) zs (O (M ⟨g,0,I⟩) m aS))
   case atStart=>exact⟨0,by omega,rfl,by rw[Hm.o];rfl,aT,bf,K,by simpa using Jf.nil _ _⟩
   case round =>
    clear K aT bf;obtain⟨i,bu,rfl,rfl,hx,bx,a,hR⟩:=hrel;rw[Hm.o]at bu;obtain⟨cs,aI,aH,aU⟩:=hR;obtain⟨bo,bw,bp,rfl⟩:=aI.i;have az:=Aa aI;have ay:=Aa aU;have ax:=Aa aH;have f:=Aa a;have aQ:=Aa hx;have zg:=(a.lt g rfl).2;by_cases af:i<m
    ·obtain⟨z,hz⟩:∃z,zs[i]?=M z:=⟨zs[i]'(by rw[Hm.o];exact af),by simp[Hm.o,af]⟩;have c0:=a.cell (i:=i) (j:=0) (d:=ic z) (u:=Oa U z) (by rw[lP,hz];rfl) rfl;simp only[Nat.mul_one,Nat.add_zero]at c0;have aG:=aP.o z (lM hz);(have a6:cs.length<=200:=by rw[aH];simp;omega);have bk:=Aa a6;have HC:=Aa (fun W=>Ul W z (by unfold Bd at aG;omega) (by unfold Bd at aG;omega));(have bg:(zs.take (i+1)).map (fun z:Int=>(z:Rat))=(zs.take i).map (fun z:Int=>(z:Rat))++[(z:Rat)]:=by rw[Ce _ _ _ hz,List.map_append];rfl);have bm:=Aa bg;clear bg hz aI aU aH a hx aG a6;go_wp2_with(first|(go_at_call 215;refine cM (HC.o _) ?_;rintro e w7 ⟨r7,rfl,be,bh⟩;obtain⟨a7,m7,c7,s7,a8,m8,c8,rfl⟩:=be.form)|(at_builtin;refine Mi (T:=181) (t:=296) (z:=Oe #[O I 0 0,Od false,O I 0 0]) (k:=3) (bytes:=56) (base:=w.heap.size+1) (v:=O bo bw bp) (m:=1) (c:=1) (ad:=⟨w7.heap.size,0,I⟩) rJ rfl dM dM Tryz.underlying296 rfl _ _ rfl rfl (az.o.ext eA) rfl [[O a7 m7 c7,Od s7,O a8 m8 c8]] rfl sM (BH _ _ _ _ _) (by simp[Value.oneCell']) (by have:=bk.o;omega) (by have:=bh.size;simp only[wZ,Yb]at *;omega) ?_;intro v' w8 ah l ba;obtain⟨a9,n9,c9,rfl⟩:=ah.i));go_roundg (m-(i+1))
     case measure=>have:=Hm.o;omega
     case rel =>
      have y:Ba wr (w7.alloc (Oc #[O a7 m7 c7,Od s7,O a8 m8 c8] 181)):=(((eR wr).trans bh).alloc _);have aa:=az.o.ext y;have bB:=y.size;have ag:=Yg (base:=w.heap.size+1) l oM (fun k hk=>(aa.lt k hk).1);refine⟨i+1,by rw[Hm.o];omega,by go_num,by rw[Hm.o],(aQ.o.trans y).D ag (by rw[ac.o];exact nE _),by have:=ag.size;omega,(f.o.ext y).keep (aa.keepT dM l),?_⟩;rw[bm.o];exact Jf.app ah ax.o ay.o (y.keep.trans (aa.keepT dM l)) (be.keep (((eR w7).alloc _).keep.trans (aa.keepT dM l)))
    ·obtain rfl:i=m:=oM;have hE:zs.take i=zs:=lT (by rw[Hm.o];exact nE _);rw[hE]at ay ax;clear hE;go_wp2;rw[<-HR.o];refine⟨_,rfl,?_,HP.o.trans aQ.o⟩;unfold Mc;rw[aR.o];exact Jf.mono ⟨cs,az.o,ax.o,ay.o⟩ oM
end
section
open Go.RowKit Go.Shelf
def Ct(W:Z)(b:Nat):Nat->List Ob->Z
 | _,[]=>W
 | i,v::vs=>Ct (W.setCell ⟨b,i,I⟩ v) b (i+1) vs
def qo(cs:Array Ob):Nat->List Ob->Array Ob
 | _,[]=>cs
 | i,v::vs=>qo (cs.setIfInBounds i v) (i+1) vs
def rC{b:Nat}{T:TypeId}{d:Nat×Nat}:∀(a:List Ob)(i:Nat){W:Z}{c:Array Ob},W.heap[b]?=M (Oc c T d)->(Ct W b i a).heap[b]?=M (Oc (qo c i a) T d)
 | [],_,_,_,h=>h
 | _::a,i,_,_,h=>rC a (i+1) (Kk h i _)
def mE:∀(e d a:List Ob),d.length=e.length->qo (a++d).toArray a.length e=(a++e).toArray
 | [],d,a,h=>by rw[List.eq_nil_of_length_eq_zero h];rfl
 | v::e,[],_,h=>by cases h
 | v::e,c::d,a,h=>by
  have f:=mE e d (a++[v]) (by simpa using h);unfold qo;rw[show (a++c::d).toArray.setIfInBounds a.length v=(a++[v]++d).toArray by simp];rw[lA,List.length_singleton]at f;rw[f];simp
def xM{W:Z}{b:Nat}{cs:List Ob}{T:TypeId}{c:Nat×Nat}(a:List Ob)(h:W.heap[b]?=M (Oc cs.toArray T c))(d:cs.length=a.length):(Ct W b 0 a).heap[b]?=M (Oc a.toArray T c):=by rw[rC a 0 h];have:=mE a cs [] d;rw[List.nil_append,List.nil_append]at this;rw[List.length_nil]at this;rw[this]
def JE{b k:Nat}(c:k≠b):∀(a:List Ob)(i:Nat)(W:Z),(Ct W b i a).heap[k]?=W.heap[k]?
 | [],_,_=>rfl
 | _::a,i,W=>(JE c a (i+1) _).trans (bS _ _ _ _ c)
def Yq{T:TypeId}{b:Nat}:∀(a:List Ob)(i:Nat){W:Z},sd T W b->Ka T W (Ct W b i a)
 | [],_,_,_=>Ka.refl _ _
 | _::a,i,_,h=>(Ka.y (p:=⟨b,i,I⟩) (Ka.refl _ _) h _).trans (Yq a (i+1) (h.set _ _))
end
section
open Go.RowKit Go.Shelf Go.Sort Go.Lib
def Rb.gap{s:Sp}{x:Rat}(a:Rb 1 x)(h:Kg s):Rb 23 (Ub s x):=by unfold Ub;exact Rb.sub (k:=11) (a.atR h.1) (a.atR h.2.1)
def Nh{k:Nat}{q:Rat}(h:Rb k q)(a:k<=1000000):Rb Wb q:=h.mono a
def iB(w:Z)(s:Sp)(d e f:Ob)(x:Rat)(g:Ja w d s.over)(i:Ja w e s.under)(a:Kg s)(j:Cb w f x)(c:Rb 1 x):Calls Tryz.prog 217 #[qj s d e,f] w (Uf w (Ub s x)):=
 yL w s d e f x g i a.1 a.2.1 j (c.mono oM) (Nh (c.atR a.1) oM) (Nh (c.atR a.2.1) oM)
def Ik{s:Sp}(h:Kg s):∀q∈Mc s,Rb 1 q:=by intro q a;obtain⟨z,c,rfl⟩:=List.mem_map.1 a;exact Bi (IE h z c)
def Nb(f:Rat->Rat)(o:Rat×Rat)(x:Rat):Rat×Rat:=if jd (f x) o.2<0 then (x,f x)else o
def yd(f:Rat->Rat):List Rat->Rat×Rat
 | []=>(0,0)
 | x::xs=>xs.foldl (Nb f) (x,f x)
def JF(f:Rat->Rat)(xs:List Rat)(x:Rat)(h:xs≠[]):yd f (xs++[x])=Nb f (yd f xs) x:=by
 cases xs with
 | nil=>exact absurd rfl h
 | cons y a=>simp[yd]
def Jp(f:Rat->Rat){xs:List Rat}(h:xs≠[]):(yd f xs).1∈xs/\(yd f xs).2=f (yd f xs).1:=by
 cases xs with
 | nil=>exact absurd rfl h
 | cons x xs =>
  have:∀(c:List Rat)(a:Rat×Rat),a.2=f a.1->(c.foldl (Nb f) a).2=f (c.foldl (Nb f) a).1/\((c.foldl (Nb f) a).1=a.1\/(c.foldl (Nb f) a).1∈c):=by
   intro c;induction c with
   | nil=>intro a h;exact⟨h,.inl rfl⟩
   | cons y c k =>
    intro a i;rw[List.foldl_cons];have j:(Nb f a y).2=f (Nb f a y).1:=by unfold Nb;split<;>first|rfl|exact i
    obtain⟨d,g⟩:=k _ j;refine⟨d,?_⟩;rcases g with e|e
    ·rw[e];unfold Nb;split
     ·exact .inr sM
     ·exact .inl rfl
    ·exact .inr (mC _ e)
  obtain⟨d,g⟩:=this xs (x,f x) rfl;refine⟨?_,d⟩;rcases g with e|e
  ·show (xs.foldl (Nb f) (x,f x)).1∈_;rw[e];simp
  ·exact mC _ e
def Vk(w:Z)(p q:Rat)(e:Ending)(w':Z):Prop:=∃r s,e=.returned (Oi #[r,s])/\Cb w' r p/\Cb w' s q/\Ba w w'
def Ea.set3d{L:List (Oh×Ob)}{W:Z}{b:Nat}(h:Ea L W.drew)(a:∀q∈L,b≠q.1.block)(u v t:Ob):Ea L (((W.setCell ⟨b,0,I⟩ u).setCell ⟨b,1,I⟩ v).setCell ⟨b,2,I⟩ t).drew:=
 Ea.set3 h a u v t
def RB.put3{W W':Z}{d:Nat}{p x:Rat}{a i:Option Oh}{m c j c2:Nat}{s:Bool}(h:RB W d x)(v:Cb W (Oe #[O a m c,Od s,O i j c2]) p)(f:((W.setCell ⟨d,0,I⟩ (O a m c)).setCell ⟨d,1,I⟩ (Od s)).setCell ⟨d,2,I⟩ (O i j c2)=W'):RB W' d p/\(∀b r,b≠d->RB W b r->RB W' b r)/\Ka 2 W W'/\W'.heap.size=W.heap.size/\(∀w:Z,Ba w W->w.heap.size<=d->Ba w W'):=by
 have e:=h.not;have u:=h.put v;rw[f]at u;refine⟨u,fun b r l k=>?_,?_,?_,fun w k o=>?_⟩
 ·have q:=k.other (p:=⟨d,0,I⟩) (Ne.symm l) e (O a m c);have t:=q.other (p:=⟨d,1,I⟩) (Ne.symm l) (e.set _ _) (Od s);have g:=t.other (p:=⟨d,2,I⟩) (Ne.symm l) ((e.set _ _).set _ _) (O i j c2);rw[f]at g;exact g
 ·have q:=(Ka.refl 2 W).y (p:=⟨d,0,I⟩) e (O a m c);have t:=q.y (p:=⟨d,1,I⟩) (e.set _ _) (Od s);have g:=t.y (p:=⟨d,2,I⟩) ((e.set _ _).set _ _) (O i j c2);rw[f]at g;exact g
 ·rw[<-f];simp
 ·rw[<-f];exact((k.set o _).set o _).set o _
def RB.copy2{W W1 g:Z}{d f:Nat}{p q p' q':Rat}{a i e R:Option Oh}{m c m2 c2 n k n2 k2:Nat}{s t:Bool}(h1:RB W d p')(h2:RB W f q')(j:d≠f)(y:Cb W (Oe #[O a m c,Od s,O i m2 c2]) p)(z:Cb W (Oe #[O e n k,Od t,O R n2 k2]) q)(l:((W.setCell ⟨d,0,I⟩ (O a m c)).setCell ⟨d,1,I⟩ (Od s)).setCell ⟨d,2,I⟩ (O i m2 c2)=W1)(o:((W1.setCell ⟨f,0,I⟩ (O e n k)).setCell ⟨f,1,I⟩ (Od t)).setCell ⟨f,2,I⟩ (O R n2 k2)=g):RB g d p/\RB g f q/\(∀b r,b≠d->b≠f->RB W b r->RB g b r)/\Ka 2 W g/\g.heap.size=W.heap.size/\(∀w:Z,Ba w W->w.heap.size<=d->w.heap.size<=f->Ba w g):=by obtain⟨a1,i,K,a4,a5⟩:=h1.put3 y l;obtain⟨b1,L,b3,b4,b5⟩:=(i _ _ (Ne.symm j) h2).put3 (z.keep K) o;exact⟨L _ _ j a1,b1,fun b r hb u h=>L _ _ u (i _ _ hb h),K.trans b3,b4.trans a4,fun w k v x=>b5 w (a5 w k v) x⟩
def RV(w:Z)(f:Rat->Rat)(a:List Rat)(g:Nat)(c:Ob)(W:Z):Prop:=
 ∃i:Nat,i<=a.length/\c=Oa U i/\g=a.length-i/\Ba w W/\RB W w.heap.size 0/\RB W (w.heap.size+1) 0/\RB W (w.heap.size+1+1) (yd f (a.take i)).1/\RB W (w.heap.size+1+1+1) (yd f (a.take i)).2
def WN(w:Z)(v v1 v2:Ob)(s:Sp)(qs:List Rat)(hs:Yh w v qs)(h1:Ja w v1 s.over)(h2:Ja w v2 s.under)(ao:Kg s)(hq:∀q∈qs,Rb 1 q):Calls Tryz.prog 243 #[v,.func (.func 217) #[qj s v1 v2] #[]] w (Vk w (yd (Ub s) qs).1 (yd (Ub s) qs).2):=by
 obtain⟨a,c,rfl⟩:=hs.form;obtain⟨n,hn⟩:=gX qs.length;rw[hn]at hs ⊢;have aO:=hs.le;unfold maxLen at aO;have Hn:=Aa hn;have Hq:=Aa hq;have az:=Aa ao;have aW:n<=9223372036854775807:=oM;have HG:=Aa (fun(W:Z)(hW:Ba w W)(vx:Ob)(x:Rat)(hx:Cb W vx x)(hb:Rb 1 x)=>iB W s v1 v2 vx x (h1.f hW) (h2.f hW) ao hx hb);obtain⟨sv,aP⟩:=gX (qj s v1 v2);rw[aP]at HG ⊢;obtain⟨R,hR⟩:=gX (Vk w (yd (Ub s) qs).1 (yd (Ub s) qs).2);rw[hR];have HR:=Aa hR;clear hn hq aO aP ao hR;go_in;go_wp2;go_loopg [13] n (RV w (Ub s) qs)
 case atStart =>
  have z:∀W,Cb W (Oe #[O I 0 0,Od false,O I 0 0]) 0:=fun W=>Cb.zero _;exact⟨0,by omega,rfl,by rw[Hn.o];rfl,eA,(RB.new (z w) rfl).ext ((((eR _).alloc _).alloc _).alloc _),(RB.new (z _) sM).ext (((eR _).alloc _).alloc _),(RB.new (z _) sM).ext ((eR _).alloc _),RB.new (z _) sM⟩
 case round =>
  obtain⟨i,hi,rfl,rfl,hx,hA,hB,hC,hD⟩:=hrel;rw[Hn.o]at hi;have Hx:=Aa hx;have HA:=Aa hA;have HB:=Aa hB;have HC:=Aa hC;have HD:=Aa hD;by_cases aT:i<n
  ·obtain⟨x,am⟩:∃x,qs[i]?=M x:=⟨qs[i]'(by rw[Hn.o];omega),by simp[Hn.o,aT]⟩;obtain⟨b,o,a3,m3,c3,s3,a4,m4,c4,rfl,aV,af,e0,e1,e2⟩:=(hs.f hx).at' am;have aA:=Aa am;have aK:=Hq.o x (lM am);have aj:=Aa aK;clear am hA hB hC hx aK;obtain⟨d1,dm,dc,ds,d2,aI,aE,aB,aC,aD,aF,aG,aH,zD,an⟩:=hD.rd;by_cases h0:i=0
   ·(have aR:((i:Int)==0)=true:=by simp;omega);have H0:=Aa h0;clear h0 hD;go_wp2_with(((go_at_call 217;refine cM (HG.o _ ?_ (Oe #[O a3 m3 c3,Od s3,O a4 m4 c4]) x ?_ aj.o) ?_;(refine Ba.trans Hx.o ?_;exact eA);(refine af.ext ?_;exact eA);rintro e w1 ⟨r1,rfl,aa,f⟩;obtain⟨b1,n1,k1,t1,b2,n2,k2,rfl⟩:=aa.form;obtain⟨ak,al⟩:=f.cells;(have z1:wr.heap.size<w1.heap.size:=(by have:=f.size;simp only[wZ]at this;omega)))));obtain⟨W8,ah⟩:=gX ((w1.alloc (Oc #[O b1 n1 k1,Od t1,O b2 n2 k2] 181)));(have d:Ba wr W8:=by rw[<-ah];exact(((eR _).alloc _).trans f).alloc _);(have g1:RB W8 wr.heap.size x:=by rw[<-ah];exact((RB.new af rfl).ext f).ext ((eR _).alloc _));(have g2:RB W8 w1.heap.size (Ub s x):=by rw[<-ah];exact RB.new aa rfl);have g3:=HC.o.ext d;have g4:=HD.o.ext d;have zW:=d.size;obtain⟨s1,ai⟩:=gX w1.heap.size;rw[ah];simp only[ai]at *;clear ah ak al aa f an aB aC aD aF aG aH ai e0 e1 e2 af;obtain⟨pa,pm,l,ps,j,r,p,p0,p1,p2,_,_,_,pz,hp⟩:=(g1).rd;obtain⟨qa,qm,qc,L,t,y,u,q0,q1,q2,_,_,_,qz,ag⟩:=(g2).rd;obtain⟨_,_,_,_,_,_,_,x0,x1,x2,ap,aq,ar,xz,_⟩:=(g3).rd;obtain⟨_,_,_,_,_,_,_,y0,y1,y2,au,av,aw,yz,_⟩:=(g4).rd;refine od [(⟨wr.heap.size,0,I⟩,O pa pm l),(⟨wr.heap.size,1,I⟩,Od ps),(⟨wr.heap.size,2,I⟩,O j r p),(⟨s1,0,I⟩,O qa qm qc),(⟨s1,1,I⟩,Od L),(⟨s1,2,I⟩,O t y u)] cA fun g=>?_;refine sN 0 ?_
    (iterate 2 refine ub ?_);refine oN ?_;have ab:∀q∈[((⟨wr.heap.size,0,I⟩:Oh),Value.slice pa pm l),(⟨wr.heap.size,1,I⟩,Od ps),(⟨wr.heap.size,2,I⟩,O j r p),(⟨s1,0,I⟩,O qa qm qc),(⟨s1,1,I⟩,Od L),(⟨s1,2,I⟩,O t y u)],w.heap.size+1+1≠q.1.block:=by
     intro q hq;simp at hq;rcases hq with rfl|rfl|rfl|rfl|rfl|rfl<;>(dsimp only;omega)
    have ac:∀q∈[((⟨wr.heap.size,0,I⟩:Oh),Value.slice pa pm l),(⟨wr.heap.size,1,I⟩,Od ps),(⟨wr.heap.size,2,I⟩,O j r p),(⟨s1,0,I⟩,O qa qm qc),(⟨s1,1,I⟩,Od L),(⟨s1,2,I⟩,O t y u)],w.heap.size+1+1+1≠q.1.block:=by
     intro q hq;simp at hq;rcases hq with rfl|rfl|rfl|rfl|rfl|rfl<;>(dsimp only;omega)
    refine ye (i:=2) fun K hK=>?_;go_simp;refine kO hK (Ea.set3d g ab _ _ _) (fun g=>?_);clear hK K;refine ye (i:=3) fun K hK=>?_;go_simp;refine kO hK (Ea.set3d g ac _ _ _) (fun g=>?_);clear hK K;refine Tb ?_;have e:yd (Ub s) (qs.take (i+1))=(x,Ub s x):=by
     have:=H0.o;subst this;rw[Ce _ _ _ aA.o];simp[yd]
    have E:=Aa e;have ae:=Aa d;have P:=Aa (RB.copy2 g3 g4 oM hp ag rfl rfl);clear e d g1 g2 g3 g4;go_wp2;go_roundg (n-(i+1))
    case measure=>have:=Hn.o;omega
    case rel =>
     obtain⟨P1,P2,P3,P4,P5,P6⟩:=P.o;have D:=fun W=>(eR W).drew;exact⟨i+1,by rw[Hn.o];omega,by go_num,by rw[Hn.o],(P6 w (Hx.o.trans ae.o) oM oM).drew,
      (P3 _ _ oM oM (HA.o.ext ae.o)).ext (D _),(P3 _ _ oM oM (HB.o.ext ae.o)).ext (D _),by rw[E.o];exact P1.ext (D _),by rw[E.o];exact P2.ext (D _)⟩
   ·(have aR:((i:Int)==0)=false:=by simp;omega);have H0:=Aa h0;clear h0 hD;have aJ:Rb 23 (yd (Ub s) (qs.take i)).2:=by
     have aU:qs.take i≠[]:=fun h=>by
      (have h2:(qs.take i).length=0:=by rw[h];rfl);rw[List.length_take,Hn.o]at h2;have:=H0.o;omega
     obtain⟨j1,j2⟩:=Jp (Ub s) aU;rw[j2];exact Rb.gap (Hq.o _ (List.mem_of_mem_take j1)) az.o
    have aQ:=Aa aJ;clear aJ;have e:yd (Ub s) (qs.take (i+1))=Nb (Ub s) (yd (Ub s) (qs.take i)) x:=by
     rw[Ce _ _ _ aA.o,JF];intro h;(have h2:(qs.take i).length=0:=by rw[h];rfl);rw[List.length_take,Hn.o]at h2;have:=H0.o;omega
    have E:=Aa e;clear e;obtain⟨k,hk⟩:=gX (jd (Ub s x) (yd (Ub s) (qs.take i)).2);have Hk:=Aa hk;have ax:=Aa (Nh (Rb.gap aj.o az.o) oM);have ay:=Aa (Nh aQ.o oM);clear hk;have aX:w.heap.size+1+1+1<wr.heap.size+1:=oM;by_cases aS:k<0
    ·go_wp2_with(first|(go_at_call 217;refine cM (HG.o _ ?_ (Oe #[O a3 m3 c3,Od s3,O a4 m4 c4]) x ?_ aj.o) ?_;(refine Ba.trans Hx.o ?_;exact eA);(refine af.ext ?_;exact eA);rintro e w1 ⟨r1,rfl,aa,f⟩;obtain⟨b1,n1,k1,t1,b2,n2,k2,rfl⟩:=aa.form;obtain⟨ak,al⟩:=f.cells;(have z1:wr.heap.size<w1.heap.size:=(by have:=f.size;simp only[wZ]at this;omega));(have z2:w.heap.size+1+1+1<w1.heap.size:=oM))|(go_at_call 214;(with_reducible refine(Am _ (Oe #[O b1 n1 k1,Od t1,O b2 n2 k2]) (Oe #[O d1 dm dc,Od ds,O d2 aI aE]) _ _ (aa.ext ?_) (an.ext ?_) ax.o ay.o).mono ?_);exact eA;exact eA;rintro e w3 ⟨rfl,ad⟩;(try rw[Hk.o]);obtain⟨aL,aM⟩:=ad.cells));have d:Ba wr w3:=((((eR _).alloc _).trans f).alloc _).trans ad;have g1:RB w3 wr.heap.size x:=(((RB.new af rfl).ext f).ext ((eR _).alloc _)).ext ad;have g2:RB w3 w1.heap.size (Ub s x):=(RB.new aa rfl).ext ad;have g3:=HC.o.ext d;have g4:=HD.o.ext d;have zW:=d.size;obtain⟨s1,ai⟩:=gX w1.heap.size;simp only[ai]at *;clear ak al aa f ad aL aM an aB aC aD aF aG aH ai e0 e1 e2 af;obtain⟨pa,pm,l,ps,j,r,p,p0,p1,p2,_,_,_,pz,hp⟩:=(g1).rd;obtain⟨qa,qm,qc,L,t,y,u,q0,q1,q2,_,_,_,qz,ag⟩:=(g2).rd;obtain⟨_,_,_,_,_,_,_,x0,x1,x2,ap,aq,ar,xz,_⟩:=(g3).rd;obtain⟨_,_,_,_,_,_,_,y0,y1,y2,au,av,aw,yz,_⟩:=(g4).rd;refine od [(⟨wr.heap.size,0,I⟩,O pa pm l),(⟨wr.heap.size,1,I⟩,Od ps),(⟨wr.heap.size,2,I⟩,O j r p),(⟨s1,0,I⟩,O qa qm qc),(⟨s1,1,I⟩,Od L),(⟨s1,2,I⟩,O t y u)] cA fun g=>?_;refine sN 0 ?_
     (iterate 2 refine ub ?_);refine oN ?_;have ab:∀q∈[((⟨wr.heap.size,0,I⟩:Oh),Value.slice pa pm l),(⟨wr.heap.size,1,I⟩,Od ps),(⟨wr.heap.size,2,I⟩,O j r p),(⟨s1,0,I⟩,O qa qm qc),(⟨s1,1,I⟩,Od L),(⟨s1,2,I⟩,O t y u)],w.heap.size+1+1≠q.1.block:=by
      intro q hq;simp at hq;rcases hq with rfl|rfl|rfl|rfl|rfl|rfl<;>(dsimp only;omega)
     have ac:∀q∈[((⟨wr.heap.size,0,I⟩:Oh),Value.slice pa pm l),(⟨wr.heap.size,1,I⟩,Od ps),(⟨wr.heap.size,2,I⟩,O j r p),(⟨s1,0,I⟩,O qa qm qc),(⟨s1,1,I⟩,Od L),(⟨s1,2,I⟩,O t y u)],w.heap.size+1+1+1≠q.1.block:=by
      intro q hq;simp at hq;rcases hq with rfl|rfl|rfl|rfl|rfl|rfl<;>(dsimp only;omega)
     refine ye (i:=2) fun K hK=>?_;go_simp;refine kO hK (Ea.set3d g ab _ _ _) (fun g=>?_);clear hK K;refine ye (i:=3) fun K hK=>?_;go_simp;refine kO hK (Ea.set3d g ac _ _ _) (fun g=>?_);clear hK K;refine Tb ?_;(have e:Nb (Ub s) (yd (Ub s) (qs.take i)) x=(x,Ub s x):=by unfold Nb;rw[Hk.o,if_pos aS]);have E':=Aa (E.o.trans e);have ae:=Aa d;have P:=Aa (RB.copy2 g3 g4 oM hp ag rfl rfl);clear e d g1 g2 g3 g4;go_wp2;go_roundg (n-(i+1))
     case measure=>have:=Hn.o;omega
     case rel =>
      obtain⟨P1,P2,P3,P4,P5,P6⟩:=P.o;have D:=fun W=>(eR W).drew;exact⟨i+1,by rw[Hn.o];omega,by go_num,by rw[Hn.o],(P6 w (Hx.o.trans ae.o) oM oM).drew,
       (P3 _ _ oM oM (HA.o.ext ae.o)).ext (D _),(P3 _ _ oM oM (HB.o.ext ae.o)).ext (D _),by rw[E'.o];exact P1.ext (D _),by rw[E'.o];exact P2.ext (D _)⟩
    ·go_wp2_with(first|(go_at_call 217;refine cM (HG.o _ ?_ (Oe #[O a3 m3 c3,Od s3,O a4 m4 c4]) x ?_ aj.o) ?_;(refine Ba.trans Hx.o ?_;exact eA);(refine af.ext ?_;exact eA);rintro e w1 ⟨r1,rfl,aa,f⟩;obtain⟨b1,n1,k1,t1,b2,n2,k2,rfl⟩:=aa.form;obtain⟨ak,al⟩:=f.cells;(have z1:wr.heap.size<w1.heap.size:=(by have:=f.size;simp only[wZ]at this;omega));(have z2:w.heap.size+1+1+1<w1.heap.size:=oM))|(go_at_call 214;(with_reducible refine(Am _ (Oe #[O b1 n1 k1,Od t1,O b2 n2 k2]) (Oe #[O d1 dm dc,Od ds,O d2 aI aE]) _ _ (aa.ext ?_) (an.ext ?_) ax.o ay.o).mono ?_);exact eA;exact eA;rintro e w3 ⟨rfl,ad⟩;(try rw[Hk.o]);obtain⟨aL,aM⟩:=ad.cells));have d:Ba wr w3:=((((eR _).alloc _).trans f).alloc _).trans ad;(have e:Nb (Ub s) (yd (Ub s) (qs.take i)) x=yd (Ub s) (qs.take i):=by unfold Nb;rw[Hk.o,if_neg oM]);have E':=Aa (E.o.trans e);go_roundg (n-(i+1))
     case measure=>have:=Hn.o;omega
     case rel=>exact⟨i+1,by rw[Hn.o];omega,by go_num,by rw[Hn.o],Hx.o.trans d,HA.o.ext d,HB.o.ext d,by rw[E'.o];exact HC.o.ext d,by rw[E'.o];exact HD.o.ext d⟩
  ·obtain rfl:i=n:=oM;have e:qs.take i=qs:=lT (by rw[Hn.o];exact nE _);rw[e]at hC hD HC HD;clear e;have zW:=hx.size;have zD:w.heap.size+1+1+1<wr.heap.size:=by obtain⟨_,_,_,_,_,_,_,_,_,_,_,_,_,z,_⟩:=hD.rd;exact z
   go_wp2;obtain⟨pa,pm,l,ps,j,r,p,p0,p1,p2,_,_,_,pz,hp⟩:=(hC).rd;obtain⟨qa,qm,qc,L,t,y,u,q0,q1,q2,_,_,_,qz,ag⟩:=(hD).rd;obtain⟨_,_,_,_,_,_,_,x0,x1,x2,ap,aq,ar,xz,_⟩:=(hA).rd;obtain⟨_,_,_,_,_,_,_,y0,y1,y2,au,av,aw,yz,_⟩:=(hB).rd;refine od [(⟨w.heap.size+1+1,0,I⟩,O pa pm l),(⟨w.heap.size+1+1,1,I⟩,Od ps),(⟨w.heap.size+1+1,2,I⟩,O j r p),(⟨w.heap.size+1+1+1,0,I⟩,O qa qm qc),(⟨w.heap.size+1+1+1,1,I⟩,Od L),(⟨w.heap.size+1+1+1,2,I⟩,O t y u)] cA fun g=>?_;refine sN 0 ?_
   iterate 2 refine ub ?_
   refine oN ?_;have ab:∀q∈[((⟨w.heap.size+1+1,0,I⟩:Oh),Value.slice pa pm l),(⟨w.heap.size+1+1,1,I⟩,Od ps),(⟨w.heap.size+1+1,2,I⟩,O j r p),(⟨w.heap.size+1+1+1,0,I⟩,O qa qm qc),(⟨w.heap.size+1+1+1,1,I⟩,Od L),(⟨w.heap.size+1+1+1,2,I⟩,O t y u)],w.heap.size≠q.1.block:=by
    intro q hq;simp at hq;rcases hq with rfl|rfl|rfl|rfl|rfl|rfl<;>(dsimp only;omega)
   have ac:∀q∈[((⟨w.heap.size+1+1,0,I⟩:Oh),Value.slice pa pm l),(⟨w.heap.size+1+1,1,I⟩,Od ps),(⟨w.heap.size+1+1,2,I⟩,O j r p),(⟨w.heap.size+1+1+1,0,I⟩,O qa qm qc),(⟨w.heap.size+1+1+1,1,I⟩,Od L),(⟨w.heap.size+1+1+1,2,I⟩,O t y u)],w.heap.size+1≠q.1.block:=by
    intro q hq;simp at hq;rcases hq with rfl|rfl|rfl|rfl|rfl|rfl<;>(dsimp only;omega)
   refine ye (i:=2) fun K hK=>?_;go_simp;refine kO hK (Ea.set3d g ab _ _ _) (fun g=>?_);clear hK K;refine ye (i:=3) fun K hK=>?_;go_simp;refine kO hK (Ea.set3d g ac _ _ _) (fun g=>?_);clear hK K;refine Tb ?_;have P:=Aa (RB.copy2 hA hB oM hp ag rfl rfl);go_wp2;refine bR (v:=Oi #[Oe #[O pa pm l,Od ps,O j r p],Oe #[O qa qm qc,Od L,O t y u]]) (by simp[results,Tryz.results243,go_sem,x0,x1,x2,ap,aq,ar,y0,y1,y2,au,av,aw]) rfl ?_;rw[<-HR.o];obtain⟨P1,P2,P3,P4,P5,P6⟩:=P.o;exact⟨_,_,rfl,(hp.keep P4).ext (eR _).drew,(ag.keep P4).ext (eR _).drew,(P6 w Hx.o oM oM).drew⟩
end
section
open Go.RowKit Go.Shelf
attribute [local go_sem] Oper.semAt_some
def EN{P:Program}{T t:TypeId}{w:Z}{base:Nat}{v sl:Ob}{xs l:List Int}{ops:Array Oper}{o:Oper}{a:Of}{K:Of->Z->Prop}{Q:Exit->Of->Z->Prop}{E:Prop}(d:(P.info? T).map (fun i=>(i.zero,i.size,i.bytes))=M (M (Oa U 0),1,8))(y:P.underlying t=M (.slice T))(k:o.guard=I)(s x:Operand)(r:o.op = .call { callee:=.builtin .append,args:=#[s,x],argTypes:=#[t,t] })(u:a.eval s=v)(f:Db T w base v xs)
  (L:a.eval x=sl)(j:Jc T w sl l)(e:xs.length+l.length<=1000000000000)(c:base<=w.heap.size)
  (h:∀v' w',Db T w' base v' (xs++l)->Below base w w'->K (a.put o.dst v') w') :
  if Region.wanted o (yielded ops a.tmps)=true then Oper.wp P o a w K Q else E:=by
 have z:Region.wanted o (yielded ops a.tmps)=true:=by simp[Region.wanted,k]
 rw[if_pos z];obtain⟨v',w',g,p,q,R⟩:=Vx (P:=P) o.type d y f j e c;unfold Oper.wp;simp[execOp,r,resolve,invoke,builtin,u,L,g,Result.andThen];exact h v' w' p q
def DK(w:Z)(T:TypeId)(x:Int):Db T (w.alloc (Oc #[Oa U x] T)) w.heap.size (O (M ⟨w.heap.size,0,I⟩) 1 1) [x]:=
 ⟨by simp,.inr ⟨w.heap.size,1,_,by simp,nE _,aN w _,by simp,by unfold maxLen;omega,by simp,by simp[nc]⟩⟩
def Lf.open{w:Z}{base:Nat}{s n:Int}{a:Option Oh}{m c:Nat}(h:Lf w base (Oe #[Oa U s,O a m c]) n):∃ds,ds.length=m/\Db 3 w base (O a m c) ds/\pg C4 ds/\dv C4 ds=(n.natAbs:Int):=by obtain⟨sl,ds,e,d,f,g⟩:=h;cases e;exact⟨ds,d.len.symm,d,f,g⟩
def OB(W:Z)(base b:Nat)(n:Int):Prop:=∃s a m c,W.heap[b]?=M (Oc #[Oa U s,O a m c] 163 (0,0))/\Lf W base (Oe #[Oa U s,O a m c]) n
section
variable {W W':Z} {b base:Nat} {n n':Int}
def OB.nb(h:OB W base b n):NB W b n:=by obtain⟨s,a,m,c,d,e⟩:=h;exact⟨s,a,m,c,d,e.isN⟩
def OB.ext(h:OB W base b n)(k:Ba W W'):OB W' base b n:=by obtain⟨s,a,m,c,d,e⟩:=h;exact⟨s,a,m,c,k.e d,e.ext k⟩
def OB.put{s:Int}{a:Option Oh}{m c:Nat}(h:NB W b n)(f:Lf W base (Oe #[Oa U s,O a m c]) n'):OB ((W.setCell ⟨b,0,I⟩ (Oa U s)).setCell ⟨b,1,I⟩ (O a m c)) base b n':=by have d:=h.not;obtain⟨l,g,k,i,e,j⟩:=h;exact⟨s,a,m,c,vk e _ _,f.keep (((Ka.refl _ W).y d _).y (d.set _ _) _)⟩
def OB.setRow{g i:Nat}(h:OB W base b n)(r:g≠b)(t:g<base)(u:Ob):OB (W.setCell ⟨g,i,I⟩ u) base b n:=by obtain⟨s,a,m,c,o,q⟩:=h;refine⟨s,a,m,c,(bS _ _ _ _ (fun e=>r e.symm)).trans o,?_⟩;obtain⟨sl,f,j,d,k,l⟩:=q;cases j;exact⟨_,f,rfl,d.setOther (p:=⟨g,i,I⟩) (fun e=>by have:=(World.ownsRow.lt d g e).1;omega) _,k,l⟩
def OB.drew(h:OB W base b n):OB W.drew base b n:=h
end
structure sU (W0:Z) (m:Nat) (xs:List Int) (D:Int) (g7 g8:Nat) (z8:Array Ob) (j:Int) (qs:List Int) (R:Int) (W:Z):Prop where
 j0:-1<=j
 j1:j<m
 ql:qs.length=m
 row:Db 3 W W0.heap.size (O (M ⟨W0.heap.size,0,I⟩) m m) qs
 qd:Ud C4 qs
 rest:OB W (W0.heap.size+1) g7 R
 size:W.heap[g8]?=M (Oc z8 163 (0,0))
 val:dv C4 (xs.drop (j+1).toNat)=dv C4 (qs.drop (j+1).toNat)*D+R
 r0:0<=R
 r1:R<D
 ext:Ba W0 W
def tU(W0:Z)(m:Nat)(xs:List Int)(D:Int)(a c:Nat)(d:Array Ob)(t9:Ob)(W:Z):Prop:=
 ∃j qs R,t9=Oa U j/\sU W0 m xs D a c d j qs R W
def uU(d:Z)(D R:Int)(a c:Ob)(W:Z):Prop:=
 ∃lo hi:Int,a=Oa U lo/\c=Oa U hi/\0<=lo/\lo<hi/\hi<=10000/\D*lo<=R/\R<D*hi/\Ba d W
def OG(W0:Z)(c d:Nat)(e:Array Ob)(N R:Int)(a:Ob)(W:Z):Prop:=
 ∃g13,a=Og (M ⟨g13,0,I⟩)/\c<g13/\d<g13/\NB W g13 N/\NB W c R/\W.heap[d]?=M (Oc e 163 (0,0))/\Ba W0 W
def KA{k:Nat}{D x:Int}(h:Lm k D)(c:0<=D)(d:0<=x)(a:x<=D*10000):Lm (k+1) x:=by
 have e:B ^ (k+1)=B ^ k*16777216:=by rw[Int.pow_succ];rfl
 have p:=Tj zj k;unfold Lm at *;rw[e];omega
def sH{Q D R n:Int}(h:n=Q*D+R)(c:0<D)(d:0<=R)(a:0<=Q):Q<=n:=by have:Q*1<=Q*D:=Int.mul_le_mul_of_nonneg_left oM a;omega
abbrev xd:Nat:=300000
def uv(w:Z)(va vb:Ob)(na nd:Int)(ha:Ad w va na)(hb:Ad w vb nd)(bm:Lm xd na)(bU:Lm xd nd)(hd:nd≠0):Calls Tryz.prog 249 #[va,vb] w fun e w'=>∃r1 r2,e=.returned (Oi #[r1,r2])/\Ad w' r1 (na/nd)/\Ad w' r2 (na%nd)/\Ba w w':=by
 obtain⟨s,a,m,c,rfl,hs⟩:=ha.j;obtain⟨s',a',m',c',rfl,bp⟩:=hb.j;obtain⟨xs,hl,hi,hc,hv⟩:=ha.open;have hm:=Ar bm hc hv;rw[hl]at hm;unfold xd at hm;obtain⟨p,hp⟩:=gX (s'*s');have aI:=hb.abs;rw[hp]at aI;obtain⟨D,hD⟩:=gX ((nd.natAbs:Int));rw[hD]at aI;have bF:0<D:=oM;have cT:0<=p/\p<=1:=by rcases vi nd with ⟨e,_⟩|⟨e,_⟩|⟨e,_⟩<;>(rw[<-hp,bp,e];decide)
 obtain⟨dG,dH⟩:=cT;have HD:=Aa hD;have Hp:=Aa hp;have Hs:=Aa hs;have bB:=Aa bp;have Hl:=Aa hl;have Hv:=Aa hv;have cp:=Aa bm;have aK:Va (Lm xd D):=Aa (by rw[<-hD];exact bU.abs);have Hd:=Aa hd;clear hs bp hl hv hp hD bm bU hd;obtain⟨W0,L⟩:=gX ((((w.alloc (Oc #[Oa U s,O a m c] 163)).alloc (Oc #[Oa U s',O a' m' c'] 163)).alloc (Oc #[Oa U 0,O I 0 0] 163)).alloc (Oc #[Oa U 0,O I 0 0] 163));have z0:w.heap.size+1+1+1+1=W0.heap.size:=by rw[<-L];simp
 have z1:w.heap.size<W0.heap.size:=oM;have z2:w.heap.size+1<W0.heap.size:=oM;have z3:w.heap.size+1+1<W0.heap.size:=oM;have z4:w.heap.size+1+1+1<W0.heap.size:=oM;have p0:W0.cell? ⟨w.heap.size,0,I⟩=M (Oa U s):=by rw[<-L];clear L;go_simp
 have p1:W0.cell? ⟨w.heap.size,1,I⟩=M (O a m c):=by rw[<-L];clear L;go_simp
 have q0:W0.cell? ⟨w.heap.size+1,0,I⟩=M (Oa U s'):=by rw[<-L];clear L;go_simp
 have q1:W0.cell? ⟨w.heap.size+1,1,I⟩=M (O a' m' c'):=by rw[<-L];clear L;go_simp
 have cB:Va (W0.heap[w.heap.size+1+1]?=M (Oc #[Oa U 0,O I 0 0] 163 (0,0))):=by rw[<-L];exact Aa (by rw[Below.heap_alloc _ _ _ sM];exact kc _ _ _ sM)
 have cC:Va (W0.heap[w.heap.size+1+1+1]?=M (Oc #[Oa U 0,O I 0 0] 163 (0,0))):=by rw[<-L];exact Aa (kc _ _ _ sM)
 have aG:Va (Ba w W0):=by rw[<-L];exact Aa eA
 go_in;go_upto_region 3 with (first|(at_make;refine sw (n:=m) nl Tryz.underlying47 rfl _ _ rfl _ rfl rfl rfl oM ?_;(try rw[L]);intro w1 aE ad b9;(try simp only[z0]at aE);(have e0:=ad.d p0);(have e1:=ad.d p1);(have e2:=ad.d q0);(have e3:=ad.d q1))|(go_at_call 275;(with_reducible refine(nB _ s' a' m' c' nd ?_).mono ?_);(refine hb.ext ?_;exact aG.o.trans ad);rw[Hp.o];rintro e w2 ⟨rfl,aB⟩));clear L;have an:Ba W0 w2:=ad.trans aB;have zg:W0.heap.size<w2.heap.size:=Nat.lt_of_lt_of_le b9 aB.size;have y1:w.heap.size<w2.heap.size:=oM;have y2:w.heap.size+1<w2.heap.size:=oM;replace e0:=aB.d e0;replace e1:=aB.d e1;replace e2:=aB.d e2;replace e3:=aB.d e3;go_wp2;go_loopw [9] (tU W0 m xs D w2.heap.size (w2.heap.size+1) #[Oa U p,O a' m' c']) (fun t9 _=>(intOf t9+1).toNat)
 case atStart =>
  have k1:((w2.alloc (Oc #[Oa U 0,O I 0 0] 163)).alloc (Oc #[Oa U p,O a' m' c'] 163)).heap[w2.heap.size]?=M (Oc #[Oa U 0,O I 0 0] 163 (0,0)):=Ei ..;refine⟨(m:Int)-1,List.replicate m 0,0,rfl,by omega,by omega,by simp,?_,?_,⟨0,I,0,0,k1,Lf.nil _ _⟩,kc _ _ _ sM,?_,by omega,bF,(an.alloc _).alloc _⟩
  ·exact((aE.keep aB.keep).alloc _).alloc _
  ·intro d hd;rw[(List.mem_replicate.1 hd).2];unfold C4;omega
  ·rw[List.drop_of_length_le (by rw[Hl.o];omega),List.drop_of_length_le sM];simp
 case round =>
  obtain⟨g,bT⟩:=gX w2.heap.size;rw[bT]at hrel ⊢;have dR:W0.heap.size<g:=oM;clear aE e0 e1 e2 e3 ad aB an b9 y1 y2 zg bT;obtain⟨j,qs,R,rfl,Sq⟩:=hrel;have j0:=Sq.j0;have j1:=Sq.j1;have ai:=Sq.ext;have e0:=ai.d p0;have e1:=ai.d p1;have d0:=Da Sq.size (i:=0) (u:=Oa U p) rfl;have d1:=Da Sq.size (i:=1) (u:=O a' m' c') rfl;have zd:=Ya Sq.size;have r:=Aa Sq;by_cases hj:0<=j
  ·obtain⟨k,rfl⟩:=Int.eq_ofNat_of_zero_le hj;obtain⟨sr,ar,mr,cr,ac,aD⟩:=Sq.rest;have t0:=Da ac (i:=0) (u:=Oa U sr) rfl;have t1:=Da ac (i:=1) (u:=O ar mr cr) rfl;have zt:=Ya ac;have cg:=Za ac 0;have Bh:=Za ac 1;obtain⟨rs,rl,ro,rc,rv⟩:=aD.open;have Rl:=Aa rl;have aZ:=Sq.r0;have bj:=Sq.r1;have bL:(R.natAbs:Int)=R:=oM;rw[bL]at rv;have Rv:=Aa rv;have dI:rs.length<=2*300000:=Ar (k:=xd) (n:=R) (by have:=aK.o;unfold Lm at *;omega) rc (by rw[bL];exact rv);obtain⟨b,o,rfl,dF,ad⟩:=(hi.ext (aG.o.trans ai)).open (by rw[Hl.o];omega);obtain⟨x,a7⟩:∃x,xs[k]?=M x:=⟨_,gE (by rw[Hl.o];omega)⟩;obtain⟨q,bY⟩:∃q,qs[k]?=M q:=⟨_,gE (by rw[Sq.ql];omega)⟩;have cL:=ad k x a7;have z:=hc.1 x (lM a7);unfold C4 at z;have cD:=Aa a7;have ds:=Aa bY;have du:=Aa ad;have k0:(0:Int)<=(k:Int):=oM;have k1:(k:Int)<(m:Int):=oM;have b0:Jc 3 wr (O ar mr cr) rs:=ro.ints;have HN:Va (0<=x+10000*R):=Aa oM;clear rl rv Sq ad a7 bY;go_wp2;refine Ai (fun i=>decide (9<i)) (Ea [(⟨w.heap.size,1,I⟩,O (M ⟨b,o,I⟩) m c),(⟨b,o+k,I⟩,Oa U x),(⟨g,1,I⟩,O ar mr cr),(⟨g,0,I⟩,Oa U sr)]) kM ?_ (fun f=>?_)
   ·exact cA
   refine sN 0 ?_
   iterate 5 refine qi ?_
   refine oN ?_;refine sN 6 ?_
   iterate 2 refine qi ?_
   refine oN ?_;have bG:=f;refine kd (i:=5) fun K t=>?_;go_simp;refine kO t (fun _=>cE f ((eR wr.drew).alloc _)) (fun f=>?_);clear t K;have f:=f rfl;refine kd (i:=8) fun K t=>?_;refine EN nl Tryz.underlying47 rfl _ _ rfl rfl (DK wr.drew 3 x) rfl (b0.ext ((eR wr).drew.alloc _)) (by simp;omega) sM ?_;intro v5 w5 am aC;have X5:Ba wr w5:=((eR wr).drew.alloc (Oc #[Oa U x] 3)).D aC (nE _);refine kO t (fun _=>cE bG (((eR wr.drew).alloc (Oc #[Oa U x] 3)).D aC (nE _))) (fun f=>?_);clear t K;replace f:=f rfl;obtain⟨a5,c5,rfl⟩:=am.form;simp only[List.singleton_append,List.length_cons]at am ⊢;have bP:dv C4 (x::rs)=x+10000*R:=by
    rw[om,Rv.o];rfl
   have bz:=Aa bP;clear bP;refine kd (i:=9) fun K t=>?_;go_simp;(with_reducible refine cM (Gx _ 1 _ (x::rs) (x+10000*R) am.ints (by simp;omega) (fun y hy=>?_) (by rw[bz.o];exact HN.o) (by rw[bz.o];omega) (fun _=>.inl rfl)) ?_)
   ·rcases List.mem_cons.1 hy with rfl|hy
    ·omega
    ·have:=rc.1 y hy;unfold C4 at this;omega
   rintro e w6 ⟨r6,rfl,aS,bq⟩;obtain⟨s6,a6,m6,c6,rfl,ca⟩:=aS.j;have dt:=Aa ca;clear ca;go_wp2;refine kO t (fun _=>cE f bq) (fun f=>?_);clear t K;replace f:=f rfl;have X6:Ba wr w6:=X5.trans bq;have dp:g<w6.heap.size:=X6.lt zt;obtain⟨cI,cO⟩:=X6.cells;refine kd (i:=10) fun K t=>?_;go_simp;refine kO t (fun h=>nomatch h) (fun f=>?_);clear t K;refine Jb kM ?_ _;obtain⟨Rn,bk⟩:=gX (x+10000*R);rw[bk]at aS;have cy:=Aa bk;have bM:0<=Rn:=oM;have bN:Rn<D*10000:=oM;have aW:NB w6 g R:=(NB.ext ⟨sr,ar,mr,cr,ac,aD.isN⟩ X6);obtain⟨wi,aA⟩:=gX ((w6.setCell ⟨g,0,I⟩ (Oa U s6)).setCell ⟨g,1,I⟩ (O a6 m6 c6));have i1:OB wi (W0.heap.size+1) g Rn:=by
    rw[<-aA];exact OB.put aW (aS.mono (by have:=ai.size;have:=X5.size;omega))
   have i2:wi.heap[g+1]?=M (Oc #[Oa U p,O a' m' c'] 163 (0,0)):=by
    rw[<-aA,bS _ _ _ _ sM,bS _ _ _ _ sM];exact X6.e r.o.size
   have i3:Db 3 wi W0.heap.size (O (M ⟨W0.heap.size,0,I⟩) m m) qs:=by
    rw[<-aA];exact((r.o.row.keep X6.keep).setOther (p:=⟨g,0,I⟩) (by simp[Value.ownBlock];omega) _).setOther (p:=⟨g,1,I⟩) (by simp[Value.ownBlock];omega) _
   have i4:Ba W0 wi:=by
    rw[<-aA];exact((ai.trans X6).set (p:=⟨g,0,I⟩) dO _).set (p:=⟨g,1,I⟩) dO _
   have i5:Ad wi (Oe #[Oa U s6,O a6 m6 c6]) Rn:=by rw[<-aA];exact aS.isN.keep (((Ka.refl _ w6).y aW.not _).y (aW.not.set _ _) _)
   have i6:wi.heap[g]?=M (Oc #[Oa U s6,O a6 m6 c6] 163 (0,0)):=by
    obtain⟨u1,u2,u3,u4,u5,u6⟩:=aW;rw[<-aA];exact vk u5 _ _
   have bx:=Aa r.o.val;have bw:=Aa r.o.qd;have aM:=Aa r.o.ql;rw[aA];clear aA aS bq cI cO f bG X5 X6 aW am aC aD ac b0 ro rc cL r e0 e1 d0 d1 t0 t1 zd zt dp bk;have m0:=Da i6 (i:=0) (u:=Oa U s6) rfl;have m1:=Da i6 (i:=1) (u:=O a6 m6 c6) rfl;have m2:=Da i2 (i:=0) (u:=Oa U p) rfl;have m3:=Da i2 (i:=1) (u:=O a' m' c') rfl;have zi:=Ya i2;have dj:g<wi.heap.size:=oM;obtain⟨wo,rfl⟩:∃wo:Z,wo=wr:=⟨_,rfl⟩;go_wp2;go_loopw [10,11] (uU wi D Rn) (fun db dc _=>(intOf dc-intOf db).toNat)
   case atStart=>exact⟨0,10000,rfl,rfl,by omega,by omega,by omega,by omega,bN,eR _⟩
   case round =>
    obtain⟨lo,aH,rfl,rfl,l0,l1,l2,l3,l4,Xi⟩:=hrel;have M0:=Xi.d m0;have M1:=Xi.d m1;have M2:=Xi.d m2;have M3:=Xi.d m3;have ZW:g+1<wr.heap.size:=Xi.lt zi;have bh:g<wr.heap.size:=oM;have bg:Ba w wr:=aG.o.trans (i4.trans Xi);have aL:Va (Lm Cc D):=Aa (aK.o.mono dM);by_cases vw:1<aH-lo
    ·obtain⟨md,cQ⟩:=gX (Int.tdiv (lo+aH) 2);(have bV:md=(lo+aH)/2:=by rw[<-cQ,Int.tdiv_eq_ediv_of_nonneg oM]);have cZ:lo<md:=oM;have c0:md<aH:=oM;have br:0<=md:=oM;have cf:md<=10000:=oM;obtain⟨P,hP⟩:=gX (D*md);(have bI:0<=P:=by rw[<-hP];exact Int.mul_nonneg oM br);obtain⟨T,hT⟩:=gX (((P.natAbs:Int)-(Rn.natAbs:Int)).sign);have a0:T<=0 ↔ P<=Rn:=by
      rw[<-hT];rcases vi ((P.natAbs:Int)-(Rn.natAbs:Int))with ⟨e,_⟩|⟨e,_⟩|⟨e,_⟩<;>omega
     have HT:=Aa hT;have HP:=Aa hP;have a4:=i5.ext Xi;clear bV hT hP;by_cases bn:P<=Rn
     ·have cG:T<=0:=a0.2 bn;clear a0;go_wp2;go_region_held3 (fun W=>W.cell? ⟨g,0,I⟩=M (Oa U s6)/\W.cell? ⟨g,1,I⟩=M (O a6 m6 c6)/\W.cell? ⟨g+1,0,I⟩=M (Oa U p)/\W.cell? ⟨g+1,1,I⟩=M (O a' m' c')) ((repeat' (with_reducible refine And.intro ?_ ?_))<;>(first|(go_simp;done)|(refine ad.d ?_;go_simp;done))) (first|(go_at_call 277;(with_reducible refine(Sy _ (Oe #[Oa U p,O a' m' c']) D md ?_ aL.o br cf).mono ?_);(refine aI.ext ?_;exact bg.drew);rw[HP.o];rintro e w8 ⟨r8,rfl,ae,l⟩;obtain⟨s8,a8,m8,c8,rfl,-⟩:=ae.j;obtain⟨cJ,cP⟩:=Zo l;(have z8:g<w8.heap.size:=l.lt bh);(have dg:g+1<w8.heap.size:=l.lt ZW))|(go_at_call 250;(with_reducible refine(Cz _ (Oe #[Oa U s8,O a8 m8 c8]) (Oe #[Oa U s6,O a6 m6 c6]) P Rn ae ?_).mono ?_);(refine a4.ext ?_;exact(eR wr).drew.trans l);rw[HT.o];rintro e w9 ⟨rfl,af⟩;obtain⟨al,a1⟩:=Zo af))
      all_goals go_wp2
      go_roundw
      case rel=>exact⟨md,aH,rfl,rfl,by omega,c0,l2,by rw[HP.o];exact bn,l4,Xi.trans ((eR wr).drew.trans (l.trans af))⟩
      case measure=>simp[intOf];omega
     ·have cG:¬T<=0:=fun h=>bn (a0.1 h);clear a0;go_wp2;go_region_held3 (fun W=>W.cell? ⟨g,0,I⟩=M (Oa U s6)/\W.cell? ⟨g,1,I⟩=M (O a6 m6 c6)/\W.cell? ⟨g+1,0,I⟩=M (Oa U p)/\W.cell? ⟨g+1,1,I⟩=M (O a' m' c')) ((repeat' (with_reducible refine And.intro ?_ ?_))<;>(first|(go_simp;done)|(refine ad.d ?_;go_simp;done))) (first|(go_at_call 277;(with_reducible refine(Sy _ (Oe #[Oa U p,O a' m' c']) D md ?_ aL.o br cf).mono ?_);(refine aI.ext ?_;exact bg.drew);rw[HP.o];rintro e w8 ⟨r8,rfl,ae,l⟩;obtain⟨s8,a8,m8,c8,rfl,-⟩:=ae.j;obtain⟨cJ,cP⟩:=Zo l;(have z8:g<w8.heap.size:=l.lt bh);(have dg:g+1<w8.heap.size:=l.lt ZW))|(go_at_call 250;(with_reducible refine(Cz _ (Oe #[Oa U s8,O a8 m8 c8]) (Oe #[Oa U s6,O a6 m6 c6]) P Rn ae ?_).mono ?_);(refine a4.ext ?_;exact(eR wr).drew.trans l);rw[HT.o];rintro e w9 ⟨rfl,af⟩;obtain⟨al,a1⟩:=Zo af))
      all_goals go_wp2
      go_roundw
      case rel=>exact⟨lo,md,rfl,rfl,l0,cZ,by omega,l3,by rw[HP.o];omega,Xi.trans ((eR wr).drew.trans (l.trans af))⟩
      case measure=>simp[intOf];omega
    ·obtain rfl:aH=lo+1:=oM;obtain⟨P,hP⟩:=gX (D*lo);(have bI:0<=P:=by rw[<-hP];exact Int.mul_nonneg oM l0);have dD:P<=Rn:=oM;(have dE:Rn<P+D:=by rw[Int.mul_add,hP]at l4;omega);have HP:=Aa hP;have co:Va (Lm Cc Rn):=Aa ((KA aK.o oM bM oM).mono dM);have cn:Va (Lm Cc P):=Aa ((KA aK.o oM bI oM).mono dM);have cY:lo<=10000:=oM;have j3:Db 3 wr W0.heap.size (O (M ⟨W0.heap.size,0,I⟩) m m) qs:=i3.keep Xi.keep;have j4:OB wr (W0.heap.size+1) g Rn:=i1.ext Xi;have j2:=Xi.e i2;have jx:=i4.trans Xi;have cV:wr.frozen? ⟨W0.heap.size,k,I⟩=false:=j3.frozen k;obtain⟨q,hq⟩:∃q,qs[k]?=M q:=⟨_,gE (by rw[aM.o];omega)⟩;have cW:=j3.cell hq;have a4:=i5.ext Xi;have cg:=Za (Xi.e i6) 0;have Bh:=Za (Xi.e i6) 1;have bW:¬g=W0.heap.size:=oM;have bX:¬g+1=W0.heap.size:=oM;have dr:W0.heap.size<wr.heap.size:=oM;clear hP hq;go_wp2;obtain⟨wq,aF⟩:=gX (wr.setCell ⟨W0.heap.size,k,I⟩ (Oa U lo));(have b1:OB wq (W0.heap.size+1) g Rn:=by rw[<-aF];exact j4.setRow oM oM _);(have b6:wq.heap[g]?=M (Oc #[Oa U s6,O a6 m6 c6] 163 (0,0)):=by rw[<-aF,bS _ _ _ _ (by simpa using bW)];exact Xi.e i6);(have b2:wq.heap[g+1]?=M (Oc #[Oa U p,O a' m' c'] 163 (0,0)):=by rw[<-aF,bS _ _ _ _ (by simpa using bX)];exact j2);(have b3:Db 3 wq W0.heap.size (O (M ⟨W0.heap.size,0,I⟩) m m) (qs.set k lo):=by rw[<-aF];exact j3.stored k lo);(have b4:Ba W0 wq:=by rw[<-aF];exact jx.set (p:=⟨W0.heap.size,k,I⟩) (nE _) _);have b5:Ad wq (Oe #[Oa U s6,O a6 m6 c6]) Rn:=by
      obtain⟨u1,u2,u3,u4,u5,u6⟩:=b1;rw[b6]at u5;cases u5;exact u6.isN
     have b7:Ad wq (Oe #[Oa U p,O a' m' c']) D:=aI.ext (aG.o.trans b4);have o0:=Da b6 (i:=0) (u:=Oa U s6) rfl;have o1:=Da b6 (i:=1) (u:=O a6 m6 c6) rfl;have o2:=Da b2 (i:=0) (u:=Oa U p) rfl;have o3:=Da b2 (i:=1) (u:=O a' m' c') rfl;have dL:=Za b6 0;have dN:=Za b6 1;have zq:=Ya b2;have dm:g<wq.heap.size:=oM;rw[aF];clear aF M0 M1 M2 M3 ZW bh bg cV cW cg Bh j4 j2 j3 jx m0 m1 m2 m3 i1 i2 i3 i4 i5 i6 a4 zi dj Xi;refine Ai (fun i=>decide (4<i)) (Ea [(⟨g,0,I⟩,Oa U s6),(⟨g,1,I⟩,O a6 m6 c6),(⟨g+1,0,I⟩,Oa U p),(⟨g+1,1,I⟩,O a' m' c')]) kM ?_ (fun f=>?_)
     ·exact cA
     refine sN 0 ?_
     (iterate 3 refine qi ?_);refine oN ?_;refine kd (i:=3) fun K t=>?_;go_simp;(with_reducible refine cM (Sy _ (Oe #[Oa U p,O a' m' c']) D lo (b7.ext (eR wq).drew) aL.o l0 cY) ?_);rintro e w8 ⟨r8,rfl,ae,l⟩;rw[HP.o]at ae;obtain⟨s8,a8,m8,c8,rfl,-⟩:=ae.j;go_wp2;refine kO t (fun _=>cE f l) (fun f=>?_);clear t K;replace f:=f rfl;refine kd (i:=4) fun K t=>?_;go_simp;(with_reducible refine cM (YA _ (Oe #[Oa U s6,O a6 m6 c6]) (Oe #[Oa U s8,O a8 m8 c8]) Rn P (b5.ext ((eR wq).drew.trans l)) ae co.o cn.o) ?_);rintro e w9 ⟨r9,rfl,aT,af⟩;obtain⟨s9,a9,m9,c9,rfl,-⟩:=aT.j;go_wp2;refine kO t (fun _=>cE f af) (fun f=>?_);clear t K;replace f:=f rfl;have X9:Ba wq w9:=(eR wq).drew.trans (l.trans af);have dn:g<w9.heap.size:=X9.lt dm;have n9:NB w9 g Rn:=b1.nb.ext X9;obtain⟨al,a1⟩:=X9.cells;refine kd (i:=5) fun K t=>?_;go_simp;refine kO t (fun h=>nomatch h) (fun f=>?_);clear t K;refine Jb kM ?_ _;go_wp2;go_roundw
     case rel =>
      refine⟨(k:Int)-1,qs.set k lo,Rn-P,rfl,by omega,by omega,by simp[aM.o],?_,bw.o.set oM (by unfold C4;omega) _,OB.put n9 (aT.mono ?_),?_,?_,by omega,by omega,?_⟩
      ·exact((b3.keep X9.keep).setOther (p:=⟨g,0,I⟩) (by simp[Value.ownBlock];omega) _).setOther (p:=⟨g,1,I⟩) (by simp[Value.ownBlock];omega) _
      ·have:=b4.size;have:=l.size;simp only[Yb]at this;omega
      ·rw[bS _ _ _ _ sM,bS _ _ _ _ sM];exact X9.e b2
      ·have e1:(qs.set k lo)[k]?=M lo:=List.getElem?_set_self (by rw[aM.o];omega);have e2:(qs.set k lo).drop (k+1)=qs.drop (k+1):=List.drop_set_of_lt oM;have h9:=bx.o;rw[show ((k:Int)+1).toNat=k+1 by omega,<-e2]at h9;rw[show ((k:Int)-1+1).toNat=k by omega,KM cD.o e1 h9,<-HP.o,<-cy.o,Int.mul_comm lo D];rfl
      ·exact((b4.trans X9).set (p:=⟨g,0,I⟩) dO _).set (p:=⟨g,1,I⟩) dO _
     case measure=>simp[intOf]
  ·obtain rfl:j = -1:=oM;clear e0 e1 d0 d1 zd ai j0 j1 hj;obtain⟨Q,hQ⟩:=gX (dv C4 qs);have ay:=r.o.val;simp only[show ((-1:Int)+1).toNat=0 from rfl,List.drop_zero]at ay;rw[Hv.o,hQ]at ay;have aZ:=r.o.r0;have bj:=r.o.r1;have bJ:0<=Q:=by rw[<-hQ];exact(Wi Gk r.o.qd).1
   have aP:Q<=(na.natAbs:Int):=sH ay bF aZ bJ;have bK:Q≠0->s=1\/s = -1:=fun h9=>by
    rw[Hs.o];exact Ju (fun h8=>h9 (by rw[h8]at aP;simp at aP;omega))
   obtain⟨N1,bi⟩:=gX (s*Q);have be:N1=na.sign*Q:=by rw[<-bi,Hs.o]
   have cc:s = -1\/s=0\/s=1:=by rcases vi na with ⟨e,_⟩|⟨e,_⟩|⟨e,_⟩<;>rw[Hs.o,e]<;>decide
   have bH:(N1.natAbs:Int)<=na.natAbs:=by rcases cc with h|h|h<;>subst h<;>omega
   have cm:Va (Lm Cc N1):=Aa (Lm.mono (j:=xd) (by have:=cp.o;unfold Lm at *;omega) dM);have bv:Va (Lm Cc D):=Aa (aK.o.mono dM);have cq:Va (Lm Cc R):=Aa (by have:=bv.o;unfold Lm at *;omega);have bu:Va (Lm Cc 1):=Aa (Qq dM);have bl:(na.natAbs:Int)=Q*(nd.natAbs:Int)+R:=by rw[HD.o];exact ay
   have aw:=kC (N:=N1) Hd.o bl aZ (by rw[HD.o];exact bj);have aQ:=kC (N:=N1-1) Hd.o bl aZ (by rw[HD.o];exact bj);have ck:=Aa aw.1;have cl:=Aa aQ.2;have cx:=Aa bK;have ct:=Aa bi;have bc:=Aa be;have HQ:=Aa hQ;clear ay hQ bK bi be aP bl aw aQ bH cc;have ai:=r.o.ext;have e0:=ai.d p0;have e1:=ai.d p1;have d0:=Da r.o.size (i:=0) (u:=Oa U p) rfl;have d1:=Da r.o.size (i:=1) (u:=O a' m' c') rfl;obtain⟨sr,ar,mr,cr,ac,aD⟩:=r.o.rest;have t0:=Da ac (i:=0) (u:=Oa U sr) rfl;have t1:=Da ac (i:=1) (u:=O ar mr cr) rfl;have zd:=Ya r.o.size;have di:g<wr.heap.size:=oM;have dh:w.heap.size<wr.heap.size:=oM;have cd:sr=R.sign:=aD.isN.sgn;have bC:=Aa cd;have cz:Va (∀x∈qs,-100000000000000<=x/\x<=100000000000000):=Aa (fun x hx=>by have:=r.o.qd x hx;unfold C4 at this;omega);clear cd;go_upto_region 16 with (go_at_call 213;(with_reducible refine(ot _ s _ qs N1 r.o.row.ints (by rw[r.o.ql];omega) cz.o (by rw[HQ.o];exact bJ) (by rw[HQ.o];exact ct.o.symm) (by rw[HQ.o];exact cx.o)).mono ?_);rintro e w3 ⟨r3,rfl,bo,an⟩;obtain⟨s3,a3,m3,c3,rfl,-⟩:=bo.j;obtain⟨cH,cN⟩:=an.cells;(have u7:g+1<w3.heap.size:=an.lt zd);(have de:g<w3.heap.size:=an.lt di);(have u0:w.heap.size<w3.heap.size:=an.lt dh));obtain⟨ag,az⟩:=gX (w3.alloc (Oc #[Oa U s3,O a3 m3 c3] 163));have ah:Ba wr ag:=by rw[<-az];exact an.alloc _
   have ao:ag.heap[w3.heap.size]?=M (Oc #[Oa U s3,O a3 m3 c3] 163 (0,0)):=by rw[<-az];exact aN _ _
   have aR:Ad ag (Oe #[Oa U s3,O a3 m3 c3]) N1:=by rw[<-az];exact bo.ext ((eR _).alloc _)
   have ak:NB ag w3.heap.size N1:=⟨_,_,_,_,ao,aR⟩;have aX:NB ag g R:=NB.ext ⟨sr,ar,mr,cr,ac,aD.isN⟩ ah;have bZ:=ah.e ac;have ba:=ah.e r.o.size;rw[az];obtain⟨aa,bf⟩:=gX w3.heap.size;rw[bf]at u7 de u0 ao ak ⊢;clear az cH cN an bo bf aD ac;replace e0:=ah.d e0;replace e1:=ah.d e1;replace d0:=ah.d d0;replace d1:=ah.d d1;replace t0:=ah.d t0;replace t1:=ah.d t1;have X0:Ba W0 ag:=ai.trans ah;have cj:aa<ag.heap.size:=Ya ao;obtain⟨bb,bO⟩:=gX (decide (na<0/\R≠0));have aO:=Aa bO;have y0:w.heap.size<ag.heap.size:=oM;have y7:g<ag.heap.size:=oM;have y8:g+1<ag.heap.size:=oM;clear bO;go_cut [75] (fun dd W=>dd=Od bb/\W=ag)
   case first =>
    by_cases b8:s<0
    ·have hn:na<0:=by
      have:=Hs.o;rcases vi na with ⟨e,h⟩|⟨e,h⟩|⟨e,h⟩<;>omega
     by_cases ax:sr=0
     ·have hR:R=0:=by
       have:=bC.o;rcases vi R with ⟨e,h⟩|⟨e,h⟩|⟨e,h⟩<;>omega
      (have e:bb=false:=by rw[<-aO.o];simp[hR]);(have ce:(sr != 0)=false:=by simp[ax]);clear ax;go_wp2;go_meet;exact⟨by rw[e],rfl⟩
     ·have hR:R≠0:=by
       intro h;have:=bC.o;rw[h]at this;exact ax (by rw[this];rfl)
      (have e:bb=true:=by rw[<-aO.o];simp[hR,hn]);(have ce:(sr != 0)=true:=by simpa using ax);clear ax;go_wp2;go_meet;exact⟨by rw[e],rfl⟩
    ·have hn:¬na<0:=by
      have:=Hs.o;rcases vi na with ⟨e,h⟩|⟨e,h⟩|⟨e,h⟩<;>omega
     (have e:bb=false:=by rw[<-aO.o];simp[hn]);go_wp2;go_meet;exact⟨by rw[e],rfl⟩
   case rest =>
    obtain⟨rfl,rfl⟩:=hcut;go_upto_if 75 with fail;go_cut [13] (OG W0 g (g+1) #[Oa U p,O a' m' c'] (if bb then N1-1 else N1) (if bb then D-R else R))
    case first =>
     cases bb with
     |false=>
      go_wp2;go_meet;exact⟨aa,rfl,by omega,by omega,ak,aX,ba,X0⟩
     |true=>
      have f3:=Da ao (i:=0) (u:=Oa U s3) rfl;have f4:=Da ao (i:=1) (u:=O a3 m3 c3) rfl;have f5:=Za ao 0;have f6:=Za ao 1;go_wp2;refine Ai (fun i=>decide (2<i)) (Ea [(⟨aa,0,I⟩,Oa U s3),(⟨aa,1,I⟩,O a3 m3 c3)]) kM ?_ (fun f=>?_)
      ·exact cA
      refine oo (i:=0) ?_;refine kd (i:=1) fun K t=>?_;go_simp;(with_reducible refine cM (Fo _ 1 dM dM) ?_);rintro e w8 ⟨r8,rfl,ae,l⟩;obtain⟨s8,a8,m8,c8,rfl,-⟩:=ae.j;go_wp2;refine kO t (fun _=>cE f l) (fun f=>?_);clear t K;replace f:=f rfl;refine kd (i:=2) fun K t=>?_;go_simp;(with_reducible refine cM (ly _ (Oe #[Oa U s3,O a3 m3 c3]) (Oe #[Oa U s8,O a8 m8 c8]) N1 1 (aR.ext ((eR wc).drew.trans l)) ae cm.o bu.o) ?_);rintro e w9 ⟨r9,rfl,aT,af⟩;obtain⟨s9,a9,m9,c9,rfl,-⟩:=aT.j;go_wp2;refine kO t (fun _=>cE f af) (fun f=>?_);clear t K;replace f:=f rfl;have X9:Ba wc w9:=(eR wc).drew.trans (l.trans af);have dn:aa<w9.heap.size:=X9.lt cj;obtain⟨al,a1⟩:=X9.cells;refine kd (i:=3) fun K t=>?_;go_simp;refine kO t (fun h=>nomatch h) (fun f=>?_);clear t K;refine Jb kM ?_ _;obtain⟨wa,aJ⟩:=gX ((w9.setCell ⟨aa,0,I⟩ (Oa U s9)).setCell ⟨aa,1,I⟩ (O a9 m9 c9));have n9:=ak.ext X9;(have cF:NB wa aa (N1-1):=by rw[<-aJ];exact n9.put aT);have c7:NB wa g R:=by
       rw[<-aJ];exact((aX.ext X9).other (p:=⟨aa,0,I⟩) dO n9.not _).other (p:=⟨aa,1,I⟩) dO (n9.not.set _ _) _
      have aY:wa.heap[g+1]?=M (Oc #[Oa U p,O a' m' c'] 163 (0,0)):=by
       rw[<-aJ,bS _ _ _ _ dO,bS _ _ _ _ dO];exact X9.e ba
      have cX:Ba W0 wa:=by
       rw[<-aJ];exact((X0.trans X9).set (p:=⟨aa,0,I⟩) dO _).set (p:=⟨aa,1,I⟩) dO _
      rw[aJ];clear aJ f al a1 f3 f4 f5 f6;obtain⟨sv,av,mv,cv,-,v0,v1,ch,ci,vz,aV⟩:=c7.rd;have d2:=Da aY (i:=0) (u:=Oa U p) rfl;have d3:=Da aY (i:=1) (u:=O a' m' c') rfl;have zz:=Ya aY;have cS:Ad wa (Oe #[Oa U p,O a' m' c']) D:=aI.ext (aG.o.trans cX);go_wp2_with(go_at_call 212;(with_reducible refine(ly _ (Oe #[Oa U p,O a' m' c']) (Oe #[Oa U sv,O av mv cv]) D R cS aV bv.o cq.o).mono ?_);rintro e wb ⟨rb,rfl,aU,z⟩;obtain⟨sb,ab,mb,cb,rfl,-⟩:=aU.j;obtain⟨cK,a2⟩:=z.cells);go_meet;refine⟨aa,rfl,by omega,by omega,?_,(c7.ext z).put aU,?_,?_⟩
      ·exact((cF.ext z).other (p:=⟨g,0,I⟩) dO (c7.ext z).not _).other (p:=⟨g,1,I⟩) dO ((c7.ext z).not.set _ _) _
      ·rw[bS _ _ _ _ sM,bS _ _ _ _ sM];exact z.e aY
      ·exact((cX.trans z).set (p:=⟨g,0,I⟩) dO _).set (p:=⟨g,1,I⟩) dO _
    case rest =>
     obtain⟨N2,ap⟩:=gX ((if bb=true then N1-1 else N1));obtain⟨R2,aq⟩:=gX ((if bb=true then D-R else R));rw[ap,aq]at hcut;have aw:(if nd<0 then -N2 else N2)=na/nd/\R2=na%nd:=by
      by_cases al:na<0/\R≠0
      ·(have e:bb=true:=by rw[<-aO.o];simpa using al);rw[e]at ap aq;simp only[if_true]at ap aq;have:=cl.o al (by rw[bc.o]);rw[HD.o,ap,aq]at this;exact this
      ·(have e:bb=false:=by rw[<-aO.o];simpa using al);rw[e]at ap aq;simp only[Bool.false_eq_true,if_false]at ap aq;have:=ck.o al bc.o;rw[ap,aq]at this;exact this
     have bA:=Aa aw;clear aw ap aq ak aX ba X0 t0 t1 d0 d1 e0 e1 ao aR bZ y0 y7 y8 cj;obtain⟨ga,rfl,bD,bE,aj,bs,bt,Xa⟩:=hcut;have e2:=Xa.d q0;have dq:w.heap.size+1<wc.heap.size:=Xa.lt z2;go_upto_if 84 with fail;go_cut [13] (OG W0 g (g+1) #[Oa U p,O a' m' c'] (if nd<0 then -N2 else N2) R2)
     case first =>
      by_cases cR:nd<0
      ·have b8:s'<0:=by
        have:=bB.o;rcases vi nd with ⟨e,h⟩|⟨e,h⟩|⟨e,h⟩<;>omega
       obtain⟨sv,av,mv,cv,-,v0,v1,ch,ci,vz,aV⟩:=aj.rd;go_wp2_with(go_at_call 211;(with_reducible refine(Us _ (Oe #[Oa U sv,O av mv cv]) N2 aV).mono ?_);rintro e wb ⟨rb,rfl,aU,z⟩;obtain⟨sb,ab,mb,cb,rfl,-⟩:=aU.j;obtain⟨cK,a2⟩:=z.cells);go_meet;refine⟨ga,rfl,by omega,by omega,?_,?_,?_,?_⟩
       ·rw[if_pos cR];exact(aj.ext z).put aU
       ·exact((bs.ext z).other (p:=⟨ga,0,I⟩) dO (aj.ext z).not _).other (p:=⟨ga,1,I⟩) dO ((aj.ext z).not.set _ _) _
       ·rw[bS _ _ _ _ dO,bS _ _ _ _ dO];exact z.e bt
       ·exact((Xa.trans z).set (p:=⟨ga,0,I⟩) dO _).set (p:=⟨ga,1,I⟩) dO _
      ·have b8:¬s'<0:=by
        have:=bB.o;rcases vi nd with ⟨e,h⟩|⟨e,h⟩|⟨e,h⟩<;>omega
       go_wp2;go_meet;exact⟨ga,rfl,bD,bE,by rw[if_neg oM];exact aj,bs,bt,Xa⟩
     case rest =>
      obtain⟨bQ,a2⟩:=bA.o;rw[bQ,a2]at hcut;clear bQ a2 e2 dq aj bs bt Xa bD bE;obtain⟨gb,rfl,dB,dC,ak,aX,ba,Xb⟩:=hcut;obtain⟨sv,av,mv,cv,-,v0,v1,ch,ci,vz,aV⟩:=ak.rd;obtain⟨su,au,mu,cu,-,u0,u1,dP,dQ,uz,cU⟩:=aX.rd;have o1:=Xb.e cB.o;have o2:=Xb.e cC.o;have c1:=Da o1 (i:=0) (u:=Oa U 0) rfl;have c2:=Da o1 (i:=1) (u:=O I 0 0) rfl;have c4:=Da o2 (i:=0) (u:=Oa U 0) rfl;have da:=Da o2 (i:=1) (u:=O I 0 0) rfl;have dw:=Za o1 0;have dx:=Za o1 1;have dy:=Za o2 0;have dz:=Za o2 1;have dk:=Ya o1;have dl:=Ya o2;have dJ:¬g=w.heap.size+1+1:=oM;have dK:¬gb=w.heap.size+1+1:=oM;(have n1:sd 3 wc (w.heap.size+1+1):=by intro cs fr e;rw[o1]at e;cases e);(have n2:sd 3 wc (w.heap.size+1+1+1):=by intro cs fr e;rw[o2]at e;cases e);have XF:Ba w wc:=aG.o.trans Xb;clear o1 o2;go_wp2;refine Ai (fun i=>decide (2<i)) (Ea [(⟨gb,0,I⟩,Oa U sv),(⟨gb,1,I⟩,O av mv cv),(⟨g,0,I⟩,Oa U su),(⟨g,1,I⟩,O au mu cu)]) kM ?_ (fun f=>?_)
      ·exact cA
      refine sN 0 ?_
      (iterate 2 refine qi ?_);refine oN ?_;refine kd (i:=2) fun K t=>?_;go_simp;refine kO t (fun _=>?_) (fun f=>?_)
      ·exact cA
      clear t K;replace f:=f rfl;refine kd (i:=3) fun K t=>?_;go_simp;refine kO t (fun h=>nomatch h) (fun f=>?_);clear t K;refine Jb kM ?_ _;go_wp2;refine bR (v:=Oi #[Oe #[Oa U sv,O av mv cv],Oe #[Oa U su,O au mu cu]]) (by simp[results,Tryz.results249,go_sem,c1,c2,c4,da,dk,dl]) rfl ⟨_,_,rfl,?_,?_,eA⟩
      ·exact aV.keep (((((Ka.refl _ wc).y n1 _).y (n1.set _ _) _).y ((n2.set _ _).set _ _) _).y (((n2.set _ _).set _ _).set _ _) _)
      ·exact cU.keep (((((Ka.refl _ wc).y n1 _).y (n1.set _ _) _).y ((n2.set _ _).set _ _) _).y (((n2.set _ _).set _ _).set _ _) _)
end
section
open Go.RowKit Go.Shelf Go.Sort Go.Lib
def Ta(s:Sp):Rat×Rat:=yd (Ub s) (Mc s)
def ur(s:Sp):Mc s≠[]:=by unfold Mc;intro h;have a:Vd s=[]:=List.map_eq_nil_iff.1 h;unfold Vd at a;have c:=QR (zs:=Xf (s.lo::s.hi::mg s (s.over++s.under))) (by intro d;have:=congrArg List.length d;rw[Ls]at this;simp at this);exact c a
def Ny(w:Z)(x y:Ob)(s:Sp)(t:Ja w x s.over)(u:Ja w y s.under)(c:Kg s):Calls Tryz.prog 200 #[qj s x y] w (Vk w (Ta s).1 (Ta s).2):=by
 have L:=Aa (fun(W:Z)(p:Ba w W)=>GE W x y s (t.f p) (u.f p) c);have z:=Aa (fun(W:Z)(p:Ba w W)(v:Ob)(hv:Yh W v (Mc s))=>WN W v x y s (Mc s) hv (t.f p) (u.f p) c (Ik c));obtain⟨a1,m1,rfl⟩:=t.form;obtain⟨a2,m2,rfl⟩:=u.form;obtain⟨n1,f1⟩:=gX s.over.length;obtain⟨n2,f2⟩:=gX s.under.length;obtain⟨lo,l⟩:=gX s.lo;obtain⟨hi,k⟩:=gX s.hi;obtain⟨R,hR⟩:=gX (Vk w (Ta s).1 (Ta s).2);rw[hR];have HR:=Aa hR;unfold qj at L z ⊢;simp only[f1,f2,l,k]at L z ⊢;clear t u c f1 f2 l k hR;have ah:∀(fn:Fn)(first cap:Array Ob)(w:Z),(Instr.makeFunc fn first cap).run Tryz.prog w = .ok (.func fn first cap) w:=fun _ _ _ _=>rfl;go_in;go_wp2;refine od [(⟨w.heap.size,0,I⟩,O a1 n1 m1),(⟨w.heap.size,1,I⟩,O a2 n2 m2),(⟨w.heap.size,2,I⟩,Oa U lo),(⟨w.heap.size,3,I⟩,Oa U hi)] cA fun a=>?_;refine Qa (i:=0) ?_;refine sN 2 ?_
 iterate 2 refine ub ?_
 refine oN ?_;refine mc (i:=1) (L.o _ eA) ?_;rintro e w3 ⟨r3,rfl,aa,j⟩;refine⟨_,rfl,(cE a j),fun a=>?_⟩;have X3:Ba w w3:=eA;refine mc (i:=4) (z.o _ X3 _ aa.rs) ?_;rintro e w4 ⟨r4,r5,rfl,f,g,d⟩;obtain⟨⟨a4,m4,c4,s4,b4,n4,k4,rfl⟩,a5,m5,c5,s5,b5,n5,k5,rfl⟩:=And.intro f.form g.form;refine⟨_,rfl,(cE a d),fun a=>?_⟩;refine sN 5 ?_
 iterate 2 refine ub ?_
 refine oN ?_;have X4:Ba w w4:=X3.trans d;have hO:RB w4 (w.heap.size+1) 0:=(((RB.new (Cb.zero _) sM).ext ((eR _).alloc _)).ext ((eR _).drew.trans j)).ext d;have hP:RB w4 (w.heap.size+1+1) 0:=((RB.new (Cb.zero _) sM).ext ((eR _).drew.trans j)).ext d;obtain⟨_,_,_,_,_,_,_,o0,o1,o2,ab,ac,ad,zo,_⟩:=hO.rd;obtain⟨_,_,_,_,_,_,_,p0,p1,p2,ae,af,ag,zp,_⟩:=hP.rd;have r:∀b,w.heap.size<b->∀q∈[((⟨w.heap.size,0,I⟩:Oh),Value.slice a1 n1 m1),(⟨w.heap.size,1,I⟩,O a2 n2 m2),(⟨w.heap.size,2,I⟩,Oa U lo),(⟨w.heap.size,3,I⟩,Oa U hi)],b≠q.1.block:=by
  intro b hb q hq;simp at hq;rcases hq with rfl|rfl|rfl|rfl<;>(dsimp only;omega)
 refine ye (i:=7) fun K o=>?_;go_simp;refine kO o (Ea.set3 a (r _ oM) _ _ _) (fun a=>?_);clear o K;refine ye (i:=8) fun K o=>?_;go_simp;refine kO o (Ea.set3 a (r _ oM) _ _ _) (fun a=>?_);clear o K;refine Tb ?_;have P:=Aa (RB.copy2 hO hP oM f g rfl rfl);go_wp2;refine bR (v:=Oi #[Oe #[O a4 m4 c4,Od s4,O b4 n4 k4],Oe #[O a5 m5 c5,Od s5,O b5 n5 k5]]) (by simp[results,Tryz.results200,go_sem,o0,o1,o2,ab,ac,ad,p0,p1,p2,ae,af,ag]) rfl ?_;rw[<-HR.o];obtain⟨P1,P2,P3,P4,P5,P6⟩:=P.o;exact⟨_,_,rfl,f.keep P4,g.keep P4,P6 w X4 oM oM⟩
def Ve(ps a:LP):Bool:=if (Ld ps a).lo<(Ld ps a).hi then decide (0<=(Ta (Ld ps a)).2.num.sign)else true
def Lx(w:Z)(t u:Ob)(ps d:LP)(q:Ja w t ps)(r:Ja w u d)(R:je ps)(k2:je d):Calls Tryz.prog 161 #[t,u] w fun e w'=>e=.returned (Od (Ve ps d))/\Ba w w':=by
 have l1:0<ps.length:=List.length_pos_iff.2 R.1;have l2:0<d.length:=List.length_pos_iff.2 k2.1;have a:=Aa (fun(W:Z)(l:Ba w W)=>mw W t u ps d (q.f l) (r.f l) l1 l2);have p:=Aa (fun(W:Z)(l:Ba w W)=>Ny W t u (Ld ps d) (q.f l) (r.f l) (Co R k2));obtain⟨B,v⟩:=gX (Ve ps d);rw[v];have f:=Aa v;unfold Ve at f;obtain⟨s,hs⟩:=gX (Ld ps d);rw[hs]at f a p;obtain⟨a1,m1,rfl⟩:=q.form;obtain⟨a2,m2,rfl⟩:=r.form;obtain⟨n1,f1⟩:=gX ps.length;obtain⟨n2,f2⟩:=gX d.length;obtain⟨lo,j⟩:=gX s.lo;obtain⟨z,i⟩:=gX s.hi;unfold An at a;unfold qj at a p;simp only[f1,f2,j,i]at f a p ⊢;clear q r R k2 l1 l2 v hs f1 f2 j i;by_cases c:lo<z
 ·have e:decide (lo<z)=true:=by simpa using c
  rw[if_pos c]at f;rw[e]at a;obtain⟨k,K⟩:=gX ((Ta s).2.num.sign);rw[K]at f;have Hk:=Aa K;clear K e c;go_in;go_wp2_with(first|(go_at_call 183;refine cM (a.o _ eA) ?_;rintro e w3 ⟨rfl,g⟩;obtain⟨x,y⟩:=g.cells)|(go_at_call 200;refine cM (p.o _ eA) ?_;rintro e w4 ⟨r4,r5,rfl,L,o,aa⟩;obtain⟨a4,m4,c4,s4,b4,n4,k4,rfl⟩:=L.form;obtain⟨a5,m5,c5,s5,b5,n5,k5,rfl⟩:=o.form)|(go_at_call 201;(with_reducible refine(Is _ _ _ (o.ext ?_)).mono ?_);exact eA;rintro e w6 ⟨rfl,ab⟩;rw[Hk.o]));go_ret;exact⟨by rw[<-f.o];rfl,eA⟩
 ·have e:decide (lo<z)=false:=by simpa using c
  rw[if_neg c]at f;rw[e]at a;clear e c;go_in;go_wp2_with(first|(go_at_call 183;refine cM (a.o _ eA) ?_;rintro e w3 ⟨rfl,g⟩;obtain⟨x,y⟩:=g.cells));go_ret;exact⟨by rw[<-f.o];rfl,eA⟩
def Yi(p q:Pl):Int:=
 if Vb (Ga p)<=yb (Ga q)then 1
 else if Vb (Ga q)<=yb (Ga p)then 2
 else if Ve (Ga p) (Kb q)then 3
 else if Ve (Ga q) (Kb p)then 4
 else 5
def im(w:Z)(c:List Ob)(p:Pl):Prop:=∃v vl vu,c=(Ye p v vl vu).toList/\Ja w v p.shape/\Ja w vl (Ga p)/\Ja w vu (Kb p)
def Mg(w:Z)(v:Ob)(p:Pl):Prop:=∃s vl vu,v=Oe (Ye p s vl vu)/\Ja w s p.shape/\Ja w vl (Ga p)/\Ja w vu (Kb p)
def Mg.ext{w w':Z}{v:Ob}{p:Pl}(h:Mg w v p)(k:Ba w w'):Mg w' v p:=by obtain⟨s,f,g,a,c,d,e⟩:=h;exact⟨s,f,g,a,c.f k,d.f k,e.f k⟩
def Mg.keep{w w':Z}{v:Ob}{p:Pl}(h:Mg w v p)(k:Ka 91 w w'):Mg w' v p:=by obtain⟨s,f,g,a,c,d,e⟩:=h;exact⟨s,f,g,a,c.E k,d.E k,e.E k⟩
abbrev ld(w:Z)(v:Ob)(ps:List Pl):Prop:=Sl 202 12 im w v ps
def im.ext{w w':Z}{c:List Ob}{p:Pl}(h:im w c p)(k:Ba w w'):im w' c p:=by obtain⟨s,g,i,a,d,e,f⟩:=h;exact⟨s,g,i,a,d.f k,e.f k,f.f k⟩
def im.keep{w w':Z}{c:List Ob}{p:Pl}(h:im w c p)(k:Ka 91 w w'):im w' c p:=by obtain⟨s,g,i,a,d,e,f⟩:=h;exact⟨s,g,i,a,d.E k,e.E k,f.E k⟩
def ld.f{w w':Z}{v:Ob}{ps:List Pl}(h:ld w v ps)(k:Ba w w'):ld w' v ps:=Sl.ext h (fun _ _ h=>im.ext h k) k
def CQ(w:Z)(v1 v2:Ob)(p q:Pl)(h1:Mg w v1 p)(h2:Mg w v2 q)(k1:Ia p=true)(k2:Ia q=true):Calls Tryz.prog 164 #[v1,v2] w fun e w'=>e=.returned (Oa .u8 (Yi p q))/\Ba w w':=by
 obtain⟨s1,l1,u1,rfl,p1,K,p3⟩:=h1;obtain⟨s2,l2,u2,rfl,q1,L,q3⟩:=h2;obtain⟨o1,o2⟩:=ol k1;obtain⟨o3,o4⟩:=ol k2;have HA:=Aa (fun(W:Z)(f:Ba w W)=>yr W l1 (Ga p) (K.f f) (List.length_pos_iff.2 o1.1));have HB:=Aa (fun(W:Z)(f:Ba w W)=>Mp W l2 (Ga q) (L.f f) (List.length_pos_iff.2 o3.1));have HC:=Aa (fun(W:Z)(f:Ba w W)=>Mp W l1 (Ga p) (K.f f) (List.length_pos_iff.2 o1.1));have HD:=Aa (fun(W:Z)(f:Ba w W)=>yr W l2 (Ga q) (L.f f) (List.length_pos_iff.2 o3.1));have HE:=Aa (fun(W:Z)(f:Ba w W)=>Lx W l1 u2 (Ga p) (Kb q) (K.f f) (q3.f f) o1 o4);have HF:=Aa (fun(W:Z)(f:Ba w W)=>Lx W l2 u1 (Ga q) (Kb p) (L.f f) (p3.f f) o3 o2);obtain⟨au,aw,rfl⟩:=p1.form;obtain⟨av,ay,rfl⟩:=q1.form;obtain⟨a1,c1,rfl⟩:=K.form;obtain⟨a2,c2,rfl⟩:=L.form;obtain⟨R,ab,rfl⟩:=p3.form;obtain⟨aa,ac,rfl⟩:=q3.form;obtain⟨k,hk⟩:=gX (Yi p q);have g:=Aa hk;unfold Yi at g;rw[hk];obtain⟨n1,f1⟩:=gX ((Ga p).length);obtain⟨n2,f2⟩:=gX ((Ga q).length);obtain⟨m1,f3⟩:=gX ((Kb p).length);obtain⟨m2,f4⟩:=gX ((Kb q).length);obtain⟨j1,f5⟩:=gX p.shape.length;obtain⟨j2,f6⟩:=gX q.shape.length;obtain⟨rp,f7⟩:=gX (Vb (Ga p));obtain⟨lp,f8⟩:=gX (yb (Ga p));obtain⟨rq,f9⟩:=gX (Vb (Ga q));obtain⟨lq,u⟩:=gX (yb (Ga q));obtain⟨fa,v⟩:=gX (Ve (Ga p) (Kb q));obtain⟨fb,x⟩:=gX (Ve (Ga q) (Kb p));simp only[f1,f2,f3,f4,f5,f6,f7,f8,f9,u,v,x]at HA HB HC HD HE HF g ⊢;obtain⟨nm,sh,d,de,gx,gz,wy,ax,az,sk⟩:=p;obtain⟨ar,aA,d',ao,ap,aq,aC,ai,aj,aB⟩:=q;clear hk p1 K p3 q1 L q3 o1 o2 o3 o4 k1 k2 f1 f2 f3 f4 f5 f6 f7 f8 f9 u v x;unfold Ye;dsimp only;go_in;go_wp2;refine od [(⟨w.heap.size,10,I⟩,O a1 n1 c1),(⟨w.heap.size+1,10,I⟩,O a2 n2 c2),(⟨w.heap.size,11,I⟩,O R m1 ab),(⟨w.heap.size+1,11,I⟩,O aa m2 ac)] cA fun a=>?_;refine sN 0 ?_
 iterate 2 refine ub ?_
 refine oN ?_;refine sN 3 ?_
 iterate 2 refine ub ?_
 refine oN ?_;refine mc (i:=2) (HA.o _ eA) ?_;rintro e w3 ⟨rfl,y⟩;refine⟨_,rfl,(cE a y),fun a=>?_⟩;have X3:Ba w w3:=eA;refine mc (i:=5) (HB.o _ X3) ?_;rintro e w4 ⟨rfl,j⟩;refine⟨_,rfl,(cE a j),fun a=>?_⟩;have X4:Ba w w4:=X3.trans j;refine sN 6 ?_
 iterate 2 refine ub ?_
 refine oN ?_;refine Tb ?_;obtain⟨ak,al,am,an,_⟩:=a;(try clear y);clear j X3;by_cases g1:rp<=lq
 ·go_wp2;go_ret;exact⟨by rw[<-g.o,if_pos g1];rfl,X4⟩
 rw[if_neg g1]at g;have aD:=X4.size;go_wp2;refine od [(⟨w.heap.size,10,I⟩,O a1 n1 c1),(⟨w.heap.size+1,10,I⟩,O a2 n2 c2),(⟨w.heap.size,11,I⟩,O R m1 ab),(⟨w.heap.size+1,11,I⟩,O aa m2 ac)] cA fun a=>?_;refine sN 0 ?_
 iterate 2 refine ub ?_
 refine oN ?_;refine sN 3 ?_
 iterate 2 refine ub ?_
 refine oN ?_;refine mc (i:=2) (HC.o _ eA) ?_;rintro e w5 ⟨rfl,z⟩;refine⟨_,rfl,(cE a z),fun a=>?_⟩;have X5:Ba w w5:=eA;refine mc (i:=5) (HD.o _ X5) ?_;rintro e w6 ⟨rfl,l⟩;refine⟨_,rfl,(cE a l),fun a=>?_⟩;have X6:Ba w w6:=X5.trans l;refine sN 6 ?_
 iterate 2 refine ub ?_
 refine oN ?_;refine Tb ?_;obtain⟨o,r,s,t,_⟩:=a;(try clear z);clear l X5;by_cases g2:rq<=lp
 ·go_wp2;go_ret;exact⟨by rw[<-g.o,if_pos g2];rfl,X6⟩
 rw[if_neg g2]at g;cases fa with
 |true=>
  go_wp2_with(go_at_call 161;refine cM (HE.o _ eA) ?_;rintro e w7 ⟨rfl,c⟩);go_ret;exact⟨by rw[<-g.o];rfl,eA⟩
 |false=>
  cases fb with
  |true=>
   go_wp2_with(first|(go_at_call 161;(with_reducible refine(HE.o _ ?_).mono ?_);exact eA;rintro e w7 ⟨rfl,c⟩;have ad:=c.d o;have ae:=c.d r;have af:=c.d s;have ag:=c.d t)|(go_at_call 161;(with_reducible refine(HF.o _ ?_).mono ?_);exact eA;rintro e w8 ⟨rfl,ah⟩));go_ret;exact⟨by rw[<-g.o];rfl,eA⟩
  |false=>
   go_wp2_with(first|(go_at_call 161;(with_reducible refine(HE.o _ ?_).mono ?_);exact eA;rintro e w7 ⟨rfl,c⟩;have ad:=c.d o;have ae:=c.d r;have af:=c.d s;have ag:=c.d t)|(go_at_call 161;(with_reducible refine(HF.o _ ?_).mono ?_);exact eA;rintro e w8 ⟨rfl,ah⟩));go_ret;exact⟨by rw[<-g.o];rfl,eA⟩
def ld.at'{w:Z}{a:Option Oh}{n c:Nat}{ps:List Pl}(h:ld w (O a n c) ps){i:Nat}{p:Pl}(r:ps[i]?=M p):∃b o s vl vu,a=M ⟨b,o,I⟩/\b<w.heap.size/\Ja w s p.shape/\Ja w vl (Ga p)/\Ja w vu (Kb p)/\∀(j:Nat) u,(Ye p s vl vu)[j]?=M u->w.cell? ⟨b,o+i*12+j,I⟩=M u:=by obtain⟨b,o,d,rfl,k,t,⟨s,vl,vu,rfl,e,f,g⟩,l⟩:=Sl.at h r;exact⟨b,o,s,vl,vu,rfl,k,e,f,g,fun j u q=>l j u (by rw[Array.getElem?_toList];exact q)⟩
def Aw(W:Z)(b:Nat)(p:Pl)(s a c:Ob):Prop:=W.heap[b]?=M (Oc (Ye p s a c) 202 (0,0))/\Ja W s p.shape/\Ja W a (Ga p)/\Ja W c (Kb p)
def Aw.ext{W W':Z}{b:Nat}{p:Pl}{s a c:Ob}(h:Aw W b p s a c)(k:Ba W W'):Aw W' b p s a c:=⟨k.e h.1,h.2.1.f k,h.2.2.1.f k,h.2.2.2.f k⟩
def Qf(q p:Pl):Bool:=Le q p&&(Yi q p==5)
def jh(a:ByteArray)(p:Pl):Bool:=p.name.toList==a.toList
def EL(w:Z)(o:Ob)(p:Pl)(i:ByteArray)(a:Nat)(h:Mg w o p)(q:w.cell? ⟨a,0,I⟩=M (.string i)):Calls Tryz.prog 160 #[o,Og (M ⟨a,0,I⟩)] w fun e v=>e=.returned (Od (jh i p))/\Ba w v:=by obtain⟨s1,l1,u1,rfl,j,k,l⟩:=h;obtain⟨r,s,rfl⟩:=j.form;obtain⟨y,L,rfl⟩:=k.form;obtain⟨t,u,rfl⟩:=l.form;obtain⟨n1,c⟩:=gX ((Ga p).length);obtain⟨m1,f⟩:=gX ((Kb p).length);obtain⟨j1,g⟩:=gX p.shape.length;rw[c,f,g];obtain⟨np,sh,d,R,gx,gz,wy,z,K,sk⟩:=p;clear j k l c f g;have zq:a<w.heap.size:=World.block_lt_of_cell? w _ q;have x:a<w.heap.size+1:=oM;unfold Ye jh;dsimp only;go_in;go_wp2;go_ret;exact⟨rfl,eA⟩
def QN(w:Z)(vp:Ob)(p q:Pl)(l:Nat)(s vl vu:Ob)(h:Mg w vp p)(hq:Aw w l q s vl vu)(k1:Ia p=true)(k2:Ia q=true):Calls Tryz.prog 162 #[vp,Og (M ⟨l,0,I⟩)] w fun e w'=>e=.returned (Od (Qf q p))/\Ba w w':=by
 obtain⟨f,t,q2,q3⟩:=hq;have k:=Aa (fun(W:Z)(o:Ba w W)=>CQ W (Oe (Ye q s vl vu)) vp q p ⟨_,_,_,rfl,t.f o,q2.f o,q3.f o⟩ (h.ext o) k2 k1);obtain⟨s1,l1,u1,rfl,R,p2,p3⟩:=h;have g:=Aa (fun(W:Z)=>ns W q p s s1 (by obtain⟨a,c,h⟩:=t.form;exact⟨a,_,c,h⟩) (by obtain⟨a,c,h⟩:=R.form;exact⟨a,_,c,h⟩));obtain⟨ay,aA,rfl⟩:=R.form;obtain⟨a1,c1,rfl⟩:=p2.form;obtain⟨aC,aD,rfl⟩:=p3.form;obtain⟨aa,ab,rfl⟩:=t.form;obtain⟨a2,c2,rfl⟩:=q2.form;obtain⟨ad,ae,rfl⟩:=q3.form;obtain⟨n1,f1⟩:=gX ((Ga p).length);obtain⟨n2,f2⟩:=gX ((Ga q).length);obtain⟨m1,f3⟩:=gX ((Kb p).length);obtain⟨m2,f4⟩:=gX ((Kb q).length);obtain⟨j1,f5⟩:=gX p.shape.length;obtain⟨j2,f6⟩:=gX q.shape.length;obtain⟨r,f7⟩:=gX (Yi q p);obtain⟨m,f8⟩:=gX (Le q p);unfold Qf;simp only[f1,f2,f3,f4,f5,f6,f7,f8]at k g f ⊢;obtain⟨nm,sh,d,de,gx,gz,wy,ax,az,sk⟩:=p;obtain⟨L,aB,d',y,z,K,af,v,x,ac⟩:=q;unfold Ye at k f ⊢;unfold Dd at g;dsimp only at k g f ⊢;have ai:=Da f (i:=0) (u:=.string L) rfl;have aj:=Da f (i:=1) (u:=O aa j2 ab) rfl;have ak:=Da f (i:=2) (u:=Oa U d') rfl;have al:=Da f (i:=3) (u:=Oa U y) rfl;have am:=Da f (i:=4) (u:=Oa U z) rfl;have an:=Da f (i:=5) (u:=Oa U K) rfl;have ao:=Da f (i:=6) (u:=Oa U af) rfl;have ap:=Da f (i:=7) (u:=Oa U v) rfl;have aq:=Da f (i:=8) (u:=Oa U x) rfl;have ar:=Da f (i:=9) (u:=Oa .u8 ac) rfl;have ag:=Da f (i:=10) (u:=O a2 n2 c2) rfl;have ah:=Da f (i:=11) (u:=O ad m2 ae) rfl;have zq:l<w.heap.size:=Ya f;have aE:l<w.heap.size+1:=oM;clear f R p2 p3 t q2 q3 k1 k2 f1 f2 f3 f4 f5 f6 f7 f8;cases m with
 |false=>
  go_in;go_wp2_with(go_at_call 163;refine cM (g.o _) ?_;rintro e w3 ⟨rfl,j⟩);go_ret;exact⟨rfl,eA⟩
 |true=>
  go_in;go_wp2_with(first|(go_at_call 163;refine cM (g.o _) ?_;rintro e w3 ⟨rfl,j⟩;obtain⟨au,av⟩:=j.cells)|(go_at_call 164;refine cM (k.o _ eA) ?_;rintro e w4 ⟨rfl,aw⟩));go_ret;exact⟨rfl,eA⟩
