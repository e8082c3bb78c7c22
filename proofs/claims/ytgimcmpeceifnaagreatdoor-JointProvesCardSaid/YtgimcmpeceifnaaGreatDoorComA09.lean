import Derived.Test.YtgimcmpeceifnaaGreatDoorComA08
import Derived.Sort.OwnSortedInts
set_option maxRecDepth 1000000
set_option maxHeartbeats 16000000
set_option linter.all false
open Go.Value renaming slice->O,int->Oa,bool->Od,agg->Oe,pointer->Og,tuple->Oi
open Go renaming World->Z,Value->Ob,Act->Of,Addr->Oh
open Option renaming none->I,some->M
open Go.IntKind renaming i64->U
open Go.Obj renaming cells->Oc
namespace Go.Proofs.YtgimcmpeceifnaaGreatDoor.Cop
section
open Go.RowKit Go.Shelf
attribute [local go_sem] Oper.semAt_some
abbrev Al:=(Int×Int)×(Int×Int)
def Wg(l:LP):List Al:=l.zip l.tail
def Wm(e:Al):Array Ob:=#[Oe #[Oa U e.1.1,Oa U e.1.2],Oe #[Oa U e.2.1,Oa U e.2.2]]
def ZC l:(Wg l).length=l.length-1:=by simp[Wg]
def Ex{l}{j:Nat}{p q}(a:l[j]?=M p)(c:l[j+1]?=M q):(Wg l)[j]?=M (p,q):=by unfold Wg;rw[List.getElem?_zip_eq_some];exact⟨a,by rw[List.getElem?_tail];exact c⟩
def IE w sl n c:Calls Tryz.prog 224 #[O sl n c] w fun e f=>e=.returned (.func (.func 263) #[] #[Og (M ⟨w.heap.size,0,I⟩)])/\w.alloc (Oc #[O sl n c] 146)=f:=by have d:∀(a:Fn)(first cap:Array Ob)(w:Z),(Instr.makeFunc a first cap).run Tryz.prog w = .ok (.func a first cap) w:=fun _ _ _ _=>rfl;go_in;go_wp2;go_ret;exact⟨rfl,rfl⟩
def CC{F m P l a tmps assign body W}{A B:Z->Prop}(h:RoundIn F m P l a tmps assign body W fun e W'=>(e=.returned (Od true)/\A W')\/(e=.returned (Od false)/\B W')):RoundIn F m P l a tmps assign body W fun e W'=>∃b,e=.returned (Od b)/\(b=true->A W')/\(b=false->B W'):=
 h.mono fun e W' h=>by
  rcases h with ⟨rfl,h⟩|⟨rfl,h⟩
  ·exact⟨true,rfl,fun _=>h,fun h=>nomatch h⟩
  ·exact⟨false,rfl,fun h=>(nomatch h),fun _=>h⟩
def DQ{β:Type} f n(hn:1<=n) l g w w0 sl ps d(u:d.map f=Wg ps)(J Jx:List β->Z->Prop)(hY:∀pre x W,J pre W->pre.length<d.length->YieldAt Fence.wide (n-1) Tryz.prog l (Wm (f x)) W fun e W' =>
   (e=.returned (Od true)/\J (pre++[x]) W'/\Qe w g W W')\/(e=.returned (Od false)/\Jx (pre++[x]) W'))
  (ab:∀pre W,J pre W->J pre W.drew)(k:w0.cell? ⟨g,0,I⟩=M sl)(ad:g<w0.heap.size)(hi:Ia w sl ps)(hw:Ba w w0) W(hW:Qe w g w0 W)(h0:J [] W) :
  CallsIn Fence.wide n Tryz.prog 263 #[.func (.yield l) #[] #[],Og (M ⟨g,0,I⟩)] W fun e W'=>(∃v,e=.returned v)/\
   ((∃ys,ys=d/\J ys W')\/(∃pre,pre <+: d/\Jx pre W')):=by
 obtain⟨a,c,rfl⟩:=hi.form;have p:=hi.le;obtain⟨m,R⟩:=gX ps.length;rw[R]at hi k p;have i:d.length=m-1:=by have:=congrArg List.length u;rw[lL,ZC,R]at this;exact this
 rw[i]at hY;unfold maxLen at p;have aj:m<=9223372036854775807:=oM;have Hm:=za R;clear R p;have af:W.cell? ⟨g,0,I⟩=M (O a m c):=(World.cell?_of_block hW.2).trans k;refine callsIn_of_wp Tryz.func263 rfl trivial ?_ rfl;simp only[Tryz.ntmps263,List.size_toArray,List.length_cons,List.length_nil,Nat.reduceAdd,Nat.reduceSub,Array.replicate_succ,Array.replicate_zero,List.push_toArray,List.append_toArray,List.nil_append,List.cons_append]
 gi_wp2
 gi_loopw [3] (fun t3 wr=>∃j:Nat,j<=m/\t3=Oa U ((j+1:Nat):Int)/\J (d.take j) wr/\Qe w g w0 wr)
  (fun t3 _=>(m+1-intOf t3).toNat)
 case atStart=>exact⟨0,by omega,rfl,by simpa using h0,hW⟩
 case round =>
  obtain⟨j,hj,rfl,hJ,s⟩:=hrel;have ag:wr.cell? ⟨g,0,I⟩=M (O a m c):=(World.cell?_of_block s.2).trans k;by_cases ai:j+1<m
  ·obtain⟨⟨x,z⟩,hp⟩:∃q,ps[j]?=M q:=⟨ps[j]'(by rw[Hm.o];omega),by simp⟩;obtain⟨⟨x',z'⟩,hq⟩:∃q,ps[j+1]?=M q:=⟨ps[j+1]'(by rw[Hm.o];omega),by simp⟩;have he:=Ex hp hq;obtain⟨y,r⟩:∃y,d[j]?=M y:=⟨d[j]'(by rw[i];omega),by simp⟩;have K:f y=((x,z),(x',z')):=by
    rw[<-u,lP,r]at he;exact Option.some.inj he
   obtain⟨b,o,rfl,hb,d0,d1⟩:=(hi.f (hw.D s.1 (nE _))).at' hp;obtain⟨b',o',e',ah,d2,d3⟩:=(hi.f (hw.D s.1 (nE _))).at' hq;cases e';obtain⟨fn,tmps,assign,body,hy,hR⟩:=hY _ y wr.drew (ab _ _ hJ) (by rw[List.length_take,i];omega);have L:d.take j++[y]=d.take (j+1):=(ze _ _ _ r).symm;rw[L]at hR;have t:=CC hR;have HR:=za t;have u1:((j+1:Nat):Int)-1=(j:Int):=oM;have u2:IntKind.i64.wrap ((j:Int)+1-1)=(j:Int):=by rw[show (j:Int)+1-1=j by omega];exact iW _ ⟨by omega,by omega⟩
   have u6:IntKind.i64.wrap (j:Int)=(j:Int):=iW _ ⟨by omega,by omega⟩;have u3:(0:Int)<=(j:Int)+1:=oM;have u4:(j:Int)+1<(m:Int):=oM;have u5:((j:Int)+1).toNat=j+1:=oM;have p1:(0:Int)<=(j:Int):=oM;have p2:(j:Int)<(m:Int):=oM;have p3:((j+1:Nat):Int)<(m:Int):=oM;rw[K]at hy;clear hR t L hp hq he r K;unfold Wm at hy;dsimp only at hy
   gi_wp2
   gi_region_with ((with_reducible refine RoundIn.mono HR.o ?_);rintro e W3 ⟨bb,rfl,hA,hB⟩)
   all_goals
    cases bb
    ·have ac:=hB rfl;clear hA hB
     gi_wp2
     refine bR (results_none rfl _ _ _) rfl ?_;exact⟨⟨_,rfl⟩,.inr ⟨_,⟨d.drop (j+1),List.take_append_drop _ _⟩,ac⟩⟩
    ·obtain⟨aa,ae⟩:=hA rfl;clear hA hB
     gi_wp2
     go_roundw
     case rel=>exact⟨j+1,by omega,by go_num,aa,s.trans ((Qe.refl w g wr).ext ((eR wr).drew) (hw.D s.1 (nE _)).size (Nat.lt_of_lt_of_le ad s.1.size) |>.trans ae)⟩
     case measure=>simp[intOf];omega
  ·have e:d.take j=d:=lT (by rw[i];omega);rw[e]at hJ;have p3:¬((j+1:Nat):Int)<(m:Int):=oM;clear e
   gi_wp2
   go_end0
   exact⟨⟨_,rfl⟩,.inl hJ⟩
def GG{β} f n(s:1<=n) a w w0 sl ps(c:List β)(i:c.map f=Wg ps)(g:w0.cell? ⟨a,0,I⟩=M sl)(d:a<w0.heap.size)(hi:Ia w sl ps)(j:Ba w w0):SeqStopsK Fence.wide n Tryz.prog 263 #[Og (M ⟨a,0,I⟩)] (fun x=>Wm (f x)) (Qe w a) (fun t=>t=c) (fun pre=>pre <+: c) c.length w0:=
 fun l J k W p hJ _ q o=>DQ f n s l a w w0 sl ps c i J k q (fun pre W' h=>hJ _ _ _ I h ⟨rfl,rfl,rfl,nE _,fun _ _ _=>rfl⟩ (fun r e=>by cases e)) g d hi j W ((Qe.refl w a w0).ext p j.size d) o
section
variable {P:Program} {ops:Array Oper} {Q:Exit->Of->Z->Prop} {md:Region.Mode} {S:Z->Prop}
def Mq(P:Program)(md:Region.Mode)(ops:Array Oper)(Q:Exit->Of->Z->Prop)(S:Z->Prop)(fuel:Nat)(d:Array Bool)(a:Of)(w:Z)(i:Nat)(oi:Oper):Prop:=
 ∃v,Region.noSelect ops=true/\Region.free md ops d i=true/\(Region.ready md ops d).contains i=true/\(∀c a w,Q (.panic c) (a.put oi.dst v) w->Q (.panic c) a w)/\YieldsIf P ops S oi v a/\S w/\
  wpAnyH P md ops Q S fuel (d.setIfInBounds i true) (a.put oi.dst v) w
def xd{i oi fuel c a w}(hi:ops[i]?=M oi)(h:Mq P md ops Q S fuel c a w i oi):wpAnyH P md ops Q S (fuel+1) c a w:=by obtain⟨v,d,e,f,g,j,h6,k⟩:=h;exact wpAnyH_take hi d e f g j h6 k
def Rq(P:Program)(md:Region.Mode)(ops:Array Oper)(Q:Exit->Of->Z->Prop)(S:Z->Prop)(fuel:Nat)(c:Array Bool)(a:Of)(w:Z)(i:Nat)(o:Oper):Prop:=
 Region.ready md ops c=[i]/\∀K':Of->Z->Prop,Shut (∀a w,S w->(S w->wpAnyH P md ops Q S fuel (c.setIfInBounds i true) a w)->K' a w)->if Region.wanted o (yielded ops a.tmps)=true then Oper.wp P o a w K' Q else K' (a.put o.dst undef) w
def ju{i o fuel c a w}(hi:ops[i]?=M o)(h:Rq P md ops Q S fuel c a w i o):wpAnyH P md ops Q S (fuel+1) c a w:=
 wpAnyH_ready h.1 sM (AllReadyH.cons hi h.2 AllReadyH.nil)
def La{v i oi fuel d a w G}(h:G)(hi:ops[i]?=M oi:=by(simp only[gA,gS,gZ];rfl))(f:Region.noSelect ops=true:=by kernel_rfl)(g:Region.free md ops d i=true:=by kernel_rfl)(j:(Region.ready md ops d).contains i=true:=by kernel_rfl)(h4:∀c a w,Q (.panic c) (a.put oi.dst v) w->Q (.panic c) a w:=by exact fun _ _ _ h=>h)(l:Region.wanted oi (yielded ops a.tmps)=true:=by rfl)(o:∀w,S w->(execOp a.eval oi).run P w = .ok (.value v) w:=by(intro w e;simp only[Da,and_true]at e;go_simp;try(with_reducible rfl)))(h6:S w:=by(with_reducible assumption))(k:wpAnyH P md ops Q S fuel (d.setIfInBounds i true) (a.put oi.dst v) w=G:=by((try simp only[Act.put,sA,sZ,sS]);rfl)):wpAnyH P md ops Q S (fuel+1) d a w:=by subst k;exact xd hi ⟨v,f,g,j,h4,Or.inl ⟨l,o⟩,h6,h⟩
def Pa{i oi fuel d a w G}(h:G)(hi:ops[i]?=M oi:=by(simp only[gA,gS,gZ];rfl))(e:Region.noSelect ops=true:=by kernel_rfl)(f:Region.free md ops d i=true:=by kernel_rfl)(g:(Region.ready md ops d).contains i=true:=by kernel_rfl)(h4:∀c a w,Q (.panic c) (a.put oi.dst undef) w->Q (.panic c) a w:=by exact fun _ _ _ h=>h)(k:Region.wanted oi (yielded ops a.tmps)=false:=by rfl)  (h6:S w:=by(with_reducible assumption))(j:wpAnyH P md ops Q S fuel (d.setIfInBounds i true) (a.put oi.dst undef) w=G:=by((try simp only[Act.put,sA,sZ,sS]);rfl)):wpAnyH P md ops Q S (fuel+1) d a w:=by subst j;exact xd hi ⟨undef,e,f,g,h4,Or.inr ⟨k,rfl⟩,h6,h⟩
def Db{v i oi fuel d a w G}(h:G)(hi:ops[i]?=M oi:=by(simp only[gA,gS,gZ];rfl))(f:Region.noSelect ops=true:=by kernel_rfl)(g:Region.free md ops d i=true:=by kernel_rfl)(j:(Region.ready md ops d).contains i=true:=by kernel_rfl)(h4:∀c a w,Q (.panic c) (a.put oi.dst v) w->Q (.panic c) a w:=by exact fun _ _ _ h=>h)(l:Region.wanted oi (yielded ops a.tmps)=true:=by rfl)(o:∀w,S w->(execOp a.eval oi).run P w = .ok (.value v) w:=by(intro w e;simp only[Da,and_true]at e;go_simp;try(with_reducible rfl)))(h6:S w:=by(with_reducible assumption))(k:om (i+1) (wpAnyH P md ops Q S fuel (d.setIfInBounds i true) (a.put oi.dst v) w)=G:=by((try simp only[Act.put,sA,sZ,sS,Nat.reduceAdd]);rfl)):om i (wpAnyH P md ops Q S (fuel+1) d a w):=by subst k;exact xd hi ⟨v,f,g,j,h4,Or.inl ⟨l,o⟩,h6,h⟩
def Ze{i oi fuel d a w G}(h:G)(hi:ops[i]?=M oi:=by(simp only[gA,gS,gZ];rfl))(e:Region.noSelect ops=true:=by kernel_rfl)(f:Region.free md ops d i=true:=by kernel_rfl)(g:(Region.ready md ops d).contains i=true:=by kernel_rfl)(h4:∀c a w,Q (.panic c) (a.put oi.dst undef) w->Q (.panic c) a w:=by exact fun _ _ _ h=>h)(k:Region.wanted oi (yielded ops a.tmps)=false:=by rfl)  (h6:S w:=by(with_reducible assumption))(j:om (i+1) (wpAnyH P md ops Q S fuel (d.setIfInBounds i true) (a.put oi.dst undef) w)=G:=by((try simp only[Act.put,sA,sZ,sS,Nat.reduceAdd]);rfl)):om i (wpAnyH P md ops Q S (fuel+1) d a w):=by subst j;exact xd hi ⟨undef,e,f,g,h4,Or.inr ⟨k,rfl⟩,h6,h⟩
def Te{i o fuel c a w}(h:∀K':Of->Z->Prop,Shut (∀a w,S w->(S w->wpAnyH P md ops Q S fuel (c.setIfInBounds i true) a w)->K' a w)->if Region.wanted o (yielded ops a.tmps)=true then Oper.wp P o a w K' Q else K' (a.put o.dst undef) w)(hi:ops[i]?=M o:=by(simp only[gA,gS,gZ];rfl))(d:Region.ready md ops c=[i]:=by kernel_rfl):wpAnyH P md ops Q S (fuel+1) c a w:=ju hi ⟨d,h⟩
def kO{K:Of->Z->Prop}{A:Z->Prop}{X:Of->Z->Prop}(e:Shut (∀a w,A w->(A w->X a w)->K a w)){a w G}(c:A w)(h:A w->G)(d:X a w=G:=by((try simp only[Act.put,sA,sZ,sS]);rfl)):K a w:=by subst d;exact Shut.out e _ _ c h
def Ac{f args Y}{G:Ob->Z->Prop}{i o fuel c a w}(l:Calls P f args w Y)(h:∀e w',Y e w'->∃v,e=.returned v/\S w'/\(S w'->G v w'))(hi:ops[i]?=M o:=by(simp only[gA,gS,gZ];rfl))(q:Region.ready md ops c=[i]:=by kernel_rfl)(r:Region.wanted o (yielded ops a.tmps)=true:=by rfl)(s:(execOp a.eval o).run P w = .ok (.enter f args) w:=by(go_simp;try(with_reducible rfl)))(g:∀v w',wpAnyH P md ops Q S fuel (c.setIfInBounds i true) (a.put o.dst v) w'=G v w':=by(intro v w';(try simp only[Act.put,sA,sZ,sS]);rfl)):wpAnyH P md ops Q S (fuel+1) c a w:=by refine Te (i:=i) (fun K j=>?_) hi q;rw[if_pos r];unfold Oper.wp;rw[s,Oper.upon_enter];refine l.mono fun e w' t=>?_;obtain⟨v,rfl,k,p⟩:=h e w' t;exact Shut.out j _ _ k (fun d=>by rw[g];exact p d)
def Pb{fuel c a w}(h:Q .normal a w)(d:Region.ready md ops c=[]:=by kernel_rfl):wpAnyH P md ops Q S fuel c a w:=wpAnyH_done d h _
variable {P:Program} {ops:Array Oper} {Q:Exit->Of->Z->Prop} {md:Region.Mode} {S:Z->Prop}
def yn{i j oi d fuel c a w}(e:∀K':Of->Z->Prop,Shut (∀a w,S w->(S w->wpAnyH P md ops Q S fuel (c.setIfInBounds i true) a w)->K' a w)->if Region.wanted oi (yielded ops a.tmps)=true then Oper.wp P oi a w K' Q else K' (a.put oi.dst undef) w)(f:∀K':Of->Z->Prop,Shut (∀a w,S w->(S w->wpAnyH P md ops Q S fuel (c.setIfInBounds j true) a w)->K' a w)->if Region.wanted d (yielded ops a.tmps)=true then Oper.wp P d a w K' Q else K' (a.put d.dst undef) w)(hi:ops[i]?=M oi:=by(simp only[gA,gS,gZ];rfl))(g:ops[j]?=M d:=by(simp only[gA,gS,gZ];rfl))(k:Region.ready md ops c=[i,j]:=by kernel_rfl) :
  wpAnyH P md ops Q S (fuel+1) c a w:=
 wpAnyH_ready k sM (AllReadyH.cons hi e (AllReadyH.cons g f AllReadyH.nil))
end
def Aj(x:Rat)(e:Al):Bool:=decide (yd x ((e.2.1:Int):Rat)<=0)
def Jq(x:Rat)(e:Al):Rat:=((e.1.2:Int):Rat)+((x-((e.1.1:Int):Rat))*((e.2.2-e.1.2:Int):Rat))/((e.2.1-e.1.1:Int):Rat)
def Rh(ps:LP)(x:Rat):Rat:=match (Wg ps).find? (Aj x)with|some e=>Jq x e|none=>(((ps.getD (ps.length-1) (0,0)).2:Int):Rat)
def RB.sim{B W W' b q}(h:RB W b q)(k:jk B W W'):RB W' b q:=by obtain⟨a,m,c,s,d,i,e,f,g⟩:=h;exact⟨a,m,c,s,d,i,e,k.heap f,g.keep (k.keep _)⟩
def Ai{k n}(h:Bd k n)(a:k<=1000000:=by decide):Rb 1 (n:Rat):=Rb.int (by unfold Lm B;unfold Bd at h;simp;omega) (nE _)
def Vw{k ps}(h:qg k ps){e}(f:e∈Wg ps):Bd k e.1.1/\Bd k e.1.2/\Bd k e.2.1/\Bd k e.2.2:=by obtain⟨p,q⟩:=e;have a:=List.of_mem_zip f;have c:=h p a.1;have d:=h q (List.mem_of_mem_tail a.2);exact⟨c.1,c.2,d.1,d.2⟩
abbrev BE:={ e:Al // Bd 104000 e.1.1/\Bd 104000 e.1.2/\Bd 104000 e.2.1/\Bd 104000 e.2.2 }
def jW(w:Z)(x:Rat)(pre:List BE)(W:Z):Prop:=
 Ba w W/\w.heap.size+1+1+1<=W.heap.size/\RB W w.heap.size x/\RB W (w.heap.size+1) 0/\∀e∈pre,Aj x e.1=false
def gW(w:Z)(x:Rat)(c:Code)(pre:List BE)(W:Z):Prop:=
 c = .ret/\Ba w W/\w.heap.size+1+1+1<=W.heap.size/\∃(a:List BE)(e:BE),pre=a++[e]/\(∀e∈a,Aj x e.1=false)/\Aj x e.1=true/\RB W (w.heap.size+1) (Jq x e.1)
def yj(s B:Nat)(j:Option Oh)(l k:Nat)(o:Bool)(a:Option Oh)(d c:Nat)(e f g i:Int)(W:Z):Prop:=
 W.cell? ⟨s,0,I⟩=M (O j l k)/\W.cell? ⟨s,1,I⟩=M (Od o)/\W.cell? ⟨s,2,I⟩=M (O a d c)/\W.cell? ⟨B,0,I⟩=M (Oa U e)/\W.cell? ⟨B,1,I⟩=M (Oa U f)/\W.cell? ⟨B+1,0,I⟩=M (Oa U g)/\W.cell? ⟨B+1,1,I⟩=M (Oa U i)
def yj.ext{s B j o l p a d c e f g i W W'}(h:yj s B j o l p a d c e f g i W)(k:Ba W W'):yj s B j o l p a d c e f g i W':=by obtain⟨q,r,t,u,v,w,h6⟩:=h;exact⟨k.d q,k.d r,k.d t,k.d u,k.d v,k.d w,k.d h6⟩
def Ix{W D}(a:W.heap[D]?=M (.deferred (M []))) o:jk D W (W.putObj D o):=
 jk.of_grown (grownBy_putObj' W D o) (Nat.le_of_lt (Ya a)) (fun r e=>by cases e;exact⟨nE _,_,a,rfl⟩)
def yj.set{s B j l k o a d c e f g i W}(h:yj s B j l k o a d c e f g i W){p}(z:p.block≠s)(K:p.block≠B)(L:p.block≠B+1) u:yj s B j l k o a d c e f g i (W.setCell p u):=by obtain⟨q,r,t,v,w,x,y⟩:=h;refine⟨?_,?_,?_,?_,?_,?_,?_⟩<;>(rw[World.cell?_setCell_far _ _ _ _ dO];assumption)
def Yo{B W W'}(h:Ba W W'):KeepsFrom B W W':=⟨h.size,fun _ _ _ a _=>h.e a⟩
def IM{β:Type}{f a pre}{e:β}(g:pre++[e] <+: a)(d:∀x∈pre,f x=false)(c:f e=true):a.find? f=M e:=by
 obtain⟨t,rfl⟩:=g;rw[List.append_assoc,List.find?_append];have:pre.find? f=I:=by
  rw[List.find?_eq_none];intro x i;simp[d x i]
 rw[this];simp[c]
def gK{ps x c}(a:c.map (fun e=>e.1)=Wg ps){pre}{e:BE}(i:pre++[e] <+: c)(g:∀e∈pre,Aj x e.1=false)(d:Aj x e.1=true):Rh ps x=Jq x e.1:=by unfold Rh;rw[<-a,List.find?_map,IM (f:=Aj x ∘ fun e:BE=>e.1) i g d];rfl
def sO{ps x}{c:List BE}(a:c.map (fun e=>e.1)=Wg ps)(f:∀e∈c,Aj x e.1=false){q}(g:ps[ps.length-1]?=M q):Rh ps x=((q.2:Int):Rat):=by
 unfold Rh;have:(Wg ps).find? (Aj x)=I:=by
  rw[<-a,List.find?_eq_none];intro y i;obtain⟨e,d,rfl⟩:=List.mem_map.1 i;simp[f e d]
 rw[this,gD,g];rfl
def Zw w v vx ps x(h:Ia w v ps)(aL:ke ps)(hx:Fb w vx x)(hb:Rb 1000 x):Calls Tryz.prog 186 #[v,vx] w (jg w (Rh ps x)):=by
 obtain⟨a,c,rfl⟩:=h.form;obtain⟨xa,xm,xc,xs,bh,bj,bi,rfl⟩:=hx.form;have Hb:=za hb;have aX:=za aL;obtain⟨n,hn⟩:=gX ps.length;rw[hn]at h ⊢;have Hn:=za hn;obtain⟨es,a7⟩:∃es:List BE,es.map (fun e=>e.1)=Wg ps:=⟨(Wg ps).attachWith _ (fun e he=>Vw aL.2.1 he),Nt _⟩;have aW:=za a7;clear hb aL hn;refine(callsIn_wide (n:=5)).1 ?_;refine callsIn_of_wp_marks Tryz.func186 rfl trivial ?_ rfl;simp only[Tryz.ntmps186,List.size_toArray,List.length_cons,List.length_nil,Nat.reduceAdd,Nat.reduceSub,Array.replicate_succ,Array.replicate_zero,List.push_toArray,List.append_toArray,List.nil_append,List.cons_append]
 gi_wp2_with(refine⟨trivial,?_⟩;gi_at_call 224;refine(callsIn_wide.2 (IE _ _ _ _)).mono ?_;rintro e w' ⟨rfl,rfl⟩)
 obtain⟨W0,aa⟩:=gX ((((w.alloc (Oc #[O xa xm xc,Od xs,O bh bj bi] 181)).alloc (Oc #[O I 0 0,Od false,O I 0 0] 181)).alloc (Oc #[O a n c] 146)));have bc:Ba w W0:=by rw[<-aa];exact(((eR w).alloc _).alloc _).alloc _
 have c0:W0.heap.size=w.heap.size+1+1+1:=by rw[<-aa];simp
 have cb:W0.cell? ⟨w.heap.size+1+1,0,I⟩=M (O a n c):=by rw[<-aa,World.cell?_alloc_at _ _ _ _ sM];rfl
 have b7:RB W0 w.heap.size x:=by rw[<-aa];exact(RB.new hx rfl).ext (((eR _).alloc _).alloc _)
 have b8:RB W0 (w.heap.size+1) 0:=by rw[<-aa];exact(RB.new (Fb.zero _) sM).ext ((eR _).alloc _)
 rw[aa];have cP:=za aa;clear aa;refine wpIn_rangeFunc_ownH rfl dM (gf:=263) (lb:=#[Og (M ⟨w.heap.size+1+1,0,I⟩)]) rfl trivial (enters_of Tryz.func263 kM rfl)
  (GG (fun e:BE=>e.1) _ dM (w.heap.size+1+1) w _ _ ps es a7 cb oM h bc) Qe.trans (Qe.put oM oM) (Below.refl _ _) (fun _=>rfl)
  (jW w x) (gW w x) (Qk (fun s W h=>by have:=h.2.1;omega) (fun s W W' h k=>?hsim)) (fun c=>Qk (fun s W h=>by have:=h.2.2.1;omega) (fun s W W' h k=>?hsimx)) ?h0
  (fun(e:BE) a' W=>∃B,w.heap.size+1+1+1<=B/\W.heap[B]?=M (Oc #[Oa U e.1.1.1,Oa U e.1.1.2] 91 (0,0))/\W.heap[B+1]?=M (Oc #[Oa U e.1.2.1,Oa U e.1.2.2] 91 (0,0))/\
   a'={ tmps:=#[O a n c,Oe #[O xa xm xc,Od xs,O bh bj bi],undef,Og (M ⟨w.heap.size,0,I⟩),Og (M ⟨w.heap.size+1,0,I⟩),Og (M ⟨B,0,I⟩),Og (M ⟨B+1,0,I⟩),O a n c,.func (.func 263) #[] #[Og (M ⟨w.heap.size+1+1,0,I⟩)],Oe #[Oa U e.1.1.1,Oa U e.1.1.2],Oe #[Oa U e.1.2.1,Oa U e.1.2.2],undef,undef,undef,undef,undef,undef,undef,undef,undef,undef,undef,undef,undef,undef,undef,undef,undef,undef,undef,undef,undef,undef,undef,undef,undef,undef,undef,undef,undef,undef,undef,undef,undef,undef,undef,undef,undef],defers:=[] })
  (fun e a'=>Qk (fun s W h=>?hAs) (fun s W W' h k=>?hAk)) ?assign ?body ?done ?stop
 case hsim =>
  obtain⟨z,h2,h3,h4,h5⟩:=h;exact⟨k.ext z oM,nT h2 k.size,h3.sim k,h4.sim k,h5⟩
 case hsimx =>
  obtain⟨h0,z,h2,p',e,h3,h4,h5,h6⟩:=h;exact⟨h0,k.ext z oM,nT h2 k.size,p',e,h3,h4,h5,h6.sim k⟩
 case h0=>exact⟨bc,by omega,b7,b8,fun e he=>by cases he⟩
 case hAs =>
  obtain⟨B,z,h2,h3,_⟩:=h;have:=Ya h2;omega
 case hAk =>
  obtain⟨B,z,h2,h3,h4⟩:=h;exact⟨B,z,k.heap h2,k.heap h3,h4⟩
 case assign =>
  rintro l pre e W K ⟨z,h2,h3,h4,h5⟩ hK;unfold Wm
  gi_wp2
  refine hK _ _ (((KeepsOthers.alloc _ _).trans (KeepsOthers.alloc _ _)).from _) (((Qe.refl _ _ W).ext (((eR W).alloc _).alloc _) z.size oM)) ⟨(z.alloc _).alloc _,by simp;omega,h3.ext (((eR W).alloc _).alloc _),h4.ext (((eR W).alloc _).alloc _),h5⟩ ⟨W.heap.size,h2,?_,?_,rfl⟩
  ·rw[tg,if_neg sM];exact mc _ _ _ rfl
  ·exact mc _ _ _ sM
 case body =>
  rintro l pre e a' W hl ⟨r,hr⟩ ⟨z,h2,h3,h4,h5⟩ ⟨B,hB,q1,q2,rfl⟩ cW;obtain⟨⟨⟨g,j⟩,u,bz⟩,aq⟩:=e;dsimp only at q1 q2 aq ⊢;obtain⟨ya,ym,yc,ys,ab,ad,ac,r0,r1,r2,_,_,_,zr,bg⟩:=h3.rd;have e0:=Aa q1 0 (Oa U g);have e1:=Aa q1 1 (Oa U j);have e2:=Aa q2 0 (Oa U u);have e3:=Aa q2 1 (Oa U bz);have z1:=Ya q1;have z2:=Ya q2
  gi_wp2
  have aJ:yj w.heap.size B ya ym yc ys ab ad ac g j u bz W:=⟨r0,r1,r2,e0,e1,e2,e3⟩;have bf:Fb W.drew (Oe #[O ya ym yc,Od ys,O ab ad ac]) x:=bg.ext (eR W).drew;have bt:=za aJ;refine Mr (S:=yj w.heap.size B ya ym yc ys ab ad ac g j u bz) kM kM (aJ.ext (eR W).drew) (fun f=>?_);clear r0 r1 r2 e0 e1 e2 e3 aJ;refine xd (i:=0) (oi:=?oix1) ?hix1 ?hx1
  case hix1=>(simp only[gA,gS,gZ];rfl)
  refine⟨?_,by kernel_rfl,by kernel_rfl,by kernel_rfl,fun _ _ _ h=>h,Or.inl ⟨by rfl,?_⟩,by assumption,?_⟩;rotate_left 1
  ·(intro w d;rcases d with ⟨L,R,p,t,s4,s5,s6⟩;go_simp;try(with_reducible rfl))
  (try simp only[Act.put,sA,sZ,sS]);refine xd (i:=1) (oi:=?oix2) ?hix2 ?hx2
  case hix2=>(simp only[gA,gS,gZ];rfl)
  refine⟨?_,by kernel_rfl,by kernel_rfl,by kernel_rfl,fun _ _ _ h=>h,Or.inl ⟨by rfl,?_⟩,by assumption,?_⟩;rotate_left 1
  ·(intro w d;rcases d with ⟨L,R,p,t,s4,s5,s6⟩;go_simp;try(with_reducible rfl))
  (try simp only[Act.put,sA,sZ,sS]);refine xd (i:=2) (oi:=?oix3) ?hix3 ?hx3
  case hix3=>(simp only[gA,gS,gZ];rfl)
  refine⟨?_,by kernel_rfl,by kernel_rfl,by kernel_rfl,fun _ _ _ h=>h,Or.inl ⟨by rfl,?_⟩,by assumption,?_⟩;rotate_left 1
  ·(intro w d;rcases d with ⟨L,R,p,t,s4,s5,s6⟩;go_simp;try(with_reducible rfl))
  (try simp only[Act.put,sA,sZ,sS]);obtain⟨an,ao,ap,bW⟩:=aq;obtain⟨T,hT⟩:=gX (yd x ((u:Int):Rat));have HT:=za hT;have aY:=Ai ap;have a6:=fun W=>mm W u (by unfold Bd at ap;omega) (by unfold Bd at ap;omega);have bw:=za a6;clear a6 hT;refine Ac (i:=3) (bw.o _) ?_;rintro e w3 ⟨v3,rfl,bb,hx3⟩;obtain⟨a3,m3,c3,t,b3,n3,k3,rfl⟩:=bb.form;refine⟨_,rfl,(yj.ext (by assumption) hx3),fun f=>?_⟩;have aK:=Sn w3 (Oe #[O ya ym yc,Od ys,O ab ad ac]) (Oe #[O a3 m3 c3,Od t,O b3 n3 k3]) x ((u:Int):Rat) (bf.ext hx3) bb (Hb.o.mono dM) (aY.mono dM);rw[HT.o]at aK;have bA:=za aK;clear aK;refine Ac (i:=4) bA.o ?_;rintro e w4 ⟨rfl,hx4⟩;refine⟨_,rfl,(yj.ext (by assumption) hx4),fun f=>?_⟩;refine xd (i:=5) (oi:=?oix4) ?hix4 ?hx4
  case hix4=>(simp only[gA,gS,gZ];rfl)
  refine⟨?_,by kernel_rfl,by kernel_rfl,by kernel_rfl,fun _ _ _ h=>h,Or.inl ⟨by rfl,?_⟩,by assumption,?_⟩;rotate_left 1
  ·(intro w d;rcases d with ⟨L,R,p,t,s4,s5,s6⟩;go_simp;try(with_reducible rfl))
  (try simp only[Act.put,sA,sZ,sS]);refine wpAnyH_done kM ?_ _;have X4:Ba W w4:=((eR W).drew.trans hx3).trans hx4;have b9:=bt.o.ext X4;have aG:=h4.ext X4;have cT:w.heap.size+1+1+1<=w4.heap.size:=nT h2 X4.size;by_cases a4:T<=0
  ·have y:Aj x ((g,j),u,bz)=true:=by unfold Aj;rw[HT.o];simpa using a4
   have aE:=za y;have bu:=za X4;have bk:=za aG;have be:Fb w4.drew (Oe #[O ya ym yc,Od ys,O ab ad ac]) x:=bg.ext X4.drew;have bC:=za be;clear y X4 aG be f bf;unfold NQ
   gi_wp2
   refine Mr (S:=yj w.heap.size B ya ym yc ys ab ad ac g j u bz) kM kM (b9.ext (eR w4).drew) (fun f=>?_);have d1:Bd 1000000 (bz-j)/\Bd 1000000 (u-g):=⟨(bW.sub ao).mono dM,(ap.sub an).mono dM⟩;have g1:IntKind.i64.wrap (bz-j)=bz-j:=iW _ ⟨by unfold Bd at d1;omega,by unfold Bd at d1;omega⟩;have g2:IntKind.i64.wrap (u-g)=u-g:=iW _ ⟨by unfold Bd at d1;omega,by unfold Bd at d1;omega⟩;have Q1:=Ai (k:=104000) (n:=g) an;have Q2:=Ai (k:=104000) (n:=j) ao;have Q3:Rb 1 ((bz-j:Int):Rat):=Ai d1.1;have Q4:Rb 1 ((u-g:Int):Rat):=Ai d1.2;have Q5:=Hb.o.sub (Q1.mono (k:=1000) dM);have Q6:=Q5.mul Q3;have Q7:=Q6.div Q4 dM;have bm:=za Q1;have bn:=za Q2;have bo:=za Q3;have bp:=za Q4;have bq:=za Q5;have br:=za Q6;have bs:=za Q7;have Ha:=za (fun W=>mm W j (by unfold Bd at ao;omega) (by unfold Bd at ao;omega));have Hc:=za (fun W=>mm W g (by unfold Bd at an;omega) (by unfold Bd at an;omega));have Hd:=za (fun W=>mm W (bz-j) (by unfold Bd at d1;omega) (by unfold Bd at d1;omega));have He:=za (fun W=>mm W (u-g) (by unfold Bd at d1;omega) (by unfold Bd at d1;omega));clear Q1 Q2 Q3 Q4 Q5 Q6 Q7 aY;refine xd (i:=0) (oi:=?oix5) ?hix5 ?hx5
   case hix5=>(simp only[gA,gS,gZ];rfl)
   refine⟨?_,by kernel_rfl,by kernel_rfl,by kernel_rfl,fun _ _ _ h=>h,Or.inl ⟨by rfl,?_⟩,by assumption,?_⟩;rotate_left 1
   ·(intro w d;rcases d with ⟨L,R,p,t,s4,s5,s6⟩;go_simp;try(with_reducible rfl))
   (try simp only[Act.put,sA,sZ,sS]);refine xd (i:=1) (oi:=?oix6) ?hix6 ?hx6
   case hix6=>(simp only[gA,gS,gZ];rfl)
   refine⟨?_,by kernel_rfl,by kernel_rfl,by kernel_rfl,fun _ _ _ h=>h,Or.inl ⟨by rfl,?_⟩,by assumption,?_⟩;rotate_left 1
   ·(intro w d;rcases d with ⟨L,R,p,t,s4,s5,s6⟩;go_simp;try(with_reducible rfl))
   (try simp only[Act.put,sA,sZ,sS]);refine xd (i:=3) (oi:=?oix7) ?hix7 ?hx7
   case hix7=>(simp only[gA,gS,gZ];rfl)
   refine⟨?_,by kernel_rfl,by kernel_rfl,by kernel_rfl,fun _ _ _ h=>h,Or.inl ⟨by rfl,?_⟩,by assumption,?_⟩;rotate_left 1
   ·(intro w d;rcases d with ⟨L,R,p,t,s4,s5,s6⟩;go_simp;try(with_reducible rfl))
   (try simp only[Act.put,sA,sZ,sS]);refine xd (i:=4) (oi:=?oix8) ?hix8 ?hx8
   case hix8=>(simp only[gA,gS,gZ];rfl)
   refine⟨?_,by kernel_rfl,by kernel_rfl,by kernel_rfl,fun _ _ _ h=>h,Or.inl ⟨by rfl,?_⟩,by assumption,?_⟩;rotate_left 1
   ·(intro w d;rcases d with ⟨L,R,p,t,s4,s5,s6⟩;go_simp;try(with_reducible rfl))
   (try simp only[Act.put,sA,sZ,sS]);refine xd (i:=5) (oi:=?oix9) ?hix9 ?hx9
   case hix9=>(simp only[gA,gS,gZ];rfl)
   refine⟨?_,by kernel_rfl,by kernel_rfl,by kernel_rfl,fun _ _ _ h=>h,Or.inl ⟨by rfl,?_⟩,by assumption,?_⟩;rotate_left 1
   ·(intro w d;rcases d with ⟨L,R,p,t,s4,s5,s6⟩;go_simp;try(with_reducible rfl))
   (try simp only[Act.put,sA,sZ,sS]);refine xd (i:=8) (oi:=?oix10) ?hix10 ?hx10
   case hix10=>(simp only[gA,gS,gZ];rfl)
   refine⟨?_,by kernel_rfl,by kernel_rfl,by kernel_rfl,fun _ _ _ h=>h,Or.inl ⟨by rfl,?_⟩,by assumption,?_⟩;rotate_left 1
   ·(intro w d;rcases d with ⟨L,R,p,t,s4,s5,s6⟩;go_simp;try(with_reducible rfl))
   (try simp only[Act.put,sA,sZ,sS]);refine xd (i:=9) (oi:=?oix11) ?hix11 ?hx11
   case hix11=>(simp only[gA,gS,gZ];rfl)
   refine⟨?_,by kernel_rfl,by kernel_rfl,by kernel_rfl,fun _ _ _ h=>h,Or.inl ⟨by rfl,?_⟩,by assumption,?_⟩;rotate_left 1
   ·(intro w d;rcases d with ⟨L,R,p,t,s4,s5,s6⟩;go_simp;try(with_reducible rfl))
   (try simp only[Act.put,sA,sZ,sS]);refine xd (i:=10) (oi:=?oix12) ?hix12 ?hx12
   case hix12=>(simp only[gA,gS,gZ];rfl)
   refine⟨?_,by kernel_rfl,by kernel_rfl,by kernel_rfl,fun _ _ _ h=>h,Or.inl ⟨by rfl,?_⟩,by assumption,?_⟩;rotate_left 1
   ·(intro w d;rcases d with ⟨L,R,p,t,s4,s5,s6⟩;go_simp;try(with_reducible rfl))
   (try simp only[Act.put,sA,sZ,sS]);refine xd (i:=11) (oi:=?oix13) ?hix13 ?hx13
   case hix13=>(simp only[gA,gS,gZ];rfl)
   refine⟨?_,by kernel_rfl,by kernel_rfl,by kernel_rfl,fun _ _ _ h=>h,Or.inl ⟨by rfl,?_⟩,by assumption,?_⟩;rotate_left 1
   ·(intro w d;rcases d with ⟨L,R,p,t,s4,s5,s6⟩;go_simp;try(with_reducible rfl))
   (try simp only[Act.put,sA,sZ,sS]);refine xd (i:=12) (oi:=?oix14) ?hix14 ?hx14
   case hix14=>(simp only[gA,gS,gZ];rfl)
   refine⟨?_,by kernel_rfl,by kernel_rfl,by kernel_rfl,fun _ _ _ h=>h,Or.inl ⟨by rfl,?_⟩,by assumption,?_⟩;rotate_left 1
   ·(intro w d;rcases d with ⟨L,R,p,t,s4,s5,s6⟩;go_simp;try(with_reducible rfl))
   (try simp only[Act.put,sA,sZ,sS]);refine xd (i:=15) (oi:=?oix15) ?hix15 ?hx15
   case hix15=>(simp only[gA,gS,gZ];rfl)
   refine⟨?_,by kernel_rfl,by kernel_rfl,by kernel_rfl,fun _ _ _ h=>h,Or.inl ⟨by rfl,?_⟩,by assumption,?_⟩;rotate_left 1
   ·(intro w d;rcases d with ⟨L,R,p,t,s4,s5,s6⟩;go_simp;try(with_reducible rfl))
   (try simp only[Act.put,sA,sZ,sS]);refine xd (i:=16) (oi:=?oix16) ?hix16 ?hx16
   case hix16=>(simp only[gA,gS,gZ];rfl)
   refine⟨?_,by kernel_rfl,by kernel_rfl,by kernel_rfl,fun _ _ _ h=>h,Or.inl ⟨by rfl,?_⟩,by assumption,?_⟩;rotate_left 1
   ·(intro w d;rcases d with ⟨L,R,p,t,s4,s5,s6⟩;go_simp;try(with_reducible rfl))
   (try simp only[Act.put,sA,sZ,sS]);refine xd (i:=17) (oi:=?oix17) ?hix17 ?hx17
   case hix17=>(simp only[gA,gS,gZ];rfl)
   refine⟨?_,by kernel_rfl,by kernel_rfl,by kernel_rfl,fun _ _ _ h=>h,Or.inl ⟨by rfl,?_⟩,by assumption,?_⟩;rotate_left 1
   ·(intro w d;rcases d with ⟨L,R,p,t,s4,s5,s6⟩;go_simp;try(with_reducible rfl))
   (try simp only[Act.put,sA,sZ,sS]);refine xd (i:=18) (oi:=?oix18) ?hix18 ?hx18
   case hix18=>(simp only[gA,gS,gZ];rfl)
   refine⟨?_,by kernel_rfl,by kernel_rfl,by kernel_rfl,fun _ _ _ h=>h,Or.inl ⟨by rfl,?_⟩,by assumption,?_⟩;rotate_left 1
   ·(intro w d;rcases d with ⟨L,R,p,t,s4,s5,s6⟩;go_simp;try(with_reducible rfl))
   (try simp only[Act.put,sA,sZ,sS]);refine xd (i:=19) (oi:=?oix19) ?hix19 ?hx19
   case hix19=>(simp only[gA,gS,gZ];rfl)
   refine⟨?_,by kernel_rfl,by kernel_rfl,by kernel_rfl,fun _ _ _ h=>h,Or.inl ⟨by rfl,?_⟩,by assumption,?_⟩;rotate_left 1
   ·(intro w d;rcases d with ⟨L,R,p,t,s4,s5,s6⟩;go_simp;try(with_reducible rfl))
   (try simp only[Act.put,sA,sZ,sS]);refine Ac (i:=2) (Ha.o _) ?_;rintro e dg ⟨c7,rfl,ar,aj⟩;obtain⟨bG,cj,bX,cC,bN,cq,cc,rfl⟩:=ar.form;refine⟨_,rfl,(yj.ext (by assumption) aj),fun f=>?_⟩;refine Ac (i:=6) (Hc.o _) ?_;rintro e cK ⟨c8,rfl,au,ae⟩;obtain⟨bH,ck,bY,cD,bO,cr,cd,rfl⟩:=au.form;refine⟨_,rfl,(yj.ext (by assumption) ae),fun f=>?_⟩;have K7:=za (Ev cK (Oe #[O ya ym yc,Od ys,O ab ad ac]) (Oe #[O bH ck bY,Od cD,O bO cr cd]) x ((g:Int):Rat) (bC.o.ext (aj.trans ae)) au (Hb.o.mono dM) (bm.o.mono dM));refine Ac (i:=7) K7.o ?_;rintro e dh ⟨c9,rfl,av,ak⟩;obtain⟨bI,cl,bZ,cF,bP,cs,ce,rfl⟩:=av.form;refine⟨_,rfl,(yj.ext (by assumption) ak),fun f=>?_⟩;refine Ac (i:=13) (Hd.o _) ?_;rintro e cL ⟨da,rfl,aw,af⟩;obtain⟨bJ,cm,b0,cG,bQ,ct,cf,rfl⟩:=aw.form;refine⟨_,rfl,(yj.ext (by assumption) af),fun f=>?_⟩;have bD:=za (mM cL (Oe #[O bI cl bZ,Od cF,O bP cs ce]) (Oe #[O bJ cm b0,Od cG,O bQ ct cf]) (x-((g:Int):Rat)) ((bz-j:Int):Rat) (av.ext af) aw (bq.o.mono dM) (bo.o.mono dM));refine Ac (i:=14) bD.o ?_;rintro e di ⟨db,rfl,ay,al⟩;obtain⟨bK,cn,b1,cH,bT,cu,cg,rfl⟩:=ay.form;refine⟨_,rfl,(yj.ext (by assumption) al),fun f=>?_⟩;refine Ac (i:=20) (He.o _) ?_;rintro e cN ⟨dc,rfl,aA,ag⟩;obtain⟨bL,co,b4,cI,bU,cv,ch,rfl⟩:=aA.form;refine⟨_,rfl,(yj.ext (by assumption) ag),fun f=>?_⟩;have bE:=za (NP cN (Oe #[O bK cn b1,Od cH,O bT cu cg]) (Oe #[O bL co b4,Od cI,O bU cv ch]) ((x-((g:Int):Rat))*((bz-j:Int):Rat)) ((u-g:Int):Rat) (ay.ext ag) aA (br.o.mono dM) (bp.o.mono dM));refine Ac (i:=21) bE.o ?_;rintro e cO ⟨dd,rfl,aB,am⟩;obtain⟨bM,cp,b5,cJ,bV,cx,ci,rfl⟩:=aB.form;refine⟨_,rfl,(yj.ext (by assumption) am),fun f=>?_⟩;have bF:=za (lD cO (Oe #[O bG cj bX,Od cC,O bN cq cc]) (Oe #[O bM cp b5,Od cJ,O bV cx ci]) ((j:Int):Rat) (((x-((g:Int):Rat))*((bz-j:Int):Rat))/((u-g:Int):Rat)) (ar.ext (((((ae.trans ak).trans af).trans al).trans ag).trans am)) aB (bn.o.mono dM) (bs.o.mono dM));refine Ac (i:=22) bF.o ?_;rintro e aV ⟨de,rfl,aC,aD⟩;obtain⟨cQ,c4,cS,c6,cR,c5,c1,rfl⟩:=aC.form;refine⟨_,rfl,(yj.ext (by assumption) aD),fun f=>?_⟩;have aZ:Ba w4.drew aV:=((((((aj.trans ae).trans ak).trans af).trans al).trans ag).trans am).trans aD;have aH:=bk.o.ext ((eR w4).drew.trans aZ);obtain⟨_,_,_,_,_,_,_,o0,o1,o2,cy,cz,cB,zo,_⟩:=aH.rd;have bl:=za aH;clear aH;have cZ:¬w.heap.size+1=w.heap.size:=oM;have cY:¬w.heap.size+1=B/\¬w.heap.size+1=B+1:=⟨by omega,by omega⟩;have a5:Jq x ((g,j),u,bz)=((j:Int):Rat)+((x-((g:Int):Rat))*((bz-j:Int):Rat))/((u-g:Int):Rat):=rfl;have bv:=za a5;clear a5;refine Te (i:=23) fun K hK=>?_;go_simp;refine kO hK ((((show yj w.heap.size B ya ym yc ys ab ad ac g j u bz aV by assumption).set dO dO dO _).set dO dO dO _).set dO dO dO _) (fun _=>?_);clear hK K;refine wpAnyH_done kM ?_ _;unfold NQ
   gi_wp2
   have X9:Ba W aV:=bu.o.trans ((eR w4).drew.trans aZ);refine⟨(((Yo X9).trans ((KeepsOthers.setCell _ _ _).from _)).trans ((KeepsOthers.setCell _ _ _).from _)).trans ((KeepsOthers.setCell _ _ _).from _),rfl,(((z.trans X9).set dO _).set dO _).set dO _,by simp only[fg];exact nT h2 X9.size,pre,_,rfl,h5,aE.o,?_⟩;dsimp only;rw[bv.o];exact bl.o.put aC
  ·have y:Aj x ((g,j),u,bz)=false:=by unfold Aj;rw[HT.o];simpa using a4
   have cV:0<T:=oM;have aE:=za y;clear y;unfold NQ
   gi_wp2
   refine⟨Yo X4,(Qe.refl w _ W).ext X4 z.size oM,z.trans X4,nT h2 X4.size,h3.ext X4,aG,fun e he=>?_⟩;rcases List.mem_append.1 he with he|he
   ·exact h5 e he
   ·rw[List.mem_singleton.1 he];exact aE.o
 case done =>
  rintro D ys W hD rfl ⟨z,h2,h3,h4,h5⟩ hK;obtain⟨m,rfl⟩:∃m,n=m+1:=⟨n-1,by have:=List.length_pos_iff.2 aX.o.1;rw[Hn.o]at this;omega⟩;obtain⟨⟨qx,qz⟩,hq⟩:∃q,ps[m]?=M q:=⟨ps[m]'(by rw[Hn.o];omega),by simp⟩;obtain⟨b,o,rfl,hb,d0,d1⟩:=(h.f z).at' hq;have hR:Rh ps x=((qz:Int):Rat):=sO aW.o h5 (q:=(qx,qz)) (by rw[Hn.o];exact hq);have ai:=aX.o.2.1 (qx,qz) (lM hq);have a8:=fun W=>mm W qz (by unfold Bd at ai;dsimp only at ai;omega) (by unfold Bd at ai;dsimp only at ai;omega);have y:=h.le;have cX:m+1<=9223372036854775807:=by rw[Hn.o]at y;unfold maxLen at y;omega
  have bB:=za a8;have aF:=za hR;have p1:(0:Int)<=(m:Int):=oM;have p2:(m:Int)<((m+1:Nat):Int):=oM;have u1:((m+1:Nat):Int)-1=(m:Int):=oM;have zD:D<W.heap.size:=Ya hK;clear a8 hR hq ai y
  gi_wp2_with(refine⟨trivial,?_⟩;gi_at_call 215;(with_reducible refine(callsIn_wide.2 (bB.o _)).mono ?_);rintro e w2 ⟨r2,rfl,ba,hx2⟩;obtain⟨a2,m2,c2,p,b2,n2,k2,rfl⟩:=ba.form;have a1:=h4.ext hx2;obtain⟨_,_,_,_,_,_,_,o0,o1,o2,cy,cz,cB,zo,_⟩:=a1.rd;have b6:=hx2.e hK)
  have hP:=a1.put ba;have cU:¬D=w.heap.size+1:=oM;have a0:(((w2.setCell ⟨w.heap.size+1,0,I⟩ (O a2 m2 c2)).setCell ⟨w.heap.size+1,1,I⟩ (Od p)).setCell ⟨w.heap.size+1,2,I⟩ (O b2 n2 k2)).heap[D]?=M (.deferred (M [])):=by
   rw[bS _ _ _ _ dO,bS _ _ _ _ dO,bS _ _ _ _ dO];exact b6
  have ca:Ba w (((w2.setCell ⟨w.heap.size+1,0,I⟩ (O a2 m2 c2)).setCell ⟨w.heap.size+1,1,I⟩ (Od p)).setCell ⟨w.heap.size+1,2,I⟩ (O b2 n2 k2)):=
   (((z.trans hx2).set dO _).set dO _).set dO _
  have ah:=Ix a0 (.deferred I);have aI:=hP.sim ah;obtain⟨pa,pm,aP,aR,aM,aQ,aO,aS,aT,aU,_,_,_,_,hz⟩:=aI.rd;refine⟨by simp,.inl ⟨_,_,rfl,run_takeDeferred a0,?_⟩⟩;refine⟨Oe #[O pa pm aP,Od aR,O aM aQ aO],by simp[results,Tryz.results186,go_sem,aS,aT,aU],?_⟩;rw[aF.o];exact⟨_,rfl,hz,ah.ext ca oM⟩
 case stop =>
  rintro D c pre W hD a9 ⟨rfl,z,h2,p',e,rfl,h4,h5,h6⟩ hK;have hR:=gK aW.o a9 h4 h5;have aF:=za hR;clear hR
  gi_wp2
  have ah:=Ix hK (.deferred I);have aI:=h6.sim ah;obtain⟨pa,pm,aP,aR,aM,aQ,aO,aS,aT,aU,_,_,_,_,hz⟩:=aI.rd;refine⟨by simp,.inl ⟨_,_,rfl,run_takeDeferred hK,?_⟩⟩;refine⟨Oe #[O pa pm aP,Od aR,O aM aQ aO],by simp[results,Tryz.results186,go_sem,aS,aT,aU],?_⟩;rw[aF.o];exact⟨_,rfl,hz,ah.ext z oM⟩
def En(R:Exit->Of->Z->Prop):Prop:=∀(c:List PanicEntry)(a:Of)(d:Option Nat)(v:Ob)(w:Z),R (.panic c) (a.put d v) w->R (.panic c) a w
def Ic{R}(f:Ua (En R)){d:Option Nat}{v}:∀ c  a  w ,R (.panic c) (a.put d v) w->R (.panic c) a w:=fun c a w h=>f.o c a d v w h
end
section
open Go.RowKit Go.Shelf
def KR{n P row args w R}(h:Rows P row args w R):RowsIn Fence.wide n P row args w R:=by intro c a _;obtain⟨v,d,r,s⟩:=h c a;exact⟨v,d,r,stepsIn_wide.2 s⟩
def fF{n P}{o:Oper}{a w K Q}(j:∀c,o.op ≠ .defer c)(h:o.wp P a w K (NQ Q)):o.wpIn Fence.wide n P a w K Q:=by
 refine⟨fun _ _=>trivial,?_⟩;rw[Oper.semAt_plain _ _ _ j];unfold Oper.wp at h;generalize (execOp a.eval o).run P w=r at *
 have g:Fence.wide.depth.isSome=true->1<=n:=fun h=>by cases h
 cases r with
 | ok x k =>
  cases x with
  | value u=>exact h
  | skip=>exact h
  | defer d=>exact h
  | enter f args =>
   refine⟨g,callsIn_wide.2 (cM h fun e l i=>?_)⟩;cases e with
   | returned u=>exact i
   | panicked c=>exact i.elim
   | outgrown=>exact(Xu i).elim
  | row row args=>exact⟨g,KR h⟩
  | _=>exact h.elim
 | halt x k =>
  cases x<;>first|exact h.elim|skip
def Lv{n P md ops Q}(e:Tg ops=true):∀ fuel  c  a  w ,wpAny P md ops (NQ Q) fuel c a w->wpAnyIn Fence.wide n P md ops Q fuel c a w
 | 0,_,_,_,h=>h
 | fuel+1,c,a,w,h=>by
  refine⟨h.1,fun i j=>?_⟩;have d:=h.2 i j;unfold wpOp at d;unfold wpOpIn;cases ho:ops[i]? with
  | none=>rw[ho]at d;exact Lv e fuel _ a w d
  | some o =>
   rw[ho]at d;dsimp only at d ⊢;split
   ·rename_i hw;rw[if_pos hw]at d;rcases d with d|⟨_,d⟩
    ·exact Oper.wpIn_mono (fun f k g=>Lv e fuel _ f k g) (fF (tF e ho) d)
    ·exact(Xu d).elim
   ·rename_i hw;rw[if_neg hw]at d;exact⟨fun _ _=>trivial,Lv e fuel _ _ w d⟩
def QG{n P ops Q S f a w}(e:P.follows .mixedOrders=true)(d:Tg ops=true)(c:S w.drew)(h:S w.drew->wpAnyH P .any ops (NQ Q) S ops.size (Array.replicate ops.size false) a w.drew):(Code.region f ops true).wpIn Fence.wide n P Q a w:=
 wpIn_region_any e (Lv d _ _ _ _ (wpAny_of_held _ _ _ _ (h c)))
def Qz{n P ops Q g a w} late S(f:P.follows .mixedOrders=true)(d:S w.drew)(h:S w.drew->Vl n P .any ops (NQ Q) S late ops.size (Array.replicate ops.size false) a w.drew):(Code.region g ops true).wpIn Fence.wide n P Q a w:=
 wpIn_mono (NG late S f d h) (fun e a w c=>by cases e<;>first|exact c|exact c.elim)
def rj(a:List Nat):List Deferred:=a.map fun D=>{ target:=.collected D,args:=#[] }
def Vb(W:Z)(a:List Nat):Prop:=a.Nodup/\∀D∈a,W.heap[D]?=M (.deferred (M []))
def Vb.ext{W W' a}(h:Vb W a)(k:Ba W W'):Vb W' a:=⟨h.1,fun D c=>k.e (h.2 D c)⟩
def Vb.nil W:Vb W []:=⟨List.nodup_nil,fun D a=>by cases a⟩
def Vb.cons{W a D}(h:Vb W a)(d:W.heap[D]?=M (.deferred (M [])))(e:D ∉ a):Vb W (D::a):=
 ⟨List.nodup_cons.2 ⟨e,h.1⟩,fun E c=>by rcases List.mem_cons.1 c with rfl|c;exact d;exact h.2 E c⟩
def Vb.set{W a}(h:Vb W a){p cs T d}(f:W.heap[p.block]?=M (Oc cs T d)) u:Vb (W.setCell p u) a:=
 ⟨h.1,fun D c=>by rw[bS _ _ _ _ (by intro e;have:=h.2 D c;rw[e,f]at this;cases this)];exact h.2 D c⟩
def Vb.grown{W W' d row}(h:Vb W d)(g:W.grownBy W' row)(c:∀r,row=M r->∃cs T fr,W.heap[r]?=M (Oc cs T fr)):Vb W' d:=
 ⟨h.1,fun D f=>by
  have a:=h.2 D f;rw[g.block D (Ya a) (fun e=>by obtain⟨cs,T,fr,c⟩:=c D e.symm;rw[c]at a;cases a)];exact a⟩
def tq{n P g tmps R}:∀ a  W ,Vb W a ->(∀W',(∀B,(∀D∈a,B<=D)->jk B W W')->LeavesInM Fence.wide n P g tmps R [] .returning W')->LeavesInM Fence.wide n P g tmps R (rj a) .returning W
 | [],W,_,h=>h W (fun B _=>⟨Below.refl _ _,fun _ _ h _=>h⟩)
 | D::a,W,hm,h=>by
  have l:=hm.2 D sM;have q:=Ix l (.deferred I);refine⟨by simp,.inl ⟨D,_,rfl,run_takeDeferred l,?_⟩⟩;refine tq a _ ⟨(List.nodup_cons.1 hm.1).2,fun E c=>?_⟩ (fun W' d=>h W' (fun B j=>?_))
  ·have f:E≠D:=fun e=>(List.nodup_cons.1 hm.1).1 (e▸c);rw[World.putObj_heap_other f];exact hm.2 E (mC _ c)
  ·have i:=d B (fun E c=>j E (mC _ c));exact⟨(Below.mono q.1 (j D sM)).trans i.1,fun k o r p=>i.2 k o (q.2 k o r p) p⟩
def Da:List (Oh×Ob)->Z->Prop
 | [],_=>True
 | (a,v)::r,W=>W.cell? a=M v/\Da r W
def Da.ext:∀{L W W'},Da L W->Ba W W'->Da L W'
 | [],_,_,_,_=>trivial
 | _::_,_,_,⟨h1,h2⟩,k=>⟨k.d h1,h2.ext k⟩
def cE{L W W'}(h:Da L W)(k:Ba W W'):Da L W':=h.ext k
def cA{L W}(h:Da L W:=by(repeat(first|exact trivial|refine⟨by go_simp,?_⟩))):Da L W:=h
def Da.set:∀{L W p},Da L W->(∀q∈L,p.block≠q.1.block)->∀u,Da L (W.setCell p u)
 | [],_,_,_,_,_=>trivial
 | (a,v)::r,W,p,⟨h1,h2⟩,hn,u=>⟨by rw[World.cell?_setCell_far _ _ _ _ (hn (a,v) (by simp))];exact h1,h2.set (fun q c=>hn q (mC _ c)) u⟩
def Da.set3{L W b}(h:Da L W)(a:∀q∈L,b≠q.1.block) u v t:Da L (((W.setCell ⟨b,0,I⟩ u).setCell ⟨b,1,I⟩ v).setCell ⟨b,2,I⟩ t):=
 ((h.set a u).set a v).set a t
def jd{P ops Q e a w} L(c:Da L w.drew)(h:Da L w.drew->wpAnyH P .any ops Q (Da L) ops.size (Array.replicate ops.size false) a w.drew)(d:P.follows .mixedOrders=true:=by kernel_rfl):(Code.region e ops true).wp P Q a w:=wp_region_held_drew (S:=Da L) d c h
def Da.nil W:Da [] W:=trivial
structure Sp where
 over:LP
 under:LP
 lo:Int
 hi:Int
def Qb(s:Sp)(x:Rat):Rat:=Rh s.over x-Rh s.under x
def uL w s v1 v2 vx x(h1:Ia w v1 s.over)(h2:Ia w v2 s.under)(k1:ke s.over)(k2:ke s.under)(hx:Fb w vx x)(hb:Rb 1000 x)(g:Rb kd (Rh s.over x))(j:Rb kd (Rh s.under x)):Calls Tryz.prog 217 #[Oe #[v1,v2,Oa U s.lo,Oa U s.hi],vx] w (jg w (Qb s x)):=by
 obtain⟨a1,m1,rfl⟩:=h1.form;obtain⟨a2,m2,rfl⟩:=h2.form;obtain⟨xa,xm,xc,xs,z,R,L,rfl⟩:=hx.form;obtain⟨n1,o⟩:=gX s.over.length;obtain⟨n2,p⟩:=gX s.under.length;rw[o]at h1 ⊢;rw[p]at h2 ⊢;obtain⟨lo,l⟩:=gX s.lo;obtain⟨hi,k⟩:=gX s.hi;rw[l,k];have H1:=za (fun(W:Z)(f:Ba w W)=>Zw W _ _ s.over x (h1.f f) k1 (hx.ext f) hb);have H2:=za (fun(W:Z)(f:Ba w W)=>Zw W _ _ s.under x (h2.f f) k2 (hx.ext f) hb);have aa:=za g;have ab:=za j;clear g j hb o p l k k1 k2 h1 h2;go_in;go_wp2;refine jd [(⟨w.heap.size,0,I⟩,O a1 n1 m1),(⟨w.heap.size,1,I⟩,O a2 n2 m2),(⟨w.heap.size+1,0,I⟩,O xa xm xc),(⟨w.heap.size+1,1,I⟩,Od xs),(⟨w.heap.size+1,2,I⟩,O z R L)] (by refine⟨?_,?_,?_,?_,?_,trivial⟩<;>go_simp) fun a=>?_;refine sN 0 ?_
 iterate 3 refine Db ?_
 refine oN ?_;refine sN 4 ?_
 iterate 3 refine Db ?_
 refine oN ?_;refine Ac (i:=3) (H1.o _ eA) ?_;rintro e w3 ⟨r3,rfl,r,y⟩;obtain⟨a3,m3,c3,s3,b3,n3,k3,rfl⟩:=r.form;refine⟨_,rfl,(cE a y),fun a=>?_⟩;have X3:Ba w w3:=eA;refine Ac (i:=7) (H2.o _ X3) ?_;rintro e w4 ⟨r4,rfl,t,c⟩;obtain⟨a4,m4,c4,s4,b4,n4,k4,rfl⟩:=t.form;refine⟨_,rfl,(cE a c),fun a=>?_⟩;have K5:=za (Ev w4 _ _ _ _ (r.ext c) t aa.o ab.o);refine Ac (i:=8) K5.o ?_;rintro e w5 ⟨r5,rfl,u,d⟩;obtain⟨a5,m5,c5,s5,b5,n5,k5,rfl⟩:=u.form;refine⟨_,rfl,(cE a d),fun a=>?_⟩;have hO:RB w5 (w.heap.size+1+1) 0:=(((RB.new (Fb.zero _) sM).ext ((eR _).drew.trans y)).ext c).ext d;obtain⟨_,_,_,_,_,_,_,o0,o1,o2,al,am,an,zo,_⟩:=hO.rd;have ac:∀q∈[((⟨w.heap.size,0,I⟩:Oh),Value.slice a1 n1 m1),(⟨w.heap.size,1,I⟩,O a2 n2 m2),(⟨w.heap.size+1,0,I⟩,O xa xm xc),(⟨w.heap.size+1,1,I⟩,Od xs),(⟨w.heap.size+1,2,I⟩,O z R L)],w.heap.size+1+1≠q.1.block:=by
  simp;omega
 refine Te (i:=9) fun K hK=>?_;go_simp;refine kO hK (Da.set3 (by assumption) ac _ _ _) (fun a=>?_);clear hK K;refine Pb ?_;go_wp2;have hP:=hO.put u;obtain⟨pa,pm,af,ah,ad,ag,ae,ai,aj,ak,_,_,_,_,hz⟩:=hP.rd;exact bR (v:=Oe #[O pa pm af,Od ah,O ad ag ae]) (by simp[results,Tryz.results217,go_sem,ai,aj,ak]) rfl ⟨_,rfl,hz,((((X3.trans c).trans d).set dO _).set dO _).set dO _⟩
section
variable {P:Program} {ops:Array Oper} {Q:Exit->Of->Z->Prop} {md:Region.Mode} {S:Z->Prop} {late:Nat->Bool}
def HU(P:Program)(md:Region.Mode)(ops:Array Oper)(Q:Exit->Of->Z->Prop)(S:Z->Prop)(late:Nat->Bool):Nat->Array Bool->Of->Z->Prop
 | 0,c,a,w=>Region.ready md ops c=[]/\Q .normal a w
 | fuel+1,c,a,w =>
  (Region.ready md ops c=[]->Q .normal a w)/\
  ∀i∈Region.ready md ops c,wpOp P ops Q i (fun e d=>(late i=false->S d)/\HU P md ops Q S late fuel (c.setIfInBounds i true) e d) a w
def YF:∀ fuel  c  a  w ,HU P md ops Q S late fuel c a w->wpAny P md ops Q fuel c a w
 | 0,_,_,_,h=>h
 | fuel+1,_,_,_,h=>⟨h.1,fun i f=>wpOp_mono (fun d g e=>YF fuel _ d g e.2) (h.2 i f)⟩
def uO{m i oi v}(hg:ph md ops late m=true)(ac:late i=false)(hi:ops[i]?=M oi)(r:∀(j:Nat)(o:Oper) x b,ops[j]?=M o->o.op ≠ .select x b)(hQ:∀c a w,Q (.panic c) (a.put oi.dst v) w->Q (.panic c) a w):∀ fuel  d  a  w ,Cl md ops d ->(∀j oj,ops[j]?=M oj->j≠i->d.getD j true=false->(∀e∈oj.after,Region.binds md e=true->e.on≠i)->oi.apart ops oj=true) ->i∈Region.ready md ops d->YieldsIf P ops S oi v a->S w ->HU P md ops Q S late fuel (d.setIfInBounds i true) (a.put oi.dst v) w->HU P md ops Q S late (fuel+1) d a w:=by
 intro fuel;induction fuel with
 |zero=>
  intro d a w hc _ q hy y H;refine⟨fun h=>(by rw[h]at q;cases q),fun j u=>?_⟩;by_cases f:j=i
  ·subst f;exact hy.wpOp hi y ⟨fun _=>y,H⟩
  ·have:=ready_mono u f;rw[H.1]at this;cases this
 | succ fuel ih =>
  intro d a w hc g q hy y H;refine⟨fun h=>(by rw[h]at q;cases q),fun j u=>?_⟩;by_cases f:j=i
  ·subst f;exact hy.wpOp hi y ⟨fun _=>y,H⟩
  ·have s:=H.2 j (ready_mono u f);have ad:=kG hg hc q ac u;obtain⟨p,oj,t,z⟩:=mem_ready.1 u;have L:∀e∈oj.after,Region.binds md e=true->e.on≠i:=fun e he hb aa=>by
    have s:=z e he hb;have h0:=(mem_ready.1 q).1;rw[aa]at s;rcases Nat.lt_or_ge i d.size with h' | h'
    ·simp[h']at h0 s;rw[h0]at s;cases s
    ·simp[Array.getElem?_eq_none h']at s
   have h2:=wpOp_putIf t (g j oj t f p L) (fun x b=>r i oi x b hi) (fun x b=>r j oj x b t) hQ hy s;have l:∀k ok,ops[k]?=M ok->k≠i->(d.setIfInBounds j true).getD k true=false ->
     (∀e∈ok.after,Region.binds md e=true->e.on≠i)->oi.apart ops ok=true:=fun k ok hk ab R ae=>by
    refine g k ok hk ab ?_ ae;by_cases K:j=k
    ·subst K;exact p
    ·rw[getD_set_ne true K]at R;exact R
   refine wpOp_mono (fun a' w' h3=>⟨h3.2.1,ih (d.setIfInBounds j true) a' w' (hc.step u) l (ready_mono q (Ne.symm f)) h3.1 (h3.2.1 ad) ?_⟩) h2;rw[Array.setIfInBounds_comm _ _ f];exact h3.2.2
def qk(P:Program)(md:Region.Mode)(ops:Array Oper)(Q:Exit->Of->Z->Prop)(S:Z->Prop)(late:Nat->Bool)(fuel:Nat)(c:Array Bool)(a:Of)(w:Z):Prop:=Cl md ops c->HU P md ops Q S late fuel c a w
def Nq(P:Program)(md:Region.Mode)(ops:Array Oper)(Q:Exit->Of->Z->Prop)(S:Z->Prop)(late:Nat->Bool)(fuel:Nat)(d:Array Bool)(a:Of)(w:Z)(i:Nat)(oi:Oper):Prop:=
 ∃v,late i=false/\Region.noSelect ops=true/\Region.free md ops d i=true/\(Region.ready md ops d).contains i=true/\(∀c a w,Q (.panic c) (a.put oi.dst v) w->Q (.panic c) a w)/\YieldsIf P ops S oi v a/\S w/\
  qk P md ops Q S late fuel (d.setIfInBounds i true) (a.put oi.dst v) w
def Sm{m}(q:ph md ops late m=true){i oi fuel c a w}(hi:ops[i]?=M oi)(h:Nq P md ops Q S late fuel c a w i oi):qk P md ops Q S late (fuel+1) c a w:=by
 obtain⟨v,f,g,j,k,l,o,h6,p⟩:=h;intro d;have e:i∈Region.ready md ops c:=by simpa using k
 exact uO q f hi (Region.noSelect_spec g) l fuel c a w d (Region.free_spec hi j) e o h6 (p (d.step e))
def Tq(P:Program)(md:Region.Mode)(ops:Array Oper)(Q:Exit->Of->Z->Prop)(S:Z->Prop)(late:Nat->Bool)(fuel:Nat)(c:Array Bool)(a:Of)(w:Z)(i:Nat)(o:Oper):Prop:=
 Region.ready md ops c=[i]/\∀K':Of->Z->Prop,Shut (∀a w,(late i=false->S w)->((late i=false->S w)->qk P md ops Q S late fuel (c.setIfInBounds i true) a w)->K' a w) ->
  if Region.wanted o (yielded ops a.tmps)=true then Oper.wp P o a w K' Q else K' (a.put o.dst undef) w
def Gq{i o fuel c a w}(hi:ops[i]?=M o)(h:Tq P md ops Q S late fuel c a w i o):qk P md ops Q S late (fuel+1) c a w:=by obtain⟨g,h⟩:=h;intro q;refine⟨fun k=>absurd (g▸k) sM,fun j d=>?_⟩;have e:=d;rw[g]at d;cases List.mem_singleton.1 d;exact wpOp_step hi (fun K' l=>h K' (fun a w f p=>l a w ⟨f,p f (q.step e)⟩))
def Ub{c a w}(d:Region.ready md ops c=[])(h:Q .normal a w):∀fuel,qk P md ops Q S late fuel c a w
 | 0=>fun _=>⟨d,h⟩
 | _+1=>fun _=>⟨fun _=>h,by rw[d];simp⟩
def so{v i oi fuel d a w G}(h:G)(o:ph md ops late 12=true:=by kernel_rfl)(hi:ops[i]?=M oi:=by(simp only[gA,gS,gZ];rfl))(f:late i=false:=by rfl)(g:Region.noSelect ops=true:=by kernel_rfl)(j:Region.free md ops d i=true:=by kernel_rfl)(k:(Region.ready md ops d).contains i=true:=by kernel_rfl)(h4:∀c a w,Q (.panic c) (a.put oi.dst v) w->Q (.panic c) a w:=by exact fun _ _ _ h=>h)(p:Region.wanted oi (yielded ops a.tmps)=true:=by rfl)(q:∀w,S w->(execOp a.eval oi).run P w = .ok (.value v) w:=by(intro w e;simp only[Da,and_true]at e;go_simp;try(with_reducible rfl)))(h6:S w:=by(with_reducible assumption))(l:qk P md ops Q S late fuel (d.setIfInBounds i true) (a.put oi.dst v) w=G:=by((try simp only[Act.put,sA,sZ,sS]);rfl)):qk P md ops Q S late (fuel+1) d a w:=by subst l;exact Sm o hi ⟨v,f,g,j,k,h4,Or.inl ⟨p,q⟩,h6,h⟩
def Ui{v i oi fuel d a w G}(h:G)(o:ph md ops late 12=true:=by kernel_rfl)(hi:ops[i]?=M oi:=by(simp only[gA,gS,gZ];rfl))(f:late i=false:=by rfl)(g:Region.noSelect ops=true:=by kernel_rfl)(j:Region.free md ops d i=true:=by kernel_rfl)(k:(Region.ready md ops d).contains i=true:=by kernel_rfl)(h4:∀c a w,Q (.panic c) (a.put oi.dst v) w->Q (.panic c) a w:=by exact fun _ _ _ h=>h)(p:Region.wanted oi (yielded ops a.tmps)=true:=by rfl)(q:∀w,S w->(execOp a.eval oi).run P w = .ok (.value v) w:=by(intro w e;simp only[Da,and_true]at e;go_simp;try(with_reducible rfl)))(h6:S w:=by(with_reducible assumption))(l:om (i+1) (qk P md ops Q S late fuel (d.setIfInBounds i true) (a.put oi.dst v) w)=G:=by((try simp only[Act.put,sA,sZ,sS,Nat.reduceAdd]);rfl)):om i (qk P md ops Q S late (fuel+1) d a w):=by subst l;exact Sm o hi ⟨v,f,g,j,k,h4,Or.inl ⟨p,q⟩,h6,h⟩
def Ed{i o fuel c a w}(h:∀K':Of->Z->Prop,Shut (∀a w,(late i=false->S w)->((late i=false->S w)->qk P md ops Q S late fuel (c.setIfInBounds i true) a w)->K' a w)->if Region.wanted o (yielded ops a.tmps)=true then Oper.wp P o a w K' Q else K' (a.put o.dst undef) w)(hi:ops[i]?=M o:=by(simp only[gA,gS,gZ];rfl))(d:Region.ready md ops c=[i]:=by kernel_rfl):qk P md ops Q S late (fuel+1) c a w:=Gq hi ⟨d,h⟩
def Sr{f args Y}{G:Ob->Z->Prop}{i o fuel c a w}(l:Calls P f args w Y)(h:∀e w',Y e w'->∃v,e=.returned v/\S w'/\(S w'->G v w'))(hi:ops[i]?=M o:=by(simp only[gA,gS,gZ];rfl))(r:Region.ready md ops c=[i]:=by kernel_rfl)(q:late i=false:=by rfl)(s:Region.wanted o (yielded ops a.tmps)=true:=by rfl)(t:(execOp a.eval o).run P w = .ok (.enter f args) w:=by(go_simp;try(with_reducible rfl)))(g:∀v w',qk P md ops Q S late fuel (c.setIfInBounds i true) (a.put o.dst v) w'=G v w':=by(intro v w';(try simp only[Act.put,sA,sZ,sS]);rfl)):qk P md ops Q S late (fuel+1) c a w:=by refine Ed (i:=i) (fun K j=>?_) hi r;rw[if_pos s];unfold Oper.wp;rw[t,Oper.upon_enter];refine l.mono fun e w' u=>?_;obtain⟨v,rfl,k,p⟩:=h e w' u;exact Shut.out j _ _ (fun _=>k) (fun d=>by rw[g];exact p (d q))
def Yk{i j oi f fuel c a w}(t:∀K':Of->Z->Prop,Shut (∀a w,(late i=false->S w)->((late i=false->S w)->qk P md ops Q S late fuel (c.setIfInBounds i true) a w)->K' a w)->if Region.wanted oi (yielded ops a.tmps)=true then Oper.wp P oi a w K' Q else K' (a.put oi.dst undef) w)(u:∀K':Of->Z->Prop,Shut (∀a w,(late j=false->S w)->((late j=false->S w)->qk P md ops Q S late fuel (c.setIfInBounds j true) a w)->K' a w)->if Region.wanted f (yielded ops a.tmps)=true then Oper.wp P f a w K' Q else K' (a.put f.dst undef) w)(hi:ops[i]?=M oi:=by(simp only[gA,gS,gZ];rfl))(v:ops[j]?=M f:=by(simp only[gA,gS,gZ];rfl))(r:Region.ready md ops c=[i,j]:=by kernel_rfl) :
  qk P md ops Q S late (fuel+1) c a w:=by
 intro q;refine⟨fun s=>absurd (r▸s) sM,fun k o=>?_⟩;have e:=o;rw[r]at o;rcases List.mem_cons.1 o with rfl|p
 ·exact wpOp_step hi (fun K' g=>t K' (fun a w d l=>g a w ⟨d,l d (q.step e)⟩))
 ·cases List.mem_singleton.1 p;exact wpOp_step v (fun K' g=>u K' (fun a w d l=>g a w ⟨d,l d (q.step e)⟩))
def Ti{e a w} late S(d:P.follows .mixedOrders=true)(c:S w.drew)(h:S w.drew->qk P .any ops Q S late ops.size (Array.replicate ops.size false) a w.drew):(Code.region e ops true).wp P Q a w:=
 wp_region_any d (YF _ _ _ _ (h c (Cl.start _)))
end
def Jb:Code->List Code
 | .seq a b=>Jb a++Jb b
 | .cond _ a b=>Jb a++Jb b
 | .block _ b=>Jb b
 | .loop b=>b::Jb b
 | .rangeFunc _ _ a b=>Jb a++Jb b
 | .scope b=>Jb b
 | _=>[]
def Tb(f:Func)(k:Nat):Code:=match f.body with|some c=>(Jb c).getD k .skip|none=>.skip
end
section
open Go.RowKit Go.Shelf Go.Sort Go.Lib
def ic(z:Int):List Ob:=[Oa U z]
def yC:(Tryz.prog.info? 3).map (fun i=>(i.zero,i.size,i.bytes))=M (M (Oa U 0),1,8):=kM
def ms{zs:List Int}:∀c∈zs.map ic,c.length=1:=by intro c a;obtain⟨z,_,rfl⟩:=List.mem_map.1 a;rfl
def Ar(zs:List Int):(zs.map ic).flatten=zs.map (Value.int U):=by
 induction zs with
 | nil=>rfl
 | cons z zs a=>simp[ic,a]
def PH{zs:List Int}:∀u∈(zs.map ic).flatten,u.oneCell'=true:=by intro u a;rw[Ar]at a;obtain⟨z,_,rfl⟩:=List.mem_map.1 a;rfl
def Ea.ints{w base g n c}{zs:List Int}(h:Ea 3 1 w base (O (M ⟨g,0,I⟩) n c) (zs.map ic)):base<=g/\g<w.heap.size/\n=zs.length/\zs.length<=c/\c<=maxLen/\Holds (Value.int U) w g 0 zs.toArray/\∃cur,w.heap[g]?=M (Oc cur 3 (0,0))/\cur.size=c*1/\cur.toList.take zs.length=zs.map (Value.int U):=by
 rcases h.2.2 with ⟨k,_⟩|⟨o,j,cur,hv,l,i,d,e,f,a⟩
 ·cases k
 ·cases hv;rw[Ar,lL,Nat.mul_one]at a;rw[lL]at d;exact⟨l,Ya i,lL ..,d,e,holds_of_blockI i a,cur,i,f,a⟩
def og(zs:List Int):List Int:=zs.mergeSort fun x y=>decide (x<=y)
def Xs zs:(og zs).length=zs.length:=List.length_mergeSort _
def Wh{zs z}:z∈og zs ↔ z∈zs:=List.mem_mergeSort
def mP w base g n c zs(h:Ea 3 1 w base (O (M ⟨g,0,I⟩) n c) (zs.map ic))(p:zs.length<=1000000000):Calls Tryz.prog 256 #[O (M ⟨g,0,I⟩) n c] w fun e a=>e=.returned (Oi #[])/\Ea 3 1 a base (O (M ⟨g,0,I⟩) n c) ((og zs).map ic)/\w.grownBy a (M g):=by obtain⟨d,f,rfl,i,j,k,cur,h6,l,o⟩:=h.ints;refine(Tryz.slices_Sort_int g 0 c zs w k f oM).mono ?_;rintro e a ⟨rfl,n,os,rfl⟩;refine⟨rfl,⟨ms,?_⟩,grownBy_sortedI _⟩;have:=ownsRow_sortedI (base:=base) (n:=n) (os:=os) (ss:=zs) (ts:=og zs) (Xs zs) d h6 i j l;rw[Ar,lL,Xs];exact this
def CG(zs:List Int):(compact zs).length<=zs.length:=by unfold compact compactUpTo;rw[lL];exact nT (List.length_filter_le _ _) sM
def BG{zs}{z:Int}(h:z∈compact zs):z∈zs:=by unfold compact compactUpTo at h;obtain⟨i,a,rfl⟩:=List.mem_map.1 h;have:=List.mem_range.1 (List.mem_filter.1 a).1;rw[getElem!_pos _ _ (by simpa using this)];simp
def tS{zs:List Int}(h:zs≠[]):compact zs≠[]:=by obtain⟨z,r,rfl⟩:=List.exists_cons_of_ne_nil h;intro a;unfold compact compactUpTo at a;have c:=List.map_eq_nil_iff.1 a;have d:=(List.filter_eq_nil_iff.1 c) 0 sM;simp[keeps]at d
def gT w base g n c zs(h:Ea 3 1 w base (O (M ⟨g,0,I⟩) n c) (zs.map ic))(u:zs.length<=1000000000):Calls Tryz.prog 257 #[O (M ⟨g,0,I⟩) n c] w fun e a=>e=.returned (O (M ⟨g,0,I⟩) (compact zs).length c)/\Ea 3 1 a base (O (M ⟨g,0,I⟩) (compact zs).length c) ((compact zs).map ic)/\w.grownBy a (M g):=by
 obtain⟨i,r,rfl,j,k,l,cur,h6,o,s⟩:=h.ints;refine(Tryz.slices_Compact_int g 0 c zs w l oM j).mono ?_;rintro e a ⟨rfl,q,rfl⟩;have t:=CG zs;have p:∀d,w.grownBy (putRow (Value.int U) (Sort.ahead w q) g 0 d) (M g):=fun d=>by
  have:=grownBy_sortedI (w:=w) (g:=g) (n:=q) (os:=#[]) d
  rwa [grow_empty]at this
 refine⟨rfl,⟨ms,?_⟩,p _⟩;rw[Ar,lL];refine⟨by simp,.inr ⟨g,c,putCells (Value.int U) 0 (compact zs++List.replicate (zs.length-(compact zs).length) 0).toArray cur,rfl,i,?_,by omega,k,?_,?_⟩⟩
 ·have:=heap_sortedI (n:=q) (os:=#[]) (compact zs++List.replicate (zs.length-(compact zs).length) 0).toArray h6
  rwa [grow_empty]at this
 ·simp[putCells,o]
 ·have:=take_putCellsI cur (compact zs++List.replicate (zs.length-(compact zs).length) 0) (by simp;omega);have f:=congrArg (List.take (compact zs).length) this;rw[List.take_take,lA,Nat.min_eq_left oM,List.map_append,List.take_left' sM]at f;rw[Nat.mul_one];exact f
end
section
open Go.RowKit Go.Shelf
def Bj(md:Region.Mode)(ops:Array Oper)(pv i:Nat):Bool:=match ops[pv]? with|some o=>o.after.toList.any (fun e=>Region.binds md e&&e.on==i)|none=>false
section
variable {P:Program} {ops:Array Oper} {Q:Exit->Of->Z->Prop} {md:Region.Mode} {A B:Z->Prop} {pv:Nat}
def HV(P:Program)(md:Region.Mode)(ops:Array Oper)(Q:Exit->Of->Z->Prop)(A B:Z->Prop)(pv:Nat):Nat->Array Bool->Of->Z->Prop
 | 0,c,a,w=>Region.ready md ops c=[]/\Q .normal a w
 | fuel+1,c,a,w =>
  (Region.ready md ops c=[]->Q .normal a w)/\
  ∀i∈Region.ready md ops c,wpOp P ops Q i (fun e d=>(A d/\((c.setIfInBounds i true).getD pv false=false->B d))/\HV P md ops Q A B pv fuel (c.setIfInBounds i true) e d) a w
def WF:∀ fuel  c  a  w ,HV P md ops Q A B pv fuel c a w->wpAny P md ops Q fuel c a w
 | 0,_,_,_,h=>h
 | fuel+1,_,_,_,h=>⟨h.1,fun i f=>wpOp_mono (fun d g e=>WF fuel _ d g e.2) (h.2 i f)⟩
def DC{a i}(j:Cl md ops a)(c:Bj md ops pv i=true)(hi:a.getD i true=false):a.getD pv false=false:=by
 cases h:a.getD pv false with
 | false=>rfl
 |true=>
  unfold Bj at c;cases ho:ops[pv]? with
  | none=>rw[ho]at c;cases c
  | some o =>
   rw[ho]at c;obtain⟨e,k,g⟩:=List.any_eq_true.1 c;rw[Bool.and_eq_true,beq_iff_eq]at g;have d:=j pv o ho h e (by simpa using k) g.1;rw[g.2]at d;rcases Nat.lt_or_ge i a.size with f | f
   ·simp[f]at hi d;rw[hi]at d;cases d
   ·simp[Array.getElem?_eq_none f]at hi
def tO{i oi v f}(ag:i≠pv)(he:f=true->Bj md ops pv i=true)(hi:ops[i]?=M oi)(x:∀(j:Nat)(o:Oper) R b,ops[j]?=M o->o.op ≠ .select R b)(hQ:∀c a w,Q (.panic c) (a.put oi.dst v) w->Q (.panic c) a w):∀ fuel  d  a  w ,Cl md ops d ->(∀j oj,ops[j]?=M oj->j≠i->d.getD j true=false->(∀e∈oj.after,Region.binds md e=true->e.on≠i)->oi.apart ops oj=true) ->i∈Region.ready md ops d->YieldsIf P ops (fun w=>A w/\(f=true->B w)) oi v a->(A w/\(d.getD pv false=false->B w)) ->HV P md ops Q A B pv fuel (d.setIfInBounds i true) (a.put oi.dst v) w->HV P md ops Q A B pv (fuel+1) d a w:=by
 have q:∀l:Array Bool,(l.setIfInBounds i true).getD pv false=l.getD pv false:=fun l=>getD_set_ne false ag;intro fuel;induction fuel with
 |zero=>
  intro d a w hc _ t hy r H;have K:A w/\(f=true->B w):=⟨r.1,fun h=>r.2 (DC hc (he h) (mem_ready.1 t).1)⟩;refine⟨fun h=>(by rw[h]at t;cases t),fun j hj=>?_⟩;by_cases g:j=i
  ·subst g;exact hy.wpOp hi K ⟨⟨r.1,fun h=>r.2 (by rw[q]at h;exact h)⟩,H⟩
  ·have:=ready_mono hj g;rw[H.1]at this;cases this
 | succ fuel ih =>
  intro d a w hc p t hy r H;have K:A w/\(f=true->B w):=⟨r.1,fun h=>r.2 (DC hc (he h) (mem_ready.1 t).1)⟩;refine⟨fun h=>(by rw[h]at t;cases t),fun j hj=>?_⟩;by_cases g:j=i
  ·subst g;exact hy.wpOp hi K ⟨⟨r.1,fun h=>r.2 (by rw[q]at h;exact h)⟩,H⟩
  ·have y:=H.2 j (ready_mono hj g);obtain⟨u,oj,L,ab⟩:=mem_ready.1 hj;have ad:∀e∈oj.after,Region.binds md e=true->e.on≠i:=fun e he hb af=>by
    have y:=ab e he hb;have h0:=(mem_ready.1 t).1;rw[af]at y;rcases Nat.lt_or_ge i d.size with h' | h'
    ·simp[h']at h0 y;rw[h0]at y;cases y
    ·simp[Array.getElem?_eq_none h']at y
   have h2:=wpOp_putIf L (p j oj L g u ad) (fun R b=>x i oi R b hi) (fun R b=>x j oj R b L) hQ hy y;have s:∀k ok,ops[k]?=M ok->k≠i->(d.setIfInBounds j true).getD k true=false ->
     (∀e∈ok.after,Region.binds md e=true->e.on≠i)->oi.apart ops ok=true:=fun k ok hk ah ae ai=>by
    refine p k ok hk ah ?_ ai;by_cases ac:j=k
    ·subst ac;exact u
    ·rw[getD_set_ne true ac]at ae;exact ae
   refine wpOp_mono (fun a' w' h3=>?_) h2;obtain⟨aj,⟨aa,z⟩,hH⟩:=h3;rw[Array.setIfInBounds_comm _ _ (Ne.symm g),q]at z;refine⟨⟨aa,z⟩,ih (d.setIfInBounds j true) a' w' (hc.step hj) s (ready_mono t (Ne.symm g)) aj ⟨aa,z⟩ ?_⟩;rw[Array.setIfInBounds_comm _ _ g];exact hH
def Ur(P:Program)(md:Region.Mode)(ops:Array Oper)(Q:Exit->Of->Z->Prop)(A B:Z->Prop)(pv:Nat)(fuel:Nat)(c:Array Bool)(a:Of)(w:Z):Prop:=Cl md ops c->HV P md ops Q A B pv fuel c a w
def Dq{c a w}(d:Region.ready md ops c=[])(h:Q .normal a w):∀fuel,Ur P md ops Q A B pv fuel c a w
 | 0=>fun _=>⟨d,h⟩
 | _+1=>fun _=>⟨fun _=>h,by rw[d];simp⟩
def Qj{v i oi fuel d a w} e{G}(h:G)(j:i≠pv:=by decide)(t:e=true->Bj md ops pv i=true:=by(intro h;first|(cases h;done)|kernel_rfl))(hi:ops[i]?=M oi:=by(simp only[gA,gS,gZ];rfl))(o:Region.noSelect ops=true:=by kernel_rfl)(p:Region.free md ops d i=true:=by kernel_rfl)(q:(Region.ready md ops d).contains i=true:=by kernel_rfl)(h4:∀c a w,Q (.panic c) (a.put oi.dst v) w->Q (.panic c) a w:=by exact fun _ _ _ h=>h)(u:Region.wanted oi (yielded ops a.tmps)=true:=by rfl)(x:∀w,A w->(e=true->B w)->(execOp a.eval oi).run P w = .ok (.value v) w:=by(intro w g f;(first|(have f:=f rfl;simp only[Da,and_true]at g f)|(simp only[Da,and_true]at g));go_simp;try(with_reducible rfl)))(h6:A w:=by(with_reducible assumption))(r:d.getD pv false=false->B w:=by(first|exact fun _=>(by with_reducible assumption)|exact fun h=>nomatch h))(s:Ur P md ops Q A B pv fuel (d.setIfInBounds i true) (a.put oi.dst v) w=G:=by((try simp only[Act.put,sA,sZ,sS]);rfl)):Ur P md ops Q A B pv (fuel+1) d a w:=by
 subst s;intro k;have l:i∈Region.ready md ops d:=by simpa using q
 exact tO j t hi (Region.noSelect_spec o) h4 fuel d a w k (Region.free_spec hi p) l (Or.inl ⟨u,fun w h=>x w h.1 h.2⟩) ⟨h6,r⟩ (h (k.step l))
def UG{i o fuel c a w}(h:∀K':Of->Z->Prop,Shut (∀a w,(A w/\((c.setIfInBounds i true).getD pv false=false->B w))->((A w/\((c.setIfInBounds i true).getD pv false=false->B w))->Ur P md ops Q A B pv fuel (c.setIfInBounds i true) a w)->K' a w)->if Region.wanted o (yielded ops a.tmps)=true then Oper.wp P o a w K' Q else K' (a.put o.dst undef) w)(hi:ops[i]?=M o:=by(simp only[gA,gS,gZ];rfl))(g:Region.ready md ops c=[i]:=by kernel_rfl):Ur P md ops Q A B pv (fuel+1) c a w:=by intro q;refine⟨fun k=>absurd (g▸k) sM,fun j d=>?_⟩;have e:=d;rw[g]at d;cases List.mem_singleton.1 d;exact wpOp_step hi (fun K' l=>h K' (fun a w f p=>l a w ⟨f,p f (q.step e)⟩))
def mT{f a w} A B pv(e:P.follows .mixedOrders=true)(c:A w.drew)(d:B w.drew)(h:A w.drew->B w.drew->Ur P .any ops Q A B pv ops.size (Array.replicate ops.size false) a w.drew):(Code.region f ops true).wp P Q a w:=
 wp_region_any e (WF _ _ _ _ (h c d (Cl.start _)))
end
end
section
open Go.RowKit Go.Shelf
attribute [local go_sem] Oper.semAt_some
abbrev Dc:Nat:=400000
def pW(w:Z)(N:Int)(t4:Ob)(W:Z):Prop:=
 ∃p q:Int,p+q=N/\(q.natAbs:Int)<=p.natAbs/\Lm Dc p/\Lm Dc q/\t4=Og (M ⟨w.heap.size+1+1,0,I⟩)/\Ba w W/\NB W w.heap.size p/\NB W (w.heap.size+1) q/\
  W.heap[w.heap.size+1+1]?=M (Oc #[Oa U 0,O I 0 0] 163 (0,0))
def oW(wc:Z)(d:Option Oh)(e c f:Nat)(xs i:List Int)(σ:Int)(g:Ob)(wr:Z):Prop:=
 ∃(j:Nat)(a:List Int),g=Oa U j/\j<=f/\a.length=c/\Cb 3 wr wc.heap.size (O d c e) a/\dv C4 a=dv C4 xs+σ*dv C4 (i.take j)/\Pj a j/\Ba wc wr
def VO{xs a}(d:Cg C4 xs)(e:Cg C4 a)(h:dv C4 a<=dv C4 xs):a.length<=xs.length:=by
 rcases Nat.lt_or_ge xs.length a.length with c|c
 ·have:=It (b:=C4) dM d.1 e c;omega
 ·exact c
def RG(n m:Int):n.sign*m.sign = -1\/n.sign*m.sign=0\/n.sign*m.sign=1:=by rcases vi n with ⟨e,_⟩|⟨e,_⟩|⟨e,_⟩<;>rcases vi m with ⟨a,_⟩|⟨a,_⟩|⟨a,_⟩<;>rw[e,a]<;>decide
def Vu{n:Int}(h:n≠0):n.sign=1\/n.sign = -1:=by rcases vi n with ⟨e,_⟩|⟨e,a⟩|⟨e,_⟩<;>omega
def Cb.drew{T w base v xs}(h:Cb T w base v xs):Cb T w.drew base v xs:=h
def DH{w c:Z}{a xs}(h:Cb 3 c w.heap.size a ([]++xs)):Cb 3 c w.heap.size a xs:=h
def AB w va vb t nb(ha:Cd w va t)(hb:Cd w vb nb)(aB:Lm Dc t)(aC:Lm Dc nb):Calls Tryz.prog 210 #[va,vb] w (nl w (t+nb)):=by
 obtain⟨s,a,m,c,rfl,hs⟩:=ha.j;obtain⟨s',a',m',c',rfl,aV⟩:=hb.j;obtain⟨D,hD⟩:=gX (((t.natAbs:Int)-(nb.natAbs:Int)).sign);have HD:=za hD;have ag:=za aB;have ah:=za aC;clear hs aV hD aB aC;go_in;go_upto_if 10 with (go_at_call 250;(with_reducible refine(Nz _ (Oe #[Oa U s,O a m c]) (Oe #[Oa U s',O a' m' c']) t nb ?_ ?_).mono ?_);(refine ha.ext ?_;exact eA);(refine hb.ext ?_;exact eA);rw[HD.o];rintro e w1 ⟨rfl,z⟩;obtain⟨⟨aO,aR⟩,aI,aJ,aK⟩:=Sb w z);have r:NB w1 w.heap.size t:=(NB.new (W0:=w) ha rfl).ext eA;have aa:NB w1 (w.heap.size+1) nb:=(NB.new (W0:=w.alloc (Oc #[Oa U s,O a m c] 163)) (hb.ext eA) sM).ext eA;have ao:w1.heap[w.heap.size+1+1]?=M (Oc #[Oa U 0,O I 0 0] 163 (0,0)):=z.e (mc _ _ _ sM);have X1:Ba w w1:=eA;go_cut [4] (pW w (t+nb))
 case first =>
  by_cases a4:D<0
  ·have ac:(t.natAbs:Int)<=nb.natAbs:=by
    have:=HD.o;rcases vi ((t.natAbs:Int)-nb.natAbs)with ⟨e,_⟩|⟨e,_⟩|⟨e,_⟩<;>omega
   go_wp2;go_meet;refine⟨nb,t,by omega,ac,ah.o,ag.o,rfl,eA,?_,?_,?_⟩
   ·exact((r.put (hb.ext X1)).other (p:=⟨w.heap.size+1,0,I⟩) sM ((aa.not.set _ _).set _ _) _).other (p:=⟨w.heap.size+1,1,I⟩) sM (((aa.not.set _ _).set _ _).set _ _) _
   ·exact((aa.other (p:=⟨w.heap.size,0,I⟩) sM r.not _).other (p:=⟨w.heap.size,1,I⟩) sM (r.not.set _ _) _).put ((ha.ext X1).keep (((Ja.refl _ w1).y r.not _).y (r.not.set _ _) _))
   ·rw[bS _ _ _ _ sM,bS _ _ _ _ sM,bS _ _ _ _ dO,bS _ _ _ _ dO];exact ao
  ·have ac:(nb.natAbs:Int)<=t.natAbs:=by
    have:=HD.o;rcases vi ((t.natAbs:Int)-nb.natAbs)with ⟨e,_⟩|⟨e,_⟩|⟨e,_⟩<;>omega
   go_wp2;go_meet;exact⟨t,nb,rfl,ac,ag.o,ah.o,rfl,X1,r,aa,ao⟩
 case rest =>
  clear r aa ao X1 z aO aR aI aJ aK ha hb ag ah HD;obtain⟨p,q,aF,al,aD,aT,rfl,hx,hp,hq,R⟩:=hcut;obtain⟨sp,ap,mp,cp,am,p0,p1,a7,a8,pz,az⟩:=hp.rd;obtain⟨sq,aq,mq,cq,an,q0,q1,a9,ba,qz,aA⟩:=hq.rd;obtain⟨xs,xl,xi,xc,xv⟩:=az.open;obtain⟨ys,yl,yi,yc,yv⟩:=aA.open;have hm:=Lr aD xc xv;have aU:=VO xc yc (by rw[xv,yv];exact al);unfold Dc at hm;rw[xl]at hm;rw[xl,yl]at aU;have hσ:=RG p q;rw[<-am,<-an]at hσ;obtain⟨σ,af⟩:=gX (sp*sq);rw[af]at hσ;have HP:=za aF;have ar:=za al;have aj:=za am;have aw:=za an;have Xl:=za xl;have Yl:=za yl;have Xv:=za xv;have Yv:=za yv;have k:=za R;have ai:=za af;have zc:=Ya R;clear aF al aD aT am an xl yl xv yv R af hp hq az aA;go_wp2_with(at_builtin;refine nu Ek Tryz.underlying47 rfl _ _ rfl rfl (Cb.nil _ _ wc.heap.size) rfl xi (by rw[Xl.o];simp;omega) (nE _) ?_;intro v' w2 d L ay;replace d:=DH d;obtain⟨ga,gc,rfl⟩:=d.form;obtain⟨aP,aS⟩:=Ba.cells L);rw[Xl.o]at d ⊢;go_loopw [6] (oW wc ga gc mp mq xs ys σ) (fun t6 _=>mq-(intOf t6).toNat)
  case atStart=>exact⟨0,xs,rfl,by omega,Xl.o,d,by simp,Pj.start xc.1,L⟩
  case round =>
   clear d L ay aP aS;obtain⟨j,os,rfl,hj,aE,d,l,ak,f⟩:=hrel;have e0:=f.d p0;have e1:=f.d p1;have e2:=f.d q0;have e3:=f.d q1;have ab:=za aE;have au:=za l;clear aE l;by_cases ac:j<mq
   ·obtain⟨b,o,rfl,aX,z⟩:=(yi.ext f).open (by rw[Yl.o];omega);obtain⟨g,rfl,hg,a2⟩:=d.blk (by rw[ab.o];omega);obtain⟨y,ae⟩:∃y,ys[j]?=M y:=⟨_,gE (by rw[Yl.o];omega)⟩;obtain⟨x,ad⟩:∃x,os[j]?=M x:=⟨_,gE (by rw[ab.o];omega)⟩;have aZ:=z j y ae;have aY:=d.cell ad;have a1:=d.frozen j;have aW:=yc.1 y (lM ae);have a6:=(ak j x ad).2.2 (nE _);unfold C4 at aW;obtain⟨u,hu⟩:=gX (σ*y);have a5:-10000<=u/\u<=10000:=by rcases hσ with h|h|h<;>subst h<;>omega
    have aL:=za ae;have ax:=za ad;have af:=ai.o;have g0:(0:Int)<=(j:Int):=oM;have g1:(j:Int)<(mq:Int):=oM;have g2:(j:Int)<(mp:Int):=oM;clear z ae ad;go_wp2;refine Ti (fun i=>decide (18<i)) (Da [(⟨g,j,I⟩,Oa U x),(⟨w.heap.size,0,I⟩,Oa U sp),(⟨w.heap.size+1,0,I⟩,Oa U sq),(⟨w.heap.size+1,1,I⟩,O (M ⟨b,o,I⟩) mq cq),(⟨b,o+j,I⟩,Oa U y)]) kM ?_ (fun aM=>?_)
    ·exact cA
    refine sN 0 ?_
    (iterate 19 refine Ui ?_);refine oN ?_;refine Ed (i:=19) fun K hK=>?_;go_simp;refine kO hK (fun h=>nomatch h) (fun aM=>?_);clear hK K;refine Ub kM ?_ _;go_wp2;go_roundw
    case rel =>
     exact⟨j+1,os.set j (x+σ*y),by go_num,by omega,by simp[ab.o],(d.stored j _).drew,uQ ax.o aL.o au.o,ak.step ax.o (by rw[hu];omega) (by rw[hu];omega),(f.set (p:=⟨g,j,I⟩) hg _).drew⟩
    case measure=>simp[intOf];omega
   ·obtain rfl:j=mq:=oM;have l:dv C4 os=(p.natAbs:Int)+σ*(q.natAbs:Int):=by
     rw[au.o,Xv.o,lT (by rw[Yl.o];omega),Yv.o]
    obtain⟨v0,v1⟩:=NK p q ar.o;rw[<-aj.o,<-aw.o,ai.o,<-l]at v0;rw[<-aj.o,<-aw.o,ai.o,<-l]at v1;have V1:=za v1;have av:=za l;have r0:=Aa (f.e k.o) 0 (Oa U 0);have r1:=Aa (f.e k.o) 1 (O I 0 0);have bb:=Za (f.e k.o) 0;have bc:=Za (f.e k.o) 1;have zr:=Ya (f.e k.o);have XW:Ba w wr:=hx.trans f;clear l v1;go_wp2_with(go_at_call 213;(with_reducible refine(Bx _ sp _ os (t+nb) d.ints (by rw[ab.o];omega) ak.big v0 (by rw[V1.o,HP.o]) (fun h9=>?_)).mono ?_);(rw[aj.o];refine Vu (fun h8=>h9 ?_);have:=ar.o;rw[av.o];rw[h8]at this ⊢;simp at this ⊢;rw[this];simp);rintro e w3 ⟨r3,rfl,aG,aH⟩;obtain⟨s3,a3,m3,c3,rfl,-⟩:=aG.j;obtain⟨aQ,a0⟩:=aH.cells);refine bR (v:=Oe #[Oa U s3,O a3 m3 c3]) (by simp[results,Tryz.results210,go_sem,aQ,zr,r0,r1]) rfl ⟨_,rfl,(aG.keep (Tp (aH.e (f.e k.o)) _ _)).mono XW.size,eA⟩
def FM w e f a nb(g:Cd w e a)(i:Cd w f nb)(c:Lm Dc a)(d:Lm Dc nb):Calls Tryz.prog 210 #[e,f] w (Zh w (a+nb)):=Iw (AB w e f a nb g i c d)
def tB w va vb l nb(z:Cd w va l)(K:Cd w vb nb)(d:Lm Dc l)(f:Lm Dc nb):Calls Tryz.prog 212 #[va,vb] w (nl w (l-nb)):=by
 obtain⟨s,a,m,c,rfl,hs⟩:=z.j;obtain⟨R,x,L,y,rfl,t⟩:=K.j;have o:=za d;have p:=za f.neg;rw[Int.sub_eq_add_neg];clear hs t d f;go_in;go_wp2;go_region_held3 (fun W=>W.cell? ⟨w.heap.size,0,I⟩=M (Oa U s)/\W.cell? ⟨w.heap.size,1,I⟩=M (O a m c)/\W.cell? ⟨w.heap.size+1,0,I⟩=M (Oa U R)/\W.cell? ⟨w.heap.size+1,1,I⟩=M (O x L y)) ((repeat' (with_reducible refine And.intro ?_ ?_))<;>(first|(go_simp;done)|(refine hx1.d ?_;go_simp;done))) (first|((go_at_call 211;(with_reducible refine(Dt _ (Oe #[Oa U R,O x L y]) nb ?_).mono ?_);(refine K.ext ?_;exact eA);rintro e w1 ⟨r1,rfl,g,hx1⟩;obtain⟨s1,a1,m1,c1,rfl,-⟩:=g.j;obtain⟨⟨q,ae⟩,aa,ab,j⟩:=Sb w hx1))|((go_at_call 210;(with_reducible refine(AB _ (Oe #[Oa U s,O a m c]) (Oe #[Oa U s1,O a1 m1 c1]) l (-nb) ?_ ?_ o.o p.o).mono ?_);(refine z.ext ?_;exact eA);(refine g.ext ?_;exact eA);rintro e w2 ⟨r2,rfl,i,u⟩;obtain⟨s2,a2,m2,c2,rfl,-⟩:=i.j;obtain⟨⟨r,af⟩,ac,ad,k⟩:=Sb w u)))
 all_goals go_wp2
 exact bR (v:=Oe #[Oa U s2,O a2 m2 c2]) (by simp[results,Tryz.results212,go_sem,q,r,j,k]) rfl ⟨_,rfl,(i.keep kA).mono (by have:=hx1.size;simp at this;omega),eA⟩
def ly w e f a nb(g:Cd w e a)(i:Cd w f nb)(c:Lm Dc a)(d:Lm Dc nb):Calls Tryz.prog 212 #[e,f] w (Zh w (a-nb)):=Iw (tB w e f a nb g i c d)
def XH s a m c w:(Instr.field 163 (Oe #[Oa U s,O a m c]) 0).run Tryz.prog w = .ok (Oa U s) w:=kM
def ID w r t i nb(p:Cd w r i)(q:Cd w t nb)(d:Lm Dc i)(f:Lm Dc nb):Calls Tryz.prog 179 #[r,t] w fun e w'=>e=.returned (Oa U (i-nb).sign)/\Ba w w':=by obtain⟨s,a,m,c,rfl,R⟩:=p.j;obtain⟨s',x,m',y,rfl,l⟩:=q.j;have j:=za d;have k:=za f;clear R l d f;have L:=XH;go_in;go_wp2_with((go_at_call 212;(with_reducible refine(ly _ (Oe #[Oa U s,O a m c]) (Oe #[Oa U s',O x m' y]) i nb ?_ ?_ j.o k.o).mono ?_);(refine p.ext ?_;exact eA);(refine q.ext ?_;exact eA);rintro e w1 ⟨r1,rfl,g,o⟩;obtain⟨s1,a1,m1,c1,rfl,-⟩:=g.j;obtain⟨⟨z,K⟩,u,v⟩:=Nb w o));go_ret;exact⟨Uj (Ak (g.sgn)),eA⟩
end
section
open Go.RowKit Go.Shelf Go.Sort Go.Lib
def Ea.keepT{T T' k w w' base v cs}(h:Ea T k w base v cs)(g:T≠T')(d:w.grownBy w' v.ownBlock):Ja T' w w':=fun b q r a=>by
 rw[d.block b (Ya a) (fun e=>?_)];exact a;rcases h.2.2 with ⟨f,_⟩|⟨s,c,cur,hv,d,l,o,i,j,p⟩
 ·rw[f]at e;cases e
 ·rw[hv]at e;cases e;rw[l]at a;cases a;exact g rfl
def Nf(w:Z)(base:Nat)(v:Ob)(a:List Rat):Prop:=∃cs,Ea 181 3 w base v cs/\cs.length=a.length/\∀(i:Nat) c q,cs[i]?=M c->a[i]?=M q->PR w c q
def Nf.rs{w base v a}(h:Nf w base v a):ii w v a:=by obtain⟨f,c,d,e⟩:=h;exact c.sl d e
def Nf.ext{w w' base v a}(h:Nf w base v a)(k:Ba w w'):Nf w' base v a:=by obtain⟨d,e,f,g⟩:=h;exact⟨d,e.ext k,f,fun i c q j l=>Fb.ext (g i c q j l) k⟩
def Nf.mono{w base b' v a}(h:Nf w base v a)(k:b'<=base):Nf w b' v a:=by obtain⟨c,d,e,f⟩:=h;exact⟨c,d.mono k,e,f⟩
def Nf.nil w base:Nf w base (O I 0 0) []:=⟨[],Ea.nil _ _ _ _,rfl,fun i c q a=>by simp at a⟩
def Cp(w:Z)(a:List Rat)(e:Ending)(w':Z):Prop:=∃v,e=.returned v/\Nf w' w.heap.size v a/\Ba w w'
def UI:(Tryz.prog.info? 181).map (fun i=>(i.zero,i.size,i.bytes))=M (M (Oe #[O I 0 0,Od false,O I 0 0]),3,56):=kM
def Rb.atE{x e}(q:Rb 1 x)(h:Bd 104000 e.1.1/\Bd 104000 e.1.2/\Bd 104000 e.2.1/\Bd 104000 e.2.2):Rb 11 (Cop.Jq x e):=by
 obtain⟨o,p,r,s⟩:=h;have i:Bd 208000 (e.2.2-e.1.2):=by unfold Bd at *;omega
 have l:Bd 208000 (e.2.1-e.1.1):=by unfold Bd at *;omega
 unfold Cop.Jq;have a:=Rb.sub (k:=1) q (Ai o);have c:=Rb.mul (j:=3) (k:=1) a (Ai i);have d:=Rb.div (j:=4) (k:=1) c (Ai l) oM;have f:=(Ai p).mono (k:=5) oM;have g:=Rb.add (k:=5) f d;exact g
def Rb.atR{x ps}(d:Rb 1 x)(h:ke ps):Rb 11 (Cop.Rh ps x):=by
 unfold Cop.Rh;cases hf:(Wg ps).find? (Aj x)with
 | some e=>exact d.atE (Vw h.2.1 (List.mem_of_find?_eq_some hf))
 |none=>
  have f:0<ps.length:=by
   rcases Nat.eq_zero_or_pos ps.length with a|a
   ·exact absurd (List.eq_nil_of_length_eq_zero a) h.1
   ·exact a
  have c:ps.getD (ps.length-1) (0,0)∈ps:=by
   rw[gD,gE oM,Option.getD_some];exact List.getElem_mem _
  exact(Ai (h.2.1 _ c).2).mono oM
def yD{ps}(h:ke ps):Bd 104000 (ub ps)/\Bd 104000 (Wb ps):=by
 have e:0<ps.length:=by
  rcases Nat.eq_zero_or_pos ps.length with a|a
  ·exact absurd (List.eq_nil_of_length_eq_zero a) h.1
  ·exact a
 have c:∀i,i<ps.length->ps.getD i (0,0)∈ps:=fun i d=>by
  rw[gD,gE d,Option.getD_some];exact List.getElem_mem _
 exact⟨(h.2.1 _ (c 0 e)).1,(h.2.1 _ (c _ oM)).1⟩
def Ld(ps a:LP):Sp:=⟨ps,a,max (ub ps) (ub a),min (Wb ps) (Wb a)⟩
def pj(s:Sp)(a c:Ob):Ob:=Oe #[a,c,Oa U s.lo,Oa U s.hi]
def Dn(w:Z)(a c:Ob)(s:Sp)(e:Ending)(w':Z):Prop:=e=.returned (Oi #[pj s a c,Od (decide (s.lo<s.hi))])/\Ba w w'
def tw w v1 v2 ps k(h1:Ia w v1 ps)(h2:Ia w v2 k)(k1:0<ps.length)(k2:0<k.length):Calls Tryz.prog 183 #[v1,v2] w (Dn w v1 v2 (Ld ps k)):=by
 have H1:=za (fun(W:Z)(c:Ba w W)=>Yp W v1 ps (h1.f c) k1);have H2:=za (fun(W:Z)(c:Ba w W)=>Yp W v2 k (h2.f c) k2);have H3:=za (fun(W:Z)(c:Ba w W)=>Kr W v1 ps (h1.f c) k1);have H4:=za (fun(W:Z)(c:Ba w W)=>Kr W v2 k (h2.f c) k2);obtain⟨p,u,rfl⟩:=h1.form;obtain⟨r,x,rfl⟩:=h2.form;obtain⟨R,hR⟩:=gX (Dn w (O p ps.length u) (O r k.length x) (Ld ps k));rw[hR];have HR:=za hR;clear hR;unfold Ld at HR;obtain⟨l1,e1⟩:=gX (ub ps);obtain⟨l2,e2⟩:=gX (ub k);obtain⟨r1,e3⟩:=gX (Wb ps);obtain⟨r2,e4⟩:=gX (Wb k);obtain⟨L,f1⟩:=gX ps.length;obtain⟨n2,f2⟩:=gX k.length;rw[e1,e2,e3,e4]at HR;rw[e1]at H1;rw[e2]at H2;rw[e3]at H3;rw[e4]at H4;simp only[f1,f2]at H1 H2 H3 H4 HR h1 h2 ⊢;clear e1 e2 e3 e4 f1 f2 h1 h2 k1 k2;go_in;go_wp2_with(first|(go_at_call 157;(with_reducible refine(H1.o _ ?_).mono ?_);exact eA;rintro e w3 ⟨rfl,d⟩;obtain⟨ae,ai⟩:=d.cells)|(go_at_call 157;(with_reducible refine(H2.o _ ?_).mono ?_);exact eA;rintro e w4 ⟨rfl,f⟩;obtain⟨af,aj⟩:=f.cells)|(go_at_call 158;(with_reducible refine(H3.o _ ?_).mono ?_);exact eA;rintro e w5 ⟨rfl,g⟩;obtain⟨ag,ak⟩:=g.cells)|(go_at_call 158;(with_reducible refine(H4.o _ ?_).mono ?_);exact eA;rintro e y ⟨rfl,j⟩;obtain⟨ah,al⟩:=j.cells));obtain⟨t,ab⟩:=gX (max l1 l2);obtain⟨s,aa⟩:=gX (min r1 r2);rw[ab,aa]at HR ⊢;have ac:Ba w y:=(((((eR w).alloc _).trans d).trans f).trans g).trans j;have ao:w.heap.size<y.heap.size:=by have:=d.size;have:=f.size;have:=g.size;have:=j.size;simp only[wZ]at *;omega
 have hO:y.heap[w.heap.size]?=M (Oc #[O I 0 0,O I 0 0,Oa U 0,Oa U 0] 265 (0,0)):=j.e (g.e (f.e (d.e (aN _ _))));clear ae ai af aj ag ak ah al H1 H2 H3 H4 ab aa d f g j;obtain⟨W,c⟩:=gX ((y.alloc (Oc #[O p L u,O r n2 x,Oa U t,Oa U s] 265)));have z:W.heap[y.heap.size]?=M (Oc #[O p L u,O r n2 x,Oa U t,Oa U s] 265 (0,0)):=by rw[<-c];exact aN _ _
 have a:W.heap[w.heap.size]?=M (Oc #[O I 0 0,O I 0 0,Oa U 0,Oa U 0] 265 (0,0)):=by rw[<-c];exact((eR y).alloc _).e hO
 have an:Ba w W:=by rw[<-c];exact ac.alloc _
 rw[c];clear c hO ac;have b0:=Aa z 0 (O p L u);have b1:=Aa z 1 (O r n2 x);have b2:=Aa z 2 (Oa U t);have b3:=Aa z 3 (Oa U s);have f0:=Za a 0;have f1:=Za a 1;have f2:=Za a 2;have f3:=Za a 3;have o0:=Aa a 0 (O I 0 0);have o1:=Aa a 1 (O I 0 0);have o2:=Aa a 2 (Oa U 0);have o3:=Aa a 3 (Oa U 0);have HB:=za z;clear z a;obtain⟨o,am⟩:=gX y.heap.size;simp only[am]at *;refine jd [(⟨o,0,I⟩,O p L u),(⟨o,1,I⟩,O r n2 x),(⟨o,2,I⟩,Oa U t),(⟨o,3,I⟩,Oa U s)] cA fun ad=>?_;refine sN 0 ?_
 iterate 6 refine Db ?_
 refine oN ?_;have l:∀q∈[((⟨o,0,I⟩:Oh),Value.slice p L u),(⟨o,1,I⟩,O r n2 x),(⟨o,2,I⟩,Oa U t),(⟨o,3,I⟩,Oa U s)],w.heap.size≠q.1.block:=by
  simp;omega
 refine Te (i:=6) fun K hK=>?_;go_simp;refine kO hK ((((Da.set (by assumption) l _).set l _).set l _).set l _) (fun ad=>?_);clear hK K;refine La (i:=7) ?_;refine Pb ?_;go_wp2;refine bR (v:=Oi #[Oe #[O p L u,O r n2 x,Oa U t,Oa U s],Od (decide (t<s))]) (by simp[results,Tryz.results183,go_sem,o0,o1,o2,o3,f0,f1,f2,f3]) rfl ?_;rw[<-HR.o];exact⟨rfl,((((an.set dO _).set dO _).set dO _).set dO _).drew⟩
def Da.grown:∀{L W W' row},Da L W->W.grownBy W' row->(∀q∈L,M q.1.block≠row)->Da L W'
 | [],_,_,_,_,_,_=>trivial
 | (a,v)::r,W,W',row,⟨h1,h2⟩,hg,hn=>by
  refine⟨?_,h2.grown hg (fun q d=>hn q (mC _ d))⟩;have c:=World.block_lt_of_cell? _ _ h1;rw[<-h1];unfold World.cell?;rw[hg.block _ c (hn (a,v) sM)]
def KK t n(h:t.size=n):t=((List.range n).map fun k=>t.getD k undef).toArray:=by
 apply Array.ext
 ·simp[h]
 ·intro i a c;simp[Array.getD,a]
def Sk{W:Z}{b cs T a}(h:W.heap[b]?=M (Oc cs T a)) i u:(W.setCell ⟨b,i,I⟩ u).heap[b]?=M (Oc (cs.setIfInBounds i u) T a):=by simp[World.setCell,Array.getElem?_modify,h]
def Iy(w:Z) o a:((w.alloc o).alloc a).heap[w.heap.size]?=M o:=by rw[tg,if_neg sM];exact aN w o
def Up(w:Z) o a:((w.alloc o).alloc a).heap[w.heap.size+1]?=M a:=mc _ _ _ sM
def Qf t n(h:t.size=n):∃u,(∀k,t.getD k undef=u k)/\t=((List.range n).map u).toArray:=⟨fun k=>t.getD k undef,fun _=>rfl,KK t n h⟩
def VD(w:Z) o a:((w.alloc o).alloc a).heap[w.heap.size]?=M o:=by rw[tg,if_neg sM];exact aN w o
def Ny(w:Z) o a:((w.alloc o).alloc a).heap[w.heap.size+1]?=M a:=mc _ _ _ sM
end
section
open Go.RowKit Go.Shelf
section
variable {P:Program} {ops:Array Oper} {Q:Exit->Of->Z->Prop} {md:Region.Mode} {A B C:Z->Prop} {pv pc:Nat}
def qA(A B C:Z->Prop)(pv pc:Nat)(a:Array Bool)(w:Z):Prop:=A w/\(a.getD pv false=false->B w)/\(a.getD pc false=false->C w)
def HX(P:Program)(md:Region.Mode)(ops:Array Oper)(Q:Exit->Of->Z->Prop)(A B C:Z->Prop)(pv pc:Nat):Nat->Array Bool->Of->Z->Prop
 | 0,c,a,w=>Region.ready md ops c=[]/\Q .normal a w
 | fuel+1,c,a,w =>
  (Region.ready md ops c=[]->Q .normal a w)/\
  ∀i∈Region.ready md ops c,wpOp P ops Q i (fun e d=>qA A B C pv pc (c.setIfInBounds i true) d/\HX P md ops Q A B C pv pc fuel (c.setIfInBounds i true) e d) a w
def qA.step{a w}(c:A w)(d:a.getD pv false=false->B w)(e:a.getD pc false=false->C w):qA A B C pv pc a w:=⟨c,d,e⟩
end
section
variable {P:Program} {ops:Array Oper} {Q:Exit->Of->Z->Prop} {md:Region.Mode} {S:Z->Prop} {fl:List (Nat×Tmp×Obj)} {w0:Z} {late:Nat->Bool}
def sm(fl:List (Nat×Tmp×Obj))(i:Nat):Bool:=fl.any (·.1==i)
def Ej(md:Region.Mode)(ops:Array Oper)(fl:List (Nat×Tmp×Obj))(L:Array Bool):List Nat:=(Region.ready md ops L).filter fun i=>!sm fl i
def Cq(ops:Array Oper)(f:Nat):Option Tmp:=(ops[f]?).bind (·.dst)
def Mk(b:Nat):List (Nat×Nat)->Prop
 | []=>True
 | x::l=>(b<x.1\/x.2<=b)/\Mk b l
def mj(P:Program)(md:Region.Mode)(ops:Array Oper)(Q:Exit->Of->Z->Prop)(S:Z->Prop)(w0:Z)(k:Nat)(c:List (Nat×Nat)):List (Nat×Tmp×Obj)->List Nat->Array Bool->Of->Z->Prop
 | [],_,L,a,W=>wpAnyH P md ops Q S k L a W
 | (f,d,o)::fl,bs,L,a,W=>∀b,W.heap[b]?=M o->w0.heap.size<=b->b ∉ bs->Mk b c->mj P md ops Q S w0 k c fl (b::bs) (L.setIfInBounds f true) (a.put (M d) (Og (M ⟨b,0,I⟩))) W
def Wl(a:List (Nat×Nat))(w0 W w':Z):Prop:=Ba w0 w'/\W.heap.size<=w'.heap.size/\∀k,k<W.heap.size->Mk k a->w'.heap[k]?=W.heap[k]?
def Wl.of{d w0 W w'}(a:Ba w0 W)(h:Ba W w'):Wl d w0 W w':=⟨a.trans h,h.size,fun k c _=>h.block c⟩
def GF(P:Program)(md:Region.Mode)(ops:Array Oper)(Q:Exit->Of->Z->Prop)(S:Z->Prop)(d:Nat->Bool)(fl:List (Nat×Tmp×Obj))(w0:Z):Nat->List (Nat×Nat)->Array Bool->Of->Z->Prop
 | 0,f,L,a,w=>Ej md ops fl L=[]/\∀W,Ba w W->Ba w0 W->mj P md ops Q S w0 0 f fl [] L a W
 | k+1,f,L,a,w=>((Ej md ops fl L=[]->∀W,Ba w W->Ba w0 W->mj P md ops Q S w0 (k+1) f fl [] L a W)/\(∀i∈Ej md ops fl L,d i=false)/\
   ∀i∈Ej md ops fl L,∀W,Ba w W->Ba w0 W->wpOp P ops Q i (fun l g=>Wl f w0 W g/\GF P md ops Q S d fl w0 k ((W.heap.size,g.heap.size)::f) (L.setIfInBounds i true) l g) a W) \/
  (∃i oi v,ops[i]?=M oi/\i∈Ej md ops fl L/\(∀j oj,ops[j]?=M oj->j≠i->L.getD j true=false->(∀e∈oj.after,Region.binds md e=true->e.on≠i)->oi.apart ops oj=true)/\
   (∀c a w,Q (.panic c) (a.put oi.dst v) w->Q (.panic c) a w)/\YieldsIf P ops S oi v a/\GF P md ops Q S d fl w0 k f (L.setIfInBounds i true) (a.put oi.dst v) w)
def GF.later{c}:∀{k e L a w W},Ba w W->GF P md ops Q S c fl w0 k e L a w->GF P md ops Q S c fl w0 k e L a W
 | 0,_,_,_,_,_,h,H=>⟨H.1,fun V d=>H.2 V (h.trans d)⟩
 | _+1,_,_,_,_,_,h,.inl H=>.inl ⟨fun q V d=>H.1 q V (h.trans d),H.2.1,fun i p V d=>H.2.2 i p V (h.trans d)⟩
 | _+1,_,_,_,_,_,h,.inr ⟨i,r,v,f,g,j,l,o,h6⟩=>.inr ⟨i,r,v,f,g,j,l,o,GF.later h h6⟩
def Ug{i L}:i∈Ej md ops fl L ↔ i∈Region.ready md ops L/\sm fl i=false:=by unfold Ej;rw[List.mem_filter];simp
def Hi(md:Region.Mode)(ops:Array Oper)(late a:Nat->Bool)(n:Nat):Bool:=
 (List.range ops.size).all fun j=>!late j || ((List.range ops.size).all fun i=>late i || a i || (Uk md ops n j).contains i)
def rT{late d a m i j}(q:Hi md ops late d m=true)(u:Cl md ops a)(hi:i∈Region.ready md ops a)(x:late i=false)(v:d i=false)(w:j∈Region.ready md ops a):late j=false:=by
 cases hlj:late j with
 | false=>rfl
 |true=>
  exfalso;obtain⟨s,z,f,e⟩:=mem_ready.1 w;obtain⟨c,y,r,_⟩:=mem_ready.1 hi;unfold Hi at q;rw[List.all_eq_true]at q;have k:=q j (List.mem_range.2 (Array.getElem?_eq_some_iff.1 f).1);rw[hlj]at k;simp only[Bool.not_true,Bool.false_or,List.all_eq_true]at k;have l:=k i (List.mem_range.2 (Array.getElem?_eq_some_iff.1 r).1);rw[x,v]at l;simp only[Bool.false_or,List.contains_eq_mem,decide_eq_true_eq]at l;have p:=jw u m j (fun o t=>by rw[f]at t;cases t;exact e) i l;rcases Nat.lt_or_ge i a.size with g | g
  ·simp[g]at p c;rw[p]at c;cases c
  ·simp[Array.getElem?_eq_none g]at p
def ui(md:Region.Mode)(ops:Array Oper)(c:List (Nat×Tmp))(late a:Nat->Bool)(n:Nat):Bool:=
 Hi md ops late a n&&c.all (fun f=>!late f.1&&!a f.1&&(Jg md ops f.1).isEmpty&&decide (f.1<ops.size)&&Cq ops f.1==M f.2)&&decide (c.map (·.1)).Nodup&&decide (c.map (·.2)).Nodup &&
 (List.range ops.size).all fun i=>late i || c.any (·.1==i) || c.all fun f=>!(Jg md ops i).contains f.1&&(match ops[f.1]?,ops[i]? with|some x,M y=>x.apart ops y|_,_=>true)
def Fu(P:Program)(ops:Array Oper)(f:Nat)(o:Obj):Prop:=∃x,ops[f]?=M x/\x.guard=I/\∀(a:Of)(W:Z),(execOp a.eval x).run P W = .ok (.value (Og (M ⟨W.heap.size,0,I⟩))) (W.alloc o)
def AO{j}{oi k:Oper}{v}(R:ops[j]?=M k)(s:oi.apart ops k=true)(p:∀cs b,k.op ≠ .select cs b)(z:∀c a w,Q (.panic c) a w->Q (.panic c) (a.put oi.dst v) w){K a w}(h:wpOp P ops Q j K a w):wpOp P ops Q j (fun L t=>∃a0,L=a0.put oi.dst v/\K a0 t) (a.put oi.dst v) w:=by
 obtain⟨q,l,h3⟩:=Oper.apart_spec s;unfold wpOp at *;simp only[R]at *;rw[wanted_put k a oi.dst v q];split
 ·rename_i hw;simp only[hw,if_true]at h;rcases h with h|⟨g,i⟩
  case inr=>exact .inr ⟨by unfold Oper.asks at *;rw[execOp_put k p a oi.dst v q];exact g,i⟩
  refine .inl ?_;unfold Oper.wp at *;rw[execOp_put k p a oi.dst v q];generalize (execOp a.eval k).run P w=r at *
  cases r with
  | ok n t =>
   cases n<;>simp only[Oper.upon]at h ⊢
   case value u=>exact⟨_,Act.put_comm a v u l,h⟩
   case skip=>exact⟨_,Act.put_comm a v undef l,h⟩
   case defer d=>exact⟨_,by rw[Act.put_defers];exact Act.put_comm _ v undef l,h⟩
   case enter f args =>
    refine cM h fun e y o=>?_;cases e with
    | returned u=>exact⟨_,Act.put_comm a v u l,o⟩
    | panicked c=>exact z _ _ _ o
    | outgrown=>exact o
   case row row args=>exact Rows.mono h fun u y o=>⟨_,Act.put_comm a v u l,o⟩
  | halt x t =>
   cases x<;>simp only[Oper.upon]at h ⊢
   case panic u=>exact z _ _ _ h
 ·rename_i hw;simp only[hw]at h;exact⟨_,Act.put_comm a v undef l,h⟩
abbrev Eh:=List (Nat×Tmp×Obj×Nat)
def Lj(x:Nat×Tmp×Obj×Nat):Nat×Tmp×Obj:=(x.1,x.2.1,x.2.2.1)
def De(L:Array Bool)(a:Eh):Array Bool:=a.foldl (fun L x=>L.setIfInBounds x.1 true) L
def yg(a:Of)(c:Eh):Of:=c.foldl (fun a x=>a.put (M x.2.1) (Og (M ⟨x.2.2.2,0,I⟩))) a
def Cv{i d}:∀ a  L ,(∀x∈a,x.1≠i)->(De L a).getD i d=L.getD i d
 | [],_,_=>rfl
 | x::a,L,h=>(Cv a _ fun y c=>h y (mC _ c)).trans (getD_set_ne d (h x (List.mem_cons_self ..)))
def pC{i d}:∀ c  L ,(∃x∈c,x.1=i)->i<L.size->(De L c).getD i d=true
 | [],_,h,_=>by obtain⟨x,a,_⟩:=h;cases a
 | y::c,L,h,hi=>by
  by_cases f:∃x∈c,x.1=i
  ·exact pC c _ f (by simpa using hi)
  ·have g:y.1=i:=by
    obtain⟨x,a,e⟩:=h;rcases List.mem_cons.1 a with rfl|a
    ·exact e
    ·exact absurd ⟨x,a,e⟩ f
   subst g;refine(Cv c _ fun x a e=>f ⟨x,a,e⟩).trans ?_;simp[hi]
def Vx{i}:∀ a  L ,(∀x∈a,x.1≠i)->(De L a).setIfInBounds i true=De (L.setIfInBounds i true) a
 | [],_,_=>rfl
 | x::a,L,h=>by
  refine(Vx a _ fun y c=>h y (mC _ c)).trans ?_;show De ((L.setIfInBounds x.1 true).setIfInBounds i true) a=De ((L.setIfInBounds i true).setIfInBounds x.1 true) a;rw[Array.setIfInBounds_comm _ _ (h x (List.mem_cons_self ..))]
def OP{α β:Type}{g}{x y:List β}(h:x.Perm y):∀l:List α,l.map g=x->∃m,l.Perm m/\m.map g=y:=by
 induction h with
 | nil=>exact fun l d=>⟨l,.refl _,d⟩
 | cons b _ q =>
  intro l d;obtain⟨a,l,rfl,rfl,e⟩:=List.map_eq_cons_iff.1 d;obtain⟨m,f,i⟩:=q l e;exact⟨a::m,f.cons a,by simp[i]⟩
 | swap b c t =>
  intro l d;obtain⟨a,l,rfl,rfl,e⟩:=List.map_eq_cons_iff.1 d;obtain⟨o,l,rfl,rfl,f⟩:=List.map_eq_cons_iff.1 e;exact⟨o::a::l,.swap ..,by simp[f]⟩
 | trans _ _ j k =>
  intro l d;obtain⟨m,p,e⟩:=j l d;obtain⟨r,f,i⟩:=k m e;exact⟨r,p.trans f,i⟩
def mj.use{k W f}:∀ c  d  L  a ,mj P md ops Q S w0 k f (c.map Lj) d L a W ->(∀x∈c,W.heap[x.2.2.2]?=M x.2.2.1/\w0.heap.size<=x.2.2.2/\Mk x.2.2.2 f)->(d.reverse++c.map (·.2.2.2)).Nodup->wpAnyH P md ops Q S k (De L c) (yg a c) W
 | [],_,_,_,h,_,_=>h
 | x::c,d,L,a,h,h1,h2=>by
  have e:=h1 x (List.mem_cons_self ..);have g:x.2.2.2 ∉ d:=fun i=>by
   rw[List.map_cons,List.nodup_append]at h2;exact h2.2.2 _ (List.mem_reverse.2 i) _ (List.mem_cons_self ..) rfl
  exact mj.use c (x.2.2.2::d) _ _ (h x.2.2.2 e.1 e.2.1 g e.2.2) (fun y j=>h1 y (mC _ j)) (by simpa using h2)
def NE{j l}(s:ops[j]?=M l)(f:∀cs b,l.op ≠ .select cs b)(r:∀c a d v w,Q (.panic c) a w->Q (.panic c) (a.put d v) w){W}:∀ e  a  K ,(∀x∈e,∃p:Oper,p.dst=M x.2.1/\p.apart ops l=true)->wpOp P ops Q j K a W->wpOp P ops Q j (fun g o=>∃a0,g=yg a0 e/\K a0 o) (yg a e) W
 | [],_,_,_,h=>wpOp_mono (fun g o i=>⟨g,rfl,i⟩) h
 | x::e,a,K,h1,h=>by
  obtain⟨p,z,k⟩:=h1 x (List.mem_cons_self ..);have q:=AO (oi:=p) (v:=Og (M ⟨x.2.2.2,0,I⟩)) s k f (fun c a w h=>r c a _ _ w h) h;rw[z]at q;refine wpOp_mono (fun g o i=>?_) (NE s f r e _ _ (fun y L=>h1 y (mC _ L)) q);obtain⟨a0,rfl,t,rfl,u⟩:=i;exact⟨t,rfl,u⟩
variable {P:Program} {ops:Array Oper} {Q:Exit->Of->Z->Prop} {md:Region.Mode} {S:Z->Prop} {fl:List (Nat×Tmp×Obj)} {w0:Z} {late:Nat->Bool} {m:Nat}
def Rr(x:Nat×Tmp×Obj):Nat×Tmp:=(x.1,x.2.1)
def NF{a}(h:ui md ops (fl.map Rr) late a m=true):Hi md ops late a m=true/\(∀x∈fl,late x.1=false/\a x.1=false/\Jg md ops x.1=[]/\x.1<ops.size/\Cq ops x.1=M x.2.1)/\(fl.map (·.1)).Nodup/\(fl.map (·.2.1)).Nodup/\∀i<ops.size,late i=false->sm fl i=false->∀x∈fl,x.1 ∉ Jg md ops i/\∀p q,ops[x.1]?=M p->ops[i]?=M q->p.apart ops q=true:=by
 unfold ui at h;simp only[Bool.and_eq_true,decide_eq_true_eq]at h;obtain⟨⟨⟨⟨r,s⟩,l⟩,o⟩,t⟩:=h;rw[List.map_map]at l o;refine⟨r,fun x k=>?_,l,o,fun i u v j x k=>?_⟩
 ·have:=List.all_eq_true.1 s _ (List.mem_map_of_mem (f:=Rr) k);simp only[Bool.and_eq_true,Bool.not_eq_true',List.isEmpty_iff,decide_eq_true_eq,beq_iff_eq]at this;exact⟨this.1.1.1.1,this.1.1.1.2,this.1.1.2,this.1.2,this.2⟩
 ·have h6:=List.all_eq_true.1 t i (List.mem_range.2 u);rw[v,Bool.false_or,Bool.or_eq_true]at h6;rcases h6 with g|g
  ·exfalso;obtain⟨y,L,d⟩:=List.any_eq_true.1 g;obtain⟨z,R,rfl⟩:=List.mem_map.1 L;unfold sm at j;rw[List.any_eq_false]at j;exact j z R d
  ·have d:=List.all_eq_true.1 g _ (List.mem_map_of_mem (f:=Rr) k);rw[Bool.and_eq_true]at d;refine⟨fun e=>?_,fun p q w K=>?_⟩
   ·have c:=d.1;rw[Bool.not_eq_true',List.contains_eq_mem,decide_eq_false_iff_not]at c;exact c e
   ·have c:=d.2;dsimp only[Rr]at c;rw[w,K]at c;exact c
def nD{i o}(d:ops[i]?=M o){e}(c:e∈o.after)(a:Region.binds md e=true):e.on∈Jg md ops i:=by unfold Jg;rw[d];exact List.mem_map.2 ⟨e,List.mem_filter.2 ⟨by simpa using c,a⟩,rfl⟩
def BD{i}(h:sm fl i=true):∃d o,(i,d,o)∈fl:=by unfold sm at h;obtain⟨x,c,a⟩:=List.any_eq_true.1 h;rw[beq_iff_eq]at a;subst a;exact⟨x.2.1,x.2.2,c⟩
def Zr{i}(h:sm fl i=false):∀x∈fl,x.1≠i:=by unfold sm at h;rw[List.any_eq_false]at h;exact fun x a e=>h x a (by simpa using e)
def BC{b}:∀{a},(∀x∈a,b<x.1\/x.2<=b)->Mk b a
 | [],_=>trivial
 | x::_,h=>⟨h x (List.mem_cons_self ..),BC fun y c=>h y (mC _ c)⟩
def qB{α β:Type}{g:α->β}:∀{l:List α},(l.map g).Nodup->∀x∈l,∀y∈l,g x=g y->x=y
 | [],_,_,d,_,_,_=>nomatch d
 | z::l,h,x,d,y,hy,e=>by
  rw[List.map_cons,List.nodup_cons]at h;obtain⟨f,h⟩:=h;rcases List.mem_cons.1 d with c|c
  ·rcases List.mem_cons.1 hy with a|a
   ·rw[c,a]
   ·exact absurd (List.mem_map.2 ⟨y,a,by rw[<-e,c]⟩) f
  ·rcases List.mem_cons.1 hy with a|a
   ·exact absurd (List.mem_map.2 ⟨x,c,by rw[e,a]⟩) f
   ·exact qB h x c y a e
def YN{c a}(h:c.Perm a) L:De L c=De L a:=
 h.foldl_eq' (fun x _ y _ z=>by
  by_cases e:x.1=y.1
  ·rw[e]
  ·exact Array.setIfInBounds_comm _ _ e) L
def MP{f c}(j:(f.map (·.2.1)).Nodup)(h:f.Perm c) a:yg a f=yg a c:=
 h.foldl_eq' (fun x k y l z=>by
  by_cases e:x.2.1=y.2.1
  ·rw[qB j x k y l e]
  ·exact Act.put_comm z _ _ (fun d i g=>e ((Option.some.inj i).trans (Option.some.inj g).symm))) a
def SE{j}:∀ c  L ,(De L c).getD j true=false->L.getD j true=false
 | [],_,h=>h
 | x::c,L,h=>by
  have a:=SE c _ h;by_cases e:x.1=j
  ·subst e;rcases Nat.lt_or_ge x.1 L.size with d | d
   ·simp[d]at a
   ·simp[Array.getElem?_eq_none d]at a
  ·rw[getD_set_ne true e]at a;exact a
def mD{d v}:∀ c  a ,(∀x∈c,d≠M x.2.1)->(yg a c).put d v=yg (a.put d v) c
 | [],_,_=>rfl
 | x::c,a,h=>by
  refine(mD c _ fun y g=>h y (mC _ g)).trans ?_;show yg ((a.put (M x.2.1) _).put d v) c=yg ((a.put d v).put (M x.2.1) _) c;rw[Act.put_comm a _ v (fun q f e=>h x (List.mem_cons_self ..) (e.trans f.symm))]
def VF{oi v}(f:∀cs b,oi.op ≠ .select cs b):∀ c  a ,(∀x∈c,x.2.1 ∉ oi.looksAt ops)->YieldsIf P ops S oi v a->YieldsIf P ops S oi v (yg a c)
 | [],_,_,h=>h
 | x::c,a,h1,h=>VF f c _ (fun y g=>h1 y (mC _ g)) (h.of_same (execOp_put oi f a _ _ (fun d e=>by cases e;exact h1 x (List.mem_cons_self ..))) (wanted_put oi a _ _ (fun d e=>by cases e;exact h1 x (List.mem_cons_self ..))))
def oC{j}:∀ a  L ,L.getD j false=true->(De L a).getD j false=true
 | [],_,h=>h
 | _::a,_,h=>oC a _ (getD_set_true h)
def jK{ag}(aU:ui md ops (fl.map Rr) late ag m=true)(aC:fl≠[])(am:Region.noSelect ops=true)(hl:∀x∈fl,Fu P ops x.1 x.2.2)(hQ:∀c a d v w,Q (.panic c) a w->Q (.panic c) (a.put d v) w)(aA:∀w',Ba w0 w'->S w'):∀ n k  iv  L  a  w W  g  rest ,GF P md ops Q S ag fl w0 k iv L a w->(∀x∈iv,x.2<=w.heap.size)->Ba w0 w->Ba w W->(g.map Lj++rest).Perm fl->n=k+rest.length->Cl md ops L->L.size=ops.size ->(∀x∈fl,L.getD x.1 true=false)->(∀x∈g,W.heap[x.2.2.2]?=M x.2.2.1/\w0.heap.size<=x.2.2.2/\Mk x.2.2.2 iv)->(g.map (·.2.2.2)).Nodup->Cl md ops (De L g)->wpAnyH P md ops Q S n (De L g) (yg a g) W:=by
 obtain⟨f1,f2,f3,f4,f5⟩:=NF aU;have ay:∀(k:Nat)(iv:List (Nat×Nat))(L:Array Bool)(a:Of)(W:Z)(g:Eh),mj P md ops Q S w0 k iv fl [] L a W->(g.map Lj).Perm fl->(∀x∈g,W.heap[x.2.2.2]?=M x.2.2.1/\w0.heap.size<=x.2.2.2/\Mk x.2.2.2 iv)->(g.map (·.2.2.2)).Nodup->wpAnyH P md ops Q S k (De L g) (yg a g) W:=by
  intro k iv L a W g H hp hb ad;obtain⟨aL,p1,p2⟩:=OP hp g rfl;have aS:(g.map (·.2.1)).Nodup:=by
   have:=(hp.map (·.2.1)).nodup_iff.2 f4
   rwa [List.map_map]at this
  rw[YN p1,MP aS p1];refine mj.use aL [] L a (by rw[p2];exact H) (fun x l=>hb x (p1.mem_iff.2 l)) ?_;simpa using (p1.map (·.2.2.2)).nodup_iff.1 ad
 intro n;induction n with
 |zero=>
  intro k iv L a w W g rest H ak h0 hw hp hn hc an ae hb ad ah;obtain rfl:k=0:=oM;obtain rfl:rest=[]:=List.eq_nil_of_length_eq_zero oM;rw[List.append_nil]at hp;exact ay 0 iv L a W g (H.2 W hw (h0.trans hw)) hp hb ad
 | succ n ih =>
  intro k iv L a w W g rest H ak h0 hw hp hn hc an ae hb ad ah;have z:∀x∈g,Lj x∈fl:=fun x l=>hp.mem_iff.1 (List.mem_append_left _ (List.mem_map_of_mem l));have aw:∀x∈rest,x∈fl:=fun x l=>hp.mem_iff.1 (List.mem_append_right _ l);have ai:∀i d,sm fl i=false->(De L g).getD i d=L.getD i d:=fun i d hi=>Cv g L fun x l=>Zr hi (Lj x) (z x l);have af:((g.map Lj++rest).map (·.1)).Nodup:=(hp.map (·.1)).nodup_iff.2 f3;have ap:∀x∈g,∀y∈rest,x.1≠y.1:=fun x l y hy e=>by
   rw[List.map_append,List.nodup_append]at af;exact af.2.2 _ (List.mem_map_of_mem (f:=(·.1)) (List.mem_map_of_mem (f:=Lj) l)) _ (List.mem_map_of_mem (f:=(·.1)) hy) e
  have az:∀i∈Ej md ops fl L,late i=false:=fun i hi=>by
   obtain⟨u,h2⟩:=Ug.1 hi;obtain⟨K,R,q,aa⟩:=mem_ready.1 u;cases hli:late i with
   | false=>rfl
   |true=>
    exfalso;obtain⟨x,l⟩:=List.exists_mem_of_ne_nil fl aC;obtain⟨g1,ge,g2,g3,g4⟩:=f2 x l;have hg:=f1;unfold Hi at hg;rw[List.all_eq_true]at hg;have h3:=hg i (List.mem_range.2 (Array.getElem?_eq_some_iff.1 q).1);rw[hli]at h3;simp only[Bool.not_true,Bool.false_or,List.all_eq_true]at h3;have h4:=h3 x.1 (List.mem_range.2 g3);rw[g1,ge]at h4;simp only[Bool.false_or,List.contains_eq_mem,decide_eq_true_eq]at h4;have h5:=jw hc m i (fun o ho=>by rw[q]at ho;cases ho;exact aa) x.1 h4;have h6:=ae x l;have h7:x.1<L.size:=oM;simp[h7]at h5 h6;rw[h5]at h6;cases h6
  have aF:∀i∈Ej md ops fl L,i∈Region.ready md ops (De L g):=fun i hi=>by
   obtain⟨u,h2⟩:=Ug.1 hi;obtain⟨K,R,q,aa⟩:=mem_ready.1 u;exact mem_ready.2 ⟨by rw[ai i true h2];exact K,R,q,fun e he hb=>oC g L (aa e he hb)⟩
  have aR:∀x∈rest,x.1∈Region.ready md ops (De L g):=fun x l=>by
   obtain⟨g1,ge,g2,g3,g4⟩:=f2 x (aw x l);refine mem_ready.2 ⟨?_,ops[x.1],by simp[g3],fun e he hb=>?_⟩
   ·rw[Cv g L fun y hy=>ap y hy x l];exact ae x (aw x l)
   ·have:=nD (md:=md) (ops:=ops) (i:=x.1) (o:=ops[x.1]) (by simp[g3]) he hb;rw[g2]at this;cases this
  have ax:∀x∈g,∃p:Oper,ops[x.1]?=M p/\p.dst=M x.2.1:=fun x l=>by
   have u:=f2 _ (z x l);have h4:x.1<ops.size:=u.2.2.2.1;have h3:ops[x.1]?=M (ops[x.1]'h4):=Array.getElem?_eq_getElem h4;refine⟨ops[x.1]'h4,h3,?_⟩;have h2:(ops[x.1]?).bind (·.dst)=M x.2.1:=u.2.2.2.2;rw[h3]at h2;exact h2
  by_cases hE:rest=[]/\Ej md ops fl L=[]
  ·obtain⟨rfl,h2⟩:=hE;rw[List.append_nil]at hp;cases k with
   | zero=>exact absurd hn sM
   | succ k =>
    (obtain rfl:n=k:=by simp at hn;omega);rcases H with H|⟨i,R,v,u,h3,_⟩
    ·exact ay _ iv L a W g (H.1 h2 W hw (h0.trans hw)) hp hb ad
    ·rw[h2]at h3;cases h3
  ·have aK:(k=0\/∃k',k=k'+1/\((Ej md ops fl L=[]->∀W,Ba w W->Ba w0 W->mj P md ops Q S w0 (k'+1) iv fl [] L a W)/\(∀i∈Ej md ops fl L,ag i=false)/\
   ∀i∈Ej md ops fl L,∀W,Ba w W->Ba w0 W->wpOp P ops Q i (fun a' w'=>Wl iv w0 W w'/\GF P md ops Q S ag fl w0 k' ((W.heap.size,w'.heap.size)::iv) (L.setIfInBounds i true) a' w') a W))\/(∃k',k=k'+1/\∃i R v,ops[i]?=M R/\i∈Ej md ops fl L/\(∀j oj,ops[j]?=M oj->j≠i->L.getD j true=false->(∀e∈oj.after,Region.binds md e=true->e.on≠i)->R.apart ops oj=true)/\
   (∀c a w,Q (.panic c) (a.put R.dst v) w->Q (.panic c) a w)/\YieldsIf P ops S R v a/\GF P md ops Q S ag fl w0 k' iv (L.setIfInBounds i true) (a.put R.dst v) w):=by
    cases k with
    | zero=>exact .inl (.inl rfl)
    | succ k =>
     rcases H with H|H
     ·exact .inl (.inr ⟨k,rfl,H⟩)
     ·exact .inr ⟨k,rfl,H⟩
   rcases aK with H2|⟨k,rfl,i,R,v,q,aj,aB,aI,hy,HG⟩
   case inr =>
    obtain⟨_,hF⟩:=Ug.1 aj;have ar:=az i aj;have aH:=(Array.getElem?_eq_some_iff.1 q).1;have aG:∀x∈g,R.dst≠M x.2.1/\x.2.1 ∉ R.looksAt ops:=fun x l=>by
     obtain⟨p,aD,av⟩:=ax x l;obtain⟨q1,q2,q3⟩:=Oper.apart_spec ((f5 i aH ar hF _ (z x l)).2 p R aD q);exact⟨q2 _ av,q1 _ av⟩
    have ab:=ah.step (aF i aj);have e1:(De L g).setIfInBounds i true=De (L.setIfInBounds i true) g:=Vx g L fun x l=>Zr hF (Lj x) (z x l);refine wpAnyH_first q (Region.noSelect_spec am) aI n (De L g) (yg a g) W (fun j oj hj aC ae aT=>aB j oj hj aC (SE g L ae) aT) (aF i aj) (VF (fun cs b=>Region.noSelect_spec am i R cs b q) g a (fun x l=>(aG x l).2) hy) (aA W (h0.trans hw)) ?_;rw[e1]at ab ⊢;rw[mD g a fun x l=>(aG x l).1];refine ih k iv _ _ w W g rest HG ak h0 hw hp oM (hc.step (Ug.1 aj).1) (by simpa using an) (fun x r=>?_) hb ad ab;rw[getD_set_ne true (fun e=>Zr hF x r e.symm)];exact ae x r
   have aE:∃e,e∈Region.ready md ops (De L g)/\late e=false/\ag e=false:=by
    by_cases u:rest=[]
    ·have h2:Ej md ops fl L≠[]:=fun h=>hE ⟨u,h⟩;obtain⟨e,he⟩:=List.exists_mem_of_ne_nil _ h2;rcases H2 with rfl|⟨k',rfl,H2⟩
     ·exact absurd H.1 h2
     ·exact⟨e,aF e he,az e he,H2.2.1 e he⟩
    ·obtain⟨x,l⟩:=List.exists_mem_of_ne_nil _ u;exact⟨x.1,aR x l,(f2 x (aw x l)).1,(f2 x (aw x l)).2.1⟩
   obtain⟨e,he,aQ,aP⟩:=aE;refine⟨fun hr=>(by rw[hr]at he;cases he),fun i hi=>?_⟩;obtain⟨K,R,q,aa⟩:=mem_ready.1 hi;have ar:late i=false:=rT f1 ah he aQ aP hi;cases hF:sm fl i with
   |true=>
    obtain⟨d,o,ac⟩:=BD hF;have au:(i,d,o)∈rest:=by
     rcases List.mem_append.1 (hp.mem_iff.2 ac)with u|u
     ·exfalso;obtain⟨x,l,h2⟩:=List.mem_map.1 u;(have h3:x.1=i:=by have:=congrArg (·.1) h2;exact this);have h4:=pC (d:=true) g L ⟨x,l,h3⟩ (by rw[an];exact(Array.getElem?_eq_some_iff.1 q).1);rw[h4]at K;cases K
     ·exact u
    obtain⟨s,t,aV⟩:=List.append_of_mem au;subst aV;obtain⟨x,aJ,r,aW⟩:=hl _ ac;rw[q]at aJ;cases aJ;have hd:R.dst=M d:=by
     have:=(f2 _ ac).2.2.2.2;unfold Cq at this;rw[q]at this;exact this
    unfold wpOp;rw[q];dsimp only;(have ao:Region.wanted R (yielded ops (yg a g).tmps)=true:=by unfold Region.wanted;rw[r]);rw[if_pos ao];refine .inl ?_;unfold Oper.wp;rw[aW];show S (W.alloc o)/\wpAnyH P md ops Q S n ((De L g).setIfInBounds i true) ((yg a g).put R.dst _) (W.alloc o);refine⟨aA _ ((h0.trans hw).alloc o),?_⟩;rw[hd];(have e1:(De L g).setIfInBounds i true=De L (g++[(i,d,o,W.heap.size)]):=by unfold De;rw[List.foldl_append];rfl);(have e2:(yg a g).put (M d) (Og (M ⟨W.heap.size,0,I⟩))=yg a (g++[(i,d,o,W.heap.size)]):=by unfold yg;rw[List.foldl_append];rfl);have ab:=ah.step hi;rw[e1]at ab ⊢;rw[e2];refine ih k iv L a w (W.alloc o) (g++[(i,d,o,W.heap.size)]) (s++t) H ak h0 (hw.alloc o) ?_ (by simp at hn ⊢;omega) hc an ae ?_ ?_ ab
    ·refine List.Perm.trans ?_ hp;rw[List.map_append,List.append_assoc];exact List.Perm.append_left _ (show ((i,d,o)::(s++t)).Perm (s++(i,d,o)::t)from List.perm_middle.symm)
    ·intro x l;rcases List.mem_append.1 l with l|l
     ·obtain⟨u,h2⟩:=hb x l;exact⟨((eR W).alloc o).e u,h2⟩
     ·cases List.mem_singleton.1 l;exact⟨aN W o,(h0.trans hw).size,BC fun x l=>.inr (nT (ak x l) hw.size)⟩
    ·rw[List.map_append,List.nodup_append];refine⟨ad,by simp,fun b aM c aO e=>?_⟩;obtain⟨x,l,rfl⟩:=List.mem_map.1 aM;have u:=Ya (hb x l).1;simp at aO;omega
   |false=>
    have aq:i∈Ej md ops fl L:=Ug.2 ⟨mem_ready.2 ⟨by rw[<-ai i true hF];exact K,R,q,fun e he hb=>by
     have u:=aa e he hb;have h2:sm fl e.on=false:=by
      cases h3:sm fl e.on with
      | false=>rfl
      |true=>
       obtain⟨d,o,ac⟩:=BD h3;exact absurd (nD q he hb) (f5 i (Array.getElem?_eq_some_iff.1 q).1 ar hF _ ac).1
     rw[<-ai e.on false h2];exact u⟩,hF⟩
    rcases H2 with rfl|⟨k,rfl,H2⟩
    ·rw[H.1]at aq;cases aq
    ·refine wpOp_mono (fun a' w' h'=>?_) (NE q (fun cs b=>Region.noSelect_spec am i R cs b q) hQ g a _ (fun x l=>?_) (H2.2.2 i aq W hw (h0.trans hw)))
     ·obtain⟨a0,rfl,l,hG⟩:=h';have e1:(De L g).setIfInBounds i true=De (L.setIfInBounds i true) g:=Vx g L fun x l=>Zr hF (Lj x) (z x l);have ab:=ah.step hi;refine⟨aA _ l.1,?_⟩;rw[e1]at ab ⊢;refine ih k _ _ a0 w' w' g rest hG (fun x r=>?_) l.1 (eR _) hp oM (hc.step (Ug.1 aq).1) (by simpa using an) (fun x r=>?_) (fun x r=>?_) ad ab
      ·rcases List.mem_cons.1 r with rfl|r
       ·exact nE _
       ·exact nT (ak x r) (nT hw.size l.2.1)
      ·rw[getD_set_ne true (fun e=>Zr hF x r e.symm)];exact ae x r
      ·obtain⟨u,h2,h3⟩:=hb x r;exact⟨by rw[l.2.2 _ (Ya u) h3];exact u,h2,.inl (Ya u),h3⟩
     ·obtain⟨p,aD,av⟩:=ax x l;exact⟨p,av,(f5 i (Array.getElem?_eq_some_iff.1 q).1 ar hF _ (z x l)).2 _ _ aD q⟩
variable {P:Program} {ops:Array Oper} {Q:Exit->Of->Z->Prop} {md:Region.Mode} {S:Z->Prop} {fl:List (Nat×Tmp×Obj)} {w0:Z}
def Wr(P:Program)(md:Region.Mode)(ops:Array Oper)(Q:Exit->Of->Z->Prop)(c:Nat->Bool)(fl:List (Nat×Tmp×Obj))(w0:Z)(S:Z->Prop)(k:Nat)(d:List (Nat×Nat))(L:Array Bool)(a:Of)(w:Z):Prop:=GF P md ops Q S c fl w0 k d L a w
def Rj{e g L v i oi k d a w G}(h:G)(hi:ops[i]?=M oi:=by(simp only[gA,gS,gZ];rfl))(r:Region.noSelect ops=true:=by kernel_rfl)(j:Region.free md ops d i=true:=by kernel_rfl)(l:(Ej md ops fl d).contains i=true:=by kernel_rfl)(h4:∀c a w,Q (.panic c) (a.put oi.dst v) w->Q (.panic c) a w:=by exact fun _ _ _ h=>h)(p:Region.wanted oi (yielded ops a.tmps)=true:=by rfl)(q:∀w,Da L w->(execOp a.eval oi).run P w = .ok (.value v) w:=by(intro w f;simp only[Da,and_true]at f;go_simp;try(with_reducible rfl)))(h6:Da L w0:=by(with_reducible assumption))(o:Wr P md ops Q e fl w0 (Da L) k g (d.setIfInBounds i true) (a.put oi.dst v) w=G:=by((try simp only[Act.put,sA,sZ,sS]);rfl)):Wr P md ops Q e fl w0 (Da L) (k+1) g d a w:=by subst o;exact .inr ⟨i,oi,v,hi,by simpa using l,Region.free_spec hi j,h4,Or.inl ⟨p,q⟩,h⟩
def Eq{d g L i o k c a w}(h:∀W,Ba w W->Ba w0 W->Da L W->∀K':Of->Z->Prop,Shut (∀a w',Wl g w0 W w'->(Wl g w0 W w'->Da L w'->Wr P md ops Q d fl w0 (Da L) k ((W.heap.size,w'.heap.size)::g) (c.setIfInBounds i true) a w')->K' a w')->if Region.wanted o (yielded ops a.tmps)=true then Oper.wp P o a W K' Q else K' (a.put o.dst undef) W)(h6:Da L w0:=by(with_reducible assumption))(hi:ops[i]?=M o:=by(simp only[gA,gS,gZ];rfl))(p:Ej md ops fl c=[i]:=by kernel_rfl)(u:d i=false:=by rfl):Wr P md ops Q d fl w0 (Da L) (k+1) g c a w:=by
 refine .inl ⟨fun r=>absurd (p▸r) sM,fun j f=>?_,fun j f W t e=>?_⟩
 ·rw[p]at f;cases List.mem_singleton.1 f;exact u
 rw[p]at f;cases List.mem_singleton.1 f;exact wpOp_step hi (fun K' s=>h W t e (cE h6 e) K' (fun a w' q l=>s a w' ⟨q,l q (cE h6 q.1)⟩))
def df{e g L k c a w}(f:Ej md ops fl c=[])(h:∀W,Ba w W->Ba w0 W->mj P md ops Q (Da L) w0 k g fl [] c a W):Wr P md ops Q e fl w0 (Da L) k g c a w:=by
 cases k with
 | zero=>exact⟨f,h⟩
 | succ k=>exact .inl ⟨fun _=>h,fun i d=>(by rw[f]at d;cases d),fun i d=>by rw[f]at d;cases d⟩
def Jz{u a w} fl L k m late e(s:P.follows .mixedOrders=true)(f:ui .any ops (fl.map Rr) late e m=true)(q:ops.size=k+fl.length)(i:fl≠[])(g:Region.noSelect ops=true)(r:∀x∈fl,Fu P ops x.1 x.2.2)(p:∀c a d v w,Q (.panic c) a w->Q (.panic c) (a.put d v) w)(j:Da L w.drew)(h:Da L w.drew->Wr P .any ops Q e fl w.drew (Da L) k [] (Array.replicate ops.size false) a w.drew):(Code.region u ops true).wp P Q a w:=by obtain⟨_,l,_,_,_⟩:=NF f;have o:=jK (w0:=w.drew) (S:=Da L) f i g r p (fun _ h=>cE j h) ops.size k [] (Array.replicate ops.size false) a w.drew w.drew [] fl (h j) sM (eR _) (eR _) sM q (Cl.start _) sM (fun x t=>by simp[(l x t).2.2.2.1]) sM sM (Cl.start _);exact wp_region_any s (wpAny_of_held _ _ _ _ o)
end
end
section
open Go.RowKit Go.Shelf
attribute [local go_sem] Oper.semAt_some
def UU(W0:Z)(m c:Nat)(xs e:List Int)(d:Ob)(wr:Z):Prop:=
 ∃(i:Nat)(a:List Int),d=Oa U i/\i<=m/\a.length=m+c/\Cb 3 wr W0.heap.size (O (M ⟨W0.heap.size,0,I⟩) (m+c) (m+c)) a/\dv C4 a=dv C4 (xs.take i)*dv C4 e/\fi a i 0/\Ba W0 wr
def VU(W0:Z)(m a i:Nat)(x V:Int)(e:List Int)(d:Ob)(wr:Z):Prop:=
 ∃(k:Nat)(c:List Int),d=Oa U k/\k<=a/\c.length=m+a/\Cb 3 wr W0.heap.size (O (M ⟨W0.heap.size,0,I⟩) (m+a) (m+a)) c/\dv C4 c=V+C4 ^ i*(x*dv C4 (e.take k))/\fi c i k/\Ba W0 wr
def fq w va vb na nb(ha:Cd w va na)(hb:Cd w vb nb)(aP:Lm Dc na)(aQ:Lm Dc nb):Calls Tryz.prog 180 #[va,vb] w (Zh w (na*nb)):=by
 obtain⟨s,a,m,c,rfl,hs⟩:=ha.j;obtain⟨s',a',t,c',rfl,al⟩:=hb.j;obtain⟨xs,hl,hi,hc,hv⟩:=ha.open;obtain⟨ys,ak,aO,aq,am⟩:=hb.open;have hm:=Lr aP hc hv;have au:=Lr aQ aq am;rw[hl]at hm;rw[ak]at au;unfold Dc at hm au;obtain⟨σ,hσ⟩:=gX (s*s');have aE:=RG na nb;rw[<-hs,<-al,hσ]at aE;have σ0:-1<=σ:=oM;have σ1:σ<=1:=oM;have aF:σ=(na*nb).sign:=by rw[<-hσ,hs,al,YL]
 have aj:=za aF;have Hl:=za hl;have aa:=za ak;have Hv:=za hv;have ao:=za am;clear hs al hl ak hv am aF aE;obtain⟨W0,f⟩:=gX (((w.alloc (Oc #[Oa U s,O a m c] 163)).alloc (Oc #[Oa U s',O a' t c'] 163)).alloc (Oc #[Oa U 0,O I 0 0] 163));have z0:w.heap.size+1+1+1=W0.heap.size:=by rw[<-f];simp
 have z1:w.heap.size<W0.heap.size:=oM;have z2:w.heap.size+1<W0.heap.size:=oM;have z3:w.heap.size+1+1<W0.heap.size:=oM;have p0:W0.cell? ⟨w.heap.size,0,I⟩=M (Oa U s):=by rw[<-f];clear f;go_simp
 have p1:W0.cell? ⟨w.heap.size,1,I⟩=M (O a m c):=by rw[<-f];clear f;go_simp
 have q0:W0.cell? ⟨w.heap.size+1,0,I⟩=M (Oa U s'):=by rw[<-f];clear f;go_simp
 have q1:W0.cell? ⟨w.heap.size+1,1,I⟩=M (O a' t c'):=by rw[<-f];clear f;go_simp
 have j:Ua (W0.heap[w.heap.size+1+1]?=M (Oc #[Oa U 0,O I 0 0] 163 (0,0))):=by rw[<-f];exact za (mc _ _ _ sM)
 have ag:Ua (Ba w W0):=by rw[<-f];exact za eA
 go_in;go_wp2_with(at_make;refine yw (n:=m+t) Ek Tryz.underlying47 rfl _ _ rfl _ rfl rfl sM oM ?_;(try rw[f]);intro w1 q R aR;(try simp only[z0]at q))
 try simp only[z0]
 have r:Cb 3 w1 W0.heap.size (O (M ⟨W0.heap.size,0,I⟩) (m+t) (m+t)) (List.replicate (m+t) 0):=q;clear f q z0;go_loopw [6] (UU W0 m t xs ys) (fun t6 _=>m-(intOf t6).toNat)
 case atStart =>
  exact⟨0,_,rfl,by omega,by simp,r,by rw[Xo];simp,fi.start _,R⟩
 case round =>
  clear r R aR;obtain⟨i,os,rfl,a2,ax,g,L,l,d⟩:=hrel;have an:=za ax;have ah:=za L;have e0:=d.d p0;have e1:=d.d p1;have e2:=d.d q0;have e3:=d.d q1;clear ax L;by_cases a5:i<m
  ·obtain⟨b,o,rfl,aW,R⟩:=(hi.ext ag.o).open (by rw[Hl.o];omega);obtain⟨x,ab⟩:∃x,xs[i]?=M x:=⟨_,gE (by rw[Hl.o];omega)⟩;have aJ:=R i x ab;have aB:=hc.1 x (lM ab);have aH:=za ab;have aG:=za aB;have g0:(0:Int)<=(i:Int):=oM;have g1:(i:Int)<(m:Int):=oM;clear R ab aB;go_wp2;obtain⟨wo,rfl⟩:∃wo:Z,wo=wr:=⟨_,rfl⟩;go_loopw [7] (VU W0 m t i x (dv C4 os) ys) (fun t7 _=>t-(intOf t7).toNat)
   case atStart=>exact⟨0,os,rfl,by omega,an.o,g,by simp,l,d⟩
   case round =>
    clear g l d e0 e1 e2 e3;obtain⟨k,us,rfl,a4,az,g,L,l,d⟩:=hrel;have ai:=za az;have ae:=za L;have e0:=d.d p0;have e1:=d.d p1;have e2:=d.d q0;have e3:=d.d q1;have aX:=d.d aJ;clear az L;by_cases ar:k<t
    ·obtain⟨b',o',rfl,aS,af⟩:=(aO.ext ag.o).open (by rw[aa.o];omega);obtain⟨y,ac⟩:∃y,ys[k]?=M y:=⟨ys[k]'(by rw[aa.o];omega),by simp[aa.o,ar]⟩;obtain⟨z,ad⟩:∃z,us[i+k]?=M z:=⟨_,gE (by rw[ai.o];omega)⟩;have aY:=d.d (af k y ac);have aZ:=g.cell ad;have a1:=g.frozen (i+k);have aC:=aq.1 y (lM ac);obtain⟨aT,aU,aD⟩:=l _ z ad;have aV:=aD (nE _);obtain⟨av,aw⟩:=Yz aG.o aC;obtain⟨u,hu⟩:=gX (x*y);rw[hu]at av aw;have aI:=za ac;have ap:=za ad;have k0:(0:Int)<=(k:Int):=oM;have k1:(k:Int)<(t:Int):=oM;have k2:(0:Int)<=(i:Int)+(k:Int):=oM;have k3:(i:Int)+(k:Int)<(m:Int)+(t:Int):=oM;have k4:IntKind.i64.wrap ((i:Int)+(k:Int))=(i:Int)+(k:Int):=iW _ oM;have k5:((i:Int)+(k:Int)).toNat=i+k:=oM;clear af ac ad aC;go_wp2;refine Ti (fun i=>decide (22<i)) (Da [(⟨W0.heap.size,i+k,I⟩,Oa U z),(⟨w.heap.size,1,I⟩,O (M ⟨b,o,I⟩) m c),(⟨b,o+i,I⟩,Oa U x),(⟨w.heap.size+1,1,I⟩,O (M ⟨b',o',I⟩) t c'),(⟨b',o'+k,I⟩,Oa U y)]) kM ?_ (fun aK=>?_)
     ·exact cA
     refine sN 0 ?_
     (iterate 23 refine Ui ?_);refine oN ?_;refine Ed (i:=23) fun K hK=>?_;go_simp;refine kO hK (fun h=>nomatch h) (fun aK=>?_);clear hK K;refine Ub kM ?_ _;go_wp2;go_roundw
     case rel =>
      exact⟨k+1,us.set (i+k) (z+u),by go_num,by omega,by simp[ai.o],(g.stored _ _).drew,by rw[<-hu];exact MQ ap.o aI.o ae.o,l.step ap.o av aw,(d.set (p:=⟨W0.heap.size,i+k,I⟩) (nE _) _).drew⟩
     case measure=>simp[intOf];omega
    ·obtain rfl:k=t:=oM;go_wp2;go_roundw
     case rel=>exact⟨i+1,us,by go_num,by omega,ai.o,g,CN aa.o aH.o ae.o ah.o,l.next,d⟩
     case measure=>simp[intOf];omega
  ·obtain rfl:i=m:=oM;have hD:dv C4 os=(na.natAbs:Int)*(nb.natAbs:Int):=by
    rw[ah.o,lT (by rw[Hl.o];omega),Hv.o,ao.o]
   have aL:0<=dv C4 os:=by rw[hD];exact Int.mul_nonneg oM oM
   have hN:na*nb=σ*dv C4 os:=by
    rw[hD,aj.o,<-Int.natCast_mul,<-Int.natAbs_mul];exact(Int.sign_mul_natAbs _).symm
   have HN:=za hN;have r0:=Aa (d.e j.o) 0 (Oa U 0);have r1:=Aa (d.e j.o) 1 (O I 0 0);have a6:=Za (d.e j.o) 0;have a7:=Za (d.e j.o) 1;have zr:=Ya (d.e j.o);have XW:Ba w wr:=ag.o.trans d;clear hD hN;go_wp2_with(go_at_call 213;(with_reducible refine(Zs _ σ _ os (na*nb) g.ints (by rw[an.o];omega) (l.big oM) aL HN.o (fun h9=>?_)).mono ?_);(rw[aj.o];refine Vu (fun h8=>h9 ?_);have h7:=HN.o;rw[h8]at h7;rcases Int.mul_eq_zero.1 h7.symm with h6|h6;(rw[aj.o,h8]at h6;exact absurd h8 (fun _=>h9 (by have h5:=ah.o;rw[lT (by rw[Hl.o];omega),Hv.o,ao.o,<-Int.natCast_mul,<-Int.natAbs_mul,h8]at h5;simpa using h5)));exact h6);rintro e w3 ⟨r3,rfl,ay,aA⟩;obtain⟨s3,a3,m3,c3,rfl,-⟩:=ay.j;obtain⟨aM,a0⟩:=aA.cells);exact bR (v:=Oe #[Oa U s3,O a3 m3 c3]) (by simp[results,Tryz.results180,go_sem,aM,zr,r0,r1]) rfl ⟨_,rfl,ay.keep (Tp (aA.e (d.e j.o)) _ _),eA⟩
def pJ{os xs:List Int}{i k x}(c:os[i]?=M 0)(a:xs[i]?=M x)(h:dv C4 os=k*dv C4 (xs.take i)):dv C4 (os.set i (x*k))=k*dv C4 (xs.take (i+1)):=by rw[Ko _ c,Pn C4 xs i x a,h];grind
def jU(W0:Z)(m:Nat)(k:Int)(xs:List Int)(c:Ob)(wr:Z):Prop:=
 ∃(i:Nat)(a:List Int),c=Oa U i/\i<=m/\a.length=m/\Cb 3 wr W0.heap.size (O (M ⟨W0.heap.size,0,I⟩) m m) a/\dv C4 a=k*dv C4 (xs.take i)/\Ll a i/\(∀x∈a,0<=x/\x<=100000000)/\Ba W0 wr
def Az w va L k(ha:Cd w va L)(aq:Lm Dc L)(h0:0<=k)(h1:k<=10000):Calls Tryz.prog 277 #[va,Oa U k] w (Zh w (L*k)):=by
 obtain⟨s,a,m,c,rfl,hs⟩:=ha.j;obtain⟨xs,hl,hi,hc,hv⟩:=ha.open;have hm:=Lr aq hc hv;rw[hl]at hm;unfold Dc at hm;have Hs:=za hs;have Hl:=za hl;have Hv:=za hv;clear hs hl hv;obtain⟨W0,g⟩:=gX ((w.alloc (Oc #[Oa U s,O a m c] 163)).alloc (Oc #[Oa U 0,O I 0 0] 163));have z0:w.heap.size+1+1=W0.heap.size:=by rw[<-g];simp
 have z1:w.heap.size<W0.heap.size:=oM;have z2:w.heap.size+1<W0.heap.size:=oM;have p0:W0.cell? ⟨w.heap.size,0,I⟩=M (Oa U s):=by rw[<-g];clear g;go_simp
 have p1:W0.cell? ⟨w.heap.size,1,I⟩=M (O a m c):=by rw[<-g];clear g;go_simp
 have f:Ua (W0.heap[w.heap.size+1]?=M (Oc #[Oa U 0,O I 0 0] 163 (0,0))):=by rw[<-g];exact za (mc _ _ _ sM)
 have aa:Ua (Ba w W0):=by rw[<-g];exact za eA
 go_in;go_wp2_with(at_make;refine yw (n:=m) Ek Tryz.underlying47 rfl _ _ rfl _ rfl rfl rfl oM ?_;(try rw[g]);intro w1 j q ar;(try simp only[z0]at j))
 try simp only[z0]
 have p:Cb 3 w1 W0.heap.size (O (M ⟨W0.heap.size,0,I⟩) m m) (List.replicate m 0):=j;clear g j z0;go_loopw [6] (jU W0 m k xs) (fun t6 _=>m-(intOf t6).toNat)
 case atStart =>
  exact⟨0,_,rfl,by omega,by simp,p,by rw[Xo];simp,Ll.replicate _ _,fun x K=>by rw[(List.mem_replicate.1 K).2];omega,q⟩
 case round =>
  clear p q ar;obtain⟨i,R,rfl,az,af,l,ae,ak,ad,d⟩:=hrel;have y:=za af;have ac:=za ae;have ab:=za ad;have e0:=d.d p0;have e1:=d.d p1;clear af ae ad;by_cases aA:i<m
  ·obtain⟨b,o,rfl,au,q⟩:=(hi.ext (aa.o.trans d)).open (by rw[Hl.o];omega);obtain⟨x,t⟩:∃x,xs[i]?=M x:=⟨_,gE (by rw[Hl.o];omega)⟩;obtain⟨z,r⟩:∃z,R[i]?=M z:=⟨_,gE (by rw[y.o];omega)⟩;have av:=q i x t;have ay:=l.frozen i;have aw:=l.cell r;have aj:=ak _ z r (nE _);rw[aj]at r;have ai:=hc.1 x (lM t);unfold C4 at ai;obtain⟨u,hu⟩:=gX (x*k);have u0:0<=u:=by rw[<-hu];exact Int.mul_nonneg ai.1 h0
   have u1:u<=100000000:=by
    have:x*k<=10000*10000:=Int.mul_le_mul oM h1 h0 oM;omega
   have am:=za t;have an:=za r;have g0:(0:Int)<=(i:Int):=oM;have g1:(i:Int)<(m:Int):=oM;clear q t r aj;go_wp2;go_roundw
   case rel =>
    refine⟨i+1,R.set i u,by go_num,by omega,by simp[y.o],l.stored _ _,?_,ak.set_next _,fun x K=>?_,d.set (nE _) _⟩
    ·rw[<-hu];exact pJ an.o am.o ac.o
    ·rcases List.mem_or_eq_of_mem_set K with K|rfl
     ·exact ab.o x K
     ·exact⟨u0,u1⟩
   case measure=>simp[intOf];omega
  ·obtain rfl:i=m:=oM;have hD:dv C4 R=k*(L.natAbs:Int):=by
    rw[ac.o,lT (by rw[Hl.o];omega),Hv.o]
   have ao:0<=dv C4 R:=by rw[hD];exact Int.mul_nonneg h0 oM
   have hN:L*k=s*dv C4 R:=by
    have h2:=ZD L;rw[hD,Hs.o,Int.mul_left_comm,h2,Int.mul_comm]
   have HN:=za hN;have HD:=za hD;have r0:=Aa (d.e f.o) 0 (Oa U 0);have r1:=Aa (d.e f.o) 1 (O I 0 0);have aB:=Za (d.e f.o) 0;have aC:=Za (d.e f.o) 1;have zr:=Ya (d.e f.o);have XW:Ba w wr:=aa.o.trans d;have al:Ua (dv C4 R≠0->s=1\/s = -1):=za (fun h9=>by
    rw[Hs.o];refine Vu (fun h8=>h9 ?_);rw[HD.o,h8];simp)
   clear hD hN;go_wp2_with(go_at_call 213;(with_reducible refine(Zs _ s _ R (L*k) l.ints (by rw[y.o];omega) (fun x K=>by have:=ab.o x K;omega) ao HN.o al.o).mono ?_);rintro e w3 ⟨r3,rfl,ag,ah⟩;obtain⟨s3,a3,m3,c3,rfl,-⟩:=ag.j;obtain⟨ap,ax⟩:=ah.cells);exact bR (v:=Oe #[Oa U s3,O a3 m3 c3]) (by simp[results,Tryz.results277,go_sem,ap,zr,r0,r1]) rfl ⟨_,rfl,ag.keep (Tp (ah.e (d.e f.o)) _ _),eA⟩
def iU(w:Z)(s:Int)(a:Option Oh)(m c:Nat)(xs:List Int)(t3 t4:Ob)(W:Z):Prop:=
 ∃j:Int,t4=Oa U j/\ -1<=j/\j<m/\t3=Oa U (s*dv C4 (xs.drop (j+1).toNat))/\Ba w W/\W.heap[w.heap.size]?=M (Oc #[Oa U s,O a m c] 163 (0,0))
def tK{xs:List Int}{k x}(h:xs[k]?=M x):dv C4 (xs.drop k)=x+10000*dv C4 (xs.drop (k+1)):=by have a:=(lS.1 h).1;rw[List.drop_eq_getElem_cons a,Em,(lS.1 h).2];rfl
def pG{xs}(a:Wd C4 xs):∀k,0<=dv C4 (xs.drop k)/\dv C4 (xs.drop k)<=dv C4 xs:=by intro k;have g:=Km C4 (xs.take k) (xs.drop k);rw[List.take_append_drop]at g;have e:Wd C4 (xs.take k):=fun d h=>a d (List.mem_of_mem_take h);have f:Wd C4 (xs.drop k):=fun d h=>a d (List.mem_of_mem_drop h);have i:=(Yi Ok e).1;have c:=(Yi Ok f).1;have j:=Tj Ok (xs.take k).length;have:1*dv C4 (xs.drop k)<=C4 ^ (xs.take k).length*dv C4 (xs.drop k):=Int.mul_le_mul_of_nonneg_right oM c;omega
def EF w va l(ha:Cd w va l)(h0:-9223372036854775808<=l)(h1:l<=9223372036854775807):Calls Tryz.prog 276 #[va] w fun e w'=>e=.returned (Oa U l)/\Ba w w':=by
 obtain⟨s,a,m,c,rfl,hs⟩:=ha.j;obtain⟨p,hl,hi,hc,hv⟩:=ha.open;have hm:=hi.le;rw[hl]at hm;unfold maxLen at hm;have i:=ZD l;rw[<-hs,<-hv]at i;have t:s = -1\/s=0\/s=1:=by rcases vi l with ⟨e,_⟩|⟨e,_⟩|⟨e,_⟩<;>omega
 have K:=za hl;have L:=za i;have hD:dv C4 p<=9223372036854775808/\(s=1->dv C4 p<=9223372036854775807):=by
  rcases t with h|h|h<;>subst h<;>omega
 have HD:=za hD;clear hs hl hv i ha hD;go_in;go_wp2;go_loopw [3,4] (iU w s a m c p) (fun _ t4 _=>(intOf t4+1).toNat)
 case atStart =>
  refine⟨(m:Int)-1,rfl,by omega,by omega,?_,eA,aN _ _⟩;rw[List.drop_of_length_le (by rw[K.o];omega)];simp
 case round =>
  obtain⟨j,rfl,j0,j1,rfl,hx,d⟩:=hrel;have ab:=Aa d 0 (Oa U s);have ac:=Aa d 1 (O a m c);have z:=za d;clear d;by_cases hj:0<=j
  ·obtain⟨k,rfl⟩:=Int.eq_ofNat_of_zero_le hj;have hk:k<m:=oM;obtain⟨b,o,rfl,ad,v⟩:=(hi.ext hx).open (by rw[K.o];omega);obtain⟨x,f⟩:∃x,p[k]?=M x:=⟨_,gE (by rw[K.o];omega)⟩;have ae:=v k x f;have aa:=hc.1 x (lM f);unfold C4 at aa;have y:=tK f;have R:=pG hc.1 k;have d3:=pG hc.1 (k+1);rw[show ((k:Int)+1).toNat=k+1 by omega];obtain⟨E,hE⟩:=gX (dv C4 (p.drop (k+1)));rw[hE]at y d3 ⊢;rw[y]at R;obtain⟨q,g⟩:=HD.o;obtain⟨D,r⟩:=gX (dv C4 p);rw[r]at R d3 q g;obtain⟨A,hA⟩:=gX (s*E);obtain⟨u,hu⟩:=gX (s*x);have f1:-9223372036854775808<=A*10000/\A*10000<=9223372036854775807/\ -10000<=u/\u<=10000/\ -9223372036854775808<=A*10000+u/\A*10000+u<=9223372036854775807/\A*10000+u=s*(x+10000*E):=by
    rcases t with h|h|h<;>subst h<;>(try have:=g rfl)<;>omega
   obtain⟨f1,f2,f3,f4,f5,f6,f7⟩:=f1;have F7:=za f7;have D1:=za y;clear y R d3 hE q g r f7 v f;rw[hA];go_wp2;go_quiet (fail);go_wp2;go_roundw
   case rel =>
    refine⟨(k:Int)-1,rfl,by omega,by omega,?_,eA,z.o⟩;rw[show ((k:Int)-1+1).toNat=k by omega,D1.o,F7.o]
   case measure=>simp[intOf]
  ·obtain rfl:j = -1:=oM;have e:s*dv C4 (p.drop ((-1:Int)+1).toNat)=l:=by
    simp only[show ((-1:Int)+1).toNat=0 from rfl,List.drop_zero];exact L.o
   rw[e];clear e;go_wp2;go_ret;exact⟨rfl,eA⟩
end
section
open Go.RowKit Go.Shelf Go.Sort Go.Lib
def Qr(s:Sp)(x:Int):Bool:=decide (s.lo<x)&&decide (x<s.hi)
def Ag(s:Sp)(ps:LP):List Int:=(ps.map (·.1)).filter (Qr s)
def Xd(s:Sp):List Int:=compact (og (s.lo::s.hi::Ag s (s.over++s.under)))
def Zb(s:Sp):List Rat:=(Xd s).map fun z:Int=>(z:Rat)
def Qg(s:Sp):Prop:=ke s.over/\ke s.under/\Bd 104000 s.lo/\Bd 104000 s.hi
def Io{ps a}(h:ke ps)(k:ke a):Qg (Ld ps a):=by have c:=yD h;have d:=yD k;refine⟨h,k,?_,?_⟩<;>(unfold Ld;unfold Bd at *;dsimp only;omega)
def RE{s}(h:Qg s):∀z∈Xd s,Bd 104000 z:=by
 intro z g;have:=BG g;rw[Wh]at this;obtain⟨c,d,e,f⟩:=h;rcases List.mem_cons.1 this with rfl|this
 ·exact e
 rcases List.mem_cons.1 this with rfl|this
 ·exact f
 obtain⟨p,a,rfl⟩:=List.mem_map.1 (List.mem_filter.1 this).1;rcases List.mem_append.1 a with a|a
 ·exact(c.2.1 p a).1
 ·exact(d.2.1 p a).1
def XM s ps:(Ag s ps).length<=ps.length:=by unfold Ag;exact nT (List.length_filter_le _ _) sM
def IP{s}{ps:LP}{i p}(h:ps[i]?=M p):Ag s (ps.take (i+1))=Ag s (ps.take i)++(if Qr s p.1 then [p.1]else []):=by
 unfold Ag;rw[ze _ _ _ h,List.map_append,List.filter_append]
 congr 1
 simp[List.filter_cons]
def lU(W0:Z)(base:Nat)(s:Sp)(a:Ob)(g:Nat)(t3 t21:Ob)(W:Z):Prop:=
 ∃i:Nat,i<=(s.over++s.under).length/\t21=Oa U i/\g=(s.over++s.under).length-i/\Ba W0 W/\base<=W.heap.size/\Ia W a (s.over++s.under)/\Ea 3 1 W base t3 ((s.lo::s.hi::Ag s ((s.over++s.under).take i)).map ic)
def kU(W0:Z)(base:Nat)(zs:List Int)(v46:Ob)(g:Nat)(c a:Ob)(W:Z):Prop:=
 ∃i:Nat,i<=zs.length/\a=Oa U i/\g=zs.length-i/\Ba W0 W/\base<=W.heap.size/\Ea 3 1 W base v46 (zs.map ic)/\Nf W base c ((zs.take i).map fun z:Int=>(z:Rat))
def Ox(W:Z) x T:∀ j  u,[ic x].flatten[j]?=M u->(W.alloc (Oc #[Oa U x] T)).cell? ((⟨W.heap.size,0,I⟩:Oh).add j)=M u:=by
 intro j u a
 match j,a with
 | 0,a=>simp[ic]at a;subst a;simp[Addr.add]
 | j+1,a=>simp[ic]at a
def yx x:∀u∈[ic x].flatten,u.oneCell'=true:=PH (zs:=[x])
def AC(W:Z) base x y(h:base<=W.heap.size):Ea 3 1 (W.alloc (Oc #[Oa U x,Oa U y] 3)) base (O (M ⟨W.heap.size,0,I⟩) 2 2) ([x,y].map ic):=
 ⟨ms,by simp[ic],.inr ⟨W.heap.size,2,_,rfl,h,aN _ _,by simp,by unfold maxLen;omega,by simp,by simp[ic]⟩⟩
def FO W{b}(o:b=W.heap.size){e f ps j}(k:Ia W e ps)(l:Ia W f j):Sl 146 1 (Tr 146) (W.alloc (Oc #[e,f] 146)) (O (M ⟨b,0,I⟩) 2 2) [ps,j]:=by
 subst o;refine⟨[[e],[f]],rfl,by simp,⟨by simp,M ⟨W.heap.size,0,I⟩,2,rfl,nE _,by unfold maxLen;omega,.inr ⟨W.heap.size,0,#[e,f],(0,0),rfl,aN _ _,?_⟩⟩,?_⟩
 ·intro i x a;simpa using a
 ·intro i c x d a;have g:Ba W (W.alloc (Oc #[e,f] 146)):=(eR W).alloc _
  match i,d,a with
  | 0,d,a=>simp at d a;subst d a;exact⟨_,rfl,k.f g⟩
  | 1,d,a=>simp at d a;subst d a;exact⟨_,rfl,l.f g⟩
  | i+2,d,a=>simp at d
def II(W:Z) x y z T:∀ j  u,[[x,y,z]].flatten[j]?=M u->(W.alloc (Oc #[x,y,z] T)).cell? ((⟨W.heap.size,0,I⟩:Oh).add j)=M u:=by
 intro j u a
 match j,a with
 | 0,a=>simp at a;subst a;simp[Addr.add]
 | 1,a=>simp at a;subst a;simp[Addr.add]
 | 2,a=>simp at a;subst a;simp[Addr.add]
 | j+3,a=>simp at a
def Nf.app{g wr base l f cs d q}(h:Ea 181 3 g base l (cs++[d]))(j:cs.length=f.length)(k:∀(i:Nat) c q,cs[i]?=M c->f[i]?=M q->PR wr c q)(r:Ja 2 wr g)(o:Fb g (Oe d.toArray) q):Nf g base l (f++[q]):=by
 refine⟨cs++[d],h,by simp[j],fun i c x a e=>?_⟩;by_cases p:i<cs.length
 ·rw[List.getElem?_append_left p]at a;rw[List.getElem?_append_left oM]at e;exact Fb.keep (k i c x a e) r
 ·rw[List.getElem?_append_right oM]at a e;have s:=(lS.1 a).1;simp at s;have:i-cs.length=0:=oM;rw[this]at a;rw[show i-f.length=0 by omega]at e;simp at a e;subst a e;exact o
def QE w v1 v2 s(h1:Ia w v1 s.over)(h2:Ia w v2 s.under)(ar:Qg s):Calls Tryz.prog 216 #[pj s v1 v2] w (Cp w (Zb s)):=by
 obtain⟨a1,m1,rfl⟩:=h1.form;obtain⟨a2,m2,rfl⟩:=h2.form;obtain⟨R,hR⟩:=gX (Cp w (Zb s));rw[hR];have HR:=za hR;have bl:=za ar;clear hR;unfold pj;obtain⟨n1,f1⟩:=gX s.over.length;obtain⟨n2,f2⟩:=gX s.under.length;obtain⟨lo,aB⟩:=gX s.lo;obtain⟨hi,aA⟩:=gX s.hi;rw[f1]at h1 ⊢;rw[f2]at h2 ⊢;rw[aB,aA];have aM:=za aB;have aL:=za aA;have hn:(s.over++s.under).length=n1+n2:=by simp[f1,f2]
 have L:=za hn;have q1:n1<=64:=by rw[<-f1];exact ar.1.2.2
 have q2:n2<=64:=by rw[<-f2];exact ar.2.1.2.2
 have H1:=za (fun(W:Z)(hW:Ba w W)=>h1.f hW);have H2:=za (fun(W:Z)(hW:Ba w W)=>h2.f hW);clear ar f1 f2 aB aA hn h1 h2;go_in;obtain⟨W0,ao⟩:=gX ((w.alloc (Oc #[O a1 n1 m1,O a2 n2 m2,Oa U lo,Oa U hi] 265)));have hB:W0.heap[w.heap.size]?=M (Oc #[O a1 n1 m1,O a2 n2 m2,Oa U lo,Oa U hi] 265 (0,0)):=by rw[<-ao];exact aN _ _
 have bq:Ba w W0:=by rw[<-ao];exact(eR _).alloc _
 have aD:W0.heap.size=w.heap.size+1:=by rw[<-ao];simp
 have b0:=Aa hB 0 (O a1 n1 m1);have b1:=Aa hB 1 (O a2 n2 m2);have b2:=Aa hB 2 (Oa U lo);have b3:=Aa hB 3 (Oa U hi);have HP:=za bq;have ac:=za aD;go_wp2_with(go_at_call 255;(with_reducible refine(ZP _ _ [s.over,s.under] (FO _ ?_ (H1.o _ ?_) (H2.o _ ?_)) ?_).mono ?_);(simp only[wZ];have:=ac.o;omega);(exact HP.o.alloc _);(exact HP.o.alloc _);(have:=L.o;simp only[Fk,List.flatten_cons,List.flatten_nil,List.append_nil];omega);rintro e w3 ⟨v3,rfl,q,av⟩;obtain⟨a3,n3,c3,rfl⟩:=q.i;obtain⟨br,bs⟩:=av.cells);rw[show [s.over,s.under].flatten=s.over++s.under by simp]at q;have bc:=q.pts;have aZ:=q.len;rw[lL,L.o]at aZ;subst aZ;have aE:Ba W0 w3:=(((eR W0).alloc _).alloc _).trans av;have bi:=aE.size;have ab:=(((AC W0 W0.heap.size lo hi (nE _)).ext ((eR _).alloc (Oc #[O a1 n1 m1,O a2 n2 m2] 146))).ext av);rw[aD]at ab;clear br bs av ao b0 b1 b2 b3;go_loopg [3,21] (n1+n2) (lU W0 (w.heap.size+1) s (O a3 (n1+n2) c3))
 case atStart =>
  refine⟨0,by omega,rfl,by rw[L.o];rfl,aE,by rw[<-aD];exact bi,bc,?_⟩;rw[aM.o,aL.o,List.take_zero,show Ag s []=[]from rfl];exact ab
 case round =>
  clear ab bc q aE bi;obtain⟨i,bt,rfl,rfl,hx,aq,au,a⟩:=hrel;rw[L.o]at bt;obtain⟨bn,bj,aS,rfl⟩:=a.i;have a0:=XM s ((s.over++s.under).take i);have a4:((s.over++s.under).take i).length<=i:=by simp;omega
  have ae:((s.lo::s.hi::Ag s ((s.over++s.under).take i)).map ic).length<=200:=by simp;omega
  have b0:=hx.d (Aa hB 0 (O a1 n1 m1));have b1:=hx.d (Aa hB 1 (O a2 n2 m2));have b2:=hx.d (Aa hB 2 (Oa U lo));have b3:=hx.d (Aa hB 3 (Oa U hi));have f:=za a;have Hx:=za hx;have am:=za au;have ak:=za ae;have Hb:=za hB;have bD:=hx.size;have bC:w.heap.size<wr.heap.size:=by have:=ac.o;omega
  by_cases af:i<n1+n2
  ·obtain⟨⟨x,z⟩,aJ⟩:∃p,(s.over++s.under)[i]?=M p:=⟨(s.over++s.under)[i]'(by rw[L.o];exact af),by simp[L.o,af]⟩;obtain⟨b,o,rfl,hb,c0,c1⟩:=au.at' aJ;have bb:=IP (s:=s) aJ;have al:=za bb;have aY:Qr s x=(decide (lo<x)&&decide (x<hi)):=by unfold Qr;rw[aM.o,aL.o]
   have aj:=za aY;clear bb aJ au a hx a0 a4 aY hB;by_cases hc:lo<x/\x<hi
   ·obtain⟨g1,g2⟩:=hc;obtain⟨n3,bA⟩:=gX bj;(have hE:Ag s ((s.over++s.under).take (i+1))=Ag s ((s.over++s.under).take i)++[x]:=by rw[al.o];dsimp only;rw[aj.o];simp[g1,g2]);have HE:=za hE;clear hE al aj;go_wp2_with(at_builtin;refine Mi (T:=3) (t:=47) (z:=Oa U 0) (k:=1) (bytes:=8) (base:=w.heap.size+1) (v:=O bn bj aS) (m:=1) (c:=1) (ad:=⟨wr.heap.size+1,0,I⟩) yC rfl dM dM Tryz.underlying47 rfl _ _ rfl rfl (f.o.ext eA) rfl [ic x] rfl (by simp[ic]) (by simpa using Ox (wr.alloc (Oc #[Oa U x,Oa U z] 91)) x 3) (yx x) (by have:=ak.o;omega) (by simp only[wZ];omega) ?_;intro v' w5 r l ba;obtain⟨a5,n5,c5,rfl⟩:=r.i);go_roundg (n1+n2-(i+1))
    case measure=>have:=L.o;rw[lA]at this;omega
    case rel =>
     have y:Ba wr ((wr.alloc (Oc #[Oa U x,Oa U z] 91)).alloc (Oc #[Oa U x] 3)):=((eR wr).alloc _).alloc _;have aa:=f.o.ext y;have ag:=Yg (base:=w.heap.size+1) l (by simp only[wZ];omega) (fun k hk=>(aa.lt k hk).1);refine⟨i+1,by rw[L.o];omega,by go_num,by rw[L.o],(Hx.o.trans y).D ag (by rw[ac.o];exact nE _),nT aq (nT y.size ag.size),(am.o.f y).E (aa.keepT dM l),?_⟩;rw[HE.o];simpa using r
   ·have hE:Ag s ((s.over++s.under).take (i+1))=Ag s ((s.over++s.under).take i):=by
     rw[al.o];dsimp only;rw[aj.o,if_neg (by simp;omega),List.append_nil]
    have HE:=za hE;clear hE al aj;by_cases g1:lo<x
    ·have g2:¬x<hi:=fun h=>hc ⟨g1,h⟩;go_wp2;go_roundg (n1+n2-(i+1))
     case measure=>have:=L.o;rw[lA]at this;omega
     case rel =>
      have y:Ba wr (wr.alloc (Oc #[Oa U x,Oa U z] 91)):=((eR wr).alloc _);refine⟨i+1,by rw[L.o];omega,by go_num,by rw[L.o],Hx.o.trans y,nT aq y.size,am.o.f y,?_⟩;rw[HE.o];exact f.o.ext y
    ·go_wp2;go_roundg (n1+n2-(i+1))
     case measure=>have:=L.o;rw[lA]at this;omega
     case rel =>
      have y:Ba wr (wr.alloc (Oc #[Oa U x,Oa U z] 91)):=((eR wr).alloc _);refine⟨i+1,by rw[L.o];omega,by go_num,by rw[L.o],Hx.o.trans y,nT aq y.size,am.o.f y,?_⟩;rw[HE.o];exact f.o.ext y
  ·obtain rfl:i=n1+n2:=oM;have hE:(s.over++s.under).take (n1+n2)=s.over++s.under:=lT (by rw[L.o];exact nE _);rw[hE]at a f ae ak;obtain⟨g,rfl,aV,bz⟩:=a.blk sM;have aK:(s.lo::s.hi::Ag s (s.over++s.under)).length<=200:=by rw[lL]at ae;exact ae
   have an:=za aK;obtain⟨L1,aC⟩:=gX ((s.lo::s.hi::Ag s (s.over++s.under)));rw[aC]at a f ae ak aK an;have aO:=za aC;clear hE aC a a0 a4 ae au hx hB;go_wp2_with(first|(go_at_call 256;(with_reducible refine(mP _ _ _ _ _ _ f.o ?_).mono ?_);(have:=an.o;omega);rintro e w5 ⟨rfl,r,aW⟩)|(go_at_call 257;(with_reducible refine(gT _ _ _ _ _ _ r ?_).mono ?_);(have:=an.o;rw[Xs];omega);rintro e w6 ⟨rfl,K,aX⟩));have ap:=Yg (base:=w.heap.size+1) aW oM (fun k hk=>by cases hk;exact aV);have aF:=Yg (base:=w.heap.size+1) aX (nT aq ap.size) (fun k hk=>by cases hk;exact aV);have aT:Ba W0 w6:=(Hx.o.D ap (by rw[ac.o];exact nE _)).D aF (by rw[ac.o];exact nE _);have bf:w.heap.size+1<=w6.heap.size:=by have:=ap.size;have:=aF.size;omega
   obtain⟨zs,aw⟩:=gX (compact (og L1));have bv:zs.length<=200:=by rw[<-aw];have:=CG (og L1);rw[Xs]at this;omega
   have ai:Xd s=zs:=by unfold Xd;rw[aO.o,aw]
   have aP:=za (RE bl.o);rw[ai]at aP;have aR:=za ai;rw[aw]at K ⊢;obtain⟨m,hm⟩:=gX zs.length;rw[hm]at K bv ⊢;have Hm:=za hm;clear hm aw ai r aW aX ap aF f aO aK an ak am b0 b1 b2 b3 Hb af;go_loopg [6,48] m (kU W0 (w.heap.size+1) zs (O (M ⟨g,0,I⟩) m aS))
   case atStart=>exact⟨0,by omega,rfl,by rw[Hm.o];rfl,aT,bf,K,by simpa using Nf.nil _ _⟩
   case round =>
    clear K aT bf;obtain⟨i,bu,rfl,rfl,hx,bx,a,hR⟩:=hrel;rw[Hm.o]at bu;obtain⟨cs,aI,aH,aU⟩:=hR;obtain⟨bo,bw,bp,rfl⟩:=aI.i;have az:=za aI;have ay:=za aU;have ax:=za aH;have f:=za a;have aQ:=za hx;have zg:=(a.lt g rfl).2;by_cases af:i<m
    ·obtain⟨z,hz⟩:∃z,zs[i]?=M z:=⟨zs[i]'(by rw[Hm.o];exact af),by simp[Hm.o,af]⟩;have c0:=a.cell (i:=i) (j:=0) (d:=ic z) (u:=Oa U z) (by rw[lP,hz];rfl) rfl;simp only[Nat.mul_one,Nat.add_zero]at c0;have aG:=aP.o z (lM hz);(have a6:cs.length<=200:=by rw[aH];simp;omega);have bk:=za a6;have HC:=za (fun W=>mm W z (by unfold Bd at aG;omega) (by unfold Bd at aG;omega));(have bg:(zs.take (i+1)).map (fun z:Int=>(z:Rat))=(zs.take i).map (fun z:Int=>(z:Rat))++[(z:Rat)]:=by rw[ze _ _ _ hz,List.map_append];rfl);have bm:=za bg;clear bg hz aI aU aH a hx aG a6;go_wp2_with(first|(go_at_call 215;refine cM (HC.o _) ?_;rintro e w7 ⟨r7,rfl,be,bh⟩;obtain⟨a7,m7,c7,s7,a8,m8,c8,rfl⟩:=be.form)|(at_builtin;refine Mi (T:=181) (t:=296) (z:=Oe #[O I 0 0,Od false,O I 0 0]) (k:=3) (bytes:=56) (base:=w.heap.size+1) (v:=O bo bw bp) (m:=1) (c:=1) (ad:=⟨w7.heap.size,0,I⟩) UI rfl dM dM Tryz.underlying296 rfl _ _ rfl rfl (az.o.ext eA) rfl [[O a7 m7 c7,Od s7,O a8 m8 c8]] rfl sM (II _ _ _ _ _) (by simp[Value.oneCell']) (by have:=bk.o;omega) (by have:=bh.size;simp only[wZ,Yb]at *;omega) ?_;intro v' w8 ah l ba;obtain⟨a9,n9,c9,rfl⟩:=ah.i));go_roundg (m-(i+1))
     case measure=>have:=Hm.o;omega
     case rel =>
      have y:Ba wr (w7.alloc (Oc #[O a7 m7 c7,Od s7,O a8 m8 c8] 181)):=(((eR wr).trans bh).alloc _);have aa:=az.o.ext y;have bB:=y.size;have ag:=Yg (base:=w.heap.size+1) l oM (fun k hk=>(aa.lt k hk).1);refine⟨i+1,by rw[Hm.o];omega,by go_num,by rw[Hm.o],(aQ.o.trans y).D ag (by rw[ac.o];exact nE _),by have:=ag.size;omega,(f.o.ext y).keep (aa.keepT dM l),?_⟩;rw[bm.o];exact Nf.app ah ax.o ay.o (y.keep.trans (aa.keepT dM l)) (be.keep (((eR w7).alloc _).keep.trans (aa.keepT dM l)))
    ·obtain rfl:i=m:=oM;have hE:zs.take i=zs:=lT (by rw[Hm.o];exact nE _);rw[hE]at ay ax;clear hE;go_wp2;rw[<-HR.o];refine⟨_,rfl,?_,HP.o.trans aQ.o⟩;unfold Zb;rw[aR.o];exact Nf.mono ⟨cs,az.o,ax.o,ay.o⟩ oM
end
section
open Go.RowKit Go.Shelf
def Cj(W:Z)(b:Nat):Nat->List Ob->Z
 | _,[]=>W
 | i,v::vs=>Cj (W.setCell ⟨b,i,I⟩ v) b (i+1) vs
def xo(cs:Array Ob):Nat->List Ob->Array Ob
 | _,[]=>cs
 | i,v::vs=>xo (cs.setIfInBounds i v) (i+1) vs
def kC{b T d}:∀ a  i {W c},W.heap[b]?=M (Oc c T d)->(Cj W b i a).heap[b]?=M (Oc (xo c i a) T d)
 | [],_,_,_,h=>h
 | _::a,i,_,_,h=>kC a (i+1) (Sk h i _)
def XE:∀ e d a ,d.length=e.length->xo (a++d).toArray a.length e=(a++e).toArray
 | [],d,a,h=>by rw[List.eq_nil_of_length_eq_zero h];rfl
 | v::e,[],_,h=>by cases h
 | v::e,c::d,a,h=>by
  have f:=XE e d (a++[v]) (by simpa using h);unfold xo;rw[show (a++c::d).toArray.setIfInBounds a.length v=(a++[v]++d).toArray by simp];rw[lA,List.length_singleton]at f;rw[f];simp
def zy{W b}{cs:List Ob}{T c} a(h:W.heap[b]?=M (Oc cs.toArray T c))(d:cs.length=a.length):(Cj W b 0 a).heap[b]?=M (Oc a.toArray T c):=by rw[kC a 0 h];have:=XE a cs [] d;rw[List.nil_append,List.nil_append]at this;rw[List.length_nil]at this;rw[this]
def Jr{b k}(c:k≠b):∀ a  i  W ,(Cj W b i a).heap[k]?=W.heap[k]?
 | [],_,_=>rfl
 | _::a,i,W=>(Jr c a (i+1) _).trans (bS _ _ _ _ c)
def Uo{T b}:∀ a  i {W},ud T W b->Ja T W (Cj W b i a)
 | [],_,_,_=>Ja.refl _ _
 | _::a,i,_,h=>(Ja.y (p:=⟨b,i,I⟩) (Ja.refl _ _) h _).trans (Uo a (i+1) (h.set _ _))
def Gx{w b}(c:w.heap.size<=b):∀ a  i {W},Ba w W->Ba w (Cj W b i a)
 | [],_,_,h=>h
 | _::a,i,_,h=>Gx c a (i+1) (Ba.set (p:=⟨b,i,I⟩) h c _)
def IO{W b c k i o l}{cs ds:List Ob} us a(q:W.heap[b]?=M (Oc cs.toArray k o))(y:W.heap[c]?=M (Oc ds.toArray i l))(g:c≠b)(u:cs.length=us.length)(w:ds.length=a.length):(Cj (Cj W b 0 us) c 0 a).heap[b]?=M (Oc us.toArray k o)/\(Cj (Cj W b 0 us) c 0 a).heap[c]?=M (Oc a.toArray i l)/\(∀j,j≠b->j≠c->(Cj (Cj W b 0 us) c 0 a).heap[j]?=W.heap[j]?)/\(∀T,T≠k->T≠i->Ja T W (Cj (Cj W b 0 us) c 0 a))/\∀v,Ba v W->v.heap.size<=b->v.heap.size<=c->Ba v (Cj (Cj W b 0 us) c 0 a):=by
 have s:=zy us q u;have p:(Cj W b 0 us).heap[c]?=M (Oc ds.toArray i l):=(Jr g us 0 W).trans y;refine⟨(Jr (fun e=>g e.symm) a 0 _).trans s,zy a p w,fun j d f=>(Jr f a 0 _).trans (Jr d us 0 W),fun T d f=>(Uo us 0 ?_).trans (Uo a 0 ?_),fun v d f t=>Gx t a 0 (Gx f us 0 d)⟩
 ·intro x r h;rw[q]at h;cases h;exact d rfl
 ·intro x r h;rw[p]at h;cases h;exact f rfl
end
section
open Go.RowKit Go.Shelf Go.Sort Go.Lib
def Rb.gap{s x}(a:Rb 1 x)(h:Qg s):Rb 23 (Qb s x):=by unfold Qb;exact Rb.sub (k:=11) (a.atR h.1) (a.atR h.2.1)
def yk{k q}(h:Rb k q)(a:k<=1000000):Rb kd q:=h.mono a
def xB w s d e f x(g:Ia w d s.over)(i:Ia w e s.under)(a:Qg s)(j:Fb w f x)(c:Rb 1 x):Calls Tryz.prog 217 #[pj s d e,f] w (jg w (Qb s x)):=
 uL w s d e f x g i a.1 a.2.1 j (c.mono oM) (yk (c.atR a.1) oM) (yk (c.atR a.2.1) oM)
def Pk{s}(h:Qg s):∀q∈Zb s,Rb 1 q:=by intro q a;obtain⟨z,c,rfl⟩:=List.mem_map.1 a;exact Ai (RE h z c)
def yb(f:Rat->Rat)(o:Rat×Rat)(x:Rat):Rat×Rat:=if yd (f x) o.2<0 then (x,f x)else o
def sd(f:Rat->Rat):List Rat->Rat×Rat
 | []=>(0,0)
 | x::xs=>xs.foldl (yb f) (x,f x)
def SF f xs x(h:xs≠[]):sd f (xs++[x])=yb f (sd f xs) x:=by
 cases xs with
 | nil=>exact absurd rfl h
 | cons y a=>simp[sd]
def Vp f{xs}(h:xs≠[]):(sd f xs).1∈xs/\(sd f xs).2=f (sd f xs).1:=by
 cases xs with
 | nil=>exact absurd rfl h
 | cons x xs =>
  have:∀(c:List Rat)(a:Rat×Rat),a.2=f a.1->(c.foldl (yb f) a).2=f (c.foldl (yb f) a).1/\((c.foldl (yb f) a).1=a.1\/(c.foldl (yb f) a).1∈c):=by
   intro c;induction c with
   | nil=>intro a h;exact⟨h,.inl rfl⟩
   | cons y c k =>
    intro a i;rw[List.foldl_cons];have j:(yb f a y).2=f (yb f a y).1:=by unfold yb;split<;>first|rfl|exact i
    obtain⟨d,g⟩:=k _ j;refine⟨d,?_⟩;rcases g with e|e
    ·rw[e];unfold yb;split
     ·exact .inr sM
     ·exact .inl rfl
    ·exact .inr (mC _ e)
  obtain⟨d,g⟩:=this xs (x,f x) rfl;refine⟨?_,d⟩;rcases g with e|e
  ·show (xs.foldl (yb f) (x,f x)).1∈_;rw[e];simp
  ·exact mC _ e
def ml(w:Z)(p q:Rat)(e:Ending)(w':Z):Prop:=∃r s,e=.returned (Oi #[r,s])/\Fb w' r p/\Fb w' s q/\Ba w w'
def Da.set3d{L}{W:Z}{b}(h:Da L W.drew)(a:∀q∈L,b≠q.1.block) u v t:Da L (((W.setCell ⟨b,0,I⟩ u).setCell ⟨b,1,I⟩ v).setCell ⟨b,2,I⟩ t).drew:=
 Da.set3 h a u v t
def RB.put3{W W' d p x a i m c j c2 s}(h:RB W d x)(v:Fb W (Oe #[O a m c,Od s,O i j c2]) p)(f:((W.setCell ⟨d,0,I⟩ (O a m c)).setCell ⟨d,1,I⟩ (Od s)).setCell ⟨d,2,I⟩ (O i j c2)=W'):RB W' d p/\(∀b r,b≠d->RB W b r->RB W' b r)/\Ja 2 W W'/\W'.heap.size=W.heap.size/\(∀w,Ba w W->w.heap.size<=d->Ba w W'):=by
 have e:=h.not;have u:=h.put v;rw[f]at u;refine⟨u,fun b r l k=>?_,?_,?_,fun w k o=>?_⟩
 ·have q:=k.other (p:=⟨d,0,I⟩) (Ne.symm l) e (O a m c);have t:=q.other (p:=⟨d,1,I⟩) (Ne.symm l) (e.set _ _) (Od s);have g:=t.other (p:=⟨d,2,I⟩) (Ne.symm l) ((e.set _ _).set _ _) (O i j c2);rw[f]at g;exact g
 ·have q:=(Ja.refl 2 W).y (p:=⟨d,0,I⟩) e (O a m c);have t:=q.y (p:=⟨d,1,I⟩) (e.set _ _) (Od s);have g:=t.y (p:=⟨d,2,I⟩) ((e.set _ _).set _ _) (O i j c2);rw[f]at g;exact g
 ·rw[<-f];simp
 ·rw[<-f];exact((k.set o _).set o _).set o _
def RB.copy2{W W1 g d f p q p' q' a i e R m c m2 c2 n k n2 k2 s t}(h1:RB W d p')(h2:RB W f q')(j:d≠f)(y:Fb W (Oe #[O a m c,Od s,O i m2 c2]) p)(z:Fb W (Oe #[O e n k,Od t,O R n2 k2]) q)(l:((W.setCell ⟨d,0,I⟩ (O a m c)).setCell ⟨d,1,I⟩ (Od s)).setCell ⟨d,2,I⟩ (O i m2 c2)=W1)(o:((W1.setCell ⟨f,0,I⟩ (O e n k)).setCell ⟨f,1,I⟩ (Od t)).setCell ⟨f,2,I⟩ (O R n2 k2)=g):RB g d p/\RB g f q/\(∀b r,b≠d->b≠f->RB W b r->RB g b r)/\Ja 2 W g/\g.heap.size=W.heap.size/\(∀w,Ba w W->w.heap.size<=d->w.heap.size<=f->Ba w g):=by obtain⟨a1,i,K,a4,a5⟩:=h1.put3 y l;obtain⟨b1,L,b3,b4,b5⟩:=(i _ _ (Ne.symm j) h2).put3 (z.keep K) o;exact⟨L _ _ j a1,b1,fun b r hb u h=>L _ _ u (i _ _ hb h),K.trans b3,b4.trans a4,fun w k v x=>b5 w (a5 w k v) x⟩
def ZV(w:Z)(f:Rat->Rat)(a:List Rat)(g:Nat)(c:Ob)(W:Z):Prop:=
 ∃i:Nat,i<=a.length/\c=Oa U i/\g=a.length-i/\Ba w W/\RB W w.heap.size 0/\RB W (w.heap.size+1) 0/\RB W (w.heap.size+1+1) (sd f (a.take i)).1/\RB W (w.heap.size+1+1+1) (sd f (a.take i)).2
def RO w v v1 v2 s qs(hs:ii w v qs)(h1:Ia w v1 s.over)(h2:Ia w v2 s.under)(ao:Qg s)(hq:∀q∈qs,Rb 1 q):Calls Tryz.prog 243 #[v,.func (.func 217) #[pj s v1 v2] #[]] w (ml w (sd (Qb s) qs).1 (sd (Qb s) qs).2):=by
 obtain⟨a,c,rfl⟩:=hs.form;obtain⟨n,hn⟩:=gX qs.length;rw[hn]at hs ⊢;have aO:=hs.le;unfold maxLen at aO;have Hn:=za hn;have Hq:=za hq;have az:=za ao;have aW:n<=9223372036854775807:=oM;have HG:=za (fun(W:Z)(hW:Ba w W)(vx:Ob)(x:Rat)(hx:Fb W vx x)(hb:Rb 1 x)=>xB W s v1 v2 vx x (h1.f hW) (h2.f hW) ao hx hb);obtain⟨sv,aP⟩:=gX (pj s v1 v2);rw[aP]at HG ⊢;obtain⟨R,hR⟩:=gX (ml w (sd (Qb s) qs).1 (sd (Qb s) qs).2);rw[hR];have HR:=za hR;clear hn hq aO aP ao hR;go_in;go_wp2;go_loopg [13] n (ZV w (Qb s) qs)
 case atStart =>
  have z:∀W,Fb W (Oe #[O I 0 0,Od false,O I 0 0]) 0:=fun W=>Fb.zero _;exact⟨0,by omega,rfl,by rw[Hn.o];rfl,eA,(RB.new (z w) rfl).ext ((((eR _).alloc _).alloc _).alloc _),(RB.new (z _) sM).ext (((eR _).alloc _).alloc _),(RB.new (z _) sM).ext ((eR _).alloc _),RB.new (z _) sM⟩
 case round =>
  obtain⟨i,hi,rfl,rfl,hx,hA,hB,hC,hD⟩:=hrel;rw[Hn.o]at hi;have Hx:=za hx;have HA:=za hA;have HB:=za hB;have HC:=za hC;have HD:=za hD;by_cases aT:i<n
  ·obtain⟨x,am⟩:∃x,qs[i]?=M x:=⟨qs[i]'(by rw[Hn.o];omega),by simp[Hn.o,aT]⟩;obtain⟨b,o,a3,m3,c3,s3,a4,m4,c4,rfl,aV,af,e0,e1,e2⟩:=(hs.f hx).at' am;have aA:=za am;have aK:=Hq.o x (lM am);have aj:=za aK;clear am hA hB hC hx aK;obtain⟨d1,dm,dc,ds,d2,aI,aE,aB,aC,aD,aF,aG,aH,zD,an⟩:=hD.rd;by_cases h0:i=0
   ·(have aR:((i:Int)==0)=true:=by simp;omega);have H0:=za h0;clear h0 hD;go_wp2_with(((go_at_call 217;refine cM (HG.o _ ?_ (Oe #[O a3 m3 c3,Od s3,O a4 m4 c4]) x ?_ aj.o) ?_;(refine Ba.trans Hx.o ?_;exact eA);(refine af.ext ?_;exact eA);rintro e w1 ⟨r1,rfl,aa,f⟩;obtain⟨b1,n1,k1,t1,b2,n2,k2,rfl⟩:=aa.form;obtain⟨ak,al⟩:=f.cells;(have z1:wr.heap.size<w1.heap.size:=(by have:=f.size;simp only[wZ]at this;omega)))));obtain⟨W8,ah⟩:=gX ((w1.alloc (Oc #[O b1 n1 k1,Od t1,O b2 n2 k2] 181)));(have d:Ba wr W8:=by rw[<-ah];exact(((eR _).alloc _).trans f).alloc _);(have g1:RB W8 wr.heap.size x:=by rw[<-ah];exact((RB.new af rfl).ext f).ext ((eR _).alloc _));(have g2:RB W8 w1.heap.size (Qb s x):=by rw[<-ah];exact RB.new aa rfl);have g3:=HC.o.ext d;have g4:=HD.o.ext d;have zW:=d.size;obtain⟨s1,ai⟩:=gX w1.heap.size;rw[ah];simp only[ai]at *;clear ah ak al aa f an aB aC aD aF aG aH ai e0 e1 e2 af;obtain⟨pa,pm,l,ps,j,r,p,p0,p1,p2,_,_,_,pz,hp⟩:=(g1).rd;obtain⟨qa,qm,qc,L,t,y,u,q0,q1,q2,_,_,_,qz,ag⟩:=(g2).rd;obtain⟨_,_,_,_,_,_,_,x0,x1,x2,ap,aq,ar,xz,_⟩:=(g3).rd;obtain⟨_,_,_,_,_,_,_,y0,y1,y2,au,av,aw,yz,_⟩:=(g4).rd;refine jd [(⟨wr.heap.size,0,I⟩,O pa pm l),(⟨wr.heap.size,1,I⟩,Od ps),(⟨wr.heap.size,2,I⟩,O j r p),(⟨s1,0,I⟩,O qa qm qc),(⟨s1,1,I⟩,Od L),(⟨s1,2,I⟩,O t y u)] cA fun g=>?_;refine sN 0 ?_
    (iterate 2 refine Db ?_);refine oN ?_;have ab:∀q∈[((⟨wr.heap.size,0,I⟩:Oh),Value.slice pa pm l),(⟨wr.heap.size,1,I⟩,Od ps),(⟨wr.heap.size,2,I⟩,O j r p),(⟨s1,0,I⟩,O qa qm qc),(⟨s1,1,I⟩,Od L),(⟨s1,2,I⟩,O t y u)],w.heap.size+1+1≠q.1.block:=by
     simp<;>omega
    have ac:∀q∈[((⟨wr.heap.size,0,I⟩:Oh),Value.slice pa pm l),(⟨wr.heap.size,1,I⟩,Od ps),(⟨wr.heap.size,2,I⟩,O j r p),(⟨s1,0,I⟩,O qa qm qc),(⟨s1,1,I⟩,Od L),(⟨s1,2,I⟩,O t y u)],w.heap.size+1+1+1≠q.1.block:=by
     simp<;>omega
    refine Te (i:=2) fun K hK=>?_;go_simp;refine kO hK (Da.set3d g ab _ _ _) (fun g=>?_);clear hK K;refine Te (i:=3) fun K hK=>?_;go_simp;refine kO hK (Da.set3d g ac _ _ _) (fun g=>?_);clear hK K;refine Pb ?_;have e:sd (Qb s) (qs.take (i+1))=(x,Qb s x):=by
     have:=H0.o;subst this;rw[ze _ _ _ aA.o];simp[sd]
    have E:=za e;have ae:=za d;have P:=za (RB.copy2 g3 g4 oM hp ag rfl rfl);clear e d g1 g2 g3 g4;go_wp2;go_roundg (n-(i+1))
    case measure=>have:=Hn.o;omega
    case rel =>
     obtain⟨P1,P2,P3,P4,P5,P6⟩:=P.o;have D:=fun W=>(eR W).drew;exact⟨i+1,by rw[Hn.o];omega,by go_num,by rw[Hn.o],(P6 w (Hx.o.trans ae.o) oM oM).drew,
      (P3 _ _ oM oM (HA.o.ext ae.o)).ext (D _),(P3 _ _ oM oM (HB.o.ext ae.o)).ext (D _),by rw[E.o];exact P1.ext (D _),by rw[E.o];exact P2.ext (D _)⟩
   ·(have aR:((i:Int)==0)=false:=by simp;omega);have H0:=za h0;clear h0 hD;have aJ:Rb 23 (sd (Qb s) (qs.take i)).2:=by
     have aU:qs.take i≠[]:=fun h=>by
      (have h2:(qs.take i).length=0:=by rw[h];rfl);rw[List.length_take,Hn.o]at h2;have:=H0.o;omega
     obtain⟨j1,j2⟩:=Vp (Qb s) aU;rw[j2];exact Rb.gap (Hq.o _ (List.mem_of_mem_take j1)) az.o
    have aQ:=za aJ;clear aJ;have e:sd (Qb s) (qs.take (i+1))=yb (Qb s) (sd (Qb s) (qs.take i)) x:=by
     rw[ze _ _ _ aA.o,SF];intro h;(have h2:(qs.take i).length=0:=by rw[h];rfl);rw[List.length_take,Hn.o]at h2;have:=H0.o;omega
    have E:=za e;clear e;obtain⟨k,hk⟩:=gX (yd (Qb s x) (sd (Qb s) (qs.take i)).2);have Hk:=za hk;have ax:=za (yk (Rb.gap aj.o az.o) oM);have ay:=za (yk aQ.o oM);clear hk;have aX:w.heap.size+1+1+1<wr.heap.size+1:=oM;by_cases aS:k<0
    ·go_wp2_with(first|(go_at_call 217;refine cM (HG.o _ ?_ (Oe #[O a3 m3 c3,Od s3,O a4 m4 c4]) x ?_ aj.o) ?_;(refine Ba.trans Hx.o ?_;exact eA);(refine af.ext ?_;exact eA);rintro e w1 ⟨r1,rfl,aa,f⟩;obtain⟨b1,n1,k1,t1,b2,n2,k2,rfl⟩:=aa.form;obtain⟨ak,al⟩:=f.cells;(have z1:wr.heap.size<w1.heap.size:=(by have:=f.size;simp only[wZ]at this;omega));(have z2:w.heap.size+1+1+1<w1.heap.size:=oM))|(go_at_call 214;(with_reducible refine(Sn _ (Oe #[O b1 n1 k1,Od t1,O b2 n2 k2]) (Oe #[O d1 dm dc,Od ds,O d2 aI aE]) _ _ (aa.ext ?_) (an.ext ?_) ax.o ay.o).mono ?_);exact eA;exact eA;rintro e w3 ⟨rfl,ad⟩;(try rw[Hk.o]);obtain⟨aL,aM⟩:=ad.cells));have d:Ba wr w3:=((((eR _).alloc _).trans f).alloc _).trans ad;have g1:RB w3 wr.heap.size x:=(((RB.new af rfl).ext f).ext ((eR _).alloc _)).ext ad;have g2:RB w3 w1.heap.size (Qb s x):=(RB.new aa rfl).ext ad;have g3:=HC.o.ext d;have g4:=HD.o.ext d;have zW:=d.size;obtain⟨s1,ai⟩:=gX w1.heap.size;simp only[ai]at *;clear ak al aa f ad aL aM an aB aC aD aF aG aH ai e0 e1 e2 af;obtain⟨pa,pm,l,ps,j,r,p,p0,p1,p2,_,_,_,pz,hp⟩:=(g1).rd;obtain⟨qa,qm,qc,L,t,y,u,q0,q1,q2,_,_,_,qz,ag⟩:=(g2).rd;obtain⟨_,_,_,_,_,_,_,x0,x1,x2,ap,aq,ar,xz,_⟩:=(g3).rd;obtain⟨_,_,_,_,_,_,_,y0,y1,y2,au,av,aw,yz,_⟩:=(g4).rd;refine jd [(⟨wr.heap.size,0,I⟩,O pa pm l),(⟨wr.heap.size,1,I⟩,Od ps),(⟨wr.heap.size,2,I⟩,O j r p),(⟨s1,0,I⟩,O qa qm qc),(⟨s1,1,I⟩,Od L),(⟨s1,2,I⟩,O t y u)] cA fun g=>?_;refine sN 0 ?_
     (iterate 2 refine Db ?_);refine oN ?_;have ab:∀q∈[((⟨wr.heap.size,0,I⟩:Oh),Value.slice pa pm l),(⟨wr.heap.size,1,I⟩,Od ps),(⟨wr.heap.size,2,I⟩,O j r p),(⟨s1,0,I⟩,O qa qm qc),(⟨s1,1,I⟩,Od L),(⟨s1,2,I⟩,O t y u)],w.heap.size+1+1≠q.1.block:=by
      simp<;>omega
     have ac:∀q∈[((⟨wr.heap.size,0,I⟩:Oh),Value.slice pa pm l),(⟨wr.heap.size,1,I⟩,Od ps),(⟨wr.heap.size,2,I⟩,O j r p),(⟨s1,0,I⟩,O qa qm qc),(⟨s1,1,I⟩,Od L),(⟨s1,2,I⟩,O t y u)],w.heap.size+1+1+1≠q.1.block:=by
      simp<;>omega
     refine Te (i:=2) fun K hK=>?_;go_simp;refine kO hK (Da.set3d g ab _ _ _) (fun g=>?_);clear hK K;refine Te (i:=3) fun K hK=>?_;go_simp;refine kO hK (Da.set3d g ac _ _ _) (fun g=>?_);clear hK K;refine Pb ?_;(have e:yb (Qb s) (sd (Qb s) (qs.take i)) x=(x,Qb s x):=by unfold yb;rw[Hk.o,if_pos aS]);have E':=za (E.o.trans e);have ae:=za d;have P:=za (RB.copy2 g3 g4 oM hp ag rfl rfl);clear e d g1 g2 g3 g4;go_wp2;go_roundg (n-(i+1))
     case measure=>have:=Hn.o;omega
     case rel =>
      obtain⟨P1,P2,P3,P4,P5,P6⟩:=P.o;have D:=fun W=>(eR W).drew;exact⟨i+1,by rw[Hn.o];omega,by go_num,by rw[Hn.o],(P6 w (Hx.o.trans ae.o) oM oM).drew,
       (P3 _ _ oM oM (HA.o.ext ae.o)).ext (D _),(P3 _ _ oM oM (HB.o.ext ae.o)).ext (D _),by rw[E'.o];exact P1.ext (D _),by rw[E'.o];exact P2.ext (D _)⟩
    ·go_wp2_with(first|(go_at_call 217;refine cM (HG.o _ ?_ (Oe #[O a3 m3 c3,Od s3,O a4 m4 c4]) x ?_ aj.o) ?_;(refine Ba.trans Hx.o ?_;exact eA);(refine af.ext ?_;exact eA);rintro e w1 ⟨r1,rfl,aa,f⟩;obtain⟨b1,n1,k1,t1,b2,n2,k2,rfl⟩:=aa.form;obtain⟨ak,al⟩:=f.cells;(have z1:wr.heap.size<w1.heap.size:=(by have:=f.size;simp only[wZ]at this;omega));(have z2:w.heap.size+1+1+1<w1.heap.size:=oM))|(go_at_call 214;(with_reducible refine(Sn _ (Oe #[O b1 n1 k1,Od t1,O b2 n2 k2]) (Oe #[O d1 dm dc,Od ds,O d2 aI aE]) _ _ (aa.ext ?_) (an.ext ?_) ax.o ay.o).mono ?_);exact eA;exact eA;rintro e w3 ⟨rfl,ad⟩;(try rw[Hk.o]);obtain⟨aL,aM⟩:=ad.cells));have d:Ba wr w3:=((((eR _).alloc _).trans f).alloc _).trans ad;(have e:yb (Qb s) (sd (Qb s) (qs.take i)) x=sd (Qb s) (qs.take i):=by unfold yb;rw[Hk.o,if_neg oM]);have E':=za (E.o.trans e);go_roundg (n-(i+1))
     case measure=>have:=Hn.o;omega
     case rel=>exact⟨i+1,by rw[Hn.o];omega,by go_num,by rw[Hn.o],Hx.o.trans d,HA.o.ext d,HB.o.ext d,by rw[E'.o];exact HC.o.ext d,by rw[E'.o];exact HD.o.ext d⟩
  ·obtain rfl:i=n:=oM;have e:qs.take i=qs:=lT (by rw[Hn.o];exact nE _);rw[e]at hC hD HC HD;clear e;have zW:=hx.size;have zD:w.heap.size+1+1+1<wr.heap.size:=by obtain⟨_,_,_,_,_,_,_,_,_,_,_,_,_,z,_⟩:=hD.rd;exact z
   go_wp2;obtain⟨pa,pm,l,ps,j,r,p,p0,p1,p2,_,_,_,pz,hp⟩:=(hC).rd;obtain⟨qa,qm,qc,L,t,y,u,q0,q1,q2,_,_,_,qz,ag⟩:=(hD).rd;obtain⟨_,_,_,_,_,_,_,x0,x1,x2,ap,aq,ar,xz,_⟩:=(hA).rd;obtain⟨_,_,_,_,_,_,_,y0,y1,y2,au,av,aw,yz,_⟩:=(hB).rd;refine jd [(⟨w.heap.size+1+1,0,I⟩,O pa pm l),(⟨w.heap.size+1+1,1,I⟩,Od ps),(⟨w.heap.size+1+1,2,I⟩,O j r p),(⟨w.heap.size+1+1+1,0,I⟩,O qa qm qc),(⟨w.heap.size+1+1+1,1,I⟩,Od L),(⟨w.heap.size+1+1+1,2,I⟩,O t y u)] cA fun g=>?_;refine sN 0 ?_
   iterate 2 refine Db ?_
   refine oN ?_;have ab:∀q∈[((⟨w.heap.size+1+1,0,I⟩:Oh),Value.slice pa pm l),(⟨w.heap.size+1+1,1,I⟩,Od ps),(⟨w.heap.size+1+1,2,I⟩,O j r p),(⟨w.heap.size+1+1+1,0,I⟩,O qa qm qc),(⟨w.heap.size+1+1+1,1,I⟩,Od L),(⟨w.heap.size+1+1+1,2,I⟩,O t y u)],w.heap.size≠q.1.block:=by
    simp<;>omega
   have ac:∀q∈[((⟨w.heap.size+1+1,0,I⟩:Oh),Value.slice pa pm l),(⟨w.heap.size+1+1,1,I⟩,Od ps),(⟨w.heap.size+1+1,2,I⟩,O j r p),(⟨w.heap.size+1+1+1,0,I⟩,O qa qm qc),(⟨w.heap.size+1+1+1,1,I⟩,Od L),(⟨w.heap.size+1+1+1,2,I⟩,O t y u)],w.heap.size+1≠q.1.block:=by
    simp<;>omega
   refine Te (i:=2) fun K hK=>?_;go_simp;refine kO hK (Da.set3d g ab _ _ _) (fun g=>?_);clear hK K;refine Te (i:=3) fun K hK=>?_;go_simp;refine kO hK (Da.set3d g ac _ _ _) (fun g=>?_);clear hK K;refine Pb ?_;have P:=za (RB.copy2 hA hB oM hp ag rfl rfl);go_wp2;refine bR (v:=Oi #[Oe #[O pa pm l,Od ps,O j r p],Oe #[O qa qm qc,Od L,O t y u]]) (by simp[results,Tryz.results243,go_sem,x0,x1,x2,ap,aq,ar,y0,y1,y2,au,av,aw]) rfl ?_;rw[<-HR.o];obtain⟨P1,P2,P3,P4,P5,P6⟩:=P.o;exact⟨_,_,rfl,(hp.keep P4).ext (eR _).drew,(ag.keep P4).ext (eR _).drew,(P6 w Hx.o oM oM).drew⟩
end
section
open Go.RowKit Go.Shelf
attribute [local go_sem] Oper.semAt_some
def TN{P T t w base v sl xs l ops o a K Q E}(d:(P.info? T).map (fun i=>(i.zero,i.size,i.bytes))=M (M (Oa U 0),1,8))(y:P.underlying t=M (.slice T))(k:o.guard=I) s x(r:o.op = .call { callee:=.builtin .append,args:=#[s,x],argTypes:=#[t,t] })(u:a.eval s=v)(f:Cb T w base v xs)
  (L:a.eval x=sl)(j:Mc T w sl l)(e:xs.length+l.length<=1000000000000)(c:base<=w.heap.size)
  (h:∀v' w',Cb T w' base v' (xs++l)->Below base w w'->K (a.put o.dst v') w') :
  if Region.wanted o (yielded ops a.tmps)=true then Oper.wp P o a w K Q else E:=by
 have z:Region.wanted o (yielded ops a.tmps)=true:=by simp[Region.wanted,k]
 rw[if_pos z];obtain⟨v',w',g,p,q,R⟩:=Wx (P:=P) o.type d y f j e c;unfold Oper.wp;simp[execOp,r,resolve,invoke,builtin,u,L,g,Result.andThen];exact h v' w' p q
def Mx(w:Z) T x:Cb T (w.alloc (Oc #[Oa U x] T)) w.heap.size (O (M ⟨w.heap.size,0,I⟩) 1 1) [x]:=
 ⟨by simp,.inr ⟨w.heap.size,1,_,by simp,nE _,aN w _,by simp,by unfold maxLen;omega,by simp,by simp[nc]⟩⟩
def Rf.open{w base s n a m c}(h:Rf w base (Oe #[Oa U s,O a m c]) n):∃ds,ds.length=m/\Cb 3 w base (O a m c) ds/\Cg C4 ds/\dv C4 ds=(n.natAbs:Int):=by obtain⟨sl,ds,e,d,f,g⟩:=h;cases e;exact⟨ds,d.len.symm,d,f,g⟩
def OB(W:Z)(base b:Nat)(n:Int):Prop:=∃s a m c,W.heap[b]?=M (Oc #[Oa U s,O a m c] 163 (0,0))/\Rf W base (Oe #[Oa U s,O a m c]) n
section
variable {W W':Z} {b base:Nat} {n n':Int}
def OB.nb(h:OB W base b n):NB W b n:=by obtain⟨s,a,m,c,d,e⟩:=h;exact⟨s,a,m,c,d,e.isN⟩
def OB.ext(h:OB W base b n)(k:Ba W W'):OB W' base b n:=by obtain⟨s,a,m,c,d,e⟩:=h;exact⟨s,a,m,c,k.e d,e.ext k⟩
def OB.put{s a m c}(h:NB W b n)(f:Rf W base (Oe #[Oa U s,O a m c]) n'):OB ((W.setCell ⟨b,0,I⟩ (Oa U s)).setCell ⟨b,1,I⟩ (O a m c)) base b n':=by have d:=h.not;obtain⟨l,g,k,i,e,j⟩:=h;exact⟨s,a,m,c,Dk e _ _,f.keep (((Ja.refl _ W).y d _).y (d.set _ _) _)⟩
def OB.setRow{g i}(h:OB W base b n)(r:g≠b)(t:g<base) u:OB (W.setCell ⟨g,i,I⟩ u) base b n:=by obtain⟨s,a,m,c,o,q⟩:=h;refine⟨s,a,m,c,(bS _ _ _ _ (fun e=>r e.symm)).trans o,?_⟩;obtain⟨sl,f,j,d,k,l⟩:=q;cases j;exact⟨_,f,rfl,d.setOther (p:=⟨g,i,I⟩) (fun e=>by have:=(World.ownsRow.lt d g e).1;omega) _,k,l⟩
def OB.drew(h:OB W base b n):OB W.drew base b n:=h
end
structure zU (W0:Z) (m:Nat) (xs:List Int) (D:Int) (g7 g8:Nat) (z8:Array Ob) (j:Int) (qs:List Int) (R:Int) (W:Z):Prop where
 j0:-1<=j
 j1:j<m
 ql:qs.length=m
 row:Cb 3 W W0.heap.size (O (M ⟨W0.heap.size,0,I⟩) m m) qs
 qd:Wd C4 qs
 rest:OB W (W0.heap.size+1) g7 R
 size:W.heap[g8]?=M (Oc z8 163 (0,0))
 val:dv C4 (xs.drop (j+1).toNat)=dv C4 (qs.drop (j+1).toNat)*D+R
 r0:0<=R
 r1:R<D
 ext:Ba W0 W
def AU(W0:Z)(m:Nat)(xs:List Int)(D:Int)(a c:Nat)(d:Array Ob)(t9:Ob)(W:Z):Prop:=
 ∃j qs R,t9=Oa U j/\zU W0 m xs D a c d j qs R W
def BU(d:Z)(D R:Int)(a c:Ob)(W:Z):Prop:=
 ∃lo hi:Int,a=Oa U lo/\c=Oa U hi/\0<=lo/\lo<hi/\hi<=10000/\D*lo<=R/\R<D*hi/\Ba d W
def ZG(W0:Z)(c d:Nat)(e:Array Ob)(N R:Int)(a:Ob)(W:Z):Prop:=
 ∃g13,a=Og (M ⟨g13,0,I⟩)/\c<g13/\d<g13/\NB W g13 N/\NB W c R/\W.heap[d]?=M (Oc e 163 (0,0))/\Ba W0 W
def fB{k D x}(h:Lm k D)(c:0<=D)(d:0<=x)(a:x<=D*10000):Lm (k+1) x:=by
 have e:B ^ (k+1)=B ^ k*16777216:=by rw[Int.pow_succ];rfl
 have p:=Tj zj k;unfold Lm at *;rw[e];omega
def zI{Q D R n:Int}(h:n=Q*D+R)(c:0<D)(d:0<=R)(a:0<=Q):Q<=n:=by have:Q*1<=Q*D:=Int.mul_le_mul_of_nonneg_left oM a;omega
abbrev Ad:Nat:=300000
def Iv w va vb na nd(ha:Cd w va na)(hb:Cd w vb nd)(bl:Lm Ad na)(bT:Lm Ad nd)(hd:nd≠0):Calls Tryz.prog 249 #[va,vb] w fun e w'=>∃r1 r2,e=.returned (Oi #[r1,r2])/\Cd w' r1 (na/nd)/\Cd w' r2 (na%nd)/\Ba w w':=by
 obtain⟨s,a,m,c,rfl,hs⟩:=ha.j;obtain⟨s',a',m',c',rfl,bo⟩:=hb.j;obtain⟨xs,hl,hi,hc,hv⟩:=ha.open;have hm:=Lr bl hc hv;rw[hl]at hm;unfold Ad at hm;obtain⟨p,hp⟩:=gX (s'*s');have aH:=hb.abs;rw[hp]at aH;obtain⟨D,hD⟩:=gX ((nd.natAbs:Int));rw[hD]at aH;have bE:0<D:=oM;have cS:0<=p/\p<=1:=by rcases vi nd with ⟨e,_⟩|⟨e,_⟩|⟨e,_⟩<;>(rw[<-hp,bo,e];decide)
 obtain⟨dE,dF⟩:=cS;have HD:=za hD;have Hp:=za hp;have Hs:=za hs;have bA:=za bo;have Hl:=za hl;have Hv:=za hv;have co:=za bl;have aJ:Ua (Lm Ad D):=za (by rw[<-hD];exact bT.abs);have Hd:=za hd;clear hs bo hl hv hp hD bl bT hd;obtain⟨W0,z⟩:=gX ((((w.alloc (Oc #[Oa U s,O a m c] 163)).alloc (Oc #[Oa U s',O a' m' c'] 163)).alloc (Oc #[Oa U 0,O I 0 0] 163)).alloc (Oc #[Oa U 0,O I 0 0] 163));have z0:w.heap.size+1+1+1+1=W0.heap.size:=by rw[<-z];simp
 have z1:w.heap.size<W0.heap.size:=oM;have z2:w.heap.size+1<W0.heap.size:=oM;have z3:w.heap.size+1+1<W0.heap.size:=oM;have z4:w.heap.size+1+1+1<W0.heap.size:=oM;have p0:W0.cell? ⟨w.heap.size,0,I⟩=M (Oa U s):=by rw[<-z];clear z;go_simp
 have p1:W0.cell? ⟨w.heap.size,1,I⟩=M (O a m c):=by rw[<-z];clear z;go_simp
 have q0:W0.cell? ⟨w.heap.size+1,0,I⟩=M (Oa U s'):=by rw[<-z];clear z;go_simp
 have q1:W0.cell? ⟨w.heap.size+1,1,I⟩=M (O a' m' c'):=by rw[<-z];clear z;go_simp
 have cz:Ua (W0.heap[w.heap.size+1+1]?=M (Oc #[Oa U 0,O I 0 0] 163 (0,0))):=by rw[<-z];exact za (by rw[Below.heap_alloc _ _ _ sM];exact mc _ _ _ sM)
 have cB:Ua (W0.heap[w.heap.size+1+1+1]?=M (Oc #[Oa U 0,O I 0 0] 163 (0,0))):=by rw[<-z];exact za (mc _ _ _ sM)
 have aF:Ua (Ba w W0):=by rw[<-z];exact za eA
 go_in;go_upto_region 3 with (first|(at_make;refine yw (n:=m) Ek Tryz.underlying47 rfl _ _ rfl _ rfl rfl rfl oM ?_;(try rw[z]);intro w1 aD ac b8;(try simp only[z0]at aD);(have e0:=ac.d p0);(have e1:=ac.d p1);(have e2:=ac.d q0);(have e3:=ac.d q1))|(go_at_call 275;(with_reducible refine(BB _ s' a' m' c' nd ?_).mono ?_);(refine hb.ext ?_;exact aF.o.trans ac);rw[Hp.o];rintro e w2 ⟨rfl,aA⟩));clear z;have am:Ba W0 w2:=ac.trans aA;have zg:W0.heap.size<w2.heap.size:=Nat.lt_of_lt_of_le b8 aA.size;have y1:w.heap.size<w2.heap.size:=oM;have y2:w.heap.size+1<w2.heap.size:=oM;replace e0:=aA.d e0;replace e1:=aA.d e1;replace e2:=aA.d e2;replace e3:=aA.d e3;go_wp2;go_loopw [9] (AU W0 m xs D w2.heap.size (w2.heap.size+1) #[Oa U p,O a' m' c']) (fun t9 _=>(intOf t9+1).toNat)
 case atStart =>
  have k1:((w2.alloc (Oc #[Oa U 0,O I 0 0] 163)).alloc (Oc #[Oa U p,O a' m' c'] 163)).heap[w2.heap.size]?=M (Oc #[Oa U 0,O I 0 0] 163 (0,0)):=Ei ..;refine⟨(m:Int)-1,List.replicate m 0,0,rfl,by omega,by omega,by simp,?_,?_,⟨0,I,0,0,k1,Rf.nil _ _⟩,mc _ _ _ sM,?_,by omega,bE,(am.alloc _).alloc _⟩
  ·exact((aD.keep aA.keep).alloc _).alloc _
  ·intro d hd;rw[(List.mem_replicate.1 hd).2];unfold C4;omega
  ·rw[List.drop_of_length_le (by rw[Hl.o];omega),List.drop_of_length_le sM];simp
 case round =>
  obtain⟨g,bQ⟩:=gX w2.heap.size;rw[bQ]at hrel ⊢;have dP:W0.heap.size<g:=oM;clear aD e0 e1 e2 e3 ac aA am b8 y1 y2 zg bQ;obtain⟨j,qs,R,rfl,Sq⟩:=hrel;have j0:=Sq.j0;have j1:=Sq.j1;have ah:=Sq.ext;have e0:=ah.d p0;have e1:=ah.d p1;have d0:=Aa Sq.size 0 (Oa U p);have d1:=Aa Sq.size 1 (O a' m' c');have zd:=Ya Sq.size;have r:=za Sq;by_cases hj:0<=j
  ·obtain⟨k,rfl⟩:=Int.eq_ofNat_of_zero_le hj;obtain⟨sr,ar,mr,cr,aa,aC⟩:=Sq.rest;have t0:=Aa aa 0 (Oa U sr);have t1:=Aa aa 1 (O ar mr cr);have zt:=Ya aa;have cf:=Za aa 0;have Rj:=Za aa 1;obtain⟨rs,rl,ro,rc,rv⟩:=aC.open;have Rl:=za rl;have aY:=Sq.r0;have bi:=Sq.r1;have bK:(R.natAbs:Int)=R:=oM;rw[bK]at rv;have Rv:=za rv;have dG:rs.length<=2*300000:=Lr (k:=Ad) (n:=R) (by have:=aJ.o;unfold Lm at *;omega) rc (by rw[bK];exact rv);obtain⟨b,o,rfl,dD,ac⟩:=(hi.ext (aF.o.trans ah)).open (by rw[Hl.o];omega);obtain⟨x,a4⟩:∃x,xs[k]?=M x:=⟨_,gE (by rw[Hl.o];omega)⟩;obtain⟨q,bX⟩:∃q,qs[k]?=M q:=⟨_,gE (by rw[Sq.ql];omega)⟩;have cK:=ac k x a4;have u:=hc.1 x (lM a4);unfold C4 at u;have cC:=za a4;have dq:=za bX;have ds:=za ac;have k0:(0:Int)<=(k:Int):=oM;have k1:(k:Int)<(m:Int):=oM;have bZ:Mc 3 wr (O ar mr cr) rs:=ro.ints;have HN:Ua (0<=x+10000*R):=za oM;clear rl rv Sq ac a4 bX;go_wp2;refine Ti (fun i=>decide (9<i)) (Da [(⟨w.heap.size,1,I⟩,O (M ⟨b,o,I⟩) m c),(⟨b,o+k,I⟩,Oa U x),(⟨g,1,I⟩,O ar mr cr),(⟨g,0,I⟩,Oa U sr)]) kM ?_ (fun f=>?_)
   ·exact cA
   refine sN 0 ?_
   iterate 5 refine Ui ?_
   refine oN ?_;refine sN 6 ?_
   iterate 2 refine Ui ?_
   refine oN ?_;have bF:=f;refine Ed (i:=5) fun K t=>?_;go_simp;refine kO t (fun _=>cE f ((eR wr.drew).alloc _)) (fun f=>?_);clear t K;have f:=f rfl;refine Ed (i:=8) fun K t=>?_;refine TN Ek Tryz.underlying47 rfl _ _ rfl rfl (Mx wr.drew 3 x) rfl (bZ.ext ((eR wr).drew.alloc _)) (by simp;omega) sM ?_;intro v5 w5 al aB;have X5:Ba wr w5:=((eR wr).drew.alloc (Oc #[Oa U x] 3)).D aB (nE _);refine kO t (fun _=>cE bF (((eR wr.drew).alloc (Oc #[Oa U x] 3)).D aB (nE _))) (fun f=>?_);clear t K;replace f:=f rfl;obtain⟨a5,c5,rfl⟩:=al.form;simp only[List.singleton_append,List.length_cons]at al ⊢;have bO:dv C4 (x::rs)=x+10000*R:=by
    rw[Em,Rv.o];rfl
   have bx:=za bO;clear bO;refine Ed (i:=9) fun K t=>?_;go_simp;(with_reducible refine cM (Bx _ 1 _ (x::rs) (x+10000*R) al.ints (by simp;omega) (fun y hy=>?_) (by rw[bx.o];exact HN.o) (by rw[bx.o];omega) (fun _=>.inl rfl)) ?_)
   ·rcases List.mem_cons.1 hy with rfl|hy
    ·omega
    ·have:=rc.1 y hy;unfold C4 at this;omega
   rintro e w6 ⟨r6,rfl,aR,bp⟩;obtain⟨s6,a6,m6,c6,rfl,b9⟩:=aR.j;have dr:=za b9;clear b9;go_wp2;refine kO t (fun _=>cE f bp) (fun f=>?_);clear t K;replace f:=f rfl;have X6:Ba wr w6:=X5.trans bp;have dm:g<w6.heap.size:=X6.lt zt;obtain⟨cH,cN⟩:=X6.cells;refine Ed (i:=10) fun K t=>?_;go_simp;refine kO t (fun h=>nomatch h) (fun f=>?_);clear t K;refine Ub kM ?_ _;obtain⟨Rn,bj⟩:=gX (x+10000*R);rw[bj]at aR;have cx:=za bj;have bL:0<=Rn:=oM;have bM:Rn<D*10000:=oM;have aV:NB w6 g R:=(NB.ext ⟨sr,ar,mr,cr,aa,aC.isN⟩ X6);obtain⟨wi,az⟩:=gX ((w6.setCell ⟨g,0,I⟩ (Oa U s6)).setCell ⟨g,1,I⟩ (O a6 m6 c6));have i1:OB wi (W0.heap.size+1) g Rn:=by
    rw[<-az];exact OB.put aV (aR.mono (by have:=ah.size;have:=X5.size;omega))
   have i2:wi.heap[g+1]?=M (Oc #[Oa U p,O a' m' c'] 163 (0,0)):=by
    rw[<-az,bS _ _ _ _ sM,bS _ _ _ _ sM];exact X6.e r.o.size
   have i3:Cb 3 wi W0.heap.size (O (M ⟨W0.heap.size,0,I⟩) m m) qs:=by
    rw[<-az];exact((r.o.row.keep X6.keep).setOther (p:=⟨g,0,I⟩) (by simp[Value.ownBlock];omega) _).setOther (p:=⟨g,1,I⟩) (by simp[Value.ownBlock];omega) _
   have i4:Ba W0 wi:=by
    rw[<-az];exact((ah.trans X6).set (p:=⟨g,0,I⟩) dO _).set (p:=⟨g,1,I⟩) dO _
   have i5:Cd wi (Oe #[Oa U s6,O a6 m6 c6]) Rn:=by rw[<-az];exact aR.isN.keep (((Ja.refl _ w6).y aV.not _).y (aV.not.set _ _) _)
   have i6:wi.heap[g]?=M (Oc #[Oa U s6,O a6 m6 c6] 163 (0,0)):=by
    obtain⟨u1,u2,u3,u4,u5,u6⟩:=aV;rw[<-az];exact Dk u5 _ _
   have bw:=za r.o.val;have bv:=za r.o.qd;have aL:=za r.o.ql;rw[az];clear az aR bp cH cN f bF X5 X6 aV al aB aC aa bZ ro rc cK r e0 e1 d0 d1 t0 t1 zd zt dm bj;have m0:=Aa i6 0 (Oa U s6);have m1:=Aa i6 1 (O a6 m6 c6);have m2:=Aa i2 0 (Oa U p);have m3:=Aa i2 1 (O a' m' c');have zi:=Ya i2;have dh:g<wi.heap.size:=oM;obtain⟨wo,rfl⟩:∃wo:Z,wo=wr:=⟨_,rfl⟩;go_wp2;go_loopw [10,11] (BU wi D Rn) (fun c4 da _=>(intOf da-intOf c4).toNat)
   case atStart=>exact⟨0,10000,rfl,rfl,by omega,by omega,by omega,by omega,bM,eR _⟩
   case round =>
    obtain⟨lo,aG,rfl,rfl,l0,l1,l2,l3,l4,Xi⟩:=hrel;have M0:=Xi.d m0;have M1:=Xi.d m1;have M2:=Xi.d m2;have M3:=Xi.d m3;have ZW:g+1<wr.heap.size:=Xi.lt zi;have bg:g<wr.heap.size:=oM;have bf:Ba w wr:=aF.o.trans (i4.trans Xi);have aK:Ua (Lm Dc D):=za (aJ.o.mono dM);by_cases Af:1<aG-lo
    ·obtain⟨md,cP⟩:=gX (Int.tdiv (lo+aG) 2);(have bU:md=(lo+aG)/2:=by rw[<-cP,Int.tdiv_eq_ediv_of_nonneg oM]);have cW:lo<md:=oM;have cY:md<aG:=oM;have bq:0<=md:=oM;have ce:md<=10000:=oM;obtain⟨P,hP⟩:=gX (D*md);(have bH:0<=P:=by rw[<-hP];exact Int.mul_nonneg oM bq);obtain⟨T,hT⟩:=gX (((P.natAbs:Int)-(Rn.natAbs:Int)).sign);have aZ:T<=0 ↔ P<=Rn:=by
      rw[<-hT];rcases vi ((P.natAbs:Int)-(Rn.natAbs:Int))with ⟨e,_⟩|⟨e,_⟩|⟨e,_⟩<;>omega
     have HT:=za hT;have HP:=za hP;have a2:=i5.ext Xi;clear bU hT hP;by_cases bm:P<=Rn
     ·have cF:T<=0:=aZ.2 bm;clear aZ;go_wp2;go_region_held3 (fun W=>W.cell? ⟨g,0,I⟩=M (Oa U s6)/\W.cell? ⟨g,1,I⟩=M (O a6 m6 c6)/\W.cell? ⟨g+1,0,I⟩=M (Oa U p)/\W.cell? ⟨g+1,1,I⟩=M (O a' m' c')) ((repeat' (with_reducible refine And.intro ?_ ?_))<;>(first|(go_simp;done)|(refine ac.d ?_;go_simp;done))) (first|(go_at_call 277;(with_reducible refine(Az _ (Oe #[Oa U p,O a' m' c']) D md ?_ aK.o bq ce).mono ?_);(refine aH.ext ?_;exact bf.drew);rw[HP.o];rintro e w8 ⟨r8,rfl,ad,l⟩;obtain⟨s8,a8,m8,c8,rfl,-⟩:=ad.j;obtain⟨cI,cO⟩:=tp l;(have z8:g<w8.heap.size:=l.lt bg);(have dd:g+1<w8.heap.size:=l.lt ZW))|(go_at_call 250;(with_reducible refine(Nz _ (Oe #[Oa U s8,O a8 m8 c8]) (Oe #[Oa U s6,O a6 m6 c6]) P Rn ad ?_).mono ?_);(refine a2.ext ?_;exact(eR wr).drew.trans l);rw[HT.o];rintro e w9 ⟨rfl,ae⟩;obtain⟨ak,a0⟩:=tp ae))
      all_goals go_wp2
      go_roundw
      case rel=>exact⟨md,aG,rfl,rfl,by omega,cY,l2,by rw[HP.o];exact bm,l4,Xi.trans ((eR wr).drew.trans (l.trans ae))⟩
      case measure=>simp[intOf];omega
     ·have cF:¬T<=0:=fun h=>bm (aZ.1 h);clear aZ;go_wp2;go_region_held3 (fun W=>W.cell? ⟨g,0,I⟩=M (Oa U s6)/\W.cell? ⟨g,1,I⟩=M (O a6 m6 c6)/\W.cell? ⟨g+1,0,I⟩=M (Oa U p)/\W.cell? ⟨g+1,1,I⟩=M (O a' m' c')) ((repeat' (with_reducible refine And.intro ?_ ?_))<;>(first|(go_simp;done)|(refine ac.d ?_;go_simp;done))) (first|(go_at_call 277;(with_reducible refine(Az _ (Oe #[Oa U p,O a' m' c']) D md ?_ aK.o bq ce).mono ?_);(refine aH.ext ?_;exact bf.drew);rw[HP.o];rintro e w8 ⟨r8,rfl,ad,l⟩;obtain⟨s8,a8,m8,c8,rfl,-⟩:=ad.j;obtain⟨cI,cO⟩:=tp l;(have z8:g<w8.heap.size:=l.lt bg);(have dd:g+1<w8.heap.size:=l.lt ZW))|(go_at_call 250;(with_reducible refine(Nz _ (Oe #[Oa U s8,O a8 m8 c8]) (Oe #[Oa U s6,O a6 m6 c6]) P Rn ad ?_).mono ?_);(refine a2.ext ?_;exact(eR wr).drew.trans l);rw[HT.o];rintro e w9 ⟨rfl,ae⟩;obtain⟨ak,a0⟩:=tp ae))
      all_goals go_wp2
      go_roundw
      case rel=>exact⟨lo,md,rfl,rfl,l0,cW,by omega,l3,by rw[HP.o];omega,Xi.trans ((eR wr).drew.trans (l.trans ae))⟩
      case measure=>simp[intOf];omega
    ·obtain rfl:aG=lo+1:=oM;obtain⟨P,hP⟩:=gX (D*lo);(have bH:0<=P:=by rw[<-hP];exact Int.mul_nonneg oM l0);have dB:P<=Rn:=oM;(have dC:Rn<P+D:=by rw[Int.mul_add,hP]at l4;omega);have HP:=za hP;have cn:Ua (Lm Dc Rn):=za ((fB aJ.o oM bL oM).mono dM);have cm:Ua (Lm Dc P):=za ((fB aJ.o oM bH oM).mono dM);have cV:lo<=10000:=oM;have j3:Cb 3 wr W0.heap.size (O (M ⟨W0.heap.size,0,I⟩) m m) qs:=i3.keep Xi.keep;have j4:OB wr (W0.heap.size+1) g Rn:=i1.ext Xi;have j2:=Xi.e i2;have jx:=i4.trans Xi;have cU:wr.frozen? ⟨W0.heap.size,k,I⟩=false:=j3.frozen k;obtain⟨q,hq⟩:∃q,qs[k]?=M q:=⟨_,gE (by rw[aL.o];omega)⟩;have fA:=j3.cell hq;have a2:=i5.ext Xi;have cf:=Za (Xi.e i6) 0;have Rj:=Za (Xi.e i6) 1;have bV:¬g=W0.heap.size:=oM;have bW:¬g+1=W0.heap.size:=oM;have dp:W0.heap.size<wr.heap.size:=oM;clear hP hq;go_wp2;obtain⟨wq,aE⟩:=gX (wr.setCell ⟨W0.heap.size,k,I⟩ (Oa U lo));(have b1:OB wq (W0.heap.size+1) g Rn:=by rw[<-aE];exact j4.setRow oM oM _);(have b6:wq.heap[g]?=M (Oc #[Oa U s6,O a6 m6 c6] 163 (0,0)):=by rw[<-aE,bS _ _ _ _ (by simpa using bV)];exact Xi.e i6);(have b2:wq.heap[g+1]?=M (Oc #[Oa U p,O a' m' c'] 163 (0,0)):=by rw[<-aE,bS _ _ _ _ (by simpa using bW)];exact j2);(have b3:Cb 3 wq W0.heap.size (O (M ⟨W0.heap.size,0,I⟩) m m) (qs.set k lo):=by rw[<-aE];exact j3.stored k lo);(have b4:Ba W0 wq:=by rw[<-aE];exact jx.set (p:=⟨W0.heap.size,k,I⟩) (nE _) _);have b5:Cd wq (Oe #[Oa U s6,O a6 m6 c6]) Rn:=by
      obtain⟨u1,u2,u3,u4,u5,u6⟩:=b1;rw[b6]at u5;cases u5;exact u6.isN
     have b7:Cd wq (Oe #[Oa U p,O a' m' c']) D:=aH.ext (aF.o.trans b4);have o0:=Aa b6 0 (Oa U s6);have o1:=Aa b6 1 (O a6 m6 c6);have o2:=Aa b2 0 (Oa U p);have o3:=Aa b2 1 (O a' m' c');have dJ:=Za b6 0;have dK:=Za b6 1;have zq:=Ya b2;have dk:g<wq.heap.size:=oM;rw[aE];clear aE M0 M1 M2 M3 ZW bg bf cU fA cf Rj j4 j2 j3 jx m0 m1 m2 m3 i1 i2 i3 i4 i5 i6 a2 zi dh Xi;refine Ti (fun i=>decide (4<i)) (Da [(⟨g,0,I⟩,Oa U s6),(⟨g,1,I⟩,O a6 m6 c6),(⟨g+1,0,I⟩,Oa U p),(⟨g+1,1,I⟩,O a' m' c')]) kM ?_ (fun f=>?_)
     ·exact cA
     refine sN 0 ?_
     (iterate 3 refine Ui ?_);refine oN ?_;refine Ed (i:=3) fun K t=>?_;go_simp;(with_reducible refine cM (Az _ (Oe #[Oa U p,O a' m' c']) D lo (b7.ext (eR wq).drew) aK.o l0 cV) ?_);rintro e w8 ⟨r8,rfl,ad,l⟩;rw[HP.o]at ad;obtain⟨s8,a8,m8,c8,rfl,-⟩:=ad.j;go_wp2;refine kO t (fun _=>cE f l) (fun f=>?_);clear t K;replace f:=f rfl;refine Ed (i:=4) fun K t=>?_;go_simp;(with_reducible refine cM (tB _ (Oe #[Oa U s6,O a6 m6 c6]) (Oe #[Oa U s8,O a8 m8 c8]) Rn P (b5.ext ((eR wq).drew.trans l)) ad cn.o cm.o) ?_);rintro e w9 ⟨r9,rfl,aS,ae⟩;obtain⟨s9,a9,m9,c9,rfl,-⟩:=aS.j;go_wp2;refine kO t (fun _=>cE f ae) (fun f=>?_);clear t K;replace f:=f rfl;have X9:Ba wq w9:=(eR wq).drew.trans (l.trans ae);have dl:g<w9.heap.size:=X9.lt dk;have n9:NB w9 g Rn:=b1.nb.ext X9;obtain⟨ak,a0⟩:=X9.cells;refine Ed (i:=5) fun K t=>?_;go_simp;refine kO t (fun h=>nomatch h) (fun f=>?_);clear t K;refine Ub kM ?_ _;go_wp2;go_roundw
     case rel =>
      refine⟨(k:Int)-1,qs.set k lo,Rn-P,rfl,by omega,by omega,by simp[aL.o],?_,bv.o.set oM (by unfold C4;omega) _,OB.put n9 (aS.mono ?_),?_,?_,by omega,by omega,?_⟩
      ·exact((b3.keep X9.keep).setOther (p:=⟨g,0,I⟩) (by simp[Value.ownBlock];omega) _).setOther (p:=⟨g,1,I⟩) (by simp[Value.ownBlock];omega) _
      ·have:=b4.size;have:=l.size;simp only[Yb]at this;omega
      ·rw[bS _ _ _ _ sM,bS _ _ _ _ sM];exact X9.e b2
      ·have e1:(qs.set k lo)[k]?=M lo:=List.getElem?_set_self (by rw[aL.o];omega);have e2:(qs.set k lo).drop (k+1)=qs.drop (k+1):=List.drop_set_of_lt oM;have h9:=bw.o;rw[show ((k:Int)+1).toNat=k+1 by omega,<-e2]at h9;rw[show ((k:Int)-1+1).toNat=k by omega,uM cC.o e1 h9,<-HP.o,<-cx.o,Int.mul_comm lo D];rfl
      ·exact((b4.trans X9).set (p:=⟨g,0,I⟩) dO _).set (p:=⟨g,1,I⟩) dO _
     case measure=>simp[intOf]
  ·obtain rfl:j = -1:=oM;clear e0 e1 d0 d1 zd ah j0 j1 hj;obtain⟨Q,hQ⟩:=gX (dv C4 qs);have ax:=r.o.val;simp only[show ((-1:Int)+1).toNat=0 from rfl,List.drop_zero]at ax;rw[Hv.o,hQ]at ax;have aY:=r.o.r0;have bi:=r.o.r1;have bI:0<=Q:=by rw[<-hQ];exact(Yi Ok r.o.qd).1
   have aO:Q<=(na.natAbs:Int):=zI ax bE aY bI;have bJ:Q≠0->s=1\/s = -1:=fun h9=>by
    rw[Hs.o];exact Vu (fun h8=>h9 (by rw[h8]at aO;simp at aO;omega))
   obtain⟨N1,bh⟩:=gX (s*Q);have bc:N1=na.sign*Q:=by rw[<-bh,Hs.o]
   have ca:s = -1\/s=0\/s=1:=by rcases vi na with ⟨e,_⟩|⟨e,_⟩|⟨e,_⟩<;>rw[Hs.o,e]<;>decide
   have bG:(N1.natAbs:Int)<=na.natAbs:=by rcases ca with h|h|h<;>subst h<;>omega
   have cl:Ua (Lm Dc N1):=za (Lm.mono (j:=Ad) (by have:=co.o;unfold Lm at *;omega) dM);have bu:Ua (Lm Dc D):=za (aJ.o.mono dM);have cp:Ua (Lm Dc R):=za (by have:=bu.o;unfold Lm at *;omega);have bt:Ua (Lm Dc 1):=za (qr dM);have bk:(na.natAbs:Int)=Q*(nd.natAbs:Int)+R:=by rw[HD.o];exact ax
   have aq:=IC (N:=N1) Hd.o bk aY (by rw[HD.o];exact bi);have aP:=IC (N:=N1-1) Hd.o bk aY (by rw[HD.o];exact bi);have cj:=za aq.1;have ck:=za aP.2;have ct:=za bJ;have cq:=za bh;have ba:=za bc;have HQ:=za hQ;clear ax hQ bJ bh bc aO bk aq aP bG ca;have ah:=r.o.ext;have e0:=ah.d p0;have e1:=ah.d p1;have d0:=Aa r.o.size 0 (Oa U p);have d1:=Aa r.o.size 1 (O a' m' c');obtain⟨sr,ar,mr,cr,aa,aC⟩:=r.o.rest;have t0:=Aa aa 0 (Oa U sr);have t1:=Aa aa 1 (O ar mr cr);have zd:=Ya r.o.size;have dg:g<wr.heap.size:=oM;have de:w.heap.size<wr.heap.size:=oM;have cc:sr=R.sign:=aC.isN.sgn;have bB:=za cc;have cy:Ua (∀x∈qs,-100000000000000<=x/\x<=100000000000000):=za (fun x hx=>by have:=r.o.qd x hx;unfold C4 at this;omega);clear cc;go_upto_region 16 with (go_at_call 213;(with_reducible refine(Zs _ s _ qs N1 r.o.row.ints (by rw[r.o.ql];omega) cy.o (by rw[HQ.o];exact bI) (by rw[HQ.o];exact cq.o.symm) (by rw[HQ.o];exact ct.o)).mono ?_);rintro e w3 ⟨r3,rfl,bn,am⟩;obtain⟨s3,a3,m3,c3,rfl,-⟩:=bn.j;obtain⟨cG,cL⟩:=am.cells;(have u7:g+1<w3.heap.size:=am.lt zd);(have dc:g<w3.heap.size:=am.lt dg);(have u0:w.heap.size<w3.heap.size:=am.lt de));obtain⟨af,ay⟩:=gX (w3.alloc (Oc #[Oa U s3,O a3 m3 c3] 163));have ag:Ba wr af:=by rw[<-ay];exact am.alloc _
   have an:af.heap[w3.heap.size]?=M (Oc #[Oa U s3,O a3 m3 c3] 163 (0,0)):=by rw[<-ay];exact aN _ _
   have aQ:Cd af (Oe #[Oa U s3,O a3 m3 c3]) N1:=by rw[<-ay];exact bn.ext ((eR _).alloc _)
   have aj:NB af w3.heap.size N1:=⟨_,_,_,_,an,aQ⟩;have aW:NB af g R:=NB.ext ⟨sr,ar,mr,cr,aa,aC.isN⟩ ag;have bY:=ag.e aa;have a7:=ag.e r.o.size;rw[ay];obtain⟨L,be⟩:=gX w3.heap.size;rw[be]at u7 dc u0 an aj ⊢;clear ay cG cL am bn be aC aa;replace e0:=ag.d e0;replace e1:=ag.d e1;replace d0:=ag.d d0;replace d1:=ag.d d1;replace t0:=ag.d t0;replace t1:=ag.d t1;have X0:Ba W0 af:=ah.trans ag;have ci:L<af.heap.size:=Ya an;obtain⟨bb,bN⟩:=gX (decide (na<0/\R≠0));have aM:=za bN;have y0:w.heap.size<af.heap.size:=oM;have y7:g<af.heap.size:=oM;have y8:g+1<af.heap.size:=oM;clear bN;go_cut [75] (fun db W=>db=Od bb/\W=af)
   case first =>
    by_cases b0:s<0
    ·have hn:na<0:=by
      have:=Hs.o;rcases vi na with ⟨e,h⟩|⟨e,h⟩|⟨e,h⟩<;>omega
     by_cases aw:sr=0
     ·have hR:R=0:=by
       have:=bB.o;rcases vi R with ⟨e,h⟩|⟨e,h⟩|⟨e,h⟩<;>omega
      (have e:bb=false:=by rw[<-aM.o];simp[hR]);(have cd:(sr != 0)=false:=by simp[aw]);clear aw;go_wp2;go_meet;exact⟨by rw[e],rfl⟩
     ·have hR:R≠0:=by
       intro h;have:=bB.o;rw[h]at this;exact aw (by rw[this];rfl)
      (have e:bb=true:=by rw[<-aM.o];simp[hR,hn]);(have cd:(sr != 0)=true:=by simpa using aw);clear aw;go_wp2;go_meet;exact⟨by rw[e],rfl⟩
    ·have hn:¬na<0:=by
      have:=Hs.o;rcases vi na with ⟨e,h⟩|⟨e,h⟩|⟨e,h⟩<;>omega
     (have e:bb=false:=by rw[<-aM.o];simp[hn]);go_wp2;go_meet;exact⟨by rw[e],rfl⟩
   case rest =>
    obtain⟨rfl,rfl⟩:=hcut;go_upto_if 75 with fail;go_cut [13] (ZG W0 g (g+1) #[Oa U p,O a' m' c'] (if bb then N1-1 else N1) (if bb then D-R else R))
    case first =>
     cases bb with
     |false=>
      go_wp2;go_meet;exact⟨L,rfl,by omega,by omega,aj,aW,a7,X0⟩
     |true=>
      have f3:=Aa an 0 (Oa U s3);have f4:=Aa an 1 (O a3 m3 c3);have f5:=Za an 0;have f6:=Za an 1;go_wp2;refine Ti (fun i=>decide (2<i)) (Da [(⟨L,0,I⟩,Oa U s3),(⟨L,1,I⟩,O a3 m3 c3)]) kM ?_ (fun f=>?_)
      ·exact cA
      refine so (i:=0) ?_;refine Ed (i:=1) fun K t=>?_;go_simp;(with_reducible refine cM (Oo _ 1 dM dM) ?_);rintro e w8 ⟨r8,rfl,ad,l⟩;obtain⟨s8,a8,m8,c8,rfl,-⟩:=ad.j;go_wp2;refine kO t (fun _=>cE f l) (fun f=>?_);clear t K;replace f:=f rfl;refine Ed (i:=2) fun K t=>?_;go_simp;(with_reducible refine cM (ly _ (Oe #[Oa U s3,O a3 m3 c3]) (Oe #[Oa U s8,O a8 m8 c8]) N1 1 (aQ.ext ((eR wc).drew.trans l)) ad cl.o bt.o) ?_);rintro e w9 ⟨r9,rfl,aS,ae⟩;obtain⟨s9,a9,m9,c9,rfl,-⟩:=aS.j;go_wp2;refine kO t (fun _=>cE f ae) (fun f=>?_);clear t K;replace f:=f rfl;have X9:Ba wc w9:=(eR wc).drew.trans (l.trans ae);have dl:L<w9.heap.size:=X9.lt ci;obtain⟨ak,a0⟩:=X9.cells;refine Ed (i:=3) fun K t=>?_;go_simp;refine kO t (fun h=>nomatch h) (fun f=>?_);clear t K;refine Ub kM ?_ _;obtain⟨wa,aI⟩:=gX ((w9.setCell ⟨L,0,I⟩ (Oa U s9)).setCell ⟨L,1,I⟩ (O a9 m9 c9));have n9:=aj.ext X9;(have cD:NB wa L (N1-1):=by rw[<-aI];exact n9.put aS);have c7:NB wa g R:=by
       rw[<-aI];exact((aW.ext X9).other (p:=⟨L,0,I⟩) dO n9.not _).other (p:=⟨L,1,I⟩) dO (n9.not.set _ _) _
      have aX:wa.heap[g+1]?=M (Oc #[Oa U p,O a' m' c'] 163 (0,0)):=by
       rw[<-aI,bS _ _ _ _ dO,bS _ _ _ _ dO];exact X9.e a7
      have cX:Ba W0 wa:=by
       rw[<-aI];exact((X0.trans X9).set (p:=⟨L,0,I⟩) dO _).set (p:=⟨L,1,I⟩) dO _
      rw[aI];clear aI f ak a0 f3 f4 f5 f6;obtain⟨sv,av,mv,cv,-,v0,v1,cg,ch,vz,aU⟩:=c7.rd;have d2:=Aa aX 0 (Oa U p);have d3:=Aa aX 1 (O a' m' c');have zz:=Ya aX;have cR:Cd wa (Oe #[Oa U p,O a' m' c']) D:=aH.ext (aF.o.trans cX);go_wp2_with(go_at_call 212;(with_reducible refine(ly _ (Oe #[Oa U p,O a' m' c']) (Oe #[Oa U sv,O av mv cv]) D R cR aU bu.o cp.o).mono ?_);rintro e wb ⟨rb,rfl,aT,u⟩;obtain⟨sb,ab,mb,cb,rfl,-⟩:=aT.j;obtain⟨cJ,a1⟩:=u.cells);go_meet;refine⟨L,rfl,by omega,by omega,?_,(c7.ext u).put aT,?_,?_⟩
      ·exact((cD.ext u).other (p:=⟨g,0,I⟩) dO (c7.ext u).not _).other (p:=⟨g,1,I⟩) dO ((c7.ext u).not.set _ _) _
      ·rw[bS _ _ _ _ sM,bS _ _ _ _ sM];exact u.e aX
      ·exact((cX.trans u).set (p:=⟨g,0,I⟩) dO _).set (p:=⟨g,1,I⟩) dO _
    case rest =>
     obtain⟨N2,ao⟩:=gX ((if bb=true then N1-1 else N1));obtain⟨R2,ap⟩:=gX ((if bb=true then D-R else R));rw[ao,ap]at hcut;have aq:(if nd<0 then -N2 else N2)=na/nd/\R2=na%nd:=by
      by_cases ak:na<0/\R≠0
      ·(have e:bb=true:=by rw[<-aM.o];simpa using ak);rw[e]at ao ap;simp only[if_true]at ao ap;have:=ck.o ak (by rw[ba.o]);rw[HD.o,ao,ap]at this;exact this
      ·(have e:bb=false:=by rw[<-aM.o];simpa using ak);rw[e]at ao ap;simp only[Bool.false_eq_true,if_false]at ao ap;have:=cj.o ak ba.o;rw[ao,ap]at this;exact this
     have bz:=za aq;clear aq ao ap aj aW a7 X0 t0 t1 d0 d1 e0 e1 an aQ bY y0 y7 y8 ci;obtain⟨ga,rfl,bC,bD,ai,br,bs,Xa⟩:=hcut;have e2:=Xa.d q0;have dn:w.heap.size+1<wc.heap.size:=Xa.lt z2;go_upto_if 84 with fail;go_cut [13] (ZG W0 g (g+1) #[Oa U p,O a' m' c'] (if nd<0 then -N2 else N2) R2)
     case first =>
      by_cases cQ:nd<0
      ·have b0:s'<0:=by
        have:=bA.o;rcases vi nd with ⟨e,h⟩|⟨e,h⟩|⟨e,h⟩<;>omega
       obtain⟨sv,av,mv,cv,-,v0,v1,cg,ch,vz,aU⟩:=ai.rd;go_wp2_with(go_at_call 211;(with_reducible refine(Dt _ (Oe #[Oa U sv,O av mv cv]) N2 aU).mono ?_);rintro e wb ⟨rb,rfl,aT,u⟩;obtain⟨sb,ab,mb,cb,rfl,-⟩:=aT.j;obtain⟨cJ,a1⟩:=u.cells);go_meet;refine⟨ga,rfl,by omega,by omega,?_,?_,?_,?_⟩
       ·rw[if_pos cQ];exact(ai.ext u).put aT
       ·exact((br.ext u).other (p:=⟨ga,0,I⟩) dO (ai.ext u).not _).other (p:=⟨ga,1,I⟩) dO ((ai.ext u).not.set _ _) _
       ·rw[bS _ _ _ _ dO,bS _ _ _ _ dO];exact u.e bs
       ·exact((Xa.trans u).set (p:=⟨ga,0,I⟩) dO _).set (p:=⟨ga,1,I⟩) dO _
      ·have b0:¬s'<0:=by
        have:=bA.o;rcases vi nd with ⟨e,h⟩|⟨e,h⟩|⟨e,h⟩<;>omega
       go_wp2;go_meet;exact⟨ga,rfl,bC,bD,by rw[if_neg oM];exact ai,br,bs,Xa⟩
     case rest =>
      obtain⟨bP,a1⟩:=bz.o;rw[bP,a1]at hcut;clear bP a1 e2 dn ai br bs Xa bC bD;obtain⟨gb,rfl,dy,dz,aj,aW,a7,Xb⟩:=hcut;obtain⟨sv,av,mv,cv,-,v0,v1,cg,ch,vz,aU⟩:=aj.rd;obtain⟨su,au,mu,cu,-,u0,u1,dL,dN,uz,cT⟩:=aW.rd;have o1:=Xb.e cz.o;have o2:=Xb.e cB.o;have cZ:=Aa o1 0 (Oa U 0);have c0:=Aa o1 1 (O I 0 0);have c1:=Aa o2 0 (Oa U 0);have c2:=Aa o2 1 (O I 0 0);have dt:=Za o1 0;have du:=Za o1 1;have dw:=Za o2 0;have dx:=Za o2 1;have di:=Ya o1;have dj:=Ya o2;have dH:¬g=w.heap.size+1+1:=oM;have dI:¬gb=w.heap.size+1+1:=oM;(have n1:ud 3 wc (w.heap.size+1+1):=by intro cs fr e;rw[o1]at e;cases e);(have n2:ud 3 wc (w.heap.size+1+1+1):=by intro cs fr e;rw[o2]at e;cases e);have XF:Ba w wc:=aF.o.trans Xb;clear o1 o2;go_wp2;refine Ti (fun i=>decide (2<i)) (Da [(⟨gb,0,I⟩,Oa U sv),(⟨gb,1,I⟩,O av mv cv),(⟨g,0,I⟩,Oa U su),(⟨g,1,I⟩,O au mu cu)]) kM ?_ (fun f=>?_)
      ·exact cA
      refine sN 0 ?_
      (iterate 2 refine Ui ?_);refine oN ?_;refine Ed (i:=2) fun K t=>?_;go_simp;refine kO t (fun _=>?_) (fun f=>?_)
      ·exact cA
      clear t K;replace f:=f rfl;refine Ed (i:=3) fun K t=>?_;go_simp;refine kO t (fun h=>nomatch h) (fun f=>?_);clear t K;refine Ub kM ?_ _;go_wp2;refine bR (v:=Oi #[Oe #[Oa U sv,O av mv cv],Oe #[Oa U su,O au mu cu]]) (by simp[results,Tryz.results249,go_sem,cZ,c0,c1,c2,di,dj]) rfl ⟨_,_,rfl,?_,?_,eA⟩
      ·exact aU.keep (((((Ja.refl _ wc).y n1 _).y (n1.set _ _) _).y ((n2.set _ _).set _ _) _).y (((n2.set _ _).set _ _).set _ _) _)
      ·exact cT.keep (((((Ja.refl _ wc).y n1 _).y (n1.set _ _) _).y ((n2.set _ _).set _ _) _).y (((n2.set _ _).set _ _).set _ _) _)
end
section
open Go.RowKit Go.Shelf Go.Sort Go.Lib
def Sa(s:Sp):Rat×Rat:=sd (Qb s) (Zb s)
def Cr s:Zb s≠[]:=by unfold Zb;intro h;have a:Xd s=[]:=List.map_eq_nil_iff.1 h;unfold Xd at a;have c:=tS (zs:=og (s.lo::s.hi::Ag s (s.over++s.under))) (by intro d;have:=congrArg List.length d;rw[Xs]at this;simp at this);exact c a
def Xy w x y s(t:Ia w x s.over)(u:Ia w y s.under)(c:Qg s):Calls Tryz.prog 200 #[pj s x y] w (ml w (Sa s).1 (Sa s).2):=by
 have L:=za (fun(W:Z)(p:Ba w W)=>QE W x y s (t.f p) (u.f p) c);have z:=za (fun(W:Z)(p:Ba w W)(v:Ob)(hv:ii W v (Zb s))=>RO W v x y s (Zb s) hv (t.f p) (u.f p) c (Pk c));obtain⟨a1,m1,rfl⟩:=t.form;obtain⟨a2,m2,rfl⟩:=u.form;obtain⟨n1,f1⟩:=gX s.over.length;obtain⟨n2,f2⟩:=gX s.under.length;obtain⟨lo,l⟩:=gX s.lo;obtain⟨hi,k⟩:=gX s.hi;obtain⟨R,hR⟩:=gX (ml w (Sa s).1 (Sa s).2);rw[hR];have HR:=za hR;unfold pj at L z ⊢;simp only[f1,f2,l,k]at L z ⊢;clear t u c f1 f2 l k hR;have ah:∀(fn:Fn)(first cap:Array Ob)(w:Z),(Instr.makeFunc fn first cap).run Tryz.prog w = .ok (.func fn first cap) w:=fun _ _ _ _=>rfl;go_in;go_wp2;refine jd [(⟨w.heap.size,0,I⟩,O a1 n1 m1),(⟨w.heap.size,1,I⟩,O a2 n2 m2),(⟨w.heap.size,2,I⟩,Oa U lo),(⟨w.heap.size,3,I⟩,Oa U hi)] cA fun a=>?_;refine La (i:=0) ?_;refine sN 2 ?_
 iterate 2 refine Db ?_
 refine oN ?_;refine Ac (i:=1) (L.o _ eA) ?_;rintro e w3 ⟨r3,rfl,aa,j⟩;refine⟨_,rfl,(cE a j),fun a=>?_⟩;have X3:Ba w w3:=eA;refine Ac (i:=4) (z.o _ X3 _ aa.rs) ?_;rintro e w4 ⟨r4,r5,rfl,f,g,d⟩;obtain⟨⟨a4,m4,c4,s4,b4,n4,k4,rfl⟩,a5,m5,c5,s5,b5,n5,k5,rfl⟩:=And.intro f.form g.form;refine⟨_,rfl,(cE a d),fun a=>?_⟩;refine sN 5 ?_
 iterate 2 refine Db ?_
 refine oN ?_;have X4:Ba w w4:=X3.trans d;have hO:RB w4 (w.heap.size+1) 0:=(((RB.new (Fb.zero _) sM).ext ((eR _).alloc _)).ext ((eR _).drew.trans j)).ext d;have hP:RB w4 (w.heap.size+1+1) 0:=((RB.new (Fb.zero _) sM).ext ((eR _).drew.trans j)).ext d;obtain⟨_,_,_,_,_,_,_,o0,o1,o2,ab,ac,ad,zo,_⟩:=hO.rd;obtain⟨_,_,_,_,_,_,_,p0,p1,p2,ae,af,ag,zp,_⟩:=hP.rd;have r:∀b,w.heap.size<b->∀q∈[((⟨w.heap.size,0,I⟩:Oh),Value.slice a1 n1 m1),(⟨w.heap.size,1,I⟩,O a2 n2 m2),(⟨w.heap.size,2,I⟩,Oa U lo),(⟨w.heap.size,3,I⟩,Oa U hi)],b≠q.1.block:=by
  intro b hb;simp;omega
 refine Te (i:=7) fun K o=>?_;go_simp;refine kO o (Da.set3 a (r _ oM) _ _ _) (fun a=>?_);clear o K;refine Te (i:=8) fun K o=>?_;go_simp;refine kO o (Da.set3 a (r _ oM) _ _ _) (fun a=>?_);clear o K;refine Pb ?_;have P:=za (RB.copy2 hO hP oM f g rfl rfl);go_wp2;refine bR (v:=Oi #[Oe #[O a4 m4 c4,Od s4,O b4 n4 k4],Oe #[O a5 m5 c5,Od s5,O b5 n5 k5]]) (by simp[results,Tryz.results200,go_sem,o0,o1,o2,ab,ac,ad,p0,p1,p2,ae,af,ag]) rfl ?_;rw[<-HR.o];obtain⟨P1,P2,P3,P4,P5,P6⟩:=P.o;exact⟨_,_,rfl,f.keep P4,g.keep P4,P6 w X4 oM oM⟩
def We(ps a:LP):Bool:=if (Ld ps a).lo<(Ld ps a).hi then decide (0<=(Sa (Ld ps a)).2.num.sign)else true
def qy w t u ps d(q:Ia w t ps)(r:Ia w u d)(R:ke ps)(k2:ke d):Calls Tryz.prog 161 #[t,u] w fun e w'=>e=.returned (Od (We ps d))/\Ba w w':=by
 have l1:0<ps.length:=List.length_pos_iff.2 R.1;have l2:0<d.length:=List.length_pos_iff.2 k2.1;have a:=za (fun(W:Z)(l:Ba w W)=>tw W t u ps d (q.f l) (r.f l) l1 l2);have p:=za (fun(W:Z)(l:Ba w W)=>Xy W t u (Ld ps d) (q.f l) (r.f l) (Io R k2));obtain⟨B,v⟩:=gX (We ps d);rw[v];have f:=za v;unfold We at f;obtain⟨s,hs⟩:=gX (Ld ps d);rw[hs]at f a p;obtain⟨a1,m1,rfl⟩:=q.form;obtain⟨a2,m2,rfl⟩:=r.form;obtain⟨n1,f1⟩:=gX ps.length;obtain⟨n2,f2⟩:=gX d.length;obtain⟨lo,j⟩:=gX s.lo;obtain⟨z,i⟩:=gX s.hi;unfold Dn at a;unfold pj at a p;simp only[f1,f2,j,i]at f a p ⊢;clear q r R k2 l1 l2 v hs f1 f2 j i;by_cases c:lo<z
 ·have e:decide (lo<z)=true:=by simpa using c
  rw[if_pos c]at f;rw[e]at a;obtain⟨k,K⟩:=gX ((Sa s).2.num.sign);rw[K]at f;have Hk:=za K;clear K e c;go_in;go_wp2_with(first|(go_at_call 183;refine cM (a.o _ eA) ?_;rintro e w3 ⟨rfl,g⟩;obtain⟨x,y⟩:=g.cells)|(go_at_call 200;refine cM (p.o _ eA) ?_;rintro e w4 ⟨r4,r5,rfl,L,o,aa⟩;obtain⟨a4,m4,c4,s4,b4,n4,k4,rfl⟩:=L.form;obtain⟨a5,m5,c5,s5,b5,n5,k5,rfl⟩:=o.form)|(go_at_call 201;(with_reducible refine(Us _ _ _ (o.ext ?_)).mono ?_);exact eA;rintro e w6 ⟨rfl,ab⟩;rw[Hk.o]));go_ret;exact⟨by rw[<-f.o];rfl,eA⟩
 ·have e:decide (lo<z)=false:=by simpa using c
  rw[if_neg c]at f;rw[e]at a;clear e c;go_in;go_wp2_with(first|(go_at_call 183;refine cM (a.o _ eA) ?_;rintro e w3 ⟨rfl,g⟩;obtain⟨x,y⟩:=g.cells));go_ret;exact⟨by rw[<-f.o];rfl,eA⟩
def Zi(p q:Pl):Int:=
 if Wb (Ga p)<=ub (Ga q)then 1
 else if Wb (Ga q)<=ub (Ga p)then 2
 else if We (Ga p) (Mb q)then 3
 else if We (Ga q) (Mb p)then 4
 else 5
def Bm(w:Z)(c:List Ob)(p:Pl):Prop:=∃v vl vu,c=(tf p v vl vu).toList/\Ia w v p.shape/\Ia w vl (Ga p)/\Ia w vu (Mb p)
def Sg(w:Z)(v:Ob)(p:Pl):Prop:=∃s vl vu,v=Oe (tf p s vl vu)/\Ia w s p.shape/\Ia w vl (Ga p)/\Ia w vu (Mb p)
def Sg.ext{w w' v p}(h:Sg w v p)(k:Ba w w'):Sg w' v p:=by obtain⟨s,f,g,a,c,d,e⟩:=h;exact⟨s,f,g,a,c.f k,d.f k,e.f k⟩
def Sg.keep{w w' v p}(h:Sg w v p)(k:Ja 91 w w'):Sg w' v p:=by obtain⟨s,f,g,a,c,d,e⟩:=h;exact⟨s,f,g,a,c.E k,d.E k,e.E k⟩
abbrev od(w:Z)(v:Ob)(ps:List Pl):Prop:=Sl 202 12 Bm w v ps
def Bm.ext{w w' c p}(h:Bm w c p)(k:Ba w w'):Bm w' c p:=by obtain⟨s,g,i,a,d,e,f⟩:=h;exact⟨s,g,i,a,d.f k,e.f k,f.f k⟩
def Bm.keep{w w' c p}(h:Bm w c p)(k:Ja 91 w w'):Bm w' c p:=by obtain⟨s,g,i,a,d,e,f⟩:=h;exact⟨s,g,i,a,d.E k,e.E k,f.E k⟩
def od.f{w w' v ps}(h:od w v ps)(k:Ba w w'):od w' v ps:=Sl.ext h (fun _ _ h=>Bm.ext h k) k
def OR w v1 v2 p q(h1:Sg w v1 p)(h2:Sg w v2 q)(k1:Fa p=true)(k2:Fa q=true):Calls Tryz.prog 164 #[v1,v2] w fun e w'=>e=.returned (Oa .u8 (Zi p q))/\Ba w w':=by
 obtain⟨s1,l1,u1,rfl,p1,K,p3⟩:=h1;obtain⟨s2,l2,u2,rfl,q1,L,q3⟩:=h2;obtain⟨o1,o2⟩:=Dl k1;obtain⟨o3,o4⟩:=Dl k2;have HA:=za (fun(W:Z)(f:Ba w W)=>Kr W l1 (Ga p) (K.f f) (List.length_pos_iff.2 o1.1));have HB:=za (fun(W:Z)(f:Ba w W)=>Yp W l2 (Ga q) (L.f f) (List.length_pos_iff.2 o3.1));have HC:=za (fun(W:Z)(f:Ba w W)=>Yp W l1 (Ga p) (K.f f) (List.length_pos_iff.2 o1.1));have HD:=za (fun(W:Z)(f:Ba w W)=>Kr W l2 (Ga q) (L.f f) (List.length_pos_iff.2 o3.1));have HE:=za (fun(W:Z)(f:Ba w W)=>qy W l1 u2 (Ga p) (Mb q) (K.f f) (q3.f f) o1 o4);have HF:=za (fun(W:Z)(f:Ba w W)=>qy W l2 u1 (Ga q) (Mb p) (L.f f) (p3.f f) o3 o2);obtain⟨au,aw,rfl⟩:=p1.form;obtain⟨av,ay,rfl⟩:=q1.form;obtain⟨a1,c1,rfl⟩:=K.form;obtain⟨a2,c2,rfl⟩:=L.form;obtain⟨R,ab,rfl⟩:=p3.form;obtain⟨aa,ac,rfl⟩:=q3.form;obtain⟨k,hk⟩:=gX (Zi p q);have g:=za hk;unfold Zi at g;rw[hk];obtain⟨n1,f1⟩:=gX ((Ga p).length);obtain⟨n2,f2⟩:=gX ((Ga q).length);obtain⟨m1,f3⟩:=gX ((Mb p).length);obtain⟨m2,f4⟩:=gX ((Mb q).length);obtain⟨j1,f5⟩:=gX p.shape.length;obtain⟨j2,f6⟩:=gX q.shape.length;obtain⟨rp,f7⟩:=gX (Wb (Ga p));obtain⟨lp,f8⟩:=gX (ub (Ga p));obtain⟨rq,f9⟩:=gX (Wb (Ga q));obtain⟨lq,u⟩:=gX (ub (Ga q));obtain⟨fa,v⟩:=gX (We (Ga p) (Mb q));obtain⟨fb,x⟩:=gX (We (Ga q) (Mb p));simp only[f1,f2,f3,f4,f5,f6,f7,f8,f9,u,v,x]at HA HB HC HD HE HF g ⊢;obtain⟨nm,sh,d,de,gx,gz,wy,ax,az,sk⟩:=p;obtain⟨ar,aA,d',ao,ap,aq,aC,ai,aj,aB⟩:=q;clear hk p1 K p3 q1 L q3 o1 o2 o3 o4 k1 k2 f1 f2 f3 f4 f5 f6 f7 f8 f9 u v x;unfold tf;dsimp only;go_in;go_wp2;refine jd [(⟨w.heap.size,10,I⟩,O a1 n1 c1),(⟨w.heap.size+1,10,I⟩,O a2 n2 c2),(⟨w.heap.size,11,I⟩,O R m1 ab),(⟨w.heap.size+1,11,I⟩,O aa m2 ac)] cA fun a=>?_;refine sN 0 ?_
 iterate 2 refine Db ?_
 refine oN ?_;refine sN 3 ?_
 iterate 2 refine Db ?_
 refine oN ?_;refine Ac (i:=2) (HA.o _ eA) ?_;rintro e w3 ⟨rfl,y⟩;refine⟨_,rfl,(cE a y),fun a=>?_⟩;have X3:Ba w w3:=eA;refine Ac (i:=5) (HB.o _ X3) ?_;rintro e w4 ⟨rfl,j⟩;refine⟨_,rfl,(cE a j),fun a=>?_⟩;have X4:Ba w w4:=X3.trans j;refine sN 6 ?_
 iterate 2 refine Db ?_
 refine oN ?_;refine Pb ?_;obtain⟨ak,al,am,an,_⟩:=a;(try clear y);clear j X3;by_cases g1:rp<=lq
 ·go_wp2;go_ret;exact⟨by rw[<-g.o,if_pos g1];rfl,X4⟩
 rw[if_neg g1]at g;have aD:=X4.size;go_wp2;refine jd [(⟨w.heap.size,10,I⟩,O a1 n1 c1),(⟨w.heap.size+1,10,I⟩,O a2 n2 c2),(⟨w.heap.size,11,I⟩,O R m1 ab),(⟨w.heap.size+1,11,I⟩,O aa m2 ac)] cA fun a=>?_;refine sN 0 ?_
 iterate 2 refine Db ?_
 refine oN ?_;refine sN 3 ?_
 iterate 2 refine Db ?_
 refine oN ?_;refine Ac (i:=2) (HC.o _ eA) ?_;rintro e w5 ⟨rfl,z⟩;refine⟨_,rfl,(cE a z),fun a=>?_⟩;have X5:Ba w w5:=eA;refine Ac (i:=5) (HD.o _ X5) ?_;rintro e w6 ⟨rfl,l⟩;refine⟨_,rfl,(cE a l),fun a=>?_⟩;have X6:Ba w w6:=X5.trans l;refine sN 6 ?_
 iterate 2 refine Db ?_
 refine oN ?_;refine Pb ?_;obtain⟨o,r,s,t,_⟩:=a;(try clear z);clear l X5;by_cases g2:rq<=lp
 ·go_wp2;go_ret;exact⟨by rw[<-g.o,if_pos g2];rfl,X6⟩
 rw[if_neg g2]at g;cases fa with
 |true=>
  go_wp2_with(go_at_call 161;refine cM (HE.o _ eA) ?_;rintro e w7 ⟨rfl,c⟩);go_ret;exact⟨by rw[<-g.o];rfl,eA⟩
 |false=>
  cases fb with
  |true=>
   go_wp2_with(first|(go_at_call 161;(with_reducible refine(HE.o _ ?_).mono ?_);exact eA;rintro e w7 ⟨rfl,c⟩;have ad:=c.d o;have ae:=c.d r;have af:=c.d s;have ag:=c.d t)|(go_at_call 161;(with_reducible refine(HF.o _ ?_).mono ?_);exact eA;rintro e w8 ⟨rfl,ah⟩));go_ret;exact⟨by rw[<-g.o];rfl,eA⟩
  |false=>
   go_wp2_with(first|(go_at_call 161;(with_reducible refine(HE.o _ ?_).mono ?_);exact eA;rintro e w7 ⟨rfl,c⟩;have ad:=c.d o;have ae:=c.d r;have af:=c.d s;have ag:=c.d t)|(go_at_call 161;(with_reducible refine(HF.o _ ?_).mono ?_);exact eA;rintro e w8 ⟨rfl,ah⟩));go_ret;exact⟨by rw[<-g.o];rfl,eA⟩
def od.at'{w a n c ps}(h:od w (O a n c) ps){i p}(r:ps[i]?=M p):∃b o s vl vu,a=M ⟨b,o,I⟩/\b<w.heap.size/\Ia w s p.shape/\Ia w vl (Ga p)/\Ia w vu (Mb p)/\∀(j:Nat) u,(tf p s vl vu)[j]?=M u->w.cell? ⟨b,o+i*12+j,I⟩=M u:=by obtain⟨b,o,d,rfl,k,t,⟨s,vl,vu,rfl,e,f,g⟩,l⟩:=Sl.at h r;exact⟨b,o,s,vl,vu,rfl,k,e,f,g,fun j u q=>l j u (by rw[Array.getElem?_toList];exact q)⟩
def Ew(W:Z)(b:Nat)(p:Pl)(s a c:Ob):Prop:=W.heap[b]?=M (Oc (tf p s a c) 202 (0,0))/\Ia W s p.shape/\Ia W a (Ga p)/\Ia W c (Mb p)
def Ew.ext{W W' b p s a c}(h:Ew W b p s a c)(k:Ba W W'):Ew W' b p s a c:=⟨k.e h.1,h.2.1.f k,h.2.2.1.f k,h.2.2.2.f k⟩
def Vf(q p:Pl):Bool:=Me q p&&(Zi q p==5)
def oh(a:ByteArray)(p:Pl):Bool:=p.name.toList==a.toList
def WM w o p i a(h:Sg w o p)(q:w.cell? ⟨a,0,I⟩=M (.string i)):Calls Tryz.prog 160 #[o,Og (M ⟨a,0,I⟩)] w fun e v=>e=.returned (Od (oh i p))/\Ba w v:=by obtain⟨s1,l1,u1,rfl,j,k,l⟩:=h;obtain⟨r,s,rfl⟩:=j.form;obtain⟨y,L,rfl⟩:=k.form;obtain⟨t,u,rfl⟩:=l.form;obtain⟨n1,c⟩:=gX ((Ga p).length);obtain⟨m1,f⟩:=gX ((Mb p).length);obtain⟨j1,g⟩:=gX p.shape.length;rw[c,f,g];obtain⟨np,sh,d,R,gx,gz,wy,z,K,sk⟩:=p;clear j k l c f g;have zq:a<w.heap.size:=World.block_lt_of_cell? w _ q;have x:a<w.heap.size+1:=oM;unfold tf oh;dsimp only;go_in;go_wp2;go_ret;exact⟨rfl,eA⟩
def UM w vp p q k s vl vu(h:Sg w vp p)(hq:Ew w k q s vl vu)(k1:Fa p=true)(k2:Fa q=true):Calls Tryz.prog 162 #[vp,Og (M ⟨k,0,I⟩)] w fun e w'=>e=.returned (Od (Vf q p))/\Ba w w':=by
 obtain⟨f,o,L,R⟩:=hq;have j:=za (fun(W:Z)(l:Ba w W)=>OR W (Oe (tf q s vl vu)) vp q p ⟨_,_,_,rfl,o.f l,L.f l,R.f l⟩ (h.ext l) k2 k1);obtain⟨s1,l1,u1,rfl,K,p2,p3⟩:=h;have g:=za (fun(W:Z)=>Ps W q p s s1 (by obtain⟨a,c,h⟩:=o.form;exact⟨a,_,c,h⟩) (by obtain⟨a,c,h⟩:=K.form;exact⟨a,_,c,h⟩));obtain⟨ay,aA,rfl⟩:=K.form;obtain⟨a1,c1,rfl⟩:=p2.form;obtain⟨aC,aD,rfl⟩:=p3.form;obtain⟨aa,ab,rfl⟩:=o.form;obtain⟨a2,c2,rfl⟩:=L.form;obtain⟨ad,ae,rfl⟩:=R.form;obtain⟨n1,f1⟩:=gX ((Ga p).length);obtain⟨n2,f2⟩:=gX ((Ga q).length);obtain⟨m1,f3⟩:=gX ((Mb p).length);obtain⟨m2,f4⟩:=gX ((Mb q).length);obtain⟨j1,f5⟩:=gX p.shape.length;obtain⟨j2,f6⟩:=gX q.shape.length;obtain⟨r,f7⟩:=gX (Zi q p);obtain⟨m,f8⟩:=gX (Me q p);unfold Vf;simp only[f1,f2,f3,f4,f5,f6,f7,f8]at j g f ⊢;obtain⟨nm,sh,d,de,gx,gz,wy,ax,az,sk⟩:=p;obtain⟨z,aB,d',v,x,y,af,t,u,ac⟩:=q;unfold tf at j f ⊢;unfold Dd at g;dsimp only at j g f ⊢;have ai:=Aa f 0 (.string z);have aj:=Aa f 1 (O aa j2 ab);have ak:=Aa f 2 (Oa U d');have al:=Aa f 3 (Oa U v);have am:=Aa f 4 (Oa U x);have an:=Aa f 5 (Oa U y);have ao:=Aa f 6 (Oa U af);have ap:=Aa f 7 (Oa U t);have aq:=Aa f 8 (Oa U u);have ar:=Aa f 9 (Oa .u8 ac);have ag:=Aa f 10 (O a2 n2 c2);have ah:=Aa f 11 (O ad m2 ae);have zq:k<w.heap.size:=Ya f;have aE:k<w.heap.size+1:=oM;clear f K p2 p3 o L R k1 k2 f1 f2 f3 f4 f5 f6 f7 f8;cases m with
 |false=>
  go_in;go_wp2_with(go_at_call 163;refine cM (g.o _) ?_;rintro e w3 ⟨rfl,i⟩);go_ret;exact⟨rfl,eA⟩
 |true=>
  go_in;go_wp2_with(first|(go_at_call 163;refine cM (g.o _) ?_;rintro e w3 ⟨rfl,i⟩;obtain⟨au,av⟩:=i.cells)|(go_at_call 164;refine cM (j.o _ eA) ?_;rintro e w4 ⟨rfl,aw⟩));go_ret;exact⟨rfl,eA⟩
