import Derived.Test.YtjnjpagegkcgfaaGreatDoorCoqA08
import Derived.Sort.OwnSortedInts
import Derived.Laws.IdiomStrings
set_option maxRecDepth 1000000
set_option maxHeartbeats 16000000
set_option linter.all false
open Go.Value renaming slice->O,int->U,bool->Od,agg->Oe,pointer->Oh
open Go renaming World->Z,Value->Ob,Act->Of,Addr->Og
open Option renaming none->I,some->M
open Go.IntKind renaming i64->Oa
open Go.Obj renaming cells->Oc
namespace Go.Proofs.YtjnjpagegkcgfaaGreatDoor.Cop
section
open Go.RowKit Go.Shelf
attribute [local go_sem] Oper.semAt_some
abbrev Pj:=(Int×Int)×(Int×Int)
def Cf(l:LP):List Pj:=l.zip l.tail
def mm(e:Pj):Array Ob:=#[Oe #[U Oa e.1.1,U Oa e.1.2],Oe #[U Oa e.2.1,U Oa e.2.2]]
def Ov l:(Cf l).length=l.length-1:=by simp[Cf]
def MP{l}{j:Nat}{p q}(a:l[j]?=M p)(c:l[j+1]?=M q):(Cf l)[j]?=M (p,q):=by unfold Cf;rw[List.getElem?_zip_eq_some];exact⟨a,by rw[List.getElem?_tail];exact c⟩
def lQ w sl n c:Calls Tryz.prog 148 #[O sl n c] w fun e f=>e=.returned (.func (.func 196) #[] #[Oh (M ⟨w.heap.size,0,I⟩)])/\w.alloc (Oc #[O sl n c] 121)=f:=by have d:∀(a:Fn)(first cap:Array Ob)(w:Z),(Instr.makeFunc a first cap).run Tryz.prog w = .ok (.func a first cap) w:=fun _ _ _ _=>rfl;go_in;go_wp2;go_ret;exact⟨rfl,rfl⟩
def GH{F m P l a tmps assign body W}{A B:Z->Prop}(h:RoundIn F m P l a tmps assign body W fun e W'=>(e=.returned (Od true)/\A W')\/(e=.returned (Od false)/\B W')):RoundIn F m P l a tmps assign body W fun e W'=>∃b,e=.returned (Od b)/\(b=true->A W')/\(b=false->B W'):=
 h.mono fun e W' h=>by
  rcases h with ⟨rfl,h⟩|⟨rfl,h⟩
  ·exact⟨true,rfl,fun _=>h,fun h=>nomatch h⟩
  ·exact⟨false,rfl,fun h=>(nomatch h),fun _=>h⟩
def BB{β:Type} f n(hn:1<=n) l g w w0 sl ps d(u:d.map f=Cf ps)(J Jx:List β->Z->Prop)(hY:∀pre x W,J pre W->pre.length<d.length->YieldAt Fence.wide (n-1) Tryz.prog l (mm (f x)) W fun e W' =>
   (e=.returned (Od true)/\J (pre++[x]) W'/\Re w g W W')\/(e=.returned (Od false)/\Jx (pre++[x]) W'))
  (ac:∀pre W,J pre W->J pre W.drew)(k:w0.cell? ⟨g,0,I⟩=M sl)(ae:g<w0.heap.size)(R:Fa w sl ps)(hw:Aa w w0) W(hW:Re w g w0 W)(h0:J [] W) :
  CallsIn Fence.wide n Tryz.prog 196 #[.func (.yield l) #[] #[],Oh (M ⟨g,0,I⟩)] W fun e W'=>(∃v,e=.returned v)/\
   ((∃ys,ys=d/\J ys W')\/(∃pre,pre <+: d/\Jx pre W')):=by
 obtain⟨a,c,rfl⟩:=R.form;have p:=R.le;obtain⟨m,hm⟩:=gX ps.length;rw[hm]at R k p;have i:d.length=m-1:=by have:=congrArg List.length u;rw[lL,Ov,hm]at this;exact this
 rw[i]at hY;unfold maxLen at p;have ak:m<=9223372036854775807:=oM;have Hm:=ka hm;clear hm p;have ag:W.cell? ⟨g,0,I⟩=M (O a m c):=(World.cell?_of_block hW.2).trans k;refine callsIn_of_wp Tryz.func196 rfl trivial ?_ rfl;simp only[Tryz.ntmps196,List.size_toArray,List.length_cons,List.length_nil,Nat.reduceAdd,Nat.reduceSub,Array.replicate_succ,Array.replicate_zero,List.push_toArray,List.append_toArray,List.nil_append,List.cons_append]
 gi_wp2
 gi_loopw [3] (fun t3 wr=>∃j:Nat,j<=m/\t3=U Oa ((j+1:Nat):Int)/\J (d.take j) wr/\Re w g w0 wr)
  (fun t3 _=>(m+1-intOf t3).toNat)
 case atStart=>exact⟨0,by omega,rfl,by simpa using h0,hW⟩
 case round =>
  obtain⟨j,hj,rfl,hJ,s⟩:=hrel;have ah:wr.cell? ⟨g,0,I⟩=M (O a m c):=(World.cell?_of_block s.2).trans k;by_cases aj:j+1<m
  ·obtain⟨⟨x,z⟩,hp⟩:∃q,ps[j]?=M q:=⟨ps[j]'(by rw[Hm.o];omega),by simp⟩;obtain⟨⟨x',z'⟩,hq⟩:∃q,ps[j+1]?=M q:=⟨ps[j+1]'(by rw[Hm.o];omega),by simp⟩;have he:=MP hp hq;obtain⟨y,r⟩:∃y,d[j]?=M y:=⟨d[j]'(by rw[i];omega),by simp⟩;have K:f y=((x,z),(x',z')):=by
    rw[<-u,lP,r]at he;exact Option.some.inj he
   obtain⟨b,o,rfl,hb,d0,d1⟩:=(R.f (hw.y s.1 (nE _))).at' hp;obtain⟨b',o',e',ai,d2,d3⟩:=(R.f (hw.y s.1 (nE _))).at' hq;cases e';obtain⟨fn,tmps,assign,body,hy,hR⟩:=hY _ y wr.drew (ac _ _ hJ) (by rw[List.length_take,i];omega);have aa:d.take j++[y]=d.take (j+1):=(Uf _ _ _ r).symm;rw[aa]at hR;have t:=GH hR;have HR:=ka t;have u1:((j+1:Nat):Int)-1=(j:Int):=oM;have u2:IntKind.i64.wrap ((j:Int)+1-1)=(j:Int):=by rw[show (j:Int)+1-1=j by omega];exact iW _ ⟨by omega,by omega⟩
   have u6:IntKind.i64.wrap (j:Int)=(j:Int):=iW _ ⟨by omega,by omega⟩;have u3:(0:Int)<=(j:Int)+1:=oM;have u4:(j:Int)+1<(m:Int):=oM;have u5:((j:Int)+1).toNat=j+1:=oM;have p1:(0:Int)<=(j:Int):=oM;have p2:(j:Int)<(m:Int):=oM;have p3:((j+1:Nat):Int)<(m:Int):=oM;rw[K]at hy;clear hR t aa hp hq he r K;unfold mm at hy;dsimp only at hy
   gi_wp2
   gi_region_with ((with_reducible refine RoundIn.mono HR.o ?_);rintro e W3 ⟨bb,rfl,hA,hB⟩)
   all_goals
    cases bb
    ·have ad:=hB rfl;clear hA hB
     gi_wp2
     refine bR (results_none rfl _ _ _) rfl ?_;exact⟨⟨_,rfl⟩,.inr ⟨_,⟨d.drop (j+1),List.take_append_drop _ _⟩,ad⟩⟩
    ·obtain⟨ab,af⟩:=hA rfl;clear hA hB
     gi_wp2
     go_roundw
     case rel=>exact⟨j+1,by omega,by go_num,ab,s.trans ((Re.refl w g wr).ext ((eR wr).drew) (hw.y s.1 (nE _)).size (Nat.lt_of_lt_of_le ae s.1.size) |>.trans af)⟩
     case measure=>simp[intOf];omega
  ·have e:d.take j=d:=lT (by rw[i];omega);rw[e]at hJ;have p3:¬((j+1:Nat):Int)<(m:Int):=oM;clear e
   gi_wp2
   go_end0
   exact⟨⟨_,rfl⟩,.inl hJ⟩
def lF{β} f n(t:1<=n) a w w0 sl ps(c:List β)(i:c.map f=Cf ps)(g:w0.cell? ⟨a,0,I⟩=M sl)(d:a<w0.heap.size)(s:Fa w sl ps)(j:Aa w w0):SeqStopsK Fence.wide n Tryz.prog 196 #[Oh (M ⟨a,0,I⟩)] (fun x=>mm (f x)) (Re w a) (fun u=>u=c) (fun pre=>pre <+: c) c.length w0:=
 fun l J k W p hJ _ q o=>BB f n t l a w w0 sl ps c i J k q (fun pre W' h=>hJ _ _ _ I h ⟨rfl,rfl,rfl,nE _,fun _ _ _=>rfl⟩ (fun r e=>by cases e)) g d s j W ((Re.refl w a w0).ext p j.size d) o
section
variable {P:Program} {ops:Array Oper} {Q:Exit->Of->Z->Prop} {md:Region.Mode} {S:Z->Prop}
def Fp(P:Program)(md:Region.Mode)(ops:Array Oper)(Q:Exit->Of->Z->Prop)(S:Z->Prop)(fuel:Nat)(d:Array Bool)(a:Of)(w:Z)(i:Nat)(oi:Oper):Prop:=
 ∃v,Region.noSelect ops=true/\Region.free md ops d i=true/\(Region.ready md ops d).contains i=true/\(∀c a w,Q (.panic c) (a.put oi.dst v) w->Q (.panic c) a w)/\YieldsIf P ops S oi v a/\S w/\
  wpAnyH P md ops Q S fuel (d.setIfInBounds i true) (a.put oi.dst v) w
def Cd{i oi fuel c a w}(l:ops[i]?=M oi)(h:Fp P md ops Q S fuel c a w i oi):wpAnyH P md ops Q S (fuel+1) c a w:=by obtain⟨v,d,e,f,g,j,h6,k⟩:=h;exact wpAnyH_take l d e f g j h6 k
def Kp(P:Program)(md:Region.Mode)(ops:Array Oper)(Q:Exit->Of->Z->Prop)(S:Z->Prop)(fuel:Nat)(c:Array Bool)(a:Of)(w:Z)(i:Nat)(o:Oper):Prop:=
 Region.ready md ops c=[i]/\∀K':Of->Z->Prop,Shut (∀a w,S w->(S w->wpAnyH P md ops Q S fuel (c.setIfInBounds i true) a w)->K' a w)->if Region.wanted o (yielded ops a.tmps)=true then Oper.wp P o a w K' Q else K' (a.put o.dst undef) w
def Gs{i o fuel c a w}(d:ops[i]?=M o)(h:Kp P md ops Q S fuel c a w i o):wpAnyH P md ops Q S (fuel+1) c a w:=
 wpAnyH_ready h.1 sM (AllReadyH.cons d h.2 AllReadyH.nil)
def Ib{v i oi fuel d a w G}(h:G)(l:ops[i]?=M oi:=by(simp only[gA,gS,gZ];rfl))(f:Region.noSelect ops=true:=by kernel_rfl)(g:Region.free md ops d i=true:=by kernel_rfl)(j:(Region.ready md ops d).contains i=true:=by kernel_rfl)(h4:∀c a w,Q (.panic c) (a.put oi.dst v) w->Q (.panic c) a w:=by exact fun _ _ _ h=>h)(o:Region.wanted oi (yielded ops a.tmps)=true:=by rfl)(p:∀w,S w->(execOp a.eval oi).run P w = .ok (.value v) w:=by(intro w e;simp only[Ea,and_true]at e;go_simp;try(with_reducible rfl)))(h6:S w:=by(with_reducible assumption))(k:wpAnyH P md ops Q S fuel (d.setIfInBounds i true) (a.put oi.dst v) w=G:=by((try simp only[Act.put,sA,sZ,sS]);rfl)):wpAnyH P md ops Q S (fuel+1) d a w:=by subst k;exact Cd l ⟨v,f,g,j,h4,Or.inl ⟨o,p⟩,h6,h⟩
def pd{i oi fuel d a w G}(h:G)(k:ops[i]?=M oi:=by(simp only[gA,gS,gZ];rfl))(e:Region.noSelect ops=true:=by kernel_rfl)(f:Region.free md ops d i=true:=by kernel_rfl)(g:(Region.ready md ops d).contains i=true:=by kernel_rfl)(h4:∀c a w,Q (.panic c) (a.put oi.dst undef) w->Q (.panic c) a w:=by exact fun _ _ _ h=>h)(l:Region.wanted oi (yielded ops a.tmps)=false:=by rfl)  (h6:S w:=by(with_reducible assumption))(j:wpAnyH P md ops Q S fuel (d.setIfInBounds i true) (a.put oi.dst undef) w=G:=by((try simp only[Act.put,sA,sZ,sS]);rfl)):wpAnyH P md ops Q S (fuel+1) d a w:=by subst j;exact Cd k ⟨undef,e,f,g,h4,Or.inr ⟨l,rfl⟩,h6,h⟩
def Bb{v i oi fuel d a w G}(h:G)(l:ops[i]?=M oi:=by(simp only[gA,gS,gZ];rfl))(f:Region.noSelect ops=true:=by kernel_rfl)(g:Region.free md ops d i=true:=by kernel_rfl)(j:(Region.ready md ops d).contains i=true:=by kernel_rfl)(h4:∀c a w,Q (.panic c) (a.put oi.dst v) w->Q (.panic c) a w:=by exact fun _ _ _ h=>h)(o:Region.wanted oi (yielded ops a.tmps)=true:=by rfl)(p:∀w,S w->(execOp a.eval oi).run P w = .ok (.value v) w:=by(intro w e;simp only[Ea,and_true]at e;go_simp;try(with_reducible rfl)))(h6:S w:=by(with_reducible assumption))(k:jo (i+1) (wpAnyH P md ops Q S fuel (d.setIfInBounds i true) (a.put oi.dst v) w)=G:=by((try simp only[Act.put,sA,sZ,sS,Nat.reduceAdd]);rfl)):jo i (wpAnyH P md ops Q S (fuel+1) d a w):=by subst k;exact Cd l ⟨v,f,g,j,h4,Or.inl ⟨o,p⟩,h6,h⟩
def Nf{i oi fuel d a w G}(h:G)(k:ops[i]?=M oi:=by(simp only[gA,gS,gZ];rfl))(e:Region.noSelect ops=true:=by kernel_rfl)(f:Region.free md ops d i=true:=by kernel_rfl)(g:(Region.ready md ops d).contains i=true:=by kernel_rfl)(h4:∀c a w,Q (.panic c) (a.put oi.dst undef) w->Q (.panic c) a w:=by exact fun _ _ _ h=>h)(l:Region.wanted oi (yielded ops a.tmps)=false:=by rfl)  (h6:S w:=by(with_reducible assumption))(j:jo (i+1) (wpAnyH P md ops Q S fuel (d.setIfInBounds i true) (a.put oi.dst undef) w)=G:=by((try simp only[Act.put,sA,sZ,sS,Nat.reduceAdd]);rfl)):jo i (wpAnyH P md ops Q S (fuel+1) d a w):=by subst j;exact Cd k ⟨undef,e,f,g,h4,Or.inr ⟨l,rfl⟩,h6,h⟩
def Vc{i o fuel c a w}(h:∀K':Of->Z->Prop,Shut (∀a w,S w->(S w->wpAnyH P md ops Q S fuel (c.setIfInBounds i true) a w)->K' a w)->if Region.wanted o (yielded ops a.tmps)=true then Oper.wp P o a w K' Q else K' (a.put o.dst undef) w)(d:ops[i]?=M o:=by(simp only[gA,gS,gZ];rfl))(e:Region.ready md ops c=[i]:=by kernel_rfl):wpAnyH P md ops Q S (fuel+1) c a w:=Gs d ⟨e,h⟩
def kO{K:Of->Z->Prop}{A:Z->Prop}{X:Of->Z->Prop}(e:Shut (∀a w,A w->(A w->X a w)->K a w)){a w G}(c:A w)(h:A w->G)(d:X a w=G:=by((try simp only[Act.put,sA,sZ,sS]);rfl)):K a w:=by subst d;exact Shut.out e _ _ c h
def Fb{f args Y}{G:Ob->Z->Prop}{i o fuel c a w}(l:Calls P f args w Y)(h:∀e w',Y e w'->∃v,e=.returned v/\S w'/\(S w'->G v w'))(p:ops[i]?=M o:=by(simp only[gA,gS,gZ];rfl))(r:Region.ready md ops c=[i]:=by kernel_rfl)(s:Region.wanted o (yielded ops a.tmps)=true:=by rfl)(t:(execOp a.eval o).run P w = .ok (.enter f args) w:=by(go_simp;try(with_reducible rfl)))(g:∀v w',wpAnyH P md ops Q S fuel (c.setIfInBounds i true) (a.put o.dst v) w'=G v w':=by(intro v w';(try simp only[Act.put,sA,sZ,sS]);rfl)):wpAnyH P md ops Q S (fuel+1) c a w:=by refine Vc (i:=i) (fun K j=>?_) p r;rw[if_pos s];unfold Oper.wp;rw[t,Oper.upon_enter];refine l.mono fun e w' u=>?_;obtain⟨v,rfl,k,q⟩:=h e w' u;exact Shut.out j _ _ k (fun d=>by rw[g];exact q d)
def Sb{fuel c a w}(h:Q .normal a w)(d:Region.ready md ops c=[]:=by kernel_rfl):wpAnyH P md ops Q S fuel c a w:=wpAnyH_done d h _
variable {P:Program} {ops:Array Oper} {Q:Exit->Of->Z->Prop} {md:Region.Mode} {S:Z->Prop}
def Fs{i j oi d fuel c a w}(e:∀K':Of->Z->Prop,Shut (∀a w,S w->(S w->wpAnyH P md ops Q S fuel (c.setIfInBounds i true) a w)->K' a w)->if Region.wanted oi (yielded ops a.tmps)=true then Oper.wp P oi a w K' Q else K' (a.put oi.dst undef) w)(f:∀K':Of->Z->Prop,Shut (∀a w,S w->(S w->wpAnyH P md ops Q S fuel (c.setIfInBounds j true) a w)->K' a w)->if Region.wanted d (yielded ops a.tmps)=true then Oper.wp P d a w K' Q else K' (a.put d.dst undef) w)(g:ops[i]?=M oi:=by(simp only[gA,gS,gZ];rfl))(k:ops[j]?=M d:=by(simp only[gA,gS,gZ];rfl))(l:Region.ready md ops c=[i,j]:=by kernel_rfl) :
  wpAnyH P md ops Q S (fuel+1) c a w:=
 wpAnyH_ready l sM (AllReadyH.cons g e (AllReadyH.cons k f AllReadyH.nil))
end
def Nh(x:Rat)(e:Pj):Bool:=decide (yb x ((e.2.1:Int):Rat)<=0)
def Yi(x:Rat)(e:Pj):Rat:=((e.1.2:Int):Rat)+((x-((e.1.1:Int):Rat))*((e.2.2-e.1.2:Int):Rat))/((e.2.1-e.1.1:Int):Rat)
def kb(ps:LP)(x:Rat):Rat:=match (Cf ps).find? (Nh x)with|some e=>Yi x e|none=>(((ps.getD (ps.length-1) (0,0)).2:Int):Rat)
def RB.sim{B W W' b q}(h:RB W b q)(k:Lj B W W'):RB W' b q:=by obtain⟨a,m,c,s,d,i,e,f,g⟩:=h;exact⟨a,m,c,s,d,i,e,k.heap f,g.keep (k.keep _)⟩
def Ml{k n}(h:Bd k n)(a:k<=1000000:=by decide):Rb 1 (n:Rat):=Rb.int (by unfold Lm B;unfold Bd at h;simp;omega) (nE _)
def RC{k ps}(h:tg k ps){e}(f:e∈Cf ps):Bd k e.1.1/\Bd k e.1.2/\Bd k e.2.1/\Bd k e.2.2:=by obtain⟨p,q⟩:=e;have a:=List.of_mem_zip f;have c:=h p a.1;have d:=h q (List.mem_of_mem_tail a.2);exact⟨c.1,c.2,d.1,d.2⟩
abbrev BE:={ e:Pj // Bd 104000 e.1.1/\Bd 104000 e.1.2/\Bd 104000 e.2.1/\Bd 104000 e.2.2 }
def zS(w:Z)(x:Rat)(pre:List BE)(W:Z):Prop:=
 Aa w W/\w.heap.size+1+1+1<=W.heap.size/\RB W w.heap.size x/\RB W (w.heap.size+1) 0/\∀e∈pre,Nh x e.1=false
def yS(w:Z)(x:Rat)(c:Code)(pre:List BE)(W:Z):Prop:=
 c = .ret/\Aa w W/\w.heap.size+1+1+1<=W.heap.size/\∃(a:List BE)(e:BE),pre=a++[e]/\(∀e∈a,Nh x e.1=false)/\Nh x e.1=true/\RB W (w.heap.size+1) (Yi x e.1)
def ij(s B:Nat)(j:Option Og)(l k:Nat)(o:Bool)(a:Option Og)(d c:Nat)(e f g i:Int)(W:Z):Prop:=
 W.cell? ⟨s,0,I⟩=M (O j l k)/\W.cell? ⟨s,1,I⟩=M (Od o)/\W.cell? ⟨s,2,I⟩=M (O a d c)/\W.cell? ⟨B,0,I⟩=M (U Oa e)/\W.cell? ⟨B,1,I⟩=M (U Oa f)/\W.cell? ⟨B+1,0,I⟩=M (U Oa g)/\W.cell? ⟨B+1,1,I⟩=M (U Oa i)
def ij.ext{s B j o l p a d c e f g i W W'}(h:ij s B j o l p a d c e f g i W)(k:Aa W W'):ij s B j o l p a d c e f g i W':=by obtain⟨q,r,t,u,v,w,h6⟩:=h;exact⟨k.d q,k.d r,k.d t,k.d u,k.d v,k.d w,k.d h6⟩
def sP{W D}(a:W.heap[D]?=M (.deferred (M []))) o:Lj D W (W.putObj D o):=
 Lj.of_grown (grownBy_putObj' W D o) (Nat.le_of_lt (Jb a)) (fun r e=>by cases e;exact⟨nE _,_,a,rfl⟩)
def ij.set{s B j l k o a d c e f g i W}(h:ij s B j l k o a d c e f g i W){p}(z:p.block≠s)(K:p.block≠B)(R:p.block≠B+1) u:ij s B j l k o a d c e f g i (W.setCell p u):=by obtain⟨q,r,t,v,w,x,y⟩:=h;refine⟨?_,?_,?_,?_,?_,?_,?_⟩<;>(rw[World.cell?_setCell_far _ _ _ _ dO];assumption)
def Vo{B W W'}(h:Aa W W'):KeepsFrom B W W':=⟨h.size,fun _ _ _ a _=>h.e a⟩
def rM{β:Type}{f a pre}{e:β}(g:pre++[e] <+: a)(d:∀x∈pre,f x=false)(c:f e=true):a.find? f=M e:=by
 obtain⟨t,rfl⟩:=g;rw[List.append_assoc,List.find?_append];have:pre.find? f=I:=by
  rw[List.find?_eq_none];intro x i;simp[d x i]
 rw[this];simp[c]
def NG{ps x c}(a:c.map (fun e=>e.1)=Cf ps){pre}{e:BE}(i:pre++[e] <+: c)(g:∀e∈pre,Nh x e.1=false)(d:Nh x e.1=true):kb ps x=Yi x e.1:=by unfold kb;rw[<-a,List.find?_map,rM (f:=Nh x ∘ fun e:BE=>e.1) i g d];rfl
def VL{ps x}{c:List BE}(a:c.map (fun e=>e.1)=Cf ps)(f:∀e∈c,Nh x e.1=false){q}(g:ps[ps.length-1]?=M q):kb ps x=((q.2:Int):Rat):=by
 unfold kb;have:(Cf ps).find? (Nh x)=I:=by
  rw[<-a,List.find?_eq_none];intro y i;obtain⟨e,d,rfl⟩:=List.mem_map.1 i;simp[f e d]
 rw[this,gD,g];rfl
def Lr w v vx ps x(h:Fa w v ps)(aL:Wb ps)(hx:Sa w vx x)(hb:Rb 1000 x):Calls Tryz.prog 88 #[v,vx] w (Nd w (kb ps x)):=by
 obtain⟨a,c,rfl⟩:=h.form;obtain⟨xa,xm,xc,xs,bh,bj,bi,rfl⟩:=hx.form;have Hb:=ka hb;have aX:=ka aL;obtain⟨n,hn⟩:=gX ps.length;rw[hn]at h ⊢;have Hn:=ka hn;obtain⟨es,a7⟩:∃es:List BE,es.map (fun e=>e.1)=Cf ps:=⟨(Cf ps).attachWith _ (fun e he=>RC aL.2.1 he),Tr _⟩;have aW:=ka a7;clear hb aL hn;refine(callsIn_wide (n:=5)).1 ?_;refine callsIn_of_wp_marks Tryz.func88 rfl trivial ?_ rfl;simp only[Tryz.ntmps88,List.size_toArray,List.length_cons,List.length_nil,Nat.reduceAdd,Nat.reduceSub,Array.replicate_succ,Array.replicate_zero,List.push_toArray,List.append_toArray,List.nil_append,List.cons_append]
 gi_wp2_with(refine⟨trivial,?_⟩;gi_at_call 148;refine(callsIn_wide.2 (lQ _ _ _ _)).mono ?_;rintro e w' ⟨rfl,rfl⟩)
 obtain⟨W0,aa⟩:=gX ((((w.alloc (Oc #[O xa xm xc,Od xs,O bh bj bi] 63)).alloc (Oc #[O I 0 0,Od false,O I 0 0] 63)).alloc (Oc #[O a n c] 121)));have bc:Aa w W0:=by rw[<-aa];exact(((eR w).alloc _).alloc _).alloc _
 have cZ:W0.heap.size=w.heap.size+1+1+1:=by rw[<-aa];simp
 have cb:W0.cell? ⟨w.heap.size+1+1,0,I⟩=M (O a n c):=by rw[<-aa,World.cell?_alloc_at _ _ _ _ sM];rfl
 have b7:RB W0 w.heap.size x:=by rw[<-aa];exact(RB.new hx rfl).ext (((eR _).alloc _).alloc _)
 have b8:RB W0 (w.heap.size+1) 0:=by rw[<-aa];exact(RB.new (Sa.zero _) sM).ext ((eR _).alloc _)
 rw[aa];have cO:=ka aa;clear aa;refine wpIn_rangeFunc_ownH rfl dM (gf:=196) (lb:=#[Oh (M ⟨w.heap.size+1+1,0,I⟩)]) rfl trivial (enters_of Tryz.func196 kM rfl)
  (lF (fun e:BE=>e.1) _ dM (w.heap.size+1+1) w _ _ ps es a7 cb oM h bc) Re.trans (Re.put oM oM) (Below.refl _ _) (fun _=>rfl)
  (zS w x) (yS w x) (Pm (fun s W h=>by have:=h.2.1;omega) (fun s W W' h k=>?hsim)) (fun c=>Pm (fun s W h=>by have:=h.2.2.1;omega) (fun s W W' h k=>?hsimx)) ?h0
  (fun(e:BE) a' W=>∃B,w.heap.size+1+1+1<=B/\W.heap[B]?=M (Oc #[U Oa e.1.1.1,U Oa e.1.1.2] 43 (0,0))/\W.heap[B+1]?=M (Oc #[U Oa e.1.2.1,U Oa e.1.2.2] 43 (0,0))/\
   a'={ tmps:=#[O a n c,Oe #[O xa xm xc,Od xs,O bh bj bi],undef,Oh (M ⟨w.heap.size,0,I⟩),Oh (M ⟨w.heap.size+1,0,I⟩),Oh (M ⟨B,0,I⟩),Oh (M ⟨B+1,0,I⟩),O a n c,.func (.func 196) #[] #[Oh (M ⟨w.heap.size+1+1,0,I⟩)],Oe #[U Oa e.1.1.1,U Oa e.1.1.2],Oe #[U Oa e.1.2.1,U Oa e.1.2.2],undef,undef,undef,undef,undef,undef,undef,undef,undef,undef,undef,undef,undef,undef,undef,undef,undef,undef,undef,undef,undef,undef,undef,undef,undef,undef,undef,undef,undef,undef,undef,undef,undef,undef,undef,undef,undef],defers:=[] })
  (fun e a'=>Pm (fun s W h=>?hAs) (fun s W W' h k=>?hAk)) ?assign ?body ?done ?stop
 case hsim =>
  obtain⟨R,h2,h3,h4,h5⟩:=h;exact⟨k.ext R oM,nT h2 k.size,h3.sim k,h4.sim k,h5⟩
 case hsimx =>
  obtain⟨h0,R,h2,p',e,h3,h4,h5,h6⟩:=h;exact⟨h0,k.ext R oM,nT h2 k.size,p',e,h3,h4,h5,h6.sim k⟩
 case h0=>exact⟨bc,by omega,b7,b8,fun e he=>by cases he⟩
 case hAs =>
  obtain⟨B,R,h2,h3,_⟩:=h;have:=Jb h2;omega
 case hAk =>
  obtain⟨B,R,h2,h3,h4⟩:=h;exact⟨B,R,k.heap h2,k.heap h3,h4⟩
 case assign =>
  rintro l pre e W K ⟨R,h2,h3,h4,h5⟩ hK;unfold mm
  gi_wp2
  refine hK _ _ (((KeepsOthers.alloc _ _).trans (KeepsOthers.alloc _ _)).from _) (((Re.refl _ _ W).ext (((eR W).alloc _).alloc _) R.size oM)) ⟨(R.alloc _).alloc _,by simp;omega,h3.ext (((eR W).alloc _).alloc _),h4.ext (((eR W).alloc _).alloc _),h5⟩ ⟨W.heap.size,h2,?_,?_,rfl⟩
  ·rw[Dg,if_neg sM];exact Bc _ _ _ rfl
  ·exact Bc _ _ _ sM
 case body =>
  rintro l pre e a' W hl ⟨r,hr⟩ ⟨R,h2,h3,h4,h5⟩ ⟨B,hB,q1,q2,rfl⟩ cV;obtain⟨⟨⟨g,j⟩,y,bz⟩,aq⟩:=e;dsimp only at q1 q2 aq ⊢;obtain⟨ya,ym,yc,ys,ab,ad,ac,r0,r1,r2,_,_,_,zr,bg⟩:=h3.rd;have e0:=Ba q1 (i:=0) (u:=U Oa g) rfl;have e1:=Ba q1 (i:=1) (u:=U Oa j) rfl;have e2:=Ba q2 (i:=0) (u:=U Oa y) rfl;have e3:=Ba q2 (i:=1) (u:=U Oa bz) rfl;have z1:=Jb q1;have z2:=Jb q2
  gi_wp2
  have aJ:ij w.heap.size B ya ym yc ys ab ad ac g j y bz W:=⟨r0,r1,r2,e0,e1,e2,e3⟩;have bf:Sa W.drew (Oe #[O ya ym yc,Od ys,O ab ad ac]) x:=bg.ext (eR W).drew;have bt:=ka aJ;refine yq (S:=ij w.heap.size B ya ym yc ys ab ad ac g j y bz) kM kM (aJ.ext (eR W).drew) (fun f=>?_);clear r0 r1 r2 e0 e1 e2 e3 aJ;refine Cd (i:=0) (oi:=?oix1) ?hix1 ?hx1
  case hix1=>(simp only[gA,gS,gZ];rfl)
  refine⟨?_,by kernel_rfl,by kernel_rfl,by kernel_rfl,fun _ _ _ h=>h,Or.inl ⟨by rfl,?_⟩,by assumption,?_⟩;rotate_left 1
  ·(intro w d;rcases d with ⟨s0,s1,p,t,s4,s5,s6⟩;go_simp;try(with_reducible rfl))
  (try simp only[Act.put,sA,sZ,sS]);refine Cd (i:=1) (oi:=?oix2) ?hix2 ?hx2
  case hix2=>(simp only[gA,gS,gZ];rfl)
  refine⟨?_,by kernel_rfl,by kernel_rfl,by kernel_rfl,fun _ _ _ h=>h,Or.inl ⟨by rfl,?_⟩,by assumption,?_⟩;rotate_left 1
  ·(intro w d;rcases d with ⟨s0,s1,p,t,s4,s5,s6⟩;go_simp;try(with_reducible rfl))
  (try simp only[Act.put,sA,sZ,sS]);refine Cd (i:=2) (oi:=?oix3) ?hix3 ?hx3
  case hix3=>(simp only[gA,gS,gZ];rfl)
  refine⟨?_,by kernel_rfl,by kernel_rfl,by kernel_rfl,fun _ _ _ h=>h,Or.inl ⟨by rfl,?_⟩,by assumption,?_⟩;rotate_left 1
  ·(intro w d;rcases d with ⟨s0,s1,p,t,s4,s5,s6⟩;go_simp;try(with_reducible rfl))
  (try simp only[Act.put,sA,sZ,sS]);obtain⟨an,ao,ap,bW⟩:=aq;obtain⟨T,hT⟩:=gX (yb x ((y:Int):Rat));have HT:=ka hT;have aY:=Ml ap;have a6:=fun W=>Tn W y (by unfold Bd at ap;omega) (by unfold Bd at ap;omega);have bw:=ka a6;clear a6 hT;refine Fb (i:=3) (bw.o _) ?_;rintro e w3 ⟨v3,rfl,bb,hx3⟩;obtain⟨a3,m3,c3,t,b3,n3,k3,rfl⟩:=bb.form;refine⟨_,rfl,(ij.ext (by assumption) hx3),fun f=>?_⟩;have aK:=Yj w3 (Oe #[O ya ym yc,Od ys,O ab ad ac]) (Oe #[O a3 m3 c3,Od t,O b3 n3 k3]) x ((y:Int):Rat) (bf.ext hx3) bb (Hb.o.mono dM) (aY.mono dM);rw[HT.o]at aK;have bA:=ka aK;clear aK;refine Fb (i:=4) bA.o ?_;rintro e w4 ⟨rfl,hx4⟩;refine⟨_,rfl,(ij.ext (by assumption) hx4),fun f=>?_⟩;refine Cd (i:=5) (oi:=?oix4) ?hix4 ?hx4
  case hix4=>(simp only[gA,gS,gZ];rfl)
  refine⟨?_,by kernel_rfl,by kernel_rfl,by kernel_rfl,fun _ _ _ h=>h,Or.inl ⟨by rfl,?_⟩,by assumption,?_⟩;rotate_left 1
  ·(intro w d;rcases d with ⟨s0,s1,p,t,s4,s5,s6⟩;go_simp;try(with_reducible rfl))
  (try simp only[Act.put,sA,sZ,sS]);refine wpAnyH_done kM ?_ _;have X4:Aa W w4:=((eR W).drew.trans hx3).trans hx4;have b9:=bt.o.ext X4;have aG:=h4.ext X4;have cS:w.heap.size+1+1+1<=w4.heap.size:=nT h2 X4.size;by_cases a4:T<=0
  ·have z:Nh x ((g,j),y,bz)=true:=by unfold Nh;rw[HT.o];simpa using a4
   have aE:=ka z;have bu:=ka X4;have bk:=ka aG;have be:Sa w4.drew (Oe #[O ya ym yc,Od ys,O ab ad ac]) x:=bg.ext X4.drew;have bC:=ka be;clear z X4 aG be f bf;unfold NQ
   gi_wp2
   refine yq (S:=ij w.heap.size B ya ym yc ys ab ad ac g j y bz) kM kM (b9.ext (eR w4).drew) (fun f=>?_);have d1:Bd 1000000 (bz-j)/\Bd 1000000 (y-g):=⟨(bW.sub ao).mono dM,(ap.sub an).mono dM⟩;have g1:IntKind.i64.wrap (bz-j)=bz-j:=iW _ ⟨by unfold Bd at d1;omega,by unfold Bd at d1;omega⟩;have g2:IntKind.i64.wrap (y-g)=y-g:=iW _ ⟨by unfold Bd at d1;omega,by unfold Bd at d1;omega⟩;have Q1:=Ml (k:=104000) (n:=g) an;have Q2:=Ml (k:=104000) (n:=j) ao;have Q3:Rb 1 ((bz-j:Int):Rat):=Ml d1.1;have Q4:Rb 1 ((y-g:Int):Rat):=Ml d1.2;have Q5:=Hb.o.sub (Q1.mono (k:=1000) dM);have Q6:=Q5.mul Q3;have Q7:=Q6.div Q4 dM;have bm:=ka Q1;have bn:=ka Q2;have bo:=ka Q3;have bp:=ka Q4;have bq:=ka Q5;have br:=ka Q6;have bs:=ka Q7;have Ha:=ka (fun W=>Tn W j (by unfold Bd at ao;omega) (by unfold Bd at ao;omega));have Hc:=ka (fun W=>Tn W g (by unfold Bd at an;omega) (by unfold Bd at an;omega));have Hd:=ka (fun W=>Tn W (bz-j) (by unfold Bd at d1;omega) (by unfold Bd at d1;omega));have He:=ka (fun W=>Tn W (y-g) (by unfold Bd at d1;omega) (by unfold Bd at d1;omega));clear Q1 Q2 Q3 Q4 Q5 Q6 Q7 aY;refine Cd (i:=0) (oi:=?oix5) ?hix5 ?hx5
   case hix5=>(simp only[gA,gS,gZ];rfl)
   refine⟨?_,by kernel_rfl,by kernel_rfl,by kernel_rfl,fun _ _ _ h=>h,Or.inl ⟨by rfl,?_⟩,by assumption,?_⟩;rotate_left 1
   ·(intro w d;rcases d with ⟨s0,s1,p,t,s4,s5,s6⟩;go_simp;try(with_reducible rfl))
   (try simp only[Act.put,sA,sZ,sS]);refine Cd (i:=1) (oi:=?oix6) ?hix6 ?hx6
   case hix6=>(simp only[gA,gS,gZ];rfl)
   refine⟨?_,by kernel_rfl,by kernel_rfl,by kernel_rfl,fun _ _ _ h=>h,Or.inl ⟨by rfl,?_⟩,by assumption,?_⟩;rotate_left 1
   ·(intro w d;rcases d with ⟨s0,s1,p,t,s4,s5,s6⟩;go_simp;try(with_reducible rfl))
   (try simp only[Act.put,sA,sZ,sS]);refine Cd (i:=3) (oi:=?oix7) ?hix7 ?hx7
   case hix7=>(simp only[gA,gS,gZ];rfl)
   refine⟨?_,by kernel_rfl,by kernel_rfl,by kernel_rfl,fun _ _ _ h=>h,Or.inl ⟨by rfl,?_⟩,by assumption,?_⟩;rotate_left 1
   ·(intro w d;rcases d with ⟨s0,s1,p,t,s4,s5,s6⟩;go_simp;try(with_reducible rfl))
   (try simp only[Act.put,sA,sZ,sS]);refine Cd (i:=4) (oi:=?oix8) ?hix8 ?hx8
   case hix8=>(simp only[gA,gS,gZ];rfl)
   refine⟨?_,by kernel_rfl,by kernel_rfl,by kernel_rfl,fun _ _ _ h=>h,Or.inl ⟨by rfl,?_⟩,by assumption,?_⟩;rotate_left 1
   ·(intro w d;rcases d with ⟨s0,s1,p,t,s4,s5,s6⟩;go_simp;try(with_reducible rfl))
   (try simp only[Act.put,sA,sZ,sS]);refine Cd (i:=5) (oi:=?oix9) ?hix9 ?hx9
   case hix9=>(simp only[gA,gS,gZ];rfl)
   refine⟨?_,by kernel_rfl,by kernel_rfl,by kernel_rfl,fun _ _ _ h=>h,Or.inl ⟨by rfl,?_⟩,by assumption,?_⟩;rotate_left 1
   ·(intro w d;rcases d with ⟨s0,s1,p,t,s4,s5,s6⟩;go_simp;try(with_reducible rfl))
   (try simp only[Act.put,sA,sZ,sS]);refine Cd (i:=8) (oi:=?oix10) ?hix10 ?hx10
   case hix10=>(simp only[gA,gS,gZ];rfl)
   refine⟨?_,by kernel_rfl,by kernel_rfl,by kernel_rfl,fun _ _ _ h=>h,Or.inl ⟨by rfl,?_⟩,by assumption,?_⟩;rotate_left 1
   ·(intro w d;rcases d with ⟨s0,s1,p,t,s4,s5,s6⟩;go_simp;try(with_reducible rfl))
   (try simp only[Act.put,sA,sZ,sS]);refine Cd (i:=9) (oi:=?oix11) ?hix11 ?hx11
   case hix11=>(simp only[gA,gS,gZ];rfl)
   refine⟨?_,by kernel_rfl,by kernel_rfl,by kernel_rfl,fun _ _ _ h=>h,Or.inl ⟨by rfl,?_⟩,by assumption,?_⟩;rotate_left 1
   ·(intro w d;rcases d with ⟨s0,s1,p,t,s4,s5,s6⟩;go_simp;try(with_reducible rfl))
   (try simp only[Act.put,sA,sZ,sS]);refine Cd (i:=10) (oi:=?oix12) ?hix12 ?hx12
   case hix12=>(simp only[gA,gS,gZ];rfl)
   refine⟨?_,by kernel_rfl,by kernel_rfl,by kernel_rfl,fun _ _ _ h=>h,Or.inl ⟨by rfl,?_⟩,by assumption,?_⟩;rotate_left 1
   ·(intro w d;rcases d with ⟨s0,s1,p,t,s4,s5,s6⟩;go_simp;try(with_reducible rfl))
   (try simp only[Act.put,sA,sZ,sS]);refine Cd (i:=11) (oi:=?oix13) ?hix13 ?hx13
   case hix13=>(simp only[gA,gS,gZ];rfl)
   refine⟨?_,by kernel_rfl,by kernel_rfl,by kernel_rfl,fun _ _ _ h=>h,Or.inl ⟨by rfl,?_⟩,by assumption,?_⟩;rotate_left 1
   ·(intro w d;rcases d with ⟨s0,s1,p,t,s4,s5,s6⟩;go_simp;try(with_reducible rfl))
   (try simp only[Act.put,sA,sZ,sS]);refine Cd (i:=12) (oi:=?oix14) ?hix14 ?hx14
   case hix14=>(simp only[gA,gS,gZ];rfl)
   refine⟨?_,by kernel_rfl,by kernel_rfl,by kernel_rfl,fun _ _ _ h=>h,Or.inl ⟨by rfl,?_⟩,by assumption,?_⟩;rotate_left 1
   ·(intro w d;rcases d with ⟨s0,s1,p,t,s4,s5,s6⟩;go_simp;try(with_reducible rfl))
   (try simp only[Act.put,sA,sZ,sS]);refine Cd (i:=15) (oi:=?oix15) ?hix15 ?hx15
   case hix15=>(simp only[gA,gS,gZ];rfl)
   refine⟨?_,by kernel_rfl,by kernel_rfl,by kernel_rfl,fun _ _ _ h=>h,Or.inl ⟨by rfl,?_⟩,by assumption,?_⟩;rotate_left 1
   ·(intro w d;rcases d with ⟨s0,s1,p,t,s4,s5,s6⟩;go_simp;try(with_reducible rfl))
   (try simp only[Act.put,sA,sZ,sS]);refine Cd (i:=16) (oi:=?oix16) ?hix16 ?hx16
   case hix16=>(simp only[gA,gS,gZ];rfl)
   refine⟨?_,by kernel_rfl,by kernel_rfl,by kernel_rfl,fun _ _ _ h=>h,Or.inl ⟨by rfl,?_⟩,by assumption,?_⟩;rotate_left 1
   ·(intro w d;rcases d with ⟨s0,s1,p,t,s4,s5,s6⟩;go_simp;try(with_reducible rfl))
   (try simp only[Act.put,sA,sZ,sS]);refine Cd (i:=17) (oi:=?oix17) ?hix17 ?hx17
   case hix17=>(simp only[gA,gS,gZ];rfl)
   refine⟨?_,by kernel_rfl,by kernel_rfl,by kernel_rfl,fun _ _ _ h=>h,Or.inl ⟨by rfl,?_⟩,by assumption,?_⟩;rotate_left 1
   ·(intro w d;rcases d with ⟨s0,s1,p,t,s4,s5,s6⟩;go_simp;try(with_reducible rfl))
   (try simp only[Act.put,sA,sZ,sS]);refine Cd (i:=18) (oi:=?oix18) ?hix18 ?hx18
   case hix18=>(simp only[gA,gS,gZ];rfl)
   refine⟨?_,by kernel_rfl,by kernel_rfl,by kernel_rfl,fun _ _ _ h=>h,Or.inl ⟨by rfl,?_⟩,by assumption,?_⟩;rotate_left 1
   ·(intro w d;rcases d with ⟨s0,s1,p,t,s4,s5,s6⟩;go_simp;try(with_reducible rfl))
   (try simp only[Act.put,sA,sZ,sS]);refine Cd (i:=19) (oi:=?oix19) ?hix19 ?hx19
   case hix19=>(simp only[gA,gS,gZ];rfl)
   refine⟨?_,by kernel_rfl,by kernel_rfl,by kernel_rfl,fun _ _ _ h=>h,Or.inl ⟨by rfl,?_⟩,by assumption,?_⟩;rotate_left 1
   ·(intro w d;rcases d with ⟨s0,s1,p,t,s4,s5,s6⟩;go_simp;try(with_reducible rfl))
   (try simp only[Act.put,sA,sZ,sS]);refine Fb (i:=2) (Ha.o _) ?_;rintro e de ⟨c6,rfl,ar,aj⟩;obtain⟨bG,cj,bX,cB,bN,cq,cc,rfl⟩:=ar.form;refine⟨_,rfl,(ij.ext (by assumption) aj),fun f=>?_⟩;refine Fb (i:=6) (Hc.o _) ?_;rintro e cJ ⟨c7,rfl,au,ae⟩;obtain⟨bH,ck,bY,cC,bO,cr,cd,rfl⟩:=au.form;refine⟨_,rfl,(ij.ext (by assumption) ae),fun f=>?_⟩;have K7:=ka (Zm cJ (Oe #[O ya ym yc,Od ys,O ab ad ac]) (Oe #[O bH ck bY,Od cC,O bO cr cd]) x ((g:Int):Rat) (bC.o.ext (aj.trans ae)) au (Hb.o.mono dM) (bm.o.mono dM));refine Fb (i:=7) K7.o ?_;rintro e dg ⟨c8,rfl,av,ak⟩;obtain⟨bI,cl,bZ,cD,bP,cs,ce,rfl⟩:=av.form;refine⟨_,rfl,(ij.ext (by assumption) ak),fun f=>?_⟩;refine Fb (i:=13) (Hd.o _) ?_;rintro e cK ⟨c9,rfl,aw,af⟩;obtain⟨bJ,cm,b0,cF,bQ,ct,cf,rfl⟩:=aw.form;refine⟨_,rfl,(ij.ext (by assumption) af),fun f=>?_⟩;have bD:=ka (iC cK (Oe #[O bI cl bZ,Od cD,O bP cs ce]) (Oe #[O bJ cm b0,Od cF,O bQ ct cf]) (x-((g:Int):Rat)) ((bz-j:Int):Rat) (av.ext af) aw (bq.o.mono dM) (bo.o.mono dM));refine Fb (i:=14) bD.o ?_;rintro e dh ⟨da,rfl,ay,al⟩;obtain⟨bK,cn,b1,cG,bT,cu,cg,rfl⟩:=ay.form;refine⟨_,rfl,(ij.ext (by assumption) al),fun f=>?_⟩;refine Fb (i:=20) (He.o _) ?_;rintro e cL ⟨db,rfl,aA,ag⟩;obtain⟨bL,co,b4,cH,bU,cv,ch,rfl⟩:=aA.form;refine⟨_,rfl,(ij.ext (by assumption) ag),fun f=>?_⟩;have bE:=ka (tE cL (Oe #[O bK cn b1,Od cG,O bT cu cg]) (Oe #[O bL co b4,Od cH,O bU cv ch]) ((x-((g:Int):Rat))*((bz-j:Int):Rat)) ((y-g:Int):Rat) (ay.ext ag) aA (br.o.mono dM) (bp.o.mono dM));refine Fb (i:=21) bE.o ?_;rintro e cN ⟨dc,rfl,aB,am⟩;obtain⟨bM,cp,b5,cI,bV,cw,ci,rfl⟩:=aB.form;refine⟨_,rfl,(ij.ext (by assumption) am),fun f=>?_⟩;have bF:=ka (tu cN (Oe #[O bG cj bX,Od cB,O bN cq cc]) (Oe #[O bM cp b5,Od cI,O bV cw ci]) ((j:Int):Rat) (((x-((g:Int):Rat))*((bz-j:Int):Rat))/((y-g:Int):Rat)) (ar.ext (((((ae.trans ak).trans af).trans al).trans ag).trans am)) aB (bn.o.mono dM) (bs.o.mono dM));refine Fb (i:=22) bF.o ?_;rintro e aV ⟨dd,rfl,aC,aD⟩;obtain⟨cP,c1,cR,c5,cQ,c4,c0,rfl⟩:=aC.form;refine⟨_,rfl,(ij.ext (by assumption) aD),fun f=>?_⟩;have aZ:Aa w4.drew aV:=((((((aj.trans ae).trans ak).trans af).trans al).trans ag).trans am).trans aD;have aH:=bk.o.ext ((eR w4).drew.trans aZ);obtain⟨_,_,_,_,_,_,_,o0,o1,o2,cx,cy,cz,zo,_⟩:=aH.rd;have bl:=ka aH;clear aH;have cY:¬w.heap.size+1=w.heap.size:=oM;have cX:¬w.heap.size+1=B/\¬w.heap.size+1=B+1:=⟨by omega,by omega⟩;have a5:Yi x ((g,j),y,bz)=((j:Int):Rat)+((x-((g:Int):Rat))*((bz-j:Int):Rat))/((y-g:Int):Rat):=rfl;have bv:=ka a5;clear a5;refine Vc (i:=23) fun K hK=>?_;go_simp;refine kO hK ((((show ij w.heap.size B ya ym yc ys ab ad ac g j y bz aV by assumption).set dO dO dO _).set dO dO dO _).set dO dO dO _) (fun _=>?_);clear hK K;refine wpAnyH_done kM ?_ _;unfold NQ
   gi_wp2
   have X9:Aa W aV:=bu.o.trans ((eR w4).drew.trans aZ);refine⟨(((Vo X9).trans ((KeepsOthers.setCell _ _ _).from _)).trans ((KeepsOthers.setCell _ _ _).from _)).trans ((KeepsOthers.setCell _ _ _).from _),rfl,(((R.trans X9).set dO _).set dO _).set dO _,by simp only[yg];exact nT h2 X9.size,pre,_,rfl,h5,aE.o,?_⟩;dsimp only;rw[bv.o];exact bl.o.put aC
  ·have z:Nh x ((g,j),y,bz)=false:=by unfold Nh;rw[HT.o];simpa using a4
   have cU:0<T:=oM;have aE:=ka z;clear z;unfold NQ
   gi_wp2
   refine⟨Vo X4,(Re.refl w _ W).ext X4 R.size oM,R.trans X4,nT h2 X4.size,h3.ext X4,aG,fun e he=>?_⟩;rcases List.mem_append.1 he with he|he
   ·exact h5 e he
   ·rw[List.mem_singleton.1 he];exact aE.o
 case done =>
  rintro D ys W hD rfl ⟨R,h2,h3,h4,h5⟩ hK;obtain⟨m,rfl⟩:∃m,n=m+1:=⟨n-1,by have:=List.length_pos_iff.2 aX.o.1;rw[Hn.o]at this;omega⟩;obtain⟨⟨qx,qz⟩,hq⟩:∃q,ps[m]?=M q:=⟨ps[m]'(by rw[Hn.o];omega),by simp⟩;obtain⟨b,o,rfl,hb,d0,d1⟩:=(h.f R).at' hq;have hR:kb ps x=((qz:Int):Rat):=VL aW.o h5 (q:=(qx,qz)) (by rw[Hn.o];exact hq);have ai:=aX.o.2.1 (qx,qz) (lM hq);have a8:=fun W=>Tn W qz (by unfold Bd at ai;dsimp only at ai;omega) (by unfold Bd at ai;dsimp only at ai;omega);have z:=h.le;have cW:m+1<=9223372036854775807:=by rw[Hn.o]at z;unfold maxLen at z;omega
  have bB:=ka a8;have aF:=ka hR;have p1:(0:Int)<=(m:Int):=oM;have p2:(m:Int)<((m+1:Nat):Int):=oM;have u1:((m+1:Nat):Int)-1=(m:Int):=oM;have zD:D<W.heap.size:=Jb hK;clear a8 hR hq ai z
  gi_wp2_with(refine⟨trivial,?_⟩;gi_at_call 85;(with_reducible refine(callsIn_wide.2 (bB.o _)).mono ?_);rintro e w2 ⟨r2,rfl,ba,hx2⟩;obtain⟨a2,m2,c2,p,b2,n2,k2,rfl⟩:=ba.form;have a1:=h4.ext hx2;obtain⟨_,_,_,_,_,_,_,o0,o1,o2,cx,cy,cz,zo,_⟩:=a1.rd;have b6:=hx2.e hK)
  have hP:=a1.put ba;have cT:¬D=w.heap.size+1:=oM;have a0:(((w2.setCell ⟨w.heap.size+1,0,I⟩ (O a2 m2 c2)).setCell ⟨w.heap.size+1,1,I⟩ (Od p)).setCell ⟨w.heap.size+1,2,I⟩ (O b2 n2 k2)).heap[D]?=M (.deferred (M [])):=by
   rw[bS _ _ _ _ dO,bS _ _ _ _ dO,bS _ _ _ _ dO];exact b6
  have ca:Aa w (((w2.setCell ⟨w.heap.size+1,0,I⟩ (O a2 m2 c2)).setCell ⟨w.heap.size+1,1,I⟩ (Od p)).setCell ⟨w.heap.size+1,2,I⟩ (O b2 n2 k2)):=
   (((R.trans hx2).set dO _).set dO _).set dO _
  have ah:=sP a0 (.deferred I);have aI:=hP.sim ah;obtain⟨pa,pm,aP,aR,aM,aQ,aO,aS,aT,aU,_,_,_,_,hz⟩:=aI.rd;refine⟨by simp,.inl ⟨_,_,rfl,run_takeDeferred a0,?_⟩⟩;refine⟨Oe #[O pa pm aP,Od aR,O aM aQ aO],by simp[results,Tryz.results88,go_sem,aS,aT,aU],?_⟩;rw[aF.o];exact⟨_,rfl,hz,ah.ext ca oM⟩
 case stop =>
  rintro D c pre W hD a9 ⟨rfl,R,h2,p',e,rfl,h4,h5,h6⟩ hK;have hR:=NG aW.o a9 h4 h5;have aF:=ka hR;clear hR
  gi_wp2
  have ah:=sP hK (.deferred I);have aI:=h6.sim ah;obtain⟨pa,pm,aP,aR,aM,aQ,aO,aS,aT,aU,_,_,_,_,hz⟩:=aI.rd;refine⟨by simp,.inl ⟨_,_,rfl,run_takeDeferred hK,?_⟩⟩;refine⟨Oe #[O pa pm aP,Od aR,O aM aQ aO],by simp[results,Tryz.results88,go_sem,aS,aT,aU],?_⟩;rw[aF.o];exact⟨_,rfl,hz,ah.ext R oM⟩
def gi(R:Exit->Of->Z->Prop):Prop:=∀(c:List PanicEntry)(a:Of)(d:Option Nat)(v:Ob)(w:Z),R (.panic c) (a.put d v) w->R (.panic c) a w
def fj(R:Exit->Of->Z->Prop):Prop:=∀(c:List PanicEntry)(a:Of)(d:Option Nat)(v:Ob)(w:Z),R (.panic c) a w->R (.panic c) (a.put d v) w
def gh{R}(f:Ta (gi R)){d:Option Nat}{v}:∀ c  a  w ,R (.panic c) (a.put d v) w->R (.panic c) a w:=fun c a w h=>f.o c a d v w h
end
section
open Go.RowKit Go.Shelf
def ks(a:List Nat):List Deferred:=a.map fun D=>{ target:=.collected D,args:=#[] }
def Zd(W:Z)(a:List Nat):Prop:=a.Nodup/\∀D∈a,W.heap[D]?=M (.deferred (M []))
def Ar{n P g tmps R}:∀ a  W ,Zd W a ->(∀W',(∀B,(∀D∈a,B<=D)->Lj B W W')->LeavesInM Fence.wide n P g tmps R [] .returning W')->LeavesInM Fence.wide n P g tmps R (ks a) .returning W
 | [],W,_,h=>h W (fun B _=>⟨Below.refl _ _,fun _ _ h _=>h⟩)
 | D::a,W,hm,h=>by
  have l:=hm.2 D sM;have q:=sP l (.deferred I);refine⟨by simp,.inl ⟨D,_,rfl,run_takeDeferred l,?_⟩⟩;refine Ar a _ ⟨(List.nodup_cons.1 hm.1).2,fun E c=>?_⟩ (fun W' d=>h W' (fun B j=>?_))
  ·have f:E≠D:=fun e=>(List.nodup_cons.1 hm.1).1 (e▸c);rw[World.putObj_heap_other f];exact hm.2 E (mC _ c)
  ·have i:=d B (fun E c=>j E (mC _ c));exact⟨(Below.mono q.1 (j D sM)).trans i.1,fun k o r p=>i.2 k o (q.2 k o r p) p⟩
def Ea:List (Og×Ob)->Z->Prop
 | [],_=>True
 | (a,v)::r,W=>W.cell? a=M v/\Ea r W
def Ea.ext:∀{L W W'},Ea L W->Aa W W'->Ea L W'
 | [],_,_,_,_=>trivial
 | _::_,_,_,⟨h1,h2⟩,k=>⟨k.d h1,h2.ext k⟩
def cE{L W W'}(h:Ea L W)(k:Aa W W'):Ea L W':=h.ext k
def cA{L W}(h:Ea L W:=by(repeat(first|exact trivial|refine⟨by go_simp,?_⟩))):Ea L W:=h
def Ea.set:∀{L W p},Ea L W->(∀q∈L,p.block≠q.1.block)->∀u,Ea L (W.setCell p u)
 | [],_,_,_,_,_=>trivial
 | (a,v)::r,W,p,⟨h1,h2⟩,hn,u=>⟨by rw[World.cell?_setCell_far _ _ _ _ (hn (a,v) (by simp))];exact h1,h2.set (fun q c=>hn q (mC _ c)) u⟩
def Ea.set3{L W b}(h:Ea L W)(a:∀q∈L,b≠q.1.block) u v t:Ea L (((W.setCell ⟨b,0,I⟩ u).setCell ⟨b,1,I⟩ v).setCell ⟨b,2,I⟩ t):=
 ((h.set a u).set a v).set a t
def Uc{P ops Q e a w} L(c:Ea L w.drew)(h:Ea L w.drew->wpAnyH P .any ops Q (Ea L) ops.size (Array.replicate ops.size false) a w.drew)(d:P.follows .mixedOrders=true:=by kernel_rfl):(Code.region e ops true).wp P Q a w:=wp_region_held_drew (S:=Ea L) d c h
def Ea.nil W:Ea [] W:=trivial
structure Sp where
 over:LP
 under:LP
 lo:Int
 hi:Int
def Tb(s:Sp)(x:Rat):Rat:=kb s.over x-kb s.under x
def XI w s v1 v2 vx x(h1:Fa w v1 s.over)(h2:Fa w v2 s.under)(k1:Wb s.over)(k2:Wb s.under)(hx:Sa w vx x)(hb:Rb 1000 x)(g:Rb Vb (kb s.over x))(j:Rb Vb (kb s.under x)):Calls Tryz.prog 133 #[Oe #[v1,v2,U Oa s.lo,U Oa s.hi],vx] w (Nd w (Tb s x)):=by
 obtain⟨a1,m1,rfl⟩:=h1.form;obtain⟨a2,m2,rfl⟩:=h2.form;obtain⟨xa,xm,xc,xs,z,aa,R,rfl⟩:=hx.form;obtain⟨n1,o⟩:=gX s.over.length;obtain⟨n2,p⟩:=gX s.under.length;rw[o]at h1 ⊢;rw[p]at h2 ⊢;obtain⟨lo,l⟩:=gX s.lo;obtain⟨hi,k⟩:=gX s.hi;rw[l,k];have H1:=ka (fun(W:Z)(f:Aa w W)=>Lr W _ _ s.over x (h1.f f) k1 (hx.ext f) hb);have H2:=ka (fun(W:Z)(f:Aa w W)=>Lr W _ _ s.under x (h2.f f) k2 (hx.ext f) hb);have ab:=ka g;have ac:=ka j;clear g j hb o p l k k1 k2 h1 h2;go_in;go_wp2;refine Uc [(⟨w.heap.size,0,I⟩,O a1 n1 m1),(⟨w.heap.size,1,I⟩,O a2 n2 m2),(⟨w.heap.size+1,0,I⟩,O xa xm xc),(⟨w.heap.size+1,1,I⟩,Od xs),(⟨w.heap.size+1,2,I⟩,O z aa R)] (by refine⟨?_,?_,?_,?_,?_,trivial⟩<;>go_simp) fun a=>?_;refine sN 0 ?_
 iterate 3 refine Bb ?_
 refine oN ?_;refine sN 4 ?_
 iterate 3 refine Bb ?_
 refine oN ?_;refine Fb (i:=3) (H1.o _ eA) ?_;rintro e w3 ⟨r3,rfl,r,y⟩;obtain⟨a3,m3,c3,s3,b3,n3,k3,rfl⟩:=r.form;refine⟨_,rfl,(cE a y),fun a=>?_⟩;have X3:Aa w w3:=eA;refine Fb (i:=7) (H2.o _ X3) ?_;rintro e w4 ⟨r4,rfl,t,c⟩;obtain⟨a4,m4,c4,s4,b4,n4,k4,rfl⟩:=t.form;refine⟨_,rfl,(cE a c),fun a=>?_⟩;have K5:=ka (Zm w4 _ _ _ _ (r.ext c) t ab.o ac.o);refine Fb (i:=8) K5.o ?_;rintro e w5 ⟨r5,rfl,u,d⟩;obtain⟨a5,m5,c5,s5,b5,n5,k5,rfl⟩:=u.form;refine⟨_,rfl,(cE a d),fun a=>?_⟩;have hO:RB w5 (w.heap.size+1+1) 0:=(((RB.new (Sa.zero _) sM).ext ((eR _).drew.trans y)).ext c).ext d;obtain⟨_,_,_,_,_,_,_,o0,o1,o2,am,an,ao,zo,_⟩:=hO.rd;have ad:∀q∈[((⟨w.heap.size,0,I⟩:Og),Value.slice a1 n1 m1),(⟨w.heap.size,1,I⟩,O a2 n2 m2),(⟨w.heap.size+1,0,I⟩,O xa xm xc),(⟨w.heap.size+1,1,I⟩,Od xs),(⟨w.heap.size+1,2,I⟩,O z aa R)],w.heap.size+1+1≠q.1.block:=by
  simp;omega
 refine Vc (i:=9) fun K hK=>?_;go_simp;refine kO hK (Ea.set3 (by assumption) ad _ _ _) (fun a=>?_);clear hK K;refine Sb ?_;go_wp2;have hP:=hO.put u;obtain⟨pa,pm,ag,ai,ae,ah,af,aj,ak,al,_,_,_,_,hz⟩:=hP.rd;exact bR (v:=Oe #[O pa pm ag,Od ai,O ae ah af]) (by simp[results,Tryz.results133,go_sem,aj,ak,al]) rfl ⟨_,rfl,hz,((((X3.trans c).trans d).set dO _).set dO _).set dO _⟩
section
variable {P:Program} {ops:Array Oper} {Q:Exit->Of->Z->Prop} {md:Region.Mode} {S:Z->Prop} {late:Nat->Bool}
def HU(P:Program)(md:Region.Mode)(ops:Array Oper)(Q:Exit->Of->Z->Prop)(S:Z->Prop)(late:Nat->Bool):Nat->Array Bool->Of->Z->Prop
 | 0,c,a,w=>Region.ready md ops c=[]/\Q .normal a w
 | fuel+1,c,a,w =>
  (Region.ready md ops c=[]->Q .normal a w)/\
  ∀i∈Region.ready md ops c,wpOp P ops Q i (fun e d=>(late i=false->S d)/\HU P md ops Q S late fuel (c.setIfInBounds i true) e d) a w
def ux:∀ fuel  c  a  w ,HU P md ops Q S late fuel c a w->wpAny P md ops Q fuel c a w
 | 0,_,_,_,h=>h
 | fuel+1,_,_,_,h=>⟨h.1,fun i f=>wpOp_mono (fun d g e=>ux fuel _ d g e.2) (h.2 i f)⟩
def WL{m i oi v}(hg:Wi md ops late m=true)(ad:late i=false)(hi:ops[i]?=M oi)(r:∀(j:Nat)(o:Oper) x b,ops[j]?=M o->o.op ≠ .select x b)(hQ:∀c a w,Q (.panic c) (a.put oi.dst v) w->Q (.panic c) a w):∀ fuel  d  a  w ,Cl md ops d ->(∀j oj,ops[j]?=M oj->j≠i->d.getD j true=false->(∀e∈oj.after,Region.binds md e=true->e.on≠i)->oi.apart ops oj=true) ->i∈Region.ready md ops d->YieldsIf P ops S oi v a->S w ->HU P md ops Q S late fuel (d.setIfInBounds i true) (a.put oi.dst v) w->HU P md ops Q S late (fuel+1) d a w:=by
 intro fuel;induction fuel with
 |zero=>
  intro d a w hc _ q hy y H;refine⟨fun h=>(by rw[h]at q;cases q),fun j u=>?_⟩;by_cases f:j=i
  ·subst f;exact hy.wpOp hi y ⟨fun _=>y,H⟩
  ·have:=ready_mono u f;rw[H.1]at this;cases this
 | succ fuel ih =>
  intro d a w hc g q hy y H;refine⟨fun h=>(by rw[h]at q;cases q),fun j u=>?_⟩;by_cases f:j=i
  ·subst f;exact hy.wpOp hi y ⟨fun _=>y,H⟩
  ·have s:=H.2 j (ready_mono u f);have ae:=yP hg hc q ad u;obtain⟨p,oj,t,z⟩:=mem_ready.1 u;have R:∀e∈oj.after,Region.binds md e=true->e.on≠i:=fun e he hb ab=>by
    have s:=z e he hb;have h0:=(mem_ready.1 q).1;rw[ab]at s;rcases Nat.lt_or_ge i d.size with h' | h'
    ·simp[h']at h0 s;rw[h0]at s;cases s
    ·simp[Array.getElem?_eq_none h']at s
   have h2:=wpOp_putIf t (g j oj t f p R) (fun x b=>r i oi x b hi) (fun x b=>r j oj x b t) hQ hy s;have l:∀k ok,ops[k]?=M ok->k≠i->(d.setIfInBounds j true).getD k true=false ->
     (∀e∈ok.after,Region.binds md e=true->e.on≠i)->oi.apart ops ok=true:=fun k ok hk ac aa af=>by
    refine g k ok hk ac ?_ af;by_cases K:j=k
    ·subst K;exact p
    ·rw[getD_set_ne true K]at aa;exact aa
   refine wpOp_mono (fun a' w' h3=>⟨h3.2.1,ih (d.setIfInBounds j true) a' w' (hc.step u) l (ready_mono q (Ne.symm f)) h3.1 (h3.2.1 ae) ?_⟩) h2;rw[Array.setIfInBounds_comm _ _ f];exact h3.2.2
def gl(P:Program)(md:Region.Mode)(ops:Array Oper)(Q:Exit->Of->Z->Prop)(S:Z->Prop)(late:Nat->Bool)(fuel:Nat)(c:Array Bool)(a:Of)(w:Z):Prop:=Cl md ops c->HU P md ops Q S late fuel c a w
def Gp(P:Program)(md:Region.Mode)(ops:Array Oper)(Q:Exit->Of->Z->Prop)(S:Z->Prop)(late:Nat->Bool)(fuel:Nat)(d:Array Bool)(a:Of)(w:Z)(i:Nat)(oi:Oper):Prop:=
 ∃v,late i=false/\Region.noSelect ops=true/\Region.free md ops d i=true/\(Region.ready md ops d).contains i=true/\(∀c a w,Q (.panic c) (a.put oi.dst v) w->Q (.panic c) a w)/\YieldsIf P ops S oi v a/\S w/\
  gl P md ops Q S late fuel (d.setIfInBounds i true) (a.put oi.dst v) w
def Vl{m}(r:Wi md ops late m=true){i oi fuel c a w}(e:ops[i]?=M oi)(h:Gp P md ops Q S late fuel c a w i oi):gl P md ops Q S late (fuel+1) c a w:=by
 obtain⟨v,g,j,k,l,o,p,h6,q⟩:=h;intro d;have f:i∈Region.ready md ops c:=by simpa using l
 exact WL r g e (Region.noSelect_spec j) o fuel c a w d (Region.free_spec e k) f p h6 (q (d.step f))
def Lp(P:Program)(md:Region.Mode)(ops:Array Oper)(Q:Exit->Of->Z->Prop)(S:Z->Prop)(late:Nat->Bool)(fuel:Nat)(c:Array Bool)(a:Of)(w:Z)(i:Nat)(o:Oper):Prop:=
 Region.ready md ops c=[i]/\∀K':Of->Z->Prop,Shut (∀a w,(late i=false->S w)->((late i=false->S w)->gl P md ops Q S late fuel (c.setIfInBounds i true) a w)->K' a w) ->
  if Region.wanted o (yielded ops a.tmps)=true then Oper.wp P o a w K' Q else K' (a.put o.dst undef) w
def Bp{i o fuel c a w}(r:ops[i]?=M o)(h:Lp P md ops Q S late fuel c a w i o):gl P md ops Q S late (fuel+1) c a w:=by obtain⟨g,h⟩:=h;intro q;refine⟨fun k=>absurd (g▸k) sM,fun j d=>?_⟩;have e:=d;rw[g]at d;cases List.mem_singleton.1 d;exact wpOp_step r (fun K' l=>h K' (fun a w f p=>l a w ⟨f,p f (q.step e)⟩))
def Lb{c a w}(d:Region.ready md ops c=[])(h:Q .normal a w):∀fuel,gl P md ops Q S late fuel c a w
 | 0=>fun _=>⟨d,h⟩
 | _+1=>fun _=>⟨fun _=>h,by rw[d];simp⟩
def lj{v i oi fuel d a w G}(h:G)(o:Wi md ops late 12=true:=by kernel_rfl)(p:ops[i]?=M oi:=by(simp only[gA,gS,gZ];rfl))(f:late i=false:=by rfl)(g:Region.noSelect ops=true:=by kernel_rfl)(j:Region.free md ops d i=true:=by kernel_rfl)(k:(Region.ready md ops d).contains i=true:=by kernel_rfl)(h4:∀c a w,Q (.panic c) (a.put oi.dst v) w->Q (.panic c) a w:=by exact fun _ _ _ h=>h)(q:Region.wanted oi (yielded ops a.tmps)=true:=by rfl)(r:∀w,S w->(execOp a.eval oi).run P w = .ok (.value v) w:=by(intro w e;simp only[Ea,and_true]at e;go_simp;try(with_reducible rfl)))(h6:S w:=by(with_reducible assumption))(l:gl P md ops Q S late fuel (d.setIfInBounds i true) (a.put oi.dst v) w=G:=by((try simp only[Act.put,sA,sZ,sS]);rfl)):gl P md ops Q S late (fuel+1) d a w:=by subst l;exact Vl o p ⟨v,f,g,j,k,h4,Or.inl ⟨q,r⟩,h6,h⟩
def Wh{v i oi fuel d a w G}(h:G)(o:Wi md ops late 12=true:=by kernel_rfl)(p:ops[i]?=M oi:=by(simp only[gA,gS,gZ];rfl))(f:late i=false:=by rfl)(g:Region.noSelect ops=true:=by kernel_rfl)(j:Region.free md ops d i=true:=by kernel_rfl)(k:(Region.ready md ops d).contains i=true:=by kernel_rfl)(h4:∀c a w,Q (.panic c) (a.put oi.dst v) w->Q (.panic c) a w:=by exact fun _ _ _ h=>h)(q:Region.wanted oi (yielded ops a.tmps)=true:=by rfl)(r:∀w,S w->(execOp a.eval oi).run P w = .ok (.value v) w:=by(intro w e;simp only[Ea,and_true]at e;go_simp;try(with_reducible rfl)))(h6:S w:=by(with_reducible assumption))(l:jo (i+1) (gl P md ops Q S late fuel (d.setIfInBounds i true) (a.put oi.dst v) w)=G:=by((try simp only[Act.put,sA,sZ,sS,Nat.reduceAdd]);rfl)):jo i (gl P md ops Q S late (fuel+1) d a w):=by subst l;exact Vl o p ⟨v,f,g,j,k,h4,Or.inl ⟨q,r⟩,h6,h⟩
def Kc{i o fuel c a w}(h:∀K':Of->Z->Prop,Shut (∀a w,(late i=false->S w)->((late i=false->S w)->gl P md ops Q S late fuel (c.setIfInBounds i true) a w)->K' a w)->if Region.wanted o (yielded ops a.tmps)=true then Oper.wp P o a w K' Q else K' (a.put o.dst undef) w)(d:ops[i]?=M o:=by(simp only[gA,gS,gZ];rfl))(e:Region.ready md ops c=[i]:=by kernel_rfl):gl P md ops Q S late (fuel+1) c a w:=Bp d ⟨e,h⟩
def Rj{f args Y}{G:Ob->Z->Prop}{i o fuel c a w}(l:Calls P f args w Y)(h:∀e w',Y e w'->∃v,e=.returned v/\S w'/\(S w'->G v w'))(p:ops[i]?=M o:=by(simp only[gA,gS,gZ];rfl))(s:Region.ready md ops c=[i]:=by kernel_rfl)(r:late i=false:=by rfl)(t:Region.wanted o (yielded ops a.tmps)=true:=by rfl)(u:(execOp a.eval o).run P w = .ok (.enter f args) w:=by(go_simp;try(with_reducible rfl)))(g:∀v w',gl P md ops Q S late fuel (c.setIfInBounds i true) (a.put o.dst v) w'=G v w':=by(intro v w';(try simp only[Act.put,sA,sZ,sS]);rfl)):gl P md ops Q S late (fuel+1) c a w:=by refine Kc (i:=i) (fun K j=>?_) p s;rw[if_pos t];unfold Oper.wp;rw[u,Oper.upon_enter];refine l.mono fun e w' x=>?_;obtain⟨v,rfl,k,q⟩:=h e w' x;exact Shut.out j _ _ (fun _=>k) (fun d=>by rw[g];exact q (d r))
def mi{i j oi f fuel c a w}(t:∀K':Of->Z->Prop,Shut (∀a w,(late i=false->S w)->((late i=false->S w)->gl P md ops Q S late fuel (c.setIfInBounds i true) a w)->K' a w)->if Region.wanted oi (yielded ops a.tmps)=true then Oper.wp P oi a w K' Q else K' (a.put oi.dst undef) w)(u:∀K':Of->Z->Prop,Shut (∀a w,(late j=false->S w)->((late j=false->S w)->gl P md ops Q S late fuel (c.setIfInBounds j true) a w)->K' a w)->if Region.wanted f (yielded ops a.tmps)=true then Oper.wp P f a w K' Q else K' (a.put f.dst undef) w)(v:ops[i]?=M oi:=by(simp only[gA,gS,gZ];rfl))(x:ops[j]?=M f:=by(simp only[gA,gS,gZ];rfl))(r:Region.ready md ops c=[i,j]:=by kernel_rfl) :
  gl P md ops Q S late (fuel+1) c a w:=by
 intro q;refine⟨fun s=>absurd (r▸s) sM,fun k o=>?_⟩;have e:=o;rw[r]at o;rcases List.mem_cons.1 o with rfl|p
 ·exact wpOp_step v (fun K' g=>t K' (fun a w d l=>g a w ⟨d,l d (q.step e)⟩))
 ·cases List.mem_singleton.1 p;exact wpOp_step x (fun K' g=>u K' (fun a w d l=>g a w ⟨d,l d (q.step e)⟩))
def Mh{e a w} late S(d:P.follows .mixedOrders=true)(c:S w.drew)(h:S w.drew->gl P .any ops Q S late ops.size (Array.replicate ops.size false) a w.drew):(Code.region e ops true).wp P Q a w:=
 wp_region_any d (ux _ _ _ _ (h c (Cl.start _)))
end
def jd:Code->List Code
 | .seq a b=>jd a++jd b
 | .cond _ a b=>jd a++jd b
 | .block _ b=>jd b
 | .loop b=>b::jd b
 | .rangeFunc _ _ a b=>jd a++jd b
 | .scope b=>jd b
 | _=>[]
def Pf(f:Func)(k:Nat):Code:=match f.body with|some c=>(jd c).getD k .skip|none=>.skip
end
section
open Go.RowKit Go.Shelf
attribute [local go_sem] Oper.semAt_some
abbrev kc:Nat:=400000
def DS(w:Z)(N:Int)(t4:Ob)(W:Z):Prop:=
 ∃p q:Int,p+q=N/\(q.natAbs:Int)<=p.natAbs/\Lm kc p/\Lm kc q/\t4=Oh (M ⟨w.heap.size+1+1,0,I⟩)/\Aa w W/\NB W w.heap.size p/\NB W (w.heap.size+1) q/\
  W.heap[w.heap.size+1+1]?=M (Oc #[U Oa 0,O I 0 0] 66 (0,0))
def CS(wc:Z)(d:Option Og)(e c f:Nat)(xs i:List Int)(σ:Int)(g:Ob)(wr:Z):Prop:=
 ∃(j:Nat)(a:List Int),g=U Oa j/\j<=f/\a.length=c/\Db 3 wr wc.heap.size (O d c e) a/\dv C4 a=dv C4 xs+σ*dv C4 (i.take j)/\Aj a j/\Aa wc wr
def yM{xs a}(d:xg C4 xs)(e:xg C4 a)(h:dv C4 a<=dv C4 xs):a.length<=xs.length:=by
 rcases Nat.lt_or_ge xs.length a.length with c|c
 ·have:=Tk (b:=C4) dM d.1 e c;omega
 ·exact c
def EF(n m:Int):n.sign*m.sign = -1\/n.sign*m.sign=0\/n.sign*m.sign=1:=by rcases Ee n with ⟨e,_⟩|⟨e,_⟩|⟨e,_⟩<;>rcases Ee m with ⟨a,_⟩|⟨a,_⟩|⟨a,_⟩<;>rw[e,a]<;>decide
def XB{n:Int}(h:n≠0):n.sign=1\/n.sign = -1:=by rcases Ee n with ⟨e,_⟩|⟨e,a⟩|⟨e,_⟩<;>omega
def Db.drew{T w base v xs}(h:Db T w base v xs):Db T w.drew base v xs:=h
def mG{w c:Z}{a xs}(h:Db 3 c w.heap.size a ([]++xs)):Db 3 c w.heap.size a xs:=h
def oA w va vb t nb(ha:yd w va t)(hb:yd w vb nb)(aC:Lm kc t)(aD:Lm kc nb):Calls Tryz.prog 169 #[va,vb] w (Nk w (t+nb)):=by
 obtain⟨s,a,m,c,rfl,hs⟩:=ha.j;obtain⟨s',a',m',c',rfl,aW⟩:=hb.j;obtain⟨D,hD⟩:=gX (((t.natAbs:Int)-(nb.natAbs:Int)).sign);have HD:=ka hD;have ah:=ka aC;have ai:=ka aD;clear hs aW hD aC aD;go_in;go_upto_if 10 with (go_at_call 191;(with_reducible refine(zF _ (Oe #[U Oa s,O a m c]) (Oe #[U Oa s',O a' m' c']) t nb ?_ ?_).mono ?_);(refine ha.ext ?_;exact eA);(refine hb.ext ?_;exact eA);rw[HD.o];rintro e w1 ⟨rfl,z⟩;obtain⟨⟨aP,aS⟩,aJ,aK,aL⟩:=Ub w z);have r:NB w1 w.heap.size t:=(NB.new (W0:=w) ha rfl).ext eA;have ab:NB w1 (w.heap.size+1) nb:=(NB.new (W0:=w.alloc (Oc #[U Oa s,O a m c] 66)) (hb.ext eA) sM).ext eA;have ar:w1.heap[w.heap.size+1+1]?=M (Oc #[U Oa 0,O I 0 0] 66 (0,0)):=z.e (Bc _ _ _ sM);have X1:Aa w w1:=eA;go_cut [4] (DS w (t+nb))
 case first =>
  by_cases a5:D<0
  ·have ad:(t.natAbs:Int)<=nb.natAbs:=by
    have:=HD.o;rcases Ee ((t.natAbs:Int)-nb.natAbs)with ⟨e,_⟩|⟨e,_⟩|⟨e,_⟩<;>omega
   go_wp2;go_meet;refine⟨nb,t,by omega,ad,ai.o,ah.o,rfl,eA,?_,?_,?_⟩
   ·exact((r.put (hb.ext X1)).other (p:=⟨w.heap.size+1,0,I⟩) sM ((ab.not.set _ _).set _ _) _).other (p:=⟨w.heap.size+1,1,I⟩) sM (((ab.not.set _ _).set _ _).set _ _) _
   ·exact((ab.other (p:=⟨w.heap.size,0,I⟩) sM r.not _).other (p:=⟨w.heap.size,1,I⟩) sM (r.not.set _ _) _).put ((ha.ext X1).keep (((Ia.refl _ w1).x r.not _).x (r.not.set _ _) _))
   ·rw[bS _ _ _ _ sM,bS _ _ _ _ sM,bS _ _ _ _ dO,bS _ _ _ _ dO];exact ar
  ·have ad:(nb.natAbs:Int)<=t.natAbs:=by
    have:=HD.o;rcases Ee ((t.natAbs:Int)-nb.natAbs)with ⟨e,_⟩|⟨e,_⟩|⟨e,_⟩<;>omega
   go_wp2;go_meet;exact⟨t,nb,rfl,ad,ah.o,ai.o,rfl,X1,r,ab,ar⟩
 case rest =>
  clear r ab ar X1 z aP aS aJ aK aL ha hb ah ai HD;obtain⟨p,q,aG,am,aE,aU,rfl,hx,hp,hq,aa⟩:=hcut;obtain⟨sp,ap,mp,cp,an,p0,p1,a8,a9,pz,aA⟩:=hp.rd;obtain⟨sq,aq,mq,cq,ao,q0,q1,ba,bb,qz,aB⟩:=hq.rd;obtain⟨xs,xl,xi,xc,xv⟩:=aA.open;obtain⟨ys,yl,yi,yc,yv⟩:=aB.open;have hm:=Jl aE xc xv;have aV:=yM xc yc (by rw[xv,yv];exact am);unfold kc at hm;rw[xl]at hm;rw[xl,yl]at aV;have hσ:=EF p q;rw[<-an,<-ao]at hσ;obtain⟨σ,ag⟩:=gX (sp*sq);rw[ag]at hσ;have HP:=ka aG;have au:=ka am;have ak:=ka an;have ax:=ka ao;have Xl:=ka xl;have Yl:=ka yl;have Xv:=ka xv;have Yv:=ka yv;have k:=ka aa;have aj:=ka ag;have zc:=Jb aa;clear aG am aE aU an ao xl yl xv yv aa ag hp hq aA aB;go_wp2_with(at_builtin;refine Gy To Tryz.underlying64 rfl _ _ rfl rfl (Db.nil _ _ wc.heap.size) rfl xi (by rw[Xl.o];simp;omega) (nE _) ?_;intro v' w2 d R az;replace d:=mG d;obtain⟨ga,gc,rfl⟩:=d.form;obtain⟨aQ,aT⟩:=Aa.cells R);rw[Xl.o]at d ⊢;go_loopw [6] (CS wc ga gc mp mq xs ys σ) (fun t6 _=>mq-(intOf t6).toNat)
  case atStart=>exact⟨0,xs,rfl,by omega,Xl.o,d,by simp,Aj.start xc.1,R⟩
  case round =>
   clear d R az aQ aT;obtain⟨j,os,rfl,hj,aF,d,l,al,f⟩:=hrel;have e0:=f.d p0;have e1:=f.d p1;have e2:=f.d q0;have e3:=f.d q1;have ac:=ka aF;have av:=ka l;clear aF l;by_cases ad:j<mq
   ·obtain⟨b,o,rfl,aY,z⟩:=(yi.ext f).open (by rw[Yl.o];omega);obtain⟨g,rfl,hg,a4⟩:=d.blk (by rw[ac.o];omega);obtain⟨y,af⟩:∃y,ys[j]?=M y:=⟨_,gE (by rw[Yl.o];omega)⟩;obtain⟨x,ae⟩:∃x,os[j]?=M x:=⟨_,gE (by rw[ac.o];omega)⟩;have a0:=z j y af;have aZ:=d.cell ae;have a2:=d.frozen j;have aX:=yc.1 y (lM af);have a7:=(al j x ae).2.2 (nE _);unfold C4 at aX;obtain⟨u,hu⟩:=gX (σ*y);have a6:-10000<=u/\u<=10000:=by rcases hσ with h|h|h<;>subst h<;>omega
    have aM:=ka af;have ay:=ka ae;have ag:=aj.o;have g0:(0:Int)<=(j:Int):=oM;have g1:(j:Int)<(mq:Int):=oM;have g2:(j:Int)<(mp:Int):=oM;clear z af ae;go_wp2;refine Mh (fun i=>decide (18<i)) (Ea [(⟨g,j,I⟩,U Oa x),(⟨w.heap.size,0,I⟩,U Oa sp),(⟨w.heap.size+1,0,I⟩,U Oa sq),(⟨w.heap.size+1,1,I⟩,O (M ⟨b,o,I⟩) mq cq),(⟨b,o+j,I⟩,U Oa y)]) kM ?_ (fun aO=>?_)
    ·exact cA
    refine sN 0 ?_
    (iterate 19 refine Wh ?_);refine oN ?_;refine Kc (i:=19) fun K hK=>?_;go_simp;refine kO hK (fun h=>nomatch h) (fun aO=>?_);clear hK K;refine Lb kM ?_ _;go_wp2;go_roundw
    case rel =>
     exact⟨j+1,os.set j (x+σ*y),by go_num,by omega,by simp[ac.o],(d.stored j _).drew,xB ay.o aM.o av.o,al.step ay.o (by rw[hu];omega) (by rw[hu];omega),(f.set (p:=⟨g,j,I⟩) hg _).drew⟩
    case measure=>simp[intOf];omega
   ·obtain rfl:j=mq:=oM;have l:dv C4 os=(p.natAbs:Int)+σ*(q.natAbs:Int):=by
     rw[av.o,Xv.o,lT (by rw[Yl.o];omega),Yv.o]
    obtain⟨v0,v1⟩:=DJ p q au.o;rw[<-ak.o,<-ax.o,aj.o,<-l]at v0;rw[<-ak.o,<-ax.o,aj.o,<-l]at v1;have V1:=ka v1;have aw:=ka l;have r0:=Ba (f.e k.o) (i:=0) (u:=U Oa 0) rfl;have r1:=Ba (f.e k.o) (i:=1) (u:=O I 0 0) rfl;have bc:=Ya (f.e k.o) 0;have be:=Ya (f.e k.o) 1;have zr:=Jb (f.e k.o);have XW:Aa w wr:=hx.trans f;clear l v1;go_wp2_with(go_at_call 152;(with_reducible refine(pw _ sp _ os (t+nb) d.ints (by rw[ac.o];omega) al.big v0 (by rw[V1.o,HP.o]) (fun h9=>?_)).mono ?_);(rw[ak.o];refine XB (fun h8=>h9 ?_);have:=au.o;rw[aw.o];rw[h8]at this ⊢;simp at this ⊢;rw[this];simp);rintro e w3 ⟨r3,rfl,aH,aI⟩;obtain⟨s3,a3,m3,c3,rfl,-⟩:=aH.j;obtain⟨aR,a1⟩:=aI.cells);refine bR (v:=Oe #[U Oa s3,O a3 m3 c3]) (by simp[results,Tryz.results169,go_sem,aR,zr,r0,r1]) rfl ⟨_,rfl,(aH.keep (uy (aI.e (f.e k.o)) _ _)).mono XW.size,eA⟩
def xK w e f a nb(g:yd w e a)(i:yd w f nb)(c:Lm kc a)(d:Lm kc nb):Calls Tryz.prog 169 #[e,f] w (Ih w (a+nb)):=zv (oA w e f a nb g i c d)
def iA w va vb l nb(z:yd w va l)(K:yd w vb nb)(d:Lm kc l)(f:Lm kc nb):Calls Tryz.prog 151 #[va,vb] w (Nk w (l-nb)):=by
 obtain⟨s,a,m,c,rfl,hs⟩:=z.j;obtain⟨s',x,R,y,rfl,t⟩:=K.j;have o:=ka d;have p:=ka f.neg;rw[Int.sub_eq_add_neg];clear hs t d f;go_in;go_wp2;go_region_held3 (fun W=>W.cell? ⟨w.heap.size,0,I⟩=M (U Oa s)/\W.cell? ⟨w.heap.size,1,I⟩=M (O a m c)/\W.cell? ⟨w.heap.size+1,0,I⟩=M (U Oa s')/\W.cell? ⟨w.heap.size+1,1,I⟩=M (O x R y)) ((repeat' (with_reducible refine And.intro ?_ ?_))<;>(first|(go_simp;done)|(refine hx1.d ?_;go_simp;done))) (first|((go_at_call 193;(with_reducible refine(xF _ (Oe #[U Oa s',O x R y]) nb ?_).mono ?_);(refine K.ext ?_;exact eA);rintro e w1 ⟨r1,rfl,g,hx1⟩;obtain⟨s1,a1,m1,c1,rfl,-⟩:=g.j;obtain⟨⟨q,ae⟩,aa,ab,j⟩:=Ub w hx1))|((go_at_call 169;(with_reducible refine(oA _ (Oe #[U Oa s,O a m c]) (Oe #[U Oa s1,O a1 m1 c1]) l (-nb) ?_ ?_ o.o p.o).mono ?_);(refine z.ext ?_;exact eA);(refine g.ext ?_;exact eA);rintro e w2 ⟨r2,rfl,i,u⟩;obtain⟨s2,a2,m2,c2,rfl,-⟩:=i.j;obtain⟨⟨r,af⟩,ac,ad,k⟩:=Ub w u)))
 all_goals go_wp2
 exact bR (v:=Oe #[U Oa s2,O a2 m2 c2]) (by simp[results,Tryz.results151,go_sem,q,r,j,k]) rfl ⟨_,rfl,(i.keep kA).mono (by have:=hx1.size;simp at this;omega),eA⟩
def Nt w e f a nb(g:yd w e a)(i:yd w f nb)(c:Lm kc a)(d:Lm kc nb):Calls Tryz.prog 151 #[e,f] w (Ih w (a-nb)):=zv (iA w e f a nb g i c d)
def BG s a m c w:(Instr.field 66 (Oe #[U Oa s,O a m c]) 0).run Tryz.prog w = .ok (U Oa s) w:=kM
def Ft w r t i nb(p:yd w r i)(q:yd w t nb)(d:Lm kc i)(f:Lm kc nb):Calls Tryz.prog 79 #[r,t] w fun e w'=>e=.returned (U Oa (i-nb).sign)/\Aa w w':=by obtain⟨s,a,m,c,rfl,hs⟩:=p.j;obtain⟨s',x,m',y,rfl,l⟩:=q.j;have j:=ka d;have k:=ka f;clear hs l d f;have R:=BG;go_in;go_wp2_with((go_at_call 151;(with_reducible refine(Nt _ (Oe #[U Oa s,O a m c]) (Oe #[U Oa s',O x m' y]) i nb ?_ ?_ j.o k.o).mono ?_);(refine p.ext ?_;exact eA);(refine q.ext ?_;exact eA);rintro e w1 ⟨r1,rfl,g,o⟩;obtain⟨s1,a1,m1,c1,rfl,-⟩:=g.j;obtain⟨⟨z,K⟩,u,v⟩:=Yb w o));go_ret;exact⟨Oo (Kl (g.sgn)),eA⟩
end
section
open Go.RowKit Go.Shelf Go.Sort Go.Lib
def ic(z:Int):List Ob:=[U Oa z]
def lI:(Tryz.prog.info? 3).map (fun i=>(i.zero,i.size,i.bytes))=M (M (U Oa 0),1,8):=kM
def Fv{zs:List Int}:∀c∈zs.map ic,c.length=1:=by intro c a;obtain⟨z,_,rfl⟩:=List.mem_map.1 a;rfl
def Bw(zs:List Int):(zs.map ic).flatten=zs.map (Value.int Oa):=by
 induction zs with
 | nil=>rfl
 | cons z zs a=>simp[ic,a]
def tG{zs:List Int}:∀u∈(zs.map ic).flatten,u.oneCell'=true:=by intro u a;rw[Bw]at a;obtain⟨z,_,rfl⟩:=List.mem_map.1 a;rfl
def Ka.ints{w base g n c}{zs:List Int}(h:Ka 3 1 w base (O (M ⟨g,0,I⟩) n c) (zs.map ic)):base<=g/\g<w.heap.size/\n=zs.length/\zs.length<=c/\c<=maxLen/\Holds (Value.int Oa) w g 0 zs.toArray/\∃cur,w.heap[g]?=M (Oc cur 3 (0,0))/\cur.size=c*1/\cur.toList.take zs.length=zs.map (Value.int Oa):=by
 rcases h.2.2 with ⟨k,_⟩|⟨o,j,cur,hv,l,i,d,e,f,a⟩
 ·cases k
 ·cases hv;rw[Bw,lL,Nat.mul_one]at a;rw[lL]at d;exact⟨l,Jb i,lL ..,d,e,holds_of_blockI i a,cur,i,f,a⟩
def Vf(zs:List Int):List Int:=zs.mergeSort fun x y=>decide (x<=y)
def Rr zs:(Vf zs).length=zs.length:=List.length_mergeSort _
def Fh{zs z}:z∈Vf zs ↔ z∈zs:=List.mem_mergeSort
def GM w base g n c zs(h:Ka 3 1 w base (O (M ⟨g,0,I⟩) n c) (zs.map ic))(p:zs.length<=1000000000):Calls Tryz.prog 172 #[O (M ⟨g,0,I⟩) n c] w fun e a=>e=.returned (.tuple #[])/\Ka 3 1 a base (O (M ⟨g,0,I⟩) n c) ((Vf zs).map ic)/\w.grownBy a (M g):=by obtain⟨d,f,rfl,i,j,k,cur,h6,l,o⟩:=h.ints;refine(Tryz.slices_Sort_int g 0 c zs w k f oM).mono ?_;rintro e a ⟨rfl,n,os,rfl⟩;refine⟨rfl,⟨Fv,?_⟩,grownBy_sortedI _⟩;have:=ownsRow_sortedI (base:=base) (n:=n) (os:=os) (ss:=zs) (ts:=Vf zs) (Rr zs) d h6 i j l;rw[Bw,lL,Rr];exact this
def Nn(zs:List Int):(compact zs).length<=zs.length:=by unfold compact compactUpTo;rw[lL];exact nT (List.length_filter_le _ _) sM
def Gx{zs}{z:Int}(h:z∈compact zs):z∈zs:=by unfold compact compactUpTo at h;obtain⟨i,a,rfl⟩:=List.mem_map.1 h;have:=List.mem_range.1 (List.mem_filter.1 a).1;rw[getElem!_pos _ _ (by simpa using this)];simp
def SO{zs:List Int}(h:zs≠[]):compact zs≠[]:=by obtain⟨z,r,rfl⟩:=List.exists_cons_of_ne_nil h;intro a;unfold compact compactUpTo at a;have c:=List.map_eq_nil_iff.1 a;have d:=(List.filter_eq_nil_iff.1 c) 0 sM;simp[keeps]at d
def yD w base g n c zs(h:Ka 3 1 w base (O (M ⟨g,0,I⟩) n c) (zs.map ic))(u:zs.length<=1000000000):Calls Tryz.prog 173 #[O (M ⟨g,0,I⟩) n c] w fun e a=>e=.returned (O (M ⟨g,0,I⟩) (compact zs).length c)/\Ka 3 1 a base (O (M ⟨g,0,I⟩) (compact zs).length c) ((compact zs).map ic)/\w.grownBy a (M g):=by
 obtain⟨i,r,rfl,j,k,l,cur,h6,o,s⟩:=h.ints;refine(Tryz.slices_Compact_int g 0 c zs w l oM j).mono ?_;rintro e a ⟨rfl,q,rfl⟩;have t:=Nn zs;have p:∀d,w.grownBy (putRow (Value.int Oa) (Sort.ahead w q) g 0 d) (M g):=fun d=>by
  have:=grownBy_sortedI (w:=w) (g:=g) (n:=q) (os:=#[]) d
  rwa [grow_empty]at this
 refine⟨rfl,⟨Fv,?_⟩,p _⟩;rw[Bw,lL];refine⟨by simp,.inr ⟨g,c,putCells (Value.int Oa) 0 (compact zs++List.replicate (zs.length-(compact zs).length) 0).toArray cur,rfl,i,?_,by omega,k,?_,?_⟩⟩
 ·have:=heap_sortedI (n:=q) (os:=#[]) (compact zs++List.replicate (zs.length-(compact zs).length) 0).toArray h6
  rwa [grow_empty]at this
 ·simp[putCells,o]
 ·have:=take_putCellsI cur (compact zs++List.replicate (zs.length-(compact zs).length) 0) (by simp;omega);have f:=congrArg (List.take (compact zs).length) this;rw[List.take_take,lA,Nat.min_eq_left oM,List.map_append,List.take_left' sM]at f;rw[Nat.mul_one];exact f
end
section
open Go.RowKit Go.Shelf
def kj(md:Region.Mode)(ops:Array Oper)(pv i:Nat):Bool:=match ops[pv]? with|some o=>o.after.toList.any (fun e=>Region.binds md e&&e.on==i)|none=>false
section
variable {P:Program} {ops:Array Oper} {Q:Exit->Of->Z->Prop} {md:Region.Mode} {A B:Z->Prop} {pv:Nat}
def HV(P:Program)(md:Region.Mode)(ops:Array Oper)(Q:Exit->Of->Z->Prop)(A B:Z->Prop)(pv:Nat):Nat->Array Bool->Of->Z->Prop
 | 0,c,a,w=>Region.ready md ops c=[]/\Q .normal a w
 | fuel+1,c,a,w =>
  (Region.ready md ops c=[]->Q .normal a w)/\
  ∀i∈Region.ready md ops c,wpOp P ops Q i (fun e d=>(A d/\((c.setIfInBounds i true).getD pv false=false->B d))/\HV P md ops Q A B pv fuel (c.setIfInBounds i true) e d) a w
def ir:∀ fuel  c  a  w ,HV P md ops Q A B pv fuel c a w->wpAny P md ops Q fuel c a w
 | 0,_,_,_,h=>h
 | fuel+1,_,_,_,h=>⟨h.1,fun i f=>wpOp_mono (fun d g e=>ir fuel _ d g e.2) (h.2 i f)⟩
def kN{a i}(k:Cl md ops a)(c:kj md ops pv i=true)(j:a.getD i true=false):a.getD pv false=false:=by
 cases h:a.getD pv false with
 | false=>rfl
 |true=>
  unfold kj at c;cases ho:ops[pv]? with
  | none=>rw[ho]at c;cases c
  | some o =>
   rw[ho]at c;obtain⟨e,l,g⟩:=List.any_eq_true.1 c;rw[Bool.and_eq_true,beq_iff_eq]at g;have d:=k pv o ho h e (by simpa using l) g.1;rw[g.2]at d;rcases Nat.lt_or_ge i a.size with f | f
   ·simp[f]at j d;rw[j]at d;cases d
   ·simp[Array.getElem?_eq_none f]at j
def NA{i oi v f}(ag:i≠pv)(he:f=true->kj md ops pv i=true)(hi:ops[i]?=M oi)(x:∀(j:Nat)(o:Oper) cs b,ops[j]?=M o->o.op ≠ .select cs b)(hQ:∀c a w,Q (.panic c) (a.put oi.dst v) w->Q (.panic c) a w):∀ fuel  d  a  w ,Cl md ops d ->(∀j oj,ops[j]?=M oj->j≠i->d.getD j true=false->(∀e∈oj.after,Region.binds md e=true->e.on≠i)->oi.apart ops oj=true) ->i∈Region.ready md ops d->YieldsIf P ops (fun w=>A w/\(f=true->B w)) oi v a->(A w/\(d.getD pv false=false->B w)) ->HV P md ops Q A B pv fuel (d.setIfInBounds i true) (a.put oi.dst v) w->HV P md ops Q A B pv (fuel+1) d a w:=by
 have q:∀l:Array Bool,(l.setIfInBounds i true).getD pv false=l.getD pv false:=fun l=>getD_set_ne false ag;intro fuel;induction fuel with
 |zero=>
  intro d a w hc _ t hy r H;have K:A w/\(f=true->B w):=⟨r.1,fun h=>r.2 (kN hc (he h) (mem_ready.1 t).1)⟩;refine⟨fun h=>(by rw[h]at t;cases t),fun j hj=>?_⟩;by_cases g:j=i
  ·subst g;exact hy.wpOp hi K ⟨⟨r.1,fun h=>r.2 (by rw[q]at h;exact h)⟩,H⟩
  ·have:=ready_mono hj g;rw[H.1]at this;cases this
 | succ fuel ih =>
  intro d a w hc p t hy r H;have K:A w/\(f=true->B w):=⟨r.1,fun h=>r.2 (kN hc (he h) (mem_ready.1 t).1)⟩;refine⟨fun h=>(by rw[h]at t;cases t),fun j hj=>?_⟩;by_cases g:j=i
  ·subst g;exact hy.wpOp hi K ⟨⟨r.1,fun h=>r.2 (by rw[q]at h;exact h)⟩,H⟩
  ·have y:=H.2 j (ready_mono hj g);obtain⟨u,oj,R,ab⟩:=mem_ready.1 hj;have ad:∀e∈oj.after,Region.binds md e=true->e.on≠i:=fun e he hb af=>by
    have y:=ab e he hb;have h0:=(mem_ready.1 t).1;rw[af]at y;rcases Nat.lt_or_ge i d.size with h' | h'
    ·simp[h']at h0 y;rw[h0]at y;cases y
    ·simp[Array.getElem?_eq_none h']at y
   have h2:=wpOp_putIf R (p j oj R g u ad) (fun cs b=>x i oi cs b hi) (fun cs b=>x j oj cs b R) hQ hy y;have s:∀k ok,ops[k]?=M ok->k≠i->(d.setIfInBounds j true).getD k true=false ->
     (∀e∈ok.after,Region.binds md e=true->e.on≠i)->oi.apart ops ok=true:=fun k ok hk ah ae ai=>by
    refine p k ok hk ah ?_ ai;by_cases ac:j=k
    ·subst ac;exact u
    ·rw[getD_set_ne true ac]at ae;exact ae
   refine wpOp_mono (fun a' w' h3=>?_) h2;obtain⟨aj,⟨aa,z⟩,hH⟩:=h3;rw[Array.setIfInBounds_comm _ _ (Ne.symm g),q]at z;refine⟨⟨aa,z⟩,ih (d.setIfInBounds j true) a' w' (hc.step hj) s (ready_mono t (Ne.symm g)) aj ⟨aa,z⟩ ?_⟩;rw[Array.setIfInBounds_comm _ _ g];exact hH
def Gq(P:Program)(md:Region.Mode)(ops:Array Oper)(Q:Exit->Of->Z->Prop)(A B:Z->Prop)(pv:Nat)(fuel:Nat)(c:Array Bool)(a:Of)(w:Z):Prop:=Cl md ops c->HV P md ops Q A B pv fuel c a w
def yp{c a w}(d:Region.ready md ops c=[])(h:Q .normal a w):∀fuel,Gq P md ops Q A B pv fuel c a w
 | 0=>fun _=>⟨d,h⟩
 | _+1=>fun _=>⟨fun _=>h,by rw[d];simp⟩
def Cj{v i oi fuel d a w} e{G}(h:G)(j:i≠pv:=by decide)(u:e=true->kj md ops pv i=true:=by(intro h;first|(cases h;done)|kernel_rfl))(l:ops[i]?=M oi:=by(simp only[gA,gS,gZ];rfl))(p:Region.noSelect ops=true:=by kernel_rfl)(q:Region.free md ops d i=true:=by kernel_rfl)(r:(Region.ready md ops d).contains i=true:=by kernel_rfl)(h4:∀c a w,Q (.panic c) (a.put oi.dst v) w->Q (.panic c) a w:=by exact fun _ _ _ h=>h)(x:Region.wanted oi (yielded ops a.tmps)=true:=by rfl)(y:∀w,A w->(e=true->B w)->(execOp a.eval oi).run P w = .ok (.value v) w:=by(intro w g f;(first|(have f:=f rfl;simp only[Ea,and_true]at g f)|(simp only[Ea,and_true]at g));go_simp;try(with_reducible rfl)))(h6:A w:=by(with_reducible assumption))(s:d.getD pv false=false->B w:=by(first|exact fun _=>(by with_reducible assumption)|exact fun h=>nomatch h))(t:Gq P md ops Q A B pv fuel (d.setIfInBounds i true) (a.put oi.dst v) w=G:=by((try simp only[Act.put,sA,sZ,sS]);rfl)):Gq P md ops Q A B pv (fuel+1) d a w:=by
 subst t;intro k;have o:i∈Region.ready md ops d:=by simpa using r
 exact NA j u l (Region.noSelect_spec p) h4 fuel d a w k (Region.free_spec l q) o (Or.inl ⟨x,fun w h=>y w h.1 h.2⟩) ⟨h6,s⟩ (h (k.step o))
def IF{i o fuel c a w}(h:∀K':Of->Z->Prop,Shut (∀a w,(A w/\((c.setIfInBounds i true).getD pv false=false->B w))->((A w/\((c.setIfInBounds i true).getD pv false=false->B w))->Gq P md ops Q A B pv fuel (c.setIfInBounds i true) a w)->K' a w)->if Region.wanted o (yielded ops a.tmps)=true then Oper.wp P o a w K' Q else K' (a.put o.dst undef) w)(r:ops[i]?=M o:=by(simp only[gA,gS,gZ];rfl))(g:Region.ready md ops c=[i]:=by kernel_rfl):Gq P md ops Q A B pv (fuel+1) c a w:=by intro q;refine⟨fun k=>absurd (g▸k) sM,fun j d=>?_⟩;have e:=d;rw[g]at d;cases List.mem_singleton.1 d;exact wpOp_step r (fun K' l=>h K' (fun a w f p=>l a w ⟨f,p f (q.step e)⟩))
def Qq{f a w} A B pv(e:P.follows .mixedOrders=true)(c:A w.drew)(d:B w.drew)(h:A w.drew->B w.drew->Gq P .any ops Q A B pv ops.size (Array.replicate ops.size false) a w.drew):(Code.region f ops true).wp P Q a w:=
 wp_region_any e (ir _ _ _ _ (h c d (Cl.start _)))
end
end
section
open Go.RowKit Go.Shelf Go.Sort Go.Lib
def Ka.keepT{T T' k w w' base v cs}(h:Ka T k w base v cs)(g:T≠T')(d:w.grownBy w' v.ownBlock):Ia T' w w':=fun b q r a=>by
 rw[d.block b (Jb a) (fun e=>?_)];exact a;rcases h.2.2 with ⟨f,_⟩|⟨s,c,cur,hv,d,l,o,i,j,p⟩
 ·rw[f]at e;cases e
 ·rw[hv]at e;cases e;rw[l]at a;cases a;exact g rfl
def Jd(w:Z)(base:Nat)(v:Ob)(a:List Rat):Prop:=∃cs,Ka 63 3 w base v cs/\cs.length=a.length/\∀(i:Nat) c q,cs[i]?=M c->a[i]?=M q->PR w c q
def Jd.rs{w base v a}(h:Jd w base v a):Sf w v a:=by obtain⟨f,c,d,e⟩:=h;exact c.sl d e
def Jd.ext{w w' base v a}(h:Jd w base v a)(k:Aa w w'):Jd w' base v a:=by obtain⟨d,e,f,g⟩:=h;exact⟨d,e.ext k,f,fun i c q j l=>Sa.ext (g i c q j l) k⟩
def Jd.mono{w base b' v a}(h:Jd w base v a)(k:b'<=base):Jd w b' v a:=by obtain⟨c,d,e,f⟩:=h;exact⟨c,d.mono k,e,f⟩
def Jd.nil w base:Jd w base (O I 0 0) []:=⟨[],Ka.nil _ _ _ _,rfl,fun i c q a=>by simp at a⟩
def Lk(w:Z)(a:List Rat)(e:Ending)(w':Z):Prop:=∃v,e=.returned v/\Jd w' w.heap.size v a/\Aa w w'
def MM:(Tryz.prog.info? 63).map (fun i=>(i.zero,i.size,i.bytes))=M (M (Oe #[O I 0 0,Od false,O I 0 0]),3,56):=kM
def Rb.atE{x e}(q:Rb 1 x)(h:Bd 104000 e.1.1/\Bd 104000 e.1.2/\Bd 104000 e.2.1/\Bd 104000 e.2.2):Rb 11 (Cop.Yi x e):=by
 obtain⟨o,p,r,s⟩:=h;have i:Bd 208000 (e.2.2-e.1.2):=by unfold Bd at *;omega
 have l:Bd 208000 (e.2.1-e.1.1):=by unfold Bd at *;omega
 unfold Cop.Yi;have a:=Rb.sub (k:=1) q (Ml o);have c:=Rb.mul (j:=3) (k:=1) a (Ml i);have d:=Rb.div (j:=4) (k:=1) c (Ml l) oM;have f:=(Ml p).mono (k:=5) oM;have g:=Rb.add (k:=5) f d;exact g
def Rb.atR{x ps}(d:Rb 1 x)(h:Wb ps):Rb 11 (Cop.kb ps x):=by
 unfold Cop.kb;cases hf:(Cf ps).find? (Nh x)with
 | some e=>exact d.atE (RC h.2.1 (List.mem_of_find?_eq_some hf))
 |none=>
  have f:0<ps.length:=by
   rcases Nat.eq_zero_or_pos ps.length with a|a
   ·exact absurd (List.eq_nil_of_length_eq_zero a) h.1
   ·exact a
  have c:ps.getD (ps.length-1) (0,0)∈ps:=by
   rw[gD,gE oM,Option.getD_some];exact List.getElem_mem _
  exact(Ml (h.2.1 _ c).2).mono oM
def pF{ps}(h:Wb ps):Bd 104000 (Ua ps)/\Bd 104000 (qb ps):=by
 have e:0<ps.length:=by
  rcases Nat.eq_zero_or_pos ps.length with a|a
  ·exact absurd (List.eq_nil_of_length_eq_zero a) h.1
  ·exact a
 have c:∀i,i<ps.length->ps.getD i (0,0)∈ps:=fun i d=>by
  rw[gD,gE d,Option.getD_some];exact List.getElem_mem _
 exact⟨(h.2.1 _ (c 0 e)).1,(h.2.1 _ (c _ oM)).1⟩
def Ac(ps a:LP):Sp:=⟨ps,a,max (Ua ps) (Ua a),min (qb ps) (qb a)⟩
def ni(s:Sp)(a c:Ob):Ob:=Oe #[a,c,U Oa s.lo,U Oa s.hi]
def Zi(w:Z)(a c:Ob)(s:Sp)(e:Ending)(w':Z):Prop:=e=.returned (.tuple #[ni s a c,Od (decide (s.lo<s.hi))])/\Aa w w'
def Uo w v1 v2 ps k(h1:Fa w v1 ps)(h2:Fa w v2 k)(k1:0<ps.length)(k2:0<k.length):Calls Tryz.prog 58 #[v1,v2] w (Zi w v1 v2 (Ac ps k)):=by
 have H1:=ka (fun(W:Z)(c:Aa w W)=>tl W v1 ps (h1.f c) k1);have H2:=ka (fun(W:Z)(c:Aa w W)=>tl W v2 k (h2.f c) k2);have H3:=ka (fun(W:Z)(c:Aa w W)=>Vr W v1 ps (h1.f c) k1);have H4:=ka (fun(W:Z)(c:Aa w W)=>Vr W v2 k (h2.f c) k2);obtain⟨p,x,rfl⟩:=h1.form;obtain⟨r,y,rfl⟩:=h2.form;obtain⟨R,hR⟩:=gX (Zi w (O p ps.length x) (O r k.length y) (Ac ps k));rw[hR];have HR:=ka hR;clear hR;unfold Ac at HR;obtain⟨l1,e1⟩:=gX (Ua ps);obtain⟨l2,e2⟩:=gX (Ua k);obtain⟨r1,e3⟩:=gX (qb ps);obtain⟨r2,e4⟩:=gX (qb k);obtain⟨n1,f1⟩:=gX ps.length;obtain⟨n2,f2⟩:=gX k.length;rw[e1,e2,e3,e4]at HR;rw[e1]at H1;rw[e2]at H2;rw[e3]at H3;rw[e4]at H4;simp only[f1,f2]at H1 H2 H3 H4 HR h1 h2 ⊢;clear e1 e2 e3 e4 f1 f2 h1 h2 k1 k2;go_in;go_wp2_with(first|(go_at_call 86;(with_reducible refine(H1.o _ ?_).mono ?_);exact eA;rintro e w3 ⟨rfl,d⟩;obtain⟨ae,ai⟩:=d.cells)|(go_at_call 86;(with_reducible refine(H2.o _ ?_).mono ?_);exact eA;rintro e w4 ⟨rfl,f⟩;obtain⟨af,aj⟩:=f.cells)|(go_at_call 87;(with_reducible refine(H3.o _ ?_).mono ?_);exact eA;rintro e w5 ⟨rfl,g⟩;obtain⟨ag,ak⟩:=g.cells)|(go_at_call 87;(with_reducible refine(H4.o _ ?_).mono ?_);exact eA;rintro e z ⟨rfl,j⟩;obtain⟨ah,al⟩:=j.cells));obtain⟨t,ab⟩:=gX (max l1 l2);obtain⟨s,aa⟩:=gX (min r1 r2);rw[ab,aa]at HR ⊢;have ac:Aa w z:=(((((eR w).alloc _).trans d).trans f).trans g).trans j;have ao:w.heap.size<z.heap.size:=by have:=d.size;have:=f.size;have:=g.size;have:=j.size;simp only[wZ]at *;omega
 have hO:z.heap[w.heap.size]?=M (Oc #[O I 0 0,O I 0 0,U Oa 0,U Oa 0] 138 (0,0)):=j.e (g.e (f.e (d.e (aN _ _))));clear ae ai af aj ag ak ah al H1 H2 H3 H4 ab aa d f g j;obtain⟨W,c⟩:=gX ((z.alloc (Oc #[O p n1 x,O r n2 y,U Oa t,U Oa s] 138)));have hB:W.heap[z.heap.size]?=M (Oc #[O p n1 x,O r n2 y,U Oa t,U Oa s] 138 (0,0)):=by rw[<-c];exact aN _ _
 have a:W.heap[w.heap.size]?=M (Oc #[O I 0 0,O I 0 0,U Oa 0,U Oa 0] 138 (0,0)):=by rw[<-c];exact((eR z).alloc _).e hO
 have an:Aa w W:=by rw[<-c];exact ac.alloc _
 rw[c];clear c hO ac;have b0:=Ba hB (i:=0) (u:=O p n1 x) rfl;have b1:=Ba hB (i:=1) (u:=O r n2 y) rfl;have b2:=Ba hB (i:=2) (u:=U Oa t) rfl;have b3:=Ba hB (i:=3) (u:=U Oa s) rfl;have f0:=Ya a 0;have f1:=Ya a 1;have f2:=Ya a 2;have f3:=Ya a 3;have o0:=Ba a (i:=0) (u:=O I 0 0) rfl;have o1:=Ba a (i:=1) (u:=O I 0 0) rfl;have o2:=Ba a (i:=2) (u:=U Oa 0) rfl;have o3:=Ba a (i:=3) (u:=U Oa 0) rfl;have HB:=ka hB;clear hB a;obtain⟨o,am⟩:=gX z.heap.size;simp only[am]at *;refine Uc [(⟨o,0,I⟩,O p n1 x),(⟨o,1,I⟩,O r n2 y),(⟨o,2,I⟩,U Oa t),(⟨o,3,I⟩,U Oa s)] cA fun ad=>?_;refine sN 0 ?_
 iterate 6 refine Bb ?_
 refine oN ?_;have l:∀q∈[((⟨o,0,I⟩:Og),Value.slice p n1 x),(⟨o,1,I⟩,O r n2 y),(⟨o,2,I⟩,U Oa t),(⟨o,3,I⟩,U Oa s)],w.heap.size≠q.1.block:=by
  simp;omega
 refine Vc (i:=6) fun K hK=>?_;go_simp;refine kO hK ((((Ea.set (by assumption) l _).set l _).set l _).set l _) (fun ad=>?_);clear hK K;refine Ib (i:=7) ?_;refine Sb ?_;go_wp2;refine bR (v:=.tuple #[Oe #[O p n1 x,O r n2 y,U Oa t,U Oa s],Od (decide (t<s))]) (by simp[results,Tryz.results58,go_sem,o0,o1,o2,o3,f0,f1,f2,f3]) rfl ?_;rw[<-HR.o];exact⟨rfl,((((an.set dO _).set dO _).set dO _).set dO _).drew⟩
def Ea.grown:∀{L W W' row},Ea L W->W.grownBy W' row->(∀q∈L,M q.1.block≠row)->Ea L W'
 | [],_,_,_,_,_,_=>trivial
 | (a,v)::r,W,W',row,⟨h1,h2⟩,hg,hn=>by
  refine⟨?_,h2.grown hg (fun q d=>hn q (mC _ d))⟩;have c:=World.block_lt_of_cell? _ _ h1;rw[<-h1];unfold World.cell?;rw[hg.block _ c (hn (a,v) sM)]
def BJ t n(h:t.size=n):t=((List.range n).map fun k=>t.getD k undef).toArray:=by
 apply Array.ext
 ·simp[h]
 ·intro i a c;simp[Array.getD,a]
def Td{W:Z}{b cs T a}(h:W.heap[b]?=M (Oc cs T a)) i u:(W.setCell ⟨b,i,I⟩ u).heap[b]?=M (Oc (cs.setIfInBounds i u) T a):=by simp[World.setCell,Array.getElem?_modify,h]
def QM(w:Z) o a:((w.alloc o).alloc a).heap[w.heap.size]?=M o:=by rw[Dg,if_neg sM];exact aN w o
def PM(w:Z) o a:((w.alloc o).alloc a).heap[w.heap.size+1]?=M a:=Bc _ _ _ sM
def Pg t n(h:t.size=n):∃u,(∀k,t.getD k undef=u k)/\t=((List.range n).map u).toArray:=⟨fun k=>t.getD k undef,fun _=>rfl,BJ t n h⟩
def LD(w:Z) o a:((w.alloc o).alloc a).heap[w.heap.size+1]?=M a:=Bc _ _ _ sM
end
section
open Go.RowKit Go.Shelf
section
variable {P:Program} {ops:Array Oper} {Q:Exit->Of->Z->Prop} {md:Region.Mode} {A B C:Z->Prop} {pv pc:Nat}
def Jy(A B C:Z->Prop)(pv pc:Nat)(a:Array Bool)(w:Z):Prop:=A w/\(a.getD pv false=false->B w)/\(a.getD pc false=false->C w)
def HX(P:Program)(md:Region.Mode)(ops:Array Oper)(Q:Exit->Of->Z->Prop)(A B C:Z->Prop)(pv pc:Nat):Nat->Array Bool->Of->Z->Prop
 | 0,c,a,w=>Region.ready md ops c=[]/\Q .normal a w
 | fuel+1,c,a,w =>
  (Region.ready md ops c=[]->Q .normal a w)/\
  ∀i∈Region.ready md ops c,wpOp P ops Q i (fun e d=>Jy A B C pv pc (c.setIfInBounds i true) d/\HX P md ops Q A B C pv pc fuel (c.setIfInBounds i true) e d) a w
end
section
variable {P:Program} {ops:Array Oper} {Q:Exit->Of->Z->Prop} {md:Region.Mode} {S:Z->Prop} {fl:List (Nat×Tmp×Obj)} {w0:Z} {late:Nat->Bool}
def El(fl:List (Nat×Tmp×Obj))(i:Nat):Bool:=fl.any (·.1==i)
def Vi(md:Region.Mode)(ops:Array Oper)(fl:List (Nat×Tmp×Obj))(L:Array Bool):List Nat:=(Region.ready md ops L).filter fun i=>!El fl i
def qp(ops:Array Oper)(f:Nat):Option Tmp:=(ops[f]?).bind (·.dst)
def vk(b:Nat):List (Nat×Nat)->Prop
 | []=>True
 | x::l=>(b<x.1\/x.2<=b)/\vk b l
def Ri(P:Program)(md:Region.Mode)(ops:Array Oper)(Q:Exit->Of->Z->Prop)(S:Z->Prop)(w0:Z)(k:Nat)(c:List (Nat×Nat)):List (Nat×Tmp×Obj)->List Nat->Array Bool->Of->Z->Prop
 | [],_,L,a,W=>wpAnyH P md ops Q S k L a W
 | (f,d,o)::fl,bs,L,a,W=>∀b,W.heap[b]?=M o->w0.heap.size<=b->b ∉ bs->vk b c->Ri P md ops Q S w0 k c fl (b::bs) (L.setIfInBounds f true) (a.put (M d) (Oh (M ⟨b,0,I⟩))) W
def Si(a:List (Nat×Nat))(w0 W w':Z):Prop:=Aa w0 w'/\W.heap.size<=w'.heap.size/\∀k,k<W.heap.size->vk k a->w'.heap[k]?=W.heap[k]?
def Si.of{d w0 W w'}(a:Aa w0 W)(h:Aa W w'):Si d w0 W w':=⟨a.trans h,h.size,fun k c _=>h.block c⟩
def GF(P:Program)(md:Region.Mode)(ops:Array Oper)(Q:Exit->Of->Z->Prop)(S:Z->Prop)(d:Nat->Bool)(fl:List (Nat×Tmp×Obj))(w0:Z):Nat->List (Nat×Nat)->Array Bool->Of->Z->Prop
 | 0,f,L,a,w=>Vi md ops fl L=[]/\∀W,Aa w W->Aa w0 W->Ri P md ops Q S w0 0 f fl [] L a W
 | k+1,f,L,a,w=>((Vi md ops fl L=[]->∀W,Aa w W->Aa w0 W->Ri P md ops Q S w0 (k+1) f fl [] L a W)/\(∀i∈Vi md ops fl L,d i=false)/\
   ∀i∈Vi md ops fl L,∀W,Aa w W->Aa w0 W->wpOp P ops Q i (fun l g=>Si f w0 W g/\GF P md ops Q S d fl w0 k ((W.heap.size,g.heap.size)::f) (L.setIfInBounds i true) l g) a W) \/
  (∃i oi v,ops[i]?=M oi/\i∈Vi md ops fl L/\(∀j oj,ops[j]?=M oj->j≠i->L.getD j true=false->(∀e∈oj.after,Region.binds md e=true->e.on≠i)->oi.apart ops oj=true)/\
   (∀c a w,Q (.panic c) (a.put oi.dst v) w->Q (.panic c) a w)/\YieldsIf P ops S oi v a/\GF P md ops Q S d fl w0 k f (L.setIfInBounds i true) (a.put oi.dst v) w)
def Rg{i L}:i∈Vi md ops fl L ↔ i∈Region.ready md ops L/\El fl i=false:=by unfold Vi;rw[List.mem_filter];simp
def ui(md:Region.Mode)(ops:Array Oper)(late a:Nat->Bool)(n:Nat):Bool:=
 (List.range ops.size).all fun j=>!late j || ((List.range ops.size).all fun i=>late i || a i || (Ek md ops n j).contains i)
def nD{late d a m i j}(q:ui md ops late d m=true)(u:Cl md ops a)(w:i∈Region.ready md ops a)(y:late i=false)(v:d i=false)(x:j∈Region.ready md ops a):late j=false:=by
 cases hlj:late j with
 | false=>rfl
 |true=>
  exfalso;obtain⟨s,K,f,e⟩:=mem_ready.1 x;obtain⟨c,z,r,_⟩:=mem_ready.1 w;unfold ui at q;rw[List.all_eq_true]at q;have k:=q j (List.mem_range.2 (Array.getElem?_eq_some_iff.1 f).1);rw[hlj]at k;simp only[Bool.not_true,Bool.false_or,List.all_eq_true]at k;have l:=k i (List.mem_range.2 (Array.getElem?_eq_some_iff.1 r).1);rw[y,v]at l;simp only[Bool.false_or,List.contains_eq_mem,decide_eq_true_eq]at l;have p:=Qn u m j (fun o t=>by rw[f]at t;cases t;exact e) i l;rcases Nat.lt_or_ge i a.size with g | g
  ·simp[g]at p c;rw[p]at c;cases c
  ·simp[Array.getElem?_eq_none g]at p
def li(md:Region.Mode)(ops:Array Oper)(c:List (Nat×Tmp))(late a:Nat->Bool)(n:Nat):Bool:=
 ui md ops late a n&&c.all (fun f=>!late f.1&&!a f.1&&(Kg md ops f.1).isEmpty&&decide (f.1<ops.size)&&qp ops f.1==M f.2)&&decide (c.map (·.1)).Nodup&&decide (c.map (·.2)).Nodup &&
 (List.range ops.size).all fun i=>late i || c.any (·.1==i) || c.all fun f=>!(Kg md ops i).contains f.1&&(match ops[f.1]?,ops[i]? with|some x,M y=>x.apart ops y|_,_=>true)
def Ws(P:Program)(ops:Array Oper)(f:Nat)(o:Obj):Prop:=∃x,ops[f]?=M x/\x.guard=I/\∀(a:Of)(W:Z),(execOp a.eval x).run P W = .ok (.value (Oh (M ⟨W.heap.size,0,I⟩))) (W.alloc o)
def ZL{j}{oi k:Oper}{v}(hj:ops[j]?=M k)(s:oi.apart ops k=true)(p:∀cs b,k.op ≠ .select cs b)(z:∀c a w,Q (.panic c) a w->Q (.panic c) (a.put oi.dst v) w){K a w}(h:wpOp P ops Q j K a w):wpOp P ops Q j (fun R t=>∃a0,R=a0.put oi.dst v/\K a0 t) (a.put oi.dst v) w:=by
 obtain⟨q,l,h3⟩:=Oper.apart_spec s;unfold wpOp at *;simp only[hj]at *;rw[wanted_put k a oi.dst v q];split
 ·rename_i hw;simp only[hw,if_true]at h;rcases h with h|⟨g,i⟩
  case inr=>exact .inr ⟨by unfold Oper.asks at *;rw[execOp_put k p a oi.dst v q];exact g,i⟩
  refine .inl ?_;unfold Oper.wp at *;rw[execOp_put k p a oi.dst v q];generalize (execOp a.eval k).run P w=r at *
  cases r with
  | ok n t =>
   cases n<;>simp only[Oper.upon]at h ⊢
   case value u=>exact⟨_,Act.put_comm a v u l,h⟩
   case skip=>exact⟨_,Act.put_comm a v undef l,h⟩
   case defer d=>exact⟨_,by rw[Act.put_defers];exact Act.put_comm _ v undef l,h⟩
   case enter f args =>
    refine cM h fun e y o=>?_;cases e with
    | returned u=>exact⟨_,Act.put_comm a v u l,o⟩
    | panicked c=>exact z _ _ _ o
    | outgrown=>exact o
   case row row args=>exact Rows.mono h fun u y o=>⟨_,Act.put_comm a v u l,o⟩
  | halt x t =>
   cases x<;>simp only[Oper.upon]at h ⊢
   case panic u=>exact z _ _ _ h
 ·rename_i hw;simp only[hw]at h;exact⟨_,Act.put_comm a v undef l,h⟩
abbrev th:=List (Nat×Tmp×Obj×Nat)
def sj(x:Nat×Tmp×Obj×Nat):Nat×Tmp×Obj:=(x.1,x.2.1,x.2.2.1)
def Fe(L:Array Bool)(a:th):Array Bool:=a.foldl (fun L x=>L.setIfInBounds x.1 true) L
def Ag(a:Of)(c:th):Of:=c.foldl (fun a x=>a.put (M x.2.1) (Oh (M ⟨x.2.2.2,0,I⟩))) a
def ou{i d}:∀ a  L ,(∀x∈a,x.1≠i)->(Fe L a).getD i d=L.getD i d
 | [],_,_=>rfl
 | x::a,L,h=>(ou a _ fun y c=>h y (mC _ c)).trans (getD_set_ne d (h x (List.mem_cons_self ..)))
def yL{i d}:∀ c  L ,(∃x∈c,x.1=i)->i<L.size->(Fe L c).getD i d=true
 | [],_,h,_=>by obtain⟨x,a,_⟩:=h;cases a
 | y::c,L,h,hi=>by
  by_cases f:∃x∈c,x.1=i
  ·exact yL c _ f (by simpa using hi)
  ·have g:y.1=i:=by
    obtain⟨x,a,e⟩:=h;rcases List.mem_cons.1 a with rfl|a
    ·exact e
    ·exact absurd ⟨x,a,e⟩ f
   subst g;refine(ou c _ fun x a e=>f ⟨x,a,e⟩).trans ?_;simp[hi]
def Nw{i}:∀ a  L ,(∀x∈a,x.1≠i)->(Fe L a).setIfInBounds i true=Fe (L.setIfInBounds i true) a
 | [],_,_=>rfl
 | x::a,L,h=>by
  refine(Nw a _ fun y c=>h y (mC _ c)).trans ?_;show Fe ((L.setIfInBounds x.1 true).setIfInBounds i true) a=Fe ((L.setIfInBounds i true).setIfInBounds x.1 true) a;rw[Array.setIfInBounds_comm _ _ (h x (List.mem_cons_self ..))]
def UM{α β:Type}{g}{x y:List β}(h:x.Perm y):∀l:List α,l.map g=x->∃m,l.Perm m/\m.map g=y:=by
 induction h with
 | nil=>exact fun l d=>⟨l,.refl _,d⟩
 | cons b _ q =>
  intro l d;obtain⟨a,l,rfl,rfl,e⟩:=List.map_eq_cons_iff.1 d;obtain⟨m,f,i⟩:=q l e;exact⟨a::m,f.cons a,by simp[i]⟩
 | swap b c t =>
  intro l d;obtain⟨a,l,rfl,rfl,e⟩:=List.map_eq_cons_iff.1 d;obtain⟨o,l,rfl,rfl,f⟩:=List.map_eq_cons_iff.1 e;exact⟨o::a::l,.swap ..,by simp[f]⟩
 | trans _ _ j k =>
  intro l d;obtain⟨m,p,e⟩:=j l d;obtain⟨r,f,i⟩:=k m e;exact⟨r,p.trans f,i⟩
def Ri.use{k W f}:∀ c  d  L  a ,Ri P md ops Q S w0 k f (c.map sj) d L a W ->(∀x∈c,W.heap[x.2.2.2]?=M x.2.2.1/\w0.heap.size<=x.2.2.2/\vk x.2.2.2 f)->(d.reverse++c.map (·.2.2.2)).Nodup->wpAnyH P md ops Q S k (Fe L c) (Ag a c) W
 | [],_,_,_,h,_,_=>h
 | x::c,d,L,a,h,h1,h2=>by
  have e:=h1 x (List.mem_cons_self ..);have g:x.2.2.2 ∉ d:=fun i=>by
   rw[List.map_cons,List.nodup_append]at h2;exact h2.2.2 _ (List.mem_reverse.2 i) _ (List.mem_cons_self ..) rfl
  exact Ri.use c (x.2.2.2::d) _ _ (h x.2.2.2 e.1 e.2.1 g e.2.2) (fun y j=>h1 y (mC _ j)) (by simpa using h2)
def ID{j l}(s:ops[j]?=M l)(f:∀cs b,l.op ≠ .select cs b)(r:∀c a d v w,Q (.panic c) a w->Q (.panic c) (a.put d v) w){W}:∀ e  a  K ,(∀x∈e,∃p:Oper,p.dst=M x.2.1/\p.apart ops l=true)->wpOp P ops Q j K a W->wpOp P ops Q j (fun g o=>∃a0,g=Ag a0 e/\K a0 o) (Ag a e) W
 | [],_,_,_,h=>wpOp_mono (fun g o i=>⟨g,rfl,i⟩) h
 | x::e,a,K,h1,h=>by
  obtain⟨p,z,k⟩:=h1 x (List.mem_cons_self ..);have q:=ZL (oi:=p) (v:=Oh (M ⟨x.2.2.2,0,I⟩)) s k f (fun c a w h=>r c a _ _ w h) h;rw[z]at q;refine wpOp_mono (fun g o i=>?_) (ID s f r e _ _ (fun y R=>h1 y (mC _ R)) q);obtain⟨a0,rfl,t,rfl,u⟩:=i;exact⟨t,rfl,u⟩
variable {P:Program} {ops:Array Oper} {Q:Exit->Of->Z->Prop} {md:Region.Mode} {S:Z->Prop} {fl:List (Nat×Tmp×Obj)} {w0:Z} {late:Nat->Bool} {m:Nat}
def Dq(x:Nat×Tmp×Obj):Nat×Tmp:=(x.1,x.2.1)
def Sx{a}(h:li md ops (fl.map Dq) late a m=true):ui md ops late a m=true/\(∀x∈fl,late x.1=false/\a x.1=false/\Kg md ops x.1=[]/\x.1<ops.size/\qp ops x.1=M x.2.1)/\(fl.map (·.1)).Nodup/\(fl.map (·.2.1)).Nodup/\∀i<ops.size,late i=false->El fl i=false->∀x∈fl,x.1 ∉ Kg md ops i/\∀p q,ops[x.1]?=M p->ops[i]?=M q->p.apart ops q=true:=by
 unfold li at h;simp only[Bool.and_eq_true,decide_eq_true_eq]at h;obtain⟨⟨⟨⟨r,s⟩,l⟩,o⟩,t⟩:=h;rw[List.map_map]at l o;refine⟨r,fun x k=>?_,l,o,fun i u v j x k=>?_⟩
 ·have:=List.all_eq_true.1 s _ (List.mem_map_of_mem (f:=Dq) k);simp only[Bool.and_eq_true,Bool.not_eq_true',List.isEmpty_iff,decide_eq_true_eq,beq_iff_eq]at this;exact⟨this.1.1.1.1,this.1.1.1.2,this.1.1.2,this.1.2,this.2⟩
 ·have h6:=List.all_eq_true.1 t i (List.mem_range.2 u);rw[v,Bool.false_or,Bool.or_eq_true]at h6;rcases h6 with g|g
  ·exfalso;obtain⟨y,R,d⟩:=List.any_eq_true.1 g;obtain⟨z,hz,rfl⟩:=List.mem_map.1 R;unfold El at j;rw[List.any_eq_false]at j;exact j z hz d
  ·have d:=List.all_eq_true.1 g _ (List.mem_map_of_mem (f:=Dq) k);rw[Bool.and_eq_true]at d;refine⟨fun e=>?_,fun p q w K=>?_⟩
   ·have c:=d.1;rw[Bool.not_eq_true',List.contains_eq_mem,decide_eq_false_iff_not]at c;exact c e
   ·have c:=d.2;dsimp only[Dq]at c;rw[w,K]at c;exact c
def VC{i o}(d:ops[i]?=M o){e}(c:e∈o.after)(a:Region.binds md e=true):e.on∈Kg md ops i:=by unfold Kg;rw[d];exact List.mem_map.2 ⟨e,List.mem_filter.2 ⟨by simpa using c,a⟩,rfl⟩
def DC{i}(h:El fl i=true):∃d o,(i,d,o)∈fl:=by unfold El at h;obtain⟨x,c,a⟩:=List.any_eq_true.1 h;rw[beq_iff_eq]at a;subst a;exact⟨x.2.1,x.2.2,c⟩
def xD{i}(h:El fl i=false):∀x∈fl,x.1≠i:=by unfold El at h;rw[List.any_eq_false]at h;exact fun x a e=>h x a (by simpa using e)
def iN{b}:∀{a},(∀x∈a,b<x.1\/x.2<=b)->vk b a
 | [],_=>trivial
 | x::_,h=>⟨h x (List.mem_cons_self ..),iN fun y c=>h y (mC _ c)⟩
def Zz{α β:Type}{g:α->β}:∀{l:List α},(l.map g).Nodup->∀x∈l,∀y∈l,g x=g y->x=y
 | [],_,_,d,_,_,_=>nomatch d
 | z::l,h,x,d,y,hy,e=>by
  rw[List.map_cons,List.nodup_cons]at h;obtain⟨f,h⟩:=h;rcases List.mem_cons.1 d with c|c
  ·rcases List.mem_cons.1 hy with a|a
   ·rw[c,a]
   ·exact absurd (List.mem_map.2 ⟨y,a,by rw[<-e,c]⟩) f
  ·rcases List.mem_cons.1 hy with a|a
   ·exact absurd (List.mem_map.2 ⟨x,c,by rw[e,a]⟩) f
   ·exact Zz h x c y a e
def JA{c a}(h:c.Perm a) L:Fe L c=Fe L a:=
 h.foldl_eq' (fun x _ y _ z=>by
  by_cases e:x.1=y.1
  ·rw[e]
  ·exact Array.setIfInBounds_comm _ _ e) L
def pB{f c}(j:(f.map (·.2.1)).Nodup)(h:f.Perm c) a:Ag a f=Ag a c:=
 h.foldl_eq' (fun x k y l z=>by
  by_cases e:x.2.1=y.2.1
  ·rw[Zz j x k y l e]
  ·exact Act.put_comm z _ _ (fun d i g=>e ((Option.some.inj i).trans (Option.some.inj g).symm))) a
def DP{j}:∀ c  L ,(Fe L c).getD j true=false->L.getD j true=false
 | [],_,h=>h
 | x::c,L,h=>by
  have a:=DP c _ h;by_cases e:x.1=j
  ·subst e;rcases Nat.lt_or_ge x.1 L.size with d | d
   ·simp[d]at a
   ·simp[Array.getElem?_eq_none d]at a
  ·rw[getD_set_ne true e]at a;exact a
def UC{d v}:∀ c  a ,(∀x∈c,d≠M x.2.1)->(Ag a c).put d v=Ag (a.put d v) c
 | [],_,_=>rfl
 | x::c,a,h=>by
  refine(UC c _ fun y g=>h y (mC _ g)).trans ?_;show Ag ((a.put (M x.2.1) _).put d v) c=Ag ((a.put d v).put (M x.2.1) _) c;rw[Act.put_comm a _ v (fun q f e=>h x (List.mem_cons_self ..) (e.trans f.symm))]
def ME{oi v}(f:∀cs b,oi.op ≠ .select cs b):∀ c  a ,(∀x∈c,x.2.1 ∉ oi.looksAt ops)->YieldsIf P ops S oi v a->YieldsIf P ops S oi v (Ag a c)
 | [],_,_,h=>h
 | x::c,a,h1,h=>ME f c _ (fun y g=>h1 y (mC _ g)) (h.of_same (execOp_put oi f a _ _ (fun d e=>by cases e;exact h1 x (List.mem_cons_self ..))) (wanted_put oi a _ _ (fun d e=>by cases e;exact h1 x (List.mem_cons_self ..))))
def IA{j}:∀ a  L ,L.getD j false=true->(Fe L a).getD j false=true
 | [],_,h=>h
 | _::a,_,h=>IA a _ (getD_set_true h)
def OG{ag}(aU:li md ops (fl.map Dq) late ag m=true)(aC:fl≠[])(am:Region.noSelect ops=true)(hl:∀x∈fl,Ws P ops x.1 x.2.2)(hQ:∀c a d v w,Q (.panic c) a w->Q (.panic c) (a.put d v) w)(aA:∀w',Aa w0 w'->S w'):∀ n k  iv  L  a  w W  g  rest ,GF P md ops Q S ag fl w0 k iv L a w->(∀x∈iv,x.2<=w.heap.size)->Aa w0 w->Aa w W->(g.map sj++rest).Perm fl->n=k+rest.length->Cl md ops L->L.size=ops.size ->(∀x∈fl,L.getD x.1 true=false)->(∀x∈g,W.heap[x.2.2.2]?=M x.2.2.1/\w0.heap.size<=x.2.2.2/\vk x.2.2.2 iv)->(g.map (·.2.2.2)).Nodup->Cl md ops (Fe L g)->wpAnyH P md ops Q S n (Fe L g) (Ag a g) W:=by
 obtain⟨f1,f2,f3,f4,f5⟩:=Sx aU;have ay:∀(k:Nat)(iv:List (Nat×Nat))(L:Array Bool)(a:Of)(W:Z)(g:th),Ri P md ops Q S w0 k iv fl [] L a W->(g.map sj).Perm fl->(∀x∈g,W.heap[x.2.2.2]?=M x.2.2.1/\w0.heap.size<=x.2.2.2/\vk x.2.2.2 iv)->(g.map (·.2.2.2)).Nodup->wpAnyH P md ops Q S k (Fe L g) (Ag a g) W:=by
  intro k iv L a W g H hp hb ad;obtain⟨aL,p1,p2⟩:=UM hp g rfl;have aS:(g.map (·.2.1)).Nodup:=by
   have:=(hp.map (·.2.1)).nodup_iff.2 f4
   rwa [List.map_map]at this
  rw[JA p1,pB aS p1];refine Ri.use aL [] L a (by rw[p2];exact H) (fun x l=>hb x (p1.mem_iff.2 l)) ?_;simpa using (p1.map (·.2.2.2)).nodup_iff.1 ad
 intro n;induction n with
 |zero=>
  intro k iv L a w W g rest H ak h0 hw hp hn hc an ae hb ad ah;obtain rfl:k=0:=oM;obtain rfl:rest=[]:=List.eq_nil_of_length_eq_zero oM;rw[List.append_nil]at hp;exact ay 0 iv L a W g (H.2 W hw (h0.trans hw)) hp hb ad
 | succ n ih =>
  intro k iv L a w W g rest H ak h0 hw hp hn hc an ae hb ad ah;have z:∀x∈g,sj x∈fl:=fun x l=>hp.mem_iff.1 (List.mem_append_left _ (List.mem_map_of_mem l));have aw:∀x∈rest,x∈fl:=fun x l=>hp.mem_iff.1 (List.mem_append_right _ l);have ai:∀i d,El fl i=false->(Fe L g).getD i d=L.getD i d:=fun i d hi=>ou g L fun x l=>xD hi (sj x) (z x l);have af:((g.map sj++rest).map (·.1)).Nodup:=(hp.map (·.1)).nodup_iff.2 f3;have ap:∀x∈g,∀y∈rest,x.1≠y.1:=fun x l y hy e=>by
   rw[List.map_append,List.nodup_append]at af;exact af.2.2 _ (List.mem_map_of_mem (f:=(·.1)) (List.mem_map_of_mem (f:=sj) l)) _ (List.mem_map_of_mem (f:=(·.1)) hy) e
  have az:∀i∈Vi md ops fl L,late i=false:=fun i hi=>by
   obtain⟨u,h2⟩:=Rg.1 hi;obtain⟨K,R,q,aa⟩:=mem_ready.1 u;cases hli:late i with
   | false=>rfl
   |true=>
    exfalso;obtain⟨x,l⟩:=List.exists_mem_of_ne_nil fl aC;obtain⟨g1,ge,g2,g3,g4⟩:=f2 x l;have hg:=f1;unfold ui at hg;rw[List.all_eq_true]at hg;have h3:=hg i (List.mem_range.2 (Array.getElem?_eq_some_iff.1 q).1);rw[hli]at h3;simp only[Bool.not_true,Bool.false_or,List.all_eq_true]at h3;have h4:=h3 x.1 (List.mem_range.2 g3);rw[g1,ge]at h4;simp only[Bool.false_or,List.contains_eq_mem,decide_eq_true_eq]at h4;have h5:=Qn hc m i (fun o ho=>by rw[q]at ho;cases ho;exact aa) x.1 h4;have h6:=ae x l;have h7:x.1<L.size:=oM;simp[h7]at h5 h6;rw[h5]at h6;cases h6
  have aF:∀i∈Vi md ops fl L,i∈Region.ready md ops (Fe L g):=fun i hi=>by
   obtain⟨u,h2⟩:=Rg.1 hi;obtain⟨K,R,q,aa⟩:=mem_ready.1 u;exact mem_ready.2 ⟨by rw[ai i true h2];exact K,R,q,fun e he hb=>IA g L (aa e he hb)⟩
  have aR:∀x∈rest,x.1∈Region.ready md ops (Fe L g):=fun x l=>by
   obtain⟨g1,ge,g2,g3,g4⟩:=f2 x (aw x l);refine mem_ready.2 ⟨?_,ops[x.1],by simp[g3],fun e he hb=>?_⟩
   ·rw[ou g L fun y hy=>ap y hy x l];exact ae x (aw x l)
   ·have:=VC (md:=md) (ops:=ops) (i:=x.1) (o:=ops[x.1]) (by simp[g3]) he hb;rw[g2]at this;cases this
  have ax:∀x∈g,∃p:Oper,ops[x.1]?=M p/\p.dst=M x.2.1:=fun x l=>by
   have u:=f2 _ (z x l);have h4:x.1<ops.size:=u.2.2.2.1;have h3:ops[x.1]?=M (ops[x.1]'h4):=Array.getElem?_eq_getElem h4;refine⟨ops[x.1]'h4,h3,?_⟩;have h2:(ops[x.1]?).bind (·.dst)=M x.2.1:=u.2.2.2.2;rw[h3]at h2;exact h2
  by_cases hE:rest=[]/\Vi md ops fl L=[]
  ·obtain⟨rfl,h2⟩:=hE;rw[List.append_nil]at hp;cases k with
   | zero=>exact absurd hn sM
   | succ k =>
    (obtain rfl:n=k:=by simp at hn;omega);rcases H with H|⟨i,R,v,u,h3,_⟩
    ·exact ay _ iv L a W g (H.1 h2 W hw (h0.trans hw)) hp hb ad
    ·rw[h2]at h3;cases h3
  ·have aK:(k=0\/∃k',k=k'+1/\((Vi md ops fl L=[]->∀W,Aa w W->Aa w0 W->Ri P md ops Q S w0 (k'+1) iv fl [] L a W)/\(∀i∈Vi md ops fl L,ag i=false)/\
   ∀i∈Vi md ops fl L,∀W,Aa w W->Aa w0 W->wpOp P ops Q i (fun a' w'=>Si iv w0 W w'/\GF P md ops Q S ag fl w0 k' ((W.heap.size,w'.heap.size)::iv) (L.setIfInBounds i true) a' w') a W))\/(∃k',k=k'+1/\∃i R v,ops[i]?=M R/\i∈Vi md ops fl L/\(∀j oj,ops[j]?=M oj->j≠i->L.getD j true=false->(∀e∈oj.after,Region.binds md e=true->e.on≠i)->R.apart ops oj=true)/\
   (∀c a w,Q (.panic c) (a.put R.dst v) w->Q (.panic c) a w)/\YieldsIf P ops S R v a/\GF P md ops Q S ag fl w0 k' iv (L.setIfInBounds i true) (a.put R.dst v) w):=by
    cases k with
    | zero=>exact .inl (.inl rfl)
    | succ k =>
     rcases H with H|H
     ·exact .inl (.inr ⟨k,rfl,H⟩)
     ·exact .inr ⟨k,rfl,H⟩
   rcases aK with H2|⟨k,rfl,i,R,v,q,aj,aB,aI,hy,HG⟩
   case inr =>
    obtain⟨_,hF⟩:=Rg.1 aj;have ar:=az i aj;have aH:=(Array.getElem?_eq_some_iff.1 q).1;have aG:∀x∈g,R.dst≠M x.2.1/\x.2.1 ∉ R.looksAt ops:=fun x l=>by
     obtain⟨p,aD,av⟩:=ax x l;obtain⟨q1,q2,q3⟩:=Oper.apart_spec ((f5 i aH ar hF _ (z x l)).2 p R aD q);exact⟨q2 _ av,q1 _ av⟩
    have ab:=ah.step (aF i aj);have e1:(Fe L g).setIfInBounds i true=Fe (L.setIfInBounds i true) g:=Nw g L fun x l=>xD hF (sj x) (z x l);refine wpAnyH_first q (Region.noSelect_spec am) aI n (Fe L g) (Ag a g) W (fun j oj hj aC ae aT=>aB j oj hj aC (DP g L ae) aT) (aF i aj) (ME (fun cs b=>Region.noSelect_spec am i R cs b q) g a (fun x l=>(aG x l).2) hy) (aA W (h0.trans hw)) ?_;rw[e1]at ab ⊢;rw[UC g a fun x l=>(aG x l).1];refine ih k iv _ _ w W g rest HG ak h0 hw hp oM (hc.step (Rg.1 aj).1) (by simpa using an) (fun x r=>?_) hb ad ab;rw[getD_set_ne true (fun e=>xD hF x r e.symm)];exact ae x r
   have aE:∃e,e∈Region.ready md ops (Fe L g)/\late e=false/\ag e=false:=by
    by_cases u:rest=[]
    ·have h2:Vi md ops fl L≠[]:=fun h=>hE ⟨u,h⟩;obtain⟨e,he⟩:=List.exists_mem_of_ne_nil _ h2;rcases H2 with rfl|⟨k',rfl,H2⟩
     ·exact absurd H.1 h2
     ·exact⟨e,aF e he,az e he,H2.2.1 e he⟩
    ·obtain⟨x,l⟩:=List.exists_mem_of_ne_nil _ u;exact⟨x.1,aR x l,(f2 x (aw x l)).1,(f2 x (aw x l)).2.1⟩
   obtain⟨e,he,aQ,aP⟩:=aE;refine⟨fun hr=>(by rw[hr]at he;cases he),fun i hi=>?_⟩;obtain⟨K,R,q,aa⟩:=mem_ready.1 hi;have ar:late i=false:=nD f1 ah he aQ aP hi;cases hF:El fl i with
   |true=>
    obtain⟨d,o,ac⟩:=DC hF;have au:(i,d,o)∈rest:=by
     rcases List.mem_append.1 (hp.mem_iff.2 ac)with u|u
     ·exfalso;obtain⟨x,l,h2⟩:=List.mem_map.1 u;(have h3:x.1=i:=by have:=congrArg (·.1) h2;exact this);have h4:=yL (d:=true) g L ⟨x,l,h3⟩ (by rw[an];exact(Array.getElem?_eq_some_iff.1 q).1);rw[h4]at K;cases K
     ·exact u
    obtain⟨s,t,aV⟩:=List.append_of_mem au;subst aV;obtain⟨x,aJ,r,aW⟩:=hl _ ac;rw[q]at aJ;cases aJ;have hd:R.dst=M d:=by
     have:=(f2 _ ac).2.2.2.2;unfold qp at this;rw[q]at this;exact this
    unfold wpOp;rw[q];dsimp only;(have ao:Region.wanted R (yielded ops (Ag a g).tmps)=true:=by unfold Region.wanted;rw[r]);rw[if_pos ao];refine .inl ?_;unfold Oper.wp;rw[aW];show S (W.alloc o)/\wpAnyH P md ops Q S n ((Fe L g).setIfInBounds i true) ((Ag a g).put R.dst _) (W.alloc o);refine⟨aA _ ((h0.trans hw).alloc o),?_⟩;rw[hd];(have e1:(Fe L g).setIfInBounds i true=Fe L (g++[(i,d,o,W.heap.size)]):=by unfold Fe;rw[List.foldl_append];rfl);(have e2:(Ag a g).put (M d) (Oh (M ⟨W.heap.size,0,I⟩))=Ag a (g++[(i,d,o,W.heap.size)]):=by unfold Ag;rw[List.foldl_append];rfl);have ab:=ah.step hi;rw[e1]at ab ⊢;rw[e2];refine ih k iv L a w (W.alloc o) (g++[(i,d,o,W.heap.size)]) (s++t) H ak h0 (hw.alloc o) ?_ (by simp at hn ⊢;omega) hc an ae ?_ ?_ ab
    ·refine List.Perm.trans ?_ hp;rw[List.map_append,List.append_assoc];exact List.Perm.append_left _ (show ((i,d,o)::(s++t)).Perm (s++(i,d,o)::t)from List.perm_middle.symm)
    ·intro x l;rcases List.mem_append.1 l with l|l
     ·obtain⟨u,h2⟩:=hb x l;exact⟨((eR W).alloc o).e u,h2⟩
     ·cases List.mem_singleton.1 l;exact⟨aN W o,(h0.trans hw).size,iN fun x l=>.inr (nT (ak x l) hw.size)⟩
    ·rw[List.map_append,List.nodup_append];refine⟨ad,by simp,fun b aM c aO e=>?_⟩;obtain⟨x,l,rfl⟩:=List.mem_map.1 aM;have u:=Jb (hb x l).1;simp at aO;omega
   |false=>
    have aq:i∈Vi md ops fl L:=Rg.2 ⟨mem_ready.2 ⟨by rw[<-ai i true hF];exact K,R,q,fun e he hb=>by
     have u:=aa e he hb;have h2:El fl e.on=false:=by
      cases h3:El fl e.on with
      | false=>rfl
      |true=>
       obtain⟨d,o,ac⟩:=DC h3;exact absurd (VC q he hb) (f5 i (Array.getElem?_eq_some_iff.1 q).1 ar hF _ ac).1
     rw[<-ai e.on false h2];exact u⟩,hF⟩
    rcases H2 with rfl|⟨k,rfl,H2⟩
    ·rw[H.1]at aq;cases aq
    ·refine wpOp_mono (fun a' w' h'=>?_) (ID q (fun cs b=>Region.noSelect_spec am i R cs b q) hQ g a _ (fun x l=>?_) (H2.2.2 i aq W hw (h0.trans hw)))
     ·obtain⟨a0,rfl,l,hG⟩:=h';have e1:(Fe L g).setIfInBounds i true=Fe (L.setIfInBounds i true) g:=Nw g L fun x l=>xD hF (sj x) (z x l);have ab:=ah.step hi;refine⟨aA _ l.1,?_⟩;rw[e1]at ab ⊢;refine ih k _ _ a0 w' w' g rest hG (fun x r=>?_) l.1 (eR _) hp oM (hc.step (Rg.1 aq).1) (by simpa using an) (fun x r=>?_) (fun x r=>?_) ad ab
      ·rcases List.mem_cons.1 r with rfl|r
       ·exact nE _
       ·exact nT (ak x r) (nT hw.size l.2.1)
      ·rw[getD_set_ne true (fun e=>xD hF x r e.symm)];exact ae x r
      ·obtain⟨u,h2,h3⟩:=hb x r;exact⟨by rw[l.2.2 _ (Jb u) h3];exact u,h2,.inl (Jb u),h3⟩
     ·obtain⟨p,aD,av⟩:=ax x l;exact⟨p,av,(f5 i (Array.getElem?_eq_some_iff.1 q).1 ar hF _ (z x l)).2 _ _ aD q⟩
variable {P:Program} {ops:Array Oper} {Q:Exit->Of->Z->Prop} {md:Region.Mode} {S:Z->Prop} {fl:List (Nat×Tmp×Obj)} {w0:Z}
def En(P:Program)(md:Region.Mode)(ops:Array Oper)(Q:Exit->Of->Z->Prop)(c:Nat->Bool)(fl:List (Nat×Tmp×Obj))(w0:Z)(S:Z->Prop)(k:Nat)(d:List (Nat×Nat))(L:Array Bool)(a:Of)(w:Z):Prop:=GF P md ops Q S c fl w0 k d L a w
def Pb{e j L v i oi k d a w G}(h:G)(g:ops[i]?=M oi:=by(simp only[gA,gS,gZ];rfl))(s:Region.noSelect ops=true:=by kernel_rfl)(l:Region.free md ops d i=true:=by kernel_rfl)(o:(Vi md ops fl d).contains i=true:=by kernel_rfl)(h4:∀c a w,Q (.panic c) (a.put oi.dst v) w->Q (.panic c) a w:=by exact fun _ _ _ h=>h)(q:Region.wanted oi (yielded ops a.tmps)=true:=by rfl)(r:∀w,Ea L w->(execOp a.eval oi).run P w = .ok (.value v) w:=by(intro w f;simp only[Ea,and_true]at f;go_simp;try(with_reducible rfl)))(h6:Ea L w0:=by(with_reducible assumption))(p:En P md ops Q e fl w0 (Ea L) k j (d.setIfInBounds i true) (a.put oi.dst v) w=G:=by((try simp only[Act.put,sA,sZ,sS]);rfl)):En P md ops Q e fl w0 (Ea L) (k+1) j d a w:=by subst p;exact .inr ⟨i,oi,v,g,by simpa using o,Region.free_spec g l,h4,Or.inl ⟨q,r⟩,h⟩
def Qe{d g L i o k c a w}(h:∀W,Aa w W->Aa w0 W->Ea L W->∀K':Of->Z->Prop,Shut (∀a w',Si g w0 W w'->(Si g w0 W w'->Ea L w'->En P md ops Q d fl w0 (Ea L) k ((W.heap.size,w'.heap.size)::g) (c.setIfInBounds i true) a w')->K' a w')->if Region.wanted o (yielded ops a.tmps)=true then Oper.wp P o a W K' Q else K' (a.put o.dst undef) W)(h6:Ea L w0:=by(with_reducible assumption))(v:ops[i]?=M o:=by(simp only[gA,gS,gZ];rfl))(p:Vi md ops fl c=[i]:=by kernel_rfl)(u:d i=false:=by rfl):En P md ops Q d fl w0 (Ea L) (k+1) g c a w:=by
 refine .inl ⟨fun r=>absurd (p▸r) sM,fun j f=>?_,fun j f W t e=>?_⟩
 ·rw[p]at f;cases List.mem_singleton.1 f;exact u
 rw[p]at f;cases List.mem_singleton.1 f;exact wpOp_step v (fun K' s=>h W t e (cE h6 e) K' (fun a w' q l=>s a w' ⟨q,l q (cE h6 q.1)⟩))
def JF{d o L i j oi p k c a w}(y:∀W,Aa w W->Aa w0 W->Ea L W->∀K':Of->Z->Prop,Shut (∀a w',Si o w0 W w'->(Si o w0 W w'->Ea L w'->En P md ops Q d fl w0 (Ea L) k ((W.heap.size,w'.heap.size)::o) (c.setIfInBounds i true) a w')->K' a w')->if Region.wanted oi (yielded ops a.tmps)=true then Oper.wp P oi a W K' Q else K' (a.put oi.dst undef) W)(z:∀W,Aa w W->Aa w0 W->Ea L W->∀K':Of->Z->Prop,Shut (∀a w',Si o w0 W w'->(Si o w0 W w'->Ea L w'->En P md ops Q d fl w0 (Ea L) k ((W.heap.size,w'.heap.size)::o) (c.setIfInBounds j true) a w')->K' a w')->if Region.wanted p (yielded ops a.tmps)=true then Oper.wp P p a W K' Q else K' (a.put p.dst undef) W)(h6:Ea L w0:=by(with_reducible assumption))(K:ops[i]?=M oi:=by(simp only[gA,gS,gZ];rfl))(R:ops[j]?=M p:=by(simp only[gA,gS,gZ];rfl))(s:Vi md ops fl c=[i,j]:=by kernel_rfl)(v:d i=false/\d j=false:=by exact⟨rfl,rfl⟩):En P md ops Q d fl w0 (Ea L) (k+1) o c a w:=by
 refine .inl ⟨fun x=>absurd (s▸x) sM,fun q e=>?_,fun q e W u g=>?_⟩
 ·rw[s]at e;rcases List.mem_cons.1 e with rfl|e
  ·exact v.1
  ·cases List.mem_singleton.1 e;exact v.2
 have t:=cE h6 g;rw[s]at e;rcases List.mem_cons.1 e with rfl|e
 ·exact wpOp_step K (fun K' r=>y W u g t K' (fun a w' l f=>r a w' ⟨l,f l (cE h6 l.1)⟩))
 ·cases List.mem_singleton.1 e;exact wpOp_step R (fun K' r=>z W u g t K' (fun a w' l f=>r a w' ⟨l,f l (cE h6 l.1)⟩))
def df{e g L k c a w}(f:Vi md ops fl c=[])(h:∀W,Aa w W->Aa w0 W->Ri P md ops Q (Ea L) w0 k g fl [] c a W):En P md ops Q e fl w0 (Ea L) k g c a w:=by
 cases k with
 | zero=>exact⟨f,h⟩
 | succ k=>exact .inl ⟨fun _=>h,fun i d=>(by rw[f]at d;cases d),fun i d=>by rw[f]at d;cases d⟩
def Eg{u a w} fl L k m late e(s:P.follows .mixedOrders=true)(f:li .any ops (fl.map Dq) late e m=true)(q:ops.size=k+fl.length)(i:fl≠[])(g:Region.noSelect ops=true)(r:∀x∈fl,Ws P ops x.1 x.2.2)(p:∀c a d v w,Q (.panic c) a w->Q (.panic c) (a.put d v) w)(j:Ea L w.drew)(h:Ea L w.drew->En P .any ops Q e fl w.drew (Ea L) k [] (Array.replicate ops.size false) a w.drew):(Code.region u ops true).wp P Q a w:=by obtain⟨_,l,_,_,_⟩:=Sx f;have o:=OG (w0:=w.drew) (S:=Ea L) f i g r p (fun _ h=>cE j h) ops.size k [] (Array.replicate ops.size false) a w.drew w.drew [] fl (h j) sM (eR _) (eR _) sM q (Cl.start _) sM (fun x t=>by simp[(l x t).2.2.2.1]) sM sM (Cl.start _);exact wp_region_any s (wpAny_of_held _ _ _ _ o)
end
end
section
open Go.RowKit Go.Shelf
attribute [local go_sem] Oper.semAt_some
def BR(W0:Z)(m c:Nat)(xs e:List Int)(d:Ob)(wr:Z):Prop:=
 ∃(i:Nat)(a:List Int),d=U Oa i/\i<=m/\a.length=m+c/\Db 3 wr W0.heap.size (O (M ⟨W0.heap.size,0,I⟩) (m+c) (m+c)) a/\dv C4 a=dv C4 (xs.take i)*dv C4 e/\Jh a i 0/\Aa W0 wr
def CR(W0:Z)(m a i:Nat)(x V:Int)(e:List Int)(d:Ob)(wr:Z):Prop:=
 ∃(k:Nat)(c:List Int),d=U Oa k/\k<=a/\c.length=m+a/\Db 3 wr W0.heap.size (O (M ⟨W0.heap.size,0,I⟩) (m+a) (m+a)) c/\dv C4 c=V+C4 ^ i*(x*dv C4 (e.take k))/\Jh c i k/\Aa W0 wr
def ul w va vb na nb(ha:yd w va na)(hb:yd w vb nb)(aQ:Lm kc na)(aR:Lm kc nb):Calls Tryz.prog 80 #[va,vb] w (Ih w (na*nb)):=by
 obtain⟨s,a,m,c,rfl,hs⟩:=ha.j;obtain⟨s',a',t,c',rfl,am⟩:=hb.j;obtain⟨xs,hl,hi,hc,hv⟩:=ha.open;obtain⟨ys,al,aP,ar,an⟩:=hb.open;have hm:=Jl aQ hc hv;have av:=Jl aR ar an;rw[hl]at hm;rw[al]at av;unfold kc at hm av;obtain⟨σ,hσ⟩:=gX (s*s');have aF:=EF na nb;rw[<-hs,<-am,hσ]at aF;have σ0:-1<=σ:=oM;have σ1:σ<=1:=oM;have aG:σ=(na*nb).sign:=by rw[<-hσ,hs,am,PK]
 have ak:=ka aG;have Hl:=ka hl;have ab:=ka al;have Hv:=ka hv;have ap:=ka an;clear hs am hl al hv an aG aF;obtain⟨W0,f⟩:=gX (((w.alloc (Oc #[U Oa s,O a m c] 66)).alloc (Oc #[U Oa s',O a' t c'] 66)).alloc (Oc #[U Oa 0,O I 0 0] 66));have z0:w.heap.size+1+1+1=W0.heap.size:=by rw[<-f];simp
 have z1:w.heap.size<W0.heap.size:=oM;have z2:w.heap.size+1<W0.heap.size:=oM;have z3:w.heap.size+1+1<W0.heap.size:=oM;have p0:W0.cell? ⟨w.heap.size,0,I⟩=M (U Oa s):=by rw[<-f];clear f;go_simp
 have p1:W0.cell? ⟨w.heap.size,1,I⟩=M (O a m c):=by rw[<-f];clear f;go_simp
 have q0:W0.cell? ⟨w.heap.size+1,0,I⟩=M (U Oa s'):=by rw[<-f];clear f;go_simp
 have q1:W0.cell? ⟨w.heap.size+1,1,I⟩=M (O a' t c'):=by rw[<-f];clear f;go_simp
 have j:Ta (W0.heap[w.heap.size+1+1]?=M (Oc #[U Oa 0,O I 0 0] 66 (0,0))):=by rw[<-f];exact ka (Bc _ _ _ sM)
 have ah:Ta (Aa w W0):=by rw[<-f];exact ka eA
 go_in;go_wp2_with(at_make;refine kv (n:=m+t) To Tryz.underlying64 rfl _ _ rfl _ rfl rfl sM oM ?_;(try rw[f]);intro w1 q aa aS;(try simp only[z0]at q))
 try simp only[z0]
 have r:Db 3 w1 W0.heap.size (O (M ⟨W0.heap.size,0,I⟩) (m+t) (m+t)) (List.replicate (m+t) 0):=q;clear f q z0;go_loopw [6] (BR W0 m t xs ys) (fun t6 _=>m-(intOf t6).toNat)
 case atStart =>
  exact⟨0,_,rfl,by omega,by simp,r,by rw[io];simp,Jh.start _,aa⟩
 case round =>
  clear r aa aS;obtain⟨i,os,rfl,a4,ay,g,R,l,d⟩:=hrel;have ao:=ka ay;have ai:=ka R;have e0:=d.d p0;have e1:=d.d p1;have e2:=d.d q0;have e3:=d.d q1;clear ay R;by_cases a6:i<m
  ·obtain⟨b,o,rfl,aX,aa⟩:=(hi.ext ah.o).open (by rw[Hl.o];omega);obtain⟨x,ac⟩:∃x,xs[i]?=M x:=⟨_,gE (by rw[Hl.o];omega)⟩;have aK:=aa i x ac;have aC:=hc.1 x (lM ac);have aI:=ka ac;have aH:=ka aC;have g0:(0:Int)<=(i:Int):=oM;have g1:(i:Int)<(m:Int):=oM;clear aa ac aC;go_wp2;obtain⟨wo,rfl⟩:∃wo:Z,wo=wr:=⟨_,rfl⟩;go_loopw [7] (CR W0 m t i x (dv C4 os) ys) (fun t7 _=>t-(intOf t7).toNat)
   case atStart=>exact⟨0,os,rfl,by omega,ao.o,g,by simp,l,d⟩
   case round =>
    clear g l d e0 e1 e2 e3;obtain⟨k,us,rfl,a5,aA,g,R,l,d⟩:=hrel;have aj:=ka aA;have af:=ka R;have e0:=d.d p0;have e1:=d.d p1;have e2:=d.d q0;have e3:=d.d q1;have aY:=d.d aK;clear aA R;by_cases au:k<t
    ·obtain⟨b',o',rfl,aT,ag⟩:=(aP.ext ah.o).open (by rw[ab.o];omega);obtain⟨y,ad⟩:∃y,ys[k]?=M y:=⟨ys[k]'(by rw[ab.o];omega),by simp[ab.o,au]⟩;obtain⟨z,ae⟩:∃z,us[i+k]?=M z:=⟨_,gE (by rw[aj.o];omega)⟩;have aZ:=d.d (ag k y ad);have a0:=g.cell ae;have a2:=g.frozen (i+k);have aD:=ar.1 y (lM ad);obtain⟨aU,aV,aE⟩:=l _ z ae;have aW:=aE (nE _);obtain⟨aw,ax⟩:=By aH.o aD;obtain⟨u,hu⟩:=gX (x*y);rw[hu]at aw ax;have aJ:=ka ad;have aq:=ka ae;have k0:(0:Int)<=(k:Int):=oM;have k1:(k:Int)<(t:Int):=oM;have k2:(0:Int)<=(i:Int)+(k:Int):=oM;have k3:(i:Int)+(k:Int)<(m:Int)+(t:Int):=oM;have k4:IntKind.i64.wrap ((i:Int)+(k:Int))=(i:Int)+(k:Int):=iW _ oM;have k5:((i:Int)+(k:Int)).toNat=i+k:=oM;clear ag ad ae aD;go_wp2;refine Mh (fun i=>decide (22<i)) (Ea [(⟨W0.heap.size,i+k,I⟩,U Oa z),(⟨w.heap.size,1,I⟩,O (M ⟨b,o,I⟩) m c),(⟨b,o+i,I⟩,U Oa x),(⟨w.heap.size+1,1,I⟩,O (M ⟨b',o',I⟩) t c'),(⟨b',o'+k,I⟩,U Oa y)]) kM ?_ (fun aL=>?_)
     ·exact cA
     refine sN 0 ?_
     (iterate 23 refine Wh ?_);refine oN ?_;refine Kc (i:=23) fun K hK=>?_;go_simp;refine kO hK (fun h=>nomatch h) (fun aL=>?_);clear hK K;refine Lb kM ?_ _;go_wp2;go_roundw
     case rel =>
      exact⟨k+1,us.set (i+k) (z+u),by go_num,by omega,by simp[aj.o],(g.stored _ _).drew,by rw[<-hu];exact Nv aq.o aJ.o af.o,l.step aq.o aw ax,(d.set (p:=⟨W0.heap.size,i+k,I⟩) (nE _) _).drew⟩
     case measure=>simp[intOf];omega
    ·obtain rfl:k=t:=oM;go_wp2;go_roundw
     case rel=>exact⟨i+1,us,by go_num,by omega,aj.o,g,nK ab.o aI.o af.o ai.o,l.next,d⟩
     case measure=>simp[intOf];omega
  ·obtain rfl:i=m:=oM;have hD:dv C4 os=(na.natAbs:Int)*(nb.natAbs:Int):=by
    rw[ai.o,lT (by rw[Hl.o];omega),Hv.o,ap.o]
   have aM:0<=dv C4 os:=by rw[hD];exact Int.mul_nonneg oM oM
   have hN:na*nb=σ*dv C4 os:=by
    rw[hD,ak.o,<-Int.natCast_mul,<-Int.natAbs_mul];exact(Int.sign_mul_natAbs _).symm
   have HN:=ka hN;have r0:=Ba (d.e j.o) (i:=0) (u:=U Oa 0) rfl;have r1:=Ba (d.e j.o) (i:=1) (u:=O I 0 0) rfl;have a7:=Ya (d.e j.o) 0;have a8:=Ya (d.e j.o) 1;have zr:=Jb (d.e j.o);have XW:Aa w wr:=ah.o.trans d;clear hD hN;go_wp2_with(go_at_call 152;(with_reducible refine(Lo _ σ _ os (na*nb) g.ints (by rw[ao.o];omega) (l.big oM) aM HN.o (fun h9=>?_)).mono ?_);(rw[ak.o];refine XB (fun h8=>h9 ?_);have h7:=HN.o;rw[h8]at h7;rcases Int.mul_eq_zero.1 h7.symm with h6|h6;(rw[ak.o,h8]at h6;exact absurd h8 (fun _=>h9 (by have h5:=ai.o;rw[lT (by rw[Hl.o];omega),Hv.o,ap.o,<-Int.natCast_mul,<-Int.natAbs_mul,h8]at h5;simpa using h5)));exact h6);rintro e w3 ⟨r3,rfl,az,aB⟩;obtain⟨s3,a3,m3,c3,rfl,-⟩:=az.j;obtain⟨aO,a1⟩:=aB.cells);exact bR (v:=Oe #[U Oa s3,O a3 m3 c3]) (by simp[results,Tryz.results80,go_sem,aO,zr,r0,r1]) rfl ⟨_,rfl,az.keep (uy (aB.e (d.e j.o)) _ _),eA⟩
def tI{os xs:List Int}{i k x}(c:os[i]?=M 0)(a:xs[i]?=M x)(h:dv C4 os=k*dv C4 (xs.take i)):dv C4 (os.set i (x*k))=k*dv C4 (xs.take (i+1)):=by rw[Up _ c,Uk C4 xs i x a,h];grind
def MQ(W0:Z)(m:Nat)(k:Int)(xs:List Int)(c:Ob)(wr:Z):Prop:=
 ∃(i:Nat)(a:List Int),c=U Oa i/\i<=m/\a.length=m/\Db 3 wr W0.heap.size (O (M ⟨W0.heap.size,0,I⟩) m m) a/\dv C4 a=k*dv C4 (xs.take i)/\ml a i/\(∀x∈a,0<=x/\x<=100000000)/\Aa W0 wr
def Wt w va R k(ha:yd w va R)(aq:Lm kc R)(h0:0<=k)(h1:k<=10000):Calls Tryz.prog 192 #[va,U Oa k] w (Ih w (R*k)):=by
 obtain⟨s,a,m,c,rfl,hs⟩:=ha.j;obtain⟨xs,hl,hi,hc,hv⟩:=ha.open;have hm:=Jl aq hc hv;rw[hl]at hm;unfold kc at hm;have Hs:=ka hs;have Hl:=ka hl;have Hv:=ka hv;clear hs hl hv;obtain⟨W0,g⟩:=gX ((w.alloc (Oc #[U Oa s,O a m c] 66)).alloc (Oc #[U Oa 0,O I 0 0] 66));have z0:w.heap.size+1+1=W0.heap.size:=by rw[<-g];simp
 have z1:w.heap.size<W0.heap.size:=oM;have z2:w.heap.size+1<W0.heap.size:=oM;have p0:W0.cell? ⟨w.heap.size,0,I⟩=M (U Oa s):=by rw[<-g];clear g;go_simp
 have p1:W0.cell? ⟨w.heap.size,1,I⟩=M (O a m c):=by rw[<-g];clear g;go_simp
 have f:Ta (W0.heap[w.heap.size+1]?=M (Oc #[U Oa 0,O I 0 0] 66 (0,0))):=by rw[<-g];exact ka (Bc _ _ _ sM)
 have aa:Ta (Aa w W0):=by rw[<-g];exact ka eA
 go_in;go_wp2_with(at_make;refine kv (n:=m) To Tryz.underlying64 rfl _ _ rfl _ rfl rfl rfl oM ?_;(try rw[g]);intro w1 j q ar;(try simp only[z0]at j))
 try simp only[z0]
 have p:Db 3 w1 W0.heap.size (O (M ⟨W0.heap.size,0,I⟩) m m) (List.replicate m 0):=j;clear g j z0;go_loopw [6] (MQ W0 m k xs) (fun t6 _=>m-(intOf t6).toNat)
 case atStart =>
  exact⟨0,_,rfl,by omega,by simp,p,by rw[io];simp,ml.replicate _ _,fun x K=>by rw[(List.mem_replicate.1 K).2];omega,q⟩
 case round =>
  clear p q ar;obtain⟨i,os,rfl,az,af,l,ae,ak,ad,d⟩:=hrel;have y:=ka af;have ac:=ka ae;have ab:=ka ad;have e0:=d.d p0;have e1:=d.d p1;clear af ae ad;by_cases aA:i<m
  ·obtain⟨b,o,rfl,au,q⟩:=(hi.ext (aa.o.trans d)).open (by rw[Hl.o];omega);obtain⟨x,t⟩:∃x,xs[i]?=M x:=⟨_,gE (by rw[Hl.o];omega)⟩;obtain⟨z,r⟩:∃z,os[i]?=M z:=⟨_,gE (by rw[y.o];omega)⟩;have av:=q i x t;have ay:=l.frozen i;have aw:=l.cell r;have aj:=ak _ z r (nE _);rw[aj]at r;have ai:=hc.1 x (lM t);unfold C4 at ai;obtain⟨u,hu⟩:=gX (x*k);have u0:0<=u:=by rw[<-hu];exact Int.mul_nonneg ai.1 h0
   have u1:u<=100000000:=by
    have:x*k<=10000*10000:=Int.mul_le_mul oM h1 h0 oM;omega
   have am:=ka t;have an:=ka r;have g0:(0:Int)<=(i:Int):=oM;have g1:(i:Int)<(m:Int):=oM;clear q t r aj;go_wp2;go_roundw
   case rel =>
    refine⟨i+1,os.set i u,by go_num,by omega,by simp[y.o],l.stored _ _,?_,ak.set_next _,fun x K=>?_,d.set (nE _) _⟩
    ·rw[<-hu];exact tI an.o am.o ac.o
    ·rcases List.mem_or_eq_of_mem_set K with K|rfl
     ·exact ab.o x K
     ·exact⟨u0,u1⟩
   case measure=>simp[intOf];omega
  ·obtain rfl:i=m:=oM;have hD:dv C4 os=k*(R.natAbs:Int):=by
    rw[ac.o,lT (by rw[Hl.o];omega),Hv.o]
   have ao:0<=dv C4 os:=by rw[hD];exact Int.mul_nonneg h0 oM
   have hN:R*k=s*dv C4 os:=by
    have h2:=At R;rw[hD,Hs.o,Int.mul_left_comm,h2,Int.mul_comm]
   have HN:=ka hN;have HD:=ka hD;have r0:=Ba (d.e f.o) (i:=0) (u:=U Oa 0) rfl;have r1:=Ba (d.e f.o) (i:=1) (u:=O I 0 0) rfl;have aB:=Ya (d.e f.o) 0;have aC:=Ya (d.e f.o) 1;have zr:=Jb (d.e f.o);have XW:Aa w wr:=aa.o.trans d;have al:Ta (dv C4 os≠0->s=1\/s = -1):=ka (fun h9=>by
    rw[Hs.o];refine XB (fun h8=>h9 ?_);rw[HD.o,h8];simp)
   clear hD hN;go_wp2_with(go_at_call 152;(with_reducible refine(Lo _ s _ os (R*k) l.ints (by rw[y.o];omega) (fun x K=>by have:=ab.o x K;omega) ao HN.o al.o).mono ?_);rintro e w3 ⟨r3,rfl,ag,ah⟩;obtain⟨s3,a3,m3,c3,rfl,-⟩:=ag.j;obtain⟨ap,ax⟩:=ah.cells);exact bR (v:=Oe #[U Oa s3,O a3 m3 c3]) (by simp[results,Tryz.results192,go_sem,ap,zr,r0,r1]) rfl ⟨_,rfl,ag.keep (uy (ah.e (d.e f.o)) _ _),eA⟩
def JQ(w:Z)(s:Int)(a:Option Og)(m c:Nat)(xs:List Int)(t3 t4:Ob)(W:Z):Prop:=
 ∃j:Int,t4=U Oa j/\ -1<=j/\j<m/\t3=U Oa (s*dv C4 (xs.drop (j+1).toNat))/\Aa w W/\W.heap[w.heap.size]?=M (Oc #[U Oa s,O a m c] 66 (0,0))
def jJ{xs:List Int}{k x}(h:xs[k]?=M x):dv C4 (xs.drop k)=x+10000*dv C4 (xs.drop (k+1)):=by have a:=(lS.1 h).1;rw[List.drop_eq_getElem_cons a,oq,(lS.1 h).2];rfl
def FE{xs}(a:Ud C4 xs):∀k,0<=dv C4 (xs.drop k)/\dv C4 (xs.drop k)<=dv C4 xs:=by intro k;have g:=Ql C4 (xs.take k) (xs.drop k);rw[List.take_append_drop]at g;have e:Ud C4 (xs.take k):=fun d h=>a d (List.mem_of_mem_take h);have f:Ud C4 (xs.drop k):=fun d h=>a d (List.mem_of_mem_drop h);have i:=(Uh Uj e).1;have c:=(Uh Uj f).1;have j:=jj Uj (xs.take k).length;have:1*dv C4 (xs.drop k)<=C4 ^ (xs.take k).length*dv C4 (xs.drop k):=Int.mul_le_mul_of_nonneg_right oM c;omega
def WE w va p(ha:yd w va p)(h0:-9223372036854775808<=p)(h1:p<=9223372036854775807):Calls Tryz.prog 141 #[va] w fun e w'=>e=.returned (U Oa p)/\Aa w w':=by
 obtain⟨s,a,m,c,rfl,hs⟩:=ha.j;obtain⟨q,hl,hi,hc,hv⟩:=ha.open;have hm:=hi.le;rw[hl]at hm;unfold maxLen at hm;have l:=At p;rw[<-hs,<-hv]at l;have v:s = -1\/s=0\/s=1:=by rcases Ee p with ⟨e,_⟩|⟨e,_⟩|⟨e,_⟩<;>omega
 have R:=ka hl;have aa:=ka l;have hD:dv C4 q<=9223372036854775808/\(s=1->dv C4 q<=9223372036854775807):=by
  rcases v with h|h|h<;>subst h<;>omega
 have HD:=ka hD;clear hs hl hv l ha hD;go_in;go_wp2;go_loopw [3,4] (JQ w s a m c q) (fun _ t4 _=>(intOf t4+1).toNat)
 case atStart =>
  refine⟨(m:Int)-1,rfl,by omega,by omega,?_,eA,aN _ _⟩;rw[List.drop_of_length_le (by rw[R.o];omega)];simp
 case round =>
  obtain⟨j,rfl,j0,j1,rfl,hx,d⟩:=hrel;have ac:=Ba d (i:=0) (u:=U Oa s) rfl;have ad:=Ba d (i:=1) (u:=O a m c) rfl;have K:=ka d;clear d;by_cases hj:0<=j
  ·obtain⟨k,rfl⟩:=Int.eq_ofNat_of_zero_le hj;have hk:k<m:=oM;obtain⟨b,o,rfl,ae,y⟩:=(hi.ext hx).open (by rw[R.o];omega);obtain⟨x,f⟩:∃x,q[k]?=M x:=⟨_,gE (by rw[R.o];omega)⟩;have af:=y k x f;have ab:=hc.1 x (lM f);unfold C4 at ab;have z:=jJ f;have d2:=FE hc.1 k;have d3:=FE hc.1 (k+1);rw[show ((k:Int)+1).toNat=k+1 by omega];obtain⟨E,hE⟩:=gX (dv C4 (q.drop (k+1)));rw[hE]at z d3 ⊢;rw[z]at d2;obtain⟨r,g⟩:=HD.o;obtain⟨D,t⟩:=gX (dv C4 q);rw[t]at d2 d3 r g;obtain⟨A,hA⟩:=gX (s*E);obtain⟨u,hu⟩:=gX (s*x);have f1:-9223372036854775808<=A*10000/\A*10000<=9223372036854775807/\ -10000<=u/\u<=10000/\ -9223372036854775808<=A*10000+u/\A*10000+u<=9223372036854775807/\A*10000+u=s*(x+10000*E):=by
    rcases v with h|h|h<;>subst h<;>(try have:=g rfl)<;>omega
   obtain⟨f1,f2,f3,f4,f5,f6,f7⟩:=f1;have F7:=ka f7;have D1:=ka z;clear z d2 d3 hE r g t f7 y f;rw[hA];go_wp2;go_quiet (fail);go_wp2;go_roundw
   case rel =>
    refine⟨(k:Int)-1,rfl,by omega,by omega,?_,eA,K.o⟩;rw[show ((k:Int)-1+1).toNat=k by omega,D1.o,F7.o]
   case measure=>simp[intOf]
  ·obtain rfl:j = -1:=oM;have e:s*dv C4 (q.drop ((-1:Int)+1).toNat)=p:=by
    simp only[show ((-1:Int)+1).toNat=0 from rfl,List.drop_zero];exact aa.o
   rw[e];clear e;go_wp2;go_ret;exact⟨rfl,eA⟩
end
section
open Go.RowKit Go.Shelf Go.Sort Go.Lib
def Cq(s:Sp)(x:Int):Bool:=decide (s.lo<x)&&decide (x<s.hi)
def Wf(s:Sp)(ps:LP):List Int:=(ps.map (·.1)).filter (Cq s)
def Eb(s:Sp):List Int:=compact (Vf (s.lo::s.hi::Wf s (s.over++s.under)))
def Pa(s:Sp):List Rat:=(Eb s).map fun z:Int=>(z:Rat)
def Rf(s:Sp):Prop:=Wb s.over/\Wb s.under/\Bd 104000 s.lo/\Bd 104000 s.hi
def Mm{ps a}(h:Wb ps)(k:Wb a):Rf (Ac ps a):=by have c:=pF h;have d:=pF k;refine⟨h,k,?_,?_⟩<;>(unfold Ac;unfold Bd at *;dsimp only;omega)
def OE{s}(h:Rf s):∀z∈Eb s,Bd 104000 z:=by
 intro z g;have:=Gx g;rw[Fh]at this;obtain⟨c,d,e,f⟩:=h;rcases List.mem_cons.1 this with rfl|this
 ·exact e
 rcases List.mem_cons.1 this with rfl|this
 ·exact f
 obtain⟨p,a,rfl⟩:=List.mem_map.1 (List.mem_filter.1 this).1;rcases List.mem_append.1 a with a|a
 ·exact(c.2.1 p a).1
 ·exact(d.2.1 p a).1
def tC s ps:(Wf s ps).length<=ps.length:=by unfold Wf;exact nT (List.length_filter_le _ _) sM
def ZA{s}{ps:LP}{i p}(h:ps[i]?=M p):Wf s (ps.take (i+1))=Wf s (ps.take i)++(if Cq s p.1 then [p.1]else []):=by
 unfold Wf;rw[Uf _ _ _ h,List.map_append,List.filter_append]
 congr 1
 simp[List.filter_cons]
def QQ(W0:Z)(base:Nat)(s:Sp)(a:Ob)(g:Nat)(t3 t21:Ob)(W:Z):Prop:=
 ∃i:Nat,i<=(s.over++s.under).length/\t21=U Oa i/\g=(s.over++s.under).length-i/\Aa W0 W/\base<=W.heap.size/\Fa W a (s.over++s.under)/\Ka 3 1 W base t3 ((s.lo::s.hi::Wf s ((s.over++s.under).take i)).map ic)
def PQ(W0:Z)(base:Nat)(zs:List Int)(v46:Ob)(g:Nat)(c a:Ob)(W:Z):Prop:=
 ∃i:Nat,i<=zs.length/\a=U Oa i/\g=zs.length-i/\Aa W0 W/\base<=W.heap.size/\Ka 3 1 W base v46 (zs.map ic)/\Jd W base c ((zs.take i).map fun z:Int=>(z:Rat))
def MH(W:Z) x T:∀ j  u,[ic x].flatten[j]?=M u->(W.alloc (Oc #[U Oa x] T)).cell? ((⟨W.heap.size,0,I⟩:Og).add j)=M u:=by
 intro j u a
 match j,a with
 | 0,a=>simp[ic]at a;subst a;simp[Addr.add]
 | j+1,a=>simp[ic]at a
def nI x:∀u∈[ic x].flatten,u.oneCell'=true:=tG (zs:=[x])
def MI(W:Z) base x y(h:base<=W.heap.size):Ka 3 1 (W.alloc (Oc #[U Oa x,U Oa y] 3)) base (O (M ⟨W.heap.size,0,I⟩) 2 2) ([x,y].map ic):=
 ⟨Fv,by simp[ic],.inr ⟨W.heap.size,2,_,rfl,h,aN _ _,by simp,by unfold maxLen;omega,by simp,by simp[ic]⟩⟩
def uq W{b}(o:b=W.heap.size){e f ps j}(k:Fa W e ps)(l:Fa W f j):Sl 121 1 (gj 121) (W.alloc (Oc #[e,f] 121)) (O (M ⟨b,0,I⟩) 2 2) [ps,j]:=by
 subst o;refine⟨[[e],[f]],rfl,by simp,⟨by simp,M ⟨W.heap.size,0,I⟩,2,rfl,nE _,by unfold maxLen;omega,.inr ⟨W.heap.size,0,#[e,f],(0,0),rfl,aN _ _,?_⟩⟩,?_⟩
 ·intro i x a;simpa using a
 ·intro i c x d a;have g:Aa W (W.alloc (Oc #[e,f] 121)):=(eR W).alloc _
  match i,d,a with
  | 0,d,a=>simp at d a;subst d a;exact⟨_,rfl,k.f g⟩
  | 1,d,a=>simp at d a;subst d a;exact⟨_,rfl,l.f g⟩
  | i+2,d,a=>simp at d
def Uz(W:Z) x y z T:∀ j  u,[[x,y,z]].flatten[j]?=M u->(W.alloc (Oc #[x,y,z] T)).cell? ((⟨W.heap.size,0,I⟩:Og).add j)=M u:=by
 intro j u a
 match j,a with
 | 0,a=>simp at a;subst a;simp[Addr.add]
 | 1,a=>simp at a;subst a;simp[Addr.add]
 | 2,a=>simp at a;subst a;simp[Addr.add]
 | j+3,a=>simp at a
def Jd.app{g wr base l f cs d q}(h:Ka 63 3 g base l (cs++[d]))(j:cs.length=f.length)(k:∀(i:Nat) c q,cs[i]?=M c->f[i]?=M q->PR wr c q)(r:Ia 2 wr g)(o:Sa g (Oe d.toArray) q):Jd g base l (f++[q]):=by
 refine⟨cs++[d],h,by simp[j],fun i c x a e=>?_⟩;by_cases p:i<cs.length
 ·rw[List.getElem?_append_left p]at a;rw[List.getElem?_append_left oM]at e;exact Sa.keep (k i c x a e) r
 ·rw[List.getElem?_append_right oM]at a e;have s:=(lS.1 a).1;simp at s;have:i-cs.length=0:=oM;rw[this]at a;rw[show i-f.length=0 by omega]at e;simp at a e;subst a e;exact o
def NE w v1 v2 s(h1:Fa w v1 s.over)(h2:Fa w v2 s.under)(ar:Rf s):Calls Tryz.prog 105 #[ni s v1 v2] w (Lk w (Pa s)):=by
 obtain⟨a1,m1,rfl⟩:=h1.form;obtain⟨a2,m2,rfl⟩:=h2.form;obtain⟨R,hR⟩:=gX (Lk w (Pa s));rw[hR];have HR:=ka hR;have bl:=ka ar;clear hR;unfold ni;obtain⟨n1,f1⟩:=gX s.over.length;obtain⟨n2,f2⟩:=gX s.under.length;obtain⟨lo,aB⟩:=gX s.lo;obtain⟨hi,aA⟩:=gX s.hi;rw[f1]at h1 ⊢;rw[f2]at h2 ⊢;rw[aB,aA];have aM:=ka aB;have aL:=ka aA;have hn:(s.over++s.under).length=n1+n2:=by simp[f1,f2]
 have Hn:=ka hn;have q1:n1<=64:=by rw[<-f1];exact ar.1.2.2
 have q2:n2<=64:=by rw[<-f2];exact ar.2.1.2.2
 have H1:=ka (fun(W:Z)(hW:Aa w W)=>h1.f hW);have H2:=ka (fun(W:Z)(hW:Aa w W)=>h2.f hW);clear ar f1 f2 aB aA hn h1 h2;go_in;obtain⟨W0,ao⟩:=gX ((w.alloc (Oc #[O a1 n1 m1,O a2 n2 m2,U Oa lo,U Oa hi] 138)));have hB:W0.heap[w.heap.size]?=M (Oc #[O a1 n1 m1,O a2 n2 m2,U Oa lo,U Oa hi] 138 (0,0)):=by rw[<-ao];exact aN _ _
 have bq:Aa w W0:=by rw[<-ao];exact(eR _).alloc _
 have aD:W0.heap.size=w.heap.size+1:=by rw[<-ao];simp
 have b0:=Ba hB (i:=0) (u:=O a1 n1 m1) rfl;have b1:=Ba hB (i:=1) (u:=O a2 n2 m2) rfl;have b2:=Ba hB (i:=2) (u:=U Oa lo) rfl;have b3:=Ba hB (i:=3) (u:=U Oa hi) rfl;have HP:=ka bq;have ac:=ka aD;go_wp2_with(go_at_call 104;(with_reducible refine(nF _ _ [s.over,s.under] (uq _ ?_ (H1.o _ ?_) (H2.o _ ?_)) ?_).mono ?_);(simp only[wZ];have:=ac.o;omega);(exact HP.o.alloc _);(exact HP.o.alloc _);(have:=Hn.o;simp only[Gj,List.flatten_cons,List.flatten_nil,List.append_nil];omega);rintro e w3 ⟨v3,rfl,q,av⟩;obtain⟨a3,n3,c3,rfl⟩:=q.i;obtain⟨br,bs⟩:=av.cells);rw[show [s.over,s.under].flatten=s.over++s.under by simp]at q;have bc:=q.pts;have aZ:=q.len;rw[lL,Hn.o]at aZ;subst aZ;have aE:Aa W0 w3:=(((eR W0).alloc _).alloc _).trans av;have bi:=aE.size;have ab:=(((MI W0 W0.heap.size lo hi (nE _)).ext ((eR _).alloc (Oc #[O a1 n1 m1,O a2 n2 m2] 121))).ext av);rw[aD]at ab;clear br bs av ao b0 b1 b2 b3;go_loopg [3,21] (n1+n2) (QQ W0 (w.heap.size+1) s (O a3 (n1+n2) c3))
 case atStart =>
  refine⟨0,by omega,rfl,by rw[Hn.o];rfl,aE,by rw[<-aD];exact bi,bc,?_⟩;rw[aM.o,aL.o,List.take_zero,show Wf s []=[]from rfl];exact ab
 case round =>
  clear ab bc q aE bi;obtain⟨i,bt,rfl,rfl,hx,aq,au,a⟩:=hrel;rw[Hn.o]at bt;obtain⟨bn,bj,aS,rfl⟩:=a.i;have a0:=tC s ((s.over++s.under).take i);have a4:((s.over++s.under).take i).length<=i:=by simp;omega
  have ae:((s.lo::s.hi::Wf s ((s.over++s.under).take i)).map ic).length<=200:=by simp;omega
  have b0:=hx.d (Ba hB (i:=0) (u:=O a1 n1 m1) rfl);have b1:=hx.d (Ba hB (i:=1) (u:=O a2 n2 m2) rfl);have b2:=hx.d (Ba hB (i:=2) (u:=U Oa lo) rfl);have b3:=hx.d (Ba hB (i:=3) (u:=U Oa hi) rfl);have f:=ka a;have Hx:=ka hx;have am:=ka au;have ak:=ka ae;have Hb:=ka hB;have bD:=hx.size;have bC:w.heap.size<wr.heap.size:=by have:=ac.o;omega
  by_cases af:i<n1+n2
  ·obtain⟨⟨x,z⟩,aJ⟩:∃p,(s.over++s.under)[i]?=M p:=⟨(s.over++s.under)[i]'(by rw[Hn.o];exact af),by simp[Hn.o,af]⟩;obtain⟨b,o,rfl,hb,c0,c1⟩:=au.at' aJ;have bb:=ZA (s:=s) aJ;have al:=ka bb;have aY:Cq s x=(decide (lo<x)&&decide (x<hi)):=by unfold Cq;rw[aM.o,aL.o]
   have aj:=ka aY;clear bb aJ au a hx a0 a4 aY hB;by_cases hc:lo<x/\x<hi
   ·obtain⟨g1,g2⟩:=hc;obtain⟨n3,bA⟩:=gX bj;(have hE:Wf s ((s.over++s.under).take (i+1))=Wf s ((s.over++s.under).take i)++[x]:=by rw[al.o];dsimp only;rw[aj.o];simp[g1,g2]);have HE:=ka hE;clear hE al aj;go_wp2_with(at_builtin;refine Ah (T:=3) (t:=64) (z:=U Oa 0) (k:=1) (bytes:=8) (base:=w.heap.size+1) (v:=O bn bj aS) (m:=1) (c:=1) (ad:=⟨wr.heap.size+1,0,I⟩) lI rfl dM dM Tryz.underlying64 rfl _ _ rfl rfl (f.o.ext eA) rfl [ic x] rfl (by simp[ic]) (by simpa using MH (wr.alloc (Oc #[U Oa x,U Oa z] 43)) x 3) (nI x) (by have:=ak.o;omega) (by simp only[wZ];omega) ?_;intro v' w5 r l ba;obtain⟨a5,n5,c5,rfl⟩:=r.i);go_roundg (n1+n2-(i+1))
    case measure=>have:=Hn.o;rw[lA]at this;omega
    case rel =>
     have y:Aa wr ((wr.alloc (Oc #[U Oa x,U Oa z] 43)).alloc (Oc #[U Oa x] 3)):=((eR wr).alloc _).alloc _;have aa:=f.o.ext y;have ag:=Bh (base:=w.heap.size+1) l (by simp only[wZ];omega) (fun k hk=>(aa.lt k hk).1);refine⟨i+1,by rw[Hn.o];omega,by go_num,by rw[Hn.o],(Hx.o.trans y).y ag (by rw[ac.o];exact nE _),nT aq (nT y.size ag.size),(am.o.f y).z (aa.keepT dM l),?_⟩;rw[HE.o];simpa using r
   ·have hE:Wf s ((s.over++s.under).take (i+1))=Wf s ((s.over++s.under).take i):=by
     rw[al.o];dsimp only;rw[aj.o,if_neg (by simp;omega),List.append_nil]
    have HE:=ka hE;clear hE al aj;by_cases g1:lo<x
    ·have g2:¬x<hi:=fun h=>hc ⟨g1,h⟩;go_wp2;go_roundg (n1+n2-(i+1))
     case measure=>have:=Hn.o;rw[lA]at this;omega
     case rel =>
      have y:Aa wr (wr.alloc (Oc #[U Oa x,U Oa z] 43)):=((eR wr).alloc _);refine⟨i+1,by rw[Hn.o];omega,by go_num,by rw[Hn.o],Hx.o.trans y,nT aq y.size,am.o.f y,?_⟩;rw[HE.o];exact f.o.ext y
    ·go_wp2;go_roundg (n1+n2-(i+1))
     case measure=>have:=Hn.o;rw[lA]at this;omega
     case rel =>
      have y:Aa wr (wr.alloc (Oc #[U Oa x,U Oa z] 43)):=((eR wr).alloc _);refine⟨i+1,by rw[Hn.o];omega,by go_num,by rw[Hn.o],Hx.o.trans y,nT aq y.size,am.o.f y,?_⟩;rw[HE.o];exact f.o.ext y
  ·obtain rfl:i=n1+n2:=oM;have hE:(s.over++s.under).take (n1+n2)=s.over++s.under:=lT (by rw[Hn.o];exact nE _);rw[hE]at a f ae ak;obtain⟨g,rfl,aV,bz⟩:=a.blk sM;have aK:(s.lo::s.hi::Wf s (s.over++s.under)).length<=200:=by rw[lL]at ae;exact ae
   have an:=ka aK;obtain⟨L1,aC⟩:=gX ((s.lo::s.hi::Wf s (s.over++s.under)));rw[aC]at a f ae ak aK an;have aO:=ka aC;clear hE aC a a0 a4 ae au hx hB;go_wp2_with(first|(go_at_call 172;(with_reducible refine(GM _ _ _ _ _ _ f.o ?_).mono ?_);(have:=an.o;omega);rintro e w5 ⟨rfl,r,aW⟩)|(go_at_call 173;(with_reducible refine(yD _ _ _ _ _ _ r ?_).mono ?_);(have:=an.o;rw[Rr];omega);rintro e w6 ⟨rfl,K,aX⟩));have ap:=Bh (base:=w.heap.size+1) aW oM (fun k hk=>by cases hk;exact aV);have aF:=Bh (base:=w.heap.size+1) aX (nT aq ap.size) (fun k hk=>by cases hk;exact aV);have aT:Aa W0 w6:=(Hx.o.y ap (by rw[ac.o];exact nE _)).y aF (by rw[ac.o];exact nE _);have bf:w.heap.size+1<=w6.heap.size:=by have:=ap.size;have:=aF.size;omega
   obtain⟨zs,aw⟩:=gX (compact (Vf L1));have bv:zs.length<=200:=by rw[<-aw];have:=Nn (Vf L1);rw[Rr]at this;omega
   have ai:Eb s=zs:=by unfold Eb;rw[aO.o,aw]
   have aP:=ka (OE bl.o);rw[ai]at aP;have aR:=ka ai;rw[aw]at K ⊢;obtain⟨m,hm⟩:=gX zs.length;rw[hm]at K bv ⊢;have Hm:=ka hm;clear hm aw ai r aW aX ap aF f aO aK an ak am b0 b1 b2 b3 Hb af;go_loopg [6,48] m (PQ W0 (w.heap.size+1) zs (O (M ⟨g,0,I⟩) m aS))
   case atStart=>exact⟨0,by omega,rfl,by rw[Hm.o];rfl,aT,bf,K,by simpa using Jd.nil _ _⟩
   case round =>
    clear K aT bf;obtain⟨i,bu,rfl,rfl,hx,bx,a,hR⟩:=hrel;rw[Hm.o]at bu;obtain⟨cs,aI,aH,aU⟩:=hR;obtain⟨bo,bw,bp,rfl⟩:=aI.i;have az:=ka aI;have ay:=ka aU;have ax:=ka aH;have f:=ka a;have aQ:=ka hx;have zg:=(a.lt g rfl).2;by_cases af:i<m
    ·obtain⟨z,hz⟩:∃z,zs[i]?=M z:=⟨zs[i]'(by rw[Hm.o];exact af),by simp[Hm.o,af]⟩;have c0:=a.cell (i:=i) (j:=0) (d:=ic z) (u:=U Oa z) (by rw[lP,hz];rfl) rfl;simp only[Nat.mul_one,Nat.add_zero]at c0;have aG:=aP.o z (lM hz);(have a6:cs.length<=200:=by rw[aH];simp;omega);have bk:=ka a6;have HC:=ka (fun W=>Tn W z (by unfold Bd at aG;omega) (by unfold Bd at aG;omega));(have bg:(zs.take (i+1)).map (fun z:Int=>(z:Rat))=(zs.take i).map (fun z:Int=>(z:Rat))++[(z:Rat)]:=by rw[Uf _ _ _ hz,List.map_append];rfl);have bm:=ka bg;clear bg hz aI aU aH a hx aG a6;go_wp2_with(first|(go_at_call 85;refine cM (HC.o _) ?_;rintro e w7 ⟨r7,rfl,be,bh⟩;obtain⟨a7,m7,c7,s7,a8,m8,c8,rfl⟩:=be.form)|(at_builtin;refine Ah (T:=63) (t:=177) (z:=Oe #[O I 0 0,Od false,O I 0 0]) (k:=3) (bytes:=56) (base:=w.heap.size+1) (v:=O bo bw bp) (m:=1) (c:=1) (ad:=⟨w7.heap.size,0,I⟩) MM rfl dM dM Tryz.underlying177 rfl _ _ rfl rfl (az.o.ext eA) rfl [[O a7 m7 c7,Od s7,O a8 m8 c8]] rfl sM (Uz _ _ _ _ _) (by simp[Value.oneCell']) (by have:=bk.o;omega) (by have:=bh.size;simp only[wZ,jc]at *;omega) ?_;intro v' w8 ah l ba;obtain⟨a9,n9,c9,rfl⟩:=ah.i));go_roundg (m-(i+1))
     case measure=>have:=Hm.o;omega
     case rel =>
      have y:Aa wr (w7.alloc (Oc #[O a7 m7 c7,Od s7,O a8 m8 c8] 63)):=(((eR wr).trans bh).alloc _);have aa:=az.o.ext y;have bB:=y.size;have ag:=Bh (base:=w.heap.size+1) l oM (fun k hk=>(aa.lt k hk).1);refine⟨i+1,by rw[Hm.o];omega,by go_num,by rw[Hm.o],(aQ.o.trans y).y ag (by rw[ac.o];exact nE _),by have:=ag.size;omega,(f.o.ext y).keep (aa.keepT dM l),?_⟩;rw[bm.o];exact Jd.app ah ax.o ay.o (y.keep.trans (aa.keepT dM l)) (be.keep (((eR w7).alloc _).keep.trans (aa.keepT dM l)))
    ·obtain rfl:i=m:=oM;have hE:zs.take i=zs:=lT (by rw[Hm.o];exact nE _);rw[hE]at ay ax;clear hE;go_wp2;rw[<-HR.o];refine⟨_,rfl,?_,HP.o.trans aQ.o⟩;unfold Pa;rw[aR.o];exact Jd.mono ⟨cs,az.o,ax.o,ay.o⟩ oM
end
section
open Go.RowKit Go.Shelf
def Xe{W:Z}{p v}(h:W.cell? p=M v):W.setCell p v=W:=by
 obtain⟨heap,f,d,l,a⟩:=W;unfold World.cell? at h;unfold World.setCell;simp only[World.mk.injEq,and_true];apply Array.ext_getElem?;intro i;rw[Array.getElem?_modify];by_cases e:p.block=i
 ·subst e;rw[if_pos rfl];dsimp only at h;cases hb:heap[p.block]? with
  | none=>rfl
  | some o =>
   rw[hb]at h;cases o with
   | cells c T k =>
    dsimp only at h;split at h
    ·cases h
    ·rename_i hs;have g:c.setIfInBounds p.off v=c:=by
      apply Array.ext_getElem?;intro j;rw[Array.getElem?_setIfInBounds];split
      ·rename_i hj;subst hj;rw[h];simp[(Array.getElem?_eq_some_iff.1 h).1]
      ·rfl
     simp[hs,g]
   | _=>cases h
 ·rw[if_neg e]
def jh(W:Z)(b:Nat):Nat->List Ob->Z
 | _,[]=>W
 | i,v::vs=>jh (W.setCell ⟨b,i,I⟩ v) b (i+1) vs
def zn(cs:Array Ob):Nat->List Ob->Array Ob
 | _,[]=>cs
 | i,v::vs=>zn (cs.setIfInBounds i v) (i+1) vs
def uL{b T d}:∀ a  i {W c},W.heap[b]?=M (Oc c T d)->(jh W b i a).heap[b]?=M (Oc (zn c i a) T d)
 | [],_,_,_,h=>h
 | _::a,i,_,_,h=>uL a (i+1) (Td h i _)
def oD:∀ e d a ,d.length=e.length->zn (a++d).toArray a.length e=(a++e).toArray
 | [],d,a,h=>by rw[List.eq_nil_of_length_eq_zero h];rfl
 | v::e,[],_,h=>by cases h
 | v::e,c::d,a,h=>by
  have f:=oD e d (a++[v]) (by simpa using h);unfold zn;rw[show (a++c::d).toArray.setIfInBounds a.length v=(a++[v]++d).toArray by simp];rw[lA,List.length_singleton]at f;rw[f];simp
def vy{W b}{cs:List Ob}{T c} a(h:W.heap[b]?=M (Oc cs.toArray T c))(d:cs.length=a.length):(jh W b 0 a).heap[b]?=M (Oc a.toArray T c):=by rw[uL a 0 h];have:=oD a cs [] d;rw[List.nil_append,List.nil_append]at this;rw[List.length_nil]at this;rw[this]
def Nl{b k}(c:k≠b):∀ a  i  W ,(jh W b i a).heap[k]?=W.heap[k]?
 | [],_,_=>rfl
 | _::a,i,W=>(Nl c a (i+1) _).trans (bS _ _ _ _ c)
def Ej{T b}:∀ a  i {W},td T W b->Ia T W (jh W b i a)
 | [],_,_,_=>Ia.refl _ _
 | _::a,i,_,h=>(Ia.x (p:=⟨b,i,I⟩) (Ia.refl _ _) h _).trans (Ej a (i+1) (h.set _ _))
def No{w b}(c:w.heap.size<=b):∀ a  i {W},Aa w W->Aa w (jh W b i a)
 | [],_,_,h=>h
 | _::a,i,_,h=>No c a (i+1) (Aa.set (p:=⟨b,i,I⟩) h c _)
def Zx{W b c l k p o}{cs ds:List Ob} a d(r:W.heap[b]?=M (Oc cs.toArray l p))(z:W.heap[c]?=M (Oc ds.toArray k o))(i:c≠b)(w:cs.length=a.length)(y:ds.length=d.length):(jh (jh W b 0 a) c 0 d).heap[b]?=M (Oc a.toArray l p)/\(jh (jh W b 0 a) c 0 d).heap[c]?=M (Oc d.toArray k o)/\(∀j,j≠b->j≠c->(jh (jh W b 0 a) c 0 d).heap[j]?=W.heap[j]?)/\(∀T,T≠l->T≠k->Ia T W (jh (jh W b 0 a) c 0 d))/\∀v,Aa v W->v.heap.size<=b->v.heap.size<=c->Aa v (jh (jh W b 0 a) c 0 d):=by
 have t:=vy a r w;have q:(jh W b 0 a).heap[c]?=M (Oc ds.toArray k o):=(Nl i a 0 W).trans z;refine⟨(Nl (fun e=>i e.symm) d 0 _).trans t,vy d q y,fun j f g=>(Nl g d 0 _).trans (Nl f a 0 W),fun T f g=>(Ej a 0 ?_).trans (Ej d 0 ?_),fun v f g u=>No u d 0 (No g a 0 f)⟩
 ·intro x s h;rw[r]at h;cases h;exact f rfl
 ·intro x s h;rw[q]at h;cases h;exact g rfl
abbrev Kq:List Ob:=[.string ⟨#[]⟩,O I 0 0,U Oa 0,U Oa 0,U Oa 0,U Oa 0,U Oa 0,U Oa 0,U Oa 0,U .u8 0]
abbrev jz:Array Ob:=#[.string ⟨#[]⟩,O I 0 0,U Oa 0,U Oa 0,U Oa 0,U Oa 0,U Oa 0,U Oa 0,U Oa 0,U .u8 0]
end
section
open Go.RowKit Go.Shelf
attribute [local go_sem] Oper.semAt_some
def Jf(n:Nat):List UInt8:=[n/1000000,n/100000,n/10000,n/1000,n/100,n/10,n].map fun d=>UInt8.ofNat (48+d%10)
def Wa:Nat->Nat->List (List UInt8)
 | 0,_=>[]
 | k+1,n=>if n=0 then []else Wa k (n/10000000)++[Jf (n%10000000)]
def Se(n:Nat):List UInt8:=if Lib.trimLeftB (Wa (n+1) n).flatten 48=[]then [48]else Lib.trimLeftB (Wa (n+1) n).flatten 48
def qM n:(Jf n).length=7:=rfl
def yB n:(Jf n).map (fun b=>Value.int .u8 (b.toNat:Int))=[n/1000000,n/100000,n/10000,n/1000,n/100,n/10,n].map fun d=>Value.int .u8 ((48+d%10:Nat):Int):=by unfold Jf;rw[List.map_map];refine List.map_congr_left fun d _=>?_;have:(UInt8.ofNat (48+d%10)).toNat=48+d%10:=UInt8.toNat_ofNat_of_lt' (by simp[UInt8.size];omega);simp only[Function.comp_apply,this]
def il(n:Nat):Nat->List Int
 | 0=>[0,0,0,0,0,0,0]
 | i+1=>(il n i).set (6-i) ((48+n/10 ^ i%10:Nat):Int)
def nj(n i:Nat):Array Ob:=((il n i).map (Value.int .u8)).toArray
def PC n:∀i,(il n i).length=7
 | 0=>rfl
 | i+1=>by rw[il,List.length_set,PC n i]
def pM n:nj n 7=((Jf n).map fun b=>Value.int .u8 (b.toNat:Int)).toArray:=by rw[yB];simp[nj,il]
def nM n{i}(a:i<7):(nj n i).setIfInBounds (6-i) (U .u8 ((48+n/10 ^ i%10:Nat):Int))=nj n (i+1):=by unfold nj;rw[List.setIfInBounds_toArray,il,List.map_set]
def SP{k n}(h:n<k)(a:n≠0):∃k',k=k'+1/\n/10000000<k'/\Wa k n=Wa k' (n/10000000)++[Jf (n%10000000)]:=by obtain⟨k',rfl⟩:∃k',k=k'+1:=⟨k-1,by omega⟩;exact⟨k',rfl,by omega,by rw[Wa,if_neg a]⟩
def Xp k:Wa k 0=[]:=by cases k<;>simp[Wa]
def sc(s:List UInt8):List Ob:=[.string ⟨s.toArray⟩]
def Zb:Nat:=100000
def Iy(w:Z)(n0:Nat)(g:Nat)(t3:Ob)(W:Z):Prop:=
 ∃(n k:Nat)(d:List (List UInt8))(a:Option Og)(m c:Nat),g=n/\n<k/\Wa (n0+1) n0=Wa k n++d/\d.length<=2*Zb/\n*2 ^ (23*d.length)<=n0/\(∀s∈d,s.length=7)/\Aa w W/\
  W.heap[w.heap.size]?=M (Oc #[O a m c] 59 (0,0))/\Gd W (Oe #[O a m c]) n/\Ka 9 1 W w.heap.size t3 (d.map sc)/\w.heap.size<W.heap.size
def OQ(W0:Z)(n:Nat)(b:Nat)(g:Nat)(a t25:Ob)(W:Z):Prop:=
 ∃i:Nat,i<=7/\g=7-i/\t25=U Oa i/\a=U .u64 ((n/10 ^ i:Nat):Int)/\Aa W0 W/\W.heap[b]?=M (Oc (nj n i) 5 (0,0))
def Iy.step{n0 n k:Nat}{ps}(p:Lm Zb n0)(d:n≠0)(o:n<k)(l:Wa (n0+1) n0=Wa k n++ps)(f:n*2 ^ (23*ps.length)<=n0):∃k',n/10000000<k'/\Wa (n0+1) n0=Wa k' (n/10000000)++(Jf (n%10000000)::ps)/\(Jf (n%10000000)::ps).length<=2*Zb/\n/10000000*2 ^ (23*(Jf (n%10000000)::ps).length)<=n0:=by
 obtain⟨k',rfl,g,i⟩:=SP o d;refine⟨k',g,by rw[l,i,List.append_assoc];rfl,?_,?_⟩
 ·have a:(n0:Int)<B ^ Zb:=p.2;have e:(B:Int) ^ Zb=((2 ^ (24*Zb):Nat):Int):=by
   rw[Nat.pow_mul];unfold B;rw[Int.natCast_pow];rfl
  rw[e]at a;have c:n0<2 ^ (24*Zb):=by exact_mod_cast a
  have j:2 ^ (23*ps.length)<=n0:=nT (Nat.le_mul_of_pos_left _ (Nat.pos_of_ne_zero d)) f;have q:23*ps.length<24*Zb:=(Nat.pow_lt_pow_iff_right (by decide:1<2)).1 (Nat.lt_of_le_of_lt j c);rw[List.length_cons];unfold Zb at *;omega
 ·rw[List.length_cons,Nat.mul_add,Nat.pow_add];have:n/10000000*8388608<=n:=oM;have e:n/10000000*(2 ^ (23*ps.length)*2 ^ (23*1))=(n/10000000*8388608)*2 ^ (23*ps.length):=by
   rw[show (2:Nat) ^ (23*1)=8388608 from rfl,Nat.mul_comm (2 ^ (23*ps.length)),Nat.mul_assoc]
  exact nT (Nat.le_of_eq e) (nT (Nat.mul_le_mul_right _ this) f)
def IH(W:Z){x}(a:0<x)(c:x<B):Gd (W.alloc (Oc #[U Oa x] 2)) (Oe #[O (M ⟨W.heap.size,0,I⟩) 1 1]) x:=by
 refine⟨_,[x],rfl,⟨rfl,_,1,rfl,nE _,by unfold maxLen;omega,.inr ⟨W.heap.size,0,_,(0,0),rfl,aN _ _,?_⟩⟩,⟨?_,?_⟩,by simp⟩
 ·intro i v hv
  match i,hv with
  | 0,hv=>simpa[Jc] using hv
  | i+1,hv=>simp[Jc]at hv
 ·intro d e;rw[List.mem_singleton.1 e];exact⟨Int.le_of_lt a,c⟩
 ·simp;omega
def EA{P T t k bytes z w base v sl cs ops o a K Q E}(e:(P.info? T).map (fun i=>(i.zero,i.size,i.bytes))=M (M z,k,bytes))(r:z.cells.size=k)(hk:0<k)(p:bytes<=1000)(ht:P.underlying t=M (.slice T))(q:o.guard=I) s x(ho:o.op = .call { callee:=.builtin .append,args:=#[s,x],argTypes:=#[t,t] })(hs:a.eval s=v)(g:Ka T k w base v cs)(hx:a.eval x=sl)
   ds(hd:∀c∈ds,c.length=k)(l:Rd w T k sl ds.length ds.flatten)(y:∀u∈ds.flatten,u.oneCell'=true)(f:cs.length+ds.length<=100000000000)(d:base<=w.heap.size)
  (h:∀v' w',Ka T k w' base v' (cs++ds)->w.grownBy w' v.ownBlock->(v'.ownBlock=v.ownBlock\/v'.ownBlock=M w.heap.size)->K (a.put o.dst v') w') :
  if Region.wanted o (yielded ops a.tmps)=true then Oper.wp P o a w K Q else E:=by
 have hw:Region.wanted o (yielded ops a.tmps)=true:=by simp[Region.wanted,q]
 rw[if_pos hw];obtain⟨v',w',j,R,h3,h4⟩:=Dt (P:=P) o.type e r hk p ht g hd l y f d;unfold Oper.wp;simp[execOp,ho,resolve,invoke,builtin,hs,hx,j,Result.andThen];exact h v' w' R h3 h4
def xQ W:(Instr.makeSlice 308 (U Oa 7) (U Oa 7)).run Tryz.prog W = .ok (O (M ⟨W.heap.size,0,I⟩) 7 7) (W.alloc (Oc #[U .u8 0,U .u8 0,U .u8 0,U .u8 0,U .u8 0,U .u8 0,U .u8 0] 5)):=by kernel_rfl
def Es{W b q a}(h:W.heap[b]?=M (Oc (nj q 7) 5 a)):(convert 308 9 (O (M ⟨b,0,I⟩) 7 7)).run Tryz.prog W = .ok (.string ⟨(Jf q).toArray⟩) W:=by
 refine run_convert_bytes_back W 308 9 5 ⟨b,0,I⟩ 7 (Jf q) Tryz.underlying308 Tryz.underlying5 Tryz.underlying9 fun j c=>?_;have e:((⟨b,0,I⟩:Og).add j)=⟨b,j,I⟩:=by unfold Addr.add;split<;>simp_all
 rw[e];rw[pM]at h;refine Ba h ?_;rw[List.getElem?_toArray,lP,gE c];rfl
def XG{w:Z}{base} s(a:base<=w.heap.size):Ka 9 1 (w.alloc (Oc #[.string ⟨s.toArray⟩] 9)) base (O (M ⟨w.heap.size,0,I⟩) 1 1) [sc s]:=
 ⟨fun c d=>by rw[List.mem_singleton.1 d];rfl,⟨by simp[sc],.inr ⟨w.heap.size,1,#[.string ⟨s.toArray⟩],rfl,a,aN w _,by simp,by simp[maxLen],by simp,by simp[sc]⟩⟩⟩
def EH{ps:List (List UInt8)}:∀u∈(ps.map sc).flatten,u.oneCell'=true:=by intro u a;obtain⟨d,c,a⟩:=List.mem_flatten.1 a;obtain⟨p,_,rfl⟩:=List.mem_map.1 c;rw[List.mem_singleton.1 a];rfl
def PG{ps:List (List UInt8)}:∀c∈ps.map sc,c.length=1:=by intro c a;obtain⟨p,_,rfl⟩:=List.mem_map.1 a;rfl
def jK:(Tryz.prog.info? 9).map (fun i=>(i.zero,i.size,i.bytes))=M (M (.string ⟨#[]⟩),1,16):=kM
def Kt:∀xs,Lib.join xs []=xs.flatten
 | []=>rfl
 | [x]=>by simp[Lib.join]
 | x::y::r=>by
  have:=Kt (y::r);simp only[Lib.join,List.flatten_cons]at this ⊢;simpa using this
def Zl:∀{a:List (List UInt8)},(∀s∈a,s.length=7)->a.flatten.length=7*a.length
 | [],_=>rfl
 | s::a,h=>by
  rw[List.flatten_cons,lA,Zl (fun x c=>h x (mC _ c)),h s (by simp),List.length_cons];omega
def Bv:∀ps:List (List UInt8),(ps.map sc).flatten=ps.map fun s=>Value.string ⟨s.toArray⟩
 | []=>rfl
 | s::ps=>by
  rw[List.map_cons,List.flatten_cons,Bv ps,List.map_cons];rfl
def XJ w v base(ps:List (List UInt8))(h:Ka 9 1 w base v (ps.map sc))(q:ps.length<=2*Zb)(y:∀s∈ps,s.length=7):Calls Tryz.prog 250 #[v,.string ⟨#[]⟩] w fun e t=>e=.returned (.string ⟨ps.flatten.toArray⟩)/\Aa w t:=by
 obtain⟨a,n,c,rfl⟩:=h.i;have r:=h.len;rw[lL]at r;subst r;by_cases l:ps=[]
 ·subst l;refine(Tryz.strings_Join_none a c ⟨#[]⟩ w).mono ?_;rintro e t ⟨rfl,rfl⟩;exact⟨rfl,eR _⟩
 ·have i:=h.rd;rw[lL]at i;obtain⟨u,o,rfl,z,_,K⟩:=i.open (List.length_pos_iff.2 l);have d:=i.le;have g:(ps.map fun s:List UInt8=>(⟨s.toArray⟩:ByteArray)).length=ps.length:=lL ..;have k:((ps.map fun s:List UInt8=>(⟨s.toArray⟩:ByteArray)).map (·.data.toList))=ps:=by
   rw[List.map_map]
   conv=>rhs;rw[<-List.map_id ps]
   exact List.map_congr_left fun s _=>by simp
  have R:=Zl y;have p:=Tryz.strings_Join u o c (ps.map fun s:List UInt8=>(⟨s.toArray⟩:ByteArray)) ⟨#[]⟩ w (fun j x f=>by
   rw[lP]at f;cases hp:ps[j]? with
   | none=>rw[hp]at f;cases f
   | some s =>
    rw[hp]at f;cases f;refine K j _ ?_;rw[Bv,lP,hp];rfl) z (by rw[g];unfold Zb at q;omega) (by rw[g];exact d.1) (by rw[k,Kt,R];unfold Zb at q;omega)
  rw[g,k,Kt]at p;exact p
def FA{P T t w base v sl xs l ops o a K Q E}(d:(P.info? T).map (fun i=>(i.zero,i.size,i.bytes))=M (M (U Oa 0),1,8))(y:P.underlying t=M (.slice T))(k:o.guard=I) s x(r:o.op = .call { callee:=.builtin .append,args:=#[s,x],argTypes:=#[t,t] })(u:a.eval s=v)(f:Db T w base v xs)
  (R:a.eval x=sl)(j:Tc T w sl l)(e:xs.length+l.length<=1000000000000)(c:base<=w.heap.size)
  (h:∀v' w',Db T w' base v' (xs++l)->Below base w w'->K (a.put o.dst v') w') :
  if Region.wanted o (yielded ops a.tmps)=true then Oper.wp P o a w K Q else E:=by
 have z:Region.wanted o (yielded ops a.tmps)=true:=by simp[Region.wanted,k]
 rw[if_pos z];obtain⟨v',w',g,p,q,h3⟩:=Ow (P:=P) o.type d y f j e c;unfold Oper.wp;simp[execOp,r,resolve,invoke,builtin,u,R,g,Result.andThen];exact h v' w' p q
def NI(w:Z) T x:Db T (w.alloc (Oc #[U Oa x] T)) w.heap.size (O (M ⟨w.heap.size,0,I⟩) 1 1) [x]:=
 ⟨by simp,.inr ⟨w.heap.size,1,_,by simp,nE _,aN w _,by simp,by unfold maxLen;omega,by simp,by simp[Jc]⟩⟩
def Kf.open{w base s n a m c}(h:Kf w base (Oe #[U Oa s,O a m c]) n):∃ds,ds.length=m/\Db 3 w base (O a m c) ds/\xg C4 ds/\dv C4 ds=(n.natAbs:Int):=by obtain⟨sl,ds,e,d,f,g⟩:=h;cases e;exact⟨ds,d.len.symm,d,f,g⟩
def OB(W:Z)(base b:Nat)(n:Int):Prop:=∃s a m c,W.heap[b]?=M (Oc #[U Oa s,O a m c] 66 (0,0))/\Kf W base (Oe #[U Oa s,O a m c]) n
section
variable {W W':Z} {b base:Nat} {n n':Int}
def OB.nb(h:OB W base b n):NB W b n:=by obtain⟨s,a,m,c,d,e⟩:=h;exact⟨s,a,m,c,d,e.isN⟩
def OB.ext(h:OB W base b n)(k:Aa W W'):OB W' base b n:=by obtain⟨s,a,m,c,d,e⟩:=h;exact⟨s,a,m,c,k.e d,e.ext k⟩
def OB.put{s a m c}(h:NB W b n)(f:Kf W base (Oe #[U Oa s,O a m c]) n'):OB ((W.setCell ⟨b,0,I⟩ (U Oa s)).setCell ⟨b,1,I⟩ (O a m c)) base b n':=by have d:=h.not;obtain⟨l,g,k,i,e,j⟩:=h;exact⟨s,a,m,c,Xj e _ _,f.keep (((Ia.refl _ W).x d _).x (d.set _ _) _)⟩
def OB.setRow{g i}(h:OB W base b n)(r:g≠b)(t:g<base) u:OB (W.setCell ⟨g,i,I⟩ u) base b n:=by obtain⟨s,a,m,c,o,q⟩:=h;refine⟨s,a,m,c,(bS _ _ _ _ (fun e=>r e.symm)).trans o,?_⟩;obtain⟨sl,f,j,d,k,l⟩:=q;cases j;exact⟨_,f,rfl,d.setOther (p:=⟨g,i,I⟩) (fun e=>by have:=(World.ownsRow.lt d g e).1;omega) _,k,l⟩
end
structure YQ (W0:Z) (m:Nat) (xs:List Int) (D:Int) (g7 g8:Nat) (z8:Array Ob) (j:Int) (qs:List Int) (R:Int) (W:Z):Prop where
 j0:-1<=j
 j1:j<m
 ql:qs.length=m
 row:Db 3 W W0.heap.size (O (M ⟨W0.heap.size,0,I⟩) m m) qs
 qd:Ud C4 qs
 rest:OB W (W0.heap.size+1) g7 R
 size:W.heap[g8]?=M (Oc z8 66 (0,0))
 val:dv C4 (xs.drop (j+1).toNat)=dv C4 (qs.drop (j+1).toNat)*D+R
 r0:0<=R
 r1:R<D
 ext:Aa W0 W
def ZQ(W0:Z)(m:Nat)(xs:List Int)(D:Int)(a c:Nat)(d:Array Ob)(t9:Ob)(W:Z):Prop:=
 ∃j qs R,t9=U Oa j/\YQ W0 m xs D a c d j qs R W
def iR(d:Z)(D R:Int)(a c:Ob)(W:Z):Prop:=
 ∃lo hi:Int,a=U Oa lo/\c=U Oa hi/\0<=lo/\lo<hi/\hi<=10000/\D*lo<=R/\R<D*hi/\Aa d W
def OF(W0:Z)(c d:Nat)(e:Array Ob)(N R:Int)(a:Ob)(W:Z):Prop:=
 ∃g13,a=Oh (M ⟨g13,0,I⟩)/\c<g13/\d<g13/\NB W g13 N/\NB W c R/\W.heap[d]?=M (Oc e 66 (0,0))/\Aa W0 W
def Bz{k D x}(h:Lm k D)(c:0<=D)(d:0<=x)(a:x<=D*10000):Lm (k+1) x:=by
 have e:B ^ (k+1)=B ^ k*16777216:=by rw[Int.pow_succ];rfl
 have p:=jj Pn k;unfold Lm at *;rw[e];omega
def SG{Q D R n:Int}(h:n=Q*D+R)(c:0<D)(d:0<=R)(a:0<=Q):Q<=n:=by have:Q*1<=Q*D:=Int.mul_le_mul_of_nonneg_left oM a;omega
end
section
open Go.RowKit Go.Shelf Go.Sort Go.Lib
def Rb.gap{s x}(a:Rb 1 x)(h:Rf s):Rb 23 (Tb s x):=by unfold Tb;exact Rb.sub (k:=11) (a.atR h.1) (a.atR h.2.1)
def Ji{k q}(h:Rb k q)(a:k<=1000000):Rb Vb q:=h.mono a
def jA w s d e f x(g:Fa w d s.over)(i:Fa w e s.under)(a:Rf s)(j:Sa w f x)(c:Rb 1 x):Calls Tryz.prog 133 #[ni s d e,f] w (Nd w (Tb s x)):=
 XI w s d e f x g i a.1 a.2.1 j (c.mono oM) (Ji (c.atR a.1) oM) (Ji (c.atR a.2.1) oM)
def Wj{s}(h:Rf s):∀q∈Pa s,Rb 1 q:=by intro q a;obtain⟨z,c,rfl⟩:=List.mem_map.1 a;exact Ml (OE h z c)
def Ab(f:Rat->Rat)(o:Rat×Rat)(x:Rat):Rat×Rat:=if yb (f x) o.2<0 then (x,f x)else o
def xb(f:Rat->Rat):List Rat->Rat×Rat
 | []=>(0,0)
 | x::xs=>xs.foldl (Ab f) (x,f x)
def Yx f xs x(h:xs≠[]):xb f (xs++[x])=Ab f (xb f xs) x:=by
 cases xs with
 | nil=>exact absurd rfl h
 | cons y a=>simp[xb]
def Ak f{xs}(h:xs≠[]):(xb f xs).1∈xs/\(xb f xs).2=f (xb f xs).1:=by
 cases xs with
 | nil=>exact absurd rfl h
 | cons x xs =>
  have:∀(c:List Rat)(a:Rat×Rat),a.2=f a.1->(c.foldl (Ab f) a).2=f (c.foldl (Ab f) a).1/\((c.foldl (Ab f) a).1=a.1\/(c.foldl (Ab f) a).1∈c):=by
   intro c;induction c with
   | nil=>intro a h;exact⟨h,.inl rfl⟩
   | cons y c k =>
    intro a i;rw[List.foldl_cons];have j:(Ab f a y).2=f (Ab f a y).1:=by unfold Ab;split<;>first|rfl|exact i
    obtain⟨d,g⟩:=k _ j;refine⟨d,?_⟩;rcases g with e|e
    ·rw[e];unfold Ab;split
     ·exact .inr sM
     ·exact .inl rfl
    ·exact .inr (mC _ e)
  obtain⟨d,g⟩:=this xs (x,f x) rfl;refine⟨?_,d⟩;rcases g with e|e
  ·show (xs.foldl (Ab f) (x,f x)).1∈_;rw[e];simp
  ·exact mC _ e
def Di(w:Z)(p q:Rat)(e:Ending)(w':Z):Prop:=∃r s,e=.returned (.tuple #[r,s])/\Sa w' r p/\Sa w' s q/\Aa w w'
def Ea.set3d{L}{W:Z}{b}(h:Ea L W.drew)(a:∀q∈L,b≠q.1.block) u v t:Ea L (((W.setCell ⟨b,0,I⟩ u).setCell ⟨b,1,I⟩ v).setCell ⟨b,2,I⟩ t).drew:=
 Ea.set3 h a u v t
def RB.put3{W W' d p x a i m c j c2 s}(h:RB W d x)(v:Sa W (Oe #[O a m c,Od s,O i j c2]) p)(f:((W.setCell ⟨d,0,I⟩ (O a m c)).setCell ⟨d,1,I⟩ (Od s)).setCell ⟨d,2,I⟩ (O i j c2)=W'):RB W' d p/\(∀b r,b≠d->RB W b r->RB W' b r)/\Ia 2 W W'/\W'.heap.size=W.heap.size/\(∀w,Aa w W->w.heap.size<=d->Aa w W'):=by
 have e:=h.not;have u:=h.put v;rw[f]at u;refine⟨u,fun b r l k=>?_,?_,?_,fun w k o=>?_⟩
 ·have q:=k.other (p:=⟨d,0,I⟩) (Ne.symm l) e (O a m c);have t:=q.other (p:=⟨d,1,I⟩) (Ne.symm l) (e.set _ _) (Od s);have g:=t.other (p:=⟨d,2,I⟩) (Ne.symm l) ((e.set _ _).set _ _) (O i j c2);rw[f]at g;exact g
 ·have q:=(Ia.refl 2 W).x (p:=⟨d,0,I⟩) e (O a m c);have t:=q.x (p:=⟨d,1,I⟩) (e.set _ _) (Od s);have g:=t.x (p:=⟨d,2,I⟩) ((e.set _ _).set _ _) (O i j c2);rw[f]at g;exact g
 ·rw[<-f];simp
 ·rw[<-f];exact((k.set o _).set o _).set o _
def RB.copy2{W K g d f p q p' q' a i e e2 m c m2 c2 n k n2 k2 s t}(h1:RB W d p')(h2:RB W f q')(j:d≠f)(y:Sa W (Oe #[O a m c,Od s,O i m2 c2]) p)(z:Sa W (Oe #[O e n k,Od t,O e2 n2 k2]) q)(l:((W.setCell ⟨d,0,I⟩ (O a m c)).setCell ⟨d,1,I⟩ (Od s)).setCell ⟨d,2,I⟩ (O i m2 c2)=K)(o:((K.setCell ⟨f,0,I⟩ (O e n k)).setCell ⟨f,1,I⟩ (Od t)).setCell ⟨f,2,I⟩ (O e2 n2 k2)=g):RB g d p/\RB g f q/\(∀b r,b≠d->b≠f->RB W b r->RB g b r)/\Ia 2 W g/\g.heap.size=W.heap.size/\(∀w,Aa w W->w.heap.size<=d->w.heap.size<=f->Aa w g):=by obtain⟨a1,i,R,a4,a5⟩:=h1.put3 y l;obtain⟨b1,b2,b3,b4,b5⟩:=(i _ _ (Ne.symm j) h2).put3 (z.keep R) o;exact⟨b2 _ _ j a1,b1,fun b r hb u h=>b2 _ _ u (i _ _ hb h),R.trans b3,b4.trans a4,fun w k v x=>b5 w (a5 w k v) x⟩
def WF(w:Z)(f:Rat->Rat)(a:List Rat)(g:Nat)(c:Ob)(W:Z):Prop:=
 ∃i:Nat,i<=a.length/\c=U Oa i/\g=a.length-i/\Aa w W/\RB W w.heap.size 0/\RB W (w.heap.size+1) 0/\RB W (w.heap.size+1+1) (xb f (a.take i)).1/\RB W (w.heap.size+1+1+1) (xb f (a.take i)).2
def NL w v v1 v2 s qs(hs:Sf w v qs)(h1:Fa w v1 s.over)(h2:Fa w v2 s.under)(ap:Rf s)(hq:∀q∈qs,Rb 1 q):Calls Tryz.prog 113 #[v,.func (.func 133) #[ni s v1 v2] #[]] w (Di w (xb (Tb s) qs).1 (xb (Tb s) qs).2):=by
 obtain⟨a,c,rfl⟩:=hs.form;obtain⟨n,hn⟩:=gX qs.length;rw[hn]at hs ⊢;have aP:=hs.le;unfold maxLen at aP;have Hn:=ka hn;have Hq:=ka hq;have aA:=ka ap;have aX:n<=9223372036854775807:=oM;have HG:=ka (fun(W:Z)(hW:Aa w W)(vx:Ob)(x:Rat)(hx:Sa W vx x)(hb:Rb 1 x)=>jA W s v1 v2 vx x (h1.f hW) (h2.f hW) ap hx hb);obtain⟨sv,aQ⟩:=gX (ni s v1 v2);rw[aQ]at HG ⊢;obtain⟨R,hR⟩:=gX (Di w (xb (Tb s) qs).1 (xb (Tb s) qs).2);rw[hR];have HR:=ka hR;clear hn hq aP aQ ap hR;go_in;go_wp2;go_loopg [13] n (WF w (Tb s) qs)
 case atStart =>
  have z:∀W,Sa W (Oe #[O I 0 0,Od false,O I 0 0]) 0:=fun W=>Sa.zero _;exact⟨0,by omega,rfl,by rw[Hn.o];rfl,eA,(RB.new (z w) rfl).ext ((((eR _).alloc _).alloc _).alloc _),(RB.new (z _) sM).ext (((eR _).alloc _).alloc _),(RB.new (z _) sM).ext ((eR _).alloc _),RB.new (z _) sM⟩
 case round =>
  obtain⟨i,hi,rfl,rfl,hx,hA,hB,hC,hD⟩:=hrel;rw[Hn.o]at hi;have Hx:=ka hx;have HA:=ka hA;have HB:=ka hB;have HC:=ka hC;have HD:=ka hD;by_cases aU:i<n
  ·obtain⟨x,an⟩:∃x,qs[i]?=M x:=⟨qs[i]'(by rw[Hn.o];omega),by simp[Hn.o,aU]⟩;obtain⟨b,o,a3,m3,c3,s3,a4,m4,c4,rfl,aW,ag,e0,e1,e2⟩:=(hs.f hx).at' an;have aB:=ka an;have aL:=Hq.o x (lM an);have ak:=ka aL;clear an hA hB hC hx aL;obtain⟨d1,dm,dc,ds,d2,aJ,aF,aC,aD,aE,aG,aH,aI,zD,ao⟩:=hD.rd;by_cases h0:i=0
   ·(have aS:((i:Int)==0)=true:=by simp;omega);have H0:=ka h0;clear h0 hD;go_wp2_with(((go_at_call 133;refine cM (HG.o _ ?_ (Oe #[O a3 m3 c3,Od s3,O a4 m4 c4]) x ?_ ak.o) ?_;(refine Aa.trans Hx.o ?_;exact eA);(refine ag.ext ?_;exact eA);rintro e w1 ⟨r1,rfl,ab,f⟩;obtain⟨b1,n1,k1,t1,b2,n2,k2,rfl⟩:=ab.form;obtain⟨al,am⟩:=f.cells;(have z1:wr.heap.size<w1.heap.size:=(by have:=f.size;simp only[wZ]at this;omega)))));obtain⟨W8,ai⟩:=gX ((w1.alloc (Oc #[O b1 n1 k1,Od t1,O b2 n2 k2] 63)));(have d:Aa wr W8:=by rw[<-ai];exact(((eR _).alloc _).trans f).alloc _);(have g1:RB W8 wr.heap.size x:=by rw[<-ai];exact((RB.new ag rfl).ext f).ext ((eR _).alloc _));(have g2:RB W8 w1.heap.size (Tb s x):=by rw[<-ai];exact RB.new ab rfl);have g3:=HC.o.ext d;have g4:=HD.o.ext d;have zW:=d.size;obtain⟨s1,aj⟩:=gX w1.heap.size;rw[ai];simp only[aj]at *;clear ai al am ab f ao aC aD aE aG aH aI aj e0 e1 e2 ag;obtain⟨pa,pm,l,ps,j,r,p,p0,p1,p2,_,_,_,pz,hp⟩:=(g1).rd;obtain⟨qa,qm,qc,aa,t,y,u,q0,q1,q2,_,_,_,qz,ah⟩:=(g2).rd;obtain⟨_,_,_,_,_,_,_,x0,x1,x2,aq,ar,au,xz,_⟩:=(g3).rd;obtain⟨_,_,_,_,_,_,_,y0,y1,y2,av,aw,ax,yz,_⟩:=(g4).rd;refine Uc [(⟨wr.heap.size,0,I⟩,O pa pm l),(⟨wr.heap.size,1,I⟩,Od ps),(⟨wr.heap.size,2,I⟩,O j r p),(⟨s1,0,I⟩,O qa qm qc),(⟨s1,1,I⟩,Od aa),(⟨s1,2,I⟩,O t y u)] cA fun g=>?_;refine sN 0 ?_
    (iterate 2 refine Bb ?_);refine oN ?_;have ac:∀q∈[((⟨wr.heap.size,0,I⟩:Og),Value.slice pa pm l),(⟨wr.heap.size,1,I⟩,Od ps),(⟨wr.heap.size,2,I⟩,O j r p),(⟨s1,0,I⟩,O qa qm qc),(⟨s1,1,I⟩,Od aa),(⟨s1,2,I⟩,O t y u)],w.heap.size+1+1≠q.1.block:=by
     simp<;>omega
    have ad:∀q∈[((⟨wr.heap.size,0,I⟩:Og),Value.slice pa pm l),(⟨wr.heap.size,1,I⟩,Od ps),(⟨wr.heap.size,2,I⟩,O j r p),(⟨s1,0,I⟩,O qa qm qc),(⟨s1,1,I⟩,Od aa),(⟨s1,2,I⟩,O t y u)],w.heap.size+1+1+1≠q.1.block:=by
     simp<;>omega
    refine Vc (i:=2) fun K hK=>?_;go_simp;refine kO hK (Ea.set3d g ac _ _ _) (fun g=>?_);clear hK K;refine Vc (i:=3) fun K hK=>?_;go_simp;refine kO hK (Ea.set3d g ad _ _ _) (fun g=>?_);clear hK K;refine Sb ?_;have e:xb (Tb s) (qs.take (i+1))=(x,Tb s x):=by
     have:=H0.o;subst this;rw[Uf _ _ _ aB.o];simp[xb]
    have E:=ka e;have af:=ka d;have P:=ka (RB.copy2 g3 g4 oM hp ah rfl rfl);clear e d g1 g2 g3 g4;go_wp2;go_roundg (n-(i+1))
    case measure=>have:=Hn.o;omega
    case rel =>
     obtain⟨P1,P2,P3,P4,P5,P6⟩:=P.o;have D:=fun W=>(eR W).drew;exact⟨i+1,by rw[Hn.o];omega,by go_num,by rw[Hn.o],(P6 w (Hx.o.trans af.o) oM oM).drew,
      (P3 _ _ oM oM (HA.o.ext af.o)).ext (D _),(P3 _ _ oM oM (HB.o.ext af.o)).ext (D _),by rw[E.o];exact P1.ext (D _),by rw[E.o];exact P2.ext (D _)⟩
   ·(have aS:((i:Int)==0)=false:=by simp;omega);have H0:=ka h0;clear h0 hD;have aK:Rb 23 (xb (Tb s) (qs.take i)).2:=by
     have aV:qs.take i≠[]:=fun h=>by
      (have h2:(qs.take i).length=0:=by rw[h];rfl);rw[List.length_take,Hn.o]at h2;have:=H0.o;omega
     obtain⟨j1,j2⟩:=Ak (Tb s) aV;rw[j2];exact Rb.gap (Hq.o _ (List.mem_of_mem_take j1)) aA.o
    have aR:=ka aK;clear aK;have e:xb (Tb s) (qs.take (i+1))=Ab (Tb s) (xb (Tb s) (qs.take i)) x:=by
     rw[Uf _ _ _ aB.o,Yx];intro h;(have h2:(qs.take i).length=0:=by rw[h];rfl);rw[List.length_take,Hn.o]at h2;have:=H0.o;omega
    have E:=ka e;clear e;obtain⟨k,hk⟩:=gX (yb (Tb s x) (xb (Tb s) (qs.take i)).2);have Hk:=ka hk;have ay:=ka (Ji (Rb.gap ak.o aA.o) oM);have az:=ka (Ji aR.o oM);clear hk;have aY:w.heap.size+1+1+1<wr.heap.size+1:=oM;by_cases aT:k<0
    ·go_wp2_with(first|(go_at_call 133;refine cM (HG.o _ ?_ (Oe #[O a3 m3 c3,Od s3,O a4 m4 c4]) x ?_ ak.o) ?_;(refine Aa.trans Hx.o ?_;exact eA);(refine ag.ext ?_;exact eA);rintro e w1 ⟨r1,rfl,ab,f⟩;obtain⟨b1,n1,k1,t1,b2,n2,k2,rfl⟩:=ab.form;obtain⟨al,am⟩:=f.cells;(have z1:wr.heap.size<w1.heap.size:=(by have:=f.size;simp only[wZ]at this;omega));(have z2:w.heap.size+1+1+1<w1.heap.size:=oM))|(go_at_call 75;(with_reducible refine(Yj _ (Oe #[O b1 n1 k1,Od t1,O b2 n2 k2]) (Oe #[O d1 dm dc,Od ds,O d2 aJ aF]) _ _ (ab.ext ?_) (ao.ext ?_) ay.o az.o).mono ?_);exact eA;exact eA;rintro e w3 ⟨rfl,ae⟩;(try rw[Hk.o]);obtain⟨aM,aO⟩:=ae.cells));have d:Aa wr w3:=((((eR _).alloc _).trans f).alloc _).trans ae;have g1:RB w3 wr.heap.size x:=(((RB.new ag rfl).ext f).ext ((eR _).alloc _)).ext ae;have g2:RB w3 w1.heap.size (Tb s x):=(RB.new ab rfl).ext ae;have g3:=HC.o.ext d;have g4:=HD.o.ext d;have zW:=d.size;obtain⟨s1,aj⟩:=gX w1.heap.size;simp only[aj]at *;clear al am ab f ae aM aO ao aC aD aE aG aH aI aj e0 e1 e2 ag;obtain⟨pa,pm,l,ps,j,r,p,p0,p1,p2,_,_,_,pz,hp⟩:=(g1).rd;obtain⟨qa,qm,qc,aa,t,y,u,q0,q1,q2,_,_,_,qz,ah⟩:=(g2).rd;obtain⟨_,_,_,_,_,_,_,x0,x1,x2,aq,ar,au,xz,_⟩:=(g3).rd;obtain⟨_,_,_,_,_,_,_,y0,y1,y2,av,aw,ax,yz,_⟩:=(g4).rd;refine Uc [(⟨wr.heap.size,0,I⟩,O pa pm l),(⟨wr.heap.size,1,I⟩,Od ps),(⟨wr.heap.size,2,I⟩,O j r p),(⟨s1,0,I⟩,O qa qm qc),(⟨s1,1,I⟩,Od aa),(⟨s1,2,I⟩,O t y u)] cA fun g=>?_;refine sN 0 ?_
     (iterate 2 refine Bb ?_);refine oN ?_;have ac:∀q∈[((⟨wr.heap.size,0,I⟩:Og),Value.slice pa pm l),(⟨wr.heap.size,1,I⟩,Od ps),(⟨wr.heap.size,2,I⟩,O j r p),(⟨s1,0,I⟩,O qa qm qc),(⟨s1,1,I⟩,Od aa),(⟨s1,2,I⟩,O t y u)],w.heap.size+1+1≠q.1.block:=by
      simp<;>omega
     have ad:∀q∈[((⟨wr.heap.size,0,I⟩:Og),Value.slice pa pm l),(⟨wr.heap.size,1,I⟩,Od ps),(⟨wr.heap.size,2,I⟩,O j r p),(⟨s1,0,I⟩,O qa qm qc),(⟨s1,1,I⟩,Od aa),(⟨s1,2,I⟩,O t y u)],w.heap.size+1+1+1≠q.1.block:=by
      simp<;>omega
     refine Vc (i:=2) fun K hK=>?_;go_simp;refine kO hK (Ea.set3d g ac _ _ _) (fun g=>?_);clear hK K;refine Vc (i:=3) fun K hK=>?_;go_simp;refine kO hK (Ea.set3d g ad _ _ _) (fun g=>?_);clear hK K;refine Sb ?_;(have e:Ab (Tb s) (xb (Tb s) (qs.take i)) x=(x,Tb s x):=by unfold Ab;rw[Hk.o,if_pos aT]);have E':=ka (E.o.trans e);have af:=ka d;have P:=ka (RB.copy2 g3 g4 oM hp ah rfl rfl);clear e d g1 g2 g3 g4;go_wp2;go_roundg (n-(i+1))
     case measure=>have:=Hn.o;omega
     case rel =>
      obtain⟨P1,P2,P3,P4,P5,P6⟩:=P.o;have D:=fun W=>(eR W).drew;exact⟨i+1,by rw[Hn.o];omega,by go_num,by rw[Hn.o],(P6 w (Hx.o.trans af.o) oM oM).drew,
       (P3 _ _ oM oM (HA.o.ext af.o)).ext (D _),(P3 _ _ oM oM (HB.o.ext af.o)).ext (D _),by rw[E'.o];exact P1.ext (D _),by rw[E'.o];exact P2.ext (D _)⟩
    ·go_wp2_with(first|(go_at_call 133;refine cM (HG.o _ ?_ (Oe #[O a3 m3 c3,Od s3,O a4 m4 c4]) x ?_ ak.o) ?_;(refine Aa.trans Hx.o ?_;exact eA);(refine ag.ext ?_;exact eA);rintro e w1 ⟨r1,rfl,ab,f⟩;obtain⟨b1,n1,k1,t1,b2,n2,k2,rfl⟩:=ab.form;obtain⟨al,am⟩:=f.cells;(have z1:wr.heap.size<w1.heap.size:=(by have:=f.size;simp only[wZ]at this;omega));(have z2:w.heap.size+1+1+1<w1.heap.size:=oM))|(go_at_call 75;(with_reducible refine(Yj _ (Oe #[O b1 n1 k1,Od t1,O b2 n2 k2]) (Oe #[O d1 dm dc,Od ds,O d2 aJ aF]) _ _ (ab.ext ?_) (ao.ext ?_) ay.o az.o).mono ?_);exact eA;exact eA;rintro e w3 ⟨rfl,ae⟩;(try rw[Hk.o]);obtain⟨aM,aO⟩:=ae.cells));have d:Aa wr w3:=((((eR _).alloc _).trans f).alloc _).trans ae;(have e:Ab (Tb s) (xb (Tb s) (qs.take i)) x=xb (Tb s) (qs.take i):=by unfold Ab;rw[Hk.o,if_neg oM]);have E':=ka (E.o.trans e);go_roundg (n-(i+1))
     case measure=>have:=Hn.o;omega
     case rel=>exact⟨i+1,by rw[Hn.o];omega,by go_num,by rw[Hn.o],Hx.o.trans d,HA.o.ext d,HB.o.ext d,by rw[E'.o];exact HC.o.ext d,by rw[E'.o];exact HD.o.ext d⟩
  ·obtain rfl:i=n:=oM;have e:qs.take i=qs:=lT (by rw[Hn.o];exact nE _);rw[e]at hC hD HC HD;clear e;have zW:=hx.size;have zD:w.heap.size+1+1+1<wr.heap.size:=by obtain⟨_,_,_,_,_,_,_,_,_,_,_,_,_,z,_⟩:=hD.rd;exact z
   go_wp2;obtain⟨pa,pm,l,ps,j,r,p,p0,p1,p2,_,_,_,pz,hp⟩:=(hC).rd;obtain⟨qa,qm,qc,aa,t,y,u,q0,q1,q2,_,_,_,qz,ah⟩:=(hD).rd;obtain⟨_,_,_,_,_,_,_,x0,x1,x2,aq,ar,au,xz,_⟩:=(hA).rd;obtain⟨_,_,_,_,_,_,_,y0,y1,y2,av,aw,ax,yz,_⟩:=(hB).rd;refine Uc [(⟨w.heap.size+1+1,0,I⟩,O pa pm l),(⟨w.heap.size+1+1,1,I⟩,Od ps),(⟨w.heap.size+1+1,2,I⟩,O j r p),(⟨w.heap.size+1+1+1,0,I⟩,O qa qm qc),(⟨w.heap.size+1+1+1,1,I⟩,Od aa),(⟨w.heap.size+1+1+1,2,I⟩,O t y u)] cA fun g=>?_;refine sN 0 ?_
   iterate 2 refine Bb ?_
   refine oN ?_;have ac:∀q∈[((⟨w.heap.size+1+1,0,I⟩:Og),Value.slice pa pm l),(⟨w.heap.size+1+1,1,I⟩,Od ps),(⟨w.heap.size+1+1,2,I⟩,O j r p),(⟨w.heap.size+1+1+1,0,I⟩,O qa qm qc),(⟨w.heap.size+1+1+1,1,I⟩,Od aa),(⟨w.heap.size+1+1+1,2,I⟩,O t y u)],w.heap.size≠q.1.block:=by
    simp<;>omega
   have ad:∀q∈[((⟨w.heap.size+1+1,0,I⟩:Og),Value.slice pa pm l),(⟨w.heap.size+1+1,1,I⟩,Od ps),(⟨w.heap.size+1+1,2,I⟩,O j r p),(⟨w.heap.size+1+1+1,0,I⟩,O qa qm qc),(⟨w.heap.size+1+1+1,1,I⟩,Od aa),(⟨w.heap.size+1+1+1,2,I⟩,O t y u)],w.heap.size+1≠q.1.block:=by
    simp<;>omega
   refine Vc (i:=2) fun K hK=>?_;go_simp;refine kO hK (Ea.set3d g ac _ _ _) (fun g=>?_);clear hK K;refine Vc (i:=3) fun K hK=>?_;go_simp;refine kO hK (Ea.set3d g ad _ _ _) (fun g=>?_);clear hK K;refine Sb ?_;have P:=ka (RB.copy2 hA hB oM hp ah rfl rfl);go_wp2;refine bR (v:=.tuple #[Oe #[O pa pm l,Od ps,O j r p],Oe #[O qa qm qc,Od aa,O t y u]]) (by simp[results,Tryz.results113,go_sem,x0,x1,x2,aq,ar,au,y0,y1,y2,av,aw,ax]) rfl ?_;rw[<-HR.o];obtain⟨P1,P2,P3,P4,P5,P6⟩:=P.o;exact⟨_,_,rfl,(hp.keep P4).ext (eR _).drew,(ah.keep P4).ext (eR _).drew,(P6 w Hx.o oM oM).drew⟩
end
section
open Go.RowKit Go.Shelf
attribute [local go_sem] Oper.semAt_some
abbrev Qc:Nat:=300000
def rF w va vb na nd(ha:yd w va na)(hb:yd w vb nd)(bn:Lm Qc na)(bV:Lm Qc nd)(hd:nd≠0):Calls Tryz.prog 142 #[va,vb] w fun e w'=>∃r1 r2,e=.returned (.tuple #[r1,r2])/\yd w' r1 (na/nd)/\yd w' r2 (na%nd)/\Aa w w':=by
 obtain⟨s,a,m,c,rfl,hs⟩:=ha.j;obtain⟨s',a',m',c',rfl,bq⟩:=hb.j;obtain⟨xs,hl,hi,hc,hv⟩:=ha.open;have hm:=Jl bn hc hv;rw[hl]at hm;unfold Qc at hm;obtain⟨p,hp⟩:=gX (s'*s');have aJ:=hb.abs;rw[hp]at aJ;obtain⟨D,hD⟩:=gX ((nd.natAbs:Int));rw[hD]at aJ;have bG:0<D:=oM;have cT:0<=p/\p<=1:=by rcases Ee nd with ⟨e,_⟩|⟨e,_⟩|⟨e,_⟩<;>(rw[<-hp,bq,e];decide)
 obtain⟨dH,dI⟩:=cT;have HD:=ka hD;have Hp:=ka hp;have Hs:=ka hs;have bC:=ka bq;have Hl:=ka hl;have Hv:=ka hv;have cq:=ka bn;have aL:Ta (Lm Qc D):=ka (by rw[<-hD];exact bV.abs);have Hd:=ka hd;clear hs bq hl hv hp hD bn bV hd;obtain⟨W0,aa⟩:=gX ((((w.alloc (Oc #[U Oa s,O a m c] 66)).alloc (Oc #[U Oa s',O a' m' c'] 66)).alloc (Oc #[U Oa 0,O I 0 0] 66)).alloc (Oc #[U Oa 0,O I 0 0] 66));have z0:w.heap.size+1+1+1+1=W0.heap.size:=by rw[<-aa];simp
 have z1:w.heap.size<W0.heap.size:=oM;have z2:w.heap.size+1<W0.heap.size:=oM;have z3:w.heap.size+1+1<W0.heap.size:=oM;have z4:w.heap.size+1+1+1<W0.heap.size:=oM;have p0:W0.cell? ⟨w.heap.size,0,I⟩=M (U Oa s):=by rw[<-aa];clear aa;go_simp
 have p1:W0.cell? ⟨w.heap.size,1,I⟩=M (O a m c):=by rw[<-aa];clear aa;go_simp
 have q0:W0.cell? ⟨w.heap.size+1,0,I⟩=M (U Oa s'):=by rw[<-aa];clear aa;go_simp
 have q1:W0.cell? ⟨w.heap.size+1,1,I⟩=M (O a' m' c'):=by rw[<-aa];clear aa;go_simp
 have cB:Ta (W0.heap[w.heap.size+1+1]?=M (Oc #[U Oa 0,O I 0 0] 66 (0,0))):=by rw[<-aa];exact ka (by rw[Below.heap_alloc _ _ _ sM];exact Bc _ _ _ sM)
 have cC:Ta (W0.heap[w.heap.size+1+1+1]?=M (Oc #[U Oa 0,O I 0 0] 66 (0,0))):=by rw[<-aa];exact ka (Bc _ _ _ sM)
 have aH:Ta (Aa w W0):=by rw[<-aa];exact ka eA
 go_in;go_upto_region 3 with (first|(at_make;refine kv (n:=m) To Tryz.underlying64 rfl _ _ rfl _ rfl rfl rfl oM ?_;(try rw[aa]);intro w1 aF ae ca;(try simp only[z0]at aF);(have e0:=ae.d p0);(have e1:=ae.d p1);(have e2:=ae.d q0);(have e3:=ae.d q1))|(go_at_call 190;(with_reducible refine(pA _ s' a' m' c' nd ?_).mono ?_);(refine hb.ext ?_;exact aH.o.trans ae);rw[Hp.o];rintro e w2 ⟨rfl,aC⟩));clear aa;have ao:Aa W0 w2:=ae.trans aC;have zg:W0.heap.size<w2.heap.size:=Nat.lt_of_lt_of_le ca aC.size;have y1:w.heap.size<w2.heap.size:=oM;have y2:w.heap.size+1<w2.heap.size:=oM;replace e0:=aC.d e0;replace e1:=aC.d e1;replace e2:=aC.d e2;replace e3:=aC.d e3;go_wp2;go_loopw [9] (ZQ W0 m xs D w2.heap.size (w2.heap.size+1) #[U Oa p,O a' m' c']) (fun t9 _=>(intOf t9+1).toNat)
 case atStart =>
  have k1:((w2.alloc (Oc #[U Oa 0,O I 0 0] 66)).alloc (Oc #[U Oa p,O a' m' c'] 66)).heap[w2.heap.size]?=M (Oc #[U Oa 0,O I 0 0] 66 (0,0)):=si ..;refine⟨(m:Int)-1,List.replicate m 0,0,rfl,by omega,by omega,by simp,?_,?_,⟨0,I,0,0,k1,Kf.nil _ _⟩,Bc _ _ _ sM,?_,by omega,bG,(ao.alloc _).alloc _⟩
  ·exact((aF.keep aC.keep).alloc _).alloc _
  ·intro d hd;rw[(List.mem_replicate.1 hd).2];unfold C4;omega
  ·rw[List.drop_of_length_le (by rw[Hl.o];omega),List.drop_of_length_le sM];simp
 case round =>
  obtain⟨g,bU⟩:=gX w2.heap.size;rw[bU]at hrel ⊢;have dS:W0.heap.size<g:=oM;clear aF e0 e1 e2 e3 ae aC ao ca y1 y2 zg bU;obtain⟨j,qs,R,rfl,Sq⟩:=hrel;have j0:=Sq.j0;have j1:=Sq.j1;have aj:=Sq.ext;have e0:=aj.d p0;have e1:=aj.d p1;have d0:=Ba Sq.size (i:=0) (u:=U Oa p) rfl;have d1:=Ba Sq.size (i:=1) (u:=O a' m' c') rfl;have zd:=Jb Sq.size;have r:=ka Sq;by_cases hj:0<=j
  ·obtain⟨k,rfl⟩:=Int.eq_ofNat_of_zero_le hj;obtain⟨sr,ar,mr,cr,ad,aE⟩:=Sq.rest;have t0:=Ba ad (i:=0) (u:=U Oa sr) rfl;have t1:=Ba ad (i:=1) (u:=O ar mr cr) rfl;have zt:=Jb ad;have ch:=Ya ad 0;have Pb:=Ya ad 1;obtain⟨rs,rl,ro,rc,rv⟩:=aE.open;have Rl:=ka rl;have a0:=Sq.r0;have bk:=Sq.r1;have bM:(R.natAbs:Int)=R:=oM;rw[bM]at rv;have Rv:=ka rv;have dJ:rs.length<=2*300000:=Jl (k:=Qc) (n:=R) (by have:=aL.o;unfold Lm at *;omega) rc (by rw[bM];exact rv);obtain⟨b,o,rfl,dF,ae⟩:=(hi.ext (aH.o.trans aj)).open (by rw[Hl.o];omega);obtain⟨x,ba⟩:∃x,xs[k]?=M x:=⟨_,gE (by rw[Hl.o];omega)⟩;obtain⟨q,bZ⟩:∃q,qs[k]?=M q:=⟨_,gE (by rw[Sq.ql];omega)⟩;have cL:=ae k x ba;have z:=hc.1 x (lM ba);unfold C4 at z;have cD:=ka ba;have ds:=ka bZ;have du:=ka ae;have k0:(0:Int)<=(k:Int):=oM;have k1:(k:Int)<(m:Int):=oM;have b8:Tc 3 wr (O ar mr cr) rs:=ro.ints;have HN:Ta (0<=x+10000*R):=ka oM;clear rl rv Sq ae ba bZ;go_wp2;refine Mh (fun i=>decide (9<i)) (Ea [(⟨w.heap.size,1,I⟩,O (M ⟨b,o,I⟩) m c),(⟨b,o+k,I⟩,U Oa x),(⟨g,1,I⟩,O ar mr cr),(⟨g,0,I⟩,U Oa sr)]) kM ?_ (fun f=>?_)
   ·exact cA
   refine sN 0 ?_
   iterate 5 refine Wh ?_
   refine oN ?_;refine sN 6 ?_
   iterate 2 refine Wh ?_
   refine oN ?_;have bH:=f;refine Kc (i:=5) fun K t=>?_;go_simp;refine kO t (fun _=>cE f ((eR wr.drew).alloc _)) (fun f=>?_);clear t K;have f:=f rfl;refine Kc (i:=8) fun K t=>?_;refine FA To Tryz.underlying64 rfl _ _ rfl rfl (NI wr.drew 3 x) rfl (b8.ext ((eR wr).drew.alloc _)) (by simp;omega) sM ?_;intro v5 w5 an aD;have X5:Aa wr w5:=((eR wr).drew.alloc (Oc #[U Oa x] 3)).y aD (nE _);refine kO t (fun _=>cE bH (((eR wr.drew).alloc (Oc #[U Oa x] 3)).y aD (nE _))) (fun f=>?_);clear t K;replace f:=f rfl;obtain⟨a5,c5,rfl⟩:=an.form;simp only[List.singleton_append,List.length_cons]at an ⊢;have bQ:dv C4 (x::rs)=x+10000*R:=by
    rw[oq,Rv.o];rfl
   have bA:=ka bQ;clear bQ;refine Kc (i:=9) fun K t=>?_;go_simp;(with_reducible refine cM (pw _ 1 _ (x::rs) (x+10000*R) an.ints (by simp;omega) (fun y hy=>?_) (by rw[bA.o];exact HN.o) (by rw[bA.o];omega) (fun _=>.inl rfl)) ?_)
   ·rcases List.mem_cons.1 hy with rfl|hy
    ·omega
    ·have:=rc.1 y hy;unfold C4 at this;omega
   rintro e w6 ⟨r6,rfl,aT,br⟩;obtain⟨s6,a6,m6,c6,rfl,cc⟩:=aT.j;have dt:=ka cc;clear cc;go_wp2;refine kO t (fun _=>cE f br) (fun f=>?_);clear t K;replace f:=f rfl;have X6:Aa wr w6:=X5.trans br;have dp:g<w6.heap.size:=X6.lt zt;obtain⟨cI,cO⟩:=X6.cells;refine Kc (i:=10) fun K t=>?_;go_simp;refine kO t (fun h=>nomatch h) (fun f=>?_);clear t K;refine Lb kM ?_ _;obtain⟨Rn,bl⟩:=gX (x+10000*R);rw[bl]at aT;have cy:=ka bl;have bN:0<=Rn:=oM;have bO:Rn<D*10000:=oM;have aX:NB w6 g R:=(NB.ext ⟨sr,ar,mr,cr,ad,aE.isN⟩ X6);obtain⟨wi,aB⟩:=gX ((w6.setCell ⟨g,0,I⟩ (U Oa s6)).setCell ⟨g,1,I⟩ (O a6 m6 c6));have i1:OB wi (W0.heap.size+1) g Rn:=by
    rw[<-aB];exact OB.put aX (aT.mono (by have:=aj.size;have:=X5.size;omega))
   have i2:wi.heap[g+1]?=M (Oc #[U Oa p,O a' m' c'] 66 (0,0)):=by
    rw[<-aB,bS _ _ _ _ sM,bS _ _ _ _ sM];exact X6.e r.o.size
   have i3:Db 3 wi W0.heap.size (O (M ⟨W0.heap.size,0,I⟩) m m) qs:=by
    rw[<-aB];exact((r.o.row.keep X6.keep).setOther (p:=⟨g,0,I⟩) (by simp[Value.ownBlock];omega) _).setOther (p:=⟨g,1,I⟩) (by simp[Value.ownBlock];omega) _
   have i4:Aa W0 wi:=by
    rw[<-aB];exact((aj.trans X6).set (p:=⟨g,0,I⟩) dO _).set (p:=⟨g,1,I⟩) dO _
   have i5:yd wi (Oe #[U Oa s6,O a6 m6 c6]) Rn:=by rw[<-aB];exact aT.isN.keep (((Ia.refl _ w6).x aX.not _).x (aX.not.set _ _) _)
   have i6:wi.heap[g]?=M (Oc #[U Oa s6,O a6 m6 c6] 66 (0,0)):=by
    obtain⟨u1,u2,u3,u4,u5,u6⟩:=aX;rw[<-aB];exact Xj u5 _ _
   have bz:=ka r.o.val;have bx:=ka r.o.qd;have aO:=ka r.o.ql;rw[aB];clear aB aT br cI cO f bH X5 X6 aX an aD aE ad b8 ro rc cL r e0 e1 d0 d1 t0 t1 zd zt dp bl;have m0:=Ba i6 (i:=0) (u:=U Oa s6) rfl;have m1:=Ba i6 (i:=1) (u:=O a6 m6 c6) rfl;have m2:=Ba i2 (i:=0) (u:=U Oa p) rfl;have m3:=Ba i2 (i:=1) (u:=O a' m' c') rfl;have zi:=Jb i2;have dj:g<wi.heap.size:=oM;obtain⟨wo,rfl⟩:∃wo:Z,wo=wr:=⟨_,rfl⟩;go_wp2;go_loopw [10,11] (iR wi D Rn) (fun db dc _=>(intOf dc-intOf db).toNat)
   case atStart=>exact⟨0,10000,rfl,rfl,by omega,by omega,by omega,by omega,bO,eR _⟩
   case round =>
    obtain⟨lo,aI,rfl,rfl,l0,l1,l2,l3,l4,Xi⟩:=hrel;have M0:=Xi.d m0;have M1:=Xi.d m1;have M2:=Xi.d m2;have M3:=Xi.d m3;have ZW:g+1<wr.heap.size:=Xi.lt zi;have bi:g<wr.heap.size:=oM;have bh:Aa w wr:=aH.o.trans (i4.trans Xi);have aM:Ta (Lm kc D):=ka (aL.o.mono dM);by_cases dG:1<aI-lo
    ·obtain⟨md,cQ⟩:=gX (Int.tdiv (lo+aI) 2);(have bW:md=(lo+aI)/2:=by rw[<-cQ,Int.tdiv_eq_ediv_of_nonneg oM]);have cZ:lo<md:=oM;have c0:md<aI:=oM;have bs:0<=md:=oM;have cg:md<=10000:=oM;obtain⟨P,hP⟩:=gX (D*md);(have bJ:0<=P:=by rw[<-hP];exact Int.mul_nonneg oM bs);obtain⟨T,hT⟩:=gX (((P.natAbs:Int)-(Rn.natAbs:Int)).sign);have a1:T<=0 ↔ P<=Rn:=by
      rw[<-hT];rcases Ee ((P.natAbs:Int)-(Rn.natAbs:Int))with ⟨e,_⟩|⟨e,_⟩|⟨e,_⟩<;>omega
     have HT:=ka hT;have HP:=ka hP;have a7:=i5.ext Xi;clear bW hT hP;by_cases bo:P<=Rn
     ·have cG:T<=0:=a1.2 bo;clear a1;go_wp2;go_region_held3 (fun W=>W.cell? ⟨g,0,I⟩=M (U Oa s6)/\W.cell? ⟨g,1,I⟩=M (O a6 m6 c6)/\W.cell? ⟨g+1,0,I⟩=M (U Oa p)/\W.cell? ⟨g+1,1,I⟩=M (O a' m' c')) ((repeat' (with_reducible refine And.intro ?_ ?_))<;>(first|(go_simp;done)|(refine ae.d ?_;go_simp;done))) (first|(go_at_call 192;(with_reducible refine(Wt _ (Oe #[U Oa p,O a' m' c']) D md ?_ aM.o bs cg).mono ?_);(refine aJ.ext ?_;exact bh.drew);rw[HP.o];rintro e w8 ⟨r8,rfl,af,l⟩;obtain⟨s8,a8,m8,c8,rfl,-⟩:=af.j;obtain⟨cJ,cP⟩:=oo l;(have z8:g<w8.heap.size:=l.lt bi);(have dg:g+1<w8.heap.size:=l.lt ZW))|(go_at_call 191;(with_reducible refine(zF _ (Oe #[U Oa s8,O a8 m8 c8]) (Oe #[U Oa s6,O a6 m6 c6]) P Rn af ?_).mono ?_);(refine a7.ext ?_;exact(eR wr).drew.trans l);rw[HT.o];rintro e w9 ⟨rfl,ag⟩;obtain⟨am,a2⟩:=oo ag))
      all_goals go_wp2
      go_roundw
      case rel=>exact⟨md,aI,rfl,rfl,by omega,c0,l2,by rw[HP.o];exact bo,l4,Xi.trans ((eR wr).drew.trans (l.trans ag))⟩
      case measure=>simp[intOf];omega
     ·have cG:¬T<=0:=fun h=>bo (a1.1 h);clear a1;go_wp2;go_region_held3 (fun W=>W.cell? ⟨g,0,I⟩=M (U Oa s6)/\W.cell? ⟨g,1,I⟩=M (O a6 m6 c6)/\W.cell? ⟨g+1,0,I⟩=M (U Oa p)/\W.cell? ⟨g+1,1,I⟩=M (O a' m' c')) ((repeat' (with_reducible refine And.intro ?_ ?_))<;>(first|(go_simp;done)|(refine ae.d ?_;go_simp;done))) (first|(go_at_call 192;(with_reducible refine(Wt _ (Oe #[U Oa p,O a' m' c']) D md ?_ aM.o bs cg).mono ?_);(refine aJ.ext ?_;exact bh.drew);rw[HP.o];rintro e w8 ⟨r8,rfl,af,l⟩;obtain⟨s8,a8,m8,c8,rfl,-⟩:=af.j;obtain⟨cJ,cP⟩:=oo l;(have z8:g<w8.heap.size:=l.lt bi);(have dg:g+1<w8.heap.size:=l.lt ZW))|(go_at_call 191;(with_reducible refine(zF _ (Oe #[U Oa s8,O a8 m8 c8]) (Oe #[U Oa s6,O a6 m6 c6]) P Rn af ?_).mono ?_);(refine a7.ext ?_;exact(eR wr).drew.trans l);rw[HT.o];rintro e w9 ⟨rfl,ag⟩;obtain⟨am,a2⟩:=oo ag))
      all_goals go_wp2
      go_roundw
      case rel=>exact⟨lo,md,rfl,rfl,l0,cZ,by omega,l3,by rw[HP.o];omega,Xi.trans ((eR wr).drew.trans (l.trans ag))⟩
      case measure=>simp[intOf];omega
    ·obtain rfl:aI=lo+1:=oM;obtain⟨P,hP⟩:=gX (D*lo);(have bJ:0<=P:=by rw[<-hP];exact Int.mul_nonneg oM l0);have dD:P<=Rn:=oM;(have dE:Rn<P+D:=by rw[Int.mul_add,hP]at l4;omega);have HP:=ka hP;have cp:Ta (Lm kc Rn):=ka ((Bz aL.o oM bN oM).mono dM);have co:Ta (Lm kc P):=ka ((Bz aL.o oM bJ oM).mono dM);have cY:lo<=10000:=oM;have j3:Db 3 wr W0.heap.size (O (M ⟨W0.heap.size,0,I⟩) m m) qs:=i3.keep Xi.keep;have j4:OB wr (W0.heap.size+1) g Rn:=i1.ext Xi;have j2:=Xi.e i2;have jx:=i4.trans Xi;have cV:wr.frozen? ⟨W0.heap.size,k,I⟩=false:=j3.frozen k;obtain⟨q,hq⟩:∃q,qs[k]?=M q:=⟨_,gE (by rw[aO.o];omega)⟩;have cW:=j3.cell hq;have a7:=i5.ext Xi;have ch:=Ya (Xi.e i6) 0;have Pb:=Ya (Xi.e i6) 1;have bX:¬g=W0.heap.size:=oM;have bY:¬g+1=W0.heap.size:=oM;have dr:W0.heap.size<wr.heap.size:=oM;clear hP hq;go_wp2;obtain⟨wq,aG⟩:=gX (wr.setCell ⟨W0.heap.size,k,I⟩ (U Oa lo));(have b1:OB wq (W0.heap.size+1) g Rn:=by rw[<-aG];exact j4.setRow oM oM _);(have b6:wq.heap[g]?=M (Oc #[U Oa s6,O a6 m6 c6] 66 (0,0)):=by rw[<-aG,bS _ _ _ _ (by simpa using bX)];exact Xi.e i6);(have b2:wq.heap[g+1]?=M (Oc #[U Oa p,O a' m' c'] 66 (0,0)):=by rw[<-aG,bS _ _ _ _ (by simpa using bY)];exact j2);(have b3:Db 3 wq W0.heap.size (O (M ⟨W0.heap.size,0,I⟩) m m) (qs.set k lo):=by rw[<-aG];exact j3.stored k lo);(have b4:Aa W0 wq:=by rw[<-aG];exact jx.set (p:=⟨W0.heap.size,k,I⟩) (nE _) _);have b5:yd wq (Oe #[U Oa s6,O a6 m6 c6]) Rn:=by
      obtain⟨u1,u2,u3,u4,u5,u6⟩:=b1;rw[b6]at u5;cases u5;exact u6.isN
     have b7:yd wq (Oe #[U Oa p,O a' m' c']) D:=aJ.ext (aH.o.trans b4);have o0:=Ba b6 (i:=0) (u:=U Oa s6) rfl;have o1:=Ba b6 (i:=1) (u:=O a6 m6 c6) rfl;have o2:=Ba b2 (i:=0) (u:=U Oa p) rfl;have o3:=Ba b2 (i:=1) (u:=O a' m' c') rfl;have dN:=Ya b6 0;have dP:=Ya b6 1;have zq:=Jb b2;have dm:g<wq.heap.size:=oM;rw[aG];clear aG M0 M1 M2 M3 ZW bi bh cV cW ch Pb j4 j2 j3 jx m0 m1 m2 m3 i1 i2 i3 i4 i5 i6 a7 zi dj Xi;refine Mh (fun i=>decide (4<i)) (Ea [(⟨g,0,I⟩,U Oa s6),(⟨g,1,I⟩,O a6 m6 c6),(⟨g+1,0,I⟩,U Oa p),(⟨g+1,1,I⟩,O a' m' c')]) kM ?_ (fun f=>?_)
     ·exact cA
     refine sN 0 ?_
     (iterate 3 refine Wh ?_);refine oN ?_;refine Kc (i:=3) fun K t=>?_;go_simp;(with_reducible refine cM (Wt _ (Oe #[U Oa p,O a' m' c']) D lo (b7.ext (eR wq).drew) aM.o l0 cY) ?_);rintro e w8 ⟨r8,rfl,af,l⟩;rw[HP.o]at af;obtain⟨s8,a8,m8,c8,rfl,-⟩:=af.j;go_wp2;refine kO t (fun _=>cE f l) (fun f=>?_);clear t K;replace f:=f rfl;refine Kc (i:=4) fun K t=>?_;go_simp;(with_reducible refine cM (iA _ (Oe #[U Oa s6,O a6 m6 c6]) (Oe #[U Oa s8,O a8 m8 c8]) Rn P (b5.ext ((eR wq).drew.trans l)) af cp.o co.o) ?_);rintro e w9 ⟨r9,rfl,aU,ag⟩;obtain⟨s9,a9,m9,c9,rfl,-⟩:=aU.j;go_wp2;refine kO t (fun _=>cE f ag) (fun f=>?_);clear t K;replace f:=f rfl;have X9:Aa wq w9:=(eR wq).drew.trans (l.trans ag);have dn:g<w9.heap.size:=X9.lt dm;have n9:NB w9 g Rn:=b1.nb.ext X9;obtain⟨am,a2⟩:=X9.cells;refine Kc (i:=5) fun K t=>?_;go_simp;refine kO t (fun h=>nomatch h) (fun f=>?_);clear t K;refine Lb kM ?_ _;go_wp2;go_roundw
     case rel =>
      refine⟨(k:Int)-1,qs.set k lo,Rn-P,rfl,by omega,by omega,by simp[aO.o],?_,bx.o.set oM (by unfold C4;omega) _,OB.put n9 (aU.mono ?_),?_,?_,by omega,by omega,?_⟩
      ·exact((b3.keep X9.keep).setOther (p:=⟨g,0,I⟩) (by simp[Value.ownBlock];omega) _).setOther (p:=⟨g,1,I⟩) (by simp[Value.ownBlock];omega) _
      ·have:=b4.size;have:=l.size;simp only[jc]at this;omega
      ·rw[bS _ _ _ _ sM,bS _ _ _ _ sM];exact X9.e b2
      ·have e1:(qs.set k lo)[k]?=M lo:=List.getElem?_set_self (by rw[aO.o];omega);have e2:(qs.set k lo).drop (k+1)=qs.drop (k+1):=List.drop_set_of_lt oM;have h9:=bz.o;rw[show ((k:Int)+1).toNat=k+1 by omega,<-e2]at h9;rw[show ((k:Int)-1+1).toNat=k by omega,UK cD.o e1 h9,<-HP.o,<-cy.o,Int.mul_comm lo D];rfl
      ·exact((b4.trans X9).set (p:=⟨g,0,I⟩) dO _).set (p:=⟨g,1,I⟩) dO _
     case measure=>simp[intOf]
  ·obtain rfl:j = -1:=oM;clear e0 e1 d0 d1 zd aj j0 j1 hj;obtain⟨Q,hQ⟩:=gX (dv C4 qs);have az:=r.o.val;simp only[show ((-1:Int)+1).toNat=0 from rfl,List.drop_zero]at az;rw[Hv.o,hQ]at az;have a0:=r.o.r0;have bk:=r.o.r1;have bK:0<=Q:=by rw[<-hQ];exact(Uh Uj r.o.qd).1
   have aQ:Q<=(na.natAbs:Int):=SG az bG a0 bK;have bL:Q≠0->s=1\/s = -1:=fun h9=>by
    rw[Hs.o];exact XB (fun h8=>h9 (by rw[h8]at aQ;simp at aQ;omega))
   obtain⟨N1,bj⟩:=gX (s*Q);have bf:N1=na.sign*Q:=by rw[<-bj,Hs.o]
   have cd:s = -1\/s=0\/s=1:=by rcases Ee na with ⟨e,_⟩|⟨e,_⟩|⟨e,_⟩<;>rw[Hs.o,e]<;>decide
   have bI:(N1.natAbs:Int)<=na.natAbs:=by rcases cd with h|h|h<;>subst h<;>omega
   have cn:Ta (Lm kc N1):=ka (Lm.mono (j:=Qc) (by have:=cq.o;unfold Lm at *;omega) dM);have bw:Ta (Lm kc D):=ka (aL.o.mono dM);have ct:Ta (Lm kc R):=ka (by have:=bw.o;unfold Lm at *;omega);have bv:Ta (Lm kc 1):=ka (RE dM);have bm:(na.natAbs:Int)=Q*(nd.natAbs:Int)+R:=by rw[HD.o];exact az
   have ax:=Lv (N:=N1) Hd.o bm a0 (by rw[HD.o];exact bk);have aR:=Lv (N:=N1-1) Hd.o bm a0 (by rw[HD.o];exact bk);have cl:=ka ax.1;have cm:=ka aR.2;have cx:=ka bL;have cw:=ka bj;have be:=ka bf;have HQ:=ka hQ;clear az hQ bL bj bf aQ bm ax aR bI cd;have aj:=r.o.ext;have e0:=aj.d p0;have e1:=aj.d p1;have d0:=Ba r.o.size (i:=0) (u:=U Oa p) rfl;have d1:=Ba r.o.size (i:=1) (u:=O a' m' c') rfl;obtain⟨sr,ar,mr,cr,ad,aE⟩:=r.o.rest;have t0:=Ba ad (i:=0) (u:=U Oa sr) rfl;have t1:=Ba ad (i:=1) (u:=O ar mr cr) rfl;have zd:=Jb r.o.size;have di:g<wr.heap.size:=oM;have dh:w.heap.size<wr.heap.size:=oM;have ce:sr=R.sign:=aE.isN.sgn;have bD:=ka ce;have cz:Ta (∀x∈qs,-100000000000000<=x/\x<=100000000000000):=ka (fun x hx=>by have:=r.o.qd x hx;unfold C4 at this;omega);clear ce;go_upto_region 16 with (go_at_call 152;(with_reducible refine(Lo _ s _ qs N1 r.o.row.ints (by rw[r.o.ql];omega) cz.o (by rw[HQ.o];exact bK) (by rw[HQ.o];exact cw.o.symm) (by rw[HQ.o];exact cx.o)).mono ?_);rintro e w3 ⟨r3,rfl,bp,ao⟩;obtain⟨s3,a3,m3,c3,rfl,-⟩:=bp.j;obtain⟨cH,cN⟩:=ao.cells;(have u7:g+1<w3.heap.size:=ao.lt zd);(have de:g<w3.heap.size:=ao.lt di);(have u0:w.heap.size<w3.heap.size:=ao.lt dh));obtain⟨ah,aA⟩:=gX (w3.alloc (Oc #[U Oa s3,O a3 m3 c3] 66));have ai:Aa wr ah:=by rw[<-aA];exact ao.alloc _
   have ap:ah.heap[w3.heap.size]?=M (Oc #[U Oa s3,O a3 m3 c3] 66 (0,0)):=by rw[<-aA];exact aN _ _
   have aS:yd ah (Oe #[U Oa s3,O a3 m3 c3]) N1:=by rw[<-aA];exact bp.ext ((eR _).alloc _)
   have al:NB ah w3.heap.size N1:=⟨_,_,_,_,ap,aS⟩;have aY:NB ah g R:=NB.ext ⟨sr,ar,mr,cr,ad,aE.isN⟩ ai;have b0:=ai.e ad;have bc:=ai.e r.o.size;rw[aA];obtain⟨ac,bg⟩:=gX w3.heap.size;rw[bg]at u7 de u0 ap al ⊢;clear aA cH cN ao bp bg aE ad;replace e0:=ai.d e0;replace e1:=ai.d e1;replace d0:=ai.d d0;replace d1:=ai.d d1;replace t0:=ai.d t0;replace t1:=ai.d t1;have X0:Aa W0 ah:=aj.trans ai;have ck:ac<ah.heap.size:=Jb ap;obtain⟨bb,bP⟩:=gX (decide (na<0/\R≠0));have aP:=ka bP;have y0:w.heap.size<ah.heap.size:=oM;have y7:g<ah.heap.size:=oM;have y8:g+1<ah.heap.size:=oM;clear bP;go_cut [75] (fun dd W=>dd=Od bb/\W=ah)
   case first =>
    by_cases b9:s<0
    ·have hn:na<0:=by
      have:=Hs.o;rcases Ee na with ⟨e,h⟩|⟨e,h⟩|⟨e,h⟩<;>omega
     by_cases ay:sr=0
     ·have hR:R=0:=by
       have:=bD.o;rcases Ee R with ⟨e,h⟩|⟨e,h⟩|⟨e,h⟩<;>omega
      (have e:bb=false:=by rw[<-aP.o];simp[hR]);(have cf:(sr != 0)=false:=by simp[ay]);clear ay;go_wp2;go_meet;exact⟨by rw[e],rfl⟩
     ·have hR:R≠0:=by
       intro h;have:=bD.o;rw[h]at this;exact ay (by rw[this];rfl)
      (have e:bb=true:=by rw[<-aP.o];simp[hR,hn]);(have cf:(sr != 0)=true:=by simpa using ay);clear ay;go_wp2;go_meet;exact⟨by rw[e],rfl⟩
    ·have hn:¬na<0:=by
      have:=Hs.o;rcases Ee na with ⟨e,h⟩|⟨e,h⟩|⟨e,h⟩<;>omega
     (have e:bb=false:=by rw[<-aP.o];simp[hn]);go_wp2;go_meet;exact⟨by rw[e],rfl⟩
   case rest =>
    obtain⟨rfl,rfl⟩:=hcut;go_upto_if 75 with fail;go_cut [13] (OF W0 g (g+1) #[U Oa p,O a' m' c'] (if bb then N1-1 else N1) (if bb then D-R else R))
    case first =>
     cases bb with
     |false=>
      go_wp2;go_meet;exact⟨ac,rfl,by omega,by omega,al,aY,bc,X0⟩
     |true=>
      have f3:=Ba ap (i:=0) (u:=U Oa s3) rfl;have f4:=Ba ap (i:=1) (u:=O a3 m3 c3) rfl;have f5:=Ya ap 0;have f6:=Ya ap 1;go_wp2;refine Mh (fun i=>decide (2<i)) (Ea [(⟨ac,0,I⟩,U Oa s3),(⟨ac,1,I⟩,O a3 m3 c3)]) kM ?_ (fun f=>?_)
      ·exact cA
      refine lj (i:=0) ?_;refine Kc (i:=1) fun K t=>?_;go_simp;(with_reducible refine cM (Su _ 1 dM dM) ?_);rintro e w8 ⟨r8,rfl,af,l⟩;obtain⟨s8,a8,m8,c8,rfl,-⟩:=af.j;go_wp2;refine kO t (fun _=>cE f l) (fun f=>?_);clear t K;replace f:=f rfl;refine Kc (i:=2) fun K t=>?_;go_simp;(with_reducible refine cM (Nt _ (Oe #[U Oa s3,O a3 m3 c3]) (Oe #[U Oa s8,O a8 m8 c8]) N1 1 (aS.ext ((eR wc).drew.trans l)) af cn.o bv.o) ?_);rintro e w9 ⟨r9,rfl,aU,ag⟩;obtain⟨s9,a9,m9,c9,rfl,-⟩:=aU.j;go_wp2;refine kO t (fun _=>cE f ag) (fun f=>?_);clear t K;replace f:=f rfl;have X9:Aa wc w9:=(eR wc).drew.trans (l.trans ag);have dn:ac<w9.heap.size:=X9.lt ck;obtain⟨am,a2⟩:=X9.cells;refine Kc (i:=3) fun K t=>?_;go_simp;refine kO t (fun h=>nomatch h) (fun f=>?_);clear t K;refine Lb kM ?_ _;obtain⟨wa,aK⟩:=gX ((w9.setCell ⟨ac,0,I⟩ (U Oa s9)).setCell ⟨ac,1,I⟩ (O a9 m9 c9));have n9:=al.ext X9;(have cF:NB wa ac (N1-1):=by rw[<-aK];exact n9.put aU);have c7:NB wa g R:=by
       rw[<-aK];exact((aY.ext X9).other (p:=⟨ac,0,I⟩) dO n9.not _).other (p:=⟨ac,1,I⟩) dO (n9.not.set _ _) _
      have aZ:wa.heap[g+1]?=M (Oc #[U Oa p,O a' m' c'] 66 (0,0)):=by
       rw[<-aK,bS _ _ _ _ dO,bS _ _ _ _ dO];exact X9.e bc
      have cX:Aa W0 wa:=by
       rw[<-aK];exact((X0.trans X9).set (p:=⟨ac,0,I⟩) dO _).set (p:=⟨ac,1,I⟩) dO _
      rw[aK];clear aK f am a2 f3 f4 f5 f6;obtain⟨sv,av,mv,cv,-,v0,v1,ci,cj,vz,aW⟩:=c7.rd;have d2:=Ba aZ (i:=0) (u:=U Oa p) rfl;have d3:=Ba aZ (i:=1) (u:=O a' m' c') rfl;have zz:=Jb aZ;have cS:yd wa (Oe #[U Oa p,O a' m' c']) D:=aJ.ext (aH.o.trans cX);go_wp2_with(go_at_call 151;(with_reducible refine(Nt _ (Oe #[U Oa p,O a' m' c']) (Oe #[U Oa sv,O av mv cv]) D R cS aW bw.o ct.o).mono ?_);rintro e wb ⟨rb,rfl,aV,z⟩;obtain⟨sb,ab,mb,cb,rfl,-⟩:=aV.j;obtain⟨cK,a4⟩:=z.cells);go_meet;refine⟨ac,rfl,by omega,by omega,?_,(c7.ext z).put aV,?_,?_⟩
      ·exact((cF.ext z).other (p:=⟨g,0,I⟩) dO (c7.ext z).not _).other (p:=⟨g,1,I⟩) dO ((c7.ext z).not.set _ _) _
      ·rw[bS _ _ _ _ sM,bS _ _ _ _ sM];exact z.e aZ
      ·exact((cX.trans z).set (p:=⟨g,0,I⟩) dO _).set (p:=⟨g,1,I⟩) dO _
    case rest =>
     obtain⟨N2,aq⟩:=gX ((if bb=true then N1-1 else N1));obtain⟨R2,aw⟩:=gX ((if bb=true then D-R else R));rw[aq,aw]at hcut;have ax:(if nd<0 then -N2 else N2)=na/nd/\R2=na%nd:=by
      by_cases am:na<0/\R≠0
      ·(have e:bb=true:=by rw[<-aP.o];simpa using am);rw[e]at aq aw;simp only[if_true]at aq aw;have:=cm.o am (by rw[be.o]);rw[HD.o,aq,aw]at this;exact this
      ·(have e:bb=false:=by rw[<-aP.o];simpa using am);rw[e]at aq aw;simp only[Bool.false_eq_true,if_false]at aq aw;have:=cl.o am be.o;rw[aq,aw]at this;exact this
     have bB:=ka ax;clear ax aq aw al aY bc X0 t0 t1 d0 d1 e0 e1 ap aS b0 y0 y7 y8 ck;obtain⟨ga,rfl,bE,bF,ak,bt,bu,Xa⟩:=hcut;have e2:=Xa.d q0;have dq:w.heap.size+1<wc.heap.size:=Xa.lt z2;go_upto_if 84 with fail;go_cut [13] (OF W0 g (g+1) #[U Oa p,O a' m' c'] (if nd<0 then -N2 else N2) R2)
     case first =>
      by_cases cR:nd<0
      ·have b9:s'<0:=by
        have:=bC.o;rcases Ee nd with ⟨e,h⟩|⟨e,h⟩|⟨e,h⟩<;>omega
       obtain⟨sv,av,mv,cv,-,v0,v1,ci,cj,vz,aW⟩:=ak.rd;go_wp2_with(go_at_call 193;(with_reducible refine(xF _ (Oe #[U Oa sv,O av mv cv]) N2 aW).mono ?_);rintro e wb ⟨rb,rfl,aV,z⟩;obtain⟨sb,ab,mb,cb,rfl,-⟩:=aV.j;obtain⟨cK,a4⟩:=z.cells);go_meet;refine⟨ga,rfl,by omega,by omega,?_,?_,?_,?_⟩
       ·rw[if_pos cR];exact(ak.ext z).put aV
       ·exact((bt.ext z).other (p:=⟨ga,0,I⟩) dO (ak.ext z).not _).other (p:=⟨ga,1,I⟩) dO ((ak.ext z).not.set _ _) _
       ·rw[bS _ _ _ _ dO,bS _ _ _ _ dO];exact z.e bu
       ·exact((Xa.trans z).set (p:=⟨ga,0,I⟩) dO _).set (p:=⟨ga,1,I⟩) dO _
      ·have b9:¬s'<0:=by
        have:=bC.o;rcases Ee nd with ⟨e,h⟩|⟨e,h⟩|⟨e,h⟩<;>omega
       go_wp2;go_meet;exact⟨ga,rfl,bE,bF,by rw[if_neg oM];exact ak,bt,bu,Xa⟩
     case rest =>
      obtain⟨bT,a4⟩:=bB.o;rw[bT,a4]at hcut;clear bT a4 e2 dq ak bt bu Xa bE bF;obtain⟨gb,rfl,dB,dC,al,aY,bc,Xb⟩:=hcut;obtain⟨sv,av,mv,cv,-,v0,v1,ci,cj,vz,aW⟩:=al.rd;obtain⟨su,au,mu,cu,-,u0,u1,dQ,dR,uz,cU⟩:=aY.rd;have o1:=Xb.e cB.o;have o2:=Xb.e cC.o;have c1:=Ba o1 (i:=0) (u:=U Oa 0) rfl;have c2:=Ba o1 (i:=1) (u:=O I 0 0) rfl;have c4:=Ba o2 (i:=0) (u:=U Oa 0) rfl;have da:=Ba o2 (i:=1) (u:=O I 0 0) rfl;have dw:=Ya o1 0;have dx:=Ya o1 1;have dy:=Ya o2 0;have dz:=Ya o2 1;have dk:=Jb o1;have dl:=Jb o2;have dK:¬g=w.heap.size+1+1:=oM;have dL:¬gb=w.heap.size+1+1:=oM;(have n1:td 3 wc (w.heap.size+1+1):=by intro cs fr e;rw[o1]at e;cases e);(have n2:td 3 wc (w.heap.size+1+1+1):=by intro cs fr e;rw[o2]at e;cases e);have XF:Aa w wc:=aH.o.trans Xb;clear o1 o2;go_wp2;refine Mh (fun i=>decide (2<i)) (Ea [(⟨gb,0,I⟩,U Oa sv),(⟨gb,1,I⟩,O av mv cv),(⟨g,0,I⟩,U Oa su),(⟨g,1,I⟩,O au mu cu)]) kM ?_ (fun f=>?_)
      ·exact cA
      refine sN 0 ?_
      (iterate 2 refine Wh ?_);refine oN ?_;refine Kc (i:=2) fun K t=>?_;go_simp;refine kO t (fun _=>?_) (fun f=>?_)
      ·exact cA
      clear t K;replace f:=f rfl;refine Kc (i:=3) fun K t=>?_;go_simp;refine kO t (fun h=>nomatch h) (fun f=>?_);clear t K;refine Lb kM ?_ _;go_wp2;refine bR (v:=.tuple #[Oe #[U Oa sv,O av mv cv],Oe #[U Oa su,O au mu cu]]) (by simp[results,Tryz.results142,go_sem,c1,c2,c4,da,dk,dl]) rfl ⟨_,_,rfl,?_,?_,eA⟩
      ·exact aW.keep (((((Ia.refl _ wc).x n1 _).x (n1.set _ _) _).x ((n2.set _ _).set _ _) _).x (((n2.set _ _).set _ _).set _ _) _)
      ·exact cU.keep (((((Ia.refl _ wc).x n1 _).x (n1.set _ _) _).x ((n2.set _ _).set _ _) _).x (((n2.set _ _).set _ _).set _ _) _)
