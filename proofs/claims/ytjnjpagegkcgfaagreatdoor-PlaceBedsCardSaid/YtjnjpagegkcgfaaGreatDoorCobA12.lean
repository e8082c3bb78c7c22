import Derived.Test.YtjnjpagegkcgfaaGreatDoorCobA11
import Derived.Sort.OwnSortedInts
import Derived.Laws.IdiomStrings
set_option maxRecDepth 1000000
set_option maxHeartbeats 16000000
set_option linter.all false
open Go.Value renaming slice->O,int->M,bool->Oa,agg->Oc,pointer->Oe
open Go renaming World->Z,Value->J,Act->Ob,Addr->Od
open Option renaming none->X,some->I
open Go.IntKind renaming i64->F
open Go.Obj renaming cells->U
namespace Go.Proofs.YtjnjpagegkcgfaaGreatDoor.Cop
section
open Go.RowKit Go.Shelf
def Da:List (Od×J)->Z->Prop
 | [],_=>True
 | (a,v)::r,W=>W.cell? a=I v/\Da r W
def Da.ext:∀{L:List (Od×J)}{W W':Z},Da L W->Ba W W'->Da L W'
 | [],_,_,_,_=>trivial
 | _::_,_,_,⟨h1,h2⟩,k=>⟨k.d h1,h2.ext k⟩
def cE{L:List (Od×J)}{W W':Z}(h:Da L W)(k:Ba W W'):Da L W':=h.ext k
def cA{L:List (Od×J)}{W:Z}(h:Da L W:=by(repeat(first|exact trivial|refine⟨by go_simp,?_⟩))):Da L W:=h
def Da.set:∀{L:List (Od×J)}{W:Z}{p:Od},Da L W->(∀q∈L,p.block≠q.1.block)->∀u,Da L (W.setCell p u)
 | [],_,_,_,_,_=>trivial
 | (a,v)::r,W,p,⟨h1,h2⟩,hn,u=>⟨by rw[World.cell?_setCell_far _ _ _ _ (hn (a,v) (by simp))];exact h1,h2.set (fun q c=>hn q (mC _ c)) u⟩
def Da.set3{L:List (Od×J)}{W:Z}{b:Nat}(h:Da L W)(a:∀q∈L,b≠q.1.block)(u v t:J):Da L (((W.setCell ⟨b,0,X⟩ u).setCell ⟨b,1,X⟩ v).setCell ⟨b,2,X⟩ t):=
 ((h.set a u).set a v).set a t
def Kc{P:Program}{ops:Array Oper}{Q:Exit->Ob->Z->Prop}{e:Nat}{a:Ob}{w:Z}(L:List (Od×J))(c:Da L w.drew)(h:Da L w.drew->wpAnyH P .any ops Q (Da L) ops.size (Array.replicate ops.size false) a w.drew)(d:P.follows .mixedOrders=true:=by kernel_rfl):(Code.region e ops true).wp P Q a w:=wp_region_held_drew (S:=Da L) d c h
def Da.nil(W:Z):Da [] W:=trivial
structure Sp where
 over:LP
 under:LP
 lo:Int
 hi:Int
def Tb(s:Sp)(x:Rat):Rat:=Yd s.over x-Yd s.under x
def SH(w:Z)(s:Sp)(v1 v2 vx:J)(x:Rat)(h1:Ja w v1 s.over)(h2:Ja w v2 s.under)(k1:mc s.over)(k2:mc s.under)(hx:Ab w vx x)(hb:Rb 1000 x)(g:Rb Dc (Yd s.over x))(j:Rb Dc (Yd s.under x)):Calls Tryz.prog 133 #[Oc #[v1,v2,M F s.lo,M F s.hi],vx] w (Pf w (Tb s x)):=by
 obtain⟨a1,m1,rfl⟩:=h1.form;obtain⟨a2,m2,rfl⟩:=h2.form;obtain⟨xa,xm,xc,xs,z,T,R,rfl⟩:=hx.form;obtain⟨n1,o⟩:=gX s.over.length;obtain⟨n2,p⟩:=gX s.under.length;rw[o]at h1 ⊢;rw[p]at h2 ⊢;obtain⟨lo,l⟩:=gX s.lo;obtain⟨hi,k⟩:=gX s.hi;rw[l,k];have H1:=Aa (fun(W:Z)(f:Ba w W)=>zv W _ _ s.over x (h1.f f) k1 (hx.ext f) hb);have H2:=Aa (fun(W:Z)(f:Ba w W)=>zv W _ _ s.under x (h2.f f) k2 (hx.ext f) hb);have aa:=Aa g;have ab:=Aa j;clear g j hb o p l k k1 k2 h1 h2;go_in;go_wp2;refine Kc [(⟨w.heap.size,0,X⟩,O a1 n1 m1),(⟨w.heap.size,1,X⟩,O a2 n2 m2),(⟨w.heap.size+1,0,X⟩,O xa xm xc),(⟨w.heap.size+1,1,X⟩,Oa xs),(⟨w.heap.size+1,2,X⟩,O z T R)] (by refine⟨?_,?_,?_,?_,?_,trivial⟩<;>go_simp) fun a=>?_;refine sN 0 ?_
 iterate 3 refine xb ?_
 refine oN ?_;refine sN 4 ?_
 iterate 3 refine xb ?_
 refine oN ?_;refine Ub (i:=3) (H1.o _ eA) ?_;rintro e w3 ⟨r3,rfl,r,y⟩;obtain⟨a3,m3,c3,s3,b3,n3,k3,rfl⟩:=r.form;refine⟨_,rfl,(cE a y),fun a=>?_⟩;have X3:Ba w w3:=eA;refine Ub (i:=7) (H2.o _ X3) ?_;rintro e w4 ⟨r4,rfl,t,c⟩;obtain⟨a4,m4,c4,s4,b4,n4,k4,rfl⟩:=t.form;refine⟨_,rfl,(cE a c),fun a=>?_⟩;have K5:=Aa (Pp w4 _ _ _ _ (r.ext c) t aa.o ab.o);refine Ub (i:=8) K5.o ?_;rintro e w5 ⟨r5,rfl,u,d⟩;obtain⟨a5,m5,c5,s5,b5,n5,k5,rfl⟩:=u.form;refine⟨_,rfl,(cE a d),fun a=>?_⟩;have hO:RB w5 (w.heap.size+1+1) 0:=(((RB.new (Ab.zero _) sM).ext ((eR _).drew.trans y)).ext c).ext d;obtain⟨_,_,_,_,_,_,_,o0,o1,o2,al,am,an,zo,_⟩:=hO.rd;have ac:∀q∈[((⟨w.heap.size,0,X⟩:Od),Value.slice a1 n1 m1),(⟨w.heap.size,1,X⟩,O a2 n2 m2),(⟨w.heap.size+1,0,X⟩,O xa xm xc),(⟨w.heap.size+1,1,X⟩,Oa xs),(⟨w.heap.size+1,2,X⟩,O z T R)],w.heap.size+1+1≠q.1.block:=by
  intro q hq;simp at hq;rcases hq with rfl|rfl|rfl|rfl|rfl<;>(dsimp only;omega)
 refine Ld (i:=9) fun K hK=>?_;go_simp;refine kO hK (Da.set3 (by assumption) ac _ _ _) (fun a=>?_);clear hK K;refine Wb ?_;go_wp2;have hP:=hO.put u;obtain⟨pa,pm,af,ah,ad,ag,ae,ai,aj,ak,_,_,_,_,hz⟩:=hP.rd;exact bR (v:=Oc #[O pa pm af,Oa ah,O ad ag ae]) (by simp[results,Tryz.results133,go_sem,ai,aj,ak]) rfl ⟨_,rfl,hz,((((X3.trans c).trans d).set dO _).set dO _).set dO _⟩
section
variable {P:Program} {ops:Array Oper} {Q:Exit->Ob->Z->Prop} {md:Region.Mode} {S:Z->Prop} {late:Nat->Bool}
def HU(P:Program)(md:Region.Mode)(ops:Array Oper)(Q:Exit->Ob->Z->Prop)(S:Z->Prop)(late:Nat->Bool):Nat->Array Bool->Ob->Z->Prop
 | 0,c,a,w=>Region.ready md ops c=[]/\Q .normal a w
 | fuel+1,c,a,w =>
  (Region.ready md ops c=[]->Q .normal a w)/\
  ∀i∈Region.ready md ops c,wpOp P ops Q i (fun e d=>(late i=false->S d)/\HU P md ops Q S late fuel (c.setIfInBounds i true) e d) a w
def mE:∀(fuel:Nat)(c:Array Bool)(a:Ob)(w:Z),HU P md ops Q S late fuel c a w->wpAny P md ops Q fuel c a w
 | 0,_,_,_,h=>h
 | fuel+1,_,_,_,h=>⟨h.1,fun i f=>wpOp_mono (fun d g e=>mE fuel _ d g e.2) (h.2 i f)⟩
def GL{m i:Nat}{oi:Oper}{v:J}(hg:Ni md ops late m=true)(ac:late i=false)(hi:ops[i]?=I oi)(r:∀(j:Nat)(o:Oper) x b,ops[j]?=I o->o.op ≠ .select x b)(hQ:∀c a w,Q (.panic c) (a.put oi.dst v) w->Q (.panic c) a w):∀(fuel:Nat)(d:Array Bool)(a:Ob)(w:Z),Cl md ops d ->(∀j oj,ops[j]?=I oj->j≠i->d.getD j true=false->(∀e∈oj.after,Region.binds md e=true->e.on≠i)->oi.apart ops oj=true) ->i∈Region.ready md ops d->YieldsIf P ops S oi v a->S w ->HU P md ops Q S late fuel (d.setIfInBounds i true) (a.put oi.dst v) w->HU P md ops Q S late (fuel+1) d a w:=by
 intro fuel;induction fuel with
 |zero=>
  intro d a w hc _ q hy y H;refine⟨fun h=>(by rw[h]at q;cases q),fun j u=>?_⟩;by_cases f:j=i
  ·subst f;exact hy.wpOp hi y ⟨fun _=>y,H⟩
  ·have:=ready_mono u f;rw[H.1]at this;cases this
 | succ fuel ih =>
  intro d a w hc g q hy y H;refine⟨fun h=>(by rw[h]at q;cases q),fun j u=>?_⟩;by_cases f:j=i
  ·subst f;exact hy.wpOp hi y ⟨fun _=>y,H⟩
  ·have s:=H.2 j (ready_mono u f);have ad:=YO hg hc q ac u;obtain⟨p,oj,t,z⟩:=mem_ready.1 u;have R:∀e∈oj.after,Region.binds md e=true->e.on≠i:=fun e he hb aa=>by
    have s:=z e he hb;have h0:=(mem_ready.1 q).1;rw[aa]at s;rcases Nat.lt_or_ge i d.size with h' | h'
    ·simp[h']at h0 s;rw[h0]at s;cases s
    ·simp[Array.getElem?_eq_none h']at s
   have h2:=wpOp_putIf t (g j oj t f p R) (fun x b=>r i oi x b hi) (fun x b=>r j oj x b t) hQ hy s;have l:∀k ok,ops[k]?=I ok->k≠i->(d.setIfInBounds j true).getD k true=false ->
     (∀e∈ok.after,Region.binds md e=true->e.on≠i)->oi.apart ops ok=true:=fun k ok hk ab T ae=>by
    refine g k ok hk ab ?_ ae;by_cases K:j=k
    ·subst K;exact p
    ·rw[getD_set_ne true K]at T;exact T
   refine wpOp_mono (fun a' w' h3=>⟨h3.2.1,ih (d.setIfInBounds j true) a' w' (hc.step u) l (ready_mono q (Ne.symm f)) h3.1 (h3.2.1 ad) ?_⟩) h2;rw[Array.setIfInBounds_comm _ _ f];exact h3.2.2
def Fj(P:Program)(md:Region.Mode)(ops:Array Oper)(Q:Exit->Ob->Z->Prop)(S:Z->Prop)(late:Nat->Bool)(fuel:Nat)(c:Array Bool)(a:Ob)(w:Z):Prop:=Cl md ops c->HU P md ops Q S late fuel c a w
def xp(P:Program)(md:Region.Mode)(ops:Array Oper)(Q:Exit->Ob->Z->Prop)(S:Z->Prop)(late:Nat->Bool)(fuel:Nat)(d:Array Bool)(a:Ob)(w:Z)(i:Nat)(oi:Oper):Prop:=
 ∃v,late i=false/\Region.noSelect ops=true/\Region.free md ops d i=true/\(Region.ready md ops d).contains i=true/\(∀c a w,Q (.panic c) (a.put oi.dst v) w->Q (.panic c) a w)/\YieldsIf P ops S oi v a/\S w/\
  Fj P md ops Q S late fuel (d.setIfInBounds i true) (a.put oi.dst v) w
def Ol{m:Nat}(r:Ni md ops late m=true){i:Nat}{oi:Oper}{fuel:Nat}{c:Array Bool}{a:Ob}{w:Z}(e:ops[i]?=I oi)(h:xp P md ops Q S late fuel c a w i oi):Fj P md ops Q S late (fuel+1) c a w:=by
 obtain⟨v,g,j,k,l,o,p,h6,q⟩:=h;intro d;have f:i∈Region.ready md ops c:=by simpa using l
 exact GL r g e (Region.noSelect_spec j) o fuel c a w d (Region.free_spec e k) f p h6 (q (d.step f))
def Dp(P:Program)(md:Region.Mode)(ops:Array Oper)(Q:Exit->Ob->Z->Prop)(S:Z->Prop)(late:Nat->Bool)(fuel:Nat)(c:Array Bool)(a:Ob)(w:Z)(i:Nat)(o:Oper):Prop:=
 Region.ready md ops c=[i]/\∀K':Ob->Z->Prop,Shut (∀a w,(late i=false->S w)->((late i=false->S w)->Fj P md ops Q S late fuel (c.setIfInBounds i true) a w)->K' a w) ->
  if Region.wanted o (yielded ops a.tmps)=true then Oper.wp P o a w K' Q else K' (a.put o.dst undef) w
def pp{i:Nat}{o:Oper}{fuel:Nat}{c:Array Bool}{a:Ob}{w:Z}(r:ops[i]?=I o)(h:Dp P md ops Q S late fuel c a w i o):Fj P md ops Q S late (fuel+1) c a w:=by obtain⟨g,h⟩:=h;intro q;refine⟨fun k=>absurd (g▸k) sM,fun j d=>?_⟩;have e:=d;rw[g]at d;cases List.mem_singleton.1 d;exact wpOp_step r (fun K' l=>h K' (fun a w f p=>l a w ⟨f,p f (q.step e)⟩))
def Kb{c:Array Bool}{a:Ob}{w:Z}(d:Region.ready md ops c=[])(h:Q .normal a w):∀fuel,Fj P md ops Q S late fuel c a w
 | 0=>fun _=>⟨d,h⟩
 | _+1=>fun _=>⟨fun _=>h,by rw[d];simp⟩
def Sf{v:J}{i:Nat}{oi:Oper}{fuel:Nat}{d:Array Bool}{a:Ob}{w:Z}{G:Prop}(h:G)(o:Ni md ops late 12=true:=by kernel_rfl)(p:ops[i]?=I oi:=by(simp only[gA,gS,gZ];rfl))(f:late i=false:=by rfl)(g:Region.noSelect ops=true:=by kernel_rfl)(j:Region.free md ops d i=true:=by kernel_rfl)(k:(Region.ready md ops d).contains i=true:=by kernel_rfl)(h4:∀c a w,Q (.panic c) (a.put oi.dst v) w->Q (.panic c) a w:=by exact fun _ _ _ h=>h)(q:Region.wanted oi (yielded ops a.tmps)=true:=by rfl)(hy:∀w,S w->(execOp a.eval oi).run P w = .ok (.value v) w:=by(intro w e;simp only[Da,and_true]at e;go_simp;try(with_reducible rfl)))(h6:S w:=by(with_reducible assumption))(l:Fj P md ops Q S late fuel (d.setIfInBounds i true) (a.put oi.dst v) w=G:=by((try simp only[Act.put,sA,sZ,sS]);rfl)):Fj P md ops Q S late (fuel+1) d a w:=by subst l;exact Ol o p ⟨v,f,g,j,k,h4,Or.inl ⟨q,hy⟩,h6,h⟩
def Yh{v:J}{i:Nat}{oi:Oper}{fuel:Nat}{d:Array Bool}{a:Ob}{w:Z}{G:Prop}(h:G)(o:Ni md ops late 12=true:=by kernel_rfl)(p:ops[i]?=I oi:=by(simp only[gA,gS,gZ];rfl))(f:late i=false:=by rfl)(g:Region.noSelect ops=true:=by kernel_rfl)(j:Region.free md ops d i=true:=by kernel_rfl)(k:(Region.ready md ops d).contains i=true:=by kernel_rfl)(h4:∀c a w,Q (.panic c) (a.put oi.dst v) w->Q (.panic c) a w:=by exact fun _ _ _ h=>h)(q:Region.wanted oi (yielded ops a.tmps)=true:=by rfl)(hy:∀w,S w->(execOp a.eval oi).run P w = .ok (.value v) w:=by(intro w e;simp only[Da,and_true]at e;go_simp;try(with_reducible rfl)))(h6:S w:=by(with_reducible assumption))(l:io (i+1) (Fj P md ops Q S late fuel (d.setIfInBounds i true) (a.put oi.dst v) w)=G:=by((try simp only[Act.put,sA,sZ,sS,Nat.reduceAdd]);rfl)):io i (Fj P md ops Q S late (fuel+1) d a w):=by subst l;exact Ol o p ⟨v,f,g,j,k,h4,Or.inl ⟨q,hy⟩,h6,h⟩
def Jc{i:Nat}{o:Oper}{fuel:Nat}{c:Array Bool}{a:Ob}{w:Z}(h:∀K':Ob->Z->Prop,Shut (∀a w,(late i=false->S w)->((late i=false->S w)->Fj P md ops Q S late fuel (c.setIfInBounds i true) a w)->K' a w)->if Region.wanted o (yielded ops a.tmps)=true then Oper.wp P o a w K' Q else K' (a.put o.dst undef) w)(d:ops[i]?=I o:=by(simp only[gA,gS,gZ];rfl))(e:Region.ready md ops c=[i]:=by kernel_rfl):Fj P md ops Q S late (fuel+1) c a w:=pp d ⟨e,h⟩
def Wh{f:FuncId}{args:Array J}{Y:Ending->Z->Prop}{G:J->Z->Prop}{i:Nat}{o:Oper}{fuel:Nat}{c:Array Bool}{a:Ob}{w:Z}(l:Calls P f args w Y)(h:∀e w',Y e w'->∃v,e=.returned v/\S w'/\(S w'->G v w'))(p:ops[i]?=I o:=by(simp only[gA,gS,gZ];rfl))(s:Region.ready md ops c=[i]:=by kernel_rfl)(r:late i=false:=by rfl)(t:Region.wanted o (yielded ops a.tmps)=true:=by rfl)(u:(execOp a.eval o).run P w = .ok (.enter f args) w:=by(go_simp;try(with_reducible rfl)))(g:∀v w',Fj P md ops Q S late fuel (c.setIfInBounds i true) (a.put o.dst v) w'=G v w':=by(intro v w';(try simp only[Act.put,sA,sZ,sS]);rfl)):Fj P md ops Q S late (fuel+1) c a w:=by refine Jc (i:=i) (fun K j=>?_) p s;rw[if_pos t];unfold Oper.wp;rw[u,Oper.upon_enter];refine l.mono fun e w' x=>?_;obtain⟨v,rfl,k,q⟩:=h e w' x;exact Shut.out j _ _ (fun _=>k) (fun d=>by rw[g];exact q (d r))
def Tg{i j:Nat}{oi f:Oper}{fuel:Nat}{c:Array Bool}{a:Ob}{w:Z}(t:∀K':Ob->Z->Prop,Shut (∀a w,(late i=false->S w)->((late i=false->S w)->Fj P md ops Q S late fuel (c.setIfInBounds i true) a w)->K' a w)->if Region.wanted oi (yielded ops a.tmps)=true then Oper.wp P oi a w K' Q else K' (a.put oi.dst undef) w)(u:∀K':Ob->Z->Prop,Shut (∀a w,(late j=false->S w)->((late j=false->S w)->Fj P md ops Q S late fuel (c.setIfInBounds j true) a w)->K' a w)->if Region.wanted f (yielded ops a.tmps)=true then Oper.wp P f a w K' Q else K' (a.put f.dst undef) w)(v:ops[i]?=I oi:=by(simp only[gA,gS,gZ];rfl))(x:ops[j]?=I f:=by(simp only[gA,gS,gZ];rfl))(r:Region.ready md ops c=[i,j]:=by kernel_rfl) :
  Fj P md ops Q S late (fuel+1) c a w:=by
 intro q;refine⟨fun s=>absurd (r▸s) sM,fun k o=>?_⟩;have e:=o;rw[r]at o;rcases List.mem_cons.1 o with rfl|p
 ·exact wpOp_step v (fun K' g=>t K' (fun a w d l=>g a w ⟨d,l d (q.step e)⟩))
 ·cases List.mem_singleton.1 p;exact wpOp_step x (fun K' g=>u K' (fun a w d l=>g a w ⟨d,l d (q.step e)⟩))
def Nh{e:Nat}{a:Ob}{w:Z}(late:Nat->Bool)(S:Z->Prop)(d:P.follows .mixedOrders=true)(c:S w.drew)(h:S w.drew->Fj P .any ops Q S late ops.size (Array.replicate ops.size false) a w.drew):(Code.region e ops true).wp P Q a w:=
 wp_region_any d (mE _ _ _ _ (h c (Cl.start _)))
end
def td:Code->List Code
 | .seq a b=>td a++td b
 | .cond _ a b=>td a++td b
 | .block _ b=>td b
 | .loop b=>b::td b
 | .rangeFunc _ _ a b=>td a++td b
 | .scope b=>td b
 | _=>[]
def Pg(f:Func)(k:Nat):Code:=match f.body with|some c=>(td c).getD k .skip|none=>.skip
end
section
open Go.RowKit Go.Shelf
attribute [local go_sem] Oper.semAt_some
abbrev Bc:Nat:=400000
def qS(w:Z)(N:Int)(t4:J)(W:Z):Prop:=
 ∃p q:Int,p+q=N/\(q.natAbs:Int)<=p.natAbs/\Lm Bc p/\Lm Bc q/\t4=Oe (I ⟨w.heap.size+1+1,0,X⟩)/\Ba w W/\NB W w.heap.size p/\NB W (w.heap.size+1) q/\
  W.heap[w.heap.size+1+1]?=I (U #[M F 0,O X 0 0] 66 (0,0))
def pS(wc:Z)(d:Option Od)(e c f:Nat)(xs i:List Int)(σ:Int)(g:J)(wr:Z):Prop:=
 ∃(j:Nat)(a:List Int),g=M F j/\j<=f/\a.length=c/\Mb 3 wr wc.heap.size (O d c e) a/\dv C4 a=dv C4 xs+σ*dv C4 (i.take j)/\tj a j/\Ba wc wr
def ZL{xs a:List Int}(d:yg C4 xs)(hy:yg C4 a)(h:dv C4 a<=dv C4 xs):a.length<=xs.length:=by
 rcases Nat.lt_or_ge xs.length a.length with c|c
 ·have:=Gr (b:=C4) dM d.1 hy c;omega
 ·exact c
def ZE(n m:Int):n.sign*m.sign = -1\/n.sign*m.sign=0\/n.sign*m.sign=1:=by rcases Sh n with ⟨e,_⟩|⟨e,_⟩|⟨e,_⟩<;>rcases Sh m with ⟨a,_⟩|⟨a,_⟩|⟨a,_⟩<;>rw[e,a]<;>decide
def Xs{n:Int}(h:n≠0):n.sign=1\/n.sign = -1:=by rcases Sh n with ⟨e,_⟩|⟨e,a⟩|⟨e,_⟩<;>omega
def Mb.drew{T:TypeId}{w:Z}{base:Nat}{v:J}{xs:List Int}(h:Mb T w base v xs):Mb T w.drew base v xs:=h
def EF{w c:Z}{a:J}{xs:List Int}(h:Mb 3 c w.heap.size a ([]++xs)):Mb 3 c w.heap.size a xs:=h
def Ly(w:Z)(va vb:J)(t nb:Int)(ha:xd w va t)(hb:xd w vb nb)(aB:Lm Bc t)(aC:Lm Bc nb):Calls Tryz.prog 169 #[va,vb] w (Fk w (t+nb)):=by
 obtain⟨s,a,m,c,rfl,hs⟩:=ha.j;obtain⟨s',a',m',c',rfl,aV⟩:=hb.j;obtain⟨D,hD⟩:=gX (((t.natAbs:Int)-(nb.natAbs:Int)).sign);have HD:=Aa hD;have ag:=Aa aB;have ah:=Aa aC;clear hs aV hD aB aC;go_in;go_upto_if 10 with (go_at_call 191;(with_reducible refine(Ax _ (Oc #[M F s,O a m c]) (Oc #[M F s',O a' m' c']) t nb ?_ ?_).mono ?_);(refine ha.ext ?_;exact eA);(refine hb.ext ?_;exact eA);rw[HD.o];rintro e w1 ⟨rfl,z⟩;obtain⟨⟨aO,aR⟩,aI,aJ,aK⟩:=Yb w z);have r:NB w1 w.heap.size t:=(NB.new (W0:=w) ha rfl).ext eA;have aa:NB w1 (w.heap.size+1) nb:=(NB.new (W0:=w.alloc (U #[M F s,O a m c] 66)) (hb.ext eA) sM).ext eA;have ao:w1.heap[w.heap.size+1+1]?=I (U #[M F 0,O X 0 0] 66 (0,0)):=z.e (Ec _ _ _ sM);have X1:Ba w w1:=eA;go_cut [4] (qS w (t+nb))
 case first =>
  by_cases a4:D<0
  ·have ac:(t.natAbs:Int)<=nb.natAbs:=by
    have:=HD.o;rcases Sh ((t.natAbs:Int)-nb.natAbs)with ⟨e,_⟩|⟨e,_⟩|⟨e,_⟩<;>omega
   go_wp2;go_meet;refine⟨nb,t,by omega,ac,ah.o,ag.o,rfl,eA,?_,?_,?_⟩
   ·exact((r.put (hb.ext X1)).other (p:=⟨w.heap.size+1,0,X⟩) sM ((aa.not.set _ _).set _ _) _).other (p:=⟨w.heap.size+1,1,X⟩) sM (((aa.not.set _ _).set _ _).set _ _) _
   ·exact((aa.other (p:=⟨w.heap.size,0,X⟩) sM r.not _).other (p:=⟨w.heap.size,1,X⟩) sM (r.not.set _ _) _).put ((ha.ext X1).keep (((Ia.refl _ w1).x r.not _).x (r.not.set _ _) _))
   ·rw[bS _ _ _ _ sM,bS _ _ _ _ sM,bS _ _ _ _ dO,bS _ _ _ _ dO];exact ao
  ·have ac:(nb.natAbs:Int)<=t.natAbs:=by
    have:=HD.o;rcases Sh ((t.natAbs:Int)-nb.natAbs)with ⟨e,_⟩|⟨e,_⟩|⟨e,_⟩<;>omega
   go_wp2;go_meet;exact⟨t,nb,rfl,ac,ag.o,ah.o,rfl,X1,r,aa,ao⟩
 case rest =>
  clear r aa ao X1 z aO aR aI aJ aK ha hb ag ah HD;obtain⟨p,q,aF,al,aD,aT,rfl,hx,hp,hq,T⟩:=hcut;obtain⟨sp,ap,mp,cp,am,p0,p1,a7,a8,pz,az⟩:=hp.rd;obtain⟨sq,aq,mq,cq,an,q0,q1,a9,ba,qz,aA⟩:=hq.rd;obtain⟨xs,xl,xi,xc,xv⟩:=az.open;obtain⟨ys,yl,yi,yc,yv⟩:=aA.open;have hm:=Mo aD xc xv;have aU:=ZL xc yc (by rw[xv,yv];exact al);unfold Bc at hm;rw[xl]at hm;rw[xl,yl]at aU;have hσ:=ZE p q;rw[<-am,<-an]at hσ;obtain⟨σ,af⟩:=gX (sp*sq);rw[af]at hσ;have HP:=Aa aF;have ar:=Aa al;have aj:=Aa am;have aw:=Aa an;have Xl:=Aa xl;have Yl:=Aa yl;have Xv:=Aa xv;have Yv:=Aa yv;have k:=Aa T;have ai:=Aa af;have zc:=Gb T;clear aF al aD aT am an xl yl xv yv T af hp hq az aA;go_wp2_with(at_builtin;refine Mx Ok Tryz.underlying64 rfl _ _ rfl rfl (Mb.nil _ _ wc.heap.size) rfl xi (by rw[Xl.o];simp;omega) (nE _) ?_;intro v' w2 d R ay;replace d:=EF d;obtain⟨ga,gc,rfl⟩:=d.form;obtain⟨aP,aS⟩:=Ba.cells R);rw[Xl.o]at d ⊢;go_loopw [6] (pS wc ga gc mp mq xs ys σ) (fun t6 _=>mq-(intOf t6).toNat)
  case atStart=>exact⟨0,xs,rfl,by omega,Xl.o,d,by simp,tj.start xc.1,R⟩
  case round =>
   clear d R ay aP aS;obtain⟨j,os,rfl,hj,aE,d,l,ak,f⟩:=hrel;have e0:=f.d p0;have e1:=f.d p1;have e2:=f.d q0;have e3:=f.d q1;have ab:=Aa aE;have au:=Aa l;clear aE l;by_cases ac:j<mq
   ·obtain⟨b,o,rfl,aX,z⟩:=(yi.ext f).open (by rw[Yl.o];omega);obtain⟨g,rfl,hg,a2⟩:=d.blk (by rw[ab.o];omega);obtain⟨y,ae⟩:∃y,ys[j]?=I y:=⟨_,gE (by rw[Yl.o];omega)⟩;obtain⟨x,ad⟩:∃x,os[j]?=I x:=⟨_,gE (by rw[ab.o];omega)⟩;have aZ:=z j y ae;have aY:=d.cell ad;have a1:=d.frozen j;have aW:=yc.1 y (lM ae);have a6:=(ak j x ad).2.2 (nE _);unfold C4 at aW;obtain⟨u,hu⟩:=gX (σ*y);have a5:-10000<=u/\u<=10000:=by rcases hσ with h|h|h<;>subst h<;>omega
    have aL:=Aa ae;have ax:=Aa ad;have af:=ai.o;have g0:(0:Int)<=(j:Int):=oM;have g1:(j:Int)<(mq:Int):=oM;have g2:(j:Int)<(mp:Int):=oM;clear z ae ad;go_wp2;refine Nh (fun i=>decide (18<i)) (Da [(⟨g,j,X⟩,M F x),(⟨w.heap.size,0,X⟩,M F sp),(⟨w.heap.size+1,0,X⟩,M F sq),(⟨w.heap.size+1,1,X⟩,O (I ⟨b,o,X⟩) mq cq),(⟨b,o+j,X⟩,M F y)]) kM ?_ (fun aM=>?_)
    ·exact cA
    refine sN 0 ?_
    (iterate 19 refine Yh ?_);refine oN ?_;refine Jc (i:=19) fun K hK=>?_;go_simp;refine kO hK (fun h=>nomatch h) (fun aM=>?_);clear hK K;refine Kb kM ?_ _;go_wp2;go_roundw
    case rel =>
     exact⟨j+1,os.set j (x+σ*y),by go_num,by omega,by simp[ab.o],(d.stored j _).drew,GN ax.o aL.o au.o,ak.step ax.o (by rw[hu];omega) (by rw[hu];omega),(f.set (p:=⟨g,j,X⟩) hg _).drew⟩
    case measure=>simp[intOf];omega
   ·obtain rfl:j=mq:=oM;have l:dv C4 os=(p.natAbs:Int)+σ*(q.natAbs:Int):=by
     rw[au.o,Xv.o,lT (by rw[Yl.o];omega),Yv.o]
    obtain⟨v0,v1⟩:=mJ p q ar.o;rw[<-aj.o,<-aw.o,ai.o,<-l]at v0;rw[<-aj.o,<-aw.o,ai.o,<-l]at v1;have V1:=Aa v1;have av:=Aa l;have r0:=Ca (f.e k.o) (i:=0) (u:=M F 0) rfl;have r1:=Ca (f.e k.o) (i:=1) (u:=O X 0 0) rfl;have bb:=Ua (f.e k.o) 0;have bc:=Ua (f.e k.o) 1;have zr:=Gb (f.e k.o);have XW:Ba w wr:=hx.trans f;clear l v1;go_wp2_with(go_at_call 152;(with_reducible refine(Fv _ sp _ os (t+nb) d.ints (by rw[ab.o];omega) ak.big v0 (by rw[V1.o,HP.o]) (fun h9=>?_)).mono ?_);(rw[aj.o];refine Xs (fun h8=>h9 ?_);have:=ar.o;rw[av.o];rw[h8]at this ⊢;simp at this ⊢;rw[this];simp);rintro e w3 ⟨r3,rfl,aG,aH⟩;obtain⟨s3,a3,m3,c3,rfl,-⟩:=aG.j;obtain⟨aQ,a0⟩:=aH.cells);refine bR (v:=Oc #[M F s3,O a3 m3 c3]) (by simp[results,Tryz.results169,go_sem,aQ,zr,r0,r1]) rfl ⟨_,rfl,(aG.keep (Lo (aH.e (f.e k.o)) _ _)).mono XW.size,eA⟩
def OJ(w:Z)(e f:J)(a nb:Int)(g:xd w e a)(i:xd w f nb)(c:Lm Bc a)(d:Lm Bc nb):Calls Tryz.prog 169 #[e,f] w (Ih w (a+nb)):=Qu (Ly w e f a nb g i c d)
def Iy(w:Z)(va vb:J)(l nb:Int)(z:xd w va l)(K:xd w vb nb)(d:Lm Bc l)(f:Lm Bc nb):Calls Tryz.prog 151 #[va,vb] w (Fk w (l-nb)):=by
 obtain⟨s,a,m,c,rfl,hs⟩:=z.j;obtain⟨T,x,R,y,rfl,t⟩:=K.j;have o:=Aa d;have p:=Aa f.neg;rw[Int.sub_eq_add_neg];clear hs t d f;go_in;go_wp2;go_region_held3 (fun W=>W.cell? ⟨w.heap.size,0,X⟩=I (M F s)/\W.cell? ⟨w.heap.size,1,X⟩=I (O a m c)/\W.cell? ⟨w.heap.size+1,0,X⟩=I (M F T)/\W.cell? ⟨w.heap.size+1,1,X⟩=I (O x R y)) ((repeat' (with_reducible refine And.intro ?_ ?_))<;>(first|(go_simp;done)|(refine hx1.d ?_;go_simp;done))) (first|((go_at_call 193;(with_reducible refine(lr _ (Oc #[M F T,O x R y]) nb ?_).mono ?_);(refine K.ext ?_;exact eA);rintro e w1 ⟨r1,rfl,g,hx1⟩;obtain⟨s1,a1,m1,c1,rfl,-⟩:=g.j;obtain⟨⟨q,ae⟩,aa,ab,j⟩:=Yb w hx1))|((go_at_call 169;(with_reducible refine(Ly _ (Oc #[M F s,O a m c]) (Oc #[M F s1,O a1 m1 c1]) l (-nb) ?_ ?_ o.o p.o).mono ?_);(refine z.ext ?_;exact eA);(refine g.ext ?_;exact eA);rintro e w2 ⟨r2,rfl,i,u⟩;obtain⟨s2,a2,m2,c2,rfl,-⟩:=i.j;obtain⟨⟨r,af⟩,ac,ad,k⟩:=Yb w u)))
 all_goals go_wp2
 exact bR (v:=Oc #[M F s2,O a2 m2 c2]) (by simp[results,Tryz.results151,go_sem,q,r,j,k]) rfl ⟨_,rfl,(i.keep kA).mono (by have:=hx1.size;simp at this;omega),eA⟩
def Pv(w:Z)(e f:J)(a nb:Int)(g:xd w e a)(i:xd w f nb)(c:Lm Bc a)(d:Lm Bc nb):Calls Tryz.prog 151 #[e,f] w (Ih w (a-nb)):=Qu (Iy w e f a nb g i c d)
def mH(s:Int)(a:Option Od)(m c:Nat)(w:Z):(Instr.field 66 (Oc #[M F s,O a m c]) 0).run Tryz.prog w = .ok (M F s) w:=kM
def MB(w:Z)(r t:J)(i nb:Int)(p:xd w r i)(q:xd w t nb)(d:Lm Bc i)(f:Lm Bc nb):Calls Tryz.prog 79 #[r,t] w fun e w'=>e=.returned (M F (i-nb).sign)/\Ba w w':=by obtain⟨s,a,m,c,rfl,T⟩:=p.j;obtain⟨s',x,m',y,rfl,l⟩:=q.j;have j:=Aa d;have k:=Aa f;clear T l d f;have R:=mH;go_in;go_wp2_with((go_at_call 151;(with_reducible refine(Pv _ (Oc #[M F s,O a m c]) (Oc #[M F s',O x m' y]) i nb ?_ ?_ j.o k.o).mono ?_);(refine p.ext ?_;exact eA);(refine q.ext ?_;exact eA);rintro e w1 ⟨r1,rfl,g,o⟩;obtain⟨s1,a1,m1,c1,rfl,-⟩:=g.j;obtain⟨⟨z,K⟩,u,v⟩:=Zb w o));go_ret;exact⟨Ij (Nj (g.sgn)),eA⟩
end
section
open Go.RowKit Go.Shelf Go.Sort Go.Lib
def ic(z:Int):List J:=[M F z]
def CH:(Tryz.prog.info? 3).map (fun i=>(i.zero,i.size,i.bytes))=I (I (M F 0),1,8):=kM
def Tu{zs:List Int}:∀c∈zs.map ic,c.length=1:=by intro c a;obtain⟨z,_,rfl⟩:=List.mem_map.1 a;rfl
def ut(zs:List Int):(zs.map ic).flatten=zs.map (Value.int F):=by
 induction zs with
 | nil=>rfl
 | cons z zs a=>simp[ic,a]
def XG{zs:List Int}:∀u∈(zs.map ic).flatten,u.oneCell'=true:=by intro u a;rw[ut]at a;obtain⟨z,_,rfl⟩:=List.mem_map.1 a;rfl
def Ka.ints{w:Z}{base g n c:Nat}{zs:List Int}(h:Ka 3 1 w base (O (I ⟨g,0,X⟩) n c) (zs.map ic)):base<=g/\g<w.heap.size/\n=zs.length/\zs.length<=c/\c<=maxLen/\Holds (Value.int F) w g 0 zs.toArray/\∃cur,w.heap[g]?=I (U cur 3 (0,0))/\cur.size=c*1/\cur.toList.take zs.length=zs.map (Value.int F):=by
 rcases h.2.2 with ⟨k,_⟩|⟨o,j,cur,hv,l,i,d,e,f,a⟩
 ·cases k
 ·cases hv;rw[ut,lL,Nat.mul_one]at a;rw[lL]at d;exact⟨l,Gb i,lL ..,d,e,holds_of_blockI i a,cur,i,f,a⟩
def pg(zs:List Int):List Int:=zs.mergeSort fun x y=>decide (x<=y)
def Ar(zs:List Int):(pg zs).length=zs.length:=List.length_mergeSort _
def Eh{zs:List Int}{z:Int}:z∈pg zs ↔ z∈zs:=List.mem_mergeSort
def rM(w:Z)(base g n c:Nat)(zs:List Int)(h:Ka 3 1 w base (O (I ⟨g,0,X⟩) n c) (zs.map ic))(p:zs.length<=1000000000):Calls Tryz.prog 172 #[O (I ⟨g,0,X⟩) n c] w fun e a=>e=.returned (.tuple #[])/\Ka 3 1 a base (O (I ⟨g,0,X⟩) n c) ((pg zs).map ic)/\w.grownBy a (I g):=by obtain⟨d,f,rfl,i,j,k,cur,h6,l,o⟩:=h.ints;refine(Tryz.slices_Sort_int g 0 c zs w k f oM).mono ?_;rintro e a ⟨rfl,n,os,rfl⟩;refine⟨rfl,⟨Tu,?_⟩,grownBy_sortedI _⟩;have:=ownsRow_sortedI (base:=base) (n:=n) (os:=os) (ss:=zs) (ts:=pg zs) (Ar zs) d h6 i j l;rw[ut,lL,Ar];exact this
def PE(zs:List Int):(compact zs).length<=zs.length:=by unfold compact compactUpTo;rw[lL];exact nT (List.length_filter_le _ _) sM
def OE{zs:List Int}{z:Int}(h:z∈compact zs):z∈zs:=by unfold compact compactUpTo at h;obtain⟨i,a,rfl⟩:=List.mem_map.1 h;have:=List.mem_range.1 (List.mem_filter.1 a).1;rw[getElem!_pos _ _ (by simpa using this)];simp
def DO{zs:List Int}(h:zs≠[]):compact zs≠[]:=by obtain⟨z,r,rfl⟩:=List.exists_cons_of_ne_nil h;intro a;unfold compact compactUpTo at a;have c:=List.map_eq_nil_iff.1 a;have d:=(List.filter_eq_nil_iff.1 c) 0 sM;simp[keeps]at d
def rP(w:Z)(base g n c:Nat)(zs:List Int)(h:Ka 3 1 w base (O (I ⟨g,0,X⟩) n c) (zs.map ic))(u:zs.length<=1000000000):Calls Tryz.prog 173 #[O (I ⟨g,0,X⟩) n c] w fun e a=>e=.returned (O (I ⟨g,0,X⟩) (compact zs).length c)/\Ka 3 1 a base (O (I ⟨g,0,X⟩) (compact zs).length c) ((compact zs).map ic)/\w.grownBy a (I g):=by
 obtain⟨i,r,rfl,j,k,l,cur,h6,o,s⟩:=h.ints;refine(Tryz.slices_Compact_int g 0 c zs w l oM j).mono ?_;rintro e a ⟨rfl,q,rfl⟩;have t:=PE zs;have p:∀d,w.grownBy (putRow (Value.int F) (Sort.ahead w q) g 0 d) (I g):=fun d=>by
  have:=grownBy_sortedI (w:=w) (g:=g) (n:=q) (os:=#[]) d
  rwa [grow_empty]at this
 refine⟨rfl,⟨Tu,?_⟩,p _⟩;rw[ut,lL];refine⟨by simp,.inr ⟨g,c,putCells (Value.int F) 0 (compact zs++List.replicate (zs.length-(compact zs).length) 0).toArray cur,rfl,i,?_,by omega,k,?_,?_⟩⟩
 ·have:=heap_sortedI (n:=q) (os:=#[]) (compact zs++List.replicate (zs.length-(compact zs).length) 0).toArray h6
  rwa [grow_empty]at this
 ·simp[putCells,o]
 ·have:=take_putCellsI cur (compact zs++List.replicate (zs.length-(compact zs).length) 0) (by simp;omega);have f:=congrArg (List.take (compact zs).length) this;rw[List.take_take,lA,Nat.min_eq_left oM,List.map_append,List.take_left' sM]at f;rw[Nat.mul_one];exact f
end
section
open Go.RowKit Go.Shelf
def Ti(md:Region.Mode)(ops:Array Oper)(pv i:Nat):Bool:=match ops[pv]? with|some o=>o.after.toList.any (fun e=>Region.binds md e&&e.on==i)|none=>false
section
variable {P:Program} {ops:Array Oper} {Q:Exit->Ob->Z->Prop} {md:Region.Mode} {A B:Z->Prop} {pv:Nat}
def HV(P:Program)(md:Region.Mode)(ops:Array Oper)(Q:Exit->Ob->Z->Prop)(A B:Z->Prop)(pv:Nat):Nat->Array Bool->Ob->Z->Prop
 | 0,c,a,w=>Region.ready md ops c=[]/\Q .normal a w
 | fuel+1,c,a,w =>
  (Region.ready md ops c=[]->Q .normal a w)/\
  ∀i∈Region.ready md ops c,wpOp P ops Q i (fun e d=>(A d/\((c.setIfInBounds i true).getD pv false=false->B d))/\HV P md ops Q A B pv fuel (c.setIfInBounds i true) e d) a w
def lE:∀(fuel:Nat)(c:Array Bool)(a:Ob)(w:Z),HV P md ops Q A B pv fuel c a w->wpAny P md ops Q fuel c a w
 | 0,_,_,_,h=>h
 | fuel+1,_,_,_,h=>⟨h.1,fun i f=>wpOp_mono (fun d g e=>lE fuel _ d g e.2) (h.2 i f)⟩
def tA{a:Array Bool}{i:Nat}(k:Cl md ops a)(c:Ti md ops pv i=true)(j:a.getD i true=false):a.getD pv false=false:=by
 cases h:a.getD pv false with
 | false=>rfl
 |true=>
  unfold Ti at c;cases ho:ops[pv]? with
  | none=>rw[ho]at c;cases c
  | some o =>
   rw[ho]at c;obtain⟨e,l,g⟩:=List.any_eq_true.1 c;rw[Bool.and_eq_true,beq_iff_eq]at g;have d:=k pv o ho h e (by simpa using l) g.1;rw[g.2]at d;rcases Nat.lt_or_ge i a.size with f | f
   ·simp[f]at j d;rw[j]at d;cases d
   ·simp[Array.getElem?_eq_none f]at j
def FL{i:Nat}{oi:Oper}{v:J}{f:Bool}(ag:i≠pv)(he:f=true->Ti md ops pv i=true)(hi:ops[i]?=I oi)(x:∀(j:Nat)(o:Oper) T b,ops[j]?=I o->o.op ≠ .select T b)(hQ:∀c a w,Q (.panic c) (a.put oi.dst v) w->Q (.panic c) a w):∀(fuel:Nat)(d:Array Bool)(a:Ob)(w:Z),Cl md ops d ->(∀j oj,ops[j]?=I oj->j≠i->d.getD j true=false->(∀e∈oj.after,Region.binds md e=true->e.on≠i)->oi.apart ops oj=true) ->i∈Region.ready md ops d->YieldsIf P ops (fun w=>A w/\(f=true->B w)) oi v a->(A w/\(d.getD pv false=false->B w)) ->HV P md ops Q A B pv fuel (d.setIfInBounds i true) (a.put oi.dst v) w->HV P md ops Q A B pv (fuel+1) d a w:=by
 have q:∀l:Array Bool,(l.setIfInBounds i true).getD pv false=l.getD pv false:=fun l=>getD_set_ne false ag;intro fuel;induction fuel with
 |zero=>
  intro d a w hc _ t hy r H;have K:A w/\(f=true->B w):=⟨r.1,fun h=>r.2 (tA hc (he h) (mem_ready.1 t).1)⟩;refine⟨fun h=>(by rw[h]at t;cases t),fun j hj=>?_⟩;by_cases g:j=i
  ·subst g;exact hy.wpOp hi K ⟨⟨r.1,fun h=>r.2 (by rw[q]at h;exact h)⟩,H⟩
  ·have:=ready_mono hj g;rw[H.1]at this;cases this
 | succ fuel ih =>
  intro d a w hc p t hy r H;have K:A w/\(f=true->B w):=⟨r.1,fun h=>r.2 (tA hc (he h) (mem_ready.1 t).1)⟩;refine⟨fun h=>(by rw[h]at t;cases t),fun j hj=>?_⟩;by_cases g:j=i
  ·subst g;exact hy.wpOp hi K ⟨⟨r.1,fun h=>r.2 (by rw[q]at h;exact h)⟩,H⟩
  ·have y:=H.2 j (ready_mono hj g);obtain⟨u,oj,R,ab⟩:=mem_ready.1 hj;have ad:∀e∈oj.after,Region.binds md e=true->e.on≠i:=fun e he hb af=>by
    have y:=ab e he hb;have h0:=(mem_ready.1 t).1;rw[af]at y;rcases Nat.lt_or_ge i d.size with h' | h'
    ·simp[h']at h0 y;rw[h0]at y;cases y
    ·simp[Array.getElem?_eq_none h']at y
   have h2:=wpOp_putIf R (p j oj R g u ad) (fun T b=>x i oi T b hi) (fun T b=>x j oj T b R) hQ hy y;have s:∀k ok,ops[k]?=I ok->k≠i->(d.setIfInBounds j true).getD k true=false ->
     (∀e∈ok.after,Region.binds md e=true->e.on≠i)->oi.apart ops ok=true:=fun k ok hk ah ae ai=>by
    refine p k ok hk ah ?_ ai;by_cases ac:j=k
    ·subst ac;exact u
    ·rw[getD_set_ne true ac]at ae;exact ae
   refine wpOp_mono (fun a' w' h3=>?_) h2;obtain⟨aj,⟨aa,z⟩,hH⟩:=h3;rw[Array.setIfInBounds_comm _ _ (Ne.symm g),q]at z;refine⟨⟨aa,z⟩,ih (d.setIfInBounds j true) a' w' (hc.step hj) s (ready_mono t (Ne.symm g)) aj ⟨aa,z⟩ ?_⟩;rw[Array.setIfInBounds_comm _ _ g];exact hH
def pq(P:Program)(md:Region.Mode)(ops:Array Oper)(Q:Exit->Ob->Z->Prop)(A B:Z->Prop)(pv:Nat)(fuel:Nat)(c:Array Bool)(a:Ob)(w:Z):Prop:=Cl md ops c->HV P md ops Q A B pv fuel c a w
def jp{c:Array Bool}{a:Ob}{w:Z}(d:Region.ready md ops c=[])(h:Q .normal a w):∀fuel,pq P md ops Q A B pv fuel c a w
 | 0=>fun _=>⟨d,h⟩
 | _+1=>fun _=>⟨fun _=>h,by rw[d];simp⟩
def vj{v:J}{i:Nat}{oi:Oper}{fuel:Nat}{d:Array Bool}{a:Ob}{w:Z}(e:Bool){G:Prop}(h:G)(j:i≠pv:=by decide)(u:e=true->Ti md ops pv i=true:=by(intro h;first|(cases h;done)|kernel_rfl))(l:ops[i]?=I oi:=by(simp only[gA,gS,gZ];rfl))(p:Region.noSelect ops=true:=by kernel_rfl)(q:Region.free md ops d i=true:=by kernel_rfl)(r:(Region.ready md ops d).contains i=true:=by kernel_rfl)(h4:∀c a w,Q (.panic c) (a.put oi.dst v) w->Q (.panic c) a w:=by exact fun _ _ _ h=>h)(x:Region.wanted oi (yielded ops a.tmps)=true:=by rfl)(hy:∀w,A w->(e=true->B w)->(execOp a.eval oi).run P w = .ok (.value v) w:=by(intro w g f;(first|(have f:=f rfl;simp only[Da,and_true]at g f)|(simp only[Da,and_true]at g));go_simp;try(with_reducible rfl)))(h6:A w:=by(with_reducible assumption))(s:d.getD pv false=false->B w:=by(first|exact fun _=>(by with_reducible assumption)|exact fun h=>nomatch h))(t:pq P md ops Q A B pv fuel (d.setIfInBounds i true) (a.put oi.dst v) w=G:=by((try simp only[Act.put,sA,sZ,sS]);rfl)):pq P md ops Q A B pv (fuel+1) d a w:=by
 subst t;intro k;have o:i∈Region.ready md ops d:=by simpa using r
 exact FL j u l (Region.noSelect_spec p) h4 fuel d a w k (Region.free_spec l q) o (Or.inl ⟨x,fun w h=>hy w h.1 h.2⟩) ⟨h6,s⟩ (h (k.step o))
def jF{i:Nat}{o:Oper}{fuel:Nat}{c:Array Bool}{a:Ob}{w:Z}(h:∀K':Ob->Z->Prop,Shut (∀a w,(A w/\((c.setIfInBounds i true).getD pv false=false->B w))->((A w/\((c.setIfInBounds i true).getD pv false=false->B w))->pq P md ops Q A B pv fuel (c.setIfInBounds i true) a w)->K' a w)->if Region.wanted o (yielded ops a.tmps)=true then Oper.wp P o a w K' Q else K' (a.put o.dst undef) w)(r:ops[i]?=I o:=by(simp only[gA,gS,gZ];rfl))(g:Region.ready md ops c=[i]:=by kernel_rfl):pq P md ops Q A B pv (fuel+1) c a w:=by intro q;refine⟨fun k=>absurd (g▸k) sM,fun j d=>?_⟩;have e:=d;rw[g]at d;cases List.mem_singleton.1 d;exact wpOp_step r (fun K' l=>h K' (fun a w f p=>l a w ⟨f,p f (q.step e)⟩))
def CP{f:Nat}{a:Ob}{w:Z}(A B:Z->Prop)(pv:Nat)(e:P.follows .mixedOrders=true)(c:A w.drew)(d:B w.drew)(h:A w.drew->B w.drew->pq P .any ops Q A B pv ops.size (Array.replicate ops.size false) a w.drew):(Code.region f ops true).wp P Q a w:=
 wp_region_any e (lE _ _ _ _ (h c d (Cl.start _)))
end
end
section
open Go.RowKit Go.Shelf Go.Sort Go.Lib
def Ka.keepT{T T':TypeId}{k:Nat}{w w':Z}{base:Nat}{v:J}{cs:List (List J)}(h:Ka T k w base v cs)(g:T≠T')(d:w.grownBy w' v.ownBlock):Ia T' w w':=fun b q r a=>by
 rw[d.block b (Gb a) (fun e=>?_)];exact a;rcases h.2.2 with ⟨f,_⟩|⟨s,c,cur,hv,d,l,o,i,j,p⟩
 ·rw[f]at e;cases e
 ·rw[hv]at e;cases e;rw[l]at a;cases a;exact g rfl
def Ef(w:Z)(base:Nat)(v:J)(qs:List Rat):Prop:=∃cs,Ka 63 3 w base v cs/\cs.length=qs.length/\∀(i:Nat) c q,cs[i]?=I c->qs[i]?=I q->PR w c q
def Ef.rs{w:Z}{base:Nat}{v:J}{qs:List Rat}(h:Ef w base v qs):Kh w v qs:=by obtain⟨e,a,c,d⟩:=h;exact a.sl c d
def Ef.ext{w w':Z}{base:Nat}{v:J}{qs:List Rat}(h:Ef w base v qs)(k:Ba w w'):Ef w' base v qs:=by obtain⟨a,d,e,f⟩:=h;exact⟨a,d.ext k,e,fun i c q g j=>Ab.ext (f i c q g j) k⟩
def Ef.mono{w:Z}{base b':Nat}{v:J}{qs:List Rat}(h:Ef w base v qs)(k:b'<=base):Ef w b' v qs:=by obtain⟨a,c,d,e⟩:=h;exact⟨a,c.mono k,d,e⟩
def Ef.nil(w:Z)(base:Nat):Ef w base (O X 0 0) []:=⟨[],Ka.nil _ _ _ _,rfl,fun i c q a=>by simp at a⟩
def yo(w:Z)(qs:List Rat)(e:Ending)(w':Z):Prop:=∃v,e=.returned v/\Ef w' w.heap.size v qs/\Ba w w'
def WG:(Tryz.prog.info? 63).map (fun i=>(i.zero,i.size,i.bytes))=I (I (Oc #[O X 0 0,Oa false,O X 0 0]),3,56):=kM
def Rb.atE{x:Rat}{e:Gj}(q:Rb 1 x)(h:Bd 104000 e.1.1/\Bd 104000 e.1.2/\Bd 104000 e.2.1/\Bd 104000 e.2.2):Rb 11 (Cop.Oi x e):=by
 obtain⟨o,p,r,s⟩:=h;have i:Bd 208000 (e.2.2-e.1.2):=by unfold Bd at *;omega
 have l:Bd 208000 (e.2.1-e.1.1):=by unfold Bd at *;omega
 unfold Cop.Oi;have a:=Rb.sub (k:=1) q (Rg o);have c:=Rb.mul (j:=3) (k:=1) a (Rg i);have d:=Rb.div (j:=4) (k:=1) c (Rg l) oM;have f:=(Rg p).mono (k:=5) oM;have g:=Rb.add (k:=5) f d;exact g
def Rb.atR{x:Rat}{ps:LP}(d:Rb 1 x)(h:mc ps):Rb 11 (Cop.Yd ps x):=by
 unfold Cop.Yd;cases hf:(Qe ps).find? (Oh x)with
 | some e=>exact d.atE (jt h.2.1 (List.mem_of_find?_eq_some hf))
 |none=>
  have f:0<ps.length:=by
   rcases Nat.eq_zero_or_pos ps.length with a|a
   ·exact absurd (List.eq_nil_of_length_eq_zero a) h.1
   ·exact a
  have c:ps.getD (ps.length-1) (0,0)∈ps:=by
   rw[gD,gE oM,Option.getD_some];exact List.getElem_mem _
  exact(Rg (h.2.1 _ c).2).mono oM
def DB{ps:LP}(h:mc ps):Bd 104000 (Ra ps)/\Bd 104000 (Ya ps):=by
 have e:0<ps.length:=by
  rcases Nat.eq_zero_or_pos ps.length with a|a
  ·exact absurd (List.eq_nil_of_length_eq_zero a) h.1
  ·exact a
 have c:∀i,i<ps.length->ps.getD i (0,0)∈ps:=fun i d=>by
  rw[gD,gE d,Option.getD_some];exact List.getElem_mem _
 exact⟨(h.2.1 _ (c 0 e)).1,(h.2.1 _ (c _ oM)).1⟩
def Nb(ps qs:LP):Sp:=⟨ps,qs,max (Ra ps) (Ra qs),min (Ya ps) (Ya qs)⟩
def Hi(s:Sp)(a c:J):J:=Oc #[a,c,M F s.lo,M F s.hi]
def Gk(w:Z)(a c:J)(s:Sp)(e:Ending)(w':Z):Prop:=e=.returned (.tuple #[Hi s a c,Oa (decide (s.lo<s.hi))])/\Ba w w'
def xr(w:Z)(v1 v2:J)(ps qs:LP)(h1:Ja w v1 ps)(h2:Ja w v2 qs)(k1:0<ps.length)(k2:0<qs.length):Calls Tryz.prog 58 #[v1,v2] w (Gk w v1 v2 (Nb ps qs)):=by
 have H1:=Aa (fun(W:Z)(c:Ba w W)=>Po W v1 ps (h1.f c) k1);have H2:=Aa (fun(W:Z)(c:Ba w W)=>Po W v2 qs (h2.f c) k2);have H3:=Aa (fun(W:Z)(c:Ba w W)=>Yp W v1 ps (h1.f c) k1);have H4:=Aa (fun(W:Z)(c:Ba w W)=>Yp W v2 qs (h2.f c) k2);obtain⟨o,t,rfl⟩:=h1.form;obtain⟨p,x,rfl⟩:=h2.form;obtain⟨R,hR⟩:=gX (Gk w (O o ps.length t) (O p qs.length x) (Nb ps qs));rw[hR];have HR:=Aa hR;clear hR;unfold Nb at HR;obtain⟨l1,e1⟩:=gX (Ra ps);obtain⟨l2,e2⟩:=gX (Ra qs);obtain⟨r1,e3⟩:=gX (Ya ps);obtain⟨r2,e4⟩:=gX (Ya qs);obtain⟨T,f1⟩:=gX ps.length;obtain⟨n2,f2⟩:=gX qs.length;rw[e1,e2,e3,e4]at HR;rw[e1]at H1;rw[e2]at H2;rw[e3]at H3;rw[e4]at H4;simp only[f1,f2]at H1 H2 H3 H4 HR h1 h2 ⊢;clear e1 e2 e3 e4 f1 f2 h1 h2 k1 k2;go_in;go_wp2_with(first|(go_at_call 86;(with_reducible refine(H1.o _ ?_).mono ?_);exact eA;rintro e w3 ⟨rfl,d⟩;obtain⟨ae,ai⟩:=d.cells)|(go_at_call 86;(with_reducible refine(H2.o _ ?_).mono ?_);exact eA;rintro e w4 ⟨rfl,f⟩;obtain⟨af,aj⟩:=f.cells)|(go_at_call 87;(with_reducible refine(H3.o _ ?_).mono ?_);exact eA;rintro e w5 ⟨rfl,g⟩;obtain⟨ag,ak⟩:=g.cells)|(go_at_call 87;(with_reducible refine(H4.o _ ?_).mono ?_);exact eA;rintro e y ⟨rfl,j⟩;obtain⟨ah,al⟩:=j.cells));obtain⟨s,ab⟩:=gX (max l1 l2);obtain⟨r,aa⟩:=gX (min r1 r2);rw[ab,aa]at HR ⊢;have ac:Ba w y:=(((((eR w).alloc _).trans d).trans f).trans g).trans j;have ao:w.heap.size<y.heap.size:=by have:=d.size;have:=f.size;have:=g.size;have:=j.size;simp only[wZ]at *;omega
 have hO:y.heap[w.heap.size]?=I (U #[O X 0 0,O X 0 0,M F 0,M F 0] 138 (0,0)):=j.e (g.e (f.e (d.e (aN _ _))));clear ae ai af aj ag ak ah al H1 H2 H3 H4 ab aa d f g j;obtain⟨W,c⟩:=gX ((y.alloc (U #[O o T t,O p n2 x,M F s,M F r] 138)));have z:W.heap[y.heap.size]?=I (U #[O o T t,O p n2 x,M F s,M F r] 138 (0,0)):=by rw[<-c];exact aN _ _
 have a:W.heap[w.heap.size]?=I (U #[O X 0 0,O X 0 0,M F 0,M F 0] 138 (0,0)):=by rw[<-c];exact((eR y).alloc _).e hO
 have an:Ba w W:=by rw[<-c];exact ac.alloc _
 rw[c];clear c hO ac;have b0:=Ca z (i:=0) (u:=O o T t) rfl;have b1:=Ca z (i:=1) (u:=O p n2 x) rfl;have b2:=Ca z (i:=2) (u:=M F s) rfl;have b3:=Ca z (i:=3) (u:=M F r) rfl;have f0:=Ua a 0;have f1:=Ua a 1;have f2:=Ua a 2;have f3:=Ua a 3;have o0:=Ca a (i:=0) (u:=O X 0 0) rfl;have o1:=Ca a (i:=1) (u:=O X 0 0) rfl;have o2:=Ca a (i:=2) (u:=M F 0) rfl;have o3:=Ca a (i:=3) (u:=M F 0) rfl;have HB:=Aa z;clear z a;obtain⟨l,am⟩:=gX y.heap.size;simp only[am]at *;refine Kc [(⟨l,0,X⟩,O o T t),(⟨l,1,X⟩,O p n2 x),(⟨l,2,X⟩,M F s),(⟨l,3,X⟩,M F r)] cA fun ad=>?_;refine sN 0 ?_
 iterate 6 refine xb ?_
 refine oN ?_;have k:∀q∈[((⟨l,0,X⟩:Od),Value.slice o T t),(⟨l,1,X⟩,O p n2 x),(⟨l,2,X⟩,M F s),(⟨l,3,X⟩,M F r)],w.heap.size≠q.1.block:=by
  intro q hq;simp at hq;rcases hq with rfl|rfl|rfl|rfl<;>(dsimp only;omega)
 refine Ld (i:=6) fun K hK=>?_;go_simp;refine kO hK ((((Da.set (by assumption) k _).set k _).set k _).set k _) (fun ad=>?_);clear hK K;refine Db (i:=7) ?_;refine Wb ?_;go_wp2;refine bR (v:=.tuple #[Oc #[O o T t,O p n2 x,M F s,M F r],Oa (decide (s<r))]) (by simp[results,Tryz.results58,go_sem,o0,o1,o2,o3,f0,f1,f2,f3]) rfl ?_;rw[<-HR.o];exact⟨rfl,((((an.set dO _).set dO _).set dO _).set dO _).drew⟩
def Da.grown:∀{L:List (Od×J)}{W W':Z}{row:Option Nat},Da L W->W.grownBy W' row->(∀q∈L,I q.1.block≠row)->Da L W'
 | [],_,_,_,_,_,_=>trivial
 | (a,v)::r,W,W',row,⟨h1,h2⟩,hg,hn=>by
  refine⟨?_,h2.grown hg (fun q d=>hn q (mC _ d))⟩;have c:=World.block_lt_of_cell? _ _ h1;rw[<-h1];unfold World.cell?;rw[hg.block _ c (hn (a,v) sM)]
def kJ(t:Array J)(n:Nat)(h:t.size=n):t=((List.range n).map fun k=>t.getD k undef).toArray:=by
 apply Array.ext
 ·simp[h]
 ·intro i a c;simp[Array.getD,a]
def Pk{W:Z}{b:Nat}{cs:Array J}{T:TypeId}{a:Nat×Nat}(h:W.heap[b]?=I (U cs T a))(i:Nat)(u:J):(W.setCell ⟨b,i,X⟩ u).heap[b]?=I (U (cs.setIfInBounds i u) T a):=by simp[World.setCell,Array.getElem?_modify,h]
def zM(w:Z)(o a:Obj):((w.alloc o).alloc a).heap[w.heap.size]?=I o:=by rw[Ag,if_neg sM];exact aN w o
def yM(w:Z)(o a:Obj):((w.alloc o).alloc a).heap[w.heap.size+1]?=I a:=Ec _ _ _ sM
def Hh(t:Array J)(n:Nat)(h:t.size=n):∃u:Nat->J,(∀k,t.getD k undef=u k)/\t=((List.range n).map u).toArray:=⟨fun k=>t.getD k undef,fun _=>rfl,kJ t n h⟩
def OK(w:Z)(o a:Obj):((w.alloc o).alloc a).heap[w.heap.size]?=I o:=by rw[Ag,if_neg sM];exact aN w o
def Fw(w:Z)(o a:Obj):((w.alloc o).alloc a).heap[w.heap.size+1]?=I a:=Ec _ _ _ sM
end
section
open Go.RowKit Go.Shelf
section
variable {P:Program} {ops:Array Oper} {Q:Exit->Ob->Z->Prop} {md:Region.Mode} {A B C:Z->Prop} {pv pc:Nat}
def Ox(A B C:Z->Prop)(pv pc:Nat)(a:Array Bool)(w:Z):Prop:=A w/\(a.getD pv false=false->B w)/\(a.getD pc false=false->C w)
def HX(P:Program)(md:Region.Mode)(ops:Array Oper)(Q:Exit->Ob->Z->Prop)(A B C:Z->Prop)(pv pc:Nat):Nat->Array Bool->Ob->Z->Prop
 | 0,c,a,w=>Region.ready md ops c=[]/\Q .normal a w
 | fuel+1,c,a,w =>
  (Region.ready md ops c=[]->Q .normal a w)/\
  ∀i∈Region.ready md ops c,wpOp P ops Q i (fun e d=>Ox A B C pv pc (c.setIfInBounds i true) d/\HX P md ops Q A B C pv pc fuel (c.setIfInBounds i true) e d) a w
def Bp(P:Program)(md:Region.Mode)(ops:Array Oper)(Q:Exit->Ob->Z->Prop)(A B C:Z->Prop)(pv pc:Nat)(fuel:Nat)(c:Array Bool)(a:Ob)(w:Z):Prop:=Cl md ops c->HX P md ops Q A B C pv pc fuel c a w
end
section
variable {P:Program} {ops:Array Oper} {Q:Exit->Ob->Z->Prop} {md:Region.Mode} {S:Z->Prop} {fl:List (Nat×Tmp×Obj)} {w0:Z} {late:Nat->Bool}
def Tl(fl:List (Nat×Tmp×Obj))(i:Nat):Bool:=fl.any (·.1==i)
def Ui(md:Region.Mode)(ops:Array Oper)(fl:List (Nat×Tmp×Obj))(L:Array Bool):List Nat:=(Region.ready md ops L).filter fun i=>!Tl fl i
def ip(ops:Array Oper)(f:Nat):Option Tmp:=(ops[f]?).bind (·.dst)
def ik(b:Nat):List (Nat×Nat)->Prop
 | []=>True
 | x::l=>(b<x.1\/x.2<=b)/\ik b l
def Ki(P:Program)(md:Region.Mode)(ops:Array Oper)(Q:Exit->Ob->Z->Prop)(S:Z->Prop)(w0:Z)(k:Nat)(c:List (Nat×Nat)):List (Nat×Tmp×Obj)->List Nat->Array Bool->Ob->Z->Prop
 | [],_,L,a,W=>wpAnyH P md ops Q S k L a W
 | (f,d,o)::fl,bs,L,a,W=>∀b,W.heap[b]?=I o->w0.heap.size<=b->b ∉ bs->ik b c->Ki P md ops Q S w0 k c fl (b::bs) (L.setIfInBounds f true) (a.put (I d) (Oe (I ⟨b,0,X⟩))) W
def kl(a:List (Nat×Nat))(w0 W w':Z):Prop:=Ba w0 w'/\W.heap.size<=w'.heap.size/\∀k,k<W.heap.size->ik k a->w'.heap[k]?=W.heap[k]?
def kl.of{d:List (Nat×Nat)}{w0 W w':Z}(a:Ba w0 W)(h:Ba W w'):kl d w0 W w':=⟨a.trans h,h.size,fun k c _=>h.block c⟩
def GF(P:Program)(md:Region.Mode)(ops:Array Oper)(Q:Exit->Ob->Z->Prop)(S:Z->Prop)(d:Nat->Bool)(fl:List (Nat×Tmp×Obj))(w0:Z):Nat->List (Nat×Nat)->Array Bool->Ob->Z->Prop
 | 0,f,L,a,w=>Ui md ops fl L=[]/\∀W,Ba w W->Ba w0 W->Ki P md ops Q S w0 0 f fl [] L a W
 | k+1,f,L,a,w=>((Ui md ops fl L=[]->∀W,Ba w W->Ba w0 W->Ki P md ops Q S w0 (k+1) f fl [] L a W)/\(∀i∈Ui md ops fl L,d i=false)/\
   ∀i∈Ui md ops fl L,∀W,Ba w W->Ba w0 W->wpOp P ops Q i (fun l g=>kl f w0 W g/\GF P md ops Q S d fl w0 k ((W.heap.size,g.heap.size)::f) (L.setIfInBounds i true) l g) a W) \/
  (∃i oi v,ops[i]?=I oi/\i∈Ui md ops fl L/\(∀j oj,ops[j]?=I oj->j≠i->L.getD j true=false->(∀e∈oj.after,Region.binds md e=true->e.on≠i)->oi.apart ops oj=true)/\
   (∀c a w,Q (.panic c) (a.put oi.dst v) w->Q (.panic c) a w)/\YieldsIf P ops S oi v a/\GF P md ops Q S d fl w0 k f (L.setIfInBounds i true) (a.put oi.dst v) w)
def Sg{i:Nat}{L:Array Bool}:i∈Ui md ops fl L ↔ i∈Region.ready md ops L/\Tl fl i=false:=by unfold Ui;rw[List.mem_filter];simp
def vi(md:Region.Mode)(ops:Array Oper)(late a:Nat->Bool)(n:Nat):Bool:=
 (List.range ops.size).all fun j=>!late j || ((List.range ops.size).all fun i=>late i || a i || (uk md ops n j).contains i)
def oP{late d:Nat->Bool}{a:Array Bool}{m i j:Nat}(q:vi md ops late d m=true)(u:Cl md ops a)(w:i∈Region.ready md ops a)(y:late i=false)(v:d i=false)(x:j∈Region.ready md ops a):late j=false:=by
 cases hlj:late j with
 | false=>rfl
 |true=>
  exfalso;obtain⟨s,K,f,e⟩:=mem_ready.1 x;obtain⟨c,z,r,_⟩:=mem_ready.1 w;unfold vi at q;rw[List.all_eq_true]at q;have k:=q j (List.mem_range.2 (Array.getElem?_eq_some_iff.1 f).1);rw[hlj]at k;simp only[Bool.not_true,Bool.false_or,List.all_eq_true]at k;have l:=k i (List.mem_range.2 (Array.getElem?_eq_some_iff.1 r).1);rw[y,v]at l;simp only[Bool.false_or,List.contains_eq_mem,decide_eq_true_eq]at l;have p:=yu u m j (fun o t=>by rw[f]at t;cases t;exact e) i l;rcases Nat.lt_or_ge i a.size with g | g
  ·simp[g]at p c;rw[p]at c;cases c
  ·simp[Array.getElem?_eq_none g]at p
def ii(md:Region.Mode)(ops:Array Oper)(c:List (Nat×Tmp))(late a:Nat->Bool)(n:Nat):Bool:=
 vi md ops late a n&&c.all (fun f=>!late f.1&&!a f.1&&(Ng md ops f.1).isEmpty&&decide (f.1<ops.size)&&ip ops f.1==I f.2)&&decide (c.map (·.1)).Nodup&&decide (c.map (·.2)).Nodup &&
 (List.range ops.size).all fun i=>late i || c.any (·.1==i) || c.all fun f=>!(Ng md ops i).contains f.1&&(match ops[f.1]?,ops[i]? with|some x,I y=>x.apart ops y|_,_=>true)
def Ls(P:Program)(ops:Array Oper)(f:Nat)(o:Obj):Prop:=∃x,ops[f]?=I x/\x.guard=X/\∀(a:Ob)(W:Z),(execOp a.eval x).run P W = .ok (.value (Oe (I ⟨W.heap.size,0,X⟩))) (W.alloc o)
def JL{j:Nat}{oi k:Oper}{v:J}(T:ops[j]?=I k)(s:oi.apart ops k=true)(p:∀cs b,k.op ≠ .select cs b)(z:∀c a w,Q (.panic c) a w->Q (.panic c) (a.put oi.dst v) w){K:Ob->Z->Prop}{a:Ob}{w:Z}(h:wpOp P ops Q j K a w):wpOp P ops Q j (fun R t=>∃a0,R=a0.put oi.dst v/\K a0 t) (a.put oi.dst v) w:=by
 obtain⟨q,l,h3⟩:=Oper.apart_spec s;unfold wpOp at *;simp only[T]at *;rw[wanted_put k a oi.dst v q];split
 ·rename_i hw;simp only[hw,if_true]at h;rcases h with h|⟨g,i⟩
  case inr=>exact .inr ⟨by unfold Oper.asks at *;rw[execOp_put k p a oi.dst v q];exact g,i⟩
  refine .inl ?_;unfold Oper.wp at *;rw[execOp_put k p a oi.dst v q];generalize (execOp a.eval k).run P w=r at *
  cases r with
  | ok n t =>
   cases n<;>simp only[Oper.upon]at h ⊢
   case value u=>exact⟨_,Act.put_comm a v u l,h⟩
   case skip=>exact⟨_,Act.put_comm a v undef l,h⟩
   case defer d=>exact⟨_,by rw[Act.put_defers];exact Act.put_comm _ v undef l,h⟩
   case enter f args =>
    refine cM h fun e y o=>?_;cases e with
    | returned u=>exact⟨_,Act.put_comm a v u l,o⟩
    | panicked c=>exact z _ _ _ o
    | outgrown=>exact o
   case row row args=>exact Rows.mono h fun u y o=>⟨_,Act.put_comm a v u l,o⟩
  | halt x t =>
   cases x<;>simp only[Oper.upon]at h ⊢
   case panic u=>exact z _ _ _ h
 ·rename_i hw;simp only[hw]at h;exact⟨_,Act.put_comm a v undef l,h⟩
abbrev qh:=List (Nat×Tmp×Obj×Nat)
def lj(x:Nat×Tmp×Obj×Nat):Nat×Tmp×Obj:=(x.1,x.2.1,x.2.2.1)
def Fe(L:Array Bool)(a:qh):Array Bool:=a.foldl (fun L x=>L.setIfInBounds x.1 true) L
def Cg(a:Ob)(c:qh):Ob:=c.foldl (fun a x=>a.put (I x.2.1) (Oe (I ⟨x.2.2.2,0,X⟩))) a
def Ot{i:Nat}{d:Bool}:∀(a:qh)(L:Array Bool),(∀x∈a,x.1≠i)->(Fe L a).getD i d=L.getD i d
 | [],_,_=>rfl
 | x::a,L,h=>(Ot a _ fun y c=>h y (mC _ c)).trans (getD_set_ne d (h x (List.mem_cons_self ..)))
def Rz{i:Nat}{d:Bool}:∀(c:qh)(L:Array Bool),(∃x∈c,x.1=i)->i<L.size->(Fe L c).getD i d=true
 | [],_,h,_=>by obtain⟨x,a,_⟩:=h;cases a
 | y::c,L,h,hi=>by
  by_cases f:∃x∈c,x.1=i
  ·exact Rz c _ f (by simpa using hi)
  ·have g:y.1=i:=by
    obtain⟨x,a,e⟩:=h;rcases List.mem_cons.1 a with rfl|a
    ·exact e
    ·exact absurd ⟨x,a,e⟩ f
   subst g;refine(Ot c _ fun x a e=>f ⟨x,a,e⟩).trans ?_;simp[hi]
def lw{i:Nat}:∀(a:qh)(L:Array Bool),(∀x∈a,x.1≠i)->(Fe L a).setIfInBounds i true=Fe (L.setIfInBounds i true) a
 | [],_,_=>rfl
 | x::a,L,h=>by
  refine(lw a _ fun y c=>h y (mC _ c)).trans ?_;show Fe ((L.setIfInBounds x.1 true).setIfInBounds i true) a=Fe ((L.setIfInBounds i true).setIfInBounds x.1 true) a;rw[Array.setIfInBounds_comm _ _ (h x (List.mem_cons_self ..))]
def IM{α β:Type}{g:α->β}{x y:List β}(h:x.Perm y):∀l:List α,l.map g=x->∃m,l.Perm m/\m.map g=y:=by
 induction h with
 | nil=>exact fun l d=>⟨l,.refl _,d⟩
 | cons b _ q =>
  intro l d;obtain⟨a,l,rfl,rfl,e⟩:=List.map_eq_cons_iff.1 d;obtain⟨m,f,i⟩:=q l e;exact⟨a::m,f.cons a,by simp[i]⟩
 | swap b c t =>
  intro l d;obtain⟨a,l,rfl,rfl,e⟩:=List.map_eq_cons_iff.1 d;obtain⟨o,l,rfl,rfl,f⟩:=List.map_eq_cons_iff.1 e;exact⟨o::a::l,.swap ..,by simp[f]⟩
 | trans _ _ j k =>
  intro l d;obtain⟨m,p,e⟩:=j l d;obtain⟨r,f,i⟩:=k m e;exact⟨r,p.trans f,i⟩
def Ki.use{k:Nat}{W:Z}{f:List (Nat×Nat)}:∀(c:qh)(d:List Nat)(L:Array Bool)(a:Ob),Ki P md ops Q S w0 k f (c.map lj) d L a W ->(∀x∈c,W.heap[x.2.2.2]?=I x.2.2.1/\w0.heap.size<=x.2.2.2/\ik x.2.2.2 f)->(d.reverse++c.map (·.2.2.2)).Nodup->wpAnyH P md ops Q S k (Fe L c) (Cg a c) W
 | [],_,_,_,h,_,_=>h
 | x::c,d,L,a,h,h1,h2=>by
  have e:=h1 x (List.mem_cons_self ..);have g:x.2.2.2 ∉ d:=fun i=>by
   rw[List.map_cons,List.nodup_append]at h2;exact h2.2.2 _ (List.mem_reverse.2 i) _ (List.mem_cons_self ..) rfl
  exact Ki.use c (x.2.2.2::d) _ _ (h x.2.2.2 e.1 e.2.1 g e.2.2) (fun y j=>h1 y (mC _ j)) (by simpa using h2)
def TC{j:Nat}{l:Oper}(s:ops[j]?=I l)(f:∀cs b,l.op ≠ .select cs b)(r:∀c a d v w,Q (.panic c) a w->Q (.panic c) (a.put d v) w){W:Z}:∀(e:qh)(a:Ob)(K:Ob->Z->Prop),(∀x∈e,∃p:Oper,p.dst=I x.2.1/\p.apart ops l=true)->wpOp P ops Q j K a W->wpOp P ops Q j (fun g o=>∃a0,g=Cg a0 e/\K a0 o) (Cg a e) W
 | [],_,_,_,h=>wpOp_mono (fun g o i=>⟨g,rfl,i⟩) h
 | x::e,a,K,h1,h=>by
  obtain⟨p,z,k⟩:=h1 x (List.mem_cons_self ..);have q:=JL (oi:=p) (v:=Oe (I ⟨x.2.2.2,0,X⟩)) s k f (fun c a w h=>r c a _ _ w h) h;rw[z]at q;refine wpOp_mono (fun g o i=>?_) (TC s f r e _ _ (fun y R=>h1 y (mC _ R)) q);obtain⟨a0,rfl,t,rfl,u⟩:=i;exact⟨t,rfl,u⟩
variable {P:Program} {ops:Array Oper} {Q:Exit->Ob->Z->Prop} {md:Region.Mode} {S:Z->Prop} {fl:List (Nat×Tmp×Obj)} {w0:Z} {late:Nat->Bool} {m:Nat}
def oq(x:Nat×Tmp×Obj):Nat×Tmp:=(x.1,x.2.1)
def QE{a:Nat->Bool}(h:ii md ops (fl.map oq) late a m=true):vi md ops late a m=true/\(∀x∈fl,late x.1=false/\a x.1=false/\Ng md ops x.1=[]/\x.1<ops.size/\ip ops x.1=I x.2.1)/\(fl.map (·.1)).Nodup/\(fl.map (·.2.1)).Nodup/\∀i<ops.size,late i=false->Tl fl i=false->∀x∈fl,x.1 ∉ Ng md ops i/\∀p q,ops[x.1]?=I p->ops[i]?=I q->p.apart ops q=true:=by
 unfold ii at h;simp only[Bool.and_eq_true,decide_eq_true_eq]at h;obtain⟨⟨⟨⟨r,s⟩,l⟩,o⟩,t⟩:=h;rw[List.map_map]at l o;refine⟨r,fun x k=>?_,l,o,fun i u v j x k=>?_⟩
 ·have:=List.all_eq_true.1 s _ (List.mem_map_of_mem (f:=oq) k);simp only[Bool.and_eq_true,Bool.not_eq_true',List.isEmpty_iff,decide_eq_true_eq,beq_iff_eq]at this;exact⟨this.1.1.1.1,this.1.1.1.2,this.1.1.2,this.1.2,this.2⟩
 ·have h6:=List.all_eq_true.1 t i (List.mem_range.2 u);rw[v,Bool.false_or,Bool.or_eq_true]at h6;rcases h6 with g|g
  ·exfalso;obtain⟨y,R,d⟩:=List.any_eq_true.1 g;obtain⟨z,T,rfl⟩:=List.mem_map.1 R;unfold Tl at j;rw[List.any_eq_false]at j;exact j z T d
  ·have d:=List.all_eq_true.1 g _ (List.mem_map_of_mem (f:=oq) k);rw[Bool.and_eq_true]at d;refine⟨fun e=>?_,fun p q w K=>?_⟩
   ·have c:=d.1;rw[Bool.not_eq_true',List.contains_eq_mem,decide_eq_false_iff_not]at c;exact c e
   ·have c:=d.2;dsimp only[oq]at c;rw[w,K]at c;exact c
def rB{i:Nat}{o:Oper}(d:ops[i]?=I o){e:_}(c:e∈o.after)(a:Region.binds md e=true):e.on∈Ng md ops i:=by unfold Ng;rw[d];exact List.mem_map.2 ⟨e,List.mem_filter.2 ⟨by simpa using c,a⟩,rfl⟩
def EB{i:Nat}(h:Tl fl i=true):∃d o,(i,d,o)∈fl:=by unfold Tl at h;obtain⟨x,c,a⟩:=List.any_eq_true.1 h;rw[beq_iff_eq]at a;subst a;exact⟨x.2.1,x.2.2,c⟩
def Dq{i:Nat}(h:Tl fl i=false):∀x∈fl,x.1≠i:=by unfold Tl at h;rw[List.any_eq_false]at h;exact fun x a e=>h x a (by simpa using e)
def pA{b:Nat}:∀{a:List (Nat×Nat)},(∀x∈a,b<x.1\/x.2<=b)->ik b a
 | [],_=>trivial
 | x::_,h=>⟨h x (List.mem_cons_self ..),pA fun y c=>h y (mC _ c)⟩
def Gy{α β:Type}{g:α->β}:∀{l:List α},(l.map g).Nodup->∀x∈l,∀y∈l,g x=g y->x=y
 | [],_,_,d,_,_,_=>nomatch d
 | z::l,h,x,d,y,hy,e=>by
  rw[List.map_cons,List.nodup_cons]at h;obtain⟨f,h⟩:=h;rcases List.mem_cons.1 d with c|c
  ·rcases List.mem_cons.1 hy with a|a
   ·rw[c,a]
   ·exact absurd (List.mem_map.2 ⟨y,a,by rw[<-e,c]⟩) f
  ·rcases List.mem_cons.1 hy with a|a
   ·exact absurd (List.mem_map.2 ⟨x,c,by rw[e,a]⟩) f
   ·exact Gy h x c y a e
def kL{c a:qh}(h:c.Perm a)(L:Array Bool):Fe L c=Fe L a:=
 h.foldl_eq' (fun x _ y _ z=>by
  by_cases e:x.1=y.1
  ·rw[e]
  ·exact Array.setIfInBounds_comm _ _ e) L
def XM{f c:qh}(j:(f.map (·.2.1)).Nodup)(h:f.Perm c)(a:Ob):Cg a f=Cg a c:=
 h.foldl_eq' (fun x k y l z=>by
  by_cases e:x.2.1=y.2.1
  ·rw[Gy j x k y l e]
  ·exact Act.put_comm z _ _ (fun d i g=>e ((Option.some.inj i).trans (Option.some.inj g).symm))) a
def mD{j:Nat}:∀(c:qh)(L:Array Bool),(Fe L c).getD j true=false->L.getD j true=false
 | [],_,h=>h
 | x::c,L,h=>by
  have a:=mD c _ h;by_cases e:x.1=j
  ·subst e;rcases Nat.lt_or_ge x.1 L.size with d | d
   ·simp[d]at a
   ·simp[Array.getElem?_eq_none d]at a
  ·rw[getD_set_ne true e]at a;exact a
def qB{d:Option Tmp}{v:J}:∀(c:qh)(a:Ob),(∀x∈c,d≠I x.2.1)->(Cg a c).put d v=Cg (a.put d v) c
 | [],_,_=>rfl
 | x::c,a,h=>by
  refine(qB c _ fun y g=>h y (mC _ g)).trans ?_;show Cg ((a.put (I x.2.1) _).put d v) c=Cg ((a.put d v).put (I x.2.1) _) c;rw[Act.put_comm a _ v (fun q f e=>h x (List.mem_cons_self ..) (e.trans f.symm))]
def kE{oi:Oper}{v:J}(f:∀cs b,oi.op ≠ .select cs b):∀(c:qh)(a:Ob),(∀x∈c,x.2.1 ∉ oi.looksAt ops)->YieldsIf P ops S oi v a->YieldsIf P ops S oi v (Cg a c)
 | [],_,_,h=>h
 | x::c,a,h1,h=>kE f c _ (fun y g=>h1 y (mC _ g)) (h.of_same (execOp_put oi f a _ _ (fun d e=>by cases e;exact h1 x (List.mem_cons_self ..))) (wanted_put oi a _ _ (fun d e=>by cases e;exact h1 x (List.mem_cons_self ..))))
def Qz{j:Nat}:∀(a:qh)(L:Array Bool),L.getD j false=true->(Fe L a).getD j false=true
 | [],_,h=>h
 | _::a,_,h=>Qz a _ (getD_set_true h)
def tG{ag:Nat->Bool}(aU:ii md ops (fl.map oq) late ag m=true)(aC:fl≠[])(am:Region.noSelect ops=true)(hl:∀x∈fl,Ls P ops x.1 x.2.2)(hQ:∀c a d v w,Q (.panic c) a w->Q (.panic c) (a.put d v) w)(aA:∀w',Ba w0 w'->S w'):∀(n k:Nat)(iv:List (Nat×Nat))(L:Array Bool)(a:Ob)(w W:Z)(g:qh)(rest:List (Nat×Tmp×Obj)),GF P md ops Q S ag fl w0 k iv L a w->(∀x∈iv,x.2<=w.heap.size)->Ba w0 w->Ba w W->(g.map lj++rest).Perm fl->n=k+rest.length->Cl md ops L->L.size=ops.size ->(∀x∈fl,L.getD x.1 true=false)->(∀x∈g,W.heap[x.2.2.2]?=I x.2.2.1/\w0.heap.size<=x.2.2.2/\ik x.2.2.2 iv)->(g.map (·.2.2.2)).Nodup->Cl md ops (Fe L g)->wpAnyH P md ops Q S n (Fe L g) (Cg a g) W:=by
 obtain⟨f1,f2,f3,f4,f5⟩:=QE aU;have ay:∀(k:Nat)(iv:List (Nat×Nat))(L:Array Bool)(a:Ob)(W:Z)(g:qh),Ki P md ops Q S w0 k iv fl [] L a W->(g.map lj).Perm fl->(∀x∈g,W.heap[x.2.2.2]?=I x.2.2.1/\w0.heap.size<=x.2.2.2/\ik x.2.2.2 iv)->(g.map (·.2.2.2)).Nodup->wpAnyH P md ops Q S k (Fe L g) (Cg a g) W:=by
  intro k iv L a W g H hp hb ad;obtain⟨aL,p1,p2⟩:=IM hp g rfl;have aS:(g.map (·.2.1)).Nodup:=by
   have:=(hp.map (·.2.1)).nodup_iff.2 f4
   rwa [List.map_map]at this
  rw[kL p1,XM aS p1];refine Ki.use aL [] L a (by rw[p2];exact H) (fun x l=>hb x (p1.mem_iff.2 l)) ?_;simpa using (p1.map (·.2.2.2)).nodup_iff.1 ad
 intro n;induction n with
 |zero=>
  intro k iv L a w W g rest H ak h0 hw hp hn hc an ae hb ad ah;obtain rfl:k=0:=oM;obtain rfl:rest=[]:=List.eq_nil_of_length_eq_zero oM;rw[List.append_nil]at hp;exact ay 0 iv L a W g (H.2 W hw (h0.trans hw)) hp hb ad
 | succ n ih =>
  intro k iv L a w W g rest H ak h0 hw hp hn hc an ae hb ad ah;have z:∀x∈g,lj x∈fl:=fun x l=>hp.mem_iff.1 (List.mem_append_left _ (List.mem_map_of_mem l));have aw:∀x∈rest,x∈fl:=fun x l=>hp.mem_iff.1 (List.mem_append_right _ l);have ai:∀i d,Tl fl i=false->(Fe L g).getD i d=L.getD i d:=fun i d hi=>Ot g L fun x l=>Dq hi (lj x) (z x l);have af:((g.map lj++rest).map (·.1)).Nodup:=(hp.map (·.1)).nodup_iff.2 f3;have ap:∀x∈g,∀y∈rest,x.1≠y.1:=fun x l y hy e=>by
   rw[List.map_append,List.nodup_append]at af;exact af.2.2 _ (List.mem_map_of_mem (f:=(·.1)) (List.mem_map_of_mem (f:=lj) l)) _ (List.mem_map_of_mem (f:=(·.1)) hy) e
  have az:∀i∈Ui md ops fl L,late i=false:=fun i hi=>by
   obtain⟨u,T⟩:=Sg.1 hi;obtain⟨K,R,q,aa⟩:=mem_ready.1 u;cases hli:late i with
   | false=>rfl
   |true=>
    exfalso;obtain⟨x,l⟩:=List.exists_mem_of_ne_nil fl aC;obtain⟨g1,ge,g2,g3,g4⟩:=f2 x l;have hg:=f1;unfold vi at hg;rw[List.all_eq_true]at hg;have h3:=hg i (List.mem_range.2 (Array.getElem?_eq_some_iff.1 q).1);rw[hli]at h3;simp only[Bool.not_true,Bool.false_or,List.all_eq_true]at h3;have h4:=h3 x.1 (List.mem_range.2 g3);rw[g1,ge]at h4;simp only[Bool.false_or,List.contains_eq_mem,decide_eq_true_eq]at h4;have h5:=yu hc m i (fun o ho=>by rw[q]at ho;cases ho;exact aa) x.1 h4;have h6:=ae x l;have h7:x.1<L.size:=oM;simp[h7]at h5 h6;rw[h5]at h6;cases h6
  have aF:∀i∈Ui md ops fl L,i∈Region.ready md ops (Fe L g):=fun i hi=>by
   obtain⟨u,T⟩:=Sg.1 hi;obtain⟨K,R,q,aa⟩:=mem_ready.1 u;exact mem_ready.2 ⟨by rw[ai i true T];exact K,R,q,fun e he hb=>Qz g L (aa e he hb)⟩
  have aR:∀x∈rest,x.1∈Region.ready md ops (Fe L g):=fun x l=>by
   obtain⟨g1,ge,g2,g3,g4⟩:=f2 x (aw x l);refine mem_ready.2 ⟨?_,ops[x.1],by simp[g3],fun e he hb=>?_⟩
   ·rw[Ot g L fun y hy=>ap y hy x l];exact ae x (aw x l)
   ·have:=rB (md:=md) (ops:=ops) (i:=x.1) (o:=ops[x.1]) (by simp[g3]) he hb;rw[g2]at this;cases this
  have ax:∀x∈g,∃p:Oper,ops[x.1]?=I p/\p.dst=I x.2.1:=fun x l=>by
   have u:=f2 _ (z x l);have h4:x.1<ops.size:=u.2.2.2.1;have h3:ops[x.1]?=I (ops[x.1]'h4):=Array.getElem?_eq_getElem h4;refine⟨ops[x.1]'h4,h3,?_⟩;have T:(ops[x.1]?).bind (·.dst)=I x.2.1:=u.2.2.2.2;rw[h3]at T;exact T
  by_cases hE:rest=[]/\Ui md ops fl L=[]
  ·obtain⟨rfl,T⟩:=hE;rw[List.append_nil]at hp;cases k with
   | zero=>exact absurd hn sM
   | succ k =>
    (obtain rfl:n=k:=by simp at hn;omega);rcases H with H|⟨i,R,v,u,h3,_⟩
    ·exact ay _ iv L a W g (H.1 T W hw (h0.trans hw)) hp hb ad
    ·rw[T]at h3;cases h3
  ·have aK:(k=0\/∃k',k=k'+1/\((Ui md ops fl L=[]->∀W,Ba w W->Ba w0 W->Ki P md ops Q S w0 (k'+1) iv fl [] L a W)/\(∀i∈Ui md ops fl L,ag i=false)/\
   ∀i∈Ui md ops fl L,∀W,Ba w W->Ba w0 W->wpOp P ops Q i (fun a' w'=>kl iv w0 W w'/\GF P md ops Q S ag fl w0 k' ((W.heap.size,w'.heap.size)::iv) (L.setIfInBounds i true) a' w') a W))\/(∃k',k=k'+1/\∃i R v,ops[i]?=I R/\i∈Ui md ops fl L/\(∀j oj,ops[j]?=I oj->j≠i->L.getD j true=false->(∀e∈oj.after,Region.binds md e=true->e.on≠i)->R.apart ops oj=true)/\
   (∀c a w,Q (.panic c) (a.put R.dst v) w->Q (.panic c) a w)/\YieldsIf P ops S R v a/\GF P md ops Q S ag fl w0 k' iv (L.setIfInBounds i true) (a.put R.dst v) w):=by
    cases k with
    | zero=>exact .inl (.inl rfl)
    | succ k =>
     rcases H with H|H
     ·exact .inl (.inr ⟨k,rfl,H⟩)
     ·exact .inr ⟨k,rfl,H⟩
   rcases aK with H2|⟨k,rfl,i,R,v,q,aj,aB,aI,hy,HG⟩
   case inr =>
    obtain⟨_,hF⟩:=Sg.1 aj;have ar:=az i aj;have aH:=(Array.getElem?_eq_some_iff.1 q).1;have aG:∀x∈g,R.dst≠I x.2.1/\x.2.1 ∉ R.looksAt ops:=fun x l=>by
     obtain⟨p,aD,av⟩:=ax x l;obtain⟨q1,q2,q3⟩:=Oper.apart_spec ((f5 i aH ar hF _ (z x l)).2 p R aD q);exact⟨q2 _ av,q1 _ av⟩
    have ab:=ah.step (aF i aj);have e1:(Fe L g).setIfInBounds i true=Fe (L.setIfInBounds i true) g:=lw g L fun x l=>Dq hF (lj x) (z x l);refine wpAnyH_first q (Region.noSelect_spec am) aI n (Fe L g) (Cg a g) W (fun j oj hj aC ae aT=>aB j oj hj aC (mD g L ae) aT) (aF i aj) (kE (fun cs b=>Region.noSelect_spec am i R cs b q) g a (fun x l=>(aG x l).2) hy) (aA W (h0.trans hw)) ?_;rw[e1]at ab ⊢;rw[qB g a fun x l=>(aG x l).1];refine ih k iv _ _ w W g rest HG ak h0 hw hp oM (hc.step (Sg.1 aj).1) (by simpa using an) (fun x r=>?_) hb ad ab;rw[getD_set_ne true (fun e=>Dq hF x r e.symm)];exact ae x r
   have aE:∃e,e∈Region.ready md ops (Fe L g)/\late e=false/\ag e=false:=by
    by_cases u:rest=[]
    ·have T:Ui md ops fl L≠[]:=fun h=>hE ⟨u,h⟩;obtain⟨e,he⟩:=List.exists_mem_of_ne_nil _ T;rcases H2 with rfl|⟨k',rfl,H2⟩
     ·exact absurd H.1 T
     ·exact⟨e,aF e he,az e he,H2.2.1 e he⟩
    ·obtain⟨x,l⟩:=List.exists_mem_of_ne_nil _ u;exact⟨x.1,aR x l,(f2 x (aw x l)).1,(f2 x (aw x l)).2.1⟩
   obtain⟨e,he,aQ,aP⟩:=aE;refine⟨fun hr=>(by rw[hr]at he;cases he),fun i hi=>?_⟩;obtain⟨K,R,q,aa⟩:=mem_ready.1 hi;have ar:late i=false:=oP f1 ah he aQ aP hi;cases hF:Tl fl i with
   |true=>
    obtain⟨d,o,ac⟩:=EB hF;have au:(i,d,o)∈rest:=by
     rcases List.mem_append.1 (hp.mem_iff.2 ac)with u|u
     ·exfalso;obtain⟨x,l,T⟩:=List.mem_map.1 u;(have h3:x.1=i:=by have:=congrArg (·.1) T;exact this);have h4:=Rz (d:=true) g L ⟨x,l,h3⟩ (by rw[an];exact(Array.getElem?_eq_some_iff.1 q).1);rw[h4]at K;cases K
     ·exact u
    obtain⟨s,t,aV⟩:=List.append_of_mem au;subst aV;obtain⟨x,aJ,r,aW⟩:=hl _ ac;rw[q]at aJ;cases aJ;have hd:R.dst=I d:=by
     have:=(f2 _ ac).2.2.2.2;unfold ip at this;rw[q]at this;exact this
    unfold wpOp;rw[q];dsimp only;(have ao:Region.wanted R (yielded ops (Cg a g).tmps)=true:=by unfold Region.wanted;rw[r]);rw[if_pos ao];refine .inl ?_;unfold Oper.wp;rw[aW];show S (W.alloc o)/\wpAnyH P md ops Q S n ((Fe L g).setIfInBounds i true) ((Cg a g).put R.dst _) (W.alloc o);refine⟨aA _ ((h0.trans hw).alloc o),?_⟩;rw[hd];(have e1:(Fe L g).setIfInBounds i true=Fe L (g++[(i,d,o,W.heap.size)]):=by unfold Fe;rw[List.foldl_append];rfl);(have e2:(Cg a g).put (I d) (Oe (I ⟨W.heap.size,0,X⟩))=Cg a (g++[(i,d,o,W.heap.size)]):=by unfold Cg;rw[List.foldl_append];rfl);have ab:=ah.step hi;rw[e1]at ab ⊢;rw[e2];refine ih k iv L a w (W.alloc o) (g++[(i,d,o,W.heap.size)]) (s++t) H ak h0 (hw.alloc o) ?_ (by simp at hn ⊢;omega) hc an ae ?_ ?_ ab
    ·refine List.Perm.trans ?_ hp;rw[List.map_append,List.append_assoc];exact List.Perm.append_left _ (show ((i,d,o)::(s++t)).Perm (s++(i,d,o)::t)from List.perm_middle.symm)
    ·intro x l;rcases List.mem_append.1 l with l|l
     ·obtain⟨u,T⟩:=hb x l;exact⟨((eR W).alloc o).e u,T⟩
     ·cases List.mem_singleton.1 l;exact⟨aN W o,(h0.trans hw).size,pA fun x l=>.inr (nT (ak x l) hw.size)⟩
    ·rw[List.map_append,List.nodup_append];refine⟨ad,by simp,fun b aM c aO e=>?_⟩;obtain⟨x,l,rfl⟩:=List.mem_map.1 aM;have u:=Gb (hb x l).1;simp at aO;omega
   |false=>
    have aq:i∈Ui md ops fl L:=Sg.2 ⟨mem_ready.2 ⟨by rw[<-ai i true hF];exact K,R,q,fun e he hb=>by
     have u:=aa e he hb;have T:Tl fl e.on=false:=by
      cases h3:Tl fl e.on with
      | false=>rfl
      |true=>
       obtain⟨d,o,ac⟩:=EB h3;exact absurd (rB q he hb) (f5 i (Array.getElem?_eq_some_iff.1 q).1 ar hF _ ac).1
     rw[<-ai e.on false T];exact u⟩,hF⟩
    rcases H2 with rfl|⟨k,rfl,H2⟩
    ·rw[H.1]at aq;cases aq
    ·refine wpOp_mono (fun a' w' h'=>?_) (TC q (fun cs b=>Region.noSelect_spec am i R cs b q) hQ g a _ (fun x l=>?_) (H2.2.2 i aq W hw (h0.trans hw)))
     ·obtain⟨a0,rfl,l,hG⟩:=h';have e1:(Fe L g).setIfInBounds i true=Fe (L.setIfInBounds i true) g:=lw g L fun x l=>Dq hF (lj x) (z x l);have ab:=ah.step hi;refine⟨aA _ l.1,?_⟩;rw[e1]at ab ⊢;refine ih k _ _ a0 w' w' g rest hG (fun x r=>?_) l.1 (eR _) hp oM (hc.step (Sg.1 aq).1) (by simpa using an) (fun x r=>?_) (fun x r=>?_) ad ab
      ·rcases List.mem_cons.1 r with rfl|r
       ·exact nE _
       ·exact nT (ak x r) (nT hw.size l.2.1)
      ·rw[getD_set_ne true (fun e=>Dq hF x r e.symm)];exact ae x r
      ·obtain⟨u,T,h3⟩:=hb x r;exact⟨by rw[l.2.2 _ (Gb u) h3];exact u,T,.inl (Gb u),h3⟩
     ·obtain⟨p,aD,av⟩:=ax x l;exact⟨p,av,(f5 i (Array.getElem?_eq_some_iff.1 q).1 ar hF _ (z x l)).2 _ _ aD q⟩
variable {P:Program} {ops:Array Oper} {Q:Exit->Ob->Z->Prop} {md:Region.Mode} {S:Z->Prop} {fl:List (Nat×Tmp×Obj)} {w0:Z}
def tq(P:Program)(md:Region.Mode)(ops:Array Oper)(Q:Exit->Ob->Z->Prop)(c:Nat->Bool)(fl:List (Nat×Tmp×Obj))(w0:Z)(S:Z->Prop)(k:Nat)(d:List (Nat×Nat))(L:Array Bool)(a:Ob)(w:Z):Prop:=GF P md ops Q S c fl w0 k d L a w
def Wd{e:Nat->Bool}{j:List (Nat×Nat)}{L:List (Od×J)}{v:J}{i:Nat}{oi:Oper}{k:Nat}{d:Array Bool}{a:Ob}{w:Z}{G:Prop}(h:G)(g:ops[i]?=I oi:=by(simp only[gA,gS,gZ];rfl))(r:Region.noSelect ops=true:=by kernel_rfl)(l:Region.free md ops d i=true:=by kernel_rfl)(o:(Ui md ops fl d).contains i=true:=by kernel_rfl)(h4:∀c a w,Q (.panic c) (a.put oi.dst v) w->Q (.panic c) a w:=by exact fun _ _ _ h=>h)(q:Region.wanted oi (yielded ops a.tmps)=true:=by rfl)(hy:∀w,Da L w->(execOp a.eval oi).run P w = .ok (.value v) w:=by(intro w f;simp only[Da,and_true]at f;go_simp;try(with_reducible rfl)))(h6:Da L w0:=by(with_reducible assumption))(p:tq P md ops Q e fl w0 (Da L) k j (d.setIfInBounds i true) (a.put oi.dst v) w=G:=by((try simp only[Act.put,sA,sZ,sS]);rfl)):tq P md ops Q e fl w0 (Da L) (k+1) j d a w:=by subst p;exact .inr ⟨i,oi,v,g,by simpa using o,Region.free_spec g l,h4,Or.inl ⟨q,hy⟩,h⟩
def Gh{d:Nat->Bool}{g:List (Nat×Nat)}{L:List (Od×J)}{i:Nat}{o:Oper}{k:Nat}{c:Array Bool}{a:Ob}{w:Z}(h:∀W,Ba w W->Ba w0 W->Da L W->∀K':Ob->Z->Prop,Shut (∀a w',kl g w0 W w'->(kl g w0 W w'->Da L w'->tq P md ops Q d fl w0 (Da L) k ((W.heap.size,w'.heap.size)::g) (c.setIfInBounds i true) a w')->K' a w')->if Region.wanted o (yielded ops a.tmps)=true then Oper.wp P o a W K' Q else K' (a.put o.dst undef) W)(h6:Da L w0:=by(with_reducible assumption))(v:ops[i]?=I o:=by(simp only[gA,gS,gZ];rfl))(p:Ui md ops fl c=[i]:=by kernel_rfl)(u:d i=false:=by rfl):tq P md ops Q d fl w0 (Da L) (k+1) g c a w:=by
 refine .inl ⟨fun r=>absurd (p▸r) sM,fun j f=>?_,fun j f W t e=>?_⟩
 ·rw[p]at f;cases List.mem_singleton.1 f;exact u
 rw[p]at f;cases List.mem_singleton.1 f;exact wpOp_step v (fun K' s=>h W t e (cE h6 e) K' (fun a w' q l=>s a w' ⟨q,l q (cE h6 q.1)⟩))
def df{e:Nat->Bool}{g:List (Nat×Nat)}{L:List (Od×J)}{k:Nat}{c:Array Bool}{a:Ob}{w:Z}(f:Ui md ops fl c=[])(h:∀W,Ba w W->Ba w0 W->Ki P md ops Q (Da L) w0 k g fl [] c a W):tq P md ops Q e fl w0 (Da L) k g c a w:=by
 cases k with
 | zero=>exact⟨f,h⟩
 | succ k=>exact .inl ⟨fun _=>h,fun i d=>(by rw[f]at d;cases d),fun i d=>by rw[f]at d;cases d⟩
def Vn{u:Nat}{a:Ob}{w:Z}(fl:List (Nat×Tmp×Obj))(L:List (Od×J))(k m:Nat)(late e:Nat->Bool)(s:P.follows .mixedOrders=true)(f:ii .any ops (fl.map oq) late e m=true)(q:ops.size=k+fl.length)(i:fl≠[])(g:Region.noSelect ops=true)(r:∀x∈fl,Ls P ops x.1 x.2.2)(p:∀c a d v w,Q (.panic c) a w->Q (.panic c) (a.put d v) w)(j:Da L w.drew)(h:Da L w.drew->tq P .any ops Q e fl w.drew (Da L) k [] (Array.replicate ops.size false) a w.drew):(Code.region u ops true).wp P Q a w:=by obtain⟨_,l,_,_,_⟩:=QE f;have o:=tG (w0:=w.drew) (S:=Da L) f i g r p (fun _ h=>cE j h) ops.size k [] (Array.replicate ops.size false) a w.drew w.drew [] fl (h j) sM (eR _) (eR _) sM q (Cl.start _) sM (fun x t=>by simp[(l x t).2.2.2.1]) sM sM (Cl.start _);exact wp_region_any s (wpAny_of_held _ _ _ _ o)
end
end
section
open Go.RowKit Go.Shelf
attribute [local go_sem] Oper.semAt_some
def nR(W0:Z)(m c:Nat)(xs e:List Int)(d:J)(wr:Z):Prop:=
 ∃(i:Nat)(a:List Int),d=M F i/\i<=m/\a.length=m+c/\Mb 3 wr W0.heap.size (O (I ⟨W0.heap.size,0,X⟩) (m+c) (m+c)) a/\dv C4 a=dv C4 (xs.take i)*dv C4 e/\Jh a i 0/\Ba W0 wr
def oR(W0:Z)(m a i:Nat)(x V:Int)(e:List Int)(d:J)(wr:Z):Prop:=
 ∃(k:Nat)(c:List Int),d=M F k/\k<=a/\c.length=m+a/\Mb 3 wr W0.heap.size (O (I ⟨W0.heap.size,0,X⟩) (m+a) (m+a)) c/\dv C4 c=V+C4 ^ i*(x*dv C4 (e.take k))/\Jh c i k/\Ba W0 wr
def Um(w:Z)(va vb:J)(na nb:Int)(ha:xd w va na)(hb:xd w vb nb)(aP:Lm Bc na)(aQ:Lm Bc nb):Calls Tryz.prog 80 #[va,vb] w (Ih w (na*nb)):=by
 obtain⟨s,a,m,c,rfl,hs⟩:=ha.j;obtain⟨s',a',t,c',rfl,al⟩:=hb.j;obtain⟨xs,hl,hi,hc,hv⟩:=ha.open;obtain⟨ys,ak,aO,aq,am⟩:=hb.open;have hm:=Mo aP hc hv;have au:=Mo aQ aq am;rw[hl]at hm;rw[ak]at au;unfold Bc at hm au;obtain⟨σ,hσ⟩:=gX (s*s');have aE:=ZE na nb;rw[<-hs,<-al,hσ]at aE;have σ0:-1<=σ:=oM;have σ1:σ<=1:=oM;have aF:σ=(na*nb).sign:=by rw[<-hσ,hs,al,mK]
 have aj:=Aa aF;have Hl:=Aa hl;have aa:=Aa ak;have Hv:=Aa hv;have ao:=Aa am;clear hs al hl ak hv am aF aE;obtain⟨W0,f⟩:=gX (((w.alloc (U #[M F s,O a m c] 66)).alloc (U #[M F s',O a' t c'] 66)).alloc (U #[M F 0,O X 0 0] 66));have z0:w.heap.size+1+1+1=W0.heap.size:=by rw[<-f];simp
 have z1:w.heap.size<W0.heap.size:=oM;have z2:w.heap.size+1<W0.heap.size:=oM;have z3:w.heap.size+1+1<W0.heap.size:=oM;have p0:W0.cell? ⟨w.heap.size,0,X⟩=I (M F s):=by rw[<-f];clear f;go_simp
 have p1:W0.cell? ⟨w.heap.size,1,X⟩=I (O a m c):=by rw[<-f];clear f;go_simp
 have q0:W0.cell? ⟨w.heap.size+1,0,X⟩=I (M F s'):=by rw[<-f];clear f;go_simp
 have q1:W0.cell? ⟨w.heap.size+1,1,X⟩=I (O a' t c'):=by rw[<-f];clear f;go_simp
 have j:Sa (W0.heap[w.heap.size+1+1]?=I (U #[M F 0,O X 0 0] 66 (0,0))):=by rw[<-f];exact Aa (Ec _ _ _ sM)
 have ag:Sa (Ba w W0):=by rw[<-f];exact Aa eA
 go_in;go_wp2_with(at_make;refine Ku (n:=m+t) Ok Tryz.underlying64 rfl _ _ rfl _ rfl rfl sM oM ?_;(try rw[f]);intro w1 q T aR;(try simp only[z0]at q))
 try simp only[z0]
 have r:Mb 3 w1 W0.heap.size (O (I ⟨W0.heap.size,0,X⟩) (m+t) (m+t)) (List.replicate (m+t) 0):=q;clear f q z0;go_loopw [6] (nR W0 m t xs ys) (fun t6 _=>m-(intOf t6).toNat)
 case atStart =>
  exact⟨0,_,rfl,by omega,by simp,r,by rw[Un];simp,Jh.start _,T⟩
 case round =>
  clear r T aR;obtain⟨i,os,rfl,a2,ax,g,R,l,d⟩:=hrel;have an:=Aa ax;have ah:=Aa R;have e0:=d.d p0;have e1:=d.d p1;have e2:=d.d q0;have e3:=d.d q1;clear ax R;by_cases a5:i<m
  ·obtain⟨b,o,rfl,aW,T⟩:=(hi.ext ag.o).open (by rw[Hl.o];omega);obtain⟨x,ab⟩:∃x,xs[i]?=I x:=⟨_,gE (by rw[Hl.o];omega)⟩;have aJ:=T i x ab;have aB:=hc.1 x (lM ab);have aH:=Aa ab;have aG:=Aa aB;have g0:(0:Int)<=(i:Int):=oM;have g1:(i:Int)<(m:Int):=oM;clear T ab aB;go_wp2;obtain⟨wo,rfl⟩:∃wo:Z,wo=wr:=⟨_,rfl⟩;go_loopw [7] (oR W0 m t i x (dv C4 os) ys) (fun t7 _=>t-(intOf t7).toNat)
   case atStart=>exact⟨0,os,rfl,by omega,an.o,g,by simp,l,d⟩
   case round =>
    clear g l d e0 e1 e2 e3;obtain⟨k,us,rfl,a4,az,g,R,l,d⟩:=hrel;have ai:=Aa az;have ae:=Aa R;have e0:=d.d p0;have e1:=d.d p1;have e2:=d.d q0;have e3:=d.d q1;have aX:=d.d aJ;clear az R;by_cases ar:k<t
    ·obtain⟨b',o',rfl,aS,af⟩:=(aO.ext ag.o).open (by rw[aa.o];omega);obtain⟨y,ac⟩:∃y,ys[k]?=I y:=⟨ys[k]'(by rw[aa.o];omega),by simp[aa.o,ar]⟩;obtain⟨z,ad⟩:∃z,us[i+k]?=I z:=⟨_,gE (by rw[ai.o];omega)⟩;have aY:=d.d (af k y ac);have aZ:=g.cell ad;have a1:=g.frozen (i+k);have aC:=aq.1 y (lM ac);obtain⟨aT,aU,aD⟩:=l _ z ad;have aV:=aD (nE _);obtain⟨av,aw⟩:=Lx aG.o aC;obtain⟨u,hu⟩:=gX (x*y);rw[hu]at av aw;have aI:=Aa ac;have ap:=Aa ad;have k0:(0:Int)<=(k:Int):=oM;have k1:(k:Int)<(t:Int):=oM;have k2:(0:Int)<=(i:Int)+(k:Int):=oM;have k3:(i:Int)+(k:Int)<(m:Int)+(t:Int):=oM;have k4:IntKind.i64.wrap ((i:Int)+(k:Int))=(i:Int)+(k:Int):=iW _ oM;have k5:((i:Int)+(k:Int)).toNat=i+k:=oM;clear af ac ad aC;go_wp2;refine Nh (fun i=>decide (22<i)) (Da [(⟨W0.heap.size,i+k,X⟩,M F z),(⟨w.heap.size,1,X⟩,O (I ⟨b,o,X⟩) m c),(⟨b,o+i,X⟩,M F x),(⟨w.heap.size+1,1,X⟩,O (I ⟨b',o',X⟩) t c'),(⟨b',o'+k,X⟩,M F y)]) kM ?_ (fun aK=>?_)
     ·exact cA
     refine sN 0 ?_
     (iterate 23 refine Yh ?_);refine oN ?_;refine Jc (i:=23) fun K hK=>?_;go_simp;refine kO hK (fun h=>nomatch h) (fun aK=>?_);clear hK K;refine Kb kM ?_ _;go_wp2;go_roundw
     case rel =>
      exact⟨k+1,us.set (i+k) (z+u),by go_num,by omega,by simp[ai.o],(g.stored _ _).drew,by rw[<-hu];exact jO ap.o aI.o ae.o,l.step ap.o av aw,(d.set (p:=⟨W0.heap.size,i+k,X⟩) (nE _) _).drew⟩
     case measure=>simp[intOf];omega
    ·obtain rfl:k=t:=oM;go_wp2;go_roundw
     case rel=>exact⟨i+1,us,by go_num,by omega,ai.o,g,GJ aa.o aH.o ae.o ah.o,l.next,d⟩
     case measure=>simp[intOf];omega
  ·obtain rfl:i=m:=oM;have hD:dv C4 os=(na.natAbs:Int)*(nb.natAbs:Int):=by
    rw[ah.o,lT (by rw[Hl.o];omega),Hv.o,ao.o]
   have aL:0<=dv C4 os:=by rw[hD];exact Int.mul_nonneg oM oM
   have hN:na*nb=σ*dv C4 os:=by
    rw[hD,aj.o,<-Int.natCast_mul,<-Int.natAbs_mul];exact(Int.sign_mul_natAbs _).symm
   have HN:=Aa hN;have r0:=Ca (d.e j.o) (i:=0) (u:=M F 0) rfl;have r1:=Ca (d.e j.o) (i:=1) (u:=O X 0 0) rfl;have a6:=Ua (d.e j.o) 0;have a7:=Ua (d.e j.o) 1;have zr:=Gb (d.e j.o);have XW:Ba w wr:=ag.o.trans d;clear hD hN;go_wp2_with(go_at_call 152;(with_reducible refine(Br _ σ _ os (na*nb) g.ints (by rw[an.o];omega) (l.big oM) aL HN.o (fun h9=>?_)).mono ?_);(rw[aj.o];refine Xs (fun h8=>h9 ?_);have h7:=HN.o;rw[h8]at h7;rcases Int.mul_eq_zero.1 h7.symm with h6|h6;(rw[aj.o,h8]at h6;exact absurd h8 (fun _=>h9 (by have h5:=ah.o;rw[lT (by rw[Hl.o];omega),Hv.o,ao.o,<-Int.natCast_mul,<-Int.natAbs_mul,h8]at h5;simpa using h5)));exact h6);rintro e w3 ⟨r3,rfl,ay,aA⟩;obtain⟨s3,a3,m3,c3,rfl,-⟩:=ay.j;obtain⟨aM,a0⟩:=aA.cells);exact bR (v:=Oc #[M F s3,O a3 m3 c3]) (by simp[results,Tryz.results80,go_sem,aM,zr,r0,r1]) rfl ⟨_,rfl,ay.keep (Lo (aA.e (d.e j.o)) _ _),eA⟩
def MI{os xs:List Int}{i:Nat}{k x:Int}(c:os[i]?=I 0)(a:xs[i]?=I x)(h:dv C4 os=k*dv C4 (xs.take i)):dv C4 (os.set i (x*k))=k*dv C4 (xs.take (i+1)):=by rw[Bn _ c,Kl C4 xs i x a,h];grind
def yQ(W0:Z)(m:Nat)(k:Int)(xs:List Int)(c:J)(wr:Z):Prop:=
 ∃(i:Nat)(a:List Int),c=M F i/\i<=m/\a.length=m/\Mb 3 wr W0.heap.size (O (I ⟨W0.heap.size,0,X⟩) m m) a/\dv C4 a=k*dv C4 (xs.take i)/\Wk a i/\(∀x∈a,0<=x/\x<=100000000)/\Ba W0 wr
def Rw(w:Z)(va:J)(R k:Int)(ha:xd w va R)(aq:Lm Bc R)(h0:0<=k)(h1:k<=10000):Calls Tryz.prog 192 #[va,M F k] w (Ih w (R*k)):=by
 obtain⟨s,a,m,c,rfl,hs⟩:=ha.j;obtain⟨xs,hl,hi,hc,hv⟩:=ha.open;have hm:=Mo aq hc hv;rw[hl]at hm;unfold Bc at hm;have Hs:=Aa hs;have Hl:=Aa hl;have Hv:=Aa hv;clear hs hl hv;obtain⟨W0,g⟩:=gX ((w.alloc (U #[M F s,O a m c] 66)).alloc (U #[M F 0,O X 0 0] 66));have z0:w.heap.size+1+1=W0.heap.size:=by rw[<-g];simp
 have z1:w.heap.size<W0.heap.size:=oM;have z2:w.heap.size+1<W0.heap.size:=oM;have p0:W0.cell? ⟨w.heap.size,0,X⟩=I (M F s):=by rw[<-g];clear g;go_simp
 have p1:W0.cell? ⟨w.heap.size,1,X⟩=I (O a m c):=by rw[<-g];clear g;go_simp
 have f:Sa (W0.heap[w.heap.size+1]?=I (U #[M F 0,O X 0 0] 66 (0,0))):=by rw[<-g];exact Aa (Ec _ _ _ sM)
 have aa:Sa (Ba w W0):=by rw[<-g];exact Aa eA
 go_in;go_wp2_with(at_make;refine Ku (n:=m) Ok Tryz.underlying64 rfl _ _ rfl _ rfl rfl rfl oM ?_;(try rw[g]);intro w1 j q ar;(try simp only[z0]at j))
 try simp only[z0]
 have p:Mb 3 w1 W0.heap.size (O (I ⟨W0.heap.size,0,X⟩) m m) (List.replicate m 0):=j;clear g j z0;go_loopw [6] (yQ W0 m k xs) (fun t6 _=>m-(intOf t6).toNat)
 case atStart =>
  exact⟨0,_,rfl,by omega,by simp,p,by rw[Un];simp,Wk.replicate _ _,fun x K=>by rw[(List.mem_replicate.1 K).2];omega,q⟩
 case round =>
  clear p q ar;obtain⟨i,T,rfl,az,af,l,ae,ak,ad,d⟩:=hrel;have y:=Aa af;have ac:=Aa ae;have ab:=Aa ad;have e0:=d.d p0;have e1:=d.d p1;clear af ae ad;by_cases aA:i<m
  ·obtain⟨b,o,rfl,au,q⟩:=(hi.ext (aa.o.trans d)).open (by rw[Hl.o];omega);obtain⟨x,t⟩:∃x,xs[i]?=I x:=⟨_,gE (by rw[Hl.o];omega)⟩;obtain⟨z,r⟩:∃z,T[i]?=I z:=⟨_,gE (by rw[y.o];omega)⟩;have av:=q i x t;have ay:=l.frozen i;have aw:=l.cell r;have aj:=ak _ z r (nE _);rw[aj]at r;have ai:=hc.1 x (lM t);unfold C4 at ai;obtain⟨u,hu⟩:=gX (x*k);have u0:0<=u:=by rw[<-hu];exact Int.mul_nonneg ai.1 h0
   have u1:u<=100000000:=by
    have:x*k<=10000*10000:=Int.mul_le_mul oM h1 h0 oM;omega
   have am:=Aa t;have an:=Aa r;have g0:(0:Int)<=(i:Int):=oM;have g1:(i:Int)<(m:Int):=oM;clear q t r aj;go_wp2;go_roundw
   case rel =>
    refine⟨i+1,T.set i u,by go_num,by omega,by simp[y.o],l.stored _ _,?_,ak.set_next _,fun x K=>?_,d.set (nE _) _⟩
    ·rw[<-hu];exact MI an.o am.o ac.o
    ·rcases List.mem_or_eq_of_mem_set K with K|rfl
     ·exact ab.o x K
     ·exact⟨u0,u1⟩
   case measure=>simp[intOf];omega
  ·obtain rfl:i=m:=oM;have hD:dv C4 T=k*(R.natAbs:Int):=by
    rw[ac.o,lT (by rw[Hl.o];omega),Hv.o]
   have ao:0<=dv C4 T:=by rw[hD];exact Int.mul_nonneg h0 oM
   have hN:R*k=s*dv C4 T:=by
    have h2:=jB R;rw[hD,Hs.o,Int.mul_left_comm,h2,Int.mul_comm]
   have HN:=Aa hN;have HD:=Aa hD;have r0:=Ca (d.e f.o) (i:=0) (u:=M F 0) rfl;have r1:=Ca (d.e f.o) (i:=1) (u:=O X 0 0) rfl;have aB:=Ua (d.e f.o) 0;have aC:=Ua (d.e f.o) 1;have zr:=Gb (d.e f.o);have XW:Ba w wr:=aa.o.trans d;have al:Sa (dv C4 T≠0->s=1\/s = -1):=Aa (fun h9=>by
    rw[Hs.o];refine Xs (fun h8=>h9 ?_);rw[HD.o,h8];simp)
   clear hD hN;go_wp2_with(go_at_call 152;(with_reducible refine(Br _ s _ T (R*k) l.ints (by rw[y.o];omega) (fun x K=>by have:=ab.o x K;omega) ao HN.o al.o).mono ?_);rintro e w3 ⟨r3,rfl,ag,ah⟩;obtain⟨s3,a3,m3,c3,rfl,-⟩:=ag.j;obtain⟨ap,ax⟩:=ah.cells);exact bR (v:=Oc #[M F s3,O a3 m3 c3]) (by simp[results,Tryz.results192,go_sem,ap,zr,r0,r1]) rfl ⟨_,rfl,ag.keep (Lo (ah.e (d.e f.o)) _ _),eA⟩
def uQ(w:Z)(s:Int)(a:Option Od)(m c:Nat)(xs:List Int)(t3 t4:J)(W:Z):Prop:=
 ∃j:Int,t4=M F j/\ -1<=j/\j<m/\t3=M F (s*dv C4 (xs.drop (j+1).toNat))/\Ba w W/\W.heap[w.heap.size]?=I (U #[M F s,O a m c] 66 (0,0))
def XH{xs:List Int}{k:Nat}{x:Int}(h:xs[k]?=I x):dv C4 (xs.drop k)=x+10000*dv C4 (xs.drop (k+1)):=by have a:=(lS.1 h).1;rw[List.drop_eq_getElem_cons a,Il,(lS.1 h).2];rfl
def VD{xs:List Int}(a:Zd C4 xs):∀k:Nat,0<=dv C4 (xs.drop k)/\dv C4 (xs.drop k)<=dv C4 xs:=by intro k;have g:=Ml C4 (xs.take k) (xs.drop k);rw[List.take_append_drop]at g;have e:Zd C4 (xs.take k):=fun d h=>a d (List.mem_of_mem_take h);have f:Zd C4 (xs.drop k):=fun d h=>a d (List.mem_of_mem_drop h);have i:=(Gi nk e).1;have c:=(Gi nk f).1;have j:=Ri nk (xs.take k).length;have:1*dv C4 (xs.drop k)<=C4 ^ (xs.take k).length*dv C4 (xs.drop k):=Int.mul_le_mul_of_nonneg_right oM c;omega
def QD(w:Z)(va:J)(p:Int)(ha:xd w va p)(h0:-9223372036854775808<=p)(h1:p<=9223372036854775807):Calls Tryz.prog 141 #[va] w fun e w'=>e=.returned (M F p)/\Ba w w':=by
 obtain⟨s,a,m,c,rfl,hs⟩:=ha.j;obtain⟨q,hl,hi,hc,hv⟩:=ha.open;have hm:=hi.le;rw[hl]at hm;unfold maxLen at hm;have l:=jB p;rw[<-hs,<-hv]at l;have v:s = -1\/s=0\/s=1:=by rcases Sh p with ⟨e,_⟩|⟨e,_⟩|⟨e,_⟩<;>omega
 have R:=Aa hl;have T:=Aa l;have hD:dv C4 q<=9223372036854775808/\(s=1->dv C4 q<=9223372036854775807):=by
  rcases v with h|h|h<;>subst h<;>omega
 have HD:=Aa hD;clear hs hl hv l ha hD;go_in;go_wp2;go_loopw [3,4] (uQ w s a m c q) (fun _ t4 _=>(intOf t4+1).toNat)
 case atStart =>
  refine⟨(m:Int)-1,rfl,by omega,by omega,?_,eA,aN _ _⟩;rw[List.drop_of_length_le (by rw[R.o];omega)];simp
 case round =>
  obtain⟨j,rfl,j0,j1,rfl,hx,d⟩:=hrel;have ab:=Ca d (i:=0) (u:=M F s) rfl;have ac:=Ca d (i:=1) (u:=O a m c) rfl;have K:=Aa d;clear d;by_cases hj:0<=j
  ·obtain⟨k,rfl⟩:=Int.eq_ofNat_of_zero_le hj;have hk:k<m:=oM;obtain⟨b,o,rfl,ad,y⟩:=(hi.ext hx).open (by rw[R.o];omega);obtain⟨x,f⟩:∃x,q[k]?=I x:=⟨_,gE (by rw[R.o];omega)⟩;have ae:=y k x f;have aa:=hc.1 x (lM f);unfold C4 at aa;have z:=XH f;have d2:=VD hc.1 k;have d3:=VD hc.1 (k+1);rw[show ((k:Int)+1).toNat=k+1 by omega];obtain⟨E,hE⟩:=gX (dv C4 (q.drop (k+1)));rw[hE]at z d3 ⊢;rw[z]at d2;obtain⟨r,g⟩:=HD.o;obtain⟨D,t⟩:=gX (dv C4 q);rw[t]at d2 d3 r g;obtain⟨A,hA⟩:=gX (s*E);obtain⟨u,hu⟩:=gX (s*x);have f1:-9223372036854775808<=A*10000/\A*10000<=9223372036854775807/\ -10000<=u/\u<=10000/\ -9223372036854775808<=A*10000+u/\A*10000+u<=9223372036854775807/\A*10000+u=s*(x+10000*E):=by
    rcases v with h|h|h<;>subst h<;>(try have:=g rfl)<;>omega
   obtain⟨f1,f2,f3,f4,f5,f6,f7⟩:=f1;have F7:=Aa f7;have D1:=Aa z;clear z d2 d3 hE r g t f7 y f;rw[hA];go_wp2;go_quiet (fail);go_wp2;go_roundw
   case rel =>
    refine⟨(k:Int)-1,rfl,by omega,by omega,?_,eA,K.o⟩;rw[show ((k:Int)-1+1).toNat=k by omega,D1.o,F7.o]
   case measure=>simp[intOf]
  ·obtain rfl:j = -1:=oM;have e:s*dv C4 (q.drop ((-1:Int)+1).toNat)=p:=by
    simp only[show ((-1:Int)+1).toNat=0 from rfl,List.drop_zero];exact T.o
   rw[e];clear e;go_wp2;go_ret;exact⟨rfl,eA⟩
end
section
open Go.RowKit Go.Shelf Go.Sort Go.Lib
def jq(s:Sp)(x:Int):Bool:=decide (s.lo<x)&&decide (x<s.hi)
def Eg(s:Sp)(ps:LP):List Int:=(ps.map (·.1)).filter (jq s)
def Mc(s:Sp):List Int:=compact (pg (s.lo::s.hi::Eg s (s.over++s.under)))
def Jb(s:Sp):List Rat:=(Mc s).map fun z:Int=>(z:Rat)
def Gg(s:Sp):Prop:=mc s.over/\mc s.under/\Bd 104000 s.lo/\Bd 104000 s.hi
def lk{ps qs:LP}(h:mc ps)(k:mc qs):Gg (Nb ps qs):=by have a:=DB h;have c:=DB k;refine⟨h,k,?_,?_⟩<;>(unfold Nb;unfold Bd at *;dsimp only;omega)
def lD{s:Sp}(h:Gg s):∀z∈Mc s,Bd 104000 z:=by
 intro z g;have:=OE g;rw[Eh]at this;obtain⟨c,d,e,f⟩:=h;rcases List.mem_cons.1 this with rfl|this
 ·exact e
 rcases List.mem_cons.1 this with rfl|this
 ·exact f
 obtain⟨p,a,rfl⟩:=List.mem_map.1 (List.mem_filter.1 this).1;rcases List.mem_append.1 a with a|a
 ·exact(c.2.1 p a).1
 ·exact(d.2.1 p a).1
def CK(s:Sp)(ps:LP):(Eg s ps).length<=ps.length:=by unfold Eg;exact nT (List.length_filter_le _ _) sM
def UM{s:Sp}{ps:LP}{i:Nat}{p:Int×Int}(h:ps[i]?=I p):Eg s (ps.take (i+1))=Eg s (ps.take i)++(if jq s p.1 then [p.1]else []):=by
 unfold Eg;rw[Rf _ _ _ h,List.map_append,List.filter_append]
 congr 1
 simp[List.filter_cons]
def BQ(W0:Z)(base:Nat)(s:Sp)(a:J)(g:Nat)(t3 t21:J)(W:Z):Prop:=
 ∃i:Nat,i<=(s.over++s.under).length/\t21=M F i/\g=(s.over++s.under).length-i/\Ba W0 W/\base<=W.heap.size/\Ja W a (s.over++s.under)/\Ka 3 1 W base t3 ((s.lo::s.hi::Eg s ((s.over++s.under).take i)).map ic)
def AQ(W0:Z)(base:Nat)(zs:List Int)(v46:J)(g:Nat)(c a:J)(W:Z):Prop:=
 ∃i:Nat,i<=zs.length/\a=M F i/\g=zs.length-i/\Ba W0 W/\base<=W.heap.size/\Ka 3 1 W base v46 (zs.map ic)/\Ef W base c ((zs.take i).map fun z:Int=>(z:Rat))
def AI(W:Z)(x:Int)(T:TypeId):∀(j:Nat) u,[ic x].flatten[j]?=I u->(W.alloc (U #[M F x] T)).cell? ((⟨W.heap.size,0,X⟩:Od).add j)=I u:=by
 intro j u a
 match j,a with
 | 0,a=>simp[ic]at a;subst a;simp[Addr.add]
 | j+1,a=>simp[ic]at a
def FH(x:Int):∀u∈[ic x].flatten,u.oneCell'=true:=XG (zs:=[x])
def sI(W:Z)(base:Nat)(x y:Int)(h:base<=W.heap.size):Ka 3 1 (W.alloc (U #[M F x,M F y] 3)) base (O (I ⟨W.heap.size,0,X⟩) 2 2) ([x,y].map ic):=
 ⟨Tu,by simp[ic],.inr ⟨W.heap.size,2,_,rfl,h,aN _ _,by simp,by unfold maxLen;omega,by simp,by simp[ic]⟩⟩
def LL(W:Z){b:Nat}(l:b=W.heap.size){e f:J}{ps qs:LP}(j:Ja W e ps)(k:Ja W f qs):Sl 121 1 (Ej 121) (W.alloc (U #[e,f] 121)) (O (I ⟨b,0,X⟩) 2 2) [ps,qs]:=by
 subst l;refine⟨[[e],[f]],rfl,by simp,⟨by simp,I ⟨W.heap.size,0,X⟩,2,rfl,nE _,by unfold maxLen;omega,.inr ⟨W.heap.size,0,#[e,f],(0,0),rfl,aN _ _,?_⟩⟩,?_⟩
 ·intro i x a;simpa using a
 ·intro i c x d a;have g:Ba W (W.alloc (U #[e,f] 121)):=(eR W).alloc _
  match i,d,a with
  | 0,d,a=>simp at d a;subst d a;exact⟨_,rfl,j.f g⟩
  | 1,d,a=>simp at d a;subst d a;exact⟨_,rfl,k.f g⟩
  | i+2,d,a=>simp at d
def MG(W:Z)(x y z:J)(T:TypeId):∀(j:Nat) u,[[x,y,z]].flatten[j]?=I u->(W.alloc (U #[x,y,z] T)).cell? ((⟨W.heap.size,0,X⟩:Od).add j)=I u:=by
 intro j u a
 match j,a with
 | 0,a=>simp at a;subst a;simp[Addr.add]
 | 1,a=>simp at a;subst a;simp[Addr.add]
 | 2,a=>simp at a;subst a;simp[Addr.add]
 | j+3,a=>simp at a
def Ef.app{f wr:Z}{base:Nat}{k:J}{qs:List Rat}{cs:List (List J)}{d:List J}{q:Rat}(h:Ka 63 3 f base k (cs++[d]))(g:cs.length=qs.length)(j:∀(i:Nat) c q,cs[i]?=I c->qs[i]?=I q->PR wr c q)(p:Ia 2 wr f)(l:Ab f (Oc d.toArray) q):Ef f base k (qs++[q]):=by
 refine⟨cs++[d],h,by simp[g],fun i c x a e=>?_⟩;by_cases o:i<cs.length
 ·rw[List.getElem?_append_left o]at a;rw[List.getElem?_append_left oM]at e;exact Ab.keep (j i c x a e) p
 ·rw[List.getElem?_append_right oM]at a e;have r:=(lS.1 a).1;simp at r;have:i-cs.length=0:=oM;rw[this]at a;rw[show i-qs.length=0 by omega]at e;simp at a e;subst a e;exact l
def kD(w:Z)(v1 v2:J)(s:Sp)(h1:Ja w v1 s.over)(h2:Ja w v2 s.under)(ar:Gg s):Calls Tryz.prog 105 #[Hi s v1 v2] w (yo w (Jb s)):=by
 obtain⟨a1,m1,rfl⟩:=h1.form;obtain⟨a2,m2,rfl⟩:=h2.form;obtain⟨R,hR⟩:=gX (yo w (Jb s));rw[hR];have HR:=Aa hR;have bl:=Aa ar;clear hR;unfold Hi;obtain⟨n1,f1⟩:=gX s.over.length;obtain⟨n2,f2⟩:=gX s.under.length;obtain⟨lo,aB⟩:=gX s.lo;obtain⟨hi,aA⟩:=gX s.hi;rw[f1]at h1 ⊢;rw[f2]at h2 ⊢;rw[aB,aA];have aM:=Aa aB;have aL:=Aa aA;have hn:(s.over++s.under).length=n1+n2:=by simp[f1,f2]
 have Hn:=Aa hn;have q1:n1<=64:=by rw[<-f1];exact ar.1.2.2
 have q2:n2<=64:=by rw[<-f2];exact ar.2.1.2.2
 have H1:=Aa (fun(W:Z)(hW:Ba w W)=>h1.f hW);have H2:=Aa (fun(W:Z)(hW:Ba w W)=>h2.f hW);clear ar f1 f2 aB aA hn h1 h2;go_in;obtain⟨W0,ao⟩:=gX ((w.alloc (U #[O a1 n1 m1,O a2 n2 m2,M F lo,M F hi] 138)));have hB:W0.heap[w.heap.size]?=I (U #[O a1 n1 m1,O a2 n2 m2,M F lo,M F hi] 138 (0,0)):=by rw[<-ao];exact aN _ _
 have bq:Ba w W0:=by rw[<-ao];exact(eR _).alloc _
 have aD:W0.heap.size=w.heap.size+1:=by rw[<-ao];simp
 have b0:=Ca hB (i:=0) (u:=O a1 n1 m1) rfl;have b1:=Ca hB (i:=1) (u:=O a2 n2 m2) rfl;have b2:=Ca hB (i:=2) (u:=M F lo) rfl;have b3:=Ca hB (i:=3) (u:=M F hi) rfl;have HP:=Aa bq;have ac:=Aa aD;go_wp2_with(go_at_call 104;(with_reducible refine(UN _ _ [s.over,s.under] (LL _ ?_ (H1.o _ ?_) (H2.o _ ?_)) ?_).mono ?_);(simp only[wZ];have:=ac.o;omega);(exact HP.o.alloc _);(exact HP.o.alloc _);(have:=Hn.o;simp only[Sj,List.flatten_cons,List.flatten_nil,List.append_nil];omega);rintro e w3 ⟨v3,rfl,q,av⟩;obtain⟨a3,n3,c3,rfl⟩:=q.i;obtain⟨br,bs⟩:=av.cells);rw[show [s.over,s.under].flatten=s.over++s.under by simp]at q;have bc:=q.pts;have aZ:=q.len;rw[lL,Hn.o]at aZ;subst aZ;have aE:Ba W0 w3:=(((eR W0).alloc _).alloc _).trans av;have bi:=aE.size;have ab:=(((sI W0 W0.heap.size lo hi (nE _)).ext ((eR _).alloc (U #[O a1 n1 m1,O a2 n2 m2] 121))).ext av);rw[aD]at ab;clear br bs av ao b0 b1 b2 b3;go_loopg [3,21] (n1+n2) (BQ W0 (w.heap.size+1) s (O a3 (n1+n2) c3))
 case atStart =>
  refine⟨0,by omega,rfl,by rw[Hn.o];rfl,aE,by rw[<-aD];exact bi,bc,?_⟩;rw[aM.o,aL.o,List.take_zero,show Eg s []=[]from rfl];exact ab
 case round =>
  clear ab bc q aE bi;obtain⟨i,bt,rfl,rfl,hx,aq,au,a⟩:=hrel;rw[Hn.o]at bt;obtain⟨bn,bj,aS,rfl⟩:=a.i;have a0:=CK s ((s.over++s.under).take i);have a4:((s.over++s.under).take i).length<=i:=by simp;omega
  have ae:((s.lo::s.hi::Eg s ((s.over++s.under).take i)).map ic).length<=200:=by simp;omega
  have b0:=hx.d (Ca hB (i:=0) (u:=O a1 n1 m1) rfl);have b1:=hx.d (Ca hB (i:=1) (u:=O a2 n2 m2) rfl);have b2:=hx.d (Ca hB (i:=2) (u:=M F lo) rfl);have b3:=hx.d (Ca hB (i:=3) (u:=M F hi) rfl);have f:=Aa a;have Hx:=Aa hx;have am:=Aa au;have ak:=Aa ae;have Hb:=Aa hB;have bD:=hx.size;have bC:w.heap.size<wr.heap.size:=by have:=ac.o;omega
  by_cases af:i<n1+n2
  ·obtain⟨⟨x,z⟩,aJ⟩:∃p,(s.over++s.under)[i]?=I p:=⟨(s.over++s.under)[i]'(by rw[Hn.o];exact af),by simp[Hn.o,af]⟩;obtain⟨b,o,rfl,hb,c0,c1⟩:=au.at' aJ;have bb:=UM (s:=s) aJ;have al:=Aa bb;have aY:jq s x=(decide (lo<x)&&decide (x<hi)):=by unfold jq;rw[aM.o,aL.o]
   have aj:=Aa aY;clear bb aJ au a hx a0 a4 aY hB;by_cases hc:lo<x/\x<hi
   ·obtain⟨g1,g2⟩:=hc;obtain⟨n3,bA⟩:=gX bj;(have hE:Eg s ((s.over++s.under).take (i+1))=Eg s ((s.over++s.under).take i)++[x]:=by rw[al.o];dsimp only;rw[aj.o];simp[g1,g2]);have HE:=Aa hE;clear hE al aj;go_wp2_with(at_builtin;refine zh (T:=3) (t:=64) (z:=M F 0) (k:=1) (bytes:=8) (base:=w.heap.size+1) (v:=O bn bj aS) (m:=1) (c:=1) (ad:=⟨wr.heap.size+1,0,X⟩) CH rfl dM dM Tryz.underlying64 rfl _ _ rfl rfl (f.o.ext eA) rfl [ic x] rfl (by simp[ic]) (by simpa using AI (wr.alloc (U #[M F x,M F z] 43)) x 3) (FH x) (by have:=ak.o;omega) (by simp only[wZ];omega) ?_;intro v' w5 r l ba;obtain⟨a5,n5,c5,rfl⟩:=r.i);go_roundg (n1+n2-(i+1))
    case measure=>have:=Hn.o;rw[lA]at this;omega
    case rel =>
     have y:Ba wr ((wr.alloc (U #[M F x,M F z] 43)).alloc (U #[M F x] 3)):=((eR wr).alloc _).alloc _;have aa:=f.o.ext y;have ag:=Mh (base:=w.heap.size+1) l (by simp only[wZ];omega) (fun k hk=>(aa.lt k hk).1);refine⟨i+1,by rw[Hn.o];omega,by go_num,by rw[Hn.o],(Hx.o.trans y).y ag (by rw[ac.o];exact nE _),nT aq (nT y.size ag.size),(am.o.f y).z (aa.keepT dM l),?_⟩;rw[HE.o];simpa using r
   ·have hE:Eg s ((s.over++s.under).take (i+1))=Eg s ((s.over++s.under).take i):=by
     rw[al.o];dsimp only;rw[aj.o,if_neg (by simp;omega),List.append_nil]
    have HE:=Aa hE;clear hE al aj;by_cases g1:lo<x
    ·have g2:¬x<hi:=fun h=>hc ⟨g1,h⟩;go_wp2;go_roundg (n1+n2-(i+1))
     case measure=>have:=Hn.o;rw[lA]at this;omega
     case rel =>
      have y:Ba wr (wr.alloc (U #[M F x,M F z] 43)):=((eR wr).alloc _);refine⟨i+1,by rw[Hn.o];omega,by go_num,by rw[Hn.o],Hx.o.trans y,nT aq y.size,am.o.f y,?_⟩;rw[HE.o];exact f.o.ext y
    ·go_wp2;go_roundg (n1+n2-(i+1))
     case measure=>have:=Hn.o;rw[lA]at this;omega
     case rel =>
      have y:Ba wr (wr.alloc (U #[M F x,M F z] 43)):=((eR wr).alloc _);refine⟨i+1,by rw[Hn.o];omega,by go_num,by rw[Hn.o],Hx.o.trans y,nT aq y.size,am.o.f y,?_⟩;rw[HE.o];exact f.o.ext y
  ·obtain rfl:i=n1+n2:=oM;have hE:(s.over++s.under).take (n1+n2)=s.over++s.under:=lT (by rw[Hn.o];exact nE _);rw[hE]at a f ae ak;obtain⟨g,rfl,aV,bz⟩:=a.blk sM;have aK:(s.lo::s.hi::Eg s (s.over++s.under)).length<=200:=by rw[lL]at ae;exact ae
   have an:=Aa aK;obtain⟨L1,aC⟩:=gX ((s.lo::s.hi::Eg s (s.over++s.under)));rw[aC]at a f ae ak aK an;have aO:=Aa aC;clear hE aC a a0 a4 ae au hx hB;go_wp2_with(first|(go_at_call 172;(with_reducible refine(rM _ _ _ _ _ _ f.o ?_).mono ?_);(have:=an.o;omega);rintro e w5 ⟨rfl,r,aW⟩)|(go_at_call 173;(with_reducible refine(rP _ _ _ _ _ _ r ?_).mono ?_);(have:=an.o;rw[Ar];omega);rintro e w6 ⟨rfl,K,aX⟩));have ap:=Mh (base:=w.heap.size+1) aW oM (fun k hk=>by cases hk;exact aV);have aF:=Mh (base:=w.heap.size+1) aX (nT aq ap.size) (fun k hk=>by cases hk;exact aV);have aT:Ba W0 w6:=(Hx.o.y ap (by rw[ac.o];exact nE _)).y aF (by rw[ac.o];exact nE _);have bf:w.heap.size+1<=w6.heap.size:=by have:=ap.size;have:=aF.size;omega
   obtain⟨zs,aw⟩:=gX (compact (pg L1));have bv:zs.length<=200:=by rw[<-aw];have:=PE (pg L1);rw[Ar]at this;omega
   have ai:Mc s=zs:=by unfold Mc;rw[aO.o,aw]
   have aP:=Aa (lD bl.o);rw[ai]at aP;have aR:=Aa ai;rw[aw]at K ⊢;obtain⟨m,hm⟩:=gX zs.length;rw[hm]at K bv ⊢;have Hm:=Aa hm;clear hm aw ai r aW aX ap aF f aO aK an ak am b0 b1 b2 b3 Hb af;go_loopg [6,48] m (AQ W0 (w.heap.size+1) zs (O (I ⟨g,0,X⟩) m aS))
   case atStart=>exact⟨0,by omega,rfl,by rw[Hm.o];rfl,aT,bf,K,by simpa using Ef.nil _ _⟩
   case round =>
    clear K aT bf;obtain⟨i,bu,rfl,rfl,hx,bx,a,hR⟩:=hrel;rw[Hm.o]at bu;obtain⟨cs,aI,aH,aU⟩:=hR;obtain⟨bo,bw,bp,rfl⟩:=aI.i;have az:=Aa aI;have ay:=Aa aU;have ax:=Aa aH;have f:=Aa a;have aQ:=Aa hx;have zg:=(a.lt g rfl).2;by_cases af:i<m
    ·obtain⟨z,hz⟩:∃z,zs[i]?=I z:=⟨zs[i]'(by rw[Hm.o];exact af),by simp[Hm.o,af]⟩;have c0:=a.cell (i:=i) (j:=0) (d:=ic z) (u:=M F z) (by rw[lP,hz];rfl) rfl;simp only[Nat.mul_one,Nat.add_zero]at c0;have aG:=aP.o z (lM hz);(have a6:cs.length<=200:=by rw[aH];simp;omega);have bk:=Aa a6;have HC:=Aa (fun W=>nl W z (by unfold Bd at aG;omega) (by unfold Bd at aG;omega));(have bg:(zs.take (i+1)).map (fun z:Int=>(z:Rat))=(zs.take i).map (fun z:Int=>(z:Rat))++[(z:Rat)]:=by rw[Rf _ _ _ hz,List.map_append];rfl);have bm:=Aa bg;clear bg hz aI aU aH a hx aG a6;go_wp2_with(first|(go_at_call 85;refine cM (HC.o _) ?_;rintro e w7 ⟨r7,rfl,be,bh⟩;obtain⟨a7,m7,c7,s7,a8,m8,c8,rfl⟩:=be.form)|(at_builtin;refine zh (T:=63) (t:=177) (z:=Oc #[O X 0 0,Oa false,O X 0 0]) (k:=3) (bytes:=56) (base:=w.heap.size+1) (v:=O bo bw bp) (m:=1) (c:=1) (ad:=⟨w7.heap.size,0,X⟩) WG rfl dM dM Tryz.underlying177 rfl _ _ rfl rfl (az.o.ext eA) rfl [[O a7 m7 c7,Oa s7,O a8 m8 c8]] rfl sM (MG _ _ _ _ _) (by simp[Value.oneCell']) (by have:=bk.o;omega) (by have:=bh.size;simp only[wZ,Cc]at *;omega) ?_;intro v' w8 ah l ba;obtain⟨a9,n9,c9,rfl⟩:=ah.i));go_roundg (m-(i+1))
     case measure=>have:=Hm.o;omega
     case rel =>
      have y:Ba wr (w7.alloc (U #[O a7 m7 c7,Oa s7,O a8 m8 c8] 63)):=(((eR wr).trans bh).alloc _);have aa:=az.o.ext y;have bB:=y.size;have ag:=Mh (base:=w.heap.size+1) l oM (fun k hk=>(aa.lt k hk).1);refine⟨i+1,by rw[Hm.o];omega,by go_num,by rw[Hm.o],(aQ.o.trans y).y ag (by rw[ac.o];exact nE _),by have:=ag.size;omega,(f.o.ext y).keep (aa.keepT dM l),?_⟩;rw[bm.o];exact Ef.app ah ax.o ay.o (y.keep.trans (aa.keepT dM l)) (be.keep (((eR w7).alloc _).keep.trans (aa.keepT dM l)))
    ·obtain rfl:i=m:=oM;have hE:zs.take i=zs:=lT (by rw[Hm.o];exact nE _);rw[hE]at ay ax;clear hE;go_wp2;rw[<-HR.o];refine⟨_,rfl,?_,HP.o.trans aQ.o⟩;unfold Jb;rw[aR.o];exact Ef.mono ⟨cs,az.o,ax.o,ay.o⟩ oM
end
section
open Go.RowKit Go.Shelf
def Ig(W:Z)(b:Nat):Nat->List J->Z
 | _,[]=>W
 | i,v::vs=>Ig (W.setCell ⟨b,i,X⟩ v) b (i+1) vs
def Zm(cs:Array J):Nat->List J->Array J
 | _,[]=>cs
 | i,v::vs=>Zm (cs.setIfInBounds i v) (i+1) vs
def Oz{b:Nat}{T:TypeId}{d:Nat×Nat}:∀(a:List J)(i:Nat){W:Z}{c:Array J},W.heap[b]?=I (U c T d)->(Ig W b i a).heap[b]?=I (U (Zm c i a) T d)
 | [],_,_,_,h=>h
 | _::a,i,_,_,h=>Oz a (i+1) (Pk h i _)
def FC:∀(e d a:List J),d.length=e.length->Zm (a++d).toArray a.length e=(a++e).toArray
 | [],d,a,h=>by rw[List.eq_nil_of_length_eq_zero h];rfl
 | v::e,[],_,h=>by cases h
 | v::e,c::d,a,h=>by
  have f:=FC e d (a++[v]) (by simpa using h);unfold Zm;rw[show (a++c::d).toArray.setIfInBounds a.length v=(a++[v]++d).toArray by simp];rw[lA,List.length_singleton]at f;rw[f];simp
def Mp{W:Z}{b:Nat}{cs:List J}{T:TypeId}{c:Nat×Nat}(a:List J)(h:W.heap[b]?=I (U cs.toArray T c))(d:cs.length=a.length):(Ig W b 0 a).heap[b]?=I (U a.toArray T c):=by rw[Oz a 0 h];have:=FC a cs [] d;rw[List.nil_append,List.nil_append]at this;rw[List.length_nil]at this;rw[this]
def Xm{b k:Nat}(c:k≠b):∀(a:List J)(i:Nat)(W:Z),(Ig W b i a).heap[k]?=W.heap[k]?
 | [],_,_=>rfl
 | _::a,i,W=>(Xm c a (i+1) _).trans (bS _ _ _ _ c)
def Pj{T:TypeId}{b:Nat}:∀(a:List J)(i:Nat){W:Z},ld T W b->Ia T W (Ig W b i a)
 | [],_,_,_=>Ia.refl _ _
 | _::a,i,_,h=>(Ia.x (p:=⟨b,i,X⟩) (Ia.refl _ _) h _).trans (Pj a (i+1) (h.set _ _))
def Gn{w:Z}{b:Nat}(c:w.heap.size<=b):∀(a:List J)(i:Nat){W:Z},Ba w W->Ba w (Ig W b i a)
 | [],_,_,h=>h
 | _::a,i,_,h=>Gn c a (i+1) (Ba.set (p:=⟨b,i,X⟩) h c _)
def Zn{W:Z}{b c:Nat}{l k:TypeId}{p o:Nat×Nat}{cs ds:List J}(a d:List J)(r:W.heap[b]?=I (U cs.toArray l p))(z:W.heap[c]?=I (U ds.toArray k o))(i:c≠b)(w:cs.length=a.length)(y:ds.length=d.length):(Ig (Ig W b 0 a) c 0 d).heap[b]?=I (U a.toArray l p)/\(Ig (Ig W b 0 a) c 0 d).heap[c]?=I (U d.toArray k o)/\(∀j,j≠b->j≠c->(Ig (Ig W b 0 a) c 0 d).heap[j]?=W.heap[j]?)/\(∀T,T≠l->T≠k->Ia T W (Ig (Ig W b 0 a) c 0 d))/\∀v:Z,Ba v W->v.heap.size<=b->v.heap.size<=c->Ba v (Ig (Ig W b 0 a) c 0 d):=by
 have t:=Mp a r w;have q:(Ig W b 0 a).heap[c]?=I (U ds.toArray k o):=(Xm i a 0 W).trans z;refine⟨(Xm (fun e=>i e.symm) d 0 _).trans t,Mp d q y,fun j f g=>(Xm g d 0 _).trans (Xm f a 0 W),fun T f g=>(Pj a 0 ?_).trans (Pj d 0 ?_),fun v f g u=>Gn u d 0 (Gn g a 0 f)⟩
 ·intro x s h;rw[r]at h;cases h;exact f rfl
 ·intro x s h;rw[q]at h;cases h;exact g rfl
end
section
open Go.RowKit Go.Shelf
attribute [local go_sem] Oper.semAt_some
def If(n:Nat):List UInt8:=[n/1000000,n/100000,n/10000,n/1000,n/100,n/10,n].map fun d=>UInt8.ofNat (48+d%10)
def Wa:Nat->Nat->List (List UInt8)
 | 0,_=>[]
 | k+1,n=>if n=0 then []else Wa k (n/10000000)++[If (n%10000000)]
def Te(n:Nat):List UInt8:=if Lib.trimLeftB (Wa (n+1) n).flatten 48=[]then [48]else Lib.trimLeftB (Wa (n+1) n).flatten 48
def TJ(n:Nat):(If n).length=7:=rfl
def JN(n:Nat):(If n).map (fun b=>Value.int .u8 (b.toNat:Int))=[n/1000000,n/100000,n/10000,n/1000,n/100,n/10,n].map fun d=>Value.int .u8 ((48+d%10:Nat):Int):=by unfold If;rw[List.map_map];refine List.map_congr_left fun d _=>?_;have:(UInt8.ofNat (48+d%10)).toNat=48+d%10:=UInt8.toNat_ofNat_of_lt' (by simp[UInt8.size];omega);simp only[Function.comp_apply,this]
def Uk(n:Nat):Nat->List Int
 | 0=>[0,0,0,0,0,0,0]
 | i+1=>(Uk n i).set (6-i) ((48+n/10 ^ i%10:Nat):Int)
def Zi(n i:Nat):Array J:=((Uk n i).map (Value.int .u8)).toArray
def WB(n:Nat):∀i,(Uk n i).length=7
 | 0=>rfl
 | i+1=>by rw[Uk,List.length_set,WB n i]
def SJ(n:Nat):Zi n 7=((If n).map fun b=>Value.int .u8 (b.toNat:Int)).toArray:=by rw[JN];simp[Zi,Uk]
def RJ(n:Nat){i:Nat}(a:i<7):(Zi n i).setIfInBounds (6-i) (M .u8 ((48+n/10 ^ i%10:Nat):Int))=Zi n (i+1):=by unfold Zi;rw[List.setIfInBounds_toArray,Uk,List.map_set]
def yP{k n:Nat}(h:n<k)(a:n≠0):∃k',k=k'+1/\n/10000000<k'/\Wa k n=Wa k' (n/10000000)++[If (n%10000000)]:=by obtain⟨k',rfl⟩:∃k',k=k'+1:=⟨k-1,by omega⟩;exact⟨k',rfl,by omega,by rw[Wa,if_neg a]⟩
def Dx(k:Nat):Wa k 0=[]:=by cases k<;>simp[Wa]
def sc(s:List UInt8):List J:=[.string ⟨s.toArray⟩]
def Fb:Nat:=100000
def Nx(w:Z)(n0:Nat)(g:Nat)(t3:J)(W:Z):Prop:=
 ∃(n k:Nat)(d:List (List UInt8))(a:Option Od)(m c:Nat),g=n/\n<k/\Wa (n0+1) n0=Wa k n++d/\d.length<=2*Fb/\n*2 ^ (23*d.length)<=n0/\(∀s∈d,s.length=7)/\Ba w W/\
  W.heap[w.heap.size]?=I (U #[O a m c] 59 (0,0))/\Jd W (Oc #[O a m c]) n/\Ka 9 1 W w.heap.size t3 (d.map sc)/\w.heap.size<W.heap.size
def zQ(W0:Z)(n:Nat)(b:Nat)(g:Nat)(a t25:J)(W:Z):Prop:=
 ∃i:Nat,i<=7/\g=7-i/\t25=M F i/\a=M .u64 ((n/10 ^ i:Nat):Int)/\Ba W0 W/\W.heap[b]?=I (U (Zi n i) 5 (0,0))
def Nx.step{n0 n k:Nat}{ps:List (List UInt8)}(p:Lm Fb n0)(d:n≠0)(o:n<k)(l:Wa (n0+1) n0=Wa k n++ps)(f:n*2 ^ (23*ps.length)<=n0):∃k',n/10000000<k'/\Wa (n0+1) n0=Wa k' (n/10000000)++(If (n%10000000)::ps)/\(If (n%10000000)::ps).length<=2*Fb/\n/10000000*2 ^ (23*(If (n%10000000)::ps).length)<=n0:=by
 obtain⟨k',rfl,g,i⟩:=yP o d;refine⟨k',g,by rw[l,i,List.append_assoc];rfl,?_,?_⟩
 ·have a:(n0:Int)<B ^ Fb:=p.2;have e:(B:Int) ^ Fb=((2 ^ (24*Fb):Nat):Int):=by
   rw[Nat.pow_mul];unfold B;rw[Int.natCast_pow];rfl
  rw[e]at a;have c:n0<2 ^ (24*Fb):=by exact_mod_cast a
  have j:2 ^ (23*ps.length)<=n0:=nT (Nat.le_mul_of_pos_left _ (Nat.pos_of_ne_zero d)) f;have q:23*ps.length<24*Fb:=(Nat.pow_lt_pow_iff_right (by decide:1<2)).1 (Nat.lt_of_le_of_lt j c);rw[List.length_cons];unfold Fb at *;omega
 ·rw[List.length_cons,Nat.mul_add,Nat.pow_add];have:n/10000000*8388608<=n:=oM;have e:n/10000000*(2 ^ (23*ps.length)*2 ^ (23*1))=(n/10000000*8388608)*2 ^ (23*ps.length):=by
   rw[show (2:Nat) ^ (23*1)=8388608 from rfl,Nat.mul_comm (2 ^ (23*ps.length)),Nat.mul_assoc]
  exact nT (Nat.le_of_eq e) (nT (Nat.mul_le_mul_right _ this) f)
def xI(W:Z){x:Int}(a:0<x)(c:x<B):Jd (W.alloc (U #[M F x] 2)) (Oc #[O (I ⟨W.heap.size,0,X⟩) 1 1]) x:=by
 refine⟨_,[x],rfl,⟨rfl,_,1,rfl,nE _,by unfold maxLen;omega,.inr ⟨W.heap.size,0,_,(0,0),rfl,aN _ _,?_⟩⟩,⟨?_,?_⟩,by simp⟩
 ·intro i v hv
  match i,hv with
  | 0,hv=>simpa[Nc] using hv
  | i+1,hv=>simp[Nc]at hv
 ·intro d e;rw[List.mem_singleton.1 e];exact⟨Int.le_of_lt a,c⟩
 ·simp;omega
def YK{P:Program}{T t:TypeId}{k bytes:Nat}{z:J}{w:Z}{base:Nat}{v sl:J}{cs:List (List J)}{ops:Array Oper}{o:Oper}{a:Ob}{K:Ob->Z->Prop}{Q:Exit->Ob->Z->Prop}{E:Prop}(e:(P.info? T).map (fun i=>(i.zero,i.size,i.bytes))=I (I z,k,bytes))(r:z.cells.size=k)(hk:0<k)(p:bytes<=1000)(ht:P.underlying t=I (.slice T))(q:o.guard=X)(s x:Operand)(ho:o.op = .call { callee:=.builtin .append,args:=#[s,x],argTypes:=#[t,t] })(hs:a.eval s=v)(g:Ka T k w base v cs)(hx:a.eval x=sl)
  (ds:List (List J))(hd:∀c∈ds,c.length=k)(l:Rd w T k sl ds.length ds.flatten)(y:∀u∈ds.flatten,u.oneCell'=true)(f:cs.length+ds.length<=100000000000)(d:base<=w.heap.size)
  (h:∀v' w',Ka T k w' base v' (cs++ds)->w.grownBy w' v.ownBlock->(v'.ownBlock=v.ownBlock\/v'.ownBlock=I w.heap.size)->K (a.put o.dst v') w') :
  if Region.wanted o (yielded ops a.tmps)=true then Oper.wp P o a w K Q else E:=by
 have hw:Region.wanted o (yielded ops a.tmps)=true:=by simp[Region.wanted,q]
 rw[if_pos hw];obtain⟨v',w',j,R,h3,h4⟩:=lB (P:=P) o.type e r hk p ht g hd l y f d;unfold Oper.wp;simp[execOp,ho,resolve,invoke,builtin,hs,hx,j,Result.andThen];exact h v' w' R h3 h4
def ZP(W:Z):(Instr.makeSlice 308 (M F 7) (M F 7)).run Tryz.prog W = .ok (O (I ⟨W.heap.size,0,X⟩) 7 7) (W.alloc (U #[M .u8 0,M .u8 0,M .u8 0,M .u8 0,M .u8 0,M .u8 0,M .u8 0] 5)):=by kernel_rfl
def Wr{W:Z}{b q:Nat}{a:Nat×Nat}(h:W.heap[b]?=I (U (Zi q 7) 5 a)):(convert 308 9 (O (I ⟨b,0,X⟩) 7 7)).run Tryz.prog W = .ok (.string ⟨(If q).toArray⟩) W:=by
 refine run_convert_bytes_back W 308 9 5 ⟨b,0,X⟩ 7 (If q) Tryz.underlying308 Tryz.underlying5 Tryz.underlying9 fun j c=>?_;have e:((⟨b,0,X⟩:Od).add j)=⟨b,j,X⟩:=by unfold Addr.add;split<;>simp_all
 rw[e];rw[SJ]at h;refine Ca h ?_;rw[List.getElem?_toArray,lP,gE c];rfl
def vH{w:Z}{base:Nat}(s:List UInt8)(a:base<=w.heap.size):Ka 9 1 (w.alloc (U #[.string ⟨s.toArray⟩] 9)) base (O (I ⟨w.heap.size,0,X⟩) 1 1) [sc s]:=
 ⟨fun c d=>by rw[List.mem_singleton.1 d];rfl,⟨by simp[sc],.inr ⟨w.heap.size,1,#[.string ⟨s.toArray⟩],rfl,a,aN w _,by simp,by simp[maxLen],by simp,by simp[sc]⟩⟩⟩
def VF{ps:List (List UInt8)}:∀u∈(ps.map sc).flatten,u.oneCell'=true:=by intro u a;obtain⟨d,c,a⟩:=List.mem_flatten.1 a;obtain⟨p,_,rfl⟩:=List.mem_map.1 c;rw[List.mem_singleton.1 a];rfl
def WF{ps:List (List UInt8)}:∀c∈ps.map sc,c.length=1:=by intro c a;obtain⟨p,_,rfl⟩:=List.mem_map.1 a;rfl
def zJ:(Tryz.prog.info? 9).map (fun i=>(i.zero,i.size,i.bytes))=I (I (.string ⟨#[]⟩),1,16):=kM
def Mv:∀xs:List (List UInt8),Lib.join xs []=xs.flatten
 | []=>rfl
 | [x]=>by simp[Lib.join]
 | x::y::r=>by
  have:=Mv (y::r);simp only[Lib.join,List.flatten_cons]at this ⊢;simpa using this
def Vl:∀{a:List (List UInt8)},(∀s∈a,s.length=7)->a.flatten.length=7*a.length
 | [],_=>rfl
 | s::a,h=>by
  rw[List.flatten_cons,lA,Vl (fun x c=>h x (mC _ c)),h s (by simp),List.length_cons];omega
def Sz:∀ps:List (List UInt8),(ps.map sc).flatten=ps.map fun s=>Value.string ⟨s.toArray⟩
 | []=>rfl
 | s::ps=>by
  rw[List.map_cons,List.flatten_cons,Sz ps,List.map_cons];rfl
def IK(w:Z)(v:J)(base:Nat)(ps:List (List UInt8))(h:Ka 9 1 w base v (ps.map sc))(q:ps.length<=2*Fb)(y:∀s∈ps,s.length=7):Calls Tryz.prog 250 #[v,.string ⟨#[]⟩] w fun e t=>e=.returned (.string ⟨ps.flatten.toArray⟩)/\Ba w t:=by
 obtain⟨a,n,c,rfl⟩:=h.i;have r:=h.len;rw[lL]at r;subst r;by_cases l:ps=[]
 ·subst l;refine(Tryz.strings_Join_none a c ⟨#[]⟩ w).mono ?_;rintro e t ⟨rfl,rfl⟩;exact⟨rfl,eR _⟩
 ·have i:=h.rd;rw[lL]at i;obtain⟨u,o,rfl,z,_,K⟩:=i.open (List.length_pos_iff.2 l);have d:=i.le;have g:(ps.map fun s:List UInt8=>(⟨s.toArray⟩:ByteArray)).length=ps.length:=lL ..;have k:((ps.map fun s:List UInt8=>(⟨s.toArray⟩:ByteArray)).map (·.data.toList))=ps:=by
   rw[List.map_map]
   conv=>rhs;rw[<-List.map_id ps]
   exact List.map_congr_left fun s _=>by simp
  have R:=Vl y;have p:=Tryz.strings_Join u o c (ps.map fun s:List UInt8=>(⟨s.toArray⟩:ByteArray)) ⟨#[]⟩ w (fun j x f=>by
   rw[lP]at f;cases hp:ps[j]? with
   | none=>rw[hp]at f;cases f
   | some s =>
    rw[hp]at f;cases f;refine K j _ ?_;rw[Sz,lP,hp];rfl) z (by rw[g];unfold Fb at q;omega) (by rw[g];exact d.1) (by rw[k,Mv,R];unfold Fb at q;omega)
  rw[g,k,Mv]at p;exact p
def ZK{P:Program}{T t:TypeId}{w:Z}{base:Nat}{v sl:J}{xs l:List Int}{ops:Array Oper}{o:Oper}{a:Ob}{K:Ob->Z->Prop}{Q:Exit->Ob->Z->Prop}{E:Prop}(d:(P.info? T).map (fun i=>(i.zero,i.size,i.bytes))=I (I (M F 0),1,8))(y:P.underlying t=I (.slice T))(k:o.guard=X)(s x:Operand)(r:o.op = .call { callee:=.builtin .append,args:=#[s,x],argTypes:=#[t,t] })(u:a.eval s=v)(f:Mb T w base v xs)
  (R:a.eval x=sl)(j:Pc T w sl l)(e:xs.length+l.length<=1000000000000)(c:base<=w.heap.size)
  (h:∀v' w',Mb T w' base v' (xs++l)->Below base w w'->K (a.put o.dst v') w') :
  if Region.wanted o (yielded ops a.tmps)=true then Oper.wp P o a w K Q else E:=by
 have z:Region.wanted o (yielded ops a.tmps)=true:=by simp[Region.wanted,k]
 rw[if_pos z];obtain⟨v',w',g,p,q,h3⟩:=mw (P:=P) o.type d y f j e c;unfold Oper.wp;simp[execOp,r,resolve,invoke,builtin,u,R,g,Result.andThen];exact h v' w' p q
def tI(w:Z)(T:TypeId)(x:Int):Mb T (w.alloc (U #[M F x] T)) w.heap.size (O (I ⟨w.heap.size,0,X⟩) 1 1) [x]:=
 ⟨by simp,.inr ⟨w.heap.size,1,_,by simp,nE _,aN w _,by simp,by unfold maxLen;omega,by simp,by simp[Nc]⟩⟩
def Jf.open{w:Z}{base:Nat}{s n:Int}{a:Option Od}{m c:Nat}(h:Jf w base (Oc #[M F s,O a m c]) n):∃ds,ds.length=m/\Mb 3 w base (O a m c) ds/\yg C4 ds/\dv C4 ds=(n.natAbs:Int):=by obtain⟨sl,ds,e,d,f,g⟩:=h;cases e;exact⟨ds,d.len.symm,d,f,g⟩
def OB(W:Z)(base b:Nat)(n:Int):Prop:=∃s a m c,W.heap[b]?=I (U #[M F s,O a m c] 66 (0,0))/\Jf W base (Oc #[M F s,O a m c]) n
section
variable {W W':Z} {b base:Nat} {n n':Int}
def OB.nb(h:OB W base b n):NB W b n:=by obtain⟨s,a,m,c,d,e⟩:=h;exact⟨s,a,m,c,d,e.isN⟩
def OB.ext(h:OB W base b n)(k:Ba W W'):OB W' base b n:=by obtain⟨s,a,m,c,d,e⟩:=h;exact⟨s,a,m,c,k.e d,e.ext k⟩
def OB.put{s:Int}{a:Option Od}{m c:Nat}(h:NB W b n)(f:Jf W base (Oc #[M F s,O a m c]) n'):OB ((W.setCell ⟨b,0,X⟩ (M F s)).setCell ⟨b,1,X⟩ (O a m c)) base b n':=by have d:=h.not;obtain⟨l,g,k,i,e,j⟩:=h;exact⟨s,a,m,c,Oj e _ _,f.keep (((Ia.refl _ W).x d _).x (d.set _ _) _)⟩
def OB.setRow{g i:Nat}(h:OB W base b n)(r:g≠b)(t:g<base)(u:J):OB (W.setCell ⟨g,i,X⟩ u) base b n:=by obtain⟨s,a,m,c,o,q⟩:=h;refine⟨s,a,m,c,(bS _ _ _ _ (fun e=>r e.symm)).trans o,?_⟩;obtain⟨sl,f,j,d,k,l⟩:=q;cases j;exact⟨_,f,rfl,d.setOther (p:=⟨g,i,X⟩) (fun e=>by have:=(World.ownsRow.lt d g e).1;omega) _,k,l⟩
end
structure LQ (W0:Z) (m:Nat) (xs:List Int) (D:Int) (g7 g8:Nat) (z8:Array J) (j:Int) (qs:List Int) (R:Int) (W:Z):Prop where
 j0:-1<=j
 j1:j<m
 ql:qs.length=m
 row:Mb 3 W W0.heap.size (O (I ⟨W0.heap.size,0,X⟩) m m) qs
 qd:Zd C4 qs
 rest:OB W (W0.heap.size+1) g7 R
 size:W.heap[g8]?=I (U z8 66 (0,0))
 val:dv C4 (xs.drop (j+1).toNat)=dv C4 (qs.drop (j+1).toNat)*D+R
 r0:0<=R
 r1:R<D
 ext:Ba W0 W
def MQ(W0:Z)(m:Nat)(xs:List Int)(D:Int)(a c:Nat)(d:Array J)(t9:J)(W:Z):Prop:=
 ∃j qs R,t9=M F j/\LQ W0 m xs D a c d j qs R W
def OQ(d:Z)(D R:Int)(a c:J)(W:Z):Prop:=
 ∃lo hi:Int,a=M F lo/\c=M F hi/\0<=lo/\lo<hi/\hi<=10000/\D*lo<=R/\R<D*hi/\Ba d W
def oF(W0:Z)(c d:Nat)(e:Array J)(N R:Int)(a:J)(W:Z):Prop:=
 ∃g13,a=Oe (I ⟨g13,0,X⟩)/\c<g13/\d<g13/\NB W g13 N/\NB W c R/\W.heap[d]?=I (U e 66 (0,0))/\Ba W0 W
def By{k:Nat}{D x:Int}(h:Lm k D)(c:0<=D)(d:0<=x)(a:x<=D*10000):Lm (k+1) x:=by
 have e:B ^ (k+1)=B ^ k*16777216:=by rw[Int.pow_succ];rfl
 have p:=Ri Fi k;unfold Lm at *;rw[e];omega
def rH{Q D R n:Int}(h:n=Q*D+R)(c:0<D)(d:0<=R)(a:0<=Q):Q<=n:=by have:Q*1<=Q*D:=Int.mul_le_mul_of_nonneg_left oM a;omega
end
section
open Go.RowKit Go.Shelf Go.Sort Go.Lib
def Rb.gap{s:Sp}{x:Rat}(a:Rb 1 x)(h:Gg s):Rb 23 (Tb s x):=by unfold Tb;exact Rb.sub (k:=11) (a.atR h.1) (a.atR h.2.1)
def Ug{k:Nat}{q:Rat}(h:Rb k q)(a:k<=1000000):Rb Dc q:=h.mono a
def Ky(w:Z)(s:Sp)(d e f:J)(x:Rat)(g:Ja w d s.over)(i:Ja w e s.under)(a:Gg s)(j:Ab w f x)(c:Rb 1 x):Calls Tryz.prog 133 #[Hi s d e,f] w (Pf w (Tb s x)):=
 SH w s d e f x g i a.1 a.2.1 j (c.mono oM) (Ug (c.atR a.1) oM) (Ug (c.atR a.2.1) oM)
def Bh{s:Sp}(h:Gg s):∀q∈Jb s,Rb 1 q:=by intro q a;obtain⟨z,c,rfl⟩:=List.mem_map.1 a;exact Rg (lD h z c)
def jc(f:Rat->Rat)(o:Rat×Rat)(x:Rat):Rat×Rat:=if Eb (f x) o.2<0 then (x,f x)else o
def Gd(f:Rat->Rat):List Rat->Rat×Rat
 | []=>(0,0)
 | x::xs=>xs.foldl (jc f) (x,f x)
def iE(f:Rat->Rat)(xs:List Rat)(x:Rat)(h:xs≠[]):Gd f (xs++[x])=jc f (Gd f xs) x:=by
 cases xs with
 | nil=>exact absurd rfl h
 | cons y a=>simp[Gd]
def Nk(f:Rat->Rat){xs:List Rat}(h:xs≠[]):(Gd f xs).1∈xs/\(Gd f xs).2=f (Gd f xs).1:=by
 cases xs with
 | nil=>exact absurd rfl h
 | cons x xs =>
  have:∀(c:List Rat)(a:Rat×Rat),a.2=f a.1->(c.foldl (jc f) a).2=f (c.foldl (jc f) a).1/\((c.foldl (jc f) a).1=a.1\/(c.foldl (jc f) a).1∈c):=by
   intro c;induction c with
   | nil=>intro a h;exact⟨h,.inl rfl⟩
   | cons y c k =>
    intro a i;rw[List.foldl_cons];have j:(jc f a y).2=f (jc f a y).1:=by unfold jc;split<;>first|rfl|exact i
    obtain⟨d,g⟩:=k _ j;refine⟨d,?_⟩;rcases g with e|e
    ·rw[e];unfold jc;split
     ·exact .inr sM
     ·exact .inl rfl
    ·exact .inr (mC _ e)
  obtain⟨d,g⟩:=this xs (x,f x) rfl;refine⟨?_,d⟩;rcases g with e|e
  ·show (xs.foldl (jc f) (x,f x)).1∈_;rw[e];simp
  ·exact mC _ e
def Dk(w:Z)(p q:Rat)(e:Ending)(w':Z):Prop:=∃r s,e=.returned (.tuple #[r,s])/\Ab w' r p/\Ab w' s q/\Ba w w'
def Da.set3d{L:List (Od×J)}{W:Z}{b:Nat}(h:Da L W.drew)(a:∀q∈L,b≠q.1.block)(u v t:J):Da L (((W.setCell ⟨b,0,X⟩ u).setCell ⟨b,1,X⟩ v).setCell ⟨b,2,X⟩ t).drew:=
 Da.set3 h a u v t
def RB.put3{W W':Z}{d:Nat}{p x:Rat}{a i:Option Od}{m c j c2:Nat}{s:Bool}(h:RB W d x)(v:Ab W (Oc #[O a m c,Oa s,O i j c2]) p)(f:((W.setCell ⟨d,0,X⟩ (O a m c)).setCell ⟨d,1,X⟩ (Oa s)).setCell ⟨d,2,X⟩ (O i j c2)=W'):RB W' d p/\(∀b r,b≠d->RB W b r->RB W' b r)/\Ia 2 W W'/\W'.heap.size=W.heap.size/\(∀w:Z,Ba w W->w.heap.size<=d->Ba w W'):=by
 have e:=h.not;have u:=h.put v;rw[f]at u;refine⟨u,fun b r l k=>?_,?_,?_,fun w k o=>?_⟩
 ·have q:=k.other (p:=⟨d,0,X⟩) (Ne.symm l) e (O a m c);have t:=q.other (p:=⟨d,1,X⟩) (Ne.symm l) (e.set _ _) (Oa s);have g:=t.other (p:=⟨d,2,X⟩) (Ne.symm l) ((e.set _ _).set _ _) (O i j c2);rw[f]at g;exact g
 ·have q:=(Ia.refl 2 W).x (p:=⟨d,0,X⟩) e (O a m c);have t:=q.x (p:=⟨d,1,X⟩) (e.set _ _) (Oa s);have g:=t.x (p:=⟨d,2,X⟩) ((e.set _ _).set _ _) (O i j c2);rw[f]at g;exact g
 ·rw[<-f];simp
 ·rw[<-f];exact((k.set o _).set o _).set o _
def RB.copy2{W K g:Z}{d f:Nat}{p q p' q':Rat}{a i e e2:Option Od}{m c m2 c2 n k n2 k2:Nat}{s t:Bool}(h1:RB W d p')(h2:RB W f q')(j:d≠f)(y:Ab W (Oc #[O a m c,Oa s,O i m2 c2]) p)(z:Ab W (Oc #[O e n k,Oa t,O e2 n2 k2]) q)(l:((W.setCell ⟨d,0,X⟩ (O a m c)).setCell ⟨d,1,X⟩ (Oa s)).setCell ⟨d,2,X⟩ (O i m2 c2)=K)(o:((K.setCell ⟨f,0,X⟩ (O e n k)).setCell ⟨f,1,X⟩ (Oa t)).setCell ⟨f,2,X⟩ (O e2 n2 k2)=g):RB g d p/\RB g f q/\(∀b r,b≠d->b≠f->RB W b r->RB g b r)/\Ia 2 W g/\g.heap.size=W.heap.size/\(∀w:Z,Ba w W->w.heap.size<=d->w.heap.size<=f->Ba w g):=by obtain⟨a1,i,R,a4,a5⟩:=h1.put3 y l;obtain⟨b1,T,b3,b4,b5⟩:=(i _ _ (Ne.symm j) h2).put3 (z.keep R) o;exact⟨T _ _ j a1,b1,fun b r hb u h=>T _ _ u (i _ _ hb h),R.trans b3,b4.trans a4,fun w k v x=>b5 w (a5 w k v) x⟩
def iS(w:Z)(f:Rat->Rat)(qs:List Rat)(g:Nat)(a:J)(W:Z):Prop:=
 ∃i:Nat,i<=qs.length/\a=M F i/\g=qs.length-i/\Ba w W/\RB W w.heap.size 0/\RB W (w.heap.size+1) 0/\RB W (w.heap.size+1+1) (Gd f (qs.take i)).1/\RB W (w.heap.size+1+1+1) (Gd f (qs.take i)).2
def vL(w:Z)(v v1 v2:J)(s:Sp)(qs:List Rat)(hs:Kh w v qs)(h1:Ja w v1 s.over)(h2:Ja w v2 s.under)(ao:Gg s)(hq:∀q∈qs,Rb 1 q):Calls Tryz.prog 113 #[v,.func (.func 133) #[Hi s v1 v2] #[]] w (Dk w (Gd (Tb s) qs).1 (Gd (Tb s) qs).2):=by
 obtain⟨a,c,rfl⟩:=hs.form;obtain⟨n,hn⟩:=gX qs.length;rw[hn]at hs ⊢;have aO:=hs.le;unfold maxLen at aO;have Hn:=Aa hn;have Hq:=Aa hq;have az:=Aa ao;have aW:n<=9223372036854775807:=oM;have HG:=Aa (fun(W:Z)(hW:Ba w W)(vx:J)(x:Rat)(hx:Ab W vx x)(hb:Rb 1 x)=>Ky W s v1 v2 vx x (h1.f hW) (h2.f hW) ao hx hb);obtain⟨sv,aP⟩:=gX (Hi s v1 v2);rw[aP]at HG ⊢;obtain⟨R,hR⟩:=gX (Dk w (Gd (Tb s) qs).1 (Gd (Tb s) qs).2);rw[hR];have HR:=Aa hR;clear hn hq aO aP ao hR;go_in;go_wp2;go_loopg [13] n (iS w (Tb s) qs)
 case atStart =>
  have z:∀W,Ab W (Oc #[O X 0 0,Oa false,O X 0 0]) 0:=fun W=>Ab.zero _;exact⟨0,by omega,rfl,by rw[Hn.o];rfl,eA,(RB.new (z w) rfl).ext ((((eR _).alloc _).alloc _).alloc _),(RB.new (z _) sM).ext (((eR _).alloc _).alloc _),(RB.new (z _) sM).ext ((eR _).alloc _),RB.new (z _) sM⟩
 case round =>
  obtain⟨i,hi,rfl,rfl,hx,hA,hB,hC,hD⟩:=hrel;rw[Hn.o]at hi;have Hx:=Aa hx;have HA:=Aa hA;have HB:=Aa hB;have HC:=Aa hC;have HD:=Aa hD;by_cases aT:i<n
  ·obtain⟨x,am⟩:∃x,qs[i]?=I x:=⟨qs[i]'(by rw[Hn.o];omega),by simp[Hn.o,aT]⟩;obtain⟨b,o,a3,m3,c3,s3,a4,m4,c4,rfl,aV,af,e0,e1,e2⟩:=(hs.f hx).at' am;have aA:=Aa am;have aK:=Hq.o x (lM am);have aj:=Aa aK;clear am hA hB hC hx aK;obtain⟨d1,dm,dc,ds,d2,aI,aE,aB,aC,aD,aF,aG,aH,zD,an⟩:=hD.rd;by_cases h0:i=0
   ·(have aR:((i:Int)==0)=true:=by simp;omega);have H0:=Aa h0;clear h0 hD;go_wp2_with(((go_at_call 133;refine cM (HG.o _ ?_ (Oc #[O a3 m3 c3,Oa s3,O a4 m4 c4]) x ?_ aj.o) ?_;(refine Ba.trans Hx.o ?_;exact eA);(refine af.ext ?_;exact eA);rintro e w1 ⟨r1,rfl,aa,f⟩;obtain⟨b1,n1,k1,t1,b2,n2,k2,rfl⟩:=aa.form;obtain⟨ak,al⟩:=f.cells;(have z1:wr.heap.size<w1.heap.size:=(by have:=f.size;simp only[wZ]at this;omega)))));obtain⟨W8,ah⟩:=gX ((w1.alloc (U #[O b1 n1 k1,Oa t1,O b2 n2 k2] 63)));(have d:Ba wr W8:=by rw[<-ah];exact(((eR _).alloc _).trans f).alloc _);(have g1:RB W8 wr.heap.size x:=by rw[<-ah];exact((RB.new af rfl).ext f).ext ((eR _).alloc _));(have g2:RB W8 w1.heap.size (Tb s x):=by rw[<-ah];exact RB.new aa rfl);have g3:=HC.o.ext d;have g4:=HD.o.ext d;have zW:=d.size;obtain⟨s1,ai⟩:=gX w1.heap.size;rw[ah];simp only[ai]at *;clear ah ak al aa f an aB aC aD aF aG aH ai e0 e1 e2 af;obtain⟨pa,pm,l,ps,j,r,p,p0,p1,p2,_,_,_,pz,hp⟩:=(g1).rd;obtain⟨qa,qm,qc,T,t,y,u,q0,q1,q2,_,_,_,qz,ag⟩:=(g2).rd;obtain⟨_,_,_,_,_,_,_,x0,x1,x2,ap,aq,ar,xz,_⟩:=(g3).rd;obtain⟨_,_,_,_,_,_,_,y0,y1,y2,au,av,aw,yz,_⟩:=(g4).rd;refine Kc [(⟨wr.heap.size,0,X⟩,O pa pm l),(⟨wr.heap.size,1,X⟩,Oa ps),(⟨wr.heap.size,2,X⟩,O j r p),(⟨s1,0,X⟩,O qa qm qc),(⟨s1,1,X⟩,Oa T),(⟨s1,2,X⟩,O t y u)] cA fun g=>?_;refine sN 0 ?_
    (iterate 2 refine xb ?_);refine oN ?_;have ab:∀q∈[((⟨wr.heap.size,0,X⟩:Od),Value.slice pa pm l),(⟨wr.heap.size,1,X⟩,Oa ps),(⟨wr.heap.size,2,X⟩,O j r p),(⟨s1,0,X⟩,O qa qm qc),(⟨s1,1,X⟩,Oa T),(⟨s1,2,X⟩,O t y u)],w.heap.size+1+1≠q.1.block:=by
     intro q hq;simp at hq;rcases hq with rfl|rfl|rfl|rfl|rfl|rfl<;>(dsimp only;omega)
    have ac:∀q∈[((⟨wr.heap.size,0,X⟩:Od),Value.slice pa pm l),(⟨wr.heap.size,1,X⟩,Oa ps),(⟨wr.heap.size,2,X⟩,O j r p),(⟨s1,0,X⟩,O qa qm qc),(⟨s1,1,X⟩,Oa T),(⟨s1,2,X⟩,O t y u)],w.heap.size+1+1+1≠q.1.block:=by
     intro q hq;simp at hq;rcases hq with rfl|rfl|rfl|rfl|rfl|rfl<;>(dsimp only;omega)
    refine Ld (i:=2) fun K hK=>?_;go_simp;refine kO hK (Da.set3d g ab _ _ _) (fun g=>?_);clear hK K;refine Ld (i:=3) fun K hK=>?_;go_simp;refine kO hK (Da.set3d g ac _ _ _) (fun g=>?_);clear hK K;refine Wb ?_;have e:Gd (Tb s) (qs.take (i+1))=(x,Tb s x):=by
     have:=H0.o;subst this;rw[Rf _ _ _ aA.o];simp[Gd]
    have E:=Aa e;have ae:=Aa d;have P:=Aa (RB.copy2 g3 g4 oM hp ag rfl rfl);clear e d g1 g2 g3 g4;go_wp2;go_roundg (n-(i+1))
    case measure=>have:=Hn.o;omega
    case rel =>
     obtain⟨P1,P2,P3,P4,P5,P6⟩:=P.o;have D:=fun W=>(eR W).drew;exact⟨i+1,by rw[Hn.o];omega,by go_num,by rw[Hn.o],(P6 w (Hx.o.trans ae.o) oM oM).drew,
      (P3 _ _ oM oM (HA.o.ext ae.o)).ext (D _),(P3 _ _ oM oM (HB.o.ext ae.o)).ext (D _),by rw[E.o];exact P1.ext (D _),by rw[E.o];exact P2.ext (D _)⟩
   ·(have aR:((i:Int)==0)=false:=by simp;omega);have H0:=Aa h0;clear h0 hD;have aJ:Rb 23 (Gd (Tb s) (qs.take i)).2:=by
     have aU:qs.take i≠[]:=fun h=>by
      (have h2:(qs.take i).length=0:=by rw[h];rfl);rw[List.length_take,Hn.o]at h2;have:=H0.o;omega
     obtain⟨j1,j2⟩:=Nk (Tb s) aU;rw[j2];exact Rb.gap (Hq.o _ (List.mem_of_mem_take j1)) az.o
    have aQ:=Aa aJ;clear aJ;have e:Gd (Tb s) (qs.take (i+1))=jc (Tb s) (Gd (Tb s) (qs.take i)) x:=by
     rw[Rf _ _ _ aA.o,iE];intro h;(have h2:(qs.take i).length=0:=by rw[h];rfl);rw[List.length_take,Hn.o]at h2;have:=H0.o;omega
    have E:=Aa e;clear e;obtain⟨k,hk⟩:=gX (Eb (Tb s x) (Gd (Tb s) (qs.take i)).2);have Hk:=Aa hk;have ax:=Aa (Ug (Rb.gap aj.o az.o) oM);have ay:=Aa (Ug aQ.o oM);clear hk;have aX:w.heap.size+1+1+1<wr.heap.size+1:=oM;by_cases aS:k<0
    ·go_wp2_with(first|(go_at_call 133;refine cM (HG.o _ ?_ (Oc #[O a3 m3 c3,Oa s3,O a4 m4 c4]) x ?_ aj.o) ?_;(refine Ba.trans Hx.o ?_;exact eA);(refine af.ext ?_;exact eA);rintro e w1 ⟨r1,rfl,aa,f⟩;obtain⟨b1,n1,k1,t1,b2,n2,k2,rfl⟩:=aa.form;obtain⟨ak,al⟩:=f.cells;(have z1:wr.heap.size<w1.heap.size:=(by have:=f.size;simp only[wZ]at this;omega));(have z2:w.heap.size+1+1+1<w1.heap.size:=oM))|(go_at_call 75;(with_reducible refine(Qj _ (Oc #[O b1 n1 k1,Oa t1,O b2 n2 k2]) (Oc #[O d1 dm dc,Oa ds,O d2 aI aE]) _ _ (aa.ext ?_) (an.ext ?_) ax.o ay.o).mono ?_);exact eA;exact eA;rintro e w3 ⟨rfl,ad⟩;(try rw[Hk.o]);obtain⟨aL,aM⟩:=ad.cells));have d:Ba wr w3:=((((eR _).alloc _).trans f).alloc _).trans ad;have g1:RB w3 wr.heap.size x:=(((RB.new af rfl).ext f).ext ((eR _).alloc _)).ext ad;have g2:RB w3 w1.heap.size (Tb s x):=(RB.new aa rfl).ext ad;have g3:=HC.o.ext d;have g4:=HD.o.ext d;have zW:=d.size;obtain⟨s1,ai⟩:=gX w1.heap.size;simp only[ai]at *;clear ak al aa f ad aL aM an aB aC aD aF aG aH ai e0 e1 e2 af;obtain⟨pa,pm,l,ps,j,r,p,p0,p1,p2,_,_,_,pz,hp⟩:=(g1).rd;obtain⟨qa,qm,qc,T,t,y,u,q0,q1,q2,_,_,_,qz,ag⟩:=(g2).rd;obtain⟨_,_,_,_,_,_,_,x0,x1,x2,ap,aq,ar,xz,_⟩:=(g3).rd;obtain⟨_,_,_,_,_,_,_,y0,y1,y2,au,av,aw,yz,_⟩:=(g4).rd;refine Kc [(⟨wr.heap.size,0,X⟩,O pa pm l),(⟨wr.heap.size,1,X⟩,Oa ps),(⟨wr.heap.size,2,X⟩,O j r p),(⟨s1,0,X⟩,O qa qm qc),(⟨s1,1,X⟩,Oa T),(⟨s1,2,X⟩,O t y u)] cA fun g=>?_;refine sN 0 ?_
     (iterate 2 refine xb ?_);refine oN ?_;have ab:∀q∈[((⟨wr.heap.size,0,X⟩:Od),Value.slice pa pm l),(⟨wr.heap.size,1,X⟩,Oa ps),(⟨wr.heap.size,2,X⟩,O j r p),(⟨s1,0,X⟩,O qa qm qc),(⟨s1,1,X⟩,Oa T),(⟨s1,2,X⟩,O t y u)],w.heap.size+1+1≠q.1.block:=by
      intro q hq;simp at hq;rcases hq with rfl|rfl|rfl|rfl|rfl|rfl<;>(dsimp only;omega)
     have ac:∀q∈[((⟨wr.heap.size,0,X⟩:Od),Value.slice pa pm l),(⟨wr.heap.size,1,X⟩,Oa ps),(⟨wr.heap.size,2,X⟩,O j r p),(⟨s1,0,X⟩,O qa qm qc),(⟨s1,1,X⟩,Oa T),(⟨s1,2,X⟩,O t y u)],w.heap.size+1+1+1≠q.1.block:=by
      intro q hq;simp at hq;rcases hq with rfl|rfl|rfl|rfl|rfl|rfl<;>(dsimp only;omega)
     refine Ld (i:=2) fun K hK=>?_;go_simp;refine kO hK (Da.set3d g ab _ _ _) (fun g=>?_);clear hK K;refine Ld (i:=3) fun K hK=>?_;go_simp;refine kO hK (Da.set3d g ac _ _ _) (fun g=>?_);clear hK K;refine Wb ?_;(have e:jc (Tb s) (Gd (Tb s) (qs.take i)) x=(x,Tb s x):=by unfold jc;rw[Hk.o,if_pos aS]);have E':=Aa (E.o.trans e);have ae:=Aa d;have P:=Aa (RB.copy2 g3 g4 oM hp ag rfl rfl);clear e d g1 g2 g3 g4;go_wp2;go_roundg (n-(i+1))
     case measure=>have:=Hn.o;omega
     case rel =>
      obtain⟨P1,P2,P3,P4,P5,P6⟩:=P.o;have D:=fun W=>(eR W).drew;exact⟨i+1,by rw[Hn.o];omega,by go_num,by rw[Hn.o],(P6 w (Hx.o.trans ae.o) oM oM).drew,
       (P3 _ _ oM oM (HA.o.ext ae.o)).ext (D _),(P3 _ _ oM oM (HB.o.ext ae.o)).ext (D _),by rw[E'.o];exact P1.ext (D _),by rw[E'.o];exact P2.ext (D _)⟩
    ·go_wp2_with(first|(go_at_call 133;refine cM (HG.o _ ?_ (Oc #[O a3 m3 c3,Oa s3,O a4 m4 c4]) x ?_ aj.o) ?_;(refine Ba.trans Hx.o ?_;exact eA);(refine af.ext ?_;exact eA);rintro e w1 ⟨r1,rfl,aa,f⟩;obtain⟨b1,n1,k1,t1,b2,n2,k2,rfl⟩:=aa.form;obtain⟨ak,al⟩:=f.cells;(have z1:wr.heap.size<w1.heap.size:=(by have:=f.size;simp only[wZ]at this;omega));(have z2:w.heap.size+1+1+1<w1.heap.size:=oM))|(go_at_call 75;(with_reducible refine(Qj _ (Oc #[O b1 n1 k1,Oa t1,O b2 n2 k2]) (Oc #[O d1 dm dc,Oa ds,O d2 aI aE]) _ _ (aa.ext ?_) (an.ext ?_) ax.o ay.o).mono ?_);exact eA;exact eA;rintro e w3 ⟨rfl,ad⟩;(try rw[Hk.o]);obtain⟨aL,aM⟩:=ad.cells));have d:Ba wr w3:=((((eR _).alloc _).trans f).alloc _).trans ad;(have e:jc (Tb s) (Gd (Tb s) (qs.take i)) x=Gd (Tb s) (qs.take i):=by unfold jc;rw[Hk.o,if_neg oM]);have E':=Aa (E.o.trans e);go_roundg (n-(i+1))
     case measure=>have:=Hn.o;omega
     case rel=>exact⟨i+1,by rw[Hn.o];omega,by go_num,by rw[Hn.o],Hx.o.trans d,HA.o.ext d,HB.o.ext d,by rw[E'.o];exact HC.o.ext d,by rw[E'.o];exact HD.o.ext d⟩
  ·obtain rfl:i=n:=oM;have e:qs.take i=qs:=lT (by rw[Hn.o];exact nE _);rw[e]at hC hD HC HD;clear e;have zW:=hx.size;have zD:w.heap.size+1+1+1<wr.heap.size:=by obtain⟨_,_,_,_,_,_,_,_,_,_,_,_,_,z,_⟩:=hD.rd;exact z
   go_wp2;obtain⟨pa,pm,l,ps,j,r,p,p0,p1,p2,_,_,_,pz,hp⟩:=(hC).rd;obtain⟨qa,qm,qc,T,t,y,u,q0,q1,q2,_,_,_,qz,ag⟩:=(hD).rd;obtain⟨_,_,_,_,_,_,_,x0,x1,x2,ap,aq,ar,xz,_⟩:=(hA).rd;obtain⟨_,_,_,_,_,_,_,y0,y1,y2,au,av,aw,yz,_⟩:=(hB).rd;refine Kc [(⟨w.heap.size+1+1,0,X⟩,O pa pm l),(⟨w.heap.size+1+1,1,X⟩,Oa ps),(⟨w.heap.size+1+1,2,X⟩,O j r p),(⟨w.heap.size+1+1+1,0,X⟩,O qa qm qc),(⟨w.heap.size+1+1+1,1,X⟩,Oa T),(⟨w.heap.size+1+1+1,2,X⟩,O t y u)] cA fun g=>?_;refine sN 0 ?_
   iterate 2 refine xb ?_
   refine oN ?_;have ab:∀q∈[((⟨w.heap.size+1+1,0,X⟩:Od),Value.slice pa pm l),(⟨w.heap.size+1+1,1,X⟩,Oa ps),(⟨w.heap.size+1+1,2,X⟩,O j r p),(⟨w.heap.size+1+1+1,0,X⟩,O qa qm qc),(⟨w.heap.size+1+1+1,1,X⟩,Oa T),(⟨w.heap.size+1+1+1,2,X⟩,O t y u)],w.heap.size≠q.1.block:=by
    intro q hq;simp at hq;rcases hq with rfl|rfl|rfl|rfl|rfl|rfl<;>(dsimp only;omega)
   have ac:∀q∈[((⟨w.heap.size+1+1,0,X⟩:Od),Value.slice pa pm l),(⟨w.heap.size+1+1,1,X⟩,Oa ps),(⟨w.heap.size+1+1,2,X⟩,O j r p),(⟨w.heap.size+1+1+1,0,X⟩,O qa qm qc),(⟨w.heap.size+1+1+1,1,X⟩,Oa T),(⟨w.heap.size+1+1+1,2,X⟩,O t y u)],w.heap.size+1≠q.1.block:=by
    intro q hq;simp at hq;rcases hq with rfl|rfl|rfl|rfl|rfl|rfl<;>(dsimp only;omega)
   refine Ld (i:=2) fun K hK=>?_;go_simp;refine kO hK (Da.set3d g ab _ _ _) (fun g=>?_);clear hK K;refine Ld (i:=3) fun K hK=>?_;go_simp;refine kO hK (Da.set3d g ac _ _ _) (fun g=>?_);clear hK K;refine Wb ?_;have P:=Aa (RB.copy2 hA hB oM hp ag rfl rfl);go_wp2;refine bR (v:=.tuple #[Oc #[O pa pm l,Oa ps,O j r p],Oc #[O qa qm qc,Oa T,O t y u]]) (by simp[results,Tryz.results113,go_sem,x0,x1,x2,ap,aq,ar,y0,y1,y2,au,av,aw]) rfl ?_;rw[<-HR.o];obtain⟨P1,P2,P3,P4,P5,P6⟩:=P.o;exact⟨_,_,rfl,(hp.keep P4).ext (eR _).drew,(ag.keep P4).ext (eR _).drew,(P6 w Hx.o oM oM).drew⟩
