import Derived.Test.YtgimcmpeceifnaaGreatDoorColA22
import Derived.Laws.StructEq
import Derived.Maps.Own
set_option maxRecDepth 1000000
set_option maxHeartbeats 16000000
set_option linter.all false
open Go.Value renaming int->O,slice->V
open Go.IntKind renaming i64->Y
open Option renaming none->Z,some->X
open Go renaming World->I,Value->J
namespace Go.Proofs.YtgimcmpeceifnaaGreatDoor.Cop
section
open Go.RowKit Go.Shelf Go.Sort Go.Lib
def YP(w:I)(f g:J)(k:Ja w f Ec)(l:Jd w g Ac)(b:Gw w):Calls Tryz.prog 11 #[.agg #[f,g],.agg (xg Yj)] w fun e i=>∃a c,e=.returned (.tuple #[V a 2 c,O Y 0])/\Re i (V a 2 c) [uo,Rm]/\Ba w i:=by
 refine(SF w f g Ec Ac Yj k l b).mono ?_;rintro e i (⟨h,_⟩|⟨_,v,L,n,rs,rfl,j,d,m⟩)
 ·exact absurd Dw h
 ·obtain⟨rfl,-⟩:=Pt d;obtain⟨a,c,rfl⟩:=j.form;exact⟨a,c,rfl,j,m⟩
def FN(w:I)(c d:J)(g:Ja w c Ec)(j:Jd w d Ac)(a:Gw w):Calls Tryz.prog 24 #[.agg #[c,d],.agg (xg Yj)] w fun e f=>∃v,e=.returned (.tuple #[v,O Y 0])/\Ae f v [0,0]/\Ba w f:=by
 refine(SO w c d Ec Ac Yj g j a).mono ?_;rintro e f (⟨h,_⟩|⟨_,v,L,l,rs,rfl,i,b,k⟩)
 ·exact absurd Dw h
 ·obtain⟨-,rfl⟩:=Pt b;exact⟨v,rfl,i,k⟩
def VQ(w:I)(L:Gw w):Calls Tryz.prog 9 #[] w fun e w'=>e=.returned (.bool true)/\Ba w w':=by have o:=Aa L;clear L;go_in;go_upto_region 2 with (first|(go_at_call 34;(with_reducible refine(Ox _).mono ?_);rintro e aw ⟨ao,ar,rfl,ah,al,R⟩;have r:Ba w aw:=(eR w).trans R)|(go_at_call 35;(with_reducible refine(Dz _).mono ?_);rintro e ax ⟨rfl,j⟩;have l:Ba w ax:=r.trans j)|(go_at_call 11;(with_reducible refine(YP _ ao ar (ah.f j) (al.f j) (o.o.ext l)).mono ?_);rintro e ad ⟨ja,aE,rfl,hj,ac⟩;have s:Ba w ad:=l.trans ac));go_upto_region 3 with (first|(go_at_call 34;(with_reducible refine(Ox _).mono ?_);rintro e ay ⟨ap,au,rfl,ai,am,p⟩;have t:Ba w ay:=s.trans p)|(go_at_call 35;(with_reducible refine(Dz _).mono ?_);rintro e az ⟨rfl,f⟩;have m:Ba w az:=t.trans f)|(go_at_call 24;(with_reducible refine(FN _ ap au (ai.f f) (am.f f) (o.o.ext m)).mono ?_);rintro e ae ⟨vr,rfl,hr,q⟩;have u:Ba w ae:=m.trans q));go_upto_region 4 with (first|(go_at_call 34;(with_reducible refine(Ox _).mono ?_);rintro e aA ⟨aq,av,rfl,aj,an,g⟩;have y:Ba w aA:=u.trans g)|(go_at_call 35;(with_reducible refine(Dz _).mono ?_);rintro e aB ⟨rfl,c⟩;have n:Ba w aB:=y.trans c)|(go_at_call 28;(with_reducible refine(GR _ aq av (aj.f c) (an.f c) (o.o.ext n)).mono ?_);rintro e a ⟨vc,rfl,hc,k⟩;have z:Ba w a:=n.trans k));have X3:Ba ad a:=((((p.trans f).trans q).trans g).trans c).trans k;have X2:Ba ae a:=(g.trans c).trans k;obtain⟨jb,jo,d,rfl,aD,ak,hd,b⟩:=Sl.at (hj.f X3) (i:=1) (x:=Rm) rfl;subst hd;have d0:=b 0 (O Y 2) rfl;have d1:=b 1 (O Y 3) rfl;have d2:=b 2 (O Y 200) rfl;have d3:=b 3 (O Y 200) rfl;have d4:=b 4 (O Y 80) rfl;have d5:=b 5 (O Y 160) rfl;simp only[Nat.add_zero,Nat.one_mul]at d0 d1 d2 d3 d4 d5;have af:=Aa (fun(W:I)(hW:Ba a W)(v:J)(h:Ae W v [0,0])=>jE W vr v [0,0] [0,0] ((hr.f X2).f hW) h);have ag:=Aa (fun(W:I)(hW:Ba a W)(v:J)(h:Ae W v [1,1,2,2,3])=>jE W vc v [1,1,2,2,3] [1,1,2,2,3] (hc.f hW) h);have E:=Aa z;clear b hj hr hc X3 X2 ak R j ac p f q g c k r l s t m u y n z;go_wp2_with(first|(go_at_call 26;(with_reducible refine(af.o _ ((eR a).alloc _) _ ((qC a 0 0 0 (Nat.zero_le _)).is)).mono ?_);rintro e aC ⟨rfl,aa⟩;have K:=((eR a).alloc (.cells #[O Y 0,O Y 0] 3)).trans aa)|(go_at_call 26;(with_reducible refine(ag.o _ (K.alloc _) _ (Wr aC rfl 1 1 2 2 3)).mono ?_);rintro e aF ⟨rfl,ab⟩));go_ret;exact⟨rfl,((E.o.trans K).alloc _).trans ab⟩
end
section
open Go.RowKit Go.Shelf Go.Sort Go.Lib
attribute [local go_sem] Oper.semAt_some
end
section
open Go.RowKit Go.Shelf Go.Sort Go.Lib Go.Maps
attribute [local go_sem] Oper.semAt_some
def Jl(W:World)(B n:Nat)(f:Nat->Option Int):Prop:=
 ∃D:DataW Unit,W.ownsMap Tryz.prog 3 (plainElem Tryz.prog 3) B n D/\∀k:Nat,k<1000->∀z,D.atKey (.int .i64 (k:Int)) z=match f k with|some v=>.lit (.int .i64 v)|none=>z
def Jl.made(w:World):Jl (w.alloc (.map #[] 0)) w.heap.size 0 (fun _=>none):=⟨.map [],World.ownsMap_made _ _ _ _,fun k _ z=>rfl⟩
def Jl.kept{W W':World}{B n:Nat}{f:Nat->Option Int}{row:Option Nat}(h:Jl W B n f)(d:W.grownBy W' row)(c:some B≠row):Jl W' B n f:=by obtain⟨D,a,b⟩:=h;exact⟨D,a.kept d c,b⟩
def Jl.ext{W W':World}{B n:Nat}{f:Nat->Option Int}(h:Jl W B n f)(g:Ba W W'):Jl W' B n f:=by obtain⟨D,⟨b,a,e,c⟩,d⟩:=h;exact⟨D,⟨b,a,g.e e,c⟩,d⟩
def Jl.notCells{W:World}{B n:Nat}{f:Nat->Option Int}(h:Jl W B n f){cs:Array Value}{T:TypeId}{b:Nat×Nat}:W.heap[B]?≠some (.cells cs T b):=by obtain⟨D,⟨d,a,c,_⟩,_⟩:=h;rw[c];intro e;cases e
def Jl.put{W:World}{B n:Nat}{f:Nat->Option Int}(h:Jl W B n f)(m:n<maxLen){k:Nat}(l:k<1000){v:Int}(hv:Bd 1000000 v):∃w',(Instr.mapUpdate 188 (.map (some B)) (.int .i64 (k:Int)) (.int .i64 v)).run Tryz.prog W = .ok () w'/\Jl w' B (n+1) (fun j=>if j=k then some v else f j)/\W.grownBy w' (some B):=by
 obtain⟨D,e,g⟩:=h;have o:(Lit.int .i64 v).wf=true:=WalkArith.wf_i64 (by unfold Bd at hv;omega);obtain⟨w',p,q,r⟩:=e.update Kt Tryz.underlying188 m (keyOf_int_mk Tryz.underlying3 (Bt l)) (plainElem_int Tryz.underlying3 o);have d:IsMap D:=by
  obtain⟨s,c,_,_,_,d⟩:=e;exact⟨_,d⟩
 refine⟨w',p,⟨_,q,fun j i z=>?_⟩,r⟩;by_cases a:j=k
 ·subst a;dsimp only;rw[if_pos rfl,atKey_put_same d (by first|trivial|exact True.intro|simp[b.IsKeyLit])]
 ·dsimp only;rw[if_neg a,atKey_put_other (by simp;omega)];exact g j i z
