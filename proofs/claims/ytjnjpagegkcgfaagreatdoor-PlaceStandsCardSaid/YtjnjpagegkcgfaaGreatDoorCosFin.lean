/-
  PlaceStands: for every input the law returns true; each argument reads behind the call as it read before. Condition: the listed variables hold what the program's text lays (the card ties them).
-/
import Derived.Test.YtjnjpagegkcgfaaGreatDoorCosA41
import Derived.Test.YtjnjpagegkcgfaaGreatDoorCosA24
import Derived.Test.YtjnjpagegkcgfaaGreatDoorCosA25
set_option maxRecDepth 1000000
set_option maxHeartbeats 16000000
set_option linter.unusedSimpArgs false
set_option linter.unusedVariables false
namespace Go.Proofs.YtjnjpagegkcgfaaGreatDoor.Cop
section
open Go Go.ChangeShapes Go.WideShapes Go.ChangeAt Go.RowKit
theorem liftedPlaceStands(os:Os)(c:os.Started)(H:Type)(enc:TypeId×Value->H) :
  ReturnsInHanded {} Tryz.checked os 5 .any (fun w args=>(Rows.placeStandsSpec.pre enc Tryz.prog Tryz.f5 [] false w args/\laidMetH Tryz.prog vars3 w)/\sizedMet enc Tryz.prog Tryz.f5 (OpenSpec.ofChange Rows.placeStandsSpec) false w args)
   (Rows.placeStandsSpec.post enc Tryz.prog Tryz.f5 false true false false):=by
 refine returnsInHanded_of_change_and (C:=Tryz.checked) (X:=fun w _=>laidMetH Tryz.prog vars3 w) (fun _ _ _ hh h=>h.of_heap hh) zlw c kM Tryz.func5
  (ChangeSpec.witness_shaped (enc:=enc) (C:=Tryz.checked) (os:=os) (X:=fun w _=>laidMetH Tryz.prog vars3 w) false (wit os) #[.agg #[.string ⟨#[]⟩,.slice none 0 0,.int .i64 0,.int .i64 0,.int .i64 0,.int .i64 0,.int .i64 0,.int .i64 0,.int .i64 0,.int .u8 0],.agg #[.int .i64 0,.int .i64 0]] 8 (World.layVars_os _ _ _) (World.shaped_of_ZipB kM kM) kM kM kM (znN os _)) ?_
 intro W base args R gs l b Q _ _ hL _;have a:∀(j:Nat) t v,Tryz.f5.params[j]?=some t->args[j]?=some v->Value.okWide Tryz.prog W .any base t v:=b;have d:=Q;obtain⟨p,q,g,hV,rfl,ab,ac⟩:=Q;have P:DataW.TrodAll enc Tryz.prog W 0 (fun _=>true) true Tryz.f5.params.toList args.toList R p:=g;rw[Tryz.params5]at P a;obtain⟨v0,ad,d0,T,y,q0,r,rfl,rfl,K,r0⟩:=trodAll_cons P;obtain⟨v1,ae,d1,aa,z,q1,rfl,rfl,rfl,L,r1⟩:=trodAll_cons r0;obtain⟨rfl,rfl,rfl⟩:=trodAll_nil r1;obtain rfl:args=#[v0,v1]:=by cases args;simp_all
 obtain⟨rfl,rfl⟩:=trodVars_none hV;have n:=K;obtain⟨u0,s0,rfl,u,s⟩:=zh9 (a 0 _ _ rfl rfl) K;have o:=L;obtain⟨n1,m,rfl,D⟩:=zgt (a 1 _ _ rfl rfl) L;clear g b;rw[List.append_nil (y++(z++[]))]at d;have i:∀x∈y,x.block<W.heap.size:=fun x f=>d.lt x (by simp[f])
 have k:∀x∈z,x.block<W.heap.size:=fun x f=>d.lt x (by simp[f])
 refine(zik W u0 s0 n1 m u s D.1 D.2 (zhY hL)).mono fun e W' ⟨he,f⟩=>?_
 subst he
 exact⟨_,rfl,_,_,_,[],y++(z++[]),[],d,trodAll_cons_mk (shut_bool Tryz.underlying4 _) trodAll_mk0,
  trodAll_cons_mk (Below.trod zeS kM (of_decide_eq_true kM) n f i) (trodAll_cons_mk (Below.trod zeS kM (of_decide_eq_true kM) o f k) trodAll_mk0),
  rfl,Below.frame f _,fun h=>by cases h⟩
theorem zce:Rows.PlaceStandsSaid:=
 OpenClaim.holds_of_wide 5 Tryz.f5 rfl rfl rfl rfl rfl rfl rfl ⟨rfl,rfl,rfl,rfl,rfl⟩ rfl rfl rfl rfl rfl kM Tryz.func5 jfAll
  (of_decide_eq_true kM) (by unfold Func.isWrapper;first|(rw[if_pos (by decide +kernel)];kernel_rfl)|(rw[if_neg (by decide +kernel)];exact⟨rfl,rfl⟩))
  (fun b a H enc _=>liftedPlaceStands b a H enc)
theorem placeStands_holds:Rows.PlaceStandsCardSaid:=
 Claim7.holds_tied_plain_at .later [] [.data,.funcs,.pinned] true (true, "515ca16ca3dad4ac28f93bd6384deef0262dee32f268164b4ed2ac08617f1def") false
  zce (fun _ h=>by cases h) kM (fun _ h=>by cases h) placeStands_row_tie rfl ⟨rfl,rfl⟩ kM rfl
  (fun f d e b=>by
   obtain rfl:f=5:=Option.some.inj ((show Tryz.prog.funcNamed "copestone/copestonelaw03.PlaceStands" = some 5 by kernel_rfl).symm.trans e) |>.symm
   obtain rfl:d=Tryz.f5:=(Option.some.inj (Tryz.func5.symm.trans b)).symm
   exact⟨by kernel_rfl,fun j t c=>by
    rw[Tryz.params5]at c
    have g:t∈[31,53]:=by
     have:=Array.mem_of_getElem? c;simp at this ⊢;omega
    have a:([31,53].all fun u=>!Tryz.prog.wantsStandIn u)=true:=kM
    exact(show Tryz.prog.wantsStandIn t=false by simpa using List.all_eq_true.1 a t g)⟩)
  kM
end
end Go.Proofs.YtjnjpagegkcgfaaGreatDoor.Cop
