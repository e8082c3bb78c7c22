/-
  PlaceDrops: for every input the law returns true; each argument reads behind the call as it read before. Condition: the listed variables hold what the program's text lays (the card ties them).
-/
import Derived.Test.YtjnjpagegkcgfaaGreatDoorCopA48
import Derived.Test.YtjnjpagegkcgfaaGreatDoorCopA29
set_option maxRecDepth 1000000
set_option maxHeartbeats 16000000
set_option linter.unusedSimpArgs false
set_option linter.unusedVariables false
namespace Go.Proofs.YtjnjpagegkcgfaaGreatDoor.Cop
section
open Go Go.ChangeShapes Go.WideShapes Go.ChangeAt Go.RowKit
theorem liftedPlaceDrops (os:Os) (c:os.Started) (H:Type) (enc:TypeId×Value→H) :
  ReturnsInHanded {} Tryz.checked os 3 .any (fun w args=>(Rows.placeDropsSpec.pre enc Tryz.prog Tryz.f3 [] false w args∧laidMetH Tryz.prog vars3 w)∧sizedMet enc Tryz.prog Tryz.f3 (OpenSpec.ofChange Rows.placeDropsSpec) false w args)
   (Rows.placeDropsSpec.post enc Tryz.prog Tryz.f3 false true false false):=by
 refine returnsInHanded_of_change_and (C:=Tryz.checked) (X:=fun w _=>laidMetH Tryz.prog vars3 w) (fun _ _ _ hh h=>h.of_heap hh) zlP c kM Tryz.func3
  (ChangeSpec.witness_shaped (enc:=enc) (C:=Tryz.checked) (os:=os) (X:=fun w _=>laidMetH Tryz.prog vars3 w) false (wit os) #[.agg #[.slice none 0 0,.slice none 0 0],.agg #[.string ⟨#[]⟩,.slice none 0 0,.int .i64 0,.int .i64 0,.int .i64 0,.int .i64 0,.int .i64 0,.int .i64 0,.int .i64 0,.int .u8 0]] 8 (World.layVars_os _ _ _) (World.shaped_of_ZipB kM kM) kM kM kM (zn9 os _)) ?_
 intro W base args ds gs l b T _ _ hL _;have a:∀(j:Nat) t v,Tryz.f3.params[j]?=some t→args[j]?=some v→Value.okWide Tryz.prog W .any base t v:=b;have d:=T;obtain⟨p,q,g,hV,rfl,ac,ad⟩:=T;have S:DataW.TrodAll enc Tryz.prog W 0 (fun _=>true) true Tryz.f3.params.toList args.toList ds p:=g;rw [Tryz.params3]at S a;obtain⟨v0,ae,d0,aa,z,q0,o,rfl,rfl,Q,r0⟩:=trodAll_cons S;obtain⟨v1,af,d1,ab,D,q1,rfl,rfl,rfl,R,r1⟩:=trodAll_cons r0;obtain⟨rfl,rfl,rfl⟩:=trodAll_nil r1;obtain rfl:args=#[v0,v1]:=by cases args;simp_all
 obtain⟨rfl,rfl⟩:=trodVars_none hV;have m:=Q;obtain⟨L,P,g0,K,rfl,r,u⟩:=zgf (a 0 _ _ rfl rfl) Q;have n:=R;obtain⟨u1,s1,rfl,y,s⟩:=zio (a 1 _ _ rfl rfl) R;clear g b;rw [List.append_nil (z++(D++[]))]at d;have i:∀x∈z,x.block<W.heap.size:=fun x f=>d.lt x (by simp [f])
 have k:∀x∈D,x.block<W.heap.size:=fun x f=>d.lt x (by simp [f])
 refine(zjb W L P u1 g0 K s1 r u y s (zif hL)).mono fun e W' ⟨he,f⟩=>?_
 subst he
 exact⟨_,rfl,_,_,_,[],z++(D++[]),[],d,trodAll_cons_mk (shut_bool Tryz.underlying4 _) trodAll_mk0,
  trodAll_cons_mk (Below.trod zfc kM (of_decide_eq_true kM) m f i) (trodAll_cons_mk (Below.trod zfc kM (of_decide_eq_true kM) n f k) trodAll_mk0),
  rfl,Below.frame f _,fun h=>by cases h⟩
theorem zcu:Rows.PlaceDropsSaid:=
 OpenClaim.holds_of_wide 3 Tryz.f3 rfl rfl rfl rfl rfl rfl rfl ⟨rfl,rfl,rfl,rfl,rfl⟩ rfl rfl rfl rfl rfl kM Tryz.func3 jfAll
  (of_decide_eq_true kM) (by unfold Func.isWrapper;first|(rw [if_pos (by decide +kernel)];kernel_rfl)|(rw [if_neg (by decide +kernel)];exact⟨rfl,rfl⟩))
  (fun b a H enc _=>liftedPlaceDrops b a H enc)
theorem placeDrops_holds:Rows.PlaceDropsCardSaid:=
 Claim7.holds_tied_plain_at .later [] [.data,.funcs,.pinned] true (true, "515ca16ca3dad4ac28f93bd6384deef0262dee32f268164b4ed2ac08617f1def") false
  zcu (fun _ h=>by cases h) kM (fun _ h=>by cases h) placeDrops_row_tie rfl ⟨rfl,rfl⟩ kM rfl
  (fun f d e b=>by
   obtain rfl:f=3:=Option.some.inj ((show Tryz.prog.funcNamed "copestone/copestonelaw03.PlaceDrops" = some 3 by kernel_rfl).symm.trans e) |>.symm
   obtain rfl:d=Tryz.f3:=(Option.some.inj (Tryz.func3.symm.trans b)).symm
   exact⟨by kernel_rfl,fun j t c=>by
    rw [Tryz.params3]at c
    have g:t∈[25,31]:=by
     have:=Array.mem_of_getElem? c;simp at this ⊢;omega
    have a:([25,31].all fun u=>!Tryz.prog.wantsStandIn u)=true:=kM
    exact(show Tryz.prog.wantsStandIn t=false by simpa using List.all_eq_true.1 a t g)⟩)
  kM
end
end Go.Proofs.YtjnjpagegkcgfaaGreatDoor.Cop
