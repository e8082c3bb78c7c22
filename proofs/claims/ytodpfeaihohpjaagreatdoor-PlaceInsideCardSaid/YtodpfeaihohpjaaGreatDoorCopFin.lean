/-
  PlaceInside: for every input the law returns true; each argument reads behind the call as it read before. Condition: the listed variables hold what the program's text lays (the card ties them).
-/
import Derived.Test.YtodpfeaihohpjaaGreatDoorCopA34
set_option maxRecDepth 1000000
set_option maxHeartbeats 16000000
set_option linter.unusedSimpArgs false
set_option linter.unusedVariables false
namespace Go.Proofs.YtodpfeaihohpjaaGreatDoor.Cop
section
open Go Go.ChangeShapes Go.WideShapes Go.ChangeAt Go.RowKit
theorem liftedPlaceInside (os:Os) (c:os.Started) (H:Type) (enc:TypeId×Value→H) :
  ReturnsInHanded {} Tryz.checked os 6 .any (fun w args=>(Rows.placeInsideSpec.pre enc Tryz.prog Tryz.f6 [] false w args∧laidMetH Tryz.prog vars3 w)∧sizedMet enc Tryz.prog Tryz.f6 (OpenSpec.ofChange Rows.placeInsideSpec) false w args)
   (Rows.placeInsideSpec.post enc Tryz.prog Tryz.f6 false true false false):=by
 refine returnsInHanded_of_change_and (C:=Tryz.checked) (X:=fun w _=>laidMetH Tryz.prog vars3 w) (fun _ _ _ hh h=>h.of_heap hh) zlE c kM Tryz.func6
  (ChangeSpec.witness_shaped (enc:=enc) (C:=Tryz.checked) (os:=os) (X:=fun w _=>laidMetH Tryz.prog vars3 w) false (wit os) #[.agg #[.string ⟨#[]⟩,.slice none 0 0,.int .i64 0,.int .i64 0,.int .i64 0,.int .i64 0,.int .i64 0,.int .i64 0,.int .i64 0,.int .u8 0],.agg #[.string ⟨#[]⟩,.slice none 0 0,.int .i64 0,.int .i64 0,.int .i64 0,.int .i64 0,.int .i64 0,.int .i64 0,.int .i64 0,.int .u8 0],.int .u8 0] 8 (World.layVars_os _ _ _) (World.shaped_of_ZipB kM kM) kM kM kM (znv os _)) ?_
 intro W base args ds gs l b hW _ _ hL _;have a:∀(j:Nat) t v,Tryz.f6.params[j]?=some t→args[j]?=some v→Value.okWide Tryz.prog W .any base t v:=b;have d:=hW;obtain⟨p,q,g,hV,rfl,ad,ae⟩:=hW;have T:DataW.TrodAll enc Tryz.prog W 0 (fun _=>true) true Tryz.f6.params.toList args.toList ds p:=g;rw [Tryz.params6]at T a;obtain⟨v0,af,d0,aa,z,q0,o,rfl,rfl,P,r0⟩:=trodAll_cons T;obtain⟨v1,ag,d1,ab,D,q1,rfl,rfl,rfl,Q,r1⟩:=trodAll_cons r0;obtain⟨v2,ah,d2,ac,p2,q2,rfl,rfl,rfl,h2,r2⟩:=trodAll_cons r1;obtain⟨rfl,rfl,rfl⟩:=trodAll_nil r2;obtain rfl:args=#[v0,v1,v2]:=by cases args;simp_all
 obtain⟨rfl,rfl⟩:=trodVars_none hV;have m:=P;obtain⟨u0,s0,rfl,u,r⟩:=ze0 (a 0 _ _ rfl rfl) P;have n:=Q;obtain⟨u1,s1,rfl,y,s⟩:=ze0 (a 1 _ _ rfl rfl) Q;obtain⟨a2,rfl,rfl,rfl,w2⟩:=open_int Tryz.underlying5 (a 2 _ v2 rfl rfl) h2;have K:=zoz w2;rw [show IntKind.u8.min=0 by decide,show IntKind.u8.max=255 by decide]at K;clear g b;rw [List.append_nil (z++(D++([]++[])))]at d;have i:∀x∈z,x.block<W.heap.size:=fun x f=>d.lt x (by simp [f])
 have k:∀x∈D,x.block<W.heap.size:=fun x f=>d.lt x (by simp [f])
 refine(zie W u0 u1 s0 s1 a2 u y r s (zic hL) K.1 oM).mono fun e W' ⟨he,f⟩=>?_
 subst he
 exact⟨_,rfl,_,_,_,[],z++(D++([]++[])),[],d,trodAll_cons_mk (shut_bool Tryz.underlying4 _) trodAll_mk0,
  trodAll_cons_mk (Below.trod zhq kM (of_decide_eq_true kM) m f i) (trodAll_cons_mk (Below.trod zhq kM (of_decide_eq_true kM) n f k) (trodAll_cons_mk (shut_int Tryz.underlying5 w2) trodAll_mk0)),
  rfl,Below.frame f _,fun h=>by cases h⟩
theorem zcs:Rows.PlaceInsideSaid:=
 OpenClaim.holds_of_wide 6 Tryz.f6 rfl rfl rfl rfl rfl rfl rfl ⟨rfl,rfl,rfl,rfl,rfl⟩ rfl rfl rfl rfl rfl kM Tryz.func6 kM
  (of_decide_eq_true kM) (by unfold Func.isWrapper;first|(rw [if_pos (by decide +kernel)];kernel_rfl)|(rw [if_neg (by decide +kernel)];exact⟨rfl,rfl⟩))
  (fun b a H enc _=>liftedPlaceInside b a H enc)
theorem placeInside_holds:Rows.PlaceInsideCardSaid:=
 Claim7.holds_tied_plain_at .later [] [.data,.funcs,.pinned] true (true, "ec6f23b31fc35fe9fe46bafd4ed33453663e3367de5f0d95b7a42e88dc23c96e") false
  zcs (fun _ h=>by cases h) kM (fun _ h=>by cases h) placeInside_row_tie rfl ⟨rfl,rfl⟩ kM rfl
  (fun f d e b=>by
   obtain rfl:f=6:=Option.some.inj ((show Tryz.prog.funcNamed "copestone/copestonelaw03.PlaceInside" = some 6 by kernel_rfl).symm.trans e) |>.symm
   obtain rfl:d=Tryz.f6:=(Option.some.inj (Tryz.func6.symm.trans b)).symm
   exact⟨by kernel_rfl,fun j t c=>by
    rw [Tryz.params6]at c
    have g:t∈[28,5]:=by
     have:=Array.mem_of_getElem? c;simp at this ⊢;omega
    have a:([28,5].all fun u=>!Tryz.prog.wantsStandIn u)=true:=kM
    exact(show Tryz.prog.wantsStandIn t=false by simpa using List.all_eq_true.1 a t g)⟩)
  kM
end
end Go.Proofs.YtodpfeaihohpjaaGreatDoor.Cop
