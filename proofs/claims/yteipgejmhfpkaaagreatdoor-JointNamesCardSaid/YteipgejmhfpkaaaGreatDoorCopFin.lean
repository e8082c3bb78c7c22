/-
  JointNames: for every input the law returns true; each argument reads behind the call as it read before. Condition: the variable stone.ways holds what the program's text lays (the card ties it).
-/
import Derived.Test.YteipgejmhfpkaaaGreatDoorCopA39
import Derived.Test.YteipgejmhfpkaaaGreatDoorCopA40
set_option maxRecDepth 1000000
set_option maxHeartbeats 16000000
set_option linter.unusedSimpArgs false
set_option linter.unusedVariables false
namespace Go.Proofs.YteipgejmhfpkaaaGreatDoor.Cop
section
open Go Go.ChangeShapes Go.WideShapes Go.ChangeAt Go.RowKit
theorem liftedJointNames (os:Os) (started:os.Started) (H:Type) (enc:TypeId×Value→H) :
  ReturnsInHanded {} Tryz.checked os 7 .any (fun w args=>(Rows.jointNamesSpec.pre enc Tryz.prog Tryz.f7 [] false w args∧laidMetH Tryz.prog [("copestone/stone.ways",Rows.laid_copestone_stone_ways)] w)∧sizedMet enc Tryz.prog Tryz.f7 (OpenSpec.ofChange Rows.jointNamesSpec) false w args)
   (Rows.jointNamesSpec.post enc Tryz.prog Tryz.f7 false true false false):=by
 refine returnsInHanded_of_change_and (C:=Tryz.checked) (X:=fun w _=>laidMetH Tryz.prog [("copestone/stone.ways",Rows.laid_copestone_stone_ways)] w) (fun _ _ _ hh h=>h.of_heap hh) zl6 started (by kernel_rfl) Tryz.func7
  (ChangeSpec.witness_shaped (enc:=enc) (C:=Tryz.checked) (os:=os) (X:=fun w _=>laidMetH Tryz.prog [("copestone/stone.ways",Rows.laid_copestone_stone_ways)] w) false (World.doorLaid Tryz.prog 14 os) #[] 8 rfl (World.shaped_of_RefB (by kernel_rfl) (by kernel_rfl)) (by kernel_rfl) (by kernel_rfl) (by kernel_rfl) (zlz os _)) ?_
 intro W base args ds gs before hval0 hW _ _ hL _;have hval:∀(j:Nat) t v,Tryz.f7.params[j]?=some t→args[j]?=some v→Value.okWide Tryz.prog W .any base t v:=hval0;have hW':=hW;obtain⟨p,q,hA0,hV,rfl,hfz,hnd⟩:=hW;have hA:DataW.TrodAll enc Tryz.prog W 0 (fun _=>true) true Tryz.f7.params.toList args.toList ds p:=hA0;rw [Tryz.params7]at hA hval;obtain⟨hargs,rfl,rfl⟩:=trodAll_nil hA;obtain rfl:args=#[]:=by cases args;simp_all
 obtain⟨rfl,rfl⟩:=trodVars_none hV;clear hA0 hval0;refine(zpx W (zhV hL)).mono fun e W' ⟨he,hx⟩=>?_
 subst he
 exact⟨_,rfl,_,_,_,[],[],[],hW',trodAll_cons_mk (shut_bool Tryz.underlying4 _) trodAll_mk0,trodAll_mk0,
  rfl,Below.frame hx _,fun h=>by cases h⟩
theorem zpm:Rows.JointNamesSaid:=
 OpenClaim.holds_of_wide 7 Tryz.f7 rfl rfl rfl rfl rfl rfl rfl ⟨rfl,rfl,rfl,rfl,rfl⟩ rfl rfl rfl rfl rfl (by kernel_rfl) Tryz.func7 (by kernel_rfl)
  (of_decide_eq_true (by kernel_rfl)) (by unfold Func.isWrapper;first|(rw [if_pos (by decide +kernel)];kernel_rfl)|(rw [if_neg (by decide +kernel)];exact⟨rfl,rfl⟩))
  (fun os started H enc _=>liftedJointNames os started H enc)
theorem jointNames_holds:Rows.JointNamesCardSaid:=
 Claim7.holds_tied_plain_at .later [] [.funcs] true (true, "3a2da10a4a77cb5131c78d0ef8e769b050cc65da2d15317fe346cda59e203d81") false
  zpm (fun _ h=>by cases h) (by kernel_rfl) (fun _ h=>by cases h) jointNames_row_tie rfl ⟨rfl,rfl⟩ (by kernel_rfl) rfl
  (fun f fn hf hfn=>by
   obtain rfl:f=7:=Option.some.inj ((show Tryz.prog.funcNamed "copestone/copestonelaw05.JointNames" = some 7 by kernel_rfl).symm.trans hf) |>.symm
   obtain rfl:fn=Tryz.f7:=(Option.some.inj (Tryz.func7.symm.trans hfn)).symm
   exact⟨by kernel_rfl,fun j t ht=>by
    rw [Tryz.params7]at ht;simp at ht⟩)
  (by kernel_rfl)
end
end Go.Proofs.YteipgejmhfpkaaaGreatDoor.Cop
