/-
  PlaceSinks: for every input the law returns true; each argument reads behind the call as it read before. Condition: the listed variables hold what the program's text lays (the card ties them).
-/
import Derived.Test.YtodpfeaihohpjaaGreatDoorCopA27
import Derived.Test.YtodpfeaihohpjaaGreatDoorCopA28
set_option maxRecDepth 1000000
set_option maxHeartbeats 16000000
set_option linter.unusedSimpArgs false
set_option linter.unusedVariables false
namespace Go.Proofs.YtodpfeaihohpjaaGreatDoor.Cop
section
open Go Go.ChangeShapes Go.WideShapes Go.ChangeAt Go.RowKit
theorem liftedPlaceSinks (os:Os) (started:os.Started) (H:Type) (enc:TypeId×Value→H) :
  ReturnsInHanded {} Tryz.checked os 4 .any (fun w args=>(Rows.placeSinksSpec.pre enc Tryz.prog Tryz.f4 [] false w args∧laidMetH Tryz.prog vars3 w)∧sizedMet enc Tryz.prog Tryz.f4 (OpenSpec.ofChange Rows.placeSinksSpec) false w args)
   (Rows.placeSinksSpec.post enc Tryz.prog Tryz.f4 false true false false):=by
 refine returnsInHanded_of_change_and (C:=Tryz.checked) (X:=fun w _=>laidMetH Tryz.prog vars3 w) (fun _ _ _ hh h=>h.of_heap hh) zk5 started (by kernel_rfl) Tryz.func4
  (ChangeSpec.witness_shaped (enc:=enc) (C:=Tryz.checked) (os:=os) (X:=fun w _=>laidMetH Tryz.prog vars3 w) false (wit os) #[.agg #[.slice none 0 0,.slice none 0 0],.agg #[.string ⟨#[]⟩,.slice none 0 0,.int .i64 0,.int .i64 0,.int .i64 0,.int .i64 0,.int .i64 0,.int .i64 0,.int .i64 0,.int .u8 0]] 8 (World.layVars_os _ _ _) (World.shaped_of_ZipB (by kernel_rfl) (by kernel_rfl)) (by kernel_rfl) (by kernel_rfl) (by kernel_rfl) (zmI os _)) ?_
 intro W base args ds gs before hval0 hW _ _ hL _;have hval:∀(j:Nat) t v,Tryz.f4.params[j]?=some t→args[j]?=some v→Value.okWide Tryz.prog W .any base t v:=hval0;have hW':=hW;obtain⟨p,q,hA0,hV,rfl,hfz,hnd⟩:=hW;have hA:DataW.TrodAll enc Tryz.prog W 0 (fun _=>true) true Tryz.f4.params.toList args.toList ds p:=hA0;rw [Tryz.params4]at hA hval;obtain⟨v0,vs0,d0,ds0,p0,q0,hargs,rfl,rfl,h0,r0⟩:=trodAll_cons hA;obtain⟨v1,vs1,d1,ds1,p1,q1,rfl,rfl,rfl,h1,r1⟩:=trodAll_cons r0;obtain⟨rfl,rfl,rfl⟩:=trodAll_nil r1;obtain rfl:args=#[v0,v1]:=by cases args;simp_all
 obtain⟨rfl,rfl⟩:=trodVars_none hV;have h0k:=h0;obtain⟨vg0,vp0,g0,ps0,rfl,hg0,hp0⟩:=zf8 (hval 0 _ _ rfl rfl) h0;have h1k:=h1;obtain⟨u1,s1,rfl,hs1,hk1⟩:=zmK (hval 1 _ _ rfl rfl) h1;clear hA0 hval0;rw [List.append_nil (p0++(p1++[]))]at hW';have hlt0:∀x∈p0,x.block<W.heap.size:=fun x hx=>hW'.lt x (by simp [hx])
 have hlt1:∀x∈p1,x.block<W.heap.size:=fun x hx=>hW'.lt x (by simp [hx])
 refine(zne W vg0 vp0 u1 g0 ps0 s1 hg0 hp0 hs1 hk1 (zhR hL)).mono fun e W' ⟨he,hx⟩=>?_
 subst he
 exact⟨_,rfl,_,_,_,[],p0++(p1++[]),[],hW',trodAll_cons_mk (shut_bool Tryz.underlying4 _) trodAll_mk0,
  trodAll_cons_mk (Below.trod zkU (by kernel_rfl) (of_decide_eq_true (by kernel_rfl)) h0k hx hlt0) (trodAll_cons_mk (Below.trod zkU (by kernel_rfl) (of_decide_eq_true (by kernel_rfl)) h1k hx hlt1) trodAll_mk0),
  rfl,Below.frame hx _,fun h=>by cases h⟩
theorem znL:Rows.PlaceSinksSaid:=
 OpenClaim.holds_of_wide 4 Tryz.f4 rfl rfl rfl rfl rfl rfl rfl ⟨rfl,rfl,rfl,rfl,rfl⟩ rfl rfl rfl rfl rfl (by kernel_rfl) Tryz.func4 (by kernel_rfl)
  (of_decide_eq_true (by kernel_rfl)) (by unfold Func.isWrapper;first|(rw [if_pos (by decide +kernel)];kernel_rfl)|(rw [if_neg (by decide +kernel)];exact⟨rfl,rfl⟩))
  (fun os started H enc _=>liftedPlaceSinks os started H enc)
theorem placeSinks_holds:Rows.PlaceSinksCardSaid:=
 Claim7.holds_tied_plain_at .later [] [.data,.funcs,.pinned] true (true, "ec6f23b31fc35fe9fe46bafd4ed33453663e3367de5f0d95b7a42e88dc23c96e") false
  znL (fun _ h=>by cases h) (by kernel_rfl) (fun _ h=>by cases h) placeSinks_row_tie rfl ⟨rfl,rfl⟩ (by kernel_rfl) rfl
  (fun f fn hf hfn=>by
   obtain rfl:f=4:=Option.some.inj ((show Tryz.prog.funcNamed "copestone/copestonelaw03.PlaceSinks" = some 4 by kernel_rfl).symm.trans hf) |>.symm
   obtain rfl:fn=Tryz.f4:=(Option.some.inj (Tryz.func4.symm.trans hfn)).symm
   exact⟨by kernel_rfl,fun j t ht=>by
    rw [Tryz.params4]at ht
    have hm:t∈[46,28]:=by
     have:=Array.mem_of_getElem? ht;simp at this ⊢;omega
    have hall:([46,28].all fun u=>!Tryz.prog.wantsStandIn u)=true:=by kernel_rfl
    exact(show Tryz.prog.wantsStandIn t=false by simpa using List.all_eq_true.1 hall t hm)⟩)
  (by kernel_rfl)
end
end Go.Proofs.YtodpfeaihohpjaaGreatDoor.Cop
