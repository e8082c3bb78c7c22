/-
  JointStretches: for every input the law returns true; each argument reads behind the call as it read before. Condition: the variable stone.ways holds what the program's text lays (the card ties it).
-/
import Derived.Test.YtobbionccnkmgaaGreatDoorCopA39
import Derived.Test.YtobbionccnkmgaaGreatDoorRows
import Derived.Test.YtobbionccnkmgaaGreatDoorCards
import Derived.Test.YtobbionccnkmgaaGreatDoorTie
import Derived.LaidMore
import Derived.Stop.Joined
import Derived.OpenShut
import Derived.SevenTiedAt
set_option maxRecDepth 1000000
set_option maxHeartbeats 16000000
set_option linter.unusedSimpArgs false
set_option linter.unusedVariables false
namespace Go.Proofs.YtobbionccnkmgaaGreatDoor.Cop
open Go Go.ChangeShapes Go.WideShapes Go.ChangeAt Go.RowKit
theorem own_knob:ownKnob Tryz.prog.godebug=none:=by kernel_rfl
theorem g_ways:Tryz.prog.globalNamed "copestone/stone.ways" = some 0:=by kernel_rfl
theorem t_ways:(Tryz.prog.globals[0]?).map (·.type)=some 191:=by kernel_rfl
theorem und_ways:Tryz.prog.underlying 191=some (.array 4 190):=by kernel_rfl
theorem und_turn:Tryz.prog.underlying 190=some (.func #[38] #[38] false):=by kernel_rfl
theorem laid_out:laidOutB Tryz.prog=true:=by kernel_rfl
theorem gw_of_laid {W:World} (h:laidMetH Tryz.prog [("copestone/stone.ways",Rows.laid_copestone_stone_ways)] W):Gw W:=by
 obtain⟨g,t,cs,fuel,p,hg,ht,hv,hd⟩:=h.funcs (List.mem_singleton.2 rfl);obtain rfl:=Option.some.inj (g_ways.symm.trans hg);obtain rfl:=Option.some.inj (t_ways.symm.trans ht);have hd':DataW.trod (funcToken Tryz.prog) Tryz.prog W 0 (fun _=>true) true fuel 191 cs.toList=some (.agg [.held [99,111,112,101,115,116,111,110,101,47,115,116,111,110,101,46,119,97,121,115,36,49],.held [99,111,112,101,115,116,111,110,101,47,115,116,111,110,101,46,119,97,121,115,36,50],.held [99,111,112,101,115,116,111,110,101,47,115,116,111,110,101,46,119,97,121,115,36,51],.held [99,111,112,101,115,116,111,110,101,47,115,116,111,110,101,46,119,97,121,115,36,52]],p):=hd;obtain⟨xs,m,_,hx,hl,hxl,hf⟩:=DataW.trod_array und_ways hd';have c1:Tryz.prog.cellsOf 190=1:=by kernel_rfl
 have c4:Tryz.prog.cellsOf 191=4:=by kernel_rfl
 rw [c4]at hl;rw [c1]at hf;obtain⟨cs⟩:=cs;have hl':cs.length=4:=hl
 match cs,hl',xs,hxl with
 | [v0,v1,v2,v3],_,[⟨y0,q0⟩,⟨y1,q1⟩,⟨y2,q2⟩,⟨y3,q3⟩],_ =>
  simp only [Prod.mk.injEq,List.map_cons,List.map_nil,DataW.agg.injEq,List.cons.injEq,and_true]at hx;obtain⟨⟨rfl,rfl,rfl,rfl⟩,_⟩:=hx;have r0:=hf 0 (by omega);have r1:=hf 1 (by omega);have r2:=hf 2 (by omega);have r3:=hf 3 (by omega);have k0:=World.var?_cell hg hv 0;have k1:=World.var?_cell hg hv 1;have k2:=World.var?_cell hg hv 2;have k3:=World.var?_cell hg hv 3;obtain rfl:=func_of_trod (f0:=250) und_turn (by kernel_rfl) r0;obtain rfl:=func_of_trod (f0:=251) und_turn (by kernel_rfl) r1;obtain rfl:=func_of_trod (f0:=252) und_turn (by kernel_rfl) r2;obtain rfl:=func_of_trod (f0:=253) und_turn (by kernel_rfl) r3;have e0:W.cell? ⟨0,0,none⟩=some (.func (.func 250) #[] #[]):=by simpa using k0
  exact⟨World.block_lt_of_cell? W _ (by rw [e0]),e0,by simpa using k1,by simpa using k2,by simpa using k3⟩
theorem door_met (os:Os) (args:Array Value):laidMetH Tryz.prog [("copestone/stone.ways",Rows.laid_copestone_stone_ways)] ((World.doorLaid Tryz.prog 14 os).forCall (fun _ _=>0) ⟨#[],args,[]⟩).memory:=
 laidMetH_of_parts3 (fuel:=8) (laidMet_of_run' 8 (by kernel_rfl) (by kernel_rfl)) (by kernel_rfl) (by kernel_rfl)
theorem wf_lo {k:IntKind} {n:Int} (h:(Lit.int k n).wf=true):k.min≤n∧n≤k.max:=by
 unfold Lit.wf at h;simp only [Bool.and_eq_true,decide_eq_true_eq]at h;exact h
theorem lifted (os:Os) (started:os.Started) (H:Type) (enc:TypeId×Value→H) :
  ReturnsInHanded {} Tryz.checked os 3 .any (fun w args=>(Rows.jointStretchesSpec.pre enc Tryz.prog Tryz.f3 [] false w args∧laidMetH Tryz.prog [("copestone/stone.ways",Rows.laid_copestone_stone_ways)] w)∧sizedMet enc Tryz.prog Tryz.f3 (OpenSpec.ofChange Rows.jointStretchesSpec) false w args)
   (Rows.jointStretchesSpec.post enc Tryz.prog Tryz.f3 false true false false):=by
 refine returnsInHanded_of_change_and (C:=Tryz.checked) (X:=fun w _=>laidMetH Tryz.prog [("copestone/stone.ways",Rows.laid_copestone_stone_ways)] w) (fun _ _ _ hh h=>h.of_heap hh) own_knob started (by kernel_rfl) Tryz.func3
  (ChangeSpec.witness_shaped (enc:=enc) (C:=Tryz.checked) (os:=os) (X:=fun w _=>laidMetH Tryz.prog [("copestone/stone.ways",Rows.laid_copestone_stone_ways)] w) false (World.doorLaid Tryz.prog 14 os) #[.agg #[.slice none 0 0,.slice none 0 0],.int .i64 0,.int .i64 0,.int .i64 0,.int .i64 0,.int .u16 0,.int .u8 0] 8 rfl (World.shaped_of_RefB (by kernel_rfl) (by kernel_rfl)) (by kernel_rfl) (by kernel_rfl) (by kernel_rfl) (door_met os _)) ?_
 intro W base args ds gs before hval0 hW _ _ hL _;have hval:∀(j:Nat) t v,Tryz.f3.params[j]?=some t→args[j]?=some v→Value.okWide Tryz.prog W .any base t v:=hval0;have hW':=hW;obtain⟨p,q,hA0,hV,rfl,hfz,hnd⟩:=hW;have hA:DataW.TrodAll enc Tryz.prog W 0 (fun _=>true) true Tryz.f3.params.toList args.toList ds p:=hA0;rw [Tryz.params3]at hA hval;obtain⟨v0,vs0,d0,ds0,p0,q0,hargs,rfl,rfl,h0,r0⟩:=trodAll_cons hA;obtain⟨v1,vs1,d1,ds1,p1,q1,rfl,rfl,rfl,h1,r1⟩:=trodAll_cons r0;obtain⟨v2,vs2,d2,ds2,p2,q2,rfl,rfl,rfl,h2,r2⟩:=trodAll_cons r1;obtain⟨v3,vs3,d3,ds3,p3,q3,rfl,rfl,rfl,h3,r3⟩:=trodAll_cons r2;obtain⟨v4,vs4,d4,ds4,p4,q4,rfl,rfl,rfl,h4,r4⟩:=trodAll_cons r3;obtain⟨v5,vs5,d5,ds5,p5,q5,rfl,rfl,rfl,h5,r5⟩:=trodAll_cons r4;obtain⟨v6,vs6,d6,ds6,p6,q6,rfl,rfl,rfl,h6,r6⟩:=trodAll_cons r5;obtain⟨rfl,rfl,rfl⟩:=trodAll_nil r6;obtain rfl:args=#[v0,v1,v2,v3,v4,v5,v6]:=by cases args;simp_all
 obtain⟨rfl,rfl⟩:=trodVars_none hV;have h0k:=h0;obtain⟨vg,vp,g,ps,rfl,hg,hp⟩:=wall_of_trod (hval 0 _ _ rfl rfl) h0;obtain⟨a1,rfl,rfl,rfl,w1⟩:=open_int und_int (hval 1 _ v1 rfl rfl) h1;obtain⟨a2,rfl,rfl,rfl,w2⟩:=open_int und_int (hval 2 _ v2 rfl rfl) h2;obtain⟨a3,rfl,rfl,rfl,w3⟩:=open_int und_int (hval 3 _ v3 rfl rfl) h3;obtain⟨a4,rfl,rfl,rfl,w4⟩:=open_int und_int (hval 4 _ v4 rfl rfl) h4;obtain⟨a5,rfl,rfl,rfl,w5⟩:=open_int Tryz.underlying26 (hval 5 _ v5 rfl rfl) h5;obtain⟨a6,rfl,rfl,rfl,w6⟩:=open_int und_u8 (hval 6 _ v6 rfl rfl) h6;clear hA0 hval0;simp only [List.append_nil]at hW';have b5:=wf_lo w5;have b6:=wf_lo w6;rw [show IntKind.u16.min=0 by decide,show IntKind.u16.max=65535 by decide]at b5;rw [show IntKind.u8.min=0 by decide,show IntKind.u8.max=255 by decide]at b6;have hlt:∀x∈p0,x.block<W.heap.size:=fun x hx=>by simpa using hW'.lt x hx
 refine(law_any W vg vp g ps a1 a2 a3 a4 a5 a6 hg hp (gw_of_laid hL) ⟨b5.1,by omega⟩ ⟨b6.1,by omega⟩).mono fun e W' ⟨he,hx⟩=>?_
 subst he
 exact⟨_,rfl,_,_,_,[],p0++([]++([]++([]++([]++([]++([]++[])))))),[],hW',trodAll_cons_mk (shut_bool Tryz.underlying4 _) trodAll_mk0,
  trodAll_cons_mk (Below.trod laid_out (by kernel_rfl) (of_decide_eq_true (by kernel_rfl)) h0k hx hlt) (trodAll_cons_mk (shut_int und_int w1) (trodAll_cons_mk (shut_int und_int w2) (trodAll_cons_mk (shut_int und_int w3) (trodAll_cons_mk (shut_int und_int w4) (trodAll_cons_mk (shut_int Tryz.underlying26 w5) (trodAll_cons_mk (shut_int und_u8 w6) trodAll_mk0)))))),
  rfl,Below.frame hx _,fun h=>by cases h⟩
theorem row_holds:Rows.JointStretchesSaid:=
 OpenClaim.holds_of_wide 3 Tryz.f3 rfl rfl rfl rfl rfl rfl rfl ⟨rfl,rfl,rfl,rfl,rfl⟩ rfl rfl rfl rfl rfl (by kernel_rfl) Tryz.func3 (by kernel_rfl)
  (of_decide_eq_true (by kernel_rfl)) (by unfold Func.isWrapper;first|(rw [if_pos (by decide +kernel)];kernel_rfl)|(rw [if_neg (by decide +kernel)];exact⟨rfl,rfl⟩))
  (fun os started H enc _=>lifted os started H enc)
theorem jointStretches_holds:Rows.JointStretchesCardSaid:=
 Claim7.holds_tied_plain_at .later [] [.funcs] true (true, "2a57a53972c440913baf1b306b10bd50d49a46f2a99ed8255d993c0136f41e4a") false
  row_holds (fun _ h=>by cases h) (by kernel_rfl) (fun _ h=>by cases h) jointStretches_row_tie rfl ⟨rfl,rfl⟩ (by kernel_rfl) rfl
  (fun f fn hf hfn=>by
   obtain rfl:f=3:=Option.some.inj ((show Tryz.prog.funcNamed "copestone/copestonelaw05.JointStretches" = some 3 by kernel_rfl).symm.trans hf) |>.symm
   obtain rfl:fn=Tryz.f3:=(Option.some.inj (Tryz.func3.symm.trans hfn)).symm
   exact⟨by kernel_rfl,fun j t ht=>by
    rw [Tryz.params3]at ht
    have hm:t∈[25,3,26,5]:=by
     have:=Array.mem_of_getElem? ht;simp at this ⊢;omega
    have hall:([25,3,26,5].all fun u=>!Tryz.prog.wantsStandIn u)=true:=by kernel_rfl
    exact(show Tryz.prog.wantsStandIn t=false by simpa using List.all_eq_true.1 hall t hm)⟩)
  (by kernel_rfl)
end Go.Proofs.YtobbionccnkmgaaGreatDoor.Cop
