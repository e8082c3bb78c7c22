/-
  PlaceRelates: for every input the law returns true; each argument reads behind the call as it read before. Condition: the listed variables hold what the program's text lays (the card ties them).
-/
import Derived.Test.YtjnjpagegkcgfaaGreatDoorCoqA22
set_option maxRecDepth 1000000
set_option maxHeartbeats 16000000
set_option linter.all false
namespace Go.Proofs.YtjnjpagegkcgfaaGreatDoor.Cop
section
open Go Go.ChangeShapes Go.WideShapes Go.ChangeAt Go.RowKit
def mh(os:Os)(c:os.Started)(H:Type)(enc:TypeId×Value->H):ReturnsInHanded {} Tryz.checked os 6 .any (fun w args=>(Rows.placeRelatesSpec.pre enc Tryz.prog Tryz.f6 [] false w args/\laidMetH Tryz.prog Fj w)/\sizedMet enc Tryz.prog Tryz.f6 (OpenSpec.ofChange Rows.placeRelatesSpec) false w args) (Rows.placeRelatesSpec.post enc Tryz.prog Tryz.f6 false true false false):=by
 refine returnsInHanded_of_change_and (C:=Tryz.checked) (X:=fun w _=>laidMetH Tryz.prog Fj w) (fun _ _ _ hh h=>h.of_heap hh) WK c kM Tryz.func6
  (ChangeSpec.witness_shaped (enc:=enc) (C:=Tryz.checked) (os:=os) (X:=fun w _=>laidMetH Tryz.prog Fj w) false (DF os) #[.agg #[.string ⟨#[]⟩,.slice none 0 0,.int .i64 0,.int .i64 0,.int .i64 0,.int .i64 0,.int .i64 0,.int .i64 0,.int .i64 0,.int .u8 0],.agg #[.string ⟨#[]⟩,.slice none 0 0,.int .i64 0,.int .i64 0,.int .i64 0,.int .i64 0,.int .i64 0,.int .i64 0,.int .i64 0,.int .u8 0]] 8 (World.layVars_os _ _ _) (World.shaped_of_ZipB kM kM) kM kM kM (SI os _)) ?_
 intro W base args ds gs l b hW _ _ hL _;have a:∀(j:Nat) t v,Tryz.f6.params[j]?=some t->args[j]?=some v->Value.okWide Tryz.prog W .any base t v:=b;have d:=hW;obtain⟨p,q,g,hV,rfl,ac,ad⟩:=hW;have hA:DataW.TrodAll enc Tryz.prog W 0 (fun _=>true) true Tryz.f6.params.toList args.toList ds p:=g;rw[Tryz.params6]at hA a;obtain⟨v0,ae,d0,aa,z,q0,o,rfl,rfl,P,r0⟩:=trodAll_cons hA;obtain⟨v1,af,d1,ab,K,q1,rfl,rfl,rfl,R,r1⟩:=trodAll_cons r0;obtain⟨rfl,rfl,rfl⟩:=trodAll_nil r1;obtain rfl:args=#[v0,v1]:=by cases args;simp_all
 obtain⟨rfl,rfl⟩:=trodVars_none hV;have m:=P;obtain⟨u0,s0,rfl,u,r⟩:=YD (a 0 _ _ rfl rfl) P;have n:=R;obtain⟨u1,s1,rfl,y,s⟩:=YD (a 1 _ _ rfl rfl) R;clear g b;rw[List.append_nil (z++(K++[]))]at d;have i:∀x∈z,x.block<W.heap.size:=fun x f=>d.lt x (by simp[f]);have k:∀x∈K,x.block<W.heap.size:=fun x f=>d.lt x (by simp[f]);refine(Uv W u0 u1 s0 s1 u y r s (IO hL)).mono fun e W' ⟨he,f⟩=>?_;subst he;exact⟨_,rfl,_,_,_,[],z++(K++[]),[],d,trodAll_cons_mk (shut_bool Tryz.underlying4 _) trodAll_mk0,
  trodAll_cons_mk (Below.trod Jt kM (of_decide_eq_true kM) m f i) (trodAll_cons_mk (Below.trod Jt kM (of_decide_eq_true kM) n f k) trodAll_mk0),
  rfl,Below.frame f _,fun h=>by cases h⟩
def iy:Rows.PlaceRelatesSaid:=
 OpenClaim.holds_of_wide 6 Tryz.f6 rfl rfl rfl rfl rfl rfl rfl ⟨rfl,rfl,rfl,rfl,rfl⟩ rfl rfl rfl rfl rfl kM Tryz.func6 ns
  (of_decide_eq_true kM) (by unfold Func.isWrapper;first|(rw[if_pos (by decide +kernel)];kernel_rfl)|(rw[if_neg (by decide +kernel)];exact⟨rfl,rfl⟩))
  (fun b a H enc _=>mh b a H enc)
theorem placeRelates_holds:Rows.PlaceRelatesCardSaid:=
 Claim7.holds_tied_plain_at .later [] [.data,.funcs,.pinned] true (true, "515ca16ca3dad4ac28f93bd6384deef0262dee32f268164b4ed2ac08617f1def") false
  iy (fun _ h=>by cases h) kM (fun _ h=>by cases h) placeRelates_row_tie rfl ⟨rfl,rfl⟩ kM rfl
  (fun f d e b=>by
   obtain rfl:f=6:=Option.some.inj ((show Tryz.prog.funcNamed "copestone/copestonelaw03.PlaceRelates" = some 6 by kernel_rfl).symm.trans e) |>.symm
   obtain rfl:d=Tryz.f6:=(Option.some.inj (Tryz.func6.symm.trans b)).symm;exact⟨by kernel_rfl,fun j t c=>by
    rw[Tryz.params6]at c;have g:t∈[31]:=by
     have:=Array.mem_of_getElem? c;simp at this ⊢;omega
    have a:([31].all fun u=>!Tryz.prog.wantsStandIn u)=true:=kM;exact(show Tryz.prog.wantsStandIn t=false by simpa using List.all_eq_true.1 a t g)⟩)
  kM
