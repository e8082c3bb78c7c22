/-
  PlaceBeds: for every input the law returns true; each argument reads behind the call as it read before. Condition: the listed variables hold what the program's text lays (the card ties them).
-/
import Derived.Test.YtjnjpagegkcgfaaGreatDoorCobA32
import Derived.Test.YtjnjpagegkcgfaaGreatDoorCobA17
set_option maxRecDepth 1000000
set_option maxHeartbeats 16000000
set_option linter.all false
namespace Go.Proofs.YtjnjpagegkcgfaaGreatDoor.Cop
section
open Go Go.ChangeShapes Go.WideShapes Go.ChangeAt Go.RowKit
def Vh(os:Os)(c:os.Started)(H:Type)(enc:TypeId×Value->H):ReturnsInHanded {} Tryz.checked os 4 .any (fun w args=>(Rows.placeBedsSpec.pre enc Tryz.prog Tryz.f4 [] false w args/\laidMetH Tryz.prog Aj w)/\sizedMet enc Tryz.prog Tryz.f4 (OpenSpec.ofChange Rows.placeBedsSpec) false w args) (Rows.placeBedsSpec.post enc Tryz.prog Tryz.f4 false true false false):=by
 refine returnsInHanded_of_change_and (C:=Tryz.checked) (X:=fun w _=>laidMetH Tryz.prog Aj w) (fun _ _ _ hh h=>h.of_heap hh) uK c kM Tryz.func4
  (ChangeSpec.witness_shaped (enc:=enc) (C:=Tryz.checked) (os:=os) (X:=fun w _=>laidMetH Tryz.prog Aj w) false (YE os) #[.agg #[.slice none 0 0,.slice none 0 0],.int .i64 0,.int .i64 0,.int .i64 0,.agg #[.int .i64 0,.int .i64 0]] 8 (World.layVars_os _ _ _) (World.shaped_of_ZipB kM kM) kM kM kM (xG os _)) ?_
 intro W base args ds gs l b hW _ _ hL _;have a:∀(j:Nat) t v,Tryz.f4.params[j]?=some t->args[j]?=some v->Value.okWide Tryz.prog W .any base t v:=b;have d:=hW;obtain⟨p,q,g,hV,rfl,af,ag⟩:=hW;have hA:DataW.TrodAll enc Tryz.prog W 0 (fun _=>true) true Tryz.f4.params.toList args.toList ds p:=g;rw[Tryz.params4]at hA a;obtain⟨v0,ah,d0,aa,y,q0,r,rfl,rfl,S,r0⟩:=trodAll_cons hA;obtain⟨v1,ai,d1,ab,p1,q1,rfl,rfl,rfl,h1,r1⟩:=trodAll_cons r0;obtain⟨v2,aj,d2,ac,p2,q2,rfl,rfl,rfl,h2,r2⟩:=trodAll_cons r1;obtain⟨v3,ak,d3,ad,p3,q3,rfl,rfl,rfl,h3,r3⟩:=trodAll_cons r2;obtain⟨v4,al,d4,ae,z,q4,rfl,rfl,rfl,T,r4⟩:=trodAll_cons r3;obtain⟨rfl,rfl,rfl⟩:=trodAll_nil r4;obtain rfl:args=#[v0,v1,v2,v3,v4]:=by cases args;simp_all
 obtain⟨rfl,rfl⟩:=trodVars_none hV;have n:=S;obtain⟨P,Q,g0,K,rfl,s,u⟩:=DP (a 0 _ _ rfl rfl) S;obtain⟨a1,rfl,rfl,rfl,w1⟩:=open_int Tryz.underlying3 (a 1 _ v1 rfl rfl) h1;have b1:=xq w1;rw[show IntKind.i64.min = -9223372036854775808 by decide,show IntKind.i64.max=9223372036854775807 by decide]at b1;obtain⟨a2,rfl,rfl,rfl,w2⟩:=open_int Tryz.underlying3 (a 2 _ v2 rfl rfl) h2;have b2:=xq w2;rw[show IntKind.i64.min = -9223372036854775808 by decide,show IntKind.i64.max=9223372036854775807 by decide]at b2;obtain⟨a3,rfl,rfl,rfl,w3⟩:=open_int Tryz.underlying3 (a 3 _ v3 rfl rfl) h3;have b3:=xq w3;rw[show IntKind.i64.min = -9223372036854775808 by decide,show IntKind.i64.max=9223372036854775807 by decide]at b3;have o:=T;obtain⟨n4,m,rfl,R⟩:=jP (a 4 _ _ rfl rfl) T;clear g b;rw[List.append_nil (y++([]++([]++([]++(z++[])))))]at d;have i:∀x∈y,x.block<W.heap.size:=fun x f=>d.lt x (by simp[f]);have k:∀x∈z,x.block<W.heap.size:=fun x f=>d.lt x (by simp[f]);refine(XN W P Q g0 K a1 a2 a3 n4 m s u R.1 R.2 (qO hL)).mono fun e W' ⟨he,f⟩=>?_;subst he;exact⟨_,rfl,_,_,_,[],y++([]++([]++([]++(z++[])))),[],d,trodAll_cons_mk (shut_bool Tryz.underlying4 _) trodAll_mk0,
  trodAll_cons_mk (Below.trod Kv kM (of_decide_eq_true kM) n f i) (trodAll_cons_mk (shut_int Tryz.underlying3 w1) (trodAll_cons_mk (shut_int Tryz.underlying3 w2) (trodAll_cons_mk (shut_int Tryz.underlying3 w3) (trodAll_cons_mk (Below.trod Kv kM (of_decide_eq_true kM) o f k) trodAll_mk0)))),
  rfl,Below.frame f _,fun h=>by cases h⟩
def UP:Rows.PlaceBedsSaid:=
 OpenClaim.holds_of_wide 4 Tryz.f4 rfl rfl rfl rfl rfl rfl rfl ⟨rfl,rfl,rfl,rfl,rfl⟩ rfl rfl rfl rfl rfl kM Tryz.func4 Rr
  (of_decide_eq_true kM) (by unfold Func.isWrapper;first|(rw[if_pos (by decide +kernel)];kernel_rfl)|(rw[if_neg (by decide +kernel)];exact⟨rfl,rfl⟩))
  (fun b a H enc _=>Vh b a H enc)
theorem placeBeds_holds:Rows.PlaceBedsCardSaid:=
 Claim7.holds_tied_plain_at .later [] [.data,.funcs,.pinned] true (true, "515ca16ca3dad4ac28f93bd6384deef0262dee32f268164b4ed2ac08617f1def") false
  UP (fun _ h=>by cases h) kM (fun _ h=>by cases h) placeBeds_row_tie rfl ⟨rfl,rfl⟩ kM rfl
  (fun f d e b=>by
   obtain rfl:f=4:=Option.some.inj ((show Tryz.prog.funcNamed "copestone/copestonelaw03.PlaceBeds" = some 4 by kernel_rfl).symm.trans e) |>.symm
   obtain rfl:d=Tryz.f4:=(Option.some.inj (Tryz.func4.symm.trans b)).symm;exact⟨by kernel_rfl,fun j t c=>by
    rw[Tryz.params4]at c;have g:t∈[25,3,53]:=by
     have:=Array.mem_of_getElem? c;simp at this ⊢;omega
    have a:([25,3,53].all fun u=>!Tryz.prog.wantsStandIn u)=true:=kM;exact(show Tryz.prog.wantsStandIn t=false by simpa using List.all_eq_true.1 a t g)⟩)
  kM
