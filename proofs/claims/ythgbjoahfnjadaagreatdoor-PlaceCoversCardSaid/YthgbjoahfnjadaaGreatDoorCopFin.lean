/-
  PlaceCovers: for every input the law returns true; each argument reads behind the call as it read before. Condition: the listed variables hold what the program's text lays (the card ties them).
-/
import Derived.Test.YthgbjoahfnjadaaGreatDoorCopA19
set_option maxRecDepth 1000000
set_option maxHeartbeats 16000000
set_option linter.all false
namespace Go.Proofs.YthgbjoahfnjadaaGreatDoor.Cop
section
open Go Go.ChangeShapes Go.WideShapes Go.ChangeAt Go.RowKit
def Pg(os:Os)(d:os.Started)(H:Type)(enc:TypeId×Value->H):ReturnsInHanded {} Tryz.checked os 4 .any (fun w args=>(Rows.placeCoversSpec.pre enc Tryz.prog Tryz.f4 [] false w args/\laidMetH Tryz.prog Bi w)/\sizedMet enc Tryz.prog Tryz.f4 (OpenSpec.ofChange Rows.placeCoversSpec) false w args) (Rows.placeCoversSpec.post enc Tryz.prog Tryz.f4 false true false false):=by
 refine returnsInHanded_of_change_and (C:=Tryz.checked) (X:=fun w _=>laidMetH Tryz.prog Bi w) (fun _ _ _ hh h=>h.of_heap hh) xF d kM Tryz.func4
  (ChangeSpec.witness_shaped (enc:=enc) (C:=Tryz.checked) (os:=os) (X:=fun w _=>laidMetH Tryz.prog Bi w) false (pC os) #[.agg #[.slice none 0 0,.slice none 0 0],.int .u8 0,.agg #[.int .i64 0,.int .i64 0],.agg #[.int .i64 0,.int .i64 0],.int .u8 0] 8 (World.layVars_os _ _ _) (World.shaped_of_ZipB kM kM) kM kM kM (lD os _)) ?_
 intro W base args ds gs m c hW _ _ hL _;have a:∀(j:Nat) t v,Tryz.f4.params[j]?=some t->args[j]?=some v->Value.okWide Tryz.prog W .any base t v:=c;have b:=hW;obtain⟨p,q,g,hV,rfl,ag,ah⟩:=hW;have hA:DataW.TrodAll enc Tryz.prog W 0 (fun _=>true) true Tryz.f4.params.toList args.toList ds p:=g;rw[Tryz.params4]at hA a;obtain⟨v0,ai,d0,ab,z,q0,s,rfl,rfl,h0,r0⟩:=trodAll_cons hA;obtain⟨v1,aj,d1,ac,p1,q1,rfl,rfl,rfl,h1,r1⟩:=trodAll_cons r0;obtain⟨v2,ak,d2,ad,K,q2,rfl,rfl,rfl,h2,r2⟩:=trodAll_cons r1;obtain⟨v3,al,d3,ae,P,q3,rfl,rfl,rfl,h3,r3⟩:=trodAll_cons r2;obtain⟨v4,am,d4,af,p4,q4,rfl,rfl,rfl,h4,r4⟩:=trodAll_cons r3;obtain⟨rfl,rfl,rfl⟩:=trodAll_nil r4;obtain rfl:args=#[v0,v1,v2,v3,v4]:=by cases args;simp_all
 obtain⟨rfl,rfl⟩:=trodVars_none hV;have n:=h0;have o:=h2;have r:=h3;obtain⟨T,aa,g0,R,rfl,u,y⟩:=OK (a 0 _ _ rfl rfl) h0;obtain⟨a1,rfl,rfl,rfl,w1⟩:=open_int Tryz.underlying5 (a 1 _ v1 rfl rfl) h1;obtain⟨n2,m2,rfl,b2,c2⟩:=GA (a 2 _ _ rfl rfl) h2;obtain⟨n3,m3,rfl,b3,c3⟩:=GA (a 3 _ _ rfl rfl) h3;obtain⟨a4,rfl,rfl,rfl,w4⟩:=open_int Tryz.underlying5 (a 4 _ v4 rfl rfl) h4;have b4:=Ss w4;rw[show IntKind.u8.min=0 by decide,show IntKind.u8.max=255 by decide]at b4;clear g c;rw[List.append_nil (z++([]++(K++(P++([]++[])))))]at b;have i:∀x∈z,x.block<W.heap.size:=fun x f=>b.lt x (by simp[f]);have k:∀x∈K,x.block<W.heap.size:=fun x f=>b.lt x (by simp[f]);have l:∀x∈P,x.block<W.heap.size:=fun x f=>b.lt x (by simp[f]);refine(RG W T aa g0 R a1 n2 m2 n3 m3 a4 u y (jJ hL) b4).mono fun e W' ⟨he,f⟩=>?_;subst he;exact⟨_,rfl,_,_,_,[],z++([]++(K++(P++([]++[])))),[],b,trodAll_cons_mk (shut_bool Tryz.underlying4 _) trodAll_mk0,
  trodAll_cons_mk (Below.trod Ar kM (of_decide_eq_true kM) n f i) (trodAll_cons_mk (shut_int Tryz.underlying5 w1) (trodAll_cons_mk (Below.trod Ar kM (of_decide_eq_true kM) o f k) (trodAll_cons_mk (Below.trod Ar kM (of_decide_eq_true kM) r f l) (trodAll_cons_mk (shut_int Tryz.underlying5 w4) trodAll_mk0)))),
  rfl,Below.frame f _,fun h=>by cases h⟩
def tL:Rows.PlaceCoversSaid:=
 OpenClaim.holds_of_wide 4 Tryz.f4 rfl rfl rfl rfl rfl rfl rfl ⟨rfl,rfl,rfl,rfl,rfl⟩ rfl rfl rfl rfl rfl kM Tryz.func4 Np
  (of_decide_eq_true kM) (by unfold Func.isWrapper;first|(rw[if_pos (by decide +kernel)];kernel_rfl)|(rw[if_neg (by decide +kernel)];exact⟨rfl,rfl⟩))
  (fun b a H enc _=>Pg b a H enc)
theorem placeCovers_holds:Rows.PlaceCoversCardSaid:=
 Claim7.holds_tied_plain_at .later [] [.data,.funcs,.pinned] true (true, "10a3c29e3bef63269d727635e4471b9fc0f17284be7e76868fa82f1c513ca378") false
  tL (fun _ h=>by cases h) kM (fun _ h=>by cases h) placeCovers_row_tie rfl ⟨rfl,rfl⟩ kM rfl
  (fun f d e b=>by
   obtain rfl:f=4:=Option.some.inj ((show Tryz.prog.funcNamed "copestone/copestonelaw03.PlaceCovers" = some 4 by kernel_rfl).symm.trans e) |>.symm
   obtain rfl:d=Tryz.f4:=(Option.some.inj (Tryz.func4.symm.trans b)).symm;exact⟨by kernel_rfl,fun j t c=>by
    rw[Tryz.params4]at c;have g:t∈[25,5,55]:=by
     have:=Array.mem_of_getElem? c;simp at this ⊢;grind
    have a:([25,5,55].all fun u=>!Tryz.prog.wantsStandIn u)=true:=kM;exact(show Tryz.prog.wantsStandIn t=false by simpa using List.all_eq_true.1 a t g)⟩)
  kM
