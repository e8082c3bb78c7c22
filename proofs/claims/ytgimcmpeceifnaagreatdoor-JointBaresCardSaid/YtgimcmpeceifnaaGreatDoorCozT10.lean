import Derived.Test.YtgimcmpeceifnaaGreatDoorCozT09
import Derived.Test.YtgimcmpeceifnaaGreatDoorCozT05
set_option maxRecDepth 1000000
set_option maxHeartbeats 16000000
set_option linter.all false
namespace Go.Proofs.YtgimcmpeceifnaaGreatDoor.Cop
section
open Go Go.ChangeShapes Go.WideShapes Go.ChangeAt Go.RowKit
def ru(os:Os)(c:os.Started)(H:Type)(enc:TypeId×Value->H) :
  ReturnsInHanded {} Tryz.checked os 5 .any (fun w args=>(Rows.jointBaresSpec.pre enc Tryz.prog Tryz.f5 [] false w args/\laidMetH Tryz.prog [("copestone/stone.ways",Rows.laid_copestone_stone_ways)] w)/\sizedMet enc Tryz.prog Tryz.f5 (OpenSpec.ofChange Rows.jointBaresSpec) false w args)
   (Rows.jointBaresSpec.post enc Tryz.prog Tryz.f5 false true false false):=by
 refine returnsInHanded_of_change_and (C:=Tryz.checked) (X:=fun w _=>laidMetH Tryz.prog [("copestone/stone.ways",Rows.laid_copestone_stone_ways)] w) (fun _ _ _ hh h=>h.of_heap hh) MM c kM Tryz.func5
  (ChangeSpec.witness_shaped (enc:=enc) (C:=Tryz.checked) (os:=os) (X:=fun w _=>laidMetH Tryz.prog [("copestone/stone.ways",Rows.laid_copestone_stone_ways)] w) false (World.doorLaid Tryz.prog 14 os) #[.agg #[.slice none 0 0,.slice none 0 0],.int .i64 0,.int .i64 0,.int .i64 0,.int .i64 0] 8 rfl (World.shaped_of_RefB kM kM) kM kM kM (IN os _)) ?_
 intro W base args ds gs k b u _ _ hL _;have a:∀(j:Nat) t v,Tryz.f5.params[j]?=some t->args[j]?=some v->Value.okWide Tryz.prog W .any base t v:=b;have d:=u;obtain⟨p,q,f,hV,rfl,af,ag⟩:=u;have s:DataW.TrodAll enc Tryz.prog W 0 (fun _=>true) true Tryz.f5.params.toList args.toList ds p:=f;rw[Tryz.params5]at s a;obtain⟨v0,ah,d0,aa,o,q0,n,rfl,rfl,r,r0⟩:=trodAll_cons s;obtain⟨y,ai,d1,ab,p1,q1,rfl,rfl,rfl,h1,r1⟩:=trodAll_cons r0;obtain⟨z,aj,d2,ac,p2,q2,rfl,rfl,rfl,h2,r2⟩:=trodAll_cons r1;obtain⟨R,ak,d3,ad,p3,q3,rfl,rfl,rfl,h3,r3⟩:=trodAll_cons r2;obtain⟨v4,al,d4,ae,p4,q4,rfl,rfl,rfl,h4,r4⟩:=trodAll_cons r3;obtain⟨rfl,rfl,rfl⟩:=trodAll_nil r4;obtain rfl:args=#[v0,y,z,R,v4]:=by cases args;simp_all
 obtain⟨rfl,rfl⟩:=trodVars_none hV;have m:=r;obtain⟨vg,vp,g,ps,rfl,hg,hp⟩:=XS (a 0 _ _ rfl rfl) r;obtain⟨a1,rfl,rfl,rfl,w1⟩:=open_int Tryz.underlying3 (a 1 _ y rfl rfl) h1;obtain⟨a2,rfl,rfl,rfl,w2⟩:=open_int Tryz.underlying3 (a 2 _ z rfl rfl) h2;obtain⟨a3,rfl,rfl,rfl,w3⟩:=open_int Tryz.underlying3 (a 3 _ R rfl rfl) h3;obtain⟨a4,rfl,rfl,rfl,w4⟩:=open_int Tryz.underlying3 (a 4 _ v4 rfl rfl) h4;clear f b;rw[List.append_nil (o++([]++([]++([]++([]++[])))))]at d;have i:∀x∈o,x.block<W.heap.size:=fun x l=>d.lt x (by simp[l]);refine(NX W vg vp g ps a1 a2 a3 a4 hg hp (iS hL)).mono fun e W' ⟨he,l⟩=>?_;subst he;exact⟨_,rfl,_,_,_,[],o++([]++([]++([]++([]++[])))),[],d,trodAll_cons_mk (shut_bool Tryz.underlying4 _) trodAll_mk0,
  trodAll_cons_mk (Below.trod jy kM (of_decide_eq_true kM) m l i) (trodAll_cons_mk (shut_int Tryz.underlying3 w1) (trodAll_cons_mk (shut_int Tryz.underlying3 w2) (trodAll_cons_mk (shut_int Tryz.underlying3 w3) (trodAll_cons_mk (shut_int Tryz.underlying3 w4) trodAll_mk0)))),
  rfl,Below.frame l _,fun h=>by cases h⟩
def UX:Rows.JointBaresSaid:=
 OpenClaim.holds_of_wide 5 Tryz.f5 rfl rfl rfl rfl rfl rfl rfl ⟨rfl,rfl,rfl,rfl,rfl⟩ rfl rfl rfl rfl rfl kM Tryz.func5 BW
  (of_decide_eq_true kM) (by unfold Func.isWrapper;first|(rw[if_pos (by decide +kernel)];kernel_rfl)|(rw[if_neg (by decide +kernel)];exact⟨rfl,rfl⟩))
  (fun b a H enc _=>ru b a H enc)
