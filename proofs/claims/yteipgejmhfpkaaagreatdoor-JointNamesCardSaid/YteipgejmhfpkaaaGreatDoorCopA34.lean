/- Part 35: contracts of what the law calls. -/
import Derived.Test.YteipgejmhfpkaaaGreatDoorCopA33
import Derived.Laws.StructEq
import Derived.Test.YteipgejmhfpkaaaGreatDoorCopA22
set_option maxRecDepth 1000000
set_option maxHeartbeats 16000000
set_option linter.unusedSimpArgs false
set_option linter.unusedVariables false
open Go.Value renaming int→O,slice→V
open Go.IntKind renaming i64→Y
open Go renaming World→Z,Value→X
namespace Go.Proofs.YteipgejmhfpkaaaGreatDoor.Cop
section
open Go.RowKit Go.Shelf Go.Sort Go.Lib
theorem zju (w:Z) (vg vp:X) (hg:IsPts w vg exG) (hp:IsPls w vp exP) (hgw:Gw w) :
  Calls Tryz.prog 15 #[.agg #[vg,vp],.agg (ruc exR)] w fun e w'=>∃a c,e = .returned (.tuple #[V a 2 c,O Y 0])∧IsJts w' (V a 2 c) [exJ1,exJ2]∧Ext w w':=by
 refine(zeA w vg vp exG exP exR hg hp hgw).mono ?_;rintro e w' (⟨h,_⟩|⟨_,v,L,ks,rs,rfl,hj,svp,hx⟩)
 ·exact absurd zm9 h
 ·obtain⟨rfl,-⟩:=ex_L svp
  obtain⟨a,c,rfl⟩:=hj.form;exact⟨a,c,rfl,hj,hx⟩
theorem zlD (w:Z) (vg vp:X) (hg:IsPts w vg exG) (hp:IsPls w vp exP) (hgw:Gw w) :
  Calls Tryz.prog 16 #[.agg #[vg,vp],.agg (ruc exR)] w fun e w'=>∃v,e = .returned (.tuple #[v,O Y 0])∧IsIs w' v [0,0]∧Ext w w':=by
 refine(zkC w vg vp exG exP exR hg hp hgw).mono ?_;rintro e w' (⟨h,_⟩|⟨_,v,L,ks,rs,rfl,hi,svp,hx⟩)
 ·exact absurd zm9 h
 ·obtain⟨-,rfl⟩:=ex_L svp
  exact⟨v,rfl,hi,hx⟩
theorem ziP (w:Z) (hgw:Gw w):Calls Tryz.prog 9 #[] w fun e w'=>e = .returned (.bool true)∧Ext w w':=by
 have Hgw:=hd9 hgw;clear hgw;go_enter Tryz.func9,Tryz.ntmps9
 go_upto_region 2 with (first|(go_at_call 20;(with_reducible refine(zeV _).mono ?_);rintro e w11 ⟨vg1,vp1,rfl,hg1,hp1,hx1⟩;have E11:Ext w w11:=(eR w).trans hx1)|(go_at_call 21;(with_reducible refine(zcr _).mono ?_);rintro e w12 ⟨rfl,hy1⟩;have E12:Ext w w12:=E11.trans hy1)|(go_at_call 15;(with_reducible refine(zju _ vg1 vp1 (hg1.ext' hy1) (hp1.ext' hy1) (Hgw.out.ext E12)).mono ?_);rintro e w13 ⟨ja,jc9,rfl,hj,hz1⟩;have E13:Ext w w13:=E12.trans hz1))
 go_upto_region 3 with (first|(go_at_call 20;(with_reducible refine(zeV _).mono ?_);rintro e w21 ⟨vg2,vp2,rfl,hg2,hp2,hx2⟩;have E21:Ext w w21:=E13.trans hx2)|(go_at_call 21;(with_reducible refine(zcr _).mono ?_);rintro e w22 ⟨rfl,hy2⟩;have E22:Ext w w22:=E21.trans hy2)|(go_at_call 16;(with_reducible refine(zlD _ vg2 vp2 (hg2.ext' hy2) (hp2.ext' hy2) (Hgw.out.ext E22)).mono ?_);rintro e w23 ⟨vr,rfl,hr,hz2⟩;have E23:Ext w w23:=E22.trans hz2))
 go_upto_region 4 with (first|(go_at_call 20;(with_reducible refine(zeV _).mono ?_);rintro e w31 ⟨vg3,vp3,rfl,hg3,hp3,hx3⟩;have E31:Ext w w31:=E23.trans hx3)|(go_at_call 21;(with_reducible refine(zcr _).mono ?_);rintro e w32 ⟨rfl,hy3⟩;have E32:Ext w w32:=E31.trans hy3)|(go_at_call 11;(with_reducible refine(zhQ _ vg3 vp3 (hg3.ext' hy3) (hp3.ext' hy3) (Hgw.out.ext E32)).mono ?_);rintro e w33 ⟨vc,rfl,hc,hz3⟩;have E33:Ext w w33:=E32.trans hz3))
 have X3:Ext w13 w33:=((((hx2.trans hy2).trans hz2).trans hx3).trans hy3).trans hz3;have X2:Ext w23 w33:=(hx3.trans hy3).trans hz3;obtain⟨jb,jo,d,rfl,hjb,hjl,hd,hc'⟩:=Sl.at (hj.ext' X3) (i:=1) (x:=exJ2) rfl;subst hd;have d0:=hc' 0 (O Y 2) rfl;have d1:=hc' 1 (O Y 3) rfl;have d2:=hc' 2 (O Y 200) rfl;have d3:=hc' 3 (O Y 200) rfl;have d4:=hc' 4 (O Y 80) rfl;have d5:=hc' 5 (O Y 160) rfl;simp only [Nat.add_zero,Nat.one_mul]at d0 d1 d2 d3 d4 d5;have HI1:=hd9 (fun(W:Z) (hW:Ext w33 W) (v:X) (h:IsIs W v [0,0])=>zg8 W vr v [0,0] [0,0] ((hr.ext' X2).ext' hW) h);have HI2:=hd9 (fun(W:Z) (hW:Ext w33 W) (v:X) (h:IsIs W v [1,1,2,2,3])=>zg8 W vc v [1,1,2,2,3] [1,1,2,2,3] (hc.ext' hW) h);have E:=hd9 E33;clear hc' hj hr hc X3 X2 hjl hx1 hy1 hz1 hx2 hy2 hz2 hx3 hy3 hz3 E11 E12 E13 E21 E22 E23 E31 E32 E33
 go_wp2_with(first|(go_at_call 22;(with_reducible refine(HI1.out _ ((eR w33).alloc _) _ ((zks w33 0 0 0 (Nat.zero_le _)).is)).mono ?_);rintro e w41 ⟨rfl,hx41⟩;have X41:=((eR w33).alloc (.cells #[O Y 0,O Y 0] 3)).trans hx41)|(go_at_call 22;(with_reducible refine(HI2.out _ (X41.alloc _) _ (zdM w41 rfl 1 1 2 2 3)).mono ?_);rintro e w42 ⟨rfl,hx42⟩))
 go_ret;exact⟨rfl,((E.out.trans X41).alloc _).trans hx42⟩
end
section
open Go.RowKit Go.Shelf Go.Sort Go.Lib
attribute [local go_sem] Oper.semAt_some
structure Fd where
 kind:Int
 at':Int
 stone:Int
 amount:Int
deriving DecidableEq
def fdc (f:Fd):List X:=[O .u8 f.kind,O Y f.at',O Y f.stone,O Y f.amount]
abbrev IsFds (w:Z) (v:X) (l:List Fd):Prop:=Sl 73 4 (fun _ c f=>c=fdc f) w v l
theorem OwnC.fds {w:Z} {base:Nat} {v:X} {l:List Fd} (h:OwnC 73 4 w base v (l.map fdc)):IsFds w v l:=
 OwnC.sl h (by simp) (fun i c x hc hx=>by
  rw [lP,hx]at hc
  cases hc;rfl)
theorem IsFds.ext' {w w':Z} {v:X} {l:List Fd} (h:IsFds w v l) (k:Ext w w'):IsFds w' v l:=Sl.ext h (fun _ _ h=>h) k
theorem zbU:(Tryz.prog.info? 73).map (fun i=>(i.zero,i.size,i.bytes))=some (some (.agg #[O .u8 0,O Y 0,O Y 0,O Y 0]),4,32):=by kernel_rfl
def hgt (L:List Jt) (rs:List Int) (k:Nat):Int:=(match L[k]? with|some j=>j.til|none=>0)-rs.getD k 0
def runP (L:List Jt) (rs:List Int) (run:Int):Nat→List Fd
 | 0=>[]
 | k+1=>runP L rs run k++(if run<hgt L rs k then [⟨1,k,-1,hgt L rs k⟩]else [])
theorem zdu (L:List Jt) (rs:List Int) (run:Int):∀k,(runP L rs run k).length≤k
 | 0=>nE _
 | k+1=>by
  have:=zdu L rs run k;unfold runP;rw [lA]
  split<;>simp<;>omega
theorem zmc {r:Ru} {L:List Jt} {rs:List Int} {k:Nat} {fr:Int} (h1:Bd 1000000 fr) (h2:∀z∈rs,Bd 1000000 z):Bd 1000000 (rootP r L rs k fr):=by
 unfold rootP
 generalize befL r L k=l
 induction l generalizing fr with
 | nil=>exact h1
 | cons i t ih =>
  rw [List.foldl_cons];refine ih ?_
  have hz:Bd 1000000 (rs.getD i 0):=by
   rw [gD]
   cases h9:rs[i]? with
   | none=>unfold Bd;simp
   | some v=>exact h2 v (lM h9)
  unfold Bd at *;omega
theorem zd3 {r:Ru} {L:List Jt} (hL:∀j∈L,BJt j):∀k,∀z∈rootsP r L k,Bd 1000000 z
 | 0,z,hz=>by simp [rootsP]at hz
 | k+1,z,hz=>by
  unfold rootsP at hz
  rcases List.mem_append.1 hz with hz|hz
  ·exact zd3 hL k z hz
  ·rw [List.mem_singleton.1 hz]
   cases h:L[k]? with
   | none=>unfold Bd;simp
   | some j=>exact zmc (hL j (lM h)).2.2.2.2.1 (zd3 hL k)
theorem zhW (w:Z) (sb k:Nat) (r:Ru) (vg vp vs vj vr:X) (ks:List (JS×X)) (L:List Jt) (rs:List Int) (sv:Sv w sb r vg vp vs vj vr ks L rs) (hk:k<L.length) (hrl:rs.length=L.length) (hL:∀j∈L,BJt j) (hrs:∀z∈rs,Bd 1000000 z) :
  Calls Tryz.prog 38 #[.pointer (some ⟨sb,0,none⟩),O Y k] w fun e w'=>e = .returned (O Y (hgt L rs k))∧Ext w w':=by
 obtain⟨ja,jn,jc9,rfl⟩:=form3 sv.joints;obtain⟨ra,rn,rc,rfl⟩:=form3 sv.roots;have hj:L[k]?=some (L[k]'hk):=gE hk;have hz:rs[k]?=some (rs[k]'(by omega)):=gE (by omega)
 have e:hgt L rs k=(L[k]'hk).til-rs[k]'(by omega):=by
  unfold hgt;rw [hj,gD,hz];rfl
 rw [e];have b1:=(hL _ (lM hj)).2.2.2.2.2;have b2:=hrs _ (lM hz);obtain⟨j,hj9⟩:=gX (L[k]'hk);obtain⟨z,hz9⟩:=gX (rs[k]'(by omega));rw [hj9]at b1 hj ⊢;rw [hz9]at b2 hz ⊢;have hjl:=sv.joints.len;have hrl9:=sv.roots.len;obtain⟨jb,jo,d,rfl,hjb,_,hd,hc⟩:=Sl.at sv.joints hj;subst hd;have c5:=hc 5 (O Y j.til) rfl;obtain⟨rb,ro,rfl,hrb,cr⟩:=sv.roots.at' hz;have s10:=qcB sv.blk (i:=10) (u:=V (some ⟨jb,jo,none⟩) jn jc9) rfl;have s11:=qcB sv.blk (i:=11) (u:=V (some ⟨rb,ro,none⟩) rn rc) rfl;unfold Bd at b1 b2;have q1:IntKind.i64.wrap (j.til-z)=j.til-z:=iW _ ⟨by omega,by omega⟩;have q2:wrap64 (j.til-z)=j.til-z:=IntWalk.wrap64_in _ ⟨by omega,by omega⟩;have p0:(0:Int)≤(k:Int):=by omega
 have p1:(k:Int)<(jn:Int):=by omega
 have p2:(k:Int)<(rn:Int):=by omega
 clear hc hj hz hL hrs b1 b2 sv hj9 hz9 e hjl hrl9 hrl;go_enter Tryz.func38,Tryz.ntmps38
 go_upto_region 1 with fail
 refine wp_region_held_drew (S:=CellL [(⟨sb,10,none⟩,V (some ⟨jb,jo,none⟩) jn jc9),(⟨sb,11,none⟩,V (some ⟨rb,ro,none⟩) rn rc),(⟨jb,jo+k*6+5,none⟩,O Y j.til),(⟨rb,ro+k,none⟩,O Y z)]) (by kernel_rfl) cA (fun h9H=>?_);refine tk1 (i:=0) ?_;refine tk1 (i:=1) ?_;refine tk1 (i:=2) ?_;refine tk1 (i:=3) ?_;refine tk1 (i:=4) ?_;refine tk1 (i:=5) ?_;refine tk1 (i:=6) ?_;refine tk1 (i:=7) ?_;refine tk1 (i:=8) ?_;refine tk1 (i:=9) ?_;refine tk1 (i:=10) ?_;refine tk1 (i:=11) ?_;refine tk1 (i:=12) ?_;refine tk1 (i:=13) ?_;refine tk1 (i:=14) ?_;refine tk1 (i:=15) ?_;refine tk1 (i:=16) ?_;refine wpAnyH_done (by kernel_rfl) ?_ _;go_wp2;go_ret;exact⟨rfl,eA⟩
def RunS (w:Z) (L:List Jt) (rs:List Int) (run:Int) (gk:Nat) (t3 t11:X) (W:Z):Prop:=
 ∃i:Nat,i≤L.length∧t11=O Y (i:Nat)∧gk=L.length-i∧Ext w W∧OwnC 73 4 W w.heap.size t3 ((runP L rs run i).map fdc)
theorem zgA (w:Z) (sb:Nat) (r:Ru) (vg vp vs vj vr:X) (ks:List (JS×X)) (L:List Jt) (rs:List Int) (sv:Sv w sb r vg vp vs vj vr ks L rs) (hrl:rs.length=L.length) (hL:∀j∈L,BJt j) (hrs:∀z∈rs,Bd 1000000 z) (hl9:L.length≤100000) :
  Calls Tryz.prog 33 #[.pointer (some ⟨sb,0,none⟩)] w fun e w'=>∃v,e = .returned v∧OwnC 73 4 w' w.heap.size v ((runP L rs r.run L.length).map fdc)∧Ext w w':=by
 have HH:=hd9 (fun(W:Z) (hW:Ext w W) (k:Nat) (hk:k<L.length)=>zhW W sb k r vg vp vs vj vr ks L rs (sv.ext hW) hk hrl hL hrs);obtain⟨ja,jn,jc9,rfl⟩:=form3 sv.joints;have Hn:=hd9 (show jn=L.length from sv.joints.len);have s10:=qcB sv.blk (i:=10) (u:=V ja jn jc9) rfl;have s5:=qcB sv.blk (i:=5) (u:=O Y r.run) rfl;have zs:=zab sv.blk;obtain⟨run,hrun⟩:=gX r.run;rw [hrun]at s5 ⊢;obtain⟨R,hR⟩:∃R:Ending→Z→Prop,(fun e w'=>∃v,e = .returned v∧OwnC 73 4 w' w.heap.size v ((runP L rs run L.length).map fdc)∧Ext w w')=R:=⟨_,rfl⟩;rw [hR];have HR:=hd9 hR;have hj9:jn≤100000:=by rw [Hn.out];exact hl9
 clear hR sv hL hrs hrl hrun hl9;go_enter Tryz.func33,Tryz.ntmps33;go_wp2
 go_loopg [3,11] jn (RunS w L rs run)
 case atStart=>exact⟨0,Nat.zero_le _,rfl,by rw [Hn.out];rfl,eR _,OwnC.nil _ _ _ _⟩
 case round =>
  obtain⟨i,hi,rfl,rfl,hx,hown⟩:=hrel;rw [←Hn.out]at hi;obtain⟨va,vn,vc,rfl⟩:=hown.form3;have c5:=hx.cellS s5;have hwr:=hx.size
  by_cases hlt:i<jn
  ·have HHi:=hd9 (fun(W:Z) (hW:Ext w W)=>HH.out W hW i (by rw [←Hn.out];exact hlt))
   obtain⟨h,hh⟩:=gX (hgt L rs i);rw [hh]at HHi;have Hh:=hd9 hh;have hlen9:(runP L rs run i).length≤100000:=nT (zdu _ _ _ _) (by omega);have Hlen9:=hd9 hlen9;have Hown:=hd9 hown;have Hx:=hd9 hx;have hlt2:(i:Int)<(jn:Int):=by omega
   clear hown hh hlen9
   by_cases hr:run<h
   ·go_wp2_with(first|(go_at_call 38;(with_reducible refine(HHi.out _ Hx.out).mono ?_);rintro e w5 ⟨rfl,hx5⟩;have c5':=hx5.cellS c5;have z5:=hx5.size)|(at_builtin;refine appC (T:=73) (t:=63) (z:=.agg #[O .u8 0,O Y 0,O Y 0,O Y 0]) (k:=4) (bytes:=32) (base:=w.heap.size) (v:=V va vn vc) (cs:=(runP L rs run i).map fdc) (m:=1) (c:=1) (ad:=⟨w5.heap.size,0,none⟩) zbU rfl (by decide) (by decide) Tryz.underlying63 rfl _ _ rfl rfl (Hown.out.ext (hx5.alloc _)) rfl [fdc ⟨1,i,-1,h⟩] rfl (by simp [fdc]) (by exact zaE w5 #[O .u8 1,O Y i,O Y (-1),O Y h] 73) (by simp [fdc,Value.oneCell']) (by have:=Hlen9.out;rw [lL];omega) (by simp only [wZ];omega) ?_;intro v' w6 hown6 hgrow hlie))
    go_roundg (jn-(i+1))
    case measure=>have:=Hn.out;omega
    case rel =>
     refine⟨i+1,by rw [←Hn.out];omega,by go_num,by rw [Hn.out],zaS (Hx.out.trans (hx5.alloc _)) hgrow (fun j hj=>(Hown.out.lt j hj).1),?_⟩;unfold runP;rw [Hh.out,if_pos (by omega),List.map_append];exact hown6
   ·go_wp2_with(go_at_call 38;(with_reducible refine(HHi.out _ Hx.out).mono ?_);rintro e w5 ⟨rfl,hx5⟩;have c5':=hx5.cellS c5)
    go_roundg (jn-(i+1))
    case measure=>have:=Hn.out;omega
    case rel =>
     refine⟨i+1,by rw [←Hn.out];omega,by go_num,by rw [Hn.out],Hx.out.trans hx5,?_⟩;unfold runP;rw [Hh.out,if_neg (by omega),List.append_nil];exact Hown.out.ext hx5
  ·obtain rfl:jn=i:=by omega
   rw [Hn.out]at hown;have Hown:=hd9 hown;have Hx:=hd9 hx;clear hown;go_wp2;rw [←HR.out];exact⟨_,rfl,Hown.out,Hx.out⟩
end
section
open Go.RowKit Go.Shelf Go.Sort Go.Lib
def BJS (j:JS):Prop:=Bd 104000 j.x.1∧Bd 104000 j.x.2∧Bd 104000 j.z.1∧Bd 104000 j.z.2∧Bd 10000 j.p.depth∧∃k:Nat,j.k=(k:Int)∧k<120
def moreJ (j:JS):Int:=j.x.2-j.x.1-j.p.depth
def trJ (j:JS):List Fd:=if 0<moreJ j then [⟨3,-1,j.k,moreJ j⟩]else []
def trP (ks:List (JS×X)):Nat→List Fd
 | 0=>[]
 | i+1=>trP ks i++(match ks[i]? with|some x=>trJ x.1|none=>[])
theorem zfh (ks:List (JS×X)):∀k,(trP ks k).length≤k
 | 0=>nE _
 | k+1=>by
  have:=zfh ks k;unfold trP;rw [lA]
  split
  ·unfold trJ;split<;>simp<;>omega
  ·simp;omega
def TrS (w:Z) (ks:List (JS×X)) (gk:Nat) (t3 t12:X) (W:Z):Prop:=
 ∃i:Nat,i≤ks.length∧t12=O Y (i:Nat)∧gk=ks.length-i∧Ext w W∧OwnC 73 4 W w.heap.size t3 ((trP ks i).map fdc)
theorem ziz (w:Z) (sb:Nat) (r:Ru) (vg vp vs vj vr:X) (ks:List (JS×X)) (L:List Jt) (rs:List Int) (sv:Sv w sb r vg vp vs vj vr ks L rs) (hkb:∀x∈ks,BJS x.1) (hkv:∀j∈ks,∃a n c,j.2=V a n c) (hl9:ks.length≤120) :
  Calls Tryz.prog 35 #[.pointer (some ⟨sb,0,none⟩)] w fun e w'=>∃v,e = .returned v∧OwnC 73 4 w' w.heap.size v ((trP ks ks.length).map fdc)∧Ext w w':=by
 have Hjs:=hd9 sv.skin;obtain⟨sa,sn,sc,rfl⟩:=form3 sv.skin;have Hn:=hd9 (show sn=ks.length from sv.skin.len);have s9:=qcB sv.blk (i:=9) (u:=V sa sn sc) rfl;have zs:=zab sv.blk;obtain⟨R,hR⟩:∃R:Ending→Z→Prop,(fun e w'=>∃v,e = .returned v∧OwnC 73 4 w' w.heap.size v ((trP ks ks.length).map fdc)∧Ext w w')=R:=⟨_,rfl⟩;rw [hR];have HR:=hd9 hR;have hj9:sn≤120:=by rw [Hn.out];exact hl9
 have Hkb:=hd9 hkb;have Hkv:=hd9 hkv;clear hR sv hkb hkv hl9;go_enter Tryz.func35,Tryz.ntmps35;go_wp2
 go_loopg [3,12] sn (TrS w ks)
 case atStart=>exact⟨0,Nat.zero_le _,rfl,by rw [Hn.out];rfl,eR _,OwnC.nil _ _ _ _⟩
 case round =>
  obtain⟨i,hi,rfl,rfl,hx,hown⟩:=hrel;rw [←Hn.out]at hi;obtain⟨va,vn,vc,rfl⟩:=hown.form3;have hwr:=hx.size;have Hown:=hd9 hown;have Hx:=hd9 hx
  by_cases hlt:i<sn
  ·skip
   obtain⟨x,hxi⟩:∃x,ks[i]?=some x:=⟨ks[i]'(by rw [←Hn.out];exact hlt),gE _⟩;have hbj:=Hkb.out x (lM hxi);obtain⟨⟨p,kk,⟨xl,xh⟩,⟨zl,zh⟩⟩,vx⟩:=x;obtain⟨sa1,sn1,sc1,rfl⟩:∃a n c,vx=V a n c:=Hkv.out _ (lM hxi);obtain⟨b9,o9,rfl,hb9,hc⟩:=(Hjs.out.ext' hx).at' hxi;have xc0:=hc 0 (.string p.name) rfl;have xc1:=hc 1 (V sa1 sn1 sc1) rfl;have xc2:=hc 2 (O Y p.depth) rfl;have xc3:=hc 3 (O Y p.density) rfl;have xc4:=hc 4 (O Y p.gx) rfl;have xc5:=hc 5 (O Y p.gz) rfl;have xc6:=hc 6 (O Y p.way) rfl;have xc7:=hc 7 (O Y p.ax) rfl;have xc8:=hc 8 (O Y p.az) rfl;have xc9:=hc 9 (O .u8 p.skin) rfl;have xc10:=hc 10 (O Y kk) rfl;have xc11:=hc 11 (O Y xl) rfl;have xc12:=hc 12 (O Y xh) rfl;have xc13:=hc 13 (O Y zl) rfl;have xc14:=hc 14 (O Y zh) rfl;simp only [Nat.add_zero]at xc0;obtain⟨b1,b2,-,-,b3,-⟩:=hbj;dsimp only at b1 b2 b3;unfold Bd at b1 b2 b3;have d1 : -9223372036854775808≤xh-xl:=by omega
   have d2:xh-xl≤9223372036854775807:=by omega
   have d3 : -9223372036854775808≤xh-xl-p.depth:=by omega
   have d4:xh-xl-p.depth≤9223372036854775807:=by omega
   have Hxi:=hd9 hxi;have hlen9:(trP ks i).length≤120:=nT (zfh _ _) (by omega);have Hlen9:=hd9 hlen9;have hlt2:(i:Int)<(sn:Int):=by omega
   obtain⟨mo,hmo⟩:=gX (xh-xl-p.depth);have Hmo:=hd9 (show moreJ ⟨p,kk,(xl,xh),(zl,zh)⟩=mo from hmo);have q1:IntKind.i64.wrap (xh-xl)=xh-xl:=iW _ ⟨by omega,by omega⟩;have q2:wrap64 (xh-xl)=xh-xl:=IntWalk.wrap64_in _ ⟨by omega,by omega⟩;have q3:IntKind.i64.wrap (xh-xl-p.depth)=mo:=by rw [←hmo];exact iW _ ⟨by omega,by omega⟩
   have q4:wrap64 (xh-xl-p.depth)=mo:=by rw [←hmo];exact IntWalk.wrap64_in _ ⟨by omega,by omega⟩
   clear hown hlen9 hxi hc hx hmo d1 d2 d3 d4
   have hst:trP ks (i+1)=trP ks i++(if 0<mo then [⟨3,-1,kk,mo⟩]else []):=by
    show trP ks i++_=_
    rw [Hxi.out]
    show _++trJ _=_
    unfold trJ;rw [Hmo.out]
   have Hst:=hd9 hst;clear hst
   by_cases hr:0<mo
   ·go_wp2_with(at_builtin;refine appC (T:=73) (t:=63) (z:=.agg #[O .u8 0,O Y 0,O Y 0,O Y 0]) (k:=4) (bytes:=32) (base:=w.heap.size) (v:=V va vn vc) (cs:=(trP ks i).map fdc) (m:=1) (c:=1) (ad:=⟨wr.heap.size+1,0,none⟩) zbU rfl (by decide) (by decide) Tryz.underlying63 rfl _ _ rfl rfl (Hown.out.ext (((eR wr).alloc (.cells #[.string p.name,V sa1 sn1 sc1,O Y p.depth,O Y p.density,O Y p.gx,O Y p.gz,O Y p.way,O Y p.ax,O Y p.az,O .u8 p.skin,O Y kk,O Y xl,O Y xh,O Y zl,O Y zh] 127)).alloc _)) rfl [fdc ⟨3,-1,kk,mo⟩] rfl (by simp [fdc]) (by have h9:=zaE (wr.alloc (.cells #[.string p.name,V sa1 sn1 sc1,O Y p.depth,O Y p.density,O Y p.gx,O Y p.gz,O Y p.way,O Y p.ax,O Y p.az,O .u8 p.skin,O Y kk,O Y xl,O Y xh,O Y zl,O Y zh] 127)) (fdc ⟨3,-1,kk,mo⟩).toArray 73;simpa only [wZ,fdc] using h9) (by simp [fdc,Value.oneCell']) (by have:=Hlen9.out;rw [lL];omega) (by simp only [wZ];omega) ?_;intro v' w6 hown6 hgrow hlie)
    go_roundg (sn-(i+1))
    case measure=>have:=Hn.out;omega
    case rel =>
     refine⟨i+1,by rw [←Hn.out];omega,by go_num,by rw [Hn.out],zaS ((Hx.out.alloc _).alloc _) hgrow (fun j hj=>(Hown.out.lt j hj).1),?_⟩;rw [Hst.out,if_pos (by omega),List.map_append];exact hown6
   ·go_wp2
    go_roundg (sn-(i+1))
    case measure=>have:=Hn.out;omega
    case rel =>
     refine⟨i+1,by rw [←Hn.out];omega,by go_num,by rw [Hn.out],Hx.out.alloc _,?_⟩;rw [Hst.out,if_neg (by omega),List.append_nil];exact Hown.out.ext ((eR _).alloc _)
  ·obtain rfl:sn=i:=by omega
   rw [Hn.out]at hown;have Hown:=hd9 hown;clear hown;go_wp2;rw [←HR.out];exact⟨_,rfl,Hown.out,Hx.out⟩
end
end Go.Proofs.YteipgejmhfpkaaaGreatDoor.Cop
