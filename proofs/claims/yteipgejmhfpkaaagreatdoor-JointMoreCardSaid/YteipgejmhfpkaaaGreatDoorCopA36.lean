/- Part 37 of 39: contracts of what the law calls. -/
import Derived.Test.YteipgejmhfpkaaaGreatDoorCopA35
import Derived.Maps.Own
import Derived.Test.YteipgejmhfpkaaaGreatDoorCopA33
set_option maxRecDepth 1000000
set_option maxHeartbeats 16000000
set_option linter.unusedSimpArgs false
set_option linter.unusedVariables false
open Go.Value renaming int→O,pointer→V,slice→M,agg→E,tuple→Q
open Go.IntKind renaming i64→Y,u8→H
open Go renaming Value→Z,World→X
open Option renaming some→I,none→J
namespace Go.Proofs.YteipgejmhfpkaaaGreatDoor.Cop
open Go.RowKit Go.Shelf Go.Sort Go.Lib Go.Maps
attribute [local go_sem] Oper.semAt_some
theorem zlU (w:X):(zeroValue 3).run Tryz.prog w = .ok (O Y 0) w:=by kernel_rfl
def Lvm (W:X) (B n:Nat) (f:Nat→Option Int):Prop:=
 ∃D:DataW Unit,W.ownsMap Tryz.prog 3 (plainElem Tryz.prog 3) B n D∧∀k:Nat,k<1000→∀z,D.atKey (.int Y (k:Int)) z=match f k with|some v=>.lit (.int Y v)|none=>z
theorem Lvm.made (w:X):Lvm (w.alloc (.map #[] 0)) w.heap.size 0 (fun _=>J):=⟨.map [],World.ownsMap_made _ _ _ _,fun k _ z=>rfl⟩
theorem Lvm.kept {W W':X} {B n:Nat} {f:Nat→Option Int} {row:Option Nat} (h:Lvm W B n f) (hg:W.grownBy W' row) (hb:I B≠row):Lvm W' B n f:=by
 obtain⟨D,h1,h2⟩:=h;exact⟨D,h1.kept hg hb,h2⟩
theorem Lvm.ext {W W':X} {B n:Nat} {f:Nat→Option Int} (h:Lvm W B n f) (hx:Ext W W'):Lvm W' B n f:=by
 obtain⟨D,⟨es,clock,hb,h1⟩,h2⟩:=h;exact⟨D,⟨es,clock,hx.heapS hb,h1⟩,h2⟩
theorem Lvm.look {W:X} {B n:Nat} {f:Nat→Option Int} (h:Lvm W B n f) (c:Bool) {k:Nat} (hk:k<1000) :
  (Instr.lookup 160 (.map (I B)) (O Y (k:Int)) c).run Tryz.prog W = .ok (if c then Q #[O Y ((f k).getD 0),.bool (f k).isSome]else O Y ((f k).getD 0)) W:=by
 obtain⟨D,⟨es,clock,hb,F,hs,hD⟩,h2⟩:=h;have hk9:=h2 k hk
 rcases Maps.fit_look c key3 Tryz.underlying160 (zlU W) hb F (keyOf_int_mk Tryz.underlying3 (wf_k hk))with ⟨hr,_,hat⟩|⟨e0,y,_,_,hr,hy,hat,_⟩
 ·have e:f k=J:=by
   cases hf:f k with
   | none=>rfl
   | some v =>
    have h1:=hk9 .nil;rw [hf,hD,hat]at h1
    cases h1
  rw [hr,e]
  cases c<;>rfl
 ·obtain⟨a,ha,hya,_⟩:=plainElem_int_inv Tryz.underlying3 hy
  have e:f k=I a:=by
   have h1:=hk9 .nil;have h2:=hk9 (.lit (.bool true));rw [hD,hat,hya]at h1 h2
   cases hf:f k with
   | none=>rw [hf]at h1;cases h1
   | some v =>
    rw [hf]at h1;simp at h1;rw [h1]
  rw [hr,ha,e]
  cases c<;>rfl
theorem Lvm.look2 {W:X} {B n:Nat} {f:Nat→Option Int} (h:Lvm W B n f) {k:Nat} (hk:k<1000) :
  (Instr.lookup 160 (.map (I B)) (O Y (k:Int)) true).run Tryz.prog W = .ok (Q #[O Y ((f k).getD 0),.bool (f k).isSome]) W:=h.look true hk
theorem Lvm.look1 {W:X} {B n:Nat} {f:Nat→Option Int} (h:Lvm W B n f) {k:Nat} (hk:k<1000) :
  (Instr.lookup 160 (.map (I B)) (O Y (k:Int)) false).run Tryz.prog W = .ok (O Y ((f k).getD 0)) W:=h.look false hk
theorem Lvm.put {W:X} {B n:Nat} {f:Nat→Option Int} (h:Lvm W B n f) (hn:n<maxLen) {k:Nat} (hk:k<1000) {v:Int} (hv:Bd 1000000 v) :
  ∃w',(Instr.mapUpdate 160 (.map (I B)) (O Y (k:Int)) (O Y v)).run Tryz.prog W = .ok () w'∧Lvm w' B (n+1) (fun j=>if j=k then I v else f j)∧W.grownBy w' (I B):=by
 obtain⟨D,h1,h2⟩:=h;have hw:(Lit.int Y v).wf=true:=WalkArith.wf_i64 (by unfold Bd at hv;omega);obtain⟨w',r1,r2,r3⟩:=h1.update key3 Tryz.underlying160 hn (keyOf_int_mk Tryz.underlying3 (wf_k hk)) (plainElem_int Tryz.underlying3 hw)
 have hD:IsMap D:=by
  obtain⟨es,clock,_,_,_,hD⟩:=h1;exact⟨_,hD⟩
 refine⟨w',r1,⟨_,r2,fun j hj z=>?_⟩,r3⟩
 by_cases hjk:j=k
 ·subst hjk
  dsimp only;rw [if_pos rfl,atKey_put_same hD (by first|trivial|exact True.intro|simp [WideAt.IsKeyLit])]
 ·dsimp only
  rw [if_neg hjk,atKey_put_other (by simp;omega)];exact h2 j hj z
def crJ (o:List Int) (x:JS):Nat:=(o.getD x.k.toNat 0).toNat
def hiJ (l:Option Int) (z:Int):Option Int:=match l with|some v=>if v<z then I z else I v|none=>I z
def levP (o:List Int) (ks:List (JS×Z)):Nat→Nat→Option Int
 | 0=>fun _=>J
 | i+1=>match ks[i]? with
  | some x=>fun c=>if c=crJ o x.1 then hiJ (levP o ks i c) x.1.z.2 else levP o ks i c
  | none=>levP o ks i
def unJ (o:List Int) (lev:Nat→Option Int) (level:Int) (x:JS):List Fd:=if level<(lev (crJ o x)).getD 0-x.z.2 then [⟨4,-1,x.k,(lev (crJ o x)).getD 0-x.z.2⟩]else []
def unP (o:List Int) (lev:Nat→Option Int) (level:Int) (ks:List (JS×Z)):Nat→List Fd
 | 0=>[]
 | i+1=>unP o lev level ks i++(match ks[i]? with|some x=>unJ o lev level x.1|none=>[])
theorem zfj (o:List Int) (lev:Nat→Option Int) (level:Int) (ks:List (JS×Z)):∀k,(unP o lev level ks k).length≤k
 | 0=>Nat.le_refl _
 | k+1=>by
  have:=zfj o lev level ks k;unfold unP;rw [List.length_append]
  split
  ·unfold unJ;split<;>simp<;>omega
  ·simp;omega
theorem zfn {o:List Int} {ks:List (JS×Z)} (hk:∀x∈ks,BJS x.1):∀i c v,levP o ks i c=I v→Bd 104000 v
 | 0,c,v,h=>by cases h
 | i+1,c,v,h=>by
  unfold levP at h
  cases hx:ks[i]? with
  | none=>rw [hx]at h;exact zfn hk i c v h
  | some x =>
   rw [hx]at h;dsimp only at h
   by_cases hc:c=crJ o x.1
   ·rw [if_pos hc]at h
    unfold hiJ at h;have hz:=(hk x (lM hx)).2.2.2.1
    split at h
    ·split at h
     ·cases h;exact hz
     ·cases h;rename_i h9 _;exact zfn hk i c _ h9
    ·cases h;exact hz
   ·rw [if_neg hc]at h;exact zfn hk i c v h
def UnA (w3:X) (B:Nat) (o:List Int) (ks:List (JS×Z)) (gk:Nat) (t22:Z) (W:X):Prop:=
 ∃(i N:Nat),i≤ks.length∧t22=O Y (i:Nat)∧gk=ks.length-i∧Ext w3 W∧N≤i∧Lvm W B N (levP o ks i)
def UnB (w w3:X) (B N:Nat) (o:List Int) (level:Int) (ks:List (JS×Z)) (gk:Nat) (t10 t57:Z) (W:X):Prop:=
 ∃i:Nat,i≤ks.length∧t57=O Y (i:Nat)∧gk=ks.length-i∧Ext w3 W∧Lvm W B N (levP o ks ks.length)∧OwnC 73 4 W (B+1) t10 ((unP o (levP o ks ks.length) level ks i).map fdc)
theorem zh1 (w:X) (sb n:Nat) (r:Ru) (vg vp vs vj vr:Z) (ks:List (JS×Z)) (L:List Jt) (rs:List Int) (P:List Int→Prop) (sv:Sv w sb r vg vp vs vj vr ks L rs) (hkb:∀x∈ks,BJS x.1) (hkv:∀j∈ks,∃a n c,j.2=M a n c) (hl9:ks.length≤120)
  (hkn:∀x∈ks,∃k:Nat,x.1.k=(k:Int)∧k<n) (hP:∀o,P o→o.length=n∧∀v∈o,0≤v∧v≤120)
  (hC:∀W,Ext w W→Calls Tryz.prog 29 #[V (I ⟨sb,0,J⟩)] W fun e w'=>∃v o,e = .returned v∧IsIs w' v o∧P o∧Ext W w') :
  Calls Tryz.prog 36 #[V (I ⟨sb,0,J⟩)] w fun e w'=>∃v o,e = .returned v∧P o∧OwnC 73 4 w' w.heap.size v ((unP o (levP o ks ks.length) r.level ks ks.length).map fdc)∧Ext w w':=by
 have Hjs:=hd9 sv.skin;obtain⟨sa,sn,sc,rfl⟩:=form3 sv.skin;have Hn:=hd9 (show sn=ks.length from sv.skin.len);have s9:=qcB sv.blk (i:=9) (u:=M sa sn sc) rfl;have s6:=qcB sv.blk (i:=6) (u:=O Y r.level) rfl;have zs:=zab sv.blk;obtain⟨level,hlv⟩:∃x,r.level=x:=⟨_,rfl⟩;rw [hlv]at s6 ⊢;obtain⟨R,hR⟩:∃R:Ending→X→Prop,(fun e w'=>∃v o,e = .returned v∧P o∧OwnC 73 4 w' w.heap.size v ((unP o (levP o ks ks.length) level ks ks.length).map fdc)∧Ext w w')=R:=⟨_,rfl⟩;rw [hR];have HR:=hd9 hR;have hj9:sn≤120:=by rw [Hn.out];exact hl9
 have Hkb:=hd9 hkb;have Hkv:=hd9 hkv;have Hkn:=hd9 hkn;have HP:=hd9 hP;have HC:=hd9 hC;have hmm:=@run_makeMap Tryz.prog;clear hR sv hkb hkv hl9 hkn hP hC hlv;go_enter Tryz.func36,Tryz.ntmps36
 go_wp2_with(go_at_call 29;(with_reducible refine(HC.out _ (Ext.refl _)).mono ?_);rintro e w3 ⟨vc,o,rfl,hvc,ho,hx3⟩;obtain⟨ca,cn,cc,rfl⟩:=form3 hvc;have c9:=hx3.cellS s9;have c6:=hx3.cellS s6;have z3:=hx3.lt zs)
 obtain⟨hol,hob⟩:=HP.out o ho;have Hcl:=hd9 (show cn=n from hvc.len.trans hol);have Hvc:=hd9 hvc;have Ho:=hd9 ho;have Hx3:=hd9 hx3
 have Hkc:=hd9 (show ∀x∈ks,∃(k c:Nat),x.1.k=(k:Int)∧k<cn∧o[k]?=I (c:Int)∧c≤120∧crJ o x.1=c from fun x hx=>by
  obtain⟨k,h1,h2⟩:=Hkn.out x hx;have hk:o[k]?=I (o[k]'(by omega)):=List.getElem?_eq_getElem (by omega);have hb:=hob _ (lM hk);refine⟨k,(o[k]'(by omega)).toNat,h1,by rw [Hcl.out];exact h2,by rw [hk];congr 1;omega,by omega,?_⟩;unfold crJ;rw [h1,Int.toNat_natCast,List.getD_eq_getElem?_getD,hk];rfl)
 have HL0:=hd9 (Lvm.made w3);have HE0:=hd9 ((Ext.refl w3).alloc (.map #[] 0));clear hvc ho hx3 hol hob;obtain⟨B,hB⟩:∃x,w3.heap.size=x:=⟨_,rfl⟩;have HB:=hd9 hB;rw [hB]at HL0;simp only [hB];clear hB
 go_loopg [22] sn (UnA w3 B o ks)
 case atStart=>exact⟨0,0,Nat.zero_le _,rfl,by rw [Hn.out];rfl,HE0.out,Nat.le_refl _,HL0.out⟩
 case round =>
  clear HL0 HE0;obtain⟨i,N,hi,rfl,rfl,hxr,hN,hm⟩:=hrel;rw [←Hn.out]at hi;have hx:=Hx3.out.trans hxr;have hwr:=hxr.size;rw [HB.out]at hwr
  by_cases hlt:i<sn
  ·skip
   obtain⟨x,hxi⟩:∃x,ks[i]?=I x:=⟨ks[i]'(by rw [←Hn.out];exact hlt),List.getElem?_eq_getElem _⟩;have hbj:=Hkb.out x (lM hxi);obtain⟨⟨p,kk,⟨xl,xh⟩,⟨zl,zh⟩⟩,vx⟩:=x;obtain⟨sa1,sn1,sc1,rfl⟩:∃a n c,vx=M a n c:=Hkv.out _ (lM hxi);obtain⟨b9,o9,rfl,hb9,hc⟩:=(Hjs.out.ext' hx).at' hxi;have xc0:=hc 0 (.string p.name) rfl;have xc1:=hc 1 (M sa1 sn1 sc1) rfl;have xc2:=hc 2 (O Y p.depth) rfl;have xc3:=hc 3 (O Y p.density) rfl;have xc4:=hc 4 (O Y p.gx) rfl;have xc5:=hc 5 (O Y p.gz) rfl;have xc6:=hc 6 (O Y p.way) rfl;have xc7:=hc 7 (O Y p.ax) rfl;have xc8:=hc 8 (O Y p.az) rfl;have xc9:=hc 9 (O H p.skin) rfl;have xc10:=hc 10 (O Y kk) rfl;have xc11:=hc 11 (O Y xl) rfl;have xc12:=hc 12 (O Y xh) rfl;have xc13:=hc 13 (O Y zl) rfl;have xc14:=hc 14 (O Y zh) rfl;simp only [Nat.add_zero]at xc0;obtain⟨k,c,hk1,hk2,hk3,hc120,hcr⟩:=Hkc.out _ (lM hxi);dsimp only at hk1;subst hk1;have hzb:=hbj.2.2.2.1;dsimp only at hzb;obtain⟨b7,o7,rfl,hb7,c7⟩:=(Hvc.out.ext' hxr).at' hk3;have p1:(0:Int)≤(k:Int):=by omega
   have p2:(k:Int)<(cn:Int):=by omega
   have hlt2:(i:Int)<(sn:Int):=by omega
   have hm8:=hm.ext ((Ext.refl wr).alloc (.cells #[.string p.name,M sa1 sn1 sc1,O Y p.depth,O Y p.density,O Y p.gx,O Y p.gz,O Y p.way,O Y p.ax,O Y p.az,O H p.skin,O Y k,O Y xl,O Y xh,O Y zl,O Y zh] 127));have hlk:=hm8.look2 (k:=c) (by omega)
   have hst:levP o ks (i+1)=fun c'=>if c'=c then hiJ (levP o ks i c) zh else levP o ks i c':=by
    show (match ks[i]? with|some x=>fun c=>if c=crJ o x.1 then hiJ (levP o ks i c) x.1.z.2 else levP o ks i c|none=>levP o ks i)=_
    rw [hxi];dsimp only;rw [hcr]
    funext c'
    by_cases h:c'=c
    ·rw [if_pos h,if_pos h,h]
    ·rw [if_neg h,if_neg h]
   have hupd:=hm8.put (by unfold maxLen;omega) (k:=c) (by omega) (v:=zh) (by unfold Bd at hzb ⊢;omega);have Hm8:=hd9 hm8;have Hxr:=hd9 hxr;have Hst:=hd9 hst;obtain⟨f,hf⟩:∃x,levP o ks i c=x:=⟨_,rfl⟩;rw [hf]at hlk;have Hf:=hd9 hf;clear hm hm8 hst hxi hc hk3 hx hxr hf hbj
   cases f with
   | none =>
    simp only [Option.getD_none,Option.isSome_none]at hlk;obtain⟨w9,hrun9,hm9,hg9⟩:=hupd;have Hm9:=hd9 hm9;have Hg9:=hd9 hg9;clear hm9 hg9;go_wp2
    go_roundg (sn-(i+1))
    case measure=>have:=Hn.out;omega
    case rel =>
     refine⟨i+1,N+1,by rw [←Hn.out];omega,by go_num,by rw [Hn.out],zbh (Hxr.out.alloc _) Hg9.out (fun j hj=>by cases hj;have:=HB.out;omega),by omega,?_⟩;rw [Hst.out,Hf.out];exact Hm9.out
   | some v =>
    simp only [Option.getD_some,Option.isSome_some]at hlk
    by_cases hv:v<zh
    ·obtain⟨w9,hrun9,hm9,hg9⟩:=hupd
     have Hm9:=hd9 hm9;have Hg9:=hd9 hg9;clear hm9 hg9;go_wp2
     go_roundg (sn-(i+1))
     case measure=>have:=Hn.out;omega
     case rel =>
      refine⟨i+1,N+1,by rw [←Hn.out];omega,by go_num,by rw [Hn.out],zbh (Hxr.out.alloc _) Hg9.out (fun j hj=>by cases hj;have:=HB.out;omega),by omega,?_⟩;rw [Hst.out,Hf.out];have e:hiJ (I v) zh=I zh:=if_pos (by omega);rw [e];exact Hm9.out
    ·clear hupd
     go_wp2
     go_roundg (sn-(i+1))
     case measure=>have:=Hn.out;omega
     case rel =>
      refine⟨i+1,N,by rw [←Hn.out];omega,by go_num,by rw [Hn.out],Hxr.out.alloc _,by omega,?_⟩;rw [Hst.out];have e:hiJ (levP o ks i c) zh=levP o ks i c:=by rw [Hf.out];exact if_neg (by omega)
      have e2:(fun c'=>if c'=c then hiJ (levP o ks i c) zh else levP o ks i c')=levP o ks i:=by
       funext c'
       by_cases h:c'=c
       ·rw [if_pos h,e,h]
       ·rw [if_neg h]
      rw [e2];exact Hm8.out
  ·obtain rfl:sn=i:=by omega
   rw [Hn.out]at hm;have Hb0:=hd9 (show UnB w w3 B N o level ks sn (M J 0 0) (O Y 0) wr from⟨0,Nat.zero_le _,rfl,by rw [Hn.out];rfl,hxr,hm,OwnC.nil _ _ _ _⟩);have hBn:N≤120:=by omega
   have d9:=hxr.cellS c9;have d6:=hxr.cellS c6;clear hm hN hx hxr;go_wp2
   go_loopg [10,57] sn (UnB w w3 B N o level ks)
   case atStart=>exact Hb0.out
   case round =>
    clear Hb0 d9 d6;obtain⟨i,hi,rfl,rfl,hxr,hm,hown⟩:=hrel;rw [←Hn.out]at hi;have hx:=Hx3.out.trans hxr;have hwr:=hxr.size;rw [HB.out]at hwr;obtain⟨va,vn,vc,rfl⟩:=hown.form3;have Hown:=hd9 hown;have d9:=hxr.cellS c9;have d6:=hxr.cellS c6
    by_cases hlt:i<sn
    ·skip
     obtain⟨x,hxi⟩:∃x,ks[i]?=I x:=⟨ks[i]'(by rw [←Hn.out];exact hlt),List.getElem?_eq_getElem _⟩;have hbj:=Hkb.out x (lM hxi);obtain⟨⟨p,kk,⟨xl,xh⟩,⟨zl,zh⟩⟩,vx⟩:=x;obtain⟨sa1,sn1,sc1,rfl⟩:∃a n c,vx=M a n c:=Hkv.out _ (lM hxi);obtain⟨b9,o9,rfl,hb9,hc⟩:=(Hjs.out.ext' hx).at' hxi;have xc0:=hc 0 (.string p.name) rfl;have xc1:=hc 1 (M sa1 sn1 sc1) rfl;have xc2:=hc 2 (O Y p.depth) rfl;have xc3:=hc 3 (O Y p.density) rfl;have xc4:=hc 4 (O Y p.gx) rfl;have xc5:=hc 5 (O Y p.gz) rfl;have xc6:=hc 6 (O Y p.way) rfl;have xc7:=hc 7 (O Y p.ax) rfl;have xc8:=hc 8 (O Y p.az) rfl;have xc9:=hc 9 (O H p.skin) rfl;have xc10:=hc 10 (O Y kk) rfl;have xc11:=hc 11 (O Y xl) rfl;have xc12:=hc 12 (O Y xh) rfl;have xc13:=hc 13 (O Y zl) rfl;have xc14:=hc 14 (O Y zh) rfl;simp only [Nat.add_zero]at xc0;obtain⟨k,c,hk1,hk2,hk3,hc120,hcr⟩:=Hkc.out _ (lM hxi);dsimp only at hk1;subst hk1;have hzb:=hbj.2.2.2.1;dsimp only at hzb;obtain⟨b7,o7,rfl,hb7,c7⟩:=(Hvc.out.ext' hxr).at' hk3;have p1:(0:Int)≤(k:Int):=by omega
     have p2:(k:Int)<(cn:Int):=by omega
     have hlt2:(i:Int)<(sn:Int):=by omega
     obtain⟨lv,hlv⟩:∃x,((levP o ks ks.length) c).getD 0=x:=⟨_,rfl⟩
     have hlb:Bd 104000 lv:=by
      rw [←hlv]
      cases hf:levP o ks ks.length c with
      | none=>unfold Bd;simp
      | some v=>exact zfn Hkb.out _ _ _ hf
     unfold Bd at hlb hzb;have q1:IntKind.i64.wrap (lv-zh)=lv-zh:=IntWalk.i64_in _ ⟨by omega,by omega⟩;have q2:wrap64 (lv-zh)=lv-zh:=IntWalk.wrap64_in _ ⟨by omega,by omega⟩
     have hst:unP o (levP o ks ks.length) level ks (i+1)=unP o (levP o ks ks.length) level ks i++(if level<lv-zh then [⟨4,-1,k,lv-zh⟩]else []):=by
      show _++_=_
      rw [hxi]
      show _++unJ _ _ _ _=_
      unfold unJ;rw [hcr,hlv]
     have Hst:=hd9 hst;have hlen9:(unP o (levP o ks ks.length) level ks i).length≤120:=Nat.le_trans (zfj _ _ _ _ _) (by omega);have Hlen9:=hd9 hlen9;have Hxr:=hd9 hxr;have Hm:=hd9 hm;have HLk:=hd9 (fun(W:X) (hW:Ext wr W)=>(hm.ext hW).look1 (k:=c) (by omega));rw [hlv]at HLk;clear hst hxi hc hk3 hown hm hlen9 hbj hlv hx hxr
     go_upto_region 15 with fail
     obtain⟨w8,hw8⟩:∃W,wr.alloc (.cells #[.string p.name,M sa1 sn1 sc1,O Y p.depth,O Y p.density,O Y p.gx,O Y p.gz,O Y p.way,O Y p.ax,O Y p.az,O H p.skin,O Y k,O Y xl,O Y xh,O Y zl,O Y zh] 127)=W:=⟨_,rfl⟩;have hE8:Ext wr w8:=by rw [←hw8];exact(Ext.refl _).alloc _
     have hK8:w8.heap[wr.heap.size]?=I (.cells #[.string p.name,M sa1 sn1 sc1,O Y p.depth,O Y p.density,O Y p.gx,O Y p.gz,O Y p.way,O Y p.ax,O Y p.az,O H p.skin,O Y k,O Y xl,O Y xh,O Y zl,O Y zh] 127 (0,0)):=by rw [←hw8];exact heap_alloc_new _ _
     rw [hw8];obtain⟨b8,hb8⟩:∃x,wr.heap.size=x:=⟨_,rfl⟩;have Hb8:=hd9 hb8;rw [hb8]at hK8;simp only [hb8];have y10:=qcB hK8 (i:=10) (u:=O Y k) rfl;have y14:=qcB hK8 (i:=14) (u:=O Y zh) rfl;have c7:=hE8.cellS c7;have d6:=hE8.cellS d6;have HE8:=hd9 hE8;have hlk8:=HLk.out w8.drew hE8.drew;clear hK8 hw8 hE8 xc0 xc1 xc2 xc3 xc4 xc5 xc6 xc7 xc8 xc9 xc10 xc11 xc12 xc13 xc14 d9 hb8;refine wp_region_held_drew (S:=fun W=>CellL [(⟨b8,10,J⟩,O Y k),(⟨b8,14,J⟩,O Y zh),(⟨b7,o7+k,J⟩,O Y c)] W∧(Instr.lookup 160 (.map (I B)) (O Y (c:Int)) false).run Tryz.prog W = .ok (O Y lv) W) (by kernel_rfl) (by refine⟨⟨?_,?_,?_,trivial⟩,hlk8⟩<;>go_simp) (fun hHeld=>?_);refine tk1 (i:=0) ?_;refine tk1 (i:=1) ?_;refine tk1 (i:=2) ?_;refine tk1 (i:=3) ?_;refine tk1 (i:=4) ?_;refine tk1 (i:=5) ?_;refine tk1 (i:=6) ?_;refine tk1 (i:=7) ?_;refine tk1 (i:=8) ?_;refine tk1 (i:=9) ?_;refine tk1 (i:=10) ?_;refine tk1 (i:=11) ?_;refine wpAnyH_done (by kernel_rfl) ?_ _;obtain⟨w9,hw9⟩:∃W,w8.drew=W:=⟨_,rfl⟩;have hE9:Ext w8 w9:=by rw [←hw9];exact(Ext.refl _).drew
     rw [hw9];have y10:=hE9.cellS y10;have d6:=hE9.cellS d6;have HE9:=hd9 (HE8.out.trans hE9);have z9:=HE9.out.size;clear hw9 hE9 hHeld hlk8 c7 y14
     by_cases hr:level<lv-zh
     ·go_wp2_with(at_builtin;refine appC (T:=73) (t:=63) (z:=E #[O H 0,O Y 0,O Y 0,O Y 0]) (k:=4) (bytes:=32) (base:=B+1) (v:=M va vn vc) (cs:=(unP o (levP o ks ks.length) level ks i).map fdc) (m:=1) (c:=1) (ad:=⟨w9.heap.size,0,J⟩) zcd rfl (by decide) (by decide) Tryz.underlying63 rfl _ _ rfl rfl (Hown.out.ext (HE9.out.alloc _)) rfl [fdc ⟨4,-1,k,lv-zh⟩] rfl (by simp [fdc]) (by have h9:=zaC w9 (fdc ⟨4,-1,k,lv-zh⟩).toArray 73;simpa only [wZ,fdc] using h9) (by simp [fdc,Value.oneCell']) (by have:=Hlen9.out;rw [lL];omega) (by simp only [wZ];omega) ?_;intro v' w6 hown6 hgrow hlie)
      go_roundg (sn-(i+1))
      case measure=>have:=Hn.out;omega
      case rel =>
       refine⟨i+1,by rw [←Hn.out];omega,by go_num,by rw [Hn.out],zbh (Hxr.out.trans (HE9.out.alloc _)) hgrow (fun j hj=>by have h1:=(Hown.out.lt j hj).1;have:=HB.out;omega),?_,?_⟩
       ·refine(Hm.out.ext (HE9.out.alloc _)).kept hgrow (fun e=>?_)
        have h1:=(Hown.out.lt B e.symm).1;omega
       ·rw [Hst.out,if_pos (by omega),List.map_append]
        exact hown6
     ·go_wp2
      go_roundg (sn-(i+1))
      case measure=>have:=Hn.out;omega
      case rel =>
       refine⟨i+1,by rw [←Hn.out];omega,by go_num,by rw [Hn.out],Hxr.out.trans HE9.out,Hm.out.ext HE9.out,?_⟩;rw [Hst.out,if_neg (by omega),List.append_nil];exact Hown.out.ext HE9.out
    ·obtain rfl:sn=i:=by omega
     rw [Hn.out]at hown;have Hown:=hd9 hown;have Hx:=hd9 hx;clear hown;go_wp2;rw [←HR.out];exact⟨_,o,rfl,Ho.out,Hown.out.mono (by have:=Hx3.out.size;have:=HB.out;omega),Hx.out⟩
end Go.Proofs.YteipgejmhfpkaaaGreatDoor.Cop
namespace Go.Proofs.YteipgejmhfpkaaaGreatDoor.Cop
open Go.RowKit Go.Shelf Go.Sort Go.Lib Go.Maps
structure SvB (ks:List (JS×Z)) (L:List Jt) (rs:List Int):Prop where
 jts:∀j∈L,BJt j
 stones:∀x∈ks,BJS x.1
 few:ks.length≤120
 len:L.length≤14400
 rlen:rs.length=L.length
 rbd:∀z∈rs,Bd 1000000 z
theorem zfF {p:Pl} (h:placedOk p=true):Bd 10000 p.depth:=by
 unfold placedOk stoneB at h;simp only [Bool.and_eq_true]at h;have h1:=h.1.1.1.2;unfold wthn at h1;simp at h1;unfold Bd;omega
theorem zeh {α β:Type} (f:α→List β) (m:Nat):∀(l:List α),(∀x∈l,(f x).length≤m)→(l.flatMap f).length≤l.length*m
 | [],_=>by simp
 | x::l,h=>by
  have h1:=zeh f m l (fun y hy=>h y (List.mem_cons_of_mem _ hy));have h2:=h x (by simp);rw [List.flatMap_cons,List.length_append,List.length_cons,Nat.succ_mul];omega
theorem zbH {r:Ru} {ps:List Pl} {j:JS} (h:j∈skinP r ps):j∈jsP ps:=(List.mem_filter.1 h).1
theorem znm {r:Ru} {ps:List Pl} {ks:List (JS×Z)} {L:List Jt} {rs:List Int} (hok:∀p∈ps,placedOk p=true) (hn:ps.length≤120) (h:SvP r ps ks L rs):SvB ks L rs:=by
 have hsl:(skinP r ps).length≤120:=by
  have h8:(skinP r ps).length≤(jsP ps).length:=List.length_filter_le _ _;rw [zcf]at h8;omega
 have hkl:ks.length≤120:=by
  have h9:=congrArg List.length h.skin;rw [lL]at h9;omega
 have hj:∀j∈L,BJt j:=by
  intro j hj;have h1:=h.perm.mem_iff.1 hj;unfold rawP at h1;obtain⟨a,ha,h2⟩:=List.mem_flatMap.1 h1;unfold rowP at h2;obtain⟨b,hb,rfl⟩:=List.mem_map.1 h2;exact zi4 hok hn (zbH ha) (zbH (List.mem_filter.1 hb).1)
 refine⟨hj,fun x hx=>?_,hkl,?_,by rw [h.roots,zam],by rw [h.roots];exact zed hj _⟩
 ·have h1:x.1∈skinP r ps:=h.skin▸List.mem_map_of_mem hx
  have h2:=zbH h1;have h3:=zfU hok h2;obtain⟨k,e,hk⟩:=zcn h.skin hx;obtain⟨p,hp,i,e2⟩:=ziV h2;exact⟨h3.1.1,h3.1.2,h3.2.1,h3.2.2,by rw [e2];exact zfF (hok p hp),k,e,by omega⟩
 ·rw [h.perm.length_eq]
  unfold rawP;refine Nat.le_trans (zeh _ 120 _ (fun a ha=>?_)) (by omega);unfold rowP;rw [lL];exact Nat.le_trans (List.length_filter_le _ _) hsl
theorem ziC {w:X} {sb:Nat} {vg vp vs vj vr:Z} {g:List (Int×Int)} {ps:List Pl} {r:Ru} {ks:List (JS×Z)} {L:List Jt} {rs:List Int} (hg:IsPts w vg g) (hp:IsPls w vp ps) (hgw:Gw w) (h0:byE g ps r=0) (hl0:laidP g ps=0)
  (sv:Sv w sb r vg vp vs vj vr ks L rs) (svp:SvP r ps ks L rs) (W:X) (hW:Ext w W) :
  Calls Tryz.prog 29 #[V (I ⟨sb,0,J⟩)] W fun e w'=>∃v o,e = .returned v∧IsIs w' v o∧CoI ps.length (fM ks (bsP g ps r.pin) ks.length) (keysJ ks) o []∧Ext W w':=by
 obtain⟨hok,hn,hgr⟩:=za9 hl0
 exact zd0 W sb r vg vp vs vj vr ks L rs ps.length (bsP g ps r.pin) (sv.ext hW) (form3 hg) (hp.form) hn (znm hok hn svp).few
   (fun j hj=>form3 (sv.pts j hj)) (fun x hx=>zcn svp.skin hx) (fun k=>(zgW hn k).1) (fun k=>(zgW hn k).2)
   (fun W' hW' k hk=>by
    obtain⟨x,hx,hxk⟩:=hk;obtain⟨k',h1,h2⟩:=zcn svp.skin hx;have hkk:k=k':=by omega
    subst hkk;have hpk:ps[k]?=I (ps[k]'h2):=List.getElem?_eq_getElem h2;have hbs:bsP g ps r.pin k=bedsN g ps k (ps[k]'h2) r.pin (ps.length+1):=by unfold bsP;rw [hpk]
    rw [hbs];exact zkq W' vg vp g ps k (ps[k]'h2) r.pin (hg.ext' (hW.trans hW')) (hp.ext' (hW.trans hW')) (hgw.ext (hW.trans hW')) hl0 hpk (zfg h0).1 (zfg h0).2 hgr hok hn)
   (zc8 svp.skin) (zbY hl0 svp.skin r.pin).choose (zbY hl0 svp.skin r.pin).choose_spec
def catP (F0 F1 F2 F3:List Fd):Nat→List Fd
 | 0=>[]
 | 1=>F0
 | 2=>F0++F1
 | 3=>F0++F1++F2
 | _=>F0++F1++F2++F3
def lit4:Nat→Int
 | 0=>0
 | 1=>1
 | 2=>2
 | 3=>3
 | _=>4
def SurS (w3:X) (F0 F1 F2:List Fd) (C:List Fd→Prop) (gk:Nat) (t8 t29:Z) (W:X):Prop:=
 ∃(i:Nat) (F3:List Fd),i≤4∧t29=O Y (lit4 i)∧gk=4-i∧Ext w3 W∧OwnC 73 4 W w3.heap.size t8 ((catP F0 F1 F2 F3 i).map fdc)∧(i=4→C F3)
theorem zfd {l:List Fd}:∀c∈l.map fdc,c.length=4:=by
 intro c hc;obtain⟨f,_,rfl⟩:=List.mem_map.1 hc;rfl
theorem ze2 {l:List Fd}:∀u∈(l.map fdc).flatten,u.oneCell'=true:=by
 intro u hu;obtain⟨c,hc,h⟩:=List.mem_flatten.1 hu;obtain⟨f,_,rfl⟩:=List.mem_map.1 hc;simp [fdc]at h
 rcases h with rfl|rfl|rfl|rfl<;>rfl
def RetSuY (w:X) (g:List (Int×Int)) (ps:List Pl) (r:Ru) (e:Ending) (w':X):Prop:=
 ∃v ks L rs o,e = .returned (Q #[v,O Y 0])∧SvP r ps ks L rs∧SvB ks L rs∧CoI ps.length (fM ks (bsP g ps r.pin) ks.length) (keysJ ks) o [] ∧
  IsFds w' v (runP L rs r.run L.length++shP r ks L L.length++trP ks ks.length++unP o (levP o ks ks.length) r.level ks ks.length)∧Ext w w'
theorem zhW (w:X) (vg vp:Z) (g:List (Int×Int)) (ps:List Pl) (r:Ru) (hg:IsPts w vg g) (hp:IsPls w vp ps) (hgw:Gw w) (h0:byE g ps r=0) :
  Calls Tryz.prog 13 #[E #[vg,vp],E (ruc r)] w (RetSuY w g ps r):=by
 have HB:=hd9 (fun W (hW:Ext w W)=>(zeE W vg vp g ps r (hg.ext' hW) (hp.ext' hW) (hgw.ext hW)).mono (fun e w' h=>h.resolve_left (fun h9=>h9.1 h0)))
 have hl0:laidP g ps=0:=by
  unfold byE at h0
  by_cases h:laidP g ps=0
  ·exact h
  ·rw [if_neg h]at h0;exact absurd h0 h
 have Hsv:=hd9 (fun(W:X) (hW:Ext w W) (sb:Nat) (vs vj vr:Z) (ks:List (JS×Z)) (L:List Jt) (rs:List Int) (sv:Sv W sb r vg vp vs vj vr ks L rs) (svp:SvP r ps ks L rs)=>ziC (hg.ext' hW) (hp.ext' hW) (hgw.ext hW) h0 hl0 sv svp);have Hbd:=hd9 (fun(ks:List (JS×Z)) (L:List Jt) (rs:List Int) (svp:SvP r ps ks L rs)=>znm (za9 hl0).1 (za9 hl0).2.1 svp);have Hps:=hd9 (za9 hl0).2.1;obtain⟨ga,gn,gc,rfl⟩:=form3 hg;obtain⟨pa,pn,pc1,rfl⟩:=form3 hp;obtain⟨R,hR⟩:∃R,RetSuY w g ps r=R:=⟨_,rfl⟩;rw [hR];have HR:=hd9 hR;have hmf:∀(fn:Fn) (first cap:Array Z) (w:X),(Instr.makeFunc fn first cap).run Tryz.prog w = .ok (.func fn first cap) w:=fun _ _ _ _=>rfl
 clear hg hp hgw hR h0 hl0;obtain⟨sk,pin,wide,lap,step,run,level⟩:=r;obtain⟨ru,hru⟩:∃x:Ru,(⟨sk,pin,wide,lap,step,run,level⟩:Ru)=x:=⟨_,rfl⟩;have Hru:=hd9 hru;unfold ruc at HB ⊢;dsimp only at HB;rw [hru]at HB Hsv Hbd HR;clear hru;go_enter Tryz.func13,Tryz.ntmps13
 go_wp2_with(go_at_call 28;(with_reducible refine(HB.out _ ?_).mono ?_);exact eA;rintro e w3 ⟨_,sb,vs,vj,vr,ks,L,rs,rfl,sv,svp,hx3⟩;have X3:Ext w w3:=eA)
 have hb:=Hbd.out ks L rs svp;have HX3:=hd9 X3;have Hb:=hd9 hb;have Hsvp:=hd9 svp;have H0:=hd9 (fun(W:X) (hW:Ext w3 W)=>zgf W sb ru _ _ vs vj vr ks L rs (sv.ext hW) hb.rlen hb.jts hb.rbd (by have:=hb.len;omega));have H1:=hd9 (fun(W:X) (hW:Ext w3 W)=>zkw W sb ru _ _ vs vj vr ks L rs (sv.ext hW) hb.jts hb.stones (fun j hj=>form3 (sv.pts j hj)) hb.few (by have:=hb.len;omega));have H2:=hd9 (fun(W:X) (hW:Ext w3 W)=>zhE W sb ru _ _ vs vj vr ks L rs (sv.ext hW) hb.stones (fun j hj=>form3 (sv.pts j hj)) hb.few)
 have H3:=hd9 (fun(W:X) (hW:Ext w3 W)=>zh1 W sb ps.length ru _ _ vs vj vr ks L rs (fun o=>CoI ps.length (fM ks (bsP g ps ru.pin) ks.length) (keysJ ks) o []) (sv.ext hW) hb.stones (fun j hj=>form3 (sv.pts j hj)) hb.few
  (fun x hx=>zcn svp.skin hx) (fun o ho=>⟨ho.len,fun v hv=>by have:=ho.bd v hv;have h2:=hb.few;unfold keysJ at this;rw [lL]at this;simp at this;omega⟩) (fun W' hW'=>Hsv.out w3 X3 sb vs vj vr ks L rs sv svp W' (hW.trans hW')))
 clear hb sv svp hx3 X3 HB Hsv Hbd;have b0:(runP L rs ru.run L.length).length≤14400:=Nat.le_trans (zdr _ _ _ _) Hb.out.len;have b1:(shP ru ks L L.length).length≤14400*120:=Nat.le_trans (zfc _ _ _ _) (Nat.mul_le_mul Hb.out.len Hb.out.few);have b2:(trP ks ks.length).length≤120:=Nat.le_trans (zeU _ _) Hb.out.few;have HC:=hd9 (fun(G:List Fd) (h:∃o,CoI ps.length (fM ks (bsP g ps ru.pin) ks.length) (keysJ ks) o []∧G=unP o (levP o ks ks.length) ru.level ks ks.length)=>h);obtain⟨C,hC⟩:∃C:List Fd→Prop,(fun G=>∃o,CoI ps.length (fM ks (bsP g ps ru.pin) ks.length) (keysJ ks) o []∧G=unP o (levP o ks ks.length) ru.level ks ks.length)=C:=⟨_,rfl⟩;have HC:=hd9 hC
 have H3:=hd9 (fun(W:X) (hW:Ext w3 W)=>(H3.out W hW).mono (fun e w' (h:∃v o,e = .returned v∧_∧_∧_)=>show ∃v G,e = .returned v∧C G∧G.length≤120∧OwnC 73 4 w' W.heap.size v (G.map fdc)∧Ext W w' by
  obtain⟨v,o,he,ho,hw,hx⟩:=h;exact⟨v,_,he,by rw [←hC];exact⟨o,ho,rfl⟩,Nat.le_trans (zfj _ _ _ _ _) Hb.out.few,hw,hx⟩))
 obtain⟨F0,hF0⟩:∃x,runP L rs ru.run L.length=x:=⟨_,rfl⟩;obtain⟨F1,hF1⟩:∃x,shP ru ks L L.length=x:=⟨_,rfl⟩;obtain⟨F2,hF2⟩:∃x,trP ks ks.length=x:=⟨_,rfl⟩;rw [hF0]at H0 b0;rw [hF1]at H1 b1;rw [hF2]at H2 b2;have HF:=hd9 (And.intro hF0 (And.intro hF1 hF2));clear hC hF0 hF1 hF2;have ix0:∀w,(Instr.index 109 (E #[.func (.func 33) #[V (I ⟨sb,0,J⟩)] #[],.func (.func 34) #[V (I ⟨sb,0,J⟩)] #[],.func (.func 35) #[V (I ⟨sb,0,J⟩)] #[],.func (.func 36) #[V (I ⟨sb,0,J⟩)] #[]]) (O Y 0)).run Tryz.prog w = .ok (.func (.func 33) #[V (I ⟨sb,0,J⟩)] #[]) w:=fun _=>by kernel_rfl
 have ix1:∀w,(Instr.index 109 (E #[.func (.func 33) #[V (I ⟨sb,0,J⟩)] #[],.func (.func 34) #[V (I ⟨sb,0,J⟩)] #[],.func (.func 35) #[V (I ⟨sb,0,J⟩)] #[],.func (.func 36) #[V (I ⟨sb,0,J⟩)] #[]]) (O Y 1)).run Tryz.prog w = .ok (.func (.func 34) #[V (I ⟨sb,0,J⟩)] #[]) w:=fun _=>by kernel_rfl
 have ix2:∀w,(Instr.index 109 (E #[.func (.func 33) #[V (I ⟨sb,0,J⟩)] #[],.func (.func 34) #[V (I ⟨sb,0,J⟩)] #[],.func (.func 35) #[V (I ⟨sb,0,J⟩)] #[],.func (.func 36) #[V (I ⟨sb,0,J⟩)] #[]]) (O Y 2)).run Tryz.prog w = .ok (.func (.func 35) #[V (I ⟨sb,0,J⟩)] #[]) w:=fun _=>by kernel_rfl
 have ix3:∀w,(Instr.index 109 (E #[.func (.func 33) #[V (I ⟨sb,0,J⟩)] #[],.func (.func 34) #[V (I ⟨sb,0,J⟩)] #[],.func (.func 35) #[V (I ⟨sb,0,J⟩)] #[],.func (.func 36) #[V (I ⟨sb,0,J⟩)] #[]]) (O Y 3)).run Tryz.prog w = .ok (.func (.func 36) #[V (I ⟨sb,0,J⟩)] #[]) w:=fun _=>by kernel_rfl
 go_loopg [8,29] 4 (SurS w3 F0 F1 F2 C)
 case atStart=>exact⟨0,[],by omega,rfl,rfl,Ext.refl _,OwnC.nil _ _ _ _,fun h=>absurd h (by omega)⟩
 case round =>
  obtain⟨i,F3,hi,rfl,rfl,hx,hown,hc⟩:=hrel;obtain⟨va,vn,vc,rfl⟩:=hown.form3;have hwr:=hx.size;have Hown:=hd9 hown
  by_cases hlt:i<4
  ·clear hown hc
   rcases(show i=0∨i=1∨i=2∨i=3 by omega)with rfl|rfl|rfl|rfl
   ·simp only [lit4]
    go_wp2_with(first|(go_at_call 33;(with_reducible refine(H0.out _ hx).mono ?_);rintro e w5 ⟨v5,rfl,ho5,hx5⟩;obtain⟨a5,n5,c5,rfl⟩:=ho5.form3;have z5:=hx5.size)|(at_builtin;refine appS (T:=73) (t:=63) (z:=E #[O H 0,O Y 0,O Y 0,O Y 0]) (k:=4) (bytes:=32) (base:=w3.heap.size) (v:=M va vn vc) (cs:=(catP F0 F1 F2 F3 0).map fdc) zcd rfl (by decide) (by decide) Tryz.underlying63 rfl _ _ rfl rfl (Hown.out.ext hx5) rfl (F0.map fdc) zfd ho5.rd ze2 (by unfold catP;simp only [lL,List.length_append,List.length_nil];omega) (by omega) ?_;intro v' w6 hown6 hgrow hlie))
    go_roundg (4-(0+1))
    case measure=>omega
    case rel =>
     refine⟨1,F3,by omega,rfl,rfl,zbh (hx.trans hx5) hgrow (fun j hj=>(Hown.out.lt j hj).1),?_,fun h=>absurd h (by omega)⟩;rw [←List.map_append]at hown6;exact hown6
   ·simp only [lit4]
    go_wp2_with(first|(go_at_call 34;(with_reducible refine(H1.out _ hx).mono ?_);rintro e w5 ⟨v5,rfl,ho5,hx5⟩;obtain⟨a5,n5,c5,rfl⟩:=ho5.form3;have z5:=hx5.size)|(at_builtin;refine appS (T:=73) (t:=63) (z:=E #[O H 0,O Y 0,O Y 0,O Y 0]) (k:=4) (bytes:=32) (base:=w3.heap.size) (v:=M va vn vc) (cs:=(catP F0 F1 F2 F3 1).map fdc) zcd rfl (by decide) (by decide) Tryz.underlying63 rfl _ _ rfl rfl (Hown.out.ext hx5) rfl (F1.map fdc) zfd ho5.rd ze2 (by unfold catP;simp only [lL,List.length_append,List.length_nil];omega) (by omega) ?_;intro v' w6 hown6 hgrow hlie))
    go_roundg (4-(1+1))
    case measure=>omega
    case rel =>
     refine⟨2,F3,by omega,rfl,rfl,zbh (hx.trans hx5) hgrow (fun j hj=>(Hown.out.lt j hj).1),?_,fun h=>absurd h (by omega)⟩;rw [←List.map_append]at hown6;exact hown6
   ·simp only [lit4]
    go_wp2_with(first|(go_at_call 35;(with_reducible refine(H2.out _ hx).mono ?_);rintro e w5 ⟨v5,rfl,ho5,hx5⟩;obtain⟨a5,n5,c5,rfl⟩:=ho5.form3;have z5:=hx5.size)|(at_builtin;refine appS (T:=73) (t:=63) (z:=E #[O H 0,O Y 0,O Y 0,O Y 0]) (k:=4) (bytes:=32) (base:=w3.heap.size) (v:=M va vn vc) (cs:=(catP F0 F1 F2 F3 2).map fdc) zcd rfl (by decide) (by decide) Tryz.underlying63 rfl _ _ rfl rfl (Hown.out.ext hx5) rfl (F2.map fdc) zfd ho5.rd ze2 (by unfold catP;simp only [lL,List.length_append,List.length_nil];omega) (by omega) ?_;intro v' w6 hown6 hgrow hlie))
    go_roundg (4-(2+1))
    case measure=>omega
    case rel =>
     refine⟨3,F3,by omega,rfl,rfl,zbh (hx.trans hx5) hgrow (fun j hj=>(Hown.out.lt j hj).1),?_,fun h=>absurd h (by omega)⟩;rw [←List.map_append]at hown6;exact hown6
   ·simp only [lit4]
    go_wp2_with(first|(go_at_call 36;(with_reducible refine(H3.out _ hx).mono ?_);rintro e w5 ⟨v5,G3,rfl,hC5,hG5,ho5,hx5⟩;obtain⟨a5,n5,c5,rfl⟩:=ho5.form3;have z5:=hx5.size)|(at_builtin;refine appS (T:=73) (t:=63) (z:=E #[O H 0,O Y 0,O Y 0,O Y 0]) (k:=4) (bytes:=32) (base:=w3.heap.size) (v:=M va vn vc) (cs:=(catP F0 F1 F2 F3 3).map fdc) zcd rfl (by decide) (by decide) Tryz.underlying63 rfl _ _ rfl rfl (Hown.out.ext hx5) rfl (G3.map fdc) zfd ho5.rd ze2 (by unfold catP;simp only [lL,List.length_append,List.length_nil];omega) (by omega) ?_;intro v' w6 hown6 hgrow hlie))
    go_roundg (4-(3+1))
    case measure=>omega
    case rel =>
     refine⟨4,G3,by omega,rfl,rfl,zbh (hx.trans hx5) hgrow (fun j hj=>(Hown.out.lt j hj).1),?_,fun _=>hC5⟩;rw [←List.map_append]at hown6;exact hown6
  ·obtain rfl:i=4:=by omega
   have hC4:=hc rfl;rw [←HC.out]at hC4;obtain⟨o,ho,rfl⟩:=hC4;have Hx:=hd9 hx;have Ho:=hd9 ho;clear hown hc hx ho;simp only [lit4];go_wp2;rw [←HR.out];obtain⟨e0,e1,e2⟩:=HF.out;refine⟨_,ks,L,rs,o,rfl,Hsvp.out,Hb.out,Ho.out,?_,HX3.out.trans Hx.out⟩;rw [e0,e1,e2];exact Hown.out.fds
theorem zkz (w:X) (vg vp:Z) (g:List (Int×Int)) (ps:List Pl) (r:Ru) (hg:IsPts w vg g) (hp:IsPls w vp ps) (hgw:Gw w) (h0:byE g ps r≠0) :
  Calls Tryz.prog 13 #[E #[vg,vp],E (ruc r)] w fun e w'=>e = .returned (Q #[M J 0 0,O Y (byE g ps r)])∧Ext w w':=by
 have HB:=hd9 (fun W (hW:Ext w W)=>(zeE W vg vp g ps r (hg.ext' hW) (hp.ext' hW) (hgw.ext hW)).mono (fun e w' h=>h.resolve_right (fun h9=>h0 h9.1)));obtain⟨ga,gn,gc,rfl⟩:=form3 hg;obtain⟨pa,pn,pc1,rfl⟩:=form3 hp;obtain⟨k,hk⟩:∃k,byE g ps r=k:=⟨_,rfl⟩;rw [hk]at HB h0 ⊢;have u0:(k != 0)=true:=by simpa using h0
 obtain⟨R,hR⟩:∃R:Ending→X→Prop,(fun e w'=>e = .returned (Q #[M J 0 0,O Y k])∧Ext w w')=R:=⟨_,rfl⟩;rw [hR];have HR:=hd9 hR;clear hR;clear hg hp hgw hk h0;obtain⟨sk,pin,wide,lap,step,run,level⟩:=r;unfold ruc at HB ⊢;dsimp only at HB;go_enter Tryz.func13,Tryz.ntmps13
 go_wp2_with(go_at_call 28;(with_reducible refine(HB.out _ ?_).mono ?_);exact eA;rintro e w3 ⟨_,rfl,hx3⟩)
 rw [←HR.out];exact⟨rfl,eA⟩
end Go.Proofs.YteipgejmhfpkaaaGreatDoor.Cop
namespace Go.Proofs.YteipgejmhfpkaaaGreatDoor.Cop
open Go.RowKit Go.Shelf Go.Sort Go.Lib
section
variable {g:List (Int×Int)} {ps:List Pl} {r:Ru} {ks:List (JS×Z)} {o:List Int} (hs:ks.map Prod.fst=skinP r ps) (hI:CoI ps.length (fM ks (bsP g ps r.pin) ks.length) (keysJ ks) o [])
include hs hI
omit hs in
omit hs in
end
end Go.Proofs.YteipgejmhfpkaaaGreatDoor.Cop
namespace Go.Proofs.YteipgejmhfpkaaaGreatDoor.Cop
open Go.RowKit Go.Shelf Go.Sort Go.Lib Go.Maps
theorem zmb {ps:List Pl} {a b:JS} (ha:a∈jsP ps) (hb:b∈jsP ps) (h:a.k=b.k):a=b:=by
 obtain⟨i,hi⟩:=List.getElem?_of_mem ha;obtain⟨j,hj⟩:=List.getElem?_of_mem hb;unfold jsP at hi hj;rw [List.getElem?_mapIdx]at hi hj
 cases hp:ps[i]? with
 | none=>rw [hp]at hi;cases hi
 | some p =>
  cases hq:ps[j]? with
  | none=>rw [hq]at hj;cases hj
  | some q =>
   rw [hp]at hi;rw [hq]at hj
   cases hi
   cases hj
   have e:i=j:=by unfold jsOf at h;dsimp only at h;omega
   subst e;rw [hp]at hq
   cases hq
   rfl
theorem zmQ {r:Ru} {ps:List Pl} {x y:Jt} (hx:x∈rawP r (skinP r ps)) (hy:y∈rawP r (skinP r ps)) (h1:¬cfT y x<0) (h2:¬cfT x y<0):x=y:=by
 unfold rawP rowP at hx hy;obtain⟨a,ha,h3⟩:=List.mem_flatMap.1 hx;obtain⟨b,hb,rfl⟩:=List.mem_map.1 h3;obtain⟨c,hc,h4⟩:=List.mem_flatMap.1 hy;obtain⟨d,hd,rfl⟩:=List.mem_map.1 h4;rw [zhj]at h1 h2;have e1:(jtOf a b).a=(jtOf c d).a:=by omega
 have e2:(jtOf a b).b=(jtOf c d).b:=by omega
 have e3:a=c:=zmb (zbH ha) (zbH hc) e1;have e4:b=d:=zmb (zbH (List.mem_filter.1 hb).1) (zbH (List.mem_filter.1 hd).1) e2;rw [e3,e4]
theorem znq {r r':Ru} {ps:List Pl} {ks ks':List (JS×Z)} {L L':List Jt} {rs rs':List Int} (h:SvP r ps ks L rs) (h':SvP r' ps ks' L' rs') (h1:r'.skin=r.skin) (h2:r'.wide=r.wide):L'=L∧ks'.map Prod.fst=ks.map Prod.fst:=by
 have e1:skinP r' ps=skinP r ps:=by
  unfold skinP
  congr 1
  funext j
  unfold inB;rw [h1]
 have e2:rawP r' (skinP r' ps)=rawP r (skinP r ps):=by
  rw [e1];unfold rawP
  congr 1
  funext a
  unfold rowP
  congr 1
  congr 1
  funext b
  unfold openB;rw [h2]
 refine⟨?_,by rw [h.skin,h'.skin,e1]⟩;have hp:L'.Perm L:=(h'.perm.trans (by rw [e2])).trans h.perm.symm;refine List.Perm.eq_of_pairwise (le:=fun a b=>¬cfT b a<0) (fun a b ha hb q1 q2=>?_) h'.ord h.ord hp;exact zmQ (h.perm.mem_iff.1 (hp.mem_iff.1 ha)) (h.perm.mem_iff.1 hb) q1 q2
theorem zn0 {n:Nat} {und:Nat→List Int} {K:List Nat} {o o':List Int} (h:CoI n und K o []) (h':CoI n und K o' []) (rk:Nat→Nat) (hrk:∀k∈K,∀z∈und k,0≤z∧z.toNat∈K∧rk z.toNat<rk k):o=o':=by
 have key:∀(m k:Nat),rk k≤m→k∈K→o.getD k 0=o'.getD k 0:=by
  intro m
  induction m with
  | zero =>
   intro k hm hk;rw [(h.done k hk (by simp)).1,(h'.done k hk (by simp)).1]
   congr 1
   exact zcq fun z hz=>by have:=(hrk k hk z hz).2.2;omega
  | succ m ih =>
   intro k hm hk;rw [(h.done k hk (by simp)).1,(h'.done k hk (by simp)).1]
   congr 1
   exact zcq fun z hz=>by
    obtain⟨_,q1,q2⟩:=hrk k hk z hz;exact ih _ (by omega) q1
 have hall:∀k,o.getD k 0=o'.getD k 0:=by
  intro k
  by_cases hk:k∈K
  ·exact key _ k (Nat.le_refl _) hk
  ·rw [h.off k hk,h'.off k hk]
 refine List.ext_getElem (by rw [h.len,h'.len]) fun i h1 h2=>?_
 have:=hall i;rw [List.getD_eq_getElem?_getD,List.getD_eq_getElem?_getD,List.getElem?_eq_getElem h1,List.getElem?_eq_getElem h2]at this;exact this
def kindN (kd:List Int) (f:Fd):Nat:=(kd.filter fun k=>f.kind==k).length
def cntF (kd:List Int):List Fd→Nat
 | []=>0
 | f::l=>kindN kd f+cntF kd l
theorem zbn (kd:List Int):∀(a b:List Fd),cntF kd (a++b)=cntF kd a+cntF kd b
 | [],b=>by simp [cntF]
 | f::a,b=>by
  rw [List.cons_append,cntF,cntF,zbn kd a b];omega
theorem zce {kd:List Int} {c:Int}:∀{l:List Fd},(∀f∈l,f.kind=c)→cntF kd l=l.length*(kd.filter fun k=>c==k).length
 | [],_=>by simp [cntF]
 | f::l,h=>by
  rw [cntF,zce (fun g hg=>h g (List.mem_cons_of_mem _ hg)),List.length_cons,Nat.succ_mul];unfold kindN;rw [h f (by simp)];omega
theorem zaO (L:List Jt) (rs:List Int) (run:Int):∀k,∀f∈runP L rs run k,f.kind=1
 | 0,f,h=>by simp [runP]at h
 | k+1,f,h=>by
  unfold runP at h
  rcases List.mem_append.1 h with h|h
  ·exact zaO L rs run k f h
  ·split at h
   ·rw [List.mem_singleton.1 h]
   ·simp at h
theorem zeK (r:Ru) (k:Nat) (j:Jt) (ks:List (JS×Z)):∀i,∀f∈shRow r k j ks i,f.kind=2
 | 0,f,h=>by simp [shRow]at h
 | i+1,f,h=>by
  unfold shRow at h
  rcases List.mem_append.1 h with h|h
  ·exact zeK r k j ks i f h
  ·split at h
   ·unfold shJ at h
    split at h
    ·simp at h
    ·split at h
     ·rw [List.mem_singleton.1 h]
     ·simp at h
   ·simp at h
theorem za7 (r:Ru) (ks:List (JS×Z)) (L:List Jt):∀i,∀f∈shP r ks L i,f.kind=2
 | 0,f,h=>by simp [shP]at h
 | i+1,f,h=>by
  unfold shP at h
  rcases List.mem_append.1 h with h|h
  ·exact za7 r ks L i f h
  ·split at h
   ·exact zeK _ _ _ _ _ f h
   ·simp at h
theorem zbe (ks:List (JS×Z)):∀i,∀f∈trP ks i,f.kind=3
 | 0,f,h=>by simp [trP]at h
 | i+1,f,h=>by
  unfold trP at h
  rcases List.mem_append.1 h with h|h
  ·exact zbe ks i f h
  ·split at h
   ·unfold trJ at h
    split at h
    ·rw [List.mem_singleton.1 h]
    ·simp at h
   ·simp at h
theorem zbc (o:List Int) (lev:Nat→Option Int) (level:Int) (ks:List (JS×Z)):∀i,∀f∈unP o lev level ks i,f.kind=4
 | 0,f,h=>by simp [unP]at h
 | i+1,f,h=>by
  unfold unP at h
  rcases List.mem_append.1 h with h|h
  ·exact zbc o lev level ks i f h
  ·split at h
   ·unfold unJ at h
    split at h
    ·rw [List.mem_singleton.1 h]
    ·simp at h
   ·simp at h
theorem zdY {L:List Jt} {rs rs':List Int} {run run':Int} (h:∀k,hgt L rs' k≤hgt L rs k) (hr:run≤run'):∀k,(runP L rs' run' k).length≤(runP L rs run k).length
 | 0=>Nat.le_refl _
 | k+1=>by
  have h1:=zdY h hr k;have h2:=h k;unfold runP;rw [List.length_append,List.length_append]
  by_cases q:run'<hgt L rs' k
  ·rw [if_pos q,if_pos (by omega)];simp;omega
  ·rw [if_neg q];simp;omega
theorem zkO {r r':Ru} {k:Nat} {j:Jt} {x:JS} (h1:r'.step=r.step) (h2:r'.lap≤r.lap):(shJ r' k j x).length≤(shJ r k j x).length:=by
 unfold shJ;have e:skipJ r' j x=skipJ r j x:=by unfold skipJ;rw [h1]
 rw [e]
 split
 ·exact Nat.le_refl _
 ·by_cases q:lapJ j x<r'.lap
  ·rw [if_pos q,if_pos (by omega)];simp
  ·rw [if_neg q];simp
theorem zeN {r r':Ru} {k:Nat} {j:Jt} {ks ks':List (JS×Z)} (hk:ks'.map Prod.fst=ks.map Prod.fst) (h1:r'.step=r.step) (h2:r'.lap≤r.lap):∀i,(shRow r' k j ks' i).length≤(shRow r k j ks i).length
 | 0=>Nat.le_refl _
 | i+1=>by
  have h3:=zeN (k:=k) (j:=j) hk h1 h2 i;have h4:(ks'[i]?).map Prod.fst=(ks[i]?).map Prod.fst:=by rw [←lP,←lP,hk]
  unfold shRow;rw [List.length_append,List.length_append]
  cases q:ks'[i]? with
  | none=>simp;omega
  | some x =>
   rw [q]at h4
   cases q2:ks[i]? with
   | none=>rw [q2]at h4;cases h4
   | some y =>
    rw [q2]at h4;have e:x.1=y.1:=by simpa using h4
    dsimp only;rw [e];have:=zkO (k:=k) (j:=j) (x:=y.1) h1 h2;omega
theorem zhb {r r':Ru} {ks ks':List (JS×Z)} {L:List Jt} (hk:ks'.map Prod.fst=ks.map Prod.fst) (h1:r'.step=r.step) (h2:r'.lap≤r.lap):∀i,(shP r' ks' L i).length≤(shP r ks L i).length
 | 0=>Nat.le_refl _
 | i+1=>by
  have h3:=zhb (L:=L) hk h1 h2 i;have hl:ks'.length=ks.length:=by have:=congrArg List.length hk;simpa using this
  unfold shP;rw [List.length_append,List.length_append]
  cases L[i]? with
  | none=>simp;omega
  | some j =>
   dsimp only;have:=zeN (k:=i) (j:=j) hk h1 h2 ks.length;rw [hl];omega
theorem zeX {ks ks':List (JS×Z)} (hk:ks'.map Prod.fst=ks.map Prod.fst):∀i,trP ks' i=trP ks i
 | 0=>rfl
 | i+1=>by
  have h4:(ks'[i]?).map Prod.fst=(ks[i]?).map Prod.fst:=by rw [←lP,←lP,hk]
  unfold trP;rw [zeX hk i]
  cases q:ks'[i]? with
  | none =>
   rw [q]at h4
   cases q2:ks[i]? with
   | none=>rfl
   | some y=>rw [q2]at h4;cases h4
  | some x =>
   rw [q]at h4
   cases q2:ks[i]? with
   | none=>rw [q2]at h4;cases h4
   | some y =>
    rw [q2]at h4;have e:x.1=y.1:=by simpa using h4
    dsimp only;rw [e]
theorem zef {o:List Int} {ks ks':List (JS×Z)} (hk:ks'.map Prod.fst=ks.map Prod.fst):∀i,levP o ks' i=levP o ks i
 | 0=>rfl
 | i+1=>by
  have h4:(ks'[i]?).map Prod.fst=(ks[i]?).map Prod.fst:=by rw [←lP,←lP,hk]
  unfold levP;rw [zef hk i]
  cases q:ks'[i]? with
  | none =>
   rw [q]at h4
   cases q2:ks[i]? with
   | none=>rfl
   | some y=>rw [q2]at h4;cases h4
  | some x =>
   rw [q]at h4
   cases q2:ks[i]? with
   | none=>rw [q2]at h4;cases h4
   | some y =>
    rw [q2]at h4;have e:x.1=y.1:=by simpa using h4
    dsimp only;rw [e]
theorem zfa {o:List Int} {lev:Nat→Option Int} {level:Int} {ks ks':List (JS×Z)} (hk:ks'.map Prod.fst=ks.map Prod.fst):∀i,unP o lev level ks' i=unP o lev level ks i
 | 0=>rfl
 | i+1=>by
  have h4:(ks'[i]?).map Prod.fst=(ks[i]?).map Prod.fst:=by rw [←lP,←lP,hk]
  unfold unP;rw [zfa hk i]
  cases q:ks'[i]? with
  | none =>
   rw [q]at h4
   cases q2:ks[i]? with
   | none=>rfl
   | some y=>rw [q2]at h4;cases h4
  | some x =>
   rw [q]at h4
   cases q2:ks[i]? with
   | none=>rw [q2]at h4;cases h4
   | some y =>
    rw [q2]at h4;have e:x.1=y.1:=by simpa using h4
    dsimp only;rw [e]
theorem zgM {o:List Int} {lev:Nat→Option Int} {level level':Int} {ks:List (JS×Z)} (h:level≤level'):∀i,(unP o lev level' ks i).length≤(unP o lev level ks i).length
 | 0=>Nat.le_refl _
 | i+1=>by
  have h1:=zgM (o:=o) (lev:=lev) (ks:=ks) h i;unfold unP;rw [List.length_append,List.length_append]
  cases ks[i]? with
  | none=>simp;omega
  | some x =>
   dsimp only;unfold unJ
   by_cases q:level'<(lev (crJ o x.1)).getD 0-x.1.z.2
   ·rw [if_pos q,if_pos (by omega)];simp;omega
   ·rw [if_neg q];simp;omega
theorem zmC {ks ks':List (JS×Z)} (hk:ks'.map Prod.fst=ks.map Prod.fst) (i:Nat):(ks'[i]?).map Prod.fst=(ks[i]?).map Prod.fst:=by rw [←lP,←lP,hk]
theorem zhJ {ks ks':List (JS×Z)} (hk:ks'.map Prod.fst=ks.map Prod.fst) (i:Nat):keyAt ks' i=keyAt ks i:=by
 have h:=zmC hk i;unfold keyAt
 cases q:ks'[i]? with
 | none =>
  rw [q]at h
  cases q2:ks[i]? with
  | none=>rfl
  | some y=>rw [q2]at h;cases h
 | some x =>
  rw [q]at h
  cases q2:ks[i]? with
  | none=>rw [q2]at h;cases h
  | some y =>
   rw [q2]at h;have e:x.1=y.1:=by simpa using h
   dsimp only;rw [e]
theorem zmT {ks ks':List (JS×Z)} (hk:ks'.map Prod.fst=ks.map Prod.fst) (f:JS→Bool):(ks'.any fun x=>f x.1)=ks.any fun x=>f x.1:=by
 have h:∀l:List (JS×Z),(l.any fun x=>f x.1)=(l.map Prod.fst).any f:=fun l=>by rw [List.any_map];rfl
 rw [h,h,hk]
theorem ziE {ks ks':List (JS×Z)} (hk:ks'.map Prod.fst=ks.map Prod.fst) (bs:List Be) (q:Nat):undQ ks' bs q=undQ ks bs q:=by
 unfold undQ
 congr 1
 funext z
 unfold undOk;rw [zmT hk (fun j=>j.k==z)]
theorem zkj {ks ks':List (JS×Z)} (hk:ks'.map Prod.fst=ks.map Prod.fst) (bsf:Nat→List Be):∀m,fM ks' bsf m=fM ks bsf m
 | 0=>rfl
 | m+1=>by unfold fM;rw [zkj hk bsf m,zhJ hk,ziE hk]
theorem zjn {ks ks':List (JS×Z)} (hk:ks'.map Prod.fst=ks.map Prod.fst):keysJ ks'=keysJ ks:=by
 have h:∀l:List (JS×Z),keysJ l=(l.map Prod.fst).map fun j=>j.k.toNat:=fun l=>by unfold keysJ;rw [List.map_map];rfl
 rw [h,h,hk]
theorem zdl (f:Nat→Int):∀(l:List Nat) (a:Int),l.foldl (fun o i=>min o (f i)) a≤a∧∀i∈l,l.foldl (fun o i=>min o (f i)) a≤f i
 | [],a=>⟨Int.le_refl _,fun i hi=>by simp at hi⟩
 | x::l,a=>by
  obtain⟨h1,h2⟩:=zdl f l (min a (f x));rw [List.foldl_cons];refine⟨by omega,fun i hi=>?_⟩
  rcases List.mem_cons.1 hi with rfl|hi
  ·omega
  ·exact h2 i hi
theorem zdi (f:Nat→Int) (y:Int):∀(l:List Nat) (a:Int),y≤a→(∀i∈l,y≤f i)→y≤l.foldl (fun o i=>min o (f i)) a
 | [],a,h,_=>h
 | x::l,a,h,h2=>by
  rw [List.foldl_cons];refine zdi f y l _ ?_ (fun i hi=>h2 i (List.mem_cons_of_mem _ hi));have:=h2 x (by simp);omega
theorem zfM {r r':Ru} {j k:Jt} (h1:r'.step=r.step) (h2:r'.lap≤r.lap) (h:followsB r' j k=true):followsB r j k=true:=by
 unfold followsB at *;rw [h1]at h;simp only [Bool.and_eq_true,decide_eq_true_eq]at *;obtain⟨a,b,c⟩:=h;exact⟨a,b,by omega⟩
theorem zcY {r r':Ru} {L:List Jt} (h1:r'.step=r.step) (h2:r'.lap≤r.lap):∀k i,(rootsP r L k).getD i 0≤(rootsP r' L k).getD i 0
 | 0,i=>by simp [rootsP]
 | k+1,i=>by
  have ih:=zcY (L:=L) h1 h2 k;unfold rootsP;rw [List.getD_eq_getElem?_getD,List.getD_eq_getElem?_getD]
  by_cases hi:i<k
  ·rw [List.getElem?_append_left (by rw [zam];exact hi),List.getElem?_append_left (by rw [zam];exact hi),←List.getD_eq_getElem?_getD,←List.getD_eq_getElem?_getD]
   exact ih i
  ·rw [List.getElem?_append_right (by rw [zam];omega),List.getElem?_append_right (by rw [zam];omega),zam,zam]
   by_cases hk:i=k
   ·subst hk
    rw [Nat.sub_self]
    cases L[i]? with
    | none=>exact Int.le_refl _
    | some j =>
     show rootP r L (rootsP r L i) i j.fr≤rootP r' L (rootsP r' L i) i j.fr
     unfold rootP;obtain⟨q1,q2⟩:=zdl (fun n=>(rootsP r L i).getD n 0) (befL r L i) j.fr;refine zdi _ _ _ _ q1 (fun n hn=>Int.le_trans (q2 n ?_) (ih n));unfold befL at hn ⊢;obtain⟨h3,h4⟩:=List.mem_filter.1 hn;refine List.mem_filter.2 ⟨h3,?_⟩;unfold folB at h4 ⊢
     split at h4
     ·rename_i a b e1 e2
      exact zfM h1 h2 h4
     ·cases h4
   ·have hn:∀x:Int,([x]:List Int)[i-k]?=J:=fun x=>List.getElem?_eq_none (by simp;omega)
    rw [hn,hn];exact Int.le_refl _
def FdsOf (g:List (Int×Int)) (ps:List Pl) (r:Ru) (l:List Fd):Prop:=
 ∃ks L rs o,SvP r ps ks L rs∧CoI ps.length (fM ks (bsP g ps r.pin) ks.length) (keysJ ks) o []∧l=runP L rs r.run L.length++shP r ks L L.length++trP ks ks.length++unP o (levP o ks ks.length) r.level ks ks.length
theorem zaZ {A B C D:List Fd} (kd:List Int) (hA:∀f∈A,f.kind=1) (hB:∀f∈B,f.kind=2) (hC:∀f∈C,f.kind=3) (hD:∀f∈D,f.kind=4):cntF kd (A++B++C++D) =
  A.length*(kd.filter fun k=>1==k).length+B.length*(kd.filter fun k=>2==k).length+C.length*(kd.filter fun k=>3==k).length+D.length*(kd.filter fun k=>4==k).length:=by
 rw [zbn,zbn,zbn,zce hA,zce hB,zce hC,zce hD]
theorem zjf {g:List (Int×Int)} {ps:List Pl} {r r':Ru} {ks ks':List (JS×Z)} {L:List Jt} {rs:List Int} {o o':List Int} (h0:laidP g ps=0) (sv:SvP r ps ks L rs) (hk:ks'.map Prod.fst=ks.map Prod.fst) (hp:r'.pin=r.pin)
  (h:CoI ps.length (fM ks (bsP g ps r.pin) ks.length) (keysJ ks) o []) (h':CoI ps.length (fM ks' (bsP g ps r'.pin) ks'.length) (keysJ ks') o' []):o'=o:=by
 have hl:ks'.length=ks.length:=by have:=congrArg List.length hk;simpa using this
 rw [zkj hk,zjn hk,hl,hp]at h';obtain⟨rk,hrk⟩:=zbY h0 sv.skin r.pin;exact zn0 h' h rk hrk
theorem zk7 {g:List (Int×Int)} {ps:List Pl} {r r':Ru} {l m:List Fd} (h0:laidP g ps=0) (hl:FdsOf g ps r l) (hm:FdsOf g ps r' m) (e1:r'.skin=r.skin) (e2:r'.pin=r.pin) (e3:r'.wide=r.wide) (e4:r'.step=r.step) (e5:r'.run=r.run) (e6:r'.level=r.level) (h:r'.lap≤r.lap) :
  cntF [1,2] m≤cntF [1,2] l∧cntF [3,4] m=cntF [3,4] l:=by
 obtain⟨ks,L,rs,o,sv,co,rfl⟩:=hl;obtain⟨ks',L',rs',o',sv',co',rfl⟩:=hm;obtain⟨rfl,hk⟩:=znq sv sv' e1 e3;obtain rfl:=zjf h0 sv hk e2 co co';have hn:ks'.length=ks.length:=by have:=congrArg List.length hk;simpa using this
 rw [hn,zeX hk,zef hk,zfa hk,e6,e5]
 have hh:∀k,hgt L' rs' k≤hgt L' rs k:=by
  intro k;unfold hgt;rw [sv.roots,sv'.roots];have:=zcY (L:=L') e4 h L'.length k;omega
 have q1:=zdY hh (Int.le_refl r.run) L'.length;have q2:=zhb (L:=L') hk e4 h L'.length;rw [zaZ _ (zaO _ _ _ _) (za7 _ _ _ _) (zbe _ _) (zbc _ _ _ _ _),zaZ _ (zaO _ _ _ _) (za7 _ _ _ _) (zbe _ _) (zbc _ _ _ _ _),zaZ _ (zaO _ _ _ _) (za7 _ _ _ _) (zbe _ _) (zbc _ _ _ _ _),zaZ _ (zaO _ _ _ _) (za7 _ _ _ _) (zbe _ _) (zbc _ _ _ _ _)]
 constructor
 ·simp
  omega
 ·simp
theorem zlR {g:List (Int×Int)} {ps:List Pl} {r r':Ru} {l m:List Fd} (h0:laidP g ps=0) (hl:FdsOf g ps r l) (hm:FdsOf g ps r' m) (e1:r'.skin=r.skin) (e2:r'.pin=r.pin) (e3:r'.wide=r.wide) (e4:r'.step=r.step) (e5:r'.lap=r.lap) (h:r.run≤r'.run) (h2:r.level≤r'.level) :
  cntF [1] m≤cntF [1] l∧cntF [4] m≤cntF [4] l:=by
 obtain⟨ks,L,rs,o,sv,co,rfl⟩:=hl;obtain⟨ks',L',rs',o',sv',co',rfl⟩:=hm;obtain⟨rfl,hk⟩:=znq sv sv' e1 e3;obtain rfl:=zjf h0 sv hk e2 co co';have hn:ks'.length=ks.length:=by have:=congrArg List.length hk;simpa using this
 rw [hn,zeX hk,zef hk,zfa hk]
 have hh:∀k,hgt L' rs' k≤hgt L' rs k:=by
  intro k;unfold hgt;rw [sv.roots,sv'.roots];have:=zcY (L:=L') e4 (by omega) L'.length k;omega
 have q1:=zdY hh h L'.length;have q2:=zgM (o:=o') (lev:=levP o' ks ks.length) (ks:=ks) h2 ks.length;rw [zaZ _ (zaO _ _ _ _) (za7 _ _ _ _) (zbe _ _) (zbc _ _ _ _ _),zaZ _ (zaO _ _ _ _) (za7 _ _ _ _) (zbe _ _) (zbc _ _ _ _ _),zaZ _ (zaO _ _ _ _) (za7 _ _ _ _) (zbe _ _) (zbc _ _ _ _ _),zaZ _ (zaO _ _ _ _) (za7 _ _ _ _) (zbe _ _) (zbc _ _ _ _ _)]
 constructor
 ·simp
  omega
 ·simp
  omega
end Go.Proofs.YteipgejmhfpkaaaGreatDoor.Cop
namespace Go.Proofs.YteipgejmhfpkaaaGreatDoor.Cop
open Go.RowKit Go.Shelf Go.Sort Go.Lib
abbrev IsU8s (w:X) (v:Z) (kd:List Int):Prop:=Sl 5 1 (fun _ c k=>c=[O H k]) w v kd
theorem IsU8s.ext' {w w':X} {v:Z} {kd:List Int} (h:IsU8s w v kd) (k:Ext w w'):IsU8s w' v kd:=Sl.ext h (fun _ _ h=>h) k
theorem zi3 (W:X) {b:Nat} (hb:b=W.heap.size) (x y:Int):IsU8s (W.alloc (.cells #[O H x,O H y] 5)) (M (I ⟨b,0,J⟩) 2 2) [x,y]:=by
 subst hb;refine⟨[[O H x],[O H y]],rfl,by simp,⟨by simp,I ⟨W.heap.size,0,J⟩,2,rfl,Nat.le_refl _,by unfold maxLen;omega,.inr ⟨W.heap.size,0,_,(0,0),rfl,heap_alloc_new _ _,?_⟩⟩,?_⟩
 ·intro i v hv
  simpa using hv
 ·intro i c v hc hv
  match i,hc,hv with
  | 0,hc,hv=>simp at hc hv;subst hc hv;rfl
  | 1,hc,hv=>simp at hc hv;subst hc hv;rfl
  | i+2,hc,hv=>simp at hc
theorem zj4 (W:X) {b:Nat} (hb:b=W.heap.size) (x:Int):IsU8s (W.alloc (.cells #[O H x] 5)) (M (I ⟨b,0,J⟩) 1 1) [x]:=by
 subst hb;refine⟨[[O H x]],rfl,by simp,⟨by simp,I ⟨W.heap.size,0,J⟩,1,rfl,Nat.le_refl _,by unfold maxLen;omega,.inr ⟨W.heap.size,0,_,(0,0),rfl,heap_alloc_new _ _,?_⟩⟩,?_⟩
 ·intro i v hv
  simpa using hv
 ·intro i c v hc hv
  match i,hc,hv with
  | 0,hc,hv=>simp at hc hv;subst hc hv;rfl
  | i+1,hc,hv=>simp at hc
theorem zgL (kd:List Int) (f:Fd):kindN kd f≤kd.length:=List.length_filter_le _ _
theorem zjT (kd:List Int):∀l:List Fd,cntF kd l≤l.length*kd.length
 | []=>by simp [cntF]
 | f::l=>by
  have h1:=zjT kd l;have h2:=zgL kd f;rw [cntF,List.length_cons,Nat.succ_mul];omega
def CnS (w:X) (kd:List Int) (l:List Fd) (gk:Nat) (t5 t6:Z) (W:X):Prop:=
 ∃i:Nat,i≤l.length∧t6=O Y (i:Nat)∧t5=O Y (cntF kd (l.take i):Nat)∧gk=l.length-i∧Ext w W
def CnI (w:X) (kd:List Int) (B:Nat) (f:Fd) (gk:Nat) (t5 t7:Z) (W:X):Prop:=
 ∃k:Nat,k≤kd.length∧t7=O Y (k:Nat)∧t5=O Y ((B+kindN (kd.take k) f:Nat):Int)∧gk=kd.length-k∧Ext w W
theorem zby (w:X) (vl vk:Z) (l:List Fd) (kd:List Int) (hl:IsFds w vl l) (hk:IsU8s w vk kd) (hl9:l.length≤10000000) (hk9:kd.length≤10) :
  Calls Tryz.prog 14 #[vl,vk] w fun e w'=>e = .returned (O Y (cntF kd l:Nat))∧Ext w w':=by
 obtain⟨la,ln,lc,rfl⟩:=form3 hl;obtain⟨ka,kn,kc,rfl⟩:=form3 hk;have Hl:=hd9 hl;have Hk:=hd9 hk;have Hln:=hd9 (show ln=l.length from hl.len);have Hkn:=hd9 (show kn=kd.length from hk.len);have hln9:ln≤10000000:=by rw [Hln.out];exact hl9
 have hkn9:kn≤10:=by rw [Hkn.out];exact hk9
 clear hl hk hl9 hk9;go_enter Tryz.func14,Tryz.ntmps14;go_wp2
 go_loopg [5,6] ln (CnS w kd l)
 case atStart=>exact⟨0,Nat.zero_le _,rfl,rfl,by rw [Hln.out];rfl,Ext.refl _⟩
 case round =>
  obtain⟨i,hi,rfl,rfl,rfl,hx⟩:=hrel;rw [←Hln.out]at hi
  by_cases hlt:i<ln
  ·obtain⟨f,hf⟩:∃f,l[i]?=I f:=⟨l[i]'(by rw [←Hln.out];exact hlt),List.getElem?_eq_getElem _⟩
   obtain⟨lb,lo,d,rfl,hlb,_,hd,hc⟩:=Sl.at (Hl.out.ext' hx) hf;subst hd;have c0:=hc 0 (O H f.kind) rfl;simp only [Nat.add_zero]at c0
   have Hst:=hd9 (show cntF kd (l.take (i+1))=cntF kd (l.take i)+kindN kd f by
    rw [zaa _ _ _ hf,zbn];simp [cntF])
   have hB9:=Nat.le_trans (zjT kd (l.take i)) (Nat.mul_le_mul (show (l.take i).length≤10000000 by rw [List.length_take];omega) (show kd.length≤10 by rw [←Hkn.out];exact hkn9));obtain⟨B,hB⟩:∃x,cntF kd (l.take i)=x:=⟨_,rfl⟩;rw [hB]at hB9 Hst ⊢;have Hx:=hd9 hx;have p1:(0:Int)≤(i:Int):=by omega
   have p2:(i:Int)<(ln:Int):=by omega
   clear hc hf hx hB;go_wp2
   go_loopg [5,7] kn (CnI wr kd B f)
   case atStart=>exact⟨0,Nat.zero_le _,rfl,rfl,by rw [Hkn.out];rfl,Ext.refl _⟩
   case round =>
    obtain⟨k,hk,rfl,rfl,rfl,hx⟩:=hrel;rw [←Hkn.out]at hk;have hkk:=zgL (kd.take k) f;rw [List.length_take]at hkk
    by_cases hltk:k<kn
    ·obtain⟨z,hz⟩:∃z,kd[k]?=I z:=⟨kd[k]'(by rw [←Hkn.out];exact hltk),List.getElem?_eq_getElem _⟩
     obtain⟨kb,ko,d,rfl,hkb,_,hd,hc⟩:=Sl.at (Hk.out.ext' (Hx.out.trans hx)) hz;subst hd;have d0:=hc 0 (O H z) rfl;simp only [Nat.mul_one,Nat.add_zero]at d0;have c0:=hx.cellS c0
     have Hsk:=hd9 (show kindN (kd.take (k+1)) f=kindN (kd.take k) f+(if f.kind=z then 1 else 0) by
      unfold kindN;rw [zaa _ _ _ hz,List.filter_append,List.length_append]
      congr 1
      by_cases h:f.kind=z
      ·rw [if_pos h];simp [h]
      ·rw [if_neg h];simp [h])
     obtain⟨C,hC⟩:∃x,kindN (kd.take k) f=x:=⟨_,rfl⟩;rw [hC]at hkk Hsk ⊢;have Hxk:=hd9 hx;have q1:(0:Int)≤(k:Int):=by omega
     have q2:(k:Int)<(kn:Int):=by omega
     obtain⟨fk,hfk⟩:∃x,f.kind=x:=⟨_,rfl⟩;rw [hfk]at c0 Hsk;clear hc hz hx hC hfk
     go_upto_region 8 with fail
     refine wp_region_held_drew (S:=CellL [(⟨lb,lo+i*4,J⟩,O H fk),(⟨kb,ko+k,J⟩,O H z)]) (by kernel_rfl) (by refine⟨?_,?_,trivial⟩<;>go_simp) (fun hHeld=>?_);refine tk1 (i:=0) ?_;refine tk1 (i:=1) ?_;refine tk1 (i:=2) ?_;refine tk1 (i:=3) ?_;refine tk1 (i:=4) ?_;refine tk1 (i:=5) ?_;refine tk1 (i:=6) ?_;refine tk1 (i:=7) ?_;refine tk1 (i:=8) ?_;refine tk1 (i:=9) ?_;refine wpAnyH_done (by kernel_rfl) ?_ _
     by_cases h:fk=z
     ·have e1:(fk==z)=true:=by simpa using h
      go_wp2
      go_roundg (kn-(k+1))
      case measure=>have:=Hkn.out;omega
      case rel=>exact⟨k+1,by rw [←Hkn.out];omega,by go_num,by rw [Hsk.out,if_pos h];go_num,by rw [Hkn.out],Hxk.out.drew⟩
     ·have e1:(fk==z)=false:=by simpa using h
      go_wp2
      go_roundg (kn-(k+1))
      case measure=>have:=Hkn.out;omega
      case rel=>exact⟨k+1,by rw [←Hkn.out];omega,by go_num,by rw [Hsk.out,if_neg h,Nat.add_zero],by rw [Hkn.out],Hxk.out.drew⟩
    ·obtain rfl:kn=k:=by omega
     have Hxk:=hd9 hx;have Hfin:=hd9 (show kindN (kd.take kn) f=kindN kd f by rw [lT (by rw [Hkn.out];exact Nat.le_refl _)]);clear hx;go_wp2
     go_roundg (ln-(i+1))
     case measure=>have:=Hln.out;omega
     case rel=>exact⟨i+1,by rw [←Hln.out];omega,by go_num,by rw [Hst.out,Hfin.out],by rw [Hln.out],Hx.out.trans Hxk.out⟩
  ·obtain rfl:ln=i:=by omega
   have e:l.take ln=l:=lT (by rw [Hln.out];exact Nat.le_refl _);rw [e];go_wp2;go_ret;exact⟨rfl,hx⟩
def RetSu (w:X) (g:List (Int×Int)) (ps:List Pl) (r:Ru) (e:Ending) (w':X):Prop:=
 ∃v l,e = .returned (Q #[v,O Y (byE g ps r)])∧IsFds w' v l∧l.length≤2000000∧(byE g ps r=0→FdsOf g ps r l)∧Ext w w'
theorem zmi (w:X):IsFds w (M J 0 0) []:=(OwnC.nil 73 4 w 0).fds
theorem zim (w:X) (vg vp:Z) (g:List (Int×Int)) (ps:List Pl) (r:Ru) (hg:IsPts w vg g) (hp:IsPls w vp ps) (hgw:Gw w) :
  Calls Tryz.prog 13 #[E #[vg,vp],E (ruc r)] w (RetSu w g ps r):=by
 by_cases h0:byE g ps r=0
 ·refine(zhW w vg vp g ps r hg hp hgw h0).mono ?_
  rintro e w' ⟨v,ks,L,rs,o,rfl,sv,sb,co,hf,hx⟩;refine⟨v,_,by rw [h0],hf,?_,fun _=>⟨ks,L,rs,o,sv,co,rfl⟩,hx⟩;have h1:=zdr L rs r.run L.length;have h2:=Nat.le_trans (zfc r ks L L.length) (Nat.mul_le_mul sb.len sb.few);have h3:=zeU ks ks.length;have h4:=zfj o (levP o ks ks.length) r.level ks ks.length;have h5:=sb.len;have h6:=sb.few;simp only [List.length_append];omega
 ·refine(zkz w vg vp g ps r hg hp hgw h0).mono ?_
  rintro e w' ⟨rfl,hx⟩;exact⟨_,[],rfl,zmi _,by simp,fun h=>absurd h h0,hx⟩
end Go.Proofs.YteipgejmhfpkaaaGreatDoor.Cop
