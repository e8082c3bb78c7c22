/- Part 37: contracts of what the law calls. -/
import Derived.Test.YteipgejmhfpkaaaGreatDoorCopA35
import Derived.Maps.Own
import Derived.Test.YteipgejmhfpkaaaGreatDoorCopA33
set_option maxRecDepth 1000000
set_option maxHeartbeats 16000000
set_option linter.unusedSimpArgs false
set_option linter.unusedVariables false
open Go.Value renaming pointer→O,int→Y,agg→M,slice→E
open Option renaming none→Z,some→X
open Go renaming World→V,Value→I
open Go.IntKind renaming i64→J
namespace Go.Proofs.YteipgejmhfpkaaaGreatDoor.Cop
section
open Go.RowKit Go.Shelf Go.Sort Go.Lib Go.Maps
attribute [local go_sem] Oper.semAt_some
theorem zmw (w:World):(zeroValue 3).run Tryz.prog w = .ok (.int .i64 0) w:=by kernel_rfl
def Lvm (W:World) (B n:Nat) (f:Nat→Option Int):Prop:=
 ∃D:DataW Unit,W.ownsMap Tryz.prog 3 (plainElem Tryz.prog 3) B n D∧∀k:Nat,k<1000→∀z,D.atKey (.int .i64 (k:Int)) z=match f k with|some v=>.lit (.int .i64 v)|none=>z
theorem Lvm.made (w:World):Lvm (w.alloc (.map #[] 0)) w.heap.size 0 (fun _=>none):=⟨.map [],World.ownsMap_made _ _ _ _,fun k _ z=>rfl⟩
theorem Lvm.kept {W W':World} {B n:Nat} {f:Nat→Option Int} {row:Option Nat} (h:Lvm W B n f) (hg:W.grownBy W' row) (hb:some B≠row):Lvm W' B n f:=by
 obtain⟨D,h1,h2⟩:=h;exact⟨D,h1.kept hg hb,h2⟩
theorem Lvm.ext {W W':World} {B n:Nat} {f:Nat→Option Int} (h:Lvm W B n f) (hx:Ext W W'):Lvm W' B n f:=by
 obtain⟨D,⟨es,clock,hb,h1⟩,h2⟩:=h;exact⟨D,⟨es,clock,hx.heapS hb,h1⟩,h2⟩
theorem Lvm.notCells {W:World} {B n:Nat} {f:Nat→Option Int} (h:Lvm W B n f) {cs:Array Value} {T:TypeId} {fr:Nat×Nat}:W.heap[B]?≠some (.cells cs T fr):=by
 obtain⟨D,⟨es,clock,hb,_⟩,_⟩:=h;rw [hb];intro e
 cases e
theorem Lvm.look {W:World} {B n:Nat} {f:Nat→Option Int} (h:Lvm W B n f) (c:Bool) {k:Nat} (hk:k<1000) :
  (Instr.lookup 160 (.map (some B)) (.int .i64 (k:Int)) c).run Tryz.prog W = .ok (if c then .tuple #[.int .i64 ((f k).getD 0),.bool (f k).isSome]else .int .i64 ((f k).getD 0)) W:=by
 obtain⟨D,⟨es,clock,hb,F,hs,hD⟩,h2⟩:=h;have hk9:=h2 k hk
 rcases Maps.fit_look c key3 Tryz.underlying160 (zmw W) hb F (keyOf_int_mk Tryz.underlying3 (wf_k hk))with ⟨hr,_,hat⟩|⟨e0,y,_,_,hr,hy,hat,_⟩
 ·have e:f k=none:=by
   cases hf:f k with
   | none=>rfl
   | some v =>
    have h1:=hk9 .nil;rw [hf,hD,hat]at h1
    cases h1
  rw [hr,e]
  cases c<;>rfl
 ·obtain⟨a,ha,hya,_⟩:=plainElem_int_inv Tryz.underlying3 hy
  have e:f k=some a:=by
   have h1:=hk9 .nil;have h2:=hk9 (.lit (.bool true));rw [hD,hat,hya]at h1 h2
   cases hf:f k with
   | none=>rw [hf]at h1;cases h1
   | some v =>
    rw [hf]at h1;simp at h1;rw [h1]
  rw [hr,ha,e]
  cases c<;>rfl
theorem Lvm.look2 {W:World} {B n:Nat} {f:Nat→Option Int} (h:Lvm W B n f) {k:Nat} (hk:k<1000) :
  (Instr.lookup 160 (.map (some B)) (.int .i64 (k:Int)) true).run Tryz.prog W = .ok (.tuple #[.int .i64 ((f k).getD 0),.bool (f k).isSome]) W:=h.look true hk
theorem Lvm.look1 {W:World} {B n:Nat} {f:Nat→Option Int} (h:Lvm W B n f) {k:Nat} (hk:k<1000) :
  (Instr.lookup 160 (.map (some B)) (.int .i64 (k:Int)) false).run Tryz.prog W = .ok (.int .i64 ((f k).getD 0)) W:=h.look false hk
theorem Lvm.put {W:World} {B n:Nat} {f:Nat→Option Int} (h:Lvm W B n f) (hn:n<maxLen) {k:Nat} (hk:k<1000) {v:Int} (hv:Bd 1000000 v) :
  ∃w',(Instr.mapUpdate 160 (.map (some B)) (.int .i64 (k:Int)) (.int .i64 v)).run Tryz.prog W = .ok () w'∧Lvm w' B (n+1) (fun j=>if j=k then some v else f j)∧W.grownBy w' (some B):=by
 obtain⟨D,h1,h2⟩:=h;have hw:(Lit.int .i64 v).wf=true:=WalkArith.wf_i64 (by unfold Bd at hv;omega);obtain⟨w',r1,r2,r3⟩:=h1.update key3 Tryz.underlying160 hn (keyOf_int_mk Tryz.underlying3 (wf_k hk)) (plainElem_int Tryz.underlying3 hw)
 have hD:IsMap D:=by
  obtain⟨es,clock,_,_,_,hD⟩:=h1;exact⟨_,hD⟩
 refine⟨w',r1,⟨_,r2,fun j hj z=>?_⟩,r3⟩
 by_cases hjk:j=k
 ·subst hjk
  dsimp only;rw [if_pos rfl,atKey_put_same hD (by first|trivial|exact True.intro|simp [WideAt.IsKeyLit])]
 ·dsimp only
  rw [if_neg hjk,atKey_put_other (by simp;omega)];exact h2 j hj z
def crJ (o:List Int) (x:JS):Nat:=(o.getD x.k.toNat 0).toNat
def hiJ (l:Option Int) (z:Int):Option Int:=match l with|some v=>if v<z then some z else some v|none=>some z
def levP (o:List Int) (ks:List (JS×Value)):Nat→Nat→Option Int
 | 0=>fun _=>none
 | i+1=>match ks[i]? with
  | some x=>fun c=>if c=crJ o x.1 then hiJ (levP o ks i c) x.1.z.2 else levP o ks i c
  | none=>levP o ks i
def unJ (o:List Int) (lev:Nat→Option Int) (level:Int) (x:JS):List Fd:=if level<(lev (crJ o x)).getD 0-x.z.2 then [⟨4,-1,x.k,(lev (crJ o x)).getD 0-x.z.2⟩]else []
def unP (o:List Int) (lev:Nat→Option Int) (level:Int) (ks:List (JS×Value)):Nat→List Fd
 | 0=>[]
 | i+1=>unP o lev level ks i++(match ks[i]? with|some x=>unJ o lev level x.1|none=>[])
theorem zfi (o:List Int) (lev:Nat→Option Int) (level:Int) (ks:List (JS×Value)):∀k,(unP o lev level ks k).length≤k
 | 0=>nE _
 | k+1=>by
  have:=zfi o lev level ks k;unfold unP;rw [lA]
  split
  ·unfold unJ;split<;>simp<;>omega
  ·simp;omega
theorem ze2 {o:List Int} {ks:List (JS×Value)} (hk:∀x∈ks,BJS x.1):∀i c v,levP o ks i c=some v→Bd 104000 v
 | 0,c,v,h=>by cases h
 | i+1,c,v,h=>by
  unfold levP at h
  cases hx:ks[i]? with
  | none=>rw [hx]at h;exact ze2 hk i c v h
  | some x =>
   rw [hx]at h;dsimp only at h
   by_cases hc:c=crJ o x.1
   ·rw [if_pos hc]at h
    unfold hiJ at h;have hz:=(hk x (lM hx)).2.2.2.1
    split at h
    ·split at h
     ·cases h;exact hz
     ·cases h;rename_i h9 _;exact ze2 hk i c _ h9
    ·cases h;exact hz
   ·rw [if_neg hc]at h;exact ze2 hk i c v h
def UnA (w3:World) (B:Nat) (o:List Int) (ks:List (JS×Value)) (gk:Nat) (t22:Value) (W:World):Prop:=
 ∃(i N:Nat),i≤ks.length∧t22 = .int .i64 (i:Nat)∧gk=ks.length-i∧Ext w3 W∧N≤i∧Lvm W B N (levP o ks i)
def UnB (w w3:World) (B N:Nat) (o:List Int) (level:Int) (ks:List (JS×Value)) (gk:Nat) (t10 t57:Value) (W:World):Prop:=
 ∃i:Nat,i≤ks.length∧t57 = .int .i64 (i:Nat)∧gk=ks.length-i∧Ext w3 W∧Lvm W B N (levP o ks ks.length)∧OwnC 73 4 W (B+1) t10 ((unP o (levP o ks ks.length) level ks i).map fdc)
theorem ziK (w:World) (sb n:Nat) (r:Ru) (vg vp vs vj vr:Value) (ks:List (JS×Value)) (L:List Jt) (rs:List Int) (P:List Int→Prop) (sv:Sv w sb r vg vp vs vj vr ks L rs) (hkb:∀x∈ks,BJS x.1) (hkv:∀j∈ks,∃a n c,j.2 = .slice a n c) (hl9:ks.length≤120)
  (hkn:∀x∈ks,∃k:Nat,x.1.k=(k:Int)∧k<n) (hP:∀o,P o→o.length=n∧∀v∈o,0≤v∧v≤120)
  (hC:∀W,Ext w W→Calls Tryz.prog 29 #[.pointer (some ⟨sb,0,none⟩)] W fun e w'=>∃v o,e = .returned v∧IsIs w' v o∧P o∧Ext W w') :
  Calls Tryz.prog 36 #[.pointer (some ⟨sb,0,none⟩)] w fun e w'=>∃v o,e = .returned v∧P o∧OwnC 73 4 w' w.heap.size v ((unP o (levP o ks ks.length) r.level ks ks.length).map fdc)∧Ext w w':=by
 have Hjs:=hd9 sv.skin;obtain⟨sa,sn,sc,rfl⟩:=form3 sv.skin;have Hn:=hd9 (show sn=ks.length from sv.skin.len);have s9:=qcB sv.blk (i:=9) (u:=.slice sa sn sc) rfl;have s6:=qcB sv.blk (i:=6) (u:=.int .i64 r.level) rfl;have zs:=zab sv.blk;obtain⟨level,hlv⟩:=gX r.level;rw [hlv]at s6 ⊢;obtain⟨R,hR⟩:∃R:Ending→World→Prop,(fun e w'=>∃v o,e = .returned v∧P o∧OwnC 73 4 w' w.heap.size v ((unP o (levP o ks ks.length) level ks ks.length).map fdc)∧Ext w w')=R:=⟨_,rfl⟩;rw [hR];have HR:=hd9 hR;have hj9:sn≤120:=by rw [Hn.out];exact hl9
 have Hkb:=hd9 hkb;have Hkv:=hd9 hkv;have Hkn:=hd9 hkn;have HP:=hd9 hP;have HC:=hd9 hC;have hmm:=@run_makeMap Tryz.prog;clear hR sv hkb hkv hl9 hkn hP hC hlv;go_enter Tryz.func36,Tryz.ntmps36
 go_wp2_with(go_at_call 29;(with_reducible refine(HC.out _ (eR _)).mono ?_);rintro e w3 ⟨vc,o,rfl,hvc,ho,hx3⟩;obtain⟨ca,cn,cc,rfl⟩:=form3 hvc;have c9:=hx3.cellS s9;have c6:=hx3.cellS s6;have z3:=hx3.lt zs)
 obtain⟨hol,hob⟩:=HP.out o ho;have Hcl:=hd9 (show cn=n from hvc.len.trans hol);have Hvc:=hd9 hvc;have Ho:=hd9 ho;have Hx3:=hd9 hx3
 have Hkc:=hd9 (show ∀x∈ks,∃(k c:Nat),x.1.k=(k:Int)∧k<cn∧o[k]?=some (c:Int)∧c≤120∧crJ o x.1=c from fun x hx=>by
  obtain⟨k,h1,h2⟩:=Hkn.out x hx;have hk:o[k]?=some (o[k]'(by omega)):=gE (by omega);have hb:=hob _ (lM hk);refine⟨k,(o[k]'(by omega)).toNat,h1,by rw [Hcl.out];exact h2,by rw [hk];congr 1;omega,by omega,?_⟩;unfold crJ;rw [h1,Int.toNat_natCast,gD,hk];rfl)
 have HL0:=hd9 (Lvm.made w3);have HE0:=hd9 ((eR w3).alloc (.map #[] 0));clear hvc ho hx3 hol hob;obtain⟨B,hB⟩:=gX w3.heap.size;have HB:=hd9 hB;rw [hB]at HL0;simp only [hB];clear hB
 go_loopg [22] sn (UnA w3 B o ks)
 case atStart=>exact⟨0,0,Nat.zero_le _,rfl,by rw [Hn.out];rfl,HE0.out,nE _,HL0.out⟩
 case round =>
  clear HL0 HE0;obtain⟨i,N,hi,rfl,rfl,hxr,hN,hm⟩:=hrel;rw [←Hn.out]at hi;have hx:=Hx3.out.trans hxr;have hwr:=hxr.size;rw [HB.out]at hwr
  by_cases hlt:i<sn
  ·skip
   obtain⟨x,hxi⟩:∃x,ks[i]?=some x:=⟨ks[i]'(by rw [←Hn.out];exact hlt),gE _⟩;have hbj:=Hkb.out x (lM hxi);obtain⟨⟨p,kk,⟨xl,xh⟩,⟨zl,zh⟩⟩,vx⟩:=x;obtain⟨sa1,sn1,sc1,rfl⟩:∃a n c,vx = .slice a n c:=Hkv.out _ (lM hxi);obtain⟨b9,o9,rfl,hb9,hc⟩:=(Hjs.out.ext' hx).at' hxi;have xc0:=hc 0 (.string p.name) rfl;have xc1:=hc 1 (.slice sa1 sn1 sc1) rfl;have xc2:=hc 2 (.int .i64 p.depth) rfl;have xc3:=hc 3 (.int .i64 p.density) rfl;have xc4:=hc 4 (.int .i64 p.gx) rfl;have xc5:=hc 5 (.int .i64 p.gz) rfl;have xc6:=hc 6 (.int .i64 p.way) rfl;have xc7:=hc 7 (.int .i64 p.ax) rfl;have xc8:=hc 8 (.int .i64 p.az) rfl;have xc9:=hc 9 (.int .u8 p.skin) rfl;have xc10:=hc 10 (.int .i64 kk) rfl;have xc11:=hc 11 (.int .i64 xl) rfl;have xc12:=hc 12 (.int .i64 xh) rfl;have xc13:=hc 13 (.int .i64 zl) rfl;have xc14:=hc 14 (.int .i64 zh) rfl;simp only [Nat.add_zero]at xc0;obtain⟨k,c,hk1,hk2,hk3,hc120,hcr⟩:=Hkc.out _ (lM hxi);dsimp only at hk1;subst hk1;have hzb:=hbj.2.2.2.1;dsimp only at hzb;obtain⟨b7,o7,rfl,hb7,c7⟩:=(Hvc.out.ext' hxr).at' hk3;have p1:(0:Int)≤(k:Int):=by omega
   have p2:(k:Int)<(cn:Int):=by omega
   have hlt2:(i:Int)<(sn:Int):=by omega
   have hm8:=hm.ext ((eR wr).alloc (.cells #[.string p.name,.slice sa1 sn1 sc1,.int .i64 p.depth,.int .i64 p.density,.int .i64 p.gx,.int .i64 p.gz,.int .i64 p.way,.int .i64 p.ax,.int .i64 p.az,.int .u8 p.skin,.int .i64 k,.int .i64 xl,.int .i64 xh,.int .i64 zl,.int .i64 zh] 127));have hlk:=hm8.look2 (k:=c) (by omega)
   have hst:levP o ks (i+1)=fun c'=>if c'=c then hiJ (levP o ks i c) zh else levP o ks i c':=by
    show (match ks[i]? with|some x=>fun c=>if c=crJ o x.1 then hiJ (levP o ks i c) x.1.z.2 else levP o ks i c|none=>levP o ks i)=_
    rw [hxi];dsimp only;rw [hcr]
    funext c'
    by_cases h:c'=c
    ·rw [if_pos h,if_pos h,h]
    ·rw [if_neg h,if_neg h]
   have hupd:=hm8.put (by unfold maxLen;omega) (k:=c) (by omega) (v:=zh) (by unfold Bd at hzb ⊢;omega);have Hm8:=hd9 hm8;have Hxr:=hd9 hxr;have Hst:=hd9 hst;obtain⟨f,hf⟩:=gX (levP o ks i c);rw [hf]at hlk;have Hf:=hd9 hf;clear hm hm8 hst hxi hc hk3 hx hxr hf hbj
   cases f with
   | none =>
    simp only [Option.getD_none,Option.isSome_none]at hlk;obtain⟨w9,hrun9,hm9,hg9⟩:=hupd;have Hm9:=hd9 hm9;have Hg9:=hd9 hg9;clear hm9 hg9;go_wp2
    go_roundg (sn-(i+1))
    case measure=>have:=Hn.out;omega
    case rel =>
     refine⟨i+1,N+1,by rw [←Hn.out];omega,by go_num,by rw [Hn.out],zaS (Hxr.out.alloc _) Hg9.out (fun j hj=>by cases hj;have:=HB.out;omega),by omega,?_⟩;rw [Hst.out,Hf.out];exact Hm9.out
   | some v =>
    simp only [Option.getD_some,Option.isSome_some]at hlk
    by_cases hv:v<zh
    ·obtain⟨w9,hrun9,hm9,hg9⟩:=hupd
     have Hm9:=hd9 hm9;have Hg9:=hd9 hg9;clear hm9 hg9;go_wp2
     go_roundg (sn-(i+1))
     case measure=>have:=Hn.out;omega
     case rel =>
      refine⟨i+1,N+1,by rw [←Hn.out];omega,by go_num,by rw [Hn.out],zaS (Hxr.out.alloc _) Hg9.out (fun j hj=>by cases hj;have:=HB.out;omega),by omega,?_⟩;rw [Hst.out,Hf.out];have e:hiJ (some v) zh=some zh:=if_pos (by omega);rw [e];exact Hm9.out
    ·clear hupd
     go_wp2
     go_roundg (sn-(i+1))
     case measure=>have:=Hn.out;omega
     case rel =>
      refine⟨i+1,N,by rw [←Hn.out];omega,by go_num,by rw [Hn.out],Hxr.out.alloc _,by omega,?_⟩;rw [Hst.out];have e:hiJ (levP o ks i c) zh=levP o ks i c:=by rw [Hf.out];exact if_neg (by omega)
      have e2:(fun c'=>if c'=c then hiJ (levP o ks i c) zh else levP o ks i c')=levP o ks i:=by
       funext c'
       by_cases h:c'=c
       ·rw [if_pos h,e,h]
       ·rw [if_neg h]
      rw [e2];exact Hm8.out
  ·obtain rfl:sn=i:=by omega
   rw [Hn.out]at hm;have Hb0:=hd9 (show UnB w w3 B N o level ks sn (.slice none 0 0) (.int .i64 0) wr from⟨0,Nat.zero_le _,rfl,by rw [Hn.out];rfl,hxr,hm,OwnC.nil _ _ _ _⟩);have hBn:N≤120:=by omega
   have d9:=hxr.cellS c9;have d6:=hxr.cellS c6;clear hm hN hx hxr;go_wp2
   go_loopg [10,57] sn (UnB w w3 B N o level ks)
   case atStart=>exact Hb0.out
   case round =>
    clear Hb0 d9 d6;obtain⟨i,hi,rfl,rfl,hxr,hm,hown⟩:=hrel;rw [←Hn.out]at hi;have hx:=Hx3.out.trans hxr;have hwr:=hxr.size;rw [HB.out]at hwr;obtain⟨va,vn,vc,rfl⟩:=hown.form3;have Hown:=hd9 hown;have d9:=hxr.cellS c9;have d6:=hxr.cellS c6
    by_cases hlt:i<sn
    ·skip
     obtain⟨x,hxi⟩:∃x,ks[i]?=some x:=⟨ks[i]'(by rw [←Hn.out];exact hlt),gE _⟩;have hbj:=Hkb.out x (lM hxi);obtain⟨⟨p,kk,⟨xl,xh⟩,⟨zl,zh⟩⟩,vx⟩:=x;obtain⟨sa1,sn1,sc1,rfl⟩:∃a n c,vx = .slice a n c:=Hkv.out _ (lM hxi);obtain⟨b9,o9,rfl,hb9,hc⟩:=(Hjs.out.ext' hx).at' hxi;have xc0:=hc 0 (.string p.name) rfl;have xc1:=hc 1 (.slice sa1 sn1 sc1) rfl;have xc2:=hc 2 (.int .i64 p.depth) rfl;have xc3:=hc 3 (.int .i64 p.density) rfl;have xc4:=hc 4 (.int .i64 p.gx) rfl;have xc5:=hc 5 (.int .i64 p.gz) rfl;have xc6:=hc 6 (.int .i64 p.way) rfl;have xc7:=hc 7 (.int .i64 p.ax) rfl;have xc8:=hc 8 (.int .i64 p.az) rfl;have xc9:=hc 9 (.int .u8 p.skin) rfl;have xc10:=hc 10 (.int .i64 kk) rfl;have xc11:=hc 11 (.int .i64 xl) rfl;have xc12:=hc 12 (.int .i64 xh) rfl;have xc13:=hc 13 (.int .i64 zl) rfl;have xc14:=hc 14 (.int .i64 zh) rfl;simp only [Nat.add_zero]at xc0;obtain⟨k,c,hk1,hk2,hk3,hc120,hcr⟩:=Hkc.out _ (lM hxi);dsimp only at hk1;subst hk1;have hzb:=hbj.2.2.2.1;dsimp only at hzb;obtain⟨b7,o7,rfl,hb7,c7⟩:=(Hvc.out.ext' hxr).at' hk3;have p1:(0:Int)≤(k:Int):=by omega
     have p2:(k:Int)<(cn:Int):=by omega
     have hlt2:(i:Int)<(sn:Int):=by omega
     obtain⟨lv,hlv⟩:=gX (((levP o ks ks.length) c).getD 0)
     have hlb:Bd 104000 lv:=by
      rw [←hlv]
      cases hf:levP o ks ks.length c with
      | none=>unfold Bd;simp
      | some v=>exact ze2 Hkb.out _ _ _ hf
     unfold Bd at hlb hzb;have q1:IntKind.i64.wrap (lv-zh)=lv-zh:=iW _ ⟨by omega,by omega⟩;have q2:wrap64 (lv-zh)=lv-zh:=IntWalk.wrap64_in _ ⟨by omega,by omega⟩
     have hst:unP o (levP o ks ks.length) level ks (i+1)=unP o (levP o ks ks.length) level ks i++(if level<lv-zh then [⟨4,-1,k,lv-zh⟩]else []):=by
      show _++_=_
      rw [hxi]
      show _++unJ _ _ _ _=_
      unfold unJ;rw [hcr,hlv]
     have Hst:=hd9 hst;have hlen9:(unP o (levP o ks ks.length) level ks i).length≤120:=nT (zfi _ _ _ _ _) (by omega);have Hlen9:=hd9 hlen9;have Hxr:=hd9 hxr;have Hm:=hd9 hm;have HLk:=hd9 (fun(W:World) (hW:Ext wr W)=>(hm.ext hW).look1 (k:=c) (by omega));rw [hlv]at HLk;clear hst hxi hc hk3 hown hm hlen9 hbj hlv hx hxr
     go_upto_region 15 with fail
     obtain⟨w8,hw8⟩:=gX (wr.alloc (.cells #[.string p.name,.slice sa1 sn1 sc1,.int .i64 p.depth,.int .i64 p.density,.int .i64 p.gx,.int .i64 p.gz,.int .i64 p.way,.int .i64 p.ax,.int .i64 p.az,.int .u8 p.skin,.int .i64 k,.int .i64 xl,.int .i64 xh,.int .i64 zl,.int .i64 zh] 127));have hE8:Ext wr w8:=by rw [←hw8];exact(eR _).alloc _
     have hK8:w8.heap[wr.heap.size]?=some (.cells #[.string p.name,.slice sa1 sn1 sc1,.int .i64 p.depth,.int .i64 p.density,.int .i64 p.gx,.int .i64 p.gz,.int .i64 p.way,.int .i64 p.ax,.int .i64 p.az,.int .u8 p.skin,.int .i64 k,.int .i64 xl,.int .i64 xh,.int .i64 zl,.int .i64 zh] 127 (0,0)):=by rw [←hw8];exact aN _ _
     rw [hw8];obtain⟨b8,hb8⟩:=gX wr.heap.size;have Hb8:=hd9 hb8;rw [hb8]at hK8;simp only [hb8];have y10:=qcB hK8 (i:=10) (u:=.int .i64 k) rfl;have y14:=qcB hK8 (i:=14) (u:=.int .i64 zh) rfl;have c7:=hE8.cellS c7;have d6:=hE8.cellS d6;have HE8:=hd9 hE8;have hlk8:=HLk.out w8.drew hE8.drew;clear hK8 hw8 hE8 xc0 xc1 xc2 xc3 xc4 xc5 xc6 xc7 xc8 xc9 xc10 xc11 xc12 xc13 xc14 d9 hb8;refine wp_region_held_drew (S:=fun W=>CellL [(⟨b8,10,none⟩,.int .i64 k),(⟨b8,14,none⟩,.int .i64 zh),(⟨b7,o7+k,none⟩,.int .i64 c)] W∧(Instr.lookup 160 (.map (some B)) (.int .i64 (c:Int)) false).run Tryz.prog W = .ok (.int .i64 lv) W) (by kernel_rfl) (by refine⟨⟨?_,?_,?_,trivial⟩,hlk8⟩<;>go_simp) (fun h9H=>?_);refine tk1 (i:=0) ?_;refine tk1 (i:=1) ?_;refine tk1 (i:=2) ?_;refine tk1 (i:=3) ?_;refine tk1 (i:=4) ?_;refine tk1 (i:=5) ?_;refine tk1 (i:=6) ?_;refine tk1 (i:=7) ?_;refine tk1 (i:=8) ?_;refine tk1 (i:=9) ?_;refine tk1 (i:=10) ?_;refine tk1 (i:=11) ?_;refine wpAnyH_done (by kernel_rfl) ?_ _;obtain⟨w9,hw9⟩:=gX w8.drew;have hE9:Ext w8 w9:=by rw [←hw9];exact(eR _).drew
     rw [hw9];have y10:=hE9.cellS y10;have d6:=hE9.cellS d6;have HE9:=hd9 (HE8.out.trans hE9);have z9:=HE9.out.size;clear hw9 hE9 h9H hlk8 c7 y14
     by_cases hr:level<lv-zh
     ·go_wp2_with(at_builtin;refine appC (T:=73) (t:=63) (z:=.agg #[.int .u8 0,.int .i64 0,.int .i64 0,.int .i64 0]) (k:=4) (bytes:=32) (base:=B+1) (v:=.slice va vn vc) (cs:=(unP o (levP o ks ks.length) level ks i).map fdc) (m:=1) (c:=1) (ad:=⟨w9.heap.size,0,none⟩) zbU rfl (by decide) (by decide) Tryz.underlying63 rfl _ _ rfl rfl (Hown.out.ext (HE9.out.alloc _)) rfl [fdc ⟨4,-1,k,lv-zh⟩] rfl (by simp [fdc]) (by have h9:=zaE w9 (fdc ⟨4,-1,k,lv-zh⟩).toArray 73;simpa only [wZ,fdc] using h9) (by simp [fdc,Value.oneCell']) (by have:=Hlen9.out;rw [lL];omega) (by simp only [wZ];omega) ?_;intro v' w6 hown6 hgrow hlie)
      go_roundg (sn-(i+1))
      case measure=>have:=Hn.out;omega
      case rel =>
       refine⟨i+1,by rw [←Hn.out];omega,by go_num,by rw [Hn.out],zaS (Hxr.out.trans (HE9.out.alloc _)) hgrow (fun j hj=>by have h1:=(Hown.out.lt j hj).1;have:=HB.out;omega),?_,?_⟩
       ·refine(Hm.out.ext (HE9.out.alloc _)).kept hgrow (fun e=>?_)
        have h1:=(Hown.out.lt B e.symm).1;omega
       ·rw [Hst.out,if_pos (by omega),List.map_append]
        exact hown6
     ·go_wp2
      go_roundg (sn-(i+1))
      case measure=>have:=Hn.out;omega
      case rel =>
       refine⟨i+1,by rw [←Hn.out];omega,by go_num,by rw [Hn.out],Hxr.out.trans HE9.out,Hm.out.ext HE9.out,?_⟩;rw [Hst.out,if_neg (by omega),List.append_nil];exact Hown.out.ext HE9.out
    ·obtain rfl:sn=i:=by omega
     rw [Hn.out]at hown;have Hown:=hd9 hown;have Hx:=hd9 hx;clear hown;go_wp2;rw [←HR.out];exact⟨_,o,rfl,Ho.out,Hown.out.mono (by have:=Hx3.out.size;have:=HB.out;omega),Hx.out⟩
end
section
open Go.RowKit Go.Shelf Go.Sort Go.Lib Go.Maps
structure SvB (ks:List (JS×I)) (L:List Jt) (rs:List Int):Prop where
 jts:∀j∈L,BJt j
 stones:∀x∈ks,BJS x.1
 few:ks.length≤120
 len:L.length≤14400
 rlen:rs.length=L.length
 rbd:∀z∈rs,Bd 1000000 z
theorem zfN {p:Pl} (h:placedOk p=true):Bd 10000 p.depth:=by
 unfold placedOk stoneB at h;simp only [Bool.and_eq_true]at h;have h1:=h.1.1.1.2;unfold wthn at h1;simp at h1;unfold Bd;omega
theorem zdH {α β:Type} (f:α→List β) (m:Nat):∀(l:List α),(∀x∈l,(f x).length≤m)→(l.flatMap f).length≤l.length*m
 | [],_=>by simp
 | x::l,h=>by
  have h1:=zdH f m l (fun y hy=>h y (mC _ hy));have h2:=h x (by simp);rw [List.flatMap_cons,lA,List.length_cons,Nat.succ_mul];omega
theorem zbL {r:Ru} {ps:List Pl} {j:JS} (h:j∈skinP r ps):j∈jsP ps:=(List.mem_filter.1 h).1
theorem znM {r:Ru} {ps:List Pl} {ks:List (JS×I)} {L:List Jt} {rs:List Int} (hok:∀p∈ps,placedOk p=true) (hn:ps.length≤120) (h:SvP r ps ks L rs):SvB ks L rs:=by
 have hsl:(skinP r ps).length≤120:=by
  have h8:(skinP r ps).length≤(jsP ps).length:=List.length_filter_le _ _;rw [zbC]at h8;omega
 have hkl:ks.length≤120:=by
  have h9:=congrArg List.length h.skin;rw [lL]at h9;omega
 have hj:∀j∈L,BJt j:=by
  intro j hj;have h1:=h.perm.mem_iff.1 hj;unfold rawP at h1;obtain⟨a,ha,h2⟩:=List.mem_flatMap.1 h1;unfold rowP at h2;obtain⟨b,hb,rfl⟩:=List.mem_map.1 h2;exact zjX hok hn (zbL ha) (zbL (List.mem_filter.1 hb).1)
 refine⟨hj,fun x hx=>?_,hkl,?_,by rw [h.roots,zaT],by rw [h.roots];exact zd3 hj _⟩
 ·have h1:x.1∈skinP r ps:=h.skin▸List.mem_map_of_mem hx
  have h2:=zbL h1;have h3:=zdP hok h2;obtain⟨k,e,hk⟩:=zci h.skin hx;obtain⟨p,hp,i,e2⟩:=zjW h2;exact⟨h3.1.1,h3.1.2,h3.2.1,h3.2.2,by rw [e2];exact zfN (hok p hp),k,e,by omega⟩
 ·rw [h.perm.length_eq]
  unfold rawP;refine nT (zdH _ 120 _ (fun a ha=>?_)) (by omega);unfold rowP;rw [lL];exact nT (List.length_filter_le _ _) hsl
theorem ziv {w:V} {sb:Nat} {vg vp vs vj vr:I} {g:List (Int×Int)} {ps:List Pl} {r:Ru} {ks:List (JS×I)} {L:List Jt} {rs:List Int} (hg:IsPts w vg g) (hp:IsPls w vp ps) (hgw:Gw w) (h0:byE g ps r=0) (hl0:laidP g ps=0)
  (sv:Sv w sb r vg vp vs vj vr ks L rs) (svp:SvP r ps ks L rs) (W:V) (hW:Ext w W) :
  Calls Tryz.prog 29 #[O (X ⟨sb,0,Z⟩)] W fun e w'=>∃v o,e = .returned v∧IsIs w' v o∧CoI ps.length (fM ks (bsP g ps r.pin) ks.length) (keysJ ks) o []∧Ext W w':=by
 obtain⟨hok,hn,hgr⟩:=zal hl0
 exact zdE W sb r vg vp vs vj vr ks L rs ps.length (bsP g ps r.pin) (sv.ext hW) (form3 hg) (hp.form) hn (znM hok hn svp).few
   (fun j hj=>form3 (sv.pts j hj)) (fun x hx=>zci svp.skin hx) (fun k=>(zgT hn k).1) (fun k=>(zgT hn k).2)
   (fun W' hW' k hk=>by
    obtain⟨x,hx,hxk⟩:=hk;obtain⟨k',h1,h2⟩:=zci svp.skin hx;have hkk:k=k':=by omega
    subst hkk;have hpk:ps[k]?=X (ps[k]'h2):=gE h2;have hbs:bsP g ps r.pin k=bedsN g ps k (ps[k]'h2) r.pin (ps.length+1):=by unfold bsP;rw [hpk]
    rw [hbs];exact ziW W' vg vp g ps k (ps[k]'h2) r.pin (hg.ext' (hW.trans hW')) (hp.ext' (hW.trans hW')) (hgw.ext (hW.trans hW')) hl0 hpk (zeP h0).1 (zeP h0).2 hgr hok hn)
   (zc3 svp.skin) (zbX hl0 svp.skin r.pin).choose (zbX hl0 svp.skin r.pin).choose_spec
def catP (F0 F1 F2 F3:List Fd):Nat→List Fd
 | 0=>[]
 | 1=>F0
 | 2=>F0++F1
 | 3=>F0++F1++F2
 | _=>F0++F1++F2++F3
def lit4:Nat→Int
 | 0=>0
 | 1=>1
 | 2=>2
 | 3=>3
 | _=>4
def SurS (w3:V) (F0 F1 F2:List Fd) (C:List Fd→Prop) (gk:Nat) (t8 t29:I) (W:V):Prop:=
 ∃(i:Nat) (F3:List Fd),i≤4∧t29=Y J (lit4 i)∧gk=4-i∧Ext w3 W∧OwnC 73 4 W w3.heap.size t8 ((catP F0 F1 F2 F3 i).map fdc)∧(i=4→C F3)
theorem zeS {l:List Fd}:∀c∈l.map fdc,c.length=4:=by
 intro c hc;obtain⟨f,_,rfl⟩:=List.mem_map.1 hc;rfl
theorem zeT {l:List Fd}:∀u∈(l.map fdc).flatten,u.oneCell'=true:=by
 intro u hu;obtain⟨c,hc,h⟩:=List.mem_flatten.1 hu;obtain⟨f,_,rfl⟩:=List.mem_map.1 hc;simp [fdc]at h
 rcases h with rfl|rfl|rfl|rfl<;>rfl
def RetSuY (w:V) (g:List (Int×Int)) (ps:List Pl) (r:Ru) (e:Ending) (w':V):Prop:=
 ∃v ks L rs o,e = .returned (.tuple #[v,Y J 0])∧SvP r ps ks L rs∧SvB ks L rs∧CoI ps.length (fM ks (bsP g ps r.pin) ks.length) (keysJ ks) o [] ∧
  IsFds w' v (runP L rs r.run L.length++shP r ks L L.length++trP ks ks.length++unP o (levP o ks ks.length) r.level ks ks.length)∧Ext w w'
theorem ziu (w:V) (vg vp:I) (g:List (Int×Int)) (ps:List Pl) (r:Ru) (hg:IsPts w vg g) (hp:IsPls w vp ps) (hgw:Gw w) (h0:byE g ps r=0) :
  Calls Tryz.prog 13 #[M #[vg,vp],M (ruc r)] w (RetSuY w g ps r):=by
 have HB:=hd9 (fun W (hW:Ext w W)=>(zeq W vg vp g ps r (hg.ext' hW) (hp.ext' hW) (hgw.ext hW)).mono (fun e w' h=>h.resolve_left (fun h9=>h9.1 h0)))
 have hl0:laidP g ps=0:=by
  unfold byE at h0
  by_cases h:laidP g ps=0
  ·exact h
  ·rw [if_neg h]at h0;exact absurd h0 h
 have Hsv:=hd9 (fun(W:V) (hW:Ext w W) (sb:Nat) (vs vj vr:I) (ks:List (JS×I)) (L:List Jt) (rs:List Int) (sv:Sv W sb r vg vp vs vj vr ks L rs) (svp:SvP r ps ks L rs)=>ziv (hg.ext' hW) (hp.ext' hW) (hgw.ext hW) h0 hl0 sv svp);have Hbd:=hd9 (fun(ks:List (JS×I)) (L:List Jt) (rs:List Int) (svp:SvP r ps ks L rs)=>znM (zal hl0).1 (zal hl0).2.1 svp);have Hps:=hd9 (zal hl0).2.1;obtain⟨ga,gn,gc,rfl⟩:=form3 hg;obtain⟨pa,pn,pc1,rfl⟩:=form3 hp;obtain⟨R,hR⟩:=gX (RetSuY w g ps r);rw [hR];have HR:=hd9 hR;have hmf:∀(fn:Fn) (first cap:Array I) (w:V),(Instr.makeFunc fn first cap).run Tryz.prog w = .ok (.func fn first cap) w:=fun _ _ _ _=>rfl
 clear hg hp hgw hR h0 hl0;obtain⟨sk,pin,wide,lap,step,run,level⟩:=r;obtain⟨ru,hru⟩:∃x:Ru,(⟨sk,pin,wide,lap,step,run,level⟩:Ru)=x:=⟨_,rfl⟩;have Hru:=hd9 hru;unfold ruc at HB ⊢;dsimp only at HB;rw [hru]at HB Hsv Hbd HR;clear hru;go_enter Tryz.func13,Tryz.ntmps13
 go_wp2_with(go_at_call 28;(with_reducible refine(HB.out _ ?_).mono ?_);exact eA;rintro e w3 ⟨_,sb,vs,vj,vr,ks,L,rs,rfl,sv,svp,hx3⟩;have X3:Ext w w3:=eA)
 have hb:=Hbd.out ks L rs svp;have HX3:=hd9 X3;have Hb:=hd9 hb;have Hsvp:=hd9 svp;have H0:=hd9 (fun(W:V) (hW:Ext w3 W)=>zgA W sb ru _ _ vs vj vr ks L rs (sv.ext hW) hb.rlen hb.jts hb.rbd (by have:=hb.len;omega));have H1:=hd9 (fun(W:V) (hW:Ext w3 W)=>zkK W sb ru _ _ vs vj vr ks L rs (sv.ext hW) hb.jts hb.stones (fun j hj=>form3 (sv.pts j hj)) hb.few (by have:=hb.len;omega));have H2:=hd9 (fun(W:V) (hW:Ext w3 W)=>ziz W sb ru _ _ vs vj vr ks L rs (sv.ext hW) hb.stones (fun j hj=>form3 (sv.pts j hj)) hb.few)
 have H3:=hd9 (fun(W:V) (hW:Ext w3 W)=>ziK W sb ps.length ru _ _ vs vj vr ks L rs (fun o=>CoI ps.length (fM ks (bsP g ps ru.pin) ks.length) (keysJ ks) o []) (sv.ext hW) hb.stones (fun j hj=>form3 (sv.pts j hj)) hb.few
  (fun x hx=>zci svp.skin hx) (fun o ho=>⟨ho.len,fun v hv=>by have:=ho.bd v hv;have h2:=hb.few;unfold keysJ at this;rw [lL]at this;simp at this;omega⟩) (fun W' hW'=>Hsv.out w3 X3 sb vs vj vr ks L rs sv svp W' (hW.trans hW')))
 clear hb sv svp hx3 X3 HB Hsv Hbd;have b0:(runP L rs ru.run L.length).length≤14400:=nT (zdu _ _ _ _) Hb.out.len;have b1:(shP ru ks L L.length).length≤14400*120:=nT (zfd _ _ _ _) (Nat.mul_le_mul Hb.out.len Hb.out.few);have b2:(trP ks ks.length).length≤120:=nT (zfh _ _) Hb.out.few;have HC:=hd9 (fun(G:List Fd) (h:∃o,CoI ps.length (fM ks (bsP g ps ru.pin) ks.length) (keysJ ks) o []∧G=unP o (levP o ks ks.length) ru.level ks ks.length)=>h);obtain⟨C,hC⟩:∃C:List Fd→Prop,(fun G=>∃o,CoI ps.length (fM ks (bsP g ps ru.pin) ks.length) (keysJ ks) o []∧G=unP o (levP o ks ks.length) ru.level ks ks.length)=C:=⟨_,rfl⟩;have HC:=hd9 hC
 have H3:=hd9 (fun(W:V) (hW:Ext w3 W)=>(H3.out W hW).mono (fun e w' (h:∃v o,e = .returned v∧_∧_∧_)=>show ∃v G,e = .returned v∧C G∧G.length≤120∧OwnC 73 4 w' W.heap.size v (G.map fdc)∧Ext W w' by
  obtain⟨v,o,he,ho,hw,hx⟩:=h;exact⟨v,_,he,by rw [←hC];exact⟨o,ho,rfl⟩,nT (zfi _ _ _ _ _) Hb.out.few,hw,hx⟩))
 obtain⟨F0,hF0⟩:=gX (runP L rs ru.run L.length);obtain⟨F1,hF1⟩:=gX (shP ru ks L L.length);obtain⟨F2,hF2⟩:=gX (trP ks ks.length);rw [hF0]at H0 b0;rw [hF1]at H1 b1;rw [hF2]at H2 b2;have HF:=hd9 (And.intro hF0 (And.intro hF1 hF2));clear hC hF0 hF1 hF2;have ix0:∀w,(Instr.index 109 (M #[.func (.func 33) #[O (X ⟨sb,0,Z⟩)] #[],.func (.func 34) #[O (X ⟨sb,0,Z⟩)] #[],.func (.func 35) #[O (X ⟨sb,0,Z⟩)] #[],.func (.func 36) #[O (X ⟨sb,0,Z⟩)] #[]]) (Y J 0)).run Tryz.prog w = .ok (.func (.func 33) #[O (X ⟨sb,0,Z⟩)] #[]) w:=fun _=>by kernel_rfl
 have ix1:∀w,(Instr.index 109 (M #[.func (.func 33) #[O (X ⟨sb,0,Z⟩)] #[],.func (.func 34) #[O (X ⟨sb,0,Z⟩)] #[],.func (.func 35) #[O (X ⟨sb,0,Z⟩)] #[],.func (.func 36) #[O (X ⟨sb,0,Z⟩)] #[]]) (Y J 1)).run Tryz.prog w = .ok (.func (.func 34) #[O (X ⟨sb,0,Z⟩)] #[]) w:=fun _=>by kernel_rfl
 have ix2:∀w,(Instr.index 109 (M #[.func (.func 33) #[O (X ⟨sb,0,Z⟩)] #[],.func (.func 34) #[O (X ⟨sb,0,Z⟩)] #[],.func (.func 35) #[O (X ⟨sb,0,Z⟩)] #[],.func (.func 36) #[O (X ⟨sb,0,Z⟩)] #[]]) (Y J 2)).run Tryz.prog w = .ok (.func (.func 35) #[O (X ⟨sb,0,Z⟩)] #[]) w:=fun _=>by kernel_rfl
 have ix3:∀w,(Instr.index 109 (M #[.func (.func 33) #[O (X ⟨sb,0,Z⟩)] #[],.func (.func 34) #[O (X ⟨sb,0,Z⟩)] #[],.func (.func 35) #[O (X ⟨sb,0,Z⟩)] #[],.func (.func 36) #[O (X ⟨sb,0,Z⟩)] #[]]) (Y J 3)).run Tryz.prog w = .ok (.func (.func 36) #[O (X ⟨sb,0,Z⟩)] #[]) w:=fun _=>by kernel_rfl
 go_loopg [8,29] 4 (SurS w3 F0 F1 F2 C)
 case atStart=>exact⟨0,[],by omega,rfl,rfl,eR _,OwnC.nil _ _ _ _,fun h=>absurd h (by omega)⟩
 case round =>
  obtain⟨i,F3,hi,rfl,rfl,hx,hown,hc⟩:=hrel;obtain⟨va,vn,vc,rfl⟩:=hown.form3;have hwr:=hx.size;have Hown:=hd9 hown
  by_cases hlt:i<4
  ·clear hown hc
   rcases(show i=0∨i=1∨i=2∨i=3 by omega)with rfl|rfl|rfl|rfl
   ·simp only [lit4]
    go_wp2_with(first|(go_at_call 33;(with_reducible refine(H0.out _ hx).mono ?_);rintro e w5 ⟨v5,rfl,ho5,hx5⟩;obtain⟨a5,n5,c5,rfl⟩:=ho5.form3;have z5:=hx5.size)|(at_builtin;refine appS (T:=73) (t:=63) (z:=M #[Y .u8 0,Y J 0,Y J 0,Y J 0]) (k:=4) (bytes:=32) (base:=w3.heap.size) (v:=E va vn vc) (cs:=(catP F0 F1 F2 F3 0).map fdc) zbU rfl (by decide) (by decide) Tryz.underlying63 rfl _ _ rfl rfl (Hown.out.ext hx5) rfl (F0.map fdc) zeS ho5.rd zeT (by unfold catP;simp only [lL,lA,List.length_nil];omega) (by omega) ?_;intro v' w6 hown6 hgrow hlie))
    go_roundg (4-(0+1))
    case measure=>omega
    case rel =>
     refine⟨1,F3,by omega,rfl,rfl,zaS (hx.trans hx5) hgrow (fun j hj=>(Hown.out.lt j hj).1),?_,fun h=>absurd h (by omega)⟩;rw [←List.map_append]at hown6;exact hown6
   ·simp only [lit4]
    go_wp2_with(first|(go_at_call 34;(with_reducible refine(H1.out _ hx).mono ?_);rintro e w5 ⟨v5,rfl,ho5,hx5⟩;obtain⟨a5,n5,c5,rfl⟩:=ho5.form3;have z5:=hx5.size)|(at_builtin;refine appS (T:=73) (t:=63) (z:=M #[Y .u8 0,Y J 0,Y J 0,Y J 0]) (k:=4) (bytes:=32) (base:=w3.heap.size) (v:=E va vn vc) (cs:=(catP F0 F1 F2 F3 1).map fdc) zbU rfl (by decide) (by decide) Tryz.underlying63 rfl _ _ rfl rfl (Hown.out.ext hx5) rfl (F1.map fdc) zeS ho5.rd zeT (by unfold catP;simp only [lL,lA,List.length_nil];omega) (by omega) ?_;intro v' w6 hown6 hgrow hlie))
    go_roundg (4-(1+1))
    case measure=>omega
    case rel =>
     refine⟨2,F3,by omega,rfl,rfl,zaS (hx.trans hx5) hgrow (fun j hj=>(Hown.out.lt j hj).1),?_,fun h=>absurd h (by omega)⟩;rw [←List.map_append]at hown6;exact hown6
   ·simp only [lit4]
    go_wp2_with(first|(go_at_call 35;(with_reducible refine(H2.out _ hx).mono ?_);rintro e w5 ⟨v5,rfl,ho5,hx5⟩;obtain⟨a5,n5,c5,rfl⟩:=ho5.form3;have z5:=hx5.size)|(at_builtin;refine appS (T:=73) (t:=63) (z:=M #[Y .u8 0,Y J 0,Y J 0,Y J 0]) (k:=4) (bytes:=32) (base:=w3.heap.size) (v:=E va vn vc) (cs:=(catP F0 F1 F2 F3 2).map fdc) zbU rfl (by decide) (by decide) Tryz.underlying63 rfl _ _ rfl rfl (Hown.out.ext hx5) rfl (F2.map fdc) zeS ho5.rd zeT (by unfold catP;simp only [lL,lA,List.length_nil];omega) (by omega) ?_;intro v' w6 hown6 hgrow hlie))
    go_roundg (4-(2+1))
    case measure=>omega
    case rel =>
     refine⟨3,F3,by omega,rfl,rfl,zaS (hx.trans hx5) hgrow (fun j hj=>(Hown.out.lt j hj).1),?_,fun h=>absurd h (by omega)⟩;rw [←List.map_append]at hown6;exact hown6
   ·simp only [lit4]
    go_wp2_with(first|(go_at_call 36;(with_reducible refine(H3.out _ hx).mono ?_);rintro e w5 ⟨v5,G3,rfl,hC5,hG5,ho5,hx5⟩;obtain⟨a5,n5,c5,rfl⟩:=ho5.form3;have z5:=hx5.size)|(at_builtin;refine appS (T:=73) (t:=63) (z:=M #[Y .u8 0,Y J 0,Y J 0,Y J 0]) (k:=4) (bytes:=32) (base:=w3.heap.size) (v:=E va vn vc) (cs:=(catP F0 F1 F2 F3 3).map fdc) zbU rfl (by decide) (by decide) Tryz.underlying63 rfl _ _ rfl rfl (Hown.out.ext hx5) rfl (G3.map fdc) zeS ho5.rd zeT (by unfold catP;simp only [lL,lA,List.length_nil];omega) (by omega) ?_;intro v' w6 hown6 hgrow hlie))
    go_roundg (4-(3+1))
    case measure=>omega
    case rel =>
     refine⟨4,G3,by omega,rfl,rfl,zaS (hx.trans hx5) hgrow (fun j hj=>(Hown.out.lt j hj).1),?_,fun _=>hC5⟩;rw [←List.map_append]at hown6;exact hown6
  ·obtain rfl:i=4:=by omega
   have hC4:=hc rfl;rw [←HC.out]at hC4;obtain⟨o,ho,rfl⟩:=hC4;have Hx:=hd9 hx;have Ho:=hd9 ho;clear hown hc hx ho;simp only [lit4];go_wp2;rw [←HR.out];obtain⟨e0,e1,e2⟩:=HF.out;refine⟨_,ks,L,rs,o,rfl,Hsvp.out,Hb.out,Ho.out,?_,HX3.out.trans Hx.out⟩;rw [e0,e1,e2];exact Hown.out.fds
theorem zkQ (w:V) (vg vp:I) (g:List (Int×Int)) (ps:List Pl) (r:Ru) (hg:IsPts w vg g) (hp:IsPls w vp ps) (hgw:Gw w) (h0:byE g ps r≠0) :
  Calls Tryz.prog 13 #[M #[vg,vp],M (ruc r)] w fun e w'=>e = .returned (.tuple #[E Z 0 0,Y J (byE g ps r)])∧Ext w w':=by
 have HB:=hd9 (fun W (hW:Ext w W)=>(zeq W vg vp g ps r (hg.ext' hW) (hp.ext' hW) (hgw.ext hW)).mono (fun e w' h=>h.resolve_right (fun h9=>h0 h9.1)));obtain⟨ga,gn,gc,rfl⟩:=form3 hg;obtain⟨pa,pn,pc1,rfl⟩:=form3 hp;obtain⟨k,hk⟩:=gX (byE g ps r);rw [hk]at HB h0 ⊢;have u0:(k != 0)=true:=by simpa using h0
 obtain⟨R,hR⟩:∃R:Ending→V→Prop,(fun e w'=>e = .returned (.tuple #[E Z 0 0,Y J k])∧Ext w w')=R:=⟨_,rfl⟩;rw [hR];have HR:=hd9 hR;clear hR;clear hg hp hgw hk h0;obtain⟨sk,pin,wide,lap,step,run,level⟩:=r;unfold ruc at HB ⊢;dsimp only at HB;go_enter Tryz.func13,Tryz.ntmps13
 go_wp2_with(go_at_call 28;(with_reducible refine(HB.out _ ?_).mono ?_);exact eA;rintro e w3 ⟨_,rfl,hx3⟩)
 rw [←HR.out];exact⟨rfl,eA⟩
end
section
open Go.RowKit Go.Shelf Go.Sort Go.Lib
section
variable {g:List (Int×Int)} {ps:List Pl} {r:Ru} {ks:List (JS×I)} {o:List Int} (hs:ks.map Prod.fst=skinP r ps) (hI:CoI ps.length (fM ks (bsP g ps r.pin) ks.length) (keysJ ks) o [])
include hs hI
omit hs in
omit hs in
end
end
section
open Go.RowKit Go.Shelf Go.Sort Go.Lib Go.Maps
theorem zmI {ps:List Pl} {a b:JS} (ha:a∈jsP ps) (hb:b∈jsP ps) (h:a.k=b.k):a=b:=by
 obtain⟨i,hi⟩:=List.getElem?_of_mem ha;obtain⟨j,hj⟩:=List.getElem?_of_mem hb;unfold jsP at hi hj;rw [List.getElem?_mapIdx]at hi hj
 cases hp:ps[i]? with
 | none=>rw [hp]at hi;cases hi
 | some p =>
  cases hq:ps[j]? with
  | none=>rw [hq]at hj;cases hj
  | some q =>
   rw [hp]at hi;rw [hq]at hj
   cases hi
   cases hj
   have e:i=j:=by unfold jsOf at h;dsimp only at h;omega
   subst e;rw [hp]at hq
   cases hq
   rfl
theorem znF {r:Ru} {ps:List Pl} {x y:Jt} (hx:x∈rawP r (skinP r ps)) (hy:y∈rawP r (skinP r ps)) (h1:¬cfT y x<0) (h2:¬cfT x y<0):x=y:=by
 unfold rawP rowP at hx hy;obtain⟨a,ha,h3⟩:=List.mem_flatMap.1 hx;obtain⟨b,hb,rfl⟩:=List.mem_map.1 h3;obtain⟨c,hc,h4⟩:=List.mem_flatMap.1 hy;obtain⟨d,hd,rfl⟩:=List.mem_map.1 h4;rw [zgU]at h1 h2;have e1:(jtOf a b).a=(jtOf c d).a:=by omega
 have e2:(jtOf a b).b=(jtOf c d).b:=by omega
 have e3:a=c:=zmI (zbL ha) (zbL hc) e1;have e4:b=d:=zmI (zbL (List.mem_filter.1 hb).1) (zbL (List.mem_filter.1 hd).1) e2;rw [e3,e4]
theorem zoD {n:Nat} {und:Nat→List Int} {K:List Nat} {o o':List Int} (h:CoI n und K o []) (h':CoI n und K o' []) (rk:Nat→Nat) (hrk:∀k∈K,∀z∈und k,0≤z∧z.toNat∈K∧rk z.toNat<rk k):o=o':=by
 have key:∀(m k:Nat),rk k≤m→k∈K→o.getD k 0=o'.getD k 0:=by
  intro m
  induction m with
  | zero =>
   intro k hm hk;rw [(h.done k hk (by simp)).1,(h'.done k hk (by simp)).1]
   congr 1
   exact zck fun z hz=>by have:=(hrk k hk z hz).2.2;omega
  | succ m ih =>
   intro k hm hk;rw [(h.done k hk (by simp)).1,(h'.done k hk (by simp)).1]
   congr 1
   exact zck fun z hz=>by
    obtain⟨_,q1,q2⟩:=hrk k hk z hz;exact ih _ (by omega) q1
 have hall:∀k,o.getD k 0=o'.getD k 0:=by
  intro k
  by_cases hk:k∈K
  ·exact key _ k (nE _) hk
  ·rw [h.off k hk,h'.off k hk]
 refine List.ext_getElem (by rw [h.len,h'.len]) fun i h1 h2=>?_
 have:=hall i;rw [gD,gD,gE h1,gE h2]at this;exact this
theorem zmm {ks ks':List (JS×I)} (hk:ks'.map Prod.fst=ks.map Prod.fst):∀i,trP ks' i=trP ks i
 | 0=>rfl
 | i+1=>by
  have h4:(ks'[i]?).map Prod.fst=(ks[i]?).map Prod.fst:=by rw [←lP,←lP,hk]
  unfold trP;rw [zmm hk i]
  cases q:ks'[i]? with
  | none =>
   rw [q]at h4
   cases q2:ks[i]? with
   | none=>rfl
   | some y=>rw [q2]at h4;cases h4
  | some x =>
   rw [q]at h4
   cases q2:ks[i]? with
   | none=>rw [q2]at h4;cases h4
   | some y =>
    rw [q2]at h4;have e:x.1=y.1:=by simpa using h4
    dsimp only;rw [e]
theorem zj5 {o:List Int} {ks ks':List (JS×I)} (hk:ks'.map Prod.fst=ks.map Prod.fst):∀i,levP o ks' i=levP o ks i
 | 0=>rfl
 | i+1=>by
  have h4:(ks'[i]?).map Prod.fst=(ks[i]?).map Prod.fst:=by rw [←lP,←lP,hk]
  unfold levP;rw [zj5 hk i]
  cases q:ks'[i]? with
  | none =>
   rw [q]at h4
   cases q2:ks[i]? with
   | none=>rfl
   | some y=>rw [q2]at h4;cases h4
  | some x =>
   rw [q]at h4
   cases q2:ks[i]? with
   | none=>rw [q2]at h4;cases h4
   | some y =>
    rw [q2]at h4;have e:x.1=y.1:=by simpa using h4
    dsimp only;rw [e]
theorem zmp {o:List Int} {lev:Nat→Option Int} {level:Int} {ks ks':List (JS×I)} (hk:ks'.map Prod.fst=ks.map Prod.fst):∀i,unP o lev level ks' i=unP o lev level ks i
 | 0=>rfl
 | i+1=>by
  have h4:(ks'[i]?).map Prod.fst=(ks[i]?).map Prod.fst:=by rw [←lP,←lP,hk]
  unfold unP;rw [zmp hk i]
  cases q:ks'[i]? with
  | none =>
   rw [q]at h4
   cases q2:ks[i]? with
   | none=>rfl
   | some y=>rw [q2]at h4;cases h4
  | some x =>
   rw [q]at h4
   cases q2:ks[i]? with
   | none=>rw [q2]at h4;cases h4
   | some y =>
    rw [q2]at h4;have e:x.1=y.1:=by simpa using h4
    dsimp only;rw [e]
theorem zpg {ks ks':List (JS×I)} (hk:ks'.map Prod.fst=ks.map Prod.fst) (i:Nat):(ks'[i]?).map Prod.fst=(ks[i]?).map Prod.fst:=by rw [←lP,←lP,hk]
def FdsOf (g:List (Int×Int)) (ps:List Pl) (r:Ru) (l:List Fd):Prop:=
 ∃ks L rs o,SvP r ps ks L rs∧CoI ps.length (fM ks (bsP g ps r.pin) ks.length) (keysJ ks) o []∧l=runP L rs r.run L.length++shP r ks L L.length++trP ks ks.length++unP o (levP o ks ks.length) r.level ks ks.length
end
end Go.Proofs.YteipgejmhfpkaaaGreatDoor.Cop
