/- Part 36: contracts of what the law calls. -/
import Derived.Test.YteipgejmhfpkaaaGreatDoorCopA34
set_option maxRecDepth 1000000
set_option maxHeartbeats 16000000
set_option linter.unusedSimpArgs false
set_option linter.unusedVariables false
open Go.Value renaming int→O,slice→X
open Go.IntKind renaming i64→Y
open Option renaming none→Z
namespace Go.Proofs.YteipgejmhfpkaaaGreatDoor.Cop
section
open Go.RowKit Go.Shelf Go.Sort Go.Lib
attribute [local go_sem] Oper.semAt_some
def skipJ (r:Ru) (j:Jt) (x:JS):Bool:=decide (x.z.1≤j.fr) || (!nearB r.step x.z.1 j.til || (decide (j.right<x.x.1) || decide (x.x.2<j.left)))
def lapJ (j:Jt) (x:JS):Int:=min (j.left-x.x.1) (x.x.2-j.right)
def shJ (r:Ru) (k:Nat) (j:Jt) (x:JS):List Fd:=if skipJ r j x=true then []else if lapJ j x<r.lap then [⟨2,k,x.k,lapJ j x⟩]else []
def shRow (r:Ru) (k:Nat) (j:Jt) (ks:List (JS×Value)):Nat→List Fd
 | 0=>[]
 | i+1=>shRow r k j ks i++(match ks[i]? with|some x=>shJ r k j x.1|none=>[])
def shP (r:Ru) (ks:List (JS×Value)) (L:List Jt):Nat→List Fd
 | 0=>[]
 | k+1=>shP r ks L k++(match L[k]? with|some j=>shRow r k j ks ks.length|none=>[])
theorem znK (r:Ru) (k:Nat) (j:Jt) (x:JS):(shJ r k j x).length≤1:=by
 unfold shJ
 split
 ·simp
 ·split<;>simp
theorem zec (r:Ru) (k:Nat) (j:Jt) (ks:List (JS×Value)):∀i,(shRow r k j ks i).length≤i
 | 0=>nE _
 | i+1=>by
  have:=zec r k j ks i;unfold shRow;rw [lA]
  split
  ·rename_i x _
   have:=znK r k j x.1;omega
  ·simp;omega
theorem zfd (r:Ru) (ks:List (JS×Value)) (L:List Jt):∀k,(shP r ks L k).length≤k*ks.length
 | 0=>by simp [shP]
 | k+1=>by
  have:=zfd r ks L k;unfold shP;rw [lA,Nat.succ_mul]
  split
  ·rename_i j _
   have:=zec r k j ks ks.length;omega
  ·simp;omega
def ShS (w:World) (r:Ru) (ks:List (JS×Value)) (L:List Jt) (gk:Nat) (t3 t14:Value) (W:World):Prop:=
 ∃i:Nat,i≤L.length∧t14=O Y (i:Nat)∧gk=L.length-i∧Ext w W∧OwnC 73 4 W w.heap.size t3 ((shP r ks L i).map fdc)
def ShN (w:World) (b5:Nat) (r:Ru) (k:Nat) (j:Jt) (ks:List (JS×Value)) (B:List Fd) (gk:Nat) (t3 t24:Value) (W:World):Prop:=
 ∃i:Nat,i≤ks.length∧t24=O Y (i:Nat)∧gk=ks.length-i∧Ext w W∧W.heap[b5]?=some (.cells (jta j) 75 (0,0))∧OwnC 73 4 W w.heap.size t3 ((B++shRow r k j ks i).map fdc)
def CutE (b:Bool) (W0:World) (t:Value) (W:World):Prop:=t = .bool b∧Ext W0 W
theorem zkK (w:World) (sb:Nat) (r:Ru) (vg vp vs vj vr:Value) (ks:List (JS×Value)) (L:List Jt) (rs:List Int) (sv:Sv w sb r vg vp vs vj vr ks L rs) (hL:∀j∈L,BJt j) (hkb:∀x∈ks,BJS x.1) (hkv:∀j∈ks,∃a n c,j.2=X a n c) (hl9:ks.length≤120) (hL9:L.length≤100000) :
  Calls Tryz.prog 34 #[.pointer (some ⟨sb,0,Z⟩)] w fun e w'=>∃v,e = .returned v∧OwnC 73 4 w' w.heap.size v ((shP r ks L L.length).map fdc)∧Ext w w':=by
 have Hjs:=hd9 sv.skin;have Hjt:=hd9 sv.joints;obtain⟨sa,sn,sc,rfl⟩:=form3 sv.skin;obtain⟨ja,jn,jc9,rfl⟩:=form3 sv.joints;have Hn:=hd9 (show sn=ks.length from sv.skin.len);have Hjn:=hd9 (show jn=L.length from sv.joints.len);have s9:=qcB sv.blk (i:=9) (u:=X sa sn sc) rfl;have s10:=qcB sv.blk (i:=10) (u:=X ja jn jc9) rfl;have sblk:=sv.blk;obtain⟨sk,pin,wide,lap,step,run,level⟩:=r;have s0:=qcB sblk (i:=0) (u:=O .u8 sk) rfl;have s1:=qcB sblk (i:=1) (u:=O Y pin) rfl;have s2:=qcB sblk (i:=2) (u:=O Y wide) rfl;have s3:=qcB sblk (i:=3) (u:=O Y lap) rfl;have s4:=qcB sblk (i:=4) (u:=O Y step) rfl;have s5:=qcB sblk (i:=5) (u:=O Y run) rfl;have s6:=qcB sblk (i:=6) (u:=O Y level) rfl;have zs:=zab sblk;obtain⟨R,hR⟩:∃R:Ending→World→Prop,(fun e w'=>∃v,e = .returned v∧OwnC 73 4 w' w.heap.size v ((shP ⟨sk,pin,wide,lap,step,run,level⟩ ks L L.length).map fdc)∧Ext w w')=R:=⟨_,rfl⟩;rw [hR];have HR:=hd9 hR;have hj9:sn≤120:=by rw [Hn.out];exact hl9
 have hjn9:jn≤100000:=by rw [Hjn.out];exact hL9
 have Hkb:=hd9 hkb;have Hkv:=hd9 hkv;have HL:=hd9 hL;obtain⟨ru,hru⟩:∃x:Ru,(⟨sk,pin,wide,lap,step,run,level⟩:Ru)=x:=⟨_,rfl⟩;have Hru:=hd9 hru;rw [hru]at HR;clear hR sv hkb hkv hl9 sblk hL hL9 hru;go_enter Tryz.func34,Tryz.ntmps34;go_wp2
 go_loopg [3,14] jn (ShS w ru ks L)
 case atStart=>exact⟨0,Nat.zero_le _,rfl,by rw [Hjn.out];rfl,eR _,OwnC.nil _ _ _ _⟩
 case round =>
  obtain⟨k,hk,rfl,rfl,hx,hown⟩:=hrel;rw [←Hjn.out]at hk;obtain⟨va,vn,vc,rfl⟩:=hown.form3
  by_cases hlk:k<jn
  ·obtain⟨j,hj⟩:∃j,L[k]?=some j:=⟨L[k]'(by rw [←Hjn.out];exact hlk),gE _⟩
   have hbt:=HL.out j (lM hj)
   have Hstk:=hd9 (show shP ru ks L (k+1)=shP ru ks L k++shRow ru k j ks ks.length by
    show _++_=_
    rw [hj])
   obtain⟨jb,jo,d,rfl,hjb,_,hd,hc⟩:=Sl.at (Hjt.out.ext' hx) hj;subst hd;obtain⟨A,B,jl,jr,jf,jt⟩:=j;have jc0:=hc 0 (O Y A) rfl;have jc1:=hc 1 (O Y B) rfl;have jc2:=hc 2 (O Y jl) rfl;have jc3:=hc 3 (O Y jr) rfl;have jc4:=hc 4 (O Y jf) rfl;have jc5:=hc 5 (O Y jt) rfl;simp only [Nat.add_zero]at jc0;obtain⟨_,_,bt2,bt3,bt4,bt5⟩:=hbt;dsimp only at bt2 bt3 bt4 bt5;have hk2:(k:Int)<(jn:Int):=by omega
   have h9:=hx.cellS s9;have hBl:=nT (zfd ru ks L k) (Nat.mul_le_mul hk (show ks.length≤120 by rw [←Hn.out];exact hj9));obtain⟨Bl,hBl9⟩:=gX (shP ru ks L k);rw [hBl9]at Hstk hBl hown;have HBl:=hd9 (show Bl.length≤12000000 by omega);obtain⟨b5,hb5⟩:=gX wr.heap.size;have z5:w.heap.size≤b5:=by have:=hx.size;omega
   have zsk:sb<wr.heap.size:=by omega
   have HI0:=hd9 (show ShN w b5 ru k ⟨A,B,jl,jr,jf,jt⟩ ks Bl sn (X va vn vc) (O Y 0) (wr.alloc (.cells #[O Y A,O Y B,O Y jl,O Y jr,O Y jf,O Y jt] 75))from
    ⟨0,Nat.zero_le _,rfl,by rw [Hn.out];rfl,hx.alloc _,qhA _ _ _ hb5.symm,by rw [show Bl++shRow ru k ⟨A,B,jl,jr,jf,jt⟩ ks 0=Bl from List.append_nil _];exact hown.ext ((eR _).alloc _)⟩)
   have Hb5:=hd9 hb5;clear hown hc hj hx hBl hBl9 hb5;go_wp2;simp only [Hb5.out]
   go_loopg [3,24] sn (ShN w b5 ru k ⟨A,B,jl,jr,jf,jt⟩ ks Bl)
   case atStart=>exact HI0.out
   case round =>
    clear HI0 jc0 jc1 jc2 jc3 jc4 jc5 h9 Hb5;obtain⟨i,hi,rfl,rfl,hx,hK5,hown⟩:=hrel;rw [←Hn.out]at hi;obtain⟨va,vn,vc,rfl⟩:=hown.form3;have hwr:=hx.size;have z5r:=zab hK5
    by_cases hlt:i<sn
    ·skip
     obtain⟨x,hxi⟩:∃x,ks[i]?=some x:=⟨ks[i]'(by rw [←Hn.out];exact hlt),gE _⟩;have hbj:=Hkb.out x (lM hxi);obtain⟨⟨p,kk,⟨xl,xh⟩,⟨zl,zh⟩⟩,vx⟩:=x;obtain⟨sa1,sn1,sc1,rfl⟩:∃a n c,vx=X a n c:=Hkv.out _ (lM hxi);obtain⟨b9,o9,rfl,hb9,hc⟩:=(Hjs.out.ext' hx).at' hxi;have xc0:=hc 0 (.string p.name) rfl;have xc1:=hc 1 (X sa1 sn1 sc1) rfl;have xc2:=hc 2 (O Y p.depth) rfl;have xc3:=hc 3 (O Y p.density) rfl;have xc4:=hc 4 (O Y p.gx) rfl;have xc5:=hc 5 (O Y p.gz) rfl;have xc6:=hc 6 (O Y p.way) rfl;have xc7:=hc 7 (O Y p.ax) rfl;have xc8:=hc 8 (O Y p.az) rfl;have xc9:=hc 9 (O .u8 p.skin) rfl;have xc10:=hc 10 (O Y kk) rfl;have xc11:=hc 11 (O Y xl) rfl;have xc12:=hc 12 (O Y xh) rfl;have xc13:=hc 13 (O Y zl) rfl;have xc14:=hc 14 (O Y zh) rfl;simp only [Nat.add_zero]at xc0;obtain⟨b1,b2,b3,-,-,-⟩:=hbj;dsimp only at b1 b2 b3
     have hstp:shRow ru k ⟨A,B,jl,jr,jf,jt⟩ ks (i+1)=shRow ru k ⟨A,B,jl,jr,jf,jt⟩ ks i++shJ ru k ⟨A,B,jl,jr,jf,jt⟩ ⟨p,kk,(xl,xh),(zl,zh)⟩:=by
      show _++_=_
      rw [hxi]
     have Hstp:=hd9 hstp;have HN:=hd9 (fun(W:World)=>zhe W sk pin wide lap step run level zl jt (show Bd 1000000 zl by unfold Bd at b3 ⊢;omega) bt5);have g0:=hx.cellS s0;have g1:=hx.cellS s1;have g2:=hx.cellS s2;have g3:=hx.cellS s3;have g4:=hx.cellS s4;have g5:=hx.cellS s5;have g6:=hx.cellS s6;have k2:=qcB hK5 (i:=2) (u:=O Y jl) rfl;have k3:=qcB hK5 (i:=3) (u:=O Y jr) rfl;have k4:=qcB hK5 (i:=4) (u:=O Y jf) rfl;have k5:=qcB hK5 (i:=5) (u:=O Y jt) rfl;have HK5:=hd9 hK5;have Hx:=hd9 hx;have Hown:=hd9 hown;have zsr:sb<wr.heap.size:=by omega
     have hlt2:(i:Int)<(sn:Int):=by omega
     have hlen9:(Bl++shRow ru k ⟨A,B,jl,jr,jf,jt⟩ ks i).length≤12000120:=by
      have:=zec ru k ⟨A,B,jl,jr,jf,jt⟩ ks i;have:=HBl.out;rw [lA];omega
     have Hlen9:=hd9 hlen9;obtain⟨sp,hsp⟩:=gX (skipJ ⟨sk,pin,wide,lap,step,run,level⟩ ⟨A,B,jl,jr,jf,jt⟩ ⟨p,kk,(xl,xh),(zl,zh)⟩);have Hsp:=hd9 hsp;unfold Bd at b1 b2 b3 bt2 bt3;clear hown hxi hc hx hK5 hstp hlen9 hsp
     go_upto_region 8 with fail
     obtain⟨w8,hw8⟩:=gX (wr.alloc (.cells #[.string p.name,X sa1 sn1 sc1,O Y p.depth,O Y p.density,O Y p.gx,O Y p.gz,O Y p.way,O Y p.ax,O Y p.az,O .u8 p.skin,O Y kk,O Y xl,O Y xh,O Y zl,O Y zh] 127));obtain⟨b8,hb8⟩:=gX wr.heap.size;have hE8:Ext wr w8:=by rw [←hw8];exact(eR _).alloc _
     have hK8:w8.heap[b8]?=some (.cells #[.string p.name,X sa1 sn1 sc1,O Y p.depth,O Y p.density,O Y p.gx,O Y p.gz,O Y p.way,O Y p.ax,O Y p.az,O .u8 p.skin,O Y kk,O Y xl,O Y xh,O Y zl,O Y zh] 127 (0,0)):=by rw [←hw8];exact qhA _ _ _ hb8.symm
     rw [hw8]
     try simp only [hb8]
     have y10:=qcB hK8 (i:=10) (u:=O Y kk) rfl;have y11:=qcB hK8 (i:=11) (u:=O Y xl) rfl;have y12:=qcB hK8 (i:=12) (u:=O Y xh) rfl;have y13:=qcB hK8 (i:=13) (u:=O Y zl) rfl;have g0:=hE8.cellS g0;have g1:=hE8.cellS g1;have g2:=hE8.cellS g2;have g3:=hE8.cellS g3;have g4:=hE8.cellS g4;have g5:=hE8.cellS g5;have g6:=hE8.cellS g6;have k2:=hE8.cellS k2;have k3:=hE8.cellS k3;have k4:=hE8.cellS k4;have k5:=hE8.cellS k5;have HE8:=hd9 hE8;clear hK8 hw8 hE8 xc0 xc1 xc2 xc3 xc4 xc5 xc6 xc7 xc8 xc9 xc10 xc11 xc12 xc13 xc14
     go_cut [62] (CutE sp w8)
     case first =>
      obtain⟨nb,hnb⟩:=gX (nearB step zl jt);have Hnb:=hd9 hnb;rw [hnb]at HN;clear hnb
      by_cases h1:zl≤jf
      ·skip
       have e:sp=true:=by rw [←Hsp.out];unfold skipJ;simp [h1]
       subst e;refine wp_region_held_drew (S:=CellL [(⟨b8,11,Z⟩,O Y xl),(⟨b8,12,Z⟩,O Y xh),(⟨b8,13,Z⟩,O Y zl),(⟨b5,2,Z⟩,O Y jl),(⟨b5,3,Z⟩,O Y jr),(⟨b5,4,Z⟩,O Y jf),(⟨b5,5,Z⟩,O Y jt),(⟨sb,0,Z⟩,O .u8 sk),(⟨sb,1,Z⟩,O Y pin),(⟨sb,2,Z⟩,O Y wide),(⟨sb,3,Z⟩,O Y lap),(⟨sb,4,Z⟩,O Y step),(⟨sb,5,Z⟩,O Y run),(⟨sb,6,Z⟩,O Y level)]) (by kernel_rfl) cA (fun h9H=>?_);refine sN 0 ?_
       iterate 7
        refine tkn ?_
       iterate 11
        refine tkgn ?_
       iterate 2
        refine tkn ?_
       iterate 6
        refine tkgn ?_
       iterate 2
        refine tkn ?_
       iterate 6
        refine tkgn ?_
       refine tkn ?_;refine oN ?_;refine wpAnyH_done (by kernel_rfl) ?_ _;go_wp2;go_meet;exact⟨rfl,(eR _).drew⟩
      ·cases nb with
       | false =>
        have e:sp=true:=by rw [←Hsp.out];unfold skipJ;simp [h1,Hnb.out]
        subst e;refine wp_region_held_drew (S:=CellL [(⟨b8,11,Z⟩,O Y xl),(⟨b8,12,Z⟩,O Y xh),(⟨b8,13,Z⟩,O Y zl),(⟨b5,2,Z⟩,O Y jl),(⟨b5,3,Z⟩,O Y jr),(⟨b5,4,Z⟩,O Y jf),(⟨b5,5,Z⟩,O Y jt),(⟨sb,0,Z⟩,O .u8 sk),(⟨sb,1,Z⟩,O Y pin),(⟨sb,2,Z⟩,O Y wide),(⟨sb,3,Z⟩,O Y lap),(⟨sb,4,Z⟩,O Y step),(⟨sb,5,Z⟩,O Y run),(⟨sb,6,Z⟩,O Y level)]) (by kernel_rfl) cA (fun h9H=>?_);refine sN 0 ?_
        iterate 16
         refine tkn ?_
        refine oN ?_;refine cl1 (i:=16) fun K hK=>?_
        go_simp
        (with_reducible refine cM (HN.out _) ?_)
        rintro e w16 ⟨rfl,hx16⟩
        skip
        go_wp2_with fail
        refine kO hK (cE h9H hx16) (fun h9H=>?_);clear hK K;refine sN 17 ?_
        iterate 3
         refine tkn ?_
        iterate 6
         refine tkgn ?_
        iterate 2
         refine tkn ?_
        iterate 6
         refine tkgn ?_
        refine tkn ?_;refine oN ?_;refine wpAnyH_done (by kernel_rfl) ?_ _;go_wp2;go_meet;exact⟨rfl,(eR _).drew.trans hx16⟩
       | true =>
        by_cases h3:jr<xl
        ·skip
         have e:sp=true:=by rw [←Hsp.out];unfold skipJ;simp [h1,Hnb.out,h3]
         subst e;refine wp_region_held_drew (S:=CellL [(⟨b8,11,Z⟩,O Y xl),(⟨b8,12,Z⟩,O Y xh),(⟨b8,13,Z⟩,O Y zl),(⟨b5,2,Z⟩,O Y jl),(⟨b5,3,Z⟩,O Y jr),(⟨b5,4,Z⟩,O Y jf),(⟨b5,5,Z⟩,O Y jt),(⟨sb,0,Z⟩,O .u8 sk),(⟨sb,1,Z⟩,O Y pin),(⟨sb,2,Z⟩,O Y wide),(⟨sb,3,Z⟩,O Y lap),(⟨sb,4,Z⟩,O Y step),(⟨sb,5,Z⟩,O Y run),(⟨sb,6,Z⟩,O Y level)]) (by kernel_rfl) cA (fun h9H=>?_);refine sN 0 ?_
         iterate 16
          refine tkn ?_
         refine oN ?_;refine cl1 (i:=16) fun K hK=>?_
         go_simp
         (with_reducible refine cM (HN.out _) ?_)
         rintro e w16 ⟨rfl,hx16⟩
         skip
         go_wp2_with fail
         refine kO hK (cE h9H hx16) (fun h9H=>?_);clear hK K;refine sN 17 ?_
         iterate 11
          refine tkn ?_
         iterate 6
          refine tkgn ?_
         refine tkn ?_;refine oN ?_;refine wpAnyH_done (by kernel_rfl) ?_ _;go_wp2;go_meet;exact⟨rfl,(eR _).drew.trans hx16⟩
        ·have h3d:decide (jr<xl)=false:=by simpa using h3
         by_cases h4:xh<jl
         ·skip
          have e:sp=true:=by rw [←Hsp.out];unfold skipJ;simp [h1,Hnb.out,h3,h4]
          subst e;refine wp_region_held_drew (S:=CellL [(⟨b8,11,Z⟩,O Y xl),(⟨b8,12,Z⟩,O Y xh),(⟨b8,13,Z⟩,O Y zl),(⟨b5,2,Z⟩,O Y jl),(⟨b5,3,Z⟩,O Y jr),(⟨b5,4,Z⟩,O Y jf),(⟨b5,5,Z⟩,O Y jt),(⟨sb,0,Z⟩,O .u8 sk),(⟨sb,1,Z⟩,O Y pin),(⟨sb,2,Z⟩,O Y wide),(⟨sb,3,Z⟩,O Y lap),(⟨sb,4,Z⟩,O Y step),(⟨sb,5,Z⟩,O Y run),(⟨sb,6,Z⟩,O Y level)]) (by kernel_rfl) cA (fun h9H=>?_);refine sN 0 ?_
          iterate 16
           refine tkn ?_
          refine oN ?_;refine cl1 (i:=16) fun K hK=>?_
          go_simp
          (with_reducible refine cM (HN.out _) ?_)
          rintro e w16 ⟨rfl,hx16⟩
          skip
          go_wp2_with fail
          refine kO hK (cE h9H hx16) (fun h9H=>?_);clear hK K;refine sN 17 ?_
          iterate 18
           refine tkn ?_
          refine oN ?_;refine wpAnyH_done (by kernel_rfl) ?_ _;go_wp2;go_meet;exact⟨rfl,(eR _).drew.trans hx16⟩
         ·skip
          have h1a:jf<zl:=by omega
          have h4d:decide (xh<jl)=false:=by simpa using h4
          have e:sp=false:=by rw [←Hsp.out];unfold skipJ;simp [h1,Hnb.out,h3,h4,h1a]
          subst e;refine wp_region_held_drew (S:=CellL [(⟨b8,11,Z⟩,O Y xl),(⟨b8,12,Z⟩,O Y xh),(⟨b8,13,Z⟩,O Y zl),(⟨b5,2,Z⟩,O Y jl),(⟨b5,3,Z⟩,O Y jr),(⟨b5,4,Z⟩,O Y jf),(⟨b5,5,Z⟩,O Y jt),(⟨sb,0,Z⟩,O .u8 sk),(⟨sb,1,Z⟩,O Y pin),(⟨sb,2,Z⟩,O Y wide),(⟨sb,3,Z⟩,O Y lap),(⟨sb,4,Z⟩,O Y step),(⟨sb,5,Z⟩,O Y run),(⟨sb,6,Z⟩,O Y level)]) (by kernel_rfl) cA (fun h9H=>?_);refine sN 0 ?_
          iterate 16
           refine tkn ?_
          refine oN ?_;refine cl1 (i:=16) fun K hK=>?_
          go_simp
          (with_reducible refine cM (HN.out _) ?_)
          rintro e w16 ⟨rfl,hx16⟩
          skip
          go_wp2_with fail
          refine kO hK (cE h9H hx16) (fun h9H=>?_);clear hK K;refine sN 17 ?_
          iterate 18
           refine tkn ?_
          refine oN ?_;refine wpAnyH_done (by kernel_rfl) ?_ _;go_wp2;go_meet;exact⟨rfl,(eR _).drew.trans hx16⟩
     case rest =>
      obtain⟨rfl,hE⟩:=hcut;have HE:=hd9 (HE8.out.trans hE);have y10:=hE.cellS y10;have y11:=hE.cellS y11;have y12:=hE.cellS y12;have g3:=hE.cellS g3;have k2:=hE.cellS k2;have k3:=hE.cellS k3;have zc:=HE.out.size;clear hE
      cases sp with
      | true =>
       go_wp2
       go_roundg (sn-(i+1))
       case measure=>have:=Hn.out;omega
       case rel =>
        refine⟨i+1,by rw [←Hn.out];omega,by go_num,by rw [Hn.out],Hx.out.trans HE.out,HE.out.heapS HK5.out,?_⟩;rw [Hstp.out];unfold shJ;rw [←Hru.out,if_pos Hsp.out,Hru.out,List.append_nil];exact Hown.out.ext HE.out
      | false =>
       have d1 : -9223372036854775808≤jl-xl:=by omega
       have d2:jl-xl≤9223372036854775807:=by omega
       have d3 : -9223372036854775808≤xh-jr:=by omega
       have d4:xh-jr≤9223372036854775807:=by omega
       obtain⟨lp,hlp⟩:=gX (min (jl-xl) (xh-jr));have Hlp:=hd9 hlp
       have hsj:shJ ru k ⟨A,B,jl,jr,jf,jt⟩ ⟨p,kk,(xl,xh),(zl,zh)⟩=if lp<lap then [⟨2,k,kk,lp⟩]else []:=by
        unfold shJ;rw [←Hru.out,if_neg (by rw [Hsp.out];simp)];unfold lapJ;dsimp only;rw [hlp]
       rw [hsj]at Hstp;clear hsj hlp
       by_cases hr:lp<lap
       ·have hr2:min (jl-xl) (xh-jr)<lap:=by rw [Hlp.out];exact hr
        go_wp2_with(at_builtin;refine appC (T:=73) (t:=63) (z:=.agg #[O .u8 0,O Y 0,O Y 0,O Y 0]) (k:=4) (bytes:=32) (base:=w.heap.size) (v:=X va vn vc) (cs:=(Bl++shRow ru k ⟨A,B,jl,jr,jf,jt⟩ ks i).map fdc) (m:=1) (c:=1) (ad:=⟨wc.heap.size,0,Z⟩) zbU rfl (by decide) (by decide) Tryz.underlying63 rfl _ _ rfl rfl (Hown.out.ext (HE.out.alloc _)) rfl [fdc ⟨2,k,kk,min (jl-xl) (xh-jr)⟩] rfl (by simp [fdc]) (by have h9:=zaE wc (fdc ⟨2,k,kk,min (jl-xl) (xh-jr)⟩).toArray 73;simpa only [wZ,fdc] using h9) (by simp [fdc,Value.oneCell']) (by have:=Hlen9.out;rw [lL];omega) (by simp only [wZ];omega) ?_;intro v' w6 hown6 hgrow hlie)
        go_roundg (sn-(i+1))
        case measure=>have:=Hn.out;omega
        case rel =>
         refine⟨i+1,by rw [←Hn.out];omega,by go_num,by rw [Hn.out],zaS (Hx.out.trans (HE.out.alloc _)) hgrow (fun j hj=>(Hown.out.lt j hj).1),zac hgrow ((HE.out.alloc _).heapS HK5.out) (fun e=>Hown.out.ne_blkD HK5.out (by decide) e.symm),?_⟩;rw [Hstp.out,if_pos (by omega),←List.append_assoc,List.map_append,←Hlp.out];exact hown6
       ·have hr2:¬min (jl-xl) (xh-jr)<lap:=by rw [Hlp.out];exact hr
        go_wp2
        go_roundg (sn-(i+1))
        case measure=>have:=Hn.out;omega
        case rel =>
         refine⟨i+1,by rw [←Hn.out];omega,by go_num,by rw [Hn.out],Hx.out.trans HE.out,HE.out.heapS HK5.out,?_⟩;rw [Hstp.out,if_neg (by omega),List.append_nil];exact Hown.out.ext HE.out
    ·obtain rfl:sn=i:=by omega
     have hfin:OwnC 73 4 wr w.heap.size (X va vn vc) ((shP ru ks L (k+1)).map fdc):=by rw [Hstk.out];rw [Hn.out]at hown;exact hown
     have Hfin:=hd9 hfin;have Hx:=hd9 hx;clear hown hfin hx hK5;go_wp2
     go_roundg (jn-(k+1))
     case measure=>have:=Hjn.out;omega
     case rel=>exact⟨k+1,by rw [←Hjn.out];omega,by go_num,by rw [Hjn.out],Hx.out,Hfin.out⟩
  ·obtain rfl:jn=k:=by omega
   rw [Hjn.out]at hown;have Hown:=hd9 hown;have Hx:=hd9 hx;clear hown;go_wp2;rw [←HR.out];exact⟨_,rfl,Hown.out,Hx.out⟩
end
end Go.Proofs.YteipgejmhfpkaaaGreatDoor.Cop
