/- Part 40 of 41: contracts of what the law calls. -/
import Derived.Test.YtobbionccnkmgaaGreatDoorCopA38
import Derived.Test.YtobbionccnkmgaaGreatDoorCopA36
import Derived.Test.YtobbionccnkmgaaGreatDoorCopA06
import Derived.ProofKit
import Derived.Deep.Slices
set_option maxRecDepth 1000000
set_option maxHeartbeats 16000000
set_option linter.unusedSimpArgs false
set_option linter.unusedVariables false
namespace Go.Proofs.YtobbionccnkmgaaGreatDoor.Cop
open Go.RowKit Go.Shelf Go.Sort Go.Lib
def RetB2 (w:World) (b t lo hi:Int) (g:List (Int×Int)) (ps:List Pl) (e:Ending) (w':World):Prop:=
 ∃n k:Int,e = .returned (.tuple #[.int .i64 n,.int .i64 k])∧Ext w w'∧k=bareE b t lo hi g ps∧(k=0→IsBare lo hi (bareJ b t ps) n)
theorem barep_any (w:World) (vg vp:Value) (g:List (Int×Int)) (ps:List Pl) (b t lo hi:Int) (hg:IsPts w vg g) (hp:IsPls w vp ps) (hgw:Gw w) :
  Calls Tryz.prog 7 #[.agg #[vg,vp],.int .i64 b,.int .i64 t,.int .i64 lo,.int .i64 hi] w (RetB2 w b t lo hi g ps):=by
 refine(bare_any w vg vp g ps b t lo hi hg hp hgw).mono ?_;rintro e w' (⟨h,rfl,hx⟩|⟨h,js,hp,ho,rfl,hx⟩)
 ·exact⟨0,_,rfl,hx,rfl,fun h9=>absurd h9 h⟩
 ·refine⟨_,0,rfl,hx,h.symm,fun _=>?_⟩
  have hl:lo≤hi:=by
   unfold bareE at h
   split at h
   ·split at h
    ·cases h
    ·rename_i h9
     omega
   ·rename_i h9;exact absurd h h9
  exact(sweep_bare ho hl).perm hp
theorem few_len {g:List (Int×Int)} {ps:List Pl} (h:fewB g ps=true):g.length≤1000∧ps.length≤8∧∀p∈ps,p.shape.length≤1000:=by
 unfold fewB at h;simp only [Bool.and_eq_true,Bool.not_eq_true',List.any_eq_false,decide_eq_true_eq]at h;obtain⟨h1,h2,h3⟩:=h;refine⟨by omega,h2,fun p hp=>?_⟩;have:=h1 p hp;unfold longB at this;simp only [Bool.or_eq_true,decide_eq_true_eq,not_or]at this;omega
theorem bareE_zero {b t lo hi:Int} {g:List (Int×Int)} {ps:List Pl} (h:bareE b t lo hi g ps=0):laidP g ps=0∧b<t∧lo<hi ∧ -100000≤lo∧lo≤100000 ∧ -100000≤hi∧hi≤100000:=by
 unfold bareE at h
 split at h
 ·rename_i h1
  split at h
  ·cases h
  ·rename_i h9
   simp only [List.any_cons,List.any_nil,Bool.or_false,Bool.or_eq_true,not_or,pfarB,decide_eq_true_eq]at h9;omega
 ·rename_i h9;exact absurd h h9
def nonB (ps:List Pl) (i:Nat):Bool:=(ps.take i).all fun p=>p.skin != 3
theorem nonB_succ {ps:List Pl} {i:Nat} {p:Pl} (h:ps[i]?=some p):nonB ps (i+1)=(nonB ps i&&(p.skin != 3)):=by
 unfold nonB;rw [take_add_one' _ _ _ h,List.all_append];simp
theorem nonB_all {ps:List Pl} (h:nonB ps ps.length=true):∀(i:Nat) p,ps[i]?=some p→p.skin≠3:=by
 intro i p hp;unfold nonB at h;rw [List.take_length,List.all_eq_true]at h;have:=h p (lM hp)
 simpa using this
def NoS (wc:World) (ps:List Pl) (g:Nat) (t23 t24:Value) (W:World):Prop:=
 ∃i:Nat,i≤ps.length∧t24 = .int .i64 (i:Nat)∧t23 = .bool (nonB ps i)∧g=ps.length-i∧wc=W
def CutR (w3:World) (m0:Int) (t18:Value) (W:World):Prop:=t18 = .int .i64 m0∧Ext w3 W
theorem law_any (w:World) (vg vp:Value) (g:List (Int×Int)) (ps:List Pl) (b t lo hi:Int) (part i:Int) (hg:IsPr w vg g) (hp:IsWr w vp ps) (hgw:Gw w) (hpt:0≤part∧part<65536) (hib:0≤i∧i<256) :
  Calls Tryz.prog 3 #[.agg #[vg,vp],.int .i64 b,.int .i64 t,.int .i64 lo,.int .i64 hi,.int .u16 part,.int .u8 i] w fun e w'=>e = .returned (.bool true)∧Ext w w':=by
 have HF:=hd9 (fun(W:World) (hW:Ext w W)=>few_any W vg vp g ps (hg.ext' hW) (hp.ext' hW));have HW:=hd9 (fun(hf:fewB g ps=true) (W:World) (hW:Ext w W)=>wallr_any W vg vp g ps (hg.ext' hW) (hp.ext' hW) (few_len hf).1 (by have:=(few_len hf).2.1;omega) (few_len hf).2.2);have HA:=hd9 (fun(W:World) (hW:Ext w W)=>awake_any W (hgw.ext hW));have HG:=hd9 hgw;obtain⟨ga,gc,rfl⟩:=hg.form;obtain⟨pa,pc1,rfl⟩:=hp.form;obtain⟨gn,hgn⟩:∃x,g.length=x:=⟨_,rfl⟩;obtain⟨pn,hpn⟩:∃x,ps.length=x:=⟨_,rfl⟩;rw [hgn,hpn]at HF HW ⊢;clear hg hp hgw hgn hpn
 cases hfew:fewB g ps with
 | false =>
  rw [hfew]at HF;clear HW;go_enter Tryz.func3,Tryz.ntmps3
  go_wp2_with(first|(go_at_call 4;(with_reducible refine(HF.out _ ?_).mono ?_);(focus((with_reducible repeat(first|assumption|exact eR _|refine eX ?_|refine eT ?_|refine eS ?_));done));rintro e w1 ⟨rfl,hx1⟩;have X1:Ext w w1:=(by with_reducible repeat(first|assumption|exact eR _|refine eX ?_|refine eT ?_|refine eS ?_)))|(go_at_call 5;(with_reducible refine(HA.out _ X1).mono ?_);rintro e w2 ⟨rfl,hx2⟩))
  go_ret;exact⟨rfl,X1.trans hx2⟩
 | true =>
  rw [hfew]at HF;have HW:=hd9 (HW.out hfew);obtain⟨k,hk⟩:∃k,bareE b t lo hi g ps=k:=⟨_,rfl⟩;have HK:=hd9 hk
  by_cases h0:k=0
  ·subst h0
   obtain⟨hl0,hbt,hlh,r1,r2,r3,r4⟩:=bareE_zero hk;have Hl0:=hd9 hl0;have HL8:=hd9 (few_len hfew).2.1;have q1:¬hi≤lo:=by omega
   have q2:IntKind.i64.wrap (hi-lo)=hi-lo:=IntWalk.i64_in _ ⟨by omega,by omega⟩;have q3:wrap64 (hi-lo)=hi-lo:=IntWalk.wrap64_in _ ⟨by omega,by omega⟩;clear hk hfew hl0;go_enter Tryz.func3,Tryz.ntmps3
   go_upto_region 9 with (first|(go_at_call 4;(with_reducible refine(HF.out _ ?_).mono ?_);(focus((with_reducible repeat(first|assumption|exact eR _|refine eX ?_|refine eT ?_|refine eS ?_));done));rintro e w1 ⟨rfl,hx1⟩;have X1:Ext w w1:=(by with_reducible repeat(first|assumption|exact eR _|refine eX ?_|refine eT ?_|refine eS ?_));obtain⟨hc1,hf1⟩:=hx1.cells;(have z1:=hx1.size);(simp only [wZ]at z1);(have zw1:w.heap.size<w1.heap.size:=(by omega)))|(go_at_call 6;(with_reducible refine(HW.out _ X1).mono ?_);rintro e w2 ⟨vg2,vp2,rfl,hg2,ho2,hx2⟩;obtain⟨ga2,gn2,gc2,rfl⟩:=form3 hg2;obtain⟨pa2,pn2,pc2,rfl⟩:=form3 ho2.pls;have X2:Ext w w2:=X1.trans hx2)|(go_at_call 7;(with_reducible refine(barep_any _ _ _ g ps b t lo hi (hg2.ext' ((Ext.refl w2).alloc _)) (ho2.pls.ext' ((Ext.refl w2).alloc _)) (HG.out.ext (X2.alloc _))).mono ?_);rintro e w3 ⟨n3,k3,rfl,hx3,hk3,hb3⟩;rw [HK.out]at hk3;subst hk3;have HB3:=hd9 (hb3 rfl);have X3:Ext w w3:=(X2.alloc _).trans hx3;have K3:=hx3.heapS (heap_alloc_new w2 _);have hG3:=hd9 (hg2.ext' (((Ext.refl w2).alloc _).trans hx3));have hO3:=hd9 (ho2.extN (((Ext.refl w2).alloc _).trans hx3));have hO2:=hd9 ho2;have zw3:=heap_lt K3;(have y1:¬n3<0:=Int.not_lt.2 HB3.out.1);(have y2:¬hi-lo<n3:=Int.not_lt.2 (HB3.out.le (by omega)));clear hb3))
   obtain⟨m,hm⟩:∃m,part.tmod (hi-lo)=m:=⟨_,rfl⟩;have hmb:0≤m∧m<hi-lo:=by rw [←hm];exact⟨Int.tmod_nonneg _ hpt.1,Int.tmod_lt_of_pos _ (by omega)⟩
   have q4:IntKind.i64.wrap part=part:=IntWalk.i64_in _ ⟨by omega,by omega⟩;have q5:IntKind.i64.wrap (part.tmod (hi-lo))=m:=by rw [hm];exact IntWalk.i64_in _ ⟨by omega,by omega⟩
   have q6:IntKind.i64.wrap (lo+m)=lo+m:=IntWalk.i64_in _ ⟨by omega,by omega⟩;have q7:¬hi-lo=0:=by omega
   have q8:((hi-lo)==0)=false:=by simpa using q7
   go_upto_if 69 with fail
   go_cut [18] (CutR w3 (lo+m))
   case first =>
    by_cases hm0:m=0
    ·have q9:¬lo<lo+m:=by omega
     go_wp2;go_meet;exact⟨by rw [hm0,Int.add_zero],Ext.refl _⟩
    ·have q9:lo<lo+m:=by omega
     have HE1:=hd9 (bareE_in HK.out (Int.le_refl lo) q9 (by omega));have HE2:=hd9 (bareE_in HK.out (show lo≤lo+m by omega) (show lo+m<hi by omega) (Int.le_refl hi));have HB1:=hd9 (fun(W:World) (hW:Ext w3 W)=>barep_any W _ _ g ps b t lo (lo+m) (hG3.out.ext' hW) (hO3.out.pls.ext' hW) (HG.out.ext (X3.trans hW)));have HB2:=hd9 (fun(W:World) (hW:Ext w3 W)=>barep_any W _ _ g ps b t (lo+m) hi (hG3.out.ext' hW) (hO3.out.pls.ext' hW) (HG.out.ext (X3.trans hW)));have k0:=qcB K3 (i:=0) (u:=.slice ga2 gn2 gc2) rfl;have k1:=qcB K3 (i:=1) (u:=.slice pa2 pn2 pc2) rfl
     go_wp2_with(go_at_call 7;first|((with_reducible refine(HB1.out _ (Ext.refl _)).mono ?_);rintro e w4 ⟨n4,k4,rfl,hx4,hk4,hb4⟩;rw [HE1.out]at hk4;subst hk4;have HB4:=hd9 (hb4 rfl);have y3:¬n3<n4:=Int.not_lt.2 (HB3.out.part HB4.out (Int.le_refl _) (by omega) (fun j hj=>⟨j,hj,rfl⟩));have y4:n4≤m:=(by have:=HB4.out.le (by omega);omega);have y5:0≤n4:=HB4.out.1;have k0:=hx4.cellS k0;have k1:=hx4.cellS k1;clear hb4)|((with_reducible refine(HB2.out _ hx4).mono ?_);rintro e w5 ⟨n5,k5,rfl,hx5,hk5,hb5⟩;rw [HE2.out]at hk5;subst hk5;have HB5:=hd9 (hb5 rfl);have y6:¬n3<n5:=Int.not_lt.2 (HB3.out.part HB5.out (by omega) (Int.le_refl _) (fun j hj=>⟨j,hj,rfl⟩));have y7:n5≤hi-lo:=(by have:=HB5.out.le (by omega);omega);have y8:0≤n5:=HB5.out.1;have y9:¬n4+n5<n3:=Int.not_lt.2 (HB3.out.two HB4.out HB5.out);have y10:IntKind.i64.wrap (n4+n5)=n4+n5:=IntWalk.i64_in _ ⟨by omega,by omega⟩;clear hb5))
     go_meet;exact⟨rfl,hx4.trans hx5⟩
   case rest =>
    obtain⟨rfl,hxc⟩:=hcut;have hOc:=hO3.out.extN hxc;have hle:=hOc.pls.le;unfold maxLen at hle;have Hn:=hd9 hOc.len;have HOc:=hd9 hOc;have hn8:pn2≤8:=by rw [Hn.out];exact HL8.out
    have k0:=hxc.cellS (qcB K3 (i:=0) (u:=.slice ga2 gn2 gc2) rfl);have k1:=hxc.cellS (qcB K3 (i:=1) (u:=.slice pa2 pn2 pc2) rfl);clear hOc hle q4 q5 q6 q7 q8 hmb hm;go_wp2
    go_loopg [23,24] pn2 (NoS wc ps)
    case atStart=>exact⟨0,Nat.zero_le _,rfl,rfl,by rw [Hn.out];rfl,rfl⟩
    case round =>
     obtain⟨j,hj,rfl,rfl,rfl,rfl⟩:=hrel;rw [←Hn.out]at hj
     by_cases hlt:j<pn2
     ·obtain⟨p,hp⟩:∃p,ps[j]?=some p:=⟨ps[j]'(by rw [←Hn.out];exact hlt),by simp⟩
      obtain⟨g9,rfl,hg9a,hg9b⟩:=HOc.out.blk (by rw [←Hn.out];omega);have c9:=HOc.out.skin hp;have p1:(0:Int)≤(j:Int):=by omega
      have p2:(j:Int)<(pn2:Int):=by omega
      have hs:=nonB_succ hp;obtain⟨nb,hnb⟩:∃x,nonB ps j=x:=⟨_,rfl⟩;rw [hnb]at hs ⊢;obtain⟨sk,hsk⟩:∃x,p.skin=x:=⟨_,rfl⟩;rw [hsk]at c9 hs;have Hs:=hd9 hs;clear hs hnb hp
      cases nb
      ·go_wp2
       go_roundg (pn2-(j+1))
       case measure=>have:=Hn.out;omega
       case rel=>exact⟨j+1,by rw [←Hn.out];omega,by go_num,by rw [Hs.out];rfl,by rw [Hn.out],rfl⟩
      ·go_wp2
       go_roundg (pn2-(j+1))
       case measure=>have:=Hn.out;omega
       case rel=>exact⟨j+1,by rw [←Hn.out];omega,by go_num,by rw [Hs.out];rfl,by rw [Hn.out],rfl⟩
     ·obtain rfl:pn2=j:=by omega
      have p2:¬(pn2:Int)<(pn2:Int):=by omega
      obtain⟨nb,hnb⟩:∃x,nonB ps pn2=x:=⟨_,rfl⟩;rw [hnb]
      have hnn:nb=true→(n3 != hi-lo)=false:=fun h=>by
       have h1:=nonB_all (ps:=ps) (by rw [←Hn.out,hnb,h]);have h2:=HB3.out;rw [bareJ_none h1]at h2;have:=h2.nil (by omega)
       simpa using this
      have Hnn:=hd9 hnn;clear hnn hnb
      by_cases hpos:0<pn2
      ·obtain⟨g9,rfl,hg9a,hg9b⟩:=hO2.out.blk (by rw [←Hn.out];exact hpos)
       have hpp:(0:Int)<(pn2:Int):=by omega
       obtain⟨kn,hkn⟩:∃k:Nat,i.tmod (pn2:Int)=(k:Int):=⟨(i.tmod (pn2:Int)).toNat,by have:=Int.tmod_nonneg (pn2:Int) hib.1;omega⟩;have hkl:kn<pn2:=by have:=Int.tmod_lt_of_pos i hpp;omega
       have s1:IntKind.i64.wrap i=i:=IntWalk.i64_in _ ⟨by omega,by omega⟩;have s2:IntKind.i64.wrap (i.tmod (pn2:Int))=(kn:Int):=by rw [hkn];exact IntWalk.i64_in _ ⟨by omega,by omega⟩
       have s3:¬(pn2:Int)=0:=by omega
       have s4:((pn2:Int)==0)=false:=by simpa using s3
       have s5:(0:Int)≤(kn:Int):=by omega
       have s9:¬pn2=0:=by omega
       have s6:(kn:Int)<(pn2:Int):=by omega
       have s7:w2.heap.size≠g9:=by omega
       have s8:g9≠w2.heap.size:=by omega
       obtain⟨p,hp⟩:∃p,ps[kn]?=some p:=⟨ps[kn]'(by rw [←Hn.out];exact hkl),by simp⟩;have hfz:=HOc.out.frozen (kn*10+9);have hcs:=HOc.out.skin hp;obtain⟨sk,hsk⟩:∃x,p.skin=x:=⟨_,rfl⟩;rw [hsk]at hcs;have zc:w2.heap.size<wc.heap.size:=Nat.lt_of_lt_of_le zw3 hxc.size;have c40:(wc.setCell ⟨g9,kn*10+9,none⟩ (.int .u8 3)).cell? ⟨w2.heap.size,0,none⟩=some (.slice ga2 gn2 gc2):=by go_simp
       have c41:(wc.setCell ⟨g9,kn*10+9,none⟩ (.int .u8 3)).cell? ⟨w2.heap.size,1,none⟩=some (.slice (some ⟨g9,0,none⟩) pn2 pc2):=by go_simp
       obtain⟨W4,hW4⟩:∃W,wc.setCell ⟨g9,kn*10+9,none⟩ (.int .u8 3)=W:=⟨_,rfl⟩;have HW4:=hd9 hW4;have hO4:=HOc.out.thr hp;have hG4:=(hG3.out.ext' hxc).keep' (HOc.out.keepPt (i:=kn*10+9) (.int .u8 3));have hX4:Ext w (wc.setCell ⟨g9,kn*10+9,none⟩ (.int .u8 3)):=(X3.trans hxc).set (by dsimp only;omega) _;rw [hW4]at hO4 hG4 hX4 c40 c41;have Hne:=hd9 (show ∀q∈[((⟨w2.heap.size,1,none⟩:Addr),Value.slice (some ⟨g9,0,none⟩) pn2 pc2)],g9≠q.1.block from by intro q hq;simp at hq;subst hq;exact s8);obtain⟨k9,hk9⟩:∃x,bareE b t lo hi g (ps.set kn (thrP p))=x:=⟨_,rfl⟩;have HBx:=hd9 (fun(W:World) (hW:Ext W4 W)=>barep_any W _ _ g (ps.set kn (thrP p)) b t lo hi (hG4.ext' hW) (hO4.extN hW).pls (HG.out.ext (hX4.trans hW)));have HT:=hd9 (fun(n9:Int) (h:IsBare lo hi (bareJ b t (ps.set kn (thrP p))) n9)=>show n9≤n3 from HB3.out.part h (Int.le_refl _) (Int.le_refl _) (bareJ_thr hp));have HX4:=hd9 hX4;have HK9:=hd9 hk9;clear hk9 hO4 hG4 hX4 hp hsk hW4
       cases nb
       ·skip
        go_upto_region 23 with fail
        refine wp_region_held_drew (S:=CellL [(⟨w2.heap.size,1,none⟩,.slice (some ⟨g9,0,none⟩) pn2 pc2)]) (by kernel_rfl) (by refine⟨?_,trivial⟩<;>go_simp) (fun hHeld=>?_);refine sN 0 ?_
        iterate 10
         refine tkn (by simp only [gA,gS,gZ];rfl) ?_;refine⟨?_,by kernel_rfl,by kernel_rfl,by kernel_rfl,fun _ _ _ h=>h,Or.inl ⟨by rfl,?_⟩,by(with_reducible assumption),?_⟩;rotate_left 1
         ·(intro w hSw;simp only [CellL,and_true]at hSw;go_simp;try(with_reducible rfl))
         (try simp only [Act.put,sA,sZ,sS,Nat.reduceAdd])
        refine oN ?_;refine call1 (i:=10) (by simp only [gA,gS,gZ];rfl) ?_;refine⟨by kernel_rfl,fun K hK=>?_⟩;go_simp;refine hK.out _ _ (CellL.set (p:=⟨g9,kn*10+9,none⟩) hHeld Hne.out _) (fun hHeld=>?_);clear hK K
        (try simp only [Act.put,sA,sZ,sS])
        refine wpAnyH_done (by kernel_rfl) ?_ _;rw [HW4.out]
        by_cases h9:k9=0
        ·subst h9
         go_wp2_with(first|(go_at_call 7;(with_reducible refine(HBx.out _ (Ext.refl W4).drew).mono ?_);rintro e w5 ⟨n5,k5,rfl,hx5,hk5,hb5⟩;rw [HK9.out]at hk5;subst hk5;have y5:n5≤n3:=HT.out _ (hb5 rfl);have X5:Ext w w5:=(HX4.out.drew).trans hx5;clear hb5)|(go_at_call 5;(with_reducible refine(HA.out _ X5).mono ?_);rintro e w6 ⟨rfl,hx6⟩))
         go_ret;exact⟨rfl,X5.trans hx6⟩
        ·have u9:(k9 != 0)=true:=by simpa using h9
         clear h9
         go_wp2_with(first|(go_at_call 7;(with_reducible refine(HBx.out _ (Ext.refl W4).drew).mono ?_);rintro e w5 ⟨n5,k5,rfl,hx5,hk5,hb5⟩;rw [HK9.out]at hk5;subst hk5;have X5:Ext w w5:=(HX4.out.drew).trans hx5;clear hb5)|(go_at_call 5;(with_reducible refine(HA.out _ X5).mono ?_);rintro e w6 ⟨rfl,hx6⟩))
         go_ret;exact⟨rfl,X5.trans hx6⟩
       ·have Hq:=Hnn.out rfl
        go_upto_region 23 with fail
        refine wp_region_held_drew (S:=CellL [(⟨w2.heap.size,1,none⟩,.slice (some ⟨g9,0,none⟩) pn2 pc2)]) (by kernel_rfl) (by refine⟨?_,trivial⟩<;>go_simp) (fun hHeld=>?_);refine sN 0 ?_
        iterate 10
         refine tkn (by simp only [gA,gS,gZ];rfl) ?_;refine⟨?_,by kernel_rfl,by kernel_rfl,by kernel_rfl,fun _ _ _ h=>h,Or.inl ⟨by rfl,?_⟩,by(with_reducible assumption),?_⟩;rotate_left 1
         ·(intro w hSw;simp only [CellL,and_true]at hSw;go_simp;try(with_reducible rfl))
         (try simp only [Act.put,sA,sZ,sS,Nat.reduceAdd])
        refine oN ?_;refine call1 (i:=10) (by simp only [gA,gS,gZ];rfl) ?_;refine⟨by kernel_rfl,fun K hK=>?_⟩;go_simp;refine hK.out _ _ (CellL.set (p:=⟨g9,kn*10+9,none⟩) hHeld Hne.out _) (fun hHeld=>?_);clear hK K
        (try simp only [Act.put,sA,sZ,sS])
        refine wpAnyH_done (by kernel_rfl) ?_ _;rw [HW4.out]
        by_cases h9:k9=0
        ·subst h9
         go_wp2_with(first|(go_at_call 7;(with_reducible refine(HBx.out _ (Ext.refl W4).drew).mono ?_);rintro e w5 ⟨n5,k5,rfl,hx5,hk5,hb5⟩;rw [HK9.out]at hk5;subst hk5;have y5:n5≤n3:=HT.out _ (hb5 rfl);have X5:Ext w w5:=(HX4.out.drew).trans hx5;clear hb5)|(go_at_call 5;(with_reducible refine(HA.out _ X5).mono ?_);rintro e w6 ⟨rfl,hx6⟩))
         go_ret;exact⟨rfl,X5.trans hx6⟩
        ·have u9:(k9 != 0)=true:=by simpa using h9
         clear h9
         go_wp2_with(first|(go_at_call 7;(with_reducible refine(HBx.out _ (Ext.refl W4).drew).mono ?_);rintro e w5 ⟨n5,k5,rfl,hx5,hk5,hb5⟩;rw [HK9.out]at hk5;subst hk5;have X5:Ext w w5:=(HX4.out.drew).trans hx5;clear hb5)|(go_at_call 5;(with_reducible refine(HA.out _ X5).mono ?_);rintro e w6 ⟨rfl,hx6⟩))
         go_ret;exact⟨rfl,X5.trans hx6⟩
      ·have hz:¬(0:Int)<(pn2:Int):=by omega
       cases nb
       ·go_wp2_with(go_at_call 5;(with_reducible refine(HA.out _ (X3.trans hxc)).mono ?_);rintro e w4 ⟨rfl,hx4⟩)
        go_ret;exact⟨rfl,(X3.trans hxc).trans hx4⟩
       ·have Hq:=Hnn.out rfl
        go_wp2_with(go_at_call 5;(with_reducible refine(HA.out _ (X3.trans hxc)).mono ?_);rintro e w4 ⟨rfl,hx4⟩)
        go_ret;exact⟨rfl,(X3.trans hxc).trans hx4⟩
  ·have u0:(k != 0)=true:=by simpa using h0
   clear hk h0 hfew;go_enter Tryz.func3,Tryz.ntmps3
   go_wp2_with(first|(go_at_call 4;(with_reducible refine(HF.out _ ?_).mono ?_);(focus((with_reducible repeat(first|assumption|exact eR _|refine eX ?_|refine eT ?_|refine eS ?_));done));rintro e w1 ⟨rfl,hx1⟩;have X1:Ext w w1:=(by with_reducible repeat(first|assumption|exact eR _|refine eX ?_|refine eT ?_|refine eS ?_));obtain⟨hc1,hf1⟩:=hx1.cells;(have z1:=hx1.size);(simp only [wZ]at z1);(have zw1:w.heap.size<w1.heap.size:=(by omega)))|(go_at_call 6;(with_reducible refine(HW.out _ X1).mono ?_);rintro e w2 ⟨vg2,vp2,rfl,hg2,ho2,hx2⟩;obtain⟨ga2,gn2,gc2,rfl⟩:=form3 hg2;obtain⟨pa2,pn2,pc2,rfl⟩:=form3 ho2.pls;have X2:Ext w w2:=X1.trans hx2)|(go_at_call 7;(with_reducible refine(barep_any _ _ _ g ps b t lo hi (hg2.ext' ((Ext.refl w2).alloc _)) (ho2.pls.ext' ((Ext.refl w2).alloc _)) (HG.out.ext (X2.alloc _))).mono ?_);rintro e w3 ⟨n3,k3,rfl,hx3,hk3,hb3⟩;rw [HK.out]at hk3;subst hk3;have X3:Ext w w3:=(X2.alloc _).trans hx3)|(go_at_call 5;(with_reducible refine(HA.out _ X3).mono ?_);rintro e w4 ⟨rfl,hx4⟩))
   go_ret;exact⟨rfl,X3.trans hx4⟩
end Go.Proofs.YtobbionccnkmgaaGreatDoor.Cop
namespace Go.Proofs.YtobbionccnkmgaaGreatDoor.Cop
open Go.ChangeShapes Go.WideShapes Go.Deep
section
variable {H:Type} {enc:TypeId×Value→H} {P:Program} {w:World} {spare:Nat→Bool} {held:Bool}
theorem flat_get {k:Nat}:∀{css:List (List Value)} {j:Nat} {x:Value},0<k→(∀c∈css,c.length=k)→css.flatten[j]?=some x→∃d,css[j / k]?=some d∧d[j % k]?=some x
 | [],j,x,_,_,h=>by simp at h
 | c::css,j,x,hk,hc,h=>by
  have hl:c.length=k:=hc c (by simp);rw [List.flatten_cons]at h
  by_cases hj:j<k
  ·rw [List.getElem?_append_left (by omega)]at h
   rw [Nat.div_eq_of_lt hj,Nat.mod_eq_of_lt hj];exact⟨c,rfl,h⟩
  ·rw [List.getElem?_append_right (by omega),hl]at h
   obtain⟨d,h1,h2⟩:=flat_get (j:=j-k) hk (fun c hc'=>hc c (List.mem_cons_of_mem _ hc')) h;rw [Nat.div_eq_sub_div hk (by omega),Nat.mod_eq_sub_mod (by omega)];exact⟨d,by simpa using h1,h2⟩
theorem row_of_trod {t e:TypeId} {k fuel:Nat} {cs:List Value} {x:DataW H×List MemPlace} (ht:P.underlying t=some (.slice e)) (hk:P.cellsOf e=k) (hk0:0<k)
  (h:DataW.trod enc P w 0 spare held fuel t cs=some x) :
  ∃(a:Option Addr) (n c:Nat) (T:TypeId) (css:List (List Value)),cs=[.slice a n c]∧css.length=n∧(∀d∈css,d.length=k)∧Rd w T k (.slice a n c) n css.flatten ∧
   ∀d∈css,∃m y,DataW.trod enc P w 0 spare held m e d=some y:=by
 rcases open_slice ht h with ⟨rfl,_⟩|⟨a,len,cap,m,f,D,Pl,rfl,_,hl,hm,hmm,_,hel⟩
 ·exact⟨none,0,0,0,[],rfl,rfl,by simp,Rd.nil w 0 k,by simp⟩
 ·have hlm:len≤m:=by rw [hmm];split<;>omega
  rw [hk]at hel;obtain⟨F,hF⟩:=choose_lt (α:=List Value) (n:=len) (p:=fun i d=>w.cells? 0 (a.add (i*k)) k=some d∧DataW.trod enc P w 0 spare held f e d=some (D i,Pl i)) (fun i hi=>hel i (by omega))
  have hlen:∀d∈(List.range len).map F,d.length=k:=by
   intro d hd;obtain⟨i,hi,rfl⟩:=List.mem_map.1 hd;exact(World.cells?_some (hF i (List.mem_range.1 hi)).1).2.1
  have hall:∀d∈(List.range len).map F,∃m y,DataW.trod enc P w 0 spare held m e d=some y:=by
   intro d hd;obtain⟨i,hi,rfl⟩:=List.mem_map.1 hd;exact⟨f,_,(hF i (List.mem_range.1 hi)).2⟩
  by_cases h0:len=0
  ·subst h0
   exact⟨some a,0,cap,0,[],rfl,rfl,by simp,⟨by simp,some a,cap,rfl,hl,hm,.inl ⟨rfl,fun e=>by cases e⟩⟩,by simp⟩
  ·have c0:=(World.cells?_some (hF 0 (by omega)).1).2.2 0 hk0
   have hcl:=hlen (F 0) (List.mem_map.2 ⟨0,List.mem_range.2 (by omega),rfl⟩);obtain⟨v0,hv0⟩:∃v,(F 0)[0]?=some v:=⟨(F 0)[0]'(by omega),by simp⟩;rw [hv0]at c0;obtain⟨b,o,sp⟩:=a
   have hsp:sp=none:=by
    have:=World.cell?_spot c0
    simpa [Addr.add] using this
   subst hsp;have e0:((⟨b,o,none⟩:Addr).add (0*k)).add 0=⟨b,o,none⟩:=by simp [Addr.add]
   rw [e0]at c0
   obtain⟨blk,T,fr,hblk⟩:∃blk T fr,w.heap[b]?=some (.cells blk T fr):=by
    unfold World.cell? at c0
    split at c0
    ·rename_i blk T fr hb;exact⟨blk,T,fr,hb⟩
    ·cases c0
   refine⟨some ⟨b,o,none⟩,len,cap,T,(List.range len).map F,rfl,by simp,hlen,⟨?_,some ⟨b,o,none⟩,cap,rfl,hl,hm,.inr ⟨b,o,blk,fr,rfl,hblk,fun j y hj=>?_⟩⟩,hall⟩
   ·rw [flatten_len hlen];simp
   ·obtain⟨d,h1,h2⟩:=flat_get hk0 hlen hj
    obtain⟨hi,rfl⟩:j / k<len∧F (j / k)=d:=by
     rw [lP]at h1
     by_cases hi:j / k<len
     ·rw [List.getElem?_range hi]at h1
      exact⟨hi,Option.some.inj h1⟩
     ·rw [List.getElem?_eq_none (by simpa using hi)]at h1
      cases h1
    have c1:=(World.cells?_some (hF (j / k) hi).1).2.2 (j % k) (Nat.mod_lt _ hk0);rw [h2]at c1
    have e1:((⟨b,o,none⟩:Addr).add (j / k*k)).add (j % k)=⟨b,o+j,none⟩:=by
     rw [add_add];have:j / k*k+j % k=j:=by rw [Nat.mul_comm];exact Nat.div_add_mod j k
     rw [this];unfold Addr.add
     split
     ·rename_i h;rw [h];rfl
     ·rfl
    rw [e1]at c1
    simpa [World.cell?,hblk] using c1
end
def flds (P:Program) (t:TypeId):Array Field:=match P.underlying t with|some (.struct fs)=>fs|_=>#[]
section
variable {H:Type} {enc:TypeId×Value→H} {w:World} {spare:Nat→Bool} {held:Bool}
theorem fld {P:Program} {fs:Array Field} {n i ti oi ki:Nat} {cs:List Value} {xs:List (DataW H×List MemPlace)} (hx:xs.length=fs.size)
  (hf:∀(i:Nat) (f:Field),fs[i]?=some f→DataW.trod enc P w 0 spare held n f.type ((cs.drop f.offset).take (P.cellsOf f.type))=xs[i]?)
  (hi:fs[i]?.map (fun f=>(f.type,f.offset,P.cellsOf f.type))=some (ti,oi,ki)):∃y,DataW.trod enc P w 0 spare held n ti ((cs.drop oi).take ki)=some y:=by
 cases h:fs[i]? with
 | none=>rw [h]at hi;cases hi
 | some f =>
  rw [h]at hi;simp only [Option.map_some,Option.some.injEq,Prod.mk.injEq]at hi;obtain⟨rfl,rfl,rfl⟩:=hi;have hl:i<xs.length:=by rw [hx];exact(Array.getElem?_eq_some_iff.1 h).1
  exact⟨xs[i],by rw [hf i f h];simp [hl]⟩
theorem und_int:Tryz.prog.underlying 3=some (.int .i64):=by kernel_rfl
theorem und_u8:Tryz.prog.underlying 5=some (.int .u8):=by kernel_rfl
theorem und_str:Tryz.prog.underlying 9=some .string:=by kernel_rfl
theorem und_pt:Tryz.prog.underlying 45=some (.struct (flds Tryz.prog 45)):=by kernel_rfl
theorem und_st:Tryz.prog.underlying 47=some (.struct (flds Tryz.prog 47)):=by kernel_rfl
theorem und_pl:Tryz.prog.underlying 49=some (.struct (flds Tryz.prog 49)):=by kernel_rfl
theorem und_wl:Tryz.prog.underlying 25=some (.struct (flds Tryz.prog 25)):=by kernel_rfl
theorem und_pts:Tryz.prog.underlying 22=some (.slice 45):=by kernel_rfl
theorem und_pls:Tryz.prog.underlying 23=some (.slice 49):=by kernel_rfl
theorem point_of_trod {n:Nat} {cs:List Value} {y:DataW H×List MemPlace} (h:DataW.trod enc Tryz.prog w 0 spare held n 45 cs=some y):∃p:Int×Int,cs=[.int .i64 p.1,.int .i64 p.2]:=by
 obtain⟨xs,m,_,_,hl,hx,hf⟩:=DataW.trod_struct und_pt h;have hc:Tryz.prog.cellsOf 45=2:=by kernel_rfl
 rw [hc]at hl;obtain⟨y0,h0⟩:=fld hx hf (i:=0) (ti:=3) (oi:=0) (ki:=1) (by kernel_rfl);obtain⟨y1,h1⟩:=fld hx hf (i:=1) (ti:=3) (oi:=1) (ki:=1) (by kernel_rfl)
 match cs,hl with
 | [a,b],_ =>
  obtain⟨x,e0,_⟩:=DataW.trod_int und_int h0;obtain⟨z,e1,_⟩:=DataW.trod_int und_int h1;simp at e0 e1;subst e0 e1;exact⟨(x,z),rfl⟩
theorem all_of {α:Type} {Q:List Value→α→Prop}:∀{css:List (List Value)},(∀d∈css,∃a,Q d a)→∃l:List α,css.length=l.length∧∀(i:Nat) d a,css[i]?=some d→l[i]?=some a→Q d a
 | [],_=>⟨[],rfl,fun i d a h=>by simp at h⟩
 | c::css,h=>by
  obtain⟨a,ha⟩:=h c (by simp);obtain⟨l,hl,has⟩:=all_of (css:=css) (fun d hd=>h d (List.mem_cons_of_mem _ hd));refine⟨a::l,by simp [hl],fun i d b hd hb=>?_⟩
  cases i with
  | zero=>simp at hd hb;subst hd hb;exact ha
  | succ i=>exact has i d b (by simpa using hd) (by simpa using hb)
theorem points_of_trod {n:Nat} {v:Value} {y:DataW H×List MemPlace} (h:DataW.trod enc Tryz.prog w 0 spare held n 22 [v]=some y):∃ps,IsPr w v ps:=by
 obtain⟨a,m,c,T,css,e,hl,hk,hr,hd⟩:=row_of_trod und_pts (k:=2) (by kernel_rfl) (by omega) h
 cases e
 obtain⟨ps,hps,hq⟩:=all_of (α:=Int×Int) (Q:=PP w) (fun d h=>by
  obtain⟨f,y,hy⟩:=hd d h;obtain⟨p,hp⟩:=point_of_trod hy;exact⟨p,hp⟩)
 exact⟨ps,T,css,hps,hk,by rw [←hps,hl];exact hr,hq⟩
theorem placed_of_trod {n:Nat} {cs:List Value} {y:DataW H×List MemPlace} (h:DataW.trod enc Tryz.prog w 0 spare held n 49 cs=some y):∃p:Pl,PPr w cs p:=by
 obtain⟨xs,m,_,_,hl,hx,hf⟩:=DataW.trod_struct und_pl h;have hc:Tryz.prog.cellsOf 49=10:=by kernel_rfl
 rw [hc]at hl;obtain⟨y0,h0⟩:=fld hx hf (i:=0) (ti:=47) (oi:=0) (ki:=6) (by kernel_rfl);obtain⟨y1,h1⟩:=fld hx hf (i:=1) (ti:=3) (oi:=6) (ki:=1) (by kernel_rfl);obtain⟨y2,h2⟩:=fld hx hf (i:=2) (ti:=45) (oi:=7) (ki:=2) (by kernel_rfl);obtain⟨y3,h3⟩:=fld hx hf (i:=3) (ti:=5) (oi:=9) (ki:=1) (by kernel_rfl)
 match cs,hl with
 | [a0,a1,a2,a3,a4,a5,a6,a7,a8,a9],_ =>
  obtain⟨zs,k,_,_,_,hz,hg⟩:=DataW.trod_struct und_st h0;obtain⟨z0,g0⟩:=fld hz hg (i:=0) (ti:=9) (oi:=0) (ki:=1) (by kernel_rfl);obtain⟨z1,g1⟩:=fld hz hg (i:=1) (ti:=22) (oi:=1) (ki:=1) (by kernel_rfl);obtain⟨z2,g2⟩:=fld hz hg (i:=2) (ti:=3) (oi:=2) (ki:=1) (by kernel_rfl);obtain⟨z3,g3⟩:=fld hz hg (i:=3) (ti:=3) (oi:=3) (ki:=1) (by kernel_rfl);obtain⟨z4,g4⟩:=fld hz hg (i:=4) (ti:=45) (oi:=4) (ki:=2) (by kernel_rfl);obtain⟨nm,e0,_⟩:=DataW.trod_string und_str g0;obtain⟨sh,hsh⟩:=points_of_trod g1;obtain⟨de,e2,_⟩:=DataW.trod_int und_int g2;obtain⟨dn,e3,_⟩:=DataW.trod_int und_int g3;obtain⟨gr,e4⟩:=point_of_trod g4;obtain⟨wy,e6,_⟩:=DataW.trod_int und_int h1;obtain⟨at9,e7⟩:=point_of_trod h2;obtain⟨sk,e9,_,wsk⟩:=DataW.trod_int und_u8 h3;simp at e0 e2 e3 e4 e6 e7 e9;obtain⟨rfl,rfl⟩:=e4;obtain⟨rfl,rfl⟩:=e7;subst e0 e2 e3 e6 e9;refine⟨⟨nm,sh,de,dn,gr.1,gr.2,wy,at9.1,at9.2,sk⟩,_,rfl,hsh,?_⟩;have w9:decide (IntKind.u8.min≤sk)=true:=by unfold Lit.wf at wsk;simp only [Bool.and_eq_true]at wsk;exact wsk.1
  have w8:IntKind.u8.min=0:=by decide
  rw [w8]at w9;exact of_decide_eq_true w9
theorem placeds_of_trod {n:Nat} {v:Value} {y:DataW H×List MemPlace} (h:DataW.trod enc Tryz.prog w 0 spare held n 23 [v]=some y):∃ps,IsWr w v ps:=by
 obtain⟨a,m,c,T,css,e,hl,hk,hr,hd⟩:=row_of_trod und_pls (k:=10) (by kernel_rfl) (by omega) h
 cases e
 obtain⟨ps,hps,hq⟩:=all_of (α:=Pl) (Q:=PPr w) (fun d h=>by
  obtain⟨f,y,hy⟩:=hd d h;exact placed_of_trod hy)
 exact⟨ps,T,css,hps,hk,by rw [←hps,hl];exact hr,hq⟩
theorem wall_of_trod {r:Reach} {b0:Nat} {v:Value} {d:DataW H} {p:List MemPlace} (hv:Value.okWide Tryz.prog w r b0 25 v) (h:DataW.Trod enc Tryz.prog w 0 spare held 25 v d p) :
  ∃vg vp g ps,v = .agg #[vg,vp]∧IsPr w vg g∧IsWr w vp ps:=by
 obtain⟨cs,rfl,hsz⟩:=okWide_struct und_wl hv;have hc:Tryz.prog.cellsOf 25=2:=by kernel_rfl
 rw [hc]at hsz
 obtain⟨c0,c1,rfl⟩:∃a b,cs=#[a,b]:=by
  match cs,hsz with
  | ⟨[a,b]⟩,_=>exact⟨a,b,rfl⟩
 obtain⟨fuel,hf⟩:=h;obtain⟨xs,m,_,_,hl,hx,hg⟩:=DataW.trod_struct und_wl hf;obtain⟨y0,h0⟩:=fld hx hg (i:=0) (ti:=22) (oi:=0) (ki:=1) (by kernel_rfl);obtain⟨y1,h1⟩:=fld hx hg (i:=1) (ti:=23) (oi:=1) (ki:=1) (by kernel_rfl);obtain⟨g,h2⟩:=points_of_trod (v:=c0) h0;obtain⟨ps,h3⟩:=placeds_of_trod (v:=c1) h1;exact⟨c0,c1,g,ps,rfl,h2,h3⟩
end
end Go.Proofs.YtobbionccnkmgaaGreatDoor.Cop
