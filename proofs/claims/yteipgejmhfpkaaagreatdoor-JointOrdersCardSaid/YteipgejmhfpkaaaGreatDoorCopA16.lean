/- Part 17 of 44: contracts of what the law calls. -/
import Derived.Test.YteipgejmhfpkaaaGreatDoorCopA15
import Derived.Test.YteipgejmhfpkaaaGreatDoorCopA06
import Derived.RangeFuncNested
import Derived.RangeFuncBound
import Derived.RangeFuncCalls
import Derived.RangeFuncLeaves
import Derived.Shelf.Abstract
import Derived.Shelf.RegionOpen
import Derived.TacticsInMore
import Derived.LoopNIn
import Derived.LoopIn
import Derived.Sort.LoopGhostIn
set_option maxRecDepth 1000000
set_option maxHeartbeats 16000000
set_option linter.unusedSimpArgs false
set_option linter.unusedVariables false
namespace Go.Proofs.YteipgejmhfpkaaaGreatDoor.Cop
open Go.RowKit Go.Shelf
theorem news_pt2 (W:World) (x z x' z':Int) (T:TypeId):∀(j:Nat) u,[pc (x,z),pc (x',z')].flatten[j]?=some u→(W.alloc (.cells #[.int .i64 x,.int .i64 z,.int .i64 x',.int .i64 z'] T)).cell? ((⟨W.heap.size,0,none⟩:Addr).add j)=some u:=by
 intro j u hj
 match j,hj with
 | 0,hj=>simp [pc]at hj;subst hj;simp [Addr.add]
 | 1,hj=>simp [pc]at hj;subst hj;simp [Addr.add]
 | 2,hj=>simp [pc]at hj;subst hj;simp [Addr.add]
 | 3,hj=>simp [pc]at hj;subst hj;simp [Addr.add]
 | j+4,hj=>simp [pc]at hj
theorem pt_one2 (x z x' z':Int):∀u∈[pc (x,z),pc (x',z')].flatten,u.oneCell'=true:=pc_one (ps:=[(x,z),(x',z')])
def OuS (w:World) (base:Nat) (p:Pl) (v:Value) (cs:List (Int×Int)) (vcs:Value) (g:Nat) (t18:Value) (W:World):Prop:=
 ∃(i:Nat) (vl vu:Value),i≤cs.length∧t18 = .int .i64 i∧g=cs.length-i∧OuW w base p v (lowRaw cs i) (upRaw cs i) vl vu W∧OwnC 42 2 W (w.heap.size+1+1+1) vcs (cs.map pc)
theorem cs_keep {W w':World} {base s:Nat} {vcs v:Value} {cs:List (List Value)} {L:List (List Value)} (h:OwnC 42 2 W (s+1) vcs cs) (hb:∀j,vcs.ownBlock=some j→j<base) (ho:OwnC 42 2 W base v L) (hg:W.grownBy w' v.ownBlock) (k:Nat) (u:Value) :
  OwnC 42 2 (w'.setCell ⟨s,k,none⟩ u) (s+1) vcs cs:=by
 refine OwnC.setOther (h.grown hg ?_) (fun e=>?_) _
 ·cases e:vcs.ownBlock with
  | none=>exact .inl rfl
  | some j=>exact .inr (fun e2=>by have:=(ho.lt _ e2.symm).1;have:=hb _ e;omega)
 ·have:=(h.lt _ e).1
  dsimp only at this;omega
theorem outline_any0 (w:World) (p:Pl) (v:Value) (h:IsPts w v p.shape) (hok:placedOk p=true) (hg:Gw w) (hL:lowRaw (cornersP p) (cornersP p).length≠[]) (hU:upRaw (cornersP p) (cornersP p).length≠[]) :
  Calls Tryz.prog 63 #[.agg (plc p v)] w (RetO w p v):=by
 obtain⟨a,c,rfl⟩:=h.form;obtain⟨hcb,hc3,hc12⟩:=cornersP_bd hok;have hcn:=fun W (hW:Ext w W)=>corners_any W p _ (h.ext' hW) hok (hg.ext hW)
 obtain⟨cs,hcs⟩:∃cs,cornersP p=cs:=⟨_,rfl⟩;obtain⟨pn,hpn⟩:∃n,p.shape.length=n:=⟨_,rfl⟩;rw [hpn]at hcn h ⊢;obtain⟨R,hR⟩:∃R,RetO w p (.slice a pn c)=R:=⟨_,rfl⟩;rw [hR];have HR:=hd9 hR;rw [hcs]at hcn hcb hc3 hc12 hL hU;obtain⟨n,hn⟩:∃n,cs.length=n:=⟨_,rfl⟩;rw [hn]at hc3 hc12 hL hU;have Hcn:=hd9 hcn;have Hcb:=hd9 hcb;have Hn:=hd9 hn;have Hcs:=hd9 hcs;have HL:=hd9 hL;have HU:=hd9 hU;clear hcn hcb hn hcs hR hok hpn h hL hU;obtain⟨P,hP⟩:∃P,p=P:=⟨_,rfl⟩;obtain⟨nm,ps,d,de,gx,gz,wy,ax,az,sk⟩:=p;unfold plc at *;dsimp only at *;have HP:=hd9 hP;clear hP;go_enter Tryz.func63,Tryz.ntmps63
 go_wp2_with(((go_at_call 91;(with_reducible refine(Hcn.out _ ?_).mono ?_);exact eA;rintro e w1 ⟨v1,rfl,ho1,hx1⟩;obtain⟨a1,n1,c1,rfl⟩:=ho1.form3;obtain rfl:n=n1:=(by have h9:=ho1.len;rw [lL,Hn.out]at h9;exact h9.symm);obtain⟨hc1,hf1⟩:=hx1.cells;(try simp only [qcD,qfD,qdZ]at hc1 hf1);have z1_0:=hx1.lt (n:=w.heap.size) (by go_simp);have z1_1:=hx1.lt (n:=w.heap.size+1) (by go_simp);have z1_2:=hx1.lt (n:=w.heap.size+1+1) (by go_simp))))
 obtain⟨base,hbase⟩:∃b,w1.heap.size=b:=⟨_,rfl⟩;have hxA:Ext w w1:=eA;have hb2:w.heap.size+1+1<base:=by rw [←hbase];exact z1_2
 have hcbk:∀j,(Value.slice a1 n c1).ownBlock=some j→j<base:=fun j hj=>by rw [←hbase];exact(ho1.lt j hj).2
 have K0:=hx1.heapS (k:=w.heap.size) (by rw [heap_get,if_neg (by simp;omega),heap_get,if_neg (by simp)];exact qhA _ _ _ rfl);have K1:=hx1.heapS (k:=w.heap.size+1) (by rw [heap_get,if_neg (by simp)];exact qhA _ _ _ (by simp));have K2:=hx1.heapS (k:=w.heap.size+1+1) (qhA _ _ _ (by simp))
 have hO0:OuW w base ⟨nm,ps,d,de,gx,gz,wy,ax,az,sk⟩ (.slice a pn c) [] [] (.slice none 0 0) (.slice none 0 0) w1:=
  ⟨hxA,hb2,by omega,K0,K1,K2,OwnC.nil _ _ _ _,OwnC.nil _ _ _ _,fun j hj=>by cases hj⟩
 have ho1':OwnC 42 2 w1 (w.heap.size+1+1+1) (.slice a1 n c1) (cs.map pc):=ho1.mono (by simp);have HO0:=hd9 hO0;have Ho1:=hd9 ho1';have Hcbk:=hd9 hcbk;clear K0 K1 K2 hO0 ho1' hcbk ho1 hx1 hc1 hf1 z1_0 z1_1 z1_2 hbase hxA
 go_loopg [18] n (OuS w base ⟨nm,ps,d,de,gx,gz,wy,ax,az,sk⟩ (.slice a pn c) cs (.slice a1 n c1))
 case atStart=>exact⟨0,_,_,by omega,rfl,by rw [Hn.out];rfl,HO0.out,Ho1.out⟩
 case round =>
  clear HO0 Ho1;obtain⟨i,vl,vu,hi,rfl,rfl,hO,hcsr⟩:=hrel;rw [Hn.out]at hi;have hO':=hO;obtain⟨h1,_,h3,h4,h5,h6,h7,h8,h9⟩:=hO';obtain⟨la,ln,lc,rfl⟩:=h7.form3;obtain⟨ua,un,uc,rfl⟩:=h8.form3;have c10:=qcB h6 (i:=10) (u:=.slice la ln lc) rfl;have c11:=qcB h6 (i:=11) (u:=.slice ua un uc) rfl;have z6:=heap_lt h6;have z6a:w.heap.size+1+1<wr.heap.size+1:=by omega
  have z6b:w.heap.size+1+1<wr.heap.size+1+1:=by omega
  have HO:=hd9 hO;have Hcsr:=hd9 hcsr;have hrl:=raw_len cs i;clear h1 h3 h4 h5 h6 h7 h8 h9 hO hcsr
  by_cases hlt:i<n
  ·obtain⟨⟨x,z⟩,hq⟩:∃q,cs[i]?=some q:=⟨cs[i]'(by rw [Hn.out];omega),by simp⟩
   obtain⟨k,hk⟩:∃k,(i+1) % n=k:=⟨_,rfl⟩;have hkn:k<n:=by rw [←hk];exact Nat.mod_lt _ (by omega)
   obtain⟨⟨x',z'⟩,hq'⟩:∃q,cs[k]?=some q:=⟨cs[k]'(by rw [Hn.out];omega),by simp⟩;have hm:((i:Int)+1) % (n:Int)=(k:Int):=by rw [←hk];simp
   obtain⟨b,o,rfl,hb,d0,d1⟩:=(Hcsr.out.pts).at' hq;obtain⟨b',o',e',hb',d2,d3⟩:=(Hcsr.out.pts).at' hq'
   cases e'
   have hE:edgeLow cs i=(if x<x' then [(x,z),(x',z')]else [])∧edgeUp cs i=(if x'<x then [(x,z),(x',z')]else []):=by
    unfold edgeLow edgeUp;rw [Hn.out,hk,List.getD_eq_getElem?_getD,List.getD_eq_getElem?_getD,hq,hq'];exact⟨rfl,rfl⟩
   have HE:=hd9 hE;have p1:(0:Int)≤(i:Int):=by omega
   have p2:(i:Int)<(n:Int):=by omega
   have p3:(0:Int)≤(k:Int):=by omega
   have p4:(k:Int)<(n:Int):=by omega
   have p5:(0:Int)<(n:Int):=by omega
   have hle2:((lowRaw cs i).map pc).length+2≤100000000000∧((upRaw cs i).map pc).length+2≤100000000000:=by rw [lL,lL];omega
   have Hle2:=hd9 hle2;clear hq hq' hE hk hle2 hrl
   by_cases t1:x<x'
   ·have hE1:=HE.out.1
    have hE2:=HE.out.2;rw [if_pos t1]at hE1;rw [if_neg (by omega)]at hE2;have HE1:=hd9 hE1;have HE2:=hd9 hE2;clear hE1 hE2;have X5:Ext wr (((wr.alloc (.cells #[.int .i64 x,.int .i64 z] 42)).alloc (.cells #[.int .i64 x',.int .i64 z'] 42)).alloc (.cells #[.int .i64 x,.int .i64 z,.int .i64 x',.int .i64 z'] 42)):=(((Ext.refl wr).alloc _).alloc _).alloc _;have hO5:=HO.out.ext X5;have hw5:=hO5.2.2.2.2.2.2;have hbs5:=hO5.2.2.1;have H65:=hd9 hO5.2.2.2.2.2.1;have HO5:=hd9 hO5;have Hw5:=hd9 hw5.1;clear hO5 hw5
    go_wp2_with(at_builtin;refine appC (T:=42) (t:=99) (z:=.agg #[.int .i64 0,.int .i64 0]) (k:=2) (bytes:=16) (base:=base) (v:=.slice la ln lc) (cs:=(lowRaw cs i).map pc) (m:=2) (c:=2) (ad:=⟨wr.heap.size+1+1,0,none⟩) info_pt rfl (by decide) (by decide) Tryz.underlying99 rfl _ _ rfl rfl Hw5.out rfl [pc (x,z),pc (x',z')] rfl (by simp [pc]) (by simpa using news_pt2 ((wr.alloc (.cells #[.int .i64 x,.int .i64 z] 42)).alloc (.cells #[.int .i64 x',.int .i64 z'] 42)) x z x' z' 42) (pt_one2 _ _ _ _) Hle2.out.1 hbs5 ?_;intro v' w5 hown5 hgrow hlie;obtain⟨a5,n5,c5,rfl⟩:=hown5.form3;have E5:=grown_heapS hgrow H65.out (fun e=>by have:=(Hw5.out.lt _ e.symm).1;omega);have c9:=qcB E5 (i:=10) (u:=.slice la ln lc) rfl;have f9:=qfB E5 10)
    go_roundg (n-(i+1))
    case measure=>have:=Hn.out;omega
    case rel =>
     refine⟨i+1,.slice a5 n5 c5,.slice ua un uc,by have:=Hn.out;omega,by go_num,by rw [Hn.out],?_,cs_keep (Hcsr.out.ext X5) Hcbk.out Hw5.out hgrow _ _⟩;rw [lowRaw_succ,upRaw_succ,HE1.out,HE2.out,List.append_nil];exact OuW.setLow HO5.out hgrow (by rw [List.map_append];exact hown5) hlie
   ·by_cases t2:x'<x
    ·have k1:x'≤x:=by omega
     have hE1:=HE.out.1;have hE2:=HE.out.2;rw [if_neg t1]at hE1;rw [if_pos t2]at hE2;have HE1:=hd9 hE1;have HE2:=hd9 hE2;clear t1 hE1 hE2;have X5:Ext wr (((wr.alloc (.cells #[.int .i64 x,.int .i64 z] 42)).alloc (.cells #[.int .i64 x',.int .i64 z'] 42)).alloc (.cells #[.int .i64 x,.int .i64 z,.int .i64 x',.int .i64 z'] 42)):=(((Ext.refl wr).alloc _).alloc _).alloc _;have hO5:=HO.out.ext X5;have hw5:=hO5.2.2.2.2.2.2;have hbs5:=hO5.2.2.1;have H65:=hd9 hO5.2.2.2.2.2.1;have HO5:=hd9 hO5;have Hw5:=hd9 hw5.2.1;clear hO5 hw5
     go_wp2_with(at_builtin;refine appC (T:=42) (t:=99) (z:=.agg #[.int .i64 0,.int .i64 0]) (k:=2) (bytes:=16) (base:=base) (v:=.slice ua un uc) (cs:=(upRaw cs i).map pc) (m:=2) (c:=2) (ad:=⟨wr.heap.size+1+1,0,none⟩) info_pt rfl (by decide) (by decide) Tryz.underlying99 rfl _ _ rfl rfl Hw5.out rfl [pc (x,z),pc (x',z')] rfl (by simp [pc]) (by simpa using news_pt2 ((wr.alloc (.cells #[.int .i64 x,.int .i64 z] 42)).alloc (.cells #[.int .i64 x',.int .i64 z'] 42)) x z x' z' 42) (pt_one2 _ _ _ _) Hle2.out.2 hbs5 ?_;intro v' w5 hown5 hgrow hlie;obtain⟨a5,n5,c5,rfl⟩:=hown5.form3;have E5:=grown_heapS hgrow H65.out (fun e=>by have:=(Hw5.out.lt _ e.symm).1;omega);have c9:=qcB E5 (i:=11) (u:=.slice ua un uc) rfl;have f9:=qfB E5 11)
     go_roundg (n-(i+1))
     case measure=>have:=Hn.out;omega
     case rel =>
      refine⟨i+1,.slice la ln lc,.slice a5 n5 c5,by have:=Hn.out;omega,by go_num,by rw [Hn.out],?_,cs_keep (Hcsr.out.ext X5) Hcbk.out Hw5.out hgrow _ _⟩;rw [lowRaw_succ,upRaw_succ,HE1.out,HE2.out,List.append_nil];exact OuW.setUp HO5.out hgrow (by rw [List.map_append];exact hown5) hlie
    ·have k1:x'≤x:=by omega
     have k2:x≤x':=by omega
     have hE1:=HE.out.1;have hE2:=HE.out.2;rw [if_neg t1]at hE1;rw [if_neg t2]at hE2;have HE1:=hd9 hE1;have HE2:=hd9 hE2;clear t1 t2 hE1 hE2;go_wp2
     go_roundg (n-(i+1))
     case measure=>have:=Hn.out;omega
     case rel =>
      refine⟨i+1,.slice la ln lc,.slice ua un uc,by have:=Hn.out;omega,by go_num,by rw [Hn.out],?_,Hcsr.out.ext eA⟩;rw [lowRaw_succ,upRaw_succ,HE1.out,HE2.out,List.append_nil,List.append_nil];exact HO.out.ext eA
  ·obtain rfl:i=n:=by omega
   have hO:=HO.out;have hrb:=raw_bd Hcb.out (i:=i) (by rw [Hn.out];exact Nat.le_refl _);obtain⟨LR,hLR⟩:∃l,lowRaw cs i=l:=⟨_,rfl⟩;obtain⟨UR,hUR⟩:∃l,upRaw cs i=l:=⟨_,rfl⟩;rw [hLR,hUR]at hrl hO hrb;have hLn:LR≠[]:=by rw [←hLR];exact HL.out
   have hUn:UR≠[]:=by rw [←hUR];exact HU.out
   have HLR:=hd9 hLR;have HUR:=hd9 hUR;clear hLR hUR HO;obtain⟨lg,rfl,_,_⟩:=OwnC.blk hO.2.2.2.2.2.2.1 (by rw [lL];exact List.length_pos_iff.2 hLn);obtain⟨ug,rfl,_,_⟩:=OwnC.blk hO.2.2.2.2.2.2.2.1 (by rw [lL];exact List.length_pos_iff.2 hUn);have hs1:=sortline_any wr base lg ln lc LR hO.2.2.2.2.2.2.1 (fun q hq=>⟨(hrb.1 q hq).1.mono (by decide),(hrb.1 q hq).2.mono (by decide)⟩) (by omega);have hs2:=fun(W:World) (ho:OwnC 42 2 W base (.slice (some ⟨ug,0,none⟩) un uc) (UR.map pc))=>sortline_any W base ug un uc UR ho (fun q hq=>⟨(hrb.2 q hq).1.mono (by decide),(hrb.2 q hq).2.mono (by decide)⟩) (by omega)
   have hlL:(sortX LR).length≤1000000:=by rw [(sortX_perm LR).length_eq];omega
   have hlU:(sortX UR).length≤1000000:=by rw [(sortX_perm UR).length_eq];omega
   have hk1:=fun(W:World) (ho:OwnC 42 2 W base (.slice (some ⟨lg,0,none⟩) ln lc) ((sortX LR).map pc))=>compact_any W base (.slice (some ⟨lg,0,none⟩) ln lc) (sortX LR) ho hlL
   have hk2:=fun(W:World) (ho:OwnC 42 2 W base (.slice (some ⟨ug,0,none⟩) un uc) ((sortX UR).map pc))=>compact_any W base (.slice (some ⟨ug,0,none⟩) un uc) (sortX UR) ho hlU
   have HO:=hd9 hO;have Hs1:=hd9 hs1;have Hs2:=hd9 hs2;have Hk1:=hd9 hk1;have Hk2:=hd9 hk2;clear hO hs1 hs2 hk1 hk2 hrb hrl hlL hlU hLn hUn Hcsr Hcb
   go_wp2_with fail
   (with_reducible refine Hs1.out.mono ?_);rintro e w2 ⟨rfl,ho2,hg2⟩
   have HO2:=hd9 (OuW.low HO.out hg2 ho2);have c21:=qcB HO2.out.2.2.2.2.2.1 (i:=11) (u:=.slice (some ⟨ug,0,none⟩) un uc) rfl;have z22:=heap_lt HO2.out.2.2.2.2.2.1;clear ho2 hg2
   go_wp2_with fail
   have hu2:=HO2.out.2.2.2.2.2.2.2.1
   (with_reducible refine(Hs2.out w2 hu2).mono ?_);rintro e w3 ⟨rfl,ho3,hg3⟩
   have HO3:=hd9 (OuW.up HO2.out hg3 ho3);clear ho3 hg3
   go_wp2_with fail
   have hX3:=HO3.out.toX;have c30:=qcB hX3.2.2.2.2.1 (i:=10) (u:=.slice (some ⟨lg,0,none⟩) ln lc) rfl;have c31:=qcB hX3.2.2.2.2.1 (i:=11) (u:=.slice (some ⟨ug,0,none⟩) un uc) rfl;have y3:=heap_lt hX3.2.2.2.2.1;have HX3:=hd9 hX3;have HK1:=hd9 (HX3.out.ext (Ext.refl w3).drew).2.2.2.2.2.1;clear hX3
   first|(go_region_with (first|((go_at_call 94;(with_reducible refine(Hk1.out _ HK1.out).mono ?_);rintro e w4 ⟨v4,rfl,ho4,hg4,he4⟩;obtain⟨a4,n4,c4,rfl⟩:=ho4.form3;have HX4:=hd9 (OuX.low (HX3.out.ext (Ext.refl w3).drew) hg4 ho4 he4);have c41:=qcB HX4.out.2.2.2.2.1 (i:=11) (u:=.slice (some ⟨ug,0,none⟩) un uc) rfl;have y4:=heap_lt HX4.out.2.2.2.2.1;have hu4:=HX4.out.2.2.2.2.2.2.1))|((go_at_call 94;(with_reducible refine(Hk2.out _ hu4).mono ?_);rintro e w5 ⟨v5,rfl,ho5,hg5,he5⟩;obtain⟨a5,n5,c5,rfl⟩:=ho5.form3;have HX5:=hd9 (OuX.up HX4.out hg5 ho5 he5);obtain⟨b0,b1,b2,b3,b4,b5,b6,b7,b8,b9,b10,b11,bf,y5⟩:=lac_rd HX5.out.2.2.2.2.1;obtain⟨d0,d1,d2,d3,d4,d5,d6,d7,d8,d9,d10,d11,df,y6⟩:=la0_rd HX5.out.2.2.2.1;dsimp only at b0 b2 b3 b4 b5 b6 b7 b8 b9))))|fail
   all_goals go_wp2
   all_goals
    have hn1:¬w.heap.size+1+1=w.heap.size+1:=by omega
    have hn2:¬w.heap.size+1=w.heap.size+1+1:=by omega
    refine bodyPost_ret (v:=.agg (lac ⟨nm,ps,d,de,gx,gz,wy,ax,az,sk⟩ (.slice a pn c) (.slice a4 n4 c4) (.slice a5 n5 c5))) (by simp [results,Tryz.results63,go_sem,lac,d0,d1,d2,d3,d4,d5,d6,d7,d8,d9,d10,d11,hn1,hn2]) rfl ?_;rw [←HR.out];obtain⟨f1,f2,f3,f5,f6,f7,f8,f9⟩:=HX5.out;have hne:∀{u:Value} {L:List (List Value)},OwnC 42 2 w5 base u L→u.ownBlock≠some (w.heap.size+1+1)∧u.ownBlock≠some (w.heap.size+1):=fun ho=>⟨fun e=>by have:=(ho.lt _ e).1;omega,fun e=>by have:=(ho.lt _ e).1;omega⟩
    obtain⟨m1,m2⟩:=hne f7;obtain⟨m3,m4⟩:=hne f8;refine⟨.slice a4 n4 c4,.slice a5 n5 c5,rfl,?_,?_,?_⟩
    ·unfold lowP2 lineOf
     rw [Hcs.out,Hn.out,HLR.out];refine OwnC.pts (base:=base) ?_
     repeat(refine OwnC.setOther ?_ (by first|exact m1|exact m2) _)
     exact f7
    ·unfold upP2 lineOf
     rw [Hcs.out,Hn.out,HUR.out];refine OwnC.pts (base:=base) ?_
     repeat(refine OwnC.setOther ?_ (by first|exact m3|exact m4) _)
     exact f8
    ·repeat(refine Ext.set ?_ (by dsimp only;omega) _)
     exact f1
def FlatX (cs:List (Int×Int)):Prop:=∃c,∀q∈cs,q.1=c
def FlatZ (cs:List (Int×Int)):Prop:=∃c,∀q∈cs,q.2=c
theorem cvx_not_flat {ps:List (Int×Int)} (h:convexB ps=true):¬FlatX ps∧¬FlatZ ps:=by
 have hl:=convexB_len h;unfold convexB at h;rw [Bool.and_eq_true,List.all_eq_true]at h;have h0:=h.2 0 (List.mem_range.2 (by omega));unfold cvxR cvx1 at h0;rw [Bool.and_eq_true,decide_eq_true_eq]at h0;have h1:=h0.1
 have mem:∀i:Int,atc ps i∈ps:=fun i=>by
  obtain⟨j,_,_,hj⟩:=atc_get (ps:=ps) (i:=i) (by omega);exact lM hj
 refine⟨fun⟨c,hc⟩=>?_,fun⟨c,hc⟩=>?_⟩
 ·unfold trn at h1
  rw [hc _ (mem _),hc _ (mem _),hc _ (mem _)]at h1;simp at h1
 ·unfold trn at h1
  rw [hc _ (mem _),hc _ (mem _),hc _ (mem _)]at h1;simp at h1
theorem way_flat {way:Int} {ps:List (Int×Int)} (h:FlatX (ps.map (wayP way))):FlatX ps∨FlatZ ps:=by
 obtain⟨c,hc⟩:=h;have hq:∀q∈ps,(wayP way q).1=c:=fun q hq=>hc _ (List.mem_map.2 ⟨q,hq,rfl⟩)
 unfold wayP at hq;dsimp only at hq
 by_cases h3:3<way
 ·simp only [if_pos h3]at hq
  by_cases m0:way % 4=0
  ·simp only [if_pos m0]at hq;exact .inl ⟨-c,fun q h=>by have:=hq q h;omega⟩
  ·simp only [if_neg m0]at hq
   by_cases m1:way % 4=1
   ·simp only [if_pos m1]at hq;exact .inr ⟨-c,fun q h=>by have:=hq q h;omega⟩
   ·simp only [if_neg m1]at hq
    by_cases m2:way % 4=2
    ·simp only [if_pos m2]at hq;exact .inl ⟨c,fun q h=>by have:=hq q h;omega⟩
    ·simp only [if_neg m2]at hq;exact .inr ⟨c,fun q h=>by have:=hq q h;omega⟩
 ·simp only [if_neg h3]at hq
  by_cases m0:way % 4=0
  ·simp only [if_pos m0]at hq;exact .inl ⟨c,fun q h=>by have:=hq q h;omega⟩
  ·simp only [if_neg m0]at hq
   by_cases m1:way % 4=1
   ·simp only [if_pos m1]at hq;exact .inr ⟨-c,fun q h=>by have:=hq q h;omega⟩
   ·simp only [if_neg m1]at hq
    by_cases m2:way % 4=2
    ·simp only [if_pos m2]at hq;exact .inl ⟨-c,fun q h=>by have:=hq q h;omega⟩
    ·simp only [if_neg m2]at hq;exact .inr ⟨c,fun q h=>by have:=hq q h;omega⟩
theorem settled_flat {ps:List (Int×Int)} (h:FlatX (settledP ps)):FlatX ps:=by
 obtain⟨c,hc⟩:=h;refine⟨c+(leastP ps).1,fun q hq=>?_⟩
 have hm:q∈ps.drop (idxN ps)++ps.take (idxN ps):=by
  rw [←List.take_append_drop (idxN ps) ps]at hq
  rcases List.mem_append.1 hq with h|h
  ·exact List.mem_append_right _ h
  ·exact List.mem_append_left _ h
 have:=hc _ (List.mem_map.2 ⟨q,hm,rfl⟩);dsimp only at this;omega
theorem corners_flat {p:Pl} (h:placedOk p=true):¬FlatX (cornersP p):=by
 intro ⟨c,hc⟩;have hs:=(placedOk_parts h).1
 have hcv:convexB p.shape=true:=by
  unfold stoneB at hs;simp only [Bool.and_eq_true]at hs
  cases hcc:convexB p.shape
  ·have:=hs.1.1.1.2;rw [placedB_cvx hcc]at this;cases this
  ·rfl
 obtain⟨n1,n2⟩:=cvx_not_flat hcv
 have h1:FlatX (turnedP p.way p.shape):=⟨c-p.ax,fun q hq=>by
  have:=hc _ (List.mem_map.2 ⟨q,hq,rfl⟩);dsimp only at this;omega⟩
 unfold turnedP at h1;have h2:=settled_flat h1
 have h3:FlatX (p.shape.map (wayP p.way)):=by
  split at h2
  ·obtain⟨c,hc⟩:=h2
   exact⟨c,fun q hq=>hc q (List.mem_reverse.2 hq)⟩
  ·exact h2
 rcases way_flat h3 with h|h
 ·exact n1 h
 ·exact n2 h
theorem cyc_le {xs:List Int} {n:Nat} (hn:xs.length=n) (h:∀i,i<n→xs.getD ((i+1) % n) 0≤xs.getD i 0):∀x∈xs,x=xs.getD 0 0:=by
 have down:∀i,i<n→xs.getD i 0≤xs.getD 0 0:=by
  intro i
  induction i with
  | zero=>intro _;exact Int.le_refl _
  | succ i ih =>
   intro hi;have h1:=ih (by omega);have h2:=h i (by omega);rw [Nat.mod_eq_of_lt hi]at h2;omega
 have up:∀k i,i+k=n-1→i<n→xs.getD (n-1) 0≤xs.getD i 0:=by
  intro k
  induction k with
  | zero=>intro i hi hn;rw [show i=n-1 by omega];exact Int.le_refl _
  | succ k ih =>
   intro i hi hin;have h1:=ih (i+1) (by omega) (by omega);have h2:=h i hin;rw [Nat.mod_eq_of_lt (by omega)]at h2;omega
 intro x hx;obtain⟨i,hi,rfl⟩:=List.mem_iff_getElem.1 hx;have e:xs.getD i 0=xs[i]:=by rw [List.getD_eq_getElem?_getD,List.getElem?_eq_getElem hi];rfl
 have h1:=down i (by omega);have h2:=up (n-1-i) i (by omega) (by omega);have h3:=h (n-1) (by omega);rw [show n-1+1=n by omega,Nat.mod_self]at h3;omega
theorem getD_fst (cs:List (Int×Int)) (i:Nat):(cs.map (·.1)).getD i 0=(cs.getD i (0,0)).1:=by
 rw [List.getD_eq_getElem?_getD,List.getD_eq_getElem?_getD,lP]
 cases cs[i]?<;>rfl
theorem low_ne {p:Pl} (h:placedOk p=true):lowRaw (cornersP p) (cornersP p).length≠[]:=by
 intro e
 apply corners_flat h
 have hz:∀i,i<(cornersP p).length→¬((cornersP p).getD i (0,0)).1<((cornersP p).getD ((i+1) % (cornersP p).length) (0,0)).1:=by
  intro i hi hlt;unfold lowRaw at e;rw [List.flatMap_eq_nil_iff]at e;have:=e i (List.mem_range.2 hi);unfold edgeLow at this;rw [if_pos hlt]at this
  cases this
 refine⟨_,fun q hq=>cyc_le (xs:=(cornersP p).map (·.1)) (n:=(cornersP p).length) (by simp) (fun i hi=>?_) q.1 (List.mem_map.2 ⟨q,hq,rfl⟩)⟩;rw [getD_fst,getD_fst];have:=hz i hi;omega
theorem up_ne {p:Pl} (h:placedOk p=true):upRaw (cornersP p) (cornersP p).length≠[]:=by
 intro e
 apply corners_flat h
 have hz:∀i,i<(cornersP p).length→¬((cornersP p).getD ((i+1) % (cornersP p).length) (0,0)).1<((cornersP p).getD i (0,0)).1:=by
  intro i hi hlt;unfold upRaw at e;rw [List.flatMap_eq_nil_iff]at e;have:=e i (List.mem_range.2 hi);unfold edgeUp at this;rw [if_pos hlt]at this
  cases this
 refine⟨-(((cornersP p).map (fun q=>-q.1)).getD 0 0),fun q hq=>?_⟩
 have hg:∀i,((cornersP p).map (fun q=>-q.1)).getD i 0 = -((cornersP p).getD i (0,0)).1:=fun i=>by
  rw [List.getD_eq_getElem?_getD,List.getD_eq_getElem?_getD,lP]
  cases (cornersP p)[i]?<;>rfl
 have:=cyc_le (xs:=(cornersP p).map (fun q=>-q.1)) (n:=(cornersP p).length) (by simp) (fun i hi=>by rw [hg,hg];have:=hz i hi;omega) (-q.1) (List.mem_map.2 ⟨q,hq,rfl⟩);omega
theorem outline_any (w:World) (p:Pl) (v:Value) (h:IsPts w v p.shape) (hok:placedOk p=true) (hg:Gw w):Calls Tryz.prog 63 #[.agg (plc p v)] w (RetO w p v):=
 outline_any0 w p v h hok hg (low_ne hok) (up_ne hok)
theorem compactP_mem {α:Type} [DecidableEq α]:∀{xs:List α} {x:α},x∈compactP xs→x∈xs
 | [],_,h=>h
 | [a],_,h=>h
 | a::b::r,x,h=>by
  rw [compactP]at h
  split at h
  ·exact List.mem_cons_of_mem _ (compactP_mem h)
  ·rcases List.mem_cons.1 h with rfl|h
   ·simp
   ·exact List.mem_cons_of_mem _ (compactP_mem h)
theorem compactP_ne {α:Type} [DecidableEq α]:∀{xs:List α},xs≠[]→compactP xs≠[]
 | [],h=>absurd rfl h
 | [a],_=>by simp [compactP]
 | a::b::r,_=>by
  rw [compactP]
  split
  ·exact compactP_ne (by simp)
  ·simp
theorem compactP_len {α:Type} [DecidableEq α]:∀(xs:List α),(compactP xs).length≤xs.length
 | []=>by simp [compactP]
 | [a]=>by simp [compactP]
 | a::b::r=>by
  rw [compactP];have:=compactP_len (b::r)
  split
  ·simp at this ⊢;omega
  ·simp at this ⊢;omega
theorem lineOf_ok {k:Int} {raw:List (Int×Int)} (h:raw≠[]) (hb:PBd k raw) (hl:raw.length≤24):lineOf raw≠[]∧PBd k (lineOf raw)∧(lineOf raw).length≤24:=by
 unfold lineOf;have hp:=sortX_perm raw;refine⟨compactP_ne (fun e=>h ?_),fun q hq=>hb q (hp.mem_iff.1 (compactP_mem hq)),?_⟩
 ·rw [e]at hp;exact hp.symm.eq_nil
 ·have:=compactP_len (sortX raw)
  rw [hp.length_eq]at this;omega
def LnOk (l:List (Int×Int)):Prop:=l≠[]∧PBd 104000 l∧l.length≤64
theorem lines_ok {p:Pl} (h:placedOk p=true):LnOk (lowP2 p)∧LnOk (upP2 p):=by
 obtain⟨hb,h3,h12⟩:=cornersP_bd h;have hr:=raw_bd hb (Nat.le_refl _);have hl:=raw_len (cornersP p) (cornersP p).length;have h1:=lineOf_ok (low_ne h) hr.1 (by omega);have h2:=lineOf_ok (up_ne h) hr.2 (by omega);exact⟨⟨h1.1,h1.2.1,Nat.le_trans h1.2.2 (by omega)⟩,⟨h2.1,h2.2.1,Nat.le_trans h2.2.2 (by omega)⟩⟩
def RetCo (w:World) (p:Pl) (e:Ending) (w':World):Prop:=(placedOk p=false∧e = .returned (.tuple #[.slice none 0 0,.int .i64 2])∧Ext w w')∨(placedOk p=true∧∃v,e = .returned (.tuple #[v,.int .i64 0])∧IsPts w' v (cornersP p)∧Ext w w')
theorem Corners_any (w:World) (p:Pl) (v:Value) (h:IsPts w v p.shape) (hk:0≤p.skin) (hg:Gw w):Calls Tryz.prog 78 #[.agg (plc p v)] w (RetCo w p):=by
 obtain⟨a,c,rfl⟩:=h.form;obtain⟨n,hn⟩:∃n,p.shape.length=n:=⟨_,rfl⟩;have hck:=fun W (hW:Ext w W)=>checkp_any W p _ (h.ext' hW) hk
 have hcn:=fun W (hW:Ext w W) (hok:placedOk p=true)=>corners_any W p _ (h.ext' hW) hok (hg.ext hW)
 rw [hn]at hck hcn ⊢;obtain⟨R,hR⟩:∃R,RetCo w p=R:=⟨_,rfl⟩;rw [hR];have HR:=hd9 hR;clear hR h hn
 cases hok:placedOk p
 ·rw [hok]at hck
  have Hck:=hd9 hck;have Hok:=hd9 hok;clear hck hcn hok;obtain⟨nm,ps,d,de,gx,gz,wy,ax,az,sk⟩:=p;unfold plc at *;dsimp only at *;go_enter Tryz.func78,Tryz.ntmps78
  go_wp2_with(((go_at_call 62;(with_reducible refine(Hck.out _ ?_).mono ?_);exact eA;rintro e w1 ⟨rfl,hx1⟩;obtain⟨hc1,hf1⟩:=hx1.cells;(try simp only [qcD,qfD,qdZ]at hc1 hf1);have z1_0:=hx1.lt (n:=w.heap.size) (by go_simp))))
  rw [←HR.out];exact .inl ⟨Hok.out,rfl,eA⟩
 ·rw [hok]at hck
  have hcn':=fun W hW=>hcn W hW hok
  have Hck:=hd9 hck;have Hcn:=hd9 hcn';have Hok:=hd9 hok;clear hck hcn hcn' hok;obtain⟨nm,ps,d,de,gx,gz,wy,ax,az,sk⟩:=p;unfold plc at *;dsimp only at *;go_enter Tryz.func78,Tryz.ntmps78
  go_wp2_with(first|((go_at_call 62;(with_reducible refine(Hck.out _ ?_).mono ?_);exact eA;rintro e w1 ⟨rfl,hx1⟩;obtain⟨hc1,hf1⟩:=hx1.cells;(try simp only [qcD,qfD,qdZ]at hc1 hf1);have z1_0:=hx1.lt (n:=w.heap.size) (by go_simp)))|((go_at_call 91;(with_reducible refine(Hcn.out _ ?_).mono ?_);exact eA;rintro e w2 ⟨v2,rfl,ho2,hx2⟩;obtain⟨a2,n2,c2,rfl⟩:=ho2.form3)))
  rw [←HR.out];exact .inr ⟨Hok.out,_,rfl,ho2.pts,eA⟩
def wpN (_:Nat) (p:Prop):Prop:=p
theorem sN (k:Nat) {p:Prop} (h:wpN k p):p:=h
theorem oN {k:Nat} {p:Prop} (h:p):wpN k p:=h
def NQ (Q:Exit→Act→World→Prop):Exit→Act→World→Prop
 | .normal,a,w=>Q .normal a w
 | _,_,_=>False
theorem NQ_out {Q:Exit→Act→World→Prop}:¬LetsOut (NQ Q):=fun⟨_,_,h⟩=>h
def noDefer (ops:Array Oper):Bool:=ops.all fun o=>match o.op with | .defer _=>false|_=>true
theorem noDefer_at {ops:Array Oper} (h:noDefer ops=true) {i:Nat} {o:Oper} (ho:ops[i]?=some o):∀c,o.op ≠ .defer c:=by
 intro c hc;unfold noDefer at h;rw [Array.all_eq_true]at h;obtain⟨hi,rfl⟩:=Array.getElem?_eq_some_iff.1 ho;have:=h i hi;rw [hc]at this
 cases this
theorem rows_wide {l n:Nat} {P:Program} {row:String} {args:Array Value} {w:World} {R:Value→World→Prop} (h:Rows P row args w R):RowsIn (Fence.wide.inRound l) n P row args w R:=by
 intro c cs _;obtain⟨v,w',r,s⟩:=h c cs;exact⟨v,w',r,stepsIn_wide.2 s⟩
theorem oper_round {l n:Nat} {P:Program} {o:Oper} {a:Act} {w:World} {K:Act→World→Prop} {Q:Exit→Act→World→Prop} (hd:∀c,o.op ≠ .defer c) (h:o.wp P a w K (NQ Q)):o.wpIn (Fence.wide.inRound l) n P a w K Q:=by
 refine⟨fun _ _=>trivial,?_⟩;rw [Oper.semAt_plain _ _ _ hd];unfold Oper.wp at h
 generalize (execOp a.eval o).run P w=r at *
 have hdep:(Fence.wide.inRound l).depth.isSome=true→1≤n:=fun h=>by cases h
 cases r with
 | ok x w' =>
  cases x with
  | value u=>exact h
  | skip=>exact h
  | defer d=>exact h
  | enter f args =>
   refine⟨hdep,CallsIn.inRound l (callsIn_wide.2 (Calls.mono h fun e w'' he=>?_))⟩
   cases e with
   | returned u=>exact he
   | panicked c=>exact he.elim
   | outgrown=>exact(NQ_out he).elim
  | row row args=>exact⟨hdep,rows_wide h⟩
  | _=>exact h.elim
 | halt x w' =>
  cases x<;>first|exact h.elim|skip
theorem any_round {l n:Nat} {P:Program} {md:Region.Mode} {ops:Array Oper} {Q:Exit→Act→World→Prop} (hd:noDefer ops=true):∀(fuel:Nat) (listed:Array Bool) (a:Act) (w:World),
  wpAny P md ops (NQ Q) fuel listed a w→wpAnyIn (Fence.wide.inRound l) n P md ops Q fuel listed a w
 | 0,_,_,_,h=>h
 | fuel+1,listed,a,w,h=>by
  refine⟨h.1,fun i hi=>?_⟩;have h1:=h.2 i hi;unfold wpOp at h1;unfold wpOpIn
  cases ho:ops[i]? with
  | none=>rw [ho]at h1;exact any_round hd fuel _ a w h1
  | some o =>
   rw [ho]at h1;dsimp only at h1 ⊢
   split
   ·rename_i hw
    rw [if_pos hw]at h1
    rcases h1 with h1|⟨_,h1⟩
    ·exact Oper.wpIn_mono (fun a' w' h2=>any_round hd fuel _ a' w' h2) (oper_round (noDefer_at hd ho) h1)
    ·exact(NQ_out h1).elim
   ·rename_i hw
    rw [if_neg hw]at h1;exact⟨fun _ _=>trivial,any_round hd fuel _ _ w h1⟩
theorem wpIn_region_heldR {l n:Nat} {P:Program} {ops:Array Oper} {Q:Exit→Act→World→Prop} {S:World→Prop} {id:Nat} {a:Act} {w:World} (hm:P.follows .mixedOrders=true) (hd:noDefer ops=true) (hS:S w.drew)
  (h:S w.drew→wpAnyH P .any ops (NQ Q) S ops.size (Array.replicate ops.size false) a w.drew):(Code.region id ops true).wpIn (Fence.wide.inRound l) n P Q a w:=
 wpIn_region_any hm (any_round hd _ _ _ _ (wpAny_of_held _ _ _ _ (h hS)))
end Go.Proofs.YteipgejmhfpkaaaGreatDoor.Cop
