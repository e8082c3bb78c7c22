/- Part 20 of 44: contracts of what the law calls. -/
import Derived.Test.YteipgejmhfpkaaaGreatDoorCopA18
set_option maxRecDepth 1000000
set_option maxHeartbeats 16000000
set_option linter.unusedSimpArgs false
set_option linter.unusedVariables false
namespace Go.Proofs.YteipgejmhfpkaaaGreatDoor.Cop
open Go.RowKit Go.Shelf Go.Sort Go.Lib
def site0:Value:=.agg #[.slice none 0 0,.slice none 0 0]
def RetLo (w:World) (vg:Value) (g:List (Int×Int)) (ps:List Pl) (e:Ending) (w':World):Prop:=
 (laidP g ps≠0∧e = .returned (.tuple #[site0,.int .i64 (laidP g ps)])∧Ext w w')∨(laidP g ps=0∧∃vs,e = .returned (.tuple #[.agg #[vg,vs],.int .i64 0])∧IsLas w' vs ps∧Ext w w')
def LoC (w:World) (b4:Nat) (vg vp vs:Value) (W:World):Prop:=
 W.heap[w.heap.size]?=some (.cells #[vg,vp] 33 (0,0))∧W.heap[w.heap.size+1]?=some (.cells #[.slice none 0 0,.slice none 0 0] 102 (0,0))∧W.heap[b4]?=some (.cells #[vg,vs] 102 (0,0))
theorem LoC.ext {w W W':World} {b4:Nat} {vg vp vs:Value} (h:LoC w b4 vg vp vs W) (k:Ext W W'):LoC w b4 vg vp vs W':=⟨k.heapS h.1,k.heapS h.2.1,k.heapS h.2.2⟩
theorem LoC.below {w W W':World} {b4:Nat} {vg vp vs:Value} (h:LoC w b4 vg vp vs W) (k:Below (b4+1) W W') (hz:w.heap.size+1<b4):LoC w b4 vg vp vs W':=by
 obtain⟨h1,h2,h3⟩:=h;exact⟨(k.block _ (by omega)).trans h1,(k.block _ (by omega)).trans h2,(k.block _ (by omega)).trans h3⟩
theorem LoC.put {w W:World} {b4:Nat} {vg vp vs:Value} (h:LoC w b4 vg vp vs W) (hz:w.heap.size+1<b4) (v:Value):LoC w b4 vg vp v (W.setCell ⟨b4,1,none⟩ v):=by
 obtain⟨h1,h2,h3⟩:=h;refine⟨?_,?_,?_⟩
 ·rw [Below.heap_setCell _ _ _ _ (by dsimp only;omega)];exact h1
 ·rw [Below.heap_setCell _ _ _ _ (by dsimp only;omega)];exact h2
 ·simp [World.setCell,Array.getElem?_modify,h3]
def LoS (w:World) (b4:Nat) (vg vp:Value) (g:List (Int×Int)) (ps:List Pl) (gk:Nat) (t28:Value) (W:World):Prop:=
 ∃(i:Nat) (vs:Value),i≤ps.length∧t28 = .int .i64 i∧gk=ps.length-i∧Ext w W∧b4+1≤W.heap.size∧LoC w b4 vg vp vs W∧OwnLa W (b4+1) vs (ps.take i)∧laid1 g [] ps=laid1 g (ps.take i) (ps.drop i)∧∀p∈ps.take i,placedOk p=true
def LpS (w:World) (b4:Nat) (vg vp:Value) (vs:Value) (g:List (Int×Int)) (ps:List Pl) (gk:Nat) (t59:Value) (W:World):Prop:=
 ∃i:Nat,i≤ps.length∧t59 = .int .i64 i∧gk=ps.length-i∧Ext w W∧b4+1≤W.heap.size∧LoC w b4 vg vp vs W∧IsLas W vs ps∧laid2 g [] ps=laid2 g (ps.take i) (ps.drop i)
theorem Ext.isPts {w w':World} {v:Value} {ps:List (Int×Int)} (h:IsPts w v ps) (k:Ext w w'):IsPts w' v ps:=h.ext' k
theorem laidOut_any (w:World) (vg vp:Value) (g:List (Int×Int)) (ps:List Pl) (hg:IsPts w vg g) (hp:IsPls w vp ps) (hgw:Gw w) :
  Calls Tryz.prog 30 #[.agg #[vg,vp]] w (RetLo w vg g ps):=by
 have HG:=hd9 (fun(W:World) (hW:Ext w W)=>ground_any W vg g (hg.ext' hW));have Hpt:=hd9 (fun(W:World) (hW:Ext w W)=>hg.ext' hW);have Hpl:=hd9 (fun(W:World) (hW:Ext w W)=>hp.ext' hW);have Hgw:=hd9 hgw;obtain⟨ga,gn,gc,rfl⟩:=form3 hg;obtain⟨pa,pn,pc1,rfl⟩:=form3 hp;have hpl:=hp.len;have hpm:=hp.le;obtain⟨R,hR⟩:∃R,RetLo w (.slice ga gn gc) g ps=R:=⟨_,rfl⟩;rw [hR];have HR:=hd9 hR;have Hn:=hd9 hpl.symm;have hnc:pn≤9223372036854775807:=by unfold maxLen at hpm;omega
 clear hg hp hgw hpl hpm hR;obtain⟨G,hG⟩:∃G,groundB g=G:=⟨_,rfl⟩;have HGb:=hd9 hG;rw [hG]at HG;clear hG
 cases G with
 | false =>
  have e:laidP g ps=2:=by unfold laidP;rw [HGb.out];rfl
  have E:=hd9 e;clear e;go_enter Tryz.func30,Tryz.ntmps30
  go_wp2_with(go_at_call 61;(with_reducible refine(HG.out _ ?_).mono ?_);exact eA;rintro e w3 ⟨rfl,hx3⟩;obtain⟨hc3,hf3⟩:=hx3.cells;have z3:=hx3.size;simp only [wZ]at z3)
  have z3':w.heap.size<w3.heap.size:=by omega
  have z4':w.heap.size+1<w3.heap.size:=by omega
  refine bodyPost_ret (v:=.tuple #[.agg #[.slice none 0 0,.slice none 0 0],.int .i64 2]) (by simp [results,Tryz.results30,go_sem,hc3,hf3]) rfl ?_;rw [←HR.out];exact .inl ⟨by rw [E.out];decide,by rw [E.out];rfl,eA⟩
 | true =>
  by_cases hn:120<pn
  ·have e:laidP g ps=5:=by unfold laidP;rw [HGb.out,if_pos rfl,if_pos (by rw [Hn.out];exact hn)]
   have E:=hd9 e;have hn':(120:Int)<(pn:Int):=by omega
   clear e hn;go_enter Tryz.func30,Tryz.ntmps30
   go_wp2_with(go_at_call 61;(with_reducible refine(HG.out _ ?_).mono ?_);exact eA;rintro e w3 ⟨rfl,hx3⟩;obtain⟨hc3,hf3⟩:=hx3.cells;have z3:=hx3.size;simp only [wZ]at z3)
   have z3':w.heap.size<w3.heap.size:=by omega
   have z4':w.heap.size+1<w3.heap.size:=by omega
   refine bodyPost_ret (v:=.tuple #[.agg #[.slice none 0 0,.slice none 0 0],.int .i64 5]) (by simp [results,Tryz.results30,go_sem,hc3,hf3]) rfl ?_;rw [←HR.out];exact .inl ⟨by rw [E.out];decide,by rw [E.out];rfl,eA⟩
  have e:laidP g ps=if laid1 g [] ps=0 then laid2 g [] ps else laid1 g [] ps:=by unfold laidP;rw [HGb.out,if_pos rfl,if_neg (by rw [Hn.out];exact hn)]
  have E:=hd9 e;have hn':¬(120:Int)<(pn:Int):=by omega
  clear e;go_enter Tryz.func30,Tryz.ntmps30
  go_wp2_with(go_at_call 61;(with_reducible refine(HG.out _ ?_).mono ?_);exact eA;rintro e w3 ⟨rfl,hx3⟩;obtain⟨hc3,hf3⟩:=hx3.cells;have z3:=hx3.size;simp only [wZ]at z3;have z3':w.heap.size<w3.heap.size:=(by omega);have z4':w.heap.size+1<w3.heap.size:=(by omega))
  obtain⟨b4,hb4⟩:∃b,w3.heap.size=b:=⟨_,rfl⟩;have Hs3:=hd9 (show (w3.alloc (.cells #[.slice ga gn gc,.slice none 0 0] 102)).heap.size=b4+1 by simp [hb4]);have Hz:=hd9 (show w.heap.size+1<b4 by omega)
  have hC:LoC w b4 (.slice ga gn gc) (.slice pa pn pc1) (.slice none 0 0) (w3.alloc (.cells #[.slice ga gn gc,.slice none 0 0] 102)):=by
   have y:=(Ext.refl w3).alloc (.cells #[.slice ga gn gc,.slice none 0 0] 102);refine⟨y.heapS (hx3.heapS ?_),y.heapS (hx3.heapS (qhA _ _ _ (by simp))),qhA _ _ _ hb4.symm⟩;rw [heap_get,if_neg (by simp)];exact qhA _ _ _ rfl
  have hX3:Ext w w3:=eA;rw [hb4]at *;clear hc3 hf3 hx3
  go_loopg [28] pn (LoS w b4 (.slice ga gn gc) (.slice pa pn pc1) g ps)
  case atStart =>
   exact⟨0,_,by omega,rfl,by rw [Hn.out];rfl,hX3.alloc _,by rw [Hs3.out];omega,hC,OwnLa.nil _ _,by simp,fun p h=>by simp at h⟩
  case round =>
   clear hC hX3;obtain⟨i,vs,hi,rfl,rfl,hx,hbs,hC,hown,hl1,hok⟩:=hrel;rw [Hn.out]at hi;obtain⟨va,vn,vc,rfl⟩:=hown.form3;have HC:=hd9 hC;have Hown:=hd9 hown;have Hx:=hd9 hx;have Hok:=hd9 hok;have Hl1:=hd9 hl1;have k0:=qcB hC.2.1 (i:=0) (u:=.slice none 0 0) rfl;have k1:=qcB hC.2.1 (i:=1) (u:=.slice none 0 0) rfl;have kf:=qfB hC.2.1;have m0:=qcB hC.2.2 (i:=0) (u:=.slice ga gn gc) rfl;have m1:=qcB hC.2.2 (i:=1) (u:=.slice va vn vc) rfl;have mf:=qfB hC.2.2;have zb:b4<wr.heap.size:=by omega
   have zw:w.heap.size+1<wr.heap.size:=by have:=Hz.out;omega
   by_cases hlt:i<pn
   ·obtain⟨p,hq⟩:∃q,ps[i]?=some q:=⟨ps[i]'(by rw [Hn.out];omega),by simp [Hn.out,hlt]⟩
    obtain⟨b,o,v,rfl,hb,d1,dk,hc⟩:=(Hpl.out _ hx).at' hq;have Hd1:=hd9 d1;have HCk:=hd9 (fun W (hW:Ext wr W)=>checkp_any W p v (d1.ext' hW) dk);have HOu:=hd9 (fun W (hW:Ext wr W) (h:placedOk p=true)=>outline_any W p v (d1.ext' hW) h (Hgw.out.ext (hx.trans hW)));obtain⟨sa1,sn1,sc1,rfl⟩:=form3 d1;have Hq:=hd9 hq;obtain⟨ok,f1⟩:∃x,placedOk p=x:=⟨_,rfl⟩;have F1:=hd9 f1;rw [f1]at HCk;have cc0:=hc 0 (.string p.name) rfl;have cc1:=hc 1 (.slice sa1 sn1 sc1) rfl;have cc2:=hc 2 (.int .i64 p.depth) rfl;have cc3:=hc 3 (.int .i64 p.density) rfl;have cc4:=hc 4 (.int .i64 p.gx) rfl;have cc5:=hc 5 (.int .i64 p.gz) rfl;have cc6:=hc 6 (.int .i64 p.way) rfl;have cc7:=hc 7 (.int .i64 p.ax) rfl;have cc8:=hc 8 (.int .i64 p.az) rfl;have cc9:=hc 9 (.int .u8 p.skin) rfl;simp only [Nat.add_zero]at cc0;have zb1:b4<wr.heap.size+1:=by omega
    have zw1:w.heap.size+1<wr.heap.size+1:=by omega
    obtain⟨er,hE⟩:∃x,addE g (ps.take i) p=x:=⟨_,rfl⟩;have hE2:=hE;unfold addE at hE2;unfold plc at HCk HOu
    cases ok with
    | false =>
     have e:laidP g ps=2:=by
      have h2:addE g (ps.take i) p=2:=by unfold addE;rw [f1];rfl
      have h1:laid1 g [] ps=2:=by rw [hl1,laid1_stop hq (by rw [h2];decide),h2]
      rw [E.out,h1];rfl
     have E2:=hd9 e;clear e hE hE2 hq hc f1 d1 hC hl1 hok hown E
     go_wp2_with(go_at_call 62;(with_reducible refine(HCk.out _ ?_).mono ?_);exact eA;rintro e w5 ⟨rfl,hx5⟩;obtain⟨hc5,hf5⟩:=hx5.cells;(have z5:=hx5.size);(try simp only [wZ,qdZ]at z5);(have zb5:b4<w5.heap.size:=(by omega));(have zw5:w.heap.size+1<w5.heap.size:=(by omega));(have zv5:w.heap.size+1<w5.heap.size+1:=(by omega));(have zd5:b4<w5.heap.size+1:=(by omega));(have zr5:wr.heap.size<w5.heap.size:=(by omega));(have zs5:wr.heap.size<w5.heap.size+1:=(by omega)))
     have X5:Ext wr w5:=eA;have K5:=X5.heapS HC.out.2.1;have x0:=qcB K5 (i:=0) (u:=.slice none 0 0) rfl;have x1:=qcB K5 (i:=1) (u:=.slice none 0 0) rfl;have xf:=qfB K5;refine bodyPost_ret (v:=.tuple #[.agg #[.slice none 0 0,.slice none 0 0],.int .i64 2]) (by simp [results,Tryz.results30,go_sem,x0,x1,xf]) rfl ?_;rw [←HR.out];exact .inl ⟨by rw [E2.out];decide,by rw [E2.out];rfl,eA⟩
    | true =>
     rw [f1,if_pos rfl]at hE2
     have hdone:∀q∈ps.take i++[p],placedOk q=true:=fun q hq=>by
      rcases List.mem_append.1 hq with h|h
      ·exact hok q h
      ·rw [List.mem_singleton.1 h];exact f1
     have HO:=hd9 (fun W (hW:Ext wr W)=>HOu.out W hW f1);have HH:=hd9 (fun(W:World) (hW:Ext wr W) (vp2:Value) (h2:IsLa W vp2 p)=>holds_any W (.slice ga gn gc) (.slice va vn vc) vp2 g p (Hpt.out _ (hx.trans hW)) ⟨_,_,_,rfl⟩ h2 (ground_ok HGb.out) f1);have HN:=hd9 (fun(W:World) (hW:Ext wr W)=>named_site_any W (.slice ga gn gc) (.slice va vn vc) (ps.take i) p.name ⟨_,_,_,rfl⟩ (hown.las.ext' hW));obtain⟨bh,f2⟩:∃x,holdsB g p=x:=⟨_,rfl⟩;obtain⟨bn,f3⟩:∃x,(ps.take i).any (nameB p.name)=x:=⟨_,rfl⟩;rw [f2]at HH hE2;rw [f3]at HN hE2;have Hdone:=hd9 hdone;clear hdone HOu
     cases bh with
     | false =>
      have e:laidP g ps=2:=by
       have h2:addE g (ps.take i) p=2:=by rw [hE,←hE2];rfl
       have h1:laid1 g [] ps=2:=by rw [hl1,laid1_stop hq (by rw [h2];decide),h2]
       rw [E.out,h1];rfl
      have E2:=hd9 e;clear e hE hE2 hq hc f1 f2 f3 d1 hC hl1 hok hown E
      go_wp2_with(first|(go_at_call 62;(with_reducible refine(HCk.out _ ?_).mono ?_);exact eA;rintro e w5 ⟨rfl,hx5⟩;obtain⟨hc5,hf5⟩:=hx5.cells;(have z5:=hx5.size);(try simp only [wZ,qdZ]at z5);(have zb5:b4<w5.heap.size:=(by omega));(have zw5:w.heap.size+1<w5.heap.size:=(by omega));(have zv5:w.heap.size+1<w5.heap.size+1:=(by omega));(have zd5:b4<w5.heap.size+1:=(by omega));(have zr5:wr.heap.size<w5.heap.size:=(by omega));(have zs5:wr.heap.size<w5.heap.size+1:=(by omega)))|(go_at_call 63;(with_reducible refine(HO.out _ ?_).mono ?_);exact eA;rintro e w6 ⟨vl,vu,rfl,hvl,hvu,hx6⟩;obtain⟨la1,ln1,lc1,rfl⟩:=form3 hvl;obtain⟨ua1,un1,uc1,rfl⟩:=form3 hvu;obtain⟨hc6,hf6⟩:=hx6.cells;(have z6:=hx6.size);(try simp only [wZ,qdZ]at z6);(have zb6:b4<w6.heap.size:=(by omega));(have zw6:w.heap.size+1<w6.heap.size:=(by omega));(have zv6:w.heap.size+1<w6.heap.size+1:=(by omega));(have zd6:b4<w6.heap.size+1:=(by omega));(have zr6:wr.heap.size<w6.heap.size:=(by omega));(have zs6:wr.heap.size<w6.heap.size+1:=(by omega));try unfold lac)|(go_at_call 64;(with_reducible refine(HH.out _ ?_ _ ?_).mono ?_);exact eA;(exact⟨_,_,_,rfl,Ext.isPts (w:=wr) Hd1.out eA,hvl.ext' eA,hvu.ext' eA⟩);rintro e w7 ⟨rfl,hx7⟩;obtain⟨hc7,hf7⟩:=hx7.cells;(have z7:=hx7.size);(try simp only [wZ,qdZ]at z7);(have zb7:b4<w7.heap.size:=(by omega));(have zw7:w.heap.size+1<w7.heap.size:=(by omega));(have zv7:w.heap.size+1<w7.heap.size+1:=(by omega));(have zd7:b4<w7.heap.size+1:=(by omega));(have zr7:wr.heap.size<w7.heap.size:=(by omega));(have zs7:wr.heap.size<w7.heap.size+1:=(by omega));(have zy7:w6.heap.size<w7.heap.size:=(by omega))))
      have X7:Ext wr w7:=eA;have K7:=X7.heapS HC.out.2.1;have x0:=qcB K7 (i:=0) (u:=.slice none 0 0) rfl;have x1:=qcB K7 (i:=1) (u:=.slice none 0 0) rfl;have xf:=qfB K7;refine bodyPost_ret (v:=.tuple #[.agg #[.slice none 0 0,.slice none 0 0],.int .i64 2]) (by simp [results,Tryz.results30,go_sem,x0,x1,xf]) rfl ?_;rw [←HR.out];exact .inl ⟨by rw [E2.out];decide,by rw [E2.out];rfl,eA⟩
     | true =>
      cases bn with
      | true =>
       have e:laidP g ps=7:=by
        have h2:addE g (ps.take i) p=7:=by rw [hE,←hE2];rfl
        have h1:laid1 g [] ps=7:=by rw [hl1,laid1_stop hq (by rw [h2];decide),h2]
        rw [E.out,h1];rfl
       have E2:=hd9 e;clear e hE hE2 hq hc f1 f2 f3 d1 hC hl1 hok hown E
       go_wp2_with(first|(go_at_call 62;(with_reducible refine(HCk.out _ ?_).mono ?_);exact eA;rintro e w5 ⟨rfl,hx5⟩;obtain⟨hc5,hf5⟩:=hx5.cells;(have z5:=hx5.size);(try simp only [wZ,qdZ]at z5);(have zb5:b4<w5.heap.size:=(by omega));(have zw5:w.heap.size+1<w5.heap.size:=(by omega));(have zv5:w.heap.size+1<w5.heap.size+1:=(by omega));(have zd5:b4<w5.heap.size+1:=(by omega));(have zr5:wr.heap.size<w5.heap.size:=(by omega));(have zs5:wr.heap.size<w5.heap.size+1:=(by omega)))|(go_at_call 63;(with_reducible refine(HO.out _ ?_).mono ?_);exact eA;rintro e w6 ⟨vl,vu,rfl,hvl,hvu,hx6⟩;obtain⟨la1,ln1,lc1,rfl⟩:=form3 hvl;obtain⟨ua1,un1,uc1,rfl⟩:=form3 hvu;obtain⟨hc6,hf6⟩:=hx6.cells;(have z6:=hx6.size);(try simp only [wZ,qdZ]at z6);(have zb6:b4<w6.heap.size:=(by omega));(have zw6:w.heap.size+1<w6.heap.size:=(by omega));(have zv6:w.heap.size+1<w6.heap.size+1:=(by omega));(have zd6:b4<w6.heap.size+1:=(by omega));(have zr6:wr.heap.size<w6.heap.size:=(by omega));(have zs6:wr.heap.size<w6.heap.size+1:=(by omega));try unfold lac)|(go_at_call 64;(with_reducible refine(HH.out _ ?_ _ ?_).mono ?_);exact eA;(exact⟨_,_,_,rfl,Ext.isPts (w:=wr) Hd1.out eA,hvl.ext' eA,hvu.ext' eA⟩);rintro e w7 ⟨rfl,hx7⟩;obtain⟨hc7,hf7⟩:=hx7.cells;(have z7:=hx7.size);(try simp only [wZ,qdZ]at z7);(have zb7:b4<w7.heap.size:=(by omega));(have zw7:w.heap.size+1<w7.heap.size:=(by omega));(have zv7:w.heap.size+1<w7.heap.size+1:=(by omega));(have zd7:b4<w7.heap.size+1:=(by omega));(have zr7:wr.heap.size<w7.heap.size:=(by omega));(have zs7:wr.heap.size<w7.heap.size+1:=(by omega));(have zy7:w6.heap.size<w7.heap.size:=(by omega)))|(go_at_call 65;(with_reducible refine(HN.out _ ?_).mono ?_);exact eA;rintro e w8 ⟨rfl,hx8⟩;obtain⟨hc8,hf8⟩:=hx8.cells;(have z8:=hx8.size);(try simp only [wZ,qdZ]at z8);(have zb8:b4<w8.heap.size:=(by omega));(have zw8:w.heap.size+1<w8.heap.size:=(by omega));(have zv8:w.heap.size+1<w8.heap.size+1:=(by omega));(have zd8:b4<w8.heap.size+1:=(by omega));(have zr8:wr.heap.size<w8.heap.size:=(by omega));(have zs8:wr.heap.size<w8.heap.size+1:=(by omega));(have zy8:w6.heap.size<w8.heap.size:=(by omega))))
       have X8:Ext wr w8:=eA;have K8:=X8.heapS HC.out.2.1;have x0:=qcB K8 (i:=0) (u:=.slice none 0 0) rfl;have x1:=qcB K8 (i:=1) (u:=.slice none 0 0) rfl;have xf:=qfB K8;refine bodyPost_ret (v:=.tuple #[.agg #[.slice none 0 0,.slice none 0 0],.int .i64 7]) (by simp [results,Tryz.results30,go_sem,x0,x1,xf]) rfl ?_;rw [←HR.out];exact .inl ⟨by rw [E2.out];decide,by rw [E2.out];rfl,eA⟩
      | false =>
       have h2:addE g (ps.take i) p=0:=by rw [hE,←hE2];rfl
       have e:=hl1.trans (laid1_step hq h2);have E2:=hd9 e;have hsn:ps.take (i+1)=ps.take i++[p]:=take_add_one' _ _ _ hq;have Hsn:=hd9 hsn;obtain⟨cs,hcs,hcl,hcp⟩:=hown;have Hcs:=hd9 hcs;have Hcp:=hd9 hcp;have Hcl:=hd9 hcl;have Hlc:=hd9 (show cs.length≤120 by rw [hcl];simp;omega);have Hlt:=hd9 (fun j (h:(Value.slice va vn vc).ownBlock=some j)=>hcs.lt j h);clear e hE hE2 hq hc f1 f2 f3 d1 hC hl1 hok E h2 hsn hcs hcl hcp
       go_wp2_with(first|(go_at_call 62;(with_reducible refine(HCk.out _ ?_).mono ?_);exact eA;rintro e w5 ⟨rfl,hx5⟩;obtain⟨hc5,hf5⟩:=hx5.cells;(have z5:=hx5.size);(try simp only [wZ,qdZ]at z5);(have zb5:b4<w5.heap.size:=(by omega));(have zw5:w.heap.size+1<w5.heap.size:=(by omega));(have zv5:w.heap.size+1<w5.heap.size+1:=(by omega));(have zd5:b4<w5.heap.size+1:=(by omega));(have zr5:wr.heap.size<w5.heap.size:=(by omega));(have zs5:wr.heap.size<w5.heap.size+1:=(by omega)))|(go_at_call 63;(with_reducible refine(HO.out _ ?_).mono ?_);exact eA;rintro e w6 ⟨vl,vu,rfl,hvl,hvu,hx6⟩;obtain⟨la1,ln1,lc1,rfl⟩:=form3 hvl;obtain⟨ua1,un1,uc1,rfl⟩:=form3 hvu;obtain⟨hc6,hf6⟩:=hx6.cells;(have z6:=hx6.size);(try simp only [wZ,qdZ]at z6);(have zb6:b4<w6.heap.size:=(by omega));(have zw6:w.heap.size+1<w6.heap.size:=(by omega));(have zv6:w.heap.size+1<w6.heap.size+1:=(by omega));(have zd6:b4<w6.heap.size+1:=(by omega));(have zr6:wr.heap.size<w6.heap.size:=(by omega));(have zs6:wr.heap.size<w6.heap.size+1:=(by omega));try unfold lac)|(go_at_call 64;(with_reducible refine(HH.out _ ?_ _ ?_).mono ?_);exact eA;(exact⟨_,_,_,rfl,Ext.isPts (w:=wr) Hd1.out eA,hvl.ext' eA,hvu.ext' eA⟩);rintro e w7 ⟨rfl,hx7⟩;obtain⟨hc7,hf7⟩:=hx7.cells;(have z7:=hx7.size);(try simp only [wZ,qdZ]at z7);(have zb7:b4<w7.heap.size:=(by omega));(have zw7:w.heap.size+1<w7.heap.size:=(by omega));(have zv7:w.heap.size+1<w7.heap.size+1:=(by omega));(have zd7:b4<w7.heap.size+1:=(by omega));(have zr7:wr.heap.size<w7.heap.size:=(by omega));(have zs7:wr.heap.size<w7.heap.size+1:=(by omega));(have zy7:w6.heap.size<w7.heap.size:=(by omega)))|(go_at_call 65;(with_reducible refine(HN.out _ ?_).mono ?_);exact eA;rintro e w8 ⟨rfl,hx8⟩;obtain⟨hc8,hf8⟩:=hx8.cells;(have z8:=hx8.size);(try simp only [wZ,qdZ]at z8);(have zb8:b4<w8.heap.size:=(by omega));(have zw8:w.heap.size+1<w8.heap.size:=(by omega));(have zv8:w.heap.size+1<w8.heap.size+1:=(by omega));(have zd8:b4<w8.heap.size+1:=(by omega));(have zr8:wr.heap.size<w8.heap.size:=(by omega));(have zs8:wr.heap.size<w8.heap.size+1:=(by omega));(have zy8:w6.heap.size<w8.heap.size:=(by omega)))|(at_builtin;refine appC (T:=145) (t:=100) (z:=.agg la0) (k:=12) (bytes:=152) (base:=b4+1) (v:=.slice va vn vc) (cs:=cs) (m:=1) (c:=1) (ad:=⟨w8.heap.size,0,none⟩) info_la rfl (by decide) (by decide) Tryz.underlying100 rfl _ _ rfl rfl (Hcs.out.ext eA) rfl [(lac p (.slice sa1 sn1 sc1) (.slice la1 ln1 lc1) (.slice ua1 un1 uc1)).toList] rfl (by simp [lac]) (by exact news_blk w8 (lac p (.slice sa1 sn1 sc1) (.slice la1 ln1 lc1) (.slice ua1 un1 uc1)) 145) (by simp [lac,Value.oneCell']) (by have:=Hlc.out;omega) (by simp only [wZ];omega) ?_;intro v' w9 hown9 hgrow hlie;obtain⟨a9,n9,c9,rfl⟩:=hown9.form3;(have hxA:Ext wr (w8.alloc (.cells (lac p (.slice sa1 sn1 sc1) (.slice la1 ln1 lc1) (.slice ua1 un1 uc1)) 145)):=eA);(have hK:=hxA.heapS HC.out.2.2);(have hM:w9.heap[b4]?=some (.cells #[.slice ga gn gc,.slice va vn vc] 102 (0,0)):=grown_heapS hgrow hK (fun e=>by have:=(Hlt.out _ e.symm).1;omega));(have n1:=qcB hM (i:=1) (u:=.slice va vn vc) rfl);(have nf:=qfB hM)))
       go_roundg (pn-(i+1))
       case measure=>have:=Hn.out;omega
       case rel =>
        have hO2:=Hcs.out.ext hxA;have hb0:b4+1≤(w8.alloc (.cells (lac p (.slice sa1 sn1 sc1) (.slice la1 ln1 lc1) (.slice ua1 un1 uc1)) 145)).heap.size:=by simp only [wZ];omega
        have hbw:=grown_below (base:=b4+1) hgrow hb0 (fun k hk=>(hO2.lt k hk).1);have hkt:=hO2.keepT (T':=42) (by decide) hgrow;have hXA:Ext w (w8.alloc (.cells (lac p (.slice sa1 sn1 sc1) (.slice la1 ln1 lc1) (.slice ua1 un1 uc1)) 145)):=Hx.out.trans hxA;have hz:=Hz.out;have hX9:Ext w w9:=hXA.thenB hbw (by omega);have hL9:LoC w b4 _ _ _ w9:=(HC.out.ext hxA).below hbw hz;have hx87:Ext w6 (w8.alloc (.cells (lac p (.slice sa1 sn1 sc1) (.slice la1 ln1 lc1) (.slice ua1 un1 uc1)) 145)):=eA;have hLa:OwnLa w9 (b4+1) (.slice a9 n9 c9) (ps.take i++[p]):=OwnLa.app hown9 Hcl.out Hcp.out (hxA.keep.trans hkt) ⟨_,_,_,rfl,((Hd1.out.ext' hxA).keep' hkt),((hvl.ext' hx87).keep' hkt),((hvu.ext' hx87).keep' hkt)⟩;refine⟨i+1,.slice a9 n9 c9,by rw [Hn.out];omega,by go_num,by rw [Hn.out],hX9.set (by dsimp only;omega) _,by rw [qcZ];exact Nat.le_trans hb0 hbw.size,hL9.put hz _,?_,E2.out,by rw [Hsn.out];exact Hdone.out⟩;rw [Hsn.out];exact hLa.setOther (fun e=>by have:=(hLa.lt _ e).1;dsimp only at this;omega) (fun cs fr h=>by rw [hM]at h;cases h) _
   ·obtain rfl:i=pn:=by omega
    have e1:ps.take i=ps:=lT (by rw [Hn.out];exact Nat.le_refl _);have e2:ps.drop i=[]:=List.drop_of_length_le (by rw [Hn.out];exact Nat.le_refl _);rw [e1]at hok hown hl1;rw [e2,show laid1 g ps []=0 from rfl]at hl1;have hE:=E.out;rw [if_pos hl1]at hE;have E3:=hd9 hE;have Hall:=hd9 hok;have hlas:=hown.las;have hlen:=hlas.len;rw [Hn.out]at hlen;subst hlen;have hvc:=hlas.le;rw [Hn.out]at hvc;have hvc2:vn≤vc:=hvc.1;have hvc3:vc≤9223372036854775807:=by have:=hvc.2;unfold maxLen at this;omega
    clear e1 e2 hl1 hE hown Hown Hok Hl1 E hok hvc;go_wp2
    go_loopg [59] vn (LpS w b4 (.slice ga gn gc) (.slice pa vn pc1) (.slice va vn vc) g ps)
    case atStart=>exact⟨0,by omega,rfl,by rw [Hn.out];rfl,Hx.out,by omega,HC.out,hlas,by simp⟩
    case round =>
     clear hlas hC HC Hx hx k0 k1 kf m0 m1 mf hbs zb zw hlt hi;obtain⟨i,hi,rfl,rfl,hx,hbs,hC,hlas,hl2⟩:=hrel;rw [Hn.out]at hi;have HC:=hd9 hC;have Hx:=hd9 hx;have k0:=qcB hC.2.1 (i:=0) (u:=.slice none 0 0) rfl;have k1:=qcB hC.2.1 (i:=1) (u:=.slice none 0 0) rfl;have kf:=qfB hC.2.1;have m0:=qcB hC.2.2 (i:=0) (u:=.slice ga gn gc) rfl;have m1:=qcB hC.2.2 (i:=1) (u:=.slice va vn vc) rfl;have mf:=qfB hC.2.2;have zb:b4<wr.heap.size:=by omega
     have zw:w.heap.size+1<wr.heap.size:=by have:=Hz.out;omega
     by_cases hlt:i<vn
     ·obtain⟨p,hq⟩:∃q,ps[i]?=some q:=⟨ps[i]'(by rw [Hn.out];omega),by simp [Hn.out,hlt]⟩
      obtain⟨b,o,s1,l1,u1,rfl,hb,d1,d2,d3,hc⟩:=hlas.at' hq;have htk:IsLas wr (.slice (some ⟨b,o,none⟩) i vc) (ps.take i):=hlas.take (by rw [Hn.out];omega) (by rw [Hn.out];omega) (by omega) (Nat.le_refl _);have hpk:=Hall.out p (lM hq);have HCl:=hd9 (fun W (hW:Ext wr W)=>clear_any W (.slice ga gn gc) (.slice (some ⟨b,o,none⟩) i vc) (.agg (lac p s1 l1 u1)) g (ps.take i) p (Hpt.out _ (hx.trans hW)) (htk.ext' hW) ⟨_,_,_,rfl,d1.ext' hW,d2.ext' hW,d3.ext' hW⟩ (ground_ok HGb.out) (fun q h=>Hall.out q (List.mem_of_mem_take h)) hpk);obtain⟨sa1,sn1,sc1,rfl⟩:=form3 d1;obtain⟨la1,ln1,lc1,rfl⟩:=form3 d2;obtain⟨ua1,un1,uc1,rfl⟩:=form3 d3;obtain⟨cb,f1⟩:∃x,clearB g (ps.take i) p=x:=⟨_,rfl⟩;rw [f1]at HCl;unfold lac at HCl;have cc0:=hc 0 (.string p.name) rfl;have cc1:=hc 1 (.slice sa1 sn1 sc1) rfl;have cc2:=hc 2 (.int .i64 p.depth) rfl;have cc3:=hc 3 (.int .i64 p.density) rfl;have cc4:=hc 4 (.int .i64 p.gx) rfl;have cc5:=hc 5 (.int .i64 p.gz) rfl;have cc6:=hc 6 (.int .i64 p.way) rfl;have cc7:=hc 7 (.int .i64 p.ax) rfl;have cc8:=hc 8 (.int .i64 p.az) rfl;have cc9:=hc 9 (.int .u8 p.skin) rfl;have cc10:=hc 10 (.slice la1 ln1 lc1) rfl;have cc11:=hc 11 (.slice ua1 un1 uc1) rfl;simp only [Nat.add_zero]at cc0;have Hq:=hd9 hq;have Hl2:=hd9 hl2;have F1:=hd9 f1;have Hlas:=hd9 hlas;have p0:(0:Int)≤(i:Int):=by omega
      have p1:(i:Int)≤(vc:Int):=by omega
      have p2:i≤vc:=by omega
      clear hc hq hl2 f1 hlas htk hpk d1 d2 d3 hC hx;go_wp2;refine wp_region_held_drew (S:=CellL [(⟨b4,0,none⟩,.slice ga gn gc),(⟨b4,1,none⟩,.slice (some ⟨b,o,none⟩) vn vc),(⟨wr.heap.size,0,none⟩,.string p.name),(⟨wr.heap.size,1,none⟩,.slice sa1 sn1 sc1),(⟨wr.heap.size,2,none⟩,.int .i64 p.depth),(⟨wr.heap.size,3,none⟩,.int .i64 p.density),(⟨wr.heap.size,4,none⟩,.int .i64 p.gx),(⟨wr.heap.size,5,none⟩,.int .i64 p.gz),(⟨wr.heap.size,6,none⟩,.int .i64 p.way),(⟨wr.heap.size,7,none⟩,.int .i64 p.ax),(⟨wr.heap.size,8,none⟩,.int .i64 p.az),(⟨wr.heap.size,9,none⟩,.int .u8 p.skin),(⟨wr.heap.size,10,none⟩,.slice la1 ln1 lc1),(⟨wr.heap.size,11,none⟩,.slice ua1 un1 uc1)]) (by kernel_rfl) (by refine⟨?_,?_,?_,?_,?_,?_,?_,?_,?_,?_,?_,?_,?_,?_,trivial⟩<;>go_simp) (fun hHeld=>?_);refine sN 0 ?_
      iterate 8
       refine tkn ?_
      refine oN ?_;refine cl1 (i:=8) fun K hK=>?_
      go_simp
      (with_reducible refine Calls.mono (HCl.out _ eA) ?_)
      rintro e w5 ⟨rfl,hx5⟩
      skip
      go_wp2_with fail
      refine kO hK (CellL.ext hHeld hx5) (fun hHeld=>?_);clear hK K;refine tk1 (i:=9) ?_;refine wpAnyH_done (by kernel_rfl) ?_ _;have X5:Ext wr w5:=eA;have K5:=X5.heapS HC.out.2.1;have y0:=qcB K5 (i:=0) (u:=.slice none 0 0) rfl;have y1:=qcB K5 (i:=1) (u:=.slice none 0 0) rfl;have yf:=qfB K5
      cases cb with
      | false =>
       have e:laidP g ps=12:=by rw [E3.out,Hl2.out,laid2_stop Hq.out F1.out]
       have E2:=hd9 e;clear e;have hx:=Hx.out;go_wp2;have X5:Ext wr w5:=eA;have K5:=X5.heapS HC.out.2.1;have x0:=qcB K5 (i:=0) (u:=.slice none 0 0) rfl;have x1:=qcB K5 (i:=1) (u:=.slice none 0 0) rfl;have xf:=qfB K5;refine bodyPost_ret (v:=.tuple #[.agg #[.slice none 0 0,.slice none 0 0],.int .i64 12]) (by simp [results,Tryz.results30,go_sem,x0,x1,xf]) rfl ?_;rw [←HR.out];exact .inl ⟨by rw [E2.out];decide,by rw [E2.out];rfl,eA⟩
      | true =>
       go_wp2
       go_roundg (vn-(i+1))
       case measure=>have:=Hn.out;omega
       case rel=>exact⟨i+1,by rw [Hn.out];omega,by go_num,by rw [Hn.out],Hx.out.trans X5,Nat.le_trans hbs X5.size,HC.out.ext X5,Hlas.out.ext' X5,Hl2.out.trans (laid2_step Hq.out F1.out)⟩
     ·obtain rfl:i=vn:=by omega
      have e2:ps.drop i=[]:=List.drop_of_length_le (by rw [Hn.out];exact Nat.le_refl _);rw [e2]at hl2;have e:laidP g ps=0:=by rw [E3.out,hl2];cases ps.take i<;>rfl
      have E2:=hd9 e;have hs12:w.heap.size+1≠b4:=by have:=Hz.out;omega
      clear e e2 hl2 hC;go_wp2;refine bodyPost_ret (v:=.tuple #[.agg #[.slice ga gn gc,.slice va i vc],.int .i64 0]) (by simp [results,Tryz.results30,go_sem,k0,k1,kf,m0,m1,hs12]) rfl ?_;rw [←HR.out]
      have hN:∀T,T≠102→NoT T wr (w.heap.size+1):=fun T hT cs fr h=>by
       rw [HC.out.2.1]at h
       cases h
       exact hT rfl
      have hK:∀T u u',T≠102→KeepT T wr ((wr.setCell ⟨w.heap.size+1,0,none⟩ u).setCell ⟨w.heap.size+1,1,none⟩ u'):=fun T u u' hT=>((KeepT.refl _ wr).setN (hN T hT) _).setN ((hN T hT).set _ _) _
      exact .inr ⟨E2.out,_,rfl,Sl.keep hlas (fun _ _ h=>PLa.keep h (hK _ _ _ (by decide))) (hK _ _ _ (by decide)),(Hx.out.set (by dsimp only;omega) _).set (by dsimp only;omega) _⟩
theorem wcheck_any (w:World) (vg vp:Value) (g:List (Int×Int)) (ps:List Pl) (hg:IsPts w vg g) (hp:IsPls w vp ps) (hgw:Gw w) :
  Calls Tryz.prog 40 #[.agg #[vg,vp]] w fun e w'=>e = .returned (.int .i64 (laidP g ps))∧Ext w w':=by
 have HL:=hd9 (fun(W:World) (hW:Ext w W)=>laidOut_any W vg vp g ps (hg.ext' hW) (hp.ext' hW) (hgw.ext hW));obtain⟨ga,gn,gc,rfl⟩:=form3 hg;obtain⟨pa,pn,pc1,rfl⟩:=form3 hp;obtain⟨k,hk⟩:∃x,laidP g ps=x:=⟨_,rfl⟩;rw [hk];have Hk:=hd9 hk;clear hg hp hgw hk
 have HL2:=hd9 (fun(W:World) (hW:Ext w W)=>(HL.out W hW).mono (fun(e:Ending) (w':World) (h:RetLo W (.slice ga gn gc) g ps e w')=>(show ∃a1 n1 c1 a2 n2 c2,e = .returned (.tuple #[.agg #[.slice a1 n1 c1,.slice a2 n2 c2],.int .i64 k])∧Ext W w' from by
  rcases h with ⟨_,h2,h3⟩|⟨h1,vs,h2,h3,h4⟩
  ·exact⟨none,0,0,none,0,0,by rw [h2,Hk.out];rfl,h3⟩
  ·obtain⟨a,n,c,rfl⟩:=form3 h3
   exact⟨ga,gn,gc,a,n,c,by rw [h2,←Hk.out,h1],h4⟩)))
 clear HL;go_enter Tryz.func40,Tryz.ntmps40
 go_wp2_with(go_at_call 30;(with_reducible refine(HL2.out _ ?_).mono ?_);exact eA;rintro e w3 ⟨a1,n1,c1,a2,n2,c2,rfl,hx3⟩)
 go_ret;exact⟨rfl,eA⟩
end Go.Proofs.YteipgejmhfpkaaaGreatDoor.Cop
