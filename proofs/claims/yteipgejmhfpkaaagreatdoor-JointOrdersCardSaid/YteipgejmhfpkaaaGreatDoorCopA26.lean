/- Part 27 of 44: contracts of what the law calls. -/
import Derived.Test.YteipgejmhfpkaaaGreatDoorCopA25
import Derived.Test.YteipgejmhfpkaaaGreatDoorCopA23
import Derived.Test.YteipgejmhfpkaaaGreatDoorCopA24
set_option maxRecDepth 1000000
set_option maxHeartbeats 16000000
set_option linter.unusedSimpArgs false
set_option linter.unusedVariables false
namespace Go.Proofs.YteipgejmhfpkaaaGreatDoor.Cop
open Go.RowKit Go.Shelf Go.Sort
attribute [local go_sem] Oper.semAt_some
theorem by2_loop (Q:Exit→Act→World→Prop) (w w6:World) (sb:Nat) (sk pin wide lap step run level:Int) (ga:Option Addr) (gn gc:Nat) (pa:Option Addr) (pn pc1:Nat) (wa:Option Addr) (wn wc:Nat) (ks:List (JS×Value)) (ps:List Pl)
  (hj6:IsJs w6 (.slice wa wn wc) ks) (hnc6:wn≤120) (hkp:∀j∈ks,∃w',IsPts w' j.2 j.1.p.shape) (hkm:∀j∈ks,j.1∈jsP ps) (hok:∀p∈ps,placedOk p=true)
  (hS6:w6.heap[sb]?=some (.cells (svc ⟨sk,pin,wide,lap,step,run,level⟩ (.slice ga gn gc) (.slice pa pn pc1) (.slice wa wn wc) (.slice none 0 0) (.slice none 0 0)) 113 (0,0))) (hp6:w6.heap[sb+1]?=some (.cells #[.pointer (some ⟨sb,0,none⟩)] 95 (0,0)))
  (hru6:w6.heap[w.heap.size+1]?=some (.cells #[.int .u8 sk,.int .i64 pin,.int .i64 wide,.int .i64 lap,.int .i64 step,.int .i64 run,.int .i64 level] 35 (0,0))) (zs4:w.heap.size+1<sb)
  (a0:Act) (ha0:Fr2 (w.heap.size+1) sb wa wn wc a0) (hi0:a0.tmps.getD 69 undef = .int .i64 (0:Nat))
  (hQ:∀a W vj,Fr2 (w.heap.size+1) sb wa wn wc a→w6.grownBy W (some sb)→W.heap[sb]?=some (.cells (svc ⟨sk,pin,wide,lap,step,run,level⟩ (.slice ga gn gc) (.slice pa pn pc1) (.slice wa wn wc) vj (.slice none 0 0)) 113 (0,0)) →
   OwnC 75 6 W w6.heap.size vj ((rawP ⟨sk,pin,wide,lap,step,run,level⟩ (ks.map Prod.fst)).map jtc)→Q (.exit 2) a W) :
  (Code.loop (loopAt Tryz.f28 1)).wpIn Fence.wide 5 Tryz.prog Q a0 w6:=by
 have zs6:=heap_lt hp6;have zw6:w.heap.size+1<w6.heap.size:=by omega
 have Hn6:=hd9 hj6.len.symm;have Hj6:=hd9 hj6;have Hkp:=hd9 (fun j hj=>hkp j hj);have Hkm:=hd9 (fun j hj=>hkm j hj);have Hok:=hd9 hok;have HS6:=hd9 hS6;have Hp6:=hd9 hp6;have Hru6:=hd9 hru6;have HQ:=hd9 hQ;clear hj6 hkp hkm hok hS6 hp6 hru6 hQ;unfold loopAt;simp only [Tryz.f28,loopsOf,List.cons_append,List.nil_append,List.append_nil,List.getD_cons_succ,List.getD_cons_zero];refine wpIn_loop_ghost_k (fun gk a W=>By2 w6 sb ⟨sk,pin,wide,lap,step,run,level⟩ (.slice ga gn gc) (.slice pa pn pc1) (.slice wa wn wc) ks gk (a.tmps.getD 69 undef) W∧Fr2 (w.heap.size+1) sb wa wn wc a) wn ?h0 ?round
 case h0=>exact⟨⟨0,_,by omega,hi0,by rw [Hn6.out];rfl,gb_refl _ _,HS6.out,by simpa using OwnC.nil _ _ _ _⟩,ha0⟩
 case round =>
  clear hi0 ha0;intro gk aa wr hinv;obtain⟨tt,dd⟩:=aa;obtain⟨⟨i,vj,hi,f69,rfl,hgb2,hsv2,hown2⟩,f1,f3,f8,f67,f68,fd⟩:=hinv;dsimp only at f1 f3 f8 f67 f68 fd f69;subst fd;obtain⟨u,rfl⟩:=arrF2 tt f1 f3 f8 f67 f68 f69;clear f1 f3 f8 f67 f68 f69;intro J K hJ hK;dsimp only;rw [Hn6.out]at hi;have hsw2:=hgb2.size;have hp2:=(hgb2.block (sb+1) zs6 (by simp)).trans Hp6.out;have hru2:=(hgb2.block (w.heap.size+1) zw6 (by simp;omega)).trans Hru6.out;have pt2:=qcB hp2 (i:=0) (u:=.pointer (some ⟨sb,0,none⟩)) rfl;have zr2:sb+1<wr.heap.size:=by omega
  have zr3:sb<wr.heap.size:=by omega
  have zr4:w.heap.size+1<wr.heap.size:=by omega
  by_cases hlt2:i<wn
  ·obtain⟨⟨⟨⟨nmA,shA,dA,deA,gxA,gzA,wyA,axA,azA,kinA⟩,kA,⟨xlA,xhA⟩,zlA,zhA⟩,vA⟩,hqA⟩:∃q,ks[i]?=some q:=⟨ks[i]'(by rw [Hn6.out];omega),by simp [Hn6.out,hlt2]⟩
   obtain⟨vaA,vnA,vcA,hvA⟩:=(Hkp.out _ (lM hqA)).elim fun _ h=>form3 h
   dsimp only at hvA;subst hvA;have hjw:=Hj6.out.keep (gb_keepT hgb2 HS6.out (by decide));obtain⟨bk,o,e0,hb,hc⟩:=hjw.at' hqA;subst e0;unfold jca at hc;dsimp only at hc;have ccA0:=hc 0 (.string nmA) rfl;have ccA1:=hc 1 (.slice vaA vnA vcA) rfl;have ccA2:=hc 2 (.int .i64 dA) rfl;have ccA3:=hc 3 (.int .i64 deA) rfl;have ccA4:=hc 4 (.int .i64 gxA) rfl;have ccA5:=hc 5 (.int .i64 gzA) rfl;have ccA6:=hc 6 (.int .i64 wyA) rfl;have ccA7:=hc 7 (.int .i64 axA) rfl;have ccA8:=hc 8 (.int .i64 azA) rfl;have ccA9:=hc 9 (.int .u8 kinA) rfl;have ccA10:=hc 10 (.int .i64 kA) rfl;have ccA11:=hc 11 (.int .i64 xlA) rfl;have ccA12:=hc 12 (.int .i64 xhA) rfl;have ccA13:=hc 13 (.int .i64 zlA) rfl;have ccA14:=hc 14 (.int .i64 zhA) rfl;simp only [Nat.add_zero]at ccA0;have sv92:=qcB hsv2 (i:=9) (u:=.slice (some ⟨bk,o,none⟩) wn wc) rfl;have svf2:=qfB hsv2;have HqA:=hd9 hqA;have Hgb2:=hd9 hgb2;have Hown2:=hd9 hown2;have Hsv2:=hd9 hsv2;have HmA:=hd9 (Hkm.out _ (lM hqA));clear hc hqA hjw hgb2 hown2 hsv2
   gi_wp2
   have hEA:=(Ext.refl wr).alloc (.cells #[.string nmA,.slice vaA vnA vcA,.int .i64 dA,.int .i64 deA,.int .i64 gxA,.int .i64 gzA,.int .i64 wyA,.int .i64 axA,.int .i64 azA,.int .u8 kinA,.int .i64 kA,.int .i64 xlA,.int .i64 xhA,.int .i64 zlA,.int .i64 zhA] 127);obtain⟨ba,hba⟩:∃b,wr.heap.size=b:=⟨_,rfl⟩;have hba0:=heap_alloc_new wr (.cells #[.string nmA,.slice vaA vnA vcA,.int .i64 dA,.int .i64 deA,.int .i64 gxA,.int .i64 gzA,.int .i64 wyA,.int .i64 axA,.int .i64 azA,.int .u8 kinA,.int .i64 kA,.int .i64 xlA,.int .i64 xhA,.int .i64 zlA,.int .i64 zhA] 127);rw [hba]at hba0;rw [hba];have zba:w6.heap.size≤ba:=by omega
   clear ccA0 ccA1 ccA2 ccA3 ccA4 ccA5 ccA6 ccA7 ccA8 ccA9 ccA10 ccA11 ccA12 ccA13 ccA14 pt2 sv92 svf2 hp2 hru2;have HJ:=hd9 hJ
   have hpl:(((ks.take i).map Prod.fst).flatMap (rowP ⟨sk,pin,wide,lap,step,run,level⟩ (ks.map Prod.fst))).length≤14400:=by
    have l1:=flat_len (fun a=>rowP_len ⟨sk,pin,wide,lap,step,run,level⟩ (ks.map Prod.fst) a) ((ks.take i).map Prod.fst);rw [lL,List.length_take,lL,Hn6.out]at l1;have l3:min i wn*wn≤120*120:=Nat.mul_le_mul (by omega) (by omega);omega
   have e2:((ks.take (i+1)).map Prod.fst).flatMap (rowP ⟨sk,pin,wide,lap,step,run,level⟩ (ks.map Prod.fst))=((ks.take i).map Prod.fst).flatMap (rowP ⟨sk,pin,wide,lap,step,run,level⟩ (ks.map Prod.fst))++rowP ⟨sk,pin,wide,lap,step,run,level⟩ (ks.map Prod.fst) ⟨⟨nmA,shA,dA,deA,gxA,gzA,wyA,axA,azA,kinA⟩,kA,(xlA,xhA),zlA,zhA⟩:=by
    rw [take_add_one' _ _ _ HqA.out,List.map_append,List.flatMap_append];simp
   have E2:=hd9 e2;clear e2
   refine by3_loop _ w w6 _ sb ba sk pin wide lap step run level ga gn gc pa pn pc1 bk o wn wc ks ps _ _ (.slice (some ⟨bk,o,none⟩) wn wc) (.int .i64 wn) (.int .i64 (i:Nat)) _ nmA shA dA deA gxA gzA wyA axA azA kinA kA xlA xhA zlA zhA vaA vnA vcA Hj6.out hnc6 Hkp.out Hkm.out Hok.out HmA.out HS6.out Hp6.out Hru6.out zs4 zba hpl _ ⟨rfl,rfl,rfl,rfl,rfl,rfl,rfl,rfl,rfl,rfl⟩
    ⟨0,vj,by omega,rfl,by rw [Hn6.out];rfl,gb_below Hgb2.out (Below.mono hEA hsw2),hEA.heapS Hsv2.out,hba0,by simpa using Hown2.out.ext hEA⟩ (fun a W vj3 hfr hgb3 hsv3 hown3=>?_)
   obtain⟨tt,dd⟩:=a;obtain⟨f1,f3,f8,f12,f67,f68,f69,f76,f77,fd⟩:=hfr;dsimp only at f1 f3 f8 f12 f67 f68 f69 f76 f77 fd;subst fd;obtain⟨p78,f78⟩:∃p,tt.getD 78 undef=p:=⟨_,rfl⟩;obtain⟨u2,rfl⟩:=arrF3 tt f1 f3 f8 f12 f67 f68 f69 f76 f77 f78;have Hgb3:=hd9 hgb3;have Hsv3:=hd9 hsv3;have Hown3:=hd9 hown3;clear f1 f3 f8 f12 f67 f68 f69 f76 f77 f78 hgb3 hsv3 hown3
   gi_wp2
   refine Handed.intro (wn-(i+1)) (by have:=Hn6.out;omega) (HJ.out _ _ _ ⟨⟨i+1,vj3,by have:=Hn6.out;omega,?_,by rw [Hn6.out],Hgb3.out,Hsv3.out,by rw [E2.out];exact Hown3.out⟩,rfl,rfl,rfl,rfl,rfl,rfl⟩)
   show (_:Value)=_
   go_num
  ·obtain rfl:wn=i:=by omega
   have e:ks.take wn=ks:=lT (by rw [Hn6.out];exact Nat.le_refl _);rw [e]at hown2;have Hgb2:=hd9 hgb2;have Hsv2:=hd9 hsv2;have Hown2:=hd9 hown2;clear e hgb2 hsv2 hown2 hp2 hru2
   gi_wp2
   exact HQ.out _ _ _ ⟨rfl,rfl,rfl,rfl,rfl,rfl⟩ Hgb2.out Hsv2.out Hown2.out
end Go.Proofs.YteipgejmhfpkaaaGreatDoor.Cop
namespace Go.Proofs.YteipgejmhfpkaaaGreatDoor.Cop
open Go.RowKit Go.Shelf Go.Sort
attribute [local go_sem] Oper.semAt_some
theorem by4_loop (Q:Exit→Act→World→Prop) (w7:World) (sb:Nat) (sk pin wide lap step run level:Int) (ga:Option Addr) (gn gc:Nat) (pa:Option Addr) (pn pc1:Nat) (wa:Option Addr) (wn wc:Nat) (qa:Option Addr) (qn qc:Nat) (L:List Jt)
  (hjL:IsJts w7 (.slice qa qn qc) L) (hncL:qn≤14400) (hLb:∀j∈L,BJt j)
  (hS7:w7.heap[sb]?=some (.cells (svc ⟨sk,pin,wide,lap,step,run,level⟩ (.slice ga gn gc) (.slice pa pn pc1) (.slice wa wn wc) (.slice qa qn qc) (.slice none 0 0)) 113 (0,0))) (hp7:w7.heap[sb+1]?=some (.cells #[.pointer (some ⟨sb,0,none⟩)] 95 (0,0)))
  (a0:Act) (ha0:a0.tmps.size=196∧a0.tmps.getD 8 undef = .pointer (some ⟨sb+1,0,none⟩)∧a0.tmps.getD 162 undef = .slice qa qn qc∧a0.tmps.getD 163 undef = .int .i64 qn) (hi0:a0.tmps.getD 164 undef = .int .i64 (0:Nat)) (hd0:a0.defers=marks [])
  (hQ:∀a W vr Ds,(a.tmps.size=196∧a.tmps.getD 8 undef = .pointer (some ⟨sb+1,0,none⟩))→a.defers=marks Ds→w7.grownBy W (some sb)→W.heap[sb]?=some (.cells (svc ⟨sk,pin,wide,lap,step,run,level⟩ (.slice ga gn gc) (.slice pa pn pc1) (.slice wa wn wc) (.slice qa qn qc) vr) 113 (0,0)) →
   OwnC 3 1 W w7.heap.size vr ((rootsP ⟨sk,pin,wide,lap,step,run,level⟩ L L.length).map ic)→Marked W Ds→(∀D∈Ds,w7.heap.size≤D)→Q (.exit 6) a W) :
  (Code.loop (loopAt Tryz.f28 3)).wpIn Fence.wide 5 Tryz.prog Q a0 w7:=by
 have zs7:=heap_lt hp7;have HnL:=hd9 hjL.len.symm;have HjL:=hd9 hjL;have HLb:=hd9 hLb;have Hsv7:=hd9 hS7;have Hp7:=hd9 hp7;have HQ:=hd9 hQ;clear hjL hLb hS7 hp7 hQ;unfold loopAt;simp only [Tryz.f28,loopsOf,List.cons_append,List.nil_append,List.append_nil,List.getD_cons_succ,List.getD_cons_zero];refine wpIn_loop_ghost_k (By4I w7 sb ⟨sk,pin,wide,lap,step,run,level⟩ (.slice ga gn gc) (.slice pa pn pc1) (.slice wa wn wc) (.slice qa qn qc) qa qn qc L) qn ?h0 ?round
 case h0=>exact⟨⟨0,_,[],by omega,hi0,by rw [HnL.out];rfl,gb_refl _ _,Hsv7.out,by simpa [rootsP] using OwnC.nil _ _ _ _,hd0,Marked.nil _,fun D hD=>by cases hD⟩,ha0⟩
 case round =>
  intro gk aa wr hinv;obtain⟨tt,dd⟩:=aa;obtain⟨⟨i,vr,Ds,hi,f164,rfl,hgb3,hsv3,hown3,hdd,hmk,hDs⟩,f1,f2,f3,f4⟩:=hinv;dsimp only at f1 f2 f3 f4 f164 hdd;subst hdd;obtain⟨u,rfl⟩:=arr196a tt f1 f2 f3 f4 f164;clear f1 f2 f3 f4 f164;intro J K hJ hK;dsimp only;rw [HnL.out]at hi;have hsw3:=hgb3.size;have hp3:=(hgb3.block (sb+1) zs7 (by simp)).trans Hp7.out;have pt3:=qcB hp3 (i:=0) (u:=.pointer (some ⟨sb,0,none⟩)) rfl;have zt2:sb+1<wr.heap.size:=by omega
  have zt3:sb<wr.heap.size:=by omega
  have zt6:sb+1<wr.heap.size+1:=by omega
  have zt7:sb<wr.heap.size+1:=by omega
  have zt8:sb+1<wr.heap.size+1+1:=by omega
  have zt9:sb<wr.heap.size+1+1:=by omega
  obtain⟨ra,rn,rc,rfl⟩:=hown3.form3
  by_cases hlt4:i<qn
  ·obtain⟨⟨ja,jb,jl,jr,jf,jt⟩,hqJ⟩:∃q,L[i]?=some q:=⟨L[i]'(by rw [HnL.out];omega),by simp [HnL.out,hlt4]⟩
   have hjw:=HjL.out.keep (gb_keepT hgb3 Hsv7.out (by decide));obtain⟨bk,o,e0,hb,hc⟩:=hjw.at' hqJ;subst e0;unfold jta at hc;dsimp only at hc;have cc0:=hc 0 (.int .i64 ja) rfl;have cc1:=hc 1 (.int .i64 jb) rfl;have cc2:=hc 2 (.int .i64 jl) rfl;have cc3:=hc 3 (.int .i64 jr) rfl;have cc4:=hc 4 (.int .i64 jf) rfl;have cc5:=hc 5 (.int .i64 jt) rfl;simp only [Nat.add_zero]at cc0;have HqJ:=hd9 hqJ;have Hjw:=hd9 hjw;have Hgb3:=hd9 hgb3;have Hsv3:=hd9 hsv3;have Hown3:=hd9 hown3;have Hmk:=hd9 hmk;have HDs:=hd9 hDs;clear hc hqJ hjw hgb3 hsv3 hown3 hmk hDs
   gi_wp2_with(refine⟨trivial,?_⟩;gi_at_call 37;refine(callsIn_wide.2 (before_any _ sb i)).mono ?_;rintro e w' ⟨rfl,rfl⟩)
   obtain⟨W9,hW9⟩:∃W9,((((wr.alloc (.cells #[.int .i64 ja,.int .i64 jb,.int .i64 jl,.int .i64 jr,.int .i64 jf,.int .i64 jt] 75)).alloc (.cells #[.int .i64 jf] 3)).alloc (.cells #[.pointer (some ⟨sb,0,none⟩)] 95)).alloc (.cells #[.int .i64 i] 3))=W9:=⟨_,rfl⟩;have hx9:Ext wr W9:=by rw [←hW9];exact((((Ext.refl wr).alloc _).alloc _).alloc _).alloc _
   have hs9:W9.heap.size=wr.heap.size+1+1+1+1:=by rw [←hW9];simp
   have hr9:W9.heap[wr.heap.size+1]?=some (.cells #[.int .i64 jf] 3 (0,0)):=by rw [←hW9];exact(((Ext.refl _).alloc _).alloc _).heapS (heap_two1 wr _ _)
   have hb9:W9.heap[wr.heap.size+1+1]?=some (.cells #[.pointer (some ⟨sb,0,none⟩)] 95 (0,0)):=by rw [←hW9];exact((Ext.refl _).alloc _).heapS (qhA _ _ _ (by simp))
   have hk9:W9.heap[wr.heap.size+1+1+1]?=some (.cells #[.int .i64 i] 3 (0,0)):=by rw [←hW9];exact qhA _ _ _ (by simp)
   rw [hW9];clear hW9 cc0 cc1 cc2 cc3 cc4 cc5
   refine wpIn_rangeFunc_ownH rfl (by decide) (gf:=75) (lb:=#[.pointer (some ⟨wr.heap.size+1+1+1,0,none⟩),.pointer (some ⟨wr.heap.size+1+1,0,none⟩)]) rfl trivial (enters_of Tryz.func75 (by kernel_rfl) rfl)
    (bef_stops _ (by decide) (wr.heap.size+1+1) wr W9 sb ⟨sk,pin,wide,lap,step,run,level⟩ (.slice ga gn gc) (.slice pa pn pc1) (.slice wa wn wc) (.slice (some ⟨bk,o,none⟩) qn qc) (.slice ra rn rc) L i (by rw [HnL.out];exact hlt4) HLb.out Hsv3.out Hjw.out hb9 hk9 hx9) KpQ.trans (KpQ.put (by omega) (by omega)) (Below.refl _ _) (fun _=>rfl)
    (ByI wr (rootsP ⟨sk,pin,wide,lap,step,run,level⟩ L i) jf i) (fun _ _ _=>False) (ownFrom_of_sim (fun s W h=>by have:=h.2.1;omega) (fun s W W' h k=>⟨k.ext h.1 (by omega),Nat.le_trans h.2.1 k.size,k.heap h.2.2⟩)) (fun c=>ownFrom_of_sim (fun s W h=>h.elim) (fun _ _ _ h _=>h.elim)) ⟨hx9,by omega,hr9⟩
    (fun x a' _=>By4A sb wr.heap.size x.1 a') (fun x a'=>ownFrom_pure _ (fun _=>By4A sb wr.heap.size x.1 a')) ?assign ?body ?done ?stop
   case assign =>
    rintro l pre x W K hI hK
    gi_wp2
    refine hK _ _ (KeepsFrom.refl _ _) (KpQ.refl _ _ _) hI ⟨rfl,rfl,rfl,rfl,rfl⟩
   case stop =>
    rintro D c pre W hD hpre hf hK;exact hf.elim
   case body =>
    rintro l pre x a' W hl ⟨rr,hr⟩ hI hA hlt;obtain⟨tt,dd⟩:=a';obtain⟨g1,g2,g3,g4,g5⟩:=hA;dsimp only at g1 g2 g3 g4 g5;subst g5;obtain⟨v,rfl⟩:=arr196b tt g1 g2 g3 g4;clear g1 g2 g3 g4;obtain⟨x,hxi⟩:=x;obtain⟨h1,h2,h3⟩:=hI;obtain⟨cur,hcur⟩:∃c,(pre.map (·.1)).foldl (fun o y=>min o ((rootsP ⟨sk,pin,wide,lap,step,run,level⟩ L i).getD y 0)) jf=c:=⟨_,rfl⟩;have hcur':=hcur;rw [hcur]at h3;have his:=Hown3.out.is.ext' h1;obtain⟨q,hq⟩:∃q,(rootsP ⟨sk,pin,wide,lap,step,run,level⟩ L i)[x]?=some q:=⟨(rootsP ⟨sk,pin,wide,lap,step,run,level⟩ L i)[x]'(by rw [rootsP_len];exact hxi),by simp⟩;obtain⟨b',o',e',hb',dq⟩:=his.at' hq;obtain⟨b2,o2,e2,hb2,_⟩:=Hown3.out.is.at' hq;subst e'
    cases e2
    have pt9:=h1.cellS pt3;have hsv9:=h1.heapS Hsv3.out;have sv9:=qcB hsv9 (i:=11) (u:=.slice (some ⟨b',o',none⟩) rn rc) rfl;have rt9:=qcB h3 (i:=0) (u:=.int .i64 cur) rfl;have rtf:=qfB h3
    have hrn:rn=i:=by
     have h8:=Hown3.out.len;rw [lL,rootsP_len]at h8;exact h8
    have hgq:(rootsP ⟨sk,pin,wide,lap,step,run,level⟩ L i).getD x 0=q:=by rw [List.getD_eq_getElem?_getD,hq];rfl
    have hres:((pre++[(⟨x,hxi⟩:{x:Nat // x<i})]).map (fun y=>y.1)).foldl (fun o y=>min o ((rootsP ⟨sk,pin,wide,lap,step,run,level⟩ L i).getD y 0)) jf=min cur q:=by
     rw [List.map_append,List.foldl_append,hcur'];simp only [List.map_cons,List.map_nil,List.foldl_cons,List.foldl_nil,hgq]
    have Hres:=hd9 hres;have zw:=h1.size;have p1:(0:Int)≤(x:Int):=by omega
    have p2:(x:Int)<(rn:Int):=by omega
    have p3:x<rn:=by omega
    have H3:=hd9 h3;have H1:=hd9 h1
    have Hne:=hd9 (show ∀e∈[((⟨sb+1,0,none⟩:Addr),Value.pointer (some ⟨sb,0,none⟩)),(⟨sb,11,none⟩,.slice (some ⟨b',o',none⟩) rn rc),(⟨b',o'+x,none⟩,.int .i64 q)],(⟨wr.heap.size+1,0,none⟩:Addr).block≠e.1.block from fun e he h=>by
     simp at he
     rcases he with rfl|rfl|rfl<;>(dsimp only at h;omega))
    clear hcur hcur' his hq hgq hres hrn h3
    gi_wp2
    refine wpIn_region_heldR (S:=CellL [(⟨sb+1,0,none⟩,.pointer (some ⟨sb,0,none⟩)),(⟨sb,11,none⟩,.slice (some ⟨b',o',none⟩) rn rc),(⟨b',o'+x,none⟩,.int .i64 q)]) (by kernel_rfl) (by kernel_rfl) ?_ (fun hHeld=>?_)
    ·refine⟨?_,?_,?_,trivial⟩<;>go_simp
    refine sN 1 ?_
    iterate 7
     refine tkn ?_
    refine oN ?_;refine cl1 (i:=0) fun K hK=>?_
    go_simp;refine kO hK hHeld (fun hHeld=>?_);clear hK K;refine cl1 (i:=8) fun K hK=>?_
    go_simp;refine kO hK hHeld (fun hHeld=>?_);clear hK K;refine cl1 (i:=9) fun K hK=>?_
    go_simp;refine kO hK (CellL.set hHeld Hne.out _) (fun hHeld=>?_);clear hK K;refine wpAnyH_done (by kernel_rfl) ?_ _;unfold NQ;have X9:Ext wr W.drew:=H1.out.drew
    have hfin:ByI wr (rootsP ⟨sk,pin,wide,lap,step,run,level⟩ L i) jf i (pre++[⟨x,hxi⟩]) (W.drew.setCell ⟨wr.heap.size+1,0,none⟩ (.int .i64 (min cur q))):=by
     refine⟨X9.set (by dsimp only;omega) _,by simp only [qcZ];exact h2,?_⟩;rw [Hres.out];exact blk_set (W:=W.drew) H3.out 0 (.int .i64 (min cur q))
    have hkp:KpQ wr (wr.heap.size+1+1) W (W.drew.setCell ⟨wr.heap.size+1,0,none⟩ (.int .i64 (min cur q))):=
     (((KpQ.refl wr (wr.heap.size+1+1) W).ext ((Ext.refl W).drew) H1.out.size (by omega)).set (by dsimp only;omega) (by dsimp only;omega) (by dsimp only;omega) _)
    have hkf:KeepsFrom W9.heap.size W (W.drew.setCell ⟨wr.heap.size+1,0,none⟩ (.int .i64 (min cur q))):=(keepsFrom_ext ((Ext.refl W).drew)).trans ((KeepsOthers.setCell _ _ _).from _)
    gi_wp2
    exact⟨hkf,hkp,hfin⟩
   case done =>
    rintro D ys W hD hys ⟨h1,h2,h3⟩ hKD;rw [hys]at h3;obtain⟨rt,hrt⟩:∃c,(befL ⟨sk,pin,wide,lap,step,run,level⟩ L i).foldl (fun o j=>min o ((rootsP ⟨sk,pin,wide,lap,step,run,level⟩ L i).getD j 0)) jf=c:=⟨_,rfl⟩;rw [hrt]at h3;have pt9:=h1.cellS pt3;have hsv9:=h1.heapS Hsv3.out;have sv9:=qcB hsv9 (i:=11) (u:=.slice ra rn rc) rfl;have rt9:=qcB h3 (i:=0) (u:=.int .i64 rt) rfl;have Hlt9:=hd9 (fun j (h:(Value.slice ra rn rc).ownBlock=some j)=>Hown3.out.lt j h);have hroots:rootsP ⟨sk,pin,wide,lap,step,run,level⟩ L (i+1)=rootsP ⟨sk,pin,wide,lap,step,run,level⟩ L i++[rt]:=by rw [rootsP,HqJ.out];dsimp only;unfold rootP;rw [hrt]
    have Hroots:=hd9 hroots;have zw:=h1.size;have zw2:sb+1<W.heap.size:=by omega
    have zw3:sb<W.heap.size:=by omega
    have zw4:wr.heap.size+1<W.heap.size:=by omega
    clear hroots hrt hys
    gi_wp2
    refine wpIn_region_HIN (fun i=>decide (9<i)) (CellL [(⟨sb+1,0,none⟩,.pointer (some ⟨sb,0,none⟩)),(⟨sb,11,none⟩,.slice ra rn rc),(⟨wr.heap.size+1,0,none⟩,.int .i64 rt)]) (by kernel_rfl) ?_ (fun hHeld=>?_)
    ·refine⟨?_,?_,?_,trivial⟩<;>go_simp
    refine sN 0 ?_
    iterate 6
     refine tin ?_
    refine oN ?_;refine ci1 (i:=6) fun K hK=>?_
    go_simp;refine kO hK (fun _=>CellL.ext hHeld ((Ext.refl _).alloc _)) (fun hHeld=>?_);clear hK K;have hHeld:=hHeld rfl;have hA:Ext wr ((W.alloc (.cells #[.int .i64 rt] 3)).drew):=(h1.alloc _).drew;refine ci1 (i:=7) fun K hK=>?_
    refine step_appCW (T:=3) (t:=36) (z:=.int .i64 0) (k:=1) (bytes:=8) (v:=.slice ra rn rc) (base:=w7.heap.size) info_int1 rfl (by decide) (by decide) Tryz.underlying36 rfl _ _ rfl rfl (Hown3.out.ext hA) (ad:=⟨W.heap.size,0,none⟩) (m:=1) (c:=1) rfl [(#[.int .i64 rt]:Array Value).toList] rfl (by simp) (by exact news_blk W #[.int .i64 rt] 3) (by simp [Value.oneCell']) (by rw [lL,rootsP_len];omega) (by have:=hA.size;omega) ?_;intro v' w9 hown9 hgrow hlie;obtain⟨a9,n9,c9,rfl⟩:=hown9.form3;refine kO hK (fun _=>CellL.grown hHeld hgrow (fun q hq e=>?_)) (fun hHeld=>?_)
    ·have h9:=Hlt9.out _ e.symm
     simp at hq;have h8:∀r,(Value.slice ra rn rc).ownBlock=some r→r≠wr.heap.size+1:=fun r hr=>by have:=(Hlt9.out r hr).2;omega
     rcases hq with rfl|rfl|rfl
     ·dsimp only at h9;omega
     ·dsimp only at h9;omega
     ·exact h8 _ e.symm rfl
    clear hK K;have hHeld:=hHeld rfl;refine sN 8 ?_
    iterate 2
     refine tin ?_
    refine oN ?_;have hK9:=grown_heapS hgrow (hA.heapS Hsv3.out) (fun e=>by have:=(Hlt9.out _ e.symm).1;omega);have n1:=qcB hK9 (i:=11) (u:=.slice ra rn rc) rfl;have nf:=qfB hK9
    have hmk9:Marked w9 (D::Ds):=(((Hmk.out.ext h1).cons hKD (fun hin=>by have:=heap_lt (Hmk.out.2 D hin);omega)).ext (((Ext.refl W).alloc _).drew)).grown hgrow (fun r hr=>by
     rcases(Hown3.out.ext hA).2.2 with ⟨q1,_⟩|⟨g,cap,cur,hv,_,hh,_⟩
     ·rw [q1]at hr;cases hr
     ·rw [hv]at hr;cases hr;exact⟨_,_,_,hh⟩)
    have Hmk9:=hd9 hmk9;clear hmk9;refine ci1 (i:=10) fun K hK=>?_
    go_simp;refine kO hK (fun h=>nomatch h) (fun hHeld=>?_);clear hK K;refine doneHI (by kernel_rfl) ?_ _;unfold NQ
    gi_wp2
    refine Handed.intro (qn-(i+1)) (by have:=HnL.out;omega) (hJ _ _ _ ⟨⟨i+1,.slice a9 n9 c9,D::Ds,by have:=HnL.out;omega,?_,by rw [HnL.out],gb_set (gb_below Hgb3.out ((Below.mono hA hsw3).trans (grown_below (base:=w7.heap.size) hgrow (Nat.le_trans hsw3 hA.size) (fun k hk=>(Hlt9.out k hk).1)))) 11 _,blk_set hK9 11 _,?_,rfl,Hmk9.out.set hK9 _,?_⟩,rfl,rfl,rfl,rfl⟩)
    ·show (_:Value)=_
     go_num
    ·rw [Hroots.out,List.map_append]
     exact hown9.setOther (fun e=>by have:=(hown9.lt _ e).1;dsimp only at this;omega) _
    ·intro E hE
     rcases List.mem_cons.1 hE with rfl|hE
     ·omega
     ·exact HDs.out E hE
  ·obtain rfl:qn=i:=by omega
   have Hgb3:=hd9 hgb3;have Hsv3:=hd9 hsv3;have Hown3:=hd9 hown3;have Hmk:=hd9 hmk;have HDs:=hd9 hDs;clear hgb3 hsv3 hown3 hmk hDs hp3
   gi_wp2
   exact HQ.out _ _ _ Ds ⟨rfl,rfl⟩ rfl Hgb3.out Hsv3.out (by rw [HnL.out];exact Hown3.out) Hmk.out HDs.out
end Go.Proofs.YteipgejmhfpkaaaGreatDoor.Cop
namespace Go.Proofs.YteipgejmhfpkaaaGreatDoor.Cop
open Go.RowKit Go.Shelf Go.Sort
attribute [local go_sem] Oper.semAt_some
theorem by_ok (w:World) (vg vp:Value) (g:List (Int×Int)) (ps:List Pl) (r:Ru) (hg:IsPts w vg g) (hp:IsPls w vp ps) (hgw:Gw w) (h0:laidP g ps=0) (hr0:rulesE r=0) :
  Calls Tryz.prog 28 #[.agg #[vg,vp],.agg (ruc r)] w (RetBy w vg vp g ps r):=by
 obtain⟨hok,hn9,hgb⟩:=laidP_ok h0;have HC:=hd9 (fun W (hW:Ext w W)=>wcheck_any W vg vp g ps (hg.ext' hW) (hp.ext' hW) (hgw.ext hW));have HS:=hd9 (fun W (hW:Ext w W)=>stones_any W vg vp ps (form3 hg) (hp.ext' hW) (hgw.ext hW) hok hn9);have HU:=hd9 (fun W=>rules_any W r);obtain⟨ga,gn,gc,rfl⟩:=form3 hg;obtain⟨pa,pn,pc1,rfl⟩:=form3 hp;obtain⟨R,hR⟩:∃R,RetBy w (.slice ga gn gc) (.slice pa pn pc1) g ps r=R:=⟨_,rfl⟩;rw [hR];have HR:=hd9 hR;have he:byE g ps r=0:=by unfold byE;rw [if_pos h0,hr0]
 rw [h0]at HC;rw [hr0]at HU;have HE:=hd9 he;have Hok:=hd9 hok;have Hn9:=hd9 hn9;obtain⟨sk,pin,wide,lap,step,run,level⟩:=r;unfold ruc at HU ⊢;dsimp only at HU;clear hg hp hgw hR he hok hn9 hgb h0 hr0;refine(callsIn_wide (n:=5)).1 ?_;refine callsIn_of_wp_marks Tryz.func28 rfl trivial ?_ rfl;simp only [Tryz.ntmps28,List.size_toArray,List.length_cons,List.length_nil,Nat.reduceAdd,Nat.reduceSub,Array.replicate_succ,Array.replicate_zero,List.push_toArray,List.append_toArray,List.nil_append,List.cons_append]
 gi_wp2_with(first|(refine⟨trivial,?_⟩;gi_at_call 40;(refine(callsIn_wide.2 (HC.out _ ?_)).mono ?_);exact eA;rintro e w3 ⟨rfl,hx3⟩;obtain⟨hc3,hf3⟩:=hx3.cells;(have z3:=hx3.size);(simp only [wZ]at z3);(have y0:w.heap.size<w3.heap.size:=(by omega));(have y1:w.heap.size+1<w3.heap.size:=(by omega)))|(refine⟨trivial,?_⟩;gi_at_call 51;refine(callsIn_wide.2 (HU.out _)).mono ?_;rintro e w4 ⟨rfl,hx4⟩;obtain⟨hc4,hf4⟩:=hx4.cells;(have z4:=hx4.size);(have y2:w.heap.size<w4.heap.size:=(by omega));(have y3:w.heap.size+1<w4.heap.size:=(by omega))))
 refine⟨trivial,(callsIn_wide.2 (HS.out _ ?_)).mono ?_⟩
 ·exact eA
 rintro e w5 ⟨v5,js,rfl,hown5,hjs,hjv,hx5⟩;obtain⟨a5,n5,k5,rfl⟩:=hown5.form3;have K0:=hx5.heapS (((Ext.refl w4).alloc (.cells #[.int .u8 sk,.int .i64 pin,.int .i64 wide,.int .i64 lap,.int .i64 step,.int .i64 run,.int .i64 level,.slice ga gn gc,.slice pa pn pc1,.slice none 0 0,.slice none 0 0,.slice none 0 0] 113)).alloc (.cells #[.pointer (some ⟨w4.heap.size,0,none⟩)] 95) |>.heapS (hx4.heapS (hx3.heapS (heap_two1 w (.cells #[.slice ga gn gc,.slice pa pn pc1] 33) (.cells #[.int .u8 sk,.int .i64 pin,.int .i64 wide,.int .i64 lap,.int .i64 step,.int .i64 run,.int .i64 level] 35)))));have K1:=hx5.heapS (heap_two' w4 (.cells #[.int .u8 sk,.int .i64 pin,.int .i64 wide,.int .i64 lap,.int .i64 step,.int .i64 run,.int .i64 level,.slice ga gn gc,.slice pa pn pc1,.slice none 0 0,.slice none 0 0,.slice none 0 0] 113) (.cells #[.pointer (some ⟨w4.heap.size,0,none⟩)] 95));have K2:=hx5.heapS (heap_two1 w4 (.cells #[.int .u8 sk,.int .i64 pin,.int .i64 wide,.int .i64 lap,.int .i64 step,.int .i64 run,.int .i64 level,.slice ga gn gc,.slice pa pn pc1,.slice none 0 0,.slice none 0 0,.slice none 0 0] 113) (.cells #[.pointer (some ⟨w4.heap.size,0,none⟩)] 95));obtain⟨sb,hsb⟩:∃s,w4.heap.size=s:=⟨_,rfl⟩;have X4:Ext w w4:=eA;have X5:Ext w4 w5:=eA;have zs4:w.heap.size+1<sb:=by omega
 have zs5:=heap_lt K2;rw [hsb]at K1 K2 zs5;have hn5:=hown5.js.len;have hj5:=hown5.js;have hmx:=hj5.le;have Hn:=hd9 hn5.symm;have hnc:n5≤9223372036854775807:=by unfold maxLen at hmx;omega
 have hn120:n5≤120:=by
  have h9:=congrArg List.length hjs;have h8:=Hn9.out;rw [lL,jsP_len]at h9;omega
 have Hj5:=hd9 hj5;have Hjs:=hd9 hjs;have Hjv:=hd9 hjv;have hjv5:∀j∈js,IsPts w5 j.2 j.1.p.shape:=fun j hj=>(hjv j hj).ext' hx5
 have Hjv5:=hd9 hjv5;have HK0:=hd9 K0;have HK1:=hd9 K1;have HK2:=hd9 K2;have HX4:=hd9 X4;have HX5:=hd9 X5;have Hsb:=hd9 hsb;have Hn120:=hd9 hn120;clear hown5 hj5 hjs hjv hjv5 hx5 hx3 hx4 hc3 hf3 hc4 hf4 K0 K1 K2 X4 X5 hn5 hmx HC HS HU;rw [hsb];clear hsb
 gi_wp2
 refine by1_loop _ w w5 sb sk pin wide lap step run level ga gn gc pa pn pc1 a5 n5 k5 js Hj5.out hn120 (fun j hj=>⟨_,Hjv5.out j hj⟩) HK0.out HK1.out HK2.out zs4 _ ⟨rfl,rfl,rfl,rfl,rfl,rfl⟩ rfl (fun a w6 vs hfr hgb hsv hown=>?_);obtain⟨tt,dd⟩:=a;obtain⟨f1,f3,f8,f35,f36,fd⟩:=hfr;dsimp only at f1 f3 f8 f35 f36 fd;subst fd;obtain⟨p37,f37⟩:∃p,tt.getD 37 undef=p:=⟨_,rfl⟩;obtain⟨u,rfl⟩:=arrF1 tt f1 f3 f8 f35 f36 f37;clear f1 f3 f8 f35 f36 f37;have hsw:=hgb.size;have hp0:=(hgb.block (sb+1) zs5 (by simp)).trans HK2.out;have hru:=(hgb.block (w.heap.size+1) (by omega) (by simp;omega)).trans HK0.out;have pt0:=qcB hp0 (i:=0) (u:=.pointer (some ⟨sb,0,none⟩)) rfl;obtain⟨ks,hks⟩:∃ks,(js.filter fun j=>inB ⟨sk,pin,wide,lap,step,run,level⟩ j.1)=ks:=⟨_,rfl⟩;rw [hks]at hown
 have hskin:ks.map Prod.fst=skinP ⟨sk,pin,wide,lap,step,run,level⟩ ps:=by
  unfold skinP;rw [←hks,←Hjs.out,List.filter_map];rfl
 have hkp:∀j∈ks,IsPts w5 j.2 j.1.p.shape:=fun j hj=>Hjv5.out j (by rw [←hks]at hj;exact(List.mem_filter.1 hj).1)
 have hkm:∀j∈ks,j.1∈jsP ps:=fun j hj=>by
  rw [←Hjs.out];rw [←hks]at hj;exact List.mem_map_of_mem (List.mem_filter.1 hj).1
 have hkl:ks.length≤120:=by
  have:=List.length_filter_le (fun j:JS×Value=>inB ⟨sk,pin,wide,lap,step,run,level⟩ j.1) js;rw [hks]at this;have:=Hn120.out;have:=Hn.out;omega
 obtain⟨wa,wn,wc,rfl⟩:=hown.form3;have hj6:=hown.js;have hn6:=hj6.len;have hnc6:wn≤120:=by omega
 have Hn6:=hd9 hn6.symm;have Hj6:=hd9 hj6;have Hskin:=hd9 hskin;have Hkp:=hd9 hkp;have Hkm:=hd9 hkm;have sv9:=qcB hsv (i:=9) (u:=.slice wa wn wc) rfl;have Hgb:=hd9 hgb;have HS6:=hd9 hsv;have Hp6:=hd9 hp0;have Hru6:=hd9 hru;have zs6:=heap_lt hp0;clear hown hskin hkp hkm hks hj6 hn6 hkl hru hp0 hgb hsv
 gi_wp2
 refine by2_loop _ w w6 sb sk pin wide lap step run level ga gn gc pa pn pc1 wa wn wc ks ps Hj6.out hnc6 (fun j hj=>⟨_,Hkp.out j hj⟩) Hkm.out Hok.out HS6.out Hp6.out Hru6.out zs4 _ ⟨rfl,rfl,rfl,rfl,rfl,rfl⟩ rfl (fun a wr vj hfr hgb2 hsv2 hown2=>?_);obtain⟨tt,dd⟩:=a;obtain⟨f1,f3,f8,f67,f68,fd⟩:=hfr;dsimp only at f1 f3 f8 f67 f68 fd;subst fd;obtain⟨p69,f69⟩:∃p,tt.getD 69 undef=p:=⟨_,rfl⟩;obtain⟨u2,rfl⟩:=arrF2 tt f1 f3 f8 f67 f68 f69;clear f1 f3 f8 f67 f68 f69;obtain⟨raw,hraw⟩:∃x,rawP ⟨sk,pin,wide,lap,step,run,level⟩ (ks.map Prod.fst)=x:=⟨_,rfl⟩;rw [hraw]at hown2;have hraw2:rawP ⟨sk,pin,wide,lap,step,run,level⟩ (skinP ⟨sk,pin,wide,lap,step,run,level⟩ ps)=raw:=by rw [←Hskin.out];exact hraw
 have hrb:∀j∈raw,BJt j:=fun j hj=>by
  rw [←hraw]at hj;obtain⟨a,ha,hj⟩:=List.mem_flatMap.1 hj;obtain⟨b,hb,rfl⟩:=List.mem_map.1 hj;obtain⟨qa,hqa,rfl⟩:=List.mem_map.1 ha;obtain⟨qb,hqb,rfl⟩:=List.mem_map.1 (List.mem_filter.1 hb).1;exact jtOf_bd Hok.out Hn9.out (Hkm.out _ hqa) (Hkm.out _ hqb)
 have hrl:raw.length≤14400:=by
  have l1:=flat_len (fun a=>rowP_len ⟨sk,pin,wide,lap,step,run,level⟩ (ks.map Prod.fst) a) (ks.map Prod.fst);rw [show (ks.map Prod.fst).flatMap (fun a=>rowP ⟨sk,pin,wide,lap,step,run,level⟩ (ks.map Prod.fst) a)=raw from hraw,lL,Hn6.out]at l1;have l3:wn*wn≤120*120:=Nat.mul_le_mul (by omega) (by omega);omega
 obtain⟨qa,qn,qc,rfl⟩:=hown2.form3;have hsw2:=hgb2.size;have hp2':=(hgb2.block (sb+1) zs6 (by simp)).trans Hp6.out;have pt2:=qcB hp2' (i:=0) (u:=.pointer (some ⟨sb,0,none⟩)) rfl;have sv10:=qcB hsv2 (i:=10) (u:=.slice qa qn qc) rfl;have Hraw2:=hd9 hraw2;have Hrb:=hd9 hrb;have Hrl:=hd9 hrl;have Hgb2:=hd9 hgb2;have Hsv2:=hd9 hsv2;have Hown2:=hd9 hown2;have HST:=hd9 (sortt_any wr w6.heap.size (.slice qa qn qc) raw hown2 hrb (by omega));clear hraw hraw2 hrb hrl hgb2 hsv2 hown2
 gi_wp2_with(refine⟨trivial,?_⟩;gi_at_call 53;refine(callsIn_wide.2 HST.out).mono ?_;rintro e w7 ⟨rfl,L,hperm,hord,hownL,hgL⟩;(have hsv7:=grown_heapS hgL Hsv2.out (fun e=>by have:=(Hown2.out.lt _ e.symm).1;omega));(have hp7:=grown_heapS hgL hp2' (fun e=>by have:=(Hown2.out.lt _ e.symm).1;omega));(have sv7:=qcB hsv7 (i:=10) (u:=.slice qa qn qc) rfl);(have pt7:=qcB hp7 (i:=0) (u:=.pointer (some ⟨sb,0,none⟩)) rfl))
 have hnL:=hownL.len;rw [lL]at hnL;have hjL:=hownL.jts;have hLb:∀j∈L,BJt j:=fun j hj=>Hrb.out j (hperm.mem_iff.1 hj)
 have hLl:L.length≤14400:=by rw [hperm.length_eq];exact Hrl.out
 have hncL:qn≤14400:=by rw [hnL];exact hLl
 have hx7:w6.grownBy w7 (some sb):=gb_below Hgb2.out (grown_below (base:=w6.heap.size) hgL (by omega) (fun k hk=>(Hown2.out.lt k hk).1));refine by4_loop _ w7 sb sk pin wide lap step run level ga gn gc pa pn pc1 wa wn wc qa qn qc L hjL hncL hLb hsv7 hp7 _ ⟨rfl,rfl,rfl,rfl⟩ rfl rfl (fun a wz vr Ds hfr hdd hgb3 hsv3 hown3 hmk hDs=>?_);obtain⟨tt,dd⟩:=a;obtain⟨f1,f8⟩:=hfr;dsimp only at f1 f8 hdd;subst hdd;obtain⟨p162,f162⟩:∃p,tt.getD 162 undef=p:=⟨_,rfl⟩;obtain⟨p163,f163⟩:∃p,tt.getD 163 undef=p:=⟨_,rfl⟩;obtain⟨p164,f164⟩:∃p,tt.getD 164 undef=p:=⟨_,rfl⟩;obtain⟨u3,rfl⟩:=arr196a tt f1 f8 f162 f163 f164;clear f1 f8 f162 f163 f164;have hpz:=(hgb3.block (sb+1) (heap_lt hp7) (by simp)).trans hp7;have ptz:=qcB hpz (i:=0) (u:=.pointer (some ⟨sb,0,none⟩)) rfl;have hSvP:SvP ⟨sk,pin,wide,lap,step,run,level⟩ ps ks L (rootsP ⟨sk,pin,wide,lap,step,run,level⟩ L L.length):=⟨Hskin.out,by rw [Hraw2.out];exact hperm,hord.imp (fun h=>Int.not_lt.2 h),rfl⟩;have X9:Ext w wz:=HX4.out.trans (gb_Ext (gb_Ext (gb_Ext HX5.out Hgb.out (by rw [Hsb.out];exact Nat.le_refl _)) hx7 (by rw [Hsb.out];exact Nat.le_refl _)) hgb3 (by rw [Hsb.out];exact Nat.le_refl _));have hpts:∀j∈ks,IsPts wz j.2 j.1.p.shape:=fun j hj=>(((Hkp.out j hj).keepT (gb_keepT Hgb.out HK1.out (by decide))).keepT (gb_keepT hx7 HS6.out (by decide))).keepT (gb_keepT hgb3 hsv7 (by decide))
 have hjsr:IsJs wz (.slice wa wn wc) ks:=((Hj6.out.keep (gb_keepT hx7 HS6.out (by decide))).keep (gb_keepT hgb3 hsv7 (by decide)));have hjtr:IsJts wz (.slice qa qn qc) L:=hjL.keep (gb_keepT hgb3 hsv7 (by decide));have zDs:∀D∈Ds,w.heap.size≤D:=fun D hD=>by have:=hDs D hD;have:=HX4.out.size;have:=HX5.out.size;have:=Hgb.out.size;have:=hx7.size;omega
 have HSvP:=hd9 hSvP;have HX9:=hd9 X9;have Hpts:=hd9 hpts;have Hjsr:=hd9 hjsr;have Hjtr:=hd9 hjtr;have Hsv3:=hd9 hsv3;have Hown3:=hd9 hown3;have Hmk:=hd9 hmk;have HzDs:=hd9 zDs;clear hSvP X9 hpts hjsr hjtr hsv3 hown3 hmk zDs hDs hgb3 hpz hperm hord hownL hgL hsv7 hp7 hjL hLb hLl hx7 hnL HST
 gi_wp2
 refine leaves_marks Ds _ Hmk.out (fun W' hW'=>?_);have hS:=hW' w.heap.size HzDs.out;refine⟨.tuple #[.pointer (some ⟨sb,0,none⟩),.int .i64 0],by simp [results,Tryz.results28,go_sem],?_⟩;rw [←HR.out];exact .inr ⟨HE.out,sb,_,_,_,ks,L,_,rfl,⟨hS.heap Hsv3.out,Hjsr.out.keep (hS.keep _),fun j hj=>(Hpts.out j hj).keepT (hS.keep _),Hjtr.out.keep (hS.keep _),Hown3.out.is.keep (hS.keep _)⟩,HSvP.out,hS.ext HX9.out (Nat.le_refl _)⟩
theorem by_any (w:World) (vg vp:Value) (g:List (Int×Int)) (ps:List Pl) (r:Ru) (hg:IsPts w vg g) (hp:IsPls w vp ps) (hgw:Gw w) :
  Calls Tryz.prog 28 #[.agg #[vg,vp],.agg (ruc r)] w (RetBy w vg vp g ps r):=by
 by_cases h0:laidP g ps=0
 ·by_cases h1:rulesE r=0
  ·exact by_ok w vg vp g ps r hg hp hgw h0 h1
  ·exact by_odd w vg vp g ps r hg hp hgw h0 h1
 ·exact by_err w vg vp g ps r hg hp hgw h0
end Go.Proofs.YteipgejmhfpkaaaGreatDoor.Cop
namespace Go.Proofs.YteipgejmhfpkaaaGreatDoor.Cop
open Go.RowKit Go.Shelf Go.Sort
def RetJo (w:World) (g:List (Int×Int)) (ps:List Pl) (r:Ru) (e:Ending) (w':World):Prop:=
 (byE g ps r≠0∧e = .returned (.tuple #[.slice none 0 0,.int .i64 (byE g ps r)])∧Ext w w') ∨
 (byE g ps r=0∧∃v L ks rs,e = .returned (.tuple #[v,.int .i64 0])∧IsJts w' v L∧SvP r ps ks L rs∧Ext w w')
def RetRo (w:World) (g:List (Int×Int)) (ps:List Pl) (r:Ru) (e:Ending) (w':World):Prop:=
 (byE g ps r≠0∧e = .returned (.tuple #[.slice none 0 0,.int .i64 (byE g ps r)])∧Ext w w') ∨
 (byE g ps r=0∧∃v L ks rs,e = .returned (.tuple #[v,.int .i64 0])∧IsIs w' v rs∧SvP r ps ks L rs∧Ext w w')
theorem joints_any (w:World) (vg vp:Value) (g:List (Int×Int)) (ps:List Pl) (r:Ru) (hg:IsPts w vg g) (hp:IsPls w vp ps) (hgw:Gw w) :
  Calls Tryz.prog 15 #[.agg #[vg,vp],.agg (ruc r)] w (RetJo w g ps r):=by
 have HB:=hd9 (fun W (hW:Ext w W)=>by_any W vg vp g ps r (hg.ext' hW) (hp.ext' hW) (hgw.ext hW));obtain⟨ga,gn,gc,rfl⟩:=form3 hg;obtain⟨pa,pn,pc1,rfl⟩:=form3 hp;obtain⟨R,hR⟩:∃R,RetJo w g ps r=R:=⟨_,rfl⟩;rw [hR];have HR:=hd9 hR;obtain⟨k,hk⟩:∃k,byE g ps r=k:=⟨_,rfl⟩;have HE:=hd9 hk;obtain⟨sk,pin,wide,lap,step,run,level⟩:=r;unfold ruc at HB ⊢;dsimp only at HB;clear hg hp hgw hR
 by_cases h0:k=0
 ·subst h0
  clear hk;go_enter Tryz.func15,Tryz.ntmps15
  go_wp2_with(go_at_call 28;(with_reducible refine(HB.out _ ?_).mono ?_);exact eA;rintro e w3 (⟨hne,_⟩|⟨_,sb,vs,vj,vr,ks,L,rs,rfl,sv,svp,hx3⟩);(focus(exact absurd HE.out hne));obtain⟨ja,jn,jc9,hvj⟩:=form3 sv.joints;subst hvj;(have sc:=qcB sv.blk (i:=10) (u:=.slice ja jn jc9) rfl))
  rw [←HR.out];exact .inr ⟨HE.out,_,L,ks,rs,rfl,sv.joints,svp,eA⟩
 ·have u0:(k != 0)=true:=by simpa using h0
  have Hne:=hd9 h0;clear h0 hk;go_enter Tryz.func15,Tryz.ntmps15
  go_wp2_with(go_at_call 28;(with_reducible refine(HB.out _ ?_).mono ?_);exact eA;rintro e w3 (⟨hne,rfl,hx3⟩|⟨h0,_⟩);rotate_left 1;(focus(exact absurd (HE.out.symm.trans h0) Hne.out));rw [HE.out])
  rw [←HR.out];exact .inl ⟨hne,by rw [HE.out];rfl,eA⟩
theorem roots_any (w:World) (vg vp:Value) (g:List (Int×Int)) (ps:List Pl) (r:Ru) (hg:IsPts w vg g) (hp:IsPls w vp ps) (hgw:Gw w) :
  Calls Tryz.prog 16 #[.agg #[vg,vp],.agg (ruc r)] w (RetRo w g ps r):=by
 have HB:=hd9 (fun W (hW:Ext w W)=>by_any W vg vp g ps r (hg.ext' hW) (hp.ext' hW) (hgw.ext hW));obtain⟨ga,gn,gc,rfl⟩:=form3 hg;obtain⟨pa,pn,pc1,rfl⟩:=form3 hp;obtain⟨R,hR⟩:∃R,RetRo w g ps r=R:=⟨_,rfl⟩;rw [hR];have HR:=hd9 hR;obtain⟨k,hk⟩:∃k,byE g ps r=k:=⟨_,rfl⟩;have HE:=hd9 hk;obtain⟨sk,pin,wide,lap,step,run,level⟩:=r;unfold ruc at HB ⊢;dsimp only at HB;clear hg hp hgw hR
 by_cases h0:k=0
 ·subst h0
  clear hk;go_enter Tryz.func16,Tryz.ntmps16
  go_wp2_with(go_at_call 28;(with_reducible refine(HB.out _ ?_).mono ?_);exact eA;rintro e w3 (⟨hne,_⟩|⟨_,sb,vs,vj,vr,ks,L,rs,rfl,sv,svp,hx3⟩);(focus(exact absurd HE.out hne));obtain⟨ja,jn,jc9,hvj⟩:=form3 sv.roots;subst hvj;(have sc:=qcB sv.blk (i:=11) (u:=.slice ja jn jc9) rfl))
  rw [←HR.out];exact .inr ⟨HE.out,_,L,ks,rs,rfl,sv.roots,svp,eA⟩
 ·have u0:(k != 0)=true:=by simpa using h0
  have Hne:=hd9 h0;clear h0 hk;go_enter Tryz.func16,Tryz.ntmps16
  go_wp2_with(go_at_call 28;(with_reducible refine(HB.out _ ?_).mono ?_);exact eA;rintro e w3 (⟨hne,rfl,hx3⟩|⟨h0,_⟩);rotate_left 1;(focus(exact absurd (HE.out.symm.trans h0) Hne.out));rw [HE.out])
  rw [←HR.out];exact .inl ⟨hne,by rw [HE.out];rfl,eA⟩
end Go.Proofs.YteipgejmhfpkaaaGreatDoor.Cop
