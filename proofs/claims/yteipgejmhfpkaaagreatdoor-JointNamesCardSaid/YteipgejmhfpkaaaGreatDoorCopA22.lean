/- Part 23: contracts of what the law calls. -/
import Derived.Test.YteipgejmhfpkaaaGreatDoorCopA21
import Derived.Test.YteipgejmhfpkaaaGreatDoorCopA19
import Derived.Test.YteipgejmhfpkaaaGreatDoorCopA20
set_option maxRecDepth 1000000
set_option maxHeartbeats 16000000
set_option linter.unusedSimpArgs false
set_option linter.unusedVariables false
open Go.Value renaming slice→O,int→Y,pointer→C,bool→F,agg→U
open Go.IntKind renaming i64→Z
open Option renaming none→V,some→N
open Go renaming World→I,Value→A
open Go.Obj renaming cells→M
namespace Go.Proofs.YteipgejmhfpkaaaGreatDoor.Cop
section
open Go.RowKit Go.Shelf Go.Sort
attribute [local go_sem] Oper.semAt_some
theorem zll (Q:Exit→Act→I→Prop) (w w6:I) (sb:Nat) (sk pin wide lap step run level:Int) (ga:Option Addr) (gn gc:Nat) (pa:Option Addr) (pn pc1:Nat) (wa:Option Addr) (wn wc:Nat) (ks:List (JS×A)) (ps:List Pl)
  (hj6:IsJs w6 (O wa wn wc) ks) (hnc6:wn≤120) (hkp:∀j∈ks,∃w',IsPts w' j.2 j.1.p.shape) (hkm:∀j∈ks,j.1∈jsP ps) (hok:∀p∈ps,placedOk p=true)
  (hS6:w6.heap[sb]?=N (M (svc ⟨sk,pin,wide,lap,step,run,level⟩ (O ga gn gc) (O pa pn pc1) (O wa wn wc) (O V 0 0) (O V 0 0)) 113 (0,0))) (hp6:w6.heap[sb+1]?=N (M #[C (N ⟨sb,0,V⟩)] 95 (0,0)))
  (hru6:w6.heap[w.heap.size+1]?=N (M #[Y .u8 sk,Y Z pin,Y Z wide,Y Z lap,Y Z step,Y Z run,Y Z level] 35 (0,0))) (zs4:w.heap.size+1<sb)
  (a0:Act) (ha0:Fr2 (w.heap.size+1) sb wa wn wc a0) (hi0:a0.tmps.getD 69 undef=Y Z (0:Nat))
  (hQ:∀a W vj,Fr2 (w.heap.size+1) sb wa wn wc a→w6.grownBy W (N sb)→W.heap[sb]?=N (M (svc ⟨sk,pin,wide,lap,step,run,level⟩ (O ga gn gc) (O pa pn pc1) (O wa wn wc) vj (O V 0 0)) 113 (0,0)) →
   OwnC 75 6 W w6.heap.size vj ((rawP ⟨sk,pin,wide,lap,step,run,level⟩ (ks.map Prod.fst)).map jtc)→Q (.exit 2) a W) :
  (Code.loop (loopAt Tryz.f28 1)).wpIn Fence.wide 5 Tryz.prog Q a0 w6:=by
 have zs6:=zab hp6;have zw6:w.heap.size+1<w6.heap.size:=by omega
 have Hn6:=hd9 hj6.len.symm;have Hj6:=hd9 hj6;have Hkp:=hd9 (fun j hj=>hkp j hj);have Hkm:=hd9 (fun j hj=>hkm j hj);have Hok:=hd9 hok;have HS6:=hd9 hS6;have Hp6:=hd9 hp6;have Hru6:=hd9 hru6;have HQ:=hd9 hQ;clear hj6 hkp hkm hok hS6 hp6 hru6 hQ;unfold loopAt;simp only [Tryz.f28,loopsOf,List.cons_append,List.nil_append,List.append_nil,List.getD_cons_succ,List.getD_cons_zero];refine wpIn_loop_ghost_k (fun gk a W=>By2 w6 sb ⟨sk,pin,wide,lap,step,run,level⟩ (O ga gn gc) (O pa pn pc1) (O wa wn wc) ks gk (a.tmps.getD 69 undef) W∧Fr2 (w.heap.size+1) sb wa wn wc a) wn ?h0 ?round
 case h0=>exact⟨⟨0,_,by omega,hi0,by rw [Hn6.out];rfl,zbk _ _,HS6.out,by simpa using OwnC.nil _ _ _ _⟩,ha0⟩
 case round =>
  clear hi0 ha0;intro gk aa wr hinv;obtain⟨tt,dd⟩:=aa;obtain⟨⟨i,vj,hi,f69,rfl,hgb2,hsv2,hown2⟩,f1,f3,f8,f67,f68,fd⟩:=hinv;dsimp only at f1 f3 f8 f67 f68 fd f69;subst fd;obtain⟨u,hu,ht⟩:=arrU tt 196 f1;simp only [hu]at f3 f8 f67 f68 f69;clear hu;subst ht;simp only [List.range,List.range.loop,List.map_cons,List.map_nil,f3,f8,f67,f68,f69];clear f1 f3 f8 f67 f68 f69;intro J K hJ hK;rw [Hn6.out]at hi;have hsw2:=hgb2.size;have hp2:=(hgb2.block (sb+1) zs6 (by simp)).trans Hp6.out;have hru2:=(hgb2.block (w.heap.size+1) zw6 (by simp;omega)).trans Hru6.out;have pt2:=qcB hp2 (i:=0) (u:=C (N ⟨sb,0,V⟩)) rfl;have zr2:sb+1<wr.heap.size:=by omega
  have zr3:sb<wr.heap.size:=by omega
  have zr4:w.heap.size+1<wr.heap.size:=by omega
  by_cases hlt2:i<wn
  ·obtain⟨⟨⟨⟨nmA,shA,dA,deA,gxA,gzA,wyA,axA,azA,kinA⟩,kA,⟨xlA,xhA⟩,zlA,zhA⟩,vA⟩,hqA⟩:∃q,ks[i]?=N q:=⟨ks[i]'(by rw [Hn6.out];omega),by simp [Hn6.out,hlt2]⟩
   obtain⟨vaA,vnA,vcA,hvA⟩:=(Hkp.out _ (lM hqA)).elim fun _ h=>form3 h
   dsimp only at hvA;subst hvA;have hjw:=Hj6.out.keep (zaM hgb2 HS6.out (by decide));obtain⟨bk,o,e0,hb,hc⟩:=hjw.at' hqA;subst e0;unfold jca at hc;dsimp only at hc;have ccA0:=hc 0 (.string nmA) rfl;have ccA1:=hc 1 (O vaA vnA vcA) rfl;have ccA2:=hc 2 (Y Z dA) rfl;have ccA3:=hc 3 (Y Z deA) rfl;have ccA4:=hc 4 (Y Z gxA) rfl;have ccA5:=hc 5 (Y Z gzA) rfl;have ccA6:=hc 6 (Y Z wyA) rfl;have ccA7:=hc 7 (Y Z axA) rfl;have ccA8:=hc 8 (Y Z azA) rfl;have ccA9:=hc 9 (Y .u8 kinA) rfl;have ccA10:=hc 10 (Y Z kA) rfl;have ccA11:=hc 11 (Y Z xlA) rfl;have ccA12:=hc 12 (Y Z xhA) rfl;have ccA13:=hc 13 (Y Z zlA) rfl;have ccA14:=hc 14 (Y Z zhA) rfl;simp only [Nat.add_zero]at ccA0;have sv92:=qcB hsv2 (i:=9) (u:=O (N ⟨bk,o,V⟩) wn wc) rfl;have svf2:=qfB hsv2;have HqA:=hd9 hqA;have Hgb2:=hd9 hgb2;have Hown2:=hd9 hown2;have Hsv2:=hd9 hsv2;have HmA:=hd9 (Hkm.out _ (lM hqA));clear hc hqA hjw hgb2 hown2 hsv2
   gi_wp2
   have hEA:=(eR wr).alloc (M #[.string nmA,O vaA vnA vcA,Y Z dA,Y Z deA,Y Z gxA,Y Z gzA,Y Z wyA,Y Z axA,Y Z azA,Y .u8 kinA,Y Z kA,Y Z xlA,Y Z xhA,Y Z zlA,Y Z zhA] 127);obtain⟨ba,hba⟩:=gX wr.heap.size;have hba0:=aN wr (M #[.string nmA,O vaA vnA vcA,Y Z dA,Y Z deA,Y Z gxA,Y Z gzA,Y Z wyA,Y Z axA,Y Z azA,Y .u8 kinA,Y Z kA,Y Z xlA,Y Z xhA,Y Z zlA,Y Z zhA] 127);rw [hba]at hba0;rw [hba];have zba:w6.heap.size≤ba:=by omega
   clear ccA0 ccA1 ccA2 ccA3 ccA4 ccA5 ccA6 ccA7 ccA8 ccA9 ccA10 ccA11 ccA12 ccA13 ccA14 pt2 sv92 svf2 hp2 hru2;have HJ:=hd9 hJ
   have hpl:(((ks.take i).map Prod.fst).flatMap (rowP ⟨sk,pin,wide,lap,step,run,level⟩ (ks.map Prod.fst))).length≤14400:=by
    have l1:=zeW (fun a=>zhm ⟨sk,pin,wide,lap,step,run,level⟩ (ks.map Prod.fst) a) ((ks.take i).map Prod.fst);rw [lL,List.length_take,lL,Hn6.out]at l1;have l3:min i wn*wn≤120*120:=Nat.mul_le_mul (by omega) (by omega);omega
   have e2:((ks.take (i+1)).map Prod.fst).flatMap (rowP ⟨sk,pin,wide,lap,step,run,level⟩ (ks.map Prod.fst))=((ks.take i).map Prod.fst).flatMap (rowP ⟨sk,pin,wide,lap,step,run,level⟩ (ks.map Prod.fst))++rowP ⟨sk,pin,wide,lap,step,run,level⟩ (ks.map Prod.fst) ⟨⟨nmA,shA,dA,deA,gxA,gzA,wyA,axA,azA,kinA⟩,kA,(xlA,xhA),zlA,zhA⟩:=by
    rw [zaa _ _ _ HqA.out,List.map_append,List.flatMap_append];simp
   have E2:=hd9 e2;clear e2
   refine zlm _ w w6 _ sb ba sk pin wide lap step run level ga gn gc pa pn pc1 bk o wn wc ks ps _ _ (O (N ⟨bk,o,V⟩) wn wc) (Y Z wn) (Y Z (i:Nat)) _ nmA shA dA deA gxA gzA wyA axA azA kinA kA xlA xhA zlA zhA vaA vnA vcA Hj6.out hnc6 Hkp.out Hkm.out Hok.out HmA.out HS6.out Hp6.out Hru6.out zs4 zba hpl _ ⟨rfl,rfl,rfl,rfl,rfl,rfl,rfl,rfl,rfl,rfl⟩
    ⟨0,vj,by omega,rfl,by rw [Hn6.out];rfl,zau Hgb2.out (Below.mono hEA hsw2),hEA.heapS Hsv2.out,hba0,by simpa using Hown2.out.ext hEA⟩ (fun a W vj3 hfr hgb3 hsv3 hown3=>?_)
   obtain⟨tt,dd⟩:=a;obtain⟨f1,f3,f8,f12,f67,f68,f69,f76,f77,fd⟩:=hfr;dsimp only at f1 f3 f8 f12 f67 f68 f69 f76 f77 fd;subst fd;obtain⟨p78,f78⟩:=gX (tt.getD 78 undef);obtain⟨u2,hu,ht⟩:=arrU tt 196 f1;simp only [hu]at f3 f8 f12 f67 f68 f69 f76 f77 f78;clear hu;subst ht;simp only [List.range,List.range.loop,List.map_cons,List.map_nil,f3,f8,f12,f67,f68,f69,f76,f77,f78];have Hgb3:=hd9 hgb3;have Hsv3:=hd9 hsv3;have Hown3:=hd9 hown3;clear f1 f3 f8 f12 f67 f68 f69 f76 f77 f78 hgb3 hsv3 hown3
   gi_wp2
   refine Handed.intro (wn-(i+1)) (by have:=Hn6.out;omega) (HJ.out _ _ _ ⟨⟨i+1,vj3,by have:=Hn6.out;omega,?_,by rw [Hn6.out],Hgb3.out,Hsv3.out,by rw [E2.out];exact Hown3.out⟩,rfl,rfl,rfl,rfl,rfl,rfl⟩)
   show (_:A)=_
   go_num
  ·obtain rfl:wn=i:=by omega
   have e:ks.take wn=ks:=lT (by rw [Hn6.out];exact nE _);rw [e]at hown2;have Hgb2:=hd9 hgb2;have Hsv2:=hd9 hsv2;have Hown2:=hd9 hown2;clear e hgb2 hsv2 hown2 hp2 hru2
   gi_wp2
   exact HQ.out _ _ _ ⟨rfl,rfl,rfl,rfl,rfl,rfl⟩ Hgb2.out Hsv2.out Hown2.out
theorem zln (Q:Exit→Act→I→Prop) (w7:I) (sb:Nat) (sk pin wide lap step run level:Int) (ga:Option Addr) (gn gc:Nat) (pa:Option Addr) (pn pc1:Nat) (wa:Option Addr) (wn wc:Nat) (qa:Option Addr) (qn qc:Nat) (L:List Jt)
  (hjL:IsJts w7 (O qa qn qc) L) (hncL:qn≤14400) (hLb:∀j∈L,BJt j)
  (hS7:w7.heap[sb]?=N (M (svc ⟨sk,pin,wide,lap,step,run,level⟩ (O ga gn gc) (O pa pn pc1) (O wa wn wc) (O qa qn qc) (O V 0 0)) 113 (0,0))) (hp7:w7.heap[sb+1]?=N (M #[C (N ⟨sb,0,V⟩)] 95 (0,0)))
  (a0:Act) (ha0:a0.tmps.size=196∧a0.tmps.getD 8 undef=C (N ⟨sb+1,0,V⟩)∧a0.tmps.getD 162 undef=O qa qn qc∧a0.tmps.getD 163 undef=Y Z qn) (hi0:a0.tmps.getD 164 undef=Y Z (0:Nat)) (hd0:a0.defers=marks [])
  (hQ:∀a W vr Ds,(a.tmps.size=196∧a.tmps.getD 8 undef=C (N ⟨sb+1,0,V⟩))→a.defers=marks Ds→w7.grownBy W (N sb)→W.heap[sb]?=N (M (svc ⟨sk,pin,wide,lap,step,run,level⟩ (O ga gn gc) (O pa pn pc1) (O wa wn wc) (O qa qn qc) vr) 113 (0,0)) →
   OwnC 3 1 W w7.heap.size vr ((rootsP ⟨sk,pin,wide,lap,step,run,level⟩ L L.length).map ic)→Marked W Ds→(∀D∈Ds,w7.heap.size≤D)→Q (.exit 6) a W) :
  (Code.loop (loopAt Tryz.f28 3)).wpIn Fence.wide 5 Tryz.prog Q a0 w7:=by
 have zs7:=zab hp7;have HnL:=hd9 hjL.len.symm;have HjL:=hd9 hjL;have HLb:=hd9 hLb;have Hsv7:=hd9 hS7;have Hp7:=hd9 hp7;have HQ:=hd9 hQ;clear hjL hLb hS7 hp7 hQ;unfold loopAt;simp only [Tryz.f28,loopsOf,List.cons_append,List.nil_append,List.append_nil,List.getD_cons_succ,List.getD_cons_zero];refine wpIn_loop_ghost_k (By4I w7 sb ⟨sk,pin,wide,lap,step,run,level⟩ (O ga gn gc) (O pa pn pc1) (O wa wn wc) (O qa qn qc) qa qn qc L) qn ?h0 ?round
 case h0=>exact⟨⟨0,_,[],by omega,hi0,by rw [HnL.out];rfl,zbk _ _,Hsv7.out,by simpa [rootsP] using OwnC.nil _ _ _ _,hd0,Marked.nil _,fun D hD=>by cases hD⟩,ha0⟩
 case round =>
  intro gk aa wr hinv;obtain⟨tt,dd⟩:=aa;obtain⟨⟨i,vr,Ds,hi,f164,rfl,hgb3,hsv3,hown3,hdd,hmk,hDs⟩,f1,f2,f3,f4⟩:=hinv;dsimp only at f1 f2 f3 f4 f164 hdd;subst hdd;obtain⟨u,hu,ht⟩:=arrU tt 196 f1;simp only [hu]at f2 f3 f4 f164;clear hu;subst ht;simp only [List.range,List.range.loop,List.map_cons,List.map_nil,f2,f3,f4,f164];clear f1 f2 f3 f4 f164;intro J K hJ hK;rw [HnL.out]at hi;have hsw3:=hgb3.size;have hp3:=(hgb3.block (sb+1) zs7 (by simp)).trans Hp7.out;have pt3:=qcB hp3 (i:=0) (u:=C (N ⟨sb,0,V⟩)) rfl;have zt2:sb+1<wr.heap.size:=by omega
  have zt3:sb<wr.heap.size:=by omega
  have zt6:sb+1<wr.heap.size+1:=by omega
  have zt7:sb<wr.heap.size+1:=by omega
  have zt8:sb+1<wr.heap.size+1+1:=by omega
  have zt9:sb<wr.heap.size+1+1:=by omega
  obtain⟨ra,rn,rc,rfl⟩:=hown3.form3
  by_cases hlt4:i<qn
  ·obtain⟨⟨ja,jb,jl,jr,jf,jt⟩,hqJ⟩:∃q,L[i]?=N q:=⟨L[i]'(by rw [HnL.out];omega),by simp [HnL.out,hlt4]⟩
   have hjw:=HjL.out.keep (zaM hgb3 Hsv7.out (by decide));obtain⟨bk,o,e0,hb,hc⟩:=hjw.at' hqJ;subst e0;unfold jta at hc;dsimp only at hc;have cc0:=hc 0 (Y Z ja) rfl;have cc1:=hc 1 (Y Z jb) rfl;have cc2:=hc 2 (Y Z jl) rfl;have cc3:=hc 3 (Y Z jr) rfl;have cc4:=hc 4 (Y Z jf) rfl;have cc5:=hc 5 (Y Z jt) rfl;simp only [Nat.add_zero]at cc0;have HqJ:=hd9 hqJ;have Hjw:=hd9 hjw;have Hgb3:=hd9 hgb3;have Hsv3:=hd9 hsv3;have Hown3:=hd9 hown3;have Hmk:=hd9 hmk;have HDs:=hd9 hDs;clear hc hqJ hjw hgb3 hsv3 hown3 hmk hDs
   gi_wp2_with(refine⟨trivial,?_⟩;gi_at_call 37;refine(callsIn_wide.2 (zhE _ sb i)).mono ?_;rintro e w' ⟨rfl,rfl⟩)
   obtain⟨W9,hW9⟩:=gX (((((wr.alloc (M #[Y Z ja,Y Z jb,Y Z jl,Y Z jr,Y Z jf,Y Z jt] 75)).alloc (M #[Y Z jf] 3)).alloc (M #[C (N ⟨sb,0,V⟩)] 95)).alloc (M #[Y Z i] 3)));have hx9:Ext wr W9:=by rw [←hW9];exact((((eR wr).alloc _).alloc _).alloc _).alloc _
   have hs9:W9.heap.size=wr.heap.size+1+1+1+1:=by rw [←hW9];simp
   have hr9:W9.heap[wr.heap.size+1]?=N (M #[Y Z jf] 3 (0,0)):=by rw [←hW9];exact(((eR _).alloc _).alloc _).heapS (zbT wr _ _)
   have hb9:W9.heap[wr.heap.size+1+1]?=N (M #[C (N ⟨sb,0,V⟩)] 95 (0,0)):=by rw [←hW9];exact((eR _).alloc _).heapS (qhA _ _ _ (by simp))
   have hk9:W9.heap[wr.heap.size+1+1+1]?=N (M #[Y Z i] 3 (0,0)):=by rw [←hW9];exact qhA _ _ _ (by simp)
   rw [hW9];clear hW9 cc0 cc1 cc2 cc3 cc4 cc5
   refine wpIn_rangeFunc_ownH rfl (by decide) (gf:=75) (lb:=#[C (N ⟨wr.heap.size+1+1+1,0,V⟩),C (N ⟨wr.heap.size+1+1,0,V⟩)]) rfl trivial (enters_of Tryz.func75 (by kernel_rfl) rfl)
    (ziZ _ (by decide) (wr.heap.size+1+1) wr W9 sb ⟨sk,pin,wide,lap,step,run,level⟩ (O ga gn gc) (O pa pn pc1) (O wa wn wc) (O (N ⟨bk,o,V⟩) qn qc) (O ra rn rc) L i (by rw [HnL.out];exact hlt4) HLb.out Hsv3.out Hjw.out hb9 hk9 hx9) KpQ.trans (KpQ.put (by omega) (by omega)) (Below.refl _ _) (fun _=>rfl)
    (ByI wr (rootsP ⟨sk,pin,wide,lap,step,run,level⟩ L i) jf i) (fun _ _ _=>False) (zag (fun s W h=>by have:=h.2.1;omega) (fun s W W' h k=>⟨k.ext h.1 (by omega),nT h.2.1 k.size,k.heap h.2.2⟩)) (fun c=>zag (fun s W h=>h.elim) (fun _ _ _ h _=>h.elim)) ⟨hx9,by omega,hr9⟩
    (fun x a' _=>By4A sb wr.heap.size x.1 a') (fun x a'=>ownFrom_pure _ (fun _=>By4A sb wr.heap.size x.1 a')) ?assign ?body ?done ?stop
   case assign =>
    rintro l pre x W K hI hK
    gi_wp2
    refine hK _ _ (KeepsFrom.refl _ _) (KpQ.refl _ _ _) hI ⟨rfl,rfl,rfl,rfl,rfl⟩
   case stop =>
    rintro D c pre W hD hpre hf hK;exact hf.elim
   case body =>
    rintro l pre x a' W hl ⟨rr,hr⟩ hI hA hlt;obtain⟨tt,dd⟩:=a';obtain⟨g1,g2,g3,g4,g5⟩:=hA;dsimp only at g1 g2 g3 g4 g5;subst g5;obtain⟨v,hu,ht⟩:=arrU tt 196 g1;simp only [hu]at g2 g3 g4;clear hu;subst ht;simp only [List.range,List.range.loop,List.map_cons,List.map_nil,g2,g3,g4];clear g1 g2 g3 g4;obtain⟨x,hxi⟩:=x;obtain⟨h1,h2,h3⟩:=hI;obtain⟨cur,hcur⟩:=gX ((pre.map (·.1)).foldl (fun o y=>min o ((rootsP ⟨sk,pin,wide,lap,step,run,level⟩ L i).getD y 0)) jf);have hcur':=hcur;rw [hcur]at h3;have his:=Hown3.out.is.ext' h1;obtain⟨q,hq⟩:∃q,(rootsP ⟨sk,pin,wide,lap,step,run,level⟩ L i)[x]?=N q:=⟨(rootsP ⟨sk,pin,wide,lap,step,run,level⟩ L i)[x]'(by rw [zaT];exact hxi),by simp⟩;obtain⟨b',o',e',hb',dq⟩:=his.at' hq;obtain⟨b2,o2,e2,hb2,_⟩:=Hown3.out.is.at' hq;subst e'
    cases e2
    have pt9:=h1.cellS pt3;have hsv9:=h1.heapS Hsv3.out;have sv9:=qcB hsv9 (i:=11) (u:=O (N ⟨b',o',V⟩) rn rc) rfl;have rt9:=qcB h3 (i:=0) (u:=Y Z cur) rfl;have rtf:=qfB h3
    have hrn:rn=i:=by
     have h8:=Hown3.out.len;rw [lL,zaT]at h8;exact h8
    have hgq:(rootsP ⟨sk,pin,wide,lap,step,run,level⟩ L i).getD x 0=q:=by rw [gD,hq];rfl
    have hres:((pre++[(⟨x,hxi⟩:{x:Nat // x<i})]).map (fun y=>y.1)).foldl (fun o y=>min o ((rootsP ⟨sk,pin,wide,lap,step,run,level⟩ L i).getD y 0)) jf=min cur q:=by
     rw [List.map_append,List.foldl_append,hcur'];simp only [List.map_cons,List.map_nil,List.foldl_cons,List.foldl_nil,hgq]
    have Hres:=hd9 hres;have zw:=h1.size;have p1:(0:Int)≤(x:Int):=by omega
    have p2:(x:Int)<(rn:Int):=by omega
    have p3:x<rn:=by omega
    have H3:=hd9 h3;have H1:=hd9 h1
    have Hne:=hd9 (show ∀e∈[((⟨sb+1,0,V⟩:Addr),Value.pointer (N ⟨sb,0,V⟩)),(⟨sb,11,V⟩,O (N ⟨b',o',V⟩) rn rc),(⟨b',o'+x,V⟩,Y Z q)],(⟨wr.heap.size+1,0,V⟩:Addr).block≠e.1.block from fun e he h=>by
     simp at he
     rcases he with rfl|rfl|rfl<;>(dsimp only at h;omega))
    clear hcur hcur' his hq hgq hres hrn h3
    gi_wp2
    refine zai (S:=CellL [(⟨sb+1,0,V⟩,C (N ⟨sb,0,V⟩)),(⟨sb,11,V⟩,O (N ⟨b',o',V⟩) rn rc),(⟨b',o'+x,V⟩,Y Z q)]) (by kernel_rfl) (by kernel_rfl) ?_ (fun h9H=>?_)
    ·exact cA
    refine sN 1 ?_
    iterate 7
     refine tkn ?_
    refine oN ?_;refine cl1 (i:=0) fun K hK=>?_
    go_simp;refine kO hK h9H (fun h9H=>?_);clear hK K;refine cl1 (i:=8) fun K hK=>?_
    go_simp;refine kO hK h9H (fun h9H=>?_);clear hK K;refine cl1 (i:=9) fun K hK=>?_
    go_simp;refine kO hK (CellL.set h9H Hne.out _) (fun h9H=>?_);clear hK K;refine wpAnyH_done (by kernel_rfl) ?_ _;unfold NQ;have X9:Ext wr W.drew:=H1.out.drew
    have hfin:ByI wr (rootsP ⟨sk,pin,wide,lap,step,run,level⟩ L i) jf i (pre++[⟨x,hxi⟩]) (W.drew.setCell ⟨wr.heap.size+1,0,V⟩ (Y Z (min cur q))):=by
     refine⟨X9.set (by dsimp only;omega) _,by simp only [qcZ];exact h2,?_⟩;rw [Hres.out];exact zbh (W:=W.drew) H3.out 0 (Y Z (min cur q))
    have hkp:KpQ wr (wr.heap.size+1+1) W (W.drew.setCell ⟨wr.heap.size+1,0,V⟩ (Y Z (min cur q))):=
     (((KpQ.refl wr (wr.heap.size+1+1) W).ext ((eR W).drew) H1.out.size (by omega)).set (by dsimp only;omega) (by dsimp only;omega) (by dsimp only;omega) _)
    have hkf:KeepsFrom W9.heap.size W (W.drew.setCell ⟨wr.heap.size+1,0,V⟩ (Y Z (min cur q))):=(zak ((eR W).drew)).trans ((KeepsOthers.setCell _ _ _).from _)
    gi_wp2
    exact⟨hkf,hkp,hfin⟩
   case done =>
    rintro D ys W hD hys ⟨h1,h2,h3⟩ hKD;rw [hys]at h3;obtain⟨rt,hrt⟩:=gX ((befL ⟨sk,pin,wide,lap,step,run,level⟩ L i).foldl (fun o j=>min o ((rootsP ⟨sk,pin,wide,lap,step,run,level⟩ L i).getD j 0)) jf);rw [hrt]at h3;have pt9:=h1.cellS pt3;have hsv9:=h1.heapS Hsv3.out;have sv9:=qcB hsv9 (i:=11) (u:=O ra rn rc) rfl;have rt9:=qcB h3 (i:=0) (u:=Y Z rt) rfl;have Hlt9:=hd9 (fun j (h:(Value.slice ra rn rc).ownBlock=N j)=>Hown3.out.lt j h);have hroots:rootsP ⟨sk,pin,wide,lap,step,run,level⟩ L (i+1)=rootsP ⟨sk,pin,wide,lap,step,run,level⟩ L i++[rt]:=by rw [rootsP,HqJ.out];dsimp only;unfold rootP;rw [hrt]
    have Hroots:=hd9 hroots;have zw:=h1.size;have zw2:sb+1<W.heap.size:=by omega
    have zw3:sb<W.heap.size:=by omega
    have zw4:wr.heap.size+1<W.heap.size:=by omega
    clear hroots hrt hys
    gi_wp2
    refine zaQ (fun i=>decide (9<i)) (CellL [(⟨sb+1,0,V⟩,C (N ⟨sb,0,V⟩)),(⟨sb,11,V⟩,O ra rn rc),(⟨wr.heap.size+1,0,V⟩,Y Z rt)]) (by kernel_rfl) ?_ (fun h9H=>?_)
    ·exact cA
    refine sN 0 ?_
    iterate 6
     refine tin ?_
    refine oN ?_;refine ci1 (i:=6) fun K hK=>?_
    go_simp;refine kO hK (fun _=>cE h9H ((eR _).alloc _)) (fun h9H=>?_);clear hK K;have h9H:=h9H rfl;have hA:Ext wr ((W.alloc (M #[Y Z rt] 3)).drew):=(h1.alloc _).drew;refine ci1 (i:=7) fun K hK=>?_
    refine zcj (T:=3) (t:=36) (z:=Y Z 0) (k:=1) (bytes:=8) (v:=O ra rn rc) (base:=w7.heap.size) zcO rfl (by decide) (by decide) Tryz.underlying36 rfl _ _ rfl rfl (Hown3.out.ext hA) (ad:=⟨W.heap.size,0,V⟩) (m:=1) (c:=1) rfl [(#[Y Z rt]:Array A).toList] rfl (by simp) (by exact zaE W #[Y Z rt] 3) (by simp [Value.oneCell']) (by rw [lL,zaT];omega) (by have:=hA.size;omega) ?_;intro v' w9 hown9 hgrow hlie;obtain⟨a9,n9,c9,rfl⟩:=hown9.form3;refine kO hK (fun _=>CellL.grown h9H hgrow (fun q hq e=>?_)) (fun h9H=>?_)
    ·have h9:=Hlt9.out _ e.symm
     simp at hq;have h8:∀r,(Value.slice ra rn rc).ownBlock=N r→r≠wr.heap.size+1:=fun r hr=>by have:=(Hlt9.out r hr).2;omega
     rcases hq with rfl|rfl|rfl
     ·dsimp only at h9;omega
     ·dsimp only at h9;omega
     ·exact h8 _ e.symm rfl
    clear hK K;have h9H:=h9H rfl;refine sN 8 ?_
    iterate 2
     refine tin ?_
    refine oN ?_;have hK9:=zac hgrow (hA.heapS Hsv3.out) (fun e=>by have:=(Hlt9.out _ e.symm).1;omega);have n1:=qcB hK9 (i:=11) (u:=O ra rn rc) rfl;have nf:=qfB hK9
    have hmk9:Marked w9 (D::Ds):=(((Hmk.out.ext h1).cons hKD (fun hin=>by have:=zab (Hmk.out.2 D hin);omega)).ext (((eR W).alloc _).drew)).grown hgrow (fun r hr=>by
     rcases(Hown3.out.ext hA).2.2 with ⟨q1,_⟩|⟨g,cap,cur,hv,_,hh,_⟩
     ·rw [q1]at hr;cases hr
     ·rw [hv]at hr;cases hr;exact⟨_,_,_,hh⟩)
    have Hmk9:=hd9 hmk9;clear hmk9;refine ci1 (i:=10) fun K hK=>?_
    go_simp;refine kO hK (fun h=>nomatch h) (fun h9H=>?_);clear hK K;refine doneHI (by kernel_rfl) ?_ _;unfold NQ
    gi_wp2
    refine Handed.intro (qn-(i+1)) (by have:=HnL.out;omega) (hJ _ _ _ ⟨⟨i+1,O a9 n9 c9,D::Ds,by have:=HnL.out;omega,?_,by rw [HnL.out],zaK (zau Hgb3.out ((Below.mono hA hsw3).trans (zad (base:=w7.heap.size) hgrow (nT hsw3 hA.size) (fun k hk=>(Hlt9.out k hk).1)))) 11 _,zbh hK9 11 _,?_,rfl,Hmk9.out.set hK9 _,?_⟩,rfl,rfl,rfl,rfl⟩)
    ·show (_:A)=_
     go_num
    ·rw [Hroots.out,List.map_append]
     exact hown9.setOther (fun e=>by have:=(hown9.lt _ e).1;dsimp only at this;omega) _
    ·intro E hE
     rcases List.mem_cons.1 hE with rfl|hE
     ·omega
     ·exact HDs.out E hE
  ·obtain rfl:qn=i:=by omega
   have Hgb3:=hd9 hgb3;have Hsv3:=hd9 hsv3;have Hown3:=hd9 hown3;have Hmk:=hd9 hmk;have HDs:=hd9 hDs;clear hgb3 hsv3 hown3 hmk hDs hp3
   gi_wp2
   exact HQ.out _ _ _ Ds ⟨rfl,rfl⟩ rfl Hgb3.out Hsv3.out (by rw [HnL.out];exact Hown3.out) Hmk.out HDs.out
theorem zpf (w:I) (vg vp:A) (g:List (Int×Int)) (ps:List Pl) (r:Ru) (hg:IsPts w vg g) (hp:IsPls w vp ps) (hgw:Gw w) (h0:laidP g ps=0) (hr0:rulesE r=0) :
  Calls Tryz.prog 28 #[U #[vg,vp],U (ruc r)] w (RetBy w vg vp g ps r):=by
 obtain⟨hok,hn9,hgb⟩:=zal h0;have HC:=hd9 (fun W (hW:Ext w W)=>zbf W vg vp g ps (hg.ext' hW) (hp.ext' hW) (hgw.ext hW));have HS:=hd9 (fun W (hW:Ext w W)=>zeM W vg vp ps (form3 hg) (hp.ext' hW) (hgw.ext hW) hok hn9);have HU:=hd9 (fun W=>zfQ W r);obtain⟨ga,gn,gc,rfl⟩:=form3 hg;obtain⟨pa,pn,pc1,rfl⟩:=form3 hp;obtain⟨R,hR⟩:=gX (RetBy w (O ga gn gc) (O pa pn pc1) g ps r);rw [hR];have HR:=hd9 hR;have he:byE g ps r=0:=by unfold byE;rw [if_pos h0,hr0]
 rw [h0]at HC;rw [hr0]at HU;have HE:=hd9 he;have Hok:=hd9 hok;have Hn9:=hd9 hn9;obtain⟨sk,pin,wide,lap,step,run,level⟩:=r;unfold ruc at HU ⊢;dsimp only at HU;clear hg hp hgw hR he hok hn9 hgb h0 hr0;refine(callsIn_wide (n:=5)).1 ?_;refine callsIn_of_wp_marks Tryz.func28 rfl trivial ?_ rfl;simp only [Tryz.ntmps28,List.size_toArray,List.length_cons,List.length_nil,Nat.reduceAdd,Nat.reduceSub,Array.replicate_succ,Array.replicate_zero,List.push_toArray,List.append_toArray,List.nil_append,List.cons_append]
 gi_wp2_with(first|(refine⟨trivial,?_⟩;gi_at_call 40;(refine(callsIn_wide.2 (HC.out _ ?_)).mono ?_);exact eA;rintro e w3 ⟨rfl,hx3⟩;obtain⟨hc3,hf3⟩:=hx3.cells;(have z3:=hx3.size);(simp only [wZ]at z3);(have y0:w.heap.size<w3.heap.size:=(by omega));(have y1:w.heap.size+1<w3.heap.size:=(by omega)))|(refine⟨trivial,?_⟩;gi_at_call 51;refine(callsIn_wide.2 (HU.out _)).mono ?_;rintro e w4 ⟨rfl,hx4⟩;obtain⟨hc4,hf4⟩:=hx4.cells;(have z4:=hx4.size);(have y2:w.heap.size<w4.heap.size:=(by omega));(have y3:w.heap.size+1<w4.heap.size:=(by omega))))
 refine⟨trivial,(callsIn_wide.2 (HS.out _ ?_)).mono ?_⟩
 ·exact eA
 rintro e w5 ⟨v5,js,rfl,hown5,hjs,hjv,hx5⟩;obtain⟨a5,n5,k5,rfl⟩:=hown5.form3;have K0:=hx5.heapS (((eR w4).alloc (M #[Y .u8 sk,Y Z pin,Y Z wide,Y Z lap,Y Z step,Y Z run,Y Z level,O ga gn gc,O pa pn pc1,O V 0 0,O V 0 0,O V 0 0] 113)).alloc (M #[C (N ⟨w4.heap.size,0,V⟩)] 95) |>.heapS (hx4.heapS (hx3.heapS (zbT w (M #[O ga gn gc,O pa pn pc1] 33) (M #[Y .u8 sk,Y Z pin,Y Z wide,Y Z lap,Y Z step,Y Z run,Y Z level] 35)))));have K1:=hx5.heapS (zfv w4 (M #[Y .u8 sk,Y Z pin,Y Z wide,Y Z lap,Y Z step,Y Z run,Y Z level,O ga gn gc,O pa pn pc1,O V 0 0,O V 0 0,O V 0 0] 113) (M #[C (N ⟨w4.heap.size,0,V⟩)] 95));have K2:=hx5.heapS (zbT w4 (M #[Y .u8 sk,Y Z pin,Y Z wide,Y Z lap,Y Z step,Y Z run,Y Z level,O ga gn gc,O pa pn pc1,O V 0 0,O V 0 0,O V 0 0] 113) (M #[C (N ⟨w4.heap.size,0,V⟩)] 95));obtain⟨sb,hsb⟩:=gX w4.heap.size;have X4:Ext w w4:=eA;have X5:Ext w4 w5:=eA;have zs4:w.heap.size+1<sb:=by omega
 have zs5:=zab K2;rw [hsb]at K1 K2 zs5;have hn5:=hown5.js.len;have hj5:=hown5.js;have hmx:=hj5.le;have Hn:=hd9 hn5.symm;have hnc:n5≤9223372036854775807:=by unfold maxLen at hmx;omega
 have hn120:n5≤120:=by
  have h9:=congrArg List.length hjs;have h8:=Hn9.out;rw [lL,zbC]at h9;omega
 have Hj5:=hd9 hj5;have Hjs:=hd9 hjs;have Hjv:=hd9 hjv;have hjv5:∀j∈js,IsPts w5 j.2 j.1.p.shape:=fun j hj=>(hjv j hj).ext' hx5
 have Hjv5:=hd9 hjv5;have HK0:=hd9 K0;have HK1:=hd9 K1;have HK2:=hd9 K2;have HX4:=hd9 X4;have HX5:=hd9 X5;have Hsb:=hd9 hsb;have Hn120:=hd9 hn120;clear hown5 hj5 hjs hjv hjv5 hx5 hx3 hx4 hc3 hf3 hc4 hf4 K0 K1 K2 X4 X5 hn5 hmx HC HS HU;rw [hsb];clear hsb
 gi_wp2
 refine zlk _ w w5 sb sk pin wide lap step run level ga gn gc pa pn pc1 a5 n5 k5 js Hj5.out hn120 (fun j hj=>⟨_,Hjv5.out j hj⟩) HK0.out HK1.out HK2.out zs4 _ ⟨rfl,rfl,rfl,rfl,rfl,rfl⟩ rfl (fun a w6 vs hfr hgb hsv hown=>?_);obtain⟨tt,dd⟩:=a;obtain⟨f1,f3,f8,f35,f36,fd⟩:=hfr;dsimp only at f1 f3 f8 f35 f36 fd;subst fd;obtain⟨p37,f37⟩:=gX (tt.getD 37 undef);obtain⟨u,hu,ht⟩:=arrU tt 196 f1;simp only [hu]at f3 f8 f35 f36 f37;clear hu;subst ht;simp only [List.range,List.range.loop,List.map_cons,List.map_nil,f3,f8,f35,f36,f37];clear f1 f3 f8 f35 f36 f37;have hsw:=hgb.size;have hp0:=(hgb.block (sb+1) zs5 (by simp)).trans HK2.out;have hru:=(hgb.block (w.heap.size+1) (by omega) (by simp;omega)).trans HK0.out;have pt0:=qcB hp0 (i:=0) (u:=C (N ⟨sb,0,V⟩)) rfl;obtain⟨ks,hks⟩:=gX ((js.filter fun j=>inB ⟨sk,pin,wide,lap,step,run,level⟩ j.1));rw [hks]at hown
 have hskin:ks.map Prod.fst=skinP ⟨sk,pin,wide,lap,step,run,level⟩ ps:=by
  unfold skinP;rw [←hks,←Hjs.out,List.filter_map];rfl
 have hkp:∀j∈ks,IsPts w5 j.2 j.1.p.shape:=fun j hj=>Hjv5.out j (by rw [←hks]at hj;exact(List.mem_filter.1 hj).1)
 have hkm:∀j∈ks,j.1∈jsP ps:=fun j hj=>by
  rw [←Hjs.out];rw [←hks]at hj;exact List.mem_map_of_mem (List.mem_filter.1 hj).1
 have hkl:ks.length≤120:=by
  have:=List.length_filter_le (fun j:JS×A=>inB ⟨sk,pin,wide,lap,step,run,level⟩ j.1) js;rw [hks]at this;have:=Hn120.out;have:=Hn.out;omega
 obtain⟨wa,wn,wc,rfl⟩:=hown.form3;have hj6:=hown.js;have hn6:=hj6.len;have hnc6:wn≤120:=by omega
 have Hn6:=hd9 hn6.symm;have Hj6:=hd9 hj6;have Hskin:=hd9 hskin;have Hkp:=hd9 hkp;have Hkm:=hd9 hkm;have sv9:=qcB hsv (i:=9) (u:=O wa wn wc) rfl;have Hgb:=hd9 hgb;have HS6:=hd9 hsv;have Hp6:=hd9 hp0;have Hru6:=hd9 hru;have zs6:=zab hp0;clear hown hskin hkp hkm hks hj6 hn6 hkl hru hp0 hgb hsv
 gi_wp2
 refine zll _ w w6 sb sk pin wide lap step run level ga gn gc pa pn pc1 wa wn wc ks ps Hj6.out hnc6 (fun j hj=>⟨_,Hkp.out j hj⟩) Hkm.out Hok.out HS6.out Hp6.out Hru6.out zs4 _ ⟨rfl,rfl,rfl,rfl,rfl,rfl⟩ rfl (fun a wr vj hfr hgb2 hsv2 hown2=>?_);obtain⟨tt,dd⟩:=a;obtain⟨f1,f3,f8,f67,f68,fd⟩:=hfr;dsimp only at f1 f3 f8 f67 f68 fd;subst fd;obtain⟨p69,f69⟩:=gX (tt.getD 69 undef);obtain⟨u2,hu,ht⟩:=arrU tt 196 f1;simp only [hu]at f3 f8 f67 f68 f69;clear hu;subst ht;simp only [List.range,List.range.loop,List.map_cons,List.map_nil,f3,f8,f67,f68,f69];clear f1 f3 f8 f67 f68 f69;obtain⟨raw,hraw⟩:=gX (rawP ⟨sk,pin,wide,lap,step,run,level⟩ (ks.map Prod.fst));rw [hraw]at hown2;have hraw2:rawP ⟨sk,pin,wide,lap,step,run,level⟩ (skinP ⟨sk,pin,wide,lap,step,run,level⟩ ps)=raw:=by rw [←Hskin.out];exact hraw
 have hrb:∀j∈raw,BJt j:=fun j hj=>by
  rw [←hraw]at hj;obtain⟨a,ha,hj⟩:=List.mem_flatMap.1 hj;obtain⟨b,hb,rfl⟩:=List.mem_map.1 hj;obtain⟨qa,hqa,rfl⟩:=List.mem_map.1 ha;obtain⟨qb,hqb,rfl⟩:=List.mem_map.1 (List.mem_filter.1 hb).1;exact zjX Hok.out Hn9.out (Hkm.out _ hqa) (Hkm.out _ hqb)
 have hrl:raw.length≤14400:=by
  have l1:=zeW (fun a=>zhm ⟨sk,pin,wide,lap,step,run,level⟩ (ks.map Prod.fst) a) (ks.map Prod.fst);rw [show (ks.map Prod.fst).flatMap (fun a=>rowP ⟨sk,pin,wide,lap,step,run,level⟩ (ks.map Prod.fst) a)=raw from hraw,lL,Hn6.out]at l1;have l3:wn*wn≤120*120:=Nat.mul_le_mul (by omega) (by omega);omega
 obtain⟨qa,qn,qc,rfl⟩:=hown2.form3;have hsw2:=hgb2.size;have hp2':=(hgb2.block (sb+1) zs6 (by simp)).trans Hp6.out;have pt2:=qcB hp2' (i:=0) (u:=C (N ⟨sb,0,V⟩)) rfl;have sv10:=qcB hsv2 (i:=10) (u:=O qa qn qc) rfl;have Hraw2:=hd9 hraw2;have Hrb:=hd9 hrb;have Hrl:=hd9 hrl;have Hgb2:=hd9 hgb2;have Hsv2:=hd9 hsv2;have Hown2:=hd9 hown2;have HST:=hd9 (zkM wr w6.heap.size (O qa qn qc) raw hown2 hrb (by omega));clear hraw hraw2 hrb hrl hgb2 hsv2 hown2
 gi_wp2_with(refine⟨trivial,?_⟩;gi_at_call 53;refine(callsIn_wide.2 HST.out).mono ?_;rintro e w7 ⟨rfl,L,hperm,hord,hownL,hgL⟩;(have hsv7:=zac hgL Hsv2.out (fun e=>by have:=(Hown2.out.lt _ e.symm).1;omega));(have hp7:=zac hgL hp2' (fun e=>by have:=(Hown2.out.lt _ e.symm).1;omega));(have sv7:=qcB hsv7 (i:=10) (u:=O qa qn qc) rfl);(have pt7:=qcB hp7 (i:=0) (u:=C (N ⟨sb,0,V⟩)) rfl))
 have hnL:=hownL.len;rw [lL]at hnL;have hjL:=hownL.jts;have hLb:∀j∈L,BJt j:=fun j hj=>Hrb.out j (hperm.mem_iff.1 hj)
 have hLl:L.length≤14400:=by rw [hperm.length_eq];exact Hrl.out
 have hncL:qn≤14400:=by rw [hnL];exact hLl
 have hx7:w6.grownBy w7 (N sb):=zau Hgb2.out (zad (base:=w6.heap.size) hgL (by omega) (fun k hk=>(Hown2.out.lt k hk).1));refine zln _ w7 sb sk pin wide lap step run level ga gn gc pa pn pc1 wa wn wc qa qn qc L hjL hncL hLb hsv7 hp7 _ ⟨rfl,rfl,rfl,rfl⟩ rfl rfl (fun a wz vr Ds hfr hdd hgb3 hsv3 hown3 hmk hDs=>?_);obtain⟨tt,dd⟩:=a;obtain⟨f1,f8⟩:=hfr;dsimp only at f1 f8 hdd;subst hdd;obtain⟨p162,f162⟩:=gX (tt.getD 162 undef);obtain⟨p163,f163⟩:=gX (tt.getD 163 undef);obtain⟨p164,f164⟩:=gX (tt.getD 164 undef);obtain⟨u3,hu,ht⟩:=arrU tt 196 f1;simp only [hu]at f8 f162 f163 f164;clear hu;subst ht;simp only [List.range,List.range.loop,List.map_cons,List.map_nil,f8,f162,f163,f164];clear f1 f8 f162 f163 f164;have hpz:=(hgb3.block (sb+1) (zab hp7) (by simp)).trans hp7;have ptz:=qcB hpz (i:=0) (u:=C (N ⟨sb,0,V⟩)) rfl;have hSvP:SvP ⟨sk,pin,wide,lap,step,run,level⟩ ps ks L (rootsP ⟨sk,pin,wide,lap,step,run,level⟩ L L.length):=⟨Hskin.out,by rw [Hraw2.out];exact hperm,hord.imp (fun h=>Int.not_lt.2 h),rfl⟩;have X9:Ext w wz:=HX4.out.trans (zdh (zdh (zdh HX5.out Hgb.out (by rw [Hsb.out];exact nE _)) hx7 (by rw [Hsb.out];exact nE _)) hgb3 (by rw [Hsb.out];exact nE _));have hpts:∀j∈ks,IsPts wz j.2 j.1.p.shape:=fun j hj=>(((Hkp.out j hj).keepT (zaM Hgb.out HK1.out (by decide))).keepT (zaM hx7 HS6.out (by decide))).keepT (zaM hgb3 hsv7 (by decide))
 have hjsr:IsJs wz (O wa wn wc) ks:=((Hj6.out.keep (zaM hx7 HS6.out (by decide))).keep (zaM hgb3 hsv7 (by decide)));have hjtr:IsJts wz (O qa qn qc) L:=hjL.keep (zaM hgb3 hsv7 (by decide));have zDs:∀D∈Ds,w.heap.size≤D:=fun D hD=>by have:=hDs D hD;have:=HX4.out.size;have:=HX5.out.size;have:=Hgb.out.size;have:=hx7.size;omega
 have HSvP:=hd9 hSvP;have HX9:=hd9 X9;have Hpts:=hd9 hpts;have Hjsr:=hd9 hjsr;have Hjtr:=hd9 hjtr;have Hsv3:=hd9 hsv3;have Hown3:=hd9 hown3;have Hmk:=hd9 hmk;have HzDs:=hd9 zDs;clear hSvP X9 hpts hjsr hjtr hsv3 hown3 hmk zDs hDs hgb3 hpz hperm hord hownL hgL hsv7 hp7 hjL hLb hLl hx7 hnL HST
 gi_wp2
 refine zbp Ds _ Hmk.out (fun W' hW'=>?_);have hS:=hW' w.heap.size HzDs.out;refine⟨.tuple #[C (N ⟨sb,0,V⟩),Y Z 0],by simp [results,Tryz.results28,go_sem],?_⟩;rw [←HR.out];exact .inr ⟨HE.out,sb,_,_,_,ks,L,_,rfl,⟨hS.heap Hsv3.out,Hjsr.out.keep (hS.keep _),fun j hj=>(Hpts.out j hj).keepT (hS.keep _),Hjtr.out.keep (hS.keep _),Hown3.out.is.keep (hS.keep _)⟩,HSvP.out,hS.ext HX9.out (nE _)⟩
theorem zeq (w:I) (vg vp:A) (g:List (Int×Int)) (ps:List Pl) (r:Ru) (hg:IsPts w vg g) (hp:IsPls w vp ps) (hgw:Gw w) :
  Calls Tryz.prog 28 #[U #[vg,vp],U (ruc r)] w (RetBy w vg vp g ps r):=by
 by_cases h0:laidP g ps=0
 ·by_cases h1:rulesE r=0
  ·exact zpf w vg vp g ps r hg hp hgw h0 h1
  ·exact zoB w vg vp g ps r hg hp hgw h0 h1
 ·exact zoA w vg vp g ps r hg hp hgw h0
end
section
open Go.RowKit Go.Shelf Go.Sort
def RetJo (w:I) (g:List (Int×Int)) (ps:List Pl) (r:Ru) (e:Ending) (w':I):Prop:=
 (byE g ps r≠0∧e = .returned (.tuple #[O V 0 0,Y Z (byE g ps r)])∧Ext w w') ∨
 (byE g ps r=0∧∃v L ks rs,e = .returned (.tuple #[v,Y Z 0])∧IsJts w' v L∧SvP r ps ks L rs∧Ext w w')
def RetRo (w:I) (g:List (Int×Int)) (ps:List Pl) (r:Ru) (e:Ending) (w':I):Prop:=
 (byE g ps r≠0∧e = .returned (.tuple #[O V 0 0,Y Z (byE g ps r)])∧Ext w w') ∨
 (byE g ps r=0∧∃v L ks rs,e = .returned (.tuple #[v,Y Z 0])∧IsIs w' v rs∧SvP r ps ks L rs∧Ext w w')
theorem zeA (w:I) (vg vp:A) (g:List (Int×Int)) (ps:List Pl) (r:Ru) (hg:IsPts w vg g) (hp:IsPls w vp ps) (hgw:Gw w) :
  Calls Tryz.prog 15 #[U #[vg,vp],U (ruc r)] w (RetJo w g ps r):=by
 have HB:=hd9 (fun W (hW:Ext w W)=>zeq W vg vp g ps r (hg.ext' hW) (hp.ext' hW) (hgw.ext hW));obtain⟨ga,gn,gc,rfl⟩:=form3 hg;obtain⟨pa,pn,pc1,rfl⟩:=form3 hp;obtain⟨R,hR⟩:=gX (RetJo w g ps r);rw [hR];have HR:=hd9 hR;obtain⟨k,hk⟩:=gX (byE g ps r);have HE:=hd9 hk;obtain⟨sk,pin,wide,lap,step,run,level⟩:=r;unfold ruc at HB ⊢;dsimp only at HB;clear hg hp hgw hR
 by_cases h0:k=0
 ·subst h0
  clear hk;go_enter Tryz.func15,Tryz.ntmps15
  go_wp2_with(go_at_call 28;(with_reducible refine(HB.out _ ?_).mono ?_);exact eA;rintro e w3 (⟨hne,_⟩|⟨_,sb,vs,vj,vr,ks,L,rs,rfl,sv,svp,hx3⟩);(focus(exact absurd HE.out hne));obtain⟨ja,jn,jc9,hvj⟩:=form3 sv.joints;subst hvj;(have sc:=qcB sv.blk (i:=10) (u:=O ja jn jc9) rfl))
  rw [←HR.out];exact .inr ⟨HE.out,_,L,ks,rs,rfl,sv.joints,svp,eA⟩
 ·have u0:(k != 0)=true:=by simpa using h0
  have Hne:=hd9 h0;clear h0 hk;go_enter Tryz.func15,Tryz.ntmps15
  go_wp2_with(go_at_call 28;(with_reducible refine(HB.out _ ?_).mono ?_);exact eA;rintro e w3 (⟨hne,rfl,hx3⟩|⟨h0,_⟩);rotate_left 1;(focus(exact absurd (HE.out.symm.trans h0) Hne.out));rw [HE.out])
  rw [←HR.out];exact .inl ⟨hne,by rw [HE.out];rfl,eA⟩
theorem zkC (w:I) (vg vp:A) (g:List (Int×Int)) (ps:List Pl) (r:Ru) (hg:IsPts w vg g) (hp:IsPls w vp ps) (hgw:Gw w) :
  Calls Tryz.prog 16 #[U #[vg,vp],U (ruc r)] w (RetRo w g ps r):=by
 have HB:=hd9 (fun W (hW:Ext w W)=>zeq W vg vp g ps r (hg.ext' hW) (hp.ext' hW) (hgw.ext hW));obtain⟨ga,gn,gc,rfl⟩:=form3 hg;obtain⟨pa,pn,pc1,rfl⟩:=form3 hp;obtain⟨R,hR⟩:=gX (RetRo w g ps r);rw [hR];have HR:=hd9 hR;obtain⟨k,hk⟩:=gX (byE g ps r);have HE:=hd9 hk;obtain⟨sk,pin,wide,lap,step,run,level⟩:=r;unfold ruc at HB ⊢;dsimp only at HB;clear hg hp hgw hR
 by_cases h0:k=0
 ·subst h0
  clear hk;go_enter Tryz.func16,Tryz.ntmps16
  go_wp2_with(go_at_call 28;(with_reducible refine(HB.out _ ?_).mono ?_);exact eA;rintro e w3 (⟨hne,_⟩|⟨_,sb,vs,vj,vr,ks,L,rs,rfl,sv,svp,hx3⟩);(focus(exact absurd HE.out hne));obtain⟨ja,jn,jc9,hvj⟩:=form3 sv.roots;subst hvj;(have sc:=qcB sv.blk (i:=11) (u:=O ja jn jc9) rfl))
  rw [←HR.out];exact .inr ⟨HE.out,_,L,ks,rs,rfl,sv.roots,svp,eA⟩
 ·have u0:(k != 0)=true:=by simpa using h0
  have Hne:=hd9 h0;clear h0 hk;go_enter Tryz.func16,Tryz.ntmps16
  go_wp2_with(go_at_call 28;(with_reducible refine(HB.out _ ?_).mono ?_);exact eA;rintro e w3 (⟨hne,rfl,hx3⟩|⟨h0,_⟩);rotate_left 1;(focus(exact absurd (HE.out.symm.trans h0) Hne.out));rw [HE.out])
  rw [←HR.out];exact .inl ⟨hne,by rw [HE.out];rfl,eA⟩
end
section
open Go.RowKit Go.Shelf
attribute [local go_sem] Oper.semAt_some
def dirE (e:Edg):Int×Int:=
 ((e.2.1-e.1.1).tdiv (Nat.gcd (e.2.1-e.1.1).natAbs (e.2.2-e.1.2).natAbs:Nat),(e.2.2-e.1.2).tdiv (Nat.gcd (e.2.1-e.1.1).natAbs (e.2.2-e.1.2).natAbs:Nat))
def slopeX (l:Int) (x rt:Rat) (e:Edg):Bool:=
 decide (rcmp x ((e.1.1:Int):Rat)<0) || (decide (rcmp x ((e.1.1:Int):Rat)=0)&&(decide (l<e.1.1)&&decide (0≤rcmp x rt)))
def slopeR (ps:List (Int×Int)) (x rt:Rat):Int×Int:=((eds ps).takeWhile fun e=>!slopeX (lineL ps) x rt e).foldl (fun _ e=>dirE e) (0,0)
def EdOk (e:Edg):Prop:=(Bd 104000 e.1.1∧Bd 104000 e.1.2∧Bd 104000 e.2.1∧Bd 104000 e.2.2)∧e.1.1≤e.2.1∧e.1≠e.2
abbrev BF:={ e:Edg // EdOk e }
def LnUp (ps:List (Int×Int)):Prop:=∀e∈eds ps,e.1.1≤e.2.1∧e.1≠e.2
def SlA (s:Nat) (e:BF) (a:Act) (W:I):Prop:=
 ∃B,s+1+1+1+1+1+1≤B∧W.heap[B]?=N (M #[Y Z e.1.1.1,Y Z e.1.1.2] 42 (0,0))∧W.heap[B+1]?=N (M #[Y Z e.1.2.1,Y Z e.1.2.2] 42 (0,0)) ∧
  a.tmps.size=73∧a.tmps.getD 3 undef=C (N ⟨s,0,V⟩)∧a.tmps.getD 4 undef=C (N ⟨s+1,0,V⟩)∧a.tmps.getD 5 undef=C (N ⟨s+1+1,0,V⟩)∧a.tmps.getD 7 undef=C (N ⟨s+1+1+1+1,0,V⟩) ∧
  a.tmps.getD 8 undef=C (N ⟨B,0,V⟩)∧a.tmps.getD 9 undef=C (N ⟨B+1,0,V⟩)∧a.defers=[]
def SlW (w:I) (v:A) (x rt:Rat) (o:Int×Int) (W:I):Prop:=
 Ext w W∧w.heap.size+1+1+1+1+1+1≤W.heap.size∧W.heap[w.heap.size]?=N (M #[v] 99 (0,0))∧RB W (w.heap.size+1) x∧RB W (w.heap.size+1+1) rt ∧
  W.heap[w.heap.size+1+1+1]?=N (M #[Y Z 0,Y Z 0] 42 (0,0))∧W.heap[w.heap.size+1+1+1+1]?=N (M #[Y Z o.1,Y Z o.2] 42 (0,0))
def SlI (w:I) (v:A) (l:Int) (x rt:Rat) (pre:List BF) (W:I):Prop:=
 SlW w v x rt (pre.foldl (fun _ e=>dirE e.1) (0,0)) W∧∀e∈pre,slopeX l x rt e.1=false
def SlX (w:I) (v:A) (l:Int) (x rt:Rat) (c:Code) (pre:List BF) (W:I):Prop:=
 c = .exit 0∧∃(p:List BF) (e:BF),pre=p++[e]∧SlW w v x rt (p.foldl (fun _ e=>dirE e.1) (0,0)) W∧(∀e∈p,slopeX l x rt e.1=false)∧slopeX l x rt e.1=true
theorem SlW.ext {w:I} {v:A} {x rt:Rat} {o:Int×Int} {W W':I} (h:SlW w v x rt o W) (k:Ext W W'):SlW w v x rt o W':=
 ⟨h.1.trans k,nT h.2.1 k.size,k.heapS h.2.2.1,h.2.2.2.1.ext k,h.2.2.2.2.1.ext k,k.heapS h.2.2.2.2.2.1,k.heapS h.2.2.2.2.2.2⟩
theorem SlW.sim {w:I} {v:A} {x rt:Rat} {o:Int×Int} {W W':I} {B:Nat} (h:SlW w v x rt o W) (k:Sim B W W') (hB:w.heap.size≤B):SlW w v x rt o W':=
 ⟨k.ext h.1 hB,nT h.2.1 k.size,k.heap h.2.2.1,h.2.2.2.1.sim k,h.2.2.2.2.1.sim k,k.heap h.2.2.2.2.2.1,k.heap h.2.2.2.2.2.2⟩
theorem SlW.put {w:I} {v:A} {x rt:Rat} {o:Int×Int} {W:I} (h:SlW w v x rt o W) (o':Int×Int):SlW w v x rt o' ((W.setCell ⟨w.heap.size+1+1+1+1,0,V⟩ (Y Z o'.1)).setCell ⟨w.heap.size+1+1+1+1,1,V⟩ (Y Z o'.2)):=by
 obtain⟨h1,h2,h3,h4,h5,h6,h7⟩:=h;have n1:NoT 2 W (w.heap.size+1+1+1+1):=by intro cs fr e;rw [h7]at e;cases e
 refine⟨(h1.set (by dsimp only;omega) _).set (by dsimp only;omega) _,by simp only [qcZ];exact h2,?_,(h4.other (by dsimp only;omega) n1 _).other (by dsimp only;omega) (n1.set _ _) _,(h5.other (by dsimp only;omega) n1 _).other (by dsimp only;omega) (n1.set _ _) _,?_,?_⟩
 ·rw [bS _ _ _ _ (by dsimp only;omega),bS _ _ _ _ (by dsimp only;omega)];exact h3
 ·rw [bS _ _ _ _ (by dsimp only;omega),bS _ _ _ _ (by dsimp only;omega)];exact h6
 ·have:=zbh (zbh h7 0 (Y Z o'.1)) 1 (Y Z o'.2)
  exact this
theorem zmh {ps:List (Int×Int)} {x rt:Rat} {es:List BF} (hes:es.map (fun e=>e.1)=eds ps) {p:List BF} {e:BF} (hp:p++[e] <+: es) (hn:∀e∈p,slopeX (lineL ps) x rt e.1=false) (he:slopeX (lineL ps) x rt e.1=true) :
  slopeR ps x rt=p.foldl (fun _ e=>dirE e.1) (0,0):=by
 obtain⟨t,rfl⟩:=hp;unfold slopeR
 rw [←hes,List.append_assoc,List.map_append,List.takeWhile_append_of_pos (by
  intro a ha;obtain⟨b,hb,rfl⟩:=List.mem_map.1 ha;simp [hn b hb])]
 rw [show ([e]++t).map (fun e:BF=>e.1)=e.1::t.map (fun e=>e.1)from rfl,List.takeWhile_cons_of_neg (by simp [he]),List.append_nil,List.foldl_map]
theorem zkL {ps:List (Int×Int)} {x rt:Rat} {es:List BF} (hes:es.map (fun e=>e.1)=eds ps) (hn:∀e∈es,slopeX (lineL ps) x rt e.1=false):slopeR ps x rt=es.foldl (fun _ e=>dirE e.1) (0,0):=by
 unfold slopeR
 have h:=List.takeWhile_append_of_pos (p:=fun e=>!slopeX (lineL ps) x rt e) (l₁:=es.map fun e=>e.1) (l₂:=[]) (by
  intro a ha;obtain⟨b,hb,rfl⟩:=List.mem_map.1 ha;simp [hn b hb])
 rw [List.append_nil,List.takeWhile_nil,List.append_nil]at h;rw [←hes,h,List.foldl_map]
def RetPt (w:I) (p:Int×Int) (e:Ending) (w':I):Prop:=e = .returned (U #[Y Z p.1,Y Z p.2])∧Ext w w'
theorem zee (w:I) (v vx vr:A) (ps:List (Int×Int)) (x rt:Rat) (h:IsPts w v ps) (hok:LnOk ps) (hup:LnUp ps) (hx:IsR w vx x) (hb:Rb 1000 x) (hr:IsR w vr rt) (hbr:Rb 1000 rt) :
  Calls Tryz.prog 73 #[v,vx,vr] w (RetPt w (slopeR ps x rt)):=by
 have HL:=hd9 (fun W (hW:Ext w W)=>zbD W v ps (h.ext' hW) (List.length_pos_iff.2 hok.1));obtain⟨a,c,rfl⟩:=h.form;obtain⟨xa,xm,xc,xs,xa2,xm2,xc2,rfl⟩:=hx.form;obtain⟨ya,ym,yc,ys,ya2,ym2,yc2,rfl⟩:=hr.form;have Hb:=hd9 hb;have Hbr:=hd9 hbr;have Hok:=hd9 hok;obtain⟨n,hn⟩:=gX ps.length;rw [hn]at h HL ⊢;have Hn:=hd9 hn;obtain⟨es,hes⟩:∃es:List BF,es.map (fun e=>e.1)=eds ps:=⟨(eds ps).attachWith EdOk (fun e he=>⟨zjo hok.2.1 he,hup e he⟩),zat _⟩;have Hes:=hd9 hes;clear hb hbr hok hn hup;refine(callsIn_wide (n:=5)).1 ?_;refine callsIn_of_wp_marks Tryz.func73 rfl trivial ?_ rfl;simp only [Tryz.ntmps73,List.size_toArray,List.length_cons,List.length_nil,Nat.reduceAdd,Nat.reduceSub,Array.replicate_succ,Array.replicate_zero,List.push_toArray,List.append_toArray,List.nil_append,List.cons_append]
 gi_wp2_with(refine⟨trivial,?_⟩;gi_at_call 114;refine(callsIn_wide.2 (zfr _ _ _ _)).mono ?_;rintro e w' ⟨rfl,rfl⟩)
 obtain⟨W0,hW0⟩:=gX (((((((w.alloc (M #[O a n c] 99)).alloc (M #[O xa xm xc,F xs,O xa2 xm2 xc2] 56)).alloc (M #[O ya ym yc,F ys,O ya2 ym2 yc2] 56)).alloc (M #[Y Z 0,Y Z 0] 42)).alloc (M #[Y Z 0,Y Z 0] 42)).alloc (M #[O a n c] 99)));have hx0:Ext w W0:=by rw [←hW0];exact((((((eR w).alloc _).alloc _).alloc _).alloc _).alloc _).alloc _
 have hs0:W0.heap.size=w.heap.size+1+1+1+1+1+1:=by rw [←hW0];simp
 have hbx:W0.cell? ⟨w.heap.size+1+1+1+1+1,0,V⟩=N (O a n c):=by rw [←hW0,World.cell?_alloc_at _ _ _ _ (by simp)];rfl
 have hI0:SlI w (O a n c) (lineL ps) x rt [] W0:=by
  refine⟨⟨hx0,by omega,?_,?_,?_,?_,?_⟩,fun e he=>by cases he⟩
  ·rw [←hW0];exact(((((eR _).alloc _).alloc _).alloc _).alloc _).alloc _ |>.heapS (aN w _)
  ·rw [←hW0];exact(RB.new (hx.ext ((eR w).alloc _)) (by simp)).ext (((((eR _).alloc _).alloc _).alloc _).alloc _)
  ·rw [←hW0];exact(RB.new (hr.ext (((eR w).alloc _).alloc _)) (by simp)).ext ((((eR _).alloc _).alloc _).alloc _)
  ·rw [←hW0];exact((eR _).alloc _).alloc _ |>.heapS (qhA _ _ _ (by simp))
  ·rw [←hW0];exact(eR _).alloc _ |>.heapS (qhA _ _ _ (by simp))
 rw [hW0];clear hW0
 refine wpIn_rangeFunc_ownH rfl (by decide) (gf:=154) (lb:=#[C (N ⟨w.heap.size+1+1+1+1+1,0,V⟩)]) rfl trivial (enters_of Tryz.func154 (by kernel_rfl) rfl)
  (zdG (fun e:BF=>e.1) _ (by decide) (w.heap.size+1+1+1+1+1) w _ _ ps es hes hbx (by omega) h hx0) KpW.trans (KpW.put (by omega) (by omega)) (Below.refl _ _) (fun _=>rfl)
  (SlI w (O a n c) (lineL ps) x rt) (SlX w (O a n c) (lineL ps) x rt) (zag (fun s W h=>by have:=h.1.2.1;omega) (fun s W W' h k=>⟨h.1.sim k (by omega),h.2⟩)) (fun c=>zag (fun s W h=>by obtain⟨_,_,_,_,h,_⟩:=h;have:=h.2.1;omega) (fun s W W' h k=>by obtain⟨h0,p,e,h1,h2,h3,h4⟩:=h;exact⟨h0,p,e,h1,h2.sim k (by omega),h3,h4⟩)) hI0
  (fun e a' W=>SlA w.heap.size e a' W) (fun e a'=>zag (fun s W h=>by obtain⟨B,h1,h2,h3,_⟩:=h;have:=zab h2;omega) (fun s W W' h k=>by obtain⟨B,h1,h2,h3,h4⟩:=h;exact⟨B,h1,k.heap h2,k.heap h3,h4⟩)) ?assign ?body ?done ?stop
 case assign =>
  rintro l pre e W K hI hK;unfold ence
  gi_wp2
  have hE:Ext W ((W.alloc (M #[Y Z e.1.1.1,Y Z e.1.1.2] 42)).alloc (M #[Y Z e.1.2.1,Y Z e.1.2.2] 42)):=((eR W).alloc _).alloc _;refine hK _ _ (((KeepsOthers.alloc _ _).trans (KeepsOthers.alloc _ _)).from _) ((KpW.refl _ _ W).ext hE hI.1.1.size (by have:=hI.1.2.1;omega)) ⟨hI.1.ext hE,hI.2⟩ ⟨W.heap.size,hI.1.2.1,zfv W _ _,zbT W _ _,rfl,rfl,rfl,rfl,rfl,rfl,rfl,rfl⟩
 case body =>
  rintro l pre e a' W hl ⟨r,hr'⟩ hI hA hlt;obtain⟨tt,dd⟩:=a';obtain⟨B,hB,q1,q2,g0,g3,g4,g5,g7,g8,g9,gd⟩:=hA;dsimp only at g0 g3 g4 g5 g7 g8 g9 gd;subst gd;obtain⟨u,hu,ht⟩:=arrU tt 73 g0;simp only [hu]at g3 g4 g5 g7 g8 g9;clear hu;subst ht;simp only [List.range,List.range.loop,List.map_cons,List.map_nil,g3,g4,g5,g7,g8,g9];clear g0 g3 g4 g5 g7 g8 g9;obtain⟨⟨⟨ax,az⟩,bx,bz⟩,⟨hbnd,hinc,hne⟩⟩:=e;dsimp only at q1 q2 hbnd hinc hne ⊢;obtain⟨⟨h1,h2,h3,h4,h5,h6,h7⟩,hall⟩:=hI;have hSW:SlW w (O a n c) x rt (pre.foldl (fun _ e=>dirE e.1) (0,0)) W:=⟨h1,h2,h3,h4,h5,h6,h7⟩;have HSW:=hd9 hSW;have Hall:=hd9 hall;obtain⟨xa',xm',xc',xs',xa2',xm2',xc2',r0,r1,r2,_,_,_,zr,hyx⟩:=h4.rd;obtain⟨ta,tm,tc,ts,ta2,tm2,tc2,t0,t1,t2,_,_,_,zt,hyt⟩:=h5.rd;have l0:=qcB h3 (i:=0) (u:=O a n c) rfl;have e0:=qcB q1 (i:=0) (u:=Y Z ax) rfl;have z1:=zab q1;have z2:=zab q2;have HQ1:=hd9 q1;have HQ2:=hd9 q2;obtain⟨bB1,bB2,bB3,bB4⟩:=hbnd;have Rax:=zbx (k:=104000) (n:=ax) bB1;have HRax:=hd9 Rax;have Hcb:=hd9 (fun W=>zaO W ax (by unfold Bd at bB1;omega) (by unfold Bd at bB1;omega));have Hyx:=hd9 hyx;have Hyt:=hd9 hyt;have HLf:=hd9 (fun W' (hW:Ext W W')=>HL.out W' (h1.trans hW));obtain⟨T1,hT1⟩:=gX (rcmp x ((ax:Int):Rat));have HT1:=hd9 hT1;obtain⟨T2,hT2⟩:=gX (rcmp x rt);have HT2:=hd9 hT2;obtain⟨lf,hlf⟩:=gX (lineL ps);rw [hlf]at HLf;have Hlf:=hd9 hlf;have hsx:slopeX (lineL ps) x rt ((ax,az),bx,bz)=(decide (T1<0) || (decide (T1=0)&&(decide (lf<ax)&&decide (0≤T2)))):=by unfold slopeX;dsimp only;rw [hT1,hT2,hlf]
  have Hsx:=hd9 hsx;have hdx:0≤bx-ax∧bx-ax≤208000:=by unfold Bd at bB1 bB3;omega
  have hdz : -208000≤bz-az∧bz-az≤208000:=by unfold Bd at bB2 bB4;omega
  obtain⟨dx,hdxe⟩:=gX (bx-ax);obtain⟨dz,hdze⟩:=gX (bz-az);rw [hdxe]at hdx;rw [hdze]at hdz;obtain⟨gg,hgg⟩:∃g:Nat,Nat.gcd dx.natAbs dz.natAbs=g:=⟨_,rfl⟩
  have hg0:0<gg:=by
   rw [←hgg]
   rcases Nat.eq_zero_or_pos (Nat.gcd dx.natAbs dz.natAbs)with h|h
   ·exfalso
    obtain⟨q1,q2⟩:=Nat.gcd_eq_zero_iff.1 h
    apply hne
    have:=Int.natAbs_eq_zero.1 q1;have:=Int.natAbs_eq_zero.1 q2;exact Prod.ext (by dsimp only;omega) (by dsimp only;omega)
   ·exact h
  have Hcom:=hd9 (fun W'=>show Calls Tryz.prog 115 #[Y Z dx,Y Z (max dz (-dz))] W' (fun e w'=>e = .returned (Y Z (gg:Nat))∧Ext W' w') by
   have h:=zgw W' dx.natAbs dz.natAbs (by omega) (by omega);rw [hgg,show ((dx.natAbs:Nat):Int)=dx by omega,show ((dz.natAbs:Nat):Int)=max dz (-dz) by omega]at h;exact h)
  have hdir:dirE ((ax,az),bx,bz)=(dx.tdiv gg,dz.tdiv gg):=by unfold dirE;dsimp only;rw [hdxe,hdze,hgg]
  have Hdir:=hd9 hdir;have hq1:(dx.tdiv (gg:Int)).natAbs≤208000:=by rw [Int.natAbs_tdiv];exact nT (Nat.div_le_self _ _) (by omega)
  have hq2:(dz.tdiv (gg:Int)).natAbs≤208000:=by rw [Int.natAbs_tdiv];exact nT (Nat.div_le_self _ _) (by omega)
  clear hdir hgg
  have hS0:CellL [(⟨w.heap.size+1,0,V⟩,O xa' xm' xc'),(⟨w.heap.size+1,1,V⟩,F xs'),(⟨w.heap.size+1,2,V⟩,O xa2' xm2' xc2'),(⟨w.heap.size+1+1,0,V⟩,O ta tm tc),(⟨w.heap.size+1+1,1,V⟩,F ts),(⟨w.heap.size+1+1,2,V⟩,O ta2 tm2 tc2),(⟨w.heap.size,0,V⟩,O a n c),(⟨B,0,V⟩,Y Z ax)] W.drew:=
   ⟨r0,r1,r2,t0,t1,t2,l0,e0,trivial⟩
  have HS0:=hd9 hS0;clear hSW hall h3 h4 h5 h6 h7 r0 r1 r2 t0 t1 t2 l0 e0 hyx hyt hT1 hT2 hlf hsx hS0 Rax q1 q2
  gi_wp2
  refine zai (S:=CellL [(⟨w.heap.size+1,0,V⟩,O xa' xm' xc'),(⟨w.heap.size+1,1,V⟩,F xs'),(⟨w.heap.size+1,2,V⟩,O xa2' xm2' xc2'),(⟨w.heap.size+1+1,0,V⟩,O ta tm tc),(⟨w.heap.size+1+1,1,V⟩,F ts),(⟨w.heap.size+1+1,2,V⟩,O ta2 tm2 tc2),(⟨w.heap.size,0,V⟩,O a n c),(⟨B,0,V⟩,Y Z ax)]) (by kernel_rfl) (by kernel_rfl) HS0.out (fun h9H=>?_);refine sN 0 ?_
  iterate 3
   refine tkn ?_
  refine oN ?_;refine cl1 (i:=3) fun K hK=>?_
  go_simp
  (with_reducible refine cM (Hcb.out _) ?_)
  rintro e w3 ⟨v3,rfl,hr3,hx3⟩;obtain⟨a3,m3,c3,s3,b3,n3,k3,rfl⟩:=hr3.form
  go_wp2_with fail
  refine kO hK (cE h9H hx3) (fun h9H=>?_);clear hK K;have Hcm:=hd9 (zaP w3 (U #[O xa' xm' xc',F xs',O xa2' xm2' xc2']) (U #[O a3 m3 c3,F s3,O b3 n3 k3]) x ((ax:Int):Rat) (Hyx.out.ext ((eR W).drew.trans hx3)) hr3 (Hb.out.mono (by decide)) (HRax.out.mono (by decide)));rw [HT1.out]at Hcm;refine cl1 (i:=4) fun K hK=>?_
  go_simp
  (with_reducible refine cM Hcm.out ?_)
  rintro e w4 ⟨rfl,hx4⟩
  skip
  go_wp2_with fail
  refine kO hK (cE h9H hx4) (fun h9H=>?_);clear hK K;have X4:Ext W w4:=((eR W).drew.trans hx3).trans hx4;clear Hcm
  by_cases hn:T1<0
  ·have hst:slopeX (lineL ps) x rt ((ax,az),bx,bz)=true:=by rw [Hsx.out,decide_eq_true hn];rfl
   refine sN 5 ?_
   iterate 2
    refine tkn ?_
   iterate 19
    refine tkgn ?_
   refine tkn ?_;refine oN ?_;refine wpAnyH_done (by kernel_rfl) ?_ _;unfold NQ
   gi_wp2
   exact⟨zak X4,rfl,pre,_,rfl,HSW.out.ext X4,Hall.out,hst⟩
  by_cases hp:0<T1
  ·have hn2:(T1==0)=false:=by simp;omega
   have hst:slopeX (lineL ps) x rt ((ax,az),bx,bz)=false:=by rw [Hsx.out,decide_eq_false hn,show decide (T1=0)=false by simp;omega];rfl
   refine sN 5 ?_
   iterate 5
    refine tkn ?_
   refine oN ?_;refine cl1 (i:=10) fun K hK=>?_
   go_simp
   (with_reducible refine cM (Hcb.out _) ?_)
   rintro e w10 ⟨v10,rfl,hr10,hx10⟩;obtain⟨a10,m10,c10,s10,b10,n10,k10,rfl⟩:=hr10.form
   go_wp2_with fail
   refine kO hK (cE h9H hx10) (fun h9H=>?_);clear hK K;have Hcm:=hd9 (zaP w10 (U #[O xa' xm' xc',F xs',O xa2' xm2' xc2']) (U #[O a10 m10 c10,F s10,O b10 n10 k10]) x ((ax:Int):Rat) (Hyx.out.ext (X4.trans hx10)) hr10 (Hb.out.mono (by decide)) (HRax.out.mono (by decide)));rw [HT1.out]at Hcm;refine cl1 (i:=11) fun K hK=>?_
   go_simp
   (with_reducible refine cM Hcm.out ?_)
   rintro e w11 ⟨rfl,hx11⟩
   skip
   go_wp2_with fail
   refine kO hK (cE h9H hx11) (fun h9H=>?_);clear hK K;have X11:Ext W w11:=(X4.trans hx10).trans hx11;refine sN 12 ?_
   iterate 2
    refine tkn ?_
   iterate 5
    refine tkgn ?_
   iterate 2
    refine tkn ?_
   iterate 4
    refine tkgn ?_
   iterate 2
    refine tkn ?_
   refine oN ?_;refine wpAnyH_done (by kernel_rfl) ?_ _;unfold NQ;have hX:Ext W w11:=X11;have q1':=qcB (hX.heapS HQ1.out) (i:=0) (u:=Y Z ax) rfl;have q2':=qcB (hX.heapS HQ1.out) (i:=1) (u:=Y Z az) rfl;have q3':=qcB (hX.heapS HQ2.out) (i:=0) (u:=Y Z bx) rfl;have q4':=qcB (hX.heapS HQ2.out) (i:=1) (u:=Y Z bz) rfl
   gi_wp2
   refine⟨trivial,CallsIn.mono (CallsIn.inRound l (callsIn_wide.2 (Hcom.out _))) ?_⟩;rintro e w5 ⟨rfl,hx5⟩;dsimp only;have hbd:=hx5.heapS (aN w11 (M #[Y Z dx,Y Z dz] 42));have d0:=qcB hbd (i:=0) (u:=Y Z dx) rfl;have d1:=qcB hbd (i:=1) (u:=Y Z dz) rfl;have X5:Ext W w5:=(hX.alloc _).trans hx5;have hg1:¬((gg:Nat):Int)=0:=by omega
   have hg3:¬gg=0:=by omega
   have hg2:(((gg:Nat):Int)==0)=false:=by simp;omega
   have u1:IntKind.i64.wrap (dx.tdiv gg)=dx.tdiv gg:=iW _ ⟨by omega,by omega⟩;have u2:IntKind.i64.wrap (dz.tdiv gg)=dz.tdiv gg:=iW _ ⟨by omega,by omega⟩;have hb7:=(HSW.out.ext X5).2.2.2.2.2.2;have o0:=qcB hb7 (i:=0) rfl;have o1:=qcB hb7 (i:=1) rfl;have of:=qfB hb7;have hz9:w.heap.size+1+1+1+1<w11.heap.size:=by have:=hX.size;omega
   have Hne9:=hd9 (show ∀q∈[((⟨w11.heap.size,0,V⟩:Addr),Value.int Z dx),(⟨w11.heap.size,1,V⟩,Y Z dz)],w.heap.size+1+1+1+1≠q.1.block from fun q hq h=>by
    simp at hq
    rcases hq with rfl|rfl<;>(dsimp only at h;omega))
   gi_wp2
   refine zai (S:=CellL [(⟨w11.heap.size,0,V⟩,Y Z dx),(⟨w11.heap.size,1,V⟩,Y Z dz)]) (by kernel_rfl) (by kernel_rfl) ⟨d0,d1,trivial⟩ (fun h9H=>?_);refine sN 0 ?_
   iterate 9
    refine tkn ?_
   refine oN ?_;refine cl1 (i:=9) fun K hK=>?_
   go_simp;refine kO hK (CellL.set (p:=⟨w.heap.size+1+1+1+1,1,V⟩) (CellL.set (p:=⟨w.heap.size+1+1+1+1,0,V⟩) h9H Hne9.out _) Hne9.out _) (fun h9H=>?_);clear hK K;refine wpAnyH_done (by kernel_rfl) ?_ _;unfold NQ;have hW9:=(HSW.out.ext X5.drew).put (dx.tdiv gg,dz.tdiv gg);have hkf:KeepsFrom W0.heap.size W ((w5.drew.setCell ⟨w.heap.size+1+1+1+1,0,V⟩ (Y Z (dx.tdiv gg))).setCell ⟨w.heap.size+1+1+1+1,1,V⟩ (Y Z (dz.tdiv gg))):=((zak X5.drew).trans ((KeepsOthers.setCell _ _ _).from _)).trans ((KeepsOthers.setCell _ _ _).from _)
   have hkp:KpW w (w.heap.size+1+1+1+1+1) W ((w5.drew.setCell ⟨w.heap.size+1+1+1+1,0,V⟩ (Y Z (dx.tdiv gg))).setCell ⟨w.heap.size+1+1+1+1,1,V⟩ (Y Z (dz.tdiv gg))):=
    (((KpW.refl w _ W).ext X5.drew h1.size (by omega)).set (by dsimp only;omega) (by dsimp only;omega) _).set (by dsimp only;omega) (by dsimp only;omega) _
   gi_wp2
   refine⟨hkf,hkp,?_,fun e he=>?_⟩
   ·rw [List.foldl_append,List.foldl_cons,List.foldl_nil]
    dsimp only;rw [Hdir.out];exact hW9
   ·rcases List.mem_append.1 he with he|he
    ·exact Hall.out e he
    ·rw [List.mem_singleton.1 he];exact hst
  ·have hT0:T1=0:=by omega
   subst hT0;clear hn hp;refine sN 5 ?_
   iterate 5
    refine tkn ?_
   refine oN ?_;refine cl1 (i:=10) fun K hK=>?_
   go_simp
   (with_reducible refine cM (Hcb.out _) ?_)
   rintro e w10 ⟨v10,rfl,hr10,hx10⟩;obtain⟨a10,m10,c10,s10,b10,n10,k10,rfl⟩:=hr10.form
   go_wp2_with fail
   refine kO hK (cE h9H hx10) (fun h9H=>?_);clear hK K;have Hcm:=hd9 (zaP w10 (U #[O xa' xm' xc',F xs',O xa2' xm2' xc2']) (U #[O a10 m10 c10,F s10,O b10 n10 k10]) x ((ax:Int):Rat) (Hyx.out.ext (X4.trans hx10)) hr10 (Hb.out.mono (by decide)) (HRax.out.mono (by decide)));rw [HT1.out]at Hcm;refine cl1 (i:=11) fun K hK=>?_
   go_simp
   (with_reducible refine cM Hcm.out ?_)
   rintro e w11 ⟨rfl,hx11⟩
   skip
   go_wp2_with fail
   refine kO hK (cE h9H hx11) (fun h9H=>?_);clear hK K;have X11:Ext W w11:=(X4.trans hx10).trans hx11;refine sN 12 ?_
   iterate 5
    refine tkn ?_
   refine oN ?_;refine cl1 (i:=17) fun K hK=>?_
   go_simp
   (with_reducible refine cM (HLf.out _ X11) ?_)
   rintro e w17 ⟨rfl,hx17⟩
   skip
   go_wp2_with fail
   refine kO hK (cE h9H hx17) (fun h9H=>?_);clear hK K;have X17:Ext W w17:=X11.trans hx17
   by_cases hll:lf<ax
   rotate_left 1
   ·have hst:slopeX (lineL ps) x rt ((ax,az),bx,bz)=false:=by rw [Hsx.out,decide_eq_false hll];simp
    refine sN 18 ?_
    iterate 3
     refine tkn ?_
    iterate 4
     refine tkgn ?_
    iterate 2
     refine tkn ?_
    refine oN ?_;refine wpAnyH_done (by kernel_rfl) ?_ _;unfold NQ;have hX:Ext W w17:=X17;have q1':=qcB (hX.heapS HQ1.out) (i:=0) (u:=Y Z ax) rfl;have q2':=qcB (hX.heapS HQ1.out) (i:=1) (u:=Y Z az) rfl;have q3':=qcB (hX.heapS HQ2.out) (i:=0) (u:=Y Z bx) rfl;have q4':=qcB (hX.heapS HQ2.out) (i:=1) (u:=Y Z bz) rfl
    gi_wp2
    refine⟨trivial,CallsIn.mono (CallsIn.inRound l (callsIn_wide.2 (Hcom.out _))) ?_⟩;rintro e w5 ⟨rfl,hx5⟩;dsimp only;have hbd:=hx5.heapS (aN w17 (M #[Y Z dx,Y Z dz] 42));have d0:=qcB hbd (i:=0) (u:=Y Z dx) rfl;have d1:=qcB hbd (i:=1) (u:=Y Z dz) rfl;have X5:Ext W w5:=(hX.alloc _).trans hx5;have hg1:¬((gg:Nat):Int)=0:=by omega
    have hg3:¬gg=0:=by omega
    have hg2:(((gg:Nat):Int)==0)=false:=by simp;omega
    have u1:IntKind.i64.wrap (dx.tdiv gg)=dx.tdiv gg:=iW _ ⟨by omega,by omega⟩;have u2:IntKind.i64.wrap (dz.tdiv gg)=dz.tdiv gg:=iW _ ⟨by omega,by omega⟩;have hb7:=(HSW.out.ext X5).2.2.2.2.2.2;have o0:=qcB hb7 (i:=0) rfl;have o1:=qcB hb7 (i:=1) rfl;have of:=qfB hb7;have hz9:w.heap.size+1+1+1+1<w17.heap.size:=by have:=hX.size;omega
    have Hne9:=hd9 (show ∀q∈[((⟨w17.heap.size,0,V⟩:Addr),Value.int Z dx),(⟨w17.heap.size,1,V⟩,Y Z dz)],w.heap.size+1+1+1+1≠q.1.block from fun q hq h=>by
     simp at hq
     rcases hq with rfl|rfl<;>(dsimp only at h;omega))
    gi_wp2
    refine zai (S:=CellL [(⟨w17.heap.size,0,V⟩,Y Z dx),(⟨w17.heap.size,1,V⟩,Y Z dz)]) (by kernel_rfl) (by kernel_rfl) ⟨d0,d1,trivial⟩ (fun h9H=>?_);refine sN 0 ?_
    iterate 9
     refine tkn ?_
    refine oN ?_;refine cl1 (i:=9) fun K hK=>?_
    go_simp;refine kO hK (CellL.set (p:=⟨w.heap.size+1+1+1+1,1,V⟩) (CellL.set (p:=⟨w.heap.size+1+1+1+1,0,V⟩) h9H Hne9.out _) Hne9.out _) (fun h9H=>?_);clear hK K;refine wpAnyH_done (by kernel_rfl) ?_ _;unfold NQ;have hW9:=(HSW.out.ext X5.drew).put (dx.tdiv gg,dz.tdiv gg);have hkf:KeepsFrom W0.heap.size W ((w5.drew.setCell ⟨w.heap.size+1+1+1+1,0,V⟩ (Y Z (dx.tdiv gg))).setCell ⟨w.heap.size+1+1+1+1,1,V⟩ (Y Z (dz.tdiv gg))):=((zak X5.drew).trans ((KeepsOthers.setCell _ _ _).from _)).trans ((KeepsOthers.setCell _ _ _).from _)
    have hkp:KpW w (w.heap.size+1+1+1+1+1) W ((w5.drew.setCell ⟨w.heap.size+1+1+1+1,0,V⟩ (Y Z (dx.tdiv gg))).setCell ⟨w.heap.size+1+1+1+1,1,V⟩ (Y Z (dz.tdiv gg))):=
     (((KpW.refl w _ W).ext X5.drew h1.size (by omega)).set (by dsimp only;omega) (by dsimp only;omega) _).set (by dsimp only;omega) (by dsimp only;omega) _
    gi_wp2
    refine⟨hkf,hkp,?_,fun e he=>?_⟩
    ·rw [List.foldl_append,List.foldl_cons,List.foldl_nil]
     dsimp only;rw [Hdir.out];exact hW9
    ·rcases List.mem_append.1 he with he|he
     ·exact Hall.out e he
     ·rw [List.mem_singleton.1 he];exact hst
   refine sN 18 ?_
   iterate 5
    refine tkn ?_
   refine oN ?_;have Hcm2:=hd9 (zaP w17 (U #[O xa' xm' xc',F xs',O xa2' xm2' xc2']) (U #[O ta tm tc,F ts,O ta2 tm2 tc2]) x rt (Hyx.out.ext X17) (Hyt.out.ext X17) (Hb.out.mono (by decide)) (Hbr.out.mono (by decide)));rw [HT2.out]at Hcm2;refine cl1 (i:=23) fun K hK=>?_
   go_simp
   (with_reducible refine cM Hcm2.out ?_)
   rintro e w23 ⟨rfl,hx23⟩
   skip
   go_wp2_with fail
   refine kO hK (cE h9H hx23) (fun h9H=>?_);clear hK K;have X23:Ext W w23:=X17.trans hx23
   by_cases ht:0≤T2
   ·have hst:slopeX (lineL ps) x rt ((ax,az),bx,bz)=true:=by rw [Hsx.out,decide_eq_true hll,decide_eq_true ht];simp
    refine sN 24 ?_
    iterate 3
     refine tkn ?_
    refine oN ?_;refine wpAnyH_done (by kernel_rfl) ?_ _;unfold NQ
    gi_wp2
    exact⟨zak X23,rfl,pre,_,rfl,HSW.out.ext X23,Hall.out,hst⟩
   ·have hst:slopeX (lineL ps) x rt ((ax,az),bx,bz)=false:=by rw [Hsx.out,decide_eq_false ht];simp
    refine sN 24 ?_
    iterate 3
     refine tkn ?_
    refine oN ?_;refine wpAnyH_done (by kernel_rfl) ?_ _;unfold NQ;have hX:Ext W w23:=X23;have q1':=qcB (hX.heapS HQ1.out) (i:=0) (u:=Y Z ax) rfl;have q2':=qcB (hX.heapS HQ1.out) (i:=1) (u:=Y Z az) rfl;have q3':=qcB (hX.heapS HQ2.out) (i:=0) (u:=Y Z bx) rfl;have q4':=qcB (hX.heapS HQ2.out) (i:=1) (u:=Y Z bz) rfl
    gi_wp2
    refine⟨trivial,CallsIn.mono (CallsIn.inRound l (callsIn_wide.2 (Hcom.out _))) ?_⟩;rintro e w5 ⟨rfl,hx5⟩;dsimp only;have hbd:=hx5.heapS (aN w23 (M #[Y Z dx,Y Z dz] 42));have d0:=qcB hbd (i:=0) (u:=Y Z dx) rfl;have d1:=qcB hbd (i:=1) (u:=Y Z dz) rfl;have X5:Ext W w5:=(hX.alloc _).trans hx5;have hg1:¬((gg:Nat):Int)=0:=by omega
    have hg3:¬gg=0:=by omega
    have hg2:(((gg:Nat):Int)==0)=false:=by simp;omega
    have u1:IntKind.i64.wrap (dx.tdiv gg)=dx.tdiv gg:=iW _ ⟨by omega,by omega⟩;have u2:IntKind.i64.wrap (dz.tdiv gg)=dz.tdiv gg:=iW _ ⟨by omega,by omega⟩;have hb7:=(HSW.out.ext X5).2.2.2.2.2.2;have o0:=qcB hb7 (i:=0) rfl;have o1:=qcB hb7 (i:=1) rfl;have of:=qfB hb7;have hz9:w.heap.size+1+1+1+1<w23.heap.size:=by have:=hX.size;omega
    have Hne9:=hd9 (show ∀q∈[((⟨w23.heap.size,0,V⟩:Addr),Value.int Z dx),(⟨w23.heap.size,1,V⟩,Y Z dz)],w.heap.size+1+1+1+1≠q.1.block from fun q hq h=>by
     simp at hq
     rcases hq with rfl|rfl<;>(dsimp only at h;omega))
    gi_wp2
    refine zai (S:=CellL [(⟨w23.heap.size,0,V⟩,Y Z dx),(⟨w23.heap.size,1,V⟩,Y Z dz)]) (by kernel_rfl) (by kernel_rfl) ⟨d0,d1,trivial⟩ (fun h9H=>?_);refine sN 0 ?_
    iterate 9
     refine tkn ?_
    refine oN ?_;refine cl1 (i:=9) fun K hK=>?_
    go_simp;refine kO hK (CellL.set (p:=⟨w.heap.size+1+1+1+1,1,V⟩) (CellL.set (p:=⟨w.heap.size+1+1+1+1,0,V⟩) h9H Hne9.out _) Hne9.out _) (fun h9H=>?_);clear hK K;refine wpAnyH_done (by kernel_rfl) ?_ _;unfold NQ;have hW9:=(HSW.out.ext X5.drew).put (dx.tdiv gg,dz.tdiv gg);have hkf:KeepsFrom W0.heap.size W ((w5.drew.setCell ⟨w.heap.size+1+1+1+1,0,V⟩ (Y Z (dx.tdiv gg))).setCell ⟨w.heap.size+1+1+1+1,1,V⟩ (Y Z (dz.tdiv gg))):=((zak X5.drew).trans ((KeepsOthers.setCell _ _ _).from _)).trans ((KeepsOthers.setCell _ _ _).from _)
    have hkp:KpW w (w.heap.size+1+1+1+1+1) W ((w5.drew.setCell ⟨w.heap.size+1+1+1+1,0,V⟩ (Y Z (dx.tdiv gg))).setCell ⟨w.heap.size+1+1+1+1,1,V⟩ (Y Z (dz.tdiv gg))):=
     (((KpW.refl w _ W).ext X5.drew h1.size (by omega)).set (by dsimp only;omega) (by dsimp only;omega) _).set (by dsimp only;omega) (by dsimp only;omega) _
    gi_wp2
    refine⟨hkf,hkp,?_,fun e he=>?_⟩
    ·rw [List.foldl_append,List.foldl_cons,List.foldl_nil]
     dsimp only;rw [Hdir.out];exact hW9
    ·rcases List.mem_append.1 he with he|he
     ·exact Hall.out e he
     ·rw [List.mem_singleton.1 he];exact hst
 case done =>
  rintro D ys W hD rfl ⟨⟨h1,h2,h3,h4,h5,h6,h7⟩,hall⟩ hK;have hR:=zkL Hes.out hall;obtain⟨⟨ox,oz⟩,ho⟩:∃o,ys.foldl (fun _ e=>dirE e.1) ((0,0):Int×Int)=o:=⟨_,rfl⟩;rw [ho]at h7 hR;have HR:=hd9 hR;have e0:=qcB h7 (i:=0) (u:=Y Z ox) rfl;have e1:=qcB h7 (i:=1) (u:=Y Z oz) rfl;have f0:=qcB h6 (i:=0) (u:=Y Z 0) rfl;have f1:=qcB h6 (i:=1) (u:=Y Z 0) rfl;have ff:=qfB h6;clear hR ho
  gi_wp2
  have h6':=zbh (zbh h6 0 (Y Z ox)) 1 (Y Z oz);have X:=(h1.set (p:=⟨w.heap.size+1+1+1,0,V⟩) (by dsimp only;omega) (Y Z ox)).set (p:=⟨w.heap.size+1+1+1,1,V⟩) (by dsimp only;omega) (Y Z oz);refine zbp [D] _ ⟨by simp,fun E hE=>?_⟩ (fun W' hW'=>?_)
  ·rw [List.mem_singleton.1 hE,bS _ _ _ _ (by dsimp only;omega),bS _ _ _ _ (by dsimp only;omega)];exact hK
  ·have hS:=hW' w.heap.size (fun E hE=>by rw [List.mem_singleton.1 hE];omega)
   have h8:=hS.heap h6';have c0:=qcB h8 (i:=0) (u:=Y Z ox) rfl;have c1:=qcB h8 (i:=1) (u:=Y Z oz) rfl;refine⟨U #[Y Z ox,Y Z oz],by simp [results,Tryz.results73,go_sem,c0,c1],?_⟩;rw [HR.out];exact⟨rfl,hS.ext X (nE _)⟩
 case stop =>
  rintro D c pre W hD hpre ⟨rfl,p,e,rfl,⟨h1,h2,h3,h4,h5,h6,h7⟩,hall,hst⟩ hK;have hR:=zmh Hes.out hpre hall hst;obtain⟨⟨ox,oz⟩,ho⟩:∃o,p.foldl (fun _ e=>dirE e.1) ((0,0):Int×Int)=o:=⟨_,rfl⟩;rw [ho]at h7 hR;have HR:=hd9 hR;have e0:=qcB h7 (i:=0) (u:=Y Z ox) rfl;have e1:=qcB h7 (i:=1) (u:=Y Z oz) rfl;have f0:=qcB h6 (i:=0) (u:=Y Z 0) rfl;have f1:=qcB h6 (i:=1) (u:=Y Z 0) rfl;have ff:=qfB h6;clear hR ho
  gi_wp2
  have h6':=zbh (zbh h6 0 (Y Z ox)) 1 (Y Z oz);have X:=(h1.set (p:=⟨w.heap.size+1+1+1,0,V⟩) (by dsimp only;omega) (Y Z ox)).set (p:=⟨w.heap.size+1+1+1,1,V⟩) (by dsimp only;omega) (Y Z oz);refine zbp [D] _ ⟨by simp,fun E hE=>?_⟩ (fun W' hW'=>?_)
  ·rw [List.mem_singleton.1 hE,bS _ _ _ _ (by dsimp only;omega),bS _ _ _ _ (by dsimp only;omega)];exact hK
  ·have hS:=hW' w.heap.size (fun E hE=>by rw [List.mem_singleton.1 hE];omega)
   have h8:=hS.heap h6';have c0:=qcB h8 (i:=0) (u:=Y Z ox) rfl;have c1:=qcB h8 (i:=1) (u:=Y Z oz) rfl;refine⟨U #[Y Z ox,Y Z oz],by simp [results,Tryz.results73,go_sem,c0,c1],?_⟩;rw [HR.out];exact⟨rfl,hS.ext X (nE _)⟩
end
section
open Go.RowKit Go.Shelf
section
variable {P:Program} {ops:Array Oper} {Q:Exit→Act→I→Prop} {md:Region.Mode} {S:I→Prop} {late:Nat→Bool}
def HU (P:Program) (md:Region.Mode) (ops:Array Oper) (Q:Exit→Act→I→Prop) (S:I→Prop) (late:Nat→Bool):Nat→Array Bool→Act→I→Prop
 | 0,listed,a,w=>Region.ready md ops listed=[]∧Q .normal a w
 | fuel+1,listed,a,w =>
  (Region.ready md ops listed=[]→Q .normal a w) ∧
  ∀i∈Region.ready md ops listed,wpOp P ops Q i (fun a' w'=>(late i=false→S w')∧HU P md ops Q S late fuel (listed.setIfInBounds i true) a' w') a w
theorem zek:∀(fuel:Nat) (listed:Array Bool) (a:Act) (w:I),HU P md ops Q S late fuel listed a w→wpAny P md ops Q fuel listed a w
 | 0,_,_,_,h=>h
 | fuel+1,_,_,_,h=>⟨h.1,fun i hi=>wpOp_mono (fun a' w' h'=>zek fuel _ a' w' h'.2) (h.2 i hi)⟩
theorem zk4 {m i:Nat} {oi:Oper} {v:A} (hg:gated md ops late m=true) (hli:late i=false) (hi:ops[i]?=N oi) (hsel:∀(j:Nat) (o:Oper) cs b,ops[j]?=N o→o.op ≠ .select cs b)
  (hQ:∀c a w,Q (.panic c) (a.put oi.dst v) w→Q (.panic c) a w) :
  ∀(fuel:Nat) (listed:Array Bool) (a:Act) (w:I),Cl md ops listed →
   (∀j oj,ops[j]?=N oj→j≠i→listed.getD j true=false→(∀e∈oj.after,Region.binds md e=true→e.on≠i)→oi.apart ops oj=true) →
   i∈Region.ready md ops listed→YieldsIf P ops S oi v a→S w →
   HU P md ops Q S late fuel (listed.setIfInBounds i true) (a.put oi.dst v) w→HU P md ops Q S late (fuel+1) listed a w:=by
 intro fuel
 induction fuel with
 | zero =>
  intro listed a w hc _ hr hy hS H;refine⟨fun h=>(by rw [h]at hr;cases hr),fun j hj=>?_⟩
  by_cases hji:j=i
  ·subst hji;exact hy.wpOp hi hS ⟨fun _=>hS,H⟩
  ·have:=ready_mono hj hji
   rw [H.1]at this
   cases this
 | succ fuel ih =>
  intro listed a w hc hfree hr hy hS H;refine⟨fun h=>(by rw [h]at hr;cases hr),fun j hj=>?_⟩
  by_cases hji:j=i
  ·subst hji;exact hy.wpOp hi hS ⟨fun _=>hS,H⟩
  ·have h1:=H.2 j (ready_mono hj hji)
   have hlj:=zd2 hg hc hr hli hj;obtain⟨hjun,oj,hoj,hall⟩:=mem_ready.1 hj
   have hnot:∀e∈oj.after,Region.binds md e=true→e.on≠i:=fun e he hb heq=>by
    have h1:=hall e he hb;have h0:=(mem_ready.1 hr).1;rw [heq]at h1
    rcases Nat.lt_or_ge i listed.size with h' | h'
    ·simp [h']at h0 h1;rw [h0]at h1;cases h1
    ·simp [Array.getElem?_eq_none h']at h1
   have h2:=wpOp_putIf hoj (hfree j oj hoj hji hjun hnot) (fun cs b=>hsel i oi cs b hi) (fun cs b=>hsel j oj cs b hoj) hQ hy h1
   have hfree':∀k ok,ops[k]?=N ok→k≠i→(listed.setIfInBounds j true).getD k true=false →
     (∀e∈ok.after,Region.binds md e=true→e.on≠i)→oi.apart ops ok=true:=fun k ok hk hki hun hno=>by
    refine hfree k ok hk hki ?_ hno
    by_cases hjk:j=k
    ·subst hjk;exact hjun
    ·rw [getD_set_ne true hjk]at hun;exact hun
   refine wpOp_mono (fun a' w' h3=>⟨h3.2.1,ih (listed.setIfInBounds j true) a' w' (hc.step hj) hfree' (ready_mono hr (Ne.symm hji)) h3.1 (h3.2.1 hlj) ?_⟩) h2;rw [Array.setIfInBounds_comm _ _ hji];exact h3.2.2
def HUc (P:Program) (md:Region.Mode) (ops:Array Oper) (Q:Exit→Act→I→Prop) (S:I→Prop) (late:Nat→Bool) (fuel:Nat) (listed:Array Bool) (a:Act) (w:I):Prop:=Cl md ops listed→HU P md ops Q S late fuel listed a w
def TakeHU (P:Program) (md:Region.Mode) (ops:Array Oper) (Q:Exit→Act→I→Prop) (S:I→Prop) (late:Nat→Bool) (fuel:Nat) (listed:Array Bool) (a:Act) (w:I) (i:Nat) (oi:Oper):Prop:=
 ∃v,late i=false∧Region.noSelect ops=true∧Region.free md ops listed i=true∧(Region.ready md ops listed).contains i=true∧(∀c a w,Q (.panic c) (a.put oi.dst v) w→Q (.panic c) a w)∧YieldsIf P ops S oi v a∧S w ∧
  HUc P md ops Q S late fuel (listed.setIfInBounds i true) (a.put oi.dst v) w
theorem takeHU {m:Nat} (hg:gated md ops late m=true) {i:Nat} {oi:Oper} {fuel:Nat} {listed:Array Bool} {a:Act} {w:I} (hi:ops[i]?=N oi) (h:TakeHU P md ops Q S late fuel listed a w i oi):HUc P md ops Q S late (fuel+1) listed a w:=by
 obtain⟨v,h0,h1,h2,h3,h4,h5,h6,h7⟩:=h;intro hc;have hr:i∈Region.ready md ops listed:=by simpa using h3
 exact zk4 hg h0 hi (Region.noSelect_spec h1) h4 fuel listed a w hc (Region.free_spec hi h2) hr h5 h6 (h7 (hc.step hr))
def CallHU (P:Program) (md:Region.Mode) (ops:Array Oper) (Q:Exit→Act→I→Prop) (S:I→Prop) (late:Nat→Bool) (fuel:Nat) (listed:Array Bool) (a:Act) (w:I) (i:Nat) (o:Oper):Prop:=
 Region.ready md ops listed=[i]∧∀K':Act→I→Prop,Shut (∀a w,(late i=false→S w)→((late i=false→S w)→HUc P md ops Q S late fuel (listed.setIfInBounds i true) a w)→K' a w) →
  if Region.wanted o (yielded ops a.tmps)=true then Oper.wp P o a w K' Q else K' (a.put o.dst undef) w
theorem callHU {i:Nat} {o:Oper} {fuel:Nat} {listed:Array Bool} {a:Act} {w:I} (hi:ops[i]?=N o) (h:CallHU P md ops Q S late fuel listed a w i o):HUc P md ops Q S late (fuel+1) listed a w:=by
 obtain⟨hr,h⟩:=h;intro hc;refine⟨fun h0=>absurd (hr▸h0) (by simp),fun j hj=>?_⟩;have hj':=hj;rw [hr]at hj
 cases List.mem_singleton.1 hj
 exact wpOp_step hi (fun K' hK=>h K' (fun a w hS hW=>hK a w ⟨hS,hW hS (hc.step hj')⟩))
theorem doneHU {listed:Array Bool} {a:Act} {w:I} (hr:Region.ready md ops listed=[]) (h:Q .normal a w):∀fuel,HUc P md ops Q S late fuel listed a w
 | 0=>fun _=>⟨hr,h⟩
 | _+1=>fun _=>⟨fun _=>h,by rw [hr];simp⟩
theorem tu1 {v:A} {i:Nat} {oi:Oper} {fuel:Nat} {listed:Array Bool} {a:Act} {w:I} {G:Prop} (h:G) (hg:gated md ops late 12=true:=by kernel_rfl) (hi:ops[i]?=N oi:=by(simp only [gA,gS,gZ];rfl)) (h0:late i=false:=by rfl) (h1:Region.noSelect ops=true:=by kernel_rfl) (h2:Region.free md ops listed i=true:=by kernel_rfl) (h3:(Region.ready md ops listed).contains i=true:=by kernel_rfl) (h4:∀c a w,Q (.panic c) (a.put oi.dst v) w→Q (.panic c) a w:=by exact fun _ _ _ h=>h) (hw:Region.wanted oi (yielded ops a.tmps)=true:=by rfl) (hy:∀w,S w→(execOp a.eval oi).run P w = .ok (.value v) w:=by(intro w hSw;simp only [CellL,and_true]at hSw;go_simp;try(with_reducible rfl))) (h6:S w:=by(with_reducible assumption)) (hG:HUc P md ops Q S late fuel (listed.setIfInBounds i true) (a.put oi.dst v) w=G:=by((try simp only [Act.put,sA,sZ,sS]);rfl)):HUc P md ops Q S late (fuel+1) listed a w:=by
 subst hG;exact takeHU hg hi ⟨v,h0,h1,h2,h3,h4,Or.inl ⟨hw,hy⟩,h6,h⟩
theorem tun {v:A} {i:Nat} {oi:Oper} {fuel:Nat} {listed:Array Bool} {a:Act} {w:I} {G:Prop} (h:G) (hg:gated md ops late 12=true:=by kernel_rfl) (hi:ops[i]?=N oi:=by(simp only [gA,gS,gZ];rfl)) (h0:late i=false:=by rfl) (h1:Region.noSelect ops=true:=by kernel_rfl) (h2:Region.free md ops listed i=true:=by kernel_rfl) (h3:(Region.ready md ops listed).contains i=true:=by kernel_rfl) (h4:∀c a w,Q (.panic c) (a.put oi.dst v) w→Q (.panic c) a w:=by exact fun _ _ _ h=>h) (hw:Region.wanted oi (yielded ops a.tmps)=true:=by rfl) (hy:∀w,S w→(execOp a.eval oi).run P w = .ok (.value v) w:=by(intro w hSw;simp only [CellL,and_true]at hSw;go_simp;try(with_reducible rfl))) (h6:S w:=by(with_reducible assumption)) (hG:wpN (i+1) (HUc P md ops Q S late fuel (listed.setIfInBounds i true) (a.put oi.dst v) w)=G:=by((try simp only [Act.put,sA,sZ,sS,Nat.reduceAdd]);rfl)):wpN i (HUc P md ops Q S late (fuel+1) listed a w):=by
 subst hG;exact takeHU hg hi ⟨v,h0,h1,h2,h3,h4,Or.inl ⟨hw,hy⟩,h6,h⟩
theorem cu1 {i:Nat} {o:Oper} {fuel:Nat} {listed:Array Bool} {a:Act} {w:I} (h:∀K':Act→I→Prop,Shut (∀a w,(late i=false→S w)→((late i=false→S w)→HUc P md ops Q S late fuel (listed.setIfInBounds i true) a w)→K' a w)→if Region.wanted o (yielded ops a.tmps)=true then Oper.wp P o a w K' Q else K' (a.put o.dst undef) w) (hi:ops[i]?=N o:=by(simp only [gA,gS,gZ];rfl)) (hr:Region.ready md ops listed=[i]:=by kernel_rfl):HUc P md ops Q S late (fuel+1) listed a w:=callHU hi ⟨hr,h⟩
theorem callHU2 {i j:Nat} {oi oj:Oper} {fuel:Nat} {listed:Array Bool} {a:Act} {w:I}
  (h1:∀K':Act→I→Prop,Shut (∀a w,(late i=false→S w)→((late i=false→S w)→HUc P md ops Q S late fuel (listed.setIfInBounds i true) a w)→K' a w)→if Region.wanted oi (yielded ops a.tmps)=true then Oper.wp P oi a w K' Q else K' (a.put oi.dst undef) w)
  (h2:∀K':Act→I→Prop,Shut (∀a w,(late j=false→S w)→((late j=false→S w)→HUc P md ops Q S late fuel (listed.setIfInBounds j true) a w)→K' a w)→if Region.wanted oj (yielded ops a.tmps)=true then Oper.wp P oj a w K' Q else K' (a.put oj.dst undef) w)
  (hi:ops[i]?=N oi:=by(simp only [gA,gS,gZ];rfl)) (hj:ops[j]?=N oj:=by(simp only [gA,gS,gZ];rfl)) (hr:Region.ready md ops listed=[i,j]:=by kernel_rfl) :
  HUc P md ops Q S late (fuel+1) listed a w:=by
 intro hc;refine⟨fun h0=>absurd (hr▸h0) (by simp),fun k hk=>?_⟩;have hk':=hk;rw [hr]at hk
 rcases List.mem_cons.1 hk with rfl|hk2
 ·exact wpOp_step hi (fun K' hK=>h1 K' (fun a w hS hW=>hK a w ⟨hS,hW hS (hc.step hk')⟩))
 ·cases List.mem_singleton.1 hk2
  exact wpOp_step hj (fun K' hK=>h2 K' (fun a w hS hW=>hK a w ⟨hS,hW hS (hc.step hk')⟩))
theorem zap {id:Nat} {a:Act} {w:I} (late:Nat→Bool) (S:I→Prop) (hm:P.follows .mixedOrders=true) (hS:S w.drew)
  (h:S w.drew→HUc P .any ops Q S late ops.size (Array.replicate ops.size false) a w.drew):(Code.region id ops true).wp P Q a w:=
 wp_region_any hm (zek _ _ _ _ (h hS (Cl.start _)))
end
end
section
open Go.RowKit Go.Shelf
theorem ziy (w:I) (vg vs:A) (b:Int) (hb:b<0) (hg:∃a n c,vg=O a n c) (hs:∃a n c,vs=O a n c) :
  Calls Tryz.prog 68 #[U #[vg,vs],Y Z b] w fun e w'=>e = .returned vg∧Ext w w':=by
 obtain⟨ga,gn,gc,rfl⟩:=hg;obtain⟨sa,sn,sc,rfl⟩:=hs;go_enter Tryz.func68,Tryz.ntmps68;go_wp2;go_ret;exact⟨rfl,eA⟩
theorem zkU (w:I) (vg vs:A) (ps:List Pl) (i:Nat) (p:Pl) (hg:∃a n c,vg=O a n c) (hs:IsLas w vs ps) (hp:ps[i]?=N p) :
  Calls Tryz.prog 68 #[U #[vg,vs],Y Z i] w fun e w'=>∃v,e = .returned v∧IsPts w' v (upP2 p)∧Ext w w':=by
 obtain⟨ga,gn,gc,rfl⟩:=hg;obtain⟨sa,n,sc,rfl⟩:=form3 hs;have hl:=hs.len;have hle:=hs.le;obtain⟨b,o,s,vl,vu,rfl,hb,d1,d2,d3,hc⟩:=hs.at' hp;obtain⟨ua,un,uc,rfl⟩:=form3 d3;have cc:=hc 11 (O ua un uc) rfl;have hi:=(lS.1 hp).1;have p1:(0:Int)≤(i:Int):=by omega
 have p2:(i:Int)<(n:Int):=by omega
 have p3:i<n:=by omega
 have p4:¬(i:Int)<0:=by omega
 have HD:=hd9 d3;clear hs hp hc d1 d2 d3 hl hle hi;go_enter Tryz.func68,Tryz.ntmps68;go_wp2;go_ret;exact⟨_,rfl,HD.out.ext' eA,eA⟩
def wrongB (n:Nat) (i pin:Int):Bool:=decide (i<0) || (decide ((n:Int)≤i) || (decide (pin<0) || decide (50<pin)))
theorem zk1 (w:I) (vg:A) (sa:Option Addr) (n sc:Nat) (i pin:Int) (hg:∃a n c,vg=O a n c) :
  Calls Tryz.prog 31 #[U #[vg,O sa n sc],Y Z i,Y Z pin] w fun e w'=>e = .returned (F (wrongB n i pin))∧Ext w w':=by
 obtain⟨ga,gn,gc,rfl⟩:=hg
 by_cases h1:i<0
 ·have e:wrongB n i pin=true:=by unfold wrongB;simp [h1]
  rw [e];go_enter Tryz.func31,Tryz.ntmps31;go_wp2;go_ret;exact⟨rfl,eA⟩
 by_cases h2:(n:Int)≤i
 ·have e:wrongB n i pin=true:=by unfold wrongB;simp [h2]
  rw [e];go_enter Tryz.func31,Tryz.ntmps31;go_wp2;go_ret;exact⟨rfl,eA⟩
 by_cases h3:pin<0
 ·have e:wrongB n i pin=true:=by unfold wrongB;simp [h3]
  rw [e];go_enter Tryz.func31,Tryz.ntmps31;go_wp2;go_ret;exact⟨rfl,eA⟩
 ·have e:wrongB n i pin=decide (50<pin):=by unfold wrongB;rw [decide_eq_false h1,decide_eq_false h2,decide_eq_false h3];rfl
  rw [e];go_enter Tryz.func31,Tryz.ntmps31;go_wp2;go_ret;exact⟨rfl,eA⟩
theorem zkW (w:I) (o o':Obj):((w.alloc o).alloc o').heap[w.heap.size+1]?=N o':=qhA _ _ _ (by simp)
def IsV (w:I) (v:A) (x z:Rat):Prop:=∃a m c s a2 m2 c2 b n k t b2 n2 k2,v=U #[O a m c,F s,O a2 m2 c2,O b n k,F t,O b2 n2 k2]∧IsR w (U #[O a m c,F s,O a2 m2 c2]) x∧IsR w (U #[O b n k,F t,O b2 n2 k2]) z
theorem IsV.ext {w w':I} {v:A} {x z:Rat} (h:IsV w v x z) (k:Ext w w'):IsV w' v x z:=by
 obtain⟨a,m,c,s,a2,m2,c2,b,n,k1,t,b2,n2,k2,h1,h2,h3⟩:=h;exact⟨a,m,c,s,a2,m2,c2,b,n,k1,t,b2,n2,k2,h1,h2.ext k,h3.ext k⟩
theorem zcW (w:I) (vx:A) (x:Rat) (p:Pl) (bl:Nat) (s vl vu:A) (hx:IsR w vx x) (hb:Rb 1000 x) (hbl:w.heap[bl]?=N (M (lac p s vl vu) 145 (0,0))) (hl:IsPts w vl (lowP2 p)) (hok:LnOk (lowP2 p)) :
  Calls Tryz.prog 71 #[vx,C (N ⟨bl,0,V⟩)] w fun e w'=>∃v,e = .returned v∧IsV w' v x (atR (lowP2 p) x)∧Ext w w':=by
 have HA:=hd9 (fun W (hW:Ext w W)=>zgp W vl vx (lowP2 p) x (hl.ext' hW) hok (hx.ext hW) hb);obtain⟨xa,xm,xc,xs,xa2,xm2,xc2,rfl⟩:=hx.form;obtain⟨la,ln,lc,rfl⟩:=form3 hl;have c10:=qcB hbl (i:=10) (u:=O la ln lc) rfl;have zb:=zab hbl;have zb1:bl<w.heap.size+1:=by omega
 have zb2:bl<w.heap.size+1+1:=by omega
 obtain⟨q,hq⟩:=gX (atR (lowP2 p) x);rw [hq]at HA ⊢;have Hx:=hd9 hx;clear hl hbl hx hq;go_enter Tryz.func71,Tryz.ntmps71;go_wp2;refine wp_region_held_drew (S:=CellL [(⟨w.heap.size,0,V⟩,O xa xm xc),(⟨w.heap.size,1,V⟩,F xs),(⟨w.heap.size,2,V⟩,O xa2 xm2 xc2),(⟨bl,10,V⟩,O la ln lc)]) (by kernel_rfl) cA (fun h9H=>?_);refine sN 0 ?_
 iterate 4
  refine tkn ?_
 refine oN ?_;refine cl1 (i:=4) fun K hK=>?_
 go_simp
 (with_reducible refine cM (HA.out _ eA) ?_)
 rintro e w3 ⟨v3,rfl,hr3,hx3⟩;obtain⟨a3,m3,c3,s3,b3,n3,k3,rfl⟩:=hr3.form
 go_wp2_with fail
 refine kO hK (cE h9H hx3) (fun h9H=>?_);clear hK K;refine tk1 (i:=5) ?_;have K3:=hx3.heapS (zkW w (M #[O xa xm xc,F xs,O xa2 xm2 xc2] 56) (M #[O V 0 0,F false,O V 0 0,O V 0 0,F false,O V 0 0] 58));have k0:=qcB K3 (i:=0) (u:=O V 0 0) rfl;have k1:=qcB K3 (i:=1) (u:=F false) rfl;have k2:=qcB K3 (i:=2) (u:=O V 0 0) rfl;have k3':=qcB K3 (i:=3) (u:=O V 0 0) rfl;have k4:=qcB K3 (i:=4) (u:=F false) rfl;have k5:=qcB K3 (i:=5) (u:=O V 0 0) rfl;have kf:=qfB K3;have hX3:Ext w w3:=((((eR w).alloc _).alloc _).drew).trans hx3
 have Hne:=hd9 (show ∀q∈[((⟨w.heap.size,0,V⟩:Addr),Value.slice xa xm xc),(⟨w.heap.size,1,V⟩,F xs),(⟨w.heap.size,2,V⟩,O xa2 xm2 xc2),(⟨bl,10,V⟩,O la ln lc)],w.heap.size+1≠q.1.block from fun q hq h=>by
  simp at hq
  rcases hq with rfl|rfl|rfl|rfl<;>(dsimp only at h;omega))
 have HK3:=hd9 K3;have HX3:=hd9 hX3;have Hr3:=hd9 hr3;clear K3 hX3 hr3;refine cl1 (i:=6) fun K hK=>?_
 go_simp;refine kO hK (CellL.set (p:=⟨w.heap.size+1,5,V⟩) (CellL.set (p:=⟨w.heap.size+1,4,V⟩) (CellL.set (p:=⟨w.heap.size+1,3,V⟩) (CellL.set (p:=⟨w.heap.size+1,2,V⟩) (CellL.set (p:=⟨w.heap.size+1,1,V⟩) (CellL.set (p:=⟨w.heap.size+1,0,V⟩) h9H Hne.out _) Hne.out _) Hne.out _) Hne.out _) Hne.out _) Hne.out _) (fun h9H=>?_);clear hK K;refine wpAnyH_done (by kernel_rfl) ?_ _;go_wp2;have n0:NoT 2 w3 (w.heap.size+1):=by intro cs fr e;rw [HK3.out]at e;cases e
 have hk9:∀(u0 u1 u2 u3 u4 u5:A),KeepT 2 w3 ((((((w3.setCell ⟨w.heap.size+1,0,V⟩ u0).setCell ⟨w.heap.size+1,1,V⟩ u1).setCell ⟨w.heap.size+1,2,V⟩ u2).setCell ⟨w.heap.size+1,3,V⟩ u3).setCell ⟨w.heap.size+1,4,V⟩ u4).setCell ⟨w.heap.size+1,5,V⟩ u5):=fun u0 u1 u2 u3 u4 u5=>by
  repeat(first|with_reducible exact KeepT.refl _ _|(with_reducible refine KeepT.setN ?_ ?_ _)|with_reducible exact n0|with_reducible refine NoT.set ?_ _ _)
 refine bR (v:=U #[O xa xm xc,F xs,O xa2 xm2 xc2,O a3 m3 c3,F s3,O b3 n3 k3]) (by simp [results,Tryz.results71,go_sem,k0,k1,k2,k3',k4,k5,kf]) rfl ⟨_,rfl,⟨_,_,_,_,_,_,_,_,_,_,_,_,_,_,rfl,(Hx.out.ext HX3.out).keep (hk9 _ _ _ _ _ _),Hr3.out.keep (hk9 _ _ _ _ _ _)⟩,?_⟩
 repeat(first|with_reducible exact HX3.out|(with_reducible refine Ext.set ?_ (by dsimp only;omega) _))
end
end Go.Proofs.YteipgejmhfpkaaaGreatDoor.Cop
