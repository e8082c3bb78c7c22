/- Part 38: contracts of what the law calls. -/
import Derived.Test.YteipgejmhfpkaaaGreatDoorCopA36
set_option maxRecDepth 1000000
set_option maxHeartbeats 16000000
set_option linter.unusedSimpArgs false
set_option linter.unusedVariables false
open Go.Value renaming int→O
open Go.IntKind renaming i64→Y
open Option renaming none→Z
namespace Go.Proofs.YteipgejmhfpkaaaGreatDoor.Cop
section
open Go.RowKit Go.Shelf Go.Sort Go.Lib
attribute [local go_sem] Oper.semAt_some
def minR (r:Ru) (L:List Jt) (k:Nat) (fr:Int):Nat→Int
 | 0=>fr
 | i+1=>if folB r L k i=true then min (minR r L k fr i) ((rootsP r L L.length).getD i 0)else minR r L k fr i
theorem zaV (r:Ru) (L:List Jt):∀(m k i:Nat),i<k→k≤m→(rootsP r L m).getD i 0=(rootsP r L k).getD i 0
 | 0,k,i,h1,h2=>absurd h1 (by omega)
 | m+1,k,i,h1,h2=>by
  by_cases h:k=m+1
  ·rw [h]
  ·rw [←zaV r L m k i h1 (by omega)]
   show (rootsP r L m++_).getD i 0=_
   rw [gD,List.getElem?_append_left (by rw [zam];omega),←gD]
theorem zfE (r:Ru) (L:List Jt) (k:Nat) (fr:Int):∀i,i≤L.length→minR r L k fr i=((List.range i).filter (folB r L k)).foldl (fun o i=>min o ((rootsP r L L.length).getD i 0)) fr
 | 0,_=>rfl
 | i+1,h=>by
  unfold minR;rw [List.range_succ,List.filter_append,List.foldl_append,zfE r L k fr i (by omega)]
  by_cases hf:folB r L k i=true
  ·rw [if_pos hf];simp [hf]
  ·rw [if_neg hf];simp [hf]
theorem zmd {r:Ru} {L:List Jt} (hs:L.Pairwise (fun a b=>¬cfT b a<0)) {k i:Nat} (h:folB r L k i=true):i<k:=by
 apply Classical.byContradiction
 intro hn;unfold folB at h
 split at h
 ·rename_i a b e1 e2
  unfold followsB at h;simp only [Bool.and_eq_true,decide_eq_true_eq]at h
  by_cases hk:k=i
  ·subst hk
   rw [e1]at e2
   cases e2
   omega
  ·obtain⟨hi,e1⟩:=lS.1 e1
   obtain⟨hk2,e2⟩:=lS.1 e2;have:=List.pairwise_iff_getElem.1 hs k i hk2 hi (by omega);rw [e1,e2,zfn]at this;omega
 ·cases h
theorem zjV {r:Ru} {L:List Jt} (hs:L.Pairwise (fun a b=>¬cfT b a<0)) {k:Nat} {j:Jt} (hj:L[k]?=some j):minR r L k j.fr L.length=(rootsP r L L.length).getD k 0:=by
 have hk:=(lS.1 hj).1;rw [zfE r L k j.fr L.length (nE _),zaV r L L.length (k+1) k (by omega) (by omega)]
 have e:(rootsP r L (k+1)).getD k 0=rootP r L (rootsP r L k) k j.fr:=by
  show (rootsP r L k++_).getD k 0=_
  rw [gD,List.getElem?_append_right (by rw [zam];omega),zam,Nat.sub_self,hj];rfl
 rw [e];unfold rootP befL
 have e2:(List.range L.length).filter (folB r L k)=(List.range k).filter (folB r L k):=by
  have h3:List.range L.length=List.range k++(List.range (L.length-k)).map (k+·):=by
   rw [←List.range_add];congr 1;omega
  rw [h3,List.filter_append]
  have h4:((List.range (L.length-k)).map (k+·)).filter (folB r L k)=[]:=by
   rw [List.filter_eq_nil_iff];intro i hi hf;obtain⟨m,_,rfl⟩:=List.mem_map.1 hi;have:=zmd hs hf;omega
  rw [h4,List.append_nil]
 rw [e2]
 have key:∀(l:List Nat) (o:Int),(∀i∈l,i<k)→l.foldl (fun o i=>min o ((rootsP r L L.length).getD i 0)) o=l.foldl (fun o i=>min o ((rootsP r L k).getD i 0)) o:=by
  intro l
  induction l with
  | nil=>intro o _;rfl
  | cons i l ih =>
   intro o h;rw [List.foldl_cons,List.foldl_cons,zaV r L L.length k i (h i (by simp)) (by omega)];exact ih _ (fun z hz=>h z (mC _ hz))
 exact key _ _ (fun i hi=>List.mem_range.1 (List.mem_filter.1 hi).1)
def ChnS (W0:World) (r:Ru) (L:List Jt) (k:Nat) (fr til:Int) (gk:Nat) (t7 t8:Value) (W:World):Prop:=
 ∃i:Nat,i≤L.length∧t8=O Y (i:Nat)∧t7=O Y (til-minR r L k fr i)∧gk=L.length-i∧Ext W0 W
theorem zjU {r:Ru} {L:List Jt} {k:Nat} {fr:Int} (h1:Bd 1000000 fr) (h2:∀z∈rootsP r L L.length,Bd 1000000 z):∀i,Bd 1000000 (minR r L k fr i)
 | 0=>h1
 | i+1=>by
  have ih:=zjU (k:=k) h1 h2 i
  have hz:Bd 1000000 ((rootsP r L L.length).getD i 0):=by
   rw [gD]
   cases h9:(rootsP r L L.length)[i]? with
   | none=>unfold Bd;simp
   | some v=>exact h2 v (lM h9)
  unfold minR
  split
  ·unfold Bd at *;omega
  ·exact ih
def CutI (d:Int) (W0:World) (t:Value) (W:World):Prop:=t=O Y d∧Ext W0 W
def CutF (b:Bool) (W0:World) (t:Value) (W:World):Prop:=t = .bool b∧Ext W0 W
theorem zeq (r:Ru) (L:List Jt) (hs:L.Pairwise (fun a b=>¬cfT b a<0)) (hL:∀j∈L,BJt j) (hl9:L.length≤100000) (k:Nat) (hk:k<L.length) (w:World) (vL:Value) (hj:IsJts w vL L)
  (ih:∀i,i<k→∀W,Ext w W→Calls Tryz.prog 17 #[.agg (ruc r),vL,O Y i] W fun e w'=>e = .returned (O Y (hgt L (rootsP r L L.length) i))∧Ext W w') :
  Calls Tryz.prog 17 #[.agg (ruc r),vL,O Y k] w fun e w'=>e = .returned (O Y (hgt L (rootsP r L L.length) k))∧Ext w w':=by
 have hrb:=zbX (r:=r) hL L.length;obtain⟨ja,n,jc9,rfl⟩:=form3 hj;have Hn:=hd9 (show n=L.length from hj.len);have Hj:=hd9 hj;obtain⟨jk,hjk⟩:∃j,L[k]?=some j:=⟨L[k]'hk,gE hk⟩
 have hfin:hgt L (rootsP r L L.length) k=jk.til-minR r L k jk.fr L.length:=by
  unfold hgt;rw [zjV hs hjk,hjk]
 rw [hfin];have hbk:=hL jk (lM hjk);obtain⟨bj,oj,d,rfl,hbj,_,hd,hck⟩:=Sl.at hj hjk;subst hd;obtain⟨kA,kB,kl,kr,kf,kt⟩:=jk;dsimp only;have k2:=hck 2 (O Y kl) rfl;have k3:=hck 3 (O Y kr) rfl;have k4:=hck 4 (O Y kf) rfl;have k5:=hck 5 (O Y kt) rfl;obtain⟨_,_,e2,e3,e4,e5⟩:=hbk;dsimp only at e2 e3 e4 e5;have Hjk:=hd9 hjk;have Hik:=hd9 (fun(i:Nat) (h:folB r L k i=true)=>zmd hs h);have HL:=hd9 hL;have HMb:=hd9 (fun i=>zjU (k:=k) e4 hrb i);have Hrb:=hd9 hrb;have hn9:n≤100000:=by rw [Hn.out];exact hl9
 have hkn:k<n:=by rw [Hn.out];exact hk
 obtain⟨sk,pin,wide,lap,step,run,level⟩:=r;obtain⟨ru,hru⟩:∃x:Ru,(⟨sk,pin,wide,lap,step,run,level⟩:Ru)=x:=⟨_,rfl⟩;have Hru:=hd9 hru;rw [hru]at HMb Hrb Hik;rw [hru];have hruc:ruc ru=#[O .u8 sk,O Y pin,O Y wide,O Y lap,O Y step,O Y run,O Y level]:=by rw [←hru];rfl
 rw [hru,hruc]at ih;rw [hruc];have Hih:=hd9 ih;obtain⟨R,hR⟩:∃R:Ending→World→Prop,(fun e w'=>e = .returned (O Y (kt-minR ru L k kf L.length))∧Ext w w')=R:=⟨_,rfl⟩;rw [hR];have HR:=hd9 hR;unfold Bd at e2 e3 e4 e5;have p1:(0:Int)≤(k:Int):=by omega
 have p2:(k:Int)<(n:Int):=by omega
 have q0:IntKind.i64.wrap (kt-kf)=kt-kf:=iW _ ⟨by omega,by omega⟩;have q0':wrap64 (kt-kf)=kt-kf:=IntWalk.wrap64_in _ ⟨by omega,by omega⟩;clear hck hjk hs hL hrb hru hruc ih hR hj hfin hl9 hk;go_enter Tryz.func17,Tryz.ntmps17
 go_upto_region 1 with fail
 refine wp_region_held_drew (S:=CellL [(⟨bj,oj+k*6+4,Z⟩,O Y kf),(⟨bj,oj+k*6+5,Z⟩,O Y kt)]) (by kernel_rfl) cA (fun h9H=>?_);refine sN 0 ?_
 iterate 12
  refine tkn ?_
 refine oN ?_;refine wpAnyH_done (by kernel_rfl) ?_ _;obtain⟨W0,hW0⟩:=gX ((w.alloc (.cells #[O .u8 sk,O Y pin,O Y wide,O Y lap,O Y step,O Y run,O Y level] 35)).drew);have hX0:Ext w W0:=by rw [←hW0];exact((eR w).alloc _).drew
 have hK0:W0.heap[w.heap.size]?=some (.cells #[O .u8 sk,O Y pin,O Y wide,O Y lap,O Y step,O Y run,O Y level] 35 (0,0)):=by rw [←hW0];exact((eR _).drew).heapS (aN w _)
 rw [hW0];have HX0:=hd9 hX0;have HK0:=hd9 hK0;clear hW0 hX0 hK0 h9H;go_wp2
 go_loopg [7,8] n (ChnS W0 ru L k kf kt)
 case atStart=>exact⟨0,Nat.zero_le _,rfl,rfl,by rw [Hn.out];rfl,eR _⟩
 case round =>
  obtain⟨i,hi,rfl,rfl,rfl,hx⟩:=hrel;rw [←Hn.out]at hi
  by_cases hlt:i<n
  ·obtain⟨ji,hji⟩:∃j,L[i]?=some j:=⟨L[i]'(by rw [←Hn.out];exact hlt),gE _⟩
   have hbi:=HL.out ji (lM hji);obtain⟨b2,o2,d,e9,_,_,hd,hci⟩:=Sl.at (Hj.out.ext' (HX0.out.trans hx)) hji
   cases e9
   subst hd;have hfol:folB ru L k i=followsB ru ji ⟨kA,kB,kl,kr,kf,kt⟩:=by unfold folB;rw [hji,Hjk.out]
   have hhi:hgt L (rootsP ru L L.length) i=ji.til-(rootsP ru L L.length).getD i 0:=by unfold hgt;rw [hji]
   obtain⟨iA,iB,il,ir,ff,it⟩:=ji;dsimp only at hhi;have i2:=hci 2 (O Y il) rfl;have i3:=hci 3 (O Y ir) rfl;have i4:=hci 4 (O Y ff) rfl;have i5:=hci 5 (O Y it) rfl;obtain⟨_,_,f2,f3,f4,f5⟩:=hbi;dsimp only at f2 f3 f4 f5;unfold Bd at f2 f3 f4 f5;have k2:=(HX0.out.trans hx).cellS k2;have k3:=(HX0.out.trans hx).cellS k3;have k4:=(HX0.out.trans hx).cellS k4;have k5:=(HX0.out.trans hx).cellS k5;have K0:=hx.heapS HK0.out;have r0:=qcB K0 (i:=0) (u:=O .u8 sk) rfl;have r1:=qcB K0 (i:=1) (u:=O Y pin) rfl;have r2:=qcB K0 (i:=2) (u:=O Y wide) rfl;have r3:=qcB K0 (i:=3) (u:=O Y lap) rfl;have r4:=qcB K0 (i:=4) (u:=O Y step) rfl;have r5:=qcB K0 (i:=5) (u:=O Y run) rfl;have r6:=qcB K0 (i:=6) (u:=O Y level) rfl;have s1:(0:Int)≤(i:Int):=by omega
   have s2:(i:Int)<(n:Int):=by omega
   have q1:IntKind.i64.wrap (kl-ir)=kl-ir:=iW _ ⟨by omega,by omega⟩;have q1':wrap64 (kl-ir)=kl-ir:=IntWalk.wrap64_in _ ⟨by omega,by omega⟩;have q2:IntKind.i64.wrap (il-kr)=il-kr:=iW _ ⟨by omega,by omega⟩;have q2':wrap64 (il-kr)=il-kr:=IntWalk.wrap64_in _ ⟨by omega,by omega⟩;have q3:IntKind.i64.wrap (kf-it)=kf-it:=iW _ ⟨by omega,by omega⟩;have q3':wrap64 (kf-it)=kf-it:=IntWalk.wrap64_in _ ⟨by omega,by omega⟩;have q4:IntKind.i64.wrap (-(kf-it)) = -(kf-it):=iW _ ⟨by omega,by omega⟩;have q4':wrap64 (-(kf-it)) = -(kf-it):=IntWalk.wrap64_in _ ⟨by omega,by omega⟩;obtain⟨rt,hrt⟩:=gX ((rootsP ru L L.length).getD i 0)
   have hrtb:Bd 1000000 rt:=by
    rw [←hrt,gD]
    cases h9:(rootsP ru L L.length)[i]? with
    | none=>unfold Bd;simp
    | some v=>exact Hrb.out v (lM h9)
   have hmb:=HMb.out i
   have hstp:minR ru L k kf (i+1)=if folB ru L k i=true then min (minR ru L k kf i) rt else minR ru L k kf i:=by
    rw [←hrt];rfl
   obtain⟨m,hm⟩:=gX (minR ru L k kf i);rw [hm]at hmb hstp ⊢;rw [hrt]at hhi;have Hstp:=hd9 hstp;have Hhi:=hd9 hhi;have Hx:=hd9 hx;obtain⟨d,hd⟩:=gX (max 0 (max (kl-ir) (il-kr)));have hdm:max (max 0 (kl-ir)) (il-kr)=d:=by rw [←hd];omega
   have Hd:=hd9 hd;have Hfol:=hd9 hfol;unfold Bd at hrtb hmb;clear hci hji hx K0 hstp hhi hrt hm hd hfol
   go_upto_region 5 with fail
   go_cut [9] (CutI d wr)
   case first =>
    refine wp_region_held_drew (S:=CellL [(⟨bj,oj+k*6+2,Z⟩,O Y kl),(⟨bj,oj+k*6+3,Z⟩,O Y kr),(⟨bj,oj+k*6+4,Z⟩,O Y kf),(⟨bj,oj+k*6+5,Z⟩,O Y kt),(⟨bj,oj+i*6+2,Z⟩,O Y il),(⟨bj,oj+i*6+3,Z⟩,O Y ir),(⟨bj,oj+i*6+4,Z⟩,O Y ff),(⟨bj,oj+i*6+5,Z⟩,O Y it),(⟨w.heap.size,0,Z⟩,O .u8 sk),(⟨w.heap.size,1,Z⟩,O Y pin),(⟨w.heap.size,2,Z⟩,O Y wide),(⟨w.heap.size,3,Z⟩,O Y lap),(⟨w.heap.size,4,Z⟩,O Y step),(⟨w.heap.size,5,Z⟩,O Y run),(⟨w.heap.size,6,Z⟩,O Y level)]) (by kernel_rfl) cA (fun h9H=>?_);refine sN 0 ?_
    iterate 24
     refine tkn ?_
    refine oN ?_;refine wpAnyH_done (by kernel_rfl) ?_ _;go_wp2
    all_goals go_meet
    all_goals refine⟨?_,(eR _).drew⟩
    all_goals congr 1
    all_goals(have hd:=Hd.out;clear h9H;first|omega|(split at *<;>omega))
   case rest =>
    obtain⟨rfl,hx5⟩:=hcut;have k2:=hx5.cellS k2;have k3:=hx5.cellS k3;have k4:=hx5.cellS k4;have k5:=hx5.cellS k5;have i2:=hx5.cellS i2;have i3:=hx5.cellS i3;have i4:=hx5.cellS i4;have i5:=hx5.cellS i5;have r0:=hx5.cellS r0;have r1:=hx5.cellS r1;have r2:=hx5.cellS r2;have r3:=hx5.cellS r3;have r4:=hx5.cellS r4;have r5:=hx5.cellS r5;have r6:=hx5.cellS r6;have Hx:=hd9 (Hx.out.trans hx5);clear hx5
    go_upto_region 6 with fail
    refine wp_region_held_drew (S:=CellL [(⟨bj,oj+k*6+2,Z⟩,O Y kl),(⟨bj,oj+k*6+3,Z⟩,O Y kr),(⟨bj,oj+k*6+4,Z⟩,O Y kf),(⟨bj,oj+k*6+5,Z⟩,O Y kt),(⟨bj,oj+i*6+2,Z⟩,O Y il),(⟨bj,oj+i*6+3,Z⟩,O Y ir),(⟨bj,oj+i*6+4,Z⟩,O Y ff),(⟨bj,oj+i*6+5,Z⟩,O Y it),(⟨w.heap.size,0,Z⟩,O .u8 sk),(⟨w.heap.size,1,Z⟩,O Y pin),(⟨w.heap.size,2,Z⟩,O Y wide),(⟨w.heap.size,3,Z⟩,O Y lap),(⟨w.heap.size,4,Z⟩,O Y step),(⟨w.heap.size,5,Z⟩,O Y run),(⟨w.heap.size,6,Z⟩,O Y level)]) (by kernel_rfl) cA (fun h9H=>?_);refine sN 0 ?_
    iterate 12
     refine tkn ?_
    refine oN ?_;refine wpAnyH_done (by kernel_rfl) ?_ _;obtain⟨W6,hW6⟩:=gX wc.drew;have hE6:Ext wc W6:=by rw [←hW6];exact(eR _).drew
    rw [hW6];have k2:=hE6.cellS k2;have k3:=hE6.cellS k3;have k4:=hE6.cellS k4;have k5:=hE6.cellS k5;have i2:=hE6.cellS i2;have i3:=hE6.cellS i3;have i4:=hE6.cellS i4;have i5:=hE6.cellS i5;have r0:=hE6.cellS r0;have r1:=hE6.cellS r1;have r2:=hE6.cellS r2;have r3:=hE6.cellS r3;have r4:=hE6.cellS r4;have r5:=hE6.cellS r5;have r6:=hE6.cellS r6;have Hx:=hd9 (Hx.out.trans hE6);clear hE6 hW6 h9H;obtain⟨fb,hfb⟩:=gX (folB ru L k i)
    have hfe:fb=(decide (ff<kf)&&(decide (max (kf-it) (it-kf)≤step)&&decide (d<lap))):=by
     rw [←hfb,Hfol.out,←Hru.out,←Hd.out];rfl
    have Hfb:=hd9 hfb;have Hfe:=hd9 hfe;clear hfb hfe
    go_upto_region 7 with fail
    go_cut [91] (CutF fb W6)
    case first =>
     by_cases c1:ff<kf
     ·by_cases c2:kf-it≤step
      ·by_cases c3 : -(kf-it)≤step
       ·by_cases c4:d<lap
        ·skip
         have e:fb=true:=by rw [Hfe.out];simp [c1,c4];omega
         subst e;refine wp_region_held_drew (S:=CellL [(⟨bj,oj+k*6+2,Z⟩,O Y kl),(⟨bj,oj+k*6+3,Z⟩,O Y kr),(⟨bj,oj+k*6+4,Z⟩,O Y kf),(⟨bj,oj+k*6+5,Z⟩,O Y kt),(⟨bj,oj+i*6+2,Z⟩,O Y il),(⟨bj,oj+i*6+3,Z⟩,O Y ir),(⟨bj,oj+i*6+4,Z⟩,O Y ff),(⟨bj,oj+i*6+5,Z⟩,O Y it),(⟨w.heap.size,0,Z⟩,O .u8 sk),(⟨w.heap.size,1,Z⟩,O Y pin),(⟨w.heap.size,2,Z⟩,O Y wide),(⟨w.heap.size,3,Z⟩,O Y lap),(⟨w.heap.size,4,Z⟩,O Y step),(⟨w.heap.size,5,Z⟩,O Y run),(⟨w.heap.size,6,Z⟩,O Y level)]) (by kernel_rfl) cA (fun h9H=>?_);refine sN 0 ?_
         iterate 30
          refine tkn ?_
         refine oN ?_;refine wpAnyH_done (by kernel_rfl) ?_ _;go_wp2;go_meet;exact⟨rfl,(eR _).drew⟩
        ·skip
         have e:fb=false:=by rw [Hfe.out];simp [c4]
         subst e;refine wp_region_held_drew (S:=CellL [(⟨bj,oj+k*6+2,Z⟩,O Y kl),(⟨bj,oj+k*6+3,Z⟩,O Y kr),(⟨bj,oj+k*6+4,Z⟩,O Y kf),(⟨bj,oj+k*6+5,Z⟩,O Y kt),(⟨bj,oj+i*6+2,Z⟩,O Y il),(⟨bj,oj+i*6+3,Z⟩,O Y ir),(⟨bj,oj+i*6+4,Z⟩,O Y ff),(⟨bj,oj+i*6+5,Z⟩,O Y it),(⟨w.heap.size,0,Z⟩,O .u8 sk),(⟨w.heap.size,1,Z⟩,O Y pin),(⟨w.heap.size,2,Z⟩,O Y wide),(⟨w.heap.size,3,Z⟩,O Y lap),(⟨w.heap.size,4,Z⟩,O Y step),(⟨w.heap.size,5,Z⟩,O Y run),(⟨w.heap.size,6,Z⟩,O Y level)]) (by kernel_rfl) cA (fun h9H=>?_);refine sN 0 ?_
         iterate 30
          refine tkn ?_
         refine oN ?_;refine wpAnyH_done (by kernel_rfl) ?_ _;go_wp2;go_meet;exact⟨rfl,(eR _).drew⟩
       ·skip
        have e:fb=false:=by rw [Hfe.out];have h9:¬max (kf-it) (it-kf)≤step:=(by omega);simp [h9]
        subst e;refine wp_region_held_drew (S:=CellL [(⟨bj,oj+k*6+2,Z⟩,O Y kl),(⟨bj,oj+k*6+3,Z⟩,O Y kr),(⟨bj,oj+k*6+4,Z⟩,O Y kf),(⟨bj,oj+k*6+5,Z⟩,O Y kt),(⟨bj,oj+i*6+2,Z⟩,O Y il),(⟨bj,oj+i*6+3,Z⟩,O Y ir),(⟨bj,oj+i*6+4,Z⟩,O Y ff),(⟨bj,oj+i*6+5,Z⟩,O Y it),(⟨w.heap.size,0,Z⟩,O .u8 sk),(⟨w.heap.size,1,Z⟩,O Y pin),(⟨w.heap.size,2,Z⟩,O Y wide),(⟨w.heap.size,3,Z⟩,O Y lap),(⟨w.heap.size,4,Z⟩,O Y step),(⟨w.heap.size,5,Z⟩,O Y run),(⟨w.heap.size,6,Z⟩,O Y level)]) (by kernel_rfl) cA (fun h9H=>?_);refine sN 0 ?_
        iterate 25
         refine tkn ?_
        iterate 4
         refine tkgn ?_
        refine tkn ?_;refine oN ?_;refine wpAnyH_done (by kernel_rfl) ?_ _;go_wp2;go_meet;exact⟨rfl,(eR _).drew⟩
      ·skip
       have e:fb=false:=by rw [Hfe.out];have h9:¬max (kf-it) (it-kf)≤step:=(by omega);simp [h9]
       subst e;refine wp_region_held_drew (S:=CellL [(⟨bj,oj+k*6+2,Z⟩,O Y kl),(⟨bj,oj+k*6+3,Z⟩,O Y kr),(⟨bj,oj+k*6+4,Z⟩,O Y kf),(⟨bj,oj+k*6+5,Z⟩,O Y kt),(⟨bj,oj+i*6+2,Z⟩,O Y il),(⟨bj,oj+i*6+3,Z⟩,O Y ir),(⟨bj,oj+i*6+4,Z⟩,O Y ff),(⟨bj,oj+i*6+5,Z⟩,O Y it),(⟨w.heap.size,0,Z⟩,O .u8 sk),(⟨w.heap.size,1,Z⟩,O Y pin),(⟨w.heap.size,2,Z⟩,O Y wide),(⟨w.heap.size,3,Z⟩,O Y lap),(⟨w.heap.size,4,Z⟩,O Y step),(⟨w.heap.size,5,Z⟩,O Y run),(⟨w.heap.size,6,Z⟩,O Y level)]) (by kernel_rfl) cA (fun h9H=>?_);refine sN 0 ?_
       iterate 18
        refine tkn ?_
       iterate 5
        refine tkgn ?_
       iterate 2
        refine tkn ?_
       iterate 4
        refine tkgn ?_
       refine tkn ?_;refine oN ?_;refine wpAnyH_done (by kernel_rfl) ?_ _;go_wp2;go_meet;exact⟨rfl,(eR _).drew⟩
     ·skip
      have e:fb=false:=by rw [Hfe.out];simp [c1]
      subst e;refine wp_region_held_drew (S:=CellL [(⟨bj,oj+k*6+2,Z⟩,O Y kl),(⟨bj,oj+k*6+3,Z⟩,O Y kr),(⟨bj,oj+k*6+4,Z⟩,O Y kf),(⟨bj,oj+k*6+5,Z⟩,O Y kt),(⟨bj,oj+i*6+2,Z⟩,O Y il),(⟨bj,oj+i*6+3,Z⟩,O Y ir),(⟨bj,oj+i*6+4,Z⟩,O Y ff),(⟨bj,oj+i*6+5,Z⟩,O Y it),(⟨w.heap.size,0,Z⟩,O .u8 sk),(⟨w.heap.size,1,Z⟩,O Y pin),(⟨w.heap.size,2,Z⟩,O Y wide),(⟨w.heap.size,3,Z⟩,O Y lap),(⟨w.heap.size,4,Z⟩,O Y step),(⟨w.heap.size,5,Z⟩,O Y run),(⟨w.heap.size,6,Z⟩,O Y level)]) (by kernel_rfl) cA (fun h9H=>?_);refine sN 0 ?_
      iterate 12
       refine tkn ?_
      iterate 4
       refine tkgn ?_
      iterate 2
       refine tkn ?_
      iterate 5
       refine tkgn ?_
      iterate 2
       refine tkn ?_
      iterate 4
       refine tkgn ?_
      refine tkn ?_;refine oN ?_;refine wpAnyH_done (by kernel_rfl) ?_ _;go_wp2;go_meet;exact⟨rfl,(eR _).drew⟩
    case rest =>
     obtain⟨rfl,hx7⟩:=hcut;have k2:=hx7.cellS k2;have k3:=hx7.cellS k3;have k4:=hx7.cellS k4;have k5:=hx7.cellS k5;have i2:=hx7.cellS i2;have i3:=hx7.cellS i3;have i4:=hx7.cellS i4;have i5:=hx7.cellS i5;have r0:=hx7.cellS r0;have r1:=hx7.cellS r1;have r2:=hx7.cellS r2;have r3:=hx7.cellS r3;have r4:=hx7.cellS r4;have r5:=hx7.cellS r5;have r6:=hx7.cellS r6;have Hx:=hd9 (Hx.out.trans hx7);clear hx7
     cases fb with
     | false =>
      go_wp2
      go_roundg (n-(i+1))
      case measure=>have:=Hn.out;omega
      case rel=>exact⟨i+1,by rw [←Hn.out];omega,by go_num,by rw [Hstp.out,Hfb.out];rfl,by rw [Hn.out],Hx.out⟩
     | true =>
      have hik:=Hik.out i Hfb.out;have w1:IntKind.i64.wrap (it-rt+kt)=it-rt+kt:=by rw [show it-rt+kt=it-rt+kt by omega];exact iW _ ⟨by omega,by omega⟩
      have w1':wrap64 (it-rt+kt)=it-rt+kt:=by rw [show it-rt+kt=it-rt+kt by omega];exact IntWalk.wrap64_in _ ⟨by omega,by omega⟩
      have w2:IntKind.i64.wrap (it-rt+kt-it)=kt-rt:=by rw [show it-rt+kt-it=kt-rt by omega];exact iW _ ⟨by omega,by omega⟩
      have w2':wrap64 (it-rt+kt-it)=kt-rt:=by rw [show it-rt+kt-it=kt-rt by omega];exact IntWalk.wrap64_in _ ⟨by omega,by omega⟩
      go_upto_region 8 with fail
      refine wp_region_held_drew (S:=CellL [(⟨bj,oj+k*6+5,Z⟩,O Y kt),(⟨bj,oj+i*6+5,Z⟩,O Y it),(⟨w.heap.size,0,Z⟩,O .u8 sk),(⟨w.heap.size,1,Z⟩,O Y pin),(⟨w.heap.size,2,Z⟩,O Y wide),(⟨w.heap.size,3,Z⟩,O Y lap),(⟨w.heap.size,4,Z⟩,O Y step),(⟨w.heap.size,5,Z⟩,O Y run),(⟨w.heap.size,6,Z⟩,O Y level)]) (by kernel_rfl) cA (fun h9H=>?_);refine sN 0 ?_
      iterate 4
       refine tkn ?_
      refine oN ?_;refine sN 5 ?_
      iterate 5
       refine tkn ?_
      refine oN ?_;refine sN 11 ?_
      iterate 5
       refine tkn ?_
      refine oN ?_;refine cl1 (i:=4) fun K hK=>?_
      go_simp
      (with_reducible refine cM (Hih.out i hik _ (HX0.out.trans Hx.out).drew) ?_)
      rintro e wq ⟨rfl,hxc⟩;rw [Hhi.out]
      go_wp2_with fail
      refine kO hK (cE h9H hxc) (fun h9H=>?_);clear hK K;refine tk1 (i:=10) ?_;refine sN 16 ?_
      iterate 3
       refine tkn ?_
      refine oN ?_;refine wpAnyH_done (by kernel_rfl) ?_ _;have HxW:=hd9 (Hx.out.trans ((eR wc).drew.trans hxc));clear h9H hxc;go_wp2
      go_roundg (n-(i+1))
      case measure=>have:=Hn.out;omega
      case rel=>exact⟨i+1,by rw [←Hn.out];omega,by go_num,by(rw [Hstp.out,Hfb.out,if_pos rfl];congr 1;omega),by rw [Hn.out],HxW.out⟩
  ·obtain rfl:n=i:=by omega
   have Hx:=hd9 hx;clear hx;go_wp2;rw [←HR.out];exact⟨by rw [Hn.out];rfl,HX0.out.trans Hx.out⟩
theorem zfo (r:Ru) (L:List Jt) (hs:L.Pairwise (fun a b=>¬cfT b a<0)) (hL:∀j∈L,BJt j) (hl9:L.length≤100000) (vL:Value):∀(m k:Nat),k≤m→k<L.length→∀(w:World),IsJts w vL L →
  Calls Tryz.prog 17 #[.agg (ruc r),vL,O Y k] w fun e w'=>e = .returned (O Y (hgt L (rootsP r L L.length) k))∧Ext w w'
 | 0,k,hm,hk,w,hj=>zeq r L hs hL hl9 k hk w vL hj (fun i hi=>absurd hi (by omega))
 | m+1,k,hm,hk,w,hj=>zeq r L hs hL hl9 k hk w vL hj (fun i hi W hW=>zfo r L hs hL hl9 vL m i (by omega) (by omega) W (Sl.ext hj (fun _ _ h=>h) hW))
end
section
open Go.RowKit Go.Shelf Go.Sort Go.Lib
theorem zfS (L:List Jt) (rs:List Int) (run:Int):∀n,(∃f,f∈runP L rs run n) ↔ ∃k,k<n∧run<hgt L rs k
 | 0=>⟨fun⟨f,h⟩=>by simp [runP]at h,fun⟨k,h,_⟩=>absurd h (by omega)⟩
 | n+1=>by
  have ih:=zfS L rs run n
  constructor
  ·rintro ⟨f,h⟩
   unfold runP at h
   rcases List.mem_append.1 h with h|h
   ·obtain⟨k,h1,h2⟩:=ih.1 ⟨f,h⟩
    exact⟨k,by omega,h2⟩
   ·by_cases q:run<hgt L rs n
    ·exact⟨n,by omega,q⟩
    ·rw [if_neg q]at h;simp at h
  ·rintro ⟨k,h1,h2⟩
   unfold runP
   by_cases q:k=n
   ·subst q
    exact⟨_,List.mem_append.2 (.inr (by rw [if_pos h2];exact List.mem_singleton.2 rfl))⟩
   ·obtain⟨f,hf⟩:=ih.2 ⟨k,by omega,h2⟩
    exact⟨f,List.mem_append.2 (.inl hf)⟩
def PrvP (r:Ru) (L:List Jt) (ro:List Int):Prop:=
 ∀k j,L[k]?=some j→ro.getD k 0≤j.fr∧j.til-r.run≤ro.getD k 0∧∀i∈befL r L k,ro.getD k 0≤ro.getD i 0
theorem zko {r:Ru} {L:List Jt} {k:Nat} {j:Jt} (hj:L[k]?=some j):(rootsP r L L.length).getD k 0≤j.fr∧∀i∈befL r L k,(rootsP r L L.length).getD k 0≤(rootsP r L L.length).getD i 0:=by
 have hk:=(lS.1 hj).1
 have e:(rootsP r L L.length).getD k 0=rootP r L (rootsP r L k) k j.fr:=by
  rw [zaV r L L.length (k+1) k (by omega) (by omega)]
  show (rootsP r L k++_).getD k 0=_
  rw [gD,List.getElem?_append_right (by rw [zam];omega),zam,Nat.sub_self,hj];rfl
 rw [e];unfold rootP;obtain⟨h1,h2⟩:=zdg (fun i=>(rootsP r L k).getD i 0) (befL r L k) j.fr;refine⟨h1,fun i hi=>?_⟩;have hik:i<k:=by unfold befL at hi;exact List.mem_range.1 (List.mem_filter.1 hi).1
 rw [zaV r L L.length k i hik (by omega)];exact h2 i hi
theorem zm6 {r:Ru} {L:List Jt}:PrvP r L (rootsP r L L.length) ↔ ¬∃k,k<L.length∧r.run<hgt L (rootsP r L L.length) k:=by
 constructor
 ·rintro h ⟨k,hk,h2⟩
  have hj:L[k]?=some (L[k]'hk):=gE hk;have:=(h k _ hj).2.1;unfold hgt at h2;rw [hj]at h2;dsimp only at h2;omega
 ·intro h k j hj
  obtain⟨h1,h2⟩:=zko (r:=r) hj;refine⟨h1,?_,h2⟩;have hk:=(lS.1 hj).1;have h3:¬r.run<hgt L (rootsP r L L.length) k:=fun h9=>h ⟨k,hk,h9⟩
  unfold hgt at h3;rw [hj]at h3;dsimp only at h3;omega
end
end Go.Proofs.YteipgejmhfpkaaaGreatDoor.Cop
