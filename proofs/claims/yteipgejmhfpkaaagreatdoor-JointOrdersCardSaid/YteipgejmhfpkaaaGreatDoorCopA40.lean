/- Part 41 of 44: contracts of what the law calls. -/
import Derived.Test.YteipgejmhfpkaaaGreatDoorCopA35
import Derived.Test.YteipgejmhfpkaaaGreatDoorCopA38
import Derived.Test.YteipgejmhfpkaaaGreatDoorCopA39
import Derived.Laws.StructEq
import Derived.Test.YteipgejmhfpkaaaGreatDoorCopA36
import Derived.Test.YteipgejmhfpkaaaGreatDoorCopA21
set_option linter.unusedSectionVars false
set_option maxRecDepth 1000000
set_option maxHeartbeats 16000000
set_option linter.unusedSimpArgs false
set_option linter.unusedVariables false
namespace Go.Proofs.YteipgejmhfpkaaaGreatDoor.Cop
open Go.RowKit Go.Shelf Go.Maps Go.Sort Go.Lib
attribute [local go_sem] Oper.semAt_some
theorem und2_no (w:World) (x:JS×Value) (b1 b2 B base base' N go n:Nat) (f:Nat→List Int) (os:List Int) (k:Nat) (hkn:x.1.k=(k:Int)) (hv:∃a n c,x.2 = .slice a n c)
  (hm:w.heap[b1]?=some (.cells #[.map (some B)] 140 (0,0))) (ho:w.heap[b2]?=some (.cells #[.slice (some ⟨go,0,none⟩) n n] 36 (0,0))) (hG:Gm w base B N f) (hN:N<1000000)
  (hos:OwnC 3 1 w base' (.slice (some ⟨go,0,none⟩) n n) (os.map ic)) (hk:k<n) (hn:n≤120) (hf:∀z∈f k,0≤z∧z<n) (hno:∃z∈f k,os.getD z.toNat 0=0) :
  Calls Tryz.prog 59 #[.agg (jca x),.pointer (some ⟨b1,0,none⟩),.pointer (some ⟨b2,0,none⟩)] w fun e w'=>e = .returned (.bool false)∧Ext w w':=by
 obtain⟨⟨⟨nm,sh,d,de,gx,gz,wy,ax,az,sk⟩,kk,⟨xl,xh⟩,zl,zh⟩,v⟩:=x;obtain⟨va,vn,vc,rfl⟩:=hv;dsimp only at *;subst hkn;obtain⟨L,hL⟩:∃L,f k=L:=⟨_,rfl⟩;rw [hL]at hf hno;have hmf:∀(fn:Fn) (first cap:Array Value) (w:World),(Instr.makeFunc fn first cap).run Tryz.prog w = .ok (.func fn first cap) w:=fun _ _ _ _=>rfl
 have hol:=hos.len;rw [lL]at hol;have Hol:=hd9 hol.symm;clear hol;unfold jca;dsimp only;obtain⟨R,hR⟩:∃R:Ending→World→Prop,(fun e w'=>e = .returned (.bool false)∧Ext w w')=R:=⟨_,rfl⟩;rw [hR];have HR:=hd9 hR;have hA:w.grownBy (w.alloc (.cells #[.string nm,.slice va vn vc,.int .i64 d,.int .i64 de,.int .i64 gx,.int .i64 gz,.int .i64 wy,.int .i64 ax,.int .i64 az,.int .u8 sk,.int .i64 k,.int .i64 xl,.int .i64 xh,.int .i64 zl,.int .i64 zh] 127)) none:=World.grownBy_alloc _ _ _;obtain⟨v1,hrun1,hoi1,hzl1,-⟩:=(hG.keptLow hA (by simp) (fun j h=>by cases h)).at (by unfold maxLen;omega) (k:=k) (by omega);rw [hL]at hoi1 hzl1;have hC:=hd9 (fun(W:World) (hW:Ext w W) (b':Nat) (v:Value) (h:IsIs W v L)=>ctund_any W v L b2 (fun z=>os.getD z.toNat 0==0) h (fun W' hW' z hz=>und1_any W' b2 go n os z ((hW.trans hW').heapS ho) ((hos.ext (hW.trans hW')).is) (hf z hz).1 (hf z hz).2))
 have hany:(L.any fun z=>os.getD z.toNat 0==0)=true:=by
  obtain⟨z,hz,h0⟩:=hno;exact List.any_eq_true.2 ⟨z,hz,by simpa using h0⟩
 rw [hany]at hC;have m0:=qcB hm (i:=0) (u:=.map (some B)) rfl;have o0:=qcB ho (i:=0) (u:=.slice (some ⟨go,0,none⟩) n n) rfl;have zm:=heap_lt hm;have zo:=heap_lt ho;have zm1:b1<w.heap.size+1:=by omega
 have zo1:b2<w.heap.size+1:=by omega
 have HG:=hd9 hG;have Hos:=hd9 hos;have Hho:=hd9 ho;have Hhm:=hd9 hm;have HL:=hd9 hL;have Hf:=hd9 hf;have His1:=hd9 ((ownsInts_is hoi1).is);clear hG hos ho hm hL hf hR hany hno hoi1 hzl1;go_enter Tryz.func59,Tryz.ntmps59
 go_wp2_with(go_at_call 42;(with_reducible refine(hC.out _ ?_ b1 _ His1.out).mono ?_);exact eA;rintro e w2 ⟨rfl,hx2⟩)
 rw [←HR.out];exact⟨rfl,((Ext.refl w).alloc _).trans hx2⟩
end Go.Proofs.YteipgejmhfpkaaaGreatDoor.Cop
namespace Go.Proofs.YteipgejmhfpkaaaGreatDoor.Cop
open Go.RowKit
def knownB (o:List Int) (L:List Int):Bool:=!L.any fun z=>o.getD z.toNat 0==0
def passK (und:Nat→List Int):List Int→List Nat→List Int×List Nat
 | o,[]=>(o,[])
 | o,k::r=>if knownB o (und k)=true then passK und (o.set k (topC o (und k)+1)) r else ((passK und o r).1,k::(passK und o r).2)
theorem passK_append (und:Nat→List Int):∀(A B:List Nat) (o:List Int),passK und o (A++B)=((passK und (passK und o A).1 B).1,(passK und o A).2++(passK und (passK und o A).1 B).2)
 | [],B,o=>by simp [passK]
 | k::A,B,o=>by
  rw [List.cons_append,passK,passK]
  split
  ·exact passK_append und A B _
  ·rw [passK_append und A B o];rfl
theorem topC_le {os:List Int} {M:Int} (hM:0≤M) (hb:∀v∈os,v≤M) (L:List Int):topC os L≤M:=by
 unfold topC
 have:∀(L:List Int) (o:Int),o≤M→L.foldl (fun o z=>max o (os.getD z.toNat 0)) o≤M:=by
  intro L
  induction L with
  | nil=>intro o h;exact h
  | cons z r ih =>
   intro o h;rw [List.foldl_cons];refine ih _ ?_
   have:os.getD z.toNat 0≤M:=by
    rw [List.getD_eq_getElem?_getD]
    cases h9:os[z.toNat]? with
    | none=>exact hM
    | some v=>exact hb v (lM h9)
   omega
 exact this L 0 hM
theorem topC_nonneg (os:List Int) (L:List Int):0≤topC os L:=by
 unfold topC
 have:∀(L:List Int) (o:Int),0≤o→0≤L.foldl (fun o z=>max o (os.getD z.toNat 0)) o:=by
  intro L
  induction L with
  | nil=>intro o h;exact h
  | cons z r ih=>intro o h;rw [List.foldl_cons];exact ih _ (by omega)
 exact this L 0 (Int.le_refl _)
theorem topC_congr {os os':List Int} {L:List Int} (h:∀z∈L,os'.getD z.toNat 0=os.getD z.toNat 0):topC os' L=topC os L:=by
 unfold topC
 have:∀(L:List Int),(∀z∈L,os'.getD z.toNat 0=os.getD z.toNat 0)→∀o:Int,L.foldl (fun o z=>max o (os'.getD z.toNat 0)) o=L.foldl (fun o z=>max o (os.getD z.toNat 0)) o:=by
  intro L
  induction L with
  | nil=>intro _ o;rfl
  | cons z r ih =>
   intro h o;rw [List.foldl_cons,List.foldl_cons,h z (by simp)];exact ih (fun z hz=>h z (List.mem_cons_of_mem _ hz)) _
 exact this L h 0
theorem getD_set_same {l:List Int} {k:Nat} {v:Int} (h:k<l.length):(l.set k v).getD k 0=v:=by
 rw [List.getD_eq_getElem?_getD,List.getElem?_set_self h];rfl
theorem getD_set_other {l:List Int} {k j:Nat} {v:Int} (h:k≠j):(l.set k v).getD j 0=l.getD j 0:=by
 rw [List.getD_eq_getElem?_getD,List.getD_eq_getElem?_getD,List.getElem?_set_ne h]
theorem known_iff {o L:List Int}:knownB o L=true ↔ ∀z∈L,o.getD z.toNat 0≠0:=by
 unfold knownB;simp
structure CoI (n:Nat) (und:Nat→List Int) (K:List Nat) (o:List Int) (L:List Nat):Prop where
 len:o.length=n
 sub:∀k∈L,k∈K
 nd:L.Nodup
 zero:∀k∈L,o.getD k 0=0
 done:∀k∈K,k ∉ L→o.getD k 0=topC o (und k)+1∧∀z∈und k,o.getD z.toNat 0≠0
 off:∀k,k ∉ K→o.getD k 0=0
 bd:∀v∈o,0≤v∧v+L.length≤K.length
theorem CoI.start (n:Nat) (und:Nat→List Int) {K:List Nat} (h:K.Nodup):CoI n und K (List.replicate n 0) K:=by
 have h0:∀k,(List.replicate n (0:Int)).getD k 0=0:=by
  intro k;rw [List.getD_eq_getElem?_getD,List.getElem?_replicate]
  split<;>rfl
 refine⟨by simp,fun k hk=>hk,h,fun k _=>h0 k,fun k hk hn=>absurd hk hn,fun k _=>h0 k,fun v hv=>?_⟩;have:=List.eq_of_mem_replicate hv;omega
theorem CoI.go {n:Nat} {und:Nat→List Int} {K:List Nat} {o:List Int} {A C:List Nat} {k:Nat} (h:CoI n und K o (A++k::C)) (hk:k<n) (hn:knownB o (und k)=true):CoI n und K (o.set k (topC o (und k)+1)) (A++C):=by
 have hkL:k∈A++k::C:=by simp
 have h0:=h.zero k hkL;have hu:=known_iff.1 hn
 have hkn:k ∉ A++C:=by
  have:=h.nd;rw [List.nodup_append]at this;obtain⟨h1,h2,h3⟩:=this;rw [List.nodup_cons]at h2;intro hm
  rcases List.mem_append.1 hm with hm|hm
  ·exact h3 k hm k (by simp) rfl
  ·exact h2.1 hm
 have hsub:∀j,j∈A++C→j∈A++k::C:=by
  intro j hj
  rcases List.mem_append.1 hj with hj|hj
  ·exact List.mem_append.2 (.inl hj)
  ·exact List.mem_append.2 (.inr (List.mem_cons_of_mem _ hj))
 have hun:∀(L:List Int),(∀z∈L,o.getD z.toNat 0≠0)→∀v,(∀z∈L,(o.set k v).getD z.toNat 0=o.getD z.toNat 0):=by
  intro L hL v z hz;refine getD_set_other ?_;rintro rfl;exact hL z hz h0
 refine⟨by rw [List.length_set];exact h.len,fun j hj=>h.sub j (hsub j hj),?_,fun j hj=>?_,fun j hj hjn=>?_,fun j hj=>?_,fun v hv=>?_⟩
 ·have:=h.nd
  rw [List.nodup_append]at this ⊢;obtain⟨h1,h2,h3⟩:=this;rw [List.nodup_cons]at h2;exact⟨h1,h2.2,fun a ha b hb=>h3 a ha b (List.mem_cons_of_mem _ hb)⟩
 ·rw [getD_set_other (fun e=>hkn (by rw [e];exact hj))]
  exact h.zero j (hsub j hj)
 ·by_cases hjk:j=k
  ·subst hjk
   rw [getD_set_same (by rw [h.len];exact hk),topC_congr (hun _ hu _)];exact⟨rfl,fun z hz=>by rw [hun _ hu _ z hz];exact hu z hz⟩
  ·have hjL:j ∉ A++k::C:=by
    intro hm
    rcases List.mem_append.1 hm with hm|hm
    ·exact hjn (List.mem_append.2 (.inl hm))
    ·rcases List.mem_cons.1 hm with hm|hm
     ·exact hjk hm
     ·exact hjn (List.mem_append.2 (.inr hm))
   obtain⟨d1,d2⟩:=h.done j hj hjL;rw [getD_set_other (fun e=>hjk e.symm),topC_congr (hun _ d2 _)];exact⟨d1,fun z hz=>by rw [hun _ d2 _ z hz];exact d2 z hz⟩
 ·rw [getD_set_other (fun e=>hj (by rw [←e];exact h.sub k hkL))]
  exact h.off j hj
 ·have hl:(A++k::C).length=(A++C).length+1:=by simp;omega
  rcases List.mem_or_eq_of_mem_set hv with hv|rfl
  ·have:=h.bd v hv
   omega
  ·have h1:=topC_nonneg o (und k)
   have hM:(0:Int)≤(K.length:Int)-(A++k::C).length:=by
    cases ho:o with
    | nil=>rw [ho]at h;have:=h.len;simp at this;omega
    | cons v r=>have:=h.bd v (by rw [ho];simp);omega
   have h2:=topC_le (os:=o) hM (fun v hv=>by have:=h.bd v hv;omega) (und k);omega
theorem CoI.pass {n:Nat} {und:Nat→List Int} {K:List Nat} (hK:∀k∈K,k<n) (T:List Nat):∀(L A:List Nat) (o:List Int),CoI n und K o (A++(L++T))→CoI n und K (passK und o L).1 (A++((passK und o L).2++T))
 | [],A,o,h=>by simpa [passK] using h
 | k::r,A,o,h=>by
  rw [passK]
  split
  ·rename_i hk
   exact CoI.pass hK T r A _ (h.go (hK k (h.sub k (by simp))) hk)
  ·have h2:CoI n und K o ((A++[k])++(r++T)):=by simpa using h
   have:=CoI.pass hK T r (A++[k]) o h2
   simpa using this
theorem passK_le (und:Nat→List Int):∀(L:List Nat) (o:List Int),(passK und o L).2.length≤L.length
 | [],o=>by simp [passK]
 | k::r,o=>by
  rw [passK]
  split
  ·have:=passK_le und r (o.set k (topC o (und k)+1));simp;omega
  ·have:=passK_le und r o;simp;omega
theorem passK_lt (und:Nat→List Int):∀(L:List Nat) (o:List Int),(∃k∈L,knownB o (und k)=true)→(passK und o L).2.length<L.length
 | [],o,⟨k,hk,_⟩=>by cases hk
 | j::r,o,⟨k,hk,h⟩=>by
  rw [passK]
  split
  ·have:=passK_le und r (o.set j (topC o (und j)+1));simp;omega
  ·rename_i hj
   rcases List.mem_cons.1 hk with rfl|hk
   ·exact absurd h hj
   ·have:=passK_lt und r o ⟨k,hk,h⟩
    simp;omega
theorem CoI.less {n:Nat} {und:Nat→List Int} {K:List Nat} {o:List Int} {L:List Nat} (h:CoI n und K o L) (rk:Nat→Nat) (hrk:∀k∈K,∀z∈und k,z.toNat∈K∧rk z.toNat<rk k) (hne:L≠[]):(passK und o L).2.length<L.length:=by
 obtain⟨k,hk,hmin⟩:∃k∈L,∀j∈L,rk k≤rk j:=by
  clear h hrk
  induction L with
  | nil=>exact absurd rfl hne
  | cons a r ih =>
   cases r with
   | nil=>exact⟨a,by simp,fun j hj=>by rw [List.mem_singleton.1 hj];exact Nat.le_refl _⟩
   | cons b r =>
    obtain⟨k,hk,hm⟩:=ih (by simp)
    by_cases hak:rk a≤rk k
    ·refine⟨a,by simp,fun j hj=>?_⟩
     rcases List.mem_cons.1 hj with rfl|hj
     ·exact Nat.le_refl _
     ·exact Nat.le_trans hak (hm j hj)
    ·refine⟨k,List.mem_cons_of_mem _ hk,fun j hj=>?_⟩
     rcases List.mem_cons.1 hj with rfl|hj
     ·omega
     ·exact hm j hj
 refine passK_lt und L o ⟨k,hk,?_⟩;rw [known_iff];intro z hz;obtain⟨h1,h2⟩:=hrk k (h.sub k hk) z hz;have h3:z.toNat ∉ L:=fun h3=>by have:=hmin _ h3;omega
 have h4:=(h.done _ h1 h3).1;have:=topC_nonneg o (und z.toNat);omega
end Go.Proofs.YteipgejmhfpkaaaGreatDoor.Cop
namespace Go.Proofs.YteipgejmhfpkaaaGreatDoor.Cop
open Go.RowKit Go.Shelf Go.Maps Go.Sort Go.Lib
attribute [local go_sem] Oper.semAt_some
def keyJ (x:JS×Value):Nat:=x.1.k.toNat
def keysJ (js:List (JS×Value)):List Nat:=js.map keyJ
def outP (und:Nat→List Int) (o:List Int) (js:List (JS×Value)) (m:Nat):List Int:=(passK und o ((keysJ js).take m)).1
def ansP (und:Nat→List Int) (o:List Int) (js:List (JS×Value)) (m:Nat):Bool:=match js[m]? with|some x=>knownB (outP und o js m) (und (keyJ x))|none=>false
theorem outP_step {und:Nat→List Int} {o:List Int} {js:List (JS×Value)} {m:Nat} {x:JS×Value} (h:js[m]?=some x) :
  outP und o js (m+1)=if ansP und o js m=true then (outP und o js m).set (keyJ x) (topC (outP und o js m) (und (keyJ x))+1)else outP und o js m:=by
 have hk:(keysJ js)[m]?=some (keyJ x):=by unfold keysJ;rw [lP,h];rfl
 unfold ansP;rw [h];dsimp only;unfold outP;rw [take_add_one' _ _ _ hk,passK_append];simp only [passK]
 split<;>rfl
theorem stay_keys {und:Nat→List Int} {o:List Int} {js:List (JS×Value)}:∀m,m≤js.length→(((js.zipIdx.take m).filter fun p=>!ansF (ansP und o js) p).map Prod.fst).map keyJ=(passK und o ((keysJ js).take m)).2
 | 0,_=>by simp [passK]
 | m+1,hm=>by
  obtain⟨x,hx⟩:∃x,js[m]?=some x:=⟨js[m]'(by omega),by simp⟩;have hk:(keysJ js)[m]?=some (keyJ x):=by unfold keysJ;rw [lP,hx];rfl
  rw [take_add_one' _ _ _ (zip_get hx),take_add_one' _ _ _ hk,passK_append,List.filter_append,List.map_append,List.map_append,stay_keys m (by omega)]
  have e:ansF (ansP und o js) (x,m)=knownB (passK und o ((keysJ js).take m)).1 (und (keyJ x)):=by
   show ansP und o js m=_
   unfold ansP outP;rw [hx]
  simp only [passK]
  congr 1
  by_cases hc:knownB (passK und o ((keysJ js).take m)).1 (und (keyJ x))=true
  ·rw [if_pos hc,List.filter_cons,e,hc];rfl
  ·have hc':knownB (passK und o ((keysJ js).take m)).1 (und (keyJ x))=false:=by simpa using hc
   rw [if_neg hc,List.filter_cons,e,hc'];rfl
theorem stay_all {und:Nat→List Int} {o:List Int} {js:List (JS×Value)}:keysJ (stayA (ansP und o js) js)=(passK und o (keysJ js)).2:=by
 have h:=stay_keys (und:=und) (o:=o) (js:=js) js.length (Nat.le_refl _);rw [lT (by simp),lT (by simp [keysJ])]at h;exact h
theorem stay_mem {ans:Nat→Bool} {js:List (JS×Value)} {x:JS×Value} (h:x∈stayA ans js):x∈js:=by
 unfold stayA at h;obtain⟨p,hp,rfl⟩:=List.mem_map.1 h;obtain⟨i,hi⟩:=List.mem_iff_getElem?.1 (List.mem_filter.1 hp).1;exact lM (zip_snd hi).1
theorem gb_ExtO {a b c:World} {row:Option Nat} (h:Ext a b) (g:b.grownBy c row) (hr:∀j,row=some j→a.heap.size≤j):Ext a c:=
 ⟨g.os.trans h.os,g.tape.trans h.tape,g.output.trans h.output,Nat.le_trans h.size g.size,fun i hi=>(g.block i (Nat.lt_of_lt_of_le hi h.size) (fun e=>by have:=hr i e.symm;omega)).trans (h.block hi)⟩
def StG (w:World) (b3 b5 B base N go n:Nat) (und:Nat→List Int) (o:List Int) (js:List (JS×Value)) (m:Nat) (W:World):Prop:=
 Ext w W∧W.heap[b3]?=some (.cells #[.slice (some ⟨go,0,none⟩) n n] 36 (0,0))∧W.heap[b5]?=some (.cells #[.map (some B)] 140 (0,0))∧Gm W base B N und ∧
  OwnC 3 1 W w.heap.size (.slice (some ⟨go,0,none⟩) n n) ((outP und o js m).map ic)
theorem StG.ext {w:World} {b3 b5 B base N go n:Nat} {und:Nat→List Int} {o:List Int} {js:List (JS×Value)} {m:Nat} {W W':World} (h:StG w b3 b5 B base N go n und o js m W) (k:Ext W W'):StG w b3 b5 B base N go n und o js m W':=
 ⟨h.1.trans k,k.heapS h.2.1,k.heapS h.2.2.1,h.2.2.2.1.ext k,h.2.2.2.2.ext k⟩
theorem StG.grown {w:World} {b3 b5 B base N go n gl:Nat} {und:Nat→List Int} {o:List Int} {js:List (JS×Value)} {m:Nat} {W W':World} {row:Option Nat} (h:StG w b3 b5 B base N go n und o js m W) (hg:W.grownBy W' row)
  (hr:∀j,row=some j→gl≤j∧j<B) (hgl:w.heap.size<gl∧go<gl∧b3<gl) (hB:B<base∧B<b5):StG w b3 b5 B base N go n und o js m W':=by
 obtain⟨h1,h2,h3,h4,h5⟩:=h;have hz:=h1.size;refine⟨gb_ExtO h1 hg (fun j hj=>by have:=(hr j hj).1;omega),(hg.block b3 (heap_lt h2) (fun e=>?_)).trans h2,(hg.block b5 (heap_lt h3) (fun e=>?_)).trans h3,h4.keptLow hg (fun e=>?_) (fun j hj=>by have:=(hr j hj).2;omega),⟨h5.1,h5.2.kept hg (.inr fun e=>?_)⟩⟩
 ·have:=hr b3 e.symm;omega
 ·have:=hr b5 e.symm;omega
 ·have:=hr B e.symm;omega
 ·have:=hr go e.symm;omega
theorem StG.cw {w:World} {b3 b5 B base N go gl n:Nat} {und:Nat→List Int} {K:List Nat} {o:List Int} {js:List (JS×Value)} {vl:Value} (hI:CoI n und K o (keysJ js)) (hkey:∀x∈js,x.1.k=(keyJ x:Int)) (hkv:∀x∈js,∃a n c,x.2 = .slice a n c) (hK:∀k∈K,k<n)
  (hn:n≤120) (hKl:K.length≤120) (hund:∀k∈K,∀z∈und k,0≤z∧z<n) (hN:N<1000000) (hgo:w.heap.size≤go∧go<base∧B≠go∧go<b3∧b5≠go∧go<gl) :
  CwF js b5 b3 gl vl (StG w b3 b5 B base N go n und o js) (ansP und o js):=by
 intro m W j hS hj;obtain⟨h1,h2,h3,h4,h5⟩:=hS;have hjm:=lM hj;have hm:=(lS.1 hj).1;have hk:=hkey j hjm;have hP:=CoI.pass hK ((keysJ js).drop m) ((keysJ js).take m) [] o (by simpa using hI);rw [List.nil_append]at hP
 have hkd:keyJ j∈(keysJ js).drop m:=by
  have e:(keysJ js)[m]?=some (keyJ j):=by unfold keysJ;rw [lP,hj];rfl
  exact lM (i:=0) (by rw [List.getElem?_drop];simpa using e)
 have hkL:=List.mem_append.2 (Or.inr (a:=keyJ j∈(passK und o ((keysJ js).take m)).2) hkd);have h0:=hP.zero _ hkL;have hkK:=hP.sub _ hkL;have hz2:=heap_lt h2;have ha:ansP und o js m=knownB (outP und o js m) (und (keyJ j)):=by unfold ansP;rw [hj]
 have hstep:=outP_step (und:=und) (o:=o) hj;have hob:∀v∈outP und o js m,0≤v∧v≤1000:=fun v hv=>by have:=hP.bd v hv;omega
 rw [ha]at hstep ⊢
 cases hb:knownB (outP und o js m) (und (keyJ j))with
 | true =>
  rw [hb]at hstep;rw [if_pos rfl]at hstep;have hkn:=known_iff.1 hb;refine(und2_any W j b5 b3 B base w.heap.size N go n und (outP und o js m) (keyJ j) hk (hkv j hjm) h3 h2 h4 hN h5 hgo.2.1 hgo.2.2.1 (hK _ hkK) hn hob h0 (fun z hz=>⟨(hund _ hkK z hz).1,(hund _ hkK z hz).2,hkn z hz⟩) ⟨hgo.2.2.2.2.1,by omega⟩).mono ?_;rintro e w' ⟨rfl,hg,ho⟩;refine⟨rfl,⟨gb_Ext h1 hg hgo.1,(hg.block b3 (heap_lt h2) (by simp;omega)).trans h2,(hg.block b5 (heap_lt h3) (by simpa using hgo.2.2.2.2.1)).trans h3,h4.keptLow hg (by simpa using hgo.2.2.1) (fun j hj=>by cases hj;exact hgo.2.1),?_⟩,fun ys hy=>⟨hy.1,hy.2.kept hg ?_⟩,hg.size,fun b o hbo hbs=>(hg.block b (heap_lt hbo) (by simp;omega)).trans hbo⟩
  ·rw [hstep];exact ho
  ·by_cases h9:vl.ownBlock=none
   ·exact .inl h9
   ·right
    intro e;have:=(hy.lt go e).1;omega
 | false =>
  rw [hb]at hstep;rw [if_neg (by simp)]at hstep
  have hno:∃z∈und (keyJ j),(outP und o js m).getD z.toNat 0=0:=by
   unfold knownB at hb
   simpa using hb
  refine(und2_no W j b5 b3 B base w.heap.size N go n und (outP und o js m) (keyJ j) hk (hkv j hjm) h3 h2 h4 hN h5 (hK _ hkK) hn (hund _ hkK) hno).mono ?_;rintro e w' ⟨rfl,hx⟩;refine⟨rfl,?_,fun ys hy=>hy.ext hx,hx.size,fun b o hbo _=>hx.heapS hbo⟩;have hS':=StG.ext (⟨h1,h2,h3,h4,h5⟩:StG w b3 b5 B base N go n und o js m W) hx;obtain⟨g1,g2,g3,g4,g5⟩:=hS';exact⟨g1,g2,g3,g4,by rw [hstep];exact g5⟩
end Go.Proofs.YteipgejmhfpkaaaGreatDoor.Cop
namespace Go.Proofs.YteipgejmhfpkaaaGreatDoor.Cop
open Go.RowKit Go.Shelf Go.Sort Go.Lib
theorem laid2_clear {g:List (Int×Int)}:∀{ps done:List Pl},laid2 g done ps=0→∀(i:Nat) (p:Pl),ps[i]?=some p→clearB g (done++ps.take i) p=true
 | [],_,_,i,p,hp=>by simp at hp
 | a::r,done,h,i,p,hp=>by
  unfold laid2 at h
  split at h
  ·rename_i hc
   cases i with
   | zero=>simp at hp;subst hp;simpa using hc
   | succ i =>
    have:=laid2_clear h i p (by simpa using hp)
    simpa using this
  ·cases h
theorem laidP_clear {g:List (Int×Int)} {ps:List Pl} (h:laidP g ps=0) {i:Nat} {p:Pl} (hp:ps[i]?=some p):clearB g (ps.take i) p=true:=by
 unfold laidP at h
 split at h
 ·split at h
  ·cases h
  ·split at h
   ·simpa using laid2_clear h i p hp
   ·rename_i h9;exact absurd h h9
 ·cases h
def lowN (ps:List Pl) (i:Nat):List (Int×Int):=match ps[i]? with|some p=>lowP2 p|none=>[]
def upN (ps:List Pl) (i:Nat):List (Int×Int):=match ps[i]? with|some p=>upP2 p|none=>[]
def lN (ps:List Pl) (i:Nat):Int:=lineL (lowN ps i)
def rN (ps:List Pl) (i:Nat):Int:=lineR (lowN ps i)
def loN (ps:List Pl) (i:Nat) (k:Int):Rat:=atR (lowN ps i) (xh k)
def tpN (ps:List Pl) (i:Nat) (k:Int):Rat:=atR (upN ps i) (xh k)
theorem above_of {ps:List Pl} {i j:Nat} {p q:Pl} (hp:ps[i]?=some p) (hq:ps[j]?=some q) (kp:placedOk p=true) (kq:placedOk q=true) (ho:(btw (lowP2 p) (upP2 q)).lo<(btw (lowP2 p) (upP2 q)).hi) (hs:0≤(leastR (btw (lowP2 p) (upP2 q))).2.num.sign):AbK (lN ps) (rN ps) (loN ps) (tpN ps) i j:=by
 obtain⟨s1,s2,s3,n1,n2⟩:=same_range kp;obtain⟨t1,t2,t3,m1,m2⟩:=same_range kq;have ei:lowN ps i=lowP2 p:=by unfold lowN;rw [hp]
 have ej:lowN ps j=lowP2 q:=by unfold lowN;rw [hq]
 have uj:upN ps j=upP2 q:=by unfold upN;rw [hq]
 have elo:(btw (lowP2 p) (upP2 q)).lo=max (lN ps i) (lN ps j):=by unfold btw lN;rw [ei,ej,←t1]
 have ehi:(btw (lowP2 p) (upP2 q)).hi=min (rN ps i) (rN ps j):=by unfold btw rN;rw [ei,ej,←t2]
 rw [elo,ehi]at ho;refine⟨ho,fun k h1 h2=>?_⟩;unfold loN tpN;rw [ei,uj];exact free_half (low_line kp).1 (up_line kq).1 n1 m2 hs (by rw [elo];exact h1) (by rw [ehi];exact h2)
theorem above_free {ps:List Pl} {i j:Nat} {p q:Pl} (hp:ps[i]?=some p) (hq:ps[j]?=some q) (kp:placedOk p=true) (kq:placedOk q=true) (ho:max (lN ps i) (lN ps j)<min (rN ps i) (rN ps j)) (hf:freeB (lowP2 p) (upP2 q)=true):AbK (lN ps) (rN ps) (loN ps) (tpN ps) i j:=by
 obtain⟨t1,t2,t3,m1,m2⟩:=same_range kq;have ei:lowN ps i=lowP2 p:=by unfold lowN;rw [hp]
 have ej:lowN ps j=lowP2 q:=by unfold lowN;rw [hq]
 have elo:(btw (lowP2 p) (upP2 q)).lo=max (lN ps i) (lN ps j):=by unfold btw lN;rw [ei,ej,←t1]
 have ehi:(btw (lowP2 p) (upP2 q)).hi=min (rN ps i) (rN ps j):=by unfold btw rN;rw [ei,ej,←t2]
 have ho':(btw (lowP2 p) (upP2 q)).lo<(btw (lowP2 p) (upP2 q)).hi:=by rw [elo,ehi];exact ho
 unfold freeB at hf;rw [if_pos ho',decide_eq_true_eq]at hf;exact above_of hp hq kp kq ho' hf
theorem two_of {g:List (Int×Int)} {ps:List Pl} (h0:laidP g ps=0) {i j:Nat} {p q:Pl} (hij:j<i) (hp:ps[i]?=some p) (hq:ps[j]?=some q) (hm:meetB p q=true) (ho:max (lN ps i) (lN ps j)<min (rN ps i) (rN ps j)):AbK (lN ps) (rN ps) (loN ps) (tpN ps) i j∨AbK (lN ps) (rN ps) (loN ps) (tpN ps) j i:=by
 obtain⟨hok,_,_⟩:=laidP_ok h0;have kp:=hok p (lM hp);have kq:=hok q (lM hq);have hc:=laidP_clear h0 hp;unfold clearB at hc;rw [Bool.and_eq_true,Bool.not_eq_true',List.any_eq_false]at hc
 have hqm:q∈ps.take i:=by
  refine lM (i:=j) ?_;rw [List.getElem?_take,if_pos hij];exact hq
 have hcl:=hc.2 q hqm
 have hr:relP p q≠5:=by
  intro e;refine hcl ?_;unfold clashB;rw [hm,e];rfl
 have ei:lowN ps i=lowP2 p:=by unfold lowN;rw [hp]
 have ej:lowN ps j=lowP2 q:=by unfold lowN;rw [hq]
 have ho2:=ho;unfold lN rN at ho2;rw [ei,ej]at ho2;unfold relP at hr;rw [if_neg (by omega),if_neg (by omega)]at hr
 by_cases f1:freeB (lowP2 p) (upP2 q)=true
 ·exact .inl (above_free hp hq kp kq ho f1)
 ·rw [if_neg f1]at hr
  by_cases f2:freeB (lowP2 q) (upP2 p)=true
  ·exact .inr (above_free hq hp kq kp (by rw [Int.max_comm,Int.min_comm];exact ho) f2)
  ·rw [if_neg f2]at hr
   exact absurd rfl hr
theorem over_comm {α:Type} {l r:α→Int} {i j:α} (h:max (l i) (l j)<min (r i) (r j)):max (l j) (l i)<min (r j) (r i):=by
 rw [Int.max_comm,Int.min_comm];exact h
theorem skin_pl {r:Ru} {ps:List Pl} {ks:List (JS×Value)} (h:ks.map Prod.fst=skinP r ps) {k:Nat} (hk:k∈keysJ ks):∃p,ps[k]?=some p∧(p.skin=r.skin∨p.skin=3):=by
 obtain⟨x,hx,rfl⟩:=List.mem_map.1 hk;have h1:x.1∈skinP r ps:=h▸List.mem_map_of_mem hx;unfold skinP at h1;obtain⟨h2,h3⟩:=List.mem_filter.1 h1;obtain⟨i,hi⟩:=List.getElem?_of_mem h2;have hl:=(lS.1 hi).1;rw [jsP_len]at hl;rw [jsP_get (List.getElem?_eq_getElem hl)]at hi;have e:=Option.some.inj hi;have ek:keyJ x=i:=by unfold keyJ;rw [←e];unfold jsOf;simp
 rw [ek];refine⟨ps[i],List.getElem?_eq_getElem hl,?_⟩;unfold inB at h3;rw [←e]at h3
 simpa [jsOf] using h3
theorem keys_nodup {r:Ru} {ps:List Pl} {ks:List (JS×Value)} (h:ks.map Prod.fst=skinP r ps):(keysJ ks).Nodup:=by
 have e:keysJ ks=(skinP r ps).map fun j:JS=>j.k.toNat:=by
  rw [←h,List.map_map];rfl
 rw [e]
 have e2:(jsP ps).map (fun j:JS=>j.k.toNat)=List.range ps.length:=by
  refine List.ext_getElem (by rw [lL,jsP_len,List.length_range]) fun i h1 h2=>?_
  simp [jsP,jsOf]
 have hn:((jsP ps).map (fun j:JS=>j.k.toNat)).Nodup:=by rw [e2];exact List.nodup_range
 exact hn.sublist ((List.filter_sublist).map _)
theorem fM_sub {ks:List (JS×Value)} {bsf:Nat→List Be}:∀(m k:Nat) (z:Int),z∈fM ks bsf m k→z∈undQ ks (bsf k) (bsf k).length
 | 0,k,z,h=>by simp [fM]at h
 | m+1,k,z,h=>by
  unfold fM updA at h
  split at h
  ·rename_i e
   subst e
   rcases List.mem_append.1 h with h|h
   ·exact fM_sub m _ z h
   ·exact h
  ·exact fM_sub m k z h
theorem bed_above {g:List (Int×Int)} {ps:List Pl} (h0:laidP g ps=0) {pin:Int} {k:Nat} {z:Int} (hz:0≤z) {be:Be} (hb:be∈bsP g ps pin k) (hn:be.num=z):AbK (lN ps) (rN ps) (loN ps) (tpN ps) k z.toNat:=by
 obtain⟨hok,_,_⟩:=laidP_ok h0;unfold bsP at hb
 split at hb
 ·rename_i p hp
  unfold bedsN at hb;obtain⟨i,_,he⟩:=List.mem_filterMap.1 hb;have e1:=bedAt_num he;rw [hn]at e1;rw [←e1]at he;unfold bedAt at he
  split at he
  ·cases he
  ·rw [if_neg (by omega)]at he
   split at he
   ·cases he
   ·rename_i q hq
    split at he
    ·unfold bedO at he
     split at he
     ·rename_i ho
      refine above_of hp hq (hok p (lM hp)) (hok q (lM hq)) ho ?_
      cases hr:reachP (btw (lowP2 p) (upP2 q)) pin with
      | none=>rw [hr]at he;cases he
      | some o =>
       unfold reachP at hr
       split at hr
       ·cases hr
       ·rename_i h9
        unfold reachNo at h9;simp only [Bool.or_eq_true,decide_eq_true_eq,not_or]at h9;omega
     ·cases he
    ·cases he
 ·cases hb
theorem pass_rank {g:List (Int×Int)} {ps:List Pl} {r:Ru} {ks:List (JS×Value)} (h0:laidP g ps=0) (h:ks.map Prod.fst=skinP r ps) (pin:Int):∃rk:Nat→Nat,∀k∈keysJ ks,∀z∈fM ks (bsP g ps pin) ks.length k,0≤z∧z.toNat∈keysJ ks∧rk z.toNat<rk k:=by
 obtain⟨hok,_,_⟩:=laidP_ok h0
 have hA:ApK (lN ps) (rN ps) (loN ps) (tpN ps) (keysJ ks):=by
  refine⟨fun i hi k h1 h2=>?_,fun i hi j hj hij ho=>?_⟩
  ·obtain⟨p,hp,_⟩:=skin_pl h hi
   have ei:lowN ps i=lowP2 p:=by unfold lowN;rw [hp]
   have ui:upN ps i=upP2 p:=by unfold upN;rw [hp]
   unfold lN at h1;unfold rN at h2;unfold loN tpN;rw [ei]at h1 h2 ⊢;rw [ui];exact fat_half (hok p (lM hp)) h1 h2
  ·obtain⟨p,hp,sp⟩:=skin_pl h hi
   obtain⟨q,hq,sq⟩:=skin_pl h hj;have m1:meetB p q=true:=by unfold meetB;simp only [Bool.or_eq_true,beq_iff_eq];omega
   have m2:meetB q p=true:=by unfold meetB;simp only [Bool.or_eq_true,beq_iff_eq];omega
   rcases Nat.lt_or_gt_of_ne hij with hlt|hgt
   ·exact(two_of h0 hlt hq hp m2 (over_comm ho)).symm
   ·exact two_of h0 hgt hp hq m1 ho
 obtain⟨rk,hrk⟩:=ApK.rank (keys_nodup h) hA;refine⟨rk,fun k hk z hz=>?_⟩;have hz2:=fM_sub _ _ _ hz;unfold undQ at hz2;obtain⟨hz3,hz4⟩:=List.mem_filter.1 hz2;rw [List.take_length]at hz3;obtain⟨be,hbe,hnum⟩:=List.mem_map.1 hz3;unfold undOk at hz4;simp only [Bool.and_eq_true,decide_eq_true_eq,List.any_eq_true,beq_iff_eq]at hz4;obtain⟨hz0,x,hx,hxk⟩:=hz4;have hmem:z.toNat∈keysJ ks:=List.mem_map.2 ⟨x,hx,by unfold keyJ;rw [hxk]⟩;exact⟨hz0,hmem,hrk k hk _ hmem (bed_above h0 hz0 hbe hnum)⟩
theorem clone0_any (w:World) (v:Value) (h:IsJs w v []) :
  Calls Tryz.prog 56 #[v] w fun e w'=>∃v',e = .returned v'∧OwnC 127 15 w' w.heap.size v' []∧Ext w w':=by
 have hrd:=h.rdd;obtain⟨a,c,rfl⟩:=h.form;have hl9:([]:List (List Value)).length+(([]:List (JS×Value)).map jc).length≤100000000000:=by simp
 clear h;have hrd2:Rd (w.alloc (.cells #[] 127)) 127 15 (.slice a 0 c) (([]:List (JS×Value)).map jc).length (([]:List (JS×Value)).map jc).flatten:=Rd.ext hrd ((Ext.refl w).alloc _);clear hrd;have hnl:=fun W=>Lib.run_eql_slice_nil (P:=Tryz.prog) W 111 127 a 0 c 0 0 Tryz.underlying111
 have hnull:OwnC 127 15 w w.heap.size (.slice none 0 0) []:=⟨fun c hc=>by simp at hc,by simp,.inl ⟨rfl,rfl⟩⟩
 cases a with
 | none =>
  simp only [Option.isNone_none]at hnl;go_enter Tryz.func56,Tryz.ntmps56;go_wp2;go_ret;exact⟨_,rfl,hnull,eA⟩
 | some p =>
  simp only [Option.isNone_some]at hnl;go_enter Tryz.func56,Tryz.ntmps56
  go_wp2_with(at_builtin;refine appS (T:=127) (t:=111) (z:=.agg js0) (k:=15) (bytes:=144) (base:=w.heap.size) (v:=.slice (some ⟨w.heap.size,0,none⟩) 0 0) (cs:=[]) info_js rfl (by decide) (by decide) Tryz.underlying111 rfl _ _ rfl rfl (own_empty w _ 15 w.heap.size (Nat.le_refl _)) rfl (([]:List (JS×Value)).map jc) (by simp) hrd2 (by simp) hl9 (by simp) ?_;intro v' w1 hown hgrow hlie;obtain⟨a3,n3,c3,rfl⟩:=hown.form3)
  go_ret;refine⟨_,rfl,hown,?_⟩;exact gb_Ext ((Ext.refl w).alloc _) hgrow (Nat.le_refl _)
theorem clone_all (w:World) (v:Value) (js:List (JS×Value)) (h:IsJs w v js) (hv:∀j∈js,∃a n c,j.2 = .slice a n c) (hn9:js.length≤1000000) :
  Calls Tryz.prog 56 #[v] w fun e w'=>∃v',e = .returned v'∧OwnC 127 15 w' w.heap.size v' (js.map jc)∧Ext w w':=by
 rcases Nat.eq_zero_or_pos js.length with h0|h0
 ·have e:=List.eq_nil_of_length_eq_zero h0
  subst e;exact clone0_any w v h
 ·exact clone_any w v js h h0 hv hn9
end Go.Proofs.YteipgejmhfpkaaaGreatDoor.Cop
namespace Go.Proofs.YteipgejmhfpkaaaGreatDoor.Cop
open Go.RowKit Go.Shelf Go.Maps Go.Sort Go.Lib
attribute [local go_sem] Oper.semAt_some
def CoG (w:World) (b3 b5 B base N go gl n:Nat) (und:Nat→List Int) (K:List Nat) (ks:List (JS×Value)) (vl:Value) (gk:Nat) (t4:Value) (W:World):Prop:=
 ∃(o:List Int) (js:List (JS×Value)) (v':Value),t4=v'∧gk=js.length∧CoI n und K o (keysJ js)∧(∀x∈js,x∈ks)∧OwnC 127 15 W gl v' (js.map jc)∧(v'.ownBlock=none∨v'.ownBlock=vl.ownBlock)∧StG w b3 b5 B base N go n und o js 0 W
theorem courses_gen (w:World) (sb:Nat) (r:Ru) (vg vp vs vj vr:Value) (ks:List (JS×Value)) (L:List Jt) (rs:List Int) (n:Nat) (bsf:Nat→List Be) (hS:Sv w sb r vg vp vs vj vr ks L rs) (hvg:∃a n c,vg = .slice a n c) (hvp:∃a c,vp = .slice a n c) (hn:n≤120)
  (hnk:ks.length≤120) (hkv:∀j∈ks,∃a n c,j.2 = .slice a n c) (hkb:∀x∈ks,∃k:Nat,x.1.k=k∧k<n) (hbl:∀k,(bsf k).length≤121) (hbz:∀k,∀b∈bsf k,-1≤b.num∧b.num≤1000)
  (hBd:∀W,Ext w W→∀k:Nat,(∃x∈ks,x.1.k=k)→Calls Tryz.prog 12 #[.agg #[vg,vp],.int .i64 k,.int .i64 r.pin] W (RetBs W (bsf k))) (hnd:(keysJ ks).Nodup) (rk:Nat→Nat) (hrk:∀k∈keysJ ks,∀z∈fM ks bsf ks.length k,0≤z∧z.toNat∈keysJ ks∧rk z.toNat<rk k) :
  Calls Tryz.prog 29 #[.pointer (some ⟨sb,0,none⟩)] w fun e w'=>∃v o,e = .returned v∧IsIs w' v o∧CoI n (fM ks bsf ks.length) (keysJ ks) o []∧Ext w w':=by
 have hsk:=hS.skin;have HCl:=hd9 (fun(W:World) (hW:Ext w W)=>clone_all W vs ks (hsk.ext' hW) hkv (by omega));obtain⟨pa,pc1,rfl⟩:=hvp;obtain⟨ga,gn,gc,rfl⟩:=hvg;obtain⟨va,vn,vc,rfl⟩:=form3 hsk;have hb:=hS.blk;have c8:=qcB hb (i:=8) (u:=.slice pa n pc1) rfl;have c9:=qcB hb (i:=9) (u:=.slice va vn vc) rfl;have zs:=heap_lt hb;have zs1:sb<w.heap.size+1:=by omega
 have zs2:sb<w.heap.size+1+1:=by omega
 have Hnd:=hd9 hnd;have Hrk:=hd9 hrk;have HBd:=hd9 hBd;have HS:=hd9 hS;have Hkv:=hd9 hkv;have Hkb:=hd9 hkb;have Hbl:=hd9 hbl;have Hbz:=hd9 hbz;have hmm:=@run_makeMap Tryz.prog;have hmf:∀(fn:Fn) (first cap:Array Value) (w:World),(Instr.makeFunc fn first cap).run Tryz.prog w = .ok (.func fn first cap) w:=fun _ _ _ _=>rfl
 obtain⟨R,hR⟩:∃R:Ending→World→Prop,(fun e w'=>∃v o,e = .returned v∧IsIs w' v o∧CoI n (fM ks bsf ks.length) (keysJ ks) o []∧Ext w w')=R:=⟨_,rfl⟩;rw [hR];have HR:=hd9 hR;clear hsk hb hnd hrk hBd hS hkv hkb hbl hbz hR;go_enter Tryz.func29,Tryz.ntmps29
 go_wp2_with(first|(at_make;refine mkC (T:=3) (t:=36) (z:=.int .i64 0) (k:=1) (bytes:=8) (zs:=[.int .i64 0]) (n:=n) info_int1 rfl rfl (by decide) Tryz.underlying36 rfl _ _ rfl _ rfl rfl rfl (by omega) ?_;intro ocs hown1)|(go_at_call 56;(with_reducible refine(HCl.out _ ?_).mono ?_);exact eA;rintro e w2 ⟨v2,rfl,hown2,hx2⟩;obtain⟨la,ln,lc,rfl⟩:=hown2.form3;obtain⟨hc2,hf2⟩:=hx2.cells;(have z2:=hx2.size);(simp only [wZ]at z2);(have zb2:sb<w2.heap.size:=(by omega));(have zb3:sb<w2.heap.size+1:=(by omega));(have zb4:sb<w2.heap.size+1+1:=(by omega))))
 have X2:Ext w w2:=(((Ext.refl w).alloc _).alloc _).trans hx2;have K3:w2.heap[w.heap.size+1]?=some (.cells #[.slice (some ⟨w.heap.size,0,none⟩) n n] 36 (0,0)):=hx2.heapS (qhA _ _ _ (by simp))
 have O1:OwnC 3 1 w2 w.heap.size (.slice (some ⟨w.heap.size,0,none⟩) n n) ((List.replicate n (0:Int)).map ic):=by
  have:=hown1.ext (((Ext.refl _).alloc (.cells #[.slice (some ⟨w.heap.size,0,none⟩) n n] 36)).trans hx2);rw [List.map_replicate];exact this
 obtain⟨gl,hgl⟩:∃x,w.heap.size+1+1=x:=⟨_,rfl⟩;have O2:OwnC 127 15 w2 gl (.slice la ln lc) (ks.map jc):=by rw [←hgl];simpa using hown2
 have Hlt2:=hd9 (show ∀j,(Value.slice la ln lc).ownBlock=some j→gl≤j∧j<w2.heap.size from fun j hj=>O2.lt j hj);have hln:ln=ks.length:=by have:=hown2.len;rw [lL]at this;exact this
 have Hln:=hd9 hln;obtain⟨B,hB⟩:∃x,w2.heap.size=x:=⟨_,rfl⟩;obtain⟨W4,hW4⟩:∃W,((w2.alloc (.map #[] 0)).alloc (.cells #[.map (some w2.heap.size)] 140))=W:=⟨_,rfl⟩;have X24:Ext w2 W4:=by rw [←hW4];exact((Ext.refl w2).alloc _).alloc _
 have G4:Gm W4 (B+1+1) B 0 (fun _=>[]):=by
  have h:=(Gm.made2 w2 (base:=w2.heap.size+1+1) (by omega)).ext (((Ext.refl _).alloc (.cells #[.map (some w2.heap.size)] 140)));rw [hW4,hB]at h;exact h
 have K5:W4.heap[B+1]?=some (.cells #[.map (some B)] 140 (0,0)):=by rw [←hW4,←hB];exact qhA _ _ _ (by simp)
 have s4:W4.heap.size=B+1+1:=by rw [←hW4,←hB];simp
 have zB:w.heap.size+1+1≤B:=by omega
 rw [hW4];rw [hB]at Hlt2;simp only [hB];have HX2:=hd9 X2;have HX24:=hd9 X24;have HK3:=hd9 (X24.heapS K3);have HK5:=hd9 K5;have HO1:=hd9 (O1.ext X24);have HO2:=hd9 (O2.ext X24);clear hown1 hown2 hx2 X2 K3 O1 O2 hln hB hW4 X24 K5 hc2 hf2 z2 zb2 zb3 zb4 c8 c9 zs zs1 zs2 HCl;refine crs_outer W4 sb (B+1) B (B+1+1) r (.slice ga gn gc) (.slice pa n pc1) (.slice va vn vc) vj vr ks bsf va vn vc _ _ _ _ _ _ _ _ _ _ _ _ _ _ _ _ _ _ _ _ _ _ _ _ _ _ _ _ _ _ _ _ _ _ _ _ _ _ _ _ _ _ _ _ _ _ _ _ _ _ _ _ _ _ _ _ _ _ _ _ _ _ _ _ _ _ _ _ _ _ _ _ _ _ _ _ _ _ _ _ _ _ rfl ⟨_,_,_,rfl⟩ ⟨_,_,_,rfl⟩ (HX24.out.heapS (HX2.out.heapS HS.out.blk)) ((HS.out.skin.ext' HX2.out).ext' HX24.out) Hkv.out HK5.out G4 (by omega) hnk (fun x hx=>by obtain⟨k,h1,h2⟩:=Hkb.out x hx;exact⟨k,h1,by omega⟩) Hbl.out Hbz.out (fun W hW k hk=>HBd.out W (hW.ext (HX2.out.trans HX24.out) (by omega) (by omega)) k hk) (fun c a d v w h=>by cases d<;>exact h) ?_;intro y30 y7 y8 y9 y11 y31 y32 y33 y34 y35 y36 y37 y38 y39 y40 y41 y42 y43 y44 y45 y46 y47 y48 y49 y50 y51 y52 y53 y54 y55 y56 y57 y58 y59 y60 y61 y62 y63 y64 y65 y66 y67 y68 y69 y70 y71 y72 y73 y74 y75 y76 y77 y78 W N hcW hgW hNW;obtain⟨und,hund⟩:∃f,fM ks bsf ks.length=f:=⟨_,rfl⟩;rw [hund]at hgW Hrk HR;have hXW:Ext w W:=hcW.ext (HX2.out.trans HX24.out) (by omega) (by omega)
 have HSt:=hd9 (show StG w (w.heap.size+1) (B+1) B (B+1+1) N w.heap.size n und (List.replicate n 0) ks 0 W∧OwnC 127 15 W gl (.slice la ln lc) (ks.map jc)from
  ⟨⟨hXW,hcW.2 _ _ HK3.out (by omega) (.inl (by omega)),hcW.2 _ _ HK5.out (by omega) (.inr fun cs fr e=>by cases e),hgW,HO1.out.crk hcW (fun j hj=>by
   have:j=w.heap.size:=by simpa [Value.ownBlock] using hj.symm
   exact⟨by omega,.inl (by omega)⟩)⟩,HO2.out.crk hcW (fun j hj=>⟨by
   intro e;subst e;have h9:=HO2.out
   rcases h9.2.2 with ⟨h1,_⟩|⟨g,cap,cur,hv,_,hh,_⟩
   ·rw [h1]at hj;cases hj
   ·rw [hv]at hj;cases hj;exact G4.notCells _ _ hh,.inr (by decide)⟩)⟩)
 clear hcW hgW hXW hund HO1 HO2 HK3 HK5 G4 HX24 HBd Hbl Hbz;go_wp2;have HI0:=hd9 (CoI.start n und Hnd.out)
 have hKn:∀k∈keysJ ks,k<n:=by
  intro k hk;obtain⟨x,hx,rfl⟩:=List.mem_map.1 hk;obtain⟨k,h1,h2⟩:=Hkb.out x hx;unfold keyJ;omega
 have HKn:=hd9 hKn
 have Hund:=hd9 (show ∀k∈keysJ ks,∀z∈und k,0≤z∧z<n from fun k hk z hz=>by
  obtain⟨h1,h2,_⟩:=Hrk.out k hk z hz;have:=hKn _ h2;exact⟨h1,by omega⟩)
 have Hky:=hd9 (show ∀x∈ks,x.1.k=(keyJ x:Int)from fun x hx=>by
  obtain⟨k,h1,_⟩:=Hkb.out x hx;unfold keyJ;omega)
 clear hKn
 go_loopg [4] ks.length (CoG w (w.heap.size+1) (B+1) B (B+1+1) N w.heap.size gl n und (keysJ ks) ks (.slice la ln lc))
 case atStart=>exact⟨List.replicate n 0,ks,_,rfl,rfl,HI0.out,fun x hx=>hx,HSt.out.2,.inr rfl,HSt.out.1⟩
 case round =>
  clear HSt HI0;obtain⟨o,js,v',rfl,rfl,hI,hsub,hown,hvo,hSt⟩:=hrel;obtain⟨la',ln',lc',rfl⟩:=hown.form3;have hl:=hown.len;rw [lL]at hl
  have hvj:∀j,(Value.slice la' ln' lc').ownBlock=some j→gl≤j∧j<B:=by
   intro j hj
   rcases hvo with h|h
   ·rw [h]at hj;cases hj
   ·rw [h]at hj;exact Hlt2.out j hj
  have hjl:js.length≤ks.length:=by
   have h1:=hI.nd;have h2:=List.Nodup.length_le_of_subset h1 (fun k hk=>hI.sub k hk)
   simpa [keysJ] using h2
  by_cases hz:0<js.length
  ·have hlen:(0:Int)<(ln':Int):=by omega
   have hlen2:0<ln':=by omega
   have HD:=hd9 (delw_any wr gl (.slice la' ln' lc') js (B+1) (w.heap.size+1) (StG w (w.heap.size+1) (B+1) B (B+1+1) N w.heap.size n und o js) (ansP und o js) hown (by omega) (fun j hj=>Hkv.out j (hsub j hj)) (fun k W W' h hx=>h.ext hx)
    (fun k W W' h hg=>h.grown hg hvj ⟨by omega,by omega,by omega⟩ ⟨by omega,by omega⟩) hSt
    (StG.cw hI (fun x hx=>Hky.out x (hsub x hx)) (fun x hx=>Hkv.out x (hsub x hx)) HKn.out hn (by simpa [keysJ] using hnk) Hund.out (by omega) ⟨Nat.le_refl _,by omega,by omega,by omega,by omega,by omega⟩))
   have HI:=hd9 hI;have Hsub:=hd9 hsub;have Hvo:=hd9 hvo;have Hz:=hd9 hz;clear hSt hI hown hl hsub hvo hz
   go_wp2_with(go_at_call 44;(with_reducible refine(HD.out).mono ?_);rintro e w' ⟨v2,rfl,hown2,hvo2,hS2⟩)
   have hsk:=stay_all (und:=und) (o:=o) (js:=js);have hlt:=HI.out.less rk (fun k hk z hz=>(Hrk.out k hk z hz).2) (by intro h;have h9:js=[]:=(by simpa [keysJ] using h);have h8:=Hz.out;rw [h9]at h8;exact absurd h8 (by simp));rw [←hsk]at hlt;have hlt':(stayA (ansP und o js) js).length<js.length:=by simpa [keysJ] using hlt
   go_roundg (stayA (ansP und o js) js).length
   case measure=>exact hlt'
   case rel =>
    have hP:=CoI.pass HKn.out [] (keysJ js) [] o (by simpa using HI.out);rw [List.nil_append,List.append_nil,←hsk]at hP;obtain⟨g1,g2,g3,g4,g5⟩:=hS2;have e1:outP und o js js.length=(passK und o (keysJ js)).1:=by unfold outP;rw [lT (by simp [keysJ])]
    rw [e1]at g5;refine⟨(passK und o (keysJ js)).1,stayA (ansP und o js) js,v2,rfl,rfl,hP,fun x hx=>Hsub.out x (stay_mem hx),hown2,?_,g1,g2,g3,g4,g5⟩
    rcases hvo2 with h|h
    ·exact .inl h
    ·rw [h];exact Hvo.out
  ·obtain rfl:js=[]:=List.eq_nil_of_length_eq_zero (by omega)
   have hlen:¬(0:Int)<(ln':Int):=by simp at hl;omega
   have hl0:ln'=0:=by simpa using hl
   obtain⟨hX,hK,_,_,hO⟩:=hSt;have k3:=qcB hK (i:=0) (u:=.slice (some ⟨w.heap.size,0,none⟩) n n) rfl;have HO:=hd9 hO;have HX:=hd9 hX;have HI:=hd9 hI;clear hK hO hX hI hown hl hsub hvo;go_wp2;rw [←HR.out];exact⟨_,o,rfl,HO.out.is,HI.out,HX.out⟩
end Go.Proofs.YteipgejmhfpkaaaGreatDoor.Cop
namespace Go.Proofs.YteipgejmhfpkaaaGreatDoor.Cop
open Go.RowKit Go.Shelf Go.Maps Go.Sort Go.Lib
attribute [local go_sem] Oper.semAt_some
def RetKo (w:World) (ps:List Pl) (r:Ru) (g:List (Int×Int)) (e:Ending) (w':World):Prop:=
 ∃v ks o,e = .returned (.tuple #[v,.int .i64 0])∧ks.map Prod.fst=skinP r ps∧IsIs w' v o∧CoI ps.length (fM ks (bsP g ps r.pin) ks.length) (keysJ ks) o []∧Ext w w'
theorem Courses_yes (w:World) (vg vp:Value) (g:List (Int×Int)) (ps:List Pl) (r:Ru) (hg:IsPts w vg g) (hp:IsPls w vp ps) (hgw:Gw w) (h0:byE g ps r=0) :
  Calls Tryz.prog 11 #[.agg #[vg,vp],.agg (ruc r)] w (RetKo w ps r g):=by
 have HB:=hd9 (fun W (hW:Ext w W)=>(by_any W vg vp g ps r (hg.ext' hW) (hp.ext' hW) (hgw.ext hW)).mono (fun e w' h=>h.resolve_left (fun h9=>h9.1 h0)))
 have hl0:laidP g ps=0:=by
  unfold byE at h0
  by_cases h:laidP g ps=0
  ·exact h
  ·rw [if_neg h]at h0;exact absurd h0 h
 obtain⟨hok,hn,hgr⟩:=laidP_ok hl0
 have HC:=hd9 (fun(W:World) (hW:Ext w W) (sb:Nat) (vs vj vr:Value) (ks:List (JS×Value)) (L:List Jt) (rs:List Int) (sv:Sv W sb r vg vp vs vj vr ks L rs) (svp:SvP r ps ks L rs) =>
  courses_gen W sb r vg vp vs vj vr ks L rs ps.length (bsP g ps r.pin) sv (form3 hg) (hp.form) hn
   (by have h9:=congrArg List.length svp.skin;rw [lL]at h9;have h8:(skinP r ps).length≤(jsP ps).length:=List.length_filter_le _ _;rw [jsP_len]at h8;omega)
   (fun j hj=>form3 (sv.pts j hj)) (fun x hx=>skin_key svp.skin hx) (fun k=>(bsP_bd hn k).1) (fun k=>(bsP_bd hn k).2)
   (fun W' hW' k hk=>by
    obtain⟨x,hx,hxk⟩:=hk;obtain⟨k',h1,h2⟩:=skin_key svp.skin hx;have hkk:k=k':=by omega
    subst hkk;have hpk:ps[k]?=some (ps[k]'h2):=List.getElem?_eq_getElem h2;have hbs:bsP g ps r.pin k=bedsN g ps k (ps[k]'h2) r.pin (ps.length+1):=by unfold bsP;rw [hpk]
    rw [hbs];exact beds_ok W' vg vp g ps k (ps[k]'h2) r.pin (hg.ext' (hW.trans hW')) (hp.ext' (hW.trans hW')) (hgw.ext (hW.trans hW')) hl0 hpk (byE_pin h0).1 (byE_pin h0).2 hgr hok hn)
   (keys_nodup svp.skin) (pass_rank hl0 svp.skin r.pin).choose (pass_rank hl0 svp.skin r.pin).choose_spec)
 obtain⟨ga,gn,gc,rfl⟩:=form3 hg;obtain⟨pa,pn,pc1,rfl⟩:=form3 hp;obtain⟨R,hR⟩:∃R,RetKo w ps r g=R:=⟨_,rfl⟩;rw [hR];have HR:=hd9 hR;clear hg hp hgw hR h0 hl0 hok hn hgr;obtain⟨sk,pin,wide,lap,step,run,level⟩:=r;unfold ruc at HB ⊢;dsimp only at HB;go_enter Tryz.func11,Tryz.ntmps11
 go_wp2_with(first|(go_at_call 28;(with_reducible refine(HB.out _ ?_).mono ?_);exact eA;rintro e w3 ⟨_,sb,vs,vj,vr,ks,L,rs,rfl,sv,svp,hx3⟩;have X3:Ext w w3:=eA)|(go_at_call 29;(with_reducible refine(HC.out w3 X3 sb vs vj vr ks L rs sv svp).mono ?_);rintro e w4 ⟨v4,o4,rfl,hv4,hI4,hx4⟩))
 rw [←HR.out];exact⟨_,ks,o4,rfl,svp.skin,hv4,hI4,X3.trans hx4⟩
theorem Courses_no (w:World) (vg vp:Value) (g:List (Int×Int)) (ps:List Pl) (r:Ru) (hg:IsPts w vg g) (hp:IsPls w vp ps) (hgw:Gw w) (h0:byE g ps r≠0) :
  Calls Tryz.prog 11 #[.agg #[vg,vp],.agg (ruc r)] w fun e w'=>e = .returned (.tuple #[.slice none 0 0,.int .i64 (byE g ps r)])∧Ext w w':=by
 have HB:=hd9 (fun W (hW:Ext w W)=>(by_any W vg vp g ps r (hg.ext' hW) (hp.ext' hW) (hgw.ext hW)).mono (fun e w' h=>h.resolve_right (fun h9=>h0 h9.1)));obtain⟨ga,gn,gc,rfl⟩:=form3 hg;obtain⟨pa,pn,pc1,rfl⟩:=form3 hp;obtain⟨k,hk⟩:∃k,byE g ps r=k:=⟨_,rfl⟩;rw [hk]at HB h0 ⊢;have u0:(k != 0)=true:=by simpa using h0
 obtain⟨R,hR⟩:∃R:Ending→World→Prop,(fun e w'=>e = .returned (.tuple #[.slice none 0 0,.int .i64 k])∧Ext w w')=R:=⟨_,rfl⟩;rw [hR];have HR:=hd9 hR;clear hR;clear hg hp hgw hk h0;obtain⟨sk,pin,wide,lap,step,run,level⟩:=r;unfold ruc at HB ⊢;dsimp only at HB;go_enter Tryz.func11,Tryz.ntmps11
 go_wp2_with(go_at_call 28;(with_reducible refine(HB.out _ ?_).mono ?_);exact eA;rintro e w3 ⟨_,rfl,hx3⟩)
 rw [←HR.out];exact⟨rfl,eA⟩
def RetKoA (w:World) (ps:List Pl) (r:Ru) (g:List (Int×Int)) (e:Ending) (w':World):Prop:=
 (byE g ps r≠0∧e = .returned (.tuple #[.slice none 0 0,.int .i64 (byE g ps r)])∧Ext w w')∨(byE g ps r=0∧RetKo w ps r g e w')
theorem Courses_any (w:World) (vg vp:Value) (g:List (Int×Int)) (ps:List Pl) (r:Ru) (hg:IsPts w vg g) (hp:IsPls w vp ps) (hgw:Gw w) :
  Calls Tryz.prog 11 #[.agg #[vg,vp],.agg (ruc r)] w (RetKoA w ps r g):=by
 by_cases h0:byE g ps r=0
 ·exact(Courses_yes w vg vp g ps r hg hp hgw h0).mono fun e w' h=>.inr ⟨h0,h⟩
 ·exact(Courses_no w vg vp g ps r hg hp hgw h0).mono fun e w' h=>.inl ⟨h0,h⟩
end Go.Proofs.YteipgejmhfpkaaaGreatDoor.Cop
namespace Go.Proofs.YteipgejmhfpkaaaGreatDoor.Cop
open Go.RowKit Go.Shelf Go.Sort Go.Lib
theorem keyAt_fst (ks:List (JS×Value)) (m:Nat):keyAt ks m=(match (ks.map Prod.fst)[m]? with|some j=>j.k.toNat|none=>0):=by
 unfold keyAt;rw [lP]
 cases ks[m]?<;>rfl
theorem undOk_fst (ks:List (JS×Value)) (z:Int):undOk ks z=(decide (0≤z)&&(ks.map Prod.fst).any fun j=>j.k==z):=by
 unfold undOk;rw [List.any_map];rfl
theorem undQ_nums (ks:List (JS×Value)) (bs:List Be):undQ ks bs bs.length=(bs.map (·.num)).filter (undOk ks):=by
 unfold undQ;rw [List.take_length]
section
variable {ks:List (JS×Value)} (h:ks.map Prod.fst=skinP exR exP)
include h
theorem ex_len:ks.length=5:=by rw [←lL (f:=Prod.fst),h];exact ex_skin
theorem ex_key_0:keyAt ks 0=0:=by rw [keyAt_fst,h];rfl
theorem ex_key_1:keyAt ks 1=1:=by rw [keyAt_fst,h];rfl
theorem ex_key_2:keyAt ks 2=2:=by rw [keyAt_fst,h];rfl
theorem ex_key_3:keyAt ks 3=3:=by rw [keyAt_fst,h];rfl
theorem ex_key_4:keyAt ks 4=4:=by rw [keyAt_fst,h];rfl
theorem ex_und_0:undQ ks (bsP exG exP 0 0) (bsP exG exP 0 0).length=[]:=by
 rw [undQ_nums,ex_beds_0];simp only [List.filter_cons,List.filter_nil,undOk_fst,h];rfl
theorem ex_und_1:undQ ks (bsP exG exP 0 1) (bsP exG exP 0 1).length=[]:=by
 rw [undQ_nums,ex_beds_1];simp only [List.filter_cons,List.filter_nil,undOk_fst,h];rfl
theorem ex_und_2:undQ ks (bsP exG exP 0 2) (bsP exG exP 0 2).length=[0]:=by
 rw [undQ_nums,ex_beds_2];simp only [List.filter_cons,List.filter_nil,undOk_fst,h];rfl
theorem ex_und_3:undQ ks (bsP exG exP 0 3) (bsP exG exP 0 3).length=[1]:=by
 rw [undQ_nums,ex_beds_3];simp only [List.filter_cons,List.filter_nil,undOk_fst,h];rfl
theorem ex_und_4:undQ ks (bsP exG exP 0 4) (bsP exG exP 0 4).length=[2,3]:=by
 rw [undQ_nums,ex_beds_4];simp only [List.filter_cons,List.filter_nil,undOk_fst,h];rfl
theorem ex_fm_0:fM ks (bsP exG exP 0) 5 0=[]:=by
 simp only [fM,ex_key_0 h,ex_key_1 h,ex_key_2 h,ex_key_3 h,ex_key_4 h,ex_und_0 h,ex_und_1 h,ex_und_2 h,ex_und_3 h,ex_und_4 h];rfl
theorem ex_fm_1:fM ks (bsP exG exP 0) 5 1=[]:=by
 simp only [fM,ex_key_0 h,ex_key_1 h,ex_key_2 h,ex_key_3 h,ex_key_4 h,ex_und_0 h,ex_und_1 h,ex_und_2 h,ex_und_3 h,ex_und_4 h];rfl
theorem ex_fm_2:fM ks (bsP exG exP 0) 5 2=[0]:=by
 simp only [fM,ex_key_0 h,ex_key_1 h,ex_key_2 h,ex_key_3 h,ex_key_4 h,ex_und_0 h,ex_und_1 h,ex_und_2 h,ex_und_3 h,ex_und_4 h];rfl
theorem ex_fm_3:fM ks (bsP exG exP 0) 5 3=[1]:=by
 simp only [fM,ex_key_0 h,ex_key_1 h,ex_key_2 h,ex_key_3 h,ex_key_4 h,ex_und_0 h,ex_und_1 h,ex_und_2 h,ex_und_3 h,ex_und_4 h];rfl
theorem ex_fm_4:fM ks (bsP exG exP 0) 5 4=[2,3]:=by
 simp only [fM,ex_key_0 h,ex_key_1 h,ex_key_2 h,ex_key_3 h,ex_key_4 h,ex_und_0 h,ex_und_1 h,ex_und_2 h,ex_und_3 h,ex_und_4 h];rfl
theorem ex_keys:keysJ ks=[0,1,2,3,4]:=by
 unfold keysJ;rw [show keyJ=(fun j:JS=>j.k.toNat) ∘ Prod.fst from rfl,←List.map_map,h];rfl
theorem ex_o {o:List Int} (hI:CoI 5 (fM ks (bsP exG exP 0) 5) (keysJ ks) o []):o=[1,1,2,2,3]:=by
 have hd:=fun k hk=>(hI.done k hk (by simp)).1
 rw [ex_keys h]at hd;have h0:=hd 0 (by simp);have h1:=hd 1 (by simp);have h2:=hd 2 (by simp);have h3:=hd 3 (by simp);have h4:=hd 4 (by simp);rw [ex_fm_0 h]at h0;rw [ex_fm_1 h]at h1;rw [ex_fm_2 h]at h2;rw [ex_fm_3 h]at h3;rw [ex_fm_4 h]at h4;have hl:=hI.len
 match o,hl with
 | [a,b,c,d,e],_ =>
  simp [topC]at h0 h1 h2 h3 h4;subst h0;subst h1;have h2:c=2:=by omega
  have h3:d=2:=by omega
  subst h2;subst h3;have h4:e=3:=by omega
  subst h4;rfl
end
theorem ex_courses (w:World) (vg vp:Value) (hg:IsPts w vg exG) (hp:IsPls w vp exP) (hgw:Gw w) :
  Calls Tryz.prog 11 #[.agg #[vg,vp],.agg (ruc exR)] w fun e w'=>∃v,e = .returned (.tuple #[v,.int .i64 0])∧IsIs w' v [1,1,2,2,3]∧Ext w w':=by
 refine(Courses_any w vg vp exG exP exR hg hp hgw).mono ?_;rintro e w' (⟨h0,_⟩|⟨_,v,ks,o,rfl,hk,hi,hI,hx⟩)
 ·exact absurd ex_by h0
 ·rw [show exR.pin=0 from rfl,ex_len hk,show exP.length=5 from rfl]at hI
  rw [ex_o hk hI]at hi;exact⟨v,rfl,hi,hx⟩
theorem ex_joints (w:World) (vg vp:Value) (hg:IsPts w vg exG) (hp:IsPls w vp exP) (hgw:Gw w) :
  Calls Tryz.prog 15 #[.agg #[vg,vp],.agg (ruc exR)] w fun e w'=>∃a c,e = .returned (.tuple #[.slice a 2 c,.int .i64 0])∧IsJts w' (.slice a 2 c) [exJ1,exJ2]∧Ext w w':=by
 refine(joints_any w vg vp exG exP exR hg hp hgw).mono ?_;rintro e w' (⟨h,_⟩|⟨_,v,L,ks,rs,rfl,hj,svp,hx⟩)
 ·exact absurd ex_by h
 ·obtain⟨rfl,-⟩:=ex_L svp
  obtain⟨a,c,rfl⟩:=hj.form;exact⟨a,c,rfl,hj,hx⟩
theorem ex_roots (w:World) (vg vp:Value) (hg:IsPts w vg exG) (hp:IsPls w vp exP) (hgw:Gw w) :
  Calls Tryz.prog 16 #[.agg #[vg,vp],.agg (ruc exR)] w fun e w'=>∃v,e = .returned (.tuple #[v,.int .i64 0])∧IsIs w' v [0,0]∧Ext w w':=by
 refine(roots_any w vg vp exG exP exR hg hp hgw).mono ?_;rintro e w' (⟨h,_⟩|⟨_,v,L,ks,rs,rfl,hi,svp,hx⟩)
 ·exact absurd ex_by h
 ·obtain⟨-,rfl⟩:=ex_L svp
  exact⟨v,rfl,hi,hx⟩
theorem awake_any (w:World) (hgw:Gw w):Calls Tryz.prog 9 #[] w fun e w'=>e = .returned (.bool true)∧Ext w w':=by
 have Hgw:=hd9 hgw;clear hgw;go_enter Tryz.func9,Tryz.ntmps9
 go_upto_region 2 with (first|(go_at_call 20;(with_reducible refine(five_any _).mono ?_);rintro e w11 ⟨vg1,vp1,rfl,hg1,hp1,hx1⟩;have E11:Ext w w11:=(Ext.refl w).trans hx1)|(go_at_call 21;(with_reducible refine(exrules_any _).mono ?_);rintro e w12 ⟨rfl,hy1⟩;have E12:Ext w w12:=E11.trans hy1)|(go_at_call 15;(with_reducible refine(ex_joints _ vg1 vp1 (hg1.ext' hy1) (hp1.ext' hy1) (Hgw.out.ext E12)).mono ?_);rintro e w13 ⟨ja,jc9,rfl,hj,hz1⟩;have E13:Ext w w13:=E12.trans hz1))
 go_upto_region 3 with (first|(go_at_call 20;(with_reducible refine(five_any _).mono ?_);rintro e w21 ⟨vg2,vp2,rfl,hg2,hp2,hx2⟩;have E21:Ext w w21:=E13.trans hx2)|(go_at_call 21;(with_reducible refine(exrules_any _).mono ?_);rintro e w22 ⟨rfl,hy2⟩;have E22:Ext w w22:=E21.trans hy2)|(go_at_call 16;(with_reducible refine(ex_roots _ vg2 vp2 (hg2.ext' hy2) (hp2.ext' hy2) (Hgw.out.ext E22)).mono ?_);rintro e w23 ⟨vr,rfl,hr,hz2⟩;have E23:Ext w w23:=E22.trans hz2))
 go_upto_region 4 with (first|(go_at_call 20;(with_reducible refine(five_any _).mono ?_);rintro e w31 ⟨vg3,vp3,rfl,hg3,hp3,hx3⟩;have E31:Ext w w31:=E23.trans hx3)|(go_at_call 21;(with_reducible refine(exrules_any _).mono ?_);rintro e w32 ⟨rfl,hy3⟩;have E32:Ext w w32:=E31.trans hy3)|(go_at_call 11;(with_reducible refine(ex_courses _ vg3 vp3 (hg3.ext' hy3) (hp3.ext' hy3) (Hgw.out.ext E32)).mono ?_);rintro e w33 ⟨vc,rfl,hc,hz3⟩;have E33:Ext w w33:=E32.trans hz3))
 have X3:Ext w13 w33:=((((hx2.trans hy2).trans hz2).trans hx3).trans hy3).trans hz3;have X2:Ext w23 w33:=(hx3.trans hy3).trans hz3;obtain⟨jb,jo,d,rfl,hjb,hjl,hd,hc'⟩:=Sl.at (hj.ext' X3) (i:=1) (x:=exJ2) rfl;subst hd;have d0:=hc' 0 (.int .i64 2) rfl;have d1:=hc' 1 (.int .i64 3) rfl;have d2:=hc' 2 (.int .i64 200) rfl;have d3:=hc' 3 (.int .i64 200) rfl;have d4:=hc' 4 (.int .i64 80) rfl;have d5:=hc' 5 (.int .i64 160) rfl;simp only [Nat.add_zero,Nat.one_mul]at d0 d1 d2 d3 d4 d5;have HI1:=hd9 (fun(W:World) (hW:Ext w33 W) (v:Value) (h:IsIs W v [0,0])=>ints_any W vr v [0,0] [0,0] ((hr.ext' X2).ext' hW) h);have HI2:=hd9 (fun(W:World) (hW:Ext w33 W) (v:Value) (h:IsIs W v [1,1,2,2,3])=>ints_any W vc v [1,1,2,2,3] [1,1,2,2,3] (hc.ext' hW) h);have E:=hd9 E33;clear hc' hj hr hc X3 X2 hjl hx1 hy1 hz1 hx2 hy2 hz2 hx3 hy3 hz3 E11 E12 E13 E21 E22 E23 E31 E32 E33
 go_wp2_with(first|(go_at_call 22;(with_reducible refine(HI1.out _ ((Ext.refl w33).alloc _) _ ((own_two w33 0 0 0 (Nat.zero_le _)).is)).mono ?_);rintro e w41 ⟨rfl,hx41⟩;have X41:=((Ext.refl w33).alloc (.cells #[.int .i64 0,.int .i64 0] 3)).trans hx41)|(go_at_call 22;(with_reducible refine(HI2.out _ (X41.alloc _) _ (is_five w41 rfl 1 1 2 2 3)).mono ?_);rintro e w42 ⟨rfl,hx42⟩))
 go_ret;exact⟨rfl,((E.out.trans X41).alloc _).trans hx42⟩
section
variable {P:Program} {ops:Array Oper} {Q:Exit→Act→World→Prop} {md:Region.Mode} {S:World→Prop} {late:Nat→Bool}
theorem callHU3 {i j k:Nat} {oi oj ok:Oper} {fuel:Nat} {listed:Array Bool} {a:Act} {w:World}
  (h1:∀K':Act→World→Prop,Shut (∀a w,(late i=false→S w)→((late i=false→S w)→HUc P md ops Q S late fuel (listed.setIfInBounds i true) a w)→K' a w)→if Region.wanted oi (yielded ops a.tmps)=true then Oper.wp P oi a w K' Q else K' (a.put oi.dst undef) w)
  (h2:∀K':Act→World→Prop,Shut (∀a w,(late j=false→S w)→((late j=false→S w)→HUc P md ops Q S late fuel (listed.setIfInBounds j true) a w)→K' a w)→if Region.wanted oj (yielded ops a.tmps)=true then Oper.wp P oj a w K' Q else K' (a.put oj.dst undef) w)
  (h3:∀K':Act→World→Prop,Shut (∀a w,(late k=false→S w)→((late k=false→S w)→HUc P md ops Q S late fuel (listed.setIfInBounds k true) a w)→K' a w)→if Region.wanted ok (yielded ops a.tmps)=true then Oper.wp P ok a w K' Q else K' (a.put ok.dst undef) w)
  (hi:ops[i]?=some oi:=by(simp only [gA,gS,gZ];rfl)) (hj:ops[j]?=some oj:=by(simp only [gA,gS,gZ];rfl)) (hk:ops[k]?=some ok:=by(simp only [gA,gS,gZ];rfl)) (hr:Region.ready md ops listed=[i,j,k]:=by kernel_rfl) :
  HUc P md ops Q S late (fuel+1) listed a w:=by
 intro hc;refine⟨fun h0=>absurd (hr▸h0) (by simp),fun m hm=>?_⟩;have hm':=hm;rw [hr]at hm
 rcases List.mem_cons.1 hm with rfl|hm2
 ·exact wpOp_step hi (fun K' hK=>h1 K' (fun a w hS hW=>hK a w ⟨hS,hW hS (hc.step hm')⟩))
 ·rcases List.mem_cons.1 hm2 with rfl|hm3
  ·exact wpOp_step hj (fun K' hK=>h2 K' (fun a w hS hW=>hK a w ⟨hS,hW hS (hc.step hm')⟩))
  ·cases List.mem_singleton.1 hm3
   exact wpOp_step hk (fun K' hK=>h3 K' (fun a w hS hW=>hK a w ⟨hS,hW hS (hc.step hm')⟩))
end
theorem CellL.undrew:∀{L:List (Addr×Value)} {W:World},CellL L W.drew→CellL L W
 | [],_,_=>trivial
 | (_,_)::_,_,⟨h1,h2⟩=>⟨h1,h2.undrew⟩
theorem Ext.set2 {a W:World} {b:Nat} (h:Ext a W) (hb:a.heap.size≤b) (u v:Value):Ext a ((W.setCell ⟨b,0,none⟩ u).setCell ⟨b,1,none⟩ v):=(h.set (by exact hb) u).set (by exact hb) v
theorem OwnPl.extM {w w':World} {base:Nat} {v:Value} {ps:List Pl} (h:OwnPl w base v ps) (k:Ext w w'):OwnPl w' base v ps:=by
 obtain⟨cs,h1,h2,h3⟩:=h;exact⟨cs,h1.ext k,h2,fun i c p hc hp=>(h3 i c p hc hp).ext k⟩
def WRu (w:World) (g:List (Int×Int)) (ps:List Pl) (r:Ru) (t5 t6:Value) (W:World):Prop:=
 ∃b5 b6 vg vp,t5 = .pointer (some ⟨b5,0,none⟩)∧t6 = .pointer (some ⟨b6,0,none⟩)∧b5≠b6∧w.heap.size≤b5∧w.heap.size≤b6∧W.heap[b5]?=some (.cells #[vg,vp] 33 (0,0))∧W.heap[b6]?=some (.cells (ruc r) 35 (0,0)) ∧
  IsPts W vg g∧OwnPl W w.heap.size vp ps∧Ext w W
def WRm (w:World) (g:List (Int×Int)) (ps:List Pl) (b5 b6 base:Nat) (vg vp:Value) (c5 c6:Array Value) (W:World):Prop:=
 W.heap[b5]?=some (.cells c5 33 (0,0))∧W.heap[b6]?=some (.cells c6 35 (0,0))∧IsPts W vg g∧OwnPl W base vp ps∧Ext w W
theorem OwnPl.setOther {w:World} {base:Nat} {v:Value} {ps:List Pl} (h:OwnPl w base v ps) {b i:Nat} {c:Array Value} {T:TypeId} {fr:Nat×Nat} (hk:w.heap[b]?=some (.cells c T fr)) (h1:T≠46) (h2:T≠42) (u:Value):OwnPl (w.setCell ⟨b,i,none⟩ u) base v ps:=by
 obtain⟨cs,hown,hcl,hcp⟩:=h;have f:v.ownBlock≠some b:=fun e=>hown.ne_blkD hk h1 e
 have k:KeepT 42 w (w.setCell ⟨b,i,none⟩ u):=(KeepT.refl _ w).set (p:=⟨b,i,none⟩) hk h2 u;exact⟨cs,hown.setOther (p:=⟨b,i,none⟩) f u,hcl,fun j c p hc hq=>(hcp j c p hc hq).keep k⟩
theorem WRm.put5 {w W:World} {g:List (Int×Int)} {ps:List Pl} {b5 b6 base:Nat} {vg vp:Value} {c5 c6:Array Value} (h:WRm w g ps b5 b6 base vg vp c5 c6 W) (hne:b5≠b6) (hb:w.heap.size≤b5) (i:Nat) (u:Value) {c:Array Value} (hc:c5.setIfInBounds i u=c) :
  WRm w g ps b5 b6 base vg vp c c6 (W.setCell ⟨b5,i,none⟩ u):=by
 obtain⟨k5,k6,hg,hp,hx⟩:=h;subst hc;have ko:(W.setCell ⟨b5,i,none⟩ u).heap[b6]?=W.heap[b6]?:=Below.heap_setCell _ _ _ _ (by dsimp only;omega);exact⟨blk_put k5 i u,ko.trans k6,hg.keep' ((KeepT.refl _ W).set (p:=⟨b5,i,none⟩) k5 (by decide) u),hp.setOther k5 (by decide) (by decide) u,hx.set (by exact hb) u⟩
theorem WRm.put6 {w W:World} {g:List (Int×Int)} {ps:List Pl} {b5 b6 base:Nat} {vg vp:Value} {c5 c6:Array Value} (h:WRm w g ps b5 b6 base vg vp c5 c6 W) (hne:b5≠b6) (hb:w.heap.size≤b6) (i:Nat) (u:Value) {c:Array Value} (hc:c6.setIfInBounds i u=c) :
  WRm w g ps b5 b6 base vg vp c5 c (W.setCell ⟨b6,i,none⟩ u):=by
 obtain⟨k5,k6,hg,hp,hx⟩:=h;subst hc;have ko:(W.setCell ⟨b6,i,none⟩ u).heap[b5]?=W.heap[b5]?:=Below.heap_setCell _ _ _ _ (by dsimp only;omega);exact⟨ko.trans k5,blk_put k6 i u,hg.keep' ((KeepT.refl _ W).set (p:=⟨b6,i,none⟩) k6 (by decide) u),hp.setOther k6 (by decide) (by decide) u,hx.set (by exact hb) u⟩
theorem wr_put {w W:World} {b5 b6 base:Nat} {vg vp u v x0 x1 x2 x3 x4 x5 x6:Value} {g:List (Int×Int)} {ps:List Pl} {r:Ru} (hne:b5≠b6) (h5:w.heap.size≤b5) (h6:w.heap.size≤b6) (k5:W.heap[b5]?=some (.cells #[u,v] 33 (0,0)))
  (k6:W.heap[b6]?=some (.cells #[x0,x1,x2,x3,x4,x5,x6] 35 (0,0))) (hg:IsPts W vg g) (hp:OwnPl W base vp ps) (hb:w.heap.size≤base) (hx:Ext w W) {W1:World}
  (hW:((((((((W.setCell ⟨b5,0,none⟩ vg).setCell ⟨b5,1,none⟩ vp).setCell ⟨b6,0,none⟩ (.int .u8 r.skin)).setCell ⟨b6,1,none⟩ (.int .i64 r.pin)).setCell ⟨b6,2,none⟩ (.int .i64 r.wide)).setCell ⟨b6,3,none⟩ (.int .i64 r.lap)).setCell ⟨b6,4,none⟩ (.int .i64 r.step)).setCell ⟨b6,5,none⟩ (.int .i64 r.run)).setCell ⟨b6,6,none⟩ (.int .i64 r.level)=W1) :
  WRu w g ps r (.pointer (some ⟨b5,0,none⟩)) (.pointer (some ⟨b6,0,none⟩)) W1:=by
 have h0:WRm w g ps b5 b6 base vg vp #[u,v] #[x0,x1,x2,x3,x4,x5,x6] W:=⟨k5,k6,hg,hp,hx⟩;have h9:=(((((((((h0.put5 hne h5 0 vg (c:=#[vg,v]) rfl).put5 hne h5 1 vp (c:=#[vg,vp]) rfl).put6 hne h6 0 (.int .u8 r.skin) (c:=#[.int .u8 r.skin,x1,x2,x3,x4,x5,x6]) rfl).put6 hne h6 1 (.int .i64 r.pin) (c:=#[.int .u8 r.skin,.int .i64 r.pin,x2,x3,x4,x5,x6]) rfl).put6 hne h6 2 (.int .i64 r.wide) (c:=#[.int .u8 r.skin,.int .i64 r.pin,.int .i64 r.wide,x3,x4,x5,x6]) rfl).put6 hne h6 3 (.int .i64 r.lap) (c:=#[.int .u8 r.skin,.int .i64 r.pin,.int .i64 r.wide,.int .i64 r.lap,x4,x5,x6]) rfl).put6 hne h6 4 (.int .i64 r.step) (c:=#[.int .u8 r.skin,.int .i64 r.pin,.int .i64 r.wide,.int .i64 r.lap,.int .i64 r.step,x5,x6]) rfl).put6 hne h6 5 (.int .i64 r.run) (c:=#[.int .u8 r.skin,.int .i64 r.pin,.int .i64 r.wide,.int .i64 r.lap,.int .i64 r.step,.int .i64 r.run,x6]) rfl).put6 hne h6 6 (.int .i64 r.level) (c:=ruc r) rfl);rw [hW]at h9;obtain⟨q5,q6,qg,⟨cs,hown,hcl,hcp⟩,qx⟩:=h9;exact⟨b5,b6,vg,vp,rfl,rfl,hne,h5,h6,q5,q6,qg,⟨cs,hown.mono hb,hcl,hcp⟩,qx⟩
theorem topC_at (os:List Int) (L:List Int):topC os L=0∨∃z∈L,os.getD z.toNat 0=topC os L:=by
 unfold topC
 have:∀(L:List Int) (o:Int),L.foldl (fun o z=>max o (os.getD z.toNat 0)) o=o∨∃z∈L,os.getD z.toNat 0=L.foldl (fun o z=>max o (os.getD z.toNat 0)) o:=by
  intro L
  induction L with
  | nil=>intro o;exact .inl rfl
  | cons z r ih =>
   intro o;rw [List.foldl_cons]
   rcases ih (max o (os.getD z.toNat 0))with h|⟨y,hy,h⟩
   ·rw [h]
    by_cases hc:os.getD z.toNat 0≤o
    ·exact .inl (by omega)
    ·exact .inr ⟨z,by simp,by omega⟩
   ·exact .inr ⟨y,List.mem_cons_of_mem _ hy,h⟩
 exact this L 0
theorem topC_ge (os:List Int) {L:List Int} {z:Int} (hz:z∈L):os.getD z.toNat 0≤topC os L:=by
 unfold topC
 have key:∀(L:List Int) (o:Int),o≤L.foldl (fun o z=>max o (os.getD z.toNat 0)) o∧∀z∈L,os.getD z.toNat 0≤L.foldl (fun o z=>max o (os.getD z.toNat 0)) o:=by
  intro L
  induction L with
  | nil=>intro o;exact⟨Int.le_refl _,fun z hz=>by simp at hz⟩
  | cons y r ih =>
   intro o;rw [List.foldl_cons];obtain⟨h1,h2⟩:=ih (max o (os.getD y.toNat 0));refine⟨by omega,fun z hz=>?_⟩
   rcases List.mem_cons.1 hz with rfl|hz
   ·omega
   ·exact h2 z hz
 exact(key L 0).2 z hz
theorem fM_sup {ks:List (JS×Value)} {bsf:Nat→List Be} {k:Nat} {z:Int} (hz:z∈undQ ks (bsf k) (bsf k).length):∀(m:Nat),(∃i,i<m∧keyAt ks i=k)→z∈fM ks bsf m k
 | 0,⟨i,hi,_⟩=>absurd hi (Nat.not_lt_zero _)
 | m+1,⟨i,hi,he⟩=>by
  unfold fM updA
  by_cases h:k=keyAt ks m
  ·rw [if_pos h,←h]
   exact List.mem_append.2 (.inr hz)
  ·rw [if_neg h]
   refine fM_sup hz m ⟨i,?_,he⟩
   rcases Nat.lt_or_eq_of_le (Nat.le_of_lt_succ hi)with h9|rfl
   ·exact h9
   ·exact absurd he.symm h
theorem key_at {ks:List (JS×Value)} {k:Nat} (hk:k∈keysJ ks):∃i,i<ks.length∧keyAt ks i=k:=by
 obtain⟨x,hx,rfl⟩:=List.mem_map.1 hk;obtain⟨i,hi,rfl⟩:=List.getElem_of_mem hx;refine⟨i,hi,?_⟩;unfold keyAt;rw [List.getElem?_eq_getElem hi];rfl
theorem skin_in {r:Ru} {ps:List Pl} {ks:List (JS×Value)} (h:ks.map Prod.fst=skinP r ps) {i:Nat} {p:Pl} (hp:ps[i]?=some p) (hs:p.skin=r.skin∨p.skin=3):i∈keysJ ks:=by
 have h1:jsOf i p∈skinP r ps:=by
  unfold skinP;refine List.mem_filter.2 ⟨lM (jsP_get hp),?_⟩;unfold inB jsOf;simp only [Bool.or_eq_true,beq_iff_eq];exact hs
 rw [←h]at h1;obtain⟨x,hx,e⟩:=List.mem_map.1 h1;refine List.mem_map.2 ⟨x,hx,?_⟩;unfold keyJ;rw [e];unfold jsOf;simp
theorem bed_num {g:List (Int×Int)} {ps:List Pl} {i n:Nat} {p:Pl} {pin:Int} {b:Be} (hb:b∈bedsN g ps i p pin (n+1)) : -1≤b.num∧b.num<n:=by
 unfold bedsN at hb;obtain⟨m,hm,he⟩:=List.mem_filterMap.1 hb;rw [List.mem_range]at hm;have:=bedAt_num he;omega
section
variable {g:List (Int×Int)} {ps:List Pl} {r:Ru} {ks:List (JS×Value)} {o:List Int} (hs:ks.map Prod.fst=skinP r ps) (hI:CoI ps.length (fM ks (bsP g ps r.pin) ks.length) (keysJ ks) o [])
include hs hI
omit hs in
theorem co_in {i:Nat} (hi:i∈keysJ ks):o.getD i 0=topC o (fM ks (bsP g ps r.pin) ks.length i)+1∧0<o.getD i 0:=by
 have h:=(hI.done i hi (by simp)).1;have:=topC_nonneg o (fM ks (bsP g ps r.pin) ks.length i);exact⟨h,by omega⟩
theorem co_iff {i:Nat} {p:Pl} (hp:ps[i]?=some p):0<o.getD i 0 ↔ (p.skin=r.skin∨p.skin=3):=by
 constructor
 ·intro h
  by_cases hk:i∈keysJ ks
  ·obtain⟨q,hq,sq⟩:=skin_pl hs hk
   rw [hp]at hq
   cases hq
   exact sq
  ·have:=hI.off i hk
   omega
 ·intro h
  exact(co_in hI (skin_in hs hp h)).2
theorem co_bd {i:Nat} (hi:i<ps.length):0≤o.getD i 0∧o.getD i 0≤ps.length:=by
 have hl:(keysJ ks).length≤ps.length:=by
  have h9:=congrArg List.length hs;rw [lL]at h9;have h8:(skinP r ps).length≤(jsP ps).length:=List.length_filter_le _ _;rw [jsP_len]at h8;unfold keysJ;rw [lL];omega
 have hi':i<o.length:=by rw [hI.len];exact hi
 have hm:o.getD i 0∈o:=by rw [List.getD_eq_getElem?_getD,List.getElem?_eq_getElem hi'];exact List.getElem_mem _
 have:=hI.bd _ hm;simp only [List.length_nil]at this;omega
theorem co_bed {i:Nat} {p:Pl} (hp:ps[i]?=some p) (hsk:p.skin=r.skin∨p.skin=3) {b:Be} (hb:b∈bedsN g ps i p r.pin (ps.length+1)) (h0:0≤b.num):o.getD b.num.toNat 0<o.getD i 0:=by
 have hik:=skin_in hs hp hsk;obtain⟨e,hpos⟩:=co_in hI hik
 by_cases hz:b.num.toNat∈keysJ ks
 ·have hbs:bsP g ps r.pin i=bedsN g ps i p r.pin (ps.length+1):=by unfold bsP;rw [hp]
  have hu:b.num∈undQ ks (bsP g ps r.pin i) (bsP g ps r.pin i).length:=by
   unfold undQ;rw [List.take_length];refine List.mem_filter.2 ⟨List.mem_map_of_mem (by rw [hbs];exact hb),?_⟩;unfold undOk;simp only [Bool.and_eq_true,decide_eq_true_eq,List.any_eq_true,beq_iff_eq];obtain⟨x,hx,hxk⟩:=List.mem_map.1 hz;refine⟨h0,x,hx,?_⟩;obtain⟨k,h1,h2⟩:=skin_key hs hx;unfold keyJ at hxk;omega
  have hm:=fM_sup hu ks.length (key_at hik);have:=topC_ge o hm;omega
 ·have:=hI.off _ hz
  omega
omit hs in
theorem co_gap:∀(d:Nat) (i:Nat) (v:Int),i<ps.length→1≤v→o.getD i 0=v+d→∃j,j<ps.length∧o.getD j 0=v
 | 0,i,v,hi,_,h=>⟨i,hi,by simpa using h⟩
 | d+1,i,v,hi,hv,h=>by
  have hik:i∈keysJ ks:=by
   apply Classical.byContradiction
   intro hk;have:=hI.off i hk;omega
  obtain⟨e,hpos⟩:=co_in hI hik
  rcases topC_at o (fM ks (bsP g ps r.pin) ks.length i)with ht|⟨z,hz,ht⟩
  ·omega
  ·have hzn:z.toNat<ps.length:=by
    apply Classical.byContradiction
    intro hn;have hlo:=hI.len
    have:o.getD z.toNat 0=0:=by
     rw [List.getD_eq_getElem?_getD,List.getElem?_eq_none (by omega)];rfl
    omega
   exact co_gap d z.toNat v hzn hv (by omega)
end
end Go.Proofs.YteipgejmhfpkaaaGreatDoor.Cop
