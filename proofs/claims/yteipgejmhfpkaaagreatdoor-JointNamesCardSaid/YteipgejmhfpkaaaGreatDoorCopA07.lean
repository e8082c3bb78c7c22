/- Part 8: contracts of what the law calls. -/
import Derived.Test.YteipgejmhfpkaaaGreatDoorCopA06
import Derived.Test.YteipgejmhfpkaaaGreatDoorCopA05
import Derived.Lib.AppendZerosOnto
import Derived.Shelf.SlGeneric
import Derived.Shelf.SlSortCmp.WholeK
import Derived.Ground.SlsfProg
import Derived.Test.YteipgejmhfpkaaaGreatDoorProg
import Derived.Shelf.Small.Bits
import Derived.Shelf.Small.Wraps
import Derived.Shelf.Strconv.Itoa0
import Derived.Shelf.Sort.Plain
import Derived.Shelf.GgClosure.StringsIndexFunc
import Derived.Ground.GgwProg
import Derived.Shelf.GgClosure.StringsIndexFuncTop
import Derived.Shelf.Slices.Reverse
import Derived.Ground.Names2Prog
import Derived.Shelf.Slices.CompactI
import Derived.Shelf.Slices.SearchI
import Derived.Shelf.Slices.Cells
import Derived.Shelf.Slices.In.SortNone
set_option maxRecDepth 1000000
set_option maxHeartbeats 16000000
set_option linter.unusedSimpArgs false
set_option linter.unusedVariables false
open Go.IntKind renaming i64→O
open Go.Value renaming int→Y,slice→Z
open Option renaming some→X,none→I
open Go renaming World→V,Value→J
namespace Go.Proofs.YteipgejmhfpkaaaGreatDoor.Cop
section
open Go.RowKit Go.Shelf
theorem zjH (w:V) (v:J) (ps:List (Int×Int)) (x z:Int) (h:IsPts w v ps) :
  Calls Tryz.prog 207 #[v,.agg #[Y O x,Y O z]] w fun e w'=>e = .returned (Y O (idxB (fun p=>(x,z)==p) ps))∧Ext w w':=by
 obtain⟨a,c,rfl⟩:=h.form;obtain⟨n,hn⟩:=gX ps.length;rw [hn]at h ⊢;have hle:=h.le;unfold maxLen at hle;have hnc:n≤9223372036854775807:=by omega
 obtain⟨F,hF⟩:∃F:Int×Int→Bool,F=fun p=>(x,z)==p:=⟨_,rfl⟩
 rw [←hF];have HF:=hd9 hF;have Hn:=hd9 hn;clear hn hle hF;go_enter Tryz.func207,Tryz.ntmps207;go_wp2
 go_loopg [8] n (fun g t8 W=>IxS w F ps g t8 W∧W.cell? ⟨w.heap.size,0,I⟩=X (Y O x)∧W.cell? ⟨w.heap.size,1,I⟩=X (Y O z))
 case atStart=>exact⟨⟨0,by omega,rfl,by rw [Hn.out];rfl,eA,fun j y hj=>by omega⟩,by go_simp,by go_simp⟩
 case round =>
  obtain⟨⟨i,hi,rfl,rfl,hx,hall⟩,k0,k1⟩:=hrel;rw [Hn.out]at hi;have Hall:=hd9 hall;clear hall
  by_cases hlt:i<n
  ·obtain⟨q,hq⟩:∃q,ps[i]?=X q:=⟨ps[i]'(by rw [Hn.out];omega),by simp [Hn.out,hlt]⟩
   obtain⟨qx,qz⟩:=q;obtain⟨b,o,rfl,hb,d0,d1⟩:=(h.ext' hx).at' hq;have Hq:=hd9 hq;clear hq;have p1:(0:Int)≤(i:Int):=by omega
   have p2:(i:Int)<(n:Int):=by omega
   by_cases e1:x=qx
   ·have f1:(x==qx)=true:=by simpa using e1
    by_cases e2:z=qz
    ·have f2:(z==qz)=true:=by simpa using e2
     have e:idxB F ps=(i:Int):=zaC Hq.out (by rw [HF.out];simp [e1,e2]) Hall.out;have E:=hd9 e;clear e e1 e2;go_wp2
     go_quiet (fail)
     go_wp2;go_ret;exact⟨by rw [E.out];rfl,eA⟩
    ·have f2:(z==qz)=false:=by simpa using e2
     have g1:F (qx,qz)=false:=by rw [HF.out];simp [e2]
     have G1:=hd9 g1;clear e1 e2 g1;go_wp2
     go_quiet (fail)
     go_wp2
     go_roundg (n-(i+1))
     case measure=>have:=Hn.out;omega
     case rel =>
      refine⟨⟨i+1,by have:=Hn.out;omega,by go_num,by rw [Hn.out],eA,fun j y hj hy=>?_⟩,by go_simp,by go_simp⟩
      by_cases hji:j=i
      ·subst hji;rw [Hq.out]at hy;cases hy;exact G1.out
      ·exact Hall.out j y (by omega) hy
   ·have f1:(x==qx)=false:=by simpa using e1
    have g1:F (qx,qz)=false:=by rw [HF.out];simp [e1]
    have G1:=hd9 g1;clear e1 g1;go_wp2
    go_quiet (fail)
    go_wp2
    go_roundg (n-(i+1))
    case measure=>have:=Hn.out;omega
    case rel =>
     refine⟨⟨i+1,by have:=Hn.out;omega,by go_num,by rw [Hn.out],eA,fun j y hj hy=>?_⟩,by go_simp,by go_simp⟩
     by_cases hji:j=i
     ·subst hji;rw [Hq.out]at hy;cases hy;exact G1.out
     ·exact Hall.out j y (by omega) hy
  ·obtain rfl:i=n:=by omega
   have e:idxB F ps = -1:=zaB (fun j y hj hy=>Hall.out j y (by rw [Hn.out]at hj;exact hj) hy);have E:=hd9 e;clear e;go_wp2;go_ret;exact⟨by rw [E.out];rfl,hx⟩
def RetC (T:TypeId) (k:Nat) (w:V) (cs:List (List J)) (e:Ending) (w':V):Prop:=∃v,e = .returned v∧OwnC T k w' w.heap.size v cs∧Ext w w'
theorem zjB (w:V) (n:Nat) (hn:n≤1000000000):Calls Tryz.prog 229 #[Z I 0 0,Y O n] w (RetC 42 2 w []):=by
 by_cases h0:n=0
 ·subst h0
  go_enter Tryz.func229,Tryz.ntmps229;go_wp2;go_ret;exact⟨_,rfl,OwnC.nil _ _ _ _,eR _⟩
 ·have h1:(1:Int)≤(n:Int):=by omega
  obtain⟨i,hi,hz0,hz1,hz2⟩:=info_parts zbB;have hold:(Builtin.firstCells i.size 0 (Z I 0 0)).run Tryz.prog w.drew = .ok ([]:List J).toArray w.drew:=run_firstCells_none w.drew i.size 0 0 0
  have hr:∀ty,(Builtin.append_ #[30,3] ty #[Z I 0 0,Y O (n:Int)]).run Tryz.prog w = .ok (Z (X ⟨w.heap.size,0,I⟩) n (grownCap w n 0 42)) (w.drew.alloc (.cells (([]:List J).toArray++Builtin.zeroCells (Value.cells (.agg #[Y O 0,Y O 0])) n++Builtin.zeroCells (Value.cells (.agg #[Y O 0,Y O 0])) (grownCap w n 0 42-n)) 42)):=fun ty=>by
   have h:=Lib.run_append_grow_zeros w 30 3 ty 42 i (.agg #[Y O 0,Y O 0]) O O Tryz.underlying30 Tryz.underlying3 hi hz0 I 0 0 [] hold n (by omega) (by rw [hz1];omega) (by omega) (by omega) (by rw [hz2];omega)
    (growslice_fits (by omega) (by rw [hz2];omega))
   simpa using h
  have hG:=grownCap_ge w n 0 42;have hG2:=grownCap_le_maxLen w n 0 42 (by unfold maxLen;omega)
  generalize grownCap w n 0 42=G at *
  have hG3:G≤9223372036854775807:=by unfold maxLen at hG2;omega
  have HG2:=hd9 hG2;clear hold hi hz0 hz1 hz2 hG2;go_enter Tryz.func229,Tryz.ntmps229
  go_wp2_with(at_builtin;refine Lib.wpList_append_run _ rfl _ _ _ _ rfl _ _ rfl rfl _ _ (hr _) ?_)
  go_ret;refine⟨_,rfl,⟨by simp,rfl,.inr ⟨w.heap.size,G,_,rfl,nE _,aN w.drew _,by simp,HG2.out,?_,by simp⟩⟩,eA⟩;simp [Builtin.zeroCells,Value.cells];omega
theorem zjA (w:V) (n:Nat) (hn:n≤1000000000):Calls Tryz.prog 190 #[Z I 0 0,Y O n] w (RetC 42 2 w []):=by
 by_cases h0:n=0
 ·subst h0
  go_enter Tryz.func190,Tryz.ntmps190;go_wp2;go_ret;exact⟨_,rfl,OwnC.nil _ _ _ _,eR _⟩
 ·have h1:(1:Int)≤(n:Int):=by omega
  obtain⟨i,hi,hz0,hz1,hz2⟩:=info_parts zbB;have hold:(Builtin.firstCells i.size 0 (Z I 0 0)).run Tryz.prog w.drew = .ok ([]:List J).toArray w.drew:=run_firstCells_none w.drew i.size 0 0 0
  have hr:∀ty,(Builtin.append_ #[99,3] ty #[Z I 0 0,Y O (n:Int)]).run Tryz.prog w = .ok (Z (X ⟨w.heap.size,0,I⟩) n (grownCap w n 0 42)) (w.drew.alloc (.cells (([]:List J).toArray++Builtin.zeroCells (Value.cells (.agg #[Y O 0,Y O 0])) n++Builtin.zeroCells (Value.cells (.agg #[Y O 0,Y O 0])) (grownCap w n 0 42-n)) 42)):=fun ty=>by
   have h:=Lib.run_append_grow_zeros w 99 3 ty 42 i (.agg #[Y O 0,Y O 0]) O O Tryz.underlying99 Tryz.underlying3 hi hz0 I 0 0 [] hold n (by omega) (by rw [hz1];omega) (by omega) (by omega) (by rw [hz2];omega)
    (growslice_fits (by omega) (by rw [hz2];omega))
   simpa using h
  have hG:=grownCap_ge w n 0 42;have hG2:=grownCap_le_maxLen w n 0 42 (by unfold maxLen;omega)
  generalize grownCap w n 0 42=G at *
  have hG3:G≤9223372036854775807:=by unfold maxLen at hG2;omega
  have HG2:=hd9 hG2;clear hold hi hz0 hz1 hz2 hG2;go_enter Tryz.func190,Tryz.ntmps190
  go_wp2_with(at_builtin;refine Lib.wpList_append_run _ rfl _ _ _ _ rfl _ _ rfl rfl _ _ (hr _) ?_)
  go_ret;refine⟨_,rfl,⟨by simp,rfl,.inr ⟨w.heap.size,G,_,rfl,nE _,aN w.drew _,by simp,HG2.out,?_,by simp⟩⟩,eA⟩;simp [Builtin.zeroCells,Value.cells];omega
def PSl (T:TypeId) (w:V) (c:List J) (ps:List (Int×Int)):Prop:=∃v,c=[v]∧IsPts w v ps
def tot (pss:List (List (Int×Int))):Nat:=pss.flatten.length
theorem za9 {pss:List (List (Int×Int))} {i:Nat} {ps:List (Int×Int)} (h:pss[i]?=X ps):tot (pss.take (i+1))=tot (pss.take i)+ps.length:=by
 unfold tot;rw [zaa _ _ _ h,List.flatten_append,lA];simp
theorem zax (pss:List (List (Int×Int))) (i:Nat):tot (pss.take i)≤tot pss:=by
 unfold tot
 conv=>rhs;rw [←List.take_append_drop i pss,List.flatten_append,lA]
 omega
def CcS (w:V) (pss:List (List (Int×Int))) (g:Nat) (t3 t11:J) (W:V):Prop:=
 ∃i:Nat,i≤pss.length∧t11=Y O i∧t3=Y O (tot (pss.take i))∧g=pss.length-i∧Ext w W
def CdS (w:V) (base:Nat) (pss:List (List (Int×Int))) (g:Nat) (t6 t27:J) (W:V):Prop:=
 ∃i:Nat,i≤pss.length∧t27=Y O i∧OwnC 42 2 W base t6 ((pss.take i).flatten.map pc)∧g=pss.length-i∧Ext w W∧base≤W.heap.size
theorem zmP {T:TypeId} {w:V} {v:J} {ps:List (Int×Int)} (h:Sl T 2 PP w v ps):Rd w T 2 v (ps.map pc).length (ps.map pc).flatten:=by
 obtain⟨cs,h1,h2,h3,h4⟩:=h
 have e:cs=ps.map pc:=by
  apply List.ext_getElem?
  intro i;rw [lP]
  by_cases hi:i<ps.length
  ·have hc:cs[i]?=X (cs[i]'(by omega)):=gE _
   have hx:ps[i]?=X (ps[i]):=gE _;have:=h4 i _ _ hc hx;rw [hc,hx];exact congrArg X this
  ·rw [List.getElem?_eq_none (by omega),List.getElem?_eq_none (by omega)];rfl
 subst e;rw [lL];exact h3
theorem zi8 (w:V) (v:J) (pss:List (List (Int×Int))) (h:Sl 30 1 (PSl 30) w v pss) (ht:tot pss≤1000000000) :
  Calls Tryz.prog 208 #[v] w (RetC 42 2 w (pss.flatten.map pc)):=by
 obtain⟨a,c,rfl⟩:=h.form;obtain⟨n,hn⟩:=gX pss.length;rw [hn]at h ⊢;have hle:=h.le;unfold maxLen at hle;have hnc:n≤9223372036854775807:=by omega
 have Hn:=hd9 hn;have Ht:=hd9 ht;clear hn hle ht;have hP:∀{W:V},Ext w W→Sl 30 1 (PSl 30) W (Z a n c) pss:=fun hx=>h.ext (fun _ _ ⟨v,h1,h2⟩=>⟨v,h1,h2.ext' hx⟩) hx
 go_enter Tryz.func208,Tryz.ntmps208;go_wp2
 go_loopg [3,11] n (CcS w pss)
 case atStart=>exact⟨0,by omega,rfl,rfl,by rw [Hn.out];rfl,eR _⟩
 case round =>
  obtain⟨i,hi,rfl,rfl,rfl,hx⟩:=hrel;rw [Hn.out]at hi;obtain⟨q,hq⟩:=gX (tot (pss.take i));have hq2:q≤1000000000:=by rw [←hq];exact nT (zax pss i) Ht.out
  rw [hq]
  by_cases hlt:i<n
  ·obtain⟨ps,hps⟩:∃q,pss[i]?=X q:=⟨pss[i]'(by rw [Hn.out];omega),by simp [Hn.out,hlt]⟩
   obtain⟨b,o,d,rfl,hb,hdl,⟨v,rfl,hv⟩,hc⟩:=(hP hx).at hps;have hc0:=hc 0 v rfl;simp only [Nat.mul_one,Nat.add_zero]at hc0;clear hc hdl;obtain⟨a',c',rfl⟩:=hv.form;have hst:=za9 hps;rw [hq]at hst;obtain⟨m,hm⟩:=gX ps.length;rw [hm]at hst hc0;have hm2:q+m≤1000000000:=by rw [←hst];exact nT (zax pss (i+1)) Ht.out
   have Hst:=hd9 hst;have hv':=hv;have Hm:=hd9 hm;clear hst hps hq hv hm hv';go_wp2
   go_roundg (n-(i+1))
   case measure=>have:=Hn.out;omega
   case rel=>exact⟨i+1,by have:=Hn.out;omega,by go_num,by rw [Hst.out];go_num,by rw [Hn.out],eA⟩
  ·obtain rfl:i=n:=by omega
   clear hq
   go_wp2_with(((go_at_call 229;(with_reducible refine(zjB _ q (by omega)).mono ?_);rintro e w1 ⟨v1,rfl,ho1,hx1⟩;obtain⟨a1,c1,rfl⟩:=ho1.form;obtain⟨hc1,hf1⟩:=hx1.cells)))
   have hx1':=hx.trans hx1;obtain⟨W0,rfl⟩:∃W0,W0=wr:=⟨_,rfl⟩
   go_loopg [6,27] i (CdS w W0.heap.size pss)
   case atStart=>exact⟨0,by omega,rfl,by simpa using ho1,by rw [Hn.out];rfl,hx1',hx1.size⟩
   case round =>
    clear hx1 hx1' ho1 hc1 hf1;obtain⟨j,hj,rfl,hown,rfl,hx2,hbs⟩:=hrel;rw [Hn.out]at hj;obtain⟨a2,c2,rfl⟩:=hown.form;obtain⟨L2,hL2⟩:=gX (((pss.take j).flatten.map pc).length);have hL3:L2≤1000000000:=by rw [←hL2,lL];exact nT (zax pss j) Ht.out
    rw [hL2]at hown ⊢;have hsz:=hx.size
    by_cases hlt2:j<i
    ·obtain⟨ps,hps⟩:∃q,pss[j]?=X q:=⟨pss[j]'(by rw [Hn.out];omega),by simp [Hn.out,hlt2]⟩
     obtain⟨b,o,d,rfl,hb,hdl,⟨v,rfl,hv⟩,hc⟩:=(hP hx2).at hps;have hc0:=hc 0 v rfl;simp only [Nat.mul_one,Nat.add_zero]at hc0;clear hc hdl;obtain⟨a',c',rfl⟩:=hv.form;have hst:=za9 hps
     have hle3:((pss.take j).flatten.map pc).length+(ps.map pc).length≤100000000000:=by
      have:=zax pss (j+1);have h9:=Ht.out;rw [hst]at this;unfold tot at this h9;rw [lL,lL];omega
     have hfl:(pss.take (j+1)).flatten.map pc=(pss.take j).flatten.map pc++ps.map pc:=by
      rw [zaa _ _ _ hps,List.flatten_append,List.map_append];simp
     have hrd:=zmP hv;have Hfl:=hd9 hfl;have HL2:=hd9 hL2;have Hle3:=hd9 hle3;clear hst hps hfl hL2 hle3
     go_wp2_with(at_builtin;refine appS (v:=Z a2 L2 c2) zbB rfl (by decide) (by decide) Tryz.underlying30 rfl _ _ rfl rfl hown rfl (ps.map pc) zfJ hrd zfK Hle3.out hbs ?_;intro v' w1 hown3 hgrow hlie;obtain⟨a3,n3,c3,rfl⟩:=hown3.form3)
     go_roundg (i-(j+1))
     case measure=>have:=Hn.out;omega
     case rel =>
      have hbw:=zad hgrow hbs (fun k hk=>(hown.lt k hk).1);exact⟨j+1,by rw [Hn.out];omega,by go_num,by rw [Hfl.out];exact hown3,by rw [Hn.out],hx2.thenB hbw hsz,nT hbs hbw.size⟩
    ·obtain rfl:j=i:=by omega
     have e:(pss.take j).flatten.map pc=pss.flatten.map pc:=by rw [lT (by rw [Hn.out];omega)]
     have E:=hd9 e;clear e hL2;go_wp2;go_ret;exact⟨_,rfl,by rw [←E.out];exact hown.mono hsz,hx2⟩
theorem zi7 (w:V) (v:J) (pss:List (List (Int×Int))) (h:Sl 99 1 (PSl 99) w v pss) (ht:tot pss≤1000000000) :
  Calls Tryz.prog 146 #[v] w (RetC 42 2 w (pss.flatten.map pc)):=by
 obtain⟨a,c,rfl⟩:=h.form;obtain⟨n,hn⟩:=gX pss.length;rw [hn]at h ⊢;have hle:=h.le;unfold maxLen at hle;have hnc:n≤9223372036854775807:=by omega
 have Hn:=hd9 hn;have Ht:=hd9 ht;clear hn hle ht;have hP:∀{W:V},Ext w W→Sl 99 1 (PSl 99) W (Z a n c) pss:=fun hx=>h.ext (fun _ _ ⟨v,h1,h2⟩=>⟨v,h1,h2.ext' hx⟩) hx
 go_enter Tryz.func146,Tryz.ntmps146;go_wp2
 go_loopg [3,11] n (CcS w pss)
 case atStart=>exact⟨0,by omega,rfl,rfl,by rw [Hn.out];rfl,eR _⟩
 case round =>
  obtain⟨i,hi,rfl,rfl,rfl,hx⟩:=hrel;rw [Hn.out]at hi;obtain⟨q,hq⟩:=gX (tot (pss.take i));have hq2:q≤1000000000:=by rw [←hq];exact nT (zax pss i) Ht.out
  rw [hq]
  by_cases hlt:i<n
  ·obtain⟨ps,hps⟩:∃q,pss[i]?=X q:=⟨pss[i]'(by rw [Hn.out];omega),by simp [Hn.out,hlt]⟩
   obtain⟨b,o,d,rfl,hb,hdl,⟨v,rfl,hv⟩,hc⟩:=(hP hx).at hps;have hc0:=hc 0 v rfl;simp only [Nat.mul_one,Nat.add_zero]at hc0;clear hc hdl;obtain⟨a',c',rfl⟩:=hv.form;have hst:=za9 hps;rw [hq]at hst;obtain⟨m,hm⟩:=gX ps.length;rw [hm]at hst hc0;have hm2:q+m≤1000000000:=by rw [←hst];exact nT (zax pss (i+1)) Ht.out
   have Hst:=hd9 hst;have hv':=hv;have Hm:=hd9 hm;clear hst hps hq hv hm hv';go_wp2
   go_roundg (n-(i+1))
   case measure=>have:=Hn.out;omega
   case rel=>exact⟨i+1,by have:=Hn.out;omega,by go_num,by rw [Hst.out];go_num,by rw [Hn.out],eA⟩
  ·obtain rfl:i=n:=by omega
   clear hq
   go_wp2_with(((go_at_call 190;(with_reducible refine(zjA _ q (by omega)).mono ?_);rintro e w1 ⟨v1,rfl,ho1,hx1⟩;obtain⟨a1,c1,rfl⟩:=ho1.form;obtain⟨hc1,hf1⟩:=hx1.cells)))
   have hx1':=hx.trans hx1;obtain⟨W0,rfl⟩:∃W0,W0=wr:=⟨_,rfl⟩
   go_loopg [6,27] i (CdS w W0.heap.size pss)
   case atStart=>exact⟨0,by omega,rfl,by simpa using ho1,by rw [Hn.out];rfl,hx1',hx1.size⟩
   case round =>
    clear hx1 hx1' ho1 hc1 hf1;obtain⟨j,hj,rfl,hown,rfl,hx2,hbs⟩:=hrel;rw [Hn.out]at hj;obtain⟨a2,c2,rfl⟩:=hown.form;obtain⟨L2,hL2⟩:=gX (((pss.take j).flatten.map pc).length);have hL3:L2≤1000000000:=by rw [←hL2,lL];exact nT (zax pss j) Ht.out
    rw [hL2]at hown ⊢;have hsz:=hx.size
    by_cases hlt2:j<i
    ·obtain⟨ps,hps⟩:∃q,pss[j]?=X q:=⟨pss[j]'(by rw [Hn.out];omega),by simp [Hn.out,hlt2]⟩
     obtain⟨b,o,d,rfl,hb,hdl,⟨v,rfl,hv⟩,hc⟩:=(hP hx2).at hps;have hc0:=hc 0 v rfl;simp only [Nat.mul_one,Nat.add_zero]at hc0;clear hc hdl;obtain⟨a',c',rfl⟩:=hv.form;have hst:=za9 hps
     have hle3:((pss.take j).flatten.map pc).length+(ps.map pc).length≤100000000000:=by
      have:=zax pss (j+1);have h9:=Ht.out;rw [hst]at this;unfold tot at this h9;rw [lL,lL];omega
     have hfl:(pss.take (j+1)).flatten.map pc=(pss.take j).flatten.map pc++ps.map pc:=by
      rw [zaa _ _ _ hps,List.flatten_append,List.map_append];simp
     have hrd:=zmP hv;have Hfl:=hd9 hfl;have HL2:=hd9 hL2;have Hle3:=hd9 hle3;clear hst hps hfl hL2 hle3
     go_wp2_with(at_builtin;refine appS (v:=Z a2 L2 c2) zbB rfl (by decide) (by decide) Tryz.underlying99 rfl _ _ rfl rfl hown rfl (ps.map pc) zfJ hrd zfK Hle3.out hbs ?_;intro v' w1 hown3 hgrow hlie;obtain⟨a3,n3,c3,rfl⟩:=hown3.form3)
     go_roundg (i-(j+1))
     case measure=>have:=Hn.out;omega
     case rel =>
      have hbw:=zad hgrow hbs (fun k hk=>(hown.lt k hk).1);exact⟨j+1,by rw [Hn.out];omega,by go_num,by rw [Hfl.out];exact hown3,by rw [Hn.out],hx2.thenB hbw hsz,nT hbs hbw.size⟩
    ·obtain rfl:j=i:=by omega
     have e:(pss.take j).flatten.map pc=pss.flatten.map pc:=by rw [lT (by rw [Hn.out];omega)]
     have E:=hd9 e;clear e hL2;go_wp2;go_ret;exact⟨_,rfl,by rw [←E.out];exact hown.mono hsz,hx2⟩
def idxN (ps:List (Int×Int)):Nat:=(idxB (fun p=>minP ps==p) ps).toNat
def settledP (ps:List (Int×Int)):List (Int×Int):=(ps.drop (idxN ps)++ps.take (idxN ps)).map fun p=>(p.1-(leastP ps).1,p.2-(leastP ps).2)
theorem zhd {ps:List (Int×Int)} (h:ps≠[]):minP ps∈ps:=by
 cases ps with
 | nil=>exact absurd rfl h
 | cons p ps =>
  have:∀(qs:List (Int×Int)) (a:Int×Int),qs.foldl lowP a=a∨qs.foldl lowP a∈qs:=by
   intro qs
   induction qs with
   | nil=>intro a;exact .inl rfl
   | cons q qs ih =>
    intro a;rw [List.foldl_cons]
    rcases ih (lowP a q)with e|e
    ·rw [e];unfold lowP;split
     ·exact .inr (by simp)
     ·exact .inl rfl
    ·exact .inr (mC _ e)
  rcases this ps p with e|e
  ·rw [show minP (p::ps)=ps.foldl lowP p from rfl,e];simp
  ·rw [show minP (p::ps)=ps.foldl lowP p from rfl];exact mC _ e
theorem zjG {ps:List (Int×Int)} (h:ps≠[]):idxB (fun p=>minP ps==p) ps=(idxN ps:Int)∧idxN ps<ps.length:=by
 obtain⟨i,hi,he⟩:=List.mem_iff_getElem.1 (zhd h);unfold idxN;unfold idxB
 cases hf:ps.findIdx? (fun p=>minP ps==p)with
 | none =>
  rw [List.findIdx?_eq_none_iff]at hf;have:=hf _ (zhd h);simp at this
 | some j =>
  rw [List.findIdx?_eq_some_iff_getElem]at hf;obtain⟨hj,_⟩:=hf;exact⟨by simp,by simpa using hj⟩
theorem zfA {k:Int} {ps:List (Int×Int)} (h:PBd k ps) (h0:ps≠[]):Bd k (leastP ps).1∧Bd k (leastP ps).2:=by
 cases ps with
 | nil=>exact absurd rfl h0
 | cons p ps =>
  have:∀(qs:List (Int×Int)) (a:Int×Int),(Bd k a.1∧Bd k a.2)→PBd k qs→Bd k (qs.foldl (fun o q=>(min o.1 q.1,min o.2 q.2)) a).1∧Bd k (qs.foldl (fun o q=>(min o.1 q.1,min o.2 q.2)) a).2:=by
   intro qs
   induction qs with
   | nil=>intro a ha _;exact ha
   | cons q qs ih =>
    intro a ha hq;refine ih _ ?_ (fun z hz=>hq z (mC _ hz));have:=hq q (by simp);unfold Bd at *;dsimp only;omega
  exact this ps p (h p (by simp)) (fun z hz=>h z (mC _ hz))
theorem PBd.rot {k:Int} {ps:List (Int×Int)} (h:PBd k ps) (m:Nat):PBd k (ps.drop m++ps.take m):=fun p hp=>by
 rcases List.mem_append.1 hp with h1|h1
 ·exact h p (List.mem_of_mem_drop h1)
 ·exact h p (List.mem_of_mem_take h1)
theorem sl2 {T:TypeId} {W:V} {v1 v2:J} {ps1 ps2:List (Int×Int)} (h1:IsPts W v1 ps1) (h2:IsPts W v2 ps2):Sl T 1 (PSl T) (W.alloc (.cells #[v1,v2] T)) (Z (X ⟨W.heap.size,0,I⟩) 2 2) [ps1,ps2]:=by
 refine⟨[[v1],[v2]],rfl,by simp,⟨rfl,_,_,rfl,nE _,by unfold maxLen;omega,.inr ⟨W.heap.size,0,_,_,rfl,aN W _,?_⟩⟩,?_⟩
 ·intro i x hx
  match i,hx with
  | 0,hx=>simpa using hx
  | 1,hx=>simpa using hx
  | i+2,hx=>simp at hx
 ·intro i c x hc hx
  match i,hc,hx with
  | 0,hc,hx=>simp at hc hx;subst hc hx;exact⟨_,rfl,h1.ext' ((eR _).alloc _)⟩
  | 1,hc,hx=>simp at hc hx;subst hc hx;exact⟨_,rfl,h2.ext' ((eR _).alloc _)⟩
  | i+2,hc,hx=>simp at hc
def MpS (w:V) (base:Nat) (f:Int×Int→Int×Int) (qs:List (Int×Int)) (v5:J) (g:Nat) (t24:J) (W:V):Prop:=
 ∃i:Nat,i≤qs.length∧t24=Y O i∧g=qs.length-i∧Ext w W∧base≤W.heap.size∧OwnC 42 2 W base v5 (((qs.take i).map f++qs.drop i).map pc)
theorem zmK {f:Int×Int→Int×Int} {qs:List (Int×Int)} {i:Nat} {q:Int×Int} (h:qs[i]?=X q):(((qs.take i).map f++qs.drop i).map pc)[i]?=X (pc q):=by
 have hi:=(lS.1 h).1;rw [lP,List.getElem?_append_right (by simp;omega)];simp only [lL,List.length_take];rw [show i-min i qs.length=0 by omega,List.getElem?_drop,Nat.add_zero,h];rfl
theorem zmL {f:Int×Int→Int×Int} {qs:List (Int×Int)} {i:Nat} {q:Int×Int} (h:qs[i]?=X q) {x z:Int} (hf:f q=(x,z)) (d:List J) (hd:d=[Y O x,Y O z]) :
  (((qs.take i).map f++qs.drop i).map pc).set i d=(((qs.take (i+1)).map f++qs.drop (i+1)).map pc):=by
 have hi:=(lS.1 h).1;subst hd
 have e1:(qs.drop i)=q::qs.drop (i+1):=by
  rw [List.drop_eq_getElem_cons hi];have:=(lS.1 h).2;rw [this]
 have hl:((qs.take i).map f).map pc=((qs.take i).map f).map pc:=rfl;rw [zaa _ _ _ h,List.map_append,List.map_append,e1,List.set_append_right _ _ (by simp;omega),List.map_cons];simp only [lL,List.length_take];rw [show i-min i qs.length=0 by omega,List.set_cons_zero];simp [hf,pc]
theorem OwnC.pair {T:TypeId} {w:V} {base g n c:Nat} {cs:List (List J)} {i:Nat} {p:Int×Int} (h:OwnC T 2 w base (Z (X ⟨g,0,I⟩) n c) cs) (hd:cs[i]?=X (pc p)) (u v:J) :
  OwnC T 2 ((w.setCell ⟨g,i*2,I⟩ u).setCell ⟨g,i*2+1,I⟩ v) base (Z (X ⟨g,0,I⟩) n c) (cs.set i [u,v]):=by
 have h1:=OwnC.stored (j:=0) h hd (by decide) u;have hi:=(lS.1 hd).1;have h2:=OwnC.stored (i:=i) (j:=1) (d:=[u,Y O p.2]) h1 (by rw [List.getElem?_set_self (by omega)];rfl) (by decide) v;rw [List.set_set]at h2;exact h2
theorem zdj (w:V) (v:J) (ps:List (Int×Int)) (h:IsPts w v ps) (h0:0<ps.length) (hn9:ps.length≤1000000) (hb:PBd 1000000 ps) :
  Calls Tryz.prog 173 #[v] w (RetC 42 2 w ((settledP ps).map pc)):=by
 obtain⟨a,c,rfl⟩:=h.form;have hne:ps≠[]:=by intro e;subst e;simp at h0
 obtain⟨⟨p0x,p0z⟩,hp0⟩:∃p,ps[0]?=X p:=⟨ps[0],by simp⟩;obtain⟨b,o,rfl,hbl,_,_⟩:=h.at' hp0;have hlb:=zfA hb hne;have hix:=zjG hne;have hQ:settledP ps=(ps.drop (idxN ps)++ps.take (idxN ps)).map fun p=>(p.1-(leastP ps).1,p.2-(leastP ps).2):=rfl
 have hqb:=hb.rot (idxN ps);rw [hQ];have hle:=h.le;have hcl:=fun W (hW:Ext w W)=>zfB W _ ps (h.ext' hW) h0
 have hcm:=fun W (hW:Ext w W)=>zkc W _ ps (h.ext' hW) h0
 obtain⟨⟨lx,lz⟩,hl⟩:∃p,leastP ps=p:=⟨_,rfl⟩;obtain⟨⟨mx,mz⟩,hm⟩:∃p,minP ps=p:=⟨_,rfl⟩;have hci:=fun W (hW:Ext w W)=>zjH W _ ps mx mz (h.ext' hW)
 rw [←hm,hix.1]at hci;obtain⟨k,hk⟩:=gX (idxN ps);rw [hk]at hci hqb hix ⊢;rw [hl]at hcl hlb ⊢;rw [hm]at hcm;obtain⟨qs,hqs⟩:=gX (ps.drop k++ps.take k);rw [hqs]at hqb ⊢;obtain⟨n,hn⟩:=gX ps.length;have hkn:k<n:=by have:=hix.2;omega
 have hqn:qs.length=n:=by rw [←hqs];simp;omega
 have hs1:IsPts w _ _:=h.drop h0 (m:=k) (by omega);have hs2:IsPts w _ _:=h.take h0 (m:=k) (c':=k) (by omega) (nE _) (by omega);rw [hn]at h hcl hcm hci hle hs1 ⊢;unfold maxLen at hle
 have hcc:=fun W (hW:Ext w W)=>zi8 ((W.alloc (.cells #[Z (X ⟨b,o+k*2,I⟩) (n-k) (c-k),Z (X ⟨b,o,I⟩) k k] 30)).drew) (Z (X ⟨W.heap.size,0,I⟩) 2 2) [ps.drop k,ps.take k] (sl2 (T:=30) (hs1.ext' hW) (hs2.ext' hW)) (by
  unfold tot;simp;omega)
 have e2:[ps.drop k,ps.take k].flatten=qs:=by simpa using hqs
 rw [e2]at hcc;obtain⟨RL,hRL⟩:=gX ((qs.map (fun p=>(p.1-lx,p.2-lz))).map pc);rw [hRL];have HRL:=hd9 hRL;clear hRL;have Hcl:=hd9 hcl;have Hcm:=hd9 hcm;have Hci:=hd9 hci;have Hcc:=hd9 hcc;have Hqb:=hd9 hqb;have Hlb:=hd9 hlb;have Hqn:=hd9 hqn;have k1:(0:Int)≤(k:Int):=by omega
 have k2:(k:Int)≤(n:Int):=by omega
 have k3:(n:Int)≤(c:Int):=by omega
 have k4:(k:Int)<(c:Int):=by omega
 have k5:k<c:=by omega
 have hnc:c≤9223372036854775807:=by omega
 clear hcl hcm hci hcc hqb hlb hqn hix hk hl hm hqs hn hs1 hs2 hle h hQ e2 hb hne hp0 h0 hn9;go_enter Tryz.func173,Tryz.ntmps173
 go_wp2_with(first|((go_at_call 168;(with_reducible refine(Hcl.out _ ?_).mono ?_);exact eA;rintro e w1 ⟨rfl,hx1⟩;obtain⟨hc1,hf1⟩:=hx1.cells))|((go_at_call 169;(with_reducible refine(Hcm.out _ ?_).mono ?_);exact eA;rintro e w2 ⟨rfl,hx2⟩;obtain⟨hc2,hf2⟩:=hx2.cells))|((go_at_call 207;(with_reducible refine(Hci.out _ ?_).mono ?_);exact eA;rintro e w3 ⟨rfl,hx3⟩;obtain⟨hc3,hf3⟩:=hx3.cells)))
 have hx3':Ext w w3:=eA;have hcc:=Hcc.out w3 hx3';have HCC:=hd9 hcc;clear hcc;have zo:w1.heap.size<w3.heap.size:=Nat.lt_of_lt_of_le (by have:=hx2.size;simp at this;omega) hx3.size;have o2:w2.cell? ⟨w1.heap.size,0,I⟩=X (Y O lx):=hx2.cellS (by simp);have o3:w2.cell? ⟨w1.heap.size,1,I⟩=X (Y O lz):=hx2.cellS (by simp);have o4:=hx3.cellS o2;have o5:=hx3.cellS o3;have O4:=hd9 o4;have O5:=hd9 o5;clear o2 o3 o4 o5
 first|(go_region_with (((go_at_call 208;(with_reducible refine HCC.out.mono ?_);rintro e w4 ⟨v4,rfl,ho4,hx4⟩;obtain⟨a4,n4,c4,rfl⟩:=ho4.form3))))|fail
 all_goals go_wp2
 have hl4:=ho4.len;rw [lL,Hqn.out]at hl4;obtain rfl:n=n4:=hl4.symm;obtain⟨g4,rfl,hg4,hg5⟩:=ho4.blk (by rw [lL,Hqn.out];omega);have hx5:Ext w3 w4:=((eR w3).alloc _).drew.trans hx4;have hx6:Ext w w4:=(((hx1.alloc _).trans hx2).trans hx3).trans hx5;have p4:=hx5.cellS O4.out;have p5:=hx5.cellS O5.out;simp only [qdZ,wZ]at hg4;obtain⟨bo,hbo⟩:=gX w1.heap.size;have hwb:w.heap.size≤bo:=by rw [←hbo];exact hx1.size
 rw [hbo]at zo p4 p5 ⊢;have ho5:=ho4.mono (b':=w3.heap.size) (by simp);have hs5:=hx5.size;obtain⟨B,hB⟩:=gX w3.heap.size;rw [hB]at zo ho5 hs5 hg4;have hBw:w.heap.size≤B:=by omega
 clear hbo hB ho4 hx1 hx2 hx3 hx3' hx4 hx5 hc1 hf1 hc2 hf2 hc3 hf3
 go_loopg [24] n (fun g t24 W=>MpS w B (fun p=>(p.1-lx,p.2-lz)) qs (Z (X ⟨g4,0,I⟩) n c4) g t24 W∧W.cell? ⟨bo,0,I⟩=X (Y O lx)∧W.cell? ⟨bo,1,I⟩=X (Y O lz))
 case atStart=>exact⟨⟨0,by omega,rfl,by rw [Hqn.out];rfl,hx6,hs5,by simpa using ho5⟩,p4,p5⟩
 case round =>
  clear p4 p5 ho5 hx6 hs5;obtain⟨⟨i,hi,rfl,rfl,hx,hsz,hown⟩,q0,q1⟩:=hrel;rw [Hqn.out]at hi
  by_cases hlt:i<n
  ·obtain⟨⟨qx,qz⟩,hq⟩:∃q,qs[i]?=X q:=⟨qs[i]'(by rw [Hqn.out];omega),by simp [Hqn.out,hlt]⟩
   have hpm:=zmK (f:=fun p=>(p.1-lx,p.2-lz)) hq;have d0:=hown.cell (j:=0) hpm rfl;have d1:=hown.cell (j:=1) hpm rfl;simp only [Nat.add_zero]at d0;dsimp only at d0 d1;have f0:=hown.frozen;have hbq:=Hqb.out (qx,qz) (lM hq);have HBq:=hd9 hbq;have hst:=fun(W:V) (h:OwnC 42 2 W B (Z (X ⟨g4,0,I⟩) n c4) (((qs.take i).map (fun p=>(p.1-lx,p.2-lz))++qs.drop i).map pc))=>h.pair hpm (Y O (qx-lx)) (Y O (qz-lz))
   rw [zmL (f:=fun p=>(p.1-lx,p.2-lz)) hq rfl _ rfl]at hst;have Hst:=hd9 hst;have Hown:=hd9 hown;have zg:=(hown.lt g4 rfl).2;have zb:bo<wr.heap.size:=World.block_lt_of_cell? wr _ q0;have p1:(0:Int)≤(i:Int):=by omega
   have p2:(i:Int)<(n:Int):=by omega
   have hgb:¬g4=bo:=by omega
   clear hst hpm hq hbq hown;go_wp2
   go_region_with (((go_at_call 209;(with_reducible refine(zfa _ qx qz lx lz (HBq.out.1.mono (by decide)) (HBq.out.2.mono (by decide)) (Hlb.out.1.mono (by decide)) (Hlb.out.2.mono (by decide))).mono ?_);rintro e w5 ⟨rfl,hx5⟩;obtain⟨hc5,hf5⟩:=hx5.cells;(try simp only [qcD,qfD,qdZ]at hc5 hf5))))
   all_goals go_wp2
   all_goals
    have hx6:Ext wr w5:=(eR wr).drew.trans hx5;have hs6:=hx6.size;have hown6:=Hst.out w5 (Hown.out.ext hx6);have q0':=hx6.cellS q0;have q1':=hx6.cellS q1
    go_roundg (n-(i+1))
    case measure=>have:=Hqn.out;omega
    case rel=>exact⟨⟨i+1,by have:=Hqn.out;omega,by go_num,by rw [Hqn.out],((hx.trans hx6).set (by dsimp only;omega) _).set (by dsimp only;omega) _,by simp only [qcZ];omega,hown6⟩,by go_simp,by go_simp⟩
  ·obtain rfl:i=n:=by omega
   have e:((qs.take i).map (fun p=>(p.1-lx,p.2-lz))++qs.drop i)=qs.map (fun p=>(p.1-lx,p.2-lz)):=by
    rw [lT (by rw [Hqn.out];exact nE _),List.drop_of_length_le (by rw [Hqn.out];exact nE _),List.append_nil]
   rw [e,HRL.out]at hown;go_wp2;go_ret;exact⟨_,rfl,hown.mono hBw,hx⟩
end
end Go.Proofs.YteipgejmhfpkaaaGreatDoor.Cop
namespace Go.Proofs
section
open Go.Shelf
def Tryz.pdqPoint_ren:Go.Shelf.Ren:=⟨fun|14=>138|20=>174|21=>175|22=>176|23=>177|24=>178|25=>179|26=>180|27=>181|46=>210|47=>156|48=>157|49=>211|50=>212|15=>84|57=>230|28=>124|29=>125|n=>n,fun|24=>42|22=>30|3=>3|25=>175|4=>4|0=>0|46=>196|45=>195|50=>161|66=>228|39=>171|55=>204|70=>232|76=>266|77=>267|53=>202|5=>5|9=>9|n=>n,fun|n=>n⟩
theorem Tryz.pdqPoint:Go.Proofs.SlLaysF0.n14 Tryz.prog Tryz.pdqPoint_ren:={
 mixed:=by kernel_rfl
 f14:=⟨Tryz.f138.name,by decide,Tryz.func138.trans (congrArg some (by kernel_rfl))⟩
 f15:=Tryz.func84.trans (congrArg some (by kernel_rfl))
 f20:=⟨Tryz.f174.name,by decide,Tryz.func174.trans (congrArg some (by kernel_rfl))⟩
 f21:=⟨Tryz.f175.name,by decide,Tryz.func175.trans (congrArg some (by kernel_rfl))⟩
 f22:=⟨Tryz.f176.name,by decide,Tryz.func176.trans (congrArg some (by kernel_rfl))⟩
 f23:=⟨Tryz.f177.name,by decide,Tryz.func177.trans (congrArg some (by kernel_rfl))⟩
 f24:=⟨Tryz.f178.name,by decide,Tryz.func178.trans (congrArg some (by kernel_rfl))⟩
 f25:=⟨Tryz.f179.name,by decide,Tryz.func179.trans (congrArg some (by kernel_rfl))⟩
 f26:=⟨Tryz.f180.name,by decide,Tryz.func180.trans (congrArg some (by kernel_rfl))⟩
 f27:=⟨Tryz.f181.name,by decide,Tryz.func181.trans (congrArg some (by kernel_rfl))⟩
 f28:=Tryz.func124.trans (congrArg some (by kernel_rfl))
 f29:=Tryz.func125.trans (congrArg some (by kernel_rfl))
 f46:=⟨Tryz.f210.name,by decide,Tryz.func210.trans (congrArg some (by kernel_rfl))⟩
 f47:=Tryz.func156.trans (congrArg some (by kernel_rfl))
 f48:=Tryz.func157.trans (congrArg some (by kernel_rfl))
 f49:=⟨Tryz.f211.name,by decide,Tryz.func211.trans (congrArg some (by kernel_rfl))⟩
 f50:=⟨Tryz.f212.name,by decide,Tryz.func212.trans (congrArg some (by kernel_rfl))⟩
 f57:=⟨Tryz.f230.name,by decide,Tryz.func230.trans (congrArg some (by kernel_rfl))⟩
 t0:=Tryz.underlying0
 a0:=Tryz.isAgg0
 z0:=Tryz.sizeOf0
 v0:=Tryz.zeroValue0
 t3:=Tryz.underlying3
 a3:=Tryz.isAgg3
 z3:=Tryz.sizeOf3
 v3:=Tryz.zeroValue3
 t4:=Tryz.underlying4
 a4:=Tryz.isAgg4
 z4:=Tryz.sizeOf4
 v4:=Tryz.zeroValue4
 t5:=Tryz.underlying5
 a5:=Tryz.isAgg5
 z5:=Tryz.sizeOf5
 v5:=Tryz.zeroValue5
 t9:=Tryz.underlying9
 a9:=Tryz.isAgg9
 z9:=Tryz.sizeOf9
 v9:=Tryz.zeroValue9
 t22:=Tryz.underlying30
 a22:=Tryz.isAgg30
 z22:=Tryz.sizeOf30
 v22:=Tryz.zeroValue30
 t25:=Tryz.underlying175
 a25:=Tryz.isAgg175
 z25:=Tryz.sizeOf175
 v25:=Tryz.zeroValue175
 t39:=Tryz.underlying171
 a39:=Tryz.isAgg171
 z39:=Tryz.sizeOf171
 v39:=Tryz.zeroValue171
 t45:=Tryz.underlying195
 a45:=Tryz.isAgg195
 z45:=Tryz.sizeOf195
 v45:=Tryz.zeroValue195
 t46:=Tryz.underlying196
 a46:=Tryz.isAgg196
 z46:=Tryz.sizeOf196
 v46:=Tryz.zeroValue196
 t50:=Tryz.underlying161
 a50:=Tryz.isAgg161
 z50:=Tryz.sizeOf161
 v50:=Tryz.zeroValue161
 t53:=Tryz.underlying202
 a53:=Tryz.isAgg202
 z53:=Tryz.sizeOf202
 v53:=Tryz.zeroValue202
 t55:=Tryz.underlying204
 a55:=Tryz.isAgg204
 z55:=Tryz.sizeOf204
 v55:=Tryz.zeroValue204
 t66:=Tryz.underlying228
 a66:=Tryz.isAgg228
 z66:=Tryz.sizeOf228
 v66:=Tryz.zeroValue228
 t70:=Tryz.underlying232
 a70:=Tryz.isAgg232
 z70:=Tryz.sizeOf232
 v70:=Tryz.zeroValue232
 t76:=Tryz.underlying266
 a76:=Tryz.isAgg266
 z76:=Tryz.sizeOf266
 v76:=Tryz.zeroValue266
 t77:=Tryz.underlying267
 a77:=Tryz.isAgg267
 z77:=Tryz.sizeOf267
 v77:=Tryz.zeroValue267 }
def Tryz.sortStone_ren:Go.Shelf.Ren:=⟨fun|6=>47|15=>84|14=>83|28=>124|29=>125|20=>116|21=>117|22=>118|23=>119|24=>120|25=>121|26=>122|27=>123|46=>155|47=>156|48=>157|49=>158|50=>159|57=>199|n=>n,fun|22=>111|24=>127|25=>131|3=>3|39=>171|0=>0|53=>202|55=>204|4=>4|46=>196|45=>195|50=>161|5=>5|9=>9|66=>228|70=>232|76=>266|77=>267|n=>n,fun|n=>n⟩
theorem Tryz.sortStone:Go.Proofs.SlLaysF0.n6 Tryz.prog Tryz.sortStone_ren:={
 mixed:=by kernel_rfl
 f6:=⟨Tryz.f47.name,by decide,Tryz.func47.trans (congrArg some (by kernel_rfl))⟩
 f14:=⟨Tryz.f83.name,by decide,Tryz.func83.trans (congrArg some (by kernel_rfl))⟩
 f15:=Tryz.func84.trans (congrArg some (by kernel_rfl))
 f20:=⟨Tryz.f116.name,by decide,Tryz.func116.trans (congrArg some (by kernel_rfl))⟩
 f21:=⟨Tryz.f117.name,by decide,Tryz.func117.trans (congrArg some (by kernel_rfl))⟩
 f22:=⟨Tryz.f118.name,by decide,Tryz.func118.trans (congrArg some (by kernel_rfl))⟩
 f23:=⟨Tryz.f119.name,by decide,Tryz.func119.trans (congrArg some (by kernel_rfl))⟩
 f24:=⟨Tryz.f120.name,by decide,Tryz.func120.trans (congrArg some (by kernel_rfl))⟩
 f25:=⟨Tryz.f121.name,by decide,Tryz.func121.trans (congrArg some (by kernel_rfl))⟩
 f26:=⟨Tryz.f122.name,by decide,Tryz.func122.trans (congrArg some (by kernel_rfl))⟩
 f27:=⟨Tryz.f123.name,by decide,Tryz.func123.trans (congrArg some (by kernel_rfl))⟩
 f28:=Tryz.func124.trans (congrArg some (by kernel_rfl))
 f29:=Tryz.func125.trans (congrArg some (by kernel_rfl))
 f46:=⟨Tryz.f155.name,by decide,Tryz.func155.trans (congrArg some (by kernel_rfl))⟩
 f47:=Tryz.func156.trans (congrArg some (by kernel_rfl))
 f48:=Tryz.func157.trans (congrArg some (by kernel_rfl))
 f49:=⟨Tryz.f158.name,by decide,Tryz.func158.trans (congrArg some (by kernel_rfl))⟩
 f50:=⟨Tryz.f159.name,by decide,Tryz.func159.trans (congrArg some (by kernel_rfl))⟩
 f57:=⟨Tryz.f199.name,by decide,Tryz.func199.trans (congrArg some (by kernel_rfl))⟩
 t0:=Tryz.underlying0
 a0:=Tryz.isAgg0
 z0:=Tryz.sizeOf0
 v0:=Tryz.zeroValue0
 t3:=Tryz.underlying3
 a3:=Tryz.isAgg3
 z3:=Tryz.sizeOf3
 v3:=Tryz.zeroValue3
 t4:=Tryz.underlying4
 a4:=Tryz.isAgg4
 z4:=Tryz.sizeOf4
 v4:=Tryz.zeroValue4
 t5:=Tryz.underlying5
 a5:=Tryz.isAgg5
 z5:=Tryz.sizeOf5
 v5:=Tryz.zeroValue5
 t9:=Tryz.underlying9
 a9:=Tryz.isAgg9
 z9:=Tryz.sizeOf9
 v9:=Tryz.zeroValue9
 t22:=Tryz.underlying111
 a22:=Tryz.isAgg111
 z22:=Tryz.sizeOf111
 v22:=Tryz.zeroValue111
 t25:=Tryz.underlying131
 a25:=Tryz.isAgg131
 z25:=Tryz.sizeOf131
 v25:=Tryz.zeroValue131
 t39:=Tryz.underlying171
 a39:=Tryz.isAgg171
 z39:=Tryz.sizeOf171
 v39:=Tryz.zeroValue171
 t45:=Tryz.underlying195
 a45:=Tryz.isAgg195
 z45:=Tryz.sizeOf195
 v45:=Tryz.zeroValue195
 t46:=Tryz.underlying196
 a46:=Tryz.isAgg196
 z46:=Tryz.sizeOf196
 v46:=Tryz.zeroValue196
 t50:=Tryz.underlying161
 a50:=Tryz.isAgg161
 z50:=Tryz.sizeOf161
 v50:=Tryz.zeroValue161
 t53:=Tryz.underlying202
 a53:=Tryz.isAgg202
 z53:=Tryz.sizeOf202
 v53:=Tryz.zeroValue202
 t55:=Tryz.underlying204
 a55:=Tryz.isAgg204
 z55:=Tryz.sizeOf204
 v55:=Tryz.zeroValue204
 t66:=Tryz.underlying228
 a66:=Tryz.isAgg228
 z66:=Tryz.sizeOf228
 v66:=Tryz.zeroValue228
 t70:=Tryz.underlying232
 a70:=Tryz.isAgg232
 z70:=Tryz.sizeOf232
 v70:=Tryz.zeroValue232
 t76:=Tryz.underlying266
 a76:=Tryz.isAgg266
 z76:=Tryz.sizeOf266
 v76:=Tryz.zeroValue266
 t77:=Tryz.underlying267
 a77:=Tryz.isAgg267
 z77:=Tryz.sizeOf267
 v77:=Tryz.zeroValue267 }
def Tryz.sortJoint_ren:Go.Shelf.Ren:=⟨fun|6=>53|15=>84|14=>87|28=>124|29=>125|20=>126|21=>127|22=>128|23=>129|24=>130|25=>131|26=>132|27=>133|46=>160|47=>156|48=>157|49=>161|50=>162|57=>200|n=>n,fun|22=>69|24=>75|25=>138|3=>3|39=>171|0=>0|53=>202|55=>204|4=>4|46=>196|45=>195|50=>161|5=>5|9=>9|66=>228|70=>232|76=>266|77=>267|n=>n,fun|n=>n⟩
theorem Tryz.sortJoint:Go.Proofs.SlLaysF0.n6 Tryz.prog Tryz.sortJoint_ren:={
 mixed:=by kernel_rfl
 f6:=⟨Tryz.f53.name,by decide,Tryz.func53.trans (congrArg some (by kernel_rfl))⟩
 f14:=⟨Tryz.f87.name,by decide,Tryz.func87.trans (congrArg some (by kernel_rfl))⟩
 f15:=Tryz.func84.trans (congrArg some (by kernel_rfl))
 f20:=⟨Tryz.f126.name,by decide,Tryz.func126.trans (congrArg some (by kernel_rfl))⟩
 f21:=⟨Tryz.f127.name,by decide,Tryz.func127.trans (congrArg some (by kernel_rfl))⟩
 f22:=⟨Tryz.f128.name,by decide,Tryz.func128.trans (congrArg some (by kernel_rfl))⟩
 f23:=⟨Tryz.f129.name,by decide,Tryz.func129.trans (congrArg some (by kernel_rfl))⟩
 f24:=⟨Tryz.f130.name,by decide,Tryz.func130.trans (congrArg some (by kernel_rfl))⟩
 f25:=⟨Tryz.f131.name,by decide,Tryz.func131.trans (congrArg some (by kernel_rfl))⟩
 f26:=⟨Tryz.f132.name,by decide,Tryz.func132.trans (congrArg some (by kernel_rfl))⟩
 f27:=⟨Tryz.f133.name,by decide,Tryz.func133.trans (congrArg some (by kernel_rfl))⟩
 f28:=Tryz.func124.trans (congrArg some (by kernel_rfl))
 f29:=Tryz.func125.trans (congrArg some (by kernel_rfl))
 f46:=⟨Tryz.f160.name,by decide,Tryz.func160.trans (congrArg some (by kernel_rfl))⟩
 f47:=Tryz.func156.trans (congrArg some (by kernel_rfl))
 f48:=Tryz.func157.trans (congrArg some (by kernel_rfl))
 f49:=⟨Tryz.f161.name,by decide,Tryz.func161.trans (congrArg some (by kernel_rfl))⟩
 f50:=⟨Tryz.f162.name,by decide,Tryz.func162.trans (congrArg some (by kernel_rfl))⟩
 f57:=⟨Tryz.f200.name,by decide,Tryz.func200.trans (congrArg some (by kernel_rfl))⟩
 t0:=Tryz.underlying0
 a0:=Tryz.isAgg0
 z0:=Tryz.sizeOf0
 v0:=Tryz.zeroValue0
 t3:=Tryz.underlying3
 a3:=Tryz.isAgg3
 z3:=Tryz.sizeOf3
 v3:=Tryz.zeroValue3
 t4:=Tryz.underlying4
 a4:=Tryz.isAgg4
 z4:=Tryz.sizeOf4
 v4:=Tryz.zeroValue4
 t5:=Tryz.underlying5
 a5:=Tryz.isAgg5
 z5:=Tryz.sizeOf5
 v5:=Tryz.zeroValue5
 t9:=Tryz.underlying9
 a9:=Tryz.isAgg9
 z9:=Tryz.sizeOf9
 v9:=Tryz.zeroValue9
 t22:=Tryz.underlying69
 a22:=Tryz.isAgg69
 z22:=Tryz.sizeOf69
 v22:=Tryz.zeroValue69
 t25:=Tryz.underlying138
 a25:=Tryz.isAgg138
 z25:=Tryz.sizeOf138
 v25:=Tryz.zeroValue138
 t39:=Tryz.underlying171
 a39:=Tryz.isAgg171
 z39:=Tryz.sizeOf171
 v39:=Tryz.zeroValue171
 t45:=Tryz.underlying195
 a45:=Tryz.isAgg195
 z45:=Tryz.sizeOf195
 v45:=Tryz.zeroValue195
 t46:=Tryz.underlying196
 a46:=Tryz.isAgg196
 z46:=Tryz.sizeOf196
 v46:=Tryz.zeroValue196
 t50:=Tryz.underlying161
 a50:=Tryz.isAgg161
 z50:=Tryz.sizeOf161
 v50:=Tryz.zeroValue161
 t53:=Tryz.underlying202
 a53:=Tryz.isAgg202
 z53:=Tryz.sizeOf202
 v53:=Tryz.zeroValue202
 t55:=Tryz.underlying204
 a55:=Tryz.isAgg204
 z55:=Tryz.sizeOf204
 v55:=Tryz.zeroValue204
 t66:=Tryz.underlying228
 a66:=Tryz.isAgg228
 z66:=Tryz.sizeOf228
 v66:=Tryz.zeroValue228
 t70:=Tryz.underlying232
 a70:=Tryz.isAgg232
 z70:=Tryz.sizeOf232
 v70:=Tryz.zeroValue232
 t76:=Tryz.underlying266
 a76:=Tryz.isAgg266
 z76:=Tryz.sizeOf266
 v76:=Tryz.zeroValue266
 t77:=Tryz.underlying267
 a77:=Tryz.isAgg267
 z77:=Tryz.sizeOf267
 v77:=Tryz.zeroValue267 }
def Tryz.lays125_ren:Go.Shelf.Ren:=⟨fun|125=>84|128=>124|129=>125|n=>n,fun|46=>171|3=>3|51=>202|53=>204|4=>4|5=>5|9=>9|n=>n,fun|n=>n⟩
theorem Tryz.lays125:Go.Proofs.Lays.n125 Tryz.prog Tryz.lays125_ren:={
 mixed:=by kernel_rfl
 f125:=Tryz.func84.trans (congrArg some (by kernel_rfl))
 f128:=Tryz.func124.trans (congrArg some (by kernel_rfl))
 f129:=Tryz.func125.trans (congrArg some (by kernel_rfl))
 t3:=Tryz.underlying3
 a3:=Tryz.isAgg3
 z3:=Tryz.sizeOf3
 v3:=Tryz.zeroValue3
 t4:=Tryz.underlying4
 a4:=Tryz.isAgg4
 z4:=Tryz.sizeOf4
 v4:=Tryz.zeroValue4
 t5:=Tryz.underlying5
 a5:=Tryz.isAgg5
 z5:=Tryz.sizeOf5
 v5:=Tryz.zeroValue5
 t9:=Tryz.underlying9
 a9:=Tryz.isAgg9
 z9:=Tryz.sizeOf9
 v9:=Tryz.zeroValue9
 t46:=Tryz.underlying171
 a46:=Tryz.isAgg171
 z46:=Tryz.sizeOf171
 v46:=Tryz.zeroValue171
 t51:=Tryz.underlying202
 a51:=Tryz.isAgg202
 z51:=Tryz.sizeOf202
 v51:=Tryz.zeroValue202
 t53:=Tryz.underlying204
 a53:=Tryz.isAgg204
 z53:=Tryz.sizeOf204
 v53:=Tryz.zeroValue204 }
theorem Tryz.bits_Len (x:Int) (w:World) (h0:0≤x) (h1:x≤18446744073709551615) :
  Calls Tryz.prog 84 #[.int .u64 x] w fun e w'=>e = .returned (.int .i64 (Lib.bitLen x.toNat))∧w'=w:=Any.bits_Len Tryz.lays125 x w h0 h1
def Tryz.lays189_ren:Go.Shelf.Ren:=⟨fun|189=>147|125=>84|257=>191|128=>124|129=>125|294=>214|295=>215|296=>216|297=>217|298=>218|299=>219|216=>220|300=>221|301=>222|328=>231|329=>156|330=>157|331=>232|332=>233|215=>228|343=>241|n=>n,fun|28=>36|3=>3|46=>171|0=>0|51=>202|53=>204|4=>4|183=>196|182=>195|131=>161|5=>5|9=>9|218=>228|222=>232|228=>266|229=>267|n=>n,fun|n=>n⟩
theorem Tryz.lays189:Go.Proofs.Lays.n189 Tryz.prog Tryz.lays189_ren:={
 mixed:=by kernel_rfl
 f125:=Tryz.func84.trans (congrArg some (by kernel_rfl))
 f128:=Tryz.func124.trans (congrArg some (by kernel_rfl))
 f129:=Tryz.func125.trans (congrArg some (by kernel_rfl))
 f189:=Tryz.func147.trans (congrArg some (by kernel_rfl))
 f215:=Tryz.func228.trans (congrArg some (by kernel_rfl))
 f216:=Tryz.func220.trans (congrArg some (by kernel_rfl))
 f257:=Tryz.func191.trans (congrArg some (by kernel_rfl))
 f294:=Tryz.func214.trans (congrArg some (by kernel_rfl))
 f295:=Tryz.func215.trans (congrArg some (by kernel_rfl))
 f296:=Tryz.func216.trans (congrArg some (by kernel_rfl))
 f297:=Tryz.func217.trans (congrArg some (by kernel_rfl))
 f298:=Tryz.func218.trans (congrArg some (by kernel_rfl))
 f299:=Tryz.func219.trans (congrArg some (by kernel_rfl))
 f300:=Tryz.func221.trans (congrArg some (by kernel_rfl))
 f301:=Tryz.func222.trans (congrArg some (by kernel_rfl))
 f328:=Tryz.func231.trans (congrArg some (by kernel_rfl))
 f329:=Tryz.func156.trans (congrArg some (by kernel_rfl))
 f330:=Tryz.func157.trans (congrArg some (by kernel_rfl))
 f331:=Tryz.func232.trans (congrArg some (by kernel_rfl))
 f332:=Tryz.func233.trans (congrArg some (by kernel_rfl))
 f343:=Tryz.func241.trans (congrArg some (by kernel_rfl))
 t0:=Tryz.underlying0
 a0:=Tryz.isAgg0
 z0:=Tryz.sizeOf0
 v0:=Tryz.zeroValue0
 t3:=Tryz.underlying3
 a3:=Tryz.isAgg3
 z3:=Tryz.sizeOf3
 v3:=Tryz.zeroValue3
 t4:=Tryz.underlying4
 a4:=Tryz.isAgg4
 z4:=Tryz.sizeOf4
 v4:=Tryz.zeroValue4
 t5:=Tryz.underlying5
 a5:=Tryz.isAgg5
 z5:=Tryz.sizeOf5
 v5:=Tryz.zeroValue5
 t9:=Tryz.underlying9
 a9:=Tryz.isAgg9
 z9:=Tryz.sizeOf9
 v9:=Tryz.zeroValue9
 t28:=Tryz.underlying36
 a28:=Tryz.isAgg36
 z28:=Tryz.sizeOf36
 v28:=Tryz.zeroValue36
 t46:=Tryz.underlying171
 a46:=Tryz.isAgg171
 z46:=Tryz.sizeOf171
 v46:=Tryz.zeroValue171
 t51:=Tryz.underlying202
 a51:=Tryz.isAgg202
 z51:=Tryz.sizeOf202
 v51:=Tryz.zeroValue202
 t53:=Tryz.underlying204
 a53:=Tryz.isAgg204
 z53:=Tryz.sizeOf204
 v53:=Tryz.zeroValue204
 t131:=Tryz.underlying161
 a131:=Tryz.isAgg161
 z131:=Tryz.sizeOf161
 v131:=Tryz.zeroValue161
 t182:=Tryz.underlying195
 a182:=Tryz.isAgg195
 z182:=Tryz.sizeOf195
 v182:=Tryz.zeroValue195
 t183:=Tryz.underlying196
 a183:=Tryz.isAgg196
 z183:=Tryz.sizeOf196
 v183:=Tryz.zeroValue196
 t218:=Tryz.underlying228
 a218:=Tryz.isAgg228
 z218:=Tryz.sizeOf228
 v218:=Tryz.zeroValue228
 t222:=Tryz.underlying232
 a222:=Tryz.isAgg232
 z222:=Tryz.sizeOf232
 v222:=Tryz.zeroValue232
 t228:=Tryz.underlying266
 a228:=Tryz.isAgg266
 z228:=Tryz.sizeOf266
 v228:=Tryz.zeroValue266
 t229:=Tryz.underlying267
 a229:=Tryz.isAgg267
 z229:=Tryz.sizeOf267
 v229:=Tryz.zeroValue267 }
open Go.Sort Go.RowKit in
theorem Tryz.slices_Sort_int (blk off cap:Nat) (zs:List Int) (w:World) (hH:Holds (Value.int .i64) w blk off zs.toArray) (hblk:blk<w.heap.size) (hsz:zs.length<4611686018427387904) :
  Calls Tryz.prog 147 #[.slice (some ⟨blk,off,none⟩) zs.length cap] w fun e w' =>
   e = .returned (.tuple #[])∧∃n os,w'=grow (putRow (Value.int .i64) (Sort.ahead w n) blk off (zs.mergeSort fun x y=>decide (x≤y)).toArray) os:=Any.slices_Sort_int Tryz.lays189 blk off cap zs w hH hblk hsz
def Tryz.laysGw17_ren:Go.Shelf.Ren:=⟨fun|17=>164|15=>201|20=>226|n=>n,fun|9=>9|23=>236|4=>4|3=>3|0=>0|21=>21|n=>n,fun|n=>n⟩
theorem Tryz.laysGw17:Go.Proofs.LaysGw.n17 Tryz.prog Tryz.laysGw17_ren:={
 mixed:=by kernel_rfl
 f15:=Tryz.func201.trans (congrArg some (by kernel_rfl))
 f17:=Tryz.func164.trans (congrArg some (by kernel_rfl))
 f20:=Tryz.func226.trans (congrArg some (by kernel_rfl))
 t0:=Tryz.underlying0
 a0:=Tryz.isAgg0
 z0:=Tryz.sizeOf0
 v0:=Tryz.zeroValue0
 i0:=by kernel_rfl
 t3:=Tryz.underlying3
 a3:=Tryz.isAgg3
 z3:=Tryz.sizeOf3
 v3:=Tryz.zeroValue3
 i3:=by kernel_rfl
 t4:=Tryz.underlying4
 a4:=Tryz.isAgg4
 z4:=Tryz.sizeOf4
 v4:=Tryz.zeroValue4
 i4:=by kernel_rfl
 t9:=Tryz.underlying9
 a9:=Tryz.isAgg9
 z9:=Tryz.sizeOf9
 v9:=Tryz.zeroValue9
 i9:=by kernel_rfl
 t21:=Tryz.underlying21
 a21:=Tryz.isAgg21
 z21:=Tryz.sizeOf21
 v21:=Tryz.zeroValue21
 i21:=by kernel_rfl
 t23:=Tryz.underlying236
 a23:=Tryz.isAgg236
 z23:=Tryz.sizeOf236
 v23:=Tryz.zeroValue236
 i23:=by kernel_rfl }
open Go.RowKit Go.Lib in
theorem Tryz.strings_ContainsFunc (g:Nat) (lb:Array Value) (eg:∀args w,(callFunc g args).run Tryz.prog w = .ok (.enter g args) w) (p:Nat→Bool) (s:ByteArray) (w:World) (hp:PredAt Tryz.prog g lb encR p w) :
  Calls Tryz.prog 164 #[.string s,.func (.func g) #[] lb] w fun e w'=>e = .returned (.bool (decide (0≤Lib.idxFunc p true s)))∧Below w.heap.size w w':=Any.strings_ContainsFunc Tryz.laysGw17 g lb eg p s w hp
def Tryz.lays112_ren:Go.Shelf.Ren:=⟨fun|112=>39|n=>n,fun|28=>36|3=>3|4=>4|0=>0|n=>n,fun|n=>n⟩
theorem Tryz.lays112:Go.Proofs.Lays.n112 Tryz.prog Tryz.lays112_ren:={
 mixed:=by kernel_rfl
 f112:=Tryz.func39.trans (congrArg some (by kernel_rfl))
 t0:=Tryz.underlying0
 a0:=Tryz.isAgg0
 z0:=Tryz.sizeOf0
 v0:=Tryz.zeroValue0
 t3:=Tryz.underlying3
 a3:=Tryz.isAgg3
 z3:=Tryz.sizeOf3
 v3:=Tryz.zeroValue3
 t4:=Tryz.underlying4
 a4:=Tryz.isAgg4
 z4:=Tryz.sizeOf4
 v4:=Tryz.zeroValue4
 t28:=Tryz.underlying36
 a28:=Tryz.isAgg36
 z28:=Tryz.sizeOf36
 v28:=Tryz.zeroValue36 }
open Go.RowKit Go.Lib Go.Sort in
theorem Tryz.slices_Reverse_int (blk off cap:Nat) (zs:List Int) (w:World) (hH:Holds (Value.int .i64) w blk off zs.toArray) (hsz:zs.length≤9223372036854775807) :
  Calls Tryz.prog 39 #[.slice (some ⟨blk,off,none⟩) zs.length cap] w fun e w'=>e = .returned (.tuple #[])∧∃n,w'=putRow (Value.int .i64) (Sort.ahead w n) blk off zs.reverse.toArray:=Any.slices_Reverse_int Tryz.lays112 blk off cap zs w hH hsz
def Tryz.laysNm220_ren:Go.Shelf.Ren:=⟨fun|20=>148|n=>n,fun|22=>36|3=>3|4=>4|0=>0|n=>n,fun|n=>n⟩
theorem Tryz.laysNm220:Go.Proofs.Lays2.n20 Tryz.prog Tryz.laysNm220_ren:={
 mixed:=by kernel_rfl
 f20:=Tryz.func148.trans (congrArg some (by kernel_rfl))
 t0:=Tryz.underlying0
 a0:=Tryz.isAgg0
 z0:=Tryz.sizeOf0
 v0:=Tryz.zeroValue0
 t3:=Tryz.underlying3
 a3:=Tryz.isAgg3
 z3:=Tryz.sizeOf3
 v3:=Tryz.zeroValue3
 t4:=Tryz.underlying4
 a4:=Tryz.isAgg4
 z4:=Tryz.sizeOf4
 v4:=Tryz.zeroValue4
 t22:=Tryz.underlying36
 a22:=Tryz.isAgg36
 z22:=Tryz.sizeOf36
 v22:=Tryz.zeroValue36
 i3:=by kernel_rfl }
open Go.RowKit Go.Lib Go.Sort in
theorem Tryz.slices_Compact_int (blk off cap:Nat) (zs:List Int) (w:World) (hH:Holds (Value.int .i64) w blk off zs.toArray) (hsz:zs.length≤9223372036854775807) (hcap:zs.length≤cap) :
  Calls Tryz.prog 148 #[.slice (some ⟨blk,off,none⟩) zs.length cap] w fun e w'=>e = .returned (.slice (some ⟨blk,off,none⟩) (Lib.compact zs).length cap)∧∃q,w'=putRow (Value.int .i64) (Sort.ahead w q) blk off (Lib.compact zs++List.replicate (zs.length-(Lib.compact zs).length) 0).toArray:=Any.slices_Compact_int Tryz.laysNm220 blk off cap zs w hH hsz hcap
end
end Go.Proofs
namespace Go.Proofs.YteipgejmhfpkaaaGreatDoor.Cop
section
open Go.RowKit Go.Shelf Go.Sort
def sortBy {α:Type} (B:α→Prop) [DecidablePred B] (cf:α→α→Int) (d:{x // B x}) (xs:List α):List α:=
 if h:∀x∈xs,B x then
  (@pdq {x // B x} ⟨d⟩ (ltOf fun x y:{x // B x}=>cf x.1 y.1) (xs.attachWith B h).toArray 0 xs.length (Lib.bitLen xs.length) true true).toList.map (·.1)
 else xs
theorem zat {α:Type} {B:α→Prop} {xs:List α} (h:∀x∈xs,B x):(xs.attachWith B h).map (·.1)=xs:=by simp
def BP (p:Int×Int):Prop:=Bd 1000000 p.1∧Bd 1000000 p.2
instance:DecidablePred BP:=fun p=>by unfold BP Bd;exact inferInstance
def BP0:{x // BP x}:=⟨(0,0),by decide⟩
def cfX (p q:Int×Int):Int:=p.1-q.1
def sortX (ps:List (Int×Int)):List (Int×Int):=sortBy BP cfX BP0 ps
instance:Inhabited {x // BP x}:=⟨BP0⟩
theorem ltX (x y:{x // BP x}):ltOf (fun x y:{x // BP x}=>cfX x.1 y.1) x y=decide (x.1.1<y.1.1):=by
 unfold ltOf cfX;rw [decide_eq_decide];dsimp only;omega
theorem swoX:@SWO {x // BP x} (ltOf fun x y:{x // BP x}=>cfX x.1 y.1) where
 irrefl x:=by rw [ltX];simp
 trans x y z h1 h2:=by rw [ltX]at *;simp only [decide_eq_true_eq]at *;omega
 ntrans x y z h1 h2:=by rw [ltX]at *;simp only [decide_eq_false_iff_not]at *;omega
theorem zlt (x y:{x // BP x}) (W:V):Calls Tryz.prog 92 #[.agg #[Y O x.1.1,Y O x.1.2],.agg #[Y O y.1.1,Y O y.1.2]] W fun e w'=>e = .returned (Y O (cfX x.1 y.1))∧∃q os',w'=grow (W.drewN q) os':=by
 obtain⟨⟨x1,x2⟩,⟨hx1,hx2⟩,hx3⟩:=x;obtain⟨⟨y1,y2⟩,⟨hy1,hy2⟩,hy3⟩:=y;unfold cfX;dsimp only at *;clear hx3 hy3;go_enter Tryz.func92,Tryz.ntmps92;go_wp2;go_ret;exact⟨rfl,0,_,by rw [alloc_eq_grow,alloc_eq_grow,grow_grow];rfl⟩
theorem cmpLaysX (blk off size:Nat) (w:V):CmpLays Tryz.prog 92 #[] (fun x:{x // BP x}=>pc x.1) 2 (fun x y=>cfX x.1 y.1) blk off size w:=
 fun _ _ _ _ x y=>zlt x y _
theorem zhk {β:Type} [Inhabited β] {lt:β→β→Bool} (hO:SWO lt) (d:Array β) (l:Nat):(pdq lt d 0 d.size l true true).size=d.size∧(pdq lt d 0 d.size l true true).toList.Perm d.toList:=by
 obtain⟨h1,_,h3⟩:=(pdq_sorts lt hO d 0 d.size l true true (Nat.zero_le _) (nE _) (Or.inl rfl)).1;refine⟨h1,?_⟩
 generalize pdq lt d 0 d.size l true true=d' at h1 h3 ⊢
 have e1:d'.extract 0 d.size=d':=by rw [←h1];exact Array.extract_size
 rw [e1,Array.extract_size]at h3;exact h3
theorem zgG {α:Type} {B:α→Prop} [DecidablePred B] {cf:α→α→Int} {d:{x // B x}} {xs:List α} (hO:@SWO {x // B x} (ltOf fun x y:{x // B x}=>cf x.1 y.1)):(sortBy B cf d xs).Perm xs:=by
 unfold sortBy
 split
 ·rename_i h
  have h2:=(@zhk {x // B x} ⟨d⟩ _ hO (xs.attachWith B h).toArray (Lib.bitLen xs.length)).2;have h3:=h2.map (·.1);rw [show (xs.attachWith B h).toArray.size=xs.length by simp]at h3;have e:(xs.attachWith B h).toArray.toList.map (·.1)=xs:=zat h;rw [e]at h3;exact h3
 ·exact List.Perm.refl _
theorem zaV (ps:List (Int×Int)):(sortX ps).Perm ps:=zgG swoX
theorem zdn (w:V) (base g n c:Nat) (ps:List (Int×Int)) (h:OwnC 42 2 w base (Z (X ⟨g,0,I⟩) n c) (ps.map pc)) (hb:PBd 1000000 ps) (hn9:ps.length≤1000000) :
  Calls Tryz.prog 93 #[Z (X ⟨g,0,I⟩) n c,.func (.func 92) #[] #[]] w fun e w'=>e = .returned (.tuple #[])∧OwnC 42 2 w' base (Z (X ⟨g,0,I⟩) n c) ((sortX ps).map pc)∧w.grownBy w' (X g):=by
 have hn:=h.len;rw [lL]at hn;obtain⟨d,hd⟩:=gX ((ps.attachWith BP hb).toArray);have hds:d.size=n:=by rw [←hd,hn,List.size_toArray];exact List.length_attachWith
 have hdl:d.toList.map (fun x=>pc x.1)=ps.map pc:=by
  rw [←hd,show (fun x:{x // BP x}=>pc x.1)=pc ∘ (·.1)from rfl,←List.map_map]
  congr 1
  exact zat hb
 have hX:sortX ps=(pdq (ltOf fun x y:{x // BP x}=>cfX x.1 y.1) d 0 d.size (Lib.bitLen d.size) true true).toList.map (·.1):=by
  unfold sortX sortBy;rw [dif_pos (show ∀x∈ps,BP x from hb),hds,hd,hn]
 have hg:=(h.lt g rfl).2;have eg:∀args w,(callFunc 92 args).run Tryz.prog w = .ok (.enter 92 args) w:=enters_of Tryz.func92 (by kernel_rfl) rfl;have h':OwnC 42 2 w base (Z (X ⟨g,0,I⟩) n c) (d.toList.map fun x=>pc x.1):=by rw [hdl];exact h
 have hH:=zcZ (enc:=fun x:{x // BP x}=>pc x.1) (fun _=>rfl) h';have hlim:Lib.bitLen d.size<4611686018427387904:=Nat.lt_of_le_of_lt (Lib.bitLen_le d.size 62 (by omega) (by omega)) (by omega);have hp:Calls Tryz.prog 138 #[Z (X ⟨g,0,I⟩) d.size c,Y O 0,Y O d.size,Y O (Lib.bitLen d.size),.func (.func 92) #[] #[]] w fun e w'=>e = .returned (.tuple #[])∧SWK (fun x:{x // BP x}=>pc x.1) 2 w g 0 (pdq (ltOf fun x y:{x // BP x}=>cfX x.1 y.1) d 0 d.size (Lib.bitLen d.size) true true) w':=AnyQ.pdqsortCmpFunc_all (P:=Tryz.prog) (ρ:=Tryz.pdqPoint_ren) Tryz.pdqPoint 2 Tryz.isAgg42 Tryz.sizeOf42 (fun x:{x // BP x}=>pc x.1) (fun x y=>cfX x.1 y.1) 92 #[] swoX g 0 c d w eg (cmpLaysX g 0 d.size w) ⟨fun _=>rfl,fun x v hv=>by simp [pc]at hv;rcases hv with rfl|rfl<;>rfl,hH,hg⟩ (d.size+1) 0 d.size (Lib.bitLen d.size) d w (by omega) rfl (SWK.start hH) (Nat.zero_le _) (nE _) (by omega) hlim (Or.inl rfl)
 have hl:Calls Tryz.prog 84 #[Y .u64 (d.size:Int)] w fun e w'=>e = .returned (Y O (Lib.bitLen d.size:Nat))∧w'=w:=by
  have h:=Tryz.bits_Len (d.size:Int) w (by omega) (by omega)
  rwa [Int.toNat_natCast]at h
 have wr:IntKind.u64.wrap (d.size:Int)=d.size:=by simp [IntKind.wrap,IntKind.bits,IntKind.signed];omega
 have HX:=hd9 hX;have H':=hd9 h';rw [hds]at wr;have Hds:=hd9 hds;have hn63:n≤1000000:=by omega
 rw [hds]at hp hl;have Hp':=hd9 hp;have Hl':=hd9 hl;obtain⟨L,hL⟩:=gX (Lib.bitLen n);rw [hL]at hp hl;have Hp:=hd9 hp;have Hl:=hd9 hl;have HL:=hd9 hL;clear hp hl hX h' hd hds hL hlim eg hdl hH h hn hn9 Hp' Hl';go_enter Tryz.func93,Tryz.ntmps93
 go_wp2_with(first|((go_at_call 84;(with_reducible refine Hl.out.mono ?_);rintro e w' ⟨rfl,rfl⟩))|((go_at_call 138;(with_reducible refine Hp.out.mono ?_);rintro e w' ⟨rfl,m,os,rfl⟩)))
 go_end0
 refine⟨rfl,?_,zfe _⟩;have:=zcu (m:=m) (os:=os) (enc:=fun x:{x // BP x}=>pc x.1) (fun _=>rfl) (d':=pdq (ltOf fun x y:{x // BP x}=>cfX x.1 y.1) d 0 n L true true) H'.out ?_
 ·rw [HX.out,Hds.out,HL.out,List.map_map]
  exact this
 ·have:=(zhk swoX d L).1
  rw [Hds.out]at this ⊢;exact this
end
end Go.Proofs.YteipgejmhfpkaaaGreatDoor.Cop
