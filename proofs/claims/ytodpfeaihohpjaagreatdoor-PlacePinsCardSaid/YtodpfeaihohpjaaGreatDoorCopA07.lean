/- Part 8: contracts of what the law calls. -/
import Derived.Test.YtodpfeaihohpjaaGreatDoorCopA06
import Derived.Test.YtodpfeaihohpjaaGreatDoorCopA05
import Derived.Lib.AppendZerosOnto
import Derived.Shelf.SlGeneric
import Derived.Shelf.SlSortCmp.WholeK
import Derived.Ground.SlsfProg
import Derived.Test.YtodpfeaihohpjaaGreatDoorProg
import Derived.Shelf.Strings.Builder1
import Derived.Shelf.Strings.Builder2
import Derived.Shelf.Strings.OnBuilder
import Derived.Shelf.Strings.Trim
import Derived.Shelf.Small.Utf8
import Derived.Shelf.Small.Bits
import Derived.Shelf.Small.Strs
import Derived.Shelf.Small.Wraps
import Derived.Shelf.Strings.BuilderF
import Derived.Shelf.Strings.BuilderK
import Derived.Shelf.Strconv.Itoa0
import Derived.Shelf.Strings.Search1
import Derived.Shelf.Sort.Plain
import Derived.Shelf.GgClosure.StringsIndexFunc
import Derived.Ground.GgwProg
import Derived.Shelf.GgClosure.StringsIndexFuncTop
import Derived.Shelf.Strings.Runes
import Derived.Shelf.Strings.AsciiSet
import Derived.Shelf.Unicode.DecodeSlow
import Derived.Ground.Names2Prog
import Derived.Shelf.Slices.CompactI
import Derived.Shelf.Slices.SearchI
import Derived.Shelf.Slices.Cells
import Derived.Shelf.Slices.In.SortNone
set_option maxRecDepth 1000000
set_option maxHeartbeats 16000000
set_option linter.unusedSimpArgs false
set_option linter.unusedVariables false
open Go.IntKind renaming i64→O
open Go.Value renaming int→Y,slice→Z
open Option renaming some→X,none→I
open Go renaming World→V,Value→J
namespace Go.Proofs.YtodpfeaihohpjaaGreatDoor.Cop
section
open Go.RowKit Go.Shelf
theorem zi9 (w:V) (v:J) (ps:List (Int×Int)) (x z:Int) (h:IsPts w v ps) :
  Calls Tryz.prog 196 #[v,.agg #[Y O x,Y O z]] w fun e w'=>e = .returned (Y O (idxB (fun p=>(x,z)==p) ps))∧Ext w w':=by
 obtain⟨a,c,rfl⟩:=h.form;obtain⟨n,hn⟩:=gX ps.length;rw [hn]at h ⊢;have hle:=h.le;unfold maxLen at hle;have hnc:n≤9223372036854775807:=by omega
 obtain⟨F,hF⟩:∃F:Int×Int→Bool,F=fun p=>(x,z)==p:=⟨_,rfl⟩
 rw [←hF];have HF:=hd9 hF;have Hn:=hd9 hn;clear hn hle hF;go_enter Tryz.func196,Tryz.ntmps196;go_wp2
 go_loopg [8] n (fun g t8 W=>IxS w F ps g t8 W∧W.cell? ⟨w.heap.size,0,I⟩=X (Y O x)∧W.cell? ⟨w.heap.size,1,I⟩=X (Y O z))
 case atStart=>exact⟨⟨0,by omega,rfl,by rw [Hn.out];rfl,eA,fun j y hj=>by omega⟩,by go_simp,by go_simp⟩
 case round =>
  obtain⟨⟨i,hi,rfl,rfl,hx,hall⟩,k0,k1⟩:=hrel;rw [Hn.out]at hi;have Hall:=hd9 hall;clear hall
  by_cases hlt:i<n
  ·obtain⟨q,hq⟩:∃q,ps[i]?=X q:=⟨ps[i]'(by rw [Hn.out];omega),by simp [Hn.out,hlt]⟩
   obtain⟨qx,qz⟩:=q;obtain⟨b,o,rfl,hb,d0,d1⟩:=(h.ext' hx).at' hq;have Hq:=hd9 hq;clear hq;have p1:(0:Int)≤(i:Int):=by omega
   have p2:(i:Int)<(n:Int):=by omega
   by_cases e1:x=qx
   ·have f1:(x==qx)=true:=by simpa using e1
    by_cases e2:z=qz
    ·have f2:(z==qz)=true:=by simpa using e2
     have e:idxB F ps=(i:Int):=zcx Hq.out (by rw [HF.out];simp [e1,e2]) Hall.out;have E:=hd9 e;clear e e1 e2;go_wp2
     go_quiet (fail)
     go_wp2;go_ret;exact⟨by rw [E.out];rfl,eA⟩
    ·have f2:(z==qz)=false:=by simpa using e2
     have g1:F (qx,qz)=false:=by rw [HF.out];simp [e2]
     have G1:=hd9 g1;clear e1 e2 g1;go_wp2
     go_quiet (fail)
     go_wp2
     go_roundg (n-(i+1))
     case measure=>have:=Hn.out;omega
     case rel =>
      refine⟨⟨i+1,by have:=Hn.out;omega,by go_num,by rw [Hn.out],eA,fun j y hj hy=>?_⟩,by go_simp,by go_simp⟩
      by_cases hji:j=i
      ·subst hji;rw [Hq.out]at hy;cases hy;exact G1.out
      ·exact Hall.out j y (by omega) hy
   ·have f1:(x==qx)=false:=by simpa using e1
    have g1:F (qx,qz)=false:=by rw [HF.out];simp [e1]
    have G1:=hd9 g1;clear e1 g1;go_wp2
    go_quiet (fail)
    go_wp2
    go_roundg (n-(i+1))
    case measure=>have:=Hn.out;omega
    case rel =>
     refine⟨⟨i+1,by have:=Hn.out;omega,by go_num,by rw [Hn.out],eA,fun j y hj hy=>?_⟩,by go_simp,by go_simp⟩
     by_cases hji:j=i
     ·subst hji;rw [Hq.out]at hy;cases hy;exact G1.out
     ·exact Hall.out j y (by omega) hy
  ·obtain rfl:i=n:=by omega
   have e:idxB F ps = -1:=zcw (fun j y hj hy=>Hall.out j y (by rw [Hn.out]at hj;exact hj) hy);have E:=hd9 e;clear e;go_wp2;go_ret;exact⟨by rw [E.out];rfl,hx⟩
def RetC (T:TypeId) (k:Nat) (w:V) (cs:List (List J)) (e:Ending) (w':V):Prop:=∃v,e = .returned v∧OwnC T k w' w.heap.size v cs∧Ext w w'
theorem zi1 (w:V) (n:Nat) (hn:n≤1000000000):Calls Tryz.prog 224 #[Z I 0 0,Y O n] w (RetC 33 2 w []):=by
 by_cases h0:n=0
 ·subst h0
  go_enter Tryz.func224,Tryz.ntmps224;go_wp2;go_ret;exact⟨_,rfl,OwnC.nil _ _ _ _,eR _⟩
 ·have h1:(1:Int)≤(n:Int):=by omega
  obtain⟨i,hi,hz0,hz1,hz2⟩:=info_parts zbD;have hold:(Builtin.firstCells i.size 0 (Z I 0 0)).run Tryz.prog w.drew = .ok ([]:List J).toArray w.drew:=run_firstCells_none w.drew i.size 0 0 0
  have hr:∀ty,(Builtin.append_ #[32,3] ty #[Z I 0 0,Y O (n:Int)]).run Tryz.prog w = .ok (Z (X ⟨w.heap.size,0,I⟩) n (grownCap w n 0 33)) (w.drew.alloc (.cells (([]:List J).toArray++Builtin.zeroCells (Value.cells (.agg #[Y O 0,Y O 0])) n++Builtin.zeroCells (Value.cells (.agg #[Y O 0,Y O 0])) (grownCap w n 0 33-n)) 33)):=fun ty=>by
   have h:=Lib.run_append_grow_zeros w 32 3 ty 33 i (.agg #[Y O 0,Y O 0]) O O Tryz.underlying32 Tryz.underlying3 hi hz0 I 0 0 [] hold n (by omega) (by rw [hz1];omega) (by omega) (by omega) (by rw [hz2];omega)
    (growslice_fits (by omega) (by rw [hz2];omega))
   simpa using h
  have hG:=grownCap_ge w n 0 33;have hG2:=grownCap_le_maxLen w n 0 33 (by unfold maxLen;omega)
  generalize grownCap w n 0 33=G at *
  have hG3:G≤9223372036854775807:=by unfold maxLen at hG2;omega
  have HG2:=hd9 hG2;clear hold hi hz0 hz1 hz2 hG2;go_enter Tryz.func224,Tryz.ntmps224
  go_wp2_with(at_builtin;refine Lib.wpList_append_run _ rfl _ _ _ _ rfl _ _ rfl rfl _ _ (hr _) ?_)
  go_ret;refine⟨_,rfl,⟨by simp,rfl,.inr ⟨w.heap.size,G,_,rfl,nE _,aN w.drew _,by simp,HG2.out,?_,by simp⟩⟩,eA⟩;simp [Builtin.zeroCells,Value.cells];omega
theorem zi0 (w:V) (n:Nat) (hn:n≤1000000000):Calls Tryz.prog 118 #[Z I 0 0,Y O n] w (RetC 33 2 w []):=by
 by_cases h0:n=0
 ·subst h0
  go_enter Tryz.func118,Tryz.ntmps118;go_wp2;go_ret;exact⟨_,rfl,OwnC.nil _ _ _ _,eR _⟩
 ·have h1:(1:Int)≤(n:Int):=by omega
  obtain⟨i,hi,hz0,hz1,hz2⟩:=info_parts zbD;have hold:(Builtin.firstCells i.size 0 (Z I 0 0)).run Tryz.prog w.drew = .ok ([]:List J).toArray w.drew:=run_firstCells_none w.drew i.size 0 0 0
  have hr:∀ty,(Builtin.append_ #[99,3] ty #[Z I 0 0,Y O (n:Int)]).run Tryz.prog w = .ok (Z (X ⟨w.heap.size,0,I⟩) n (grownCap w n 0 33)) (w.drew.alloc (.cells (([]:List J).toArray++Builtin.zeroCells (Value.cells (.agg #[Y O 0,Y O 0])) n++Builtin.zeroCells (Value.cells (.agg #[Y O 0,Y O 0])) (grownCap w n 0 33-n)) 33)):=fun ty=>by
   have h:=Lib.run_append_grow_zeros w 99 3 ty 33 i (.agg #[Y O 0,Y O 0]) O O Tryz.underlying99 Tryz.underlying3 hi hz0 I 0 0 [] hold n (by omega) (by rw [hz1];omega) (by omega) (by omega) (by rw [hz2];omega)
    (growslice_fits (by omega) (by rw [hz2];omega))
   simpa using h
  have hG:=grownCap_ge w n 0 33;have hG2:=grownCap_le_maxLen w n 0 33 (by unfold maxLen;omega)
  generalize grownCap w n 0 33=G at *
  have hG3:G≤9223372036854775807:=by unfold maxLen at hG2;omega
  have HG2:=hd9 hG2;clear hold hi hz0 hz1 hz2 hG2;go_enter Tryz.func118,Tryz.ntmps118
  go_wp2_with(at_builtin;refine Lib.wpList_append_run _ rfl _ _ _ _ rfl _ _ rfl rfl _ _ (hr _) ?_)
  go_ret;refine⟨_,rfl,⟨by simp,rfl,.inr ⟨w.heap.size,G,_,rfl,nE _,aN w.drew _,by simp,HG2.out,?_,by simp⟩⟩,eA⟩;simp [Builtin.zeroCells,Value.cells];omega
def PSl (T:TypeId) (w:V) (c:List J) (ps:List (Int×Int)):Prop:=∃v,c=[v]∧IsPts w v ps
def tot (pss:List (List (Int×Int))):Nat:=pss.flatten.length
theorem zbd {pss:List (List (Int×Int))} {i:Nat} {ps:List (Int×Int)} (h:pss[i]?=X ps):tot (pss.take (i+1))=tot (pss.take i)+ps.length:=by
 unfold tot;rw [zab _ _ _ h,List.flatten_append,lA];simp
theorem zaG (pss:List (List (Int×Int))) (i:Nat):tot (pss.take i)≤tot pss:=by
 unfold tot
 conv=>rhs;rw [←List.take_append_drop i pss,List.flatten_append,lA]
 omega
def CcS (w:V) (pss:List (List (Int×Int))) (g:Nat) (t3 t11:J) (W:V):Prop:=
 ∃i:Nat,i≤pss.length∧t11=Y O i∧t3=Y O (tot (pss.take i))∧g=pss.length-i∧Ext w W
def CdS (w:V) (base:Nat) (pss:List (List (Int×Int))) (g:Nat) (t6 t27:J) (W:V):Prop:=
 ∃i:Nat,i≤pss.length∧t27=Y O i∧OwnC 33 2 W base t6 ((pss.take i).flatten.map pc)∧g=pss.length-i∧Ext w W∧base≤W.heap.size
theorem zlM {T:TypeId} {w:V} {v:J} {ps:List (Int×Int)} (h:Sl T 2 PP w v ps):Rd w T 2 v (ps.map pc).length (ps.map pc).flatten:=by
 obtain⟨cs,h1,h2,h3,h4⟩:=h
 have e:cs=ps.map pc:=by
  apply List.ext_getElem?
  intro i;rw [lP]
  by_cases hi:i<ps.length
  ·have hc:cs[i]?=X (cs[i]'(by omega)):=gE _
   have hx:ps[i]?=X (ps[i]):=gE _;have:=h4 i _ _ hc hx;rw [hc,hx];exact congrArg X this
  ·rw [List.getElem?_eq_none (by omega),List.getElem?_eq_none (by omega)];rfl
 subst e;rw [lL];exact h3
theorem ziE (w:V) (v:J) (pss:List (List (Int×Int))) (h:Sl 32 1 (PSl 32) w v pss) (ht:tot pss≤1000000000) :
  Calls Tryz.prog 197 #[v] w (RetC 33 2 w (pss.flatten.map pc)):=by
 obtain⟨a,c,rfl⟩:=h.form;obtain⟨n,hn⟩:=gX pss.length;rw [hn]at h ⊢;have hle:=h.le;unfold maxLen at hle;have hnc:n≤9223372036854775807:=by omega
 have Hn:=hd9 hn;have Ht:=hd9 ht;clear hn hle ht;have hP:∀{W:V},Ext w W→Sl 32 1 (PSl 32) W (Z a n c) pss:=fun hx=>h.ext (fun _ _ ⟨v,h1,h2⟩=>⟨v,h1,h2.ext' hx⟩) hx
 go_enter Tryz.func197,Tryz.ntmps197;go_wp2
 go_loopg [3,11] n (CcS w pss)
 case atStart=>exact⟨0,by omega,rfl,rfl,by rw [Hn.out];rfl,eR _⟩
 case round =>
  obtain⟨i,hi,rfl,rfl,rfl,hx⟩:=hrel;rw [Hn.out]at hi;obtain⟨q,hq⟩:=gX (tot (pss.take i));have hq2:q≤1000000000:=by rw [←hq];exact nT (zaG pss i) Ht.out
  rw [hq]
  by_cases hlt:i<n
  ·obtain⟨ps,hps⟩:∃q,pss[i]?=X q:=⟨pss[i]'(by rw [Hn.out];omega),by simp [Hn.out,hlt]⟩
   obtain⟨b,o,d,rfl,hb,hdl,⟨v,rfl,hv⟩,hc⟩:=(hP hx).at hps;have hc0:=hc 0 v rfl;simp only [Nat.mul_one,Nat.add_zero]at hc0;clear hc hdl;obtain⟨a',c',rfl⟩:=hv.form;have hst:=zbd hps;rw [hq]at hst;obtain⟨m,hm⟩:=gX ps.length;rw [hm]at hst hc0;have hm2:q+m≤1000000000:=by rw [←hst];exact nT (zaG pss (i+1)) Ht.out
   have Hst:=hd9 hst;have hv':=hv;have Hm:=hd9 hm;clear hst hps hq hv hm hv';go_wp2
   go_roundg (n-(i+1))
   case measure=>have:=Hn.out;omega
   case rel=>exact⟨i+1,by have:=Hn.out;omega,by go_num,by rw [Hst.out];go_num,by rw [Hn.out],eA⟩
  ·obtain rfl:i=n:=by omega
   clear hq
   go_wp2_with(((go_at_call 224;(with_reducible refine(zi1 _ q (by omega)).mono ?_);rintro e w1 ⟨v1,rfl,ho1,hx1⟩;obtain⟨a1,c1,rfl⟩:=ho1.form;obtain⟨hc1,hf1⟩:=hx1.cells)))
   have hx1':=hx.trans hx1;obtain⟨W0,rfl⟩:∃W0,W0=wr:=⟨_,rfl⟩
   go_loopg [6,27] i (CdS w W0.heap.size pss)
   case atStart=>exact⟨0,by omega,rfl,by simpa using ho1,by rw [Hn.out];rfl,hx1',hx1.size⟩
   case round =>
    clear hx1 hx1' ho1 hc1 hf1;obtain⟨j,hj,rfl,hown,rfl,hx2,hbs⟩:=hrel;rw [Hn.out]at hj;obtain⟨a2,c2,rfl⟩:=hown.form;obtain⟨L2,hL2⟩:=gX (((pss.take j).flatten.map pc).length);have hL3:L2≤1000000000:=by rw [←hL2,lL];exact nT (zaG pss j) Ht.out
    rw [hL2]at hown ⊢;have hsz:=hx.size
    by_cases hlt2:j<i
    ·obtain⟨ps,hps⟩:∃q,pss[j]?=X q:=⟨pss[j]'(by rw [Hn.out];omega),by simp [Hn.out,hlt2]⟩
     obtain⟨b,o,d,rfl,hb,hdl,⟨v,rfl,hv⟩,hc⟩:=(hP hx2).at hps;have hc0:=hc 0 v rfl;simp only [Nat.mul_one,Nat.add_zero]at hc0;clear hc hdl;obtain⟨a',c',rfl⟩:=hv.form;have hst:=zbd hps
     have hle3:((pss.take j).flatten.map pc).length+(ps.map pc).length≤100000000000:=by
      have:=zaG pss (j+1);have h9:=Ht.out;rw [hst]at this;unfold tot at this h9;rw [lL,lL];omega
     have hfl:(pss.take (j+1)).flatten.map pc=(pss.take j).flatten.map pc++ps.map pc:=by
      rw [zab _ _ _ hps,List.flatten_append,List.map_append];simp
     have hrd:=zlM hv;have Hfl:=hd9 hfl;have HL2:=hd9 hL2;have Hle3:=hd9 hle3;clear hst hps hfl hL2 hle3
     go_wp2_with(at_builtin;refine appS (v:=Z a2 L2 c2) zbD rfl (by decide) (by decide) Tryz.underlying32 rfl _ _ rfl rfl hown rfl (ps.map pc) zfL hrd zfM Hle3.out hbs ?_;intro v' w1 hown3 hgrow hlie;obtain⟨a3,n3,c3,rfl⟩:=hown3.form3)
     go_roundg (i-(j+1))
     case measure=>have:=Hn.out;omega
     case rel =>
      have hbw:=zad hgrow hbs (fun k hk=>(hown.lt k hk).1);exact⟨j+1,by rw [Hn.out];omega,by go_num,by rw [Hfl.out];exact hown3,by rw [Hn.out],hx2.thenB hbw hsz,nT hbs hbw.size⟩
    ·obtain rfl:j=i:=by omega
     have e:(pss.take j).flatten.map pc=pss.flatten.map pc:=by rw [lT (by rw [Hn.out];omega)]
     have E:=hd9 e;clear e hL2;go_wp2;go_ret;exact⟨_,rfl,by rw [←E.out];exact hown.mono hsz,hx2⟩
theorem ziD (w:V) (v:J) (pss:List (List (Int×Int))) (h:Sl 99 1 (PSl 99) w v pss) (ht:tot pss≤1000000000) :
  Calls Tryz.prog 70 #[v] w (RetC 33 2 w (pss.flatten.map pc)):=by
 obtain⟨a,c,rfl⟩:=h.form;obtain⟨n,hn⟩:=gX pss.length;rw [hn]at h ⊢;have hle:=h.le;unfold maxLen at hle;have hnc:n≤9223372036854775807:=by omega
 have Hn:=hd9 hn;have Ht:=hd9 ht;clear hn hle ht;have hP:∀{W:V},Ext w W→Sl 99 1 (PSl 99) W (Z a n c) pss:=fun hx=>h.ext (fun _ _ ⟨v,h1,h2⟩=>⟨v,h1,h2.ext' hx⟩) hx
 go_enter Tryz.func70,Tryz.ntmps70;go_wp2
 go_loopg [3,11] n (CcS w pss)
 case atStart=>exact⟨0,by omega,rfl,rfl,by rw [Hn.out];rfl,eR _⟩
 case round =>
  obtain⟨i,hi,rfl,rfl,rfl,hx⟩:=hrel;rw [Hn.out]at hi;obtain⟨q,hq⟩:=gX (tot (pss.take i));have hq2:q≤1000000000:=by rw [←hq];exact nT (zaG pss i) Ht.out
  rw [hq]
  by_cases hlt:i<n
  ·obtain⟨ps,hps⟩:∃q,pss[i]?=X q:=⟨pss[i]'(by rw [Hn.out];omega),by simp [Hn.out,hlt]⟩
   obtain⟨b,o,d,rfl,hb,hdl,⟨v,rfl,hv⟩,hc⟩:=(hP hx).at hps;have hc0:=hc 0 v rfl;simp only [Nat.mul_one,Nat.add_zero]at hc0;clear hc hdl;obtain⟨a',c',rfl⟩:=hv.form;have hst:=zbd hps;rw [hq]at hst;obtain⟨m,hm⟩:=gX ps.length;rw [hm]at hst hc0;have hm2:q+m≤1000000000:=by rw [←hst];exact nT (zaG pss (i+1)) Ht.out
   have Hst:=hd9 hst;have hv':=hv;have Hm:=hd9 hm;clear hst hps hq hv hm hv';go_wp2
   go_roundg (n-(i+1))
   case measure=>have:=Hn.out;omega
   case rel=>exact⟨i+1,by have:=Hn.out;omega,by go_num,by rw [Hst.out];go_num,by rw [Hn.out],eA⟩
  ·obtain rfl:i=n:=by omega
   clear hq
   go_wp2_with(((go_at_call 118;(with_reducible refine(zi0 _ q (by omega)).mono ?_);rintro e w1 ⟨v1,rfl,ho1,hx1⟩;obtain⟨a1,c1,rfl⟩:=ho1.form;obtain⟨hc1,hf1⟩:=hx1.cells)))
   have hx1':=hx.trans hx1;obtain⟨W0,rfl⟩:∃W0,W0=wr:=⟨_,rfl⟩
   go_loopg [6,27] i (CdS w W0.heap.size pss)
   case atStart=>exact⟨0,by omega,rfl,by simpa using ho1,by rw [Hn.out];rfl,hx1',hx1.size⟩
   case round =>
    clear hx1 hx1' ho1 hc1 hf1;obtain⟨j,hj,rfl,hown,rfl,hx2,hbs⟩:=hrel;rw [Hn.out]at hj;obtain⟨a2,c2,rfl⟩:=hown.form;obtain⟨L2,hL2⟩:=gX (((pss.take j).flatten.map pc).length);have hL3:L2≤1000000000:=by rw [←hL2,lL];exact nT (zaG pss j) Ht.out
    rw [hL2]at hown ⊢;have hsz:=hx.size
    by_cases hlt2:j<i
    ·obtain⟨ps,hps⟩:∃q,pss[j]?=X q:=⟨pss[j]'(by rw [Hn.out];omega),by simp [Hn.out,hlt2]⟩
     obtain⟨b,o,d,rfl,hb,hdl,⟨v,rfl,hv⟩,hc⟩:=(hP hx2).at hps;have hc0:=hc 0 v rfl;simp only [Nat.mul_one,Nat.add_zero]at hc0;clear hc hdl;obtain⟨a',c',rfl⟩:=hv.form;have hst:=zbd hps
     have hle3:((pss.take j).flatten.map pc).length+(ps.map pc).length≤100000000000:=by
      have:=zaG pss (j+1);have h9:=Ht.out;rw [hst]at this;unfold tot at this h9;rw [lL,lL];omega
     have hfl:(pss.take (j+1)).flatten.map pc=(pss.take j).flatten.map pc++ps.map pc:=by
      rw [zab _ _ _ hps,List.flatten_append,List.map_append];simp
     have hrd:=zlM hv;have Hfl:=hd9 hfl;have HL2:=hd9 hL2;have Hle3:=hd9 hle3;clear hst hps hfl hL2 hle3
     go_wp2_with(at_builtin;refine appS (v:=Z a2 L2 c2) zbD rfl (by decide) (by decide) Tryz.underlying99 rfl _ _ rfl rfl hown rfl (ps.map pc) zfL hrd zfM Hle3.out hbs ?_;intro v' w1 hown3 hgrow hlie;obtain⟨a3,n3,c3,rfl⟩:=hown3.form3)
     go_roundg (i-(j+1))
     case measure=>have:=Hn.out;omega
     case rel =>
      have hbw:=zad hgrow hbs (fun k hk=>(hown.lt k hk).1);exact⟨j+1,by rw [Hn.out];omega,by go_num,by rw [Hfl.out];exact hown3,by rw [Hn.out],hx2.thenB hbw hsz,nT hbs hbw.size⟩
    ·obtain rfl:j=i:=by omega
     have e:(pss.take j).flatten.map pc=pss.flatten.map pc:=by rw [lT (by rw [Hn.out];omega)]
     have E:=hd9 e;clear e hL2;go_wp2;go_ret;exact⟨_,rfl,by rw [←E.out];exact hown.mono hsz,hx2⟩
def idxN (ps:List (Int×Int)):Nat:=(idxB (fun p=>minP ps==p) ps).toNat
def settledP (ps:List (Int×Int)):List (Int×Int):=(ps.drop (idxN ps)++ps.take (idxN ps)).map fun p=>(p.1-(leastP ps).1,p.2-(leastP ps).2)
theorem zg9 {ps:List (Int×Int)} (h:ps≠[]):minP ps∈ps:=by
 cases ps with
 | nil=>exact absurd rfl h
 | cons p ps =>
  have:∀(qs:List (Int×Int)) (a:Int×Int),qs.foldl lowP a=a∨qs.foldl lowP a∈qs:=by
   intro qs
   induction qs with
   | nil=>intro a;exact .inl rfl
   | cons q qs ih =>
    intro a;rw [List.foldl_cons]
    rcases ih (lowP a q)with e|e
    ·rw [e];unfold lowP;split
     ·exact .inr (by simp)
     ·exact .inl rfl
    ·exact .inr (mC _ e)
  rcases this ps p with e|e
  ·rw [show minP (p::ps)=ps.foldl lowP p from rfl,e];simp
  ·rw [show minP (p::ps)=ps.foldl lowP p from rfl];exact mC _ e
theorem zi8 {ps:List (Int×Int)} (h:ps≠[]):idxB (fun p=>minP ps==p) ps=(idxN ps:Int)∧idxN ps<ps.length:=by
 obtain⟨i,hi,he⟩:=List.mem_iff_getElem.1 (zg9 h);unfold idxN;unfold idxB
 cases hf:ps.findIdx? (fun p=>minP ps==p)with
 | none =>
  rw [List.findIdx?_eq_none_iff]at hf;have:=hf _ (zg9 h);simp at this
 | some j =>
  rw [List.findIdx?_eq_some_iff_getElem]at hf;obtain⟨hj,_⟩:=hf;exact⟨by simp,by simpa using hj⟩
theorem zfF {k:Int} {ps:List (Int×Int)} (h:PBd k ps) (h0:ps≠[]):Bd k (leastP ps).1∧Bd k (leastP ps).2:=by
 cases ps with
 | nil=>exact absurd rfl h0
 | cons p ps =>
  have:∀(qs:List (Int×Int)) (a:Int×Int),(Bd k a.1∧Bd k a.2)→PBd k qs→Bd k (qs.foldl (fun o q=>(min o.1 q.1,min o.2 q.2)) a).1∧Bd k (qs.foldl (fun o q=>(min o.1 q.1,min o.2 q.2)) a).2:=by
   intro qs
   induction qs with
   | nil=>intro a ha _;exact ha
   | cons q qs ih =>
    intro a ha hq;refine ih _ ?_ (fun z hz=>hq z (mC _ hz));have:=hq q (by simp);unfold Bd at *;dsimp only;omega
  exact this ps p (h p (by simp)) (fun z hz=>h z (mC _ hz))
theorem PBd.rot {k:Int} {ps:List (Int×Int)} (h:PBd k ps) (m:Nat):PBd k (ps.drop m++ps.take m):=fun p hp=>by
 rcases List.mem_append.1 hp with h1|h1
 ·exact h p (List.mem_of_mem_drop h1)
 ·exact h p (List.mem_of_mem_take h1)
theorem sl2 {T:TypeId} {W:V} {v1 v2:J} {ps1 ps2:List (Int×Int)} (h1:IsPts W v1 ps1) (h2:IsPts W v2 ps2):Sl T 1 (PSl T) (W.alloc (.cells #[v1,v2] T)) (Z (X ⟨W.heap.size,0,I⟩) 2 2) [ps1,ps2]:=by
 refine⟨[[v1],[v2]],rfl,by simp,⟨rfl,_,_,rfl,nE _,by unfold maxLen;omega,.inr ⟨W.heap.size,0,_,_,rfl,aN W _,?_⟩⟩,?_⟩
 ·intro i x hx
  match i,hx with
  | 0,hx=>simpa using hx
  | 1,hx=>simpa using hx
  | i+2,hx=>simp at hx
 ·intro i c x hc hx
  match i,hc,hx with
  | 0,hc,hx=>simp at hc hx;subst hc hx;exact⟨_,rfl,h1.ext' ((eR _).alloc _)⟩
  | 1,hc,hx=>simp at hc hx;subst hc hx;exact⟨_,rfl,h2.ext' ((eR _).alloc _)⟩
  | i+2,hc,hx=>simp at hc
def MpS (w:V) (base:Nat) (f:Int×Int→Int×Int) (qs:List (Int×Int)) (v5:J) (g:Nat) (t24:J) (W:V):Prop:=
 ∃i:Nat,i≤qs.length∧t24=Y O i∧g=qs.length-i∧Ext w W∧base≤W.heap.size∧OwnC 33 2 W base v5 (((qs.take i).map f++qs.drop i).map pc)
theorem zlE {f:Int×Int→Int×Int} {qs:List (Int×Int)} {i:Nat} {q:Int×Int} (h:qs[i]?=X q):(((qs.take i).map f++qs.drop i).map pc)[i]?=X (pc q):=by
 have hi:=(lS.1 h).1;rw [lP,List.getElem?_append_right (by simp;omega)];simp only [lL,List.length_take];rw [show i-min i qs.length=0 by omega,List.getElem?_drop,Nat.add_zero,h];rfl
theorem zlF {f:Int×Int→Int×Int} {qs:List (Int×Int)} {i:Nat} {q:Int×Int} (h:qs[i]?=X q) {x z:Int} (hf:f q=(x,z)) (d:List J) (hd:d=[Y O x,Y O z]) :
  (((qs.take i).map f++qs.drop i).map pc).set i d=(((qs.take (i+1)).map f++qs.drop (i+1)).map pc):=by
 have hi:=(lS.1 h).1;subst hd
 have e1:(qs.drop i)=q::qs.drop (i+1):=by
  rw [List.drop_eq_getElem_cons hi];have:=(lS.1 h).2;rw [this]
 have hl:((qs.take i).map f).map pc=((qs.take i).map f).map pc:=rfl;rw [zab _ _ _ h,List.map_append,List.map_append,e1,List.set_append_right _ _ (by simp;omega),List.map_cons];simp only [lL,List.length_take];rw [show i-min i qs.length=0 by omega,List.set_cons_zero];simp [hf,pc]
theorem OwnC.pair {T:TypeId} {w:V} {base g n c:Nat} {cs:List (List J)} {i:Nat} {p:Int×Int} (h:OwnC T 2 w base (Z (X ⟨g,0,I⟩) n c) cs) (hd:cs[i]?=X (pc p)) (u v:J) :
  OwnC T 2 ((w.setCell ⟨g,i*2,I⟩ u).setCell ⟨g,i*2+1,I⟩ v) base (Z (X ⟨g,0,I⟩) n c) (cs.set i [u,v]):=by
 have h1:=OwnC.stored (j:=0) h hd (by decide) u;have hi:=(lS.1 hd).1;have h2:=OwnC.stored (i:=i) (j:=1) (d:=[u,Y O p.2]) h1 (by rw [List.getElem?_set_self (by omega)];rfl) (by decide) v;rw [List.set_set]at h2;exact h2
theorem zdd (w:V) (v:J) (ps:List (Int×Int)) (h:IsPts w v ps) (h0:0<ps.length) (hn9:ps.length≤1000000) (hb:PBd 1000000 ps) :
  Calls Tryz.prog 158 #[v] w (RetC 33 2 w ((settledP ps).map pc)):=by
 obtain⟨a,c,rfl⟩:=h.form;have hne:ps≠[]:=by intro e;subst e;simp at h0
 obtain⟨⟨p0x,p0z⟩,hp0⟩:∃p,ps[0]?=X p:=⟨ps[0],by simp⟩;obtain⟨b,o,rfl,hbl,_,_⟩:=h.at' hp0;have hlb:=zfF hb hne;have hix:=zi8 hne;have hQ:settledP ps=(ps.drop (idxN ps)++ps.take (idxN ps)).map fun p=>(p.1-(leastP ps).1,p.2-(leastP ps).2):=rfl
 have hqb:=hb.rot (idxN ps);rw [hQ];have hle:=h.le;have hcl:=fun W (hW:Ext w W)=>zfG W _ ps (h.ext' hW) h0
 have hcm:=fun W (hW:Ext w W)=>zju W _ ps (h.ext' hW) h0
 obtain⟨⟨lx,lz⟩,hl⟩:∃p,leastP ps=p:=⟨_,rfl⟩;obtain⟨⟨mx,mz⟩,hm⟩:∃p,minP ps=p:=⟨_,rfl⟩;have hci:=fun W (hW:Ext w W)=>zi9 W _ ps mx mz (h.ext' hW)
 rw [←hm,hix.1]at hci;obtain⟨k,hk⟩:=gX (idxN ps);rw [hk]at hci hqb hix ⊢;rw [hl]at hcl hlb ⊢;rw [hm]at hcm;obtain⟨qs,hqs⟩:=gX (ps.drop k++ps.take k);rw [hqs]at hqb ⊢;obtain⟨n,hn⟩:=gX ps.length;have hkn:k<n:=by have:=hix.2;omega
 have hqn:qs.length=n:=by rw [←hqs];simp;omega
 have hs1:IsPts w _ _:=h.drop h0 (m:=k) (by omega);have hs2:IsPts w _ _:=h.take h0 (m:=k) (c':=k) (by omega) (nE _) (by omega);rw [hn]at h hcl hcm hci hle hs1 ⊢;unfold maxLen at hle
 have hcc:=fun W (hW:Ext w W)=>ziE ((W.alloc (.cells #[Z (X ⟨b,o+k*2,I⟩) (n-k) (c-k),Z (X ⟨b,o,I⟩) k k] 32)).drew) (Z (X ⟨W.heap.size,0,I⟩) 2 2) [ps.drop k,ps.take k] (sl2 (T:=32) (hs1.ext' hW) (hs2.ext' hW)) (by
  unfold tot;simp;omega)
 have e2:[ps.drop k,ps.take k].flatten=qs:=by simpa using hqs
 rw [e2]at hcc;obtain⟨RL,hRL⟩:=gX ((qs.map (fun p=>(p.1-lx,p.2-lz))).map pc);rw [hRL];have HRL:=hd9 hRL;clear hRL;have Hcl:=hd9 hcl;have Hcm:=hd9 hcm;have Hci:=hd9 hci;have Hcc:=hd9 hcc;have Hqb:=hd9 hqb;have Hlb:=hd9 hlb;have Hqn:=hd9 hqn;have k1:(0:Int)≤(k:Int):=by omega
 have k2:(k:Int)≤(n:Int):=by omega
 have k3:(n:Int)≤(c:Int):=by omega
 have k4:(k:Int)<(c:Int):=by omega
 have k5:k<c:=by omega
 have hnc:c≤9223372036854775807:=by omega
 clear hcl hcm hci hcc hqb hlb hqn hix hk hl hm hqs hn hs1 hs2 hle h hQ e2 hb hne hp0 h0 hn9;go_enter Tryz.func158,Tryz.ntmps158
 go_wp2_with(first|((go_at_call 169;(with_reducible refine(Hcl.out _ ?_).mono ?_);exact eA;rintro e w1 ⟨rfl,hx1⟩;obtain⟨hc1,hf1⟩:=hx1.cells))|((go_at_call 170;(with_reducible refine(Hcm.out _ ?_).mono ?_);exact eA;rintro e w2 ⟨rfl,hx2⟩;obtain⟨hc2,hf2⟩:=hx2.cells))|((go_at_call 196;(with_reducible refine(Hci.out _ ?_).mono ?_);exact eA;rintro e w3 ⟨rfl,hx3⟩;obtain⟨hc3,hf3⟩:=hx3.cells)))
 have hx3':Ext w w3:=eA;have hcc:=Hcc.out w3 hx3';have HCC:=hd9 hcc;clear hcc;have zo:w1.heap.size<w3.heap.size:=Nat.lt_of_lt_of_le (by have:=hx2.size;simp at this;omega) hx3.size;have o2:w2.cell? ⟨w1.heap.size,0,I⟩=X (Y O lx):=hx2.cellS (by simp);have o3:w2.cell? ⟨w1.heap.size,1,I⟩=X (Y O lz):=hx2.cellS (by simp);have o4:=hx3.cellS o2;have o5:=hx3.cellS o3;have O4:=hd9 o4;have O5:=hd9 o5;clear o2 o3 o4 o5
 first|(go_region_with (((go_at_call 197;(with_reducible refine HCC.out.mono ?_);rintro e w4 ⟨v4,rfl,ho4,hx4⟩;obtain⟨a4,n4,c4,rfl⟩:=ho4.form3))))|fail
 all_goals go_wp2
 have hl4:=ho4.len;rw [lL,Hqn.out]at hl4;obtain rfl:n=n4:=hl4.symm;obtain⟨g4,rfl,hg4,hg5⟩:=ho4.blk (by rw [lL,Hqn.out];omega);have hx5:Ext w3 w4:=((eR w3).alloc _).drew.trans hx4;have hx6:Ext w w4:=(((hx1.alloc _).trans hx2).trans hx3).trans hx5;have p4:=hx5.cellS O4.out;have p5:=hx5.cellS O5.out;simp only [qdZ,wZ]at hg4;obtain⟨bo,hbo⟩:=gX w1.heap.size;have hwb:w.heap.size≤bo:=by rw [←hbo];exact hx1.size
 rw [hbo]at zo p4 p5 ⊢;have ho5:=ho4.mono (b':=w3.heap.size) (by simp);have hs5:=hx5.size;obtain⟨B,hB⟩:=gX w3.heap.size;rw [hB]at zo ho5 hs5 hg4;have hBw:w.heap.size≤B:=by omega
 clear hbo hB ho4 hx1 hx2 hx3 hx3' hx4 hx5 hc1 hf1 hc2 hf2 hc3 hf3
 go_loopg [24] n (fun g t24 W=>MpS w B (fun p=>(p.1-lx,p.2-lz)) qs (Z (X ⟨g4,0,I⟩) n c4) g t24 W∧W.cell? ⟨bo,0,I⟩=X (Y O lx)∧W.cell? ⟨bo,1,I⟩=X (Y O lz))
 case atStart=>exact⟨⟨0,by omega,rfl,by rw [Hqn.out];rfl,hx6,hs5,by simpa using ho5⟩,p4,p5⟩
 case round =>
  clear p4 p5 ho5 hx6 hs5;obtain⟨⟨i,hi,rfl,rfl,hx,hsz,hown⟩,q0,q1⟩:=hrel;rw [Hqn.out]at hi
  by_cases hlt:i<n
  ·obtain⟨⟨qx,qz⟩,hq⟩:∃q,qs[i]?=X q:=⟨qs[i]'(by rw [Hqn.out];omega),by simp [Hqn.out,hlt]⟩
   have hpm:=zlE (f:=fun p=>(p.1-lx,p.2-lz)) hq;have d0:=hown.cell (j:=0) hpm rfl;have d1:=hown.cell (j:=1) hpm rfl;simp only [Nat.add_zero]at d0;dsimp only at d0 d1;have f0:=hown.frozen;have hbq:=Hqb.out (qx,qz) (lM hq);have HBq:=hd9 hbq;have hst:=fun(W:V) (h:OwnC 33 2 W B (Z (X ⟨g4,0,I⟩) n c4) (((qs.take i).map (fun p=>(p.1-lx,p.2-lz))++qs.drop i).map pc))=>h.pair hpm (Y O (qx-lx)) (Y O (qz-lz))
   rw [zlF (f:=fun p=>(p.1-lx,p.2-lz)) hq rfl _ rfl]at hst;have Hst:=hd9 hst;have Hown:=hd9 hown;have zg:=(hown.lt g4 rfl).2;have zb:bo<wr.heap.size:=World.block_lt_of_cell? wr _ q0;have p1:(0:Int)≤(i:Int):=by omega
   have p2:(i:Int)<(n:Int):=by omega
   have hgb:¬g4=bo:=by omega
   clear hst hpm hq hbq hown;go_wp2
   go_region_with (((go_at_call 198;(with_reducible refine(zfd _ qx qz lx lz (HBq.out.1.mono (by decide)) (HBq.out.2.mono (by decide)) (Hlb.out.1.mono (by decide)) (Hlb.out.2.mono (by decide))).mono ?_);rintro e w5 ⟨rfl,hx5⟩;obtain⟨hc5,hf5⟩:=hx5.cells;(try simp only [qcD,qfD,qdZ]at hc5 hf5))))
   all_goals go_wp2
   all_goals
    have hx6:Ext wr w5:=(eR wr).drew.trans hx5;have hs6:=hx6.size;have hown6:=Hst.out w5 (Hown.out.ext hx6);have q0':=hx6.cellS q0;have q1':=hx6.cellS q1
    go_roundg (n-(i+1))
    case measure=>have:=Hqn.out;omega
    case rel=>exact⟨⟨i+1,by have:=Hqn.out;omega,by go_num,by rw [Hqn.out],((hx.trans hx6).set (by dsimp only;omega) _).set (by dsimp only;omega) _,by simp only [qcZ];omega,hown6⟩,by go_simp,by go_simp⟩
  ·obtain rfl:i=n:=by omega
   have e:((qs.take i).map (fun p=>(p.1-lx,p.2-lz))++qs.drop i)=qs.map (fun p=>(p.1-lx,p.2-lz)):=by
    rw [lT (by rw [Hqn.out];exact nE _),List.drop_of_length_le (by rw [Hqn.out];exact nE _),List.append_nil]
   rw [e,HRL.out]at hown;go_wp2;go_ret;exact⟨_,rfl,hown.mono hBw,hx⟩
end
end Go.Proofs.YtodpfeaihohpjaaGreatDoor.Cop
namespace Go.Proofs
section
open Go.Shelf
def Tryz.pdqPoint_ren:Go.Shelf.Ren:=⟨fun|14=>137|20=>172|21=>173|22=>174|23=>175|24=>176|25=>177|26=>178|27=>179|46=>215|47=>192|48=>193|49=>216|50=>217|15=>122|57=>232|28=>154|29=>155|n=>n,fun|24=>33|22=>32|3=>3|25=>166|4=>4|0=>0|46=>214|45=>213|50=>218|66=>249|39=>191|55=>172|70=>252|76=>284|77=>285|53=>221|5=>5|9=>9|n=>n,fun|n=>n⟩
theorem Tryz.pdqPoint:Go.Proofs.SlLaysF0.n14 Tryz.prog Tryz.pdqPoint_ren:={
 mixed:=by kernel_rfl
 f14:=⟨Tryz.f137.name,by decide,Tryz.func137.trans (congrArg some (by kernel_rfl))⟩
 f15:=Tryz.func122.trans (congrArg some (by kernel_rfl))
 f20:=⟨Tryz.f172.name,by decide,Tryz.func172.trans (congrArg some (by kernel_rfl))⟩
 f21:=⟨Tryz.f173.name,by decide,Tryz.func173.trans (congrArg some (by kernel_rfl))⟩
 f22:=⟨Tryz.f174.name,by decide,Tryz.func174.trans (congrArg some (by kernel_rfl))⟩
 f23:=⟨Tryz.f175.name,by decide,Tryz.func175.trans (congrArg some (by kernel_rfl))⟩
 f24:=⟨Tryz.f176.name,by decide,Tryz.func176.trans (congrArg some (by kernel_rfl))⟩
 f25:=⟨Tryz.f177.name,by decide,Tryz.func177.trans (congrArg some (by kernel_rfl))⟩
 f26:=⟨Tryz.f178.name,by decide,Tryz.func178.trans (congrArg some (by kernel_rfl))⟩
 f27:=⟨Tryz.f179.name,by decide,Tryz.func179.trans (congrArg some (by kernel_rfl))⟩
 f28:=Tryz.func154.trans (congrArg some (by kernel_rfl))
 f29:=Tryz.func155.trans (congrArg some (by kernel_rfl))
 f46:=⟨Tryz.f215.name,by decide,Tryz.func215.trans (congrArg some (by kernel_rfl))⟩
 f47:=Tryz.func192.trans (congrArg some (by kernel_rfl))
 f48:=Tryz.func193.trans (congrArg some (by kernel_rfl))
 f49:=⟨Tryz.f216.name,by decide,Tryz.func216.trans (congrArg some (by kernel_rfl))⟩
 f50:=⟨Tryz.f217.name,by decide,Tryz.func217.trans (congrArg some (by kernel_rfl))⟩
 f57:=⟨Tryz.f232.name,by decide,Tryz.func232.trans (congrArg some (by kernel_rfl))⟩
 t0:=Tryz.underlying0
 a0:=Tryz.isAgg0
 z0:=Tryz.sizeOf0
 v0:=Tryz.zeroValue0
 t3:=Tryz.underlying3
 a3:=Tryz.isAgg3
 z3:=Tryz.sizeOf3
 v3:=Tryz.zeroValue3
 t4:=Tryz.underlying4
 a4:=Tryz.isAgg4
 z4:=Tryz.sizeOf4
 v4:=Tryz.zeroValue4
 t5:=Tryz.underlying5
 a5:=Tryz.isAgg5
 z5:=Tryz.sizeOf5
 v5:=Tryz.zeroValue5
 t9:=Tryz.underlying9
 a9:=Tryz.isAgg9
 z9:=Tryz.sizeOf9
 v9:=Tryz.zeroValue9
 t22:=Tryz.underlying32
 a22:=Tryz.isAgg32
 z22:=Tryz.sizeOf32
 v22:=Tryz.zeroValue32
 t25:=Tryz.underlying166
 a25:=Tryz.isAgg166
 z25:=Tryz.sizeOf166
 v25:=Tryz.zeroValue166
 t39:=Tryz.underlying191
 a39:=Tryz.isAgg191
 z39:=Tryz.sizeOf191
 v39:=Tryz.zeroValue191
 t45:=Tryz.underlying213
 a45:=Tryz.isAgg213
 z45:=Tryz.sizeOf213
 v45:=Tryz.zeroValue213
 t46:=Tryz.underlying214
 a46:=Tryz.isAgg214
 z46:=Tryz.sizeOf214
 v46:=Tryz.zeroValue214
 t50:=Tryz.underlying218
 a50:=Tryz.isAgg218
 z50:=Tryz.sizeOf218
 v50:=Tryz.zeroValue218
 t53:=Tryz.underlying221
 a53:=Tryz.isAgg221
 z53:=Tryz.sizeOf221
 v53:=Tryz.zeroValue221
 t55:=Tryz.underlying172
 a55:=Tryz.isAgg172
 z55:=Tryz.sizeOf172
 v55:=Tryz.zeroValue172
 t66:=Tryz.underlying249
 a66:=Tryz.isAgg249
 z66:=Tryz.sizeOf249
 v66:=Tryz.zeroValue249
 t70:=Tryz.underlying252
 a70:=Tryz.isAgg252
 z70:=Tryz.sizeOf252
 v70:=Tryz.zeroValue252
 t76:=Tryz.underlying284
 a76:=Tryz.isAgg284
 z76:=Tryz.sizeOf284
 v76:=Tryz.zeroValue284
 t77:=Tryz.underlying285
 a77:=Tryz.isAgg285
 z77:=Tryz.sizeOf285
 v77:=Tryz.zeroValue285 }
def Tryz.sortRat_ren:Go.Shelf.Ren:=⟨fun|6=>74|15=>122|14=>121|28=>154|29=>155|20=>146|21=>147|22=>148|23=>149|24=>150|25=>151|26=>152|27=>153|46=>191|47=>192|48=>193|49=>194|50=>195|57=>223|n=>n,fun|22=>139|24=>65|25=>147|3=>3|39=>191|0=>0|53=>221|55=>172|4=>4|46=>214|45=>213|50=>218|5=>5|9=>9|66=>249|70=>252|76=>284|77=>285|n=>n,fun|n=>n⟩
theorem Tryz.sortRat:Go.Proofs.SlLaysF0.n6 Tryz.prog Tryz.sortRat_ren:={
 mixed:=by kernel_rfl
 f6:=⟨Tryz.f74.name,by decide,Tryz.func74.trans (congrArg some (by kernel_rfl))⟩
 f14:=⟨Tryz.f121.name,by decide,Tryz.func121.trans (congrArg some (by kernel_rfl))⟩
 f15:=Tryz.func122.trans (congrArg some (by kernel_rfl))
 f20:=⟨Tryz.f146.name,by decide,Tryz.func146.trans (congrArg some (by kernel_rfl))⟩
 f21:=⟨Tryz.f147.name,by decide,Tryz.func147.trans (congrArg some (by kernel_rfl))⟩
 f22:=⟨Tryz.f148.name,by decide,Tryz.func148.trans (congrArg some (by kernel_rfl))⟩
 f23:=⟨Tryz.f149.name,by decide,Tryz.func149.trans (congrArg some (by kernel_rfl))⟩
 f24:=⟨Tryz.f150.name,by decide,Tryz.func150.trans (congrArg some (by kernel_rfl))⟩
 f25:=⟨Tryz.f151.name,by decide,Tryz.func151.trans (congrArg some (by kernel_rfl))⟩
 f26:=⟨Tryz.f152.name,by decide,Tryz.func152.trans (congrArg some (by kernel_rfl))⟩
 f27:=⟨Tryz.f153.name,by decide,Tryz.func153.trans (congrArg some (by kernel_rfl))⟩
 f28:=Tryz.func154.trans (congrArg some (by kernel_rfl))
 f29:=Tryz.func155.trans (congrArg some (by kernel_rfl))
 f46:=⟨Tryz.f191.name,by decide,Tryz.func191.trans (congrArg some (by kernel_rfl))⟩
 f47:=Tryz.func192.trans (congrArg some (by kernel_rfl))
 f48:=Tryz.func193.trans (congrArg some (by kernel_rfl))
 f49:=⟨Tryz.f194.name,by decide,Tryz.func194.trans (congrArg some (by kernel_rfl))⟩
 f50:=⟨Tryz.f195.name,by decide,Tryz.func195.trans (congrArg some (by kernel_rfl))⟩
 f57:=⟨Tryz.f223.name,by decide,Tryz.func223.trans (congrArg some (by kernel_rfl))⟩
 t0:=Tryz.underlying0
 a0:=Tryz.isAgg0
 z0:=Tryz.sizeOf0
 v0:=Tryz.zeroValue0
 t3:=Tryz.underlying3
 a3:=Tryz.isAgg3
 z3:=Tryz.sizeOf3
 v3:=Tryz.zeroValue3
 t4:=Tryz.underlying4
 a4:=Tryz.isAgg4
 z4:=Tryz.sizeOf4
 v4:=Tryz.zeroValue4
 t5:=Tryz.underlying5
 a5:=Tryz.isAgg5
 z5:=Tryz.sizeOf5
 v5:=Tryz.zeroValue5
 t9:=Tryz.underlying9
 a9:=Tryz.isAgg9
 z9:=Tryz.sizeOf9
 v9:=Tryz.zeroValue9
 t22:=Tryz.underlying139
 a22:=Tryz.isAgg139
 z22:=Tryz.sizeOf139
 v22:=Tryz.zeroValue139
 t25:=Tryz.underlying147
 a25:=Tryz.isAgg147
 z25:=Tryz.sizeOf147
 v25:=Tryz.zeroValue147
 t39:=Tryz.underlying191
 a39:=Tryz.isAgg191
 z39:=Tryz.sizeOf191
 v39:=Tryz.zeroValue191
 t45:=Tryz.underlying213
 a45:=Tryz.isAgg213
 z45:=Tryz.sizeOf213
 v45:=Tryz.zeroValue213
 t46:=Tryz.underlying214
 a46:=Tryz.isAgg214
 z46:=Tryz.sizeOf214
 v46:=Tryz.zeroValue214
 t50:=Tryz.underlying218
 a50:=Tryz.isAgg218
 z50:=Tryz.sizeOf218
 v50:=Tryz.zeroValue218
 t53:=Tryz.underlying221
 a53:=Tryz.isAgg221
 z53:=Tryz.sizeOf221
 v53:=Tryz.zeroValue221
 t55:=Tryz.underlying172
 a55:=Tryz.isAgg172
 z55:=Tryz.sizeOf172
 v55:=Tryz.zeroValue172
 t66:=Tryz.underlying249
 a66:=Tryz.isAgg249
 z66:=Tryz.sizeOf249
 v66:=Tryz.zeroValue249
 t70:=Tryz.underlying252
 a70:=Tryz.isAgg252
 z70:=Tryz.sizeOf252
 v70:=Tryz.zeroValue252
 t76:=Tryz.underlying284
 a76:=Tryz.isAgg284
 z76:=Tryz.sizeOf284
 v76:=Tryz.zeroValue284
 t77:=Tryz.underlying285
 a77:=Tryz.isAgg285
 z77:=Tryz.sizeOf285
 v77:=Tryz.zeroValue285 }
def Tryz.lays169_ren:Go.Shelf.Ren:=⟨fun|169=>209|n=>n,fun|70=>266|9=>9|0=>0|72=>268|37=>42|127=>293|3=>3|5=>5|n=>n,fun|n=>n⟩
theorem Tryz.lays169:Go.Proofs.Lays.n169 Tryz.prog Tryz.lays169_ren:={
 mixed:=by kernel_rfl
 f169:=Tryz.func209.trans (congrArg some (by kernel_rfl))
 t0:=Tryz.underlying0
 a0:=Tryz.isAgg0
 z0:=Tryz.sizeOf0
 v0:=Tryz.zeroValue0
 t3:=Tryz.underlying3
 a3:=Tryz.isAgg3
 z3:=Tryz.sizeOf3
 v3:=Tryz.zeroValue3
 t9:=Tryz.underlying9
 a9:=Tryz.isAgg9
 z9:=Tryz.sizeOf9
 v9:=Tryz.zeroValue9
 t37:=Tryz.underlying42
 a37:=Tryz.isAgg42
 z37:=Tryz.sizeOf42
 v37:=Tryz.zeroValue42
 t70:=Tryz.underlying266
 a70:=Tryz.isAgg266
 z70:=Tryz.sizeOf266
 v70:=Tryz.zeroValue266
 t72:=Tryz.underlying268
 a72:=Tryz.isAgg268
 z72:=Tryz.sizeOf268
 v72:=Tryz.zeroValue268
 t127:=Tryz.underlying293
 a127:=Tryz.isAgg293
 z127:=Tryz.sizeOf293
 v127:=Tryz.zeroValue293 }
theorem Tryz.Builder_Extra_169:Builder.Extra Tryz.prog Tryz.lays169_ren:={
 sizeBuilder:=by kernel_rfl
 liesBuilder:=by kernel_rfl
 t5:=Tryz.underlying5
 a5:=Tryz.isAgg5
 z5:=Tryz.sizeOf5
 v5:=Tryz.zeroValue5
 infoByte:=by kernel_rfl
 cellsByte:=by kernel_rfl
 sizeByte:=by kernel_rfl
 neB5:=by decide }
open Go.RowKit in
theorem Tryz.Builder_String (B b:Nat) (l:List UInt8) (w:World) (h:Lib.IsBuilder 268 5 B b (Lib.byteCells l) w) (h0:l≠[]) :
  Calls Tryz.prog 209 #[.pointer (some ⟨b,0,none⟩)] w fun e w'=>e = .returned (.string ⟨l.toArray⟩)∧Below B w w':=Any.Builder_String Tryz.lays169 Tryz.Builder_Extra_169 B b l w h h0
open Go.RowKit in
theorem Tryz.Builder_String_empty (B b:Nat) (w:World) (h:Lib.IsBuilder 268 5 B b [] w) (hBw:B≤w.heap.size) :
  Calls Tryz.prog 209 #[.pointer (some ⟨b,0,none⟩)] w fun e w'=>e = .returned (.string ⟨#[]⟩)∧Below B w w':=Any.Builder_String_empty Tryz.lays169 Tryz.Builder_Extra_169 B b w h hBw
open Go.RowKit in
theorem Tryz.Builder_String_any (B b:Nat) (l:List UInt8) (w:World) (h:Lib.IsBuilder 268 5 B b (Lib.byteCells l) w) (hBw:B≤w.heap.size) :
  Calls Tryz.prog 209 #[.pointer (some ⟨b,0,none⟩)] w fun e w'=>e = .returned (.string ⟨l.toArray⟩)∧Below B w w':=Any.Builder_String_any Tryz.lays169 Tryz.Builder_Extra_169 B b l w h hBw
def Tryz.lays241_ren:Go.Shelf.Ren:=⟨fun|241=>229|277=>238|n=>n,fun|70=>266|3=>3|0=>0|72=>268|37=>42|5=>5|n=>n,fun|n=>n⟩
theorem Tryz.lays241:Go.Proofs.Lays.n241 Tryz.prog Tryz.lays241_ren:={
 mixed:=by kernel_rfl
 f241:=Tryz.func229.trans (congrArg some (by kernel_rfl))
 f277:=Tryz.func238.trans (congrArg some (by kernel_rfl))
 t0:=Tryz.underlying0
 a0:=Tryz.isAgg0
 z0:=Tryz.sizeOf0
 v0:=Tryz.zeroValue0
 t3:=Tryz.underlying3
 a3:=Tryz.isAgg3
 z3:=Tryz.sizeOf3
 v3:=Tryz.zeroValue3
 t37:=Tryz.underlying42
 a37:=Tryz.isAgg42
 z37:=Tryz.sizeOf42
 v37:=Tryz.zeroValue42
 t70:=Tryz.underlying266
 a70:=Tryz.isAgg266
 z70:=Tryz.sizeOf266
 v70:=Tryz.zeroValue266
 t72:=Tryz.underlying268
 a72:=Tryz.isAgg268
 z72:=Tryz.sizeOf268
 v72:=Tryz.zeroValue268 }
theorem Tryz.Builder_Extra_241:Builder.Extra Tryz.prog Tryz.lays241_ren:={
 sizeBuilder:=by kernel_rfl
 liesBuilder:=by kernel_rfl
 t5:=Tryz.underlying5
 a5:=Tryz.isAgg5
 z5:=Tryz.sizeOf5
 v5:=Tryz.zeroValue5
 infoByte:=by kernel_rfl
 cellsByte:=by kernel_rfl
 sizeByte:=by kernel_rfl
 neB5:=by decide }
open Go.RowKit in
theorem Tryz.Builder_grow_fresh (B b n:Nat) (w:World) (hB:B≤b) (hbk:w.heap[b]?=some (.cells #[.pointer (some ⟨b,0,none⟩),.slice none 0 0] 268 (0,0))) (hBw:B≤w.heap.size) (hn:n≤281474976710656) :
  Calls Tryz.prog 229 #[.pointer (some ⟨b,0,none⟩),.int .i64 n] w fun e w'=>e = .returned (.tuple #[])∧(Lib.BuilderAt 268 5 B b (.pointer (some ⟨b,0,none⟩)) [] w'∧Below B w w'):=Any.Builder_grow_fresh Tryz.lays241 Tryz.Builder_Extra_241 B b n w hB hbk hBw hn
def Tryz.lays165_ren:Go.Shelf.Ren:=⟨fun|165=>207|240=>228|241=>229|276=>237|277=>238|n=>n,fun|70=>266|3=>3|0=>0|4=>4|9=>9|20=>20|72=>268|37=>42|164=>298|5=>5|n=>n,fun|n=>n⟩
theorem Tryz.lays165:Go.Proofs.Lays.n165 Tryz.prog Tryz.lays165_ren:={
 mixed:=by kernel_rfl
 f165:=Tryz.func207.trans (congrArg some (by kernel_rfl))
 f240:=Tryz.func228.trans (congrArg some (by kernel_rfl))
 f241:=Tryz.func229.trans (congrArg some (by kernel_rfl))
 f276:=Tryz.func237.trans (congrArg some (by kernel_rfl))
 f277:=Tryz.func238.trans (congrArg some (by kernel_rfl))
 t0:=Tryz.underlying0
 a0:=Tryz.isAgg0
 z0:=Tryz.sizeOf0
 v0:=Tryz.zeroValue0
 t3:=Tryz.underlying3
 a3:=Tryz.isAgg3
 z3:=Tryz.sizeOf3
 v3:=Tryz.zeroValue3
 t4:=Tryz.underlying4
 a4:=Tryz.isAgg4
 z4:=Tryz.sizeOf4
 v4:=Tryz.zeroValue4
 t9:=Tryz.underlying9
 a9:=Tryz.isAgg9
 z9:=Tryz.sizeOf9
 v9:=Tryz.zeroValue9
 t20:=Tryz.underlying20
 a20:=Tryz.isAgg20
 z20:=Tryz.sizeOf20
 v20:=Tryz.zeroValue20
 t37:=Tryz.underlying42
 a37:=Tryz.isAgg42
 z37:=Tryz.sizeOf42
 v37:=Tryz.zeroValue42
 t70:=Tryz.underlying266
 a70:=Tryz.isAgg266
 z70:=Tryz.sizeOf266
 v70:=Tryz.zeroValue266
 t72:=Tryz.underlying268
 a72:=Tryz.isAgg268
 z72:=Tryz.sizeOf268
 v72:=Tryz.zeroValue268
 t164:=Tryz.underlying298
 a164:=Tryz.isAgg298
 z164:=Tryz.sizeOf298
 v164:=Tryz.zeroValue298 }
theorem Tryz.Builder_Extra_165:Builder.Extra Tryz.prog Tryz.lays165_ren:={
 sizeBuilder:=by kernel_rfl
 liesBuilder:=by kernel_rfl
 t5:=Tryz.underlying5
 a5:=Tryz.isAgg5
 z5:=Tryz.sizeOf5
 v5:=Tryz.zeroValue5
 infoByte:=by kernel_rfl
 cellsByte:=by kernel_rfl
 sizeByte:=by kernel_rfl
 neB5:=by decide }
open Go.RowKit in
theorem Tryz.Builder_Grow_fresh (B b n:Nat) (w:World) (hB:B≤b) (hbk:w.heap[b]?=some (.cells #[.pointer none,.slice none 0 0] 268 (0,0))) (hBw:B≤w.heap.size) (hn:n≤281474976710656) :
  Calls Tryz.prog 207 #[.pointer (some ⟨b,0,none⟩),.int .i64 n] w fun e w'=>e = .returned (.tuple #[])∧(Lib.BuilderAt 268 5 B b (.pointer (some ⟨b,0,none⟩)) [] w'∧Below B w w'):=Any.Builder_Grow_fresh Tryz.lays165 Tryz.Builder_Extra_165 B b n w hB hbk hBw hn
def Tryz.lays156_ren:Go.Shelf.Ren:=⟨fun|156=>163|165=>207|166=>208|169=>209|240=>228|241=>229|276=>237|277=>238|n=>n,fun|31=>228|9=>9|3=>3|4=>4|0=>0|20=>20|72=>268|76=>272|70=>266|37=>42|75=>271|127=>293|164=>298|5=>5|80=>94|n=>n,fun|n=>n⟩
theorem Tryz.lays156:Go.Proofs.Lays.n156 Tryz.prog Tryz.lays156_ren:={
 mixed:=by kernel_rfl
 f156:=Tryz.func163.trans (congrArg some (by kernel_rfl))
 f165:=Tryz.func207.trans (congrArg some (by kernel_rfl))
 f166:=Tryz.func208.trans (congrArg some (by kernel_rfl))
 f169:=Tryz.func209.trans (congrArg some (by kernel_rfl))
 f240:=Tryz.func228.trans (congrArg some (by kernel_rfl))
 f241:=Tryz.func229.trans (congrArg some (by kernel_rfl))
 f276:=Tryz.func237.trans (congrArg some (by kernel_rfl))
 f277:=Tryz.func238.trans (congrArg some (by kernel_rfl))
 t0:=Tryz.underlying0
 a0:=Tryz.isAgg0
 z0:=Tryz.sizeOf0
 v0:=Tryz.zeroValue0
 t3:=Tryz.underlying3
 a3:=Tryz.isAgg3
 z3:=Tryz.sizeOf3
 v3:=Tryz.zeroValue3
 t4:=Tryz.underlying4
 a4:=Tryz.isAgg4
 z4:=Tryz.sizeOf4
 v4:=Tryz.zeroValue4
 t9:=Tryz.underlying9
 a9:=Tryz.isAgg9
 z9:=Tryz.sizeOf9
 v9:=Tryz.zeroValue9
 t20:=Tryz.underlying20
 a20:=Tryz.isAgg20
 z20:=Tryz.sizeOf20
 v20:=Tryz.zeroValue20
 t31:=Tryz.underlying228
 a31:=Tryz.isAgg228
 z31:=Tryz.sizeOf228
 v31:=Tryz.zeroValue228
 t37:=Tryz.underlying42
 a37:=Tryz.isAgg42
 z37:=Tryz.sizeOf42
 v37:=Tryz.zeroValue42
 t70:=Tryz.underlying266
 a70:=Tryz.isAgg266
 z70:=Tryz.sizeOf266
 v70:=Tryz.zeroValue266
 t72:=Tryz.underlying268
 a72:=Tryz.isAgg268
 z72:=Tryz.sizeOf268
 v72:=Tryz.zeroValue268
 t75:=Tryz.underlying271
 a75:=Tryz.isAgg271
 z75:=Tryz.sizeOf271
 v75:=Tryz.zeroValue271
 t76:=Tryz.underlying272
 a76:=Tryz.isAgg272
 z76:=Tryz.sizeOf272
 v76:=Tryz.zeroValue272
 t127:=Tryz.underlying293
 a127:=Tryz.isAgg293
 z127:=Tryz.sizeOf293
 v127:=Tryz.zeroValue293
 t164:=Tryz.underlying298
 a164:=Tryz.isAgg298
 z164:=Tryz.sizeOf298
 v164:=Tryz.zeroValue298 }
theorem Tryz.Builder_Extra_156:Builder.Extra Tryz.prog Tryz.lays156_ren:={
 sizeBuilder:=by kernel_rfl
 liesBuilder:=by kernel_rfl
 t5:=Tryz.underlying5
 a5:=Tryz.isAgg5
 z5:=Tryz.sizeOf5
 v5:=Tryz.zeroValue5
 infoByte:=by kernel_rfl
 cellsByte:=by kernel_rfl
 sizeByte:=by kernel_rfl
 neB5:=by decide }
open Go.RowKit in
theorem Tryz.strings_Join_none (a:Option Addr) (c:Nat) (sep:ByteArray) (w:World) :
  Calls Tryz.prog 163 #[.slice a 0 c,.string sep] w fun e w'=>e = .returned (.string ⟨#[]⟩)∧w'=w:=Any.strings_Join_none Tryz.lays156 Tryz.Builder_Extra_156 a c sep w
open Go.RowKit in
theorem Tryz.strings_Join (bk o c:Nat) (xs:List ByteArray) (sep:ByteArray) (w:World) (hcells:∀(j:Nat) x,xs[j]?=some x→w.cell? ⟨bk,o+j,none⟩=some (.string x)) (hbk:bk<w.heap.size) (hN:xs.length≤140737488355328) (hcap:xs.length≤c) (hlen:(Lib.join (xs.map (·.data.toList)) sep.data.toList).length≤140737488355328) :
  Calls Tryz.prog 163 #[.slice (some ⟨bk,o,none⟩) xs.length c,.string sep] w fun e w'=>e = .returned (.string ⟨(Lib.join (xs.map (·.data.toList)) sep.data.toList).toArray⟩)∧Below w.heap.size w w':=Any.strings_Join Tryz.lays156 Tryz.Builder_Extra_156 bk o c xs sep w hcells hbk hN hcap hlen
def Tryz.lays231_ren:Go.Shelf.Ren:=⟨fun|231=>203|n=>n,fun|9=>9|5=>5|3=>3|4=>4|n=>n,fun|n=>n⟩
theorem Tryz.lays231:Go.Proofs.Lays.n231 Tryz.prog Tryz.lays231_ren:={
 mixed:=by kernel_rfl
 f231:=Tryz.func203.trans (congrArg some (by kernel_rfl))
 t3:=Tryz.underlying3
 a3:=Tryz.isAgg3
 z3:=Tryz.sizeOf3
 v3:=Tryz.zeroValue3
 t4:=Tryz.underlying4
 a4:=Tryz.isAgg4
 z4:=Tryz.sizeOf4
 v4:=Tryz.zeroValue4
 t5:=Tryz.underlying5
 a5:=Tryz.isAgg5
 z5:=Tryz.sizeOf5
 v5:=Tryz.zeroValue5
 t9:=Tryz.underlying9
 a9:=Tryz.isAgg9
 z9:=Tryz.sizeOf9
 v9:=Tryz.zeroValue9 }
open Go.RowKit in
theorem Tryz.strings_trimLeftByte (s:ByteArray) (c:UInt8) (w:World) :
  Calls Tryz.prog 203 #[.string s,.int .u8 c.toNat] w fun e w'=>e = .returned (.string ⟨(Lib.trimLeftB s.data.toList c).toArray⟩)∧w'=w:=Any.strings_trimLeftByte Tryz.lays231 s c w
def Tryz.lays161_ren:Go.Shelf.Ren:=⟨fun|161=>162|231=>203|227=>204|233=>205|235=>206|228=>225|197=>226|151=>227|260=>235|152=>236|137=>239|119=>240|224=>241|225=>242|217=>243|266=>244|n=>n,fun|9=>9|4=>4|3=>3|5=>5|117=>262|116=>261|0=>0|124=>265|105=>290|21=>21|119=>301|46=>191|139=>304|138=>303|n=>n,fun|3=>1|4=>2|n=>n⟩
theorem Tryz.lays161:Go.Proofs.Lays.n161 Tryz.prog Tryz.lays161_ren:={
 mixed:=by kernel_rfl
 f119:=Tryz.func240.trans (congrArg some (by kernel_rfl))
 f137:=Tryz.func239.trans (congrArg some (by kernel_rfl))
 f151:=Tryz.func227.trans (congrArg some (by kernel_rfl))
 f152:=Tryz.func236.trans (congrArg some (by kernel_rfl))
 f161:=Tryz.func162.trans (congrArg some (by kernel_rfl))
 f197:=Tryz.func226.trans (congrArg some (by kernel_rfl))
 f217:=Tryz.func243.trans (congrArg some (by kernel_rfl))
 f224:=Tryz.func241.trans (congrArg some (by kernel_rfl))
 f225:=Tryz.func242.trans (congrArg some (by kernel_rfl))
 f227:=Tryz.func204.trans (congrArg some (by kernel_rfl))
 f228:=Tryz.func225.trans (congrArg some (by kernel_rfl))
 f231:=Tryz.func203.trans (congrArg some (by kernel_rfl))
 f233:=Tryz.func205.trans (congrArg some (by kernel_rfl))
 f235:=Tryz.func206.trans (congrArg some (by kernel_rfl))
 f260:=Tryz.func235.trans (congrArg some (by kernel_rfl))
 f266:=Tryz.func244.trans (congrArg some (by kernel_rfl))
 t0:=Tryz.underlying0
 a0:=Tryz.isAgg0
 z0:=Tryz.sizeOf0
 v0:=Tryz.zeroValue0
 t3:=Tryz.underlying3
 a3:=Tryz.isAgg3
 z3:=Tryz.sizeOf3
 v3:=Tryz.zeroValue3
 t4:=Tryz.underlying4
 a4:=Tryz.isAgg4
 z4:=Tryz.sizeOf4
 v4:=Tryz.zeroValue4
 t5:=Tryz.underlying5
 a5:=Tryz.isAgg5
 z5:=Tryz.sizeOf5
 v5:=Tryz.zeroValue5
 t9:=Tryz.underlying9
 a9:=Tryz.isAgg9
 z9:=Tryz.sizeOf9
 v9:=Tryz.zeroValue9
 t21:=Tryz.underlying21
 a21:=Tryz.isAgg21
 z21:=Tryz.sizeOf21
 v21:=Tryz.zeroValue21
 t46:=Tryz.underlying191
 a46:=Tryz.isAgg191
 z46:=Tryz.sizeOf191
 v46:=Tryz.zeroValue191
 t105:=Tryz.underlying290
 a105:=Tryz.isAgg290
 z105:=Tryz.sizeOf290
 v105:=Tryz.zeroValue290
 t116:=Tryz.underlying261
 a116:=Tryz.isAgg261
 z116:=Tryz.sizeOf261
 t117:=Tryz.underlying262
 a117:=Tryz.isAgg262
 z117:=Tryz.sizeOf262
 v117:=Tryz.zeroValue262
 t119:=Tryz.underlying301
 a119:=Tryz.isAgg301
 z119:=Tryz.sizeOf301
 t124:=Tryz.underlying265
 a124:=Tryz.isAgg265
 z124:=Tryz.sizeOf265
 v124:=Tryz.zeroValue265
 t138:=Tryz.underlying303
 a138:=Tryz.isAgg303
 z138:=Tryz.sizeOf303
 v138:=Tryz.zeroValue303
 t139:=Tryz.underlying304
 a139:=Tryz.isAgg304
 z139:=Tryz.sizeOf304
 v139:=Tryz.zeroValue304
 g3:=by kernel_rfl
 g4:=by kernel_rfl }
open Go.RowKit in
theorem Tryz.strings_TrimLeft_one (s:ByteArray) (c:UInt8) (hc:c.toNat<128) (w:World) :
  Calls Tryz.prog 162 #[.string s,.string ⟨#[c]⟩] w fun e w'=>e = .returned (.string ⟨(Lib.trimLeftB s.data.toList c).toArray⟩)∧w'=w:=Any.strings_TrimLeft_one Tryz.lays161 s c hc w
def Tryz.lays119_ren:Go.Shelf.Ren:=⟨fun|119=>240|n=>n,fun|21=>21|4=>4|n=>n,fun|n=>n⟩
theorem Tryz.lays119:Go.Proofs.Lays.n119 Tryz.prog Tryz.lays119_ren:={
 mixed:=by kernel_rfl
 f119:=Tryz.func240.trans (congrArg some (by kernel_rfl))
 t4:=Tryz.underlying4
 a4:=Tryz.isAgg4
 z4:=Tryz.sizeOf4
 v4:=Tryz.zeroValue4
 t21:=Tryz.underlying21
 a21:=Tryz.isAgg21
 z21:=Tryz.sizeOf21
 v21:=Tryz.zeroValue21 }
theorem Tryz.utf8_ValidRune (r:Int) (w:World) :
  Calls Tryz.prog 240 #[.int .i32 r] w fun e w'=>e = .returned (.bool (Lib.validRune r))∧w'=w:=Any.utf8_ValidRune Tryz.lays119 r w
def Tryz.lays128_ren:Go.Shelf.Ren:=⟨fun|128=>154|n=>n,fun|51=>221|3=>3|4=>4|46=>191|5=>5|9=>9|n=>n,fun|n=>n⟩
theorem Tryz.lays128:Go.Proofs.Lays.n128 Tryz.prog Tryz.lays128_ren:={
 mixed:=by kernel_rfl
 f128:=Tryz.func154.trans (congrArg some (by kernel_rfl))
 t3:=Tryz.underlying3
 a3:=Tryz.isAgg3
 z3:=Tryz.sizeOf3
 v3:=Tryz.zeroValue3
 t4:=Tryz.underlying4
 a4:=Tryz.isAgg4
 z4:=Tryz.sizeOf4
 v4:=Tryz.zeroValue4
 t5:=Tryz.underlying5
 a5:=Tryz.isAgg5
 z5:=Tryz.sizeOf5
 v5:=Tryz.zeroValue5
 t9:=Tryz.underlying9
 a9:=Tryz.isAgg9
 z9:=Tryz.sizeOf9
 v9:=Tryz.zeroValue9
 t46:=Tryz.underlying191
 a46:=Tryz.isAgg191
 z46:=Tryz.sizeOf191
 v46:=Tryz.zeroValue191
 t51:=Tryz.underlying221
 a51:=Tryz.isAgg221
 z51:=Tryz.sizeOf221
 v51:=Tryz.zeroValue221 }
theorem Tryz.bits_Len32 (x:Int) (w:World) (h0:0≤x) (h1:x≤4294967295) :
  Calls Tryz.prog 154 #[.int .u32 x] w fun e w'=>e = .returned (.int .i64 (Lib.bitLen x.toNat))∧w'=w:=Any.bits_Len32 Tryz.lays128 x w h0 h1
def Tryz.lays125_ren:Go.Shelf.Ren:=⟨fun|125=>122|128=>154|129=>155|n=>n,fun|46=>191|3=>3|51=>221|53=>172|4=>4|5=>5|9=>9|n=>n,fun|n=>n⟩
theorem Tryz.lays125:Go.Proofs.Lays.n125 Tryz.prog Tryz.lays125_ren:={
 mixed:=by kernel_rfl
 f125:=Tryz.func122.trans (congrArg some (by kernel_rfl))
 f128:=Tryz.func154.trans (congrArg some (by kernel_rfl))
 f129:=Tryz.func155.trans (congrArg some (by kernel_rfl))
 t3:=Tryz.underlying3
 a3:=Tryz.isAgg3
 z3:=Tryz.sizeOf3
 v3:=Tryz.zeroValue3
 t4:=Tryz.underlying4
 a4:=Tryz.isAgg4
 z4:=Tryz.sizeOf4
 v4:=Tryz.zeroValue4
 t5:=Tryz.underlying5
 a5:=Tryz.isAgg5
 z5:=Tryz.sizeOf5
 v5:=Tryz.zeroValue5
 t9:=Tryz.underlying9
 a9:=Tryz.isAgg9
 z9:=Tryz.sizeOf9
 v9:=Tryz.zeroValue9
 t46:=Tryz.underlying191
 a46:=Tryz.isAgg191
 z46:=Tryz.sizeOf191
 v46:=Tryz.zeroValue191
 t51:=Tryz.underlying221
 a51:=Tryz.isAgg221
 z51:=Tryz.sizeOf221
 v51:=Tryz.zeroValue221
 t53:=Tryz.underlying172
 a53:=Tryz.isAgg172
 z53:=Tryz.sizeOf172
 v53:=Tryz.zeroValue172 }
theorem Tryz.bits_Len (x:Int) (w:World) (h0:0≤x) (h1:x≤18446744073709551615) :
  Calls Tryz.prog 122 #[.int .u64 x] w fun e w'=>e = .returned (.int .i64 (Lib.bitLen x.toNat))∧w'=w:=Any.bits_Len Tryz.lays125 x w h0 h1
def Tryz.lays137_ren:Go.Shelf.Ren:=⟨fun|137=>239|217=>243|266=>244|n=>n,fun|9=>9|5=>5|3=>3|n=>n,fun|n=>n⟩
theorem Tryz.lays137:Go.Proofs.Lays.n137 Tryz.prog Tryz.lays137_ren:={
 mixed:=by kernel_rfl
 f137:=Tryz.func239.trans (congrArg some (by kernel_rfl))
 f217:=Tryz.func243.trans (congrArg some (by kernel_rfl))
 f266:=Tryz.func244.trans (congrArg some (by kernel_rfl))
 t3:=Tryz.underlying3
 a3:=Tryz.isAgg3
 z3:=Tryz.sizeOf3
 v3:=Tryz.zeroValue3
 t5:=Tryz.underlying5
 a5:=Tryz.isAgg5
 z5:=Tryz.sizeOf5
 v5:=Tryz.zeroValue5
 t9:=Tryz.underlying9
 a9:=Tryz.isAgg9
 z9:=Tryz.sizeOf9
 v9:=Tryz.zeroValue9 }
open Go.RowKit in
theorem Tryz.strings_IndexByte (s:ByteArray) (c:Int) (w:World) :
  Calls Tryz.prog 239 #[.string s,.int .u8 c] w fun e w'=>e = .returned (.int .i64 (Lib.indexByte s.data.toList c.toNat.toUInt8))∧w'=w:=Any.strings_IndexByte Tryz.lays137 s c w
def Tryz.lays215_ren:Go.Shelf.Ren:=⟨fun|215=>222|n=>n,fun|3=>3|4=>4|n=>n,fun|n=>n⟩
theorem Tryz.lays215:Go.Proofs.Lays.n215 Tryz.prog Tryz.lays215_ren:={
 mixed:=by kernel_rfl
 f215:=Tryz.func222.trans (congrArg some (by kernel_rfl))
 t3:=Tryz.underlying3
 a3:=Tryz.isAgg3
 z3:=Tryz.sizeOf3
 v3:=Tryz.zeroValue3
 t4:=Tryz.underlying4
 a4:=Tryz.isAgg4
 z4:=Tryz.sizeOf4
 v4:=Tryz.zeroValue4 }
open Go.RowKit in
theorem Tryz.cmp_isNaN_int (x:Int) (w:World) :
  Calls Tryz.prog 222 #[.int .i64 x] w fun e w'=>e = .returned (.bool false)∧w'=w:=Any.cmp_isNaN_int Tryz.lays215 x w
def Tryz.lays122_ren:Go.Shelf.Ren:=⟨fun|122=>214|215=>222|n=>n,fun|3=>3|4=>4|n=>n,fun|n=>n⟩
theorem Tryz.lays122:Go.Proofs.Lays.n122 Tryz.prog Tryz.lays122_ren:={
 mixed:=by kernel_rfl
 f122:=Tryz.func214.trans (congrArg some (by kernel_rfl))
 f215:=Tryz.func222.trans (congrArg some (by kernel_rfl))
 t3:=Tryz.underlying3
 a3:=Tryz.isAgg3
 z3:=Tryz.sizeOf3
 v3:=Tryz.zeroValue3
 t4:=Tryz.underlying4
 a4:=Tryz.isAgg4
 z4:=Tryz.sizeOf4
 v4:=Tryz.zeroValue4 }
open Go.RowKit in
theorem Tryz.cmp_Compare_int (x y:Int) (w:World) :
  Calls Tryz.prog 214 #[.int .i64 x,.int .i64 y] w fun e w'=>e = .returned (.int .i64 (Lib.compareInt x y))∧w'=w:=Any.cmp_Compare_int Tryz.lays122 x y w
open Go.RowKit in
theorem Tryz.Builder_String_f (B b:Nat) (l:List UInt8) (w:World) (h:Lib.IsBuilderF 268 5 B b (Lib.byteCells l) w) (h0:l≠[]) :
  Calls Tryz.prog 209 #[.pointer (some ⟨b,0,none⟩)] w fun e w'=>e = .returned (.string ⟨l.toArray⟩)∧(Lib.IsBuilderF 268 5 B b (Lib.byteCells l) w'∧Below B w w'):=Any.Builder_String_f Tryz.lays169 Tryz.Builder_Extra_169 B b l w h h0
open Go.RowKit in
theorem Tryz.Builder_String_empty_f (B b:Nat) (w:World) (h:Lib.IsBuilderF 268 5 B b [] w) (hBw:B≤w.heap.size) :
  Calls Tryz.prog 209 #[.pointer (some ⟨b,0,none⟩)] w fun e w'=>e = .returned (.string ⟨#[]⟩)∧(Lib.IsBuilderF 268 5 B b [] w'∧Below B w w'):=Any.Builder_String_empty_f Tryz.lays169 Tryz.Builder_Extra_169 B b w h hBw
open Go.RowKit in
theorem Tryz.Builder_String_any_f (B b:Nat) (l:List UInt8) (w:World) (h:Lib.IsBuilderF 268 5 B b (Lib.byteCells l) w) (hBw:B≤w.heap.size) :
  Calls Tryz.prog 209 #[.pointer (some ⟨b,0,none⟩)] w fun e w'=>e = .returned (.string ⟨l.toArray⟩)∧(Lib.IsBuilderF 268 5 B b (Lib.byteCells l) w'∧Below B w w'):=Any.Builder_String_any_f Tryz.lays169 Tryz.Builder_Extra_169 B b l w h hBw
open Go.RowKit in
theorem Tryz.Builder_String_k (B b:Nat) (l:List UInt8) (w:World) (h:Lib.IsBuilderF 268 5 B b (Lib.byteCells l) w) (h0:l≠[]) :
  Calls Tryz.prog 209 #[.pointer (some ⟨b,0,none⟩)] w fun e w'=>e = .returned (.string ⟨l.toArray⟩)∧(Lib.IsBuilderF 268 5 B b (Lib.byteCells l) w'∧Below B w w'∧Lib.OthersKept 5 (some b) w w'):=Any.Builder_String_k Tryz.lays169 Tryz.Builder_Extra_169 B b l w h h0
open Go.RowKit in
theorem Tryz.Builder_String_empty_k (B b:Nat) (w:World) (h:Lib.IsBuilderF 268 5 B b [] w) (hBw:B≤w.heap.size) :
  Calls Tryz.prog 209 #[.pointer (some ⟨b,0,none⟩)] w fun e w'=>e = .returned (.string ⟨#[]⟩)∧(Lib.IsBuilderF 268 5 B b [] w'∧Below B w w'∧Lib.OthersKept 5 (some b) w w'):=Any.Builder_String_empty_k Tryz.lays169 Tryz.Builder_Extra_169 B b w h hBw
open Go.RowKit in
theorem Tryz.Builder_String_any_k (B b:Nat) (l:List UInt8) (w:World) (h:Lib.IsBuilderF 268 5 B b (Lib.byteCells l) w) (hBw:B≤w.heap.size) :
  Calls Tryz.prog 209 #[.pointer (some ⟨b,0,none⟩)] w fun e w'=>e = .returned (.string ⟨l.toArray⟩)∧(Lib.IsBuilderF 268 5 B b (Lib.byteCells l) w'∧Below B w w'∧Lib.OthersKept 5 (some b) w w'):=Any.Builder_String_any_k Tryz.lays169 Tryz.Builder_Extra_169 B b l w h hBw
def Tryz.lays129_ren:Go.Shelf.Ren:=⟨fun|129=>155|n=>n,fun|53=>172|3=>3|4=>4|46=>191|5=>5|9=>9|n=>n,fun|n=>n⟩
theorem Tryz.lays129:Go.Proofs.Lays.n129 Tryz.prog Tryz.lays129_ren:={
 mixed:=by kernel_rfl
 f129:=Tryz.func155.trans (congrArg some (by kernel_rfl))
 t3:=Tryz.underlying3
 a3:=Tryz.isAgg3
 z3:=Tryz.sizeOf3
 v3:=Tryz.zeroValue3
 t4:=Tryz.underlying4
 a4:=Tryz.isAgg4
 z4:=Tryz.sizeOf4
 v4:=Tryz.zeroValue4
 t5:=Tryz.underlying5
 a5:=Tryz.isAgg5
 z5:=Tryz.sizeOf5
 v5:=Tryz.zeroValue5
 t9:=Tryz.underlying9
 a9:=Tryz.isAgg9
 z9:=Tryz.sizeOf9
 v9:=Tryz.zeroValue9
 t46:=Tryz.underlying191
 a46:=Tryz.isAgg191
 z46:=Tryz.sizeOf191
 v46:=Tryz.zeroValue191
 t53:=Tryz.underlying172
 a53:=Tryz.isAgg172
 z53:=Tryz.sizeOf172
 v53:=Tryz.zeroValue172 }
theorem Tryz.bits_Len64 (x:Int) (w:World) (h0:0≤x) (h1:x≤18446744073709551615) :
  Calls Tryz.prog 155 #[.int .u64 x] w fun e w'=>e = .returned (.int .i64 (Lib.bitLen x.toNat))∧w'=w:=Any.bits_Len64 Tryz.lays129 x w h0 h1
def Tryz.lays217_ren:Go.Shelf.Ren:=⟨fun|217=>243|266=>244|n=>n,fun|9=>9|5=>5|3=>3|n=>n,fun|n=>n⟩
theorem Tryz.lays217:Go.Proofs.Lays.n217 Tryz.prog Tryz.lays217_ren:={
 mixed:=by kernel_rfl
 f217:=Tryz.func243.trans (congrArg some (by kernel_rfl))
 f266:=Tryz.func244.trans (congrArg some (by kernel_rfl))
 t3:=Tryz.underlying3
 a3:=Tryz.isAgg3
 z3:=Tryz.sizeOf3
 v3:=Tryz.zeroValue3
 t5:=Tryz.underlying5
 a5:=Tryz.isAgg5
 z5:=Tryz.sizeOf5
 v5:=Tryz.zeroValue5
 t9:=Tryz.underlying9
 a9:=Tryz.isAgg9
 z9:=Tryz.sizeOf9
 v9:=Tryz.zeroValue9 }
open Go.RowKit Go.Lib in
theorem Tryz.stringslite_IndexByte (s:ByteArray) (c:Int) (w:World) :
  Calls Tryz.prog 243 #[.string s,.int .u8 c] w fun e w'=>e = .returned (.int .i64 (Lib.indexByte s.data.toList c.toNat.toUInt8))∧w'=w:=Any.stringslite_IndexByte Tryz.lays217 s c w
def Tryz.lays224_ren:Go.Shelf.Ren:=⟨fun|224=>241|n=>n,fun|3=>3|n=>n,fun|n=>n⟩
theorem Tryz.lays224:Go.Proofs.Lays.n224 Tryz.prog Tryz.lays224_ren:={
 mixed:=by kernel_rfl
 f224:=Tryz.func241.trans (congrArg some (by kernel_rfl))
 t3:=Tryz.underlying3
 a3:=Tryz.isAgg3
 z3:=Tryz.sizeOf3
 v3:=Tryz.zeroValue3 }
open Go.RowKit Go.Lib in
theorem Tryz.bytealg_Cutover (n:Int) (h0:0≤n) (h1:n<4611686018427387904) (w:World) :
  Calls Tryz.prog 241 #[.int .i64 n] w fun e w'=>e = .returned (.int .i64 ((n+16) / 8))∧w'=w:=Any.bytealg_Cutover Tryz.lays224 n h0 h1 w
def Tryz.lays189_ren:Go.Shelf.Ren:=⟨fun|189=>119|125=>122|257=>145|128=>154|129=>155|294=>182|295=>183|296=>184|297=>185|298=>186|299=>187|216=>188|300=>189|301=>190|328=>219|329=>192|330=>193|331=>220|332=>221|215=>222|343=>234|n=>n,fun|28=>186|3=>3|46=>191|0=>0|51=>221|53=>172|4=>4|183=>214|182=>213|131=>218|5=>5|9=>9|218=>249|222=>252|228=>284|229=>285|n=>n,fun|n=>n⟩
theorem Tryz.lays189:Go.Proofs.Lays.n189 Tryz.prog Tryz.lays189_ren:={
 mixed:=by kernel_rfl
 f125:=Tryz.func122.trans (congrArg some (by kernel_rfl))
 f128:=Tryz.func154.trans (congrArg some (by kernel_rfl))
 f129:=Tryz.func155.trans (congrArg some (by kernel_rfl))
 f189:=Tryz.func119.trans (congrArg some (by kernel_rfl))
 f215:=Tryz.func222.trans (congrArg some (by kernel_rfl))
 f216:=Tryz.func188.trans (congrArg some (by kernel_rfl))
 f257:=Tryz.func145.trans (congrArg some (by kernel_rfl))
 f294:=Tryz.func182.trans (congrArg some (by kernel_rfl))
 f295:=Tryz.func183.trans (congrArg some (by kernel_rfl))
 f296:=Tryz.func184.trans (congrArg some (by kernel_rfl))
 f297:=Tryz.func185.trans (congrArg some (by kernel_rfl))
 f298:=Tryz.func186.trans (congrArg some (by kernel_rfl))
 f299:=Tryz.func187.trans (congrArg some (by kernel_rfl))
 f300:=Tryz.func189.trans (congrArg some (by kernel_rfl))
 f301:=Tryz.func190.trans (congrArg some (by kernel_rfl))
 f328:=Tryz.func219.trans (congrArg some (by kernel_rfl))
 f329:=Tryz.func192.trans (congrArg some (by kernel_rfl))
 f330:=Tryz.func193.trans (congrArg some (by kernel_rfl))
 f331:=Tryz.func220.trans (congrArg some (by kernel_rfl))
 f332:=Tryz.func221.trans (congrArg some (by kernel_rfl))
 f343:=Tryz.func234.trans (congrArg some (by kernel_rfl))
 t0:=Tryz.underlying0
 a0:=Tryz.isAgg0
 z0:=Tryz.sizeOf0
 v0:=Tryz.zeroValue0
 t3:=Tryz.underlying3
 a3:=Tryz.isAgg3
 z3:=Tryz.sizeOf3
 v3:=Tryz.zeroValue3
 t4:=Tryz.underlying4
 a4:=Tryz.isAgg4
 z4:=Tryz.sizeOf4
 v4:=Tryz.zeroValue4
 t5:=Tryz.underlying5
 a5:=Tryz.isAgg5
 z5:=Tryz.sizeOf5
 v5:=Tryz.zeroValue5
 t9:=Tryz.underlying9
 a9:=Tryz.isAgg9
 z9:=Tryz.sizeOf9
 v9:=Tryz.zeroValue9
 t28:=Tryz.underlying186
 a28:=Tryz.isAgg186
 z28:=Tryz.sizeOf186
 v28:=Tryz.zeroValue186
 t46:=Tryz.underlying191
 a46:=Tryz.isAgg191
 z46:=Tryz.sizeOf191
 v46:=Tryz.zeroValue191
 t51:=Tryz.underlying221
 a51:=Tryz.isAgg221
 z51:=Tryz.sizeOf221
 v51:=Tryz.zeroValue221
 t53:=Tryz.underlying172
 a53:=Tryz.isAgg172
 z53:=Tryz.sizeOf172
 v53:=Tryz.zeroValue172
 t131:=Tryz.underlying218
 a131:=Tryz.isAgg218
 z131:=Tryz.sizeOf218
 v131:=Tryz.zeroValue218
 t182:=Tryz.underlying213
 a182:=Tryz.isAgg213
 z182:=Tryz.sizeOf213
 v182:=Tryz.zeroValue213
 t183:=Tryz.underlying214
 a183:=Tryz.isAgg214
 z183:=Tryz.sizeOf214
 v183:=Tryz.zeroValue214
 t218:=Tryz.underlying249
 a218:=Tryz.isAgg249
 z218:=Tryz.sizeOf249
 v218:=Tryz.zeroValue249
 t222:=Tryz.underlying252
 a222:=Tryz.isAgg252
 z222:=Tryz.sizeOf252
 v222:=Tryz.zeroValue252
 t228:=Tryz.underlying284
 a228:=Tryz.isAgg284
 z228:=Tryz.sizeOf284
 v228:=Tryz.zeroValue284
 t229:=Tryz.underlying285
 a229:=Tryz.isAgg285
 z229:=Tryz.sizeOf285
 v229:=Tryz.zeroValue285 }
open Go.Sort Go.RowKit in
theorem Tryz.slices_Sort_int (blk off cap:Nat) (zs:List Int) (w:World) (hH:Holds (Value.int .i64) w blk off zs.toArray) (hblk:blk<w.heap.size) (hsz:zs.length<4611686018427387904) :
  Calls Tryz.prog 119 #[.slice (some ⟨blk,off,none⟩) zs.length cap] w fun e w' =>
   e = .returned (.tuple #[])∧∃n os,w'=grow (putRow (Value.int .i64) (Sort.ahead w n) blk off (zs.mergeSort fun x y=>decide (x≤y)).toArray) os:=Any.slices_Sort_int Tryz.lays189 blk off cap zs w hH hblk hsz
def Tryz.lays315_ren:Go.Shelf.Ren:=⟨fun|315=>230|n=>n,fun|9=>9|40=>231|4=>4|3=>3|0=>0|21=>21|n=>n,fun|n=>n⟩
theorem Tryz.lays315:Go.Proofs.Lays.n315 Tryz.prog Tryz.lays315_ren:={
 mixed:=by kernel_rfl
 f315:=Tryz.func230.trans (congrArg some (by kernel_rfl))
 t0:=Tryz.underlying0
 a0:=Tryz.isAgg0
 z0:=Tryz.sizeOf0
 v0:=Tryz.zeroValue0
 t3:=Tryz.underlying3
 a3:=Tryz.isAgg3
 z3:=Tryz.sizeOf3
 v3:=Tryz.zeroValue3
 t4:=Tryz.underlying4
 a4:=Tryz.isAgg4
 z4:=Tryz.sizeOf4
 v4:=Tryz.zeroValue4
 t9:=Tryz.underlying9
 a9:=Tryz.isAgg9
 z9:=Tryz.sizeOf9
 v9:=Tryz.zeroValue9
 t21:=Tryz.underlying21
 a21:=Tryz.isAgg21
 z21:=Tryz.sizeOf21
 v21:=Tryz.zeroValue21
 t40:=Tryz.underlying231
 a40:=Tryz.isAgg231
 z40:=Tryz.sizeOf231
 v40:=Tryz.zeroValue231 }
open Go.RowKit Go.Lib in
theorem Tryz.strings_indexFunc (g:Nat) (lb:Array Value) (eg:∀args w,(callFunc g args).run Tryz.prog w = .ok (.enter g args) w) (p:Nat→Bool) (truth:Bool) (s:ByteArray) (w:World) (hp:PredAt Tryz.prog g lb encR p w) :
  Calls Tryz.prog 230 #[.string s,.func (.func g) #[] lb,.bool truth] w fun e w'=>e = .returned (.int .i64 (Lib.idxFunc p truth s))∧Below w.heap.size w w':=Any.strings_indexFunc Tryz.lays315 g lb eg p truth s w hp
def Tryz.laysGw15_ren:Go.Shelf.Ren:=⟨fun|15=>210|20=>230|n=>n,fun|9=>9|23=>231|3=>3|4=>4|0=>0|21=>21|n=>n,fun|n=>n⟩
theorem Tryz.laysGw15:Go.Proofs.LaysGw.n15 Tryz.prog Tryz.laysGw15_ren:={
 mixed:=by kernel_rfl
 f15:=Tryz.func210.trans (congrArg some (by kernel_rfl))
 f20:=Tryz.func230.trans (congrArg some (by kernel_rfl))
 t0:=Tryz.underlying0
 a0:=Tryz.isAgg0
 z0:=Tryz.sizeOf0
 v0:=Tryz.zeroValue0
 i0:=by kernel_rfl
 t3:=Tryz.underlying3
 a3:=Tryz.isAgg3
 z3:=Tryz.sizeOf3
 v3:=Tryz.zeroValue3
 i3:=by kernel_rfl
 t4:=Tryz.underlying4
 a4:=Tryz.isAgg4
 z4:=Tryz.sizeOf4
 v4:=Tryz.zeroValue4
 i4:=by kernel_rfl
 t9:=Tryz.underlying9
 a9:=Tryz.isAgg9
 z9:=Tryz.sizeOf9
 v9:=Tryz.zeroValue9
 i9:=by kernel_rfl
 t21:=Tryz.underlying21
 a21:=Tryz.isAgg21
 z21:=Tryz.sizeOf21
 v21:=Tryz.zeroValue21
 i21:=by kernel_rfl
 t23:=Tryz.underlying231
 a23:=Tryz.isAgg231
 z23:=Tryz.sizeOf231
 v23:=Tryz.zeroValue231
 i23:=by kernel_rfl }
open Go.RowKit Go.Lib in
theorem Tryz.strings_IndexFunc (g:Nat) (lb:Array Value) (eg:∀args w,(callFunc g args).run Tryz.prog w = .ok (.enter g args) w) (p:Nat→Bool) (s:ByteArray) (w:World) (hp:PredAt Tryz.prog g lb encR p w) :
  Calls Tryz.prog 210 #[.string s,.func (.func g) #[] lb] w fun e w'=>e = .returned (.int .i64 (Lib.idxFunc p true s))∧Below w.heap.size w w':=Any.strings_IndexFunc Tryz.laysGw15 g lb eg p s w hp
def Tryz.laysGw17_ren:Go.Shelf.Ren:=⟨fun|17=>165|15=>210|20=>230|n=>n,fun|9=>9|23=>231|4=>4|3=>3|0=>0|21=>21|n=>n,fun|n=>n⟩
theorem Tryz.laysGw17:Go.Proofs.LaysGw.n17 Tryz.prog Tryz.laysGw17_ren:={
 mixed:=by kernel_rfl
 f15:=Tryz.func210.trans (congrArg some (by kernel_rfl))
 f17:=Tryz.func165.trans (congrArg some (by kernel_rfl))
 f20:=Tryz.func230.trans (congrArg some (by kernel_rfl))
 t0:=Tryz.underlying0
 a0:=Tryz.isAgg0
 z0:=Tryz.sizeOf0
 v0:=Tryz.zeroValue0
 i0:=by kernel_rfl
 t3:=Tryz.underlying3
 a3:=Tryz.isAgg3
 z3:=Tryz.sizeOf3
 v3:=Tryz.zeroValue3
 i3:=by kernel_rfl
 t4:=Tryz.underlying4
 a4:=Tryz.isAgg4
 z4:=Tryz.sizeOf4
 v4:=Tryz.zeroValue4
 i4:=by kernel_rfl
 t9:=Tryz.underlying9
 a9:=Tryz.isAgg9
 z9:=Tryz.sizeOf9
 v9:=Tryz.zeroValue9
 i9:=by kernel_rfl
 t21:=Tryz.underlying21
 a21:=Tryz.isAgg21
 z21:=Tryz.sizeOf21
 v21:=Tryz.zeroValue21
 i21:=by kernel_rfl
 t23:=Tryz.underlying231
 a23:=Tryz.isAgg231
 z23:=Tryz.sizeOf231
 v23:=Tryz.zeroValue231
 i23:=by kernel_rfl }
open Go.RowKit Go.Lib in
theorem Tryz.strings_ContainsFunc (g:Nat) (lb:Array Value) (eg:∀args w,(callFunc g args).run Tryz.prog w = .ok (.enter g args) w) (p:Nat→Bool) (s:ByteArray) (w:World) (hp:PredAt Tryz.prog g lb encR p w) :
  Calls Tryz.prog 165 #[.string s,.func (.func g) #[] lb] w fun e w'=>e = .returned (.bool (decide (0≤Lib.idxFunc p true s)))∧Below w.heap.size w w':=Any.strings_ContainsFunc Tryz.laysGw17 g lb eg p s w hp
def Tryz.lays152_ren:Go.Shelf.Ren:=⟨fun|152=>236|137=>239|119=>240|224=>241|225=>242|217=>243|266=>244|n=>n,fun|9=>9|21=>21|3=>3|4=>4|5=>5|0=>0|46=>191|n=>n,fun|n=>n⟩
theorem Tryz.lays152:Go.Proofs.Lays.n152 Tryz.prog Tryz.lays152_ren:={
 mixed:=by kernel_rfl
 f119:=Tryz.func240.trans (congrArg some (by kernel_rfl))
 f137:=Tryz.func239.trans (congrArg some (by kernel_rfl))
 f152:=Tryz.func236.trans (congrArg some (by kernel_rfl))
 f217:=Tryz.func243.trans (congrArg some (by kernel_rfl))
 f224:=Tryz.func241.trans (congrArg some (by kernel_rfl))
 f225:=Tryz.func242.trans (congrArg some (by kernel_rfl))
 f266:=Tryz.func244.trans (congrArg some (by kernel_rfl))
 t0:=Tryz.underlying0
 a0:=Tryz.isAgg0
 z0:=Tryz.sizeOf0
 v0:=Tryz.zeroValue0
 t3:=Tryz.underlying3
 a3:=Tryz.isAgg3
 z3:=Tryz.sizeOf3
 v3:=Tryz.zeroValue3
 t4:=Tryz.underlying4
 a4:=Tryz.isAgg4
 z4:=Tryz.sizeOf4
 v4:=Tryz.zeroValue4
 t5:=Tryz.underlying5
 a5:=Tryz.isAgg5
 z5:=Tryz.sizeOf5
 v5:=Tryz.zeroValue5
 t9:=Tryz.underlying9
 a9:=Tryz.isAgg9
 z9:=Tryz.sizeOf9
 v9:=Tryz.zeroValue9
 t21:=Tryz.underlying21
 a21:=Tryz.isAgg21
 z21:=Tryz.sizeOf21
 v21:=Tryz.zeroValue21
 t46:=Tryz.underlying191
 a46:=Tryz.isAgg191
 z46:=Tryz.sizeOf191
 v46:=Tryz.zeroValue191 }
open Go.RowKit Go.Lib in
theorem Tryz.strings_IndexRune_ascii (s:ByteArray) (r:Int) (w:World) (h0:0≤r) (h1:r<128) :
  Calls Tryz.prog 236 #[.string s,.int .i32 r] w fun e w'=>e = .returned (.int .i64 (Lib.indexByte s.data.toList r.toNat.toUInt8))∧w'=w:=Any.strings_IndexRune_ascii Tryz.lays152 s r w h0 h1
def Tryz.lays151_ren:Go.Shelf.Ren:=⟨fun|151=>227|152=>236|137=>239|119=>240|224=>241|225=>242|217=>243|266=>244|n=>n,fun|9=>9|21=>21|4=>4|3=>3|5=>5|0=>0|46=>191|n=>n,fun|n=>n⟩
theorem Tryz.lays151:Go.Proofs.Lays.n151 Tryz.prog Tryz.lays151_ren:={
 mixed:=by kernel_rfl
 f119:=Tryz.func240.trans (congrArg some (by kernel_rfl))
 f137:=Tryz.func239.trans (congrArg some (by kernel_rfl))
 f151:=Tryz.func227.trans (congrArg some (by kernel_rfl))
 f152:=Tryz.func236.trans (congrArg some (by kernel_rfl))
 f217:=Tryz.func243.trans (congrArg some (by kernel_rfl))
 f224:=Tryz.func241.trans (congrArg some (by kernel_rfl))
 f225:=Tryz.func242.trans (congrArg some (by kernel_rfl))
 f266:=Tryz.func244.trans (congrArg some (by kernel_rfl))
 t0:=Tryz.underlying0
 a0:=Tryz.isAgg0
 z0:=Tryz.sizeOf0
 v0:=Tryz.zeroValue0
 t3:=Tryz.underlying3
 a3:=Tryz.isAgg3
 z3:=Tryz.sizeOf3
 v3:=Tryz.zeroValue3
 t4:=Tryz.underlying4
 a4:=Tryz.isAgg4
 z4:=Tryz.sizeOf4
 v4:=Tryz.zeroValue4
 t5:=Tryz.underlying5
 a5:=Tryz.isAgg5
 z5:=Tryz.sizeOf5
 v5:=Tryz.zeroValue5
 t9:=Tryz.underlying9
 a9:=Tryz.isAgg9
 z9:=Tryz.sizeOf9
 v9:=Tryz.zeroValue9
 t21:=Tryz.underlying21
 a21:=Tryz.isAgg21
 z21:=Tryz.sizeOf21
 v21:=Tryz.zeroValue21
 t46:=Tryz.underlying191
 a46:=Tryz.isAgg191
 z46:=Tryz.sizeOf191
 v46:=Tryz.zeroValue191 }
open Go.RowKit Go.Lib in
theorem Tryz.strings_ContainsRune_ascii (s:ByteArray) (r:Int) (w:World) (h0:0≤r) (h1:r<128) :
  Calls Tryz.prog 227 #[.string s,.int .i32 r] w fun e w'=>e = .returned (.bool (decide (0≤Lib.indexByte s.data.toList r.toNat.toUInt8)))∧w'=w:=Any.strings_ContainsRune_ascii Tryz.lays151 s r w h0 h1
def Tryz.lays227_ren:Go.Shelf.Ren:=⟨fun|227=>204|n=>n,fun|9=>9|116=>261|4=>4|0=>0|3=>3|5=>5|n=>n,fun|n=>n⟩
theorem Tryz.lays227:Go.Proofs.Lays.n227 Tryz.prog Tryz.lays227_ren:={
 mixed:=by kernel_rfl
 f227:=Tryz.func204.trans (congrArg some (by kernel_rfl))
 t0:=Tryz.underlying0
 a0:=Tryz.isAgg0
 z0:=Tryz.sizeOf0
 v0:=Tryz.zeroValue0
 t3:=Tryz.underlying3
 a3:=Tryz.isAgg3
 z3:=Tryz.sizeOf3
 v3:=Tryz.zeroValue3
 t4:=Tryz.underlying4
 a4:=Tryz.isAgg4
 z4:=Tryz.sizeOf4
 v4:=Tryz.zeroValue4
 t5:=Tryz.underlying5
 a5:=Tryz.isAgg5
 z5:=Tryz.sizeOf5
 v5:=Tryz.zeroValue5
 t9:=Tryz.underlying9
 a9:=Tryz.isAgg9
 z9:=Tryz.sizeOf9
 v9:=Tryz.zeroValue9
 t116:=Tryz.underlying261
 a116:=Tryz.isAgg261
 z116:=Tryz.sizeOf261 }
open Go.RowKit Go.Lib in
theorem Tryz.strings_makeASCIISet (hv116:∀w,(zeroValue 261).run Tryz.prog w = .ok (.agg (Array.replicate 256 (.bool false))) w) (chars:ByteArray) (w:World) (hs:chars.size<4294967281) (hascii:∀(j:Nat) b,chars.data.toList[j]?=some b→b.toNat<128) :
  Calls Tryz.prog 204 #[.string chars] w fun e w'=>e = .returned (.tuple #[.agg (Lib.setCells chars.data.toList),.bool true])∧w'=w.alloc (.cells (Lib.setCells chars.data.toList) 261):=Any.strings_makeASCIISet Tryz.lays227 hv116 (by kernel_rfl) chars w hs hascii
def Tryz.lays228_ren:Go.Shelf.Ren:=⟨fun|228=>225|n=>n,fun|124=>265|5=>5|4=>4|0=>0|116=>261|n=>n,fun|n=>n⟩
theorem Tryz.lays228:Go.Proofs.Lays.n228 Tryz.prog Tryz.lays228_ren:={
 mixed:=by kernel_rfl
 f228:=Tryz.func225.trans (congrArg some (by kernel_rfl))
 t0:=Tryz.underlying0
 a0:=Tryz.isAgg0
 z0:=Tryz.sizeOf0
 v0:=Tryz.zeroValue0
 t4:=Tryz.underlying4
 a4:=Tryz.isAgg4
 z4:=Tryz.sizeOf4
 v4:=Tryz.zeroValue4
 t5:=Tryz.underlying5
 a5:=Tryz.isAgg5
 z5:=Tryz.sizeOf5
 v5:=Tryz.zeroValue5
 t116:=Tryz.underlying261
 a116:=Tryz.isAgg261
 z116:=Tryz.sizeOf261
 t124:=Tryz.underlying265
 a124:=Tryz.isAgg265
 z124:=Tryz.sizeOf265
 v124:=Tryz.zeroValue265 }
open Go.RowKit Go.Lib in
theorem Tryz.asciiSet_contains (b:Nat) (x:UInt8) (v:Bool) (w:World) (hc:w.cell? ⟨b,x.toNat,none⟩=some (.bool v)) :
  Calls Tryz.prog 225 #[.pointer (some ⟨b,0,none⟩),.int .u8 x.toNat] w fun e w'=>e = .returned (.bool v)∧w'=w:=Any.asciiSet_contains Tryz.lays228 b x v w hc
def Tryz.lays260_ren:Go.Shelf.Ren:=⟨fun|260=>235|n=>n,fun|9=>9|21=>21|3=>3|4=>4|5=>5|119=>301|0=>0|46=>191|139=>304|138=>303|n=>n,fun|3=>1|4=>2|n=>n⟩
theorem Tryz.lays260:Go.Proofs.Lays.n260 Tryz.prog Tryz.lays260_ren:={
 mixed:=by kernel_rfl
 f260:=Tryz.func235.trans (congrArg some (by kernel_rfl))
 t0:=Tryz.underlying0
 a0:=Tryz.isAgg0
 z0:=Tryz.sizeOf0
 v0:=Tryz.zeroValue0
 t3:=Tryz.underlying3
 a3:=Tryz.isAgg3
 z3:=Tryz.sizeOf3
 v3:=Tryz.zeroValue3
 t4:=Tryz.underlying4
 a4:=Tryz.isAgg4
 z4:=Tryz.sizeOf4
 v4:=Tryz.zeroValue4
 t5:=Tryz.underlying5
 a5:=Tryz.isAgg5
 z5:=Tryz.sizeOf5
 v5:=Tryz.zeroValue5
 t9:=Tryz.underlying9
 a9:=Tryz.isAgg9
 z9:=Tryz.sizeOf9
 v9:=Tryz.zeroValue9
 t21:=Tryz.underlying21
 a21:=Tryz.isAgg21
 z21:=Tryz.sizeOf21
 v21:=Tryz.zeroValue21
 t46:=Tryz.underlying191
 a46:=Tryz.isAgg191
 z46:=Tryz.sizeOf191
 v46:=Tryz.zeroValue191
 t119:=Tryz.underlying301
 a119:=Tryz.isAgg301
 z119:=Tryz.sizeOf301
 t138:=Tryz.underlying303
 a138:=Tryz.isAgg303
 z138:=Tryz.sizeOf303
 v138:=Tryz.zeroValue303
 t139:=Tryz.underlying304
 a139:=Tryz.isAgg304
 z139:=Tryz.sizeOf304
 v139:=Tryz.zeroValue304
 g3:=by kernel_rfl
 g4:=by kernel_rfl }
open Go.RowKit Go.Lib in
theorem Tryz.utf8_decodeRuneInStringSlow (s:ByteArray) (w:World) (hT:Lib.Utf8Tabs 1 2 w) :
  Calls Tryz.prog 235 #[.string s] w fun e w'=>e = .returned (.tuple #[.int .i32 (Lib.decodeGo s).1,.int .i64 (Lib.decodeGo s).2])∧Below w.heap.size w w':=Any.utf8_decodeRuneInStringSlow Tryz.lays260 s w hT
def Tryz.laysNm220_ren:Go.Shelf.Ren:=⟨fun|20=>120|n=>n,fun|22=>186|3=>3|4=>4|0=>0|n=>n,fun|n=>n⟩
theorem Tryz.laysNm220:Go.Proofs.Lays2.n20 Tryz.prog Tryz.laysNm220_ren:={
 mixed:=by kernel_rfl
 f20:=Tryz.func120.trans (congrArg some (by kernel_rfl))
 t0:=Tryz.underlying0
 a0:=Tryz.isAgg0
 z0:=Tryz.sizeOf0
 v0:=Tryz.zeroValue0
 t3:=Tryz.underlying3
 a3:=Tryz.isAgg3
 z3:=Tryz.sizeOf3
 v3:=Tryz.zeroValue3
 t4:=Tryz.underlying4
 a4:=Tryz.isAgg4
 z4:=Tryz.sizeOf4
 v4:=Tryz.zeroValue4
 t22:=Tryz.underlying186
 a22:=Tryz.isAgg186
 z22:=Tryz.sizeOf186
 v22:=Tryz.zeroValue186
 i3:=by kernel_rfl }
open Go.RowKit Go.Lib Go.Sort in
theorem Tryz.slices_Compact_int_arr (blk off cap:Nat) (d:Array Int) (w:World) (hH:Holds encI w blk off d) (hsz:d.size≤9223372036854775807) (hcap:d.size≤cap) :
  Calls Tryz.prog 120 #[.slice (some ⟨blk,off,none⟩) d.size cap] w fun e w'=>e = .returned (.slice (some ⟨blk,off,none⟩) (compactUpTo d d.size).length cap)∧∃q,w'=putRow encI (Sort.ahead w q) blk off (compactUpTo d d.size++List.replicate (d.size-(compactUpTo d d.size).length) 0).toArray:=Any.slices_Compact_int_arr Tryz.laysNm220 blk off cap d w hH hsz hcap
open Go.RowKit Go.Lib Go.Sort in
theorem Tryz.slices_Compact_int (blk off cap:Nat) (zs:List Int) (w:World) (hH:Holds (Value.int .i64) w blk off zs.toArray) (hsz:zs.length≤9223372036854775807) (hcap:zs.length≤cap) :
  Calls Tryz.prog 120 #[.slice (some ⟨blk,off,none⟩) zs.length cap] w fun e w'=>e = .returned (.slice (some ⟨blk,off,none⟩) (Lib.compact zs).length cap)∧∃q,w'=putRow (Value.int .i64) (Sort.ahead w q) blk off (Lib.compact zs++List.replicate (zs.length-(Lib.compact zs).length) 0).toArray:=Any.slices_Compact_int Tryz.laysNm220 blk off cap zs w hH hsz hcap
open Go.RowKit Go.Lib Go.Sort in
theorem Tryz.slices_Compact_int_empty (a:Option Addr) (cap:Nat) (w:World) :
  Calls Tryz.prog 120 #[.slice a 0 cap] w fun e w'=>e = .returned (.slice a 0 cap)∧w'=w:=Any.slices_Compact_int_empty Tryz.laysNm220 a cap w
def Tryz.laysNm237_ren:Go.Shelf.Ren:=⟨fun|37=>222|n=>n,fun|3=>3|4=>4|n=>n,fun|n=>n⟩
theorem Tryz.laysNm237:Go.Proofs.Lays2.n37 Tryz.prog Tryz.laysNm237_ren:={
 mixed:=by kernel_rfl
 f37:=Tryz.func222.trans (congrArg some (by kernel_rfl))
 t3:=Tryz.underlying3
 a3:=Tryz.isAgg3
 z3:=Tryz.sizeOf3
 v3:=Tryz.zeroValue3
 t4:=Tryz.underlying4
 a4:=Tryz.isAgg4
 z4:=Tryz.sizeOf4
 v4:=Tryz.zeroValue4 }
open Go.RowKit Go.Lib in
theorem Tryz.cmp_isNaN_int2 (x:Int) (w:World) :
  Calls Tryz.prog 222 #[.int .i64 x] w fun e w'=>e = .returned (.bool false)∧w'=w:=Any.cmp_isNaN_int2 Tryz.laysNm237 x w
def Tryz.laysNm231_ren:Go.Shelf.Ren:=⟨fun|31=>188|37=>222|n=>n,fun|3=>3|4=>4|n=>n,fun|n=>n⟩
theorem Tryz.laysNm231:Go.Proofs.Lays2.n31 Tryz.prog Tryz.laysNm231_ren:={
 mixed:=by kernel_rfl
 f31:=Tryz.func188.trans (congrArg some (by kernel_rfl))
 f37:=Tryz.func222.trans (congrArg some (by kernel_rfl))
 t3:=Tryz.underlying3
 a3:=Tryz.isAgg3
 z3:=Tryz.sizeOf3
 v3:=Tryz.zeroValue3
 t4:=Tryz.underlying4
 a4:=Tryz.isAgg4
 z4:=Tryz.sizeOf4
 v4:=Tryz.zeroValue4 }
open Go.RowKit Go.Lib in
theorem Tryz.cmp_Less_int2 (x y:Int) (w:World) :
  Calls Tryz.prog 188 #[.int .i64 x,.int .i64 y] w fun e w'=>e = .returned (.bool (decide (x<y)))∧w'=w:=Any.cmp_Less_int2 Tryz.laysNm231 x y w
open Go.RowKit Go.Lib Go.Sort in
theorem Tryz.slices_Compact_int_cells (b off n c:Nat) (zs:List Int) (w:World) (hz:n≤zs.length) (hbig:n≤9223372036854775807) (hcap:n≤c) (hc:∀j,j<zs.length→w.cell? ⟨b,off+j,none⟩=some (.int .i64 (zs.getD j 0))) (hf:∀j,j<n→w.frozen? ⟨b,off+j,none⟩=false) :
  Calls Tryz.prog 120 #[.slice (some ⟨b,off,none⟩) n c] w fun e w'=>e = .returned (.slice (some ⟨b,off,none⟩) (Lib.compact (zs.take n)).length c)∧∃q,w'=(w.drewN q).setCells b off ((Lib.compact (zs.take n)++List.replicate (n-(Lib.compact (zs.take n)).length) 0).map (Value.int .i64)):=Any.slices_Compact_int_cells Tryz.laysNm220 b off n c zs w hz hbig hcap hc hf
open Go.RowKit Go.Sort in
theorem Tryz.slices_Sort_int_none (p:Option Addr) (cap:Nat) (w:World) :
  Calls Tryz.prog 119 #[.slice p 0 cap] w fun e w'=>e = .returned (.tuple #[])∧w'=w:=Any.slices_Sort_int_none Tryz.lays189 p cap w
end
end Go.Proofs
namespace Go.Proofs.YtodpfeaihohpjaaGreatDoor.Cop
section
open Go.RowKit Go.Shelf Go.Sort
def sortBy {α:Type} (B:α→Prop) [DecidablePred B] (cf:α→α→Int) (d:{x // B x}) (xs:List α):List α:=
 if h:∀x∈xs,B x then
  (@pdq {x // B x} ⟨d⟩ (ltOf fun x y:{x // B x}=>cf x.1 y.1) (xs.attachWith B h).toArray 0 xs.length (Lib.bitLen xs.length) true true).toList.map (·.1)
 else xs
theorem zaY {α:Type} {B:α→Prop} {xs:List α} (h:∀x∈xs,B x):(xs.attachWith B h).map (·.1)=xs:=by simp
def BP (p:Int×Int):Prop:=Bd 1000000 p.1∧Bd 1000000 p.2
instance:DecidablePred BP:=fun p=>by unfold BP Bd;exact inferInstance
def BP0:{x // BP x}:=⟨(0,0),by decide⟩
def cfX (p q:Int×Int):Int:=p.1-q.1
def sortX (ps:List (Int×Int)):List (Int×Int):=sortBy BP cfX BP0 ps
instance:Inhabited {x // BP x}:=⟨BP0⟩
theorem ltX (x y:{x // BP x}):ltOf (fun x y:{x // BP x}=>cfX x.1 y.1) x y=decide (x.1.1<y.1.1):=by
 unfold ltOf cfX;rw [decide_eq_decide];dsimp only;omega
theorem swoX:@SWO {x // BP x} (ltOf fun x y:{x // BP x}=>cfX x.1 y.1) where
 irrefl x:=by rw [ltX];simp
 trans x y z h1 h2:=by rw [ltX]at *;simp only [decide_eq_true_eq]at *;omega
 ntrans x y z h1 h2:=by rw [ltX]at *;simp only [decide_eq_false_iff_not]at *;omega
theorem zkB (x y:{x // BP x}) (W:V):Calls Tryz.prog 99 #[.agg #[Y O x.1.1,Y O x.1.2],.agg #[Y O y.1.1,Y O y.1.2]] W fun e w'=>e = .returned (Y O (cfX x.1 y.1))∧∃q os',w'=grow (W.drewN q) os':=by
 obtain⟨⟨x1,x2⟩,⟨hx1,hx2⟩,hx3⟩:=x;obtain⟨⟨y1,y2⟩,⟨hy1,hy2⟩,hy3⟩:=y;unfold cfX;dsimp only at *;clear hx3 hy3;go_enter Tryz.func99,Tryz.ntmps99;go_wp2;go_ret;exact⟨rfl,0,_,by rw [alloc_eq_grow,alloc_eq_grow,grow_grow];rfl⟩
theorem cmpLaysX (blk off size:Nat) (w:V):CmpLays Tryz.prog 99 #[] (fun x:{x // BP x}=>pc x.1) 2 (fun x y=>cfX x.1 y.1) blk off size w:=
 fun _ _ _ _ x y=>zkB x y _
theorem zhh {β:Type} [Inhabited β] {lt:β→β→Bool} (hO:SWO lt) (d:Array β) (l:Nat):(pdq lt d 0 d.size l true true).size=d.size∧(pdq lt d 0 d.size l true true).toList.Perm d.toList:=by
 obtain⟨h1,_,h3⟩:=(pdq_sorts lt hO d 0 d.size l true true (Nat.zero_le _) (nE _) (Or.inl rfl)).1;refine⟨h1,?_⟩
 generalize pdq lt d 0 d.size l true true=d' at h1 h3 ⊢
 have e1:d'.extract 0 d.size=d':=by rw [←h1];exact Array.extract_size
 rw [e1,Array.extract_size]at h3;exact h3
theorem zgC {α:Type} {B:α→Prop} [DecidablePred B] {cf:α→α→Int} {d:{x // B x}} {xs:List α} (hO:@SWO {x // B x} (ltOf fun x y:{x // B x}=>cf x.1 y.1)):(sortBy B cf d xs).Perm xs:=by
 unfold sortBy
 split
 ·rename_i h
  have h2:=(@zhh {x // B x} ⟨d⟩ _ hO (xs.attachWith B h).toArray (Lib.bitLen xs.length)).2;have h3:=h2.map (·.1);rw [show (xs.attachWith B h).toArray.size=xs.length by simp]at h3;have e:(xs.attachWith B h).toArray.toList.map (·.1)=xs:=zaY h;rw [e]at h3;exact h3
 ·exact List.Perm.refl _
theorem zaX (ps:List (Int×Int)):(sortX ps).Perm ps:=zgC swoX
theorem zdh (w:V) (base g n c:Nat) (ps:List (Int×Int)) (h:OwnC 33 2 w base (Z (X ⟨g,0,I⟩) n c) (ps.map pc)) (hb:PBd 1000000 ps) (hn9:ps.length≤1000000) :
  Calls Tryz.prog 100 #[Z (X ⟨g,0,I⟩) n c,.func (.func 99) #[] #[]] w fun e w'=>e = .returned (.tuple #[])∧OwnC 33 2 w' base (Z (X ⟨g,0,I⟩) n c) ((sortX ps).map pc)∧w.grownBy w' (X g):=by
 have hn:=h.len;rw [lL]at hn;obtain⟨d,hd⟩:=gX ((ps.attachWith BP hb).toArray);have hds:d.size=n:=by rw [←hd,hn,List.size_toArray];exact List.length_attachWith
 have hdl:d.toList.map (fun x=>pc x.1)=ps.map pc:=by
  rw [←hd,show (fun x:{x // BP x}=>pc x.1)=pc ∘ (·.1)from rfl,←List.map_map]
  congr 1
  exact zaY hb
 have hX:sortX ps=(pdq (ltOf fun x y:{x // BP x}=>cfX x.1 y.1) d 0 d.size (Lib.bitLen d.size) true true).toList.map (·.1):=by
  unfold sortX sortBy;rw [dif_pos (show ∀x∈ps,BP x from hb),hds,hd,hn]
 have hg:=(h.lt g rfl).2;have eg:∀args w,(callFunc 99 args).run Tryz.prog w = .ok (.enter 99 args) w:=enters_of Tryz.func99 (by kernel_rfl) rfl;have h':OwnC 33 2 w base (Z (X ⟨g,0,I⟩) n c) (d.toList.map fun x=>pc x.1):=by rw [hdl];exact h
 have hH:=zhS (enc:=fun x:{x // BP x}=>pc x.1) (fun _=>rfl) h';have hlim:Lib.bitLen d.size<4611686018427387904:=Nat.lt_of_le_of_lt (Lib.bitLen_le d.size 62 (by omega) (by omega)) (by omega);have hp:Calls Tryz.prog 137 #[Z (X ⟨g,0,I⟩) d.size c,Y O 0,Y O d.size,Y O (Lib.bitLen d.size),.func (.func 99) #[] #[]] w fun e w'=>e = .returned (.tuple #[])∧SWK (fun x:{x // BP x}=>pc x.1) 2 w g 0 (pdq (ltOf fun x y:{x // BP x}=>cfX x.1 y.1) d 0 d.size (Lib.bitLen d.size) true true) w':=AnyQ.pdqsortCmpFunc_all (P:=Tryz.prog) (ρ:=Tryz.pdqPoint_ren) Tryz.pdqPoint 2 Tryz.isAgg33 Tryz.sizeOf33 (fun x:{x // BP x}=>pc x.1) (fun x y=>cfX x.1 y.1) 99 #[] swoX g 0 c d w eg (cmpLaysX g 0 d.size w) ⟨fun _=>rfl,fun x v hv=>by simp [pc]at hv;rcases hv with rfl|rfl<;>rfl,hH,hg⟩ (d.size+1) 0 d.size (Lib.bitLen d.size) d w (by omega) rfl (SWK.start hH) (Nat.zero_le _) (nE _) (by omega) hlim (Or.inl rfl)
 have hl:Calls Tryz.prog 122 #[Y .u64 (d.size:Int)] w fun e w'=>e = .returned (Y O (Lib.bitLen d.size:Nat))∧w'=w:=by
  have h:=Tryz.bits_Len (d.size:Int) w (by omega) (by omega)
  rwa [Int.toNat_natCast]at h
 have wr:IntKind.u64.wrap (d.size:Int)=d.size:=by simp [IntKind.wrap,IntKind.bits,IntKind.signed];omega
 have HX:=hd9 hX;have H':=hd9 h';rw [hds]at wr;have Hds:=hd9 hds;have hn63:n≤1000000:=by omega
 rw [hds]at hp hl;have Hp':=hd9 hp;have Hl':=hd9 hl;obtain⟨L,hL⟩:=gX (Lib.bitLen n);rw [hL]at hp hl;have Hp:=hd9 hp;have Hl:=hd9 hl;have HL:=hd9 hL;clear hp hl hX h' hd hds hL hlim eg hdl hH h hn hn9 Hp' Hl';go_enter Tryz.func100,Tryz.ntmps100
 go_wp2_with(first|((go_at_call 122;(with_reducible refine Hl.out.mono ?_);rintro e w' ⟨rfl,rfl⟩))|((go_at_call 137;(with_reducible refine Hp.out.mono ?_);rintro e w' ⟨rfl,m,os,rfl⟩)))
 go_end0
 refine⟨rfl,?_,zli _⟩;have:=zgD (m:=m) (os:=os) (enc:=fun x:{x // BP x}=>pc x.1) (fun _=>rfl) (d':=pdq (ltOf fun x y:{x // BP x}=>cfX x.1 y.1) d 0 n L true true) H'.out ?_
 ·rw [HX.out,Hds.out,HL.out,List.map_map]
  exact this
 ·have:=(zhh swoX d L).1
  rw [Hds.out]at this ⊢;exact this
end
end Go.Proofs.YtodpfeaihohpjaaGreatDoor.Cop
