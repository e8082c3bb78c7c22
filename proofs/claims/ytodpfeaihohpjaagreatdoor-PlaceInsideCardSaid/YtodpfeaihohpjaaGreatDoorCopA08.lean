/- Part 9: contracts of what the law calls. -/
import Derived.Test.YtodpfeaihohpjaaGreatDoorCopA06
import Derived.Lib.AppendZerosOnto
import Derived.Test.YtodpfeaihohpjaaGreatDoorCopA07
import Derived.Deep.CutBlock
import Derived.Deep.DeepCutAuto
import Derived.Shelf.Strings.Builder1
import Derived.Shelf.Strings.Builder2
import Derived.Shelf.Strings.OnBuilder
import Derived.Shelf.Strings.Trim
import Derived.Shelf.Small.Utf8
import Derived.Shelf.Small.Bits
import Derived.Shelf.Small.Strs
import Derived.Shelf.Small.Wraps
import Derived.Shelf.Strings.BuilderF
import Derived.Shelf.Strings.BuilderK
import Derived.Shelf.Strconv.Itoa0
import Derived.Shelf.Strings.Search1
import Derived.Shelf.Sort.Plain
import Derived.Shelf.GgClosure.StringsIndexFunc
import Derived.Ground.GgwProg
import Derived.Shelf.GgClosure.StringsIndexFuncTop
import Derived.Shelf.Strings.Runes
import Derived.Shelf.Strings.AsciiSet
import Derived.Shelf.Unicode.DecodeSlow
import Derived.Ground.Names2Prog
import Derived.Shelf.Slices.CompactI
import Derived.Shelf.Slices.SearchI
import Derived.Shelf.Slices.Cells
import Derived.Shelf.Slices.In.SortNone
import Derived.Test.YtodpfeaihohpjaaGreatDoorProg
set_option maxRecDepth 1000000
set_option maxHeartbeats 16000000
set_option linter.unusedSimpArgs false
set_option linter.unusedVariables false
open Go.IntKind renaming i64→O
open Go.Value renaming int→Y,slice→Z
open Go renaming World→X,Value→J
open Option renaming some→V,none→M
open Go.Obj renaming cells→N
namespace Go.Proofs.YtodpfeaihohpjaaGreatDoor.Cop
section
open Go.RowKit Go.Shelf
theorem zju (w:X) (v:J) (ps:List (Int×Int)) (x z:Int) (h:IsPts w v ps) :
  Calls Tryz.prog 196 #[v,.agg #[Y O x,Y O z]] w fun e w'=>e = .returned (Y O (idxB (fun p=>(x,z)==p) ps))∧Ext w w':=by
 obtain⟨a,c,rfl⟩:=h.form;obtain⟨n,hn⟩:=gX ps.length;rw [hn]at h ⊢;have D:=h.le;unfold maxLen at D;have ab:n≤9223372036854775807:=oM
 obtain⟨F,hF⟩:∃F:Int×Int→Bool,F=fun p=>(x,z)==p:=⟨_,rfl⟩
 rw [←hF];have T:=hd9 hF;have f:=hd9 hn;clear hn D hF;go_enter Tryz.func196,Tryz.ntmps196;go_wp2
 go_loopg [8] n (fun g t8 W=>IxS w F ps g t8 W∧W.cell? ⟨w.heap.size,0,M⟩=V (Y O x)∧W.cell? ⟨w.heap.size,1,M⟩=V (Y O z))
 case atStart=>exact⟨⟨0,by omega,rfl,by rw [f.out];rfl,eA,fun j y u=>by omega⟩,by go_simp,by go_simp⟩
 case round =>
  obtain⟨⟨i,hi,rfl,rfl,hx,l⟩,k0,k1⟩:=hrel;rw [f.out]at hi;have d:=hd9 l;clear l
  by_cases aa:i<n
  ·obtain⟨q,hq⟩:∃q,ps[i]?=V q:=⟨ps[i]'(by rw [f.out];omega),by simp [f.out,aa]⟩
   obtain⟨K,P⟩:=q;obtain⟨b,o,rfl,hb,d0,d1⟩:=(h.ext' hx).at' hq;have Hq:=hd9 hq;clear hq;have p1:(0:Int)≤(i:Int):=oM
   have p2:(i:Int)<(n:Int):=oM
   by_cases m:x=K
   ·have f1:(x==K)=true:=by simpa using m
    by_cases s:z=P
    ·have f2:(z==P)=true:=by simpa using s
     have e:idxB F ps=(i:Int):=zcL Hq.out (by rw [T.out];simp [m,s]) d.out;have E:=hd9 e;clear e m s;go_wp2
     go_quiet (fail)
     go_wp2;go_ret;exact⟨by rw [E.out];rfl,eA⟩
    ·have f2:(z==P)=false:=by simpa using s
     have t:F (K,P)=false:=by rw [T.out];simp [s]
     have Q:=hd9 t;clear m s t;go_wp2
     go_quiet (fail)
     go_wp2
     go_roundg (n-(i+1))
     case measure=>have:=f.out;omega
     case rel =>
      refine⟨⟨i+1,by have:=f.out;omega,by go_num,by rw [f.out],eA,fun j y u k=>?_⟩,by go_simp,by go_simp⟩
      by_cases r:j=i
      ·subst r;rw [Hq.out]at k;cases k;exact Q.out
      ·exact d.out j y oM k
   ·have f1:(x==K)=false:=by simpa using m
    have t:F (K,P)=false:=by rw [T.out];simp [m]
    have Q:=hd9 t;clear m t;go_wp2
    go_quiet (fail)
    go_wp2
    go_roundg (n-(i+1))
    case measure=>have:=f.out;omega
    case rel =>
     refine⟨⟨i+1,by have:=f.out;omega,by go_num,by rw [f.out],eA,fun j y u k=>?_⟩,by go_simp,by go_simp⟩
     by_cases r:j=i
     ·subst r;rw [Hq.out]at k;cases k;exact Q.out
     ·exact d.out j y oM k
  ·obtain rfl:i=n:=oM
   have e:idxB F ps = -1:=zcK (fun j y u k=>d.out j y (by rw [f.out]at u;exact u) k);have E:=hd9 e;clear e;go_wp2;go_ret;exact⟨by rw [E.out];rfl,hx⟩
def RetC (T:TypeId) (k:Nat) (w:X) (cs:List (List J)) (e:Ending) (w':X):Prop:=∃v,e = .returned v∧OwnC T k w' w.heap.size v cs∧Ext w w'
theorem zjm (w:X) (n:Nat) (p:n≤1000000000):Calls Tryz.prog 224 #[Z M 0 0,Y O n] w (RetC 33 2 w []):=by
 by_cases j:n=0
 ·subst j
  go_enter Tryz.func224,Tryz.ntmps224;go_wp2;go_ret;exact⟨_,rfl,OwnC.nil _ _ _ _,eR _⟩
 ·have m:(1:Int)≤(n:Int):=oM
  obtain⟨i,g,d,e,c⟩:=info_parts zbM;have a:(Builtin.firstCells i.size 0 (Z M 0 0)).run Tryz.prog w.drew = .ok ([]:List J).toArray w.drew:=run_firstCells_none w.drew i.size 0 0 0
  have l:∀ty,(Builtin.append_ #[32,3] ty #[Z M 0 0,Y O (n:Int)]).run Tryz.prog w = .ok (Z (V ⟨w.heap.size,0,M⟩) n (grownCap w n 0 33)) (w.drew.alloc (N (([]:List J).toArray++Builtin.zeroCells (Value.cells (.agg #[Y O 0,Y O 0])) n++Builtin.zeroCells (Value.cells (.agg #[Y O 0,Y O 0])) (grownCap w n 0 33-n)) 33)):=fun ty=>by
   have h:=Lib.run_append_grow_zeros w 32 3 ty 33 i (.agg #[Y O 0,Y O 0]) O O Tryz.underlying32 Tryz.underlying3 g d M 0 0 [] a n oM (by rw [e];omega) oM oM (by rw [c];omega)
    (growslice_fits oM (by rw [c];omega))
   simpa using h
  have o:=grownCap_ge w n 0 33;have b:=grownCap_le_maxLen w n 0 33 (by unfold maxLen;omega)
  generalize grownCap w n 0 33=G at *
  have k:G≤9223372036854775807:=by unfold maxLen at b;omega
  have f:=hd9 b;clear a g d e c b;go_enter Tryz.func224,Tryz.ntmps224
  go_wp2_with(at_builtin;refine Lib.wpList_append_run _ rfl _ _ _ _ rfl _ _ rfl rfl _ _ (l _) ?_)
  go_ret;refine⟨_,rfl,⟨by simp,rfl,.inr ⟨w.heap.size,G,_,rfl,nE _,aN w.drew _,by simp,f.out,?_,by simp⟩⟩,eA⟩;simp [Builtin.zeroCells,Value.cells];omega
theorem zjl (w:X) (n:Nat) (p:n≤1000000000):Calls Tryz.prog 118 #[Z M 0 0,Y O n] w (RetC 33 2 w []):=by
 by_cases j:n=0
 ·subst j
  go_enter Tryz.func118,Tryz.ntmps118;go_wp2;go_ret;exact⟨_,rfl,OwnC.nil _ _ _ _,eR _⟩
 ·have m:(1:Int)≤(n:Int):=oM
  obtain⟨i,g,d,e,c⟩:=info_parts zbM;have a:(Builtin.firstCells i.size 0 (Z M 0 0)).run Tryz.prog w.drew = .ok ([]:List J).toArray w.drew:=run_firstCells_none w.drew i.size 0 0 0
  have l:∀ty,(Builtin.append_ #[99,3] ty #[Z M 0 0,Y O (n:Int)]).run Tryz.prog w = .ok (Z (V ⟨w.heap.size,0,M⟩) n (grownCap w n 0 33)) (w.drew.alloc (N (([]:List J).toArray++Builtin.zeroCells (Value.cells (.agg #[Y O 0,Y O 0])) n++Builtin.zeroCells (Value.cells (.agg #[Y O 0,Y O 0])) (grownCap w n 0 33-n)) 33)):=fun ty=>by
   have h:=Lib.run_append_grow_zeros w 99 3 ty 33 i (.agg #[Y O 0,Y O 0]) O O Tryz.underlying99 Tryz.underlying3 g d M 0 0 [] a n oM (by rw [e];omega) oM oM (by rw [c];omega)
    (growslice_fits oM (by rw [c];omega))
   simpa using h
  have o:=grownCap_ge w n 0 33;have b:=grownCap_le_maxLen w n 0 33 (by unfold maxLen;omega)
  generalize grownCap w n 0 33=G at *
  have k:G≤9223372036854775807:=by unfold maxLen at b;omega
  have f:=hd9 b;clear a g d e c b;go_enter Tryz.func118,Tryz.ntmps118
  go_wp2_with(at_builtin;refine Lib.wpList_append_run _ rfl _ _ _ _ rfl _ _ rfl rfl _ _ (l _) ?_)
  go_ret;refine⟨_,rfl,⟨by simp,rfl,.inr ⟨w.heap.size,G,_,rfl,nE _,aN w.drew _,by simp,f.out,?_,by simp⟩⟩,eA⟩;simp [Builtin.zeroCells,Value.cells];omega
def PSl (T:TypeId) (w:X) (c:List J) (ps:List (Int×Int)):Prop:=∃v,c=[v]∧IsPts w v ps
def tot (a:List (List (Int×Int))):Nat:=a.flatten.length
theorem zbk {a:List (List (Int×Int))} {i:Nat} {ps:List (Int×Int)} (h:a[i]?=V ps):tot (a.take (i+1))=tot (a.take i)+ps.length:=by
 unfold tot;rw [zab _ _ _ h,List.flatten_append,lA];simp
theorem zaK (a:List (List (Int×Int))) (i:Nat):tot (a.take i)≤tot a:=by
 unfold tot
 conv=>rhs;rw [←List.take_append_drop i a,List.flatten_append,lA]
 omega
def CcS (w:X) (a:List (List (Int×Int))) (g:Nat) (t3 b:J) (W:X):Prop:=
 ∃i:Nat,i≤a.length∧b=Y O i∧t3=Y O (tot (a.take i))∧g=a.length-i∧Ext w W
def CdS (w:X) (base:Nat) (a:List (List (Int×Int))) (g:Nat) (c b:J) (W:X):Prop:=
 ∃i:Nat,i≤a.length∧b=Y O i∧OwnC 33 2 W base c ((a.take i).flatten.map pc)∧g=a.length-i∧Ext w W∧base≤W.heap.size
theorem zmi {T:TypeId} {w:X} {v:J} {ps:List (Int×Int)} (h:Sl T 2 PP w v ps):Rd w T 2 v (ps.map pc).length (ps.map pc).flatten:=by
 obtain⟨a,g,j,d,f⟩:=h
 have e:a=ps.map pc:=by
  apply List.ext_getElem?
  intro i;rw [lP]
  by_cases k:i<ps.length
  ·have b:a[i]?=V (a[i]' oM):=gE _
   have c:ps[i]?=V (ps[i]):=gE _;have:=f i _ _ b c;rw [b,c];exact congrArg V this
  ·rw [List.getElem?_eq_none oM,List.getElem?_eq_none oM];rfl
 subst e;rw [lL];exact d
theorem zi1 (w:X) (v:J) (f:List (List (Int×Int))) (h:Sl 32 1 (PSl 32) w v f) (ht:tot f≤1000000000) :
  Calls Tryz.prog 197 #[v] w (RetC 33 2 w (f.flatten.map pc)):=by
 obtain⟨a,c,rfl⟩:=h.form;obtain⟨n,hn⟩:=gX f.length;rw [hn]at h ⊢;have ad:=h.le;unfold maxLen at ad;have ar:n≤9223372036854775807:=oM
 have r:=hd9 hn;have Ht:=hd9 ht;clear hn ad ht;have hP:∀{W:X},Ext w W→Sl 32 1 (PSl 32) W (Z a n c) f:=fun hx=>h.ext (fun _ _ ⟨v,h1,h2⟩=>⟨v,h1,h2.ext' hx⟩) hx
 go_enter Tryz.func197,Tryz.ntmps197;go_wp2
 go_loopg [3,11] n (CcS w f)
 case atStart=>exact⟨0,by omega,rfl,rfl,by rw [r.out];rfl,eR _⟩
 case round =>
  obtain⟨i,hi,rfl,rfl,rfl,hx⟩:=hrel;rw [r.out]at hi;obtain⟨q,hq⟩:=gX (tot (f.take i));have au:q≤1000000000:=by rw [←hq];exact nT (zaK f i) Ht.out
  rw [hq]
  by_cases ak:i<n
  ·obtain⟨ps,l⟩:∃q,f[i]?=V q:=⟨f[i]'(by rw [r.out];omega),by simp [r.out,ak]⟩
   obtain⟨b,o,d,rfl,hb,K,⟨v,rfl,hv⟩,hc⟩:=(hP hx).at l;have u:=hc 0 v rfl;simp only [Nat.mul_one,Nat.add_zero]at u;clear hc K;obtain⟨a',c',rfl⟩:=hv.form;have p:=zbk l;rw [hq]at p;obtain⟨m,hm⟩:=gX ps.length;rw [hm]at p u;have aq:q+m≤1000000000:=by rw [←p];exact nT (zaK f (i+1)) Ht.out
   have ah:=hd9 p;have am:=hv;have Hm:=hd9 hm;clear p l hq hv hm am;go_wp2
   go_roundg (n-(i+1))
   case measure=>have:=r.out;omega
   case rel=>exact⟨i+1,by have:=r.out;omega,by go_num,by rw [ah.out];go_num,by rw [r.out],eA⟩
  ·obtain rfl:i=n:=oM
   clear hq
   go_wp2_with(((go_at_call 224;(with_reducible refine(zjm _ q oM).mono ?_);rintro e w1 ⟨v1,rfl,Q,x⟩;obtain⟨a1,c1,rfl⟩:=Q.form;obtain⟨ai,aj⟩:=x.cells)))
   have z:=hx.trans x;obtain⟨W0,rfl⟩:∃W0,W0=wr:=⟨_,rfl⟩
   go_loopg [6,27] i (CdS w W0.heap.size f)
   case atStart=>exact⟨0,by omega,rfl,by simpa using Q,by rw [r.out];rfl,z,x.size⟩
   case round =>
    clear x z Q ai aj;obtain⟨j,hj,rfl,g,rfl,T,D⟩:=hrel;rw [r.out]at hj;obtain⟨a2,c2,rfl⟩:=g.form;obtain⟨L2,s⟩:=gX (((f.take j).flatten.map pc).length);have ap:L2≤1000000000:=by rw [←s,lL];exact nT (zaK f j) Ht.out
    rw [s]at g ⊢;have af:=hx.size
    by_cases ae:j<i
    ·obtain⟨ps,l⟩:∃q,f[j]?=V q:=⟨f[j]'(by rw [r.out];omega),by simp [r.out,ae]⟩
     obtain⟨b,o,d,rfl,hb,K,⟨v,rfl,hv⟩,hc⟩:=(hP T).at l;have u:=hc 0 v rfl;simp only [Nat.mul_one,Nat.add_zero]at u;clear hc K;obtain⟨a',c',rfl⟩:=hv.form;have p:=zbk l
     have y:((f.take j).flatten.map pc).length+(ps.map pc).length≤100000000000:=by
      have:=zaK f (j+1);have h9:=Ht.out;rw [p]at this;unfold tot at this h9;rw [lL,lL];omega
     have ac:(f.take (j+1)).flatten.map pc=(f.take j).flatten.map pc++ps.map pc:=by
      rw [zab _ _ _ l,List.flatten_append,List.map_append];simp
     have al:=zmi hv;have ag:=hd9 ac;have ao:=hd9 s;have aa:=hd9 y;clear p l ac s y
     go_wp2_with(at_builtin;refine appS (v:=Z a2 L2 c2) zbM rfl dM dM Tryz.underlying32 rfl _ _ rfl rfl g rfl (ps.map pc) zf7 al zf8 aa.out D ?_;intro v' w1 t P an;obtain⟨a3,n3,c3,rfl⟩:=t.form3)
     go_roundg (i-(j+1))
     case measure=>have:=r.out;omega
     case rel =>
      have ab:=zah P D (fun k hk=>(g.lt k hk).1);exact⟨j+1,by rw [r.out];omega,by go_num,by rw [ag.out];exact t,by rw [r.out],T.thenB ab af,nT D ab.size⟩
    ·obtain rfl:j=i:=oM
     have e:(f.take j).flatten.map pc=f.flatten.map pc:=by rw [lT (by rw [r.out];omega)]
     have E:=hd9 e;clear e s;go_wp2;go_ret;exact⟨_,rfl,by rw [←E.out];exact g.mono af,T⟩
theorem zdN (w:X) (v:J) (f:List (List (Int×Int))) (h:Sl 99 1 (PSl 99) w v f) (ht:tot f≤1000000000) :
  Calls Tryz.prog 70 #[v] w (RetC 33 2 w (f.flatten.map pc)):=by
 obtain⟨a,c,rfl⟩:=h.form;obtain⟨n,hn⟩:=gX f.length;rw [hn]at h ⊢;have ad:=h.le;unfold maxLen at ad;have ar:n≤9223372036854775807:=oM
 have r:=hd9 hn;have Ht:=hd9 ht;clear hn ad ht;have hP:∀{W:X},Ext w W→Sl 99 1 (PSl 99) W (Z a n c) f:=fun hx=>h.ext (fun _ _ ⟨v,h1,h2⟩=>⟨v,h1,h2.ext' hx⟩) hx
 go_enter Tryz.func70,Tryz.ntmps70;go_wp2
 go_loopg [3,11] n (CcS w f)
 case atStart=>exact⟨0,by omega,rfl,rfl,by rw [r.out];rfl,eR _⟩
 case round =>
  obtain⟨i,hi,rfl,rfl,rfl,hx⟩:=hrel;rw [r.out]at hi;obtain⟨q,hq⟩:=gX (tot (f.take i));have au:q≤1000000000:=by rw [←hq];exact nT (zaK f i) Ht.out
  rw [hq]
  by_cases ak:i<n
  ·obtain⟨ps,l⟩:∃q,f[i]?=V q:=⟨f[i]'(by rw [r.out];omega),by simp [r.out,ak]⟩
   obtain⟨b,o,d,rfl,hb,K,⟨v,rfl,hv⟩,hc⟩:=(hP hx).at l;have u:=hc 0 v rfl;simp only [Nat.mul_one,Nat.add_zero]at u;clear hc K;obtain⟨a',c',rfl⟩:=hv.form;have p:=zbk l;rw [hq]at p;obtain⟨m,hm⟩:=gX ps.length;rw [hm]at p u;have aq:q+m≤1000000000:=by rw [←p];exact nT (zaK f (i+1)) Ht.out
   have ah:=hd9 p;have am:=hv;have Hm:=hd9 hm;clear p l hq hv hm am;go_wp2
   go_roundg (n-(i+1))
   case measure=>have:=r.out;omega
   case rel=>exact⟨i+1,by have:=r.out;omega,by go_num,by rw [ah.out];go_num,by rw [r.out],eA⟩
  ·obtain rfl:i=n:=oM
   clear hq
   go_wp2_with(((go_at_call 118;(with_reducible refine(zjl _ q oM).mono ?_);rintro e w1 ⟨v1,rfl,Q,x⟩;obtain⟨a1,c1,rfl⟩:=Q.form;obtain⟨ai,aj⟩:=x.cells)))
   have z:=hx.trans x;obtain⟨W0,rfl⟩:∃W0,W0=wr:=⟨_,rfl⟩
   go_loopg [6,27] i (CdS w W0.heap.size f)
   case atStart=>exact⟨0,by omega,rfl,by simpa using Q,by rw [r.out];rfl,z,x.size⟩
   case round =>
    clear x z Q ai aj;obtain⟨j,hj,rfl,g,rfl,T,D⟩:=hrel;rw [r.out]at hj;obtain⟨a2,c2,rfl⟩:=g.form;obtain⟨L2,s⟩:=gX (((f.take j).flatten.map pc).length);have ap:L2≤1000000000:=by rw [←s,lL];exact nT (zaK f j) Ht.out
    rw [s]at g ⊢;have af:=hx.size
    by_cases ae:j<i
    ·obtain⟨ps,l⟩:∃q,f[j]?=V q:=⟨f[j]'(by rw [r.out];omega),by simp [r.out,ae]⟩
     obtain⟨b,o,d,rfl,hb,K,⟨v,rfl,hv⟩,hc⟩:=(hP T).at l;have u:=hc 0 v rfl;simp only [Nat.mul_one,Nat.add_zero]at u;clear hc K;obtain⟨a',c',rfl⟩:=hv.form;have p:=zbk l
     have y:((f.take j).flatten.map pc).length+(ps.map pc).length≤100000000000:=by
      have:=zaK f (j+1);have h9:=Ht.out;rw [p]at this;unfold tot at this h9;rw [lL,lL];omega
     have ac:(f.take (j+1)).flatten.map pc=(f.take j).flatten.map pc++ps.map pc:=by
      rw [zab _ _ _ l,List.flatten_append,List.map_append];simp
     have al:=zmi hv;have ag:=hd9 ac;have ao:=hd9 s;have aa:=hd9 y;clear p l ac s y
     go_wp2_with(at_builtin;refine appS (v:=Z a2 L2 c2) zbM rfl dM dM Tryz.underlying99 rfl _ _ rfl rfl g rfl (ps.map pc) zf7 al zf8 aa.out D ?_;intro v' w1 t P an;obtain⟨a3,n3,c3,rfl⟩:=t.form3)
     go_roundg (i-(j+1))
     case measure=>have:=r.out;omega
     case rel =>
      have ab:=zah P D (fun k hk=>(g.lt k hk).1);exact⟨j+1,by rw [r.out];omega,by go_num,by rw [ag.out];exact t,by rw [r.out],T.thenB ab af,nT D ab.size⟩
    ·obtain rfl:j=i:=oM
     have e:(f.take j).flatten.map pc=f.flatten.map pc:=by rw [lT (by rw [r.out];omega)]
     have E:=hd9 e;clear e s;go_wp2;go_ret;exact⟨_,rfl,by rw [←E.out];exact g.mono af,T⟩
def idxN (ps:List (Int×Int)):Nat:=(idxB (fun p=>minP ps==p) ps).toNat
def settledP (ps:List (Int×Int)):List (Int×Int):=(ps.drop (idxN ps)++ps.take (idxN ps)).map fun p=>(p.1-(leastP ps).1,p.2-(leastP ps).2)
theorem zhv {ps:List (Int×Int)} (h:ps≠[]):minP ps∈ps:=by
 cases ps with
 | nil=>exact absurd rfl h
 | cons p ps =>
  have:∀(b:List (Int×Int)) (a:Int×Int),b.foldl lowP a=a∨b.foldl lowP a∈b:=by
   intro b
   induction b with
   | nil=>intro a;exact .inl rfl
   | cons q b c =>
    intro a;rw [List.foldl_cons]
    rcases c (lowP a q)with e|e
    ·rw [e];unfold lowP;split
     ·exact .inr sM
     ·exact .inl rfl
    ·exact .inr (mC _ e)
  rcases this ps p with e|e
  ·rw [show minP (p::ps)=ps.foldl lowP p from rfl,e];simp
  ·rw [show minP (p::ps)=ps.foldl lowP p from rfl];exact mC _ e
theorem zjt {ps:List (Int×Int)} (h:ps≠[]):idxB (fun p=>minP ps==p) ps=(idxN ps:Int)∧idxN ps<ps.length:=by
 obtain⟨i,c,b⟩:=List.mem_iff_getElem.1 (zhv h);unfold idxN;unfold idxB
 cases hf:ps.findIdx? (fun p=>minP ps==p)with
 | none =>
  rw [List.findIdx?_eq_none_iff]at hf;have:=hf _ (zhv h);simp at this
 | some j =>
  rw [List.findIdx?_eq_some_iff_getElem]at hf;obtain⟨a,_⟩:=hf;exact⟨by simp,by simpa using a⟩
theorem zfZ {k:Int} {ps:List (Int×Int)} (h:PBd k ps) (f:ps≠[]):Bd k (leastP ps).1∧Bd k (leastP ps).2:=by
 cases ps with
 | nil=>exact absurd rfl f
 | cons p ps =>
  have:∀(b:List (Int×Int)) (a:Int×Int),(Bd k a.1∧Bd k a.2)→PBd k b→Bd k (b.foldl (fun o q=>(min o.1 q.1,min o.2 q.2)) a).1∧Bd k (b.foldl (fun o q=>(min o.1 q.1,min o.2 q.2)) a).2:=by
   intro b
   induction b with
   | nil=>intro a d _;exact d
   | cons q b g =>
    intro a d e;refine g _ ?_ (fun z c=>e z (mC _ c));have:=e q sM;unfold Bd at *;dsimp only;omega
  exact this ps p (h p sM) (fun z c=>h z (mC _ c))
theorem PBd.rot {k:Int} {ps:List (Int×Int)} (h:PBd k ps) (m:Nat):PBd k (ps.drop m++ps.take m):=fun p b=>by
 rcases List.mem_append.1 b with a|a
 ·exact h p (List.mem_of_mem_drop a)
 ·exact h p (List.mem_of_mem_take a)
theorem sl2 {T:TypeId} {W:X} {f g:J} {d e:List (Int×Int)} (h:IsPts W f d) (j:IsPts W g e):Sl T 1 (PSl T) (W.alloc (N #[f,g] T)) (Z (V ⟨W.heap.size,0,M⟩) 2 2) [d,e]:=by
 refine⟨[[f],[g]],rfl,by simp,⟨rfl,_,_,rfl,nE _,by unfold maxLen;omega,.inr ⟨W.heap.size,0,_,_,rfl,aN W _,?_⟩⟩,?_⟩
 ·intro i x a
  match i,a with
  | 0,a=>simpa using a
  | 1,a=>simpa using a
  | i+2,a=>simp at a
 ·intro i c x b a
  match i,b,a with
  | 0,b,a=>simp at b a;subst b a;exact⟨_,rfl,h.ext' ((eR _).alloc _)⟩
  | 1,b,a=>simp at b a;subst b a;exact⟨_,rfl,j.ext' ((eR _).alloc _)⟩
  | i+2,b,a=>simp at b
def MpS (w:X) (base:Nat) (f:Int×Int→Int×Int) (a:List (Int×Int)) (v5:J) (g:Nat) (b:J) (W:X):Prop:=
 ∃i:Nat,i≤a.length∧b=Y O i∧g=a.length-i∧Ext w W∧base≤W.heap.size∧OwnC 33 2 W base v5 (((a.take i).map f++a.drop i).map pc)
theorem zl8 {f:Int×Int→Int×Int} {a:List (Int×Int)} {i:Nat} {q:Int×Int} (h:a[i]?=V q):(((a.take i).map f++a.drop i).map pc)[i]?=V (pc q):=by
 have b:=(lS.1 h).1;rw [lP,List.getElem?_append_right (by simp;omega)];simp only [lL,List.length_take];rw [show i-min i a.length=0 by omega,List.getElem?_drop,Nat.add_zero,h];rfl
theorem zl9 {f:Int×Int→Int×Int} {a:List (Int×Int)} {i:Nat} {q:Int×Int} (h:a[i]?=V q) {x z:Int} (e:f q=(x,z)) (d:List J) (c:d=[Y O x,Y O z]) :
  (((a.take i).map f++a.drop i).map pc).set i d=(((a.take (i+1)).map f++a.drop (i+1)).map pc):=by
 have g:=(lS.1 h).1;subst c
 have b:(a.drop i)=q::a.drop (i+1):=by
  rw [List.drop_eq_getElem_cons g];have:=(lS.1 h).2;rw [this]
 have j:((a.take i).map f).map pc=((a.take i).map f).map pc:=rfl;rw [zab _ _ _ h,List.map_append,List.map_append,b,List.set_append_right _ _ (by simp;omega),List.map_cons];simp only [lL,List.length_take];rw [show i-min i a.length=0 by omega,List.set_cons_zero];simp [e,pc]
theorem OwnC.pair {T:TypeId} {w:X} {base g n c:Nat} {cs:List (List J)} {i:Nat} {p:Int×Int} (h:OwnC T 2 w base (Z (V ⟨g,0,M⟩) n c) cs) (b:cs[i]?=V (pc p)) (u v:J) :
  OwnC T 2 ((w.setCell ⟨g,i*2,M⟩ u).setCell ⟨g,i*2+1,M⟩ v) base (Z (V ⟨g,0,M⟩) n c) (cs.set i [u,v]):=by
 have e:=OwnC.stored (j:=0) h b dM u;have f:=(lS.1 b).1;have a:=OwnC.stored (i:=i) (j:=1) (d:=[u,Y O p.2]) e (by rw [List.getElem?_set_self oM];rfl) dM v;rw [List.set_set]at a;exact a
theorem zdp (w:X) (v:J) (ps:List (Int×Int)) (h:IsPts w v ps) (h0:0<ps.length) (aW:ps.length≤1000000) (hb:PBd 1000000 ps) :
  Calls Tryz.prog 158 #[v] w (RetC 33 2 w ((settledP ps).map pc)):=by
 obtain⟨a,c,rfl⟩:=h.form;have al:ps≠[]:=by intro e;subst e;simp at h0
 obtain⟨⟨a7,a8⟩,az⟩:∃p,ps[0]?=V p:=⟨ps[0],by simp⟩;obtain⟨b,o,rfl,aY,_,_⟩:=h.at' az;have aj:=zfZ hb al;have ab:=zjt al;have hQ:settledP ps=(ps.drop (idxN ps)++ps.take (idxN ps)).map fun p=>(p.1-(leastP ps).1,p.2-(leastP ps).2):=rfl
 have ad:=hb.rot (idxN ps);rw [hQ];have ak:=h.le;have Q:=fun W (hW:Ext w W)=>zf0 W _ ps (h.ext' hW) h0
 have aa:=fun W (hW:Ext w W)=>zjU W _ ps (h.ext' hW) h0
 obtain⟨⟨D,K⟩,hl⟩:∃p,leastP ps=p:=⟨_,rfl⟩;obtain⟨⟨mx,mz⟩,hm⟩:∃p,minP ps=p:=⟨_,rfl⟩;have y:=fun W (hW:Ext w W)=>zju W _ ps mx mz (h.ext' hW)
 rw [←hm,ab.1]at y;obtain⟨k,hk⟩:=gX (idxN ps);rw [hk]at y ad ab ⊢;rw [hl]at Q aj ⊢;rw [hm]at aa;obtain⟨P,ae⟩:=gX (ps.drop k++ps.take k);rw [ae]at ad ⊢;obtain⟨n,hn⟩:=gX ps.length;have a1:k<n:=by have:=ab.2;omega
 have aA:P.length=n:=by rw [←ae];simp;omega
 have ao:IsPts w _ _:=h.drop h0 (m:=k) oM;have aB:IsPts w _ _:=h.take h0 (m:=k) (c':=k) oM (nE _) oM;rw [hn]at h Q aa y ak ao ⊢;unfold maxLen at ak
 have t:=fun W (hW:Ext w W)=>zi1 ((W.alloc (N #[Z (V ⟨b,o+k*2,M⟩) (n-k) (c-k),Z (V ⟨b,o,M⟩) k k] 32)).drew) (Z (V ⟨W.heap.size,0,M⟩) 2 2) [ps.drop k,ps.take k] (sl2 (T:=32) (ao.ext' hW) (aB.ext' hW)) (by
  unfold tot;simp;omega)
 have e2:[ps.drop k,ps.take k].flatten=P:=by simpa using ae
 rw [e2]at t;obtain⟨RL,ah⟩:=gX ((P.map (fun p=>(p.1-D,p.2-K))).map pc);rw [ah];have aE:=hd9 ah;clear ah;have aH:=hd9 Q;have aI:=hd9 aa;have aG:=hd9 y;have aF:=hd9 t;have aJ:=hd9 ad;have au:=hd9 aj;have l:=hd9 aA;have k1:(0:Int)≤(k:Int):=oM
 have k2:(k:Int)≤(n:Int):=oM
 have k3:(n:Int)≤(c:Int):=oM
 have k4:(k:Int)<(c:Int):=oM
 have k5:k<c:=oM
 have a2:c≤9223372036854775807:=oM
 clear Q aa y t ad aj aA ab hk hl hm ae hn ao aB ak h hQ e2 hb al az h0 aW;go_enter Tryz.func158,Tryz.ntmps158
 go_wp2_with(first|((go_at_call 169;(with_reducible refine(aH.out _ ?_).mono ?_);exact eA;rintro e w1 ⟨rfl,af⟩;obtain⟨aM,aR⟩:=af.cells))|((go_at_call 170;(with_reducible refine(aI.out _ ?_).mono ?_);exact eA;rintro e w2 ⟨rfl,u⟩;obtain⟨aO,aS⟩:=u.cells))|((go_at_call 196;(with_reducible refine(aG.out _ ?_).mono ?_);exact eA;rintro e w3 ⟨rfl,x⟩;obtain⟨aP,aT⟩:=x.cells)))
 have ag:Ext w w3:=eA;have t:=aF.out w3 ag;have aD:=hd9 t;clear t;have zo:w1.heap.size<w3.heap.size:=Nat.lt_of_lt_of_le (by have:=u.size;simp at this;omega) x.size;have o2:w2.cell? ⟨w1.heap.size,0,M⟩=V (Y O D):=u.cellS sM;have o3:w2.cell? ⟨w1.heap.size,1,M⟩=V (Y O K):=u.cellS sM;have o4:=x.cellS o2;have o5:=x.cellS o3;have O4:=hd9 o4;have O5:=hd9 o5;clear o2 o3 o4 o5
 first|(go_region_with (((go_at_call 197;(with_reducible refine aD.out.mono ?_);rintro e w4 ⟨v4,rfl,z,aC⟩;obtain⟨a4,n4,c4,rfl⟩:=z.form3))))|fail
 all_goals go_wp2
 have ay:=z.len;rw [lL,l.out]at ay;obtain rfl:n=n4:=ay.symm;obtain⟨g4,rfl,ax,aZ⟩:=z.blk (by rw [lL,l.out];omega);have r:Ext w3 w4:=((eR w3).alloc _).drew.trans aC;have s:Ext w w4:=(((af.alloc _).trans u).trans x).trans r;have p4:=r.cellS O4.out;have p5:=r.cellS O5.out;simp only [qdZ,wZ]at ax;obtain⟨bo,ai⟩:=gX w1.heap.size;have a6:w.heap.size≤bo:=by rw [←ai];exact af.size
 rw [ai]at zo p4 p5 ⊢;have am:=z.mono (b':=w3.heap.size) sM;have ap:=r.size;obtain⟨B,hB⟩:=gX w3.heap.size;rw [hB]at zo am ap ax;have aL:w.heap.size≤B:=oM
 clear ai hB z af u x ag aC r aM aR aO aS aP aT
 go_loopg [24] n (fun g aX W=>MpS w B (fun p=>(p.1-D,p.2-K)) P (Z (V ⟨g4,0,M⟩) n c4) g aX W∧W.cell? ⟨bo,0,M⟩=V (Y O D)∧W.cell? ⟨bo,1,M⟩=V (Y O K))
 case atStart=>exact⟨⟨0,by omega,rfl,by rw [l.out];rfl,s,ap,by simpa using am⟩,p4,p5⟩
 case round =>
  clear p4 p5 am s ap;obtain⟨⟨i,hi,rfl,rfl,hx,a5,d⟩,q0,q1⟩:=hrel;rw [l.out]at hi
  by_cases aV:i<n
  ·obtain⟨⟨qx,qz⟩,hq⟩:∃q,P[i]?=V q:=⟨P[i]'(by rw [l.out];omega),by simp [l.out,aV]⟩
   have ac:=zl8 (f:=fun p=>(p.1-D,p.2-K)) hq;have d0:=d.cell (j:=0) ac rfl;have d1:=d.cell (j:=1) ac rfl;simp only [Nat.add_zero]at d0;dsimp only at d0 d1;have f0:=d.frozen;have aw:=aJ.out (qx,qz) (lM hq);have ar:=hd9 aw;have aq:=fun(W:X) (h:OwnC 33 2 W B (Z (V ⟨g4,0,M⟩) n c4) (((P.take i).map (fun p=>(p.1-D,p.2-K))++P.drop i).map pc))=>h.pair ac (Y O (qx-D)) (Y O (qz-K))
   rw [zl9 (f:=fun p=>(p.1-D,p.2-K)) hq rfl _ rfl]at aq;have aK:=hd9 aq;have av:=hd9 d;have zg:=(d.lt g4 rfl).2;have zb:bo<wr.heap.size:=World.block_lt_of_cell? wr _ q0;have p1:(0:Int)≤(i:Int):=oM
   have p2:(i:Int)<(n:Int):=oM
   have a0:¬g4=bo:=oM
   clear aq ac hq aw d;go_wp2
   go_region_with (((go_at_call 198;(with_reducible refine(zfu _ qx qz D K (ar.out.1.mono dM) (ar.out.2.mono dM) (au.out.1.mono dM) (au.out.2.mono dM)).mono ?_);rintro e w5 ⟨rfl,r⟩;obtain⟨aQ,aU⟩:=r.cells;(try simp only [qcD,qfD,qdZ]at aQ aU))))
   all_goals go_wp2
   all_goals
    have s:Ext wr w5:=(eR wr).drew.trans r;have a3:=s.size;have an:=aK.out w5 (av.out.ext s);have a9:=s.cellS q0;have ba:=s.cellS q1
    go_roundg (n-(i+1))
    case measure=>have:=l.out;omega
    case rel=>exact⟨⟨i+1,by have:=l.out;omega,by go_num,by rw [l.out],((hx.trans s).set dO _).set dO _,by simp only [qcZ];omega,an⟩,by go_simp,by go_simp⟩
  ·obtain rfl:i=n:=oM
   have e:((P.take i).map (fun p=>(p.1-D,p.2-K))++P.drop i)=P.map (fun p=>(p.1-D,p.2-K)):=by
    rw [lT (by rw [l.out];exact nE _),List.drop_of_length_le (by rw [l.out];exact nE _),List.append_nil]
   rw [e,aE.out]at d;go_wp2;go_ret;exact⟨_,rfl,d.mono aL,hx⟩
def RvL (xs:List (Int×Int)) (i:Nat) (a:List (Int×Int)):Prop:=a.length=xs.length∧∀j,j<xs.length→a[j]?=if j<i∨xs.length≤j+i then xs[xs.length-1-j]? else xs[j]?
theorem RvL.start (xs:List (Int×Int)):RvL xs 0 xs:=⟨rfl,fun j a=>by rw [if_neg oM]⟩
theorem RvL.step {xs c:List (Int×Int)} {i:Nat} (h:RvL xs i c) (hi:2*i+1<xs.length) {p q:Int×Int} (m:c[i]?=V p) (n:c[xs.length-1-i]?=V q) :
  RvL xs (i+1) ((c.set i q).set (xs.length-1-i) p):=by
 obtain⟨g,d⟩:=h;have a:=d i oM;have b:=d (xs.length-1-i) oM;rw [if_neg oM,m]at a;rw [if_neg oM,n]at b;refine⟨by simp [g],fun j l=>?_⟩
 by_cases e:j=xs.length-1-i
 ·subst e
  rw [List.getElem?_set_self (by simp [g];omega),if_pos oM,show xs.length-1-(xs.length-1-i)=i by omega];exact a
 ·rw [List.getElem?_set_ne oM]
  by_cases f:j=i
  ·subst f
   rw [List.getElem?_set_self oM,if_pos oM];exact b
  ·rw [List.getElem?_set_ne oM,d j l]
   by_cases k:j<i∨xs.length≤j+i
   ·rw [if_pos k,if_pos oM]
   ·rw [if_neg k,if_neg oM]
theorem RvL.done {xs c:List (Int×Int)} {i:Nat} (h:RvL xs i c) (hi:xs.length≤2*i+1):c=xs.reverse:=by
 obtain⟨e,d⟩:=h
 apply List.ext_getElem?
 intro j
 by_cases b:j<xs.length
 ·rw [d j b,List.getElem?_reverse b]
  by_cases a:j<i∨xs.length≤j+i
  ·rw [if_pos a]
  ·rw [if_neg a];congr 1;omega
 ·rw [List.getElem?_eq_none oM,List.getElem?_eq_none (by simp;omega)]
def RvS (w:X) (base:Nat) (v:J) (xs:List (Int×Int)) (g:Nat) (b t3:J) (W:X):Prop:=
 ∃(i:Nat) (a:List (Int×Int)),b=Y O i∧t3=Y O ((xs.length:Int)-1-i)∧g=xs.length+1-i∧2*i≤xs.length+1∧RvL xs i a∧OwnC 33 2 W base v (a.map pc)∧w.grownBy W v.ownBlock
theorem zcj (a:List (Int×Int)) (i:Nat) (q:Int×Int):(a.map pc).set i [Y O q.1,Y O q.2]=(a.set i q).map pc:=by rw [List.map_set];rfl
theorem zni (w:X) (base:Nat) (v:J) (xs:List (Int×Int)) (h:OwnC 33 2 w base v (xs.map pc)) (ad:xs.length≤1000000) :
  Calls Tryz.prog 157 #[v] w fun e w'=>e = .returned (.tuple #[])∧OwnC 33 2 w' base v (xs.reverse.map pc)∧w.grownBy w' v.ownBlock:=by
 obtain⟨a,c,rfl⟩:=h.form;rw [lL]at h ⊢;obtain⟨n,hn⟩:=gX xs.length;rw [hn]at h ad ⊢;have f:=hd9 hn;have hh:=h;clear hn;have e0:((0:Nat):Int)=0:=rfl;go_enter Tryz.func157,Tryz.ntmps157;go_wp2
 go_loopg [2,3] (n+1) (RvS w base (Z a n c) xs)
 case atStart=>exact⟨0,xs,rfl,by rw [f.out];go_num,by rw [f.out];rfl,by omega,RvL.start xs,h,World.grownBy.refl _ _⟩
 case round =>
  clear h hh;obtain⟨i,k,rfl,rfl,rfl,hi,D,b,z⟩:=hrel;rw [f.out]at hi ⊢;have r:=D.1;rw [f.out]at r
  by_cases ac:2*i+1<n
  ·have ab:=OwnC.len b
   obtain⟨g,rfl,af,aa⟩:=OwnC.blk b (by rw [lL,r];omega);obtain⟨⟨P,Q⟩,hp⟩:∃q,k[i]?=V q:=⟨k[i]' oM,by simp⟩;obtain⟨m,T⟩:=gX (n-1-i);obtain⟨⟨x,y⟩,hq⟩:∃q,k[m]?=V q:=⟨k[m]' oM,by simp⟩;have l:(k.map pc)[i]?=V (pc (P,Q)):=by rw [lP,hp];rfl
   have o:(k.map pc)[m]?=V (pc (x,y)):=by rw [lP,hq];rfl
   have c0:=b.cell (j:=0) l rfl;have c1:=b.cell (j:=1) l rfl;have c2:=b.cell (j:=0) o rfl;have c3:=b.cell (j:=1) o rfl;simp only [Nat.add_zero]at c0 c2;dsimp only at c0 c1 c2 c3;have f0:=b.frozen;have K:((n:Int)-1-(i:Int))=(m:Int):=oM
   rw [K];have ag:m≠i:=oM
   have s:=(b.pair l (Y O x) (Y O y));have d:=s.pair (i:=m) (p:=(x,y)) (by rw [List.getElem?_set_ne oM];exact o) (Y O P) (Y O Q);rw [show (((k.map pc).set i [Y O x,Y O y]).set m [Y O P,Y O Q])=((k.set i (x,y)).set m (P,Q)).map pc by rw [←zcj,←zcj]]at d;have u:=D.step (by rw [f.out];exact ac) hp (by rw [f.out,T];exact hq);rw [f.out,T]at u;have t:=hd9 d;have W:=hd9 u;have Hm:=hd9 T;have p1:(0:Int)≤(i:Int):=oM
   have p2:(i:Int)<(n:Int):=oM
   have p3:(0:Int)≤(m:Int):=oM
   have p4:(m:Int)<(n:Int):=oM
   have p5:(i:Int)<(m:Int):=oM
   have p6:i*2+1<m*2:=oM
   clear s d u l o hp hq T D ab r b K;have ae:g<wr.heap.size:=aa;go_wp2
   go_region_with fail
   all_goals go_wp2
   all_goals
    go_roundg (n+1-(i+1))
    case measure=>have:=f.out;omega
    case rel=>exact⟨i+1,(k.set i (x,y)).set m (P,Q),by go_num,by rw [f.out];have:=Hm.out;exact zbD oM,by rw [f.out],by rw [f.out];omega,W.out,t.out,zcJ (zcJ (zcJ (zcJ (zmN z) _ _) _ _) _ _) _ _⟩
  ·have e:k=xs.reverse:=D.done (by rw [f.out];omega)
   have E:=hd9 e;have q1:(n:Int)-1-(i:Int)≤(i:Int):=oM
   clear e D r;go_wp2
   go_end0
   exact⟨rfl,by rw [←E.out];exact b,z⟩
def oddB (r:Int):Bool:=!(decide (97≤r)&&decide (r≤122))&&!(decide (48≤r)&&decide (r≤57))
theorem zm8 (w:X) (r:Int):Calls Tryz.prog 164 #[Y .i32 r] w fun e i=>e = .returned (.bool (oddB r))∧i=w:=by
 unfold oddB
 by_cases d:97≤r
 ·have a:decide (97≤r)=true:=by simpa using d
  by_cases f:r≤122
  ·have c:decide (r≤122)=true:=by simpa using f
   go_enter Tryz.func164,Tryz.ntmps164;go_wp2;go_ret;exact⟨by simp [a,c],rfl⟩
  ·have c:decide (r≤122)=false:=by simpa using f
   have b:decide (48≤r)=true:=by simp;omega
   have h:decide (r≤57)=false:=by simp;omega
   go_enter Tryz.func164,Tryz.ntmps164;go_wp2;go_ret;exact⟨by simp [a,c,b,h],rfl⟩
 ·have a:decide (97≤r)=false:=by simpa using d
  by_cases g:48≤r
  ·have b:decide (48≤r)=true:=by simpa using g
   go_enter Tryz.func164,Tryz.ntmps164;go_wp2;go_ret;exact⟨by simp [a,b],rfl⟩
  ·have b:decide (48≤r)=false:=by simpa using g
   go_enter Tryz.func164,Tryz.ntmps164;go_wp2;go_ret;exact⟨by simp [a,b],rfl⟩
def grainB (a b:Int):Bool:=(!(a==0) || !(b==0))&&wthn a (-100) 100&&wthn b (-100) 100
def stoneB (e:Bool) (ps:List (Int×Int)) (d a b c:Int):Bool:=e&&placedB ps&&wthn d 1 2000&&wthn a 1 10000&&grainB b c
def ChS (w:X) (s:ByteArray) (a:Option Addr) (n c:Nat) (d f b e:Int) (t4:J) (W:X):Prop:=
 t4 = .bool (grainB b e)∧Ext w W∧W.heap[w.heap.size]?=V (N #[.string s,Z a n c,Y O d,Y O f,Y O b,Y O e] 35 (0,0))
theorem zh1 (w:X) (s:ByteArray) (v:J) (ps:List (Int×Int)) (d x g j:Int) (nb:Bool) (h:IsPts w v ps)
  (ag:∀W,Calls Tryz.prog 135 #[.string s] W fun e w'=>e = .returned (.bool nb)∧Ext W w') :
  Calls Tryz.prog 98 #[.agg #[.string s,v,Y O d,Y O x,Y O g,Y O j]] w fun e w'=>e = .returned (Y O (if stoneB nb ps d x g j then 0 else 2))∧Ext w w':=by
 obtain⟨a,c,rfl⟩:=h.form;obtain⟨n,hn⟩:=gX ps.length;rw [hn]at h ⊢;have D:=hd9 ag;have ad:=fun W (hW:Ext w W)=>ziq W (Z a n c) ps (h.ext' hW)
 obtain⟨pb,ac⟩:=gX (placedB ps);rw [ac]at ad;obtain⟨R,q⟩:∃R:Int,(if stoneB nb ps d x g j then (0:Int)else 2)=R:=⟨_,rfl⟩;rw [q];unfold stoneB at q;rw [ac]at q;have P:=hd9 ad;have z:=hd9 q;clear ag ad q ac hn h;go_enter Tryz.func98,Tryz.ntmps98
 go_upto_region 2 with fail
 go_cut [4] (ChS w s a n c d x g j)
 case first =>
  by_cases hz:g=0∧j=0
  ·obtain⟨rfl,rfl⟩:=hz
   go_wp2;go_meet;exact⟨rfl,eA,by rw [zai,if_neg sM];exact qhA _ _ _ rfl⟩
  ·have ah:(g≠0)∨(g=0∧j≠0):=by
    by_cases e:g=0
    ·exact .inr ⟨e,fun e2=>hz ⟨e,e2⟩⟩
    ·exact .inl e
   clear hz
   rcases ah with e1|⟨e1,e2⟩
   ·have f1:(g==0)=false:=(by simpa using e1);clear e1
    have hG:grainB g j=(wthn g (-100) 100&&wthn j (-100) 100):=by unfold grainB;simp [*]
    have HG:=hd9 hG;clear hG
    by_cases y:wthn g (-100) 100=true
    ·by_cases K:wthn j (-100) 100=true
     ·have l:Hid (grainB g j=true):=hd9 (by rw [HG.out,y,K];rfl)
      go_wp2_with(first|((go_at_call 134;(with_reducible refine(zak _ g (-100) 100).mono ?_);rintro e w1 ⟨rfl,b⟩;obtain⟨m,o⟩:=b.cells;(try(refine Ext.useLt b (n:=w.heap.size) ?_ (fun _=>?_);focus(first|(go_simp;done)|omega)));(try(refine Ext.useLt b (n:=w.heap.size+1) ?_ (fun _=>?_);focus(first|(go_simp;done)|omega)))))|((go_at_call 134;(with_reducible refine(zak _ j (-100) 100).mono ?_);rintro e w2 ⟨rfl,f⟩;obtain⟨r,t⟩:=f.cells;(try(refine Ext.useLt f (n:=w.heap.size) ?_ (fun _=>?_);focus(first|(go_simp;done)|omega)));(try(refine Ext.useLt f (n:=w.heap.size+1) ?_ (fun _=>?_);focus(first|(go_simp;done)|omega))))))
      go_meet;exact⟨by rw [l.out],eA,by rw [Ext.block (a:=(w.alloc (N #[.string s,Z a n c,Y O d,Y O x,Y O g,Y O j] 35))) eA sM];exact qhA _ _ _ rfl⟩
     ·have T:wthn j (-100) 100=false:=by simpa using K
      have l:Hid (grainB g j=false):=hd9 (by rw [HG.out,y,T];rfl);clear K
      go_wp2_with(first|((go_at_call 134;(with_reducible refine(zak _ g (-100) 100).mono ?_);rintro e w1 ⟨rfl,b⟩;obtain⟨m,o⟩:=b.cells;(try(refine Ext.useLt b (n:=w.heap.size) ?_ (fun _=>?_);focus(first|(go_simp;done)|omega)));(try(refine Ext.useLt b (n:=w.heap.size+1) ?_ (fun _=>?_);focus(first|(go_simp;done)|omega)))))|((go_at_call 134;(with_reducible refine(zak _ j (-100) 100).mono ?_);rintro e w2 ⟨rfl,f⟩;obtain⟨r,t⟩:=f.cells;(try(refine Ext.useLt f (n:=w.heap.size) ?_ (fun _=>?_);focus(first|(go_simp;done)|omega)));(try(refine Ext.useLt f (n:=w.heap.size+1) ?_ (fun _=>?_);focus(first|(go_simp;done)|omega))))))
      go_meet;exact⟨by rw [l.out],eA,by rw [Ext.block (a:=(w.alloc (N #[.string s,Z a n c,Y O d,Y O x,Y O g,Y O j] 35))) eA sM];exact qhA _ _ _ rfl⟩
    ·have Q:wthn g (-100) 100=false:=by simpa using y
     have l:Hid (grainB g j=false):=hd9 (by rw [HG.out,Q];rfl);clear y
     go_wp2_with(first|((go_at_call 134;(with_reducible refine(zak _ g (-100) 100).mono ?_);rintro e w1 ⟨rfl,b⟩;obtain⟨m,o⟩:=b.cells;(try(refine Ext.useLt b (n:=w.heap.size) ?_ (fun _=>?_);focus(first|(go_simp;done)|omega)));(try(refine Ext.useLt b (n:=w.heap.size+1) ?_ (fun _=>?_);focus(first|(go_simp;done)|omega))))))
     go_meet;exact⟨by rw [l.out],eA,by rw [Ext.block (a:=(w.alloc (N #[.string s,Z a n c,Y O d,Y O x,Y O g,Y O j] 35))) eA sM];exact qhA _ _ _ rfl⟩
   ·have f1:(g==0)=true:=(by simpa using e1);have f2:(j==0)=false:=(by simpa using e2);clear e1 e2
    have hG:grainB g j=(wthn g (-100) 100&&wthn j (-100) 100):=by unfold grainB;simp [*]
    have HG:=hd9 hG;clear hG
    by_cases y:wthn g (-100) 100=true
    ·by_cases K:wthn j (-100) 100=true
     ·have l:Hid (grainB g j=true):=hd9 (by rw [HG.out,y,K];rfl)
      go_wp2_with(first|((go_at_call 134;(with_reducible refine(zak _ g (-100) 100).mono ?_);rintro e w1 ⟨rfl,b⟩;obtain⟨m,o⟩:=b.cells;(try(refine Ext.useLt b (n:=w.heap.size) ?_ (fun _=>?_);focus(first|(go_simp;done)|omega)));(try(refine Ext.useLt b (n:=w.heap.size+1) ?_ (fun _=>?_);focus(first|(go_simp;done)|omega)))))|((go_at_call 134;(with_reducible refine(zak _ j (-100) 100).mono ?_);rintro e w2 ⟨rfl,f⟩;obtain⟨r,t⟩:=f.cells;(try(refine Ext.useLt f (n:=w.heap.size) ?_ (fun _=>?_);focus(first|(go_simp;done)|omega)));(try(refine Ext.useLt f (n:=w.heap.size+1) ?_ (fun _=>?_);focus(first|(go_simp;done)|omega))))))
      go_meet;exact⟨by rw [l.out],eA,by rw [Ext.block (a:=(w.alloc (N #[.string s,Z a n c,Y O d,Y O x,Y O g,Y O j] 35))) eA sM];exact qhA _ _ _ rfl⟩
     ·have T:wthn j (-100) 100=false:=by simpa using K
      have l:Hid (grainB g j=false):=hd9 (by rw [HG.out,y,T];rfl);clear K
      go_wp2_with(first|((go_at_call 134;(with_reducible refine(zak _ g (-100) 100).mono ?_);rintro e w1 ⟨rfl,b⟩;obtain⟨m,o⟩:=b.cells;(try(refine Ext.useLt b (n:=w.heap.size) ?_ (fun _=>?_);focus(first|(go_simp;done)|omega)));(try(refine Ext.useLt b (n:=w.heap.size+1) ?_ (fun _=>?_);focus(first|(go_simp;done)|omega)))))|((go_at_call 134;(with_reducible refine(zak _ j (-100) 100).mono ?_);rintro e w2 ⟨rfl,f⟩;obtain⟨r,t⟩:=f.cells;(try(refine Ext.useLt f (n:=w.heap.size) ?_ (fun _=>?_);focus(first|(go_simp;done)|omega)));(try(refine Ext.useLt f (n:=w.heap.size+1) ?_ (fun _=>?_);focus(first|(go_simp;done)|omega))))))
      go_meet;exact⟨by rw [l.out],eA,by rw [Ext.block (a:=(w.alloc (N #[.string s,Z a n c,Y O d,Y O x,Y O g,Y O j] 35))) eA sM];exact qhA _ _ _ rfl⟩
    ·have Q:wthn g (-100) 100=false:=by simpa using y
     have l:Hid (grainB g j=false):=hd9 (by rw [HG.out,Q];rfl);clear y
     go_wp2_with(first|((go_at_call 134;(with_reducible refine(zak _ g (-100) 100).mono ?_);rintro e w1 ⟨rfl,b⟩;obtain⟨m,o⟩:=b.cells;(try(refine Ext.useLt b (n:=w.heap.size) ?_ (fun _=>?_);focus(first|(go_simp;done)|omega)));(try(refine Ext.useLt b (n:=w.heap.size+1) ?_ (fun _=>?_);focus(first|(go_simp;done)|omega))))))
     go_meet;exact⟨by rw [l.out],eA,by rw [Ext.block (a:=(w.alloc (N #[.string s,Z a n c,Y O d,Y O x,Y O g,Y O j] 35))) eA sM];exact qhA _ _ _ rfl⟩
 case rest =>
  obtain⟨rfl,hx,hB⟩:=hcut;have b0:=qcB hB (i:=0) (u:=.string s) rfl;have b1:=qcB hB (i:=1) (u:=Z a n c) rfl;have b2:=qcB hB (i:=2) (u:=Y O d) rfl;have b3:=qcB hB (i:=3) (u:=Y O x) rfl;have zb:=zaa hB;clear hB;have q:=z.out;obtain⟨G,hG⟩:=gX (grainB g j);rw [hG]at q ⊢;clear hG z
  cases nb
  ·have z:Hid (R=2):=hd9 (by simpa using q.symm)
   clear q
   go_wp2_with(first|((go_at_call 135;(with_reducible refine(D.out _).mono ?_);rintro e w1 ⟨rfl,b⟩;obtain⟨m,o⟩:=b.cells;(have y1:=b.lt zb))))
   go_ret;exact⟨by rw [z.out];rfl,eA⟩
  cases pb
  ·have z:Hid (R=2):=hd9 (by simpa using q.symm)
   clear q
   go_wp2_with(first|((go_at_call 135;(with_reducible refine(D.out _).mono ?_);rintro e w1 ⟨rfl,b⟩;obtain⟨m,o⟩:=b.cells;(have y1:=b.lt zb)))|((go_at_call 136;(with_reducible refine(P.out _ ?_).mono ?_);exact eA;rintro e w2 ⟨rfl,f⟩;obtain⟨r,t⟩:=f.cells;(have y2:=f.lt y1))))
   go_ret;exact⟨by rw [z.out];rfl,eA⟩
  by_cases y:wthn d 1 2000=true
  ·by_cases K:wthn x 1 10000=true
   ·cases G
    ·have z:Hid (R=2):=hd9 (by simpa [y,K] using q.symm)
     clear q
     go_wp2_with(first|((go_at_call 135;(with_reducible refine(D.out _).mono ?_);rintro e w1 ⟨rfl,b⟩;obtain⟨m,o⟩:=b.cells;(have y1:=b.lt zb)))|((go_at_call 136;(with_reducible refine(P.out _ ?_).mono ?_);exact eA;rintro e w2 ⟨rfl,f⟩;obtain⟨r,t⟩:=f.cells;(have y2:=f.lt y1)))|((go_at_call 134;(with_reducible refine(zak _ d 1 2000).mono ?_);rintro e w3 ⟨rfl,k⟩;obtain⟨aa,ab⟩:=k.cells;(try(refine Ext.useLt k (n:=w.heap.size) ?_ (fun _=>?_);focus(first|(go_simp;done)|omega)));(try(refine Ext.useLt k (n:=w.heap.size+1) ?_ (fun _=>?_);focus(first|(go_simp;done)|omega)))))|((go_at_call 134;(with_reducible refine(zak _ x 1 10000).mono ?_);rintro e w4 ⟨rfl,p⟩;obtain⟨ae,af⟩:=p.cells;(try(refine Ext.useLt p (n:=w.heap.size) ?_ (fun _=>?_);focus(first|(go_simp;done)|omega)));(try(refine Ext.useLt p (n:=w.heap.size+1) ?_ (fun _=>?_);focus(first|(go_simp;done)|omega))))))
     go_ret;exact⟨by rw [z.out];rfl,eA⟩
    ·have z:Hid (R=0):=hd9 (by simpa [y,K] using q.symm)
     clear q
     go_wp2_with(first|((go_at_call 135;(with_reducible refine(D.out _).mono ?_);rintro e w1 ⟨rfl,b⟩;obtain⟨m,o⟩:=b.cells;(have y1:=b.lt zb)))|((go_at_call 136;(with_reducible refine(P.out _ ?_).mono ?_);exact eA;rintro e w2 ⟨rfl,f⟩;obtain⟨r,t⟩:=f.cells;(have y2:=f.lt y1)))|((go_at_call 134;(with_reducible refine(zak _ d 1 2000).mono ?_);rintro e w3 ⟨rfl,k⟩;obtain⟨aa,ab⟩:=k.cells;(try(refine Ext.useLt k (n:=w.heap.size) ?_ (fun _=>?_);focus(first|(go_simp;done)|omega)));(try(refine Ext.useLt k (n:=w.heap.size+1) ?_ (fun _=>?_);focus(first|(go_simp;done)|omega)))))|((go_at_call 134;(with_reducible refine(zak _ x 1 10000).mono ?_);rintro e w4 ⟨rfl,p⟩;obtain⟨ae,af⟩:=p.cells;(try(refine Ext.useLt p (n:=w.heap.size) ?_ (fun _=>?_);focus(first|(go_simp;done)|omega)));(try(refine Ext.useLt p (n:=w.heap.size+1) ?_ (fun _=>?_);focus(first|(go_simp;done)|omega))))))
     go_ret;exact⟨by rw [z.out];rfl,eA⟩
   ·have T:wthn x 1 10000=false:=by simpa using K
    have z:Hid (R=2):=hd9 (by simpa [y,T] using q.symm);clear q K
    go_wp2_with(first|((go_at_call 135;(with_reducible refine(D.out _).mono ?_);rintro e w1 ⟨rfl,b⟩;obtain⟨m,o⟩:=b.cells;(have y1:=b.lt zb)))|((go_at_call 136;(with_reducible refine(P.out _ ?_).mono ?_);exact eA;rintro e w2 ⟨rfl,f⟩;obtain⟨r,t⟩:=f.cells;(have y2:=f.lt y1)))|((go_at_call 134;(with_reducible refine(zak _ d 1 2000).mono ?_);rintro e w3 ⟨rfl,k⟩;obtain⟨aa,ab⟩:=k.cells;(try(refine Ext.useLt k (n:=w.heap.size) ?_ (fun _=>?_);focus(first|(go_simp;done)|omega)));(try(refine Ext.useLt k (n:=w.heap.size+1) ?_ (fun _=>?_);focus(first|(go_simp;done)|omega)))))|((go_at_call 134;(with_reducible refine(zak _ x 1 10000).mono ?_);rintro e w4 ⟨rfl,p⟩;obtain⟨ae,af⟩:=p.cells;(try(refine Ext.useLt p (n:=w.heap.size) ?_ (fun _=>?_);focus(first|(go_simp;done)|omega)));(try(refine Ext.useLt p (n:=w.heap.size+1) ?_ (fun _=>?_);focus(first|(go_simp;done)|omega))))))
    go_ret;exact⟨by rw [z.out];rfl,eA⟩
  ·have Q:wthn d 1 2000=false:=by simpa using y
   have z:Hid (R=2):=hd9 (by simpa [Q] using q.symm);clear q y
   go_wp2_with(first|((go_at_call 135;(with_reducible refine(D.out _).mono ?_);rintro e w1 ⟨rfl,b⟩;obtain⟨m,o⟩:=b.cells;(have y1:=b.lt zb)))|((go_at_call 136;(with_reducible refine(P.out _ ?_).mono ?_);exact eA;rintro e w2 ⟨rfl,f⟩;obtain⟨r,t⟩:=f.cells;(have y2:=f.lt y1)))|((go_at_call 134;(with_reducible refine(zak _ d 1 2000).mono ?_);rintro e w3 ⟨rfl,k⟩;obtain⟨aa,ab⟩:=k.cells;(try(refine Ext.useLt k (n:=w.heap.size) ?_ (fun _=>?_);focus(first|(go_simp;done)|omega)));(try(refine Ext.useLt k (n:=w.heap.size+1) ?_ (fun _=>?_);focus(first|(go_simp;done)|omega))))))
   go_ret;exact⟨by rw [z.out];rfl,eA⟩
end
end Go.Proofs.YtodpfeaihohpjaaGreatDoor.Cop
namespace Go.Proofs
section
open Go.Shelf
def Tryz.lays169_ren:Go.Shelf.Ren:=⟨fun|169=>209|n=>n,fun|70=>266|9=>9|0=>0|72=>268|37=>42|127=>293|3=>3|5=>5|n=>n,fun|n=>n⟩
theorem Tryz.lays169:Go.Proofs.Lays.n169 Tryz.prog Tryz.lays169_ren:={
 mixed:=by kernel_rfl
 f169:=Tryz.func209.trans (congrArg some (by kernel_rfl))
 t0:=Tryz.underlying0
 a0:=Tryz.isAgg0
 z0:=Tryz.sizeOf0
 v0:=Tryz.zeroValue0
 t3:=Tryz.underlying3
 a3:=Tryz.isAgg3
 z3:=Tryz.sizeOf3
 v3:=Tryz.zeroValue3
 t9:=Tryz.underlying9
 a9:=Tryz.isAgg9
 z9:=Tryz.sizeOf9
 v9:=Tryz.zeroValue9
 t37:=Tryz.underlying42
 a37:=Tryz.isAgg42
 z37:=Tryz.sizeOf42
 v37:=Tryz.zeroValue42
 t70:=Tryz.underlying266
 a70:=Tryz.isAgg266
 z70:=Tryz.sizeOf266
 v70:=Tryz.zeroValue266
 t72:=Tryz.underlying268
 a72:=Tryz.isAgg268
 z72:=Tryz.sizeOf268
 v72:=Tryz.zeroValue268
 t127:=Tryz.underlying293
 a127:=Tryz.isAgg293
 z127:=Tryz.sizeOf293
 v127:=Tryz.zeroValue293 }
theorem Tryz.Builder_Extra_169:Builder.Extra Tryz.prog Tryz.lays169_ren:={
 sizeBuilder:=by kernel_rfl
 liesBuilder:=by kernel_rfl
 t5:=Tryz.underlying5
 a5:=Tryz.isAgg5
 z5:=Tryz.sizeOf5
 v5:=Tryz.zeroValue5
 infoByte:=by kernel_rfl
 cellsByte:=by kernel_rfl
 sizeByte:=by kernel_rfl
 neB5:=by decide }
open Go.RowKit in
theorem Tryz.Builder_String (B b:Nat) (l:List UInt8) (w:World) (h:Lib.IsBuilder 268 5 B b (Lib.byteCells l) w) (h0:l≠[]) :
  Calls Tryz.prog 209 #[.pointer (some ⟨b,0,none⟩)] w fun e w'=>e = .returned (.string ⟨l.toArray⟩)∧Below B w w':=Any.Builder_String Tryz.lays169 Tryz.Builder_Extra_169 B b l w h h0
open Go.RowKit in
theorem Tryz.Builder_String_empty (B b:Nat) (w:World) (h:Lib.IsBuilder 268 5 B b [] w) (hBw:B≤w.heap.size) :
  Calls Tryz.prog 209 #[.pointer (some ⟨b,0,none⟩)] w fun e w'=>e = .returned (.string ⟨#[]⟩)∧Below B w w':=Any.Builder_String_empty Tryz.lays169 Tryz.Builder_Extra_169 B b w h hBw
open Go.RowKit in
theorem Tryz.Builder_String_any (B b:Nat) (l:List UInt8) (w:World) (h:Lib.IsBuilder 268 5 B b (Lib.byteCells l) w) (hBw:B≤w.heap.size) :
  Calls Tryz.prog 209 #[.pointer (some ⟨b,0,none⟩)] w fun e w'=>e = .returned (.string ⟨l.toArray⟩)∧Below B w w':=Any.Builder_String_any Tryz.lays169 Tryz.Builder_Extra_169 B b l w h hBw
def Tryz.lays241_ren:Go.Shelf.Ren:=⟨fun|241=>229|277=>238|n=>n,fun|70=>266|3=>3|0=>0|72=>268|37=>42|5=>5|n=>n,fun|n=>n⟩
theorem Tryz.lays241:Go.Proofs.Lays.n241 Tryz.prog Tryz.lays241_ren:={
 mixed:=by kernel_rfl
 f241:=Tryz.func229.trans (congrArg some (by kernel_rfl))
 f277:=Tryz.func238.trans (congrArg some (by kernel_rfl))
 t0:=Tryz.underlying0
 a0:=Tryz.isAgg0
 z0:=Tryz.sizeOf0
 v0:=Tryz.zeroValue0
 t3:=Tryz.underlying3
 a3:=Tryz.isAgg3
 z3:=Tryz.sizeOf3
 v3:=Tryz.zeroValue3
 t37:=Tryz.underlying42
 a37:=Tryz.isAgg42
 z37:=Tryz.sizeOf42
 v37:=Tryz.zeroValue42
 t70:=Tryz.underlying266
 a70:=Tryz.isAgg266
 z70:=Tryz.sizeOf266
 v70:=Tryz.zeroValue266
 t72:=Tryz.underlying268
 a72:=Tryz.isAgg268
 z72:=Tryz.sizeOf268
 v72:=Tryz.zeroValue268 }
theorem Tryz.Builder_Extra_241:Builder.Extra Tryz.prog Tryz.lays241_ren:={
 sizeBuilder:=by kernel_rfl
 liesBuilder:=by kernel_rfl
 t5:=Tryz.underlying5
 a5:=Tryz.isAgg5
 z5:=Tryz.sizeOf5
 v5:=Tryz.zeroValue5
 infoByte:=by kernel_rfl
 cellsByte:=by kernel_rfl
 sizeByte:=by kernel_rfl
 neB5:=by decide }
open Go.RowKit in
theorem Tryz.Builder_grow_fresh (B b n:Nat) (w:World) (hB:B≤b) (hbk:w.heap[b]?=some (.cells #[.pointer (some ⟨b,0,none⟩),.slice none 0 0] 268 (0,0))) (hBw:B≤w.heap.size) (hn:n≤281474976710656) :
  Calls Tryz.prog 229 #[.pointer (some ⟨b,0,none⟩),.int .i64 n] w fun e w'=>e = .returned (.tuple #[])∧(Lib.BuilderAt 268 5 B b (.pointer (some ⟨b,0,none⟩)) [] w'∧Below B w w'):=Any.Builder_grow_fresh Tryz.lays241 Tryz.Builder_Extra_241 B b n w hB hbk hBw hn
def Tryz.lays165_ren:Go.Shelf.Ren:=⟨fun|165=>207|240=>228|241=>229|276=>237|277=>238|n=>n,fun|70=>266|3=>3|0=>0|4=>4|9=>9|20=>20|72=>268|37=>42|164=>298|5=>5|n=>n,fun|n=>n⟩
theorem Tryz.lays165:Go.Proofs.Lays.n165 Tryz.prog Tryz.lays165_ren:={
 mixed:=by kernel_rfl
 f165:=Tryz.func207.trans (congrArg some (by kernel_rfl))
 f240:=Tryz.func228.trans (congrArg some (by kernel_rfl))
 f241:=Tryz.func229.trans (congrArg some (by kernel_rfl))
 f276:=Tryz.func237.trans (congrArg some (by kernel_rfl))
 f277:=Tryz.func238.trans (congrArg some (by kernel_rfl))
 t0:=Tryz.underlying0
 a0:=Tryz.isAgg0
 z0:=Tryz.sizeOf0
 v0:=Tryz.zeroValue0
 t3:=Tryz.underlying3
 a3:=Tryz.isAgg3
 z3:=Tryz.sizeOf3
 v3:=Tryz.zeroValue3
 t4:=Tryz.underlying4
 a4:=Tryz.isAgg4
 z4:=Tryz.sizeOf4
 v4:=Tryz.zeroValue4
 t9:=Tryz.underlying9
 a9:=Tryz.isAgg9
 z9:=Tryz.sizeOf9
 v9:=Tryz.zeroValue9
 t20:=Tryz.underlying20
 a20:=Tryz.isAgg20
 z20:=Tryz.sizeOf20
 v20:=Tryz.zeroValue20
 t37:=Tryz.underlying42
 a37:=Tryz.isAgg42
 z37:=Tryz.sizeOf42
 v37:=Tryz.zeroValue42
 t70:=Tryz.underlying266
 a70:=Tryz.isAgg266
 z70:=Tryz.sizeOf266
 v70:=Tryz.zeroValue266
 t72:=Tryz.underlying268
 a72:=Tryz.isAgg268
 z72:=Tryz.sizeOf268
 v72:=Tryz.zeroValue268
 t164:=Tryz.underlying298
 a164:=Tryz.isAgg298
 z164:=Tryz.sizeOf298
 v164:=Tryz.zeroValue298 }
theorem Tryz.Builder_Extra_165:Builder.Extra Tryz.prog Tryz.lays165_ren:={
 sizeBuilder:=by kernel_rfl
 liesBuilder:=by kernel_rfl
 t5:=Tryz.underlying5
 a5:=Tryz.isAgg5
 z5:=Tryz.sizeOf5
 v5:=Tryz.zeroValue5
 infoByte:=by kernel_rfl
 cellsByte:=by kernel_rfl
 sizeByte:=by kernel_rfl
 neB5:=by decide }
open Go.RowKit in
theorem Tryz.Builder_Grow_fresh (B b n:Nat) (w:World) (hB:B≤b) (hbk:w.heap[b]?=some (.cells #[.pointer none,.slice none 0 0] 268 (0,0))) (hBw:B≤w.heap.size) (hn:n≤281474976710656) :
  Calls Tryz.prog 207 #[.pointer (some ⟨b,0,none⟩),.int .i64 n] w fun e w'=>e = .returned (.tuple #[])∧(Lib.BuilderAt 268 5 B b (.pointer (some ⟨b,0,none⟩)) [] w'∧Below B w w'):=Any.Builder_Grow_fresh Tryz.lays165 Tryz.Builder_Extra_165 B b n w hB hbk hBw hn
def Tryz.lays156_ren:Go.Shelf.Ren:=⟨fun|156=>163|165=>207|166=>208|169=>209|240=>228|241=>229|276=>237|277=>238|n=>n,fun|31=>228|9=>9|3=>3|4=>4|0=>0|20=>20|72=>268|76=>272|70=>266|37=>42|75=>271|127=>293|164=>298|5=>5|80=>94|n=>n,fun|n=>n⟩
theorem Tryz.lays156:Go.Proofs.Lays.n156 Tryz.prog Tryz.lays156_ren:={
 mixed:=by kernel_rfl
 f156:=Tryz.func163.trans (congrArg some (by kernel_rfl))
 f165:=Tryz.func207.trans (congrArg some (by kernel_rfl))
 f166:=Tryz.func208.trans (congrArg some (by kernel_rfl))
 f169:=Tryz.func209.trans (congrArg some (by kernel_rfl))
 f240:=Tryz.func228.trans (congrArg some (by kernel_rfl))
 f241:=Tryz.func229.trans (congrArg some (by kernel_rfl))
 f276:=Tryz.func237.trans (congrArg some (by kernel_rfl))
 f277:=Tryz.func238.trans (congrArg some (by kernel_rfl))
 t0:=Tryz.underlying0
 a0:=Tryz.isAgg0
 z0:=Tryz.sizeOf0
 v0:=Tryz.zeroValue0
 t3:=Tryz.underlying3
 a3:=Tryz.isAgg3
 z3:=Tryz.sizeOf3
 v3:=Tryz.zeroValue3
 t4:=Tryz.underlying4
 a4:=Tryz.isAgg4
 z4:=Tryz.sizeOf4
 v4:=Tryz.zeroValue4
 t9:=Tryz.underlying9
 a9:=Tryz.isAgg9
 z9:=Tryz.sizeOf9
 v9:=Tryz.zeroValue9
 t20:=Tryz.underlying20
 a20:=Tryz.isAgg20
 z20:=Tryz.sizeOf20
 v20:=Tryz.zeroValue20
 t31:=Tryz.underlying228
 a31:=Tryz.isAgg228
 z31:=Tryz.sizeOf228
 v31:=Tryz.zeroValue228
 t37:=Tryz.underlying42
 a37:=Tryz.isAgg42
 z37:=Tryz.sizeOf42
 v37:=Tryz.zeroValue42
 t70:=Tryz.underlying266
 a70:=Tryz.isAgg266
 z70:=Tryz.sizeOf266
 v70:=Tryz.zeroValue266
 t72:=Tryz.underlying268
 a72:=Tryz.isAgg268
 z72:=Tryz.sizeOf268
 v72:=Tryz.zeroValue268
 t75:=Tryz.underlying271
 a75:=Tryz.isAgg271
 z75:=Tryz.sizeOf271
 v75:=Tryz.zeroValue271
 t76:=Tryz.underlying272
 a76:=Tryz.isAgg272
 z76:=Tryz.sizeOf272
 v76:=Tryz.zeroValue272
 t127:=Tryz.underlying293
 a127:=Tryz.isAgg293
 z127:=Tryz.sizeOf293
 v127:=Tryz.zeroValue293
 t164:=Tryz.underlying298
 a164:=Tryz.isAgg298
 z164:=Tryz.sizeOf298
 v164:=Tryz.zeroValue298 }
theorem Tryz.Builder_Extra_156:Builder.Extra Tryz.prog Tryz.lays156_ren:={
 sizeBuilder:=by kernel_rfl
 liesBuilder:=by kernel_rfl
 t5:=Tryz.underlying5
 a5:=Tryz.isAgg5
 z5:=Tryz.sizeOf5
 v5:=Tryz.zeroValue5
 infoByte:=by kernel_rfl
 cellsByte:=by kernel_rfl
 sizeByte:=by kernel_rfl
 neB5:=by decide }
open Go.RowKit in
theorem Tryz.strings_Join_none (a:Option Addr) (c:Nat) (sep:ByteArray) (w:World) :
  Calls Tryz.prog 163 #[.slice a 0 c,.string sep] w fun e w'=>e = .returned (.string ⟨#[]⟩)∧w'=w:=Any.strings_Join_none Tryz.lays156 Tryz.Builder_Extra_156 a c sep w
open Go.RowKit in
theorem Tryz.strings_Join (bk o c:Nat) (xs:List ByteArray) (sep:ByteArray) (w:World) (hcells:∀(j:Nat) x,xs[j]?=some x→w.cell? ⟨bk,o+j,none⟩=some (.string x)) (hbk:bk<w.heap.size) (hN:xs.length≤140737488355328) (hcap:xs.length≤c) (hlen:(Lib.join (xs.map (·.data.toList)) sep.data.toList).length≤140737488355328) :
  Calls Tryz.prog 163 #[.slice (some ⟨bk,o,none⟩) xs.length c,.string sep] w fun e w'=>e = .returned (.string ⟨(Lib.join (xs.map (·.data.toList)) sep.data.toList).toArray⟩)∧Below w.heap.size w w':=Any.strings_Join Tryz.lays156 Tryz.Builder_Extra_156 bk o c xs sep w hcells hbk hN hcap hlen
def Tryz.lays231_ren:Go.Shelf.Ren:=⟨fun|231=>203|n=>n,fun|9=>9|5=>5|3=>3|4=>4|n=>n,fun|n=>n⟩
theorem Tryz.lays231:Go.Proofs.Lays.n231 Tryz.prog Tryz.lays231_ren:={
 mixed:=by kernel_rfl
 f231:=Tryz.func203.trans (congrArg some (by kernel_rfl))
 t3:=Tryz.underlying3
 a3:=Tryz.isAgg3
 z3:=Tryz.sizeOf3
 v3:=Tryz.zeroValue3
 t4:=Tryz.underlying4
 a4:=Tryz.isAgg4
 z4:=Tryz.sizeOf4
 v4:=Tryz.zeroValue4
 t5:=Tryz.underlying5
 a5:=Tryz.isAgg5
 z5:=Tryz.sizeOf5
 v5:=Tryz.zeroValue5
 t9:=Tryz.underlying9
 a9:=Tryz.isAgg9
 z9:=Tryz.sizeOf9
 v9:=Tryz.zeroValue9 }
open Go.RowKit in
theorem Tryz.strings_trimLeftByte (s:ByteArray) (c:UInt8) (w:World) :
  Calls Tryz.prog 203 #[.string s,.int .u8 c.toNat] w fun e w'=>e = .returned (.string ⟨(Lib.trimLeftB s.data.toList c).toArray⟩)∧w'=w:=Any.strings_trimLeftByte Tryz.lays231 s c w
def Tryz.lays161_ren:Go.Shelf.Ren:=⟨fun|161=>162|231=>203|227=>204|233=>205|235=>206|228=>225|197=>226|151=>227|260=>235|152=>236|137=>239|119=>240|224=>241|225=>242|217=>243|266=>244|n=>n,fun|9=>9|4=>4|3=>3|5=>5|117=>262|116=>261|0=>0|124=>265|105=>290|21=>21|119=>301|46=>191|139=>304|138=>303|n=>n,fun|3=>1|4=>2|n=>n⟩
theorem Tryz.lays161:Go.Proofs.Lays.n161 Tryz.prog Tryz.lays161_ren:={
 mixed:=by kernel_rfl
 f119:=Tryz.func240.trans (congrArg some (by kernel_rfl))
 f137:=Tryz.func239.trans (congrArg some (by kernel_rfl))
 f151:=Tryz.func227.trans (congrArg some (by kernel_rfl))
 f152:=Tryz.func236.trans (congrArg some (by kernel_rfl))
 f161:=Tryz.func162.trans (congrArg some (by kernel_rfl))
 f197:=Tryz.func226.trans (congrArg some (by kernel_rfl))
 f217:=Tryz.func243.trans (congrArg some (by kernel_rfl))
 f224:=Tryz.func241.trans (congrArg some (by kernel_rfl))
 f225:=Tryz.func242.trans (congrArg some (by kernel_rfl))
 f227:=Tryz.func204.trans (congrArg some (by kernel_rfl))
 f228:=Tryz.func225.trans (congrArg some (by kernel_rfl))
 f231:=Tryz.func203.trans (congrArg some (by kernel_rfl))
 f233:=Tryz.func205.trans (congrArg some (by kernel_rfl))
 f235:=Tryz.func206.trans (congrArg some (by kernel_rfl))
 f260:=Tryz.func235.trans (congrArg some (by kernel_rfl))
 f266:=Tryz.func244.trans (congrArg some (by kernel_rfl))
 t0:=Tryz.underlying0
 a0:=Tryz.isAgg0
 z0:=Tryz.sizeOf0
 v0:=Tryz.zeroValue0
 t3:=Tryz.underlying3
 a3:=Tryz.isAgg3
 z3:=Tryz.sizeOf3
 v3:=Tryz.zeroValue3
 t4:=Tryz.underlying4
 a4:=Tryz.isAgg4
 z4:=Tryz.sizeOf4
 v4:=Tryz.zeroValue4
 t5:=Tryz.underlying5
 a5:=Tryz.isAgg5
 z5:=Tryz.sizeOf5
 v5:=Tryz.zeroValue5
 t9:=Tryz.underlying9
 a9:=Tryz.isAgg9
 z9:=Tryz.sizeOf9
 v9:=Tryz.zeroValue9
 t21:=Tryz.underlying21
 a21:=Tryz.isAgg21
 z21:=Tryz.sizeOf21
 v21:=Tryz.zeroValue21
 t46:=Tryz.underlying191
 a46:=Tryz.isAgg191
 z46:=Tryz.sizeOf191
 v46:=Tryz.zeroValue191
 t105:=Tryz.underlying290
 a105:=Tryz.isAgg290
 z105:=Tryz.sizeOf290
 v105:=Tryz.zeroValue290
 t116:=Tryz.underlying261
 a116:=Tryz.isAgg261
 z116:=Tryz.sizeOf261
 t117:=Tryz.underlying262
 a117:=Tryz.isAgg262
 z117:=Tryz.sizeOf262
 v117:=Tryz.zeroValue262
 t119:=Tryz.underlying301
 a119:=Tryz.isAgg301
 z119:=Tryz.sizeOf301
 t124:=Tryz.underlying265
 a124:=Tryz.isAgg265
 z124:=Tryz.sizeOf265
 v124:=Tryz.zeroValue265
 t138:=Tryz.underlying303
 a138:=Tryz.isAgg303
 z138:=Tryz.sizeOf303
 v138:=Tryz.zeroValue303
 t139:=Tryz.underlying304
 a139:=Tryz.isAgg304
 z139:=Tryz.sizeOf304
 v139:=Tryz.zeroValue304
 g3:=by kernel_rfl
 g4:=by kernel_rfl }
open Go.RowKit in
theorem Tryz.strings_TrimLeft_one (s:ByteArray) (c:UInt8) (hc:c.toNat<128) (w:World) :
  Calls Tryz.prog 162 #[.string s,.string ⟨#[c]⟩] w fun e w'=>e = .returned (.string ⟨(Lib.trimLeftB s.data.toList c).toArray⟩)∧w'=w:=Any.strings_TrimLeft_one Tryz.lays161 s c hc w
def Tryz.lays119_ren:Go.Shelf.Ren:=⟨fun|119=>240|n=>n,fun|21=>21|4=>4|n=>n,fun|n=>n⟩
theorem Tryz.lays119:Go.Proofs.Lays.n119 Tryz.prog Tryz.lays119_ren:={
 mixed:=by kernel_rfl
 f119:=Tryz.func240.trans (congrArg some (by kernel_rfl))
 t4:=Tryz.underlying4
 a4:=Tryz.isAgg4
 z4:=Tryz.sizeOf4
 v4:=Tryz.zeroValue4
 t21:=Tryz.underlying21
 a21:=Tryz.isAgg21
 z21:=Tryz.sizeOf21
 v21:=Tryz.zeroValue21 }
theorem Tryz.utf8_ValidRune (r:Int) (w:World) :
  Calls Tryz.prog 240 #[.int .i32 r] w fun e w'=>e = .returned (.bool (Lib.validRune r))∧w'=w:=Any.utf8_ValidRune Tryz.lays119 r w
def Tryz.lays128_ren:Go.Shelf.Ren:=⟨fun|128=>154|n=>n,fun|51=>221|3=>3|4=>4|46=>191|5=>5|9=>9|n=>n,fun|n=>n⟩
theorem Tryz.lays128:Go.Proofs.Lays.n128 Tryz.prog Tryz.lays128_ren:={
 mixed:=by kernel_rfl
 f128:=Tryz.func154.trans (congrArg some (by kernel_rfl))
 t3:=Tryz.underlying3
 a3:=Tryz.isAgg3
 z3:=Tryz.sizeOf3
 v3:=Tryz.zeroValue3
 t4:=Tryz.underlying4
 a4:=Tryz.isAgg4
 z4:=Tryz.sizeOf4
 v4:=Tryz.zeroValue4
 t5:=Tryz.underlying5
 a5:=Tryz.isAgg5
 z5:=Tryz.sizeOf5
 v5:=Tryz.zeroValue5
 t9:=Tryz.underlying9
 a9:=Tryz.isAgg9
 z9:=Tryz.sizeOf9
 v9:=Tryz.zeroValue9
 t46:=Tryz.underlying191
 a46:=Tryz.isAgg191
 z46:=Tryz.sizeOf191
 v46:=Tryz.zeroValue191
 t51:=Tryz.underlying221
 a51:=Tryz.isAgg221
 z51:=Tryz.sizeOf221
 v51:=Tryz.zeroValue221 }
theorem Tryz.bits_Len32 (x:Int) (w:World) (h0:0≤x) (h1:x≤4294967295) :
  Calls Tryz.prog 154 #[.int .u32 x] w fun e w'=>e = .returned (.int .i64 (Lib.bitLen x.toNat))∧w'=w:=Any.bits_Len32 Tryz.lays128 x w h0 h1
def Tryz.lays125_ren:Go.Shelf.Ren:=⟨fun|125=>122|128=>154|129=>155|n=>n,fun|46=>191|3=>3|51=>221|53=>172|4=>4|5=>5|9=>9|n=>n,fun|n=>n⟩
theorem Tryz.lays125:Go.Proofs.Lays.n125 Tryz.prog Tryz.lays125_ren:={
 mixed:=by kernel_rfl
 f125:=Tryz.func122.trans (congrArg some (by kernel_rfl))
 f128:=Tryz.func154.trans (congrArg some (by kernel_rfl))
 f129:=Tryz.func155.trans (congrArg some (by kernel_rfl))
 t3:=Tryz.underlying3
 a3:=Tryz.isAgg3
 z3:=Tryz.sizeOf3
 v3:=Tryz.zeroValue3
 t4:=Tryz.underlying4
 a4:=Tryz.isAgg4
 z4:=Tryz.sizeOf4
 v4:=Tryz.zeroValue4
 t5:=Tryz.underlying5
 a5:=Tryz.isAgg5
 z5:=Tryz.sizeOf5
 v5:=Tryz.zeroValue5
 t9:=Tryz.underlying9
 a9:=Tryz.isAgg9
 z9:=Tryz.sizeOf9
 v9:=Tryz.zeroValue9
 t46:=Tryz.underlying191
 a46:=Tryz.isAgg191
 z46:=Tryz.sizeOf191
 v46:=Tryz.zeroValue191
 t51:=Tryz.underlying221
 a51:=Tryz.isAgg221
 z51:=Tryz.sizeOf221
 v51:=Tryz.zeroValue221
 t53:=Tryz.underlying172
 a53:=Tryz.isAgg172
 z53:=Tryz.sizeOf172
 v53:=Tryz.zeroValue172 }
theorem Tryz.bits_Len (x:Int) (w:World) (h0:0≤x) (h1:x≤18446744073709551615) :
  Calls Tryz.prog 122 #[.int .u64 x] w fun e w'=>e = .returned (.int .i64 (Lib.bitLen x.toNat))∧w'=w:=Any.bits_Len Tryz.lays125 x w h0 h1
def Tryz.lays137_ren:Go.Shelf.Ren:=⟨fun|137=>239|217=>243|266=>244|n=>n,fun|9=>9|5=>5|3=>3|n=>n,fun|n=>n⟩
theorem Tryz.lays137:Go.Proofs.Lays.n137 Tryz.prog Tryz.lays137_ren:={
 mixed:=by kernel_rfl
 f137:=Tryz.func239.trans (congrArg some (by kernel_rfl))
 f217:=Tryz.func243.trans (congrArg some (by kernel_rfl))
 f266:=Tryz.func244.trans (congrArg some (by kernel_rfl))
 t3:=Tryz.underlying3
 a3:=Tryz.isAgg3
 z3:=Tryz.sizeOf3
 v3:=Tryz.zeroValue3
 t5:=Tryz.underlying5
 a5:=Tryz.isAgg5
 z5:=Tryz.sizeOf5
 v5:=Tryz.zeroValue5
 t9:=Tryz.underlying9
 a9:=Tryz.isAgg9
 z9:=Tryz.sizeOf9
 v9:=Tryz.zeroValue9 }
open Go.RowKit in
theorem Tryz.strings_IndexByte (s:ByteArray) (c:Int) (w:World) :
  Calls Tryz.prog 239 #[.string s,.int .u8 c] w fun e w'=>e = .returned (.int .i64 (Lib.indexByte s.data.toList c.toNat.toUInt8))∧w'=w:=Any.strings_IndexByte Tryz.lays137 s c w
def Tryz.lays215_ren:Go.Shelf.Ren:=⟨fun|215=>222|n=>n,fun|3=>3|4=>4|n=>n,fun|n=>n⟩
theorem Tryz.lays215:Go.Proofs.Lays.n215 Tryz.prog Tryz.lays215_ren:={
 mixed:=by kernel_rfl
 f215:=Tryz.func222.trans (congrArg some (by kernel_rfl))
 t3:=Tryz.underlying3
 a3:=Tryz.isAgg3
 z3:=Tryz.sizeOf3
 v3:=Tryz.zeroValue3
 t4:=Tryz.underlying4
 a4:=Tryz.isAgg4
 z4:=Tryz.sizeOf4
 v4:=Tryz.zeroValue4 }
open Go.RowKit in
theorem Tryz.cmp_isNaN_int (x:Int) (w:World) :
  Calls Tryz.prog 222 #[.int .i64 x] w fun e w'=>e = .returned (.bool false)∧w'=w:=Any.cmp_isNaN_int Tryz.lays215 x w
def Tryz.lays122_ren:Go.Shelf.Ren:=⟨fun|122=>214|215=>222|n=>n,fun|3=>3|4=>4|n=>n,fun|n=>n⟩
theorem Tryz.lays122:Go.Proofs.Lays.n122 Tryz.prog Tryz.lays122_ren:={
 mixed:=by kernel_rfl
 f122:=Tryz.func214.trans (congrArg some (by kernel_rfl))
 f215:=Tryz.func222.trans (congrArg some (by kernel_rfl))
 t3:=Tryz.underlying3
 a3:=Tryz.isAgg3
 z3:=Tryz.sizeOf3
 v3:=Tryz.zeroValue3
 t4:=Tryz.underlying4
 a4:=Tryz.isAgg4
 z4:=Tryz.sizeOf4
 v4:=Tryz.zeroValue4 }
open Go.RowKit in
theorem Tryz.cmp_Compare_int (x y:Int) (w:World) :
  Calls Tryz.prog 214 #[.int .i64 x,.int .i64 y] w fun e w'=>e = .returned (.int .i64 (Lib.compareInt x y))∧w'=w:=Any.cmp_Compare_int Tryz.lays122 x y w
open Go.RowKit in
theorem Tryz.Builder_String_f (B b:Nat) (l:List UInt8) (w:World) (h:Lib.IsBuilderF 268 5 B b (Lib.byteCells l) w) (h0:l≠[]) :
  Calls Tryz.prog 209 #[.pointer (some ⟨b,0,none⟩)] w fun e w'=>e = .returned (.string ⟨l.toArray⟩)∧(Lib.IsBuilderF 268 5 B b (Lib.byteCells l) w'∧Below B w w'):=Any.Builder_String_f Tryz.lays169 Tryz.Builder_Extra_169 B b l w h h0
open Go.RowKit in
theorem Tryz.Builder_String_empty_f (B b:Nat) (w:World) (h:Lib.IsBuilderF 268 5 B b [] w) (hBw:B≤w.heap.size) :
  Calls Tryz.prog 209 #[.pointer (some ⟨b,0,none⟩)] w fun e w'=>e = .returned (.string ⟨#[]⟩)∧(Lib.IsBuilderF 268 5 B b [] w'∧Below B w w'):=Any.Builder_String_empty_f Tryz.lays169 Tryz.Builder_Extra_169 B b w h hBw
open Go.RowKit in
theorem Tryz.Builder_String_any_f (B b:Nat) (l:List UInt8) (w:World) (h:Lib.IsBuilderF 268 5 B b (Lib.byteCells l) w) (hBw:B≤w.heap.size) :
  Calls Tryz.prog 209 #[.pointer (some ⟨b,0,none⟩)] w fun e w'=>e = .returned (.string ⟨l.toArray⟩)∧(Lib.IsBuilderF 268 5 B b (Lib.byteCells l) w'∧Below B w w'):=Any.Builder_String_any_f Tryz.lays169 Tryz.Builder_Extra_169 B b l w h hBw
open Go.RowKit in
theorem Tryz.Builder_String_k (B b:Nat) (l:List UInt8) (w:World) (h:Lib.IsBuilderF 268 5 B b (Lib.byteCells l) w) (h0:l≠[]) :
  Calls Tryz.prog 209 #[.pointer (some ⟨b,0,none⟩)] w fun e w'=>e = .returned (.string ⟨l.toArray⟩)∧(Lib.IsBuilderF 268 5 B b (Lib.byteCells l) w'∧Below B w w'∧Lib.OthersKept 5 (some b) w w'):=Any.Builder_String_k Tryz.lays169 Tryz.Builder_Extra_169 B b l w h h0
open Go.RowKit in
theorem Tryz.Builder_String_empty_k (B b:Nat) (w:World) (h:Lib.IsBuilderF 268 5 B b [] w) (hBw:B≤w.heap.size) :
  Calls Tryz.prog 209 #[.pointer (some ⟨b,0,none⟩)] w fun e w'=>e = .returned (.string ⟨#[]⟩)∧(Lib.IsBuilderF 268 5 B b [] w'∧Below B w w'∧Lib.OthersKept 5 (some b) w w'):=Any.Builder_String_empty_k Tryz.lays169 Tryz.Builder_Extra_169 B b w h hBw
open Go.RowKit in
theorem Tryz.Builder_String_any_k (B b:Nat) (l:List UInt8) (w:World) (h:Lib.IsBuilderF 268 5 B b (Lib.byteCells l) w) (hBw:B≤w.heap.size) :
  Calls Tryz.prog 209 #[.pointer (some ⟨b,0,none⟩)] w fun e w'=>e = .returned (.string ⟨l.toArray⟩)∧(Lib.IsBuilderF 268 5 B b (Lib.byteCells l) w'∧Below B w w'∧Lib.OthersKept 5 (some b) w w'):=Any.Builder_String_any_k Tryz.lays169 Tryz.Builder_Extra_169 B b l w h hBw
def Tryz.lays129_ren:Go.Shelf.Ren:=⟨fun|129=>155|n=>n,fun|53=>172|3=>3|4=>4|46=>191|5=>5|9=>9|n=>n,fun|n=>n⟩
theorem Tryz.lays129:Go.Proofs.Lays.n129 Tryz.prog Tryz.lays129_ren:={
 mixed:=by kernel_rfl
 f129:=Tryz.func155.trans (congrArg some (by kernel_rfl))
 t3:=Tryz.underlying3
 a3:=Tryz.isAgg3
 z3:=Tryz.sizeOf3
 v3:=Tryz.zeroValue3
 t4:=Tryz.underlying4
 a4:=Tryz.isAgg4
 z4:=Tryz.sizeOf4
 v4:=Tryz.zeroValue4
 t5:=Tryz.underlying5
 a5:=Tryz.isAgg5
 z5:=Tryz.sizeOf5
 v5:=Tryz.zeroValue5
 t9:=Tryz.underlying9
 a9:=Tryz.isAgg9
 z9:=Tryz.sizeOf9
 v9:=Tryz.zeroValue9
 t46:=Tryz.underlying191
 a46:=Tryz.isAgg191
 z46:=Tryz.sizeOf191
 v46:=Tryz.zeroValue191
 t53:=Tryz.underlying172
 a53:=Tryz.isAgg172
 z53:=Tryz.sizeOf172
 v53:=Tryz.zeroValue172 }
theorem Tryz.bits_Len64 (x:Int) (w:World) (h0:0≤x) (h1:x≤18446744073709551615) :
  Calls Tryz.prog 155 #[.int .u64 x] w fun e w'=>e = .returned (.int .i64 (Lib.bitLen x.toNat))∧w'=w:=Any.bits_Len64 Tryz.lays129 x w h0 h1
def Tryz.lays217_ren:Go.Shelf.Ren:=⟨fun|217=>243|266=>244|n=>n,fun|9=>9|5=>5|3=>3|n=>n,fun|n=>n⟩
theorem Tryz.lays217:Go.Proofs.Lays.n217 Tryz.prog Tryz.lays217_ren:={
 mixed:=by kernel_rfl
 f217:=Tryz.func243.trans (congrArg some (by kernel_rfl))
 f266:=Tryz.func244.trans (congrArg some (by kernel_rfl))
 t3:=Tryz.underlying3
 a3:=Tryz.isAgg3
 z3:=Tryz.sizeOf3
 v3:=Tryz.zeroValue3
 t5:=Tryz.underlying5
 a5:=Tryz.isAgg5
 z5:=Tryz.sizeOf5
 v5:=Tryz.zeroValue5
 t9:=Tryz.underlying9
 a9:=Tryz.isAgg9
 z9:=Tryz.sizeOf9
 v9:=Tryz.zeroValue9 }
open Go.RowKit Go.Lib in
theorem Tryz.stringslite_IndexByte (s:ByteArray) (c:Int) (w:World) :
  Calls Tryz.prog 243 #[.string s,.int .u8 c] w fun e w'=>e = .returned (.int .i64 (Lib.indexByte s.data.toList c.toNat.toUInt8))∧w'=w:=Any.stringslite_IndexByte Tryz.lays217 s c w
def Tryz.lays224_ren:Go.Shelf.Ren:=⟨fun|224=>241|n=>n,fun|3=>3|n=>n,fun|n=>n⟩
theorem Tryz.lays224:Go.Proofs.Lays.n224 Tryz.prog Tryz.lays224_ren:={
 mixed:=by kernel_rfl
 f224:=Tryz.func241.trans (congrArg some (by kernel_rfl))
 t3:=Tryz.underlying3
 a3:=Tryz.isAgg3
 z3:=Tryz.sizeOf3
 v3:=Tryz.zeroValue3 }
open Go.RowKit Go.Lib in
theorem Tryz.bytealg_Cutover (n:Int) (h0:0≤n) (h1:n<4611686018427387904) (w:World) :
  Calls Tryz.prog 241 #[.int .i64 n] w fun e w'=>e = .returned (.int .i64 ((n+16) / 8))∧w'=w:=Any.bytealg_Cutover Tryz.lays224 n h0 h1 w
def Tryz.lays189_ren:Go.Shelf.Ren:=⟨fun|189=>119|125=>122|257=>145|128=>154|129=>155|294=>182|295=>183|296=>184|297=>185|298=>186|299=>187|216=>188|300=>189|301=>190|328=>219|329=>192|330=>193|331=>220|332=>221|215=>222|343=>234|n=>n,fun|28=>186|3=>3|46=>191|0=>0|51=>221|53=>172|4=>4|183=>214|182=>213|131=>218|5=>5|9=>9|218=>249|222=>252|228=>284|229=>285|n=>n,fun|n=>n⟩
theorem Tryz.lays189:Go.Proofs.Lays.n189 Tryz.prog Tryz.lays189_ren:={
 mixed:=by kernel_rfl
 f125:=Tryz.func122.trans (congrArg some (by kernel_rfl))
 f128:=Tryz.func154.trans (congrArg some (by kernel_rfl))
 f129:=Tryz.func155.trans (congrArg some (by kernel_rfl))
 f189:=Tryz.func119.trans (congrArg some (by kernel_rfl))
 f215:=Tryz.func222.trans (congrArg some (by kernel_rfl))
 f216:=Tryz.func188.trans (congrArg some (by kernel_rfl))
 f257:=Tryz.func145.trans (congrArg some (by kernel_rfl))
 f294:=Tryz.func182.trans (congrArg some (by kernel_rfl))
 f295:=Tryz.func183.trans (congrArg some (by kernel_rfl))
 f296:=Tryz.func184.trans (congrArg some (by kernel_rfl))
 f297:=Tryz.func185.trans (congrArg some (by kernel_rfl))
 f298:=Tryz.func186.trans (congrArg some (by kernel_rfl))
 f299:=Tryz.func187.trans (congrArg some (by kernel_rfl))
 f300:=Tryz.func189.trans (congrArg some (by kernel_rfl))
 f301:=Tryz.func190.trans (congrArg some (by kernel_rfl))
 f328:=Tryz.func219.trans (congrArg some (by kernel_rfl))
 f329:=Tryz.func192.trans (congrArg some (by kernel_rfl))
 f330:=Tryz.func193.trans (congrArg some (by kernel_rfl))
 f331:=Tryz.func220.trans (congrArg some (by kernel_rfl))
 f332:=Tryz.func221.trans (congrArg some (by kernel_rfl))
 f343:=Tryz.func234.trans (congrArg some (by kernel_rfl))
 t0:=Tryz.underlying0
 a0:=Tryz.isAgg0
 z0:=Tryz.sizeOf0
 v0:=Tryz.zeroValue0
 t3:=Tryz.underlying3
 a3:=Tryz.isAgg3
 z3:=Tryz.sizeOf3
 v3:=Tryz.zeroValue3
 t4:=Tryz.underlying4
 a4:=Tryz.isAgg4
 z4:=Tryz.sizeOf4
 v4:=Tryz.zeroValue4
 t5:=Tryz.underlying5
 a5:=Tryz.isAgg5
 z5:=Tryz.sizeOf5
 v5:=Tryz.zeroValue5
 t9:=Tryz.underlying9
 a9:=Tryz.isAgg9
 z9:=Tryz.sizeOf9
 v9:=Tryz.zeroValue9
 t28:=Tryz.underlying186
 a28:=Tryz.isAgg186
 z28:=Tryz.sizeOf186
 v28:=Tryz.zeroValue186
 t46:=Tryz.underlying191
 a46:=Tryz.isAgg191
 z46:=Tryz.sizeOf191
 v46:=Tryz.zeroValue191
 t51:=Tryz.underlying221
 a51:=Tryz.isAgg221
 z51:=Tryz.sizeOf221
 v51:=Tryz.zeroValue221
 t53:=Tryz.underlying172
 a53:=Tryz.isAgg172
 z53:=Tryz.sizeOf172
 v53:=Tryz.zeroValue172
 t131:=Tryz.underlying218
 a131:=Tryz.isAgg218
 z131:=Tryz.sizeOf218
 v131:=Tryz.zeroValue218
 t182:=Tryz.underlying213
 a182:=Tryz.isAgg213
 z182:=Tryz.sizeOf213
 v182:=Tryz.zeroValue213
 t183:=Tryz.underlying214
 a183:=Tryz.isAgg214
 z183:=Tryz.sizeOf214
 v183:=Tryz.zeroValue214
 t218:=Tryz.underlying249
 a218:=Tryz.isAgg249
 z218:=Tryz.sizeOf249
 v218:=Tryz.zeroValue249
 t222:=Tryz.underlying252
 a222:=Tryz.isAgg252
 z222:=Tryz.sizeOf252
 v222:=Tryz.zeroValue252
 t228:=Tryz.underlying284
 a228:=Tryz.isAgg284
 z228:=Tryz.sizeOf284
 v228:=Tryz.zeroValue284
 t229:=Tryz.underlying285
 a229:=Tryz.isAgg285
 z229:=Tryz.sizeOf285
 v229:=Tryz.zeroValue285 }
open Go.Sort Go.RowKit in
theorem Tryz.slices_Sort_int (blk off cap:Nat) (zs:List Int) (w:World) (hH:Holds (Value.int .i64) w blk off zs.toArray) (hblk:blk<w.heap.size) (hsz:zs.length<4611686018427387904) :
  Calls Tryz.prog 119 #[.slice (some ⟨blk,off,none⟩) zs.length cap] w fun e w' =>
   e = .returned (.tuple #[])∧∃n os,w'=grow (putRow (Value.int .i64) (Sort.ahead w n) blk off (zs.mergeSort fun x y=>decide (x≤y)).toArray) os:=Any.slices_Sort_int Tryz.lays189 blk off cap zs w hH hblk hsz
def Tryz.lays315_ren:Go.Shelf.Ren:=⟨fun|315=>230|n=>n,fun|9=>9|40=>231|4=>4|3=>3|0=>0|21=>21|n=>n,fun|n=>n⟩
theorem Tryz.lays315:Go.Proofs.Lays.n315 Tryz.prog Tryz.lays315_ren:={
 mixed:=by kernel_rfl
 f315:=Tryz.func230.trans (congrArg some (by kernel_rfl))
 t0:=Tryz.underlying0
 a0:=Tryz.isAgg0
 z0:=Tryz.sizeOf0
 v0:=Tryz.zeroValue0
 t3:=Tryz.underlying3
 a3:=Tryz.isAgg3
 z3:=Tryz.sizeOf3
 v3:=Tryz.zeroValue3
 t4:=Tryz.underlying4
 a4:=Tryz.isAgg4
 z4:=Tryz.sizeOf4
 v4:=Tryz.zeroValue4
 t9:=Tryz.underlying9
 a9:=Tryz.isAgg9
 z9:=Tryz.sizeOf9
 v9:=Tryz.zeroValue9
 t21:=Tryz.underlying21
 a21:=Tryz.isAgg21
 z21:=Tryz.sizeOf21
 v21:=Tryz.zeroValue21
 t40:=Tryz.underlying231
 a40:=Tryz.isAgg231
 z40:=Tryz.sizeOf231
 v40:=Tryz.zeroValue231 }
open Go.RowKit Go.Lib in
theorem Tryz.strings_indexFunc (g:Nat) (lb:Array Value) (eg:∀args w,(callFunc g args).run Tryz.prog w = .ok (.enter g args) w) (p:Nat→Bool) (truth:Bool) (s:ByteArray) (w:World) (hp:PredAt Tryz.prog g lb encR p w) :
  Calls Tryz.prog 230 #[.string s,.func (.func g) #[] lb,.bool truth] w fun e w'=>e = .returned (.int .i64 (Lib.idxFunc p truth s))∧Below w.heap.size w w':=Any.strings_indexFunc Tryz.lays315 g lb eg p truth s w hp
def Tryz.laysGw15_ren:Go.Shelf.Ren:=⟨fun|15=>210|20=>230|n=>n,fun|9=>9|23=>231|3=>3|4=>4|0=>0|21=>21|n=>n,fun|n=>n⟩
theorem Tryz.laysGw15:Go.Proofs.LaysGw.n15 Tryz.prog Tryz.laysGw15_ren:={
 mixed:=by kernel_rfl
 f15:=Tryz.func210.trans (congrArg some (by kernel_rfl))
 f20:=Tryz.func230.trans (congrArg some (by kernel_rfl))
 t0:=Tryz.underlying0
 a0:=Tryz.isAgg0
 z0:=Tryz.sizeOf0
 v0:=Tryz.zeroValue0
 i0:=by kernel_rfl
 t3:=Tryz.underlying3
 a3:=Tryz.isAgg3
 z3:=Tryz.sizeOf3
 v3:=Tryz.zeroValue3
 i3:=by kernel_rfl
 t4:=Tryz.underlying4
 a4:=Tryz.isAgg4
 z4:=Tryz.sizeOf4
 v4:=Tryz.zeroValue4
 i4:=by kernel_rfl
 t9:=Tryz.underlying9
 a9:=Tryz.isAgg9
 z9:=Tryz.sizeOf9
 v9:=Tryz.zeroValue9
 i9:=by kernel_rfl
 t21:=Tryz.underlying21
 a21:=Tryz.isAgg21
 z21:=Tryz.sizeOf21
 v21:=Tryz.zeroValue21
 i21:=by kernel_rfl
 t23:=Tryz.underlying231
 a23:=Tryz.isAgg231
 z23:=Tryz.sizeOf231
 v23:=Tryz.zeroValue231
 i23:=by kernel_rfl }
open Go.RowKit Go.Lib in
theorem Tryz.strings_IndexFunc (g:Nat) (lb:Array Value) (eg:∀args w,(callFunc g args).run Tryz.prog w = .ok (.enter g args) w) (p:Nat→Bool) (s:ByteArray) (w:World) (hp:PredAt Tryz.prog g lb encR p w) :
  Calls Tryz.prog 210 #[.string s,.func (.func g) #[] lb] w fun e w'=>e = .returned (.int .i64 (Lib.idxFunc p true s))∧Below w.heap.size w w':=Any.strings_IndexFunc Tryz.laysGw15 g lb eg p s w hp
def Tryz.laysGw17_ren:Go.Shelf.Ren:=⟨fun|17=>165|15=>210|20=>230|n=>n,fun|9=>9|23=>231|4=>4|3=>3|0=>0|21=>21|n=>n,fun|n=>n⟩
theorem Tryz.laysGw17:Go.Proofs.LaysGw.n17 Tryz.prog Tryz.laysGw17_ren:={
 mixed:=by kernel_rfl
 f15:=Tryz.func210.trans (congrArg some (by kernel_rfl))
 f17:=Tryz.func165.trans (congrArg some (by kernel_rfl))
 f20:=Tryz.func230.trans (congrArg some (by kernel_rfl))
 t0:=Tryz.underlying0
 a0:=Tryz.isAgg0
 z0:=Tryz.sizeOf0
 v0:=Tryz.zeroValue0
 i0:=by kernel_rfl
 t3:=Tryz.underlying3
 a3:=Tryz.isAgg3
 z3:=Tryz.sizeOf3
 v3:=Tryz.zeroValue3
 i3:=by kernel_rfl
 t4:=Tryz.underlying4
 a4:=Tryz.isAgg4
 z4:=Tryz.sizeOf4
 v4:=Tryz.zeroValue4
 i4:=by kernel_rfl
 t9:=Tryz.underlying9
 a9:=Tryz.isAgg9
 z9:=Tryz.sizeOf9
 v9:=Tryz.zeroValue9
 i9:=by kernel_rfl
 t21:=Tryz.underlying21
 a21:=Tryz.isAgg21
 z21:=Tryz.sizeOf21
 v21:=Tryz.zeroValue21
 i21:=by kernel_rfl
 t23:=Tryz.underlying231
 a23:=Tryz.isAgg231
 z23:=Tryz.sizeOf231
 v23:=Tryz.zeroValue231
 i23:=by kernel_rfl }
open Go.RowKit Go.Lib in
theorem Tryz.strings_ContainsFunc (g:Nat) (lb:Array Value) (eg:∀args w,(callFunc g args).run Tryz.prog w = .ok (.enter g args) w) (p:Nat→Bool) (s:ByteArray) (w:World) (hp:PredAt Tryz.prog g lb encR p w) :
  Calls Tryz.prog 165 #[.string s,.func (.func g) #[] lb] w fun e w'=>e = .returned (.bool (decide (0≤Lib.idxFunc p true s)))∧Below w.heap.size w w':=Any.strings_ContainsFunc Tryz.laysGw17 g lb eg p s w hp
def Tryz.lays152_ren:Go.Shelf.Ren:=⟨fun|152=>236|137=>239|119=>240|224=>241|225=>242|217=>243|266=>244|n=>n,fun|9=>9|21=>21|3=>3|4=>4|5=>5|0=>0|46=>191|n=>n,fun|n=>n⟩
theorem Tryz.lays152:Go.Proofs.Lays.n152 Tryz.prog Tryz.lays152_ren:={
 mixed:=by kernel_rfl
 f119:=Tryz.func240.trans (congrArg some (by kernel_rfl))
 f137:=Tryz.func239.trans (congrArg some (by kernel_rfl))
 f152:=Tryz.func236.trans (congrArg some (by kernel_rfl))
 f217:=Tryz.func243.trans (congrArg some (by kernel_rfl))
 f224:=Tryz.func241.trans (congrArg some (by kernel_rfl))
 f225:=Tryz.func242.trans (congrArg some (by kernel_rfl))
 f266:=Tryz.func244.trans (congrArg some (by kernel_rfl))
 t0:=Tryz.underlying0
 a0:=Tryz.isAgg0
 z0:=Tryz.sizeOf0
 v0:=Tryz.zeroValue0
 t3:=Tryz.underlying3
 a3:=Tryz.isAgg3
 z3:=Tryz.sizeOf3
 v3:=Tryz.zeroValue3
 t4:=Tryz.underlying4
 a4:=Tryz.isAgg4
 z4:=Tryz.sizeOf4
 v4:=Tryz.zeroValue4
 t5:=Tryz.underlying5
 a5:=Tryz.isAgg5
 z5:=Tryz.sizeOf5
 v5:=Tryz.zeroValue5
 t9:=Tryz.underlying9
 a9:=Tryz.isAgg9
 z9:=Tryz.sizeOf9
 v9:=Tryz.zeroValue9
 t21:=Tryz.underlying21
 a21:=Tryz.isAgg21
 z21:=Tryz.sizeOf21
 v21:=Tryz.zeroValue21
 t46:=Tryz.underlying191
 a46:=Tryz.isAgg191
 z46:=Tryz.sizeOf191
 v46:=Tryz.zeroValue191 }
open Go.RowKit Go.Lib in
theorem Tryz.strings_IndexRune_ascii (s:ByteArray) (r:Int) (w:World) (h0:0≤r) (h1:r<128) :
  Calls Tryz.prog 236 #[.string s,.int .i32 r] w fun e w'=>e = .returned (.int .i64 (Lib.indexByte s.data.toList r.toNat.toUInt8))∧w'=w:=Any.strings_IndexRune_ascii Tryz.lays152 s r w h0 h1
def Tryz.lays151_ren:Go.Shelf.Ren:=⟨fun|151=>227|152=>236|137=>239|119=>240|224=>241|225=>242|217=>243|266=>244|n=>n,fun|9=>9|21=>21|4=>4|3=>3|5=>5|0=>0|46=>191|n=>n,fun|n=>n⟩
theorem Tryz.lays151:Go.Proofs.Lays.n151 Tryz.prog Tryz.lays151_ren:={
 mixed:=by kernel_rfl
 f119:=Tryz.func240.trans (congrArg some (by kernel_rfl))
 f137:=Tryz.func239.trans (congrArg some (by kernel_rfl))
 f151:=Tryz.func227.trans (congrArg some (by kernel_rfl))
 f152:=Tryz.func236.trans (congrArg some (by kernel_rfl))
 f217:=Tryz.func243.trans (congrArg some (by kernel_rfl))
 f224:=Tryz.func241.trans (congrArg some (by kernel_rfl))
 f225:=Tryz.func242.trans (congrArg some (by kernel_rfl))
 f266:=Tryz.func244.trans (congrArg some (by kernel_rfl))
 t0:=Tryz.underlying0
 a0:=Tryz.isAgg0
 z0:=Tryz.sizeOf0
 v0:=Tryz.zeroValue0
 t3:=Tryz.underlying3
 a3:=Tryz.isAgg3
 z3:=Tryz.sizeOf3
 v3:=Tryz.zeroValue3
 t4:=Tryz.underlying4
 a4:=Tryz.isAgg4
 z4:=Tryz.sizeOf4
 v4:=Tryz.zeroValue4
 t5:=Tryz.underlying5
 a5:=Tryz.isAgg5
 z5:=Tryz.sizeOf5
 v5:=Tryz.zeroValue5
 t9:=Tryz.underlying9
 a9:=Tryz.isAgg9
 z9:=Tryz.sizeOf9
 v9:=Tryz.zeroValue9
 t21:=Tryz.underlying21
 a21:=Tryz.isAgg21
 z21:=Tryz.sizeOf21
 v21:=Tryz.zeroValue21
 t46:=Tryz.underlying191
 a46:=Tryz.isAgg191
 z46:=Tryz.sizeOf191
 v46:=Tryz.zeroValue191 }
open Go.RowKit Go.Lib in
theorem Tryz.strings_ContainsRune_ascii (s:ByteArray) (r:Int) (w:World) (h0:0≤r) (h1:r<128) :
  Calls Tryz.prog 227 #[.string s,.int .i32 r] w fun e w'=>e = .returned (.bool (decide (0≤Lib.indexByte s.data.toList r.toNat.toUInt8)))∧w'=w:=Any.strings_ContainsRune_ascii Tryz.lays151 s r w h0 h1
def Tryz.lays227_ren:Go.Shelf.Ren:=⟨fun|227=>204|n=>n,fun|9=>9|116=>261|4=>4|0=>0|3=>3|5=>5|n=>n,fun|n=>n⟩
theorem Tryz.lays227:Go.Proofs.Lays.n227 Tryz.prog Tryz.lays227_ren:={
 mixed:=by kernel_rfl
 f227:=Tryz.func204.trans (congrArg some (by kernel_rfl))
 t0:=Tryz.underlying0
 a0:=Tryz.isAgg0
 z0:=Tryz.sizeOf0
 v0:=Tryz.zeroValue0
 t3:=Tryz.underlying3
 a3:=Tryz.isAgg3
 z3:=Tryz.sizeOf3
 v3:=Tryz.zeroValue3
 t4:=Tryz.underlying4
 a4:=Tryz.isAgg4
 z4:=Tryz.sizeOf4
 v4:=Tryz.zeroValue4
 t5:=Tryz.underlying5
 a5:=Tryz.isAgg5
 z5:=Tryz.sizeOf5
 v5:=Tryz.zeroValue5
 t9:=Tryz.underlying9
 a9:=Tryz.isAgg9
 z9:=Tryz.sizeOf9
 v9:=Tryz.zeroValue9
 t116:=Tryz.underlying261
 a116:=Tryz.isAgg261
 z116:=Tryz.sizeOf261 }
open Go.RowKit Go.Lib in
theorem Tryz.strings_makeASCIISet (hv116:∀w,(zeroValue 261).run Tryz.prog w = .ok (.agg (Array.replicate 256 (.bool false))) w) (chars:ByteArray) (w:World) (hs:chars.size<4294967281) (hascii:∀(j:Nat) b,chars.data.toList[j]?=some b→b.toNat<128) :
  Calls Tryz.prog 204 #[.string chars] w fun e w'=>e = .returned (.tuple #[.agg (Lib.setCells chars.data.toList),.bool true])∧w'=w.alloc (.cells (Lib.setCells chars.data.toList) 261):=Any.strings_makeASCIISet Tryz.lays227 hv116 (by kernel_rfl) chars w hs hascii
def Tryz.lays228_ren:Go.Shelf.Ren:=⟨fun|228=>225|n=>n,fun|124=>265|5=>5|4=>4|0=>0|116=>261|n=>n,fun|n=>n⟩
theorem Tryz.lays228:Go.Proofs.Lays.n228 Tryz.prog Tryz.lays228_ren:={
 mixed:=by kernel_rfl
 f228:=Tryz.func225.trans (congrArg some (by kernel_rfl))
 t0:=Tryz.underlying0
 a0:=Tryz.isAgg0
 z0:=Tryz.sizeOf0
 v0:=Tryz.zeroValue0
 t4:=Tryz.underlying4
 a4:=Tryz.isAgg4
 z4:=Tryz.sizeOf4
 v4:=Tryz.zeroValue4
 t5:=Tryz.underlying5
 a5:=Tryz.isAgg5
 z5:=Tryz.sizeOf5
 v5:=Tryz.zeroValue5
 t116:=Tryz.underlying261
 a116:=Tryz.isAgg261
 z116:=Tryz.sizeOf261
 t124:=Tryz.underlying265
 a124:=Tryz.isAgg265
 z124:=Tryz.sizeOf265
 v124:=Tryz.zeroValue265 }
open Go.RowKit Go.Lib in
theorem Tryz.asciiSet_contains (b:Nat) (x:UInt8) (v:Bool) (w:World) (hc:w.cell? ⟨b,x.toNat,none⟩=some (.bool v)) :
  Calls Tryz.prog 225 #[.pointer (some ⟨b,0,none⟩),.int .u8 x.toNat] w fun e w'=>e = .returned (.bool v)∧w'=w:=Any.asciiSet_contains Tryz.lays228 b x v w hc
def Tryz.lays260_ren:Go.Shelf.Ren:=⟨fun|260=>235|n=>n,fun|9=>9|21=>21|3=>3|4=>4|5=>5|119=>301|0=>0|46=>191|139=>304|138=>303|n=>n,fun|3=>1|4=>2|n=>n⟩
theorem Tryz.lays260:Go.Proofs.Lays.n260 Tryz.prog Tryz.lays260_ren:={
 mixed:=by kernel_rfl
 f260:=Tryz.func235.trans (congrArg some (by kernel_rfl))
 t0:=Tryz.underlying0
 a0:=Tryz.isAgg0
 z0:=Tryz.sizeOf0
 v0:=Tryz.zeroValue0
 t3:=Tryz.underlying3
 a3:=Tryz.isAgg3
 z3:=Tryz.sizeOf3
 v3:=Tryz.zeroValue3
 t4:=Tryz.underlying4
 a4:=Tryz.isAgg4
 z4:=Tryz.sizeOf4
 v4:=Tryz.zeroValue4
 t5:=Tryz.underlying5
 a5:=Tryz.isAgg5
 z5:=Tryz.sizeOf5
 v5:=Tryz.zeroValue5
 t9:=Tryz.underlying9
 a9:=Tryz.isAgg9
 z9:=Tryz.sizeOf9
 v9:=Tryz.zeroValue9
 t21:=Tryz.underlying21
 a21:=Tryz.isAgg21
 z21:=Tryz.sizeOf21
 v21:=Tryz.zeroValue21
 t46:=Tryz.underlying191
 a46:=Tryz.isAgg191
 z46:=Tryz.sizeOf191
 v46:=Tryz.zeroValue191
 t119:=Tryz.underlying301
 a119:=Tryz.isAgg301
 z119:=Tryz.sizeOf301
 t138:=Tryz.underlying303
 a138:=Tryz.isAgg303
 z138:=Tryz.sizeOf303
 v138:=Tryz.zeroValue303
 t139:=Tryz.underlying304
 a139:=Tryz.isAgg304
 z139:=Tryz.sizeOf304
 v139:=Tryz.zeroValue304
 g3:=by kernel_rfl
 g4:=by kernel_rfl }
open Go.RowKit Go.Lib in
theorem Tryz.utf8_decodeRuneInStringSlow (s:ByteArray) (w:World) (hT:Lib.Utf8Tabs 1 2 w) :
  Calls Tryz.prog 235 #[.string s] w fun e w'=>e = .returned (.tuple #[.int .i32 (Lib.decodeGo s).1,.int .i64 (Lib.decodeGo s).2])∧Below w.heap.size w w':=Any.utf8_decodeRuneInStringSlow Tryz.lays260 s w hT
def Tryz.laysNm220_ren:Go.Shelf.Ren:=⟨fun|20=>120|n=>n,fun|22=>186|3=>3|4=>4|0=>0|n=>n,fun|n=>n⟩
theorem Tryz.laysNm220:Go.Proofs.Lays2.n20 Tryz.prog Tryz.laysNm220_ren:={
 mixed:=by kernel_rfl
 f20:=Tryz.func120.trans (congrArg some (by kernel_rfl))
 t0:=Tryz.underlying0
 a0:=Tryz.isAgg0
 z0:=Tryz.sizeOf0
 v0:=Tryz.zeroValue0
 t3:=Tryz.underlying3
 a3:=Tryz.isAgg3
 z3:=Tryz.sizeOf3
 v3:=Tryz.zeroValue3
 t4:=Tryz.underlying4
 a4:=Tryz.isAgg4
 z4:=Tryz.sizeOf4
 v4:=Tryz.zeroValue4
 t22:=Tryz.underlying186
 a22:=Tryz.isAgg186
 z22:=Tryz.sizeOf186
 v22:=Tryz.zeroValue186
 i3:=by kernel_rfl }
open Go.RowKit Go.Lib Go.Sort in
theorem Tryz.slices_Compact_int_arr (blk off cap:Nat) (d:Array Int) (w:World) (hH:Holds encI w blk off d) (hsz:d.size≤9223372036854775807) (hcap:d.size≤cap) :
  Calls Tryz.prog 120 #[.slice (some ⟨blk,off,none⟩) d.size cap] w fun e w'=>e = .returned (.slice (some ⟨blk,off,none⟩) (compactUpTo d d.size).length cap)∧∃q,w'=putRow encI (Sort.ahead w q) blk off (compactUpTo d d.size++List.replicate (d.size-(compactUpTo d d.size).length) 0).toArray:=Any.slices_Compact_int_arr Tryz.laysNm220 blk off cap d w hH hsz hcap
open Go.RowKit Go.Lib Go.Sort in
theorem Tryz.slices_Compact_int (blk off cap:Nat) (zs:List Int) (w:World) (hH:Holds (Value.int .i64) w blk off zs.toArray) (hsz:zs.length≤9223372036854775807) (hcap:zs.length≤cap) :
  Calls Tryz.prog 120 #[.slice (some ⟨blk,off,none⟩) zs.length cap] w fun e w'=>e = .returned (.slice (some ⟨blk,off,none⟩) (Lib.compact zs).length cap)∧∃q,w'=putRow (Value.int .i64) (Sort.ahead w q) blk off (Lib.compact zs++List.replicate (zs.length-(Lib.compact zs).length) 0).toArray:=Any.slices_Compact_int Tryz.laysNm220 blk off cap zs w hH hsz hcap
open Go.RowKit Go.Lib Go.Sort in
theorem Tryz.slices_Compact_int_empty (a:Option Addr) (cap:Nat) (w:World) :
  Calls Tryz.prog 120 #[.slice a 0 cap] w fun e w'=>e = .returned (.slice a 0 cap)∧w'=w:=Any.slices_Compact_int_empty Tryz.laysNm220 a cap w
def Tryz.laysNm237_ren:Go.Shelf.Ren:=⟨fun|37=>222|n=>n,fun|3=>3|4=>4|n=>n,fun|n=>n⟩
theorem Tryz.laysNm237:Go.Proofs.Lays2.n37 Tryz.prog Tryz.laysNm237_ren:={
 mixed:=by kernel_rfl
 f37:=Tryz.func222.trans (congrArg some (by kernel_rfl))
 t3:=Tryz.underlying3
 a3:=Tryz.isAgg3
 z3:=Tryz.sizeOf3
 v3:=Tryz.zeroValue3
 t4:=Tryz.underlying4
 a4:=Tryz.isAgg4
 z4:=Tryz.sizeOf4
 v4:=Tryz.zeroValue4 }
open Go.RowKit Go.Lib in
theorem Tryz.cmp_isNaN_int2 (x:Int) (w:World) :
  Calls Tryz.prog 222 #[.int .i64 x] w fun e w'=>e = .returned (.bool false)∧w'=w:=Any.cmp_isNaN_int2 Tryz.laysNm237 x w
def Tryz.laysNm231_ren:Go.Shelf.Ren:=⟨fun|31=>188|37=>222|n=>n,fun|3=>3|4=>4|n=>n,fun|n=>n⟩
theorem Tryz.laysNm231:Go.Proofs.Lays2.n31 Tryz.prog Tryz.laysNm231_ren:={
 mixed:=by kernel_rfl
 f31:=Tryz.func188.trans (congrArg some (by kernel_rfl))
 f37:=Tryz.func222.trans (congrArg some (by kernel_rfl))
 t3:=Tryz.underlying3
 a3:=Tryz.isAgg3
 z3:=Tryz.sizeOf3
 v3:=Tryz.zeroValue3
 t4:=Tryz.underlying4
 a4:=Tryz.isAgg4
 z4:=Tryz.sizeOf4
 v4:=Tryz.zeroValue4 }
open Go.RowKit Go.Lib in
theorem Tryz.cmp_Less_int2 (x y:Int) (w:World) :
  Calls Tryz.prog 188 #[.int .i64 x,.int .i64 y] w fun e w'=>e = .returned (.bool (decide (x<y)))∧w'=w:=Any.cmp_Less_int2 Tryz.laysNm231 x y w
open Go.RowKit Go.Lib Go.Sort in
theorem Tryz.slices_Compact_int_cells (b off n c:Nat) (zs:List Int) (w:World) (hz:n≤zs.length) (hbig:n≤9223372036854775807) (hcap:n≤c) (hc:∀j,j<zs.length→w.cell? ⟨b,off+j,none⟩=some (.int .i64 (zs.getD j 0))) (hf:∀j,j<n→w.frozen? ⟨b,off+j,none⟩=false) :
  Calls Tryz.prog 120 #[.slice (some ⟨b,off,none⟩) n c] w fun e w'=>e = .returned (.slice (some ⟨b,off,none⟩) (Lib.compact (zs.take n)).length c)∧∃q,w'=(w.drewN q).setCells b off ((Lib.compact (zs.take n)++List.replicate (n-(Lib.compact (zs.take n)).length) 0).map (Value.int .i64)):=Any.slices_Compact_int_cells Tryz.laysNm220 b off n c zs w hz hbig hcap hc hf
open Go.RowKit Go.Sort in
theorem Tryz.slices_Sort_int_none (p:Option Addr) (cap:Nat) (w:World) :
  Calls Tryz.prog 119 #[.slice p 0 cap] w fun e w'=>e = .returned (.tuple #[])∧w'=w:=Any.slices_Sort_int_none Tryz.lays189 p cap w
end
end Go.Proofs
namespace Go.Proofs.YtodpfeaihohpjaaGreatDoor.Cop
section
open Go.RowKit Go.Shelf
def namedB (s:ByteArray):Bool:=wthn s.size 1 16&&!decide (0≤Lib.idxFunc (fun r:Nat=>oddB r) true s)
theorem znW (w:X):PredAt Tryz.prog 164 #[] encR (fun r:Nat=>oddB r) w:=fun W r _=>by
 unfold FnGives;rw [show #[encR r]++(#[]:Array J)=#[Y .i32 r]from rfl];exact(zm8 W r).mono fun e c ⟨a,b⟩=>⟨a,0,b⟩
theorem zi6 (w:X) (s:ByteArray):Calls Tryz.prog 165 #[.string s,.func (.func 164) #[] #[]] w fun e a=>e = .returned (.bool (decide (0≤Lib.idxFunc (fun r:Nat=>oddB r) true s)))∧Ext w a:=
 Tryz.strings_ContainsFunc 164 #[] (enters_of Tryz.func164 kM rfl) _ s w (znW w)
theorem zjX (w:X) (s:ByteArray):Calls Tryz.prog 135 #[.string s] w fun e i=>e = .returned (.bool (namedB s))∧Ext w i:=by
 obtain⟨I,d⟩:=gX (decide (0≤Lib.idxFunc (fun r:Nat=>oddB r) true s));have a:=fun W=>zi6 W s
 unfold namedB;rw [d]at a ⊢;have f:=hd9 a;clear a d
 by_cases h:wthn s.size 1 16=true
 ·rw [h]
  go_enter Tryz.func135,Tryz.ntmps135
  go_wp2_with(first|((go_at_call 134;(with_reducible refine(zak _ s.size 1 16).mono ?_);rw [h];rintro e j ⟨rfl,b⟩))|((go_at_call 165;(with_reducible refine(f.out _).mono ?_);rintro e k ⟨rfl,g⟩)))
  go_ret;exact⟨by simp,eA⟩
 ·have c:wthn s.size 1 16=false:=by simpa using h
  rw [c];go_enter Tryz.func135,Tryz.ntmps135
  go_wp2_with(first|((go_at_call 134;(with_reducible refine(zak _ s.size 1 16).mono ?_);rw [c];rintro e j ⟨rfl,b⟩)))
  go_ret;exact⟨by simp,eA⟩
theorem zfI (w:X) (s:ByteArray) (v:J) (ps:List (Int×Int)) (d a b c:Int) (h:IsPts w v ps) :
  Calls Tryz.prog 98 #[.agg #[.string s,v,Y O d,Y O a,Y O b,Y O c]] w fun e f=>e = .returned (Y O (if stoneB (namedB s) ps d a b c then 0 else 2))∧Ext w f:=
 zh1 w s v ps d a b c (namedB s) h (fun W=>zjX W s)
end
end Go.Proofs.YtodpfeaihohpjaaGreatDoor.Cop
