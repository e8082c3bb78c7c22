/- Part 12. -/
import Derived.Test.YtjnjpagegkcgfaaGreatDoorCosA09
import Derived.Test.YtjnjpagegkcgfaaGreatDoorCosA07
import Derived.Lib.AppendZerosOnto
import Derived.Deep.CutBlock
import Derived.Deep.DeepCutAuto
import Derived.Test.YtjnjpagegkcgfaaGreatDoorCosA01
import Derived.Test.YtjnjpagegkcgfaaGreatDoorCosA08
set_option maxRecDepth 1000000
set_option maxHeartbeats 16000000
set_option linter.unusedSimpArgs false
set_option linter.unusedVariables false
open Go.Value renaming int->O,slice->Z,agg->C
open Go.IntKind renaming i64->Y
open Go renaming World->X,Value->V
open Option renaming some->J,none->M
open Go.Obj renaming cells->N
namespace Go.Proofs.YtjnjpagegkcgfaaGreatDoor.Cop
section
open Go.RowKit Go.Shelf
def lineL(ps:LP):Int:=(ps.getD 0 (0,0)).1
def lineR(ps:LP):Int:=(ps.getD (ps.length-1) (0,0)).1
theorem zbo(w:X)(v:V)(ps:LP)(h:IsPts w v ps)(j:0<ps.length) :
  Calls Tryz.prog 86 #[v] w fun e i=>e = .returned (O Y (lineL ps))/\Ext w i:=by
 obtain⟨a,c,rfl⟩:=h.form;obtain⟨⟨x,z⟩,d⟩:∃p,ps[0]?=J p:=⟨ps[0],by simp⟩;obtain⟨b,o,rfl,k,f,g⟩:=h.at' d;simp only[Nat.zero_mul,Nat.add_zero]at f g;have e:lineL ps=x:=by unfold lineL;rw[gD,d];rfl
 rw[e];clear e d h
 generalize ps.length=n at *
 go_enter Tryz.func86,Tryz.ntmps86;go_wp2;go_ret;exact⟨rfl,eR _⟩
theorem zbi(w:X)(v:V)(ps:LP)(h:IsPts w v ps)(i:0<ps.length) :
  Calls Tryz.prog 87 #[v] w fun e j=>e = .returned (O Y (lineR ps))/\Ext w j:=by
 obtain⟨a,c,rfl⟩:=h.form;obtain⟨n,f⟩:∃n,ps.length=n+1:=⟨ps.length-1,by omega⟩;rw[f]at h ⊢;have d:=h.le;rw[f]at d;unfold maxLen at d;obtain⟨⟨x,z⟩,g⟩:∃p,ps[n]?=J p:=⟨ps[n],by simp⟩;obtain⟨b,o,rfl,m,k,l⟩:=h.at' g;have e:lineR ps=x:=by unfold lineR;rw[f,Nat.add_sub_cancel,gD,g];rfl
 rw[e];have q:((n+1:Nat):Int)-1=(n:Int):=oM
 have r:(n:Int)<((n+1:Nat):Int):=oM
 have s:n<=9223372036854775806:=oM
 clear e g h f d i;go_enter Tryz.func87,Tryz.ntmps87;go_wp2;go_ret;exact⟨rfl,eR _⟩
def PcS(w:X)(G:Nat)(g:Nat)(t0 c:V)(W:X):Prop:=∃a b:Nat,t0=O Y a/\c=O Y b/\a<=9223372036854775807/\b<=9223372036854775807/\Nat.gcd a b=G/\g=b/\Ext w W
theorem zgu(w:X)(a b:Nat)(k:a<=9223372036854775807)(l:b<=9223372036854775807) :
  Calls Tryz.prog 149 #[O Y a,O Y b] w fun e p=>e = .returned (O Y (Nat.gcd a b:Nat))/\Ext w p:=by
 obtain⟨G,d⟩:=gX (Nat.gcd a b);rw[d];have f:=hd9 d;clear d;go_enter Tryz.func149,Tryz.ntmps149;go_wp2
 go_loopg [0,1] b (PcS w G)
 case atStart=>exact⟨a,b,rfl,rfl,k,l,f.out,rfl,eR _⟩
 case round =>
  clear k l f;obtain⟨x,y,rfl,rfl,t,o,m,rfl,c⟩:=hrel;have g:=hd9 m;clear m
  by_cases i:gk=0
  ·subst i
   go_wp2;go_ret;exact⟨zbh (zbn (by rw[<-g.out];simp)),c⟩
  ·have q:((gk:Int)==0)=false:=by simp;omega
   have r:((gk:Int) != 0)=true:=by simp;omega
   have s:(1:Int)<=(gk:Int):=oM
   have j:0<gk:=oM
   clear i;go_wp2
   go_quiet (fail)
   go_wp2
   go_roundg (x % gk)
   case measure=>exact Nat.mod_lt x j
   case rel =>
    have n:=Nat.mod_lt x j;exact⟨gk,x % gk,rfl,zbn sM,o,by omega,by rw[<-g.out,Nat.gcd_comm x gk,Nat.gcd_rec gk x,Nat.gcd_comm],rfl,c.drewN _⟩
structure Pl where
 name:ByteArray
 shape:LP
 depth:Int
 density:Int
 gx:Int
 gz:Int
 way:Int
 ax:Int
 az:Int
 skin:Int
def plc(p:Pl)(sl:V):Array V:=#[.string p.name,sl,O Y p.depth,O Y p.density,O Y p.gx,O Y p.gz,O Y p.way,O Y p.ax,O Y p.az,O .u8 p.skin]
def meetB(p q:Pl):Bool:=p.skin==q.skin || p.skin==3 || q.skin==3
theorem zbY(w:X)(p q:Pl)(s t:V)(v:∃a n c,s=Z a n c)(x:∃a n c,t=Z a n c) :
  Calls Tryz.prog 54 #[C (plc p s),C (plc q t)] w fun e D=>e = .returned (.bool (meetB p q))/\Ext w D:=by
 obtain⟨a,n,c,rfl⟩:=v;obtain⟨L,n',R,rfl⟩:=x;obtain⟨nm,sh,d,W,gx,gz,wy,P,Q,f⟩:=p;obtain⟨y,z,T,o,r,u,K,l,m,b⟩:=q;unfold meetB plc;dsimp only
 by_cases g:f=b
 ·have j:(f==b)=true:=by simpa using g
  rw[j];clear g;go_enter Tryz.func54,Tryz.ntmps54;go_wp2;go_ret;exact⟨rfl,eA⟩
 have j:(f==b)=false:=by simpa using g
 rw[j];clear g
 by_cases i:f=3
 ·have k:(f==3)=true:=by simpa using i
  rw[k];clear i;go_enter Tryz.func54,Tryz.ntmps54;go_wp2;go_ret;exact⟨rfl,eA⟩
 have k:(f==3)=false:=by simpa using i
 rw[k];clear i;go_enter Tryz.func54,Tryz.ntmps54;go_wp2;go_ret;exact⟨rfl,eA⟩
def RetC(T:TypeId)(k:Nat)(w:X)(cs:List (List V))(e:Ending)(w':X):Prop:=∃v,e = .returned v/\OwnC T k w' w.heap.size v cs/\Ext w w'
theorem zjd(w:X)(n:Nat)(p:n<=1000000000):Calls Tryz.prog 270 #[Z M 0 0,O Y n] w (RetC 43 2 w []):=by
 by_cases j:n=0
 ·subst j
  go_enter Tryz.func270,Tryz.ntmps270;go_wp2;go_ret;exact⟨_,rfl,OwnC.nil _ _ _ _,eR _⟩
 ·have m:(1:Int)<=(n:Int):=oM
  obtain⟨i,g,d,e,c⟩:=info_parts zbE;have a:(Builtin.firstCells i.size 0 (Z M 0 0)).run Tryz.prog w.drew = .ok ([]:List V).toArray w.drew:=run_firstCells_none w.drew i.size 0 0 0
  have l:∀ty,(Builtin.append_ #[38,3] ty #[Z M 0 0,O Y (n:Int)]).run Tryz.prog w = .ok (Z (J ⟨w.heap.size,0,M⟩) n (grownCap w n 0 43)) (w.drew.alloc (N (([]:List V).toArray++Builtin.zeroCells (Value.cells (C #[O Y 0,O Y 0])) n++Builtin.zeroCells (Value.cells (C #[O Y 0,O Y 0])) (grownCap w n 0 43-n)) 43)):=fun ty=>by
   have h:=Lib.run_append_grow_zeros w 38 3 ty 43 i (C #[O Y 0,O Y 0]) Y Y Tryz.underlying38 Tryz.underlying3 g d M 0 0 [] a n oM (by rw[e];omega) oM oM (by rw[c];omega)
    (growslice_fits oM (by rw[c];omega))
   simpa using h
  have o:=grownCap_ge w n 0 43;have b:=grownCap_le_maxLen w n 0 43 (by unfold maxLen;omega)
  generalize grownCap w n 0 43=G at *
  have k:G<=9223372036854775807:=by unfold maxLen at b;omega
  have f:=hd9 b;clear a g d e c b;go_enter Tryz.func270,Tryz.ntmps270
  go_wp2_with(at_builtin;refine Lib.wpList_append_run _ rfl _ _ _ _ rfl _ _ rfl rfl _ _ (l _) ?_)
  go_ret;refine⟨_,rfl,⟨by simp,rfl,.inr ⟨w.heap.size,G,_,rfl,nE _,aN w.drew _,by simp,f.out,?_,by simp⟩⟩,eA⟩;simp[Builtin.zeroCells,Value.cells];omega
theorem zjc(w:X)(n:Nat)(p:n<=1000000000):Calls Tryz.prog 171 #[Z M 0 0,O Y n] w (RetC 43 2 w []):=by
 by_cases j:n=0
 ·subst j
  go_enter Tryz.func171,Tryz.ntmps171;go_wp2;go_ret;exact⟨_,rfl,OwnC.nil _ _ _ _,eR _⟩
 ·have m:(1:Int)<=(n:Int):=oM
  obtain⟨i,g,d,e,c⟩:=info_parts zbE;have a:(Builtin.firstCells i.size 0 (Z M 0 0)).run Tryz.prog w.drew = .ok ([]:List V).toArray w.drew:=run_firstCells_none w.drew i.size 0 0 0
  have l:∀ty,(Builtin.append_ #[121,3] ty #[Z M 0 0,O Y (n:Int)]).run Tryz.prog w = .ok (Z (J ⟨w.heap.size,0,M⟩) n (grownCap w n 0 43)) (w.drew.alloc (N (([]:List V).toArray++Builtin.zeroCells (Value.cells (C #[O Y 0,O Y 0])) n++Builtin.zeroCells (Value.cells (C #[O Y 0,O Y 0])) (grownCap w n 0 43-n)) 43)):=fun ty=>by
   have h:=Lib.run_append_grow_zeros w 121 3 ty 43 i (C #[O Y 0,O Y 0]) Y Y Tryz.underlying121 Tryz.underlying3 g d M 0 0 [] a n oM (by rw[e];omega) oM oM (by rw[c];omega)
    (growslice_fits oM (by rw[c];omega))
   simpa using h
  have o:=grownCap_ge w n 0 43;have b:=grownCap_le_maxLen w n 0 43 (by unfold maxLen;omega)
  generalize grownCap w n 0 43=G at *
  have k:G<=9223372036854775807:=by unfold maxLen at b;omega
  have f:=hd9 b;clear a g d e c b;go_enter Tryz.func171,Tryz.ntmps171
  go_wp2_with(at_builtin;refine Lib.wpList_append_run _ rfl _ _ _ _ rfl _ _ rfl rfl _ _ (l _) ?_)
  go_ret;refine⟨_,rfl,⟨by simp,rfl,.inr ⟨w.heap.size,G,_,rfl,nE _,aN w.drew _,by simp,f.out,?_,by simp⟩⟩,eA⟩;simp[Builtin.zeroCells,Value.cells];omega
def PSl(T:TypeId)(w:X)(c:List V)(ps:LP):Prop:=∃v,c=[v]/\IsPts w v ps
def tot(a:List LP):Nat:=a.flatten.length
theorem za8{a:List LP}{i:Nat}{ps:LP}(h:a[i]?=J ps):tot (a.take (i+1))=tot (a.take i)+ps.length:=by
 unfold tot;rw[zab _ _ _ h,List.flatten_append,lA];simp
theorem zaI(a:List LP)(i:Nat):tot (a.take i)<=tot a:=by
 unfold tot
 conv=>rhs;rw[<-List.take_append_drop i a,List.flatten_append,lA]
 omega
def CcS(w:X)(a:List LP)(g:Nat)(t3 b:V)(W:X):Prop:=
 ∃i:Nat,i<=a.length/\b=O Y i/\t3=O Y (tot (a.take i))/\g=a.length-i/\Ext w W
def CdS(w:X)(base:Nat)(a:List LP)(g:Nat)(c b:V)(W:X):Prop:=
 ∃i:Nat,i<=a.length/\b=O Y i/\OwnC 43 2 W base c ((a.take i).flatten.map pc)/\g=a.length-i/\Ext w W/\base<=W.heap.size
theorem zmv{T:TypeId}{w:X}{v:V}{ps:LP}(h:Sl T 2 PP w v ps):Rd w T 2 v (ps.map pc).length (ps.map pc).flatten:=by
 obtain⟨a,g,j,d,f⟩:=h
 have e:a=ps.map pc:=by
  apply List.ext_getElem?
  intro i;rw[lP]
  by_cases k:i<ps.length
  ·have b:a[i]?=J (a[i]' oM):=gE _
   have c:ps[i]?=J (ps[i]):=gE _;have:=f i _ _ b c;rw[b,c];exact congrArg J this
  ·rw[List.getElem?_eq_none oM,List.getElem?_eq_none oM];rfl
 subst e;rw[lL];exact d
theorem ziI(w:X)(v:V)(f:List LP)(h:Sl 38 1 (PSl 38) w v f)(ht:tot f<=1000000000) :
  Calls Tryz.prog 239 #[v] w (RetC 43 2 w (f.flatten.map pc)):=by
 obtain⟨a,c,rfl⟩:=h.form;obtain⟨n,hn⟩:=gX f.length;rw[hn]at h ⊢;have ac:=h.le;unfold maxLen at ac;have aq:n<=9223372036854775807:=oM
 have r:=hd9 hn;have Ht:=hd9 ht;clear hn ac ht;have hP:∀{W:X},Ext w W->Sl 38 1 (PSl 38) W (Z a n c) f:=fun R=>h.ext (fun _ _ ⟨v,h1,h2⟩=>⟨v,h1,h2.ext' R⟩) R
 go_enter Tryz.func239,Tryz.ntmps239;go_wp2
 go_loopg [3,11] n (CcS w f)
 case atStart=>exact⟨0,by omega,rfl,rfl,by rw[r.out];rfl,eR _⟩
 case round =>
  obtain⟨i,hi,rfl,rfl,rfl,R⟩:=hrel;rw[r.out]at hi;obtain⟨q,hq⟩:=gX (tot (f.take i));have ar:q<=1000000000:=by rw[<-hq];exact nT (zaI f i) Ht.out
  rw[hq]
  by_cases aj:i<n
  ·obtain⟨ps,l⟩:∃q,f[i]?=J q:=⟨f[i]'(by rw[r.out];omega),by simp[r.out,aj]⟩
   obtain⟨b,o,d,rfl,hb,K,⟨v,rfl,hv⟩,hc⟩:=(hP R).at l;have u:=hc 0 v rfl;simp only[Nat.mul_one,Nat.add_zero]at u;clear hc K;obtain⟨a',c',rfl⟩:=hv.form;have p:=za8 l;rw[hq]at p;obtain⟨m,hm⟩:=gX ps.length;rw[hm]at p u;have ap:q+m<=1000000000:=by rw[<-p];exact nT (zaI f (i+1)) Ht.out
   have ag:=hd9 p;have al:=hv;have Hm:=hd9 hm;clear p l hq hv hm al;go_wp2
   go_roundg (n-(i+1))
   case measure=>have:=r.out;omega
   case rel=>exact⟨i+1,by have:=r.out;omega,by go_num,by rw[ag.out];go_num,by rw[r.out],eA⟩
  ·obtain rfl:i=n:=oM
   clear hq
   go_wp2_with(((go_at_call 270;(with_reducible refine(zjd _ q oM).mono ?_);rintro e w1 ⟨v1,rfl,P,x⟩;obtain⟨a1,c1,rfl⟩:=P.form;obtain⟨ah,ai⟩:=x.cells)))
   have z:=R.trans x;obtain⟨W0,rfl⟩:∃W0,W0=wr:=⟨_,rfl⟩
   go_loopg [6,27] i (CdS w W0.heap.size f)
   case atStart=>exact⟨0,by omega,rfl,by simpa using P,by rw[r.out];rfl,z,x.size⟩
   case round =>
    clear x z P ah ai;obtain⟨j,hj,rfl,g,rfl,Q,D⟩:=hrel;rw[r.out]at hj;obtain⟨a2,c2,rfl⟩:=g.form;obtain⟨L2,s⟩:=gX (((f.take j).flatten.map pc).length);have ao:L2<=1000000000:=by rw[<-s,lL];exact nT (zaI f j) Ht.out
    rw[s]at g ⊢;have ae:=R.size
    by_cases ad:j<i
    ·obtain⟨ps,l⟩:∃q,f[j]?=J q:=⟨f[j]'(by rw[r.out];omega),by simp[r.out,ad]⟩
     obtain⟨b,o,d,rfl,hb,K,⟨v,rfl,hv⟩,hc⟩:=(hP Q).at l;have u:=hc 0 v rfl;simp only[Nat.mul_one,Nat.add_zero]at u;clear hc K;obtain⟨a',c',rfl⟩:=hv.form;have p:=za8 l
     have y:((f.take j).flatten.map pc).length+(ps.map pc).length<=100000000000:=by
      have:=zaI f (j+1);have h9:=Ht.out;rw[p]at this;unfold tot at this h9;rw[lL,lL];omega
     have ab:(f.take (j+1)).flatten.map pc=(f.take j).flatten.map pc++ps.map pc:=by
      rw[zab _ _ _ l,List.flatten_append,List.map_append];simp
     have ak:=zmv hv;have af:=hd9 ab;have an:=hd9 s;have T:=hd9 y;clear p l ab s y
     go_wp2_with(at_builtin;refine appS (v:=Z a2 L2 c2) zbE rfl dM dM Tryz.underlying38 rfl _ _ rfl rfl g rfl (ps.map pc) zfD ak zfE T.out D ?_;intro v' w1 t L am;obtain⟨a3,n3,c3,rfl⟩:=t.form3)
     go_roundg (i-(j+1))
     case measure=>have:=r.out;omega
     case rel =>
      have aa:=zad L D (fun k hk=>(g.lt k hk).1);exact⟨j+1,by rw[r.out];omega,by go_num,by rw[af.out];exact t,by rw[r.out],Q.thenB aa ae,nT D aa.size⟩
    ·obtain rfl:j=i:=oM
     have e:(f.take j).flatten.map pc=f.flatten.map pc:=by rw[lT (by rw[r.out];omega)]
     have E:=hd9 e;clear e s;go_wp2;go_ret;exact⟨_,rfl,by rw[<-E.out];exact g.mono ae,Q⟩
theorem ziH(w:X)(v:V)(f:List LP)(h:Sl 121 1 (PSl 121) w v f)(ht:tot f<=1000000000) :
  Calls Tryz.prog 104 #[v] w (RetC 43 2 w (f.flatten.map pc)):=by
 obtain⟨a,c,rfl⟩:=h.form;obtain⟨n,hn⟩:=gX f.length;rw[hn]at h ⊢;have ac:=h.le;unfold maxLen at ac;have aq:n<=9223372036854775807:=oM
 have r:=hd9 hn;have Ht:=hd9 ht;clear hn ac ht;have hP:∀{W:X},Ext w W->Sl 121 1 (PSl 121) W (Z a n c) f:=fun R=>h.ext (fun _ _ ⟨v,h1,h2⟩=>⟨v,h1,h2.ext' R⟩) R
 go_enter Tryz.func104,Tryz.ntmps104;go_wp2
 go_loopg [3,11] n (CcS w f)
 case atStart=>exact⟨0,by omega,rfl,rfl,by rw[r.out];rfl,eR _⟩
 case round =>
  obtain⟨i,hi,rfl,rfl,rfl,R⟩:=hrel;rw[r.out]at hi;obtain⟨q,hq⟩:=gX (tot (f.take i));have ar:q<=1000000000:=by rw[<-hq];exact nT (zaI f i) Ht.out
  rw[hq]
  by_cases aj:i<n
  ·obtain⟨ps,l⟩:∃q,f[i]?=J q:=⟨f[i]'(by rw[r.out];omega),by simp[r.out,aj]⟩
   obtain⟨b,o,d,rfl,hb,K,⟨v,rfl,hv⟩,hc⟩:=(hP R).at l;have u:=hc 0 v rfl;simp only[Nat.mul_one,Nat.add_zero]at u;clear hc K;obtain⟨a',c',rfl⟩:=hv.form;have p:=za8 l;rw[hq]at p;obtain⟨m,hm⟩:=gX ps.length;rw[hm]at p u;have ap:q+m<=1000000000:=by rw[<-p];exact nT (zaI f (i+1)) Ht.out
   have ag:=hd9 p;have al:=hv;have Hm:=hd9 hm;clear p l hq hv hm al;go_wp2
   go_roundg (n-(i+1))
   case measure=>have:=r.out;omega
   case rel=>exact⟨i+1,by have:=r.out;omega,by go_num,by rw[ag.out];go_num,by rw[r.out],eA⟩
  ·obtain rfl:i=n:=oM
   clear hq
   go_wp2_with(((go_at_call 171;(with_reducible refine(zjc _ q oM).mono ?_);rintro e w1 ⟨v1,rfl,P,x⟩;obtain⟨a1,c1,rfl⟩:=P.form;obtain⟨ah,ai⟩:=x.cells)))
   have z:=R.trans x;obtain⟨W0,rfl⟩:∃W0,W0=wr:=⟨_,rfl⟩
   go_loopg [6,27] i (CdS w W0.heap.size f)
   case atStart=>exact⟨0,by omega,rfl,by simpa using P,by rw[r.out];rfl,z,x.size⟩
   case round =>
    clear x z P ah ai;obtain⟨j,hj,rfl,g,rfl,Q,D⟩:=hrel;rw[r.out]at hj;obtain⟨a2,c2,rfl⟩:=g.form;obtain⟨L2,s⟩:=gX (((f.take j).flatten.map pc).length);have ao:L2<=1000000000:=by rw[<-s,lL];exact nT (zaI f j) Ht.out
    rw[s]at g ⊢;have ae:=R.size
    by_cases ad:j<i
    ·obtain⟨ps,l⟩:∃q,f[j]?=J q:=⟨f[j]'(by rw[r.out];omega),by simp[r.out,ad]⟩
     obtain⟨b,o,d,rfl,hb,K,⟨v,rfl,hv⟩,hc⟩:=(hP Q).at l;have u:=hc 0 v rfl;simp only[Nat.mul_one,Nat.add_zero]at u;clear hc K;obtain⟨a',c',rfl⟩:=hv.form;have p:=za8 l
     have y:((f.take j).flatten.map pc).length+(ps.map pc).length<=100000000000:=by
      have:=zaI f (j+1);have h9:=Ht.out;rw[p]at this;unfold tot at this h9;rw[lL,lL];omega
     have ab:(f.take (j+1)).flatten.map pc=(f.take j).flatten.map pc++ps.map pc:=by
      rw[zab _ _ _ l,List.flatten_append,List.map_append];simp
     have ak:=zmv hv;have af:=hd9 ab;have an:=hd9 s;have T:=hd9 y;clear p l ab s y
     go_wp2_with(at_builtin;refine appS (v:=Z a2 L2 c2) zbE rfl dM dM Tryz.underlying121 rfl _ _ rfl rfl g rfl (ps.map pc) zfD ak zfE T.out D ?_;intro v' w1 t L am;obtain⟨a3,n3,c3,rfl⟩:=t.form3)
     go_roundg (i-(j+1))
     case measure=>have:=r.out;omega
     case rel =>
      have aa:=zad L D (fun k hk=>(g.lt k hk).1);exact⟨j+1,by rw[r.out];omega,by go_num,by rw[af.out];exact t,by rw[r.out],Q.thenB aa ae,nT D aa.size⟩
    ·obtain rfl:j=i:=oM
     have e:(f.take j).flatten.map pc=f.flatten.map pc:=by rw[lT (by rw[r.out];omega)]
     have E:=hd9 e;clear e s;go_wp2;go_ret;exact⟨_,rfl,by rw[<-E.out];exact g.mono ae,Q⟩
def oddB(r:Int):Bool:=!(decide (97<=r)&&decide (r<=122))&&!(decide (48<=r)&&decide (r<=57))
theorem znj(w:X)(r:Int):Calls Tryz.prog 203 #[O .i32 r] w fun e j=>e = .returned (.bool (oddB r))/\j=w:=by
 unfold oddB
 by_cases d:97<=r
 ·have a:decide (97<=r)=true:=by simpa using d
  by_cases f:r<=122
  ·have c:decide (r<=122)=true:=by simpa using f
   go_enter Tryz.func203,Tryz.ntmps203;go_wp2;go_ret;exact⟨by simp[a,c],rfl⟩
  ·have c:decide (r<=122)=false:=by simpa using f
   have b:decide (48<=r)=true:=by simp;omega
   have i:decide (r<=57)=false:=by simp;omega
   go_enter Tryz.func203,Tryz.ntmps203;go_wp2;go_ret;exact⟨by simp[a,c,b,i],rfl⟩
 ·have a:decide (97<=r)=false:=by simpa using d
  by_cases g:48<=r
  ·have b:decide (48<=r)=true:=by simpa using g
   go_enter Tryz.func203,Tryz.ntmps203;go_wp2;go_ret;exact⟨by simp[a,b],rfl⟩
  ·have b:decide (48<=r)=false:=by simpa using g
   go_enter Tryz.func203,Tryz.ntmps203;go_wp2;go_ret;exact⟨by simp[a,b],rfl⟩
def grainB(a b:Int):Bool:=(!(a==0) || !(b==0))&&wthn a (-100) 100&&wthn b (-100) 100
def stoneB(nb:Bool)(ps:LP)(d a b c:Int):Bool:=nb&&placedB ps&&wthn d 1 2000&&wthn a 1 10000&&grainB b c
def ChS(w:X)(s:ByteArray)(a:Option Addr)(n c:Nat)(d f b e:Int)(t4:V)(W:X):Prop:=
 t4 = .bool (grainB b e)/\Ext w W/\W.heap[w.heap.size]?=J (N #[.string s,Z a n c,O Y d,O Y f,O Y b,O Y e] 45 (0,0))
theorem zhM(w:X)(s:ByteArray)(v:V)(ps:LP)(d x g j:Int)(nb:Bool)(h:IsPts w v ps)
  (ag:∀W,Calls Tryz.prog 161 #[.string s] W fun e w'=>e = .returned (.bool nb)/\Ext W w') :
  Calls Tryz.prog 91 #[C #[.string s,v,O Y d,O Y x,O Y g,O Y j]] w fun e w'=>e = .returned (O Y (if stoneB nb ps d x g j then 0 else 2))/\Ext w w':=by
 obtain⟨a,c,rfl⟩:=h.form;obtain⟨n,hn⟩:=gX ps.length;rw[hn]at h ⊢;have D:=hd9 ag;have ad:=fun W (hW:Ext w W)=>zia W (Z a n c) ps (h.ext' hW)
 obtain⟨pb,ac⟩:=gX (placedB ps);rw[ac]at ad;obtain⟨R,q⟩:∃R:Int,(if stoneB nb ps d x g j then (0:Int)else 2)=R:=⟨_,rfl⟩;rw[q];unfold stoneB at q;rw[ac]at q;have L:=hd9 ad;have z:=hd9 q;clear ag ad q ac hn h;go_enter Tryz.func91,Tryz.ntmps91
 go_upto_region 2 with fail
 go_cut [4] (ChS w s a n c d x g j)
 case first =>
  by_cases hz:g=0/\j=0
  ·obtain⟨rfl,rfl⟩:=hz
   go_wp2;go_meet;exact⟨rfl,eA,by rw[zaf,if_neg sM];exact qhA _ _ _ rfl⟩
  ·have ah:(g≠0)\/(g=0/\j≠0):=by
    by_cases e:g=0
    ·exact .inr ⟨e,fun e2=>hz ⟨e,e2⟩⟩
    ·exact .inl e
   clear hz
   rcases ah with e1|⟨e1,e2⟩
   ·have f1:(g==0)=false:=(by simpa using e1);clear e1
    have hG:grainB g j=(wthn g (-100) 100&&wthn j (-100) 100):=by unfold grainB;simp[*]
    have HG:=hd9 hG;clear hG
    by_cases y:wthn g (-100) 100=true
    ·by_cases K:wthn j (-100) 100=true
     ·have l:Hid (grainB g j=true):=hd9 (by rw[HG.out,y,K];rfl)
      go_wp2_with(first|((go_at_call 160;(with_reducible refine(zag _ g (-100) 100).mono ?_);rintro e T ⟨rfl,b⟩;obtain⟨m,o⟩:=b.cells;(try(refine Ext.useLt b (n:=w.heap.size) ?_ (fun _=>?_);focus(first|(go_simp;done)|omega)));(try(refine Ext.useLt b (n:=w.heap.size+1) ?_ (fun _=>?_);focus(first|(go_simp;done)|omega)))))|((go_at_call 160;(with_reducible refine(zag _ j (-100) 100).mono ?_);rintro e w2 ⟨rfl,f⟩;obtain⟨r,t⟩:=f.cells;(try(refine Ext.useLt f (n:=w.heap.size) ?_ (fun _=>?_);focus(first|(go_simp;done)|omega)));(try(refine Ext.useLt f (n:=w.heap.size+1) ?_ (fun _=>?_);focus(first|(go_simp;done)|omega))))))
      go_meet;exact⟨by rw[l.out],eA,by rw[Ext.block (a:=(w.alloc (N #[.string s,Z a n c,O Y d,O Y x,O Y g,O Y j] 45))) eA sM];exact qhA _ _ _ rfl⟩
     ·have Q:wthn j (-100) 100=false:=by simpa using K
      have l:Hid (grainB g j=false):=hd9 (by rw[HG.out,y,Q];rfl);clear K
      go_wp2_with(first|((go_at_call 160;(with_reducible refine(zag _ g (-100) 100).mono ?_);rintro e T ⟨rfl,b⟩;obtain⟨m,o⟩:=b.cells;(try(refine Ext.useLt b (n:=w.heap.size) ?_ (fun _=>?_);focus(first|(go_simp;done)|omega)));(try(refine Ext.useLt b (n:=w.heap.size+1) ?_ (fun _=>?_);focus(first|(go_simp;done)|omega)))))|((go_at_call 160;(with_reducible refine(zag _ j (-100) 100).mono ?_);rintro e w2 ⟨rfl,f⟩;obtain⟨r,t⟩:=f.cells;(try(refine Ext.useLt f (n:=w.heap.size) ?_ (fun _=>?_);focus(first|(go_simp;done)|omega)));(try(refine Ext.useLt f (n:=w.heap.size+1) ?_ (fun _=>?_);focus(first|(go_simp;done)|omega))))))
      go_meet;exact⟨by rw[l.out],eA,by rw[Ext.block (a:=(w.alloc (N #[.string s,Z a n c,O Y d,O Y x,O Y g,O Y j] 45))) eA sM];exact qhA _ _ _ rfl⟩
    ·have P:wthn g (-100) 100=false:=by simpa using y
     have l:Hid (grainB g j=false):=hd9 (by rw[HG.out,P];rfl);clear y
     go_wp2_with(first|((go_at_call 160;(with_reducible refine(zag _ g (-100) 100).mono ?_);rintro e T ⟨rfl,b⟩;obtain⟨m,o⟩:=b.cells;(try(refine Ext.useLt b (n:=w.heap.size) ?_ (fun _=>?_);focus(first|(go_simp;done)|omega)));(try(refine Ext.useLt b (n:=w.heap.size+1) ?_ (fun _=>?_);focus(first|(go_simp;done)|omega))))))
     go_meet;exact⟨by rw[l.out],eA,by rw[Ext.block (a:=(w.alloc (N #[.string s,Z a n c,O Y d,O Y x,O Y g,O Y j] 45))) eA sM];exact qhA _ _ _ rfl⟩
   ·have f1:(g==0)=true:=(by simpa using e1);have f2:(j==0)=false:=(by simpa using e2);clear e1 e2
    have hG:grainB g j=(wthn g (-100) 100&&wthn j (-100) 100):=by unfold grainB;simp[*]
    have HG:=hd9 hG;clear hG
    by_cases y:wthn g (-100) 100=true
    ·by_cases K:wthn j (-100) 100=true
     ·have l:Hid (grainB g j=true):=hd9 (by rw[HG.out,y,K];rfl)
      go_wp2_with(first|((go_at_call 160;(with_reducible refine(zag _ g (-100) 100).mono ?_);rintro e T ⟨rfl,b⟩;obtain⟨m,o⟩:=b.cells;(try(refine Ext.useLt b (n:=w.heap.size) ?_ (fun _=>?_);focus(first|(go_simp;done)|omega)));(try(refine Ext.useLt b (n:=w.heap.size+1) ?_ (fun _=>?_);focus(first|(go_simp;done)|omega)))))|((go_at_call 160;(with_reducible refine(zag _ j (-100) 100).mono ?_);rintro e w2 ⟨rfl,f⟩;obtain⟨r,t⟩:=f.cells;(try(refine Ext.useLt f (n:=w.heap.size) ?_ (fun _=>?_);focus(first|(go_simp;done)|omega)));(try(refine Ext.useLt f (n:=w.heap.size+1) ?_ (fun _=>?_);focus(first|(go_simp;done)|omega))))))
      go_meet;exact⟨by rw[l.out],eA,by rw[Ext.block (a:=(w.alloc (N #[.string s,Z a n c,O Y d,O Y x,O Y g,O Y j] 45))) eA sM];exact qhA _ _ _ rfl⟩
     ·have Q:wthn j (-100) 100=false:=by simpa using K
      have l:Hid (grainB g j=false):=hd9 (by rw[HG.out,y,Q];rfl);clear K
      go_wp2_with(first|((go_at_call 160;(with_reducible refine(zag _ g (-100) 100).mono ?_);rintro e T ⟨rfl,b⟩;obtain⟨m,o⟩:=b.cells;(try(refine Ext.useLt b (n:=w.heap.size) ?_ (fun _=>?_);focus(first|(go_simp;done)|omega)));(try(refine Ext.useLt b (n:=w.heap.size+1) ?_ (fun _=>?_);focus(first|(go_simp;done)|omega)))))|((go_at_call 160;(with_reducible refine(zag _ j (-100) 100).mono ?_);rintro e w2 ⟨rfl,f⟩;obtain⟨r,t⟩:=f.cells;(try(refine Ext.useLt f (n:=w.heap.size) ?_ (fun _=>?_);focus(first|(go_simp;done)|omega)));(try(refine Ext.useLt f (n:=w.heap.size+1) ?_ (fun _=>?_);focus(first|(go_simp;done)|omega))))))
      go_meet;exact⟨by rw[l.out],eA,by rw[Ext.block (a:=(w.alloc (N #[.string s,Z a n c,O Y d,O Y x,O Y g,O Y j] 45))) eA sM];exact qhA _ _ _ rfl⟩
    ·have P:wthn g (-100) 100=false:=by simpa using y
     have l:Hid (grainB g j=false):=hd9 (by rw[HG.out,P];rfl);clear y
     go_wp2_with(first|((go_at_call 160;(with_reducible refine(zag _ g (-100) 100).mono ?_);rintro e T ⟨rfl,b⟩;obtain⟨m,o⟩:=b.cells;(try(refine Ext.useLt b (n:=w.heap.size) ?_ (fun _=>?_);focus(first|(go_simp;done)|omega)));(try(refine Ext.useLt b (n:=w.heap.size+1) ?_ (fun _=>?_);focus(first|(go_simp;done)|omega))))))
     go_meet;exact⟨by rw[l.out],eA,by rw[Ext.block (a:=(w.alloc (N #[.string s,Z a n c,O Y d,O Y x,O Y g,O Y j] 45))) eA sM];exact qhA _ _ _ rfl⟩
 case rest =>
  obtain⟨rfl,hx,hB⟩:=hcut;have b0:=qcB hB (i:=0) (u:=.string s) rfl;have b1:=qcB hB (i:=1) (u:=Z a n c) rfl;have b2:=qcB hB (i:=2) (u:=O Y d) rfl;have b3:=qcB hB (i:=3) (u:=O Y x) rfl;have zb:=zaa hB;clear hB;have q:=z.out;obtain⟨G,hG⟩:=gX (grainB g j);rw[hG]at q ⊢;clear hG z
  cases nb
  ·have z:Hid (R=2):=hd9 (by simpa using q.symm)
   clear q
   go_wp2_with(first|((go_at_call 161;(with_reducible refine(D.out _).mono ?_);rintro e T ⟨rfl,b⟩;obtain⟨m,o⟩:=b.cells;(have y1:=b.lt zb))))
   go_ret;exact⟨by rw[z.out];rfl,eA⟩
  cases pb
  ·have z:Hid (R=2):=hd9 (by simpa using q.symm)
   clear q
   go_wp2_with(first|((go_at_call 161;(with_reducible refine(D.out _).mono ?_);rintro e T ⟨rfl,b⟩;obtain⟨m,o⟩:=b.cells;(have y1:=b.lt zb)))|((go_at_call 162;(with_reducible refine(L.out _ ?_).mono ?_);exact eA;rintro e w2 ⟨rfl,f⟩;obtain⟨r,t⟩:=f.cells;(have y2:=f.lt y1))))
   go_ret;exact⟨by rw[z.out];rfl,eA⟩
  by_cases y:wthn d 1 2000=true
  ·by_cases K:wthn x 1 10000=true
   ·cases G
    ·have z:Hid (R=2):=hd9 (by simpa[y,K] using q.symm)
     clear q
     go_wp2_with(first|((go_at_call 161;(with_reducible refine(D.out _).mono ?_);rintro e T ⟨rfl,b⟩;obtain⟨m,o⟩:=b.cells;(have y1:=b.lt zb)))|((go_at_call 162;(with_reducible refine(L.out _ ?_).mono ?_);exact eA;rintro e w2 ⟨rfl,f⟩;obtain⟨r,t⟩:=f.cells;(have y2:=f.lt y1)))|((go_at_call 160;(with_reducible refine(zag _ d 1 2000).mono ?_);rintro e w3 ⟨rfl,k⟩;obtain⟨aa,ab⟩:=k.cells;(try(refine Ext.useLt k (n:=w.heap.size) ?_ (fun _=>?_);focus(first|(go_simp;done)|omega)));(try(refine Ext.useLt k (n:=w.heap.size+1) ?_ (fun _=>?_);focus(first|(go_simp;done)|omega)))))|((go_at_call 160;(with_reducible refine(zag _ x 1 10000).mono ?_);rintro e w4 ⟨rfl,p⟩;obtain⟨ae,af⟩:=p.cells;(try(refine Ext.useLt p (n:=w.heap.size) ?_ (fun _=>?_);focus(first|(go_simp;done)|omega)));(try(refine Ext.useLt p (n:=w.heap.size+1) ?_ (fun _=>?_);focus(first|(go_simp;done)|omega))))))
     go_ret;exact⟨by rw[z.out];rfl,eA⟩
    ·have z:Hid (R=0):=hd9 (by simpa[y,K] using q.symm)
     clear q
     go_wp2_with(first|((go_at_call 161;(with_reducible refine(D.out _).mono ?_);rintro e T ⟨rfl,b⟩;obtain⟨m,o⟩:=b.cells;(have y1:=b.lt zb)))|((go_at_call 162;(with_reducible refine(L.out _ ?_).mono ?_);exact eA;rintro e w2 ⟨rfl,f⟩;obtain⟨r,t⟩:=f.cells;(have y2:=f.lt y1)))|((go_at_call 160;(with_reducible refine(zag _ d 1 2000).mono ?_);rintro e w3 ⟨rfl,k⟩;obtain⟨aa,ab⟩:=k.cells;(try(refine Ext.useLt k (n:=w.heap.size) ?_ (fun _=>?_);focus(first|(go_simp;done)|omega)));(try(refine Ext.useLt k (n:=w.heap.size+1) ?_ (fun _=>?_);focus(first|(go_simp;done)|omega)))))|((go_at_call 160;(with_reducible refine(zag _ x 1 10000).mono ?_);rintro e w4 ⟨rfl,p⟩;obtain⟨ae,af⟩:=p.cells;(try(refine Ext.useLt p (n:=w.heap.size) ?_ (fun _=>?_);focus(first|(go_simp;done)|omega)));(try(refine Ext.useLt p (n:=w.heap.size+1) ?_ (fun _=>?_);focus(first|(go_simp;done)|omega))))))
     go_ret;exact⟨by rw[z.out];rfl,eA⟩
   ·have Q:wthn x 1 10000=false:=by simpa using K
    have z:Hid (R=2):=hd9 (by simpa[y,Q] using q.symm);clear q K
    go_wp2_with(first|((go_at_call 161;(with_reducible refine(D.out _).mono ?_);rintro e T ⟨rfl,b⟩;obtain⟨m,o⟩:=b.cells;(have y1:=b.lt zb)))|((go_at_call 162;(with_reducible refine(L.out _ ?_).mono ?_);exact eA;rintro e w2 ⟨rfl,f⟩;obtain⟨r,t⟩:=f.cells;(have y2:=f.lt y1)))|((go_at_call 160;(with_reducible refine(zag _ d 1 2000).mono ?_);rintro e w3 ⟨rfl,k⟩;obtain⟨aa,ab⟩:=k.cells;(try(refine Ext.useLt k (n:=w.heap.size) ?_ (fun _=>?_);focus(first|(go_simp;done)|omega)));(try(refine Ext.useLt k (n:=w.heap.size+1) ?_ (fun _=>?_);focus(first|(go_simp;done)|omega)))))|((go_at_call 160;(with_reducible refine(zag _ x 1 10000).mono ?_);rintro e w4 ⟨rfl,p⟩;obtain⟨ae,af⟩:=p.cells;(try(refine Ext.useLt p (n:=w.heap.size) ?_ (fun _=>?_);focus(first|(go_simp;done)|omega)));(try(refine Ext.useLt p (n:=w.heap.size+1) ?_ (fun _=>?_);focus(first|(go_simp;done)|omega))))))
    go_ret;exact⟨by rw[z.out];rfl,eA⟩
  ·have P:wthn d 1 2000=false:=by simpa using y
   have z:Hid (R=2):=hd9 (by simpa[P] using q.symm);clear q y
   go_wp2_with(first|((go_at_call 161;(with_reducible refine(D.out _).mono ?_);rintro e T ⟨rfl,b⟩;obtain⟨m,o⟩:=b.cells;(have y1:=b.lt zb)))|((go_at_call 162;(with_reducible refine(L.out _ ?_).mono ?_);exact eA;rintro e w2 ⟨rfl,f⟩;obtain⟨r,t⟩:=f.cells;(have y2:=f.lt y1)))|((go_at_call 160;(with_reducible refine(zag _ d 1 2000).mono ?_);rintro e w3 ⟨rfl,k⟩;obtain⟨aa,ab⟩:=k.cells;(try(refine Ext.useLt k (n:=w.heap.size) ?_ (fun _=>?_);focus(first|(go_simp;done)|omega)));(try(refine Ext.useLt k (n:=w.heap.size+1) ?_ (fun _=>?_);focus(first|(go_simp;done)|omega))))))
   go_ret;exact⟨by rw[z.out];rfl,eA⟩
def idxN(ps:LP):Nat:=(idxB (fun p=>minP ps==p) ps).toNat
def settledP(ps:LP):LP:=(ps.drop (idxN ps)++ps.take (idxN ps)).map fun p=>(p.1-(leastP ps).1,p.2-(leastP ps).2)
theorem zg6{ps:LP}(h:ps≠[]):minP ps∈ps:=by
 cases ps with
 | nil=>exact absurd rfl h
 | cons p ps =>
  have:∀(b:LP)(a:Int×Int),b.foldl lowP a=a\/b.foldl lowP a∈b:=by
   intro b
   induction b with
   | nil=>intro a;exact .inl rfl
   | cons q b c =>
    intro a;rw[List.foldl_cons]
    rcases c (lowP a q)with e|e
    ·rw[e];unfold lowP;split
     ·exact .inr sM
     ·exact .inl rfl
    ·exact .inr (mC _ e)
  rcases this ps p with e|e
  ·rw[show minP (p::ps)=ps.foldl lowP p from rfl,e];simp
  ·rw[show minP (p::ps)=ps.foldl lowP p from rfl];exact mC _ e
theorem zeO{ps:LP}(h:ps≠[]):idxB (fun p=>minP ps==p) ps=(idxN ps:Int)/\idxN ps<ps.length:=by
 obtain⟨i,c,b⟩:=List.mem_iff_getElem.1 (zg6 h);unfold idxN;unfold idxB
 cases hf:ps.findIdx? (fun p=>minP ps==p)with
 | none =>
  rw[List.findIdx?_eq_none_iff]at hf;have:=hf _ (zg6 h);simp at this
 | some j =>
  rw[List.findIdx?_eq_some_iff_getElem]at hf;obtain⟨a,_⟩:=hf;exact⟨by simp,by simpa using a⟩
theorem zfv{k:Int}{ps:LP}(h:PBd k ps)(f:ps≠[]):Bd k (leastP ps).1/\Bd k (leastP ps).2:=by
 cases ps with
 | nil=>exact absurd rfl f
 | cons p ps =>
  have:∀(b:LP)(a:Int×Int),(Bd k a.1/\Bd k a.2)->PBd k b->Bd k (b.foldl (fun o q=>(min o.1 q.1,min o.2 q.2)) a).1/\Bd k (b.foldl (fun o q=>(min o.1 q.1,min o.2 q.2)) a).2:=by
   intro b
   induction b with
   | nil=>intro a d _;exact d
   | cons q b g =>
    intro a d e;refine g _ ?_ (fun z c=>e z (mC _ c));have:=e q sM;unfold Bd at *;dsimp only;omega
  exact this ps p (h p sM) (fun z c=>h z (mC _ c))
theorem PBd.rot{k:Int}{ps:LP}(h:PBd k ps)(m:Nat):PBd k (ps.drop m++ps.take m):=fun p b=>by
 rcases List.mem_append.1 b with a|a
 ·exact h p (List.mem_of_mem_drop a)
 ·exact h p (List.mem_of_mem_take a)
theorem sl2{T:TypeId}{W:X}{f g:V}{d e:LP}(j:IsPts W f d)(k:IsPts W g e):Sl T 1 (PSl T) (W.alloc (N #[f,g] T)) (Z (J ⟨W.heap.size,0,M⟩) 2 2) [d,e]:=by
 refine⟨[[f],[g]],rfl,by simp,⟨rfl,_,_,rfl,nE _,by unfold maxLen;omega,.inr ⟨W.heap.size,0,_,_,rfl,aN W _,?_⟩⟩,?_⟩
 ·intro i x a
  match i,a with
  | 0,a=>simpa using a
  | 1,a=>simpa using a
  | i+2,a=>simp at a
 ·intro i c x b a
  match i,b,a with
  | 0,b,a=>simp at b a;subst b a;exact⟨_,rfl,j.ext' ((eR _).alloc _)⟩
  | 1,b,a=>simp at b a;subst b a;exact⟨_,rfl,k.ext' ((eR _).alloc _)⟩
  | i+2,b,a=>simp at b
def MpS(w:X)(base:Nat)(f:Int×Int->Int×Int)(a:LP)(v5:V)(g:Nat)(b:V)(W:X):Prop:=
 ∃i:Nat,i<=a.length/\b=O Y i/\g=a.length-i/\Ext w W/\base<=W.heap.size/\OwnC 43 2 W base v5 (((a.take i).map f++a.drop i).map pc)
theorem zmo{f:Int×Int->Int×Int}{a:LP}{i:Nat}{q:Int×Int}(h:a[i]?=J q):(((a.take i).map f++a.drop i).map pc)[i]?=J (pc q):=by
 have b:=(lS.1 h).1;rw[lP,List.getElem?_append_right (by simp;omega)];simp only[lL,List.length_take];rw[show i-min i a.length=0 by omega,List.getElem?_drop,Nat.add_zero,h];rfl
theorem zmp{f:Int×Int->Int×Int}{a:LP}{i:Nat}{q:Int×Int}(h:a[i]?=J q){x z:Int}(e:f q=(x,z))(d:List V)(c:d=[O Y x,O Y z]) :
  (((a.take i).map f++a.drop i).map pc).set i d=(((a.take (i+1)).map f++a.drop (i+1)).map pc):=by
 have g:=(lS.1 h).1;subst c
 have b:(a.drop i)=q::a.drop (i+1):=by
  rw[List.drop_eq_getElem_cons g];have:=(lS.1 h).2;rw[this]
 have j:((a.take i).map f).map pc=((a.take i).map f).map pc:=rfl;rw[zab _ _ _ h,List.map_append,List.map_append,b,List.set_append_right _ _ (by simp;omega),List.map_cons];simp only[lL,List.length_take];rw[show i-min i a.length=0 by omega,List.set_cons_zero];simp[e,pc]
theorem OwnC.pair{T:TypeId}{w:X}{base g n c:Nat}{cs:List (List V)}{i:Nat}{p:Int×Int}(h:OwnC T 2 w base (Z (J ⟨g,0,M⟩) n c) cs)(b:cs[i]?=J (pc p))(u v:V) :
  OwnC T 2 ((w.setCell ⟨g,i*2,M⟩ u).setCell ⟨g,i*2+1,M⟩ v) base (Z (J ⟨g,0,M⟩) n c) (cs.set i [u,v]):=by
 have e:=OwnC.stored (j:=0) h b dM u;have f:=(lS.1 b).1;have a:=OwnC.stored (i:=i) (j:=1) (d:=[u,O Y p.2]) e (by rw[List.getElem?_set_self oM];rfl) dM v;rw[List.set_set]at a;exact a
theorem zc9(w:X)(v:V)(ps:LP)(h:IsPts w v ps)(h0:0<ps.length)(aU:ps.length<=1000000)(hb:PBd 1000000 ps) :
  Calls Tryz.prog 199 #[v] w (RetC 43 2 w ((settledP ps).map pc)):=by
 obtain⟨a,c,rfl⟩:=h.form;have aj:ps≠[]:=by intro e;subst e;simp at h0
 obtain⟨⟨a5,a6⟩,ax⟩:∃p,ps[0]?=J p:=⟨ps[0],by simp⟩;obtain⟨b,o,rfl,aW,_,_⟩:=h.at' ax;have ah:=zfv hb aj;have R:=zeO aj;have hQ:settledP ps=(ps.drop (idxN ps)++ps.take (idxN ps)).map fun p=>(p.1-(leastP ps).1,p.2-(leastP ps).2):=rfl
 have ab:=hb.rot (idxN ps);rw[hQ];have ai:=h.le;have P:=fun W (hW:Ext w W)=>zfw W _ ps (h.ext' hW) h0
 have Q:=fun W (hW:Ext w W)=>zjH W _ ps (h.ext' hW) h0
 obtain⟨⟨D,K⟩,hl⟩:∃p,leastP ps=p:=⟨_,rfl⟩;obtain⟨⟨mx,mz⟩,hm⟩:∃p,minP ps=p:=⟨_,rfl⟩;have y:=fun W (hW:Ext w W)=>zjn W _ ps mx mz (h.ext' hW)
 rw[<-hm,R.1]at y;obtain⟨k,hk⟩:=gX (idxN ps);rw[hk]at y ab R ⊢;rw[hl]at P ah ⊢;rw[hm]at Q;obtain⟨L,ac⟩:=gX (ps.drop k++ps.take k);rw[ac]at ab ⊢;obtain⟨n,hn⟩:=gX ps.length;have aZ:k<n:=by have:=R.2;omega
 have ay:L.length=n:=by rw[<-ac];simp;omega
 have am:IsPts w _ _:=h.drop h0 (m:=k) oM;have az:IsPts w _ _:=h.take h0 (m:=k) (c':=k) oM (nE _) oM;rw[hn]at h P Q y ai am ⊢;unfold maxLen at ai
 have t:=fun W (hW:Ext w W)=>ziI ((W.alloc (N #[Z (J ⟨b,o+k*2,M⟩) (n-k) (c-k),Z (J ⟨b,o,M⟩) k k] 38)).drew) (Z (J ⟨W.heap.size,0,M⟩) 2 2) [ps.drop k,ps.take k] (sl2 (T:=38) (am.ext' hW) (az.ext' hW)) (by
  unfold tot;simp;omega)
 have e2:[ps.drop k,ps.take k].flatten=L:=by simpa using ac
 rw[e2]at t;obtain⟨RL,af⟩:=gX ((L.map (fun p=>(p.1-D,p.2-K))).map pc);rw[af];have aC:=hd9 af;clear af;have aF:=hd9 P;have aG:=hd9 Q;have aE:=hd9 y;have aD:=hd9 t;have aH:=hd9 ab;have aq:=hd9 ah;have l:=hd9 ay;have k1:(0:Int)<=(k:Int):=oM
 have k2:(k:Int)<=(n:Int):=oM
 have k3:(n:Int)<=(c:Int):=oM
 have k4:(k:Int)<(c:Int):=oM
 have k5:k<c:=oM
 have a0:c<=9223372036854775807:=oM
 clear P Q y t ab ah ay R hk hl hm ac hn am az ai h hQ e2 hb aj ax h0 aU;go_enter Tryz.func199,Tryz.ntmps199
 go_wp2_with(first|((go_at_call 208;(with_reducible refine(aF.out _ ?_).mono ?_);exact eA;rintro e w1 ⟨rfl,ad⟩;obtain⟨aK,aP⟩:=ad.cells))|((go_at_call 209;(with_reducible refine(aG.out _ ?_).mono ?_);exact eA;rintro e w2 ⟨rfl,u⟩;obtain⟨aL,aQ⟩:=u.cells))|((go_at_call 238;(with_reducible refine(aE.out _ ?_).mono ?_);exact eA;rintro e w3 ⟨rfl,x⟩;obtain⟨aM,aR⟩:=x.cells)))
 have ae:Ext w w3:=eA;have t:=aD.out w3 ae;have aB:=hd9 t;clear t;have zo:w1.heap.size<w3.heap.size:=Nat.lt_of_lt_of_le (by have:=u.size;simp at this;omega) x.size;have o2:w2.cell? ⟨w1.heap.size,0,M⟩=J (O Y D):=u.cellS sM;have o3:w2.cell? ⟨w1.heap.size,1,M⟩=J (O Y K):=u.cellS sM;have o4:=x.cellS o2;have o5:=x.cellS o3;have O4:=hd9 o4;have O5:=hd9 o5;clear o2 o3 o4 o5
 first|(go_region_with (((go_at_call 239;(with_reducible refine aB.out.mono ?_);rintro e w4 ⟨v4,rfl,z,aA⟩;obtain⟨a4,n4,c4,rfl⟩:=z.form3))))|fail
 all_goals go_wp2
 have aw:=z.len;rw[lL,l.out]at aw;obtain rfl:n=n4:=aw.symm;obtain⟨g4,rfl,av,aX⟩:=z.blk (by rw[lL,l.out];omega);have r:Ext w3 w4:=((eR w3).alloc _).drew.trans aA;have s:Ext w w4:=(((ad.alloc _).trans u).trans x).trans r;have p4:=r.cellS O4.out;have p5:=r.cellS O5.out;simp only[qdZ,wZ]at av;obtain⟨bo,ag⟩:=gX w1.heap.size;have a3:w.heap.size<=bo:=by rw[<-ag];exact ad.size
 rw[ag]at zo p4 p5 ⊢;have ak:=z.mono (b':=w3.heap.size) sM;have an:=r.size;obtain⟨B,hB⟩:=gX w3.heap.size;rw[hB]at zo ak an av;have aJ:w.heap.size<=B:=oM
 clear ag hB z ad u x ae aA r aK aP aL aQ aM aR
 go_loopg [24] n (fun g aV W=>MpS w B (fun p=>(p.1-D,p.2-K)) L (Z (J ⟨g4,0,M⟩) n c4) g aV W/\W.cell? ⟨bo,0,M⟩=J (O Y D)/\W.cell? ⟨bo,1,M⟩=J (O Y K))
 case atStart=>exact⟨⟨0,by omega,rfl,by rw[l.out];rfl,s,an,by simpa using ak⟩,p4,p5⟩
 case round =>
  clear p4 p5 ak s an;obtain⟨⟨i,hi,rfl,rfl,hx,a2,d⟩,q0,q1⟩:=hrel;rw[l.out]at hi
  by_cases aT:i<n
  ·obtain⟨⟨qx,qz⟩,hq⟩:∃q,L[i]?=J q:=⟨L[i]'(by rw[l.out];omega),by simp[l.out,aT]⟩
   have aa:=zmo (f:=fun p=>(p.1-D,p.2-K)) hq;have d0:=d.cell (j:=0) aa rfl;have d1:=d.cell (j:=1) aa rfl;simp only[Nat.add_zero]at d0;dsimp only at d0 d1;have f0:=d.frozen;have au:=aH.out (qx,qz) (lM hq);have ap:=hd9 au;have ao:=fun(W:X)(h:OwnC 43 2 W B (Z (J ⟨g4,0,M⟩) n c4) (((L.take i).map (fun p=>(p.1-D,p.2-K))++L.drop i).map pc))=>h.pair aa (O Y (qx-D)) (O Y (qz-K))
   rw[zmp (f:=fun p=>(p.1-D,p.2-K)) hq rfl _ rfl]at ao;have aI:=hd9 ao;have ar:=hd9 d;have zg:=(d.lt g4 rfl).2;have zb:bo<wr.heap.size:=World.block_lt_of_cell? wr _ q0;have p1:(0:Int)<=(i:Int):=oM
   have p2:(i:Int)<(n:Int):=oM
   have aY:¬g4=bo:=oM
   clear ao aa hq au d;go_wp2
   go_region_with (((go_at_call 240;(with_reducible refine(zeX _ qx qz D K (ap.out.1.mono dM) (ap.out.2.mono dM) (aq.out.1.mono dM) (aq.out.2.mono dM)).mono ?_);rintro e w5 ⟨rfl,r⟩;obtain⟨aO,aS⟩:=r.cells;(try simp only[qcD,qfD,qdZ]at aO aS))))
   all_goals go_wp2
   all_goals
    have s:Ext wr w5:=(eR wr).drew.trans r;have a1:=s.size;have al:=aI.out w5 (ar.out.ext s);have a7:=s.cellS q0;have a8:=s.cellS q1
    go_roundg (n-(i+1))
    case measure=>have:=l.out;omega
    case rel=>exact⟨⟨i+1,by have:=l.out;omega,by go_num,by rw[l.out],((hx.trans s).set dO _).set dO _,by simp only[qcZ];omega,al⟩,by go_simp,by go_simp⟩
  ·obtain rfl:i=n:=oM
   have e:((L.take i).map (fun p=>(p.1-D,p.2-K))++L.drop i)=L.map (fun p=>(p.1-D,p.2-K)):=by
    rw[lT (by rw[l.out];exact nE _),List.drop_of_length_le (by rw[l.out];exact nE _),List.append_nil]
   rw[e,aC.out]at d;go_wp2;go_ret;exact⟨_,rfl,d.mono aJ,hx⟩
def namedB(s:ByteArray):Bool:=wthn s.size 1 16&&!decide (0<=Lib.idxFunc (fun r:Nat=>oddB r) true s)
theorem zok(w:X):PredAt Tryz.prog 203 #[] encR (fun r:Nat=>oddB r) w:=fun W r _=>by
 unfold FnGives;rw[show #[encR r]++(#[]:Array V)=#[O .i32 r]from rfl];exact(znj W r).mono fun e c ⟨a,b⟩=>⟨a,0,b⟩
theorem ziN(w:X)(s:ByteArray):Calls Tryz.prog 204 #[.string s,.func (.func 203) #[] #[]] w fun e a=>e = .returned (.bool (decide (0<=Lib.idxFunc (fun r:Nat=>oddB r) true s)))/\Ext w a:=
 Tryz.strings_ContainsFunc 203 #[] (enters_of Tryz.func203 kM rfl) _ s w (zok w)
theorem zjI(w:X)(s:ByteArray):Calls Tryz.prog 161 #[.string s] w fun e i=>e = .returned (.bool (namedB s))/\Ext w i:=by
 obtain⟨I,d⟩:=gX (decide (0<=Lib.idxFunc (fun r:Nat=>oddB r) true s));have a:=fun W=>ziN W s
 unfold namedB;rw[d]at a ⊢;have f:=hd9 a;clear a d
 by_cases h:wthn s.size 1 16=true
 ·rw[h]
  go_enter Tryz.func161,Tryz.ntmps161
  go_wp2_with(first|((go_at_call 160;(with_reducible refine(zag _ s.size 1 16).mono ?_);rw[h];rintro e j ⟨rfl,b⟩))|((go_at_call 204;(with_reducible refine(f.out _).mono ?_);rintro e k ⟨rfl,g⟩)))
  go_ret;exact⟨by simp,eA⟩
 ·have c:wthn s.size 1 16=false:=by simpa using h
  rw[c];go_enter Tryz.func161,Tryz.ntmps161
  go_wp2_with(first|((go_at_call 160;(with_reducible refine(zag _ s.size 1 16).mono ?_);rw[c];rintro e j ⟨rfl,b⟩)))
  go_ret;exact⟨by simp,eA⟩
theorem zfe(w:X)(s:ByteArray)(v:V)(ps:LP)(d a b c:Int)(h:IsPts w v ps) :
  Calls Tryz.prog 91 #[C #[.string s,v,O Y d,O Y a,O Y b,O Y c]] w fun e f=>e = .returned (O Y (if stoneB (namedB s) ps d a b c then 0 else 2))/\Ext w f:=
 zhM w s v ps d a b c (namedB s) h (fun W=>zjI W s)
def placedOk(p:Pl):Bool:=stoneB (namedB p.name) p.shape p.depth p.density p.gx p.gz&&(wthn p.way 0 7&&(!pfarB p.ax&&(!pfarB p.az&&wthn p.skin 1 3)))
theorem zau(w:X)(p:Pl)(v:V)(h:IsPts w v p.shape)(hk:0<=p.skin) :
  Calls Tryz.prog 28 #[C (plc p v)] w fun e w'=>e = .returned (O Y (if placedOk p then 0 else 2))/\Ext w w':=by
 obtain⟨a,c,rfl⟩:=h.form;obtain⟨nm,Q,d,T,gx,gz,t,u,z,L⟩:=p;dsimp only at h hk ⊢;obtain⟨n,hn⟩:=gX Q.length;rw[hn]at h ⊢;have o:=fun W (hW:Ext w W)=>zfe W nm (Z a n c) Q d T gx gz (h.ext' hW)
 obtain⟨B,hB⟩:=gX (stoneB (namedB nm) Q d T gx gz);rw[hB]at o;have hR:placedOk ⟨nm,Q,d,T,gx,gz,t,u,z,L⟩=(B&&(wthn t 0 7&&(!pfarB u&&(!pfarB z&&wthn L 1 3)))):=by unfold placedOk;rw[hB]
 rw[hR];unfold plc;dsimp only;clear hR hB hn h
 cases B
 ·have g:=hd9 o
  clear o;go_enter Tryz.func28,Tryz.ntmps28
  go_wp2_with(first|((go_at_call 91;(with_reducible refine(g.out _ ?_).mono ?_);exact eA;rintro e P ⟨rfl,b⟩;obtain⟨⟨j,k⟩,f⟩:=cK1 w b)))
  go_ret;exact⟨rfl,eA⟩
 ·have g:=hd9 o
  clear o;rw[Bool.true_and]
  by_cases k1:0<=t
  ·by_cases k2:t<=7
   ·have x:wthn t 0 7=true:=by simp[wthn];omega
    rw[x,Bool.true_and];have q1:decide (t<0)=false:=by simp;omega
    have q2:decide (7<t)=false:=by simp;omega
    clear x
    cases k3:pfarB u
    ·cases k4:pfarB z
     ·rw[Bool.not_false,Bool.true_and,Bool.true_and]
      by_cases s1:1<=L
      ·by_cases s2:L<=3
       ·have y:wthn L 1 3=true:=by simp[wthn];omega
        rw[y];clear y;go_enter Tryz.func28,Tryz.ntmps28
        go_wp2_with(first|((go_at_call 91;(with_reducible refine(g.out _ ?_).mono ?_);exact eA;rintro e P ⟨rfl,b⟩;obtain⟨⟨j,k⟩,f⟩:=cK1 w b))|((go_at_call 92;(with_reducible refine(za7 _ u).mono ?_);rw[k3];rintro e R ⟨rfl,i⟩;obtain⟨⟨r,s⟩,m⟩:=cK1 w i))|((go_at_call 92;(with_reducible refine(za7 _ z).mono ?_);rw[k4];rintro e w3 ⟨rfl,l⟩;obtain⟨⟨D,K⟩,q⟩:=cK1 w l)))
        go_ret;exact⟨rfl,eA⟩
       ·have y:wthn L 1 3=false:=by simp[wthn];omega
        rw[y];clear y;go_enter Tryz.func28,Tryz.ntmps28
        go_wp2_with(first|((go_at_call 91;(with_reducible refine(g.out _ ?_).mono ?_);exact eA;rintro e P ⟨rfl,b⟩;obtain⟨⟨j,k⟩,f⟩:=cK1 w b))|((go_at_call 92;(with_reducible refine(za7 _ u).mono ?_);rw[k3];rintro e R ⟨rfl,i⟩;obtain⟨⟨r,s⟩,m⟩:=cK1 w i))|((go_at_call 92;(with_reducible refine(za7 _ z).mono ?_);rw[k4];rintro e w3 ⟨rfl,l⟩;obtain⟨⟨D,K⟩,q⟩:=cK1 w l)))
        go_ret;exact⟨rfl,eA⟩
      ·have y:wthn L 1 3=false:=by simp[wthn];omega
       rw[y];clear y;go_enter Tryz.func28,Tryz.ntmps28
       go_wp2_with(first|((go_at_call 91;(with_reducible refine(g.out _ ?_).mono ?_);exact eA;rintro e P ⟨rfl,b⟩;obtain⟨⟨j,k⟩,f⟩:=cK1 w b))|((go_at_call 92;(with_reducible refine(za7 _ u).mono ?_);rw[k3];rintro e R ⟨rfl,i⟩;obtain⟨⟨r,s⟩,m⟩:=cK1 w i))|((go_at_call 92;(with_reducible refine(za7 _ z).mono ?_);rw[k4];rintro e w3 ⟨rfl,l⟩;obtain⟨⟨D,K⟩,q⟩:=cK1 w l)))
       go_ret;exact⟨rfl,eA⟩
     ·go_enter Tryz.func28,Tryz.ntmps28
      go_wp2_with(first|((go_at_call 91;(with_reducible refine(g.out _ ?_).mono ?_);exact eA;rintro e P ⟨rfl,b⟩;obtain⟨⟨j,k⟩,f⟩:=cK1 w b))|((go_at_call 92;(with_reducible refine(za7 _ u).mono ?_);rw[k3];rintro e R ⟨rfl,i⟩;obtain⟨⟨r,s⟩,m⟩:=cK1 w i))|((go_at_call 92;(with_reducible refine(za7 _ z).mono ?_);rw[k4];rintro e w3 ⟨rfl,l⟩;obtain⟨⟨D,K⟩,q⟩:=cK1 w l)))
      go_ret;exact⟨rfl,eA⟩
    ·go_enter Tryz.func28,Tryz.ntmps28
     go_wp2_with(first|((go_at_call 91;(with_reducible refine(g.out _ ?_).mono ?_);exact eA;rintro e P ⟨rfl,b⟩;obtain⟨⟨j,k⟩,f⟩:=cK1 w b))|((go_at_call 92;(with_reducible refine(za7 _ u).mono ?_);rw[k3];rintro e R ⟨rfl,i⟩;obtain⟨⟨r,s⟩,m⟩:=cK1 w i)))
     go_ret;exact⟨rfl,eA⟩
   ·have x:wthn t 0 7=false:=by simp[wthn];omega
    rw[x,Bool.false_and];clear x;go_enter Tryz.func28,Tryz.ntmps28
    go_wp2_with(first|((go_at_call 91;(with_reducible refine(g.out _ ?_).mono ?_);exact eA;rintro e P ⟨rfl,b⟩;obtain⟨⟨j,k⟩,f⟩:=cK1 w b)))
    go_ret;exact⟨rfl,eA⟩
  ·have x:wthn t 0 7=false:=by simp[wthn];omega
   rw[x,Bool.false_and];clear x;go_enter Tryz.func28,Tryz.ntmps28
   go_wp2_with(first|((go_at_call 91;(with_reducible refine(g.out _ ?_).mono ?_);exact eA;rintro e P ⟨rfl,b⟩;obtain⟨⟨j,k⟩,f⟩:=cK1 w b)))
   go_ret;exact⟨rfl,eA⟩
end
section
open Go.RowKit Go.Shelf Go.Sort
def sortBy{α:Type}(B:α->Prop)[DecidablePred B](cf:α->α->Int)(d:{x // B x})(xs:List α):List α:=
 if h:∀x∈xs,B x then
  (@pdq {x // B x} ⟨d⟩ (ltOf fun x y:{x // B x}=>cf x.1 y.1) (xs.attachWith B h).toArray 0 xs.length (Lib.bitLen xs.length) true true).toList.map (·.1)
 else xs
theorem zaT{α:Type}{B:α->Prop}{xs:List α}(h:∀x∈xs,B x):(xs.attachWith B h).map (·.1)=xs:=sM
def BP(p:Int×Int):Prop:=Bd 1000000 p.1/\Bd 1000000 p.2
instance:DecidablePred BP:=fun p=>by unfold BP Bd;exact inferInstance
def BP0:{x // BP x}:=⟨(0,0),by decide⟩
def cfX(p q:Int×Int):Int:=p.1-q.1
def sortX(ps:LP):LP:=sortBy BP cfX BP0 ps
instance:Inhabited {x // BP x}:=⟨BP0⟩
theorem ltX(x y:{x // BP x}):ltOf (fun x y:{x // BP x}=>cfX x.1 y.1) x y=decide (x.1.1<y.1.1):=by
 unfold ltOf cfX;rw[decide_eq_decide];dsimp only;omega
theorem swoX:@SWO {x // BP x} (ltOf fun x y:{x // BP x}=>cfX x.1 y.1) where
 irrefl x:=by rw[ltX];simp
 trans x y z h1 h2:=by rw[ltX]at *;simp only[decide_eq_true_eq]at *;omega
 ntrans x y z h1 h2:=by rw[ltX]at *;simp only[decide_eq_false_iff_not]at *;omega
theorem zkX(x y:{x // BP x})(W:X):Calls Tryz.prog 126 #[C #[O Y x.1.1,O Y x.1.2],C #[O Y y.1.1,O Y y.1.2]] W fun e i=>e = .returned (O Y (cfX x.1 y.1))/\∃q os',i=grow (W.drewN q) os':=by
 obtain⟨⟨j,k⟩,⟨c,d⟩,a⟩:=x;obtain⟨⟨l,m⟩,⟨f,g⟩,b⟩:=y;unfold cfX;dsimp only at *;clear a b;go_enter Tryz.func126,Tryz.ntmps126;go_wp2;go_ret;exact⟨rfl,0,_,by rw[alloc_eq_grow,alloc_eq_grow,grow_grow];rfl⟩
theorem cmpLaysX(blk a size:Nat)(w:X):CmpLays Tryz.prog 126 #[] (fun x:{x // BP x}=>pc x.1) 2 (fun x y=>cfX x.1 y.1) blk a size w:=
 fun _ _ _ _ x y=>zkX x y _
theorem zhd{β:Type}[Inhabited β]{lt:β->β->Bool}(hO:SWO lt)(d:Array β)(l:Nat):(pdq lt d 0 d.size l true true).size=d.size/\(pdq lt d 0 d.size l true true).toList.Perm d.toList:=by
 obtain⟨a,_,b⟩:=(pdq_sorts lt hO d 0 d.size l true true (Nat.zero_le _) (nE _) (Or.inl rfl)).1;refine⟨a,?_⟩
 generalize pdq lt d 0 d.size l true true=d' at a b ⊢
 have c:d'.extract 0 d.size=d':=by rw[<-a];exact Array.extract_size
 rw[c,Array.extract_size]at b;exact b
theorem zgD{α:Type}{B:α->Prop}[DecidablePred B]{cf:α->α->Int}{d:{x // B x}}{xs:List α}(hO:@SWO {x // B x} (ltOf fun x y:{x // B x}=>cf x.1 y.1)):(sortBy B cf d xs).Perm xs:=by
 unfold sortBy
 split
 ·rename_i h
  have b:=(@zhd {x // B x} ⟨d⟩ _ hO (xs.attachWith B h).toArray (Lib.bitLen xs.length)).2;have a:=b.map (·.1);rw[show (xs.attachWith B h).toArray.size=xs.length by simp]at a;have e:(xs.attachWith B h).toArray.toList.map (·.1)=xs:=zaT h;rw[e]at a;exact a
 ·exact List.Perm.refl _
theorem zaS(ps:LP):(sortX ps).Perm ps:=zgD swoX
theorem zdb(w:X)(base g n c:Nat)(ps:LP)(h:OwnC 43 2 w base (Z (J ⟨g,0,M⟩) n c) (ps.map pc))(z:PBd 1000000 ps)(D:ps.length<=1000000) :
  Calls Tryz.prog 127 #[Z (J ⟨g,0,M⟩) n c,.func (.func 126) #[] #[]] w fun e f=>e = .returned (.tuple #[])/\OwnC 43 2 f base (Z (J ⟨g,0,M⟩) n c) ((sortX ps).map pc)/\w.grownBy f (J g):=by
 have p:=h.len;rw[lL]at p;obtain⟨d,o⟩:=gX ((ps.attachWith BP z).toArray);have a:d.size=n:=by rw[<-o,p,List.size_toArray];exact List.length_attachWith
 have j:d.toList.map (fun x=>pc x.1)=ps.map pc:=by
  rw[<-o,show (fun x:{x // BP x}=>pc x.1)=pc ∘ (·.1)from rfl,<-List.map_map]
  congr 1
  exact zaT z
 have Q:sortX ps=(pdq (ltOf fun x y:{x // BP x}=>cfX x.1 y.1) d 0 d.size (Lib.bitLen d.size) true true).toList.map (·.1):=by
  unfold sortX sortBy;rw[dif_pos (show ∀x∈ps,BP x from z),a,o,p]
 have hg:=(h.lt g rfl).2;have K:∀args w,(callFunc 126 args).run Tryz.prog w = .ok (.enter 126 args) w:=enters_of Tryz.func126 kM rfl;have s:OwnC 43 2 w base (Z (J ⟨g,0,M⟩) n c) (d.toList.map fun x=>pc x.1):=by rw[j];exact h
 have t:=zhZ (enc:=fun x:{x // BP x}=>pc x.1) (fun _=>rfl) s;have b:Lib.bitLen d.size<4611686018427387904:=Nat.lt_of_le_of_lt (Lib.bitLen_le d.size 62 oM oM) oM;have l:Calls Tryz.prog 180 #[Z (J ⟨g,0,M⟩) d.size c,O Y 0,O Y d.size,O Y (Lib.bitLen d.size),.func (.func 126) #[] #[]] w fun e f=>e = .returned (.tuple #[])/\SWK (fun x:{x // BP x}=>pc x.1) 2 w g 0 (pdq (ltOf fun x y:{x // BP x}=>cfX x.1 y.1) d 0 d.size (Lib.bitLen d.size) true true) f:=AnyQ.pdqsortCmpFunc_all (P:=Tryz.prog) (ρ:=Tryz.pdqPoint_ren) Tryz.pdqPoint 2 Tryz.isAgg43 Tryz.sizeOf43 (fun x:{x // BP x}=>pc x.1) (fun x y=>cfX x.1 y.1) 126 #[] swoX g 0 c d w K (cmpLaysX g 0 d.size w) ⟨fun _=>rfl,fun x v hv=>by simp[pc]at hv;rcases hv with rfl|rfl<;>rfl,t,hg⟩ (d.size+1) 0 d.size (Lib.bitLen d.size) d w oM rfl (SWK.start t) (Nat.zero_le _) (nE _) oM b (Or.inl rfl)
 have k:Calls Tryz.prog 175 #[O .u64 (d.size:Int)] w fun e f=>e = .returned (O Y (Lib.bitLen d.size:Nat))/\f=w:=by
  have h:=Tryz.bits_Len (d.size:Int) w oM oM
  rwa [Int.toNat_natCast]at h
 have wr:IntKind.u64.wrap (d.size:Int)=d.size:=by simp[IntKind.wrap,IntKind.bits,IntKind.signed];omega
 have HX:=hd9 Q;have T:=hd9 s;rw[a]at wr;have i:=hd9 a;have R:n<=1000000:=oM
 rw[a]at l k;have r:=hd9 l;have q:=hd9 k;obtain⟨L,u⟩:=gX (Lib.bitLen n);rw[u]at l k;have Hp:=hd9 l;have Hl:=hd9 k;have W:=hd9 u;clear l k Q s o a u b K j t h p D r q;go_enter Tryz.func127,Tryz.ntmps127
 go_wp2_with(first|((go_at_call 175;(with_reducible refine Hl.out.mono ?_);rintro e f ⟨rfl,rfl⟩))|((go_at_call 180;(with_reducible refine Hp.out.mono ?_);rintro e f ⟨rfl,m,os,rfl⟩)))
 go_end0
 refine⟨rfl,?_,zlN _⟩;have:=zgE (m:=m) (os:=os) (enc:=fun x:{x // BP x}=>pc x.1) (fun _=>rfl) (d':=pdq (ltOf fun x y:{x // BP x}=>cfX x.1 y.1) d 0 n L true true) T.out ?_
 ·rw[HX.out,i.out,W.out,List.map_map]
  exact this
 ·have:=(zhd swoX d L).1
  rw[i.out]at this ⊢;exact this
end
end Go.Proofs.YtjnjpagegkcgfaaGreatDoor.Cop
