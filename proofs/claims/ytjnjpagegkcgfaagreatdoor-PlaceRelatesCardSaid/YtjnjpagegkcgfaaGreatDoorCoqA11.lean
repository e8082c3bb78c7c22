import Derived.Test.YtjnjpagegkcgfaaGreatDoorCoqA10
import Derived.Test.YtjnjpagegkcgfaaGreatDoorRows
import Derived.Test.YtjnjpagegkcgfaaGreatDoorCards
import Derived.Test.YtjnjpagegkcgfaaGreatDoorTie
import Derived.LaidMore
import Derived.Lay
import Derived.Stop.Joined
import Derived.OpenShut
import Derived.SevenTiedAt
set_option maxRecDepth 1000000
set_option maxHeartbeats 16000000
set_option linter.all false
open Go.Value renaming int->O,slice->J,bool->A,agg->L,pointer->Ob
open Go.IntKind renaming i64->Y,u8->U
open Option renaming none->I,some->G
open Go.Obj renaming cells->M
open Go renaming World->C,Value->F,Addr->Oa
namespace Go.Proofs.YtjnjpagegkcgfaaGreatDoor.Cop
section
open Go.RowKit Go.Shelf
attribute [local go_sem] Oper.semAt_some
def ZK(w:C)(v:F)(n:Int)(h:Id w v n)(h0:0<=n)(h1:n<281474976710656):Calls Tryz.prog 61 #[v] w fun e o=>e=.returned (.tuple #[O Y n,A true])/\Aa w o:=by
 obtain⟨a,m,c,s,rfl⟩:=h.form;have hs:s=false:=by rw[h.sgn];simp;omega
 subst hs;have hl:Lm Mc n:=Lm.mono (j:=2) ⟨by unfold B;omega,by unfold B;omega⟩ dM;have r:Lm Mc (-9223372036854775808):=Lm.mono (j:=3) ⟨by unfold B;omega,by unfold B;omega⟩ dM;have t:Lm Mc 9223372036854775807:=Lm.mono (j:=3) ⟨by unfold B;omega,by unfold B;omega⟩ dM;have K:=ka (fun(W:C)=>Iw W (-9223372036854775808) dM dM);have P:=ka (fun(W:C)=>Iw W 9223372036854775807 dM dM);have y:=ka (fun(W:C)(p:Aa w W)(v:F)(hv:Id W v (-9223372036854775808))=>(EB W (L #[J a m c,A false]) v n (-9223372036854775808) (h.ext p) hv hl r).mono fun e o (q:e=.returned (O Y (n - -9223372036854775808).sign)/\Aa W o)=>(show e=.returned (O Y 1)/\Aa W o from by rw[Int.sign_eq_one_of_pos oM]at q;exact q));have z:=ka (fun(W:C)(p:Aa w W)(v:F)(hv:Id W v 9223372036854775807)=>(EB W (L #[J a m c,A false]) v n 9223372036854775807 (h.ext p) hv hl t).mono fun e o (q:e=.returned (O Y (n-9223372036854775807).sign)/\Aa W o)=>(show e=.returned (O Y (-1))/\Aa W o from by rw[Int.sign_eq_neg_one_of_neg oM]at q;exact q));have HW:=ka (fun(W:C)(p:Aa w W)=>Pu W (L #[J a m c]) n (by have:=h.dig;rw[show ((n.natAbs:Nat):Int)=n by omega]at this;exact this.ext p) ⟨by unfold B;omega,by unfold B;omega⟩);clear h hl r t;go_in;go_wp2;refine Uc [(⟨w.heap.size,0,I⟩,J a m c),(⟨w.heap.size,1,I⟩,A false)] cA fun b=>?_;refine Ib (i:=0) ?_;refine Fb (i:=1) (K.o _) ?_;rintro e w1 ⟨r1,rfl,d,u⟩;obtain⟨a1,m1,c1,s1,rfl⟩:=d.form;refine⟨_,rfl,(cE b u),fun b=>?_⟩;have R:Aa w w1:=eA;refine Fb (i:=2) (y.o _ R _ d) ?_;rintro e w2 ⟨rfl,g⟩;refine⟨_,rfl,(cE b g),fun b=>?_⟩;have X2:Aa w w2:=R.trans g;refine sN 3 ?_
 iterate 3 refine Bb ?_
 refine oN ?_;refine Fb (i:=6) (P.o _) ?_;rintro e w6 ⟨r6,rfl,f,k⟩;obtain⟨a6,m6,c6,s6,rfl⟩:=f.form;refine⟨_,rfl,(cE b k),fun b=>?_⟩;have X6:Aa w w6:=X2.trans k;refine Fb (i:=7) (z.o _ X6 _ f) ?_;rintro e w7 ⟨rfl,l⟩;refine⟨_,rfl,(cE b l),fun b=>?_⟩;have X7:Aa w w7:=X6.trans l;refine sN 8 ?_
 iterate 2 refine Bb ?_
 refine oN ?_;refine Sb ?_;obtain⟨d0,d1,_⟩:=b;have e1:IntKind.i64.wrap n=n:=iW _ oM;clear u g k l R X2 X6 d f;go_wp2_with((go_at_call 138;refine cM (HW.o _ X7) ?_;rintro e w8 ⟨rfl,x⟩;obtain⟨aa,ab⟩:=x.cells;(have z8:w.heap.size<w7.heap.size:=World.block_lt_of_cell? _ _ d0)));refine bR (v:=.tuple #[O Y n,A true]) (by simp[results,Tryz.results61,go_sem]) rfl ?_;exact⟨rfl,X7.trans x⟩
end
section
open Go.RowKit Go.Shelf
def Vd:List UInt8->Nat
 | []=>0
 | b::r=>(b.toNat-48)*10 ^ r.length+Vd r
def jg(s:List UInt8):Prop:=∀b∈s,48<=b.toNat/\b.toNat<58
def jg.tail{b:UInt8}{s:List UInt8}(h:jg (b::s)):jg s:=fun x a=>h x (mC _ a)
def jg.app{s t:List UInt8}(h:jg s)(k:jg t):jg (s++t):=fun b a=>(List.mem_append.1 a).elim (h b) (k b)
def iM:∀(s t:List UInt8),Vd (s++t)=Vd s*10 ^ t.length+Vd t
 | [],t=>by simp[Vd]
 | b::s,t=>by
  rw[List.cons_append,Vd,Vd,iM s t,lA,Nat.pow_add,Nat.add_mul,Nat.mul_assoc,Nat.add_assoc]
def KD:∀{s:List UInt8},jg s->Vd s<10 ^ s.length
 | [],_=>by simp[Vd]
 | b::s,h=>by
  have a:=KD h.tail;have c:=h b sM;have d:(b.toNat-48)*10 ^ s.length<=9*10 ^ s.length:=Nat.mul_le_mul_right _ oM;rw[Vd,List.length_cons,Nat.pow_succ];omega
def qt:∀{s t:List UInt8},jg s->jg t->s.length=t.length->Vd s=Vd t->s=t
 | [],[],_,_,_,_=>rfl
 | [],_::_,_,_,h,_=>by simp at h
 | _::_,[],_,_,h,_=>by simp at h
 | b::s,c::t,hs,ht,hl,hv=>by
  have a:s.length=t.length:=by simpa using hl
  rw[Vd,Vd,a]at hv;have d:=KD hs.tail;have e:=KD ht.tail;rw[a]at d;have m:=hs b sM;have n:=ht c sM;have f:∀(x y u v P:Nat),u<P->v<P->x*P+u=y*P+v->x<=y:=fun x y u v P p hv o=>by
   by_cases h:x<=y
   ·exact h
   ·have:(y+1)*P<=x*P:=Nat.mul_le_mul_right _ oM;rw[Nat.add_mul]at this;omega
  have k:=f _ _ _ _ _ d e hv;have l:=f _ _ _ _ _ e d hv.symm;have g:b.toNat-48=c.toNat-48:=oM;rw[g]at hv;have i:Vd s=Vd t:=oM;have j:b=c:=UInt8.toNat_inj.1 oM;rw[j,qt hs.tail ht.tail a i]
def CK(n:Nat)(h:n<10000000):Vd (Jf n)=n:=by
 have e:∀d:Nat,(UInt8.ofNat (48+d%10)).toNat-48=d%10:=fun d=>by
  rw[UInt8.toNat_ofNat_of_lt' (by simp[UInt8.size];omega)];omega
 unfold Jf;simp only[List.map_cons,List.map_nil,Vd,e,List.length_cons,List.length_nil];omega
def vM(n:Nat):jg (Jf n):=by intro b a;unfold Jf at a;obtain⟨d,_,rfl⟩:=List.mem_map.1 a;rw[UInt8.toNat_ofNat_of_lt' (by simp[UInt8.size];omega)];omega
def Lx:∀(k n:Nat),n<k->Vd (Wa k n).flatten=n/\jg (Wa k n).flatten
 | 0,_,h=>by omega
 | k+1,n,h=>by
  unfold Wa;split
  ·rename_i h0;exact⟨by rw[h0];rfl,fun b d=>by simp at d⟩
  ·obtain⟨a,c⟩:=Lx k (n/10000000) oM;rw[List.flatten_append,List.flatten_singleton];refine⟨?_,c.app (vM _)⟩;rw[iM,a,CK _ oM,qM];omega
def Jw:∀{s:List UInt8},Vd (Lib.trimLeftB s 48)=Vd s
 | []=>rfl
 | b::s=>by
  unfold Lib.trimLeftB;rw[List.dropWhile_cons];split
  ·rename_i h;have e:b=48:=by simpa using h
   subst e;have:=Jw (s:=s);unfold Lib.trimLeftB at this;rw[this,Vd];simp
  ·rfl
def CD:∀{s:List UInt8}{b:UInt8}{r:List UInt8},Lib.trimLeftB s 48=b::r->b≠48
 | [],b,r,h=>by cases h
 | c::s,b,r,h=>by
  unfold Lib.trimLeftB at h;rw[List.dropWhile_cons]at h;split at h
  ·exact CD (s:=s) h
  ·rename_i hc;cases h;simpa using hc
def SB{s:List UInt8}{n:Nat}(l:n≠0)(f:jg s)(hv:Vd s=n)(p:10 ^ (s.length-1)<=n):Se n=s:=by
 obtain⟨j,k⟩:=Lx (n+1) n oM;have a:=Jw (s:=(Wa (n+1) n).flatten);rw[j]at a;have c:jg (Lib.trimLeftB (Wa (n+1) n).flatten 48):=fun b d=>k b ((List.dropWhile_suffix _).subset d);unfold Se;generalize ht:Lib.trimLeftB (Wa (n+1) n).flatten 48=t at *
 cases t with
 | nil=>exact absurd a.symm l
 | cons b r =>
  rw[if_neg sM];have d:=CD ht;have m:=c b sM;have o:49<=b.toNat:=by
   have:b.toNat≠48:=fun e=>d (UInt8.toNat_inj.1 (by simpa using e));omega
  have q:10 ^ r.length<=n:=by
   rw[<-a,Vd];have:1*10 ^ r.length<=(b.toNat-48)*10 ^ r.length:=Nat.mul_le_mul_right _ oM;omega
  have g:=KD c;have i:=KD f;rw[a]at g;rw[hv]at i;have v:r.length<s.length:=(Nat.pow_lt_pow_iff_right (by decide:1<10)).1 (Nat.lt_of_le_of_lt q i);have u:s.length-1<(b::r).length:=(Nat.pow_lt_pow_iff_right (by decide:1<10)).1 (Nat.lt_of_le_of_lt p g);refine qt c f ?_ (by rw[a,hv]);rw[List.length_cons]at u ⊢;omega
def qL:Ad 1=[49]:=by unfold Ad;rw[if_neg dM];exact SB dM (fun b a=>by rw[List.mem_singleton.1 a];decide) dM dM
def KK{d:Nat}(c:d≠1):Ad (d:Int)≠[49]:=by
 intro h;unfold Ad at h;rw[if_neg oM,Int.natAbs_natCast]at h;obtain⟨b,e⟩:=Lx (d+1) d oM;have a:=Jw (s:=(Wa (d+1) d).flatten);unfold Se at h;split at h
 ·cases h
 ·rw[h,b]at a;exact c (a.symm.trans dM)
def FK{s:List UInt8}{V:Nat}{i k g:Nat}(d:jg s)(c:s.length=4*i+k)(hv:Vd s=V+10000 ^ i*(g%10 ^ k)):jg (UInt8.ofNat (48+g/10 ^ k%10)::s)/\(UInt8.ofNat (48+g/10 ^ k%10)::s).length=4*i+(k+1)/\Vd (UInt8.ofNat (48+g/10 ^ k%10)::s)=V+10000 ^ i*(g%10 ^ (k+1)):=by
 have e:(UInt8.ofNat (48+g/10 ^ k%10)).toNat=48+g/10 ^ k%10:=UInt8.toNat_ofNat_of_lt' (by simp[UInt8.size];omega);refine⟨fun b a=>?_,by rw[List.length_cons,c];omega,?_⟩
 ·rcases List.mem_cons.1 a with rfl|a
  ·omega
  ·exact d b a
 ·rw[Vd,e,c,hv,Nat.mod_pow_succ,Nat.pow_add,Nat.pow_mul,Nat.add_sub_cancel_left,Nat.mul_add];generalize g/10 ^ k%10=x;have:x*((10 ^ 4) ^ i*10 ^ k)=10000 ^ i*(10 ^ k*x):=by
   rw[show (10:Nat) ^ 4=10000 from rfl,Nat.mul_comm x,Nat.mul_assoc]
  omega
def qI{n i k g:Nat}{s:List UInt8}{V:Nat}(f:jg s)(j:s.length=4*i+k)(hv:Vd s=V+10000 ^ i*(g%10 ^ k))(l:g/10 ^ k=0)(m:0<k)(a:0<g/10 ^ (k-1))(b:n=V+10000 ^ i*g):Se n=s:=by
 have c:g<10 ^ k:=by
  rcases Nat.div_eq_zero_iff.1 l with h|h
  ·exact absurd h (Nat.ne_of_gt (Nat.pow_pos dM))
  ·exact h
 have d:10 ^ (k-1)<=g:=by
  by_cases h:10 ^ (k-1)<=g
  ·exact h
  ·rw[Nat.div_eq_of_lt oM]at a;omega
 rw[Nat.mod_eq_of_lt c,<-b]at hv;have e:10 ^ (s.length-1)<=n:=by
  rw[j,show 4*i+k-1=4*i+(k-1) by omega,Nat.pow_add,Nat.pow_mul,show (10:Nat) ^ 4=10000 from rfl,b];exact nT (Nat.mul_le_mul_left _ d) (Nat.le_add_left _ _)
 refine SB ?_ f hv e;have:0<10 ^ (s.length-1):=Nat.pow_pos dM;omega
end
section
open Go.RowKit Go.Shelf
attribute [local go_sem] Oper.semAt_some
def AB:∀d:Nat,d<10->Utf8.encode (48+(d:Int))=⟨[UInt8.ofNat (48+d)].toArray⟩:=by
 intro d h
 match d,h with
 | 0,_=>rfl
 | 1,_=>rfl
 | 2,_=>rfl
 | 3,_=>rfl
 | 4,_=>rfl
 | 5,_=>rfl
 | 6,_=>rfl
 | 7,_=>rfl
 | 8,_=>rfl
 | 9,_=>rfl
def LF(xs:List Int)(N i:Nat)(s:List UInt8):Prop:=
 i<=xs.length/\s.length<=4*i/\(i<xs.length->jg s/\s.length=4*i/\((Vd s:Nat):Int)=dv C4 (xs.take i))/\(i=xs.length->Se N=s)
def qo(n i V g k:Nat)(s:List UInt8):Prop:=k<=4/\jg s/\s.length=4*i+k/\Vd s=V+10000 ^ i*(g%10 ^ k)/\(k=0\/i+1<n\/0<g/10 ^ (k-1))
def qo.step{n i V g k:Nat}{s:List UInt8}(h:qo n i V g k s)(l:k<4)(j:i+1<n\/0<g/10 ^ k):qo n i V g (k+1) (UInt8.ofNat (48+g/10 ^ k%10)::s):=by obtain⟨_,d,e,f,_⟩:=h;obtain⟨a,b,c⟩:=FK d e f;exact⟨by omega,a,b,c,by rw[Nat.add_sub_cancel];exact .inr j⟩
def qo.done{xs:List Int}{N i V g k:Nat}{s:List UInt8}(h:qo xs.length i V g k s)(c:xs[i]?=G (g:Int))(o:xg C4 xs)(y:((V:Nat):Int)=dv C4 (xs.take i))(x:dv C4 xs=(N:Int))(q:k=4\/(g/10 ^ k=0/\¬i+1<xs.length)):LF xs N (i+1) s:=by
 obtain⟨K,m,t,n,u⟩:=h;have z:=(lS.1 c).1;have r:g<10000:=by
  have:=(o.1 _ (lM c)).2;unfold C4 at this;omega
 have p:=Uk C4 xs i (g:Int) c;have v:(C4:Int) ^ i=((10000 ^ i:Nat):Int):=by unfold C4;rw[Int.natCast_pow];rfl
 rw[<-y,v]at p;have a:dv C4 (xs.take (i+1))=((V+10000 ^ i*g:Nat):Int):=by rw[p,Int.natCast_add,Int.natCast_mul]
 refine⟨by omega,by omega,fun j=>?_,fun d=>?_⟩
 ·have b:k=4:=by
   rcases q with e|⟨_,e⟩
   ·exact e
   ·exact absurd j e
  subst b;refine⟨m,by omega,?_⟩;rw[n,Nat.mod_eq_of_lt (by simpa using r),a]
 ·rw[d,List.take_length]at a;have f:g≠0:=by
   rintro rfl;refine o.2 ?_;rw[List.getLast?_eq_getElem?,show xs.length-1=i by omega,c];rfl
  have l:g/10 ^ k=0:=by
   rcases q with rfl|⟨e,_⟩
   ·exact Nat.div_eq_of_lt (by simpa using r)
   ·exact e
  have b:0<k:=by
   rcases Nat.eq_zero_or_pos k with rfl|b
   ·simp at l;exact absurd l f
   ·exact b
  refine qI m t n l b ?_ (by rw[x]at a;exact_mod_cast a);rcases u with e|e|e
  ·omega
  ·omega
  ·exact e
def KQ(xs:List Int)(N:Nat)(W0:C)(t3 t4:F)(W:C):Prop:=∃(i:Nat)(s:List UInt8),t4=O Y i/\t3 = .string ⟨s.toArray⟩/\LF xs N i s/\W=W0
def LQ(n i V g:Nat)(W0:C)(t3 t5 a:F)(W:C):Prop:=∃(k:Nat)(s:List UInt8),a=O Y k/\t5=O Y ((g/10 ^ k:Nat):Int)/\t3 = .string ⟨s.toArray⟩/\qo n i V g k s/\W=W0
def vI:Ad 0=[48]:=rfl
def VE(w:C)(v:F)(n:Int)(h:yd w v n)(hl:Lm Zb n):Calls Tryz.prog 168 #[v] w fun e w'=>e=.returned (.string ⟨(Ad n).toArray⟩)/\Aa w w':=by
 obtain⟨σ,a,m,c,rfl,hs⟩:=h.j;obtain⟨xs,l,hi,hc,hv⟩:=h.open;have hm:=Jl hl hc hv;rw[l]at hm;unfold Zb at hm;by_cases h0:n=0
 ·subst h0;obtain rfl:σ=0:=hs;rw[vI];clear h hl l hi hc hv hm;go_in;go_wp2;go_ret;exact⟨rfl,eA⟩
 ·have aB:(σ==0)=false:=by
   rcases Ee n with ⟨e,_⟩|⟨_,e⟩|⟨e,_⟩
   ·rw[hs,e];rfl
   ·exact absurd e h0
   ·rw[hs,e];rfl
  obtain⟨T,hT⟩:=gX (Se n.natAbs);have HT:Ta (Se n.natAbs=T):=ka hT;have HL:Ta (T.length<=20*Zb):=ka (by rw[<-hT];exact Qu hl.abs);have hz:(decide (σ<0)=true/\Ad n=45::T)\/(decide (σ<0)=false/\Ad n=T):=by
   unfold Ad;rw[hT];rcases Ee n with ⟨e,e'⟩|⟨_,e⟩|⟨e,e'⟩
   ·exact .inl ⟨by rw[hs,e];rfl,if_pos e'⟩
   ·exact absurd e h0
   ·exact .inr ⟨by rw[hs,e];rfl,if_neg oM⟩
  obtain⟨Z,hZ⟩:=gX (Ad n);rw[hZ]at hz ⊢;have Hz:=ka hz;obtain⟨N,hN⟩:=gX n.natAbs;rw[hN]at hv HT;have aA:0<m:=by
   rcases Nat.eq_zero_or_pos m with e|e
   ·rw[<-l]at e;rw[List.length_eq_zero_iff.1 e]at hv;have:(0:Int)=(N:Int):=hv;omega
   ·exact e
  have Hv:=ka hv;have Hc:=ka hc;have z:=ka l;obtain⟨W0,d⟩:=gX (w.alloc (M #[O Y σ,J a m c] 66));have X0:Aa w W0:=by rw[<-d];exact(eR w).alloc _
  have ab:=ka X0;have p0:W0.cell? ⟨w.heap.size,0,I⟩=G (O Y σ):=by rw[<-d];clear d;go_simp
  have p1:W0.cell? ⟨w.heap.size,1,I⟩=G (J a m c):=by rw[<-d];clear d;go_simp
  have z0:w.heap.size<W0.heap.size:=by rw[<-d];simp
  obtain⟨b,o,rfl,aw,ai⟩:=(hi.ext X0).open (by rw[l];omega);have ak:=ka ai;clear hs h0 hl hT hz hZ hN hv hc l hi h X0 ai;go_in;go_wp2;go_loopw [3,4] (KQ xs N W0) (fun _ t4 _=>m-(intOf t4).toNat)
  case atStart =>
   exact⟨0,[],rfl,rfl,⟨by omega,by simp,fun _=>⟨fun b hb=>by simp at hb,rfl,rfl⟩,fun e=>by have:=z.o;omega⟩,by first|rfl|exact d⟩
  case round =>
   clear d;obtain⟨i,s8,rfl,rfl,hO,rfl⟩:=hrel;have ay:i<=m:=by have:=hO.1;rw[z.o]at this;exact this
   have HO:=ka hO;clear hO;by_cases aq:i<m
   ·obtain⟨x,u⟩:∃x,xs[i]?=G x:=⟨_,gE (by rw[z.o];omega)⟩;have aj:=Hc.o.1 x (lM u);obtain⟨g,rfl⟩:∃g:Nat,x=(g:Int):=⟨x.toNat,by omega⟩;have ax:(g:Int)<10000:=aj.2;have av:=ak.o i _ u;obtain⟨ad,ae,af⟩:=HO.o.2.2.1 (by rw[z.o];exact aq);have ac:=ka u;have al:=ka ad;have am:=ka ae;have aa:=ka af;have g0:(0:Int)<=(i:Int):=oM;have g1:(i:Int)<(m:Int):=oM;clear aj u ad ae af HO;go_wp2;go_loopw [3,5,6] (LQ m i (Vd s8) g wr) (fun _ _ t6 _=>4-(intOf t6).toNat)
    case atStart =>
     exact⟨0,s8,rfl,by simp,rfl,⟨by omega,al.o,am.o,by rw[Nat.pow_zero,Nat.mod_one];simp,.inl rfl⟩,rfl⟩
    case round =>
     obtain⟨k,P,rfl,rfl,rfl,hJ,rfl⟩:=hrel;have az:k<=4:=hJ.1;obtain⟨y,hy⟩:=gX (g/10 ^ k);(have aD:y<10000:=by rw[<-hy];exact Nat.lt_of_le_of_lt (Nat.div_le_self _ _) oM);rw[hy];have HJ:=ka hJ;have Hy:=ka hy;clear hJ hy;by_cases K:k<4
     ·by_cases au:0<y
      ·have p:i+1<m\/0<g/10 ^ k:=.inr (by rw[Hy.o];exact au);obtain⟨r,hr⟩:=gX (Int.tmod (y:Int) 10);obtain⟨q,hq⟩:=gX (Int.tdiv (y:Int) 10);obtain⟨ch,f⟩:=gX (UInt8.ofNat (48+y%10));(have t:r=((y%10:Nat):Int):=by rw[<-hr];rfl);(have s:q=((y/10:Nat):Int):=by rw[<-hq];rfl);(have ao:Utf8.encode (48+r)=⟨[ch].toArray⟩:=by rw[t,<-f];exact AB _ oM);have r0:0<=r:=oM;have r1:r<10:=oM;have q0:0<=q:=oM;have q1:q<10000:=oM;have j:=HJ.o.step K p;rw[Hy.o,f]at j;have W:=ka j;have R:=ka s;(have ah:¬9223372036854775807<1+P.length:=by have:=HJ.o.2.2.1;omega);clear p j s t f;go_wp2;go_roundw
       case rel =>
        refine⟨k+1,ch::P,by go_num,?_,?_,W.o,rfl⟩
        ·rw[Nat.pow_succ,<-Nat.div_div_eq_div_mul,Hy.o,<-R.o];try go_num
        ·exact congrArg Value.string (Sn [ch] P)
       case measure=>simp[intOf];omega
      ·have an:Ta (y=0):=ka oM;have aC:¬(0:Int)<(y:Int):=oM;by_cases ag:i+1<m
       ·have ap:(i:Int)<(m:Int)-1:=oM;have p:i+1<m\/0<g/10 ^ k:=.inl ag;obtain⟨r,hr⟩:=gX (Int.tmod (y:Int) 10);obtain⟨q,hq⟩:=gX (Int.tdiv (y:Int) 10);obtain⟨ch,f⟩:=gX (UInt8.ofNat (48+y%10));(have t:r=((y%10:Nat):Int):=by rw[<-hr];rfl);(have s:q=((y/10:Nat):Int):=by rw[<-hq];rfl);(have ao:Utf8.encode (48+r)=⟨[ch].toArray⟩:=by rw[t,<-f];exact AB _ oM);have r0:0<=r:=oM;have r1:r<10:=oM;have q0:0<=q:=oM;have q1:q<10000:=oM;have j:=HJ.o.step K p;rw[Hy.o,f]at j;have W:=ka j;have R:=ka s;(have ah:¬9223372036854775807<1+P.length:=by have:=HJ.o.2.2.1;omega);clear p j s t f;go_wp2;go_roundw
        case rel =>
         refine⟨k+1,ch::P,by go_num,?_,?_,W.o,rfl⟩
         ·rw[Nat.pow_succ,<-Nat.div_div_eq_div_mul,Hy.o,<-R.o];try go_num
         ·exact congrArg Value.string (Sn [ch] P)
        case measure=>simp[intOf];omega
       ·have ap:¬(i:Int)<(m:Int)-1:=oM;go_wp2;go_roundw
        case rel =>
         refine⟨i+1,P,by go_num,rfl,?_,rfl⟩;exact qo.done (by rw[z.o];exact HJ.o) ac.o Hc.o aa.o Hv.o (.inr ⟨Hy.o.trans an.o,by rw[z.o];exact ag⟩)
        case measure=>simp[intOf];omega
     ·obtain rfl:k=4:=oM;go_wp2;go_roundw
      case rel =>
       refine⟨i+1,P,by go_num,rfl,?_,rfl⟩;exact qo.done (by rw[z.o];exact HJ.o) ac.o Hc.o aa.o Hv.o (.inl rfl)
      case measure=>simp[intOf];omega
   ·obtain rfl:i=m:=oM;have ar:T=s8:=HT.o.symm.trans (HO.o.2.2.2 z.o.symm);subst ar;(have ah:¬9223372036854775807<1+T.length:=by have:=HL.o;unfold Zb at this;omega);rcases Hz.o with ⟨hd,ht⟩|⟨hd,ht⟩
    ·have Ht:=ka ht;clear ht Hz;go_wp2;go_ret;exact⟨by rw[Ht.o,show (⟨#[45]⟩:ByteArray)=⟨[45].toArray⟩from rfl,Sn];rfl,ab.o⟩
    ·have Ht:=ka ht;clear ht Hz;go_wp2;go_ret;exact⟨by rw[Ht.o];rfl,ab.o⟩
end
section
open Go.RowKit Go.Shelf Go.Sort Go.Lib
def yC{g:LP}:∀{c done:List Pl},me g done c=0->∀p∈c,Ca p=true
 | [],_,_,p,b=>by cases b
 | q::r,done,h,p,b=>by
  unfold me at h;by_cases a:qh g done q=0
  ·rw[if_pos a]at h;rcases List.mem_cons.1 b with rfl|b
   ·cases hk:Ca p with
    | true=>rfl
    | false=>unfold qh at a;rw[hk]at a;simp at a
   ·exact yC h p b
  ·rw[if_neg a]at h;exact absurd h a
def Ku{g:LP}{ps:List Pl}(h:Rc g ps=0):(∀p∈ps,Ca p=true)/\ps.length<=120/\Nb g=true:=by
 unfold Rc at h;cases hg:Nb g with
 | false=>rw[hg]at h;simp at h
 |true=>
  rw[hg,if_pos rfl]at h;by_cases b:120<ps.length
  ·rw[if_pos b]at h;exact absurd h dM
  ·rw[if_neg b]at h;by_cases a:me g [] ps=0
   ·exact⟨yC a,by omega,rfl⟩
   ·rw[if_neg a]at h;exact absurd h a
def Gm(w:C)(base:Nat)(v:F)(ps:List Pl):Prop:=∃cs,Ka 47 10 w base v cs/\cs.length=ps.length/\∀(i:Nat) c p,cs[i]?=G c->ps[i]?=G p->Dn w c p
def Gm.pls{w:C}{base:Nat}{v:F}{ps:List Pl}(h:Gm w base v ps):Gf w v ps:=by obtain⟨d,a,b,c⟩:=h;exact a.sl b c
end
section
open Go.RowKit Go.Shelf Go.Sort Go.Lib
attribute [local go_sem] Oper.semAt_some
def Wm(w:C)(v1 v2:F)(p q:Pl)(h1:Fa w v1 p.shape)(h2:Fa w v2 q.shape)(k1:0<=p.skin)(k2:0<=q.skin)(aA:Gw w)(o1:Ca p=true)(o2:Ca q=true):Calls Tryz.prog 103 #[L (nc p v1),L (nc q v2)] w fun e w'=>∃r1 r2,e=.returned (.tuple #[r1,r2,A true])/\Qd w' r1 p/\Qd w' r2 q/\Aa w w':=by
 have au:=ka (fun(W:C)(hW:Aa w W)=>Tu W p _ (h1.f hW) k1);have av:=ka (fun(W:C)(hW:Aa w W)=>Tu W q _ (h2.f hW) k2);rw[if_pos o1]at au;rw[if_pos o2]at av;have aw:=ka (fun(W:C)(hW:Aa w W)=>Wu W p _ (h1.f hW) o1 (aA.ext hW));have ay:=ka (fun(W:C)(hW:Aa w W)=>Wu W q _ (h2.f hW) o2 (aA.ext hW));have H1:=ka h1;have H2:=ka h2;obtain⟨f,j,g,rfl⟩:=Ja h1;obtain⟨k,m,l,rfl⟩:=Ja h2;clear h1 h2 k1 k2 aA o1 o2;unfold nc at au av aw ay ⊢;unfold Em De at aw ay;go_in;go_upto_region 3 with (first|(go_at_call 28;(with_reducible refine(au.o _ ?_).mono ?_);exact eA;rintro e w5 ⟨rfl,aB⟩;obtain⟨aP,aR⟩:=aB.cells;(have z5:=aB.size);(try simp only[wZ]at z5);(have aW:w.heap.size<w5.heap.size:=oM);(have aX:w.heap.size+1<w5.heap.size:=oM))|(go_at_call 28;(with_reducible refine(av.o _ ?_).mono ?_);exact eA;rintro e x ⟨rfl,aC⟩;obtain⟨aQ,aS⟩:=aC.cells;(have z6:=aC.size);(try simp only[wZ]at z6);(have aY:w.heap.size<x.heap.size:=oM);(have aZ:w.heap.size+1<x.heap.size:=oM)));have X0:Aa w x:=eA;clear X0;have A1:x.heap[w.heap.size]?=G (M #[.string p.name,J f j g,O Y p.depth,O Y p.density,O Y p.gx,O Y p.gz,O Y p.way,O Y p.ax,O Y p.az,O U p.skin] 47 (0,0)):=Aa.e (a:=w.alloc (M #[.string p.name,J f j g,O Y p.depth,O Y p.density,O Y p.gx,O Y p.gz,O Y p.way,O Y p.ax,O Y p.az,O U p.skin] 47)) eA (aN _ _);have A2:x.heap[w.heap.size+1]?=G (M #[.string q.name,J k m l,O Y q.depth,O Y q.density,O Y q.gx,O Y q.gz,O Y q.way,O Y q.ax,O Y q.az,O U q.skin] 47 (0,0)):=Aa.e (a:=(w.alloc (M #[.string p.name,J f j g,O Y p.depth,O Y p.density,O Y p.gx,O Y p.gz,O Y p.way,O Y p.ax,O Y p.az,O U p.skin] 47)).alloc (M #[.string q.name,J k m l,O Y q.depth,O Y q.density,O Y q.gx,O Y q.gz,O Y q.way,O Y q.ax,O Y q.az,O U q.skin] 47)) eA (Bc _ _ _ sM);have A3:x.heap[w.heap.size+1+1]?=G (M #[.string ⟨#[]⟩,J I 0 0,O Y 0,O Y 0,O Y 0,O Y 0,O Y 0,O Y 0,O Y 0,O U 0,J I 0 0,J I 0 0] 128 (0,0)):=Aa.e (a:=((w.alloc (M #[.string p.name,J f j g,O Y p.depth,O Y p.density,O Y p.gx,O Y p.gz,O Y p.way,O Y p.ax,O Y p.az,O U p.skin] 47)).alloc (M #[.string q.name,J k m l,O Y q.depth,O Y q.density,O Y q.gx,O Y q.gz,O Y q.way,O Y q.ax,O Y q.az,O U q.skin] 47)).alloc (M #[.string ⟨#[]⟩,J I 0 0,O Y 0,O Y 0,O Y 0,O Y 0,O Y 0,O Y 0,O Y 0,O U 0,J I 0 0,J I 0 0] 128)) eA (Bc _ _ _ sM);have A4:x.heap[w.heap.size+1+1+1]?=G (M #[.string ⟨#[]⟩,J I 0 0,O Y 0,O Y 0,O Y 0,O Y 0,O Y 0,O Y 0,O Y 0,O U 0,J I 0 0,J I 0 0] 128 (0,0)):=Aa.e (a:=(((w.alloc (M #[.string p.name,J f j g,O Y p.depth,O Y p.density,O Y p.gx,O Y p.gz,O Y p.way,O Y p.ax,O Y p.az,O U p.skin] 47)).alloc (M #[.string q.name,J k m l,O Y q.depth,O Y q.density,O Y q.gx,O Y q.gz,O Y q.way,O Y q.ax,O Y q.az,O U q.skin] 47)).alloc (M #[.string ⟨#[]⟩,J I 0 0,O Y 0,O Y 0,O Y 0,O Y 0,O Y 0,O Y 0,O Y 0,O U 0,J I 0 0,J I 0 0] 128)).alloc (M #[.string ⟨#[]⟩,J I 0 0,O Y 0,O Y 0,O Y 0,O Y 0,O Y 0,O Y 0,O Y 0,O U 0,J I 0 0,J I 0 0] 128)) eA (Bc _ _ _ sM);have X6:Aa w x:=eA;clear aP aR z5 aW aX aQ aS z6 aY aZ aB aC;have hC:Ea [((⟨w.heap.size,0,I⟩:Oa),(.string p.name:F)),(⟨w.heap.size,1,I⟩,J f j g),(⟨w.heap.size,2,I⟩,O Y p.depth),(⟨w.heap.size,3,I⟩,O Y p.density),(⟨w.heap.size,4,I⟩,O Y p.gx),(⟨w.heap.size,5,I⟩,O Y p.gz),(⟨w.heap.size,6,I⟩,O Y p.way),(⟨w.heap.size,7,I⟩,O Y p.ax),(⟨w.heap.size,8,I⟩,O Y p.az),(⟨w.heap.size,9,I⟩,O U p.skin),(⟨w.heap.size+1,0,I⟩,.string q.name),(⟨w.heap.size+1,1,I⟩,J k m l),(⟨w.heap.size+1,2,I⟩,O Y q.depth),(⟨w.heap.size+1,3,I⟩,O Y q.density),(⟨w.heap.size+1,4,I⟩,O Y q.gx),(⟨w.heap.size+1,5,I⟩,O Y q.gz),(⟨w.heap.size+1,6,I⟩,O Y q.way),(⟨w.heap.size+1,7,I⟩,O Y q.ax),(⟨w.heap.size+1,8,I⟩,O Y q.az),(⟨w.heap.size+1,9,I⟩,O U q.skin)] x:=by
  refine⟨Ba A1 (i:=0) rfl,Ba A1 (i:=1) rfl,Ba A1 (i:=2) rfl,Ba A1 (i:=3) rfl,Ba A1 (i:=4) rfl,Ba A1 (i:=5) rfl,Ba A1 (i:=6) rfl,Ba A1 (i:=7) rfl,Ba A1 (i:=8) rfl,Ba A1 (i:=9) rfl,Ba A2 (i:=0) rfl,Ba A2 (i:=1) rfl,Ba A2 (i:=2) rfl,Ba A2 (i:=3) rfl,Ba A2 (i:=4) rfl,Ba A2 (i:=5) rfl,Ba A2 (i:=6) rfl,Ba A2 (i:=7) rfl,Ba A2 (i:=8) rfl,Ba A2 (i:=9) rfl,trivial⟩
 refine Uc [((⟨w.heap.size,0,I⟩:Oa),(.string p.name:F)),(⟨w.heap.size,1,I⟩,J f j g),(⟨w.heap.size,2,I⟩,O Y p.depth),(⟨w.heap.size,3,I⟩,O Y p.density),(⟨w.heap.size,4,I⟩,O Y p.gx),(⟨w.heap.size,5,I⟩,O Y p.gz),(⟨w.heap.size,6,I⟩,O Y p.way),(⟨w.heap.size,7,I⟩,O Y p.ax),(⟨w.heap.size,8,I⟩,O Y p.az),(⟨w.heap.size,9,I⟩,O U p.skin),(⟨w.heap.size+1,0,I⟩,.string q.name),(⟨w.heap.size+1,1,I⟩,J k m l),(⟨w.heap.size+1,2,I⟩,O Y q.depth),(⟨w.heap.size+1,3,I⟩,O Y q.density),(⟨w.heap.size+1,4,I⟩,O Y q.gx),(⟨w.heap.size+1,5,I⟩,O Y q.gz),(⟨w.heap.size+1,6,I⟩,O Y q.way),(⟨w.heap.size+1,7,I⟩,O Y q.ax),(⟨w.heap.size+1,8,I⟩,O Y q.az),(⟨w.heap.size+1,9,I⟩,O U q.skin)] hC fun n=>?_;refine Ib (i:=0) ?_;refine Ib (i:=2) ?_;refine Fb (i:=1) (aw.o _ X6.drew) ?_;rintro e w7 ⟨vl,vu,rfl,aK,aL,aM⟩;obtain⟨⟨R,ae,ab,rfl⟩,ag,ak,ai,rfl⟩:=And.intro (Ja aK) (Ja aL);refine⟨_,rfl,(cE n aM),fun n=>?_⟩;have X7:Aa x w7:=(eR x).drew.trans aM;refine Fb (i:=3) (ay.o _ (X6.trans X7)) ?_;rintro e w8 ⟨a0,a1,rfl,aq,ar,ao⟩;obtain⟨⟨aa,af,ac,rfl⟩,ah,al,aj,rfl⟩:=And.intro (Ja aq) (Ja ar);refine⟨_,rfl,(cE n ao),fun n=>?_⟩;have X8:Aa x w8:=X7.trans ao;have r:=X8.e A3;have c:=X8.e A4;have x0:=Ba r (i:=0) (u:=.string ⟨#[]⟩) rfl;have x1:=Ba r (i:=1) (u:=J I 0 0) rfl;have x2:=Ba r (i:=2) (u:=O Y 0) rfl;have x3:=Ba r (i:=3) (u:=O Y 0) rfl;have x4:=Ba r (i:=4) (u:=O Y 0) rfl;have x5:=Ba r (i:=5) (u:=O Y 0) rfl;have x6:=Ba r (i:=6) (u:=O Y 0) rfl;have x7:=Ba r (i:=7) (u:=O Y 0) rfl;have x8:=Ba r (i:=8) (u:=O Y 0) rfl;have x9:=Ba r (i:=9) (u:=O U 0) rfl;have aD:=Ba r (i:=10) (u:=J I 0 0) rfl;have aE:=Ba r (i:=11) (u:=J I 0 0) rfl;have y0:=Ba c (i:=0) (u:=.string ⟨#[]⟩) rfl;have y1:=Ba c (i:=1) (u:=J I 0 0) rfl;have y2:=Ba c (i:=2) (u:=O Y 0) rfl;have y3:=Ba c (i:=3) (u:=O Y 0) rfl;have y4:=Ba c (i:=4) (u:=O Y 0) rfl;have y5:=Ba c (i:=5) (u:=O Y 0) rfl;have y6:=Ba c (i:=6) (u:=O Y 0) rfl;have y7:=Ba c (i:=7) (u:=O Y 0) rfl;have y8:=Ba c (i:=8) (u:=O Y 0) rfl;have y9:=Ba c (i:=9) (u:=O U 0) rfl;have am:=Ba c (i:=10) (u:=J I 0 0) rfl;have an:=Ba c (i:=11) (u:=J I 0 0) rfl;have xf:=Ya r;have yf:=Ya c;have aJ:∀b,w.heap.size+1<b->∀ad∈[((⟨w.heap.size,0,I⟩:Oa),(.string p.name:F)),(⟨w.heap.size,1,I⟩,J f j g),(⟨w.heap.size,2,I⟩,O Y p.depth),(⟨w.heap.size,3,I⟩,O Y p.density),(⟨w.heap.size,4,I⟩,O Y p.gx),(⟨w.heap.size,5,I⟩,O Y p.gz),(⟨w.heap.size,6,I⟩,O Y p.way),(⟨w.heap.size,7,I⟩,O Y p.ax),(⟨w.heap.size,8,I⟩,O Y p.az),(⟨w.heap.size,9,I⟩,O U p.skin),(⟨w.heap.size+1,0,I⟩,.string q.name),(⟨w.heap.size+1,1,I⟩,J k m l),(⟨w.heap.size+1,2,I⟩,O Y q.depth),(⟨w.heap.size+1,3,I⟩,O Y q.density),(⟨w.heap.size+1,4,I⟩,O Y q.gx),(⟨w.heap.size+1,5,I⟩,O Y q.gz),(⟨w.heap.size+1,6,I⟩,O Y q.way),(⟨w.heap.size+1,7,I⟩,O Y q.ax),(⟨w.heap.size+1,8,I⟩,O Y q.az),(⟨w.heap.size+1,9,I⟩,O U q.skin)],b≠ad.1.block:=by
  intro b hb ad hq;simp only[List.mem_cons,List.not_mem_nil,or_false]at hq;rcases hq with rfl|rfl|rfl|rfl|rfl|rfl|rfl|rfl|rfl|rfl|rfl|rfl|rfl|rfl|rfl|rfl|rfl|rfl|rfl|rfl<;>(dsimp only;omega)
 have aT:=aJ (w.heap.size+1+1) oM;have aU:=aJ (w.heap.size+1+1+1) oM;refine Vc (i:=4) fun K hK=>?_;go_simp;refine kO hK (by(iterate 12 refine Ea.set ?_ aT _);exact n) (fun n=>?_);clear hK K;clear x0 x1 x2 x3 x4 x5 x6 x7 x8 x9 aD aE y0 y1 y2 y3 y4 y5 y6 y7 y8 y9 am an xf yf;obtain⟨z,t⟩:=gX (jh w8 (w.heap.size+1+1) 0 [.string p.name,J f j g,O Y p.depth,O Y p.density,O Y p.gx,O Y p.gz,O Y p.way,O Y p.ax,O Y p.az,O U p.skin,J R ae ab,J ag ak ai]);have e9:((((((((((((w8.setCell ⟨w.heap.size+1+1,0,I⟩ (.string p.name)).setCell ⟨w.heap.size+1+1,1,I⟩ (J f j g)).setCell ⟨w.heap.size+1+1,2,I⟩ (O Y p.depth)).setCell ⟨w.heap.size+1+1,3,I⟩ (O Y p.density)).setCell ⟨w.heap.size+1+1,4,I⟩ (O Y p.gx)).setCell ⟨w.heap.size+1+1,5,I⟩ (O Y p.gz)).setCell ⟨w.heap.size+1+1,6,I⟩ (O Y p.way)).setCell ⟨w.heap.size+1+1,7,I⟩ (O Y p.ax)).setCell ⟨w.heap.size+1+1,8,I⟩ (O Y p.az)).setCell ⟨w.heap.size+1+1,9,I⟩ (O U p.skin)).setCell ⟨w.heap.size+1+1,10,I⟩ (J R ae ab)).setCell ⟨w.heap.size+1+1,11,I⟩ (J ag ak ai))=z:=t;rw[e9]at n ⊢;have aV:td 43 w8 (w.heap.size+1+1):=fun cs fr h=>by rw[r]at h;cases h
 have s:z.heap[w.heap.size+1+1]?=G (M #[.string p.name,J f j g,O Y p.depth,O Y p.density,O Y p.gx,O Y p.gz,O Y p.way,O Y p.ax,O Y p.az,O U p.skin,J R ae ab,J ag ak ai] 128 (0,0)):=by
  rw[<-t];exact vy _ r rfl
 have D9:z.heap[w.heap.size+1+1+1]?=w8.heap[w.heap.size+1+1+1]?:=by
  rw[<-t];exact Nl oM _ _ _
 have aI:Ia 43 w8 z:=by
  rw[<-t];exact Ej _ _ aV
 have E9:∀v:C,Aa v w8->v.heap.size<=w.heap.size+1+1->Aa v z:=fun v XE hz=>by
  rw[<-t];exact No hz _ _ XE
 clear e9 t;have c:=D9.trans c;have y0:=Ba c (i:=0) (u:=.string ⟨#[]⟩) rfl;have y1:=Ba c (i:=1) (u:=J I 0 0) rfl;have y2:=Ba c (i:=2) (u:=O Y 0) rfl;have y3:=Ba c (i:=3) (u:=O Y 0) rfl;have y4:=Ba c (i:=4) (u:=O Y 0) rfl;have y5:=Ba c (i:=5) (u:=O Y 0) rfl;have y6:=Ba c (i:=6) (u:=O Y 0) rfl;have y7:=Ba c (i:=7) (u:=O Y 0) rfl;have y8:=Ba c (i:=8) (u:=O Y 0) rfl;have y9:=Ba c (i:=9) (u:=O U 0) rfl;have am:=Ba c (i:=10) (u:=J I 0 0) rfl;have an:=Ba c (i:=11) (u:=J I 0 0) rfl;have yf:=Ya c;refine Vc (i:=5) fun K hK=>?_;go_simp;refine kO hK (by(iterate 12 refine Ea.set ?_ aU _);exact n) (fun n=>?_);clear hK K;clear y0 y1 y2 y3 y4 y5 y6 y7 y8 y9 am an yf;obtain⟨y,o⟩:=gX (jh z (w.heap.size+1+1+1) 0 [.string q.name,J k m l,O Y q.depth,O Y q.density,O Y q.gx,O Y q.gz,O Y q.way,O Y q.ax,O Y q.az,O U q.skin,J aa af ac,J ah al aj]);have aH:((((((((((((z.setCell ⟨w.heap.size+1+1+1,0,I⟩ (.string q.name)).setCell ⟨w.heap.size+1+1+1,1,I⟩ (J k m l)).setCell ⟨w.heap.size+1+1+1,2,I⟩ (O Y q.depth)).setCell ⟨w.heap.size+1+1+1,3,I⟩ (O Y q.density)).setCell ⟨w.heap.size+1+1+1,4,I⟩ (O Y q.gx)).setCell ⟨w.heap.size+1+1+1,5,I⟩ (O Y q.gz)).setCell ⟨w.heap.size+1+1+1,6,I⟩ (O Y q.way)).setCell ⟨w.heap.size+1+1+1,7,I⟩ (O Y q.ax)).setCell ⟨w.heap.size+1+1+1,8,I⟩ (O Y q.az)).setCell ⟨w.heap.size+1+1+1,9,I⟩ (O U q.skin)).setCell ⟨w.heap.size+1+1+1,10,I⟩ (J aa af ac)).setCell ⟨w.heap.size+1+1+1,11,I⟩ (J ah al aj))=y:=o;rw[aH]at n ⊢;have aO:td 43 z (w.heap.size+1+1+1):=fun cs fr h=>by rw[c]at h;cases h
 have d:y.heap[w.heap.size+1+1+1]?=G (M #[.string q.name,J k m l,O Y q.depth,O Y q.density,O Y q.gx,O Y q.gz,O Y q.way,O Y q.ax,O Y q.az,O U q.skin,J aa af ac,J ah al aj] 128 (0,0)):=by
  rw[<-o];exact vy _ c rfl
 have aF:y.heap[w.heap.size+1+1]?=z.heap[w.heap.size+1+1]?:=by
  rw[<-o];exact Nl oM _ _ _
 have ap:Ia 43 z y:=by
  rw[<-o];exact Ej _ _ aO
 have aG:∀v:C,Aa v z->v.heap.size<=w.heap.size+1+1+1->Aa v y:=fun v XE hz=>by
  rw[<-o];exact No hz _ _ XE
 clear aH o;have s:=aF.trans s;refine Ib (i:=6) ?_;refine Sb ?_;have x0:=Ba s (i:=0) (u:=.string p.name) rfl;have x1:=Ba s (i:=1) (u:=J f j g) rfl;have x2:=Ba s (i:=2) (u:=O Y p.depth) rfl;have x3:=Ba s (i:=3) (u:=O Y p.density) rfl;have x4:=Ba s (i:=4) (u:=O Y p.gx) rfl;have x5:=Ba s (i:=5) (u:=O Y p.gz) rfl;have x6:=Ba s (i:=6) (u:=O Y p.way) rfl;have x7:=Ba s (i:=7) (u:=O Y p.ax) rfl;have x8:=Ba s (i:=8) (u:=O Y p.az) rfl;have x9:=Ba s (i:=9) (u:=O U p.skin) rfl;have aD:=Ba s (i:=10) (u:=J R ae ab) rfl;have aE:=Ba s (i:=11) (u:=J ag ak ai) rfl;have y0:=Ba d (i:=0) (u:=.string q.name) rfl;have y1:=Ba d (i:=1) (u:=J k m l) rfl;have y2:=Ba d (i:=2) (u:=O Y q.depth) rfl;have y3:=Ba d (i:=3) (u:=O Y q.density) rfl;have y4:=Ba d (i:=4) (u:=O Y q.gx) rfl;have y5:=Ba d (i:=5) (u:=O Y q.gz) rfl;have y6:=Ba d (i:=6) (u:=O Y q.way) rfl;have y7:=Ba d (i:=7) (u:=O Y q.ax) rfl;have y8:=Ba d (i:=8) (u:=O Y q.az) rfl;have y9:=Ba d (i:=9) (u:=O U q.skin) rfl;have am:=Ba d (i:=10) (u:=J aa af ac) rfl;have an:=Ba d (i:=11) (u:=J ah al aj) rfl;have xf:=Ya s;have yf:=Ya d;have XE:=aG w (E9 w (X6.trans X8) oM) oM;have hK:=aI.trans ap;have P:=ka (And.intro XE hK);clear E9 aG aI ap XE hK D9 aF;go_wp2;refine bR (v:=.tuple #[L #[.string p.name,J f j g,O Y p.depth,O Y p.density,O Y p.gx,O Y p.gz,O Y p.way,O Y p.ax,O Y p.az,O U p.skin,J R ae ab,J ag ak ai],L #[.string q.name,J k m l,O Y q.depth,O Y q.density,O Y q.gx,O Y q.gz,O Y q.way,O Y q.ax,O Y q.az,O U q.skin,J aa af ac,J ah al aj],A true]) (by simp[results,Tryz.results103,go_sem,x0,x1,x2,x3,x4,x5,x6,x7,x8,x9,aD,aE,xf,y0,y1,y2,y3,y4,y5,y6,y7,y8,y9,am,an,yf]) rfl ?_;have XW:=X6.trans X8;exact⟨_,_,rfl,⟨_,_,_,rfl,(H1.o.f XW).z P.o.2,(aK.f ao).z P.o.2,(aL.f ao).z P.o.2⟩,⟨_,_,_,rfl,(H2.o.f XW).z P.o.2,aq.z P.o.2,ar.z P.o.2⟩,P.o.1⟩
end
section
open Go.RowKit Go.Shelf Go.Sort Go.Lib
def PI(_:C)(c:List F)(z:Int):Prop:=c=[O Y z]
abbrev Jm(w:C)(v:F)(zs:List Int):Prop:=Sl 3 1 PI w v zs
def Jm.f{w w':C}{v:F}{zs:List Int}(h:Jm w v zs)(k:Aa w w'):Jm w' v zs:=Sl.ext h (fun _ _ h=>h) k
def Jm.at'{w:C}{a:Option Oa}{n c:Nat}{zs:List Int}(h:Jm w (J a n c) zs){i:Nat}{z:Int}(g:zs[i]?=G z):∃b o,a=G ⟨b,o,I⟩/\b<w.heap.size/\w.cell? ⟨b,o+i,I⟩=G (O Y z):=by obtain⟨b,o,d,rfl,e,j,rfl,f⟩:=Sl.at h g;have:=f 0 _ rfl;rw[Nat.mul_one,Nat.add_zero]at this;exact⟨b,o,rfl,e,this⟩
end
section
open Go.RowKit Go.Shelf Go.Sort
def qB(W:C){k:Nat}(d:k=W.heap.size)(ps:LP)(e:ps.length<=1000):Fa (W.alloc (M (ps.map pc).flatten.toArray 43)) (J (G ⟨k,0,I⟩) ps.length ps.length) ps:=by
 subst d;exact⟨ps.map pc,by simp,Nq,⟨by rw[Ll Nq];simp,G ⟨W.heap.size,0,I⟩,ps.length,rfl,nE _,by unfold maxLen;omega,.inr ⟨W.heap.size,0,_,(0,0),rfl,aN _ _,fun i x a=>by simpa using a⟩⟩,
  fun i c x b a=>by rw[lP,a]at b;cases b;rfl⟩
def Jv(W:C){k base:Nat}(m:k=W.heap.size)(l:base<=W.heap.size)(b:List (Pl×F))(n:∀q∈b,Fa W q.2 q.1.shape/\0<=q.1.skin)(o:b.length<=1000):Gm (W.alloc (M (b.map fun q=>(nc q.1 q.2).toList).flatten.toArray 47)) base (J (G ⟨k,0,I⟩) b.length b.length) (b.map Prod.fst):=by
 subst m;have d:∀c∈(b.map fun q=>(nc q.1 q.2).toList),c.length=10:=fun c g=>by
  obtain⟨q,_,rfl⟩:=List.mem_map.1 g;rfl
 have a:=Ll d;rw[lL]at a;refine⟨b.map fun q=>(nc q.1 q.2).toList,⟨d,by rw[a,lL],.inr ⟨W.heap.size,b.length,_,by rw[lL],l,aN _ _,by rw[lL];exact nE _,by unfold maxLen;omega,by rw[List.size_toArray,a],by rw[lL,<-a];exact List.take_length⟩⟩,by simp,?_⟩;intro i c x g j;rw[lP,Option.map_eq_some_iff]at g j;obtain⟨q,e,rfl⟩:=g;obtain⟨p,f,rfl⟩:=j;rw[e]at f;cases f;have:=n q (lM e);exact⟨q.2,rfl,this.1.f ((eR W).alloc _),this.2⟩
def Qf:LP:=[(0,0),(200,0),(200,80),(0,80)]
def WO(w:C):Calls Tryz.prog 123 #[] w fun e a=>∃v,e=.returned (L #[.string ⟨#[98,114,105,99,107]⟩,v,O Y 100,O Y 2400,O Y 1,O Y 0])/\Fa a v Qf/\Aa w a:=by go_in;go_wp2;refine bR (v:=L #[.string ⟨#[98,114,105,99,107]⟩,J (G ⟨w.heap.size+1,0,I⟩) 4 4,O Y 100,O Y 2400,O Y 1,O Y 0]) (by simp[results,Tryz.results123,go_sem]) rfl ⟨_,rfl,?_,eA⟩;exact qB _ sM Qf dM
def Cb(a:ByteArray)(x z:Int):Pl:=⟨a,Qf,100,2400,1,0,0,x,z,1⟩
def Jk:LP:=[(-1000,0),(1000,0)]
def Ki{W:C}{b:Nat}{cs:Array F}{T:TypeId}{a:Nat×Nat}(h:W.heap[b]?=G (M cs T a))(i:Nat)(u:F):(W.setCell ⟨b,i,I⟩ u).heap[b]?=G (M (cs.setIfInBounds i u) T a):=by simp[World.setCell,Array.getElem?_modify,h]
end
section
open Go.RowKit Go.Shelf
attribute [local go_sem] Oper.semAt_some
def Ni(e:Pj):Int×Int:=
 ((e.2.1-e.1.1).tdiv (Nat.gcd (e.2.1-e.1.1).natAbs (e.2.2-e.1.2).natAbs:Nat),(e.2.2-e.1.2).tdiv (Nat.gcd (e.2.1-e.1.1).natAbs (e.2.2-e.1.2).natAbs:Nat))
def Wd(l:Int)(x a:Rat)(e:Pj):Bool:=
 decide (yb x ((e.1.1:Int):Rat)<0) || (decide (yb x ((e.1.1:Int):Rat)=0)&&(decide (l<e.1.1)&&decide (0<=yb x a)))
def Xd(ps:LP)(x a:Rat):Int×Int:=((Cf ps).takeWhile fun e=>!Wd (Ua ps) x a e).foldl (fun _ e=>Ni e) (0,0)
def mt(e:Pj):Prop:=(Bd 104000 e.1.1/\Bd 104000 e.1.2/\Bd 104000 e.2.1/\Bd 104000 e.2.2)/\e.1.1<=e.2.1/\e.1≠e.2
abbrev BF:={ e:Pj // mt e }
def Kh(ps:LP):Prop:=∀e∈Cf ps,e.1.1<=e.2.1/\e.1≠e.2
def TQ(s:Nat)(e:BF)(a:Act)(W:C):Prop:=
 ∃B,s+1+1+1+1+1+1<=B/\W.heap[B]?=G (M #[O Y e.1.1.1,O Y e.1.1.2] 43 (0,0))/\W.heap[B+1]?=G (M #[O Y e.1.2.1,O Y e.1.2.2] 43 (0,0))/\
  a.tmps.size=73/\a.tmps.getD 3 undef=Ob (G ⟨s,0,I⟩)/\a.tmps.getD 4 undef=Ob (G ⟨s+1,0,I⟩)/\a.tmps.getD 5 undef=Ob (G ⟨s+1+1,0,I⟩)/\a.tmps.getD 7 undef=Ob (G ⟨s+1+1+1+1,0,I⟩)/\
  a.tmps.getD 8 undef=Ob (G ⟨B,0,I⟩)/\a.tmps.getD 9 undef=Ob (G ⟨B+1,0,I⟩)/\a.defers=[]
def Fl(w:C)(v:F)(x a:Rat)(o:Int×Int)(W:C):Prop:=
 Aa w W/\w.heap.size+1+1+1+1+1+1<=W.heap.size/\W.heap[w.heap.size]?=G (M #[v] 121 (0,0))/\RB W (w.heap.size+1) x/\RB W (w.heap.size+1+1) a/\
  W.heap[w.heap.size+1+1+1]?=G (M #[O Y 0,O Y 0] 43 (0,0))/\W.heap[w.heap.size+1+1+1+1]?=G (M #[O Y o.1,O Y o.2] 43 (0,0))
def MF(w:C)(v:F)(l:Int)(x a:Rat)(pre:List BF)(W:C):Prop:=
 Fl w v x a (pre.foldl (fun _ e=>Ni e.1) (0,0)) W/\∀e∈pre,Wd l x a e.1=false
def SQ(w:C)(v:F)(l:Int)(x a:Rat)(c:Code)(pre:List BF)(W:C):Prop:=
 c = .exit 0/\∃(p:List BF)(e:BF),pre=p++[e]/\Fl w v x a (p.foldl (fun _ e=>Ni e.1) (0,0)) W/\(∀e∈p,Wd l x a e.1=false)/\Wd l x a e.1=true
def Fl.ext{w:C}{v:F}{x a:Rat}{o:Int×Int}{W W':C}(h:Fl w v x a o W)(k:Aa W W'):Fl w v x a o W':=
 ⟨h.1.trans k,nT h.2.1 k.size,k.e h.2.2.1,h.2.2.2.1.ext k,h.2.2.2.2.1.ext k,k.e h.2.2.2.2.2.1,k.e h.2.2.2.2.2.2⟩
def Fl.sim{w:C}{v:F}{x a:Rat}{o:Int×Int}{W W':C}{B:Nat}(h:Fl w v x a o W)(k:Lj B W W')(b:w.heap.size<=B):Fl w v x a o W':=
 ⟨k.ext h.1 b,nT h.2.1 k.size,k.heap h.2.2.1,h.2.2.2.1.sim k,h.2.2.2.2.1.sim k,k.heap h.2.2.2.2.2.1,k.heap h.2.2.2.2.2.2⟩
def Fl.put{w:C}{v:F}{x d:Rat}{o:Int×Int}{W:C}(h:Fl w v x d o W)(a:Int×Int):Fl w v x d a ((W.setCell ⟨w.heap.size+1+1+1+1,0,I⟩ (O Y a.1)).setCell ⟨w.heap.size+1+1+1+1,1,I⟩ (O Y a.2)):=by
 obtain⟨f,g,i,j,k,h6,c⟩:=h;have b:td 2 W (w.heap.size+1+1+1+1):=by intro l m e;rw[c]at e;cases e
 refine⟨(f.set dO _).set dO _,by simp only[yg];exact g,?_,(j.other dO b _).other dO (b.set _ _) _,(k.other dO b _).other dO (b.set _ _) _,?_,?_⟩
 ·rw[bS _ _ _ _ dO,bS _ _ _ _ dO];exact i
 ·rw[bS _ _ _ _ dO,bS _ _ _ _ dO];exact h6
 ·have:=Td (Td c 0 (O Y a.1)) 1 (O Y a.2);exact this
def NK{ps:LP}{x d:Rat}{f:List BF}(c:f.map (fun e=>e.1)=Cf ps){p:List BF}{e:BF}(l:p++[e] <+: f)(k:∀e∈p,Wd (Ua ps) x d e.1=false)(j:Wd (Ua ps) x d e.1=true):Xd ps x d=p.foldl (fun _ e=>Ni e.1) (0,0):=by
 obtain⟨t,rfl⟩:=l;unfold Xd;rw[<-c,List.append_assoc,List.map_append,List.takeWhile_append_of_pos (by
  intro a g;obtain⟨b,i,rfl⟩:=List.mem_map.1 g;simp[k b i])]
 rw[show ([e]++t).map (fun e:BF=>e.1)=e.1::t.map (fun e=>e.1)from rfl,List.takeWhile_cons_of_neg (by simp[j]),List.append_nil,List.foldl_map]
def GA{ps:LP}{x f:Rat}{c:List BF}(d:c.map (fun e=>e.1)=Cf ps)(j:∀e∈c,Wd (Ua ps) x f e.1=false):Xd ps x f=c.foldl (fun _ e=>Ni e.1) (0,0):=by
 unfold Xd;have h:=List.takeWhile_append_of_pos (p:=fun e=>!Wd (Ua ps) x f e) (l₁:=c.map fun e=>e.1) (l₂:=[]) (by
  intro a g;obtain⟨b,i,rfl⟩:=List.mem_map.1 g;simp[j b i])
 rw[List.append_nil,List.takeWhile_nil,List.append_nil]at h;rw[<-d,h,List.foldl_map]
def Rs(w:C)(p:Int×Int)(e:Ending)(w':C):Prop:=e=.returned (L #[O Y p.1,O Y p.2])/\Aa w w'
def Cx(w:C)(v vx vr:F)(ps:LP)(x rt:Rat)(h:Fa w v ps)(aM:Wb ps)(bw:Kh ps)(hx:Sa w vx x)(hb:Rb 1000 x)(hr:Sa w vr rt)(bl:Rb 1000 rt):Calls Tryz.prog 77 #[v,vx,vr] w (Rs w (Xd ps x rt)):=by
 have HL:=ka (fun W (hW:Aa w W)=>tl W v ps (h.f hW) (List.length_pos_iff.2 aM.1));obtain⟨a,c,rfl⟩:=h.form;obtain⟨xa,xm,xc,xs,bY,b0,bZ,rfl⟩:=hx.form;obtain⟨ya,ym,yc,ys,b1,b4,b2,rfl⟩:=hr.form;have Hb:=ka hb;have bL:=ka bl;have b6:=ka aM;obtain⟨n,hn⟩:=gX ps.length;rw[hn]at h HL ⊢;have Hn:=ka hn;obtain⟨es,bm⟩:∃es:List BF,es.map (fun e=>e.1)=Cf ps:=⟨(Cf ps).attachWith mt (fun e R=>⟨RC aM.2.1 R,bw e R⟩),Tr _⟩;have bh:=ka bm;clear hb bl aM hn bw;refine(callsIn_wide (n:=5)).1 ?_;refine callsIn_of_wp_marks Tryz.func77 rfl trivial ?_ rfl;simp only[Tryz.ntmps77,List.size_toArray,List.length_cons,List.length_nil,Nat.reduceAdd,Nat.reduceSub,Array.replicate_succ,Array.replicate_zero,List.push_toArray,List.append_toArray,List.nil_append,List.cons_append]
 gi_wp2_with(refine⟨trivial,?_⟩;gi_at_call 148;refine(callsIn_wide.2 (lQ _ _ _ _)).mono ?_;rintro e w' ⟨rfl,rfl⟩)
 obtain⟨W0,aa⟩:=gX (((((((w.alloc (M #[J a n c] 121)).alloc (M #[J xa xm xc,A xs,J bY b0 bZ] 63)).alloc (M #[J ya ym yc,A ys,J b1 b4 b2] 63)).alloc (M #[O Y 0,O Y 0] 43)).alloc (M #[O Y 0,O Y 0] 43)).alloc (M #[J a n c] 121)));have bA:Aa w W0:=by rw[<-aa];exact((((((eR w).alloc _).alloc _).alloc _).alloc _).alloc _).alloc _
 have cd:W0.heap.size=w.heap.size+1+1+1+1+1+1:=by rw[<-aa];simp
 have bU:W0.cell? ⟨w.heap.size+1+1+1+1+1,0,I⟩=G (J a n c):=by rw[<-aa,World.cell?_alloc_at _ _ _ _ sM];rfl
 have bQ:MF w (J a n c) (Ua ps) x rt [] W0:=by
  refine⟨⟨bA,by omega,?_,?_,?_,?_,?_⟩,fun e R=>by cases R⟩
  ·rw[<-aa];exact(((((eR _).alloc _).alloc _).alloc _).alloc _).alloc _ |>.e (aN w _)
  ·rw[<-aa];exact(RB.new (hx.ext ((eR w).alloc _)) sM).ext (((((eR _).alloc _).alloc _).alloc _).alloc _)
  ·rw[<-aa];exact(RB.new (hr.ext (((eR w).alloc _).alloc _)) sM).ext ((((eR _).alloc _).alloc _).alloc _)
  ·rw[<-aa];exact((eR _).alloc _).alloc _ |>.e (Bc _ _ _ sM)
  ·rw[<-aa];exact(eR _).alloc _ |>.e (Bc _ _ _ sM)
 rw[aa];clear aa;refine wpIn_rangeFunc_ownH rfl dM (gf:=196) (lb:=#[Ob (G ⟨w.heap.size+1+1+1+1+1,0,I⟩)]) rfl trivial (enters_of Tryz.func196 kM rfl)
  (lF (fun e:BF=>e.1) _ dM (w.heap.size+1+1+1+1+1) w _ _ ps es bm bU oM h bA) Re.trans (Re.put oM oM) (Below.refl _ _) (fun _=>rfl)
  (MF w (J a n c) (Ua ps) x rt) (SQ w (J a n c) (Ua ps) x rt) (Pm (fun s W h=>by have:=h.1.2.1;omega) (fun s W W' h k=>⟨h.1.sim k oM,h.2⟩)) (fun c=>Pm (fun s W h=>by obtain⟨_,_,_,_,h,_⟩:=h;have:=h.2.1;omega) (fun s W W' h k=>by obtain⟨h0,p,e,h1,h2,h3,h4⟩:=h;exact⟨h0,p,e,h1,h2.sim k oM,h3,h4⟩)) bQ
  (fun e a' W=>TQ w.heap.size e a' W) (fun e a'=>Pm (fun s W h=>by obtain⟨B,h1,h2,h3,_⟩:=h;have:=Jb h2;omega) (fun s W W' h k=>by obtain⟨B,h1,h2,h3,h4⟩:=h;exact⟨B,h1,k.heap h2,k.heap h3,h4⟩)) ?assign ?body ?done ?stop
 case assign =>
  rintro l pre e W K hI hK;unfold mm
  gi_wp2
  have hE:Aa W ((W.alloc (M #[O Y e.1.1.1,O Y e.1.1.2] 43)).alloc (M #[O Y e.1.2.1,O Y e.1.2.2] 43)):=((eR W).alloc _).alloc _;refine hK _ _ (((KeepsOthers.alloc _ _).trans (KeepsOthers.alloc _ _)).from _) ((Re.refl _ _ W).ext hE hI.1.1.size (by have:=hI.1.2.1;omega)) ⟨hI.1.ext hE,hI.2⟩ ⟨W.heap.size,hI.1.2.1,QM W _ _,PM W _ _,rfl,rfl,rfl,rfl,rfl,rfl,rfl,rfl⟩
 case body =>
  rintro l pre e a' W hl ⟨r,cc⟩ hI hA b8;obtain⟨tt,dd⟩:=a';obtain⟨B,hB,q1,q2,g0,g3,g4,g5,g7,g8,g9,gd⟩:=hA;dsimp only at g0 g3 g4 g5 g7 g8 g9 gd;subst gd;obtain⟨u,hu,ht⟩:=Pg tt 73 g0;simp only[hu]at g3 g4 g5 g7 g8 g9;clear hu;subst ht;simp only[List.range,List.range.loop,List.map_cons,List.map_nil,g3,g4,g5,g7,g8,g9];clear g0 g3 g4 g5 g7 g8 g9;obtain⟨⟨⟨t,az⟩,bx,bz⟩,⟨aP,bq,bs⟩⟩:=e;dsimp only at q1 q2 aP bq bs ⊢;obtain⟨⟨h1,h2,h3,h4,h5,h6,h7⟩,ac⟩:=hI;have bk:Fl w (J a n c) x rt (pre.foldl (fun _ e=>Ni e.1) (0,0)) W:=⟨h1,h2,h3,h4,h5,h6,h7⟩;have ai:=ka bk;have aj:=ka ac;obtain⟨ar,av,au,aw,ad,af,ae,r0,r1,r2,_,_,_,zr,bD⟩:=h4.rd;obtain⟨ta,tm,tc,ts,bb,be,bc,t0,t1,t2,_,_,_,zt,bC⟩:=h5.rd;have l0:=Ba h3 (i:=0) (u:=J a n c) rfl;have e0:=Ba q1 (i:=0) (u:=O Y t) rfl;have z1:=Jb q1;have z2:=Jb q2;have ap:=ka q1;have aq:=ka q2;obtain⟨aJ,bN,bO,bP⟩:=aP;have bi:=Ml (k:=104000) (n:=t) aJ;have ay:=ka bi;have aW:=ka (fun W=>Tn W t (by unfold Bd at aJ;omega) (by unfold Bd at aJ;omega));have aG:=ka bD;have bM:=ka bC;have bg:=ka (fun W' (hW:Aa W W')=>HL.o W' (h1.trans hW));obtain⟨T1,a2⟩:=gX (yb x ((t:Int):Rat));have aV:=ka a2;obtain⟨T2,a4⟩:=gX (yb x rt);have bK:=ka a4;obtain⟨lf,aL⟩:=gX (Ua ps);rw[aL]at bg;have b5:=ka aL;have bv:Wd (Ua ps) x rt ((t,az),bx,bz)=(decide (T1<0) || (decide (T1=0)&&(decide (lf<t)&&decide (0<=T2)))):=by unfold Wd;dsimp only;rw[a2,a4,aL]
  have aC:=ka bv;have bV:0<=bx-t/\bx-t<=208000:=by unfold Bd at aJ bO;omega
  have bW:-208000<=bz-az/\bz-az<=208000:=by unfold Bd at bN bP;omega
  obtain⟨j,aR⟩:=gX (bx-t);obtain⟨f,aS⟩:=gX (bz-az);rw[aR]at bV;rw[aS]at bW;obtain⟨d,aK⟩:∃g:Nat,Nat.gcd j.natAbs f.natAbs=g:=⟨_,rfl⟩;have b7:0<d:=by
   rw[<-aK];rcases Nat.eq_zero_or_pos (Nat.gcd j.natAbs f.natAbs)with h|h
   ·exfalso;obtain⟨q1,q2⟩:=Nat.gcd_eq_zero_iff.1 h;apply bs;have:=Int.natAbs_eq_zero.1 q1;have:=Int.natAbs_eq_zero.1 q2;exact Prod.ext dO dO
   ·exact h
  have aA:=ka (fun W'=>show Calls Tryz.prog 149 #[O Y j,O Y (max f (-f))] W' (fun e w'=>e=.returned (O Y (d:Nat))/\Aa W' w') by
   have h:=zP W' j.natAbs f.natAbs oM oM;rw[aK,show ((j.natAbs:Nat):Int)=j by omega,show ((f.natAbs:Nat):Int)=max f (-f) by omega]at h;exact h)
  have aQ:Ni ((t,az),bx,bz)=(j.tdiv d,f.tdiv d):=by unfold Ni;dsimp only;rw[aR,aS,aK]
  have aB:=ka aQ;have ca:(j.tdiv (d:Int)).natAbs<=208000:=by rw[Int.natAbs_tdiv];exact nT (Nat.div_le_self _ _) oM
  have cb:(f.tdiv (d:Int)).natAbs<=208000:=by rw[Int.natAbs_tdiv];exact nT (Nat.div_le_self _ _) oM
  clear aQ aK;have bj:Ea [(⟨w.heap.size+1,0,I⟩,J ar av au),(⟨w.heap.size+1,1,I⟩,A aw),(⟨w.heap.size+1,2,I⟩,J ad af ae),(⟨w.heap.size+1+1,0,I⟩,J ta tm tc),(⟨w.heap.size+1+1,1,I⟩,A ts),(⟨w.heap.size+1+1,2,I⟩,J bb be bc),(⟨w.heap.size,0,I⟩,J a n c),(⟨B,0,I⟩,O Y t)] W.drew:=
   ⟨r0,r1,r2,t0,t1,t2,l0,e0,trivial⟩
  have bJ:=ka bj;clear bk ac h3 h4 h5 h6 h7 r0 r1 r2 t0 t1 t2 l0 e0 bD bC a2 a4 aL bv bj bi q1 q2
  gi_wp2
  refine yq (S:=Ea [(⟨w.heap.size+1,0,I⟩,J ar av au),(⟨w.heap.size+1,1,I⟩,A aw),(⟨w.heap.size+1,2,I⟩,J ad af ae),(⟨w.heap.size+1+1,0,I⟩,J ta tm tc),(⟨w.heap.size+1+1,1,I⟩,A ts),(⟨w.heap.size+1+1,2,I⟩,J bb be bc),(⟨w.heap.size,0,I⟩,J a n c),(⟨B,0,I⟩,O Y t)]) kM kM bJ.o (fun b=>?_);refine sN 0 ?_
  iterate 3 refine Bb ?_
  refine oN ?_;refine Fb (i:=3) (aW.o _) ?_;rintro e w3 ⟨v3,rfl,bu,a6⟩;obtain⟨a3,m3,c3,s3,b3,n3,k3,rfl⟩:=bu.form;refine⟨_,rfl,(cE b a6),fun b=>?_⟩;have ag:=ka (Yj w3 (L #[J ar av au,A aw,J ad af ae]) (L #[J a3 m3 c3,A s3,J b3 n3 k3]) x ((t:Int):Rat) (aG.o.ext ((eR W).drew.trans a6)) bu (Hb.o.mono dM) (ay.o.mono dM));rw[aV.o]at ag;refine Fb (i:=4) ag.o ?_;rintro e w4 ⟨rfl,bB⟩;refine⟨_,rfl,(cE b bB),fun b=>?_⟩;have X4:Aa W w4:=((eR W).drew.trans a6).trans bB;clear ag;by_cases hn:T1<0
  ·have z:Wd (Ua ps) x rt ((t,az),bx,bz)=true:=by rw[aC.o,decide_eq_true hn];rfl
   refine sN 5 ?_
   iterate 2 refine Bb ?_
   iterate 19 refine Nf ?_
   refine Bb ?_;refine oN ?_;refine Sb ?_;unfold NQ
   gi_wp2
   exact⟨Vo X4,rfl,pre,_,rfl,ai.o.ext X4,aj.o,z⟩
  by_cases hp:0<T1
  ·have b9:(T1==0)=false:=by simp;omega
   have z:Wd (Ua ps) x rt ((t,az),bx,bz)=false:=by rw[aC.o,decide_eq_false hn,show decide (T1=0)=false by simp;omega];rfl
   refine sN 5 ?_
   iterate 5 refine Bb ?_
   refine oN ?_;refine Fb (i:=10) (aW.o _) ?_;rintro e bf ⟨bX,rfl,al,P⟩;obtain⟨aY,a8,a0,ba,aZ,a9,a7,rfl⟩:=al.form;refine⟨_,rfl,(cE b P),fun b=>?_⟩;have ag:=ka (Yj bf (L #[J ar av au,A aw,J ad af ae]) (L #[J aY a8 a0,A ba,J aZ a9 a7]) x ((t:Int):Rat) (aG.o.ext (X4.trans P)) al (Hb.o.mono dM) (ay.o.mono dM));rw[aV.o]at ag;refine Fb (i:=11) ag.o ?_;rintro e ab ⟨rfl,am⟩;refine⟨_,rfl,(cE b am),fun b=>?_⟩;have aH:Aa W ab:=(X4.trans P).trans am;refine sN 12 ?_
   iterate 2 refine Bb ?_
   iterate 5 refine Nf ?_
   iterate 2 refine Bb ?_
   iterate 4 refine Nf ?_
   iterate 2 refine Bb ?_
   refine oN ?_;refine Sb ?_;unfold NQ;have hX:Aa W ab:=aH;have bF:=Ba (hX.e ap.o) (i:=0) (u:=O Y t) rfl;have bG:=Ba (hX.e ap.o) (i:=1) (u:=O Y az) rfl;have bH:=Ba (hX.e aq.o) (i:=0) (u:=O Y bx) rfl;have bI:=Ba (hX.e aq.o) (i:=1) (u:=O Y bz) rfl
   gi_wp2
   refine⟨trivial,CallsIn.mono (CallsIn.inRound l (callsIn_wide.2 (aA.o _))) ?_⟩;rintro e w5 ⟨rfl,an⟩;dsimp only;have ak:=an.e (aN ab (M #[O Y j,O Y f] 43));have d0:=Ba ak (i:=0) (u:=O Y j) rfl;have d1:=Ba ak (i:=1) (u:=O Y f) rfl;have X5:Aa W w5:=(hX.alloc _).trans an;have bn:¬((d:Nat):Int)=0:=oM;have bp:¬d=0:=oM;have bo:(((d:Nat):Int)==0)=false:=by simp;omega
   have u1:IntKind.i64.wrap (j.tdiv d)=j.tdiv d:=iW _ ⟨by omega,by omega⟩;have u2:IntKind.i64.wrap (f.tdiv d)=f.tdiv d:=iW _ ⟨by omega,by omega⟩;have y:=(ai.o.ext X5).2.2.2.2.2.2;have o0:=Ba y (i:=0) rfl;have o1:=Ba y (i:=1) rfl;have of:=Ya y;have bE:w.heap.size+1+1+1+1<ab.heap.size:=by have:=hX.size;omega
   have m:=ka (show ∀q∈[((⟨ab.heap.size,0,I⟩:Oa),Value.int Y j),(⟨ab.heap.size,1,I⟩,O Y f)],w.heap.size+1+1+1+1≠q.1.block from fun q hq h=>by
    simp at hq;rcases hq with rfl|rfl<;>(dsimp only at h;omega))
   gi_wp2
   refine yq (S:=Ea [(⟨ab.heap.size,0,I⟩,O Y j),(⟨ab.heap.size,1,I⟩,O Y f)]) kM kM ⟨d0,d1,trivial⟩ (fun b=>?_);refine sN 0 ?_
   iterate 9 refine Bb ?_
   refine oN ?_;refine Vc (i:=9) fun K hK=>?_;go_simp;refine kO hK (Ea.set (p:=⟨w.heap.size+1+1+1+1,1,I⟩) (Ea.set (p:=⟨w.heap.size+1+1+1+1,0,I⟩) b m.o _) m.o _) (fun b=>?_);clear hK K;refine Sb ?_;unfold NQ;have aD:=(ai.o.ext X5.drew).put (j.tdiv d,f.tdiv d);have aE:KeepsFrom W0.heap.size W ((w5.drew.setCell ⟨w.heap.size+1+1+1+1,0,I⟩ (O Y (j.tdiv d))).setCell ⟨w.heap.size+1+1+1+1,1,I⟩ (O Y (f.tdiv d))):=((Vo X5.drew).trans ((KeepsOthers.setCell _ _ _).from _)).trans ((KeepsOthers.setCell _ _ _).from _);have aF:Re w (w.heap.size+1+1+1+1+1) W ((w5.drew.setCell ⟨w.heap.size+1+1+1+1,0,I⟩ (O Y (j.tdiv d))).setCell ⟨w.heap.size+1+1+1+1,1,I⟩ (O Y (f.tdiv d))):=
    (((Re.refl w _ W).ext X5.drew h1.size oM).set dO dO _).set dO dO _
   gi_wp2
   refine⟨aE,aF,?_,fun e R=>?_⟩
   ·rw[List.foldl_append,List.foldl_cons,List.foldl_nil];dsimp only;rw[aB.o];exact aD
   ·rcases List.mem_append.1 R with R|R
    ·exact aj.o e R
    ·rw[List.mem_singleton.1 R];exact z
  ·have bT:T1=0:=oM;subst bT;clear hn hp;refine sN 5 ?_
   iterate 5 refine Bb ?_
   refine oN ?_;refine Fb (i:=10) (aW.o _) ?_;rintro e bf ⟨bX,rfl,al,P⟩;obtain⟨aY,a8,a0,ba,aZ,a9,a7,rfl⟩:=al.form;refine⟨_,rfl,(cE b P),fun b=>?_⟩;have ag:=ka (Yj bf (L #[J ar av au,A aw,J ad af ae]) (L #[J aY a8 a0,A ba,J aZ a9 a7]) x ((t:Int):Rat) (aG.o.ext (X4.trans P)) al (Hb.o.mono dM) (ay.o.mono dM));rw[aV.o]at ag;refine Fb (i:=11) ag.o ?_;rintro e ab ⟨rfl,am⟩;refine⟨_,rfl,(cE b am),fun b=>?_⟩;have aH:Aa W ab:=(X4.trans P).trans am;refine sN 12 ?_
   iterate 5 refine Bb ?_
   refine oN ?_;refine Fb (i:=17) (bg.o _ aH) ?_;rintro e ah ⟨rfl,aT⟩;refine⟨_,rfl,(cE b aT),fun b=>?_⟩;have aI:Aa W ah:=aH.trans aT;by_cases br:lf<t;rotate_left 1
   ·(have z:Wd (Ua ps) x rt ((t,az),bx,bz)=false:=by rw[aC.o,decide_eq_false br];simp);refine sN 18 ?_
    iterate 3 refine Bb ?_
    iterate 4 refine Nf ?_
    (iterate 2 refine Bb ?_);refine oN ?_;refine Sb ?_;unfold NQ;have hX:Aa W ah:=aI;have bF:=Ba (hX.e ap.o) (i:=0) (u:=O Y t) rfl;have bG:=Ba (hX.e ap.o) (i:=1) (u:=O Y az) rfl;have bH:=Ba (hX.e aq.o) (i:=0) (u:=O Y bx) rfl;have bI:=Ba (hX.e aq.o) (i:=1) (u:=O Y bz) rfl
    gi_wp2
    refine⟨trivial,CallsIn.mono (CallsIn.inRound l (callsIn_wide.2 (aA.o _))) ?_⟩;rintro e w5 ⟨rfl,an⟩;dsimp only;have ak:=an.e (aN ah (M #[O Y j,O Y f] 43));have d0:=Ba ak (i:=0) (u:=O Y j) rfl;have d1:=Ba ak (i:=1) (u:=O Y f) rfl;have X5:Aa W w5:=(hX.alloc _).trans an;have bn:¬((d:Nat):Int)=0:=oM;have bp:¬d=0:=oM;(have bo:(((d:Nat):Int)==0)=false:=by simp;omega);have u1:IntKind.i64.wrap (j.tdiv d)=j.tdiv d:=iW _ ⟨by omega,by omega⟩;have u2:IntKind.i64.wrap (f.tdiv d)=f.tdiv d:=iW _ ⟨by omega,by omega⟩;have y:=(ai.o.ext X5).2.2.2.2.2.2;have o0:=Ba y (i:=0) rfl;have o1:=Ba y (i:=1) rfl;have of:=Ya y;(have bE:w.heap.size+1+1+1+1<ah.heap.size:=by have:=hX.size;omega);have m:=ka (show ∀q∈[((⟨ah.heap.size,0,I⟩:Oa),Value.int Y j),(⟨ah.heap.size,1,I⟩,O Y f)],w.heap.size+1+1+1+1≠q.1.block from fun q hq h=>by
     simp at hq;rcases hq with rfl|rfl<;>(dsimp only at h;omega))
    gi_wp2
    refine yq (S:=Ea [(⟨ah.heap.size,0,I⟩,O Y j),(⟨ah.heap.size,1,I⟩,O Y f)]) kM kM ⟨d0,d1,trivial⟩ (fun b=>?_);refine sN 0 ?_
    (iterate 9 refine Bb ?_);refine oN ?_;refine Vc (i:=9) fun K hK=>?_;go_simp;refine kO hK (Ea.set (p:=⟨w.heap.size+1+1+1+1,1,I⟩) (Ea.set (p:=⟨w.heap.size+1+1+1+1,0,I⟩) b m.o _) m.o _) (fun b=>?_);clear hK K;refine Sb ?_;unfold NQ;have aD:=(ai.o.ext X5.drew).put (j.tdiv d,f.tdiv d);have aE:KeepsFrom W0.heap.size W ((w5.drew.setCell ⟨w.heap.size+1+1+1+1,0,I⟩ (O Y (j.tdiv d))).setCell ⟨w.heap.size+1+1+1+1,1,I⟩ (O Y (f.tdiv d))):=((Vo X5.drew).trans ((KeepsOthers.setCell _ _ _).from _)).trans ((KeepsOthers.setCell _ _ _).from _);have aF:Re w (w.heap.size+1+1+1+1+1) W ((w5.drew.setCell ⟨w.heap.size+1+1+1+1,0,I⟩ (O Y (j.tdiv d))).setCell ⟨w.heap.size+1+1+1+1,1,I⟩ (O Y (f.tdiv d))):=
     (((Re.refl w _ W).ext X5.drew h1.size oM).set dO dO _).set dO dO _
    gi_wp2
    refine⟨aE,aF,?_,fun e R=>?_⟩
    ·rw[List.foldl_append,List.foldl_cons,List.foldl_nil];dsimp only;rw[aB.o];exact aD
    ·rcases List.mem_append.1 R with R|R
     ·exact aj.o e R
     ·rw[List.mem_singleton.1 R];exact z
   refine sN 18 ?_
   iterate 5 refine Bb ?_
   refine oN ?_;have aO:=ka (Yj ah (L #[J ar av au,A aw,J ad af ae]) (L #[J ta tm tc,A ts,J bb be bc]) x rt (aG.o.ext aI) (bM.o.ext aI) (Hb.o.mono dM) (bL.o.mono dM));rw[bK.o]at aO;refine Fb (i:=23) aO.o ?_;rintro e ao ⟨rfl,aU⟩;refine⟨_,rfl,(cE b aU),fun b=>?_⟩;have aX:Aa W ao:=aI.trans aU;by_cases ht:0<=T2
   ·(have z:Wd (Ua ps) x rt ((t,az),bx,bz)=true:=by rw[aC.o,decide_eq_true br,decide_eq_true ht];simp);refine sN 24 ?_
    (iterate 3 refine Bb ?_);refine oN ?_;refine Sb ?_;unfold NQ
    gi_wp2
    exact⟨Vo aX,rfl,pre,_,rfl,ai.o.ext aX,aj.o,z⟩
   ·(have z:Wd (Ua ps) x rt ((t,az),bx,bz)=false:=by rw[aC.o,decide_eq_false ht];simp);refine sN 24 ?_
    (iterate 3 refine Bb ?_);refine oN ?_;refine Sb ?_;unfold NQ;have hX:Aa W ao:=aX;have bF:=Ba (hX.e ap.o) (i:=0) (u:=O Y t) rfl;have bG:=Ba (hX.e ap.o) (i:=1) (u:=O Y az) rfl;have bH:=Ba (hX.e aq.o) (i:=0) (u:=O Y bx) rfl;have bI:=Ba (hX.e aq.o) (i:=1) (u:=O Y bz) rfl
    gi_wp2
    refine⟨trivial,CallsIn.mono (CallsIn.inRound l (callsIn_wide.2 (aA.o _))) ?_⟩;rintro e w5 ⟨rfl,an⟩;dsimp only;have ak:=an.e (aN ao (M #[O Y j,O Y f] 43));have d0:=Ba ak (i:=0) (u:=O Y j) rfl;have d1:=Ba ak (i:=1) (u:=O Y f) rfl;have X5:Aa W w5:=(hX.alloc _).trans an;have bn:¬((d:Nat):Int)=0:=oM;have bp:¬d=0:=oM;(have bo:(((d:Nat):Int)==0)=false:=by simp;omega);have u1:IntKind.i64.wrap (j.tdiv d)=j.tdiv d:=iW _ ⟨by omega,by omega⟩;have u2:IntKind.i64.wrap (f.tdiv d)=f.tdiv d:=iW _ ⟨by omega,by omega⟩;have y:=(ai.o.ext X5).2.2.2.2.2.2;have o0:=Ba y (i:=0) rfl;have o1:=Ba y (i:=1) rfl;have of:=Ya y;(have bE:w.heap.size+1+1+1+1<ao.heap.size:=by have:=hX.size;omega);have m:=ka (show ∀q∈[((⟨ao.heap.size,0,I⟩:Oa),Value.int Y j),(⟨ao.heap.size,1,I⟩,O Y f)],w.heap.size+1+1+1+1≠q.1.block from fun q hq h=>by
     simp at hq;rcases hq with rfl|rfl<;>(dsimp only at h;omega))
    gi_wp2
    refine yq (S:=Ea [(⟨ao.heap.size,0,I⟩,O Y j),(⟨ao.heap.size,1,I⟩,O Y f)]) kM kM ⟨d0,d1,trivial⟩ (fun b=>?_);refine sN 0 ?_
    (iterate 9 refine Bb ?_);refine oN ?_;refine Vc (i:=9) fun K hK=>?_;go_simp;refine kO hK (Ea.set (p:=⟨w.heap.size+1+1+1+1,1,I⟩) (Ea.set (p:=⟨w.heap.size+1+1+1+1,0,I⟩) b m.o _) m.o _) (fun b=>?_);clear hK K;refine Sb ?_;unfold NQ;have aD:=(ai.o.ext X5.drew).put (j.tdiv d,f.tdiv d);have aE:KeepsFrom W0.heap.size W ((w5.drew.setCell ⟨w.heap.size+1+1+1+1,0,I⟩ (O Y (j.tdiv d))).setCell ⟨w.heap.size+1+1+1+1,1,I⟩ (O Y (f.tdiv d))):=((Vo X5.drew).trans ((KeepsOthers.setCell _ _ _).from _)).trans ((KeepsOthers.setCell _ _ _).from _);have aF:Re w (w.heap.size+1+1+1+1+1) W ((w5.drew.setCell ⟨w.heap.size+1+1+1+1,0,I⟩ (O Y (j.tdiv d))).setCell ⟨w.heap.size+1+1+1+1,1,I⟩ (O Y (f.tdiv d))):=
     (((Re.refl w _ W).ext X5.drew h1.size oM).set dO dO _).set dO dO _
    gi_wp2
    refine⟨aE,aF,?_,fun e R=>?_⟩
    ·rw[List.foldl_append,List.foldl_cons,List.foldl_nil];dsimp only;rw[aB.o];exact aD
    ·rcases List.mem_append.1 R with R|R
     ·exact aj.o e R
     ·rw[List.mem_singleton.1 R];exact z
 case done =>
  rintro D ys W hD rfl ⟨⟨h1,h2,h3,h4,h5,h6,h7⟩,ac⟩ hK;have hR:=GA bh.o ac;obtain⟨⟨ox,oz⟩,ho⟩:∃o,ys.foldl (fun _ e=>Ni e.1) ((0,0):Int×Int)=o:=⟨_,rfl⟩;rw[ho]at h7 hR;have HR:=ka hR;have e0:=Ba h7 (i:=0) (u:=O Y ox) rfl;have e1:=Ba h7 (i:=1) (u:=O Y oz) rfl;have f0:=Ba h6 (i:=0) (u:=O Y 0) rfl;have f1:=Ba h6 (i:=1) (u:=O Y 0) rfl;have ff:=Ya h6;clear hR ho
  gi_wp2
  have a1:=Td (Td h6 0 (O Y ox)) 1 (O Y oz);have X:=(h1.set (p:=⟨w.heap.size+1+1+1,0,I⟩) dO (O Y ox)).set (p:=⟨w.heap.size+1+1+1,1,I⟩) dO (O Y oz);refine Ar [D] _ ⟨by simp,fun E hE=>?_⟩ (fun W' a5=>?_)
  ·rw[List.mem_singleton.1 hE,bS _ _ _ _ dO,bS _ _ _ _ dO];exact hK
  ·have hS:=a5 w.heap.size (fun E hE=>by rw[List.mem_singleton.1 hE];omega);have h8:=hS.heap a1;have c0:=Ba h8 (i:=0) (u:=O Y ox) rfl;have c1:=Ba h8 (i:=1) (u:=O Y oz) rfl;refine⟨L #[O Y ox,O Y oz],by simp[results,Tryz.results77,go_sem,c0,c1],?_⟩;rw[HR.o];exact⟨rfl,hS.ext X (nE _)⟩
 case stop =>
  rintro D c pre W hD bt ⟨rfl,p,e,rfl,⟨h1,h2,h3,h4,h5,h6,h7⟩,ac,z⟩ hK;have hR:=NK bh.o bt ac z;obtain⟨⟨ox,oz⟩,ho⟩:∃o,p.foldl (fun _ e=>Ni e.1) ((0,0):Int×Int)=o:=⟨_,rfl⟩;rw[ho]at h7 hR;have HR:=ka hR;have e0:=Ba h7 (i:=0) (u:=O Y ox) rfl;have e1:=Ba h7 (i:=1) (u:=O Y oz) rfl;have f0:=Ba h6 (i:=0) (u:=O Y 0) rfl;have f1:=Ba h6 (i:=1) (u:=O Y 0) rfl;have ff:=Ya h6;clear hR ho
  gi_wp2
  have a1:=Td (Td h6 0 (O Y ox)) 1 (O Y oz);have X:=(h1.set (p:=⟨w.heap.size+1+1+1,0,I⟩) dO (O Y ox)).set (p:=⟨w.heap.size+1+1+1,1,I⟩) dO (O Y oz);refine Ar [D] _ ⟨by simp,fun E hE=>?_⟩ (fun W' a5=>?_)
  ·rw[List.mem_singleton.1 hE,bS _ _ _ _ dO,bS _ _ _ _ dO];exact hK
  ·have hS:=a5 w.heap.size (fun E hE=>by rw[List.mem_singleton.1 hE];omega);have h8:=hS.heap a1;have c0:=Ba h8 (i:=0) (u:=O Y ox) rfl;have c1:=Ba h8 (i:=1) (u:=O Y oz) rfl;refine⟨L #[O Y ox,O Y oz],by simp[results,Tryz.results77,go_sem,c0,c1],?_⟩;rw[HR.o];exact⟨rfl,hS.ext X (nE _)⟩
end
section
open Go.RowKit Go.Shelf Go.Sort
def ub(w:C)(v:F)(ps:LP):Prop:=∃T,Sl T 2 PP w v ps
def ub.f{w w':C}{v:F}{ps:LP}(h:ub w v ps)(k:Aa w w'):ub w' v ps:=by obtain⟨T,h⟩:=h;exact⟨T,Sl.ext (w:=w) (w':=w') h (fun _ _ h=>h) k⟩
def ub.form{w:C}{v:F}{ps:LP}(h:ub w v ps):∃a c,v=J a ps.length c:=h.elim fun _ h=>Sl.form h
def ub.i{w:C}{v:F}{ps:LP}(h:ub w v ps):∃a n c,v=J a n c:=h.elim fun _ h=>Cop.Ja h
def ub.len{w:C}{a:Option Oa}{n c:Nat}{ps:LP}(h:ub w (J a n c) ps):n=ps.length:=h.elim fun _ h=>Sl.len h
def ub.le{w:C}{a:Option Oa}{n c:Nat}{ps:LP}(h:ub w (J a n c) ps):ps.length<=c/\c<=maxLen:=h.elim fun _ h=>Sl.le h
def ub.at'{w:C}{a:Option Oa}{n c:Nat}{ps:LP}(h:ub w (J a n c) ps){i:Nat}{p:Int×Int}(k:ps[i]?=G p):∃b o,a=G ⟨b,o,I⟩/\b<w.heap.size/\w.cell? ⟨b,o+i*2,I⟩=G (O Y p.1)/\w.cell? ⟨b,o+i*2+1,I⟩=G (O Y p.2):=by obtain⟨T,h⟩:=h;obtain⟨b,o,d,rfl,j,l,g,f⟩:=Sl.at h k;have e:d=[O Y p.1,O Y p.2]:=g;subst e;exact⟨b,o,rfl,j,f 0 _ rfl,f 1 _ rfl⟩
def QF(w:C)(c:List F)(p:Pl):Prop:=∃v,c=(nc p v).toList/\ub w v p.shape/\0<=p.skin
def Lh(w:C)(v:F)(ps:List Pl):Prop:=∃T,Sl T 10 QF w v ps
def Lh.f{w w':C}{v:F}{ps:List Pl}(h:Lh w v ps)(k:Aa w w'):Lh w' v ps:=by obtain⟨T,h⟩:=h;exact⟨T,Sl.ext (w:=w) (w':=w') h (fun _ _ ⟨v,a,b,c⟩=>⟨v,a,b.f k,c⟩) k⟩
def Lh.form{w:C}{v:F}{ps:List Pl}(h:Lh w v ps):∃a c,v=J a ps.length c:=h.elim fun _ h=>Sl.form h
def Lh.i{w:C}{v:F}{ps:List Pl}(h:Lh w v ps):∃a n c,v=J a n c:=h.elim fun _ h=>Cop.Ja h
def Lh.len{w:C}{a:Option Oa}{n c:Nat}{ps:List Pl}(h:Lh w (J a n c) ps):n=ps.length:=h.elim fun _ h=>Sl.len h
def Lh.le{w:C}{a:Option Oa}{n c:Nat}{ps:List Pl}(h:Lh w (J a n c) ps):ps.length<=c/\c<=maxLen:=h.elim fun _ h=>Sl.le h
def Lh.at'{w:C}{a:Option Oa}{n c:Nat}{ps:List Pl}(h:Lh w (J a n c) ps){i:Nat}{p:Pl}(m:ps[i]?=G p):∃b o v,a=G ⟨b,o,I⟩/\b<w.heap.size/\ub w v p.shape/\0<=p.skin/\∀(j:Nat) u,(nc p v)[j]?=G u->w.cell? ⟨b,o+i*10+j,I⟩=G u:=by obtain⟨T,h⟩:=h;obtain⟨b,o,d,rfl,g,q,⟨v,rfl,e,f⟩,k⟩:=Sl.at h m;exact⟨b,o,v,rfl,g,e,f,fun j u l=>k j u (by rw[Array.getElem?_toList];exact l)⟩
def Te(p:Pl):Bool:=decide (20<p.shape.length) || decide (40<p.name.size)
def Au(w:C)(b:ByteArray)(v:F)(i:LP)(d k l o:Int)(h:ub w v i):Calls Tryz.prog 8 #[L #[.string b,v,O Y d,O Y k,O Y l,O Y o]] w fun e q=>e=.returned (A (decide (20<i.length) || decide (40<b.size)))/\Aa w q:=by
 obtain⟨a,c,rfl⟩:=h.form;obtain⟨n,p⟩:=gX i.length;rw[p];obtain⟨m,j⟩:=gX b.size;by_cases f:20<n
 ·have g:(20:Int)<(n:Int):=oM;have e:(decide (20<n) || decide (40<b.size))=true:=by simp[f]
  rw[e];clear f e j;go_in;go_wp2;go_ret;exact⟨rfl,eA⟩
 ·have g:¬(20:Int)<(n:Int):=oM;have e:(decide (20<n) || decide (40<b.size))=decide (40<m):=by simp[f,j]
  rw[e];clear f e;go_in;go_wp2;go_ret;exact⟨by simp;omega,eA⟩
end
section
open Go.RowKit Go.Shelf
attribute [local go_sem] Oper.semAt_some
def sO(w:C)(v:F)(q:Rat)(h:Gb w v q)(t:Rb Zb q):Calls Tryz.prog 98 #[v] w fun e w'=>e=.returned (.string ⟨(mg q).toArray⟩)/\Aa w w':=by
 obtain⟨s,a,m,c,s2,a2,m2,c2,rfl⟩:=h.form;have P:=ka (fun(W:C)(hW:Aa w W)=>VE W (L #[O Y s,J a m c]) q.num (h.top.ext hW) t.1);have K:=ka (fun(W:C)(hW:Aa w W)=>Dl W _ q (h.ext hW));have o:=ka (fun(W:C)(v:F)(hv:yd W v (q.den:Int))=>VE W v (q.den:Int) hv t.2);have l1:=Nr t.1;have l2:=Nr t.2;obtain⟨T,k⟩:=gX (mg q);rw[k];unfold mg at k;have b:(q.den=1->Ad (q.den:Int)=[49])/\(q.den≠1->Ad (q.den:Int)≠[49]):=⟨fun e=>by rw[e];exact qL,KK⟩;obtain⟨T1,p⟩:=gX (Ad q.num);obtain⟨R,r⟩:=gX (Ad (q.den:Int));rw[p]at P l1 k;rw[r]at o l2 k b;unfold Zb at l1 l2;obtain⟨d,hd⟩:=gX q.den;rw[hd]at K o b k;clear p r hd h t;by_cases n:d=1
 ·obtain rfl:R=[49]:=b.1 n;rw[if_pos n]at k;subst k;clear n b;go_in;go_wp2_with(first|(go_at_call 81;refine cM (K.o _ eA) ?_;rintro e w1 ⟨r1,rfl,g,j⟩;obtain⟨s1,a1,m1,c1,rfl,-⟩:=g.j;obtain⟨aa,ac⟩:=j.cells)|(go_at_call 168;(with_reducible refine(o.o _ _ g).mono ?_);rintro e w2 ⟨rfl,l⟩;obtain⟨ab,ad⟩:=l.cells;(have z1:=j.size);(simp only[wZ]at z1);(have z2:w.heap.size<w1.heap.size:=oM))|(go_at_call 168;(with_reducible refine(P.o _ ?_).mono ?_);exact eA;rintro e w3 ⟨rfl,af⟩));go_ret;exact⟨rfl,eA⟩
 ·have ae:(R==[49])=false:=by simpa using b.2 n
  rw[if_neg n]at k;clear n b;go_in;have g1:¬9223372036854775807<T1.length+1:=oM;have g2:¬9223372036854775807<T1.length+1+R.length:=oM;go_upto_region 3 with (first|(go_at_call 81;refine cM (K.o _ eA) ?_;rintro e w1 ⟨r1,rfl,g,j⟩;obtain⟨s1,a1,m1,c1,rfl,-⟩:=g.j;obtain⟨aa,ac⟩:=j.cells)|(go_at_call 168;refine cM (o.o _ _ g) ?_;rintro e w2 ⟨rfl,l⟩;obtain⟨ab,ad⟩:=l.cells;(have z1:=j.size);(simp only[wZ]at z1);(have z2:w.heap.size<w1.heap.size:=oM)));have X2:Aa w w2:=eA;refine Uc [(⟨w.heap.size,0,I⟩,O Y s),(⟨w.heap.size,1,I⟩,J a m c),(⟨w.heap.size,2,I⟩,O Y s2),(⟨w.heap.size,3,I⟩,J a2 m2 c2)] cA fun f=>?_;refine sN 0 ?_
  iterate 2 refine Bb ?_
  refine oN ?_;refine Ib (i:=4) ?_;refine Fb (i:=2) (P.o _ X2.drew) ?_;rintro e w5 ⟨rfl,x⟩;refine⟨_,rfl,(cE f x),fun f=>?_⟩;have X5:Aa w w5:=X2.drew.trans x;refine Ib (i:=3) ?_;refine Fb (i:=5) (K.o _ X5) ?_;rintro e w6 ⟨r6,rfl,u,y⟩;obtain⟨s6,a6,m6,c6,rfl,-⟩:=u.j;refine⟨_,rfl,(cE f y),fun f=>?_⟩;have X6:Aa w w6:=X5.trans y;refine Fb (i:=6) (o.o _ _ u) ?_;rintro e w7 ⟨rfl,z⟩;refine⟨_,rfl,(cE f z),fun f=>?_⟩;refine sN 7 ?_
  iterate 2 refine Bb ?_
  refine oN ?_;refine Sb ?_;go_wp2;go_ret;exact⟨by rw[<-k,show (⟨#[47]⟩:ByteArray)=⟨[47].toArray⟩from rfl,Sn,Sn];simp,X6.trans z⟩
def pu(w:C)(va vb:F)(q:Rat)(o:Sa w va q)(p:Gb w vb q)(r:Rb Zb q):Calls Tryz.prog 35 #[va,vb] w fun e w'=>e=.returned (A true)/\Aa w w':=by
 obtain⟨s,a,m,c,s2,x,R,z,rfl⟩:=p.form;obtain⟨v,P,y,s',f,k,g,rfl⟩:=o.form;have t:=ka (fun(W:C)(n:Aa w W)=>Rw W _ q (o.ext n) r);have u:=ka (fun(W:C)(n:Aa w W)=>sO W _ q (p.ext n) r);obtain⟨T,K⟩:=gX (mg q);rw[K]at t u;clear o p r K;go_in;go_upto_region 1 with fail;have l:Aa w ((w.alloc (M #[J v P y,A s',J f k g] 63)).alloc (M #[O Y s,J a m c,O Y s2,J x R z] 68)):=((eR w).alloc _).alloc _;refine Uc [(⟨w.heap.size,0,I⟩,J v P y),(⟨w.heap.size,1,I⟩,A s'),(⟨w.heap.size,2,I⟩,J f k g),(⟨w.heap.size+1,0,I⟩,O Y s),(⟨w.heap.size+1,1,I⟩,J a m c),(⟨w.heap.size+1,2,I⟩,O Y s2),(⟨w.heap.size+1,3,I⟩,J x R z)] cA fun b=>?_;refine Ib (i:=0) ?_;refine Ib (i:=2) ?_;refine Fb (i:=1) (t.o _ l.drew) ?_;rintro e w1 ⟨rfl,d⟩;refine⟨_,rfl,(cE b d),fun b=>?_⟩;refine Fb (i:=3) (u.o _ (l.drew.trans d)) ?_;rintro e w2 ⟨rfl,j⟩;refine⟨_,rfl,(cE b j),fun b=>?_⟩;refine sN 4 ?_
 iterate 2 refine Bb ?_
 refine oN ?_;refine Sb ?_;go_wp2;go_ret;exact⟨rfl,(l.drew.trans d).trans j⟩
end
section
open Go.RowKit Go.Shelf Go.Sort
def mR(w:C)(ps:LP)(g:Nat)(t3 t4:F)(W:C):Prop:=
 ∃i:Nat,i<=ps.length/\t4=O Y (i:Nat)/\g=ps.length-i/\Aa w W/\Ka 43 2 W w.heap.size t3 ((ps.take i).map pc)
def oP(w:C)(v:F)(ps:LP)(h:ub w v ps)(ab:ps.length<=1000):Calls Tryz.prog 62 #[v] w fun e u=>∃v',e=.returned v'/\Ka 43 2 u w.heap.size v' (ps.map pc)/\Aa w u:=by
 obtain⟨a,c,rfl⟩:=h.form;obtain⟨n,hn⟩:=gX ps.length;rw[hn]at h ab ⊢;have p:=ka hn;have H:=ka h;obtain⟨R,hR⟩:∃R:Ending->C->Prop,(fun e u=>∃v',e=.returned v'/\Ka 43 2 u w.heap.size v' (ps.map pc)/\Aa w u)=R:=⟨_,rfl⟩;rw[hR];have HR:=ka hR;clear hn h hR;go_in;go_wp2;go_loopg [3,4] n (mR w ps)
 case atStart=>exact⟨0,by omega,rfl,by rw[p.o];rfl,eR _,by simpa using Ka.nil _ _ _ _⟩
 case round =>
  obtain⟨i,hi,rfl,rfl,P,d⟩:=hrel;rw[p.o]at hi;obtain⟨va,vn,vc,rfl⟩:=d.i;have f:=ka d;have W:=ka P;by_cases aa:i<n
  ·obtain⟨⟨x,z⟩,r⟩:∃q,ps[i]?=G q:=⟨ps[i]'(by rw[p.o];omega),by simp[p.o,aa]⟩;obtain⟨b,o,rfl,hb,d0,d1⟩:=(H.o.f P).at' r;obtain⟨b0,o0,e0,ae,_⟩:=H.o.at' r;cases e0;dsimp only at d0 d1;have Hq:=ka r;have p1:(0:Int)<=(i:Int):=oM;have p2:(i:Int)<(n:Int):=oM;clear r P d;go_wp2;refine Uc [(⟨b,o+i*2,I⟩,O Y x),(⟨b,o+i*2+1,I⟩,O Y z)] ⟨d0,d1,trivial⟩ fun l=>?_;refine sN 0 ?_
   iterate 12 refine Bb ?_
   refine oN ?_;refine Vc (i:=12) fun K s=>?_;go_simp;refine kO s (cE l ((eR _).alloc _)) (fun l=>?_);clear s K;have y:Aa wr ((wr.alloc (M #[O Y x,O Y z] 43)).drew):=((eR wr).alloc _).drew;refine Vc (i:=13) fun K s=>?_;refine fd (T:=43) (t:=38) (z:=L #[O Y 0,O Y 0]) (k:=2) (bytes:=16) (v:=J va vn vc) (base:=w.heap.size) Ro rfl dM dM Tryz.underlying38 rfl _ _ rfl rfl (f.o.ext y) (ad:=⟨wr.heap.size,0,I⟩) (m:=1) (c:=1) rfl [pc (x,z)] rfl (by simp[pc]) (by exact AP wr x z 43) (sE x z) (by rw[lL,List.length_take];omega) (by have:=y.size;have:=W.o.size;omega) ?_;intro v' w9 j g ac;obtain⟨a9,n9,c9,rfl⟩:=j.i;have zb:b<wr.heap.size:=hb;refine kO s (Ea.grown l g (fun q r e=>?_)) (fun l=>?_)
   ·have h9:=(f.o.lt _ e.symm).1;simp at r;rcases r with rfl|rfl<;>(dsimp only at h9;omega)
   clear s K;refine Ib (i:=14) ?_;refine Sb ?_;go_wp2;go_roundg (n-(i+1))
   case measure=>have:=p.o;omega
   case rel =>
    refine⟨i+1,by have:=p.o;omega,by go_num,by rw[p.o],(W.o.trans y).y (Bh (base:=w.heap.size) g (by have:=y.size;have:=W.o.size;omega) (fun k hk=>(f.o.lt k hk).1)) (nE _),?_⟩;rw[Uf _ _ _ Hq.o,List.map_append];exact j
  ·obtain rfl:n=i:=oM;have e:ps.take n=ps:=lT (by rw[p.o];exact nE _);rw[e]at d;go_wp2;rw[<-HR.o];exact⟨_,rfl,d,P⟩
def sL(w:C)(t:ByteArray)(v:F)(sh:LP)(d l m o:Int)(h:ub w v sh)(ac:sh.length<=1000):Calls Tryz.prog 63 #[L #[.string t,v,O Y d,O Y l,O Y m,O Y o]] w fun e w'=>∃v',e=.returned (L #[.string t,v',O Y d,O Y l,O Y m,O Y o])/\Fa w' v' sh/\Aa w w'/\∀j,v'.ownBlock=G j->w.heap.size<=j:=by
 have HP:=ka (fun W (hW:Aa w W)=>oP W v sh (h.f hW) ac);obtain⟨a,n,c,rfl⟩:=h.i;clear h;go_in;go_wp2;refine Uc [(⟨w.heap.size,0,I⟩,.string t),(⟨w.heap.size,1,I⟩,J a n c),(⟨w.heap.size,2,I⟩,O Y d),(⟨w.heap.size,3,I⟩,O Y l),(⟨w.heap.size,4,I⟩,O Y m),(⟨w.heap.size,5,I⟩,O Y o)] cA fun r=>?_;refine sN 0 ?_
 iterate 4 refine Bb ?_
 refine oN ?_;refine sN 5 ?_
 iterate 11 refine Bb ?_
 refine oN ?_;refine Fb (i:=4) (HP.o _ eA) ?_;rintro e w3 ⟨v3,rfl,f,x⟩;obtain⟨z,R,P,rfl⟩:=f.i;refine⟨_,rfl,(cE r x),fun r=>?_⟩;refine Ib (i:=16) ?_;have ad:=f.pts;have k:=x.e (LD w (M #[.string t,J a n c,O Y d,O Y l,O Y m,O Y o] 29) (M #[.string ⟨#[]⟩,J I 0 0,O Y 0,O Y 0,O Y 0,O Y 0] 45));have k0:=Ba k (i:=0) (u:=.string ⟨#[]⟩) rfl;have k1:=Ba k (i:=1) (u:=J I 0 0) rfl;have k2:=Ba k (i:=2) (u:=O Y 0) rfl;have k3:=Ba k (i:=3) (u:=O Y 0) rfl;have k4:=Ba k (i:=4) (u:=O Y 0) rfl;have k5:=Ba k (i:=5) (u:=O Y 0) rfl;have kf:=Ya k;have g:=ka (show ∀q∈[((⟨w.heap.size,0,I⟩:Oa),Value.string t),(⟨w.heap.size,1,I⟩,J a n c),(⟨w.heap.size,2,I⟩,O Y d),(⟨w.heap.size,3,I⟩,O Y l),(⟨w.heap.size,4,I⟩,O Y m),(⟨w.heap.size,5,I⟩,O Y o)],w.heap.size+1≠q.1.block from fun q hq h=>by
  simp at hq;rcases hq with rfl|rfl|rfl|rfl|rfl|rfl<;>(dsimp only at h;omega))
 have aa:Aa w w3:=((((eR w).alloc _).alloc _).drew).trans x;have b:=ka k;clear k;refine Vc (i:=17) fun K hK=>?_;go_simp;refine kO hK (Ea.set (p:=⟨w.heap.size+1,5,I⟩) (Ea.set (p:=⟨w.heap.size+1,4,I⟩) (Ea.set (p:=⟨w.heap.size+1,3,I⟩) (Ea.set (p:=⟨w.heap.size+1,2,I⟩) (Ea.set (p:=⟨w.heap.size+1,1,I⟩) (Ea.set (p:=⟨w.heap.size+1,0,I⟩) r g.o _) g.o _) g.o _) g.o _) g.o _) g.o _) (fun r=>?_);clear hK K;refine Sb ?_;go_wp2;obtain⟨W5,s⟩:=gX (((((((w3.setCell ⟨w.heap.size+1,0,I⟩ (.string t)).setCell ⟨w.heap.size+1,1,I⟩ (J z R P)).setCell ⟨w.heap.size+1,2,I⟩ (O Y d)).setCell ⟨w.heap.size+1,3,I⟩ (O Y l)).setCell ⟨w.heap.size+1,4,I⟩ (O Y m)).setCell ⟨w.heap.size+1,5,I⟩ (O Y o)));have y:W5.heap[w.heap.size+1]?=G (M #[.string t,J z R P,O Y d,O Y l,O Y m,O Y o] 45 (0,0)):=by
  rw[<-s];exact Ki (Ki (Ki (Ki (Ki (Ki b.o 0 _) 1 _) 2 _) 3 _) 4 _) 5 _
 have hk:Ia 43 w3 W5:=by
  rw[<-s];exact(((((Ia.refl 43 w3).set (p:=⟨w.heap.size+1,0,I⟩) b.o dM _).set (p:=⟨w.heap.size+1,1,I⟩) (Ki b.o 0 _) dM _).set (p:=⟨w.heap.size+1,2,I⟩) (Ki (Ki b.o 0 _) 1 _) dM _).set (p:=⟨w.heap.size+1,3,I⟩) (Ki (Ki (Ki b.o 0 _) 1 _) 2 _) dM _).set (p:=⟨w.heap.size+1,4,I⟩) (Ki (Ki (Ki (Ki b.o 0 _) 1 _) 2 _) 3 _) dM _ |>.set (p:=⟨w.heap.size+1,5,I⟩) (Ki (Ki (Ki (Ki (Ki b.o 0 _) 1 _) 2 _) 3 _) 4 _) dM _
 have ab:Aa w W5:=by
  rw[<-s];exact((((((aa.set dO _).set dO _).set dO _).set dO _).set dO _).set dO _)
 rw[s];have b0:=Ba y (i:=0) (u:=.string t) rfl;have b1:=Ba y (i:=1) (u:=J z R P) rfl;have b2:=Ba y (i:=2) (u:=O Y d) rfl;have b3:=Ba y (i:=3) (u:=O Y l) rfl;have b4:=Ba y (i:=4) (u:=O Y m) rfl;have b5:=Ba y (i:=5) (u:=O Y o) rfl;exact bR (v:=L #[.string t,J z R P,O Y d,O Y l,O Y m,O Y o]) (by simp[results,Tryz.results63,go_sem,b0,b1,b2,b3,b4,b5]) rfl ⟨_,rfl,ad.z hk,ab,fun j hj=>by have:=(f.lt j hj).1;simp only[wZ,jc]at this;omega⟩
end
section
open Go.ChangeShapes Go.WideShapes Go.Deep
def pp(P:Program)(t:TypeId):Array Field:=match P.underlying t with|some (.struct fs)=>fs|_=>#[]
section
variable {H:Type} {enc:TypeId×Value->H} {w:World} {spare:Nat->Bool} {held:Bool}
def Wl{P:Program}{b:Array Field}{n i ti oi ki:Nat}{cs:List Value}{xs:List (DataW H×List MemPlace)}(e:xs.length=b.size)(c:∀(i:Nat)(f:Field),b[i]?=some f->DataW.trod enc P w 0 spare held n f.type ((cs.drop f.offset).take (P.cellsOf f.type))=xs[i]?)(a:b[i]?.map (fun f=>(f.type,f.offset,P.cellsOf f.type))=some (ti,oi,ki)):∃y,DataW.trod enc P w 0 spare held n ti ((cs.drop oi).take ki)=some y:=by
 cases h:b[i]? with
 | none=>rw[h]at a;cases a
 | some f =>
  rw[h]at a;simp only[Option.map_some,Option.some.injEq,Prod.mk.injEq]at a;obtain⟨rfl,rfl,rfl⟩:=a;have d:i<xs.length:=by rw[e];exact(Array.getElem?_eq_some_iff.1 h).1
  exact⟨xs[i],by rw[c i f h];simp[d]⟩
def xx:Tryz.prog.underlying 3=some (.int .i64):=kM
def yH:Tryz.prog.underlying 5=some (.int .u8):=kM
def oI:Tryz.prog.underlying 9=some .string:=kM
def AH:Tryz.prog.underlying 27=some (.struct (pp Tryz.prog 27)):=kM
def zH:Tryz.prog.underlying 29=some (.struct (pp Tryz.prog 29)):=kM
def Mz:Tryz.prog.underlying 31=some (.struct (pp Tryz.prog 31)):=kM
def pI:Tryz.prog.underlying 22=some (.slice 27):=kM
def Uu{n:Nat}{cs:List Value}{y:DataW H×List MemPlace}(h:DataW.trod enc Tryz.prog w 0 spare held n 27 cs=some y):∃p:Int×Int,cs=[.int .i64 p.1,.int .i64 p.2]:=by
 obtain⟨o,m,_,_,f,g,e⟩:=DataW.trod_struct AH h;have l:Tryz.prog.cellsOf 27=2:=kM;rw[l]at f;obtain⟨q,j⟩:=Wl g e (i:=0) (ti:=3) (oi:=0) (ki:=1) kM;obtain⟨r,k⟩:=Wl g e (i:=1) (ti:=3) (oi:=1) (ki:=1) kM
 match cs,f with
 | [a,b],_ =>
  obtain⟨x,c,_⟩:=DataW.trod_int xx j;obtain⟨z,d,_⟩:=DataW.trod_int xx k;simp at c d;subst c d;exact⟨(x,z),rfl⟩
def BA{α:Type}{Q:List Value->α->Prop}:∀{css:List (List Value)},(∀d∈css,∃a,Q d a)->∃l:List α,css.length=l.length/\∀(i:Nat) d a,css[i]?=some d->l[i]?=some a->Q d a
 | [],_=>⟨[],rfl,fun i d a h=>by simp at h⟩
 | c::css,h=>by
  obtain⟨a,j⟩:=h c sM;obtain⟨l,k,f⟩:=BA (css:=css) (fun d e=>h d (mC _ e));refine⟨a::l,by simp[k],fun i d b e g=>?_⟩;cases i with
  | zero=>simp at e g;subst e g;exact j
  | succ i=>exact f i d b (by simpa using e) (by simpa using g)
def KE{n:Nat}{v:Value}{y:DataW H×List MemPlace}(h:DataW.trod enc Tryz.prog w 0 spare held n 22 [v]=some y):∃ps,ub w v ps:=by
 obtain⟨a,m,c,T,g,e,l,j,r,i⟩:=Tv pI (k:=2) kM oM h;cases e;obtain⟨ps,b,q⟩:=BA (α:=Int×Int) (Q:=PP w) (fun d h=>by
  obtain⟨f,y,s⟩:=i d h;obtain⟨p,o⟩:=Uu s;exact⟨p,o⟩)
 exact⟨ps,T,g,b,j,by rw[<-b,l];exact r,q⟩
def LE{n:Nat}{cs:List Value}{y:DataW H×List MemPlace}(h:DataW.trod enc Tryz.prog w 0 spare held n 31 cs=some y):∃p:Pl,QF w cs p:=by
 obtain⟨xs,m,_,_,v,f,e⟩:=DataW.trod_struct Mz h;have hc:Tryz.prog.cellsOf 31=10:=kM;rw[hc]at v;obtain⟨y0,h0⟩:=Wl f e (i:=0) (ti:=29) (oi:=0) (ki:=6) kM;obtain⟨y1,h1⟩:=Wl f e (i:=1) (ti:=3) (oi:=6) (ki:=1) kM;obtain⟨y2,h2⟩:=Wl f e (i:=2) (ti:=27) (oi:=7) (ki:=2) kM;obtain⟨y3,h3⟩:=Wl f e (i:=3) (ti:=5) (oi:=9) (ki:=1) kM
 match cs,v with
 | [a0,a1,a2,a3,a4,a5,a6,a7,a8,a9],_ =>
  obtain⟨zs,k,_,_,_,d,c⟩:=DataW.trod_struct zH h0;obtain⟨z0,R⟩:=Wl d c (i:=0) (ti:=9) (oi:=0) (ki:=1) kM;obtain⟨z1,W⟩:=Wl d c (i:=1) (ti:=22) (oi:=1) (ki:=1) kM;obtain⟨z2,g2⟩:=Wl d c (i:=2) (ti:=3) (oi:=2) (ki:=1) kM;obtain⟨z3,g3⟩:=Wl d c (i:=3) (ti:=3) (oi:=3) (ki:=1) kM;obtain⟨z4,g4⟩:=Wl d c (i:=4) (ti:=27) (oi:=4) (ki:=2) kM;obtain⟨nm,j,_⟩:=DataW.trod_string oI R;obtain⟨sh,g⟩:=KE W;obtain⟨K,l,_⟩:=DataW.trod_int xx g2;obtain⟨P,o,_⟩:=DataW.trod_int xx g3;obtain⟨u,q⟩:=Uu g4;obtain⟨wy,r,_⟩:=DataW.trod_int xx h1;obtain⟨b,s⟩:=Uu h2;obtain⟨x,t,_,a⟩:=DataW.trod_int yH h3;simp at j l o q r s t;obtain⟨rfl,rfl⟩:=q;obtain⟨rfl,rfl⟩:=s;subst j l o r t;refine⟨⟨nm,sh,K,P,u.1,u.2,wy,b.1,b.2,x⟩,_,rfl,g,?_⟩;have z:decide (IntKind.u8.min<=x)=true:=by unfold Lit.wf at a;simp only[Bool.and_eq_true]at a;exact a.1
  have w8:IntKind.u8.min=0:=dM;rw[w8]at z;exact of_decide_eq_true z
end
end
section
open Go Go.ChangeShapes Go.WideShapes Go.ChangeAt Go.RowKit
def WK:ownKnob Tryz.prog.godebug=none:=kM
def jp:Tryz.prog.globalNamed "copestone/stone.ways" = some 0:=kM
def Yo:(Tryz.prog.globals[0]?).map (·.type)=some 264:=kM
def DK:Tryz.prog.underlying 264=some (.array 4 263):=kM
def lu:Tryz.prog.underlying 263=some (.func #[43] #[43] false):=kM
def Jt:laidOutB Tryz.prog=true:=kM
abbrev Fj:List (String×DataW Unit):=[("unicode/utf8.acceptRanges",Rows.laid_unicode_utf8_acceptRanges),("copestone/stone.ways",Rows.laid_copestone_stone_ways),("unicode/utf8.first",Rows.laid_unicode_utf8_first)]
abbrev Wr:List (String×DataW Unit):=[("unicode/utf8.acceptRanges",Rows.laid_unicode_utf8_acceptRanges),("unicode/utf8.first",Rows.laid_unicode_utf8_first)]
def IO{W:World}(h:laidMetH Tryz.prog Fj W):Gw W:=by
 obtain⟨g,t,a,fuel,p,c,q,hv,o⟩:=h.funcs (mC _ (List.mem_cons_self ..));obtain rfl:=Option.some.inj (jp.symm.trans c);obtain rfl:=Option.some.inj (Yo.symm.trans q);have d:DataW.trod (funcToken Tryz.prog) Tryz.prog W 0 (fun _=>true) true fuel 264 a.toList=some (.agg [.held [99,111,112,101,115,116,111,110,101,47,115,116,111,110,101,46,119,97,121,115,36,49],.held [99,111,112,101,115,116,111,110,101,47,115,116,111,110,101,46,119,97,121,115,36,50],.held [99,111,112,101,115,116,111,110,101,47,115,116,111,110,101,46,119,97,121,115,36,51],.held [99,111,112,101,115,116,111,110,101,47,115,116,111,110,101,46,119,97,121,115,36,52]],p):=o;obtain⟨P,m,_,k,j,f,b⟩:=DataW.trod_array DK d;have l:Tryz.prog.cellsOf 263=1:=kM;have n:Tryz.prog.cellsOf 264=4:=kM;rw[n]at j;rw[l]at b;obtain⟨a⟩:=a;have e:a.length=4:=j
 match a,e,P,f with
 | [v0,v1,v2,v3],_,[⟨y0,R⟩,⟨y1,q1⟩,⟨y2,q2⟩,⟨y3,q3⟩],_ =>
  simp only[Prod.mk.injEq,List.map_cons,List.map_nil,DataW.agg.injEq,List.cons.injEq,and_true]at k;obtain⟨⟨rfl,rfl,rfl,rfl⟩,_⟩:=k;have x:=b 0 oM;have y:=b 1 oM;have z:=b 2 oM;have K:=b 3 oM;have r:=World.var?_cell c hv 0;have s:=World.var?_cell c hv 1;have u:=World.var?_cell c hv 2;have v:=World.var?_cell c hv 3;obtain rfl:=func_of_trod (f0:=327) lu kM x;obtain rfl:=func_of_trod (f0:=328) lu kM y;obtain rfl:=func_of_trod (f0:=329) lu kM z;obtain rfl:=func_of_trod (f0:=330) lu kM K;have i:W.cell? ⟨0,0,none⟩=some (.func (.func 327) #[] #[]):=by simpa using r
  exact⟨World.block_lt_of_cell? W _ (by rw[i]),i,by simpa using s,by simpa using u,by simpa using v⟩
noncomputable def DF(os:Os):World:=(World.doorLaid Tryz.prog 14 os).layVars Tryz.prog Wr
def SI(os:Os)(args:Array Value):laidMetH Tryz.prog Fj ((DF os).forCall (fun _ _=>0) ⟨#[],args,[]⟩).memory:=by
 refine laidMetH_of_parts3 (fuel:=8) ?_ kM kM
 exact laidMet_layVars (w0:=World.doorLaid Tryz.prog 14 os) ["unicode/utf8.acceptRanges", "unicode/utf8.first"] [] (by rfl) kM kM LaidIn.none
def YD{H:Type}{enc:TypeId×Value->H}{w:World}{spare:Nat->Bool}{held:Bool}{r:Reach}{a:Nat}{v:Value}{d:DataW H}{p:List MemPlace}(hv:Value.okWide Tryz.prog w r a 31 v)(h:DataW.Trod enc Tryz.prog w 0 spare held 31 v d p):∃v' q,v = .agg (nc q v')/\ub w v' q.shape/\0<=q.skin:=by obtain⟨b,rfl,j⟩:=okWide_struct Mz hv;obtain⟨fuel,i⟩:=h;obtain⟨q,v',e,f,g⟩:=LE i;have c:b=nc q v':=Array.toList_inj.1 e;exact⟨v',q,by rw[c],f,g⟩
end
section
open Go.RowKit Go.Shelf Go.Sort Go.Lib
attribute [local go_sem] Oper.semAt_some
abbrev Fi:Array F:=#[.string ⟨#[]⟩,J I 0 0,O Y 0,O Y 0,O Y 0,O Y 0,O Y 0,O Y 0,O Y 0,O U 0,J I 0 0,J I 0 0]
def St(w:C)(v1 v2:F)(p q:Pl)(h1:Fa w v1 p.shape)(h2:Fa w v2 q.shape)(k1:0<=p.skin)(k2:0<=q.skin)(o:¬(Ca p=true/\Ca q=true)):Calls Tryz.prog 103 #[L (nc p v1),L (nc q v2)] w fun e w'=>e=.returned (.tuple #[L Fi,L Fi,A false])/\Aa w w':=by
 have t:=ka (fun(W:C)(hW:Aa w W)=>Tu W p _ (h1.f hW) k1);have u:=ka (fun(W:C)(hW:Aa w W)=>Tu W q _ (h2.f hW) k2);obtain⟨x,R,z,rfl⟩:=Ja h1;obtain⟨y,aa,P,rfl⟩:=Ja h2;clear h1 h2 k1 k2;obtain⟨e1,ad⟩:∃e:Int,(if Ca p=true then (0:Int)else 2)=e:=⟨_,rfl⟩;obtain⟨e2,ae⟩:∃e:Int,(if Ca q=true then (0:Int)else 2)=e:=⟨_,rfl⟩;rw[ad]at t;rw[ae]at u;have al:(e1=2)\/(e1=0/\e2=2):=by
  subst ad ae;by_cases h1:Ca p=true<;>by_cases h2:Ca q=true<;>simp[h1,h2]at o ⊢
 clear ad ae o;unfold nc at t u ⊢;rcases al with rfl|⟨rfl,rfl⟩
 ·go_in;go_upto_region 2 with (first|(go_at_call 28;(with_reducible refine(t.o _ ?_).mono ?_);exact eA;rintro e f ⟨rfl,k⟩;obtain⟨ab,af⟩:=k.cells;(have z5:=k.size);(try simp only[wZ]at z5);(have ah:w.heap.size<f.heap.size:=oM);(have ai:w.heap.size+1<f.heap.size:=oM))|(go_at_call 28;(with_reducible refine(u.o _ ?_).mono ?_);exact eA;rintro e g ⟨rfl,l⟩;obtain⟨ac,ag⟩:=l.cells;(have z6:=l.size);(try simp only[wZ]at z6);(have aj:w.heap.size<g.heap.size:=oM);(have ak:w.heap.size+1<g.heap.size:=oM)));have b:f.heap[w.heap.size+1+1]?=G (M Fi 128 (0,0)):=Aa.e (a:=(((w.alloc (M #[.string p.name,J x R z,O Y p.depth,O Y p.density,O Y p.gx,O Y p.gz,O Y p.way,O Y p.ax,O Y p.az,O U p.skin] 47)).alloc (M #[.string q.name,J y aa P,O Y q.depth,O Y q.density,O Y q.gx,O Y q.gz,O Y q.way,O Y q.ax,O Y q.az,O U q.skin] 47)).alloc (M Fi 128))) eA (Bc _ _ _ sM);have c:f.heap[w.heap.size+1+1+1]?=G (M Fi 128 (0,0)):=Aa.e (a:=((((w.alloc (M #[.string p.name,J x R z,O Y p.depth,O Y p.density,O Y p.gx,O Y p.gz,O Y p.way,O Y p.ax,O Y p.az,O U p.skin] 47)).alloc (M #[.string q.name,J y aa P,O Y q.depth,O Y q.density,O Y q.gx,O Y q.gz,O Y q.way,O Y q.ax,O Y q.az,O U q.skin] 47)).alloc (M Fi 128)).alloc (M Fi 128))) eA (Bc _ _ _ sM);have X:Aa w f:=eA;have C0:Ea [((⟨w.heap.size+1+1,0,I⟩:Oa),(.string ⟨#[]⟩:F)),(⟨w.heap.size+1+1,1,I⟩,J I 0 0),(⟨w.heap.size+1+1,2,I⟩,O Y 0),(⟨w.heap.size+1+1,3,I⟩,O Y 0),(⟨w.heap.size+1+1,4,I⟩,O Y 0),(⟨w.heap.size+1+1,5,I⟩,O Y 0),(⟨w.heap.size+1+1,6,I⟩,O Y 0),(⟨w.heap.size+1+1,7,I⟩,O Y 0),(⟨w.heap.size+1+1,8,I⟩,O Y 0),(⟨w.heap.size+1+1,9,I⟩,O U 0),(⟨w.heap.size+1+1,10,I⟩,J I 0 0),(⟨w.heap.size+1+1,11,I⟩,J I 0 0),(⟨w.heap.size+1+1+1,0,I⟩,.string ⟨#[]⟩),(⟨w.heap.size+1+1+1,1,I⟩,J I 0 0),(⟨w.heap.size+1+1+1,2,I⟩,O Y 0),(⟨w.heap.size+1+1+1,3,I⟩,O Y 0),(⟨w.heap.size+1+1+1,4,I⟩,O Y 0),(⟨w.heap.size+1+1+1,5,I⟩,O Y 0),(⟨w.heap.size+1+1+1,6,I⟩,O Y 0),(⟨w.heap.size+1+1+1,7,I⟩,O Y 0),(⟨w.heap.size+1+1+1,8,I⟩,O Y 0),(⟨w.heap.size+1+1+1,9,I⟩,O U 0),(⟨w.heap.size+1+1+1,10,I⟩,J I 0 0),(⟨w.heap.size+1+1+1,11,I⟩,J I 0 0)] f:=by
   refine⟨Ba b (i:=0) rfl,Ba b (i:=1) rfl,Ba b (i:=2) rfl,Ba b (i:=3) rfl,Ba b (i:=4) rfl,Ba b (i:=5) rfl,Ba b (i:=6) rfl,Ba b (i:=7) rfl,Ba b (i:=8) rfl,Ba b (i:=9) rfl,Ba b (i:=10) rfl,Ba b (i:=11) rfl,Ba c (i:=0) rfl,Ba c (i:=1) rfl,Ba c (i:=2) rfl,Ba c (i:=3) rfl,Ba c (i:=4) rfl,Ba c (i:=5) rfl,Ba c (i:=6) rfl,Ba c (i:=7) rfl,Ba c (i:=8) rfl,Ba c (i:=9) rfl,Ba c (i:=10) rfl,Ba c (i:=11) rfl,trivial⟩
  have B3:f.drew.heap[w.heap.size+1+1]?=G (M Fi 128 (0,0)):=b;have B4:f.drew.heap[w.heap.size+1+1+1]?=G (M Fi 128 (0,0)):=c;have xf:=Ya B3;have yf:=Ya B4;clear b c B3 B4;(try clear ab af z5 ah ai);(try clear ac ag z6 aj ak);refine Uc [((⟨w.heap.size+1+1,0,I⟩:Oa),(.string ⟨#[]⟩:F)),(⟨w.heap.size+1+1,1,I⟩,J I 0 0),(⟨w.heap.size+1+1,2,I⟩,O Y 0),(⟨w.heap.size+1+1,3,I⟩,O Y 0),(⟨w.heap.size+1+1,4,I⟩,O Y 0),(⟨w.heap.size+1+1,5,I⟩,O Y 0),(⟨w.heap.size+1+1,6,I⟩,O Y 0),(⟨w.heap.size+1+1,7,I⟩,O Y 0),(⟨w.heap.size+1+1,8,I⟩,O Y 0),(⟨w.heap.size+1+1,9,I⟩,O U 0),(⟨w.heap.size+1+1,10,I⟩,J I 0 0),(⟨w.heap.size+1+1,11,I⟩,J I 0 0),(⟨w.heap.size+1+1+1,0,I⟩,.string ⟨#[]⟩),(⟨w.heap.size+1+1+1,1,I⟩,J I 0 0),(⟨w.heap.size+1+1+1,2,I⟩,O Y 0),(⟨w.heap.size+1+1+1,3,I⟩,O Y 0),(⟨w.heap.size+1+1+1,4,I⟩,O Y 0),(⟨w.heap.size+1+1+1,5,I⟩,O Y 0),(⟨w.heap.size+1+1+1,6,I⟩,O Y 0),(⟨w.heap.size+1+1+1,7,I⟩,O Y 0),(⟨w.heap.size+1+1+1,8,I⟩,O Y 0),(⟨w.heap.size+1+1+1,9,I⟩,O U 0),(⟨w.heap.size+1+1+1,10,I⟩,J I 0 0),(⟨w.heap.size+1+1+1,11,I⟩,J I 0 0)] C0 fun d=>?_;obtain⟨V,hV⟩:=gX ((f).drew);have XV:Aa w V:=hV▸X.drew;rw[hV]at d xf yf ⊢;clear hV X;refine sN 0 ?_
  iterate 2 refine Bb ?_
  refine oN ?_;obtain⟨x0,x1,x2,x3,x4,x5,x6,x7,x8,x9,m,n,y0,y1,y2,y3,y4,y5,y6,y7,y8,y9,r,s,_⟩:=And.intro d trivial |>.1
  refine Vc (i:=2) fun K j=>?_;go_simp;simp only[Xe x0,Xe x1,Xe x2,Xe x3,Xe x4,Xe x5,Xe x6,Xe x7,Xe x8,Xe x9,Xe m,Xe n];refine kO j d (fun d=>?_);clear j K;refine Vc (i:=3) fun K j=>?_;go_simp;simp only[Xe y0,Xe y1,Xe y2,Xe y3,Xe y4,Xe y5,Xe y6,Xe y7,Xe y8,Xe y9,Xe r,Xe s];refine kO j d (fun d=>?_);clear j K;refine Ib (i:=4) ?_;refine Sb ?_;go_wp2;refine bR (v:=.tuple #[L Fi,L Fi,A false]) (by simp[results,Tryz.results103,go_sem,Fi,x0,x1,x2,x3,x4,x5,x6,x7,x8,x9,m,n,y0,y1,y2,y3,y4,y5,y6,y7,y8,y9,r,s,xf,yf]) rfl ⟨rfl,XV⟩
 ·go_in;go_upto_region 2 with (first|(go_at_call 28;(with_reducible refine(t.o _ ?_).mono ?_);exact eA;rintro e f ⟨rfl,k⟩;obtain⟨ab,af⟩:=k.cells;(have z5:=k.size);(try simp only[wZ]at z5);(have ah:w.heap.size<f.heap.size:=oM);(have ai:w.heap.size+1<f.heap.size:=oM))|(go_at_call 28;(with_reducible refine(u.o _ ?_).mono ?_);exact eA;rintro e g ⟨rfl,l⟩;obtain⟨ac,ag⟩:=l.cells;(have z6:=l.size);(try simp only[wZ]at z6);(have aj:w.heap.size<g.heap.size:=oM);(have ak:w.heap.size+1<g.heap.size:=oM)));have b:g.heap[w.heap.size+1+1]?=G (M Fi 128 (0,0)):=Aa.e (a:=(((w.alloc (M #[.string p.name,J x R z,O Y p.depth,O Y p.density,O Y p.gx,O Y p.gz,O Y p.way,O Y p.ax,O Y p.az,O U p.skin] 47)).alloc (M #[.string q.name,J y aa P,O Y q.depth,O Y q.density,O Y q.gx,O Y q.gz,O Y q.way,O Y q.ax,O Y q.az,O U q.skin] 47)).alloc (M Fi 128))) eA (Bc _ _ _ sM);have c:g.heap[w.heap.size+1+1+1]?=G (M Fi 128 (0,0)):=Aa.e (a:=((((w.alloc (M #[.string p.name,J x R z,O Y p.depth,O Y p.density,O Y p.gx,O Y p.gz,O Y p.way,O Y p.ax,O Y p.az,O U p.skin] 47)).alloc (M #[.string q.name,J y aa P,O Y q.depth,O Y q.density,O Y q.gx,O Y q.gz,O Y q.way,O Y q.ax,O Y q.az,O U q.skin] 47)).alloc (M Fi 128)).alloc (M Fi 128))) eA (Bc _ _ _ sM);have X:Aa w g:=eA;have C0:Ea [((⟨w.heap.size+1+1,0,I⟩:Oa),(.string ⟨#[]⟩:F)),(⟨w.heap.size+1+1,1,I⟩,J I 0 0),(⟨w.heap.size+1+1,2,I⟩,O Y 0),(⟨w.heap.size+1+1,3,I⟩,O Y 0),(⟨w.heap.size+1+1,4,I⟩,O Y 0),(⟨w.heap.size+1+1,5,I⟩,O Y 0),(⟨w.heap.size+1+1,6,I⟩,O Y 0),(⟨w.heap.size+1+1,7,I⟩,O Y 0),(⟨w.heap.size+1+1,8,I⟩,O Y 0),(⟨w.heap.size+1+1,9,I⟩,O U 0),(⟨w.heap.size+1+1,10,I⟩,J I 0 0),(⟨w.heap.size+1+1,11,I⟩,J I 0 0),(⟨w.heap.size+1+1+1,0,I⟩,.string ⟨#[]⟩),(⟨w.heap.size+1+1+1,1,I⟩,J I 0 0),(⟨w.heap.size+1+1+1,2,I⟩,O Y 0),(⟨w.heap.size+1+1+1,3,I⟩,O Y 0),(⟨w.heap.size+1+1+1,4,I⟩,O Y 0),(⟨w.heap.size+1+1+1,5,I⟩,O Y 0),(⟨w.heap.size+1+1+1,6,I⟩,O Y 0),(⟨w.heap.size+1+1+1,7,I⟩,O Y 0),(⟨w.heap.size+1+1+1,8,I⟩,O Y 0),(⟨w.heap.size+1+1+1,9,I⟩,O U 0),(⟨w.heap.size+1+1+1,10,I⟩,J I 0 0),(⟨w.heap.size+1+1+1,11,I⟩,J I 0 0)] g:=by
   refine⟨Ba b (i:=0) rfl,Ba b (i:=1) rfl,Ba b (i:=2) rfl,Ba b (i:=3) rfl,Ba b (i:=4) rfl,Ba b (i:=5) rfl,Ba b (i:=6) rfl,Ba b (i:=7) rfl,Ba b (i:=8) rfl,Ba b (i:=9) rfl,Ba b (i:=10) rfl,Ba b (i:=11) rfl,Ba c (i:=0) rfl,Ba c (i:=1) rfl,Ba c (i:=2) rfl,Ba c (i:=3) rfl,Ba c (i:=4) rfl,Ba c (i:=5) rfl,Ba c (i:=6) rfl,Ba c (i:=7) rfl,Ba c (i:=8) rfl,Ba c (i:=9) rfl,Ba c (i:=10) rfl,Ba c (i:=11) rfl,trivial⟩
  have B3:g.drew.heap[w.heap.size+1+1]?=G (M Fi 128 (0,0)):=b;have B4:g.drew.heap[w.heap.size+1+1+1]?=G (M Fi 128 (0,0)):=c;have xf:=Ya B3;have yf:=Ya B4;clear b c B3 B4;(try clear ab af z5 ah ai);(try clear ac ag z6 aj ak);refine Uc [((⟨w.heap.size+1+1,0,I⟩:Oa),(.string ⟨#[]⟩:F)),(⟨w.heap.size+1+1,1,I⟩,J I 0 0),(⟨w.heap.size+1+1,2,I⟩,O Y 0),(⟨w.heap.size+1+1,3,I⟩,O Y 0),(⟨w.heap.size+1+1,4,I⟩,O Y 0),(⟨w.heap.size+1+1,5,I⟩,O Y 0),(⟨w.heap.size+1+1,6,I⟩,O Y 0),(⟨w.heap.size+1+1,7,I⟩,O Y 0),(⟨w.heap.size+1+1,8,I⟩,O Y 0),(⟨w.heap.size+1+1,9,I⟩,O U 0),(⟨w.heap.size+1+1,10,I⟩,J I 0 0),(⟨w.heap.size+1+1,11,I⟩,J I 0 0),(⟨w.heap.size+1+1+1,0,I⟩,.string ⟨#[]⟩),(⟨w.heap.size+1+1+1,1,I⟩,J I 0 0),(⟨w.heap.size+1+1+1,2,I⟩,O Y 0),(⟨w.heap.size+1+1+1,3,I⟩,O Y 0),(⟨w.heap.size+1+1+1,4,I⟩,O Y 0),(⟨w.heap.size+1+1+1,5,I⟩,O Y 0),(⟨w.heap.size+1+1+1,6,I⟩,O Y 0),(⟨w.heap.size+1+1+1,7,I⟩,O Y 0),(⟨w.heap.size+1+1+1,8,I⟩,O Y 0),(⟨w.heap.size+1+1+1,9,I⟩,O U 0),(⟨w.heap.size+1+1+1,10,I⟩,J I 0 0),(⟨w.heap.size+1+1+1,11,I⟩,J I 0 0)] C0 fun d=>?_;obtain⟨V,hV⟩:=gX ((g).drew);have XV:Aa w V:=hV▸X.drew;rw[hV]at d xf yf ⊢;clear hV X;refine sN 0 ?_
  iterate 2 refine Bb ?_
  refine oN ?_;obtain⟨x0,x1,x2,x3,x4,x5,x6,x7,x8,x9,m,n,y0,y1,y2,y3,y4,y5,y6,y7,y8,y9,r,s,_⟩:=And.intro d trivial |>.1
  refine Vc (i:=2) fun K j=>?_;go_simp;simp only[Xe x0,Xe x1,Xe x2,Xe x3,Xe x4,Xe x5,Xe x6,Xe x7,Xe x8,Xe x9,Xe m,Xe n];refine kO j d (fun d=>?_);clear j K;refine Vc (i:=3) fun K j=>?_;go_simp;simp only[Xe y0,Xe y1,Xe y2,Xe y3,Xe y4,Xe y5,Xe y6,Xe y7,Xe y8,Xe y9,Xe r,Xe s];refine kO j d (fun d=>?_);clear j K;refine Ib (i:=4) ?_;refine Sb ?_;go_wp2;refine bR (v:=.tuple #[L Fi,L Fi,A false]) (by simp[results,Tryz.results103,go_sem,Fi,x0,x1,x2,x3,x4,x5,x6,x7,x8,x9,m,n,y0,y1,y2,y3,y4,y5,y6,y7,y8,y9,r,s,xf,yf]) rfl ⟨rfl,XV⟩
