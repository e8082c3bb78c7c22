import Derived.Test.YtjnjpagegkcgfaaGreatDoorCobA14
set_option maxRecDepth 1000000
set_option maxHeartbeats 16000000
set_option linter.all false
open Go.Value renaming int->O,slice->I,bool->A,agg->L,pointer->Oa
open Go.IntKind renaming i64->Y,u8->U
open Option renaming none->J,some->G
open Go renaming World->M,Value->F
open Go.Obj renaming cells->C
namespace Go.Proofs.YtjnjpagegkcgfaaGreatDoor.Cop
section
open Go.RowKit Go.Shelf
attribute [local go_sem] Oper.semAt_some
def LA:∀d:Nat,d<10->Utf8.encode (48+(d:Int))=⟨[UInt8.ofNat (48+d)].toArray⟩:=by
 intro d h
 match d,h with
 | 0,_=>rfl
 | 1,_=>rfl
 | 2,_=>rfl
 | 3,_=>rfl
 | 4,_=>rfl
 | 5,_=>rfl
 | 6,_=>rfl
 | 7,_=>rfl
 | 8,_=>rfl
 | 9,_=>rfl
def lF(xs:List Int)(N i:Nat)(s:List UInt8):Prop:=
 i<=xs.length/\s.length<=4*i/\(i<xs.length->jg s/\s.length=4*i/\((ie s:Nat):Int)=dv C4 (xs.take i))/\(i=xs.length->Te N=s)
def uo(n i V g k:Nat)(s:List UInt8):Prop:=k<=4/\jg s/\s.length=4*i+k/\ie s=V+10000 ^ i*(g%10 ^ k)/\(k=0\/i+1<n\/0<g/10 ^ (k-1))
def uo.step{n i V g k:Nat}{s:List UInt8}(h:uo n i V g k s)(l:k<4)(j:i+1<n\/0<g/10 ^ k):uo n i V g (k+1) (UInt8.ofNat (48+g/10 ^ k%10)::s):=by obtain⟨_,d,e,f,_⟩:=h;obtain⟨a,b,c⟩:=MK d e f;exact⟨by omega,a,b,c,by rw[Nat.add_sub_cancel];exact .inr j⟩
def uo.done{xs:List Int}{N i V g k:Nat}{s:List UInt8}(h:uo xs.length i V g k s)(c:xs[i]?=G (g:Int))(o:yg C4 xs)(y:((V:Nat):Int)=dv C4 (xs.take i))(x:dv C4 xs=(N:Int))(q:k=4\/(g/10 ^ k=0/\¬i+1<xs.length)):lF xs N (i+1) s:=by
 obtain⟨K,m,t,n,u⟩:=h;have z:=(lS.1 c).1;have r:g<10000:=by
  have:=(o.1 _ (lM c)).2;unfold C4 at this;omega
 have p:=Kl C4 xs i (g:Int) c;have v:(C4:Int) ^ i=((10000 ^ i:Nat):Int):=by unfold C4;rw[Int.natCast_pow];rfl
 rw[<-y,v]at p;have a:dv C4 (xs.take (i+1))=((V+10000 ^ i*g:Nat):Int):=by rw[p,Int.natCast_add,Int.natCast_mul]
 refine⟨by omega,by omega,fun j=>?_,fun d=>?_⟩
 ·have b:k=4:=by
   rcases q with e|⟨_,e⟩
   ·exact e
   ·exact absurd j e
  subst b;refine⟨m,by omega,?_⟩;rw[n,Nat.mod_eq_of_lt (by simpa using r),a]
 ·rw[d,List.take_length]at a;have f:g≠0:=by
   rintro rfl;refine o.2 ?_;rw[List.getLast?_eq_getElem?,show xs.length-1=i by omega,c];rfl
  have l:g/10 ^ k=0:=by
   rcases q with rfl|⟨e,_⟩
   ·exact Nat.div_eq_of_lt (by simpa using r)
   ·exact e
  have b:0<k:=by
   rcases Nat.eq_zero_or_pos k with rfl|b
   ·simp at l;exact absurd l f
   ·exact b
  refine FG m t n l b ?_ (by rw[x]at a;exact_mod_cast a);rcases u with e|e|e
  ·omega
  ·omega
  ·exact e
def vQ(xs:List Int)(N:Nat)(W0:M)(t3 t4:F)(W:M):Prop:=∃(i:Nat)(s:List UInt8),t4=O Y i/\t3 = .string ⟨s.toArray⟩/\lF xs N i s/\W=W0
def xQ(n i V g:Nat)(W0:M)(t3 t5 a:F)(W:M):Prop:=∃(k:Nat)(s:List UInt8),a=O Y k/\t5=O Y ((g/10 ^ k:Nat):Int)/\t3 = .string ⟨s.toArray⟩/\uo n i V g k s/\W=W0
def OI:yd 0=[48]:=rfl
def xE(w:M)(v:F)(n:Int)(h:xd w v n)(hl:Lm Fb n):Calls Tryz.prog 168 #[v] w fun e w'=>e=.returned (.string ⟨(yd n).toArray⟩)/\Ba w w':=by
 obtain⟨σ,a,m,c,rfl,hs⟩:=h.j;obtain⟨xs,l,hi,hc,hv⟩:=h.open;have hm:=Mo hl hc hv;rw[l]at hm;unfold Fb at hm;by_cases h0:n=0
 ·subst h0;obtain rfl:σ=0:=hs;rw[OI];clear h hl l hi hc hv hm;go_in;go_wp2;go_ret;exact⟨rfl,eA⟩
 ·have aB:(σ==0)=false:=by
   rcases Sh n with ⟨e,_⟩|⟨_,e⟩|⟨e,_⟩
   ·rw[hs,e];rfl
   ·exact absurd e h0
   ·rw[hs,e];rfl
  obtain⟨T,hT⟩:=gX (Te n.natAbs);have HT:Sa (Te n.natAbs=T):=Aa hT;have HL:Sa (T.length<=20*Fb):=Aa (by rw[<-hT];exact It hl.abs);have hz:(decide (σ<0)=true/\yd n=45::T)\/(decide (σ<0)=false/\yd n=T):=by
   unfold yd;rw[hT];rcases Sh n with ⟨e,e'⟩|⟨_,e⟩|⟨e,e'⟩
   ·exact .inl ⟨by rw[hs,e];rfl,if_pos e'⟩
   ·exact absurd e h0
   ·exact .inr ⟨by rw[hs,e];rfl,if_neg oM⟩
  obtain⟨Z,hZ⟩:=gX (yd n);rw[hZ]at hz ⊢;have Hz:=Aa hz;obtain⟨N,hN⟩:=gX n.natAbs;rw[hN]at hv HT;have aA:0<m:=by
   rcases Nat.eq_zero_or_pos m with e|e
   ·rw[<-l]at e;rw[List.length_eq_zero_iff.1 e]at hv;have:(0:Int)=(N:Int):=hv;omega
   ·exact e
  have Hv:=Aa hv;have Hc:=Aa hc;have z:=Aa l;obtain⟨W0,d⟩:=gX (w.alloc (C #[O Y σ,I a m c] 66));have X0:Ba w W0:=by rw[<-d];exact(eR w).alloc _
  have ab:=Aa X0;have p0:W0.cell? ⟨w.heap.size,0,J⟩=G (O Y σ):=by rw[<-d];clear d;go_simp
  have p1:W0.cell? ⟨w.heap.size,1,J⟩=G (I a m c):=by rw[<-d];clear d;go_simp
  have z0:w.heap.size<W0.heap.size:=by rw[<-d];simp
  obtain⟨b,o,rfl,aw,ai⟩:=(hi.ext X0).open (by rw[l];omega);have ak:=Aa ai;clear hs h0 hl hT hz hZ hN hv hc l hi h X0 ai;go_in;go_wp2;go_loopw [3,4] (vQ xs N W0) (fun _ t4 _=>m-(intOf t4).toNat)
  case atStart =>
   exact⟨0,[],rfl,rfl,⟨by omega,by simp,fun _=>⟨fun b hb=>by simp at hb,rfl,rfl⟩,fun e=>by have:=z.o;omega⟩,by first|rfl|exact d⟩
  case round =>
   clear d;obtain⟨i,s8,rfl,rfl,hO,rfl⟩:=hrel;have ay:i<=m:=by have:=hO.1;rw[z.o]at this;exact this
   have HO:=Aa hO;clear hO;by_cases aq:i<m
   ·obtain⟨x,u⟩:∃x,xs[i]?=G x:=⟨_,gE (by rw[z.o];omega)⟩;have aj:=Hc.o.1 x (lM u);obtain⟨g,rfl⟩:∃g:Nat,x=(g:Int):=⟨x.toNat,by omega⟩;have ax:(g:Int)<10000:=aj.2;have av:=ak.o i _ u;obtain⟨ad,ae,af⟩:=HO.o.2.2.1 (by rw[z.o];exact aq);have ac:=Aa u;have al:=Aa ad;have am:=Aa ae;have aa:=Aa af;have g0:(0:Int)<=(i:Int):=oM;have g1:(i:Int)<(m:Int):=oM;clear aj u ad ae af HO;go_wp2;go_loopw [3,5,6] (xQ m i (ie s8) g wr) (fun _ _ t6 _=>4-(intOf t6).toNat)
    case atStart =>
     exact⟨0,s8,rfl,by simp,rfl,⟨by omega,al.o,am.o,by rw[Nat.pow_zero,Nat.mod_one];simp,.inl rfl⟩,rfl⟩
    case round =>
     obtain⟨k,P,rfl,rfl,rfl,hJ,rfl⟩:=hrel;have az:k<=4:=hJ.1;obtain⟨y,hy⟩:=gX (g/10 ^ k);(have aD:y<10000:=by rw[<-hy];exact Nat.lt_of_le_of_lt (Nat.div_le_self _ _) oM);rw[hy];have W:=Aa hJ;have Hy:=Aa hy;clear hJ hy;by_cases K:k<4
     ·by_cases au:0<y
      ·have p:i+1<m\/0<g/10 ^ k:=.inr (by rw[Hy.o];exact au);obtain⟨r,hr⟩:=gX (Int.tmod (y:Int) 10);obtain⟨q,hq⟩:=gX (Int.tdiv (y:Int) 10);obtain⟨S,f⟩:=gX (UInt8.ofNat (48+y%10));(have t:r=((y%10:Nat):Int):=by rw[<-hr];rfl);(have s:q=((y/10:Nat):Int):=by rw[<-hq];rfl);(have ao:Utf8.encode (48+r)=⟨[S].toArray⟩:=by rw[t,<-f];exact LA _ oM);have r0:0<=r:=oM;have r1:r<10:=oM;have q0:0<=q:=oM;have q1:q<10000:=oM;have j:=W.o.step K p;rw[Hy.o,f]at j;have R:=Aa j;have Q:=Aa s;(have ah:¬9223372036854775807<1+P.length:=by have:=W.o.2.2.1;omega);clear p j s t f;go_wp2;go_roundw
       case rel =>
        refine⟨k+1,S::P,by go_num,?_,?_,R.o,rfl⟩
        ·rw[Nat.pow_succ,<-Nat.div_div_eq_div_mul,Hy.o,<-Q.o];try go_num
        ·exact congrArg Value.string (ll [S] P)
       case measure=>simp[intOf];omega
      ·have an:Sa (y=0):=Aa oM;have aC:¬(0:Int)<(y:Int):=oM;by_cases ag:i+1<m
       ·have ap:(i:Int)<(m:Int)-1:=oM;have p:i+1<m\/0<g/10 ^ k:=.inl ag;obtain⟨r,hr⟩:=gX (Int.tmod (y:Int) 10);obtain⟨q,hq⟩:=gX (Int.tdiv (y:Int) 10);obtain⟨S,f⟩:=gX (UInt8.ofNat (48+y%10));(have t:r=((y%10:Nat):Int):=by rw[<-hr];rfl);(have s:q=((y/10:Nat):Int):=by rw[<-hq];rfl);(have ao:Utf8.encode (48+r)=⟨[S].toArray⟩:=by rw[t,<-f];exact LA _ oM);have r0:0<=r:=oM;have r1:r<10:=oM;have q0:0<=q:=oM;have q1:q<10000:=oM;have j:=W.o.step K p;rw[Hy.o,f]at j;have R:=Aa j;have Q:=Aa s;(have ah:¬9223372036854775807<1+P.length:=by have:=W.o.2.2.1;omega);clear p j s t f;go_wp2;go_roundw
        case rel =>
         refine⟨k+1,S::P,by go_num,?_,?_,R.o,rfl⟩
         ·rw[Nat.pow_succ,<-Nat.div_div_eq_div_mul,Hy.o,<-Q.o];try go_num
         ·exact congrArg Value.string (ll [S] P)
        case measure=>simp[intOf];omega
       ·have ap:¬(i:Int)<(m:Int)-1:=oM;go_wp2;go_roundw
        case rel =>
         refine⟨i+1,P,by go_num,rfl,?_,rfl⟩;exact uo.done (by rw[z.o];exact W.o) ac.o Hc.o aa.o Hv.o (.inr ⟨Hy.o.trans an.o,by rw[z.o];exact ag⟩)
        case measure=>simp[intOf];omega
     ·obtain rfl:k=4:=oM;go_wp2;go_roundw
      case rel =>
       refine⟨i+1,P,by go_num,rfl,?_,rfl⟩;exact uo.done (by rw[z.o];exact W.o) ac.o Hc.o aa.o Hv.o (.inl rfl)
      case measure=>simp[intOf];omega
   ·obtain rfl:i=m:=oM;have ar:T=s8:=HT.o.symm.trans (HO.o.2.2.2 z.o.symm);subst ar;(have ah:¬9223372036854775807<1+T.length:=by have:=HL.o;unfold Fb at this;omega);rcases Hz.o with ⟨hd,ht⟩|⟨hd,ht⟩
    ·have Ht:=Aa ht;clear ht Hz;go_wp2;go_ret;exact⟨by rw[Ht.o,show (⟨#[45]⟩:ByteArray)=⟨[45].toArray⟩from rfl,ll];rfl,ab.o⟩
    ·have Ht:=Aa ht;clear ht Hz;go_wp2;go_ret;exact⟨by rw[Ht.o];rfl,ab.o⟩
end
section
open Go.RowKit Go.Shelf Go.Sort Go.Lib
def Lv{g:LP}:∀{c done:List Pl},jd g done c=0->∀p∈c,Fa p=true
 | [],_,_,p,b=>by cases b
 | q::r,done,h,p,b=>by
  unfold jd at h;by_cases a:Df g done q=0
  ·rw[if_pos a]at h;rcases List.mem_cons.1 b with rfl|b
   ·cases hk:Fa p with
    | true=>rfl
    | false=>unfold Df at a;rw[hk]at a;simp at a
   ·exact Lv h p b
  ·rw[if_neg a]at h;exact absurd h a
def On{g:LP}{ps:List Pl}(h:Bb g ps=0):(∀p∈ps,Fa p=true)/\ps.length<=120/\Za g=true:=by
 unfold Bb at h;cases hg:Za g with
 | false=>rw[hg]at h;simp at h
 |true=>
  rw[hg,if_pos rfl]at h;by_cases b:120<ps.length
  ·rw[if_pos b]at h;exact absurd h dM
  ·rw[if_neg b]at h;by_cases a:jd g [] ps=0
   ·exact⟨Lv a,by omega,rfl⟩
   ·rw[if_neg a]at h;exact absurd h a
def Lk(w:M)(base:Nat)(v:F)(ps:List Pl):Prop:=∃cs,Ka 47 10 w base v cs/\cs.length=ps.length/\∀(i:Nat) c p,cs[i]?=G c->ps[i]?=G p->Cm w c p
def Lk.pls{w:M}{base:Nat}{v:F}{ps:List Pl}(h:Lk w base v ps):Pd w v ps:=by obtain⟨d,a,b,c⟩:=h;exact a.sl b c
end
section
open Go.RowKit Go.Shelf Go.Sort Go.Lib
attribute [local go_sem] Oper.semAt_some
def KM(w:M)(v1 v2:F)(p q:Pl)(h1:Ja w v1 p.shape)(h2:Ja w v2 q.shape)(k1:0<=p.skin)(k2:0<=q.skin)(au:Gw w)(o1:Fa p=true)(o2:Fa q=true):Calls Tryz.prog 103 #[L (Dd p v1),L (Dd q v2)] w fun e w'=>∃r1 r2,e=.returned (.tuple #[r1,r2,A true])/\Ce w' r1 p/\Ce w' r2 q/\Ba w w':=by
 have ao:=Aa (fun(W:M)(hW:Ba w W)=>iu W p _ (h1.f hW) k1);have ap:=Aa (fun(W:M)(hW:Ba w W)=>iu W q _ (h2.f hW) k2);rw[if_pos o1]at ao;rw[if_pos o2]at ap;have aq:=Aa (fun(W:M)(hW:Ba w W)=>Du W p _ (h1.f hW) o1 (au.ext hW));have ar:=Aa (fun(W:M)(hW:Ba w W)=>Du W q _ (h2.f hW) o2 (au.ext hW));have H1:=Aa h1;have H2:=Aa h2;obtain⟨f,j,g,rfl⟩:=La h1;obtain⟨k,m,l,rfl⟩:=La h2;clear h1 h2 k1 k2 au o1 o2;unfold Dd at ao ap aq ar ⊢;unfold Bm Je at aq ar;go_in;go_upto_region 3 with (first|(go_at_call 28;(with_reducible refine(ao.o _ ?_).mono ?_);exact eA;rintro e w5 ⟨rfl,av⟩;obtain⟨aK,aM⟩:=av.cells;(have z5:=av.size);(try simp only[wZ]at z5);(have aS:w.heap.size<w5.heap.size:=oM);(have aT:w.heap.size+1<w5.heap.size:=oM))|(go_at_call 28;(with_reducible refine(ap.o _ ?_).mono ?_);exact eA;rintro e x ⟨rfl,aw⟩;obtain⟨aL,aO⟩:=aw.cells;(have z6:=aw.size);(try simp only[wZ]at z6);(have aU:w.heap.size<x.heap.size:=oM);(have aV:w.heap.size+1<x.heap.size:=oM)));have X0:Ba w x:=eA;clear X0;have A1:x.heap[w.heap.size]?=G (C #[.string p.name,I f j g,O Y p.depth,O Y p.density,O Y p.gx,O Y p.gz,O Y p.way,O Y p.ax,O Y p.az,O U p.skin] 47 (0,0)):=Ba.e (a:=w.alloc (C #[.string p.name,I f j g,O Y p.depth,O Y p.density,O Y p.gx,O Y p.gz,O Y p.way,O Y p.ax,O Y p.az,O U p.skin] 47)) eA (aN _ _);have A2:x.heap[w.heap.size+1]?=G (C #[.string q.name,I k m l,O Y q.depth,O Y q.density,O Y q.gx,O Y q.gz,O Y q.way,O Y q.ax,O Y q.az,O U q.skin] 47 (0,0)):=Ba.e (a:=(w.alloc (C #[.string p.name,I f j g,O Y p.depth,O Y p.density,O Y p.gx,O Y p.gz,O Y p.way,O Y p.ax,O Y p.az,O U p.skin] 47)).alloc (C #[.string q.name,I k m l,O Y q.depth,O Y q.density,O Y q.gx,O Y q.gz,O Y q.way,O Y q.ax,O Y q.az,O U q.skin] 47)) eA (Ec _ _ _ sM);have A3:x.heap[w.heap.size+1+1]?=G (C #[.string ⟨#[]⟩,I J 0 0,O Y 0,O Y 0,O Y 0,O Y 0,O Y 0,O Y 0,O Y 0,O U 0,I J 0 0,I J 0 0] 128 (0,0)):=Ba.e (a:=((w.alloc (C #[.string p.name,I f j g,O Y p.depth,O Y p.density,O Y p.gx,O Y p.gz,O Y p.way,O Y p.ax,O Y p.az,O U p.skin] 47)).alloc (C #[.string q.name,I k m l,O Y q.depth,O Y q.density,O Y q.gx,O Y q.gz,O Y q.way,O Y q.ax,O Y q.az,O U q.skin] 47)).alloc (C #[.string ⟨#[]⟩,I J 0 0,O Y 0,O Y 0,O Y 0,O Y 0,O Y 0,O Y 0,O Y 0,O U 0,I J 0 0,I J 0 0] 128)) eA (Ec _ _ _ sM);have A4:x.heap[w.heap.size+1+1+1]?=G (C #[.string ⟨#[]⟩,I J 0 0,O Y 0,O Y 0,O Y 0,O Y 0,O Y 0,O Y 0,O Y 0,O U 0,I J 0 0,I J 0 0] 128 (0,0)):=Ba.e (a:=(((w.alloc (C #[.string p.name,I f j g,O Y p.depth,O Y p.density,O Y p.gx,O Y p.gz,O Y p.way,O Y p.ax,O Y p.az,O U p.skin] 47)).alloc (C #[.string q.name,I k m l,O Y q.depth,O Y q.density,O Y q.gx,O Y q.gz,O Y q.way,O Y q.ax,O Y q.az,O U q.skin] 47)).alloc (C #[.string ⟨#[]⟩,I J 0 0,O Y 0,O Y 0,O Y 0,O Y 0,O Y 0,O Y 0,O Y 0,O U 0,I J 0 0,I J 0 0] 128)).alloc (C #[.string ⟨#[]⟩,I J 0 0,O Y 0,O Y 0,O Y 0,O Y 0,O Y 0,O Y 0,O Y 0,O U 0,I J 0 0,I J 0 0] 128)) eA (Ec _ _ _ sM);have X6:Ba w x:=eA;clear aK aM z5 aS aT aL aO z6 aU aV av aw;have hC:Da [((⟨w.heap.size,0,J⟩:Addr),(.string p.name:F)),(⟨w.heap.size,1,J⟩,I f j g),(⟨w.heap.size,2,J⟩,O Y p.depth),(⟨w.heap.size,3,J⟩,O Y p.density),(⟨w.heap.size,4,J⟩,O Y p.gx),(⟨w.heap.size,5,J⟩,O Y p.gz),(⟨w.heap.size,6,J⟩,O Y p.way),(⟨w.heap.size,7,J⟩,O Y p.ax),(⟨w.heap.size,8,J⟩,O Y p.az),(⟨w.heap.size,9,J⟩,O U p.skin),(⟨w.heap.size+1,0,J⟩,.string q.name),(⟨w.heap.size+1,1,J⟩,I k m l),(⟨w.heap.size+1,2,J⟩,O Y q.depth),(⟨w.heap.size+1,3,J⟩,O Y q.density),(⟨w.heap.size+1,4,J⟩,O Y q.gx),(⟨w.heap.size+1,5,J⟩,O Y q.gz),(⟨w.heap.size+1,6,J⟩,O Y q.way),(⟨w.heap.size+1,7,J⟩,O Y q.ax),(⟨w.heap.size+1,8,J⟩,O Y q.az),(⟨w.heap.size+1,9,J⟩,O U q.skin)] x:=by
  refine⟨Ca A1 (i:=0) rfl,Ca A1 (i:=1) rfl,Ca A1 (i:=2) rfl,Ca A1 (i:=3) rfl,Ca A1 (i:=4) rfl,Ca A1 (i:=5) rfl,Ca A1 (i:=6) rfl,Ca A1 (i:=7) rfl,Ca A1 (i:=8) rfl,Ca A1 (i:=9) rfl,Ca A2 (i:=0) rfl,Ca A2 (i:=1) rfl,Ca A2 (i:=2) rfl,Ca A2 (i:=3) rfl,Ca A2 (i:=4) rfl,Ca A2 (i:=5) rfl,Ca A2 (i:=6) rfl,Ca A2 (i:=7) rfl,Ca A2 (i:=8) rfl,Ca A2 (i:=9) rfl,trivial⟩
 refine Kc [((⟨w.heap.size,0,J⟩:Addr),(.string p.name:F)),(⟨w.heap.size,1,J⟩,I f j g),(⟨w.heap.size,2,J⟩,O Y p.depth),(⟨w.heap.size,3,J⟩,O Y p.density),(⟨w.heap.size,4,J⟩,O Y p.gx),(⟨w.heap.size,5,J⟩,O Y p.gz),(⟨w.heap.size,6,J⟩,O Y p.way),(⟨w.heap.size,7,J⟩,O Y p.ax),(⟨w.heap.size,8,J⟩,O Y p.az),(⟨w.heap.size,9,J⟩,O U p.skin),(⟨w.heap.size+1,0,J⟩,.string q.name),(⟨w.heap.size+1,1,J⟩,I k m l),(⟨w.heap.size+1,2,J⟩,O Y q.depth),(⟨w.heap.size+1,3,J⟩,O Y q.density),(⟨w.heap.size+1,4,J⟩,O Y q.gx),(⟨w.heap.size+1,5,J⟩,O Y q.gz),(⟨w.heap.size+1,6,J⟩,O Y q.way),(⟨w.heap.size+1,7,J⟩,O Y q.ax),(⟨w.heap.size+1,8,J⟩,O Y q.az),(⟨w.heap.size+1,9,J⟩,O U q.skin)] hC fun n=>?_;refine Db (i:=0) ?_;refine Db (i:=2) ?_;refine Ub (i:=1) (aq.o _ X6.drew) ?_;rintro e w7 ⟨vl,vu,rfl,aG,aH,aI⟩;obtain⟨⟨z,T,R,rfl⟩,ab,ag,ae,rfl⟩:=And.intro (La aG) (La aH);refine⟨_,rfl,(cE n aI),fun n=>?_⟩;have X7:Ba x w7:=(eR x).drew.trans aI;refine Ub (i:=3) (ar.o _ (X6.trans X7)) ?_;rintro e w8 ⟨aW,aX,rfl,am,an,ak⟩;obtain⟨⟨Q,aa,S,rfl⟩,ac,ah,af,rfl⟩:=And.intro (La am) (La an);refine⟨_,rfl,(cE n ak),fun n=>?_⟩;have X8:Ba x w8:=X7.trans ak;have r:=X8.e A3;have c:=X8.e A4;have x0:=Ca r (i:=0) (u:=.string ⟨#[]⟩) rfl;have x1:=Ca r (i:=1) (u:=I J 0 0) rfl;have x2:=Ca r (i:=2) (u:=O Y 0) rfl;have x3:=Ca r (i:=3) (u:=O Y 0) rfl;have x4:=Ca r (i:=4) (u:=O Y 0) rfl;have x5:=Ca r (i:=5) (u:=O Y 0) rfl;have x6:=Ca r (i:=6) (u:=O Y 0) rfl;have x7:=Ca r (i:=7) (u:=O Y 0) rfl;have x8:=Ca r (i:=8) (u:=O Y 0) rfl;have x9:=Ca r (i:=9) (u:=O U 0) rfl;have ay:=Ca r (i:=10) (u:=I J 0 0) rfl;have aA:=Ca r (i:=11) (u:=I J 0 0) rfl;have y0:=Ca c (i:=0) (u:=.string ⟨#[]⟩) rfl;have y1:=Ca c (i:=1) (u:=I J 0 0) rfl;have y2:=Ca c (i:=2) (u:=O Y 0) rfl;have y3:=Ca c (i:=3) (u:=O Y 0) rfl;have y4:=Ca c (i:=4) (u:=O Y 0) rfl;have y5:=Ca c (i:=5) (u:=O Y 0) rfl;have y6:=Ca c (i:=6) (u:=O Y 0) rfl;have y7:=Ca c (i:=7) (u:=O Y 0) rfl;have y8:=Ca c (i:=8) (u:=O Y 0) rfl;have y9:=Ca c (i:=9) (u:=O U 0) rfl;have ai:=Ca c (i:=10) (u:=I J 0 0) rfl;have aj:=Ca c (i:=11) (u:=I J 0 0) rfl;have xf:=Ua r;have yf:=Ua c;have aF:∀b,w.heap.size+1<b->∀ad∈[((⟨w.heap.size,0,J⟩:Addr),(.string p.name:F)),(⟨w.heap.size,1,J⟩,I f j g),(⟨w.heap.size,2,J⟩,O Y p.depth),(⟨w.heap.size,3,J⟩,O Y p.density),(⟨w.heap.size,4,J⟩,O Y p.gx),(⟨w.heap.size,5,J⟩,O Y p.gz),(⟨w.heap.size,6,J⟩,O Y p.way),(⟨w.heap.size,7,J⟩,O Y p.ax),(⟨w.heap.size,8,J⟩,O Y p.az),(⟨w.heap.size,9,J⟩,O U p.skin),(⟨w.heap.size+1,0,J⟩,.string q.name),(⟨w.heap.size+1,1,J⟩,I k m l),(⟨w.heap.size+1,2,J⟩,O Y q.depth),(⟨w.heap.size+1,3,J⟩,O Y q.density),(⟨w.heap.size+1,4,J⟩,O Y q.gx),(⟨w.heap.size+1,5,J⟩,O Y q.gz),(⟨w.heap.size+1,6,J⟩,O Y q.way),(⟨w.heap.size+1,7,J⟩,O Y q.ax),(⟨w.heap.size+1,8,J⟩,O Y q.az),(⟨w.heap.size+1,9,J⟩,O U q.skin)],b≠ad.1.block:=by
  intro b hb ad hq;simp only[List.mem_cons,List.not_mem_nil,or_false]at hq;rcases hq with rfl|rfl|rfl|rfl|rfl|rfl|rfl|rfl|rfl|rfl|rfl|rfl|rfl|rfl|rfl|rfl|rfl|rfl|rfl|rfl<;>(dsimp only;omega)
 have aP:=aF (w.heap.size+1+1) oM;have aQ:=aF (w.heap.size+1+1+1) oM;refine Ld (i:=4) fun K hK=>?_;go_simp;refine kO hK (by(iterate 12 refine Da.set ?_ aP _);exact n) (fun n=>?_);clear hK K;clear x0 x1 x2 x3 x4 x5 x6 x7 x8 x9 ay aA y0 y1 y2 y3 y4 y5 y6 y7 y8 y9 ai aj xf yf;obtain⟨W9,t⟩:=gX (Ig w8 (w.heap.size+1+1) 0 [.string p.name,I f j g,O Y p.depth,O Y p.density,O Y p.gx,O Y p.gz,O Y p.way,O Y p.ax,O Y p.az,O U p.skin,I z T R,I ab ag ae]);have e9:((((((((((((w8.setCell ⟨w.heap.size+1+1,0,J⟩ (.string p.name)).setCell ⟨w.heap.size+1+1,1,J⟩ (I f j g)).setCell ⟨w.heap.size+1+1,2,J⟩ (O Y p.depth)).setCell ⟨w.heap.size+1+1,3,J⟩ (O Y p.density)).setCell ⟨w.heap.size+1+1,4,J⟩ (O Y p.gx)).setCell ⟨w.heap.size+1+1,5,J⟩ (O Y p.gz)).setCell ⟨w.heap.size+1+1,6,J⟩ (O Y p.way)).setCell ⟨w.heap.size+1+1,7,J⟩ (O Y p.ax)).setCell ⟨w.heap.size+1+1,8,J⟩ (O Y p.az)).setCell ⟨w.heap.size+1+1,9,J⟩ (O U p.skin)).setCell ⟨w.heap.size+1+1,10,J⟩ (I z T R)).setCell ⟨w.heap.size+1+1,11,J⟩ (I ab ag ae))=W9:=t;rw[e9]at n ⊢;have aR:ld 43 w8 (w.heap.size+1+1):=fun cs fr h=>by rw[r]at h;cases h
 have s:W9.heap[w.heap.size+1+1]?=G (C #[.string p.name,I f j g,O Y p.depth,O Y p.density,O Y p.gx,O Y p.gz,O Y p.way,O Y p.ax,O Y p.az,O U p.skin,I z T R,I ab ag ae] 128 (0,0)):=by
  rw[<-t];exact Mp _ r rfl
 have D9:W9.heap[w.heap.size+1+1+1]?=w8.heap[w.heap.size+1+1+1]?:=by
  rw[<-t];exact Xm oM _ _ _
 have aE:Ia 43 w8 W9:=by
  rw[<-t];exact Pj _ _ aR
 have E9:∀v:M,Ba v w8->v.heap.size<=w.heap.size+1+1->Ba v W9:=fun v XE hz=>by
  rw[<-t];exact Gn hz _ _ XE
 clear e9 t;have c:=D9.trans c;have y0:=Ca c (i:=0) (u:=.string ⟨#[]⟩) rfl;have y1:=Ca c (i:=1) (u:=I J 0 0) rfl;have y2:=Ca c (i:=2) (u:=O Y 0) rfl;have y3:=Ca c (i:=3) (u:=O Y 0) rfl;have y4:=Ca c (i:=4) (u:=O Y 0) rfl;have y5:=Ca c (i:=5) (u:=O Y 0) rfl;have y6:=Ca c (i:=6) (u:=O Y 0) rfl;have y7:=Ca c (i:=7) (u:=O Y 0) rfl;have y8:=Ca c (i:=8) (u:=O Y 0) rfl;have y9:=Ca c (i:=9) (u:=O U 0) rfl;have ai:=Ca c (i:=10) (u:=I J 0 0) rfl;have aj:=Ca c (i:=11) (u:=I J 0 0) rfl;have yf:=Ua c;refine Ld (i:=5) fun K hK=>?_;go_simp;refine kO hK (by(iterate 12 refine Da.set ?_ aQ _);exact n) (fun n=>?_);clear hK K;clear y0 y1 y2 y3 y4 y5 y6 y7 y8 y9 ai aj yf;obtain⟨y,o⟩:=gX (Ig W9 (w.heap.size+1+1+1) 0 [.string q.name,I k m l,O Y q.depth,O Y q.density,O Y q.gx,O Y q.gz,O Y q.way,O Y q.ax,O Y q.az,O U q.skin,I Q aa S,I ac ah af]);have aD:((((((((((((W9.setCell ⟨w.heap.size+1+1+1,0,J⟩ (.string q.name)).setCell ⟨w.heap.size+1+1+1,1,J⟩ (I k m l)).setCell ⟨w.heap.size+1+1+1,2,J⟩ (O Y q.depth)).setCell ⟨w.heap.size+1+1+1,3,J⟩ (O Y q.density)).setCell ⟨w.heap.size+1+1+1,4,J⟩ (O Y q.gx)).setCell ⟨w.heap.size+1+1+1,5,J⟩ (O Y q.gz)).setCell ⟨w.heap.size+1+1+1,6,J⟩ (O Y q.way)).setCell ⟨w.heap.size+1+1+1,7,J⟩ (O Y q.ax)).setCell ⟨w.heap.size+1+1+1,8,J⟩ (O Y q.az)).setCell ⟨w.heap.size+1+1+1,9,J⟩ (O U q.skin)).setCell ⟨w.heap.size+1+1+1,10,J⟩ (I Q aa S)).setCell ⟨w.heap.size+1+1+1,11,J⟩ (I ac ah af))=y:=o;rw[aD]at n ⊢;have aJ:ld 43 W9 (w.heap.size+1+1+1):=fun cs fr h=>by rw[c]at h;cases h
 have d:y.heap[w.heap.size+1+1+1]?=G (C #[.string q.name,I k m l,O Y q.depth,O Y q.density,O Y q.gx,O Y q.gz,O Y q.way,O Y q.ax,O Y q.az,O U q.skin,I Q aa S,I ac ah af] 128 (0,0)):=by
  rw[<-o];exact Mp _ c rfl
 have aB:y.heap[w.heap.size+1+1]?=W9.heap[w.heap.size+1+1]?:=by
  rw[<-o];exact Xm oM _ _ _
 have al:Ia 43 W9 y:=by
  rw[<-o];exact Pj _ _ aJ
 have aC:∀v:M,Ba v W9->v.heap.size<=w.heap.size+1+1+1->Ba v y:=fun v XE hz=>by
  rw[<-o];exact Gn hz _ _ XE
 clear aD o;have s:=aB.trans s;refine Db (i:=6) ?_;refine Wb ?_;have x0:=Ca s (i:=0) (u:=.string p.name) rfl;have x1:=Ca s (i:=1) (u:=I f j g) rfl;have x2:=Ca s (i:=2) (u:=O Y p.depth) rfl;have x3:=Ca s (i:=3) (u:=O Y p.density) rfl;have x4:=Ca s (i:=4) (u:=O Y p.gx) rfl;have x5:=Ca s (i:=5) (u:=O Y p.gz) rfl;have x6:=Ca s (i:=6) (u:=O Y p.way) rfl;have x7:=Ca s (i:=7) (u:=O Y p.ax) rfl;have x8:=Ca s (i:=8) (u:=O Y p.az) rfl;have x9:=Ca s (i:=9) (u:=O U p.skin) rfl;have ay:=Ca s (i:=10) (u:=I z T R) rfl;have aA:=Ca s (i:=11) (u:=I ab ag ae) rfl;have y0:=Ca d (i:=0) (u:=.string q.name) rfl;have y1:=Ca d (i:=1) (u:=I k m l) rfl;have y2:=Ca d (i:=2) (u:=O Y q.depth) rfl;have y3:=Ca d (i:=3) (u:=O Y q.density) rfl;have y4:=Ca d (i:=4) (u:=O Y q.gx) rfl;have y5:=Ca d (i:=5) (u:=O Y q.gz) rfl;have y6:=Ca d (i:=6) (u:=O Y q.way) rfl;have y7:=Ca d (i:=7) (u:=O Y q.ax) rfl;have y8:=Ca d (i:=8) (u:=O Y q.az) rfl;have y9:=Ca d (i:=9) (u:=O U q.skin) rfl;have ai:=Ca d (i:=10) (u:=I Q aa S) rfl;have aj:=Ca d (i:=11) (u:=I ac ah af) rfl;have xf:=Ua s;have yf:=Ua d;have XE:=aC w (E9 w (X6.trans X8) oM) oM;have hK:=aE.trans al;have P:=Aa (And.intro XE hK);clear E9 aC aE al XE hK D9 aB;go_wp2;refine bR (v:=.tuple #[L #[.string p.name,I f j g,O Y p.depth,O Y p.density,O Y p.gx,O Y p.gz,O Y p.way,O Y p.ax,O Y p.az,O U p.skin,I z T R,I ab ag ae],L #[.string q.name,I k m l,O Y q.depth,O Y q.density,O Y q.gx,O Y q.gz,O Y q.way,O Y q.ax,O Y q.az,O U q.skin,I Q aa S,I ac ah af],A true]) (by simp[results,Tryz.results103,go_sem,x0,x1,x2,x3,x4,x5,x6,x7,x8,x9,ay,aA,xf,y0,y1,y2,y3,y4,y5,y6,y7,y8,y9,ai,aj,yf]) rfl ?_;have XW:=X6.trans X8;exact⟨_,_,rfl,⟨_,_,_,rfl,(H1.o.f XW).z P.o.2,(aG.f ak).z P.o.2,(aH.f ak).z P.o.2⟩,⟨_,_,_,rfl,(H2.o.f XW).z P.o.2,am.z P.o.2,an.z P.o.2⟩,P.o.1⟩
end
section
open Go.RowKit Go.Shelf Go.Sort Go.Lib
end
section
open Go.RowKit Go.Shelf Go.Sort
def DA(W:M){k:Nat}(d:k=W.heap.size)(ps:LP)(e:ps.length<=1000):Ja (W.alloc (C (ps.map pc).flatten.toArray 43)) (I (G ⟨k,0,J⟩) ps.length ps.length) ps:=by
 subst d;exact⟨ps.map pc,by simp,Bq,⟨by rw[Jl Bq];simp,G ⟨W.heap.size,0,J⟩,ps.length,rfl,nE _,by unfold maxLen;omega,.inr ⟨W.heap.size,0,_,(0,0),rfl,aN _ _,fun i x a=>by simpa using a⟩⟩,
  fun i c x b a=>by rw[lP,a]at b;cases b;rfl⟩
def LM(W:M){k base:Nat}(l:k=W.heap.size)(j:base<=W.heap.size)(qs:List (Pl×F))(m:∀q∈qs,Ja W q.2 q.1.shape/\0<=q.1.skin)(n:qs.length<=1000):Lk (W.alloc (C (qs.map fun q=>(Dd q.1 q.2).toList).flatten.toArray 47)) base (I (G ⟨k,0,J⟩) qs.length qs.length) (qs.map Prod.fst):=by
 subst l;have b:∀c∈(qs.map fun q=>(Dd q.1 q.2).toList),c.length=10:=fun c f=>by
  obtain⟨q,_,rfl⟩:=List.mem_map.1 f;rfl
 have a:=Jl b;rw[lL]at a;refine⟨qs.map fun q=>(Dd q.1 q.2).toList,⟨b,by rw[a,lL],.inr ⟨W.heap.size,qs.length,_,by rw[lL],j,aN _ _,by rw[lL];exact nE _,by unfold maxLen;omega,by rw[List.size_toArray,a],by rw[lL,<-a];exact List.take_length⟩⟩,by simp,?_⟩;intro i c x f g;rw[lP,Option.map_eq_some_iff]at f g;obtain⟨q,d,rfl⟩:=f;obtain⟨o,e,rfl⟩:=g;rw[d]at e;cases e;have:=m q (lM d);exact⟨q.2,rfl,this.1.f ((eR W).alloc _),this.2⟩
def Nf:LP:=[(0,0),(200,0),(200,80),(0,80)]
def GO(w:M):Calls Tryz.prog 123 #[] w fun e a=>∃v,e=.returned (L #[.string ⟨#[98,114,105,99,107]⟩,v,O Y 100,O Y 2400,O Y 1,O Y 0])/\Ja a v Nf/\Ba w a:=by go_in;go_wp2;refine bR (v:=L #[.string ⟨#[98,114,105,99,107]⟩,I (G ⟨w.heap.size+1,0,J⟩) 4 4,O Y 100,O Y 2400,O Y 1,O Y 0]) (by simp[results,Tryz.results123,go_sem]) rfl ⟨_,rfl,?_,eA⟩;exact DA _ sM Nf dM
def Lb(a:ByteArray)(x z:Int):Pl:=⟨a,Nf,100,2400,1,0,0,x,z,1⟩
def yk:LP:=[(-1000,0),(1000,0)]
def Rh{W:M}{b:Nat}{cs:Array F}{T:TypeId}{a:Nat×Nat}(h:W.heap[b]?=G (C cs T a))(i:Nat)(u:F):(W.setCell ⟨b,i,J⟩ u).heap[b]?=G (C (cs.setIfInBounds i u) T a):=by simp[World.setCell,Array.getElem?_modify,h]
end
section
open Go.RowKit Go.Shelf
attribute [local go_sem] Oper.semAt_some
def Vg(e:Gj):Int×Int:=
 ((e.2.1-e.1.1).tdiv (Nat.gcd (e.2.1-e.1.1).natAbs (e.2.2-e.1.2).natAbs:Nat),(e.2.2-e.1.2).tdiv (Nat.gcd (e.2.1-e.1.1).natAbs (e.2.2-e.1.2).natAbs:Nat))
def od(l:Int)(x a:Rat)(e:Gj):Bool:=
 decide (Eb x ((e.1.1:Int):Rat)<0) || (decide (Eb x ((e.1.1:Int):Rat)=0)&&(decide (l<e.1.1)&&decide (0<=Eb x a)))
def Qa(ps:LP)(x a:Rat):Int×Int:=((Qe ps).takeWhile fun e=>!od (Ra ps) x a e).foldl (fun _ e=>Vg e) (0,0)
def Rs(e:Gj):Prop:=(Bd 104000 e.1.1/\Bd 104000 e.1.2/\Bd 104000 e.2.1/\Bd 104000 e.2.2)/\e.1.1<=e.2.1/\e.1≠e.2
abbrev BF:={ e:Gj // Rs e }
def ph(ps:LP):Prop:=∀e∈Qe ps,e.1.1<=e.2.1/\e.1≠e.2
def FQ(s:Nat)(e:BF)(a:Act)(W:M):Prop:=
 ∃B,s+1+1+1+1+1+1<=B/\W.heap[B]?=G (C #[O Y e.1.1.1,O Y e.1.1.2] 43 (0,0))/\W.heap[B+1]?=G (C #[O Y e.1.2.1,O Y e.1.2.2] 43 (0,0))/\
  a.tmps.size=73/\a.tmps.getD 3 undef=Oa (G ⟨s,0,J⟩)/\a.tmps.getD 4 undef=Oa (G ⟨s+1,0,J⟩)/\a.tmps.getD 5 undef=Oa (G ⟨s+1+1,0,J⟩)/\a.tmps.getD 7 undef=Oa (G ⟨s+1+1+1+1,0,J⟩)/\
  a.tmps.getD 8 undef=Oa (G ⟨B,0,J⟩)/\a.tmps.getD 9 undef=Oa (G ⟨B+1,0,J⟩)/\a.defers=[]
def El(w:M)(v:F)(x a:Rat)(o:Int×Int)(W:M):Prop:=
 Ba w W/\w.heap.size+1+1+1+1+1+1<=W.heap.size/\W.heap[w.heap.size]?=G (C #[v] 121 (0,0))/\RB W (w.heap.size+1) x/\RB W (w.heap.size+1+1) a/\
  W.heap[w.heap.size+1+1+1]?=G (C #[O Y 0,O Y 0] 43 (0,0))/\W.heap[w.heap.size+1+1+1+1]?=G (C #[O Y o.1,O Y o.2] 43 (0,0))
def mF(w:M)(v:F)(l:Int)(x a:Rat)(pre:List BF)(W:M):Prop:=
 El w v x a (pre.foldl (fun _ e=>Vg e.1) (0,0)) W/\∀e∈pre,od l x a e.1=false
def EQ(w:M)(v:F)(l:Int)(x a:Rat)(c:Code)(pre:List BF)(W:M):Prop:=
 c = .exit 0/\∃(p:List BF)(e:BF),pre=p++[e]/\El w v x a (p.foldl (fun _ e=>Vg e.1) (0,0)) W/\(∀e∈p,od l x a e.1=false)/\od l x a e.1=true
def El.ext{w:M}{v:F}{x a:Rat}{o:Int×Int}{W W':M}(h:El w v x a o W)(k:Ba W W'):El w v x a o W':=
 ⟨h.1.trans k,nT h.2.1 k.size,k.e h.2.2.1,h.2.2.2.1.ext k,h.2.2.2.2.1.ext k,k.e h.2.2.2.2.2.1,k.e h.2.2.2.2.2.2⟩
def El.sim{w:M}{v:F}{x a:Rat}{o:Int×Int}{W W':M}{B:Nat}(h:El w v x a o W)(k:Dj B W W')(b:w.heap.size<=B):El w v x a o W':=
 ⟨k.ext h.1 b,nT h.2.1 k.size,k.heap h.2.2.1,h.2.2.2.1.sim k,h.2.2.2.2.1.sim k,k.heap h.2.2.2.2.2.1,k.heap h.2.2.2.2.2.2⟩
def El.put{w:M}{v:F}{x d:Rat}{o:Int×Int}{W:M}(h:El w v x d o W)(a:Int×Int):El w v x d a ((W.setCell ⟨w.heap.size+1+1+1+1,0,J⟩ (O Y a.1)).setCell ⟨w.heap.size+1+1+1+1,1,J⟩ (O Y a.2)):=by
 obtain⟨f,g,i,j,k,h6,c⟩:=h;have b:ld 2 W (w.heap.size+1+1+1+1):=by intro l m e;rw[c]at e;cases e
 refine⟨(f.set dO _).set dO _,by simp only[Bg];exact g,?_,(j.other dO b _).other dO (b.set _ _) _,(k.other dO b _).other dO (b.set _ _) _,?_,?_⟩
 ·rw[bS _ _ _ _ dO,bS _ _ _ _ dO];exact i
 ·rw[bS _ _ _ _ dO,bS _ _ _ _ dO];exact h6
 ·have:=Pk (Pk c 0 (O Y a.1)) 1 (O Y a.2);exact this
def kK{ps:LP}{x d:Rat}{f:List BF}(c:f.map (fun e=>e.1)=Qe ps){p:List BF}{e:BF}(l:p++[e] <+: f)(k:∀e∈p,od (Ra ps) x d e.1=false)(j:od (Ra ps) x d e.1=true):Qa ps x d=p.foldl (fun _ e=>Vg e.1) (0,0):=by
 obtain⟨t,rfl⟩:=l;unfold Qa;rw[<-c,List.append_assoc,List.map_append,List.takeWhile_append_of_pos (by
  intro a g;obtain⟨b,i,rfl⟩:=List.mem_map.1 g;simp[k b i])]
 rw[show ([e]++t).map (fun e:BF=>e.1)=e.1::t.map (fun e=>e.1)from rfl,List.takeWhile_cons_of_neg (by simp[j]),List.append_nil,List.foldl_map]
def iL{ps:LP}{x f:Rat}{c:List BF}(d:c.map (fun e=>e.1)=Qe ps)(j:∀e∈c,od (Ra ps) x f e.1=false):Qa ps x f=c.foldl (fun _ e=>Vg e.1) (0,0):=by
 unfold Qa;have h:=List.takeWhile_append_of_pos (p:=fun e=>!od (Ra ps) x f e) (l₁:=c.map fun e=>e.1) (l₂:=[]) (by
  intro a g;obtain⟨b,i,rfl⟩:=List.mem_map.1 g;simp[j b i])
 rw[List.append_nil,List.takeWhile_nil,List.append_nil]at h;rw[<-d,h,List.foldl_map]
def Ek(w:M)(p:Int×Int)(e:Ending)(w':M):Prop:=e=.returned (L #[O Y p.1,O Y p.2])/\Ba w w'
def Jt(w:M)(v vx vr:F)(ps:LP)(x rt:Rat)(h:Ja w v ps)(aK:mc ps)(bu:ph ps)(hx:Ab w vx x)(hb:Rb 1000 x)(hr:Ab w vr rt)(bj:Rb 1000 rt):Calls Tryz.prog 77 #[v,vx,vr] w (Ek w (Qa ps x rt)):=by
 have HL:=Aa (fun W (hW:Ba w W)=>Po W v ps (h.f hW) (List.length_pos_iff.2 aK.1));obtain⟨a,c,rfl⟩:=h.form;obtain⟨xa,xm,xc,xs,bW,bY,bX,rfl⟩:=hx.form;obtain⟨ya,ym,yc,ys,bZ,b1,b0,rfl⟩:=hr.form;have Hb:=Aa hb;have bJ:=Aa bj;have b4:=Aa aK;obtain⟨n,hn⟩:=gX ps.length;rw[hn]at h HL ⊢;have Hn:=Aa hn;obtain⟨es,bk⟩:∃es:List BF,es.map (fun e=>e.1)=Qe ps:=⟨(Qe ps).attachWith Rs (fun e Q=>⟨jt aK.2.1 Q,bu e Q⟩),Iu _⟩;have bf:=Aa bk;clear hb bj aK hn bu;refine(callsIn_wide (n:=5)).1 ?_;refine callsIn_of_wp_marks Tryz.func77 rfl trivial ?_ rfl;simp only[Tryz.ntmps77,List.size_toArray,List.length_cons,List.length_nil,Nat.reduceAdd,Nat.reduceSub,Array.replicate_succ,Array.replicate_zero,List.push_toArray,List.append_toArray,List.nil_append,List.cons_append]
 gi_wp2_with(refine⟨trivial,?_⟩;gi_at_call 148;refine(callsIn_wide.2 (yD _ _ _ _)).mono ?_;rintro e w' ⟨rfl,rfl⟩)
 obtain⟨W0,R⟩:=gX (((((((w.alloc (C #[I a n c] 121)).alloc (C #[I xa xm xc,A xs,I bW bY bX] 63)).alloc (C #[I ya ym yc,A ys,I bZ b1 b0] 63)).alloc (C #[O Y 0,O Y 0] 43)).alloc (C #[O Y 0,O Y 0] 43)).alloc (C #[I a n c] 121)));have bv:Ba w W0:=by rw[<-R];exact((((((eR w).alloc _).alloc _).alloc _).alloc _).alloc _).alloc _
 have cb:W0.heap.size=w.heap.size+1+1+1+1+1+1:=by rw[<-R];simp
 have bQ:W0.cell? ⟨w.heap.size+1+1+1+1+1,0,J⟩=G (I a n c):=by rw[<-R,World.cell?_alloc_at _ _ _ _ sM];rfl
 have bO:mF w (I a n c) (Ra ps) x rt [] W0:=by
  refine⟨⟨bv,by omega,?_,?_,?_,?_,?_⟩,fun e Q=>by cases Q⟩
  ·rw[<-R];exact(((((eR _).alloc _).alloc _).alloc _).alloc _).alloc _ |>.e (aN w _)
  ·rw[<-R];exact(RB.new (hx.ext ((eR w).alloc _)) sM).ext (((((eR _).alloc _).alloc _).alloc _).alloc _)
  ·rw[<-R];exact(RB.new (hr.ext (((eR w).alloc _).alloc _)) sM).ext ((((eR _).alloc _).alloc _).alloc _)
  ·rw[<-R];exact((eR _).alloc _).alloc _ |>.e (Ec _ _ _ sM)
  ·rw[<-R];exact(eR _).alloc _ |>.e (Ec _ _ _ sM)
 rw[R];clear R;refine wpIn_rangeFunc_ownH rfl dM (gf:=196) (lb:=#[Oa (G ⟨w.heap.size+1+1+1+1+1,0,J⟩)]) rfl trivial (enters_of Tryz.func196 kM rfl)
  (DE (fun e:BF=>e.1) _ dM (w.heap.size+1+1+1+1+1) w _ _ ps es bk bQ oM h bv) Se.trans (Se.put oM oM) (Below.refl _ _) (fun _=>rfl)
  (mF w (I a n c) (Ra ps) x rt) (EQ w (I a n c) (Ra ps) x rt) (Gm (fun s W h=>by have:=h.1.2.1;omega) (fun s W W' h k=>⟨h.1.sim k oM,h.2⟩)) (fun c=>Gm (fun s W h=>by obtain⟨_,_,_,_,h,_⟩:=h;have:=h.2.1;omega) (fun s W W' h k=>by obtain⟨h0,p,e,h1,h2,h3,h4⟩:=h;exact⟨h0,p,e,h1,h2.sim k oM,h3,h4⟩)) bO
  (fun e a' W=>FQ w.heap.size e a' W) (fun e a'=>Gm (fun s W h=>by obtain⟨B,h1,h2,h3,_⟩:=h;have:=Gb h2;omega) (fun s W W' h k=>by obtain⟨B,h1,h2,h3,h4⟩:=h;exact⟨B,h1,k.heap h2,k.heap h3,h4⟩)) ?assign ?body ?done ?stop
 case assign =>
  rintro l pre e W K hI hK;unfold im
  gi_wp2
  have hE:Ba W ((W.alloc (C #[O Y e.1.1.1,O Y e.1.1.2] 43)).alloc (C #[O Y e.1.2.1,O Y e.1.2.2] 43)):=((eR W).alloc _).alloc _;refine hK _ _ (((KeepsOthers.alloc _ _).trans (KeepsOthers.alloc _ _)).from _) ((Se.refl _ _ W).ext hE hI.1.1.size (by have:=hI.1.2.1;omega)) ⟨hI.1.ext hE,hI.2⟩ ⟨W.heap.size,hI.1.2.1,zM W _ _,yM W _ _,rfl,rfl,rfl,rfl,rfl,rfl,rfl,rfl⟩
 case body =>
  rintro l pre e a' W hl ⟨r,ca⟩ hI hA b6;obtain⟨tt,dd⟩:=a';obtain⟨B,hB,q1,q2,g0,g3,g4,g5,g7,g8,g9,gd⟩:=hA;dsimp only at g0 g3 g4 g5 g7 g8 g9 gd;subst gd;obtain⟨u,hu,ht⟩:=Hh tt 73 g0;simp only[hu]at g3 g4 g5 g7 g8 g9;clear hu;subst ht;simp only[List.range,List.range.loop,List.map_cons,List.map_nil,g3,g4,g5,g7,g8,g9];clear g0 g3 g4 g5 g7 g8 g9;obtain⟨⟨⟨t,az⟩,bx,bz⟩,⟨aM,bo,bq⟩⟩:=e;dsimp only at q1 q2 aM bo bq ⊢;obtain⟨⟨h1,h2,h3,h4,h5,h6,h7⟩,aa⟩:=hI;have bi:El w (I a n c) x rt (pre.foldl (fun _ e=>Vg e.1) (0,0)) W:=⟨h1,h2,h3,h4,h5,h6,h7⟩;have ag:=Aa bi;have ah:=Aa aa;obtain⟨ap,ar,aq,au,ab,ad,ac,r0,r1,r2,_,_,_,zr,bB⟩:=h4.rd;obtain⟨ta,tm,tc,ts,a9,bb,ba,t0,t1,t2,_,_,_,zt,bA⟩:=h5.rd;have l0:=Ca h3 (i:=0) (u:=I a n c) rfl;have e0:=Ca q1 (i:=0) (u:=O Y t) rfl;have z1:=Gb q1;have z2:=Gb q2;have an:=Aa q1;have ao:=Aa q2;obtain⟨aH,bL,bM,bN⟩:=aM;have bg:=Rg (k:=104000) (n:=t) aH;have av:=Aa bg;have aU:=Aa (fun W=>nl W t (by unfold Bd at aH;omega) (by unfold Bd at aH;omega));have aE:=Aa bB;have bK:=Aa bA;have be:=Aa (fun W' (hW:Ba W W')=>HL.o W' (h1.trans hW));obtain⟨T1,a0⟩:=gX (Eb x ((t:Int):Rat));have aT:=Aa a0;obtain⟨T2,a1⟩:=gX (Eb x rt);have bI:=Aa a1;obtain⟨lf,aJ⟩:=gX (Ra ps);rw[aJ]at be;have b2:=Aa aJ;have bt:od (Ra ps) x rt ((t,az),bx,bz)=(decide (T1<0) || (decide (T1=0)&&(decide (lf<t)&&decide (0<=T2)))):=by unfold od;dsimp only;rw[a0,a1,aJ]
  have aA:=Aa bt;have bT:0<=bx-t/\bx-t<=208000:=by unfold Bd at aH bM;omega
  have bU:-208000<=bz-az/\bz-az<=208000:=by unfold Bd at bL bN;omega
  obtain⟨j,aP⟩:=gX (bx-t);obtain⟨f,aQ⟩:=gX (bz-az);rw[aP]at bT;rw[aQ]at bU;obtain⟨d,aI⟩:∃g:Nat,Nat.gcd j.natAbs f.natAbs=g:=⟨_,rfl⟩;have b5:0<d:=by
   rw[<-aI];rcases Nat.eq_zero_or_pos (Nat.gcd j.natAbs f.natAbs)with h|h
   ·exfalso;obtain⟨q1,q2⟩:=Nat.gcd_eq_zero_iff.1 h;apply bq;have:=Int.natAbs_eq_zero.1 q1;have:=Int.natAbs_eq_zero.1 q2;exact Prod.ext dO dO
   ·exact h
  have aw:=Aa (fun W'=>show Calls Tryz.prog 149 #[O Y j,O Y (max f (-f))] W' (fun e w'=>e=.returned (O Y (d:Nat))/\Ba W' w') by
   have h:=iP W' j.natAbs f.natAbs oM oM;rw[aI,show ((j.natAbs:Nat):Int)=j by omega,show ((f.natAbs:Nat):Int)=max f (-f) by omega]at h;exact h)
  have aO:Vg ((t,az),bx,bz)=(j.tdiv d,f.tdiv d):=by unfold Vg;dsimp only;rw[aP,aQ,aI]
  have ay:=Aa aO;have b8:(j.tdiv (d:Int)).natAbs<=208000:=by rw[Int.natAbs_tdiv];exact nT (Nat.div_le_self _ _) oM
  have b9:(f.tdiv (d:Int)).natAbs<=208000:=by rw[Int.natAbs_tdiv];exact nT (Nat.div_le_self _ _) oM
  clear aO aI;have bh:Da [(⟨w.heap.size+1,0,J⟩,I ap ar aq),(⟨w.heap.size+1,1,J⟩,A au),(⟨w.heap.size+1,2,J⟩,I ab ad ac),(⟨w.heap.size+1+1,0,J⟩,I ta tm tc),(⟨w.heap.size+1+1,1,J⟩,A ts),(⟨w.heap.size+1+1,2,J⟩,I a9 bb ba),(⟨w.heap.size,0,J⟩,I a n c),(⟨B,0,J⟩,O Y t)] W.drew:=
   ⟨r0,r1,r2,t0,t1,t2,l0,e0,trivial⟩
  have bH:=Aa bh;clear bi aa h3 h4 h5 h6 h7 r0 r1 r2 t0 t1 t2 l0 e0 bB bA a0 a1 aJ bt bh bg q1 q2
  gi_wp2
  refine Zp (S:=Da [(⟨w.heap.size+1,0,J⟩,I ap ar aq),(⟨w.heap.size+1,1,J⟩,A au),(⟨w.heap.size+1,2,J⟩,I ab ad ac),(⟨w.heap.size+1+1,0,J⟩,I ta tm tc),(⟨w.heap.size+1+1,1,J⟩,A ts),(⟨w.heap.size+1+1,2,J⟩,I a9 bb ba),(⟨w.heap.size,0,J⟩,I a n c),(⟨B,0,J⟩,O Y t)]) kM kM bH.o (fun b=>?_);refine sN 0 ?_
  iterate 3 refine xb ?_
  refine oN ?_;refine Ub (i:=3) (aU.o _) ?_;rintro e w3 ⟨v3,rfl,bs,a4⟩;obtain⟨a3,m3,c3,s3,b3,n3,k3,rfl⟩:=bs.form;refine⟨_,rfl,(cE b a4),fun b=>?_⟩;have ae:=Aa (Qj w3 (L #[I ap ar aq,A au,I ab ad ac]) (L #[I a3 m3 c3,A s3,I b3 n3 k3]) x ((t:Int):Rat) (aE.o.ext ((eR W).drew.trans a4)) bs (Hb.o.mono dM) (av.o.mono dM));rw[aT.o]at ae;refine Ub (i:=4) ae.o ?_;rintro e w4 ⟨rfl,bw⟩;refine⟨_,rfl,(cE b bw),fun b=>?_⟩;have X4:Ba W w4:=((eR W).drew.trans a4).trans bw;clear ae;by_cases hn:T1<0
  ·have z:od (Ra ps) x rt ((t,az),bx,bz)=true:=by rw[aA.o,decide_eq_true hn];rfl
   refine sN 5 ?_
   iterate 2 refine xb ?_
   iterate 19 refine Ee ?_
   refine xb ?_;refine oN ?_;refine Wb ?_;unfold NQ
   gi_wp2
   exact⟨Uo X4,rfl,pre,_,rfl,ag.o.ext X4,ah.o,z⟩
  by_cases hp:0<T1
  ·have b7:(T1==0)=false:=by simp;omega
   have z:od (Ra ps) x rt ((t,az),bx,bz)=false:=by rw[aA.o,decide_eq_false hn,show decide (T1=0)=false by simp;omega];rfl
   refine sN 5 ?_
   iterate 5 refine xb ?_
   refine oN ?_;refine Ub (i:=10) (aU.o _) ?_;rintro e bc ⟨bV,rfl,aj,P⟩;obtain⟨aW,a6,aY,a8,aX,a7,a5,rfl⟩:=aj.form;refine⟨_,rfl,(cE b P),fun b=>?_⟩;have ae:=Aa (Qj bc (L #[I ap ar aq,A au,I ab ad ac]) (L #[I aW a6 aY,A a8,I aX a7 a5]) x ((t:Int):Rat) (aE.o.ext (X4.trans P)) aj (Hb.o.mono dM) (av.o.mono dM));rw[aT.o]at ae;refine Ub (i:=11) ae.o ?_;rintro e T ⟨rfl,ak⟩;refine⟨_,rfl,(cE b ak),fun b=>?_⟩;have aF:Ba W T:=(X4.trans P).trans ak;refine sN 12 ?_
   iterate 2 refine xb ?_
   iterate 5 refine Ee ?_
   iterate 2 refine xb ?_
   iterate 4 refine Ee ?_
   iterate 2 refine xb ?_
   refine oN ?_;refine Wb ?_;unfold NQ;have hX:Ba W T:=aF;have bD:=Ca (hX.e an.o) (i:=0) (u:=O Y t) rfl;have bE:=Ca (hX.e an.o) (i:=1) (u:=O Y az) rfl;have bF:=Ca (hX.e ao.o) (i:=0) (u:=O Y bx) rfl;have bG:=Ca (hX.e ao.o) (i:=1) (u:=O Y bz) rfl
   gi_wp2
   refine⟨trivial,CallsIn.mono (CallsIn.inRound l (callsIn_wide.2 (aw.o _))) ?_⟩;rintro e w5 ⟨rfl,al⟩;dsimp only;have ai:=al.e (aN T (C #[O Y j,O Y f] 43));have d0:=Ca ai (i:=0) (u:=O Y j) rfl;have d1:=Ca ai (i:=1) (u:=O Y f) rfl;have X5:Ba W w5:=(hX.alloc _).trans al;have bl:¬((d:Nat):Int)=0:=oM;have bn:¬d=0:=oM;have bm:(((d:Nat):Int)==0)=false:=by simp;omega
   have u1:IntKind.i64.wrap (j.tdiv d)=j.tdiv d:=iW _ ⟨by omega,by omega⟩;have u2:IntKind.i64.wrap (f.tdiv d)=f.tdiv d:=iW _ ⟨by omega,by omega⟩;have y:=(ag.o.ext X5).2.2.2.2.2.2;have o0:=Ca y (i:=0) rfl;have o1:=Ca y (i:=1) rfl;have of:=Ua y;have bC:w.heap.size+1+1+1+1<T.heap.size:=by have:=hX.size;omega
   have m:=Aa (show ∀q∈[((⟨T.heap.size,0,J⟩:Addr),Value.int Y j),(⟨T.heap.size,1,J⟩,O Y f)],w.heap.size+1+1+1+1≠q.1.block from fun q hq h=>by
    simp at hq;rcases hq with rfl|rfl<;>(dsimp only at h;omega))
   gi_wp2
   refine Zp (S:=Da [(⟨T.heap.size,0,J⟩,O Y j),(⟨T.heap.size,1,J⟩,O Y f)]) kM kM ⟨d0,d1,trivial⟩ (fun b=>?_);refine sN 0 ?_
   iterate 9 refine xb ?_
   refine oN ?_;refine Ld (i:=9) fun K hK=>?_;go_simp;refine kO hK (Da.set (p:=⟨w.heap.size+1+1+1+1,1,J⟩) (Da.set (p:=⟨w.heap.size+1+1+1+1,0,J⟩) b m.o _) m.o _) (fun b=>?_);clear hK K;refine Wb ?_;unfold NQ;have aB:=(ag.o.ext X5.drew).put (j.tdiv d,f.tdiv d);have aC:KeepsFrom W0.heap.size W ((w5.drew.setCell ⟨w.heap.size+1+1+1+1,0,J⟩ (O Y (j.tdiv d))).setCell ⟨w.heap.size+1+1+1+1,1,J⟩ (O Y (f.tdiv d))):=((Uo X5.drew).trans ((KeepsOthers.setCell _ _ _).from _)).trans ((KeepsOthers.setCell _ _ _).from _);have aD:Se w (w.heap.size+1+1+1+1+1) W ((w5.drew.setCell ⟨w.heap.size+1+1+1+1,0,J⟩ (O Y (j.tdiv d))).setCell ⟨w.heap.size+1+1+1+1,1,J⟩ (O Y (f.tdiv d))):=
    (((Se.refl w _ W).ext X5.drew h1.size oM).set dO dO _).set dO dO _
   gi_wp2
   refine⟨aC,aD,?_,fun e Q=>?_⟩
   ·rw[List.foldl_append,List.foldl_cons,List.foldl_nil];dsimp only;rw[ay.o];exact aB
   ·rcases List.mem_append.1 Q with Q|Q
    ·exact ah.o e Q
    ·rw[List.mem_singleton.1 Q];exact z
  ·have bP:T1=0:=oM;subst bP;clear hn hp;refine sN 5 ?_
   iterate 5 refine xb ?_
   refine oN ?_;refine Ub (i:=10) (aU.o _) ?_;rintro e bc ⟨bV,rfl,aj,P⟩;obtain⟨aW,a6,aY,a8,aX,a7,a5,rfl⟩:=aj.form;refine⟨_,rfl,(cE b P),fun b=>?_⟩;have ae:=Aa (Qj bc (L #[I ap ar aq,A au,I ab ad ac]) (L #[I aW a6 aY,A a8,I aX a7 a5]) x ((t:Int):Rat) (aE.o.ext (X4.trans P)) aj (Hb.o.mono dM) (av.o.mono dM));rw[aT.o]at ae;refine Ub (i:=11) ae.o ?_;rintro e T ⟨rfl,ak⟩;refine⟨_,rfl,(cE b ak),fun b=>?_⟩;have aF:Ba W T:=(X4.trans P).trans ak;refine sN 12 ?_
   iterate 5 refine xb ?_
   refine oN ?_;refine Ub (i:=17) (be.o _ aF) ?_;rintro e af ⟨rfl,aR⟩;refine⟨_,rfl,(cE b aR),fun b=>?_⟩;have aG:Ba W af:=aF.trans aR;by_cases bp:lf<t;rotate_left 1
   ·(have z:od (Ra ps) x rt ((t,az),bx,bz)=false:=by rw[aA.o,decide_eq_false bp];simp);refine sN 18 ?_
    iterate 3 refine xb ?_
    iterate 4 refine Ee ?_
    (iterate 2 refine xb ?_);refine oN ?_;refine Wb ?_;unfold NQ;have hX:Ba W af:=aG;have bD:=Ca (hX.e an.o) (i:=0) (u:=O Y t) rfl;have bE:=Ca (hX.e an.o) (i:=1) (u:=O Y az) rfl;have bF:=Ca (hX.e ao.o) (i:=0) (u:=O Y bx) rfl;have bG:=Ca (hX.e ao.o) (i:=1) (u:=O Y bz) rfl
    gi_wp2
    refine⟨trivial,CallsIn.mono (CallsIn.inRound l (callsIn_wide.2 (aw.o _))) ?_⟩;rintro e w5 ⟨rfl,al⟩;dsimp only;have ai:=al.e (aN af (C #[O Y j,O Y f] 43));have d0:=Ca ai (i:=0) (u:=O Y j) rfl;have d1:=Ca ai (i:=1) (u:=O Y f) rfl;have X5:Ba W w5:=(hX.alloc _).trans al;have bl:¬((d:Nat):Int)=0:=oM;have bn:¬d=0:=oM;(have bm:(((d:Nat):Int)==0)=false:=by simp;omega);have u1:IntKind.i64.wrap (j.tdiv d)=j.tdiv d:=iW _ ⟨by omega,by omega⟩;have u2:IntKind.i64.wrap (f.tdiv d)=f.tdiv d:=iW _ ⟨by omega,by omega⟩;have y:=(ag.o.ext X5).2.2.2.2.2.2;have o0:=Ca y (i:=0) rfl;have o1:=Ca y (i:=1) rfl;have of:=Ua y;(have bC:w.heap.size+1+1+1+1<af.heap.size:=by have:=hX.size;omega);have m:=Aa (show ∀q∈[((⟨af.heap.size,0,J⟩:Addr),Value.int Y j),(⟨af.heap.size,1,J⟩,O Y f)],w.heap.size+1+1+1+1≠q.1.block from fun q hq h=>by
     simp at hq;rcases hq with rfl|rfl<;>(dsimp only at h;omega))
    gi_wp2
    refine Zp (S:=Da [(⟨af.heap.size,0,J⟩,O Y j),(⟨af.heap.size,1,J⟩,O Y f)]) kM kM ⟨d0,d1,trivial⟩ (fun b=>?_);refine sN 0 ?_
    (iterate 9 refine xb ?_);refine oN ?_;refine Ld (i:=9) fun K hK=>?_;go_simp;refine kO hK (Da.set (p:=⟨w.heap.size+1+1+1+1,1,J⟩) (Da.set (p:=⟨w.heap.size+1+1+1+1,0,J⟩) b m.o _) m.o _) (fun b=>?_);clear hK K;refine Wb ?_;unfold NQ;have aB:=(ag.o.ext X5.drew).put (j.tdiv d,f.tdiv d);have aC:KeepsFrom W0.heap.size W ((w5.drew.setCell ⟨w.heap.size+1+1+1+1,0,J⟩ (O Y (j.tdiv d))).setCell ⟨w.heap.size+1+1+1+1,1,J⟩ (O Y (f.tdiv d))):=((Uo X5.drew).trans ((KeepsOthers.setCell _ _ _).from _)).trans ((KeepsOthers.setCell _ _ _).from _);have aD:Se w (w.heap.size+1+1+1+1+1) W ((w5.drew.setCell ⟨w.heap.size+1+1+1+1,0,J⟩ (O Y (j.tdiv d))).setCell ⟨w.heap.size+1+1+1+1,1,J⟩ (O Y (f.tdiv d))):=
     (((Se.refl w _ W).ext X5.drew h1.size oM).set dO dO _).set dO dO _
    gi_wp2
    refine⟨aC,aD,?_,fun e Q=>?_⟩
    ·rw[List.foldl_append,List.foldl_cons,List.foldl_nil];dsimp only;rw[ay.o];exact aB
    ·rcases List.mem_append.1 Q with Q|Q
     ·exact ah.o e Q
     ·rw[List.mem_singleton.1 Q];exact z
   refine sN 18 ?_
   iterate 5 refine xb ?_
   refine oN ?_;have aL:=Aa (Qj af (L #[I ap ar aq,A au,I ab ad ac]) (L #[I ta tm tc,A ts,I a9 bb ba]) x rt (aE.o.ext aG) (bK.o.ext aG) (Hb.o.mono dM) (bJ.o.mono dM));rw[bI.o]at aL;refine Ub (i:=23) aL.o ?_;rintro e am ⟨rfl,aS⟩;refine⟨_,rfl,(cE b aS),fun b=>?_⟩;have aV:Ba W am:=aG.trans aS;by_cases ht:0<=T2
   ·(have z:od (Ra ps) x rt ((t,az),bx,bz)=true:=by rw[aA.o,decide_eq_true bp,decide_eq_true ht];simp);refine sN 24 ?_
    (iterate 3 refine xb ?_);refine oN ?_;refine Wb ?_;unfold NQ
    gi_wp2
    exact⟨Uo aV,rfl,pre,_,rfl,ag.o.ext aV,ah.o,z⟩
   ·(have z:od (Ra ps) x rt ((t,az),bx,bz)=false:=by rw[aA.o,decide_eq_false ht];simp);refine sN 24 ?_
    (iterate 3 refine xb ?_);refine oN ?_;refine Wb ?_;unfold NQ;have hX:Ba W am:=aV;have bD:=Ca (hX.e an.o) (i:=0) (u:=O Y t) rfl;have bE:=Ca (hX.e an.o) (i:=1) (u:=O Y az) rfl;have bF:=Ca (hX.e ao.o) (i:=0) (u:=O Y bx) rfl;have bG:=Ca (hX.e ao.o) (i:=1) (u:=O Y bz) rfl
    gi_wp2
    refine⟨trivial,CallsIn.mono (CallsIn.inRound l (callsIn_wide.2 (aw.o _))) ?_⟩;rintro e w5 ⟨rfl,al⟩;dsimp only;have ai:=al.e (aN am (C #[O Y j,O Y f] 43));have d0:=Ca ai (i:=0) (u:=O Y j) rfl;have d1:=Ca ai (i:=1) (u:=O Y f) rfl;have X5:Ba W w5:=(hX.alloc _).trans al;have bl:¬((d:Nat):Int)=0:=oM;have bn:¬d=0:=oM;(have bm:(((d:Nat):Int)==0)=false:=by simp;omega);have u1:IntKind.i64.wrap (j.tdiv d)=j.tdiv d:=iW _ ⟨by omega,by omega⟩;have u2:IntKind.i64.wrap (f.tdiv d)=f.tdiv d:=iW _ ⟨by omega,by omega⟩;have y:=(ag.o.ext X5).2.2.2.2.2.2;have o0:=Ca y (i:=0) rfl;have o1:=Ca y (i:=1) rfl;have of:=Ua y;(have bC:w.heap.size+1+1+1+1<am.heap.size:=by have:=hX.size;omega);have m:=Aa (show ∀q∈[((⟨am.heap.size,0,J⟩:Addr),Value.int Y j),(⟨am.heap.size,1,J⟩,O Y f)],w.heap.size+1+1+1+1≠q.1.block from fun q hq h=>by
     simp at hq;rcases hq with rfl|rfl<;>(dsimp only at h;omega))
    gi_wp2
    refine Zp (S:=Da [(⟨am.heap.size,0,J⟩,O Y j),(⟨am.heap.size,1,J⟩,O Y f)]) kM kM ⟨d0,d1,trivial⟩ (fun b=>?_);refine sN 0 ?_
    (iterate 9 refine xb ?_);refine oN ?_;refine Ld (i:=9) fun K hK=>?_;go_simp;refine kO hK (Da.set (p:=⟨w.heap.size+1+1+1+1,1,J⟩) (Da.set (p:=⟨w.heap.size+1+1+1+1,0,J⟩) b m.o _) m.o _) (fun b=>?_);clear hK K;refine Wb ?_;unfold NQ;have aB:=(ag.o.ext X5.drew).put (j.tdiv d,f.tdiv d);have aC:KeepsFrom W0.heap.size W ((w5.drew.setCell ⟨w.heap.size+1+1+1+1,0,J⟩ (O Y (j.tdiv d))).setCell ⟨w.heap.size+1+1+1+1,1,J⟩ (O Y (f.tdiv d))):=((Uo X5.drew).trans ((KeepsOthers.setCell _ _ _).from _)).trans ((KeepsOthers.setCell _ _ _).from _);have aD:Se w (w.heap.size+1+1+1+1+1) W ((w5.drew.setCell ⟨w.heap.size+1+1+1+1,0,J⟩ (O Y (j.tdiv d))).setCell ⟨w.heap.size+1+1+1+1,1,J⟩ (O Y (f.tdiv d))):=
     (((Se.refl w _ W).ext X5.drew h1.size oM).set dO dO _).set dO dO _
    gi_wp2
    refine⟨aC,aD,?_,fun e Q=>?_⟩
    ·rw[List.foldl_append,List.foldl_cons,List.foldl_nil];dsimp only;rw[ay.o];exact aB
    ·rcases List.mem_append.1 Q with Q|Q
     ·exact ah.o e Q
     ·rw[List.mem_singleton.1 Q];exact z
 case done =>
  rintro D ys W hD rfl ⟨⟨h1,h2,h3,h4,h5,h6,h7⟩,aa⟩ hK;have hR:=iL bf.o aa;obtain⟨⟨ox,oz⟩,ho⟩:∃o,ys.foldl (fun _ e=>Vg e.1) ((0,0):Int×Int)=o:=⟨_,rfl⟩;rw[ho]at h7 hR;have HR:=Aa hR;have e0:=Ca h7 (i:=0) (u:=O Y ox) rfl;have e1:=Ca h7 (i:=1) (u:=O Y oz) rfl;have f0:=Ca h6 (i:=0) (u:=O Y 0) rfl;have f1:=Ca h6 (i:=1) (u:=O Y 0) rfl;have ff:=Ua h6;clear hR ho
  gi_wp2
  have aZ:=Pk (Pk h6 0 (O Y ox)) 1 (O Y oz);have X:=(h1.set (p:=⟨w.heap.size+1+1+1,0,J⟩) dO (O Y ox)).set (p:=⟨w.heap.size+1+1+1,1,J⟩) dO (O Y oz);refine Ex [D] _ ⟨by simp,fun E hE=>?_⟩ (fun W' a2=>?_)
  ·rw[List.mem_singleton.1 hE,bS _ _ _ _ dO,bS _ _ _ _ dO];exact hK
  ·have hS:=a2 w.heap.size (fun E hE=>by rw[List.mem_singleton.1 hE];omega);have h8:=hS.heap aZ;have c0:=Ca h8 (i:=0) (u:=O Y ox) rfl;have c1:=Ca h8 (i:=1) (u:=O Y oz) rfl;refine⟨L #[O Y ox,O Y oz],by simp[results,Tryz.results77,go_sem,c0,c1],?_⟩;rw[HR.o];exact⟨rfl,hS.ext X (nE _)⟩
 case stop =>
  rintro D c pre W hD br ⟨rfl,p,e,rfl,⟨h1,h2,h3,h4,h5,h6,h7⟩,aa,z⟩ hK;have hR:=kK bf.o br aa z;obtain⟨⟨ox,oz⟩,ho⟩:∃o,p.foldl (fun _ e=>Vg e.1) ((0,0):Int×Int)=o:=⟨_,rfl⟩;rw[ho]at h7 hR;have HR:=Aa hR;have e0:=Ca h7 (i:=0) (u:=O Y ox) rfl;have e1:=Ca h7 (i:=1) (u:=O Y oz) rfl;have f0:=Ca h6 (i:=0) (u:=O Y 0) rfl;have f1:=Ca h6 (i:=1) (u:=O Y 0) rfl;have ff:=Ua h6;clear hR ho
  gi_wp2
  have aZ:=Pk (Pk h6 0 (O Y ox)) 1 (O Y oz);have X:=(h1.set (p:=⟨w.heap.size+1+1+1,0,J⟩) dO (O Y ox)).set (p:=⟨w.heap.size+1+1+1,1,J⟩) dO (O Y oz);refine Ex [D] _ ⟨by simp,fun E hE=>?_⟩ (fun W' a2=>?_)
  ·rw[List.mem_singleton.1 hE,bS _ _ _ _ dO,bS _ _ _ _ dO];exact hK
  ·have hS:=a2 w.heap.size (fun E hE=>by rw[List.mem_singleton.1 hE];omega);have h8:=hS.heap aZ;have c0:=Ca h8 (i:=0) (u:=O Y ox) rfl;have c1:=Ca h8 (i:=1) (u:=O Y oz) rfl;refine⟨L #[O Y ox,O Y oz],by simp[results,Tryz.results77,go_sem,c0,c1],?_⟩;rw[HR.o];exact⟨rfl,hS.ext X (nE _)⟩
end
section
open Go.RowKit Go.Shelf Go.Sort
def yb(w:M)(v:F)(ps:LP):Prop:=∃T,Sl T 2 PP w v ps
def yb.f{w w':M}{v:F}{ps:LP}(h:yb w v ps)(k:Ba w w'):yb w' v ps:=by obtain⟨T,h⟩:=h;exact⟨T,Sl.ext (w:=w) (w':=w') h (fun _ _ h=>h) k⟩
def yb.form{w:M}{v:F}{ps:LP}(h:yb w v ps):∃a c,v=I a ps.length c:=h.elim fun _ h=>Sl.form h
def yb.i{w:M}{v:F}{ps:LP}(h:yb w v ps):∃a n c,v=I a n c:=h.elim fun _ h=>Cop.La h
def yb.len{w:M}{a:Option Addr}{n c:Nat}{ps:LP}(h:yb w (I a n c) ps):n=ps.length:=h.elim fun _ h=>Sl.len h
def yb.le{w:M}{a:Option Addr}{n c:Nat}{ps:LP}(h:yb w (I a n c) ps):ps.length<=c/\c<=maxLen:=h.elim fun _ h=>Sl.le h
def yb.at'{w:M}{a:Option Addr}{n c:Nat}{ps:LP}(h:yb w (I a n c) ps){i:Nat}{p:Int×Int}(k:ps[i]?=G p):∃b o,a=G ⟨b,o,J⟩/\b<w.heap.size/\w.cell? ⟨b,o+i*2,J⟩=G (O Y p.1)/\w.cell? ⟨b,o+i*2+1,J⟩=G (O Y p.2):=by obtain⟨T,h⟩:=h;obtain⟨b,o,d,rfl,j,l,g,f⟩:=Sl.at h k;have e:d=[O Y p.1,O Y p.2]:=g;subst e;exact⟨b,o,rfl,j,f 0 _ rfl,f 1 _ rfl⟩
def jy(w:M)(c:List F)(p:Pl):Prop:=∃v,c=(Dd p v).toList/\yb w v p.shape/\0<=p.skin
def Ff(w:M)(v:F)(ps:List Pl):Prop:=∃T,Sl T 10 jy w v ps
def Ff.f{w w':M}{v:F}{ps:List Pl}(h:Ff w v ps)(k:Ba w w'):Ff w' v ps:=by obtain⟨T,h⟩:=h;exact⟨T,Sl.ext (w:=w) (w':=w') h (fun _ _ ⟨v,a,b,c⟩=>⟨v,a,b.f k,c⟩) k⟩
def Ff.form{w:M}{v:F}{ps:List Pl}(h:Ff w v ps):∃a c,v=I a ps.length c:=h.elim fun _ h=>Sl.form h
def Ff.i{w:M}{v:F}{ps:List Pl}(h:Ff w v ps):∃a n c,v=I a n c:=h.elim fun _ h=>Cop.La h
def Ff.len{w:M}{a:Option Addr}{n c:Nat}{ps:List Pl}(h:Ff w (I a n c) ps):n=ps.length:=h.elim fun _ h=>Sl.len h
def Ff.le{w:M}{a:Option Addr}{n c:Nat}{ps:List Pl}(h:Ff w (I a n c) ps):ps.length<=c/\c<=maxLen:=h.elim fun _ h=>Sl.le h
def Ff.at'{w:M}{a:Option Addr}{n c:Nat}{ps:List Pl}(h:Ff w (I a n c) ps){i:Nat}{p:Pl}(m:ps[i]?=G p):∃b o v,a=G ⟨b,o,J⟩/\b<w.heap.size/\yb w v p.shape/\0<=p.skin/\∀(j:Nat) u,(Dd p v)[j]?=G u->w.cell? ⟨b,o+i*10+j,J⟩=G u:=by obtain⟨T,h⟩:=h;obtain⟨b,o,d,rfl,g,q,⟨v,rfl,e,f⟩,k⟩:=Sl.at h m;exact⟨b,o,v,rfl,g,e,f,fun j u l=>k j u (by rw[Array.getElem?_toList];exact l)⟩
def ui(p:Pl):Bool:=decide (20<p.shape.length) || decide (40<p.name.size)
def EK(w:M)(b:ByteArray)(v:F)(i:LP)(d k l o:Int)(h:yb w v i):Calls Tryz.prog 8 #[L #[.string b,v,O Y d,O Y k,O Y l,O Y o]] w fun e q=>e=.returned (A (decide (20<i.length) || decide (40<b.size)))/\Ba w q:=by
 obtain⟨a,c,rfl⟩:=h.form;obtain⟨n,p⟩:=gX i.length;rw[p];obtain⟨m,j⟩:=gX b.size;by_cases f:20<n
 ·have g:(20:Int)<(n:Int):=oM;have e:(decide (20<n) || decide (40<b.size))=true:=by simp[f]
  rw[e];clear f e j;go_in;go_wp2;go_ret;exact⟨rfl,eA⟩
 ·have g:¬(20:Int)<(n:Int):=oM;have e:(decide (20<n) || decide (40<b.size))=decide (40<m):=by simp[f,j]
  rw[e];clear f e;go_in;go_wp2;go_ret;exact⟨by simp;omega,eA⟩
def Fh(g:LP)(ps:List Pl):Bool:=!ps.any ui&&(decide (ps.length<=8)&&decide (g.length<=50))
def zR(w:M)(a b:F)(ps:List Pl)(g:Nat)(t3:F)(W:M):Prop:=
 ∃i:Nat,i<=ps.length/\t3=O Y (i:Nat)/\g=ps.length-i/\Ba w W/\W.heap[w.heap.size]?=G (C #[a,b] 25 (0,0))/\∀j y,j<i->ps[j]?=G y->ui y=false
def TH(w:M)(vg vp:F)(g:LP)(ps:List Pl)(hg:yb w vg g)(x:Ff w vp ps):Calls Tryz.prog 7 #[L #[vg,vp]] w fun e w'=>e=.returned (A (Fh g ps))/\Ba w w':=by
 obtain⟨ga,gc,rfl⟩:=hg.form;obtain⟨pa,pc,rfl⟩:=x.form;obtain⟨n,hn⟩:=gX ps.length;obtain⟨m,hm⟩:=gX g.length;have t:=x.le;rw[hm];rw[hn]at x t ⊢;unfold maxLen at t;have ai:n<=9223372036854775807:=oM;have a:=Aa hn;have Hm:=Aa hm;have Hp:=Aa x;obtain⟨fb,r⟩:=gX (Fh g ps);rw[r];have z:=Aa r;clear hn t hg x hm r;go_in;go_wp2;go_loopg [3] n (zR w (I ga m gc) (I pa n pc) ps)
 case atStart=>exact⟨0,by omega,rfl,by rw[a.o];rfl,eA,aN w _,fun j y Q=>by omega⟩
 case round =>
  obtain⟨i,hi,rfl,rfl,hx,c,k⟩:=hrel;rw[a.o]at hi;have w0:=Ca c (i:=0) (u:=I ga m gc) rfl;have w1:=Ca c (i:=1) (u:=I pa n pc) rfl;have f:=Aa k;have P:=Aa hx;have S:=Aa c;clear k;by_cases ac:i<n
  ·obtain⟨p,hq⟩:∃q,ps[i]?=G q:=⟨ps[i]'(by rw[a.o];omega),by simp[a.o,ac]⟩;obtain⟨b,o,v,rfl,hb,hv,_,l⟩:=(Hp.o.f hx).at' hq;have R:=Aa (fun W (hW:Ba wr W)=>EK W p.name v p.shape p.depth p.density p.gx p.gz (hv.f hW));obtain⟨lb,s⟩:=gX (ui p);rw[show (decide (20<p.shape.length) || decide (40<p.name.size))=lb from s]at R;have K:=Aa s;obtain⟨va,vn,vc,rfl⟩:=hv.i;have T:=l 0 (.string p.name) rfl;have ad:=l 1 (I va vn vc) rfl;have ae:=l 2 (O Y p.depth) rfl;have af:=l 3 (O Y p.density) rfl;have ag:=l 4 (O Y p.gx) rfl;have ah:=l 5 (O Y p.gz) rfl;simp only[Nat.add_zero]at T;have Hq:=Aa hq;have p1:(0:Int)<=(i:Int):=oM;have p2:(i:Int)<(n:Int):=oM;clear l hq hv s hx c;cases lb with
   |true=>
    have e:fb=false:=by
     rw[<-z.o];unfold Fh;rw[show ps.any ui=true from List.any_eq_true.2 ⟨p,lM Hq.o,K.o⟩];rfl
    subst e;go_wp2_with(go_at_call 8;refine cM (R.o _ (eR _)) ?_;rintro e w1 ⟨rfl,d⟩);go_ret;exact⟨rfl,P.o.trans d⟩
   |false=>
    go_wp2_with(go_at_call 8;refine cM (R.o _ (eR _)) ?_;rintro e w1 ⟨rfl,d⟩);go_roundg (n-(i+1))
    case measure=>have:=a.o;omega
    case rel =>
     refine⟨i+1,by have:=a.o;omega,by go_num,by rw[a.o],P.o.trans d,d.e S.o,fun j y Q hy=>?_⟩;by_cases ab:j=i
     ·subst ab;rw[Hq.o]at hy;cases hy;exact K.o
     ·exact f.o j y oM hy
  ·obtain rfl:n=i:=oM;have e:fb=(decide (n<=8)&&decide (m<=50)):=by
    rw[<-z.o];unfold Fh;rw[show ps.any ui=false from by
     rw[List.any_eq_false];intro p x;obtain⟨j,Q⟩:=List.mem_iff_getElem?.1 x;rw[f.o j p (by have:=(lS.1 Q).1;rw[a.o]at this;exact this) Q];decide,a.o,Hm.o]
    rfl
   subst e;by_cases h8:n<=8
   ·have aa:(n:Int)<=8:=oM;go_wp2;go_ret;exact⟨by simp[h8];try omega,P.o⟩
   ·have aa:¬(n:Int)<=8:=oM;go_wp2;go_ret;exact⟨by simp[h8],P.o⟩
def Yq{g:LP}{ps:List Pl}(h:Fh g ps=true):g.length<=1000/\ps.length<=8/\∀p∈ps,p.shape.length<=1000:=by unfold Fh at h;simp only[Bool.and_eq_true,Bool.not_eq_true',List.any_eq_false,decide_eq_true_eq]at h;obtain⟨a,b,d⟩:=h;refine⟨by omega,b,fun p c=>?_⟩;have:=a p c;unfold ui at this;simp only[Bool.or_eq_true,decide_eq_true_eq,not_or]at this;omega
end
section
open Go.RowKit Go.Shelf
attribute [local go_sem] Oper.semAt_some
def CM(w:M)(v:F)(q:Rat)(h:nc w v q)(t:Rb Fb q):Calls Tryz.prog 98 #[v] w fun e w'=>e=.returned (.string ⟨(mg q).toArray⟩)/\Ba w w':=by
 obtain⟨s,a,m,c,s2,a2,m2,c2,rfl⟩:=h.form;have P:=Aa (fun(W:M)(R:Ba w W)=>xE W (L #[O Y s,I a m c]) q.num (h.top.ext R) t.1);have K:=Aa (fun(W:M)(R:Ba w W)=>ul W _ q (h.ext R));have o:=Aa (fun(W:M)(v:F)(hv:xd W v (q.den:Int))=>xE W v (q.den:Int) hv t.2);have l1:=Xp t.1;have l2:=Xp t.2;obtain⟨T,k⟩:=gX (mg q);rw[k];unfold mg at k;have b:(q.den=1->yd (q.den:Int)=[49])/\(q.den≠1->yd (q.den:Int)≠[49]):=⟨fun e=>by rw[e];exact TK,iK⟩;obtain⟨T1,p⟩:=gX (yd q.num);obtain⟨Q,r⟩:=gX (yd (q.den:Int));rw[p]at P l1 k;rw[r]at o l2 k b;unfold Fb at l1 l2;obtain⟨d,hd⟩:=gX q.den;rw[hd]at K o b k;clear p r hd h t;by_cases n:d=1
 ·obtain rfl:Q=[49]:=b.1 n;rw[if_pos n]at k;subst k;clear n b;go_in;go_wp2_with(first|(go_at_call 81;refine cM (K.o _ eA) ?_;rintro e w1 ⟨r1,rfl,g,j⟩;obtain⟨s1,a1,m1,c1,rfl,-⟩:=g.j;obtain⟨S,ab⟩:=j.cells)|(go_at_call 168;(with_reducible refine(o.o _ _ g).mono ?_);rintro e w2 ⟨rfl,l⟩;obtain⟨aa,ac⟩:=l.cells;(have z1:=j.size);(simp only[wZ]at z1);(have z2:w.heap.size<w1.heap.size:=oM))|(go_at_call 168;(with_reducible refine(P.o _ ?_).mono ?_);exact eA;rintro e w3 ⟨rfl,ae⟩));go_ret;exact⟨rfl,eA⟩
 ·have ad:(Q==[49])=false:=by simpa using b.2 n
  rw[if_neg n]at k;clear n b;go_in;have g1:¬9223372036854775807<T1.length+1:=oM;have g2:¬9223372036854775807<T1.length+1+Q.length:=oM;go_upto_region 3 with (first|(go_at_call 81;refine cM (K.o _ eA) ?_;rintro e w1 ⟨r1,rfl,g,j⟩;obtain⟨s1,a1,m1,c1,rfl,-⟩:=g.j;obtain⟨S,ab⟩:=j.cells)|(go_at_call 168;refine cM (o.o _ _ g) ?_;rintro e w2 ⟨rfl,l⟩;obtain⟨aa,ac⟩:=l.cells;(have z1:=j.size);(simp only[wZ]at z1);(have z2:w.heap.size<w1.heap.size:=oM)));have X2:Ba w w2:=eA;refine Kc [(⟨w.heap.size,0,J⟩,O Y s),(⟨w.heap.size,1,J⟩,I a m c),(⟨w.heap.size,2,J⟩,O Y s2),(⟨w.heap.size,3,J⟩,I a2 m2 c2)] cA fun f=>?_;refine sN 0 ?_
  iterate 2 refine xb ?_
  refine oN ?_;refine Db (i:=4) ?_;refine Ub (i:=2) (P.o _ X2.drew) ?_;rintro e w5 ⟨rfl,x⟩;refine⟨_,rfl,(cE f x),fun f=>?_⟩;have X5:Ba w w5:=X2.drew.trans x;refine Db (i:=3) ?_;refine Ub (i:=5) (K.o _ X5) ?_;rintro e w6 ⟨r6,rfl,u,y⟩;obtain⟨s6,a6,m6,c6,rfl,-⟩:=u.j;refine⟨_,rfl,(cE f y),fun f=>?_⟩;have X6:Ba w w6:=X5.trans y;refine Ub (i:=6) (o.o _ _ u) ?_;rintro e w7 ⟨rfl,z⟩;refine⟨_,rfl,(cE f z),fun f=>?_⟩;refine sN 7 ?_
  iterate 2 refine xb ?_
  refine oN ?_;refine Wb ?_;go_wp2;go_ret;exact⟨by rw[<-k,show (⟨#[47]⟩:ByteArray)=⟨[47].toArray⟩from rfl,ll,ll];simp,X6.trans z⟩
def kB(w:M)(va vb:F)(q:Rat)(o:Ab w va q)(p:nc w vb q)(r:Rb Fb q):Calls Tryz.prog 35 #[va,vb] w fun e w'=>e=.returned (A true)/\Ba w w':=by
 obtain⟨s,a,m,c,S,x,Q,z,rfl⟩:=p.form;obtain⟨v,P,y,R,f,k,g,rfl⟩:=o.form;have t:=Aa (fun(W:M)(n:Ba w W)=>Kw W _ q (o.ext n) r);have u:=Aa (fun(W:M)(n:Ba w W)=>CM W _ q (p.ext n) r);obtain⟨T,K⟩:=gX (mg q);rw[K]at t u;clear o p r K;go_in;go_upto_region 1 with fail;have l:Ba w ((w.alloc (C #[I v P y,A R,I f k g] 63)).alloc (C #[O Y s,I a m c,O Y S,I x Q z] 68)):=((eR w).alloc _).alloc _;refine Kc [(⟨w.heap.size,0,J⟩,I v P y),(⟨w.heap.size,1,J⟩,A R),(⟨w.heap.size,2,J⟩,I f k g),(⟨w.heap.size+1,0,J⟩,O Y s),(⟨w.heap.size+1,1,J⟩,I a m c),(⟨w.heap.size+1,2,J⟩,O Y S),(⟨w.heap.size+1,3,J⟩,I x Q z)] cA fun b=>?_;refine Db (i:=0) ?_;refine Db (i:=2) ?_;refine Ub (i:=1) (t.o _ l.drew) ?_;rintro e w1 ⟨rfl,d⟩;refine⟨_,rfl,(cE b d),fun b=>?_⟩;refine Ub (i:=3) (u.o _ (l.drew.trans d)) ?_;rintro e w2 ⟨rfl,j⟩;refine⟨_,rfl,(cE b j),fun b=>?_⟩;refine sN 4 ?_
 iterate 2 refine xb ?_
 refine oN ?_;refine Wb ?_;go_wp2;go_ret;exact⟨rfl,(l.drew.trans d).trans j⟩
end
section
open Go.RowKit Go.Shelf Go.Sort
def SQ(w:M)(ps:LP)(g:Nat)(t3 t4:F)(W:M):Prop:=
 ∃i:Nat,i<=ps.length/\t4=O Y (i:Nat)/\g=ps.length-i/\Ba w W/\Ka 43 2 W w.heap.size t3 ((ps.take i).map pc)
def uD(w:M)(v:F)(ps:LP)(h:yb w v ps)(aa:ps.length<=1000):Calls Tryz.prog 62 #[v] w fun e u=>∃v',e=.returned v'/\Ka 43 2 u w.heap.size v' (ps.map pc)/\Ba w u:=by
 obtain⟨a,c,rfl⟩:=h.form;obtain⟨n,hn⟩:=gX ps.length;rw[hn]at h aa ⊢;have p:=Aa hn;have H:=Aa h;obtain⟨R,S⟩:∃R:Ending->M->Prop,(fun e u=>∃v',e=.returned v'/\Ka 43 2 u w.heap.size v' (ps.map pc)/\Ba w u)=R:=⟨_,rfl⟩;rw[S];have HR:=Aa S;clear hn h S;go_in;go_wp2;go_loopg [3,4] n (SQ w ps)
 case atStart=>exact⟨0,by omega,rfl,by rw[p.o];rfl,eR _,by simpa using Ka.nil _ _ _ _⟩
 case round =>
  obtain⟨i,hi,rfl,rfl,P,d⟩:=hrel;rw[p.o]at hi;obtain⟨va,vn,vc,rfl⟩:=d.i;have f:=Aa d;have Q:=Aa P;by_cases W:i<n
  ·obtain⟨⟨x,z⟩,r⟩:∃q,ps[i]?=G q:=⟨ps[i]'(by rw[p.o];omega),by simp[p.o,W]⟩;obtain⟨b,o,rfl,hb,d0,d1⟩:=(H.o.f P).at' r;obtain⟨b0,o0,e0,ac,_⟩:=H.o.at' r;cases e0;dsimp only at d0 d1;have Hq:=Aa r;have p1:(0:Int)<=(i:Int):=oM;have p2:(i:Int)<(n:Int):=oM;clear r P d;go_wp2;refine Kc [(⟨b,o+i*2,J⟩,O Y x),(⟨b,o+i*2+1,J⟩,O Y z)] ⟨d0,d1,trivial⟩ fun l=>?_;refine sN 0 ?_
   iterate 12 refine xb ?_
   refine oN ?_;refine Ld (i:=12) fun K s=>?_;go_simp;refine kO s (cE l ((eR _).alloc _)) (fun l=>?_);clear s K;have y:Ba wr ((wr.alloc (C #[O Y x,O Y z] 43)).drew):=((eR wr).alloc _).drew;refine Ld (i:=13) fun K s=>?_;refine ir (T:=43) (t:=38) (z:=L #[O Y 0,O Y 0]) (k:=2) (bytes:=16) (v:=I va vn vc) (base:=w.heap.size) Wm rfl dM dM Tryz.underlying38 rfl _ _ rfl rfl (f.o.ext y) (ad:=⟨wr.heap.size,0,J⟩) (m:=1) (c:=1) rfl [pc (x,z)] rfl (by simp[pc]) (by exact tv wr x z 43) (Ko x z) (by rw[lL,List.length_take];omega) (by have:=y.size;have:=Q.o.size;omega) ?_;intro v' w9 j g ab;obtain⟨a9,n9,c9,rfl⟩:=j.i;have zb:b<wr.heap.size:=hb;refine kO s (Da.grown l g (fun q r e=>?_)) (fun l=>?_)
   ·have h9:=(f.o.lt _ e.symm).1;simp at r;rcases r with rfl|rfl<;>(dsimp only at h9;omega)
   clear s K;refine Db (i:=14) ?_;refine Wb ?_;go_wp2;go_roundg (n-(i+1))
   case measure=>have:=p.o;omega
   case rel =>
    refine⟨i+1,by have:=p.o;omega,by go_num,by rw[p.o],(Q.o.trans y).y (Mh (base:=w.heap.size) g (by have:=y.size;have:=Q.o.size;omega) (fun k hk=>(f.o.lt k hk).1)) (nE _),?_⟩;rw[Rf _ _ _ Hq.o,List.map_append];exact j
  ·obtain rfl:n=i:=oM;have e:ps.take n=ps:=lT (by rw[p.o];exact nE _);rw[e]at d;go_wp2;rw[<-HR.o];exact⟨_,rfl,d,P⟩
def WK(w:M)(t:ByteArray)(v:F)(R:LP)(d l m o:Int)(h:yb w v R)(ac:R.length<=1000):Calls Tryz.prog 63 #[L #[.string t,v,O Y d,O Y l,O Y m,O Y o]] w fun e w'=>∃v',e=.returned (L #[.string t,v',O Y d,O Y l,O Y m,O Y o])/\Ja w' v' R/\Ba w w'/\∀j,v'.ownBlock=G j->w.heap.size<=j:=by
 have HP:=Aa (fun W (hW:Ba w W)=>uD W v R (h.f hW) ac);obtain⟨a,n,c,rfl⟩:=h.i;clear h;go_in;go_wp2;refine Kc [(⟨w.heap.size,0,J⟩,.string t),(⟨w.heap.size,1,J⟩,I a n c),(⟨w.heap.size,2,J⟩,O Y d),(⟨w.heap.size,3,J⟩,O Y l),(⟨w.heap.size,4,J⟩,O Y m),(⟨w.heap.size,5,J⟩,O Y o)] cA fun r=>?_;refine sN 0 ?_
 iterate 4 refine xb ?_
 refine oN ?_;refine sN 5 ?_
 iterate 11 refine xb ?_
 refine oN ?_;refine Ub (i:=4) (HP.o _ eA) ?_;rintro e S ⟨v3,rfl,f,x⟩;obtain⟨z,Q,P,rfl⟩:=f.i;refine⟨_,rfl,(cE r x),fun r=>?_⟩;refine Db (i:=16) ?_;have ad:=f.pts;have k:=x.e (Fw w (C #[.string t,I a n c,O Y d,O Y l,O Y m,O Y o] 29) (C #[.string ⟨#[]⟩,I J 0 0,O Y 0,O Y 0,O Y 0,O Y 0] 45));have k0:=Ca k (i:=0) (u:=.string ⟨#[]⟩) rfl;have k1:=Ca k (i:=1) (u:=I J 0 0) rfl;have k2:=Ca k (i:=2) (u:=O Y 0) rfl;have k3:=Ca k (i:=3) (u:=O Y 0) rfl;have k4:=Ca k (i:=4) (u:=O Y 0) rfl;have k5:=Ca k (i:=5) (u:=O Y 0) rfl;have kf:=Ua k;have g:=Aa (show ∀q∈[((⟨w.heap.size,0,J⟩:Addr),Value.string t),(⟨w.heap.size,1,J⟩,I a n c),(⟨w.heap.size,2,J⟩,O Y d),(⟨w.heap.size,3,J⟩,O Y l),(⟨w.heap.size,4,J⟩,O Y m),(⟨w.heap.size,5,J⟩,O Y o)],w.heap.size+1≠q.1.block from fun q hq h=>by
  simp at hq;rcases hq with rfl|rfl|rfl|rfl|rfl|rfl<;>(dsimp only at h;omega))
 have aa:Ba w S:=((((eR w).alloc _).alloc _).drew).trans x;have b:=Aa k;clear k;refine Ld (i:=17) fun K hK=>?_;go_simp;refine kO hK (Da.set (p:=⟨w.heap.size+1,5,J⟩) (Da.set (p:=⟨w.heap.size+1,4,J⟩) (Da.set (p:=⟨w.heap.size+1,3,J⟩) (Da.set (p:=⟨w.heap.size+1,2,J⟩) (Da.set (p:=⟨w.heap.size+1,1,J⟩) (Da.set (p:=⟨w.heap.size+1,0,J⟩) r g.o _) g.o _) g.o _) g.o _) g.o _) g.o _) (fun r=>?_);clear hK K;refine Wb ?_;go_wp2;obtain⟨T,s⟩:=gX (((((((S.setCell ⟨w.heap.size+1,0,J⟩ (.string t)).setCell ⟨w.heap.size+1,1,J⟩ (I z Q P)).setCell ⟨w.heap.size+1,2,J⟩ (O Y d)).setCell ⟨w.heap.size+1,3,J⟩ (O Y l)).setCell ⟨w.heap.size+1,4,J⟩ (O Y m)).setCell ⟨w.heap.size+1,5,J⟩ (O Y o)));have y:T.heap[w.heap.size+1]?=G (C #[.string t,I z Q P,O Y d,O Y l,O Y m,O Y o] 45 (0,0)):=by
  rw[<-s];exact Rh (Rh (Rh (Rh (Rh (Rh b.o 0 _) 1 _) 2 _) 3 _) 4 _) 5 _
 have hk:Ia 43 S T:=by
  rw[<-s];exact(((((Ia.refl 43 S).set (p:=⟨w.heap.size+1,0,J⟩) b.o dM _).set (p:=⟨w.heap.size+1,1,J⟩) (Rh b.o 0 _) dM _).set (p:=⟨w.heap.size+1,2,J⟩) (Rh (Rh b.o 0 _) 1 _) dM _).set (p:=⟨w.heap.size+1,3,J⟩) (Rh (Rh (Rh b.o 0 _) 1 _) 2 _) dM _).set (p:=⟨w.heap.size+1,4,J⟩) (Rh (Rh (Rh (Rh b.o 0 _) 1 _) 2 _) 3 _) dM _ |>.set (p:=⟨w.heap.size+1,5,J⟩) (Rh (Rh (Rh (Rh (Rh b.o 0 _) 1 _) 2 _) 3 _) 4 _) dM _
 have ab:Ba w T:=by
  rw[<-s];exact((((((aa.set dO _).set dO _).set dO _).set dO _).set dO _).set dO _)
 rw[s];have b0:=Ca y (i:=0) (u:=.string t) rfl;have b1:=Ca y (i:=1) (u:=I z Q P) rfl;have b2:=Ca y (i:=2) (u:=O Y d) rfl;have b3:=Ca y (i:=3) (u:=O Y l) rfl;have b4:=Ca y (i:=4) (u:=O Y m) rfl;have b5:=Ca y (i:=5) (u:=O Y o) rfl;exact bR (v:=L #[.string t,I z Q P,O Y d,O Y l,O Y m,O Y o]) (by simp[results,Tryz.results63,go_sem,b0,b1,b2,b3,b4,b5]) rfl ⟨_,rfl,ad.z hk,ab,fun j hj=>by have:=(f.lt j hj).1;simp only[wZ,Cc]at this;omega⟩
end
section
open Go.ChangeShapes Go.WideShapes Go.Deep
def Ul(P:Program)(t:TypeId):Array Field:=match P.underlying t with|some (.struct fs)=>fs|_=>#[]
section
variable {H:Type} {enc:TypeId×Value->H} {w:World} {spare:Nat->Bool} {held:Bool}
def Wj{P:Program}{b:Array Field}{n i ti oi ki:Nat}{cs:List Value}{xs:List (DataW H×List MemPlace)}(e:xs.length=b.size)(c:∀(i:Nat)(f:Field),b[i]?=some f->DataW.trod enc P w 0 spare held n f.type ((cs.drop f.offset).take (P.cellsOf f.type))=xs[i]?)(a:b[i]?.map (fun f=>(f.type,f.offset,P.cellsOf f.type))=some (ti,oi,ki)):∃y,DataW.trod enc P w 0 spare held n ti ((cs.drop oi).take ki)=some y:=by
 cases h:b[i]? with
 | none=>rw[h]at a;cases a
 | some f =>
  rw[h]at a;simp only[Option.map_some,Option.some.injEq,Prod.mk.injEq]at a;obtain⟨rfl,rfl,rfl⟩:=a;have d:i<xs.length:=by rw[e];exact(Array.getElem?_eq_some_iff.1 h).1
  exact⟨xs[i],by rw[c i f h];simp[d]⟩
def Qq:Tryz.prog.underlying 3=some (.int .i64):=kM
def NF:Tryz.prog.underlying 5=some (.int .u8):=kM
def CG:Tryz.prog.underlying 9=some .string:=kM
def PF:Tryz.prog.underlying 27=some (.struct (Ul Tryz.prog 27)):=kM
def OF:Tryz.prog.underlying 29=some (.struct (Ul Tryz.prog 29)):=kM
def QF:Tryz.prog.underlying 31=some (.struct (Ul Tryz.prog 31)):=kM
def Bz:Tryz.prog.underlying 25=some (.struct (Ul Tryz.prog 25)):=kM
def DG:Tryz.prog.underlying 22=some (.slice 27):=kM
def EG:Tryz.prog.underlying 23=some (.slice 31):=kM
def Fx{n:Nat}{cs:List Value}{y:DataW H×List MemPlace}(h:DataW.trod enc Tryz.prog w 0 spare held n 27 cs=some y):∃p:Int×Int,cs=[.int .i64 p.1,.int .i64 p.2]:=by
 obtain⟨o,m,_,_,f,g,e⟩:=DataW.trod_struct PF h;have l:Tryz.prog.cellsOf 27=2:=kM;rw[l]at f;obtain⟨q,j⟩:=Wj g e (i:=0) (ti:=3) (oi:=0) (ki:=1) kM;obtain⟨r,k⟩:=Wj g e (i:=1) (ti:=3) (oi:=1) (ki:=1) kM
 match cs,f with
 | [a,b],_ =>
  obtain⟨x,c,_⟩:=DataW.trod_int Qq j;obtain⟨z,d,_⟩:=DataW.trod_int Qq k;simp at c d;subst c d;exact⟨(x,z),rfl⟩
def Zu{α:Type}{Q:List Value->α->Prop}:∀{css:List (List Value)},(∀d∈css,∃a,Q d a)->∃l:List α,css.length=l.length/\∀(i:Nat) d a,css[i]?=some d->l[i]?=some a->Q d a
 | [],_=>⟨[],rfl,fun i d a h=>by simp at h⟩
 | c::css,h=>by
  obtain⟨a,j⟩:=h c sM;obtain⟨l,k,f⟩:=Zu (css:=css) (fun d e=>h d (mC _ e));refine⟨a::l,by simp[k],fun i d b e g=>?_⟩;cases i with
  | zero=>simp at e g;subst e g;exact j
  | succ i=>exact f i d b (by simpa using e) (by simpa using g)
def VE{n:Nat}{v:Value}{y:DataW H×List MemPlace}(h:DataW.trod enc Tryz.prog w 0 spare held n 22 [v]=some y):∃ps,yb w v ps:=by
 obtain⟨a,m,c,T,g,e,l,j,r,i⟩:=KD DG (k:=2) kM oM h;cases e;obtain⟨ps,b,q⟩:=Zu (α:=Int×Int) (Q:=PP w) (fun d h=>by
  obtain⟨f,y,s⟩:=i d h;obtain⟨p,o⟩:=Fx s;exact⟨p,o⟩)
 exact⟨ps,T,g,b,j,by rw[<-b,l];exact r,q⟩
def SP{n:Nat}{cs:List Value}{y:DataW H×List MemPlace}(h:DataW.trod enc Tryz.prog w 0 spare held n 31 cs=some y):∃p:Pl,jy w cs p:=by
 obtain⟨xs,m,_,_,v,f,e⟩:=DataW.trod_struct QF h;have hc:Tryz.prog.cellsOf 31=10:=kM;rw[hc]at v;obtain⟨y0,h0⟩:=Wj f e (i:=0) (ti:=29) (oi:=0) (ki:=6) kM;obtain⟨y1,h1⟩:=Wj f e (i:=1) (ti:=3) (oi:=6) (ki:=1) kM;obtain⟨y2,h2⟩:=Wj f e (i:=2) (ti:=27) (oi:=7) (ki:=2) kM;obtain⟨y3,h3⟩:=Wj f e (i:=3) (ti:=5) (oi:=9) (ki:=1) kM
 match cs,v with
 | [a0,a1,a2,a3,a4,a5,a6,a7,a8,a9],_ =>
  obtain⟨zs,k,_,_,_,d,c⟩:=DataW.trod_struct OF h0;obtain⟨z0,Q⟩:=Wj d c (i:=0) (ti:=9) (oi:=0) (ki:=1) kM;obtain⟨z1,R⟩:=Wj d c (i:=1) (ti:=22) (oi:=1) (ki:=1) kM;obtain⟨z2,S⟩:=Wj d c (i:=2) (ti:=3) (oi:=2) (ki:=1) kM;obtain⟨z3,T⟩:=Wj d c (i:=3) (ti:=3) (oi:=3) (ki:=1) kM;obtain⟨z4,W⟩:=Wj d c (i:=4) (ti:=27) (oi:=4) (ki:=2) kM;obtain⟨nm,j,_⟩:=DataW.trod_string CG Q;obtain⟨sh,g⟩:=VE R;obtain⟨K,l,_⟩:=DataW.trod_int Qq S;obtain⟨P,o,_⟩:=DataW.trod_int Qq T;obtain⟨u,q⟩:=Fx W;obtain⟨wy,r,_⟩:=DataW.trod_int Qq h1;obtain⟨b,s⟩:=Fx h2;obtain⟨x,t,_,a⟩:=DataW.trod_int NF h3;simp at j l o q r s t;obtain⟨rfl,rfl⟩:=q;obtain⟨rfl,rfl⟩:=s;subst j l o r t;refine⟨⟨nm,sh,K,P,u.1,u.2,wy,b.1,b.2,x⟩,_,rfl,g,?_⟩;have z:decide (IntKind.u8.min<=x)=true:=by unfold Lit.wf at a;simp only[Bool.and_eq_true]at a;exact a.1
  have w8:IntKind.u8.min=0:=dM;rw[w8]at z;exact of_decide_eq_true z
def QP{n:Nat}{v:Value}{y:DataW H×List MemPlace}(h:DataW.trod enc Tryz.prog w 0 spare held n 23 [v]=some y):∃ps,Ff w v ps:=by
 obtain⟨a,m,c,T,g,e,l,j,p,i⟩:=KD EG (k:=10) kM oM h;cases e;obtain⟨ps,b,o⟩:=Zu (α:=Pl) (Q:=jy w) (fun d h=>by
  obtain⟨f,y,q⟩:=i d h;exact SP q)
 exact⟨ps,T,g,b,j,by rw[<-b,l];exact p,o⟩
def DP{r:Reach}{n:Nat}{v:Value}{d:DataW H}{p:List MemPlace}(hv:Value.okWide Tryz.prog w r n 25 v)(h:DataW.Trod enc Tryz.prog w 0 spare held 25 v d p):∃vg vp g ps,v = .agg #[vg,vp]/\yb w vg g/\Ff w vp ps:=by
 obtain⟨j,rfl,c⟩:=okWide_struct Bz hv;have u:Tryz.prog.cellsOf 25=2:=kM;rw[u]at c;obtain⟨e,f,rfl⟩:∃a b,j=#[a,b]:=by
  match j,c with
  | ⟨[a,b]⟩,_=>exact⟨a,b,rfl⟩
 obtain⟨fuel,x⟩:=h;obtain⟨z,m,_,_,y,l,k⟩:=DataW.trod_struct Bz x;obtain⟨K,o⟩:=Wj l k (i:=0) (ti:=22) (oi:=0) (ki:=1) kM;obtain⟨P,q⟩:=Wj l k (i:=1) (ti:=23) (oi:=1) (ki:=1) kM;obtain⟨g,s⟩:=VE (v:=e) o;obtain⟨ps,t⟩:=QP (v:=f) q;exact⟨e,f,g,ps,rfl,s,t⟩
