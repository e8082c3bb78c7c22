import Derived.Test.YtjnjpagegkcgfaaGreatDoorCobA24
import Derived.Test.YtjnjpagegkcgfaaGreatDoorCobA21
import Derived.Test.YtjnjpagegkcgfaaGreatDoorCobA22
import Derived.Test.YtjnjpagegkcgfaaGreatDoorCobA23
import Derived.Test.YtjnjpagegkcgfaaGreatDoorCobA20
set_option maxRecDepth 1000000
set_option maxHeartbeats 16000000
set_option linter.all false
open Go.Value renaming slice->O,int->Z,bool->I
open Go.IntKind renaming i64->Y
open Go renaming World->X,Value->J
open Option renaming none->V,some->N
namespace Go.Proofs.YtjnjpagegkcgfaaGreatDoor.Cop
section
open Go.RowKit Go.Shelf Go.Sort
attribute [local go_sem] Oper.semAt_some
def XR(w:X)(l:LP)(by':Int)(b c:J)(W:X):Prop:=
 ∃i f:Nat,c=Z Y i/\b=Z Y f/\Le l by' i=f/\i<=l.length/\Ba w W
def RF{l:LP}{by':Int}(b:by'=1\/by' = -1){i:Nat}(h:i<=l.length)(h0:0<l.length):Le l by' i<l.length:=by
 cases i with
 | zero=>unfold Le;omega
 | succ i=>have:=(Nz l b i).1;omega
def WR(w:X)(cs:LP)(by':Int)(s:Nat)(L:LP)(b t9:J)(W:X):Prop:=
 ∃m i:Nat,m<L.length/\t9=Z Y i/\Dh cs.length s by' (m+1)=i/\Ka 27 2 W w.heap.size b ((L.take (m+1)).map pc)/\Ba w W
def tK(w:X)(x z:Int):Ka 27 2 (w.alloc (Obj.cells #[Value.int Y (x),Value.int Y (z)] 27)) w.heap.size (O (N ⟨w.heap.size,0,V⟩) 1 1) [pc (x,z)]:=
 ⟨by simp[pc],by simp[pc],.inr ⟨w.heap.size,1,_,by simp,nE _,aN w _,by simp,by unfold maxLen;omega,by simp,by simp[pc]⟩⟩
def TD(w:X)(v:J)(l L:LP)(by':Int)(hb:by'=1\/by' = -1)(h:yb w v l)(hc:uq l by' L)(hB:∀q∈l,Bd 3000000 q.1/\Bd 3000000 q.2)(hl:l.length<=1000)(hL:L.length<=1000):Calls Tryz.prog 99 #[v,Z Y by'] w (Ci w L):=by
 obtain⟨a,c,rfl⟩:=h.form;obtain⟨n,hn⟩:=gX l.length;have ah:0<n:=by rw[<-hn];exact hc.pos
 have am:0<L.length:=List.length_pos_iff.2 hc.ne;rw[hn]at hl ⊢;have u:=Aa hn;have H:=Aa h;have HB:=Aa hB;have Hc:=Aa hc;have Hb:=Aa hb;have b0:-1<=by':=oM;have b1:by'<=1:=oM;clear hn h hB hc hb;go_in;go_wp2;go_loopw [6,7] (XR w l by') (fun _ t7 _=>n-(intOf t7).toNat)
 case atStart=>exact⟨0,0,rfl,rfl,rfl,by omega,eR _⟩
 case round =>
  obtain⟨i,f,rfl,rfl,hf,hi,hx⟩:=hrel;rw[u.o]at hi;have ab:Le l by' i<n:=by rw[<-u.o];exact RF Hb.o (by rw[u.o];exact hi) (by rw[u.o];exact ah)
  have K:Le l by' (i+1)=if nh by' (Pa l i) (Pa l f)then i else f:=by subst hf;rfl
  rw[hf]at ab;obtain⟨b,o,rfl,aH,d0,d1⟩:=(H.o.f hx).pt (i:=f) (by rw[u.o];exact ab);by_cases au:i<n
  ·obtain⟨b2,o2,e2,aC,c0,c1⟩:=(H.o.f hx).pt (i:=i) (by rw[u.o];exact au);cases e2;have bi:=HB.o _ (ji (l:=l) (i:=i) (by rw[u.o];exact au));have bf:=HB.o _ (ji (l:=l) (i:=f) (by rw[u.o];exact ab));obtain⟨⟨x,z⟩,hq⟩:∃q,Pa l i=q:=⟨_,rfl⟩;obtain⟨⟨r,fz⟩,hp⟩:∃q,Pa l f=q:=⟨_,rfl⟩;rw[hq]at c0 c1 bi;rw[hp]at d0 d1 bf;have K:Le l by' (i+1)=if nh by' (x,z) (r,fz)then i else f:=by rw[<-hq,<-hp];exact K
   have ae:Le l by' (i+1)=if x<r\/(x=r/\by'*(z-fz)<0)then i else f:=by rw[K];unfold nh;rfl
   unfold Bd at bi bf;dsimp only at c0 c1 d0 d1 bi bf;have g0:(0:Int)<=(i:Int):=oM;have g1:(i:Int)<(n:Int):=oM;have g2:(0:Int)<=(f:Int):=oM;have g3:(f:Int)<(n:Int):=oM;obtain⟨M,hM⟩:=gX (by'*(z-fz));have aG:-6000000<=M/\M<=6000000:=by rw[<-hM];rcases Hb.o with h|h<;>subst h<;>omega
   simp only[hM]at ae;have aK:IntKind.i64.wrap (z-fz)=z-fz:=iW _ oM;have aL:IntKind.i64.wrap M=M:=iW _ oM;have af:=Aa ae;clear hf hq hp K ae;by_cases h1:x<r
   ·have e:x<r\/(x=r/\M<0):=.inl h1;have E:=Aa e;(have k1:decide (x<r)=true:=by simpa using h1);clear e;go_wp2;refine Kc [(⟨b,o+i*2,V⟩,Z Y x),(⟨b,o+i*2+1,V⟩,Z Y z),(⟨b,o+f*2,V⟩,Z Y r),(⟨b,o+f*2+1,V⟩,Z Y fz)] cA fun W=>?_;refine sN 0 ?_
    iterate 12 refine xb ?_
    (iterate 27 refine Ee ?_);refine xb ?_;refine oN ?_;refine Wb ?_;go_wp2;go_roundw
    case rel=>exact⟨i+1,_,by go_num,rfl,by rw[af.o,if_pos E.o],by rw[u.o];omega,eA⟩
    case measure=>simp[intOf];omega
   ·(have k1:decide (x<r)=false:=by simpa using h1);by_cases h2:x=r
    ·(have h3:(x==r)=true:=by simpa using h2);by_cases h4:M<0
     ·(have k2:decide (M<0)=true:=by simpa using h4);have e:x<r\/(x=r/\M<0):=.inr ⟨h2,h4⟩;have E:=Aa e;clear h2 e;go_wp2;refine Kc [(⟨b,o+i*2,V⟩,Z Y x),(⟨b,o+i*2+1,V⟩,Z Y z),(⟨b,o+f*2,V⟩,Z Y r),(⟨b,o+f*2+1,V⟩,Z Y fz)] cA fun W=>?_;refine sN 0 ?_
      (iterate 40 refine xb ?_);refine oN ?_;refine Wb ?_;go_wp2;go_roundw
      case rel=>exact⟨i+1,_,by go_num,rfl,by rw[af.o,if_pos E.o],by rw[u.o];omega,eA⟩
      case measure=>simp[intOf];omega
     ·(have k2:decide (M<0)=false:=by simpa using h4);have e:¬(x<r\/(x=r/\M<0)):=oM;have E:=Aa e;clear h2 e;go_wp2;refine Kc [(⟨b,o+i*2,V⟩,Z Y x),(⟨b,o+i*2+1,V⟩,Z Y z),(⟨b,o+f*2,V⟩,Z Y r),(⟨b,o+f*2+1,V⟩,Z Y fz)] cA fun W=>?_;refine sN 0 ?_
      (iterate 40 refine xb ?_);refine oN ?_;refine Wb ?_;go_wp2;go_roundw
      case rel=>exact⟨i+1,_,by go_num,rfl,by rw[af.o,if_neg E.o],by rw[u.o];omega,eA⟩
      case measure=>simp[intOf];omega
    ·(have h3:(x==r)=false:=by simpa using h2);have e:¬(x<r\/(x=r/\M<0)):=oM;have E:=Aa e;clear h2 e;go_wp2;refine Kc [(⟨b,o+i*2,V⟩,Z Y x),(⟨b,o+i*2+1,V⟩,Z Y z),(⟨b,o+f*2,V⟩,Z Y r),(⟨b,o+f*2+1,V⟩,Z Y fz)] cA fun W=>?_;refine sN 0 ?_
     iterate 24 refine xb ?_
     iterate 14 refine Ee ?_
     (iterate 2 refine xb ?_);refine oN ?_;refine Wb ?_;go_wp2;go_roundw
     case rel=>exact⟨i+1,_,by go_num,rfl,by rw[af.o,if_neg E.o],by rw[u.o];omega,eA⟩
     case measure=>simp[intOf];omega
  ·obtain rfl:i=n:=oM;obtain⟨⟨sx,sz⟩,hp⟩:∃q,Pa l f=q:=⟨_,rfl⟩;rw[hp]at d0 d1;dsimp only at d0 d1;have hs:Le l by' l.length=f:=by rw[u.o];exact hf
   have aa:=Hc.o.at' 0 am;rw[hs,u.o,Av ab,hp]at aa;have g2:(0:Int)<=(f:Int):=oM;have g3:(f:Int)<(i:Int):=oM;have g4:¬(i:Int)<(i:Int):=oM;have P:=Bv (n:=i) (s:=f) (k:=0) (by':=by') ah;rw[Av ab]at P;have ai:Int.tmod ((f:Int)+by'+(i:Int)) (i:Int)=((Dh i f by' 1:Nat):Int):=by
    rw[Int.tmod_eq_emod_of_nonneg oM];exact P
   have aJ:¬(i:Int)=0:=oM;have aF:¬i=0:=oM;obtain⟨j1,ao⟩:=gX (Dh i f by' 1);rw[ao]at ai;have aA:=Aa ao;have az:=Aa aa;have Hs:=Aa hs;have ay:=hx.size;clear hp hf aa P ao hs;go_wp2;go_loopw [8,9] (WR w l by' f L) (fun t8 _ _=>L.length-(match t8 with | O _ n _=>n|_=>0))
   case atStart =>
    refine⟨0,j1,am,rfl,by rw[u.o];exact aA.o,?_,eA⟩;have e:(L.take (0+1)).map pc=[pc (sx,sz)]:=by
     rw[Rf L 0 (Pa L 0) (by rw[Ah am];exact gE _),az.o];rfl
    rw[e];exact(tK wr sx sz).mono ay
   case round =>
    clear d0 d1 hx g2 g3 ai ay;obtain⟨m,j,hm,rfl,hj,d,hx⟩:=hrel;rw[u.o]at hj;(have aD:j<i:=by rw[<-hj];exact Fp ah);obtain⟨b2,o2,e2,aC,c0,c1⟩:=(H.o.f hx).pt (i:=j) (by rw[u.o];exact aD);cases e2;obtain⟨va,vc,ax⟩:=d.form;rw[lL,List.length_take,Nat.min_eq_left oM]at ax;subst ax;obtain⟨g,rfl,hg,aI⟩:=d.blk (by rw[lL,List.length_take];omega);have Q:((L.take (m+1)).map pc)[m]?=N (pc (Pa L m)):=by
     rw[lP,List.getElem?_take,if_pos oM,Ah hm,gE hm];rfl
    have l0:=d.cell (j:=0) Q rfl;have S:m+1<L.length->(Pa L m).1<(Pa L (m+1)).1/\Pa L (m+1)=Pa l j:=fun h9=>⟨Hc.o.up m h9,by rw[Hc.o.at' _ h9,Hs.o,u.o,hj]⟩;have R:¬m+1<L.length->(Pa l j).1<=(Pa L m).1:=fun h9=>by
     have:=Hc.o.stop;rw[Hs.o,u.o,show L.length=m+1 by omega,hj]at this;exact this
    obtain⟨⟨qx,qz⟩,hq⟩:∃q,Pa l j=q:=⟨_,rfl⟩;obtain⟨⟨lx,lz⟩,ap⟩:∃q,Pa L m=q:=⟨_,rfl⟩;rw[hq]at c0 c1 S R;rw[ap]at l0 S R;dsimp only at c0 c1 l0 S R;simp only[Nat.add_zero]at l0;have aj:=Aa d;have P:=Bv (n:=i) (s:=f) (k:=m+1) (by':=by') ah;rw[hj]at P;have ai:Int.tmod ((j:Int)+by'+(i:Int)) (i:Int)=((Dh i f by' (m+1+1):Nat):Int):=by
     rw[Int.tmod_eq_emod_of_nonneg oM];exact P
    obtain⟨j2,ag⟩:=gX (Dh i f by' (m+1+1));rw[ag]at ai;have aB:=Aa ag;have k0:(0:Int)<=(j:Int):=oM;have k1:(j:Int)<(i:Int):=oM;have k2:(0:Int)<=(m:Int):=oM;have k3:(m:Int)<(m:Int)+1:=oM;have k4:(m:Int)+1-1=(m:Int):=oM;by_cases y:m+1<L.length
    ·obtain⟨h1,h2⟩:=S y;rw[h2]at h1;dsimp only at h1;(have e1:decide (lx<qx)=true:=by simpa using h1);have H2:=Aa h2;have al:=Aa hx.size;have kw:IntKind.i64.wrap (m:Int)=(m:Int):=iW _ oM;clear S R hq ap d Q hj P ag h2;go_wp2;refine Kc [(⟨b,o+j*2,V⟩,Z Y qx),(⟨g,m*2,V⟩,Z Y lx)] cA fun W=>?_;refine sN 0 ?_
     (iterate 13 refine xb ?_);refine oN ?_;refine Wb ?_;clear kw;go_wp2_with(at_builtin;refine zh (T:=27) (t:=88) (z:=.agg #[Z Y 0,Z Y 0]) (k:=2) (bytes:=16) (base:=w.heap.size) (v:=O (N ⟨g,0,V⟩) (m+1) vc) (m:=1) (c:=1) (ad:=⟨wr.heap.size,0,V⟩) Pq rfl dM dM Tryz.underlying88 rfl _ _ rfl rfl (aj.o.ext ((eR wr).alloc (Obj.cells #[Value.int Y (qx),Value.int Y (qz)] 27)).drew) rfl [pc (qx,qz)] rfl (by simp[pc]) (by exact Lq wr qx qz) (Ko qx qz) (by rw[lL,List.length_take];omega) (by have:=al.o;simp only[wZ,Cc];omega) ?_;intro v' w5 ac an aE);obtain⟨a5,c5,aw⟩:=ac.form;rw[lA,lL,List.length_take,Nat.min_eq_left oM,List.length_singleton]at aw;subst aw;go_roundw
     case rel =>
      have av:=aj.o.lt;have ar:Below w.heap.size wr w5:=((((eR wr).alloc (Obj.cells #[Value.int Y (qx),Value.int Y (qz)] 27)).drew).below al.o).trans (Mh an (by have:=al.o;simp only[wZ,Cc];omega) (fun k hk=>(av k hk).1));refine⟨m+1,j2,y,rfl,by rw[u.o];exact aB.o,?_,hx.y ar (nE _)⟩;rw[Rf L (m+1) (Pa L (m+1)) (by rw[Ah y];exact gE _),List.map_append,H2.o];exact ac
     case measure=>simp;omega
    ·have h1:=R y;(have e1:decide (lx<qx)=false:=by simp;omega);have eL:L.length=m+1:=oM;have ak:Ka 27 2 wr w.heap.size (O (N ⟨g,0,V⟩) (m+1) vc) (L.map pc):=by
      have:=d;rw[lT oM]at this;exact this
     have aq:=Aa ak;have kw:IntKind.i64.wrap (m:Int)=(m:Int):=iW _ oM;clear S R hq ap d Q hj P ag ak eL h1;go_wp2;refine Kc [(⟨b,o+j*2,V⟩,Z Y qx),(⟨g,m*2,V⟩,Z Y lx)] cA fun W=>?_;refine sN 0 ?_
     (iterate 13 refine xb ?_);refine oN ?_;refine Wb ?_;go_wp2;go_ret;exact⟨_,rfl,aq.o.ext (eR wr).drew,hx.drew⟩
end
section
open Go.RowKit Go.Shelf
attribute [local go_sem] Oper.semAt_some
def Uy(w:X)(m r:J)(ps:List Pl)(a:Nat)(p:Pl)(b pin:Int)(i:LP)(hg:∃a n c,m=O a n c)(u:Sb w r ps)(t:ps[a]?=N p)(d:b<0\/∃(x:Nat)(q:Pl),b=(x:Int)/\ps[x]?=N q/\sd p q=true/\(a:Int)≠b)(j:mc (Ea p))(s:mc i)(l:ph i)(f:∀W,Ba w W->Calls Tryz.prog 76 #[.agg #[m,r],Z Y b] W fun e y=>∃v,e=.returned v/\Ja y v i/\Ba W y)(hp:Bd 104000 pin):Calls Tryz.prog 72 #[.agg #[m,r],Z Y a,Z Y b,Z Y pin] w (Vf w (Of p i b pin)):=by
 by_cases k:(Nb (Ea p) i).lo<(Nb (Ea p) i).hi
 ·cases hro:Ac (Nb (Ea p) i) pin with
  | none=>exact CL w m r ps a p b pin i hg u t d j s l f hp k hro
  | some z=>exact zL w m r ps a p b pin i hg u t d j s l f hp k z hro
 ·exact BL w m r ps a p b pin i hg u t d j s l f hp k
end
section
open Go.RowKit Go.Shelf Go.Sort Go.Lib
def Ji.keep{w w':X}{c:List J}{b:Be}(h:Ji w c b)(k:Ia 2 w w'):Ji w' c b:=by obtain⟨f,t,d,e,i⟩:=h;exact⟨f,t,d,e.keep k,i.keep k⟩
def Id(w:X)(base:Nat)(v:J)(d:List Be):Prop:=∃cs,Ka 79 17 w base v cs/\cs.length=d.length/\∀(i:Nat) c b,cs[i]?=N c->d[i]?=N b->Ji w c b
def Id.ext{w w':X}{base:Nat}{v:J}{d:List Be}(h:Id w base v d)(k:Ba w w'):Id w' base v d:=by obtain⟨e,f,j,l⟩:=h;exact⟨e,f.ext k,j,fun i c b hc m=>(l i c b hc m).ext k⟩
def Id.nil(w:X)(base:Nat):Id w base (O V 0 0) []:=⟨[],Ka.nil _ _ _ _,rfl,fun i c b hc=>by simp at hc⟩
def Id.i{w:X}{base:Nat}{v:J}{b:List Be}(h:Id w base v b):∃a n c,v=O a n c:=by obtain⟨e,d,_⟩:=h;exact d.i
def Id.app{wr j:X}{base:Nat}{m:J}{f:List Be}{cs:List (List J)}{d:List J}{b:Be}(h:Ka 79 17 j base m (cs++[d]))(k:cs.length=f.length)(l:∀(i:Nat) c b,cs[i]?=N c->f[i]?=N b->Ji wr c b)(s:Ia 2 wr j)(q:Ji j d b):Id j base m (f++[b]):=by
 refine⟨cs++[d],h,by simp[k],fun i c n hc e=>?_⟩;by_cases r:i<cs.length
 ·rw[List.getElem?_append_left r]at hc;rw[List.getElem?_append_left oM]at e;exact(l i c n hc e).keep s
 ·rw[List.getElem?_append_right oM]at hc e;have t:=(lS.1 hc).1;simp at t;have:i-cs.length=0:=oM;rw[this]at hc;rw[show i-f.length=0 by omega]at e;simp at hc e;subst hc e;exact q
def EH:(Tryz.prog.info? 79).map (fun i=>(i.zero,i.size,i.bytes))=N (N (.agg Yj),17,264):=kM
def Qc(g:LP)(ps:List Pl)(a:Nat)(p:Pl)(pin b:Int):Option Be:=
 if (a:Int)=b then V else if b<0 then Of p g b pin else match ps[b.toNat]? with|none=>V|some q=>if sd p q=true then Of p (Pb q) b pin else V
def Ue(g:LP)(ps:List Pl)(a:Nat)(p:Pl)(pin:Int)(n:Nat):List Be:=(List.range n).filterMap fun k:Nat=>Qc g ps a p pin ((k:Int)-1)
def jE(g:LP)(ps:List Pl)(a:Nat)(p:Pl)(pin:Int)(n:Nat):Ue g ps a p pin (n+1)=Ue g ps a p pin n++(match Qc g ps a p pin ((n:Int)-1)with|none=>[]|some b=>[b]):=by
 unfold Ue;rw[List.range_succ,List.filterMap_append]
 congr 1
 cases h:Qc g ps a p pin ((n:Int)-1)<;>simp[h]
def Uw(g:LP)(ps:List Pl)(a:Nat)(p:Pl)(pin:Int)(n:Nat):(Ue g ps a p pin n).length<=n:=by unfold Ue;have:=List.length_filterMap_le (fun k:Nat=>Qc g ps a p pin ((k:Int)-1)) (List.range n);simpa using this
def IA(w:X)(c d:J)(g:LP)(ps:List Pl)(a:Nat)(p:Pl)(b pin:Int)(hg:Ja w c g)(i:Sb w d ps)(k:ps[a]?=N p)(l:Za g=true)(hok:∀q∈ps,Fa q=true)(v:-1<=b)(x:b<ps.length)(hp:Bd 104000 pin):Calls Tryz.prog 72 #[.agg #[c,d],Z Y a,Z Y b,Z Y pin] w (Vf w (Qc g ps a p pin b)):=by
 have m:=hok p (lM k);unfold Qc;by_cases j:(a:Int)=b
 ·rw[if_pos j,<-j];exact AL w c d ps a p pin (La hg) i k
 rw[if_neg j];by_cases s:b<0
 ·rw[if_pos s];exact Uy w c d ps a p b pin g (La hg) i k (.inl s) (Lh m).1 (Ll l) (nu l) (fun W t=>(pD W c d b s (La hg) (La i)).mono (by rintro e y ⟨rfl,u⟩;exact⟨_,rfl,hg.f (t.trans u),u⟩)) hp
 rw[if_neg s];obtain⟨q,n⟩:∃q,ps[b.toNat]?=N q:=⟨ps[b.toNat]' oM,gE _⟩;have r:=lM n;simp only[n];have f:b=((b.toNat:Nat):Int):=oM;cases hmt:sd p q with
 |false=>
  rw[if_neg sM];exact YM w c d ps a p b pin (La hg) i k b.toNat f q n hmt j
 |true=>
 rw[if_pos rfl];refine Uy w c d ps a p b pin (Pb q) (La hg) i k (.inr ⟨b.toNat,q,f,n,hmt,j⟩) (Lh m).1 (Lh (hok q r)).2 (nv (hok q r)) (fun W t=>?_) hp;have:=WC W c d ps b.toNat q (La hg) (i.f t) n;rw[<-f]at this;exact this
def Id.mono{w:X}{base b':Nat}{v:J}{b:List Be}(h:Id w base v b)(k:b'<=base):Id w b' v b:=by obtain⟨c,d,e,f⟩:=h;exact⟨c,d.mono k,e,f⟩
def Ik(w:X)(b:List Be)(e:Ending)(w':X):Prop:=∃v,e=.returned (.tuple #[v,Z Y 0])/\Id w' w.heap.size v b/\Ba w w'
def xF(w:X)(b:Nat)(j k:J)(ps:List Pl)(c:Nat->List Be)(f:Nat)(d e:J)(W:X):Prop:=
 ∃i:Nat,i<=ps.length+1/\e=Z Y ((i:Int)-1)/\f=ps.length+1-i/\Ba w W/\b+1<=W.heap.size/\W.heap[b]?=N (.cells #[j,k] 124 (0,0))/\Id W (b+1) d (c i)
def Ji.form{w:X}{c:List J}{b:Be}(h:Ji w c b):∃a m c1 s a2 m2 c2 b1 n k t b2 n2 k2 a' m' c' s' a2' m2' c2' b' n' k' t' b2' n2' k2',c=[Z Y b.num,O a m c1,I s,O a2 m2 c2,O b1 n k,I t,O b2 n2 k2,O a' m' c',I s',O a2' m2' c2',O b' n' k',I t',O b2' n2' k2',Z Y b.d1.1,Z Y b.d1.2,Z Y b.d2.1,Z Y b.d2.2]:=by
 obtain⟨f,t,rfl,⟨a,m,c,s,a2,m2,c2,b1,n,k,d,b2,n2,k2,j,_,_⟩,a',m',c',s',a2',m2',c2',b',n',k',t',b2',n2',k2',l,_,_⟩:=h;have e:f=[O a m c,I s,O a2 m2 c2,O b1 n k,I d,O b2 n2 k2]:=by simpa using j
 have i:t=[O a' m' c',I s',O a2' m2' c2',O b' n' k',I t',O b2' n2' k2']:=by simpa using l
 subst e i;exact⟨a,m,c,s,a2,m2,c2,b1,n,k,d,b2,n2,k2,a',m',c',s',a2',m2',c2',b',n',k',t',b2',n2',k2',rfl⟩
def ms{W w':X}{o:Option Be}{e:Ending}(h:Vf W o e w'):∃nb a m c1 s a2 m2 c2 b1 n k t b2 n2 k2 a' m' c' s' a2' m2' c2' b' n' k' t' b2' n2' k2' e1 e2 e3 e4 bb,e=.returned (.tuple #[.agg #[Z Y nb,O a m c1,I s,O a2 m2 c2,O b1 n k,I t,O b2 n2 k2,O a' m' c',I s',O a2' m2' c2',O b' n' k',I t',O b2' n2' k2',Z Y e1,Z Y e2,Z Y e3,Z Y e4],I bb])/\(bb=true->∃be,o=N be/\Ji w' [Z Y nb,O a m c1,I s,O a2 m2 c2,O b1 n k,I t,O b2 n2 k2,O a' m' c',I s',O a2' m2' c2',O b' n' k',I t',O b2' n2' k2',Z Y e1,Z Y e2,Z Y e3,Z Y e4] be)/\(bb=false->o=V)/\Ba W w':=by
 obtain⟨i,⟨d,f⟩|⟨b,c,d,f,j⟩⟩:=h
 ·exact⟨0,V,0,0,false,V,0,0,V,0,0,false,V,0,0,V,0,0,false,V,0,0,V,0,0,false,V,0,0,0,0,0,0,false,f,(fun h=>by cases h),fun _=>d,i⟩
 ·obtain⟨a,m,c1,s,a2,m2,c2,b1,n,k,t,b2,n2,k2,a',m',c',s',a2',m2',c2',b',n',k',t',b2',n2',k2',rfl⟩:=j.form;exact⟨b.num,a,m,c1,s,a2,m2,c2,b1,n,k,t,b2,n2,k2,a',m',c',s',a2',m2',c2',b',n',k',t',b2',n2',k2',b.d1.1,b.d1.2,b.d2.1,b.d2.2,true,f,fun _=>⟨b,d,j⟩,(fun h=>by cases h),i⟩
def xL{K wr W P:X}{l i:Nat}{S T v9:J}{ps:List Pl}{e:Nat->List Be}{R:J}{cs:List (List J)}{d:List J}{Q:Be}{A:Array J}(ac:i<ps.length+1)(aa:K.heap.size=l)(hx:Ba K wr)(ab:l+1<=wr.heap.size)(hK:wr.heap[l]?=N (.cells #[S,T] 124 (0,0)))(z:Ba wr W)(hz:l+1<=W.heap.size)(x:Ka 79 17 wr (l+1) R cs)(v:cs.length=(e i).length)(w:∀(j:Nat) c b,cs[j]?=N c->(e i)[j]?=N b->Ji wr c b)(q:Ka 79 17 P (l+1) v9 (cs++[d]))(f:(W.alloc (.cells A 79)).grownBy P R.ownBlock)(y:Ji W d Q)(hs:e (i+1)=e i++[Q]):xF K l S T ps e (ps.length+1-(i+1)) v9 (Z Y (i:Int)) P:=by
 have m:=z.alloc (.cells A 79);have r:=x.ext m;have s:l+1<=(W.alloc (.cells A 79)).heap.size:=by simp only[wZ];omega
 have n:=Mh (base:=l+1) f s (fun k hk=>(r.lt k hk).1);have t:=r.keepT (T':=2) dM f;have u:=hx.trans m;refine⟨i+1,by omega,by go_num,rfl,u.y n oM,nT s n.size,(n.block _ oM).trans (m.e hK),?_⟩;rw[hs];exact Id.app q v w (m.keep.trans t) ((y.ext ((eR _).alloc _)).keep t)
def YN(w3 w4:X)(r:Nat)(vg vs:J)(ps:List Pl)(a:Nat)(pin:Int)(f:Nat->List Be)(am:Int->Option Be)(Q:Exit->Act->X->Prop)(x0 x3 x4 x5 x6 x7 x9 aV aW aw ax ay az aA aB aC aD aE aF aG aH aX aY aZ a0 a1 a3 a4 a5 a6 a7 a8 ba bc bf bg bh bi bj bk bl bm:J)(aQ:∃a n c,vg=O a n c)(S:Sb w3 vs ps)(bM:ps.length<=120)(au:∀n,f (n+1)=f n++(match am ((n:Int)-1)with|none=>[]|some b=>[b]))(ap:∀n,(f n).length<=n)(ao:f 0=[])(hB:∀W,Ba w3 W->∀b:Int,-1<=b->b<ps.length->Calls Tryz.prog 72 #[.agg #[vg,vs],Z Y a,Z Y b,Z Y pin] W (Vf W (am b)))(al:Ba w3 w4)(aI:r+1<=w4.heap.size)(an:w3.heap.size=r)(K8:w4.heap[r]?=N (.cells #[vg,vs] 124 (0,0)))(hQ:∀(W:X)(ae aU bn bo bp bq br bs bt bu bv bw bx bz bA bB bC bD bE bF bG bH bI bJ bK:J),Ba w3 W->Id W (r+1) ae (f (ps.length+1))->(∃a n c,ae=O a n c)->Q (.exit 0) { tmps:=#[x0,Z Y a,Z Y pin,x3,x4,x5,x6,x7,.pointer (N ⟨r,0,V⟩),x9,ae,aU,bn,bo,aw,ax,ay,az,aA,aB,aC,aD,aE,aF,aG,aH,bp,bq,br,bs,bt,bu,bv,bw,bx,bz,bA,bB,bC,bD,bE,bF,bG,bH,bI,bJ,bK],defers:=[] } W) :
  (Code.loop (Pg Tryz.f16 0)).wp Tryz.prog Q { tmps:=#[x0,Z Y a,Z Y pin,x3,x4,x5,x6,x7,.pointer (N ⟨r,0,V⟩),x9,O V 0 0,Z Y (-1),aV,aW,aw,ax,ay,az,aA,aB,aC,aD,aE,aF,aG,aH,aX,aY,aZ,a0,a1,a3,a4,a5,a6,a7,a8,ba,bc,bf,bg,bh,bi,bj,bk,bl,bm],defers:=[] } w4:=by
 obtain⟨ga,gn,gc,rfl⟩:=aQ;obtain⟨sa,sn,sc,rfl⟩:=La S;have aj:=Aa (show sn=ps.length from S.len);have HB:=Aa hB;have ak:=Aa au;have ah:=Aa ap;have ag:=Aa ao;have aJ:=Aa an;have HQ:=Aa hQ;clear hB au ap ao an hQ S;unfold Pg;simp only[Tryz.f16,td,List.append_nil,List.nil_append,List.singleton_append,List.getD_cons_zero,List.getD_cons_succ];go_loopg [10,11] (ps.length+1) (xF w3 r (O ga gn gc) (O sa sn sc) ps f)
 case atStart=>exact⟨0,by omega,by go_num,by omega,al,aI,K8,by rw[ag.o];exact Id.nil _ _⟩
 case round =>
  clear K8 al aI ag;obtain⟨i,hi,rfl,rfl,hx,aP,hK,j⟩:=hrel;obtain⟨va,vn,vc,rfl⟩:=j.i;have m0:=Ca hK (i:=0) (u:=O ga gn gc) rfl;have m1:=Ca hK (i:=1) (u:=O sa sn sc) rfl;have HK:=Aa hK;have Hx:=Aa hx;have q:=Aa j;clear hK;by_cases aR:i<ps.length+1
  ·have q1:-1<=(i:Int)-1:=oM;have q2:(i:Int)-1<(ps.length:Int):=oM;have q3:(i:Int)-1<(sn:Int):=by have:=aj.o;omega
   have af:=Aa (fun(W:X)(hW:Ba wr W)=>HB.o W (hx.trans hW) ((i:Int)-1) q1 q2);clear hx HB q1 q2;have aK:=Aa (fun(W:X)(hW:Ba wr W)=>(af.o W hW).mono (fun e w' h=>ms h));obtain⟨cs,ar,P,aq⟩:=j;have ai:=Aa ar;have aM:=Aa aq;have aL:=Aa P;have aO:=Aa (show cs.length<=121 by rw[P];exact nT (ah.o i) oM);clear af ar P aq ah HQ hi;go_wp2_with(first|(go_at_call 72;refine cM (aK.o _ eA) ?_;rintro e w5 ⟨nb,a,m,c1,s,a2,m2,c2,b1,n,k,t,b2,n2,k2,a',m',c',s',w,ab,y,b',n',k',t',x,ac,aa,e1,e2,e3,e4,bb,rfl,av,aS,d⟩;(have z5:=d.size))|(at_builtin;refine zh (T:=79) (t:=54) (z:=.agg Yj) (k:=17) (bytes:=264) (base:=r+1) (v:=O va vn vc) (cs:=cs) (m:=1) (c:=1) (ad:=⟨w5.heap.size+1,0,V⟩) EH rfl dM dM Tryz.underlying54 rfl _ _ rfl rfl (ai.o.ext ((d.alloc _).alloc _)) rfl [[Z Y nb,O a m c1,I s,O a2 m2 c2,O b1 n k,I t,O b2 n2 k2,O a' m' c',I s',O w ab y,O b' n' k',I t',O x ac aa,Z Y e1,Z Y e2,Z Y e3,Z Y e4]] rfl sM (by have:=Nn (w5.alloc (.cells #[Z Y nb,O a m c1,I s,O a2 m2 c2,O b1 n k,I t,O b2 n2 k2,O a' m' c',I s',O w ab y,O b' n' k',I t',O x ac aa,Z Y e1,Z Y e2,Z Y e3,Z Y e4] 79)) #[Z Y nb,O a m c1,I s,O a2 m2 c2,O b1 n k,I t,O b2 n2 k2,O a' m' c',I s',O w ab y,O b' n' k',I t',O x ac aa,Z Y e1,Z Y e2,Z Y e3,Z Y e4] 79;simpa only[wZ] using this) (by simp[Value.oneCell']) (by have:=aO.o;omega) (by simp only[wZ];omega) ?_;intro v' w9 l R bL;obtain⟨a9,n9,c9,rfl⟩:=l.i))
   ·go_roundg (ps.length+1-(i+1))
    case measure=>omega
    case rel =>
     obtain⟨be,K,aT⟩:=av (by assumption);exact xL aR aJ.o Hx.o aP HK.o (d.alloc _) (by simp only[wZ];omega) ai.o aL.o aM.o l R (aT.ext ((eR _).alloc _)) (by rw[ak.o,K])
   ·go_roundg (ps.length+1-(i+1))
    case measure=>omega
    case rel =>
     have K:=aS (by assumption);exact⟨i+1,by omega,by go_num,rfl,(Hx.o.trans d).alloc _,by have:=d.size;simp only[wZ];omega,((eR _).alloc _).e (d.e HK.o),by rw[ak.o,K,List.append_nil];exact(q.o.ext d).ext ((eR _).alloc _)⟩
  ·obtain rfl:i=ps.length+1:=oM;have q3:¬(((ps.length+1:Nat):Int)-1<(sn:Int)):=by have:=aj.o;omega
   go_wp2;exact HQ.o _ _ _ _ _ _ _ _ _ _ _ _ _ _ _ _ _ _ _ _ _ _ _ _ _ _ Hx.o q.o ⟨_,_,_,rfl⟩
def QA(w:X)(vg vp:J)(g:LP)(ps:List Pl)(a:Nat)(p:Pl)(pin:Int)(hg:Ja w vg g)(hp:Pd w vp ps)(aa:Gw w)(h0:Bb g ps=0)(ha:ps[a]?=N p)(ap:0<=pin)(aq:pin<=50)(T:Za g=true)(hok:∀q∈ps,Fa q=true)(ak:ps.length<=120):Calls Tryz.prog 16 #[.agg #[vg,vp],Z Y a,Z Y pin] w (Ik w (Ue g ps a p pin (ps.length+1))):=by have HL:=Aa (fun(W:X)(l:Ba w W)=>(ux W vg vp g ps (hg.f l) (hp.f l) (aa.ext l)).mono (fun e w' h=>h.resolve_left (fun h9=>h9.1 h0)));have HB:=Aa (fun(W:X)(l:Ba w W)(vs:J)(hs:Sb W vs ps)(b:Int)(u:-1<=b)(v:b<ps.length)=>IA W vg vs g ps a p b pin (hg.f l) hs ha T hok u v (by unfold Bd;omega));obtain⟨ga,gn,gc,rfl⟩:=La hg;obtain⟨pa,pn,au,rfl⟩:=La hp;have ab:=hp.len;have Hn:=Aa ab;have Hw:=Aa (fun(k:Nat)(h:ps.length=k)=>(show Vb k a pin=false by unfold Vb;have:=(lS.1 ha).1;simp;omega));clear ab;have hi:=(lS.1 ha).1;obtain⟨t,c⟩:=gX (Ue g ps a p pin);have r:=Aa (c▸jE g ps a p pin);have P:=Aa (c▸Uw g ps a p pin);have K:=Aa (show t 0=[] by rw[<-c];rfl);rw[c];obtain⟨af,m⟩:=gX (Qc g ps a p pin);rw[m]at HB r;obtain⟨R,hR⟩:=gX (Ik w (t (ps.length+1)));rw[hR];have HR:=Aa hR;clear hg hp aa h0 ha T hok hR c m;go_in;go_wp2_with(first|(go_at_call 49;refine cM (HL.o _ eA) ?_;rintro e y ⟨-,vs,rfl,i,j⟩;obtain⟨sa,k,sc,rfl⟩:=La i;obtain⟨ag,ai⟩:=j.cells;(have z3:=j.size);(simp only[wZ]at z3);(have al:Vb k a pin=false:=Hw.o k i.len.symm);(have s:=Aa i);clear i;(have an:w.heap.size<y.heap.size:=oM))|(go_at_call 71;(with_reducible refine(Et _ (O ga gn gc) sa k sc a pin ⟨_,_,_,rfl⟩).mono ?_);rw[al];rintro e w4 ⟨rfl,d⟩;obtain⟨ah,aj⟩:=d.cells;(have z4:=d.size);(simp only[wZ]at z4)));have X3:Ba w y:=((eR w).alloc _).trans j;have ao:=Aa (show k=ps.length from s.o.len);have K8:=d.e (aN y (.cells #[O ga gn gc,O sa k sc] 124));have S:Ba y w4:=((eR y).alloc _).trans d;obtain⟨b8,f⟩:=gX y.heap.size;have z:=Aa X3;have ad:=Aa f;have ar:w.heap.size<=b8:=oM;have am:b8+1<=w4.heap.size:=oM;rw[f]at K8;simp only[f];clear ag ai ah aj j d X3 f z3 z4 an;refine YN y w4 b8 (O ga gn gc) (O sa k sc) ps a pin t af _ _ _ _ _ _ _ _ _ _ _ _ _ _ _ _ _ _ _ _ _ _ _ _ _ _ _ _ _ _ _ _ _ _ _ _ _ _ _ _ _ _ _ ⟨_,_,_,rfl⟩ s.o ak r.o P.o K.o (fun W l b u v=>HB.o W (z.o.trans l) _ (s.o.f l) b u v) S am ad.o K8 ?_;intro W av aw ax ay az aA aB aC aD aE aF aG aH aI aJ aK aL aM aO aP aQ aR aS aT aU ac n x;obtain⟨va,vn,vc,rfl⟩:=x;have ae:=Aa ac;have Q:=Aa n;clear ac n K8 S HL HB r P K;go_wp2;rw[<-HR.o];exact⟨_,rfl,Q.o.mono oM,z.o.trans ae.o⟩
def IO{p:Pl}{t:LP}{b pin:Int}(ho:(Nb (Ea p) t).lo<(Nb (Ea p) t).hi)(c:pd (Nb (Ea p) t) pin=false):Of p t b pin=N ⟨b,(Wf (Nb (Ea p) t) pin).1,Yd (Ea p) (Wf (Nb (Ea p) t) pin).1,(Wf (Nb (Ea p) t) pin).2,Yd (Ea p) (Wf (Nb (Ea p) t) pin).2,Qa t (Wf (Nb (Ea p) t) pin).1 (Wf (Nb (Ea p) t) pin).2,Qa t (Wf (Nb (Ea p) t) pin).2 (Wf (Nb (Ea p) t) pin).2⟩:=by unfold Of Ac Wf;rw[if_pos ho,c,if_neg dM];rfl
def ZM{p:Pl}{t:LP}{b pin:Int}{c:Be}(h:Of p t b pin=N c):(Nb (Ea p) t).lo<(Nb (Ea p) t).hi/\pd (Nb (Ea p) t) pin=false:=by
 unfold Of at h;by_cases ho:(Nb (Ea p) t).lo<(Nb (Ea p) t).hi
 ·rw[if_pos ho]at h;unfold Ac at h;cases hno:pd (Nb (Ea p) t) pin with
  | true=>rw[hno]at h;cases h
  | false=>exact⟨ho,rfl⟩
 ·rw[if_neg ho]at h;cases h
section
variable {g:LP} {ps:List Pl} (hg:Gc g) (ng:g≠[]) (hok:∀p∈ps,Fa p=true) {a:Nat} {p:Pl} (hp:ps[a]?=N p)
include hg ng hok hp
end
end
section
open Go.RowKit Go.Shelf Go.Sort Go.Lib Go.Maps
end
section
open Go.RowKit Go.Shelf Go.Sort
def Dg{α:Type}(f:α->Rat):List α->Rat
 | []=>0
 | x::xs=>xs.foldl (fun o y=>if Eb (f y) o<0 then f y else o) (f x)
def xw{α:Type}(f:α->Rat):∀{l:List α},l≠[]->(∃x∈l,Dg f l=f x)/\∀x∈l,Dg f l<=f x
 | [],h=>absurd rfl h
 | x::xs,_=>by
  have k:∀(e:List α)(o:Rat),(e.foldl (fun o y=>if Eb (f y) o<0 then f y else o) o=o\/∃y∈e,e.foldl (fun o y=>if Eb (f y) o<0 then f y else o) o=f y)/\e.foldl (fun o y=>if Eb (f y) o<0 then f y else o) o<=o/\∀y∈e,e.foldl (fun o y=>if Eb (f y) o<0 then f y else o) o<=f y:=by
   intro e;induction e with
   | nil=>intro o;exact⟨.inl rfl,Rat.le_refl,fun y n=>by cases n⟩
   | cons y e m =>
    intro o;rw[List.foldl_cons];by_cases c:Eb (f y) o<0
    ·rw[if_pos c];have hc:=(Kn _ _).1 c;obtain⟨b,i,j⟩:=m (f y);refine⟨.inr ?_,Rat.le_trans i (Rat.le_of_lt hc),fun z d=>?_⟩
     ·rcases b with b|⟨z,d,b⟩
      ·exact⟨y,by simp,b⟩
      ·exact⟨z,mC _ d,b⟩
     ·rcases List.mem_cons.1 d with rfl|d
      ·exact i
      ·exact j z d
    ·rw[if_neg c];have hc:o<=f y:=Rat.not_lt.1 fun h=>c ((Kn _ _).2 h);obtain⟨b,i,j⟩:=m o;refine⟨?_,i,fun z d=>?_⟩
     ·rcases b with b|⟨z,d,b⟩
      ·exact .inl b
      ·exact .inr ⟨z,mC _ d,b⟩
     ·rcases List.mem_cons.1 d with rfl|d
      ·exact Rat.le_trans i hc
      ·exact j z d
  obtain⟨b,i,j⟩:=k xs (f x);refine⟨?_,fun z d=>?_⟩
  ·rcases b with b|⟨z,d,b⟩
   ·exact⟨x,by simp,b⟩
   ·exact⟨z,mC _ d,b⟩
  ·rcases List.mem_cons.1 d with rfl|d
   ·exact i
   ·exact j z d
def Xf(l t:LP):Rat:=(Ma (Nb l t)).2
def qe(g:LP)(ps:List Pl)(p:Pl):List LP:=g::(ps.filter fun o=>sd p o&&jf p o==3).map Pb
def qg(g:LP)(ps:List Pl)(p:Pl):Rat:=Dg (Xf (Ea p)) (qe g ps p)
def UB{l t:LP}(h:(Nb l t).lo<(Nb l t).hi):re l t=true ↔ 0<=Xf l t:=by unfold re Xf;rw[if_pos h,decide_eq_true_eq];exact⟨jI,fun h=>Int.sign_nonneg_iff.2 (Rat.num_nonneg.2 h)⟩
section
variable {p o:Pl} (hp:Fa p=true) (ho:Fa o=true)
include hp ho
theorem yK(c:¬Ya (Ea p)<=Ra (Ea o))(d:¬Ya (Ea o)<=Ra (Ea p)):(Nb (Ea p) (Pb o)).lo<(Nb (Ea p) (Pb o)).hi:=by have a:=Ro hp;have b:=Ro ho;unfold Nb;dsimp only;omega
theorem DC(h:jf p o=3):(Nb (Ea p) (Pb o)).lo<(Nb (Ea p) (Pb o)).hi/\0<=Xf (Ea p) (Pb o):=by
 unfold jf at h;split at h
 ·omega
 ·rename_i h1;split at h
  ·omega
  ·rename_i h2;have b:=yK hp ho h1 h2;split at h
   ·rename_i h3;exact⟨b,(UB b).1 h3⟩
   ·split at h<;>omega
end
def tg(g:LP)(ps:List Pl)(p:Pl):Int:=(qg g ps p).floor
set_option linter.unusedSectionVars false
section
variable {g:LP} {ps:List Pl} {p:Pl} (h0:Bb g ps=0) (hp:Fa p=true) (hh:Vc g p=true) (hc:Fd g ps p=true)
include h0 hp hh hc
theorem MD:(Nb (Ea p) g).lo<(Nb (Ea p) g).hi:=by have a:=Ro hp;unfold Vc at hh;simp only[Bool.and_eq_true,decide_eq_true_eq]at hh;unfold Nb;dsimp only;omega
theorem VC:∀t∈qe g ps p,0<=Xf (Ea p) t:=by
 intro t c;unfold qe at c;rcases List.mem_cons.1 c with rfl|c
 ·refine(UB (MD h0 hp hh hc)).1 ?_;unfold Fd at hc;rw[Bool.and_eq_true]at hc;exact hc.1
 ·obtain⟨o,ho,rfl⟩:=List.mem_map.1 c;obtain⟨d,b⟩:=List.mem_filter.1 ho;rw[Bool.and_eq_true,beq_iff_eq]at b;exact(DC hp ((On h0).1 o d) b.2).2
theorem YH:0<=tg g ps p:=by unfold tg;rw[Rat.le_floor_iff];obtain⟨⟨t,b,e⟩,_⟩:=xw (Xf (Ea p)) (l:=qe g ps p) (by unfold qe;simp);unfold qg;rw[e,Rat.intCast_zero];exact VC h0 hp hh hc t b
end
def yj:(0:Rat)<1/2:=by decide +kernel
