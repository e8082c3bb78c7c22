/- Part 31: contracts of what the law calls. -/
import Derived.Test.YtodpfeaihohpjaaGreatDoorCopA26
import Derived.Test.YtodpfeaihohpjaaGreatDoorCopA13
import Derived.Test.YtodpfeaihohpjaaGreatDoorCopA16
import Derived.Test.YtodpfeaihohpjaaGreatDoorCopA24
import Derived.Test.YtodpfeaihohpjaaGreatDoorCopA15
import Derived.Test.YtodpfeaihohpjaaGreatDoorCopA23
import Derived.Test.YtodpfeaihohpjaaGreatDoorCopA21
import Derived.Test.YtodpfeaihohpjaaGreatDoorCopA22
set_option maxRecDepth 1000000
set_option maxHeartbeats 16000000
set_option linter.unusedSimpArgs false
set_option linter.unusedVariables false
open Go renaming World→O,Value→V
open Go.Value renaming slice→Y,int→Z,agg→M
open Go.IntKind renaming i64→X
open Option renaming none→I,some→N
namespace Go.Proofs.YtodpfeaihohpjaaGreatDoor.Cop
section
open Go.RowKit Go.Shelf Go.Sort Go.Lib
attribute [local go_sem] Oper.semAt_some
theorem znG {n:Int} (h:Bd 1000000 n):Lm limA n:=Lm.mono (j:=1) (by unfold Lm B;unfold Bd at h;simp;omega) dM
theorem ziQ (w:O) (n d:Int) (j:Bd 1000000 n) (i:Bd 1000000 d) :
  Calls Tryz.prog 25 #[Z X n,Z X d] w fun e y=>∃r,e = .returned (.tuple #[r,Z X (if d=0 then 9 else 0)])∧IsR y r (Rat.divInt n d)∧Ext w y:=by
 have K:=hd9 (fun(W:O)=>zcZ W n (by unfold Bd at j;omega) (by unfold Bd at j;omega));have D:=hd9 (fun(W:O)=>zcZ W d (by unfold Bd at i;omega) (by unfold Bd at i;omega));have s:=hd9 (fun(W:O) (u x:V) (h1:IsZ W u n) (h2:IsZ W x d)=>zj0 W u x n d h1 h2 (znG j) (znG i));obtain⟨k,t⟩:∃k:Int,(if d=0 then 9 else 0)=k:=⟨_,rfl⟩;rw [t]at s ⊢;clear t j i;go_enter Tryz.func25,Tryz.ntmps25
 go_wp2_with(first|(go_at_call 69;(with_reducible refine(K.out _).mono ?_);rintro e w1 ⟨r1,rfl,a,p⟩;obtain⟨a1,m1,c1,s1,rfl⟩:=a.form;obtain⟨⟨l,aa⟩,g⟩:=cK1 w p)|(go_at_call 69;(with_reducible refine(D.out _).mono ?_);rintro e w2 ⟨r2,rfl,b,f⟩;obtain⟨a2,m2,c2,s2,rfl⟩:=b.form;obtain⟨⟨m,ab⟩,h⟩:=cK1 w f)|(go_at_call 81;(with_reducible refine(s.out _ _ _ (a.ext f) b).mono ?_);rintro e w3 ⟨r3,rfl,c,q⟩;obtain⟨P,m3,T,s3,Q,n3,k3,rfl⟩:=c.form;obtain⟨⟨o,ac⟩,z⟩:=cK1 w q))
 refine bR (v:=.tuple #[M #[Y P m3 T,.bool s3,Y Q n3 k3],Z X k]) (by simp [results,Tryz.results25,go_sem,l,m,o,g,h]) rfl ⟨_,rfl,c.keep kA,eA⟩
theorem zn0 {a b n:Int} (h:a≤b) (g:0≤n) (i:n≤100):(a:Rat)≤(a:Rat)+((b-a:Int):Rat)*Rat.divInt n 100∧(a:Rat)+((b-a:Int):Rat)*Rat.divInt n 100≤(b:Rat):=by
 have e:Rat.divInt n 100*((100:Int):Rat)=(n:Rat):=by rw [Rat.divInt_eq_div];exact Rat.div_mul_cancel dM
 have q:(0:Rat)≤(n:Rat):=Rat.intCast_le_intCast.2 g;have m:(n:Rat)≤((100:Int):Rat):=Rat.intCast_le_intCast.2 i;obtain⟨s,j⟩:=gX (Rat.divInt n 100);rw [j]at e ⊢;have d:((100:Int):Rat)=100:=rfl;rw [d]at e m;have o:0≤s:=by grind
 have p:0≤1-s:=by grind
 have c:(0:Rat)≤((b-a:Int):Rat):=Rat.intCast_le_intCast.2 (Int.sub_nonneg.2 h);have f:((b-a:Int):Rat)=(b:Rat)-(a:Rat):=by rw [Rat.intCast_sub]
 have k:=Rat.mul_nonneg c o;have l:=Rat.mul_nonneg c p;rw [f]at k l ⊢
 grind
theorem zne {a b n:Int} (e:Bd 1000000 a) (f:Bd 1000000 (b-a)) (g:Bd 1000000 n):Rb 2 (Rat.divInt n 100)∧Rb 3 (((b-a:Int):Rat)*Rat.divInt n 100)∧Rb 7 ((a:Rat)+((b-a:Int):Rat)*Rat.divInt n 100):=by
 have c:Rb 2 (Rat.divInt n 100):=by rw [Rat.divInt_eq_div];exact Rb.div (zau g) (zau (k:=1000) (by unfold Bd;omega)) dM
 have d:Rb 3 (((b-a:Int):Rat)*Rat.divInt n 100):=Rb.mul (zau f) c;exact⟨c,d,Rb.add (k:=3) (Rb.up (zau e) dM) d⟩
def mnX (c0:Int) (l:List (Int×Int)):Int:=l.foldl (fun m c=>min m c.1) c0
def mxX (c0:Int) (l:List (Int×Int)):Int:=l.foldl (fun m c=>max m c.1) c0
theorem znT (l:List (Int×Int)):∀c0,mnX c0 l≤c0∧(∀c∈l,mnX c0 l≤c.1)∧(mnX c0 l=c0∨∃c∈l,mnX c0 l=c.1):=by
 induction l with
 | nil=>intro c0;exact⟨Int.le_refl _,fun c h=>(nomatch h),.inl rfl⟩
 | cons d l g =>
  intro c0;obtain⟨i,f,b⟩:=g (min c0 d.1);have e:mnX c0 (d::l)=mnX (min c0 d.1) l:=rfl;rw [e];refine⟨by omega,fun c a=>?_,?_⟩
  ·rcases List.mem_cons.1 a with rfl|a
   ·omega
   ·exact f c a
  ·rcases b with b|⟨c,a,b⟩
   ·by_cases h:c0≤d.1
    ·exact .inl oM
    ·exact .inr ⟨d,List.mem_cons_self,by omega⟩
   ·exact .inr ⟨c,mC _ a,b⟩
theorem znV (l:List (Int×Int)):∀c0,c0≤mxX c0 l∧(∀c∈l,c.1≤mxX c0 l)∧(mxX c0 l=c0∨∃c∈l,mxX c0 l=c.1):=by
 induction l with
 | nil=>intro c0;exact⟨Int.le_refl _,fun c h=>(nomatch h),.inl rfl⟩
 | cons d l g =>
  intro c0;obtain⟨i,f,b⟩:=g (max c0 d.1);have e:mxX c0 (d::l)=mxX (max c0 d.1) l:=rfl;rw [e];refine⟨by omega,fun c a=>?_,?_⟩
  ·rcases List.mem_cons.1 a with rfl|a
   ·omega
   ·exact f c a
  ·rcases b with b|⟨c,a,b⟩
   ·by_cases h:d.1≤c0
    ·exact .inl oM
    ·exact .inr ⟨d,List.mem_cons_self,by omega⟩
   ·exact .inr ⟨c,mC _ a,b⟩
theorem zhw {c0:Int} {l:List (Int×Int)} {m:Nat} {c:Int×Int} (h:l[m]?=N c):mnX c0 (l.take (m+1))=min (mnX c0 (l.take m)) c.1:=by
 unfold mnX;rw [List.take_add_one,h];simp [List.foldl_append]
theorem zhx {c0:Int} {l:List (Int×Int)} {m:Nat} {c:Int×Int} (h:l[m]?=N c):mxX c0 (l.take (m+1))=max (mxX c0 (l.take m)) c.1:=by
 unfold mxX;rw [List.take_add_one,h];simp [List.foldl_append]
theorem zjV {p:Pl} (h:placedOk p=true) {c:Int×Int} (r:c∈cornersP p):mnX c.1 (cornersP p)=lineL (lowP2 p)∧mxX c.1 (cornersP p)=lineR (lowP2 p):=by
 obtain⟨_,_,_,u,_⟩:=zag h;have hv:=zaQ h;obtain⟨v,g,-⟩:=zam h;obtain⟨⟨s,j,y⟩,⟨t,k,z⟩,n⟩:=v.ends u;obtain⟨a,o,e⟩:=hv.minLow;obtain⟨b,q,f⟩:=hv.maxLow;have D:=n a ((g a).2 o);have K:=n b ((g b).2 q);have P:=e s ((g s).1 j).mem;have Q:=f t ((g t).1 k).mem;obtain⟨T,w,l⟩:=znT (cornersP p) c.1;obtain⟨y1,x,m⟩:=znV (cornersP p) c.1;have W:=w a o.mem;have y4:=x b q.mem;have x5:=e c r;have y5:=f c r;refine⟨?_,?_⟩
 ·rcases l with l|⟨d,i,l⟩
  ·omega
  ·have:=e d i
   omega
 ·rcases m with m|⟨d,i,m⟩
  ·omega
  ·have:=f d i
   omega
def InQ (d e f g b c:V) (a:Act):Prop:=a.tmps.size=272∧a.tmps.getD 2 undef=d∧a.tmps.getD 7 undef=e∧a.tmps.getD 8 undef=f∧a.tmps.getD 9 undef=g∧a.tmps.getD 19 undef=b∧a.tmps.getD 21 undef=c∧a.defers=[]
def Mm0 (k:O) (e f g h b c i j:V) (cs:List (Int×Int)) (c0:Int) (d:Nat) (a:Act) (W:O):Prop:=
 (∃m:Nat,m≤cs.length∧a.tmps.getD 25 undef=Z X (m:Nat)∧a.tmps.getD 23 undef=Z X (mnX c0 (cs.take m))∧a.tmps.getD 24 undef=Z X (mxX c0 (cs.take m))∧a.tmps.getD 26 undef=i∧a.tmps.getD 27 undef=j∧d=cs.length-m∧Ext k W)∧InQ e f g h b c a
theorem mm_0 (Q:Exit→Act→O→Prop) (w5:O) (p2 p7 p8 p9 l n pu pv:V) (cs:List (Int×Int)) (c0:Int) (y:IsPts w5 l cs)
  (a0:Act) (h0:InQ p2 p7 p8 p9 l n a0) (hi:a0.tmps.getD 25 undef=Z X (0:Nat)) (p:a0.tmps.getD 23 undef=Z X c0) (hy:a0.tmps.getD 24 undef=Z X c0) (z:a0.tmps.getD 26 undef=pu) (hv:a0.tmps.getD 27 undef=pv)
  (q:∀(c:List PanicEntry) (a:Act) (d:Option Nat) (v:V) (w:O),Q (.panic c) (a.put d v) w→Q (.panic c) a w)
  (hQ:∀a' W,InQ p2 p7 p8 p9 l n a'→a'.tmps.getD 23 undef=Z X (mnX c0 cs)→a'.tmps.getD 24 undef=Z X (mxX c0 cs)→a'.tmps.getD 26 undef=pu→a'.tmps.getD 27 undef=pv→Ext w5 W→Q (.exit 0) a' W) :
  (Code.loop (loopAt Tryz.f6 0)).wp Tryz.prog Q a0 w5:=by
 obtain⟨ga,j,gc,rfl⟩:=form3 y;have hl:=Sl.len y;have x:=y.le;unfold maxLen at x;have ad:j≤9223372036854775807:=oM
 have HQ:=hd9 hQ;have b:=hd9 q;have Hs:=hd9 y;have g:=hd9 hl.symm;clear hQ q y hl x;unfold loopAt;simp only [Tryz.f6,loopsOf,List.cons_append,List.nil_append,List.append_nil,List.getD_cons_succ,List.getD_cons_zero];refine wp_loop_ghost_k (Mm0 w5 p2 p7 p8 p9 (Y ga j gc) n pu pv cs c0) j ⟨⟨0,Nat.zero_le _,hi,p,hy,z,hv,by rw [g.out];rfl,eR _⟩,h0⟩ ?round;clear hi p hy z hv h0;intro gk aa wr hinv;obtain⟨tt,dd⟩:=aa;obtain⟨⟨m,hm,fi,fx,fy,fu,fv,rfl,p⟩,f0,D,P,T,f9,e,f,r⟩:=hinv;dsimp only at f0 D P T f9 e f fi fx fy fu fv r;subst r;obtain⟨u,z,ht⟩:=arrU tt 272 f0;simp only [z]at D P T f9 e f fi fx fy fu fv;clear z f0;subst ht;simp only [List.range,List.range.loop,List.map_cons,List.map_nil,D,P,T,f9,e,f,fi,fx,fy,fu,fv];clear D P T f9 e f fi fx fy fu fv;intro J K hJ hK;have Hx:=hd9 p;rw [g.out]at hm
 by_cases ac:m<j
 ·obtain⟨k,hk⟩:∃k,cs[m]?=N k:=⟨cs[m]'(by rw [g.out];exact ac),gE _⟩
  have s1:=zhw (c0:=c0) hk;have s2:=zhx (c0:=c0) hk;obtain⟨hh,o,rfl,hb,d0,d1⟩:=(Hs.out.ext' p).at' hk;obtain⟨e1,s⟩:=gX (mnX c0 (cs.take m));obtain⟨e2,t⟩:=gX (mxX c0 (cs.take m));rw [s]at s1 ⊢;rw [t]at s2 ⊢;have S1:=hd9 s1;have S2:=hd9 s2;have p0:(0:Int)≤(m:Int):=oM
  have ae:(m:Int)<(j:Int):=oM
  clear p hk s t s1 s2 d1
  go_upto_region 20 with fail
  refine wp_region_held_drew (S:=CellL [(⟨hh,o+m*2,I⟩,Z X k.1)]) kM (by exact⟨by simpa using d0,trivial⟩) (fun ab=>?_);refine tk1 (i:=0) (h4:=fun _ _ _ h=>b.out _ _ _ _ _ h) ?_;refine tk1 (i:=1) (h4:=fun _ _ _ h=>b.out _ _ _ _ _ h) ?_;refine tk1 (i:=2) (h4:=fun _ _ _ h=>b.out _ _ _ _ _ h) ?_;refine tk1 (i:=3) (h4:=fun _ _ _ h=>b.out _ _ _ _ _ h) ?_;refine tk1 (i:=4) (h4:=fun _ _ _ h=>b.out _ _ _ _ _ h) ?_;refine tk1 (i:=5) (h4:=fun _ _ _ h=>b.out _ _ _ _ _ h) ?_;refine tk1 (i:=6) (h4:=fun _ _ _ h=>b.out _ _ _ _ _ h) ?_;refine tk1 (i:=7) (h4:=fun _ _ _ h=>b.out _ _ _ _ _ h) ?_;refine tk1 (i:=8) (h4:=fun _ _ _ h=>b.out _ _ _ _ _ h) ?_;refine tk1 (i:=9) (h4:=fun _ _ _ h=>b.out _ _ _ _ _ h) ?_;refine tk1 (i:=10) (h4:=fun _ _ _ h=>b.out _ _ _ _ _ h) ?_;refine tk1 (i:=11) (h4:=fun _ _ _ h=>b.out _ _ _ _ _ h) ?_;refine tk1 (i:=12) (h4:=fun _ _ _ h=>b.out _ _ _ _ _ h) ?_;refine tk1 (i:=13) (h4:=fun _ _ _ h=>b.out _ _ _ _ _ h) ?_;refine tk1 (i:=14) (h4:=fun _ _ _ h=>b.out _ _ _ _ _ h) ?_;refine tk1 (i:=15) (h4:=fun _ _ _ h=>b.out _ _ _ _ _ h) ?_;refine wpAnyH_done kM ?_ _;clear ab d0;go_wp2;refine Handed.intro (j-(m+1)) (by have:=g.out;omega) (hJ _ _ _ ⟨⟨m+1,by have:=g.out;omega,?_,by rw [S1.out];rfl,by rw [S2.out];rfl,rfl,rfl,by rw [g.out],Hx.out.drew⟩,⟨rfl,rfl,rfl,rfl,rfl,rfl,rfl,rfl⟩⟩)
  show (_:V)=_
  go_num
 ·obtain rfl:m=j:=oM
  rw [show cs.take m=cs from lT (by rw [g.out];exact nE _)];go_wp2;exact HQ.out _ _ ⟨rfl,rfl,rfl,rfl,rfl,rfl,rfl,rfl⟩ rfl rfl rfl rfl Hx.out
def Mm1 (k:O) (e f g h b c i j:V) (cs:List (Int×Int)) (c0:Int) (d:Nat) (a:Act) (W:O):Prop:=
 (∃m:Nat,m≤cs.length∧a.tmps.getD 28 undef=Z X (m:Nat)∧a.tmps.getD 26 undef=Z X (mnX c0 (cs.take m))∧a.tmps.getD 27 undef=Z X (mxX c0 (cs.take m))∧a.tmps.getD 23 undef=i∧a.tmps.getD 24 undef=j∧d=cs.length-m∧Ext k W)∧InQ e f g h b c a
theorem mm_1 (Q:Exit→Act→O→Prop) (w5:O) (p2 p7 p8 p9 l n pu pv:V) (cs:List (Int×Int)) (c0:Int) (y:IsPts w5 n cs)
  (a0:Act) (h0:InQ p2 p7 p8 p9 l n a0) (hi:a0.tmps.getD 28 undef=Z X (0:Nat)) (p:a0.tmps.getD 26 undef=Z X c0) (hy:a0.tmps.getD 27 undef=Z X c0) (z:a0.tmps.getD 23 undef=pu) (hv:a0.tmps.getD 24 undef=pv)
  (q:∀(c:List PanicEntry) (a:Act) (d:Option Nat) (v:V) (w:O),Q (.panic c) (a.put d v) w→Q (.panic c) a w)
  (hQ:∀a' W,InQ p2 p7 p8 p9 l n a'→a'.tmps.getD 26 undef=Z X (mnX c0 cs)→a'.tmps.getD 27 undef=Z X (mxX c0 cs)→a'.tmps.getD 23 undef=pu→a'.tmps.getD 24 undef=pv→Ext w5 W→Q (.exit 2) a' W) :
  (Code.loop (loopAt Tryz.f6 1)).wp Tryz.prog Q a0 w5:=by
 obtain⟨ga,j,gc,rfl⟩:=form3 y;have hl:=Sl.len y;have x:=y.le;unfold maxLen at x;have ad:j≤9223372036854775807:=oM
 have HQ:=hd9 hQ;have b:=hd9 q;have Hs:=hd9 y;have g:=hd9 hl.symm;clear hQ q y hl x;unfold loopAt;simp only [Tryz.f6,loopsOf,List.cons_append,List.nil_append,List.append_nil,List.getD_cons_succ,List.getD_cons_zero];refine wp_loop_ghost_k (Mm1 w5 p2 p7 p8 p9 l (Y ga j gc) pu pv cs c0) j ⟨⟨0,Nat.zero_le _,hi,p,hy,z,hv,by rw [g.out];rfl,eR _⟩,h0⟩ ?round;clear hi p hy z hv h0;intro gk aa wr hinv;obtain⟨tt,dd⟩:=aa;obtain⟨⟨m,hm,fi,fx,fy,fu,fv,rfl,p⟩,f0,D,P,T,f9,e,f,r⟩:=hinv;dsimp only at f0 D P T f9 e f fi fx fy fu fv r;subst r;obtain⟨u,z,ht⟩:=arrU tt 272 f0;simp only [z]at D P T f9 e f fi fx fy fu fv;clear z f0;subst ht;simp only [List.range,List.range.loop,List.map_cons,List.map_nil,D,P,T,f9,e,f,fi,fx,fy,fu,fv];clear D P T f9 e f fi fx fy fu fv;intro J K hJ hK;have Hx:=hd9 p;rw [g.out]at hm
 by_cases ac:m<j
 ·obtain⟨k,hk⟩:∃k,cs[m]?=N k:=⟨cs[m]'(by rw [g.out];exact ac),gE _⟩
  have s1:=zhw (c0:=c0) hk;have s2:=zhx (c0:=c0) hk;obtain⟨hh,o,rfl,hb,d0,d1⟩:=(Hs.out.ext' p).at' hk;obtain⟨e1,s⟩:=gX (mnX c0 (cs.take m));obtain⟨e2,t⟩:=gX (mxX c0 (cs.take m));rw [s]at s1 ⊢;rw [t]at s2 ⊢;have S1:=hd9 s1;have S2:=hd9 s2;have p0:(0:Int)≤(m:Int):=oM
  have ae:(m:Int)<(j:Int):=oM
  clear p hk s t s1 s2 d1
  go_upto_region 25 with fail
  refine wp_region_held_drew (S:=CellL [(⟨hh,o+m*2,I⟩,Z X k.1)]) kM (by exact⟨by simpa using d0,trivial⟩) (fun ab=>?_);refine tk1 (i:=0) (h4:=fun _ _ _ h=>b.out _ _ _ _ _ h) ?_;refine tk1 (i:=1) (h4:=fun _ _ _ h=>b.out _ _ _ _ _ h) ?_;refine tk1 (i:=2) (h4:=fun _ _ _ h=>b.out _ _ _ _ _ h) ?_;refine tk1 (i:=3) (h4:=fun _ _ _ h=>b.out _ _ _ _ _ h) ?_;refine tk1 (i:=4) (h4:=fun _ _ _ h=>b.out _ _ _ _ _ h) ?_;refine tk1 (i:=5) (h4:=fun _ _ _ h=>b.out _ _ _ _ _ h) ?_;refine tk1 (i:=6) (h4:=fun _ _ _ h=>b.out _ _ _ _ _ h) ?_;refine tk1 (i:=7) (h4:=fun _ _ _ h=>b.out _ _ _ _ _ h) ?_;refine tk1 (i:=8) (h4:=fun _ _ _ h=>b.out _ _ _ _ _ h) ?_;refine tk1 (i:=9) (h4:=fun _ _ _ h=>b.out _ _ _ _ _ h) ?_;refine tk1 (i:=10) (h4:=fun _ _ _ h=>b.out _ _ _ _ _ h) ?_;refine tk1 (i:=11) (h4:=fun _ _ _ h=>b.out _ _ _ _ _ h) ?_;refine tk1 (i:=12) (h4:=fun _ _ _ h=>b.out _ _ _ _ _ h) ?_;refine tk1 (i:=13) (h4:=fun _ _ _ h=>b.out _ _ _ _ _ h) ?_;refine tk1 (i:=14) (h4:=fun _ _ _ h=>b.out _ _ _ _ _ h) ?_;refine tk1 (i:=15) (h4:=fun _ _ _ h=>b.out _ _ _ _ _ h) ?_;refine wpAnyH_done kM ?_ _;clear ab d0;go_wp2;refine Handed.intro (j-(m+1)) (by have:=g.out;omega) (hJ _ _ _ ⟨⟨m+1,by have:=g.out;omega,?_,by rw [S1.out];rfl,by rw [S2.out];rfl,rfl,rfl,by rw [g.out],Hx.out.drew⟩,⟨rfl,rfl,rfl,rfl,rfl,rfl,rfl,rfl⟩⟩)
  show (_:V)=_
  go_num
 ·obtain rfl:m=j:=oM
  rw [show cs.take m=cs from lT (by rw [g.out];exact nE _)];go_wp2;exact HQ.out _ _ ⟨rfl,rfl,rfl,rfl,rfl,rfl,rfl,rfl⟩ rfl rfl rfl rfl Hx.out
end
section
open Go.RowKit Go.Shelf Go.Sort
theorem zkk (W:O) {k:Nat} (d:k=W.heap.size) (ps:List (Int×Int)) (e:ps.length≤1000) :
  IsPts (W.alloc (.cells (ps.map pc).flatten.toArray 33)) (Y (N ⟨k,0,I⟩) ps.length ps.length) ps:=by
 subst d
 exact⟨ps.map pc,by simp,zf7,⟨by rw [zaq zf7];simp,N ⟨W.heap.size,0,I⟩,ps.length,rfl,nE _,by unfold maxLen;omega,.inr ⟨W.heap.size,0,_,(0,0),rfl,aN _ _,fun i x a=>by simpa using a⟩⟩,
  fun i c x b a=>by rw [lP,a]at b;cases b;rfl⟩
theorem zkc (W:O) {k base:Nat} (l:k=W.heap.size) (j:base≤W.heap.size) (b:List (Pl×V)) (m:∀q∈b,IsPts W q.2 q.1.shape∧0≤q.1.skin) (n:b.length≤1000) :
  OwnPl (W.alloc (.cells (b.map fun q=>(plc q.1 q.2).toList).flatten.toArray 37)) base (Y (N ⟨k,0,I⟩) b.length b.length) (b.map Prod.fst):=by
 subst l
 have d:∀c∈(b.map fun q=>(plc q.1 q.2).toList),c.length=10:=fun c g=>by
  obtain⟨q,_,rfl⟩:=List.mem_map.1 g;rfl
 have a:=zaq d;rw [lL]at a;refine⟨b.map fun q=>(plc q.1 q.2).toList,⟨d,by rw [a,lL],.inr ⟨W.heap.size,b.length,_,by rw [lL],j,aN _ _,by rw [lL];exact nE _,by unfold maxLen;omega,by rw [List.size_toArray,a],by rw [lL,←a];exact List.take_length⟩⟩,by simp,?_⟩;intro i c x g h;rw [lP,Option.map_eq_some_iff]at g h;obtain⟨q,e,rfl⟩:=g;obtain⟨o,f,rfl⟩:=h;rw [e]at f
 cases f
 have:=m q (lM e);exact⟨q.2,rfl,this.1.ext' ((eR W).alloc _),this.2⟩
def brickS:List (Int×Int):=[(0,0),(200,0),(200,80),(0,80)]
theorem zh0 (w:O):Calls Tryz.prog 91 #[] w fun e a=>∃v,e = .returned (M #[.string ⟨#[98,114,105,99,107]⟩,v,Z X 100,Z X 2400,Z X 1,Z X 0])∧IsPts a v brickS∧Ext w a:=by
 go_enter Tryz.func91,Tryz.ntmps91;go_wp2;refine bR (v:=M #[.string ⟨#[98,114,105,99,107]⟩,Y (N ⟨w.heap.size+1,0,I⟩) 4 4,Z X 100,Z X 2400,Z X 1,Z X 0]) (by simp [results,Tryz.results91,go_sem]) rfl ⟨_,rfl,?_,eA⟩;exact zkk _ sM brickS dM
def brickP (a:ByteArray) (x z:Int):Pl:=⟨a,brickS,100,2400,1,0,0,x,z,1⟩
def exG:List (Int×Int):=[(-1000,0),(1000,0)]
theorem zao {W:O} {b:Nat} {cs:Array V} {T:TypeId} {a:Nat×Nat} (h:W.heap[b]?=N (.cells cs T a)) (i:Nat) (u:V):(W.setCell ⟨b,i,I⟩ u).heap[b]?=N (.cells (cs.setIfInBounds i u) T a):=by
 simp [World.setCell,Array.getElem?_modify,h]
end
section
open Go.RowKit Go.Shelf Go.Sort Go.Lib
theorem zby {l m:List (Int×Int)} (s:l.Perm m) (q:∀x∈l,BP x) (c:m.Pairwise fun x y=>x.1<y.1):sortX l=m:=by
 have n:=zcB q;have f:=(zba l).trans s;refine List.Perm.eq_of_pairwise (le:=fun x y=>x.1≤y.1) ?_ n (c.imp fun h=>by omega) f;intro a b o e p r;have d:a∈m:=f.mem_iff.1 o;obtain⟨i,g,rfl⟩:=List.getElem_of_mem d;obtain⟨j,k,rfl⟩:=List.getElem_of_mem e;rw [List.pairwise_iff_getElem]at c
 rcases Nat.lt_trichotomy i j with h|h|h
 ·have:=c i j g k h;omega
 ·subst h;rfl
 ·have:=c j i k g h;omega
def insI (z:Int):List Int→List Int
 | []=>[z]
 | y::ys=>if z≤y then z::y::ys else y::insI z ys
def sortI:List Int→List Int
 | []=>[]
 | z::zs=>insI z (sortI zs)
theorem zdX (z:Int):∀ys,(insI z ys).Perm (z::ys)
 | []=>List.Perm.refl _
 | y::ys=>by
  unfold insI
  split
  ·exact List.Perm.refl _
  ·exact((zdX z ys).cons y).trans (List.Perm.swap _ _ _)
theorem zeV (z:Int):∀ys,ys.Pairwise (fun x y:Int=>x≤y)→(insI z ys).Pairwise (fun x y:Int=>x≤y)
 | [],_=>by unfold insI;exact List.pairwise_singleton _ _
 | y::ys,h=>by
  obtain⟨c,d⟩:=List.pairwise_cons.1 h;unfold insI
  split
  ·rename_i hz
   refine List.pairwise_cons.2 ⟨fun a b=>?_,h⟩
   rcases List.mem_cons.1 b with rfl|b
   ·exact hz
   ·exact Int.le_trans hz (c a b)
  ·rename_i hz
   refine List.pairwise_cons.2 ⟨fun a b=>?_,zeV z ys d⟩
   rcases List.mem_cons.1 ((zdX z ys).mem_iff.1 b)with rfl|b
   ·omega
   ·exact c a b
theorem zfa:∀zs,(sortI zs).Perm zs
 | []=>List.Perm.refl _
 | z::zs=>(zdX z _).trans ((zfa zs).cons z)
theorem zer:∀zs,(sortI zs).Pairwise (fun x y:Int=>x≤y)
 | []=>List.Pairwise.nil
 | z::zs=>zeV z _ (zer zs)
theorem zcN:isort=sortI:=by
 funext zs
 unfold isort;refine List.Perm.eq_of_pairwise (le:=fun x y:Int=>x≤y) (fun a b _ _ d e=>Int.le_antisymm d e) ?_ (zer zs) ((List.mergeSort_perm zs _).trans (zfa zs).symm);have:=List.pairwise_mergeSort (le:=fun x y:Int=>decide (x≤y)) (fun a b c d e=>by simp at *;omega) (fun a b=>by simp;omega) zs;exact this.imp fun h=>by simpa using h
end
section
open Go.RowKit Go.Shelf Go.Sort
theorem zgD {g:List (Int×Int)} (h:groundB g=true):Rise g:=by
 unfold groundB at h;rw [Bool.and_eq_true,List.all_eq_true]at h;obtain⟨n,f⟩:=h
 have c:∀i,(hi:i+1<g.length)→g[i].1<g[i+1].1:=fun i hi=>by
  have a:=f (i+1) (List.mem_range.2 hi);unfold grdR at a;rw [Nat.add_sub_cancel,gD,gE hi,Option.getD_some,gD,gE oM,Option.getD_some]at a;simp only [Bool.and_eq_true,Bool.or_eq_true,beq_iff_eq,decide_eq_true_eq]at a
  rcases a.2.2 with b|b
  ·omega
  ·exact b
 unfold Rise;rw [List.pairwise_iff_getElem];intro i j hi l k;obtain⟨d,rfl⟩:∃d,j=i+d+1:=⟨j-i-1,by omega⟩
 induction d with
 | zero=>exact c i l
 | succ d m =>
  have:=m oM oM;have:=c (i+d+1) oM
  show g[i].1<g[i+(d+1)+1].1
  have e:i+(d+1)+1=i+d+1+1:=oM
  simp only [e];omega
theorem znF {l:List (Int×Int)} (j:Rise l) (u:LnOk l) (v:lineL l<lineR l) {z:Int} (h1:lineL l≤z) (h2:z≤lineR l):((-104000:Int):Rat)≤atR l (z:Rat)∧atR l (z:Rat)≤((104000:Int):Rat):=by
 obtain⟨K,e,_⟩:=u
 obtain⟨k,x,D,k3,k4⟩:∃k,lineL l≤k∧k<lineR l∧k≤z∧z≤k+1:=by
  by_cases c:z=lineR l
  ·exact⟨z-1,by omega,by omega,by omega,by omega⟩
  ·exact⟨z,by omega,by omega,by omega,by omega⟩
 obtain⟨⟨a,b⟩,f,p,q,_⟩:=zbL K x D;obtain⟨g,i,d,_⟩:=j.between f;dsimp only at p q g i d;have r:=e a g;have t:=e b i;unfold Bd at r t;have P:((a.1:Int):Rat)≤(z:Rat):=Rat.intCast_le_intCast.2 oM;have Q:(z:Rat)≤((b.1:Int):Rat):=Rat.intCast_le_intCast.2 oM;rw [zc7 j f P Q];have s:=zbe (a,b) (a.1:Rat) (b.1:Rat) (z:Rat);rw [zg7,zfE a b d]at s
 have m:(0:Rat)<((b.1:Int):Rat)-((a.1:Int):Rat):=by
  have:=Rat.intCast_lt_intCast.2 d
  grind
 obtain⟨y,w⟩:=gX (atE (z:Rat) (a,b));rw [w]at s ⊢;have T:((-104000:Int):Rat)≤((a.2:Int):Rat):=Rat.intCast_le_intCast.2 oM;have W:((a.2:Int):Rat)≤((104000:Int):Rat):=Rat.intCast_le_intCast.2 oM;have u3:((-104000:Int):Rat)≤((b.2:Int):Rat):=Rat.intCast_le_intCast.2 oM;have u4:((b.2:Int):Rat)≤((104000:Int):Rat):=Rat.intCast_le_intCast.2 oM;have n:0≤((b.1:Int):Rat)-(z:Rat):=by grind
 have o:0≤(z:Rat)-((a.1:Int):Rat):=by grind
 have v1:=Rat.mul_le_mul_of_nonneg_left T n;have v2:=Rat.mul_le_mul_of_nonneg_left W n;have v3:=Rat.mul_le_mul_of_nonneg_left u3 o;have v4:=Rat.mul_le_mul_of_nonneg_left u4 o;refine⟨Rat.not_lt.1 fun h=>?_,Rat.not_lt.1 fun h=>?_⟩
 ·have:=Rat.mul_lt_mul_of_pos_left h m
  grind
 ·have:=Rat.mul_lt_mul_of_pos_left h m
  grind
theorem zji {l t:List (Int×Int)} (m:Rise l) (n:Rise t) (h:LnOk l) (j:LnOk t) (d:(btw l t).lo<(btw l t).hi):gapT l t≤((208000:Int):Rat):=by
 unfold gapT leastR;obtain⟨i,g⟩:=zav (gapR (btw l t)) (zaw (btw l t));obtain⟨z,k,f⟩:=List.mem_map.1 i;have c:=zaF d k;rw [g,←f];unfold btw at d c;dsimp only at d c;have a:=znF m h oM (z:=z) oM oM;have b:=znF n j oM (z:=z) oM oM;unfold gapR btw;dsimp only;have e:((208000:Int):Rat)=((104000:Int):Rat)-((-104000:Int):Rat):=by rw [←Rat.intCast_sub];rfl
 rw [e]
 grind
theorem zmD {g:List (Int×Int)} {ps:List Pl} {p:Pl} (h:laidP g ps=0) (a:placedOk p=true) (j:holdsB g p=true) (i:clearB g ps p=true):0≤dropR g ps p∧0≤dropP g ps p∧dropP g ps p≤208000:=by
 obtain⟨c,_,k⟩:=zbt h;obtain⟨⟨t,f,e⟩,_⟩:=zbo (gapT (lowP2 p)) (l:=topsP g ps p) (by unfold topsP;simp);have n:=zgn h a j i t f
 have q:gapT (lowP2 p) t≤((208000:Int):Rat):=by
  unfold topsP at f
  rcases List.mem_cons.1 f with m|f
  ·rw [m]
   exact zji (zam a).1 (zgD k) (zae a).1 (zbC k) (zbR h a j i)
  ·obtain⟨o,u,rfl⟩:=List.mem_map.1 f
   obtain⟨b,d⟩:=List.mem_filter.1 u;rw [Bool.and_eq_true,beq_iff_eq]at d;exact zji (zam a).1 (zax (c o b)).1 (zae a).1 (zae (c o b)).2 (zek a (c o b) d.2).1
 refine⟨by unfold dropR;rw [e];exact n,zja h a j i,?_⟩;have r:=Rat.floor_le (dropR g ps p);have s:((dropP g ps p:Int):Rat)≤((208000:Int):Rat):=Rat.le_trans r (by unfold dropR;rw [e];exact q);exact Rat.intCast_le_intCast.1 s
end
section
open Go.RowKit Go.Shelf Go.Sort Go.Lib
def exA:Pl:=brickP ⟨#[97]⟩ 0 0
def exB:Pl:=brickP ⟨#[98]⟩ 200 0
def exC:Pl:=brickP ⟨#[99]⟩ 100 80
def exD:Pl:=brickP ⟨#[100]⟩ 50 300
theorem zd2:lowP2 exA=[(0,0),(0+200,0)]:=by
 unfold exA lowP2 lineOf;rw [show lowRaw (cornersP (brickP ⟨#[97]⟩ 0 0)) (cornersP (brickP ⟨#[97]⟩ 0 0)).length=[(0,0),(0+200,0)] by decide,zby (List.Perm.refl _) dM dM]
 decide
theorem zhO:upP2 exA=[(0,0+80),(0+200,0+80)]:=by
 unfold exA upP2 lineOf;rw [show upRaw (cornersP (brickP ⟨#[97]⟩ 0 0)) (cornersP (brickP ⟨#[97]⟩ 0 0)).length=[(0+200,0+80),(0,0+80)] by decide,zby (List.Perm.swap _ _ _) dM dM]
 decide
theorem zme:placedOk exA=true:=by decide +kernel
theorem zd3:lowP2 exB=[(200,0),(200+200,0)]:=by
 unfold exB lowP2 lineOf;rw [show lowRaw (cornersP (brickP ⟨#[98]⟩ 200 0)) (cornersP (brickP ⟨#[98]⟩ 200 0)).length=[(200,0),(200+200,0)] by decide,zby (List.Perm.refl _) dM dM]
 decide
theorem zhP:upP2 exB=[(200,0+80),(200+200,0+80)]:=by
 unfold exB upP2 lineOf;rw [show upRaw (cornersP (brickP ⟨#[98]⟩ 200 0)) (cornersP (brickP ⟨#[98]⟩ 200 0)).length=[(200+200,0+80),(200,0+80)] by decide,zby (List.Perm.swap _ _ _) dM dM]
 decide
theorem zmf:placedOk exB=true:=by decide +kernel
theorem zfq:lowP2 exC=[(100,80),(100+200,80)]:=by
 unfold exC lowP2 lineOf;rw [show lowRaw (cornersP (brickP ⟨#[99]⟩ 100 80)) (cornersP (brickP ⟨#[99]⟩ 100 80)).length=[(100,80),(100+200,80)] by decide,zby (List.Perm.refl _) dM dM]
 decide
theorem zhQ:upP2 exC=[(100,80+80),(100+200,80+80)]:=by
 unfold exC upP2 lineOf;rw [show upRaw (cornersP (brickP ⟨#[99]⟩ 100 80)) (cornersP (brickP ⟨#[99]⟩ 100 80)).length=[(100+200,80+80),(100,80+80)] by decide,zby (List.Perm.swap _ _ _) dM dM]
 decide
theorem zoD:placedOk exC=true:=by decide +kernel
theorem zjN:lowP2 exD=[(50,300),(50+200,300)]:=by
 unfold exD lowP2 lineOf;rw [show lowRaw (cornersP (brickP ⟨#[100]⟩ 50 300)) (cornersP (brickP ⟨#[100]⟩ 50 300)).length=[(50,300),(50+200,300)] by decide,zby (List.Perm.refl _) dM dM]
 decide
theorem zmo:upP2 exD=[(50,300+80),(50+200,300+80)]:=by
 unfold exD upP2 lineOf;rw [show upRaw (cornersP (brickP ⟨#[100]⟩ 50 300)) (cornersP (brickP ⟨#[100]⟩ 50 300)).length=[(50+200,300+80),(50,300+80)] by decide,zby (List.Perm.swap _ _ _) dM dM]
 decide
theorem znX:placedOk exD=true:=by decide +kernel
theorem zn3:relP exA exB=1:=by
 unfold relP;rw [zd2,zd3]
 decide
def ex3:List Pl:=[exA,exB,exC]
theorem zfo:laidP exG ex3=0:=by
 unfold ex3 laidP;simp only [laid1,laid2,addE,clearB,clashB,List.any_cons,List.any_nil,List.nil_append,List.cons_append,relP,freeB,leastR,stopsR,stopsZ,zcN,holdsB,zd2,zd3,zfq,zhO,zhP,zhQ]
 decide +kernel
theorem zmE:dropP exG ex3 exD=140:=by
 unfold dropP dropR topsP ex3;simp only [List.filter,List.map_cons,List.map_nil,minG,List.foldl_cons,List.foldl_nil,gapT,relP,freeB,leastR,stopsR,stopsZ,zcN,zd2,zd3,zfq,zjN,zhO,zhP,zhQ,zmo]
 decide +kernel
instance:DecidableEq Be:=fun⟨a,b,c,d,e,f,g⟩ ⟨a',b',c',d',e',f',g'⟩=>decidable_of_iff (a=a'∧b=b'∧c=c'∧d=d'∧e=e'∧f=f'∧g=g') sM
theorem zmA:bedsN exG ex3 2 exC 0 4=[⟨0,100,80,200,80,(1,0),(1,0)⟩,⟨1,200,80,300,80,(1,0),(1,0)⟩]:=by
 unfold bedsN ex3;simp only [bedAt,bedO,reachP,reachNo,leastR,stopsR,stopsZ,zcN,zd2,zd3,zfq,zhO,zhP,zhQ]
 decide +kernel
theorem znn:textV 100 80=[40,49,48,48,44,32,56,48,41]:=by decide +kernel
end
section
open Go.RowKit Go.Shelf Go.Sort Go.Lib
attribute [local go_sem] Oper.semAt_some
theorem zbl (w:O) (f:ByteArray) (x z:Int):Calls Tryz.prog 33 #[.string f,Z X x,Z X z] w fun e g=>∃v,e = .returned (M (plc (brickP f x z) v))∧IsPts g v brickS∧Ext w g:=by
 go_enter Tryz.func33,Tryz.ntmps33
 go_wp2_with(go_at_call 91;(with_reducible refine(zh0 _).mono ?_);rintro e h ⟨o,rfl,a,b⟩;obtain⟨i,k,j,rfl⟩:=form3 a;obtain⟨c,d⟩:=b.cells;(have n:=b.size);(simp only [wZ]at n);(have l:w.heap.size<h.heap.size:=oM);(have m:¬w.heap.size=h.heap.size:=oM))
 refine bR (v:=M (plc (brickP f x z) (Y i k j))) (by simp [results,Tryz.results33,go_sem,plc,brickP,c,d,l,m]) rfl ⟨_,rfl,?_,eA⟩;exact a.keep' kA
theorem zlj (w:O):Calls Tryz.prog 38 #[] w fun e a=>∃v,e = .returned v∧IsPts a v exG∧Ext w a:=by
 go_enter Tryz.func38,Tryz.ntmps38;go_wp2;go_ret;exact⟨_,rfl,zkk _ rfl exG dM,eA⟩
theorem zgl (w:O):Calls Tryz.prog 34 #[] w fun e w'=>∃vg vp,e = .returned (M #[vg,vp])∧IsPts w' vg exG∧IsPls w' vp ex3∧Ext w w':=by
 go_enter Tryz.func34,Tryz.ntmps34
 go_wp2_with(first|(go_at_call 38;(with_reducible refine(zlj _).mono ?_);rintro e w1 ⟨v1,rfl,m,g⟩;obtain⟨j,s,l,rfl⟩:=form3 m;obtain⟨D,T⟩:=g.cells;(have z1:w.heap.size<w1.heap.size:=by have:=g.size;simp only [wZ]at this;omega))|(go_at_call 33;(with_reducible refine(zbl _ ⟨#[97]⟩ 0 0).mono ?_);rintro e w2 ⟨v2,rfl,n,d⟩;obtain⟨a2,n2,c2,rfl⟩:=form3 n;obtain⟨K,W⟩:=d.cells;(have z2:w.heap.size<w2.heap.size:=by have:=d.size;omega);(unfold plc brickP);dsimp only)|(go_at_call 33;(with_reducible refine(zbl _ ⟨#[98]⟩ 200 0).mono ?_);rintro e w3 ⟨v3,rfl,o,c⟩;obtain⟨a3,n3,c3,rfl⟩:=form3 o;obtain⟨P,aa⟩:=c.cells;(have z3:w.heap.size<w3.heap.size:=by have:=c.size;omega);(unfold plc brickP);dsimp only)|(go_at_call 33;(with_reducible refine(zbl _ ⟨#[99]⟩ 100 80).mono ?_);rintro e f ⟨v4,rfl,r,a⟩;obtain⟨a4,n4,c4,rfl⟩:=form3 r;obtain⟨Q,ab⟩:=a.cells;(have z4:w.heap.size<f.heap.size:=by have:=a.size;omega);(unfold plc brickP);dsimp only))
 have K1:=g.heapS (aN w (.cells #[Y I 0 0,Y I 0 0] 50));have y:=a.heapS (c.heapS (d.heapS K1));obtain⟨h,b⟩:=gX ((f.setCell ⟨w.heap.size,0,I⟩ (Y j s l)).setCell ⟨w.heap.size,1,I⟩ (Y (N ⟨f.heap.size,0,I⟩) 3 3))
 have t:KeepT 33 f h:=by
  rw [←b];have h1:=(KeepT.refl 33 f).set (p:=⟨w.heap.size,0,I⟩) y dM (Y j s l);exact h1.set (p:=⟨w.heap.size,1,I⟩) (zac y 0 _) dM _
 have hz:h.heap.size=f.heap.size:=by rw [←b];simp only [qcZ]
 have z:h.heap[w.heap.size]?=N (.cells #[Y j s l,Y (N ⟨f.heap.size,0,I⟩) 3 3] 50 (0,0)):=by
  rw [←b];exact zac (zac y 0 _) 1 _
 have hX:Ext w h:=by
  rw [←b];exact(Ext.set (Ext.set (((((eR w).alloc _).trans g).trans d).trans c |>.trans a) (nE _) _) (nE _) _)
 rw [b];clear b D T K W P aa Q ab;have b0:=qcB z (i:=0) (u:=Y j s l) rfl;have b1:=qcB z (i:=1) (u:=Y (N ⟨f.heap.size,0,I⟩) 3 3) rfl;have bz:=zaa z
 have x:=zkc h (k:=f.heap.size) (base:=w.heap.size) hz.symm oM [(brickP ⟨#[97]⟩ 0 0,Y a2 n2 c2),(brickP ⟨#[98]⟩ 200 0,Y a3 n3 c3),(brickP ⟨#[99]⟩ 100 80,Y a4 n4 c4)] (by
  intro q x;simp only [List.mem_cons,List.not_mem_nil,or_false]at x
  rcases x with rfl|rfl|rfl
  ·exact⟨((n.ext' c).ext' a).keep' t,by unfold brickP;dsimp only;omega⟩
  ·exact⟨(o.ext' a).keep' t,by unfold brickP;dsimp only;omega⟩
  ·exact⟨r.keep' t,by unfold brickP;dsimp only;omega⟩) sM
 refine bR (v:=M #[Y j s l,Y (N ⟨f.heap.size,0,I⟩) 3 3]) (by simp [results,Tryz.results34,go_sem,b0,b1,bz]) rfl ⟨_,_,rfl,?_,?_,hX.alloc _⟩
 ·exact((((m.ext' d).ext' c).ext' a).keep' t).ext' ((eR _).alloc _)
 ·exact x.pls
def dropE (g:List (Int×Int)) (ps:List Pl) (p:Pl):Int:=
 if laidP g ps≠0 then laidP g ps else if placedOk p=false then 2 else if holdsB g p=false then 2 else if ps.any (nameB p.name)=true then 7 else if clearB g ps p=false then 12 else 0
def RetDr (w:O) (g:List (Int×Int)) (ps:List Pl) (p:Pl) (e:Ending) (w':O):Prop:=
 e = .returned (.tuple #[Z X (if dropE g ps p=0 then dropP g ps p else 0),Z X (dropE g ps p)])∧Ext w w'
theorem znR {w:O} {b c:V} {g:List (Int×Int)} {ps:List Pl} (k:IsPts w b g) (l:IsPls w c ps) (a:Gw w) (h:laidP g ps≠0) :
  Calls Tryz.prog 44 #[M #[b,c]] w fun e d=>e = .returned (.tuple #[M #[Y I 0 0,Y I 0 0],Z X (laidP g ps)])∧Ext w d:=by
 refine(zbN w b c g ps k l a).mono ?_;rintro e d (⟨_,i,j⟩|⟨f,_⟩)
 ·exact⟨i,j⟩
 ·exact absurd f h
theorem zgJ {w:O} {b f:V} {g:List (Int×Int)} {ps:List Pl} (o:IsPts w b g) (p:IsPls w f ps) (d:Gw w) (h:laidP g ps=0) :
  Calls Tryz.prog 44 #[M #[b,f]] w fun e i=>∃a n c,e = .returned (.tuple #[M #[b,Y a n c],Z X 0])∧IsLas i (Y a n c) ps∧Ext w i:=by
 refine(zbN w b f g ps o p d).mono ?_;rintro e i (⟨k,_⟩|⟨_,q,l,j,m⟩)
 ·exact absurd h k
 ·obtain⟨a,n,c,rfl⟩:=form3 j
  exact⟨a,n,c,l,j,m⟩
theorem zfN (w:O) (D K v:V) (g:List (Int×Int)) (ps:List Pl) (p:Pl) (j:IsPts w D g) (k:IsPls w K ps) (hv:IsPts w v p.shape) (x:0≤p.skin) (c:Gw w) (h:laidP g ps≠0∨placedOk p=false) :
  Calls Tryz.prog 15 #[M #[D,K],M (plc p v)] w (RetDr w g ps p):=by
 obtain⟨ga,gn,gc,rfl⟩:=form3 j;obtain⟨pa,pn,ae,rfl⟩:=form3 k;obtain⟨sa,sn,af,rfl⟩:=form3 hv;obtain⟨R,o⟩:=gX (RetDr w g ps p);rw [o];have y:=hd9 o
 by_cases a:laidP g ps=0
 ·have i:placedOk p=false:=h.resolve_left (fun s=>s a)
  have e:dropE g ps p=2:=by unfold dropE;rw [if_neg (fun s=>s a),if_pos i]
  have n:=hd9 (fun(W:O) (b:Ext w W)=>zgJ (j.ext' b) (k.ext' b) (c.ext b) a);have m:=hd9 (fun(W:O) (b:Ext w W)=>zaD W p _ (hv.ext' b) x);rw [i,if_neg dM]at m;have r:=hd9 e;obtain⟨nm,sh,d,de,gx,gz,wy,T,az,sk⟩:=p;clear e a h i j k hv x c o;unfold plc at m ⊢;dsimp only at m ⊢;go_enter Tryz.func15,Tryz.ntmps15
  go_wp2_with(first|(go_at_call 44;(with_reducible refine(n.out _ ?_).mono ?_);exact eA;rintro e q ⟨va,vn,vc,rfl,ad,f⟩;obtain⟨t,u⟩:=f.cells;(have z4:=f.size);(simp only [wZ]at z4);(have ag:w.heap.size+1<q.heap.size:=oM);(have ah:w.heap.size+1<q.heap.size+1:=oM))|(go_at_call 45;(with_reducible refine(m.out _ ?_).mono ?_);exact eA;rintro e P ⟨rfl,l⟩;obtain⟨ab,ac⟩:=l.cells;(have z5:=l.size);(simp only [wZ]at z5);(have ai:w.heap.size+1<P.heap.size:=oM);(have aj:q.heap.size<P.heap.size:=oM)))
  rw [←y.out];exact⟨by rw [r.out];rfl,eA⟩
 ·have e:dropE g ps p=laidP g ps:=by unfold dropE;rw [if_pos a]
  have n:=hd9 (fun(W:O) (b:Ext w W)=>znR (j.ext' b) (k.ext' b) (c.ext b) a);obtain⟨L,z⟩:=gX (laidP g ps);rw [z]at n e a;have r:=hd9 e;have aa:(L != 0)=true:=by simpa using a
  have Q:=hd9 a;obtain⟨nm,sh,d,de,gx,gz,wy,T,az,sk⟩:=p;clear e h j k hv x c o z a;unfold plc;dsimp only;go_enter Tryz.func15,Tryz.ntmps15
  go_wp2_with(first|(go_at_call 44;(with_reducible refine(n.out _ ?_).mono ?_);exact eA;rintro e q ⟨rfl,f⟩;obtain⟨t,u⟩:=f.cells))
  rw [←y.out];exact⟨by rw [r.out,if_neg Q.out];rfl,eA⟩
theorem zdQ (w:O) (vg K v:V) (g:List (Int×Int)) (ps:List Pl) (p:Pl) (hg:IsPts w vg g) (hp:IsPls w K ps) (hv:IsPts w v p.shape) (hk:0≤p.skin) (ab:Gw w) (h0:laidP g ps=0) (u:placedOk p=true)
  (h:holdsB g p=false∨ps.any (nameB p.name)=true∨clearB g ps p=false) :
  Calls Tryz.prog 15 #[M #[vg,K],M (plc p v)] w (RetDr w g ps p):=by
 obtain⟨D,_,ap⟩:=zbt h0;have aa:=zbC ap;have HL:=hd9 (fun(W:O) (t:Ext w W)=>zgJ (hg.ext' t) (hp.ext' t) (ab.ext t) h0);have HK:=hd9 (fun(W:O) (t:Ext w W)=>zaD W p _ (hv.ext' t) hk);rw [if_pos u]at HK;have HO:=hd9 (fun(W:O) (t:Ext w W)=>za9 W p _ (hv.ext' t) u (ab.ext t));have HH:=hd9 (fun(W:O) (t:Ext w W) (P:V) (hs:∃a n c,P=Y a n c) (K:V) (h:IsLa W K p)=>zdW W vg P K g p (hg.ext' t) hs h aa u);have HN:=hd9 (fun(W:O) (t:Ext w W) (P:V) (hs:IsLas W P ps)=>zbz W vg P ps p.name (form3 hg) hs);have HC:=hd9 (fun(W:O) (t:Ext w W) (P:V) (hs:IsLas W P ps) (K:V) (h:IsLa W K p)=>zdI W vg P K g ps p (hg.ext' t) hs h aa D u);have T:=hd9 hv;obtain⟨ga,gn,gc,rfl⟩:=form3 hg;obtain⟨pa,pn,aP,rfl⟩:=form3 hp;obtain⟨sa,sn,aQ,rfl⟩:=form3 hv;obtain⟨R,hR⟩:=gX (RetDr w g ps p);rw [hR];have HR:=hd9 hR
 have ac:dropE g ps p=if holdsB g p=false then 2 else if ps.any (nameB p.name)=true then 7 else if clearB g ps p=false then 12 else 0:=by
  unfold dropE;rw [if_neg (fun h9=>h9 h0),if_neg (by rw [u];decide)]
 obtain⟨b1,e1⟩:=gX (holdsB g p);obtain⟨b2,e2⟩:=gX (ps.any (nameB p.name));obtain⟨b3,e3⟩:=gX (clearB g ps p);rw [e1,e2,e3]at ac h;rw [e1]at HH;rw [e2]at HN;rw [e3]at HC;have z:=hd9 ac;obtain⟨nm,sh,d,de,gx,gz,wy,ax,az,sk⟩:=p;clear ac h0 u hg hp hv hk ab hR D ap aa e1 e2 e3;unfold plc at HK HO ⊢;unfold RetO lac at HO;dsimp only at HK HO HN T ⊢
 cases b1 with
 | false =>
  have z:Hid (dropE g ps ⟨nm,sh,d,de,gx,gz,wy,ax,az,sk⟩=2):=hd9 (by rw [z.out];rfl);go_enter Tryz.func15,Tryz.ntmps15
  go_wp2_with(first|(go_at_call 44;(with_reducible refine(HL.out _ ?_).mono ?_);exact eA;rintro e i ⟨va,vn,vc,rfl,k,l⟩;obtain⟨ad,aj⟩:=l.cells;(have z4:=l.size);(simp only [wZ]at z4);(have aA:w.heap.size+1<i.heap.size:=oM);(have aB:w.heap.size+1<i.heap.size+1:=oM))|(go_at_call 45;(with_reducible refine(HK.out _ ?_).mono ?_);exact eA;rintro e Q ⟨rfl,m⟩;obtain⟨ae,ak⟩:=m.cells;(have z5:=m.size);(simp only [wZ]at z5);(have aC:w.heap.size+1<Q.heap.size:=oM);(have aD:i.heap.size<Q.heap.size:=oM))|(go_at_call 46;(with_reducible refine(HO.out _ ?_).mono ?_);exact eA;rintro e j ⟨vl,vu,rfl,b,f,o⟩;obtain⟨aq,au,ar,rfl⟩:=form3 b;obtain⟨av,ay,aw,rfl⟩:=form3 f;obtain⟨af,al⟩:=o.cells;(have z6:=o.size);(have aE:w.heap.size+1<j.heap.size:=oM);(have aF:i.heap.size<j.heap.size:=oM);(have aG:i.heap.size<j.heap.size+1:=oM);(have aH:w.heap.size+1<j.heap.size+1:=oM))|(go_at_call 47;(with_reducible refine(HH.out _ ?_ _ ?_ _ ?_).mono ?_);exact eA;(exact⟨_,_,_,rfl⟩);(exact⟨_,_,_,rfl,Ext.isPts (w:=w) T.out eA,b.ext' eA,f.ext' eA⟩);rintro e x ⟨rfl,q⟩;obtain⟨ag,am⟩:=q.cells;(have z7:=q.size);(simp only [wZ]at z7);(have aI:w.heap.size+1<x.heap.size:=oM);(have aJ:i.heap.size<x.heap.size:=oM);(have aK:j.heap.size<x.heap.size:=oM))|(go_at_call 48;(with_reducible refine(HN.out _ ?_ _ ?_).mono ?_);exact eA;(exact k.ext' eA);rintro e y ⟨rfl,r⟩;obtain⟨ah,an⟩:=r.cells;(have z8:=r.size);(have aL:w.heap.size+1<y.heap.size:=oM);(have aM:i.heap.size<y.heap.size:=oM);(have aO:j.heap.size<y.heap.size:=oM))|(go_at_call 49;(with_reducible refine(HC.out _ ?_ _ ?_ _ ?_).mono ?_);exact eA;(exact k.ext' eA);(exact⟨_,_,_,rfl,Ext.isPts (w:=w) T.out eA,b.ext' eA,f.ext' eA⟩);rintro e w9 ⟨rfl,s⟩;obtain⟨ai,ao⟩:=s.cells;(have z9:=s.size)))
  rw [←HR.out];exact⟨by rw [z.out];rfl,eA⟩
 | true =>
  cases b2 with
  | true =>
   have z:Hid (dropE g ps ⟨nm,sh,d,de,gx,gz,wy,ax,az,sk⟩=7):=hd9 (by rw [z.out];rfl);go_enter Tryz.func15,Tryz.ntmps15
   go_wp2_with(first|(go_at_call 44;(with_reducible refine(HL.out _ ?_).mono ?_);exact eA;rintro e i ⟨va,vn,vc,rfl,k,l⟩;obtain⟨ad,aj⟩:=l.cells;(have z4:=l.size);(simp only [wZ]at z4);(have aA:w.heap.size+1<i.heap.size:=oM);(have aB:w.heap.size+1<i.heap.size+1:=oM))|(go_at_call 45;(with_reducible refine(HK.out _ ?_).mono ?_);exact eA;rintro e Q ⟨rfl,m⟩;obtain⟨ae,ak⟩:=m.cells;(have z5:=m.size);(simp only [wZ]at z5);(have aC:w.heap.size+1<Q.heap.size:=oM);(have aD:i.heap.size<Q.heap.size:=oM))|(go_at_call 46;(with_reducible refine(HO.out _ ?_).mono ?_);exact eA;rintro e j ⟨vl,vu,rfl,b,f,o⟩;obtain⟨aq,au,ar,rfl⟩:=form3 b;obtain⟨av,ay,aw,rfl⟩:=form3 f;obtain⟨af,al⟩:=o.cells;(have z6:=o.size);(have aE:w.heap.size+1<j.heap.size:=oM);(have aF:i.heap.size<j.heap.size:=oM);(have aG:i.heap.size<j.heap.size+1:=oM);(have aH:w.heap.size+1<j.heap.size+1:=oM))|(go_at_call 47;(with_reducible refine(HH.out _ ?_ _ ?_ _ ?_).mono ?_);exact eA;(exact⟨_,_,_,rfl⟩);(exact⟨_,_,_,rfl,Ext.isPts (w:=w) T.out eA,b.ext' eA,f.ext' eA⟩);rintro e x ⟨rfl,q⟩;obtain⟨ag,am⟩:=q.cells;(have z7:=q.size);(simp only [wZ]at z7);(have aI:w.heap.size+1<x.heap.size:=oM);(have aJ:i.heap.size<x.heap.size:=oM);(have aK:j.heap.size<x.heap.size:=oM))|(go_at_call 48;(with_reducible refine(HN.out _ ?_ _ ?_).mono ?_);exact eA;(exact k.ext' eA);rintro e y ⟨rfl,r⟩;obtain⟨ah,an⟩:=r.cells;(have z8:=r.size);(have aL:w.heap.size+1<y.heap.size:=oM);(have aM:i.heap.size<y.heap.size:=oM);(have aO:j.heap.size<y.heap.size:=oM))|(go_at_call 49;(with_reducible refine(HC.out _ ?_ _ ?_ _ ?_).mono ?_);exact eA;(exact k.ext' eA);(exact⟨_,_,_,rfl,Ext.isPts (w:=w) T.out eA,b.ext' eA,f.ext' eA⟩);rintro e w9 ⟨rfl,s⟩;obtain⟨ai,ao⟩:=s.cells;(have z9:=s.size)))
   rw [←HR.out];exact⟨by rw [z.out];rfl,eA⟩
  | false =>
   cases b3 with
   | false =>
    have z:Hid (dropE g ps ⟨nm,sh,d,de,gx,gz,wy,ax,az,sk⟩=12):=hd9 (by rw [z.out];rfl);go_enter Tryz.func15,Tryz.ntmps15
    go_wp2_with(first|(go_at_call 44;(with_reducible refine(HL.out _ ?_).mono ?_);exact eA;rintro e i ⟨va,vn,vc,rfl,k,l⟩;obtain⟨ad,aj⟩:=l.cells;(have z4:=l.size);(simp only [wZ]at z4);(have aA:w.heap.size+1<i.heap.size:=oM);(have aB:w.heap.size+1<i.heap.size+1:=oM))|(go_at_call 45;(with_reducible refine(HK.out _ ?_).mono ?_);exact eA;rintro e Q ⟨rfl,m⟩;obtain⟨ae,ak⟩:=m.cells;(have z5:=m.size);(simp only [wZ]at z5);(have aC:w.heap.size+1<Q.heap.size:=oM);(have aD:i.heap.size<Q.heap.size:=oM))|(go_at_call 46;(with_reducible refine(HO.out _ ?_).mono ?_);exact eA;rintro e j ⟨vl,vu,rfl,b,f,o⟩;obtain⟨aq,au,ar,rfl⟩:=form3 b;obtain⟨av,ay,aw,rfl⟩:=form3 f;obtain⟨af,al⟩:=o.cells;(have z6:=o.size);(have aE:w.heap.size+1<j.heap.size:=oM);(have aF:i.heap.size<j.heap.size:=oM);(have aG:i.heap.size<j.heap.size+1:=oM);(have aH:w.heap.size+1<j.heap.size+1:=oM))|(go_at_call 47;(with_reducible refine(HH.out _ ?_ _ ?_ _ ?_).mono ?_);exact eA;(exact⟨_,_,_,rfl⟩);(exact⟨_,_,_,rfl,Ext.isPts (w:=w) T.out eA,b.ext' eA,f.ext' eA⟩);rintro e x ⟨rfl,q⟩;obtain⟨ag,am⟩:=q.cells;(have z7:=q.size);(simp only [wZ]at z7);(have aI:w.heap.size+1<x.heap.size:=oM);(have aJ:i.heap.size<x.heap.size:=oM);(have aK:j.heap.size<x.heap.size:=oM))|(go_at_call 48;(with_reducible refine(HN.out _ ?_ _ ?_).mono ?_);exact eA;(exact k.ext' eA);rintro e y ⟨rfl,r⟩;obtain⟨ah,an⟩:=r.cells;(have z8:=r.size);(have aL:w.heap.size+1<y.heap.size:=oM);(have aM:i.heap.size<y.heap.size:=oM);(have aO:j.heap.size<y.heap.size:=oM))|(go_at_call 49;(with_reducible refine(HC.out _ ?_ _ ?_ _ ?_).mono ?_);exact eA;(exact k.ext' eA);(exact⟨_,_,_,rfl,Ext.isPts (w:=w) T.out eA,b.ext' eA,f.ext' eA⟩);rintro e w9 ⟨rfl,s⟩;obtain⟨ai,ao⟩:=s.cells;(have z9:=s.size)))
    rw [←HR.out];exact⟨by rw [z.out];rfl,eA⟩
   | true=>simp at h
end
end Go.Proofs.YtodpfeaihohpjaaGreatDoor.Cop
