/- Part 9. -/
import Derived.Test.YtjnjpagegkcgfaaGreatDoorCosA07
import Derived.Deep.LoopGhost
import Derived.Deep.CutBlock
import Derived.Deep.DeepCutAuto
import Derived.Shelf.SlSortCmp.WholeK
import Derived.RangeFuncNested
import Derived.RangeFuncBound
import Derived.RangeFuncCalls
import Derived.RangeFuncLeaves
import Derived.Shelf.Abstract
import Derived.Shelf.RegionOpen
import Derived.TacticsInMore
import Derived.LoopNIn
import Derived.LoopIn
import Derived.Sort.LoopGhostIn
import Derived.ProofKit
import Derived.Deep.Slices
set_option maxRecDepth 1000000
set_option maxHeartbeats 16000000
set_option linter.unusedSimpArgs false
set_option linter.unusedVariables false
open Go.Value renaming int->O,slice->Z,agg->M,bool->C
open Go.IntKind renaming i64->Y
open Go renaming World->X,Value->J
open Option renaming some->V,none->I
open Go.Obj renaming cells->G
namespace Go.Proofs.YtjnjpagegkcgfaaGreatDoor.Cop
section
open Go.RowKit Go.Shelf
def Bd(k n:Int):Prop:=-k<=n/\n<=k
theorem Bd.mono{j k n:Int}(h:Bd j n)(a:j<=k):Bd k n:=by unfold Bd at *;omega
theorem Bd.mul{j k x y:Int}(h:Bd j x)(d:Bd k y):Bd (j*k) (x*y):=by
 unfold Bd at *;have a:(x.natAbs:Int)<=j:=oM
 have c:(y.natAbs:Int)<=k:=oM
 have:((x*y).natAbs:Int)<=j*k:=by
  rw[Int.natAbs_mul,Int.natCast_mul];exact Int.mul_le_mul a c oM oM
 omega
theorem Bd.sub{j k x y:Int}(h:Bd j x)(a:Bd k y):Bd (j+k) (x-y):=by unfold Bd at *;omega
theorem zeX(w:X)(a c d f:Int)(g:Bd 1000000000 a)(k:Bd 1000000000 c)(o:Bd 1000000000 d)(r:Bd 1000000000 f) :
  Calls Tryz.prog 240 #[M #[O Y a,O Y c],M #[O Y d,O Y f]] w fun e u=>e = .returned (M #[O Y (a-d),O Y (c-f)])/\Ext w u:=by
 obtain⟨i,j⟩:=g;obtain⟨l,m⟩:=k;obtain⟨p,q⟩:=o;obtain⟨s,t⟩:=r;go_enter Tryz.func240,Tryz.ntmps240;go_wp2;exact bR (v:=M #[O Y (a-d),O Y (c-f)]) (by simp[results,Tryz.results240,go_sem]) rfl ⟨rfl,eA⟩
theorem zh8(w:X)(a c d f:Int)(g:Bd 1000000000 a)(i:Bd 1000000000 c)(j:Bd 1000000000 d)(k:Bd 1000000000 f) :
  Calls Tryz.prog 272 #[M #[O Y a,O Y c],M #[O Y d,O Y f]] w fun e q=>e = .returned (O Y (a*f-c*d))/\Ext w q:=by
 obtain⟨l,m⟩:=g.mul k;obtain⟨o,p⟩:=i.mul j;have r:IntKind.i64.wrap (a*f)=a*f:=iW _ ⟨by omega,by omega⟩;have s:IntKind.i64.wrap (c*d)=c*d:=iW _ ⟨by omega,by omega⟩;have t:IntKind.i64.wrap (a*f-c*d)=a*f-c*d:=iW _ ⟨by omega,by omega⟩;clear l m o p g i j k;go_enter Tryz.func272,Tryz.ntmps272;go_wp2;go_ret;exact⟨by first|rfl|simp[*],eA⟩
def trn(p q r:Int×Int):Int:=(q.1-p.1)*(r.2-q.2)-(q.2-p.2)*(r.1-q.1)
theorem zlQ(w:X)(d f a c g i:Int)(s:Bd 100000000 d)(t:Bd 100000000 f)(u:Bd 100000000 a)(v:Bd 100000000 c)(x:Bd 100000000 g)(h6:Bd 100000000 i) :
  Calls Tryz.prog 245 #[M #[O Y d,O Y f],M #[O Y a,O Y c],M #[O Y g,O Y i]] w fun e w'=>e = .returned (O Y (trn (d,f) (a,c) (g,i)))/\Ext w w':=by
 have o:=hd9 s;have p:=hd9 t;have j:=hd9 u;have k:=hd9 v;have q:=hd9 x;have r:=hd9 h6;clear s t u v x h6;go_enter Tryz.func245,Tryz.ntmps245;go_wp2
 go_region_held3 (fun W=>W.cell? ⟨w.heap.size,0,I⟩=V (O Y d)/\W.cell? ⟨w.heap.size,1,I⟩=V (O Y f)/\W.cell? ⟨w.heap.size+1,0,I⟩=V (O Y a)/\W.cell? ⟨w.heap.size+1,1,I⟩=V (O Y c)/\W.cell? ⟨w.heap.size+1+1,0,I⟩=V (O Y g)/\W.cell? ⟨w.heap.size+1+1,1,I⟩=V (O Y i)) ((repeat' (with_reducible refine And.intro ?_ ?_))<;>(first|(go_simp;done)|(refine hx1.cellS ?_;go_simp;done))) (first|((go_at_call 240;(with_reducible refine(zeX _ a c d f (j.out.mono dM) (k.out.mono dM) (o.out.mono dM) (p.out.mono dM)).mono ?_);rintro e w1 ⟨rfl,hx1⟩;obtain⟨⟨ac,af⟩,y,z,D⟩:=cK3 w hx1))|((go_at_call 240;(with_reducible refine(zeX _ g i a c (q.out.mono dM) (r.out.mono dM) (j.out.mono dM) (k.out.mono dM)).mono ?_);rintro e w2 ⟨rfl,l⟩;obtain⟨⟨ad,ag⟩,K,L,R⟩:=cK3 w l))|((go_at_call 272;(with_reducible refine(zh8 _ (a-d) (c-f) (g-a) (i-c) ((j.out.sub o.out).mono dM) ((k.out.sub p.out).mono dM) ((q.out.sub j.out).mono dM) ((r.out.sub k.out).mono dM)).mono ?_);rintro e w3 ⟨rfl,m⟩;obtain⟨⟨ae,ah⟩,T,aa,ab⟩:=cK3 w m)))
 all_goals go_wp2
 go_ret;exact⟨rfl,eA⟩
def wthn(n a b:Int):Bool:=decide (a<=n)&&decide (n<=b)
theorem zag(w:X)(n a b:Int) :
  Calls Tryz.prog 160 #[O Y n,O Y a,O Y b] w fun e d=>e = .returned (C (wthn n a b))/\Ext w d:=by
 unfold wthn
 by_cases h:a<=n
 ·have c:decide (a<=n)=true:=by simpa using h
  go_enter Tryz.func160,Tryz.ntmps160;go_wp2;go_ret;exact⟨by simp[c],eA⟩
 ·have c:decide (a<=n)=false:=by simpa using h
  go_enter Tryz.func160,Tryz.ntmps160;go_wp2;go_ret;exact⟨by simp[c],eA⟩
theorem zdH(w:X)(n:Int):Calls Tryz.prog 274 #[O Y n] w fun e a=>e = .returned (C false)/\Ext w a:=by
 go_enter Tryz.func274,Tryz.ntmps274;go_wp2;go_ret;exact⟨rfl,eA⟩
theorem zdu(w:X)(a b:Int):Calls Tryz.prog 248 #[O Y a,O Y b] w fun e c=>e = .returned (O Y (cmp3 a b))/\Ext w c:=by
 have f:a<b->Calls Tryz.prog 248 #[O Y a,O Y b] w fun e c=>e = .returned (O Y (cmp3 a b))/\Ext w c:=by
  intro h;have e:cmp3 a b = -1:=by unfold cmp3;(repeat' split)<;>omega
  rw[e];clear e
  first|subst h|skip
  go_enter Tryz.func248,Tryz.ntmps248
  go_wp2_with(((go_at_call 274;(with_reducible refine(zdH _ _).mono ?_);rintro e j ⟨rfl,d⟩)))
  go_ret;exact⟨rfl,eA⟩
 have g:a=b->Calls Tryz.prog 248 #[O Y a,O Y b] w fun e c=>e = .returned (O Y (cmp3 a b))/\Ext w c:=by
  intro h;have e:cmp3 a b=0:=by unfold cmp3;(repeat' split)<;>omega
  rw[e];clear e
  first|subst h|skip
  go_enter Tryz.func248,Tryz.ntmps248
  go_wp2_with(((go_at_call 274;(with_reducible refine(zdH _ _).mono ?_);rintro e j ⟨rfl,d⟩)))
  go_ret;exact⟨rfl,eA⟩
 have i:b<a->Calls Tryz.prog 248 #[O Y a,O Y b] w fun e c=>e = .returned (O Y (cmp3 a b))/\Ext w c:=by
  intro h;have e:cmp3 a b=1:=by unfold cmp3;(repeat' split)<;>omega
  rw[e];clear e
  first|subst h|skip
  go_enter Tryz.func248,Tryz.ntmps248
  go_wp2_with(((go_at_call 274;(with_reducible refine(zdH _ _).mono ?_);rintro e j ⟨rfl,d⟩)))
  go_ret;exact⟨rfl,eA⟩
 rcases Int.lt_trichotomy a b with h|h|h
 ·exact f h
 ·exact g h
 ·exact i h
def pickR(way:Int)(p q:Rat):Rat:=if rcmp q p=way then q else p
def foldR(way:Int):List Rat->Rat
 | []=>0
 | x::xs=>xs.foldl (pickR way) x
theorem zhU(way:Int)(xs:List Rat)(x:Rat)(h:xs≠[]):foldR way (xs++[x])=pickR way (foldR way xs) x:=by
 cases xs with
 | nil=>exact absurd rfl h
 | cons y a=>simp[foldR]
theorem zfG(way:Int)(p q:Rat):pickR way p q=p\/pickR way p q=q:=by unfold pickR;split<;>simp
theorem ziZ(way:Int)(P:Rat->Prop)(xs:List Rat)(h:∀x∈xs,P x)(g:P 0):P (foldR way xs):=by
 cases xs with
 | nil=>exact g
 | cons x xs =>
  have:∀(c:List Rat)(a:Rat),P a->(∀y∈c,P y)->P (c.foldl (pickR way) a):=by
   intro c
   induction c with
   | nil=>intro a f _;exact f
   | cons y c j =>
    intro a f d;refine j _ ?_ (fun z i=>d z (mC _ i))
    rcases zfG way a y with e|e<;>rw[e]
    ·exact f
    ·exact d y sM
  exact this xs x (h x sM) (fun y d=>h y (mC _ d))
theorem Rb.zero{k:Nat}(a:1<=k):Rb k 0:=⟨by have:=zap zbt k;unfold Lm;simp;omega,zey a⟩
theorem zf8(w:X)(va vb:J)(p q:Rat)(way:Int)(i:Nat)(K:IsR w va p)(L:IsR w vb q)(R:Rb limR p)(T:Rb limR q)(hw:w.cell? ⟨i,0,I⟩=V (O Y way)) :
  Calls Tryz.prog 224 #[va,vb,.pointer (V ⟨i,0,I⟩)] w (RetR w (pickR way p q)):=by
 obtain⟨a,m,c,s,o,x,t,rfl⟩:=K.form;obtain⟨l,u,r,y,d,g,f,rfl⟩:=L.form;have z:=hd9 R;have D:=hd9 T;clear R T;have zw:i<w.heap.size:=World.block_lt_of_cell? w _ hw;have ag:i<w.heap.size+1:=oM
 have ah:i<w.heap.size+1+1:=oM
 by_cases j:rcmp q p=way
 ·have ad:(rcmp q p==way)=true:=by simpa using j
  have hR:IsR w (M #[Z l u r,C y,Z d g f]) (pickR way p q):=by unfold pickR;first|(rw[if_pos j];exact L)|(rw[if_neg j];exact K)
  clear j;go_enter Tryz.func224,Tryz.ntmps224;go_wp2
  go_region_held3 (fun W=>W.cell? ⟨w.heap.size,0,I⟩=V (Z a m c)/\W.cell? ⟨w.heap.size,1,I⟩=V (C s)/\W.cell? ⟨w.heap.size,2,I⟩=V (Z o x t)/\W.cell? ⟨w.heap.size+1,0,I⟩=V (Z l u r)/\W.cell? ⟨w.heap.size+1,1,I⟩=V (C y)/\W.cell? ⟨w.heap.size+1,2,I⟩=V (Z d g f)/\W.cell? ⟨i,0,I⟩=V (O Y way)) ((repeat' (with_reducible refine And.intro ?_ ?_))<;>(first|(go_simp;done)|(refine hx1.cellS ?_;go_simp;done))) (((go_at_call 75;(with_reducible refine(zaE _ (M #[Z l u r,C y,Z d g f]) (M #[Z a m c,C s,Z o x t]) q p ?_ ?_ D.out z.out).mono ?_);(refine L.ext ?_;exact eA);(refine K.ext ?_;exact eA);rintro e w1 ⟨rfl,hx1⟩;obtain⟨⟨k,ae⟩,aa,ab,ac⟩:=cK3 w hx1;(have af:=hx1.lt (n:=i) (by simp only[wZ,qdZ];omega)))))
  all_goals go_wp2
  exact bR (v:=M #[Z l u r,C y,Z d g f]) (by simp[results,Tryz.results224,go_sem,k]) rfl ⟨_,rfl,IsR.keep (w:=w1) (hR.ext eA) kA,eA⟩
 ·have ad:(rcmp q p==way)=false:=by simpa using j
  have hR:IsR w (M #[Z a m c,C s,Z o x t]) (pickR way p q):=by unfold pickR;first|(rw[if_pos j];exact L)|(rw[if_neg j];exact K)
  clear j;go_enter Tryz.func224,Tryz.ntmps224;go_wp2
  go_region_held3 (fun W=>W.cell? ⟨w.heap.size,0,I⟩=V (Z a m c)/\W.cell? ⟨w.heap.size,1,I⟩=V (C s)/\W.cell? ⟨w.heap.size,2,I⟩=V (Z o x t)/\W.cell? ⟨w.heap.size+1,0,I⟩=V (Z l u r)/\W.cell? ⟨w.heap.size+1,1,I⟩=V (C y)/\W.cell? ⟨w.heap.size+1,2,I⟩=V (Z d g f)/\W.cell? ⟨i,0,I⟩=V (O Y way)) ((repeat' (with_reducible refine And.intro ?_ ?_))<;>(first|(go_simp;done)|(refine hx1.cellS ?_;go_simp;done))) (((go_at_call 75;(with_reducible refine(zaE _ (M #[Z l u r,C y,Z d g f]) (M #[Z a m c,C s,Z o x t]) q p ?_ ?_ D.out z.out).mono ?_);(refine L.ext ?_;exact eA);(refine K.ext ?_;exact eA);rintro e w1 ⟨rfl,hx1⟩;obtain⟨⟨k,ae⟩,aa,ab,ac⟩:=cK3 w hx1;(have af:=hx1.lt (n:=i) (by simp only[wZ,qdZ];omega)))))
  all_goals go_wp2
  exact bR (v:=M #[Z a m c,C s,Z o x t]) (by simp[results,Tryz.results224,go_sem,k]) rfl ⟨_,rfl,IsR.keep (w:=w1) (hR.ext eA) kA,eA⟩
def FoS(w:X)(way:Int)(a:List Rat)(g:Nat)(c:J)(W:X):Prop:=
 ∃i:Nat,i<=a.length/\c=O Y i/\g=a.length-i/\Ext w W/\RB W w.heap.size 0/\RB W (w.heap.size+1) (foldR way (a.take i))
theorem zk9(w:X)(v:J)(d:List Rat)(way:Int)(K:Nat)(hs:IsRs w v d)(hb:∀q∈d,Rb limR q)(hw:w.cell? ⟨K,0,I⟩=V (O Y way)) :
  Calls Tryz.prog 223 #[v,.func (.func 224) #[] #[.pointer (V ⟨K,0,I⟩)]] w (RetR w (foldR way d)):=by
 obtain⟨a,c,rfl⟩:=hs.form;obtain⟨n,hn⟩:=gX d.length;rw[hn]at hs ⊢;have s:=hs.le;unfold maxLen at s;have f:=hd9 hn;have Hb:=hd9 hb;have zw:K<w.heap.size:=World.block_lt_of_cell? w _ hw;have am:n<=9223372036854775807:=oM
 clear hn hb s;go_enter Tryz.func223,Tryz.ntmps223;go_wp2
 go_loopg [10] n (FoS w way d)
 case atStart =>
  refine⟨0,by omega,rfl,by rw[f.out];rfl,eA,RB.ext (W:=w.alloc (G #[Z I 0 0,C false,Z I 0 0] 63)) (RB.new (IsR.zero _) rfl) eA,RB.new (IsR.zero _) sM⟩
 case round =>
  obtain⟨i,hi,rfl,rfl,hx,T,R⟩:=hrel;rw[f.out]at hi;have Hx:=hd9 hx;obtain⟨a0,m0,c0,s0,ah,ao,ai,r0,r1,r2,au,av,aw,zr,an⟩:=T.rd;obtain⟨a1,m1,c1,s1,m,D,p,o0,o1,o2,ap,aq,ar,zo,l⟩:=R.rd
  by_cases ae:i<n
  ·obtain⟨x,k⟩:∃x,d[i]?=V x:=⟨d[i]'(by rw[f.out];omega),by simp[f.out,ae]⟩
   obtain⟨b,o,a3,m3,c3,s3,a4,m4,c4,rfl,aj,z,e0,e1,e2⟩:=(hs.ext' hx).at' k;have j:=hd9 k;clear k
   by_cases L:i=0
   ·have ac:((i:Int)==0)=true:=by simp;omega
    have H0:=hd9 L;clear L;go_wp2
    go_roundg (n-(i+1))
    case measure=>have:=f.out;omega
    case rel =>
     have g:=R.not
     have e:foldR way (d.take (i+1))=x:=by
      have:=H0.out;subst this;rw[zab _ _ _ j.out];simp[foldR]
     exact⟨i+1,by have:=f.out;omega,by go_num,by rw[f.out],eA,
      (((T.other dO g _).other dO (g.set _ _) _).other dO ((g.set _ _).set _ _) _).ext ((eR _).alloc _),
      by rw[e];exact(R.put z).ext ((eR _).alloc _)⟩
   ·have ac:((i:Int)==0)=false:=by simp;omega
    have H0:=hd9 L;have aa:Hid (Rb limR (foldR way (d.take i))):=hd9 (ziZ way _ _ (fun q hq=>Hb.out q (List.mem_of_mem_take hq)) (Rb.zero dM));have ab:Hid (Rb limR x):=hd9 (Hb.out x (lM j.out));clear L
    go_wp2_with(((go_at_call 224;(with_reducible refine(zf8 _ (M #[Z a1 m1 c1,C s1,Z m D p]) (M #[Z a3 m3 c3,C s3,Z a4 m4 c4]) (foldR way (d.take i)) x way K ?_ ?_ aa.out ab.out ?_).mono ?_);(refine l.ext ?_;exact eA);(refine z.ext ?_;exact eA);(refine Ext.cellS (a:=w) ?_ hw;exact eA);rintro e w1 ⟨r1,rfl,t,u⟩;obtain⟨b1,n1,k1,t1,b2,n2,k2,rfl⟩:=t.form;obtain⟨⟨ak,al⟩,af,ag⟩:=cK2 w u)))
    go_roundg (n-(i+1))
    case measure=>have:=f.out;omega
    case rel =>
     have y:Ext wr w1:=((eR wr).alloc _).trans u;have r:=R.ext y;have ad:=T.ext y;have g:=r.not
     have e:foldR way (d.take (i+1))=pickR way (foldR way (d.take i)) x:=by
      rw[zab _ _ _ j.out,zhU];intro h;have h2:(d.take i).length=0:=by rw[h];rfl
      rw[List.length_take,f.out]at h2;have:=H0.out;omega
     exact⟨i+1,by have:=f.out;omega,by go_num,by rw[f.out],eA,
      (((ad.other dO g _).other dO (g.set _ _) _).other dO ((g.set _ _).set _ _) _),
      by rw[e];exact r.put t⟩
  ·obtain rfl:i=n:=oM
   have e:foldR way (d.take i)=foldR way d:=by rw[lT (by rw[f.out];omega)]
   rw[e]at l;clear e;have g:=T.not;go_wp2;exact bR (v:=M #[Z a1 m1 c1,C s1,Z m D p]) (by simp[results,Tryz.results223,go_sem,r0,r1,r2]) rfl ⟨_,rfl,l.keep kA,eA⟩
theorem zel(w:X)(v:J)(f:List Rat)(way:Int)(i:IsRs w v f)(l:∀q∈f,Rb limR q) :
  Calls Tryz.prog 176 #[v,O Y way] w (RetR w (foldR way f)):=by
 obtain⟨a,c,rfl⟩:=i.form;have x:∀(k:Fn)(first cap:Array J)(w:X),(Instr.makeFunc k first cap).run Tryz.prog w = .ok (.func k first cap) w:=fun _ _ _ _=>rfl
 have r:=hd9 l;obtain⟨n,m⟩:=gX f.length;rw[m]at i ⊢;clear l m;go_enter Tryz.func176,Tryz.ntmps176
 go_wp2_with(((go_at_call 223;(with_reducible refine(zk9 _ (Z a n c) f way w.heap.size ?_ r.out ?_).mono ?_);(refine i.ext' ?_;exact eA);(focus(go_simp;done));rintro e T ⟨R,rfl,d,j⟩;obtain⟨s,D,y,L,t,K,z,rfl⟩:=d.form;obtain⟨⟨g,u⟩,o,p⟩:=cK2 w j)))
 exact bR (v:=M #[Z s D y,C L,Z t K z]) (by simp[results,Tryz.results176,go_sem,g]) rfl ⟨_,rfl,d.keep kA,eA⟩
theorem zb0(w:X)(v:J)(f:List Rat)(i:IsRs w v f)(k:∀q∈f,Rb limR q) :
  Calls Tryz.prog 110 #[v] w (RetR w (foldR (-1) f)):=by
 obtain⟨a,c,rfl⟩:=i.form;have o:=hd9 k;obtain⟨n,l⟩:=gX f.length;rw[l]at i ⊢;clear k l;go_enter Tryz.func110,Tryz.ntmps110
 go_wp2_with(((go_at_call 176;(with_reducible refine(zel _ (Z a n c) f (-1) ?_ o.out).mono ?_);(refine i.ext' ?_;exact eA);rintro e K ⟨D,rfl,d,j⟩;obtain⟨p,x,t,z,r,y,u,rfl⟩:=d.form;obtain⟨⟨g,s⟩,m⟩:=cK1 w j)))
 exact bR (v:=M #[Z p x t,C z,Z r y u]) (by simp[results,Tryz.results110,go_sem,g]) rfl ⟨_,rfl,d.keep kA,eA⟩
theorem zbZ(w:X)(v:J)(f:List Rat)(i:IsRs w v f)(k:∀q∈f,Rb limR q) :
  Calls Tryz.prog 112 #[v] w (RetR w (foldR (1) f)):=by
 obtain⟨a,c,rfl⟩:=i.form;have o:=hd9 k;obtain⟨n,l⟩:=gX f.length;rw[l]at i ⊢;clear k l;go_enter Tryz.func112,Tryz.ntmps112
 go_wp2_with(((go_at_call 176;(with_reducible refine(zel _ (Z a n c) f (1) ?_ o.out).mono ?_);(refine i.ext' ?_;exact eA);rintro e K ⟨D,rfl,d,j⟩;obtain⟨p,x,t,z,r,y,u,rfl⟩:=d.form;obtain⟨⟨g,s⟩,m⟩:=cK1 w j)))
 exact bR (v:=M #[Z p x t,C z,Z r y u]) (by simp[results,Tryz.results112,go_sem,g]) rfl ⟨_,rfl,d.keep kA,eA⟩
end
section
open Go.RowKit Go.Shelf Go.Sort
theorem zeq{α:Type}[Inhabited α](enc:α->List J){k:Nat}(hk:∀x,(enc x).length=k)(d:Array α):(flatK enc k d).toList=(d.toList.map enc).flatten:=by
 have a:∀c∈d.toList.map enc,c.length=k:=fun c o=>by obtain⟨x,_,rfl⟩:=List.mem_map.1 o;exact hk x
 apply List.ext_getElem?
 intro t
 by_cases g:t<d.size*k
 ·have f:0<k:=by
   rcases Nat.eq_zero_or_pos k with h|h
   ·subst h;simp at g
   ·exact h
  have m:t / k<d.size:=by rw[Nat.div_lt_iff_lt_mul f];exact g
  have i:t % k<k:=Nat.mod_lt _ f
  have e:(d.toList.map enc)[t / k]?=V (enc d[t / k]!):=by
   rw[lP,Array.getElem?_toList,Array.getElem?_eq_getElem m,Option.map_some,getElem!_pos d _ m]
  have l:=zbe (j:=t % k) a e i;rw[show t / k*k+t % k=t by rw[Nat.mul_comm];exact Nat.div_add_mod t k]at l;rw[l,Array.getElem?_toList,Array.getElem?_eq_getElem (by simpa using g)];rw[<-getElem!_pos (flatK enc k d) t (by simpa using g),get_flatK enc k d t g,gE (by rw[hk];exact i),getElem!_pos _ _ (by rw[hk];exact i)]
 ·rw[List.getElem?_eq_none (by simp;omega),List.getElem?_eq_none (by rw[zar a];simp;omega)]
theorem znB{α:Type}[Inhabited α]{enc:α->List J}{k:Nat}{w:X}{g m:Nat}{os:Array Obj}{cur:Array J}{e:TypeId}{fr:Nat×Nat}(d:Array α)(hb:w.heap[g]?=V (G cur e fr)) :
  (sortWorldK enc k w g 0 m d os).heap[g]?=V (G (putCells id 0 (flatK enc k d) cur) e fr):=by
 have a:g<w.heap.size:=(Array.getElem?_eq_some_iff.1 hb).1;unfold sortWorldK putRowK;rw[heap_grow_old _ _ (by simpa using a)];simp[putRow,mapBlock,Sort.ahead,Array.getElem?_modify,hb,onCells]
theorem zlN{α:Type}[Inhabited α]{enc:α->List J}{k:Nat}{w:X}{g m:Nat}{os:Array Obj}(d:Array α):w.grownBy (sortWorldK enc k w g 0 m d os) (V g):=by
 unfold sortWorldK putRowK;refine⟨rfl,rfl,rfl,by simp,fun j c a=>?_⟩;rw[heap_grow_old _ _ (by simpa using c)];have:g≠j:=fun e=>a (by rw[e])
 simp[putRow,mapBlock,Sort.ahead,Array.getElem?_modify,this]
theorem zil(cur F:Array J)(h:F.size<=cur.size):(putCells id 0 F cur).toList.take F.size=F.toList:=by
 apply List.ext_getElem?
 intro j
 by_cases a:j<F.size
 ·rw[List.getElem?_take_of_lt a,Array.getElem?_toList]
  simp[putCells,a,show j<cur.size by omega]
 ·rw[List.getElem?_take_eq_none oM,List.getElem?_eq_none (by simp;omega)]
theorem zgE{α:Type}[Inhabited α]{enc:α->List J}{T:TypeId}{k:Nat}{w:X}{base g n cap m:Nat}{os:Array Obj}(hk:∀x,(enc x).length=k){d d':Array α}
  (h:OwnC T k w base (Z (V ⟨g,0,I⟩) n cap) (d.toList.map enc))(hs:d'.size=d.size):OwnC T k (sortWorldK enc k w g 0 m d' os) base (Z (V ⟨g,0,I⟩) n cap) (d'.toList.map enc):=by
 have f:∀c∈d'.toList.map enc,c.length=k:=fun c q=>by obtain⟨x,_,rfl⟩:=List.mem_map.1 q;exact hk x
 have t:=h.len;have a:(d'.toList.map enc).length=(d.toList.map enc).length:=by simp[hs]
 subst t;refine⟨f,zar f,?_⟩
 rcases h.2.2 with ⟨p,_⟩|⟨v,l,cur,hv,r,s,i,j,e,u⟩
 ·cases p
 ·cases hv
  have o:(flatK enc k d').size=(d'.toList.map enc).length*k:=sM
  refine .inr ⟨g,cap,_,by rw[a],r,znB d' s,by rw[a];exact i,j,by simp[putCells,e],?_⟩;rw[<-zeq enc hk d',<-o,zil _ _ (by rw[o,a,e];exact Nat.mul_le_mul_right _ i)]
theorem zhZ{α:Type}[Inhabited α]{enc:α->List J}{T:TypeId}{k:Nat}{w:X}{base g n cap:Nat}(hk:∀x,(enc x).length=k){d:Array α}
  (h:OwnC T k w base (Z (V ⟨g,0,I⟩) n cap) (d.toList.map enc)):HoldsK enc k w g 0 d:=by
 intro t a;rw[size_flatK]at a;have e:=h.len;have c:(d.toList.map enc).length=d.size:=sM
 subst e;refine⟨?_,by rw[Nat.zero_add];exact h.frozen t⟩;rw[Nat.zero_add,World.ownsRow.cellAt h.2 t (by rw[c];exact a),<-zeq enc hk d,Array.getElem?_toList,Array.getElem?_eq_getElem (by rw[size_flatK];exact a),getElem!_pos _ _ (by rw[size_flatK];exact a)];rfl
end
section
open Go.RowKit Go.Shelf
def wpN(_:Nat)(p:Prop):Prop:=p
theorem sN(k:Nat){p:Prop}(h:wpN k p):p:=h
theorem oN{k:Nat}{p:Prop}(h:p):wpN k p:=h
def NQ(Q:Exit->Act->X->Prop):Exit->Act->X->Prop
 | .normal,a,w=>Q .normal a w
 | _,_,_=>False
theorem zl2{Q:Exit->Act->X->Prop}:¬LetsOut (NQ Q):=fun⟨_,_,h⟩=>h
def noDefer(ops:Array Oper):Bool:=ops.all fun o=>match o.op with | .defer _=>false|_=>true
theorem zh5{ops:Array Oper}(h:noDefer ops=true){i:Nat}{o:Oper}(e:ops[i]?=V o):∀c,o.op ≠ .defer c:=by
 intro c a;unfold noDefer at h;rw[Array.all_eq_true]at h;obtain⟨d,rfl⟩:=Array.getElem?_eq_some_iff.1 e;have:=h i d;rw[a]at this
 cases this
theorem zj9{l n:Nat}{P:Program}{row:String}{args:Array J}{w:X}{R:J->X->Prop}(h:Rows P row args w R):RowsIn (Fence.wide.inRound l) n P row args w R:=by
 intro c a _;obtain⟨v,d,r,s⟩:=h c a;exact⟨v,d,r,stepsIn_wide.2 s⟩
theorem zh6{l n:Nat}{P:Program}{o:Oper}{a:Act}{w:X}{K:Act->X->Prop}{Q:Exit->Act->X->Prop}(j:∀c,o.op ≠ .defer c)(h:o.wp P a w K (NQ Q)):o.wpIn (Fence.wide.inRound l) n P a w K Q:=by
 refine⟨fun _ _=>trivial,?_⟩;rw[Oper.semAt_plain _ _ _ j];unfold Oper.wp at h
 generalize (execOp a.eval o).run P w=r at *
 have g:(Fence.wide.inRound l).depth.isSome=true->1<=n:=fun h=>by cases h
 cases r with
 | ok x k =>
  cases x with
  | value u=>exact h
  | skip=>exact h
  | defer d=>exact h
  | enter f args =>
   refine⟨g,CallsIn.inRound l (callsIn_wide.2 (cM h fun e m i=>?_))⟩
   cases e with
   | returned u=>exact i
   | panicked c=>exact i.elim
   | outgrown=>exact(zl2 i).elim
  | row row args=>exact⟨g,zj9 h⟩
  | _=>exact h.elim
 | halt x k =>
  cases x<;>first|exact h.elim|skip
theorem zcr{l n:Nat}{P:Program}{md:Region.Mode}{ops:Array Oper}{Q:Exit->Act->X->Prop}(e:noDefer ops=true):∀(fuel:Nat)(c:Array Bool)(a:Act)(w:X),
  wpAny P md ops (NQ Q) fuel c a w->wpAnyIn (Fence.wide.inRound l) n P md ops Q fuel c a w
 | 0,_,_,_,h=>h
 | fuel+1,c,a,w,h=>by
  refine⟨h.1,fun i j=>?_⟩;have d:=h.2 i j;unfold wpOp at d;unfold wpOpIn
  cases ho:ops[i]? with
  | none=>rw[ho]at d;exact zcr e fuel _ a w d
  | some o =>
   rw[ho]at d;dsimp only at d ⊢
   split
   ·rename_i hw
    rw[if_pos hw]at d
    rcases d with d|⟨_,d⟩
    ·exact Oper.wpIn_mono (fun f k g=>zcr e fuel _ f k g) (zh6 (zh5 e ho) d)
    ·exact(zl2 d).elim
   ·rename_i hw
    rw[if_neg hw]at d;exact⟨fun _ _=>trivial,zcr e fuel _ _ w d⟩
theorem zaq{l n:Nat}{P:Program}{ops:Array Oper}{Q:Exit->Act->X->Prop}{S:X->Prop}{f:Nat}{a:Act}{w:X}(e:P.follows .mixedOrders=true)(d:noDefer ops=true)(c:S w.drew)
  (h:S w.drew->wpAnyH P .any ops (NQ Q) S ops.size (Array.replicate ops.size false) a w.drew):(Code.region f ops true).wpIn (Fence.wide.inRound l) n P Q a w:=
 wpIn_region_any e (zcr d _ _ _ _ (wpAny_of_held _ _ _ _ (h c)))
end
section
open Go.ChangeShapes Go.WideShapes Go.Deep
section
variable {H:Type} {enc:TypeId×Value->H} {P:Program} {w:World} {spare:Nat->Bool} {held:Bool}
theorem zgS{k:Nat}:∀{a:List (List Value)}{j:Nat}{x:Value},0<k->(∀c∈a,c.length=k)->a.flatten[j]?=some x->∃d,a[j / k]?=some d/\d[j % k]?=some x
 | [],j,x,_,_,h=>by simp at h
 | c::a,j,x,hk,hc,h=>by
  have l:c.length=k:=hc c sM;rw[List.flatten_cons]at h
  by_cases f:j<k
  ·rw[List.getElem?_append_left oM]at h
   rw[Nat.div_eq_of_lt f,Nat.mod_eq_of_lt f];exact⟨c,rfl,h⟩
  ·rw[List.getElem?_append_right oM,l]at h
   obtain⟨d,g,i⟩:=zgS (j:=j-k) hk (fun c e=>hc c (mC _ e)) h;rw[Nat.div_eq_sub_div hk oM,Nat.mod_eq_sub_mod oM];exact⟨d,by simpa using g,i⟩
theorem zgy{t e:TypeId}{k fuel:Nat}{cs:List Value}{x:DataW H×List MemPlace}(ht:P.underlying t=some (.slice e))(hk:P.cellsOf e=k)(s:0<k)
  (h:DataW.trod enc P w 0 spare held fuel t cs=some x) :
  ∃(a:Option Addr)(n c:Nat)(T:TypeId)(q:List (List Value)),cs=[.slice a n c]/\q.length=n/\(∀d∈q,d.length=k)/\Rd w T k (.slice a n c) n q.flatten /\
   ∀d∈q,∃m y,DataW.trod enc P w 0 spare held m e d=some y:=by
 rcases open_slice ht h with ⟨rfl,_⟩|⟨a,len,cap,m,f,D,Pl,rfl,_,hl,hm,aa,_,R⟩
 ·exact⟨none,0,0,0,[],rfl,rfl,by simp,Rd.nil w 0 k,by simp⟩
 ·have ae:len<=m:=by rw[aa];split<;>omega
  rw[hk]at R;obtain⟨F,hF⟩:=choose_lt (α:=List Value) (n:=len) (p:=fun i d=>w.cells? 0 (a.add (i*k)) k=some d/\DataW.trod enc P w 0 spare held f e d=some (D i,Pl i)) (fun i l=>R i oM)
  have g:∀d∈(List.range len).map F,d.length=k:=by
   intro d hd;obtain⟨i,l,rfl⟩:=List.mem_map.1 hd;exact(World.cells?_some (hF i (List.mem_range.1 l)).1).2.1
  have L:∀d∈(List.range len).map F,∃m y,DataW.trod enc P w 0 spare held m e d=some y:=by
   intro d hd;obtain⟨i,l,rfl⟩:=List.mem_map.1 hd;exact⟨f,_,(hF i (List.mem_range.1 l)).2⟩
  by_cases h0:len=0
  ·subst h0
   exact⟨some a,0,cap,0,[],rfl,rfl,by simp,⟨by simp,some a,cap,rfl,hl,hm,.inl ⟨rfl,fun e=>by cases e⟩⟩,by simp⟩
  ·have u:=(World.cells?_some (hF 0 oM).1).2.2 0 s
   have ad:=g (F 0) (List.mem_map.2 ⟨0,List.mem_range.2 oM,rfl⟩);obtain⟨v0,ac⟩:∃v,(F 0)[0]?=some v:=⟨(F 0)[0]' oM,by simp⟩;rw[ac]at u;obtain⟨b,o,sp⟩:=a
   have ab:sp=none:=by
    have:=World.cell?_spot u
    simpa[Addr.add] using this
   subst ab;have e0:((⟨b,o,none⟩:Addr).add (0*k)).add 0=⟨b,o,none⟩:=by simp[Addr.add]
   rw[e0]at u
   obtain⟨blk,T,z,r⟩:∃blk T z,w.heap[b]?=some (.cells blk T z):=by
    unfold World.cell? at u
    split at u
    ·rename_i blk T z hb;exact⟨blk,T,z,hb⟩
    ·cases u
   refine⟨some ⟨b,o,none⟩,len,cap,T,(List.range len).map F,rfl,by simp,g,⟨?_,some ⟨b,o,none⟩,cap,rfl,hl,hm,.inr ⟨b,o,blk,z,rfl,r,fun j y hj=>?_⟩⟩,L⟩
   ·rw[zar g];simp
   ·obtain⟨d,K,h2⟩:=zgS s g hj
    obtain⟨l,rfl⟩:j / k<len/\F (j / k)=d:=by
     rw[lP]at K
     by_cases l:j / k<len
     ·rw[List.getElem?_range l]at K
      exact⟨l,Option.some.inj K⟩
     ·rw[List.getElem?_eq_none (by simpa using l)]at K
      cases K
    have c1:=(World.cells?_some (hF (j / k) l).1).2.2 (j % k) (Nat.mod_lt _ s);rw[h2]at c1
    have e1:((⟨b,o,none⟩:Addr).add (j / k*k)).add (j % k)=⟨b,o+j,none⟩:=by
     rw[add_add];have:j / k*k+j % k=j:=by rw[Nat.mul_comm];exact Nat.div_add_mod j k
     rw[this];unfold Addr.add
     split
     ·rename_i h;rw[h];rfl
     ·rfl
    rw[e1]at c1
    simpa[World.cell?,r] using c1
end
end
section
open Go.RowKit Go.Shelf
def preds(md:Region.Mode)(ops:Array Oper)(j:Nat):List Nat:=match ops[j]? with|some o=>(o.after.toList.filter (Region.binds md)).map (·.on)|none=>[]
def reach(md:Region.Mode)(ops:Array Oper):Nat->Nat->List Nat
 | 0,j=>preds md ops j
 | n+1,j=>preds md ops j++(preds md ops j).flatMap (reach md ops n)
def gated(md:Region.Mode)(ops:Array Oper)(late:Nat->Bool)(n:Nat):Bool:=
 (List.range ops.size).all fun j=>!late j || ((List.range ops.size).all fun i=>late i || (reach md ops n j).contains i)
def Cl(md:Region.Mode)(ops:Array Oper)(a:Array Bool):Prop:=∀k o,ops[k]?=V o->a.getD k false=true->∀e∈o.after,Region.binds md e=true->a.getD e.on false=true
section
variable {n:Nat} {P:Program} {ops:Array Oper} {Q:Exit->Act->X->Prop} {md:Region.Mode} {S:X->Prop} {late:Nat->Bool}
theorem zbS{a:Array Bool}{j:Nat}(h:∀o,ops[j]?=V o->∀e∈o.after,Region.binds md e=true->a.getD e.on false=true):∀k∈preds md ops j,a.getD k false=true:=by
 intro k c;unfold preds at c
 cases ho:ops[j]? with
 | none=>rw[ho]at c;cases c
 | some o =>
  rw[ho]at c;obtain⟨e,g,rfl⟩:=List.mem_map.1 c;obtain⟨d,f⟩:=List.mem_filter.1 g;exact h o ho e (by simpa using d) f
theorem zbq{a:Array Bool}(d:Cl md ops a):∀(n j:Nat),(∀o,ops[j]?=V o->∀e∈o.after,Region.binds md e=true->a.getD e.on false=true)->∀k∈reach md ops n j,a.getD k false=true
 | 0,j,h=>zbS h
 | n+1,j,h=>by
  intro k c
  rcases List.mem_append.1 c with c|c
  ·exact zbS h k c
  ·obtain⟨i,g,c⟩:=List.mem_flatMap.1 c
   have f:=zbS h i g;exact zbq d n i (fun o l=>d i o l f) k c
theorem zgx{a:Array Bool}{m i j:Nat}(p:gated md ops late m=true)(t:Cl md ops a)(u:i∈Region.ready md ops a)(x:late i=false)(v:j∈Region.ready md ops a):late j=false:=by
 cases hlj:late j with
 | false=>rfl
 | true =>
  exfalso
  obtain⟨r,z,e,d⟩:=mem_ready.1 v;obtain⟨c,y,q,_⟩:=mem_ready.1 u;unfold gated at p;rw[List.all_eq_true]at p;have g:=p j (List.mem_range.2 (Array.getElem?_eq_some_iff.1 e).1);rw[hlj]at g;simp only[Bool.not_true,Bool.false_or,List.all_eq_true]at g;have k:=g i (List.mem_range.2 (Array.getElem?_eq_some_iff.1 q).1);rw[x]at k;simp only[Bool.false_or,List.contains_eq_mem,decide_eq_true_eq]at k;have l:=zbq t m j (fun o s=>by rw[e]at s;cases s;exact d) i k
  rcases Nat.lt_or_ge i a.size with f | f
  ·simp[f]at l c;rw[l]at c;cases c
  ·simp[Array.getElem?_eq_none f]at l
theorem Cl.step{a:Array Bool}(r:Cl md ops a){j:Nat}(s:j∈Region.ready md ops a):Cl md ops (a.setIfInBounds j true):=by
 intro k o q p e m l
 have key:a.getD e.on false=true->(a.setIfInBounds j true).getD e.on false=true:=by
  intro h
  by_cases i:e.on=j
  ·subst i
   rcases Nat.lt_or_ge e.on a.size with g | g
   ·simp[g]
   ·simp[Array.getElem?_eq_none g]at h
  ·rw[getD_set_ne false (Ne.symm i)];exact h
 by_cases d:k=j
 ·subst d
  obtain⟨_,t,f,c⟩:=mem_ready.1 s;rw[q]at f;cases f;exact key (c e m l)
 ·rw[getD_set_ne false (Ne.symm d)]at p
  exact key (r k o q p e m l)
theorem Cl.start(m:Nat):Cl md ops (Array.replicate m false):=by
 intro k o _ a;simp[Array.getD_eq_getD_getElem?,Array.getElem?_replicate]at a
 split at a<;>simp at a
def HI(n:Nat)(P:Program)(md:Region.Mode)(ops:Array Oper)(Q:Exit->Act->X->Prop)(S:X->Prop)(late:Nat->Bool):Nat->Array Bool->Act->X->Prop
 | 0,c,a,w=>Region.ready md ops c=[]/\Q .normal a w
 | fuel+1,c,a,w =>
  (Region.ready md ops c=[]->Q .normal a w) /\
  ∀i∈Region.ready md ops c,wpOpIn Fence.wide n P ops Q i (fun e d=>(late i=false->S d)/\HI n P md ops Q S late fuel (c.setIfInBounds i true) e d) a w
end
end
section
open Go.RowKit Go.Shelf
def PP(_:X)(c:List J)(p:Int×Int):Prop:=c=[O Y p.1,O Y p.2]
abbrev IsPts(w:X)(v:J)(ps:LP):Prop:=Sl 43 2 PP w v ps
theorem IsPts.ext'{w w':X}{v:J}{ps:LP}(h:IsPts w v ps)(k:Ext w w'):IsPts w' v ps:=Sl.ext h (fun _ _ h=>h) k
theorem IsPts.keep'{w w':X}{v:J}{ps:LP}(h:IsPts w v ps)(k:KeepT 43 w w'):IsPts w' v ps:=Sl.keep h (fun _ _ h=>h) k
theorem IsPts.at'{w:X}{a:Option Addr}{n c:Nat}{ps:LP}(h:IsPts w (Z a n c) ps){i:Nat}{p:Int×Int}(k:ps[i]?=V p) :
  ∃b o,a=V ⟨b,o,I⟩/\b<w.heap.size/\w.cell? ⟨b,o+i*2,I⟩=V (O Y p.1)/\w.cell? ⟨b,o+i*2+1,I⟩=V (O Y p.2):=by
 obtain⟨b,o,d,rfl,j,l,g,f⟩:=Sl.at h k;have e:d=[O Y p.1,O Y p.2]:=g;subst e;exact⟨b,o,rfl,j,f 0 _ rfl,f 1 _ rfl⟩
def atc(ps:LP)(i:Int):Int×Int:=ps.getD ((i+ps.length) % ps.length).toNat (0,0)
theorem zf3{ps:LP}{i:Int}(h:0<ps.length):∃k:Nat,k<ps.length/\(i+(ps.length:Int)) % (ps.length:Int)=(k:Int)/\ps[k]?=V (atc ps i):=by
 have a:=Int.emod_nonneg (i+ps.length) (show (ps.length:Int)≠0 by omega);have c:=Int.emod_lt_of_pos (i+ps.length) (show 0<(ps.length:Int) by omega);refine⟨((i+ps.length) % ps.length).toNat,by omega,by omega,?_⟩;unfold atc;rw[gD];have:((i+(ps.length:Int)) % (ps.length:Int)).toNat<ps.length:=oM
 simp only[gE this,Option.getD_some]
theorem znR(w:X)(v:J)(ps:LP)(i:Int)(h:IsPts w v ps)(m:0<ps.length)(D:ps.length<=1000000)(t : -(ps.length:Int)<=i)(q:i<=1000000) :
  Calls Tryz.prog 246 #[v,O Y i] w fun e r=>e = .returned (M #[O Y (atc ps i).1,O Y (atc ps i).2])/\Ext w r:=by
 obtain⟨a,c,rfl⟩:=h.form;obtain⟨k,u,y,d⟩:=zf3 (i:=i) m;obtain⟨b,o,rfl,s,j,l⟩:=h.at' d;obtain⟨x,f⟩:=gX ((atc ps i).1);obtain⟨z,g⟩:=gX ((atc ps i).2);rw[f]at j ⊢;rw[g]at l ⊢;clear f g d h
 generalize ps.length=n at *
 have K:(0:Int)<=i+(n:Int):=oM
 have L:(0:Int)<(n:Int):=oM
 have R:(k:Int)<(n:Int):=oM
 have p:b<w.heap.size+1:=oM
 go_enter Tryz.func246,Tryz.ntmps246;go_wp2;exact bR (v:=M #[O Y x,O Y z]) (by simp[results,Tryz.results246,go_sem]) rfl ⟨rfl,eA⟩
def leastP:LP->Int×Int
 | []=>(0,0)
 | p::ps=>ps.foldl (fun o q=>(min o.1 q.1,min o.2 q.2)) p
theorem zgo(ps:LP)(q:Int×Int)(h:ps≠[]):leastP (ps++[q])=(min (leastP ps).1 q.1,min (leastP ps).2 q.2):=by
 cases ps with
 | nil=>exact absurd rfl h
 | cons p ps=>simp[leastP]
def LeS(w:X)(ps:LP)(g:Nat)(a:J)(W:X):Prop:=
 ∃i:Nat,i<=ps.length/\a=O Y i/\g=ps.length-i/\Ext w W/\W.heap[w.heap.size]?=V (G #[O Y 0,O Y 0] 43 (0,0)) /\
  ∃x z,(if i=0 then ps[0]?=V (x,z)else leastP (ps.take i)=(x,z))/\W.heap[w.heap.size+1]?=V (G #[O Y x,O Y z] 43 (0,0))
theorem zgp{ps:LP}{i:Nat}{x z:Int}{q:Int×Int}(h:if i=0 then ps[0]?=V (x,z)else leastP (ps.take i)=(x,z))(a:ps[i]?=V q) :
  leastP (ps.take (i+1))=(min x q.1,min z q.2):=by
 rw[zab _ _ _ a]
 by_cases c:i=0
 ·subst c
  rw[if_pos rfl]at h;rw[h]at a
  cases a
  simp[leastP]
 ·rw[if_neg c]at h
  rw[zgo _ _ (by
   intro e;have:=(lS.1 a).1;have d:(ps.take i).length=0:=by rw[e];rfl
   rw[List.length_take]at d;omega),h]
theorem LeS.step{w wr:X}{ps:LP}{i n:Nat}{x z c d a b:Int}(l:ps.length=n)(k:i<n)(o:Ext w wr)(f:wr.heap[w.heap.size]?=V (G #[O Y 0,O Y 0] 43 (0,0)))
  (e:wr.heap[w.heap.size+1]?=V (G #[O Y x,O Y z] 43 (0,0)))(hv:if i=0 then ps[0]?=V (x,z)else leastP (ps.take i)=(x,z))(m:ps[i]?=V (c,d))(g:a=min x c)(j:b=min z d) :
  LeS w ps (n-(i+1)) (O Y ((i:Int)+1)) (((wr.setCell ⟨w.heap.size+1,0,I⟩ (O Y a)).setCell ⟨w.heap.size+1,1,I⟩ (O Y b)).alloc (G #[O Y c,O Y d] 43)):=by
 have p:=zaa e;refine⟨i+1,by omega,by go_num,by rw[l],eA,?_,a,b,?_,?_⟩
 ·rw[zaf,if_neg (by simp only[qcZ];omega),bS _ _ _ _ dO,bS _ _ _ _ dO]
  exact f
 ·rw[if_neg oM,zgp hv m,g,j]
 ·rw[zaf,if_neg (by simp only[qcZ];omega)]
  exact zaj e _ _
theorem zfw(w:X)(v:J)(ps:LP)(h:IsPts w v ps)(h0:0<ps.length) :
  Calls Tryz.prog 208 #[v] w fun e w'=>e = .returned (M #[O Y (leastP ps).1,O Y (leastP ps).2])/\Ext w w':=by
 obtain⟨a,c,rfl⟩:=h.form;obtain⟨n,r⟩:=gX ps.length;rw[r]at h ⊢;have k:=h.le;unfold maxLen at k;have ac:0<n:=oM
 have ad:n<=9223372036854775807:=oM
 obtain⟨p,s⟩:∃p,ps[0]?=V p:=⟨ps[0],by simp⟩;obtain⟨x0,z0⟩:=p;obtain⟨b,o,rfl,hb,y,D⟩:=h.at' s;simp only[Nat.zero_mul,Nat.add_zero]at y D;have ab:b<w.heap.size+1:=oM
 have d:=hd9 r;have T:=hd9 s;clear r k s h0;go_enter Tryz.func208,Tryz.ntmps208;go_wp2
 go_loopg [11] n (LeS w ps)
 case atStart =>
  refine⟨0,by omega,rfl,by rw[d.out];rfl,eA,by rw[zaf,if_neg sM];exact qhA _ _ _ rfl,x0,z0,by simpa using T.out,qhA _ _ _ sM⟩
 case round =>
  obtain⟨i,hi,rfl,rfl,K,g,x,z,hv,f⟩:=hrel;rw[d.out]at hi;have r0:=qcB g (i:=0) (u:=O Y 0) rfl;have r1:=qcB g (i:=1) (u:=O Y 0) rfl;have ag:=qfB g 0;have ah:=qfB g 1;have o0:=qcB f (i:=0) (u:=O Y x) rfl;have o1:=qcB f (i:=1) (u:=O Y z) rfl;have ae:=qfB f 0;have af:=qfB f 1;have zr:=zaa g;have zo:=zaa f;have R:=hd9 g;have L:=hd9 f;have HV:=hd9 hv;clear g f hv y D
  by_cases l:i<n
  ·obtain⟨q,t⟩:∃q,ps[i]?=V q:=⟨ps[i]'(by rw[d.out];omega),by simp[d.out,l]⟩
   obtain⟨b',o',e',aa,d0,d1⟩:=(h.ext' K).at' t
   cases e'
   obtain⟨qx,qz⟩:=q;have Hq:=hd9 t;clear t;go_wp2
   all_goals
    go_roundg (n-(i+1))
    case measure=>have:=d.out;omega
    case rel =>
     exact LeS.step d.out l K R.out L.out HV.out Hq.out oM oM
  ·obtain rfl:i=n:=oM
   have j:=HV.out;rw[if_neg oM,lT (by rw[d.out];omega)]at j;have m:=hd9 j;clear j;go_wp2;refine bR (v:=M #[O Y x,O Y z]) (by simp[results,Tryz.results208,go_sem,r0,r1]) rfl ⟨?_,eA⟩;rw[m.out]
def NB(W:X)(b:Nat)(n:Int):Prop:=∃s a m c,W.heap[b]?=V (G #[O Y s,Z a m c] 66 (0,0))/\IsN W (M #[O Y s,Z a m c]) n
section
variable {W W':X} {b b':Nat} {n n':Int}
theorem NB.ext(h:NB W b n)(k:Ext W W'):NB W' b n:=by
 obtain⟨s,a,m,c,d,e⟩:=h;exact⟨s,a,m,c,k.heapS d,e.ext k⟩
theorem NB.not(h:NB W b n):NoT 3 W b:=by
 obtain⟨s,a,m,c,d,i⟩:=h;intro f g e;rw[d]at e;cases e
theorem NB.rd(h:NB W b n):∃s a m c,s=n.sign/\W.cell? ⟨b,0,I⟩=V (O Y s)/\W.cell? ⟨b,1,I⟩=V (Z a m c)/\W.frozen? ⟨b,0,I⟩=false/\W.frozen? ⟨b,1,I⟩=false/\b<W.heap.size/\IsN W (M #[O Y s,Z a m c]) n:=by
 obtain⟨s,a,m,c,d,e⟩:=h;exact⟨s,a,m,c,e.sgn,qcB d (i:=0) rfl,qcB d (i:=1) rfl,qfB d 0,qfB d 1,zaa d,e⟩
theorem NB.put{s:Int}{a:Option Addr}{m c:Nat}(h:NB W b n)(f:IsN W (M #[O Y s,Z a m c]) n'):NB ((W.setCell ⟨b,0,I⟩ (O Y s)).setCell ⟨b,1,I⟩ (Z a m c)) b n':=by
 have d:=h.not;obtain⟨l,g,k,i,e,j⟩:=h;exact⟨s,a,m,c,zaj e _ _,f.keep (((KeepT.refl _ W).setN d _).setN (d.set _ _) _)⟩
theorem NB.other{p:Addr}(h:NB W b n)(g:p.block≠b)(i:NoT 3 W p.block)(u:J):NB (W.setCell p u) b n:=by
 obtain⟨s,a,m,c,d,f⟩:=h;exact⟨s,a,m,c,(bS _ _ _ _ (fun e=>g e.symm)).trans d,f.keep ((KeepT.refl _ W).setN i _)⟩
theorem NB.new{W0:X}{s:Int}{a:Option Addr}{m c:Nat}(e:IsN W0 (M #[O Y s,Z a m c]) n)(d:b=W0.heap.size):NB (W0.alloc (G #[O Y s,Z a m c] 66)) b n:=
 ⟨s,a,m,c,qhA _ _ _ d,e.ext ((eR _).alloc _)⟩
end
theorem zcl{W:X}{b:Nat}{cs:Array J}{a:Nat×Nat}(h:W.heap[b]?=V (G cs 66 a))(u v:J):KeepT 3 W ((W.setCell ⟨b,0,I⟩ u).setCell ⟨b,1,I⟩ v):=by
 have c:NoT 3 W b:=by intro cs a e;rw[h]at e;cases e
 exact((KeepT.refl _ W).setN c _).setN (c.set _ _) _
theorem zox(n:Int) : -1<=n.sign/\n.sign<=1:=by rcases zai n with h|h|h<;>omega
theorem IsN.neg{w:X}{s:Int}{a:Option Addr}{m c:Nat}{n:Int}(h:IsN w (M #[O Y s,Z a m c]) n):IsN w (M #[O Y (-s),Z a m c]) (-n):=by
 obtain⟨sl,d,e,f,g,i⟩:=h
 cases e
 exact⟨_,d,by rw[Int.sign_neg],f,g,by rw[Int.natAbs_neg];exact i⟩
theorem IsN.abs{w:X}{s:Int}{a:Option Addr}{m c:Nat}{n:Int}(h:IsN w (M #[O Y s,Z a m c]) n):IsN w (M #[O Y (s*s),Z a m c]) (n.natAbs:Int):=by
 obtain⟨sl,d,f,g,i,j⟩:=h
 cases f
 refine⟨_,d,?_,g,i,by simpa using j⟩
 rcases zai n with ⟨e,h⟩|⟨e,h⟩|⟨e,h⟩<;>rw[e]
 ·rw[show ((n.natAbs:Int)).sign=1 from Int.sign_eq_one_of_pos oM];rfl
 ·subst h;rfl
 ·rw[show ((n.natAbs:Int)).sign=1 from Int.sign_eq_one_of_pos oM];rfl
theorem zcw(w:X)(v:J)(n:Int)(h:IsN w v n):Calls Tryz.prog 193 #[v] w (RetN w (-n)):=by
 obtain⟨s,a,m,c,rfl,e⟩:=h.form2;have d:=zox n;rw[<-e]at d;clear e;go_enter Tryz.func193,Tryz.ntmps193;go_wp2;exact bR (v:=M #[O Y (-s),Z a m c]) (by simp[results,Tryz.results193,go_sem]) rfl ⟨_,rfl,h.neg.ext eA,eA⟩
theorem zmc(w:X)(s:Int)(a:Option Addr)(m c:Nat)(n:Int)(h:IsN w (M #[O Y s,Z a m c]) n):Calls Tryz.prog 190 #[M #[O Y s,Z a m c]] w fun e i=>e = .returned (M #[O Y (s*s),Z a m c])/\Ext w i:=by
 have f:=h.sgn;have d:s*s=1\/s*s=0:=by rcases zai n with ⟨e,_⟩|⟨e,_⟩|⟨e,_⟩<;>rw[f,e]<;>decide
 obtain⟨p,g⟩:=gX (s*s);rw[g]at d ⊢;have j:0<=p:=oM
 have k:p<=1:=oM
 clear f d h;go_enter Tryz.func190,Tryz.ntmps190;go_wp2;exact bR (v:=M #[O Y p,Z a m c]) (by simp[results,Tryz.results190,go_sem]) rfl ⟨rfl,eA⟩
theorem zgU(w:X)(v:J)(n:Int)(h:IsN w v n):Calls Tryz.prog 190 #[v] w (RetN w (n.natAbs:Int)):=by
 obtain⟨s,a,m,c,rfl,f⟩:=h.form2;exact(zmc w s a m c n h).mono fun _ _ ⟨e,d⟩=>⟨_,e,h.abs.ext d,d⟩
def ZiS(w:X)(n:Int)(t0 t4:J)(wr:X):Prop:=
 ∃(cur:Int)(a:List Int),t0=O Y cur /\ -9223372036854775808<=cur/\cur<=9223372036854775807/\a.length<=5/\Dig C4 a/\(n.natAbs:Int)=dv C4 a+C4 ^ a.length*(cur.natAbs:Int) /\
  Own 3 wr (w.heap.size+1) t4 a/\Ext w wr/\w.heap.size<wr.heap.size/\wr.heap[w.heap.size]?=V (G #[O Y 0,Z I 0 0] 66 (0,0))
theorem zmC{N c d:Int}{k:Nat}(h:N=d+C4 ^ k*c)(l:0<=d)(j:N<=9223372036854775808)(e:1<=c):k<=4:=by
 by_cases a:k<=4
 ·exact a
 ·have f:=zaD (b:=C4) dM (show 5<=k by omega)
  have g:C4 ^ k*1<=C4 ^ k*c:=Int.mul_le_mul_of_nonneg_left e (by have:=zap zbk k;omega);have i:C4 ^ 5=100000000000000000000:=dM
  omega
theorem zfa{N c r q:Int}{a:List Int}(h:N=dv C4 a+C4 ^ a.length*c)(f:r=c % 10000)(d:q=c / 10000):N=dv C4 (a++[r])+C4 ^ (a++[r]).length*q:=by
 subst f d;rw[lA,List.length_singleton];have:=ziE a a a.length c rfl;rw[zbu,h,Int.pow_succ];have e:c=c % 10000+C4*(c / 10000):=by unfold C4;omega
 generalize c % 10000=r at *
 generalize c / 10000=q at *
 subst e
 grind
theorem zoF(x:Int):((Int.tmod x 10000).natAbs:Int)=(x.natAbs:Int) % 10000/\((Int.tdiv x 10000).natAbs:Int)=(x.natAbs:Int) / 10000:=by
 by_cases a:0<=x
 ·rw[Int.tmod_eq_emod_of_nonneg a,Int.tdiv_eq_ediv_of_nonneg a];omega
 ·obtain⟨y,rfl⟩:∃y,x = -y:=⟨-x,by omega⟩
  rw[Int.neg_tmod,Int.neg_tdiv];rw[Int.tmod_eq_emod_of_nonneg oM,Int.tdiv_eq_ediv_of_nonneg oM];omega
theorem zbm(w:X)(n:Int)(h0 : -9223372036854775808<=n)(h1:n<=9223372036854775807):Calls Tryz.prog 96 #[O Y n] w (RetN w n):=by
 have D:n<0->Calls Tryz.prog 96 #[O Y n] w (RetN w n):=by
  intro hn;go_enter Tryz.func96,Tryz.ntmps96;go_wp2
  go_loopw [0,4] (ZiS w n) (fun t0 _ _=>(intOf t0).natAbs)
  case atStart=>exact⟨n,[],rfl,by omega,by omega,by simp,Dig.nil _,by simp,Own.nil _ _ _,(eR w).alloc _,by simp,aN w _⟩
  case round =>
   obtain⟨cur,ys,rfl,c0,c1,ah,j,hv,g,s,aa,k⟩:=hrel;have y:=hd9 hv;have a:=hd9 k;clear hv k;obtain⟨oa,oc,rfl⟩:=g.form
   by_cases hc:cur=0
   ·subst hc
    have e:(n.natAbs:Int)=dv C4 ys:=by have:=y.out;simpa using this
    have E:=hd9 e;have ab:=qcB a.out (i:=0) (u:=O Y 0) rfl;have ac:=qcB a.out (i:=1) (u:=Z I 0 0) rfl;have ai:=qfB a.out 0;have aj:=qfB a.out 1;clear e
    go_wp2_with(go_at_call 152;(with_reducible refine(zbO _ (-1) _ ys n g.ints oM (fun x hx=>?_) ?_ ?_ ?_).mono ?_);(have:=j x hx;unfold C4 at this;omega);(rw[<-E.out];omega);(rw[<-E.out];omega);(intro _;first|exact .inl rfl|exact .inr rfl);rintro e w1 ⟨r1,rfl,o,p⟩;obtain⟨s1,a1,m1,c1,rfl,-⟩:=o.form2;obtain⟨T,af⟩:=p.cells)
    exact bR (v:=M #[O Y s1,Z a1 m1 c1]) (by simp[results,Tryz.results96,go_sem,T,aa,ab,ac]) rfl ⟨_,rfl,o.keep (zcl (p.heapS a.out) _ _),eA⟩
   ·have ae:(cur != 0)=true:=by simpa using hc
    have ag:ys.length<=4:=zmC y.out (zak zbk j).1 oM oM;obtain⟨L,R⟩:=zoF cur;obtain⟨r,hr⟩:=gX (Int.tmod cur 10000);obtain⟨q,hq⟩:=gX (Int.tdiv cur 10000);rw[hr]at L;rw[hq]at R;have r1 : -10000<r:=oM
    have r2:r<10000:=oM
    have q1 : -9223372036854775808<=q:=oM
    have q2:q<=9223372036854775807:=oM
    have l:=hd9 L;have t:=hd9 R;clear L R
    by_cases ad:r<0
    ·skip
     have m : -r=(cur.natAbs:Int) % 10000:=by have:=l.out;omega
     have z:=hd9 m;clear m
     go_wp2_with(at_builtin;refine app1 za0 Tryz.underlying64 rfl _ _ rfl rfl g rfl oM oM ?_;intro v' w1 f c d)
     go_roundw
     case rel =>
      refine⟨q,_,rfl,by omega,by omega,by simp;omega,j.snoc (by have:=l.out;omega) (by have:=l.out;unfold C4;omega),zfa y.out z.out t.out,f,s.thenB c oM,?_,?_⟩
      ·have:=c.size;omega
      ·exact d.get a.out dM
     case measure=>have:=t.out;simp[intOf];omega
    ·skip
     have m:r=(cur.natAbs:Int) % 10000:=by have:=l.out;omega
     have z:=hd9 m;clear m
     go_wp2_with(at_builtin;refine app1 za0 Tryz.underlying64 rfl _ _ rfl rfl g rfl oM oM ?_;intro v' w1 f c d)
     go_roundw
     case rel =>
      refine⟨q,_,rfl,by omega,by omega,by simp;omega,j.snoc (by have:=l.out;omega) (by have:=l.out;unfold C4;omega),zfa y.out z.out t.out,f,s.thenB c oM,?_,?_⟩
      ·have:=c.size;omega
      ·exact d.get a.out dM
     case measure=>have:=t.out;simp[intOf];omega
 have K:¬n<0->Calls Tryz.prog 96 #[O Y n] w (RetN w n):=by
  intro hn;go_enter Tryz.func96,Tryz.ntmps96;go_wp2
  go_loopw [0,4] (ZiS w n) (fun t0 _ _=>(intOf t0).natAbs)
  case atStart=>exact⟨n,[],rfl,by omega,by omega,by simp,Dig.nil _,by simp,Own.nil _ _ _,(eR w).alloc _,by simp,aN w _⟩
  case round =>
   obtain⟨cur,ys,rfl,c0,c1,ah,j,hv,g,s,aa,k⟩:=hrel;have y:=hd9 hv;have a:=hd9 k;clear hv k;obtain⟨oa,oc,rfl⟩:=g.form
   by_cases hc:cur=0
   ·subst hc
    have e:(n.natAbs:Int)=dv C4 ys:=by have:=y.out;simpa using this
    have E:=hd9 e;have ab:=qcB a.out (i:=0) (u:=O Y 0) rfl;have ac:=qcB a.out (i:=1) (u:=Z I 0 0) rfl;have ai:=qfB a.out 0;have aj:=qfB a.out 1;clear e
    go_wp2_with(go_at_call 152;(with_reducible refine(zbO _ (1) _ ys n g.ints oM (fun x hx=>?_) ?_ ?_ ?_).mono ?_);(have:=j x hx;unfold C4 at this;omega);(rw[<-E.out];omega);(rw[<-E.out];omega);(intro _;first|exact .inl rfl|exact .inr rfl);rintro e w1 ⟨r1,rfl,o,p⟩;obtain⟨s1,a1,m1,c1,rfl,-⟩:=o.form2;obtain⟨T,af⟩:=p.cells)
    exact bR (v:=M #[O Y s1,Z a1 m1 c1]) (by simp[results,Tryz.results96,go_sem,T,aa,ab,ac]) rfl ⟨_,rfl,o.keep (zcl (p.heapS a.out) _ _),eA⟩
   ·have ae:(cur != 0)=true:=by simpa using hc
    have ag:ys.length<=4:=zmC y.out (zak zbk j).1 oM oM;obtain⟨L,R⟩:=zoF cur;obtain⟨r,hr⟩:=gX (Int.tmod cur 10000);obtain⟨q,hq⟩:=gX (Int.tdiv cur 10000);rw[hr]at L;rw[hq]at R;have r1 : -10000<r:=oM
    have r2:r<10000:=oM
    have q1 : -9223372036854775808<=q:=oM
    have q2:q<=9223372036854775807:=oM
    have l:=hd9 L;have t:=hd9 R;clear L R
    by_cases ad:r<0
    ·skip
     have m : -r=(cur.natAbs:Int) % 10000:=by have:=l.out;omega
     have z:=hd9 m;clear m
     go_wp2_with(at_builtin;refine app1 za0 Tryz.underlying64 rfl _ _ rfl rfl g rfl oM oM ?_;intro v' w1 f c d)
     go_roundw
     case rel =>
      refine⟨q,_,rfl,by omega,by omega,by simp;omega,j.snoc (by have:=l.out;omega) (by have:=l.out;unfold C4;omega),zfa y.out z.out t.out,f,s.thenB c oM,?_,?_⟩
      ·have:=c.size;omega
      ·exact d.get a.out dM
     case measure=>have:=t.out;simp[intOf];omega
    ·skip
     have m:r=(cur.natAbs:Int) % 10000:=by have:=l.out;omega
     have z:=hd9 m;clear m
     go_wp2_with(at_builtin;refine app1 za0 Tryz.underlying64 rfl _ _ rfl rfl g rfl oM oM ?_;intro v' w1 f c d)
     go_roundw
     case rel =>
      refine⟨q,_,rfl,by omega,by omega,by simp;omega,j.snoc (by have:=l.out;omega) (by have:=l.out;unfold C4;omega),zfa y.out z.out t.out,f,s.thenB c oM,?_,?_⟩
      ·have:=c.size;omega
      ·exact d.get a.out dM
     case measure=>have:=t.out;simp[intOf];omega
 by_cases hn:n<0
 ·exact D hn
 ·exact K hn
theorem nbh0(w:X)(o a:Obj):((w.alloc o).alloc a).heap[w.heap.size]?=V o:=by
 rw[Below.heap_alloc _ _ _ sM];exact aN w o
def LgS(w:X)(s i:Int)(a f:Option Addr)(m g c c':Nat)(xs e:List Int)(D:Int)(t5 k:J)(W:X):Prop:=
 ∃d j:Int,t5=O Y d/\k=O Y j /\ -1<=j/\j<m /\ -9223372036854775807<=d/\d<=9223372036854775807/\(d≠0->d.sign=D)/\(d=0->xs.length=e.length/\xs.drop (j+1).toNat=e.drop (j+1).toNat)/\Ext w W /\
  W.heap[w.heap.size]?=V (G #[O Y s,Z a m c] 66 (0,0))/\W.heap[w.heap.size+1]?=V (G #[O Y i,Z f g c'] 66 (0,0))
theorem zcj(w:X)(va vb:J)(na nb:Int)(ha:IsN w va na)(hb:IsN w vb nb) :
  Calls Tryz.prog 191 #[va,vb] w fun e w'=>e = .returned (O Y ((na.natAbs:Int)-(nb.natAbs:Int)).sign)/\Ext w w':=by
 obtain⟨s,a,m,c,rfl,hs⟩:=ha.form2;obtain⟨s',a',m',c',rfl,al⟩:=hb.form2;obtain⟨xs,hl,hi,hc,hv⟩:=ha.open;obtain⟨ys,R,ac,L,af⟩:=hb.open;have hm:=hi.le;have ae:=ac.le;rw[hl]at hm;rw[R]at ae;unfold maxLen at hm ae;obtain⟨D,hD⟩:=gX (((na.natAbs:Int)-(nb.natAbs:Int)).sign);rw[hD];rw[<-hv,<-af]at hD;have HD:=hd9 hD;have r:=hd9 hl;have f:=hd9 R;clear hs al hl R hv af hD ha hb;go_enter Tryz.func191,Tryz.ntmps191;go_wp2
 go_loopw [5,6] (LgS w s s' a a' m m' c c' xs ys D) (fun _ t6 _=>(intOf t6+1).toNat)
 case atStart =>
  refine⟨(m:Int)-m',(m:Int)-1,rfl,rfl,by omega,by omega,by omega,by omega,fun h=>?_,fun h=>⟨by rw[r.out,f.out];omega,?_⟩,eA,nbh0 ..,qhA _ _ _ sM⟩
  ·rw[<-HD.out,<-zob hc L (by rw[r.out,f.out];omega),r.out,f.out]
  ·rw[List.drop_of_length_le (by rw[r.out];omega),List.drop_of_length_le (by rw[f.out];omega)]
 case round =>
  obtain⟨d,j,rfl,rfl,j0,j1,d0,d1,t,hz,hx,K,l⟩:=hrel;have Hd:=hd9 t;have Hz:=hd9 hz;have ah:=hd9 K;have ai:=hd9 l;have ap:=qcB K (i:=1) (u:=Z a m c) rfl;have aq:=qcB l (i:=1) (u:=Z a' m' c') rfl;clear t hz K l
  rcases Int.lt_trichotomy d 0 with t|t|t
  ·have e:D = -1:=by rw[<-Hd.out oM];exact Int.sign_eq_neg_one_of_neg t
   have hd9:¬d=0:=oM
   have aj:(d==0)=false:=by simpa using hd9
   have av:¬0<d:=oM
   by_cases hj:0<=j
   all_goals
    go_wp2;go_ret;exact⟨rfl,eA⟩
  ·subst t
   obtain⟨ad,g⟩:=Hz.out rfl;have z:=hd9 ad;have T:=hd9 g;clear ad g
   by_cases hj:0<=j
   ·obtain⟨k,rfl⟩:=Int.eq_ofNat_of_zero_le hj
    have hk:k<m:=oM
    have ak:k<m':=by have:=z.out;rw[r.out,f.out]at this;omega
    obtain⟨b,o,rfl,l,ag⟩:=(hi.ext hx).open (by rw[r.out];omega);obtain⟨b',o',rfl,ao,v⟩:=(ac.ext hx).open (by rw[f.out];omega);obtain⟨x,p⟩:∃x,xs[k]?=V x:=⟨xs[k]'(by rw[r.out];omega),by simp[r.out,hk]⟩;obtain⟨y,q⟩:∃y,ys[k]?=V y:=⟨ys[k]'(by rw[f.out];omega),by simp[f.out,ak]⟩;have ar:=ag k x p;have au:=v k y q;have am:=hc.1 x (lM p);have an:=L.1 y (lM q);unfold C4 at am an;have aa:=hd9 p;have ab:=hd9 q;clear ag v p q;go_wp2
    go_quiet (fail)
    go_wp2
    go_roundw
    case rel =>
     have g:=T.out;rw[show ((k:Int)+1).toNat=k+1 by omega]at g;refine⟨_,(k:Int)-1,rfl,rfl,by omega,by omega,by omega,by omega,fun h=>?_,fun h=>⟨z.out,?_⟩,eA,?_,?_⟩
     ·rw[<-HD.out];exact zoa hc L z.out aa.out ab.out g oM
     ·obtain rfl:x=y:=oM
      rw[show ((k:Int)-1+1).toNat=k by omega];exact zna aa.out ab.out g
     ·exact ah.out
     ·exact ai.out
    case measure=>simp[intOf]
   ·obtain rfl:j = -1:=oM
    have e:D=0:=by
     have:=T.out;simp only[show ((-1:Int)+1).toNat=0 from rfl,List.drop_zero]at this;rw[<-HD.out,this];simp
    go_wp2;go_ret;exact⟨rfl,eA⟩
  ·have e:D=1:=by rw[<-Hd.out oM];exact Int.sign_eq_one_of_pos t
   have hd9:¬d=0:=oM
   have aj:(d==0)=false:=by simpa using hd9
   by_cases hj:0<=j
   all_goals
    go_wp2;go_ret;subst e;exact⟨rfl,eA⟩
end
section
open Go.RowKit Go.Shelf
theorem zbM(w:X)(v:J)(ps:LP)(i x z:Int)(h:IsPts w v ps)(c:0<ps.length)(f:ps.length<=1000000)(d : -(ps.length:Int)<=i)(a:i<=1000000)(g:atc ps i=(x,z)) :
  Calls Tryz.prog 246 #[v,O Y i] w fun e j=>e = .returned (M #[O Y x,O Y z])/\Ext w j:=by
 have:=znR w v ps i h c f d a
 rwa [g]at this
theorem zcG(w:X)(a c d f g i T:Int)(j:Bd 100000000 a)(k:Bd 100000000 c)(l:Bd 100000000 d)(m:Bd 100000000 f)(o:Bd 100000000 g)(h6:Bd 100000000 i)(p:trn (a,c) (d,f) (g,i)=T) :
  Calls Tryz.prog 245 #[M #[O Y a,O Y c],M #[O Y d,O Y f],M #[O Y g,O Y i]] w fun e q=>e = .returned (O Y T)/\Ext w q:=by
 have:=zlQ w a c d f g i j k l m o h6
 rwa [p]at this
def PBd(k:Int)(ps:LP):Prop:=∀p∈ps,Bd k p.1/\Bd k p.2
theorem PBd.at{k:Int}{ps:LP}(h:PBd k ps)(c:0<ps.length){i:Int}{x z:Int}(d:atc ps i=(x,z)):Bd k x/\Bd k z:=by
 obtain⟨j,_,_,a⟩:=zf3 (i:=i) c;rw[d]at a;exact h _ (lM a)
theorem zdp{ps:LP}{i:Nat}(h:i<ps.length):ps[i]?=V (atc ps i):=by
 unfold atc
 have e:(((i:Int)+ps.length) % ps.length).toNat=i:=by
  rw[Int.add_emod_right,Int.emod_eq_of_lt oM oM];omega
 rw[e,gD,gE h];rfl
def cvx1(ps:LP)(i:Nat):Bool:=decide (0<trn (atc ps ((i:Int)-1)) (atc ps i) (atc ps ((i:Int)+1)))
def cvx2(ps:LP)(i k:Nat):Bool:=decide (0<trn (atc ps i) (atc ps ((i:Int)+1)) (atc ps ((i:Int)+k)))
def cvxR(ps:LP)(i:Nat):Bool:=cvx1 ps i&&(List.range (ps.length-1)).all fun k=>decide (k<2) || cvx2 ps i k
def convexB(ps:LP):Bool:=wthn ps.length 3 12&&(List.range ps.length).all (cvxR ps)
theorem zen{ps:LP}{i:Nat}(h:i<ps.length)(a:cvxR ps i=false):convexB ps=false:=by
 unfold convexB;rw[Bool.and_eq_false_iff]
 right
 rw[List.all_eq_false];exact⟨i,List.mem_range.2 h,by simp[a]⟩
theorem zga{ps:LP}(a:wthn ps.length 3 12=true)(h:∀i,i<ps.length->cvxR ps i=true):convexB ps=true:=by
 unfold convexB;rw[a,Bool.true_and,List.all_eq_true];exact fun i c=>h i (List.mem_range.1 c)
theorem zkY{ps:LP}{i:Nat}(h:cvx1 ps i=false):cvxR ps i=false:=by unfold cvxR;rw[h];rfl
theorem zkZ{ps:LP}{i k:Nat}(a:k<ps.length-1)(c:2<=k)(h:cvx2 ps i k=false):cvxR ps i=false:=by
 unfold cvxR;rw[Bool.and_eq_false_iff]
 right
 rw[List.all_eq_false];exact⟨k,List.mem_range.2 a,by simp[h];omega⟩
theorem zk0{ps:LP}{i:Nat}(h:cvx1 ps i=true)(c:∀k,2<=k->k<ps.length-1->cvx2 ps i k=true):cvxR ps i=true:=by
 unfold cvxR;rw[h,Bool.true_and,List.all_eq_true];intro k a;rw[List.mem_range]at a
 by_cases d:k<2
 ·simp[d]
 ·simp[c k oM a]
def CvS(w:X)(ps:LP)(g:Nat)(a:J)(W:X):Prop:=
 ∃i:Nat,i<=ps.length/\a=O Y i/\g=ps.length-i/\Ext w W/\∀j,j<i->cvxR ps j=true
def CvK(w:X)(ps:LP)(i:Nat)(g:Nat)(t4:J)(W:X):Prop:=
 ∃k:Nat,2<=k/\k<=ps.length-1/\t4=O Y k/\g=ps.length-k/\Ext w W/\∀j,2<=j->j<k->cvx2 ps i j=true
theorem zhP(w:X)(v:J)(ps:LP)(h:IsPts w v ps)(hb:PBd 100000000 ps) :
  Calls Tryz.prog 207 #[v] w fun e w'=>e = .returned (C (convexB ps))/\Ext w w':=by
 obtain⟨a,c,rfl⟩:=h.form;obtain⟨n,hn⟩:=gX ps.length;have ao:=hn;rw[hn]at h ⊢;have l:=hd9 hn;have Hb:=hd9 hb;clear hb
 by_cases hw:wthn n 3 12=true
 ·have ap:3<=n/\n<=12:=by simp[wthn]at hw;omega
  obtain⟨ap,aG⟩:=ap;have HW:=hd9 hw;clear hn ao;have h0:0<ps.length:=by rw[l.out];omega
  have an:ps.length<=1000000:=by rw[l.out];omega
  have K:=hd9 h0;have H6:=hd9 an;obtain⟨b,o,rfl,aI,_,_⟩:=h.at' (zdp h0);clear h0 an;go_enter Tryz.func207,Tryz.ntmps207
  go_wp2_with(((go_at_call 160;(with_reducible refine(zag _ n 3 12).mono ?_);rintro e w1 ⟨rfl,d⟩)))
  go_loopg [11] n (CvS w ps)
  case atStart=>exact⟨0,by omega,rfl,by rw[l.out];rfl,eA,fun j hj=>by omega⟩
  case round =>
   obtain⟨i,hi,rfl,rfl,hx,af⟩:=hrel;rw[l.out]at hi;have ae:=hd9 af;clear af d
   by_cases ac:i<n
   ·obtain⟨⟨ax,az⟩,hA⟩:∃p,atc ps ((i:Int)-1)=p:=⟨_,rfl⟩
    obtain⟨⟨qx,qz⟩,hQ⟩:∃p,atc ps (i:Int)=p:=⟨_,rfl⟩;obtain⟨⟨bx,bz⟩,hB⟩:∃p,atc ps ((i:Int)+1)=p:=⟨_,rfl⟩;obtain⟨T,hT⟩:=gX (trn (ax,az) (qx,qz) (bx,bz));have hP:=(h.ext' hx).at' (zdp (ps:=ps) (i:=i) (by rw[l.out];exact ac));rw[hQ]at hP;obtain⟨b',o',e',f,d0,d1⟩:=hP
    cases e'
    have HA:=hd9 hA;have HQ:=hd9 hQ;have HB:=hd9 hB;have HT:=hd9 hT;have aa:=hd9 (Hb.out.at K.out hA);have r:=hd9 (Hb.out.at K.out hQ);have q:=hd9 (Hb.out.at K.out hB);have g1 : -(ps.length:Int)<=(i:Int)-1:=by rw[l.out];omega
    have g2 : -(ps.length:Int)<=(i:Int)+1:=by rw[l.out];omega
    have aq:cvx1 ps i=decide (0<T):=by unfold cvx1;rw[hA,hQ,hB,hT]
    have ai:=hd9 aq;have hs:=h.ext' hx;clear hA hQ hB hT aq;have aK:IntKind.i64.wrap ((i:Int)-1)=(i:Int)-1:=iW _ oM;have aL:IntKind.i64.wrap ((i:Int)+1)=(i:Int)+1:=iW _ oM;have p1:(0:Int)<=(i:Int):=oM
    have p2:(i:Int)<(n:Int):=oM
    by_cases ak:0<T
    ·have aw:decide (T<=0)=false:=by simp;omega
     go_wp2
     go_region_held3 (fun W=>W.cell? ⟨b,o+i*2,I⟩=V (O Y qx)/\W.cell? ⟨b,o+i*2+1,I⟩=V (O Y qz)) ((repeat' (with_reducible refine And.intro ?_ ?_))<;>(first|(go_simp;done)|(refine d.cellS ?_;go_simp;done))) (first|((go_at_call 246;(with_reducible refine(zbM _ (Z (V ⟨b,o,I⟩) n c) ps ((i:Int)-1) ax az ?_ K.out H6.out g1 oM HA.out).mono ?_);(refine hs.ext' ?_;exact eA);rintro e w1 ⟨rfl,d⟩;obtain⟨s,x⟩:=d.cells;(try simp only[qcD,qfD,qdZ]at s x);(have g:=d.lt (n:=b) (by first|exact f | (simp only[qdZ];exact f)|(have:=g;omega)))))|((go_at_call 246;(with_reducible refine(zbM _ (Z (V ⟨b,o,I⟩) n c) ps ((i:Int)+1) bx bz ?_ K.out H6.out g2 oM HB.out).mono ?_);(refine hs.ext' ?_;exact eA);rintro e w2 ⟨rfl,m⟩;obtain⟨t,y⟩:=m.cells;(try simp only[qcD,qfD,qdZ]at t y);(have ad:=m.lt (n:=b) (by first|exact f | (simp only[qdZ];exact f)|(have:=g;omega)))))|((go_at_call 245;(with_reducible refine(zcG _ _ _ _ _ _ _ T aa.out.1 aa.out.2 r.out.1 r.out.2 q.out.1 q.out.2 HT.out).mono ?_);rintro e w3 ⟨rfl,D⟩;obtain⟨u,z⟩:=D.cells;(try simp only[qcD,qfD,qdZ]at u z))))
     all_goals go_wp2
     go_loopg [4] (n-2) (CvK w ps i)
     case atStart=>exact⟨2,nE _,by rw[l.out];omega,rfl,by rw[l.out],eA,fun j h2 hj=>by omega⟩
     case round =>
      rename_i wr0 _
      clear hs d0 d1 s x g t y ad u z;obtain⟨k,aC,aD,rfl,rfl,au,R⟩:=hrel;rw[l.out]at aD;have L:=hd9 R;clear R
      by_cases aE:k<n-1
      ·obtain⟨⟨cx,cz⟩,hC⟩:∃p,atc ps ((i:Int)+(k:Int))=p:=⟨_,rfl⟩
       obtain⟨U,hU⟩:=gX (trn (qx,qz) (bx,bz) (cx,cz));have hP:=(h.ext' au).at' (zdp (ps:=ps) (i:=i) (by rw[l.out];exact ac));rw[HQ.out]at hP;obtain⟨aH,aJ,av,am,d0,d1⟩:=hP
       cases av
       have HC:=hd9 hC;have HU:=hd9 hU;have ab:=hd9 (Hb.out.at K.out hC);have ar:cvx2 ps i k=decide (0<U):=by unfold cvx2;rw[HQ.out,HB.out,hC,hU]
       have aj:=hd9 ar;have g3 : -(ps.length:Int)<=(i:Int)+(k:Int):=by rw[l.out];omega
       have hs:=h.ext' au;clear hC hU ar;have aM:IntKind.i64.wrap ((i:Int)+(k:Int))=(i:Int)+(k:Int):=iW _ oM;have p3:(k:Int)<(n:Int)-1:=oM
       have f:=am
       by_cases al:0<U
       ·have ay:decide (U<=0)=false:=by simp;omega
        go_wp2
        go_region_held3 (fun W=>W.cell? ⟨b,o+i*2,I⟩=V (O Y qx)/\W.cell? ⟨b,o+i*2+1,I⟩=V (O Y qz)) ((repeat' (with_reducible refine And.intro ?_ ?_))<;>(first|(go_simp;done)|(refine d.cellS ?_;go_simp;done))) (first|((go_at_call 246;(with_reducible refine(zbM _ (Z (V ⟨b,o,I⟩) n c) ps ((i:Int)+1) bx bz ?_ K.out H6.out g2 oM HB.out).mono ?_);(refine hs.ext' ?_;exact eA);rintro e w1 ⟨rfl,d⟩;obtain⟨s,x⟩:=d.cells;(try simp only[qcD,qfD,qdZ]at s x);(have g:=d.lt (n:=b) (by first|exact f | (simp only[qdZ];exact f)|(have:=g;omega)))))|((go_at_call 246;(with_reducible refine(zbM _ (Z (V ⟨b,o,I⟩) n c) ps ((i:Int)+(k:Int)) cx cz ?_ K.out H6.out g3 oM HC.out).mono ?_);(refine hs.ext' ?_;exact eA);rintro e w2 ⟨rfl,m⟩;obtain⟨t,y⟩:=m.cells;(try simp only[qcD,qfD,qdZ]at t y);(have ad:=m.lt (n:=b) (by first|exact f | (simp only[qdZ];exact f)|(have:=g;omega)))))|((go_at_call 245;(with_reducible refine(zcG _ _ _ _ _ _ _ U r.out.1 r.out.2 q.out.1 q.out.2 ab.out.1 ab.out.2 HU.out).mono ?_);rintro e w3 ⟨rfl,D⟩;obtain⟨u,z⟩:=D.cells;(try simp only[qcD,qfD,qdZ]at u z))))
        all_goals go_wp2
        go_roundg (n-(k+1))
        case measure=>have:=l.out;omega
        case rel =>
         refine⟨k+1,by omega,by rw[l.out];omega,by go_num,by rw[l.out],eA,fun j h2 hj=>?_⟩
         by_cases aB:j=k
         ·rw[aB,aj.out];simpa using al
         ·exact L.out j h2 oM
       ·have ay:decide (U<=0)=true:=by simp;omega
        have e:convexB ps=false:=zen (by rw[l.out];exact ac) (zkZ (k:=k) (by rw[l.out];exact aE) aC (by rw[aj.out];simpa using al));have E:=hd9 e;clear e;go_wp2
        go_region_held3 (fun W=>W.cell? ⟨b,o+i*2,I⟩=V (O Y qx)/\W.cell? ⟨b,o+i*2+1,I⟩=V (O Y qz)) ((repeat' (with_reducible refine And.intro ?_ ?_))<;>(first|(go_simp;done)|(refine d.cellS ?_;go_simp;done))) (first|((go_at_call 246;(with_reducible refine(zbM _ (Z (V ⟨b,o,I⟩) n c) ps ((i:Int)+1) bx bz ?_ K.out H6.out g2 oM HB.out).mono ?_);(refine hs.ext' ?_;exact eA);rintro e w1 ⟨rfl,d⟩;obtain⟨s,x⟩:=d.cells;(try simp only[qcD,qfD,qdZ]at s x);(have g:=d.lt (n:=b) (by first|exact f | (simp only[qdZ];exact f)|(have:=g;omega)))))|((go_at_call 246;(with_reducible refine(zbM _ (Z (V ⟨b,o,I⟩) n c) ps ((i:Int)+(k:Int)) cx cz ?_ K.out H6.out g3 oM HC.out).mono ?_);(refine hs.ext' ?_;exact eA);rintro e w2 ⟨rfl,m⟩;obtain⟨t,y⟩:=m.cells;(try simp only[qcD,qfD,qdZ]at t y);(have ad:=m.lt (n:=b) (by first|exact f | (simp only[qdZ];exact f)|(have:=g;omega)))))|((go_at_call 245;(with_reducible refine(zcG _ _ _ _ _ _ _ U r.out.1 r.out.2 q.out.1 q.out.2 ab.out.1 ab.out.2 HU.out).mono ?_);rintro e w3 ⟨rfl,D⟩;obtain⟨u,z⟩:=D.cells;(try simp only[qcD,qfD,qdZ]at u z))))
        all_goals go_wp2
        all_goals go_ret
        exact⟨by rw[E.out];rfl,eA⟩
      ·obtain rfl:k=n-1:=oM
       have ag:cvxR ps i=true:=zk0 (by rw[ai.out];simpa using ak) (fun j h2 hj=>L.out j h2 (by rw[l.out]at hj;exact hj));have ah:=hd9 ag;clear ag;have p4:¬(((n-1:Nat):Int)<(n:Int)-1):=oM
       go_wp2
       go_roundg (n-(i+1))
       case measure=>have:=l.out;omega
       case rel =>
        refine⟨i+1,by rw[l.out];omega,by go_num,by rw[l.out],eA,fun j hj=>?_⟩
        by_cases aA:j=i
        ·rw[aA];exact ah.out
        ·exact ae.out j oM
    ·have aw:decide (T<=0)=true:=by simp;omega
     have e:convexB ps=false:=zen (by rw[l.out];exact ac) (zkY (by rw[ai.out];simpa using ak));have E:=hd9 e;clear e;go_wp2
     go_region_held3 (fun W=>W.cell? ⟨b,o+i*2,I⟩=V (O Y qx)/\W.cell? ⟨b,o+i*2+1,I⟩=V (O Y qz)) ((repeat' (with_reducible refine And.intro ?_ ?_))<;>(first|(go_simp;done)|(refine d.cellS ?_;go_simp;done))) (first|((go_at_call 246;(with_reducible refine(zbM _ (Z (V ⟨b,o,I⟩) n c) ps ((i:Int)-1) ax az ?_ K.out H6.out g1 oM HA.out).mono ?_);(refine hs.ext' ?_;exact eA);rintro e w1 ⟨rfl,d⟩;obtain⟨s,x⟩:=d.cells;(try simp only[qcD,qfD,qdZ]at s x);(have g:=d.lt (n:=b) (by first|exact f | (simp only[qdZ];exact f)|(have:=g;omega)))))|((go_at_call 246;(with_reducible refine(zbM _ (Z (V ⟨b,o,I⟩) n c) ps ((i:Int)+1) bx bz ?_ K.out H6.out g2 oM HB.out).mono ?_);(refine hs.ext' ?_;exact eA);rintro e w2 ⟨rfl,m⟩;obtain⟨t,y⟩:=m.cells;(try simp only[qcD,qfD,qdZ]at t y);(have ad:=m.lt (n:=b) (by first|exact f | (simp only[qdZ];exact f)|(have:=g;omega)))))|((go_at_call 245;(with_reducible refine(zcG _ _ _ _ _ _ _ T aa.out.1 aa.out.2 r.out.1 r.out.2 q.out.1 q.out.2 HT.out).mono ?_);rintro e w3 ⟨rfl,D⟩;obtain⟨u,z⟩:=D.cells;(try simp only[qcD,qfD,qdZ]at u z))))
     all_goals go_wp2
     all_goals go_ret
     exact⟨by rw[E.out];rfl,eA⟩
   ·obtain rfl:i=n:=oM
    have e:convexB ps=true:=zga (by rw[l.out];exact HW.out) (fun j hj=>ae.out j (by rw[l.out]at hj;exact hj));have E:=hd9 e;clear e;go_wp2;go_ret;exact⟨by rw[E.out];rfl,eA⟩
 ·have aF:wthn n 3 12=false:=by simpa using hw
  have e:convexB ps=false:=by unfold convexB;rw[hn,aF];rfl
  rw[e];clear e hn ao;go_enter Tryz.func207,Tryz.ntmps207
  go_wp2_with(((go_at_call 160;(with_reducible refine(zag _ n 3 12).mono ?_);rintro e w1 ⟨rfl,d⟩)))
  go_ret;exact⟨rfl,eA⟩
def farB(p:Int×Int):Bool:=!wthn p.1 0 2000 || !wthn p.2 0 2000
theorem zgQ(w:X)(x z:Int):Calls Tryz.prog 205 #[M #[O Y x,O Y z]] w fun e j=>e = .returned (C (farB (x,z)))/\Ext w j:=by
 by_cases h:wthn x 0 2000=true
 ·have e:farB (x,z)=!wthn z 0 2000:=by simp[farB,h]
  rw[e];clear e;go_enter Tryz.func205,Tryz.ntmps205
  go_wp2_with(first|((go_at_call 160;(with_reducible refine(zag _ x 0 2000).mono ?_);rw[h];rintro e k ⟨rfl,a⟩;obtain⟨⟨d,f⟩,c⟩:=cK1 w a))|((go_at_call 160;(with_reducible refine(zag _ z 0 2000).mono ?_);rintro e l ⟨rfl,i⟩)))
  go_ret;exact⟨rfl,eA⟩
 ·have g:wthn x 0 2000=false:=by simpa using h
  have e:farB (x,z)=true:=by simp[farB,g]
  rw[e];clear e;go_enter Tryz.func205,Tryz.ntmps205
  go_wp2_with(((go_at_call 160;(with_reducible refine(zag _ x 0 2000).mono ?_);rw[g];rintro e k ⟨rfl,a⟩;obtain⟨⟨d,f⟩,c⟩:=cK1 w a)))
  go_ret;exact⟨rfl,eA⟩
def idxB{α:Type}(f:α->Bool)(xs:List α):Int:=match xs.findIdx? f with|some i=>(i:Int)|none=>-1
theorem zcy{α:Type}{f:α->Bool}{xs:List α}{i:Nat}{x:α}(g:xs[i]?=V x)(a:f x=true)(e:∀j y,j<i->xs[j]?=V y->f y=false):idxB f xs=(i:Int):=by
 obtain⟨c,rfl⟩:=lS.1 g
 have:xs.findIdx? f=V i:=by
  rw[List.findIdx?_eq_some_iff_getElem];exact⟨c,a,fun j d=>by simpa using e j _ d (gE oM)⟩
 unfold idxB;rw[this]
theorem zcx{α:Type}{f:α->Bool}{xs:List α}(c:∀j y,j<xs.length->xs[j]?=V y->f y=false):idxB f xs = -1:=by
 have:xs.findIdx? f=I:=by
  rw[List.findIdx?_eq_none_iff];intro x d;obtain⟨j,a⟩:=List.mem_iff_getElem?.1 d;exact c j x (lS.1 a).1 a
 unfold idxB;rw[this]
theorem zeN{α:Type}(f:α->Bool)(xs:List α):decide (0<=idxB f xs)=xs.any f:=by
 unfold idxB
 cases h:xs.findIdx? f with
 | none =>
  rw[List.findIdx?_eq_none_iff]at h;have:xs.any f=false:=by rw[List.any_eq_false];intro x d;simp[h x d]
  rw[this];rfl
 | some i =>
  rw[List.findIdx?_eq_some_iff_getElem]at h;obtain⟨c,a,_⟩:=h;have:xs.any f=true:=List.any_eq_true.2 ⟨_,List.getElem_mem c,a⟩;rw[this];simp
def IxS(w:X)(f:Int×Int->Bool)(ps:LP)(g:Nat)(a:J)(W:X):Prop:=
 ∃i:Nat,i<=ps.length/\a=O Y i/\g=ps.length-i/\Ext w W/\∀j y,j<i->ps[j]?=V y->f y=false
theorem zju(w:X)(v:J)(ps:LP)(h:IsPts w v ps) :
  Calls Tryz.prog 244 #[v,.func (.func 205) #[] #[]] w fun e w'=>e = .returned (O Y (idxB farB ps))/\Ext w w':=by
 obtain⟨a,c,rfl⟩:=h.form;obtain⟨n,z⟩:=gX ps.length;rw[z]at h ⊢;have l:=h.le;unfold maxLen at l;have aa:n<=9223372036854775807:=oM
 have f:=hd9 z;clear z l;go_enter Tryz.func244,Tryz.ntmps244;go_wp2
 go_loopg [8] n (IxS w farB ps)
 case atStart=>exact⟨0,by omega,rfl,by rw[f.out];rfl,eR _,fun j y p=>by omega⟩
 case round =>
  obtain⟨i,T,rfl,rfl,R,g⟩:=hrel;rw[f.out]at T;have d:=hd9 g;clear g
  by_cases x:i<n
  ·obtain⟨q,D⟩:∃q,ps[i]?=V q:=⟨ps[i]'(by rw[f.out];omega),by simp[f.out,x]⟩
   obtain⟨r,s⟩:=q;obtain⟨b,o,rfl,hb,d0,d1⟩:=(h.ext' R).at' D;have L:=hd9 D;clear D
   by_cases t:farB (r,s)=true
   ·have e:idxB farB ps=(i:Int):=zcy L.out t d.out
    have E:=hd9 e;clear e
    go_wp2_with(((go_at_call 205;(with_reducible refine(zgQ _ r s).mono ?_);rw[t];rintro e w1 ⟨rfl,K⟩)))
    go_ret;exact⟨by rw[E.out];rfl,eA⟩
   ·have k:farB (r,s)=false:=by simpa using t
    go_wp2_with(((go_at_call 205;(with_reducible refine(zgQ _ r s).mono ?_);rw[k];rintro e w1 ⟨rfl,K⟩)))
    go_roundg (n-(i+1))
    case measure=>have:=f.out;omega
    case rel =>
     refine⟨i+1,by have:=f.out;omega,by go_num,by rw[f.out],eA,fun j y p m=>?_⟩
     by_cases u:j=i
     ·subst u;rw[L.out]at m;cases m;exact k
     ·exact d.out j y oM m
  ·obtain rfl:i=n:=oM
   have e:idxB farB ps = -1:=zcx (fun j y p m=>d.out j y (by rw[f.out]at p;exact p) m);have E:=hd9 e;clear e;go_wp2;go_ret;exact⟨by rw[E.out];rfl,R⟩
theorem ziL(w:X)(v:J)(ps:LP)(h:IsPts w v ps) :
  Calls Tryz.prog 206 #[v,.func (.func 205) #[] #[]] w fun e i=>e = .returned (C (ps.any farB))/\Ext w i:=by
 rw[<-zeN];obtain⟨x,c⟩:=gX (idxB farB ps);have a:=fun W (f:Ext w W)=>zju W v ps (h.ext' f)
 rw[c]at *;have d:=hd9 a;clear a c;go_enter Tryz.func206,Tryz.ntmps206
 go_wp2_with(((go_at_call 244;(with_reducible refine(d.out _ ?_).mono ?_);exact eA;rintro e j ⟨rfl,g⟩)))
 go_ret;exact⟨rfl,eA⟩
def orL:List Int->Int
 | []=>0
 | x::xs=>if x=0 then orL xs else x
theorem zmu:∀{a:List Int}{i:Nat}{x:Int},a[i]?=V x->x≠0->(∀j y,j<i->a[j]?=V y->y=0)->orL a=x
 | [],_,_,h,_,_=>by simp at h
 | y::ys,0,x,h,h0,_=>by simp at h;subst h;simp[orL,h0]
 | y::ys,i+1,x,h,h0,hn=>by
  have c:y=0:=hn 0 y oM rfl;rw[orL,if_pos c];exact zmu (by simpa using h) h0 (fun j z e d=>hn (j+1) z oM (by simpa using d))
theorem zha:∀{a:List Int},(∀(j:Nat)(y:Int),a[j]?=V y->y=0)->orL a=0
 | [],_=>rfl
 | y::ys,h=>by rw[orL,if_pos (h 0 y rfl)];exact zha (fun j z c=>h (j+1) z (by simpa using c))
def OrS(w:X)(xs:List Int)(g:Nat)(a:J)(W:X):Prop:=
 ∃i:Nat,i<=xs.length/\a=O Y i/\g=xs.length-i/\Ext w W/\∀j y,j<i->xs[j]?=V y->y=0
theorem zom(w:X)(v:J)(xs:List Int)(h:Ints 3 w v xs) :
  Calls Tryz.prog 273 #[v] w fun e w'=>e = .returned (O Y (orL xs))/\Ext w w':=by
 obtain⟨a,c,rfl⟩:=h.form;obtain⟨n,s⟩:=gX xs.length;rw[s]at h ⊢;have m:=h.le;unfold maxLen at m;have aa:n<=9223372036854775807:=oM
 have f:=hd9 s;clear s m;go_enter Tryz.func273,Tryz.ntmps273;go_wp2
 go_loopg [8] n (OrS w xs)
 case atStart=>exact⟨0,by omega,rfl,by rw[f.out];rfl,eR _,fun j y T=>by omega⟩
 case round =>
  obtain⟨i,R,rfl,rfl,p,g⟩:=hrel;rw[f.out]at R;have d:=hd9 g;clear g
  by_cases r:i<n
  ·obtain⟨x,t⟩:∃x,xs[i]?=V x:=⟨xs[i]'(by rw[f.out];omega),by simp[f.out,r]⟩
   obtain⟨b,o,rfl,hb,z⟩:=(h.ext p).open (by rw[f.out];omega);have L:=z i x t;have u:=hd9 t;clear t z
   by_cases l:x=0
   ·subst l
    go_wp2
    go_roundg (n-(i+1))
    case measure=>have:=f.out;omega
    case rel =>
     refine⟨i+1,by have:=f.out;omega,by go_num,by rw[f.out],p,fun j y T k=>?_⟩
     by_cases q:j=i
     ·subst q;rw[u.out]at k;cases k;rfl
     ·exact d.out j y oM k
   ·have e:orL xs=x:=zmu u.out l d.out
    have E:=hd9 e;have D:(x != 0)=true:=by simpa using l
    have K:(x==0)=false:=by simpa using l
    clear e l;go_wp2;go_ret;exact⟨by rw[E.out];rfl,p⟩
  ·obtain rfl:i=n:=oM
   have e:orL xs=0:=zha (fun j y k=>d.out j y (by have:=(lS.1 k).1;rw[f.out]at this;exact this) k);have E:=hd9 e;clear e;go_wp2;go_ret;exact⟨by rw[E.out];rfl,p⟩
theorem zjL(w:X)(v:J)(xs:List Int)(h:Ints 3 w v xs) :
  Calls Tryz.prog 247 #[v] w fun e i=>e = .returned (O Y (orL xs))/\Ext w i:=by
 obtain⟨x,c⟩:=gX (orL xs);have a:=fun W (f:Ext w W)=>zom W v xs (h.ext f)
 rw[c]at *;have d:=hd9 a;clear a c;go_enter Tryz.func247,Tryz.ntmps247
 go_wp2_with(((go_at_call 273;(with_reducible refine(d.out _ ?_).mono ?_);exact eA;rintro e j ⟨rfl,g⟩)))
 go_ret;exact⟨rfl,eA⟩
def lowC(p q:Int×Int):Int:=orL [cmp3 p.2 q.2,cmp3 p.1 q.1]
theorem ints2(W:X)(x y:Int):Ints 3 (W.alloc (G #[O Y x,O Y y] 3)) (Z (V ⟨W.heap.size,0,I⟩) 2 2) [x,y]:=by
 refine⟨rfl,_,_,rfl,nE _,by unfold maxLen;omega,.inr ⟨W.heap.size,0,_,_,rfl,aN W _,?_⟩⟩;intro i v hv
 match i,hv with
 | 0,hv=>simpa[lits] using hv
 | 1,hv=>simpa[lits] using hv
 | i+2,hv=>simp[lits]at hv
theorem zjD(w:X)(a c d f:Int) :
  Calls Tryz.prog 210 #[M #[O Y a,O Y c],M #[O Y d,O Y f]] w fun e R=>e = .returned (O Y (lowC (a,c) (d,f)))/\Ext w R:=by
 obtain⟨r,j⟩:=gX (lowC (a,c) (d,f));rw[j];have v:Hid (orL [cmp3 c f,cmp3 a d]=r):=hd9 j;clear j;go_enter Tryz.func210,Tryz.ntmps210;go_wp2
 go_region_held3 (fun W=>W.cell? ⟨w.heap.size,0,I⟩=V (O Y a)/\W.cell? ⟨w.heap.size,1,I⟩=V (O Y c)/\W.cell? ⟨w.heap.size+1,0,I⟩=V (O Y d)/\W.cell? ⟨w.heap.size+1,1,I⟩=V (O Y f)) ((repeat' (with_reducible refine And.intro ?_ ?_))<;>(first|(go_simp;done)|(refine hx1.cellS ?_;go_simp;done))) (first|((go_at_call 248;(with_reducible refine(zdu _ c f).mono ?_);rintro e T ⟨rfl,hx1⟩;obtain⟨⟨x,D⟩,o,p⟩:=cK2 w hx1))|((go_at_call 248;(with_reducible refine(zdu _ a d).mono ?_);rintro e m ⟨rfl,k⟩;obtain⟨⟨y,K⟩,q,s⟩:=cK2 w k;have g:w.heap.size<m.heap.size+1:=oM;have i:w.heap.size+1<m.heap.size+1:=oM))|((go_at_call 247;(with_reducible refine(zjL _ (Z (V ⟨m.heap.size,0,I⟩) 2 2) [cmp3 c f,cmp3 a d] ?_).mono ?_);(refine ints2 _ _ _);rw[v.out];rintro e w3 ⟨rfl,l⟩;obtain⟨⟨z,L⟩,t,u⟩:=cK2 w l)))
 all_goals go_wp2
 go_ret;exact⟨rfl,eA⟩
end
end Go.Proofs.YtjnjpagegkcgfaaGreatDoor.Cop
