import Derived.Test.YthgbjoahfnjadaaGreatDoorCopA06
set_option maxRecDepth 1000000
set_option maxHeartbeats 16000000
set_option linter.all false
namespace Go.Proofs.YthgbjoahfnjadaaGreatDoor.Cop
section
open Go.RowKit Go.Shelf
def Qf(ps:LP)(i:Nat):Bool:=!Cb (ps.getD i (0,0)).1&&(!Cb (ps.getD i (0,0)).2&&(i==0 || decide ((ps.getD (i-1) (0,0)).1<(ps.getD i (0,0)).1)))
def ub(ps:LP):Bool:=xb ps.length 2 40&&(List.range ps.length).all (Qf ps)
def Uu{ps:LP}{i:Nat}(h:i<ps.length)(a:Qf ps i=false):ub ps=false:=by
 unfold ub;rw[Bool.and_eq_false_iff]
 right
 rw[List.all_eq_false];exact⟨i,List.mem_range.2 h,by simp[a]⟩
def UK{ps:LP}(a:xb ps.length 2 40=true)(h:∀i,i<ps.length->Qf ps i=true):ub ps=true:=by unfold ub;rw[a,Bool.true_and,List.all_eq_true];exact fun i b=>h i (List.mem_range.1 b)
def Rn(ps:LP)(i:Nat)(x z:Int):Prop:=(ps.getD i (0,0)).1=x/\(ps.getD i (0,0)).2=z
def yM(w:World)(ps:LP)(g:Nat)(a:Value)(W:World):Prop:=
 ∃i:Nat,i<=ps.length/\a = .int .i64 i/\g=ps.length-i/\oa w W/\∀j,j<i->Qf ps j=true
def kJ(w:World)(v:Value)(ps:LP)(h:Aa w v ps):Calls Tryz.prog 115 #[v] w fun e w'=>e=.returned (.bool (ub ps))/\oa w w':=by
 obtain⟨a,c,rfl⟩:=h.form;obtain⟨n,P⟩:=gX ps.length;rw[P]at h ⊢;by_cases hw:2<=n/\n<=40
 ·obtain⟨h2,ag⟩:=hw;have HW:zc (xb ps.length 2 40=true):=ia (by rw[P];simp[xb];omega);have f:=ia P;obtain⟨⟨x0,z0⟩,ac⟩:∃p,ps[0]?=some p:=⟨ps[0]' oM,by simp⟩;obtain⟨b,o,rfl,ai,_,_⟩:=h.at' ac;clear P ac;have q1:(2:Int)<=(n:Int):=oM;have q2:(n:Int)<=40:=oM;go_in;go_wp2;go_loopg [15] n (yM w ps)
  case atStart=>exact⟨0,by omega,rfl,by rw[f.o];rfl,eR _,fun j hj=>by omega⟩
  case round =>
   obtain⟨i,hi,rfl,rfl,hx,s⟩:=hrel;rw[f.o]at hi;have g:=ia s;clear s;by_cases l:i<n
   ·obtain⟨⟨x,z⟩,hq⟩:∃q,ps[i]?=some q:=⟨ps[i]'(by rw[f.o];omega),by simp[f.o,l]⟩;obtain⟨b',o',e',ah,d0,d1⟩:=(h.i hx).at' hq;cases e';have Hq:=ia hq;clear hq;have ab:Rn ps i x z:=⟨by rw[gD,Hq.o];rfl,by rw[gD,Hq.o];rfl⟩;have d:=ia ab;clear ab;have p1:(0:Int)<=(i:Int):=oM;have p2:(i:Int)<(n:Int):=oM;have fx:=fun W=>Jz W x;have r:=fun W=>Jz W z;cases k1:Cb x
    ·rw[k1]at fx;have T:=ia fx;clear fx;cases k2:Cb z
     ·rw[k2]at r;have t:=ia r;clear r;by_cases h0:i=0
      ·subst h0;have K:zc (Qf ps 0=true):=ia (by unfold Qf;rw[d.o.1,d.o.2,k1,k2];rfl);have ad:decide ((0:Int)<0)=false:=dM;simp only[Nat.zero_mul,Nat.add_zero]at d0 d1;go_wp2;go_quiet (((first|(go_at_call 50;exact Calls.quiet_of_same (T.o _))|(go_at_call 50;exact Calls.quiet_of_same (t.o _)))));go_wp2;go_roundg (n-(0+1))
       case measure=>have:=f.o;omega
       case rel =>
        refine⟨0+1,by have:=f.o;omega,by go_num,by rw[f.o],eA,fun j hj=>?_⟩;by_cases u:j=0
        ·subst u;exact K.o
        ·exact g.o j oM
      ·obtain⟨m,rfl⟩:∃m,i=m+1:=⟨i-1,by omega⟩;obtain⟨⟨x',z'⟩,R⟩:∃q,ps[m]?=some q:=⟨ps[m]'(by rw[f.o];omega),by simp⟩;obtain⟨b',o',e',af,d2,d3⟩:=(h.i hx).at' R;cases e';have aa:=ia R;clear R d3;(have u0:IntKind.i64.wrap (((m+1:Nat):Int)-1)=(m:Int):=by rw[show ((m+1:Nat):Int)-1=(m:Int) by omega];exact iW _ ⟨by omega,by omega⟩);have u1:((m+1:Nat):Int)-1=(m:Int):=oM;have ad:decide ((0:Int)<((m+1:Nat):Int))=true:=sM;have p3:(0:Int)<=(m:Int):=oM;have p4:(m:Int)<(n:Int):=oM;by_cases k3:x'<x
       ·have K:zc (Qf ps (m+1)=true):=ia (by
         unfold Qf;rw[d.o.1,d.o.2,k1,k2,Nat.add_sub_cancel,gD,aa.o];simpa using k3)
        (have ae:decide (x<=x')=false:=by simpa using k3);go_wp2;go_quiet (((first|(go_at_call 50;exact Calls.quiet_of_same (T.o _))|(go_at_call 50;exact Calls.quiet_of_same (t.o _)))));go_wp2;go_roundg (n-((m+1)+1))
        case measure=>have:=f.o;omega
        case rel =>
         refine⟨(m+1)+1,by have:=f.o;omega,by go_num,by rw[f.o],eA,fun j hj=>?_⟩;by_cases u:j=(m+1)
         ·subst u;exact K.o
         ·exact g.o j oM
       ·have K:zc (Qf ps (m+1)=false):=ia (by
         unfold Qf;rw[d.o.1,d.o.2,k1,k2,Nat.add_sub_cancel,gD,aa.o];simpa using k3)
        (have ae:decide (x<=x')=true:=by simp;omega);have E:zc (ub ps=false):=ia (Uu (by rw[f.o];exact l) K.o);go_wp2;go_quiet (((first|(go_at_call 50;exact Calls.quiet_of_same (T.o _))|(go_at_call 50;exact Calls.quiet_of_same (t.o _)))));go_wp2;go_ret;exact⟨by rw[E.o];rfl,eA⟩
     ·rw[k2]at r;have t:=ia r;clear r;have K:zc (Qf ps i=false):=ia (by unfold Qf;rw[d.o.1,d.o.2,k2];simp);have E:zc (ub ps=false):=ia (Uu (by rw[f.o];exact l) K.o);go_wp2;go_quiet (((first|(go_at_call 50;exact Calls.quiet_of_same (T.o _))|(go_at_call 50;exact Calls.quiet_of_same (t.o _)))));go_wp2;go_ret;exact⟨by rw[E.o];rfl,eA⟩
    ·rw[k1]at fx;have T:=ia fx;have t:=ia r;clear fx r;have K:zc (Qf ps i=false):=ia (by unfold Qf;rw[d.o.1,k1];simp);have E:zc (ub ps=false):=ia (Uu (by rw[f.o];exact l) K.o);go_wp2;go_quiet (((first|(go_at_call 50;exact Calls.quiet_of_same (T.o _))|(go_at_call 50;exact Calls.quiet_of_same (t.o _)))));go_wp2;go_ret;exact⟨by rw[E.o];rfl,eA⟩
   ·obtain rfl:i=n:=oM;have e:ub ps=true:=UK HW.o (fun j hj=>g.o j (by rw[f.o]at hj;exact hj));have E:=ia e;clear e;go_wp2;go_ret;exact⟨by rw[E.o];rfl,hx⟩
 ·have e:ub ps=false:=by
   unfold ub;rw[show xb ps.length 2 40=false by rw[P];simp[xb];omega];rfl
  rw[e];have y:=h.le;unfold maxLen at y;have aj:n<=9223372036854775807:=oM;by_cases k:n<2
  ·have k1:(n:Int)<2:=oM;clear e P h hw y;go_in;go_wp2;go_ret;exact⟨rfl,eR _⟩
  ·have k1:(2:Int)<=n:=oM;have k2:(40:Int)<n:=oM;clear e P h hw y;go_in;go_wp2;go_ret;exact⟨rfl,eR _⟩
def Kl(xs:LP)(i:Nat)(a:LP):Prop:=a.length=xs.length/\∀j,j<xs.length->a[j]?=if j<i\/xs.length<=j+i then xs[xs.length-1-j]? else xs[j]?
def Kl.start(xs:LP):Kl xs 0 xs:=⟨rfl,fun j a=>by rw[if_neg oM]⟩
def Kl.step{xs c:LP}{i:Nat}(h:Kl xs i c)(hi:2*i+1<xs.length){p q:Int×Int}(m:c[i]?=some p)(n:c[xs.length-1-i]?=some q):Kl xs (i+1) ((c.set i q).set (xs.length-1-i) p):=by
 obtain⟨g,d⟩:=h;have a:=d i oM;have b:=d (xs.length-1-i) oM;rw[if_neg oM,m]at a;rw[if_neg oM,n]at b;refine⟨by simp[g],fun j l=>?_⟩;by_cases e:j=xs.length-1-i
 ·subst e;rw[List.getElem?_set_self (by simp[g];omega),if_pos oM,show xs.length-1-(xs.length-1-i)=i by omega];exact a
 ·rw[List.getElem?_set_ne oM];by_cases f:j=i
  ·subst f;rw[List.getElem?_set_self oM,if_pos oM];exact b
  ·rw[List.getElem?_set_ne oM,d j l];by_cases k:j<i\/xs.length<=j+i
   ·rw[if_pos k,if_pos oM]
   ·rw[if_neg k,if_neg oM]
def Kl.done{xs c:LP}{i:Nat}(h:Kl xs i c)(hi:xs.length<=2*i+1):c=xs.reverse:=by
 obtain⟨e,d⟩:=h;apply List.ext_getElem?;intro j;by_cases b:j<xs.length
 ·rw[d j b,List.getElem?_reverse b];by_cases a:j<i\/xs.length<=j+i
  ·rw[if_pos a]
  ·rw[if_neg a];congr 1;omega
 ·rw[List.getElem?_eq_none oM,List.getElem?_eq_none (by simp;omega)]
def YL(w:World)(base:Nat)(v:Value)(xs:LP)(g:Nat)(b t3:Value)(W:World):Prop:=
 ∃(i:Nat)(a:LP),b = .int .i64 i/\t3 = .int .i64 ((xs.length:Int)-1-i)/\g=xs.length+1-i/\2*i<=xs.length+1/\Kl xs i a/\Ga 55 2 W base v (a.map pc)/\w.grownBy W v.ownBlock
def As(a:LP)(i:Nat)(q:Int×Int):(a.map pc).set i [.int .i64 q.1,.int .i64 q.2]=(a.set i q).map pc:=by rw[List.map_set];rfl
def pE(w:World)(base:Nat)(v:Value)(xs:LP)(h:Ga 55 2 w base v (xs.map pc))(ae:xs.length<=1000000):Calls Tryz.prog 261 #[v] w fun e w'=>e=.returned (.tuple #[])/\Ga 55 2 w' base v (xs.reverse.map pc)/\w.grownBy w' v.ownBlock:=by
 obtain⟨a,c,rfl⟩:=h.form;rw[lL]at h ⊢;obtain⟨n,hn⟩:=gX xs.length;rw[hn]at h ae ⊢;have f:=ia hn;have hh:=h;clear hn;have e0:((0:Nat):Int)=0:=rfl;go_in;go_wp2;go_loopg [2,3] (n+1) (YL w base (.slice a n c) xs)
 case atStart=>exact⟨0,xs,rfl,by rw[f.o];go_num,by rw[f.o];rfl,by omega,Kl.start xs,h,World.grownBy.refl _ _⟩
 case round =>
  clear h hh;obtain⟨i,k,rfl,rfl,rfl,hi,K,b,z⟩:=hrel;rw[f.o]at hi ⊢;have r:=K.1;rw[f.o]at r;by_cases ad:2*i+1<n
  ·have ac:=Ga.len b;obtain⟨g,rfl,ag,ab⟩:=Ga.blk b (by rw[lL,r];omega);obtain⟨⟨R,T⟩,hp⟩:∃q,k[i]?=some q:=⟨k[i]' oM,by simp⟩;obtain⟨m,W⟩:=gX (n-1-i);obtain⟨⟨x,y⟩,hq⟩:∃q,k[m]?=some q:=⟨k[m]' oM,by simp⟩;have l:(k.map pc)[i]?=some (pc (R,T)):=by rw[lP,hp];rfl
   have o:(k.map pc)[m]?=some (pc (x,y)):=by rw[lP,hq];rfl
   have c0:=b.cell (j:=0) l rfl;have c1:=b.cell (j:=1) l rfl;have c2:=b.cell (j:=0) o rfl;have c3:=b.cell (j:=1) o rfl;simp only[Nat.add_zero]at c0 c2;dsimp only at c0 c1 c2 c3;have f0:=b.frozen;have P:((n:Int)-1-(i:Int))=(m:Int):=oM;rw[P];have ah:m≠i:=oM;have s:=(b.pair l (.int .i64 x) (.int .i64 y));have d:=s.pair (i:=m) (p:=(x,y)) (by rw[List.getElem?_set_ne oM];exact o) (.int .i64 R) (.int .i64 T);rw[show (((k.map pc).set i [.int .i64 x,.int .i64 y]).set m [.int .i64 R,.int .i64 T])=((k.set i (x,y)).set m (R,T)).map pc by rw[<-As,<-As]]at d;have u:=K.step (by rw[f.o];exact ad) hp (by rw[f.o,W];exact hq);rw[f.o,W]at u;have t:=ia d;have aa:=ia u;have Hm:=ia W;have p1:(0:Int)<=(i:Int):=oM;have p2:(i:Int)<(n:Int):=oM;have p3:(0:Int)<=(m:Int):=oM;have p4:(m:Int)<(n:Int):=oM;have p5:(i:Int)<(m:Int):=oM;have p6:i*2+1<m*2:=oM;clear s d u l o hp hq W K ac r b P;have af:g<wr.heap.size:=ab;go_wp2
   go_region_with fail
   all_goals go_wp2
   all_goals
    go_roundg (n+1-(i+1))
    case measure=>have:=f.o;omega
    case rel=>exact⟨i+1,(k.set i (x,y)).set m (R,T),by go_num,by rw[f.o];have:=Hm.o;exact Lj oM,by rw[f.o],by rw[f.o];omega,aa.o,t.o,ol (ol (ol (ol (LD z) _ _) _ _) _ _) _ _⟩
  ·have e:k=xs.reverse:=K.done (by rw[f.o];omega);have E:=ia e;have q1:(n:Int)-1-(i:Int)<=(i:Int):=oM;clear e K r;go_wp2
   go_end0
   exact⟨rfl,by rw[<-E.o];exact b,z⟩
