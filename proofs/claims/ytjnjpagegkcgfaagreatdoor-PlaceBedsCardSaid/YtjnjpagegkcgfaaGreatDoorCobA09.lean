import Derived.Test.YtjnjpagegkcgfaaGreatDoorCobA08
set_option maxRecDepth 1000000
set_option maxHeartbeats 16000000
set_option linter.all false
namespace Go.Proofs.YtjnjpagegkcgfaaGreatDoor.Cop
section
open Go.RowKit Go.Shelf
def Gf(ps:LP)(i:Nat):Bool:=!og (ps.getD i (0,0)).1&&(!og (ps.getD i (0,0)).2&&(i==0 || decide ((ps.getD (i-1) (0,0)).1<(ps.getD i (0,0)).1)))
def Za(ps:LP):Bool:=Ta ps.length 2 40&&(List.range ps.length).all (Gf ps)
def Zt{ps:LP}{i:Nat}(h:i<ps.length)(a:Gf ps i=false):Za ps=false:=by
 unfold Za;rw[Bool.and_eq_false_iff]
 right
 rw[List.all_eq_false];exact⟨i,List.mem_range.2 h,by simp[a]⟩
def IP{ps:LP}(a:Ta ps.length 2 40=true)(h:∀i,i<ps.length->Gf ps i=true):Za ps=true:=by unfold Za;rw[a,Bool.true_and,List.all_eq_true];exact fun i b=>h i (List.mem_range.1 b)
def Rn(ps:LP)(i:Nat)(x z:Int):Prop:=(ps.getD i (0,0)).1=x/\(ps.getD i (0,0)).2=z
def yR(w:World)(ps:LP)(g:Nat)(a:Value)(W:World):Prop:=
 ∃i:Nat,i<=ps.length/\a = .int .i64 i/\g=ps.length-i/\Ba w W/\∀j,j<i->Gf ps j=true
def tO(w:World)(v:Value)(ps:LP)(h:Ja w v ps):Calls Tryz.prog 125 #[v] w fun e w'=>e=.returned (.bool (Za ps))/\Ba w w':=by
 obtain⟨a,c,rfl⟩:=h.form;obtain⟨n,P⟩:=gX ps.length;rw[P]at h ⊢;by_cases hw:2<=n/\n<=40
 ·obtain⟨h2,af⟩:=hw;have HW:Sa (Ta ps.length 2 40=true):=Aa (by rw[P];simp[Ta];omega);have f:=Aa P;obtain⟨⟨x0,z0⟩,ab⟩:∃p,ps[0]?=some p:=⟨ps[0]' oM,by simp⟩;obtain⟨b,o,rfl,ah,_,_⟩:=h.at' ab;clear P ab;have q1:(2:Int)<=(n:Int):=oM;have q2:(n:Int)<=40:=oM;go_in;go_wp2;go_loopg [15] n (yR w ps)
  case atStart=>exact⟨0,by omega,rfl,by rw[f.o];rfl,eR _,fun j hj=>by omega⟩
  case round =>
   obtain⟨i,hi,rfl,rfl,hx,s⟩:=hrel;rw[f.o]at hi;have g:=Aa s;clear s;by_cases l:i<n
   ·obtain⟨⟨x,z⟩,hq⟩:∃q,ps[i]?=some q:=⟨ps[i]'(by rw[f.o];omega),by simp[f.o,l]⟩;obtain⟨b',o',e',ag,d0,d1⟩:=(h.f hx).at' hq;cases e';have Hq:=Aa hq;clear hq;have aa:Rn ps i x z:=⟨by rw[gD,Hq.o];rfl,by rw[gD,Hq.o];rfl⟩;have d:=Aa aa;clear aa;have p1:(0:Int)<=(i:Int):=oM;have p2:(i:Int)<(n:Int):=oM;have S:=fun W=>JC W x;have r:=fun W=>JC W z;cases k1:og x
    ·rw[k1]at S;have R:=Aa S;clear S;cases k2:og z
     ·rw[k2]at r;have t:=Aa r;clear r;by_cases h0:i=0
      ·subst h0;have K:Sa (Gf ps 0=true):=Aa (by unfold Gf;rw[d.o.1,d.o.2,k1,k2];rfl);have ac:decide ((0:Int)<0)=false:=dM;simp only[Nat.zero_mul,Nat.add_zero]at d0 d1;go_wp2;go_quiet (((first|(go_at_call 92;exact Calls.quiet_of_same (R.o _))|(go_at_call 92;exact Calls.quiet_of_same (t.o _)))));go_wp2;go_roundg (n-(0+1))
       case measure=>have:=f.o;omega
       case rel =>
        refine⟨0+1,by have:=f.o;omega,by go_num,by rw[f.o],eA,fun j hj=>?_⟩;by_cases u:j=0
        ·subst u;exact K.o
        ·exact g.o j oM
      ·obtain⟨m,rfl⟩:∃m,i=m+1:=⟨i-1,by omega⟩;obtain⟨⟨x',z'⟩,Q⟩:∃q,ps[m]?=some q:=⟨ps[m]'(by rw[f.o];omega),by simp⟩;obtain⟨b',o',e',ae,d2,d3⟩:=(h.f hx).at' Q;cases e';have T:=Aa Q;clear Q d3;(have u0:IntKind.i64.wrap (((m+1:Nat):Int)-1)=(m:Int):=by rw[show ((m+1:Nat):Int)-1=(m:Int) by omega];exact iW _ ⟨by omega,by omega⟩);have u1:((m+1:Nat):Int)-1=(m:Int):=oM;have ac:decide ((0:Int)<((m+1:Nat):Int))=true:=sM;have p3:(0:Int)<=(m:Int):=oM;have p4:(m:Int)<(n:Int):=oM;by_cases k3:x'<x
       ·have K:Sa (Gf ps (m+1)=true):=Aa (by
         unfold Gf;rw[d.o.1,d.o.2,k1,k2,Nat.add_sub_cancel,gD,T.o];simpa using k3)
        (have ad:decide (x<=x')=false:=by simpa using k3);go_wp2;go_quiet (((first|(go_at_call 92;exact Calls.quiet_of_same (R.o _))|(go_at_call 92;exact Calls.quiet_of_same (t.o _)))));go_wp2;go_roundg (n-((m+1)+1))
        case measure=>have:=f.o;omega
        case rel =>
         refine⟨(m+1)+1,by have:=f.o;omega,by go_num,by rw[f.o],eA,fun j hj=>?_⟩;by_cases u:j=(m+1)
         ·subst u;exact K.o
         ·exact g.o j oM
       ·have K:Sa (Gf ps (m+1)=false):=Aa (by
         unfold Gf;rw[d.o.1,d.o.2,k1,k2,Nat.add_sub_cancel,gD,T.o];simpa using k3)
        (have ad:decide (x<=x')=true:=by simp;omega);have E:Sa (Za ps=false):=Aa (Zt (by rw[f.o];exact l) K.o);go_wp2;go_quiet (((first|(go_at_call 92;exact Calls.quiet_of_same (R.o _))|(go_at_call 92;exact Calls.quiet_of_same (t.o _)))));go_wp2;go_ret;exact⟨by rw[E.o];rfl,eA⟩
     ·rw[k2]at r;have t:=Aa r;clear r;have K:Sa (Gf ps i=false):=Aa (by unfold Gf;rw[d.o.1,d.o.2,k2];simp);have E:Sa (Za ps=false):=Aa (Zt (by rw[f.o];exact l) K.o);go_wp2;go_quiet (((first|(go_at_call 92;exact Calls.quiet_of_same (R.o _))|(go_at_call 92;exact Calls.quiet_of_same (t.o _)))));go_wp2;go_ret;exact⟨by rw[E.o];rfl,eA⟩
    ·rw[k1]at S;have R:=Aa S;have t:=Aa r;clear S r;have K:Sa (Gf ps i=false):=Aa (by unfold Gf;rw[d.o.1,k1];simp);have E:Sa (Za ps=false):=Aa (Zt (by rw[f.o];exact l) K.o);go_wp2;go_quiet (((first|(go_at_call 92;exact Calls.quiet_of_same (R.o _))|(go_at_call 92;exact Calls.quiet_of_same (t.o _)))));go_wp2;go_ret;exact⟨by rw[E.o];rfl,eA⟩
   ·obtain rfl:i=n:=oM;have e:Za ps=true:=IP HW.o (fun j hj=>g.o j (by rw[f.o]at hj;exact hj));have E:=Aa e;clear e;go_wp2;go_ret;exact⟨by rw[E.o];rfl,hx⟩
 ·have e:Za ps=false:=by
   unfold Za;rw[show Ta ps.length 2 40=false by rw[P];simp[Ta];omega];rfl
  rw[e];have y:=h.le;unfold maxLen at y;have ai:n<=9223372036854775807:=oM;by_cases k:n<2
  ·have k1:(n:Int)<2:=oM;clear e P h hw y;go_in;go_wp2;go_ret;exact⟨rfl,eR _⟩
  ·have k1:(2:Int)<=n:=oM;have k2:(40:Int)<n:=oM;clear e P h hw y;go_in;go_wp2;go_ret;exact⟨rfl,eR _⟩
