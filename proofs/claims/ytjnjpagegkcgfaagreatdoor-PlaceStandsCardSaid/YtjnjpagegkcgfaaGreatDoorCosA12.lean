/- Part 13. -/
import Derived.Test.YtjnjpagegkcgfaaGreatDoorCosA11
set_option maxRecDepth 1000000
set_option maxHeartbeats 16000000
set_option linter.unusedSimpArgs false
set_option linter.unusedVariables false
namespace Go.Proofs.YtjnjpagegkcgfaaGreatDoor.Cop
section
open Go.RowKit Go.Shelf
def grdR(ps:LP)(i:Nat):Bool:=!pfarB (ps.getD i (0,0)).1&&(!pfarB (ps.getD i (0,0)).2&&(i==0 || decide ((ps.getD (i-1) (0,0)).1<(ps.getD i (0,0)).1)))
def groundB(ps:LP):Bool:=wthn ps.length 2 40&&(List.range ps.length).all (grdR ps)
theorem zcL{ps:LP}{i:Nat}(h:i<ps.length)(a:grdR ps i=false):groundB ps=false:=by
 unfold groundB;rw[Bool.and_eq_false_iff]
 right
 rw[List.all_eq_false];exact⟨i,List.mem_range.2 h,by simp[a]⟩
theorem zgi{ps:LP}(a:wthn ps.length 2 40=true)(h:∀i,i<ps.length->grdR ps i=true):groundB ps=true:=by
 unfold groundB;rw[a,Bool.true_and,List.all_eq_true];exact fun i b=>h i (List.mem_range.1 b)
def Rn(ps:LP)(i:Nat)(x z:Int):Prop:=(ps.getD i (0,0)).1=x/\(ps.getD i (0,0)).2=z
def GrS(w:World)(ps:LP)(g:Nat)(a:Value)(W:World):Prop:=
 ∃i:Nat,i<=ps.length/\a = .int .i64 i/\g=ps.length-i/\Ext w W/\∀j,j<i->grdR ps j=true
theorem zhW(w:World)(v:Value)(ps:LP)(h:IsPts w v ps) :
  Calls Tryz.prog 125 #[v] w fun e w'=>e = .returned (.bool (groundB ps))/\Ext w w':=by
 obtain⟨a,c,rfl⟩:=h.form;obtain⟨n,D⟩:=gX ps.length;rw[D]at h ⊢
 by_cases hw:2<=n/\n<=40
 ·obtain⟨h2,af⟩:=hw
  have HW:Hid (wthn ps.length 2 40=true):=hd9 (by rw[D];simp[wthn];omega);have f:=hd9 D;obtain⟨⟨x0,z0⟩,ab⟩:∃p,ps[0]?=some p:=⟨ps[0]' oM,by simp⟩;obtain⟨b,o,rfl,ah,_,_⟩:=h.at' ab;clear D ab;have q1:(2:Int)<=(n:Int):=oM
  have q2:(n:Int)<=40:=oM
  go_enter Tryz.func125,Tryz.ntmps125;go_wp2
  go_loopg [15] n (GrS w ps)
  case atStart=>exact⟨0,by omega,rfl,by rw[f.out];rfl,eR _,fun j T=>by omega⟩
  case round =>
   obtain⟨i,hi,rfl,rfl,hx,s⟩:=hrel;rw[f.out]at hi;have g:=hd9 s;clear s
   by_cases l:i<n
   ·obtain⟨⟨x,z⟩,hq⟩:∃q,ps[i]?=some q:=⟨ps[i]'(by rw[f.out];omega),by simp[f.out,l]⟩
    obtain⟨b',o',e',ag,d0,d1⟩:=(h.ext' hx).at' hq
    cases e'
    have Hq:=hd9 hq;clear hq;have aa:Rn ps i x z:=⟨by rw[gD,Hq.out];rfl,by rw[gD,Hq.out];rfl⟩;have d:=hd9 aa;clear aa;have p1:(0:Int)<=(i:Int):=oM
    have p2:(i:Int)<(n:Int):=oM
    have Q:=fun W=>zfF W x
    have r:=fun W=>zfF W z
    cases k1:pfarB x
    ·rw[k1]at Q
     have P:=hd9 Q;clear Q
     cases k2:pfarB z
     ·rw[k2]at r
      have t:=hd9 r;clear r
      by_cases h0:i=0
      ·subst h0
       have K:Hid (grdR ps 0=true):=hd9 (by unfold grdR;rw[d.out.1,d.out.2,k1,k2];rfl);have ac:decide ((0:Int)<0)=false:=dM
       simp only[Nat.zero_mul,Nat.add_zero]at d0 d1;go_wp2
       go_quiet (((first|(go_at_call 92;exact Calls.quiet_of_same (P.out _))|(go_at_call 92;exact Calls.quiet_of_same (t.out _)))))
       go_wp2
       go_roundg (n-(0+1))
       case measure=>have:=f.out;omega
       case rel =>
        refine⟨0+1,by have:=f.out;omega,by go_num,by rw[f.out],eA,fun j T=>?_⟩
        by_cases u:j=0
        ·subst u;exact K.out
        ·exact g.out j oM
      ·obtain⟨m,rfl⟩:∃m,i=m+1:=⟨i-1,by omega⟩
       obtain⟨⟨x',z'⟩,L⟩:∃q,ps[m]?=some q:=⟨ps[m]'(by rw[f.out];omega),by simp⟩;obtain⟨b',o',e',ae,d2,d3⟩:=(h.ext' hx).at' L
       cases e'
       have R:=hd9 L;clear L d3;have u0:IntKind.i64.wrap (((m+1:Nat):Int)-1)=(m:Int):=by rw[show ((m+1:Nat):Int)-1=(m:Int) by omega];exact iW _ ⟨by omega,by omega⟩
       have u1:((m+1:Nat):Int)-1=(m:Int):=oM
       have ac:decide ((0:Int)<((m+1:Nat):Int))=true:=sM
       have p3:(0:Int)<=(m:Int):=oM
       have p4:(m:Int)<(n:Int):=oM
       by_cases k3:x'<x
       ·have K:Hid (grdR ps (m+1)=true):=hd9 (by
         unfold grdR;rw[d.out.1,d.out.2,k1,k2,Nat.add_sub_cancel,gD,R.out];simpa using k3)
        have ad:decide (x<=x')=false:=by simpa using k3
        go_wp2
        go_quiet (((first|(go_at_call 92;exact Calls.quiet_of_same (P.out _))|(go_at_call 92;exact Calls.quiet_of_same (t.out _)))))
        go_wp2
        go_roundg (n-((m+1)+1))
        case measure=>have:=f.out;omega
        case rel =>
         refine⟨(m+1)+1,by have:=f.out;omega,by go_num,by rw[f.out],eA,fun j T=>?_⟩
         by_cases u:j=(m+1)
         ·subst u;exact K.out
         ·exact g.out j oM
       ·have K:Hid (grdR ps (m+1)=false):=hd9 (by
         unfold grdR;rw[d.out.1,d.out.2,k1,k2,Nat.add_sub_cancel,gD,R.out];simpa using k3)
        have ad:decide (x<=x')=true:=by simp;omega
        have E:Hid (groundB ps=false):=hd9 (zcL (by rw[f.out];exact l) K.out);go_wp2
        go_quiet (((first|(go_at_call 92;exact Calls.quiet_of_same (P.out _))|(go_at_call 92;exact Calls.quiet_of_same (t.out _)))))
        go_wp2;go_ret;exact⟨by rw[E.out];rfl,eA⟩
     ·rw[k2]at r
      have t:=hd9 r;clear r;have K:Hid (grdR ps i=false):=hd9 (by unfold grdR;rw[d.out.1,d.out.2,k2];simp);have E:Hid (groundB ps=false):=hd9 (zcL (by rw[f.out];exact l) K.out);go_wp2
      go_quiet (((first|(go_at_call 92;exact Calls.quiet_of_same (P.out _))|(go_at_call 92;exact Calls.quiet_of_same (t.out _)))))
      go_wp2;go_ret;exact⟨by rw[E.out];rfl,eA⟩
    ·rw[k1]at Q
     have P:=hd9 Q;have t:=hd9 r;clear Q r;have K:Hid (grdR ps i=false):=hd9 (by unfold grdR;rw[d.out.1,k1];simp);have E:Hid (groundB ps=false):=hd9 (zcL (by rw[f.out];exact l) K.out);go_wp2
     go_quiet (((first|(go_at_call 92;exact Calls.quiet_of_same (P.out _))|(go_at_call 92;exact Calls.quiet_of_same (t.out _)))))
     go_wp2;go_ret;exact⟨by rw[E.out];rfl,eA⟩
   ·obtain rfl:i=n:=oM
    have e:groundB ps=true:=zgi HW.out (fun j T=>g.out j (by rw[f.out]at T;exact T));have E:=hd9 e;clear e;go_wp2;go_ret;exact⟨by rw[E.out];rfl,hx⟩
 ·have e:groundB ps=false:=by
   unfold groundB;rw[show wthn ps.length 2 40=false by rw[D];simp[wthn];omega];rfl
  rw[e];have y:=h.le;unfold maxLen at y;have ai:n<=9223372036854775807:=oM
  by_cases k:n<2
  ·have k1:(n:Int)<2:=oM
   clear e D h hw y;go_enter Tryz.func125,Tryz.ntmps125;go_wp2;go_ret;exact⟨rfl,eR _⟩
  ·have k1:(2:Int)<=n:=oM
   have k2:(40:Int)<n:=oM
   clear e D h hw y;go_enter Tryz.func125,Tryz.ntmps125;go_wp2;go_ret;exact⟨rfl,eR _⟩
end
end Go.Proofs.YtjnjpagegkcgfaaGreatDoor.Cop
