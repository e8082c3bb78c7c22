/- Part 13: contracts of what the law calls. -/
import Derived.Test.YtodpfeaihohpjaaGreatDoorCopA11
set_option maxRecDepth 1000000
set_option maxHeartbeats 16000000
set_option linter.unusedSimpArgs false
set_option linter.unusedVariables false
namespace Go.Proofs.YtodpfeaihohpjaaGreatDoor.Cop
section
open Go.RowKit Go.Shelf
def grdR (ps:List (Int×Int)) (i:Nat):Bool:=!pfarB (ps.getD i (0,0)).1&&(!pfarB (ps.getD i (0,0)).2&&(i==0 || decide ((ps.getD (i-1) (0,0)).1<(ps.getD i (0,0)).1)))
def groundB (ps:List (Int×Int)):Bool:=wthn ps.length 2 40&&(List.range ps.length).all (grdR ps)
theorem zcS {ps:List (Int×Int)} {i:Nat} (h:i<ps.length) (hr:grdR ps i=false):groundB ps=false:=by
 unfold groundB;rw [Bool.and_eq_false_iff]
 right
 rw [List.all_eq_false];exact⟨i,List.mem_range.2 h,by simp [hr]⟩
theorem zgp {ps:List (Int×Int)} (h1:wthn ps.length 2 40=true) (h:∀i,i<ps.length→grdR ps i=true):groundB ps=true:=by
 unfold groundB;rw [h1,Bool.true_and,List.all_eq_true];exact fun i hi=>h i (List.mem_range.1 hi)
def Rn (ps:List (Int×Int)) (i:Nat) (x z:Int):Prop:=(ps.getD i (0,0)).1=x∧(ps.getD i (0,0)).2=z
def GrS (w:World) (ps:List (Int×Int)) (g:Nat) (t15:Value) (W:World):Prop:=
 ∃i:Nat,i≤ps.length∧t15 = .int .i64 i∧g=ps.length-i∧Ext w W∧∀j,j<i→grdR ps j=true
theorem zhQ (w:World) (v:Value) (ps:List (Int×Int)) (h:IsPts w v ps) :
  Calls Tryz.prog 97 #[v] w fun e w'=>e = .returned (.bool (groundB ps))∧Ext w w':=by
 obtain⟨a,c,rfl⟩:=h.form;obtain⟨n,hn⟩:=gX ps.length;rw [hn]at h ⊢
 by_cases hw:2≤n∧n≤40
 ·obtain⟨h2,h40⟩:=hw
  have HW:Hid (wthn ps.length 2 40=true):=hd9 (by rw [hn];simp [wthn];omega);have Hn:=hd9 hn;obtain⟨⟨x0,z0⟩,hp0⟩:∃p,ps[0]?=some p:=⟨ps[0]'(by omega),by simp⟩;obtain⟨b,o,rfl,hbl,_,_⟩:=h.at' hp0;clear hn hp0;have q1:(2:Int)≤(n:Int):=by omega
  have q2:(n:Int)≤40:=by omega
  go_enter Tryz.func97,Tryz.ntmps97;go_wp2
  go_loopg [15] n (GrS w ps)
  case atStart=>exact⟨0,by omega,rfl,by rw [Hn.out];rfl,eR _,fun j hj=>by omega⟩
  case round =>
   obtain⟨i,hi,rfl,rfl,hx,hall⟩:=hrel;rw [Hn.out]at hi;have Hall:=hd9 hall;clear hall
   by_cases hlt:i<n
   ·obtain⟨⟨x,z⟩,hq⟩:∃q,ps[i]?=some q:=⟨ps[i]'(by rw [Hn.out];omega),by simp [Hn.out,hlt]⟩
    obtain⟨b',o',e',hb',d0,d1⟩:=(h.ext' hx).at' hq
    cases e'
    have Hq:=hd9 hq;clear hq;have hnx:Rn ps i x z:=⟨by rw [gD,Hq.out];rfl,by rw [gD,Hq.out];rfl⟩;have Hnx:=hd9 hnx;clear hnx;have p1:(0:Int)≤(i:Int):=by omega
    have p2:(i:Int)<(n:Int):=by omega
    have fx:=fun W=>zfN W x
    have fz:=fun W=>zfN W z
    cases k1:pfarB x
    ·rw [k1]at fx
     have Fx:=hd9 fx;clear fx
     cases k2:pfarB z
     ·rw [k2]at fz
      have Fz:=hd9 fz;clear fz
      by_cases h0:i=0
      ·subst h0
       have K:Hid (grdR ps 0=true):=hd9 (by unfold grdR;rw [Hnx.out.1,Hnx.out.2,k1,k2];rfl);have h0b:decide ((0:Int)<0)=false:=by decide
       simp only [Nat.zero_mul,Nat.add_zero]at d0 d1;go_wp2
       go_quiet (((first|(go_at_call 85;exact Calls.quiet_of_same (Fx.out _))|(go_at_call 85;exact Calls.quiet_of_same (Fz.out _)))))
       go_wp2
       go_roundg (n-(0+1))
       case measure=>have:=Hn.out;omega
       case rel =>
        refine⟨0+1,by have:=Hn.out;omega,by go_num,by rw [Hn.out],eA,fun j hj=>?_⟩
        by_cases hji:j=0
        ·subst hji;exact K.out
        ·exact Hall.out j (by omega)
      ·obtain⟨m,rfl⟩:∃m,i=m+1:=⟨i-1,by omega⟩
       obtain⟨⟨x',z'⟩,hq'⟩:∃q,ps[m]?=some q:=⟨ps[m]'(by rw [Hn.out];omega),by simp⟩;obtain⟨b',o',e',hb'',d2,d3⟩:=(h.ext' hx).at' hq'
       cases e'
       have Hq':=hd9 hq';clear hq' d3;have u0:IntKind.i64.wrap (((m+1:Nat):Int)-1)=(m:Int):=by rw [show ((m+1:Nat):Int)-1=(m:Int) by omega];exact iW _ ⟨by omega,by omega⟩
       have u1:((m+1:Nat):Int)-1=(m:Int):=by omega
       have h0b:decide ((0:Int)<((m+1:Nat):Int))=true:=by simp
       have p3:(0:Int)≤(m:Int):=by omega
       have p4:(m:Int)<(n:Int):=by omega
       by_cases k3:x'<x
       ·have K:Hid (grdR ps (m+1)=true):=hd9 (by
         unfold grdR;rw [Hnx.out.1,Hnx.out.2,k1,k2,Nat.add_sub_cancel,gD,Hq'.out];simpa using k3)
        have k3b:decide (x≤x')=false:=by simpa using k3
        go_wp2
        go_quiet (((first|(go_at_call 85;exact Calls.quiet_of_same (Fx.out _))|(go_at_call 85;exact Calls.quiet_of_same (Fz.out _)))))
        go_wp2
        go_roundg (n-((m+1)+1))
        case measure=>have:=Hn.out;omega
        case rel =>
         refine⟨(m+1)+1,by have:=Hn.out;omega,by go_num,by rw [Hn.out],eA,fun j hj=>?_⟩
         by_cases hji:j=(m+1)
         ·subst hji;exact K.out
         ·exact Hall.out j (by omega)
       ·have K:Hid (grdR ps (m+1)=false):=hd9 (by
         unfold grdR;rw [Hnx.out.1,Hnx.out.2,k1,k2,Nat.add_sub_cancel,gD,Hq'.out];simpa using k3)
        have k3b:decide (x≤x')=true:=by simp;omega
        have E:Hid (groundB ps=false):=hd9 (zcS (by rw [Hn.out];exact hlt) K.out);go_wp2
        go_quiet (((first|(go_at_call 85;exact Calls.quiet_of_same (Fx.out _))|(go_at_call 85;exact Calls.quiet_of_same (Fz.out _)))))
        go_wp2;go_ret;exact⟨by rw [E.out];rfl,eA⟩
     ·rw [k2]at fz
      have Fz:=hd9 fz;clear fz;have K:Hid (grdR ps i=false):=hd9 (by unfold grdR;rw [Hnx.out.1,Hnx.out.2,k2];simp);have E:Hid (groundB ps=false):=hd9 (zcS (by rw [Hn.out];exact hlt) K.out);go_wp2
      go_quiet (((first|(go_at_call 85;exact Calls.quiet_of_same (Fx.out _))|(go_at_call 85;exact Calls.quiet_of_same (Fz.out _)))))
      go_wp2;go_ret;exact⟨by rw [E.out];rfl,eA⟩
    ·rw [k1]at fx
     have Fx:=hd9 fx;have Fz:=hd9 fz;clear fx fz;have K:Hid (grdR ps i=false):=hd9 (by unfold grdR;rw [Hnx.out.1,k1];simp);have E:Hid (groundB ps=false):=hd9 (zcS (by rw [Hn.out];exact hlt) K.out);go_wp2
     go_quiet (((first|(go_at_call 85;exact Calls.quiet_of_same (Fx.out _))|(go_at_call 85;exact Calls.quiet_of_same (Fz.out _)))))
     go_wp2;go_ret;exact⟨by rw [E.out];rfl,eA⟩
   ·obtain rfl:i=n:=by omega
    have e:groundB ps=true:=zgp HW.out (fun j hj=>Hall.out j (by rw [Hn.out]at hj;exact hj));have E:=hd9 e;clear e;go_wp2;go_ret;exact⟨by rw [E.out];rfl,hx⟩
 ·have e:groundB ps=false:=by
   unfold groundB;rw [show wthn ps.length 2 40=false by rw [hn];simp [wthn];omega];rfl
  rw [e];have hle:=h.le;unfold maxLen at hle;have hnc:n≤9223372036854775807:=by omega
  by_cases k:n<2
  ·have k1:(n:Int)<2:=by omega
   clear e hn h hw hle;go_enter Tryz.func97,Tryz.ntmps97;go_wp2;go_ret;exact⟨rfl,eR _⟩
  ·have k1:(2:Int)≤n:=by omega
   have k2:(40:Int)<n:=by omega
   clear e hn h hw hle;go_enter Tryz.func97,Tryz.ntmps97;go_wp2;go_ret;exact⟨rfl,eR _⟩
end
end Go.Proofs.YtodpfeaihohpjaaGreatDoor.Cop
