/- Part 12: contracts of what the law calls. -/
import Derived.Test.YtodpfeaihohpjaaGreatDoorCopA06
import Derived.Test.YtodpfeaihohpjaaGreatDoorCopA09
set_option maxRecDepth 1000000
set_option maxHeartbeats 16000000
set_option linter.unusedSimpArgs false
set_option linter.unusedVariables false
namespace Go.Proofs.YtodpfeaihohpjaaGreatDoor.Cop
section
open Go.RowKit Go.Shelf
def lineL (ps:List (Int×Int)):Int:=(ps.getD 0 (0,0)).1
def lineR (ps:List (Int×Int)):Int:=(ps.getD (ps.length-1) (0,0)).1
theorem zbr (w:World) (v:Value) (ps:List (Int×Int)) (h:IsPts w v ps) (h0:0<ps.length) :
  Calls Tryz.prog 60 #[v] w fun e w'=>e = .returned (.int .i64 (lineL ps))∧Ext w w':=by
 obtain⟨a,c,rfl⟩:=h.form;obtain⟨⟨x,z⟩,hp⟩:∃p,ps[0]?=some p:=⟨ps[0],by simp⟩;obtain⟨b,o,rfl,hb,c0,c1⟩:=h.at' hp;simp only [Nat.zero_mul,Nat.add_zero]at c0 c1;have e:lineL ps=x:=by unfold lineL;rw [gD,hp];rfl
 rw [e];clear e hp h
 generalize ps.length=n at *
 go_enter Tryz.func60,Tryz.ntmps60;go_wp2;go_ret;exact⟨rfl,eR _⟩
theorem zbn (w:World) (v:Value) (ps:List (Int×Int)) (h:IsPts w v ps) (h0:0<ps.length) :
  Calls Tryz.prog 61 #[v] w fun e w'=>e = .returned (.int .i64 (lineR ps))∧Ext w w':=by
 obtain⟨a,c,rfl⟩:=h.form;obtain⟨n,hn⟩:∃n,ps.length=n+1:=⟨ps.length-1,by omega⟩;rw [hn]at h ⊢;have hle:=h.le;rw [hn]at hle;unfold maxLen at hle;obtain⟨⟨x,z⟩,hp⟩:∃p,ps[n]?=some p:=⟨ps[n],by simp⟩;obtain⟨b,o,rfl,hb,c0,c1⟩:=h.at' hp;have e:lineR ps=x:=by unfold lineR;rw [hn,Nat.add_sub_cancel,gD,hp];rfl
 rw [e];have u0:((n+1:Nat):Int)-1=(n:Int):=by omega
 have u1:(n:Int)<((n+1:Nat):Int):=by omega
 have u2:n≤9223372036854775806:=by omega
 clear e hp h hn hle h0;go_enter Tryz.func61,Tryz.ntmps61;go_wp2;go_ret;exact⟨rfl,eR _⟩
theorem znt {p q:Prop} [Decidable p] [Decidable q] (h:p ↔ q):Ending.returned (.bool (decide p)) = .returned (.bool (decide q)):=by
 rw [show decide p=decide q from decide_eq_decide.2 h]
def PcS (w:World) (G:Nat) (g:Nat) (t0 t1:Value) (W:World):Prop:=∃a b:Nat,t0 = .int .i64 a∧t1 = .int .i64 b∧a≤9223372036854775807∧b≤9223372036854775807∧Nat.gcd a b=G∧g=b∧Ext w W
theorem zgu (w:World) (a b:Nat) (ha:a≤9223372036854775807) (hb:b≤9223372036854775807) :
  Calls Tryz.prog 133 #[.int .i64 a,.int .i64 b] w fun e w'=>e = .returned (.int .i64 (Nat.gcd a b:Nat))∧Ext w w':=by
 obtain⟨G,hG⟩:=gX (Nat.gcd a b);rw [hG];have HG:=hd9 hG;clear hG;go_enter Tryz.func133,Tryz.ntmps133;go_wp2
 go_loopg [0,1] b (PcS w G)
 case atStart=>exact⟨a,b,rfl,rfl,ha,hb,HG.out,rfl,eR _⟩
 case round =>
  clear ha hb HG;obtain⟨x,y,rfl,rfl,hx,hy,hg,rfl,hxt⟩:=hrel;have Hg:=hd9 hg;clear hg
  by_cases h0:gk=0
  ·subst h0
   go_wp2;go_ret;exact⟨zde (zby (by rw [←Hg.out];simp)),hxt⟩
  ·have h1:((gk:Int)==0)=false:=by simp;omega
   have h2:((gk:Int) != 0)=true:=by simp;omega
   have h3:(1:Int)≤(gk:Int):=by omega
   have h4:0<gk:=by omega
   clear h0;go_wp2
   go_quiet (fail)
   go_wp2
   go_roundg (x % gk)
   case measure=>exact Nat.mod_lt x h4
   case rel =>
    have hlt:=Nat.mod_lt x h4;exact⟨gk,x % gk,rfl,zby (by simp),hy,by omega,by rw [←Hg.out,Nat.gcd_comm x gk,Nat.gcd_rec gk x,Nat.gcd_comm],rfl,hxt.drewN _⟩
structure Pl where
 name:ByteArray
 shape:List (Int×Int)
 depth:Int
 density:Int
 gx:Int
 gz:Int
 way:Int
 ax:Int
 az:Int
 skin:Int
def plc (p:Pl) (sl:Value):Array Value:=#[.string p.name,sl,.int .i64 p.depth,.int .i64 p.density,.int .i64 p.gx,.int .i64 p.gz,.int .i64 p.way,.int .i64 p.ax,.int .i64 p.az,.int .u8 p.skin]
def meetB (p q:Pl):Bool:=p.skin==q.skin || p.skin==3 || q.skin==3
theorem zb9 (w:World) (p q:Pl) (s t:Value) (hs:∃a n c,s = .slice a n c) (ht:∃a n c,t = .slice a n c) :
  Calls Tryz.prog 50 #[.agg (plc p s),.agg (plc q t)] w fun e w'=>e = .returned (.bool (meetB p q))∧Ext w w':=by
 obtain⟨a,n,c,rfl⟩:=hs;obtain⟨a',n',c',rfl⟩:=ht;obtain⟨nm,sh,d,de,gx,gz,wy,ax,az,sk⟩:=p;obtain⟨nm',sh',d',de',gx',gz',wy',ax',az',sk'⟩:=q;unfold meetB plc;dsimp only
 by_cases h1:sk=sk'
 ·have e1:(sk==sk')=true:=by simpa using h1
  rw [e1];clear h1;go_enter Tryz.func50,Tryz.ntmps50;go_wp2;go_ret;exact⟨rfl,eA⟩
 have e1:(sk==sk')=false:=by simpa using h1
 rw [e1];clear h1
 by_cases h2:sk=3
 ·have e2:(sk==3)=true:=by simpa using h2
  rw [e2];clear h2;go_enter Tryz.func50,Tryz.ntmps50;go_wp2;go_ret;exact⟨rfl,eA⟩
 have e2:(sk==3)=false:=by simpa using h2
 rw [e2];clear h2;go_enter Tryz.func50,Tryz.ntmps50;go_wp2;go_ret;exact⟨rfl,eA⟩
def placedOk (p:Pl):Bool:=stoneB (namedB p.name) p.shape p.depth p.density p.gx p.gz&&(wthn p.way 0 7&&(!pfarB p.ax&&(!pfarB p.az&&wthn p.skin 1 3)))
theorem zaz (w:World) (p:Pl) (v:Value) (h:IsPts w v p.shape) (hk:0≤p.skin) :
  Calls Tryz.prog 45 #[.agg (plc p v)] w fun e w'=>e = .returned (.int .i64 (if placedOk p then 0 else 2))∧Ext w w':=by
 obtain⟨a,c,rfl⟩:=h.form;obtain⟨nm,ps,d,de,gx,gz,wy,ax,az,sk⟩:=p;dsimp only at h hk ⊢;obtain⟨n,hn⟩:=gX ps.length;rw [hn]at h ⊢;have hck:=fun W (hW:Ext w W)=>zfr W nm (.slice a n c) ps d de gx gz (h.ext' hW)
 obtain⟨B,hB⟩:=gX (stoneB (namedB nm) ps d de gx gz);rw [hB]at hck;have hR:placedOk ⟨nm,ps,d,de,gx,gz,wy,ax,az,sk⟩=(B&&(wthn wy 0 7&&(!pfarB ax&&(!pfarB az&&wthn sk 1 3)))):=by unfold placedOk;rw [hB]
 rw [hR];unfold plc;dsimp only;clear hR hB hn h
 cases B
 ·have Hck:=hd9 hck
  clear hck;go_enter Tryz.func45,Tryz.ntmps45
  go_wp2_with(first|((go_at_call 98;(with_reducible refine(Hck.out _ ?_).mono ?_);exact eA;rintro e w1 ⟨rfl,hx1⟩;obtain⟨⟨hc1,hf1⟩,z1_0⟩:=cK1 w hx1)))
  go_ret;exact⟨rfl,eA⟩
 ·have Hck:=hd9 hck
  clear hck;rw [Bool.true_and]
  by_cases k1:0≤wy
  ·by_cases k2:wy≤7
   ·have e1:wthn wy 0 7=true:=by simp [wthn];omega
    rw [e1,Bool.true_and];have q1:decide (wy<0)=false:=by simp;omega
    have q2:decide (7<wy)=false:=by simp;omega
    clear e1
    cases k3:pfarB ax
    ·cases k4:pfarB az
     ·rw [Bool.not_false,Bool.true_and,Bool.true_and]
      by_cases s1:1≤sk
      ·by_cases s2:sk≤3
       ·have e2:wthn sk 1 3=true:=by simp [wthn];omega
        rw [e2];clear e2;go_enter Tryz.func45,Tryz.ntmps45
        go_wp2_with(first|((go_at_call 98;(with_reducible refine(Hck.out _ ?_).mono ?_);exact eA;rintro e w1 ⟨rfl,hx1⟩;obtain⟨⟨hc1,hf1⟩,z1_0⟩:=cK1 w hx1))|((go_at_call 85;(with_reducible refine(zbb _ ax).mono ?_);rw [k3];rintro e w2 ⟨rfl,hx2⟩;obtain⟨⟨hc2,hf2⟩,z2_0⟩:=cK1 w hx2))|((go_at_call 85;(with_reducible refine(zbb _ az).mono ?_);rw [k4];rintro e w3 ⟨rfl,hx3⟩;obtain⟨⟨hc3,hf3⟩,z3_0⟩:=cK1 w hx3)))
        go_ret;exact⟨rfl,eA⟩
       ·have e2:wthn sk 1 3=false:=by simp [wthn];omega
        rw [e2];clear e2;go_enter Tryz.func45,Tryz.ntmps45
        go_wp2_with(first|((go_at_call 98;(with_reducible refine(Hck.out _ ?_).mono ?_);exact eA;rintro e w1 ⟨rfl,hx1⟩;obtain⟨⟨hc1,hf1⟩,z1_0⟩:=cK1 w hx1))|((go_at_call 85;(with_reducible refine(zbb _ ax).mono ?_);rw [k3];rintro e w2 ⟨rfl,hx2⟩;obtain⟨⟨hc2,hf2⟩,z2_0⟩:=cK1 w hx2))|((go_at_call 85;(with_reducible refine(zbb _ az).mono ?_);rw [k4];rintro e w3 ⟨rfl,hx3⟩;obtain⟨⟨hc3,hf3⟩,z3_0⟩:=cK1 w hx3)))
        go_ret;exact⟨rfl,eA⟩
      ·have e2:wthn sk 1 3=false:=by simp [wthn];omega
       rw [e2];clear e2;go_enter Tryz.func45,Tryz.ntmps45
       go_wp2_with(first|((go_at_call 98;(with_reducible refine(Hck.out _ ?_).mono ?_);exact eA;rintro e w1 ⟨rfl,hx1⟩;obtain⟨⟨hc1,hf1⟩,z1_0⟩:=cK1 w hx1))|((go_at_call 85;(with_reducible refine(zbb _ ax).mono ?_);rw [k3];rintro e w2 ⟨rfl,hx2⟩;obtain⟨⟨hc2,hf2⟩,z2_0⟩:=cK1 w hx2))|((go_at_call 85;(with_reducible refine(zbb _ az).mono ?_);rw [k4];rintro e w3 ⟨rfl,hx3⟩;obtain⟨⟨hc3,hf3⟩,z3_0⟩:=cK1 w hx3)))
       go_ret;exact⟨rfl,eA⟩
     ·go_enter Tryz.func45,Tryz.ntmps45
      go_wp2_with(first|((go_at_call 98;(with_reducible refine(Hck.out _ ?_).mono ?_);exact eA;rintro e w1 ⟨rfl,hx1⟩;obtain⟨⟨hc1,hf1⟩,z1_0⟩:=cK1 w hx1))|((go_at_call 85;(with_reducible refine(zbb _ ax).mono ?_);rw [k3];rintro e w2 ⟨rfl,hx2⟩;obtain⟨⟨hc2,hf2⟩,z2_0⟩:=cK1 w hx2))|((go_at_call 85;(with_reducible refine(zbb _ az).mono ?_);rw [k4];rintro e w3 ⟨rfl,hx3⟩;obtain⟨⟨hc3,hf3⟩,z3_0⟩:=cK1 w hx3)))
      go_ret;exact⟨rfl,eA⟩
    ·go_enter Tryz.func45,Tryz.ntmps45
     go_wp2_with(first|((go_at_call 98;(with_reducible refine(Hck.out _ ?_).mono ?_);exact eA;rintro e w1 ⟨rfl,hx1⟩;obtain⟨⟨hc1,hf1⟩,z1_0⟩:=cK1 w hx1))|((go_at_call 85;(with_reducible refine(zbb _ ax).mono ?_);rw [k3];rintro e w2 ⟨rfl,hx2⟩;obtain⟨⟨hc2,hf2⟩,z2_0⟩:=cK1 w hx2)))
     go_ret;exact⟨rfl,eA⟩
   ·have e1:wthn wy 0 7=false:=by simp [wthn];omega
    rw [e1,Bool.false_and];clear e1;go_enter Tryz.func45,Tryz.ntmps45
    go_wp2_with(first|((go_at_call 98;(with_reducible refine(Hck.out _ ?_).mono ?_);exact eA;rintro e w1 ⟨rfl,hx1⟩;obtain⟨⟨hc1,hf1⟩,z1_0⟩:=cK1 w hx1)))
    go_ret;exact⟨rfl,eA⟩
  ·have e1:wthn wy 0 7=false:=by simp [wthn];omega
   rw [e1,Bool.false_and];clear e1;go_enter Tryz.func45,Tryz.ntmps45
   go_wp2_with(first|((go_at_call 98;(with_reducible refine(Hck.out _ ?_).mono ?_);exact eA;rintro e w1 ⟨rfl,hx1⟩;obtain⟨⟨hc1,hf1⟩,z1_0⟩:=cK1 w hx1)))
   go_ret;exact⟨rfl,eA⟩
end
end Go.Proofs.YtodpfeaihohpjaaGreatDoor.Cop
