/- Part 11: contracts of what the law calls. -/
import Derived.Test.YtodpfeaihohpjaaGreatDoorCopA06
import Derived.Test.YtodpfeaihohpjaaGreatDoorCopA08
set_option maxRecDepth 1000000
set_option maxHeartbeats 16000000
set_option linter.unusedSimpArgs false
set_option linter.unusedVariables false
namespace Go.Proofs.YtodpfeaihohpjaaGreatDoor.Cop
section
open Go.RowKit Go.Shelf
def lineL (ps:List (Int×Int)):Int:=(ps.getD 0 (0,0)).1
def lineR (ps:List (Int×Int)):Int:=(ps.getD (ps.length-1) (0,0)).1
theorem zbc (w:World) (v:Value) (ps:List (Int×Int)) (h:IsPts w v ps) (j:0<ps.length) :
  Calls Tryz.prog 60 #[v] w fun e i=>e = .returned (.int .i64 (lineL ps))∧Ext w i:=by
 obtain⟨a,c,rfl⟩:=h.form;obtain⟨⟨x,z⟩,d⟩:∃p,ps[0]?=some p:=⟨ps[0],by simp⟩;obtain⟨b,o,rfl,k,f,g⟩:=h.at' d;simp only [Nat.zero_mul,Nat.add_zero]at f g;have e:lineL ps=x:=by unfold lineL;rw [gD,d];rfl
 rw [e];clear e d h
 generalize ps.length=n at *
 go_enter Tryz.func60,Tryz.ntmps60;go_wp2;go_ret;exact⟨rfl,eR _⟩
theorem za1 (w:World) (v:Value) (ps:List (Int×Int)) (h:IsPts w v ps) (i:0<ps.length) :
  Calls Tryz.prog 61 #[v] w fun e j=>e = .returned (.int .i64 (lineR ps))∧Ext w j:=by
 obtain⟨a,c,rfl⟩:=h.form;obtain⟨n,f⟩:∃n,ps.length=n+1:=⟨ps.length-1,by omega⟩;rw [f]at h ⊢;have d:=h.le;rw [f]at d;unfold maxLen at d;obtain⟨⟨x,z⟩,g⟩:∃p,ps[n]?=some p:=⟨ps[n],by simp⟩;obtain⟨b,o,rfl,m,k,l⟩:=h.at' g;have e:lineR ps=x:=by unfold lineR;rw [f,Nat.add_sub_cancel,gD,g];rfl
 rw [e];have q:((n+1:Nat):Int)-1=(n:Int):=oM
 have r:(n:Int)<((n+1:Nat):Int):=oM
 have s:n≤9223372036854775806:=oM
 clear e g h f d i;go_enter Tryz.func61,Tryz.ntmps61;go_wp2;go_ret;exact⟨rfl,eR _⟩
theorem zom {p q:Prop} [Decidable p] [Decidable q] (h:p ↔ q):Ending.returned (.bool (decide p)) = .returned (.bool (decide q)):=by
 rw [show decide p=decide q from decide_eq_decide.2 h]
def PcS (w:World) (G:Nat) (g:Nat) (t0 c:Value) (W:World):Prop:=∃a b:Nat,t0 = .int .i64 a∧c = .int .i64 b∧a≤9223372036854775807∧b≤9223372036854775807∧Nat.gcd a b=G∧g=b∧Ext w W
theorem zgN (w:World) (a b:Nat) (j:a≤9223372036854775807) (k:b≤9223372036854775807) :
  Calls Tryz.prog 133 #[.int .i64 a,.int .i64 b] w fun e o=>e = .returned (.int .i64 (Nat.gcd a b:Nat))∧Ext w o:=by
 obtain⟨G,d⟩:=gX (Nat.gcd a b);rw [d];have f:=hd9 d;clear d;go_enter Tryz.func133,Tryz.ntmps133;go_wp2
 go_loopg [0,1] b (PcS w G)
 case atStart=>exact⟨a,b,rfl,rfl,j,k,f.out,rfl,eR _⟩
 case round =>
  clear j k f;obtain⟨x,y,rfl,rfl,s,n,l,rfl,c⟩:=hrel;have g:=hd9 l;clear l
  by_cases h:gk=0
  ·subst h
   go_wp2;go_ret;exact⟨zdq (zbD (by rw [←g.out];simp)),c⟩
  ·have p:((gk:Int)==0)=false:=by simp;omega
   have q:((gk:Int) != 0)=true:=by simp;omega
   have r:(1:Int)≤(gk:Int):=oM
   have i:0<gk:=oM
   clear h;go_wp2
   go_quiet (fail)
   go_wp2
   go_roundg (x % gk)
   case measure=>exact Nat.mod_lt x i
   case rel =>
    have m:=Nat.mod_lt x i;exact⟨gk,x % gk,rfl,zbD sM,n,by omega,by rw [←g.out,Nat.gcd_comm x gk,Nat.gcd_rec gk x,Nat.gcd_comm],rfl,c.drewN _⟩
structure Pl where
 name:ByteArray
 shape:List (Int×Int)
 depth:Int
 density:Int
 gx:Int
 gz:Int
 way:Int
 ax:Int
 az:Int
 skin:Int
def plc (p:Pl) (sl:Value):Array Value:=#[.string p.name,sl,.int .i64 p.depth,.int .i64 p.density,.int .i64 p.gx,.int .i64 p.gz,.int .i64 p.way,.int .i64 p.ax,.int .i64 p.az,.int .u8 p.skin]
def meetB (p q:Pl):Bool:=p.skin==q.skin || p.skin==3 || q.skin==3
theorem zck (w:World) (p q:Pl) (s t:Value) (u:∃a n c,s = .slice a n c) (v:∃a n c,t = .slice a n c) :
  Calls Tryz.prog 50 #[.agg (plc p s),.agg (plc q t)] w fun e z=>e = .returned (.bool (meetB p q))∧Ext w z:=by
 obtain⟨a,n,c,rfl⟩:=u;obtain⟨K,n',T,rfl⟩:=v;obtain⟨nm,sh,d,de,gx,gz,wy,P,Q,f⟩:=p;obtain⟨x,y,W,m,o,r,D,k,l,b⟩:=q;unfold meetB plc;dsimp only
 by_cases g:f=b
 ·have i:(f==b)=true:=by simpa using g
  rw [i];clear g;go_enter Tryz.func50,Tryz.ntmps50;go_wp2;go_ret;exact⟨rfl,eA⟩
 have i:(f==b)=false:=by simpa using g
 rw [i];clear g
 by_cases h:f=3
 ·have j:(f==3)=true:=by simpa using h
  rw [j];clear h;go_enter Tryz.func50,Tryz.ntmps50;go_wp2;go_ret;exact⟨rfl,eA⟩
 have j:(f==3)=false:=by simpa using h
 rw [j];clear h;go_enter Tryz.func50,Tryz.ntmps50;go_wp2;go_ret;exact⟨rfl,eA⟩
def placedOk (p:Pl):Bool:=stoneB (namedB p.name) p.shape p.depth p.density p.gx p.gz&&(wthn p.way 0 7&&(!pfarB p.ax&&(!pfarB p.az&&wthn p.skin 1 3)))
theorem zaD (w:World) (p:Pl) (v:Value) (h:IsPts w v p.shape) (hk:0≤p.skin) :
  Calls Tryz.prog 45 #[.agg (plc p v)] w fun e w'=>e = .returned (.int .i64 (if placedOk p then 0 else 2))∧Ext w w':=by
 obtain⟨a,c,rfl⟩:=h.form;obtain⟨nm,T,d,de,gx,gz,t,u,z,P⟩:=p;dsimp only at h hk ⊢;obtain⟨n,hn⟩:=gX T.length;rw [hn]at h ⊢;have o:=fun W (hW:Ext w W)=>zfI W nm (.slice a n c) T d de gx gz (h.ext' hW)
 obtain⟨B,hB⟩:=gX (stoneB (namedB nm) T d de gx gz);rw [hB]at o;have hR:placedOk ⟨nm,T,d,de,gx,gz,t,u,z,P⟩=(B&&(wthn t 0 7&&(!pfarB u&&(!pfarB z&&wthn P 1 3)))):=by unfold placedOk;rw [hB]
 rw [hR];unfold plc;dsimp only;clear hR hB hn h
 cases B
 ·have g:=hd9 o
  clear o;go_enter Tryz.func45,Tryz.ntmps45
  go_wp2_with(first|((go_at_call 98;(with_reducible refine(g.out _ ?_).mono ?_);exact eA;rintro e Q ⟨rfl,b⟩;obtain⟨⟨j,k⟩,f⟩:=cK1 w b)))
  go_ret;exact⟨rfl,eA⟩
 ·have g:=hd9 o
  clear o;rw [Bool.true_and]
  by_cases k1:0≤t
  ·by_cases k2:t≤7
   ·have x:wthn t 0 7=true:=by simp [wthn];omega
    rw [x,Bool.true_and];have q1:decide (t<0)=false:=by simp;omega
    have q2:decide (7<t)=false:=by simp;omega
    clear x
    cases k3:pfarB u
    ·cases k4:pfarB z
     ·rw [Bool.not_false,Bool.true_and,Bool.true_and]
      by_cases s1:1≤P
      ·by_cases s2:P≤3
       ·have y:wthn P 1 3=true:=by simp [wthn];omega
        rw [y];clear y;go_enter Tryz.func45,Tryz.ntmps45
        go_wp2_with(first|((go_at_call 98;(with_reducible refine(g.out _ ?_).mono ?_);exact eA;rintro e Q ⟨rfl,b⟩;obtain⟨⟨j,k⟩,f⟩:=cK1 w b))|((go_at_call 85;(with_reducible refine(zbj _ u).mono ?_);rw [k3];rintro e w2 ⟨rfl,i⟩;obtain⟨⟨r,s⟩,m⟩:=cK1 w i))|((go_at_call 85;(with_reducible refine(zbj _ z).mono ?_);rw [k4];rintro e w3 ⟨rfl,l⟩;obtain⟨⟨D,K⟩,q⟩:=cK1 w l)))
        go_ret;exact⟨rfl,eA⟩
       ·have y:wthn P 1 3=false:=by simp [wthn];omega
        rw [y];clear y;go_enter Tryz.func45,Tryz.ntmps45
        go_wp2_with(first|((go_at_call 98;(with_reducible refine(g.out _ ?_).mono ?_);exact eA;rintro e Q ⟨rfl,b⟩;obtain⟨⟨j,k⟩,f⟩:=cK1 w b))|((go_at_call 85;(with_reducible refine(zbj _ u).mono ?_);rw [k3];rintro e w2 ⟨rfl,i⟩;obtain⟨⟨r,s⟩,m⟩:=cK1 w i))|((go_at_call 85;(with_reducible refine(zbj _ z).mono ?_);rw [k4];rintro e w3 ⟨rfl,l⟩;obtain⟨⟨D,K⟩,q⟩:=cK1 w l)))
        go_ret;exact⟨rfl,eA⟩
      ·have y:wthn P 1 3=false:=by simp [wthn];omega
       rw [y];clear y;go_enter Tryz.func45,Tryz.ntmps45
       go_wp2_with(first|((go_at_call 98;(with_reducible refine(g.out _ ?_).mono ?_);exact eA;rintro e Q ⟨rfl,b⟩;obtain⟨⟨j,k⟩,f⟩:=cK1 w b))|((go_at_call 85;(with_reducible refine(zbj _ u).mono ?_);rw [k3];rintro e w2 ⟨rfl,i⟩;obtain⟨⟨r,s⟩,m⟩:=cK1 w i))|((go_at_call 85;(with_reducible refine(zbj _ z).mono ?_);rw [k4];rintro e w3 ⟨rfl,l⟩;obtain⟨⟨D,K⟩,q⟩:=cK1 w l)))
       go_ret;exact⟨rfl,eA⟩
     ·go_enter Tryz.func45,Tryz.ntmps45
      go_wp2_with(first|((go_at_call 98;(with_reducible refine(g.out _ ?_).mono ?_);exact eA;rintro e Q ⟨rfl,b⟩;obtain⟨⟨j,k⟩,f⟩:=cK1 w b))|((go_at_call 85;(with_reducible refine(zbj _ u).mono ?_);rw [k3];rintro e w2 ⟨rfl,i⟩;obtain⟨⟨r,s⟩,m⟩:=cK1 w i))|((go_at_call 85;(with_reducible refine(zbj _ z).mono ?_);rw [k4];rintro e w3 ⟨rfl,l⟩;obtain⟨⟨D,K⟩,q⟩:=cK1 w l)))
      go_ret;exact⟨rfl,eA⟩
    ·go_enter Tryz.func45,Tryz.ntmps45
     go_wp2_with(first|((go_at_call 98;(with_reducible refine(g.out _ ?_).mono ?_);exact eA;rintro e Q ⟨rfl,b⟩;obtain⟨⟨j,k⟩,f⟩:=cK1 w b))|((go_at_call 85;(with_reducible refine(zbj _ u).mono ?_);rw [k3];rintro e w2 ⟨rfl,i⟩;obtain⟨⟨r,s⟩,m⟩:=cK1 w i)))
     go_ret;exact⟨rfl,eA⟩
   ·have x:wthn t 0 7=false:=by simp [wthn];omega
    rw [x,Bool.false_and];clear x;go_enter Tryz.func45,Tryz.ntmps45
    go_wp2_with(first|((go_at_call 98;(with_reducible refine(g.out _ ?_).mono ?_);exact eA;rintro e Q ⟨rfl,b⟩;obtain⟨⟨j,k⟩,f⟩:=cK1 w b)))
    go_ret;exact⟨rfl,eA⟩
  ·have x:wthn t 0 7=false:=by simp [wthn];omega
   rw [x,Bool.false_and];clear x;go_enter Tryz.func45,Tryz.ntmps45
   go_wp2_with(first|((go_at_call 98;(with_reducible refine(g.out _ ?_).mono ?_);exact eA;rintro e Q ⟨rfl,b⟩;obtain⟨⟨j,k⟩,f⟩:=cK1 w b)))
   go_ret;exact⟨rfl,eA⟩
end
end Go.Proofs.YtodpfeaihohpjaaGreatDoor.Cop
