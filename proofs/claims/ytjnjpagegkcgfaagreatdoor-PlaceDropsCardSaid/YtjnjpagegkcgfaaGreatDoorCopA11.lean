/- Part 12: contracts of what the law calls. -/
import Derived.Test.YtjnjpagegkcgfaaGreatDoorCopA10
set_option maxRecDepth 1000000
set_option maxHeartbeats 16000000
set_option linter.unusedSimpArgs false
set_option linter.unusedVariables false
open Go.Value renaming int→O,agg→Z
open Go.IntKind renaming i64→Y
namespace Go.Proofs.YtjnjpagegkcgfaaGreatDoor.Cop
section
open Go.RowKit Go.Shelf
theorem zhO (w:World) (x z:Int) (a:Bd 1000000 x) (b:Bd 1000000 z) :
  Calls Tryz.prog 327 #[Z #[O Y x,O Y z]] w fun e c=>e = .returned (Z #[O Y x,O Y z])∧Ext w c:=by
 obtain⟨d,f⟩:=a;obtain⟨g,h⟩:=b;have i:IntKind.i64.wrap (-x) = -x:=iW _ ⟨by omega,by omega⟩;have j:IntKind.i64.wrap (-z) = -z:=iW _ ⟨by omega,by omega⟩;go_enter Tryz.func327,Tryz.ntmps327;go_wp2;exact bR (v:=Z #[O Y x,O Y z]) (by simp [results,Tryz.results327,go_sem]) rfl ⟨rfl,eA⟩
theorem zhP (w:World) (x z:Int) (a:Bd 1000000 x) (b:Bd 1000000 z) :
  Calls Tryz.prog 328 #[Z #[O Y x,O Y z]] w fun e c=>e = .returned (Z #[O Y (-z),O Y x])∧Ext w c:=by
 obtain⟨d,f⟩:=a;obtain⟨g,h⟩:=b;have i:IntKind.i64.wrap (-x) = -x:=iW _ ⟨by omega,by omega⟩;have j:IntKind.i64.wrap (-z) = -z:=iW _ ⟨by omega,by omega⟩;go_enter Tryz.func328,Tryz.ntmps328;go_wp2;exact bR (v:=Z #[O Y (-z),O Y x]) (by simp [results,Tryz.results328,go_sem]) rfl ⟨rfl,eA⟩
theorem zhQ (w:World) (x z:Int) (a:Bd 1000000 x) (b:Bd 1000000 z) :
  Calls Tryz.prog 329 #[Z #[O Y x,O Y z]] w fun e c=>e = .returned (Z #[O Y (-x),O Y (-z)])∧Ext w c:=by
 obtain⟨d,f⟩:=a;obtain⟨g,h⟩:=b;have i:IntKind.i64.wrap (-x) = -x:=iW _ ⟨by omega,by omega⟩;have j:IntKind.i64.wrap (-z) = -z:=iW _ ⟨by omega,by omega⟩;go_enter Tryz.func329,Tryz.ntmps329;go_wp2;exact bR (v:=Z #[O Y (-x),O Y (-z)]) (by simp [results,Tryz.results329,go_sem]) rfl ⟨rfl,eA⟩
theorem zhR (w:World) (x z:Int) (a:Bd 1000000 x) (b:Bd 1000000 z) :
  Calls Tryz.prog 330 #[Z #[O Y x,O Y z]] w fun e c=>e = .returned (Z #[O Y z,O Y (-x)])∧Ext w c:=by
 obtain⟨d,f⟩:=a;obtain⟨g,h⟩:=b;have i:IntKind.i64.wrap (-x) = -x:=iW _ ⟨by omega,by omega⟩;have j:IntKind.i64.wrap (-z) = -z:=iW _ ⟨by omega,by omega⟩;go_enter Tryz.func330,Tryz.ntmps330;go_wp2;exact bR (v:=Z #[O Y z,O Y (-x)]) (by simp [results,Tryz.results330,go_sem]) rfl ⟨rfl,eA⟩
def pfarB (n:Int):Bool:=decide (n < -100000) || decide (100000<n)
theorem zbb (w:World) (n:Int):Calls Tryz.prog 92 #[O Y n] w fun e b=>e = .returned (.bool (pfarB n))∧Ext w b:=by
 unfold pfarB
 by_cases h:n < -100000
 ·have a:decide (n < -100000)=true:=by simpa using h
  go_enter Tryz.func92,Tryz.ntmps92;go_wp2;go_ret;exact⟨by simp [a],eA⟩
 ·have a:decide (n < -100000)=false:=by simpa using h
  go_enter Tryz.func92,Tryz.ntmps92;go_wp2;go_ret;exact⟨by simp [a],eA⟩
theorem zfT (w:World) (n:Int):Calls Tryz.prog 92 #[O Y n] w fun e b=>e = .returned (.bool (pfarB n))∧b=w:=by
 unfold pfarB
 by_cases h:n < -100000
 ·have a:decide (n < -100000)=true:=by simpa using h
  go_enter Tryz.func92,Tryz.ntmps92;go_wp2;go_ret;exact⟨by simp [a],rfl⟩
 ·have a:decide (n < -100000)=false:=by simpa using h
  go_enter Tryz.func92,Tryz.ntmps92;go_wp2;go_ret;exact⟨by simp [a],rfl⟩
theorem zjI (w:World) (v:Value) (ps:List (Int×Int)) (x z:Int) (h:IsPts w v ps) :
  Calls Tryz.prog 238 #[v,Z #[O Y x,O Y z]] w fun e w'=>e = .returned (O Y (idxB (fun p=>(x,z)==p) ps))∧Ext w w':=by
 obtain⟨a,c,rfl⟩:=h.form;obtain⟨n,hn⟩:=gX ps.length;rw [hn]at h ⊢;have D:=h.le;unfold maxLen at D;have aa:n≤9223372036854775807:=oM
 obtain⟨F,S⟩:∃F:Int×Int→Bool,F=fun p=>(x,z)==p:=⟨_,rfl⟩
 rw [←S];have Q:=hd9 S;have f:=hd9 hn;clear hn D S;go_enter Tryz.func238,Tryz.ntmps238;go_wp2
 go_loopg [8] n (fun g t8 W=>IxS w F ps g t8 W∧W.cell? ⟨w.heap.size,0,none⟩=some (O Y x)∧W.cell? ⟨w.heap.size,1,none⟩=some (O Y z))
 case atStart=>exact⟨⟨0,by omega,rfl,by rw [f.out];rfl,eA,fun j y u=>by omega⟩,by go_simp,by go_simp⟩
 case round =>
  obtain⟨⟨i,hi,rfl,rfl,hx,l⟩,k0,k1⟩:=hrel;rw [f.out]at hi;have d:=hd9 l;clear l
  by_cases T:i<n
  ·obtain⟨q,hq⟩:∃q,ps[i]?=some q:=⟨ps[i]'(by rw [f.out];omega),by simp [f.out,T]⟩
   obtain⟨K,L⟩:=q;obtain⟨b,o,rfl,hb,d0,d1⟩:=(h.ext' hx).at' hq;have R:=hd9 hq;clear hq;have p1:(0:Int)≤(i:Int):=oM
   have p2:(i:Int)<(n:Int):=oM
   by_cases m:x=K
   ·have f1:(x==K)=true:=by simpa using m
    by_cases s:z=L
    ·have f2:(z==L)=true:=by simpa using s
     have e:idxB F ps=(i:Int):=zcN R.out (by rw [Q.out];simp [m,s]) d.out;have E:=hd9 e;clear e m s;go_wp2
     go_quiet (fail)
     go_wp2;go_ret;exact⟨by rw [E.out];rfl,eA⟩
    ·have f2:(z==L)=false:=by simpa using s
     have t:F (K,L)=false:=by rw [Q.out];simp [s]
     have P:=hd9 t;clear m s t;go_wp2
     go_quiet (fail)
     go_wp2
     go_roundg (n-(i+1))
     case measure=>have:=f.out;omega
     case rel =>
      refine⟨⟨i+1,by have:=f.out;omega,by go_num,by rw [f.out],eA,fun j y u k=>?_⟩,by go_simp,by go_simp⟩
      by_cases r:j=i
      ·subst r;rw [R.out]at k;cases k;exact P.out
      ·exact d.out j y oM k
   ·have f1:(x==K)=false:=by simpa using m
    have t:F (K,L)=false:=by rw [Q.out];simp [m]
    have P:=hd9 t;clear m t;go_wp2
    go_quiet (fail)
    go_wp2
    go_roundg (n-(i+1))
    case measure=>have:=f.out;omega
    case rel =>
     refine⟨⟨i+1,by have:=f.out;omega,by go_num,by rw [f.out],eA,fun j y u k=>?_⟩,by go_simp,by go_simp⟩
     by_cases r:j=i
     ·subst r;rw [R.out]at k;cases k;exact P.out
     ·exact d.out j y oM k
  ·obtain rfl:i=n:=oM
   have e:idxB F ps = -1:=zcM (fun j y u k=>d.out j y (by rw [f.out]at u;exact u) k);have E:=hd9 e;clear e;go_wp2;go_ret;exact⟨by rw [E.out];rfl,hx⟩
end
end Go.Proofs.YtjnjpagegkcgfaaGreatDoor.Cop
