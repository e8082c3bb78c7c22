import Derived.Test.YtjnjpagegkcgfaaGreatDoorCobA06
import Derived.Deep.RegionLaw
import Derived.Lib.AppendZerosOnto
import Derived.Deep.CutBlock
import Derived.Deep.DeepCutAuto
set_option maxRecDepth 1000000
set_option maxHeartbeats 16000000
set_option linter.all false
open Go.IntKind renaming i64->O
open Go.Value renaming int->Y,slice->I,agg->J,pointer->N
open Go renaming World->Z,Value->M
open Option renaming some->X,none->V
namespace Go.Proofs.YtjnjpagegkcgfaaGreatDoor.Cop
section
open Go.RowKit Go.Shelf
def Gw(w:Z):Prop:=0<w.heap.size/\w.cell? ⟨0,0,V⟩=X (.func (.func 327) #[] #[])/\w.cell? ⟨0,1,V⟩=X (.func (.func 328) #[] #[])/\w.cell? ⟨0,2,V⟩=X (.func (.func 329) #[] #[])/\w.cell? ⟨0,3,V⟩=X (.func (.func 330) #[] #[])
def Gw.ext{w w':Z}(h:Gw w)(k:Ba w w'):Gw w':=by obtain⟨a,b,c,d,e⟩:=h;exact⟨k.lt a,k.d b,k.d c,k.d d,k.d e⟩
def Wc(way:Int)(p:Int×Int):Int×Int:=
 let q:=if 3<way then (-p.1,p.2)else p
 if way%4=0 then q else if way%4=1 then (-q.2,q.1)else if way%4=2 then (-q.1,-q.2)else (q.2,-q.1)
def vN(w:Z)(x z:Int)(c:Nat)(p:w.cell? ⟨c,0,V⟩=X (Y O 0))(o:Gw w)(f:Bd 1000000 x)(g:Bd 1000000 z):Calls Tryz.prog 197 #[J #[Y O x,Y O z],N (X ⟨c,0,V⟩)] w fun e q=>e=.returned (J #[Y O x,Y O z])/\Ba w q:=by
 obtain⟨u,j,k,l,m⟩:=o;have HX:=Aa f;have i:=Aa g;have P:c<w.heap.size:=World.block_lt_of_cell? w _ p;have t:c<w.heap.size+1:=oM;have s:0<w.heap.size+1:=oM;have y:w.cell? ⟨0,0,V⟩=X (.func (.func 327) #[] #[]):=by assumption
 clear f g j k l m;go_in;go_wp2
 first|(go_region_with (((go_at_call 327;(with_reducible refine(TA _ x z HX.o i.o).mono ?_);rintro e K ⟨rfl,b⟩;obtain⟨a,d⟩:=b.cells;(try simp only[Mg,Lg,Cc]at a d);have r:=b.lt (n:=w.heap.size+1) (by go_simp)))))|fail
 all_goals go_wp2
 all_goals exact bR (v:=J #[Y O x,Y O z]) (by simp[results,Tryz.results197,go_sem,a,r]) rfl ⟨rfl,eA⟩
def uN(w:Z)(x z:Int)(c:Nat)(p:w.cell? ⟨c,0,V⟩=X (Y O 1))(o:Gw w)(f:Bd 1000000 x)(g:Bd 1000000 z):Calls Tryz.prog 197 #[J #[Y O x,Y O z],N (X ⟨c,0,V⟩)] w fun e q=>e=.returned (J #[Y O (-z),Y O x])/\Ba w q:=by
 obtain⟨u,j,k,l,m⟩:=o;have HX:=Aa f;have i:=Aa g;have P:c<w.heap.size:=World.block_lt_of_cell? w _ p;have t:c<w.heap.size+1:=oM;have s:0<w.heap.size+1:=oM;have y:w.cell? ⟨0,1,V⟩=X (.func (.func 328) #[] #[]):=by assumption
 clear f g j k l m;go_in;go_wp2
 first|(go_region_with (((go_at_call 328;(with_reducible refine(SA _ x z HX.o i.o).mono ?_);rintro e K ⟨rfl,b⟩;obtain⟨a,d⟩:=b.cells;(try simp only[Mg,Lg,Cc]at a d);have r:=b.lt (n:=w.heap.size+1) (by go_simp)))))|fail
 all_goals go_wp2
 all_goals exact bR (v:=J #[Y O (-z),Y O x]) (by simp[results,Tryz.results197,go_sem,a,r]) rfl ⟨rfl,eA⟩
def tN(w:Z)(x z:Int)(c:Nat)(p:w.cell? ⟨c,0,V⟩=X (Y O 2))(o:Gw w)(f:Bd 1000000 x)(g:Bd 1000000 z):Calls Tryz.prog 197 #[J #[Y O x,Y O z],N (X ⟨c,0,V⟩)] w fun e q=>e=.returned (J #[Y O (-x),Y O (-z)])/\Ba w q:=by
 obtain⟨u,j,k,l,m⟩:=o;have HX:=Aa f;have i:=Aa g;have P:c<w.heap.size:=World.block_lt_of_cell? w _ p;have t:c<w.heap.size+1:=oM;have s:0<w.heap.size+1:=oM;have y:w.cell? ⟨0,2,V⟩=X (.func (.func 329) #[] #[]):=by assumption
 clear f g j k l m;go_in;go_wp2
 first|(go_region_with (((go_at_call 329;(with_reducible refine(yB _ x z HX.o i.o).mono ?_);rintro e K ⟨rfl,b⟩;obtain⟨a,d⟩:=b.cells;(try simp only[Mg,Lg,Cc]at a d);have r:=b.lt (n:=w.heap.size+1) (by go_simp)))))|fail
 all_goals go_wp2
 all_goals exact bR (v:=J #[Y O (-x),Y O (-z)]) (by simp[results,Tryz.results197,go_sem,a,r]) rfl ⟨rfl,eA⟩
def rN(w:Z)(x z:Int)(c:Nat)(p:w.cell? ⟨c,0,V⟩=X (Y O 3))(o:Gw w)(f:Bd 1000000 x)(g:Bd 1000000 z):Calls Tryz.prog 197 #[J #[Y O x,Y O z],N (X ⟨c,0,V⟩)] w fun e q=>e=.returned (J #[Y O z,Y O (-x)])/\Ba w q:=by
 obtain⟨u,j,k,l,m⟩:=o;have HX:=Aa f;have i:=Aa g;have P:c<w.heap.size:=World.block_lt_of_cell? w _ p;have t:c<w.heap.size+1:=oM;have s:0<w.heap.size+1:=oM;have y:w.cell? ⟨0,3,V⟩=X (.func (.func 330) #[] #[]):=by assumption
 clear f g j k l m;go_in;go_wp2
 first|(go_region_with (((go_at_call 330;(with_reducible refine(xB _ x z HX.o i.o).mono ?_);rintro e K ⟨rfl,b⟩;obtain⟨a,d⟩:=b.cells;(try simp only[Mg,Lg,Cc]at a d);have r:=b.lt (n:=w.heap.size+1) (by go_simp)))))|fail
 all_goals go_wp2
 all_goals exact bR (v:=J #[Y O z,Y O (-x)]) (by simp[results,Tryz.results197,go_sem,a,r]) rfl ⟨rfl,eA⟩
def qN(w:Z)(x z:Int)(d:Nat)(q:w.cell? ⟨d,0,V⟩=X (Y O 4))(p:Gw w)(g:Bd 1000000 x)(i:Bd 1000000 z):Calls Tryz.prog 197 #[J #[Y O x,Y O z],N (X ⟨d,0,V⟩)] w fun e r=>e=.returned (J #[Y O (-x),Y O z])/\Ba w r:=by
 obtain⟨y,k,l,m,o⟩:=p;have b:Bd 1000000 (-x):=by unfold Bd at *;omega
 have HX:=Aa b;have j:=Aa i;have R:d<w.heap.size:=World.block_lt_of_cell? w _ q;have u:d<w.heap.size+1:=oM;have t:0<w.heap.size+1:=oM;have K:w.cell? ⟨0,0,V⟩=X (.func (.func 327) #[] #[]):=by assumption
 have Q:IntKind.i64.wrap (-x) = -x:=by unfold Bd at g;exact iW _ ⟨by omega,by omega⟩
 clear g i k l m o b;go_in;go_wp2
 first|(go_region_with (((go_at_call 327;(with_reducible refine(TA _ (-x) z HX.o j.o).mono ?_);rintro e P ⟨rfl,c⟩;obtain⟨a,f⟩:=c.cells;(try simp only[Mg,Lg,Cc]at a f);have s:=c.lt (n:=w.heap.size+1) (by go_simp)))))|fail
 all_goals go_wp2
 all_goals exact bR (v:=J #[Y O (-x),Y O z]) (by simp[results,Tryz.results197,go_sem,a,s]) rfl ⟨rfl,eA⟩
def pN(w:Z)(x z:Int)(d:Nat)(q:w.cell? ⟨d,0,V⟩=X (Y O 5))(p:Gw w)(g:Bd 1000000 x)(i:Bd 1000000 z):Calls Tryz.prog 197 #[J #[Y O x,Y O z],N (X ⟨d,0,V⟩)] w fun e r=>e=.returned (J #[Y O (-z),Y O (-x)])/\Ba w r:=by
 obtain⟨y,k,l,m,o⟩:=p;have b:Bd 1000000 (-x):=by unfold Bd at *;omega
 have HX:=Aa b;have j:=Aa i;have R:d<w.heap.size:=World.block_lt_of_cell? w _ q;have u:d<w.heap.size+1:=oM;have t:0<w.heap.size+1:=oM;have K:w.cell? ⟨0,1,V⟩=X (.func (.func 328) #[] #[]):=by assumption
 have Q:IntKind.i64.wrap (-x) = -x:=by unfold Bd at g;exact iW _ ⟨by omega,by omega⟩
 clear g i k l m o b;go_in;go_wp2
 first|(go_region_with (((go_at_call 328;(with_reducible refine(SA _ (-x) z HX.o j.o).mono ?_);rintro e P ⟨rfl,c⟩;obtain⟨a,f⟩:=c.cells;(try simp only[Mg,Lg,Cc]at a f);have s:=c.lt (n:=w.heap.size+1) (by go_simp)))))|fail
 all_goals go_wp2
 all_goals exact bR (v:=J #[Y O (-z),Y O (-x)]) (by simp[results,Tryz.results197,go_sem,a,s]) rfl ⟨rfl,eA⟩
def nN(w:Z)(x z:Int)(d:Nat)(q:w.cell? ⟨d,0,V⟩=X (Y O 6))(p:Gw w)(g:Bd 1000000 x)(i:Bd 1000000 z):Calls Tryz.prog 197 #[J #[Y O x,Y O z],N (X ⟨d,0,V⟩)] w fun e r=>e=.returned (J #[Y O (- -x),Y O (-z)])/\Ba w r:=by
 obtain⟨y,k,l,m,o⟩:=p;have b:Bd 1000000 (-x):=by unfold Bd at *;omega
 have HX:=Aa b;have j:=Aa i;have R:d<w.heap.size:=World.block_lt_of_cell? w _ q;have u:d<w.heap.size+1:=oM;have t:0<w.heap.size+1:=oM;have K:w.cell? ⟨0,2,V⟩=X (.func (.func 329) #[] #[]):=by assumption
 have Q:IntKind.i64.wrap (-x) = -x:=by unfold Bd at g;exact iW _ ⟨by omega,by omega⟩
 clear g i k l m o b;go_in;go_wp2
 first|(go_region_with (((go_at_call 329;(with_reducible refine(yB _ (-x) z HX.o j.o).mono ?_);rintro e P ⟨rfl,c⟩;obtain⟨a,f⟩:=c.cells;(try simp only[Mg,Lg,Cc]at a f);have s:=c.lt (n:=w.heap.size+1) (by go_simp)))))|fail
 all_goals go_wp2
 all_goals exact bR (v:=J #[Y O (- -x),Y O (-z)]) (by simp[results,Tryz.results197,go_sem,a,s]) rfl ⟨rfl,eA⟩
def mN(w:Z)(x z:Int)(d:Nat)(q:w.cell? ⟨d,0,V⟩=X (Y O 7))(p:Gw w)(g:Bd 1000000 x)(i:Bd 1000000 z):Calls Tryz.prog 197 #[J #[Y O x,Y O z],N (X ⟨d,0,V⟩)] w fun e r=>e=.returned (J #[Y O z,Y O (- -x)])/\Ba w r:=by
 obtain⟨y,k,l,m,o⟩:=p;have b:Bd 1000000 (-x):=by unfold Bd at *;omega
 have HX:=Aa b;have j:=Aa i;have R:d<w.heap.size:=World.block_lt_of_cell? w _ q;have u:d<w.heap.size+1:=oM;have t:0<w.heap.size+1:=oM;have K:w.cell? ⟨0,3,V⟩=X (.func (.func 330) #[] #[]):=by assumption
 have Q:IntKind.i64.wrap (-x) = -x:=by unfold Bd at g;exact iW _ ⟨by omega,by omega⟩
 clear g i k l m o b;go_in;go_wp2
 first|(go_region_with (((go_at_call 330;(with_reducible refine(xB _ (-x) z HX.o j.o).mono ?_);rintro e P ⟨rfl,c⟩;obtain⟨a,f⟩:=c.cells;(try simp only[Mg,Lg,Cc]at a f);have s:=c.lt (n:=w.heap.size+1) (by go_simp)))))|fail
 all_goals go_wp2
 all_goals exact bR (v:=J #[Y O z,Y O (- -x)]) (by simp[results,Tryz.results197,go_sem,a,s]) rfl ⟨rfl,eA⟩
def Iw(w:Z)(x z way:Int)(a:Nat)(c:w.cell? ⟨a,0,V⟩=X (Y O way))(i:0<=way)(j:way<=7)(b:Gw w)(d:Bd 1000000 x)(f:Bd 1000000 z):Calls Tryz.prog 197 #[J #[Y O x,Y O z],N (X ⟨a,0,V⟩)] w fun e g=>e=.returned (J #[Y O (Wc way (x,z)).1,Y O (Wc way (x,z)).2])/\Ba w g:=by
 have:way=0\/way=1\/way=2\/way=3\/way=4\/way=5\/way=6\/way=7:=oM;rcases this with rfl|rfl|rfl|rfl|rfl|rfl|rfl|rfl
 ·exact vN w x z a c b d f
 ·exact uN w x z a c b d f
 ·exact tN w x z a c b d f
 ·exact rN w x z a c b d f
 ·exact qN w x z a c b d f
 ·exact pN w x z a c b d f
 ·exact nN w x z a c b d f
 ·exact mN w x z a c b d f
def Ra(ps:LP):Int:=(ps.getD 0 (0,0)).1
def Ya(ps:LP):Int:=(ps.getD (ps.length-1) (0,0)).1
def Po(w:Z)(v:M)(ps:LP)(h:Ja w v ps)(j:0<ps.length):Calls Tryz.prog 86 #[v] w fun e i=>e=.returned (Y O (Ra ps))/\Ba w i:=by
 obtain⟨a,c,rfl⟩:=h.form;obtain⟨⟨x,z⟩,d⟩:∃p,ps[0]?=X p:=⟨ps[0],by simp⟩;obtain⟨b,o,rfl,k,f,g⟩:=h.at' d;simp only[Nat.zero_mul,Nat.add_zero]at f g;have e:Ra ps=x:=by unfold Ra;rw[gD,d];rfl
 rw[e];clear e d h;generalize ps.length=n at *
 go_in;go_wp2;go_ret;exact⟨rfl,eR _⟩
def Yp(w:Z)(v:M)(ps:LP)(h:Ja w v ps)(i:0<ps.length):Calls Tryz.prog 87 #[v] w fun e j=>e=.returned (Y O (Ya ps))/\Ba w j:=by
 obtain⟨a,c,rfl⟩:=h.form;obtain⟨n,f⟩:∃n,ps.length=n+1:=⟨ps.length-1,by omega⟩;rw[f]at h ⊢;have d:=h.le;rw[f]at d;unfold maxLen at d;obtain⟨⟨x,z⟩,g⟩:∃p,ps[n]?=X p:=⟨ps[n],by simp⟩;obtain⟨b,o,rfl,m,k,l⟩:=h.at' g;have e:Ya ps=x:=by unfold Ya;rw[f,Nat.add_sub_cancel,gD,g];rfl
 rw[e];have q:((n+1:Nat):Int)-1=(n:Int):=oM;have r:(n:Int)<((n+1:Nat):Int):=oM;have s:n<=9223372036854775806:=oM;clear e g h f d i;go_in;go_wp2;go_ret;exact⟨rfl,eR _⟩
def UQ(w:Z)(G:Nat)(g:Nat)(t0 c:M)(W:Z):Prop:=∃a b:Nat,t0=Y O a/\c=Y O b/\a<=9223372036854775807/\b<=9223372036854775807/\Nat.gcd a b=G/\g=b/\Ba w W
def iP(w:Z)(a b:Nat)(k:a<=9223372036854775807)(l:b<=9223372036854775807):Calls Tryz.prog 149 #[Y O a,Y O b] w fun e p=>e=.returned (Y O (Nat.gcd a b:Nat))/\Ba w p:=by
 obtain⟨G,d⟩:=gX (Nat.gcd a b);rw[d];have f:=Aa d;clear d;go_in;go_wp2;go_loopg [0,1] b (UQ w G)
 case atStart=>exact⟨a,b,rfl,rfl,k,l,f.o,rfl,eR _⟩
 case round =>
  clear k l f;obtain⟨x,y,rfl,rfl,t,o,m,rfl,c⟩:=hrel;have g:=Aa m;clear m;by_cases i:gk=0
  ·subst i;go_wp2;go_ret;exact⟨Ij (Nj (by rw[<-g.o];simp)),c⟩
  ·have q:((gk:Int)==0)=false:=by simp;omega
   have r:((gk:Int) != 0)=true:=by simp;omega
   have s:(1:Int)<=(gk:Int):=oM;have j:0<gk:=oM;clear i;go_wp2;go_quiet (fail);go_wp2;go_roundg (x%gk)
   case measure=>exact Nat.mod_lt x j
   case rel =>
    have n:=Nat.mod_lt x j;exact⟨gk,x%gk,rfl,Nj sM,o,by omega,by rw[<-g.o,Nat.gcd_comm x gk,Nat.gcd_rec gk x,Nat.gcd_comm],rfl,c.drewN _⟩
structure Pl where
 name:ByteArray
 shape:LP
 depth:Int
 density:Int
 gx:Int
 gz:Int
 way:Int
 ax:Int
 az:Int
 skin:Int
def Dd(p:Pl)(sl:M):Array M:=#[.string p.name,sl,Y O p.depth,Y O p.density,Y O p.gx,Y O p.gz,Y O p.way,Y O p.ax,Y O p.az,Y .u8 p.skin]
def sd(p q:Pl):Bool:=p.skin==q.skin || p.skin==3 || q.skin==3
def Tp(w:Z)(p q:Pl)(s t:M)(v:∃a n c,s=I a n c)(x:∃a n c,t=I a n c):Calls Tryz.prog 54 #[J (Dd p s),J (Dd q t)] w fun e K=>e=.returned (.bool (sd p q))/\Ba w K:=by
 obtain⟨a,n,c,rfl⟩:=v;obtain⟨Q,n',T,rfl⟩:=x;obtain⟨nm,sh,d,de,gx,gz,wy,R,S,f⟩:=p;obtain⟨y,z,W,o,r,u,P,l,m,b⟩:=q;unfold sd Dd;dsimp only;by_cases g:f=b
 ·have j:(f==b)=true:=by simpa using g
  rw[j];clear g;go_in;go_wp2;go_ret;exact⟨rfl,eA⟩
 have j:(f==b)=false:=by simpa using g
 rw[j];clear g;by_cases i:f=3
 ·have k:(f==3)=true:=by simpa using i
  rw[k];clear i;go_in;go_wp2;go_ret;exact⟨rfl,eA⟩
 have k:(f==3)=false:=by simpa using i
 rw[k];clear i;go_in;go_wp2;go_ret;exact⟨rfl,eA⟩
def Yk(T:TypeId)(k:Nat)(w:Z)(cs:List (List M))(e:Ending)(w':Z):Prop:=∃v,e=.returned v/\Ka T k w' w.heap.size v cs/\Ba w w'
def FM(w:Z)(n:Nat)(p:n<=1000000000):Calls Tryz.prog 270 #[I V 0 0,Y O n] w (Yk 43 2 w []):=by
 by_cases j:n=0
 ·subst j;go_in;go_wp2;go_ret;exact⟨_,rfl,Ka.nil _ _ _ _,eR _⟩
 ·have m:(1:Int)<=(n:Int):=oM;obtain⟨i,g,d,e,c⟩:=info_parts Wm;have a:(Builtin.firstCells i.size 0 (I V 0 0)).run Tryz.prog w.drew = .ok ([]:List M).toArray w.drew:=run_firstCells_none w.drew i.size 0 0 0;have l:∀ty,(Builtin.append_ #[38,3] ty #[I V 0 0,Y O (n:Int)]).run Tryz.prog w = .ok (I (X ⟨w.heap.size,0,V⟩) n (grownCap w n 0 43)) (w.drew.alloc (.cells (([]:List M).toArray++Builtin.zeroCells (Value.cells (J #[Y O 0,Y O 0])) n++Builtin.zeroCells (Value.cells (J #[Y O 0,Y O 0])) (grownCap w n 0 43-n)) 43)):=fun ty=>by
   have h:=Lib.run_append_grow_zeros w 38 3 ty 43 i (J #[Y O 0,Y O 0]) O O Tryz.underlying38 Tryz.underlying3 g d V 0 0 [] a n oM (by rw[e];omega) oM oM (by rw[c];omega)
    (growslice_fits oM (by rw[c];omega))
   simpa using h
  have o:=grownCap_ge w n 0 43;have b:=grownCap_le_maxLen w n 0 43 (by unfold maxLen;omega);generalize grownCap w n 0 43=G at *
  have k:G<=9223372036854775807:=by unfold maxLen at b;omega
  have f:=Aa b;clear a g d e c b;go_in;go_wp2_with(at_builtin;refine Lib.wpList_append_run _ rfl _ _ _ _ rfl _ _ rfl rfl _ _ (l _) ?_);go_ret;refine⟨_,rfl,⟨by simp,rfl,.inr ⟨w.heap.size,G,_,rfl,nE _,aN w.drew _,by simp,f.o,?_,by simp⟩⟩,eA⟩;simp[Builtin.zeroCells,Value.cells];omega
def GM(w:Z)(n:Nat)(p:n<=1000000000):Calls Tryz.prog 171 #[I V 0 0,Y O n] w (Yk 43 2 w []):=by
 by_cases j:n=0
 ·subst j;go_in;go_wp2;go_ret;exact⟨_,rfl,Ka.nil _ _ _ _,eR _⟩
 ·have m:(1:Int)<=(n:Int):=oM;obtain⟨i,g,d,e,c⟩:=info_parts Wm;have a:(Builtin.firstCells i.size 0 (I V 0 0)).run Tryz.prog w.drew = .ok ([]:List M).toArray w.drew:=run_firstCells_none w.drew i.size 0 0 0;have l:∀ty,(Builtin.append_ #[121,3] ty #[I V 0 0,Y O (n:Int)]).run Tryz.prog w = .ok (I (X ⟨w.heap.size,0,V⟩) n (grownCap w n 0 43)) (w.drew.alloc (.cells (([]:List M).toArray++Builtin.zeroCells (Value.cells (J #[Y O 0,Y O 0])) n++Builtin.zeroCells (Value.cells (J #[Y O 0,Y O 0])) (grownCap w n 0 43-n)) 43)):=fun ty=>by
   have h:=Lib.run_append_grow_zeros w 121 3 ty 43 i (J #[Y O 0,Y O 0]) O O Tryz.underlying121 Tryz.underlying3 g d V 0 0 [] a n oM (by rw[e];omega) oM oM (by rw[c];omega)
    (growslice_fits oM (by rw[c];omega))
   simpa using h
  have o:=grownCap_ge w n 0 43;have b:=grownCap_le_maxLen w n 0 43 (by unfold maxLen;omega);generalize grownCap w n 0 43=G at *
  have k:G<=9223372036854775807:=by unfold maxLen at b;omega
  have f:=Aa b;clear a g d e c b;go_in;go_wp2_with(at_builtin;refine Lib.wpList_append_run _ rfl _ _ _ _ rfl _ _ rfl rfl _ _ (l _) ?_);go_ret;refine⟨_,rfl,⟨by simp,rfl,.inr ⟨w.heap.size,G,_,rfl,nE _,aN w.drew _,by simp,f.o,?_,by simp⟩⟩,eA⟩;simp[Builtin.zeroCells,Value.cells];omega
def Ej(T:TypeId)(w:Z)(c:List M)(ps:LP):Prop:=∃v,c=[v]/\Ja w v ps
def Sj(a:List LP):Nat:=a.flatten.length
def Au{a:List LP}{i:Nat}{ps:LP}(h:a[i]?=X ps):Sj (a.take (i+1))=Sj (a.take i)+ps.length:=by unfold Sj;rw[Rf _ _ _ h,List.flatten_append,lA];simp
def Wn(a:List LP)(i:Nat):Sj (a.take i)<=Sj a:=by
 unfold Sj
 conv=>rhs;rw[<-List.take_append_drop i a,List.flatten_append,lA]
 omega
def vF(w:Z)(a:List LP)(g:Nat)(t3 b:M)(W:Z):Prop:=
 ∃i:Nat,i<=a.length/\b=Y O i/\t3=Y O (Sj (a.take i))/\g=a.length-i/\Ba w W
def uF(w:Z)(base:Nat)(a:List LP)(g:Nat)(c b:M)(W:Z):Prop:=
 ∃i:Nat,i<=a.length/\b=Y O i/\Ka 43 2 W base c ((a.take i).flatten.map pc)/\g=a.length-i/\Ba w W/\base<=W.heap.size
def Dz{T:TypeId}{w:Z}{v:M}{ps:LP}(h:Sl T 2 PP w v ps):Rd w T 2 v (ps.map pc).length (ps.map pc).flatten:=by
 obtain⟨a,g,j,d,f⟩:=h;have e:a=ps.map pc:=by
  apply List.ext_getElem?;intro i;rw[lP];by_cases k:i<ps.length
  ·have b:a[i]?=X (a[i]' oM):=gE _;have c:ps[i]?=X (ps[i]):=gE _;have:=f i _ _ b c;rw[b,c];exact congrArg X this
  ·rw[List.getElem?_eq_none oM,List.getElem?_eq_none oM];rfl
 subst e;rw[lL];exact d
def TN(w:Z)(v:M)(f:List LP)(h:Sl 38 1 (Ej 38) w v f)(ht:Sj f<=1000000000):Calls Tryz.prog 239 #[v] w (Yk 43 2 w (f.flatten.map pc)):=by
 obtain⟨a,c,rfl⟩:=h.form;obtain⟨n,hn⟩:=gX f.length;rw[hn]at h ⊢;have ad:=h.le;unfold maxLen at ad;have ar:n<=9223372036854775807:=oM;have r:=Aa hn;have Ht:=Aa ht;clear hn ad ht;have hP:∀{W:Z},Ba w W->Sl 38 1 (Ej 38) W (I a n c) f:=fun T=>h.ext (fun _ _ ⟨v,h1,h2⟩=>⟨v,h1,h2.f T⟩) T;go_in;go_wp2;go_loopg [3,11] n (vF w f)
 case atStart=>exact⟨0,by omega,rfl,rfl,by rw[r.o];rfl,eR _⟩
 case round =>
  obtain⟨i,hi,rfl,rfl,rfl,T⟩:=hrel;rw[r.o]at hi;obtain⟨q,hq⟩:=gX (Sj (f.take i));have au:q<=1000000000:=by rw[<-hq];exact nT (Wn f i) Ht.o
  rw[hq];by_cases ak:i<n
  ·obtain⟨ps,l⟩:∃q,f[i]?=X q:=⟨f[i]'(by rw[r.o];omega),by simp[r.o,ak]⟩;obtain⟨b,o,d,rfl,hb,P,⟨v,rfl,hv⟩,hc⟩:=(hP T).at l;have u:=hc 0 v rfl;simp only[Nat.mul_one,Nat.add_zero]at u;clear hc P;obtain⟨a',c',rfl⟩:=hv.form;have p:=Au l;rw[hq]at p;obtain⟨m,hm⟩:=gX ps.length;rw[hm]at p u;have aq:q+m<=1000000000:=by rw[<-p];exact nT (Wn f (i+1)) Ht.o
   have ah:=Aa p;have am:=hv;have Hm:=Aa hm;clear p l hq hv hm am;go_wp2;go_roundg (n-(i+1))
   case measure=>have:=r.o;omega
   case rel=>exact⟨i+1,by have:=r.o;omega,by go_num,by rw[ah.o];go_num,by rw[r.o],eA⟩
  ·obtain rfl:i=n:=oM;clear hq;go_wp2_with(((go_at_call 270;(with_reducible refine(FM _ q oM).mono ?_);rintro e w1 ⟨v1,rfl,R,x⟩;obtain⟨a1,c1,rfl⟩:=R.form;obtain⟨ai,aj⟩:=x.cells)));have z:=T.trans x;obtain⟨W0,rfl⟩:∃W0,W0=wr:=⟨_,rfl⟩;go_loopg [6,27] i (uF w W0.heap.size f)
   case atStart=>exact⟨0,by omega,rfl,by simpa using R,by rw[r.o];rfl,z,x.size⟩
   case round =>
    clear x z R ai aj;obtain⟨j,hj,rfl,g,rfl,S,K⟩:=hrel;rw[r.o]at hj;obtain⟨a2,c2,rfl⟩:=g.form;obtain⟨L2,s⟩:=gX (((f.take j).flatten.map pc).length);(have ap:L2<=1000000000:=by rw[<-s,lL];exact nT (Wn f j) Ht.o);rw[s]at g ⊢;have af:=T.size;by_cases ae:j<i
    ·obtain⟨ps,l⟩:∃q,f[j]?=X q:=⟨f[j]'(by rw[r.o];omega),by simp[r.o,ae]⟩;obtain⟨b,o,d,rfl,hb,P,⟨v,rfl,hv⟩,hc⟩:=(hP S).at l;have u:=hc 0 v rfl;simp only[Nat.mul_one,Nat.add_zero]at u;clear hc P;obtain⟨a',c',rfl⟩:=hv.form;have p:=Au l;have y:((f.take j).flatten.map pc).length+(ps.map pc).length<=100000000000:=by
      have:=Wn f (j+1);have h9:=Ht.o;rw[p]at this;unfold Sj at this h9;rw[lL,lL];omega
     have ac:(f.take (j+1)).flatten.map pc=(f.take j).flatten.map pc++ps.map pc:=by
      rw[Rf _ _ _ l,List.flatten_append,List.map_append];simp
     have al:=Dz hv;have ag:=Aa ac;have ao:=Aa s;have aa:=Aa y;clear p l ac s y;go_wp2_with(at_builtin;refine ns (v:=I a2 L2 c2) Wm rfl dM dM Tryz.underlying38 rfl _ _ rfl rfl g rfl (ps.map pc) Bq al Aq aa.o K ?_;intro v' w1 t Q an;obtain⟨a3,n3,c3,rfl⟩:=t.i);go_roundg (i-(j+1))
     case measure=>have:=r.o;omega
     case rel =>
      have ab:=Mh Q K (fun k hk=>(g.lt k hk).1);exact⟨j+1,by rw[r.o];omega,by go_num,by rw[ag.o];exact t,by rw[r.o],S.y ab af,nT K ab.size⟩
    ·obtain rfl:j=i:=oM;(have e:(f.take j).flatten.map pc=f.flatten.map pc:=by rw[lT (by rw[r.o];omega)]);have E:=Aa e;clear e s;go_wp2;go_ret;exact⟨_,rfl,by rw[<-E.o];exact g.mono af,S⟩
def UN(w:Z)(v:M)(f:List LP)(h:Sl 121 1 (Ej 121) w v f)(ht:Sj f<=1000000000):Calls Tryz.prog 104 #[v] w (Yk 43 2 w (f.flatten.map pc)):=by
 obtain⟨a,c,rfl⟩:=h.form;obtain⟨n,hn⟩:=gX f.length;rw[hn]at h ⊢;have ad:=h.le;unfold maxLen at ad;have ar:n<=9223372036854775807:=oM;have r:=Aa hn;have Ht:=Aa ht;clear hn ad ht;have hP:∀{W:Z},Ba w W->Sl 121 1 (Ej 121) W (I a n c) f:=fun T=>h.ext (fun _ _ ⟨v,h1,h2⟩=>⟨v,h1,h2.f T⟩) T;go_in;go_wp2;go_loopg [3,11] n (vF w f)
 case atStart=>exact⟨0,by omega,rfl,rfl,by rw[r.o];rfl,eR _⟩
 case round =>
  obtain⟨i,hi,rfl,rfl,rfl,T⟩:=hrel;rw[r.o]at hi;obtain⟨q,hq⟩:=gX (Sj (f.take i));have au:q<=1000000000:=by rw[<-hq];exact nT (Wn f i) Ht.o
  rw[hq];by_cases ak:i<n
  ·obtain⟨ps,l⟩:∃q,f[i]?=X q:=⟨f[i]'(by rw[r.o];omega),by simp[r.o,ak]⟩;obtain⟨b,o,d,rfl,hb,P,⟨v,rfl,hv⟩,hc⟩:=(hP T).at l;have u:=hc 0 v rfl;simp only[Nat.mul_one,Nat.add_zero]at u;clear hc P;obtain⟨a',c',rfl⟩:=hv.form;have p:=Au l;rw[hq]at p;obtain⟨m,hm⟩:=gX ps.length;rw[hm]at p u;have aq:q+m<=1000000000:=by rw[<-p];exact nT (Wn f (i+1)) Ht.o
   have ah:=Aa p;have am:=hv;have Hm:=Aa hm;clear p l hq hv hm am;go_wp2;go_roundg (n-(i+1))
   case measure=>have:=r.o;omega
   case rel=>exact⟨i+1,by have:=r.o;omega,by go_num,by rw[ah.o];go_num,by rw[r.o],eA⟩
  ·obtain rfl:i=n:=oM;clear hq;go_wp2_with(((go_at_call 171;(with_reducible refine(GM _ q oM).mono ?_);rintro e w1 ⟨v1,rfl,R,x⟩;obtain⟨a1,c1,rfl⟩:=R.form;obtain⟨ai,aj⟩:=x.cells)));have z:=T.trans x;obtain⟨W0,rfl⟩:∃W0,W0=wr:=⟨_,rfl⟩;go_loopg [6,27] i (uF w W0.heap.size f)
   case atStart=>exact⟨0,by omega,rfl,by simpa using R,by rw[r.o];rfl,z,x.size⟩
   case round =>
    clear x z R ai aj;obtain⟨j,hj,rfl,g,rfl,S,K⟩:=hrel;rw[r.o]at hj;obtain⟨a2,c2,rfl⟩:=g.form;obtain⟨L2,s⟩:=gX (((f.take j).flatten.map pc).length);(have ap:L2<=1000000000:=by rw[<-s,lL];exact nT (Wn f j) Ht.o);rw[s]at g ⊢;have af:=T.size;by_cases ae:j<i
    ·obtain⟨ps,l⟩:∃q,f[j]?=X q:=⟨f[j]'(by rw[r.o];omega),by simp[r.o,ae]⟩;obtain⟨b,o,d,rfl,hb,P,⟨v,rfl,hv⟩,hc⟩:=(hP S).at l;have u:=hc 0 v rfl;simp only[Nat.mul_one,Nat.add_zero]at u;clear hc P;obtain⟨a',c',rfl⟩:=hv.form;have p:=Au l;have y:((f.take j).flatten.map pc).length+(ps.map pc).length<=100000000000:=by
      have:=Wn f (j+1);have h9:=Ht.o;rw[p]at this;unfold Sj at this h9;rw[lL,lL];omega
     have ac:(f.take (j+1)).flatten.map pc=(f.take j).flatten.map pc++ps.map pc:=by
      rw[Rf _ _ _ l,List.flatten_append,List.map_append];simp
     have al:=Dz hv;have ag:=Aa ac;have ao:=Aa s;have aa:=Aa y;clear p l ac s y;go_wp2_with(at_builtin;refine ns (v:=I a2 L2 c2) Wm rfl dM dM Tryz.underlying121 rfl _ _ rfl rfl g rfl (ps.map pc) Bq al Aq aa.o K ?_;intro v' w1 t Q an;obtain⟨a3,n3,c3,rfl⟩:=t.i);go_roundg (i-(j+1))
     case measure=>have:=r.o;omega
     case rel =>
      have ab:=Mh Q K (fun k hk=>(g.lt k hk).1);exact⟨j+1,by rw[r.o];omega,by go_num,by rw[ag.o];exact t,by rw[r.o],S.y ab af,nT K ab.size⟩
    ·obtain rfl:j=i:=oM;(have e:(f.take j).flatten.map pc=f.flatten.map pc:=by rw[lT (by rw[r.o];omega)]);have E:=Aa e;clear e s;go_wp2;go_ret;exact⟨_,rfl,by rw[<-E.o];exact g.mono af,S⟩
def Mf(r:Int):Bool:=!(decide (97<=r)&&decide (r<=122))&&!(decide (48<=r)&&decide (r<=57))
def yI(w:Z)(r:Int):Calls Tryz.prog 203 #[Y .i32 r] w fun e j=>e=.returned (.bool (Mf r))/\j=w:=by
 unfold Mf;by_cases d:97<=r
 ·have a:decide (97<=r)=true:=by simpa using d
  by_cases f:r<=122
  ·have c:decide (r<=122)=true:=by simpa using f
   go_in;go_wp2;go_ret;exact⟨by simp[a,c],rfl⟩
  ·have c:decide (r<=122)=false:=by simpa using f
   have b:decide (48<=r)=true:=by simp;omega
   have i:decide (r<=57)=false:=by simp;omega
   go_in;go_wp2;go_ret;exact⟨by simp[a,c,b,i],rfl⟩
 ·have a:decide (97<=r)=false:=by simpa using d
  by_cases g:48<=r
  ·have b:decide (48<=r)=true:=by simpa using g
   go_in;go_wp2;go_ret;exact⟨by simp[a,b],rfl⟩
  ·have b:decide (48<=r)=false:=by simpa using g
   go_in;go_wp2;go_ret;exact⟨by simp[a,b],rfl⟩
def Qd(a b:Int):Bool:=(!(a==0) || !(b==0))&&Ta a (-100) 100&&Ta b (-100) 100
def Cd(nb:Bool)(ps:LP)(d a b c:Int):Bool:=nb&&ve ps&&Ta d 1 2000&&Ta a 1 10000&&Qd b c
def VR(w:Z)(s:ByteArray)(a:Option Addr)(n c:Nat)(d f b e:Int)(t4:M)(W:Z):Prop:=
 t4 = .bool (Qd b e)/\Ba w W/\W.heap[w.heap.size]?=X (.cells #[.string s,I a n c,Y O d,Y O f,Y O b,Y O e] 45 (0,0))
def FO(w:Z)(s:ByteArray)(v:M)(ps:LP)(d x g j:Int)(nb:Bool)(h:Ja w v ps)(ag:∀W,Calls Tryz.prog 161 #[.string s] W fun e w'=>e=.returned (.bool nb)/\Ba W w'):Calls Tryz.prog 91 #[J #[.string s,v,Y O d,Y O x,Y O g,Y O j]] w fun e w'=>e=.returned (Y O (if Cd nb ps d x g j then 0 else 2))/\Ba w w':=by
 obtain⟨a,c,rfl⟩:=h.form;obtain⟨n,hn⟩:=gX ps.length;rw[hn]at h ⊢;have K:=Aa ag;have ad:=fun W (hW:Ba w W)=>NO W (I a n c) ps (h.f hW);obtain⟨pb,ac⟩:=gX (ve ps);rw[ac]at ad;obtain⟨R,q⟩:∃R:Int,(if Cd nb ps d x g j then (0:Int)else 2)=R:=⟨_,rfl⟩;rw[q];unfold Cd at q;rw[ac]at q;have Q:=Aa ad;have z:=Aa q;clear ag ad q ac hn h;go_in;go_upto_region 2 with fail;go_cut [4] (VR w s a n c d x g j)
 case first =>
  by_cases hz:g=0/\j=0
  ·obtain⟨rfl,rfl⟩:=hz;go_wp2;go_meet;exact⟨rfl,eA,by rw[Ag,if_neg sM];exact Ec _ _ _ rfl⟩
  ·have ah:(g≠0)\/(g=0/\j≠0):=by
    by_cases e:g=0
    ·exact .inr ⟨e,fun e2=>hz ⟨e,e2⟩⟩
    ·exact .inl e
   clear hz;rcases ah with e1|⟨e1,e2⟩
   ·have f1:(g==0)=false:=(by simpa using e1);clear e1;(have hG:Qd g j=(Ta g (-100) 100&&Ta j (-100) 100):=by unfold Qd;simp[*]);have HG:=Aa hG;clear hG;by_cases y:Ta g (-100) 100=true
    ·by_cases P:Ta j (-100) 100=true
     ·have l:Sa (Qd g j=true):=Aa (by rw[HG.o,y,P];rfl);go_wp2_with(first|((go_at_call 160;(with_reducible refine(Th _ g (-100) 100).mono ?_);rintro e w1 ⟨rfl,b⟩;obtain⟨m,o⟩:=b.cells;(try(refine Ba.t b (n:=w.heap.size) ?_ (fun _=>?_);focus(first|(go_simp;done)|omega)));(try(refine Ba.t b (n:=w.heap.size+1) ?_ (fun _=>?_);focus(first|(go_simp;done)|omega)))))|((go_at_call 160;(with_reducible refine(Th _ j (-100) 100).mono ?_);rintro e w2 ⟨rfl,f⟩;obtain⟨r,t⟩:=f.cells;(try(refine Ba.t f (n:=w.heap.size) ?_ (fun _=>?_);focus(first|(go_simp;done)|omega)));(try(refine Ba.t f (n:=w.heap.size+1) ?_ (fun _=>?_);focus(first|(go_simp;done)|omega))))));go_meet;exact⟨by rw[l.o],eA,by rw[Ba.block (a:=(w.alloc (.cells #[.string s,I a n c,Y O d,Y O x,Y O g,Y O j] 45))) eA sM];exact Ec _ _ _ rfl⟩
     ·(have T:Ta j (-100) 100=false:=by simpa using P);have l:Sa (Qd g j=false):=Aa (by rw[HG.o,y,T];rfl);clear P;go_wp2_with(first|((go_at_call 160;(with_reducible refine(Th _ g (-100) 100).mono ?_);rintro e w1 ⟨rfl,b⟩;obtain⟨m,o⟩:=b.cells;(try(refine Ba.t b (n:=w.heap.size) ?_ (fun _=>?_);focus(first|(go_simp;done)|omega)));(try(refine Ba.t b (n:=w.heap.size+1) ?_ (fun _=>?_);focus(first|(go_simp;done)|omega)))))|((go_at_call 160;(with_reducible refine(Th _ j (-100) 100).mono ?_);rintro e w2 ⟨rfl,f⟩;obtain⟨r,t⟩:=f.cells;(try(refine Ba.t f (n:=w.heap.size) ?_ (fun _=>?_);focus(first|(go_simp;done)|omega)));(try(refine Ba.t f (n:=w.heap.size+1) ?_ (fun _=>?_);focus(first|(go_simp;done)|omega))))));go_meet;exact⟨by rw[l.o],eA,by rw[Ba.block (a:=(w.alloc (.cells #[.string s,I a n c,Y O d,Y O x,Y O g,Y O j] 45))) eA sM];exact Ec _ _ _ rfl⟩
    ·(have S:Ta g (-100) 100=false:=by simpa using y);have l:Sa (Qd g j=false):=Aa (by rw[HG.o,S];rfl);clear y;go_wp2_with(first|((go_at_call 160;(with_reducible refine(Th _ g (-100) 100).mono ?_);rintro e w1 ⟨rfl,b⟩;obtain⟨m,o⟩:=b.cells;(try(refine Ba.t b (n:=w.heap.size) ?_ (fun _=>?_);focus(first|(go_simp;done)|omega)));(try(refine Ba.t b (n:=w.heap.size+1) ?_ (fun _=>?_);focus(first|(go_simp;done)|omega))))));go_meet;exact⟨by rw[l.o],eA,by rw[Ba.block (a:=(w.alloc (.cells #[.string s,I a n c,Y O d,Y O x,Y O g,Y O j] 45))) eA sM];exact Ec _ _ _ rfl⟩
   ·have f1:(g==0)=true:=(by simpa using e1);have f2:(j==0)=false:=(by simpa using e2);clear e1 e2;(have hG:Qd g j=(Ta g (-100) 100&&Ta j (-100) 100):=by unfold Qd;simp[*]);have HG:=Aa hG;clear hG;by_cases y:Ta g (-100) 100=true
    ·by_cases P:Ta j (-100) 100=true
     ·have l:Sa (Qd g j=true):=Aa (by rw[HG.o,y,P];rfl);go_wp2_with(first|((go_at_call 160;(with_reducible refine(Th _ g (-100) 100).mono ?_);rintro e w1 ⟨rfl,b⟩;obtain⟨m,o⟩:=b.cells;(try(refine Ba.t b (n:=w.heap.size) ?_ (fun _=>?_);focus(first|(go_simp;done)|omega)));(try(refine Ba.t b (n:=w.heap.size+1) ?_ (fun _=>?_);focus(first|(go_simp;done)|omega)))))|((go_at_call 160;(with_reducible refine(Th _ j (-100) 100).mono ?_);rintro e w2 ⟨rfl,f⟩;obtain⟨r,t⟩:=f.cells;(try(refine Ba.t f (n:=w.heap.size) ?_ (fun _=>?_);focus(first|(go_simp;done)|omega)));(try(refine Ba.t f (n:=w.heap.size+1) ?_ (fun _=>?_);focus(first|(go_simp;done)|omega))))));go_meet;exact⟨by rw[l.o],eA,by rw[Ba.block (a:=(w.alloc (.cells #[.string s,I a n c,Y O d,Y O x,Y O g,Y O j] 45))) eA sM];exact Ec _ _ _ rfl⟩
     ·(have T:Ta j (-100) 100=false:=by simpa using P);have l:Sa (Qd g j=false):=Aa (by rw[HG.o,y,T];rfl);clear P;go_wp2_with(first|((go_at_call 160;(with_reducible refine(Th _ g (-100) 100).mono ?_);rintro e w1 ⟨rfl,b⟩;obtain⟨m,o⟩:=b.cells;(try(refine Ba.t b (n:=w.heap.size) ?_ (fun _=>?_);focus(first|(go_simp;done)|omega)));(try(refine Ba.t b (n:=w.heap.size+1) ?_ (fun _=>?_);focus(first|(go_simp;done)|omega)))))|((go_at_call 160;(with_reducible refine(Th _ j (-100) 100).mono ?_);rintro e w2 ⟨rfl,f⟩;obtain⟨r,t⟩:=f.cells;(try(refine Ba.t f (n:=w.heap.size) ?_ (fun _=>?_);focus(first|(go_simp;done)|omega)));(try(refine Ba.t f (n:=w.heap.size+1) ?_ (fun _=>?_);focus(first|(go_simp;done)|omega))))));go_meet;exact⟨by rw[l.o],eA,by rw[Ba.block (a:=(w.alloc (.cells #[.string s,I a n c,Y O d,Y O x,Y O g,Y O j] 45))) eA sM];exact Ec _ _ _ rfl⟩
    ·(have S:Ta g (-100) 100=false:=by simpa using y);have l:Sa (Qd g j=false):=Aa (by rw[HG.o,S];rfl);clear y;go_wp2_with(first|((go_at_call 160;(with_reducible refine(Th _ g (-100) 100).mono ?_);rintro e w1 ⟨rfl,b⟩;obtain⟨m,o⟩:=b.cells;(try(refine Ba.t b (n:=w.heap.size) ?_ (fun _=>?_);focus(first|(go_simp;done)|omega)));(try(refine Ba.t b (n:=w.heap.size+1) ?_ (fun _=>?_);focus(first|(go_simp;done)|omega))))));go_meet;exact⟨by rw[l.o],eA,by rw[Ba.block (a:=(w.alloc (.cells #[.string s,I a n c,Y O d,Y O x,Y O g,Y O j] 45))) eA sM];exact Ec _ _ _ rfl⟩
 case rest =>
  obtain⟨rfl,hx,hB⟩:=hcut;have b0:=Ca hB (i:=0) (u:=.string s) rfl;have b1:=Ca hB (i:=1) (u:=I a n c) rfl;have b2:=Ca hB (i:=2) (u:=Y O d) rfl;have b3:=Ca hB (i:=3) (u:=Y O x) rfl;have zb:=Gb hB;clear hB;have q:=z.o;obtain⟨G,hG⟩:=gX (Qd g j);rw[hG]at q ⊢;clear hG z;cases nb
  ·have z:Sa (R=2):=Aa (by simpa using q.symm);clear q;go_wp2_with(first|((go_at_call 161;refine cM (K.o _) ?_;rintro e w1 ⟨rfl,b⟩;obtain⟨m,o⟩:=b.cells;(have y1:=b.lt zb))));go_ret;exact⟨by rw[z.o];rfl,eA⟩
  cases pb
  ·have z:Sa (R=2):=Aa (by simpa using q.symm);clear q;go_wp2_with(first|((go_at_call 161;refine cM (K.o _) ?_;rintro e w1 ⟨rfl,b⟩;obtain⟨m,o⟩:=b.cells;(have y1:=b.lt zb)))|((go_at_call 162;refine cM (Q.o _ eA) ?_;rintro e w2 ⟨rfl,f⟩;obtain⟨r,t⟩:=f.cells;(have y2:=f.lt y1))));go_ret;exact⟨by rw[z.o];rfl,eA⟩
  by_cases y:Ta d 1 2000=true
  ·by_cases P:Ta x 1 10000=true
   ·cases G
    ·have z:Sa (R=2):=Aa (by simpa[y,P] using q.symm);clear q;go_wp2_with(first|((go_at_call 161;refine cM (K.o _) ?_;rintro e w1 ⟨rfl,b⟩;obtain⟨m,o⟩:=b.cells;(have y1:=b.lt zb)))|((go_at_call 162;refine cM (Q.o _ eA) ?_;rintro e w2 ⟨rfl,f⟩;obtain⟨r,t⟩:=f.cells;(have y2:=f.lt y1)))|((go_at_call 160;(with_reducible refine(Th _ d 1 2000).mono ?_);rintro e w3 ⟨rfl,k⟩;obtain⟨aa,ab⟩:=k.cells;(try(refine Ba.t k (n:=w.heap.size) ?_ (fun _=>?_);focus(first|(go_simp;done)|omega)));(try(refine Ba.t k (n:=w.heap.size+1) ?_ (fun _=>?_);focus(first|(go_simp;done)|omega)))))|((go_at_call 160;(with_reducible refine(Th _ x 1 10000).mono ?_);rintro e w4 ⟨rfl,p⟩;obtain⟨ae,af⟩:=p.cells;(try(refine Ba.t p (n:=w.heap.size) ?_ (fun _=>?_);focus(first|(go_simp;done)|omega)));(try(refine Ba.t p (n:=w.heap.size+1) ?_ (fun _=>?_);focus(first|(go_simp;done)|omega))))));go_ret;exact⟨by rw[z.o];rfl,eA⟩
    ·have z:Sa (R=0):=Aa (by simpa[y,P] using q.symm);clear q;go_wp2_with(first|((go_at_call 161;refine cM (K.o _) ?_;rintro e w1 ⟨rfl,b⟩;obtain⟨m,o⟩:=b.cells;(have y1:=b.lt zb)))|((go_at_call 162;refine cM (Q.o _ eA) ?_;rintro e w2 ⟨rfl,f⟩;obtain⟨r,t⟩:=f.cells;(have y2:=f.lt y1)))|((go_at_call 160;(with_reducible refine(Th _ d 1 2000).mono ?_);rintro e w3 ⟨rfl,k⟩;obtain⟨aa,ab⟩:=k.cells;(try(refine Ba.t k (n:=w.heap.size) ?_ (fun _=>?_);focus(first|(go_simp;done)|omega)));(try(refine Ba.t k (n:=w.heap.size+1) ?_ (fun _=>?_);focus(first|(go_simp;done)|omega)))))|((go_at_call 160;(with_reducible refine(Th _ x 1 10000).mono ?_);rintro e w4 ⟨rfl,p⟩;obtain⟨ae,af⟩:=p.cells;(try(refine Ba.t p (n:=w.heap.size) ?_ (fun _=>?_);focus(first|(go_simp;done)|omega)));(try(refine Ba.t p (n:=w.heap.size+1) ?_ (fun _=>?_);focus(first|(go_simp;done)|omega))))));go_ret;exact⟨by rw[z.o];rfl,eA⟩
   ·(have T:Ta x 1 10000=false:=by simpa using P);have z:Sa (R=2):=Aa (by simpa[y,T] using q.symm);clear q P;go_wp2_with(first|((go_at_call 161;refine cM (K.o _) ?_;rintro e w1 ⟨rfl,b⟩;obtain⟨m,o⟩:=b.cells;(have y1:=b.lt zb)))|((go_at_call 162;refine cM (Q.o _ eA) ?_;rintro e w2 ⟨rfl,f⟩;obtain⟨r,t⟩:=f.cells;(have y2:=f.lt y1)))|((go_at_call 160;(with_reducible refine(Th _ d 1 2000).mono ?_);rintro e w3 ⟨rfl,k⟩;obtain⟨aa,ab⟩:=k.cells;(try(refine Ba.t k (n:=w.heap.size) ?_ (fun _=>?_);focus(first|(go_simp;done)|omega)));(try(refine Ba.t k (n:=w.heap.size+1) ?_ (fun _=>?_);focus(first|(go_simp;done)|omega)))))|((go_at_call 160;(with_reducible refine(Th _ x 1 10000).mono ?_);rintro e w4 ⟨rfl,p⟩;obtain⟨ae,af⟩:=p.cells;(try(refine Ba.t p (n:=w.heap.size) ?_ (fun _=>?_);focus(first|(go_simp;done)|omega)));(try(refine Ba.t p (n:=w.heap.size+1) ?_ (fun _=>?_);focus(first|(go_simp;done)|omega))))));go_ret;exact⟨by rw[z.o];rfl,eA⟩
  ·have S:Ta d 1 2000=false:=by simpa using y
   have z:Sa (R=2):=Aa (by simpa[S] using q.symm);clear q y;go_wp2_with(first|((go_at_call 161;refine cM (K.o _) ?_;rintro e w1 ⟨rfl,b⟩;obtain⟨m,o⟩:=b.cells;(have y1:=b.lt zb)))|((go_at_call 162;refine cM (Q.o _ eA) ?_;rintro e w2 ⟨rfl,f⟩;obtain⟨r,t⟩:=f.cells;(have y2:=f.lt y1)))|((go_at_call 160;(with_reducible refine(Th _ d 1 2000).mono ?_);rintro e w3 ⟨rfl,k⟩;obtain⟨aa,ab⟩:=k.cells;(try(refine Ba.t k (n:=w.heap.size) ?_ (fun _=>?_);focus(first|(go_simp;done)|omega)));(try(refine Ba.t k (n:=w.heap.size+1) ?_ (fun _=>?_);focus(first|(go_simp;done)|omega))))));go_ret;exact⟨by rw[z.o];rfl,eA⟩
