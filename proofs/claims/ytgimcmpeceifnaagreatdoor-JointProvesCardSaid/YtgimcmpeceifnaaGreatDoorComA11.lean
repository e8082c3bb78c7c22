import Derived.Test.YtgimcmpeceifnaaGreatDoorComA10
set_option maxRecDepth 1000000
set_option maxHeartbeats 16000000
set_option linter.all false
open Go.Value renaming int->O,slice->V,pointer->J,bool->N,agg->C
open Go.IntKind renaming i64->Y
open Go renaming Value->Z,World->X
open Option renaming some->I,none->M
namespace Go.Proofs.YtgimcmpeceifnaaGreatDoor.Cop
section
open Go.RowKit Go.Shelf Go.Sort Go.Lib
structure Ru where
 skin:Int
 pin:Int
 wide:Int
 lap:Int
 step:Int
 run:Int
 level:Int
def Uf(r:Ru):Array Z:=#[O .u8 r.skin,O Y r.pin,O Y r.wide,O Y r.lap,O Y r.step,O Y r.run,O Y r.level]
def Kg(n:Int):Bool:=decide (n<0) || decide (10000<n)
def Cc(r:Ru):Int:=if (r.skin != 1&&r.skin != 2)=true then 2 else if r.pin<0 then 2 else if 50<r.pin then 2 else if [r.wide,r.lap,r.step,r.run,r.level].any Kg=true then 2 else 0
def rD w z:Calls Tryz.prog 36 #[O Y z] w fun e a=>e=.returned (N (Kg z))/\Ba w a:=by
 unfold Kg;by_cases h:z<0
 ·go_in;go_wp2;go_ret;exact⟨by simp[h],eA⟩
 ·go_in;go_wp2;go_ret;exact⟨by simp;omega,eA⟩
def ZO w v zs(h:Ud w v zs):Calls Tryz.prog 74 #[v,.func (.func 36) #[] #[]] w fun e w'=>e=.returned (O Y (Pc Kg zs))/\Ba w w':=by
 obtain⟨a,c,rfl⟩:=h.form;obtain⟨n,t⟩:=gX zs.length;rw[t]at h ⊢;have k:=h.le;unfold maxLen at k;have aa:n<=9223372036854775807:=oM;have f:=za t;clear t k;go_in;go_wp2;go_loopg [8] n (qH w Kg zs)
 case atStart=>exact⟨0,by omega,rfl,by rw[f.o];rfl,eR _,fun j y p=>by omega⟩
 case round =>
  obtain⟨i,hi,rfl,rfl,R,g⟩:=hrel;rw[f.o]at hi;have d:=za g;clear g;by_cases s:i<n
  ·obtain⟨z,u⟩:∃q,zs[i]?=I q:=⟨zs[i]'(by rw[f.o];omega),by simp[f.o,s]⟩;obtain⟨b,o,rfl,hb,d0⟩:=(h.f R).at' u;have K:=za u;obtain⟨W,L⟩:=gX (Kg z);have m:=za L;clear u L;cases W with
   |true=>
    have e:Pc Kg zs=(i:Int):=pp K.o m.o d.o;have E:=za e;clear e;go_wp2_with(((go_at_call 36;(with_reducible refine(rD _ z).mono ?_);rw[m.o];rintro e w1 ⟨rfl,x⟩)));go_ret;exact⟨by rw[E.o];rfl,eA⟩
   |false=>
    go_wp2_with(((go_at_call 36;(with_reducible refine(rD _ z).mono ?_);rw[m.o];rintro e w1 ⟨rfl,x⟩)));go_roundg (n-(i+1))
    case measure=>have:=f.o;omega
    case rel =>
     refine⟨i+1,by have:=f.o;omega,by go_num,by rw[f.o],eA,fun j y p l=>?_⟩;by_cases r:j=i
     ·subst r;rw[K.o]at l;cases l;exact m.o
     ·exact d.o j y oM l
  ·obtain rfl:i=n:=oM;have e:Pc Kg zs = -1:=Zo (fun j y p l=>d.o j y (by rw[f.o]at p;exact p) l);have E:=za e;clear e;go_wp2;go_ret;exact⟨by rw[E.o];rfl,R⟩
def Tv w v zs(h:Ud w v zs):Calls Tryz.prog 37 #[v,.func (.func 36) #[] #[]] w fun e j=>e=.returned (N (zs.any Kg))/\Ba w j:=by rw[<-Zp];obtain⟨x,d⟩:=gX (Pc Kg zs);have b:=fun W (g:Ba w W)=>ZO W v zs (h.f g);obtain⟨a,n,c,rfl⟩:=Ma h;simp only[d]at b ⊢;have f:=za b;clear b d h;go_in;go_wp2_with(((go_at_call 74;refine cM (f.o _ eA) ?_;rintro e k ⟨rfl,i⟩)));go_ret;exact⟨rfl,eA⟩
def Js(W:X){k}(b:k=W.heap.size) x y z u v:Ud (W.alloc (.cells #[O Y x,O Y y,O Y z,O Y u,O Y v] 3)) (V (I ⟨k,0,M⟩) 5 5) [x,y,z,u,v]:=by
 subst b;refine⟨[[O Y x],[O Y y],[O Y z],[O Y u],[O Y v]],rfl,by simp,⟨by simp,I ⟨W.heap.size,0,M⟩,5,rfl,nE _,by unfold maxLen;omega,.inr ⟨W.heap.size,0,_,(0,0),rfl,aN _ _,?_⟩⟩,?_⟩
 ·intro i v hv;simpa using hv
 ·intro i c v a hv
  match i,a,hv with
  | 0,a,hv=>simp at a hv;subst a hv;rfl
  | 1,a,hv=>simp at a hv;subst a hv;rfl
  | 2,a,hv=>simp at a hv;subst a hv;rfl
  | 3,a,hv=>simp at a hv;subst a hv;rfl
  | 4,a,hv=>simp at a hv;subst a hv;rfl
  | i+5,a,hv=>simp at a
def fO w r(h:(r.skin != 1&&r.skin != 2)=true):Calls Tryz.prog 10 #[C (Uf r)] w fun e k=>e=.returned (O Y (Cc r))/\Ba w k:=by
 have e:Cc r=2:=by unfold Cc;rw[if_pos h]
 rw[e];clear e;obtain⟨b,i,c,g,step,j,a⟩:=r;unfold Uf;dsimp only at h ⊢;rw[Bool.and_eq_true]at h;obtain⟨d,f⟩:=h;have l:(b==1)=false:=by simpa using d
 have m:(b==2)=false:=by simpa using f
 go_in;go_wp2;go_ret;exact⟨rfl,eA⟩
def VS w g c d step f a:Calls Tryz.prog 10 #[C #[O .u8 1,O Y g,O Y c,O Y d,O Y step,O Y f,O Y a]] w fun e p=>e=.returned (O Y (Cc ⟨1,g,c,d,step,f,a⟩))/\Ba w p:=by
 obtain⟨x,i⟩:=gX (Cc ⟨1,g,c,d,step,f,a⟩);rw[i];have j:Cc ⟨1,g,c,d,step,f,a⟩=if g<0 then 2 else if 50<g then 2 else if [c,d,step,f,a].any Kg=true then 2 else 0:=rfl;by_cases k:g<0
 ·rw[j,if_pos k]at i;subst i;clear j;go_in;go_wp2;go_ret;exact⟨rfl,eA⟩
 by_cases o:50<g
 ·rw[j,if_neg k,if_pos o]at i;subst i;clear j;go_in;go_wp2;go_ret;exact⟨rfl,eA⟩
 rw[j,if_neg k,if_neg o]at i;clear j;obtain⟨b,l⟩:=gX ([c,d,step,f,a].any Kg);rw[l]at i;have n:=za l;clear l;cases b with
 |true=>
  rw[if_pos rfl]at i;subst i;go_in;go_wp2_with(go_at_call 37;(with_reducible refine(Tv _ (V (I ⟨w.heap.size+1,0,M⟩) 5 5) [c,d,step,f,a] (Js _ sM c d step f a)).mono ?_);rw[n.o];rintro e q ⟨rfl,m⟩);go_ret;exact⟨rfl,eA⟩
 |false=>
  rw[if_neg dM]at i;subst i;go_in;go_wp2_with(go_at_call 37;(with_reducible refine(Tv _ (V (I ⟨w.heap.size+1,0,M⟩) 5 5) [c,d,step,f,a] (Js _ sM c d step f a)).mono ?_);rw[n.o];rintro e q ⟨rfl,m⟩);go_ret;exact⟨rfl,eA⟩
def JR w g c d step f a:Calls Tryz.prog 10 #[C #[O .u8 2,O Y g,O Y c,O Y d,O Y step,O Y f,O Y a]] w fun e p=>e=.returned (O Y (Cc ⟨2,g,c,d,step,f,a⟩))/\Ba w p:=by
 obtain⟨x,i⟩:=gX (Cc ⟨2,g,c,d,step,f,a⟩);rw[i];have j:Cc ⟨2,g,c,d,step,f,a⟩=if g<0 then 2 else if 50<g then 2 else if [c,d,step,f,a].any Kg=true then 2 else 0:=rfl;by_cases k:g<0
 ·rw[j,if_pos k]at i;subst i;clear j;go_in;go_wp2;go_ret;exact⟨rfl,eA⟩
 by_cases o:50<g
 ·rw[j,if_neg k,if_pos o]at i;subst i;clear j;go_in;go_wp2;go_ret;exact⟨rfl,eA⟩
 rw[j,if_neg k,if_neg o]at i;clear j;obtain⟨b,l⟩:=gX ([c,d,step,f,a].any Kg);rw[l]at i;have n:=za l;clear l;cases b with
 |true=>
  rw[if_pos rfl]at i;subst i;go_in;go_wp2_with(go_at_call 37;(with_reducible refine(Tv _ (V (I ⟨w.heap.size+1,0,M⟩) 5 5) [c,d,step,f,a] (Js _ sM c d step f a)).mono ?_);rw[n.o];rintro e q ⟨rfl,m⟩);go_ret;exact⟨rfl,eA⟩
 |false=>
  rw[if_neg dM]at i;subst i;go_in;go_wp2_with(go_at_call 37;(with_reducible refine(Tv _ (V (I ⟨w.heap.size+1,0,M⟩) 5 5) [c,d,step,f,a] (Js _ sM c d step f a)).mono ?_);rw[n.o];rintro e q ⟨rfl,m⟩);go_ret;exact⟨rfl,eA⟩
def UE w r:Calls Tryz.prog 10 #[C (Uf r)] w fun e k=>e=.returned (O Y (Cc r))/\Ba w k:=by
 by_cases h:(r.skin != 1&&r.skin != 2)=true
 ·exact fO w r h
 ·obtain⟨j,d,b,c,step,f,a⟩:=r;rw[Bool.and_eq_true]at h;by_cases g:j=1
  ·subst g;exact VS w d b c step f a
  ·by_cases i:j=2
   ·subst i;exact JR w d b c step f a
   ·exact absurd (by dsimp only;simp[g,i]) h
def Ba.belowB{w W base}(h:Ba w W)(a:base<=w.heap.size):Below base w W:=Below.mono h a
structure Jt where
 a:Int
 b:Int
 left:Int
 right:Int
 fr:Int
 til:Int
def yh(j:Jt):Array Z:=#[O Y j.a,O Y j.b,O Y j.left,O Y j.right,O Y j.fr,O Y j.til]
def Vg(j:Jt):List Z:=(yh j).toList
def Fh(j:Jt):Prop:=Bd 1000000 j.a/\Bd 1000000 j.b/\Bd 1000000 j.left/\Bd 1000000 j.right/\Bd 1000000 j.fr/\Bd 1000000 j.til
def ji(step a b:Int):Bool:=decide (max (a-b) (b-a)<=step)
def Qd(r:Ru)(j k:Jt):Bool:=decide (j.fr<k.fr)&&(ji r.step k.fr j.til&&decide (max 0 (max (k.left-j.right) (j.left-k.right))<r.lap))
def VM w l g d f step i c a b(j:Bd 1000000 a)(k:Bd 1000000 b):Calls Tryz.prog 104 #[C #[O .u8 l,O Y g,O Y d,O Y f,O Y step,O Y i,O Y c],O Y a,O Y b] w fun e m=>e=.returned (N (ji step a b))/\Ba w m:=by unfold ji;unfold Bd at j k;have n:-9223372036854775808<=a-b:=oM;have o:a-b<=9223372036854775807:=oM;have p:-9223372036854775808<=b-a:=oM;have q:b-a<=9223372036854775807:=oM;clear j k;go_in;go_wp2;go_ret;exact⟨rfl,eA⟩
def IS w sk n g m step o c a b l r f t a' b' R r' i t'(hj:Fh ⟨a,b,l,r,f,t⟩)(hk:Fh ⟨a',b',R,r',i,t'⟩):Calls Tryz.prog 82 #[C #[O .u8 sk,O Y n,O Y g,O Y m,O Y step,O Y o,O Y c],C #[O Y a,O Y b,O Y l,O Y r,O Y f,O Y t],C #[O Y a',O Y b',O Y R,O Y r',O Y i,O Y t']] w fun e w'=>e=.returned (N (Qd ⟨sk,n,g,m,step,o,c⟩ ⟨a,b,l,r,f,t⟩ ⟨a',b',R,r',i,t'⟩))/\Ba w w':=by
 obtain⟨q,s,d,u,v,j⟩:=hj;obtain⟨x,y,z,K,k,L⟩:=hk;dsimp only at q s d u v j x y z K k L;have HN:=za (fun W=>VM W sk n g m step o c i t k j);unfold Qd;dsimp only;unfold Bd at *;have d1:-9223372036854775808<=R-r:=oM;have d2:R-r<=9223372036854775807:=oM;have d3:-9223372036854775808<=l-r':=oM;have d4:l-r'<=9223372036854775807:=oM;clear q s d u v j x y z K k L;by_cases h1:f<i
 ·obtain⟨p,hp⟩:=gX (ji step i t);rw[hp]at HN ⊢;clear hp;cases p
  ·go_in;go_wp2_with(go_at_call 104;refine cM (HN.o _) ?_;rintro e w3 ⟨rfl,d⟩);go_ret;exact⟨by simp,eA⟩
  ·go_in;go_wp2_with(go_at_call 104;refine cM (HN.o _) ?_;rintro e w3 ⟨rfl,d⟩;obtain⟨aa,ab⟩:=d.cells;(have z3:=d.size);(simp only[wZ]at z3);(have y0:w.heap.size<w3.heap.size:=oM);(have y1:w.heap.size+1<w3.heap.size:=oM);(have y2:w.heap.size+1+1<w3.heap.size:=oM))
   all_goals go_ret
   all_goals refine⟨?_,eA⟩
   all_goals(refine Uj (congrArg Value.bool ?_);show decide _=decide _;rw[decide_eq_decide];(repeat' split at *)<;>omega)
 ·go_in;go_wp2;go_ret;exact⟨by rw[show decide (f<i)=false by simp;omega];rfl,eA⟩
def gP w v js b1(f:JS->Bool)(h:Ge w v js)(hf:∀W,Ba w W->∀j∈js,Calls Tryz.prog 107 #[C (Ah j),J (I ⟨b1,0,M⟩)] W fun e w'=>e=.returned (N (f j.1))/\Ba W w'):Calls Tryz.prog 88 #[v,.func (.func 107) #[] #[J (I ⟨b1,0,M⟩)]] w fun e w'=>e=.returned (O Y (Pc (fun j=>f j.1) js))/\Ba w w':=by
 obtain⟨a,c,rfl⟩:=h.form;obtain⟨n,hn⟩:=gX js.length;rw[hn]at h ⊢;have s:=h.le;unfold maxLen at s;have ap:n<=9223372036854775807:=oM;have m:=za hn;have Hf:=za hf;clear hn s hf;go_in;go_wp2;go_loopg [8] n (pH w f js)
 case atStart=>exact⟨0,by omega,rfl,by rw[m.o];rfl,eR _,fun j y u=>by omega⟩
 case round =>
  obtain⟨i,hi,rfl,rfl,hx,p⟩:=hrel;rw[m.o]at hi;have l:=za p;clear p;by_cases R:i<n
  ·obtain⟨⟨⟨⟨nm,sh,d,de,gx,gz,wy,ax,az,sk⟩,k,⟨xl,xh⟩,zl,zh⟩,v⟩,x⟩:∃q,js[i]?=I q:=⟨js[i]'(by rw[m.o];omega),by simp[m.o,R]⟩;obtain⟨b,o,rfl,hb,g⟩:=(h.f hx).at' x;have r:=za (fun W (hW:Ba wr W)=>Hf.o W (hx.trans hW) _ (lM x));obtain⟨fp,K⟩:=gX (f ⟨⟨nm,sh,d,de,gx,gz,wy,ax,az,sk⟩,k,⟨xl,xh⟩,zl,zh⟩);rw[K]at r;have F7:=za K;unfold Ah at g r;dsimp only at g r;have z:=g 0 (.string nm) rfl;have ag:=g 1 v rfl;have ah:=g 2 (O Y d) rfl;have ai:=g 3 (O Y de) rfl;have aj:=g 4 (O Y gx) rfl;have ak:=g 5 (O Y gz) rfl;have al:=g 6 (O Y wy) rfl;have am:=g 7 (O Y ax) rfl;have an:=g 8 (O Y az) rfl;have ao:=g 9 (O .u8 sk) rfl;have ab:=g 10 (O Y k) rfl;have ac:=g 11 (O Y xl) rfl;have ad:=g 12 (O Y xh) rfl;have ae:=g 13 (O Y zl) rfl;have af:=g 14 (O Y zh) rfl;simp only[Nat.add_zero]at z;have Hq:=za x;clear x g K;cases fp with
   |true=>
    have e:Pc (fun j:JS×Z=>f j.1) js=(i:Int):=pp Hq.o F7.o l.o;have E:=za e;clear e;go_wp2_with(((go_at_call 107;refine cM (r.o _ eA) ?_;rintro e w1 ⟨rfl,aa⟩)));go_ret;exact⟨by rw[E.o];rfl,eA⟩
   |false=>
    go_wp2_with(((go_at_call 107;refine cM (r.o _ eA) ?_;rintro e w1 ⟨rfl,aa⟩)));go_roundg (n-(i+1))
    case measure=>have:=m.o;omega
    case rel =>
     refine⟨i+1,by have:=m.o;omega,by go_num,by rw[m.o],eA,fun j y u t=>?_⟩;by_cases L:j=i
     ·subst L;rw[Hq.o]at t;cases t;exact F7.o
     ·exact l.o j y oM t
  ·obtain rfl:i=n:=oM;have e:Pc (fun j:JS×Z=>f j.1) js = -1:=Zo (fun j y u t=>l.o j y (by rw[m.o]at u;exact u) t);have E:=za e;clear e;go_wp2;go_ret;exact⟨by rw[E.o];rfl,hx⟩
def SP w v js b(f:JS->Bool)(h:Ge w v js)(l:∀W,Ba w W->∀j∈js,Calls Tryz.prog 107 #[C (Ah j),J (I ⟨b,0,M⟩)] W fun e i=>e=.returned (N (f j.1))/\Ba W i):Calls Tryz.prog 100 #[v,.func (.func 107) #[] #[J (I ⟨b,0,M⟩)]] w fun e i=>e=.returned (N (js.any fun j=>f j.1))/\Ba w i:=by rw[<-Zp];obtain⟨x,m⟩:=gX (Pc (fun j:JS×Z=>f j.1) js);have g:=fun W (k:Ba w W)=>gP W v js b f (h.f k) (fun W' d=>l W' (k.trans d));obtain⟨a,n,c,rfl⟩:=Ma h;simp only[m]at g ⊢;have o:=za g;clear g m h l;go_in;go_wp2_with(((go_at_call 88;refine cM (o.o _ eA) ?_;rintro e q ⟨rfl,p⟩)));go_ret;exact⟨rfl,eA⟩
def jP w v js b1(f:JS->Bool)(h:Ge w v js)(hf:∀W,Ba w W->∀j∈js,Calls Tryz.prog 101 #[C (Ah j),J (I ⟨b1,0,M⟩)] W fun e w'=>e=.returned (N (f j.1))/\Ba W w'):Calls Tryz.prog 88 #[v,.func (.func 101) #[] #[J (I ⟨b1,0,M⟩)]] w fun e w'=>e=.returned (O Y (Pc (fun j=>f j.1) js))/\Ba w w':=by
 obtain⟨a,c,rfl⟩:=h.form;obtain⟨n,hn⟩:=gX js.length;rw[hn]at h ⊢;have s:=h.le;unfold maxLen at s;have ap:n<=9223372036854775807:=oM;have m:=za hn;have Hf:=za hf;clear hn s hf;go_in;go_wp2;go_loopg [8] n (pH w f js)
 case atStart=>exact⟨0,by omega,rfl,by rw[m.o];rfl,eR _,fun j y u=>by omega⟩
 case round =>
  obtain⟨i,hi,rfl,rfl,hx,p⟩:=hrel;rw[m.o]at hi;have l:=za p;clear p;by_cases R:i<n
  ·obtain⟨⟨⟨⟨nm,sh,d,de,gx,gz,wy,ax,az,sk⟩,k,⟨xl,xh⟩,zl,zh⟩,v⟩,x⟩:∃q,js[i]?=I q:=⟨js[i]'(by rw[m.o];omega),by simp[m.o,R]⟩;obtain⟨b,o,rfl,hb,g⟩:=(h.f hx).at' x;have r:=za (fun W (hW:Ba wr W)=>Hf.o W (hx.trans hW) _ (lM x));obtain⟨fp,K⟩:=gX (f ⟨⟨nm,sh,d,de,gx,gz,wy,ax,az,sk⟩,k,⟨xl,xh⟩,zl,zh⟩);rw[K]at r;have F7:=za K;unfold Ah at g r;dsimp only at g r;have z:=g 0 (.string nm) rfl;have ag:=g 1 v rfl;have ah:=g 2 (O Y d) rfl;have ai:=g 3 (O Y de) rfl;have aj:=g 4 (O Y gx) rfl;have ak:=g 5 (O Y gz) rfl;have al:=g 6 (O Y wy) rfl;have am:=g 7 (O Y ax) rfl;have an:=g 8 (O Y az) rfl;have ao:=g 9 (O .u8 sk) rfl;have ab:=g 10 (O Y k) rfl;have ac:=g 11 (O Y xl) rfl;have ad:=g 12 (O Y xh) rfl;have ae:=g 13 (O Y zl) rfl;have af:=g 14 (O Y zh) rfl;simp only[Nat.add_zero]at z;have Hq:=za x;clear x g K;cases fp with
   |true=>
    have e:Pc (fun j:JS×Z=>f j.1) js=(i:Int):=pp Hq.o F7.o l.o;have E:=za e;clear e;go_wp2_with(((go_at_call 101;refine cM (r.o _ eA) ?_;rintro e w1 ⟨rfl,aa⟩)));go_ret;exact⟨by rw[E.o];rfl,eA⟩
   |false=>
    go_wp2_with(((go_at_call 101;refine cM (r.o _ eA) ?_;rintro e w1 ⟨rfl,aa⟩)));go_roundg (n-(i+1))
    case measure=>have:=m.o;omega
    case rel =>
     refine⟨i+1,by have:=m.o;omega,by go_num,by rw[m.o],eA,fun j y u t=>?_⟩;by_cases L:j=i
     ·subst L;rw[Hq.o]at t;cases t;exact F7.o
     ·exact l.o j y oM t
  ·obtain rfl:i=n:=oM;have e:Pc (fun j:JS×Z=>f j.1) js = -1:=Zo (fun j y u t=>l.o j y (by rw[m.o]at u;exact u) t);have E:=za e;clear e;go_wp2;go_ret;exact⟨by rw[E.o];rfl,hx⟩
def UP w v js b(f:JS->Bool)(h:Ge w v js)(l:∀W,Ba w W->∀j∈js,Calls Tryz.prog 101 #[C (Ah j),J (I ⟨b,0,M⟩)] W fun e i=>e=.returned (N (f j.1))/\Ba W i):Calls Tryz.prog 100 #[v,.func (.func 101) #[] #[J (I ⟨b,0,M⟩)]] w fun e i=>e=.returned (N (js.any fun j=>f j.1))/\Ba w i:=by rw[<-Zp];obtain⟨x,m⟩:=gX (Pc (fun j:JS×Z=>f j.1) js);have g:=fun W (k:Ba w W)=>jP W v js b f (h.f k) (fun W' d=>l W' (k.trans d));obtain⟨a,n,c,rfl⟩:=Ma h;simp only[m]at g ⊢;have o:=za g;clear g m h l;go_in;go_wp2_with(((go_at_call 88;refine cM (o.o _ eA) ?_;rintro e q ⟨rfl,p⟩)));go_ret;exact⟨rfl,eA⟩
def Nh(j:Jt)(x:JS):Bool:=(x.k != j.a)&&((x.k != j.b)&&(decide (max x.z.1 j.fr<min x.z.2 j.til)&&decide (max x.x.1 j.left<min x.x.2 j.right)))
def JM w x j b(c:w.heap[b]?=I (.cells (yh j) 82 (0,0))):Calls Tryz.prog 107 #[C (Ah x),J (I ⟨b,0,M⟩)] w fun e w'=>e=.returned (N (Nh j x.1))/\Ba w w':=by
 obtain⟨⟨⟨nm,sh,d,de,gx,gz,wy,ax,az,sk⟩,k,⟨xl,xh⟩,W,R⟩,v⟩:=x;obtain⟨l,m,z,K,n,o⟩:=j;have z1:=Ya c;have z3:b<w.heap.size+1:=oM;have c0:=Aa c 0 (O Y l);have c1:=Aa c 1 (O Y m);have c2:=Aa c 2 (O Y z);have c3:=Aa c 3 (O Y K);have c4:=Aa c 4 (O Y n);have c5:=Aa c 5 (O Y o);unfold Nh Ah;dsimp only;by_cases f:k=l
 ·have g:(k != l)=false:=by simp[f]
  rw[g];clear f;go_in;go_wp2;go_ret;exact⟨rfl,eA⟩
 have g:(k != l)=true:=by simpa using f
 by_cases i:k=m
 ·have r:(k != m)=false:=by simp[i]
  rw[g,r];clear f i;go_in;go_wp2;go_ret;exact⟨rfl,eA⟩
 have r:(k != m)=true:=by simpa using i
 rw[g,r];obtain⟨p,u⟩:=gX (decide (max W n<min R o));obtain⟨q,y⟩:=gX (decide (max xl z<min xh K));rw[u,y];have HP:=za u;have HQ:=za y;clear f i u y;cases p
 ·go_in;go_wp2_with(go_at_call 53;(with_reducible refine(Iz _ W R n o).mono ?_);rw[HP.o];rintro e L ⟨rfl,a⟩;obtain⟨s,t⟩:=a.cells);go_ret;exact⟨rfl,eA⟩
 ·go_in;go_wp2_with(first|(go_at_call 53;(with_reducible refine(Iz _ W R n o).mono ?_);rw[HP.o];rintro e L ⟨rfl,a⟩;obtain⟨s,t⟩:=a.cells;(have z4:=a.size);(simp only[wZ]at z4);(have y0:w.heap.size<L.heap.size:=oM);(have y1:b<L.heap.size:=oM))|(go_at_call 53;(with_reducible refine(Iz _ xl xh z K).mono ?_);rw[HQ.o];rintro e w5 ⟨rfl,aa⟩));go_ret;exact⟨by simp,eA⟩
def nj(r:Ru)(a c e b d:Z):Array Z:=#[O .u8 r.skin,O Y r.pin,O Y r.wide,O Y r.lap,O Y r.step,O Y r.run,O Y r.level,a,c,e,b,d]
def Vd(a:List JS)(j:Jt):Bool:=a.any (Nh j)
def oR w b r K R l L vr js j(i:w.heap[b]?=I (.cells (nj r K R l L vr) 89 (0,0)))(h:Ge w l js):Calls Tryz.prog 75 #[J (I ⟨b,0,M⟩),C (yh j)] w fun e w'=>e=.returned (N (Vd (js.map Prod.fst) j))/\Ba w w':=by
 have e:Vd (js.map Prod.fst) j=js.any fun x=>Nh j x.1:=by unfold Vd;rw[List.any_map];rfl
 rw[e];have d:=za (fun W (q:Ba w W) (f:Nat) (s:W.heap[f]?=I (.cells (yh j) 82 (0,0)))=>SP W l js f (Nh j) (h.f q) (fun W' g x _=>JM W' x j f (g.e s)));obtain⟨x,o⟩:=gX ((js.any fun x=>Nh j x.1));rw[o]at d ⊢;obtain⟨a,n,c,rfl⟩:=Ma h;obtain⟨ja,jb,jl,jr,jf,jt⟩:=j;obtain⟨sk,y,p,v,step,z,k⟩:=r;have z1:=Ya i;have z3:b<w.heap.size+1:=oM;have c0:=Aa i 9 (V a n c);unfold yh at d ⊢;dsimp only at d ⊢;clear h i o e;have t:∀(m:Fn)(first cap:Array Z)(w:X),(Instr.makeFunc m first cap).run Tryz.prog w = .ok (.func m first cap) w:=fun _ _ _ _=>rfl;go_in;go_wp2_with(go_at_call 100;refine cM (d.o _ eA _ ?_) ?_;(focus(exact aN _ _));rintro e w1 ⟨rfl,u⟩);go_ret;exact⟨rfl,eA⟩
end
section
open Go.RowKit Go.Shelf Go.Sort
def BJ(j:JS×Z):Prop:=Bd 1000000 j.1.x.1/\∃a n c,j.2=V a n c
instance:Inhabited {j // BJ j}:=⟨⟨(⟨⟨⟨#[]⟩,[],0,0,0,0,0,0,0,0⟩,0,(0,0),(0,0)⟩,V M 0 0),⟨by unfold Bd;decide,_,_,_,rfl⟩⟩⟩
def QB{k f ps}(g:0<=k)(h:∀p∈ps,Bd k (f p)):Bd k (td f ps).1/\Bd k (td f ps).2:=by
 cases ps with
 | nil=>unfold td Bd;simp;omega
 | cons p ps =>
  have:∀(a:LP)(o:Int×Int),(Bd k o.1/\Bd k o.2)->(∀q∈a,Bd k (f q))->Bd k (a.foldl (fun o q=>(min o.1 (f q),max o.2 (f q))) o).1/\Bd k (a.foldl (fun o q=>(min o.1 (f q),max o.2 (f q))) o).2:=by
   intro a;induction a with
   | nil=>intro o c _;exact c
   | cons q a e =>
    intro o c b;refine e _ ?_ (fun z d=>b z (mC _ d));have:=b q sM;unfold Bd at *;dsimp only;omega
  exact this ps (f p,f p) ⟨h p sM,h p sM⟩ (fun q b=>h q (mC _ b))
def uC{ps j}(h:j∈Se ps):∃p∈ps,∃i,j=Ib i p:=by
 obtain⟨i,a⟩:=List.mem_iff_getElem?.1 h;unfold Se at a;rw[List.getElem?_mapIdx]at a;cases hp:ps[i]? with
 | none=>rw[hp]at a;cases a
 | some p=>rw[hp]at a;cases a;exact⟨p,lM hp,i,rfl⟩
def Qp{ps}(a:∀p∈ps,Fa p=true){j}(h:j∈Se ps):(Bd 104000 j.x.1/\Bd 104000 j.x.2)/\Bd 104000 j.z.1/\Bd 104000 j.z.2:=by obtain⟨p,d,i,rfl⟩:=uC h;have c:=(oo (a p d)).1;exact⟨QB oM (fun q b=>(c q b).1),QB oM (fun q b=>(c q b).2)⟩
def nP w p c a:Calls Tryz.prog 142 #[V p 0 c,O Y 0,O Y 0,a] w fun e b=>e=.returned (.tuple #[])/\b=w:=by
 go_in;go_wp2;refine wp_loop_rounds 1 ?_;rw[rounds_succ];go_wp2
 go_end0
 exact⟨rfl,rfl⟩
def SR w p c Rc b:Calls Tryz.prog 108 #[V p 0 c,O Y 0,O Y 0,O Y Rc,b] w fun e a=>e=.returned (.tuple #[])/\a=w:=by go_in;go_wp2;refine wp_loop_rounds 1 ?_;rw[rounds_succ];go_wp2_with(go_at_call 142;refine(nP _ _ _ _).mono ?_;rintro e a ⟨rfl,rfl⟩);(try simp only[Exit.inBlock,Exit.then]);refine bR (results_none rfl _ _ _) rfl ?_;exact⟨rfl,rfl⟩
def PS w p c b:Calls Tryz.prog 76 #[V p 0 c,b] w fun e a=>e=.returned (.tuple #[])/\a=w:=by
 have d:∀W,Calls Tryz.prog 90 #[O .u64 0] W fun e a=>e=.returned (O Y (Lib.bitLen 0:Nat))/\a=W:=fun W=>Tryz.bits_Len 0 W oM oM;go_in;go_wp2_with(first|(go_at_call 90;refine(d _).mono ?_;rintro e a ⟨rfl,rfl⟩)|(go_at_call 108;refine(SR _ _ _ _ _).mono ?_;rintro e a ⟨rfl,rfl⟩))
 go_end0
 exact⟨rfl,rfl⟩
def Ab(w:X)(v:Z)(ps:LP):Prop:=∃T,Sl T 2 PP w v ps
def Ab.f{w w' v ps}(h:Ab w v ps)(k:Ba w w'):Ab w' v ps:=by obtain⟨T,h⟩:=h;exact⟨T,Sl.ext (w:=w) (w':=w') h (fun _ _ h=>h) k⟩
def Ab.form{w v ps}(h:Ab w v ps):∃a c,v=V a ps.length c:=h.elim fun _ h=>Sl.form h
def Ab.i{w v ps}(h:Ab w v ps):∃a n c,v=V a n c:=h.elim fun _ h=>Cop.Ma h
def Ab.len{w a n c ps}(h:Ab w (V a n c) ps):n=ps.length:=h.elim fun _ h=>Sl.len h
def Ab.le{w a n c ps}(h:Ab w (V a n c) ps):ps.length<=c/\c<=maxLen:=h.elim fun _ h=>Sl.le h
def Ab.at'{w a n c ps}(h:Ab w (V a n c) ps){i p}(k:ps[i]?=I p):∃b o,a=I ⟨b,o,M⟩/\b<w.heap.size/\w.cell? ⟨b,o+i*2,M⟩=I (O Y p.1)/\w.cell? ⟨b,o+i*2+1,M⟩=I (O Y p.2):=by obtain⟨T,h⟩:=h;obtain⟨b,o,d,rfl,j,l,g,f⟩:=Sl.at h k;have e:d=[O Y p.1,O Y p.2]:=g;subst e;exact⟨b,o,rfl,j,f 0 _ rfl,f 1 _ rfl⟩
def FA(w:X)(c:List Z)(p:Pl):Prop:=∃v,c=(Dd p v).toList/\Ab w v p.shape/\0<=p.skin
def Cf(w:X)(v:Z)(ps:List Pl):Prop:=∃T,Sl T 10 FA w v ps
def Cf.f{w w' v ps}(h:Cf w v ps)(k:Ba w w'):Cf w' v ps:=by obtain⟨T,h⟩:=h;exact⟨T,Sl.ext (w:=w) (w':=w') h (fun _ _ ⟨v,a,b,c⟩=>⟨v,a,b.f k,c⟩) k⟩
def Cf.form{w v ps}(h:Cf w v ps):∃a c,v=V a ps.length c:=h.elim fun _ h=>Sl.form h
def Cf.i{w v ps}(h:Cf w v ps):∃a n c,v=V a n c:=h.elim fun _ h=>Cop.Ma h
def Cf.len{w a n c ps}(h:Cf w (V a n c) ps):n=ps.length:=h.elim fun _ h=>Sl.len h
def Cf.le{w a n c ps}(h:Cf w (V a n c) ps):ps.length<=c/\c<=maxLen:=h.elim fun _ h=>Sl.le h
def Cf.at'{w a n c ps}(h:Cf w (V a n c) ps){i p}(m:ps[i]?=I p):∃b o v,a=I ⟨b,o,M⟩/\b<w.heap.size/\Ab w v p.shape/\0<=p.skin/\∀(j:Nat) u,(Dd p v)[j]?=I u->w.cell? ⟨b,o+i*10+j,M⟩=I u:=by obtain⟨T,h⟩:=h;obtain⟨b,o,d,rfl,g,q,⟨v,rfl,e,f⟩,k⟩:=Sl.at h m;exact⟨b,o,v,rfl,g,e,f,fun j u l=>k j u (by rw[Array.getElem?_toList];exact l)⟩
def Gi(p:Pl):Bool:=decide (20<p.shape.length) || decide (40<p.name.size)
def ZM w b v i d k l o(h:Ab w v i):Calls Tryz.prog 33 #[C #[.string b,v,O Y d,O Y k,O Y l,O Y o]] w fun e q=>e=.returned (N (decide (20<i.length) || decide (40<b.size)))/\Ba w q:=by
 obtain⟨a,c,rfl⟩:=h.form;obtain⟨n,p⟩:=gX i.length;rw[p];obtain⟨m,j⟩:=gX b.size;by_cases f:20<n
 ·have g:(20:Int)<(n:Int):=oM;have e:(decide (20<n) || decide (40<b.size))=true:=by simp[f]
  rw[e];clear f e j;go_in;go_wp2;go_ret;exact⟨rfl,eA⟩
 ·have g:¬(20:Int)<(n:Int):=oM;have e:(decide (20<n) || decide (40<b.size))=decide (40<m):=by simp[f,j]
  rw[e];clear f e;go_in;go_wp2;go_ret;exact⟨by simp;omega,eA⟩
def Ji(g:LP)(ps:List Pl):Bool:=!ps.any Gi&&(decide (ps.length<=8)&&decide (g.length<=50))
def uV(w:X)(a b:Z)(ps:List Pl)(g:Nat)(t3:Z)(W:X):Prop:=
 ∃i:Nat,i<=ps.length/\t3=O Y (i:Nat)/\g=ps.length-i/\Ba w W/\W.heap[w.heap.size]?=I (.cells #[a,b] 25 (0,0))/\∀j y,j<i->ps[j]?=I y->Gi y=false
def vL w vg vp g ps(hg:Ab w vg g)(u:Cf w vp ps):Calls Tryz.prog 8 #[C #[vg,vp]] w fun e w'=>e=.returned (N (Ji g ps))/\Ba w w':=by
 obtain⟨ga,gc,rfl⟩:=hg.form;obtain⟨pa,pc,rfl⟩:=u.form;obtain⟨n,hn⟩:=gX ps.length;obtain⟨m,hm⟩:=gX g.length;have t:=u.le;rw[hm];rw[hn]at u t ⊢;unfold maxLen at t;have ak:n<=9223372036854775807:=oM;have a:=za hn;have Hm:=za hm;have Hp:=za u;obtain⟨fb,r⟩:=gX (Ji g ps);rw[r];have x:=za r;clear hn t hg u hm r;go_in;go_wp2;go_loopg [3] n (uV w (V ga m gc) (V pa n pc) ps)
 case atStart=>exact⟨0,by omega,rfl,by rw[a.o];rfl,eA,aN w _,fun j y L=>by omega⟩
 case round =>
  obtain⟨i,hi,rfl,rfl,hx,c,k⟩:=hrel;rw[a.o]at hi;have w0:=Aa c 0 (V ga m gc);have w1:=Aa c 1 (V pa n pc);have f:=za k;have K:=za hx;have aa:=za c;clear k;by_cases ae:i<n
  ·obtain⟨p,hq⟩:∃q,ps[i]?=I q:=⟨ps[i]'(by rw[a.o];omega),by simp[a.o,ae]⟩;obtain⟨b,o,v,rfl,hb,hv,_,l⟩:=(Hp.o.f hx).at' hq;have R:=za (fun W (hW:Ba wr W)=>ZM W p.name v p.shape p.depth p.density p.gx p.gz (hv.f hW));obtain⟨lb,s⟩:=gX (Gi p);rw[show (decide (20<p.shape.length) || decide (40<p.name.size))=lb from s]at R;have z:=za s;obtain⟨va,vn,vc,rfl⟩:=hv.i;have ab:=l 0 (.string p.name) rfl;have af:=l 1 (V va vn vc) rfl;have ag:=l 2 (O Y p.depth) rfl;have ah:=l 3 (O Y p.density) rfl;have ai:=l 4 (O Y p.gx) rfl;have aj:=l 5 (O Y p.gz) rfl;simp only[Nat.add_zero]at ab;have Hq:=za hq;have p1:(0:Int)<=(i:Int):=oM;have p2:(i:Int)<(n:Int):=oM;clear l hq hv s hx c;cases lb with
   |true=>
    have e:fb=false:=by
     rw[<-x.o];unfold Ji;rw[show ps.any Gi=true from List.any_eq_true.2 ⟨p,lM Hq.o,z.o⟩];rfl
    subst e;go_wp2_with(go_at_call 33;refine cM (R.o _ (eR _)) ?_;rintro e w1 ⟨rfl,d⟩);go_ret;exact⟨rfl,K.o.trans d⟩
   |false=>
    go_wp2_with(go_at_call 33;refine cM (R.o _ (eR _)) ?_;rintro e w1 ⟨rfl,d⟩);go_roundg (n-(i+1))
    case measure=>have:=a.o;omega
    case rel =>
     refine⟨i+1,by have:=a.o;omega,by go_num,by rw[a.o],K.o.trans d,d.e aa.o,fun j y L hy=>?_⟩;by_cases ad:j=i
     ·subst ad;rw[Hq.o]at hy;cases hy;exact z.o
     ·exact f.o j y oM hy
  ·obtain rfl:n=i:=oM;have e:fb=(decide (n<=8)&&decide (m<=50)):=by
    rw[<-x.o];unfold Ji;rw[show ps.any Gi=false from by
     rw[List.any_eq_false];intro p u;obtain⟨j,L⟩:=List.mem_iff_getElem?.1 u;rw[f.o j p (by have:=(lS.1 L).1;rw[a.o]at this;exact this) L];decide,a.o,Hm.o]
    rfl
   subst e;by_cases h8:n<=8
   ·have ac:(n:Int)<=8:=oM;go_wp2;go_ret;exact⟨by simp[h8];try omega,K.o⟩
   ·have ac:¬(n:Int)<=8:=oM;go_wp2;go_ret;exact⟨by simp[h8],K.o⟩
def GA(w:X)(xs a:List Int)(g:Nat)(t5:Z)(W:X):Prop:=
 ∃i:Nat,i<=xs.length/\t5=O Y (i:Nat)/\g=xs.length-i/\Ba w W/\∀j,j<i->xs[j]?=a[j]?
def ov{g ps}(h:Ji g ps=true):g.length<=1000/\ps.length<=8/\∀p∈ps,p.shape.length<=1000:=by unfold Ji at h;simp only[Bool.and_eq_true,Bool.not_eq_true',List.any_eq_false,decide_eq_true_eq]at h;obtain⟨a,b,d⟩:=h;refine⟨by omega,b,fun p c=>?_⟩;have:=a p c;unfold Gi at this;simp only[Bool.or_eq_true,decide_eq_true_eq,not_or]at this;omega
def Zn(js:List JS)(u v:Int):Prop:=∀j∈js,j.x.2<=u\/v<=j.x.1
def Zc(a hi:Int)(js:List JS)(n:Int):Prop:=
 0<=n/\(∀u v,a<=u->v<=hi->u<=v->Zn js u v->v-u<=n)/\(n=0\/∃u v,a<=u/\v<=hi/\u<=v/\Zn js u v/\n=v-u)
def Zn.sub{js ks u v}(h:Zn js u v)(c:∀j∈ks,∃i∈js,i.x=j.x):Zn ks u v:=fun j b=>by
 obtain⟨i,a,e⟩:=c j b;rw[<-e];exact h i a
def Zc.perm{c hi n js ks}(h:Zc c hi js n)(b:js.Perm ks):Zc c hi ks n:=by have e:∀u v,Zn js u v ↔ Zn ks u v:=fun u v=>⟨fun h j a=>h j (b.mem_iff.2 a),fun h j a=>h j (b.mem_iff.1 a)⟩;unfold Zc at *;simp only[e]at h;exact h
def Zc.le{a hi n js}(h:Zc a hi js n)(f:a<=hi):n<=hi-a:=by rcases h.2.2 with h|⟨u,v,b,c,d,_,e⟩<;>omega
def Zc.nil{a hi n}(h:Zc a hi [] n)(b:a<=hi):n=hi-a:=by have d:=h.le b;have e:=h.2.1 a hi (Int.le_refl _) (Int.le_refl _) b (fun j c=>by cases c);omega
def Zc.two{o c hi n x y js}(h:Zc o hi js n)(k:Zc o c js x)(l:Zc c hi js y):n<=x+y:=by
 have s:=k.1;have t:=l.1;rcases h.2.2 with e|⟨u,v,g,i,m,d,r⟩
 ·omega
 ·by_cases a:v<=c
  ·have:=k.2.1 u v g a m d;omega
  ·by_cases b:c<=u
   ·have:=l.2.1 u v b i m d;omega
   ·have p:=k.2.1 u c g (Int.le_refl _) oM (fun j f=>by have:=d j f;omega);have q:=l.2.1 c v (Int.le_refl _) i oM (fun j f=>by have:=d j f;omega);omega
def Zc.uniq{c hi n m js}(h:Zc c hi js n)(k:Zc c hi js m):n=m:=by
 have key:∀{a b:Int},Zc c hi js a->Zc c hi js b->a<=b:=fun {a b} o d=>by
  rcases o.2.2 with e|⟨u,v,f,g,i,j,l⟩
  ·rw[e];exact d.1
  ·rw[l];exact d.2.1 u v f g i j
 exact Int.le_antisymm (key h k) (key k h)
def qj(p hi:Int)(js:List JS):Int×Int:=js.foldl (fun o j=>if p<j.x.2/\j.x.1<o.1 then j.x else o) (hi,hi)
def rM p hi js j:qj p hi (js++[j])=if p<j.x.2/\j.x.1<(qj p hi js).1 then j.x else qj p hi js:=by unfold qj;rw[List.foldl_append];rfl
def Zx{p hi}:∀{js},(qj p hi js=(hi,hi)/\∀j∈js,¬(p<j.x.2/\j.x.1<hi)) \/ ∃j∈js,qj p hi js=j.x/\p<j.x.2/\j.x.1<hi/\∀k∈js,p<k.x.2->k.x.1<hi->j.x.1<=k.x.1:=by
 intro js;have key:∀ks:List JS,(∀k∈ks,k∈js)->(qj p hi ks=(hi,hi)/\∀j∈ks,¬(p<j.x.2/\j.x.1<hi)) \/
   ∃j∈ks,qj p hi ks=j.x/\p<j.x.2/\j.x.1<hi/\∀k∈ks,p<k.x.2->k.x.1<hi->j.x.1<=k.x.1:=by
  intro g;obtain⟨rs,rfl⟩:∃rs:List JS,g=rs.reverse:=⟨g.reverse,by simp⟩;induction rs with
  | nil=>intro _;exact .inl ⟨rfl,fun j i=>by simp at i⟩
  | cons a rs r =>
   rw[List.reverse_cons];generalize rs.reverse=ks at *
   intro q;rw[rM];rcases r (fun k b=>q k (by simp[b]))with ⟨e,h⟩|⟨j,i,e,n,o,l⟩
   ·rw[e];by_cases c:p<a.x.2/\a.x.1<hi
    ·rw[if_pos c];refine .inr ⟨a,by simp,rfl,c.1,c.2,fun k b d f=>?_⟩;rcases List.mem_append.1 b with b|b
     ·exact absurd ⟨d,f⟩ (h k b)
     ·rw[List.mem_singleton.1 b];exact Int.le_refl _
    ·rw[if_neg c];refine .inl ⟨rfl,fun k b=>?_⟩;rcases List.mem_append.1 b with b|b
     ·exact h k b
     ·rw[List.mem_singleton.1 b];exact c
   ·rw[e];by_cases c:p<a.x.2/\a.x.1<j.x.1
    ·rw[if_pos c];refine .inr ⟨a,by simp,rfl,c.1,by omega,fun k b d f=>?_⟩;rcases List.mem_append.1 b with b|b
     ·have:=l k b d f;omega
     ·rw[List.mem_singleton.1 b];exact Int.le_refl _
    ·rw[if_neg c];refine .inr ⟨j,by simp[i],rfl,n,o,fun k b d f=>?_⟩;rcases List.mem_append.1 b with b|b
     ·exact l k b d f
     ·have m:=List.mem_singleton.1 b;subst m;omega
 exact key js (fun _ h=>h)
def Ri(b hi:Int)(js:List JS)(p a:Int):Prop:=
 b<=p/\0<=a/\(∀u v,b<=u->v<=hi->u<=v->Zn js u v->v-u<=a\/p<=u)/\(a=0\/∃u v,b<=u/\v<=hi/\u<=v/\Zn js u v/\a=v-u)
def Ri.start a hi js:Ri a hi js a 0:=⟨Int.le_refl _,Int.le_refl _,fun u v b _ _ _=>.inr b,.inl rfl⟩
def Ri.clear{i hi p c js}(h:Ri i hi js p c)(s:p<hi)(d:(qj p hi js).1<=hi):max c ((qj p hi js).1-p)=0\/∃u v,i<=u/\v<=hi/\u<=v/\Zn js u v/\max c ((qj p hi js).1-p)=v-u:=by
 by_cases m:(qj p hi js).1-p<=c
 ·rw[Int.max_eq_left m];exact h.2.2.2
 ·rw[Int.max_eq_right oM];have q:=h.2.1;refine .inr ⟨p,(qj p hi js).1,h.1,d,by omega,fun k f=>?_,rfl⟩;rcases Zx (p:=p) (hi:=hi) (js:=js)with ⟨e,g⟩|⟨j,r,e,n,o,l⟩
  ·have:=g k f;rw[e];dsimp only;omega
  ·rw[e];by_cases a:p<k.x.2
   ·by_cases b:k.x.1<hi
    ·exact .inr (l k f a b)
    ·exact .inr oM
   ·exact .inl oM
def Nw{p hi js}:(qj p hi js).1<=hi:=by
 rcases Zx (p:=p) (hi:=hi) (js:=js)with ⟨e,g⟩|⟨j,d,e,a,b,c⟩
 ·rw[e];exact Int.le_refl _
 ·rw[e];omega
def Ri.step{i hi p a js}(h:Ri i hi js p a)(n:p<hi)(f:(qj p hi js).1<hi):Ri i hi js (qj p hi js).2 (max a ((qj p hi js).1-p))/\p<(qj p hi js).2:=by
 have d:=h.clear n Nw;obtain⟨x,y,l,z⟩:=h;rcases Zx (p:=p) (hi:=hi) (js:=js)with ⟨e,g⟩|⟨j,m,e,k,s,t⟩
 ·rw[e]at f;exact absurd f dO
 ·rw[e]at d ⊢;refine⟨⟨by omega,by omega,fun u v o hv c b=>?_,d⟩,k⟩;rcases l u v o hv c b with q|q
  ·exact .inl oM
  ·rcases b j m with r|r
   ·exact .inr r
   ·exact .inl oM
def Ri.last{d hi p a js}(h:Ri d hi js p a)(i:p<hi)(n:hi<=(qj p hi js).1):Zc d hi js (max a ((qj p hi js).1-p)):=by have f:=h.clear i Nw;obtain⟨k,l,e,m⟩:=h;have g:=Nw (p:=p) (hi:=hi) (js:=js);refine⟨by omega,fun u v j hv c b=>?_,f⟩;rcases e u v j hv c b with q|q<;>omega
def Ri.done{d hi p a js}(h:Ri d hi js p a)(k:hi<=p):Zc d hi js a:=by obtain⟨j,e,f,g⟩:=h;refine⟨e,fun u v i hv c b=>?_,g⟩;rcases f u v i hv c b with q|q<;>omega
def VQ{xs a:List Int}(c:xs.length=a.length)(h:∀j,j<xs.length->xs[j]?=a[j]?):xs=a:=by
 apply List.ext_getElem?;intro i;by_cases b:i<xs.length
 ·exact h i b
 ·rw[List.getElem?_eq_none oM,List.getElem?_eq_none oM]
def ky w va vb xs s(u:Ud w va xs)(v:Ud w vb s):Calls Tryz.prog 26 #[va,vb] w fun e w'=>e=.returned (N (decide (xs=s)))/\Ba w w':=by
 obtain⟨a,c,rfl⟩:=u.form;obtain⟨a',c',rfl⟩:=v.form;obtain⟨n,hn⟩:=gX xs.length;obtain⟨m,hm⟩:=gX s.length;have l:=u.le;rw[hn]at u l ⊢;rw[hm]at v ⊢;unfold maxLen at l;have ae:n<=9223372036854775807:=oM;have f:=za hn;have L:=za hm;obtain⟨r,hr⟩:=gX (decide (xs=s));rw[hr];have Hr:=za hr;have Ha:=za u;have Hb:=za v;clear hn hm l u v hr;by_cases K:n=m;rotate_left 1
 ·have e:r=false:=by
   rw[<-Hr.o,decide_eq_false_iff_not];intro h;apply K;rw[<-f.o,<-L.o,h]
  subst e;have h1:¬(n:Int)=(m:Int):=oM;have h2:((n:Int) != (m:Int))=true:=by simpa using h1
  go_in;go_wp2;go_ret;exact⟨rfl,eA⟩
 subst K;go_in;go_wp2;go_loopg [5] n (GA w xs s)
 case atStart=>exact⟨0,by omega,rfl,by rw[f.o];rfl,eR _,fun j R=>by omega⟩
 case round =>
  obtain⟨i,hi,rfl,rfl,W,k⟩:=hrel;rw[f.o]at hi;have g:=za k;have Hx:=za W;clear k;by_cases z:i<n
  ·obtain⟨x,hq⟩:∃q,xs[i]?=I q:=⟨xs[i]'(by rw[f.o];omega),by simp[f.o,z]⟩;obtain⟨y,p⟩:∃q,s[i]?=I q:=⟨s[i]'(by rw[L.o];omega),by simp[L.o,z]⟩;obtain⟨b,o,rfl,v,d0⟩:=(Ha.o.f W).at' hq;obtain⟨b',o',rfl,ad,ac⟩:=(Hb.o.f W).at' p;have Hq:=za hq;have t:=za p;have p1:(0:Int)<=(i:Int):=oM;have p2:(i:Int)<(n:Int):=oM;clear hq p;by_cases d:x=y
   ·have aa:=za d;(have h3:(x != y)=false:=by simp[d]);clear d;go_wp2;go_quiet (fail);go_wp2;go_roundg (n-(i+1))
    case measure=>have:=f.o;omega
    case rel =>
     refine⟨i+1,by have:=f.o;omega,by go_num,by rw[f.o],eA,fun j R=>?_⟩;by_cases ab:j=i
     ·subst ab;rw[Hq.o,t.o,aa.o]
     ·exact g.o j oM
   ·(have h3:(x != y)=true:=by simpa using d);have e:r=false:=by
     rw[<-Hr.o,decide_eq_false_iff_not];intro h;have:=Hq.o;rw[h,t.o]at this;cases this;exact d rfl
    subst e;go_wp2;go_quiet (fail);go_wp2;go_ret;exact⟨rfl,eA⟩
  ·obtain rfl:n=i:=oM;have e:r=true:=by
    rw[<-Hr.o,decide_eq_true_eq];exact VQ (by rw[f.o,L.o]) (fun j R=>g.o j (by rw[f.o]at R;exact R))
   subst e;go_wp2;go_ret;exact⟨rfl,W⟩
end
section
open Go.ChangeShapes Go.WideShapes Go.Deep
def Um(P:Program)(t:TypeId):Array Field:=match P.underlying t with|some (.struct fs)=>fs|_=>#[]
section
variable {H:Type} {enc:TypeId×Value->H} {w:World} {spare:Nat->Bool} {held:Bool}
def tj{P}{a:Array Field}{n i ti oi ki:Nat}{cs:List Value}{xs:List (DataW H×List MemPlace)}(d:xs.length=a.size)(b:∀(i:Nat)(f:Field),a[i]?=some f->DataW.trod enc P w 0 spare held n f.type ((cs.drop f.offset).take (P.cellsOf f.type))=xs[i]?)(hi:a[i]?.map (fun f=>(f.type,f.offset,P.cellsOf f.type))=some (ti,oi,ki)):∃y,DataW.trod enc P w 0 spare held n ti ((cs.drop oi).take ki)=some y:=by
 cases h:a[i]? with
 | none=>rw[h]at hi;cases hi
 | some f =>
  rw[h]at hi;simp only[Option.map_some,Option.some.injEq,Prod.mk.injEq]at hi;obtain⟨rfl,rfl,rfl⟩:=hi;have c:i<xs.length:=by rw[d];exact(Array.getElem?_eq_some_iff.1 h).1
  exact⟨xs[i],by rw[b i f h];simp[c]⟩
def Dm:Tryz.prog.underlying 3=some (.int .i64):=kM
def UB:Tryz.prog.underlying 5=some (.int .u8):=kM
def fJ:Tryz.prog.underlying 9=some .string:=kM
def NH:Tryz.prog.underlying 74=some (.struct (Um Tryz.prog 74)):=kM
def MH:Tryz.prog.underlying 76=some (.struct (Um Tryz.prog 76)):=kM
def OH:Tryz.prog.underlying 78=some (.struct (Um Tryz.prog 78)):=kM
def SB:Tryz.prog.underlying 25=some (.struct (Um Tryz.prog 25)):=kM
def gJ:Tryz.prog.underlying 22=some (.slice 74):=kM
def iJ:Tryz.prog.underlying 23=some (.slice 78):=kM
def Rz{n cs y}(h:DataW.trod enc Tryz.prog w 0 spare held n 74 cs=some y):∃p:Int×Int,cs=[.int .i64 p.1,.int .i64 p.2]:=by
 obtain⟨o,m,_,_,f,g,e⟩:=DataW.trod_struct NH h;have l:Tryz.prog.cellsOf 74=2:=kM;rw[l]at f;obtain⟨q,j⟩:=tj g e (i:=0) (ti:=3) (oi:=0) (ki:=1) kM;obtain⟨r,k⟩:=tj g e (i:=1) (ti:=3) (oi:=1) (ki:=1) kM
 match cs,f with
 | [a,b],_ =>
  obtain⟨x,c,_⟩:=DataW.trod_int Dm j;obtain⟨z,d,_⟩:=DataW.trod_int Dm k;simp at c d;subst c d;exact⟨(x,z),rfl⟩
def Yw{α:Type}{Q:List Value->α->Prop}:∀{css:List (List Value)},(∀d∈css,∃a,Q d a)->∃l:List α,css.length=l.length/\∀(i:Nat) d a,css[i]?=some d->l[i]?=some a->Q d a
 | [],_=>⟨[],rfl,fun i d a h=>by simp at h⟩
 | c::css,h=>by
  obtain⟨a,j⟩:=h c sM;obtain⟨l,k,f⟩:=Yw (css:=css) (fun d e=>h d (mC _ e));refine⟨a::l,by simp[k],fun i d b e g=>?_⟩;cases i with
  | zero=>simp at e g;subst e g;exact j
  | succ i=>exact f i d b (by simpa using e) (by simpa using g)
def OG{n v y}(h:DataW.trod enc Tryz.prog w 0 spare held n 22 [v]=some y):∃ps,Ab w v ps:=by
 obtain⟨a,m,c,T,g,e,l,j,r,i⟩:=jG gJ (k:=2) kM oM h;cases e;obtain⟨ps,b,q⟩:=Yw (α:=Int×Int) (Q:=PP w) (fun d h=>by
  obtain⟨f,y,s⟩:=i d h;obtain⟨p,o⟩:=Rz s;exact⟨p,o⟩)
 exact⟨ps,T,g,b,j,by rw[<-b,l];exact r,q⟩
def FT{n cs y}(h:DataW.trod enc Tryz.prog w 0 spare held n 78 cs=some y):∃p,FA w cs p:=by
 obtain⟨xs,m,_,_,v,f,e⟩:=DataW.trod_struct OH h;have hc:Tryz.prog.cellsOf 78=10:=kM;rw[hc]at v;obtain⟨y0,h0⟩:=tj f e (i:=0) (ti:=76) (oi:=0) (ki:=6) kM;obtain⟨y1,h1⟩:=tj f e (i:=1) (ti:=3) (oi:=6) (ki:=1) kM;obtain⟨y2,h2⟩:=tj f e (i:=2) (ti:=74) (oi:=7) (ki:=2) kM;obtain⟨y3,h3⟩:=tj f e (i:=3) (ti:=5) (oi:=9) (ki:=1) kM
 match cs,v with
 | [a0,a1,a2,a3,a4,a5,a6,a7,a8,a9],_ =>
  obtain⟨zs,k,_,_,_,d,c⟩:=DataW.trod_struct MH h0;obtain⟨z0,R⟩:=tj d c (i:=0) (ti:=9) (oi:=0) (ki:=1) kM;obtain⟨z1,W⟩:=tj d c (i:=1) (ti:=22) (oi:=1) (ki:=1) kM;obtain⟨z2,g2⟩:=tj d c (i:=2) (ti:=3) (oi:=2) (ki:=1) kM;obtain⟨z3,g3⟩:=tj d c (i:=3) (ti:=3) (oi:=3) (ki:=1) kM;obtain⟨z4,g4⟩:=tj d c (i:=4) (ti:=74) (oi:=4) (ki:=2) kM;obtain⟨nm,j,_⟩:=DataW.trod_string fJ R;obtain⟨sh,g⟩:=OG W;obtain⟨K,l,_⟩:=DataW.trod_int Dm g2;obtain⟨L,o,_⟩:=DataW.trod_int Dm g3;obtain⟨u,q⟩:=Rz g4;obtain⟨wy,r,_⟩:=DataW.trod_int Dm h1;obtain⟨b,s⟩:=Rz h2;obtain⟨x,t,_,a⟩:=DataW.trod_int UB h3;simp at j l o q r s t;obtain⟨rfl,rfl⟩:=q;obtain⟨rfl,rfl⟩:=s;subst j l o r t;refine⟨⟨nm,sh,K,L,u.1,u.2,wy,b.1,b.2,x⟩,_,rfl,g,?_⟩;have z:decide (IntKind.u8.min<=x)=true:=by unfold Lit.wf at a;simp only[Bool.and_eq_true]at a;exact a.1
  have w8:IntKind.u8.min=0:=dM;rw[w8]at z;exact of_decide_eq_true z
def DT{n v y}(h:DataW.trod enc Tryz.prog w 0 spare held n 23 [v]=some y):∃ps,Cf w v ps:=by
 obtain⟨a,m,c,T,g,e,l,j,p,i⟩:=jG iJ (k:=10) kM oM h;cases e;obtain⟨ps,b,o⟩:=Yw (α:=Pl) (Q:=FA w) (fun d h=>by
  obtain⟨f,y,q⟩:=i d h;exact FT q)
 exact⟨ps,T,g,b,j,by rw[<-b,l];exact p,o⟩
def pT{r n v d p}(hv:Value.okWide Tryz.prog w r n 25 v)(h:DataW.Trod enc Tryz.prog w 0 spare held 25 v d p):∃vg vp g ps,v = .agg #[vg,vp]/\Ab w vg g/\Cf w vp ps:=by
 obtain⟨j,rfl,c⟩:=okWide_struct SB hv;have u:Tryz.prog.cellsOf 25=2:=kM;rw[u]at c;obtain⟨e,f,rfl⟩:∃a b,j=#[a,b]:=by
  match j,c with
  | ⟨[a,b]⟩,_=>exact⟨a,b,rfl⟩
 obtain⟨fuel,x⟩:=h;obtain⟨z,m,_,_,y,l,k⟩:=DataW.trod_struct SB x;obtain⟨K,o⟩:=tj l k (i:=0) (ti:=22) (oi:=0) (ki:=1) kM;obtain⟨L,q⟩:=tj l k (i:=1) (ti:=23) (oi:=1) (ki:=1) kM;obtain⟨g,s⟩:=OG (v:=e) o;obtain⟨ps,t⟩:=DT (v:=f) q;exact⟨e,f,g,ps,rfl,s,t⟩
