import Derived.Test.YtgimcmpeceifnaaGreatDoorColA10
set_option maxRecDepth 1000000
set_option maxHeartbeats 16000000
set_option linter.all false
open Go.Value renaming int->O,slice->V,pointer->J,bool->N,agg->C
open Go.IntKind renaming i64->Y
open Go renaming Value->Z,World->X
open Option renaming some->I,none->M
namespace Go.Proofs.YtgimcmpeceifnaaGreatDoor.Cop
section
open Go.RowKit Go.Shelf Go.Sort Go.Lib
structure Ru where
 skin:Int
 pin:Int
 wide:Int
 lap:Int
 step:Int
 run:Int
 level:Int
def xg(r:Ru):Array Z:=#[O .u8 r.skin,O Y r.pin,O Y r.wide,O Y r.lap,O Y r.step,O Y r.run,O Y r.level]
def Rg(n:Int):Bool:=decide (n<0) || decide (10000<n)
def Lb(r:Ru):Int:=if (r.skin != 1&&r.skin != 2)=true then 2 else if r.pin<0 then 2 else if 50<r.pin then 2 else if [r.wide,r.lap,r.step,r.run,r.level].any Rg=true then 2 else 0
def uD(w:X)(z:Int):Calls Tryz.prog 36 #[O Y z] w fun e a=>e=.returned (N (Rg z))/\Ba w a:=by
 unfold Rg;by_cases h:z<0
 ·go_in;go_wp2;go_ret;exact⟨by simp[h],eA⟩
 ·go_in;go_wp2;go_ret;exact⟨by simp;omega,eA⟩
def NO(w:X)(v:Z)(zs:List Int)(h:Ae w v zs):Calls Tryz.prog 74 #[v,.func (.func 36) #[] #[]] w fun e w'=>e=.returned (O Y (Lc Rg zs))/\Ba w w':=by
 obtain⟨a,c,rfl⟩:=h.form;obtain⟨n,t⟩:=gX zs.length;rw[t]at h ⊢;have k:=h.le;unfold maxLen at k;have aa:n<=9223372036854775807:=oM;have f:=Aa t;clear t k;go_in;go_wp2;go_loopg [8] n (UG w Rg zs)
 case atStart=>exact⟨0,by omega,rfl,by rw[f.o];rfl,eR _,fun j y p=>by omega⟩
 case round =>
  obtain⟨i,hi,rfl,rfl,R,g⟩:=hrel;rw[f.o]at hi;have d:=Aa g;clear g;by_cases s:i<n
  ·obtain⟨z,u⟩:∃q,zs[i]?=I q:=⟨zs[i]'(by rw[f.o];omega),by simp[f.o,s]⟩;obtain⟨b,o,rfl,hb,d0⟩:=(h.f R).at' u;have K:=Aa u;obtain⟨W,L⟩:=gX (Rg z);have m:=Aa L;clear u L;cases W with
   |true=>
    have e:Lc Rg zs=(i:Int):=Wo K.o m.o d.o;have E:=Aa e;clear e;go_wp2_with(((go_at_call 36;(with_reducible refine(uD _ z).mono ?_);rw[m.o];rintro e w1 ⟨rfl,x⟩)));go_ret;exact⟨by rw[E.o];rfl,eA⟩
   |false=>
    go_wp2_with(((go_at_call 36;(with_reducible refine(uD _ z).mono ?_);rw[m.o];rintro e w1 ⟨rfl,x⟩)));go_roundg (n-(i+1))
    case measure=>have:=f.o;omega
    case rel =>
     refine⟨i+1,by have:=f.o;omega,by go_num,by rw[f.o],eA,fun j y p l=>?_⟩;by_cases r:j=i
     ·subst r;rw[K.o]at l;cases l;exact m.o
     ·exact d.o j y oM l
  ·obtain rfl:i=n:=oM;have e:Lc Rg zs = -1:=So (fun j y p l=>d.o j y (by rw[f.o]at p;exact p) l);have E:=Aa e;clear e;go_wp2;go_ret;exact⟨by rw[E.o];rfl,R⟩
def Iv(w:X)(v:Z)(zs:List Int)(h:Ae w v zs):Calls Tryz.prog 37 #[v,.func (.func 36) #[] #[]] w fun e j=>e=.returned (N (zs.any Rg))/\Ba w j:=by rw[<-Np];obtain⟨x,d⟩:=gX (Lc Rg zs);have b:=fun W (g:Ba w W)=>NO W v zs (h.f g);obtain⟨a,n,c,rfl⟩:=Ma h;simp only[d]at b ⊢;have f:=Aa b;clear b d h;go_in;go_wp2_with(((go_at_call 74;refine cM (f.o _ eA) ?_;rintro e k ⟨rfl,i⟩)));go_ret;exact⟨rfl,eA⟩
def Wr(W:X){k:Nat}(b:k=W.heap.size)(x y z u v:Int):Ae (W.alloc (.cells #[O Y x,O Y y,O Y z,O Y u,O Y v] 3)) (V (I ⟨k,0,M⟩) 5 5) [x,y,z,u,v]:=by
 subst b;refine⟨[[O Y x],[O Y y],[O Y z],[O Y u],[O Y v]],rfl,by simp,⟨by simp,I ⟨W.heap.size,0,M⟩,5,rfl,nE _,by unfold maxLen;omega,.inr ⟨W.heap.size,0,_,(0,0),rfl,aN _ _,?_⟩⟩,?_⟩
 ·intro i v hv;simpa using hv
 ·intro i c v a hv
  match i,a,hv with
  | 0,a,hv=>simp at a hv;subst a hv;rfl
  | 1,a,hv=>simp at a hv;subst a hv;rfl
  | 2,a,hv=>simp at a hv;subst a hv;rfl
  | 3,a,hv=>simp at a hv;subst a hv;rfl
  | 4,a,hv=>simp at a hv;subst a hv;rfl
  | i+5,a,hv=>simp at a
def PO(w:X)(r:Ru)(h:(r.skin != 1&&r.skin != 2)=true):Calls Tryz.prog 10 #[C (xg r)] w fun e k=>e=.returned (O Y (Lb r))/\Ba w k:=by
 have e:Lb r=2:=by unfold Lb;rw[if_pos h]
 rw[e];clear e;obtain⟨b,i,c,g,step,j,a⟩:=r;unfold xg;dsimp only at h ⊢;rw[Bool.and_eq_true]at h;obtain⟨d,f⟩:=h;have l:(b==1)=false:=by simpa using d
 have m:(b==2)=false:=by simpa using f
 go_in;go_wp2;go_ret;exact⟨rfl,eA⟩
def oS(w:X)(g c d step f a:Int):Calls Tryz.prog 10 #[C #[O .u8 1,O Y g,O Y c,O Y d,O Y step,O Y f,O Y a]] w fun e p=>e=.returned (O Y (Lb ⟨1,g,c,d,step,f,a⟩))/\Ba w p:=by
 obtain⟨x,i⟩:=gX (Lb ⟨1,g,c,d,step,f,a⟩);rw[i];have j:Lb ⟨1,g,c,d,step,f,a⟩=if g<0 then 2 else if 50<g then 2 else if [c,d,step,f,a].any Rg=true then 2 else 0:=rfl;by_cases k:g<0
 ·rw[j,if_pos k]at i;subst i;clear j;go_in;go_wp2;go_ret;exact⟨rfl,eA⟩
 by_cases o:50<g
 ·rw[j,if_neg k,if_pos o]at i;subst i;clear j;go_in;go_wp2;go_ret;exact⟨rfl,eA⟩
 rw[j,if_neg k,if_neg o]at i;clear j;obtain⟨b,l⟩:=gX ([c,d,step,f,a].any Rg);rw[l]at i;have n:=Aa l;clear l;cases b with
 |true=>
  rw[if_pos rfl]at i;subst i;go_in;go_wp2_with(go_at_call 37;(with_reducible refine(Iv _ (V (I ⟨w.heap.size+1,0,M⟩) 5 5) [c,d,step,f,a] (Wr _ sM c d step f a)).mono ?_);rw[n.o];rintro e q ⟨rfl,m⟩);go_ret;exact⟨rfl,eA⟩
 |false=>
  rw[if_neg dM]at i;subst i;go_in;go_wp2_with(go_at_call 37;(with_reducible refine(Iv _ (V (I ⟨w.heap.size+1,0,M⟩) 5 5) [c,d,step,f,a] (Wr _ sM c d step f a)).mono ?_);rw[n.o];rintro e q ⟨rfl,m⟩);go_ret;exact⟨rfl,eA⟩
def AQ(w:X)(g c d step f a:Int):Calls Tryz.prog 10 #[C #[O .u8 2,O Y g,O Y c,O Y d,O Y step,O Y f,O Y a]] w fun e p=>e=.returned (O Y (Lb ⟨2,g,c,d,step,f,a⟩))/\Ba w p:=by
 obtain⟨x,i⟩:=gX (Lb ⟨2,g,c,d,step,f,a⟩);rw[i];have j:Lb ⟨2,g,c,d,step,f,a⟩=if g<0 then 2 else if 50<g then 2 else if [c,d,step,f,a].any Rg=true then 2 else 0:=rfl;by_cases k:g<0
 ·rw[j,if_pos k]at i;subst i;clear j;go_in;go_wp2;go_ret;exact⟨rfl,eA⟩
 by_cases o:50<g
 ·rw[j,if_neg k,if_pos o]at i;subst i;clear j;go_in;go_wp2;go_ret;exact⟨rfl,eA⟩
 rw[j,if_neg k,if_neg o]at i;clear j;obtain⟨b,l⟩:=gX ([c,d,step,f,a].any Rg);rw[l]at i;have n:=Aa l;clear l;cases b with
 |true=>
  rw[if_pos rfl]at i;subst i;go_in;go_wp2_with(go_at_call 37;(with_reducible refine(Iv _ (V (I ⟨w.heap.size+1,0,M⟩) 5 5) [c,d,step,f,a] (Wr _ sM c d step f a)).mono ?_);rw[n.o];rintro e q ⟨rfl,m⟩);go_ret;exact⟨rfl,eA⟩
 |false=>
  rw[if_neg dM]at i;subst i;go_in;go_wp2_with(go_at_call 37;(with_reducible refine(Iv _ (V (I ⟨w.heap.size+1,0,M⟩) 5 5) [c,d,step,f,a] (Wr _ sM c d step f a)).mono ?_);rw[n.o];rintro e q ⟨rfl,m⟩);go_ret;exact⟨rfl,eA⟩
def Ly(w:X)(r:Ru):Calls Tryz.prog 10 #[C (xg r)] w fun e k=>e=.returned (O Y (Lb r))/\Ba w k:=by
 by_cases h:(r.skin != 1&&r.skin != 2)=true
 ·exact PO w r h
 ·obtain⟨j,d,b,c,step,f,a⟩:=r;rw[Bool.and_eq_true]at h;by_cases g:j=1
  ·subst g;exact oS w d b c step f a
  ·by_cases i:j=2
   ·subst i;exact AQ w d b c step f a
   ·exact absurd (by dsimp only;simp[g,i]) h
def Ba.belowB{w W:X}{base:Nat}(h:Ba w W)(a:base<=w.heap.size):Below base w W:=Below.mono h a
structure Jt where
 a:Int
 b:Int
 left:Int
 right:Int
 fr:Int
 til:Int
def ij(j:Jt):Array Z:=#[O Y j.a,O Y j.b,O Y j.left,O Y j.right,O Y j.fr,O Y j.til]
def Sg(j:Jt):List Z:=(ij j).toList
def Ri(j:Jt):Prop:=Bd 1000000 j.a/\Bd 1000000 j.b/\Bd 1000000 j.left/\Bd 1000000 j.right/\Bd 1000000 j.fr/\Bd 1000000 j.til
def Rk(step a b:Int):Bool:=decide (max (a-b) (b-a)<=step)
def Hh(r:Ru)(j k:Jt):Bool:=decide (j.fr<k.fr)&&(Rk r.step k.fr j.til&&decide (max 0 (max (k.left-j.right) (j.left-k.right))<r.lap))
def DL(w:X)(l g d f step i c:Int)(a b:Int)(j:Bd 1000000 a)(k:Bd 1000000 b):Calls Tryz.prog 104 #[C #[O .u8 l,O Y g,O Y d,O Y f,O Y step,O Y i,O Y c],O Y a,O Y b] w fun e m=>e=.returned (N (Rk step a b))/\Ba w m:=by unfold Rk;unfold Bd at j k;have n:-9223372036854775808<=a-b:=oM;have o:a-b<=9223372036854775807:=oM;have p:-9223372036854775808<=b-a:=oM;have q:b-a<=9223372036854775807:=oM;clear j k;go_in;go_wp2;go_ret;exact⟨rfl,eA⟩
def kT(w:X)(sk n g m step o c:Int)(a b l r f t a' b' R r' i t':Int)(hj:Ri ⟨a,b,l,r,f,t⟩)(hk:Ri ⟨a',b',R,r',i,t'⟩):Calls Tryz.prog 82 #[C #[O .u8 sk,O Y n,O Y g,O Y m,O Y step,O Y o,O Y c],C #[O Y a,O Y b,O Y l,O Y r,O Y f,O Y t],C #[O Y a',O Y b',O Y R,O Y r',O Y i,O Y t']] w fun e w'=>e=.returned (N (Hh ⟨sk,n,g,m,step,o,c⟩ ⟨a,b,l,r,f,t⟩ ⟨a',b',R,r',i,t'⟩))/\Ba w w':=by
 obtain⟨q,s,d,u,v,j⟩:=hj;obtain⟨x,y,z,K,k,L⟩:=hk;dsimp only at q s d u v j x y z K k L;have HN:=Aa (fun W=>DL W sk n g m step o c i t k j);unfold Hh;dsimp only;unfold Bd at *;have d1:-9223372036854775808<=R-r:=oM;have d2:R-r<=9223372036854775807:=oM;have d3:-9223372036854775808<=l-r':=oM;have d4:l-r'<=9223372036854775807:=oM;clear q s d u v j x y z K k L;by_cases h1:f<i
 ·obtain⟨p,hp⟩:=gX (Rk step i t);rw[hp]at HN ⊢;clear hp;cases p
  ·go_in;go_wp2_with(go_at_call 104;refine cM (HN.o _) ?_;rintro e w3 ⟨rfl,d⟩);go_ret;exact⟨by simp,eA⟩
  ·go_in;go_wp2_with(go_at_call 104;refine cM (HN.o _) ?_;rintro e w3 ⟨rfl,d⟩;obtain⟨aa,ab⟩:=d.cells;(have z3:=d.size);(simp only[wZ]at z3);(have y0:w.heap.size<w3.heap.size:=oM);(have y1:w.heap.size+1<w3.heap.size:=oM);(have y2:w.heap.size+1+1<w3.heap.size:=oM))
   all_goals go_ret
   all_goals refine⟨?_,eA⟩
   all_goals(refine Uj (congrArg Value.bool ?_);show decide _=decide _;rw[decide_eq_decide];(repeat' split at *)<;>omega)
 ·go_in;go_wp2;go_ret;exact⟨by rw[show decide (f<i)=false by simp;omega];rfl,eA⟩
def iQ(w:X)(v:Z)(js:List (JS×Z))(b1:Nat)(f:JS->Bool)(h:Fe w v js)(hf:∀W,Ba w W->∀j∈js,Calls Tryz.prog 107 #[C (qh j),J (I ⟨b1,0,M⟩)] W fun e w'=>e=.returned (N (f j.1))/\Ba W w'):Calls Tryz.prog 88 #[v,.func (.func 107) #[] #[J (I ⟨b1,0,M⟩)]] w fun e w'=>e=.returned (O Y (Lc (fun j=>f j.1) js))/\Ba w w':=by
 obtain⟨a,c,rfl⟩:=h.form;obtain⟨n,hn⟩:=gX js.length;rw[hn]at h ⊢;have s:=h.le;unfold maxLen at s;have ap:n<=9223372036854775807:=oM;have m:=Aa hn;have Hf:=Aa hf;clear hn s hf;go_in;go_wp2;go_loopg [8] n (TG w f js)
 case atStart=>exact⟨0,by omega,rfl,by rw[m.o];rfl,eR _,fun j y u=>by omega⟩
 case round =>
  obtain⟨i,hi,rfl,rfl,hx,p⟩:=hrel;rw[m.o]at hi;have l:=Aa p;clear p;by_cases R:i<n
  ·obtain⟨⟨⟨⟨nm,sh,d,de,gx,gz,wy,ax,az,sk⟩,k,⟨xl,xh⟩,zl,zh⟩,v⟩,x⟩:∃q,js[i]?=I q:=⟨js[i]'(by rw[m.o];omega),by simp[m.o,R]⟩;obtain⟨b,o,rfl,hb,g⟩:=(h.f hx).at' x;have r:=Aa (fun W (hW:Ba wr W)=>Hf.o W (hx.trans hW) _ (lM x));obtain⟨fp,K⟩:=gX (f ⟨⟨nm,sh,d,de,gx,gz,wy,ax,az,sk⟩,k,⟨xl,xh⟩,zl,zh⟩);rw[K]at r;have F7:=Aa K;unfold qh at g r;dsimp only at g r;have z:=g 0 (.string nm) rfl;have ag:=g 1 v rfl;have ah:=g 2 (O Y d) rfl;have ai:=g 3 (O Y de) rfl;have aj:=g 4 (O Y gx) rfl;have ak:=g 5 (O Y gz) rfl;have al:=g 6 (O Y wy) rfl;have am:=g 7 (O Y ax) rfl;have an:=g 8 (O Y az) rfl;have ao:=g 9 (O .u8 sk) rfl;have ab:=g 10 (O Y k) rfl;have ac:=g 11 (O Y xl) rfl;have ad:=g 12 (O Y xh) rfl;have ae:=g 13 (O Y zl) rfl;have af:=g 14 (O Y zh) rfl;simp only[Nat.add_zero]at z;have Hq:=Aa x;clear x g K;cases fp with
   |true=>
    have e:Lc (fun j:JS×Z=>f j.1) js=(i:Int):=Wo Hq.o F7.o l.o;have E:=Aa e;clear e;go_wp2_with(((go_at_call 107;refine cM (r.o _ eA) ?_;rintro e w1 ⟨rfl,aa⟩)));go_ret;exact⟨by rw[E.o];rfl,eA⟩
   |false=>
    go_wp2_with(((go_at_call 107;refine cM (r.o _ eA) ?_;rintro e w1 ⟨rfl,aa⟩)));go_roundg (n-(i+1))
    case measure=>have:=m.o;omega
    case rel =>
     refine⟨i+1,by have:=m.o;omega,by go_num,by rw[m.o],eA,fun j y u t=>?_⟩;by_cases L:j=i
     ·subst L;rw[Hq.o]at t;cases t;exact F7.o
     ·exact l.o j y oM t
  ·obtain rfl:i=n:=oM;have e:Lc (fun j:JS×Z=>f j.1) js = -1:=So (fun j y u t=>l.o j y (by rw[m.o]at u;exact u) t);have E:=Aa e;clear e;go_wp2;go_ret;exact⟨by rw[E.o];rfl,hx⟩
def xP(w:X)(v:Z)(js:List (JS×Z))(b:Nat)(f:JS->Bool)(h:Fe w v js)(l:∀W,Ba w W->∀j∈js,Calls Tryz.prog 107 #[C (qh j),J (I ⟨b,0,M⟩)] W fun e i=>e=.returned (N (f j.1))/\Ba W i):Calls Tryz.prog 100 #[v,.func (.func 107) #[] #[J (I ⟨b,0,M⟩)]] w fun e i=>e=.returned (N (js.any fun j=>f j.1))/\Ba w i:=by rw[<-Np];obtain⟨x,m⟩:=gX (Lc (fun j:JS×Z=>f j.1) js);have g:=fun W (k:Ba w W)=>iQ W v js b f (h.f k) (fun W' d=>l W' (k.trans d));obtain⟨a,n,c,rfl⟩:=Ma h;simp only[m]at g ⊢;have o:=Aa g;clear g m h l;go_in;go_wp2_with(((go_at_call 88;refine cM (o.o _ eA) ?_;rintro e q ⟨rfl,p⟩)));go_ret;exact⟨rfl,eA⟩
def kQ(w:X)(v:Z)(js:List (JS×Z))(b1:Nat)(f:JS->Bool)(h:Fe w v js)(hf:∀W,Ba w W->∀j∈js,Calls Tryz.prog 101 #[C (qh j),J (I ⟨b1,0,M⟩)] W fun e w'=>e=.returned (N (f j.1))/\Ba W w'):Calls Tryz.prog 88 #[v,.func (.func 101) #[] #[J (I ⟨b1,0,M⟩)]] w fun e w'=>e=.returned (O Y (Lc (fun j=>f j.1) js))/\Ba w w':=by
 obtain⟨a,c,rfl⟩:=h.form;obtain⟨n,hn⟩:=gX js.length;rw[hn]at h ⊢;have s:=h.le;unfold maxLen at s;have ap:n<=9223372036854775807:=oM;have m:=Aa hn;have Hf:=Aa hf;clear hn s hf;go_in;go_wp2;go_loopg [8] n (TG w f js)
 case atStart=>exact⟨0,by omega,rfl,by rw[m.o];rfl,eR _,fun j y u=>by omega⟩
 case round =>
  obtain⟨i,hi,rfl,rfl,hx,p⟩:=hrel;rw[m.o]at hi;have l:=Aa p;clear p;by_cases R:i<n
  ·obtain⟨⟨⟨⟨nm,sh,d,de,gx,gz,wy,ax,az,sk⟩,k,⟨xl,xh⟩,zl,zh⟩,v⟩,x⟩:∃q,js[i]?=I q:=⟨js[i]'(by rw[m.o];omega),by simp[m.o,R]⟩;obtain⟨b,o,rfl,hb,g⟩:=(h.f hx).at' x;have r:=Aa (fun W (hW:Ba wr W)=>Hf.o W (hx.trans hW) _ (lM x));obtain⟨fp,K⟩:=gX (f ⟨⟨nm,sh,d,de,gx,gz,wy,ax,az,sk⟩,k,⟨xl,xh⟩,zl,zh⟩);rw[K]at r;have F7:=Aa K;unfold qh at g r;dsimp only at g r;have z:=g 0 (.string nm) rfl;have ag:=g 1 v rfl;have ah:=g 2 (O Y d) rfl;have ai:=g 3 (O Y de) rfl;have aj:=g 4 (O Y gx) rfl;have ak:=g 5 (O Y gz) rfl;have al:=g 6 (O Y wy) rfl;have am:=g 7 (O Y ax) rfl;have an:=g 8 (O Y az) rfl;have ao:=g 9 (O .u8 sk) rfl;have ab:=g 10 (O Y k) rfl;have ac:=g 11 (O Y xl) rfl;have ad:=g 12 (O Y xh) rfl;have ae:=g 13 (O Y zl) rfl;have af:=g 14 (O Y zh) rfl;simp only[Nat.add_zero]at z;have Hq:=Aa x;clear x g K;cases fp with
   |true=>
    have e:Lc (fun j:JS×Z=>f j.1) js=(i:Int):=Wo Hq.o F7.o l.o;have E:=Aa e;clear e;go_wp2_with(((go_at_call 101;refine cM (r.o _ eA) ?_;rintro e w1 ⟨rfl,aa⟩)));go_ret;exact⟨by rw[E.o];rfl,eA⟩
   |false=>
    go_wp2_with(((go_at_call 101;refine cM (r.o _ eA) ?_;rintro e w1 ⟨rfl,aa⟩)));go_roundg (n-(i+1))
    case measure=>have:=m.o;omega
    case rel =>
     refine⟨i+1,by have:=m.o;omega,by go_num,by rw[m.o],eA,fun j y u t=>?_⟩;by_cases L:j=i
     ·subst L;rw[Hq.o]at t;cases t;exact F7.o
     ·exact l.o j y oM t
  ·obtain rfl:i=n:=oM;have e:Lc (fun j:JS×Z=>f j.1) js = -1:=So (fun j y u t=>l.o j y (by rw[m.o]at u;exact u) t);have E:=Aa e;clear e;go_wp2;go_ret;exact⟨by rw[E.o];rfl,hx⟩
def zP(w:X)(v:Z)(js:List (JS×Z))(b:Nat)(f:JS->Bool)(h:Fe w v js)(l:∀W,Ba w W->∀j∈js,Calls Tryz.prog 101 #[C (qh j),J (I ⟨b,0,M⟩)] W fun e i=>e=.returned (N (f j.1))/\Ba W i):Calls Tryz.prog 100 #[v,.func (.func 101) #[] #[J (I ⟨b,0,M⟩)]] w fun e i=>e=.returned (N (js.any fun j=>f j.1))/\Ba w i:=by rw[<-Np];obtain⟨x,m⟩:=gX (Lc (fun j:JS×Z=>f j.1) js);have g:=fun W (k:Ba w W)=>kQ W v js b f (h.f k) (fun W' d=>l W' (k.trans d));obtain⟨a,n,c,rfl⟩:=Ma h;simp only[m]at g ⊢;have o:=Aa g;clear g m h l;go_in;go_wp2_with(((go_at_call 88;refine cM (o.o _ eA) ?_;rintro e q ⟨rfl,p⟩)));go_ret;exact⟨rfl,eA⟩
def Ih(j:Jt)(x:JS):Bool:=(x.k != j.a)&&((x.k != j.b)&&(decide (max x.z.1 j.fr<min x.z.2 j.til)&&decide (max x.x.1 j.left<min x.x.2 j.right)))
def tO(w:X)(x:JS×Z)(j:Jt)(b:Nat)(c:w.heap[b]?=I (.cells (ij j) 82 (0,0))):Calls Tryz.prog 107 #[C (qh x),J (I ⟨b,0,M⟩)] w fun e w'=>e=.returned (N (Ih j x.1))/\Ba w w':=by
 obtain⟨⟨⟨nm,sh,d,de,gx,gz,wy,ax,az,sk⟩,k,⟨xl,xh⟩,zl,zh⟩,v⟩:=x;obtain⟨m,n,L,R,o,r⟩:=j;have z1:=Ya c;have z3:b<w.heap.size+1:=oM;have c0:=Da c (i:=0) (u:=O Y m) rfl;have c1:=Da c (i:=1) (u:=O Y n) rfl;have c2:=Da c (i:=2) (u:=O Y L) rfl;have c3:=Da c (i:=3) (u:=O Y R) rfl;have c4:=Da c (i:=4) (u:=O Y o) rfl;have c5:=Da c (i:=5) (u:=O Y r) rfl;unfold Ih qh;dsimp only;by_cases f:k=m
 ·have g:(k != m)=false:=by simp[f]
  rw[g];clear f;go_in;go_wp2;go_ret;exact⟨rfl,eA⟩
 have g:(k != m)=true:=by simpa using f
 by_cases l:k=n
 ·have s:(k != n)=false:=by simp[l]
  rw[g,s];clear f l;go_in;go_wp2;go_ret;exact⟨rfl,eA⟩
 have s:(k != n)=true:=by simpa using l
 rw[g,s];obtain⟨p,z⟩:=gX (decide (max zl o<min zh r));obtain⟨q,K⟩:=gX (decide (max xl L<min xh R));rw[z,K];have HP:=Aa z;have HQ:=Aa K;clear f l z K;cases p
 ·go_in;go_wp2_with(go_at_call 53;(with_reducible refine(iz _ zl zh o r).mono ?_);rw[HP.o];rintro e W ⟨rfl,a⟩;obtain⟨t,y⟩:=a.cells);go_ret;exact⟨rfl,eA⟩
 ·go_in;go_wp2_with(first|(go_at_call 53;(with_reducible refine(iz _ zl zh o r).mono ?_);rw[HP.o];rintro e W ⟨rfl,a⟩;obtain⟨t,y⟩:=a.cells;(have z4:=a.size);(simp only[wZ]at z4);(have y0:w.heap.size<W.heap.size:=oM);(have y1:b<W.heap.size:=oM))|(go_at_call 53;(with_reducible refine(iz _ xl xh L R).mono ?_);rw[HQ.o];rintro e w5 ⟨rfl,aa⟩));go_ret;exact⟨by simp,eA⟩
def pj(r:Ru)(a c e b d:Z):Array Z:=#[O .u8 r.skin,O Y r.pin,O Y r.wide,O Y r.lap,O Y r.step,O Y r.run,O Y r.level,a,c,e,b,d]
def Td(a:List JS)(j:Jt):Bool:=a.any (Ih j)
def FR(w:X)(b:Nat)(r:Ru)(R vp m vj vr:Z)(js:List (JS×Z))(j:Jt)(k:w.heap[b]?=I (.cells (pj r R vp m vj vr) 89 (0,0)))(h:Fe w m js):Calls Tryz.prog 75 #[J (I ⟨b,0,M⟩),C (ij j)] w fun e w'=>e=.returned (N (Td (js.map Prod.fst) j))/\Ba w w':=by
 have e:Td (js.map Prod.fst) j=js.any fun x=>Ih j x.1:=by unfold Td;rw[List.any_map];rfl
 rw[e];have d:=Aa (fun W (s:Ba w W) (f:Nat) (t:W.heap[f]?=I (.cells (ij j) 82 (0,0)))=>xP W m js f (Ih j) (h.f s) (fun W' g x _=>tO W' x j f (g.e t)));obtain⟨x,p⟩:=gX ((js.any fun x=>Ih j x.1));rw[p]at d ⊢;obtain⟨a,n,c,rfl⟩:=Ma h;obtain⟨ja,jb,jl,jr,jf,jt⟩:=j;obtain⟨sk,K,q,z,step,L,l⟩:=r;have z1:=Ya k;have z3:b<w.heap.size+1:=oM;have c0:=Da k (i:=9) (u:=V a n c) rfl;unfold ij at d ⊢;dsimp only at d ⊢;clear h k p e;have v:∀(o:Fn)(first cap:Array Z)(w:X),(Instr.makeFunc o first cap).run Tryz.prog w = .ok (.func o first cap) w:=fun _ _ _ _=>rfl;go_in;go_wp2_with(go_at_call 100;refine cM (d.o _ eA _ ?_) ?_;(focus(exact aN _ _));rintro e w1 ⟨rfl,y⟩);go_ret;exact⟨rfl,eA⟩
end
section
open Go.RowKit Go.Shelf Go.Sort
def BJ(j:JS×Z):Prop:=Bd 1000000 j.1.x.1/\∃a n c,j.2=V a n c
instance:Inhabited {j // BJ j}:=⟨⟨(⟨⟨⟨#[]⟩,[],0,0,0,0,0,0,0,0⟩,0,(0,0),(0,0)⟩,V M 0 0),⟨by unfold Bd;decide,_,_,_,rfl⟩⟩⟩
def KB{k:Int}{f:Int×Int->Int}{ps:LP}(g:0<=k)(h:∀p∈ps,Bd k (f p)):Bd k (pd f ps).1/\Bd k (pd f ps).2:=by
 cases ps with
 | nil=>unfold pd Bd;simp;omega
 | cons p ps =>
  have:∀(a:LP)(o:Int×Int),(Bd k o.1/\Bd k o.2)->(∀q∈a,Bd k (f q))->Bd k (a.foldl (fun o q=>(min o.1 (f q),max o.2 (f q))) o).1/\Bd k (a.foldl (fun o q=>(min o.1 (f q),max o.2 (f q))) o).2:=by
   intro a;induction a with
   | nil=>intro o c _;exact c
   | cons q a e =>
    intro o c b;refine e _ ?_ (fun z d=>b z (mC _ d));have:=b q sM;unfold Bd at *;dsimp only;omega
  exact this ps (f p,f p) ⟨h p sM,h p sM⟩ (fun q b=>h q (mC _ b))
def EJ{ps:List Pl}{j:JS}(h:j∈Me ps):∃p∈ps,∃i,j=Ib i p:=by
 obtain⟨i,a⟩:=List.mem_iff_getElem?.1 h;unfold Me at a;rw[List.getElem?_mapIdx]at a;cases hp:ps[i]? with
 | none=>rw[hp]at a;cases a
 | some p=>rw[hp]at a;cases a;exact⟨p,lM hp,i,rfl⟩
def Tq{ps:List Pl}(a:∀p∈ps,Ia p=true){j:JS}(h:j∈Me ps):(Bd 104000 j.x.1/\Bd 104000 j.x.2)/\Bd 104000 j.z.1/\Bd 104000 j.z.2:=by obtain⟨p,d,i,rfl⟩:=EJ h;have c:=(ko (a p d)).1;exact⟨KB oM (fun q b=>(c q b).1),KB oM (fun q b=>(c q b).2)⟩
def nQ(w:X)(p:Option Addr)(c:Nat)(a:Z):Calls Tryz.prog 142 #[V p 0 c,O Y 0,O Y 0,a] w fun e b=>e=.returned (.tuple #[])/\b=w:=by
 go_in;go_wp2;refine wp_loop_rounds 1 ?_;rw[rounds_succ];go_wp2
 go_end0
 exact⟨rfl,rfl⟩
def FQ(w:X)(p:Option Addr)(c:Nat)(Rc:Int)(b:Z):Calls Tryz.prog 108 #[V p 0 c,O Y 0,O Y 0,O Y Rc,b] w fun e a=>e=.returned (.tuple #[])/\a=w:=by go_in;go_wp2;refine wp_loop_rounds 1 ?_;rw[rounds_succ];go_wp2_with(go_at_call 142;refine(nQ _ _ _ _).mono ?_;rintro e a ⟨rfl,rfl⟩);(try simp only[Exit.inBlock,Exit.then]);refine bR (results_none rfl _ _ _) rfl ?_;exact⟨rfl,rfl⟩
def ES(w:X)(p:Option Addr)(c:Nat)(b:Z):Calls Tryz.prog 76 #[V p 0 c,b] w fun e a=>e=.returned (.tuple #[])/\a=w:=by
 have d:∀W,Calls Tryz.prog 90 #[O .u64 0] W fun e a=>e=.returned (O Y (Lib.bitLen 0:Nat))/\a=W:=fun W=>Tryz.bits_Len 0 W oM oM;go_in;go_wp2_with(first|(go_at_call 90;refine(d _).mono ?_;rintro e a ⟨rfl,rfl⟩)|(go_at_call 108;refine(FQ _ _ _ _ _).mono ?_;rintro e a ⟨rfl,rfl⟩))
 go_end0
 exact⟨rfl,rfl⟩
def Ab(w:X)(v:Z)(ps:LP):Prop:=∃T,Sl T 2 PP w v ps
def Ab.f{w w':X}{v:Z}{ps:LP}(h:Ab w v ps)(k:Ba w w'):Ab w' v ps:=by obtain⟨T,h⟩:=h;exact⟨T,Sl.ext (w:=w) (w':=w') h (fun _ _ h=>h) k⟩
def Ab.form{w:X}{v:Z}{ps:LP}(h:Ab w v ps):∃a c,v=V a ps.length c:=h.elim fun _ h=>Sl.form h
def Ab.i{w:X}{v:Z}{ps:LP}(h:Ab w v ps):∃a n c,v=V a n c:=h.elim fun _ h=>Cop.Ma h
def Ab.len{w:X}{a:Option Addr}{n c:Nat}{ps:LP}(h:Ab w (V a n c) ps):n=ps.length:=h.elim fun _ h=>Sl.len h
def Ab.le{w:X}{a:Option Addr}{n c:Nat}{ps:LP}(h:Ab w (V a n c) ps):ps.length<=c/\c<=maxLen:=h.elim fun _ h=>Sl.le h
def Ab.at'{w:X}{a:Option Addr}{n c:Nat}{ps:LP}(h:Ab w (V a n c) ps){i:Nat}{p:Int×Int}(k:ps[i]?=I p):∃b o,a=I ⟨b,o,M⟩/\b<w.heap.size/\w.cell? ⟨b,o+i*2,M⟩=I (O Y p.1)/\w.cell? ⟨b,o+i*2+1,M⟩=I (O Y p.2):=by obtain⟨T,h⟩:=h;obtain⟨b,o,d,rfl,j,l,g,f⟩:=Sl.at h k;have e:d=[O Y p.1,O Y p.2]:=g;subst e;exact⟨b,o,rfl,j,f 0 _ rfl,f 1 _ rfl⟩
def qA(w:X)(c:List Z)(p:Pl):Prop:=∃v,c=(Dd p v).toList/\Ab w v p.shape/\0<=p.skin
def pf(w:X)(v:Z)(ps:List Pl):Prop:=∃T,Sl T 10 qA w v ps
def pf.f{w w':X}{v:Z}{ps:List Pl}(h:pf w v ps)(k:Ba w w'):pf w' v ps:=by obtain⟨T,h⟩:=h;exact⟨T,Sl.ext (w:=w) (w':=w') h (fun _ _ ⟨v,a,b,c⟩=>⟨v,a,b.f k,c⟩) k⟩
def pf.form{w:X}{v:Z}{ps:List Pl}(h:pf w v ps):∃a c,v=V a ps.length c:=h.elim fun _ h=>Sl.form h
def pf.i{w:X}{v:Z}{ps:List Pl}(h:pf w v ps):∃a n c,v=V a n c:=h.elim fun _ h=>Cop.Ma h
def pf.len{w:X}{a:Option Addr}{n c:Nat}{ps:List Pl}(h:pf w (V a n c) ps):n=ps.length:=h.elim fun _ h=>Sl.len h
def pf.le{w:X}{a:Option Addr}{n c:Nat}{ps:List Pl}(h:pf w (V a n c) ps):ps.length<=c/\c<=maxLen:=h.elim fun _ h=>Sl.le h
def pf.at'{w:X}{a:Option Addr}{n c:Nat}{ps:List Pl}(h:pf w (V a n c) ps){i:Nat}{p:Pl}(m:ps[i]?=I p):∃b o v,a=I ⟨b,o,M⟩/\b<w.heap.size/\Ab w v p.shape/\0<=p.skin/\∀(j:Nat) u,(Dd p v)[j]?=I u->w.cell? ⟨b,o+i*10+j,M⟩=I u:=by obtain⟨T,h⟩:=h;obtain⟨b,o,d,rfl,g,q,⟨v,rfl,e,f⟩,k⟩:=Sl.at h m;exact⟨b,o,v,rfl,g,e,f,fun j u l=>k j u (by rw[Array.getElem?_toList];exact l)⟩
def Gi(p:Pl):Bool:=decide (20<p.shape.length) || decide (40<p.name.size)
def IL(w:X)(b:ByteArray)(v:Z)(i:LP)(d k l o:Int)(h:Ab w v i):Calls Tryz.prog 33 #[C #[.string b,v,O Y d,O Y k,O Y l,O Y o]] w fun e q=>e=.returned (N (decide (20<i.length) || decide (40<b.size)))/\Ba w q:=by
 obtain⟨a,c,rfl⟩:=h.form;obtain⟨n,p⟩:=gX i.length;rw[p];obtain⟨m,j⟩:=gX b.size;by_cases f:20<n
 ·have g:(20:Int)<(n:Int):=oM;have e:(decide (20<n) || decide (40<b.size))=true:=by simp[f]
  rw[e];clear f e j;go_in;go_wp2;go_ret;exact⟨rfl,eA⟩
 ·have g:¬(20:Int)<(n:Int):=oM;have e:(decide (20<n) || decide (40<b.size))=decide (40<m):=by simp[f,j]
  rw[e];clear f e;go_in;go_wp2;go_ret;exact⟨by simp;omega,eA⟩
def Ji(g:LP)(ps:List Pl):Bool:=!ps.any Gi&&(decide (ps.length<=8)&&decide (g.length<=50))
def mV(w:X)(a b:Z)(ps:List Pl)(g:Nat)(t3:Z)(W:X):Prop:=
 ∃i:Nat,i<=ps.length/\t3=O Y (i:Nat)/\g=ps.length-i/\Ba w W/\W.heap[w.heap.size]?=I (.cells #[a,b] 25 (0,0))/\∀j y,j<i->ps[j]?=I y->Gi y=false
def zL(w:X)(vg vp:Z)(g:LP)(ps:List Pl)(hg:Ab w vg g)(x:pf w vp ps):Calls Tryz.prog 8 #[C #[vg,vp]] w fun e w'=>e=.returned (N (Ji g ps))/\Ba w w':=by
 obtain⟨ga,gc,rfl⟩:=hg.form;obtain⟨pa,pc,rfl⟩:=x.form;obtain⟨n,hn⟩:=gX ps.length;obtain⟨m,hm⟩:=gX g.length;have t:=x.le;rw[hm];rw[hn]at x t ⊢;unfold maxLen at t;have ak:n<=9223372036854775807:=oM;have a:=Aa hn;have Hm:=Aa hm;have Hp:=Aa x;obtain⟨fb,r⟩:=gX (Ji g ps);rw[r];have z:=Aa r;clear hn t hg x hm r;go_in;go_wp2;go_loopg [3] n (mV w (V ga m gc) (V pa n pc) ps)
 case atStart=>exact⟨0,by omega,rfl,by rw[a.o];rfl,eA,aN w _,fun j y R=>by omega⟩
 case round =>
  obtain⟨i,hi,rfl,rfl,hx,c,k⟩:=hrel;rw[a.o]at hi;have w0:=Da c (i:=0) (u:=V ga m gc) rfl;have w1:=Da c (i:=1) (u:=V pa n pc) rfl;have f:=Aa k;have L:=Aa hx;have aa:=Aa c;clear k;by_cases ae:i<n
  ·obtain⟨p,hq⟩:∃q,ps[i]?=I q:=⟨ps[i]'(by rw[a.o];omega),by simp[a.o,ae]⟩;obtain⟨b,o,v,rfl,hb,hv,_,l⟩:=(Hp.o.f hx).at' hq;have HL:=Aa (fun W (hW:Ba wr W)=>IL W p.name v p.shape p.depth p.density p.gx p.gz (hv.f hW));obtain⟨lb,s⟩:=gX (Gi p);rw[show (decide (20<p.shape.length) || decide (40<p.name.size))=lb from s]at HL;have K:=Aa s;obtain⟨va,vn,vc,rfl⟩:=hv.i;have ab:=l 0 (.string p.name) rfl;have af:=l 1 (V va vn vc) rfl;have ag:=l 2 (O Y p.depth) rfl;have ah:=l 3 (O Y p.density) rfl;have ai:=l 4 (O Y p.gx) rfl;have aj:=l 5 (O Y p.gz) rfl;simp only[Nat.add_zero]at ab;have Hq:=Aa hq;have p1:(0:Int)<=(i:Int):=oM;have p2:(i:Int)<(n:Int):=oM;clear l hq hv s hx c;cases lb with
   |true=>
    have e:fb=false:=by
     rw[<-z.o];unfold Ji;rw[show ps.any Gi=true from List.any_eq_true.2 ⟨p,lM Hq.o,K.o⟩];rfl
    subst e;go_wp2_with(go_at_call 33;refine cM (HL.o _ (eR _)) ?_;rintro e w1 ⟨rfl,d⟩);go_ret;exact⟨rfl,L.o.trans d⟩
   |false=>
    go_wp2_with(go_at_call 33;refine cM (HL.o _ (eR _)) ?_;rintro e w1 ⟨rfl,d⟩);go_roundg (n-(i+1))
    case measure=>have:=a.o;omega
    case rel =>
     refine⟨i+1,by have:=a.o;omega,by go_num,by rw[a.o],L.o.trans d,d.e aa.o,fun j y R hy=>?_⟩;by_cases ad:j=i
     ·subst ad;rw[Hq.o]at hy;cases hy;exact K.o
     ·exact f.o j y oM hy
  ·obtain rfl:n=i:=oM;have e:fb=(decide (n<=8)&&decide (m<=50)):=by
    rw[<-z.o];unfold Ji;rw[show ps.any Gi=false from by
     rw[List.any_eq_false];intro p x;obtain⟨j,R⟩:=List.mem_iff_getElem?.1 x;rw[f.o j p (by have:=(lS.1 R).1;rw[a.o]at this;exact this) R];decide,a.o,Hm.o]
    rfl
   subst e;by_cases h8:n<=8
   ·have ac:(n:Int)<=8:=oM;go_wp2;go_ret;exact⟨by simp[h8];try omega,L.o⟩
   ·have ac:¬(n:Int)<=8:=oM;go_wp2;go_ret;exact⟨by simp[h8],L.o⟩
def rA(w:X)(xs a:List Int)(g:Nat)(t5:Z)(W:X):Prop:=
 ∃i:Nat,i<=xs.length/\t5=O Y (i:Nat)/\g=xs.length-i/\Ba w W/\∀j,j<i->xs[j]?=a[j]?
def Pu{g:LP}{ps:List Pl}(h:Ji g ps=true):g.length<=1000/\ps.length<=8/\∀p∈ps,p.shape.length<=1000:=by unfold Ji at h;simp only[Bool.and_eq_true,Bool.not_eq_true',List.any_eq_false,decide_eq_true_eq]at h;obtain⟨a,b,d⟩:=h;refine⟨by omega,b,fun p c=>?_⟩;have:=a p c;unfold Gi at this;simp only[Bool.or_eq_true,decide_eq_true_eq,not_or]at this;omega
def Tn(js:List JS)(u v:Int):Prop:=∀j∈js,j.x.2<=u\/v<=j.x.1
def Zc(a hi:Int)(js:List JS)(n:Int):Prop:=
 0<=n/\(∀u v,a<=u->v<=hi->u<=v->Tn js u v->v-u<=n)/\(n=0\/∃u v,a<=u/\v<=hi/\u<=v/\Tn js u v/\n=v-u)
def Tn.sub{js ks:List JS}{u v:Int}(h:Tn js u v)(c:∀j∈ks,∃i∈js,i.x=j.x):Tn ks u v:=fun j b=>by
 obtain⟨i,a,e⟩:=c j b;rw[<-e];exact h i a
def Zc.perm{c hi n:Int}{js ks:List JS}(h:Zc c hi js n)(b:js.Perm ks):Zc c hi ks n:=by have e:∀u v,Tn js u v ↔ Tn ks u v:=fun u v=>⟨fun h j a=>h j (b.mem_iff.2 a),fun h j a=>h j (b.mem_iff.1 a)⟩;unfold Zc at *;simp only[e]at h;exact h
def Zc.le{a hi n:Int}{js:List JS}(h:Zc a hi js n)(f:a<=hi):n<=hi-a:=by rcases h.2.2 with h|⟨u,v,b,c,d,_,e⟩<;>omega
def Zc.nil{a hi n:Int}(h:Zc a hi [] n)(b:a<=hi):n=hi-a:=by have d:=h.le b;have e:=h.2.1 a hi (Int.le_refl _) (Int.le_refl _) b (fun j c=>by cases c);omega
def Zc.two{o c hi n x y:Int}{js:List JS}(h:Zc o hi js n)(k:Zc o c js x)(l:Zc c hi js y):n<=x+y:=by
 have s:=k.1;have t:=l.1;rcases h.2.2 with e|⟨u,v,g,i,m,d,r⟩
 ·omega
 ·by_cases a:v<=c
  ·have:=k.2.1 u v g a m d;omega
  ·by_cases b:c<=u
   ·have:=l.2.1 u v b i m d;omega
   ·have p:=k.2.1 u c g (Int.le_refl _) oM (fun j f=>by have:=d j f;omega);have q:=l.2.1 c v (Int.le_refl _) i oM (fun j f=>by have:=d j f;omega);omega
def Zc.uniq{c hi n m:Int}{js:List JS}(h:Zc c hi js n)(k:Zc c hi js m):n=m:=by
 have key:∀{a b:Int},Zc c hi js a->Zc c hi js b->a<=b:=fun {a b} o d=>by
  rcases o.2.2 with e|⟨u,v,f,g,i,j,l⟩
  ·rw[e];exact d.1
  ·rw[l];exact d.2.1 u v f g i j
 exact Int.le_antisymm (key h k) (key k h)
def rj(p hi:Int)(js:List JS):Int×Int:=js.foldl (fun o j=>if p<j.x.2/\j.x.1<o.1 then j.x else o) (hi,hi)
def IM(p hi:Int)(js:List JS)(j:JS):rj p hi (js++[j])=if p<j.x.2/\j.x.1<(rj p hi js).1 then j.x else rj p hi js:=by unfold rj;rw[List.foldl_append];rfl
def Xx{p hi:Int}:∀{js:List JS},(rj p hi js=(hi,hi)/\∀j∈js,¬(p<j.x.2/\j.x.1<hi)) \/ ∃j∈js,rj p hi js=j.x/\p<j.x.2/\j.x.1<hi/\∀k∈js,p<k.x.2->k.x.1<hi->j.x.1<=k.x.1:=by
 intro js;have key:∀ks:List JS,(∀k∈ks,k∈js)->(rj p hi ks=(hi,hi)/\∀j∈ks,¬(p<j.x.2/\j.x.1<hi)) \/
   ∃j∈ks,rj p hi ks=j.x/\p<j.x.2/\j.x.1<hi/\∀k∈ks,p<k.x.2->k.x.1<hi->j.x.1<=k.x.1:=by
  intro g;obtain⟨rs,rfl⟩:∃rs:List JS,g=rs.reverse:=⟨g.reverse,by simp⟩;induction rs with
  | nil=>intro _;exact .inl ⟨rfl,fun j i=>by simp at i⟩
  | cons a rs r =>
   rw[List.reverse_cons];generalize rs.reverse=ks at *
   intro q;rw[IM];rcases r (fun k b=>q k (by simp[b]))with ⟨e,h⟩|⟨j,i,e,n,o,l⟩
   ·rw[e];by_cases c:p<a.x.2/\a.x.1<hi
    ·rw[if_pos c];refine .inr ⟨a,by simp,rfl,c.1,c.2,fun k b d f=>?_⟩;rcases List.mem_append.1 b with b|b
     ·exact absurd ⟨d,f⟩ (h k b)
     ·rw[List.mem_singleton.1 b];exact Int.le_refl _
    ·rw[if_neg c];refine .inl ⟨rfl,fun k b=>?_⟩;rcases List.mem_append.1 b with b|b
     ·exact h k b
     ·rw[List.mem_singleton.1 b];exact c
   ·rw[e];by_cases c:p<a.x.2/\a.x.1<j.x.1
    ·rw[if_pos c];refine .inr ⟨a,by simp,rfl,c.1,by omega,fun k b d f=>?_⟩;rcases List.mem_append.1 b with b|b
     ·have:=l k b d f;omega
     ·rw[List.mem_singleton.1 b];exact Int.le_refl _
    ·rw[if_neg c];refine .inr ⟨j,by simp[i],rfl,n,o,fun k b d f=>?_⟩;rcases List.mem_append.1 b with b|b
     ·exact l k b d f
     ·have m:=List.mem_singleton.1 b;subst m;omega
 exact key js (fun _ h=>h)
def Si(b hi:Int)(js:List JS)(p a:Int):Prop:=
 b<=p/\0<=a/\(∀u v,b<=u->v<=hi->u<=v->Tn js u v->v-u<=a\/p<=u)/\(a=0\/∃u v,b<=u/\v<=hi/\u<=v/\Tn js u v/\a=v-u)
def Si.start(a hi:Int)(js:List JS):Si a hi js a 0:=⟨Int.le_refl _,Int.le_refl _,fun u v b _ _ _=>.inr b,.inl rfl⟩
def Si.clear{i hi p c:Int}{js:List JS}(h:Si i hi js p c)(s:p<hi)(d:(rj p hi js).1<=hi):max c ((rj p hi js).1-p)=0\/∃u v,i<=u/\v<=hi/\u<=v/\Tn js u v/\max c ((rj p hi js).1-p)=v-u:=by
 by_cases m:(rj p hi js).1-p<=c
 ·rw[Int.max_eq_left m];exact h.2.2.2
 ·rw[Int.max_eq_right oM];have q:=h.2.1;refine .inr ⟨p,(rj p hi js).1,h.1,d,by omega,fun k f=>?_,rfl⟩;rcases Xx (p:=p) (hi:=hi) (js:=js)with ⟨e,g⟩|⟨j,r,e,n,o,l⟩
  ·have:=g k f;rw[e];dsimp only;omega
  ·rw[e];by_cases a:p<k.x.2
   ·by_cases b:k.x.1<hi
    ·exact .inr (l k f a b)
    ·exact .inr oM
   ·exact .inl oM
def Mw{p hi:Int}{js:List JS}:(rj p hi js).1<=hi:=by
 rcases Xx (p:=p) (hi:=hi) (js:=js)with ⟨e,g⟩|⟨j,d,e,a,b,c⟩
 ·rw[e];exact Int.le_refl _
 ·rw[e];omega
def Si.step{i hi p a:Int}{js:List JS}(h:Si i hi js p a)(n:p<hi)(f:(rj p hi js).1<hi):Si i hi js (rj p hi js).2 (max a ((rj p hi js).1-p))/\p<(rj p hi js).2:=by
 have d:=h.clear n Mw;obtain⟨x,y,l,z⟩:=h;rcases Xx (p:=p) (hi:=hi) (js:=js)with ⟨e,g⟩|⟨j,m,e,k,s,t⟩
 ·rw[e]at f;exact absurd f dO
 ·rw[e]at d ⊢;refine⟨⟨by omega,by omega,fun u v o hv c b=>?_,d⟩,k⟩;rcases l u v o hv c b with q|q
  ·exact .inl oM
  ·rcases b j m with r|r
   ·exact .inr r
   ·exact .inl oM
def Si.last{d hi p a:Int}{js:List JS}(h:Si d hi js p a)(i:p<hi)(n:hi<=(rj p hi js).1):Zc d hi js (max a ((rj p hi js).1-p)):=by have f:=h.clear i Mw;obtain⟨k,l,e,m⟩:=h;have g:=Mw (p:=p) (hi:=hi) (js:=js);refine⟨by omega,fun u v j hv c b=>?_,f⟩;rcases e u v j hv c b with q|q<;>omega
def Si.done{d hi p a:Int}{js:List JS}(h:Si d hi js p a)(k:hi<=p):Zc d hi js a:=by obtain⟨j,e,f,g⟩:=h;refine⟨e,fun u v i hv c b=>?_,g⟩;rcases f u v i hv c b with q|q<;>omega
def XR{xs a:List Int}(c:xs.length=a.length)(h:∀j,j<xs.length->xs[j]?=a[j]?):xs=a:=by
 apply List.ext_getElem?;intro i;by_cases b:i<xs.length
 ·exact h i b
 ·rw[List.getElem?_eq_none oM,List.getElem?_eq_none oM]
def jE(w:X)(va vb:Z)(xs s:List Int)(u:Ae w va xs)(v:Ae w vb s):Calls Tryz.prog 26 #[va,vb] w fun e w'=>e=.returned (N (decide (xs=s)))/\Ba w w':=by
 obtain⟨a,c,rfl⟩:=u.form;obtain⟨a',c',rfl⟩:=v.form;obtain⟨n,hn⟩:=gX xs.length;obtain⟨m,hm⟩:=gX s.length;have l:=u.le;rw[hn]at u l ⊢;rw[hm]at v ⊢;unfold maxLen at l;have ae:n<=9223372036854775807:=oM;have f:=Aa hn;have L:=Aa hm;obtain⟨r,hr⟩:=gX (decide (xs=s));rw[hr];have Hr:=Aa hr;have Ha:=Aa u;have Hb:=Aa v;clear hn hm l u v hr;by_cases K:n=m;rotate_left 1
 ·have e:r=false:=by
   rw[<-Hr.o,decide_eq_false_iff_not];intro h;apply K;rw[<-f.o,<-L.o,h]
  subst e;have h1:¬(n:Int)=(m:Int):=oM;have h2:((n:Int) != (m:Int))=true:=by simpa using h1
  go_in;go_wp2;go_ret;exact⟨rfl,eA⟩
 subst K;go_in;go_wp2;go_loopg [5] n (rA w xs s)
 case atStart=>exact⟨0,by omega,rfl,by rw[f.o];rfl,eR _,fun j R=>by omega⟩
 case round =>
  obtain⟨i,hi,rfl,rfl,W,k⟩:=hrel;rw[f.o]at hi;have g:=Aa k;have Hx:=Aa W;clear k;by_cases z:i<n
  ·obtain⟨x,hq⟩:∃q,xs[i]?=I q:=⟨xs[i]'(by rw[f.o];omega),by simp[f.o,z]⟩;obtain⟨y,p⟩:∃q,s[i]?=I q:=⟨s[i]'(by rw[L.o];omega),by simp[L.o,z]⟩;obtain⟨b,o,rfl,v,d0⟩:=(Ha.o.f W).at' hq;obtain⟨b',o',rfl,ad,ac⟩:=(Hb.o.f W).at' p;have Hq:=Aa hq;have t:=Aa p;have p1:(0:Int)<=(i:Int):=oM;have p2:(i:Int)<(n:Int):=oM;clear hq p;by_cases d:x=y
   ·have aa:=Aa d;(have h3:(x != y)=false:=by simp[d]);clear d;go_wp2;go_quiet (fail);go_wp2;go_roundg (n-(i+1))
    case measure=>have:=f.o;omega
    case rel =>
     refine⟨i+1,by have:=f.o;omega,by go_num,by rw[f.o],eA,fun j R=>?_⟩;by_cases ab:j=i
     ·subst ab;rw[Hq.o,t.o,aa.o]
     ·exact g.o j oM
   ·(have h3:(x != y)=true:=by simpa using d);have e:r=false:=by
     rw[<-Hr.o,decide_eq_false_iff_not];intro h;have:=Hq.o;rw[h,t.o]at this;cases this;exact d rfl
    subst e;go_wp2;go_quiet (fail);go_wp2;go_ret;exact⟨rfl,eA⟩
  ·obtain rfl:n=i:=oM;have e:r=true:=by
    rw[<-Hr.o,decide_eq_true_eq];exact XR (by rw[f.o,L.o]) (fun j R=>g.o j (by rw[f.o]at R;exact R))
   subst e;go_wp2;go_ret;exact⟨rfl,W⟩
end
section
open Go.ChangeShapes Go.WideShapes Go.Deep
def Qm(P:Program)(t:TypeId):Array Field:=match P.underlying t with|some (.struct fs)=>fs|_=>#[]
section
variable {H:Type} {enc:TypeId×Value->H} {w:World} {spare:Nat->Bool} {held:Bool}
def tj{P:Program}{a:Array Field}{n i ti oi ki:Nat}{cs:List Value}{xs:List (DataW H×List MemPlace)}(d:xs.length=a.size)(b:∀(i:Nat)(f:Field),a[i]?=some f->DataW.trod enc P w 0 spare held n f.type ((cs.drop f.offset).take (P.cellsOf f.type))=xs[i]?)(hi:a[i]?.map (fun f=>(f.type,f.offset,P.cellsOf f.type))=some (ti,oi,ki)):∃y,DataW.trod enc P w 0 spare held n ti ((cs.drop oi).take ki)=some y:=by
 cases h:a[i]? with
 | none=>rw[h]at hi;cases hi
 | some f =>
  rw[h]at hi;simp only[Option.map_some,Option.some.injEq,Prod.mk.injEq]at hi;obtain⟨rfl,rfl,rfl⟩:=hi;have c:i<xs.length:=by rw[d];exact(Array.getElem?_eq_some_iff.1 h).1
  exact⟨xs[i],by rw[b i f h];simp[c]⟩
def mm:Tryz.prog.underlying 3=some (.int .i64):=kM
def GB:Tryz.prog.underlying 5=some (.int .u8):=kM
def QK:Tryz.prog.underlying 9=some .string:=kM
def lH:Tryz.prog.underlying 74=some (.struct (Qm Tryz.prog 74)):=kM
def kH:Tryz.prog.underlying 76=some (.struct (Qm Tryz.prog 76)):=kM
def mH:Tryz.prog.underlying 78=some (.struct (Qm Tryz.prog 78)):=kM
def FB:Tryz.prog.underlying 25=some (.struct (Qm Tryz.prog 25)):=kM
def YJ:Tryz.prog.underlying 22=some (.slice 74):=kM
def ZJ:Tryz.prog.underlying 23=some (.slice 78):=kM
def Gz{n:Nat}{cs:List Value}{y:DataW H×List MemPlace}(h:DataW.trod enc Tryz.prog w 0 spare held n 74 cs=some y):∃p:Int×Int,cs=[.int .i64 p.1,.int .i64 p.2]:=by
 obtain⟨o,m,_,_,f,g,e⟩:=DataW.trod_struct lH h;have l:Tryz.prog.cellsOf 74=2:=kM;rw[l]at f;obtain⟨q,j⟩:=tj g e (i:=0) (ti:=3) (oi:=0) (ki:=1) kM;obtain⟨r,k⟩:=tj g e (i:=1) (ti:=3) (oi:=1) (ki:=1) kM
 match cs,f with
 | [a,b],_ =>
  obtain⟨x,c,_⟩:=DataW.trod_int mm j;obtain⟨z,d,_⟩:=DataW.trod_int mm k;simp at c d;subst c d;exact⟨(x,z),rfl⟩
def Vw{α:Type}{Q:List Value->α->Prop}:∀{css:List (List Value)},(∀d∈css,∃a,Q d a)->∃l:List α,css.length=l.length/\∀(i:Nat) d a,css[i]?=some d->l[i]?=some a->Q d a
 | [],_=>⟨[],rfl,fun i d a h=>by simp at h⟩
 | c::css,h=>by
  obtain⟨a,j⟩:=h c sM;obtain⟨l,k,f⟩:=Vw (css:=css) (fun d e=>h d (mC _ e));refine⟨a::l,by simp[k],fun i d b e g=>?_⟩;cases i with
  | zero=>simp at e g;subst e g;exact j
  | succ i=>exact f i d b (by simpa using e) (by simpa using g)
def DG{n:Nat}{v:Value}{y:DataW H×List MemPlace}(h:DataW.trod enc Tryz.prog w 0 spare held n 22 [v]=some y):∃ps,Ab w v ps:=by
 obtain⟨a,m,c,T,g,e,l,j,r,i⟩:=qF YJ (k:=2) kM oM h;cases e;obtain⟨ps,b,q⟩:=Vw (α:=Int×Int) (Q:=PP w) (fun d h=>by
  obtain⟨f,y,s⟩:=i d h;obtain⟨p,o⟩:=Gz s;exact⟨p,o⟩)
 exact⟨ps,T,g,b,j,by rw[<-b,l];exact r,q⟩
def vT{n:Nat}{cs:List Value}{y:DataW H×List MemPlace}(h:DataW.trod enc Tryz.prog w 0 spare held n 78 cs=some y):∃p:Pl,qA w cs p:=by
 obtain⟨xs,m,_,_,v,f,e⟩:=DataW.trod_struct mH h;have hc:Tryz.prog.cellsOf 78=10:=kM;rw[hc]at v;obtain⟨y0,h0⟩:=tj f e (i:=0) (ti:=76) (oi:=0) (ki:=6) kM;obtain⟨y1,h1⟩:=tj f e (i:=1) (ti:=3) (oi:=6) (ki:=1) kM;obtain⟨y2,h2⟩:=tj f e (i:=2) (ti:=74) (oi:=7) (ki:=2) kM;obtain⟨y3,h3⟩:=tj f e (i:=3) (ti:=5) (oi:=9) (ki:=1) kM
 match cs,v with
 | [a0,a1,a2,a3,a4,a5,a6,a7,a8,a9],_ =>
  obtain⟨zs,k,_,_,_,d,c⟩:=DataW.trod_struct kH h0;obtain⟨z0,R⟩:=tj d c (i:=0) (ti:=9) (oi:=0) (ki:=1) kM;obtain⟨z1,W⟩:=tj d c (i:=1) (ti:=22) (oi:=1) (ki:=1) kM;obtain⟨z2,g2⟩:=tj d c (i:=2) (ti:=3) (oi:=2) (ki:=1) kM;obtain⟨z3,g3⟩:=tj d c (i:=3) (ti:=3) (oi:=3) (ki:=1) kM;obtain⟨z4,g4⟩:=tj d c (i:=4) (ti:=74) (oi:=4) (ki:=2) kM;obtain⟨nm,j,_⟩:=DataW.trod_string QK R;obtain⟨sh,g⟩:=DG W;obtain⟨K,l,_⟩:=DataW.trod_int mm g2;obtain⟨L,o,_⟩:=DataW.trod_int mm g3;obtain⟨u,q⟩:=Gz g4;obtain⟨wy,r,_⟩:=DataW.trod_int mm h1;obtain⟨b,s⟩:=Gz h2;obtain⟨x,t,_,a⟩:=DataW.trod_int GB h3;simp at j l o q r s t;obtain⟨rfl,rfl⟩:=q;obtain⟨rfl,rfl⟩:=s;subst j l o r t;refine⟨⟨nm,sh,K,L,u.1,u.2,wy,b.1,b.2,x⟩,_,rfl,g,?_⟩;have z:decide (IntKind.u8.min<=x)=true:=by unfold Lit.wf at a;simp only[Bool.and_eq_true]at a;exact a.1
  have w8:IntKind.u8.min=0:=dM;rw[w8]at z;exact of_decide_eq_true z
def tT{n:Nat}{v:Value}{y:DataW H×List MemPlace}(h:DataW.trod enc Tryz.prog w 0 spare held n 23 [v]=some y):∃ps,pf w v ps:=by
 obtain⟨a,m,c,T,g,e,l,j,p,i⟩:=qF ZJ (k:=10) kM oM h;cases e;obtain⟨ps,b,o⟩:=Vw (α:=Pl) (Q:=qA w) (fun d h=>by
  obtain⟨f,y,q⟩:=i d h;exact vT q)
 exact⟨ps,T,g,b,j,by rw[<-b,l];exact p,o⟩
def XS{r:Reach}{n:Nat}{v:Value}{d:DataW H}{p:List MemPlace}(hv:Value.okWide Tryz.prog w r n 25 v)(h:DataW.Trod enc Tryz.prog w 0 spare held 25 v d p):∃vg vp g ps,v = .agg #[vg,vp]/\Ab w vg g/\pf w vp ps:=by
 obtain⟨j,rfl,c⟩:=okWide_struct FB hv;have u:Tryz.prog.cellsOf 25=2:=kM;rw[u]at c;obtain⟨e,f,rfl⟩:∃a b,j=#[a,b]:=by
  match j,c with
  | ⟨[a,b]⟩,_=>exact⟨a,b,rfl⟩
 obtain⟨fuel,x⟩:=h;obtain⟨z,m,_,_,y,l,k⟩:=DataW.trod_struct FB x;obtain⟨K,o⟩:=tj l k (i:=0) (ti:=22) (oi:=0) (ki:=1) kM;obtain⟨L,q⟩:=tj l k (i:=1) (ti:=23) (oi:=1) (ki:=1) kM;obtain⟨g,s⟩:=DG (v:=e) o;obtain⟨ps,t⟩:=tT (v:=f) q;exact⟨e,f,g,ps,rfl,s,t⟩
