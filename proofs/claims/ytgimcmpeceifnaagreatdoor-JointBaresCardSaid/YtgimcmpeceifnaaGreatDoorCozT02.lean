import Derived.Test.YtgimcmpeceifnaaGreatDoorCozT01
set_option maxRecDepth 1000000
set_option maxHeartbeats 16000000
set_option linter.all false
open Go.Value renaming slice->O,int->Y,agg->M,tuple->C,pointer->F
open Go.IntKind renaming i64->Z,u8->H
open Option renaming none->X,some->J
open Go renaming World->V,Value->I
open Go.Obj renaming cells->N
namespace Go.Proofs.YtgimcmpeceifnaaGreatDoor.Cop
section
open Go.RowKit Go.Shelf Go.Sort Go.Lib
end
section
open Go.RowKit Go.Shelf
attribute [local go_sem] Oper.semAt_some
end
section
open Go.RowKit Go.Shelf Go.Sort Go.Lib
def AX(w:V)(b:Int)(o a:Obj):(((w.alloc o).alloc (N #[Y Z b] 3)).alloc a).heap[w.heap.size+1]?=J (N #[Y Z b] 3 (0,0)):=by rw[ig,if_neg sM];exact kc _ _ _ sM
end
section
open Go.RowKit Go.Shelf Go.Sort
end
section
open Go.RowKit Go.Shelf Go.Sort Go.Lib
def uW(lo hi:Int)(j:JS):Bool:=j.p.skin != 3 || !decide (max j.z.1 lo<min j.z.2 hi)
def jX(w:V)(z:Int):Calls Tryz.prog 49 #[Y Z z] w fun e a=>e=.returned (.bool (Uc z))/\Ba w a:=by
 unfold Uc;by_cases h:z < -100000
 ·go_in;go_wp2;go_ret;exact⟨by simp[h],eA⟩
 ·go_in;go_wp2;go_ret;exact⟨by simp;omega,eA⟩
def IX(w:V)(v:I)(zs:List Int)(h:Ae w v zs):Calls Tryz.prog 74 #[v,.func (.func 49) #[] #[]] w fun e w'=>e=.returned (Y Z (Lc Uc zs))/\Ba w w':=by
 obtain⟨a,c,rfl⟩:=h.form;obtain⟨n,t⟩:=gX zs.length;rw[t]at h ⊢;have k:=h.le;unfold maxLen at k;have aa:n<=9223372036854775807:=oM;have f:=Aa t;clear t k;go_in;go_wp2;go_loopg [8] n (UG w Uc zs)
 case atStart=>exact⟨0,by omega,rfl,by rw[f.o];rfl,eR _,fun j y p=>by omega⟩
 case round =>
  obtain⟨i,hi,rfl,rfl,hx,g⟩:=hrel;rw[f.o]at hi;have d:=Aa g;clear g;by_cases s:i<n
  ·obtain⟨z,u⟩:∃q,zs[i]?=J q:=⟨zs[i]'(by rw[f.o];omega),by simp[f.o,s]⟩;obtain⟨b,o,rfl,hb,d0⟩:=(h.f hx).at' u;have R:=Aa u;obtain⟨fz,W⟩:=gX (Uc z);have m:=Aa W;clear u W;cases fz with
   |true=>
    have e:Lc Uc zs=(i:Int):=Wo R.o m.o d.o;have E:=Aa e;clear e;go_wp2_with(((go_at_call 49;(with_reducible refine(jX _ z).mono ?_);rw[m.o];rintro e w1 ⟨rfl,x⟩)));go_ret;exact⟨by rw[E.o];rfl,eA⟩
   |false=>
    go_wp2_with(((go_at_call 49;(with_reducible refine(jX _ z).mono ?_);rw[m.o];rintro e w1 ⟨rfl,x⟩)));go_roundg (n-(i+1))
    case measure=>have:=f.o;omega
    case rel =>
     refine⟨i+1,by have:=f.o;omega,by go_num,by rw[f.o],eA,fun j y p l=>?_⟩;by_cases r:j=i
     ·subst r;rw[R.o]at l;cases l;exact m.o
     ·exact d.o j y oM l
  ·obtain rfl:i=n:=oM;have e:Lc Uc zs = -1:=So (fun j y p l=>d.o j y (by rw[f.o]at p;exact p) l);have E:=Aa e;clear e;go_wp2;go_ret;exact⟨by rw[E.o];rfl,hx⟩
def iX(w:V)(v:I)(zs:List Int)(h:Ae w v zs):Calls Tryz.prog 37 #[v,.func (.func 49) #[] #[]] w fun e j=>e=.returned (.bool (zs.any Uc))/\Ba w j:=by rw[<-Np];obtain⟨x,d⟩:=gX (Lc Uc zs);have b:=fun W (g:Ba w W)=>IX W v zs (h.f g);obtain⟨a,n,c,rfl⟩:=Ma h;simp only[d]at b ⊢;have f:=Aa b;clear b d h;go_in;go_wp2_with(((go_at_call 74;refine cM (f.o _ eA) ?_;rintro e k ⟨rfl,i⟩)));go_ret;exact⟨rfl,eA⟩
def VX(w:V)(j:JS×I)(lo hi:Int)(a b:Nat)(i:w.cell? ⟨a,0,X⟩=J (Y Z lo))(l:w.cell? ⟨b,0,X⟩=J (Y Z hi)):Calls Tryz.prog 52 #[M (qh j),F (J ⟨a,0,X⟩),F (J ⟨b,0,X⟩)] w fun e n=>e=.returned (.bool (uW lo hi j.1))/\Ba w n:=by
 obtain⟨⟨⟨x,y,d,s,t,u,R,q,r,g⟩,k,⟨W,xh⟩,p,o⟩,v⟩:=j;have z1:a<w.heap.size:=World.block_lt_of_cell? w _ i;have z2:b<w.heap.size:=World.block_lt_of_cell? w _ l;have z3:a<w.heap.size+1:=oM;have z4:b<w.heap.size+1:=oM;unfold uW qh;dsimp only;by_cases c:g=3
 ·have f:(g != 3)=false:=by simp[c]
  rw[f];clear c;go_in;go_wp2_with(go_at_call 53;(with_reducible refine(iz _ p o lo hi).mono ?_);rintro e z ⟨rfl,m⟩);go_ret;exact⟨by simp,eA⟩
 ·have f:(g != 3)=true:=by simpa using c
  rw[f];clear c;go_in;go_wp2;go_ret;exact⟨rfl,eA⟩
def lX{g:Nat}:∀{us:List I}{o:Nat}{w a:V},a.grownBy w (J g)->a.grownBy (Wj w g o us) (J g)
 | [],_,_,_,h=>h
 | u::us,o,w,a,h=>by unfold Wj;exact lX (us:=us) (uk h _ _)
def yX(w:V)(v:I)(js:List (JS×I))(b1 b2:Nat)(f:JS->Bool)(h:Fe w v js)(hf:∀W,Ba w W->∀j∈js,Calls Tryz.prog 52 #[M (qh j),F (J ⟨b1,0,X⟩),F (J ⟨b2,0,X⟩)] W fun e w'=>e=.returned (.bool (f j.1))/\Ba W w'):Calls Tryz.prog 88 #[v,.func (.func 52) #[] #[F (J ⟨b1,0,X⟩),F (J ⟨b2,0,X⟩)]] w fun e w'=>e=.returned (Y Z (Lc (fun j=>f j.1) js))/\Ba w w':=by
 obtain⟨a,c,rfl⟩:=h.form;obtain⟨n,hn⟩:=gX js.length;rw[hn]at h ⊢;have s:=h.le;unfold maxLen at s;have ar:n<=9223372036854775807:=oM;have m:=Aa hn;have Hf:=Aa hf;clear hn s hf;go_in;go_wp2;go_loopg [8] n (TG w f js)
 case atStart=>exact⟨0,by omega,rfl,by rw[m.o];rfl,eR _,fun j y u=>by omega⟩
 case round =>
  obtain⟨i,hi,rfl,rfl,hx,p⟩:=hrel;rw[m.o]at hi;have l:=Aa p;clear p;by_cases ab:i<n
  ·obtain⟨⟨⟨⟨nm,sh,d,de,gx,gz,wy,ax,az,sk⟩,k,⟨xl,xh⟩,zl,zh⟩,v⟩,x⟩:∃q,js[i]?=J q:=⟨js[i]'(by rw[m.o];omega),by simp[m.o,ab]⟩;obtain⟨b,o,rfl,hb,g⟩:=(h.f hx).at' x;have r:=Aa (fun W (hW:Ba wr W)=>Hf.o W (hx.trans hW) _ (lM x));obtain⟨fp,R⟩:=gX (f ⟨⟨nm,sh,d,de,gx,gz,wy,ax,az,sk⟩,k,⟨xl,xh⟩,zl,zh⟩);rw[R]at r;have F7:=Aa R;unfold qh at g r;dsimp only at g r;have z:=g 0 (.string nm) rfl;have ai:=g 1 v rfl;have aj:=g 2 (Y Z d) rfl;have ak:=g 3 (Y Z de) rfl;have al:=g 4 (Y Z gx) rfl;have am:=g 5 (Y Z gz) rfl;have an:=g 6 (Y Z wy) rfl;have ao:=g 7 (Y Z ax) rfl;have ap:=g 8 (Y Z az) rfl;have aq:=g 9 (Y H sk) rfl;have ad:=g 10 (Y Z k) rfl;have ae:=g 11 (Y Z xl) rfl;have af:=g 12 (Y Z xh) rfl;have ag:=g 13 (Y Z zl) rfl;have ah:=g 14 (Y Z zh) rfl;simp only[Nat.add_zero]at z;have Hq:=Aa x;clear x g R;cases fp with
   |true=>
    have e:Lc (fun j:JS×I=>f j.1) js=(i:Int):=Wo Hq.o F7.o l.o;have E:=Aa e;clear e;go_wp2_with(((go_at_call 52;refine cM (r.o _ eA) ?_;rintro e w1 ⟨rfl,ac⟩)));go_ret;exact⟨by rw[E.o];rfl,eA⟩
   |false=>
    go_wp2_with(((go_at_call 52;refine cM (r.o _ eA) ?_;rintro e w1 ⟨rfl,ac⟩)));go_roundg (n-(i+1))
    case measure=>have:=m.o;omega
    case rel =>
     refine⟨i+1,by have:=m.o;omega,by go_num,by rw[m.o],eA,fun j y u t=>?_⟩;by_cases aa:j=i
     ·subst aa;rw[Hq.o]at t;cases t;exact F7.o
     ·exact l.o j y oM t
  ·obtain rfl:i=n:=oM;have e:Lc (fun j:JS×I=>f j.1) js = -1:=So (fun j y u t=>l.o j y (by rw[m.o]at u;exact u) t);have E:=Aa e;clear e;go_wp2;go_ret;exact⟨by rw[E.o];rfl,hx⟩
